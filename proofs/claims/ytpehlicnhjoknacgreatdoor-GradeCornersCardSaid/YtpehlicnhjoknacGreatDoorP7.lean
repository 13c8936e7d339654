/- The layer of own lemmas and contracts, part 7. -/
import Derived.Test.YtpehlicnhjoknacGreatDoorP6
import Derived.Test.YtpehlicnhjoknacGreatDoorP3
set_option linter.unusedVariables false
set_option linter.unusedSimpArgs false
namespace Go.Ide
open Go.Proofs Go.RowKit
set_option maxRecDepth 20000
def d3N (f:Nat)(ds:List D):Option D:=match Nat.beq f 172 with
 | true=>none
 | false=>match Nat.beq f 89 with
  | true=>none
  | false=>c8H f ds
theorem c0q (f:Nat)(ds:List D)(d:D)(h:d3N f ds=some d):a0b C0 f ds d/\ArePure ds:=by
 unfold d3N at h;split at h<;>try(cases h;done)
 rename_i h27;split at h<;>try(cases h;done)
 rename_i h64;unfold c8H at h;split at h
 ·rename_i hf
  obtain rfl:=d9v hf;split at h<;>try(cases h;done)
  cases h;exact ⟨b0n,d9k⟩
 split at h
 ·rename_i hf
  obtain rfl:=d9v hf;split at h<;>try(cases h;done)
  cases h;exact ⟨b1z,d9k⟩
 split at h
 ·rename_i hf
  rw [hf] at h27;cases h27
 split at h
 ·rename_i hf
  obtain rfl:=d9v hf;split at h<;>try(cases h;done)
  cases h;exact ⟨a6t _,d9k⟩
 split at h
 ·rename_i hf
  obtain rfl:=d9v hf;split at h<;>try(cases h;done)
  split at h<;>try(cases h;done)
  rename_i z x hz;have hz:=d9A hz;cases h;refine ⟨?_,d9k⟩
  have:=b4B (z:Int) (by omega) (by omega)
  have e:Lib.itoa (z:Int)=dig 19 z:=by
   rcases b8B 19 z (e0f hz (by decide)) with h1|h1
   ·rw [h1];rfl
   ·cases h1
  rw [e] at this;exact this
 split at h
 ·rename_i hf
  obtain rfl:=d9v hf;split at h<;>try(cases h;done)
  split at h<;>try(cases h;done)
  split at h<;>try(cases h;done)
  rename_i s b hs o n hn;cases h;exact ⟨b3Z _ n (d9A hs) hn,d9k⟩
 split at h
 ·rename_i hf
  rw [hf] at h64;cases h64
 ·cases h
noncomputable def X6:EV:=⟨tt2,xbt.get,fbt.get,fun _=>false,c8I d3N,mtA,b7R⟩
theorem a3l:a9R C0 X6:=⟨d3r,b4V,ftab,b4G c0q,by kernel_rfl,b3i,a5V⟩
theorem tr0:a0b C0 75 [.prim (.string ⟨#[49,47,53]⟩)] (smF 1 5):=d9b a3l 1000 40 (by kernel_rfl)
theorem tc0:a0b C0 82 [.prim (.string ⟨#[49,47,53]⟩)] (i64 0):=d9b a3l 1000 40 (by kernel_rfl)
theorem tr1:a0b C0 75 [.prim (.string ⟨#[49,47,49,48]⟩)] (smF 1 10):=d9b a3l 1000 40 (by kernel_rfl)
theorem tc1:a0b C0 82 [.prim (.string ⟨#[49,47,49,48]⟩)] (i64 0):=d9b a3l 1000 40 (by kernel_rfl)
theorem tr2:a0b C0 75 [.prim (.string ⟨#[49,47,50]⟩)] (smF 1 2):=d9b a3l 1000 40 (by kernel_rfl)
theorem tc2:a0b C0 82 [.prim (.string ⟨#[49,47,50]⟩)] (i64 0):=d9b a3l 1000 40 (by kernel_rfl)
theorem tr3:a0b C0 75 [.prim (.string ⟨#[55,56]⟩)] (smF 78 1):=d9b a3l 1000 40 (by kernel_rfl)
theorem tc3:a0b C0 82 [.prim (.string ⟨#[55,56]⟩)] (i64 0):=d9b a3l 1000 40 (by kernel_rfl)
theorem tr4:a0b C0 75 [.prim (.string ⟨#[49,51]⟩)] (smF 13 1):=d9b a3l 1000 40 (by kernel_rfl)
theorem tc4:a0b C0 82 [.prim (.string ⟨#[49,51]⟩)] (i64 0):=d9b a3l 1000 40 (by kernel_rfl)
theorem tr5:a0b C0 75 [.prim (.string ⟨#[55,53]⟩)] (smF 75 1):=d9b a3l 1000 40 (by kernel_rfl)
theorem tc5:a0b C0 82 [.prim (.string ⟨#[55,53]⟩)] (i64 0):=d9b a3l 1000 40 (by kernel_rfl)
theorem tr6:a0b C0 75 [.prim (.string ⟨#[49,52]⟩)] (smF 14 1):=d9b a3l 1000 40 (by kernel_rfl)
theorem tc6:a0b C0 82 [.prim (.string ⟨#[49,52]⟩)] (i64 0):=d9b a3l 1000 40 (by kernel_rfl)
theorem tr7:a0b C0 75 [.prim (.string ⟨#[49,54]⟩)] (smF 16 1):=d9b a3l 1000 40 (by kernel_rfl)
theorem tc7:a0b C0 82 [.prim (.string ⟨#[49,54]⟩)] (i64 0):=d9b a3l 1000 40 (by kernel_rfl)
theorem tr8:a0b C0 75 [.prim (.string ⟨#[54,55,47,53]⟩)] (smF 67 5):=d9b a3l 1000 40 (by kernel_rfl)
theorem tc8:a0b C0 82 [.prim (.string ⟨#[54,55,47,53]⟩)] (i64 0):=d9b a3l 1000 40 (by kernel_rfl)
theorem tr9:a0b C0 75 [.prim (.string ⟨#[55,57]⟩)] (smF 79 1):=d9b a3l 1000 40 (by kernel_rfl)
theorem tc9:a0b C0 82 [.prim (.string ⟨#[55,57]⟩)] (i64 0):=d9b a3l 1000 40 (by kernel_rfl)
theorem d7T:a0b C0 75 [.prim (.string ⟨#[51]⟩)] (smF 3 1):=d9b a3l 1000 40 (by kernel_rfl)
theorem d7D:a0b C0 82 [.prim (.string ⟨#[51]⟩)] (i64 0):=d9b a3l 1000 40 (by kernel_rfl)
theorem d7U:a0b C0 75 [.prim (.string ⟨#[49,53]⟩)] (smF 15 1):=d9b a3l 1000 40 (by kernel_rfl)
theorem d7E:a0b C0 82 [.prim (.string ⟨#[49,53]⟩)] (i64 0):=d9b a3l 1000 40 (by kernel_rfl)
theorem d7V:a0b C0 75 [.prim (.string ⟨#[49,55]⟩)] (smF 17 1):=d9b a3l 1000 40 (by kernel_rfl)
theorem d7F:a0b C0 82 [.prim (.string ⟨#[49,55]⟩)] (i64 0):=d9b a3l 1000 40 (by kernel_rfl)
theorem d7W:a0b C0 75 [.prim (.string ⟨#[55,55]⟩)] (smF 77 1):=d9b a3l 1000 40 (by kernel_rfl)
theorem d7G:a0b C0 82 [.prim (.string ⟨#[55,55]⟩)] (i64 0):=d9b a3l 1000 40 (by kernel_rfl)
theorem d7X:a0b C0 75 [.prim (.string ⟨#[56,48]⟩)] (smF 80 1):=d9b a3l 1000 40 (by kernel_rfl)
theorem d7H:a0b C0 82 [.prim (.string ⟨#[56,48]⟩)] (i64 0):=d9b a3l 1000 40 (by kernel_rfl)
theorem d7Y:a0b C0 75 [.prim (.string ⟨#[49,51,52,52,57,47,49,48,48,48]⟩)] (smF 13449 1000):=d9b a3l 1000 40 (by kernel_rfl)
theorem d7I:a0b C0 82 [.prim (.string ⟨#[49,51,52,52,57,47,49,48,48,48]⟩)] (i64 0):=d9b a3l 1000 40 (by kernel_rfl)
theorem d7Z:a0b C0 75 [.prim (.string ⟨#[54,57,47,53]⟩)] (smF 69 5):=d9b a3l 1000 40 (by kernel_rfl)
theorem d7J:a0b C0 82 [.prim (.string ⟨#[54,57,47,53]⟩)] (i64 0):=d9b a3l 1000 40 (by kernel_rfl)
theorem d8a:a0b C0 75 [.prim (.string ⟨#[54,56,47,53]⟩)] (smF 68 5):=d9b a3l 1000 40 (by kernel_rfl)
theorem d7K:a0b C0 82 [.prim (.string ⟨#[54,56,47,53]⟩)] (i64 0):=d9b a3l 1000 40 (by kernel_rfl)
theorem d8b:a0b C0 75 [.prim (.string ⟨#[49,50]⟩)] (smF 12 1):=d9b a3l 1000 40 (by kernel_rfl)
theorem d7L:a0b C0 82 [.prim (.string ⟨#[49,50]⟩)] (i64 0):=d9b a3l 1000 40 (by kernel_rfl)
theorem d8c:a0b C0 75 [.prim (.string ⟨#[49,48,48]⟩)] (smF 100 1):=d9b a3l 1000 40 (by kernel_rfl)
theorem d7M:a0b C0 82 [.prim (.string ⟨#[49,48,48]⟩)] (i64 0):=d9b a3l 1000 40 (by kernel_rfl)
theorem d8d:a0b C0 75 [.prim (.string ⟨#[53,48]⟩)] (smF 50 1):=d9b a3l 1000 40 (by kernel_rfl)
theorem d7N:a0b C0 82 [.prim (.string ⟨#[53,48]⟩)] (i64 0):=d9b a3l 1000 40 (by kernel_rfl)
theorem d8e:a0b C0 75 [.prim (.string ⟨#[49,53,48]⟩)] (smF 150 1):=d9b a3l 1000 40 (by kernel_rfl)
theorem d7O:a0b C0 82 [.prim (.string ⟨#[49,53,48]⟩)] (i64 0):=d9b a3l 1000 40 (by kernel_rfl)
theorem d8f:a0b C0 75 [.prim (.string ⟨#[50,48,48]⟩)] (smF 200 1):=d9b a3l 1000 40 (by kernel_rfl)
theorem d7P:a0b C0 82 [.prim (.string ⟨#[50,48,48]⟩)] (i64 0):=d9b a3l 1000 40 (by kernel_rfl)
theorem d8g:a0b C0 75 [.prim (.string ⟨#[51,48,48]⟩)] (smF 300 1):=d9b a3l 1000 40 (by kernel_rfl)
theorem d7Q:a0b C0 82 [.prim (.string ⟨#[51,48,48]⟩)] (i64 0):=d9b a3l 1000 40 (by kernel_rfl)
def b4p:List (Nat × List D × D)->Nat->List D->Option D
 | [],_,_=>none
 | (g,a,d)::r,f,ds=>match Nat.beq f g&&eqL (eqD 30) ds a with
  | true=>some d
  | false=>b4p r f ds
theorem a7Y:∀ (t:List (Nat × List D × D)),(∀ e∈t,a0b C0 e.1 e.2.1 e.2.2/\ArePure e.2.1)->∀ (f:Nat) (ds:List D) (d:D),b4p t f ds=some d->a0b C0 f ds d/\ArePure ds
 | [],_,f,ds,d,h=>by simp [b4p] at h
 | (g,a,d0)::r,ht,f,ds,d,h=>by
  unfold b4p at h;split at h
  ·rename_i hb
   simp only [d9B] at hb;obtain rfl:=d9v hb.1;obtain rfl:=b2C (b2B _) hb.2;cases h;exact ht _ e0T
  ·exact a7Y r (fun e he=>ht e (e0t _ he)) f ds d h
def d5S:List (Nat × List D × D):=[(75,[.prim (.string ⟨#[49,47,53]⟩)],smF 1 5),(75,[.prim (.string ⟨#[49,47,49,48]⟩)],smF 1 10),(75,[.prim (.string ⟨#[49,47,50]⟩)],smF 1 2),(75,[.prim (.string ⟨#[55,56]⟩)],smF 78 1),(75,[.prim (.string ⟨#[49,51]⟩)],smF 13 1),(75,[.prim (.string ⟨#[55,53]⟩)],smF 75 1),(75,[.prim (.string ⟨#[49,52]⟩)],smF 14 1),(75,[.prim (.string ⟨#[49,54]⟩)],smF 16 1),(75,[.prim (.string ⟨#[54,55,47,53]⟩)],smF 67 5),(75,[.prim (.string ⟨#[55,57]⟩)],smF 79 1),(75,[.prim (.string ⟨#[51]⟩)],smF 3 1),(75,[.prim (.string ⟨#[49,53]⟩)],smF 15 1),(75,[.prim (.string ⟨#[49,55]⟩)],smF 17 1),(75,[.prim (.string ⟨#[55,55]⟩)],smF 77 1),(75,[.prim (.string ⟨#[56,48]⟩)],smF 80 1),(75,[.prim (.string ⟨#[49,51,52,52,57,47,49,48,48,48]⟩)],smF 13449 1000),(75,[.prim (.string ⟨#[54,57,47,53]⟩)],smF 69 5),(75,[.prim (.string ⟨#[54,56,47,53]⟩)],smF 68 5),(75,[.prim (.string ⟨#[49,50]⟩)],smF 12 1),(75,[.prim (.string ⟨#[49,48,48]⟩)],smF 100 1),(75,[.prim (.string ⟨#[53,48]⟩)],smF 50 1),(75,[.prim (.string ⟨#[49,53,48]⟩)],smF 150 1),(75,[.prim (.string ⟨#[50,48,48]⟩)],smF 200 1),(75,[.prim (.string ⟨#[51,48,48]⟩)],smF 300 1)]
def d5R:List (Nat × List D × D):=[(82,[.prim (.string ⟨#[49,47,53]⟩)],i64 0),(82,[.prim (.string ⟨#[49,47,49,48]⟩)],i64 0),(82,[.prim (.string ⟨#[49,47,50]⟩)],i64 0),(82,[.prim (.string ⟨#[55,56]⟩)],i64 0),(82,[.prim (.string ⟨#[49,51]⟩)],i64 0),(82,[.prim (.string ⟨#[55,53]⟩)],i64 0),(82,[.prim (.string ⟨#[49,52]⟩)],i64 0),(82,[.prim (.string ⟨#[49,54]⟩)],i64 0),(82,[.prim (.string ⟨#[54,55,47,53]⟩)],i64 0),(82,[.prim (.string ⟨#[55,57]⟩)],i64 0),(82,[.prim (.string ⟨#[51]⟩)],i64 0),(82,[.prim (.string ⟨#[49,53]⟩)],i64 0),(82,[.prim (.string ⟨#[49,55]⟩)],i64 0),(82,[.prim (.string ⟨#[55,55]⟩)],i64 0),(82,[.prim (.string ⟨#[56,48]⟩)],i64 0),(82,[.prim (.string ⟨#[49,51,52,52,57,47,49,48,48,48]⟩)],i64 0),(82,[.prim (.string ⟨#[54,57,47,53]⟩)],i64 0),(82,[.prim (.string ⟨#[54,56,47,53]⟩)],i64 0),(82,[.prim (.string ⟨#[49,50]⟩)],i64 0),(82,[.prim (.string ⟨#[49,48,48]⟩)],i64 0),(82,[.prim (.string ⟨#[53,48]⟩)],i64 0),(82,[.prim (.string ⟨#[49,53,48]⟩)],i64 0),(82,[.prim (.string ⟨#[50,48,48]⟩)],i64 0),(82,[.prim (.string ⟨#[51,48,48]⟩)],i64 0)]
theorem c8g:∀ e∈d5S,a0b C0 e.1 e.2.1 e.2.2/\ArePure e.2.1:=by
 intro e he;simp only [d5S,d9F,e0j,or_false] at he;rcases he with rfl|rfl|rfl|rfl|rfl|rfl|rfl|rfl|rfl|rfl|rfl|rfl|rfl|rfl|rfl|rfl|rfl|rfl|rfl|rfl|rfl|rfl|rfl|rfl
 ·exact ⟨tr0,d9k⟩
 ·exact ⟨tr1,d9k⟩
 ·exact ⟨tr2,d9k⟩
 ·exact ⟨tr3,d9k⟩
 ·exact ⟨tr4,d9k⟩
 ·exact ⟨tr5,d9k⟩
 ·exact ⟨tr6,d9k⟩
 ·exact ⟨tr7,d9k⟩
 ·exact ⟨tr8,d9k⟩
 ·exact ⟨tr9,d9k⟩
 ·exact ⟨d7T,d9k⟩
 ·exact ⟨d7U,d9k⟩
 ·exact ⟨d7V,d9k⟩
 ·exact ⟨d7W,d9k⟩
 ·exact ⟨d7X,d9k⟩
 ·exact ⟨d7Y,d9k⟩
 ·exact ⟨d7Z,d9k⟩
 ·exact ⟨d8a,d9k⟩
 ·exact ⟨d8b,d9k⟩
 ·exact ⟨d8c,d9k⟩
 ·exact ⟨d8d,d9k⟩
 ·exact ⟨d8e,d9k⟩
 ·exact ⟨d8f,d9k⟩
 ·exact ⟨d8g,d9k⟩
theorem c8e:∀ e∈d5R,a0b C0 e.1 e.2.1 e.2.2/\ArePure e.2.1:=by
 intro e he;simp only [d5R,d9F,e0j,or_false] at he;rcases he with rfl|rfl|rfl|rfl|rfl|rfl|rfl|rfl|rfl|rfl|rfl|rfl|rfl|rfl|rfl|rfl|rfl|rfl|rfl|rfl|rfl|rfl|rfl|rfl
 ·exact ⟨tc0,d9k⟩
 ·exact ⟨tc1,d9k⟩
 ·exact ⟨tc2,d9k⟩
 ·exact ⟨tc3,d9k⟩
 ·exact ⟨tc4,d9k⟩
 ·exact ⟨tc5,d9k⟩
 ·exact ⟨tc6,d9k⟩
 ·exact ⟨tc7,d9k⟩
 ·exact ⟨tc8,d9k⟩
 ·exact ⟨tc9,d9k⟩
 ·exact ⟨d7D,d9k⟩
 ·exact ⟨d7E,d9k⟩
 ·exact ⟨d7F,d9k⟩
 ·exact ⟨d7G,d9k⟩
 ·exact ⟨d7H,d9k⟩
 ·exact ⟨d7I,d9k⟩
 ·exact ⟨d7J,d9k⟩
 ·exact ⟨d7K,d9k⟩
 ·exact ⟨d7L,d9k⟩
 ·exact ⟨d7M,d9k⟩
 ·exact ⟨d7N,d9k⟩
 ·exact ⟨d7O,d9k⟩
 ·exact ⟨d7P,d9k⟩
 ·exact ⟨d7Q,d9k⟩
def d3O (o:Nat->List D->Option D)(f:Nat)(ds:List D):Option D:=match Nat.beq f 75 with
 | true=>b4p d5S f ds
 | false=>match Nat.beq f 82 with
  | true=>b4p d5R f ds
  | false=>o f ds
theorem c0r {o:Nat->List D->Option D}(ho:∀ f ds d,o f ds=some d->a0b C0 f ds d/\ArePure ds)(f:Nat)(ds:List D)(d:D)(h:d3O o f ds=some d):a0b C0 f ds d/\ArePure ds:=by
 unfold d3O at h;split at h
 ·exact a7Y _ c8g _ _ _ h
 split at h
 ·exact a7Y _ c8e _ _ _ h
 ·exact ho _ _ _ h
noncomputable def X4t:EV:=⟨tt2,xbt.get,fbt.get,fun _=>false,c8I (d3O d3N),mtA,b7R⟩
theorem b3T:a9R C0 X4t:=⟨d3r,b4V,ftab,b4G (c0r c0q),by kernel_rfl,b3i,a5V⟩
noncomputable def X2t:EV:=⟨tt2,xbt.get,fbt.get,fun _=>false,c8I (d3O c8H),mtA,b7R⟩
theorem b1f (K:Kn):a9R C0 X2t:=⟨d3r,b4V,ftab,b4G (c0r (c7x K)),by kernel_rfl,b3i,a5V⟩
end Go.Ide
