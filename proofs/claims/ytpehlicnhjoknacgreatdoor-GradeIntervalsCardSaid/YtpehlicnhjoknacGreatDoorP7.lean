/- The layer of own lemmas and contracts, part 7. -/
import Derived.Test.YtpehlicnhjoknacGreatDoorP6
import Derived.Test.YtpehlicnhjoknacGreatDoorP3
set_option linter.unusedVariables false
set_option linter.unusedSimpArgs false
namespace Go.Ide
open Go.Proofs Go.RowKit
set_option maxRecDepth 20000
def d4o (f:Nat)(ds:List D):Option D:=match Nat.beq f 172 with
 | true=>none
 | false=>match Nat.beq f 89 with
  | true=>none
  | false=>c8L f ds
theorem b9k (f:Nat)(ds:List D)(d:D)(h:d4o f ds=some d):a0b C0 f ds d/\ArePure ds:=by
 unfold d4o at h;split at h<;>try(cases h;done)
 rename_i h27;split at h<;>try(cases h;done)
 rename_i h64;unfold c8L at h;split at h
 ·rename_i hf
  obtain rfl:=e0d hf;split at h<;>try(cases h;done)
  cases h;exact ⟨b0C,d9O⟩
 split at h
 ·rename_i hf
  obtain rfl:=e0d hf;split at h<;>try(cases h;done)
  cases h;exact ⟨b2i,d9O⟩
 split at h
 ·rename_i hf
  rw [hf] at h27;cases h27
 split at h
 ·rename_i hf
  obtain rfl:=e0d hf;split at h<;>try(cases h;done)
  cases h;exact ⟨a6n _,d9O⟩
 split at h
 ·rename_i hf
  obtain rfl:=e0d hf;split at h<;>try(cases h;done)
  split at h<;>try(cases h;done)
  rename_i z x hz;have hz:=e0b hz;cases h;refine ⟨?_,d9O⟩
  have:=b5k (z:Int) (by omega) (by omega)
  have e:Lib.itoa (z:Int)=dig 19 z:=by
   rcases b8r 19 z (e0I hz (by decide)) with h1|h1
   ·rw [h1];rfl
   ·cases h1
  rw [e] at this;exact this
 split at h
 ·rename_i hf
  obtain rfl:=e0d hf;split at h<;>try(cases h;done)
  split at h<;>try(cases h;done)
  split at h<;>try(cases h;done)
  rename_i s b hs o n hn;cases h;exact ⟨b5m _ n (e0b hs) hn,d9O⟩
 split at h
 ·rename_i hf
  rw [hf] at h64;cases h64
 ·cases h
noncomputable def X6:EV:=⟨tt2,xbt.get,fbt.get,fun _=>false,c8P d4o,mtA,b7X⟩
theorem a3f:b0i C0 X6:=⟨d2o,b4L,ftab,b4x b9k,by kernel_rfl,b3p,a6e⟩
theorem tr0:a0b C0 75 [.prim (.string ⟨#[49,47,53]⟩)] (smF 1 5):=d9H a3f 1000 40 (by kernel_rfl)
theorem tc0:a0b C0 82 [.prim (.string ⟨#[49,47,53]⟩)] (i64 0):=d9H a3f 1000 40 (by kernel_rfl)
theorem tr1:a0b C0 75 [.prim (.string ⟨#[49,47,49,48]⟩)] (smF 1 10):=d9H a3f 1000 40 (by kernel_rfl)
theorem tc1:a0b C0 82 [.prim (.string ⟨#[49,47,49,48]⟩)] (i64 0):=d9H a3f 1000 40 (by kernel_rfl)
theorem tr2:a0b C0 75 [.prim (.string ⟨#[49,47,50]⟩)] (smF 1 2):=d9H a3f 1000 40 (by kernel_rfl)
theorem tc2:a0b C0 82 [.prim (.string ⟨#[49,47,50]⟩)] (i64 0):=d9H a3f 1000 40 (by kernel_rfl)
theorem tr3:a0b C0 75 [.prim (.string ⟨#[55,56]⟩)] (smF 78 1):=d9H a3f 1000 40 (by kernel_rfl)
theorem tc3:a0b C0 82 [.prim (.string ⟨#[55,56]⟩)] (i64 0):=d9H a3f 1000 40 (by kernel_rfl)
theorem tr4:a0b C0 75 [.prim (.string ⟨#[49,51]⟩)] (smF 13 1):=d9H a3f 1000 40 (by kernel_rfl)
theorem tc4:a0b C0 82 [.prim (.string ⟨#[49,51]⟩)] (i64 0):=d9H a3f 1000 40 (by kernel_rfl)
theorem tr5:a0b C0 75 [.prim (.string ⟨#[55,53]⟩)] (smF 75 1):=d9H a3f 1000 40 (by kernel_rfl)
theorem tc5:a0b C0 82 [.prim (.string ⟨#[55,53]⟩)] (i64 0):=d9H a3f 1000 40 (by kernel_rfl)
theorem tr6:a0b C0 75 [.prim (.string ⟨#[49,52]⟩)] (smF 14 1):=d9H a3f 1000 40 (by kernel_rfl)
theorem tc6:a0b C0 82 [.prim (.string ⟨#[49,52]⟩)] (i64 0):=d9H a3f 1000 40 (by kernel_rfl)
theorem tr7:a0b C0 75 [.prim (.string ⟨#[49,54]⟩)] (smF 16 1):=d9H a3f 1000 40 (by kernel_rfl)
theorem tc7:a0b C0 82 [.prim (.string ⟨#[49,54]⟩)] (i64 0):=d9H a3f 1000 40 (by kernel_rfl)
theorem tr8:a0b C0 75 [.prim (.string ⟨#[54,55,47,53]⟩)] (smF 67 5):=d9H a3f 1000 40 (by kernel_rfl)
theorem tc8:a0b C0 82 [.prim (.string ⟨#[54,55,47,53]⟩)] (i64 0):=d9H a3f 1000 40 (by kernel_rfl)
theorem tr9:a0b C0 75 [.prim (.string ⟨#[55,57]⟩)] (smF 79 1):=d9H a3f 1000 40 (by kernel_rfl)
theorem tc9:a0b C0 82 [.prim (.string ⟨#[55,57]⟩)] (i64 0):=d9H a3f 1000 40 (by kernel_rfl)
theorem d7v:a0b C0 75 [.prim (.string ⟨#[51]⟩)] (smF 3 1):=d9H a3f 1000 40 (by kernel_rfl)
theorem d7j:a0b C0 82 [.prim (.string ⟨#[51]⟩)] (i64 0):=d9H a3f 1000 40 (by kernel_rfl)
theorem d7z:a0b C0 75 [.prim (.string ⟨#[49,53]⟩)] (smF 15 1):=d9H a3f 1000 40 (by kernel_rfl)
theorem d8J:a0b C0 82 [.prim (.string ⟨#[49,53]⟩)] (i64 0):=d9H a3f 1000 40 (by kernel_rfl)
theorem d7i:a0b C0 75 [.prim (.string ⟨#[49,55]⟩)] (smF 17 1):=d9H a3f 1000 40 (by kernel_rfl)
theorem d7L:a0b C0 82 [.prim (.string ⟨#[49,55]⟩)] (i64 0):=d9H a3f 1000 40 (by kernel_rfl)
theorem d7T:a0b C0 75 [.prim (.string ⟨#[55,55]⟩)] (smF 77 1):=d9H a3f 1000 40 (by kernel_rfl)
theorem d7Z:a0b C0 82 [.prim (.string ⟨#[55,55]⟩)] (i64 0):=d9H a3f 1000 40 (by kernel_rfl)
theorem d8a:a0b C0 75 [.prim (.string ⟨#[56,48]⟩)] (smF 80 1):=d9H a3f 1000 40 (by kernel_rfl)
theorem d7Q:a0b C0 82 [.prim (.string ⟨#[56,48]⟩)] (i64 0):=d9H a3f 1000 40 (by kernel_rfl)
theorem d7s:a0b C0 75 [.prim (.string ⟨#[49,51,52,52,57,47,49,48,48,48]⟩)] (smF 13449 1000):=d9H a3f 1000 40 (by kernel_rfl)
theorem d8D:a0b C0 82 [.prim (.string ⟨#[49,51,52,52,57,47,49,48,48,48]⟩)] (i64 0):=d9H a3f 1000 40 (by kernel_rfl)
theorem d7B:a0b C0 75 [.prim (.string ⟨#[54,57,47,53]⟩)] (smF 69 5):=d9H a3f 1000 40 (by kernel_rfl)
theorem d8c:a0b C0 82 [.prim (.string ⟨#[54,57,47,53]⟩)] (i64 0):=d9H a3f 1000 40 (by kernel_rfl)
theorem d7k:a0b C0 75 [.prim (.string ⟨#[54,56,47,53]⟩)] (smF 68 5):=d9H a3f 1000 40 (by kernel_rfl)
theorem d8o:a0b C0 82 [.prim (.string ⟨#[54,56,47,53]⟩)] (i64 0):=d9H a3f 1000 40 (by kernel_rfl)
theorem d8s:a0b C0 75 [.prim (.string ⟨#[49,50]⟩)] (smF 12 1):=d9H a3f 1000 40 (by kernel_rfl)
theorem d7n:a0b C0 82 [.prim (.string ⟨#[49,50]⟩)] (i64 0):=d9H a3f 1000 40 (by kernel_rfl)
theorem d7C:a0b C0 75 [.prim (.string ⟨#[49,48,48]⟩)] (smF 100 1):=d9H a3f 1000 40 (by kernel_rfl)
theorem d7O:a0b C0 82 [.prim (.string ⟨#[49,48,48]⟩)] (i64 0):=d9H a3f 1000 40 (by kernel_rfl)
theorem d8z:a0b C0 75 [.prim (.string ⟨#[53,48]⟩)] (smF 50 1):=d9H a3f 1000 40 (by kernel_rfl)
theorem d7K:a0b C0 82 [.prim (.string ⟨#[53,48]⟩)] (i64 0):=d9H a3f 1000 40 (by kernel_rfl)
theorem d8C:a0b C0 75 [.prim (.string ⟨#[49,53,48]⟩)] (smF 150 1):=d9H a3f 1000 40 (by kernel_rfl)
theorem d8F:a0b C0 82 [.prim (.string ⟨#[49,53,48]⟩)] (i64 0):=d9H a3f 1000 40 (by kernel_rfl)
theorem d8G:a0b C0 75 [.prim (.string ⟨#[50,48,48]⟩)] (smF 200 1):=d9H a3f 1000 40 (by kernel_rfl)
theorem d8I:a0b C0 82 [.prim (.string ⟨#[50,48,48]⟩)] (i64 0):=d9H a3f 1000 40 (by kernel_rfl)
theorem d7W:a0b C0 75 [.prim (.string ⟨#[51,48,48]⟩)] (smF 300 1):=d9H a3f 1000 40 (by kernel_rfl)
theorem d7g:a0b C0 82 [.prim (.string ⟨#[51,48,48]⟩)] (i64 0):=d9H a3f 1000 40 (by kernel_rfl)
def b4P:List (Nat × List D × D)->Nat->List D->Option D
 | [],_,_=>none
 | (g,a,d)::r,f,ds=>match Nat.beq f g&&eqL (eqD 30) ds a with
  | true=>some d
  | false=>b4P r f ds
theorem a8k:∀ (t:List (Nat × List D × D)),(∀ e∈t,a0b C0 e.1 e.2.1 e.2.2/\ArePure e.2.1)->∀ (f:Nat) (ds:List D) (d:D),b4P t f ds=some d->a0b C0 f ds d/\ArePure ds
 | [],_,f,ds,d,h=>by simp [b4P] at h
 | (g,a,d0)::r,ht,f,ds,d,h=>by
  unfold b4P at h;split at h
  ·rename_i hb
   simp only [e0f] at hb;obtain rfl:=e0d hb.1;obtain rfl:=b3l (b2t _) hb.2;cases h;exact ht _ e1x
  ·exact a8k r (fun e he=>ht e (e0X _ he)) f ds d h
def d6t:List (Nat × List D × D):=[(75,[.prim (.string ⟨#[49,47,53]⟩)],smF 1 5),(75,[.prim (.string ⟨#[49,47,49,48]⟩)],smF 1 10),(75,[.prim (.string ⟨#[49,47,50]⟩)],smF 1 2),(75,[.prim (.string ⟨#[55,56]⟩)],smF 78 1),(75,[.prim (.string ⟨#[49,51]⟩)],smF 13 1),(75,[.prim (.string ⟨#[55,53]⟩)],smF 75 1),(75,[.prim (.string ⟨#[49,52]⟩)],smF 14 1),(75,[.prim (.string ⟨#[49,54]⟩)],smF 16 1),(75,[.prim (.string ⟨#[54,55,47,53]⟩)],smF 67 5),(75,[.prim (.string ⟨#[55,57]⟩)],smF 79 1),(75,[.prim (.string ⟨#[51]⟩)],smF 3 1),(75,[.prim (.string ⟨#[49,53]⟩)],smF 15 1),(75,[.prim (.string ⟨#[49,55]⟩)],smF 17 1),(75,[.prim (.string ⟨#[55,55]⟩)],smF 77 1),(75,[.prim (.string ⟨#[56,48]⟩)],smF 80 1),(75,[.prim (.string ⟨#[49,51,52,52,57,47,49,48,48,48]⟩)],smF 13449 1000),(75,[.prim (.string ⟨#[54,57,47,53]⟩)],smF 69 5),(75,[.prim (.string ⟨#[54,56,47,53]⟩)],smF 68 5),(75,[.prim (.string ⟨#[49,50]⟩)],smF 12 1),(75,[.prim (.string ⟨#[49,48,48]⟩)],smF 100 1),(75,[.prim (.string ⟨#[53,48]⟩)],smF 50 1),(75,[.prim (.string ⟨#[49,53,48]⟩)],smF 150 1),(75,[.prim (.string ⟨#[50,48,48]⟩)],smF 200 1),(75,[.prim (.string ⟨#[51,48,48]⟩)],smF 300 1)]
def d5P:List (Nat × List D × D):=[(82,[.prim (.string ⟨#[49,47,53]⟩)],i64 0),(82,[.prim (.string ⟨#[49,47,49,48]⟩)],i64 0),(82,[.prim (.string ⟨#[49,47,50]⟩)],i64 0),(82,[.prim (.string ⟨#[55,56]⟩)],i64 0),(82,[.prim (.string ⟨#[49,51]⟩)],i64 0),(82,[.prim (.string ⟨#[55,53]⟩)],i64 0),(82,[.prim (.string ⟨#[49,52]⟩)],i64 0),(82,[.prim (.string ⟨#[49,54]⟩)],i64 0),(82,[.prim (.string ⟨#[54,55,47,53]⟩)],i64 0),(82,[.prim (.string ⟨#[55,57]⟩)],i64 0),(82,[.prim (.string ⟨#[51]⟩)],i64 0),(82,[.prim (.string ⟨#[49,53]⟩)],i64 0),(82,[.prim (.string ⟨#[49,55]⟩)],i64 0),(82,[.prim (.string ⟨#[55,55]⟩)],i64 0),(82,[.prim (.string ⟨#[56,48]⟩)],i64 0),(82,[.prim (.string ⟨#[49,51,52,52,57,47,49,48,48,48]⟩)],i64 0),(82,[.prim (.string ⟨#[54,57,47,53]⟩)],i64 0),(82,[.prim (.string ⟨#[54,56,47,53]⟩)],i64 0),(82,[.prim (.string ⟨#[49,50]⟩)],i64 0),(82,[.prim (.string ⟨#[49,48,48]⟩)],i64 0),(82,[.prim (.string ⟨#[53,48]⟩)],i64 0),(82,[.prim (.string ⟨#[49,53,48]⟩)],i64 0),(82,[.prim (.string ⟨#[50,48,48]⟩)],i64 0),(82,[.prim (.string ⟨#[51,48,48]⟩)],i64 0)]
theorem c7i:∀ e∈d6t,a0b C0 e.1 e.2.1 e.2.2/\ArePure e.2.1:=by
 intro e he;simp only [d6t,e0m,e0M,or_false] at he;rcases he with rfl|rfl|rfl|rfl|rfl|rfl|rfl|rfl|rfl|rfl|rfl|rfl|rfl|rfl|rfl|rfl|rfl|rfl|rfl|rfl|rfl|rfl|rfl|rfl
 ·exact ⟨tr0,d9O⟩
 ·exact ⟨tr1,d9O⟩
 ·exact ⟨tr2,d9O⟩
 ·exact ⟨tr3,d9O⟩
 ·exact ⟨tr4,d9O⟩
 ·exact ⟨tr5,d9O⟩
 ·exact ⟨tr6,d9O⟩
 ·exact ⟨tr7,d9O⟩
 ·exact ⟨tr8,d9O⟩
 ·exact ⟨tr9,d9O⟩
 ·exact ⟨d7v,d9O⟩
 ·exact ⟨d7z,d9O⟩
 ·exact ⟨d7i,d9O⟩
 ·exact ⟨d7T,d9O⟩
 ·exact ⟨d8a,d9O⟩
 ·exact ⟨d7s,d9O⟩
 ·exact ⟨d7B,d9O⟩
 ·exact ⟨d7k,d9O⟩
 ·exact ⟨d8s,d9O⟩
 ·exact ⟨d7C,d9O⟩
 ·exact ⟨d8z,d9O⟩
 ·exact ⟨d8C,d9O⟩
 ·exact ⟨d8G,d9O⟩
 ·exact ⟨d7W,d9O⟩
theorem c6v:∀ e∈d5P,a0b C0 e.1 e.2.1 e.2.2/\ArePure e.2.1:=by
 intro e he;simp only [d5P,e0m,e0M,or_false] at he;rcases he with rfl|rfl|rfl|rfl|rfl|rfl|rfl|rfl|rfl|rfl|rfl|rfl|rfl|rfl|rfl|rfl|rfl|rfl|rfl|rfl|rfl|rfl|rfl|rfl
 ·exact ⟨tc0,d9O⟩
 ·exact ⟨tc1,d9O⟩
 ·exact ⟨tc2,d9O⟩
 ·exact ⟨tc3,d9O⟩
 ·exact ⟨tc4,d9O⟩
 ·exact ⟨tc5,d9O⟩
 ·exact ⟨tc6,d9O⟩
 ·exact ⟨tc7,d9O⟩
 ·exact ⟨tc8,d9O⟩
 ·exact ⟨tc9,d9O⟩
 ·exact ⟨d7j,d9O⟩
 ·exact ⟨d8J,d9O⟩
 ·exact ⟨d7L,d9O⟩
 ·exact ⟨d7Z,d9O⟩
 ·exact ⟨d7Q,d9O⟩
 ·exact ⟨d8D,d9O⟩
 ·exact ⟨d8c,d9O⟩
 ·exact ⟨d8o,d9O⟩
 ·exact ⟨d7n,d9O⟩
 ·exact ⟨d7O,d9O⟩
 ·exact ⟨d7K,d9O⟩
 ·exact ⟨d8F,d9O⟩
 ·exact ⟨d8I,d9O⟩
 ·exact ⟨d7g,d9O⟩
def d4j (o:Nat->List D->Option D)(f:Nat)(ds:List D):Option D:=match Nat.beq f 75 with
 | true=>b4P d6t f ds
 | false=>match Nat.beq f 82 with
  | true=>b4P d5P f ds
  | false=>o f ds
theorem c1D {o:Nat->List D->Option D}(ho:∀ f ds d,o f ds=some d->a0b C0 f ds d/\ArePure ds)(f:Nat)(ds:List D)(d:D)(h:d4j o f ds=some d):a0b C0 f ds d/\ArePure ds:=by
 unfold d4j at h;split at h
 ·exact a8k _ c7i _ _ _ h
 split at h
 ·exact a8k _ c6v _ _ _ h
 ·exact ho _ _ _ h
noncomputable def X4t:EV:=⟨tt2,xbt.get,fbt.get,fun _=>false,c8P (d4j d4o),mtA,b7X⟩
theorem b5j:b0i C0 X4t:=⟨d2o,b4L,ftab,b4x (c1D b9k),by kernel_rfl,b3p,a6e⟩
noncomputable def X2t:EV:=⟨tt2,xbt.get,fbt.get,fun _=>false,c8P (d4j c8L),mtA,b7X⟩
theorem b1P (K:Kn):b0i C0 X2t:=⟨d2o,b4L,ftab,b4x (c1D (c8A K)),by kernel_rfl,b3p,a6e⟩
end Go.Ide
