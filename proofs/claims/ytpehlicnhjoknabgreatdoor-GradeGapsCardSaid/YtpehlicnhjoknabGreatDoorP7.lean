/- The layer of own lemmas and contracts, part 7. -/
import Derived.Test.YtpehlicnhjoknabGreatDoorP6
import Derived.Test.YtpehlicnhjoknabGreatDoorP3
set_option linter.unusedVariables false
set_option linter.unusedSimpArgs false
namespace Go.Ide
open Go.Proofs Go.RowKit
set_option maxRecDepth 20000
def d1x (f:Nat)(ds:List D):Option D:=match Nat.beq f 162 with
 | true=>none
 | false=>match Nat.beq f 110 with
  | true=>none
  | false=>c6m f ds
theorem b6Y (f:Nat)(ds:List D)(d:D)(h:d1x f ds=some d):a0b C0 f ds d∧ArePure ds:=by
 unfold d1x at h;split at h<;>first|(cases h;done)|skip
 rename_i h27;split at h<;>first|(cases h;done)|skip
 rename_i h64;unfold c6m at h;split at h
 ·rename_i hf
  obtain rfl:=Nat.eq_of_beq_eq_true hf;split at h<;>first|(cases h;done)|skip
  cases h;exact ⟨a9q,inferInstance⟩
 split at h
 ·rename_i hf
  obtain rfl:=Nat.eq_of_beq_eq_true hf;split at h<;>first|(cases h;done)|skip
  cases h;exact ⟨b4m,inferInstance⟩
 split at h
 ·rename_i hf
  rw [hf] at h27;cases h27
 split at h
 ·rename_i hf
  obtain rfl:=Nat.eq_of_beq_eq_true hf;split at h<;>first|(cases h;done)|skip
  cases h;exact ⟨b1K _,inferInstance⟩
 split at h
 ·rename_i hf
  obtain rfl:=Nat.eq_of_beq_eq_true hf;split at h<;>first|(cases h;done)|skip
  split at h<;>first|(cases h;done)|skip
  rename_i z x hz;have hz:=Nat.le_of_ble_eq_true hz;cases h;refine ⟨?_,inferInstance⟩
  have:=b3y (z:Int) (by omega) (by omega)
  have e:Lib.itoa (z:Int)=dig 19 z:=by
   rcases b6C 19 z (Nat.lt_of_le_of_lt hz (by decide)) with h1|h1
   ·rw [h1];rfl
   ·cases h1
  rw [e] at this;exact this
 split at h
 ·rename_i hf
  obtain rfl:=Nat.eq_of_beq_eq_true hf;split at h<;>first|(cases h;done)|skip
  split at h<;>first|(cases h;done)|skip
  split at h<;>first|(cases h;done)|skip
  rename_i s b hs o n hn;cases h;exact ⟨b2C _ n (Nat.le_of_ble_eq_true hs) hn,inferInstance⟩
 split at h
 ·rename_i hf
  rw [hf] at h64;cases h64
 ·cases h
noncomputable def X6:EV:=⟨tt2,xbt.get,fbt.get,fun _=>false,c6i d1x,mtA,b5Q⟩
theorem a2M:a9b C0 X6:=⟨c9I,b2Y,ftab,b3c b6Y,by kernel_rfl,b1p,a5q⟩
theorem tr0:a0b C0 70 [.prim (.string ⟨#[49,47,53]⟩)] (smF 1 5):=a0b.ev a2M 1000 40 (by kernel_rfl)
theorem tc0:a0b C0 98 [.prim (.string ⟨#[49,47,53]⟩)] (i64 0):=a0b.ev a2M 1000 40 (by kernel_rfl)
theorem tr1:a0b C0 70 [.prim (.string ⟨#[49,47,49,48]⟩)] (smF 1 10):=a0b.ev a2M 1000 40 (by kernel_rfl)
theorem tc1:a0b C0 98 [.prim (.string ⟨#[49,47,49,48]⟩)] (i64 0):=a0b.ev a2M 1000 40 (by kernel_rfl)
theorem tr2:a0b C0 70 [.prim (.string ⟨#[49,47,50]⟩)] (smF 1 2):=a0b.ev a2M 1000 40 (by kernel_rfl)
theorem tc2:a0b C0 98 [.prim (.string ⟨#[49,47,50]⟩)] (i64 0):=a0b.ev a2M 1000 40 (by kernel_rfl)
theorem tr3:a0b C0 70 [.prim (.string ⟨#[55,56]⟩)] (smF 78 1):=a0b.ev a2M 1000 40 (by kernel_rfl)
theorem tc3:a0b C0 98 [.prim (.string ⟨#[55,56]⟩)] (i64 0):=a0b.ev a2M 1000 40 (by kernel_rfl)
theorem tr4:a0b C0 70 [.prim (.string ⟨#[49,51]⟩)] (smF 13 1):=a0b.ev a2M 1000 40 (by kernel_rfl)
theorem tc4:a0b C0 98 [.prim (.string ⟨#[49,51]⟩)] (i64 0):=a0b.ev a2M 1000 40 (by kernel_rfl)
theorem tr5:a0b C0 70 [.prim (.string ⟨#[55,53]⟩)] (smF 75 1):=a0b.ev a2M 1000 40 (by kernel_rfl)
theorem tc5:a0b C0 98 [.prim (.string ⟨#[55,53]⟩)] (i64 0):=a0b.ev a2M 1000 40 (by kernel_rfl)
theorem tr6:a0b C0 70 [.prim (.string ⟨#[49,52]⟩)] (smF 14 1):=a0b.ev a2M 1000 40 (by kernel_rfl)
theorem tc6:a0b C0 98 [.prim (.string ⟨#[49,52]⟩)] (i64 0):=a0b.ev a2M 1000 40 (by kernel_rfl)
theorem tr7:a0b C0 70 [.prim (.string ⟨#[49,54]⟩)] (smF 16 1):=a0b.ev a2M 1000 40 (by kernel_rfl)
theorem tc7:a0b C0 98 [.prim (.string ⟨#[49,54]⟩)] (i64 0):=a0b.ev a2M 1000 40 (by kernel_rfl)
theorem tr8:a0b C0 70 [.prim (.string ⟨#[54,55,47,53]⟩)] (smF 67 5):=a0b.ev a2M 1000 40 (by kernel_rfl)
theorem tc8:a0b C0 98 [.prim (.string ⟨#[54,55,47,53]⟩)] (i64 0):=a0b.ev a2M 1000 40 (by kernel_rfl)
theorem tr9:a0b C0 70 [.prim (.string ⟨#[55,57]⟩)] (smF 79 1):=a0b.ev a2M 1000 40 (by kernel_rfl)
theorem tc9:a0b C0 98 [.prim (.string ⟨#[55,57]⟩)] (i64 0):=a0b.ev a2M 1000 40 (by kernel_rfl)
theorem d4S:a0b C0 70 [.prim (.string ⟨#[51]⟩)] (smF 3 1):=a0b.ev a2M 1000 40 (by kernel_rfl)
theorem d4G:a0b C0 98 [.prim (.string ⟨#[51]⟩)] (i64 0):=a0b.ev a2M 1000 40 (by kernel_rfl)
theorem d4H:a0b C0 70 [.prim (.string ⟨#[49,53]⟩)] (smF 15 1):=a0b.ev a2M 1000 40 (by kernel_rfl)
theorem d5b:a0b C0 98 [.prim (.string ⟨#[49,53]⟩)] (i64 0):=a0b.ev a2M 1000 40 (by kernel_rfl)
theorem d4w:a0b C0 70 [.prim (.string ⟨#[49,55]⟩)] (smF 17 1):=a0b.ev a2M 1000 40 (by kernel_rfl)
theorem d4l:a0b C0 98 [.prim (.string ⟨#[49,55]⟩)] (i64 0):=a0b.ev a2M 1000 40 (by kernel_rfl)
theorem d5j:a0b C0 70 [.prim (.string ⟨#[55,55]⟩)] (smF 77 1):=a0b.ev a2M 1000 40 (by kernel_rfl)
theorem d5s:a0b C0 98 [.prim (.string ⟨#[55,55]⟩)] (i64 0):=a0b.ev a2M 1000 40 (by kernel_rfl)
theorem d5z:a0b C0 70 [.prim (.string ⟨#[56,48]⟩)] (smF 80 1):=a0b.ev a2M 1000 40 (by kernel_rfl)
theorem d4L:a0b C0 98 [.prim (.string ⟨#[56,48]⟩)] (i64 0):=a0b.ev a2M 1000 40 (by kernel_rfl)
theorem d4Y:a0b C0 70 [.prim (.string ⟨#[49,51,52,52,57,47,49,48,48,48]⟩)] (smF 13449 1000):=a0b.ev a2M 1000 40 (by kernel_rfl)
theorem d4k:a0b C0 98 [.prim (.string ⟨#[49,51,52,52,57,47,49,48,48,48]⟩)] (i64 0):=a0b.ev a2M 1000 40 (by kernel_rfl)
theorem d4j:a0b C0 70 [.prim (.string ⟨#[54,57,47,53]⟩)] (smF 69 5):=a0b.ev a2M 1000 40 (by kernel_rfl)
theorem d4R:a0b C0 98 [.prim (.string ⟨#[54,57,47,53]⟩)] (i64 0):=a0b.ev a2M 1000 40 (by kernel_rfl)
theorem d5C:a0b C0 70 [.prim (.string ⟨#[54,56,47,53]⟩)] (smF 68 5):=a0b.ev a2M 1000 40 (by kernel_rfl)
theorem d4g:a0b C0 98 [.prim (.string ⟨#[54,56,47,53]⟩)] (i64 0):=a0b.ev a2M 1000 40 (by kernel_rfl)
theorem d5t:a0b C0 70 [.prim (.string ⟨#[49,50]⟩)] (smF 12 1):=a0b.ev a2M 1000 40 (by kernel_rfl)
theorem d4Z:a0b C0 98 [.prim (.string ⟨#[49,50]⟩)] (i64 0):=a0b.ev a2M 1000 40 (by kernel_rfl)
theorem d4I:a0b C0 70 [.prim (.string ⟨#[49,48,48]⟩)] (smF 100 1):=a0b.ev a2M 1000 40 (by kernel_rfl)
theorem d4z:a0b C0 98 [.prim (.string ⟨#[49,48,48]⟩)] (i64 0):=a0b.ev a2M 1000 40 (by kernel_rfl)
theorem d4Q:a0b C0 70 [.prim (.string ⟨#[53,48]⟩)] (smF 50 1):=a0b.ev a2M 1000 40 (by kernel_rfl)
theorem d5E:a0b C0 98 [.prim (.string ⟨#[53,48]⟩)] (i64 0):=a0b.ev a2M 1000 40 (by kernel_rfl)
theorem d4O:a0b C0 70 [.prim (.string ⟨#[49,53,48]⟩)] (smF 150 1):=a0b.ev a2M 1000 40 (by kernel_rfl)
theorem d5D:a0b C0 98 [.prim (.string ⟨#[49,53,48]⟩)] (i64 0):=a0b.ev a2M 1000 40 (by kernel_rfl)
theorem d5a:a0b C0 70 [.prim (.string ⟨#[50,48,48]⟩)] (smF 200 1):=a0b.ev a2M 1000 40 (by kernel_rfl)
theorem d5u:a0b C0 98 [.prim (.string ⟨#[50,48,48]⟩)] (i64 0):=a0b.ev a2M 1000 40 (by kernel_rfl)
theorem d5e:a0b C0 70 [.prim (.string ⟨#[51,48,48]⟩)] (smF 300 1):=a0b.ev a2M 1000 40 (by kernel_rfl)
theorem d4r:a0b C0 98 [.prim (.string ⟨#[51,48,48]⟩)] (i64 0):=a0b.ev a2M 1000 40 (by kernel_rfl)
def b2z:List (Nat × List D × D)→Nat→List D→Option D
 | [],_,_=>none
 | (g,a,d)::r,f,ds=>match Nat.beq f g&&eqL (eqD 30) ds a with
  | true=>some d
  | false=>b2z r f ds
theorem a7a:∀ (t:List (Nat × List D × D)),(∀ e∈t,a0b C0 e.1 e.2.1 e.2.2∧ArePure e.2.1)→∀ (f:Nat) (ds:List D) (d:D),b2z t f ds=some d→a0b C0 f ds d∧ArePure ds
 | [],_,f,ds,d,h=>by simp [b2z] at h
 | (g,a,d0)::r,ht,f,ds,d,h=>by
  unfold b2z at h;split at h
  ·rename_i hb
   simp only [Bool.and_eq_true] at hb;obtain rfl:=Nat.eq_of_beq_eq_true hb.1;obtain rfl:=b1n (b1o _) hb.2;cases h;exact ht _ List.mem_cons_self
  ·exact a7a r (fun e he=>ht e (List.mem_cons_of_mem _ he)) f ds d h
def d2h:List (Nat × List D × D):=[(70,[.prim (.string ⟨#[49,47,53]⟩)],smF 1 5),(70,[.prim (.string ⟨#[49,47,49,48]⟩)],smF 1 10),(70,[.prim (.string ⟨#[49,47,50]⟩)],smF 1 2),(70,[.prim (.string ⟨#[55,56]⟩)],smF 78 1),(70,[.prim (.string ⟨#[49,51]⟩)],smF 13 1),(70,[.prim (.string ⟨#[55,53]⟩)],smF 75 1),(70,[.prim (.string ⟨#[49,52]⟩)],smF 14 1),(70,[.prim (.string ⟨#[49,54]⟩)],smF 16 1),(70,[.prim (.string ⟨#[54,55,47,53]⟩)],smF 67 5),(70,[.prim (.string ⟨#[55,57]⟩)],smF 79 1),(70,[.prim (.string ⟨#[51]⟩)],smF 3 1),(70,[.prim (.string ⟨#[49,53]⟩)],smF 15 1),(70,[.prim (.string ⟨#[49,55]⟩)],smF 17 1),(70,[.prim (.string ⟨#[55,55]⟩)],smF 77 1),(70,[.prim (.string ⟨#[56,48]⟩)],smF 80 1),(70,[.prim (.string ⟨#[49,51,52,52,57,47,49,48,48,48]⟩)],smF 13449 1000),(70,[.prim (.string ⟨#[54,57,47,53]⟩)],smF 69 5),(70,[.prim (.string ⟨#[54,56,47,53]⟩)],smF 68 5),(70,[.prim (.string ⟨#[49,50]⟩)],smF 12 1),(70,[.prim (.string ⟨#[49,48,48]⟩)],smF 100 1),(70,[.prim (.string ⟨#[53,48]⟩)],smF 50 1),(70,[.prim (.string ⟨#[49,53,48]⟩)],smF 150 1),(70,[.prim (.string ⟨#[50,48,48]⟩)],smF 200 1),(70,[.prim (.string ⟨#[51,48,48]⟩)],smF 300 1)]
def d3I:List (Nat × List D × D):=[(98,[.prim (.string ⟨#[49,47,53]⟩)],i64 0),(98,[.prim (.string ⟨#[49,47,49,48]⟩)],i64 0),(98,[.prim (.string ⟨#[49,47,50]⟩)],i64 0),(98,[.prim (.string ⟨#[55,56]⟩)],i64 0),(98,[.prim (.string ⟨#[49,51]⟩)],i64 0),(98,[.prim (.string ⟨#[55,53]⟩)],i64 0),(98,[.prim (.string ⟨#[49,52]⟩)],i64 0),(98,[.prim (.string ⟨#[49,54]⟩)],i64 0),(98,[.prim (.string ⟨#[54,55,47,53]⟩)],i64 0),(98,[.prim (.string ⟨#[55,57]⟩)],i64 0),(98,[.prim (.string ⟨#[51]⟩)],i64 0),(98,[.prim (.string ⟨#[49,53]⟩)],i64 0),(98,[.prim (.string ⟨#[49,55]⟩)],i64 0),(98,[.prim (.string ⟨#[55,55]⟩)],i64 0),(98,[.prim (.string ⟨#[56,48]⟩)],i64 0),(98,[.prim (.string ⟨#[49,51,52,52,57,47,49,48,48,48]⟩)],i64 0),(98,[.prim (.string ⟨#[54,57,47,53]⟩)],i64 0),(98,[.prim (.string ⟨#[54,56,47,53]⟩)],i64 0),(98,[.prim (.string ⟨#[49,50]⟩)],i64 0),(98,[.prim (.string ⟨#[49,48,48]⟩)],i64 0),(98,[.prim (.string ⟨#[53,48]⟩)],i64 0),(98,[.prim (.string ⟨#[49,53,48]⟩)],i64 0),(98,[.prim (.string ⟨#[50,48,48]⟩)],i64 0),(98,[.prim (.string ⟨#[51,48,48]⟩)],i64 0)]
theorem c4y:∀ e∈d2h,a0b C0 e.1 e.2.1 e.2.2∧ArePure e.2.1:=by
 intro e he;simp only [d2h,List.mem_cons,List.not_mem_nil,or_false] at he;rcases he with rfl|rfl|rfl|rfl|rfl|rfl|rfl|rfl|rfl|rfl|rfl|rfl|rfl|rfl|rfl|rfl|rfl|rfl|rfl|rfl|rfl|rfl|rfl|rfl
 ·exact ⟨tr0,inferInstance⟩
 ·exact ⟨tr1,inferInstance⟩
 ·exact ⟨tr2,inferInstance⟩
 ·exact ⟨tr3,inferInstance⟩
 ·exact ⟨tr4,inferInstance⟩
 ·exact ⟨tr5,inferInstance⟩
 ·exact ⟨tr6,inferInstance⟩
 ·exact ⟨tr7,inferInstance⟩
 ·exact ⟨tr8,inferInstance⟩
 ·exact ⟨tr9,inferInstance⟩
 ·exact ⟨d4S,inferInstance⟩
 ·exact ⟨d4H,inferInstance⟩
 ·exact ⟨d4w,inferInstance⟩
 ·exact ⟨d5j,inferInstance⟩
 ·exact ⟨d5z,inferInstance⟩
 ·exact ⟨d4Y,inferInstance⟩
 ·exact ⟨d4j,inferInstance⟩
 ·exact ⟨d5C,inferInstance⟩
 ·exact ⟨d5t,inferInstance⟩
 ·exact ⟨d4I,inferInstance⟩
 ·exact ⟨d4Q,inferInstance⟩
 ·exact ⟨d4O,inferInstance⟩
 ·exact ⟨d5a,inferInstance⟩
 ·exact ⟨d5e,inferInstance⟩
theorem c5o:∀ e∈d3I,a0b C0 e.1 e.2.1 e.2.2∧ArePure e.2.1:=by
 intro e he;simp only [d3I,List.mem_cons,List.not_mem_nil,or_false] at he;rcases he with rfl|rfl|rfl|rfl|rfl|rfl|rfl|rfl|rfl|rfl|rfl|rfl|rfl|rfl|rfl|rfl|rfl|rfl|rfl|rfl|rfl|rfl|rfl|rfl
 ·exact ⟨tc0,inferInstance⟩
 ·exact ⟨tc1,inferInstance⟩
 ·exact ⟨tc2,inferInstance⟩
 ·exact ⟨tc3,inferInstance⟩
 ·exact ⟨tc4,inferInstance⟩
 ·exact ⟨tc5,inferInstance⟩
 ·exact ⟨tc6,inferInstance⟩
 ·exact ⟨tc7,inferInstance⟩
 ·exact ⟨tc8,inferInstance⟩
 ·exact ⟨tc9,inferInstance⟩
 ·exact ⟨d4G,inferInstance⟩
 ·exact ⟨d5b,inferInstance⟩
 ·exact ⟨d4l,inferInstance⟩
 ·exact ⟨d5s,inferInstance⟩
 ·exact ⟨d4L,inferInstance⟩
 ·exact ⟨d4k,inferInstance⟩
 ·exact ⟨d4R,inferInstance⟩
 ·exact ⟨d4g,inferInstance⟩
 ·exact ⟨d4Z,inferInstance⟩
 ·exact ⟨d4z,inferInstance⟩
 ·exact ⟨d5E,inferInstance⟩
 ·exact ⟨d5D,inferInstance⟩
 ·exact ⟨d5u,inferInstance⟩
 ·exact ⟨d4r,inferInstance⟩
def d1s (o:Nat→List D→Option D)(f:Nat)(ds:List D):Option D:=match Nat.beq f 70 with
 | true=>b2z d2h f ds
 | false=>match Nat.beq f 98 with
  | true=>b2z d3I f ds
  | false=>o f ds
theorem b7x {o:Nat→List D→Option D}(ho:∀ f ds d,o f ds=some d→a0b C0 f ds d∧ArePure ds)(f:Nat)(ds:List D)(d:D)(h:d1s o f ds=some d):a0b C0 f ds d∧ArePure ds:=by
 unfold d1s at h;split at h
 ·exact a7a _ c4y _ _ _ h
 split at h
 ·exact a7a _ c5o _ _ _ h
 ·exact ho _ _ _ h
noncomputable def X4t:EV:=⟨tt2,xbt.get,fbt.get,fun _=>false,c6i (d1s d1x),mtA,b5Q⟩
theorem b3s:a9b C0 X4t:=⟨c9I,b2Y,ftab,b3c (b7x b6Y),by kernel_rfl,b1p,a5q⟩
noncomputable def X2t:EV:=⟨tt2,xbt.get,fbt.get,fun _=>false,c6i (d1s c6m),mtA,b5Q⟩
theorem b0p (K:Kn):a9b C0 X2t:=⟨c9I,b2Y,ftab,b3c (b7x (c4C K)),by kernel_rfl,b1p,a5q⟩
end Go.Ide
