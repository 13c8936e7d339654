/- The layer of own lemmas and contracts, part 7. -/
import Derived.Test.YtpehlicnhjoknaaGreatDoorP6
import Derived.Test.YtpehlicnhjoknaaGreatDoorP3
set_option linter.unusedVariables false
set_option linter.unusedSimpArgs false
namespace Go.Ide
open Go.Proofs Go.RowKit
set_option maxRecDepth 20000
def c9j (f:Nat)(ds:List D):Option D:=match Nat.beq f 27 with
 | true=>none
 | false=>match Nat.beq f 64 with
  | true=>none
  | false=>c4w f ds
theorem b7g (f:Nat)(ds:List D)(d:D)(h:c9j f ds=some d):a0b C0 f ds d∧ArePure ds:=by
 unfold c9j at h;split at h<;>first|(cases h;done)|skip
 rename_i h27;split at h<;>first|(cases h;done)|skip
 rename_i h64;unfold c4w at h;split at h
 ·rename_i hf
  obtain rfl:=Nat.eq_of_beq_eq_true hf;split at h<;>first|(cases h;done)|skip
  cases h;exact ⟨a8C,inferInstance⟩
 split at h
 ·rename_i hf
  obtain rfl:=Nat.eq_of_beq_eq_true hf;split at h<;>first|(cases h;done)|skip
  cases h;exact ⟨b3j,inferInstance⟩
 split at h
 ·rename_i hf
  rw [hf] at h27;cases h27
 split at h
 ·rename_i hf
  obtain rfl:=Nat.eq_of_beq_eq_true hf;split at h<;>first|(cases h;done)|skip
  cases h;exact ⟨b0U _,inferInstance⟩
 split at h
 ·rename_i hf
  obtain rfl:=Nat.eq_of_beq_eq_true hf;split at h<;>first|(cases h;done)|skip
  split at h<;>first|(cases h;done)|skip
  rename_i z x hz;have hz:=Nat.le_of_ble_eq_true hz;cases h;refine ⟨?_,inferInstance⟩
  have:=b2l (z:Int) (by omega) (by omega)
  have e:Lib.itoa (z:Int)=dig 19 z:=by
   rcases b6N 19 z (Nat.lt_of_le_of_lt hz (by decide)) with h1|h1
   ·rw [h1];rfl
   ·cases h1
  rw [e] at this;exact this
 split at h
 ·rename_i hf
  obtain rfl:=Nat.eq_of_beq_eq_true hf;split at h<;>first|(cases h;done)|skip
  split at h<;>first|(cases h;done)|skip
  split at h<;>first|(cases h;done)|skip
  rename_i s b hs o n hn;cases h;exact ⟨b2n _ n (Nat.le_of_ble_eq_true hs) hn,inferInstance⟩
 split at h
 ·rename_i hf
  rw [hf] at h64;cases h64
 ·cases h
noncomputable def X6:EV:=⟨tt2,xbt.get,fbt.get,fun _=>false,c6O c9j,mtA,b8o⟩
theorem a2y:a8z C0 X6:=⟨c4L,b3y,ftab,b2s b7g,by kernel_rfl,b3w,a5O⟩
theorem tr0:a0b C0 63 [.prim (.string ⟨#[49,47,53]⟩)] (smF 1 5):=a0b.ev a2y 1000 40 (by kernel_rfl)
theorem tc0:a0b C0 55 [.prim (.string ⟨#[49,47,53]⟩)] (i64 0):=a0b.ev a2y 1000 40 (by kernel_rfl)
theorem tr1:a0b C0 63 [.prim (.string ⟨#[49,47,49,48]⟩)] (smF 1 10):=a0b.ev a2y 1000 40 (by kernel_rfl)
theorem tc1:a0b C0 55 [.prim (.string ⟨#[49,47,49,48]⟩)] (i64 0):=a0b.ev a2y 1000 40 (by kernel_rfl)
theorem tr2:a0b C0 63 [.prim (.string ⟨#[49,47,50]⟩)] (smF 1 2):=a0b.ev a2y 1000 40 (by kernel_rfl)
theorem tc2:a0b C0 55 [.prim (.string ⟨#[49,47,50]⟩)] (i64 0):=a0b.ev a2y 1000 40 (by kernel_rfl)
theorem tr3:a0b C0 63 [.prim (.string ⟨#[55,56]⟩)] (smF 78 1):=a0b.ev a2y 1000 40 (by kernel_rfl)
theorem tc3:a0b C0 55 [.prim (.string ⟨#[55,56]⟩)] (i64 0):=a0b.ev a2y 1000 40 (by kernel_rfl)
theorem tr4:a0b C0 63 [.prim (.string ⟨#[49,51]⟩)] (smF 13 1):=a0b.ev a2y 1000 40 (by kernel_rfl)
theorem tc4:a0b C0 55 [.prim (.string ⟨#[49,51]⟩)] (i64 0):=a0b.ev a2y 1000 40 (by kernel_rfl)
theorem tr5:a0b C0 63 [.prim (.string ⟨#[55,53]⟩)] (smF 75 1):=a0b.ev a2y 1000 40 (by kernel_rfl)
theorem tc5:a0b C0 55 [.prim (.string ⟨#[55,53]⟩)] (i64 0):=a0b.ev a2y 1000 40 (by kernel_rfl)
theorem tr6:a0b C0 63 [.prim (.string ⟨#[49,52]⟩)] (smF 14 1):=a0b.ev a2y 1000 40 (by kernel_rfl)
theorem tc6:a0b C0 55 [.prim (.string ⟨#[49,52]⟩)] (i64 0):=a0b.ev a2y 1000 40 (by kernel_rfl)
theorem tr7:a0b C0 63 [.prim (.string ⟨#[49,54]⟩)] (smF 16 1):=a0b.ev a2y 1000 40 (by kernel_rfl)
theorem tc7:a0b C0 55 [.prim (.string ⟨#[49,54]⟩)] (i64 0):=a0b.ev a2y 1000 40 (by kernel_rfl)
theorem tr8:a0b C0 63 [.prim (.string ⟨#[54,55,47,53]⟩)] (smF 67 5):=a0b.ev a2y 1000 40 (by kernel_rfl)
theorem tc8:a0b C0 55 [.prim (.string ⟨#[54,55,47,53]⟩)] (i64 0):=a0b.ev a2y 1000 40 (by kernel_rfl)
theorem tr9:a0b C0 63 [.prim (.string ⟨#[55,57]⟩)] (smF 79 1):=a0b.ev a2y 1000 40 (by kernel_rfl)
theorem tc9:a0b C0 55 [.prim (.string ⟨#[55,57]⟩)] (i64 0):=a0b.ev a2y 1000 40 (by kernel_rfl)
theorem d2B:a0b C0 63 [.prim (.string ⟨#[51]⟩)] (smF 3 1):=a0b.ev a2y 1000 40 (by kernel_rfl)
theorem d2S:a0b C0 55 [.prim (.string ⟨#[51]⟩)] (i64 0):=a0b.ev a2y 1000 40 (by kernel_rfl)
theorem d2y:a0b C0 63 [.prim (.string ⟨#[49,53]⟩)] (smF 15 1):=a0b.ev a2y 1000 40 (by kernel_rfl)
theorem d2l:a0b C0 55 [.prim (.string ⟨#[49,53]⟩)] (i64 0):=a0b.ev a2y 1000 40 (by kernel_rfl)
theorem d2J:a0b C0 63 [.prim (.string ⟨#[49,55]⟩)] (smF 17 1):=a0b.ev a2y 1000 40 (by kernel_rfl)
theorem d2P:a0b C0 55 [.prim (.string ⟨#[49,55]⟩)] (i64 0):=a0b.ev a2y 1000 40 (by kernel_rfl)
theorem d2u:a0b C0 63 [.prim (.string ⟨#[55,55]⟩)] (smF 77 1):=a0b.ev a2y 1000 40 (by kernel_rfl)
theorem d2O:a0b C0 55 [.prim (.string ⟨#[55,55]⟩)] (i64 0):=a0b.ev a2y 1000 40 (by kernel_rfl)
theorem d2c:a0b C0 63 [.prim (.string ⟨#[56,48]⟩)] (smF 80 1):=a0b.ev a2y 1000 40 (by kernel_rfl)
theorem d1W:a0b C0 55 [.prim (.string ⟨#[56,48]⟩)] (i64 0):=a0b.ev a2y 1000 40 (by kernel_rfl)
theorem d3g:a0b C0 63 [.prim (.string ⟨#[49,51,52,52,57,47,49,48,48,48]⟩)] (smF 13449 1000):=a0b.ev a2y 1000 40 (by kernel_rfl)
theorem d2F:a0b C0 55 [.prim (.string ⟨#[49,51,52,52,57,47,49,48,48,48]⟩)] (i64 0):=a0b.ev a2y 1000 40 (by kernel_rfl)
theorem d2h:a0b C0 63 [.prim (.string ⟨#[54,57,47,53]⟩)] (smF 69 5):=a0b.ev a2y 1000 40 (by kernel_rfl)
theorem d2o:a0b C0 55 [.prim (.string ⟨#[54,57,47,53]⟩)] (i64 0):=a0b.ev a2y 1000 40 (by kernel_rfl)
theorem d3e:a0b C0 63 [.prim (.string ⟨#[54,56,47,53]⟩)] (smF 68 5):=a0b.ev a2y 1000 40 (by kernel_rfl)
theorem d2I:a0b C0 55 [.prim (.string ⟨#[54,56,47,53]⟩)] (i64 0):=a0b.ev a2y 1000 40 (by kernel_rfl)
theorem d2Q:a0b C0 63 [.prim (.string ⟨#[49,50]⟩)] (smF 12 1):=a0b.ev a2y 1000 40 (by kernel_rfl)
theorem d2p:a0b C0 55 [.prim (.string ⟨#[49,50]⟩)] (i64 0):=a0b.ev a2y 1000 40 (by kernel_rfl)
theorem d2v:a0b C0 63 [.prim (.string ⟨#[49,48,48]⟩)] (smF 100 1):=a0b.ev a2y 1000 40 (by kernel_rfl)
theorem d2k:a0b C0 55 [.prim (.string ⟨#[49,48,48]⟩)] (i64 0):=a0b.ev a2y 1000 40 (by kernel_rfl)
theorem d3d:a0b C0 63 [.prim (.string ⟨#[53,48]⟩)] (smF 50 1):=a0b.ev a2y 1000 40 (by kernel_rfl)
theorem d1Z:a0b C0 55 [.prim (.string ⟨#[53,48]⟩)] (i64 0):=a0b.ev a2y 1000 40 (by kernel_rfl)
theorem d1M:a0b C0 63 [.prim (.string ⟨#[49,53,48]⟩)] (smF 150 1):=a0b.ev a2y 1000 40 (by kernel_rfl)
theorem d1N:a0b C0 55 [.prim (.string ⟨#[49,53,48]⟩)] (i64 0):=a0b.ev a2y 1000 40 (by kernel_rfl)
theorem d2E:a0b C0 63 [.prim (.string ⟨#[50,48,48]⟩)] (smF 200 1):=a0b.ev a2y 1000 40 (by kernel_rfl)
theorem d1P:a0b C0 55 [.prim (.string ⟨#[50,48,48]⟩)] (i64 0):=a0b.ev a2y 1000 40 (by kernel_rfl)
theorem d2a:a0b C0 63 [.prim (.string ⟨#[51,48,48]⟩)] (smF 300 1):=a0b.ev a2y 1000 40 (by kernel_rfl)
theorem d3c:a0b C0 55 [.prim (.string ⟨#[51,48,48]⟩)] (i64 0):=a0b.ev a2y 1000 40 (by kernel_rfl)
def b1O:List (Nat × List D × D)→Nat→List D→Option D
 | [],_,_=>none
 | (g,a,d)::r,f,ds=>match Nat.beq f g&&eqL (eqD 30) ds a with
  | true=>some d
  | false=>b1O r f ds
theorem a6w:∀ (t:List (Nat × List D × D)),(∀ e∈t,a0b C0 e.1 e.2.1 e.2.2∧ArePure e.2.1)→∀ (f:Nat) (ds:List D) (d:D),b1O t f ds=some d→a0b C0 f ds d∧ArePure ds
 | [],_,f,ds,d,h=>by simp [b1O] at h
 | (g,a,d0)::r,ht,f,ds,d,h=>by
  unfold b1O at h;split at h
  ·rename_i hb
   simp only [Bool.and_eq_true] at hb;obtain rfl:=Nat.eq_of_beq_eq_true hb.1;obtain rfl:=b0c (b0t _) hb.2;cases h;exact ht _ List.mem_cons_self
  ·exact a6w r (fun e he=>ht e (List.mem_cons_of_mem _ he)) f ds d h
def d1n:List (Nat × List D × D):=[(63,[.prim (.string ⟨#[49,47,53]⟩)],smF 1 5),(63,[.prim (.string ⟨#[49,47,49,48]⟩)],smF 1 10),(63,[.prim (.string ⟨#[49,47,50]⟩)],smF 1 2),(63,[.prim (.string ⟨#[55,56]⟩)],smF 78 1),(63,[.prim (.string ⟨#[49,51]⟩)],smF 13 1),(63,[.prim (.string ⟨#[55,53]⟩)],smF 75 1),(63,[.prim (.string ⟨#[49,52]⟩)],smF 14 1),(63,[.prim (.string ⟨#[49,54]⟩)],smF 16 1),(63,[.prim (.string ⟨#[54,55,47,53]⟩)],smF 67 5),(63,[.prim (.string ⟨#[55,57]⟩)],smF 79 1),(63,[.prim (.string ⟨#[51]⟩)],smF 3 1),(63,[.prim (.string ⟨#[49,53]⟩)],smF 15 1),(63,[.prim (.string ⟨#[49,55]⟩)],smF 17 1),(63,[.prim (.string ⟨#[55,55]⟩)],smF 77 1),(63,[.prim (.string ⟨#[56,48]⟩)],smF 80 1),(63,[.prim (.string ⟨#[49,51,52,52,57,47,49,48,48,48]⟩)],smF 13449 1000),(63,[.prim (.string ⟨#[54,57,47,53]⟩)],smF 69 5),(63,[.prim (.string ⟨#[54,56,47,53]⟩)],smF 68 5),(63,[.prim (.string ⟨#[49,50]⟩)],smF 12 1),(63,[.prim (.string ⟨#[49,48,48]⟩)],smF 100 1),(63,[.prim (.string ⟨#[53,48]⟩)],smF 50 1),(63,[.prim (.string ⟨#[49,53,48]⟩)],smF 150 1),(63,[.prim (.string ⟨#[50,48,48]⟩)],smF 200 1),(63,[.prim (.string ⟨#[51,48,48]⟩)],smF 300 1)]
def d0r:List (Nat × List D × D):=[(55,[.prim (.string ⟨#[49,47,53]⟩)],i64 0),(55,[.prim (.string ⟨#[49,47,49,48]⟩)],i64 0),(55,[.prim (.string ⟨#[49,47,50]⟩)],i64 0),(55,[.prim (.string ⟨#[55,56]⟩)],i64 0),(55,[.prim (.string ⟨#[49,51]⟩)],i64 0),(55,[.prim (.string ⟨#[55,53]⟩)],i64 0),(55,[.prim (.string ⟨#[49,52]⟩)],i64 0),(55,[.prim (.string ⟨#[49,54]⟩)],i64 0),(55,[.prim (.string ⟨#[54,55,47,53]⟩)],i64 0),(55,[.prim (.string ⟨#[55,57]⟩)],i64 0),(55,[.prim (.string ⟨#[51]⟩)],i64 0),(55,[.prim (.string ⟨#[49,53]⟩)],i64 0),(55,[.prim (.string ⟨#[49,55]⟩)],i64 0),(55,[.prim (.string ⟨#[55,55]⟩)],i64 0),(55,[.prim (.string ⟨#[56,48]⟩)],i64 0),(55,[.prim (.string ⟨#[49,51,52,52,57,47,49,48,48,48]⟩)],i64 0),(55,[.prim (.string ⟨#[54,57,47,53]⟩)],i64 0),(55,[.prim (.string ⟨#[54,56,47,53]⟩)],i64 0),(55,[.prim (.string ⟨#[49,50]⟩)],i64 0),(55,[.prim (.string ⟨#[49,48,48]⟩)],i64 0),(55,[.prim (.string ⟨#[53,48]⟩)],i64 0),(55,[.prim (.string ⟨#[49,53,48]⟩)],i64 0),(55,[.prim (.string ⟨#[50,48,48]⟩)],i64 0),(55,[.prim (.string ⟨#[51,48,48]⟩)],i64 0)]
theorem c3P:∀ e∈d1n,a0b C0 e.1 e.2.1 e.2.2∧ArePure e.2.1:=by
 intro e he;simp only [d1n,List.mem_cons,List.not_mem_nil,or_false] at he;rcases he with rfl|rfl|rfl|rfl|rfl|rfl|rfl|rfl|rfl|rfl|rfl|rfl|rfl|rfl|rfl|rfl|rfl|rfl|rfl|rfl|rfl|rfl|rfl|rfl
 ·exact ⟨tr0,inferInstance⟩
 ·exact ⟨tr1,inferInstance⟩
 ·exact ⟨tr2,inferInstance⟩
 ·exact ⟨tr3,inferInstance⟩
 ·exact ⟨tr4,inferInstance⟩
 ·exact ⟨tr5,inferInstance⟩
 ·exact ⟨tr6,inferInstance⟩
 ·exact ⟨tr7,inferInstance⟩
 ·exact ⟨tr8,inferInstance⟩
 ·exact ⟨tr9,inferInstance⟩
 ·exact ⟨d2B,inferInstance⟩
 ·exact ⟨d2y,inferInstance⟩
 ·exact ⟨d2J,inferInstance⟩
 ·exact ⟨d2u,inferInstance⟩
 ·exact ⟨d2c,inferInstance⟩
 ·exact ⟨d3g,inferInstance⟩
 ·exact ⟨d2h,inferInstance⟩
 ·exact ⟨d3e,inferInstance⟩
 ·exact ⟨d2Q,inferInstance⟩
 ·exact ⟨d2v,inferInstance⟩
 ·exact ⟨d3d,inferInstance⟩
 ·exact ⟨d1M,inferInstance⟩
 ·exact ⟨d2E,inferInstance⟩
 ·exact ⟨d2a,inferInstance⟩
theorem c4c:∀ e∈d0r,a0b C0 e.1 e.2.1 e.2.2∧ArePure e.2.1:=by
 intro e he;simp only [d0r,List.mem_cons,List.not_mem_nil,or_false] at he;rcases he with rfl|rfl|rfl|rfl|rfl|rfl|rfl|rfl|rfl|rfl|rfl|rfl|rfl|rfl|rfl|rfl|rfl|rfl|rfl|rfl|rfl|rfl|rfl|rfl
 ·exact ⟨tc0,inferInstance⟩
 ·exact ⟨tc1,inferInstance⟩
 ·exact ⟨tc2,inferInstance⟩
 ·exact ⟨tc3,inferInstance⟩
 ·exact ⟨tc4,inferInstance⟩
 ·exact ⟨tc5,inferInstance⟩
 ·exact ⟨tc6,inferInstance⟩
 ·exact ⟨tc7,inferInstance⟩
 ·exact ⟨tc8,inferInstance⟩
 ·exact ⟨tc9,inferInstance⟩
 ·exact ⟨d2S,inferInstance⟩
 ·exact ⟨d2l,inferInstance⟩
 ·exact ⟨d2P,inferInstance⟩
 ·exact ⟨d2O,inferInstance⟩
 ·exact ⟨d1W,inferInstance⟩
 ·exact ⟨d2F,inferInstance⟩
 ·exact ⟨d2o,inferInstance⟩
 ·exact ⟨d2I,inferInstance⟩
 ·exact ⟨d2p,inferInstance⟩
 ·exact ⟨d2k,inferInstance⟩
 ·exact ⟨d1Z,inferInstance⟩
 ·exact ⟨d1N,inferInstance⟩
 ·exact ⟨d1P,inferInstance⟩
 ·exact ⟨d3c,inferInstance⟩
def c9a (o:Nat→List D→Option D)(f:Nat)(ds:List D):Option D:=match Nat.beq f 63 with
 | true=>b1O d1n f ds
 | false=>match Nat.beq f 55 with
  | true=>b1O d0r f ds
  | false=>o f ds
theorem b6R {o:Nat→List D→Option D}(ho:∀ f ds d,o f ds=some d→a0b C0 f ds d∧ArePure ds)(f:Nat)(ds:List D)(d:D)(h:c9a o f ds=some d):a0b C0 f ds d∧ArePure ds:=by
 unfold c9a at h;split at h
 ·exact a6w _ c3P _ _ _ h
 split at h
 ·exact a6w _ c4c _ _ _ h
 ·exact ho _ _ _ h
noncomputable def X4t:EV:=⟨tt2,xbt.get,fbt.get,fun _=>false,c6O (c9a c9j),mtA,b8o⟩
theorem b2q:a8z C0 X4t:=⟨c4L,b3y,ftab,b2s (b6R b7g),by kernel_rfl,b3w,a5O⟩
noncomputable def X2t:EV:=⟨tt2,xbt.get,fbt.get,fun _=>false,c6O (c9a c4w),mtA,b8o⟩
theorem a9Q (K:Kn):a8z C0 X2t:=⟨c4L,b3y,ftab,b2s (b6R (c3W K)),by kernel_rfl,b3w,a5O⟩
end Go.Ide
