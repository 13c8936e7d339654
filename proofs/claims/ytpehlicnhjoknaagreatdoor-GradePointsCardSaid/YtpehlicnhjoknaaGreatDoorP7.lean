/- The layer of own lemmas and contracts, part 7. -/
import Derived.Test.YtpehlicnhjoknaaGreatDoorP6
import Derived.Test.YtpehlicnhjoknaaGreatDoorP3
set_option linter.unusedVariables false
set_option linter.unusedSimpArgs false
namespace Go.Ide
open Go.Proofs Go.RowKit
set_option maxRecDepth 20000
def d2z (f:Nat)(ds:List D):Option D:=match Nat.beq f 27 with
 | true=>none
 | false=>match Nat.beq f 64 with
  | true=>none
  | false=>c7t f ds
theorem b8U (f:Nat)(ds:List D)(d:D)(h:d2z f ds=some d):a0b C0 f ds d∧ArePure ds:=by
 unfold d2z at h;split at h<;>first|(cases h;done)|skip
 rename_i h27;split at h<;>first|(cases h;done)|skip
 rename_i h64;unfold c7t at h;split at h
 ·rename_i hf
  obtain rfl:=Nat.eq_of_beq_eq_true hf;split at h<;>first|(cases h;done)|skip
  cases h;exact ⟨a6n,inferInstance⟩
 split at h
 ·rename_i hf
  obtain rfl:=Nat.eq_of_beq_eq_true hf;split at h<;>first|(cases h;done)|skip
  cases h;exact ⟨b4H,inferInstance⟩
 split at h
 ·rename_i hf
  rw [hf] at h27;cases h27
 split at h
 ·rename_i hf
  obtain rfl:=Nat.eq_of_beq_eq_true hf;split at h<;>first|(cases h;done)|skip
  cases h;exact ⟨b2c _,inferInstance⟩
 split at h
 ·rename_i hf
  obtain rfl:=Nat.eq_of_beq_eq_true hf;split at h<;>first|(cases h;done)|skip
  split at h<;>first|(cases h;done)|skip
  rename_i z x hz;have hz:=Nat.le_of_ble_eq_true hz;cases h;refine ⟨?_,inferInstance⟩
  have:=b0K (z:Int) (by omega) (by omega)
  have e:Lib.itoa (z:Int)=dig 19 z:=by
   rcases b7h 19 z (Nat.lt_of_le_of_lt hz (by decide)) with h1|h1
   ·rw [h1];rfl
   ·cases h1
  rw [e] at this;exact this
 split at h
 ·rename_i hf
  obtain rfl:=Nat.eq_of_beq_eq_true hf;split at h<;>first|(cases h;done)|skip
  split at h<;>first|(cases h;done)|skip
  split at h<;>first|(cases h;done)|skip
  rename_i s b hs o n hn;cases h;exact ⟨b2X _ n (Nat.le_of_ble_eq_true hs) hn,inferInstance⟩
 split at h
 ·rename_i hf
  rw [hf] at h64;cases h64
 ·cases h
noncomputable def X6:EV:=⟨tt2,xbt.get,fbt.get,fun _=>false,c7u d2z,mtA,b6x⟩
theorem a2P:a9k C0 X6:=⟨d2g,b3Q,ftab,b3H b8U,by kernel_rfl,b2l,a5w⟩
theorem tr0:a0b C0 63 [.prim (.string ⟨#[49,47,53]⟩)] (smF 1 5):=a0b.ev a2P 1000 40 (by kernel_rfl)
theorem tc0:a0b C0 55 [.prim (.string ⟨#[49,47,53]⟩)] (i64 0):=a0b.ev a2P 1000 40 (by kernel_rfl)
theorem tr1:a0b C0 63 [.prim (.string ⟨#[49,47,49,48]⟩)] (smF 1 10):=a0b.ev a2P 1000 40 (by kernel_rfl)
theorem tc1:a0b C0 55 [.prim (.string ⟨#[49,47,49,48]⟩)] (i64 0):=a0b.ev a2P 1000 40 (by kernel_rfl)
theorem tr2:a0b C0 63 [.prim (.string ⟨#[49,47,50]⟩)] (smF 1 2):=a0b.ev a2P 1000 40 (by kernel_rfl)
theorem tc2:a0b C0 55 [.prim (.string ⟨#[49,47,50]⟩)] (i64 0):=a0b.ev a2P 1000 40 (by kernel_rfl)
theorem tr3:a0b C0 63 [.prim (.string ⟨#[55,56]⟩)] (smF 78 1):=a0b.ev a2P 1000 40 (by kernel_rfl)
theorem tc3:a0b C0 55 [.prim (.string ⟨#[55,56]⟩)] (i64 0):=a0b.ev a2P 1000 40 (by kernel_rfl)
theorem tr4:a0b C0 63 [.prim (.string ⟨#[49,51]⟩)] (smF 13 1):=a0b.ev a2P 1000 40 (by kernel_rfl)
theorem tc4:a0b C0 55 [.prim (.string ⟨#[49,51]⟩)] (i64 0):=a0b.ev a2P 1000 40 (by kernel_rfl)
theorem tr5:a0b C0 63 [.prim (.string ⟨#[55,53]⟩)] (smF 75 1):=a0b.ev a2P 1000 40 (by kernel_rfl)
theorem tc5:a0b C0 55 [.prim (.string ⟨#[55,53]⟩)] (i64 0):=a0b.ev a2P 1000 40 (by kernel_rfl)
theorem tr6:a0b C0 63 [.prim (.string ⟨#[49,52]⟩)] (smF 14 1):=a0b.ev a2P 1000 40 (by kernel_rfl)
theorem tc6:a0b C0 55 [.prim (.string ⟨#[49,52]⟩)] (i64 0):=a0b.ev a2P 1000 40 (by kernel_rfl)
theorem tr7:a0b C0 63 [.prim (.string ⟨#[49,54]⟩)] (smF 16 1):=a0b.ev a2P 1000 40 (by kernel_rfl)
theorem tc7:a0b C0 55 [.prim (.string ⟨#[49,54]⟩)] (i64 0):=a0b.ev a2P 1000 40 (by kernel_rfl)
theorem tr8:a0b C0 63 [.prim (.string ⟨#[54,55,47,53]⟩)] (smF 67 5):=a0b.ev a2P 1000 40 (by kernel_rfl)
theorem tc8:a0b C0 55 [.prim (.string ⟨#[54,55,47,53]⟩)] (i64 0):=a0b.ev a2P 1000 40 (by kernel_rfl)
theorem tr9:a0b C0 63 [.prim (.string ⟨#[55,57]⟩)] (smF 79 1):=a0b.ev a2P 1000 40 (by kernel_rfl)
theorem tc9:a0b C0 55 [.prim (.string ⟨#[55,57]⟩)] (i64 0):=a0b.ev a2P 1000 40 (by kernel_rfl)
theorem d6o:a0b C0 63 [.prim (.string ⟨#[51]⟩)] (smF 3 1):=a0b.ev a2P 1000 40 (by kernel_rfl)
theorem d5Y:a0b C0 55 [.prim (.string ⟨#[51]⟩)] (i64 0):=a0b.ev a2P 1000 40 (by kernel_rfl)
theorem d6p:a0b C0 63 [.prim (.string ⟨#[49,53]⟩)] (smF 15 1):=a0b.ev a2P 1000 40 (by kernel_rfl)
theorem d5Z:a0b C0 55 [.prim (.string ⟨#[49,53]⟩)] (i64 0):=a0b.ev a2P 1000 40 (by kernel_rfl)
theorem d6q:a0b C0 63 [.prim (.string ⟨#[49,55]⟩)] (smF 17 1):=a0b.ev a2P 1000 40 (by kernel_rfl)
theorem d6a:a0b C0 55 [.prim (.string ⟨#[49,55]⟩)] (i64 0):=a0b.ev a2P 1000 40 (by kernel_rfl)
theorem d6r:a0b C0 63 [.prim (.string ⟨#[55,55]⟩)] (smF 77 1):=a0b.ev a2P 1000 40 (by kernel_rfl)
theorem d6b:a0b C0 55 [.prim (.string ⟨#[55,55]⟩)] (i64 0):=a0b.ev a2P 1000 40 (by kernel_rfl)
theorem d6s:a0b C0 63 [.prim (.string ⟨#[56,48]⟩)] (smF 80 1):=a0b.ev a2P 1000 40 (by kernel_rfl)
theorem d6c:a0b C0 55 [.prim (.string ⟨#[56,48]⟩)] (i64 0):=a0b.ev a2P 1000 40 (by kernel_rfl)
theorem d6t:a0b C0 63 [.prim (.string ⟨#[49,51,52,52,57,47,49,48,48,48]⟩)] (smF 13449 1000):=a0b.ev a2P 1000 40 (by kernel_rfl)
theorem d6d:a0b C0 55 [.prim (.string ⟨#[49,51,52,52,57,47,49,48,48,48]⟩)] (i64 0):=a0b.ev a2P 1000 40 (by kernel_rfl)
theorem d6u:a0b C0 63 [.prim (.string ⟨#[54,57,47,53]⟩)] (smF 69 5):=a0b.ev a2P 1000 40 (by kernel_rfl)
theorem d6e:a0b C0 55 [.prim (.string ⟨#[54,57,47,53]⟩)] (i64 0):=a0b.ev a2P 1000 40 (by kernel_rfl)
theorem d6v:a0b C0 63 [.prim (.string ⟨#[54,56,47,53]⟩)] (smF 68 5):=a0b.ev a2P 1000 40 (by kernel_rfl)
theorem d6f:a0b C0 55 [.prim (.string ⟨#[54,56,47,53]⟩)] (i64 0):=a0b.ev a2P 1000 40 (by kernel_rfl)
theorem d6w:a0b C0 63 [.prim (.string ⟨#[49,50]⟩)] (smF 12 1):=a0b.ev a2P 1000 40 (by kernel_rfl)
theorem d6g:a0b C0 55 [.prim (.string ⟨#[49,50]⟩)] (i64 0):=a0b.ev a2P 1000 40 (by kernel_rfl)
theorem d6x:a0b C0 63 [.prim (.string ⟨#[49,48,48]⟩)] (smF 100 1):=a0b.ev a2P 1000 40 (by kernel_rfl)
theorem d6h:a0b C0 55 [.prim (.string ⟨#[49,48,48]⟩)] (i64 0):=a0b.ev a2P 1000 40 (by kernel_rfl)
theorem d6y:a0b C0 63 [.prim (.string ⟨#[53,48]⟩)] (smF 50 1):=a0b.ev a2P 1000 40 (by kernel_rfl)
theorem d6i:a0b C0 55 [.prim (.string ⟨#[53,48]⟩)] (i64 0):=a0b.ev a2P 1000 40 (by kernel_rfl)
theorem d6z:a0b C0 63 [.prim (.string ⟨#[49,53,48]⟩)] (smF 150 1):=a0b.ev a2P 1000 40 (by kernel_rfl)
theorem d6j:a0b C0 55 [.prim (.string ⟨#[49,53,48]⟩)] (i64 0):=a0b.ev a2P 1000 40 (by kernel_rfl)
theorem d6A:a0b C0 63 [.prim (.string ⟨#[50,48,48]⟩)] (smF 200 1):=a0b.ev a2P 1000 40 (by kernel_rfl)
theorem d6k:a0b C0 55 [.prim (.string ⟨#[50,48,48]⟩)] (i64 0):=a0b.ev a2P 1000 40 (by kernel_rfl)
theorem d6B:a0b C0 63 [.prim (.string ⟨#[51,48,48]⟩)] (smF 300 1):=a0b.ev a2P 1000 40 (by kernel_rfl)
theorem d6l:a0b C0 55 [.prim (.string ⟨#[51,48,48]⟩)] (i64 0):=a0b.ev a2P 1000 40 (by kernel_rfl)
def b3p:List (Nat × List D × D)→Nat→List D→Option D
 | [],_,_=>none
 | (g,a,d)::r,f,ds=>match Nat.beq f g&&eqL (eqD 30) ds a with
  | true=>some d
  | false=>b3p r f ds
theorem a7p:∀ (t:List (Nat × List D × D)),(∀ e∈t,a0b C0 e.1 e.2.1 e.2.2∧ArePure e.2.1)→∀ (f:Nat) (ds:List D) (d:D),b3p t f ds=some d→a0b C0 f ds d∧ArePure ds
 | [],_,f,ds,d,h=>by simp [b3p] at h
 | (g,a,d0)::r,ht,f,ds,d,h=>by
  unfold b3p at h;split at h
  ·rename_i hb
   simp only [Bool.and_eq_true] at hb;obtain rfl:=Nat.eq_of_beq_eq_true hb.1;obtain rfl:=b1J (b1I _) hb.2;cases h;exact ht _ List.mem_cons_self
  ·exact a7p r (fun e he=>ht e (List.mem_cons_of_mem _ he)) f ds d h
def d4M:List (Nat × List D × D):=[(63,[.prim (.string ⟨#[49,47,53]⟩)],smF 1 5),(63,[.prim (.string ⟨#[49,47,49,48]⟩)],smF 1 10),(63,[.prim (.string ⟨#[49,47,50]⟩)],smF 1 2),(63,[.prim (.string ⟨#[55,56]⟩)],smF 78 1),(63,[.prim (.string ⟨#[49,51]⟩)],smF 13 1),(63,[.prim (.string ⟨#[55,53]⟩)],smF 75 1),(63,[.prim (.string ⟨#[49,52]⟩)],smF 14 1),(63,[.prim (.string ⟨#[49,54]⟩)],smF 16 1),(63,[.prim (.string ⟨#[54,55,47,53]⟩)],smF 67 5),(63,[.prim (.string ⟨#[55,57]⟩)],smF 79 1),(63,[.prim (.string ⟨#[51]⟩)],smF 3 1),(63,[.prim (.string ⟨#[49,53]⟩)],smF 15 1),(63,[.prim (.string ⟨#[49,55]⟩)],smF 17 1),(63,[.prim (.string ⟨#[55,55]⟩)],smF 77 1),(63,[.prim (.string ⟨#[56,48]⟩)],smF 80 1),(63,[.prim (.string ⟨#[49,51,52,52,57,47,49,48,48,48]⟩)],smF 13449 1000),(63,[.prim (.string ⟨#[54,57,47,53]⟩)],smF 69 5),(63,[.prim (.string ⟨#[54,56,47,53]⟩)],smF 68 5),(63,[.prim (.string ⟨#[49,50]⟩)],smF 12 1),(63,[.prim (.string ⟨#[49,48,48]⟩)],smF 100 1),(63,[.prim (.string ⟨#[53,48]⟩)],smF 50 1),(63,[.prim (.string ⟨#[49,53,48]⟩)],smF 150 1),(63,[.prim (.string ⟨#[50,48,48]⟩)],smF 200 1),(63,[.prim (.string ⟨#[51,48,48]⟩)],smF 300 1)]
def d4L:List (Nat × List D × D):=[(55,[.prim (.string ⟨#[49,47,53]⟩)],i64 0),(55,[.prim (.string ⟨#[49,47,49,48]⟩)],i64 0),(55,[.prim (.string ⟨#[49,47,50]⟩)],i64 0),(55,[.prim (.string ⟨#[55,56]⟩)],i64 0),(55,[.prim (.string ⟨#[49,51]⟩)],i64 0),(55,[.prim (.string ⟨#[55,53]⟩)],i64 0),(55,[.prim (.string ⟨#[49,52]⟩)],i64 0),(55,[.prim (.string ⟨#[49,54]⟩)],i64 0),(55,[.prim (.string ⟨#[54,55,47,53]⟩)],i64 0),(55,[.prim (.string ⟨#[55,57]⟩)],i64 0),(55,[.prim (.string ⟨#[51]⟩)],i64 0),(55,[.prim (.string ⟨#[49,53]⟩)],i64 0),(55,[.prim (.string ⟨#[49,55]⟩)],i64 0),(55,[.prim (.string ⟨#[55,55]⟩)],i64 0),(55,[.prim (.string ⟨#[56,48]⟩)],i64 0),(55,[.prim (.string ⟨#[49,51,52,52,57,47,49,48,48,48]⟩)],i64 0),(55,[.prim (.string ⟨#[54,57,47,53]⟩)],i64 0),(55,[.prim (.string ⟨#[54,56,47,53]⟩)],i64 0),(55,[.prim (.string ⟨#[49,50]⟩)],i64 0),(55,[.prim (.string ⟨#[49,48,48]⟩)],i64 0),(55,[.prim (.string ⟨#[53,48]⟩)],i64 0),(55,[.prim (.string ⟨#[49,53,48]⟩)],i64 0),(55,[.prim (.string ⟨#[50,48,48]⟩)],i64 0),(55,[.prim (.string ⟨#[51,48,48]⟩)],i64 0)]
theorem c6P:∀ e∈d4M,a0b C0 e.1 e.2.1 e.2.2∧ArePure e.2.1:=by
 intro e he;simp only [d4M,List.mem_cons,List.not_mem_nil,or_false] at he;rcases he with rfl|rfl|rfl|rfl|rfl|rfl|rfl|rfl|rfl|rfl|rfl|rfl|rfl|rfl|rfl|rfl|rfl|rfl|rfl|rfl|rfl|rfl|rfl|rfl
 ·exact ⟨tr0,inferInstance⟩
 ·exact ⟨tr1,inferInstance⟩
 ·exact ⟨tr2,inferInstance⟩
 ·exact ⟨tr3,inferInstance⟩
 ·exact ⟨tr4,inferInstance⟩
 ·exact ⟨tr5,inferInstance⟩
 ·exact ⟨tr6,inferInstance⟩
 ·exact ⟨tr7,inferInstance⟩
 ·exact ⟨tr8,inferInstance⟩
 ·exact ⟨tr9,inferInstance⟩
 ·exact ⟨d6o,inferInstance⟩
 ·exact ⟨d6p,inferInstance⟩
 ·exact ⟨d6q,inferInstance⟩
 ·exact ⟨d6r,inferInstance⟩
 ·exact ⟨d6s,inferInstance⟩
 ·exact ⟨d6t,inferInstance⟩
 ·exact ⟨d6u,inferInstance⟩
 ·exact ⟨d6v,inferInstance⟩
 ·exact ⟨d6w,inferInstance⟩
 ·exact ⟨d6x,inferInstance⟩
 ·exact ⟨d6y,inferInstance⟩
 ·exact ⟨d6z,inferInstance⟩
 ·exact ⟨d6A,inferInstance⟩
 ·exact ⟨d6B,inferInstance⟩
theorem c6N:∀ e∈d4L,a0b C0 e.1 e.2.1 e.2.2∧ArePure e.2.1:=by
 intro e he;simp only [d4L,List.mem_cons,List.not_mem_nil,or_false] at he;rcases he with rfl|rfl|rfl|rfl|rfl|rfl|rfl|rfl|rfl|rfl|rfl|rfl|rfl|rfl|rfl|rfl|rfl|rfl|rfl|rfl|rfl|rfl|rfl|rfl
 ·exact ⟨tc0,inferInstance⟩
 ·exact ⟨tc1,inferInstance⟩
 ·exact ⟨tc2,inferInstance⟩
 ·exact ⟨tc3,inferInstance⟩
 ·exact ⟨tc4,inferInstance⟩
 ·exact ⟨tc5,inferInstance⟩
 ·exact ⟨tc6,inferInstance⟩
 ·exact ⟨tc7,inferInstance⟩
 ·exact ⟨tc8,inferInstance⟩
 ·exact ⟨tc9,inferInstance⟩
 ·exact ⟨d5Y,inferInstance⟩
 ·exact ⟨d5Z,inferInstance⟩
 ·exact ⟨d6a,inferInstance⟩
 ·exact ⟨d6b,inferInstance⟩
 ·exact ⟨d6c,inferInstance⟩
 ·exact ⟨d6d,inferInstance⟩
 ·exact ⟨d6e,inferInstance⟩
 ·exact ⟨d6f,inferInstance⟩
 ·exact ⟨d6g,inferInstance⟩
 ·exact ⟨d6h,inferInstance⟩
 ·exact ⟨d6i,inferInstance⟩
 ·exact ⟨d6j,inferInstance⟩
 ·exact ⟨d6k,inferInstance⟩
 ·exact ⟨d6l,inferInstance⟩
def d2A (o:Nat→List D→Option D)(f:Nat)(ds:List D):Option D:=match Nat.beq f 63 with
 | true=>b3p d4M f ds
 | false=>match Nat.beq f 55 with
  | true=>b3p d4L f ds
  | false=>o f ds
theorem b8V {o:Nat→List D→Option D}(ho:∀ f ds d,o f ds=some d→a0b C0 f ds d∧ArePure ds)(f:Nat)(ds:List D)(d:D)(h:d2A o f ds=some d):a0b C0 f ds d∧ArePure ds:=by
 unfold d2A at h;split at h
 ·exact a7p _ c6P _ _ _ h
 split at h
 ·exact a7p _ c6N _ _ _ h
 ·exact ho _ _ _ h
noncomputable def X4t:EV:=⟨tt2,xbt.get,fbt.get,fun _=>false,c7u (d2A d2z),mtA,b6x⟩
theorem b2T:a9k C0 X4t:=⟨d2g,b3Q,ftab,b3H (b8V b8U),by kernel_rfl,b2l,a5w⟩
noncomputable def X2t:EV:=⟨tt2,xbt.get,fbt.get,fun _=>false,c7u (d2A c7t),mtA,b6x⟩
theorem b0t (K:Kn):a9k C0 X2t:=⟨d2g,b3Q,ftab,b3H (b8V (c6l K)),by kernel_rfl,b2l,a5w⟩
end Go.Ide
