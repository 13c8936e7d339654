/- The layer of own lemmas and contracts, part 7. -/
import Derived.Test.YtpehlicnhjoknaaGreatDoorP6
import Derived.Test.YtpehlicnhjoknaaGreatDoorP3
set_option linter.unusedVariables false
set_option linter.unusedSimpArgs false
namespace Go.Ide
open Go.Proofs Go.RowKit
set_option maxRecDepth 20000
def d0g (f:Nat)(ds:List D):Option D:=match Nat.beq f 27 with
 | true=>none
 | false=>match Nat.beq f 64 with
  | true=>none
  | false=>c5U f ds
theorem b7T (f:Nat)(ds:List D)(d:D)(h:d0g f ds=some d):a0b C0 f ds d∧ArePure ds:=by
 unfold d0g at h;split at h<;>first|(cases h;done)|skip
 rename_i h27;split at h<;>first|(cases h;done)|skip
 rename_i h64;unfold c5U at h;split at h
 ·rename_i hf
  obtain rfl:=Nat.eq_of_beq_eq_true hf;split at h<;>first|(cases h;done)|skip
  cases h;exact ⟨a8T,inferInstance⟩
 split at h
 ·rename_i hf
  obtain rfl:=Nat.eq_of_beq_eq_true hf;split at h<;>first|(cases h;done)|skip
  cases h;exact ⟨b3S,inferInstance⟩
 split at h
 ·rename_i hf
  rw [hf] at h27;cases h27
 split at h
 ·rename_i hf
  obtain rfl:=Nat.eq_of_beq_eq_true hf;split at h<;>first|(cases h;done)|skip
  cases h;exact ⟨b0C _,inferInstance⟩
 split at h
 ·rename_i hf
  obtain rfl:=Nat.eq_of_beq_eq_true hf;split at h<;>first|(cases h;done)|skip
  split at h<;>first|(cases h;done)|skip
  rename_i z x hz;have hz:=Nat.le_of_ble_eq_true hz;cases h;refine ⟨?_,inferInstance⟩
  have:=b2I (z:Int) (by omega) (by omega)
  have e:Lib.itoa (z:Int)=dig 19 z:=by
   rcases b7b 19 z (Nat.lt_of_le_of_lt hz (by decide)) with h1|h1
   ·rw [h1];rfl
   ·cases h1
  rw [e] at this;exact this
 split at h
 ·rename_i hf
  obtain rfl:=Nat.eq_of_beq_eq_true hf;split at h<;>first|(cases h;done)|skip
  split at h<;>first|(cases h;done)|skip
  split at h<;>first|(cases h;done)|skip
  rename_i s b hs o n hn;cases h;exact ⟨b2M _ n (Nat.le_of_ble_eq_true hs) hn,inferInstance⟩
 split at h
 ·rename_i hf
  rw [hf] at h64;cases h64
 ·cases h
noncomputable def X6:EV:=⟨tt2,xbt.get,fbt.get,fun _=>false,c9x d0g,mtA,b9c⟩
theorem a2H:a9k C0 X6:=⟨c5J,b3N,ftab,b2V b7T,by kernel_rfl,b3H,a6b⟩
theorem tr0:a0b C0 63 [.prim (.string ⟨#[49,47,53]⟩)] (smF 1 5):=a0b.ev a2H 1000 40 (by kernel_rfl)
theorem tc0:a0b C0 55 [.prim (.string ⟨#[49,47,53]⟩)] (i64 0):=a0b.ev a2H 1000 40 (by kernel_rfl)
theorem tr1:a0b C0 63 [.prim (.string ⟨#[49,47,49,48]⟩)] (smF 1 10):=a0b.ev a2H 1000 40 (by kernel_rfl)
theorem tc1:a0b C0 55 [.prim (.string ⟨#[49,47,49,48]⟩)] (i64 0):=a0b.ev a2H 1000 40 (by kernel_rfl)
theorem tr2:a0b C0 63 [.prim (.string ⟨#[49,47,50]⟩)] (smF 1 2):=a0b.ev a2H 1000 40 (by kernel_rfl)
theorem tc2:a0b C0 55 [.prim (.string ⟨#[49,47,50]⟩)] (i64 0):=a0b.ev a2H 1000 40 (by kernel_rfl)
theorem tr3:a0b C0 63 [.prim (.string ⟨#[55,56]⟩)] (smF 78 1):=a0b.ev a2H 1000 40 (by kernel_rfl)
theorem tc3:a0b C0 55 [.prim (.string ⟨#[55,56]⟩)] (i64 0):=a0b.ev a2H 1000 40 (by kernel_rfl)
theorem tr4:a0b C0 63 [.prim (.string ⟨#[49,51]⟩)] (smF 13 1):=a0b.ev a2H 1000 40 (by kernel_rfl)
theorem tc4:a0b C0 55 [.prim (.string ⟨#[49,51]⟩)] (i64 0):=a0b.ev a2H 1000 40 (by kernel_rfl)
theorem tr5:a0b C0 63 [.prim (.string ⟨#[55,53]⟩)] (smF 75 1):=a0b.ev a2H 1000 40 (by kernel_rfl)
theorem tc5:a0b C0 55 [.prim (.string ⟨#[55,53]⟩)] (i64 0):=a0b.ev a2H 1000 40 (by kernel_rfl)
theorem tr6:a0b C0 63 [.prim (.string ⟨#[49,52]⟩)] (smF 14 1):=a0b.ev a2H 1000 40 (by kernel_rfl)
theorem tc6:a0b C0 55 [.prim (.string ⟨#[49,52]⟩)] (i64 0):=a0b.ev a2H 1000 40 (by kernel_rfl)
theorem tr7:a0b C0 63 [.prim (.string ⟨#[49,54]⟩)] (smF 16 1):=a0b.ev a2H 1000 40 (by kernel_rfl)
theorem tc7:a0b C0 55 [.prim (.string ⟨#[49,54]⟩)] (i64 0):=a0b.ev a2H 1000 40 (by kernel_rfl)
theorem tr8:a0b C0 63 [.prim (.string ⟨#[54,55,47,53]⟩)] (smF 67 5):=a0b.ev a2H 1000 40 (by kernel_rfl)
theorem tc8:a0b C0 55 [.prim (.string ⟨#[54,55,47,53]⟩)] (i64 0):=a0b.ev a2H 1000 40 (by kernel_rfl)
theorem tr9:a0b C0 63 [.prim (.string ⟨#[55,57]⟩)] (smF 79 1):=a0b.ev a2H 1000 40 (by kernel_rfl)
theorem tc9:a0b C0 55 [.prim (.string ⟨#[55,57]⟩)] (i64 0):=a0b.ev a2H 1000 40 (by kernel_rfl)
theorem d3s:a0b C0 63 [.prim (.string ⟨#[51]⟩)] (smF 3 1):=a0b.ev a2H 1000 40 (by kernel_rfl)
theorem d3G:a0b C0 55 [.prim (.string ⟨#[51]⟩)] (i64 0):=a0b.ev a2H 1000 40 (by kernel_rfl)
theorem d2X:a0b C0 63 [.prim (.string ⟨#[49,53]⟩)] (smF 15 1):=a0b.ev a2H 1000 40 (by kernel_rfl)
theorem d3N:a0b C0 55 [.prim (.string ⟨#[49,53]⟩)] (i64 0):=a0b.ev a2H 1000 40 (by kernel_rfl)
theorem d4k:a0b C0 63 [.prim (.string ⟨#[49,55]⟩)] (smF 17 1):=a0b.ev a2H 1000 40 (by kernel_rfl)
theorem d3U:a0b C0 55 [.prim (.string ⟨#[49,55]⟩)] (i64 0):=a0b.ev a2H 1000 40 (by kernel_rfl)
theorem d3i:a0b C0 63 [.prim (.string ⟨#[55,55]⟩)] (smF 77 1):=a0b.ev a2H 1000 40 (by kernel_rfl)
theorem d2Z:a0b C0 55 [.prim (.string ⟨#[55,55]⟩)] (i64 0):=a0b.ev a2H 1000 40 (by kernel_rfl)
theorem d3c:a0b C0 63 [.prim (.string ⟨#[56,48]⟩)] (smF 80 1):=a0b.ev a2H 1000 40 (by kernel_rfl)
theorem d3x:a0b C0 55 [.prim (.string ⟨#[56,48]⟩)] (i64 0):=a0b.ev a2H 1000 40 (by kernel_rfl)
theorem d3A:a0b C0 63 [.prim (.string ⟨#[49,51,52,52,57,47,49,48,48,48]⟩)] (smF 13449 1000):=a0b.ev a2H 1000 40 (by kernel_rfl)
theorem d3C:a0b C0 55 [.prim (.string ⟨#[49,51,52,52,57,47,49,48,48,48]⟩)] (i64 0):=a0b.ev a2H 1000 40 (by kernel_rfl)
theorem d3m:a0b C0 63 [.prim (.string ⟨#[54,57,47,53]⟩)] (smF 69 5):=a0b.ev a2H 1000 40 (by kernel_rfl)
theorem d3M:a0b C0 55 [.prim (.string ⟨#[54,57,47,53]⟩)] (i64 0):=a0b.ev a2H 1000 40 (by kernel_rfl)
theorem d3v:a0b C0 63 [.prim (.string ⟨#[54,56,47,53]⟩)] (smF 68 5):=a0b.ev a2H 1000 40 (by kernel_rfl)
theorem d3j:a0b C0 55 [.prim (.string ⟨#[54,56,47,53]⟩)] (i64 0):=a0b.ev a2H 1000 40 (by kernel_rfl)
theorem d3S:a0b C0 63 [.prim (.string ⟨#[49,50]⟩)] (smF 12 1):=a0b.ev a2H 1000 40 (by kernel_rfl)
theorem d3L:a0b C0 55 [.prim (.string ⟨#[49,50]⟩)] (i64 0):=a0b.ev a2H 1000 40 (by kernel_rfl)
theorem d3F:a0b C0 63 [.prim (.string ⟨#[49,48,48]⟩)] (smF 100 1):=a0b.ev a2H 1000 40 (by kernel_rfl)
theorem d3K:a0b C0 55 [.prim (.string ⟨#[49,48,48]⟩)] (i64 0):=a0b.ev a2H 1000 40 (by kernel_rfl)
theorem d3W:a0b C0 63 [.prim (.string ⟨#[53,48]⟩)] (smF 50 1):=a0b.ev a2H 1000 40 (by kernel_rfl)
theorem d3g:a0b C0 55 [.prim (.string ⟨#[53,48]⟩)] (i64 0):=a0b.ev a2H 1000 40 (by kernel_rfl)
theorem d3V:a0b C0 63 [.prim (.string ⟨#[49,53,48]⟩)] (smF 150 1):=a0b.ev a2H 1000 40 (by kernel_rfl)
theorem d3p:a0b C0 55 [.prim (.string ⟨#[49,53,48]⟩)] (i64 0):=a0b.ev a2H 1000 40 (by kernel_rfl)
theorem d2W:a0b C0 63 [.prim (.string ⟨#[50,48,48]⟩)] (smF 200 1):=a0b.ev a2H 1000 40 (by kernel_rfl)
theorem d3w:a0b C0 55 [.prim (.string ⟨#[50,48,48]⟩)] (i64 0):=a0b.ev a2H 1000 40 (by kernel_rfl)
theorem d3Z:a0b C0 63 [.prim (.string ⟨#[51,48,48]⟩)] (smF 300 1):=a0b.ev a2H 1000 40 (by kernel_rfl)
theorem d4h:a0b C0 55 [.prim (.string ⟨#[51,48,48]⟩)] (i64 0):=a0b.ev a2H 1000 40 (by kernel_rfl)
def b2s:List (Nat × List D × D)→Nat→List D→Option D
 | [],_,_=>none
 | (g,a,d)::r,f,ds=>match Nat.beq f g&&eqL (eqD 30) ds a with
  | true=>some d
  | false=>b2s r f ds
theorem a6W:∀ (t:List (Nat × List D × D)),(∀ e∈t,a0b C0 e.1 e.2.1 e.2.2∧ArePure e.2.1)→∀ (f:Nat) (ds:List D) (d:D),b2s t f ds=some d→a0b C0 f ds d∧ArePure ds
 | [],_,f,ds,d,h=>by simp [b2s] at h
 | (g,a,d0)::r,ht,f,ds,d,h=>by
  unfold b2s at h;split at h
  ·rename_i hb
   simp only [Bool.and_eq_true] at hb;obtain rfl:=Nat.eq_of_beq_eq_true hb.1;obtain rfl:=b0R (b0K _) hb.2;cases h;exact ht _ List.mem_cons_self
  ·exact a6W r (fun e he=>ht e (List.mem_cons_of_mem _ he)) f ds d h
def d0F:List (Nat × List D × D):=[(63,[.prim (.string ⟨#[49,47,53]⟩)],smF 1 5),(63,[.prim (.string ⟨#[49,47,49,48]⟩)],smF 1 10),(63,[.prim (.string ⟨#[49,47,50]⟩)],smF 1 2),(63,[.prim (.string ⟨#[55,56]⟩)],smF 78 1),(63,[.prim (.string ⟨#[49,51]⟩)],smF 13 1),(63,[.prim (.string ⟨#[55,53]⟩)],smF 75 1),(63,[.prim (.string ⟨#[49,52]⟩)],smF 14 1),(63,[.prim (.string ⟨#[49,54]⟩)],smF 16 1),(63,[.prim (.string ⟨#[54,55,47,53]⟩)],smF 67 5),(63,[.prim (.string ⟨#[55,57]⟩)],smF 79 1),(63,[.prim (.string ⟨#[51]⟩)],smF 3 1),(63,[.prim (.string ⟨#[49,53]⟩)],smF 15 1),(63,[.prim (.string ⟨#[49,55]⟩)],smF 17 1),(63,[.prim (.string ⟨#[55,55]⟩)],smF 77 1),(63,[.prim (.string ⟨#[56,48]⟩)],smF 80 1),(63,[.prim (.string ⟨#[49,51,52,52,57,47,49,48,48,48]⟩)],smF 13449 1000),(63,[.prim (.string ⟨#[54,57,47,53]⟩)],smF 69 5),(63,[.prim (.string ⟨#[54,56,47,53]⟩)],smF 68 5),(63,[.prim (.string ⟨#[49,50]⟩)],smF 12 1),(63,[.prim (.string ⟨#[49,48,48]⟩)],smF 100 1),(63,[.prim (.string ⟨#[53,48]⟩)],smF 50 1),(63,[.prim (.string ⟨#[49,53,48]⟩)],smF 150 1),(63,[.prim (.string ⟨#[50,48,48]⟩)],smF 200 1),(63,[.prim (.string ⟨#[51,48,48]⟩)],smF 300 1)]
def d1f:List (Nat × List D × D):=[(55,[.prim (.string ⟨#[49,47,53]⟩)],i64 0),(55,[.prim (.string ⟨#[49,47,49,48]⟩)],i64 0),(55,[.prim (.string ⟨#[49,47,50]⟩)],i64 0),(55,[.prim (.string ⟨#[55,56]⟩)],i64 0),(55,[.prim (.string ⟨#[49,51]⟩)],i64 0),(55,[.prim (.string ⟨#[55,53]⟩)],i64 0),(55,[.prim (.string ⟨#[49,52]⟩)],i64 0),(55,[.prim (.string ⟨#[49,54]⟩)],i64 0),(55,[.prim (.string ⟨#[54,55,47,53]⟩)],i64 0),(55,[.prim (.string ⟨#[55,57]⟩)],i64 0),(55,[.prim (.string ⟨#[51]⟩)],i64 0),(55,[.prim (.string ⟨#[49,53]⟩)],i64 0),(55,[.prim (.string ⟨#[49,55]⟩)],i64 0),(55,[.prim (.string ⟨#[55,55]⟩)],i64 0),(55,[.prim (.string ⟨#[56,48]⟩)],i64 0),(55,[.prim (.string ⟨#[49,51,52,52,57,47,49,48,48,48]⟩)],i64 0),(55,[.prim (.string ⟨#[54,57,47,53]⟩)],i64 0),(55,[.prim (.string ⟨#[54,56,47,53]⟩)],i64 0),(55,[.prim (.string ⟨#[49,50]⟩)],i64 0),(55,[.prim (.string ⟨#[49,48,48]⟩)],i64 0),(55,[.prim (.string ⟨#[53,48]⟩)],i64 0),(55,[.prim (.string ⟨#[49,53,48]⟩)],i64 0),(55,[.prim (.string ⟨#[50,48,48]⟩)],i64 0),(55,[.prim (.string ⟨#[51,48,48]⟩)],i64 0)]
theorem c4b:∀ e∈d0F,a0b C0 e.1 e.2.1 e.2.2∧ArePure e.2.1:=by
 intro e he;simp only [d0F,List.mem_cons,List.not_mem_nil,or_false] at he;rcases he with rfl|rfl|rfl|rfl|rfl|rfl|rfl|rfl|rfl|rfl|rfl|rfl|rfl|rfl|rfl|rfl|rfl|rfl|rfl|rfl|rfl|rfl|rfl|rfl
 ·exact ⟨tr0,inferInstance⟩
 ·exact ⟨tr1,inferInstance⟩
 ·exact ⟨tr2,inferInstance⟩
 ·exact ⟨tr3,inferInstance⟩
 ·exact ⟨tr4,inferInstance⟩
 ·exact ⟨tr5,inferInstance⟩
 ·exact ⟨tr6,inferInstance⟩
 ·exact ⟨tr7,inferInstance⟩
 ·exact ⟨tr8,inferInstance⟩
 ·exact ⟨tr9,inferInstance⟩
 ·exact ⟨d3s,inferInstance⟩
 ·exact ⟨d2X,inferInstance⟩
 ·exact ⟨d4k,inferInstance⟩
 ·exact ⟨d3i,inferInstance⟩
 ·exact ⟨d3c,inferInstance⟩
 ·exact ⟨d3A,inferInstance⟩
 ·exact ⟨d3m,inferInstance⟩
 ·exact ⟨d3v,inferInstance⟩
 ·exact ⟨d3S,inferInstance⟩
 ·exact ⟨d3F,inferInstance⟩
 ·exact ⟨d3W,inferInstance⟩
 ·exact ⟨d3V,inferInstance⟩
 ·exact ⟨d2W,inferInstance⟩
 ·exact ⟨d3Z,inferInstance⟩
theorem c4e:∀ e∈d1f,a0b C0 e.1 e.2.1 e.2.2∧ArePure e.2.1:=by
 intro e he;simp only [d1f,List.mem_cons,List.not_mem_nil,or_false] at he;rcases he with rfl|rfl|rfl|rfl|rfl|rfl|rfl|rfl|rfl|rfl|rfl|rfl|rfl|rfl|rfl|rfl|rfl|rfl|rfl|rfl|rfl|rfl|rfl|rfl
 ·exact ⟨tc0,inferInstance⟩
 ·exact ⟨tc1,inferInstance⟩
 ·exact ⟨tc2,inferInstance⟩
 ·exact ⟨tc3,inferInstance⟩
 ·exact ⟨tc4,inferInstance⟩
 ·exact ⟨tc5,inferInstance⟩
 ·exact ⟨tc6,inferInstance⟩
 ·exact ⟨tc7,inferInstance⟩
 ·exact ⟨tc8,inferInstance⟩
 ·exact ⟨tc9,inferInstance⟩
 ·exact ⟨d3G,inferInstance⟩
 ·exact ⟨d3N,inferInstance⟩
 ·exact ⟨d3U,inferInstance⟩
 ·exact ⟨d2Z,inferInstance⟩
 ·exact ⟨d3x,inferInstance⟩
 ·exact ⟨d3C,inferInstance⟩
 ·exact ⟨d3M,inferInstance⟩
 ·exact ⟨d3j,inferInstance⟩
 ·exact ⟨d3L,inferInstance⟩
 ·exact ⟨d3K,inferInstance⟩
 ·exact ⟨d3g,inferInstance⟩
 ·exact ⟨d3p,inferInstance⟩
 ·exact ⟨d3w,inferInstance⟩
 ·exact ⟨d4h,inferInstance⟩
def d0n (o:Nat→List D→Option D)(f:Nat)(ds:List D):Option D:=match Nat.beq f 63 with
 | true=>b2s d0F f ds
 | false=>match Nat.beq f 55 with
  | true=>b2s d1f f ds
  | false=>o f ds
theorem b8P {o:Nat→List D→Option D}(ho:∀ f ds d,o f ds=some d→a0b C0 f ds d∧ArePure ds)(f:Nat)(ds:List D)(d:D)(h:d0n o f ds=some d):a0b C0 f ds d∧ArePure ds:=by
 unfold d0n at h;split at h
 ·exact a6W _ c4b _ _ _ h
 split at h
 ·exact a6W _ c4e _ _ _ h
 ·exact ho _ _ _ h
noncomputable def X4t:EV:=⟨tt2,xbt.get,fbt.get,fun _=>false,c9x (d0n d0g),mtA,b9c⟩
theorem b2N:a9k C0 X4t:=⟨c5J,b3N,ftab,b2V (b8P b7T),by kernel_rfl,b3H,a6b⟩
noncomputable def X2t:EV:=⟨tt2,xbt.get,fbt.get,fun _=>false,c9x (d0n c5U),mtA,b9c⟩
theorem b0u (K:Kn):a9k C0 X2t:=⟨c5J,b3N,ftab,b2V (b8P (c4T K)),by kernel_rfl,b3H,a6b⟩
end Go.Ide
