/- The layer of own lemmas and contracts, part 7. -/
import Derived.Test.YtpehlicnhjoknabGreatDoorP6
import Derived.Test.YtpehlicnhjoknabGreatDoorP3
set_option linter.unusedVariables false
set_option linter.unusedSimpArgs false
namespace Go.Ide
open Go.Proofs Go.RowKit
set_option maxRecDepth 20000
def d1s (f:Nat)(ds:List D):Option D:=match Nat.beq f 162 with
 | true=>none
 | false=>match Nat.beq f 110 with
  | true=>none
  | false=>d0Y f ds
theorem b6s (f:Nat)(ds:List D)(d:D)(h:d1s f ds=some d):a0b C0 f ds d∧ArePure ds:=by
 unfold d1s at h;split at h<;>first|(cases h;done)|skip
 rename_i h27;split at h<;>first|(cases h;done)|skip
 rename_i h64;unfold d0Y at h;split at h
 ·rename_i hf
  obtain rfl:=Nat.eq_of_beq_eq_true hf;split at h<;>first|(cases h;done)|skip
  cases h;exact ⟨a9I,inferInstance⟩
 split at h
 ·rename_i hf
  obtain rfl:=Nat.eq_of_beq_eq_true hf;split at h<;>first|(cases h;done)|skip
  cases h;exact ⟨b0M,inferInstance⟩
 split at h
 ·rename_i hf
  rw [hf] at h27;cases h27
 split at h
 ·rename_i hf
  obtain rfl:=Nat.eq_of_beq_eq_true hf;split at h<;>first|(cases h;done)|skip
  cases h;exact ⟨a5O _,inferInstance⟩
 split at h
 ·rename_i hf
  obtain rfl:=Nat.eq_of_beq_eq_true hf;split at h<;>first|(cases h;done)|skip
  split at h<;>first|(cases h;done)|skip
  rename_i z x hz;have hz:=Nat.le_of_ble_eq_true hz;cases h;refine ⟨?_,inferInstance⟩
  have:=b2U (z:Int) (by omega) (by omega)
  have e:Lib.itoa (z:Int)=dig 19 z:=by
   rcases b7o 19 z (Nat.lt_of_le_of_lt hz (by decide)) with h1|h1
   ·rw [h1];rfl
   ·cases h1
  rw [e] at this;exact this
 split at h
 ·rename_i hf
  obtain rfl:=Nat.eq_of_beq_eq_true hf;split at h<;>first|(cases h;done)|skip
  split at h<;>first|(cases h;done)|skip
  split at h<;>first|(cases h;done)|skip
  rename_i s b hs o n hn;cases h;exact ⟨b2P _ n (Nat.le_of_ble_eq_true hs) hn,inferInstance⟩
 split at h
 ·rename_i hf
  rw [hf] at h64;cases h64
 ·cases h
noncomputable def X6:EV:=⟨tt2,xbt.get,fbt.get,fun _=>false,c7V d1s,mtA,b9M⟩
theorem a2Q:a9A C0 X6:=⟨c6D,b4B,ftab,b2M b6s,by kernel_rfl,b3A,a6p⟩
theorem tr0:a0b C0 70 [.prim (.string ⟨#[49,47,53]⟩)] (smF 1 5):=a0b.ev a2Q 1000 40 (by kernel_rfl)
theorem tc0:a0b C0 98 [.prim (.string ⟨#[49,47,53]⟩)] (i64 0):=a0b.ev a2Q 1000 40 (by kernel_rfl)
theorem tr1:a0b C0 70 [.prim (.string ⟨#[49,47,49,48]⟩)] (smF 1 10):=a0b.ev a2Q 1000 40 (by kernel_rfl)
theorem tc1:a0b C0 98 [.prim (.string ⟨#[49,47,49,48]⟩)] (i64 0):=a0b.ev a2Q 1000 40 (by kernel_rfl)
theorem tr2:a0b C0 70 [.prim (.string ⟨#[49,47,50]⟩)] (smF 1 2):=a0b.ev a2Q 1000 40 (by kernel_rfl)
theorem tc2:a0b C0 98 [.prim (.string ⟨#[49,47,50]⟩)] (i64 0):=a0b.ev a2Q 1000 40 (by kernel_rfl)
theorem tr3:a0b C0 70 [.prim (.string ⟨#[55,56]⟩)] (smF 78 1):=a0b.ev a2Q 1000 40 (by kernel_rfl)
theorem tc3:a0b C0 98 [.prim (.string ⟨#[55,56]⟩)] (i64 0):=a0b.ev a2Q 1000 40 (by kernel_rfl)
theorem tr4:a0b C0 70 [.prim (.string ⟨#[49,51]⟩)] (smF 13 1):=a0b.ev a2Q 1000 40 (by kernel_rfl)
theorem tc4:a0b C0 98 [.prim (.string ⟨#[49,51]⟩)] (i64 0):=a0b.ev a2Q 1000 40 (by kernel_rfl)
theorem tr5:a0b C0 70 [.prim (.string ⟨#[55,53]⟩)] (smF 75 1):=a0b.ev a2Q 1000 40 (by kernel_rfl)
theorem tc5:a0b C0 98 [.prim (.string ⟨#[55,53]⟩)] (i64 0):=a0b.ev a2Q 1000 40 (by kernel_rfl)
theorem tr6:a0b C0 70 [.prim (.string ⟨#[49,52]⟩)] (smF 14 1):=a0b.ev a2Q 1000 40 (by kernel_rfl)
theorem tc6:a0b C0 98 [.prim (.string ⟨#[49,52]⟩)] (i64 0):=a0b.ev a2Q 1000 40 (by kernel_rfl)
theorem tr7:a0b C0 70 [.prim (.string ⟨#[49,54]⟩)] (smF 16 1):=a0b.ev a2Q 1000 40 (by kernel_rfl)
theorem tc7:a0b C0 98 [.prim (.string ⟨#[49,54]⟩)] (i64 0):=a0b.ev a2Q 1000 40 (by kernel_rfl)
theorem tr8:a0b C0 70 [.prim (.string ⟨#[54,55,47,53]⟩)] (smF 67 5):=a0b.ev a2Q 1000 40 (by kernel_rfl)
theorem tc8:a0b C0 98 [.prim (.string ⟨#[54,55,47,53]⟩)] (i64 0):=a0b.ev a2Q 1000 40 (by kernel_rfl)
theorem tr9:a0b C0 70 [.prim (.string ⟨#[55,57]⟩)] (smF 79 1):=a0b.ev a2Q 1000 40 (by kernel_rfl)
theorem tc9:a0b C0 98 [.prim (.string ⟨#[55,57]⟩)] (i64 0):=a0b.ev a2Q 1000 40 (by kernel_rfl)
theorem d5d:a0b C0 70 [.prim (.string ⟨#[51]⟩)] (smF 3 1):=a0b.ev a2Q 1000 40 (by kernel_rfl)
theorem d4t:a0b C0 98 [.prim (.string ⟨#[51]⟩)] (i64 0):=a0b.ev a2Q 1000 40 (by kernel_rfl)
theorem d4N:a0b C0 70 [.prim (.string ⟨#[49,53]⟩)] (smF 15 1):=a0b.ev a2Q 1000 40 (by kernel_rfl)
theorem d4c:a0b C0 98 [.prim (.string ⟨#[49,53]⟩)] (i64 0):=a0b.ev a2Q 1000 40 (by kernel_rfl)
theorem d4Y:a0b C0 70 [.prim (.string ⟨#[49,55]⟩)] (smF 17 1):=a0b.ev a2Q 1000 40 (by kernel_rfl)
theorem d4s:a0b C0 98 [.prim (.string ⟨#[49,55]⟩)] (i64 0):=a0b.ev a2Q 1000 40 (by kernel_rfl)
theorem d4K:a0b C0 70 [.prim (.string ⟨#[55,55]⟩)] (smF 77 1):=a0b.ev a2Q 1000 40 (by kernel_rfl)
theorem d5q:a0b C0 98 [.prim (.string ⟨#[55,55]⟩)] (i64 0):=a0b.ev a2Q 1000 40 (by kernel_rfl)
theorem d5a:a0b C0 70 [.prim (.string ⟨#[56,48]⟩)] (smF 80 1):=a0b.ev a2Q 1000 40 (by kernel_rfl)
theorem d5k:a0b C0 98 [.prim (.string ⟨#[56,48]⟩)] (i64 0):=a0b.ev a2Q 1000 40 (by kernel_rfl)
theorem d3W:a0b C0 70 [.prim (.string ⟨#[49,51,52,52,57,47,49,48,48,48]⟩)] (smF 13449 1000):=a0b.ev a2Q 1000 40 (by kernel_rfl)
theorem d4q:a0b C0 98 [.prim (.string ⟨#[49,51,52,52,57,47,49,48,48,48]⟩)] (i64 0):=a0b.ev a2Q 1000 40 (by kernel_rfl)
theorem d5t:a0b C0 70 [.prim (.string ⟨#[54,57,47,53]⟩)] (smF 69 5):=a0b.ev a2Q 1000 40 (by kernel_rfl)
theorem d5v:a0b C0 98 [.prim (.string ⟨#[54,57,47,53]⟩)] (i64 0):=a0b.ev a2Q 1000 40 (by kernel_rfl)
theorem d3Z:a0b C0 70 [.prim (.string ⟨#[54,56,47,53]⟩)] (smF 68 5):=a0b.ev a2Q 1000 40 (by kernel_rfl)
theorem d5f:a0b C0 98 [.prim (.string ⟨#[54,56,47,53]⟩)] (i64 0):=a0b.ev a2Q 1000 40 (by kernel_rfl)
theorem d5c:a0b C0 70 [.prim (.string ⟨#[49,50]⟩)] (smF 12 1):=a0b.ev a2Q 1000 40 (by kernel_rfl)
theorem d4H:a0b C0 98 [.prim (.string ⟨#[49,50]⟩)] (i64 0):=a0b.ev a2Q 1000 40 (by kernel_rfl)
theorem d5o:a0b C0 70 [.prim (.string ⟨#[49,48,48]⟩)] (smF 100 1):=a0b.ev a2Q 1000 40 (by kernel_rfl)
theorem d4p:a0b C0 98 [.prim (.string ⟨#[49,48,48]⟩)] (i64 0):=a0b.ev a2Q 1000 40 (by kernel_rfl)
theorem d4k:a0b C0 70 [.prim (.string ⟨#[53,48]⟩)] (smF 50 1):=a0b.ev a2Q 1000 40 (by kernel_rfl)
theorem d4F:a0b C0 98 [.prim (.string ⟨#[53,48]⟩)] (i64 0):=a0b.ev a2Q 1000 40 (by kernel_rfl)
theorem d4A:a0b C0 70 [.prim (.string ⟨#[49,53,48]⟩)] (smF 150 1):=a0b.ev a2Q 1000 40 (by kernel_rfl)
theorem d5p:a0b C0 98 [.prim (.string ⟨#[49,53,48]⟩)] (i64 0):=a0b.ev a2Q 1000 40 (by kernel_rfl)
theorem d4d:a0b C0 70 [.prim (.string ⟨#[50,48,48]⟩)] (smF 200 1):=a0b.ev a2Q 1000 40 (by kernel_rfl)
theorem d4W:a0b C0 98 [.prim (.string ⟨#[50,48,48]⟩)] (i64 0):=a0b.ev a2Q 1000 40 (by kernel_rfl)
theorem d5n:a0b C0 70 [.prim (.string ⟨#[51,48,48]⟩)] (smF 300 1):=a0b.ev a2Q 1000 40 (by kernel_rfl)
theorem d4w:a0b C0 98 [.prim (.string ⟨#[51,48,48]⟩)] (i64 0):=a0b.ev a2Q 1000 40 (by kernel_rfl)
def b3p:List (Nat × List D × D)→Nat→List D→Option D
 | [],_,_=>none
 | (g,a,d)::r,f,ds=>match Nat.beq f g&&eqL (eqD 30) ds a with
  | true=>some d
  | false=>b3p r f ds
theorem a7m:∀ (t:List (Nat × List D × D)),(∀ e∈t,a0b C0 e.1 e.2.1 e.2.2∧ArePure e.2.1)→∀ (f:Nat) (ds:List D) (d:D),b3p t f ds=some d→a0b C0 f ds d∧ArePure ds
 | [],_,f,ds,d,h=>by simp [b3p] at h
 | (g,a,d0)::r,ht,f,ds,d,h=>by
  unfold b3p at h;split at h
  ·rename_i hb
   simp only [Bool.and_eq_true] at hb;obtain rfl:=Nat.eq_of_beq_eq_true hb.1;obtain rfl:=b0P (b1y _) hb.2;cases h;exact ht _ List.mem_cons_self
  ·exact a7m r (fun e he=>ht e (List.mem_cons_of_mem _ he)) f ds d h
def d2y:List (Nat × List D × D):=[(70,[.prim (.string ⟨#[49,47,53]⟩)],smF 1 5),(70,[.prim (.string ⟨#[49,47,49,48]⟩)],smF 1 10),(70,[.prim (.string ⟨#[49,47,50]⟩)],smF 1 2),(70,[.prim (.string ⟨#[55,56]⟩)],smF 78 1),(70,[.prim (.string ⟨#[49,51]⟩)],smF 13 1),(70,[.prim (.string ⟨#[55,53]⟩)],smF 75 1),(70,[.prim (.string ⟨#[49,52]⟩)],smF 14 1),(70,[.prim (.string ⟨#[49,54]⟩)],smF 16 1),(70,[.prim (.string ⟨#[54,55,47,53]⟩)],smF 67 5),(70,[.prim (.string ⟨#[55,57]⟩)],smF 79 1),(70,[.prim (.string ⟨#[51]⟩)],smF 3 1),(70,[.prim (.string ⟨#[49,53]⟩)],smF 15 1),(70,[.prim (.string ⟨#[49,55]⟩)],smF 17 1),(70,[.prim (.string ⟨#[55,55]⟩)],smF 77 1),(70,[.prim (.string ⟨#[56,48]⟩)],smF 80 1),(70,[.prim (.string ⟨#[49,51,52,52,57,47,49,48,48,48]⟩)],smF 13449 1000),(70,[.prim (.string ⟨#[54,57,47,53]⟩)],smF 69 5),(70,[.prim (.string ⟨#[54,56,47,53]⟩)],smF 68 5),(70,[.prim (.string ⟨#[49,50]⟩)],smF 12 1),(70,[.prim (.string ⟨#[49,48,48]⟩)],smF 100 1),(70,[.prim (.string ⟨#[53,48]⟩)],smF 50 1),(70,[.prim (.string ⟨#[49,53,48]⟩)],smF 150 1),(70,[.prim (.string ⟨#[50,48,48]⟩)],smF 200 1),(70,[.prim (.string ⟨#[51,48,48]⟩)],smF 300 1)]
def d2l:List (Nat × List D × D):=[(98,[.prim (.string ⟨#[49,47,53]⟩)],i64 0),(98,[.prim (.string ⟨#[49,47,49,48]⟩)],i64 0),(98,[.prim (.string ⟨#[49,47,50]⟩)],i64 0),(98,[.prim (.string ⟨#[55,56]⟩)],i64 0),(98,[.prim (.string ⟨#[49,51]⟩)],i64 0),(98,[.prim (.string ⟨#[55,53]⟩)],i64 0),(98,[.prim (.string ⟨#[49,52]⟩)],i64 0),(98,[.prim (.string ⟨#[49,54]⟩)],i64 0),(98,[.prim (.string ⟨#[54,55,47,53]⟩)],i64 0),(98,[.prim (.string ⟨#[55,57]⟩)],i64 0),(98,[.prim (.string ⟨#[51]⟩)],i64 0),(98,[.prim (.string ⟨#[49,53]⟩)],i64 0),(98,[.prim (.string ⟨#[49,55]⟩)],i64 0),(98,[.prim (.string ⟨#[55,55]⟩)],i64 0),(98,[.prim (.string ⟨#[56,48]⟩)],i64 0),(98,[.prim (.string ⟨#[49,51,52,52,57,47,49,48,48,48]⟩)],i64 0),(98,[.prim (.string ⟨#[54,57,47,53]⟩)],i64 0),(98,[.prim (.string ⟨#[54,56,47,53]⟩)],i64 0),(98,[.prim (.string ⟨#[49,50]⟩)],i64 0),(98,[.prim (.string ⟨#[49,48,48]⟩)],i64 0),(98,[.prim (.string ⟨#[53,48]⟩)],i64 0),(98,[.prim (.string ⟨#[49,53,48]⟩)],i64 0),(98,[.prim (.string ⟨#[50,48,48]⟩)],i64 0),(98,[.prim (.string ⟨#[51,48,48]⟩)],i64 0)]
theorem c3Y:∀ e∈d2y,a0b C0 e.1 e.2.1 e.2.2∧ArePure e.2.1:=by
 intro e he;simp only [d2y,List.mem_cons,List.not_mem_nil,or_false] at he;rcases he with rfl|rfl|rfl|rfl|rfl|rfl|rfl|rfl|rfl|rfl|rfl|rfl|rfl|rfl|rfl|rfl|rfl|rfl|rfl|rfl|rfl|rfl|rfl|rfl
 ·exact ⟨tr0,inferInstance⟩
 ·exact ⟨tr1,inferInstance⟩
 ·exact ⟨tr2,inferInstance⟩
 ·exact ⟨tr3,inferInstance⟩
 ·exact ⟨tr4,inferInstance⟩
 ·exact ⟨tr5,inferInstance⟩
 ·exact ⟨tr6,inferInstance⟩
 ·exact ⟨tr7,inferInstance⟩
 ·exact ⟨tr8,inferInstance⟩
 ·exact ⟨tr9,inferInstance⟩
 ·exact ⟨d5d,inferInstance⟩
 ·exact ⟨d4N,inferInstance⟩
 ·exact ⟨d4Y,inferInstance⟩
 ·exact ⟨d4K,inferInstance⟩
 ·exact ⟨d5a,inferInstance⟩
 ·exact ⟨d3W,inferInstance⟩
 ·exact ⟨d5t,inferInstance⟩
 ·exact ⟨d3Z,inferInstance⟩
 ·exact ⟨d5c,inferInstance⟩
 ·exact ⟨d5o,inferInstance⟩
 ·exact ⟨d4k,inferInstance⟩
 ·exact ⟨d4A,inferInstance⟩
 ·exact ⟨d4d,inferInstance⟩
 ·exact ⟨d5n,inferInstance⟩
theorem c4i:∀ e∈d2l,a0b C0 e.1 e.2.1 e.2.2∧ArePure e.2.1:=by
 intro e he;simp only [d2l,List.mem_cons,List.not_mem_nil,or_false] at he;rcases he with rfl|rfl|rfl|rfl|rfl|rfl|rfl|rfl|rfl|rfl|rfl|rfl|rfl|rfl|rfl|rfl|rfl|rfl|rfl|rfl|rfl|rfl|rfl|rfl
 ·exact ⟨tc0,inferInstance⟩
 ·exact ⟨tc1,inferInstance⟩
 ·exact ⟨tc2,inferInstance⟩
 ·exact ⟨tc3,inferInstance⟩
 ·exact ⟨tc4,inferInstance⟩
 ·exact ⟨tc5,inferInstance⟩
 ·exact ⟨tc6,inferInstance⟩
 ·exact ⟨tc7,inferInstance⟩
 ·exact ⟨tc8,inferInstance⟩
 ·exact ⟨tc9,inferInstance⟩
 ·exact ⟨d4t,inferInstance⟩
 ·exact ⟨d4c,inferInstance⟩
 ·exact ⟨d4s,inferInstance⟩
 ·exact ⟨d5q,inferInstance⟩
 ·exact ⟨d5k,inferInstance⟩
 ·exact ⟨d4q,inferInstance⟩
 ·exact ⟨d5v,inferInstance⟩
 ·exact ⟨d5f,inferInstance⟩
 ·exact ⟨d4H,inferInstance⟩
 ·exact ⟨d4p,inferInstance⟩
 ·exact ⟨d4F,inferInstance⟩
 ·exact ⟨d5p,inferInstance⟩
 ·exact ⟨d4W,inferInstance⟩
 ·exact ⟨d4w,inferInstance⟩
def d1n (o:Nat→List D→Option D)(f:Nat)(ds:List D):Option D:=match Nat.beq f 70 with
 | true=>b3p d2y f ds
 | false=>match Nat.beq f 98 with
  | true=>b3p d2l f ds
  | false=>o f ds
theorem b6V {o:Nat→List D→Option D}(ho:∀ f ds d,o f ds=some d→a0b C0 f ds d∧ArePure ds)(f:Nat)(ds:List D)(d:D)(h:d1n o f ds=some d):a0b C0 f ds d∧ArePure ds:=by
 unfold d1n at h;split at h
 ·exact a7m _ c3Y _ _ _ h
 split at h
 ·exact a7m _ c4i _ _ _ h
 ·exact ho _ _ _ h
noncomputable def X4t:EV:=⟨tt2,xbt.get,fbt.get,fun _=>false,c7V (d1n d1s),mtA,b9M⟩
theorem b2I:a9A C0 X4t:=⟨c6D,b4B,ftab,b2M (b6V b6s),by kernel_rfl,b3A,a6p⟩
noncomputable def X2t:EV:=⟨tt2,xbt.get,fbt.get,fun _=>false,c7V (d1n d0Y),mtA,b9M⟩
theorem a9Y (K:Kn):a9A C0 X2t:=⟨c6D,b4B,ftab,b2M (b6V (c5j K)),by kernel_rfl,b3A,a6p⟩
end Go.Ide
