/- The layer of own lemmas and contracts, part 14. -/
import Derived.Test.YtpehlicnhjoknaaGreatDoorP12
import Derived.Test.YtpehlicnhjoknaaGreatDoorP13
import Derived.Test.YtpehlicnhjoknaaGreatDoorRows
import Derived.ProofKit
import Derived.OpenShut
import Derived.ShutString
import Derived.ChangeOld
import Derived.Below
import Derived.Carry
import Derived.Lay
import Derived.Stop.LaidErr
import Derived.SevenTiedAt
import Derived.Laws.IdiomArrays
set_option linter.unusedVariables false
set_option linter.unusedSimpArgs false
/- GradePatterns' row: what the call gives, of whatever input. -/
namespace Go.Proofs.YtpehlicnhjoknaaGreatDoor
open Go Go.Ide Go.ChangeShapes Go.WideShapes Go.ChangeAt Go.RowKit
open Go.ChangeMaps (open_string shut_string)
set_option linter.unusedVariables false
set_option linter.unusedSimpArgs false
theorem own : ownKnob Tryz.prog.godebug = none := by kernel_rfl
theorem laidOut : laidOutB Tryz.prog = true := by kernel_rfl
theorem tab_of {W : World} (h : laidMet Tryz.prog Rows.gradePatternsRow.laid W) : G0 W := by
  have h2 : laidMet Tryz.prog (("internal/strconv.uint64pow10", Lib.tabData .u64 Lib.pow10Tab) :: [("unicode/utf8.acceptRanges", Rows.laid_unicode_utf8_acceptRanges), ("strconv.ErrRange", Rows.laid_strconv_ErrRange), ("strconv.ErrSyntax", Rows.laid_strconv_ErrSyntax), ("unicode/utf8.first", Rows.laid_unicode_utf8_first)]) W := laidMet.tail (laidMet.tail h)
  exact Lib.tabIs_of_head (g := 3) (t := 360) (e := 260) (n := 20) (by kernel_rfl) (by kernel_rfl) (by kernel_rfl) (by kernel_rfl) (by kernel_rfl) (by kernel_rfl) h2
theorem size_of {W : World} (h : G0 W) : C0.nG ≤ W.heap.size := by
  have hc := Lib.TabIs.cell h (by kernel_rfl : Tryz.prog.globalNamed "internal/strconv.uint64pow10" = some 3) 0 (by decide)
  have : 3 < W.heap.size := by
    apply Classical.byContradiction
    intro hn
    simp [World.cell?, Array.getElem?_eq_none (Nat.le_of_not_lt hn)] at hc
  show 3 + 1 ≤ W.heap.size
  omega
theorem arr3 (cs : Array Value) (h : cs.size = 3) : ∃ a b c, cs = #[a, b, c] := by
  match cs, h with
  | ⟨[a, b, c]⟩, _ => exact ⟨a, b, c, rfl⟩
set_option maxRecDepth 100000 in
theorem lifted (os : Os) (started : os.Started) (H : Type) (enc : TypeId × Value → H) :
    ReturnsInHanded {} Tryz.checked os 3 .any (fun w args => (Rows.gradePatternsSpec.pre enc Tryz.prog Tryz.f3 [] false w args ∧ laidMetH Tryz.prog Rows.gradePatternsRow.laid w) ∧ sizedMet enc Tryz.prog Tryz.f3 (OpenSpec.ofChange Rows.gradePatternsSpec) false w args)
      (Rows.gradePatternsSpec.post enc Tryz.prog Tryz.f3 false true false false) := by
  refine returnsInHanded_of_change_and (C := Tryz.checked) (X := fun w _ => laidMetH Tryz.prog Rows.gradePatternsRow.laid w) (fun _ _ _ hh h => h.of_heap hh) own started (by kernel_rfl) Tryz.func3
    (ChangeSpec.witness_shaped (enc := enc) (C := Tryz.checked) (os := os) (X := fun w _ => laidMetH Tryz.prog Rows.gradePatternsRow.laid w) false (World.laidAll Tryz.prog os Rows.gradePatternsRow.laid) #[.int .i64 0, .string ⟨#[]⟩, .agg #[.int .i64 0, .int .i64 0, .int .i64 0]] 8 (World.laidAll_os _ _ _)
      (World.shaped_of_ZipB (by kernel_rfl) (by kernel_rfl)) (by kernel_rfl) (by kernel_rfl) (by kernel_rfl)
      (by rw [MakeChecks.laidMetH_plain _ _ _ (by kernel_rfl)]; exact laidMet_laidAll _ (by kernel_rfl) (by kernel_rfl))) ?_
  intro W base args ds gs before hval0 hW _ _ hL _
  have hval : ∀ (j : Nat) t v, Tryz.f3.params[j]? = some t → args[j]? = some v → Value.okWide Tryz.prog W .any base t v := hval0
  have hW' := hW
  obtain ⟨p, q, hA0, hV, rfl, _, _⟩ := hW
  have hA : DataW.TrodAll enc Tryz.prog W 0 (fun _ => true) true Tryz.f3.params.toList args.toList ds p := hA0
  rw [show Tryz.f3.params = #[3, 9, 22] by kernel_rfl] at hA hval
  obtain ⟨v0, vs0, d0, ds0, p0, q0, hargs, rfl, rfl, h0, r0⟩ := trodAll_cons hA
  obtain ⟨v1, vs1, d1, ds1, p1, q1, rfl, rfl, rfl, h1, r1⟩ := trodAll_cons r0
  obtain ⟨v2, vs2, d2, ds2, p2, q2, rfl, rfl, rfl, h2, r2⟩ := trodAll_cons r1
  obtain ⟨rfl, rfl, rfl⟩ := trodAll_nil r2
  obtain rfl : args = #[v0, v1, v2] := Array.ext' hargs
  obtain ⟨rfl, rfl⟩ := trodVars_none hV
  have u3 : Tryz.prog.underlying 3 = some (.int .i64) := by kernel_rfl
  have u9 : Tryz.prog.underlying 9 = some .string := by kernel_rfl
  have u22 : Tryz.prog.underlying 22 = some (.array 3 3) := by kernel_rfl
  have u4 : Tryz.prog.underlying 4 = some .bool := by kernel_rfl
  obtain ⟨a0, rfl, rfl, rfl, w0⟩ := open_int u3 (hval 0 3 v0 rfl rfl) h0
  obtain ⟨s, rfl, rfl, rfl, ws⟩ := open_string u9 (hval 1 9 v1 rfl rfl) h1
  obtain ⟨cs, rfl, hcs⟩ : ∃ cs, v2 = .agg cs ∧ cs.size = Tryz.prog.cellsOf 22 := by
    have := hval 2 22 v2 rfl rfl
    simp only [Value.okWide, u22] at this
    obtain ⟨cs, h1, h2, _⟩ := this
    exact ⟨cs, h1, h2⟩
  rw [show Tryz.prog.cellsOf 22 = 3 by kernel_rfl] at hcs
  have k2 := h2
  obtain ⟨fuel, hf⟩ := h2
  obtain ⟨c0, c1, c2, rfl⟩ := arr3 cs hcs
  obtain ⟨y0, y1, y2, m, hx, hy0, hy1, hy2⟩ := trod_array3 u22 (by kernel_rfl) (show DataW.trod enc Tryz.prog W 0 (fun _ => true) true fuel 22 [c0, c1, c2] = _ from hf)
  obtain ⟨n0, e0, rfl, _⟩ := DataW.trod_int u3 hy0
  obtain ⟨n1, e1, rfl, _⟩ := DataW.trod_int u3 hy1
  obtain ⟨n2, e2, rfl, _⟩ := DataW.trod_int u3 hy2
  simp only [List.cons.injEq, and_true] at e0 e1 e2
  subst e0 e1 e2
  simp only [Prod.mk.injEq, List.append_nil] at hx
  obtain ⟨hx1, rfl⟩ := hx
  simp only [List.append_nil] at hW'
  rw [MakeChecks.laidMetH_plain _ _ _ (by kernel_rfl)] at hL
  have hG := tab_of hL
  have law := (law_ok a0 s n0 n1 n2).2 (fun _ => False) W #[.int .i64 a0, .string s, .agg #[.int .i64 n0, .int .i64 n1, .int .i64 n2]] hG (size_of hG) (fun _ h => h.elim) rfl (fun i d hd => by
    match i with
    | 0 => simp at hd; subst hd; exact .prim _
    | 1 => simp at hd; subst hd; exact .prim _
    | 2 =>
      simp at hd; subst hd
      refine .agg rfl (fun i v hv => ?_) fun i d hd => ?_
      · match i with
        | 0 => simp at hv; subst hv; rfl
        | 1 => simp at hv; subst hv; rfl
        | 2 => simp at hv; subst hv; rfl
        | n + 3 => simp at hv
      · match i with
        | 0 => simp at hd; subst hd; exact .prim _
        | 1 => simp at hd; subst hd; exact .prim _
        | 2 => simp at hd; subst hd; exact .prim _
        | n + 3 => simp at hd
    | n + 3 => simp at hd)
  clear hA0 hval0
  refine law.mono fun e W' ⟨v, d, he, hb, hd, rep⟩ => ?_
  subst hd
  cases rep
  subst he
  exact ⟨_, rfl, _, _, _, [], [], [], hW', trodAll_mk1 (shut_bool u4 _), (trodAll_cons_mk (shut_int u3 w0) (trodAll_cons_mk (shut_string u9 ws) (trodAll_cons_mk (Below.trod laidOut (by kernel_rfl) (of_decide_eq_true (by kernel_rfl)) k2 hb (by simp)) trodAll_mk0))), rfl, hb.frame _, fun h => by cases h⟩
theorem row_holds : Rows.gradePatternsRow.holds Tryz.pinned (OpenSpec.ofChange Rows.gradePatternsSpec) :=
  OpenClaim.holds_of_wide 3 Tryz.f3 rfl rfl rfl rfl rfl rfl rfl ⟨rfl, rfl, rfl, rfl, rfl⟩ rfl rfl rfl rfl rfl (by kernel_rfl) Tryz.func3 joined_holds
    (of_decide_eq_true (by kernel_rfl)) (by unfold Func.isWrapper; first | (rw [if_pos (by decide +kernel)]; kernel_rfl) | (rw [if_neg (by decide +kernel)]; exact ⟨rfl, rfl⟩))
    (fun os started H enc _ => lifted os started H enc)
end Go.Proofs.YtpehlicnhjoknaaGreatDoor
