/- The layer of own lemmas and contracts, part 12. -/
import Derived.Test.YtpehlicnhjoknaaGreatDoorP11
import Derived.Test.YtpehlicnhjoknaaGreatDoorP10
import Derived.Test.YtpehlicnhjoknaaGreatDoorP8
set_option linter.unusedVariables false
set_option linter.unusedSimpArgs false
/- The Grade laws, part O2: Gap of the five probes (NOT BUILT: the kernel runs out of memory; to be cut into calls). -/
namespace Go.Ide
open Go.Proofs Go.RowKit
set_option maxRecDepth 20000
theorem aw30 (K : Kn) : ICalls C0 30 [probesD, .prim (.int .i64 400), .prim (.int .i64 200)] (.tup [.prim (.string ⟨#[49, 50, 53, 48, 48]⟩), .prim (.int .i64 0)]) := ICalls.ev (X2tok K) 1000 40 (by kernel_rfl)
end Go.Ide

/- The Grade laws, part P: awake, given two contracts. -/
namespace Go.Ide
open Go.Proofs Go.RowKit
set_option maxRecDepth 20000
def tabO : List (Nat × List D × D) := [(39, [usualD, .sl true 1 [.prim (.string ⟨#[54, 55, 47, 53]⟩), .prim (.string ⟨#[55, 57]⟩)]], .tup [.prim (.int .i64 1), .prim (.int .i64 0)]), (41, [usualD, .sl true 1 [.prim (.string ⟨#[54, 55, 47, 53]⟩), .prim (.string ⟨#[55, 57]⟩)]], .tup [.sl false 1 [.prim (.int .i64 0)], .prim (.int .i64 0)]), (42, [usualD, .prim (.int .i64 0), .sl true 1 [.prim (.string ⟨#[54, 55, 47, 53]⟩), .prim (.string ⟨#[55, 57]⟩)], .sl true 3 [.agg [.prim (.int .i64 0), .prim (.string ⟨#[49, 47, 50]⟩), .prim (.string ⟨#[51]⟩)]]], .tup [.prim (.string ⟨#[51]⟩), .prim (.int .i64 0)]), (43, [usualD, .sl true 2 [.agg [.prim (.string ⟨#[49, 53]⟩), .prim (.string ⟨#[49, 55]⟩)], .agg [.prim (.string ⟨#[55, 55]⟩), .prim (.string ⟨#[56, 48]⟩)]]], .tup [.sl false 1 [.prim (.int .i64 2), .prim (.int .i64 3)], .prim (.int .i64 0)]), (20, [finalD, .prim (.string ⟨#[49, 51, 52, 52, 57, 47, 49, 48, 48, 48]⟩)], .tup [.prim (.string ⟨#[54, 55, 47, 53]⟩), .agg [.prim (.string ⟨#[54, 54, 47, 53]⟩), .prim (.string ⟨#[54, 56, 47, 53]⟩)], .prim (.int .i64 0)]), (22, [finalD, .sl true 1 [.prim (.string ⟨#[54, 55, 47, 53]⟩), .prim (.string ⟨#[54, 57, 47, 53]⟩), .prim (.string ⟨#[54, 56, 47, 53]⟩)]], .tup [.prim (.string ⟨#[54, 56, 47, 53]⟩), .prim (.int .i64 0)]), (16, [.sl true 1 [.sl true 2 [.agg [.prim (.string ⟨#[49, 50]⟩), .prim (.string ⟨#[49, 51]⟩)]], .sl true 2 [.agg [.prim (.string ⟨#[49, 52]⟩), .prim (.string ⟨#[49, 53]⟩)]]], .sl true 1 [.prim (.int .i64 1), .prim (.int .i64 3)]], .tup [.sl false 2 [.agg [.prim (.string ⟨#[50, 55, 47, 50]⟩), .prim (.string ⟨#[50, 57, 47, 50]⟩)]], .prim (.int .i64 0)]), (12, [.prim (.string ⟨#[113, 117, 105, 110, 99, 117, 110, 120]⟩), .prim (.int .i64 5), .prim (.int .i64 400), .prim (.int .i64 200)], .tup [probesD, .prim (.int .i64 0)]), (30, [probesD, .prim (.int .i64 400), .prim (.int .i64 200)], .tup [.prim (.string ⟨#[49, 50, 53, 48, 48]⟩), .prim (.int .i64 0)])]
instance pUsual : IsPure usualD := ⟨usual_pure⟩
instance pFinal : IsPure finalD := ⟨pureB_ok (n := 30) (by kernel_rfl)⟩
instance pProbes : IsPure probesD := ⟨pureB_ok (n := 30) (by kernel_rfl)⟩
theorem tabO_ok (K : Kn) : ∀ e ∈ tabO, ICalls C0 e.1 e.2.1 e.2.2 ∧ ArePure e.2.1 := by
  intro e he
  simp only [tabO, List.mem_cons, List.not_mem_nil, or_false] at he
  rcases he with rfl | rfl | rfl | rfl | rfl | rfl | rfl | rfl | rfl
  · exact ⟨aw39 K, inferInstance⟩
  · exact ⟨aw41 K, inferInstance⟩
  · exact ⟨aw42 K, inferInstance⟩
  · exact ⟨aw43 K, inferInstance⟩
  · exact ⟨aw20 K, inferInstance⟩
  · exact ⟨aw22 K, inferInstance⟩
  · exact ⟨aw16 K, inferInstance⟩
  · exact ⟨aw12 K, inferInstance⟩
  · exact ⟨aw30 K, inferInstance⟩
noncomputable def X3 : EV := ⟨tt2, xbt.get, fbt.get, fun _ => false, findO tabO, mtA, nat0⟩
theorem X3ok (K : Kn) : EVOk C0 X3 := ⟨tab2, tabx, ftab, findO_ok tabO (tabO_ok K), by kernel_rfl, mtA_ok, nat0_ok⟩
theorem awake_ok (K : Kn) : ICalls C0 9 [] (boo true) := ICalls.ev (X3ok K) 1000 40 (by kernel_rfl)
def cmpM (x y : D) : Int := match asQ x with
  | some p => match asQ y with
    | some q => cmpI (p.n * q.d) (q.n * p.d)
    | none => 0
  | none => 0
theorem fr4Q (p : Q2) : Fr4 p.D := ⟨_, _, _, _, rfl, inferInstance, inferInstance, inferInstance, inferInstance⟩
theorem mid_mem {x : D} (h : x ∈ midL) : ∃ p : Q2, x = p.D ∧ Sm p.n ∧ p.d = 5 ∧ Sm (p.n * 5) := by
  simp only [midL, List.mem_cons, List.not_mem_nil, or_false] at h
  rcases h with rfl | rfl | rfl
  · exact ⟨⟨67, 5⟩, rfl, smB_ok rfl, rfl, smB_ok rfl⟩
  · exact ⟨⟨69, 5⟩, rfl, smB_ok rfl, rfl, smB_ok rfl⟩
  · exact ⟨⟨68, 5⟩, rfl, smB_ok rfl, rfl, smB_ok rfl⟩
theorem kn_ok : Kn := by
  refine ⟨check_ok, fun b => middle_ok cmpM b midL rfl (fun x hx => ?_) (fun x hx y hy => ?_) midR rfl⟩
  · obtain ⟨p, rfl, _⟩ := mid_mem hx
    exact fr4Q p
  · obtain ⟨p, rfl, h1, h2, h3⟩ := mid_mem hx
    obtain ⟨q, rfl, g1, g2, g3⟩ := mid_mem hy
    have := fcmp_sg p q h1 g1 (by rw [h2]; exact smB_ok rfl) (by rw [g2]; exact smB_ok rfl) (by rw [g2]; exact h3) (by rw [h2]; exact g3)
    exact this
theorem law_ok (mass : Int) (s : ByteArray) (n L W : Int) : ICalls C0 3 [i64 mass, str s, .agg [i64 n, i64 L, i64 W]] (boo true) := gp_ok (awake_ok kn_ok) mass s n L W
end Go.Ide
