/- The layer of own lemmas and contracts, part 9. -/
import Derived.Test.YtpehlicnhjoknaaGreatDoorP7
import Derived.Test.YtpehlicnhjoknaaGreatDoorP8
set_option linter.unusedVariables false
set_option linter.unusedSimpArgs false
/- The Grade laws, part V: small integers and fractions of the program's package num, with signs. -/
namespace Go.Ide
open Go.Proofs Go.RowKit
set_option maxRecDepth 20000
set_option linter.unusedSimpArgs false
/-- a machine integer other than the least -/
def Sm (z : Int) : Prop := -9223372036854775808 < z ∧ z < 9223372036854775808
theorem wS {z : Int} (h : Sm z) : IntKind.i64.wrap z = z := wI (by have := h.1; omega) (by have := h.2; omega)
theorem minne {z : Int} (h : Sm z) : (z != -9223372036854775808) = true := by
  have := h.1
  simp only [bne_iff_ne, ne_eq]; omega
theorem wU {z : Int} (h1 : 0 ≤ z) (h2 : z < 18446744073709551616) : IntKind.u64.wrap z = z := by
  have e1 : (2 : Int) ^ IntKind.u64.bits = 18446744073709551616 := rfl
  unfold IntKind.wrap
  simp only [e1]
  have e3 : IntKind.u64.signed = false := rfl
  rw [e3]
  simp only [Bool.false_and, Bool.false_eq_true, if_false]
  omega
theorem size_sm (z : Int) (h : Sm z) : ICalls C0 228 [i64 z] (u64 (z.natAbs : Nat)) := by
  refine ICallP.walk w1 fok228 rfl fun F => ?_
  obtain ⟨h1, h2⟩ := h
  refine OkS.seq ?_
  refine OkS.reg w1 0 (by kernel_rfl) ?_
  refine nxI ?_
  refine OkS.seq ?_
  refine OkS.seq ?_
  refine OkS.reg w1 100 (by kernel_rfl) ?_
  refine nxI ?_
  refine OkS.cond ?_
  refine dsI ?_
  (refine brI (fun h4 => ?_) (fun h4 => ?_)) <;> (try simp only [Bool.not_eq_true', Bool.not_eq_false'] at h4) <;> (try simp only [h4])
  · have hz : z < 0 := by simpa using h4
    have e1 : IntKind.i64.wrap (0 - z) = (z.natAbs : Nat) := by rw [wI (by omega) (by omega)]; omega
    have e2 : IntKind.u64.wrap ((z.natAbs : Nat) : Int) = (z.natAbs : Nat) := wU (by omega) (by omega)
    refine OkS.seq ?_
    refine OkS.reg w1 200 (by kernel_rfl) ?_
    refine And.intro (by (refine dsI ?_); (try simp only [e1, e2]); all_goals exact sdI) ?_
    refine dsI ?_
    try simp only [e1, e2]
    refine OkS.ret ?_
    refine And.intro (by exact sdI) ?_
    refine dsI ?_
    exact exact_res rfl IsPure.out
  · have hz : ¬ z < 0 := by simpa using h4
    have e2 : IntKind.u64.wrap z = (z.natAbs : Nat) := by rw [wU (by omega) (by omega)]; omega
    refine OkS.skip ?_
    refine dsI ?_
    refine OkS.seq ?_
    refine OkS.reg w1 300 (by kernel_rfl) ?_
    refine And.intro (by (refine dsI ?_); (try simp only [e2]); all_goals exact sdI) ?_
    refine dsI ?_
    try simp only [e2]
    refine OkS.ret ?_
    refine And.intro (by exact sdI) ?_
    refine dsI ?_
    exact exact_res rfl IsPure.out
theorem neg_sm (z : Int) (h : Sm z) : ICalls C0 177 [smI z] (smI (-z)) := by
  refine ICallP.walk w1 fok177 rfl fun F => ?_
  refine OkS.seq ?_
  refine OkS.reg w1 0 (by kernel_rfl) ?_
  refine nxI ?_
  refine OkS.seq ?_
  refine OkS.seq ?_
  refine OkS.reg w1 100 (by kernel_rfl) ?_
  repeat' (first | (refine And.intro (by exact sdI) ?_; refine dsI ?_) | ((refine brI (fun hb => ?_) (fun hb => ?_)) <;> (try simp only [Bool.not_eq_true', Bool.not_eq_false'] at hb) <;> (try simp only [hb]) <;> (refine dsI ?_)))
  rw [minne h]
  refine OkS.cond ?_
  refine dsI ?_
  have e1 : IntKind.i64.wrap (0 - z) = -z := by
    have := h.1; have := h.2
    rw [wI (by omega) (by omega)]; omega
  refine OkS.seq ?_
  refine OkS.reg w1 200 (by kernel_rfl) ?_
  refine And.intro (by (refine dsI ?_); (try simp only [e1]); all_goals exact sdI) ?_
  refine dsI ?_
  try simp only [e1]
  refine OkS.ret ?_
  refine And.intro (by exact sdI) ?_
  refine dsI ?_
  exact exact_res rfl IsPure.out
theorem add_sm (a b : Int) (hc : Sm (a + b)) : ICalls C0 178 [smI a, smI b] (smI (a + b)) := by
  refine ICallP.walk w1 fok178 rfl fun F => ?_
  refine OkS.seq ?_
  refine OkS.reg w1 0 (by kernel_rfl) ?_
  refine nxI ?_
  refine OkS.seq ?_
  refine OkS.seq ?_
  refine OkS.reg w1 100 (by kernel_rfl) ?_
  repeat' (first | (refine And.intro (by exact sdI) ?_; refine dsI ?_) | ((refine brI (fun hb => ?_) (fun hb => ?_)) <;> (try simp only [Bool.not_eq_true', Bool.not_eq_false'] at hb) <;> (try simp only [hb]) <;> (refine dsI ?_)))
  refine OkS.cond ?_
  refine dsI ?_
  have e1 := wS hc
  have e2 : (decide (a + b > a) == decide (b > 0)) = true := by
    rw [beq_iff_eq, decide_eq_decide]; omega
  refine OkS.seq ?_
  refine OkS.reg w1 200 (by kernel_rfl) ?_
  refine And.intro (by (refine dsI ?_); (try simp only [e1]); all_goals exact sdI) ?_
  refine dsI ?_
  try simp only [e1]
  refine OkS.seq ?_
  refine OkS.reg w1 300 (by kernel_rfl) ?_
  refine nxI ?_
  rw [e2]
  refine OkS.cond ?_
  refine dsI ?_
  refine OkS.seq ?_
  refine OkS.reg w1 400 (by kernel_rfl) ?_
  refine nxI ?_
  refine OkS.ret ?_
  refine And.intro (by exact sdI) ?_
  refine dsI ?_
  exact exact_res rfl IsPure.out
theorem sub_sm (a b : Int) (hc : Sm (a - b)) (hb : Sm b) : ICalls C0 246 [smI a, smI b] (smI (a - b)) := by
  refine ICallP.walk w1 fok246 rfl fun F => ?_
  have hc' : Sm (a + -b) := by rw [← Int.sub_eq_add_neg]; exact hc
  refine OkS.seq ?_
  refine OkS.reg w1 0 (by kernel_rfl) ?_
  refine nxI ?_
  refine OkS.seq ?_
  refine OkS.regD w1 100 [0, 1, 2] [3, 4] (by kernel_rfl) ?_
  refine nxI ?_
  refine CallW.same _ (neg_sm b hb) inferInstance ?_
  refine nxI ?_
  refine CallO.same _ (add_sm a (-b) hc') inferInstance ?_
  refine nxI ?_
  refine OkS.ret ?_
  refine And.intro (by exact sdI) ?_
  refine dsI ?_
  exact exact_res rfl IsPure.out
theorem mul64_ok (x y : Nat) (hx : x < 18446744073709551616) (hy : y < 18446744073709551616) : ICalls C0 227 [u64 x, u64 y] (.tup [u64 (x * y / 18446744073709551616 : Nat), u64 (x * y % 18446744073709551616 : Nat)]) := by
  refine ⟨⟨_, _, Tryz.func227, rfl, by kernel_rfl⟩, fun Y w vs hG hnG hX hvs hr => ?_⟩
  obtain ⟨v1, v2, rfl⟩ : ∃ a b, vs = #[a, b] := by
    match vs, hvs with
    | ⟨[a, b]⟩, _ => exact ⟨a, b, rfl⟩
  have h0 := hr 0 _ rfl
  have h1 := hr 1 _ rfl
  simp at h0 h1
  cases h0; cases h1
  refine (Tryz.bits_Mul64 x y hx hy w).mono ?_
  rintro e w' ⟨rfl, rfl⟩
  exact ⟨_, _, rfl, .refl _ _, rfl, .tup rfl fun i d hd => by
    match i with
    | 0 => simp at hd; subst hd; exact .prim _
    | 1 => simp at hd; subst hd; exact .prim _
    | n + 2 => simp at hd⟩
theorem mul_sm (a b : Int) (hc : Sm (a * b)) (ha : Sm a) (hb : Sm b) : ICalls C0 180 [smI a, smI b] (smI (a * b)) := by
  refine ICallP.walk w1 fok180 rfl fun F => ?_
  have hab : a.natAbs * b.natAbs = (a * b).natAbs := (Int.natAbs_mul a b).symm
  have h1 : a.natAbs * b.natAbs / 18446744073709551616 = 0 := by rw [hab]; have := hc.1; have := hc.2; omega
  have h2 : a.natAbs * b.natAbs % 18446744073709551616 = (a * b).natAbs := by rw [hab]; have := hc.1; have := hc.2; omega
  have c0 := mul64_ok a.natAbs b.natAbs (by have := ha.1; have := ha.2; omega) (by have := hb.1; have := hb.2; omega)
  rw [h1, h2] at c0
  refine OkS.seq ?_
  refine OkS.reg w1 0 (by kernel_rfl) ?_
  refine nxI ?_
  refine OkS.seq ?_
  refine OkS.seq ?_
  refine OkS.reg w1 100 (by kernel_rfl) ?_
  repeat' (first | (refine And.intro (by exact sdI) ?_; refine dsI ?_) | ((refine brI (fun hb => ?_) (fun hb => ?_)) <;> (try simp only [Bool.not_eq_true', Bool.not_eq_false'] at hb) <;> (try simp only [hb]) <;> (refine dsI ?_)))
  refine OkS.cond ?_
  refine dsI ?_
  refine OkS.seq ?_
  refine OkS.regD w1 200 [0, 1, 2, 3, 4, 5, 6, 7, 8, 9, 10] [11] (by kernel_rfl) ?_
  refine nxI ?_
  refine CallW.same _ (size_sm a ha) inferInstance ?_
  refine nxI ?_
  refine CallW.same _ (size_sm b hb) inferInstance ?_
  refine nxI ?_
  refine CallW.same _ (c0) inferInstance ?_
  refine nxI ?_
  refine OkS.seq ?_
  refine OkS.reg w1 300 (by kernel_rfl) ?_
  repeat' (first | (refine And.intro (by exact sdI) ?_; refine dsI ?_) | ((refine brI (fun hb => ?_) (fun hb => ?_)) <;> (try simp only [Bool.not_eq_true', Bool.not_eq_false'] at hb) <;> (try simp only [hb]) <;> (refine dsI ?_)))
  have e3 : decide ((((a * b).natAbs : Nat) : Int) ≤ 9223372036854775807) = true := decide_eq_true (by have := hc.1; have := hc.2; omega)
  rw [e3]
  refine OkS.cond ?_
  refine dsI ?_
  refine OkS.seq ?_
  refine OkS.seq ?_
  refine OkS.reg w1 400 (by kernel_rfl) ?_
  refine nxI ?_
  refine OkS.cond ?_
  refine dsI ?_
  have e4 : IntKind.i64.wrap (((a * b).natAbs : Nat) : Int) = ((a * b).natAbs : Nat) := wN (by have := hc.1; have := hc.2; omega)
  (refine brI (fun h41 => ?_) (fun h41 => ?_)) <;> (try simp only [Bool.not_eq_true', Bool.not_eq_false'] at h41) <;> (try simp only [h41])
  · have e5 : IntKind.i64.wrap (0 - (((a * b).natAbs : Nat) : Int)) = -((a * b).natAbs : Nat) := by
      rw [wI (by have := hc.1; have := hc.2; omega) (by have := hc.1; have := hc.2; omega)]; omega
    have e6 : -(((a * b).natAbs : Nat) : Int) = a * b := by
      have hs : (a < 0) ≠ (b < 0) := by simpa using h41
      have : a * b ≤ 0 := by
        by_cases h1 : a < 0
        · have h2 : ¬ b < 0 := fun h2 => hs (by simp [h1, h2])
          exact Int.mul_nonpos_of_nonpos_of_nonneg (by omega) (by omega)
        · have h2 : b < 0 := Classical.byContradiction fun h2 => hs (by simp [h1, h2])
          exact Int.mul_nonpos_of_nonneg_of_nonpos (by omega) (by omega)
      omega
    refine OkS.seq ?_
    refine OkS.reg w1 500 (by kernel_rfl) ?_
    refine And.intro (by (refine dsI ?_); (try simp only [e4, e5, e6]); all_goals exact sdI) ?_
    refine dsI ?_
    try simp only [e4, e5, e6]
    refine OkS.ret ?_
    refine And.intro (by exact sdI) ?_
    refine dsI ?_
    exact exact_res rfl IsPure.out
  · have e6 : (((a * b).natAbs : Nat) : Int) = a * b := by
      have hs : ¬ ((a < 0) ≠ (b < 0)) := by simpa using h41
      have : 0 ≤ a * b := by
        by_cases h1 : a < 0
        · have h2 : b < 0 := Classical.byContradiction fun h2 => hs (by simp [h1, h2])
          exact Int.mul_nonneg_of_nonpos_of_nonpos (by omega) (by omega)
        · have h2 : ¬ b < 0 := fun h2 => hs (by simp [h1, h2])
          exact Int.mul_nonneg (by omega) (by omega)
      omega
    rw [e6] at e4
    refine OkS.skip ?_
    refine dsI ?_
    refine OkS.seq ?_
    refine OkS.reg w1 600 (by kernel_rfl) ?_
    refine And.intro (by (refine dsI ?_); (try simp only [e6, e4]); all_goals exact sdI) ?_
    refine dsI ?_
    try simp only [e6, e4]
    refine OkS.ret ?_
    refine And.intro (by exact sdI) ?_
    refine dsI ?_
    exact exact_res rfl IsPure.out
theorem tdivmod {a b : Int} (hb : 0 < b) : (a.tmod b < 0 → a.tdiv b - 1 = a / b ∧ a.tmod b + b = a % b) ∧ (¬ a.tmod b < 0 → a.tdiv b = a / b ∧ a.tmod b = a % b) := by
  have h1 := Int.mul_tdiv_add_tmod a b
  have h2 := Int.tmod_lt_of_pos a hb
  have h3 := Int.lt_tmod_of_pos a hb
  constructor
  · intro h
    have := (Int.ediv_emod_unique (a := a) (r := a.tmod b + b) (q := a.tdiv b - 1) hb).2 ⟨by rw [Int.mul_sub, Int.mul_one]; omega, by omega, by omega⟩
    exact ⟨this.1.symm, this.2.symm⟩
  · intro h
    have := (Int.ediv_emod_unique (a := a) (r := a.tmod b) (q := a.tdiv b) hb).2 ⟨by omega, by omega, by omega⟩
    exact ⟨this.1.symm, this.2.symm⟩
theorem tdiv_sm {a b : Int} (ha : Sm a) : Sm (a.tdiv b) := by
  have h : (a.tdiv b).natAbs ≤ a.natAbs := by rw [Int.natAbs_tdiv]; exact Nat.div_le_self _ _
  have := ha.1; have := ha.2
  exact ⟨by omega, by omega⟩
theorem divmod_sg (a b : Int) (hb0 : 0 < b) (ha : Sm a) (hb : Sm b) : ICalls C0 197 [smI a, smI b] (.tup [smI (a / b), smI (a % b)]) := by
  refine ICallP.walk w1 fok197 rfl fun F => ?_
  obtain ⟨t1, t2⟩ := tdivmod (a := a) hb0
  have h2 := Int.tmod_lt_of_pos a hb0
  have h3 := Int.lt_tmod_of_pos a hb0
  have q1 := wS (tdiv_sm (b := b) ha)
  have q2 : IntKind.i64.wrap (a.tmod b) = a.tmod b := wI (by have := hb.2; omega) (by have := hb.2; omega)
  have q0 := tdiv_sm (b := b) ha
  refine OkS.seq ?_
  refine OkS.reg w1 0 (by kernel_rfl) ?_
  refine nxI ?_
  refine OkS.seq ?_
  refine OkS.seq ?_
  refine OkS.reg w1 100 (by kernel_rfl) ?_
  repeat' (first | (refine And.intro (by exact sdI) ?_; refine dsI ?_) | ((refine brI (fun hb => ?_) (fun hb => ?_)) <;> (try simp only [Bool.not_eq_true', Bool.not_eq_false'] at hb) <;> (try simp only [hb]) <;> (refine dsI ?_)))
  rw [minne ha]
  refine OkS.cond ?_
  refine dsI ?_
  refine OkS.seq ?_
  refine OkS.regD w1 200 [0, 1, 2, 3, 4, 5, 6, 7, 8, 9, 10] [11] (by kernel_rfl) ?_
  refine And.intro (by (refine dsI ?_); (try simp only [q1, q2]); all_goals exact sdI) ?_
  refine dsI ?_
  try simp only [q1, q2]
  refine OkS.seq ?_
  refine OkS.seq ?_
  refine OkS.reg w1 300 (by kernel_rfl) ?_
  refine nxI ?_
  refine OkS.cond ?_
  refine dsI ?_
  (refine brI (fun h40 => ?_) (fun h40 => ?_)) <;> (try simp only [Bool.not_eq_true', Bool.not_eq_false'] at h40) <;> (try simp only [h40])
  · obtain ⟨e1, e2⟩ := t1 (by simpa using h40)
    have q3 : IntKind.i64.wrap (a.tdiv b - 1) = a / b := by rw [wI (by have := q0.1; omega) (by have := q0.2; omega)]; exact e1
    have q4 : IntKind.i64.wrap (a.tmod b + b) = a % b := by rw [wI (by have := hb.2; omega) (by have := hb.2; omega)]; exact e2
    refine OkS.regD w1 400 [0, 1, 2, 3, 4, 5, 6] [7] (by kernel_rfl) ?_
    refine And.intro (by (refine dsI ?_); (try simp only [q3, q4]); all_goals exact sdI) ?_
    refine dsI ?_
    try simp only [q3, q4]
    refine OkS.seq ?_
    refine OkS.reg w1 500 (by kernel_rfl) ?_
    refine nxI ?_
    refine OkS.ret ?_
    refine And.intro (by exact sdI) ?_
    refine dsI ?_
    exact exact_res rfl IsPure.out
  · obtain ⟨e1, e2⟩ := t2 (by simpa using h40)
    refine OkS.skip ?_
    refine dsI ?_
    refine OkS.seq ?_
    rw [e1, e2]
    refine OkS.reg w1 500 (by kernel_rfl) ?_
    refine nxI ?_
    refine OkS.ret ?_
    refine And.intro (by exact sdI) ?_
    refine dsI ?_
    exact exact_res rfl IsPure.out
theorem quo_sg (a b : Int) (hb0 : 0 < b) (ha : Sm a) (hb : Sm b) : ICalls C0 226 [smI a, smI b] (smI (a / b)) := by
  refine ICallP.walk w1 fok226 rfl fun F => ?_
  refine OkS.seq ?_
  refine OkS.reg w1 0 (by kernel_rfl) ?_
  refine nxI ?_
  refine OkS.seq ?_
  refine OkS.seq ?_
  refine OkS.reg w1 100 (by kernel_rfl) ?_
  refine nxI ?_
  refine CallO.same _ (sign_sm b) inferInstance ?_
  refine nxI ?_
  have e1 : decide (max (-1) (min 1 b) < 0) = false := decide_eq_false (by omega)
  rw [e1]
  refine OkS.cond ?_
  refine dsI ?_
  refine OkS.skip ?_
  refine dsI ?_
  refine OkS.seq ?_
  refine OkS.reg w1 300 (by kernel_rfl) ?_
  refine nxI ?_
  refine CallO.same _ (divmod_sg a b hb0 ha hb) inferInstance ?_
  refine nxI ?_
  refine OkS.seq ?_
  refine OkS.reg w1 400 (by kernel_rfl) ?_
  refine nxI ?_
  refine OkS.ret ?_
  refine And.intro (by exact sdI) ?_
  refine dsI ?_
  exact exact_res rfl IsPure.out
theorem abs_sg (z : Int) (h : Sm z) : ICalls C0 196 [smI z] (smI (z.natAbs : Nat)) := by
  refine ICallP.walk w1 fok196 rfl fun F => ?_
  refine OkS.seq ?_
  refine OkS.reg w1 0 (by kernel_rfl) ?_
  refine nxI ?_
  refine OkS.seq ?_
  refine OkS.seq ?_
  refine OkS.reg w1 100 (by kernel_rfl) ?_
  refine nxI ?_
  refine OkS.cond ?_
  refine dsI ?_
  (refine brI (fun h5 => ?_) (fun h5 => ?_)) <;> (try simp only [Bool.not_eq_true', Bool.not_eq_false'] at h5) <;> (try simp only [h5])
  · have hz : z < 0 := by simpa using h5
    have e : -z = (z.natAbs : Nat) := by omega
    refine OkS.seq ?_
    refine OkS.reg w1 200 (by kernel_rfl) ?_
    refine nxI ?_
    refine CallO.same _ (neg_sm z h) inferInstance ?_
    refine nxI ?_
    rw [e]
    refine OkS.ret ?_
    refine And.intro (by exact sdI) ?_
    refine dsI ?_
    exact exact_res rfl IsPure.out
  · have hz : ¬ z < 0 := by simpa using h5
    have e : z = (z.natAbs : Nat) := by omega
    refine OkS.skip ?_
    refine dsI ?_
    refine OkS.seq ?_
    refine OkS.reg w1 300 (by kernel_rfl) ?_
    refine nxI ?_
    refine OkS.ret ?_
    refine And.intro (by exact sdI) ?_
    refine dsI ?_
    exact exact_res (by rw [← e]) IsPure.out
theorem gcd_sg (a b : Int) (ha : Sm a) (hb : Sm b) : ICalls C0 127 [smI a, smI b] (smI (Nat.gcd a.natAbs b.natAbs : Nat)) := by
  refine ICallP.walk w1 fok127 rfl fun F => ?_
  have h1 : a.natAbs ≤ 9223372036854775807 := by have := ha.1; have := ha.2; omega
  have h2 : b.natAbs ≤ 9223372036854775807 := by have := hb.1; have := hb.2; omega
  refine OkS.seq ?_
  refine OkS.reg w1 0 (by kernel_rfl) ?_
  refine nxI ?_
  refine OkS.seq ?_
  refine OkS.regD w1 100 [0, 1, 2] [3, 4, 5] (by kernel_rfl) ?_
  refine nxI ?_
  refine CallW.same _ (abs_sg a ha) inferInstance ?_
  refine nxI ?_
  refine CallO.same _ (abs_sg b hb) inferInstance ?_
  refine nxI ?_
  refine OkS.seq ?_
  refine OkS.block ?_
  refine OkS.loop (α := Nat × Nat × Nat) (fun p => ⟨[(2, .optr 0 0 2 0 0), (3, .optr 1 1 2 0 0), (4, .optr 2 2 2 0 0)], [⟨2, 2, 112, 2, [smI 0]⟩, ⟨1, 1, 112, 2, [smI p.2.1]⟩, ⟨0, 0, 112, 2, [smI p.1]⟩], p.2.2⟩) (fun p => p.2.1)
    (fun p => Nat.gcd p.1 p.2.1 = Nat.gcd a.natAbs b.natAbs ∧ p.1 ≤ 9223372036854775807 ∧ p.2.1 ≤ 9223372036854775807) (a.natAbs, b.natAbs, _) ⟨rfl, h1, h2⟩ wkI ?_
  rintro ⟨x, y, n⟩ F ⟨g1, g2, g3⟩
  dsimp only at g1 g2 g3 ⊢
  refine OkS.seq ?_
  refine OkS.seq ?_
  refine OkS.reg w1 200 (by kernel_rfl) ?_
  refine nxI ?_
  refine CallO.same _ (sign_sm y) inferInstance ?_
  refine nxI ?_
  refine OkS.cond ?_
  refine dsI ?_
  (refine brI (fun h13 => ?_) (fun h13 => ?_)) <;> (try simp only [Bool.not_eq_true', Bool.not_eq_false'] at h13) <;> (try simp only [h13])
  · have hy : 0 < y := by
      simp at h13; omega
    refine OkS.skip ?_
    refine dsI ?_
    refine OkS.block ?_
    refine OkS.seq ?_
    refine OkS.reg w1 300 (by kernel_rfl) ?_
    refine nxI ?_
    refine CallO.same _ (divmod_sm x y hy g2 g3) inferInstance ?_
    refine nxI ?_
    refine OkS.regW w1 400 [0, 1, 2] [3] 2 [0, 0] (0) (by kernel_rfl) (by kernel_rfl) ?_
    refine nxI ?_
    refine nxI ?_
    have hm : x % y < y := Nat.mod_lt x hy
    refine ⟨(y, x % y, _), ⟨?_, g3, by dsimp only; omega⟩, hm, wkI⟩
    rw [← g1, Nat.gcd_comm x y, Nat.gcd_rec y x, Nat.gcd_comm]
  · have hy : y = 0 := by
      apply Classical.byContradiction
      intro h0
      simp at h13; omega
    subst hy
    refine OkS.exit ?_
    refine dsI ?_
    refine OkS.seq ?_
    refine OkS.reg w1 500 (by kernel_rfl) ?_
    refine nxI ?_
    refine OkS.ret ?_
    refine And.intro (by exact sdI) ?_
    refine dsI ?_
    refine exact_res ?_ IsPure.out
    rw [← g1, Nat.gcd_zero_right]
theorem make_sg (a b : Int) (hb0 : 0 < b) (ha : Sm a) (hb : Sm b) : ICalls C0 179 [smI a, smI b] (smF (a / (Nat.gcd a.natAbs b.natAbs : Nat)) (b / (Nat.gcd a.natAbs b.natAbs : Nat))) := by
  refine ICallP.walk w1 fok179 rfl fun F => ?_
  have hg : 0 < Nat.gcd a.natAbs b.natAbs := Nat.gcd_pos_of_pos_right _ (by omega)
  have hgl : Nat.gcd a.natAbs b.natAbs ≤ b.natAbs := Nat.gcd_le_right _ (by omega)
  have hgs : Sm (Nat.gcd a.natAbs b.natAbs : Nat) := ⟨by omega, by have := hb.2; omega⟩
  refine OkS.seq ?_
  refine OkS.reg w1 0 (by kernel_rfl) ?_
  refine nxI ?_
  refine OkS.seq ?_
  refine OkS.seq ?_
  refine OkS.reg w1 100 (by kernel_rfl) ?_
  refine nxI ?_
  refine CallO.same _ (sign_sm b) inferInstance ?_
  refine nxI ?_
  have e1 : decide (max (-1) (min 1 b) < 0) = false := decide_eq_false (by omega)
  rw [e1]
  refine OkS.cond ?_
  refine dsI ?_
  refine OkS.skip ?_
  refine dsI ?_
  refine OkS.seq ?_
  refine OkS.seq ?_
  refine OkS.reg w1 300 (by kernel_rfl) ?_
  repeat' (first | (refine And.intro (by exact sdI) ?_; refine dsI ?_) | ((refine brI (fun hb => ?_) (fun hb => ?_)) <;> (try simp only [Bool.not_eq_true', Bool.not_eq_false'] at hb) <;> (try simp only [hb]) <;> (refine dsI ?_)))
  refine OkS.cond ?_
  refine dsI ?_
  (refine brI (fun hb1 => ?_) (fun hb1 => ?_)) <;> (try simp only [Bool.not_eq_true', Bool.not_eq_false'] at hb1) <;> (try simp only [hb1])
  · have hb1 : b = 1 := by simpa using hb1
    subst hb1
    refine OkS.seq ?_
    refine OkS.reg w1 400 (by kernel_rfl) ?_
    refine nxI ?_
    refine OkS.ret ?_
    refine And.intro (by exact sdI) ?_
    refine dsI ?_
    refine exact_res ?_ IsPure.out
    have : Nat.gcd a.natAbs (Int.natAbs 1) = 1 := Nat.gcd_one_right _
    rw [this]; simp
  · refine OkS.skip ?_
    refine dsI ?_
    refine OkS.seq ?_
    refine OkS.reg w1 500 (by kernel_rfl) ?_
    refine nxI ?_
    refine CallO.same _ (gcd_sg a b ha hb) inferInstance ?_
    refine nxI ?_
    refine OkS.seq ?_
    refine OkS.regD w1 600 [0, 1, 2, 3, 4] [5, 6, 7] (by kernel_rfl) ?_
    refine nxI ?_
    refine CallW.same _ (quo_sg a (Nat.gcd a.natAbs b.natAbs : Nat) (by omega) ha hgs) inferInstance ?_
    refine nxI ?_
    refine CallO.same _ (quo_sg b (Nat.gcd a.natAbs b.natAbs : Nat) (by omega) hb hgs) inferInstance ?_
    refine nxI ?_
    refine OkS.ret ?_
    refine And.intro (by exact sdI) ?_
    refine dsI ?_
    exact exact_res rfl IsPure.out
/-- a fraction as the program keeps it -/
structure Q2 where
  n : Int
  d : Int
abbrev Q2.D (q : Q2) : D := smF q.n q.d
def mkQ (a b : Int) : Q2 := ⟨a / (Nat.gcd a.natAbs b.natAbs : Nat), b / (Nat.gcd a.natAbs b.natAbs : Nat)⟩
theorem of_sg (z : Int) : ICalls C0 156 [i64 z] (smI z) := of_ok z
theorem whole_sg (z : Int) : ICalls C0 105 [smI z] (smF z 1) := by
  refine ICallP.walk w1 fok105 rfl fun F => ?_
  refine OkS.seq ?_
  refine OkS.reg w1 0 (by kernel_rfl) ?_
  refine nxI ?_
  refine OkS.seq ?_
  refine OkS.regD w1 100 [0, 1] [2, 3] (by kernel_rfl) ?_
  refine nxI ?_
  refine CallW.same _ (of_ok 1) inferInstance ?_
  refine nxI ?_
  refine OkS.ret ?_
  refine And.intro (by exact sdI) ?_
  refine dsI ?_
  exact exact_res rfl IsPure.out
theorem f_sg (z : Int) : ICalls C0 77 [i64 z] (smF z 1) := by
  refine ICallP.walk w1 fok77 rfl fun F => ?_
  refine OkS.seq ?_
  refine OkS.reg w1 0 (by kernel_rfl) ?_
  refine nxI ?_
  refine OkS.seq ?_
  refine OkS.reg w1 100 (by kernel_rfl) ?_
  refine nxI ?_
  refine CallO.same _ (of_ok z) inferInstance ?_
  refine nxI ?_
  refine CallO.same _ (whole_sg z) inferInstance ?_
  refine nxI ?_
  refine OkS.ret ?_
  refine And.intro (by exact sdI) ?_
  refine dsI ?_
  exact exact_res rfl IsPure.out
def addQ (p q : Q2) : Q2 := if p.d = 1 ∧ q.d = 1 then ⟨p.n + q.n, 1⟩ else mkQ (p.n * q.d + q.n * p.d) (p.d * q.d)
theorem fadd_sg (p q : Q2) (hp : 0 < p.d) (hq : 0 < q.d) (h1 : Sm p.n) (h2 : Sm q.n) (h3 : Sm p.d) (h4 : Sm q.d) (h5 : Sm (p.n * q.d)) (h6 : Sm (q.n * p.d)) (h7 : Sm (p.n * q.d + q.n * p.d)) (h8 : Sm (p.d * q.d)) :
    ICalls C0 104 [p.D, q.D] (addQ p q).D := by
  refine ICallP.walk w1 fok104 rfl fun F => ?_
  obtain ⟨a, b⟩ := p
  obtain ⟨c, d⟩ := q
  dsimp only at *
  unfold addQ Q2.D
  dsimp only
  have hbd : 0 < b * d := Int.mul_pos hp hq
  by_cases e1 : b = 1
  · have fb : (b == 1) = true := by rw [e1]; rfl
    have c1 := isWhole_sm a b
    rw [fb] at c1
    by_cases e2 : d = 1
    · have fd : (d == 1) = true := by rw [e2]; rfl
      have c2 := isWhole_sm c d
      rw [fd] at c2
      rw [if_pos ⟨e1, e2⟩]
      have h7' : Sm (a + c) := by rw [e1, e2] at h7; simpa using h7
      refine OkS.seq ?_
      refine OkS.reg w1 0 (by kernel_rfl) ?_
      refine nxI ?_
      refine OkS.seq ?_
      refine OkS.seq ?_
      refine OkS.reg w1 100 (by kernel_rfl) ?_
      refine nxI ?_
      refine CallO.same _ (c1) inferInstance ?_
      refine nxI ?_
      dsimp only [brB_t]
      refine nxI ?_
      dsimp only [brB_t]
      refine nxI ?_
      refine CallO.same _ (c2) inferInstance ?_
      refine nxI ?_
      refine OkS.cond ?_
      refine dsI ?_
      refine OkS.seq ?_
      refine OkS.reg w1 200 (by kernel_rfl) ?_
      refine nxI ?_
      refine CallO.same _ (add_sm a c h7') inferInstance ?_
      refine nxI ?_
      refine CallO.same _ (whole_sg (a + c)) inferInstance ?_
      refine nxI ?_
      refine OkS.ret ?_
      refine And.intro (by exact sdI) ?_
      refine dsI ?_
      exact exact_res rfl IsPure.out
    · have fd : (d == 1) = false := by simpa using e2
      have c2 := isWhole_sm c d
      rw [fd] at c2
      rw [if_neg fun h => e2 h.2]
      refine OkS.seq ?_
      refine OkS.reg w1 0 (by kernel_rfl) ?_
      refine nxI ?_
      refine OkS.seq ?_
      refine OkS.seq ?_
      refine OkS.reg w1 100 (by kernel_rfl) ?_
      refine nxI ?_
      refine CallO.same _ (c1) inferInstance ?_
      refine nxI ?_
      dsimp only [brB_t]
      refine nxI ?_
      dsimp only [brB_t]
      refine nxI ?_
      refine CallO.same _ (c2) inferInstance ?_
      refine nxI ?_
      refine OkS.cond ?_
      refine dsI ?_
      refine OkS.skip ?_
      refine dsI ?_
      refine OkS.seq ?_
      refine OkS.regD w1 300 [0, 1, 2, 3, 4, 5, 6, 7, 8, 9, 10, 11, 12, 13, 14] [15, 16, 17] (by kernel_rfl) ?_
      refine nxI ?_
      refine CallW.same _ (mul_sm a d h5 h1 h4) inferInstance ?_
      refine nxI ?_
      refine CallW.same _ (mul_sm c b h6 h2 h3) inferInstance ?_
      refine nxI ?_
      refine CallW.same _ (add_sm (a * d) (c * b) h7) inferInstance ?_
      refine nxI ?_
      refine CallO.same _ (mul_sm b d h8 h3 h4) inferInstance ?_
      refine nxI ?_
      refine CallO.same _ (make_sg (a * d + c * b) (b * d) hbd h7 h8) inferInstance ?_
      refine nxI ?_
      refine OkS.ret ?_
      refine And.intro (by exact sdI) ?_
      refine dsI ?_
      exact exact_res rfl IsPure.out
  · have fb : (b == 1) = false := by simpa using e1
    have c1 := isWhole_sm a b
    rw [fb] at c1
    rw [if_neg fun h => e1 h.1]
    refine OkS.seq ?_
    refine OkS.reg w1 0 (by kernel_rfl) ?_
    refine nxI ?_
    refine OkS.seq ?_
    refine OkS.seq ?_
    refine OkS.reg w1 100 (by kernel_rfl) ?_
    refine nxI ?_
    refine CallO.same _ (c1) inferInstance ?_
    refine nxI ?_
    dsimp only [brB_f]
    refine nxI ?_
    dsimp only [brB_f]
    refine nxI ?_
    refine OkS.cond ?_
    refine dsI ?_
    refine OkS.skip ?_
    refine dsI ?_
    refine OkS.seq ?_
    refine OkS.regD w1 300 [0, 1, 2, 3, 4, 5, 6, 7, 8, 9, 10, 11, 12, 13, 14] [15, 16, 17] (by kernel_rfl) ?_
    refine nxI ?_
    refine CallW.same _ (mul_sm a d h5 h1 h4) inferInstance ?_
    refine nxI ?_
    refine CallW.same _ (mul_sm c b h6 h2 h3) inferInstance ?_
    refine nxI ?_
    refine CallW.same _ (add_sm (a * d) (c * b) h7) inferInstance ?_
    refine nxI ?_
    refine CallO.same _ (mul_sm b d h8 h3 h4) inferInstance ?_
    refine nxI ?_
    refine CallO.same _ (make_sg (a * d + c * b) (b * d) hbd h7 h8) inferInstance ?_
    refine nxI ?_
    refine OkS.ret ?_
    refine And.intro (by exact sdI) ?_
    refine dsI ?_
    exact exact_res rfl IsPure.out
end Go.Ide

/- The Grade laws, part W: small fractions: the rest of the operations; an oracle of them. -/
namespace Go.Ide
open Go.Proofs Go.RowKit
set_option maxRecDepth 20000
set_option linter.unusedSimpArgs false
theorem fmul_sg (p q : Q2) (hp : 0 < p.d) (hq : 0 < q.d) (h1 : Sm p.n) (h2 : Sm q.n) (h3 : Sm p.d) (h4 : Sm q.d) (h5 : Sm (p.n * q.n)) (h8 : Sm (p.d * q.d)) :
    ICalls C0 106 [p.D, q.D] (mkQ (p.n * q.n) (p.d * q.d)).D := by
  refine ICallP.walk w1 fok106 rfl fun F => ?_
  obtain ⟨a, b⟩ := p
  obtain ⟨c, d⟩ := q
  unfold Q2.D
  dsimp only at *
  have hbd : 0 < b * d := Int.mul_pos hp hq
  refine OkS.seq ?_
  refine OkS.reg w1 0 (by kernel_rfl) ?_
  refine nxI ?_
  refine OkS.seq ?_
  refine OkS.regD w1 100 [0, 1, 2, 3, 4, 5, 6, 7, 8] [9, 10, 11] (by kernel_rfl) ?_
  refine nxI ?_
  refine CallW.same _ (mul_sm a c h5 h1 h2) inferInstance ?_
  refine nxI ?_
  refine CallO.same _ (mul_sm b d h8 h3 h4) inferInstance ?_
  refine nxI ?_
  refine CallO.same _ (make_sg (a * c) (b * d) hbd h5 h8) inferInstance ?_
  refine nxI ?_
  refine OkS.ret ?_
  refine And.intro (by exact sdI) ?_
  refine dsI ?_
  exact exact_res rfl IsPure.out
def negQ (p : Q2) : Q2 := ⟨-p.n, p.d⟩
theorem fneg_sg (p : Q2) (h : Sm p.n) : ICalls C0 140 [p.D] (negQ p).D := by
  refine ICallP.walk w1 fok140 rfl fun F => ?_
  obtain ⟨a, b⟩ := p
  unfold negQ Q2.D
  dsimp only at *
  refine OkS.seq ?_
  refine OkS.reg w1 0 (by kernel_rfl) ?_
  refine nxI ?_
  refine OkS.seq ?_
  refine OkS.regD w1 100 [0, 1, 2, 3, 4] [5, 6] (by kernel_rfl) ?_
  refine nxI ?_
  refine CallW.same _ (neg_sm a h) inferInstance ?_
  refine nxI ?_
  refine OkS.ret ?_
  refine And.intro (by exact sdI) ?_
  refine dsI ?_
  exact exact_res rfl IsPure.out
theorem sm_neg {z : Int} (h : Sm z) : Sm (-z) := ⟨by have := h.2; omega, by have := h.1; omega⟩
theorem fsub_sg (p q : Q2) (hp : 0 < p.d) (hq : 0 < q.d) (h1 : Sm p.n) (h2 : Sm q.n) (h3 : Sm p.d) (h4 : Sm q.d) (h5 : Sm (p.n * q.d)) (h6 : Sm (-q.n * p.d)) (h7 : Sm (p.n * q.d + -q.n * p.d)) (h8 : Sm (p.d * q.d)) :
    ICalls C0 133 [p.D, q.D] (addQ p (negQ q)).D := by
  refine ICallP.walk w1 fok133 rfl fun F => ?_
  have c1 := fneg_sg q h2
  have c2 := fadd_sg p (negQ q) hp hq h1 (sm_neg h2) h3 h4 h5 h6 h7 h8
  obtain ⟨a, b⟩ := p
  obtain ⟨c, d⟩ := q
  unfold Q2.D at *
  dsimp only at *
  refine OkS.seq ?_
  refine OkS.reg w1 0 (by kernel_rfl) ?_
  refine nxI ?_
  refine OkS.seq ?_
  refine OkS.regD w1 100 [0, 1, 2] [3, 4] (by kernel_rfl) ?_
  refine nxI ?_
  refine CallW.same _ (c1) inferInstance ?_
  refine nxI ?_
  refine CallO.same _ (c2) inferInstance ?_
  refine nxI ?_
  refine OkS.ret ?_
  refine And.intro (by exact sdI) ?_
  refine dsI ?_
  exact exact_res rfl IsPure.out
def invQ (p : Q2) : Q2 := if p.n < 0 then mkQ (-p.d) (-p.n) else mkQ p.d p.n
theorem make_any (a b : Int) (hb0 : b ≠ 0) (ha : Sm a) (hb : Sm b) : ICalls C0 179 [smI a, smI b] (if b < 0 then mkQ (-a) (-b) else mkQ a b).D := by
  by_cases hn : b < 0
  · rw [if_pos hn]
    refine ICallP.walk w1 fok179 rfl fun F => ?_
    unfold mkQ Q2.D
    dsimp only
    have ha' := sm_neg ha
    have hb' := sm_neg hb
    have q1 := neg_sm a ha
    have q2 := neg_sm b hb
    have hb1 : 0 < -b := by omega
    have e1 : decide (max (-1) (min 1 b) < 0) = true := decide_eq_true (by omega)
    have q3 := sign_sm b
    generalize -a = x at *
    generalize -b = y at *
    have hg : 0 < Nat.gcd x.natAbs y.natAbs := Nat.gcd_pos_of_pos_right _ (by omega)
    have hgl : Nat.gcd x.natAbs y.natAbs ≤ y.natAbs := Nat.gcd_le_right _ (by omega)
    have hgs : Sm (Nat.gcd x.natAbs y.natAbs : Nat) := ⟨by omega, by have := hb'.2; omega⟩
    refine OkS.seq ?_
    refine OkS.reg w1 0 (by kernel_rfl) ?_
    refine nxI ?_
    refine OkS.seq ?_
    refine OkS.seq ?_
    refine OkS.reg w1 100 (by kernel_rfl) ?_
    refine nxI ?_
    refine CallO.same _ (q3) inferInstance ?_
    refine nxI ?_
    rw [e1]
    refine OkS.cond ?_
    refine dsI ?_
    refine OkS.regD w1 200 [0, 1, 2] [3, 4, 5] (by kernel_rfl) ?_
    refine nxI ?_
    refine CallW.same _ (q1) inferInstance ?_
    refine nxI ?_
    refine CallO.same _ (q2) inferInstance ?_
    refine nxI ?_
    refine OkS.seq ?_
    refine OkS.seq ?_
    refine OkS.reg w1 300 (by kernel_rfl) ?_
    repeat' (first | (refine And.intro (by exact sdI) ?_; refine dsI ?_) | ((refine brI (fun hb => ?_) (fun hb => ?_)) <;> (try simp only [Bool.not_eq_true', Bool.not_eq_false'] at hb) <;> (try simp only [hb]) <;> (refine dsI ?_)))
    refine OkS.cond ?_
    refine dsI ?_
    (refine brI (fun hb2 => ?_) (fun hb2 => ?_)) <;> (try simp only [Bool.not_eq_true', Bool.not_eq_false'] at hb2) <;> (try simp only [hb2])
    · have hb1 : y = 1 := by simpa using hb2
      subst hb1
      refine OkS.seq ?_
      refine OkS.reg w1 400 (by kernel_rfl) ?_
      refine nxI ?_
      refine OkS.ret ?_
      refine And.intro (by exact sdI) ?_
      refine dsI ?_
      refine exact_res ?_ IsPure.out
      have : Nat.gcd x.natAbs (Int.natAbs 1) = 1 := Nat.gcd_one_right _
      rw [this]; simp
    · refine OkS.skip ?_
      refine dsI ?_
      refine OkS.seq ?_
      refine OkS.reg w1 500 (by kernel_rfl) ?_
      refine nxI ?_
      refine CallO.same _ (gcd_sg x y ha' hb') inferInstance ?_
      refine nxI ?_
      refine OkS.seq ?_
      refine OkS.regD w1 600 [0, 1, 2, 3, 4] [5, 6, 7] (by kernel_rfl) ?_
      refine nxI ?_
      refine CallW.same _ (quo_sg x (Nat.gcd x.natAbs y.natAbs : Nat) (by omega) ha' hgs) inferInstance ?_
      refine nxI ?_
      refine CallO.same _ (quo_sg y (Nat.gcd x.natAbs y.natAbs : Nat) (by omega) hb' hgs) inferInstance ?_
      refine nxI ?_
      refine OkS.ret ?_
      refine And.intro (by exact sdI) ?_
      refine dsI ?_
      exact exact_res rfl IsPure.out
  · rw [if_neg hn]
    exact make_sg a b (by omega) ha hb
theorem finv_sg (p : Q2) (h0 : p.n ≠ 0) (h1 : Sm p.n) (h2 : Sm p.d) : ICalls C0 175 [p.D] (invQ p).D := by
  refine ICallP.walk w1 fok175 rfl fun F => ?_
  have c1 := make_any p.d p.n h0 h2 h1
  obtain ⟨a, b⟩ := p
  unfold invQ Q2.D at *
  dsimp only at *
  refine OkS.seq ?_
  refine OkS.reg w1 0 (by kernel_rfl) ?_
  refine nxI ?_
  refine OkS.seq ?_
  refine OkS.reg w1 100 (by kernel_rfl) ?_
  refine nxI ?_
  refine CallO.same _ (c1) inferInstance ?_
  refine nxI ?_
  refine OkS.ret ?_
  refine And.intro (by exact sdI) ?_
  refine dsI ?_
  exact exact_res rfl IsPure.out
theorem fdiv_sg (p q : Q2) (h0 : q.n ≠ 0) (hp : 0 < p.d) (hq : 0 < (invQ q).d) (h1 : Sm p.n) (h2 : Sm q.n) (h3 : Sm p.d) (h4 : Sm q.d) (g1 : Sm (invQ q).n) (g2 : Sm (invQ q).d) (h5 : Sm (p.n * (invQ q).n)) (h8 : Sm (p.d * (invQ q).d)) :
    ICalls C0 102 [p.D, q.D] (mkQ (p.n * (invQ q).n) (p.d * (invQ q).d)).D := by
  refine ICallP.walk w1 fok102 rfl fun F => ?_
  have c1 := finv_sg q h0 h2 h4
  have c2 := fmul_sg p (invQ q) hp hq h1 g1 h3 g2 h5 h8
  generalize invQ q = r at *
  obtain ⟨a, b⟩ := p
  obtain ⟨c, d⟩ := q
  obtain ⟨e, f⟩ := r
  unfold Q2.D at *
  dsimp only at *
  refine OkS.seq ?_
  refine OkS.reg w1 0 (by kernel_rfl) ?_
  refine nxI ?_
  refine OkS.seq ?_
  refine OkS.regD w1 100 [0, 1, 2] [3, 4] (by kernel_rfl) ?_
  refine nxI ?_
  refine CallW.same _ (c1) inferInstance ?_
  refine nxI ?_
  refine CallO.same _ (c2) inferInstance ?_
  refine nxI ?_
  refine OkS.ret ?_
  refine And.intro (by exact sdI) ?_
  refine dsI ?_
  exact exact_res rfl IsPure.out
def cmpI (a b : Int) : Int := if a < b then -1 else if b < a then 1 else 0
theorem icmp_sm (a b : Int) : ICalls C0 203 [smI a, smI b] (i64 (cmpI a b)) := by
  refine ICallP.walk w1 fok203 rfl fun F => ?_
  unfold cmpI
  refine OkS.seq ?_
  refine OkS.reg w1 0 (by kernel_rfl) ?_
  refine nxI ?_
  refine OkS.seq ?_
  refine OkS.seq ?_
  refine OkS.reg w1 100 (by kernel_rfl) ?_
  repeat' (first | (refine And.intro (by exact sdI) ?_; refine dsI ?_) | ((refine brI (fun hb => ?_) (fun hb => ?_)) <;> (try simp only [Bool.not_eq_true', Bool.not_eq_false'] at hb) <;> (try simp only [hb]) <;> (refine dsI ?_)))
  refine OkS.cond ?_
  refine dsI ?_
  refine OkS.seq ?_
  refine OkS.block ?_
  refine OkS.seq ?_
  refine OkS.reg w1 200 (by kernel_rfl) ?_
  refine nxI ?_
  refine OkS.cond ?_
  refine dsI ?_
  (refine brI (fun h13 => ?_) (fun h13 => ?_)) <;> (try simp only [Bool.not_eq_true', Bool.not_eq_false'] at h13) <;> (try simp only [h13])
  · have h1 : a < b := by simpa using h13
    rw [if_pos h1]
    refine OkS.seq ?_
    refine OkS.reg w1 300 (by kernel_rfl) ?_
    refine nxI ?_
    refine OkS.ret ?_
    refine And.intro (by exact sdI) ?_
    refine dsI ?_
    exact exact_res rfl IsPure.out
  · have h1 : ¬ a < b := by simpa using h13
    rw [if_neg h1]
    refine OkS.seq ?_
    refine OkS.reg w1 400 (by kernel_rfl) ?_
    refine nxI ?_
    refine OkS.cond ?_
    refine dsI ?_
    (refine brI (fun h19 => ?_) (fun h19 => ?_)) <;> (try simp only [Bool.not_eq_true', Bool.not_eq_false'] at h19) <;> (try simp only [h19])
    · have h2 : b < a := by simpa using h19
      rw [if_pos h2]
      refine OkS.seq ?_
      refine OkS.reg w1 500 (by kernel_rfl) ?_
      refine nxI ?_
      refine OkS.ret ?_
      refine And.intro (by exact sdI) ?_
      refine dsI ?_
      exact exact_res rfl IsPure.out
    · have h2 : ¬ b < a := by simpa using h19
      rw [if_neg h2]
      refine OkS.skip ?_
      refine dsI ?_
      refine OkS.seq ?_
      refine OkS.reg w1 600 (by kernel_rfl) ?_
      refine nxI ?_
      refine OkS.ret ?_
      refine And.intro (by exact sdI) ?_
      refine dsI ?_
      exact exact_res rfl IsPure.out
theorem fcmp_sg (p q : Q2) (h1 : Sm p.n) (h2 : Sm q.n) (h3 : Sm p.d) (h4 : Sm q.d) (h5 : Sm (p.n * q.d)) (h6 : Sm (q.n * p.d)) : ICalls C0 141 [p.D, q.D] (i64 (cmpI (p.n * q.d) (q.n * p.d))) := by
  refine ICallP.walk w1 fok141 rfl fun F => ?_
  obtain ⟨a, b⟩ := p
  obtain ⟨c, d⟩ := q
  unfold Q2.D
  dsimp only at *
  refine OkS.seq ?_
  refine OkS.reg w1 0 (by kernel_rfl) ?_
  refine nxI ?_
  refine OkS.seq ?_
  refine OkS.regD w1 100 [0, 1, 2, 3, 4, 5, 6, 7, 8] [9, 10, 11] (by kernel_rfl) ?_
  refine nxI ?_
  refine CallW.same _ (mul_sm a d h5 h1 h4) inferInstance ?_
  refine nxI ?_
  refine CallO.same _ (mul_sm c b h6 h2 h3) inferInstance ?_
  refine nxI ?_
  refine CallO.same _ (icmp_sm (a * d) (c * b)) inferInstance ?_
  refine nxI ?_
  refine OkS.ret ?_
  refine And.intro (by exact sdI) ?_
  refine dsI ?_
  exact exact_res rfl IsPure.out
theorem fsign_sg (p : Q2) : ICalls C0 68 [p.D] (i64 (max (-1) (min 1 p.n))) := by
  refine ICallP.walk w1 fok68 rfl fun F => ?_
  obtain ⟨a, b⟩ := p
  unfold Q2.D
  dsimp only
  refine OkS.seq ?_
  refine OkS.reg w1 0 (by kernel_rfl) ?_
  refine nxI ?_
  refine OkS.seq ?_
  refine OkS.reg w1 100 (by kernel_rfl) ?_
  refine nxI ?_
  refine CallO.same _ (sign_sm a) inferInstance ?_
  refine nxI ?_
  refine OkS.ret ?_
  refine And.intro (by exact sdI) ?_
  refine dsI ?_
  exact exact_res rfl IsPure.out
/-! an oracle of these, for the evaluator -/
theorem blt_lt {n k : Nat} (h : Nat.blt n k = true) : n < k := by rw [Nat.blt_eq] at h; exact h
def smB : Int → Bool
  | .ofNat n => Nat.blt n 9223372036854775808
  | .negSucc n => Nat.blt n 9223372036854775807
theorem smB_ok {z : Int} (h : smB z = true) : Sm z := by
  cases z with
  | ofNat n => have := blt_lt h; exact ⟨by rw [Int.ofNat_eq_natCast]; omega, by rw [Int.ofNat_eq_natCast]; omega⟩
  | negSucc n => have := blt_lt h; exact ⟨by omega, by omega⟩
def psB : Int → Bool
  | .ofNat n => Nat.blt 0 n
  | .negSucc _ => false
theorem psB_ok {z : Int} (h : psB z = true) : 0 < z := by
  cases z with
  | ofNat n => have := blt_lt h; rw [Int.ofNat_eq_natCast]; omega
  | negSucc n => cases h
def nzB : Int → Bool
  | .ofNat n => Nat.blt 0 n
  | .negSucc _ => true
theorem nzB_ok {z : Int} (h : nzB z = true) : z ≠ 0 := by
  cases z with
  | ofNat n => have := blt_lt h; rw [Int.ofNat_eq_natCast]; omega
  | negSucc n => omega
def asQ : D → Option Q2
  | .agg [.prim (.int .i64 a), .prim (.slice none 0 0), .prim (.int .i64 b), .prim (.slice none 0 0)] => some ⟨a, b⟩
  | _ => none
theorem asQ_ok {d : D} {q : Q2} (h : asQ d = some q) : d = q.D := by
  unfold asQ at h
  split at h
  · cases h; rfl
  · cases h
def okSum (p q : Q2) : Bool := psB p.d && psB q.d && smB p.n && smB q.n && smB p.d && smB q.d && smB (p.n * q.d) && smB (q.n * p.d) && smB (p.n * q.d + q.n * p.d) && smB (p.d * q.d)
def okDif (p q : Q2) : Bool := psB p.d && psB q.d && smB p.n && smB q.n && smB p.d && smB q.d && smB (p.n * q.d) && smB (-q.n * p.d) && smB (p.n * q.d + -q.n * p.d) && smB (p.d * q.d)
def okPrd (p q : Q2) : Bool := psB p.d && psB q.d && smB p.n && smB q.n && smB p.d && smB q.d && smB (p.n * q.n) && smB (p.d * q.d)
def okCmp (p q : Q2) : Bool := smB p.n && smB q.n && smB p.d && smB q.d && smB (p.n * q.d) && smB (q.n * p.d)
def okQuo (p q r : Q2) : Bool := nzB q.n && psB p.d && psB r.d && smB p.n && smB q.n && smB p.d && smB q.d && smB r.n && smB r.d && smB (p.n * r.n) && smB (p.d * r.d)
def difQ (p q : Q2) : Q2 := addQ p (negQ q)
def prdQ (p q : Q2) : Q2 := mkQ (p.n * q.n) (p.d * q.d)
theorem dif_or {p q : Q2} (hb : okDif p q = true) : ICalls C0 133 [p.D, q.D] (difQ p q).D := by
  simp only [okDif, Bool.and_eq_true] at hb
  obtain ⟨⟨⟨⟨⟨⟨⟨⟨⟨b1, b2⟩, b3⟩, b4⟩, b5⟩, b6⟩, b7⟩, b8⟩, b9⟩, b10⟩ := hb
  exact fsub_sg p q (psB_ok b1) (psB_ok b2) (smB_ok b3) (smB_ok b4) (smB_ok b5) (smB_ok b6) (smB_ok b7) (smB_ok b8) (smB_ok b9) (smB_ok b10)
theorem sum_or {p q : Q2} (hb : okSum p q = true) : ICalls C0 104 [p.D, q.D] (addQ p q).D := by
  simp only [okSum, Bool.and_eq_true] at hb
  obtain ⟨⟨⟨⟨⟨⟨⟨⟨⟨b1, b2⟩, b3⟩, b4⟩, b5⟩, b6⟩, b7⟩, b8⟩, b9⟩, b10⟩ := hb
  exact fadd_sg p q (psB_ok b1) (psB_ok b2) (smB_ok b3) (smB_ok b4) (smB_ok b5) (smB_ok b6) (smB_ok b7) (smB_ok b8) (smB_ok b9) (smB_ok b10)
theorem prd_or {p q : Q2} (hb : okPrd p q = true) : ICalls C0 106 [p.D, q.D] (prdQ p q).D := by
  simp only [okPrd, Bool.and_eq_true] at hb
  obtain ⟨⟨⟨⟨⟨⟨⟨b1, b2⟩, b3⟩, b4⟩, b5⟩, b6⟩, b7⟩, b8⟩ := hb
  exact fmul_sg p q (psB_ok b1) (psB_ok b2) (smB_ok b3) (smB_ok b4) (smB_ok b5) (smB_ok b6) (smB_ok b7) (smB_ok b8)
/-- a point -/
abbrev ptD (x y : Q2) : D := .agg [i64 x.n, nilS, i64 x.d, nilS, i64 y.n, nilS, i64 y.d, nilS]
def dist2 (dx dy : Q2) : Q2 := addQ (prdQ dx dx) (prdQ dy dy)
def okDist (a b c d dx dy : Q2) : Bool := okDif a c && okDif b d && okPrd dx dx && okPrd dy dy && okSum (prdQ dx dx) (prdQ dy dy)
theorem dist_or {a b c d : Q2} (hb : okDist a b c d (difQ a c) (difQ b d) = true) : ICalls C0 79 [ptD a b, ptD c d] (dist2 (difQ a c) (difQ b d)).D := by
  simp only [okDist, Bool.and_eq_true] at hb
  obtain ⟨⟨⟨⟨b1, b2⟩, b3⟩, b4⟩, b5⟩ := hb
  have c1 := dif_or b1
  have c2 := dif_or b2
  have c3 := prd_or b3
  have c4 := prd_or b4
  have c5 := sum_or b5
  unfold dist2
  generalize difQ a c = dx at *
  generalize difQ b d = dy at *
  generalize prdQ dx dx = px at *
  generalize prdQ dy dy = py at *
  generalize addQ px py = s at *
  obtain ⟨a1, a2⟩ := a
  obtain ⟨b1, b2⟩ := b
  obtain ⟨c1', c2'⟩ := c
  obtain ⟨d1, d2⟩ := d
  obtain ⟨x1, x2⟩ := dx
  obtain ⟨y1, y2⟩ := dy
  obtain ⟨p1, p2⟩ := px
  obtain ⟨q1, q2⟩ := py
  obtain ⟨s1, s2⟩ := s
  unfold Q2.D ptD at *
  dsimp only at *
  refine ICallP.walk w1 fok79 rfl fun F => ?_
  refine OkS.seq ?_
  refine OkS.reg w1 0 (by kernel_rfl) ?_
  refine nxI ?_
  refine OkS.seq ?_
  refine OkS.regD w1 100 [0, 1, 2, 3, 4, 5, 6, 7, 8, 9, 10, 11] [12, 13] (by kernel_rfl) ?_
  refine nxI ?_
  refine CallW.same _ (c1) inferInstance ?_
  refine nxI ?_
  refine CallW.same _ (c2) inferInstance ?_
  refine nxI ?_
  refine OkS.seq ?_
  refine OkS.regD w1 200 [0, 1, 2, 3, 4] [5, 6, 7] (by kernel_rfl) ?_
  refine nxI ?_
  refine CallW.same _ (c3) inferInstance ?_
  refine nxI ?_
  refine CallO.same _ (c4) inferInstance ?_
  refine nxI ?_
  refine CallO.same _ (c5) inferInstance ?_
  refine nxI ?_
  refine OkS.ret ?_
  refine And.intro (by exact sdI) ?_
  refine dsI ?_
  exact exact_res rfl IsPure.out
def asPt : D → Option (Q2 × Q2)
  | .agg [.prim (.int .i64 a), .prim (.slice none 0 0), .prim (.int .i64 b), .prim (.slice none 0 0), .prim (.int .i64 c), .prim (.slice none 0 0), .prim (.int .i64 d), .prim (.slice none 0 0)] => some (⟨a, b⟩, ⟨c, d⟩)
  | _ => none
theorem asPt_ok {d : D} {q : Q2 × Q2} (h : asPt d = some q) : d = ptD q.1 q.2 := by
  unfold asPt at h
  split at h
  · cases h; rfl
  · cases h
instance (a b : Q2) : CellsPure (ptD a b) := inferInstance
def iffD (b : Bool) (d : D) : Option D := match b with
  | true => some d
  | false => none
theorem iffD_ok {b : Bool} {d d' : D} (h : iffD b d = some d') : b = true ∧ d = d' := by
  cases b
  · cases h
  · cases h; exact ⟨rfl, rfl⟩
def orcF (f : Nat) (ds : List D) : Option D := match ds with
  | [x, y] => match Nat.beq f 79 with
    | true => match asPt x with
      | some (a, b) => match asPt y with
        | some (c, d) => iffD (okDist a b c d (difQ a c) (difQ b d)) (dist2 (difQ a c) (difQ b d)).D
        | none => none
      | none => none
    | false => match asQ x with
      | some p => match asQ y with
        | some q => match Nat.beq f 104 with
          | true => iffD (okSum p q) (addQ p q).D
          | false => match Nat.beq f 133 with
            | true => iffD (okDif p q) (difQ p q).D
            | false => match Nat.beq f 106 with
              | true => iffD (okPrd p q) (prdQ p q).D
              | false => match Nat.beq f 141 with
                | true => iffD (okCmp p q) (i64 (cmpI (p.n * q.d) (q.n * p.d)))
                | false => match Nat.beq f 102 with
                  | true => iffD (okQuo p q (invQ q)) (mkQ (p.n * (invQ q).n) (p.d * (invQ q).d)).D
                  | false => none
        | none => none
      | none => none
  | [x] => match Nat.beq f 68 with
    | true => match asQ x with
      | some p => some (i64 (max (-1) (min 1 p.n)))
      | none => none
    | false => match Nat.beq f 77 with
      | true => match x with
        | .prim (.int .i64 z) => some (smF z 1)
        | _ => none
      | false => none
  | _ => none
theorem pureQ2 (p q : Q2) : ArePure [p.D, q.D] := inferInstance
theorem orcF_ok {f : Nat} {ds : List D} {d : D} (h : orcF f ds = some d) : ICalls C0 f ds d ∧ ArePure ds := by
  unfold orcF at h
  split at h <;> first | (cases h; done) | skip
  · split at h
    · rename_i hf
      obtain rfl := Nat.eq_of_beq_eq_true hf
      split at h <;> first | (cases h; done) | skip
      rename_i ha
      split at h <;> first | (cases h; done) | skip
      rename_i hb
      obtain rfl := asPt_ok ha
      obtain rfl := asPt_ok hb
      obtain ⟨hk, rfl⟩ := iffD_ok h
      exact ⟨dist_or hk, inferInstance⟩
    split at h <;> first | (cases h; done) | skip
    rename_i p hp
    split at h <;> first | (cases h; done) | skip
    rename_i q hq
    obtain rfl := asQ_ok hp
    obtain rfl := asQ_ok hq
    refine ⟨?_, pureQ2 p q⟩
    split at h
    · rename_i hf
      obtain rfl := Nat.eq_of_beq_eq_true hf
      obtain ⟨hb, rfl⟩ := iffD_ok h
      exact sum_or hb
    split at h
    · rename_i hf
      obtain rfl := Nat.eq_of_beq_eq_true hf
      obtain ⟨hb, rfl⟩ := iffD_ok h
      exact dif_or hb
    split at h
    · rename_i hf
      obtain rfl := Nat.eq_of_beq_eq_true hf
      obtain ⟨hb, rfl⟩ := iffD_ok h
      exact prd_or hb
    split at h
    · rename_i hf
      obtain rfl := Nat.eq_of_beq_eq_true hf
      obtain ⟨hb, rfl⟩ := iffD_ok h
      simp only [okCmp, Bool.and_eq_true] at hb
      obtain ⟨⟨⟨⟨⟨b1, b2⟩, b3⟩, b4⟩, b5⟩, b6⟩ := hb
      exact fcmp_sg p q (smB_ok b1) (smB_ok b2) (smB_ok b3) (smB_ok b4) (smB_ok b5) (smB_ok b6)
    split at h <;> first | (cases h; done) | skip
    rename_i hf
    obtain rfl := Nat.eq_of_beq_eq_true hf
    obtain ⟨hb, rfl⟩ := iffD_ok h
    simp only [okQuo, Bool.and_eq_true] at hb
    obtain ⟨⟨⟨⟨⟨⟨⟨⟨⟨⟨b1, b2⟩, b3⟩, b4⟩, b5⟩, b6⟩, b7⟩, b8⟩, b9⟩, b10⟩, b11⟩ := hb
    exact fdiv_sg p q (nzB_ok b1) (psB_ok b2) (psB_ok b3) (smB_ok b4) (smB_ok b5) (smB_ok b6) (smB_ok b7) (smB_ok b8) (smB_ok b9) (smB_ok b10) (smB_ok b11)
  · split at h
    · rename_i hf
      obtain rfl := Nat.eq_of_beq_eq_true hf
      split at h <;> first | (cases h; done) | skip
      rename_i p hp
      obtain rfl := asQ_ok hp
      cases h
      exact ⟨fsign_sg p, inferInstance⟩
    split at h <;> first | (cases h; done) | skip
    rename_i hf
    obtain rfl := Nat.eq_of_beq_eq_true hf
    split at h <;> first | (cases h; done) | skip
    cases h
    exact ⟨f_sg _, inferInstance⟩
/-- with another oracle behind it -/
def orcQ (o : Nat → List D → Option D) (f : Nat) (ds : List D) : Option D := match orcF f ds with
  | some d => some d
  | none => o f ds
theorem orcQ_ok {o : Nat → List D → Option D} (ho : ∀ f ds d, o f ds = some d → ICalls C0 f ds d ∧ ArePure ds) (f : Nat) (ds : List D) (d : D) (h : orcQ o f ds = some d) : ICalls C0 f ds d ∧ ArePure ds := by
  unfold orcQ at h
  split at h
  · rename_i hf; cases h; exact orcF_ok hf
  · exact ho _ _ _ h
end Go.Ide

/- The Grade laws, part N: awake's calls, by the evaluator, given two contracts. -/
namespace Go.Ide
open Go.Proofs Go.RowKit
set_option maxRecDepth 20000
def eqVal : Value → Value → Bool
  | .int .i64 a, .int .i64 b => a == b
  | .string a, .string b => a.data.toList == b.data.toList
  | .bool a, .bool b => a == b
  | .slice none 0 0, .slice none 0 0 => true
  | _, _ => false
theorem eqVal_ok {a b : Value} (h : eqVal a b = true) : a = b := by
  unfold eqVal at h
  split at h
  · rw [eq_of_beq h]
  · rename_i a b
    have := eq_of_beq h
    congr 1
    exact ByteArray.ext (Array.toList_inj.1 this)
  · rw [eq_of_beq h]
  · rfl
  · cases h
def eqL (f : D → D → Bool) : List D → List D → Bool
  | [], [] => true
  | a :: l, b :: m => f a b && eqL f l m
  | _, _ => false
theorem eqL_ok {f : D → D → Bool} (hf : ∀ a b, f a b = true → a = b) : ∀ {l m : List D}, eqL f l m = true → l = m
  | [], [], _ => rfl
  | a :: l, b :: m, h => by
    simp only [eqL, Bool.and_eq_true] at h
    rw [hf a b h.1, eqL_ok hf h.2]
  | [], _ :: _, h => by simp [eqL] at h
  | _ :: _, [], h => by simp [eqL] at h
def eqD : Nat → D → D → Bool
  | 0, _, _ => false
  | n + 1, a, b => match a, b with
    | .prim a, .prim b => eqVal a b
    | .agg l, .agg m => eqL (eqD n) l m
    | .sl x y l, .sl x' y' m => (x == x') && Nat.beq y y' && eqL (eqD n) l m
    | _, _ => false
theorem eqD_ok : ∀ (n : Nat) (a b : D), eqD n a b = true → a = b
  | 0, _, _, h => by simp [eqD] at h
  | n + 1, a, b, h => by
    unfold eqD at h
    split at h
    · rw [eqVal_ok h]
    · rw [eqL_ok (eqD_ok n) h]
    · simp only [Bool.and_eq_true] at h
      rw [eq_of_beq h.1.1, Nat.eq_of_beq_eq_true h.1.2, eqL_ok (eqD_ok n) h.2]
    · cases h
/-- digits, by a measure -/
def dig : Nat → Nat → List UInt8
  | 0, _ => []
  | k + 1, u => match Nat.blt u 10 with
    | true => [UInt8.ofNat (48 + u)]
    | false => dig k (u / 10) ++ [UInt8.ofNat (48 + u % 10)]
theorem dig_ok : ∀ (k u : Nat), u < 10 ^ k → dig k u = Lib.decDigits u ∨ k = 0
  | 0, _, _ => .inr rfl
  | k + 1, u, h => by
    left
    unfold dig Lib.decDigits
    by_cases hu : u < 10
    · rw [dif_pos hu, show Nat.blt u 10 = true from by rw [Nat.blt_eq]; exact hu]
    · rw [dif_neg hu, show Nat.blt u 10 = false from by rw [← Bool.not_eq_true, Nat.blt_eq]; exact hu]
      dsimp only
      rw [Nat.pow_succ] at h
      rcases dig_ok k (u / 10) (by omega) with h1 | h1
      · rw [h1]
      · subst h1; simp at h; omega
/-- the usual scheme; the three numbers whose middle is asked for -/
def usualD : D := .agg [.sl true 4 [.agg [.prim (.string ⟨#[109, 111, 105, 115, 116, 117, 114, 101]⟩), .prim (.string ⟨#[49, 47, 53]⟩), .prim (.string ⟨#[104, 97, 108, 102, 45, 117, 112]⟩), .prim (.string ⟨#[49, 47, 49, 48]⟩)], .agg [.prim (.string ⟨#[119, 101, 105, 103, 104, 116]⟩), .prim (.string ⟨#[49, 47, 50]⟩), .prim (.string ⟨#[104, 97, 108, 102, 45, 101, 118, 101, 110]⟩), .prim (.string ⟨#[49, 47, 50]⟩)]], .sl true 3 [.agg [.prim (.string ⟨#[111, 110, 101]⟩), .sl true 1 [.prim (.string ⟨#[]⟩), .prim (.string ⟨#[55, 56]⟩)], .sl true 1 [.prim (.string ⟨#[49, 51]⟩), .prim (.string ⟨#[]⟩)]], .agg [.prim (.string ⟨#[116, 119, 111]⟩), .sl true 1 [.prim (.string ⟨#[]⟩), .prim (.string ⟨#[55, 53]⟩)], .sl true 1 [.prim (.string ⟨#[49, 52]⟩), .prim (.string ⟨#[]⟩)]], .agg [.prim (.string ⟨#[116, 104, 114, 101, 101]⟩), .sl true 1 [.prim (.string ⟨#[]⟩), .prim (.string ⟨#[]⟩)], .sl true 1 [.prim (.string ⟨#[49, 54]⟩), .prim (.string ⟨#[]⟩)]]]]
def midL : List D := [.agg [i64 67, nilS, i64 5, nilS], .agg [i64 69, nilS, i64 5, nilS], .agg [i64 68, nilS, i64 5, nilS]]
def midR : D := .agg [i64 68, nilS, i64 5, nilS]
def orcA (f : Nat) (ds : List D) : Option D := match Nat.beq f 46 with
  | true => match ds with
    | [] => some designsD
    | _ => none
  | false => match Nat.beq f 145 with
    | true => match ds with
      | [] => some kindsD
      | _ => none
    | false => match Nat.beq f 27 with
      | true => match ds with
        | [d] => match eqD 30 d usualD with
          | true => some (i64 0)
          | false => none
        | _ => none
      | false => match Nat.beq f 67 with
        | true => match ds with
          | [.prim (.string s)] => some (boo (isNameL s.data.toList))
          | _ => none
        | false => match Nat.beq f 183 with
          | true => match ds with
            | [.prim (.int .i64 (.ofNat z))] => match Nat.ble z 9223372036854775807 with
              | true => some (str ⟨(dig 19 z).toArray⟩)
              | false => none
            | _ => none
          | false => match Nat.beq f 199 with
            | true => match ds with
              | [.prim (.string s)] => match Nat.ble s.size 18 with
                | true => match Lib.atoi s.data.toList with
                  | some n => some (.tup [i64 n, .prim .nilIface])
                  | none => none
                | false => none
              | _ => none
            | false => match Nat.beq f 64 with
              | true => match ds with
                | [.sl _ z es] => match Nat.beq z 4 && eqL (eqD 30) es midL with
                  | true => some midR
                  | false => none
                | _ => none
              | false => none
def Kn : Prop := ICalls C0 27 [usualD] (i64 0) ∧ ∀ b, ICalls C0 64 [.sl b 4 midL] midR
theorem usual_pure : Pure usualD := pureB_ok (n := 30) (by kernel_rfl)
theorem mid_pure (b : Bool) : Pure (.sl b 4 midL) := by cases b <;> exact pureB_ok (n := 30) (by kernel_rfl)
theorem one_pure {d : D} (h : Pure d) : ArePure [d] := ⟨fun x hx => by simp at hx; subst hx; exact h⟩
theorem orcA_ok (K : Kn) (f : Nat) (ds : List D) (d : D) (h : orcA f ds = some d) : ICalls C0 f ds d ∧ ArePure ds := by
  unfold orcA at h
  split at h
  · rename_i hf
    obtain rfl := Nat.eq_of_beq_eq_true hf
    split at h <;> first | (cases h; done) | skip
    cases h; exact ⟨designs_ok, inferInstance⟩
  split at h
  · rename_i hf
    obtain rfl := Nat.eq_of_beq_eq_true hf
    split at h <;> first | (cases h; done) | skip
    cases h; exact ⟨kinds_ok, inferInstance⟩
  split at h
  · rename_i hf
    obtain rfl := Nat.eq_of_beq_eq_true hf
    split at h <;> first | (cases h; done) | skip
    split at h <;> first | (cases h; done) | skip
    rename_i hd
    obtain rfl := eqD_ok _ _ _ hd
    cases h; exact ⟨K.1, one_pure usual_pure⟩
  split at h
  · rename_i hf
    obtain rfl := Nat.eq_of_beq_eq_true hf
    split at h <;> first | (cases h; done) | skip
    cases h; exact ⟨isName_ok _, inferInstance⟩
  split at h
  · rename_i hf
    obtain rfl := Nat.eq_of_beq_eq_true hf
    split at h <;> first | (cases h; done) | skip
    split at h <;> first | (cases h; done) | skip
    rename_i z x hz
    have hz := Nat.le_of_ble_eq_true hz
    cases h
    refine ⟨?_, inferInstance⟩
    have := itoa_ok (z : Int) (by omega) (by omega)
    have e : Lib.itoa (z : Int) = dig 19 z := by
      rcases dig_ok 19 z (Nat.lt_of_le_of_lt hz (by decide)) with h1 | h1
      · rw [h1]; rfl
      · cases h1
    rw [e] at this
    exact this
  split at h
  · rename_i hf
    obtain rfl := Nat.eq_of_beq_eq_true hf
    split at h <;> first | (cases h; done) | skip
    split at h <;> first | (cases h; done) | skip
    split at h <;> first | (cases h; done) | skip
    rename_i s b hs o n hn
    cases h; exact ⟨atoi_ok _ n (Nat.le_of_ble_eq_true hs) hn, inferInstance⟩
  split at h
  · rename_i hf
    obtain rfl := Nat.eq_of_beq_eq_true hf
    split at h <;> first | (cases h; done) | skip
    split at h <;> first | (cases h; done) | skip
    rename_i hd
    simp only [Bool.and_eq_true] at hd
    obtain rfl := Nat.eq_of_beq_eq_true hd.1
    obtain rfl := eqL_ok (eqD_ok _) hd.2
    cases h; exact ⟨K.2 _, one_pure (mid_pure _)⟩
  · cases h
def mtA (t : Nat) (name : String) : Option Nat := match Nat.beq t 114 with
  | true => match decide (name = "Cmp") with
    | true => some 141
    | false => none
  | false => none
theorem mtA_ok (t : Nat) (name : String) (f : Nat) (h : mtA t name = some f) (v : Value) (w : World) : (method (C0.P.types.size + Made.depth) t v name).run C0.P w = .ok (f, v) w := by
  unfold mtA at h
  split at h <;> first | (cases h; done) | skip
  rename_i ht
  split at h <;> first | (cases h; done) | skip
  rename_i hn
  obtain rfl := Nat.eq_of_beq_eq_true ht
  obtain rfl := of_decide_eq_true hn
  cases h
  kernel_rfl
/-- the set of letters of package strings: a type that the table leaves out -/
def t340 : TInfo := ⟨.arr 256 1 false, 256, 256, true, .agg (Array.replicate 256 (.bool false))⟩
noncomputable def tt2 (t : Nat) : Option TInfo := match Nat.beq t 340 with
  | true => some t340
  | false => tbt.get t
theorem tab2 : Tab C0.P tt2 := fun t i h => by
  unfold tt2 at h
  split at h
  · rename_i ht
    obtain rfl := Nat.eq_of_beq_eq_true ht
    cases h
    kernel_rfl
  · exact tab t i h
noncomputable def X2 : EV := ⟨tt2, xbt.get, fbt.get, fun _ => false, orcQ orcA, mtA, nat0⟩
theorem X2ok (K : Kn) : EVOk C0 X2 := ⟨tab2, tabx, ftab, orcQ_ok (orcA_ok K), by kernel_rfl, mtA_ok, nat0_ok⟩
end Go.Ide
