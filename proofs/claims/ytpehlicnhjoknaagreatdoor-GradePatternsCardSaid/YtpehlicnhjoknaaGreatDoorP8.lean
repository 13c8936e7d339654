/- The layer of own lemmas and contracts, part 8. -/
import Derived.Test.YtpehlicnhjoknaaGreatDoorP7
import Derived.Test.YtpehlicnhjoknaaGreatDoorP4
set_option linter.unusedVariables false
set_option linter.unusedSimpArgs false
/- The Grade laws, part J: Pattern of the reference (printed by gen_rpat.py). -/
namespace Go.Ide
open Go.Proofs Go.RowKit
set_option maxRecDepth 20000
set_option linter.unusedSimpArgs false
set_option maxHeartbeats 2000000
set_option allowUnsafeReducibility true in
attribute [local irreducible] strEq
def kLine : ByteArray := ⟨#[108, 105, 110, 101]⟩
def kZig : ByteArray := ⟨#[122, 105, 103, 122, 97, 103]⟩
def kGrid : ByteArray := ⟨#[103, 114, 105, 100]⟩
def kQuin : ByteArray := ⟨#[113, 117, 105, 110, 99, 117, 110, 120]⟩
/-- which kind a text is -/
structure KindIs (s : ByteArray) (a b c d : Bool) : Prop where
  a : strEq s ⟨#[108, 105, 110, 101]⟩ = a
  b : strEq s ⟨#[122, 105, 103, 122, 97, 103]⟩ = b
  c : strEq s ⟨#[103, 114, 105, 100]⟩ = c
  d : strEq s ⟨#[113, 117, 105, 110, 99, 117, 110, 120]⟩ = d
def qLine (n L W : Nat) (i : Nat) : List Q4 := (List.range i).map fun i => (L * (2 * i + 1), 2 * n, W, 2)
def qZig (n L W : Nat) (i : Nat) : List Q4 := (List.range i).map fun i => (L * (2 * i + 1), 2 * n, W * (1 + i % 2), 3)
def qRow (n L W i : Nat) (k : Nat) : List Q4 := (List.range k).map fun k => (L * (2 * i + 1), 2 * n, W * (2 * k + 1), 2 * n)
def qGrid (n L W : Nat) (i : Nat) : List Q4 := (List.range i).flatMap fun i => qRow n L W i n
def qFive (L W : Nat) : List Q4 := [(L, 4, W, 4), (L, 4, W * 3, 4), (L * 2, 4, W * 2, 4), (L * 3, 4, W, 4), (L * 3, 4, W * 3, 4)]
theorem qLine_s (n L W i : Nat) : qLine n L W (i + 1) = qLine n L W i ++ [(L * (2 * i + 1), 2 * n, W, 2)] := by unfold qLine; rw [List.range_succ, List.map_append]; rfl
theorem qZig_s (n L W i : Nat) : qZig n L W (i + 1) = qZig n L W i ++ [(L * (2 * i + 1), 2 * n, W * (1 + i % 2), 3)] := by unfold qZig; rw [List.range_succ, List.map_append]; rfl
theorem qRow_s (n L W i k : Nat) : qRow n L W i (k + 1) = qRow n L W i k ++ [(L * (2 * i + 1), 2 * n, W * (2 * k + 1), 2 * n)] := by unfold qRow; rw [List.range_succ, List.map_append]; rfl
theorem qGrid_s (n L W i : Nat) : qGrid n L W (i + 1) = qGrid n L W i ++ qRow n L W i n := by unfold qGrid; rw [List.range_succ, List.flatMap_append]; simp
theorem qLine_len (n L W i : Nat) : (qLine n L W i).length = i := by simp [qLine]
theorem qZig_len (n L W i : Nat) : (qZig n L W i).length = i := by simp [qZig]
theorem qRow_len (n L W i k : Nat) : (qRow n L W i k).length = k := by simp [qRow]
theorem qGrid_len (n L W i : Nat) : (qGrid n L W i).length = i * n := by
  induction i with
  | zero => simp [qGrid]
  | succ i ih => rw [qGrid_s, List.length_append, ih, qRow_len, Nat.succ_mul]
theorem sideN {L W : Int} (h : sideB L W = false) : ∃ l w : Nat, L = l ∧ W = w ∧ l ≤ 100000 ∧ w ≤ 100000 := by
  unfold sideB at h
  simp only [Bool.or_eq_false_iff, decide_eq_false_iff_not] at h
  exact ⟨L.toNat, W.toNat, by omega, by omega, by omega, by omega⟩
theorem wM {a b : Int} (h0 : 0 ≤ a) (h1 : a ≤ 100000) (h2 : 0 ≤ b) (h3 : b ≤ 100000) : IntKind.i64.wrap (a * b) = a * b := by
  have h4 : 0 ≤ a * b := Int.mul_nonneg h0 h2
  have h5 : a * b ≤ 100000 * 100000 := Int.mul_le_mul h1 h3 h2 (by decide)
  exact wI (by omega) (by omega)
theorem rpat_none (s : ByteArray) (hk : KindIs s false false false false) (n L W : Int) : ICalls C0 13 [str s, i64 n, i64 L, i64 W] (.tup [.sl false 3 [], i64 20]) := by
  refine ICallP.walk w1 fok13 rfl fun F => ?_
  obtain ⟨k1, k2, k3, k4⟩ := hk
  refine OkS.seq ?_
  refine OkS.reg w1 0 (by kernel_rfl) ?_
  refine nxI ?_
  refine OkS.seq ?_
  refine OkS.reg w1 100 (by kernel_rfl) ?_
  refine nxI ?_
  refine OkS.seq ?_
  refine OkS.seq ?_
  refine OkS.reg w1 200 (by kernel_rfl) ?_
  refine nxI ?_
  refine OkS.block ?_
  refine OkS.seq ?_
  refine OkS.seq ?_
  refine OkS.reg w1 400 (by kernel_rfl) ?_
  refine And.intro (by (refine dsI ?_); (try simp only [k1]); all_goals exact sdI) ?_
  refine dsI ?_
  try simp only [k1]
  refine OkS.cond ?_
  refine dsI ?_
  refine OkS.reg w1 500 (by kernel_rfl) ?_
  refine And.intro (by (refine dsI ?_); (try simp only [k2]); all_goals exact sdI) ?_
  refine dsI ?_
  try simp only [k2]
  refine OkS.cond ?_
  refine dsI ?_
  refine OkS.seq ?_
  refine OkS.reg w1 600 (by kernel_rfl) ?_
  refine And.intro (by (refine dsI ?_); (try simp only [k3]); all_goals exact sdI) ?_
  refine dsI ?_
  try simp only [k3]
  refine OkS.cond ?_
  refine dsI ?_
  refine OkS.seq ?_
  refine OkS.reg w1 800 (by kernel_rfl) ?_
  refine And.intro (by (refine dsI ?_); (try simp only [k4]); all_goals exact sdI) ?_
  refine dsI ?_
  try simp only [k4]
  refine OkS.cond ?_
  refine dsI ?_
  refine OkS.seq ?_
  refine OkS.reg w1 300 (by kernel_rfl) ?_
  refine nxI ?_
  refine OkS.ret ?_
  refine And.intro (by exact sdI) ?_
  refine dsI ?_
  exact ⟨_, fz_tup2 (.nil 3) (Fz.refl _), IsPure.out, rfl⟩
/-- the four kinds -/
inductive Kd where
  | line | zig | grid | quin
def Kd.a : Kd → Bool
  | .line => true
  | _ => false
def Kd.b : Kd → Bool
  | .zig => true
  | _ => false
def Kd.c : Kd → Bool
  | .grid => true
  | _ => false
def Kd.d : Kd → Bool
  | .quin => true
  | _ => false
def Kd.lo : Kd → Int
  | .quin => 5
  | _ => 1
def Kd.most : Kd → Int
  | .line | .zig => 64
  | .grid => 8
  | .quin => 5
def Kd.qs (n L W : Nat) : Kd → List Q4
  | .line => qLine n L W n
  | .zig => qZig n L W n
  | .grid => qGrid n L W n
  | .quin => qFive L W
theorem kd_bad (k : Kd) (n L W : Int) : badP k.lo k.most n L W = (decide (n < 1) || decide (n > k.most) || (k.d && (n != 5)) || sideB L W) := by
  unfold badP
  congr 1
  cases k
  · simp only [Kd.lo, Kd.d, Bool.false_and, Bool.or_false]; rfl
  · simp only [Kd.lo, Kd.d, Bool.false_and, Bool.or_false]; rfl
  · simp only [Kd.lo, Kd.d, Bool.false_and, Bool.or_false]; rfl
  · simp only [Kd.lo, Kd.d, Kd.most]
    by_cases h1 : n < 5
    · simp [h1]; omega
    · by_cases h2 : n > 5
      · simp [h2]
      · have : n = 5 := by omega
        subst this; rfl
theorem rpat_ok (k : Kd) (s : ByteArray) (hk : KindIs s k.a k.b k.c k.d) (n L W : Int) : ICalls C0 13 [str s, i64 n, i64 L, i64 W] (if badP k.lo k.most n L W then .tup [.sl false 3 [], i64 3] else .tup [.sl false 3 ((k.qs n.toNat L.toNat W.toNat).map probeQ), i64 0]) := by
  refine ICallP.walk w1 fok13 rfl fun F => ?_
  obtain ⟨k1, k2, k3, k4⟩ := hk
  refine OkS.seq ?_
  refine OkS.reg w1 0 (by kernel_rfl) ?_
  refine nxI ?_
  refine OkS.seq ?_
  refine OkS.reg w1 100 (by kernel_rfl) ?_
  refine nxI ?_
  refine OkS.seqW ⟨[(0, str s), (1, i64 n), (2, i64 L), (3, i64 W), (10, i64 k.most)], [], 100⟩ ?_ ?_
  · refine OkS.seq ?_
    refine OkS.reg w1 200 (by kernel_rfl) ?_
    refine nxI ?_
    cases k
    · dsimp only [Kd.a, Kd.b, Kd.c, Kd.d] at k1 k2 k3 k4
      refine OkS.block ?_
      refine OkS.seq ?_
      refine OkS.seq ?_
      refine OkS.reg w1 400 (by kernel_rfl) ?_
      refine And.intro (by (refine dsI ?_); (try simp only [k1]); all_goals exact sdI) ?_
      refine dsI ?_
      try simp only [k1]
      refine OkS.cond ?_
      refine dsI ?_
      refine OkS.skip ?_
      refine dsI ?_
      refine OkS.cond ?_
      refine dsI ?_
      refine OkS.skip ?_
      refine dsI ?_
      exact And.intro (by trivial) (wkI)
    · dsimp only [Kd.a, Kd.b, Kd.c, Kd.d] at k1 k2 k3 k4
      refine OkS.block ?_
      refine OkS.seq ?_
      refine OkS.seq ?_
      refine OkS.reg w1 400 (by kernel_rfl) ?_
      refine And.intro (by (refine dsI ?_); (try simp only [k1]); all_goals exact sdI) ?_
      refine dsI ?_
      try simp only [k1]
      refine OkS.cond ?_
      refine dsI ?_
      refine OkS.reg w1 500 (by kernel_rfl) ?_
      refine And.intro (by (refine dsI ?_); (try simp only [k2]); all_goals exact sdI) ?_
      refine dsI ?_
      try simp only [k2]
      refine OkS.cond ?_
      refine dsI ?_
      refine OkS.skip ?_
      refine dsI ?_
      exact And.intro (by trivial) (wkI)
    · dsimp only [Kd.a, Kd.b, Kd.c, Kd.d] at k1 k2 k3 k4
      refine OkS.block ?_
      refine OkS.seq ?_
      refine OkS.seq ?_
      refine OkS.reg w1 400 (by kernel_rfl) ?_
      refine And.intro (by (refine dsI ?_); (try simp only [k1]); all_goals exact sdI) ?_
      refine dsI ?_
      try simp only [k1]
      refine OkS.cond ?_
      refine dsI ?_
      refine OkS.reg w1 500 (by kernel_rfl) ?_
      refine And.intro (by (refine dsI ?_); (try simp only [k2]); all_goals exact sdI) ?_
      refine dsI ?_
      try simp only [k2]
      refine OkS.cond ?_
      refine dsI ?_
      refine OkS.seq ?_
      refine OkS.reg w1 600 (by kernel_rfl) ?_
      refine And.intro (by (refine dsI ?_); (try simp only [k3]); all_goals exact sdI) ?_
      refine dsI ?_
      try simp only [k3]
      refine OkS.cond ?_
      refine dsI ?_
      refine OkS.reg w1 700 (by kernel_rfl) ?_
      refine nxI ?_
      exact And.intro (by trivial) (wkI)
    · dsimp only [Kd.a, Kd.b, Kd.c, Kd.d] at k1 k2 k3 k4
      refine OkS.block ?_
      refine OkS.seq ?_
      refine OkS.seq ?_
      refine OkS.reg w1 400 (by kernel_rfl) ?_
      refine And.intro (by (refine dsI ?_); (try simp only [k1]); all_goals exact sdI) ?_
      refine dsI ?_
      try simp only [k1]
      refine OkS.cond ?_
      refine dsI ?_
      refine OkS.reg w1 500 (by kernel_rfl) ?_
      refine And.intro (by (refine dsI ?_); (try simp only [k2]); all_goals exact sdI) ?_
      refine dsI ?_
      try simp only [k2]
      refine OkS.cond ?_
      refine dsI ?_
      refine OkS.seq ?_
      refine OkS.reg w1 600 (by kernel_rfl) ?_
      refine And.intro (by (refine dsI ?_); (try simp only [k3]); all_goals exact sdI) ?_
      refine dsI ?_
      try simp only [k3]
      refine OkS.cond ?_
      refine dsI ?_
      refine OkS.seq ?_
      refine OkS.reg w1 800 (by kernel_rfl) ?_
      refine And.intro (by (refine dsI ?_); (try simp only [k4]); all_goals exact sdI) ?_
      refine dsI ?_
      try simp only [k4]
      refine OkS.cond ?_
      refine dsI ?_
      refine OkS.reg w1 900 (by kernel_rfl) ?_
      refine nxI ?_
      exact And.intro (by trivial) (wkI)
  rw [kd_bad]
  have hs := rsides_ok L W
  obtain ⟨b1, e1⟩ : ∃ b, decide (n < 1) = b := ⟨_, rfl⟩
  obtain ⟨b2, e2⟩ : ∃ b, decide (n > k.most) = b := ⟨_, rfl⟩
  obtain ⟨b4, e4⟩ : ∃ b, (n != 5) = b := ⟨_, rfl⟩
  obtain ⟨b3, e3⟩ : ∃ b, sideB L W = b := ⟨_, rfl⟩
  obtain ⟨d, hd⟩ : ∃ b, k.d = b := ⟨_, rfl⟩
  rw [e3] at hs
  rw [hd] at k4
  rw [e1, e2, e3, e4, hd]
  rcases b1 with _ | _
  rotate_left
  · simp only [Bool.or_false, Bool.or_true, Bool.false_or, Bool.true_or, Bool.or_self, Bool.false_and, Bool.true_and, Bool.and_false, Bool.false_eq_true, if_true, if_false, reduceIte]
    refine OkS.seq ?_
    refine OkS.seq ?_
    refine OkS.reg w1 1000 (by kernel_rfl) ?_
    repeat' (first | (refine And.intro (by exact sdI) ?_; (refine dsI ?_); (try simp only [brB_t, brB_f, e1])) | ((refine brI (fun hb => ?_) (fun hb => ?_)) <;> (try simp only [Bool.not_eq_true', Bool.not_eq_false'] at hb) <;> (try simp only [hb]) <;> (refine dsI ?_)))
    refine OkS.cond ?_
    refine dsI ?_
    refine OkS.seq ?_
    refine OkS.reg w1 1100 (by kernel_rfl) ?_
    refine nxI ?_
    refine OkS.ret ?_
    refine And.intro (by exact sdI) ?_
    refine dsI ?_
    exact ⟨_, fz_tup2 (.nil 3) (Fz.refl _), IsPure.out, rfl⟩
  rcases b2 with _ | _
  rotate_left
  · simp only [Bool.or_false, Bool.or_true, Bool.false_or, Bool.true_or, Bool.or_self, Bool.false_and, Bool.true_and, Bool.and_false, Bool.false_eq_true, if_true, if_false, reduceIte]
    refine OkS.seq ?_
    refine OkS.seq ?_
    refine OkS.reg w1 1000 (by kernel_rfl) ?_
    repeat' (first | (refine And.intro (by exact sdI) ?_; (refine dsI ?_); (try simp only [brB_t, brB_f, e1, e2])) | ((refine brI (fun hb => ?_) (fun hb => ?_)) <;> (try simp only [Bool.not_eq_true', Bool.not_eq_false'] at hb) <;> (try simp only [hb]) <;> (refine dsI ?_)))
    refine OkS.cond ?_
    refine dsI ?_
    refine OkS.seq ?_
    refine OkS.reg w1 1100 (by kernel_rfl) ?_
    refine nxI ?_
    refine OkS.ret ?_
    refine And.intro (by exact sdI) ?_
    refine dsI ?_
    exact ⟨_, fz_tup2 (.nil 3) (Fz.refl _), IsPure.out, rfl⟩
  rcases d with _ | _
  · skip
    rcases b3 with _ | _
    all_goals
      simp only [Bool.or_false, Bool.or_true, Bool.false_or, Bool.true_or, Bool.or_self, Bool.false_and, Bool.true_and, Bool.and_false, Bool.false_eq_true, if_true, if_false, reduceIte]
      refine OkS.seq ?_
      refine OkS.seq ?_
      refine OkS.reg w1 1000 (by kernel_rfl) ?_
      repeat' (first | (refine And.intro (by exact sdI) ?_; (refine dsI ?_); (try simp only [brB_t, brB_f, e1, e2, k4])) | ((refine brI (fun hb => ?_) (fun hb => ?_)) <;> (try simp only [Bool.not_eq_true', Bool.not_eq_false'] at hb) <;> (try simp only [hb]) <;> (refine dsI ?_)))
      refine CallO.same _ (hs) inferInstance ?_
      refine nxI ?_
      simp only [Bool.not_false, brB_t]
      refine nxI ?_
      try simp only [Bool.or_false, Bool.or_true, Bool.false_or, Bool.true_or, Bool.or_self, Bool.false_and, Bool.true_and, Bool.and_false, Bool.false_eq_true, if_true, if_false, reduceIte]
    · rw [show ((0 : Int) != 0) = false from rfl]
      refine OkS.cond ?_
      refine dsI ?_
      refine OkS.skip ?_
      refine dsI ?_
      refine OkS.seq ?_
      refine OkS.reg w1 1200 (by kernel_rfl) ?_
      refine nxI ?_
      obtain ⟨l, w, rfl, rfl, hl, hw⟩ := sideN e3
      cases k
      · dsimp only [Kd.a, Kd.b, Kd.c, Kd.d, Kd.most, Kd.qs] at *
        have hn1 := of_decide_eq_false e1
        have hn2 := of_decide_eq_false e2
        obtain ⟨n, rfl⟩ : ∃ m : Nat, n = m := ⟨n.toNat, by omega⟩
        simp only [Int.toNat_natCast]
        refine OkS.seqW ⟨[(0, str s), (1, i64 n), (2, i64 l), (3, i64 w), (11, nilS)], [], 300⟩ ?_ ?_
        · refine OkS.seq ?_
          refine OkS.reg w1 1300 (by kernel_rfl) ?_
          refine And.intro (by (refine dsI ?_); (try simp only [k4]); all_goals exact sdI) ?_
          refine dsI ?_
          try simp only [k4]
          refine OkS.cond ?_
          refine dsI ?_
          refine OkS.skip ?_
          refine dsI ?_
          exact And.intro (by trivial) (wkI)
        refine OkS.seq ?_
        refine OkS.seq ?_
        refine OkS.reg w1 2300 (by kernel_rfl) ?_
        refine nxI ?_
        refine OkS.block ?_
        refine OkS.loop (α := Nat × Nat × Nat) (fun p => ⟨[(0, str s), (1, i64 n), (2, i64 l), (3, i64 w), (11, accD 3306 p.2.1 3 ((qLine n l w p.1).map probeQ)), (14, i64 p.1)], accH 3306 p.2.1 77 3 ((qLine n l w p.1).map probeQ), p.2.2⟩) (fun p => n - p.1)
          (fun p => p.1 ≤ n) (0, 0, _) (Nat.zero_le _) wkI ?_
        rintro ⟨i, g, m⟩ F h1
        dsimp only at h1 ⊢
        refine OkS.seq ?_
        refine OkS.seq ?_
        refine OkS.reg w1 2400 (by kernel_rfl) ?_
        refine nxI ?_
        refine OkS.cond ?_
        refine dsI ?_
        (refine brI (fun hc => ?_) (fun hc => ?_)) <;> (try simp only [Bool.not_eq_true', Bool.not_eq_false'] at hc) <;> (try simp only [hc])
        · have hi : i < n := by simpa using hc
          refine OkS.skip ?_
          refine dsI ?_
          refine OkS.seq ?_
          refine OkS.block ?_
          refine OkS.seq ?_
          have a0 : IntKind.i64.wrap (IntKind.i64.wrap (2 * (i : Int)) + 1) = ((2 * i + 1 : Nat) : Int) := by rw [wI (z := 2 * (i : Int)) (by omega) (by omega), wI (by omega) (by omega)]; omega
          have a1 : IntKind.i64.wrap (((2 * i + 1 : Nat) : Int) * (l : Int)) = ((l * (2 * i + 1) : Nat) : Int) := by rw [wM (by omega) (by omega) (by omega) (by omega), Int.mul_comm, ← Int.natCast_mul]
          have a2 : IntKind.i64.wrap (2 * (n : Int)) = ((2 * n : Nat) : Int) := by rw [wI (by omega) (by omega)]; omega
          have b1 : l * (2 * i + 1) ≤ 100000 * 129 := Nat.mul_le_mul hl (by omega)
          have c1 := rof_ok (l * (2 * i + 1)) (2 * n) (by omega) (by omega) (by omega)
          have a3 : IntKind.i64.wrap ((i : Int) + 1) = ((i + 1 : Nat) : Int) := wI (by omega) (by omega)
          refine OkS.reg w1 2600 (by kernel_rfl) ?_
          refine And.intro (by (refine dsI ?_); (try simp only [a0, a1, a2]); all_goals exact sdI) ?_
          refine dsI ?_
          try simp only [a0, a1, a2]
          refine CallO.same _ (c1) inferInstance ?_
          refine nxI ?_
          refine OkS.seq ?_
          refine OkS.reg w1 2700 (by kernel_rfl) ?_
          refine nxI ?_
          refine OkS.block ?_
          refine OkS.seq ?_
          refine OkS.reg w1 3200 (by kernel_rfl) ?_
          refine And.intro (by (refine dsI ?_); (try simp only [k1]); all_goals exact sdI) ?_
          refine dsI ?_
          try simp only [k1]
          refine OkS.cond ?_
          refine dsI ?_
          have c2 := rof_ok w 2 (by omega) (by omega) (by omega)
          have hsn : (qLine n l w i).map probeQ ++ [probeQ (l * (2 * i + 1), 2 * n, w, 2)] = (qLine n l w (i + 1)).map probeQ := by rw [qLine_s, List.map_append]; rfl
          have hle : ((qLine n l w i).map probeQ).length ≤ 5000 := by rw [List.length_map, qLine_len]; omega
          generalize hql : (qLine n l w i).map probeQ = ql at *
          rcases ql with _ | ⟨x, ql⟩
          all_goals
            (try simp only [List.length_cons] at hle)
            dsimp only [accD_nil, accH_nil, accD_cons, accH_cons]
            refine OkS.reg w1 3300 (by kernel_rfl) ?_
            refine And.intro (by (refine dsI ?_); (try simp only [k1]); all_goals exact sdI) ?_
            refine dsI ?_
            try simp only [k1]
            refine CallO.same _ (c2) inferInstance ?_
            refine nxI ?_
          · refine OkS.reg w1 2500 (by kernel_rfl) ?_
            refine And.intro (by (refine dsI ?_); (try simp only [a3]); all_goals exact sdI) ?_
            refine dsI ?_
            try simp only [a3]
            refine ⟨(i + 1, _, _), hi, by (dsimp only; omega), by (dsimp only; rw [← hsn]; exact wkI)⟩
          · refine OkS.reg w1 2500 (by kernel_rfl) ?_
            refine And.intro (by (refine dsI ?_); (try simp only [a3]); all_goals exact sdI) ?_
            refine dsI ?_
            try simp only [a3]
            have htk : List.take (ql.length + 1) (x :: ql) = x :: ql := by simp
            rw [htk]
            refine ⟨(i + 1, _, _), hi, by (dsimp only; omega), by (dsimp only; rw [← hsn, accD_snoc]; exact wkI)⟩
        · have hi : i = n := by
            have : ¬ i < n := by simpa using hc
            omega
          subst hi
          refine OkS.exit ?_
          refine dsI ?_
          refine OkS.seq ?_
          refine OkS.reg w1 3600 (by kernel_rfl) ?_
          refine nxI ?_
          refine OkS.ret ?_
          refine And.intro (by exact sdI) ?_
          refine dsI ?_
          exact ⟨_, fz_tup2 (fz_acc _ _ _ _ _) (Fz.refl _), IsPure.out, rfl⟩
      · dsimp only [Kd.a, Kd.b, Kd.c, Kd.d, Kd.most, Kd.qs] at *
        have hn1 := of_decide_eq_false e1
        have hn2 := of_decide_eq_false e2
        obtain ⟨n, rfl⟩ : ∃ m : Nat, n = m := ⟨n.toNat, by omega⟩
        simp only [Int.toNat_natCast]
        refine OkS.seqW ⟨[(0, str s), (1, i64 n), (2, i64 l), (3, i64 w), (11, nilS)], [], 300⟩ ?_ ?_
        · refine OkS.seq ?_
          refine OkS.reg w1 1300 (by kernel_rfl) ?_
          refine And.intro (by (refine dsI ?_); (try simp only [k4]); all_goals exact sdI) ?_
          refine dsI ?_
          try simp only [k4]
          refine OkS.cond ?_
          refine dsI ?_
          refine OkS.skip ?_
          refine dsI ?_
          exact And.intro (by trivial) (wkI)
        refine OkS.seq ?_
        refine OkS.seq ?_
        refine OkS.reg w1 2300 (by kernel_rfl) ?_
        refine nxI ?_
        refine OkS.block ?_
        refine OkS.loop (α := Nat × Nat × Nat) (fun p => ⟨[(0, str s), (1, i64 n), (2, i64 l), (3, i64 w), (11, accD 3510 p.2.1 3 ((qZig n l w p.1).map probeQ)), (14, i64 p.1)], accH 3510 p.2.1 77 3 ((qZig n l w p.1).map probeQ), p.2.2⟩) (fun p => n - p.1)
          (fun p => p.1 ≤ n) (0, 0, _) (Nat.zero_le _) wkI ?_
        rintro ⟨i, g, m⟩ F h1
        dsimp only at h1 ⊢
        refine OkS.seq ?_
        refine OkS.seq ?_
        refine OkS.reg w1 2400 (by kernel_rfl) ?_
        refine nxI ?_
        refine OkS.cond ?_
        refine dsI ?_
        (refine brI (fun hc => ?_) (fun hc => ?_)) <;> (try simp only [Bool.not_eq_true', Bool.not_eq_false'] at hc) <;> (try simp only [hc])
        · have hi : i < n := by simpa using hc
          refine OkS.skip ?_
          refine dsI ?_
          refine OkS.seq ?_
          refine OkS.block ?_
          refine OkS.seq ?_
          have a0 : IntKind.i64.wrap (IntKind.i64.wrap (2 * (i : Int)) + 1) = ((2 * i + 1 : Nat) : Int) := by rw [wI (z := 2 * (i : Int)) (by omega) (by omega), wI (by omega) (by omega)]; omega
          have a1 : IntKind.i64.wrap (((2 * i + 1 : Nat) : Int) * (l : Int)) = ((l * (2 * i + 1) : Nat) : Int) := by rw [wM (by omega) (by omega) (by omega) (by omega), Int.mul_comm, ← Int.natCast_mul]
          have a2 : IntKind.i64.wrap (2 * (n : Int)) = ((2 * n : Nat) : Int) := by rw [wI (by omega) (by omega)]; omega
          have b1 : l * (2 * i + 1) ≤ 100000 * 129 := Nat.mul_le_mul hl (by omega)
          have c1 := rof_ok (l * (2 * i + 1)) (2 * n) (by omega) (by omega) (by omega)
          have a3 : IntKind.i64.wrap ((i : Int) + 1) = ((i + 1 : Nat) : Int) := wI (by omega) (by omega)
          refine OkS.reg w1 2600 (by kernel_rfl) ?_
          refine And.intro (by (refine dsI ?_); (try simp only [a0, a1, a2]); all_goals exact sdI) ?_
          refine dsI ?_
          try simp only [a0, a1, a2]
          refine CallO.same _ (c1) inferInstance ?_
          refine nxI ?_
          refine OkS.seq ?_
          refine OkS.reg w1 2700 (by kernel_rfl) ?_
          refine nxI ?_
          refine OkS.block ?_
          refine OkS.seq ?_
          refine OkS.reg w1 3200 (by kernel_rfl) ?_
          refine And.intro (by (refine dsI ?_); (try simp only [k1]); all_goals exact sdI) ?_
          refine dsI ?_
          try simp only [k1]
          refine OkS.cond ?_
          refine dsI ?_
          refine OkS.seq ?_
          refine OkS.reg w1 3400 (by kernel_rfl) ?_
          refine And.intro (by (refine dsI ?_); (try simp only [k2]); all_goals exact sdI) ?_
          refine dsI ?_
          try simp only [k2]
          refine OkS.cond ?_
          refine dsI ?_
          have b2 : w * (1 + i % 2) ≤ 100000 * 2 := Nat.mul_le_mul hw (by omega)
          have c2 := rof_ok (w * (1 + i % 2)) 3 (by omega) (by omega) (by omega)
          have a4 : (i : Int).tmod 2 = ((i % 2 : Nat) : Int) := rfl
          have a5 : IntKind.i64.wrap (1 + ((i % 2 : Nat) : Int)) = ((1 + i % 2 : Nat) : Int) := by rw [wI (by omega) (by omega)]; omega
          have a6 : IntKind.i64.wrap (((1 + i % 2 : Nat) : Int) * (w : Int)) = ((w * (1 + i % 2) : Nat) : Int) := by rw [wM (by omega) (by omega) (by omega) (by omega), Int.mul_comm, ← Int.natCast_mul]
          have hsn : (qZig n l w i).map probeQ ++ [probeQ (l * (2 * i + 1), 2 * n, w * (1 + i % 2), 3)] = (qZig n l w (i + 1)).map probeQ := by rw [qZig_s, List.map_append]; rfl
          have hle : ((qZig n l w i).map probeQ).length ≤ 5000 := by rw [List.length_map, qZig_len]; omega
          generalize hql : (qZig n l w i).map probeQ = ql at *
          rcases ql with _ | ⟨x, ql⟩
          all_goals
            (try simp only [List.length_cons] at hle)
            dsimp only [accD_nil, accH_nil, accD_cons, accH_cons]
            refine OkS.reg w1 3500 (by kernel_rfl) ?_
            refine And.intro (by (refine dsI ?_); (try simp only [a4, a5, a6]); all_goals exact sdI) ?_
            refine dsI ?_
            try simp only [a4, a5, a6]
            refine CallO.same _ (c2) inferInstance ?_
            refine nxI ?_
          · refine OkS.reg w1 2500 (by kernel_rfl) ?_
            refine And.intro (by (refine dsI ?_); (try simp only [a3]); all_goals exact sdI) ?_
            refine dsI ?_
            try simp only [a3]
            refine ⟨(i + 1, _, _), hi, by (dsimp only; omega), by (dsimp only; rw [← hsn]; exact wkI)⟩
          · refine OkS.reg w1 2500 (by kernel_rfl) ?_
            refine And.intro (by (refine dsI ?_); (try simp only [a3]); all_goals exact sdI) ?_
            refine dsI ?_
            try simp only [a3]
            have htk : List.take (ql.length + 1) (x :: ql) = x :: ql := by simp
            rw [htk]
            refine ⟨(i + 1, _, _), hi, by (dsimp only; omega), by (dsimp only; rw [← hsn, accD_snoc]; exact wkI)⟩
        · have hi : i = n := by
            have : ¬ i < n := by simpa using hc
            omega
          subst hi
          refine OkS.exit ?_
          refine dsI ?_
          refine OkS.seq ?_
          refine OkS.reg w1 3600 (by kernel_rfl) ?_
          refine nxI ?_
          refine OkS.ret ?_
          refine And.intro (by exact sdI) ?_
          refine dsI ?_
          exact ⟨_, fz_tup2 (fz_acc _ _ _ _ _) (Fz.refl _), IsPure.out, rfl⟩
      · dsimp only [Kd.a, Kd.b, Kd.c, Kd.d, Kd.most, Kd.qs] at *
        have hn1 := of_decide_eq_false e1
        have hn2 := of_decide_eq_false e2
        obtain ⟨n, rfl⟩ : ∃ m : Nat, n = m := ⟨n.toNat, by omega⟩
        simp only [Int.toNat_natCast]
        refine OkS.seqW ⟨[(0, str s), (1, i64 n), (2, i64 l), (3, i64 w), (11, nilS)], [], 300⟩ ?_ ?_
        · refine OkS.seq ?_
          refine OkS.reg w1 1300 (by kernel_rfl) ?_
          refine And.intro (by (refine dsI ?_); (try simp only [k4]); all_goals exact sdI) ?_
          refine dsI ?_
          try simp only [k4]
          refine OkS.cond ?_
          refine dsI ?_
          refine OkS.skip ?_
          refine dsI ?_
          exact And.intro (by trivial) (wkI)
        refine OkS.seq ?_
        refine OkS.seq ?_
        refine OkS.reg w1 2300 (by kernel_rfl) ?_
        refine nxI ?_
        refine OkS.block ?_
        refine OkS.loop (α := Nat × Nat × Nat) (fun p => ⟨[(0, str s), (1, i64 n), (2, i64 l), (3, i64 w), (11, accD 3112 p.2.1 3 ((qGrid n l w p.1).map probeQ)), (14, i64 p.1)], accH 3112 p.2.1 77 3 ((qGrid n l w p.1).map probeQ), p.2.2⟩) (fun p => n - p.1)
          (fun p => p.1 ≤ n) (0, 0, _) (Nat.zero_le _) wkI ?_
        rintro ⟨i, g, m⟩ F h1
        dsimp only at h1 ⊢
        refine OkS.seq ?_
        refine OkS.seq ?_
        refine OkS.reg w1 2400 (by kernel_rfl) ?_
        refine nxI ?_
        refine OkS.cond ?_
        refine dsI ?_
        (refine brI (fun hc => ?_) (fun hc => ?_)) <;> (try simp only [Bool.not_eq_true', Bool.not_eq_false'] at hc) <;> (try simp only [hc])
        · have hi : i < n := by simpa using hc
          refine OkS.skip ?_
          refine dsI ?_
          refine OkS.seq ?_
          refine OkS.block ?_
          refine OkS.seq ?_
          have a0 : IntKind.i64.wrap (IntKind.i64.wrap (2 * (i : Int)) + 1) = ((2 * i + 1 : Nat) : Int) := by rw [wI (z := 2 * (i : Int)) (by omega) (by omega), wI (by omega) (by omega)]; omega
          have a1 : IntKind.i64.wrap (((2 * i + 1 : Nat) : Int) * (l : Int)) = ((l * (2 * i + 1) : Nat) : Int) := by rw [wM (by omega) (by omega) (by omega) (by omega), Int.mul_comm, ← Int.natCast_mul]
          have a2 : IntKind.i64.wrap (2 * (n : Int)) = ((2 * n : Nat) : Int) := by rw [wI (by omega) (by omega)]; omega
          have b1 : l * (2 * i + 1) ≤ 100000 * 129 := Nat.mul_le_mul hl (by omega)
          have c1 := rof_ok (l * (2 * i + 1)) (2 * n) (by omega) (by omega) (by omega)
          have a3 : IntKind.i64.wrap ((i : Int) + 1) = ((i + 1 : Nat) : Int) := wI (by omega) (by omega)
          refine OkS.reg w1 2600 (by kernel_rfl) ?_
          refine And.intro (by (refine dsI ?_); (try simp only [a0, a1, a2]); all_goals exact sdI) ?_
          refine dsI ?_
          try simp only [a0, a1, a2]
          refine CallO.same _ (c1) inferInstance ?_
          refine nxI ?_
          refine OkS.seq ?_
          refine OkS.reg w1 2700 (by kernel_rfl) ?_
          refine nxI ?_
          refine OkS.block ?_
          refine OkS.seq ?_
          refine OkS.reg w1 3200 (by kernel_rfl) ?_
          refine And.intro (by (refine dsI ?_); (try simp only [k1]); all_goals exact sdI) ?_
          refine dsI ?_
          try simp only [k1]
          refine OkS.cond ?_
          refine dsI ?_
          refine OkS.seq ?_
          refine OkS.reg w1 3400 (by kernel_rfl) ?_
          refine And.intro (by (refine dsI ?_); (try simp only [k2]); all_goals exact sdI) ?_
          refine dsI ?_
          try simp only [k2]
          refine OkS.cond ?_
          refine dsI ?_
          refine OkS.seq ?_
          refine OkS.reg w1 2800 (by kernel_rfl) ?_
          refine nxI ?_
          refine OkS.block ?_
          refine OkS.loop (α := Nat × Nat × Nat) (fun p => ⟨[(0, str s), (1, i64 n), (2, i64 l), (3, i64 w), (11, accD 3112 p.2.1 3 ((qGrid n l w i ++ qRow n l w i p.1).map probeQ)), (14, i64 i), (15, str (rtx (l * (2 * i + 1)) (2 * n))), (16, i64 p.1)], accH 3112 p.2.1 77 3 ((qGrid n l w i ++ qRow n l w i p.1).map probeQ), p.2.2⟩) (fun p => n - p.1)
            (fun p => p.1 ≤ n) (0, g, _) (Nat.zero_le _) (by (dsimp only; rw [show qGrid n l w i ++ qRow n l w i 0 = qGrid n l w i from List.append_nil _]; exact wkI)) ?_
          rintro ⟨k, g, m⟩ F h3
          dsimp only at h3 ⊢
          refine OkS.seq ?_
          refine OkS.seq ?_
          refine OkS.reg w1 2900 (by kernel_rfl) ?_
          refine nxI ?_
          refine OkS.cond ?_
          refine dsI ?_
          (refine brI (fun hd => ?_) (fun hd => ?_)) <;> (try simp only [Bool.not_eq_true', Bool.not_eq_false'] at hd) <;> (try simp only [hd])
          · have hk : k < n := by simpa using hd
            refine OkS.skip ?_
            refine dsI ?_
            refine OkS.seq ?_
            refine OkS.block ?_
            have a4 : IntKind.i64.wrap (IntKind.i64.wrap (2 * (k : Int)) + 1) = ((2 * k + 1 : Nat) : Int) := by rw [wI (z := 2 * (k : Int)) (by omega) (by omega), wI (by omega) (by omega)]; omega
            have a5 : IntKind.i64.wrap (((2 * k + 1 : Nat) : Int) * (w : Int)) = ((w * (2 * k + 1) : Nat) : Int) := by rw [wM (by omega) (by omega) (by omega) (by omega), Int.mul_comm, ← Int.natCast_mul]
            have b2 : w * (2 * k + 1) ≤ 100000 * 129 := Nat.mul_le_mul hw (by omega)
            have c2 := rof_ok (w * (2 * k + 1)) (2 * n) (by omega) (by omega) (by omega)
            have a6 : IntKind.i64.wrap ((k : Int) + 1) = ((k + 1 : Nat) : Int) := wI (by omega) (by omega)
            have hin : i * n ≤ 64 * 64 := Nat.mul_le_mul (by omega) (by omega)
            have hsn : (qGrid n l w i ++ qRow n l w i k).map probeQ ++ [probeQ (l * (2 * i + 1), 2 * n, w * (2 * k + 1), 2 * n)] = (qGrid n l w i ++ qRow n l w i (k + 1)).map probeQ := by rw [qRow_s, List.map_append, List.map_append, List.map_append, List.append_assoc]; rfl
            have hle : ((qGrid n l w i ++ qRow n l w i k).map probeQ).length ≤ 5000 := by rw [List.length_map, List.length_append, qGrid_len, qRow_len]; omega
            generalize hql : (qGrid n l w i ++ qRow n l w i k).map probeQ = ql at *
            rcases ql with _ | ⟨x, ql⟩
            all_goals
              (try simp only [List.length_cons] at hle)
              dsimp only [accD_nil, accH_nil, accD_cons, accH_cons]
              refine OkS.reg w1 3100 (by kernel_rfl) ?_
              refine And.intro (by (refine dsI ?_); (try simp only [a4, a5, a2]); all_goals exact sdI) ?_
              refine dsI ?_
              try simp only [a4, a5, a2]
              refine CallO.same _ (c2) inferInstance ?_
              refine nxI ?_
            · refine OkS.reg w1 3000 (by kernel_rfl) ?_
              refine And.intro (by (refine dsI ?_); (try simp only [a6]); all_goals exact sdI) ?_
              refine dsI ?_
              try simp only [a6]
              refine ⟨(k + 1, _, _), hk, by (dsimp only; omega), by (dsimp only; rw [← hsn]; exact wkI)⟩
            · refine OkS.reg w1 3000 (by kernel_rfl) ?_
              refine And.intro (by (refine dsI ?_); (try simp only [a6]); all_goals exact sdI) ?_
              refine dsI ?_
              try simp only [a6]
              have htk : List.take (ql.length + 1) (x :: ql) = x :: ql := by simp
              rw [htk]
              refine ⟨(k + 1, _, _), hk, by (dsimp only; omega), by (dsimp only; rw [← hsn, accD_snoc]; exact wkI)⟩
          · have hk : k = n := by
              have : ¬ k < n := by simpa using hd
              omega
            subst hk
            refine OkS.exit ?_
            refine dsI ?_
            refine OkS.reg w1 2500 (by kernel_rfl) ?_
            refine And.intro (by (refine dsI ?_); (try simp only [a3]); all_goals exact sdI) ?_
            refine dsI ?_
            try simp only [a3]
            exact ⟨(i + 1, g, _), hi, by (dsimp only; omega), by (dsimp only; rw [qGrid_s]; exact wkI)⟩
        · have hi : i = n := by
            have : ¬ i < n := by simpa using hc
            omega
          subst hi
          refine OkS.exit ?_
          refine dsI ?_
          refine OkS.seq ?_
          refine OkS.reg w1 3600 (by kernel_rfl) ?_
          refine nxI ?_
          refine OkS.ret ?_
          refine And.intro (by exact sdI) ?_
          refine dsI ?_
          exact ⟨_, fz_tup2 (fz_acc _ _ _ _ _) (Fz.refl _), IsPure.out, rfl⟩
      · exact absurd hd (by decide)
    · rw [show ((3 : Int) != 0) = true from rfl]
      refine OkS.cond ?_
      refine dsI ?_
      refine OkS.seq ?_
      refine OkS.reg w1 1100 (by kernel_rfl) ?_
      refine nxI ?_
      refine OkS.ret ?_
      refine And.intro (by exact sdI) ?_
      refine dsI ?_
      exact ⟨_, fz_tup2 (.nil 3) (Fz.refl _), IsPure.out, rfl⟩
  · rcases b4 with _ | _
    rotate_left
    · simp only [Bool.or_false, Bool.or_true, Bool.false_or, Bool.true_or, Bool.or_self, Bool.false_and, Bool.true_and, Bool.and_false, Bool.false_eq_true, if_true, if_false, reduceIte]
      refine OkS.seq ?_
      refine OkS.seq ?_
      refine OkS.reg w1 1000 (by kernel_rfl) ?_
      repeat' (first | (refine And.intro (by exact sdI) ?_; (refine dsI ?_); (try simp only [brB_t, brB_f, e1, e2, e4, k4])) | ((refine brI (fun hb => ?_) (fun hb => ?_)) <;> (try simp only [Bool.not_eq_true', Bool.not_eq_false'] at hb) <;> (try simp only [hb]) <;> (refine dsI ?_)))
      refine OkS.cond ?_
      refine dsI ?_
      refine OkS.seq ?_
      refine OkS.reg w1 1100 (by kernel_rfl) ?_
      refine nxI ?_
      refine OkS.ret ?_
      refine And.intro (by exact sdI) ?_
      refine dsI ?_
      exact ⟨_, fz_tup2 (.nil 3) (Fz.refl _), IsPure.out, rfl⟩
    · skip
      rcases b3 with _ | _
      all_goals
        simp only [Bool.or_false, Bool.or_true, Bool.false_or, Bool.true_or, Bool.or_self, Bool.false_and, Bool.true_and, Bool.and_false, Bool.false_eq_true, if_true, if_false, reduceIte]
        refine OkS.seq ?_
        refine OkS.seq ?_
        refine OkS.reg w1 1000 (by kernel_rfl) ?_
        repeat' (first | (refine And.intro (by exact sdI) ?_; (refine dsI ?_); (try simp only [brB_t, brB_f, e1, e2, e4, k4])) | ((refine brI (fun hb => ?_) (fun hb => ?_)) <;> (try simp only [Bool.not_eq_true', Bool.not_eq_false'] at hb) <;> (try simp only [hb]) <;> (refine dsI ?_)))
        refine CallO.same _ (hs) inferInstance ?_
        refine nxI ?_
        simp only [Bool.not_false, brB_t]
        refine nxI ?_
        try simp only [Bool.or_false, Bool.or_true, Bool.false_or, Bool.true_or, Bool.or_self, Bool.false_and, Bool.true_and, Bool.and_false, Bool.false_eq_true, if_true, if_false, reduceIte]
      · rw [show ((0 : Int) != 0) = false from rfl]
        refine OkS.cond ?_
        refine dsI ?_
        refine OkS.skip ?_
        refine dsI ?_
        refine OkS.seq ?_
        refine OkS.reg w1 1200 (by kernel_rfl) ?_
        refine nxI ?_
        obtain ⟨l, w, rfl, rfl, hl, hw⟩ := sideN e3
        cases k
        · exact absurd hd (by decide)
        · exact absurd hd (by decide)
        · exact absurd hd (by decide)
        · dsimp only [Kd.a, Kd.b, Kd.c, Kd.d, Kd.most, Kd.qs] at *
          simp only [Int.toNat_natCast]
          have hn5 : n = 5 := by simpa using e4
          subst hn5
          refine OkS.seq ?_
          refine OkS.seq ?_
          refine OkS.reg w1 1300 (by kernel_rfl) ?_
          refine And.intro (by (refine dsI ?_); (try simp only [k4]); all_goals exact sdI) ?_
          refine dsI ?_
          try simp only [k4]
          refine OkS.cond ?_
          refine dsI ?_
          refine OkS.seq ?_
          refine OkS.seq ?_
          refine OkS.reg w1 1400 (by kernel_rfl) ?_
          refine nxI ?_
          refine OkS.block ?_
          refine OkS.loop (α := Nat × Nat × Nat) (fun p => ⟨[(0, str s), (1, i64 5), (2, i64 l), (3, i64 w), (11, accD 2111 p.2.1 3 (((qFive l w).take ((3 * p.1 + 1) / 2)).map probeQ)), (12, i64 (p.1 + 1 : Nat))], accH 2111 p.2.1 77 3 (((qFive l w).take ((3 * p.1 + 1) / 2)).map probeQ), p.2.2⟩) (fun p => 3 - p.1)
            (fun p => p.1 ≤ 3) (0, 0, _) (Nat.zero_le _) (by dsimp only [qFive, Nat.reduceMul, Nat.reduceAdd, Nat.reduceDiv, List.take_succ_cons, List.take_zero, List.take_nil, List.map_cons, List.map_nil, accD_nil, accH_nil, accD_cons, accH_cons, List.length_cons, List.length_nil]; exact wkI) ?_
          rintro ⟨i, g, m⟩ F h1
          dsimp only at h1 ⊢
          have m1 : IntKind.i64.wrap (((1 : Nat) : Int) * (l : Int)) = (l : Int) := by rw [wM (by omega) (by omega) (by omega) (by omega)]; omega
          have m2 : IntKind.i64.wrap (((2 : Nat) : Int) * (l : Int)) = ((l * 2 : Nat) : Int) := by rw [wM (by omega) (by omega) (by omega) (by omega)]; omega
          have m3 : IntKind.i64.wrap (((3 : Nat) : Int) * (l : Int)) = ((l * 3 : Nat) : Int) := by rw [wM (by omega) (by omega) (by omega) (by omega)]; omega
          have v1 : IntKind.i64.wrap (((1 : Nat) : Int) * (w : Int)) = (w : Int) := by rw [wM (by omega) (by omega) (by omega) (by omega)]; omega
          have v2 : IntKind.i64.wrap (((2 : Nat) : Int) * (w : Int)) = ((w * 2 : Nat) : Int) := by rw [wM (by omega) (by omega) (by omega) (by omega)]; omega
          have v3 : IntKind.i64.wrap (((3 : Nat) : Int) * (w : Int)) = ((w * 3 : Nat) : Int) := by rw [wM (by omega) (by omega) (by omega) (by omega)]; omega
          have c1 := rof_ok l 4 (by omega) (by omega) (by omega)
          have c2 := rof_ok (l * 2) 4 (by omega) (by omega) (by omega)
          have c3 := rof_ok (l * 3) 4 (by omega) (by omega) (by omega)
          have d1 := rof_ok w 4 (by omega) (by omega) (by omega)
          have d2 := rof_ok (w * 2) 4 (by omega) (by omega) (by omega)
          have d3 := rof_ok (w * 3) 4 (by omega) (by omega) (by omega)
          refine OkS.seq ?_
          refine OkS.seq ?_
          refine OkS.reg w1 1500 (by kernel_rfl) ?_
          refine nxI ?_
          refine OkS.cond ?_
          refine dsI ?_
          (refine brI (fun hc => ?_) (fun hc => ?_)) <;> (try simp only [Bool.not_eq_true', Bool.not_eq_false'] at hc) <;> (try simp only [hc])
          · have hi : i < 3 := by have := of_decide_eq_true hc; omega
            refine OkS.skip ?_
            refine dsI ?_
            refine OkS.seq ?_
            refine OkS.block ?_
            refine OkS.seq ?_
            refine OkS.reg w1 1700 (by kernel_rfl) ?_
            refine nxI ?_
            refine OkS.block ?_
            have a3 : IntKind.i64.wrap (((i + 1 : Nat) : Int) + 1) = ((i + 1 + 1 : Nat) : Int) := wI (by omega) (by omega)
            refine OkS.loop (α := Nat × Nat × Nat) (fun p => ⟨[(0, str s), (1, i64 5), (2, i64 l), (3, i64 w), (11, accD 2111 p.2.1 3 (((qFive l w).take ((3 * i + p.1 + 1) / 2)).map probeQ)), (12, i64 (i + 1 : Nat)), (13, i64 (p.1 + 1 : Nat))], accH 2111 p.2.1 77 3 (((qFive l w).take ((3 * i + p.1 + 1) / 2)).map probeQ), p.2.2⟩) (fun p => 3 - p.1)
              (fun p => p.1 ≤ 3) (0, g, _) (Nat.zero_le _) wkI ?_
            rintro ⟨k, g, m⟩ F h3
            dsimp only at h3 ⊢
            refine OkS.seq ?_
            refine OkS.seq ?_
            refine OkS.reg w1 1800 (by kernel_rfl) ?_
            refine nxI ?_
            refine OkS.cond ?_
            refine dsI ?_
            (refine brI (fun hd => ?_) (fun hd => ?_)) <;> (try simp only [Bool.not_eq_true', Bool.not_eq_false'] at hd) <;> (try simp only [hd])
            · have hk : k < 3 := by have := of_decide_eq_true hd; omega
              have a4 : IntKind.i64.wrap (((k + 1 : Nat) : Int) + 1) = ((k + 1 + 1 : Nat) : Int) := wI (by omega) (by omega)
              refine OkS.skip ?_
              refine dsI ?_
              refine OkS.seq ?_
              refine OkS.block ?_
              refine OkS.seq ?_
              have hii : i = 0 ∨ i = 1 ∨ i = 2 := by omega
              have hkk : k = 0 ∨ k = 1 ∨ k = 2 := by omega
              clear hc hd a3
              rcases hii with rfl | rfl | rfl <;> rcases hkk with rfl | rfl | rfl
              · dsimp only [qFive, Nat.reduceMul, Nat.reduceAdd, Nat.reduceDiv, List.take_succ_cons, List.take_zero, List.take_nil, List.map_cons, List.map_nil, accD_nil, accH_nil, accD_cons, accH_cons, List.length_cons, List.length_nil] at a4 ⊢
                refine OkS.reg w1 2000 (by kernel_rfl) ?_
                refine nxI ?_
                refine OkS.cond ?_
                refine dsI ?_
                (refine brI (fun h60 => ?_) (fun h60 => ?_)) <;> (try simp only [Bool.not_eq_true', Bool.not_eq_false'] at h60) <;> (try simp only [h60])
                · refine OkS.reg w1 2100 (by kernel_rfl) ?_
                  refine And.intro (by (refine dsI ?_); (try simp only [m1, v1]); all_goals exact sdI) ?_
                  refine dsI ?_
                  try simp only [m1, v1]
                  refine CallO.same _ (c1) inferInstance ?_
                  refine nxI ?_
                  try rw [v1]
                  refine CallO.same _ (d1) inferInstance ?_
                  refine nxI ?_
                  refine OkS.reg w1 1900 (by kernel_rfl) ?_
                  refine And.intro (by (refine dsI ?_); (try simp only [a4]); all_goals exact sdI) ?_
                  refine dsI ?_
                  try simp only [a4]
                  exact ⟨(1, _, _), (by dsimp only; omega), (by dsimp only; omega), (by dsimp only [qFive, Nat.reduceMul, Nat.reduceAdd, Nat.reduceDiv, List.take_succ_cons, List.take_zero, List.take_nil, List.map_cons, List.map_nil, accD_nil, accH_nil, accD_cons, accH_cons, List.length_cons, List.length_nil]; exact wkI)⟩
                · exact absurd h60 (by decide)
              · dsimp only [qFive, Nat.reduceMul, Nat.reduceAdd, Nat.reduceDiv, List.take_succ_cons, List.take_zero, List.take_nil, List.map_cons, List.map_nil, accD_nil, accH_nil, accD_cons, accH_cons, List.length_cons, List.length_nil] at a4 ⊢
                refine OkS.reg w1 2000 (by kernel_rfl) ?_
                refine nxI ?_
                refine OkS.cond ?_
                refine dsI ?_
                (refine brI (fun h60 => ?_) (fun h60 => ?_)) <;> (try simp only [Bool.not_eq_true', Bool.not_eq_false'] at h60) <;> (try simp only [h60])
                · exact absurd h60 (by decide)
                · refine OkS.skip ?_
                  refine dsI ?_
                  refine OkS.reg w1 1900 (by kernel_rfl) ?_
                  refine And.intro (by (refine dsI ?_); (try simp only [a4]); all_goals exact sdI) ?_
                  refine dsI ?_
                  try simp only [a4]
                  exact ⟨(2, _, _), (by dsimp only; omega), (by dsimp only; omega), (by dsimp only [qFive, Nat.reduceMul, Nat.reduceAdd, Nat.reduceDiv, List.take_succ_cons, List.take_zero, List.take_nil, List.map_cons, List.map_nil, accD_nil, accH_nil, accD_cons, accH_cons, List.length_cons, List.length_nil]; exact wkI)⟩
              · dsimp only [qFive, Nat.reduceMul, Nat.reduceAdd, Nat.reduceDiv, List.take_succ_cons, List.take_zero, List.take_nil, List.map_cons, List.map_nil, accD_nil, accH_nil, accD_cons, accH_cons, List.length_cons, List.length_nil] at a4 ⊢
                refine OkS.reg w1 2000 (by kernel_rfl) ?_
                refine nxI ?_
                refine OkS.cond ?_
                refine dsI ?_
                (refine brI (fun h60 => ?_) (fun h60 => ?_)) <;> (try simp only [Bool.not_eq_true', Bool.not_eq_false'] at h60) <;> (try simp only [h60])
                · refine OkS.reg w1 2100 (by kernel_rfl) ?_
                  refine And.intro (by (refine dsI ?_); (try simp only [m1, v3]); all_goals exact sdI) ?_
                  refine dsI ?_
                  try simp only [m1, v3]
                  refine CallO.same _ (c1) inferInstance ?_
                  refine nxI ?_
                  try rw [v3]
                  refine CallO.same _ (d3) inferInstance ?_
                  refine nxI ?_
                  refine OkS.reg w1 1900 (by kernel_rfl) ?_
                  refine And.intro (by (refine dsI ?_); (try simp only [a4]); all_goals exact sdI) ?_
                  refine dsI ?_
                  try simp only [a4]
                  exact ⟨(3, _, _), (by dsimp only; omega), (by dsimp only; omega), (by dsimp only [qFive, Nat.reduceMul, Nat.reduceAdd, Nat.reduceDiv, List.take_succ_cons, List.take_zero, List.take_nil, List.map_cons, List.map_nil, accD_nil, accH_nil, accD_cons, accH_cons, List.length_cons, List.length_nil]; exact wkI)⟩
                · exact absurd h60 (by decide)
              · dsimp only [qFive, Nat.reduceMul, Nat.reduceAdd, Nat.reduceDiv, List.take_succ_cons, List.take_zero, List.take_nil, List.map_cons, List.map_nil, accD_nil, accH_nil, accD_cons, accH_cons, List.length_cons, List.length_nil] at a4 ⊢
                refine OkS.reg w1 2000 (by kernel_rfl) ?_
                refine nxI ?_
                refine OkS.cond ?_
                refine dsI ?_
                (refine brI (fun h60 => ?_) (fun h60 => ?_)) <;> (try simp only [Bool.not_eq_true', Bool.not_eq_false'] at h60) <;> (try simp only [h60])
                · exact absurd h60 (by decide)
                · refine OkS.skip ?_
                  refine dsI ?_
                  refine OkS.reg w1 1900 (by kernel_rfl) ?_
                  refine And.intro (by (refine dsI ?_); (try simp only [a4]); all_goals exact sdI) ?_
                  refine dsI ?_
                  try simp only [a4]
                  exact ⟨(1, _, _), (by dsimp only; omega), (by dsimp only; omega), (by dsimp only [qFive, Nat.reduceMul, Nat.reduceAdd, Nat.reduceDiv, List.take_succ_cons, List.take_zero, List.take_nil, List.map_cons, List.map_nil, accD_nil, accH_nil, accD_cons, accH_cons, List.length_cons, List.length_nil]; exact wkI)⟩
              · dsimp only [qFive, Nat.reduceMul, Nat.reduceAdd, Nat.reduceDiv, List.take_succ_cons, List.take_zero, List.take_nil, List.map_cons, List.map_nil, accD_nil, accH_nil, accD_cons, accH_cons, List.length_cons, List.length_nil] at a4 ⊢
                refine OkS.reg w1 2000 (by kernel_rfl) ?_
                refine nxI ?_
                refine OkS.cond ?_
                refine dsI ?_
                (refine brI (fun h60 => ?_) (fun h60 => ?_)) <;> (try simp only [Bool.not_eq_true', Bool.not_eq_false'] at h60) <;> (try simp only [h60])
                · refine OkS.reg w1 2100 (by kernel_rfl) ?_
                  refine And.intro (by (refine dsI ?_); (try simp only [m2, v2]); all_goals exact sdI) ?_
                  refine dsI ?_
                  try simp only [m2, v2]
                  refine CallO.same _ (c2) inferInstance ?_
                  refine nxI ?_
                  try rw [v2]
                  refine CallO.same _ (d2) inferInstance ?_
                  refine nxI ?_
                  refine OkS.reg w1 1900 (by kernel_rfl) ?_
                  refine And.intro (by (refine dsI ?_); (try simp only [a4]); all_goals exact sdI) ?_
                  refine dsI ?_
                  try simp only [a4]
                  exact ⟨(2, _, _), (by dsimp only; omega), (by dsimp only; omega), (by dsimp only [qFive, Nat.reduceMul, Nat.reduceAdd, Nat.reduceDiv, List.take_succ_cons, List.take_zero, List.take_nil, List.map_cons, List.map_nil, accD_nil, accH_nil, accD_cons, accH_cons, List.length_cons, List.length_nil]; exact wkI)⟩
                · exact absurd h60 (by decide)
              · dsimp only [qFive, Nat.reduceMul, Nat.reduceAdd, Nat.reduceDiv, List.take_succ_cons, List.take_zero, List.take_nil, List.map_cons, List.map_nil, accD_nil, accH_nil, accD_cons, accH_cons, List.length_cons, List.length_nil] at a4 ⊢
                refine OkS.reg w1 2000 (by kernel_rfl) ?_
                refine nxI ?_
                refine OkS.cond ?_
                refine dsI ?_
                (refine brI (fun h60 => ?_) (fun h60 => ?_)) <;> (try simp only [Bool.not_eq_true', Bool.not_eq_false'] at h60) <;> (try simp only [h60])
                · exact absurd h60 (by decide)
                · refine OkS.skip ?_
                  refine dsI ?_
                  refine OkS.reg w1 1900 (by kernel_rfl) ?_
                  refine And.intro (by (refine dsI ?_); (try simp only [a4]); all_goals exact sdI) ?_
                  refine dsI ?_
                  try simp only [a4]
                  exact ⟨(3, _, _), (by dsimp only; omega), (by dsimp only; omega), (by dsimp only [qFive, Nat.reduceMul, Nat.reduceAdd, Nat.reduceDiv, List.take_succ_cons, List.take_zero, List.take_nil, List.map_cons, List.map_nil, accD_nil, accH_nil, accD_cons, accH_cons, List.length_cons, List.length_nil]; exact wkI)⟩
              · dsimp only [qFive, Nat.reduceMul, Nat.reduceAdd, Nat.reduceDiv, List.take_succ_cons, List.take_zero, List.take_nil, List.map_cons, List.map_nil, accD_nil, accH_nil, accD_cons, accH_cons, List.length_cons, List.length_nil] at a4 ⊢
                refine OkS.reg w1 2000 (by kernel_rfl) ?_
                refine nxI ?_
                refine OkS.cond ?_
                refine dsI ?_
                (refine brI (fun h60 => ?_) (fun h60 => ?_)) <;> (try simp only [Bool.not_eq_true', Bool.not_eq_false'] at h60) <;> (try simp only [h60])
                · refine OkS.reg w1 2100 (by kernel_rfl) ?_
                  refine And.intro (by (refine dsI ?_); (try simp only [m3, v1]); all_goals exact sdI) ?_
                  refine dsI ?_
                  try simp only [m3, v1]
                  refine CallO.same _ (c3) inferInstance ?_
                  refine nxI ?_
                  try rw [v1]
                  refine CallO.same _ (d1) inferInstance ?_
                  refine nxI ?_
                  refine OkS.reg w1 1900 (by kernel_rfl) ?_
                  refine And.intro (by (refine dsI ?_); (try simp only [a4]); all_goals exact sdI) ?_
                  refine dsI ?_
                  try simp only [a4]
                  exact ⟨(1, _, _), (by dsimp only; omega), (by dsimp only; omega), (by dsimp only [qFive, Nat.reduceMul, Nat.reduceAdd, Nat.reduceDiv, List.take_succ_cons, List.take_zero, List.take_nil, List.map_cons, List.map_nil, accD_nil, accH_nil, accD_cons, accH_cons, List.length_cons, List.length_nil]; exact wkI)⟩
                · exact absurd h60 (by decide)
              · dsimp only [qFive, Nat.reduceMul, Nat.reduceAdd, Nat.reduceDiv, List.take_succ_cons, List.take_zero, List.take_nil, List.map_cons, List.map_nil, accD_nil, accH_nil, accD_cons, accH_cons, List.length_cons, List.length_nil] at a4 ⊢
                refine OkS.reg w1 2000 (by kernel_rfl) ?_
                refine nxI ?_
                refine OkS.cond ?_
                refine dsI ?_
                (refine brI (fun h60 => ?_) (fun h60 => ?_)) <;> (try simp only [Bool.not_eq_true', Bool.not_eq_false'] at h60) <;> (try simp only [h60])
                · exact absurd h60 (by decide)
                · refine OkS.skip ?_
                  refine dsI ?_
                  refine OkS.reg w1 1900 (by kernel_rfl) ?_
                  refine And.intro (by (refine dsI ?_); (try simp only [a4]); all_goals exact sdI) ?_
                  refine dsI ?_
                  try simp only [a4]
                  exact ⟨(2, _, _), (by dsimp only; omega), (by dsimp only; omega), (by dsimp only [qFive, Nat.reduceMul, Nat.reduceAdd, Nat.reduceDiv, List.take_succ_cons, List.take_zero, List.take_nil, List.map_cons, List.map_nil, accD_nil, accH_nil, accD_cons, accH_cons, List.length_cons, List.length_nil]; exact wkI)⟩
              · dsimp only [qFive, Nat.reduceMul, Nat.reduceAdd, Nat.reduceDiv, List.take_succ_cons, List.take_zero, List.take_nil, List.map_cons, List.map_nil, accD_nil, accH_nil, accD_cons, accH_cons, List.length_cons, List.length_nil] at a4 ⊢
                refine OkS.reg w1 2000 (by kernel_rfl) ?_
                refine nxI ?_
                refine OkS.cond ?_
                refine dsI ?_
                (refine brI (fun h60 => ?_) (fun h60 => ?_)) <;> (try simp only [Bool.not_eq_true', Bool.not_eq_false'] at h60) <;> (try simp only [h60])
                · refine OkS.reg w1 2100 (by kernel_rfl) ?_
                  refine And.intro (by (refine dsI ?_); (try simp only [m3, v3]); all_goals exact sdI) ?_
                  refine dsI ?_
                  try simp only [m3, v3]
                  refine CallO.same _ (c3) inferInstance ?_
                  refine nxI ?_
                  try rw [v3]
                  refine CallO.same _ (d3) inferInstance ?_
                  refine nxI ?_
                  refine OkS.reg w1 1900 (by kernel_rfl) ?_
                  refine And.intro (by (refine dsI ?_); (try simp only [a4]); all_goals exact sdI) ?_
                  refine dsI ?_
                  try simp only [a4]
                  exact ⟨(3, _, _), (by dsimp only; omega), (by dsimp only; omega), (by dsimp only [qFive, Nat.reduceMul, Nat.reduceAdd, Nat.reduceDiv, List.take_succ_cons, List.take_zero, List.take_nil, List.map_cons, List.map_nil, accD_nil, accH_nil, accD_cons, accH_cons, List.length_cons, List.length_nil]; exact wkI)⟩
                · exact absurd h60 (by decide)
            · have hk : k = 3 := by have := of_decide_eq_false hd; omega
              subst hk
              refine OkS.exit ?_
              refine dsI ?_
              refine OkS.reg w1 1600 (by kernel_rfl) ?_
              refine And.intro (by (refine dsI ?_); (try simp only [a3]); all_goals exact sdI) ?_
              refine dsI ?_
              try simp only [a3]
              exact ⟨(i + 1, g, _), hi, (by dsimp only; omega), wkI⟩
          · have hi : i = 3 := by have := of_decide_eq_false hc; omega
            subst hi
            refine OkS.exit ?_
            refine dsI ?_
            refine OkS.seq ?_
            refine OkS.reg w1 2200 (by kernel_rfl) ?_
            refine nxI ?_
            refine OkS.ret ?_
            refine And.intro (by exact sdI) ?_
            refine dsI ?_
            exact ⟨_, fz_tup2 (fz_acc _ _ _ _ _) (Fz.refl _), IsPure.out, rfl⟩
      · rw [show ((3 : Int) != 0) = true from rfl]
        refine OkS.cond ?_
        refine dsI ?_
        refine OkS.seq ?_
        refine OkS.reg w1 1100 (by kernel_rfl) ?_
        refine nxI ?_
        refine OkS.ret ?_
        refine And.intro (by exact sdI) ?_
        refine dsI ?_
        exact ⟨_, fz_tup2 (.nil 3) (Fz.refl _), IsPure.out, rfl⟩
end Go.Ide

/- The Grade laws, part K: Pattern by kinds; sameProbes; the law GradePatterns but for awake. -/
namespace Go.Ide
open Go.Proofs Go.RowKit
set_option maxRecDepth 20000
set_option linter.unusedSimpArgs false
theorem notBad {k : Kd} {n L W : Int} (h : badP k.lo k.most n L W = false) : ∃ m l w : Nat, n = m ∧ L = l ∧ W = w ∧ 0 < m ∧ (m : Int) ≤ k.most ∧ l ≤ 100000 ∧ w ≤ 100000 := by
  unfold badP at h
  simp only [Bool.or_eq_false_iff, decide_eq_false_iff_not] at h
  obtain ⟨⟨h1, h2⟩, h3⟩ := h
  obtain ⟨l, w, e1, e2, e3, e4⟩ := sideN h3
  have hlo : 1 ≤ k.lo := by cases k <;> decide
  exact ⟨n.toNat, l, w, by omega, e1, e2, by omega, by omega, e3, e4⟩
theorem pat_ok (k : Kd) (s : ByteArray) (hk : KindIs s k.a k.b k.c k.d) (n L W : Int) : ICalls C0 12 [str s, i64 n, i64 L, i64 W] (if badP k.lo k.most n L W then .tup [.sl false 3 [], i64 3] else .tup [.sl false 3 ((k.qs n.toNat L.toNat W.toNat).map probeQ), i64 0]) := by
  cases k with
  | line =>
    refine pat_core s 1 64 109 ?_ n L W _ (fun hb => ?_) (by decide)
    · simp only [designsD, mpK, mpV, lookS, hk.a, Kd.a]
    · obtain ⟨m, l, w, rfl, rfl, rfl, h1, h2, h3, h4⟩ := notBad (k := .line) hb
      simp only [Int.toNat_natCast]
      dsimp only [Kd.most] at h2
      have hm : m ≤ 64 := by omega
      refine ⟨?_, fun q hq => ?_, ?_⟩
      · have := d1_ok m l w hm h3 h4
        simp only [Nat.mul_one] at this
        rw [show (Kd.line.qs m l w).map spotQ = (List.range m).map fun i => spot (l * (2 * i + 1)) (2 * m) w 2 from by unfold Kd.qs qLine; rw [List.map_map]; rfl]
        exact this
      · obtain ⟨i, hi, rfl⟩ := List.mem_map.1 hq
        have := List.mem_range.1 hi
        have b1 : l * (2 * i + 1) ≤ 100000 * 129 := Nat.mul_le_mul h3 (by omega)
        exact ⟨by dsimp only; omega, by dsimp only; omega, by dsimp only; omega, by dsimp only; omega, by dsimp only; omega, by dsimp only; omega⟩
      · have := qLine_len m l w m
        unfold Kd.qs; rw [this]; omega
  | zig =>
    refine pat_core s 1 64 111 ?_ n L W _ (fun hb => ?_) (by decide)
    · simp only [designsD, mpK, mpV, lookS, hk.a, hk.b, Kd.a, Kd.b]
    · obtain ⟨m, l, w, rfl, rfl, rfl, h1, h2, h3, h4⟩ := notBad (k := .zig) hb
      simp only [Int.toNat_natCast]
      dsimp only [Kd.most] at h2
      have hm : m ≤ 64 := by omega
      refine ⟨?_, fun q hq => ?_, ?_⟩
      · have := d2_ok m l w hm h3 h4
        rw [show (Kd.zig.qs m l w).map spotQ = (List.range m).map fun i => spot (l * (2 * i + 1)) (2 * m) (w * (1 + i % 2)) 3 from by unfold Kd.qs qZig; rw [List.map_map]; rfl]
        exact this
      · obtain ⟨i, hi, rfl⟩ := List.mem_map.1 hq
        have := List.mem_range.1 hi
        have b1 : l * (2 * i + 1) ≤ 100000 * 129 := Nat.mul_le_mul h3 (by omega)
        have b2 : w * (1 + i % 2) ≤ 100000 * 2 := Nat.mul_le_mul h4 (by omega)
        exact ⟨by dsimp only; omega, by dsimp only; omega, by dsimp only; omega, by dsimp only; omega, by dsimp only; omega, by dsimp only; omega⟩
      · have := qZig_len m l w m
        unfold Kd.qs; rw [this]; omega
  | grid =>
    refine pat_core s 1 8 112 ?_ n L W _ (fun hb => ?_) (by decide)
    · simp only [designsD, mpK, mpV, lookS, hk.a, hk.b, hk.c, Kd.a, Kd.b, Kd.c]
    · obtain ⟨m, l, w, rfl, rfl, rfl, h1, h2, h3, h4⟩ := notBad (k := .grid) hb
      simp only [Int.toNat_natCast]
      dsimp only [Kd.most] at h2
      have hm : m ≤ 64 := by omega
      refine ⟨?_, fun q hq => ?_, ?_⟩
      · have := d3_ok m l w hm h3 h4
        rw [show (Kd.grid.qs m l w).map spotQ = (List.range m).flatMap fun i => grow m l w i m from by
          unfold Kd.qs qGrid; rw [List.map_flatMap]; unfold qRow grow; simp only [List.map_map]; rfl]
        exact this
      · obtain ⟨i, hi, hq⟩ := List.mem_flatMap.1 hq
        obtain ⟨j, hj, rfl⟩ := List.mem_map.1 hq
        have := List.mem_range.1 hi
        have := List.mem_range.1 hj
        have b1 : l * (2 * i + 1) ≤ 100000 * 129 := Nat.mul_le_mul h3 (by omega)
        have b2 : w * (2 * j + 1) ≤ 100000 * 129 := Nat.mul_le_mul h4 (by omega)
        exact ⟨by dsimp only; omega, by dsimp only; omega, by dsimp only; omega, by dsimp only; omega, by dsimp only; omega, by dsimp only; omega⟩
      · have := qGrid_len m l w m
        have : m * m ≤ 64 * 64 := Nat.mul_le_mul hm hm
        show (qGrid m l w m).length ≤ 5000
        omega
  | quin =>
    refine pat_core s 5 5 113 ?_ n L W _ (fun hb => ?_) (by decide)
    · simp only [designsD, mpK, mpV, lookS, hk.a, hk.b, hk.c, hk.d, Kd.a, Kd.b, Kd.c, Kd.d]
    · obtain ⟨m, l, w, rfl, rfl, rfl, h1, h2, h3, h4⟩ := notBad (k := .quin) hb
      simp only [Int.toNat_natCast]
      refine ⟨?_, fun q hq => ?_, ?_⟩
      · have := d4_ok m l w h3 h4
        unfold five at this
        simp only [Nat.mul_one] at this
        exact this
      · unfold Kd.qs qFive at hq
        simp only [List.mem_cons, List.not_mem_nil, or_false] at hq
        rcases hq with rfl | rfl | rfl | rfl | rfl
        all_goals exact ⟨by dsimp only; omega, by dsimp only; omega, by dsimp only; omega, by dsimp only; omega, by dsimp only; omega, by dsimp only; omega⟩
      · unfold Kd.qs qFive; simp
section
attribute [local irreducible] wpQ
theorem pat_none (s : ByteArray) (hk : KindIs s false false false false) (n L W : Int) : ICalls C0 12 [str s, i64 n, i64 L, i64 W] (.tup [.sl false 3 [], i64 20]) := by
  refine ICallP.walk w1 fok12 rfl fun F => ?_
  have dk : ICalls C0 46 [] (.mp (mpK designsD) (mpV designsD)) := designs_ok
  have dp : IsPure (D.mp (mpK designsD) (mpV designsD)) := ⟨pureB_ok (n := 20) (by kernel_rfl)⟩
  have hlk : lookS s (mpK designsD) (mpV designsD) = some none := by simp only [designsD, mpK, mpV, lookS, hk.a, hk.b, hk.c, hk.d]
  refine OkS.seq ?_
  refine OkS.reg w1 0 (by kernel_rfl) ?_
  refine nxI ?_
  refine OkS.seq ?_
  refine OkS.reg w1 100 (by kernel_rfl) ?_
  refine nxI ?_
  refine CallO.same _ dk inferInstance ?_
  refine wpQ_of (evQ_look0 (s := s) (a := 9) (b := 102) (z := .agg #[.int .i64 0, .int .i64 0, .nilFunc]) (by kernel_rfl) rfl rfl hlk) ?_
  dsimp only [okD]
  refine nxI ?_
  refine OkS.seq ?_
  refine OkS.seq ?_
  refine OkS.reg w1 200 (by kernel_rfl) ?_
  refine nxI ?_
  refine OkS.cond ?_
  refine dsI ?_
  refine OkS.seq ?_
  refine OkS.reg w1 300 (by kernel_rfl) ?_
  refine nxI ?_
  refine OkS.ret ?_
  refine And.intro (by exact sdI) ?_
  refine dsI ?_
  exact ⟨_, fz_tup2 (.nil 3) (Fz.refl _), IsPure.out, rfl⟩
end
end Go.Ide

/- The Grade laws, part L: sameProbes. -/
namespace Go.Ide
open Go.Proofs Go.RowKit
set_option maxRecDepth 20000
set_option linter.unusedSimpArgs false
theorem strEq_self (a : ByteArray) : strEq a a = true := by unfold strEq; exact beq_self_eq_true _
section
attribute [local irreducible] wpPre wpSuf
theorem same_ok (qs : List Q4) (hl : qs.length ≤ 5000) : ICalls C0 14 [.sl false 3 (qs.map probeQ), .sl false 3 (qs.map probeQ)] (boo true) := by
  refine ICallP.walk w1 fok14 rfl fun F => ?_
  have hml : (qs.map probeQ).length = qs.length := List.length_map _
  refine OkS.seq ?_
  refine OkS.reg w1 0 (by kernel_rfl) ?_
  refine stI ?_
  refine OkS.seq ?_
  refine OkS.seq ?_
  refine OkS.reg w1 100 (by kernel_rfl) ?_
  refine stI ?_
  rw [hml, show (((qs.length : Nat) : Int) != ((qs.length : Nat) : Int)) = false from by simp]
  refine OkS.cond ?_
  refine dsI ?_
  refine OkS.skip ?_
  refine dsI ?_
  refine OkS.seq ?_
  refine OkS.seq ?_
  refine OkS.reg w1 300 (by kernel_rfl) ?_
  refine stI ?_
  refine OkS.block ?_
  rw [hml]
  refine OkS.loop (α := Nat × Nat) (fun p => ⟨[(0, .sl false 3 (qs.map probeQ)), (1, .sl false 3 (qs.map probeQ)), (12, i64 qs.length), (13, i64 p.1)], [], p.2⟩) (fun p => qs.length - p.1)
    (fun p => p.1 ≤ qs.length) (0, _) (Nat.zero_le _) wkI ?_
  rintro ⟨j, m⟩ F h1
  dsimp only at h1 ⊢
  refine OkS.seq ?_
  refine OkS.reg w1 400 (by kernel_rfl) ?_
  refine stI ?_
  refine OkS.seq ?_
  refine OkS.cond ?_
  refine dsI ?_
  (refine brI (fun hc => ?_) (fun hc => ?_)) <;> (try simp only [Bool.not_eq_true', Bool.not_eq_false'] at hc) <;> (try simp only [hc])
  · have hj : j < qs.length := by simpa using hc
    refine OkS.skip ?_
    refine dsI ?_
    refine OkS.seq ?_
    refine OkS.block ?_
    refine OkS.seq ?_
    refine OkS.reg w1 500 (by kernel_rfl) ?_
    refine stI ?_
    obtain ⟨⟨a, b, c, d⟩, hqj⟩ : ∃ q, qs[j]? = some q := ⟨qs[j], List.getElem?_eq_getElem hj⟩
    have hget : (qs.map probeQ)[((j : Nat) : Int).toNat]? = some (.agg [str (rtx a b), str (rtx c d), i64 1]) := by
      rw [Int.toNat_natCast, List.getElem?_map, hqj]; rfl
    have s1 := strEq_self (rtx a b)
    have s2 := strEq_self (rtx c d)
    refine OkS.seq ?_
    refine OkS.regD w1 600 [0, 1, 2, 3, 4, 5, 6, 7, 8, 9, 10, 11, 12, 13, 14, 15, 16, 17, 18, 19, 20, 21, 22, 23, 24, 25, 26, 27, 28, 29, 30, 31, 32, 33, 34] [35, 36] (chkC_ok [(36, [24, 35, 23, 11, 22, 10, 4, 9, 3, 2, 0, 1, 8, 7, 5, 6, 16, 21, 15, 14, 12, 13, 20, 19, 17, 18, 29, 34, 28, 27, 25, 26, 33, 32, 30, 31]), (35, [29, 34, 24, 28, 27, 25, 26, 23, 11, 22, 10, 4, 9, 3, 2, 0, 1, 8, 7, 5, 6, 16, 21, 15, 14, 12, 13, 20, 19, 17, 18, 33, 32, 30, 31]), (34, [33, 24, 32, 30, 31, 23, 11, 22, 10, 4, 9, 3, 2, 0, 1, 8, 7, 5, 6, 16, 21, 15, 14, 12, 13, 20, 19, 17, 18]), (33, [32, 24, 30, 31, 23, 11, 22, 10, 4, 9, 3, 2, 0, 1, 8, 7, 5, 6, 16, 21, 15, 14, 12, 13, 20, 19, 17, 18]), (32, [30, 31, 24, 23, 11, 22, 10, 4, 9, 3, 2, 0, 1, 8, 7, 5, 6, 16, 21, 15, 14, 12, 13, 20, 19, 17, 18]), (31, [24, 23, 11, 22, 10, 4, 9, 3, 2, 0, 1, 8, 7, 5, 6, 16, 21, 15, 14, 12, 13, 20, 19, 17, 18]), (30, [24, 23, 11, 22, 10, 4, 9, 3, 2, 0, 1, 8, 7, 5, 6, 16, 21, 15, 14, 12, 13, 20, 19, 17, 18]), (29, [28, 24, 27, 25, 26, 23, 11, 22, 10, 4, 9, 3, 2, 0, 1, 8, 7, 5, 6, 16, 21, 15, 14, 12, 13, 20, 19, 17, 18]), (28, [27, 24, 25, 26, 23, 11, 22, 10, 4, 9, 3, 2, 0, 1, 8, 7, 5, 6, 16, 21, 15, 14, 12, 13, 20, 19, 17, 18]), (27, [25, 26, 24, 23, 11, 22, 10, 4, 9, 3, 2, 0, 1, 8, 7, 5, 6, 16, 21, 15, 14, 12, 13, 20, 19, 17, 18]), (26, [24, 23, 11, 22, 10, 4, 9, 3, 2, 0, 1, 8, 7, 5, 6, 16, 21, 15, 14, 12, 13, 20, 19, 17, 18]), (25, [24, 23, 11, 22, 10, 4, 9, 3, 2, 0, 1, 8, 7, 5, 6, 16, 21, 15, 14, 12, 13, 20, 19, 17, 18]), (24, [23, 11, 22, 10, 4, 9, 3, 2, 0, 1, 8, 7, 5, 6, 16, 21, 15, 14, 12, 13, 20, 19, 17, 18]), (23, [11, 22, 10, 4, 9, 3, 2, 0, 1, 8, 7, 5, 6, 16, 21, 15, 14, 12, 13, 20, 19, 17, 18]), (22, [16, 21, 11, 15, 14, 12, 13, 10, 4, 9, 3, 2, 0, 1, 8, 7, 5, 6, 20, 19, 17, 18]), (21, [20, 11, 19, 17, 18, 10, 4, 9, 3, 2, 0, 1, 8, 7, 5, 6]), (20, [19, 11, 17, 18, 10, 4, 9, 3, 2, 0, 1, 8, 7, 5, 6]), (19, [17, 18, 11, 10, 4, 9, 3, 2, 0, 1, 8, 7, 5, 6]), (18, [11, 10, 4, 9, 3, 2, 0, 1, 8, 7, 5, 6]), (17, [11, 10, 4, 9, 3, 2, 0, 1, 8, 7, 5, 6]), (16, [15, 11, 14, 12, 13, 10, 4, 9, 3, 2, 0, 1, 8, 7, 5, 6]), (15, [14, 11, 12, 13, 10, 4, 9, 3, 2, 0, 1, 8, 7, 5, 6]), (14, [12, 13, 11, 10, 4, 9, 3, 2, 0, 1, 8, 7, 5, 6]), (13, [11, 10, 4, 9, 3, 2, 0, 1, 8, 7, 5, 6]), (12, [11, 10, 4, 9, 3, 2, 0, 1, 8, 7, 5, 6]), (11, [10, 4, 9, 3, 2, 0, 1, 8, 7, 5, 6]), (10, [4, 9, 3, 2, 0, 1, 8, 7, 5, 6]), (9, [8, 7, 5, 6]), (8, [7, 5, 6]), (7, [5, 6]), (6, []), (5, []), (4, [3, 2, 0, 1]), (3, [2, 0, 1]), (2, [0, 1]), (1, []), (0, [])] (by kernel_rfl)) ?_
    repeat (first | (refine wpSuf_cons rfl rfl ?_; refine wpO_det (fun _ _ => rfl) ?_) | (refine wpPre_cons rfl rfl ?_; refine wpE_det (fun _ _ => rfl) ?_) | refine wpSuf_on rfl rfl rfl (by first | (simp only [s1, s2, Bool.not_true, Bool.not_false]; done) | fail) (by exact sdI) (wpO_det (fun _ _ => rfl) ?_) | refine wpSuf_off rfl rfl rfl (by first | (simp only [s1, s2, Bool.not_true, Bool.not_false]; done) | fail) (by exact sdI) ?_ | refine wpPre_on rfl rfl rfl (by first | (simp only [s1, s2, Bool.not_true, Bool.not_false]; done) | fail) (by exact sdI) (wpE_det (fun _ _ => rfl) ?_) | refine wpPre_off rfl rfl rfl (by first | (simp only [s1, s2, Bool.not_true, Bool.not_false]; done) | fail) (by exact sdI) ?_ | (refine wpSuf_cons rfl rfl ?_; refine wpO_ld rfl rfl rfl (by (try dsimp only); (try simp only [s1, s2, Bool.not_true, Bool.not_false]); exact rfl) ?_) | (refine wpSuf_cons rfl rfl ?_; refine wpO_st rfl rfl rfl (by (try dsimp only); (try simp only [s1, s2, Bool.not_true, Bool.not_false]); exact rfl) ?_) | (refine wpSuf_on rfl rfl rfl (by first | (simp only [s1, s2, Bool.not_true, Bool.not_false]; done) | fail) (by exact sdI) ?_; refine wpO_ld rfl rfl rfl (by (try dsimp only); (try simp only [s1, s2, Bool.not_true, Bool.not_false]); exact rfl) ?_) | (refine wpSuf_on rfl rfl rfl (by first | (simp only [s1, s2, Bool.not_true, Bool.not_false]; done) | fail) (by exact sdI) ?_; refine wpO_st rfl rfl rfl (by (try dsimp only); (try simp only [s1, s2, Bool.not_true, Bool.not_false]); exact rfl) ?_) | (refine wpPre_cons rfl rfl ?_; refine wpE_ld rfl rfl rfl (by (try dsimp only); (try simp only [s1, s2, Bool.not_true, Bool.not_false]); exact rfl) ?_) | (refine wpPre_on rfl rfl rfl (by first | (simp only [s1, s2, Bool.not_true, Bool.not_false]; done) | fail) (by exact sdI) ?_; refine wpE_ld rfl rfl rfl (by (try dsimp only); (try simp only [s1, s2, Bool.not_true, Bool.not_false]); exact rfl) ?_))
    repeat (first | (refine wpSuf_cons rfl rfl ?_; refine wpO_det (fun _ _ => rfl) ?_) | (refine wpPre_cons rfl rfl ?_; refine wpE_det (fun _ _ => rfl) ?_))
    try (refine wpPre_nil ?_; repeat (first | (refine wpSuf_cons rfl rfl ?_; refine wpO_det (fun _ _ => rfl) ?_) | (refine wpPre_cons rfl rfl ?_; refine wpE_det (fun _ _ => rfl) ?_)))
    first | refine wpSuf_nil (And.intro (by exact sdI) ?_) | (refine wpSuf_cons rfl rfl ?_; refine wpO_call (fun _ _ => rfl) (by exact sdI) ?_) | (refine wpPre_cons rfl rfl ?_; refine wpE_call (fun _ _ => rfl) (by exact sdI) ?_) | skip
    refine dsI ?_
    try simp only [s1, s2, Bool.not_true, Bool.not_false]
    repeat (first | (refine wpSuf_cons rfl rfl ?_; refine wpO_det (fun _ _ => rfl) ?_) | (refine wpPre_cons rfl rfl ?_; refine wpE_det (fun _ _ => rfl) ?_) | refine wpSuf_on rfl rfl rfl (by first | (simp only [s1, s2, Bool.not_true, Bool.not_false]; done) | fail) (by exact sdI) (wpO_det (fun _ _ => rfl) ?_) | refine wpSuf_off rfl rfl rfl (by first | (simp only [s1, s2, Bool.not_true, Bool.not_false]; done) | fail) (by exact sdI) ?_ | refine wpPre_on rfl rfl rfl (by first | (simp only [s1, s2, Bool.not_true, Bool.not_false]; done) | fail) (by exact sdI) (wpE_det (fun _ _ => rfl) ?_) | refine wpPre_off rfl rfl rfl (by first | (simp only [s1, s2, Bool.not_true, Bool.not_false]; done) | fail) (by exact sdI) ?_ | (refine wpSuf_cons rfl rfl ?_; refine wpO_ld rfl rfl rfl (by (try dsimp only); (try simp only [s1, s2, Bool.not_true, Bool.not_false]); exact rfl) ?_) | (refine wpSuf_cons rfl rfl ?_; refine wpO_st rfl rfl rfl (by (try dsimp only); (try simp only [s1, s2, Bool.not_true, Bool.not_false]); exact rfl) ?_) | (refine wpSuf_on rfl rfl rfl (by first | (simp only [s1, s2, Bool.not_true, Bool.not_false]; done) | fail) (by exact sdI) ?_; refine wpO_ld rfl rfl rfl (by (try dsimp only); (try simp only [s1, s2, Bool.not_true, Bool.not_false]); exact rfl) ?_) | (refine wpSuf_on rfl rfl rfl (by first | (simp only [s1, s2, Bool.not_true, Bool.not_false]; done) | fail) (by exact sdI) ?_; refine wpO_st rfl rfl rfl (by (try dsimp only); (try simp only [s1, s2, Bool.not_true, Bool.not_false]); exact rfl) ?_) | (refine wpPre_cons rfl rfl ?_; refine wpE_ld rfl rfl rfl (by (try dsimp only); (try simp only [s1, s2, Bool.not_true, Bool.not_false]); exact rfl) ?_) | (refine wpPre_on rfl rfl rfl (by first | (simp only [s1, s2, Bool.not_true, Bool.not_false]; done) | fail) (by exact sdI) ?_; refine wpE_ld rfl rfl rfl (by (try dsimp only); (try simp only [s1, s2, Bool.not_true, Bool.not_false]); exact rfl) ?_))
    repeat (first | (refine wpSuf_cons rfl rfl ?_; refine wpO_det (fun _ _ => rfl) ?_) | (refine wpPre_cons rfl rfl ?_; refine wpE_det (fun _ _ => rfl) ?_))
    try (refine wpPre_nil ?_; repeat (first | (refine wpSuf_cons rfl rfl ?_; refine wpO_det (fun _ _ => rfl) ?_) | (refine wpPre_cons rfl rfl ?_; refine wpE_det (fun _ _ => rfl) ?_)))
    first | refine wpSuf_nil (And.intro (by exact sdI) ?_) | (refine wpSuf_cons rfl rfl ?_; refine wpO_call (fun _ _ => rfl) (by exact sdI) ?_) | (refine wpPre_cons rfl rfl ?_; refine wpE_call (fun _ _ => rfl) (by exact sdI) ?_) | skip
    refine dsI ?_
    try simp only [s1, s2, Bool.not_true, Bool.not_false]
    first | refine wpSuf_cons rfl rfl ?_ | refine wpSuf_on rfl rfl rfl (by first | (simp only [s1, s2, Bool.not_true, Bool.not_false]; done) | fail) (by exact sdI) ?_ | refine wpPre_cons rfl rfl ?_ | refine wpPre_on rfl rfl rfl (by first | (simp only [s1, s2, Bool.not_true, Bool.not_false]; done) | fail) (by exact sdI) ?_
    first | refine wpO_ix (fun _ _ => rfl) (by exact sdI) ⟨rfl, by omega⟩ hget ?_ | refine wpE_ix (fun _ _ => rfl) (by exact sdI) ⟨rfl, by omega⟩ hget ?_
    try dsimp only [D.cells, spot]
    repeat (first | (refine wpSuf_cons rfl rfl ?_; refine wpO_det (fun _ _ => rfl) ?_) | (refine wpPre_cons rfl rfl ?_; refine wpE_det (fun _ _ => rfl) ?_) | refine wpSuf_on rfl rfl rfl (by first | (simp only [s1, s2, Bool.not_true, Bool.not_false]; done) | fail) (by exact sdI) (wpO_det (fun _ _ => rfl) ?_) | refine wpSuf_off rfl rfl rfl (by first | (simp only [s1, s2, Bool.not_true, Bool.not_false]; done) | fail) (by exact sdI) ?_ | refine wpPre_on rfl rfl rfl (by first | (simp only [s1, s2, Bool.not_true, Bool.not_false]; done) | fail) (by exact sdI) (wpE_det (fun _ _ => rfl) ?_) | refine wpPre_off rfl rfl rfl (by first | (simp only [s1, s2, Bool.not_true, Bool.not_false]; done) | fail) (by exact sdI) ?_ | (refine wpSuf_cons rfl rfl ?_; refine wpO_ld rfl rfl rfl (by (try dsimp only); (try simp only [s1, s2, Bool.not_true, Bool.not_false]); exact rfl) ?_) | (refine wpSuf_cons rfl rfl ?_; refine wpO_st rfl rfl rfl (by (try dsimp only); (try simp only [s1, s2, Bool.not_true, Bool.not_false]); exact rfl) ?_) | (refine wpSuf_on rfl rfl rfl (by first | (simp only [s1, s2, Bool.not_true, Bool.not_false]; done) | fail) (by exact sdI) ?_; refine wpO_ld rfl rfl rfl (by (try dsimp only); (try simp only [s1, s2, Bool.not_true, Bool.not_false]); exact rfl) ?_) | (refine wpSuf_on rfl rfl rfl (by first | (simp only [s1, s2, Bool.not_true, Bool.not_false]; done) | fail) (by exact sdI) ?_; refine wpO_st rfl rfl rfl (by (try dsimp only); (try simp only [s1, s2, Bool.not_true, Bool.not_false]); exact rfl) ?_) | (refine wpPre_cons rfl rfl ?_; refine wpE_ld rfl rfl rfl (by (try dsimp only); (try simp only [s1, s2, Bool.not_true, Bool.not_false]); exact rfl) ?_) | (refine wpPre_on rfl rfl rfl (by first | (simp only [s1, s2, Bool.not_true, Bool.not_false]; done) | fail) (by exact sdI) ?_; refine wpE_ld rfl rfl rfl (by (try dsimp only); (try simp only [s1, s2, Bool.not_true, Bool.not_false]); exact rfl) ?_))
    repeat (first | (refine wpSuf_cons rfl rfl ?_; refine wpO_det (fun _ _ => rfl) ?_) | (refine wpPre_cons rfl rfl ?_; refine wpE_det (fun _ _ => rfl) ?_))
    try (refine wpPre_nil ?_; repeat (first | (refine wpSuf_cons rfl rfl ?_; refine wpO_det (fun _ _ => rfl) ?_) | (refine wpPre_cons rfl rfl ?_; refine wpE_det (fun _ _ => rfl) ?_)))
    first | refine wpSuf_nil (And.intro (by exact sdI) ?_) | (refine wpSuf_cons rfl rfl ?_; refine wpO_call (fun _ _ => rfl) (by exact sdI) ?_) | (refine wpPre_cons rfl rfl ?_; refine wpE_call (fun _ _ => rfl) (by exact sdI) ?_) | skip
    refine dsI ?_
    try simp only [s1, s2, Bool.not_true, Bool.not_false]
    repeat (first | (refine wpSuf_cons rfl rfl ?_; refine wpO_det (fun _ _ => rfl) ?_) | (refine wpPre_cons rfl rfl ?_; refine wpE_det (fun _ _ => rfl) ?_) | refine wpSuf_on rfl rfl rfl (by first | (simp only [s1, s2, Bool.not_true, Bool.not_false]; done) | fail) (by exact sdI) (wpO_det (fun _ _ => rfl) ?_) | refine wpSuf_off rfl rfl rfl (by first | (simp only [s1, s2, Bool.not_true, Bool.not_false]; done) | fail) (by exact sdI) ?_ | refine wpPre_on rfl rfl rfl (by first | (simp only [s1, s2, Bool.not_true, Bool.not_false]; done) | fail) (by exact sdI) (wpE_det (fun _ _ => rfl) ?_) | refine wpPre_off rfl rfl rfl (by first | (simp only [s1, s2, Bool.not_true, Bool.not_false]; done) | fail) (by exact sdI) ?_ | (refine wpSuf_cons rfl rfl ?_; refine wpO_ld rfl rfl rfl (by (try dsimp only); (try simp only [s1, s2, Bool.not_true, Bool.not_false]); exact rfl) ?_) | (refine wpSuf_cons rfl rfl ?_; refine wpO_st rfl rfl rfl (by (try dsimp only); (try simp only [s1, s2, Bool.not_true, Bool.not_false]); exact rfl) ?_) | (refine wpSuf_on rfl rfl rfl (by first | (simp only [s1, s2, Bool.not_true, Bool.not_false]; done) | fail) (by exact sdI) ?_; refine wpO_ld rfl rfl rfl (by (try dsimp only); (try simp only [s1, s2, Bool.not_true, Bool.not_false]); exact rfl) ?_) | (refine wpSuf_on rfl rfl rfl (by first | (simp only [s1, s2, Bool.not_true, Bool.not_false]; done) | fail) (by exact sdI) ?_; refine wpO_st rfl rfl rfl (by (try dsimp only); (try simp only [s1, s2, Bool.not_true, Bool.not_false]); exact rfl) ?_) | (refine wpPre_cons rfl rfl ?_; refine wpE_ld rfl rfl rfl (by (try dsimp only); (try simp only [s1, s2, Bool.not_true, Bool.not_false]); exact rfl) ?_) | (refine wpPre_on rfl rfl rfl (by first | (simp only [s1, s2, Bool.not_true, Bool.not_false]; done) | fail) (by exact sdI) ?_; refine wpE_ld rfl rfl rfl (by (try dsimp only); (try simp only [s1, s2, Bool.not_true, Bool.not_false]); exact rfl) ?_))
    repeat (first | (refine wpSuf_cons rfl rfl ?_; refine wpO_det (fun _ _ => rfl) ?_) | (refine wpPre_cons rfl rfl ?_; refine wpE_det (fun _ _ => rfl) ?_))
    try (refine wpPre_nil ?_; repeat (first | (refine wpSuf_cons rfl rfl ?_; refine wpO_det (fun _ _ => rfl) ?_) | (refine wpPre_cons rfl rfl ?_; refine wpE_det (fun _ _ => rfl) ?_)))
    first | refine wpSuf_nil (And.intro (by exact sdI) ?_) | (refine wpSuf_cons rfl rfl ?_; refine wpO_call (fun _ _ => rfl) (by exact sdI) ?_) | (refine wpPre_cons rfl rfl ?_; refine wpE_call (fun _ _ => rfl) (by exact sdI) ?_) | skip
    refine dsI ?_
    try simp only [s1, s2, Bool.not_true, Bool.not_false]
    first | refine wpSuf_cons rfl rfl ?_ | refine wpSuf_on rfl rfl rfl (by first | (simp only [s1, s2, Bool.not_true, Bool.not_false]; done) | fail) (by exact sdI) ?_ | refine wpPre_cons rfl rfl ?_ | refine wpPre_on rfl rfl rfl (by first | (simp only [s1, s2, Bool.not_true, Bool.not_false]; done) | fail) (by exact sdI) ?_
    first | refine wpO_ix (fun _ _ => rfl) (by exact sdI) ⟨rfl, by omega⟩ hget ?_ | refine wpE_ix (fun _ _ => rfl) (by exact sdI) ⟨rfl, by omega⟩ hget ?_
    try dsimp only [D.cells, spot]
    repeat (first | (refine wpSuf_cons rfl rfl ?_; refine wpO_det (fun _ _ => rfl) ?_) | (refine wpPre_cons rfl rfl ?_; refine wpE_det (fun _ _ => rfl) ?_) | refine wpSuf_on rfl rfl rfl (by first | (simp only [s1, s2, Bool.not_true, Bool.not_false]; done) | fail) (by exact sdI) (wpO_det (fun _ _ => rfl) ?_) | refine wpSuf_off rfl rfl rfl (by first | (simp only [s1, s2, Bool.not_true, Bool.not_false]; done) | fail) (by exact sdI) ?_ | refine wpPre_on rfl rfl rfl (by first | (simp only [s1, s2, Bool.not_true, Bool.not_false]; done) | fail) (by exact sdI) (wpE_det (fun _ _ => rfl) ?_) | refine wpPre_off rfl rfl rfl (by first | (simp only [s1, s2, Bool.not_true, Bool.not_false]; done) | fail) (by exact sdI) ?_ | (refine wpSuf_cons rfl rfl ?_; refine wpO_ld rfl rfl rfl (by (try dsimp only); (try simp only [s1, s2, Bool.not_true, Bool.not_false]); exact rfl) ?_) | (refine wpSuf_cons rfl rfl ?_; refine wpO_st rfl rfl rfl (by (try dsimp only); (try simp only [s1, s2, Bool.not_true, Bool.not_false]); exact rfl) ?_) | (refine wpSuf_on rfl rfl rfl (by first | (simp only [s1, s2, Bool.not_true, Bool.not_false]; done) | fail) (by exact sdI) ?_; refine wpO_ld rfl rfl rfl (by (try dsimp only); (try simp only [s1, s2, Bool.not_true, Bool.not_false]); exact rfl) ?_) | (refine wpSuf_on rfl rfl rfl (by first | (simp only [s1, s2, Bool.not_true, Bool.not_false]; done) | fail) (by exact sdI) ?_; refine wpO_st rfl rfl rfl (by (try dsimp only); (try simp only [s1, s2, Bool.not_true, Bool.not_false]); exact rfl) ?_) | (refine wpPre_cons rfl rfl ?_; refine wpE_ld rfl rfl rfl (by (try dsimp only); (try simp only [s1, s2, Bool.not_true, Bool.not_false]); exact rfl) ?_) | (refine wpPre_on rfl rfl rfl (by first | (simp only [s1, s2, Bool.not_true, Bool.not_false]; done) | fail) (by exact sdI) ?_; refine wpE_ld rfl rfl rfl (by (try dsimp only); (try simp only [s1, s2, Bool.not_true, Bool.not_false]); exact rfl) ?_))
    repeat (first | (refine wpSuf_cons rfl rfl ?_; refine wpO_det (fun _ _ => rfl) ?_) | (refine wpPre_cons rfl rfl ?_; refine wpE_det (fun _ _ => rfl) ?_))
    try (refine wpPre_nil ?_; repeat (first | (refine wpSuf_cons rfl rfl ?_; refine wpO_det (fun _ _ => rfl) ?_) | (refine wpPre_cons rfl rfl ?_; refine wpE_det (fun _ _ => rfl) ?_)))
    first | refine wpSuf_nil (And.intro (by exact sdI) ?_) | (refine wpSuf_cons rfl rfl ?_; refine wpO_call (fun _ _ => rfl) (by exact sdI) ?_) | (refine wpPre_cons rfl rfl ?_; refine wpE_call (fun _ _ => rfl) (by exact sdI) ?_) | skip
    refine dsI ?_
    try simp only [s1, s2, Bool.not_true, Bool.not_false]
    repeat (first | (refine wpSuf_cons rfl rfl ?_; refine wpO_det (fun _ _ => rfl) ?_) | (refine wpPre_cons rfl rfl ?_; refine wpE_det (fun _ _ => rfl) ?_) | refine wpSuf_on rfl rfl rfl (by first | (simp only [s1, s2, Bool.not_true, Bool.not_false]; done) | fail) (by exact sdI) (wpO_det (fun _ _ => rfl) ?_) | refine wpSuf_off rfl rfl rfl (by first | (simp only [s1, s2, Bool.not_true, Bool.not_false]; done) | fail) (by exact sdI) ?_ | refine wpPre_on rfl rfl rfl (by first | (simp only [s1, s2, Bool.not_true, Bool.not_false]; done) | fail) (by exact sdI) (wpE_det (fun _ _ => rfl) ?_) | refine wpPre_off rfl rfl rfl (by first | (simp only [s1, s2, Bool.not_true, Bool.not_false]; done) | fail) (by exact sdI) ?_ | (refine wpSuf_cons rfl rfl ?_; refine wpO_ld rfl rfl rfl (by (try dsimp only); (try simp only [s1, s2, Bool.not_true, Bool.not_false]); exact rfl) ?_) | (refine wpSuf_cons rfl rfl ?_; refine wpO_st rfl rfl rfl (by (try dsimp only); (try simp only [s1, s2, Bool.not_true, Bool.not_false]); exact rfl) ?_) | (refine wpSuf_on rfl rfl rfl (by first | (simp only [s1, s2, Bool.not_true, Bool.not_false]; done) | fail) (by exact sdI) ?_; refine wpO_ld rfl rfl rfl (by (try dsimp only); (try simp only [s1, s2, Bool.not_true, Bool.not_false]); exact rfl) ?_) | (refine wpSuf_on rfl rfl rfl (by first | (simp only [s1, s2, Bool.not_true, Bool.not_false]; done) | fail) (by exact sdI) ?_; refine wpO_st rfl rfl rfl (by (try dsimp only); (try simp only [s1, s2, Bool.not_true, Bool.not_false]); exact rfl) ?_) | (refine wpPre_cons rfl rfl ?_; refine wpE_ld rfl rfl rfl (by (try dsimp only); (try simp only [s1, s2, Bool.not_true, Bool.not_false]); exact rfl) ?_) | (refine wpPre_on rfl rfl rfl (by first | (simp only [s1, s2, Bool.not_true, Bool.not_false]; done) | fail) (by exact sdI) ?_; refine wpE_ld rfl rfl rfl (by (try dsimp only); (try simp only [s1, s2, Bool.not_true, Bool.not_false]); exact rfl) ?_))
    repeat (first | (refine wpSuf_cons rfl rfl ?_; refine wpO_det (fun _ _ => rfl) ?_) | (refine wpPre_cons rfl rfl ?_; refine wpE_det (fun _ _ => rfl) ?_))
    try (refine wpPre_nil ?_; repeat (first | (refine wpSuf_cons rfl rfl ?_; refine wpO_det (fun _ _ => rfl) ?_) | (refine wpPre_cons rfl rfl ?_; refine wpE_det (fun _ _ => rfl) ?_)))
    first | refine wpSuf_nil (And.intro (by exact sdI) ?_) | (refine wpSuf_cons rfl rfl ?_; refine wpO_call (fun _ _ => rfl) (by exact sdI) ?_) | (refine wpPre_cons rfl rfl ?_; refine wpE_call (fun _ _ => rfl) (by exact sdI) ?_) | skip
    refine dsI ?_
    try simp only [s1, s2, Bool.not_true, Bool.not_false]
    first | refine wpSuf_cons rfl rfl ?_ | refine wpSuf_on rfl rfl rfl (by first | (simp only [s1, s2, Bool.not_true, Bool.not_false]; done) | fail) (by exact sdI) ?_ | refine wpPre_cons rfl rfl ?_ | refine wpPre_on rfl rfl rfl (by first | (simp only [s1, s2, Bool.not_true, Bool.not_false]; done) | fail) (by exact sdI) ?_
    first | refine wpO_ix (fun _ _ => rfl) (by exact sdI) ⟨rfl, by omega⟩ hget ?_ | refine wpE_ix (fun _ _ => rfl) (by exact sdI) ⟨rfl, by omega⟩ hget ?_
    try dsimp only [D.cells, spot]
    repeat (first | (refine wpSuf_cons rfl rfl ?_; refine wpO_det (fun _ _ => rfl) ?_) | (refine wpPre_cons rfl rfl ?_; refine wpE_det (fun _ _ => rfl) ?_) | refine wpSuf_on rfl rfl rfl (by first | (simp only [s1, s2, Bool.not_true, Bool.not_false]; done) | fail) (by exact sdI) (wpO_det (fun _ _ => rfl) ?_) | refine wpSuf_off rfl rfl rfl (by first | (simp only [s1, s2, Bool.not_true, Bool.not_false]; done) | fail) (by exact sdI) ?_ | refine wpPre_on rfl rfl rfl (by first | (simp only [s1, s2, Bool.not_true, Bool.not_false]; done) | fail) (by exact sdI) (wpE_det (fun _ _ => rfl) ?_) | refine wpPre_off rfl rfl rfl (by first | (simp only [s1, s2, Bool.not_true, Bool.not_false]; done) | fail) (by exact sdI) ?_ | (refine wpSuf_cons rfl rfl ?_; refine wpO_ld rfl rfl rfl (by (try dsimp only); (try simp only [s1, s2, Bool.not_true, Bool.not_false]); exact rfl) ?_) | (refine wpSuf_cons rfl rfl ?_; refine wpO_st rfl rfl rfl (by (try dsimp only); (try simp only [s1, s2, Bool.not_true, Bool.not_false]); exact rfl) ?_) | (refine wpSuf_on rfl rfl rfl (by first | (simp only [s1, s2, Bool.not_true, Bool.not_false]; done) | fail) (by exact sdI) ?_; refine wpO_ld rfl rfl rfl (by (try dsimp only); (try simp only [s1, s2, Bool.not_true, Bool.not_false]); exact rfl) ?_) | (refine wpSuf_on rfl rfl rfl (by first | (simp only [s1, s2, Bool.not_true, Bool.not_false]; done) | fail) (by exact sdI) ?_; refine wpO_st rfl rfl rfl (by (try dsimp only); (try simp only [s1, s2, Bool.not_true, Bool.not_false]); exact rfl) ?_) | (refine wpPre_cons rfl rfl ?_; refine wpE_ld rfl rfl rfl (by (try dsimp only); (try simp only [s1, s2, Bool.not_true, Bool.not_false]); exact rfl) ?_) | (refine wpPre_on rfl rfl rfl (by first | (simp only [s1, s2, Bool.not_true, Bool.not_false]; done) | fail) (by exact sdI) ?_; refine wpE_ld rfl rfl rfl (by (try dsimp only); (try simp only [s1, s2, Bool.not_true, Bool.not_false]); exact rfl) ?_))
    repeat (first | (refine wpSuf_cons rfl rfl ?_; refine wpO_det (fun _ _ => rfl) ?_) | (refine wpPre_cons rfl rfl ?_; refine wpE_det (fun _ _ => rfl) ?_))
    try (refine wpPre_nil ?_; repeat (first | (refine wpSuf_cons rfl rfl ?_; refine wpO_det (fun _ _ => rfl) ?_) | (refine wpPre_cons rfl rfl ?_; refine wpE_det (fun _ _ => rfl) ?_)))
    first | refine wpSuf_nil (And.intro (by exact sdI) ?_) | (refine wpSuf_cons rfl rfl ?_; refine wpO_call (fun _ _ => rfl) (by exact sdI) ?_) | (refine wpPre_cons rfl rfl ?_; refine wpE_call (fun _ _ => rfl) (by exact sdI) ?_) | skip
    refine dsI ?_
    try simp only [s1, s2, Bool.not_true, Bool.not_false]
    repeat (first | (refine wpSuf_cons rfl rfl ?_; refine wpO_det (fun _ _ => rfl) ?_) | (refine wpPre_cons rfl rfl ?_; refine wpE_det (fun _ _ => rfl) ?_) | refine wpSuf_on rfl rfl rfl (by first | (simp only [s1, s2, Bool.not_true, Bool.not_false]; done) | fail) (by exact sdI) (wpO_det (fun _ _ => rfl) ?_) | refine wpSuf_off rfl rfl rfl (by first | (simp only [s1, s2, Bool.not_true, Bool.not_false]; done) | fail) (by exact sdI) ?_ | refine wpPre_on rfl rfl rfl (by first | (simp only [s1, s2, Bool.not_true, Bool.not_false]; done) | fail) (by exact sdI) (wpE_det (fun _ _ => rfl) ?_) | refine wpPre_off rfl rfl rfl (by first | (simp only [s1, s2, Bool.not_true, Bool.not_false]; done) | fail) (by exact sdI) ?_ | (refine wpSuf_cons rfl rfl ?_; refine wpO_ld rfl rfl rfl (by (try dsimp only); (try simp only [s1, s2, Bool.not_true, Bool.not_false]); exact rfl) ?_) | (refine wpSuf_cons rfl rfl ?_; refine wpO_st rfl rfl rfl (by (try dsimp only); (try simp only [s1, s2, Bool.not_true, Bool.not_false]); exact rfl) ?_) | (refine wpSuf_on rfl rfl rfl (by first | (simp only [s1, s2, Bool.not_true, Bool.not_false]; done) | fail) (by exact sdI) ?_; refine wpO_ld rfl rfl rfl (by (try dsimp only); (try simp only [s1, s2, Bool.not_true, Bool.not_false]); exact rfl) ?_) | (refine wpSuf_on rfl rfl rfl (by first | (simp only [s1, s2, Bool.not_true, Bool.not_false]; done) | fail) (by exact sdI) ?_; refine wpO_st rfl rfl rfl (by (try dsimp only); (try simp only [s1, s2, Bool.not_true, Bool.not_false]); exact rfl) ?_) | (refine wpPre_cons rfl rfl ?_; refine wpE_ld rfl rfl rfl (by (try dsimp only); (try simp only [s1, s2, Bool.not_true, Bool.not_false]); exact rfl) ?_) | (refine wpPre_on rfl rfl rfl (by first | (simp only [s1, s2, Bool.not_true, Bool.not_false]; done) | fail) (by exact sdI) ?_; refine wpE_ld rfl rfl rfl (by (try dsimp only); (try simp only [s1, s2, Bool.not_true, Bool.not_false]); exact rfl) ?_))
    repeat (first | (refine wpSuf_cons rfl rfl ?_; refine wpO_det (fun _ _ => rfl) ?_) | (refine wpPre_cons rfl rfl ?_; refine wpE_det (fun _ _ => rfl) ?_))
    try (refine wpPre_nil ?_; repeat (first | (refine wpSuf_cons rfl rfl ?_; refine wpO_det (fun _ _ => rfl) ?_) | (refine wpPre_cons rfl rfl ?_; refine wpE_det (fun _ _ => rfl) ?_)))
    first | refine wpSuf_nil (And.intro (by exact sdI) ?_) | (refine wpSuf_cons rfl rfl ?_; refine wpO_call (fun _ _ => rfl) (by exact sdI) ?_) | (refine wpPre_cons rfl rfl ?_; refine wpE_call (fun _ _ => rfl) (by exact sdI) ?_) | skip
    refine dsI ?_
    try simp only [s1, s2, Bool.not_true, Bool.not_false]
    first | refine wpSuf_cons rfl rfl ?_ | refine wpSuf_on rfl rfl rfl (by first | (simp only [s1, s2, Bool.not_true, Bool.not_false]; done) | fail) (by exact sdI) ?_ | refine wpPre_cons rfl rfl ?_ | refine wpPre_on rfl rfl rfl (by first | (simp only [s1, s2, Bool.not_true, Bool.not_false]; done) | fail) (by exact sdI) ?_
    first | refine wpO_ix (fun _ _ => rfl) (by exact sdI) ⟨rfl, by omega⟩ hget ?_ | refine wpE_ix (fun _ _ => rfl) (by exact sdI) ⟨rfl, by omega⟩ hget ?_
    try dsimp only [D.cells, spot]
    repeat (first | (refine wpSuf_cons rfl rfl ?_; refine wpO_det (fun _ _ => rfl) ?_) | (refine wpPre_cons rfl rfl ?_; refine wpE_det (fun _ _ => rfl) ?_) | refine wpSuf_on rfl rfl rfl (by first | (simp only [s1, s2, Bool.not_true, Bool.not_false]; done) | fail) (by exact sdI) (wpO_det (fun _ _ => rfl) ?_) | refine wpSuf_off rfl rfl rfl (by first | (simp only [s1, s2, Bool.not_true, Bool.not_false]; done) | fail) (by exact sdI) ?_ | refine wpPre_on rfl rfl rfl (by first | (simp only [s1, s2, Bool.not_true, Bool.not_false]; done) | fail) (by exact sdI) (wpE_det (fun _ _ => rfl) ?_) | refine wpPre_off rfl rfl rfl (by first | (simp only [s1, s2, Bool.not_true, Bool.not_false]; done) | fail) (by exact sdI) ?_ | (refine wpSuf_cons rfl rfl ?_; refine wpO_ld rfl rfl rfl (by (try dsimp only); (try simp only [s1, s2, Bool.not_true, Bool.not_false]); exact rfl) ?_) | (refine wpSuf_cons rfl rfl ?_; refine wpO_st rfl rfl rfl (by (try dsimp only); (try simp only [s1, s2, Bool.not_true, Bool.not_false]); exact rfl) ?_) | (refine wpSuf_on rfl rfl rfl (by first | (simp only [s1, s2, Bool.not_true, Bool.not_false]; done) | fail) (by exact sdI) ?_; refine wpO_ld rfl rfl rfl (by (try dsimp only); (try simp only [s1, s2, Bool.not_true, Bool.not_false]); exact rfl) ?_) | (refine wpSuf_on rfl rfl rfl (by first | (simp only [s1, s2, Bool.not_true, Bool.not_false]; done) | fail) (by exact sdI) ?_; refine wpO_st rfl rfl rfl (by (try dsimp only); (try simp only [s1, s2, Bool.not_true, Bool.not_false]); exact rfl) ?_) | (refine wpPre_cons rfl rfl ?_; refine wpE_ld rfl rfl rfl (by (try dsimp only); (try simp only [s1, s2, Bool.not_true, Bool.not_false]); exact rfl) ?_) | (refine wpPre_on rfl rfl rfl (by first | (simp only [s1, s2, Bool.not_true, Bool.not_false]; done) | fail) (by exact sdI) ?_; refine wpE_ld rfl rfl rfl (by (try dsimp only); (try simp only [s1, s2, Bool.not_true, Bool.not_false]); exact rfl) ?_))
    repeat (first | (refine wpSuf_cons rfl rfl ?_; refine wpO_det (fun _ _ => rfl) ?_) | (refine wpPre_cons rfl rfl ?_; refine wpE_det (fun _ _ => rfl) ?_))
    try (refine wpPre_nil ?_; repeat (first | (refine wpSuf_cons rfl rfl ?_; refine wpO_det (fun _ _ => rfl) ?_) | (refine wpPre_cons rfl rfl ?_; refine wpE_det (fun _ _ => rfl) ?_)))
    first | refine wpSuf_nil (And.intro (by exact sdI) ?_) | (refine wpSuf_cons rfl rfl ?_; refine wpO_call (fun _ _ => rfl) (by exact sdI) ?_) | (refine wpPre_cons rfl rfl ?_; refine wpE_call (fun _ _ => rfl) (by exact sdI) ?_) | skip
    refine dsI ?_
    try simp only [s1, s2, Bool.not_true, Bool.not_false]
    repeat (first | (refine wpSuf_cons rfl rfl ?_; refine wpO_det (fun _ _ => rfl) ?_) | (refine wpPre_cons rfl rfl ?_; refine wpE_det (fun _ _ => rfl) ?_) | refine wpSuf_on rfl rfl rfl (by first | (simp only [s1, s2, Bool.not_true, Bool.not_false]; done) | fail) (by exact sdI) (wpO_det (fun _ _ => rfl) ?_) | refine wpSuf_off rfl rfl rfl (by first | (simp only [s1, s2, Bool.not_true, Bool.not_false]; done) | fail) (by exact sdI) ?_ | refine wpPre_on rfl rfl rfl (by first | (simp only [s1, s2, Bool.not_true, Bool.not_false]; done) | fail) (by exact sdI) (wpE_det (fun _ _ => rfl) ?_) | refine wpPre_off rfl rfl rfl (by first | (simp only [s1, s2, Bool.not_true, Bool.not_false]; done) | fail) (by exact sdI) ?_ | (refine wpSuf_cons rfl rfl ?_; refine wpO_ld rfl rfl rfl (by (try dsimp only); (try simp only [s1, s2, Bool.not_true, Bool.not_false]); exact rfl) ?_) | (refine wpSuf_cons rfl rfl ?_; refine wpO_st rfl rfl rfl (by (try dsimp only); (try simp only [s1, s2, Bool.not_true, Bool.not_false]); exact rfl) ?_) | (refine wpSuf_on rfl rfl rfl (by first | (simp only [s1, s2, Bool.not_true, Bool.not_false]; done) | fail) (by exact sdI) ?_; refine wpO_ld rfl rfl rfl (by (try dsimp only); (try simp only [s1, s2, Bool.not_true, Bool.not_false]); exact rfl) ?_) | (refine wpSuf_on rfl rfl rfl (by first | (simp only [s1, s2, Bool.not_true, Bool.not_false]; done) | fail) (by exact sdI) ?_; refine wpO_st rfl rfl rfl (by (try dsimp only); (try simp only [s1, s2, Bool.not_true, Bool.not_false]); exact rfl) ?_) | (refine wpPre_cons rfl rfl ?_; refine wpE_ld rfl rfl rfl (by (try dsimp only); (try simp only [s1, s2, Bool.not_true, Bool.not_false]); exact rfl) ?_) | (refine wpPre_on rfl rfl rfl (by first | (simp only [s1, s2, Bool.not_true, Bool.not_false]; done) | fail) (by exact sdI) ?_; refine wpE_ld rfl rfl rfl (by (try dsimp only); (try simp only [s1, s2, Bool.not_true, Bool.not_false]); exact rfl) ?_))
    repeat (first | (refine wpSuf_cons rfl rfl ?_; refine wpO_det (fun _ _ => rfl) ?_) | (refine wpPre_cons rfl rfl ?_; refine wpE_det (fun _ _ => rfl) ?_))
    try (refine wpPre_nil ?_; repeat (first | (refine wpSuf_cons rfl rfl ?_; refine wpO_det (fun _ _ => rfl) ?_) | (refine wpPre_cons rfl rfl ?_; refine wpE_det (fun _ _ => rfl) ?_)))
    first | refine wpSuf_nil (And.intro (by exact sdI) ?_) | (refine wpSuf_cons rfl rfl ?_; refine wpO_call (fun _ _ => rfl) (by exact sdI) ?_) | (refine wpPre_cons rfl rfl ?_; refine wpE_call (fun _ _ => rfl) (by exact sdI) ?_) | skip
    refine dsI ?_
    try simp only [s1, s2, Bool.not_true, Bool.not_false]
    first | refine wpSuf_cons rfl rfl ?_ | refine wpSuf_on rfl rfl rfl (by first | (simp only [s1, s2, Bool.not_true, Bool.not_false]; done) | fail) (by exact sdI) ?_ | refine wpPre_cons rfl rfl ?_ | refine wpPre_on rfl rfl rfl (by first | (simp only [s1, s2, Bool.not_true, Bool.not_false]; done) | fail) (by exact sdI) ?_
    first | refine wpO_ix (fun _ _ => rfl) (by exact sdI) ⟨rfl, by omega⟩ hget ?_ | refine wpE_ix (fun _ _ => rfl) (by exact sdI) ⟨rfl, by omega⟩ hget ?_
    try dsimp only [D.cells, spot]
    repeat (first | (refine wpSuf_cons rfl rfl ?_; refine wpO_det (fun _ _ => rfl) ?_) | (refine wpPre_cons rfl rfl ?_; refine wpE_det (fun _ _ => rfl) ?_) | refine wpSuf_on rfl rfl rfl (by first | (simp only [s1, s2, Bool.not_true, Bool.not_false]; done) | fail) (by exact sdI) (wpO_det (fun _ _ => rfl) ?_) | refine wpSuf_off rfl rfl rfl (by first | (simp only [s1, s2, Bool.not_true, Bool.not_false]; done) | fail) (by exact sdI) ?_ | refine wpPre_on rfl rfl rfl (by first | (simp only [s1, s2, Bool.not_true, Bool.not_false]; done) | fail) (by exact sdI) (wpE_det (fun _ _ => rfl) ?_) | refine wpPre_off rfl rfl rfl (by first | (simp only [s1, s2, Bool.not_true, Bool.not_false]; done) | fail) (by exact sdI) ?_ | (refine wpSuf_cons rfl rfl ?_; refine wpO_ld rfl rfl rfl (by (try dsimp only); (try simp only [s1, s2, Bool.not_true, Bool.not_false]); exact rfl) ?_) | (refine wpSuf_cons rfl rfl ?_; refine wpO_st rfl rfl rfl (by (try dsimp only); (try simp only [s1, s2, Bool.not_true, Bool.not_false]); exact rfl) ?_) | (refine wpSuf_on rfl rfl rfl (by first | (simp only [s1, s2, Bool.not_true, Bool.not_false]; done) | fail) (by exact sdI) ?_; refine wpO_ld rfl rfl rfl (by (try dsimp only); (try simp only [s1, s2, Bool.not_true, Bool.not_false]); exact rfl) ?_) | (refine wpSuf_on rfl rfl rfl (by first | (simp only [s1, s2, Bool.not_true, Bool.not_false]; done) | fail) (by exact sdI) ?_; refine wpO_st rfl rfl rfl (by (try dsimp only); (try simp only [s1, s2, Bool.not_true, Bool.not_false]); exact rfl) ?_) | (refine wpPre_cons rfl rfl ?_; refine wpE_ld rfl rfl rfl (by (try dsimp only); (try simp only [s1, s2, Bool.not_true, Bool.not_false]); exact rfl) ?_) | (refine wpPre_on rfl rfl rfl (by first | (simp only [s1, s2, Bool.not_true, Bool.not_false]; done) | fail) (by exact sdI) ?_; refine wpE_ld rfl rfl rfl (by (try dsimp only); (try simp only [s1, s2, Bool.not_true, Bool.not_false]); exact rfl) ?_))
    repeat (first | (refine wpSuf_cons rfl rfl ?_; refine wpO_det (fun _ _ => rfl) ?_) | (refine wpPre_cons rfl rfl ?_; refine wpE_det (fun _ _ => rfl) ?_))
    try (refine wpPre_nil ?_; repeat (first | (refine wpSuf_cons rfl rfl ?_; refine wpO_det (fun _ _ => rfl) ?_) | (refine wpPre_cons rfl rfl ?_; refine wpE_det (fun _ _ => rfl) ?_)))
    first | refine wpSuf_nil (And.intro (by exact sdI) ?_) | (refine wpSuf_cons rfl rfl ?_; refine wpO_call (fun _ _ => rfl) (by exact sdI) ?_) | (refine wpPre_cons rfl rfl ?_; refine wpE_call (fun _ _ => rfl) (by exact sdI) ?_) | skip
    refine dsI ?_
    try simp only [s1, s2, Bool.not_true, Bool.not_false]
    repeat (first | (refine wpSuf_cons rfl rfl ?_; refine wpO_det (fun _ _ => rfl) ?_) | (refine wpPre_cons rfl rfl ?_; refine wpE_det (fun _ _ => rfl) ?_) | refine wpSuf_on rfl rfl rfl (by first | (simp only [s1, s2, Bool.not_true, Bool.not_false]; done) | fail) (by exact sdI) (wpO_det (fun _ _ => rfl) ?_) | refine wpSuf_off rfl rfl rfl (by first | (simp only [s1, s2, Bool.not_true, Bool.not_false]; done) | fail) (by exact sdI) ?_ | refine wpPre_on rfl rfl rfl (by first | (simp only [s1, s2, Bool.not_true, Bool.not_false]; done) | fail) (by exact sdI) (wpE_det (fun _ _ => rfl) ?_) | refine wpPre_off rfl rfl rfl (by first | (simp only [s1, s2, Bool.not_true, Bool.not_false]; done) | fail) (by exact sdI) ?_ | (refine wpSuf_cons rfl rfl ?_; refine wpO_ld rfl rfl rfl (by (try dsimp only); (try simp only [s1, s2, Bool.not_true, Bool.not_false]); exact rfl) ?_) | (refine wpSuf_cons rfl rfl ?_; refine wpO_st rfl rfl rfl (by (try dsimp only); (try simp only [s1, s2, Bool.not_true, Bool.not_false]); exact rfl) ?_) | (refine wpSuf_on rfl rfl rfl (by first | (simp only [s1, s2, Bool.not_true, Bool.not_false]; done) | fail) (by exact sdI) ?_; refine wpO_ld rfl rfl rfl (by (try dsimp only); (try simp only [s1, s2, Bool.not_true, Bool.not_false]); exact rfl) ?_) | (refine wpSuf_on rfl rfl rfl (by first | (simp only [s1, s2, Bool.not_true, Bool.not_false]; done) | fail) (by exact sdI) ?_; refine wpO_st rfl rfl rfl (by (try dsimp only); (try simp only [s1, s2, Bool.not_true, Bool.not_false]); exact rfl) ?_) | (refine wpPre_cons rfl rfl ?_; refine wpE_ld rfl rfl rfl (by (try dsimp only); (try simp only [s1, s2, Bool.not_true, Bool.not_false]); exact rfl) ?_) | (refine wpPre_on rfl rfl rfl (by first | (simp only [s1, s2, Bool.not_true, Bool.not_false]; done) | fail) (by exact sdI) ?_; refine wpE_ld rfl rfl rfl (by (try dsimp only); (try simp only [s1, s2, Bool.not_true, Bool.not_false]); exact rfl) ?_))
    repeat (first | (refine wpSuf_cons rfl rfl ?_; refine wpO_det (fun _ _ => rfl) ?_) | (refine wpPre_cons rfl rfl ?_; refine wpE_det (fun _ _ => rfl) ?_))
    try (refine wpPre_nil ?_; repeat (first | (refine wpSuf_cons rfl rfl ?_; refine wpO_det (fun _ _ => rfl) ?_) | (refine wpPre_cons rfl rfl ?_; refine wpE_det (fun _ _ => rfl) ?_)))
    first | refine wpSuf_nil (And.intro (by exact sdI) ?_) | (refine wpSuf_cons rfl rfl ?_; refine wpO_call (fun _ _ => rfl) (by exact sdI) ?_) | (refine wpPre_cons rfl rfl ?_; refine wpE_call (fun _ _ => rfl) (by exact sdI) ?_) | skip
    refine dsI ?_
    try simp only [s1, s2, Bool.not_true, Bool.not_false]
    first | refine wpSuf_cons rfl rfl ?_ | refine wpSuf_on rfl rfl rfl (by first | (simp only [s1, s2, Bool.not_true, Bool.not_false]; done) | fail) (by exact sdI) ?_ | refine wpPre_cons rfl rfl ?_ | refine wpPre_on rfl rfl rfl (by first | (simp only [s1, s2, Bool.not_true, Bool.not_false]; done) | fail) (by exact sdI) ?_
    first | refine wpO_ix (fun _ _ => rfl) (by exact sdI) ⟨rfl, by omega⟩ hget ?_ | refine wpE_ix (fun _ _ => rfl) (by exact sdI) ⟨rfl, by omega⟩ hget ?_
    try dsimp only [D.cells, spot]
    repeat (first | (refine wpSuf_cons rfl rfl ?_; refine wpO_det (fun _ _ => rfl) ?_) | (refine wpPre_cons rfl rfl ?_; refine wpE_det (fun _ _ => rfl) ?_) | refine wpSuf_on rfl rfl rfl (by first | (simp only [s1, s2, Bool.not_true, Bool.not_false]; done) | fail) (by exact sdI) (wpO_det (fun _ _ => rfl) ?_) | refine wpSuf_off rfl rfl rfl (by first | (simp only [s1, s2, Bool.not_true, Bool.not_false]; done) | fail) (by exact sdI) ?_ | refine wpPre_on rfl rfl rfl (by first | (simp only [s1, s2, Bool.not_true, Bool.not_false]; done) | fail) (by exact sdI) (wpE_det (fun _ _ => rfl) ?_) | refine wpPre_off rfl rfl rfl (by first | (simp only [s1, s2, Bool.not_true, Bool.not_false]; done) | fail) (by exact sdI) ?_ | (refine wpSuf_cons rfl rfl ?_; refine wpO_ld rfl rfl rfl (by (try dsimp only); (try simp only [s1, s2, Bool.not_true, Bool.not_false]); exact rfl) ?_) | (refine wpSuf_cons rfl rfl ?_; refine wpO_st rfl rfl rfl (by (try dsimp only); (try simp only [s1, s2, Bool.not_true, Bool.not_false]); exact rfl) ?_) | (refine wpSuf_on rfl rfl rfl (by first | (simp only [s1, s2, Bool.not_true, Bool.not_false]; done) | fail) (by exact sdI) ?_; refine wpO_ld rfl rfl rfl (by (try dsimp only); (try simp only [s1, s2, Bool.not_true, Bool.not_false]); exact rfl) ?_) | (refine wpSuf_on rfl rfl rfl (by first | (simp only [s1, s2, Bool.not_true, Bool.not_false]; done) | fail) (by exact sdI) ?_; refine wpO_st rfl rfl rfl (by (try dsimp only); (try simp only [s1, s2, Bool.not_true, Bool.not_false]); exact rfl) ?_) | (refine wpPre_cons rfl rfl ?_; refine wpE_ld rfl rfl rfl (by (try dsimp only); (try simp only [s1, s2, Bool.not_true, Bool.not_false]); exact rfl) ?_) | (refine wpPre_on rfl rfl rfl (by first | (simp only [s1, s2, Bool.not_true, Bool.not_false]; done) | fail) (by exact sdI) ?_; refine wpE_ld rfl rfl rfl (by (try dsimp only); (try simp only [s1, s2, Bool.not_true, Bool.not_false]); exact rfl) ?_))
    repeat (first | (refine wpSuf_cons rfl rfl ?_; refine wpO_det (fun _ _ => rfl) ?_) | (refine wpPre_cons rfl rfl ?_; refine wpE_det (fun _ _ => rfl) ?_))
    try (refine wpPre_nil ?_; repeat (first | (refine wpSuf_cons rfl rfl ?_; refine wpO_det (fun _ _ => rfl) ?_) | (refine wpPre_cons rfl rfl ?_; refine wpE_det (fun _ _ => rfl) ?_)))
    first | refine wpSuf_nil (And.intro (by exact sdI) ?_) | (refine wpSuf_cons rfl rfl ?_; refine wpO_call (fun _ _ => rfl) (by exact sdI) ?_) | (refine wpPre_cons rfl rfl ?_; refine wpE_call (fun _ _ => rfl) (by exact sdI) ?_) | skip
    refine dsI ?_
    try simp only [s1, s2, Bool.not_true, Bool.not_false]
    repeat (first | (refine wpSuf_cons rfl rfl ?_; refine wpO_det (fun _ _ => rfl) ?_) | (refine wpPre_cons rfl rfl ?_; refine wpE_det (fun _ _ => rfl) ?_) | refine wpSuf_on rfl rfl rfl (by first | (simp only [s1, s2, Bool.not_true, Bool.not_false]; done) | fail) (by exact sdI) (wpO_det (fun _ _ => rfl) ?_) | refine wpSuf_off rfl rfl rfl (by first | (simp only [s1, s2, Bool.not_true, Bool.not_false]; done) | fail) (by exact sdI) ?_ | refine wpPre_on rfl rfl rfl (by first | (simp only [s1, s2, Bool.not_true, Bool.not_false]; done) | fail) (by exact sdI) (wpE_det (fun _ _ => rfl) ?_) | refine wpPre_off rfl rfl rfl (by first | (simp only [s1, s2, Bool.not_true, Bool.not_false]; done) | fail) (by exact sdI) ?_ | (refine wpSuf_cons rfl rfl ?_; refine wpO_ld rfl rfl rfl (by (try dsimp only); (try simp only [s1, s2, Bool.not_true, Bool.not_false]); exact rfl) ?_) | (refine wpSuf_cons rfl rfl ?_; refine wpO_st rfl rfl rfl (by (try dsimp only); (try simp only [s1, s2, Bool.not_true, Bool.not_false]); exact rfl) ?_) | (refine wpSuf_on rfl rfl rfl (by first | (simp only [s1, s2, Bool.not_true, Bool.not_false]; done) | fail) (by exact sdI) ?_; refine wpO_ld rfl rfl rfl (by (try dsimp only); (try simp only [s1, s2, Bool.not_true, Bool.not_false]); exact rfl) ?_) | (refine wpSuf_on rfl rfl rfl (by first | (simp only [s1, s2, Bool.not_true, Bool.not_false]; done) | fail) (by exact sdI) ?_; refine wpO_st rfl rfl rfl (by (try dsimp only); (try simp only [s1, s2, Bool.not_true, Bool.not_false]); exact rfl) ?_) | (refine wpPre_cons rfl rfl ?_; refine wpE_ld rfl rfl rfl (by (try dsimp only); (try simp only [s1, s2, Bool.not_true, Bool.not_false]); exact rfl) ?_) | (refine wpPre_on rfl rfl rfl (by first | (simp only [s1, s2, Bool.not_true, Bool.not_false]; done) | fail) (by exact sdI) ?_; refine wpE_ld rfl rfl rfl (by (try dsimp only); (try simp only [s1, s2, Bool.not_true, Bool.not_false]); exact rfl) ?_))
    repeat (first | (refine wpSuf_cons rfl rfl ?_; refine wpO_det (fun _ _ => rfl) ?_) | (refine wpPre_cons rfl rfl ?_; refine wpE_det (fun _ _ => rfl) ?_))
    try (refine wpPre_nil ?_; repeat (first | (refine wpSuf_cons rfl rfl ?_; refine wpO_det (fun _ _ => rfl) ?_) | (refine wpPre_cons rfl rfl ?_; refine wpE_det (fun _ _ => rfl) ?_)))
    first | refine wpSuf_nil (And.intro (by exact sdI) ?_) | (refine wpSuf_cons rfl rfl ?_; refine wpO_call (fun _ _ => rfl) (by exact sdI) ?_) | (refine wpPre_cons rfl rfl ?_; refine wpE_call (fun _ _ => rfl) (by exact sdI) ?_) | skip
    refine dsI ?_
    try simp only [s1, s2, Bool.not_true, Bool.not_false]
    have a3 : IntKind.i64.wrap ((j : Int) + 1) = ((j + 1 : Nat) : Int) := wI (by omega) (by omega)
    refine OkS.cond ?_
    refine dsI ?_
    refine OkS.skip ?_
    refine dsI ?_
    refine OkS.reg w1 800 (by kernel_rfl) ?_
    repeat (first | (refine wpSuf_cons rfl rfl ?_; refine wpO_det (fun _ _ => rfl) ?_) | (refine wpPre_cons rfl rfl ?_; refine wpE_det (fun _ _ => rfl) ?_))
    try (refine wpPre_nil ?_; repeat (first | (refine wpSuf_cons rfl rfl ?_; refine wpO_det (fun _ _ => rfl) ?_) | (refine wpPre_cons rfl rfl ?_; refine wpE_det (fun _ _ => rfl) ?_)))
    first | refine wpSuf_nil (And.intro (by ((refine dsI ?_); (try simp only [a3]); all_goals exact sdI)) ?_) | (refine wpSuf_cons rfl rfl ?_; refine wpO_call (fun _ _ => rfl) (by ((refine dsI ?_); (try simp only [a3]); all_goals exact sdI)) ?_) | (refine wpPre_cons rfl rfl ?_; refine wpE_call (fun _ _ => rfl) (by ((refine dsI ?_); (try simp only [a3]); all_goals exact sdI)) ?_) | skip
    refine dsI ?_
    try simp only [a3]
    exact ⟨(j + 1, _), hj, (by dsimp only; omega), wkI⟩
  · have hj : j = qs.length := by
      have : ¬ j < qs.length := by simpa using hc
      omega
    subst hj
    refine OkS.exit ?_
    refine dsI ?_
    refine OkS.seq ?_
    refine OkS.reg w1 900 (by kernel_rfl) ?_
    refine stI ?_
    refine OkS.ret ?_
    refine And.intro (by exact sdI) ?_
    refine dsI ?_
    exact exact_res rfl IsPure.out
end
end Go.Ide

/- The Grade laws, part M: the law GradePatterns, given awake. -/
namespace Go.Ide
open Go.Proofs Go.RowKit
set_option maxRecDepth 20000
set_option linter.unusedSimpArgs false
theorem kd_of (s : ByteArray) : (∃ k : Kd, KindIs s k.a k.b k.c k.d) ∨ KindIs s false false false false := by
  have key : ∀ a b : ByteArray, strEq s a = true → (a.toList == b.toList) = false → strEq s b = false := fun a b h1 h2 => by
    unfold strEq at h1 ⊢
    rw [eq_of_beq h1]; exact h2
  by_cases h1 : strEq s ⟨#[108, 105, 110, 101]⟩ = true
  · exact .inl ⟨.line, h1, key _ _ h1 (by kernel_rfl), key _ _ h1 (by kernel_rfl), key _ _ h1 (by kernel_rfl)⟩
  by_cases h2 : strEq s ⟨#[122, 105, 103, 122, 97, 103]⟩ = true
  · exact .inl ⟨.zig, key _ _ h2 (by kernel_rfl), h2, key _ _ h2 (by kernel_rfl), key _ _ h2 (by kernel_rfl)⟩
  by_cases h3 : strEq s ⟨#[103, 114, 105, 100]⟩ = true
  · exact .inl ⟨.grid, key _ _ h3 (by kernel_rfl), key _ _ h3 (by kernel_rfl), h3, key _ _ h3 (by kernel_rfl)⟩
  by_cases h4 : strEq s ⟨#[113, 117, 105, 110, 99, 117, 110, 120]⟩ = true
  · exact .inl ⟨.quin, key _ _ h4 (by kernel_rfl), key _ _ h4 (by kernel_rfl), key _ _ h4 (by kernel_rfl), h4⟩
  exact .inr ⟨by simpa using h1, by simpa using h2, by simpa using h3, by simpa using h4⟩
section
attribute [local irreducible] wpPre wpSuf
theorem gp_core (mass : Int) (s : ByteArray) (n L W : Int) (qs : List Q4) (e : Int) (hl : qs.length ≤ 5000) (aw : ICalls C0 9 [] (boo true))
    (c12 : ICalls C0 12 [str s, i64 n, i64 L, i64 W] (.tup [.sl false 3 (qs.map probeQ), i64 e])) (c13 : ICalls C0 13 [str s, i64 n, i64 L, i64 W] (.tup [.sl false 3 (qs.map probeQ), i64 e])) :
    ICalls C0 3 [i64 mass, str s, .agg [i64 n, i64 L, i64 W]] (boo true) := by
  refine ICallP.walk w1 fok3 rfl fun F => ?_
  refine OkS.seq ?_
  refine OkS.reg w1 0 (by kernel_rfl) ?_
  refine stI ?_
  obtain ⟨b, hb⟩ : ∃ b, decide ((s.size : Int) > 100) = b := ⟨_, rfl⟩
  refine OkS.seq ?_
  refine OkS.seq ?_
  refine OkS.reg w1 100 (by kernel_rfl) ?_
  repeat (first | (refine wpSuf_cons rfl rfl ?_; refine wpO_det (fun _ _ => rfl) ?_) | (refine wpPre_cons rfl rfl ?_; refine wpE_det (fun _ _ => rfl) ?_))
  try (refine wpPre_nil ?_; repeat (first | (refine wpSuf_cons rfl rfl ?_; refine wpO_det (fun _ _ => rfl) ?_) | (refine wpPre_cons rfl rfl ?_; refine wpE_det (fun _ _ => rfl) ?_)))
  first | refine wpSuf_nil (And.intro (by ((refine dsI ?_); (try simp only [hb]); all_goals exact sdI)) ?_) | (refine wpSuf_cons rfl rfl ?_; refine wpO_call (fun _ _ => rfl) (by ((refine dsI ?_); (try simp only [hb]); all_goals exact sdI)) ?_) | (refine wpPre_cons rfl rfl ?_; refine wpE_call (fun _ _ => rfl) (by ((refine dsI ?_); (try simp only [hb]); all_goals exact sdI)) ?_) | skip
  refine dsI ?_
  try simp only [hb]
  rcases b with _ | _
  rotate_left
  · refine OkS.cond ?_
    refine dsI ?_
    refine OkS.seq ?_
    refine OkS.reg w1 200 (by kernel_rfl) ?_
    refine stI ?_
    refine CallO.same _ (aw) inferInstance ?_
    refine stI ?_
    refine OkS.ret ?_
    refine And.intro (by exact sdI) ?_
    refine dsI ?_
    exact exact_res rfl IsPure.out
  refine OkS.cond ?_
  refine dsI ?_
  refine OkS.skip ?_
  refine dsI ?_
  refine OkS.seq ?_
  refine OkS.reg w1 300 (by kernel_rfl) ?_
  refine stI ?_
  refine CallO.same _ (count_ok mass) inferInstance ?_
  refine stI ?_
  refine OkS.seq ?_
  refine OkS.reg w1 400 (by kernel_rfl) ?_
  refine stI ?_
  refine CallO.same _ (rcount_ok mass) inferInstance ?_
  refine stI ?_
  refine OkS.seq ?_
  refine OkS.reg w1 500 (by kernel_rfl) ?_
  refine stI ?_
  refine CallO.same _ (c12) inferInstance ?_
  refine stI ?_
  refine OkS.seq ?_
  refine OkS.reg w1 600 (by kernel_rfl) ?_
  refine stI ?_
  refine CallO.same _ (c13) inferInstance ?_
  refine stI ?_
  have f1 : ((cntS mass).1 == (cntS mass).1) = true := by simp
  have f2 : ((cntS mass).2 == (cntS mass).2) = true := by simp
  have f3 : (e == e) = true := by simp
  refine OkS.seq ?_
  refine OkS.reg w1 700 (by kernel_rfl) ?_
  repeat (first | (refine wpSuf_cons rfl rfl ?_; refine wpO_det (fun _ _ => rfl) ?_) | (refine wpPre_cons rfl rfl ?_; refine wpE_det (fun _ _ => rfl) ?_) | refine wpSuf_on rfl rfl rfl (by first | (simp only [f1, f2, f3]; done) | fail) (by exact sdI) (wpO_det (fun _ _ => rfl) ?_) | refine wpSuf_off rfl rfl rfl (by first | (simp only [f1, f2, f3]; done) | fail) (by exact sdI) ?_ | refine wpPre_on rfl rfl rfl (by first | (simp only [f1, f2, f3]; done) | fail) (by exact sdI) (wpE_det (fun _ _ => rfl) ?_) | refine wpPre_off rfl rfl rfl (by first | (simp only [f1, f2, f3]; done) | fail) (by exact sdI) ?_ | (refine wpSuf_cons rfl rfl ?_; refine wpO_ld rfl rfl rfl (by (try dsimp only); (try simp only [f1, f2, f3]); exact rfl) ?_) | (refine wpSuf_cons rfl rfl ?_; refine wpO_st rfl rfl rfl (by (try dsimp only); (try simp only [f1, f2, f3]); exact rfl) ?_) | (refine wpSuf_on rfl rfl rfl (by first | (simp only [f1, f2, f3]; done) | fail) (by exact sdI) ?_; refine wpO_ld rfl rfl rfl (by (try dsimp only); (try simp only [f1, f2, f3]); exact rfl) ?_) | (refine wpSuf_on rfl rfl rfl (by first | (simp only [f1, f2, f3]; done) | fail) (by exact sdI) ?_; refine wpO_st rfl rfl rfl (by (try dsimp only); (try simp only [f1, f2, f3]); exact rfl) ?_) | (refine wpPre_cons rfl rfl ?_; refine wpE_ld rfl rfl rfl (by (try dsimp only); (try simp only [f1, f2, f3]); exact rfl) ?_) | (refine wpPre_on rfl rfl rfl (by first | (simp only [f1, f2, f3]; done) | fail) (by exact sdI) ?_; refine wpE_ld rfl rfl rfl (by (try dsimp only); (try simp only [f1, f2, f3]); exact rfl) ?_))
  repeat (first | (refine wpSuf_cons rfl rfl ?_; refine wpO_det (fun _ _ => rfl) ?_) | (refine wpPre_cons rfl rfl ?_; refine wpE_det (fun _ _ => rfl) ?_))
  try (refine wpPre_nil ?_; repeat (first | (refine wpSuf_cons rfl rfl ?_; refine wpO_det (fun _ _ => rfl) ?_) | (refine wpPre_cons rfl rfl ?_; refine wpE_det (fun _ _ => rfl) ?_)))
  first | refine wpSuf_nil (And.intro (by exact sdI) ?_) | (refine wpSuf_cons rfl rfl ?_; refine wpO_call (fun _ _ => rfl) (by exact sdI) ?_) | (refine wpPre_cons rfl rfl ?_; refine wpE_call (fun _ _ => rfl) (by exact sdI) ?_) | skip
  refine dsI ?_
  try simp only [f1, f2, f3]
  repeat (first | (refine wpSuf_cons rfl rfl ?_; refine wpO_det (fun _ _ => rfl) ?_) | (refine wpPre_cons rfl rfl ?_; refine wpE_det (fun _ _ => rfl) ?_) | refine wpSuf_on rfl rfl rfl (by first | (simp only [f1, f2, f3]; done) | fail) (by exact sdI) (wpO_det (fun _ _ => rfl) ?_) | refine wpSuf_off rfl rfl rfl (by first | (simp only [f1, f2, f3]; done) | fail) (by exact sdI) ?_ | refine wpPre_on rfl rfl rfl (by first | (simp only [f1, f2, f3]; done) | fail) (by exact sdI) (wpE_det (fun _ _ => rfl) ?_) | refine wpPre_off rfl rfl rfl (by first | (simp only [f1, f2, f3]; done) | fail) (by exact sdI) ?_ | (refine wpSuf_cons rfl rfl ?_; refine wpO_ld rfl rfl rfl (by (try dsimp only); (try simp only [f1, f2, f3]); exact rfl) ?_) | (refine wpSuf_cons rfl rfl ?_; refine wpO_st rfl rfl rfl (by (try dsimp only); (try simp only [f1, f2, f3]); exact rfl) ?_) | (refine wpSuf_on rfl rfl rfl (by first | (simp only [f1, f2, f3]; done) | fail) (by exact sdI) ?_; refine wpO_ld rfl rfl rfl (by (try dsimp only); (try simp only [f1, f2, f3]); exact rfl) ?_) | (refine wpSuf_on rfl rfl rfl (by first | (simp only [f1, f2, f3]; done) | fail) (by exact sdI) ?_; refine wpO_st rfl rfl rfl (by (try dsimp only); (try simp only [f1, f2, f3]); exact rfl) ?_) | (refine wpPre_cons rfl rfl ?_; refine wpE_ld rfl rfl rfl (by (try dsimp only); (try simp only [f1, f2, f3]); exact rfl) ?_) | (refine wpPre_on rfl rfl rfl (by first | (simp only [f1, f2, f3]; done) | fail) (by exact sdI) ?_; refine wpE_ld rfl rfl rfl (by (try dsimp only); (try simp only [f1, f2, f3]); exact rfl) ?_))
  repeat (first | (refine wpSuf_cons rfl rfl ?_; refine wpO_det (fun _ _ => rfl) ?_) | (refine wpPre_cons rfl rfl ?_; refine wpE_det (fun _ _ => rfl) ?_))
  try (refine wpPre_nil ?_; repeat (first | (refine wpSuf_cons rfl rfl ?_; refine wpO_det (fun _ _ => rfl) ?_) | (refine wpPre_cons rfl rfl ?_; refine wpE_det (fun _ _ => rfl) ?_)))
  first | refine wpSuf_nil (And.intro (by exact sdI) ?_) | (refine wpSuf_cons rfl rfl ?_; refine wpO_call (fun _ _ => rfl) (by exact sdI) ?_) | (refine wpPre_cons rfl rfl ?_; refine wpE_call (fun _ _ => rfl) (by exact sdI) ?_) | skip
  refine dsI ?_
  try simp only [f1, f2, f3]
  repeat (first | (refine wpSuf_cons rfl rfl ?_; refine wpO_det (fun _ _ => rfl) ?_) | (refine wpPre_cons rfl rfl ?_; refine wpE_det (fun _ _ => rfl) ?_) | refine wpSuf_on rfl rfl rfl (by first | (simp only [f1, f2, f3]; done) | fail) (by exact sdI) (wpO_det (fun _ _ => rfl) ?_) | refine wpSuf_off rfl rfl rfl (by first | (simp only [f1, f2, f3]; done) | fail) (by exact sdI) ?_ | refine wpPre_on rfl rfl rfl (by first | (simp only [f1, f2, f3]; done) | fail) (by exact sdI) (wpE_det (fun _ _ => rfl) ?_) | refine wpPre_off rfl rfl rfl (by first | (simp only [f1, f2, f3]; done) | fail) (by exact sdI) ?_ | (refine wpSuf_cons rfl rfl ?_; refine wpO_ld rfl rfl rfl (by (try dsimp only); (try simp only [f1, f2, f3]); exact rfl) ?_) | (refine wpSuf_cons rfl rfl ?_; refine wpO_st rfl rfl rfl (by (try dsimp only); (try simp only [f1, f2, f3]); exact rfl) ?_) | (refine wpSuf_on rfl rfl rfl (by first | (simp only [f1, f2, f3]; done) | fail) (by exact sdI) ?_; refine wpO_ld rfl rfl rfl (by (try dsimp only); (try simp only [f1, f2, f3]); exact rfl) ?_) | (refine wpSuf_on rfl rfl rfl (by first | (simp only [f1, f2, f3]; done) | fail) (by exact sdI) ?_; refine wpO_st rfl rfl rfl (by (try dsimp only); (try simp only [f1, f2, f3]); exact rfl) ?_) | (refine wpPre_cons rfl rfl ?_; refine wpE_ld rfl rfl rfl (by (try dsimp only); (try simp only [f1, f2, f3]); exact rfl) ?_) | (refine wpPre_on rfl rfl rfl (by first | (simp only [f1, f2, f3]; done) | fail) (by exact sdI) ?_; refine wpE_ld rfl rfl rfl (by (try dsimp only); (try simp only [f1, f2, f3]); exact rfl) ?_))
  repeat (first | (refine wpSuf_cons rfl rfl ?_; refine wpO_det (fun _ _ => rfl) ?_) | (refine wpPre_cons rfl rfl ?_; refine wpE_det (fun _ _ => rfl) ?_))
  try (refine wpPre_nil ?_; repeat (first | (refine wpSuf_cons rfl rfl ?_; refine wpO_det (fun _ _ => rfl) ?_) | (refine wpPre_cons rfl rfl ?_; refine wpE_det (fun _ _ => rfl) ?_)))
  first | refine wpSuf_nil (And.intro (by exact sdI) ?_) | (refine wpSuf_cons rfl rfl ?_; refine wpO_call (fun _ _ => rfl) (by exact sdI) ?_) | (refine wpPre_cons rfl rfl ?_; refine wpE_call (fun _ _ => rfl) (by exact sdI) ?_) | skip
  refine dsI ?_
  try simp only [f1, f2, f3]
  repeat (first | (refine wpSuf_cons rfl rfl ?_; refine wpO_det (fun _ _ => rfl) ?_) | (refine wpPre_cons rfl rfl ?_; refine wpE_det (fun _ _ => rfl) ?_) | refine wpSuf_on rfl rfl rfl (by first | (simp only [f1, f2, f3]; done) | fail) (by exact sdI) (wpO_det (fun _ _ => rfl) ?_) | refine wpSuf_off rfl rfl rfl (by first | (simp only [f1, f2, f3]; done) | fail) (by exact sdI) ?_ | refine wpPre_on rfl rfl rfl (by first | (simp only [f1, f2, f3]; done) | fail) (by exact sdI) (wpE_det (fun _ _ => rfl) ?_) | refine wpPre_off rfl rfl rfl (by first | (simp only [f1, f2, f3]; done) | fail) (by exact sdI) ?_ | (refine wpSuf_cons rfl rfl ?_; refine wpO_ld rfl rfl rfl (by (try dsimp only); (try simp only [f1, f2, f3]); exact rfl) ?_) | (refine wpSuf_cons rfl rfl ?_; refine wpO_st rfl rfl rfl (by (try dsimp only); (try simp only [f1, f2, f3]); exact rfl) ?_) | (refine wpSuf_on rfl rfl rfl (by first | (simp only [f1, f2, f3]; done) | fail) (by exact sdI) ?_; refine wpO_ld rfl rfl rfl (by (try dsimp only); (try simp only [f1, f2, f3]); exact rfl) ?_) | (refine wpSuf_on rfl rfl rfl (by first | (simp only [f1, f2, f3]; done) | fail) (by exact sdI) ?_; refine wpO_st rfl rfl rfl (by (try dsimp only); (try simp only [f1, f2, f3]); exact rfl) ?_) | (refine wpPre_cons rfl rfl ?_; refine wpE_ld rfl rfl rfl (by (try dsimp only); (try simp only [f1, f2, f3]); exact rfl) ?_) | (refine wpPre_on rfl rfl rfl (by first | (simp only [f1, f2, f3]; done) | fail) (by exact sdI) ?_; refine wpE_ld rfl rfl rfl (by (try dsimp only); (try simp only [f1, f2, f3]); exact rfl) ?_))
  repeat (first | (refine wpSuf_cons rfl rfl ?_; refine wpO_det (fun _ _ => rfl) ?_) | (refine wpPre_cons rfl rfl ?_; refine wpE_det (fun _ _ => rfl) ?_))
  try (refine wpPre_nil ?_; repeat (first | (refine wpSuf_cons rfl rfl ?_; refine wpO_det (fun _ _ => rfl) ?_) | (refine wpPre_cons rfl rfl ?_; refine wpE_det (fun _ _ => rfl) ?_)))
  first | refine wpSuf_nil (And.intro (by exact sdI) ?_) | (refine wpSuf_cons rfl rfl ?_; refine wpO_call (fun _ _ => rfl) (by exact sdI) ?_) | (refine wpPre_cons rfl rfl ?_; refine wpE_call (fun _ _ => rfl) (by exact sdI) ?_) | skip
  refine dsI ?_
  try simp only [f1, f2, f3]
  repeat (first | (refine wpSuf_cons rfl rfl ?_; refine wpO_det (fun _ _ => rfl) ?_) | (refine wpPre_cons rfl rfl ?_; refine wpE_det (fun _ _ => rfl) ?_) | refine wpSuf_on rfl rfl rfl (by first | (simp only [f1, f2, f3]; done) | fail) (by exact sdI) (wpO_det (fun _ _ => rfl) ?_) | refine wpSuf_off rfl rfl rfl (by first | (simp only [f1, f2, f3]; done) | fail) (by exact sdI) ?_ | refine wpPre_on rfl rfl rfl (by first | (simp only [f1, f2, f3]; done) | fail) (by exact sdI) (wpE_det (fun _ _ => rfl) ?_) | refine wpPre_off rfl rfl rfl (by first | (simp only [f1, f2, f3]; done) | fail) (by exact sdI) ?_ | (refine wpSuf_cons rfl rfl ?_; refine wpO_ld rfl rfl rfl (by (try dsimp only); (try simp only [f1, f2, f3]); exact rfl) ?_) | (refine wpSuf_cons rfl rfl ?_; refine wpO_st rfl rfl rfl (by (try dsimp only); (try simp only [f1, f2, f3]); exact rfl) ?_) | (refine wpSuf_on rfl rfl rfl (by first | (simp only [f1, f2, f3]; done) | fail) (by exact sdI) ?_; refine wpO_ld rfl rfl rfl (by (try dsimp only); (try simp only [f1, f2, f3]); exact rfl) ?_) | (refine wpSuf_on rfl rfl rfl (by first | (simp only [f1, f2, f3]; done) | fail) (by exact sdI) ?_; refine wpO_st rfl rfl rfl (by (try dsimp only); (try simp only [f1, f2, f3]); exact rfl) ?_) | (refine wpPre_cons rfl rfl ?_; refine wpE_ld rfl rfl rfl (by (try dsimp only); (try simp only [f1, f2, f3]); exact rfl) ?_) | (refine wpPre_on rfl rfl rfl (by first | (simp only [f1, f2, f3]; done) | fail) (by exact sdI) ?_; refine wpE_ld rfl rfl rfl (by (try dsimp only); (try simp only [f1, f2, f3]); exact rfl) ?_))
  repeat (first | (refine wpSuf_cons rfl rfl ?_; refine wpO_det (fun _ _ => rfl) ?_) | (refine wpPre_cons rfl rfl ?_; refine wpE_det (fun _ _ => rfl) ?_))
  try (refine wpPre_nil ?_; repeat (first | (refine wpSuf_cons rfl rfl ?_; refine wpO_det (fun _ _ => rfl) ?_) | (refine wpPre_cons rfl rfl ?_; refine wpE_det (fun _ _ => rfl) ?_)))
  first | refine wpSuf_nil (And.intro (by exact sdI) ?_) | (refine wpSuf_cons rfl rfl ?_; refine wpO_call (fun _ _ => rfl) (by exact sdI) ?_) | (refine wpPre_cons rfl rfl ?_; refine wpE_call (fun _ _ => rfl) (by exact sdI) ?_) | skip
  refine dsI ?_
  try simp only [f1, f2, f3]
  first | (refine wpSuf_on rfl rfl rfl (by first | (simp only [f1, f2, f3]; done) | fail) (by exact sdI) ?_; refine wpO_call (fun _ _ => rfl) trivial ?_) | (refine wpPre_on rfl rfl rfl (by first | (simp only [f1, f2, f3]; done) | fail) (by exact sdI) ?_; refine wpE_call (fun _ _ => rfl) trivial ?_)
  refine dsI ?_
  refine CallO.same _ (same_ok qs hl) inferInstance ?_
  refine stI ?_
  repeat (first | (refine wpSuf_cons rfl rfl ?_; refine wpO_det (fun _ _ => rfl) ?_) | (refine wpPre_cons rfl rfl ?_; refine wpE_det (fun _ _ => rfl) ?_) | refine wpSuf_on rfl rfl rfl (by first | (simp only [f1, f2, f3]; done) | fail) (by exact sdI) (wpO_det (fun _ _ => rfl) ?_) | refine wpSuf_off rfl rfl rfl (by first | (simp only [f1, f2, f3]; done) | fail) (by exact sdI) ?_ | refine wpPre_on rfl rfl rfl (by first | (simp only [f1, f2, f3]; done) | fail) (by exact sdI) (wpE_det (fun _ _ => rfl) ?_) | refine wpPre_off rfl rfl rfl (by first | (simp only [f1, f2, f3]; done) | fail) (by exact sdI) ?_ | (refine wpSuf_cons rfl rfl ?_; refine wpO_ld rfl rfl rfl (by (try dsimp only); (try simp only [f1, f2, f3]); exact rfl) ?_) | (refine wpSuf_cons rfl rfl ?_; refine wpO_st rfl rfl rfl (by (try dsimp only); (try simp only [f1, f2, f3]); exact rfl) ?_) | (refine wpSuf_on rfl rfl rfl (by first | (simp only [f1, f2, f3]; done) | fail) (by exact sdI) ?_; refine wpO_ld rfl rfl rfl (by (try dsimp only); (try simp only [f1, f2, f3]); exact rfl) ?_) | (refine wpSuf_on rfl rfl rfl (by first | (simp only [f1, f2, f3]; done) | fail) (by exact sdI) ?_; refine wpO_st rfl rfl rfl (by (try dsimp only); (try simp only [f1, f2, f3]); exact rfl) ?_) | (refine wpPre_cons rfl rfl ?_; refine wpE_ld rfl rfl rfl (by (try dsimp only); (try simp only [f1, f2, f3]); exact rfl) ?_) | (refine wpPre_on rfl rfl rfl (by first | (simp only [f1, f2, f3]; done) | fail) (by exact sdI) ?_; refine wpE_ld rfl rfl rfl (by (try dsimp only); (try simp only [f1, f2, f3]); exact rfl) ?_))
  repeat (first | (refine wpSuf_cons rfl rfl ?_; refine wpO_det (fun _ _ => rfl) ?_) | (refine wpPre_cons rfl rfl ?_; refine wpE_det (fun _ _ => rfl) ?_))
  try (refine wpPre_nil ?_; repeat (first | (refine wpSuf_cons rfl rfl ?_; refine wpO_det (fun _ _ => rfl) ?_) | (refine wpPre_cons rfl rfl ?_; refine wpE_det (fun _ _ => rfl) ?_)))
  first | refine wpSuf_nil (And.intro (by exact sdI) ?_) | (refine wpSuf_cons rfl rfl ?_; refine wpO_call (fun _ _ => rfl) (by exact sdI) ?_) | (refine wpPre_cons rfl rfl ?_; refine wpE_call (fun _ _ => rfl) (by exact sdI) ?_) | skip
  refine dsI ?_
  try simp only [f1, f2, f3]
  repeat (first | (refine wpSuf_cons rfl rfl ?_; refine wpO_det (fun _ _ => rfl) ?_) | (refine wpPre_cons rfl rfl ?_; refine wpE_det (fun _ _ => rfl) ?_) | refine wpSuf_on rfl rfl rfl (by first | (simp only [f1, f2, f3]; done) | fail) (by exact sdI) (wpO_det (fun _ _ => rfl) ?_) | refine wpSuf_off rfl rfl rfl (by first | (simp only [f1, f2, f3]; done) | fail) (by exact sdI) ?_ | refine wpPre_on rfl rfl rfl (by first | (simp only [f1, f2, f3]; done) | fail) (by exact sdI) (wpE_det (fun _ _ => rfl) ?_) | refine wpPre_off rfl rfl rfl (by first | (simp only [f1, f2, f3]; done) | fail) (by exact sdI) ?_ | (refine wpSuf_cons rfl rfl ?_; refine wpO_ld rfl rfl rfl (by (try dsimp only); (try simp only [f1, f2, f3]); exact rfl) ?_) | (refine wpSuf_cons rfl rfl ?_; refine wpO_st rfl rfl rfl (by (try dsimp only); (try simp only [f1, f2, f3]); exact rfl) ?_) | (refine wpSuf_on rfl rfl rfl (by first | (simp only [f1, f2, f3]; done) | fail) (by exact sdI) ?_; refine wpO_ld rfl rfl rfl (by (try dsimp only); (try simp only [f1, f2, f3]); exact rfl) ?_) | (refine wpSuf_on rfl rfl rfl (by first | (simp only [f1, f2, f3]; done) | fail) (by exact sdI) ?_; refine wpO_st rfl rfl rfl (by (try dsimp only); (try simp only [f1, f2, f3]); exact rfl) ?_) | (refine wpPre_cons rfl rfl ?_; refine wpE_ld rfl rfl rfl (by (try dsimp only); (try simp only [f1, f2, f3]); exact rfl) ?_) | (refine wpPre_on rfl rfl rfl (by first | (simp only [f1, f2, f3]; done) | fail) (by exact sdI) ?_; refine wpE_ld rfl rfl rfl (by (try dsimp only); (try simp only [f1, f2, f3]); exact rfl) ?_))
  repeat (first | (refine wpSuf_cons rfl rfl ?_; refine wpO_det (fun _ _ => rfl) ?_) | (refine wpPre_cons rfl rfl ?_; refine wpE_det (fun _ _ => rfl) ?_))
  try (refine wpPre_nil ?_; repeat (first | (refine wpSuf_cons rfl rfl ?_; refine wpO_det (fun _ _ => rfl) ?_) | (refine wpPre_cons rfl rfl ?_; refine wpE_det (fun _ _ => rfl) ?_)))
  first | refine wpSuf_nil (And.intro (by exact sdI) ?_) | (refine wpSuf_cons rfl rfl ?_; refine wpO_call (fun _ _ => rfl) (by exact sdI) ?_) | (refine wpPre_cons rfl rfl ?_; refine wpE_call (fun _ _ => rfl) (by exact sdI) ?_) | skip
  refine dsI ?_
  try simp only [f1, f2, f3]
  first | (refine wpSuf_on rfl rfl rfl (by first | (simp only [f1, f2, f3]; done) | fail) (by exact sdI) ?_; refine wpO_call (fun _ _ => rfl) trivial ?_) | (refine wpPre_on rfl rfl rfl (by first | (simp only [f1, f2, f3]; done) | fail) (by exact sdI) ?_; refine wpE_call (fun _ _ => rfl) trivial ?_)
  refine dsI ?_
  refine CallO.same _ (aw) inferInstance ?_
  refine stI ?_
  repeat (first | (refine wpSuf_cons rfl rfl ?_; refine wpO_det (fun _ _ => rfl) ?_) | (refine wpPre_cons rfl rfl ?_; refine wpE_det (fun _ _ => rfl) ?_) | refine wpSuf_on rfl rfl rfl (by first | (simp only [f1, f2, f3]; done) | fail) (by exact sdI) (wpO_det (fun _ _ => rfl) ?_) | refine wpSuf_off rfl rfl rfl (by first | (simp only [f1, f2, f3]; done) | fail) (by exact sdI) ?_ | refine wpPre_on rfl rfl rfl (by first | (simp only [f1, f2, f3]; done) | fail) (by exact sdI) (wpE_det (fun _ _ => rfl) ?_) | refine wpPre_off rfl rfl rfl (by first | (simp only [f1, f2, f3]; done) | fail) (by exact sdI) ?_ | (refine wpSuf_cons rfl rfl ?_; refine wpO_ld rfl rfl rfl (by (try dsimp only); (try simp only [f1, f2, f3]); exact rfl) ?_) | (refine wpSuf_cons rfl rfl ?_; refine wpO_st rfl rfl rfl (by (try dsimp only); (try simp only [f1, f2, f3]); exact rfl) ?_) | (refine wpSuf_on rfl rfl rfl (by first | (simp only [f1, f2, f3]; done) | fail) (by exact sdI) ?_; refine wpO_ld rfl rfl rfl (by (try dsimp only); (try simp only [f1, f2, f3]); exact rfl) ?_) | (refine wpSuf_on rfl rfl rfl (by first | (simp only [f1, f2, f3]; done) | fail) (by exact sdI) ?_; refine wpO_st rfl rfl rfl (by (try dsimp only); (try simp only [f1, f2, f3]); exact rfl) ?_) | (refine wpPre_cons rfl rfl ?_; refine wpE_ld rfl rfl rfl (by (try dsimp only); (try simp only [f1, f2, f3]); exact rfl) ?_) | (refine wpPre_on rfl rfl rfl (by first | (simp only [f1, f2, f3]; done) | fail) (by exact sdI) ?_; refine wpE_ld rfl rfl rfl (by (try dsimp only); (try simp only [f1, f2, f3]); exact rfl) ?_))
  repeat (first | (refine wpSuf_cons rfl rfl ?_; refine wpO_det (fun _ _ => rfl) ?_) | (refine wpPre_cons rfl rfl ?_; refine wpE_det (fun _ _ => rfl) ?_))
  try (refine wpPre_nil ?_; repeat (first | (refine wpSuf_cons rfl rfl ?_; refine wpO_det (fun _ _ => rfl) ?_) | (refine wpPre_cons rfl rfl ?_; refine wpE_det (fun _ _ => rfl) ?_)))
  first | refine wpSuf_nil (And.intro (by exact sdI) ?_) | (refine wpSuf_cons rfl rfl ?_; refine wpO_call (fun _ _ => rfl) (by exact sdI) ?_) | (refine wpPre_cons rfl rfl ?_; refine wpE_call (fun _ _ => rfl) (by exact sdI) ?_) | skip
  refine dsI ?_
  try simp only [f1, f2, f3]
  refine OkS.ret ?_
  refine And.intro (by exact sdI) ?_
  refine dsI ?_
  exact exact_res rfl IsPure.out
end
theorem gp_ok (aw : ICalls C0 9 [] (boo true)) (mass : Int) (s : ByteArray) (n L W : Int) : ICalls C0 3 [i64 mass, str s, .agg [i64 n, i64 L, i64 W]] (boo true) := by
  rcases kd_of s with ⟨k, hk⟩ | hk
  · have c1 := pat_ok k s hk n L W
    have c2 := rpat_ok k s hk n L W
    cases hb : badP k.lo k.most n L W with
    | true =>
      rw [hb] at c1 c2
      exact gp_core mass s n L W [] 3 (by decide) aw c1 c2
    | false =>
      rw [hb] at c1 c2
      refine gp_core mass s n L W (k.qs n.toNat L.toNat W.toNat) 0 ?_ aw c1 c2
      obtain ⟨m, l, w, rfl, rfl, rfl, h1, h2, h3, h4⟩ := notBad hb
      simp only [Int.toNat_natCast]
      cases k with
      | line => dsimp only [Kd.most] at h2; show (qLine m l w m).length ≤ 5000; rw [qLine_len]; omega
      | zig => dsimp only [Kd.most] at h2; show (qZig m l w m).length ≤ 5000; rw [qZig_len]; omega
      | grid =>
        dsimp only [Kd.most] at h2
        show (qGrid m l w m).length ≤ 5000
        rw [qGrid_len]
        have : m * m ≤ 64 * 64 := Nat.mul_le_mul (by omega) (by omega)
        omega
      | quin => exact (show (qFive l w).length ≤ 5000 from by simp [qFive])
  · exact gp_core mass s n L W [] 20 (by decide) aw (pat_none s hk n L W) (rpat_none s hk n L W)
end Go.Ide

/- The Grade laws, part T: sorting at most twelve fractions by insertion. -/
namespace Go.Ide
open Go.Proofs Go.RowKit
set_option maxRecDepth 20000
set_option linter.unusedSimpArgs false
/-- an element sinks to its place -/
def sink (c : D → D → Int) : Nat → List D → List D
  | 0, l => l
  | j + 1, l => match l[j + 1]? with
    | some x => match l[j]? with
      | some y => if c x y < 0 then sink c j ((l.set (j + 1) y).set j x) else l
      | none => l
    | none => l
def insN (c : D → D → Int) (l : List D) (k : Nat) : List D := (List.range k).foldl (fun l i => sink c (i + 1) l) l
theorem insN_succ (c : D → D → Int) (l : List D) (k : Nat) : insN c l (k + 1) = sink c (k + 1) (insN c l k) := by simp [insN, List.range_succ]
/-- a fraction: four cells, settled -/
def Fr4 (x : D) : Prop := ∃ a b c d, x = .agg [a, b, c, d] ∧ IsPure a ∧ IsPure b ∧ IsPure c ∧ IsPure d
theorem swap_ok {l m : List D} {j : Nat} {x y : D} (hm : ∀ z ∈ m, z ∈ l) (hx : m[j + 1]? = some x) (hy : m[j]? = some y) : (∀ z ∈ (m.set (j + 1) y).set j x, z ∈ l) ∧ ((m.set (j + 1) y).set j x).length = m.length := by
  refine ⟨fun z hz => ?_, by simp⟩
  rcases List.mem_or_eq_of_mem_set hz with h | rfl
  · rcases List.mem_or_eq_of_mem_set h with h | rfl
    · exact hm z h
    · exact hm _ (List.mem_of_getElem? hy)
  · exact hm _ (List.mem_of_getElem? hx)
theorem sink_mem (c : D → D → Int) {l : List D} : ∀ (j : Nat) (m : List D), (∀ z ∈ m, z ∈ l) → (∀ z ∈ sink c j m, z ∈ l) ∧ (sink c j m).length = m.length
  | 0, m, h => ⟨h, rfl⟩
  | j + 1, m, h => by
    unfold sink
    split
    · rename_i x hx
      split
      · rename_i y hy
        split
        · obtain ⟨h1, h2⟩ := swap_ok h hx hy
          obtain ⟨h3, h4⟩ := sink_mem c j _ h1
          exact ⟨h3, h4.trans h2⟩
        · exact ⟨h, rfl⟩
      · exact ⟨h, rfl⟩
    · exact ⟨h, rfl⟩
theorem insN_mem (c : D → D → Int) (l : List D) : ∀ k : Nat, (∀ z ∈ insN c l k, z ∈ l) ∧ (insN c l k).length = l.length
  | 0 => ⟨fun _ h => h, rfl⟩
  | k + 1 => by
    obtain ⟨h1, h2⟩ := insN_mem c l k
    obtain ⟨h3, h4⟩ := sink_mem c (k + 1) _ h1
    rw [insN_succ]
    exact ⟨h3, h4.trans h2⟩
theorem arep2 {x y : D} (hx : Fr4 x) (hy : Fr4 y) : ArePure [x, y] := by
  obtain ⟨a, b, c, d, rfl, h1, h2, h3, h4⟩ := hx
  obtain ⟨a', b', c', d', rfl, h1', h2', h3', h4'⟩ := hy
  exact inferInstance
abbrev cmpD : D := .clo (.func 141) [] []
theorem isort_ok (c : D → D → Int) (l : List D) (N : Nat) (hN : l.length = N) (hl : N ≤ 12) (h4 : ∀ x ∈ l, Fr4 x) (hc : ∀ x ∈ l, ∀ y ∈ l, ICalls C0 141 [x, y] (i64 (c x y))) (g n : Nat) :
    ICallH C0 282 [.osl 303 g 4 0 N, i64 0, i64 N, cmpD] [⟨303, g, 114, 4, l⟩] n (fun d H' _ => d = .tup [] ∧ H' = [⟨303, g, 114, 4, insN c l (N - 1)⟩]) := by
  refine ICallH.walk w1 fok282 rfl fun F => ?_
  refine OkS.seq ?_
  refine OkS.reg w1 0 (by kernel_rfl) ?_
  refine stI ?_
  refine OkS.block ?_
  refine OkS.loop (α := Nat × Nat) (fun p => ⟨[(0, .osl 303 g 4 0 N), (1, i64 0), (2, i64 N), (3, cmpD), (8, i64 p.1)], [⟨303, g, 114, 4, insN c l (p.1 - 1)⟩], p.2⟩) (fun p => N - p.1)
    (fun p => 1 ≤ p.1 ∧ (p.1 ≤ N ∨ p.1 = 1)) (1, _) ⟨Nat.le_refl _, .inr rfl⟩ wkI ?_
  rintro ⟨i, m⟩ F ⟨h1, h2⟩
  dsimp only at h1 h2 ⊢
  refine OkS.seq ?_
  refine OkS.seq ?_
  refine OkS.reg w1 100 (by kernel_rfl) ?_
  refine stI ?_
  refine OkS.cond ?_
  refine dsI ?_
  (refine brI (fun h14 => ?_) (fun h14 => ?_)) <;> (try simp only [Bool.not_eq_true', Bool.not_eq_false'] at h14) <;> (try simp only [h14])
  · have hi : i < N := by simpa using h14
    obtain ⟨e1, e2⟩ := insN_mem c l (i - 1)
    have ei : insN c l i = sink c i (insN c l (i - 1)) := by
      obtain ⟨k, rfl⟩ : ∃ k, i = k + 1 := ⟨i - 1, by omega⟩
      exact insN_succ c l k
    generalize insN c l (i - 1) = es at *
    have wi : IntKind.i64.wrap ((i : Int) + 1) = ((i + 1 : Nat) : Int) := wI (by omega) (by omega)
    refine OkS.skip ?_
    refine dsI ?_
    refine OkS.seq ?_
    refine OkS.block ?_
    refine OkS.seq ?_
    refine OkS.reg w1 300 (by kernel_rfl) ?_
    refine stI ?_
    refine OkS.block ?_
    refine OkS.loop (α := Nat × List D × Nat) (fun p => ⟨[(0, .osl 303 g 4 0 N), (1, i64 0), (2, i64 N), (3, cmpD), (8, i64 i), (9, i64 p.1)], [⟨303, g, 114, 4, p.2.1⟩], p.2.2⟩) (fun p => p.1)
      (fun p => p.1 ≤ i ∧ (∀ z ∈ p.2.1, z ∈ l) ∧ p.2.1.length = N ∧ sink c p.1 p.2.1 = insN c l i) (i, es, _) ⟨Nat.le_refl _, e1, e2.trans hN, ei.symm⟩ wkI ?_
    rintro ⟨j, em, k⟩ F ⟨g1, g2, g3, g4⟩
    dsimp only at g1 g2 g3 g4 ⊢
    refine OkS.seq ?_
    refine OkS.seq ?_
    rcases j with _ | j
    · have z0 : decide (((0 : Nat) : Int) > 0) = false := rfl
      refine OkS.regD w1 400 [0, 1, 2, 3, 4, 5, 6, 7, 8, 9, 10, 11, 12, 13] [14, 15, 16] (by kernel_rfl) ?_
      repeat (first | (refine wpSuf_cons rfl rfl ?_; refine wpO_det (fun _ _ => rfl) ?_) | (refine wpPre_cons rfl rfl ?_; refine wpE_det (fun _ _ => rfl) ?_) | refine wpSuf_on rfl rfl rfl (by first | (simp only [z0]; done) | fail) (by exact sdI) (wpO_det (fun _ _ => rfl) ?_) | refine wpSuf_off rfl rfl rfl (by first | (simp only [z0]; done) | fail) (by exact sdI) ?_ | refine wpPre_on rfl rfl rfl (by first | (simp only [z0]; done) | fail) (by exact sdI) (wpE_det (fun _ _ => rfl) ?_) | refine wpPre_off rfl rfl rfl (by first | (simp only [z0]; done) | fail) (by exact sdI) ?_ | (refine wpSuf_cons rfl rfl ?_; refine wpO_ld rfl rfl rfl (by (try dsimp only); (try simp only [z0]); exact rfl) ?_) | (refine wpSuf_cons rfl rfl ?_; refine wpO_st rfl rfl rfl (by (try dsimp only); (try simp only [z0]); exact rfl) ?_) | (refine wpSuf_on rfl rfl rfl (by first | (simp only [z0]; done) | fail) (by exact sdI) ?_; refine wpO_ld rfl rfl rfl (by (try dsimp only); (try simp only [z0]); exact rfl) ?_) | (refine wpSuf_on rfl rfl rfl (by first | (simp only [z0]; done) | fail) (by exact sdI) ?_; refine wpO_st rfl rfl rfl (by (try dsimp only); (try simp only [z0]); exact rfl) ?_) | (refine wpPre_cons rfl rfl ?_; refine wpE_ld rfl rfl rfl (by (try dsimp only); (try simp only [z0]); exact rfl) ?_) | (refine wpPre_on rfl rfl rfl (by first | (simp only [z0]; done) | fail) (by exact sdI) ?_; refine wpE_ld rfl rfl rfl (by (try dsimp only); (try simp only [z0]); exact rfl) ?_))
      repeat (first | (refine wpSuf_cons rfl rfl ?_; refine wpO_det (fun _ _ => rfl) ?_) | (refine wpPre_cons rfl rfl ?_; refine wpE_det (fun _ _ => rfl) ?_))
      try (refine wpPre_nil ?_; repeat (first | (refine wpSuf_cons rfl rfl ?_; refine wpO_det (fun _ _ => rfl) ?_) | (refine wpPre_cons rfl rfl ?_; refine wpE_det (fun _ _ => rfl) ?_)))
      first | refine wpSuf_nil (And.intro (by exact sdI) ?_) | (refine wpSuf_cons rfl rfl ?_; refine wpO_call (fun _ _ => rfl) (by exact sdI) ?_) | (refine wpPre_cons rfl rfl ?_; refine wpE_call (fun _ _ => rfl) (by exact sdI) ?_) | skip
      refine dsI ?_
      try simp only [z0]
      repeat (first | (refine wpSuf_cons rfl rfl ?_; refine wpO_det (fun _ _ => rfl) ?_) | (refine wpPre_cons rfl rfl ?_; refine wpE_det (fun _ _ => rfl) ?_) | refine wpSuf_on rfl rfl rfl (by first | (simp only [z0]; done) | fail) (by exact sdI) (wpO_det (fun _ _ => rfl) ?_) | refine wpSuf_off rfl rfl rfl (by first | (simp only [z0]; done) | fail) (by exact sdI) ?_ | refine wpPre_on rfl rfl rfl (by first | (simp only [z0]; done) | fail) (by exact sdI) (wpE_det (fun _ _ => rfl) ?_) | refine wpPre_off rfl rfl rfl (by first | (simp only [z0]; done) | fail) (by exact sdI) ?_ | (refine wpSuf_cons rfl rfl ?_; refine wpO_ld rfl rfl rfl (by (try dsimp only); (try simp only [z0]); exact rfl) ?_) | (refine wpSuf_cons rfl rfl ?_; refine wpO_st rfl rfl rfl (by (try dsimp only); (try simp only [z0]); exact rfl) ?_) | (refine wpSuf_on rfl rfl rfl (by first | (simp only [z0]; done) | fail) (by exact sdI) ?_; refine wpO_ld rfl rfl rfl (by (try dsimp only); (try simp only [z0]); exact rfl) ?_) | (refine wpSuf_on rfl rfl rfl (by first | (simp only [z0]; done) | fail) (by exact sdI) ?_; refine wpO_st rfl rfl rfl (by (try dsimp only); (try simp only [z0]); exact rfl) ?_) | (refine wpPre_cons rfl rfl ?_; refine wpE_ld rfl rfl rfl (by (try dsimp only); (try simp only [z0]); exact rfl) ?_) | (refine wpPre_on rfl rfl rfl (by first | (simp only [z0]; done) | fail) (by exact sdI) ?_; refine wpE_ld rfl rfl rfl (by (try dsimp only); (try simp only [z0]); exact rfl) ?_))
      repeat (first | (refine wpSuf_cons rfl rfl ?_; refine wpO_det (fun _ _ => rfl) ?_) | (refine wpPre_cons rfl rfl ?_; refine wpE_det (fun _ _ => rfl) ?_))
      try (refine wpPre_nil ?_; repeat (first | (refine wpSuf_cons rfl rfl ?_; refine wpO_det (fun _ _ => rfl) ?_) | (refine wpPre_cons rfl rfl ?_; refine wpE_det (fun _ _ => rfl) ?_)))
      first | refine wpSuf_nil (And.intro (by exact sdI) ?_) | (refine wpSuf_cons rfl rfl ?_; refine wpO_call (fun _ _ => rfl) (by exact sdI) ?_) | (refine wpPre_cons rfl rfl ?_; refine wpE_call (fun _ _ => rfl) (by exact sdI) ?_) | skip
      refine dsI ?_
      try simp only [z0]
      refine OkS.cond ?_
      refine dsI ?_
      refine OkS.exit ?_
      refine dsI ?_
      obtain rfl : em = insN c l i := g4
      refine OkS.reg w1 200 (by kernel_rfl) ?_
      repeat (first | (refine wpSuf_cons rfl rfl ?_; refine wpO_det (fun _ _ => rfl) ?_) | (refine wpPre_cons rfl rfl ?_; refine wpE_det (fun _ _ => rfl) ?_))
      try (refine wpPre_nil ?_; repeat (first | (refine wpSuf_cons rfl rfl ?_; refine wpO_det (fun _ _ => rfl) ?_) | (refine wpPre_cons rfl rfl ?_; refine wpE_det (fun _ _ => rfl) ?_)))
      first | refine wpSuf_nil (And.intro (by ((refine dsI ?_); (try simp only [wi]); all_goals exact sdI)) ?_) | (refine wpSuf_cons rfl rfl ?_; refine wpO_call (fun _ _ => rfl) (by ((refine dsI ?_); (try simp only [wi]); all_goals exact sdI)) ?_) | (refine wpPre_cons rfl rfl ?_; refine wpE_call (fun _ _ => rfl) (by ((refine dsI ?_); (try simp only [wi]); all_goals exact sdI)) ?_) | skip
      refine dsI ?_
      try simp only [wi]
      refine ⟨(i + 1, _), ⟨by dsimp only; omega, by dsimp only; omega⟩, by dsimp only; omega, wkI⟩
    · obtain ⟨x, hx⟩ : ∃ x, em[j + 1]? = some x := ⟨em[j + 1], List.getElem?_eq_getElem (by omega)⟩
      obtain ⟨y, hy⟩ : ∃ y, em[j]? = some y := ⟨em[j], List.getElem?_eq_getElem (by omega)⟩
      have mx := g2 x (List.mem_of_getElem? hx)
      have my := g2 y (List.mem_of_getElem? hy)
      have ap := arep2 (h4 x mx) (h4 y my)
      have hcc := hc x mx y my
      have g4' : (if c x y < 0 then sink c j ((em.set (j + 1) y).set j x) else em) = insN c l i := by
        rw [← g4, sink, hx, hy]
      obtain ⟨a1, a2, a3, a4, rfl, -⟩ := h4 x mx
      obtain ⟨b1, b2, b3, b4, rfl, -⟩ := h4 y my
      have z1 : decide (((j + 1 : Nat) : Int) > 0) = true := decide_eq_true (by omega)
      have w2 : IntKind.i64.wrap (((j + 1 : Nat) : Int) - 1) = (j : Int) := by rw [wI (by omega) (by omega)]; omega
      refine OkS.regD w1 400 [0, 1, 2, 3, 4, 5, 6, 7, 8, 9, 10, 11, 12, 13] [14, 15, 16] (by kernel_rfl) ?_
      repeat (first | (refine wpSuf_cons rfl rfl ?_; refine wpO_det (fun _ _ => rfl) ?_) | (refine wpPre_cons rfl rfl ?_; refine wpE_det (fun _ _ => rfl) ?_) | refine wpSuf_on rfl rfl rfl (by first | (simp only [z1, w2, Int.toNat_natCast, Nat.zero_add, hx, hy]; done) | fail) (by exact sdI) (wpO_det (fun _ _ => rfl) ?_) | refine wpSuf_off rfl rfl rfl (by first | (simp only [z1, w2, Int.toNat_natCast, Nat.zero_add, hx, hy]; done) | fail) (by exact sdI) ?_ | refine wpPre_on rfl rfl rfl (by first | (simp only [z1, w2, Int.toNat_natCast, Nat.zero_add, hx, hy]; done) | fail) (by exact sdI) (wpE_det (fun _ _ => rfl) ?_) | refine wpPre_off rfl rfl rfl (by first | (simp only [z1, w2, Int.toNat_natCast, Nat.zero_add, hx, hy]; done) | fail) (by exact sdI) ?_ | (refine wpSuf_cons rfl rfl ?_; refine wpO_ld rfl rfl rfl (by (try dsimp only); (try simp only [z1, w2, Int.toNat_natCast, Nat.zero_add, hx, hy]); exact rfl) ?_) | (refine wpSuf_cons rfl rfl ?_; refine wpO_st rfl rfl rfl (by (try dsimp only); (try simp only [z1, w2, Int.toNat_natCast, Nat.zero_add, hx, hy]); exact rfl) ?_) | (refine wpSuf_on rfl rfl rfl (by first | (simp only [z1, w2, Int.toNat_natCast, Nat.zero_add, hx, hy]; done) | fail) (by exact sdI) ?_; refine wpO_ld rfl rfl rfl (by (try dsimp only); (try simp only [z1, w2, Int.toNat_natCast, Nat.zero_add, hx, hy]); exact rfl) ?_) | (refine wpSuf_on rfl rfl rfl (by first | (simp only [z1, w2, Int.toNat_natCast, Nat.zero_add, hx, hy]; done) | fail) (by exact sdI) ?_; refine wpO_st rfl rfl rfl (by (try dsimp only); (try simp only [z1, w2, Int.toNat_natCast, Nat.zero_add, hx, hy]); exact rfl) ?_) | (refine wpPre_cons rfl rfl ?_; refine wpE_ld rfl rfl rfl (by (try dsimp only); (try simp only [z1, w2, Int.toNat_natCast, Nat.zero_add, hx, hy]); exact rfl) ?_) | (refine wpPre_on rfl rfl rfl (by first | (simp only [z1, w2, Int.toNat_natCast, Nat.zero_add, hx, hy]; done) | fail) (by exact sdI) ?_; refine wpE_ld rfl rfl rfl (by (try dsimp only); (try simp only [z1, w2, Int.toNat_natCast, Nat.zero_add, hx, hy]); exact rfl) ?_))
      repeat (first | (refine wpSuf_cons rfl rfl ?_; refine wpO_det (fun _ _ => rfl) ?_) | (refine wpPre_cons rfl rfl ?_; refine wpE_det (fun _ _ => rfl) ?_))
      try (refine wpPre_nil ?_; repeat (first | (refine wpSuf_cons rfl rfl ?_; refine wpO_det (fun _ _ => rfl) ?_) | (refine wpPre_cons rfl rfl ?_; refine wpE_det (fun _ _ => rfl) ?_)))
      first | refine wpSuf_nil (And.intro (by exact sdI) ?_) | (refine wpSuf_cons rfl rfl ?_; refine wpO_call (fun _ _ => rfl) (by exact sdI) ?_) | (refine wpPre_cons rfl rfl ?_; refine wpE_call (fun _ _ => rfl) (by exact sdI) ?_) | skip
      refine dsI ?_
      try simp only [z1, w2, Int.toNat_natCast, Nat.zero_add, hx, hy]
      first | (refine wpSuf_on rfl rfl rfl (by first | (simp only [z1]; done) | fail) (by exact sdI) ?_; refine wpO_call (fun _ _ => rfl) trivial ?_) | (refine wpPre_on rfl rfl rfl (by first | (simp only [z1]; done) | fail) (by exact sdI) ?_; refine wpE_call (fun _ _ => rfl) trivial ?_)
      refine dsI ?_
      refine CallO.same _ hcc ap ?_
      repeat (first | (refine wpSuf_cons rfl rfl ?_; refine wpO_det (fun _ _ => rfl) ?_) | (refine wpPre_cons rfl rfl ?_; refine wpE_det (fun _ _ => rfl) ?_) | refine wpSuf_on rfl rfl rfl (by first | (simp only [z1]; done) | fail) (by exact sdI) (wpO_det (fun _ _ => rfl) ?_) | refine wpSuf_off rfl rfl rfl (by first | (simp only [z1]; done) | fail) (by exact sdI) ?_ | refine wpPre_on rfl rfl rfl (by first | (simp only [z1]; done) | fail) (by exact sdI) (wpE_det (fun _ _ => rfl) ?_) | refine wpPre_off rfl rfl rfl (by first | (simp only [z1]; done) | fail) (by exact sdI) ?_ | (refine wpSuf_cons rfl rfl ?_; refine wpO_ld rfl rfl rfl (by (try dsimp only); (try simp only [z1]); exact rfl) ?_) | (refine wpSuf_cons rfl rfl ?_; refine wpO_st rfl rfl rfl (by (try dsimp only); (try simp only [z1]); exact rfl) ?_) | (refine wpSuf_on rfl rfl rfl (by first | (simp only [z1]; done) | fail) (by exact sdI) ?_; refine wpO_ld rfl rfl rfl (by (try dsimp only); (try simp only [z1]); exact rfl) ?_) | (refine wpSuf_on rfl rfl rfl (by first | (simp only [z1]; done) | fail) (by exact sdI) ?_; refine wpO_st rfl rfl rfl (by (try dsimp only); (try simp only [z1]); exact rfl) ?_) | (refine wpPre_cons rfl rfl ?_; refine wpE_ld rfl rfl rfl (by (try dsimp only); (try simp only [z1]); exact rfl) ?_) | (refine wpPre_on rfl rfl rfl (by first | (simp only [z1]; done) | fail) (by exact sdI) ?_; refine wpE_ld rfl rfl rfl (by (try dsimp only); (try simp only [z1]); exact rfl) ?_))
      repeat (first | (refine wpSuf_cons rfl rfl ?_; refine wpO_det (fun _ _ => rfl) ?_) | (refine wpPre_cons rfl rfl ?_; refine wpE_det (fun _ _ => rfl) ?_))
      try (refine wpPre_nil ?_; repeat (first | (refine wpSuf_cons rfl rfl ?_; refine wpO_det (fun _ _ => rfl) ?_) | (refine wpPre_cons rfl rfl ?_; refine wpE_det (fun _ _ => rfl) ?_)))
      first | refine wpSuf_nil (And.intro (by exact sdI) ?_) | (refine wpSuf_cons rfl rfl ?_; refine wpO_call (fun _ _ => rfl) (by exact sdI) ?_) | (refine wpPre_cons rfl rfl ?_; refine wpE_call (fun _ _ => rfl) (by exact sdI) ?_) | skip
      refine dsI ?_
      try simp only [z1]
      refine OkS.cond ?_
      refine dsI ?_
      (refine brI (fun h34 => ?_) (fun h34 => ?_)) <;> (try simp only [Bool.not_eq_true', Bool.not_eq_false'] at h34) <;> (try simp only [h34])
      · have hlt : c (.agg [a1, a2, a3, a4]) (.agg [b1, b2, b3, b4]) < 0 := by simpa using h34
        rw [if_pos hlt] at g4'
        refine OkS.skip ?_
        refine dsI ?_
        refine OkS.seq ?_
        refine OkS.block ?_
        have hxl : j + 1 < em.length := (List.getElem?_eq_some_iff.1 hx).1
        have hz : (em.set (j + 1) (.agg [b1, b2, b3, b4]))[j]? = some (.agg [b1, b2, b3, b4]) := by
          rw [List.getElem?_set_ne (by omega)]; exact hy
        refine OkS.regW w1 600 [0, 1, 2, 3, 4, 5, 6, 7, 8, 9, 10, 11, 12, 13, 14, 15] [16, 17] 15 [14, 9, 0, 1, 5, 6, 7, 8, 9, 13, 0, 1, 0, 1, 5, 6, 7, 8, 9, 13, 6, 5, 7, 6, 8, 5, 7, 6, 12, 10, 11, 8, 5, 7, 6, 6, 5, 7, 6, 8, 5, 7, 6, 12, 10, 11] (303) (by kernel_rfl) (by kernel_rfl) ?_
        refine dsI ?_
        repeat (first | (refine wpPreW_rd rfl rfl rfl rfl ?_; first | refine wpE_det (fun _ _ => rfl) ?_ | refine wpE_ld rfl rfl rfl (by (try dsimp only); (try simp only [w2, Int.toNat_natCast, Nat.zero_add, hx, hy, hz]); exact rfl) ?_) | (refine wpPreW_wr rfl rfl rfl ?_; first | refine wpWr_det (fun _ _ => rfl) ?_ | refine wpWr_st rfl rfl rfl (by (try dsimp only); (try simp only [w2, Int.toNat_natCast, Nat.zero_add, hx, hy, hz]); exact rfl) ?_) | (refine wpPreW_al rfl rfl rfl rfl ?_; refine wpE_det (fun _ _ => rfl) ?_))
        try refine wpPreW_nil ?_
        refine dsI ?_
        try simp only [w2, Int.toNat_natCast, Nat.zero_add, hx, hy, hz]
        refine And.intro (Or.inl trivial) ?_
        repeat (first | (refine wpSuf_cons rfl rfl ?_; refine wpO_det (fun _ _ => rfl) ?_) | (refine wpPre_cons rfl rfl ?_; refine wpE_det (fun _ _ => rfl) ?_) | refine wpSuf_on rfl rfl rfl (by first | (simp only [w2, Int.toNat_natCast, Nat.zero_add, hx, hy, hz]; done) | fail) (by exact sdI) (wpO_det (fun _ _ => rfl) ?_) | refine wpSuf_off rfl rfl rfl (by first | (simp only [w2, Int.toNat_natCast, Nat.zero_add, hx, hy, hz]; done) | fail) (by exact sdI) ?_ | refine wpPre_on rfl rfl rfl (by first | (simp only [w2, Int.toNat_natCast, Nat.zero_add, hx, hy, hz]; done) | fail) (by exact sdI) (wpE_det (fun _ _ => rfl) ?_) | refine wpPre_off rfl rfl rfl (by first | (simp only [w2, Int.toNat_natCast, Nat.zero_add, hx, hy, hz]; done) | fail) (by exact sdI) ?_ | (refine wpSuf_cons rfl rfl ?_; refine wpO_ld rfl rfl rfl (by (try dsimp only); (try simp only [w2, Int.toNat_natCast, Nat.zero_add, hx, hy, hz]); exact rfl) ?_) | (refine wpSuf_cons rfl rfl ?_; refine wpO_st rfl rfl rfl (by (try dsimp only); (try simp only [w2, Int.toNat_natCast, Nat.zero_add, hx, hy, hz]); exact rfl) ?_) | (refine wpSuf_on rfl rfl rfl (by first | (simp only [w2, Int.toNat_natCast, Nat.zero_add, hx, hy, hz]; done) | fail) (by exact sdI) ?_; refine wpO_ld rfl rfl rfl (by (try dsimp only); (try simp only [w2, Int.toNat_natCast, Nat.zero_add, hx, hy, hz]); exact rfl) ?_) | (refine wpSuf_on rfl rfl rfl (by first | (simp only [w2, Int.toNat_natCast, Nat.zero_add, hx, hy, hz]; done) | fail) (by exact sdI) ?_; refine wpO_st rfl rfl rfl (by (try dsimp only); (try simp only [w2, Int.toNat_natCast, Nat.zero_add, hx, hy, hz]); exact rfl) ?_) | (refine wpPre_cons rfl rfl ?_; refine wpE_ld rfl rfl rfl (by (try dsimp only); (try simp only [w2, Int.toNat_natCast, Nat.zero_add, hx, hy, hz]); exact rfl) ?_) | (refine wpPre_on rfl rfl rfl (by first | (simp only [w2, Int.toNat_natCast, Nat.zero_add, hx, hy, hz]; done) | fail) (by exact sdI) ?_; refine wpE_ld rfl rfl rfl (by (try dsimp only); (try simp only [w2, Int.toNat_natCast, Nat.zero_add, hx, hy, hz]); exact rfl) ?_))
        repeat (first | (refine wpSuf_cons rfl rfl ?_; refine wpO_det (fun _ _ => rfl) ?_) | (refine wpPre_cons rfl rfl ?_; refine wpE_det (fun _ _ => rfl) ?_))
        try (refine wpPre_nil ?_; repeat (first | (refine wpSuf_cons rfl rfl ?_; refine wpO_det (fun _ _ => rfl) ?_) | (refine wpPre_cons rfl rfl ?_; refine wpE_det (fun _ _ => rfl) ?_)))
        first | refine wpSuf_nil (And.intro (by exact sdI) ?_) | (refine wpSuf_cons rfl rfl ?_; refine wpO_call (fun _ _ => rfl) (by exact sdI) ?_) | (refine wpPre_cons rfl rfl ?_; refine wpE_call (fun _ _ => rfl) (by exact sdI) ?_) | skip
        refine dsI ?_
        try simp only [w2, Int.toNat_natCast, Nat.zero_add, hx, hy, hz]
        refine OkS.reg w1 500 (by kernel_rfl) ?_
        repeat (first | (refine wpSuf_cons rfl rfl ?_; refine wpO_det (fun _ _ => rfl) ?_) | (refine wpPre_cons rfl rfl ?_; refine wpE_det (fun _ _ => rfl) ?_))
        try (refine wpPre_nil ?_; repeat (first | (refine wpSuf_cons rfl rfl ?_; refine wpO_det (fun _ _ => rfl) ?_) | (refine wpPre_cons rfl rfl ?_; refine wpE_det (fun _ _ => rfl) ?_)))
        first | refine wpSuf_nil (And.intro (by ((refine dsI ?_); (try simp only [w2]); all_goals exact sdI)) ?_) | (refine wpSuf_cons rfl rfl ?_; refine wpO_call (fun _ _ => rfl) (by ((refine dsI ?_); (try simp only [w2]); all_goals exact sdI)) ?_) | (refine wpPre_cons rfl rfl ?_; refine wpE_call (fun _ _ => rfl) (by ((refine dsI ?_); (try simp only [w2]); all_goals exact sdI)) ?_) | skip
        refine dsI ?_
        try simp only [w2]
        obtain ⟨q1, q2⟩ := swap_ok g2 hx hy
        refine ⟨(j, (em.set (j + 1) (.agg [b1, b2, b3, b4])).set j (.agg [a1, a2, a3, a4]), _), ⟨by dsimp only; omega, q1, q2.trans g3, g4'⟩, by dsimp only; omega, wkI⟩
      · have hlt : ¬ c (.agg [a1, a2, a3, a4]) (.agg [b1, b2, b3, b4]) < 0 := by simpa using h34
        rw [if_neg hlt] at g4'
        refine OkS.exit ?_
        refine dsI ?_
        subst g4'
        refine OkS.reg w1 200 (by kernel_rfl) ?_
        repeat (first | (refine wpSuf_cons rfl rfl ?_; refine wpO_det (fun _ _ => rfl) ?_) | (refine wpPre_cons rfl rfl ?_; refine wpE_det (fun _ _ => rfl) ?_))
        try (refine wpPre_nil ?_; repeat (first | (refine wpSuf_cons rfl rfl ?_; refine wpO_det (fun _ _ => rfl) ?_) | (refine wpPre_cons rfl rfl ?_; refine wpE_det (fun _ _ => rfl) ?_)))
        first | refine wpSuf_nil (And.intro (by ((refine dsI ?_); (try simp only [wi]); all_goals exact sdI)) ?_) | (refine wpSuf_cons rfl rfl ?_; refine wpO_call (fun _ _ => rfl) (by ((refine dsI ?_); (try simp only [wi]); all_goals exact sdI)) ?_) | (refine wpPre_cons rfl rfl ?_; refine wpE_call (fun _ _ => rfl) (by ((refine dsI ?_); (try simp only [wi]); all_goals exact sdI)) ?_) | skip
        refine dsI ?_
        try simp only [wi]
        refine ⟨(i + 1, _), ⟨by dsimp only; omega, by dsimp only; omega⟩, by dsimp only; omega, wkI⟩
  · have hi : ¬ i < N := by simpa using h14
    refine OkS.exit ?_
    refine dsI ?_
    have he : insN c l (i - 1) = insN c l (N - 1) := by
      rcases h2 with h2 | h2
      · rw [show i = N from by omega]
      · rw [show N - 1 = i - 1 from by omega]
    rw [he]
    exact ⟨trivial, rfl, rfl⟩
theorem pdq_ok (c : D → D → Int) (l : List D) (N : Nat) (hN : l.length = N) (hl : N ≤ 12) (h4 : ∀ x ∈ l, Fr4 x) (hc : ∀ x ∈ l, ∀ y ∈ l, ICalls C0 141 [x, y] (i64 (c x y))) (lim : Int) (g n : Nat) :
    ICallH C0 250 [.osl 303 g 4 0 N, i64 0, i64 N, i64 lim, cmpD] [⟨303, g, 114, 4, l⟩] n (fun d H' _ => d = .tup [] ∧ H' = [⟨303, g, 114, 4, insN c l (N - 1)⟩]) := by
  refine ICallH.walk w1 fok250 rfl fun F => ?_
  refine OkS.seq ?_
  refine OkS.reg w1 0 (by kernel_rfl) ?_
  refine stI ?_
  refine OkS.seq ?_
  refine OkS.reg w1 100 (by kernel_rfl) ?_
  refine stI ?_
  refine OkS.block ?_
  refine OkS.loop (α := Nat) (fun p => ⟨[(0, .osl 303 g 4 0 N), (1, i64 0), (2, i64 N), (3, i64 lim), (4, cmpD)], [⟨303, g, 114, 4, l⟩], p⟩) (fun p => 0)
    (fun p => True) (_) trivial wkI ?_
  rintro m F -
  refine OkS.block ?_
  refine OkS.seq ?_
  have w1' : IntKind.i64.wrap ((N : Int) - 0) = N := wI (by omega) (by omega)
  refine OkS.reg w1 200 (by kernel_rfl) ?_
  repeat (first | (refine wpSuf_cons rfl rfl ?_; refine wpO_det (fun _ _ => rfl) ?_) | (refine wpPre_cons rfl rfl ?_; refine wpE_det (fun _ _ => rfl) ?_))
  try (refine wpPre_nil ?_; repeat (first | (refine wpSuf_cons rfl rfl ?_; refine wpO_det (fun _ _ => rfl) ?_) | (refine wpPre_cons rfl rfl ?_; refine wpE_det (fun _ _ => rfl) ?_)))
  first | refine wpSuf_nil (And.intro (by ((refine dsI ?_); (try simp only [w1']); all_goals exact sdI)) ?_) | (refine wpSuf_cons rfl rfl ?_; refine wpO_call (fun _ _ => rfl) (by ((refine dsI ?_); (try simp only [w1']); all_goals exact sdI)) ?_) | (refine wpPre_cons rfl rfl ?_; refine wpE_call (fun _ _ => rfl) (by ((refine dsI ?_); (try simp only [w1']); all_goals exact sdI)) ?_) | skip
  refine dsI ?_
  try simp only [w1']
  refine OkS.seq ?_
  refine OkS.seq ?_
  have w2' : decide ((N : Int) ≤ 12) = true := decide_eq_true (by omega)
  refine OkS.reg w1 300 (by kernel_rfl) ?_
  repeat (first | (refine wpSuf_cons rfl rfl ?_; refine wpO_det (fun _ _ => rfl) ?_) | (refine wpPre_cons rfl rfl ?_; refine wpE_det (fun _ _ => rfl) ?_))
  try (refine wpPre_nil ?_; repeat (first | (refine wpSuf_cons rfl rfl ?_; refine wpO_det (fun _ _ => rfl) ?_) | (refine wpPre_cons rfl rfl ?_; refine wpE_det (fun _ _ => rfl) ?_)))
  first | refine wpSuf_nil (And.intro (by ((refine dsI ?_); (try simp only [w2']); all_goals exact sdI)) ?_) | (refine wpSuf_cons rfl rfl ?_; refine wpO_call (fun _ _ => rfl) (by ((refine dsI ?_); (try simp only [w2']); all_goals exact sdI)) ?_) | (refine wpPre_cons rfl rfl ?_; refine wpE_call (fun _ _ => rfl) (by ((refine dsI ?_); (try simp only [w2']); all_goals exact sdI)) ?_) | skip
  refine dsI ?_
  try simp only [w2']
  refine OkS.cond ?_
  refine dsI ?_
  refine OkS.seq ?_
  refine OkS.reg w1 400 (by kernel_rfl) ?_
  refine stI ?_
  refine CallO.own _ (isort_ok c l N hN hl h4 hc g _) ?_
  rintro d H2 n2 ⟨rfl, rfl⟩
  refine stI ?_
  refine OkS.ret ?_
  refine And.intro (by exact sdI) ?_
  refine dsI ?_
  exact ⟨rfl, rfl⟩
theorem blen_ok (N : Nat) (hl : N ≤ 12) : ∃ z, ICalls C0 251 [.prim (.int .u64 (IntKind.u64.wrap N))] (i64 z) := by
  have h : N = 0 ∨ N = 1 ∨ N = 2 ∨ N = 3 ∨ N = 4 ∨ N = 5 ∨ N = 6 ∨ N = 7 ∨ N = 8 ∨ N = 9 ∨ N = 10 ∨ N = 11 ∨ N = 12 := by omega
  rcases h with rfl | rfl | rfl | rfl | rfl | rfl | rfl | rfl | rfl | rfl | rfl | rfl | rfl
  · exact ⟨0, ICalls.ev X1ok 1000 40 (by kernel_rfl)⟩
  · exact ⟨1, ICalls.ev X1ok 1000 40 (by kernel_rfl)⟩
  · exact ⟨2, ICalls.ev X1ok 1000 40 (by kernel_rfl)⟩
  · exact ⟨2, ICalls.ev X1ok 1000 40 (by kernel_rfl)⟩
  · exact ⟨3, ICalls.ev X1ok 1000 40 (by kernel_rfl)⟩
  · exact ⟨3, ICalls.ev X1ok 1000 40 (by kernel_rfl)⟩
  · exact ⟨3, ICalls.ev X1ok 1000 40 (by kernel_rfl)⟩
  · exact ⟨3, ICalls.ev X1ok 1000 40 (by kernel_rfl)⟩
  · exact ⟨4, ICalls.ev X1ok 1000 40 (by kernel_rfl)⟩
  · exact ⟨4, ICalls.ev X1ok 1000 40 (by kernel_rfl)⟩
  · exact ⟨4, ICalls.ev X1ok 1000 40 (by kernel_rfl)⟩
  · exact ⟨4, ICalls.ev X1ok 1000 40 (by kernel_rfl)⟩
  · exact ⟨4, ICalls.ev X1ok 1000 40 (by kernel_rfl)⟩
theorem sortf_ok (c : D → D → Int) (l : List D) (N : Nat) (hN : l.length = N) (hl : N ≤ 12) (h4 : ∀ x ∈ l, Fr4 x) (hc : ∀ x ∈ l, ∀ y ∈ l, ICalls C0 141 [x, y] (i64 (c x y))) (g n : Nat) :
    ICallH C0 205 [.osl 303 g 4 0 N, cmpD] [⟨303, g, 114, 4, l⟩] n (fun d H' _ => d = .tup [] ∧ H' = [⟨303, g, 114, 4, insN c l (N - 1)⟩]) := by
  refine ICallH.walk w1 fok205 rfl fun F => ?_
  refine OkS.seq ?_
  refine OkS.reg w1 0 (by kernel_rfl) ?_
  refine stI ?_
  refine OkS.reg w1 100 (by kernel_rfl) ?_
  refine stI ?_
  obtain ⟨z, hz⟩ := blen_ok N hl
  refine CallO.same _ hz inferInstance ?_
  refine stI ?_
  refine CallO.own _ (pdq_ok c l N hN hl h4 hc z g _) ?_
  rintro d H2 n2 ⟨rfl, rfl⟩
  refine stI ?_
  exact ⟨trivial, rfl, rfl⟩
end Go.Ide

/- The Grade laws, part U: the middle one of some fractions. -/
namespace Go.Ide
open Go.Proofs Go.RowKit
set_option maxRecDepth 20000
set_option linter.unusedSimpArgs false
abbrev fV : Nat := 206
theorem pure_fr {x : D} (h : Fr4 x) : Pure x ∧ ∀ d ∈ x.cells, Pure d := by
  obtain ⟨a, b, c, d, rfl, ⟨h1⟩, ⟨h2⟩, ⟨h3⟩, ⟨h4⟩⟩ := h
  have : ∀ y ∈ [a, b, c, d], Pure y := fun y hy => by
    simp only [List.mem_cons, List.not_mem_nil, or_false] at hy
    rcases hy with rfl | rfl | rfl | rfl <;> assumption
  exact ⟨.agg this, this⟩
theorem pure_frs (b : Bool) {l : List D} (h4 : ∀ x ∈ l, Fr4 x) : Pure (.sl b 4 l) := .sl fun e he => (pure_fr (h4 e he)).2
theorem pure_vals (b : Bool) {l : List D} (h4 : ∀ x ∈ l, Fr4 x) : Pure (.clo (.func fV) [] [.pptr (.sl b 4 l)]) :=
  .clo (by simp) fun d hd => by
    simp only [List.mem_cons, List.not_mem_nil, or_false] at hd
    subst hd
    exact .pptr fun d hd => by
      simp only [D.cells, List.mem_cons, List.not_mem_nil, or_false] at hd
      subst hd
      exact pure_frs b h4
theorem vals_ok (b : Bool) (l : List D) (h4 : ∀ x ∈ l, Fr4 x) : ICalls C0 143 [.sl b 4 l] (.clo (.func fV) [] [.pptr (.sl b 4 l)]) := by
  refine ICallP.walkS w1 fok143 rfl fun F => ?_
  refine OkS.seq ?_
  refine OkS.reg w1 0 (by kernel_rfl) ?_
  refine nxI ?_
  refine OkS.seq ?_
  refine OkS.reg w1 100 (by kernel_rfl) ?_
  refine nxI ?_
  refine OkS.ret ?_
  refine And.intro (by exact sdI) ?_
  refine dsI ?_
  exact ⟨_, .clo1 (.ptr rfl rfl rfl rfl), pure_vals b h4, rfl⟩
/-- what has been piled up -/
def stV (es : List D) (gb : Nat) : Nat → Nat → Hp
  | 0, _ => [⟨0, gb, 126, 1, [nilS]⟩]
  | k + 1, g => [⟨303, g, 114, 4, es.take (k + 1)⟩, ⟨0, gb, 126, 1, [.osl 303 g 4 0 (k + 1)]⟩]
/-- a round's end -/
def stE (es : List D) (gb k g2 : Nat) (x : D) : Option Code → Hp → Nat → Prop := fun j H' _ => j = none ∧ ∃ g q r, H' = [⟨303, g, 114, 4, es.take (k + 1)⟩, ⟨200, q, 114, 4, [r]⟩, ⟨202, g2, 114, 4, [x]⟩, ⟨0, gb, 126, 1, [.osl 303 g 4 0 (k + 1)]⟩]
theorem viter_ok {E : Since} {l : Nat} {R : LR} (hE : Since.ok E) (b : Bool) (es : List D) (N : Nat) (hN : es.length = N) (hl : N ≤ 12) (h4 : ∀ x ∈ es, Fr4 x) (gb n0 : Nat)
    (hY : ∀ k x g g2 n, es[k]? = some x → IYield C0 E l R [x] (⟨202, g2, 114, 4, [x]⟩ :: stV es gb k g) n (stE es gb k g2 x)) :
    ICallX C0 E fV [.clo (.yield l) [] [], .pptr (.sl b 4 es)] l R (stV es gb 0 0) n0 (fun j _ H' _ => j = none ∧ ∃ g, H' = stV es gb N g) := by
  refine ICallX.walk w1 hE fok206 rfl fun B F hR => ?_
  subst hN
  refine OkS.seq ?_
  refine OkS.reg w1 0 (by kernel_rfl) ?_
  refine stI ?_
  refine OkS.block ?_
  refine OkS.loopF (α := Nat × Nat × Nat) (fun p => ⟨[(0, .clo (.yield l) [] []), (1, .pptr (.sl b 4 es)), (5, .sl b 4 es), (6, i64 es.length), (7, i64 p.1)], stV es gb p.1 p.2.1, p.2.2⟩) (fun p => es.length - p.1)
    (fun p F => Ready C0 E B F l R ∧ p.1 ≤ es.length) (0, 0, _) ⟨hR, Nat.zero_le _⟩ wkI ?_
  clear hR
  rintro ⟨i, g, m⟩ F ⟨hR, h1⟩
  dsimp only at h1 hR ⊢
  refine OkS.seq ?_
  refine OkS.reg w1 100 (by kernel_rfl) ?_
  refine stI ?_
  refine OkS.seq ?_
  refine OkS.cond ?_
  refine dsI ?_
  (refine brI (fun h8 => ?_) (fun h8 => ?_)) <;> (try simp only [Bool.not_eq_true', Bool.not_eq_false'] at h8) <;> (try simp only [h8])
  · have hi : i < es.length := by simpa using h8
    have a3 : IntKind.i64.wrap ((i : Int) + 1) = ((i + 1 : Nat) : Int) := wI (by omega) (by omega)
    obtain ⟨x, hx⟩ : ∃ x, es[i]? = some x := ⟨es[i], List.getElem?_eq_getElem (by omega)⟩
    obtain ⟨x1, x2, x3, x4, rfl, -⟩ := h4 x (List.mem_of_getElem? hx)
    have hY' := fun g2 n => hY i _ g g2 n hx
    refine OkS.skip ?_
    refine dsI ?_
    refine OkS.seq ?_
    refine OkS.block ?_
    refine OkS.seq ?_
    rcases i with _ | i
    · dsimp only [stV] at hY' ⊢
      refine OkS.reg w1 200 (by kernel_rfl) ?_
      refine nxI ?_
      refine ⟨⟨rfl, by omega⟩, _, hx, ?_⟩
      refine dsI ?_
      try dsimp only [D.cells, spot]
      refine nxI ?_
      refine OkS.seq ?_
      refine OkS.regY w1 300 [0, 1] 2 [3] rfl (by kernel_rfl) hR ?_
      refine nxI ?_
      refine ⟨rfl, _, hY' _ _, ?_, fun c H n h => absurd h.1 (by simp)⟩
      rintro H2 n2 ⟨_, g', q, r, rfl⟩
      refine And.intro (by exact sdI) ?_
      refine dsI ?_
      refine OkS.cond ?_
      refine dsI ?_
      refine OkS.skip ?_
      refine dsI ?_
      refine OkS.reg w1 400 (by kernel_rfl) ?_
      refine And.intro (by (refine dsI ?_); (try simp only [a3]); all_goals exact sdI) ?_
      refine dsI ?_
      try simp only [a3]
      exact ⟨(1, g', _), ⟨hR, (by dsimp only; omega)⟩, (by dsimp only; omega), wkI⟩
    · dsimp only [stV] at hY' ⊢
      refine OkS.reg w1 200 (by kernel_rfl) ?_
      refine nxI ?_
      refine ⟨⟨rfl, by omega⟩, _, hx, ?_⟩
      refine dsI ?_
      try dsimp only [D.cells, spot]
      refine nxI ?_
      refine OkS.seq ?_
      refine OkS.regY w1 300 [0, 1] 2 [3] rfl (by kernel_rfl) hR ?_
      refine nxI ?_
      refine ⟨rfl, _, hY' _ _, ?_, fun c H n h => absurd h.1 (by simp)⟩
      rintro H2 n2 ⟨_, g', q, r, rfl⟩
      refine And.intro (by exact sdI) ?_
      refine dsI ?_
      refine OkS.cond ?_
      refine dsI ?_
      refine OkS.skip ?_
      refine dsI ?_
      refine OkS.reg w1 400 (by kernel_rfl) ?_
      refine And.intro (by (refine dsI ?_); (try simp only [a3]); all_goals exact sdI) ?_
      refine dsI ?_
      try simp only [a3]
      exact ⟨(i + 2, g', _), ⟨hR, (by dsimp only; omega)⟩, (by dsimp only; omega), wkI⟩
  · have hi : i = es.length := by
      have : ¬ i < es.length := by simpa using h8
      omega
    subst hi
    refine OkS.exit ?_
    refine dsI ?_
    exact ⟨none, hR.stat, trivial, rfl, _, rfl⟩
/-- the slice that has been piled up, in the caller's memory -/
def outV (es : List D) : D → Hp → Nat → Prop := fun d H' _ => ∃ g q, d = .osl 303 g 4 0 es.length ∧ H' = [⟨303, g, 114, 4, es⟩, ⟨0, q, 126, 1, [.osl 303 g 4 0 es.length]⟩]
theorem vseq_ok (b : Bool) (es : List D) (h0 : es ≠ []) (hl : es.length ≤ 12) (h4 : ∀ x ∈ es, Fr4 x) (n : Nat) :
    ICallH C0 249 [nilS, .clo (.func fV) [] [.pptr (.sl b 4 es)]] [] n (outV es) := by
  refine ICallH.walk w1 fok249 rfl fun F => ?_
  refine OkS.seq ?_
  refine OkS.reg w1 0 (by kernel_rfl) ?_
  refine stI ?_
  refine OkS.seq ?_
  refine OkS.seq ?_
  refine OkS.reg w1 100 (by kernel_rfl) ?_
  refine stI ?_
  refine OkS.block ?_
  refine OkS.rangeFunc (fi := fV) (first := []) (captured := [.pptr (.sl b 4 es)]) (Ψ := fun j _ H' _ => j = none ∧ ∃ g, H' = stV es _ es.length g) rfl
    (fun ds H _ Φ => ∃ k x g g2, es[k]? = some x ∧ ds = [x] ∧ H = ⟨202, g2, 114, 4, [x]⟩ :: stV es _ k g ∧ Φ = stE es _ k g2 x) ?_ (fun E l R hE hY => viter_ok hE b es _ rfl hl h4 _ _ (fun k x g g2 n hx => hY _ _ _ _ ⟨k, x, g, g2, hx, rfl, rfl, rfl⟩)) ?_
  · rintro l ds H m Φ ⟨k, x, g, g2, hx, rfl, rfl, rfl⟩
    have hk : k < es.length := (List.getElem?_eq_some_iff.1 hx).1
    obtain ⟨x1, x2, x3, x4, rfl, -⟩ := h4 x (List.mem_of_getElem? hx)
    refine ⟨rfl, fun F => ?_⟩
    rcases k with _ | k
    · dsimp only [stV, putPs]
      refine OkS.reg w1 200 (by kernel_rfl) ?_
      refine nxI ?_
      refine ⟨rfl, rfl, fun F' => ?_⟩
      refine OkS.block ?_
      refine OkS.reg w1 300 (by kernel_rfl) ?_
      refine nxI ?_
      have t1 : es.take (0 + 1) = [.agg [x1, x2, x3, x4]] := by rw [List.take_add_one, hx]; rfl
      unfold stE
      rw [t1]
      exact ⟨rfl, _, _, _, rfl⟩
    · have t2 : es.take (k + 1 + 1) = es.take (k + 1) ++ [.agg [x1, x2, x3, x4]] := by rw [List.take_add_one, hx]; rfl
      have tl : (es.take (k + 1)).length = k + 1 := by rw [List.length_take]; omega
      dsimp only [stV, putPs]
      generalize es.take (k + 1) = t at *
      refine OkS.reg w1 200 (by kernel_rfl) ?_
      refine nxI ?_
      refine ⟨rfl, rfl, fun F' => ?_⟩
      refine OkS.block ?_
      refine OkS.reg w1 300 (by kernel_rfl) ?_
      refine nxI ?_
      unfold stE
      rw [t2, List.take_of_length_le (show t.length ≤ k + 1 by omega)]
      exact ⟨rfl, _, _, _, rfl⟩
  · rintro j d H' n' F' ⟨rfl, g, rfl⟩
    dsimp only [endW]
    obtain ⟨N, hN⟩ : ∃ N, es.length = N + 1 := ⟨es.length - 1, by have := List.length_pos_iff.2 h0; omega⟩
    have ht : es.take (N + 1) = es := by rw [← hN]; exact List.take_length
    unfold outV
    rw [hN]
    dsimp only [stV]
    rw [ht]
    refine OkS.seq ?_
    refine OkS.reg w1 400 (by kernel_rfl) ?_
    refine nxI ?_
    refine OkS.ret ?_
    refine And.intro (by exact sdI) ?_
    refine dsI ?_
    exact ⟨_, _, rfl, rfl⟩
theorem coll_ok (b : Bool) (es : List D) (h0 : es ≠ []) (hl : es.length ≤ 12) (h4 : ∀ x ∈ es, Fr4 x) (n : Nat) :
    ICallH C0 204 [.clo (.func fV) [] [.pptr (.sl b 4 es)]] [] n (outV es) := by
  refine ICallH.walk w1 fok204 rfl fun F => ?_
  refine OkS.seq ?_
  refine OkS.reg w1 0 (by kernel_rfl) ?_
  refine nxI ?_
  refine OkS.seq ?_
  refine OkS.reg w1 100 (by kernel_rfl) ?_
  refine nxI ?_
  refine CallO.own _ (vseq_ok b es h0 hl h4 _) ?_
  rintro d H2 n2 ⟨g, q, rfl, rfl⟩
  refine nxI ?_
  refine OkS.ret ?_
  refine And.intro (by exact sdI) ?_
  refine dsI ?_
  exact ⟨_, _, rfl, rfl⟩
theorem sorted_ok (c : D → D → Int) (b : Bool) (es : List D) (h0 : es ≠ []) (hl : es.length ≤ 12) (h4 : ∀ x ∈ es, Fr4 x) (hc : ∀ x ∈ es, ∀ y ∈ es, ICalls C0 141 [x, y] (i64 (c x y))) :
    ICalls C0 142 [.clo (.func fV) [] [.pptr (.sl b 4 es)], cmpD] (.sl false 4 (insN c es (es.length - 1))) := by
  refine ICallP.walk w1 fok142 rfl fun F => ?_
  refine OkS.seq ?_
  refine OkS.reg w1 0 (by kernel_rfl) ?_
  refine nxI ?_
  refine OkS.seq ?_
  refine OkS.reg w1 100 (by kernel_rfl) ?_
  refine nxI ?_
  refine CallO.own _ (coll_ok b es h0 hl h4 _) ?_
  rintro d H2 n2 ⟨g, q, rfl, rfl⟩
  refine nxI ?_
  refine OkS.weak ⟨[(5, .osl 303 g 4 0 es.length), (1, cmpD)], [⟨303, g, 114, 4, es⟩], _⟩ wkI ?_
  refine OkS.seq ?_
  refine OkS.reg w1 200 (by kernel_rfl) ?_
  refine nxI ?_
  refine CallO.own _ (sortf_ok c es _ rfl hl h4 hc g _) ?_
  rintro d H2 n3 ⟨rfl, rfl⟩
  refine nxI ?_
  refine OkS.seq ?_
  refine OkS.reg w1 300 (by kernel_rfl) ?_
  refine nxI ?_
  refine OkS.ret ?_
  refine And.intro (by exact sdI) ?_
  refine dsI ?_
  obtain ⟨i1, i2⟩ := insN_mem c es (es.length - 1)
  generalize insN c es (es.length - 1) = m at *
  rw [← i2]
  exact ⟨_, fz_osl _ _ _ _ _, pure_frs false fun x hx => h4 x (i1 x hx), rfl⟩
theorem middle_ok (c : D → D → Int) (b : Bool) (es : List D) (hl : es.length = 3) (h4 : ∀ x ∈ es, Fr4 x) (hc : ∀ x ∈ es, ∀ y ∈ es, ICalls C0 141 [x, y] (i64 (c x y))) (x : D) (hx : (insN c es 2)[1]? = some x) :
    ICalls C0 64 [.sl b 4 es] x := by
  refine ICallP.walk w1 fok64 rfl fun F => ?_
  have h0 : es ≠ [] := fun h => by rw [h] at hl; cases hl
  obtain ⟨i1, i2⟩ := insN_mem c es 2
  have q1 := vals_ok b es h4
  have q2 := sorted_ok c b es h0 (by omega) h4 hc
  rw [hl] at q2
  have hp : ArePure [.sl b 4 es] := ⟨fun d hd => by simp at hd; subst hd; exact pure_frs b h4⟩
  have hp2 : ArePure [.clo (.func fV) [] [.pptr (.sl b 4 es)], cmpD] := ⟨fun d hd => by
    simp at hd
    rcases hd with rfl | rfl
    · exact pure_vals b h4
    · exact .clo (by simp) (by simp)⟩
  have hxf := h4 x (i1 x (List.mem_of_getElem? hx))
  obtain ⟨x1, x2, x3, x4, rfl, -⟩ := id hxf
  refine OkS.seq ?_
  refine OkS.reg w1 0 (by kernel_rfl) ?_
  refine nxI ?_
  refine OkS.seq ?_
  refine OkS.reg w1 100 (by kernel_rfl) ?_
  refine nxI ?_
  refine CallO.same _ q1 hp ?_
  refine nxI ?_
  refine CallO.same _ q2 hp2 ?_
  refine nxI ?_
  refine OkS.seq ?_
  rw [hl] at i2
  refine OkS.reg w1 200 (by kernel_rfl) ?_
  have w3 : ((insN c es 2).length : Int) = 3 := by rw [i2]; rfl
  have w4 : IntKind.i64.wrap ((3 : Int).tdiv 2) = 1 := wI (by decide) (by decide)
  repeat (first | (refine wpSuf_cons rfl rfl ?_; refine wpO_det (fun _ _ => rfl) ?_) | (refine wpPre_cons rfl rfl ?_; refine wpE_det (fun _ _ => rfl) ?_) | refine wpSuf_on rfl rfl rfl (by first | (simp only [w3, w4]; done) | fail) (by exact sdI) (wpO_det (fun _ _ => rfl) ?_) | refine wpSuf_off rfl rfl rfl (by first | (simp only [w3, w4]; done) | fail) (by exact sdI) ?_ | refine wpPre_on rfl rfl rfl (by first | (simp only [w3, w4]; done) | fail) (by exact sdI) (wpE_det (fun _ _ => rfl) ?_) | refine wpPre_off rfl rfl rfl (by first | (simp only [w3, w4]; done) | fail) (by exact sdI) ?_ | (refine wpSuf_cons rfl rfl ?_; refine wpO_ld rfl rfl rfl (by (try dsimp only); (try simp only [w3, w4]); exact rfl) ?_) | (refine wpSuf_cons rfl rfl ?_; refine wpO_st rfl rfl rfl (by (try dsimp only); (try simp only [w3, w4]); exact rfl) ?_) | (refine wpSuf_on rfl rfl rfl (by first | (simp only [w3, w4]; done) | fail) (by exact sdI) ?_; refine wpO_ld rfl rfl rfl (by (try dsimp only); (try simp only [w3, w4]); exact rfl) ?_) | (refine wpSuf_on rfl rfl rfl (by first | (simp only [w3, w4]; done) | fail) (by exact sdI) ?_; refine wpO_st rfl rfl rfl (by (try dsimp only); (try simp only [w3, w4]); exact rfl) ?_) | (refine wpPre_cons rfl rfl ?_; refine wpE_ld rfl rfl rfl (by (try dsimp only); (try simp only [w3, w4]); exact rfl) ?_) | (refine wpPre_on rfl rfl rfl (by first | (simp only [w3, w4]; done) | fail) (by exact sdI) ?_; refine wpE_ld rfl rfl rfl (by (try dsimp only); (try simp only [w3, w4]); exact rfl) ?_))
  repeat (first | (refine wpSuf_cons rfl rfl ?_; refine wpO_det (fun _ _ => rfl) ?_) | (refine wpPre_cons rfl rfl ?_; refine wpE_det (fun _ _ => rfl) ?_))
  try (refine wpPre_nil ?_; repeat (first | (refine wpSuf_cons rfl rfl ?_; refine wpO_det (fun _ _ => rfl) ?_) | (refine wpPre_cons rfl rfl ?_; refine wpE_det (fun _ _ => rfl) ?_)))
  first | refine wpSuf_nil (And.intro (by exact sdI) ?_) | (refine wpSuf_cons rfl rfl ?_; refine wpO_call (fun _ _ => rfl) (by exact sdI) ?_) | (refine wpPre_cons rfl rfl ?_; refine wpE_call (fun _ _ => rfl) (by exact sdI) ?_) | skip
  refine dsI ?_
  try simp only [w3, w4]
  first | refine wpSuf_cons rfl rfl ?_ | refine wpSuf_on rfl rfl rfl (by first | (simp only [Bool.not_true]; done) | fail) (by exact sdI) ?_ | refine wpPre_cons rfl rfl ?_ | refine wpPre_on rfl rfl rfl (by first | (simp only [Bool.not_true]; done) | fail) (by exact sdI) ?_
  first | refine wpO_ix (fun _ _ => rfl) (by exact sdI) ⟨rfl, by omega⟩ hx ?_ | refine wpE_ix (fun _ _ => rfl) (by exact sdI) ⟨rfl, by omega⟩ hx ?_
  try dsimp only [D.cells, spot]
  refine stI ?_
  refine OkS.ret ?_
  refine And.intro (by exact sdI) ?_
  refine dsI ?_
  exact exact_res rfl (pure_fr hxf).1
end Go.Ide
