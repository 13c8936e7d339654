/- The layer of own lemmas and contracts, part 7. -/
import Derived.Test.YtpehlicnhjoknaaGreatDoorP5
import Derived.Test.YtpehlicnhjoknaaGreatDoorP4
import Derived.Test.YtpehlicnhjoknaaGreatDoorP6
import Derived.Lib.AppendIntMem
import Derived.Lib.SmallJoins
import Derived.Shelf.Spec.BitsCarry
import Derived.Laws.StandIn
set_option linter.unusedVariables false
set_option linter.unusedSimpArgs false
/- The Grade laws, part A: contracts of the two map literals.  -/
open Go Go.Ide Go.Proofs Go.RowKit
namespace Go.Ide
set_option maxRecDepth 100000
/-- what is known of the package-level variables: the table of the powers of ten -/
def G0 (w : World) : Prop := Lib.TabIs Tryz.prog w "internal/strconv.uint64pow10" .u64 Lib.pow10Tab
theorem pow10_at : Tryz.prog.globalNamed "internal/strconv.uint64pow10" = some 3 := by kernel_rfl
theorem G0_below {w w' : World} (h : G0 w) (b : Below (3 + 1) w w') : G0 w' := by
  unfold G0 Lib.TabIs World.var? at h ⊢
  rw [pow10_at] at h ⊢
  simp only [Option.bind_some] at h ⊢
  rw [b.block _ (by decide)]; exact h
noncomputable def C0 : Ctx := {P := Tryz.prog, G := G0, nG := 3 + 1, hG := fun _ _ => G0_below}
def designsD : D := .mp [.prim (.string ⟨#[108, 105, 110, 101]⟩), .prim (.string ⟨#[122, 105, 103, 122, 97, 103]⟩), .prim (.string ⟨#[103, 114, 105, 100]⟩), .prim (.string ⟨#[113, 117, 105, 110, 99, 117, 110, 120]⟩)]
  [.agg [.prim (.int .i64 1), .prim (.int .i64 64), .clo (.func 109) [] []], .agg [.prim (.int .i64 1), .prim (.int .i64 64), .clo (.func 111) [] []], .agg [.prim (.int .i64 1), .prim (.int .i64 8), .clo (.func 112) [] []], .agg [.prim (.int .i64 5), .prim (.int .i64 5), .clo (.func 113) [] []]]
theorem flat3 (a b : Value) (fn : Fn) : Flat (.agg [.prim a, .prim b, .clo fn [] []]) := Flat.agg fun d hd => by
  simp only [List.mem_cons, List.not_mem_nil, or_false] at hd
  rcases hd with rfl | rfl | rfl
  · exact .prim _
  · exact .prim _
  · exact .clo
theorem designs_ok : ICalls C0 46 [] designsD := by
  refine ICallP.intro tab Tryz.func46 rfl (by kernel_rfl) (by kernel_rfl) (by kernel_rfl) fun F => ?_
  refine Ok.seq (Ok.region ?_)
  refine OkL.p tab rfl rfl trivial ?_
  refine OkL.nil ?_
  refine Ok.seq (Ok.region ?_)
  refine OkM.start (m := 1) rfl rfl rfl ?_
  refine OkM.pB (C := C0) tab (.agg [.prim (.int .i64 1), .prim (.int .i64 64), .clo (.func 109) [] []]) rfl (by kernel_rfl) (flat3 _ _ _) rfl (by decide) ?_
  refine OkM.ins (C := C0) (k := 9) (e := 102) (z := .agg #[.int .i64 0, .int .i64 0, .nilFunc]) tabx (by kernel_rfl) rfl rfl rfl (by kernel_rfl) rfl (fun _ _ _ _ h _ _ _ => flat3 _ _ _ _ _ _ _ _ _ _ h) ?_
  refine OkM.pB (C := C0) tab (.agg [.prim (.int .i64 1), .prim (.int .i64 64), .clo (.func 111) [] []]) rfl (by kernel_rfl) (flat3 _ _ _) rfl (by decide) ?_
  refine OkM.ins (C := C0) (k := 9) (e := 102) (z := .agg #[.int .i64 0, .int .i64 0, .nilFunc]) tabx (by kernel_rfl) rfl rfl rfl (by kernel_rfl) rfl (fun _ _ _ _ h _ _ _ => flat3 _ _ _ _ _ _ _ _ _ _ h) ?_
  refine OkM.pB (C := C0) tab (.agg [.prim (.int .i64 1), .prim (.int .i64 8), .clo (.func 112) [] []]) rfl (by kernel_rfl) (flat3 _ _ _) rfl (by decide) ?_
  refine OkM.ins (C := C0) (k := 9) (e := 102) (z := .agg #[.int .i64 0, .int .i64 0, .nilFunc]) tabx (by kernel_rfl) rfl rfl rfl (by kernel_rfl) rfl (fun _ _ _ _ h _ _ _ => flat3 _ _ _ _ _ _ _ _ _ _ h) ?_
  refine OkM.pB (C := C0) tab (.agg [.prim (.int .i64 5), .prim (.int .i64 5), .clo (.func 113) [] []]) rfl (by kernel_rfl) (flat3 _ _ _) rfl (by decide) ?_
  refine OkM.ins (C := C0) (k := 9) (e := 102) (z := .agg #[.int .i64 0, .int .i64 0, .nilFunc]) tabx (by kernel_rfl) rfl rfl rfl (by kernel_rfl) rfl (fun _ _ _ _ h _ _ _ => flat3 _ _ _ _ _ _ _ _ _ _ h) ?_
  refine OkM.done ?_
  refine OkL.p tab rfl rfl trivial ?_
  refine OkL.p tab rfl rfl trivial ?_
  refine OkL.nil ?_
  refine Ok.ret ?_
  exact ⟨.inr rfl, _, _, rfl, ⟨trivial, trivial⟩, designsD, .refl _, pureB_ok (n := 20) (by kernel_rfl), rfl⟩

def kindsD : D := .mp [.prim (.string ⟨#[100, 111, 119, 110]⟩), .prim (.string ⟨#[117, 112]⟩), .prim (.string ⟨#[104, 97, 108, 102, 45, 117, 112]⟩), .prim (.string ⟨#[104, 97, 108, 102, 45, 101, 118, 101, 110]⟩)]
  [.agg [.clo (.func 207) [] []], .agg [.clo (.func 208) [] []], .agg [.clo (.func 209) [] []], .agg [.clo (.func 210) [] []]]
theorem flat1 (fn : Fn) : Flat (.agg [.clo fn [] []]) := Flat.agg fun d hd => by
  simp only [List.mem_cons, List.not_mem_nil, or_false] at hd
  subst hd
  exact .clo
theorem kinds_ok : ICalls C0 145 [] kindsD := by
  refine ICallP.intro tab Tryz.func145 rfl (by kernel_rfl) (by kernel_rfl) (by kernel_rfl) fun F => ?_
  refine Ok.seq (Ok.region ?_)
  refine OkL.p tab rfl rfl trivial ?_
  refine OkL.nil ?_
  refine Ok.seq (Ok.region ?_)
  refine OkM.start (m := 1) rfl rfl rfl ?_
  refine OkM.pB (C := C0) tab (.agg [.clo (.func 207) [] []]) rfl (by kernel_rfl) (flat1 _) rfl (by decide) ?_
  refine OkM.ins (C := C0) (k := 9) (e := 220) (z := .agg #[.nilFunc]) tabx (by kernel_rfl) rfl rfl rfl (by kernel_rfl) rfl (fun _ _ _ _ h _ _ _ => flat1 _ _ _ _ _ _ _ _ h) ?_
  refine OkM.pB (C := C0) tab (.agg [.clo (.func 208) [] []]) rfl (by kernel_rfl) (flat1 _) rfl (by decide) ?_
  refine OkM.ins (C := C0) (k := 9) (e := 220) (z := .agg #[.nilFunc]) tabx (by kernel_rfl) rfl rfl rfl (by kernel_rfl) rfl (fun _ _ _ _ h _ _ _ => flat1 _ _ _ _ _ _ _ _ h) ?_
  refine OkM.pB (C := C0) tab (.agg [.clo (.func 209) [] []]) rfl (by kernel_rfl) (flat1 _) rfl (by decide) ?_
  refine OkM.ins (C := C0) (k := 9) (e := 220) (z := .agg #[.nilFunc]) tabx (by kernel_rfl) rfl rfl rfl (by kernel_rfl) rfl (fun _ _ _ _ h _ _ _ => flat1 _ _ _ _ _ _ _ _ h) ?_
  refine OkM.pB (C := C0) tab (.agg [.clo (.func 210) [] []]) rfl (by kernel_rfl) (flat1 _) rfl (by decide) ?_
  refine OkM.ins (C := C0) (k := 9) (e := 220) (z := .agg #[.nilFunc]) tabx (by kernel_rfl) rfl rfl rfl (by kernel_rfl) rfl (fun _ _ _ _ h _ _ _ => flat1 _ _ _ _ _ _ _ _ h) ?_
  refine OkM.done ?_
  refine OkL.p tab rfl rfl trivial ?_
  refine OkL.p tab rfl rfl trivial ?_
  refine OkL.nil ?_
  refine Ok.ret ?_
  exact ⟨.inr rfl, _, _, rfl, ⟨trivial, trivial⟩, kindsD, .refl _, pureB_ok (n := 20) (by kernel_rfl), rfl⟩
end Go.Ide

/- The Grade laws, part B: functions without a text.  -/
namespace Go.Ide
open Go.Proofs Go.RowKit
theorem reps3 {ρ : Lk} {O : Nat → Prop} {w : World} {a b c : Value} {vs : Array Value} (hn : vs.size = 3) (h : ∀ (i : Nat) (x : D), [D.prim a, .prim b, .prim c][i]? = some x → Rep ρ O w x (vs.getD i undef)) : vs = #[a, b, c] := by
  match vs, hn with
  | ⟨[u, v, x]⟩, _ =>
    have h0 := h 0 _ rfl
    have h1 := h 1 _ rfl
    have h2 := h 2 _ rfl
    simp at h0 h1 h2
    cases h0; cases h1; cases h2; rfl
theorem add64_nat (x y c : Nat) (hc : c ≤ 1) : NatCall C0 254 [.prim (.int .u64 x), .prim (.int .u64 y), .prim (.int .u64 c)]
    (.tup [.prim (.int .u64 (((x + y + c) % 18446744073709551616 : Nat) : Int)), .prim (.int .u64 (((x + y + c) / 18446744073709551616 : Nat) : Int))]) := fun ρ O w vs hn h => by
  have := reps3 hn h
  subst this
  refine ⟨.tuple #[.int .u64 (((x + y + c) % 18446744073709551616 : Nat) : Int), .int .u64 (((x + y + c) / 18446744073709551616 : Nat) : Int)], ?_, .tup rfl fun i d hd => ?_⟩
  · show (callFunc 254 _).run Tryz.prog w = _
    rw [run_callFunc_extern Tryz.func254 (by kernel_rfl) (by kernel_rfl) (by kernel_rfl) (e := add64Entry) (by kernel_rfl), run_add64 x y c (by omega) (by omega) (by omega) (by omega)]
    simp only [Result.andThen]
    congr 5 <;> omega
  · match i with
    | 0 => simp at hd; subst hd; exact .prim _
    | 1 => simp at hd; subst hd; exact .prim _
    | n + 2 => simp at hd

theorem reps2 {ρ : Lk} {O : Nat → Prop} {w : World} {a b : Value} {vs : Array Value} (hn : vs.size = 2) (h : ∀ (i : Nat) (x : D), [D.prim a, .prim b][i]? = some x → Rep ρ O w x (vs.getD i undef)) : vs = #[a, b] := by
  match vs, hn with
  | ⟨[u, v]⟩, _ =>
    have h0 := h 0 _ rfl
    have h1 := h 1 _ rfl
    simp at h0 h1
    cases h0; cases h1; rfl
/-- the place of the first byte c -/
def idxB (c : Nat) : Nat → List UInt8 → Int
  | _, [] => -1
  | i, b :: l => match Nat.beq b.toNat c with
    | true => (i : Int)
    | false => idxB c (i + 1) l
theorem indexByte_nat (s : ByteArray) (c : Int) : NatCall C0 296 [.prim (.string s), .prim (.int .u8 c)] (.prim (.int .i64 (firstIdx s c.toNat.toUInt8))) := fun ρ O w vs hn h => by
  have := reps2 hn h
  subst this
  refine ⟨_, ?_, .prim _⟩
  show (callFunc 296 _).run Tryz.prog w = _
  rw [run_callFunc_indexByte Tryz.func296 (by kernel_rfl) (by kernel_rfl) (by kernel_rfl) (by kernel_rfl), run_indexByte_string]
  rfl
theorem sub64_nat (x y b : Nat) (hb : b ≤ 1) : NatCall C0 255 [.prim (.int .u64 x), .prim (.int .u64 y), .prim (.int .u64 b)]
    (.tup [.prim (.int .u64 (((x + 18446744073709551616 - y - b) % 18446744073709551616 : Nat) : Int)), .prim (.int .u64 ((if x < y + b then 1 else 0 : Nat) : Int))]) := fun ρ O w vs hn h => by
  have := reps3 hn h
  subst this
  refine ⟨.tuple #[.int .u64 (((x + 18446744073709551616 - y - b) % 18446744073709551616 : Nat) : Int), .int .u64 ((if x < y + b then 1 else 0 : Nat) : Int)], ?_, .tup rfl fun i d hd => ?_⟩
  · show (callFunc 255 _).run Tryz.prog w = _
    rw [run_callFunc_extern Tryz.func255 (by kernel_rfl) (by kernel_rfl) (by kernel_rfl) (e := sub64Entry) (by kernel_rfl), run_sub64 x y b hb]
    rfl
  · match i with
    | 0 => simp at hd; subst hd; exact .prim _
    | 1 => simp at hd; subst hd; exact .prim _
    | n + 2 => simp at hd
end Go.Ide

/- The Grade laws, part C: the library's functions by the shelf; the world of the walks. -/
namespace Go.Ide
open Go.Proofs Go.RowKit
theorem rep_prim {O : Nat → Prop} {w : World} {v : Value} {vs : Array Value} (hn : vs.size = 1) (h : ∀ (i : Nat) (x : D), [D.prim v][i]? = some x → Rep nol O w x (vs.getD i undef)) : vs = #[v] := by
  match vs, hn with
  | ⟨[u]⟩, _ =>
    have h0 := h 0 _ rfl
    simp at h0
    cases h0; rfl
theorem itoa_ok (n : Int) (h0 : -9223372036854775808 ≤ n) (h1 : n ≤ 9223372036854775807) : ICalls C0 183 [i64 n] (str ⟨(Lib.itoa n).toArray⟩) := by
  refine ⟨⟨_, _, Tryz.func183, rfl, by kernel_rfl⟩, fun Y w vs hG hnG hX hvs hr => ?_⟩
  have := rep_prim hvs hr
  subst this
  refine (Tryz.strconv_Itoa n h0 h1 w hG).mono ?_
  rintro e w' ⟨rfl, k, os, rfl⟩
  exact ⟨_, _, rfl, Lib.below_grow _ _ (Nat.le_refl _) _ _, rfl, .prim _⟩
theorem atoi_ok (s : ByteArray) (n : Int) (hl : s.size ≤ 18) (h : Lib.atoi s.data.toList = some n) : ICalls C0 199 [str s] (.tup [i64 n, .prim .nilIface]) := by
  refine ⟨⟨_, _, Tryz.func199, rfl, by kernel_rfl⟩, fun Y w vs hG hnG hX hvs hr => ?_⟩
  have := rep_prim hvs hr
  subst this
  refine (Tryz.strconv_Atoi s n hl h w).mono ?_
  rintro e w' ⟨rfl, t, rfl⟩
  exact ⟨_, _, rfl, Joins.below_bytesWorld _ _ _ _ (Nat.le_refl _), rfl, .tup rfl fun i d hd => by
    match i with
    | 0 => simp at hd; subst hd; exact .prim _
    | 1 => simp at hd; subst hd; exact .prim _
    | n + 2 => simp at hd⟩

/-- the functions without a text, as the walks and the evaluator want them -/
def nat0 (f : Nat) (ds : List D) : Option D := match Nat.beq f 254 with
  | true => match ds with
    | [.prim (.int .u64 (.ofNat a)), .prim (.int .u64 (.ofNat b)), .prim (.int .u64 (.ofNat c))] => match Nat.ble c 1 with
      | true => some (.tup [.prim (.int .u64 (((a + b + c) % 18446744073709551616 : Nat) : Int)), .prim (.int .u64 (((a + b + c) / 18446744073709551616 : Nat) : Int))])
      | false => none
    | _ => none
  | false => match Nat.beq f 255 with
    | true => match ds with
      | [.prim (.int .u64 (.ofNat a)), .prim (.int .u64 (.ofNat b)), .prim (.int .u64 (.ofNat c))] => match Nat.ble c 1 with
        | true => some (.tup [.prim (.int .u64 (((a + 18446744073709551616 - b - c) % 18446744073709551616 : Nat) : Int)), .prim (.int .u64 ((if a < b + c then 1 else 0 : Nat) : Int))])
        | false => none
      | _ => none
    | false => match Nat.beq f 296 with
      | true => match ds with
        | [.prim (.string s), .prim (.int .u8 c)] => some (.prim (.int .i64 (firstIdx s c.toNat.toUInt8)))
        | _ => none
      | false => none
theorem nat0_ok (f : Nat) (ds : List D) (d : D) (h : nat0 f ds = some d) : NatCall C0 f ds d := by
  unfold nat0 at h
  split at h
  · rename_i hf
    obtain rfl := Nat.eq_of_beq_eq_true hf
    split at h <;> first | (cases h; done) | skip
    split at h <;> first | (cases h; done) | skip
    rename_i hc
    cases h
    exact add64_nat _ _ _ (Nat.le_of_ble_eq_true hc)
  · split at h
    · rename_i hf
      obtain rfl := Nat.eq_of_beq_eq_true hf
      split at h <;> first | (cases h; done) | skip
      split at h <;> first | (cases h; done) | skip
      rename_i hc
      cases h
      exact sub64_nat _ _ _ (Nat.le_of_ble_eq_true hc)
    · split at h
      · rename_i hf
        obtain rfl := Nat.eq_of_beq_eq_true hf
        split at h <;> first | (cases h; done) | skip
        cases h
        exact indexByte_nat _ _
      · cases h
/-- for walks -/
noncomputable def X1 : EV := ⟨tbt.get, xbt.get, fbt.get, fun _ => false, fun _ _ => none, fun _ _ => none, nat0⟩
theorem X1ok : EVOk C0 X1 := ⟨tab, tabx, ftab, fun _ _ _ h => by simp [X1] at h, by kernel_rfl, fun _ _ _ h => by simp [X1] at h, nat0_ok⟩
theorem w1 : WOk C0 X1 := X1ok.w
theorem wI {z : Int} (h1 : -9223372036854775808 ≤ z) (h2 : z ≤ 9223372036854775807) : IntKind.i64.wrap z = z := by
  have e1 : (2 : Int) ^ IntKind.i64.bits = 18446744073709551616 := rfl
  have e2 : (2 : Int) ^ (IntKind.i64.bits - 1) = 9223372036854775808 := rfl
  unfold IntKind.wrap
  simp only [e1, e2]
  have e3 : IntKind.i64.signed = true := rfl
  rw [e3]
  simp only [Bool.true_and, decide_eq_true_eq]
  split <;> omega
theorem wN {n : Nat} (h : n ≤ 9223372036854775807) : IntKind.i64.wrap (n : Int) = n := wI (by omega) (by omega)
end Go.Ide

/- The Grade laws, part D: names. -/
namespace Go.Ide
open Go.Proofs Go.RowKit
set_option maxRecDepth 20000
/-- a byte that may stand in a name -/
def nameB (b : Nat) : Bool := ((decide (97 ≤ b) && decide (b ≤ 122)) || (decide (65 ≤ b) && decide (b ≤ 90))) || (decide (48 ≤ b) && decide (b ≤ 57)) || b == 45 || b == 95 || b == 46
def isNameL (l : List UInt8) : Bool := l.all (fun b => nameB b.toNat) && (decide (1 ≤ l.length) && decide (l.length ≤ 24))
theorem getB (s : ByteArray) (p : Nat) (hp : p < s.size) : s.data.toList[p]? = some (s.get! p) := by
  have hp' : p < s.data.size := hp
  rw [Array.getElem?_toList, Array.getElem?_eq_getElem hp']
  congr 1
  show _ = s.data[p]!
  rw [getElem!_pos s.data p hp']
theorem dec_low (s : ByteArray) (p : Nat) (h : (s.get! p).toNat < 128) : Utf8.decode s p = ((s.get! p).toNat, 1) := by
  unfold Utf8.decode
  exact if_pos h
theorem dec_high (s : ByteArray) (p : Nat) (h : ¬ (s.get! p).toNat < 128) : 128 ≤ (Utf8.decode s p).1 := by
  unfold Utf8.decode
  dsimp only
  simp only [Nat.add_zero]
  rw [if_neg h]
  have hv : 128 ≤ Utf8.runeError := by decide
  repeat' split
  all_goals first | exact hv | (rename_i h1; simp only [ge_iff_le, Bool.and_eq_true, decide_eq_true_eq] at h1; dsimp only; omega)
theorem isName_ok (s : ByteArray) : ICalls C0 67 [str s] (boo (isNameL s.data.toList)) := by
  refine ICallP.walk w1 fok67 rfl fun B => ?_
  have hsz : s.data.toList.length = s.size := Array.length_toList
  refine OkS.seq ?_
  refine OkS.reg w1 0 (by kernel_rfl) ?_
  refine nxI ?_
  refine OkS.seq ?_
  refine OkS.seq ?_
  refine OkS.regRange w1 100 [0] 1 rfl (by kernel_rfl) rfl ?_
  refine nxI ?_
  intro F hF
  refine dsI ?_
  refine OkS.block ?_
  refine OkS.loopF (α := Nat × Nat) (fun p => ⟨[(0, str s), (7, .optr 101 2 0 0 0)], [], p.2⟩) (fun p => s.size - p.1) (fun p F => IterAt C0 B F 101 2 s p.1 ∧ p.1 ≤ s.size ∧ (s.data.toList.take p.1).all (fun b => nameB b.toNat) = true) (0, 3) ⟨hF, Nat.zero_le _, rfl⟩ wkI ?_
  rintro ⟨p, n⟩ F ⟨hIt, hp, hall⟩
  dsimp only at hIt hp hall ⊢
  refine OkS.seq ?_
  refine OkS.regNext w1 200 0 [1] rfl (by kernel_rfl) s p ?_
  refine And.intro hIt (And.intro (fun hlt F hIt => ?_) (fun hge => ?_))
  · refine nxI ?_
    generalize hc : (Utf8.decode s p).1 = c
    refine OkS.seq ?_
    refine OkS.cond ?_
    refine dsI ?_
    refine OkS.skip ?_
    refine dsI ?_
    refine OkS.block ?_
    refine OkS.seq ?_
    refine OkS.reg w1 300 (by kernel_rfl) ?_
    refine nxI ?_
    refine OkS.seqW ⟨[(0, str s), (7, .optr 101 2 0 0 0), (4, .prim (.int .i32 c)), (5, boo ((decide ((c : Int) ≥ 97) && decide ((c : Int) ≤ 122)) || (decide ((c : Int) ≥ 65) && decide ((c : Int) ≤ 90))))], [], n + 30⟩ (OkS.reg w1 400 (by kernel_rfl) ?_) ?_
    · repeat' (first | (refine And.intro (by exact sdI) ?_; refine dsI ?_) | ((refine brI (fun hb => ?_) (fun hb => ?_)) <;> (try simp only [Bool.not_eq_true', Bool.not_eq_false'] at hb) <;> (try simp only [hb]) <;> (refine dsI ?_)))
      all_goals exact wkI
    generalize hL : ((decide ((c : Int) ≥ 97) && decide ((c : Int) ≤ 122)) || (decide ((c : Int) ≥ 65) && decide ((c : Int) ≤ 90))) = L
    refine OkS.seqW ⟨[(0, str s), (7, .optr 101 2 0 0 0), (47, boo ((((!L && !(decide ((c : Int) ≥ 48) && decide ((c : Int) ≤ 57))) && ((c : Int) != 45)) && ((c : Int) != 95)) && ((c : Int) != 46)))], [], n + 60⟩ (OkS.reg w1 500 (by kernel_rfl) ?_) ?_
    · repeat' (first | (refine And.intro (by exact sdI) ?_; refine dsI ?_) | ((refine brI (fun hb => ?_) (fun hb => ?_)) <;> (try simp only [Bool.not_eq_true', Bool.not_eq_false'] at hb) <;> (try simp only [hb]) <;> (refine dsI ?_)))
      all_goals exact wkI
    have hbad : ((((!L && !(decide ((c : Int) ≥ 48) && decide ((c : Int) ≤ 57))) && ((c : Int) != 45)) && ((c : Int) != 95)) && ((c : Int) != 46)) = !(nameB c) := by
      subst hL
      rw [Bool.eq_iff_iff]
      simp only [nameB, Bool.and_eq_true, Bool.not_eq_true', Bool.or_eq_false_iff, Bool.and_eq_false_iff, decide_eq_false_iff_not, bne_iff_ne, ne_eq, beq_eq_false_iff_ne]
      omega
    rw [hbad]
    refine OkS.cond ?_
    refine dsI ?_
    (refine brI (fun hb => ?_) (fun hb => ?_)) <;> (try simp only [Bool.not_eq_true', Bool.not_eq_false'] at hb) <;> (try simp only [hb])
    · have hbf : nameB c = false := by simpa using hb
      refine OkS.seq ?_
      refine OkS.reg w1 600 (by kernel_rfl) ?_
      refine nxI ?_
      refine OkS.ret ?_
      refine And.intro (by exact sdI) ?_
      refine dsI ?_
      refine exact_res ?_ IsPure.out
      have hb8 : nameB (s.get! p).toNat = false := by
        by_cases hlow : (s.get! p).toNat < 128
        · rw [dec_low s p hlow] at hc
          rw [show (s.get! p).toNat = c from hc]; exact hbf
        · unfold nameB; simp; omega
      have : isNameL s.data.toList = false := by
        unfold isNameL
        have : s.data.toList.all (fun b => nameB b.toNat) = false := by
          rw [List.all_eq_false]
          exact ⟨_, List.mem_of_getElem? (getB s p hlt), by rw [hb8]; simp⟩
        rw [this]; rfl
      rw [this]
    · have hbt : nameB c = true := by simpa using hb
      have hclt : c < 128 := by
        unfold nameB at hbt
        simp only [Bool.or_eq_true, Bool.and_eq_true, decide_eq_true_eq, beq_iff_eq] at hbt
        omega
      have hlow : (s.get! p).toNat < 128 := by
        apply Classical.byContradiction
        intro h
        have := dec_high s p h
        omega
      rw [dec_low s p hlow] at hc hIt
      refine OkS.skip ?_
      refine dsI ?_
      refine ⟨(p + 1, n + 60), ⟨hIt, hlt, ?_⟩, by dsimp only; omega, wkI⟩
      rw [List.take_add_one, getB s p hlt, List.all_append, hall]
      simp
      rw [show (s.get! p).toNat = c from hc]; exact hbt
  · have hpe : p = s.size := by omega
    refine nxI ?_
    refine OkS.seq ?_
    refine OkS.cond ?_
    refine dsI ?_
    refine OkS.exit ?_
    refine dsI ?_
    refine OkS.seqW ⟨[(2, boo (decide (1 ≤ (s.size : Int)) && decide ((s.size : Int) ≤ 24)))], [], n + 60⟩ (OkS.reg w1 700 (by kernel_rfl) ?_) ?_
    · repeat' (first | (refine And.intro (by exact sdI) ?_; refine dsI ?_) | ((refine brI (fun hb => ?_) (fun hb => ?_)) <;> (try simp only [Bool.not_eq_true', Bool.not_eq_false'] at hb) <;> (try simp only [hb]) <;> (refine dsI ?_)))
      all_goals exact wkI
    refine OkS.ret ?_
    refine And.intro (by exact sdI) ?_
    refine dsI ?_
    refine exact_res ?_ IsPure.out
    have hall' : s.data.toList.all (fun b => nameB b.toNat) = true := by rw [← hall, hpe, ← hsz, List.take_length]
    unfold isNameL
    rw [hall', Bool.true_and, hsz]
    have e : (decide (1 ≤ (s.size : Int)) && decide ((s.size : Int) ≤ 24)) = (decide (1 ≤ s.size) && decide (s.size ≤ 24)) := by
      rw [Bool.eq_iff_iff]
      simp only [Bool.and_eq_true, decide_eq_true_eq]
      omega
    rw [← e]
end Go.Ide

/- The Grade laws, part E: small integers and fractions of the program's package num. -/
namespace Go.Ide
open Go.Proofs Go.RowKit
set_option maxRecDepth 20000
theorem of_ok (n : Int) : ICalls C0 156 [i64 n] (smI n) := by
  refine ICallP.walk w1 fok156 rfl fun F => ?_
  refine OkS.seq ?_
  refine OkS.reg w1 0 (by kernel_rfl) ?_
  refine nxI ?_
  refine OkS.seq ?_
  refine OkS.reg w1 100 (by kernel_rfl) ?_
  refine nxI ?_
  refine OkS.ret ?_
  refine And.intro (by exact sdI) ?_
  refine dsI ?_
  exact exact_res rfl (IsPure.out (d := smI n))
theorem sign_sm (z : Int) : ICalls C0 144 [smI z] (i64 (max (-1) (min 1 z))) := by
  refine ICallP.walk w1 fok144 rfl fun F => ?_
  refine OkS.seq ?_
  refine OkS.reg w1 0 (by kernel_rfl) ?_
  refine nxI ?_
  refine OkS.seq ?_
  refine OkS.reg w1 100 (by kernel_rfl) ?_
  refine nxI ?_
  refine OkS.ret ?_
  refine And.intro (by exact sdI) ?_
  refine dsI ?_
  exact exact_res rfl IsPure.out
theorem abs_sm (n : Nat) : ICalls C0 196 [smI n] (smI n) := by
  refine ICallP.walk w1 fok196 rfl fun F => ?_
  refine OkS.seq ?_
  refine OkS.reg w1 0 (by kernel_rfl) ?_
  refine nxI ?_
  refine OkS.seq ?_
  refine OkS.seq ?_
  refine OkS.reg w1 100 (by kernel_rfl) ?_
  refine nxI ?_
  refine OkS.cond ?_
  refine dsI ?_
  (refine brI (fun h5 => ?_) (fun h5 => ?_)) <;> (try simp only [Bool.not_eq_true', Bool.not_eq_false'] at h5) <;> (try simp only [h5])
  · have h : (n : Int) < 0 := by simpa using h5
    omega
  · refine OkS.skip ?_
    refine dsI ?_
    refine OkS.seq ?_
    refine OkS.reg w1 300 (by kernel_rfl) ?_
    refine nxI ?_
    refine OkS.ret ?_
    refine And.intro (by exact sdI) ?_
    refine dsI ?_
    exact exact_res rfl IsPure.out
theorem divmod_sm (a b : Nat) (hb : 0 < b) (h1 : a ≤ 9223372036854775807) (h2 : b ≤ 9223372036854775807) : ICalls C0 197 [smI a, smI b] (.tup [smI (a / b : Nat), smI (a % b : Nat)]) := by
  refine ICallP.walk w1 fok197 rfl fun F => ?_
  refine OkS.seq ?_
  refine OkS.reg w1 0 (by kernel_rfl) ?_
  refine nxI ?_
  refine OkS.seq ?_
  refine OkS.seq ?_
  refine OkS.reg w1 100 (by kernel_rfl) ?_
  repeat' (first | (refine And.intro (by exact sdI) ?_; refine dsI ?_) | ((refine brI (fun hb => ?_) (fun hb => ?_)) <;> (try simp only [Bool.not_eq_true', Bool.not_eq_false'] at hb) <;> (try simp only [hb]) <;> (refine dsI ?_)))
  have e0 : ((a : Int) != -9223372036854775808) = true := by first | (simp; done) | (simp; omega)
  rw [e0]
  refine OkS.cond ?_
  refine dsI ?_
  refine OkS.seq ?_
  refine OkS.regD w1 200 [0, 1, 2, 3, 4, 5, 6, 7, 8, 9, 10] [11] (by kernel_rfl) ?_
  refine nxI ?_
  have q1 : (a : Int).tdiv b = ((a / b : Nat) : Int) := rfl
  have q2 : (a : Int).tmod b = ((a % b : Nat) : Int) := rfl
  have hq : a / b ≤ 9223372036854775807 := Nat.le_trans (Nat.div_le_self a b) h1
  simp (disch := assumption) only [q1, q2, wN]
  refine OkS.seq ?_
  refine OkS.seq ?_
  refine OkS.reg w1 300 (by kernel_rfl) ?_
  refine nxI ?_
  refine OkS.cond ?_
  refine dsI ?_
  have e1 : decide (((a % b : Nat) : Int) < 0) = false := by first | (simp; done) | (simp; omega)
  rw [e1]
  refine OkS.skip ?_
  refine dsI ?_
  refine OkS.seq ?_
  refine OkS.reg w1 500 (by kernel_rfl) ?_
  refine nxI ?_
  refine OkS.ret ?_
  refine And.intro (by exact sdI) ?_
  refine dsI ?_
  exact exact_res rfl IsPure.out
theorem quo_sm (a b : Nat) (hb : 0 < b) (h1 : a ≤ 9223372036854775807) (h2 : b ≤ 9223372036854775807) : ICalls C0 226 [smI a, smI b] (smI (a / b : Nat)) := by
  refine ICallP.walk w1 fok226 rfl fun F => ?_
  refine OkS.seq ?_
  refine OkS.reg w1 0 (by kernel_rfl) ?_
  refine nxI ?_
  refine OkS.seq ?_
  refine OkS.seq ?_
  refine OkS.reg w1 100 (by kernel_rfl) ?_
  refine nxI ?_
  refine CallO.same _ (sign_sm b) inferInstance ?_
  refine nxI ?_
  have e1 : decide (max (-1) (min 1 (b : Int)) < 0) = false := by first | (simp; done) | (simp; omega)
  rw [e1]
  refine OkS.cond ?_
  refine dsI ?_
  refine OkS.skip ?_
  refine dsI ?_
  refine OkS.seq ?_
  refine OkS.reg w1 300 (by kernel_rfl) ?_
  refine nxI ?_
  refine CallO.same _ (divmod_sm a b hb h1 h2) inferInstance ?_
  refine nxI ?_
  refine OkS.seq ?_
  refine OkS.reg w1 400 (by kernel_rfl) ?_
  refine nxI ?_
  refine OkS.ret ?_
  refine And.intro (by exact sdI) ?_
  refine dsI ?_
  exact exact_res rfl IsPure.out
theorem gcd_sm (a b : Nat) (h1 : a ≤ 9223372036854775807) (h2 : b ≤ 9223372036854775807) : ICalls C0 127 [smI a, smI b] (smI (Nat.gcd a b : Nat)) := by
  refine ICallP.walk w1 fok127 rfl fun F => ?_
  refine OkS.seq ?_
  refine OkS.reg w1 0 (by kernel_rfl) ?_
  refine nxI ?_
  refine OkS.seq ?_
  refine OkS.regD w1 100 [0, 1, 2] [3, 4, 5] (by kernel_rfl) ?_
  refine nxI ?_
  refine CallW.same _ (abs_sm a) inferInstance ?_
  refine nxI ?_
  refine CallO.same _ (abs_sm b) inferInstance ?_
  refine nxI ?_
  refine OkS.seq ?_
  refine OkS.block ?_
  refine OkS.loop (α := Nat × Nat × Nat) (fun p => ⟨[(2, .optr 0 0 2 0 0), (3, .optr 1 1 2 0 0), (4, .optr 2 2 2 0 0)], [⟨2, 2, 112, 2, [smI 0]⟩, ⟨1, 1, 112, 2, [smI p.2.1]⟩, ⟨0, 0, 112, 2, [smI p.1]⟩], p.2.2⟩) (fun p => p.2.1)
    (fun p => Nat.gcd p.1 p.2.1 = Nat.gcd a b ∧ p.1 ≤ 9223372036854775807 ∧ p.2.1 ≤ 9223372036854775807) (a, b, _) ⟨rfl, h1, h2⟩ wkI ?_
  rintro ⟨x, y, n⟩ F ⟨g1, g2, g3⟩
  dsimp only at g1 g2 g3 ⊢
  refine OkS.seq ?_
  refine OkS.seq ?_
  refine OkS.reg w1 200 (by kernel_rfl) ?_
  refine nxI ?_
  refine CallO.same _ (sign_sm y) inferInstance ?_
  refine nxI ?_
  refine OkS.cond ?_
  refine dsI ?_
  (refine brI (fun h13 => ?_) (fun h13 => ?_)) <;> (try simp only [Bool.not_eq_true', Bool.not_eq_false'] at h13) <;> (try simp only [h13])
  · have hy : 0 < y := by
      simp at h13; omega
    refine OkS.skip ?_
    refine dsI ?_
    refine OkS.block ?_
    refine OkS.seq ?_
    refine OkS.reg w1 300 (by kernel_rfl) ?_
    refine nxI ?_
    refine CallO.same _ (divmod_sm x y hy g2 g3) inferInstance ?_
    refine nxI ?_
    refine OkS.regW w1 400 [0, 1, 2] [3] 2 [0, 0] (0) (by kernel_rfl) (by kernel_rfl) ?_
    refine nxI ?_
    refine nxI ?_
    have hm : x % y < y := Nat.mod_lt x hy
    refine ⟨(y, x % y, _), ⟨?_, g3, by dsimp only; omega⟩, hm, wkI⟩
    rw [← g1, Nat.gcd_comm x y, Nat.gcd_rec y x, Nat.gcd_comm]
  · have hy : y = 0 := by
      apply Classical.byContradiction
      intro h0
      simp at h13; omega
    subst hy
    refine OkS.exit ?_
    refine dsI ?_
    refine OkS.seq ?_
    refine OkS.reg w1 500 (by kernel_rfl) ?_
    refine nxI ?_
    refine OkS.ret ?_
    refine And.intro (by exact sdI) ?_
    refine dsI ?_
    refine exact_res ?_ IsPure.out
    rw [← g1, Nat.gcd_zero_right]
theorem make_sm (a b : Nat) (hb : 0 < b) (h1 : a ≤ 9223372036854775807) (h2 : b ≤ 9223372036854775807) : ICalls C0 179 [smI a, smI b] (smF (a / Nat.gcd a b : Nat) (b / Nat.gcd a b : Nat)) := by
  refine ICallP.walk w1 fok179 rfl fun F => ?_
  have hg : 0 < Nat.gcd a b := Nat.gcd_pos_of_pos_right a hb
  have hgl : Nat.gcd a b ≤ b := Nat.gcd_le_right a hb
  refine OkS.seq ?_
  refine OkS.reg w1 0 (by kernel_rfl) ?_
  refine nxI ?_
  refine OkS.seq ?_
  refine OkS.seq ?_
  refine OkS.reg w1 100 (by kernel_rfl) ?_
  refine nxI ?_
  refine CallO.same _ (sign_sm b) inferInstance ?_
  refine nxI ?_
  have e1 : decide (max (-1) (min 1 (b : Int)) < 0) = false := by first | (simp; done) | (simp; omega)
  rw [e1]
  refine OkS.cond ?_
  refine dsI ?_
  refine OkS.skip ?_
  refine dsI ?_
  refine OkS.seq ?_
  refine OkS.seq ?_
  refine OkS.reg w1 300 (by kernel_rfl) ?_
  repeat' (first | (refine And.intro (by exact sdI) ?_; refine dsI ?_) | ((refine brI (fun hb => ?_) (fun hb => ?_)) <;> (try simp only [Bool.not_eq_true', Bool.not_eq_false'] at hb) <;> (try simp only [hb]) <;> (refine dsI ?_)))
  refine OkS.cond ?_
  refine dsI ?_
  (refine brI (fun hb1 => ?_) (fun hb1 => ?_)) <;> (try simp only [Bool.not_eq_true', Bool.not_eq_false'] at hb1) <;> (try simp only [hb1])
  · have hb1 : b = 1 := by
      have : (b : Int) = 1 := by simpa using hb1
      omega
    subst hb1
    refine OkS.seq ?_
    refine OkS.reg w1 400 (by kernel_rfl) ?_
    refine nxI ?_
    refine OkS.ret ?_
    refine And.intro (by exact sdI) ?_
    refine dsI ?_
    refine exact_res ?_ IsPure.out
    rw [Nat.gcd_one_right, Nat.div_one]
  · refine OkS.skip ?_
    refine dsI ?_
    refine OkS.seq ?_
    refine OkS.reg w1 500 (by kernel_rfl) ?_
    refine nxI ?_
    refine CallO.same _ (gcd_sm a b h1 h2) inferInstance ?_
    refine nxI ?_
    refine OkS.seq ?_
    refine OkS.regD w1 600 [0, 1, 2, 3, 4] [5, 6, 7] (by kernel_rfl) ?_
    refine nxI ?_
    refine CallW.same _ (quo_sm a (Nat.gcd a b) hg h1 (Nat.le_trans hgl h2)) inferInstance ?_
    refine nxI ?_
    refine CallO.same _ (quo_sm b (Nat.gcd a b) hg h2 (Nat.le_trans hgl h2)) inferInstance ?_
    refine nxI ?_
    refine OkS.ret ?_
    refine And.intro (by exact sdI) ?_
    refine dsI ?_
    exact exact_res rfl IsPure.out
theorem part_sm (n a b : Nat) (hb : 0 < b) (h1 : n * a ≤ 9223372036854775807) (h2 : b ≤ 9223372036854775807) : ICalls C0 110 [i64 n, i64 a, i64 b] (smF (n * a / Nat.gcd (n * a) b : Nat) (b / Nat.gcd (n * a) b : Nat)) := by
  refine ICallP.walk w1 fok110 rfl fun F => ?_
  refine OkS.seq ?_
  refine OkS.reg w1 0 (by kernel_rfl) ?_
  refine nxI ?_
  refine OkS.seq ?_
  refine OkS.reg w1 100 (by kernel_rfl) ?_
  refine nxI ?_
  have e1 : (n : Int) * (a : Int) = ((n * a : Nat) : Int) := by simp
  rw [e1, wN h1]
  refine CallO.same _ (of_ok (n * a : Nat)) inferInstance ?_
  refine nxI ?_
  refine CallO.same _ (of_ok b) inferInstance ?_
  refine nxI ?_
  refine CallO.same _ (make_sm (n * a) b hb h1 h2) inferInstance ?_
  refine nxI ?_
  refine OkS.ret ?_
  refine And.intro (by exact sdI) ?_
  refine dsI ?_
  exact exact_res rfl IsPure.out
theorem isWhole_sm (a b : Int) : ICalls C0 114 [smF a b] (boo (b == 1)) := by
  refine ICallP.walk w1 fok114 rfl fun F => ?_
  refine OkS.seq ?_
  refine OkS.reg w1 0 (by kernel_rfl) ?_
  refine nxI ?_
  refine OkS.seq ?_
  refine OkS.reg w1 100 (by kernel_rfl) ?_
  repeat' (first | (refine And.intro (by exact sdI) ?_; refine dsI ?_) | ((refine brI (fun hb => ?_) (fun hb => ?_)) <;> (try simp only [Bool.not_eq_true', Bool.not_eq_false'] at hb) <;> (try simp only [hb]) <;> (refine dsI ?_)))
  refine OkS.ret ?_
  refine And.intro (by exact sdI) ?_
  refine dsI ?_
  exact exact_res rfl IsPure.out
theorem string_sm (n : Int) (h0 : -9223372036854775808 ≤ n) (h1 : n ≤ 9223372036854775807) : ICalls C0 115 [smI n] (str ⟨(Lib.itoa n).toArray⟩) := by
  refine ICallP.walk w1 fok115 rfl fun F => ?_
  refine OkS.seq ?_
  refine OkS.reg w1 0 (by kernel_rfl) ?_
  refine nxI ?_
  refine OkS.seq ?_
  refine OkS.seq ?_
  refine OkS.reg w1 100 (by kernel_rfl) ?_
  refine nxI ?_
  refine OkS.cond ?_
  refine dsI ?_
  refine OkS.seq ?_
  refine OkS.reg w1 200 (by kernel_rfl) ?_
  refine nxI ?_
  refine CallO.same _ (itoa_ok n h0 h1) inferInstance ?_
  refine nxI ?_
  refine OkS.ret ?_
  refine And.intro (by exact sdI) ?_
  refine dsI ?_
  exact exact_res rfl IsPure.out
theorem decDigits_len : ∀ (k u : Nat), u < 10 ^ (k + 1) → (Lib.decDigits u).length ≤ k + 1
  | 0, u, h => by
    unfold Lib.decDigits
    rw [dif_pos (by simpa using h)]; simp
  | k + 1, u, h => by
    unfold Lib.decDigits
    split
    · simp
    · rw [List.length_append]
      have := decDigits_len k (u / 10) (by
        rw [Nat.pow_succ] at h
        omega)
      simp only [List.length_cons, List.length_nil]; omega
theorem itoa_len (n : Int) (h0 : -9223372036854775808 ≤ n) (h1 : n ≤ 9223372036854775807) : (Lib.itoa n).length ≤ 20 := by
  unfold Lib.itoa
  split
  · have := decDigits_len 18 n.natAbs (by omega)
    simp only [List.length_cons]; omega
  · have := decDigits_len 18 n.toNat (by omega)
    omega
theorem ba_app (a b : List UInt8) : (⟨a.toArray⟩ : ByteArray) ++ ⟨b.toArray⟩ = ⟨(a ++ b).toArray⟩ := by
  apply ByteArray.ext
  simp [ByteArray.data_append]
theorem ba_size (l : List UInt8) : (⟨l.toArray⟩ : ByteArray).size = l.length := by simp [ByteArray.size]
/-- the text of a fraction of small integers -/
def textL (a b : Int) : List UInt8 := if b = 1 then Lib.itoa a else Lib.itoa a ++ 47 :: Lib.itoa b
theorem text_sm (a b : Int) (ha0 : -9223372036854775808 ≤ a) (ha1 : a ≤ 9223372036854775807) (hb0 : -9223372036854775808 ≤ b) (hb1 : b ≤ 9223372036854775807) : ICalls C0 50 [smF a b] (str ⟨(textL a b).toArray⟩) := by
  refine ICallP.walk w1 fok50 rfl fun F => ?_
  refine OkS.seq ?_
  refine OkS.reg w1 0 (by kernel_rfl) ?_
  refine nxI ?_
  refine OkS.seq ?_
  refine OkS.seq ?_
  refine OkS.reg w1 100 (by kernel_rfl) ?_
  refine nxI ?_
  refine CallO.same _ (isWhole_sm a b) inferInstance ?_
  refine nxI ?_
  refine OkS.cond ?_
  refine dsI ?_
  (refine brI (fun h => ?_) (fun h => ?_)) <;> (try simp only [Bool.not_eq_true', Bool.not_eq_false'] at h) <;> (try simp only [h])
  · have h : b = 1 := by simpa using h
    refine OkS.seq ?_
    refine OkS.reg w1 200 (by kernel_rfl) ?_
    refine nxI ?_
    refine CallO.same _ (string_sm a ha0 ha1) inferInstance ?_
    refine nxI ?_
    refine OkS.ret ?_
    refine And.intro (by exact sdI) ?_
    refine dsI ?_
    refine exact_res ?_ IsPure.out
    unfold textL
    rw [if_pos h]
  · have h : ¬ b = 1 := by simpa using h
    refine OkS.skip ?_
    refine dsI ?_
    refine OkS.seq ?_
    refine OkS.regD w1 300 [0, 1, 2, 3, 4, 5, 6] [7, 8] (by kernel_rfl) ?_
    refine nxI ?_
    have ea := itoa_len a ha0 ha1
    have eb := itoa_len b hb0 hb1
    have sa : (⟨(Lib.itoa a).toArray⟩ : ByteArray).size ≤ 20 := by rw [ba_size]; exact ea
    have sb : (⟨(Lib.itoa b).toArray⟩ : ByteArray).size ≤ 20 := by rw [ba_size]; exact eb
    have s1 : (⟨#[47]⟩ : ByteArray).size = 1 := rfl
    have sc : ((⟨(Lib.itoa a).toArray⟩ : ByteArray) ++ ⟨#[47]⟩).size = (⟨(Lib.itoa a).toArray⟩ : ByteArray).size + (⟨#[47]⟩ : ByteArray).size := ByteArray.size_append
    refine CallW.same _ (string_sm a ha0 ha1) inferInstance ?_
    refine nxI ?_
    refine CallW.same _ (string_sm b hb0 hb1) inferInstance ?_
    refine nxI ?_
    refine OkS.ret ?_
    refine And.intro (by exact sdI) ?_
    refine dsI ?_
    refine exact_res ?_ IsPure.out
    unfold textL
    rw [if_neg h]
    have e47 : (⟨#[47]⟩ : ByteArray) = ⟨([47] : List UInt8).toArray⟩ := rfl
    rw [e47, ba_app, ba_app]; simp
end Go.Ide

/- The Grade laws, part F: machine integers of the reference's chapter 1. -/
namespace Go.Ide
open Go.Proofs Go.RowKit
set_option maxRecDepth 20000
theorem rgcd_ok (a b : Nat) (ha : a ≤ 9223372036854775807) (hb : b ≤ 9223372036854775807) : ICalls C0 85 [i64 a, i64 b] (i64 (Nat.gcd a b : Nat)) := by
  refine ICallP.walk w1 fok85 rfl fun F => ?_
  refine OkS.seq ?_
  refine OkS.reg w1 0 (by kernel_rfl) ?_
  refine nxI ?_
  refine OkS.seq ?_
  refine OkS.block ?_
  refine OkS.loop (α := Nat × Nat × Nat) (fun p => ⟨[(0, i64 p.1), (1, i64 p.2.1)], [], p.2.2⟩) (fun p => p.2.1) (fun p => Nat.gcd p.1 p.2.1 = Nat.gcd a b ∧ p.1 ≤ 9223372036854775807 ∧ p.2.1 ≤ 9223372036854775807) (a, b, _) ⟨rfl, ha, hb⟩ wkI ?_
  rintro ⟨x, y, n⟩ F ⟨h1, h2, h3⟩
  dsimp only at h1 h2 h3 ⊢
  refine OkS.seq ?_
  refine OkS.seq ?_
  refine OkS.reg w1 100 (by kernel_rfl) ?_
  refine nxI ?_
  refine OkS.cond ?_
  refine dsI ?_
  (refine brI (fun hy => ?_) (fun hy => ?_)) <;> (try simp only [Bool.not_eq_true', Bool.not_eq_false'] at hy) <;> (try simp only [hy])
  · have hy' : (y : Int) > 0 := by simpa using hy
    refine OkS.skip ?_
    refine dsI ?_
    refine OkS.block ?_
    refine OkS.regD w1 200 [0, 1, 2, 3, 4] [5] (by kernel_rfl) ?_
    refine nxI ?_
    have : (x : Int).tmod y = ((x % y : Nat) : Int) := rfl
    rw [this]
    refine ⟨(y, x % y, _), ⟨?_, h3, ?_⟩, ?_, wkI⟩
    · rw [← h1, Nat.gcd_comm x y, Nat.gcd_rec y x, Nat.gcd_comm]
    · have := Nat.mod_lt x (show y > 0 by omega); dsimp only; omega
    · exact Nat.mod_lt x (show y > 0 by omega)
  · have hy' : y = 0 := by simp at hy; omega
    subst hy'
    refine OkS.exit ?_
    refine dsI ?_
    refine OkS.seq ?_
    refine OkS.reg w1 300 (by kernel_rfl) ?_
    refine nxI ?_
    refine OkS.ret ?_
    refine And.intro (by exact sdI) ?_
    refine dsI ?_
    refine exact_res ?_ IsPure.out
    rw [← h1, Nat.gcd_zero_right]

/-- digits, at least so many -/
def padD (least : Nat) (l : List UInt8) : List UInt8 := List.replicate (least - l.length) 48 ++ l
/-- what decimal makes in the end -/
def decFin (least m : Nat) (s : List UInt8) : List UInt8 := padD least (if m = 0 then s else Lib.decDigits m ++ s)
theorem decFin_step (least m : Nat) (s : List UInt8) (h : 0 < m ∨ s.length < least) : decFin least (m / 10) (UInt8.ofNat (48 + m % 10) :: s) = decFin least m s := by
  unfold decFin
  by_cases h0 : m = 0
  · subst h0
    have hl : s.length < least := h.resolve_left (by omega)
    rw [if_pos (by omega), if_pos rfl]
    unfold padD
    obtain ⟨k, hk⟩ : ∃ k, least - s.length = k + 1 := ⟨least - s.length - 1, by omega⟩
    rw [hk, show least - (UInt8.ofNat (48 + 0 % 10) :: s).length = k from by simp; omega, List.replicate_succ']
    simp
  · rw [if_neg h0]
    by_cases h1 : m < 10
    · rw [if_pos (by omega)]
      have : Lib.decDigits m = [UInt8.ofNat (48 + m)] := by unfold Lib.decDigits; rw [dif_pos h1]
      rw [this, show m % 10 = m from by omega]; rfl
    · rw [if_neg (by omega)]
      have : Lib.decDigits m = Lib.decDigits (m / 10) ++ [UInt8.ofNat (48 + m % 10)] := by rw [Lib.decDigits]; rw [dif_neg h1]
      rw [this, List.append_assoc]; rfl
theorem digit_at (k : Nat) (hk : k < 10) : (⟨#[48, 49, 50, 51, 52, 53, 54, 55, 56, 57]⟩ : ByteArray).extract k (k + 1) = ⟨([UInt8.ofNat (48 + k)] : List UInt8).toArray⟩ := by
  match k, hk with
  | 0, _ => rfl
  | 1, _ => rfl
  | 2, _ => rfl
  | 3, _ => rfl
  | 4, _ => rfl
  | 5, _ => rfl
  | 6, _ => rfl
  | 7, _ => rfl
  | 8, _ => rfl
  | 9, _ => rfl
theorem decimal_ok (a least : Nat) (ha : a + least ≤ 9223372036854775807) : ICalls C0 86 [i64 a, i64 least] (str ⟨(decFin least a []).toArray⟩) := by
  refine ICallP.walk w1 fok86 rfl fun F => ?_
  refine OkS.seq ?_
  refine OkS.reg w1 0 (by kernel_rfl) ?_
  refine nxI ?_
  refine OkS.seq ?_
  refine OkS.reg w1 100 (by kernel_rfl) ?_
  refine nxI ?_
  refine OkS.seq ?_
  refine OkS.block ?_
  refine OkS.loop (α := Nat × List UInt8 × Nat) (fun p => ⟨[(0, i64 p.1), (1, i64 least), (5, str ⟨p.2.1.toArray⟩)], [], p.2.2⟩) (fun p => p.1 + (least - p.2.1.length))
    (fun p => decFin least p.1 p.2.1 = decFin least a [] ∧ p.1 + p.2.1.length ≤ a + least) (a, [], _) ⟨rfl, by simp⟩ wkI ?_
  rintro ⟨m, s, n⟩ F ⟨h1, h2⟩
  dsimp only at h1 h2 ⊢
  have hsz := ba_size s
  refine OkS.seq ?_
  refine OkS.seqW ⟨[(0, i64 m), (1, i64 least), (5, str ⟨s.toArray⟩), (13, boo (decide ((m : Int) > 0) || decide ((s.length : Int) < least)))], [], n + 30⟩ (OkS.reg w1 200 (by kernel_rfl) ?_) ?_
  · repeat' (first | (refine And.intro (by exact sdI) ?_; refine dsI ?_) | ((refine brI (fun hb => ?_) (fun hb => ?_)) <;> (try simp only [Bool.not_eq_true', Bool.not_eq_false'] at hb) <;> (try simp only [hb]) <;> (refine dsI ?_)))
    all_goals exact wkI
  refine OkS.cond ?_
  refine dsI ?_
  (refine brI (fun hc => ?_) (fun hc => ?_)) <;> (try simp only [Bool.not_eq_true', Bool.not_eq_false'] at hc) <;> (try simp only [hc])
  · have hc : 0 < m ∨ s.length < least := by
      simp at hc; omega
    refine OkS.skip ?_
    refine dsI ?_
    refine OkS.block ?_
    refine OkS.seq ?_
    have hm : (m : Int).tmod 10 = ((m % 10 : Nat) : Int) := rfl
    have e2 : IntKind.i64.wrap (((m % 10 : Nat) : Int) + 1) = ((m % 10 + 1 : Nat) : Int) := wI (by omega) (by omega)
    have hd := digit_at (m % 10) (by omega)
    have hs1 : (⟨([UInt8.ofNat (48 + m % 10)] : List UInt8).toArray⟩ : ByteArray).size = 1 := rfl
    have hlen : s.length + 1 ≤ 9223372036854775807 := by omega
    have hs10 : (⟨#[48, 49, 50, 51, 52, 53, 54, 55, 56, 57]⟩ : ByteArray).size = 10 := rfl
    refine OkS.reg w1 300 (by kernel_rfl) ?_
    refine And.intro (by (refine dsI ?_); (try simp only [hm, e2, Int.toNat_natCast, hd]); all_goals exact sdI) ?_
    refine dsI ?_
    try simp only [hm, e2, Int.toNat_natCast, hd]
    refine OkS.reg w1 400 (by kernel_rfl) ?_
    refine nxI ?_
    have hm4 : (m : Int).tdiv 10 = ((m / 10 : Nat) : Int) := rfl
    have hm5 : m / 10 ≤ 9223372036854775807 := by omega
    rw [hm4, wN hm5, ba_app, List.cons_append, List.nil_append]
    refine ⟨(m / 10, UInt8.ofNat (48 + m % 10) :: s, _), ⟨(decFin_step least m s hc).trans h1, ?_⟩, ?_, wkI⟩
    · simp only [List.length_cons]; omega
    · simp only [List.length_cons]; omega
  · have hc : m = 0 ∧ least ≤ s.length := by
      simp at hc; omega
    obtain ⟨rfl, hl⟩ := hc
    refine OkS.exit ?_
    refine dsI ?_
    refine OkS.seq ?_
    refine OkS.reg w1 500 (by kernel_rfl) ?_
    refine nxI ?_
    refine OkS.ret ?_
    refine And.intro (by exact sdI) ?_
    refine dsI ?_
    refine exact_res ?_ IsPure.out
    rw [← h1]
    unfold decFin padD
    rw [if_pos rfl, Nat.sub_eq_zero_of_le hl]; rfl
theorem dec_one (a : Nat) : decFin 1 a [] = Lib.decDigits a := by
  unfold decFin padD
  by_cases h : a = 0
  · subst h
    have : Lib.decDigits 0 = [48] := by unfold Lib.decDigits; rw [dif_pos (by decide)]; rfl
    rw [if_pos rfl, this]; rfl
  · rw [if_neg h, List.append_nil]
    have : (Lib.decDigits a).length ≠ 0 := by
      unfold Lib.decDigits; split <;> simp
    rw [show 1 - (Lib.decDigits a).length = 0 from by omega]; rfl
theorem rof_ok (a b : Nat) (ha : a ≤ 4000000000000000000) (hb0 : 0 < b) (hb : b ≤ 4000000000000000000) : ICalls C0 31 [i64 a, i64 b] (str ⟨(textL (a / Nat.gcd a b : Nat) (b / Nat.gcd a b : Nat)).toArray⟩) := by
  refine ICallP.walk w1 fok31 rfl fun F => ?_
  have hg : 0 < Nat.gcd a b := Nat.gcd_pos_of_pos_right a hb0
  have hgl : Nat.gcd a b ≤ b := Nat.gcd_le_right a hb0
  refine OkS.seq ?_
  refine OkS.reg w1 0 (by kernel_rfl) ?_
  refine nxI ?_
  refine OkS.seqW ⟨[(0, i64 a), (1, i64 b), (4, str ⟨#[]⟩)], [], 50⟩ ?_ ?_
  · refine OkS.seq ?_
    have l1 : (decide ((a : Int) < -4000000000000000000)) = false := by apply decide_eq_false; omega
    have l2 : (decide ((a : Int) > 4000000000000000000)) = false := by apply decide_eq_false; omega
    have l3 : (decide ((b : Int) < -4000000000000000000)) = false := by apply decide_eq_false; omega
    have l4 : (decide ((b : Int) > 4000000000000000000)) = false := by apply decide_eq_false; omega
    refine OkS.reg w1 100 (by kernel_rfl) ?_
    repeat' (first | (refine And.intro (by exact sdI) ?_; (refine dsI ?_); (try simp only [brB_t, brB_f, l1, l2, l3, l4])) | ((refine brI (fun hb => ?_) (fun hb => ?_)) <;> (try simp only [Bool.not_eq_true', Bool.not_eq_false'] at hb) <;> (try simp only [hb]) <;> (refine dsI ?_)))
    refine OkS.cond ?_
    refine dsI ?_
    refine OkS.skip ?_
    refine dsI ?_
    exact And.intro (by trivial) (wkI)
  refine OkS.seqW ⟨[(0, i64 a), (1, i64 b), (4, str ⟨#[]⟩)], [], 100⟩ ?_ ?_
  · refine OkS.seq ?_
    refine OkS.reg w1 300 (by kernel_rfl) ?_
    refine nxI ?_
    refine OkS.cond ?_
    refine dsI ?_
    have e27 : (decide ((b : Int) < 0)) = false := by simp
    rw [e27]
    refine OkS.skip ?_
    refine dsI ?_
    exact And.intro (by trivial) (wkI)
  refine OkS.seq ?_
  have m1 : max (a : Int) (IntKind.i64.wrap (0 - (a : Int))) = a := by rw [wI (by omega) (by omega)]; omega
  refine OkS.reg w1 500 (by kernel_rfl) ?_
  refine And.intro (by (refine dsI ?_); (try simp only [m1]); all_goals exact sdI) ?_
  refine dsI ?_
  try simp only [m1]
  refine CallO.same _ (rgcd_ok a b (by omega) (by omega)) inferInstance ?_
  refine nxI ?_
  refine OkS.seq ?_
  refine OkS.regD w1 600 [0, 1, 2, 3, 4, 5, 6] [7] (by kernel_rfl) ?_
  refine nxI ?_
  have q1 : (a : Int).tdiv (Nat.gcd a b : Nat) = ((a / Nat.gcd a b : Nat) : Int) := rfl
  have q2 : (b : Int).tdiv (Nat.gcd a b : Nat) = ((b / Nat.gcd a b : Nat) : Int) := rfl
  have q3 : a / Nat.gcd a b ≤ 4000000000000000000 := Nat.le_trans (Nat.div_le_self a _) (by omega)
  have q4 : b / Nat.gcd a b ≤ 4000000000000000000 := Nat.le_trans (Nat.div_le_self b _) (by omega)
  rw [q1, q2, wN (Nat.le_trans q3 (by decide)), wN (Nat.le_trans q4 (by decide))]
  have hx : 0 < b / Nat.gcd a b := Nat.div_pos hgl hg
  unfold textL
  generalize a / Nat.gcd a b = x at *
  generalize b / Nat.gcd a b = y at *
  refine OkS.seq ?_
  refine OkS.reg w1 700 (by kernel_rfl) ?_
  refine nxI ?_
  refine OkS.seqW ⟨[(0, i64 x), (1, i64 y), (4, str ⟨#[]⟩), (6, str ⟨#[]⟩)], [], 300⟩ ?_ ?_
  · refine OkS.seq ?_
    refine OkS.reg w1 800 (by kernel_rfl) ?_
    refine nxI ?_
    refine OkS.cond ?_
    refine dsI ?_
    have e45 : (decide ((x : Int) < 0)) = false := by simp
    rw [e45]
    refine OkS.skip ?_
    refine dsI ?_
    exact And.intro (by trivial) (wkI)
  refine OkS.seq ?_
  have m1 : max (x : Int) (IntKind.i64.wrap (0 - (x : Int))) = x := by rw [wI (by omega) (by omega)]; omega
  refine OkS.reg w1 1000 (by kernel_rfl) ?_
  refine And.intro (by (refine dsI ?_); (try simp only [m1]); all_goals exact sdI) ?_
  refine dsI ?_
  try simp only [m1]
  have c1 := decimal_ok x 1 (by omega)
  have c2 := decimal_ok y 1 (by omega)
  rw [dec_one] at c1 c2
  have s1 := decDigits_len 18 x (Nat.lt_of_le_of_lt q3 (by decide))
  have s2 := decDigits_len 18 y (Nat.lt_of_le_of_lt q4 (by decide))
  have z1 := ba_size (Lib.decDigits x)
  have z2 := ba_size (Lib.decDigits y)
  have z3 : (⟨#[]⟩ : ByteArray).size = 0 := rfl
  refine CallO.same _ (c1) inferInstance ?_
  refine nxI ?_
  have ez : (⟨#[]⟩ : ByteArray) ++ ⟨(Lib.decDigits x).toArray⟩ = ⟨(Lib.decDigits x).toArray⟩ := by
    rw [show (⟨#[]⟩ : ByteArray) = ⟨([] : List UInt8).toArray⟩ from rfl, ba_app]; rfl
  rw [ez]
  have ix : Lib.itoa (x : Int) = Lib.decDigits x := rfl
  have iy : Lib.itoa (y : Int) = Lib.decDigits y := rfl
  have y1 : ((y : Int) = 1) = (y = 1) := by apply propext; omega
  rw [ix, iy]
  simp only [y1]
  by_cases hy : y = 1
  · subst hy
    rw [if_pos rfl]
    refine OkS.seqW ⟨[(4, str ⟨#[]⟩), (6, str ⟨(Lib.decDigits x).toArray⟩)], [], 900⟩ ?_ ?_
    · refine OkS.seq ?_
      refine OkS.reg w1 1100 (by kernel_rfl) ?_
      refine nxI ?_
      refine OkS.cond ?_
      refine dsI ?_
      refine OkS.skip ?_
      refine dsI ?_
      exact And.intro (by trivial) (wkI)
    refine OkS.seq ?_
    refine OkS.reg w1 1300 (by kernel_rfl) ?_
    refine nxI ?_
    refine OkS.ret ?_
    refine And.intro (by exact sdI) ?_
    refine dsI ?_
    exact exact_res rfl IsPure.out
  · rw [if_neg hy]
    have e54 : (decide ((y : Int) > 1)) = true := by simp; omega
    refine OkS.seqW ⟨[(4, str ⟨#[]⟩), (6, str ⟨(Lib.decDigits x ++ 47 :: Lib.decDigits y).toArray⟩)], [], 1400⟩ ?_ ?_
    · refine OkS.seq ?_
      refine OkS.reg w1 1100 (by kernel_rfl) ?_
      refine nxI ?_
      refine OkS.cond ?_
      refine dsI ?_
      rw [e54]
      have s3 : (⟨#[47]⟩ : ByteArray).size = 1 := rfl
      have sc : ((⟨(Lib.decDigits x).toArray⟩ : ByteArray) ++ ⟨#[47]⟩).size = (⟨(Lib.decDigits x).toArray⟩ : ByteArray).size + (⟨#[47]⟩ : ByteArray).size := ByteArray.size_append
      refine OkS.reg w1 1200 (by kernel_rfl) ?_
      refine nxI ?_
      refine CallO.same _ (c2) inferInstance ?_
      refine nxI ?_
      have e47 : (⟨#[47]⟩ : ByteArray) = ⟨([47] : List UInt8).toArray⟩ := rfl
      rw [e47, ba_app, ba_app, List.append_assoc, List.cons_append, List.nil_append]
      exact And.intro (by trivial) (wkI)
    refine OkS.seq ?_
    refine OkS.reg w1 1300 (by kernel_rfl) ?_
    refine nxI ?_
    refine OkS.ret ?_
    refine And.intro (by exact sdI) ?_
    refine dsI ?_
    exact exact_res rfl IsPure.out
end Go.Ide

/- The Grade laws, part G: when, first, sides; the count of probes. -/
namespace Go.Ide
open Go.Proofs Go.RowKit
set_option maxRecDepth 20000
set_option linter.unusedSimpArgs false
theorem when_ok (b : Bool) (e : Int) : ICalls C0 48 [boo b, i64 e] (i64 (if b then e else 0)) := by
  refine ICallP.walk w1 fok48 rfl fun F => ?_
  refine OkS.seq ?_
  refine OkS.reg w1 0 (by kernel_rfl) ?_
  refine nxI ?_
  refine OkS.seq ?_
  refine OkS.seq ?_
  refine OkS.reg w1 100 (by kernel_rfl) ?_
  refine nxI ?_
  cases b
  · refine OkS.cond ?_
    refine dsI ?_
    refine OkS.skip ?_
    refine dsI ?_
    refine OkS.seq ?_
    refine OkS.reg w1 300 (by kernel_rfl) ?_
    refine nxI ?_
    refine OkS.ret ?_
    refine And.intro (by exact sdI) ?_
    refine dsI ?_
    exact exact_res rfl IsPure.out
  · refine OkS.cond ?_
    refine dsI ?_
    refine OkS.seq ?_
    refine OkS.reg w1 200 (by kernel_rfl) ?_
    refine nxI ?_
    refine OkS.ret ?_
    refine And.intro (by exact sdI) ?_
    refine dsI ?_
    exact exact_res rfl IsPure.out
/-- what a pair of sides answers -/
def sideB (l w : Int) : Bool := decide (l < 1) || decide (l > 100000) || decide (w < 1) || decide (w > 100000)
theorem sides_ok (l w : Int) : ICalls C0 49 [i64 l, i64 w] (i64 (if sideB l w then 3 else 0)) := by
  refine ICallP.walk w1 fok49 rfl fun F => ?_
  refine OkS.seq ?_
  refine OkS.reg w1 0 (by kernel_rfl) ?_
  refine nxI ?_
  refine OkS.seq ?_
  unfold sideB
  obtain ⟨b1, e1⟩ : ∃ b, decide (l < 1) = b := ⟨_, rfl⟩
  obtain ⟨b2, e2⟩ : ∃ b, decide (l > 100000) = b := ⟨_, rfl⟩
  obtain ⟨b3, e3⟩ : ∃ b, decide (w < 1) = b := ⟨_, rfl⟩
  obtain ⟨b4, e4⟩ : ∃ b, decide (w > 100000) = b := ⟨_, rfl⟩
  rw [e1, e2, e3, e4]
  rcases b1 with _ | _ <;> rcases b2 with _ | _ <;> rcases b3 with _ | _ <;> rcases b4 with _ | _
  all_goals
    refine OkS.reg w1 100 (by kernel_rfl) ?_
    repeat' (first | (refine And.intro (by exact sdI) ?_; (refine dsI ?_); (try simp only [brB_t, brB_f, e1, e2, e3, e4])) | ((refine brI (fun hb => ?_) (fun hb => ?_)) <;> (try simp only [Bool.not_eq_true', Bool.not_eq_false'] at hb) <;> (try simp only [hb]) <;> (refine dsI ?_)))
    refine CallO.same _ (when_ok _ 3) inferInstance ?_
    refine nxI ?_
    refine OkS.ret ?_
    refine And.intro (by exact sdI) ?_
    refine dsI ?_
    exact exact_res rfl IsPure.out
theorem rsides_ok (l w : Int) : ICalls C0 51 [i64 l, i64 w] (i64 (if sideB l w then 3 else 0)) := by
  refine ICallP.walk w1 fok51 rfl fun F => ?_
  refine OkS.seq ?_
  refine OkS.reg w1 0 (by kernel_rfl) ?_
  refine nxI ?_
  refine OkS.seq ?_
  unfold sideB
  obtain ⟨b1, e1⟩ : ∃ b, decide (l < 1) = b := ⟨_, rfl⟩
  obtain ⟨b2, e2⟩ : ∃ b, decide (l > 100000) = b := ⟨_, rfl⟩
  obtain ⟨b3, e3⟩ : ∃ b, decide (w < 1) = b := ⟨_, rfl⟩
  obtain ⟨b4, e4⟩ : ∃ b, decide (w > 100000) = b := ⟨_, rfl⟩
  rw [e1, e2, e3, e4]
  rcases b1 with _ | _ <;> rcases b2 with _ | _ <;> rcases b3 with _ | _ <;> rcases b4 with _ | _
  all_goals
    refine OkS.seq ?_
    refine OkS.reg w1 100 (by kernel_rfl) ?_
    repeat' (first | (refine And.intro (by exact sdI) ?_; (refine dsI ?_); (try simp only [brB_t, brB_f, e1, e2, e3, e4])) | ((refine brI (fun hb => ?_) (fun hb => ?_)) <;> (try simp only [Bool.not_eq_true', Bool.not_eq_false'] at hb) <;> (try simp only [hb]) <;> (refine dsI ?_)))
    refine OkS.cond ?_
    refine dsI ?_
  · refine OkS.skip ?_
    refine dsI ?_
    refine OkS.seq ?_
    refine OkS.reg w1 300 (by kernel_rfl) ?_
    refine nxI ?_
    refine OkS.ret ?_
    refine And.intro (by exact sdI) ?_
    refine dsI ?_
    exact exact_res rfl IsPure.out
  all_goals
    refine OkS.seq ?_
    refine OkS.reg w1 200 (by kernel_rfl) ?_
    refine nxI ?_
    refine OkS.ret ?_
    refine And.intro (by exact sdI) ?_
    refine dsI ?_
    exact exact_res rfl IsPure.out
/-- how many probes a mass wants; its trouble -/
def cntS (m : Int) : Int × Int := if m < 1 ∨ m > 999999999 then (0, 3) else if m ≤ 15000 then (5, 0) else if m ≤ 30000 then (8, 0) else (min (11 + 3 * ((m - 30001).tdiv 15000)) 64, 0)
theorem count_ok (m : Int) : ICalls C0 10 [i64 m] (.tup [i64 (cntS m).1, i64 (cntS m).2]) := by
  refine ICallP.walk w1 fok10 rfl fun F => ?_
  refine OkS.seq ?_
  refine OkS.reg w1 0 (by kernel_rfl) ?_
  refine nxI ?_
  refine OkS.seq ?_
  unfold cntS
  by_cases h1 : m < 1
  · have e1 : decide (m < 1) = true := decide_eq_true h1
    rw [if_pos (.inl h1)]
    refine OkS.block ?_
    refine OkS.seq ?_
    refine OkS.reg w1 100 (by kernel_rfl) ?_
    repeat' (first | (refine And.intro (by exact sdI) ?_; (refine dsI ?_); (try simp only [brB_t, brB_f, e1])) | ((refine brI (fun hb => ?_) (fun hb => ?_)) <;> (try simp only [Bool.not_eq_true', Bool.not_eq_false'] at hb) <;> (try simp only [hb]) <;> (refine dsI ?_)))
    refine OkS.cond ?_
    refine dsI ?_
    refine OkS.seq ?_
    refine OkS.reg w1 200 (by kernel_rfl) ?_
    refine nxI ?_
    refine OkS.ret ?_
    refine And.intro (by exact sdI) ?_
    refine dsI ?_
    exact exact_res rfl IsPure.out
  have e1 : decide (m < 1) = false := decide_eq_false h1
  by_cases h2 : m > 999999999
  · have e2 : decide (m > 999999999) = true := decide_eq_true h2
    rw [if_pos (.inr h2)]
    refine OkS.block ?_
    refine OkS.seq ?_
    refine OkS.reg w1 100 (by kernel_rfl) ?_
    repeat' (first | (refine And.intro (by exact sdI) ?_; (refine dsI ?_); (try simp only [brB_t, brB_f, e1, e2])) | ((refine brI (fun hb => ?_) (fun hb => ?_)) <;> (try simp only [Bool.not_eq_true', Bool.not_eq_false'] at hb) <;> (try simp only [hb]) <;> (refine dsI ?_)))
    refine OkS.cond ?_
    refine dsI ?_
    refine OkS.seq ?_
    refine OkS.reg w1 200 (by kernel_rfl) ?_
    refine nxI ?_
    refine OkS.ret ?_
    refine And.intro (by exact sdI) ?_
    refine dsI ?_
    exact exact_res rfl IsPure.out
  have e2 : decide (m > 999999999) = false := decide_eq_false h2
  rw [if_neg (fun h => h.elim h1 h2)]
  refine OkS.block ?_
  refine OkS.seq ?_
  refine OkS.reg w1 100 (by kernel_rfl) ?_
  repeat' (first | (refine And.intro (by exact sdI) ?_; (refine dsI ?_); (try simp only [brB_t, brB_f, e1, e2])) | ((refine brI (fun hb => ?_) (fun hb => ?_)) <;> (try simp only [Bool.not_eq_true', Bool.not_eq_false'] at hb) <;> (try simp only [hb]) <;> (refine dsI ?_)))
  refine OkS.cond ?_
  refine dsI ?_
  refine OkS.seq ?_
  refine OkS.reg w1 300 (by kernel_rfl) ?_
  refine nxI ?_
  refine OkS.cond ?_
  refine dsI ?_
  (refine brI (fun h11 => ?_) (fun h11 => ?_)) <;> (try simp only [Bool.not_eq_true', Bool.not_eq_false'] at h11) <;> (try simp only [h11])
  · rw [if_pos (of_decide_eq_true h11)]
    refine OkS.seq ?_
    refine OkS.reg w1 400 (by kernel_rfl) ?_
    refine nxI ?_
    refine OkS.ret ?_
    refine And.intro (by exact sdI) ?_
    refine dsI ?_
    exact exact_res rfl IsPure.out
  · rw [if_neg (of_decide_eq_false h11)]
    refine OkS.seq ?_
    refine OkS.reg w1 500 (by kernel_rfl) ?_
    refine nxI ?_
    refine OkS.cond ?_
    refine dsI ?_
    (refine brI (fun h14 => ?_) (fun h14 => ?_)) <;> (try simp only [Bool.not_eq_true', Bool.not_eq_false'] at h14) <;> (try simp only [h14])
    · rw [if_pos (of_decide_eq_true h14)]
      refine OkS.seq ?_
      refine OkS.reg w1 600 (by kernel_rfl) ?_
      refine nxI ?_
      refine OkS.ret ?_
      refine And.intro (by exact sdI) ?_
      refine dsI ?_
      exact exact_res rfl IsPure.out
    · have h14' := of_decide_eq_false h14
      rw [if_neg h14']
      refine OkS.skip ?_
      refine dsI ?_
      refine OkS.seq ?_
      have a1 : IntKind.i64.wrap (IntKind.i64.wrap (m - 30000) - 1) = m - 30001 := by rw [wI (z := m - 30000) (by omega) (by omega), wI (by omega) (by omega)]; omega
      have hq : 0 ≤ (m - 30001).tdiv 15000 ∧ (m - 30001).tdiv 15000 ≤ 100000 := by
        rw [Int.tdiv_eq_ediv_of_nonneg (by omega)]; omega
      have a2 : IntKind.i64.wrap ((m - 30001).tdiv 15000) = (m - 30001).tdiv 15000 := wI (by omega) (by omega)
      have a3 : IntKind.i64.wrap (3 * (m - 30001).tdiv 15000) = 3 * (m - 30001).tdiv 15000 := wI (by omega) (by omega)
      have a4 : IntKind.i64.wrap (11 + 3 * (m - 30001).tdiv 15000) = 11 + 3 * (m - 30001).tdiv 15000 := wI (by omega) (by omega)
      refine OkS.reg w1 700 (by kernel_rfl) ?_
      refine And.intro (by (refine dsI ?_); (try simp only [a1, a2, a3, a4]); all_goals exact sdI) ?_
      refine dsI ?_
      try simp only [a1, a2, a3, a4]
      refine OkS.ret ?_
      refine And.intro (by exact sdI) ?_
      refine dsI ?_
      exact exact_res rfl IsPure.out
theorem rcount_ok (m : Int) : ICalls C0 11 [i64 m] (.tup [i64 (cntS m).1, i64 (cntS m).2]) := by
  refine ICallP.walk w1 fok11 rfl fun F => ?_
  refine OkS.seq ?_
  refine OkS.reg w1 0 (by kernel_rfl) ?_
  refine nxI ?_
  refine OkS.seq ?_
  unfold cntS
  by_cases h1 : m < 1
  · have e1 : decide (m < 1) = true := decide_eq_true h1
    rw [if_pos (.inl h1)]
    refine OkS.seq ?_
    refine OkS.reg w1 100 (by kernel_rfl) ?_
    repeat' (first | (refine And.intro (by exact sdI) ?_; (refine dsI ?_); (try simp only [brB_t, brB_f, e1])) | ((refine brI (fun hb => ?_) (fun hb => ?_)) <;> (try simp only [Bool.not_eq_true', Bool.not_eq_false'] at hb) <;> (try simp only [hb]) <;> (refine dsI ?_)))
    refine OkS.cond ?_
    refine dsI ?_
    refine OkS.seq ?_
    refine OkS.reg w1 200 (by kernel_rfl) ?_
    refine nxI ?_
    refine OkS.ret ?_
    refine And.intro (by exact sdI) ?_
    refine dsI ?_
    exact exact_res rfl IsPure.out
  have e1 : decide (m < 1) = false := decide_eq_false h1
  by_cases h2 : m > 999999999
  · have e2 : decide (m > 999999999) = true := decide_eq_true h2
    rw [if_pos (.inr h2)]
    refine OkS.seq ?_
    refine OkS.reg w1 100 (by kernel_rfl) ?_
    repeat' (first | (refine And.intro (by exact sdI) ?_; (refine dsI ?_); (try simp only [brB_t, brB_f, e1, e2])) | ((refine brI (fun hb => ?_) (fun hb => ?_)) <;> (try simp only [Bool.not_eq_true', Bool.not_eq_false'] at hb) <;> (try simp only [hb]) <;> (refine dsI ?_)))
    refine OkS.cond ?_
    refine dsI ?_
    refine OkS.seq ?_
    refine OkS.reg w1 200 (by kernel_rfl) ?_
    refine nxI ?_
    refine OkS.ret ?_
    refine And.intro (by exact sdI) ?_
    refine dsI ?_
    exact exact_res rfl IsPure.out
  have e2 : decide (m > 999999999) = false := decide_eq_false h2
  rw [if_neg (fun h => h.elim h1 h2)]
  refine OkS.seq ?_
  refine OkS.reg w1 100 (by kernel_rfl) ?_
  repeat' (first | (refine And.intro (by exact sdI) ?_; (refine dsI ?_); (try simp only [brB_t, brB_f, e1, e2])) | ((refine brI (fun hb => ?_) (fun hb => ?_)) <;> (try simp only [Bool.not_eq_true', Bool.not_eq_false'] at hb) <;> (try simp only [hb]) <;> (refine dsI ?_)))
  refine OkS.cond ?_
  refine dsI ?_
  refine OkS.skip ?_
  refine dsI ?_
  refine OkS.seq ?_
  refine OkS.block ?_
  refine OkS.seq ?_
  refine OkS.reg w1 300 (by kernel_rfl) ?_
  refine nxI ?_
  refine OkS.cond ?_
  refine dsI ?_
  (refine brI (fun h11 => ?_) (fun h11 => ?_)) <;> (try simp only [Bool.not_eq_true', Bool.not_eq_false'] at h11) <;> (try simp only [h11])
  · rw [if_pos (of_decide_eq_true h11)]
    refine OkS.seq ?_
    refine OkS.reg w1 400 (by kernel_rfl) ?_
    refine nxI ?_
    refine OkS.ret ?_
    refine And.intro (by exact sdI) ?_
    refine dsI ?_
    exact exact_res rfl IsPure.out
  rw [if_neg (of_decide_eq_false h11)]
  refine OkS.seq ?_
  refine OkS.reg w1 500 (by kernel_rfl) ?_
  refine nxI ?_
  refine OkS.cond ?_
  refine dsI ?_
  (refine brI (fun h14 => ?_) (fun h14 => ?_)) <;> (try simp only [Bool.not_eq_true', Bool.not_eq_false'] at h14) <;> (try simp only [h14])
  · rw [if_pos (of_decide_eq_true h14)]
    refine OkS.seq ?_
    refine OkS.reg w1 600 (by kernel_rfl) ?_
    refine nxI ?_
    refine OkS.ret ?_
    refine And.intro (by exact sdI) ?_
    refine dsI ?_
    exact exact_res rfl IsPure.out
  have h14' := of_decide_eq_false h14
  rw [if_neg h14']
  have hq0 : (m - 30001).tdiv 15000 = (m - 30001) / 15000 := Int.tdiv_eq_ediv_of_nonneg (by omega)
  rw [hq0]
  refine OkS.seq ?_
  refine OkS.reg w1 700 (by kernel_rfl) ?_
  refine nxI ?_
  refine OkS.cond ?_
  refine dsI ?_
  (refine brI (fun h18 => ?_) (fun h18 => ?_)) <;> (try simp only [Bool.not_eq_true', Bool.not_eq_false'] at h18) <;> (try simp only [h18])
  · have h18' := of_decide_eq_true h18
    refine OkS.seq ?_
    refine OkS.reg w1 800 (by kernel_rfl) ?_
    refine nxI ?_
    refine OkS.ret ?_
    refine And.intro (by exact sdI) ?_
    refine dsI ?_
    refine exact_res ?_ IsPure.out
    rw [show (m - 30001) / 15000 = 0 from by omega]; rfl
  have h18' := of_decide_eq_false h18
  refine OkS.skip ?_
  refine dsI ?_
  refine OkS.seq ?_
  refine OkS.reg w1 900 (by kernel_rfl) ?_
  refine nxI ?_
  refine OkS.seq ?_
  refine OkS.seq ?_
  refine OkS.reg w1 1000 (by kernel_rfl) ?_
  refine nxI ?_
  refine OkS.block ?_
  refine OkS.loop (α := Nat × Nat) (fun p => ⟨[(0, i64 m), (4, i64 (11 + 3 * p.1)), (5, i64 (45000 + 15000 * p.1))], [], p.2⟩) (fun p => 100 - p.1)
    (fun p => p.1 ≤ 18 ∧ 15000 * (p.1 : Int) ≤ m - 30001) (0, _) ⟨Nat.zero_le _, by dsimp only; omega⟩ wkI ?_
  rintro ⟨k, n⟩ F ⟨g1, g2⟩
  dsimp only at g1 g2 ⊢
  refine OkS.seq ?_
  refine OkS.seqW ⟨[(0, i64 m), (4, i64 (11 + 3 * k)), (5, i64 (45000 + 15000 * k)), (27, boo (decide (45000 + 15000 * (k : Int) < m) && decide (11 + 3 * (k : Int) < 64)))], [], n + 30⟩ ?_ ?_
  · refine OkS.reg w1 1100 (by kernel_rfl) ?_
    repeat' (first | (refine And.intro (by exact sdI) ?_; refine dsI ?_) | ((refine brI (fun hb => ?_) (fun hb => ?_)) <;> (try simp only [Bool.not_eq_true', Bool.not_eq_false'] at hb) <;> (try simp only [hb]) <;> (refine dsI ?_)))
    all_goals exact wkI
  refine OkS.cond ?_
  refine dsI ?_
  (refine brI (fun hc => ?_) (fun hc => ?_)) <;> (try simp only [Bool.not_eq_true', Bool.not_eq_false'] at hc) <;> (try simp only [hc])
  · simp only [Bool.and_eq_true, decide_eq_true_eq] at hc
    refine OkS.skip ?_
    refine dsI ?_
    refine OkS.seq ?_
    refine OkS.block ?_
    have a1 : IntKind.i64.wrap (11 + 3 * (k : Int) + 3) = 11 + 3 * ((k + 1 : Nat) : Int) := by rw [wI (by omega) (by omega)]; omega
    have a2 : IntKind.i64.wrap (45000 + 15000 * (k : Int) + 15000) = 45000 + 15000 * ((k + 1 : Nat) : Int) := by rw [wI (by omega) (by omega)]; omega
    refine OkS.reg w1 1300 (by kernel_rfl) ?_
    refine And.intro (by (refine dsI ?_); (try simp only [a1]); all_goals exact sdI) ?_
    refine dsI ?_
    try simp only [a1]
    refine OkS.reg w1 1200 (by kernel_rfl) ?_
    refine And.intro (by (refine dsI ?_); (try simp only [a2]); all_goals exact sdI) ?_
    refine dsI ?_
    try simp only [a2]
    refine ⟨(k + 1, _), ⟨?_, ?_⟩, ?_, wkI⟩
    · dsimp only; omega
    · dsimp only; omega
    · dsimp only; omega
  · simp only [Bool.and_eq_false_iff, decide_eq_false_iff_not] at hc
    refine OkS.exit ?_
    refine dsI ?_
    by_cases hk : 11 + 3 * (k : Int) > 64
    · have e33 : decide (11 + 3 * (k : Int) > 64) = true := decide_eq_true hk
      refine OkS.seqW ⟨[(4, i64 64)], [], n + 100⟩ ?_ ?_
      · refine OkS.seq ?_
        refine OkS.reg w1 1400 (by kernel_rfl) ?_
        refine nxI ?_
        refine OkS.cond ?_
        refine dsI ?_
        rw [e33]
        refine OkS.reg w1 1500 (by kernel_rfl) ?_
        refine nxI ?_
        exact And.intro (by trivial) (wkI)
      refine OkS.seq ?_
      refine OkS.reg w1 1600 (by kernel_rfl) ?_
      refine nxI ?_
      refine OkS.ret ?_
      refine And.intro (by exact sdI) ?_
      refine dsI ?_
      refine exact_res ?_ IsPure.out
      have : min (11 + 3 * ((m - 30001) / 15000)) 64 = 64 := by omega
      rw [this]
    · have e33 : decide (11 + 3 * (k : Int) > 64) = false := decide_eq_false hk
      refine OkS.seqW ⟨[(4, i64 (11 + 3 * k))], [], n + 100⟩ ?_ ?_
      · refine OkS.seq ?_
        refine OkS.reg w1 1400 (by kernel_rfl) ?_
        refine nxI ?_
        refine OkS.cond ?_
        refine dsI ?_
        rw [e33]
        refine OkS.skip ?_
        refine dsI ?_
        exact And.intro (by trivial) (wkI)
      refine OkS.seq ?_
      refine OkS.reg w1 1600 (by kernel_rfl) ?_
      refine nxI ?_
      refine OkS.ret ?_
      refine And.intro (by exact sdI) ?_
      refine dsI ?_
      refine exact_res ?_ IsPure.out
      have : min (11 + 3 * ((m - 30001) / 15000)) 64 = 11 + 3 * (k : Int) := by omega
      rw [this]
end Go.Ide

/- The Grade laws, part H: the designs' probes. -/
namespace Go.Ide
open Go.Proofs Go.RowKit
set_option maxRecDepth 20000
set_option linter.unusedSimpArgs false
/-- a list that grows: nothing, or an own block -/
def accD (K g sz : Nat) : List D → D
  | [] => nilS
  | _ :: l => .osl K g sz 0 (l.length + 1)
def accH (K g T sz : Nat) : List D → Hp
  | [] => []
  | x :: l => [⟨K, g, T, sz, x :: l⟩]
theorem accD_nil (K g sz : Nat) : accD K g sz [] = nilS := rfl
theorem accD_cons (K g sz : Nat) (x : D) (l : List D) : accD K g sz (x :: l) = .osl K g sz 0 (l.length + 1) := rfl
theorem accH_nil (K g T sz : Nat) : accH K g T sz [] = [] := rfl
theorem accH_cons (K g T sz : Nat) (x : D) (l : List D) : accH K g T sz (x :: l) = [⟨K, g, T, sz, x :: l⟩] := rfl
theorem accD_snoc (K g sz : Nat) (x y : D) (l : List D) : accD K g sz (x :: l ++ [y]) = .osl K g sz 0 (l.length + 1 + 1) := by simp [accD]
theorem fz_acc (K g T sz : Nat) (l : List D) : Fz (accH K g T sz l) [] (accD K g sz l) (.sl false sz l) := by
  cases l with
  | nil => exact .nil sz
  | cons x l =>
    refine .osl (e := ⟨K, g, T, sz, x :: l⟩) (by simp [accH, Hp.get]) rfl rfl rfl (by simp) (by simp) (fun j d d' h1 h2 => ?_) fun j d d' q c c' h1 h2 h3 h4 => ?_
    · rw [Nat.zero_add] at h1; rw [h1] at h2; cases h2; rfl
    · rw [Nat.zero_add] at h1; rw [h1] at h2; cases h2; rw [h3] at h4; cases h4; exact Fz.refl _
/-- a spot of the program: two fractions; of a / b, c / d -/
def spot (a b c d : Nat) : D := .agg [i64 (a / Nat.gcd a b : Nat), nilS, i64 (b / Nat.gcd a b : Nat), nilS, i64 (c / Nat.gcd c d : Nat), nilS, i64 (d / Nat.gcd c d : Nat), nilS]
instance (a b c d : Nat) : CellsPure (spot a b c d) := by unfold spot; exact inferInstance
theorem d1_ok (n L W : Nat) (hn : n ≤ 64) (hL : L ≤ 100000) (hW : W ≤ 100000) : ICalls C0 109 [i64 n, i64 L, i64 W] (.sl false 8 ((List.range n).map fun i => spot (L * (2 * i + 1)) (2 * n) (W * 1) 2)) := by
  refine ICallP.walk w1 fok109 rfl fun F => ?_
  refine OkS.seq ?_
  refine OkS.reg w1 0 (by kernel_rfl) ?_
  refine nxI ?_
  refine OkS.seq ?_
  refine OkS.reg w1 100 (by kernel_rfl) ?_
  refine nxI ?_
  refine OkS.seq ?_
  refine OkS.seq ?_
  refine OkS.reg w1 200 (by kernel_rfl) ?_
  refine nxI ?_
  refine OkS.block ?_
  refine OkS.loop (α := Nat × List D × Nat × Nat) (fun p => ⟨[(0, i64 n), (1, i64 L), (2, i64 W), (7, accD 512 p.2.2.1 8 p.2.1), (9, i64 n), (10, i64 p.1)], accH 512 p.2.2.1 116 8 p.2.1, p.2.2.2⟩) (fun p => n - p.1)
    (fun p => p.1 ≤ n ∧ p.2.1 = (List.range p.1).map fun i => spot (L * (2 * i + 1)) (2 * n) (W * 1) 2) (0, [], 0, _) ⟨Nat.zero_le _, rfl⟩ wkI ?_
  rintro ⟨i, l, g, m⟩ F ⟨h1, h2⟩
  dsimp only at h1 h2 ⊢
  refine OkS.seq ?_
  refine OkS.reg w1 300 (by kernel_rfl) ?_
  refine nxI ?_
  refine OkS.seq ?_
  refine OkS.cond ?_
  refine dsI ?_
  (refine brI (fun hc => ?_) (fun hc => ?_)) <;> (try simp only [Bool.not_eq_true', Bool.not_eq_false'] at hc) <;> (try simp only [hc])
  · have hi : i < n := by simpa using hc
    refine OkS.skip ?_
    refine dsI ?_
    refine OkS.seq ?_
    refine OkS.block ?_
    refine OkS.seq ?_
    refine OkS.reg w1 400 (by kernel_rfl) ?_
    refine nxI ?_
    have a1 : IntKind.i64.wrap (IntKind.i64.wrap (2 * (i : Int)) + 1) = ((2 * i + 1 : Nat) : Int) := by rw [wI (z := 2 * (i : Int)) (by omega) (by omega), wI (by omega) (by omega)]; omega
    have a2 : IntKind.i64.wrap (2 * (n : Int)) = ((2 * n : Nat) : Int) := by rw [wI (by omega) (by omega)]; omega
    have b1 : L * (2 * i + 1) ≤ 100000 * 129 := Nat.mul_le_mul hL (by omega)
    have c1 := part_sm L (2 * i + 1) (2 * n) (by omega) (by omega) (by omega)
    have c2 := part_sm W 1 2 (by omega) (by omega) (by omega)
    have hln : l.length = i := by rw [h2]; simp
    have hl2 : l ++ [spot (L * (2 * i + 1)) (2 * n) (W * 1) 2] = (List.range (i + 1)).map fun i => spot (L * (2 * i + 1)) (2 * n) (W * 1) 2 := by
      rw [h2, List.range_succ, List.map_append]; rfl
    clear h2
    have hle : l.length ≤ 64 := by omega
    rcases l with _ | ⟨x, l⟩
    all_goals
      (try simp only [List.length_cons] at hle)
      dsimp only [accD_nil, accH_nil, accD_cons, accH_cons]
      refine OkS.reg w1 500 (by kernel_rfl) ?_
      refine And.intro (by (refine dsI ?_); (try simp only [a1, a2]); all_goals exact sdI) ?_
      refine dsI ?_
      try simp only [a1, a2]
      refine CallO.same _ (c1) inferInstance ?_
      refine nxI ?_
      refine CallO.same _ (c2) inferInstance ?_
      refine nxI ?_
    · refine OkS.reg w1 600 (by kernel_rfl) ?_
      refine nxI ?_
      have a3 : IntKind.i64.wrap ((i : Int) + 1) = ((i + 1 : Nat) : Int) := wI (by omega) (by omega)
      rw [a3]
      refine ⟨(i + 1, _, _, _), ⟨hi, hl2⟩, ?_, wkI⟩
      dsimp only; omega
    · refine OkS.reg w1 600 (by kernel_rfl) ?_
      refine nxI ?_
      have a3 : IntKind.i64.wrap ((i : Int) + 1) = ((i + 1 : Nat) : Int) := wI (by omega) (by omega)
      rw [a3]
      have htk : List.take (l.length + 1) (x :: l) = x :: l := by simp
      rw [htk]
      refine ⟨(i + 1, x :: l ++ [spot (L * (2 * i + 1)) (2 * n) (W * 1) 2], _, _), ⟨hi, hl2⟩, by (dsimp only; omega), by (dsimp only; rw [accD_snoc]; exact wkI)⟩
  · have hi : i = n := by
      have : ¬ i < n := by simpa using hc
      omega
    subst hi
    refine OkS.exit ?_
    refine dsI ?_
    refine OkS.seq ?_
    refine OkS.reg w1 700 (by kernel_rfl) ?_
    refine nxI ?_
    refine OkS.ret ?_
    refine And.intro (by exact sdI) ?_
    refine dsI ?_
    subst h2
    exact ⟨_, fz_acc _ _ _ _ _, IsPure.out, rfl⟩
theorem d2_ok (n L W : Nat) (hn : n ≤ 64) (hL : L ≤ 100000) (hW : W ≤ 100000) : ICalls C0 111 [i64 n, i64 L, i64 W] (.sl false 8 ((List.range n).map fun i => spot (L * (2 * i + 1)) (2 * n) (W * (1 + i % 2)) 3)) := by
  refine ICallP.walk w1 fok111 rfl fun F => ?_
  refine OkS.seq ?_
  refine OkS.reg w1 0 (by kernel_rfl) ?_
  refine nxI ?_
  refine OkS.seq ?_
  refine OkS.reg w1 100 (by kernel_rfl) ?_
  refine nxI ?_
  refine OkS.seq ?_
  refine OkS.seq ?_
  refine OkS.reg w1 200 (by kernel_rfl) ?_
  refine nxI ?_
  refine OkS.block ?_
  refine OkS.loop (α := Nat × List D × Nat × Nat) (fun p => ⟨[(0, i64 n), (1, i64 L), (2, i64 W), (7, accD 515 p.2.2.1 8 p.2.1), (9, i64 n), (10, i64 p.1)], accH 515 p.2.2.1 116 8 p.2.1, p.2.2.2⟩) (fun p => n - p.1)
    (fun p => p.1 ≤ n ∧ p.2.1 = (List.range p.1).map fun i => spot (L * (2 * i + 1)) (2 * n) (W * (1 + i % 2)) 3) (0, [], 0, _) ⟨Nat.zero_le _, rfl⟩ wkI ?_
  rintro ⟨i, l, g, m⟩ F ⟨h1, h2⟩
  dsimp only at h1 h2 ⊢
  refine OkS.seq ?_
  refine OkS.reg w1 300 (by kernel_rfl) ?_
  refine nxI ?_
  refine OkS.seq ?_
  refine OkS.cond ?_
  refine dsI ?_
  (refine brI (fun hc => ?_) (fun hc => ?_)) <;> (try simp only [Bool.not_eq_true', Bool.not_eq_false'] at hc) <;> (try simp only [hc])
  · have hi : i < n := by simpa using hc
    refine OkS.skip ?_
    refine dsI ?_
    refine OkS.seq ?_
    refine OkS.block ?_
    refine OkS.seq ?_
    refine OkS.reg w1 400 (by kernel_rfl) ?_
    refine nxI ?_
    have a1 : IntKind.i64.wrap (IntKind.i64.wrap (2 * (i : Int)) + 1) = ((2 * i + 1 : Nat) : Int) := by rw [wI (z := 2 * (i : Int)) (by omega) (by omega), wI (by omega) (by omega)]; omega
    have a2 : IntKind.i64.wrap (2 * (n : Int)) = ((2 * n : Nat) : Int) := by rw [wI (by omega) (by omega)]; omega
    have a4 : (i : Int).tmod 2 = ((i % 2 : Nat) : Int) := rfl
    have a5 : IntKind.i64.wrap (1 + ((i % 2 : Nat) : Int)) = ((1 + i % 2 : Nat) : Int) := by rw [wI (by omega) (by omega)]; omega
    have b2 : W * (1 + i % 2) ≤ 100000 * 2 := Nat.mul_le_mul hW (by omega)
    have b1 : L * (2 * i + 1) ≤ 100000 * 129 := Nat.mul_le_mul hL (by omega)
    have c1 := part_sm L (2 * i + 1) (2 * n) (by omega) (by omega) (by omega)
    have c2 := part_sm W (1 + i % 2) 3 (by omega) (by omega) (by omega)
    have hln : l.length = i := by rw [h2]; simp
    have hl2 : l ++ [spot (L * (2 * i + 1)) (2 * n) (W * (1 + i % 2)) 3] = (List.range (i + 1)).map fun i => spot (L * (2 * i + 1)) (2 * n) (W * (1 + i % 2)) 3 := by
      rw [h2, List.range_succ, List.map_append]; rfl
    clear h2
    have hle : l.length ≤ 64 := by omega
    rcases l with _ | ⟨x, l⟩
    all_goals
      (try simp only [List.length_cons] at hle)
      dsimp only [accD_nil, accH_nil, accD_cons, accH_cons]
      refine OkS.reg w1 500 (by kernel_rfl) ?_
      refine And.intro (by (refine dsI ?_); (try simp only [a1, a2]); all_goals exact sdI) ?_
      refine dsI ?_
      try simp only [a1, a2]
      refine CallO.same _ (c1) inferInstance ?_
      refine nxI ?_
      rw [a4, a5]
      refine CallO.same _ (c2) inferInstance ?_
      refine nxI ?_
    · refine OkS.reg w1 600 (by kernel_rfl) ?_
      refine nxI ?_
      have a3 : IntKind.i64.wrap ((i : Int) + 1) = ((i + 1 : Nat) : Int) := wI (by omega) (by omega)
      rw [a3]
      refine ⟨(i + 1, _, _, _), ⟨hi, hl2⟩, ?_, wkI⟩
      dsimp only; omega
    · refine OkS.reg w1 600 (by kernel_rfl) ?_
      refine nxI ?_
      have a3 : IntKind.i64.wrap ((i : Int) + 1) = ((i + 1 : Nat) : Int) := wI (by omega) (by omega)
      rw [a3]
      have htk : List.take (l.length + 1) (x :: l) = x :: l := by simp
      rw [htk]
      refine ⟨(i + 1, x :: l ++ [spot (L * (2 * i + 1)) (2 * n) (W * (1 + i % 2)) 3], _, _), ⟨hi, hl2⟩, by (dsimp only; omega), by (dsimp only; rw [accD_snoc]; exact wkI)⟩
  · have hi : i = n := by
      have : ¬ i < n := by simpa using hc
      omega
    subst hi
    refine OkS.exit ?_
    refine dsI ?_
    refine OkS.seq ?_
    refine OkS.reg w1 700 (by kernel_rfl) ?_
    refine nxI ?_
    refine OkS.ret ?_
    refine And.intro (by exact sdI) ?_
    refine dsI ?_
    subst h2
    exact ⟨_, fz_acc _ _ _ _ _, IsPure.out, rfl⟩
instance {α : Type} (f : α → List D) (l : List α) [h : ∀ x, ElemsPure (f x)] : ElemsPure (l.flatMap f) := ⟨fun e he => by
  obtain ⟨x, _, hx⟩ := List.mem_flatMap.1 he
  exact (h x).out e hx⟩
/-- the grid's -/
def grow (n L W i : Nat) (k : Nat) : List D := (List.range k).map fun k => spot (L * (2 * i + 1)) (2 * n) (W * (2 * k + 1)) (2 * n)
instance (n L W i k : Nat) : ElemsPure (grow n L W i k) := by unfold grow; exact inferInstance
theorem grow_len (n L W i k : Nat) : (grow n L W i k).length = k := by simp [grow]
theorem gall_len (n L W i : Nat) : ((List.range i).flatMap fun i => grow n L W i n).length = i * n := by
  induction i with
  | zero => simp
  | succ i ih => rw [List.range_succ, List.flatMap_append, List.length_append, ih]; simp [grow_len]; rw [Nat.succ_mul]
theorem d3_ok (n L W : Nat) (hn : n ≤ 64) (hL : L ≤ 100000) (hW : W ≤ 100000) : ICalls C0 112 [i64 n, i64 L, i64 W] (.sl false 8 ((List.range n).flatMap fun i => grow n L W i n)) := by
  refine ICallP.walk w1 fok112 rfl fun F => ?_
  refine OkS.seq ?_
  refine OkS.reg w1 0 (by kernel_rfl) ?_
  refine nxI ?_
  refine OkS.seq ?_
  refine OkS.reg w1 100 (by kernel_rfl) ?_
  refine nxI ?_
  refine OkS.seq ?_
  refine OkS.seq ?_
  refine OkS.reg w1 200 (by kernel_rfl) ?_
  refine nxI ?_
  refine OkS.block ?_
  refine OkS.loop (α := Nat × List D × Nat × Nat) (fun p => ⟨[(0, i64 n), (1, i64 L), (2, i64 W), (7, accD 817 p.2.2.1 8 p.2.1), (10, i64 n), (11, i64 p.1)], accH 817 p.2.2.1 116 8 p.2.1, p.2.2.2⟩) (fun p => n - p.1)
    (fun p => p.1 ≤ n ∧ p.2.1 = (List.range p.1).flatMap fun i => grow n L W i n) (0, [], 0, _) ⟨Nat.zero_le _, rfl⟩ wkI ?_
  rintro ⟨i, l, g, m⟩ F ⟨h1, h2⟩
  dsimp only at h1 h2 ⊢
  refine OkS.seq ?_
  refine OkS.reg w1 300 (by kernel_rfl) ?_
  refine nxI ?_
  refine OkS.seq ?_
  refine OkS.cond ?_
  refine dsI ?_
  (refine brI (fun hc => ?_) (fun hc => ?_)) <;> (try simp only [Bool.not_eq_true', Bool.not_eq_false'] at hc) <;> (try simp only [hc])
  · have hi : i < n := by simpa using hc
    refine OkS.skip ?_
    refine dsI ?_
    refine OkS.seq ?_
    refine OkS.block ?_
    refine OkS.seq ?_
    refine OkS.reg w1 400 (by kernel_rfl) ?_
    refine nxI ?_
    refine OkS.seq ?_
    refine OkS.reg w1 500 (by kernel_rfl) ?_
    refine nxI ?_
    refine OkS.block ?_
    refine OkS.loop (α := Nat × List D × Nat × Nat) (fun p => ⟨[(0, i64 n), (1, i64 L), (2, i64 W), (7, accD 817 p.2.2.1 8 p.2.1), (8, i64 i), (10, i64 n), (11, i64 i), (14, i64 n), (15, i64 p.1)], accH 817 p.2.2.1 116 8 p.2.1, p.2.2.2⟩) (fun p => n - p.1)
      (fun p => p.1 ≤ n ∧ p.2.1 = ((List.range i).flatMap fun i => grow n L W i n) ++ grow n L W i p.1) (0, l, g, _) ⟨Nat.zero_le _, by simpa [grow] using h2⟩ wkI ?_
    clear h2
    rintro ⟨k, l, g, m⟩ F ⟨h3, h2⟩
    dsimp only at h3 h2 ⊢
    refine OkS.seq ?_
    refine OkS.reg w1 600 (by kernel_rfl) ?_
    refine nxI ?_
    refine OkS.seq ?_
    refine OkS.cond ?_
    refine dsI ?_
    (refine brI (fun hd => ?_) (fun hd => ?_)) <;> (try simp only [Bool.not_eq_true', Bool.not_eq_false'] at hd) <;> (try simp only [hd])
    · have hk : k < n := by simpa using hd
      refine OkS.skip ?_
      refine dsI ?_
      refine OkS.seq ?_
      refine OkS.block ?_
      refine OkS.seq ?_
      refine OkS.reg w1 700 (by kernel_rfl) ?_
      refine nxI ?_
      have a1 : IntKind.i64.wrap (IntKind.i64.wrap (2 * (i : Int)) + 1) = ((2 * i + 1 : Nat) : Int) := by rw [wI (z := 2 * (i : Int)) (by omega) (by omega), wI (by omega) (by omega)]; omega
      have a4 : IntKind.i64.wrap (IntKind.i64.wrap (2 * (k : Int)) + 1) = ((2 * k + 1 : Nat) : Int) := by rw [wI (z := 2 * (k : Int)) (by omega) (by omega), wI (by omega) (by omega)]; omega
      have a2 : IntKind.i64.wrap (2 * (n : Int)) = ((2 * n : Nat) : Int) := by rw [wI (by omega) (by omega)]; omega
      have b1 : L * (2 * i + 1) ≤ 100000 * 129 := Nat.mul_le_mul hL (by omega)
      have b2 : W * (2 * k + 1) ≤ 100000 * 129 := Nat.mul_le_mul hW (by omega)
      have c1 := part_sm L (2 * i + 1) (2 * n) (by omega) (by omega) (by omega)
      have c2 := part_sm W (2 * k + 1) (2 * n) (by omega) (by omega) (by omega)
      have hin : i * n ≤ 64 * 64 := Nat.mul_le_mul (by omega) hn
      have hln : l.length = i * n + k := by rw [h2, List.length_append, gall_len, grow_len]
      have hl2 : l ++ [spot (L * (2 * i + 1)) (2 * n) (W * (2 * k + 1)) (2 * n)] = ((List.range i).flatMap fun i => grow n L W i n) ++ grow n L W i (k + 1) := by
        rw [h2, List.append_assoc]
        congr 1
        unfold grow
        rw [List.range_succ, List.map_append]; rfl
      clear h2
      have hle : l.length ≤ 5000 := by omega
      rcases l with _ | ⟨x, l⟩
      all_goals
        (try simp only [List.length_cons] at hle)
        dsimp only [accD_nil, accH_nil, accD_cons, accH_cons]
        refine OkS.reg w1 800 (by kernel_rfl) ?_
        refine And.intro (by (refine dsI ?_); (try simp only [a1, a2]); all_goals exact sdI) ?_
        refine dsI ?_
        try simp only [a1, a2]
        refine CallO.same _ (c1) inferInstance ?_
        refine nxI ?_
        rw [a4, a2]
        refine CallO.same _ (c2) inferInstance ?_
        refine nxI ?_
      · refine OkS.reg w1 900 (by kernel_rfl) ?_
        refine nxI ?_
        have a3 : IntKind.i64.wrap ((k : Int) + 1) = ((k + 1 : Nat) : Int) := wI (by omega) (by omega)
        rw [a3]
        refine ⟨(k + 1, _, _, _), ⟨hk, hl2⟩, ?_, wkI⟩
        dsimp only; omega
      · refine OkS.reg w1 900 (by kernel_rfl) ?_
        refine nxI ?_
        have a3 : IntKind.i64.wrap ((k : Int) + 1) = ((k + 1 : Nat) : Int) := wI (by omega) (by omega)
        rw [a3]
        have htk : List.take (l.length + 1) (x :: l) = x :: l := by simp
        rw [htk]
        refine ⟨(k + 1, x :: l ++ [spot (L * (2 * i + 1)) (2 * n) (W * (2 * k + 1)) (2 * n)], _, _), ⟨hk, hl2⟩, by (dsimp only; omega), by (dsimp only; rw [accD_snoc]; exact wkI)⟩
    · have hk : k = n := by
        have : ¬ k < n := by simpa using hd
        omega
      subst hk
      refine OkS.exit ?_
      refine dsI ?_
      have a3 : IntKind.i64.wrap ((i : Int) + 1) = ((i + 1 : Nat) : Int) := wI (by omega) (by omega)
      refine OkS.reg w1 1000 (by kernel_rfl) ?_
      refine And.intro (by (refine dsI ?_); (try simp only [a3]); all_goals exact sdI) ?_
      refine dsI ?_
      try simp only [a3]
      refine ⟨(i + 1, l, g, _), ⟨hi, ?_⟩, ?_, wkI⟩
      · rw [h2, List.range_succ, List.flatMap_append]; simp
      · dsimp only; omega
  · have hi : i = n := by
      have : ¬ i < n := by simpa using hc
      omega
    subst hi
    refine OkS.exit ?_
    refine dsI ?_
    refine OkS.seq ?_
    refine OkS.reg w1 1100 (by kernel_rfl) ?_
    refine nxI ?_
    refine OkS.ret ?_
    refine And.intro (by exact sdI) ?_
    refine dsI ?_
    subst h2
    exact ⟨_, fz_acc _ _ _ _ _, IsPure.out, rfl⟩
/-- the five of a quincunx -/
def five (L W : Nat) : List D := [spot (L * 1) 4 (W * 1) 4, spot (L * 1) 4 (W * 3) 4, spot (L * 2) 4 (W * 2) 4, spot (L * 3) 4 (W * 1) 4, spot (L * 3) 4 (W * 3) 4]
instance (L W : Nat) : ElemsPure (five L W) := by unfold five; exact inferInstance
theorem d4_ok (n L W : Nat) (hL : L ≤ 100000) (hW : W ≤ 100000) : ICalls C0 113 [i64 n, i64 L, i64 W] (.sl false 8 (five L W)) := by
  refine ICallP.walk w1 fok113 rfl fun F => ?_
  refine OkS.seq ?_
  refine OkS.reg w1 0 (by kernel_rfl) ?_
  refine nxI ?_
  refine OkS.seq ?_
  refine OkS.reg w1 100 (by kernel_rfl) ?_
  refine nxI ?_
  refine OkS.seq ?_
  refine OkS.seq ?_
  refine OkS.reg w1 200 (by kernel_rfl) ?_
  refine nxI ?_
  refine OkS.block ?_
  refine OkS.loop (α := Nat × Nat × Nat) (fun p => ⟨[(1, i64 L), (2, i64 W), (7, accD 511 p.2.1 8 ((five L W).take p.1)), (15, .sl true 2 [.agg [i64 1, i64 1], .agg [i64 1, i64 3], .agg [i64 2, i64 2], .agg [i64 3, i64 1], .agg [i64 3, i64 3]]), (16, i64 5), (17, i64 p.1)], accH 511 p.2.1 116 8 ((five L W).take p.1), p.2.2⟩) (fun p => 5 - p.1)
    (fun p => p.1 ≤ 5) (0, 0, _) (Nat.zero_le _) wkI ?_
  rintro ⟨i, g, m⟩ F h1
  dsimp only at h1 ⊢
  have c1 := part_sm L 1 4 (by omega) (by omega) (by omega)
  have c2 := part_sm L 2 4 (by omega) (by omega) (by omega)
  have c3 := part_sm L 3 4 (by omega) (by omega) (by omega)
  have e1 := part_sm W 1 4 (by omega) (by omega) (by omega)
  have e2 := part_sm W 2 4 (by omega) (by omega) (by omega)
  have e3 := part_sm W 3 4 (by omega) (by omega) (by omega)
  refine OkS.seq ?_
  refine OkS.reg w1 300 (by kernel_rfl) ?_
  refine nxI ?_
  refine OkS.seq ?_
  refine OkS.cond ?_
  refine dsI ?_
  have h2 : i = 0 ∨ i = 1 ∨ i = 2 ∨ i = 3 ∨ i = 4 ∨ i = 5 := by omega
  have a3 : IntKind.i64.wrap ((i : Int) + 1) = ((i + 1 : Nat) : Int) := wI (by omega) (by omega)
  rcases h2 with rfl | rfl | rfl | rfl | rfl | rfl
  rotate_left 5
  · refine OkS.exit ?_
    refine dsI ?_
    refine OkS.seq ?_
    refine OkS.reg w1 700 (by kernel_rfl) ?_
    refine nxI ?_
    refine OkS.ret ?_
    refine And.intro (by exact sdI) ?_
    refine dsI ?_
    exact ⟨_, fz_acc _ _ _ _ _, (inferInstance : IsPure (.sl false 8 (five L W))).out, rfl⟩
  · refine OkS.skip ?_
    refine dsI ?_
    refine OkS.seq ?_
    refine OkS.block ?_
    refine OkS.seq ?_
    refine OkS.reg w1 400 (by kernel_rfl) ?_
    refine nxI ?_
    try dsimp only [five, List.take_succ_cons, List.take_zero, List.take_nil, accD_nil, accH_nil, accD_cons, accH_cons, List.length_cons, List.length_nil]
    refine ⟨⟨rfl, by omega⟩, _, rfl, ?_⟩
    refine dsI ?_
    try dsimp only [D.cells, spot]
    refine nxI ?_
    refine OkS.regD w1 500 [0, 1, 2, 3, 4, 5, 6, 7, 8, 9, 10] [11, 12] (by kernel_rfl) ?_
    refine nxI ?_
    refine CallW.same _ (c1) inferInstance ?_
    refine nxI ?_
    refine CallW.same _ (e1) inferInstance ?_
    refine nxI ?_
    refine OkS.reg w1 600 (by kernel_rfl) ?_
    refine And.intro (by (refine dsI ?_); (try simp only [a3]); all_goals exact sdI) ?_
    refine dsI ?_
    try simp only [a3]
    exact ⟨(1, _, _), (by dsimp only; omega), (by dsimp only; omega), wkI⟩
  · refine OkS.skip ?_
    refine dsI ?_
    refine OkS.seq ?_
    refine OkS.block ?_
    refine OkS.seq ?_
    refine OkS.reg w1 400 (by kernel_rfl) ?_
    refine nxI ?_
    try dsimp only [five, List.take_succ_cons, List.take_zero, List.take_nil, accD_nil, accH_nil, accD_cons, accH_cons, List.length_cons, List.length_nil]
    refine ⟨⟨rfl, by omega⟩, _, rfl, ?_⟩
    refine dsI ?_
    try dsimp only [D.cells, spot]
    refine nxI ?_
    refine OkS.regD w1 500 [0, 1, 2, 3, 4, 5, 6, 7, 8, 9, 10] [11, 12] (by kernel_rfl) ?_
    refine nxI ?_
    refine CallW.same _ (c1) inferInstance ?_
    refine nxI ?_
    refine CallW.same _ (e3) inferInstance ?_
    refine nxI ?_
    refine OkS.reg w1 600 (by kernel_rfl) ?_
    refine And.intro (by (refine dsI ?_); (try simp only [a3]); all_goals exact sdI) ?_
    refine dsI ?_
    try simp only [a3]
    exact ⟨(2, _, _), (by dsimp only; omega), (by dsimp only; omega), wkI⟩
  · refine OkS.skip ?_
    refine dsI ?_
    refine OkS.seq ?_
    refine OkS.block ?_
    refine OkS.seq ?_
    refine OkS.reg w1 400 (by kernel_rfl) ?_
    refine nxI ?_
    try dsimp only [five, List.take_succ_cons, List.take_zero, List.take_nil, accD_nil, accH_nil, accD_cons, accH_cons, List.length_cons, List.length_nil]
    refine ⟨⟨rfl, by omega⟩, _, rfl, ?_⟩
    refine dsI ?_
    try dsimp only [D.cells, spot]
    refine nxI ?_
    refine OkS.regD w1 500 [0, 1, 2, 3, 4, 5, 6, 7, 8, 9, 10] [11, 12] (by kernel_rfl) ?_
    refine nxI ?_
    refine CallW.same _ (c2) inferInstance ?_
    refine nxI ?_
    refine CallW.same _ (e2) inferInstance ?_
    refine nxI ?_
    refine OkS.reg w1 600 (by kernel_rfl) ?_
    refine And.intro (by (refine dsI ?_); (try simp only [a3]); all_goals exact sdI) ?_
    refine dsI ?_
    try simp only [a3]
    exact ⟨(3, _, _), (by dsimp only; omega), (by dsimp only; omega), wkI⟩
  · refine OkS.skip ?_
    refine dsI ?_
    refine OkS.seq ?_
    refine OkS.block ?_
    refine OkS.seq ?_
    refine OkS.reg w1 400 (by kernel_rfl) ?_
    refine nxI ?_
    try dsimp only [five, List.take_succ_cons, List.take_zero, List.take_nil, accD_nil, accH_nil, accD_cons, accH_cons, List.length_cons, List.length_nil]
    refine ⟨⟨rfl, by omega⟩, _, rfl, ?_⟩
    refine dsI ?_
    try dsimp only [D.cells, spot]
    refine nxI ?_
    refine OkS.regD w1 500 [0, 1, 2, 3, 4, 5, 6, 7, 8, 9, 10] [11, 12] (by kernel_rfl) ?_
    refine nxI ?_
    refine CallW.same _ (c3) inferInstance ?_
    refine nxI ?_
    refine CallW.same _ (e1) inferInstance ?_
    refine nxI ?_
    refine OkS.reg w1 600 (by kernel_rfl) ?_
    refine And.intro (by (refine dsI ?_); (try simp only [a3]); all_goals exact sdI) ?_
    refine dsI ?_
    try simp only [a3]
    exact ⟨(4, _, _), (by dsimp only; omega), (by dsimp only; omega), wkI⟩
  · refine OkS.skip ?_
    refine dsI ?_
    refine OkS.seq ?_
    refine OkS.block ?_
    refine OkS.seq ?_
    refine OkS.reg w1 400 (by kernel_rfl) ?_
    refine nxI ?_
    try dsimp only [five, List.take_succ_cons, List.take_zero, List.take_nil, accD_nil, accH_nil, accD_cons, accH_cons, List.length_cons, List.length_nil]
    refine ⟨⟨rfl, by omega⟩, _, rfl, ?_⟩
    refine dsI ?_
    try dsimp only [D.cells, spot]
    refine nxI ?_
    refine OkS.regD w1 500 [0, 1, 2, 3, 4, 5, 6, 7, 8, 9, 10] [11, 12] (by kernel_rfl) ?_
    refine nxI ?_
    refine CallW.same _ (c3) inferInstance ?_
    refine nxI ?_
    refine CallW.same _ (e3) inferInstance ?_
    refine nxI ?_
    refine OkS.reg w1 600 (by kernel_rfl) ?_
    refine And.intro (by (refine dsI ?_); (try simp only [a3]); all_goals exact sdI) ?_
    refine dsI ?_
    try simp only [a3]
    exact ⟨(5, _, _), (by dsimp only; omega), (by dsimp only; omega), wkI⟩
end Go.Ide

/- The Grade laws, part I: Pattern of the program. -/
namespace Go.Ide
open Go.Proofs Go.RowKit
set_option maxRecDepth 20000
set_option linter.unusedSimpArgs false
def mpK : D → List D
  | .mp k _ => k
  | _ => []
def mpV : D → List D
  | .mp _ v => v
  | _ => []
theorem evQ_look {tt : Nat → Option TInfo} {xt : Nat → Option XI} {g : Operand → D} {t : Nat} {x ix : Operand} {ok : Bool} {K V : List D} {a b : Nat} {z : Value} {s : ByteArray} {d : D} (h1 : xt t = some (.map a b z)) (h2 : g x = .mp K V) (h3 : g ix = .prim (.string s))
    (h4 : lookS s K V = some (some d)) : evQ tt xt g (.lookup t x ix ok) = some (okD ok d true, True) := by simp only [evQ, h1, h2, h3, h4]
theorem evQ_look0 {tt : Nat → Option TInfo} {xt : Nat → Option XI} {g : Operand → D} {t : Nat} {x ix : Operand} {ok : Bool} {K V : List D} {a b : Nat} {z : Value} {s : ByteArray} (h1 : xt t = some (.map a b z)) (h2 : g x = .mp K V) (h3 : g ix = .prim (.string s))
    (h4 : lookS s K V = some none) : evQ tt xt g (.lookup t x ix ok) = some (okD ok (ofV z) false, True) := by simp only [evQ, h1, h2, h3, h4]
theorem wpQ_of {X : EV} {g : Operand → D} {op : Op} {acc : Prop} {k : Prop → D → Option Ent → Prop} {d : D} {p : Prop} (h : evQ X.tt X.xt g op = some (d, p)) (hk : k (p ∧ acc) d none) : wpQ X g op acc k := by
  unfold wpQ; rw [h]; exact hk
theorem fz_tup2 {H Hf : Hp} {a a' b b' : D} (h1 : Fz H Hf a a') (h2 : Fz H Hf b b') : Fz H Hf (.tup [a, b]) (.tup [a', b']) := .tup rfl fun i d d' hd hd' => by
  match i with
  | 0 => simp at hd hd'; subst hd; subst hd'; exact h1
  | 1 => simp at hd hd'; subst hd; subst hd'; exact h2
  | n + 2 => simp at hd
theorem first_ok (a b : Bool) : ICalls C0 47 [.sl true 1 [i64 (if a then 3 else 0), i64 (if b then 3 else 0)]] (i64 (if a || b then 3 else 0)) := by
  cases a <;> cases b <;> exact ICalls.ev X1ok 100 10 (by kernel_rfl)
/-- a point as four numbers -/
abbrev Q4 := Nat × Nat × Nat × Nat
def spotQ (q : Q4) : D := spot q.1 q.2.1 q.2.2.1 q.2.2.2
def rtx (a b : Nat) : ByteArray := ⟨(textL (a / Nat.gcd a b : Nat) (b / Nat.gcd a b : Nat)).toArray⟩
def probeQ (q : Q4) : D := .agg [str (rtx q.1 q.2.1), str (rtx q.2.2.1 q.2.2.2), i64 1]
instance (q : Q4) : CellsPure (spotQ q) := by unfold spotQ; exact inferInstance
instance (q : Q4) : CellsPure (probeQ q) := by unfold probeQ; exact inferInstance
def OkQ (q : Q4) : Prop := q.1 ≤ 1000000000 ∧ 0 < q.2.1 ∧ q.2.1 ≤ 1000 ∧ q.2.2.1 ≤ 1000000000 ∧ 0 < q.2.2.2 ∧ q.2.2.2 ≤ 1000
def badP (lo hi n L W : Int) : Bool := decide (n < lo) || decide (n > hi) || sideB L W
theorem rtext_ok (a b : Nat) (ha : a ≤ 1000000000) (hb : b ≤ 1000) : ICalls C0 50 [smF (a / Nat.gcd a b : Nat) (b / Nat.gcd a b : Nat)] (str (rtx a b)) := by
  have d1 := Nat.div_le_self a (Nat.gcd a b)
  have d2 := Nat.div_le_self b (Nat.gcd a b)
  unfold rtx
  generalize a / Nat.gcd a b = x at *
  generalize b / Nat.gcd a b = y at *
  exact text_sm x y (by omega) (by omega) (by omega) (by omega)
section
set_option allowUnsafeReducibility true in
attribute [local irreducible] wpQ
theorem pat_core (s : ByteArray) (lo hi : Int) (f : Nat) (hlk : lookS s (mpK designsD) (mpV designsD) = some (some (.agg [i64 lo, i64 hi, .clo (.func f) [] []]))) (n L W : Int) (qs : List Q4)
    (hok : badP lo hi n L W = false → ICalls C0 f [i64 n, i64 L, i64 W] (.sl false 8 (qs.map spotQ)) ∧ (∀ q ∈ qs, OkQ q) ∧ qs.length ≤ 5000) (hf : f = 109 ∨ f = 111 ∨ f = 112 ∨ f = 113) :
    ICalls C0 12 [str s, i64 n, i64 L, i64 W] (if badP lo hi n L W then .tup [.sl false 3 [], i64 3] else .tup [.sl false 3 (qs.map probeQ), i64 0]) := by
  refine ICallP.walk w1 fok12 rfl fun F => ?_
  have dk : ICalls C0 46 [] (.mp (mpK designsD) (mpV designsD)) := designs_ok
  have dp : IsPure (D.mp (mpK designsD) (mpV designsD)) := ⟨pureB_ok (n := 20) (by kernel_rfl)⟩
  refine OkS.seq ?_
  refine OkS.reg w1 0 (by kernel_rfl) ?_
  refine nxI ?_
  refine OkS.seq ?_
  refine OkS.reg w1 100 (by kernel_rfl) ?_
  refine nxI ?_
  refine CallO.same _ dk inferInstance ?_
  refine wpQ_of (evQ_look (s := s) (a := 9) (b := 102) (z := .agg #[.int .i64 0, .int .i64 0, .nilFunc]) (by kernel_rfl) rfl rfl hlk) ?_
  dsimp only [okD]
  refine nxI ?_
  refine OkS.seq ?_
  refine OkS.seq ?_
  refine OkS.reg w1 200 (by kernel_rfl) ?_
  refine nxI ?_
  refine OkS.cond ?_
  refine dsI ?_
  refine OkS.skip ?_
  refine dsI ?_
  refine OkS.seq ?_
  unfold badP
  obtain ⟨b1, e1⟩ : ∃ b, decide (n < lo) = b := ⟨_, rfl⟩
  obtain ⟨b2, e2⟩ : ∃ b, decide (n > hi) = b := ⟨_, rfl⟩
  obtain ⟨b3, e3⟩ : ∃ b, sideB L W = b := ⟨_, rfl⟩
  have hs := sides_ok L W
  unfold badP at hok
  rw [e1, e2, e3] at hok ⊢
  rw [e3] at hs
  rcases b1 with _ | _ <;> rcases b2 with _ | _ <;> rcases b3 with _ | _
  all_goals
    refine OkS.seq ?_
    refine OkS.reg w1 400 (by kernel_rfl) ?_
    repeat' (first | (refine And.intro (by exact sdI) ?_; (refine dsI ?_); (try simp only [brB_t, brB_f, e1, e2])) | ((refine brI (fun hb => ?_) (fun hb => ?_)) <;> (try simp only [Bool.not_eq_true', Bool.not_eq_false'] at hb) <;> (try simp only [hb]) <;> (refine dsI ?_)))
    refine CallO.same _ (when_ok _ 3) inferInstance ?_
    refine nxI ?_
    refine CallO.same _ (hs) inferInstance ?_
    refine nxI ?_
    refine CallO.same _ (first_ok _ _) inferInstance ?_
    refine nxI ?_
    simp only [Bool.or_false, Bool.or_true, Bool.false_or, Bool.true_or, Bool.or_self, Bool.false_eq_true, if_true, if_false, reduceIte]
    refine OkS.seq ?_
    refine OkS.reg w1 500 (by kernel_rfl) ?_
    refine nxI ?_
    refine OkS.cond ?_
    refine dsI ?_
  · rw [show ((0 : Int) != 0) = false from rfl]
    refine OkS.skip ?_
    refine dsI ?_
    refine OkS.seq ?_
    refine OkS.reg w1 700 (by kernel_rfl) ?_
    refine nxI ?_
    refine OkS.seq ?_
    obtain ⟨hcall, hq, hlen⟩ := hok rfl
    refine OkS.seqW ⟨[(13, nilS), (48, .sl false 8 (qs.map spotQ)), (49, i64 qs.length), (50, i64 0)], [], 100⟩ ?_ ?_
    · have hml : (qs.map spotQ).length = qs.length := List.length_map _
      rcases hf with rfl | rfl | rfl | rfl
      all_goals
        refine OkS.reg w1 800 (by kernel_rfl) ?_
        refine nxI ?_
        refine CallO.same _ (hcall) inferInstance ?_
        refine nxI ?_
        rw [hml]
        exact And.intro (by trivial) (wkI)
    refine OkS.block ?_
    refine OkS.loop (α := Nat × Nat × Nat) (fun p => ⟨[(13, accD 1109 p.2.1 3 ((qs.take p.1).map probeQ)), (48, .sl false 8 (qs.map spotQ)), (49, i64 qs.length), (50, i64 p.1)], accH 1109 p.2.1 77 3 ((qs.take p.1).map probeQ), p.2.2⟩) (fun p => qs.length - p.1)
      (fun p => p.1 ≤ qs.length) (0, 0, _) (Nat.zero_le _) wkI ?_
    rintro ⟨j, g, m⟩ F h1
    dsimp only at h1 ⊢
    refine OkS.seq ?_
    refine OkS.reg w1 900 (by kernel_rfl) ?_
    refine nxI ?_
    refine OkS.seq ?_
    refine OkS.cond ?_
    refine dsI ?_
    (refine brI (fun hc => ?_) (fun hc => ?_)) <;> (try simp only [Bool.not_eq_true', Bool.not_eq_false'] at hc) <;> (try simp only [hc])
    · have hj : j < qs.length := by simpa using hc
      refine OkS.skip ?_
      refine dsI ?_
      refine OkS.seq ?_
      refine OkS.block ?_
      refine OkS.seq ?_
      obtain ⟨⟨a, b, c, d⟩, hqj⟩ : ∃ q, qs[j]? = some q := ⟨qs[j], List.getElem?_eq_getElem hj⟩
      have hget : (qs.map spotQ)[((j : Nat) : Int).toNat]? = some (spot a b c d) := by
        rw [Int.toNat_natCast, List.getElem?_map, hqj]; rfl
      obtain ⟨q1, q2, q3, q4, q5, q6⟩ := hq _ (List.mem_of_getElem? hqj)
      dsimp only at q1 q2 q3 q4 q5 q6
      have t1 := rtext_ok a b q1 q3
      have t2 := rtext_ok c d q4 q6
      have htake : (qs.take j).map probeQ ++ [probeQ (a, b, c, d)] = (qs.take (j + 1)).map probeQ := by
        rw [List.take_add_one, hqj, List.map_append]; rfl
      have hll : ((qs.take j).map probeQ).length ≤ 5000 := by rw [List.length_map, List.length_take]; omega
      have a3 : IntKind.i64.wrap ((j : Int) + 1) = ((j + 1 : Nat) : Int) := wI (by omega) (by omega)
      refine OkS.reg w1 1000 (by kernel_rfl) ?_
      refine nxI ?_
      refine ⟨⟨rfl, by omega⟩, _, hget, ?_⟩
      refine dsI ?_
      try dsimp only [D.cells, spot]
      refine nxI ?_
      generalize hl : (qs.take j).map probeQ = l at *
      rcases l with _ | ⟨x, l⟩
      all_goals
        (try simp only [List.length_cons] at hll)
        dsimp only [accD_nil, accH_nil, accD_cons, accH_cons]
        refine OkS.regD w1 1100 [0, 1, 2, 3, 4, 5, 6, 7, 8] [9, 10] (by kernel_rfl) ?_
        refine nxI ?_
        refine CallW.same _ (t1) inferInstance ?_
        refine nxI ?_
        refine CallW.same _ (t2) inferInstance ?_
        refine nxI ?_
      · refine OkS.reg w1 1200 (by kernel_rfl) ?_
        refine And.intro (by (refine dsI ?_); (try simp only [a3]); all_goals exact sdI) ?_
        refine dsI ?_
        try simp only [a3]
        refine ⟨(j + 1, _, _), hj, by (dsimp only; omega), by (dsimp only; rw [← htake]; exact wkI)⟩
      · refine OkS.reg w1 1200 (by kernel_rfl) ?_
        refine And.intro (by (refine dsI ?_); (try simp only [a3]); all_goals exact sdI) ?_
        refine dsI ?_
        try simp only [a3]
        have htk : List.take (l.length + 1) (x :: l) = x :: l := by simp
        rw [htk]
        refine ⟨(j + 1, _, _), hj, by (dsimp only; omega), by (dsimp only; rw [← htake, accD_snoc]; exact wkI)⟩
    · have hj : j = qs.length := by
        have : ¬ j < qs.length := by simpa using hc
        omega
      subst hj
      refine OkS.exit ?_
      refine dsI ?_
      refine OkS.seq ?_
      refine OkS.reg w1 1300 (by kernel_rfl) ?_
      refine nxI ?_
      refine OkS.ret ?_
      refine And.intro (by exact sdI) ?_
      refine dsI ?_
      rw [List.take_length]
      exact ⟨_, fz_tup2 (fz_acc _ _ _ _ _) (Fz.refl _), IsPure.out, rfl⟩
  all_goals
    rw [show ((3 : Int) != 0) = true from rfl]
    refine OkS.seq ?_
    refine OkS.reg w1 600 (by kernel_rfl) ?_
    refine nxI ?_
    refine OkS.ret ?_
    refine And.intro (by exact sdI) ?_
    refine dsI ?_
    exact ⟨_, fz_tup2 (.nil 3) (Fz.refl _), IsPure.out, rfl⟩
end
end Go.Ide
