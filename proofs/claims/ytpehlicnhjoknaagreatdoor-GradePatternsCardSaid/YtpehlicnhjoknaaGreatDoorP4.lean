/- The layer of own lemmas and contracts, part 4. -/
import Derived.Test.YtpehlicnhjoknaaGreatDoorP3
import Derived.RangeFuncIn
import Derived.RangeFuncRecord
set_option linter.unusedVariables false
set_option linter.unusedSimpArgs false
/- The ideal layer, part 25: a range over a function. -/
namespace Go.Ide
open Go.RowKit

/-- what does not change of a loop's record -/
structure LR where
  fn : Nat
  tmps : Array Value
  ps : Array Nat
  as : Code
  bd : Code
  dfs : Nat
/-- the record between two rounds, or when a round has left by a jump -/
def LR.lp (R : LR) (st : LoopState) (j : Option Code) : Loop := { state := st, pending := j, fn := R.fn, tmps := R.tmps, params := R.ps, assign := R.as, body := R.bd, defers := R.dfs }
def LR.obj (R : LR) (j : Option Code) : Obj := .loop (R.lp (if j.isNone then .ready else .done) j)
/-- this block may turn, too -/
def Fra.wr (F : Fra) (l : Nat) : Fra := ⟨F.w0, F.X, fun b => F.Wr b ∨ b = l, F.nt, F.r0, F.df⟩

section
variable {C : Ctx} {F B : Fra} {ρ : Lk} {H : Hp} {w : World} {l : Nat} {R : LR}

theorem Mem.wr (m : Mem C F ρ H w) (hl : C.nG ≤ l) : Mem C (F.wr l) ρ H w :=
  ⟨⟨m.hok.ent, m.hok.inj, fun e he b hb => ⟨(m.hok.own e he b hb).1, (m.hok.own e he b hb).2.imp id .inl⟩⟩, m.os, m.tape, m.output, m.size, fun b hb h => m.blk b hb fun h' => h (.inl h'), m.xlt, m.g0, m.gn, fun b h => by
    rcases h with h | rfl
    · exact m.gw b h
    · exact hl, m.lnk, m.shp⟩
/-- it did not turn -/
theorem Mem.unwr (m : Mem C (F.wr l) ρ H w) (hX : F.X l) (hb : w.heap[l]? = F.w0.heap[l]?) : Mem C F ρ H w :=
  ⟨⟨m.hok.ent, m.hok.inj, fun e he b hb => ⟨(m.hok.own e he b hb).1, by
    rcases (m.hok.own e he b hb).2 with h | h | h
    · exact .inl h
    · exact .inr h
    · exact absurd (h ▸ hX) (m.hok.own e he b hb).1⟩⟩, m.os, m.tape, m.output, m.size, fun b hb' h => by
      by_cases hl : b = l
      · subst hl; exact hb
      · exact m.blk b hb' fun h' => h'.elim h hl, m.xlt, m.g0, m.gn, fun b h => m.gw b (.inl h), m.lnk, m.shp⟩

theorem putObj_rest (w : World) (l : Nat) (o : Obj) : (w.putObj l o).os = w.os ∧ (w.putObj l o).tape = w.tape ∧ (w.putObj l o).output = w.output ∧ (w.putObj l o).heap.size = w.heap.size := ⟨rfl, rfl, rfl, by simp [World.putObj]⟩
theorem Ext.putL {O : Nat → Prop} (hO : O l) {r : Loop} (h : w.heap[l]? = some (.loop r)) (o : Obj) : Ext ρ O w ρ O (w.putObj l o) :=
  ⟨by rw [(putObj_rest w l o).2.2.2]; exact Nat.le_refl _, fun _ _ _ h => h, fun b hb hb' => ⟨hb', World.putObj_heap_other fun hbl => hb' (by rw [hbl]; exact hO)⟩, fun b cs T fz hc => ⟨cs, by
    rw [World.putObj_heap_other fun hbl => by rw [hbl, h] at hc; cases hc]; exact hc, rfl⟩⟩
/-- a loop's record turns -/
theorem Mem.putL (m : Mem C F ρ H w) (hX : F.X l) (hW : F.Wr l) {r : Loop} (h : w.heap[l]? = some (.loop r)) (o : Obj) : Mem C F ρ H (w.putObj l o) := by
  have x := Ext.putL (ρ := ρ) (O := Own F.X ρ H) (.inl hX) h o
  exact ⟨⟨fun e he => by
    rcases m.hok.ent e he with h | ⟨b, cs, a1, a2, a3⟩
    · exact .inl h
    · exact .inr ⟨b, cs, a1, by rw [World.putObj_heap_other fun hb => (m.hok.own e he b a1).1 (by rw [hb]; exact hX)]; exact a2, a3.mono x⟩, m.hok.inj, m.hok.own⟩,
    m.os, m.tape, m.output, by rw [(putObj_rest w l o).2.2.2]; exact m.size, fun b hb hw => by rw [World.putObj_heap_other fun hbl => hw (by rw [hbl]; exact hW)]; exact m.blk b hb hw, m.xlt, m.g0, m.gn, m.gw, m.lnk, shp_ext m.shp x⟩

/-- what has come about when a function that was handed yield has returned, or a round has ended -/
def RunsTo (C : Ctx) (F : Fra) (l : Nat) (R : LR) (ρ : Lk) (H : Hp) (w : World) (Φ : Option Code → D → Hp → Nat → Prop) : Ending → World → Prop := fun e w' =>
  ∃ v j d H' n' ρ', e = .returned v ∧ Φ j d H' n' ∧ w'.heap[l]? = some (R.obj j) ∧ Mem C (F.wr l) ρ' H' w' ∧ Ext ρ (Own F.X ρ H) w ρ' (Own F.X ρ' H') w' ∧ Fresh ρ' n' ∧ (∀ e ∈ H', e.g < n') ∧ Rep ρ' (Own F.X ρ' H') w' d v
/-- since some moment -/
abbrev Since := Lk → (Nat → Prop) → World → Prop
def Since.ok (E : Since) : Prop := ∀ ρ O w ρ' O' w', E ρ O w → Ext ρ O w ρ' O' w' → E ρ' O' w'

/-- **A CONTRACT of a function that is handed yield.** -/
def ICallX (C : Ctx) (E : Since) (f : Nat) (args : List D) (l : Nat) (R : LR) (H : Hp) (n : Nat) (Φ : Option Code → D → Hp → Nat → Prop) : Prop :=
  Callable C.P f ∧ ∀ (F : Fra) (ρ : Lk) (w : World) (vs : Array Value), Mem C F ρ H w → F.X l → C.nG ≤ l → E ρ (Own F.X ρ H) w → w.heap[l]? = some (R.obj none) → Fresh ρ n → (∀ e ∈ H, e.g < n) → vs.size = args.length →
    (∀ (i : Nat) (d : D), args[i]? = some d → Rep ρ (Own F.X ρ H) w d (vs.getD i undef)) → Calls C.P f vs w (RunsTo C F l R ρ H w Φ)
/-- **A CONTRACT of yield.** -/
def IYield (C : Ctx) (E : Since) (l : Nat) (R : LR) (ds : List D) (H : Hp) (n : Nat) (Φ : Option Code → Hp → Nat → Prop) : Prop :=
  ∀ (F : Fra) (ρ : Lk) (w : World) (vs : Array Value), Mem C F ρ H w → F.X l → C.nG ≤ l → E ρ (Own F.X ρ H) w → w.heap[l]? = some (R.obj none) → Fresh ρ n → (∀ e ∈ H, e.g < n) → vs.size = ds.length →
    (∀ (i : Nat) (d : D), ds[i]? = some d → Rep ρ (Own F.X ρ H) w d (vs.getD i undef)) → vs.size = R.ps.size ∧
    RoundIn (fw none) 0 C.P l R.fn ((R.ps.zip vs).foldl (fun tmps (t, a) => tmps.setIfInBounds t a) R.tmps) R.as R.bd w (RunsTo C F l R ρ H w fun j d H' n' => d = boo j.isNone ∧ Φ j H' n')

/-- in this frame the record is as it was between two rounds; the activation began in B -/
structure Ready (C : Ctx) (E : Since) (B F : Fra) (l : Nat) (R : LR) : Prop where
  X : F.X l
  nw : ¬ F.Wr l
  at0 : F.w0.heap[l]? = some (R.obj none)
  up : ∀ {ρ : Lk} {H : Hp} {w : World}, Mem C (F.wr l) ρ H w → Mem C B ρ H w
  ng : C.nG ≤ l
  df : F.df = B.df
  ext : ∀ {ρ : Lk} {H : Hp} {w : World}, Mem C F ρ H w → E ρ (Own F.X ρ H) w
/-- in this frame the record is so -/
def Stat (C : Ctx) (l : Nat) (R : LR) (j : Option Code) (F : Fra) : Prop := ∀ {ρ : Lk} {H : Hp} {w : World}, Mem C F ρ H w → w.heap[l]? = some (R.obj j)
theorem Ready.stat {E : Since} (h : Ready C E B F l R) : Stat C l R none F := fun m => (m.blk l (m.xlt l h.X) h.nw).trans h.at0

theorem Sat.reframe {F' : Fra} {s : St} {a : Act} (h : Sat C F ρ s a w) (m : Mem C F' ρ s.H w) (hX : F'.X = F.X) (hn : F'.nt = F.nt) (hd : F'.df = F.df) : Sat C F' ρ s a w :=
  ⟨m, h.fresh, h.gen, fun t => by rw [hX]; exact h.env t, h.nt.trans hn.symm, h.dfr.trans hd.symm⟩

/-- the operation that calls yield -/
theorem yArgs_run {s : St} {o : Oper} {fop : Operand} {args : Array Operand} {tys : Array Nat} {a : Act} (ho : o.op = .call ⟨.value fop, args, tys⟩) (hf : gOpd s.env fop = .clo (.yield l) [] []) (hs : Sat C F ρ s a w) :
    ∃ vs, (execOp a.eval o).run C.P w = (Instr.yield l vs).run C.P w ∧ vs.size = (args.toList.map (gOpd s.env)).length ∧
      ∀ (i : Nat) (d : D), (args.toList.map (gOpd s.env))[i]? = some d → Rep ρ (Own F.X ρ s.H) w d (vs.getD i undef) := by
  have hfr := gOpd_rep hs.env fop
  rw [hf] at hfr
  generalize hv : a.eval fop = v at hfr
  cases hfr with
  | clo hn hc h1 h2 =>
    rename_i fs cs
    have hfs : fs = #[] := Array.eq_empty_of_size_eq_zero (by simpa using hn)
    subst hfs
    refine ⟨args.map a.eval, ?_, by simp, fun i d hd => ?_⟩
    · unfold execOp
      simp only [ho]
      rw [run_bind]
      have : (resolve a.eval ⟨.value fop, args, tys⟩ o.type).run C.P w = .ok { target := .fn (.yield l) cs, args := #[] ++ args.map a.eval } w := by
        unfold resolve
        simp only [hv]; rfl
      rw [this]; dsimp only
      unfold invoke
      simp
    · simp only [List.getElem?_map, Array.getElem?_toList, Option.map_eq_some_iff] at hd
      obtain ⟨x, hx, rfl⟩ := hd
      have : (args.map a.eval).getD i undef = a.eval x := by simp [Array.getD_eq_getD_getElem?, hx]
      rw [this]; exact gOpd_rep hs.env x

variable {X : EV} {ops : Array Oper} {s : St} {E : Since} {Q : Exit → Fra → St → Prop}
/-- a region's operation that calls yield: what is asked there and of the rest -/
def yieldW (C : Ctx) (X : EV) (E : Since) (F : Fra) (l : Nat) (R : LR) (kb : Nat) (ops : Array Oper) (iy : Nat) (l2 : List Nat) (Q : Exit → Fra → St → Prop) (s : St) : Prop := match nthO ops.toList iy with
  | some o => match o.guard with
    | none => match o.op with
      | .call ⟨.value fop, args, _⟩ => gOpd s.env fop = .clo (.yield l) [] [] ∧ ∃ Φ, IYield C E l R (args.toList.map (gOpd s.env)) s.H s.n Φ ∧
          (∀ H' n', Φ none H' n' → wpSuf C X kb ops l2 ⟨putE s.env o.dst (boo true), H', n'⟩ True fun acc s => acc ∧ Q .normal F s) ∧
          (∀ c H' n', Φ (some c) H' n' → ∀ F2 : Fra, Stat C l R (some c) F2 → wpSuf C X kb ops l2 ⟨putE s.env o.dst (boo false), H', n'⟩ True fun acc s => acc ∧ Q .normal F2 s)
      | _ => False
    | some _ => False
  | none => False

theorem yield_step (hX : WOk C X) {kb iy : Nat} {l2 : List Nat} {a : Act} (hR : Ready C E B F l R) (hB : Fle C B F) (hnd : noDef ops.toList = true) (hlt : ∀ j ∈ l2, j < ops.size) (hd : ops.toList.all (dstOk B.nt) = true)
    (h : yieldW C X E F l R kb ops iy l2 Q s) (hs : Sat C F ρ s a w) : wpOpsIn (fw none) 0 C.P ops (PostF C B Q) (iy :: l2) a w := by
  unfold yieldW at h
  split at h <;> first | exact h.elim | skip
  rename_i o ho
  split at h <;> first | exact h.elim | skip
  rename_i hgd
  split at h <;> first | exact h.elim | skip
  rename_i fop args tys hop
  obtain ⟨hf, Φ, hY, h1, h2⟩ := h
  have ho := nthO_arr ho
  have hdo : dstOk B.nt o = true := List.all_eq_true.1 hd o (Array.mem_toList_iff.2 (Array.mem_of_getElem? ho))
  simp only [wpOpsIn, ho]
  rw [if_pos (by unfold Region.wanted; rw [hgd])]
  obtain ⟨vs, r1, r2, r3⟩ := yArgs_run hop hf hs
  have hst := hR.stat hs.mem
  obtain ⟨q1, q2⟩ := hY F ρ w vs hs.mem hR.X hR.ng (hR.ext hs.mem) hst hs.fresh hs.gen r2 r3
  have hrun : (execOp a.eval o).run C.P w = .ok (.round l R.fn ((R.ps.zip vs).foldl (fun tmps (t, a) => tmps.setIfInBounds t a) R.tmps) R.as R.bd) w := by
    rw [r1, run_yield (r := R.lp .ready none) hst q1]; rfl
  refine wpIn_round hrun (q2.mono ?_)
  rintro e w' ⟨v, j, d, H', n', ρ', rfl, ⟨rfl, hΦ⟩, hl, m', x, fr, gn, rep⟩
  refine ⟨v, rfl, ?_⟩
  have hsw : Sat C (F.wr l) ρ s a w := hs.reframe (hs.mem.wr hR.ng) rfl rfl rfl
  have hs1 : Sat C (F.wr l) ρ' ⟨putE s.env o.dst (boo j.isNone), H', n'⟩ (a.put o.dst v) w' := hsw.put m' x fr gn rep (by rw [show (F.wr l).nt = B.nt from hB.nt]; exact hdo)
  cases j with
  | none =>
    have hs2 : Sat C F ρ' ⟨putE s.env o.dst (boo true), H', n'⟩ (a.put o.dst v) w' := hs1.reframe (m'.unwr hR.X (by rw [hl, hR.at0])) rfl rfl rfl
    have h3 := (wpSuf_ok (F := F) (K' := Q .normal F) hX (fun acc s h => h) (h1 _ _ hΦ)).2.run hlt (by rw [hB.nt]; exact hd) hs2
    have := wpOps_in (rd := none) (Q := PostF C B Q) (l2 := []) (fun _ _ _ h => fin_post hB (fun _ h => h) h) (noDef_at hnd) _ _ _ h3
    rwa [List.append_nil] at this
  | some c =>
    let F2 := Fra.subZ ρ' H' w' F.nt F.X (fun _ => False) F.df
    have m2 : Mem C F2 ρ' H' w' := m'.enterZ (.refl _ _ _) rfl rfl rfl (fun _ _ _ => rfl) (fun _ _ _ _ h => h) (fun b hb => Nat.lt_of_lt_of_le (m'.xlt b hb) m'.size) (fun e he b hb => (m'.hok.own e he b hb).1) (fun _ h => h.elim) _ _
    have hlw : l < w'.heap.size := (Array.getElem?_eq_some_iff.1 hl).1
    have hst2 : Stat C l R (some c) F2 := fun {ρ'' H'' w''} m3 => by
      have := m3.blk l hlw (by
        rintro (⟨e, he, h⟩ | h)
        · exact (m'.hok.own e he l h).1 hR.X
        · exact h)
      exact this.trans hl
    have hB2 : Fle C B F2 := ⟨hB.nt, Nat.le_trans hB.sz (Nat.le_trans hs.mem.size x.size), fun m3 => hR.up (m'.leaveZ (fun _ h => h) (fun _ h => h.elim) m3).1, hB.X, [], hR.df, [], rfl, .nil, by simp⟩
    have hs2 : Sat C F2 ρ' ⟨putE s.env o.dst (boo false), H', n'⟩ (a.put o.dst v) w' := hs1.reframe m2 rfl rfl rfl
    have h3 := (wpSuf_ok (F := F2) (K' := Q .normal F2) hX (fun acc s h => h) (h2 _ _ _ hΦ F2 hst2)).2.run hlt (by rw [hB2.nt]; exact hd) hs2
    have := wpOps_in (rd := none) (Q := PostF C B Q) (l2 := []) (fun _ _ _ h => fin_post hB2 (fun _ h => h) h) (noDef_at hnd) _ _ _ h3
    rwa [List.append_nil] at this

theorem OkS.regY {i : Nat} (hX : WOk C X) (kb : Nat) (l1 : List Nat) (iy : Nat) (l2 : List Nat) (hl : List.range ops.size = l1 ++ iy :: l2) (hnd : noDef ops.toList = true) (hR : Ready C E B F l R)
    (h : wpSuf C X kb ops l1 s True fun acc s1 => acc ∧ yieldW C X E F l R kb ops iy l2 Q s1) : OkS C B none F (.region i ops false) s Q := by
  refine ⟨fun hB hd ρ a w hs => wpIn_region ?_⟩
  rw [hl]
  have hlt : ∀ j ∈ l1 ++ iy :: l2, j < ops.size := fun j hj => by rw [← hl] at hj; exact List.mem_range.1 hj
  have h1 := (wpSuf_ok (F := F) (K' := yieldW C X E F l R kb ops iy l2 Q) hX (fun acc s h => h) h).2.run (fun j hj => hlt j (by simp [hj])) (dst_reg hB hd) hs
  refine wpOps_in (rd := none) (Q := PostF C B Q) (l2 := iy :: l2) (fun e a w h => ?_) (noDef_at hnd) _ a w h1
  obtain ⟨h0, s1, ρ1, k1, k2⟩ := h
  exact ⟨h0, yield_step hX hR hB hnd (fun j hj => hlt j (by simp [hj])) hd k1 k2⟩
theorem OkS.regDY {i : Nat} (hX : WOk C X) (kb : Nat) (pre l1 : List Nat) (iy : Nat) (l2 : List Nat) (hc : (chkD ops pre (l1 ++ iy :: l2) && noDef ops.toList) = true) (hR : Ready C E B F l R)
    (h : wpPre C X kb ops s.H s.n pre s.env [] True fun acc env N => wpSuf C X kb ops l1 ⟨env, N ++ s.H, s.n + lenO ops.toList⟩ acc fun acc s1 => acc ∧ yieldW C X E F l R kb ops iy l2 Q s1) : OkS C B none F (.region i ops true) s Q := by
  have hsz : ops.size = lenO ops.toList := by rw [lenO_eq, Array.length_toList]
  rw [← hsz] at h
  simp only [Bool.and_eq_true] at hc
  obtain ⟨_, acc, env, N, h1, h2⟩ := wpPre_acc (F := F) hX (fun acc env N h => (wpSuf_ok (F := F) (K' := yieldW C X E F l R kb ops iy l2 Q) hX (fun acc s h => h) h).1) h
  refine ⟨fun hB hd ρ a w hs => drawI hX.mixed hc.1 h1 (fun hlt ρ a w hs => ?_) (dst_reg hB hd) ρ a w hs⟩
  have h3 := (wpSuf_ok (F := F) (K' := yieldW C X E F l R kb ops iy l2 Q) hX (fun acc s h => h) h2).2.run (fun j hj => hlt j (by simp [hj])) (dst_reg hB hd) hs
  refine wpOps_in (rd := none) (Q := PostF C B Q) (l2 := iy :: l2) (fun e a w h => ?_) (noDef_at hc.2) _ a w h3
  obtain ⟨h0, s1, ρ1, k1, k2⟩ := h
  exact ⟨h0, yield_step hX hR hB hc.2 (fun j hj => hlt j (by simp [hj])) hd k1 k2⟩
end
end Go.Ide

/- The ideal layer, part 26: a range over a function: the function that is handed yield, and the statement. -/
namespace Go.Ide
open Go.RowKit

section
variable {C : Ctx} {X : EV} {E : Since} {l : Nat} {R : LR}

theorem wrMono {F F' : Fra} {ρ : Lk} {H : Hp} {w : World} (m : Mem C F ρ H w) (h0 : F'.w0 = F.w0) (hX : F'.X = F.X) (hr : F'.r0 = F.r0) (hW : ∀ b, F.Wr b → F'.Wr b) (hg : ∀ b, F'.Wr b → C.nG ≤ b) : Mem C F' ρ H w := by
  obtain ⟨a1, a2, a3, a4, a5, a6, a7, a8, a9, a10, a11, a12⟩ := m
  refine ⟨⟨?_, a1.inj, ?_⟩, ?_, ?_, ?_, ?_, ?_, ?_, ?_, ?_, hg, ?_, ?_⟩
  · rw [hX]; exact a1.ent
  · intro e he b hb
    rw [hX, h0]
    exact ⟨(a1.own e he b hb).1, (a1.own e he b hb).2.imp id (hW b)⟩
  · rw [h0]; exact a2
  · rw [h0]; exact a3
  · rw [h0]; exact a4
  · rw [h0]; exact a5
  · rw [h0]; exact fun b hb h => a6 b hb fun h' => h (hW b h')
  · rw [h0, hX]; exact a7
  · rw [h0]; exact a8
  · rw [h0]; exact a9
  · rw [hr]; exact a11
  · rw [h0]; exact a12

/-- what is owed at the end of a function that is handed yield -/
def PostXW (C : Ctx) (l : Nat) (R : LR) (tt : Nat → Option TInfo) (rs : List ResultVar) (Φ : Option Code → D → Hp → Nat → Prop) (e : Exit) (F : Fra) (s : St) : Prop := match e with
  | .normal | .ret => ∃ j, Stat C l R j F ∧ wpRes tt s rs fun d => Φ j d s.H s.n
  | _ => False
/-- **how such a contract is made** -/
theorem ICallX.walk {f : Nat} {i : FI} {args : List D} {H : Hp} {n : Nat} {Φ : Option Code → D → Hp → Nat → Prop} (hX : WOk C X) (hE : Since.ok E) (hf : FOk C.P f i) (hnt : Nat.ble args.length i.nt = true)
    (h : ∀ B F : Fra, Ready C E B F l R → OkS C B none F i.code ⟨argEnv 0 args, H, n⟩ (PostXW C l R X.tt i.res Φ)) : ICallX C E f args l R H n Φ := by
  obtain ⟨fn, hf, hb, hn, hd, hni, hres⟩ := hf
  rw [← hni] at hnt
  refine ⟨⟨fn, i.code, hf, hb, hn⟩, fun F ρ w vs m hFl hng hEw hlw hfr hg hvs hr => ?_⟩
  have hnt := Nat.le_of_ble_eq_true hnt
  refine (calls_fw (rd := none) (n := 0)).1 (callsIn_of_wp_marks hf hb trivial ?_)
  have hltl : l < w.heap.size := (Array.getElem?_eq_some_iff.1 hlw).1
  have hol : ∀ e ∈ H, ∀ b, ρ e.k e.g = some b → b ≠ l := fun e he b hb hbl => (m.hok.own e he b hb).1 (by rw [hbl]; exact hFl)
  have ent : ∀ Z : Nat → Prop, (∀ b, Z b → b = l) → Mem C (Fra.subZ ρ H w fn.ntmps F.X Z []) ρ H w := fun Z hZ => m.enterZ (.refl _ _ _) rfl rfl rfl (fun _ _ _ => rfl) (fun e he b hb hz => hol e he b hb (hZ b hz)) (fun b hb => Nat.lt_of_lt_of_le (m.xlt b hb) m.size)
    (fun e he b hb => (m.hok.own e he b hb).1) (fun b hz => by rw [hZ b hz]; exact hng) _ _
  let B := Fra.subZ ρ H w fn.ntmps F.X (fun b => b = l) []
  let F0 := Fra.subZ ρ H w fn.ntmps F.X (fun _ => False) []
  have mB : Mem C B ρ H w := ent _ fun _ h => h
  have mF : Mem C F0 ρ H w := ent _ fun _ h => h.elim
  have hBg : ∀ b, B.Wr b → C.nG ≤ b := mB.gw
  have upB : ∀ {ρ' : Lk} {H' : Hp} {w' : World}, Mem C (F0.wr l) ρ' H' w' → Mem C B ρ' H' w' := fun m' => wrMono m' rfl rfl rfl (fun b hb => by
    rcases hb with (hb | hb) | hb
    · exact .inl hb
    · exact hb.elim
    · exact .inr hb) hBg
  have upF : ∀ {ρ' : Lk} {H' : Hp} {w' : World}, Mem C F0 ρ' H' w' → Mem C B ρ' H' w' := fun m' => upB (m'.wr hng)
  have hB : Fle C B F0 := ⟨rfl, Nat.le_refl _, upF, fun _ h => h, [], rfl, [], rfl, .nil, by simp⟩
  have mw := m.wr hng
  have lv : ∀ {ρ' : Lk} {H' : Hp} {w' : World}, Mem C B ρ' H' w' → Mem C (F.wr l) ρ' H' w' ∧ Ext ρ (Own F.X ρ H) w ρ' (Own F.X ρ' H') w' := fun {ρ' H' w'} m' => by
    obtain ⟨q1, q2⟩ := mw.leaveZ (X' := F.X) (Z := fun b => b = l) (fun _ h => h) (fun b hb => .inr (.inr hb)) m'
    refine ⟨q1, ?_⟩
    have : (fun b => Own F.X ρ H b ∨ b = l) = Own F.X ρ H := funext fun b => propext ⟨fun h => h.elim id fun h => .inl (by rw [h]; exact hFl), .inl⟩
    have q2 : Ext ρ (fun b => Own F.X ρ H b ∨ b = l) w ρ' (Own F.X ρ' H') w' := q2
    rwa [this] at q2
  have hR : Ready C E B F0 l R := ⟨hFl, fun h => by
    rcases h with ⟨e, he, h⟩ | h
    · exact hol e he l h rfl
    · exact h.elim, hlw, upB, hng, rfl, fun {ρ' H' w'} m' => hE _ _ _ _ _ _ hEw (lv (upF m')).2⟩
  have sat : Sat C F0 ρ ⟨argEnv 0 args, H, n⟩ { tmps := vs ++ Array.replicate (fn.ntmps - vs.size) undef, defers := [] } w :=
    ⟨mF, hfr, hg, argsRep hvs hr, by simp [F0, Fra.subZ]; omega, rfl⟩
  refine wpIn_mono ((h B F0 hR).out hB hd ρ _ w sat) ?_
  rintro e a' w' ⟨F', s', ρ', hF, hq, hs'⟩
  have key : (∃ j, Stat C l R j F' ∧ wpRes X.tt s' i.res fun d => Φ j d s'.H s'.n) → LeavesInM (fw none) 0 C.P fn a'.tmps (RunsTo C F l R ρ H w Φ) a'.defers .returning w' := fun ⟨j, hst, hq⟩ => by
    obtain ⟨d, p, h1, h2, h3⟩ := wpRes_ok hq
    rw [← hres] at h1
    obtain ⟨v, w2, _, hl, mB2, r2, hXX, x, hbl, hsz, F2, m2, hX2⟩ := hF.finish hX.tt rfl hs' h1 h2
    obtain ⟨m', x'⟩ := lv mB2
    exact hl _ ⟨v, j, d, _, _, ρ', rfl, h3, (hbl l hltl).trans (hst hs'.mem), m', x', hs'.fresh, hs'.gen, r2.anti fun b hb => hb.imp (hXX b) id⟩
  cases e with
  | normal => exact key hq
  | ret => exact key hq
  | _ => exact hq.elim

/-! ### a round -/
/-- the loop's left sides get these -/
def putPs : List Nat → List D → Env → Env
  | t :: ts, d :: ds, env => putPs ts ds ((t, d) :: env)
  | _, _, env => env
theorem putPs_get : ∀ (ps : List Nat) (ds : List D) (env : Env) (tm : Array Value) (vs : List Value) {ρ : Lk} {O : Nat → Prop} {w : World}, vs.length = ds.length → (∀ t ∈ ps, t < tm.size) →
    (∀ t, Rep ρ O w (env.get t) (tm.getD t undef)) → (∀ (i : Nat) (d : D), ds[i]? = some d → Rep ρ O w d (vs.getD i undef)) →
    ∀ t, Rep ρ O w ((putPs ps ds env).get t) (((ps.zip vs).foldl (fun tmps (x : Nat × Value) => tmps.setIfInBounds x.1 x.2) tm).getD t undef)
  | [], _, _, _, _, _, _, _, _, _, h, _ => by simpa [putPs] using h
  | p :: ps, [], env, tm, vs, _, _, _, hl, _, h, _ => by
    have : vs = [] := List.eq_nil_of_length_eq_zero (by simpa using hl)
    subst this
    simpa [putPs] using h
  | p :: ps, d :: ds, env, tm, [], _, _, _, hl, _, _, _ => by simp at hl
  | p :: ps, d :: ds, env, tm, v :: vs, ρ, O, w, hl, hp, h, hr => by
    intro t
    simp only [putPs, List.zip_cons_cons, List.foldl_cons]
    refine putPs_get ps ds _ _ vs (by simpa using hl) (fun t ht => by simp; exact hp t (by simp [ht])) (fun t => ?_) (fun i d hd => ?_) t
    · rw [Env.get_cons]
      have h0 := hr 0 d (by simp)
      simp at h0
      by_cases hpt : p = t
      · subst hpt
        rw [if_pos rfl, Array.getD_eq_getD_getElem?, Array.getElem?_setIfInBounds, if_pos rfl, if_pos (hp p (by simp))]
        exact h0
      · rw [if_neg hpt, Array.getD_eq_getD_getElem?, Array.getElem?_setIfInBounds, if_neg hpt, ← Array.getD_eq_getD_getElem?]
        exact h t
    · have := hr (i + 1) d (by simpa using hd)
      simpa using this
theorem foldPs_size : ∀ (l : List (Nat × Value)) (tm : Array Value), (l.foldl (fun tmps (x : Nat × Value) => tmps.setIfInBounds x.1 x.2) tm).size = tm.size
  | [], _ => rfl
  | x :: l, tm => by rw [List.foldl_cons, foldPs_size l]; simp

def exitCode : Exit → Option (Option Code)
  | .normal => some none
  | .ret => some (some .ret)
  | .exit i => some (some (.exit i))
  | .goto t => some (some (.goto t))
  | _ => none
/-- what is owed at a round's end -/
def RoundW (Φ : Option Code → Hp → Nat → Prop) (e : Exit) (_ : Fra) (s : St) : Prop := match exitCode e with
  | some j => Φ j s.H s.n
  | none => False

variable {F : Fra}
theorem round_ok {ps : Array Nat} {as bd : Code} {fn dfs : Nat} {tm : Array Value} {env : Env} {ρ1 : Lk} {O1 : Nat → Prop} {w1 : World} {nt : Nat} (htm : tm.size = nt) (hps : ∀ t ∈ ps, t < nt) (hda : codeDst nt as = true) (hdb : codeDst nt bd = true)
    (henv : ∀ t, Rep ρ1 O1 w1 (env.get t) (tm.getD t undef)) {ds : List D} {H : Hp} {n : Nat} {Φ : Option Code → Hp → Nat → Prop} (hds : ds.length = ps.size)
    (h : ∀ F : Fra, OkS C F (some l) F as ⟨putPs ps.toList ds env, H, n⟩ fun e F' s => e = .normal ∧ F' = F ∧ ∀ F' : Fra, OkS C F' (some l) F' bd s (RoundW Φ)) :
    IYield C (fun ρ O w => Ext ρ1 O1 w1 ρ O w) l ⟨fn, tm, ps, as, bd, dfs⟩ ds H n Φ := by
  intro F ρ w vs m hFl hng hEw hlw hfr hg hvs hr
  refine ⟨hvs.trans hds, ?_⟩
  have hltl : l < w.heap.size := (Array.getElem?_eq_some_iff.1 hlw).1
  have mw := m.wr hng
  have hol : ∀ {ρ' : Lk} {H' : Hp} {w' : World}, Mem C (F.wr l) ρ' H' w' → ∀ e ∈ H', ∀ b, ρ' e.k e.g = some b → b ≠ l := fun m' e he b hb hbl => (m'.hok.own e he b hb).1 (by show F.X b; rw [hbl]; exact hFl)
  have ent : ∀ {ρ' : Lk} {H' : Hp} {w' : World}, Mem C (F.wr l) ρ' H' w' → Mem C (Fra.subZ ρ' H' w' nt F.X (fun _ => False) []) ρ' H' w' := fun m' => m'.enterZ (.refl _ _ _) rfl rfl rfl (fun _ _ _ => rfl) (fun _ _ _ _ h => h) (fun b hb => Nat.lt_of_lt_of_le (m'.xlt b hb) m'.size)
    (fun e he b hb => (m'.hok.own e he b hb).1) (fun b hz => hz.elim) _ _
  have lv : ∀ {ρ' : Lk} {H' : Hp} {w' : World} {ρ2 : Lk} {H2 : Hp} {w2 : World}, Mem C (F.wr l) ρ' H' w' → Mem C (Fra.subZ ρ' H' w' nt F.X (fun _ => False) []) ρ2 H2 w2 → Mem C (F.wr l) ρ2 H2 w2 ∧ Ext ρ' (Own F.X ρ' H') w' ρ2 (Own F.X ρ2 H2) w2 := fun {ρ' H' w' ρ2 H2 w2} m' m2 => by
    obtain ⟨q1, q2⟩ := m'.leaveZ (X' := F.X) (Z := fun _ => False) (fun _ h => h) (fun b hb => hb.elim) m2
    refine ⟨q1, ?_⟩
    have : (fun b => Own F.X ρ' H' b ∨ False) = Own F.X ρ' H' := funext fun b => propext ⟨fun h => h.elim id False.elim, .inl⟩
    have q2 : Ext ρ' (fun b => Own F.X ρ' H' b ∨ False) w' ρ2 (Own F.X ρ2 H2) w2 := q2
    rwa [this] at q2
  have lat : ∀ {ρ' : Lk} {H' : Hp} {w' : World} {ρ2 : Lk} {H2 : Hp} {w2 : World}, Mem C (F.wr l) ρ' H' w' → l < w'.heap.size → Mem C (Fra.subZ ρ' H' w' nt F.X (fun _ => False) []) ρ2 H2 w2 → w2.heap[l]? = w'.heap[l]? := fun m' hl m2 => m2.blk l hl fun h => by
    rcases h with ⟨e, he, h⟩ | h
    · exact hol m' e he l h rfl
    · exact h
  refine roundIn_of_wpIn trivial ?_
  -- the assignments
  let Fa := Fra.subZ ρ H w nt F.X (fun _ => False) []
  have sata : Sat C Fa ρ ⟨putPs ps.toList ds env, H, n⟩ { tmps := (ps.zip vs).foldl (fun tmps (t, a) => tmps.setIfInBounds t a) tm, defers := [] } w := by
    refine ⟨ent mw, hfr, hg, fun t => ?_, ?_, rfl⟩
    · have := putPs_get ps.toList ds env tm vs.toList (ρ := ρ) (O := Own F.X ρ H) (w := w) (by simpa using hvs) (fun t ht => by rw [htm]; exact hps t (by simpa using ht)) (fun t => (henv t).mono hEw) (fun i d hd => by
        have := hr i d hd
        simpa [Array.getD_eq_getD_getElem?, List.getD_eq_getElem?_getD] using this) t
      rw [← Array.foldl_toList, Array.toList_zip]
      exact this
    · show ((ps.zip vs).foldl (fun tmps (t, a) => tmps.setIfInBounds t a) tm).size = nt
      rw [← Array.foldl_toList]
      exact (foldPs_size _ _).trans htm
  refine wpIn_mono ((h Fa).out (.refl Fa) hda ρ _ w sata) ?_
  rintro e a2 w2 ⟨F2, s2, ρ2, hF2, ⟨rfl, hFF, hbody⟩, hs2⟩
  subst hFF
  obtain ⟨m2, x2⟩ := lv mw (hF2.mem hs2.mem)
  have hl2 : w2.heap[l]? = some (LR.obj ⟨fn, tm, ps, as, bd, dfs⟩ none) := (lat mw hltl (hF2.mem hs2.mem)).trans hlw
  -- the round begins
  refine ⟨_, run_beginRound (r := LR.lp ⟨fn, tm, ps, as, bd, dfs⟩ .ready none) hl2 rfl, ?_⟩
  have m3 := m2.putL hFl (.inr rfl) (r := LR.lp ⟨fn, tm, ps, as, bd, dfs⟩ .ready none) hl2 (.loop { LR.lp ⟨fn, tm, ps, as, bd, dfs⟩ .ready none with state := .busy })
  have x3 := Ext.putL (ρ := ρ2) (O := Own F.X ρ2 s2.H) (w := w2) (.inl hFl) (r := LR.lp ⟨fn, tm, ps, as, bd, dfs⟩ .ready none) hl2 (.loop { LR.lp ⟨fn, tm, ps, as, bd, dfs⟩ .ready none with state := .busy })
  generalize hw3 : w2.putObj l (.loop { LR.lp ⟨fn, tm, ps, as, bd, dfs⟩ .ready none with state := .busy }) = w3 at m3 x3 ⊢
  have hlt2 : l < w2.heap.size := (Array.getElem?_eq_some_iff.1 hl2).1
  have hl3 : w3.heap[l]? = some (.loop { LR.lp ⟨fn, tm, ps, as, bd, dfs⟩ .ready none with state := .busy }) := by rw [← hw3]; exact World.putObj_heap_same hlt2
  let Fb := Fra.subZ ρ2 s2.H w3 nt F.X (fun _ => False) []
  have satb : Sat C Fb ρ2 s2 a2 w3 := ⟨ent m3, hs2.fresh, hs2.gen, fun t => (hs2.env t).mono x3, hs2.nt, hs2.dfr⟩
  refine wpIn_mono ((hbody Fb).out (.refl Fb) hdb ρ2 _ w3 satb) ?_
  rintro e a4 w4 ⟨F4, s4, ρ4, hF4, hq, hs4⟩
  obtain ⟨m4, x4⟩ := lv m3 (hF4.mem hs4.mem)
  have hl4 : w4.heap[l]? = some (.loop { LR.lp ⟨fn, tm, ps, as, bd, dfs⟩ .ready none with state := .busy }) := (lat m3 (Array.getElem?_eq_some_iff.1 hl3).1 (hF4.mem hs4.mem)).trans hl3
  have fin : ∀ j, Φ j s4.H s4.n → ∃ v w', (Instr.endRound l j).run C.P w4 = .ok v w' ∧ RunsTo C F l ⟨fn, tm, ps, as, bd, dfs⟩ ρ H w (fun j d H' n' => d = boo j.isNone ∧ Φ j H' n') (.returned v) w' := fun j hj => by
    refine ⟨_, _, run_endRound j hl4, _, j, boo j.isNone, s4.H, s4.n, ρ4, rfl, ⟨rfl, hj⟩, World.putObj_heap_same (Array.getElem?_eq_some_iff.1 hl4).1, m4.putL hFl (.inr rfl) hl4 _, ((x2.trans x3).trans x4).trans (Ext.putL (.inl hFl) hl4 _), hs4.fresh, hs4.gen, .prim _⟩
  cases e with
  | normal => exact fin none hq
  | ret => exact fin _ hq
  | exit i => exact fin _ hq
  | goto t => exact fin _ hq
  | panic c => exact hq.elim
  | outgrown => exact hq.elim

/-! ### the statement -/
def endW (Q : Exit → Fra → St → Prop) (F : Fra) (s : St) (j : Option Code) : Prop := match j with
  | none => Q .normal F s
  | some .ret => Q .ret F s
  | some (.exit i) => Q (.exit i) F s
  | some (.goto t) => Q (.goto t) F s
  | some _ => False
theorem Since.ext {ρ1 : Lk} {O1 : Nat → Prop} {w1 : World} : Since.ok (fun ρ O w => Ext ρ1 O1 w1 ρ O w) := fun _ _ _ _ _ _ h k => h.trans k

theorem OkS.rangeFunc {B : Fra} {s : St} {Q : Exit → Fra → St → Prop} {g : Operand} {ps : Array Nat} {as bd : Code} {fi : Nat} {first captured : List D} {Ψ : Option Code → D → Hp → Nat → Prop} (hg : gOpd s.env g = .clo (.func fi) first captured)
    (YS : List D → Hp → Nat → (Option Code → Hp → Nat → Prop) → Prop)
    (hbody : ∀ l ds H n Φ, YS ds H n Φ → ds.length = ps.size ∧ ∀ F : Fra, OkS C F (some l) F as ⟨putPs ps.toList ds s.env, H, n⟩ fun e F' s => e = .normal ∧ F' = F ∧ ∀ F' : Fra, OkS C F' (some l) F' bd s (RoundW Φ))
    (hiter : ∀ (E : Since) (l : Nat) (R : LR), Since.ok E → (∀ ds H n Φ, YS ds H n Φ → IYield C E l R ds H n Φ) → ICallX C E fi (first ++ [.clo (.yield l) [] []] ++ captured) l R s.H s.n Ψ)
    (hend : ∀ j d H' n' F', Ψ j d H' n' → endW Q F' ⟨s.env, H', n'⟩ j) : OkS C B none F (.rangeFunc g ps as bd) s Q := by
  refine ⟨fun hB hd ρ a w hs => ?_⟩
  simp only [codeDst, Bool.and_eq_true] at hd
  have hps : ∀ t ∈ ps, t < B.nt := fun t ht => Nat.blt_eq.mp (List.all_eq_true.1 hd.1 t (by simpa using ht))
  have hgr := gOpd_rep hs.env g
  rw [hg] at hgr
  generalize hv : a.eval g = gv at hgr
  cases hgr with
  | clo hnf hnc hr1 hr2 =>
  rename_i fs cs
  refine wpIn_rangeFunc fun fn _ => ?_
  let l := w.heap.size + 1
  let d := w.heap.size
  let R : LR := ⟨fn, a.tmps, ps, as, bd, d⟩
  let w1 := (w.alloc (.deferred (some []))).alloc (R.obj none)
  have hw1s : w1.heap.size = w.heap.size + 2 := by simp only [w1, World.size_alloc]
  have hold : ∀ b, b < w.heap.size → w1.heap[b]? = w.heap[b]? := fun b hb => by
    show ((w.alloc _).alloc _).heap[b]? = _
    rw [heap_alloc, if_neg (by rw [World.size_alloc]; omega), heap_alloc, if_neg (by omega)]
  have hdw : w1.heap[d]? = some (.deferred (some [])) := by
    show ((w.alloc _).alloc _).heap[w.heap.size]? = _
    rw [heap_alloc, if_neg (by rw [World.size_alloc]; omega), heap_alloc, if_pos rfl]
  have hlw : w1.heap[l]? = some (R.obj none) := by
    show ((w.alloc _).alloc _).heap[w.heap.size + 1]? = _
    rw [heap_alloc, if_pos (by rw [World.size_alloc])]
  have m := hs.mem
  let X1 : Nat → Prop := fun b => F.X b ∨ b = l ∨ b = d
  have hown : ∀ e ∈ s.H, ∀ b, ρ e.k e.g = some b → b < w.heap.size := fun e he b hb => m.lt he hb
  have x : Ext ρ (Own F.X ρ s.H) w ρ (Own X1 ρ s.H) w1 := by
    refine ⟨by omega, fun _ _ _ h => h, fun b hb hO => ⟨?_, hold b hb⟩, fun b cs T fz h => ⟨cs, ?_, rfl⟩⟩
    · rintro ((h | h | h) | h)
      · exact hO (.inl h)
      · simp only [l] at h; omega
      · simp only [d] at h; omega
      · exact hO (.inr h)
    · rw [hold b (Array.getElem?_eq_some_iff.1 h).1]; exact h
  have hng : C.nG ≤ l := by
    have := m.gn; have := m.size
    simp only [l]; omega
  have m1 : Mem C (Fra.subZ ρ s.H w1 F.nt X1 (fun b => b = l) ([d].map (fun r => ({ target := .collected r, args := #[] } : Deferred)) ++ F.df)) ρ s.H w1 := by
    refine m.enterZ x rfl rfl rfl (fun b hb _ => hold b hb) (fun e he b hb hbl => ?_) (fun b hb => ?_) (fun e he b hb hb' => ?_) (fun b hb => by rw [hb]; exact hng) _ _
    · have := hown e he b hb
      simp only [l] at hbl; omega
    · rcases hb with h | h | h
      · have := m.xlt b h; have := m.size; omega
      · simp only [l] at h; omega
      · simp only [d] at h; omega
    · have h1 := hown e he b hb
      rcases hb' with h | h | h
      · exact (m.hok.own e he b hb).1 h
      · simp only [l] at h; omega
      · simp only [d] at h; omega
  -- as the outer function sees it
  have mo : Mem C F ρ s.H w1 := m.same ⟨by omega, fun _ _ _ h => h, fun b hb hO => ⟨hO, hold b hb⟩, fun b cs T fz h => ⟨cs, by rw [hold b (Array.getElem?_eq_some_iff.1 h).1]; exact h, rfl⟩⟩ rfl rfl rfl hold
  have hF1 : Fle C F (Fra.subZ ρ s.H w1 F.nt X1 (fun b => b = l) ([d].map (fun r => ({ target := .collected r, args := #[] } : Deferred)) ++ F.df)) := by
    refine Fle.subZ mo (fun b hb => .inl hb) (fun b hb => .inl ?_) [d] (by simp) fun r hr => ?_
    · have := m.size
      rw [hb]; simp only [l]; omega
    · simp only [List.mem_singleton] at hr
      subst hr
      refine ⟨m.size, by simp only [d]; omega, .inr (.inr rfl), ⟨by simp only [d, l]; omega, fun e he h => ?_⟩, hdw⟩
      have := hown e he d h
      simp only [d] at this; omega
  have hB1 := hB.trans hF1
  generalize hF1d : Fra.subZ ρ s.H w1 F.nt X1 (fun b => b = l) ([d].map (fun r => ({ target := .collected r, args := #[] } : Deferred)) ++ F.df) = F1 at m1 hF1 hB1
  have hF1X : F1.X = X1 := by rw [← hF1d]; rfl
  have hF1W : F1.Wr l := by rw [← hF1d]; exact .inr rfl
  have hXl : F1.X l := by rw [hF1X]; exact .inr (.inl rfl)
  have henv1 : ∀ t, Rep ρ (Own F1.X ρ s.H) w1 (s.env.get t) (a.tmps.getD t undef) := fun t => by rw [hF1X]; exact (hs.env t).mono x
  -- the iterator
  have hc := hiter (fun ρ' O w' => Ext ρ (Own F1.X ρ s.H) w1 ρ' O w') l R Since.ext fun ds H n Φ hY => by
    obtain ⟨q1, q2⟩ := hbody l ds H n Φ hY
    exact round_ok (nt := B.nt) (by rw [hs.nt]; exact hB.nt) hps hd.2.1 hd.2.2 henv1 q1 q2
  have hargs : (fs ++ #[Value.func (.yield l) #[] #[]] ++ cs).size = (first ++ [D.clo (.yield l) [] []] ++ captured).length := by simp [hnf, hnc]; omega
  have hcall := hc.2 F1 ρ w1 (fs ++ #[Value.func (.yield l) #[] #[]] ++ cs) m1 hXl hng (.refl _ _ _) hlw hs.fresh hs.gen hargs fun i dd hdd => by
    rw [List.append_assoc] at hdd
    rw [Array.append_assoc]
    rcases Nat.lt_or_ge i first.length with hi | hi
    · rw [List.getElem?_append_left hi] at hdd
      have : (fs ++ (#[Value.func (.yield l) #[] #[]] ++ cs)).getD i undef = fs.getD i undef := by
        simp only [Array.getD_eq_getD_getElem?]
        rw [Array.getElem?_append_left (by omega)]
      rw [this, hF1X]
      exact (hr1 i dd hdd).mono x
    · rw [List.getElem?_append_right hi] at hdd
      have e1 : (fs ++ (#[Value.func (.yield l) #[] #[]] ++ cs)).getD i undef = (#[Value.func (.yield l) #[] #[]] ++ cs).getD (i - first.length) undef := by
        simp only [Array.getD_eq_getD_getElem?]
        rw [Array.getElem?_append_right (by omega), hnf]
      rw [e1]
      cases hk : i - first.length with
      | zero =>
        rw [hk] at hdd
        simp at hdd
        subst hdd
        have : (#[Value.func (.yield l) #[] #[]] ++ cs).getD 0 undef = Value.func (.yield l) #[] #[] := by
          rw [Array.getD_eq_getD_getElem?, Array.getElem?_append_left (by simp)]; rfl
        rw [this]
        exact .clo rfl rfl (by simp) (by simp)
      | succ k =>
        rw [hk] at hdd
        have hdd : captured[k]? = some dd := by simpa using hdd
        have : (#[Value.func (.yield l) #[] #[]] ++ cs).getD (k + 1) undef = cs.getD k undef := by
          simp only [Array.getD_eq_getD_getElem?]
          rw [Array.getElem?_append_right (by simp)]; simp
        rw [this, hF1X]
        exact (hr2 k dd hdd).mono x
  refine ⟨l, [{ target := .collected d, args := #[] }], w1, { target := .fn (.func fi) cs, args := fs ++ #[Value.func (.yield l) #[] #[]] }, w1, fi, fs ++ #[Value.func (.yield l) #[] #[]] ++ cs, w1, run_enterLoop_outer _ _ _ _ _, ?_, fun _ _ => trivial, ?_, fw_depth, calls_fw.2 (hcall.mono ?_)⟩
  · unfold resolve
    simp only [hv]
    have e : (#[Operand.const (Value.func (.yield l) #[] #[])]).map a.eval = #[Value.func (.yield l) #[] #[]] := by simp [Act.eval]
    rw [e]; rfl
  · unfold invoke
    exact callFunc_run hc.1 _ w1
  · rintro e w' ⟨v, j, dd, H', n', ρ', rfl, hΨ, hl', m', x', fr, gn, rep⟩
    have hend' := hend j dd H' n' F1 hΨ
    have m'' : Mem C F1 ρ' H' w' := wrMono m' rfl rfl rfl (fun b hb => by
      rcases hb with hb | hb
      · exact hb
      · rw [hb]; exact hF1W) m1.gw
    have m3 := m''.putL hXl hF1W (r := R.lp (if j.isNone then .ready else .done) j) hl' (.loop { R.lp (if j.isNone then .ready else .done) j with state := .exhausted })
    have x3 := Ext.putL (ρ := ρ') (O := Own F1.X ρ' H') (w := w') (.inl hXl) (r := R.lp (if j.isNone then .ready else .done) j) hl' (.loop { R.lp (if j.isNone then .ready else .done) j with state := .exhausted })
    refine ⟨j, _, run_endLoop (r := R.lp (if j.isNone then .ready else .done) j) hl' (by cases j <;> simp [LR.lp]), ?_⟩
    generalize w'.putObj l (.loop { R.lp (if j.isNone then .ready else .done) j with state := .exhausted }) = w3 at m3 x3 ⊢
    have sat : Sat C F1 ρ' ⟨s.env, H', n'⟩ { a with defers := [{ target := .collected d, args := #[] }] ++ a.defers } w3 := by
      refine ⟨m3, fr, gn, fun t => ((henv1 t).mono x').mono x3, ?_, ?_⟩
      · show a.tmps.size = _
        rw [hs.nt, hF1.nt]
      · show _ ++ a.defers = _
        rw [hs.dfr, ← hF1d]; rfl
    cases j with
    | none => exact ⟨F1, _, ρ', hB1, hend', sat⟩
    | some c =>
      cases c <;> first | exact hend'.elim | skip
      · exact wpIn_exit ⟨F1, _, ρ', hB1, hend', sat⟩
      · exact wpIn_goto ⟨F1, _, ρ', hB1, hend', sat⟩
      · exact wpIn_ret ⟨F1, _, ρ', hB1, hend', sat⟩
end
end Go.Ide

/- The ideal layer, part 27: a range over a string. -/
namespace Go.Ide
open Go.RowKit

section
variable {C : Ctx} {X : EV} {B F : Fra} {ops : Array Oper} {s : St} {rd : Option Nat} {Q : Exit → Fra → St → Prop}

/-- in this frame the iterator with this name stands there -/
structure IterAt (C : Ctx) (B F : Fra) (k g : Nat) (str : ByteArray) (pos : Nat) : Prop where
  ex : ∃ it, F.r0 k g = some it ∧ F.X it ∧ ¬ F.Wr it ∧ F.w0.heap[it]? = some (.stringIter str pos) ∧ C.nG ≤ it ∧ ∀ {ρ : Lk} {H : Hp} {w : World}, Mem C (F.wr it) ρ H w → Mem C B ρ H w
  df : F.df = B.df

/-- any block that is no memory of cells turns -/
theorem Ext.putX {ρ : Lk} {O : Nat → Prop} {w : World} {l : Nat} (hO : O l) {o0 : Obj} (hc : ∀ cs T fz, o0 ≠ .cells cs T fz) (h : w.heap[l]? = some o0) (o : Obj) : Ext ρ O w ρ O (w.putObj l o) :=
  ⟨by rw [(putObj_rest w l o).2.2.2]; exact Nat.le_refl _, fun _ _ _ h => h, fun b hb hb' => ⟨hb', World.putObj_heap_other fun hbl => hb' (by rw [hbl]; exact hO)⟩, fun b cs T fz hh => ⟨cs, by
    rw [World.putObj_heap_other fun hbl => by rw [hbl, h] at hh; exact hc _ _ _ (Option.some.inj hh)]; exact hh, rfl⟩⟩
theorem Mem.putX {ρ : Lk} {H : Hp} {w : World} {l : Nat} (m : Mem C F ρ H w) (hX : F.X l) (hW : F.Wr l) {o0 : Obj} (hc : ∀ cs T fz, o0 ≠ .cells cs T fz) (h : w.heap[l]? = some o0) (o : Obj) : Mem C F ρ H (w.putObj l o) := by
  have x := Ext.putX (ρ := ρ) (O := Own F.X ρ H) (.inl hX) hc h o
  exact ⟨⟨fun e he => by
    rcases m.hok.ent e he with h | ⟨b, cs, a1, a2, a3⟩
    · exact .inl h
    · exact .inr ⟨b, cs, a1, by rw [World.putObj_heap_other fun hb => (m.hok.own e he b a1).1 (by rw [hb]; exact hX)]; exact a2, a3.mono x⟩, m.hok.inj, m.hok.own⟩,
    m.os, m.tape, m.output, by rw [(putObj_rest w l o).2.2.2]; exact m.size, fun b hb hw => by rw [World.putObj_heap_other fun hbl => hw (by rw [hbl]; exact hW)]; exact m.blk b hb hw, m.xlt, m.g0, m.gn, m.gw, m.lnk, shp_ext m.shp x⟩

def rangeW (C : Ctx) (X : EV) (B : Fra) (kb : Nat) (ops : Array Oper) (ir : Nat) (Q : Exit → Fra → St → Prop) (s : St) : Prop := match nthO ops.toList ir with
  | some o => match o.guard with
    | none => match o.op with
      | .range t x => match X.tt t with
        | some i => match i.ti with
          | .string => match gOpd s.env x with
            | .prim (.string str) => ∀ F' : Fra, IterAt C B F' kb s.n str 0 → Q .normal F' ⟨putE s.env o.dst (.optr kb s.n 0 0 0), s.H, s.n + 1⟩
            | _ => False
          | _ => False
        | none => False
      | _ => False
    | some _ => False
  | none => False

theorem Fle.refine {F2 : Fra} {ρ' : Lk} {H' : Hp} {w' : World} {X' : Nat → Prop} (hB : Fle C B F) (hdf : F.df = B.df) (hX : ∀ b, F.X b → X' b) (hsz : B.w0.heap.size ≤ w'.heap.size) (hm : ∀ {ρ : Lk} {H : Hp} {w : World}, Mem C (Fra.subZ ρ' H' w' F.nt X' (fun _ => False) F.df) ρ H w → Mem C B ρ H w)
    (h2 : F2 = Fra.subZ ρ' H' w' F.nt X' (fun _ => False) F.df) : Fle C B F2 := by
  subst h2
  exact ⟨hB.nt, hsz, hm, fun b hb => hX b (hB.X b hb), [], hdf, [], rfl, .nil, by simp⟩

theorem OkS.regRange {i : Nat} (hX : WOk C X) (kb : Nat) (l1 : List Nat) (ir : Nat) (hl : List.range ops.size = l1 ++ [ir]) (hnd : noDef ops.toList = true) (hFB : F = B)
    (h : wpSuf C X kb ops l1 s True fun acc s1 => acc ∧ rangeW C X B (kb + ir) ops ir Q s1) : OkS C B rd F (.region i ops false) s Q := by
  subst hFB
  refine ⟨fun hB hd ρ a w hs => wpIn_region ?_⟩
  rw [hl]
  have hlt : ∀ j ∈ l1 ++ [ir], j < ops.size := fun j hj => by rw [← hl] at hj; exact List.mem_range.1 hj
  have h1 := (wpSuf_ok (F := F) (K' := rangeW C X F (kb + ir) ops ir Q) hX (fun acc s h => h) h).2.run (fun j hj => hlt j (by simp [hj])) (dst_reg hB hd) hs
  refine wpOps_in (rd := rd) (Q := PostF C F Q) (l2 := [ir]) (fun e a w h => ?_) (noDef_at hnd) _ a w h1
  obtain ⟨h0, s1, ρ1, h, hs1⟩ := h
  refine ⟨h0, ?_⟩
  unfold rangeW at h
  split at h <;> first | exact h.elim | skip
  rename_i o ho
  split at h <;> first | exact h.elim | skip
  rename_i hgd
  split at h <;> first | exact h.elim | skip
  rename_i t x hop
  split at h <;> first | exact h.elim | skip
  rename_i ti hti
  split at h <;> first | exact h.elim | skip
  rename_i hstr
  split at h <;> first | exact h.elim | skip
  rename_i str hx
  have ho := nthO_arr ho
  have hdo : dstOk F.nt o = true := List.all_eq_true.1 (show ops.toList.all (dstOk F.nt) = true from hd) o (Array.mem_toList_iff.2 (Array.mem_of_getElem? ho))
  simp only [wpOpsIn, ho]
  rw [if_pos (by unfold Region.wanted; rw [hgd])]
  have hxv : a.eval x = .string str := by
    have := gOpd_rep hs1.env x
    rw [hx] at this
    generalize a.eval x = v at this
    cases this; rfl
  have hrun : (execOp a.eval o).run C.P w = .ok (.value (.pointer (some ⟨w.heap.size, 0, none⟩))) (w.alloc (.stringIter str 0)) := by
    unfold execOp
    simp only [hop]
    rw [run_bind]
    have : (Instr.range t (a.eval x)).run C.P w = .ok (.pointer (some ⟨w.heap.size, 0, none⟩)) (w.alloc (.stringIter str 0)) := by
      unfold Instr.range
      rw [run_bind, run_underlying (tinfo_string (hX.tt _ _ hti) hstr), hxv]
      dsimp only
      rw [run_bind, run_pure]; dsimp only
      rw [run_bind, run_newObj_alloc]; rfl
    rw [this]; rfl
  refine wpIn_value hrun ?_
  show PostF C F Q .normal _ _
  have m := hs1.mem
  let it := w.heap.size
  let X1 : Nat → Prop := fun b => F.X b ∨ b = it
  have hown : ∀ e ∈ s1.H, ∀ b, ρ1 e.k e.g = some b → b < w.heap.size := fun e he b hb => m.lt he hb
  have hfr : ρ1 (kb + ir) s1.n = none := hs1.fresh _ _ (Nat.le_refl _)
  let ρ2 := ρ1.put (kb + ir) s1.n it
  have hput : ∀ k g b, ρ1 k g = some b → ρ2 k g = some b := fun k g b hb => Lk.put_old hfr hb
  have hown2 : ∀ e ∈ s1.H, ∀ b, ρ2 e.k e.g = some b → ρ1 e.k e.g = some b := fun e he b hb => by
    have hg := hs1.gen e he
    have : ρ2 e.k e.g = ρ1 e.k e.g := by
      show (if e.k = kb + ir ∧ e.g = s1.n then some it else ρ1 e.k e.g) = _
      rw [if_neg (by omega)]
    rw [← this]; exact hb
  have hw1 : (w.alloc (.stringIter str 0)).heap.size = w.heap.size + 1 := World.size_alloc ..
  have hold : ∀ b, b < w.heap.size → (w.alloc (.stringIter str 0)).heap[b]? = w.heap[b]? := fun b hb => by rw [heap_alloc, if_neg (by omega)]
  have xx : ∀ X' : Nat → Prop, (∀ b, b < w.heap.size → X' b → F.X b) → Ext ρ1 (Own F.X ρ1 s1.H) w ρ2 (Own X' ρ2 s1.H) (w.alloc (.stringIter str 0)) := fun X' hX' => by
    refine ⟨by omega, hput, fun b hb hO => ⟨?_, hold b hb⟩, fun b cs T fz hc => ⟨cs, by rw [hold b (Array.getElem?_eq_some_iff.1 hc).1]; exact hc, rfl⟩⟩
    rintro (h | ⟨e, he, h⟩)
    · exact hO (.inl (hX' b hb h))
    · exact hO (.inr ⟨e, he, hown2 e he b h⟩)
  -- the same frame, one link more
  have m1 : Mem C F ρ2 s1.H (w.alloc (.stringIter str 0)) := by
    have x1 := xx F.X fun _ _ h => h
    refine ⟨⟨fun e he => ?_, m.hok.inj.imp_of_mem fun {e e'} he he' h b b' hb hb' => h b b' (hown2 e he b hb) (hown2 e' he' b' hb'), fun e he b hb => m.hok.own e he b (hown2 e he b hb)⟩, m.os, m.tape, m.output, by have := m.size; omega,
      fun b hb hW => by rw [hold b (Nat.lt_of_lt_of_le hb m.size)]; exact m.blk b hb hW, m.xlt, m.g0, m.gn, m.gw, fun k g b h => hput _ _ _ (m.lnk k g b h), shp_ext m.shp x1⟩
    rcases m.hok.ent e he with ⟨h1, h2⟩ | ⟨b, cs, a1, a2, a3⟩
    · refine .inl ⟨h1, ?_⟩
      cases hb : ρ2 e.k e.g with
      | none => rfl
      | some b => rw [hown2 e he b hb] at h2; cases h2
    · exact .inr ⟨b, cs, hput _ _ _ a1, by rw [hold b (m.lt he a1)]; exact a2, a3.mono x1⟩
  have hitm : ∀ e ∈ s1.H, ∀ b, ρ2 e.k e.g = some b → b ≠ it := fun e he b hb => by have := hown e he b (hown2 e he b hb); simp only [it]; omega
  have hX1lt : ∀ b, X1 b → b < (w.alloc (.stringIter str 0)).heap.size := fun b hb => by
    rcases hb with h | h
    · have := m.xlt b h; have := m.size; omega
    · simp only [it] at h; omega
  have hX1o : ∀ e ∈ s1.H, ∀ b, ρ2 e.k e.g = some b → ¬ X1 b := fun e he b hb hb' => by
    rcases hb' with h | h
    · exact (m.hok.own e he b (hown2 e he b hb)).1 h
    · exact hitm e he b hb h
  have e2 : ∀ e ∈ s1.H, ∀ b, Own F.X ρ2 s1.H b → Own X1 ρ2 s1.H b := fun _ _ _ h => h.imp .inl id
  have hng : C.nG ≤ it := by have := m.gn; have := m.size; simp only [it]; omega
  have ent : ∀ Z : Nat → Prop, (∀ b, Z b → b = it) → Mem C (Fra.subZ ρ2 s1.H (w.alloc (.stringIter str 0)) F.nt X1 Z F.df) ρ2 s1.H (w.alloc (.stringIter str 0)) := fun Z hZ => by
    refine ⟨⟨fun e he => ?_, m1.hok.inj, fun e he b hb => ⟨hX1o e he b hb, .inr (.inl ⟨e, he, hb⟩)⟩⟩, rfl, rfl, rfl, Nat.le_refl _, fun _ _ _ => rfl, hX1lt, m1.g, Nat.le_trans m1.gn m1.size, fun b hb => ?_, fun _ _ _ h => h, fun _ cs _ _ h => ⟨cs, h, rfl⟩⟩
    · rcases m.hok.ent e he with ⟨h1, h2⟩ | ⟨b, cs, a1, a2, a3⟩
      · rcases m1.hok.ent e he with h | ⟨b, cs, b1, _⟩
        · exact .inl h
        · rw [hown2 e he b b1] at h2; cases h2
      · exact .inr ⟨b, cs, hput _ _ _ a1, by rw [hold b (m.lt he a1)]; exact a2, a3.mono (xx X1 fun b hb h => h.resolve_right fun h => by simp only [it] at h; omega)⟩
    · rcases hb with ⟨e, he, hb⟩ | hb
      · rcases (m1.hok.own e he b hb).2 with h | h
        · exact Nat.le_trans m1.gn h
        · exact m1.gw b h
      · rw [hZ b hb]; exact hng
  let F2 := Fra.subZ ρ2 s1.H (w.alloc (.stringIter str 0)) F.nt X1 (fun _ => False) F.df
  have upZ : ∀ {ρ : Lk} {H : Hp} {w' : World}, Mem C (F2.wr it) ρ H w' → Mem C F ρ H w' := fun {ρ H w'} m' => by
    have m'' : Mem C (Fra.subZ ρ2 s1.H (w.alloc (.stringIter str 0)) F.nt X1 (fun b => b = it) F.df) ρ H w' := wrMono m' rfl rfl rfl (fun b hb => by
      rcases hb with (hb | hb) | hb
      · exact .inl hb
      · exact hb.elim
      · exact .inr hb) (ent _ fun _ h => h).gw
    exact (m1.leaveZ (fun b hb => .inl hb) (fun b hb => .inl (by rw [hb]; exact m.size)) m'').1
  have hit : IterAt C F F2 (kb + ir) s1.n str 0 := ⟨⟨it, Lk.put_same .., .inr rfl, fun h => by
    rcases h with ⟨e, he, h⟩ | h
    · exact hitm e he it h rfl
    · exact h, by show (w.alloc _).heap[it]? = _; rw [heap_alloc, if_pos rfl], hng, upZ⟩, rfl⟩
  have hF2 : Fle C F F2 := Fle.refine hB rfl (fun b hb => .inl hb) (by have := m.size; show _ ≤ (w.alloc _).heap.size; omega) (fun m' => upZ (m'.wr hng)) rfl
  refine ⟨F2, _, ρ2, hF2, h F2 hit, ?_⟩
  have hs2 : Sat C F2 ρ2 ⟨s1.env, s1.H, s1.n + 1⟩ a (w.alloc (.stringIter str 0)) := ⟨ent _ fun _ h => h.elim, fun k g hg => by
    have hg : s1.n + 1 ≤ g := hg
    show (if k = kb + ir ∧ g = s1.n then some it else ρ1 k g) = none
    rw [if_neg (by omega)]
    exact hs1.fresh k g (by omega), fun e he => Nat.lt_succ_of_lt (hs1.gen e he), fun t => (hs1.env t).mono (xx X1 fun b hb h => h.resolve_right fun h => by simp only [it] at h; omega), hs1.nt, hs1.dfr⟩
  exact hs2.put (H' := s1.H) hs2.mem (.refl _ _ _) hs2.fresh hs2.gen (.optr (Lk.put_same ..)) hdo

def nextW (C : Ctx) (X : EV) (B F : Fra) (kb : Nat) (ops : Array Oper) (i0 : Nat) (l2 : List Nat) (str : ByteArray) (pos : Nat) (Q : Exit → Fra → St → Prop) (s : St) : Prop := match nthO ops.toList i0 with
  | some o => match o.guard with
    | none => match o.op with
      | .next x true => match gOpd s.env x with
        | .optr k g 0 0 0 => IterAt C B F k g str pos ∧
          (pos < str.size → ∀ F' : Fra, IterAt C B F' k g str (pos + (Utf8.decode str pos).2) → wpSuf C X kb ops l2 ⟨putE s.env o.dst (.tup [boo true, i64 pos, .prim (.int .i32 (Utf8.decode str pos).1)]), s.H, s.n + 1⟩ True fun acc s => acc ∧ Q .normal F' s) ∧
          (¬ pos < str.size → wpSuf C X kb ops l2 ⟨putE s.env o.dst (.tup [boo false]), s.H, s.n + 1⟩ True fun acc s => acc ∧ Q .normal F s)
        | _ => False
      | _ => False
    | some _ => False
  | none => False

theorem OkS.regNext {i : Nat} (hX : WOk C X) (kb : Nat) (i0 : Nat) (l2 : List Nat) (hl : List.range ops.size = i0 :: l2) (hnd : noDef ops.toList = true) (str : ByteArray) (pos : Nat)
    (h : nextW C X B F kb ops i0 l2 str pos Q s) : OkS C B rd F (.region i ops false) s Q := by
  refine ⟨fun hB hd ρ a w hs => wpIn_region ?_⟩
  rw [hl]
  have hlt : ∀ j ∈ i0 :: l2, j < ops.size := fun j hj => by rw [← hl] at hj; exact List.mem_range.1 hj
  unfold nextW at h
  split at h <;> first | exact h.elim | skip
  rename_i o ho
  split at h <;> first | exact h.elim | skip
  rename_i hgd
  split at h <;> first | exact h.elim | skip
  rename_i x hop
  split at h <;> first | exact h.elim | skip
  rename_i k g hx
  obtain ⟨⟨⟨it, i1, i2, i3, i4, i5, i6⟩, idf⟩, h1, h2⟩ := h
  have ho := nthO_arr ho
  have hdo : dstOk B.nt o = true := List.all_eq_true.1 (show ops.toList.all (dstOk B.nt) = true from hd) o (Array.mem_toList_iff.2 (Array.mem_of_getElem? ho))
  simp only [wpOpsIn, ho]
  rw [if_pos (by unfold Region.wanted; rw [hgd])]
  have m := hs.mem
  have hlk : ρ k g = some it := m.lnk _ _ _ i1
  have hxv : a.eval x = .pointer (some ⟨it, 0, none⟩) := by
    have := gOpd_rep hs.env x
    rw [hx] at this
    generalize a.eval x = v at this
    cases this with
    | optr hr => rw [hlk] at hr; cases hr; rfl
  have hob : w.heap[it]? = some (.stringIter str pos) := (m.blk it (m.xlt it i2) i3).trans i4
  have hget : (getObj it).run C.P w = .ok (.stringIter str pos) w := by
    simp [getObj, Sem.run, hob]
  by_cases hp : pos < str.size
  · have hrun : (execOp a.eval o).run C.P w = .ok (.value (.tuple #[.bool true, .int .i64 pos, .int .i32 (Utf8.decode str pos).1])) (w.putObj it (.stringIter str (pos + (Utf8.decode str pos).2))) := by
      unfold execOp
      simp only [hop]
      rw [run_bind]
      have : (Instr.next (a.eval x) true o.type).run C.P w = .ok (.tuple #[.bool true, .int .i64 pos, .int .i32 (Utf8.decode str pos).1]) (w.putObj it (.stringIter str (pos + (Utf8.decode str pos).2))) := by
        unfold Instr.next
        rw [hxv]
        simp only []
        rw [run_bind, hget]
        dsimp only
        rw [if_pos hp]
        rw [run_bind]
        have : (setObj it (.stringIter str (pos + (Utf8.decode str pos).2))).run C.P w = .ok () (w.putObj it (.stringIter str (pos + (Utf8.decode str pos).2))) := by
          simp [setObj, Sem.run, hob, World.putObj]
        rw [this]; rfl
      rw [this]; rfl
    refine wpIn_value hrun ?_
    have mp := (m.wr i5).putX i2 (.inr rfl) (o0 := .stringIter str pos) (by simp) hob (.stringIter str (pos + (Utf8.decode str pos).2))
    have xp := Ext.putX (ρ := ρ) (O := Own F.X ρ s.H) (w := w) (.inl i2) (o0 := .stringIter str pos) (by simp) hob (.stringIter str (pos + (Utf8.decode str pos).2))
    have hitw : it < w.heap.size := (Array.getElem?_eq_some_iff.1 hob).1
    have hit' : (w.putObj it (.stringIter str (pos + (Utf8.decode str pos).2))).heap[it]? = some (.stringIter str (pos + (Utf8.decode str pos).2)) := World.putObj_heap_same hitw
    have hszp := (putObj_rest w it (.stringIter str (pos + (Utf8.decode str pos).2))).2.2.2
    generalize w.putObj it (.stringIter str (pos + (Utf8.decode str pos).2)) = w2 at mp xp hit' hszp ⊢
    let F2 := Fra.subZ ρ s.H w2 F.nt F.X (fun _ => False) F.df
    have m2 : Mem C F2 ρ s.H w2 := mp.enterZ (.refl _ _ _) rfl rfl rfl (fun _ _ _ => rfl) (fun _ _ _ _ h => h) (fun b hb => Nat.lt_of_lt_of_le (mp.xlt b hb) mp.size) (fun e he b hb => (mp.hok.own e he b hb).1) (fun _ h => h.elim) _ _
    have mZ : Mem C (Fra.subZ ρ s.H w2 F.nt F.X (fun b => b = it) F.df) ρ s.H w2 := mp.enterZ (.refl _ _ _) rfl rfl rfl (fun _ _ _ => rfl) (fun e he b hb hb' => (mp.hok.own e he b hb).1 (by rw [hb']; exact i2)) (fun b hb => Nat.lt_of_lt_of_le (mp.xlt b hb) mp.size) (fun e he b hb => (mp.hok.own e he b hb).1) (fun b hb => by rw [hb]; exact i5) _ _
    have upZ : ∀ {ρ' : Lk} {H' : Hp} {w' : World}, Mem C (F2.wr it) ρ' H' w' → Mem C B ρ' H' w' := fun {ρ' H' w'} m' => by
      have m'' : Mem C (Fra.subZ ρ s.H w2 F.nt F.X (fun b => b = it) F.df) ρ' H' w' := wrMono m' rfl rfl rfl (fun b hb => by
        rcases hb with (hb | hb) | hb
        · exact .inl hb
        · exact hb.elim
        · exact .inr hb) mZ.gw
      exact i6 (mp.leaveZ (fun _ h => h) (fun b hb => .inr (.inr hb)) m'').1
    have hiter : IterAt C B F2 k g str (pos + (Utf8.decode str pos).2) := ⟨⟨it, hlk, i2, fun h => by
      rcases h with ⟨e, he, h⟩ | h
      · exact (mp.hok.own e he it h).1 i2
      · exact h, hit', i5, upZ⟩, idf⟩
    have hB2 : Fle C B F2 := Fle.refine hB idf (fun _ h => h) (by rw [hszp]; exact Nat.le_trans hB.sz m.size) (fun m' => upZ (m'.wr i5)) rfl
    have hs1 : Sat C F2 ρ ⟨s.env, s.H, s.n + 1⟩ a w2 := ⟨m2, fun k g hg => hs.fresh k g (by have : s.n + 1 ≤ g := hg; omega), fun e he => Nat.lt_succ_of_lt (hs.gen e he), fun t => (hs.env t).mono xp, hs.nt, hs.dfr⟩
    have hs2 := hs1.put (H' := s.H) (o := o) (d := .tup [boo true, i64 pos, .prim (.int .i32 (Utf8.decode str pos).1)]) (v := .tuple #[.bool true, .int .i64 pos, .int .i32 (Utf8.decode str pos).1]) hs1.mem (.refl _ _ _) hs1.fresh hs1.gen (.tup rfl fun i d hd => by
      match i with
      | 0 => simp at hd; subst hd; exact .prim _
      | 1 => simp at hd; subst hd; exact .prim _
      | 2 => simp at hd; subst hd; exact .prim _
      | n + 3 => simp at hd) (by rw [show F2.nt = B.nt from hB.nt]; exact hdo)
    have h3 := (wpSuf_ok (F := F2) (K' := Q .normal F2) hX (fun acc s h => h) (h1 hp F2 hiter)).2.run (fun j hj => hlt j (by simp [hj])) (dst_reg hB2 hd) hs2
    have := wpOps_in (rd := rd) (Q := PostF C B Q) (l2 := []) (fun _ _ _ h => fin_post hB2 (fun _ h => h) h) (noDef_at hnd) _ _ _ h3
    rwa [List.append_nil] at this
  · have hrun : (execOp a.eval o).run C.P w = .ok (.value (.tuple #[.bool false])) w := by
      unfold execOp
      simp only [hop]
      rw [run_bind]
      have : (Instr.next (a.eval x) true o.type).run C.P w = .ok (.tuple #[.bool false]) w := by
        unfold Instr.next
        rw [hxv]
        simp only []
        rw [run_bind, hget]
        dsimp only
        rw [if_neg hp]; rfl
      rw [this]; rfl
    refine wpIn_value hrun ?_
    have hs1 : Sat C F ρ ⟨s.env, s.H, s.n + 1⟩ a w := ⟨m, fun k g hg => hs.fresh k g (by have : s.n + 1 ≤ g := hg; omega), fun e he => Nat.lt_succ_of_lt (hs.gen e he), hs.env, hs.nt, hs.dfr⟩
    have hs2 := hs1.put (H' := s.H) (o := o) (d := .tup [boo false]) (v := .tuple #[.bool false]) hs1.mem (.refl _ _ _) hs1.fresh hs1.gen (.tup rfl fun i d hd => by
      match i with
      | 0 => simp at hd; subst hd; exact .prim _
      | n + 1 => simp at hd) (by rw [hB.nt]; exact hdo)
    have h3 := (wpSuf_ok (F := F) (K' := Q .normal F) hX (fun acc s h => h) (h2 hp)).2.run (fun j hj => hlt j (by simp [hj])) (dst_reg hB hd) hs2
    have := wpOps_in (rd := rd) (Q := PostF C B Q) (l2 := []) (fun _ _ _ h => fin_post hB (fun _ h => h) h) (noDef_at hnd) _ _ _ h3
    rwa [List.append_nil] at this
end
end Go.Ide

/- The ideal layer, part 29: the check of a drawn region with the closure told (the computed one doubles with each operation). -/
namespace Go.Ide
open Go.RowKit
section
variable {ops : Array Oper}
def okClo (ops : Array Oper) : List (Nat × List Nat) → Bool
  | [] => true
  | (i, l) :: r => okClo ops r && l.all fun j => memB j (depsOf ops i) || (depsOf ops i).any fun k => memB j (look2 r k)
theorem okClo_reach : ∀ {clo : List (Nat × List Nat)}, okClo ops clo = true → ∀ i j, j ∈ look2 clo i → Reach ops i j
  | [], _, i, j, hj => by simp [look2] at hj
  | (k, l) :: r, h, i, j, hj => by
    simp only [okClo, Bool.and_eq_true, List.all_eq_true] at h
    unfold look2 at hj
    split at hj
    · rename_i hk
      have := Nat.eq_of_beq_eq_true hk
      subst this
      have := h.2 j hj
      simp only [Bool.or_eq_true, List.any_eq_true] at this
      rcases this with h1 | ⟨q, h1, h2⟩
      · exact .dep (memB_iff.1 h1)
      · exact .step h1 (okClo_reach h.1 q j (memB_iff.1 h2))
    · exact okClo_reach h.1 i j hj
theorem cloT_full : ∀ (l done : List Nat) (acc : List (Nat × List Nat)), firstB ops done l = true → (∀ k ∈ done, ∀ j, Reach ops k j → j ∈ look2 acc k) →
    ∀ i, (i ∈ done ∨ i ∈ l) → ∀ j, Reach ops i j → j ∈ look2 (cloT ops l acc) i
  | [], done, acc, _, h, i, hi, j, hr => h i (hi.resolve_right (by simp)) j hr
  | i :: l, done, acc, hf, h, i', hi, j, hr => by
    simp only [firstB, Bool.and_eq_true] at hf
    refine cloT_full l (i :: done) _ hf.2 (fun k hk j hr => ?_) i' ?_ j hr
    · unfold look2
      split
      · rename_i hk'
        have := Nat.eq_of_beq_eq_true hk'
        subst this
        refine unionL_mem.2 (.inl ?_)
        rw [List.mem_append]
        cases hr with
        | dep h1 => exact .inl h1
        | step h1 h2 => exact .inr (List.mem_flatMap.2 ⟨_, h1, h _ (allMem_iff.1 hf.1 _ h1) _ h2⟩)
      · rename_i hk'
        rcases List.mem_cons.1 hk with rfl | hk
        · simp at hk'
        · exact h k hk j hr
    · rcases hi with hi | hi
      · exact .inl (List.mem_cons_of_mem _ hi)
      · rcases List.mem_cons.1 hi with rfl | hi
        · exact .inl List.mem_cons_self
        · exact .inr hi
theorem preB_mono {all : List Nat} {clo clo' : List (Nat × List Nat)} (h : ∀ i j, i ∈ all → j ∈ look2 clo i → j ∈ look2 clo' i) : ∀ (l done : List Nat), (∀ i ∈ l, i ∈ all) → preB ops all clo done l = true → preB ops all clo' done l = true
  | [], _, _, _ => rfl
  | i :: l, done, hl, hp => by
    simp only [preB, Bool.and_eq_true] at hp ⊢
    refine ⟨?_, preB_mono h l _ (fun k hk => hl k (List.mem_cons_of_mem _ hk)) hp.2⟩
    have hp1 := hp.1
    split at hp1
    · rw [List.all_eq_true] at hp1 ⊢
      intro t ht
      have := hp1 t ht
      rw [List.all_eq_true] at this ⊢
      intro j hj
      have := this j hj
      simp only [Bool.or_eq_true, Bool.and_eq_true, Bool.not_eq_true'] at this ⊢
      rcases this with h1 | ⟨h1, h2⟩ | ⟨⟨h1, h2⟩, h3⟩
      · exact .inl h1
      · exact .inr (.inl ⟨memB_iff.2 (h _ _ (hl i List.mem_cons_self) (memB_iff.1 h1)), h2⟩)
      · exact .inr (.inr ⟨⟨memB_iff.2 (h _ _ hj (memB_iff.1 h1)), h2⟩, h3⟩)
    · cases hp1
theorem sufB_mono {clo clo' : List (Nat × List Nat)} {all : List Nat} (h : ∀ i j, i ∈ all → j ∈ look2 clo i → j ∈ look2 clo' i) : ∀ (l done : List Nat), (∀ i ∈ l, i ∈ all) → sufB clo done l = true → sufB clo' done l = true
  | [], _, _, _ => rfl
  | i :: l, done, hl, hp => by
    simp only [sufB, Bool.and_eq_true] at hp ⊢
    exact ⟨allMem_iff.2 fun k hk => h _ _ (hl i List.mem_cons_self) (allMem_iff.1 hp.1 k hk), sufB_mono h l _ (fun k hk => hl k (List.mem_cons_of_mem _ hk)) hp.2⟩
def chkC (ops : Array Oper) (pre suf : List Nat) (clo : List (Nat × List Nat)) : Bool :=
  nodupB (pre ++ suf) && allMem (List.range ops.size) (pre ++ suf) && (pre ++ suf).all (fun i => Nat.blt i ops.size) && firstB ops [] (pre ++ suf) &&
  nodupB (pre.flatMap (dstsB ops)) && preB ops pre clo [] pre && sufB clo pre suf
theorem chkC_ok {pre suf : List Nat} (clo : List (Nat × List Nat)) (h : (chkC ops pre suf clo && okClo ops clo && noDef ops.toList) = true) : (chkD ops pre suf && noDef ops.toList) = true := by
  simp only [chkC, Bool.and_eq_true] at h
  obtain ⟨⟨⟨⟨⟨⟨⟨⟨c1, c2⟩, c3⟩, c4⟩, c5⟩, c6⟩, c7⟩, c8⟩, c9⟩ := h
  have key : ∀ i j, i ∈ pre ++ suf → j ∈ look2 clo i → j ∈ look2 (cloT ops (pre ++ suf) []) i := fun i j hi hj => cloT_full (pre ++ suf) [] [] c4 (by simp) i (.inr hi) j (okClo_reach c8 i j hj)
  simp only [chkD, Bool.and_eq_true]
  exact ⟨⟨⟨⟨⟨⟨⟨c1, c2⟩, c3⟩, c4⟩, c5⟩, preB_mono (fun i j hi hj => key i j (List.mem_append_left _ hi) hj) _ _ (fun _ h => h) c6⟩,
    sufB_mono (all := suf) (fun i j hi hj => key i j (List.mem_append_right _ hi) hj) _ _ (fun _ h => h) c7⟩, c9⟩
end
end Go.Ide

/- The ideal layer, part 30: operation by operation (each step leaves the rest folded; else the kernel compares the rest of a region again and again). -/
namespace Go.Ide
open Go.RowKit
section
variable {C : Ctx} {X : EV} {kb : Nat} {ops : Array Oper} {i : Nat} {l : List Nat} {s : St} {acc : Prop} {K : Prop → St → Prop} {o : Oper}
theorem wpSuf_nil (h : K acc s) : wpSuf C X kb ops [] s acc K := h
theorem wpSuf_cons (h : nthO ops.toList i = some o) (hg : o.guard = none) (hk : wpO C X (kb + i) (gOpd s.env) s.H s.n o.op acc fun acc d H n => wpSuf C X kb ops l ⟨putE s.env o.dst d, H, n⟩ acc K) : wpSuf C X kb ops (i :: l) s acc K := by
  unfold wpSuf; simp only [h, hg]; exact hk
theorem wpSuf_on {g : Nat × Bool} {b : Bool} (h : nthO ops.toList i = some o) (hg : o.guard = some g) (hw : wantD ops s.env o = some b) (hb : b = true) (ha : acc)
    (hk : wpO C X (kb + i) (gOpd s.env) s.H s.n o.op True fun acc d H n => wpSuf C X kb ops l ⟨putE s.env o.dst d, H, n⟩ acc K) : wpSuf C X kb ops (i :: l) s acc K := by
  unfold wpSuf; simp only [h, hg, hw]; subst hb; exact ⟨ha, hk⟩
theorem wpSuf_off {g : Nat × Bool} {b : Bool} (h : nthO ops.toList i = some o) (hg : o.guard = some g) (hw : wantD ops s.env o = some b) (hb : b = false) (ha : acc)
    (hk : wpSuf C X kb ops l ⟨putE s.env o.dst (.prim (.tuple #[])), s.H, s.n + 1⟩ True K) : wpSuf C X kb ops (i :: l) s acc K := by
  unfold wpSuf; simp only [h, hg, hw]; subst hb; exact ⟨ha, hk⟩
section
variable {g : Operand → D} {H : Hp} {n : Nat} {op : Op} {k : Prop → D → Hp → Nat → Prop}
theorem wpO_det {P : Prop → Prop} {d : D} {H' : Hp} {n' : Nat} (hs : ∀ acc k, wpO C X kb g H n op acc k = k (P acc) d H' n') (hk : k (P acc) d H' n') : wpO C X kb g H n op acc k := by rw [hs]; exact hk
theorem wpO_call {f : Nat} {ds : List D} (hs : ∀ acc k, wpO C X kb g H n op acc k = (acc ∧ CallO C f ds H n fun d H n => k True d H n)) (ha : acc) (hc : CallO C f ds H n fun d H n => k True d H n) : wpO C X kb g H n op acc k := by
  rw [hs]; exact ⟨ha, hc⟩
theorem wpO_ix {es : List D} {j : Int} {sz esz : Nat} {d : D} (hs : ∀ acc k, wpO C X kb g H n op acc k = (acc ∧ (sz = esz ∧ 0 ≤ j) ∧ ∃ d, es[j.toNat]? = some d ∧ k True (.pptr d) H (n + 1))) (ha : acc) (h1 : sz = esz ∧ 0 ≤ j)
    (h2 : es[j.toNat]? = some d) (hk : k True (.pptr d) H (n + 1)) : wpO C X kb g H n op acc k := by
  rw [hs]; exact ⟨ha, h1, d, h2, hk⟩
end
section
variable {H : Hp} {n : Nat} {env : Env} {N : Hp} {K : Prop → Env → Hp → Prop}
theorem wpPre_nil (h : K acc env N) : wpPre C X kb ops H n [] env N acc K := h
theorem wpPre_cons (h : nthO ops.toList i = some o) (hg : o.guard = none) (hk : wpE C X (kb + i) (gOpd env) H (n + i) o.op acc fun acc d ne => wpPre C X kb ops H n l (putE env o.dst d) (putH ne N) acc K) : wpPre C X kb ops H n (i :: l) env N acc K := by
  unfold wpPre; simp only [h, hg]; exact hk
theorem wpPre_on {g : Nat × Bool} {b : Bool} (h : nthO ops.toList i = some o) (hg : o.guard = some g) (hw : wantD ops env o = some b) (hb : b = true) (ha : acc)
    (hk : wpE C X (kb + i) (gOpd env) H (n + i) o.op True fun acc d ne => wpPre C X kb ops H n l (putE env o.dst d) (putH ne N) acc K) : wpPre C X kb ops H n (i :: l) env N acc K := by
  unfold wpPre; simp only [h, hg, hw]; subst hb; exact ⟨ha, hk⟩
theorem wpPre_off {g : Nat × Bool} {b : Bool} (h : nthO ops.toList i = some o) (hg : o.guard = some g) (hw : wantD ops env o = some b) (hb : b = false) (ha : acc)
    (hk : wpPre C X kb ops H n l (putE env o.dst (.prim (.tuple #[]))) N True K) : wpPre C X kb ops H n (i :: l) env N acc K := by
  unfold wpPre; simp only [h, hg, hw]; subst hb; exact ⟨ha, hk⟩
section
variable {g : Operand → D} {op : Op} {k : Prop → D → Option Ent → Prop}
theorem wpE_det {P : Prop → Prop} {d : D} {ne : Option Ent} (hs : ∀ acc k, wpE C X kb g H n op acc k = k (P acc) d ne) (hk : k (P acc) d ne) : wpE C X kb g H n op acc k := by rw [hs]; exact hk
theorem wpE_call {f : Nat} {ds : List D} (hs : ∀ acc k, wpE C X kb g H n op acc k = (acc ∧ CallW C f ds fun d => k True d none)) (ha : acc) (hc : CallW C f ds fun d => k True d none) : wpE C X kb g H n op acc k := by
  rw [hs]; exact ⟨ha, hc⟩
theorem wpE_ix {es : List D} {j : Int} {sz esz : Nat} {d : D} (hs : ∀ acc k, wpE C X kb g H n op acc k = (acc ∧ (sz = esz ∧ 0 ≤ j) ∧ ∃ d, es[j.toNat]? = some d ∧ k True (.pptr d) none)) (ha : acc) (h1 : sz = esz ∧ 0 ≤ j)
    (h2 : es[j.toNat]? = some d) (hk : k True (.pptr d) none) : wpE C X kb g H n op acc k := by
  rw [hs]; exact ⟨ha, h1, d, h2, hk⟩
end
end
end
end Go.Ide

/- The ideal layer, part 31: a result that shows an own block (a closure over a box): what it is to the caller, told by its meaning. -/
namespace Go.Ide
open Go.RowKit
/-- when all of H is given up, d0 may be seen as d -/
def FzS (H : Hp) (d0 d : D) : Prop := ∀ (C : Ctx) (F : Fra) (ρ : Lk) (w : World), Mem C F ρ H w → (∀ b, Own F.X ρ [] b → Own F.X ρ H b) → (∀ e ∈ H, ∀ b, ρ e.k e.g = some b → ¬ Own F.X ρ [] b) →
  ∀ v, Rep ρ (Own F.X ρ H) w d0 v → Rep ρ (Own F.X ρ []) w d v
theorem FzS.refl (H : Hp) (d : D) : FzS H d d := fun _ _ _ _ _ hO _ _ hv => hv.anti hO
theorem FzS.clo1 {H : Hp} {fn : Fn} {c c' : D} (h : FzS H c c') : FzS H (.clo fn [] [c]) (.clo fn [] [c']) := fun C F ρ w m hO hN v hv => by
  cases hv with
  | clo hf hc h1 h2 =>
    refine .clo hf (by simpa using hc) (fun i d hd => by simp at hd) fun i d hd => ?_
    match i with
    | 0 =>
      simp at hd; subst hd
      exact h C F ρ w m hO hN _ (h2 0 _ rfl)
    | i + 1 => simp at hd
theorem FzS.ptr {H : Hp} {k g sz : Nat} {e : Ent} {x : D} (he : Hp.get H k = some e) (hg : g = e.g) (hs : sz = e.sz) (hx : e.es = [x]) : FzS H (.optr k g sz 0 0) (.pptr x) := fun C F ρ w m hO hN v hv => by
  subst hg hs
  obtain ⟨hm, hk⟩ := Hp.get_mem he
  cases hv with
  | optr hr =>
    rename_i b
    rw [← hk] at hr
    obtain ⟨cs, h1, h2⟩ := m.at hm hr
    have hlen := h2.len
    rw [hx] at hlen
    have hsz := h2.siz 0 x (by rw [hx]; rfl)
    have hin : ∀ n, n < x.cells.length → n < cs.size := fun n hn => by
      simp only [List.length_cons, List.length_nil] at hlen; omega
    rw [show 0 * e.sz + 0 = 0 from by omega]
    refine .pptr (fun n => cs.getD n undef) (hN e hm b hr) (m.lt hm hr) (fun n hn => ?_) (fun n hn => ?_) fun j d hd => ?_
    · rw [Nat.zero_add]; simp [World.cell?, h1, hin n hn]
    · have := h2.one _ _ (Array.getElem?_eq_getElem (hin n hn))
      simpa [Array.getD_eq_getD_getElem?, Array.getElem?_eq_getElem (hin n hn)] using this
    · have := h2.rep 0 x j d (by rw [hx]; rfl) hd
      rw [Nat.zero_mul, Nat.zero_add] at this
      exact this.anti hO
def PostS (tt : Nat → Option TInfo) (rs : List ResultVar) (Φ : D → Prop) (e : Exit) (_ : Fra) (s : St) : Prop := match e with
  | .normal | .ret => wpRes tt s rs fun d0 => ∃ d, FzS s.H d0 d ∧ Pure d ∧ Φ d
  | _ => False
section
variable {C : Ctx} {X : EV}
theorem ICallP.walkS {f : Nat} {i : FI} {args : List D} {Φ : D → Prop} (hX : WOk C X) (hf : FOk C.P f i) (hnt : Nat.ble args.length i.nt = true)
    (h : ∀ F : Fra, OkS C F none F i.code ⟨argEnv 0 args, [], 0⟩ (PostS X.tt i.res Φ)) : ICallP C f args Φ := by
  obtain ⟨fn, hf, hb, hn, hd, hni, hres⟩ := hf
  rw [← hni] at hnt
  refine ⟨⟨fn, i.code, hf, hb, hn⟩, fun Y w vs hG hnG hX' hvs hr => ?_⟩
  have hnt := Nat.le_of_ble_eq_true hnt
  refine (calls_fw (rd := none) (n := 0)).1 (callsIn_of_wp_marks hf hb trivial ?_)
  have hown : ∀ b, Own Y nol [] b ↔ Y b := by simp [Own]
  have hoe : Own Y nol [] = Y := funext fun b => propext (hown b)
  let F0 : Fra := ⟨w, Y, fun _ => False, fn.ntmps, nol, []⟩
  have sat : Sat C F0 nol ⟨argEnv 0 args, [], 0⟩ { tmps := vs ++ Array.replicate (fn.ntmps - vs.size) undef, defers := [] } w := by
    refine ⟨⟨⟨by simp, .nil, by simp⟩, rfl, rfl, rfl, Nat.le_refl _, fun _ _ _ => rfl, hX', hG, hnG, by simp [F0], fun _ _ _ h => h, fun _ cs _ _ h => ⟨cs, h, rfl⟩⟩, fun _ _ _ => rfl, by simp, fun t => ?_, by simp [F0]; omega, rfl⟩
    show Rep nol (Own Y nol []) w _ _
    rw [hoe]
    exact argsRep hvs hr t
  refine wpIn_mono ((h F0).out (.refl F0) hd nol _ w sat) ?_
  rintro e a' w' ⟨F', s', ρ', hF, hq, hs'⟩
  have key : wpRes X.tt s' i.res (fun d0 => ∃ d, FzS s'.H d0 d ∧ Pure d ∧ Φ d) → LeavesInM (fw none) 0 C.P fn a'.tmps (fun e w' => ∃ v d, e = .returned v ∧ Below w.heap.size w w' ∧ Φ d ∧ Rep nol Y w' d v) a'.defers .returning w' := fun hq => by
    obtain ⟨d0, p, h1, h2, d, h3, h4, h5⟩ := wpRes_ok hq
    rw [← hres] at h1
    obtain ⟨v, w2, _, hl, mF, r2, hXX, x, hbl, hsz, F2, m2, hX2⟩ := hF.finish hX.tt rfl hs' h1 h2
    refine hl _ ⟨v, d, rfl, ⟨mF.os, mF.tape, mF.output, mF.size, fun b hb => mF.blk b hb (by simp [F0])⟩, h5, ?_⟩
    have hH : FzH s'.H [] s'.H [] := by
      generalize s'.H = H0
      have : ∀ H1 : Hp, FzH H0 [] H1 [] := fun H1 => by
        induction H1 with
        | nil => exact .nil
        | cons e r ih => exact .drop ih
      exact this H0
    obtain ⟨m, hO, hN⟩ := hH.mem m2
    have r3 := h3 _ _ _ _ m2 hO (fun e he b hb => hN e he b hb rfl) v (by rw [hX2]; exact r2)
    have r4 := h4 _ nol _ _ _ r3
    exact r4.anti fun b hb => .inl (by rw [hX2]; exact hXX b hb)
  cases e with
  | normal => exact key hq
  | ret => exact key hq
  | _ => exact hq.elim
/-- a call whose arguments show own blocks (lent for its time) -/
theorem ICallH.lendS {f : Nat} {ds ds' : List D} {d : D} {H : Hp} {n : Nat} (hc : ICalls C f ds' d) (hl : ds'.length = ds.length) (hv : ∀ (i : Nat) (a b : D), ds[i]? = some a → ds'[i]? = some b → FzS H a b)
    (hp : ArePure ds') (hflat : Flat d) : ICallH C f ds H n (fun d' H' n' => d' = d ∧ H' = H ∧ n' = n + 1) := by
  refine ⟨hc.1, fun F ρ w vs m hfr hg hvs hr => ?_⟩
  have hH : FzH H [] H [] := by
    generalize H = H0
    have : ∀ H1 : Hp, FzH H0 [] H1 [] := fun H1 => by
      induction H1 with
      | nil => exact .nil
      | cons e r ih => exact .drop ih
    exact this H0
  obtain ⟨m', hO, hN⟩ := hH.mem m
  refine (hc.2 (Own F.X ρ []) w vs m.g (Nat.le_trans m.gn m.size) (fun b hb => m'.own_lt hb) (by omega) fun i x hx => ?_).mono ?_
  · have hi : i < ds'.length := (List.getElem?_eq_some_iff.1 hx).1
    have hd0 : ds[i]? = some ds[i] := List.getElem?_eq_getElem (by omega)
    exact hp.out x (List.mem_of_getElem? hx) _ _ _ _ _ (hv i _ x hd0 hx C F ρ w m hO (fun e he b hb => hN e he b hb rfl) _ (hr i _ hd0))
  · rintro e w' ⟨v, d', rfl, hb, hd', rep⟩
    subst hd'
    have x : Ext ρ (Own F.X ρ H) w ρ (Own F.X ρ H) w' := ⟨hb.size, fun _ _ _ h => h, fun b hb' hO => ⟨hO, hb.block b hb'⟩, fun b cs T fz hh => ⟨cs, by
      rw [hb.block b (Array.getElem?_eq_some_iff.1 hh).1]; exact hh, rfl⟩⟩
    exact ⟨v, _, H, n + 1, ρ, rfl, ⟨rfl, rfl, rfl⟩, m.same x hb.os hb.tape hb.output hb.block, x, fun k g hg' => hfr k g (by omega), fun e he => Nat.lt_succ_of_lt (hg e he), hflat _ _ _ _ _ _ _ rep⟩
end
end Go.Ide

/- The ideal layer, part 32: the walks' standing steps, each a theorem whose proof obligations are found by a fixed script. -/
namespace Go.Ide
open Go.RowKit
/-- a small integer; a fraction of small integers -/
abbrev smI (z : Int) : D := .agg [i64 z, nilS]
abbrev smF (a b : Int) : D := .agg [i64 a, nilS, i64 b, nilS]
theorem brB_t {y n : Prop} : brB true y n = y := rfl
theorem brB_f {y n : Prop} : brB false y n = n := rfl
theorem fzh_refl {H Hf : Hp} : ∀ r : Hp, FzH H Hf r r
  | [] => .nil
  | _ :: r => .keep (fzh_refl r)
/-- a side condition -/
theorem sdI {P : Prop} (h : P := by (repeat' (first | exact trivial | exact rfl | exact Or.inl rfl | exact Or.inr rfl | exact Fits.agg | exact Fits.one' rfl | exact Nat.le_of_ble_eq_true rfl | refine And.intro ?_ ?_ | (intro hq; first | exact rfl | (exact absurd hq (by decide))) | exact Nat.le_refl _ | omega | decide | (dsimp only [List.length_cons, List.length_nil]; omega)))) : P := h
/-- a fact that is kept from being looked at -/
structure Hold (Q : Prop) : Prop where
  out : Q
/-- computed -/
theorem dsI {P Q : Prop} (h : Q) (e : Hold Q → P := by intro hq; (try dsimp only [smI, smF, lenO, putE, putH, gOpd, Env.get, constD, stoD, partD, takeC, dropC, setC, partCells, D.cells, ofV, Hp.get, Hp.set, Hp.del, setEl, argEnv, asB, cond, nextB, exitB, wpCond, hview, withE, memB, List.map, List.length, List.append, List.nil_append, List.cons_append, List.append_nil, List.size_toArray, List.length_cons, List.length_nil, Value.cells, List.toList_toArray, Array.toList, Nat.reduceAdd, Nat.reduceMul, Nat.beq, Nat.reduceSub, memB, isIa, lenO, Bool.false_and, Bool.true_and, Bool.true_or, Bool.false_or, Bool.not_true, Bool.not_false]); exact hq.out) : P := e ⟨h⟩
theorem nxI {A P Q : Prop} (h : Q) (a : A := by exact sdI) (e : Hold Q → P := by intro hq; refine dsI ?_; exact hq.out) : A ∧ P := ⟨a, e ⟨h⟩⟩
theorem wkI {s s' : St} (a : FzH s.H s'.H s.H s'.H := by (first | (exact fzh_refl _) | (repeat (first | exact .nil | (exact fzh_refl _) | refine .keep ?_ | refine .drop ?_))))
    (b : EnvFz s.H s'.H s.env s'.env := by (repeat' (first | exact trivial | exact Fz.refl _ | refine And.intro ?_ ?_ | (refine fz_eq ?_; dsimp only [smI, smF, lenO, putE, putH, gOpd, Env.get, constD, stoD, partD, takeC, dropC, setC, partCells, D.cells, ofV, Hp.get, Hp.set, Hp.del, setEl, argEnv, asB, cond, nextB, exitB, wpCond, hview, withE, memB, List.map, List.length, List.append, List.nil_append, List.cons_append, List.append_nil, List.size_toArray, List.length_cons, List.length_nil, Value.cells, List.toList_toArray, Array.toList, Nat.reduceAdd, Nat.reduceMul, Nat.beq, Nat.reduceSub, memB, isIa, lenO, Bool.false_and, Bool.true_and, Bool.true_or, Bool.false_or, Bool.not_true, Bool.not_false]; first | exact rfl | (simp_all; done)))))
    (c : s.n ≤ s'.n := by (first | exact Nat.le_refl _ | decide | (dsimp only; omega))) : Wk s s' := ⟨a, b, c⟩
/-- step by step -/
theorem s1I {P Q : Prop} (h : Q) (e : Hold Q → P := by intro hq; repeat (first | (refine wpSuf_cons rfl rfl ?_; refine wpO_det (fun _ _ => rfl) ?_) | (refine wpPre_cons rfl rfl ?_; refine wpE_det (fun _ _ => rfl) ?_)); exact hq.out) : P := e ⟨h⟩
theorem stI {P Q : Prop} (h : Q) (e : Hold Q → P := by
    intro hq
    repeat (first | (refine wpSuf_cons rfl rfl ?_; refine wpO_det (fun _ _ => rfl) ?_) | (refine wpPre_cons rfl rfl ?_; refine wpE_det (fun _ _ => rfl) ?_))
    try (refine wpPre_nil ?_; repeat (first | (refine wpSuf_cons rfl rfl ?_; refine wpO_det (fun _ _ => rfl) ?_) | (refine wpPre_cons rfl rfl ?_; refine wpE_det (fun _ _ => rfl) ?_)))
    first | refine wpSuf_nil (And.intro sdI ?_) | (refine wpSuf_cons rfl rfl ?_; refine wpO_call (fun _ _ => rfl) sdI ?_) | (refine wpPre_cons rfl rfl ?_; refine wpE_call (fun _ _ => rfl) sdI ?_) | skip
    refine dsI ?_
    exact hq.out) : P := e ⟨h⟩
end Go.Ide

/- The ideal layer, part 33: loads and stores of own memory at a place that is no numeral. -/
namespace Go.Ide
open Go.RowKit
section
variable {C : Ctx} {X : EV} {kb : Nat} {g : Operand → D} {H : Hp} {n : Nat} {acc : Prop}
theorem and_true' {p a : Prop} (hp : p) : (p ∧ a) = a := propext ⟨And.right, fun h => ⟨hp, h⟩⟩
theorem evL_own {tt : Nat → Option TInfo} {t : Nat} {x : Operand} {i : TInfo} {k' gg sz j off : Nat} {e : Ent} {d d' : D} (h1 : tt t = some i) (h2 : g x = .optr k' gg sz j off) (h3 : Hp.get H k' = some e)
    (h4 : e.es[j]? = some d) (h5 : partD i.ag i.sz off d.cells = some d') :
    evL tt H n kb g (.load t x) = some (d', none, gg = e.g ∧ sz = e.sz ∧ (bif i.ag then Nat.ble (off + i.sz) d.cells.length else true) = true) := by
  simp only [evL, h1, h2, h3, h4, h5]
theorem wpO_ld {t : Nat} {x : Operand} {i : TInfo} {k' gg sz j off : Nat} {e : Ent} {d d' : D} {k : Prop → D → Hp → Nat → Prop} (h1 : X.tt t = some i) (h2 : g x = .optr k' gg sz j off) (h3 : Hp.get H k' = some e)
    (h4 : e.es[j]? = some d) (hk : k acc d' H (n + 1)) (h5 : partD i.ag i.sz off d.cells = some d' := by exact rfl) (h6 : gg = e.g ∧ sz = e.sz ∧ (bif i.ag then Nat.ble (off + i.sz) d.cells.length else true) = true := by exact sdI) :
    wpO C X kb g H n (.load t x) acc k := by
  unfold wpO; simp only [evL_own h1 h2 h3 h4 h5, and_true' h6]; exact hk
theorem wpE_ld {t : Nat} {x : Operand} {i : TInfo} {k' gg sz j off : Nat} {e : Ent} {d d' : D} {k : Prop → D → Option Ent → Prop} (h1 : X.tt t = some i) (h2 : g x = .optr k' gg sz j off) (h3 : Hp.get H k' = some e)
    (h4 : e.es[j]? = some d) (hk : k acc d' none) (h5 : partD i.ag i.sz off d.cells = some d' := by exact rfl) (h6 : gg = e.g ∧ sz = e.sz ∧ (bif i.ag then Nat.ble (off + i.sz) d.cells.length else true) = true := by exact sdI) :
    wpE C X kb g H n (.load t x) acc k := by
  unfold wpE; simp only [evL_own h1 h2 h3 h4 h5, and_true' h6]; exact hk
theorem wpO_nat {fop : Operand} {args : Array Operand} {tys : Array Nat} {f : Nat} {first captured ds : List D} {d : D} {k : Prop → D → Hp → Nat → Prop} (hf : g fop = .clo (.func f) first captured) (hd : first ++ args.toList.map g ++ captured = ds)
    (hn : X.nat f ds = some d) (hk : k acc d H (n + 1)) : wpO C X kb g H n (.call ⟨.value fop, args, tys⟩) acc k := by
  subst hd
  unfold wpO; simp only [hf, hn]; exact hk
theorem wpE_nat {fop : Operand} {args : Array Operand} {tys : Array Nat} {f : Nat} {first captured ds : List D} {d : D} {k : Prop → D → Option Ent → Prop} (hf : g fop = .clo (.func f) first captured) (hd : first ++ args.toList.map g ++ captured = ds)
    (hn : X.nat f ds = some d) (hk : k acc d none) : wpE C X kb g H n (.call ⟨.value fop, args, tys⟩) acc k := by
  subst hd
  unfold wpE; simp only [hf, hn]; exact hk
theorem wpO_st {t : Nat} {x y : Operand} {i : TInfo} {k' gg sz j off : Nat} {e : Ent} {d d' : D} {k : Prop → D → Hp → Nat → Prop} (h1 : X.tt t = some i) (h2 : g x = .optr k' gg sz j off) (h3 : Hp.get H k' = some e)
    (h4 : e.es[j]? = some d) (hk : k acc (.prim (.tuple #[])) (Hp.set H k' ⟨e.k, e.g, e.T, e.sz, e.es.set j d'⟩) (n + 1))
    (h5 : stoD i off sz d (g y) = d' := by exact rfl) (h6 : Fits i.ag i.sz (g y) ∧ gg = e.g ∧ sz = e.sz ∧ Nat.ble (off + i.sz) e.sz = true := by exact sdI) :
    wpO C X kb g H n (.store t x y) acc k := by
  subst h5
  unfold wpO; simp only [evS, h1, h2, h3, h4, and_true' h6, setEl_eq]; exact hk
end
section
variable {C : Ctx} {X : EV} {kb : Nat} {ops : Array Oper} {iw : Nat} {ia : Option Nat} {R : Hp} {clo : List Nat} {n i : Nat} {l : List Nat} {env : Env} {N : Hp} {accE acc' : Option Ent} {acc : Prop} {K : Prop → Env → Hp → Ent → Ent → Prop} {o : Oper}
theorem wpPreW_nil {e e' : Ent} (h : K acc env N e e') : wpPreW C X kb ops iw ia R clo n [] env N (some e) (some e') acc K := h
theorem wpPreW_rd (h : nthO ops.toList i = some o) (hw : Nat.beq i iw = false) (ha : isIa ia i = false) (hg : o.guard = none)
    (hk : wpE C X (kb + i) (gOpd env) (hview ia accE R (memB i clo)) (n + i) o.op acc fun acc d ne => wpPreW C X kb ops iw ia R clo n l (putE env o.dst d) (putH ne N) accE acc' acc K) :
    wpPreW C X kb ops iw ia R clo n (i :: l) env N accE acc' acc K := by
  unfold wpPreW; simp only [h, hw, ha, hg]; exact hk
theorem wpPreW_wr {e : Ent} (h : nthO ops.toList i = some o) (hw : Nat.beq i iw = true) (hg : o.guard = none)
    (hk : wpWr X (kb + i) e (n + i) (gOpd env) o.op acc fun acc d e' => wpPreW C X kb ops iw ia R clo n l (putE env o.dst d) N (some e) (some e') acc K) :
    wpPreW C X kb ops iw ia R clo n (i :: l) env N (some e) none acc K := by
  unfold wpPreW; simp only [h, hw, hg]; exact hk
theorem wpPreW_al (h : nthO ops.toList i = some o) (hw : Nat.beq i iw = false) (ha : isIa ia i = true) (hg : o.guard = none)
    (hk : wpE C X (kb + i) (gOpd env) R (n + i) o.op acc fun acc d ne => match ne with
      | some e => wpPreW C X kb ops iw ia R clo n l (putE env o.dst d) N (some e) acc' acc K
      | none => False) :
    wpPreW C X kb ops iw ia R clo n (i :: l) env N none acc' acc K := by
  unfold wpPreW; simp only [h, hw, ha, hg]; exact hk
theorem wpWr_det {e : Ent} {g : Operand → D} {op : Op} {k : Prop → D → Ent → Prop} {P : Prop → Prop} {d : D} {e' : Ent} (hs : ∀ acc k, wpWr X kb e n g op acc k = k (P acc) d e') (hk : k (P acc) d e') : wpWr X kb e n g op acc k := by rw [hs]; exact hk
theorem wpWr_st {e : Ent} {g : Operand → D} {t : Nat} {x y : Operand} {i : TInfo} {k' gg sz j off : Nat} {d d' : D} {k : Prop → D → Ent → Prop} (h1 : X.tt t = some i) (h2 : g x = .optr k' gg sz j off) (h3 : Hp.get [e] k' = some e)
    (h4 : e.es[j]? = some d) (hk : k acc (.prim (.tuple #[])) ⟨e.k, e.g, e.T, e.sz, e.es.set j d'⟩)
    (h5 : stoD i off sz d (g y) = d' := by exact rfl) (h6 : Fits i.ag i.sz (g y) ∧ gg = e.g ∧ sz = e.sz ∧ Nat.ble (off + i.sz) e.sz = true := by exact sdI) :
    wpWr X kb e n g (.store t x y) acc k := by
  subst h5
  unfold wpWr; simp only [evS, h1, h2, h3, h4, and_true' h6, setEl_eq]; exact hk
end
theorem fz_osl (K g T sz : Nat) (l : List D) : Fz [⟨K, g, T, sz, l⟩] [] (.osl K g sz 0 l.length) (.sl false sz l) := by
  refine .osl (e := ⟨K, g, T, sz, l⟩) (by simp [Hp.get]) rfl rfl rfl (by simp) (by simp) (fun j d d' h1 h2 => ?_) fun j d d' q c c' h1 h2 h3 h4 => ?_
  · rw [Nat.zero_add] at h1; rw [h1] at h2; cases h2; rfl
  · rw [Nat.zero_add] at h1; rw [h1] at h2; cases h2; rw [h3] at h4; cases h4; exact Fz.refl _
end Go.Ide
