/- The layer of own lemmas and contracts, part 3. -/
import Derived.Test.YtpehlicnhjoknaaGreatDoorP2
import Derived.OrdersIn
import Derived.RangeFuncLeaves
import Derived.RangeFuncSeq
set_option linter.unusedVariables false
set_option linter.unusedSimpArgs false
/- The ideal layer, part 20b: a region that draws its order, with one operation in its free part that writes. -/
namespace Go.Ide
open Go.RowKit

/-- the operation that writes: the block before and behind it, the others; the operation of the free part that makes the block, if one does -/
structure WR where
  iw : Nat
  ia : Option Nat
  e : Ent
  e' : Ent
  R : Hp
def WR.tail (W : WR) (L : Array Bool) : Hp := if L.getD W.iw false = true then W.e' :: W.R else match W.ia with
  | none => W.e :: W.R
  | some ia => if L.getD ia false = true then W.e :: W.R else W.R
def WR.start (W : WR) : Hp := match W.ia with
  | none => W.e :: W.R
  | some _ => W.R
theorem WR.tail_t {W : WR} {L : Array Bool} (h : Ls L W.iw) : W.tail L = W.e' :: W.R := if_pos h

section
variable {C : Ctx} {F : Fra} {ops : Array Oper}
def SteadyW (C : Ctx) (F : Fra) (ops : Array Oper) (W : WR) (g : Nat) (env : Env) (o : Oper) (d : D) : Prop :=
  ∀ (He : Hp) (ρ : Lk) (a : Act) (w : World), Mem C F ρ (W.e :: He) w → (∀ x ∈ W.R, x ∈ He) → (∀ k, ρ k g = none) → (∀ x ∈ W.e :: He, x.g ≠ g) →
    (∀ t ∈ o.looksAt ops, Rep ρ (Own F.X ρ (W.e :: He)) w (env.get t) (a.tmps.getD t undef)) →
    Region.wanted o (yielded ops a.tmps) = true ∧ ∃ v ρ' w', ((execOp a.eval o).run C.P w = .ok (.value v) w' ∨ ((execOp a.eval o).run C.P w = .ok .skip w' ∧ v = undef)) ∧
      Mem C F ρ' (W.e' :: He) w' ∧ Ext ρ (Own F.X ρ (W.e :: He)) w ρ' (Own F.X ρ' (W.e' :: He)) w' ∧ (∀ k g', g' ≠ g → ρ' k g' = ρ k g') ∧ Rep ρ' (Own F.X ρ' (W.e' :: He)) w' d v

theorem rec_inj {l : List Rec} (hn : (l.map (·.i)).Nodup) {a b : Rec} (ha : a ∈ l) (hb : b ∈ l) (he : a.i = b.i) : a = b := by
  induction l with
  | nil => simp at ha
  | cons x l ih =>
    rw [List.map_cons, List.nodup_cons] at hn
    rcases List.mem_cons.1 ha with h1 | h1
    · rcases List.mem_cons.1 hb with h2 | h2
      · rw [h1, h2]
      · exact absurd (List.mem_map.2 ⟨b, h2, by rw [← he, h1]⟩) hn.1
    · rcases List.mem_cons.1 hb with h2 | h2
      · exact absurd (List.mem_map.2 ⟨a, h1, by rw [he, h2]⟩) hn.1
      · exact ih hn.2 h1 h2
/-- an operation of the free part: it reads what is surely there -/
def StOr (C : Ctx) (F : Fra) (ops : Array Oper) (W : WR) (g : Nat) (env : Env) (r : Rec) : Prop :=
  (r.i ≠ W.iw ∧ W.ia ≠ some r.i ∧ ((W.ia = none ∧ Reach ops W.iw r.i ∧ Steady C F ops (W.e :: W.R) g env r.o r.d r.ne) ∨ Steady C F ops W.R g env r.o r.d r.ne)) ∨ (r.i = W.iw ∧ W.ia ≠ some r.i ∧ r.ne = none ∧ SteadyW C F ops W g env r.o r.d) ∨
    (r.i ≠ W.iw ∧ W.ia = some r.i ∧ r.ne = none ∧ Steady C F ops W.R g env r.o r.d (some W.e))
theorem StOr.gen {W : WR} {g : Nat} {env : Env} {r : Rec} (h : StOr C F ops W g env r) : ∀ e, r.ne = some e → e.g = g := by
  rcases h with ⟨_, _, ⟨_, _, h⟩ | h⟩ | ⟨_, _, h, _⟩ | ⟨_, _, h, _⟩
  · exact h.1
  · exact h.1
  · intro e he; rw [h] at he; cases he
  · intro e he; rw [h] at he; cases he

theorem DI.nextG {H H' : Hp} {n : Nat} {env : Env} {A B : List Rec} {r : Rec} {L : Array Bool} {a : Act} {w : World} {ρ : Lk} {He : Hp} (h : DI C F H n env (A ++ r :: B) L a w ρ He) (hi : r.i < L.size) (hn : ¬ Ls L r.i)
    (hnd : ((A ++ r :: B).map (·.i)).Nodup) (hdst : (A ++ r :: B).Pairwise (fun r r' => ∀ t, r.o.dst = some t → r'.o.dst ≠ some t)) (hok : dstOk F.nt r.o = true) {v : Value} {ρ' : Lk} {w' : World} {He' : Hp}
    (pm : Mem C F ρ' He' w') (px : Ext ρ (Own F.X ρ He) w ρ' (Own F.X ρ' He') w') (pf : ∀ k g', g' ≠ n + r.i → ρ' k g' = ρ k g') (pr : Rep ρ' (Own F.X ρ' He') w' r.d v)
    (pp : He'.Perm ((A ++ r :: B).filterMap (fun r' => if (L.setIfInBounds r.i true).getD r'.i false then r'.ne else none) ++ H')) :
    DI C F H' n env (A ++ r :: B) (L.setIfInBounds r.i true) (a.put r.o.dst v) w' ρ' He' := by
  have hset : ∀ j, Ls (L.setIfInBounds r.i true) j ↔ j = r.i ∨ Ls L j := fun j => Ls.set hi
  have hne : ∀ r' ∈ A ++ B, r'.i ≠ r.i := by
    simp only [List.map_append, List.map_cons] at hnd
    intro r' hr' he
    rw [List.nodup_append, List.nodup_cons] at hnd
    rcases List.mem_append.1 hr' with hr' | hr'
    · exact hnd.2.2 r'.i (List.mem_map.2 ⟨r', hr', rfl⟩) r.i (by simp) he
    · exact hnd.2.1.1 (List.mem_map.2 ⟨r', hr', he⟩)
  have hput : ∀ t, (a.put r.o.dst v).tmps.getD t undef = if r.o.dst = some t then v else a.tmps.getD t undef := by
    intro t
    cases hd : r.o.dst with
    | none => simp [Act.put]
    | some k =>
      have hk : k < a.tmps.size := by
        rw [h.nt]; unfold dstOk at hok; rw [hd] at hok; exact Nat.blt_eq.mp hok
      show (a.tmps.setIfInBounds k v).getD t undef = _
      rw [Array.getD_eq_getD_getElem?, Array.getElem?_setIfInBounds]
      by_cases hkt : k = t
      · subst hkt; simp [hk]
      · rw [if_neg hkt, if_neg (by simpa using hkt), ← Array.getD_eq_getD_getElem?]
  refine ⟨pm, pp, fun r' hr' hl t ht => ?_, fun t ht => ?_, fun k g hg hk => ?_, ?_, ?_⟩
  · rw [hput]
    by_cases hrr : r' = r
    · subst hrr; rw [if_pos ht]; exact pr
    · have hr2 : r' ∈ A ++ B := by
        rcases List.mem_append.1 hr' with h | h
        · simp [h]
        · rcases List.mem_cons.1 h with h | h
          · exact absurd h hrr
          · simp [h]
      have hl2 := ((hset r'.i).1 hl).resolve_left (hne r' hr2)
      rw [if_neg]
      · exact (h.reps r' hr' hl2 t ht).mono px
      · intro hrt
        rw [List.pairwise_append, List.pairwise_cons] at hdst
        rcases List.mem_append.1 hr2 with h | h
        · exact hdst.2.2 r' h r (by simp) t ht hrt
        · exact hdst.2.1.1 r' h t hrt ht
  · rw [hput, if_neg (ht r (by simp) ((hset r.i).2 (.inl rfl)))]
    exact (h.old t fun r' hr' hl => ht r' hr' ((hset r'.i).2 (.inr hl))).mono px
  · by_cases hgr : g = n + r.i
    · exact ⟨r, by simp, (hset r.i).2 (.inl rfl), hgr⟩
    · rw [pf k g hgr] at hk
      obtain ⟨r', h1, h2, h3⟩ := h.fresh k g hg hk
      exact ⟨r', h1, (hset r'.i).2 (.inr h2), h3⟩
  · cases r.o.dst <;> simp [Act.put, h.nt]
  · cases r.o.dst <;> simp [Act.put, h.dfr]

theorem any_prefixW {W : WR} {Q : Exit → Act → World → Prop} {n : Nat} {env : Env} {rs : List Rec} {suf : List Nat} (ho : OrdOk ops rs suf) (hiw : W.iw < ops.size) (hwg : W.e'.g = W.e.g ∨ W.e'.g = n + W.iw) (hgen : ∀ e ∈ W.R, e.g < n) (hge : W.ia = none → W.e.g < n) (hga : ∀ ia, W.ia = some ia → W.e.g = n + ia ∧ Reach ops W.iw ia) (hd : ∀ r ∈ rs, dstOk F.nt r.o = true)
    (hst : ∀ A r B, rs = A ++ r :: B → ops[r.i]? = some r.o ∧ StOr C F ops W (n + r.i) (envOf A env) r)
    (hend : ∀ (L : Array Bool) (a : Act) (w : World) (ρ : Lk) (He : Hp), L.size = ops.size → (∀ r ∈ rs, Ls L r.i) → DI C F (W.e' :: W.R) n env rs L a w ρ He → wpOps C.P ops Q suf a w) :
    (hw : ∀ {L : Array Bool}, (∀ r ∈ rs, Ls L r.i) → Ls L W.iw) → ∀ (fuel : Nat) (L : Array Bool) (a : Act) (w : World) (ρ : Lk) (He : Hp), L.size = ops.size → ((rs.map (·.i) ++ suf).filter (fun i => !L.getD i false)).length ≤ fuel → Cl ops L → (∀ i ∈ suf, ¬ Ls L i) →
      DI C F (W.tail L) n env rs L a w ρ He → wpAny C.P .any ops Q fuel L a w := by
  intro hw fuel
  induction fuel with
  | zero =>
    intro L a w ρ He hL hf hc hs hi
    have h0 : (rs.map (·.i) ++ suf).filter (fun i => !L.getD i false) = [] := List.eq_nil_of_length_eq_zero (by omega)
    have hall : ∀ r ∈ rs, Ls L r.i := fun r hr => by
      have := List.filter_eq_nil_iff.1 h0 r.i (by simp; exact .inl ⟨r, hr, rfl⟩)
      simpa [Ls] using this
    have hsuf : suf = [] := by
      apply List.eq_nil_iff_forall_not_mem.2
      intro i hi2
      have := List.filter_eq_nil_iff.1 h0 i (by simp [hi2])
      exact hs i hi2 (by simpa [Ls] using this)
    subst hsuf
    refine any_suffix [] 0 L a w hL (Nat.le_refl _) (fun i hi2 => ⟨fun _ => by simp, fun _ => ?_⟩) .nil (fun A i B h => by cases A <;> simp at h) (by simp) hc (hend L a w ρ He hL hall (by have h0 := hi; rw [WR.tail_t (hw hall)] at h0; exact h0))
    have := ho.all i hi2
    simp at this
    obtain ⟨r, hr, rfl⟩ := this
    exact hall r hr
  | succ fuel ih =>
    intro L a w ρ He hL hf hc hs hi
    by_cases hall : ∀ r ∈ rs, Ls L r.i
    · refine any_suffix suf (fuel + 1) L a w hL ?_ (fun i hi2 => ?_) ?_ (fun A i B hAB => ⟨fun j hj => ?_, fun j hj => ho.suf A i B hAB j (by simp [hj])⟩) (fun i hi2 => ho.lt i (by simp [hi2])) hc (hend L a w ρ He hL hall (by have h0 := hi; rw [WR.tail_t (hw hall)] at h0; exact h0))
      · refine Nat.le_trans ?_ hf
        rw [List.filter_append, List.length_append]
        rw [(List.filter_eq_self (l := suf)).2 fun i hi2 => by have := hs i hi2; unfold Ls at this; simpa using this]
        omega
      · constructor
        · intro h1 h2; exact hs i h2 h1
        · intro h1
          have := ho.all i hi2
          rcases List.mem_append.1 this with h | h
          · obtain ⟨r, hr, rfl⟩ := List.mem_map.1 h; exact hall r hr
          · exact absurd h h1
      · exact (List.nodup_append.1 ho.nodup).2.1
      · have hA := ho.first (rs.map (·.i) ++ A) i B (by simp [hAB]) j hj
        refine ⟨ho.lt j (by rw [hAB]; rcases List.mem_append.1 hA with h | h <;> simp [h]), fun hB => ?_⟩
        have hnd := ho.nodup
        rw [hAB, ← List.append_assoc, List.nodup_append] at hnd
        exact hnd.2.2 j hA j hB rfl
    · have hnot : ∃ r ∈ rs, ¬ Ls L r.i := by
        apply Classical.byContradiction
        intro hn
        exact hall fun r hr => Classical.byContradiction fun h => hn ⟨r, hr, h⟩
      have hLt : ∀ j, j < ops.size → (L.getD j true = true ↔ Ls L j) := fun j hj => by
        unfold Ls
        rw [Array.getD_eq_getD_getElem?, Array.getD_eq_getD_getElem?, Array.getElem?_eq_getElem (by omega)]; simp
      -- some operation may come up
      have hsome : Region.ready .any ops L ≠ [] := by
        obtain ⟨r0, hr0, hn0⟩ := hnot
        have : ∀ X : List Rec, ∀ Y, rs = X ++ Y → (∃ r ∈ Y, ¬ Ls L r.i) → (∀ r ∈ X, Ls L r.i) → ∃ A r B, rs = A ++ r :: B ∧ ¬ Ls L r.i ∧ ∀ r ∈ A, Ls L r.i := by
          intro X Y
          induction Y generalizing X with
          | nil => rintro _ ⟨r, hr, _⟩ _; simp at hr
          | cons y Y ihY =>
            intro hXY hex hX
            by_cases hy : Ls L y.i
            · obtain ⟨r, hr, hrn⟩ := hex
              rcases List.mem_cons.1 hr with rfl | hr
              · exact absurd hy hrn
              · exact ihY (X ++ [y]) (by simp [hXY]) ⟨r, hr, hrn⟩ (fun r hr => by
                  rcases List.mem_append.1 hr with h | h
                  · exact hX r h
                  · simp at h; subst h; exact hy)
            · exact ⟨X, y, Y, hXY, hy, hX⟩
        obtain ⟨A, r, B, h1, h2, h3⟩ := this [] rs rfl ⟨r0, hr0, hn0⟩ (by simp)
        intro hnil
        have hrlt := ho.lt r.i (by rw [h1]; simp)
        have : r.i ∈ Region.ready .any ops L := by
          rw [ready_iff]
          refine ⟨hrlt, ?_, fun j hj => ?_⟩
          · cases hb : L.getD r.i true with
            | false => rfl
            | true => exact absurd ((hLt r.i hrlt).1 hb) h2
          · have := ho.first (A.map (·.i)) r.i (B.map (·.i) ++ suf) (by rw [h1]; simp) j hj
            obtain ⟨r', hr', rfl⟩ := List.mem_map.1 this
            exact h3 r' hr'
        rw [hnil] at this; simp at this
      refine ⟨fun h0 => absurd h0 hsome, fun i hir => ?_⟩
      obtain ⟨hilt, hin, hid⟩ := ready_iff.1 hir
      have hnL : ¬ Ls L i := fun h => by rw [(hLt i hilt).2 h] at hin; cases hin
      -- it is one of the prefix
      have hpre : i ∈ rs.map (·.i) := by
        rcases List.mem_append.1 (ho.all i hilt) with h | h
        · exact h
        · obtain ⟨A, B, hAB⟩ := List.append_of_mem h
          obtain ⟨r0, hr0, hn0⟩ := hnot
          have := reach_listed hL hc (ho.suf A i B hAB r0.i (List.mem_append_left _ (List.mem_map.2 ⟨r0, hr0, rfl⟩))) hid
          exact absurd this hn0
      obtain ⟨r, hr, rfl⟩ := List.mem_map.1 hpre
      obtain ⟨A, B, hAB⟩ := List.append_of_mem hr
      obtain ⟨hor, hstr⟩ := hst A r B hAB
      have hset : ∀ j, Ls (L.setIfInBounds r.i true) j ↔ j = r.i ∨ Ls L j := fun j => Ls.set (by omega)
      have hndr : (rs.map (·.i)).Nodup := (List.nodup_append.1 ho.nodup).1
      have hgt : ∀ e ∈ W.tail L, (e ∈ W.R ∨ (e = W.e ∧ ∀ ia, W.ia = some ia → Ls L ia) ∨ (e = W.e' ∧ Ls L W.iw)) := fun e he => by
        unfold WR.tail at he
        by_cases hwl : L.getD W.iw false = true
        · rw [if_pos hwl] at he
          rcases List.mem_cons.1 he with rfl | he
          · exact .inr (.inr ⟨rfl, hwl⟩)
          · exact .inl he
        · rw [if_neg hwl] at he
          cases hia : W.ia with
          | none =>
            rw [hia] at he
            rcases List.mem_cons.1 he with rfl | he
            · exact .inr (.inl ⟨rfl, by simp⟩)
            · exact .inl he
          | some ia =>
            rw [hia] at he
            dsimp only at he
            by_cases hal : L.getD ia false = true
            · rw [if_pos hal] at he
              rcases List.mem_cons.1 he with rfl | he
              · exact .inr (.inl ⟨rfl, fun j hj => by cases hj; exact hal⟩)
              · exact .inl he
            · rw [if_neg hal] at he
              exact .inl he
      have hfr : ∀ k, ρ k (n + r.i) = none := fun k => by
        apply Classical.byContradiction
        intro hk
        obtain ⟨r', h1, h2, h3⟩ := hi.fresh k (n + r.i) (by omega) hk
        have : r'.i = r.i := by omega
        rw [this] at h2; exact hnL h2
      have hne : ∀ e ∈ He, e.g ≠ n + r.i := fun e he hg => by
        rcases List.mem_append.1 (hi.perm.mem_iff.1 he) with h | h
        · obtain ⟨r', h1, h2⟩ := List.mem_filterMap.1 h
          split at h2
          · rename_i hl
            obtain ⟨A', B', hAB'⟩ := List.append_of_mem h1
            have := (hst A' r' B' hAB').2.gen e h2
            have : r'.i = r.i := by omega
            rw [this] at hl; exact hnL hl
          · cases h2
        · have hE : (∀ ia, W.ia = some ia → Ls L ia) → W.e.g ≠ n + r.i := fun hal hg => by
            cases hia : W.ia with
            | none => have := hge hia; omega
            | some ia =>
              have h1 := (hga ia hia).1
              have : ia = r.i := by omega
              rw [← this] at hnL; exact hnL (hal ia hia)
          rcases hgt e h with h | ⟨rfl, hal⟩ | ⟨rfl, hl⟩
          · have := hgen e h; omega
          · exact hE hal hg
          · rcases hwg with h' | h'
            · refine hE (fun ia hia => ?_) (by omega)
              refine reach_listed hL hc (hga ia hia).2 fun k hk => ?_
              have hwl' : Ls L W.iw := hl
              exact hc W.iw ((hLt W.iw hiw).2 hwl') hiw k hk
            · have : W.iw = r.i := by omega
              rw [this] at hl; exact hnL hl
      -- what follows
      have go : ∀ (a' : Act) (w' : World) (ρ' : Lk) (He' : Hp), DI C F (W.tail (L.setIfInBounds r.i true)) n env rs (L.setIfInBounds r.i true) a' w' ρ' He' → wpAny C.P .any ops Q fuel (L.setIfInBounds r.i true) a' w' := by
        intro a' w' ρ' He' hn'
        refine ih _ _ _ ρ' He' (by simp [hL]) ?_ ?_ (fun j hj => ?_) hn'
        · have : ((rs.map (·.i) ++ suf).filter (fun i => !(L.setIfInBounds r.i true).getD i false)).length < ((rs.map (·.i) ++ suf).filter (fun i => !L.getD i false)).length := by
            have sub : (rs.map (·.i) ++ suf).filter (fun i => !(L.setIfInBounds r.i true).getD i false) = ((rs.map (·.i) ++ suf).filter (fun i => !L.getD i false)).filter (fun i => !Nat.beq i r.i) := by
              rw [List.filter_filter]
              apply List.filter_congr
              intro x hx
              have h1 := hset x
              unfold Ls at h1
              by_cases hxr : x = r.i
              · subst hxr
                have : (L.setIfInBounds r.i true).getD r.i false = true := h1.2 (.inl rfl)
                simp [this]
              · have hb : Nat.beq x r.i = false := by
                  cases hb : Nat.beq x r.i with
                  | false => rfl
                  | true => exact absurd (Nat.eq_of_beq_eq_true hb) hxr
                rw [hb]
                by_cases hlx : L.getD x false = true
                · rw [h1.2 (.inr hlx), hlx]; rfl
                · have : ¬ (L.setIfInBounds r.i true).getD x false = true := fun h => hlx ((h1.1 h).resolve_left hxr)
                  simp only [Bool.not_eq_true] at this hlx
                  rw [this, hlx]; rfl
            rw [sub]
            apply List.length_filter_lt_length_iff_exists.2
            exact ⟨r.i, by rw [List.mem_filter]; exact ⟨by simp; exact .inl ⟨r, hr, rfl⟩, by unfold Ls at hnL; simpa using hnL⟩, by simp⟩
          omega
        · intro k hk2 hks x hx
          have hk3 : Ls (L.setIfInBounds r.i true) k := by
            unfold Ls
            rw [Array.getD_eq_getD_getElem?, Array.getElem?_eq_getElem (by simp; omega)] at hk2 ⊢
            simpa using hk2
          show Ls _ x
          rw [hset]
          rcases (hset k).1 hk3 with rfl | hk3
          · exact .inr (hid x hx)
          · exact .inr (hc k ((hLt k hks).2 hk3) hks x hx)
        · rw [hset]
          rintro (rfl | h)
          · have hnd := ho.nodup
            rw [List.nodup_append] at hnd
            exact hnd.2.2 r.i (List.mem_map.2 ⟨r, hr, rfl⟩) r.i hj rfl
          · exact hs j hj h
      have hdst := ho.dst
      rw [hAB] at hdst hndr
      have keep : ∀ {α : Type} (j : Nat) (x y : α), j ≠ r.i → (if (L.setIfInBounds r.i true).getD j false = true then x else y) = (if L.getD j false = true then x else y) := fun j x y hj => by
        have := hset j
        unfold Ls at this
        by_cases hl : L.getD j false = true
        · rw [if_pos hl, if_pos (this.2 (.inr hl))]
        · rw [if_neg hl, if_neg fun h => hl ((this.1 h).resolve_left hj)]
      have wset : r.i ≠ W.iw → W.ia ≠ some r.i → W.tail (L.setIfInBounds r.i true) = W.tail L := fun hr hr2 => by
        unfold WR.tail
        rw [keep W.iw _ _ (Ne.symm hr)]
        cases hia : W.ia with
        | none => rfl
        | some ia =>
          dsimp only
          rw [keep ia _ _ fun h => hr2 (by rw [hia, h])]
      have next : r.i ≠ W.iw → W.ia ≠ some r.i → ∀ v ρ' w', Post1 C F He ρ w (n + r.i) r.d r.ne v ρ' w' → wpAny C.P .any ops Q fuel (L.setIfInBounds r.i true) (a.put r.o.dst v) w' := by
        intro hriw hria v ρ' w' p
        have hi' := hi
        rw [hAB] at hi'
        have hn' := DI.next hi' (by omega) hnL hndr hdst (hd r hr) p
        rw [← hAB, ← wset hriw hria] at hn'
        exact go _ _ _ _ hn'
      unfold wpOp
      simp only [hor]
      have hR : ∀ e ∈ W.R, e ∈ He := fun e he => hi.perm.mem_iff.2 (by
        refine List.mem_append_right _ ?_
        unfold WR.tail
        cases W.ia <;> dsimp only <;> (repeat' split) <;> simp [he])
      have samefm : r.ne = none → ∀ {fm : List Ent}, (A ++ r :: B).filterMap (fun r' => if L.getD r'.i false then r'.ne else none) = fm →
          (A ++ r :: B).filterMap (fun r' => if (L.setIfInBounds r.i true).getD r'.i false then r'.ne else none) = fm := fun hnone fm hfm => by
        rw [← hfm]
        refine fm_congr fun r' hr' => ?_
        by_cases hrr : r'.i = r.i
        · have : r' = r := rec_inj hndr hr' (by simp) hrr
          subst this
          rw [hnone]; simp
        · exact keep r'.i _ _ hrr
      rcases hstr with ⟨hriw, hria, hstd⟩ | ⟨hriw, hria, hnone, hstw⟩ | ⟨hriw, hria, hnone, hstd⟩
      · have hgo : ∀ Hr : Hp, (∀ e ∈ Hr, e ∈ He) → Steady C F ops Hr (n + r.i) (envOf A env) r.o r.d r.ne → _ := fun Hr hsub hs => hs.2 He ρ a w hi.mem hsub hfr hne (hi.look ho hL hc hAB hir)
        have fin : _ := (show (Region.wanted r.o (yielded ops a.tmps) = false ∧ r.ne = none ∧ Rep ρ (Own F.X ρ He) w r.d undef) ∨ (Region.wanted r.o (yielded ops a.tmps) = true ∧ Outs C F He ρ w (n + r.i) r.d r.ne r.o a) from by
          rcases hstd with ⟨hia, hre, hs⟩ | hs
          · refine hgo _ (fun e he => hi.perm.mem_iff.2 ?_) hs
            have hnw : ¬ L.getD W.iw false = true := fun hwl => hnL (by
              refine reach_listed hL hc hre fun k hk => ?_
              have hwl' : Ls L W.iw := hwl
              exact hc W.iw ((hLt W.iw hiw).2 hwl') hiw k hk)
            unfold WR.tail
            rw [if_neg hnw, hia]
            rcases List.mem_cons.1 he with rfl | he
            · simp
            · simp [he]
          · exact hgo _ hR hs)
        rcases fin with ⟨hw0, hn0, hrep⟩ | ⟨hw0, hout⟩
        · rw [if_neg (by rw [hw0]; simp)]
          exact next hriw hria undef ρ w ⟨by rw [hn0]; exact hi.mem, by rw [hn0]; exact .refl _ _ _, fun _ _ _ => rfl, by rw [hn0]; exact hrep⟩
        · rw [if_pos hw0]
          refine .inl ?_
          unfold Oper.wp
          rcases hout with ⟨v, ρ', w', h1, h2⟩ | ⟨f, vs, h1, h2⟩
          · rw [h1]; exact next hriw hria v ρ' w' h2
          · rw [h1]
            refine h2.mono ?_
            rintro e w' ⟨v, rfl, ρ', h3⟩
            exact next hriw hria v ρ' w' h3
      · -- the writer
        have hnw : ¬ L.getD W.iw false = true := fun h => hnL (by rw [hriw]; exact h)
        generalize hfm : rs.filterMap (fun r' => if L.getD r'.i false then r'.ne else none) = fm at *
        have hperm : He.Perm (W.e :: (fm ++ W.R)) := by
          have h0 := hi.perm
          have htl : W.tail L = W.e :: W.R := by
            unfold WR.tail
            rw [if_neg hnw]
            cases hia : W.ia with
            | none => rfl
            | some ia =>
              dsimp only
              have hre := (hga ia hia).2
              rw [← hriw] at hre
              exact if_pos (reach_listed hL hc hre hid)
          rw [htl, hfm] at h0
          exact h0.trans List.perm_middle
        have m1 := hi.mem.perm hperm
        have ho1 := Own.perm (X := F.X) (ρ := ρ) hperm
        obtain ⟨hw0, v, ρ', w', hrun, m2, x2, far2, rep2⟩ := hstw (fm ++ W.R) ρ a w m1 (fun e he => by simp [he]) hfr (fun e he => hne e (hperm.mem_iff.2 he)) (fun t ht => by
          rw [← ho1]; exact hi.look ho hL hc hAB hir t ht)
        rw [← ho1] at x2
        have hi' := hi
        rw [hAB] at hi' hfm
        have nx := DI.nextG (H' := W.e' :: W.R) hi' (by omega) hnL hndr hdst (hd r hr) (v := v) m2 x2 far2 rep2 (by
          rw [samefm hnone hfm]
          exact List.perm_middle.symm)
        have hwt : W.tail (L.setIfInBounds r.i true) = W.e' :: W.R := by
          exact if_pos ((hset W.iw).2 (.inl hriw.symm))
        rw [← hAB, ← hwt] at nx
        rw [if_pos hw0]
        refine .inl ?_
        unfold Oper.wp
        rcases hrun with hrun | ⟨hrun, rfl⟩
        · rw [hrun]; exact go _ _ _ _ nx
        · rw [hrun]; exact go _ _ _ _ nx
      · -- the maker
        have htl : W.tail L = W.R := by
          have hnw : ¬ L.getD W.iw false = true := fun hwl => hnL (by
            refine reach_listed hL hc (hga r.i hria).2 fun k hk => ?_
            have hwl' : Ls L W.iw := hwl
            exact hc W.iw ((hLt W.iw hiw).2 hwl') hiw k hk)
          unfold WR.tail
          rw [if_neg hnw, hria]
          exact if_neg hnL
        have hwt : W.tail (L.setIfInBounds r.i true) = W.e :: W.R := by
          have hnw : ¬ (L.setIfInBounds r.i true).getD W.iw false = true := fun hwl => by
            rcases (hset W.iw).1 hwl with h | h
            · exact hriw h.symm
            · exact hnL (by
                refine reach_listed hL hc (hga r.i hria).2 fun k hk => ?_
                exact hc W.iw ((hLt W.iw hiw).2 h) hiw k hk)
          unfold WR.tail
          rw [if_neg hnw, hria]
          exact if_pos ((hset r.i).2 (.inl rfl))
        have nxt : ∀ v ρ' w', Post1 C F He ρ w (n + r.i) r.d (some W.e) v ρ' w' → wpAny C.P .any ops Q fuel (L.setIfInBounds r.i true) (a.put r.o.dst v) w' := fun v ρ' w' p => by
          have hi' := hi
          rw [hAB] at hi'
          have nx := DI.nextG (H' := W.e :: W.R) hi' (by omega) hnL hndr hdst (hd r hr) (v := v) p.mem p.ext p.far p.rep (by
            rw [samefm hnone rfl]
            have h0 := hi'.perm
            rw [htl] at h0
            exact (List.Perm.cons W.e h0).trans List.perm_middle.symm)
          rw [← hAB, ← hwt] at nx
          exact go _ _ _ _ nx
        rcases hstd.2 He ρ a w hi.mem hR hfr hne (hi.look ho hL hc hAB hir) with ⟨hw0, hn0, hrep⟩ | ⟨hw0, hout⟩
        · cases hn0
        · rw [if_pos hw0]
          refine .inl ?_
          unfold Oper.wp
          rcases hout with ⟨v, ρ', w', h1, h2⟩ | ⟨f, vs, h1, h2⟩
          · rw [h1]; exact nxt v ρ' w' h2
          · rw [h1]
            refine h2.mono ?_
            rintro e w' ⟨v, rfl, ρ', h3⟩
            exact nxt v ρ' w' h3


inductive DTrW (C : Ctx) (F : Fra) (ops : Array Oper) (W : WR) (n : Nat) : List Nat → Env → Hp → Env → Hp → Prop
  | nil (env : Env) (N : Hp) : DTrW C F ops W n [] env N env N
  | cons {i : Nat} {l : List Nat} {o : Oper} {d : D} {ne : Option Ent} {env env' : Env} {N N' : Hp} (ho : ops[i]? = some o) (hs : StOr C F ops W (n + i) env ⟨i, o, d, ne⟩)
      (h : DTrW C F ops W n l (putE env o.dst d) (putH ne N) env' N') : DTrW C F ops W n (i :: l) env N env' N'
theorem DTrW.recs {W : WR} {n : Nat} {l : List Nat} {env env' : Env} {N N' : Hp} (h : DTrW C F ops W n l env N env' N') :
    ∃ rs : List Rec, rs.map (·.i) = l ∧ env' = envOf rs env ∧ N' = newOf rs N ∧
      ∀ A r B, rs = A ++ r :: B → ops[r.i]? = some r.o ∧ StOr C F ops W (n + r.i) (envOf A env) r := by
  induction h with
  | nil env N => exact ⟨[], rfl, rfl, rfl, fun A r B h => by cases A <;> simp at h⟩
  | @cons i l o d ne env env' N N' ho hs _ ih =>
    obtain ⟨rs, h1, h2, h3, h4⟩ := ih
    refine ⟨⟨i, o, d, ne⟩ :: rs, by simp [h1], h2, h3, fun A r B hr => ?_⟩
    cases A with
    | nil =>
      simp only [List.nil_append, List.cons.injEq] at hr
      obtain ⟨rfl, rfl⟩ := hr
      exact ⟨ho, hs⟩
    | cons r0 A =>
      simp only [List.cons_append, List.cons.injEq] at hr
      obtain ⟨rfl, rfl⟩ := hr
      exact h4 A r B rfl

/-- a region that draws its order: what may come in any order first, then the rest in its only order -/
theorem Ok.drawWA {W : WR} {s : St} {Q : Exit → St → Prop} {pre suf : List Nat} {envF : Env} {N : Hp} (hc : chkD ops pre suf = true)
    (hH : s.H.Perm W.start) (hga : ∀ ia, W.ia = some ia → W.e.g = s.n + ia ∧ Reach ops W.iw ia ∧ ia ∈ pre) (hiw : W.iw ∈ pre) (hwg : W.e'.g = W.e.g ∨ W.e'.g = s.n + W.iw)
    (hpre : DTrW C F ops W s.n pre s.env [] envF N)
    (h : OkL C F ops (suf.map fun j => ops.getD j default) ⟨envF, N ++ W.e' :: W.R, s.n + ops.size⟩ (Q .normal)) (hd : ops.toList.all (dstOk F.nt) = true) (ρ : Lk) (a : Act) (w : World) (hs : Sat C F ρ s a w) :
    wpAny C.P .any ops (Fin C F (Q .normal)) ops.size (Array.replicate ops.size false) a w.drew := by
  obtain ⟨rs, h1, h2, h3, h4⟩ := hpre.recs
  have hor : ∀ r ∈ rs, ops[r.i]? = some r.o := fun r hr => by
    obtain ⟨A, B, hAB⟩ := List.append_of_mem hr
    exact (h4 A r B hAB).1
  have ho := ordOk_of h1 hor hc
  have hds : ∀ r ∈ rs, dstOk F.nt r.o = true := fun r hr => by
    refine List.all_eq_true.1 hd r.o ?_
    have := hor r hr
    exact Array.mem_toList_iff.2 (Array.mem_of_getElem? this)
  have hrep : ∀ j, (Array.replicate ops.size false).getD j false = false := fun j => by
    rw [Array.getD_eq_getD_getElem?]
    rw [Array.getElem?_replicate]; split <;> rfl
  have hnL : ∀ j, ¬ Ls (Array.replicate ops.size false) j := fun j hj => by unfold Ls at hj; rw [hrep] at hj; cases hj
  have hgen : ∀ e ∈ W.R, e.g < s.n := fun e he => hs.gen e (hH.mem_iff.2 (by unfold WR.start; cases W.ia <;> simp [he]))
  have hge : W.ia = none → W.e.g < s.n := fun hia => hs.gen _ (hH.mem_iff.2 (by unfold WR.start; rw [hia]; simp))
  have hlw := ho.lt W.iw (by rw [h1]; simp [hiw])
  have htl : W.tail (Array.replicate ops.size false) = W.start := by
    unfold WR.tail WR.start
    rw [if_neg (by rw [hrep]; simp)]
    cases W.ia with
    | none => rfl
    | some ia => exact if_neg (by rw [hrep]; simp)
  have hin : DI C F (W.tail (Array.replicate ops.size false)) s.n s.env rs (Array.replicate ops.size false) a w.drew ρ s.H := by
    refine ⟨hs.mem.drew, ?_, fun r _ hl => absurd hl (hnL _), fun t _ => (hs.env t).mono (.drew _ _ _), fun k g hg hk => absurd (hs.fresh k g hg) hk, hs.nt, hs.dfr⟩
    have : rs.filterMap (fun r => if (Array.replicate ops.size false).getD r.i false then r.ne else none) = [] := by
      rw [List.filterMap_eq_nil_iff]
      intro r _
      rw [hrep]; rfl
    rw [this, htl]; exact hH
  refine any_prefixW ho hlw hwg hgen hge (fun ia h => ⟨(hga ia h).1, (hga ia h).2.1⟩) hds h4 ?_ (fun hall => by
    rw [← h1] at hiw
    obtain ⟨r, hr, he⟩ := List.mem_map.1 hiw
    rw [← he]; exact hall r hr) ops.size _ a w.drew ρ s.H (by simp) ?_ ?_ (fun j _ => hnL j) hin
  · intro L a' w' ρ' He hL hall hi
    have hN : He.Perm (N ++ W.e' :: W.R) := by
      refine hi.perm.trans (List.Perm.append_right _ ?_)
      have e : rs.filterMap (fun r => if L.getD r.i false then r.ne else none) = rs.filterMap (·.ne) := fm_congr fun r hr => by
        have := hall r hr; unfold Ls at this; rw [this]; rfl
      rw [e, h3]
      have := newOf_perm rs []
      rw [List.append_nil] at this
      exact this.symm
    refine h ?_ suf ?_ ρ' a' w' ⟨hi.mem.perm hN, ?_, ?_, fun t => ?_, hi.nt, hi.dfr⟩
    · rw [List.all_eq_true]
      intro o' ho'
      obtain ⟨j, hj, rfl⟩ := List.mem_map.1 ho'
      have hlt := ho.lt j (by simp [hj])
      refine List.all_eq_true.1 hd _ ?_
      rw [Array.getD_eq_getD_getElem?, Array.getElem?_eq_getElem hlt]
      simp
    · rw [List.map_map]
      refine List.map_congr_left fun j hj => ?_
      have hlt := ho.lt j (by simp [hj])
      simp [Array.getD_eq_getD_getElem?, Array.getElem?_eq_getElem hlt]
    · intro k g hg
      apply Classical.byContradiction
      intro hk
      obtain ⟨r, hr, _, he⟩ := hi.fresh k g (by simp at hg; omega) hk
      have := ho.lt r.i (by simp; exact .inl ⟨r, hr, rfl⟩)
      simp at hg
      omega
    · intro e he
      rcases List.mem_append.1 he with he | he
      · rw [h3] at he
        have he := (newOf_perm rs []).mem_iff.1 he
        rw [List.append_nil] at he
        obtain ⟨r, hr, hre⟩ := List.mem_filterMap.1 he
        obtain ⟨A, B, hAB⟩ := List.append_of_mem hr
        have := (h4 A r B hAB).2.gen e hre
        have := ho.lt r.i (by simp; exact .inl ⟨r, hr, rfl⟩)
        show e.g < s.n + ops.size
        omega
      · show e.g < s.n + ops.size
        rcases List.mem_cons.1 he with rfl | he
        · have hE : W.e.g < s.n + ops.size := by
            cases hia : W.ia with
            | none => have := hge hia; omega
            | some ia =>
              obtain ⟨q1, _, q3⟩ := hga ia hia
              have := ho.lt ia (by rw [h1]; simp [q3])
              omega
          rcases hwg with h | h <;> omega
        · have := hgen e he
          omega
    · show Rep ρ' (Own F.X ρ' (N ++ W.e' :: W.R)) w' (envF.get t) _
      rw [← Own.perm hN, h2]
      by_cases hw : ∃ r ∈ rs, r.o.dst = some t
      · obtain ⟨r, hr, hrd⟩ := hw
        rw [envOf_at rs s.env t ho.dst r hr hrd]
        exact hi.reps r hr (hall r hr) t hrd
      · rw [envOf_other rs s.env t fun r hr hrd => hw ⟨r, hr, hrd⟩]
        exact hi.old t fun r hr _ hrd => hw ⟨r, hr, hrd⟩
  · refine Nat.le_trans (List.length_filter_le _ _) ?_
    have hsub : ∀ (l : List Nat) (n : Nat), l.Nodup → (∀ x ∈ l, x < n) → l.length ≤ n := by
      intro l n
      induction n generalizing l with
      | zero => intro _ h; cases l with
        | nil => simp
        | cons x l => exact absurd (h x (by simp)) (by omega)
      | succ n ihn =>
        intro hnd hlt
        have h1 := ihn (l.erase n) (hnd.erase n) fun x hx => by
          have := hlt x (List.mem_of_mem_erase hx)
          have : x ≠ n := fun h => by subst h; exact (List.Nodup.not_mem_erase hnd) hx
          omega
        have := List.length_erase (a := n) (l := l)
        split at this <;> omega
    exact hsub _ _ ho.nodup ho.lt
  · intro k hk
    have : k < ops.size ∨ ¬ k < ops.size := by omega
    rcases this with hlt | hlt
    · rw [Array.getD_eq_getD_getElem?, Array.getElem?_replicate, if_pos hlt] at hk; cases hk
    · intro h; exact absurd h hlt

theorem upon_mono {P : Program} {o : Oper} {a : Act} {R R' : Exit → Act → World → Prop} {K K' : Act → World → Prop} (hk : ∀ a w, K a w → K' a w) (h : ∀ e a w, R e a w → R' e a w) : ∀ r, o.upon P a K R r → o.upon P a K' R' r := fun r hr => by
  unfold Oper.upon at hr ⊢
  split at hr
  · exact hk _ _ hr
  · exact hk _ _ hr
  · exact hk _ _ hr
  · refine hr.mono ?_
    intro e w'' q
    cases e with
    | returned v => exact hk _ _ q
    | panicked c => exact h _ _ _ q
    | outgrown => obtain ⟨a, w, q⟩ := q; exact ⟨a, w, h _ _ _ q⟩
  · exact fun c cs => by
      obtain ⟨v, w', h1, h2⟩ := hr c cs
      exact ⟨v, w', hk _ _ h1, h2⟩
  · exact h _ _ _ hr
  · exact hr.elim
theorem wpAny_mono {P : Program} {R R' : Exit → Act → World → Prop} (h : ∀ e a w, R e a w → R' e a w) : ∀ (fuel : Nat) (L : Array Bool) (a : Act) (w : World), wpAny P .any ops R fuel L a w → wpAny P .any ops R' fuel L a w
  | 0, L, a, w, hh => ⟨hh.1, h _ _ _ hh.2⟩
  | fuel + 1, L, a, w, hh => ⟨fun h0 => h _ _ _ (hh.1 h0), fun i hi => by
      have hq := hh.2 i hi
      unfold wpOp at hq ⊢
      split
      · rename_i ho; simp only [ho] at hq; exact wpAny_mono h _ _ _ _ hq
      · rename_i o ho
        simp only [ho] at hq
        split
        · rename_i hw
          rw [if_pos hw] at hq
          rcases hq with hq | ⟨h1, a, w, h2⟩
          · exact .inl (upon_mono (fun a w => wpAny_mono h _ _ a w) h _ hq)
          · exact .inr ⟨h1, a, w, h _ _ _ h2⟩
        · rename_i hw
          rw [if_neg hw] at hq
          exact wpAny_mono h _ _ _ _ hq⟩

theorem Ok.drawW {W : WR} {i : Nat} {s : St} {Q : Exit → St → Prop} {pre suf : List Nat} {envF : Env} {N : Hp} (hm : C.P.follows .mixedOrders = true) (hc : chkD ops pre suf = true)
    (hH : s.H.Perm W.start) (hga : ∀ ia, W.ia = some ia → W.e.g = s.n + ia ∧ Reach ops W.iw ia ∧ ia ∈ pre) (hiw : W.iw ∈ pre) (hwg : W.e'.g = W.e.g ∨ W.e'.g = s.n + W.iw)
    (hpre : DTrW C F ops W s.n pre s.env [] envF N)
    (h : OkL C F ops (suf.map fun j => ops.getD j default) ⟨envF, N ++ W.e' :: W.R, s.n + ops.size⟩ (Q .normal)) : Ok C F (.region i ops true) s Q := fun hd ρ a w hs => by
  refine wp_region_any hm (wpAny_mono (fun e a w h => ?_) _ _ _ _ (Ok.drawWA hc hH hga hiw hwg hpre h hd ρ a w hs))
  obtain ⟨rfl, s', ρ', h1, h2⟩ := h
  exact ⟨s', ρ', h1, h2⟩

/-! ### what writes -/
theorem evS_congr {tt : Nat → Option TInfo} {H : Hp} {g g' : Operand → D} {op : Op} (h : ∀ x ∈ op.operands, g x = g' x) : evS tt H g op = evS tt H g' op := by
  cases op <;> simp only [Op.operands] at h <;> try rfl
  case store t x y => simp only [evS]; rw [h x (by simp), h y (by simp)]
theorem evS_more {tt : Nat → Option TInfo} {e : Ent} {He : Hp} {g : Operand → D} {op : Op} {k : Nat} {e' : Ent} {p : Prop} (h : evS tt [e] g op = some (k, e', p)) :
    evS tt (e :: He) g op = some (k, e', p) ∧ Hp.set (e :: He) k e' = e' :: He ∧ e'.g = e.g := by
  unfold evS at h
  split at h <;> first | (cases h; done) | skip
  rename_i t x y
  simp only [evS]
  split at h <;> first | (cases h; done) | skip
  rename_i i hi
  try simp only [hi]
  split at h <;> first | (cases h; done) | skip
  rename_i h1
  try simp only [h1]
  split at h <;> first | (cases h; done) | skip
  rename_i e1 h2
  have hb : Nat.beq e.k k = true ∧ e1 = e := by
    split at h <;> first | (cases h; done) | skip
    cases h
    simp only [Hp.get] at h2
    split at h2
    · rename_i hb; cases h2; exact ⟨hb, rfl⟩
    · cases h2
  have hget : ∀ k0, Hp.get [e] k0 = some e1 → Hp.get (e :: He) k0 = some e1 := fun k0 hk => by
    simp only [Hp.get] at hk ⊢
    split at hk
    · exact hk
    · cases hk
  try rw [hget _ h2]
  split at h <;> first | (cases h; done) | skip
  rename_i h3
  cases h
  refine ⟨by first | rfl | simp only [h3], ?_, by rw [hb.2]⟩
  simp only [Hp.set, hb.1]

theorem SteadyW.store {W : WR} {g : Nat} {env : Env} {o : Oper} {tt : Nat → Option TInfo} (htt : Tab C.P tt) {k : Nat} {p : Prop} (hw : wantD ops env o = some true) (he : evS tt [W.e] (gOpd env) o.op = some (k, W.e', p)) (hp : p) :
    SteadyW C F ops W g env o (.prim (.tuple #[])) := fun He ρ a w m _ _ _ hr => by
  refine ⟨wantD_look hr hw, ?_⟩
  obtain ⟨g', h1, h2⟩ := look_gen hr
  rw [evS_congr h1] at he
  obtain ⟨q1, q2, _⟩ := evS_more (He := He) he
  obtain ⟨w', r1, r2, r3, _⟩ := store_own (s := ⟨[], W.e :: He, 0⟩) htt m h2 q1 hp
  simp only [q2] at r2 r3
  exact ⟨undef, ρ, w', .inr ⟨r1, rfl⟩, r2, r3, fun _ _ _ => rfl, .prim _⟩

theorem evA_congr {tt : Nat → Option TInfo} {H : Hp} {n k : Nat} {g g' : Operand → D} {op : Op} (h : ∀ x ∈ op.operands, g x = g' x) : evA tt H n k g op = evA tt H n k g' op := by
  unfold evA
  split
  · rename_i args tys
    cases hargs : args.toList with
    | nil => rfl
    | cons s r =>
      cases r with
      | nil => rfl
      | cons x r =>
        cases r with
        | nil =>
          have hs : s ∈ args.toList := by rw [hargs]; simp
          have hx : x ∈ args.toList := by rw [hargs]; simp
          dsimp only
          rw [h s (by simp [Op.operands, Call.operands]; simpa using hs), h x (by simp [Op.operands, Call.operands]; simpa using hx)]
        | cons => rfl
  · rfl
theorem get_one {e e1 : Ent} {k : Nat} {He : Hp} (h : Hp.get [e] k = some e1) : e1 = e ∧ Hp.get (e :: He) k = some e ∧ Hp.del (e :: He) k = He ∧ Hp.del [e] k = [] := by
  simp only [Hp.get] at h
  split at h
  · rename_i hb
    cases h
    refine ⟨rfl, ?_, ?_, ?_⟩
    · simp only [Hp.get, hb]
    · simp only [Hp.del, hb]
    · simp only [Hp.del, hb]
  · cases h
theorem srcD_more {e : Ent} {He : Hp} {esz : Nat} {d : D} {r : List D × Prop} (h : srcD [e] esz d = some r) : srcD (e :: He) esz d = some r := by
  unfold srcD at h ⊢
  split at h <;> try exact h
  split at h <;> first | (cases h; done) | skip
  rename_i h1
  obtain ⟨rfl, h2, _, _⟩ := get_one (He := He) h1
  rw [h2]; exact h
theorem evA_more {tt : Nat → Option TInfo} {e e' : Ent} {He : Hp} {n k : Nat} {g : Operand → D} {op : Op} {d : D} {p : Prop} (h : evA tt [e] n k g op = some (d, [e'], p)) :
    evA tt (e :: He) n k g op = some (d, e' :: He, p) ∧ e'.g = n := by
  unfold evA at h ⊢
  split at h <;> first | (cases h; done) | skip
  split at h <;> first | (cases h; done) | skip
  rename_i h1
  try rw [h1]
  try dsimp only
  split at h <;> first | (cases h; done) | skip
  rename_i h2
  try rw [h2]
  try dsimp only
  split at h <;> first | (cases h; done) | skip
  rename_i h3
  try rw [h3]
  try dsimp only
  split at h <;> first | (cases h; done) | skip
  rename_i h4
  try rw [h4]
  try dsimp only
  split at h <;> first | (cases h; done) | skip
  rename_i h5
  try rw [h5]
  try dsimp only
  split at h <;> first | (cases h; done) | skip
  rename_i h6
  try rw [srcD_more h6]
  try dsimp only
  split at h <;> first | (cases h; done) | skip
  · rename_i h7
    try rw [h7]
    try dsimp only
    split at h <;> first | (cases h; done) | skip
    rename_i h8
    obtain ⟨rfl, a1, a2, a3⟩ := get_one (He := He) h8
    try rw [a1]
    try dsimp only
    rw [a3] at h
    rw [a2]
    cases h
    exact ⟨rfl, rfl⟩

theorem SteadyW.app {W : WR} {g : Nat} {env : Env} {o : Oper} {tt : Nat → Option TInfo} (k : Nat) (htt : Tab C.P tt) {d : D} {p : Prop} (hw : wantD ops env o = some true) (he : evA tt [W.e] g k (gOpd env) o.op = some (d, [W.e'], p)) (hp : p) :
    SteadyW C F ops W g env o d := fun He ρ a w m _ fr hne hr => by
  refine ⟨wantD_look hr hw, ?_⟩
  obtain ⟨g', h1, h2⟩ := look_gen hr
  rw [evA_congr h1] at he
  obtain ⟨q1, _⟩ := evA_more (He := He) he
  obtain ⟨v, ρ', w', r1, r2⟩ := append_ok htt m fr hne h2 q1 hp
  exact ⟨v, ρ', w', .inl r1, r2.mem, r2.ext, r2.far, r2.rep⟩

/-- append to a nil slice makes memory -/
theorem evA_none {tt : Nat → Option TInfo} {e' : Ent} {He : Hp} {n k : Nat} {g : Operand → D} {op : Op} {d : D} {p : Prop} (h : evA tt [] n k g op = some (d, [e'], p)) :
    evA tt He n k g op = some (d, e' :: He, p) ∧ e'.g = n := by
  have src : ∀ {esz : Nat} {x : D} {r : List D × Prop}, srcD [] esz x = some r → srcD He esz x = some r := fun {esz x r} h => by
    unfold srcD at h ⊢
    split at h <;> try exact h
    split at h <;> first | (cases h; done) | skip
    rename_i h1
    cases h1
  unfold evA at h ⊢
  split at h <;> first | (cases h; done) | skip
  split at h <;> first | (cases h; done) | skip
  rename_i h1
  try rw [h1]
  try dsimp only
  split at h <;> first | (cases h; done) | skip
  rename_i h2
  try rw [h2]
  try dsimp only
  split at h <;> first | (cases h; done) | skip
  rename_i h3
  try rw [h3]
  try dsimp only
  split at h <;> first | (cases h; done) | skip
  rename_i h4
  try rw [h4]
  try dsimp only
  split at h <;> first | (cases h; done) | skip
  rename_i h5
  try rw [h5]
  try dsimp only
  split at h <;> first | (cases h; done) | skip
  rename_i h6
  try rw [src h6]
  try dsimp only
  split at h <;> first | (cases h; done) | skip
  cases h
  exact ⟨rfl, rfl⟩
theorem Steady.app0 {H : Hp} {g : Nat} {env : Env} {o : Oper} {e : Ent} {tt : Nat → Option TInfo} (k : Nat) (htt : Tab C.P tt) {d : D} {p : Prop} (hw : wantD ops env o = some true) (he : evA tt [] g k (gOpd env) o.op = some (d, [e], p)) (hp : p) :
    Steady C F ops H g env o d (some e) := by
  refine ⟨fun e' h => by cases h; exact (evA_none (He := []) he).2, fun He ρ a w m _ fr hne hr => .inr ⟨wantD_look hr hw, .inl ?_⟩⟩
  obtain ⟨g', h1, h2⟩ := look_gen hr
  rw [evA_congr h1] at he
  obtain ⟨q1, _⟩ := evA_none (He := He) he
  obtain ⟨v, ρ', w', r1, r2⟩ := append_ok htt m fr hne h2 q1 hp
  exact ⟨v, ρ', w', r1, r2.mem, r2.ext, r2.far, r2.rep⟩
end
end Go.Ide

/- The ideal layer, part 21: the evaluator: operations, regions, code, functions. -/
namespace Go.Ide
open Go.RowKit
noncomputable section

structure FI where
  nt : Nat
  res : List ResultVar
  code : Code
structure EV where
  tt : Nat → Option TInfo
  xt : Nat → Option XI
  ft : Nat → Option FI
  np : Nat → Bool
  orc : Nat → List D → Option D
  mt : Nat → String → Option Nat
  nat : Nat → List D → Option D
structure EVOk (C : Ctx) (X : EV) : Prop where
  tt : Tab C.P X.tt
  xt : TabX C.P X.xt
  ft : ∀ f i, X.ft f = some i → ∃ fn, C.P.funcs[f]? = some fn ∧ fn.body = some i.code ∧ (fn.name == "runtime.NumGoroutine") = false ∧ codeDst fn.ntmps i.code = true ∧ fn.ntmps = i.nt ∧ fn.results.toList = i.res
  orc : ∀ f ds d, X.orc f ds = some d → ICalls C f ds d ∧ ArePure ds
  mixed : C.P.follows .mixedOrders = true
  mt : ∀ t name f, X.mt t name = some f → ∀ v w, (method (C.P.types.size + Made.depth) t v name).run C.P w = .ok (f, v) w
  nat : ∀ f ds d, X.nat f ds = some d → NatCall C f ds d

/-! by recursors: the kernel is several times quicker with them -/
noncomputable def getF (env : Env) (t : Nat) : D := List.rec (motive := fun _ => D) .any (fun p _ ih => Bool.rec (motive := fun _ => D) ih p.2 (Nat.beq p.1 t)) env
theorem getF_eq (t : Nat) : ∀ env : Env, getF env t = env.get t
  | [] => rfl
  | (k, d) :: r => by
    show Bool.rec (motive := fun _ => D) (getF r t) d (Nat.beq k t) = _
    rw [getF_eq t r]
    simp only [Env.get]
    cases Nat.beq k t <;> rfl
noncomputable def gOpF (env : Env) (x : Operand) : D := match x with
  | .tmp t => getF env t
  | .const v => constD v
  | .global g => .prim (.pointer (some ⟨g, 0, none⟩))
  | .func f => .clo (.func f) [] []
theorem gOpF_eq (env : Env) : gOpF env = gOpd env := by
  funext x
  cases x <;> first | rfl | exact getF_eq _ _
noncomputable def memF (i : Nat) (l : List Nat) : Bool := List.rec (motive := fun _ => Bool) false (fun j _ ih => Bool.rec (motive := fun _ => Bool) ih true (Nat.beq i j)) l
theorem memF_eq (i : Nat) : ∀ l : List Nat, memF i l = memB i l
  | [] => rfl
  | j :: l => by
    show Bool.rec (motive := fun _ => Bool) (memF i l) true (Nat.beq i j) = _
    rw [memF_eq i l]
    simp only [memB]
    cases Nat.beq i j <;> rfl
abbrev CallE := Nat → List D → Hp → Nat → Option (D × Hp × Nat)
abbrev CallP := Nat → List D → Option D

def iff' (b : Bool) (r : D × Hp × Nat) : Option (D × Hp × Nat) := match b with
  | true => some r
  | false => none
/-- an element of a settled slice -/
def idxE (tt : Nat → Option TInfo) (g : Operand → D) (t : Nat) (x ix : Operand) : Option D := match tt t with
  | some i => match i.ti with
    | .slice _ esz _ _ => match g ix with
      | .prim (.int _ j) => match g x with
        | .sl _ sz es => match Nat.beq sz esz && decide (0 ≤ j) with
          | true => match es[j.toNat]? with
            | some d => some (.pptr d)
            | none => none
          | false => none
        | _ => none
      | _ => none
    | _ => none
  | none => none
def evPE (X : EV) (g : Operand → D) (H : Hp) (n : Nat) (op : Op) : Option (D × Hp × Nat) := match evP X.tt g op with
  | some (d, _) => iff' (okP X.tt g op) (d, H, n + 1)
  | none => none
def evQE (X : EV) (g : Operand → D) (H : Hp) (n : Nat) (op : Op) : Option (D × Hp × Nat) := match evQ X.tt X.xt g op with
  | some (d, _) => iff' (okQ X.xt g op) (d, H, n + 1)
  | none => none
def orElse' {α : Type} (a : Option α) (b : Option α) : Option α := match a with
  | some x => some x
  | none => b
def evOp (X : EV) (cl : CallE) (g : Operand → D) (H : Hp) (n : Nat) (op : Op) : Option (D × Hp × Nat) := match op with
  | .call ⟨.value fop, args, _⟩ => match g fop with
    | .clo (.func f) first captured => match X.nat f (first ++ args.toList.map g ++ captured) with
      | some d => some (d, H, n + 1)
      | none => cl f (first ++ args.toList.map g ++ captured) H n
    | _ => none
  | .call ⟨.invoke r name, args, _⟩ => match g r with
    | .ifc t d0 => match X.mt t name with
      | some f => cl f (d0 :: args.toList.map g) H n
      | none => none
    | _ => none
  | .call ⟨.builtin .append, _, _⟩ => match evA X.tt H n n g op with
    | some (d, H', _) => iff' (okA X.tt H g op) (d, H', n + 1)
    | none => none
  | .makeSlice _ _ _ => match evM X.tt n n g op with
    | some (d, e, _) => iff' (okM X.tt g op) (d, e :: H, n + 1)
    | none => none
  | .store _ _ _ => match evS X.tt H g op with
    | some (k, e, _) => iff' (okS X.tt H g op) (.prim (.tuple #[]), Hp.set H k e, n + 1)
    | none => none
  | .load _ _ | .alloc _ | .box _ _ | .buildSlice _ _ _ => match evL X.tt H n n g op with
    | some (d, ne, _) => iff' (okL X.tt H g op) (d, putH ne H, n + 1)
    | none => none
  | .indexAddr t x ix => orElse' (evPE X g H n op) (match idxE X.tt g t x ix with
    | some d => some (d, H, n + 1)
    | none => none)
  | .makeInterface _ _ | .lookup _ _ _ _ => evQE X g H n op
  | .binOp _ _ _ _ _ => orElse' (evPE X g H n op) (evQE X g H n op)
  | _ => evPE X g H n op
def evStep (X : EV) (cl : CallE) (ops : Array Oper) (s : St) (o : Oper) : Option (D × Hp × Nat) := match wantD ops s.env o with
  | some true => evOp X cl (gOpF s.env) s.H s.n o.op
  | some false => some (.prim (.tuple #[]), s.H, s.n + 1)
  | none => none
def evOps (X : EV) (cl : CallE) (ops : Array Oper) : List Oper → St → Option St
  | [], s => some s
  | o :: os, s => match evStep X cl ops s o with
    | some (d, H', n') => fzD d fun d => fzN n' fun n' => evOps X cl ops os ⟨putE s.env o.dst d, H', n'⟩
    | none => none

def isR (d : D) (H : Hp) (n : Nat) : D → Hp → Nat → Prop := fun d1 H1 n1 => d1 = d ∧ H1 = H ∧ n1 = n
def CallEOk (C : Ctx) (cl : CallE) : Prop := ∀ f ds H n d H' n', cl f ds H n = some (d, H', n') → ICallH C f ds H n (isR d H' n')
def CallPOk (C : Ctx) (cp : CallP) : Prop := ∀ f ds d, cp f ds = some d → ICalls C f ds d ∧ ArePure ds

section
variable {C : Ctx} {F : Fra} {X : EV} {cl : CallE} {cp : CallP} {ops : Array Oper}

theorem iff'_some {b : Bool} {r r' : D × Hp × Nat} (h : iff' b r = some r') : b = true ∧ r = r' := by
  cases b
  · cases h
  · cases h; exact ⟨rfl, rfl⟩

theorem idxE_spec {tt : Nat → Option TInfo} {g : Operand → D} {t : Nat} {x ix : Operand} {d : D} (h : idxE tt g t x ix = some d) : ∃ i e esz eby ez kk j nn es d', tt t = some i ∧ i.ti = .slice e esz eby ez ∧ g ix = .prim (.int kk j) ∧
    g x = .sl nn esz es ∧ 0 ≤ j ∧ es[j.toNat]? = some d' ∧ d = .pptr d' := by
  unfold idxE at h
  split at h <;> first | (cases h; done) | skip
  rename_i i h1
  split at h <;> first | (cases h; done) | skip
  rename_i e esz eby ez h2
  split at h <;> first | (cases h; done) | skip
  rename_i kk j h3
  split at h <;> first | (cases h; done) | skip
  rename_i nn sz es h4
  split at h <;> first | (cases h; done) | skip
  rename_i h5
  split at h <;> first | (cases h; done) | skip
  rename_i d' h6
  cases h
  simp only [Bool.and_eq_true, decide_eq_true_eq] at h5
  obtain rfl := Nat.eq_of_beq_eq_true h5.1
  exact ⟨i, e, sz, eby, ez, kk, j, nn, es, d', h1, h2, h3, h4, h5.2, h6, rfl⟩

theorem evStep_ok (hX : EVOk C X) (hcl : CallEOk C cl) {s : St} {o : Oper} {os : List Oper} {K : St → Prop} {d : D} {H' : Hp} {n' : Nat} (h : evStep X cl ops s o = some (d, H', n'))
    (hk : OkL C F ops os ⟨putE s.env o.dst d, H', n'⟩ K) : OkL C F ops (o :: os) s K := by
  unfold evStep at h
  rw [gOpF_eq] at h
  split at h <;> first | (cases h; done) | skip
  · rename_i hw
    have pe : evPE X (gOpd s.env) s.H s.n o.op = some (d, H', n') → OkL C F ops (o :: os) s K := fun h => by
      unfold evPE at h
      split at h <;> first | (cases h; done) | skip
      rename_i hp
      obtain ⟨hb, hr⟩ := iff'_some h
      cases hr
      exact OkL.p hX.tt hw hp (okP_ok hp hb) hk
    have qe : evQE X (gOpd s.env) s.H s.n o.op = some (d, H', n') → OkL C F ops (o :: os) s K := fun h => by
      unfold evQE at h
      split at h <;> first | (cases h; done) | skip
      rename_i hp
      obtain ⟨hb, hr⟩ := iff'_some h
      cases hr
      exact OkL.q hX.tt hX.xt hw hp (okQ_ok hp hb) hk
    have le : ∀ r, (match evL X.tt s.H s.n s.n (gOpd s.env) o.op with
        | some (d, ne, _) => iff' (okL X.tt s.H (gOpd s.env) o.op) (d, putH ne s.H, s.n + 1)
        | none => none) = some r → r = (d, H', n') → OkL C F ops (o :: os) s K := fun r h hr => by
      split at h <;> first | (cases h; done) | skip
      rename_i hp
      obtain ⟨hb, hr'⟩ := iff'_some h
      rw [← hr'] at hr; cases hr
      exact OkL.l' s.n hX.tt hw hp (okL_ok hp hb) hk
    unfold evOp at h
    split at h
    · rename_i fop args tys ho
      split at h <;> first | (cases h; done) | skip
      rename_i f first captured hf
      split at h
      · rename_i hn
        cases h
        exact OkL.nat hw ho hf rfl (hX.nat _ _ _ hn) hk
      refine OkL.callH hw ho hf rfl (hcl _ _ _ _ _ _ _ h) fun d1 H1 n1 hΦ => ?_
      obtain ⟨rfl, rfl, rfl⟩ := hΦ
      exact hk
    · rename_i r name args tys ho
      split at h <;> first | (cases h; done) | skip
      rename_i t d0 hr
      split at h <;> first | (cases h; done) | skip
      rename_i f hf
      refine OkL.invH hw ho hr (hX.mt _ _ _ hf) rfl (hcl _ _ _ _ _ _ _ h) fun d1 H1 n1 hΦ => ?_
      obtain ⟨rfl, rfl, rfl⟩ := hΦ
      exact hk
    · split at h <;> first | (cases h; done) | skip
      rename_i hp
      obtain ⟨hb, hr⟩ := iff'_some h
      cases hr
      exact OkL.app' s.n hX.tt hw hp (okA_ok hp hb) hk
    · split at h <;> first | (cases h; done) | skip
      rename_i hp
      obtain ⟨hb, hr⟩ := iff'_some h
      cases hr
      exact OkL.mk' s.n hX.tt hw hp (okM_ok hp hb) hk
    · split at h <;> first | (cases h; done) | skip
      rename_i hp
      obtain ⟨hb, hr⟩ := iff'_some h
      cases hr
      exact OkL.store hX.tt hw hp (okS_ok hp hb) hk
    · exact le _ h rfl
    · exact le _ h rfl
    · exact le _ h rfl
    · exact le _ h rfl
    · rename_i t x ix ho
      unfold orElse' at h
      split at h
      · rename_i hr; cases h; exact pe hr
      · split at h <;> first | (cases h; done) | skip
        rename_i hi
        cases h
        obtain ⟨i, e, esz, eby, ez, kk, j, nn, es, d', a1, a2, a3, a4, a5, a6, rfl⟩ := idxE_spec hi
        exact OkL.idx hX.tt hw ho a1 a2 a3 a4 a5 a6 hk
    · exact qe h
    · exact qe h
    · unfold orElse' at h
      split at h
      · rename_i hr; cases h; exact pe hr
      · exact qe h
    · exact pe h
  · rename_i hw
    cases h
    exact OkL.skip hw hk

theorem evOps_ok (hX : EVOk C X) (hcl : CallEOk C cl) {K : St → Prop} : ∀ {os : List Oper} {s s' : St}, evOps X cl ops os s = some s' → K s' → OkL C F ops os s K
  | [], s, s', h, hk => by
    simp only [evOps, Option.some.injEq] at h; subst h
    exact OkL.nil hk
  | o :: os, s, s', h, hk => by
    simp only [evOps] at h
    split at h <;> first | (cases h; done) | skip
    rename_i hs
    rw [fzD_eq, fzN_eq] at h
    exact evStep_ok hX hcl hs (evOps_ok hX hcl h hk)

/-! ### regions that draw their order -/
theorem Steady.l' {H : Hp} {g : Nat} {env : Env} {o : Oper} {tt : Nat → Option TInfo} (k : Nat) (htt : Tab C.P tt) {d : D} {ne : Option Ent} {p : Prop} (hw : wantD ops env o = some true) (he : evL tt H g k (gOpd env) o.op = some (d, ne, p)) (hp : p) : Steady C F ops H g env o d ne := by
  refine ⟨fun e h => by subst h; exact evL_gen he, fun He ρ a w m hsub fr hne hr => .inr ⟨wantD_look hr hw, .inl ?_⟩⟩
  obtain ⟨g', h1, h2⟩ := look_gen hr
  obtain ⟨v, ρ', w', r1, r2⟩ := evL_ok (g := g') hsub htt m fr hne h2 (by rw [← evL_congr h1]; exact he) hp
  exact ⟨v, ρ', w', r1, r2⟩

theorem evQ_congr {tt : Nat → Option TInfo} {xt : Nat → Option XI} {g g' : Operand → D} {op : Op} (h : ∀ x ∈ op.operands, g x = g' x) : evQ tt xt g op = evQ tt xt g' op := by
  cases op <;> simp only [Op.operands] at h <;> try rfl
  case binOp op t x y yt => simp only [evQ]; rw [h x (by simp), h y (by simp)]
  case makeInterface t x => simp only [evQ]; rw [h x (by simp)]
  case lookup t x ix ok => simp only [evQ]; rw [h x (by simp), h ix (by simp)]

theorem Steady.q {H : Hp} {g : Nat} {env : Env} {o : Oper} {tt : Nat → Option TInfo} {xt : Nat → Option XI} (htt : Tab C.P tt) (hxt : TabX C.P xt) {d : D} {p : Prop} (hw : wantD ops env o = some true) (he : evQ tt xt (gOpd env) o.op = some (d, p)) (hp : p) :
    Steady C F ops H g env o d none := by
  refine ⟨by simp, fun He ρ a w m _ _ _ hr => .inr ⟨wantD_look hr hw, .inl ?_⟩⟩
  obtain ⟨g', h1, h2⟩ := look_gen hr
  obtain ⟨v, r1, r2⟩ := evQ_ok (g := g') htt hxt h2 (by rw [← evQ_congr h1]; exact he) hp
  exact ⟨v, ρ, w, r1, m, .refl _ _ _, fun _ _ _ => rfl, r2⟩

def iff2 (b : Bool) (r : D × Option Ent) : Option (D × Option Ent) := match b with
  | true => some r
  | false => none
theorem iff2_some {b : Bool} {r r' : D × Option Ent} (h : iff2 b r = some r') : b = true ∧ r = r' := by
  cases b
  · cases h
  · cases h; exact ⟨rfl, rfl⟩
def stP (X : EV) (g : Operand → D) (op : Op) : Option (D × Option Ent) := match evP X.tt g op with
  | some (d, _) => iff2 (okP X.tt g op) (d, none)
  | none => none
def stQ (X : EV) (g : Operand → D) (op : Op) : Option (D × Option Ent) := match evQ X.tt X.xt g op with
  | some (d, _) => iff2 (okQ X.xt g op) (d, none)
  | none => none
def stOp (X : EV) (cp : CallP) (g : Operand → D) (H : Hp) (n : Nat) (op : Op) : Option (D × Option Ent) := match op with
  | .call ⟨.value fop, args, _⟩ => match g fop with
    | .clo (.func f) first captured => match X.nat f (first ++ args.toList.map g ++ captured) with
      | some d => some (d, none)
      | none => match cp f (first ++ args.toList.map g ++ captured) with
        | some d => some (d, none)
        | none => none
    | _ => none
  | .call ⟨.builtin .append, _, _⟩ => match evA X.tt [] n n g op with
    | some (d, [e], _) => iff2 (okA X.tt [] g op) (d, some e)
    | _ => none
  | .load _ _ | .alloc _ | .box _ _ | .buildSlice _ _ _ => match evL X.tt H n n g op with
    | some (d, ne, _) => iff2 (okL X.tt H g op) (d, ne)
    | none => none
  | .indexAddr t x ix => orElse' (stP X g op) (match idxE X.tt g t x ix with
    | some d => some (d, none)
    | none => none)
  | .makeInterface _ _ | .lookup _ _ _ _ => stQ X g op
  | .binOp _ _ _ _ _ => orElse' (stP X g op) (stQ X g op)
  | _ => stP X g op
def stStep (X : EV) (cp : CallP) (ops : Array Oper) (H : Hp) (n : Nat) (env : Env) (o : Oper) : Option (D × Option Ent) := match wantD ops env o with
  | some true => stOp X cp (gOpF env) H n o.op
  | some false => some (.prim (.tuple #[]), none)
  | none => none
theorem stStep_ok (hX : EVOk C X) (hcp : CallPOk C cp) {H : Hp} {n : Nat} {env : Env} {o : Oper} {d : D} {ne : Option Ent} (h : stStep X cp ops H n env o = some (d, ne)) : Steady C F ops H n env o d ne := by
  unfold stStep at h
  rw [gOpF_eq] at h
  split at h <;> first | (cases h; done) | skip
  · rename_i hw
    have pe : stP X (gOpd env) o.op = some (d, ne) → Steady C F ops H n env o d ne := fun h => by
      unfold stP at h
      split at h <;> first | (cases h; done) | skip
      rename_i hp
      obtain ⟨hb, hr⟩ := iff2_some h
      cases hr
      exact Steady.p hX.tt hw hp (okP_ok hp hb)
    have qe : stQ X (gOpd env) o.op = some (d, ne) → Steady C F ops H n env o d ne := fun h => by
      unfold stQ at h
      split at h <;> first | (cases h; done) | skip
      rename_i hp
      obtain ⟨hb, hr⟩ := iff2_some h
      cases hr
      exact Steady.q hX.tt hX.xt hw hp (okQ_ok hp hb)
    have le : ∀ r, (match evL X.tt H n n (gOpd env) o.op with
        | some (d, ne, _) => iff2 (okL X.tt H (gOpd env) o.op) (d, ne)
        | none => none) = some r → r = (d, ne) → Steady C F ops H n env o d ne := fun r h hr => by
      split at h <;> first | (cases h; done) | skip
      rename_i hp
      obtain ⟨hb, hr'⟩ := iff2_some h
      rw [← hr'] at hr; cases hr
      exact Steady.l' n hX.tt hw hp (okL_ok hp hb)
    unfold stOp at h
    split at h
    · rename_i fop args tys ho
      split at h <;> first | (cases h; done) | skip
      rename_i f first captured hf
      split at h
      · rename_i hn
        cases h
        exact Steady.nat hw ho hf rfl (hX.nat _ _ _ hn)
      split at h <;> first | (cases h; done) | skip
      rename_i hc
      cases h
      obtain ⟨c1, c2⟩ := hcp _ _ _ hc
      exact Steady.call hw ho hf rfl c1 c2
    · split at h <;> first | (cases h; done) | skip
      rename_i hp
      obtain ⟨hb, hr⟩ := iff2_some h
      cases hr
      exact Steady.app0 n hX.tt hw hp (okA_ok hp hb)
    · exact le _ h rfl
    · exact le _ h rfl
    · exact le _ h rfl
    · exact le _ h rfl
    · rename_i t x ix ho
      unfold orElse' at h
      split at h
      · rename_i hr; cases h; exact pe hr
      · split at h <;> first | (cases h; done) | skip
        rename_i hi
        cases h
        obtain ⟨i, e, esz, eby, ez, kk, j, nn, es, d', a1, a2, a3, a4, a5, a6, rfl⟩ := idxE_spec hi
        exact Steady.idx hX.tt hw ho a1 a2 a3 a4 a5 a6
    · exact qe h
    · exact qe h
    · unfold orElse' at h
      split at h
      · rename_i hr; cases h; exact pe hr
      · exact qe h
    · exact pe h
  · rename_i hw
    cases h
    exact Steady.skip hw

def evPre (X : EV) (cp : CallP) (ops : Array Oper) (H : Hp) (n : Nat) : List Nat → Env → Hp → Option (Env × Hp)
  | [], env, N => some (env, N)
  | i :: l, env, N => match ops[i]? with
    | some o => match stStep X cp ops H (n + i) env o with
      | some (d, ne) => fzD d fun d => evPre X cp ops H n l (putE env o.dst d) (putH ne N)
      | none => none
    | none => none
theorem evPre_ok (hX : EVOk C X) (hcp : CallPOk C cp) {H : Hp} {n : Nat} : ∀ {l : List Nat} {env env' : Env} {N N' : Hp}, evPre X cp ops H n l env N = some (env', N') → DTr C F ops H n l env N env' N'
  | [], env, env', N, N', h => by
    simp only [evPre, Option.some.injEq, Prod.mk.injEq] at h; obtain ⟨rfl, rfl⟩ := h
    exact .nil _ _
  | i :: l, env, env', N, N', h => by
    simp only [evPre] at h
    split at h <;> first | (cases h; done) | skip
    rename_i o ho
    split at h <;> first | (cases h; done) | skip
    rename_i d ne hs
    rw [fzD_eq] at h
    exact .cons ho (stStep_ok hX hcp hs) (evPre_ok hX hcp h)

def pickReady (ops : Array Oper) (done : List Nat) : List Nat → Option (Nat × List Nat)
  | [] => none
  | i :: r => match allMem (depsOf ops i) done with
    | true => some (i, r)
    | false => match pickReady ops done r with
      | some (j, r') => some (j, i :: r')
      | none => none
def topo (ops : Array Oper) : Nat → List Nat → List Nat → List Nat
  | 0, done, rest => done.reverse ++ rest
  | f + 1, done, rest => match pickReady ops done rest with
    | some (i, rest') => topo ops f (i :: done) rest'
    | none => done.reverse ++ rest
def splitS (clo : List (Nat × List Nat)) : List Nat → List Nat → List Nat → List Nat → List Nat × List Nat
  | _, [], pre, cur => (pre.reverse, cur.reverse)
  | done, i :: l, pre, cur => match allMem done (look2 clo i) with
    | true => splitS clo (i :: done) l pre (i :: cur)
    | false => splitS clo (i :: done) l (i :: (cur ++ pre)) []
def ordOf (ops : Array Oper) : List Nat × List Nat :=
  splitS (cloT ops (topo ops ops.size [] (List.range ops.size)) []) [] (topo ops ops.size [] (List.range ops.size)) [] []
def isWr : Op → Bool
  | .store _ _ _ => true
  | .call ⟨.builtin .append, _, _⟩ => true
  | _ => false
def findW (ops : Array Oper) : List Nat → Option Nat
  | [] => none
  | i :: l => match ops[i]? with
    | some o => match isWr o.op with
      | true => some i
      | false => findW ops l
    | none => none
def upTo (i : Nat) : List Nat → List Nat
  | [] => []
  | j :: l => match Nat.beq i j with
    | true => []
    | false => j :: upTo i l
def wrKey (g : Operand → D) : Op → Option Nat
  | .store _ x _ => match g x with
    | .optr k _ _ _ _ => some k
    | _ => none
  | .call ⟨.builtin .append, args, _⟩ => match args.toList with
    | [s, _] => match g s with
      | .osl k _ _ _ _ => some k
      | _ => none
    | _ => none
  | _ => none
/-- the operation that writes: its value, the block behind it -/
def evWr (X : EV) (e : Ent) (n : Nat) (g : Operand → D) (op : Op) : Option (D × Ent) := match op with
  | .store _ _ _ => match evS X.tt [e] g op with
    | some (_, e', _) => match okS X.tt [e] g op with
      | true => some (.prim (.tuple #[]), e')
      | false => none
    | none => none
  | _ => match evA X.tt [e] n n g op with
    | some (d, [e'], _) => match okA X.tt [e] g op with
      | true => some (d, e')
      | false => none
    | _ => none
def isIa (ia : Option Nat) (i : Nat) : Bool := match ia with
  | some j => Nat.beq i j
  | none => false
def hview (ia : Option Nat) (accE : Option Ent) (R : Hp) (b : Bool) : Hp := match ia with
  | none => match accE with
    | some e => match b with
      | true => e :: R
      | false => R
    | none => R
  | some _ => R
def evPreW (X : EV) (cp : CallP) (ops : Array Oper) (iw : Nat) (ia : Option Nat) (R : Hp) (clo : List Nat) (n : Nat) : List Nat → Env → Hp → Option Ent → Option Ent → Option (Env × Hp × Ent × Ent)
  | [], env, N, accE, acc => match accE with
    | some e => match acc with
      | some e' => some (env, N, e, e')
      | none => none
    | none => none
  | i :: l, env, N, accE, acc => match ops[i]? with
    | some o => match Nat.beq i iw with
      | true => match acc with
        | some _ => none
        | none => match accE with
          | some e => match wantD ops env o with
            | some true => match evWr X e (n + i) (gOpF env) o.op with
              | some (d, e') => evPreW X cp ops iw ia R clo n l (putE env o.dst d) N accE (some e')
              | none => none
            | _ => none
          | none => none
      | false => match isIa ia i with
        | true => match accE with
          | some _ => none
          | none => match stStep X cp ops R (n + i) env o with
            | some (d, some e) => fzD d fun d => evPreW X cp ops iw ia R clo n l (putE env o.dst d) N (some e) acc
            | _ => none
        | false => match stStep X cp ops (hview ia accE R (memB i clo)) (n + i) env o with
          | some (d, ne) => fzD d fun d => evPreW X cp ops iw ia R clo n l (putE env o.dst d) (putH ne N) accE acc
          | none => none
    | none => none
theorem evPreW_acc {iw : Nat} {ia : Option Nat} {R : Hp} {clo : List Nat} {n : Nat} : ∀ {l : List Nat} {env env' : Env} {N N' : Hp} {accE acc : Option Ent} {e e' : Ent}, evPreW X cp ops iw ia R clo n l env N accE acc = some (env', N', e, e') →
    (∀ a, accE = some a → e = a) ∧ (∀ a, acc = some a → e' = a)
  | [], _, _, _, _, _, _, _, _, h => by
    simp only [evPreW] at h
    split at h <;> first | (cases h; done) | skip
    split at h <;> first | (cases h; done) | skip
    simp only [Option.some.injEq, Prod.mk.injEq] at h
    exact ⟨fun a ha => by cases ha; exact h.2.2.1.symm, fun a ha => by cases ha; exact h.2.2.2.symm⟩
  | i :: l, _, _, _, _, _, _, _, _, h => by
    simp only [evPreW] at h
    split at h <;> first | (cases h; done) | skip
    split at h
    · split at h <;> first | (cases h; done) | skip
      split at h <;> first | (cases h; done) | skip
      split at h <;> first | (cases h; done) | skip
      split at h <;> first | (cases h; done) | skip
      exact ⟨(evPreW_acc h).1, by simp⟩
    · split at h
      · split at h <;> first | (cases h; done) | skip
        split at h <;> first | (cases h; done) | skip
        rw [fzD_eq] at h
        exact ⟨by simp, (evPreW_acc h).2⟩
      · split at h <;> first | (cases h; done) | skip
        rw [fzD_eq] at h
        exact evPreW_acc h
theorem evWr_ok (hX : EVOk C X) {W : WR} {n : Nat} {env : Env} {o : Oper} {d : D} (hw : wantD ops env o = some true) (h : evWr X W.e n (gOpd env) o.op = some (d, W.e')) : SteadyW C F ops W n env o d := by
  unfold evWr at h
  split at h
  · split at h <;> first | (cases h; done) | skip
    rename_i he
    split at h <;> first | (cases h; done) | skip
    rename_i hk
    simp only [Option.some.injEq, Prod.mk.injEq] at h
    obtain ⟨rfl, h2⟩ := h
    rw [h2] at he
    exact SteadyW.store hX.tt hw he (okS_ok he hk)
  · split at h <;> first | (cases h; done) | skip
    rename_i he
    split at h <;> first | (cases h; done) | skip
    rename_i hk
    simp only [Option.some.injEq, Prod.mk.injEq] at h
    obtain ⟨rfl, h2⟩ := h
    rw [h2] at he
    exact SteadyW.app n hX.tt hw he (okA_ok he hk)
theorem isIa_iff {ia : Option Nat} {i : Nat} : isIa ia i = true ↔ ia = some i := by
  cases ia with
  | none => simp [isIa]
  | some j =>
    simp only [isIa, Option.some.injEq]
    exact ⟨fun h => (Nat.eq_of_beq_eq_true h).symm, fun h => by rw [h]; exact Nat.beq_refl _⟩
theorem evPreW_ok (hX : EVOk C X) (hcp : CallPOk C cp) {W : WR} (hwa : W.ia ≠ some W.iw) {clo : List Nat} (hclo : ∀ j ∈ clo, Reach ops W.iw j) {n : Nat} : ∀ {l : List Nat} {env env' : Env} {N N' : Hp} {accE acc : Option Ent},
    evPreW X cp ops W.iw W.ia W.R clo n l env N accE acc = some (env', N', W.e, W.e') → DTrW C F ops W n l env N env' N'
  | [], env, env', N, N', accE, acc, h => by
    simp only [evPreW] at h
    split at h <;> first | (cases h; done) | skip
    split at h <;> first | (cases h; done) | skip
    simp only [Option.some.injEq, Prod.mk.injEq] at h; obtain ⟨rfl, rfl, _⟩ := h
    exact .nil _ _
  | i :: l, env, env', N, N', accE, acc, h => by
    simp only [evPreW, gOpF_eq] at h
    split at h <;> first | (cases h; done) | skip
    rename_i o ho
    split at h
    · rename_i hb
      have hb := Nat.eq_of_beq_eq_true hb
      split at h <;> first | (cases h; done) | skip
      split at h <;> first | (cases h; done) | skip
      rename_i e0
      split at h <;> first | (cases h; done) | skip
      rename_i hw
      split at h <;> first | (cases h; done) | skip
      rename_i d e1 he
      obtain ⟨h1, h2⟩ := evPreW_acc h
      rw [← h1 _ rfl, ← h2 _ rfl] at he
      exact .cons (ne := none) ho (.inr (.inl ⟨hb, by rw [hb]; exact hwa, rfl, evWr_ok hX hw he⟩)) (evPreW_ok hX hcp hwa hclo h)
    · rename_i hb
      have hne : i ≠ W.iw := fun hi => by rw [hi, Nat.beq_refl] at hb; cases hb
      split at h
      · rename_i hi
        have hi := isIa_iff.1 hi
        split at h <;> first | (cases h; done) | skip
        split at h <;> first | (cases h; done) | skip
        rename_i d e0 hs
        rw [fzD_eq] at h
        have h1 := (evPreW_acc h).1 _ rfl
        rw [← h1] at hs
        exact .cons (ne := none) ho (.inr (.inr ⟨hne, hi, rfl, stStep_ok (F := F) hX hcp hs⟩)) (evPreW_ok hX hcp hwa hclo h)
      · rename_i hi
        have hi : W.ia ≠ some i := fun h => by rw [isIa_iff.2 h] at hi; cases hi
        split at h <;> first | (cases h; done) | skip
        rename_i d ne hs
        rw [fzD_eq] at h
        have hacc := (evPreW_acc h).1
        refine .cons ho (.inl ⟨hne, hi, ?_⟩) (evPreW_ok hX hcp hwa hclo h)
        have hst := stStep_ok (F := F) hX hcp hs
        unfold hview at hst
        cases hia : W.ia with
        | none =>
          rw [hia] at hst
          cases accE with
          | none => exact .inr hst
          | some a =>
            have := hacc a rfl
            subst this
            dsimp only at hst
            cases hm : memB i clo with
            | true => rw [hm] at hst; exact .inl ⟨rfl, hclo i (memB_iff.1 hm), hst⟩
            | false => rw [hm] at hst; exact .inr hst
        | some ia => rw [hia] at hst; exact .inr hst

/-- the block that is written: which one, whether it was there, the others -/
def wBlock (s : St) (N1 : Hp) (k : Nat) : Option (Option Nat × Option Ent × Hp) := match Hp.get s.H k with
  | some e => some (none, some e, Hp.del s.H k)
  | none => match Hp.get N1 k with
    | some e => some (some (e.g - s.n), none, s.H)
    | none => none
def iaOk (n : Nat) (pre clo : List Nat) (e : Ent) (iw : Nat) : Option Nat → Bool
  | none => true
  | some ia => Nat.beq e.g (n + ia) && memB ia clo && memB ia pre && !(Nat.beq ia iw)
def evDrawW (X : EV) (cl : CallE) (cp : CallP) (ops : Array Oper) (pre suf : List Nat) (iw : Nat) (s : St) : Option St := match evPre X cp ops s.H s.n (upTo iw pre) s.env [] with
  | some (env1, N1) => match wrKey (gOpF env1) (ops.getD iw default).op with
    | some k => match wBlock s N1 k with
      | some (ia, accE, R) => match memB iw pre with
        | true => match evPreW X cp ops iw ia R (look2 (cloT ops (pre ++ suf) []) iw) s.n pre s.env [] accE none with
          | some (env, N, e, e') => match (Nat.beq e'.g e.g || Nat.beq e'.g (s.n + iw)) && iaOk s.n pre (look2 (cloT ops (pre ++ suf) []) iw) e iw ia with
            | true => fzN (s.n + ops.size) fun n => evOps X cl ops (suf.map fun j => ops.getD j default) ⟨env, N ++ e' :: R, n⟩
            | false => none
          | none => none
        | false => none
      | none => none
    | none => none
  | none => none
def evDraw (X : EV) (cl : CallE) (cp : CallP) (ops : Array Oper) (s : St) : Option St := match ordOf ops with
  | (pre, suf) => match chkD ops pre suf with
    | true => match (match findW ops pre with
        | some iw => evDrawW X cl cp ops pre suf iw s
        | none => none) with
      | some s' => some s'
      | none => match evPre X cp ops s.H s.n pre s.env [] with
        | some (env, N) => fzN (s.n + ops.size) fun n => evOps X cl ops (suf.map fun j => ops.getD j default) ⟨env, N ++ s.H, n⟩
        | none => none
    | false => none

/-! ### code -/
noncomputable def dd (e : Env) : List Nat → Env := List.rec (motive := fun _ => List Nat → Env) (fun _ => []) (fun p _ ih seen => Bool.rec (motive := fun _ => Env) (p :: ih (p.1 :: seen)) (ih seen) (memF p.1 seen)) e
theorem dd_cons (k : Nat) (d : D) (r : Env) (seen : List Nat) : dd ((k, d) :: r) seen = match memB k seen with
    | true => dd r seen
    | false => (k, d) :: dd r (k :: seen) := by
  show Bool.rec (motive := fun _ => Env) _ _ (memF k seen) = _
  rw [memF_eq]
  cases memB k seen <;> rfl
theorem dd_get : ∀ (e : Env) (seen : List Nat) (t : Nat), t ∉ seen → (dd e seen).get t = e.get t
  | [], _, _, _ => rfl
  | (k, d) :: r, seen, t, h => by
    rw [dd_cons]
    cases hb : memB k seen with
    | true =>
      dsimp only
      have hk : k ≠ t := fun hk => h (hk ▸ memB_iff.1 hb)
      rw [dd_get r seen t h, Env.get_cons, if_neg hk]
    | false =>
      dsimp only
      rw [Env.get_cons, Env.get_cons]
      by_cases hk : k = t
      · rw [if_pos hk, if_pos hk]
      · rw [if_neg hk, if_neg hk, dd_get r (k :: seen) t (by simp; exact ⟨fun h => hk h.symm, h⟩)]

/-! blocks that nothing shows any more are forgotten -/
def refL (f : D → List Nat → List Nat) : List D → List Nat → List Nat
  | [], acc => acc
  | d :: l, acc => refL f l (f d acc)
def refD : Nat → D → List Nat → List Nat
  | 0, _, acc => acc
  | n + 1, d, acc => match d with
    | .osl k _ _ _ _ => k :: acc
    | .optr k _ _ _ _ => k :: acc
    | .agg l => refL (refD n) l acc
    | .tup l => refL (refD n) l acc
    | .clo _ a b => refL (refD n) a (refL (refD n) b acc)
    | .gd _ d => refD n d acc
    | .ifc _ d => refD n d acc
    | _ => acc
def refEnv : Env → List Nat → List Nat
  | [], acc => acc
  | (_, d) :: r, acc => refEnv r (refD 5 d acc)
def refHp : Hp → List Nat → List Nat
  | [], acc => acc
  | e :: r, acc => refHp r (refL (refD 5) e.es acc)
def keepH (p : Ent → Bool) : Hp → Hp
  | [] => []
  | e :: r => match p e with
    | true => e :: keepH p r
    | false => keepH p r
theorem keepH_sub (p : Ent → Bool) : ∀ H : Hp, (keepH p H).Sublist H
  | [] => .slnil
  | e :: r => by
    simp only [keepH]
    split
    · exact (keepH_sub p r).cons_cons e
    · exact (keepH_sub p r).cons e
def fzNs {α : Type} : List Nat → (List Nat → α) → α
  | [], k => k []
  | n :: l, k => fzN n fun n => fzNs l fun l => k (n :: l)
theorem fzNs_eq {α : Type} : ∀ (l : List Nat) (k : List Nat → α), fzNs l k = k l
  | [], _ => rfl
  | n :: l, k => by simp only [fzNs, fzN_eq, fzNs_eq l]
def fzHp {α : Type} : Hp → (Hp → α) → α
  | [], k => k []
  | e :: l, k => fzHp l fun l => k (e :: l)
theorem fzHp_eq {α : Type} : ∀ (l : Hp) (k : Hp → α), fzHp l k = k l
  | [], _ => rfl
  | e :: l, k => by simp only [fzHp, fzHp_eq l]
def gcK {α : Type} (n : Nat) (env : Env) (H : Hp) (k : Hp → α) : α := fzNs (refHp H (refEnv env [])) fun ks => fzHp (keepH (fun e => match Nat.blt e.g n with
    | true => true
    | false => memB e.k ks) H) k
theorem gcK_eq {α : Type} (n : Nat) (env : Env) (H : Hp) (k : Hp → α) : ∃ H' : Hp, H'.Sublist H ∧ gcK n env H k = k H' := ⟨_, keepH_sub _ _, by unfold gcK; rw [fzNs_eq, fzHp_eq]⟩
/-- behind a call: what is older, and what is shown -/
def gcR {α : Type} (n : Nat) (d : D) (H : Hp) (k : Hp → α) : α :=
  fzNs (refHp (keepH (fun e => Nat.blt e.g n) H) (refD 5 d [])) fun ks => fzNs (refHp (keepH (fun e => memB e.k ks) H) ks) fun ks => fzHp (keepH (fun e => match Nat.blt e.g n with
    | true => true
    | false => memB e.k ks) H) k
theorem gcR_eq {α : Type} (n : Nat) (d : D) (H : Hp) (k : Hp → α) : ∃ H' : Hp, H'.Sublist H ∧ gcR n d H k = k H' := ⟨_, keepH_sub _ _, by unfold gcR; rw [fzNs_eq, fzNs_eq, fzHp_eq]⟩
def loopE (f : St → Option (Exit × St)) (n0 : Nat) : Nat → St → Option (Exit × St)
  | 0, _ => none
  | k + 1, s => gcK n0 s.env s.H fun H => match f ⟨dd s.env [], H, s.n⟩ with
    | some (.normal, s') => loopE f n0 k s'
    | r => r
def evCode (X : EV) (cl : CallE) (cp : CallP) (lf : Nat) : Code → St → Option (Exit × St)
  | .skip, s => some (.normal, s)
  | .region _ ops draw, s => match draw with
    | true => match evDraw X cl cp ops s with
      | some s' => some (.normal, s')
      | none => none
    | false => match evOps X cl ops ops.toList s with
      | some s' => some (.normal, s')
      | none => none
  | .seq a b, s => match evCode X cl cp lf a s with
    | some (.normal, s') => evCode X cl cp lf b s'
    | r => r
  | .cond c a b, s => match gOpF s.env c with
    | .prim (.bool true) => evCode X cl cp lf a s
    | .prim (.bool false) => evCode X cl cp lf b s
    | _ => none
  | .block i b, s => match evCode X cl cp lf b s with
    | some (.exit j, s') => match Nat.beq j i with
      | true => some (.normal, s')
      | false => some (.exit j, s')
    | r => r
  | .loop b, s => loopE (evCode X cl cp lf b) (lf / 1048576) (lf % 1048576) s
  | .exit i, s => some (.exit i, s)
  | .ret, s => some (.ret, s)
  | _, _ => none

def isS (e : Exit) (s : St) : Exit → St → Prop := fun e1 s1 => e1 = e ∧ s1 = s

theorem Ok.envEq {c : Code} {s s2 : St} {Q : Exit → St → Prop} (he : ∀ t, s2.env.get t = s.env.get t) (hH : s2.H = s.H) (hn : s2.n = s.n) (h : Ok C F c s2 Q) : Ok C F c s Q :=
  fun hd ρ a w hs => h hd ρ a w ⟨by rw [hH]; exact hs.mem, by rw [hn]; exact hs.fresh, by rw [hH, hn]; exact hs.gen, fun t => by rw [he, hH]; exact hs.env t, hs.nt, hs.dfr⟩

theorem Ok.subH {c : Code} {env : Env} {H H' : Hp} {n : Nat} {Q : Exit → St → Prop} (hs : H'.Sublist H) (h : Ok C F c ⟨env, H', n⟩ Q) : Ok C F c ⟨env, H, n⟩ Q :=
  fun hd ρ a w hS => by
    obtain ⟨m, hO⟩ := hS.mem.sub hs
    exact h hd ρ a w ⟨m, hS.fresh, fun e he => hS.gen e (hs.subset he), fun t => (hS.env t).anti hO, hS.nt, hS.dfr⟩
theorem ICallH.subH {f : Nat} {ds : List D} {H H1 H2 : Hp} {n n' : Nat} {d : D} (hs : H2.Sublist H1) (h : ICallH C f ds H n (isR d H1 n')) : ICallH C f ds H n (isR d H2 n') := by
  refine ⟨h.1, fun F ρ w vs m hfr hg hvs hr => (h.2 F ρ w vs m hfr hg hvs hr).mono ?_⟩
  rintro e w' ⟨v, d', H', n2, ρ', rfl, ⟨rfl, rfl, rfl⟩, m', x, fr, gn, rep⟩
  obtain ⟨m2, hO⟩ := m'.sub hs
  exact ⟨v, _, _, _, ρ', rfl, ⟨rfl, rfl, rfl⟩, m2, ⟨x.size, x.link, fun b hb hb' => ⟨fun h => (x.pure b hb hb').1 (hO b h), (x.pure b hb hb').2⟩, x.shape⟩, fr, fun e he => gn e (hs.subset he), rep.anti hO⟩

theorem evDraw_ok (hX : EVOk C X) (hcl : CallEOk C cl) (hcp : CallPOk C cp) {i : Nat} {s s' : St} (h : evDraw X cl cp ops s = some s') : Ok C F (.region i ops true) s (isS .normal s') := by
  unfold evDraw at h
  split at h
  rename_i pre suf ho
  split at h <;> first | (cases h; done) | skip
  rename_i hc
  split at h
  · rename_i s1 hh
    cases h
    revert hh
    intro h
    split at h <;> first | (cases h; done) | skip
    rename_i iw _
    unfold evDrawW at h
    simp only [gOpF_eq] at h
    split at h <;> first | (cases h; done) | skip
    split at h <;> first | (cases h; done) | skip
    split at h <;> first | (cases h; done) | skip
    rename_i k _ ia accE R hwb
    split at h <;> first | (cases h; done) | skip
    rename_i hm
    split at h <;> first | (cases h; done) | skip
    rename_i env N e e' hp
    split at h <;> first | (cases h; done) | skip
    rename_i hg
    rw [fzN_eq] at h
    simp only [Bool.and_eq_true, Bool.or_eq_true] at hg
    obtain ⟨hg1, hg2⟩ := hg
    have hreach : ∀ j ∈ look2 (cloT ops (pre ++ suf) []) iw, Reach ops iw j := fun j hj => look2_reach (cloT_reach _ _ (by simp)) _ _ hj
    have hia : ∀ j, ia = some j → e.g = s.n + j ∧ Reach ops iw j ∧ j ∈ pre ∧ j ≠ iw := fun j hj => by
      subst hj
      simp only [iaOk, Bool.and_eq_true, Bool.not_eq_true'] at hg2
      exact ⟨Nat.eq_of_beq_eq_true hg2.1.1.1, hreach j (memB_iff.1 hg2.1.1.2), memB_iff.1 hg2.1.2, fun h => by rw [h, Nat.beq_refl] at hg2; cases hg2.2⟩
    have hacc := (evPreW_acc hp).1
    have hst : s.H.Perm (WR.start ⟨iw, ia, e, e', R⟩) := by
      unfold wBlock at hwb
      split at hwb
      · rename_i e0 he
        cases hwb
        obtain ⟨H1, H2, q1, _, q3⟩ := Hp.set_split e0 he
        rw [q3, hacc e0 rfl]
        unfold WR.start
        rw [q1]; exact List.perm_middle
      · split at hwb <;> first | (cases hwb; done) | skip
        cases hwb
        exact List.Perm.refl _
    exact Ok.drawW (W := ⟨iw, ia, e, e', R⟩) hX.mixed hc hst (fun j hj => ⟨(hia j hj).1, (hia j hj).2.1, (hia j hj).2.2.1⟩) (memB_iff.1 hm) (hg1.imp Nat.eq_of_beq_eq_true Nat.eq_of_beq_eq_true)
      (evPreW_ok (W := ⟨iw, ia, e, e', R⟩) hX hcp (fun h => (hia iw h).2.2.2 rfl) hreach hp) (evOps_ok hX hcl h ⟨rfl, rfl⟩)
  · split at h <;> first | (cases h; done) | skip
    rename_i env N hp
    rw [fzN_eq] at h
    exact Ok.draw hX.mixed hc (evPre_ok hX hcp hp) (evOps_ok hX hcl h ⟨rfl, rfl⟩)

theorem evCode_ok (hX : EVOk C X) (hcl : CallEOk C cl) (hcp : CallPOk C cp) {lf : Nat} : ∀ {c : Code} {s s' : St} {e : Exit}, evCode X cl cp lf c s = some (e, s') → Ok C F c s (isS e s')
  | .skip, s, s', e, h => by simp only [evCode, Option.some.injEq, Prod.mk.injEq] at h; obtain ⟨rfl, rfl⟩ := h; exact Ok.skip ⟨rfl, rfl⟩
  | .region i ops draw, s, s', e, h => by
    simp only [evCode] at h
    split at h
    · split at h <;> first | (cases h; done) | skip
      rename_i hd
      cases h
      exact evDraw_ok hX hcl hcp hd
    · split at h <;> first | (cases h; done) | skip
      rename_i hd
      cases h
      exact Ok.region (evOps_ok hX hcl hd ⟨rfl, rfl⟩)
  | .seq a b, s, s', e, h => by
    simp only [evCode] at h
    refine Ok.seq ?_
    split at h
    · rename_i s1 h1
      refine (evCode_ok hX hcl hcp h1).mono ?_
      rintro _ _ ⟨rfl, rfl⟩
      exact evCode_ok hX hcl hcp h
    · rename_i hne
      refine (evCode_ok hX hcl hcp h).mono ?_
      rintro e1 s1 ⟨h1, h2⟩
      rw [h1, h2]
      cases e with
      | normal => exact absurd h (hne _)
      | _ => exact ⟨rfl, rfl⟩
  | .cond c a b, s, s', e, h => by
    simp only [evCode, gOpF_eq] at h
    have hr : ∀ x, gOpd s.env c = .prim (.bool x) → ∀ ρ a w, Sat C F ρ s a w → a.eval c = .bool x := fun x hx ρ a w hs => by
      have := gOpd_rep hs.env c
      rw [hx] at this
      generalize a.eval c = v at this
      cases this; rfl
    split at h
    · rename_i hx
      exact Ok.cond true (hr _ hx) (fun _ => evCode_ok hX hcl hcp h) (fun h => by cases h)
    · rename_i hx
      exact Ok.cond false (hr _ hx) (fun h => by cases h) (fun _ => evCode_ok hX hcl hcp h)
    · cases h
  | .block i b, s, s', e, h => by
    simp only [evCode] at h
    refine Ok.block ?_
    split at h
    · rename_i j s1 h1
      refine (evCode_ok hX hcl hcp h1).mono ?_
      rintro _ _ ⟨rfl, rfl⟩
      dsimp only
      split at h
      · rename_i hb
        cases h
        rw [if_pos (Nat.eq_of_beq_eq_true hb)]; exact ⟨rfl, rfl⟩
      · rename_i hb
        cases h
        rw [if_neg (fun hj => by rw [hj, Nat.beq_refl] at hb; cases hb)]; exact ⟨rfl, rfl⟩
    · rename_i hne
      refine (evCode_ok hX hcl hcp h).mono ?_
      rintro e1 s1 ⟨h1, h2⟩
      rw [h1, h2]
      cases e with
      | exit j => exact absurd h (hne _ _)
      | _ => exact ⟨rfl, rfl⟩
  | .loop b, s, s', e, h => by
    simp only [evCode] at h
    refine Ok.loop (fun m s => loopE (evCode X cl cp lf b) (lf / 1048576) m s = some (e, s')) h fun m s1 hI => ?_
    cases m with
    | zero => cases hI
    | succ m =>
      simp only [loopE] at hI
      obtain ⟨H2, hsub, hgc⟩ := gcK_eq (α := Option (Exit × St)) (lf / 1048576) s1.env s1.H (fun H => match evCode X cl cp lf b ⟨dd s1.env [], H, s1.n⟩ with
        | some (.normal, s') => loopE (evCode X cl cp lf b) (lf / 1048576) m s'
        | r => r)
      rw [hgc] at hI
      refine Ok.envEq (s2 := ⟨dd s1.env [], s1.H, s1.n⟩) (fun t => dd_get _ _ _ (by simp)) rfl rfl ?_
      refine Ok.subH hsub ?_
      split at hI
      · rename_i s2 h2
        refine (evCode_ok hX hcl hcp h2).mono ?_
        rintro _ _ ⟨rfl, rfl⟩
        exact ⟨m, Nat.lt_succ_self m, hI⟩
      · rename_i hne
        refine (evCode_ok hX hcl hcp hI).mono ?_
        rintro e1 s1 ⟨h1, h2⟩
        rw [h1, h2]
        cases e with
        | normal => exact absurd hI (hne _)
        | _ => exact ⟨rfl, rfl⟩
  | .exit i, s, s', e, h => by simp only [evCode, Option.some.injEq, Prod.mk.injEq] at h; obtain ⟨rfl, rfl⟩ := h; exact Ok.exit ⟨rfl, rfl⟩
  | .ret, s, s', e, h => by simp only [evCode, Option.some.injEq, Prod.mk.injEq] at h; obtain ⟨rfl, rfl⟩ := h; exact Ok.ret ⟨rfl, rfl⟩
  | .rangeFunc .., _, _, _, h => by simp [evCode] at h
  | .scope _, _, _, _, h => by simp [evCode] at h
  | .label _, _, _, _, h => by simp [evCode] at h
  | .goto _, _, _, _, h => by simp [evCode] at h
  | .refuse _, _, _, _, h => by simp [evCode] at h

/-! ### functions -/
def okR (tt : Nat → Option TInfo) (s : St) : List ResultVar → Bool
  | [] => true
  | .tmp _ :: r => okR tt s r
  | .cell a t :: r => okL tt s.H (fun _ => s.env.get a) (.load t (.tmp 0)) && okR tt s r
theorem okR_ok {tt : Nat → Option TInfo} {s : St} : ∀ {rs : List ResultVar} {l : List D} {p : Prop}, resAll tt s rs = some (l, p) → okR tt s rs = true → p
  | [], _, _, h, _ => by simp only [resAll, Option.some.injEq, Prod.mk.injEq] at h; obtain ⟨_, rfl⟩ := h; trivial
  | r :: rs, l, p, h, hk => by
    simp only [resAll] at h
    split at h <;> first | (cases h; done) | skip
    rename_i d q h1
    split at h <;> first | (cases h; done) | skip
    rename_i l' q' h2
    cases h
    cases r with
    | tmp t =>
      simp only [resOne, Option.some.injEq, Prod.mk.injEq] at h1; obtain ⟨_, rfl⟩ := h1
      exact ⟨trivial, okR_ok h2 hk⟩
    | cell a t =>
      simp only [okR, Bool.and_eq_true] at hk
      simp only [resOne] at h1
      split at h1 <;> first | (cases h1; done) | skip
      rename_i he
      cases h1
      exact ⟨okL_ok he hk.1, okR_ok h2 hk.2⟩
def evRes (tt : Nat → Option TInfo) (s : St) (rs : List ResultVar) : Option (D × Hp × Nat) := match resD tt s rs with
  | some (d, _) => iff' (okR tt s rs) (d, s.H, s.n)
  | none => none
theorem evRes_ok {tt : Nat → Option TInfo} {s : St} {rs : List ResultVar} {d : D} {H : Hp} {n : Nat} (h : evRes tt s rs = some (d, H, n)) : ∃ p, resD tt s rs = some (d, p) ∧ p ∧ H = s.H ∧ n = s.n := by
  unfold evRes at h
  split at h <;> first | (cases h; done) | skip
  rename_i d' p hr
  obtain ⟨hb, he⟩ := iff'_some h
  cases he
  refine ⟨p, hr, ?_, rfl, rfl⟩
  unfold resD at hr
  split at hr <;> first | (cases hr; done) | skip
  · rename_i ha; cases hr; exact okR_ok ha hb
  · rename_i ha; cases hr; exact okR_ok ha hb

def runFn (X : EV) (cl : CallE) (cp : CallP) (lf f : Nat) (ds : List D) (H : Hp) (n : Nat) : Option (D × Hp × Nat) := match X.ft f with
  | some i => match Nat.ble ds.length i.nt with
    | true => match evCode X cl cp (lf + n * 1048576) i.code ⟨argEnv 0 ds, H, n⟩ with
      | some (.normal, s) => evRes X.tt s i.res
      | some (.ret, s) => evRes X.tt s i.res
      | _ => none
    | false => none
  | none => none
def pureFn (X : EV) (cl : CallE) (cp : CallP) (lf f : Nat) (ds : List D) : Option D := match X.orc f ds with
  | some d => some d
  | none => match X.np f with
    | true => none
    | false => match allB (pureB 20) ds with
      | true => match runFn X cl cp lf f ds [] 0 with
        | some (d, H, _) => fzP 20 H d
        | none => none
      | false => none
def evF (X : EV) (lf : Nat) : Nat → CallP × CallE
  | 0 => (fun _ _ => none, fun _ _ _ _ => none)
  | fu + 1 => (pureFn X (evF X lf fu).2 (evF X lf fu).1 lf, fun f ds H n => match pureFn X (evF X lf fu).2 (evF X lf fu).1 lf f ds with
    | some d => some (d, H, n + 1)
    | none => match runFn X (evF X lf fu).2 (evF X lf fu).1 lf f ds H n with
      | some (d, H', n') => gcR n d H' fun H2 => some (d, H2, n')
      | none => none)

theorem runFn_ok (hX : EVOk C X) {lf f : Nat} {ds : List D} {H H' : Hp} {n n' : Nat} {d : D} (h : runFn X cl cp lf f ds H n = some (d, H', n')) :
    ∃ fn i e s p, X.ft f = some i ∧ C.P.funcs[f]? = some fn ∧ fn.body = some i.code ∧ (fn.name == "runtime.NumGoroutine") = false ∧ codeDst fn.ntmps i.code = true ∧ Nat.ble ds.length fn.ntmps = true ∧
      (e = .normal ∨ e = .ret) ∧ evCode X cl cp (lf + n * 1048576) i.code ⟨argEnv 0 ds, H, n⟩ = some (e, s) ∧ resD X.tt s fn.results.toList = some (d, p) ∧ p ∧ H' = s.H ∧ n' = s.n := by
  unfold runFn at h
  split at h <;> first | (cases h; done) | skip
  rename_i i hi
  obtain ⟨fn, a1, a2, a3, a4, a5, a6⟩ := hX.ft f i hi
  split at h <;> first | (cases h; done) | skip
  rename_i hb
  split at h <;> first | (cases h; done) | skip
  · rename_i s hc
    obtain ⟨p, b1, b2, b3, b4⟩ := evRes_ok h
    exact ⟨fn, i, .normal, s, p, hi, a1, a2, a3, a4, by rw [a5]; exact hb, .inl rfl, hc, by rw [a6]; exact b1, b2, b3, b4⟩
  · rename_i s hc
    obtain ⟨p, b1, b2, b3, b4⟩ := evRes_ok h
    exact ⟨fn, i, .ret, s, p, hi, a1, a2, a3, a4, by rw [a5]; exact hb, .inr rfl, hc, by rw [a6]; exact b1, b2, b3, b4⟩

theorem pureFn_ok (hX : EVOk C X) (hcl : CallEOk C cl) (hcp : CallPOk C cp) {lf f : Nat} {ds : List D} {d : D} (h : pureFn X cl cp lf f ds = some d) : ICalls C f ds d ∧ ArePure ds := by
  unfold pureFn at h
  split at h
  · rename_i ho; cases h; exact hX.orc _ _ _ ho
  · split at h <;> first | (cases h; done) | skip
    split at h <;> first | (cases h; done) | skip
    rename_i hp
    split at h <;> first | (cases h; done) | skip
    rename_i d0 H0 n0 hr
    obtain ⟨fn, i, e, s, p, _, a1, a2, a3, a4, a5, a6, a7, a8, a9, rfl, rfl⟩ := runFn_ok hX hr
    obtain ⟨z1, z2⟩ := fzP_ok h
    refine ⟨ICallP.intro hX.tt a1 a2 a3 a4 a5 fun F => (evCode_ok hX hcl hcp a7).mono ?_, ⟨fun x hx => pureB_ok (allB_ok hp x hx)⟩⟩
    rintro _ _ ⟨rfl, rfl⟩
    exact ⟨a6, d0, p, a8, a9, d, z1, z2, rfl⟩

theorem ICallH.ofPure {f : Nat} {ds : List D} {d : D} {H : Hp} {n : Nat} (h : ICalls C f ds d) (hp : ArePure ds) : ICallH C f ds H n (isR d H (n + 1)) := by
  refine ⟨h.1, fun F ρ w vs m hfr hg hvs hr => (h.2 (Own F.X ρ H) w vs m.g (Nat.le_trans m.gn m.size) (fun b hb => m.own_lt hb) hvs fun i x hx => hp.out x (List.mem_of_getElem? hx) _ _ _ _ _ (hr i x hx)).mono ?_⟩
  rintro e w' ⟨v, d', rfl, hb, rfl, hrep⟩
  have x : Ext ρ (Own F.X ρ H) w ρ (Own F.X ρ H) w' := ⟨hb.size, fun _ _ _ h => h, fun b hb' hO => ⟨hO, hb.block b hb'⟩, fun b cs T fz hh => ⟨cs, by
    rw [hb.block b (Array.getElem?_eq_some_iff.1 hh).1]; exact hh, rfl⟩⟩
  exact ⟨v, _, _, _, ρ, rfl, ⟨rfl, rfl, rfl⟩, m.same x hb.os hb.tape hb.output hb.block, x, fun k g hg => hfr k g (by omega), fun e he => Nat.lt_succ_of_lt (hg e he), hrep.nol⟩

theorem evF_ok (hX : EVOk C X) (lf : Nat) : ∀ fu, CallPOk C (evF X lf fu).1 ∧ CallEOk C (evF X lf fu).2
  | 0 => ⟨fun _ _ _ h => by simp [evF] at h, fun _ _ _ _ _ _ _ h => by simp [evF] at h⟩
  | fu + 1 => by
    obtain ⟨hcp, hcl⟩ := evF_ok hX lf fu
    refine ⟨fun f ds d h => pureFn_ok hX hcl hcp h, fun f ds H n d H' n' h => ?_⟩
    simp only [evF] at h
    split at h
    · rename_i d0 hp
      cases h
      obtain ⟨h1, h2⟩ := pureFn_ok hX hcl hcp hp
      exact .ofPure h1 h2
    · split at h <;> first | (cases h; done) | skip
      rename_i d1 H1 n1 hrun
      obtain ⟨H2, hsub, hgc⟩ := gcR_eq (α := Option (D × Hp × Nat)) n d1 H1 (fun H2 => some (d1, H2, n1))
      rw [hgc] at h
      cases h
      refine ICallH.subH hsub ?_
      obtain ⟨fn, i, e, s, p, _, a1, a2, a3, a4, a5, a6, a7, a8, a9, rfl, rfl⟩ := runFn_ok hX hrun
      refine ICallH.intro hX.tt a1 a2 a3 a4 a5 fun F _ => (evCode_ok hX hcl hcp a7).mono ?_
      rintro _ _ ⟨rfl, rfl⟩
      exact ⟨a6, d, p, a8, a9, rfl, rfl, rfl⟩

/-- **a closed call, computed** -/
theorem ICalls.ev (hX : EVOk C X) (lf fu : Nat) {f : Nat} {ds : List D} {d : D} (h : (evF X lf fu).1 f ds = some d) : ICalls C f ds d := ((evF_ok hX lf fu).1 f ds d h).1
end
end
end Go.Ide

/- The ideal layer, part 22: search trees for the evaluator's tables. -/
namespace Go.Ide
inductive Bt (α : Type) where
  | nil
  | node (k : Nat) (v : α) (l r : Bt α)
def Bt.get {α : Type} : Bt α → Nat → Option α
  | .nil, _ => none
  | .node k v l r, t => match Nat.beq t k with
    | true => some v
    | false => match Nat.ble t k with
      | true => l.get t
      | false => r.get t
def Bt.toL {α : Type} : Bt α → List (Nat × α)
  | .nil => []
  | .node k v l r => (k, v) :: (l.toL ++ r.toL)
theorem Bt.get_mem {α : Type} : ∀ {b : Bt α} {t : Nat} {v : α}, b.get t = some v → (t, v) ∈ b.toL
  | .nil, _, _, h => by cases h
  | .node k v l r, t, u, h => by
    simp only [Bt.get] at h
    split at h
    · rename_i hb; cases h; rw [Nat.eq_of_beq_eq_true hb]; exact List.mem_cons_self ..
    · split at h
      · exact List.mem_cons_of_mem _ (List.mem_append_left _ (Bt.get_mem h))
      · exact List.mem_cons_of_mem _ (List.mem_append_right _ (Bt.get_mem h))
theorem Bt.tab {P : Program} {b : Bt TInfo} (h : b.toL.map (fun p => tinfo P p.1) = b.toL.map (fun p => some p.2)) : Tab P b.get := fun t i hi => by
  have hm := Bt.get_mem hi
  obtain ⟨j, hj, he⟩ := List.getElem_of_mem hm
  have := congrArg (fun l => l[j]?) h
  simp only [List.getElem?_map, List.getElem?_eq_getElem hj, he, Option.map_some, Option.some.injEq] at this
  exact this
theorem Bt.tabX {P : Program} {b : Bt XI} (h : b.toL.map (fun p => xinfo P p.1) = b.toL.map (fun p => some p.2)) : TabX P b.get := fun t i hi => by
  have hm := Bt.get_mem hi
  obtain ⟨j, hj, he⟩ := List.getElem_of_mem hm
  have := congrArg (fun l => l[j]?) h
  simp only [List.getElem?_map, List.getElem?_eq_getElem hj, he, Option.map_some, Option.some.injEq] at this
  exact this
def FOk (P : Program) (f : Nat) (i : FI) : Prop := ∃ fn, P.funcs[f]? = some fn ∧ fn.body = some i.code ∧ (fn.name == "runtime.NumGoroutine") = false ∧ codeDst fn.ntmps i.code = true ∧ fn.ntmps = i.nt ∧ fn.results.toList = i.res
def FOks (P : Program) : Bt FI → Prop
  | .nil => True
  | .node k v l r => FOk P k v ∧ FOks P l ∧ FOks P r
theorem Bt.ftab {P : Program} : ∀ {b : Bt FI}, FOks P b → ∀ f i, b.get f = some i → FOk P f i
  | .nil, _, _, _, h => by cases h
  | .node k v l r, h, f, i, hi => by
    simp only [Bt.get] at hi
    split at hi
    · rename_i hb; cases hi; rw [Nat.eq_of_beq_eq_true hb]; exact h.1
    · split at hi
      · exact Bt.ftab h.2.1 f i hi
      · exact Bt.ftab h.2.2 f i hi
/-- a function of the program, as the evaluator wants it -/
def fiOf (f : Func) : FI := ⟨f.ntmps, f.results.toList, f.body.getD .skip⟩

/-- an operation that only computes, computed -/
def evPb (tt : Nat → Option TInfo) (g : Operand → D) (op : Op) : Option D := match evP tt g op with
  | some (d, _) => match okP tt g op with
    | true => some d
    | false => none
  | none => none
theorem evPb_ok {tt : Nat → Option TInfo} {g : Operand → D} {op : Op} {d : D} (h : evPb tt g op = some d) : ∃ p, evP tt g op = some (d, p) ∧ p := by
  unfold evPb at h
  split at h <;> first | (cases h; done) | skip
  rename_i hp
  split at h <;> first | (cases h; done) | skip
  rename_i hk
  cases h
  exact ⟨_, hp, okP_ok hp hk⟩
section
variable {C : Ctx} {F : Fra} {s : St} {ops : Array Oper} {o : Oper} {os : List Oper} {K : St → Prop}
theorem OkM.pB {tt : Nat → Option TInfo} (htt : Tab C.P tt) {m t : Nat} {ks vs : List D} (d : D) (hw : wantD ops s.env o = some true) (he : evPb tt (gOpd s.env) o.op = some d) (hflat : Flat d) (hd : o.dst = some t) (hne : t ≠ m)
    (h : OkM C F ops os m ks vs ⟨putE s.env (some t) d, s.H, s.n + 1⟩ K) : OkM C F ops (o :: os) m ks vs s K := by
  obtain ⟨p, h1, h2⟩ := evPb_ok he
  exact OkM.p htt hw h1 h2 hflat hd hne h
theorem OkL.pB {tt : Nat → Option TInfo} (htt : Tab C.P tt) (d : D) (hw : wantD ops s.env o = some true) (he : evPb tt (gOpd s.env) o.op = some d)
    (h : OkL C F ops os ⟨putE s.env o.dst d, s.H, s.n + 1⟩ K) : OkL C F ops (o :: os) s K := by
  obtain ⟨p, h1, h2⟩ := evPb_ok he
  exact OkL.p htt hw h1 h2 h
end
end Go.Ide

/- The ideal layer, part 23a: regions that draw their order, in a round's frame or in none. (The two great theorems: turned by a program out of part M.) -/
namespace Go.Ide
open Go.RowKit

/-- no fence; in a round of this loop, or in none -/
def fw (rd : Option Nat) : Fence := { Fence.wide with round := rd }
theorem fw_none : fw none = Fence.wide := rfl
theorem calls_fw {rd : Option Nat} {n : Nat} {P : Program} {f : FuncId} {args : Array Value} {w : World} {R : Ending → World → Prop} : CallsIn (fw rd) n P f args w R ↔ Calls P f args w R :=
  (show CallsIn (fw rd) n P f args w R ↔ CallsIn Fence.wide n P f args w R from Iff.rfl).trans callsIn_wide
theorem fw_depth {rd : Option Nat} {n : Nat} : (fw rd).depth.isSome = true → 1 ≤ n := fun h => by cases h

theorem not_defer {P : Program} {ρ : Operand → Value} {o : Oper} {w w' : World} {x : Next} (h : (execOp ρ o).run P w = .ok x w') (hx : ∀ d, x ≠ .defer d) : ∀ c, o.op ≠ .defer c := fun c hc => by
  unfold execOp at h
  simp only [hc] at h
  rw [run_bind] at h
  split at h
  · cases h; exact hx _ rfl
  · cases h
section
variable {C : Ctx} {F : Fra} {ops : Array Oper} {rd : Option Nat} {Q : Exit → Act → World → Prop}
theorem wpIn_value {P : Program} {o : Oper} {a : Act} {w w' : World} {v : Value} {K : Act → World → Prop} (h : (execOp a.eval o).run P w = .ok (.value v) w') (hk : K (a.put o.dst v) w') : o.wpIn (fw rd) 0 P a w K Q := by
  refine ⟨fun _ _ => trivial, ?_⟩
  rw [Oper.semAt_eq _ _ _ (not_defer h (by simp)), h]
  exact hk
theorem wpIn_skipv {P : Program} {o : Oper} {a : Act} {w w' : World} {K : Act → World → Prop} (h : (execOp a.eval o).run P w = .ok .skip w') (hk : K (a.put o.dst undef) w') : o.wpIn (fw rd) 0 P a w K Q := by
  refine ⟨fun _ _ => trivial, ?_⟩
  rw [Oper.semAt_eq _ _ _ (not_defer h (by simp)), h]
  exact hk
theorem wpIn_enter {P : Program} {o : Oper} {a : Act} {w w' : World} {f : Nat} {vs : Array Value} {K : Act → World → Prop} (h : (execOp a.eval o).run P w = .ok (.enter f vs) w')
    (hc : Calls P f vs w' fun e w'' => ∃ v, e = .returned v ∧ K (a.put o.dst v) w'') : o.wpIn (fw rd) 0 P a w K Q := by
  refine ⟨fun _ _ => trivial, ?_⟩
  rw [Oper.semAt_eq _ _ _ (not_defer h (by simp)), h]
  refine ⟨fw_depth, calls_fw.2 (hc.mono ?_)⟩
  rintro e w'' ⟨v, rfl, hk⟩
  exact hk
theorem wpIn_round {P : Program} {o : Oper} {a : Act} {w w' : World} {l f : Nat} {tmps : Array Value} {as bd : Code} {K : Act → World → Prop} (h : (execOp a.eval o).run P w = .ok (.round l f tmps as bd) w')
    (hc : RoundIn (fw rd) 0 P l f tmps as bd w' fun e w'' => ∃ v, e = .returned v ∧ K (a.put o.dst v) w'') : o.wpIn (fw rd) 0 P a w K Q := by
  refine ⟨fun _ _ => trivial, ?_⟩
  rw [Oper.semAt_eq _ _ _ (not_defer h (by simp)), h]
  refine ⟨fw_depth, hc.mono ?_⟩
  rintro e w'' ⟨v, rfl, hk⟩
  exact hk

/-- operations walked without a fence are walked in any frame -/
theorem wpOps_in {R : Exit → Act → World → Prop} {l2 : List Nat} (hR : ∀ e a w, R e a w → e = .normal ∧ wpOpsIn (fw rd) 0 C.P ops Q l2 a w) (hnd : ∀ (i : Nat) (o : Oper), ops[i]? = some o → ∀ c, o.op ≠ .defer c) :
    ∀ (l : List Nat) (a : Act) (w : World), wpOps C.P ops R l a w → wpOpsIn (fw rd) 0 C.P ops Q (l ++ l2) a w
  | [], a, w, h => (hR _ _ _ h).2
  | i :: l, a, w, h => by
    have hlet : ¬ LetsOut R := fun ⟨a, w, h⟩ => by have := (hR _ _ _ h).1; cases this
    simp only [wpOps] at h
    simp only [List.cons_append, wpOpsIn]
    cases ho : ops[i]? with
    | none => simp only [ho] at h; exact wpOps_in hR hnd l a w h
    | some o =>
      simp only [ho] at h
      dsimp only
      split
      · rename_i hw
        rw [if_pos hw] at h
        rcases h with h | ⟨_, h⟩
        · unfold Oper.wp at h
          refine ⟨fun _ _ => trivial, ?_⟩
          rw [Oper.semAt_eq _ _ _ (hnd i o ho)]
          revert h
          generalize (execOp a.eval o).run C.P w = r
          intro h
          unfold Oper.upon at h
          unfold Oper.uponIn
          split at h
          · exact wpOps_in hR hnd l _ _ h
          · exact wpOps_in hR hnd l _ _ h
          · exact wpOps_in hR hnd l _ _ h
          · refine ⟨fw_depth, calls_fw.2 (h.mono ?_)⟩
            intro e w'' h
            cases e with
            | returned v => exact wpOps_in hR hnd l _ _ h
            | panicked c => have := (hR _ _ _ h).1; cases this
            | outgrown => exact absurd h hlet
          · exact ⟨fw_depth, fun c cs hr => by
              obtain ⟨v, w', h1, h2⟩ := h c cs
              exact ⟨v, w', wpOps_in hR hnd l _ _ h1, stepsIn_wide.2 h2⟩⟩
          · have := (hR _ _ _ h).1; cases this
          · exact h.elim
        · exact absurd h hlet
      · rename_i hw
        rw [if_neg hw] at h
        exact ⟨fun _ _ => trivial, wpOps_in hR hnd l _ _ h⟩


theorem any_suffixI {Q : Exit → Act → World → Prop} : ∀ (l : List Nat) (fuel : Nat) (L : Array Bool) (a : Act) (w : World), L.size = ops.size → l.length ≤ fuel → (∀ i, i < ops.size → (Ls L i ↔ i ∉ l)) → l.Nodup →
    (∀ A i B, l = A ++ i :: B → (∀ j ∈ depsOf ops i, j < ops.size ∧ j ∉ i :: B) ∧ ∀ j ∈ A, Reach ops i j) → (∀ i ∈ l, i < ops.size) → Cl ops L →
    wpOpsIn (fw rd) 0 C.P ops Q l a w → wpAnyIn (fw rd) 0 C.P .any ops Q fuel L a w
  | [], fuel, L, a, w, hs, _, hl, _, _, _, _, h => by
    have hr : Region.ready .any ops L = [] := by
      apply List.eq_nil_iff_forall_not_mem.2
      intro i hi
      obtain ⟨h1, h2, _⟩ := ready_iff.1 hi
      have := (hl i h1).2 (by simp)
      unfold Ls at this
      rw [Array.getD_eq_getD_getElem?, Array.getElem?_eq_getElem (by omega)] at this h2
      simp at this h2; rw [this] at h2; cases h2
    cases fuel with
    | zero => exact ⟨hr, h⟩
    | succ fuel => exact ⟨fun _ => h, fun i hi => by rw [hr] at hi; simp at hi⟩
  | i :: l, 0, _, _, _, _, hf, _, _, _, _, _, _ => by simp at hf
  | i :: l, fuel + 1, L, a, w, hs, hf, hl, hnd, hd, hlt, hcl, h => by
    have hil := hlt i (by simp)
    have hLi : ∀ j, j < ops.size → (L.getD j true = true ↔ Ls L j) := fun j hj => by
      unfold Ls
      rw [Array.getD_eq_getD_getElem?, Array.getD_eq_getD_getElem?, Array.getElem?_eq_getElem (by omega)]; simp
    have hready : ∀ j, j ∈ Region.ready .any ops L ↔ j = i := by
      intro j
      rw [ready_iff]
      constructor
      · rintro ⟨h1, h2, h3⟩
        have hj : j ∈ i :: l := by
          apply Classical.byContradiction
          intro hn
          have := (hLi j h1).2 ((hl j h1).2 hn)
          rw [h2] at this; cases this
        apply Classical.byContradiction
        intro hne
        have hjl : j ∈ l := by simpa [hne] using hj
        obtain ⟨A, B, rfl⟩ := List.append_of_mem hjl
        have hreach := (hd (i :: A) j B (by simp)).2 i (by simp)
        have := reach_listed hs hcl hreach h3
        exact absurd ((hl i hil).1 this) (by simp)
      · rintro rfl
        refine ⟨hil, ?_, fun k hk => ?_⟩
        · cases hb : L.getD j true with
          | false => rfl
          | true => exact absurd ((hl j hil).1 ((hLi j hil).1 hb)) (by simp)
        · have hk2 := (hd [] j l rfl).1 k hk
          exact (hl k hk2.1).2 hk2.2
    have hset : ∀ j, Ls (L.setIfInBounds i true) j ↔ j = i ∨ Ls L j := fun j => Ls.set (by omega)
    refine ⟨fun h0 => ?_, fun j hj => ?_⟩
    · have := (hready i).2 rfl
      rw [h0] at this; simp at this
    · obtain rfl := (hready j).1 hj
      rw [wpOpsIn_cons] at h
      obtain ⟨n1, n2⟩ := List.nodup_cons.1 hnd
      refine wpOpIn_mono (fun a w hk => ?_) h
      refine any_suffixI l fuel _ a w (by simp [hs]) (by simp at hf; omega) (fun k hk2 => ?_) n2 (fun A k B hAB => ?_) (fun k hk2 => hlt k (by simp [hk2])) ?_ hk
      · rw [hset, hl k hk2]
        by_cases hkj : k = j
        · subst hkj; simp [n1]
        · simp [hkj]
      · obtain ⟨q1, q2⟩ := hd (j :: A) k B (by simp [hAB])
        exact ⟨q1, fun x hx => q2 x (by simp [hx])⟩
      · intro k hk2 hks x hx
        have hk3 : Ls (L.setIfInBounds j true) k := by
          unfold Ls
          rw [Array.getD_eq_getD_getElem?, Array.getElem?_eq_getElem (by simp; omega)] at hk2 ⊢
          simpa using hk2
        show Ls _ x
        rw [hset]
        rcases (hset k).1 hk3 with rfl | hk3
        · exact .inr ((ready_iff.1 hj).2.2 x hx)
        · exact .inr (hcl k ((hLi k hks).2 hk3) hks x hx)


theorem any_prefixI {Q : Exit → Act → World → Prop} {H : Hp} {n : Nat} {env : Env} {rs : List Rec} {suf : List Nat} (ho : OrdOk ops rs suf) (hgen : ∀ e ∈ H, e.g < n) (hd : ∀ r ∈ rs, dstOk F.nt r.o = true)
    (hst : ∀ A r B, rs = A ++ r :: B → ops[r.i]? = some r.o ∧ Steady C F ops H (n + r.i) (envOf A env) r.o r.d r.ne)
    (hend : ∀ (L : Array Bool) (a : Act) (w : World) (ρ : Lk) (He : Hp), L.size = ops.size → (∀ r ∈ rs, Ls L r.i) → DI C F H n env rs L a w ρ He → wpOpsIn (fw rd) 0 C.P ops Q suf a w) :
    ∀ (fuel : Nat) (L : Array Bool) (a : Act) (w : World) (ρ : Lk) (He : Hp), L.size = ops.size → ((rs.map (·.i) ++ suf).filter (fun i => !L.getD i false)).length ≤ fuel → Cl ops L → (∀ i ∈ suf, ¬ Ls L i) →
      DI C F H n env rs L a w ρ He → wpAnyIn (fw rd) 0 C.P .any ops Q fuel L a w := by
  intro fuel
  induction fuel with
  | zero =>
    intro L a w ρ He hL hf hc hs hi
    have h0 : (rs.map (·.i) ++ suf).filter (fun i => !L.getD i false) = [] := List.eq_nil_of_length_eq_zero (by omega)
    have hall : ∀ r ∈ rs, Ls L r.i := fun r hr => by
      have := List.filter_eq_nil_iff.1 h0 r.i (by simp; exact .inl ⟨r, hr, rfl⟩)
      simpa [Ls] using this
    have hsuf : suf = [] := by
      apply List.eq_nil_iff_forall_not_mem.2
      intro i hi2
      have := List.filter_eq_nil_iff.1 h0 i (by simp [hi2])
      exact hs i hi2 (by simpa [Ls] using this)
    subst hsuf
    refine any_suffixI [] 0 L a w hL (Nat.le_refl _) (fun i hi2 => ⟨fun _ => by simp, fun _ => ?_⟩) .nil (fun A i B h => by cases A <;> simp at h) (by simp) hc (hend L a w ρ He hL hall hi)
    have := ho.all i hi2
    simp at this
    obtain ⟨r, hr, rfl⟩ := this
    exact hall r hr
  | succ fuel ih =>
    intro L a w ρ He hL hf hc hs hi
    by_cases hall : ∀ r ∈ rs, Ls L r.i
    · refine any_suffixI suf (fuel + 1) L a w hL ?_ (fun i hi2 => ?_) ?_ (fun A i B hAB => ⟨fun j hj => ?_, fun j hj => ho.suf A i B hAB j (by simp [hj])⟩) (fun i hi2 => ho.lt i (by simp [hi2])) hc (hend L a w ρ He hL hall hi)
      · refine Nat.le_trans ?_ hf
        rw [List.filter_append, List.length_append]
        rw [(List.filter_eq_self (l := suf)).2 fun i hi2 => by have := hs i hi2; unfold Ls at this; simpa using this]
        omega
      · constructor
        · intro h1 h2; exact hs i h2 h1
        · intro h1
          have := ho.all i hi2
          rcases List.mem_append.1 this with h | h
          · obtain ⟨r, hr, rfl⟩ := List.mem_map.1 h; exact hall r hr
          · exact absurd h h1
      · exact (List.nodup_append.1 ho.nodup).2.1
      · have hA := ho.first (rs.map (·.i) ++ A) i B (by simp [hAB]) j hj
        refine ⟨ho.lt j (by rw [hAB]; rcases List.mem_append.1 hA with h | h <;> simp [h]), fun hB => ?_⟩
        have hnd := ho.nodup
        rw [hAB, ← List.append_assoc, List.nodup_append] at hnd
        exact hnd.2.2 j hA j hB rfl
    · have hnot : ∃ r ∈ rs, ¬ Ls L r.i := by
        apply Classical.byContradiction
        intro hn
        exact hall fun r hr => Classical.byContradiction fun h => hn ⟨r, hr, h⟩
      have hLt : ∀ j, j < ops.size → (L.getD j true = true ↔ Ls L j) := fun j hj => by
        unfold Ls
        rw [Array.getD_eq_getD_getElem?, Array.getD_eq_getD_getElem?, Array.getElem?_eq_getElem (by omega)]; simp
      -- some operation may come up
      have hsome : Region.ready .any ops L ≠ [] := by
        obtain ⟨r0, hr0, hn0⟩ := hnot
        have : ∀ X : List Rec, ∀ Y, rs = X ++ Y → (∃ r ∈ Y, ¬ Ls L r.i) → (∀ r ∈ X, Ls L r.i) → ∃ A r B, rs = A ++ r :: B ∧ ¬ Ls L r.i ∧ ∀ r ∈ A, Ls L r.i := by
          intro X Y
          induction Y generalizing X with
          | nil => rintro _ ⟨r, hr, _⟩ _; simp at hr
          | cons y Y ihY =>
            intro hXY hex hX
            by_cases hy : Ls L y.i
            · obtain ⟨r, hr, hrn⟩ := hex
              rcases List.mem_cons.1 hr with rfl | hr
              · exact absurd hy hrn
              · exact ihY (X ++ [y]) (by simp [hXY]) ⟨r, hr, hrn⟩ (fun r hr => by
                  rcases List.mem_append.1 hr with h | h
                  · exact hX r h
                  · simp at h; subst h; exact hy)
            · exact ⟨X, y, Y, hXY, hy, hX⟩
        obtain ⟨A, r, B, h1, h2, h3⟩ := this [] rs rfl ⟨r0, hr0, hn0⟩ (by simp)
        intro hnil
        have hrlt := ho.lt r.i (by rw [h1]; simp)
        have : r.i ∈ Region.ready .any ops L := by
          rw [ready_iff]
          refine ⟨hrlt, ?_, fun j hj => ?_⟩
          · cases hb : L.getD r.i true with
            | false => rfl
            | true => exact absurd ((hLt r.i hrlt).1 hb) h2
          · have := ho.first (A.map (·.i)) r.i (B.map (·.i) ++ suf) (by rw [h1]; simp) j hj
            obtain ⟨r', hr', rfl⟩ := List.mem_map.1 this
            exact h3 r' hr'
        rw [hnil] at this; simp at this
      refine ⟨fun h0 => absurd h0 hsome, fun i hir => ?_⟩
      obtain ⟨hilt, hin, hid⟩ := ready_iff.1 hir
      have hnL : ¬ Ls L i := fun h => by rw [(hLt i hilt).2 h] at hin; cases hin
      -- it is one of the prefix
      have hpre : i ∈ rs.map (·.i) := by
        rcases List.mem_append.1 (ho.all i hilt) with h | h
        · exact h
        · obtain ⟨A, B, hAB⟩ := List.append_of_mem h
          obtain ⟨r0, hr0, hn0⟩ := hnot
          have := reach_listed hL hc (ho.suf A i B hAB r0.i (List.mem_append_left _ (List.mem_map.2 ⟨r0, hr0, rfl⟩))) hid
          exact absurd this hn0
      obtain ⟨r, hr, rfl⟩ := List.mem_map.1 hpre
      obtain ⟨A, B, hAB⟩ := List.append_of_mem hr
      obtain ⟨hor, hgen2, hsteady⟩ := hst A r B hAB
      have hset : ∀ j, Ls (L.setIfInBounds r.i true) j ↔ j = r.i ∨ Ls L j := fun j => Ls.set (by omega)
      have hndr : (rs.map (·.i)).Nodup := (List.nodup_append.1 ho.nodup).1
      have hsub : ∀ e ∈ H, e ∈ He := fun e he => hi.perm.mem_iff.2 (by simp [he])
      have hfr : ∀ k, ρ k (n + r.i) = none := fun k => by
        apply Classical.byContradiction
        intro hk
        obtain ⟨r', h1, h2, h3⟩ := hi.fresh k (n + r.i) (by omega) hk
        have : r'.i = r.i := by omega
        rw [this] at h2; exact hnL h2
      have hne : ∀ e ∈ He, e.g ≠ n + r.i := fun e he hg => by
        rcases List.mem_append.1 (hi.perm.mem_iff.1 he) with h | h
        · obtain ⟨r', h1, h2⟩ := List.mem_filterMap.1 h
          split at h2
          · rename_i hl
            obtain ⟨A', B', hAB'⟩ := List.append_of_mem h1
            have := (hst A' r' B' hAB').2.1 e h2
            have : r'.i = r.i := by omega
            rw [this] at hl; exact hnL hl
          · cases h2
        · have := hgen e h; omega
      -- what follows
      have next : ∀ v ρ' w', Post1 C F He ρ w (n + r.i) r.d r.ne v ρ' w' → wpAnyIn (fw rd) 0 C.P .any ops Q fuel (L.setIfInBounds r.i true) (a.put r.o.dst v) w' := by
        intro v ρ' w' p
        have hi' := hi
        rw [hAB] at hi' hndr
        have hdst := ho.dst
        rw [hAB] at hdst
        have hn' := DI.next hi' (by omega) hnL hndr hdst (hd r hr) p
        rw [← hAB] at hn'
        refine ih _ _ _ ρ' (putH r.ne He) (by simp [hL]) ?_ ?_ (fun j hj => ?_) hn'
        · have : ((rs.map (·.i) ++ suf).filter (fun i => !(L.setIfInBounds r.i true).getD i false)).length < ((rs.map (·.i) ++ suf).filter (fun i => !L.getD i false)).length := by
            have sub : (rs.map (·.i) ++ suf).filter (fun i => !(L.setIfInBounds r.i true).getD i false) = ((rs.map (·.i) ++ suf).filter (fun i => !L.getD i false)).filter (fun i => !Nat.beq i r.i) := by
              rw [List.filter_filter]
              apply List.filter_congr
              intro x hx
              have h1 := hset x
              unfold Ls at h1
              by_cases hxr : x = r.i
              · subst hxr
                have : (L.setIfInBounds r.i true).getD r.i false = true := h1.2 (.inl rfl)
                simp [this]
              · have hb : Nat.beq x r.i = false := by
                  cases hb : Nat.beq x r.i with
                  | false => rfl
                  | true => exact absurd (Nat.eq_of_beq_eq_true hb) hxr
                rw [hb]
                by_cases hlx : L.getD x false = true
                · rw [h1.2 (.inr hlx), hlx]; rfl
                · have : ¬ (L.setIfInBounds r.i true).getD x false = true := fun h => hlx ((h1.1 h).resolve_left hxr)
                  simp only [Bool.not_eq_true] at this hlx
                  rw [this, hlx]; rfl
            rw [sub]
            apply List.length_filter_lt_length_iff_exists.2
            exact ⟨r.i, by rw [List.mem_filter]; exact ⟨by simp; exact .inl ⟨r, hr, rfl⟩, by unfold Ls at hnL; simpa using hnL⟩, by simp⟩
          omega
        · intro k hk2 hks x hx
          have hk3 : Ls (L.setIfInBounds r.i true) k := by
            unfold Ls
            rw [Array.getD_eq_getD_getElem?, Array.getElem?_eq_getElem (by simp; omega)] at hk2 ⊢
            simpa using hk2
          show Ls _ x
          rw [hset]
          rcases (hset k).1 hk3 with rfl | hk3
          · exact .inr (hid x hx)
          · exact .inr (hc k ((hLt k hks).2 hk3) hks x hx)
        · rw [hset]
          rintro (rfl | h)
          · have hnd := ho.nodup
            rw [List.nodup_append] at hnd
            exact hnd.2.2 r.i (List.mem_map.2 ⟨r, hr, rfl⟩) r.i hj rfl
          · exact hs j hj h
      unfold wpOpIn
      simp only [hor]
      rcases hsteady He ρ a w hi.mem hsub hfr hne (hi.look ho hL hc hAB hir) with ⟨hw, hn0, hrep⟩ | ⟨hw, hout⟩
      · rw [if_neg (by rw [hw]; simp)]
        exact ⟨fun _ _ => trivial, next undef ρ w ⟨by rw [hn0]; exact hi.mem, by rw [hn0]; exact .refl _ _ _, fun _ _ _ => rfl, by rw [hn0]; exact hrep⟩⟩
      · rw [if_pos hw]
        rcases hout with ⟨v, ρ', w', h1, h2⟩ | ⟨f, vs, h1, h2⟩
        · exact wpIn_value h1 (next v ρ' w' h2)
        · refine wpIn_enter h1 (h2.mono ?_)
          rintro e w' ⟨v, rfl, ρ', h3⟩
          exact ⟨v, rfl, next v ρ' w' h3⟩

theorem drawI {R : Exit → Act → World → Prop} {i : Nat} {s : St} {pre suf : List Nat} {envF : Env} {N : Hp} (hm : C.P.follows .mixedOrders = true) (hc : chkD ops pre suf = true)
    (hpre : DTr C F ops s.H s.n pre s.env [] envF N)
    (h : (∀ j ∈ suf, j < ops.size) → ∀ (ρ : Lk) (a : Act) (w : World), Sat C F ρ ⟨envF, N ++ s.H, s.n + ops.size⟩ a w → wpOpsIn (fw rd) 0 C.P ops R suf a w) (hd : ops.toList.all (dstOk F.nt) = true) (ρ : Lk) (a : Act) (w : World) (hs : Sat C F ρ s a w) :
    (Code.region i ops true).wpIn (fw rd) 0 C.P R a w := by
  obtain ⟨rs, h1, h2, h3, h4⟩ := hpre.recs
  have hor : ∀ r ∈ rs, ops[r.i]? = some r.o := fun r hr => by
    obtain ⟨A, B, hAB⟩ := List.append_of_mem hr
    exact (h4 A r B hAB).1
  have ho := ordOk_of h1 hor hc
  have hds : ∀ r ∈ rs, dstOk F.nt r.o = true := fun r hr => by
    refine List.all_eq_true.1 hd r.o ?_
    have := hor r hr
    exact Array.mem_toList_iff.2 (Array.mem_of_getElem? this)
  have hrep : ∀ j, (Array.replicate ops.size false).getD j false = false := fun j => by
    rw [Array.getD_eq_getD_getElem?]
    rw [Array.getElem?_replicate]; split <;> rfl
  have hnL : ∀ j, ¬ Ls (Array.replicate ops.size false) j := fun j hj => by unfold Ls at hj; rw [hrep] at hj; cases hj
  refine wpIn_region_any hm ?_
  have hin : DI C F s.H s.n s.env rs (Array.replicate ops.size false) a w.drew ρ s.H := by
    refine ⟨hs.mem.drew, ?_, fun r _ hl => absurd hl (hnL _), fun t _ => (hs.env t).mono (.drew _ _ _), fun k g hg hk => absurd (hs.fresh k g hg) hk, hs.nt, hs.dfr⟩
    have : rs.filterMap (fun r => if (Array.replicate ops.size false).getD r.i false then r.ne else none) = [] := by
      rw [List.filterMap_eq_nil_iff]
      intro r _
      rw [hrep]; rfl
    rw [this]; exact List.Perm.refl _
  refine any_prefixI ho hs.gen hds h4 ?_ ops.size _ a w.drew ρ s.H (by simp) ?_ ?_ (fun j _ => hnL j) hin
  · intro L a' w' ρ' He hL hall hi
    have hN : He.Perm (N ++ s.H) := by
      refine hi.perm.trans (List.Perm.append_right _ ?_)
      have e : rs.filterMap (fun r => if L.getD r.i false then r.ne else none) = rs.filterMap (·.ne) := fm_congr fun r hr => by
        have := hall r hr; unfold Ls at this; rw [this]; rfl
      rw [e, h3]
      have := newOf_perm rs []
      rw [List.append_nil] at this
      exact this.symm
    refine h (fun j hj => ho.lt j (by simp [hj])) ρ' a' w' ⟨hi.mem.perm hN, ?_, ?_, fun t => ?_, hi.nt, hi.dfr⟩
    · intro k g hg
      apply Classical.byContradiction
      intro hk
      obtain ⟨r, hr, _, he⟩ := hi.fresh k g (by simp at hg; omega) hk
      have := ho.lt r.i (by simp; exact .inl ⟨r, hr, rfl⟩)
      simp at hg
      omega
    · intro e he
      rcases List.mem_append.1 he with he | he
      · rw [h3] at he
        have he := (newOf_perm rs []).mem_iff.1 he
        rw [List.append_nil] at he
        obtain ⟨r, hr, hre⟩ := List.mem_filterMap.1 he
        obtain ⟨A, B, hAB⟩ := List.append_of_mem hr
        have := (h4 A r B hAB).2.1 e hre
        have := ho.lt r.i (by simp; exact .inl ⟨r, hr, rfl⟩)
        show e.g < s.n + ops.size
        omega
      · have := hs.gen e he
        show e.g < s.n + ops.size
        omega
    · show Rep ρ' (Own F.X ρ' (N ++ s.H)) w' (envF.get t) _
      rw [← Own.perm hN, h2]
      by_cases hw : ∃ r ∈ rs, r.o.dst = some t
      · obtain ⟨r, hr, hrd⟩ := hw
        rw [envOf_at rs s.env t ho.dst r hr hrd]
        exact hi.reps r hr (hall r hr) t hrd
      · rw [envOf_other rs s.env t fun r hr hrd => hw ⟨r, hr, hrd⟩]
        exact hi.old t fun r hr _ hrd => hw ⟨r, hr, hrd⟩
  · refine Nat.le_trans (List.length_filter_le _ _) ?_
    have hsub : ∀ (l : List Nat) (n : Nat), l.Nodup → (∀ x ∈ l, x < n) → l.length ≤ n := by
      intro l n
      induction n generalizing l with
      | zero => intro _ h; cases l with
        | nil => simp
        | cons x l => exact absurd (h x (by simp)) (by omega)
      | succ n ihn =>
        intro hnd hlt
        have h1 := ihn (l.erase n) (hnd.erase n) fun x hx => by
          have := hlt x (List.mem_of_mem_erase hx)
          have : x ≠ n := fun h => by subst h; exact (List.Nodup.not_mem_erase hnd) hx
          omega
        have := List.length_erase (a := n) (l := l)
        split at this <;> omega
    exact hsub _ _ ho.nodup ho.lt
  · intro k hk
    have : k < ops.size ∨ ¬ k < ops.size := by omega
    rcases this with hlt | hlt
    · rw [Array.getD_eq_getD_getElem?, Array.getElem?_replicate, if_pos hlt] at hk; cases hk
    · intro h; exact absurd h hlt


/-- the same of operations in whatever order -/
theorem wpAny_in {R Q : Exit → Act → World → Prop} (hR : ∀ e a w, R e a w → e = .normal ∧ Q .normal a w) (hnd : ∀ (i : Nat) (o : Oper), ops[i]? = some o → ∀ c, o.op ≠ .defer c) :
    ∀ (fuel : Nat) (L : Array Bool) (a : Act) (w : World), wpAny C.P .any ops R fuel L a w → wpAnyIn (fw rd) 0 C.P .any ops Q fuel L a w
  | 0, L, a, w, h => ⟨h.1, (hR _ _ _ h.2).2⟩
  | fuel + 1, L, a, w, h => ⟨fun h0 => (hR _ _ _ (h.1 h0)).2, fun i hi => by
      have hlet : ¬ LetsOut R := fun ⟨a, w, h⟩ => by have := (hR _ _ _ h).1; cases this
      have hq := h.2 i hi
      unfold wpOp at hq
      unfold wpOpIn
      split
      · rename_i ho; simp only [ho] at hq; exact wpAny_in hR hnd fuel _ a w hq
      · rename_i o ho
        simp only [ho] at hq
        split
        · rename_i hw
          rw [if_pos hw] at hq
          rcases hq with hq | ⟨_, hq⟩
          · unfold Oper.wp at hq
            refine ⟨fun _ _ => trivial, ?_⟩
            rw [Oper.semAt_eq _ _ _ (hnd i o ho)]
            revert hq
            generalize (execOp a.eval o).run C.P w = r
            intro hq
            unfold Oper.upon at hq
            unfold Oper.uponIn
            split at hq
            · exact wpAny_in hR hnd fuel _ _ _ hq
            · exact wpAny_in hR hnd fuel _ _ _ hq
            · exact wpAny_in hR hnd fuel _ _ _ hq
            · refine ⟨fw_depth, calls_fw.2 (hq.mono ?_)⟩
              intro e w'' h
              cases e with
              | returned v => exact wpAny_in hR hnd fuel _ _ _ h
              | panicked c => have := (hR _ _ _ h).1; cases this
              | outgrown => exact absurd h hlet
            · exact ⟨fw_depth, fun c cs hr => by
                obtain ⟨v, w', h1, h2⟩ := hq c cs
                exact ⟨v, w', wpAny_in hR hnd fuel _ _ _ h1, stepsIn_wide.2 h2⟩⟩
            · have := (hR _ _ _ hq).1; cases this
            · exact hq.elim
          · exact absurd hq hlet
        · rename_i hw
          rw [if_neg hw] at hq
          exact ⟨fun _ _ => trivial, wpAny_in hR hnd fuel _ _ _ hq⟩⟩

end
end Go.Ide

/- The ideal layer, part 23: conditions of operations and regions, computed; the rules that follow code by them. -/
namespace Go.Ide
open Go.RowKit

/-- it turns on a condition -/
def brB (b : Bool) (y n : Prop) : Prop := match b with
  | true => y
  | false => n
theorem brI {b : Bool} {y n : Prop} (h1 : b = true → y) (h2 : b = false → n) : brB b y n := by
  cases b
  · exact h2 rfl
  · exact h1 rfl

/-- seen more loosely, in whatever memory -/
theorem Fz.loose {d d' : D} (h : Fz [] [] d d') : ∀ {ρ : Lk} {O : Nat → Prop} {w : World} {v : Value}, Rep ρ O w d v → Rep ρ O w d' v := by
  induction h with
  | refl => exact fun h => h
  | any => exact fun _ => .any _
  | nil sz => intro ρ O w v h; cases h; exact .nil _
  | nn nn sz es =>
    intro ρ O w v h
    cases h with
    | nil => exact .nil _
    | sl f hl hc hO hb hz hcell ho h => exact .sl f hl hc hO hb hz hcell ho h
  | agg hl h ih =>
    intro ρ O w v hr
    cases hr with
    | agg hn ho hh =>
      refine .agg (by omega) ho fun i d' hd' => ?_
      have hi := (List.getElem?_eq_some_iff.1 hd').1
      exact ih i _ d' (List.getElem?_eq_getElem (by omega)) hd' (hh i _ (List.getElem?_eq_getElem (by omega)))
  | tup hl h ih =>
    intro ρ O w v hr
    cases hr with
    | tup hn hh =>
      refine .tup (by omega) fun i d' hd' => ?_
      have hi := (List.getElem?_eq_some_iff.1 hd').1
      exact ih i _ d' (List.getElem?_eq_getElem (by omega)) hd' (hh i _ (List.getElem?_eq_getElem (by omega)))
  | osl he _ _ _ _ _ _ _ => cases he

section
variable {C : Ctx}

/-- a call whose answer is known, of settled arguments -/
inductive CallW (C : Ctx) (f : Nat) (ds : List D) (k : D → Prop) : Prop
  | mk (ds' : List D) (d : D) (hv : FzL [] [] ds ds') (hc : ICalls C f ds' d) (hp : ArePure ds') (hk : k d)
/-- a call in order -/
inductive CallO (C : Ctx) (f : Nat) (ds : List D) (H : Hp) (n : Nat) (k : D → Hp → Nat → Prop) : Prop
  | pure (ds' : List D) (d : D) (hv : FzL [] [] ds ds') (hc : ICalls C f ds' d) (hp : ArePure ds') (hk : k d H (n + 1))
  | prop (ds' : List D) (Φ : D → Prop) (hv : FzL [] [] ds ds') (hc : ICallP C f ds' Φ) (hp : ArePure ds') (hk : ∀ d, Φ d → k d H (n + 1))
  | own (Φ : D → Hp → Nat → Prop) (hc : ICallH C f ds H n Φ) (hk : ∀ d H' n', Φ d H' n' → k d H' n')
  | lend (Hf : Hp) (ds' : List D) (d : D) (hH : FzH H Hf H Hf) (hv : FzL H Hf ds ds') (hc : ICalls C f ds' d) (hp : ArePure ds') (hflat : Flat d) (hk : k d H (n + 1))

theorem fzl_loose {ds ds' : List D} (h : FzL [] [] ds ds') {ρ : Lk} {O : Nat → Prop} {w : World} {vs : Array Value} (hr : ∀ (i : Nat) (d : D), ds[i]? = some d → Rep ρ O w d (vs.getD i undef)) :
    ∀ (i : Nat) (d : D), ds'[i]? = some d → Rep ρ O w d (vs.getD i undef) := fun i d hd => by
  obtain ⟨l1, l2⟩ := h.spec
  have hi := (List.getElem?_eq_some_iff.1 hd).1
  have h0 : ds[i]? = some ds[i] := List.getElem?_eq_getElem (by omega)
  exact (l2 i _ d h0 hd).loose (hr i _ h0)
theorem ICallP.loose {f : Nat} {ds ds' : List D} {Φ : D → Prop} (h : ICallP C f ds' Φ) (hv : FzL [] [] ds ds') : ICallP C f ds Φ :=
  ⟨h.1, fun X w vs a b c hs hr => h.2 X w vs a b c (by rw [hs]; exact hv.spec.1) (fzl_loose hv hr)⟩

/-- the arguments may be seen more loosely, and then they are settled -/
theorem Steady.call' {F : Fra} {ops : Array Oper} {H : Hp} {g : Nat} {env : Env} {o : Oper} {f : Nat} {first captured ds ds' : List D} {fop : Operand} {args : Array Operand} {tys : Array Nat} {d : D} (hw : wantD ops env o = some true) (ho : o.op = .call ⟨.value fop, args, tys⟩)
    (hf : gOpd env fop = .clo (.func f) first captured) (hds : first ++ args.toList.map (gOpd env) ++ captured = ds) (hv : FzL [] [] ds ds') (hc : ICalls C f ds' d) (hp : ArePure ds') : Steady C F ops H g env o d none := by
  refine ⟨by simp, fun He ρ a w m hsub fr hne hr => .inr ⟨wantD_look hr hw, .inr ?_⟩⟩
  obtain ⟨g', h1, h2⟩ := look_gen hr
  have hfop : fop ∈ o.op.operands := by rw [ho]; simp [Op.operands, Call.operands]
  have harg : ∀ x ∈ args.toList, gOpd env x = g' x := fun x hx => h1 x (by rw [ho]; simp [Op.operands, Call.operands]; right; simpa using hx)
  rw [h1 fop hfop] at hf
  rw [map_congr_ops harg] at hds
  obtain ⟨vs, q1, q2, q3⟩ := callArgs_run' (g := g') ho hf hc.1 h2
  rw [hds] at q2 q3
  have q4 := fzl_loose hv q3
  refine ⟨f, vs, q1, (hc.2 (Own F.X ρ He) w vs m.g (Nat.le_trans m.gn m.size) (fun b hb => m.own_lt hb) (by rw [q2]; exact hv.spec.1) fun i d hd => hp.out d (List.mem_of_getElem? hd) _ _ _ _ _ (q4 i d hd)).mono ?_⟩
  rintro e w' ⟨v, d', rfl, hb, rfl, hrep⟩
  have x : Ext ρ (Own F.X ρ He) w ρ (Own F.X ρ He) w' := ⟨hb.size, fun _ _ _ h => h, fun b hb' hO => ⟨hO, hb.block b hb'⟩, fun b cs T fz hh => ⟨cs, by
    rw [hb.block b (Array.getElem?_eq_some_iff.1 hh).1]; exact hh, rfl⟩⟩
  exact ⟨v, rfl, ρ, m.same x hb.os hb.tape hb.output hb.block, x, fun _ _ _ => rfl, hrep.nol⟩

/-! ### one operation of the free part -/
def wpP (X : EV) (g : Operand → D) (op : Op) (acc : Prop) (k : Prop → D → Option Ent → Prop) : Prop := match evP X.tt g op with
  | some (d, p) => k (p ∧ acc) d none
  | none => False
def wpQ (X : EV) (g : Operand → D) (op : Op) (acc : Prop) (k : Prop → D → Option Ent → Prop) : Prop := match evQ X.tt X.xt g op with
  | some (d, p) => k (p ∧ acc) d none
  | none => False
def wpPQ (X : EV) (g : Operand → D) (op : Op) (acc : Prop) (k : Prop → D → Option Ent → Prop) : Prop := match evP X.tt g op with
  | some (d, p) => k (p ∧ acc) d none
  | none => wpQ X g op acc k
/-- an element of a settled slice -/
def wpIx (X : EV) (g : Operand → D) (t : Nat) (x ix : Operand) (acc : Prop) (k : Prop → D → Option Ent → Prop) : Prop := match X.tt t with
  | some i => match i.ti with
    | .slice _ esz _ _ => match g ix with
      | .prim (.int _ j) => match g x with
        | .sl _ sz es => acc ∧ (sz = esz ∧ 0 ≤ j) ∧ ∃ d, es[j.toNat]? = some d ∧ k True (.pptr d) none
        | _ => False
      | _ => False
    | _ => False
  | none => False
def wpE (C : Ctx) (X : EV) (kb : Nat) (g : Operand → D) (H : Hp) (n : Nat) (op : Op) (acc : Prop) (k : Prop → D → Option Ent → Prop) : Prop := match op with
  | .call ⟨.value fop, args, _⟩ => match g fop with
    | .clo (.func f) first captured => match X.nat f (first ++ args.toList.map g ++ captured) with
      | some d => k acc d none
      | none => acc ∧ CallW C f (first ++ args.toList.map g ++ captured) fun d => k True d none
    | _ => False
  | .call ⟨.builtin .append, _, _⟩ => match evA X.tt [] n kb g op with
    | some (d, [e], p) => k (p ∧ acc) d (some e)
    | _ => False
  | .load _ _ | .alloc _ | .box _ _ | .buildSlice _ _ _ => match evL X.tt H n kb g op with
    | some (d, ne, p) => k (p ∧ acc) d ne
    | none => False
  | .indexAddr t x ix => match evP X.tt g op with
    | some (d, p) => k (p ∧ acc) d none
    | none => wpIx X g t x ix acc k
  | .makeInterface _ _ | .lookup _ _ _ _ => wpQ X g op acc k
  | .binOp _ _ _ _ _ => wpPQ X g op acc k
  | _ => wpP X g op acc k

structure WOk (C : Ctx) (X : EV) : Prop where
  tt : Tab C.P X.tt
  xt : TabX C.P X.xt
  mixed : C.P.follows .mixedOrders = true
  mt : ∀ t name f, X.mt t name = some f → ∀ v w, (method (C.P.types.size + Made.depth) t v name).run C.P w = .ok (f, v) w
  nat : ∀ f ds d, X.nat f ds = some d → NatCall C f ds d
theorem EVOk.w {X : EV} (h : EVOk C X) : WOk C X := ⟨h.tt, h.xt, h.mixed, h.mt, h.nat⟩

variable {F : Fra} {X : EV} {ops : Array Oper}

theorem wpE_ok (hX : WOk C X) {kb : Nat} {H : Hp} {n : Nat} {env : Env} {o : Oper} {acc : Prop} {k : Prop → D → Option Ent → Prop} (hw : wantD ops env o = some true) (hk : ∀ acc d ne, k acc d ne → acc)
    (h : wpE C X kb (gOpd env) H n o.op acc k) : acc ∧ ∃ acc' d ne, Steady C F ops H n env o d ne ∧ k acc' d ne := by
  have pe : wpP X (gOpd env) o.op acc k → acc ∧ ∃ acc' d ne, Steady C F ops H n env o d ne ∧ k acc' d ne := fun h => by
    unfold wpP at h
    split at h
    · rename_i d p he
      have := hk _ _ _ h
      exact ⟨this.2, _, _, _, Steady.p hX.tt hw he this.1, h⟩
    · exact h.elim
  have qe : wpQ X (gOpd env) o.op acc k → acc ∧ ∃ acc' d ne, Steady C F ops H n env o d ne ∧ k acc' d ne := fun h => by
    unfold wpQ at h
    split at h
    · rename_i d p he
      have := hk _ _ _ h
      exact ⟨this.2, _, _, _, Steady.q hX.tt hX.xt hw he this.1, h⟩
    · exact h.elim
  have le : (match evL X.tt H n kb (gOpd env) o.op with
      | some (d, ne, p) => k (p ∧ acc) d ne
      | none => False) → acc ∧ ∃ acc' d ne, Steady C F ops H n env o d ne ∧ k acc' d ne := fun h => by
    split at h
    · rename_i d ne p he
      have := hk _ _ _ h
      exact ⟨this.2, _, _, _, Steady.l' kb hX.tt hw he this.1, h⟩
    · exact h.elim
  unfold wpE at h
  split at h
  · rename_i fop args tys ho
    split at h
    · rename_i f first captured hf
      split at h
      · rename_i d hn
        exact ⟨hk _ _ _ h, _, _, _, Steady.nat hw ho hf rfl (hX.nat _ _ _ hn), h⟩
      · obtain ⟨h1, ⟨ds', d, hv, hc, hp, h2⟩⟩ := h
        exact ⟨h1, _, _, _, Steady.call' hw ho hf rfl hv hc hp, h2⟩
    · exact h.elim
  · split at h
    · rename_i d e p he
      have := hk _ _ _ h
      exact ⟨this.2, _, _, _, Steady.app0 kb hX.tt hw he this.1, h⟩
    · exact h.elim
  · exact le h
  · exact le h
  · exact le h
  · exact le h
  · rename_i t x ix ho
    split at h
    · rename_i d p he
      have := hk _ _ _ h
      exact ⟨this.2, _, _, _, Steady.p hX.tt hw he this.1, h⟩
    · unfold wpIx at h
      split at h <;> first | exact h.elim | skip
      rename_i i h1
      split at h <;> first | exact h.elim | skip
      rename_i e esz eby ez h2
      split at h <;> first | exact h.elim | skip
      rename_i kk j h3
      split at h <;> first | exact h.elim | skip
      rename_i nn sz es h4
      obtain ⟨ha, ⟨rfl, hj⟩, d, hd, hk'⟩ := h
      exact ⟨ha, _, _, _, Steady.idx hX.tt hw ho h1 h2 h3 h4 hj hd, hk'⟩
  · exact qe h
  · exact qe h
  · unfold wpPQ at h
    split at h
    · rename_i d p he
      have := hk _ _ _ h
      exact ⟨this.2, _, _, _, Steady.p hX.tt hw he this.1, h⟩
    · exact qe h
  · exact pe h

def nthO : List Oper → Nat → Option Oper
  | [], _ => none
  | o :: _, 0 => some o
  | _ :: l, i + 1 => nthO l i
theorem nthO_eq : ∀ (l : List Oper) (i : Nat), nthO l i = l[i]?
  | [], _ => by simp [nthO]
  | o :: l, 0 => by simp [nthO]
  | o :: l, i + 1 => by simp [nthO, nthO_eq l i]
def lenO : List Oper → Nat
  | [] => 0
  | _ :: l => lenO l + 1
theorem lenO_eq : ∀ l : List Oper, lenO l = l.length
  | [] => rfl
  | _ :: l => by simp [lenO, lenO_eq l]
theorem nthO_arr {i : Nat} {o : Oper} (h : nthO ops.toList i = some o) : ops[i]? = some o := by
  rw [nthO_eq] at h; simpa using h

def wpPre (C : Ctx) (X : EV) (kb : Nat) (ops : Array Oper) (H : Hp) (n : Nat) : List Nat → Env → Hp → Prop → (Prop → Env → Hp → Prop) → Prop
  | [], env, N, acc, K => K acc env N
  | i :: l, env, N, acc, K => match nthO ops.toList i with
    | some o => match o.guard with
      | none => wpE C X (kb + i) (gOpd env) H (n + i) o.op acc fun acc d ne => wpPre C X kb ops H n l (putE env o.dst d) (putH ne N) acc K
      | some _ => match wantD ops env o with
        | some b => acc ∧ brB b (wpE C X (kb + i) (gOpd env) H (n + i) o.op True fun acc d ne => wpPre C X kb ops H n l (putE env o.dst d) (putH ne N) acc K)
            (wpPre C X kb ops H n l (putE env o.dst (.prim (.tuple #[]))) N True K)
        | none => False
    | none => False

theorem wpPre_acc {kb : Nat} {H : Hp} {n : Nat} (hX : WOk C X) {K : Prop → Env → Hp → Prop} (hK : ∀ acc env N, K acc env N → acc) : ∀ {l : List Nat} {env : Env} {N : Hp} {acc : Prop}, wpPre C X kb ops H n l env N acc K →
    acc ∧ ∃ acc' env' N', DTr C F ops H n l env N env' N' ∧ K acc' env' N'
  | [], env, N, acc, h => ⟨hK _ _ _ h, _, _, _, .nil _ _, h⟩
  | i :: l, env, N, acc, h => by
    simp only [wpPre] at h
    split at h <;> first | exact h.elim | skip
    rename_i o ho
    have ho := nthO_arr ho
    have step : ∀ acc, wantD ops env o = some true → (wpE C X (kb + i) (gOpd env) H (n + i) o.op acc fun acc d ne => wpPre C X kb ops H n l (putE env o.dst d) (putH ne N) acc K) → acc ∧ ∃ acc' env' N', DTr C F ops H n (i :: l) env N env' N' ∧ K acc' env' N' := fun acc hw h => by
      obtain ⟨h1, acc1, d, ne, h2, h3⟩ := wpE_ok (F := F) hX hw (fun acc d ne h => (wpPre_acc hX hK h).1) h
      obtain ⟨_, acc2, env2, N2, h4, h5⟩ := wpPre_acc hX hK h3
      exact ⟨h1, _, _, _, .cons ho h2 h4, h5⟩
    split at h
    · rename_i hg
      exact step _ (by unfold wantD; rw [hg]) h
    · split at h <;> first | exact h.elim | skip
      rename_i b hb
      obtain ⟨h0, h⟩ := h
      cases b with
      | true =>
        obtain ⟨_, h1⟩ := step _ hb h
        exact ⟨h0, h1⟩
      | false =>
        obtain ⟨_, acc2, env2, N2, h4, h5⟩ := wpPre_acc hX hK h
        exact ⟨h0, _, _, _, .cons ho (Steady.skip hb) h4, h5⟩

theorem CallO.ok {F : Fra} {ops : Array Oper} {s : St} {o : Oper} {os : List Oper} {K : St → Prop} {f : Nat} {ds : List D} {k : D → Hp → Nat → Prop} (hw : wantD ops s.env o = some true)
    (hrun : Callable C.P f → ∀ (ρ : Lk) (a : Act) (w : World), Sat C F ρ s a w → ∃ vs, (execOp a.eval o).run C.P w = .ok (.enter f vs) w ∧ vs.size = ds.length ∧ ∀ (i : Nat) (d : D), ds[i]? = some d → Rep ρ (Own F.X ρ s.H) w d (vs.getD i undef))
    (h : CallO C f ds s.H s.n k) (hk : ∀ d H n, k d H n → OkL C F ops os ⟨putE s.env o.dst d, H, n⟩ K) : OkL C F ops (o :: os) s K := by
  have prop : ∀ (ds' : List D) (Φ : D → Prop), FzL [] [] ds ds' → ICallP C f ds' Φ → ArePure ds' → (∀ d, Φ d → k d s.H (s.n + 1)) → OkL C F ops (o :: os) s K := fun ds' Φ hv hc hp hk' => by
    refine OkL.callStep (f := f) hw (fun ρ a w hs => ?_) fun d hd => hk _ _ _ (hk' d hd)
    obtain ⟨vs, h1, h2, h3⟩ := hrun hc.1 ρ a w hs
    have q4 := fzl_loose hv h3
    refine ⟨vs, h1, (hc.2 (Own F.X ρ s.H) w vs hs.mem.g (Nat.le_trans hs.mem.gn hs.mem.size) (fun b hb => hs.mem.own_lt hb) (by rw [h2]; exact hv.spec.1) fun i d hd => hp.out d (List.mem_of_getElem? hd) _ _ _ _ _ (q4 i d hd)).mono ?_⟩
    rintro e w' ⟨v, d, a1, a2, a3, a4⟩
    exact ⟨v, d, a1, a2, a3, a4.nol⟩
  cases h with
  | pure ds' d hv hc hp hk' => exact prop ds' _ hv hc hp fun d' hd => by subst hd; exact hk'
  | prop ds' Φ hv hc hp hk' => exact prop ds' Φ hv hc hp hk'
  | own Φ hc hk' =>
    intro hd l hl ρ a w hs
    cases l with
    | nil => simp at hl
    | cons i l =>
      simp only [List.map_cons, List.cons.injEq] at hl
      simp only [List.all_cons, Bool.and_eq_true] at hd
      obtain ⟨vs, h1, h2, h3⟩ := hrun hc.1 ρ a w hs
      simp only [wpOps, hl.1]
      rw [if_pos (wantD_ok hs.env hw)]
      refine .inl ?_
      unfold Oper.wp
      rw [h1]
      refine (hc.2 F ρ w vs hs.mem hs.fresh hs.gen h2 h3).mono ?_
      rintro e w' ⟨v, d, H', n', ρ', rfl, hΦ, m, x, fr, g, r⟩
      exact hk d H' n' (hk' d H' n' hΦ) hd.2 l hl.2 ρ' (a.put o.dst v) w' (hs.put m x fr g r hd.1)
  | lend Hf ds' d hH hv hc hp hflat hk' =>
    refine OkL.callStep (f := f) (Φ := fun d' => d' = d) hw (fun ρ a w hs => ?_) fun d' hd => by subst hd; exact hk _ _ _ hk'
    obtain ⟨vs, h1, h2, h3⟩ := hrun hc.1 ρ a w hs
    obtain ⟨m, hO, hN⟩ := hH.mem hs.mem
    obtain ⟨l1, l2⟩ := hv.spec
    refine ⟨vs, h1, (hc.2 (Own F.X ρ Hf) w vs hs.mem.g (Nat.le_trans hs.mem.gn hs.mem.size) (fun b hb => m.own_lt hb) (by omega) fun i d hd => ?_).mono ?_⟩
    · have hi : i < ds'.length := (List.getElem?_eq_some_iff.1 hd).1
      have hd0 : ds[i]? = some ds[i] := List.getElem?_eq_getElem (by omega)
      exact hp.out d (List.mem_of_getElem? hd) _ _ _ _ _ ((l2 i _ d hd0 hd).rep hs.mem hO hN (h3 i _ hd0))
    · rintro e w' ⟨v, d', a1, a2, a3, a4⟩
      subst a3
      exact ⟨v, d', a1, a2, rfl, hflat _ _ _ _ _ _ _ a4⟩

/-! ### operations in order -/
def wpO (C : Ctx) (X : EV) (kb : Nat) (g : Operand → D) (H : Hp) (n : Nat) (op : Op) (acc : Prop) (k : Prop → D → Hp → Nat → Prop) : Prop := match op with
  | .call ⟨.value fop, args, _⟩ => match g fop with
    | .clo (.func f) first captured => match X.nat f (first ++ args.toList.map g ++ captured) with
      | some d => k acc d H (n + 1)
      | none => acc ∧ CallO C f (first ++ args.toList.map g ++ captured) H n fun d H' n' => k True d H' n'
    | _ => False
  | .call ⟨.invoke r name, args, _⟩ => match g r with
    | .ifc t d0 => match X.mt t name with
      | some f => acc ∧ CallO C f (d0 :: args.toList.map g) H n fun d H' n' => k True d H' n'
      | none => False
    | _ => False
  | .call ⟨.builtin .append, _, _⟩ => match evA X.tt H n kb g op with
    | some (d, H', p) => k (p ∧ acc) d H' (n + 1)
    | none => False
  | .makeSlice _ _ _ => match evM X.tt n kb g op with
    | some (d, e, p) => k (p ∧ acc) d (e :: H) (n + 1)
    | none => False
  | .store _ _ _ => match evS X.tt H g op with
    | some (j, e, p) => k (p ∧ acc) (.prim (.tuple #[])) (Hp.set H j e) (n + 1)
    | none => False
  | .load _ _ | .alloc _ | .box _ _ | .buildSlice _ _ _ => match evL X.tt H n kb g op with
    | some (d, ne, p) => k (p ∧ acc) d (putH ne H) (n + 1)
    | none => False
  | .indexAddr t x ix => match evP X.tt g op with
    | some (d, p) => k (p ∧ acc) d H (n + 1)
    | none => wpIx X g t x ix acc fun acc d _ => k acc d H (n + 1)
  | .makeInterface _ _ | .lookup _ _ _ _ => wpQ X g op acc fun acc d _ => k acc d H (n + 1)
  | .binOp _ _ _ _ _ => wpPQ X g op acc fun acc d _ => k acc d H (n + 1)
  | _ => wpP X g op acc fun acc d _ => k acc d H (n + 1)

theorem wpO_ok (hX : WOk C X) {kb : Nat} {s : St} {o : Oper} {os : List Oper} {acc : Prop} {k : Prop → D → Hp → Nat → Prop} {K : St → Prop} (hw : wantD ops s.env o = some true) (hk : ∀ acc d H n, k acc d H n → acc ∧ OkL C F ops os ⟨putE s.env o.dst d, H, n⟩ K)
    (h : wpO C X kb (gOpd s.env) s.H s.n o.op acc k) : acc ∧ OkL C F ops (o :: os) s K := by
  have pe : wpP X (gOpd s.env) o.op acc (fun acc d _ => k acc d s.H (s.n + 1)) → acc ∧ OkL C F ops (o :: os) s K := fun h => by
    unfold wpP at h
    split at h
    · rename_i d p he
      obtain ⟨⟨hp, ha⟩, h2⟩ := hk _ _ _ _ h
      exact ⟨ha, OkL.p hX.tt hw he hp h2⟩
    · exact h.elim
  have qe : wpQ X (gOpd s.env) o.op acc (fun acc d _ => k acc d s.H (s.n + 1)) → acc ∧ OkL C F ops (o :: os) s K := fun h => by
    unfold wpQ at h
    split at h
    · rename_i d p he
      obtain ⟨⟨hp, ha⟩, h2⟩ := hk _ _ _ _ h
      exact ⟨ha, OkL.q hX.tt hX.xt hw he hp h2⟩
    · exact h.elim
  have le : (match evL X.tt s.H s.n kb (gOpd s.env) o.op with
      | some (d, ne, p) => k (p ∧ acc) d (putH ne s.H) (s.n + 1)
      | none => False) → acc ∧ OkL C F ops (o :: os) s K := fun h => by
    split at h
    · rename_i d ne p he
      obtain ⟨⟨hp, ha⟩, h2⟩ := hk _ _ _ _ h
      exact ⟨ha, OkL.l' kb hX.tt hw he hp h2⟩
    · exact h.elim
  unfold wpO at h
  split at h
  · rename_i fop args tys ho
    split at h
    · rename_i f first captured hf
      split at h
      · rename_i d hn
        obtain ⟨ha, h2⟩ := hk _ _ _ _ h
        exact ⟨ha, OkL.nat hw ho hf rfl (hX.nat _ _ _ hn) h2⟩
      · obtain ⟨h1, h⟩ := h
        refine ⟨h1, ?_⟩
        exact CallO.ok hw (fun hc ρ a w hs => callArgs_run ho hf hc hs) h fun d H n hk' => (hk _ _ _ _ hk').2
    · exact h.elim
  · rename_i r name args tys ho
    split at h <;> first | exact h.elim | skip
    rename_i t d0 hr
    split at h <;> first | exact h.elim | skip
    rename_i f hf
    obtain ⟨h1, h⟩ := h
    refine ⟨h1, ?_⟩
    exact CallO.ok hw (fun hc ρ a w hs => invArgs_run ho hr (hX.mt _ _ _ hf) hc hs) h fun d H n hk' => (hk _ _ _ _ hk').2
  · split at h <;> first | exact h.elim | skip
    rename_i d H' p he
    obtain ⟨⟨hp, ha⟩, h2⟩ := hk _ _ _ _ h
    exact ⟨ha, OkL.app' kb hX.tt hw he hp h2⟩
  · split at h <;> first | exact h.elim | skip
    rename_i d e p he
    obtain ⟨⟨hp, ha⟩, h2⟩ := hk _ _ _ _ h
    exact ⟨ha, OkL.mk' kb hX.tt hw he hp h2⟩
  · split at h <;> first | exact h.elim | skip
    rename_i j e p he
    obtain ⟨⟨hp, ha⟩, h2⟩ := hk _ _ _ _ h
    exact ⟨ha, OkL.store hX.tt hw he hp h2⟩
  · exact le h
  · exact le h
  · exact le h
  · exact le h
  · rename_i t x ix ho
    split at h
    · rename_i d p he
      obtain ⟨⟨hp, ha⟩, h2⟩ := hk _ _ _ _ h
      exact ⟨ha, OkL.p hX.tt hw he hp h2⟩
    · unfold wpIx at h
      split at h <;> first | exact h.elim | skip
      rename_i i h1
      split at h <;> first | exact h.elim | skip
      rename_i e esz eby ez h2
      split at h <;> first | exact h.elim | skip
      rename_i kk j h3
      split at h <;> first | exact h.elim | skip
      rename_i nn sz es h4
      obtain ⟨ha, ⟨rfl, hj⟩, d, hd, hk'⟩ := h
      exact ⟨ha, OkL.idx hX.tt hw ho h1 h2 h3 h4 hj hd (hk _ _ _ _ hk').2⟩
  · exact qe h
  · exact qe h
  · unfold wpPQ at h
    split at h
    · rename_i d p he
      obtain ⟨⟨hp, ha⟩, h2⟩ := hk _ _ _ _ h
      exact ⟨ha, OkL.p hX.tt hw he hp h2⟩
    · exact qe h
  · exact pe h

def wpSuf (C : Ctx) (X : EV) (kb : Nat) (ops : Array Oper) : List Nat → St → Prop → (Prop → St → Prop) → Prop
  | [], s, acc, K => K acc s
  | i :: l, s, acc, K => match nthO ops.toList i with
    | some o => match o.guard with
      | none => wpO C X (kb + i) (gOpd s.env) s.H s.n o.op acc fun acc d H n => wpSuf C X kb ops l ⟨putE s.env o.dst d, H, n⟩ acc K
      | some _ => match wantD ops s.env o with
        | some b => acc ∧ brB b (wpO C X (kb + i) (gOpd s.env) s.H s.n o.op True fun acc d H n => wpSuf C X kb ops l ⟨putE s.env o.dst d, H, n⟩ acc K)
            (wpSuf C X kb ops l ⟨putE s.env o.dst (.prim (.tuple #[])), s.H, s.n + 1⟩ True K)
        | none => False
    | none => False
theorem getD_of {i : Nat} {o : Oper} (h : nthO ops.toList i = some o) : ops.getD i default = o := by
  have := nthO_arr h
  simp [Array.getD_eq_getD_getElem?, this]
theorem wpSuf_ok {kb : Nat} (hX : WOk C X) {K : Prop → St → Prop} {K' : St → Prop} (hK : ∀ acc s, K acc s → acc ∧ K' s) : ∀ {l : List Nat} {s : St} {acc : Prop}, wpSuf C X kb ops l s acc K →
    acc ∧ OkL C F ops (l.map fun j => ops.getD j default) s K'
  | [], s, acc, h => ⟨(hK _ _ h).1, OkL.nil (hK _ _ h).2⟩
  | i :: l, s, acc, h => by
    simp only [wpSuf] at h
    split at h <;> first | exact h.elim | skip
    rename_i o ho
    rw [List.map_cons, getD_of ho]
    split at h
    · rename_i hg
      exact wpO_ok hX (by unfold wantD; rw [hg]) (fun acc d H n h => wpSuf_ok hX hK h) h
    · split at h <;> first | exact h.elim | skip
      rename_i b hb
      obtain ⟨h0, h⟩ := h
      cases b with
      | true => exact ⟨h0, (wpO_ok hX hb (fun acc d H n h => wpSuf_ok hX hK h) h).2⟩
      | false => exact ⟨h0, OkL.skip hb (wpSuf_ok hX hK h).2⟩

/-! ### one operation that writes in the free part -/
def wpWr (X : EV) (kb : Nat) (e : Ent) (n : Nat) (g : Operand → D) (op : Op) (acc : Prop) (k : Prop → D → Ent → Prop) : Prop := match op with
  | .store _ _ _ => match evS X.tt [e] g op with
    | some (_, e', p) => k (p ∧ acc) (.prim (.tuple #[])) e'
    | none => False
  | _ => match evA X.tt [e] n kb g op with
    | some (d, [e'], p) => k (p ∧ acc) d e'
    | _ => False
def wpPreW (C : Ctx) (X : EV) (kb : Nat) (ops : Array Oper) (iw : Nat) (ia : Option Nat) (R : Hp) (clo : List Nat) (n : Nat) : List Nat → Env → Hp → Option Ent → Option Ent → Prop → (Prop → Env → Hp → Ent → Ent → Prop) → Prop
  | [], env, N, some e, some e', acc, K => K acc env N e e'
  | [], _, _, _, _, _, _ => False
  | i :: l, env, N, accE, acc', acc, K => match nthO ops.toList i with
    | some o => match Nat.beq i iw with
      | true => match acc' with
        | some _ => False
        | none => match accE with
          | some e => match o.guard with
            | none => wpWr X (kb + i) e (n + i) (gOpd env) o.op acc fun acc d e' => wpPreW C X kb ops iw ia R clo n l (putE env o.dst d) N accE (some e') acc K
            | some _ => False
          | none => False
      | false => match isIa ia i with
        | true => match accE with
          | some _ => False
          | none => match o.guard with
            | none => wpE C X (kb + i) (gOpd env) R (n + i) o.op acc fun acc d ne => match ne with
              | some e => wpPreW C X kb ops iw ia R clo n l (putE env o.dst d) N (some e) acc' acc K
              | none => False
            | some _ => False
        | false => match o.guard with
          | none => wpE C X (kb + i) (gOpd env) (hview ia accE R (memB i clo)) (n + i) o.op acc fun acc d ne => wpPreW C X kb ops iw ia R clo n l (putE env o.dst d) (putH ne N) accE acc' acc K
          | some _ => match wantD ops env o with
            | some b => acc ∧ brB b (wpE C X (kb + i) (gOpd env) (hview ia accE R (memB i clo)) (n + i) o.op True fun acc d ne => wpPreW C X kb ops iw ia R clo n l (putE env o.dst d) (putH ne N) accE acc' acc K)
                (wpPreW C X kb ops iw ia R clo n l (putE env o.dst (.prim (.tuple #[]))) N accE acc' True K)
            | none => False
    | none => False

theorem wpWr_ok (hX : WOk C X) {kb iw : Nat} {ia : Option Nat} {R : Hp} {e : Ent} {n : Nat} {env : Env} {o : Oper} {acc : Prop} {k : Prop → D → Ent → Prop} (hw : wantD ops env o = some true) (hk : ∀ acc d e', k acc d e' → acc) (h : wpWr X kb e n (gOpd env) o.op acc k) :
    acc ∧ ∃ acc' d e', SteadyW C F ops ⟨iw, ia, e, e', R⟩ n env o d ∧ k acc' d e' := by
  unfold wpWr at h
  split at h
  · split at h <;> first | exact h.elim | skip
    rename_i e' p he
    have := hk _ _ _ h
    exact ⟨this.2, _, _, _, SteadyW.store (W := ⟨iw, ia, e, e', R⟩) hX.tt hw he this.1, h⟩
  · split at h <;> first | exact h.elim | skip
    rename_i d e' p he
    have := hk _ _ _ h
    exact ⟨this.2, _, _, _, SteadyW.app (W := ⟨iw, ia, e, e', R⟩) kb hX.tt hw he this.1, h⟩

/-- the block that is written is known before and behind -/
theorem wpPreW_ok (hX : WOk C X) {kb iw : Nat} {ia : Option Nat} {R : Hp} {clo : List Nat} {n : Nat} (hwa : ia ≠ some iw) (hclo : ∀ j ∈ clo, Reach ops iw j) {K : Prop → Env → Hp → Ent → Ent → Prop} (hK : ∀ acc env N e e', K acc env N e e' → acc) :
    ∀ {l : List Nat} {env : Env} {N : Hp} {accE acc' : Option Ent} {acc : Prop}, wpPreW C X kb ops iw ia R clo n l env N accE acc' acc K →
    acc ∧ ∃ q env' N' e e', (∀ a, accE = some a → e = a) ∧ (∀ a, acc' = some a → e' = a) ∧ DTrW C F ops ⟨iw, ia, e, e', R⟩ n l env N env' N' ∧ K q env' N' e e'
  | [], env, N, accE, acc', acc, h => by
    cases accE with
    | none => simp only [wpPreW] at h
    | some e => cases acc' with
      | none => simp only [wpPreW] at h
      | some e' =>
        simp only [wpPreW] at h
        exact ⟨hK _ _ _ _ _ h, _, _, _, e, e', fun a ha => by cases ha; rfl, fun a ha => by cases ha; rfl, .nil _ _, h⟩
  | i :: l, env, N, accE, acc', acc, h => by
    simp only [wpPreW] at h
    split at h <;> first | exact h.elim | skip
    rename_i o ho
    have ho := nthO_arr ho
    split at h
    · rename_i hb
      have hb := Nat.eq_of_beq_eq_true hb
      split at h <;> first | exact h.elim | skip
      split at h <;> first | exact h.elim | skip
      rename_i e0
      split at h <;> first | exact h.elim | skip
      rename_i hg
      have hw : wantD ops env o = some true := by unfold wantD; rw [hg]
      obtain ⟨h1, acc1, d, e1, h2, h3⟩ := wpWr_ok (F := F) (iw := iw) (ia := ia) (R := R) hX hw (fun acc d e' h => (wpPreW_ok hX hwa hclo hK h).1) h
      obtain ⟨_, q, env', N', e, e', h4, h5, h6, h7⟩ := wpPreW_ok hX hwa hclo hK h3
      have := h4 _ rfl
      subst this
      have := h5 _ rfl
      subst this
      exact ⟨h1, q, env', N', _, _, h4, by simp, .cons (ne := none) ho (.inr (.inl ⟨hb, by rw [hb]; exact hwa, rfl, h2⟩)) h6, h7⟩
    · rename_i hb
      have hne : i ≠ iw := fun hi => by rw [hi, Nat.beq_refl] at hb; cases hb
      split at h
      · rename_i hi
        have hi := isIa_iff.1 hi
        split at h <;> first | exact h.elim | skip
        split at h <;> first | exact h.elim | skip
        rename_i hg
        have hw : wantD ops env o = some true := by unfold wantD; rw [hg]
        obtain ⟨h1, acc1, d, ne, h2, h3⟩ := wpE_ok (F := F) hX hw (fun acc d ne h => by
          split at h
          · exact (wpPreW_ok hX hwa hclo hK h).1
          · exact h.elim) h
        split at h3 <;> first | exact h3.elim | skip
        rename_i e0
        obtain ⟨_, q, env', N', e, e', h4, h5, h6, h7⟩ := wpPreW_ok hX hwa hclo hK h3
        have := h4 _ rfl
        subst this
        exact ⟨h1, q, env', N', _, _, by simp, h5, .cons (ne := none) ho (.inr (.inr ⟨hne, hi, rfl, h2⟩)) h6, h7⟩
      · rename_i hi
        have hi : ia ≠ some i := fun h => by rw [isIa_iff.2 h] at hi; cases hi
        have st : ∀ {e : Ent} {d : D} {ne : Option Ent} (e' : Ent), (∀ a, accE = some a → e = a) → Steady C F ops (hview ia accE R (memB i clo)) (n + i) env o d ne → StOr C F ops ⟨iw, ia, e, e', R⟩ (n + i) env ⟨i, o, d, ne⟩ := fun {e d ne} e' hacc hst => by
          refine .inl ⟨hne, hi, ?_⟩
          unfold hview at hst
          cases ia with
          | some ia => exact .inr hst
          | none =>
            cases accE with
            | none => exact .inr hst
            | some a =>
              have := hacc a rfl
              subst this
              dsimp only at hst
              cases hm : memB i clo with
              | true => rw [hm] at hst; exact .inl ⟨rfl, hclo i (memB_iff.1 hm), hst⟩
              | false => rw [hm] at hst; exact .inr hst
        have step : ∀ acc, wantD ops env o = some true → (wpE C X (kb + i) (gOpd env) (hview ia accE R (memB i clo)) (n + i) o.op acc fun acc d ne => wpPreW C X kb ops iw ia R clo n l (putE env o.dst d) (putH ne N) accE acc' acc K) →
            acc ∧ ∃ q env' N' e e', (∀ a, accE = some a → e = a) ∧ (∀ a, acc' = some a → e' = a) ∧ DTrW C F ops ⟨iw, ia, e, e', R⟩ n (i :: l) env N env' N' ∧ K q env' N' e e' := fun acc hw h => by
          obtain ⟨h1, acc1, d, ne, h2, h3⟩ := wpE_ok (F := F) hX hw (fun acc d ne h => (wpPreW_ok hX hwa hclo hK h).1) h
          obtain ⟨_, q, env', N', e, e', h4, h5, h6, h7⟩ := wpPreW_ok hX hwa hclo hK h3
          exact ⟨h1, q, env', N', e, e', h4, h5, .cons ho (st e' h4 h2) h6, h7⟩
        split at h
        · rename_i hg
          exact step _ (by unfold wantD; rw [hg]) h
        · split at h <;> first | exact h.elim | skip
          rename_i b hb
          obtain ⟨h0, h⟩ := h
          cases b with
          | true => exact ⟨h0, (step _ hb h).2⟩
          | false =>
            obtain ⟨_, q, env', N', e, e', h4, h5, h6, h7⟩ := wpPreW_ok hX hwa hclo hK h
            exact ⟨h0, q, env', N', e, e', h4, h5, .cons (ne := none) ho (st e' h4 (Steady.skip hb)) h6, h7⟩

/-! ### code: the goals -/
/-- the frame F' is a later one of the same activation -/
structure Fle (C : Ctx) (F F' : Fra) : Prop where
  nt : F'.nt = F.nt
  sz : F.w0.heap.size ≤ F'.w0.heap.size
  mem : ∀ {ρ : Lk} {H : Hp} {w : World}, Mem C F' ρ H w → Mem C F ρ H w
  X : ∀ b, F.X b → F'.X b
  df : ∃ ms : List Deferred, F'.df = ms ++ F.df ∧ (∃ rs : List Nat, ms = rs.map (fun r => { target := .collected r, args := #[] }) ∧ rs.Nodup ∧
    ∀ r ∈ rs, F.w0.heap.size ≤ r ∧ r < F'.w0.heap.size ∧ F'.X r ∧ ∀ (ρ : Lk) (H : Hp) (w : World), Mem C F' ρ H w → w.heap[r]? = some (.deferred (some [])))
theorem Fle.refl (F : Fra) : Fle C F F := ⟨rfl, Nat.le_refl _, fun h => h, fun _ h => h, [], rfl, [], rfl, .nil, by simp⟩
theorem Fle.trans {F F' F'' : Fra} (h : Fle C F F') (k : Fle C F' F'') : Fle C F F'' := by
  obtain ⟨h1, h2, h3, h4, ms, e1, rs, e2, n1, q1⟩ := h
  obtain ⟨k1, k2, k3, k4, ms', e1', rs', e2', n1', q1'⟩ := k
  refine ⟨k1.trans h1, Nat.le_trans h2 k2, fun h => h3 (k3 h), fun b hb => k4 b (h4 b hb), ms' ++ ms, by rw [e1', e1, List.append_assoc], rs' ++ rs, by rw [e2, e2', List.map_append], ?_, ?_⟩
  · refine List.nodup_append.2 ⟨n1', n1, fun x hx y hy he => ?_⟩
    have := (q1' x hx).1
    have := (q1 y hy).2.1
    omega
  · intro r hr
    rcases List.mem_append.1 hr with hr | hr
    · obtain ⟨x1, x2, x3, x4⟩ := q1' r hr
      exact ⟨by omega, x2, x3, x4⟩
    · obtain ⟨x1, x2, x3, x4⟩ := q1 r hr
      exact ⟨x1, by omega, k4 _ x3, fun ρ H w m => x4 ρ H w (k3 m)⟩

/-- what is owed at a way out -/
def PostF (C : Ctx) (F : Fra) (Q : Exit → Fra → St → Prop) : Exit → Act → World → Prop := fun e a w => ∃ F' s' ρ', Fle C F F' ∧ Q e F' s' ∧ Sat C F' ρ' s' a w
theorem PostF.up {F F' : Fra} {Q : Exit → Fra → St → Prop} (h : Fle C F F') {e : Exit} {a : Act} {w : World} : PostF C F' Q e a w → PostF C F Q e a w := fun ⟨F2, s', ρ', h1, h2, h3⟩ => ⟨F2, s', ρ', h.trans h1, h2, h3⟩

/-- from here on the code does what is wanted, in a round of loop rd or in none (kept from being looked into); B: the frame in which the activation began -/
structure OkS (C : Ctx) (B : Fra) (rd : Option Nat) (F : Fra) (c : Code) (s : St) (Q : Exit → Fra → St → Prop) : Prop where
  out : Fle C B F → codeDst B.nt c = true → ∀ (ρ : Lk) (a : Act) (w : World), Sat C F ρ s a w → c.wpIn (fw rd) 0 C.P (PostF C B Q) a w

variable {s : St} {rd : Option Nat} {B : Fra} {Q : Exit → Fra → St → Prop}

theorem OkS.mono {c : Code} {Q' : Exit → Fra → St → Prop} (h : OkS C B rd F c s Q) (hq : ∀ e F s, Q e F s → Q' e F s) : OkS C B rd F c s Q' :=
  ⟨fun hB hd ρ a w hs => wpIn_mono (h.out hB hd ρ a w hs) fun e a w ⟨F', s', ρ', h1, h2, h3⟩ => ⟨F', s', ρ', h1, hq _ _ _ h2, h3⟩⟩
theorem OkS.skip (h : Q .normal F s) : OkS C B rd F .skip s Q := ⟨fun hB _ ρ _ _ hs => wpIn_skip ⟨F, s, ρ, hB, h, hs⟩⟩
theorem OkS.ret (h : Q .ret F s) : OkS C B rd F .ret s Q := ⟨fun hB _ ρ _ _ hs => wpIn_ret ⟨F, s, ρ, hB, h, hs⟩⟩
theorem OkS.exit {i : Nat} (h : Q (.exit i) F s) : OkS C B rd F (.exit i) s Q := ⟨fun hB _ ρ _ _ hs => wpIn_exit ⟨F, s, ρ, hB, h, hs⟩⟩
/-- what comes next, by the way out -/
def nextB (n : Prop) (r : Exit → Prop) (e : Exit) : Prop := match e with
  | .normal => n
  | .ret => r .ret
  | .exit j => r (.exit j)
  | .goto l => r (.goto l)
  | .panic c => r (.panic c)
  | .outgrown => r .outgrown
theorem codeDst_seq {nt : Nat} {a b : Code} (h : codeDst nt (.seq a b) = true) : codeDst nt a = true ∧ codeDst nt b = true := by simpa [codeDst] using h
theorem OkS.seq {a b : Code} (h : OkS C B rd F a s (fun e F s => nextB (OkS C B rd F b s Q) (fun e => Q e F s) e)) : OkS C B rd F (.seq a b) s Q :=
  ⟨fun hB hd ρ x w hs => by
    obtain ⟨d1, d2⟩ := codeDst_seq hd
    refine wpIn_seq (wpIn_mono (h.out hB d1 ρ x w hs) ?_)
    rintro e a' w' ⟨F', s', ρ', h1, h2, h3⟩
    cases e with
    | normal => exact (show OkS C B rd F' b s' Q from h2).out h1 d2 ρ' a' w' h3
    | ret => exact ⟨F', s', ρ', h1, h2, h3⟩
    | exit j => exact ⟨F', s', ρ', h1, h2, h3⟩
    | goto l => exact ⟨F', s', ρ', h1, h2, h3⟩
    | panic c => exact ⟨F', s', ρ', h1, h2, h3⟩
    | outgrown => exact ⟨F', s', ρ', h1, h2, h3⟩⟩
def wpCond (d : D) (y n : Prop) : Prop := match d with
  | .prim (.bool b) => brB b y n
  | _ => False
theorem OkS.cond {c : Operand} {a b : Code} (h : wpCond (gOpd s.env c) (OkS C B rd F a s Q) (OkS C B rd F b s Q)) : OkS C B rd F (.cond c a b) s Q := by
  unfold wpCond at h
  split at h
  · rename_i t ht
    refine ⟨fun hB hd ρ x w hs => ?_⟩
    simp only [codeDst, Bool.and_eq_true] at hd
    have hc : x.eval c = .bool t := by
      have := gOpd_rep hs.env c
      rw [ht] at this
      generalize x.eval c = v at this
      cases this; rfl
    refine wpIn_cond_split hc (fun ht => ?_) fun ht => ?_
    · subst ht; exact OkS.out h hB hd.1 ρ x w hs
    · subst ht; exact OkS.out h hB hd.2 ρ x w hs
  · exact h.elim
def exitB (i : Nat) (n : Prop) (r : Exit → Prop) (e : Exit) : Prop := match e with
  | .exit j => bif Nat.beq j i then n else r (.exit j)
  | .normal => r .normal
  | .ret => r .ret
  | .goto l => r (.goto l)
  | .panic c => r (.panic c)
  | .outgrown => r .outgrown
theorem OkS.block {i : Nat} {b : Code} (h : OkS C B rd F b s (fun e F s => exitB i (Q .normal F s) (fun e => Q e F s) e)) : OkS C B rd F (.block i b) s Q :=
  ⟨fun hB hd ρ x w hs => by
    refine wpIn_block (wpIn_mono (h.out hB (by simpa [codeDst] using hd) ρ x w hs) ?_)
    rintro e a' w' ⟨F', s', ρ', h1, h2, h3⟩
    cases e with
    | normal => exact ⟨F', s', ρ', h1, h2, h3⟩
    | ret => exact ⟨F', s', ρ', h1, h2, h3⟩
    | exit j =>
      simp only [exitB] at h2
      simp only [Exit.inBlock]
      cases hb : Nat.beq j i with
      | true => rw [hb] at h2; rw [if_pos (Nat.eq_of_beq_eq_true hb)]; exact ⟨F', s', ρ', h1, h2, h3⟩
      | false => rw [hb] at h2; rw [if_neg (fun hj => by rw [hj, Nat.beq_refl] at hb; cases hb)]; exact ⟨F', s', ρ', h1, h2, h3⟩
    | goto l => exact ⟨F', s', ρ', h1, h2, h3⟩
    | panic c => exact ⟨F', s', ρ', h1, h2, h3⟩
    | outgrown => exact ⟨F', s', ρ', h1, h2, h3⟩⟩

/-- no operation defers -/
def isDefer : Op → Bool
  | .defer _ => true
  | _ => false
def noDef : List Oper → Bool
  | [] => true
  | o :: l => match isDefer o.op with
    | true => false
    | false => noDef l
theorem noDef_ok {l : List Oper} (h : noDef l = true) : ∀ o ∈ l, ∀ c, o.op ≠ .defer c := by
  induction l with
  | nil => intro o ho; cases ho
  | cons o l ih =>
    intro o' ho c hc
    have h1 : isDefer o.op = false ∧ noDef l = true := by
      rw [noDef] at h
      generalize isDefer o.op = b at h ⊢
      cases b with
      | true => cases h
      | false => exact ⟨rfl, h⟩
    rcases List.mem_cons.1 ho with h2 | h2
    · rw [← h2, hc] at h1; cases h1.1
    · exact ih h1.2 o' h2 c hc
theorem noDef_at (h : noDef ops.toList = true) : ∀ (i : Nat) (o : Oper), ops[i]? = some o → ∀ c, o.op ≠ .defer c := fun i o ho => noDef_ok h o (Array.mem_toList_iff.2 (Array.mem_of_getElem? ho))
theorem OkL.run {K : St → Prop} {l : List Nat} (h : OkL C F ops (l.map fun j => ops.getD j default) s K) (hlt : ∀ j ∈ l, j < ops.size) (hd : ops.toList.all (dstOk F.nt) = true) {ρ : Lk} {a : Act} {w : World} (hs : Sat C F ρ s a w) : wpOps C.P ops (Fin C F K) l a w := by
  refine h ?_ l ?_ ρ a w hs
  · rw [List.all_eq_true]
    intro o' ho'
    obtain ⟨j, hj, rfl⟩ := List.mem_map.1 ho'
    refine List.all_eq_true.1 hd _ ?_
    rw [Array.getD_eq_getD_getElem?, Array.getElem?_eq_getElem (hlt j hj)]
    simp
  · rw [List.map_map]
    refine List.map_congr_left fun j hj => ?_
    simp [Array.getD_eq_getD_getElem?, Array.getElem?_eq_getElem (hlt j hj)]
theorem fin_post {K : St → Prop} (hB : Fle C B F) (hK : ∀ s, K s → Q .normal F s) {e : Exit} {a : Act} {w : World} (h : Fin C F K e a w) : e = .normal ∧ PostF C B Q .normal a w := by
  obtain ⟨h0, s', ρ', h1, h2⟩ := h
  exact ⟨h0, F, s', ρ', hB, hK _ h1, h2⟩
theorem dst_reg {i : Nat} {d : Bool} (hB : Fle C B F) (h : codeDst B.nt (.region i ops d) = true) : ops.toList.all (dstOk F.nt) = true := by rw [hB.nt]; exact h
theorem OkS.reg {i : Nat} (hX : WOk C X) (kb : Nat) (hnd : noDef ops.toList = true) (h : wpSuf C X kb ops (List.range ops.size) s True fun acc s => acc ∧ Q .normal F s) : OkS C B rd F (.region i ops false) s Q := by
  refine ⟨fun hB hd ρ a w hs => wpIn_region ?_⟩
  have hd := dst_reg hB hd
  have h1 := (wpSuf_ok (F := F) (K' := Q .normal F) hX (fun acc s h => h) h).2.run (fun j hj => List.mem_range.1 hj) hd hs
  have := wpOps_in (rd := rd) (Q := PostF C B Q) (l2 := []) (fun _ _ _ h => fin_post hB (fun _ h => h) h) (noDef_at hnd) _ a w h1
  rwa [List.append_nil] at this
theorem OkS.regD {i : Nat} (hX : WOk C X) (kb : Nat) (pre suf : List Nat) (hc : (chkD ops pre suf && noDef ops.toList) = true)
    (h : wpPre C X kb ops s.H s.n pre s.env [] True fun acc env N => wpSuf C X kb ops suf ⟨env, N ++ s.H, s.n + lenO ops.toList⟩ acc fun acc s => acc ∧ Q .normal F s) : OkS C B rd F (.region i ops true) s Q := by
  have hsz : ops.size = lenO ops.toList := by rw [lenO_eq, Array.length_toList]
  rw [← hsz] at h
  simp only [Bool.and_eq_true] at hc
  obtain ⟨_, acc, env, N, h1, h2⟩ := wpPre_acc (F := F) hX (fun acc env N h => (wpSuf_ok (F := F) (K' := Q .normal F) hX (fun acc s h => h) h).1) h
  refine ⟨fun hB hd ρ a w hs => ?_⟩
  have hd := dst_reg hB hd
  refine drawI hX.mixed hc.1 h1 (fun hlt ρ a w hs => ?_) hd ρ a w hs
  have h3 := (wpSuf_ok (F := F) (K' := Q .normal F) hX (fun acc s h => h) h2).2.run hlt hd hs
  have := wpOps_in (rd := rd) (Q := PostF C B Q) (l2 := []) (fun _ _ _ h => fin_post hB (fun _ h => h) h) (noDef_at hc.2) _ a w h3
  rwa [List.append_nil] at this
/-- the block with this name is written in the free part -/
def withE (H : Hp) (k : Nat) (K : Ent → Hp → Prop) : Prop := match Hp.get H k with
  | some e => K e (Hp.del H k)
  | none => False
theorem drawW_in {i : Nat} {W : WR} {pre suf : List Nat} {envF : Env} {N : Hp} (hm : C.P.follows .mixedOrders = true) (hc : chkD ops pre suf = true) (hnd : noDef ops.toList = true)
    (hH : s.H.Perm W.start) (hga : ∀ ia, W.ia = some ia → W.e.g = s.n + ia ∧ Reach ops W.iw ia ∧ ia ∈ pre) (hiw : W.iw ∈ pre) (hwg : W.e'.g = W.e.g ∨ W.e'.g = s.n + W.iw)
    (hpre : DTrW C F ops W s.n pre s.env [] envF N)
    (h : OkL C F ops (suf.map fun j => ops.getD j default) ⟨envF, N ++ W.e' :: W.R, s.n + ops.size⟩ (Q .normal F)) : OkS C B rd F (.region i ops true) s Q :=
  ⟨fun hB hd ρ a w hs => wpIn_region_any hm (wpAny_in (fun _ _ _ h => fin_post (F := F) hB (fun _ h => h) h) (noDef_at hnd) _ _ _ _ (Ok.drawWA (Q := fun e s => Q e F s) hc hH hga hiw hwg hpre h (dst_reg hB hd) ρ a w hs))⟩
theorem OkL.perm {os : List Oper} {env : Env} {H H' : Hp} {n : Nat} {K : St → Prop} (hp : H.Perm H') (h : OkL C F ops os ⟨env, H, n⟩ K) : OkL C F ops os ⟨env, H', n⟩ K := fun hd l hl ρ a w hs =>
  h hd l hl ρ a w ⟨hs.mem.perm hp.symm, hs.fresh, fun e he => hs.gen e (hp.mem_iff.1 he), fun t => by
    show Rep ρ (Own F.X ρ H) w _ _
    rw [Own.perm hp]; exact hs.env t, hs.nt, hs.dfr⟩
theorem OkS.regW {i : Nat} (hX : WOk C X) (kb : Nat) (pre suf : List Nat) (iw : Nat) (clo : List Nat) (k : Nat) (hc : (chkD ops pre suf && noDef ops.toList) = true) (hcl : (memB iw pre && allMem clo (look2 (cloT ops (pre ++ suf) []) iw)) = true)
    (h : withE s.H k fun e R => wpPreW C X kb ops iw none R clo s.n pre s.env [] (some e) none True fun acc env N e e' => (e'.g = e.g ∨ e'.g = s.n + iw) ∧ wpSuf C X kb ops suf ⟨env, N ++ Hp.set s.H k e', s.n + lenO ops.toList⟩ acc fun acc s => acc ∧ Q .normal F s) :
    OkS C B rd F (.region i ops true) s Q := by
  have hsz : ops.size = lenO ops.toList := by rw [lenO_eq, Array.length_toList]
  rw [← hsz] at h
  unfold withE at h
  split at h <;> first | exact h.elim | skip
  rename_i e0 he0
  simp only [Bool.and_eq_true] at hcl hc
  have hclo : ∀ j ∈ clo, Reach ops iw j := fun j hj => look2_reach (cloT_reach _ _ (by simp)) _ _ (allMem_iff.1 hcl.2 j hj)
  obtain ⟨_, q, env, N, e, e', h1, h2, h3, h4, h5⟩ := wpPreW_ok (F := F) hX (by simp) hclo (fun acc env N e e' h => (wpSuf_ok (F := F) (K' := Q .normal F) hX (fun acc s h => h) h.2).1) h
  have := h1 _ rfl
  subst this
  obtain ⟨H1, H2, q1, _, q3⟩ := Hp.set_split e he0
  obtain ⟨H1', H2', q1', q2', q3'⟩ := Hp.set_split e' he0
  refine drawW_in (W := ⟨iw, none, e, e', Hp.del s.H k⟩) hX.mixed hc.1 hc.2 ?_ (by simp) (memB_iff.1 hcl.1) h4 h3 (OkL.perm ?_ (wpSuf_ok (F := F) hX (fun acc s h => h) h5).2)
  · rw [q3]; unfold WR.start
    dsimp only
    rw [q1]; exact List.perm_middle
  · rw [q2', q3']
    exact List.Perm.append_left _ List.perm_middle
theorem OkS.regWa {i : Nat} (hX : WOk C X) (kb : Nat) (pre suf : List Nat) (iw ia : Nat) (clo : List Nat) (hc : (chkD ops pre suf && noDef ops.toList) = true) (hcl : (memB iw pre && memB ia pre && memB ia clo && !(Nat.beq ia iw) && allMem clo (look2 (cloT ops (pre ++ suf) []) iw)) = true)
    (h : wpPreW C X kb ops iw (some ia) s.H clo s.n pre s.env [] none none True fun acc env N e e' => (e.g = s.n + ia ∧ (e'.g = e.g ∨ e'.g = s.n + iw)) ∧ wpSuf C X kb ops suf ⟨env, N ++ e' :: s.H, s.n + lenO ops.toList⟩ acc fun acc s => acc ∧ Q .normal F s) :
    OkS C B rd F (.region i ops true) s Q := by
  have hsz : ops.size = lenO ops.toList := by rw [lenO_eq, Array.length_toList]
  rw [← hsz] at h
  simp only [Bool.and_eq_true, Bool.not_eq_true'] at hcl hc
  obtain ⟨⟨⟨⟨c1, c2⟩, c3⟩, c4⟩, c5⟩ := hcl
  have hclo : ∀ j ∈ clo, Reach ops iw j := fun j hj => look2_reach (cloT_reach _ _ (by simp)) _ _ (allMem_iff.1 c5 j hj)
  have hne : ia ≠ iw := fun h => by rw [h, Nat.beq_refl] at c4; cases c4
  obtain ⟨_, q, env, N, e, e', h1, h2, h3, ⟨h4, h6⟩, h5⟩ := wpPreW_ok (F := F) hX (fun h => hne (by simpa using h)) hclo (fun acc env N e e' h => (wpSuf_ok (F := F) (K' := Q .normal F) hX (fun acc s h => h) h.2).1) h
  exact drawW_in (W := ⟨iw, some ia, e, e', s.H⟩) hX.mixed hc.1 hc.2 (List.Perm.refl _) (fun j hj => by cases hj; exact ⟨h4, hclo ia (memB_iff.1 c3), memB_iff.1 c2⟩) (memB_iff.1 c1) h6 h3 (wpSuf_ok (F := F) hX (fun acc s h => h) h5).2

/-- seen more loosely -/
structure Wk (s s' : St) : Prop where
  h : FzH s.H s'.H s.H s'.H
  e : EnvFz s.H s'.H s.env s'.env
  n : s.n ≤ s'.n
theorem OkS.weak {c : Code} (s' : St) (h : Wk s s') (hk : OkS C B rd F c s' Q) : OkS C B rd F c s Q := ⟨fun hB hd ρ a w hs => hk.out hB hd ρ a w (hs.weak h.h h.e h.n)⟩
theorem wpIn_loop_at {Fe : Fence} {n : Nat} {P : Program} {c : Code} {Q : Exit → Act → World → Prop} (I : Nat → Act → World → Prop) {m : Nat} {a : Act} {w : World} (h₀ : I m a w)
    (round : ∀ m a w, I m a w → c.wpIn Fe n P (Exit.then (fun a' w' => ∃ m', m' < m ∧ I m' a' w') Q) a w) : (Code.loop c).wpIn Fe n P Q a w := by
  intro b k cs hro hb hr
  have key : ∀ m a w, I m a w → ∃ e a' w', Q e a' w' ∧ ArrivesIn (Machine.fenced P Fe) P (lone (b.atR a (.code c :: .inLoop c :: k)) cs w) b k cs e a' w' := by
    intro m
    induction m using Nat.strongRecOn with
    | _ m ih =>
      intro a w hI
      obtain ⟨e, a₁, w₁, hq, harr⟩ := round m a w hI b (.inLoop c :: k) cs hro hb hr
      cases e with
      | normal =>
        obtain ⟨m', hlt, hI₁⟩ := hq
        obtain ⟨e₂, a₂, w₂, hq₂, harr₂⟩ := ih m' hlt a₁ w₁ hI₁
        exact ⟨e₂, a₂, w₂, hq₂, .of_steps (StepsIn.trans harr (.one (fenced_calm hb hr rfl) stepR_inLoop)) harr₂⟩
      | exit id => exact ⟨_, a₁, w₁, hq, .pass (x := .inLoop c) rfl (fun _ _ => .inl (by simp)) harr⟩
      | goto l => exact ⟨_, a₁, w₁, hq, .pass (x := .inLoop c) rfl (fun _ _ => .inl (by simp)) harr⟩
      | ret => exact ⟨_, a₁, w₁, hq, .pass (x := .inLoop c) rfl (fun _ _ => .inl (by simp)) harr⟩
      | panic ch => exact ⟨_, a₁, w₁, hq, .pass (x := .inLoop c) rfl (fun _ _ => .inl (by simp)) harr⟩
      | outgrown => exact ⟨_, a₁, w₁, hq, .pass (x := .inLoop c) rfl (fun _ _ => .inl (by simp)) harr⟩
  obtain ⟨e, a', w', hq, harr⟩ := key _ a w h₀
  exact ⟨e, a', w', hq, .of_steps (.one (fenced_calm hb hr rfl) stepR_loop) harr⟩
theorem OkS.loopF {b : Code} {α : Type} (sh : α → St) (μ : α → Nat) (J : α → Fra → Prop) (a0 : α) (h0 : J a0 F) (hs : Wk s (sh a0))
    (h : ∀ a F', J a F' → OkS C B rd F' b (sh a) (fun e F' s' => nextB (∃ a', J a' F' ∧ μ a' < μ a ∧ Wk s' (sh a')) (fun e => Q e F' s') e)) : OkS C B rd F (.loop b) s Q := by
  refine ⟨fun hB hd ρ x w hsat => ?_⟩
  have hd' : codeDst B.nt b = true := by simpa [codeDst] using hd
  refine wpIn_loop_at (fun m x w => ∃ (F' : Fra) (a : α) (s1 : St) (ρ : Lk), μ a = m ∧ Fle C B F' ∧ J a F' ∧ Wk s1 (sh a) ∧ Sat C F' ρ s1 x w) ⟨F, a0, s, ρ, rfl, hB, h0, hs, hsat⟩ ?_
  rintro m x w ⟨F', a, s1, ρ, hm, hF, ha, hw, hsat⟩
  refine wpIn_mono ((h a F' ha).out hF hd' ρ x w (hsat.weak hw.h hw.e hw.n)) ?_
  rintro e a' w' ⟨F2, s2, ρ2, h1, h2, h3⟩
  cases e with
  | normal =>
    obtain ⟨a2, q1, q2, q3⟩ := (show ∃ a', J a' F2 ∧ μ a' < μ a ∧ Wk s2 (sh a') from h2)
    exact ⟨μ a2, hm ▸ q2, F2, a2, s2, ρ2, rfl, h1, q1, q3, h3⟩
  | ret => exact ⟨F2, s2, ρ2, h1, h2, h3⟩
  | exit j => exact ⟨F2, s2, ρ2, h1, h2, h3⟩
  | goto l => exact ⟨F2, s2, ρ2, h1, h2, h3⟩
  | panic c => exact ⟨F2, s2, ρ2, h1, h2, h3⟩
  | outgrown => exact ⟨F2, s2, ρ2, h1, h2, h3⟩
theorem OkS.loop {b : Code} {α : Type} (sh : α → St) (μ : α → Nat) (J : α → Prop) (a0 : α) (h0 : J a0) (hs : Wk s (sh a0))
    (h : ∀ a F', J a → OkS C B rd F' b (sh a) (fun e F' s' => nextB (∃ a', J a' ∧ μ a' < μ a ∧ Wk s' (sh a')) (fun e => Q e F' s') e)) : OkS C B rd F (.loop b) s Q :=
  OkS.loopF sh μ (fun a _ => J a) a0 h0 hs h

/-! ### short names -/
abbrev i64 (z : Int) : D := .prim (.int .i64 z)
abbrev u64 (z : Int) : D := .prim (.int .u64 z)
abbrev str (s : ByteArray) : D := .prim (.string s)
abbrev boo (b : Bool) : D := .prim (.bool b)
abbrev nilS : D := .prim (.slice none 0 0)
theorem exact_res {H : Hp} {d0 d : D} (hd : d0 = d) (hp : Pure d0) : ∃ d', Fz H [] d0 d' ∧ Pure d' ∧ d' = d := ⟨d0, .refl _, hp, hd⟩
theorem FzL.refl {H Hf : Hp} : ∀ ds : List D, FzL H Hf ds ds
  | [] => trivial
  | _ :: l => ⟨.refl _, FzL.refl l⟩
/-- a call: the answer by a contract, the arguments as they are -/
theorem CallW.same {C : Ctx} {f : Nat} {ds : List D} {k : D → Prop} (d : D) (hc : ICalls C f ds d) (hp : ArePure ds) (hk : k d) : CallW C f ds k := .mk ds d (FzL.refl _) hc hp hk
theorem CallO.same {C : Ctx} {f : Nat} {ds : List D} {H : Hp} {n : Nat} {k : D → Hp → Nat → Prop} (d : D) (hc : ICalls C f ds d) (hp : ArePure ds) (hk : k d H (n + 1)) : CallO C f ds H n k := .pure ds d (FzL.refl _) hc hp hk
end
end Go.Ide

/- The ideal layer, part 24: frames within a call: blocks that may turn besides the own ones; contracts by walks. -/
namespace Go.Ide
open Go.RowKit

/-- a later frame of the same activation: what may be read as settled, what may turn besides -/
def Fra.subZ (ρ : Lk) (H : Hp) (w : World) (nt : Nat) (X' Z : Nat → Prop) (df : List Deferred) : Fra := ⟨w, X', fun b => (∃ e ∈ H, ρ e.k e.g = some b) ∨ Z b, nt, ρ, df⟩

section
variable {C : Ctx} {F : Fra} {ρ : Lk} {H : Hp} {w w1 : World} {X' Z : Nat → Prop}

theorem Mem.enterZ (m : Mem C F ρ H w) (x : Ext ρ (Own F.X ρ H) w ρ (Own X' ρ H) w1) (h1 : w1.os = w.os) (h2 : w1.tape = w.tape) (h3 : w1.output = w.output)
    (h4 : ∀ b, b < w.heap.size → ¬ Z b → w1.heap[b]? = w.heap[b]?) (hZo : ∀ e ∈ H, ∀ b, ρ e.k e.g = some b → ¬ Z b) (hX : ∀ b, X' b → b < w1.heap.size) (hXo : ∀ e ∈ H, ∀ b, ρ e.k e.g = some b → ¬ X' b) (hZ : ∀ b, Z b → C.nG ≤ b) (nt : Nat) (df : List Deferred) :
    Mem C (Fra.subZ ρ H w1 nt X' Z df) ρ H w1 where
  hok := ⟨fun e he => by
    rcases m.hok.ent e he with h | ⟨b, cs, a1, a2, a3⟩
    · exact .inl h
    · exact .inr ⟨b, cs, a1, by rw [h4 b (m.lt he a1) (hZo e he b a1)]; exact a2, a3.mono x⟩, m.hok.inj, fun e he b hb => ⟨hXo e he b hb, .inr (.inl ⟨e, he, hb⟩)⟩⟩
  os := rfl
  tape := rfl
  output := rfl
  size := Nat.le_refl _
  blk := fun _ _ _ => rfl
  xlt := hX
  g0 := C.hG _ _ m.g ⟨h1, h2, h3, x.size, fun b hb => h4 b (Nat.lt_of_lt_of_le hb (Nat.le_trans m.gn m.size)) fun hz => absurd (hZ b hz) (by omega)⟩
  gn := Nat.le_trans m.gn (Nat.le_trans m.size x.size)
  gw := fun b h => by
    rcases h with ⟨e, he, hb⟩ | h
    · rcases (m.hok.own e he b hb).2 with h | h
      · exact Nat.le_trans m.gn h
      · exact m.gw b h
    · exact hZ b h
  lnk := fun _ _ _ h => h
  shp := fun _ cs _ _ h => ⟨cs, h, rfl⟩

theorem Mem.leaveZ {nt : Nat} {df : List Deferred} {ρ' : Lk} {H' : Hp} {w' : World} (m : Mem C F ρ H w1) (hX : ∀ b, F.X b → X' b) (hZ : ∀ b, Z b → F.w0.heap.size ≤ b ∨ F.Wr b) (m' : Mem C (Fra.subZ ρ H w1 nt X' Z df) ρ' H' w') :
    Mem C F ρ' H' w' ∧ Ext ρ (fun b => Own F.X ρ H b ∨ Z b) w1 ρ' (Own F.X ρ' H') w' := by
  have hwr : ∀ b, (∃ e ∈ H, ρ e.k e.g = some b) → ¬ F.X b ∧ (F.w0.heap.size ≤ b ∨ F.Wr b) := fun b ⟨e, he, hb⟩ => m.hok.own e he b hb
  have x : Ext ρ (fun b => Own F.X ρ H b ∨ Z b) w1 ρ' (Own F.X ρ' H') w' := by
    refine ⟨m'.size, m'.lnk, fun b hb hO => ⟨?_, m'.blk b hb fun h => ?_⟩, m'.shp⟩
    · rintro (h | ⟨e, he, h⟩)
      · exact hO (.inl (.inl h))
      · rcases (m'.hok.own e he b h).2 with h' | h' | h'
        · exact absurd hb (Nat.not_lt.2 h')
        · exact hO (.inl (.inr h'))
        · exact hO (.inr h')
    · rcases h with h | h
      · exact hO (.inl (.inr h))
      · exact hO (.inr h)
  refine ⟨⟨⟨fun e he => ?_, m'.hok.inj, fun e he b hb => ?_⟩, m'.os.trans m.os, m'.tape.trans m.tape, m'.output.trans m.output, Nat.le_trans m.size m'.size, fun b hb hw => ?_, m.xlt, m.g0, m.gn, m.gw,
    fun _ _ _ h => m'.lnk _ _ _ (m.lnk _ _ _ h), shp_ext m.shp x⟩, x⟩
  · rcases m'.hok.ent e he with h | ⟨b, cs, a1, a2, a3⟩
    · exact .inl h
    · exact .inr ⟨b, cs, a1, a2, a3.anti fun b hb => hb.imp (hX b) id⟩
  · have h := m'.hok.own e he b hb
    refine ⟨fun hx => h.1 (hX b hx), ?_⟩
    rcases h.2 with h' | h' | h'
    · exact .inl (Nat.le_trans m.size h')
    · exact (hwr b h').2
    · exact hZ b h'
  · have h1 := m'.blk b (Nat.lt_of_lt_of_le hb m.size) fun h => by
      rcases h with h | h
      · rcases (hwr b h).2 with h' | h'
        · omega
        · exact hw h'
      · rcases hZ b h with h' | h'
        · omega
        · exact hw h'
    exact h1.trans (m.blk b hb hw)

/-- such a frame is a later one -/
theorem Fle.subZ (m : Mem C F ρ H w1) (hX : ∀ b, F.X b → X' b) (hZ : ∀ b, Z b → F.w0.heap.size ≤ b ∨ F.Wr b) (rs : List Nat) (hn : rs.Nodup)
    (hr : ∀ r ∈ rs, F.w0.heap.size ≤ r ∧ r < w1.heap.size ∧ X' r ∧ (¬ Z r ∧ ∀ e ∈ H, ρ e.k e.g ≠ some r) ∧ w1.heap[r]? = some (.deferred (some []))) :
    Fle C F (Fra.subZ ρ H w1 F.nt X' Z (rs.map (fun r => { target := .collected r, args := #[] }) ++ F.df)) :=
  ⟨rfl, m.size, fun h => (m.leaveZ hX hZ h).1, hX, _, rfl, rs, rfl, hn, fun r hr' => by
    obtain ⟨a1, a2, a3, ⟨a4, a5⟩, a6⟩ := hr r hr'
    refine ⟨a1, a2, a3, fun ρ' H' w' m' => ?_⟩
    have hb := m'.blk r a2 fun h => by
      rcases h with ⟨e, he, h⟩ | h
      · exact a5 e he h
      · exact a4 h
    exact hb.trans a6⟩

/-! ### the marks at a function's end -/
def shut (w : World) : List Nat → World
  | [] => w
  | r :: rs => shut (w.putObj r (.deferred none)) rs
theorem shut_size : ∀ (rs : List Nat) (w : World), (shut w rs).heap.size = w.heap.size
  | [], _ => rfl
  | r :: rs, w => by rw [shut, shut_size rs]; simp [World.putObj]
theorem shut_heap : ∀ (rs : List Nat) (w : World) (b : Nat), b ∉ rs → (shut w rs).heap[b]? = w.heap[b]?
  | [], _, _, _ => rfl
  | r :: rs, w, b, h => by
    rw [shut, shut_heap rs _ b (fun hb => h (by simp [hb])), World.putObj_heap_other (fun hb => h (by simp [hb]))]
theorem shut_rest : ∀ (rs : List Nat) (w : World), (shut w rs).os = w.os ∧ (shut w rs).tape = w.tape ∧ (shut w rs).output = w.output
  | [], _ => ⟨rfl, rfl, rfl⟩
  | r :: rs, w => by rw [shut]; exact shut_rest rs _
theorem leaves_marks {P : Program} {fn : Func} {tmps : Array Value} {R : Ending → World → Prop} : ∀ (rs : List Nat) (w : World), rs.Nodup → (∀ r ∈ rs, w.heap[r]? = some (.deferred (some []))) →
    (∃ v, (results fn tmps).run P (shut w rs) = .ok v (shut w rs) ∧ R (.returned v) (shut w rs)) → LeavesInM (fw none) 0 P fn tmps R (rs.map (fun r => { target := .collected r, args := #[] })) .returning w
  | [], w, _, _, h => h
  | r :: rs, w, hn, hr, h => by
    obtain ⟨n1, n2⟩ := List.nodup_cons.1 hn
    refine ⟨by simp, .inl ⟨r, _, rfl, run_takeDeferred (hr r (by simp)), leaves_marks rs _ n2 (fun q hq => ?_) h⟩⟩
    rw [World.putObj_heap_other (fun hb => by subst hb; exact n1 hq)]
    exact hr q (by simp [hq])

/-- the end of an activation: seen from where it began -/
theorem Fle.finish {fn : Func} {s : St} {a : Act} {tt : Nat → Option TInfo} {d : D} {p : Prop} {F' : Fra} (htt : Tab C.P tt) (hF : Fle C F F') (hd0 : F.df = []) (hs : Sat C F' ρ s a w) (h : resD tt s fn.results.toList = some (d, p)) (hp : p) :
    ∃ v w', LeavesIn (fw none) 0 C.P fn a.tmps (fun e w2 => e = .returned v ∧ w2 = w') [] .returning w' ∧
      (∀ R : Ending → World → Prop, R (.returned v) w' → LeavesInM (fw none) 0 C.P fn a.tmps R a.defers .returning w) ∧
      Mem C F ρ s.H w' ∧ Rep ρ (Own F'.X ρ s.H) w' d v ∧ (∀ b, F.X b → F'.X b) ∧ Ext ρ (Own F'.X ρ s.H) w ρ (Own F'.X ρ s.H) w' ∧
      (∀ b, b < F.w0.heap.size → w'.heap[b]? = w.heap[b]?) ∧ w'.heap.size = w.heap.size ∧ ∃ F2, Mem C F2 ρ s.H w' ∧ F2.X = F'.X := by
  obtain ⟨ms, e1, rs, e2, hn, hr⟩ := hF.df
  rw [hd0, List.append_nil] at e1
  have hdf : a.defers = rs.map (fun r => { target := .collected r, args := #[] }) := by rw [hs.dfr, e1, e2]
  have mF := hF.mem hs.mem
  have hZ : ∀ b, b ∈ rs → F.w0.heap.size ≤ b ∨ F.Wr b := fun b hb => .inl (hr b hb).1
  have hXr : ∀ b, b ∈ rs → F'.X b := fun b hb => (hr b hb).2.2.1
  have hdr : ∀ r ∈ rs, w.heap[r]? = some (.deferred (some [])) := fun r h => (hr r h).2.2.2 _ _ _ hs.mem
  have hno : ∀ e ∈ s.H, ∀ b, ρ e.k e.g = some b → b ∉ rs := fun e he b hb hb' => (hs.mem.hok.own e he b hb).1 (hXr b hb')
  have x : Ext ρ (Own F'.X ρ s.H) w ρ (Own F'.X ρ s.H) (shut w rs) := by
    refine ⟨by rw [shut_size]; exact Nat.le_refl _, fun _ _ _ h => h, fun b hb hO => ⟨hO, shut_heap _ _ _ fun h => hO (.inl (hXr b h))⟩, fun b cs T fz h => ⟨cs, ?_, rfl⟩⟩
    rw [shut_heap _ _ _ fun hb => by rw [hdr b hb] at h; cases h]; exact h
  obtain ⟨o1, o2, o3⟩ := shut_rest rs w
  have m2 := hs.mem.enterZ (Z := fun b => b ∈ rs) (X' := F'.X) x o1 o2 o3 (fun b _ hb => shut_heap _ _ _ hb) hno (fun b hb => by rw [shut_size]; exact Nat.lt_of_lt_of_le (hs.mem.xlt b hb) hs.mem.size)
    (fun e he b hb => (hs.mem.hok.own e he b hb).1) (fun b hb => Nat.le_trans mF.gn (hr b hb).1) F'.nt F'.df
  have hs2 : Sat C (Fra.subZ ρ s.H (shut w rs) F'.nt F'.X (fun b => b ∈ rs) F'.df) ρ s a (shut w rs) := ⟨m2, hs.fresh, hs.gen, fun t => (hs.env t).mono x, hs.nt, hs.dfr⟩
  obtain ⟨v, r1, r2⟩ := resD_ok htt hs2 h hp
  -- seen from the activation's beginning
  have mF2 : Mem C F ρ s.H (shut w rs) := by
    have mw : Mem C (Fra.subZ ρ s.H w F'.nt F'.X (fun b => b ∈ rs) F'.df) ρ s.H w := hs.mem.enterZ (.refl _ _ _) rfl rfl rfl (fun _ _ _ => rfl) hno (fun b hb => Nat.lt_of_lt_of_le (hs.mem.xlt b hb) hs.mem.size) (fun e he b hb => (hs.mem.hok.own e he b hb).1)
      (fun b hb => Nat.le_trans mF.gn (hr b hb).1) _ _
    refine (mF.leaveZ hF.X hZ (nt := F'.nt) (df := F'.df) (ρ' := ρ) (H' := s.H) (w' := shut w rs) ⟨⟨fun e he => ?_, mw.hok.inj, mw.hok.own⟩, o1, o2, o3, by rw [shut_size]; exact Nat.le_refl _, fun b hb hw => shut_heap _ _ _ fun h => hw (.inr h), mw.xlt, mw.g0, mw.gn, mw.gw, fun _ _ _ h => h, shp_ext mw.shp x⟩).1
    rcases mw.hok.ent e he with h | ⟨b, cs, a1, a2, a3⟩
    · exact .inl h
    · exact .inr ⟨b, cs, a1, by rw [shut_heap _ _ _ (hno e he b a1)]; exact a2, a3.mono x⟩
  refine ⟨v, shut w rs, ⟨v, r1, rfl, rfl⟩, fun R hR => ?_, mF2, r2, hF.X, x, fun b hb => shut_heap _ _ _ fun h => ?_, shut_size _ _, _, m2, rfl⟩
  · rw [hdf]; exact leaves_marks rs w hn hdr ⟨v, r1, hR⟩
  · have := (hr b h).1; omega
end

section
variable {C : Ctx} {X : EV}
/-- what is owed at the end, computed -/
def wpRes (tt : Nat → Option TInfo) (s : St) (rs : List ResultVar) (k : D → Prop) : Prop := match resD tt s rs with
  | some (d, p) => p ∧ k d
  | none => False
def PostW (tt : Nat → Option TInfo) (rs : List ResultVar) (Φ : D → Prop) (e : Exit) (_ : Fra) (s : St) : Prop := match e with
  | .normal | .ret => wpRes tt s rs fun d0 => ∃ d, Fz s.H [] d0 d ∧ Pure d ∧ Φ d
  | _ => False
def PostHW (tt : Nat → Option TInfo) (rs : List ResultVar) (Φ : D → Hp → Nat → Prop) (e : Exit) (_ : Fra) (s : St) : Prop := match e with
  | .normal | .ret => wpRes tt s rs fun d => Φ d s.H s.n
  | _ => False
theorem wpRes_ok {tt : Nat → Option TInfo} {s : St} {rs : List ResultVar} {k : D → Prop} (h : wpRes tt s rs k) : ∃ d p, resD tt s rs = some (d, p) ∧ p ∧ k d := by
  unfold wpRes at h
  split at h
  · rename_i d p he; exact ⟨d, p, he, h.1, h.2⟩
  · exact h.elim

/-- **how a contract is made** -/
theorem ICallP.walk {f : Nat} {i : FI} {args : List D} {Φ : D → Prop} (hX : WOk C X) (hf : FOk C.P f i) (hnt : Nat.ble args.length i.nt = true)
    (h : ∀ F : Fra, OkS C F none F i.code ⟨argEnv 0 args, [], 0⟩ (PostW X.tt i.res Φ)) : ICallP C f args Φ := by
  obtain ⟨fn, hf, hb, hn, hd, hni, hres⟩ := hf
  rw [← hni] at hnt
  refine ⟨⟨fn, i.code, hf, hb, hn⟩, fun Y w vs hG hnG hX' hvs hr => ?_⟩
  have hnt := Nat.le_of_ble_eq_true hnt
  refine (calls_fw (rd := none) (n := 0)).1 (callsIn_of_wp_marks hf hb trivial ?_)
  have hown : ∀ b, Own Y nol [] b ↔ Y b := by simp [Own]
  have hoe : Own Y nol [] = Y := funext fun b => propext (hown b)
  let F0 : Fra := ⟨w, Y, fun _ => False, fn.ntmps, nol, []⟩
  have sat : Sat C F0 nol ⟨argEnv 0 args, [], 0⟩ { tmps := vs ++ Array.replicate (fn.ntmps - vs.size) undef, defers := [] } w := by
    refine ⟨⟨⟨by simp, .nil, by simp⟩, rfl, rfl, rfl, Nat.le_refl _, fun _ _ _ => rfl, hX', hG, hnG, by simp [F0], fun _ _ _ h => h, fun _ cs _ _ h => ⟨cs, h, rfl⟩⟩, fun _ _ _ => rfl, by simp, fun t => ?_, by simp [F0]; omega, rfl⟩
    show Rep nol (Own Y nol []) w _ _
    rw [hoe]
    exact argsRep hvs hr t
  refine wpIn_mono ((h F0).out (.refl F0) hd nol _ w sat) ?_
  rintro e a' w' ⟨F', s', ρ', hF, hq, hs'⟩
  have key : wpRes X.tt s' i.res (fun d0 => ∃ d, Fz s'.H [] d0 d ∧ Pure d ∧ Φ d) → LeavesInM (fw none) 0 C.P fn a'.tmps (fun e w' => ∃ v d, e = .returned v ∧ Below w.heap.size w w' ∧ Φ d ∧ Rep nol Y w' d v) a'.defers .returning w' := fun hq => by
    obtain ⟨d0, p, h1, h2, d, h3, h4, h5⟩ := wpRes_ok hq
    rw [← hres] at h1
    obtain ⟨v, w2, _, hl, mF, r2, hXX, x, hbl, hsz, F2, m2, hX2⟩ := hF.finish hX.tt rfl hs' h1 h2
    refine hl _ ⟨v, d, rfl, ⟨mF.os, mF.tape, mF.output, mF.size, fun b hb => mF.blk b hb (by simp [F0])⟩, h5, ?_⟩
    have hH : FzH s'.H [] s'.H [] := by
      generalize s'.H = H0
      have : ∀ H1 : Hp, FzH H0 [] H1 [] := fun H1 => by
        induction H1 with
        | nil => exact .nil
        | cons e r ih => exact .drop ih
      exact this H0
    obtain ⟨m, hO, hN⟩ := hH.mem m2
    have r3 := h3.rep m2 hO hN (by rw [hX2]; exact r2)
    have r4 := h4 _ nol _ _ _ r3
    exact r4.anti fun b hb => .inl (by rw [hX2]; exact hXX b hb)
  cases e with
  | normal => exact key hq
  | ret => exact key hq
  | _ => exact hq.elim
theorem ICallH.walk {f : Nat} {i : FI} {args : List D} {H : Hp} {n : Nat} {Φ : D → Hp → Nat → Prop} (hX : WOk C X) (hf : FOk C.P f i) (hnt : Nat.ble args.length i.nt = true)
    (h : ∀ F : Fra, OkS C F none F i.code ⟨argEnv 0 args, H, n⟩ (PostHW X.tt i.res Φ)) : ICallH C f args H n Φ := by
  obtain ⟨fn, hf, hb, hn, hd, hni, hres⟩ := hf
  rw [← hni] at hnt
  refine ⟨⟨fn, i.code, hf, hb, hn⟩, fun F ρ w vs m hfr hg hvs hr => ?_⟩
  have hnt := Nat.le_of_ble_eq_true hnt
  refine (calls_fw (rd := none) (n := 0)).1 (callsIn_of_wp_marks hf hb trivial ?_)
  have sat : Sat C (F.sub ρ H w fn.ntmps) ρ ⟨argEnv 0 args, H, n⟩ { tmps := vs ++ Array.replicate (fn.ntmps - vs.size) undef, defers := [] } w :=
    ⟨m.enter _, hfr, hg, argsRep hvs hr, by simp [Fra.sub]; omega, rfl⟩
  refine wpIn_mono ((h (F.sub ρ H w fn.ntmps)).out (.refl _) hd ρ _ w sat) ?_
  rintro e a' w' ⟨F', s', ρ', hF, hq, hs'⟩
  have key : wpRes X.tt s' i.res (fun d => Φ d s'.H s'.n) → LeavesInM (fw none) 0 C.P fn a'.tmps (fun e w' => ∃ v d H' n' ρ', e = .returned v ∧ Φ d H' n' ∧ Mem C F ρ' H' w' ∧ Ext ρ (Own F.X ρ H) w ρ' (Own F.X ρ' H') w' ∧ Fresh ρ' n' ∧ (∀ e ∈ H', e.g < n') ∧
      Rep ρ' (Own F.X ρ' H') w' d v) a'.defers .returning w' := fun hq => by
    obtain ⟨d, p, h1, h2, h3⟩ := wpRes_ok hq
    rw [← hres] at h1
    obtain ⟨v, w2, _, hl, mF, r2, hXX, x, hbl, hsz, F2, m2, hX2⟩ := hF.finish hX.tt rfl hs' h1 h2
    obtain ⟨m', x'⟩ := m.leave mF
    exact hl _ ⟨v, d, _, _, ρ', rfl, h3, m', x', hs'.fresh, hs'.gen, r2.anti fun b hb => hb.imp (hXX b) id⟩
  cases e with
  | normal => exact key hq
  | ret => exact key hq
  | _ => exact hq.elim

variable {B F : Fra} {s : St} {rd : Option Nat} {Q : Exit → Fra → St → Prop}
/-- a cut: the state in between, seen as told; the frame stays -/
theorem OkS.seqW {a b : Code} (s' : St) (h1 : OkS C B rd F a s (fun e F1 s1 => nextB (F1 = F ∧ Wk s1 s') (fun e => Q e F1 s1) e)) (h2 : OkS C B rd F b s' Q) : OkS C B rd F (.seq a b) s Q :=
  OkS.seq (h1.mono fun e F1 s1 h => by
    cases e with
    | normal =>
      obtain ⟨h0, h3⟩ := (show F1 = F ∧ Wk s1 s' from h)
      rw [h0]
      exact OkS.weak s' h3 h2
    | ret => exact h
    | exit j => exact h
    | goto l => exact h
    | panic c => exact h
    | outgrown => exact h)
theorem fz_eq {H Hf : Hp} {d d' : D} (h : d = d') : Fz H Hf d d' := h ▸ .refl d
end
end Go.Ide
