/- The layer of own lemmas and contracts, part 3. -/
import Derived.Test.YtpehlicnhjoknaaGreatDoorP2
import Derived.OrdersIn
import Derived.RangeFuncLeaves
import Derived.RangeFuncSeq
import Derived.RangeFuncIn
import Derived.RangeFuncRecord
import Derived.ChangeArms
import Derived.ChangeSlices
import Derived.OpenShut
set_option linter.unusedVariables false
set_option linter.unusedSimpArgs false
namespace Go.Ide
open Go.RowKit
def fw (rd:Option Nat):Fence:={ Fence.wide with round:=rd }
theorem a3c {rd:Option Nat}{n:Nat}{P:Program}{f:FuncId}{args:Array Value}{w:World}{R:Ending→World→Prop}:CallsIn (fw rd) n P f args w R↔Calls P f args w R :=
 (show CallsIn (fw rd) n P f args w R↔CallsIn Fence.wide n P f args w R from Iff.rfl).trans callsIn_wide
theorem a3P {rd:Option Nat}{n:Nat}:(fw rd).depth.isSome=true→1≤n:=fun h=>by cases h
theorem a8y {P:Program}{ρ:Operand→Value}{o:Oper}{w w':World}{x:Next}(h:(execOp ρ o).run P w=.ok x w')(hx:∀ d,x≠.defer d):∀ c,o.op≠.defer c:=fun c hc=>by
 unfold execOp at h;simp only [hc] at h;rw [run_bind] at h;split at h
 ·cases h;exact hx _ rfl
 ·cases h
section
variable {C:Ctx} {F:Fra} {ops:Array Oper} {rd:Option Nat} {Q:Exit→Act→World→Prop}
theorem a4Y {P:Program}{o:Oper}{a:Act}{w w':World}{v:Value}{K:Act→World→Prop}(h:(execOp a.eval o).run P w=.ok (.value v) w')(hk:K (a.put o.dst v) w'):o.wpIn (fw rd) 0 P a w K Q:=by
 refine ⟨fun _ _=>trivial,?_⟩;rw [Oper.semAt_eq _ _ _ (a8y h (by simp)),h];exact hk
theorem b6m {P:Program}{o:Oper}{a:Act}{w w':World}{f:Nat}{vs:Array Value}{K:Act→World→Prop}(h:(execOp a.eval o).run P w=.ok (.enter f vs) w')
  (hc:Calls P f vs w' fun e w''=>∃ v,e=.returned v∧K (a.put o.dst v) w''):o.wpIn (fw rd) 0 P a w K Q:=by
 refine ⟨fun _ _=>trivial,?_⟩;rw [Oper.semAt_eq _ _ _ (a8y h (by simp)),h];refine ⟨a3P,a3c.2 (hc.mono ?_)⟩;rintro e w'' ⟨v,rfl,hk⟩;exact hk
theorem b6n {P:Program}{o:Oper}{a:Act}{w w':World}{l f:Nat}{tmps:Array Value}{as bd:Code}{K:Act→World→Prop}(h:(execOp a.eval o).run P w=.ok (.round l f tmps as bd) w')
  (hc:RoundIn (fw rd) 0 P l f tmps as bd w' fun e w''=>∃ v,e=.returned v∧K (a.put o.dst v) w''):o.wpIn (fw rd) 0 P a w K Q:=by
 refine ⟨fun _ _=>trivial,?_⟩;rw [Oper.semAt_eq _ _ _ (a8y h (by simp)),h];refine ⟨a3P,hc.mono ?_⟩;rintro e w'' ⟨v,rfl,hk⟩;exact hk
theorem a1q {R:Exit→Act→World→Prop}{l2:List Nat}(hR:∀ e a w,R e a w→e=.normal∧wpOpsIn (fw rd) 0 C.P ops Q l2 a w)(hnd:∀ (i:Nat) (o:Oper),ops[i]? = some o→∀ c,o.op≠.defer c) :
  ∀ (l:List Nat) (a:Act) (w:World),wpOps C.P ops R l a w→wpOpsIn (fw rd) 0 C.P ops Q (l++l2) a w
 | [],a,w,h=>(hR _ _ _ h).2
 | i::l,a,w,h=>by
  have hlet:¬ LetsOut R:=fun ⟨a,w,h⟩=>by have:=(hR _ _ _ h).1;cases this
  simp only [wpOps] at h;simp only [List.cons_append,wpOpsIn];cases ho:ops[i]? with
  | none=>simp only [ho] at h;exact a1q hR hnd l a w h
  | some o =>
   simp only [ho] at h;dsimp only;split
   ·rename_i hw
    rw [if_pos hw] at h;rcases h with h|⟨_,h⟩
    ·unfold Oper.wp at h
     refine ⟨fun _ _=>trivial,?_⟩;rw [Oper.semAt_eq _ _ _ (hnd i o ho)]
     revert h
     generalize (execOp a.eval o).run C.P w=r;intro h;unfold Oper.upon at h;unfold Oper.uponIn;split at h
     ·exact a1q hR hnd l _ _ h
     ·exact a1q hR hnd l _ _ h
     ·exact a1q hR hnd l _ _ h
     ·refine ⟨a3P,a3c.2 (h.mono ?_)⟩
      intro e w'' h;cases e with
      | returned v=>exact a1q hR hnd l _ _ h
      | panicked c=>have:=(hR _ _ _ h).1;cases this
      | outgrown=>exact absurd h hlet
     ·exact ⟨a3P,fun c cs hr=>by
       obtain ⟨v,w',h1,h2⟩:=h c cs;exact ⟨v,w',a1q hR hnd l _ _ h1,stepsIn_wide.2 h2⟩⟩
     ·have:=(hR _ _ _ h).1;cases this
     ·exact h.elim
    ·exact absurd h hlet
   ·rename_i hw
    rw [if_neg hw] at h;exact ⟨fun _ _=>trivial,a1q hR hnd l _ _ h⟩
theorem a5p {Q:Exit→Act→World→Prop}:∀ (l:List Nat) (fuel:Nat) (L:Array Bool) (a:Act) (w:World),L.size=ops.size→l.length≤fuel→(∀ i,i<ops.size→(Ls L i↔i∉l))→l.Nodup →
  (∀ A i B,l=A++i::B→(∀ j∈a2z ops i,j<ops.size∧j∉i::B)∧∀ j∈A,a2l ops i j)→(∀ i∈l,i<ops.size)→Cl ops L →
  wpOpsIn (fw rd) 0 C.P ops Q l a w→wpAnyIn (fw rd) 0 C.P .any ops Q fuel L a w
 | [],fuel,L,a,w,hs,_,hl,_,_,_,_,h=>by
  have hr:Region.ready .any ops L=[]:=by
   apply List.eq_nil_iff_forall_not_mem.2;intro i hi;obtain ⟨h1,h2,_⟩:=a1d.1 hi
   have:=(hl i h1).2 (by simp)
   unfold Ls at this;rw [Array.getD_eq_getD_getElem?,Array.getElem?_eq_getElem (by omega)] at this h2;simp at this h2;rw [this] at h2;cases h2
  cases fuel with
  | zero=>exact ⟨hr,h⟩
  | succ fuel=>exact ⟨fun _=>h,fun i hi=>by rw [hr] at hi;simp at hi⟩
 | i::l,0,_,_,_,_,hf,_,_,_,_,_,_=>by simp at hf
 | i::l,fuel+1,L,a,w,hs,hf,hl,hnd,hd,hlt,hcl,h=>by
  have hil:=hlt i (by simp);have hLi:∀ j,j<ops.size→(L.getD j true=true↔Ls L j):=fun j hj=>by
   unfold Ls;rw [Array.getD_eq_getD_getElem?,Array.getD_eq_getD_getElem?,Array.getElem?_eq_getElem (by omega)];simp
  have hready:∀ j,j∈Region.ready .any ops L↔j=i:=by
   intro j;rw [a1d];constructor
   ·rintro ⟨h1,h2,h3⟩
    have hj:j∈i::l:=by
     apply Classical.byContradiction;intro hn
     have:=(hLi j h1).2 ((hl j h1).2 hn)
     rw [h2] at this;cases this
    apply Classical.byContradiction;intro hne;have hjl:j∈l:=by simpa [hne] using hj
    obtain ⟨A,B,rfl⟩:=List.append_of_mem hjl;have hreach:=(hd (i::A) j B (by simp)).2 i (by simp)
    have:=a0M hs hcl hreach h3
    exact absurd ((hl i hil).1 this) (by simp)
   ·rintro rfl
    refine ⟨hil,?_,fun k hk=>?_⟩
    ·cases hb:L.getD j true with
     | false=>rfl
     | true=>exact absurd ((hl j hil).1 ((hLi j hil).1 hb)) (by simp)
    ·have hk2:=(hd [] j l rfl).1 k hk
     exact (hl k hk2.1).2 hk2.2
  have hset:∀ j,Ls (L.setIfInBounds i true) j↔j=i∨Ls L j:=fun j=>Ls.set (by omega)
  refine ⟨fun h0=>?_,fun j hj=>?_⟩
  ·have:=(hready i).2 rfl
   rw [h0] at this;simp at this
  ·obtain rfl:=(hready j).1 hj
   rw [wpOpsIn_cons] at h;obtain ⟨n1,n2⟩:=List.nodup_cons.1 hnd;refine wpOpIn_mono (fun a w hk=>?_) h;refine a5p l fuel _ a w (by simp [hs]) (by simp at hf;omega) (fun k hk2=>?_) n2 (fun A k B hAB=>?_) (fun k hk2=>hlt k (by simp [hk2])) ?_ hk
   ·rw [hset,hl k hk2]
    by_cases hkj:k=j
    ·subst hkj;simp [n1]
    ·simp [hkj]
   ·obtain ⟨q1,q2⟩:=hd (j::A) k B (by simp [hAB])
    exact ⟨q1,fun x hx=>q2 x (by simp [hx])⟩
   ·intro k hk2 hks x hx
    have hk3:Ls (L.setIfInBounds j true) k:=by
     unfold Ls;rw [Array.getD_eq_getD_getElem?,Array.getElem?_eq_getElem (by simp;omega)] at hk2 ⊢;simpa using hk2
    show Ls _ x;rw [hset];rcases (hset k).1 hk3 with rfl|hk3
    ·exact .inr ((a1d.1 hj).2.2 x hx)
    ·exact .inr (hcl k ((hLi k hks).2 hk3) hks x hx)
theorem b2U {Q:Exit→Act→World→Prop}{H:Hp}{n:Nat}{env:Env}{rs:List Rec}{suf:List Nat}(ho:b6B ops rs suf)(hgen:∀ e∈H,e.g<n)(hd:∀ r∈rs,a2A F.nt r.o=true)
  (hst:∀ A r B,rs=A++r::B→ops[r.i]? = some r.o∧a0s C F ops H (n+r.i) (a5H A env) r.o r.d r.ne)
  (hend:∀ (L:Array Bool) (a:Act) (w:World) (ρ:Lk) (He:Hp),L.size=ops.size→(∀ r∈rs,Ls L r.i)→DI C F H n env rs L a w ρ He→wpOpsIn (fw rd) 0 C.P ops Q suf a w) :
  ∀ (fuel:Nat) (L:Array Bool) (a:Act) (w:World) (ρ:Lk) (He:Hp),L.size=ops.size→((rs.map (·.i)++suf).filter (fun i=>!L.getD i false)).length≤fuel→Cl ops L→(∀ i∈suf,¬ Ls L i) →
   DI C F H n env rs L a w ρ He→wpAnyIn (fw rd) 0 C.P .any ops Q fuel L a w:=by
 intro fuel
 induction fuel with
 | zero =>
  intro L a w ρ He hL hf hc hs hi;have h0:(rs.map (·.i)++suf).filter (fun i=>!L.getD i false)=[]:=List.eq_nil_of_length_eq_zero (by omega);have hall:∀ r∈rs,Ls L r.i:=fun r hr=>by
   have:=List.filter_eq_nil_iff.1 h0 r.i (by simp;exact .inl ⟨r,hr,rfl⟩)
   simpa [Ls] using this
  have hsuf:suf=[]:=by
   apply List.eq_nil_iff_forall_not_mem.2;intro i hi2
   have:=List.filter_eq_nil_iff.1 h0 i (by simp [hi2])
   exact hs i hi2 (by simpa [Ls] using this)
  subst hsuf;refine a5p [] 0 L a w hL (Nat.le_refl _) (fun i hi2=>⟨fun _=>by simp,fun _=>?_⟩) .nil (fun A i B h=>by cases A<;>simp at h) (by simp) hc (hend L a w ρ He hL hall hi)
  have:=ho.all i hi2
  simp at this;obtain ⟨r,hr,rfl⟩:=this;exact hall r hr
 | succ fuel ih =>
  intro L a w ρ He hL hf hc hs hi
  by_cases hall:∀ r∈rs,Ls L r.i
  ·refine a5p suf (fuel+1) L a w hL ?_ (fun i hi2=>?_) ?_ (fun A i B hAB=>⟨fun j hj=>?_,fun j hj=>ho.suf A i B hAB j (by simp [hj])⟩) (fun i hi2=>ho.lt i (by simp [hi2])) hc (hend L a w ρ He hL hall hi)
   ·refine Nat.le_trans ?_ hf
    rw [List.filter_append,List.length_append];rw [(List.filter_eq_self (l:=suf)).2 fun i hi2=>by have:=hs i hi2;unfold Ls at this;simpa using this];omega
   ·constructor
    ·intro h1 h2;exact hs i h2 h1
    ·intro h1
     have:=ho.all i hi2
     rcases List.mem_append.1 this with h|h
     ·obtain ⟨r,hr,rfl⟩:=List.mem_map.1 h;exact hall r hr
     ·exact absurd h h1
   ·exact (List.nodup_append.1 ho.nodup).2.1
   ·have hA:=ho.first (rs.map (·.i)++A) i B (by simp [hAB]) j hj
    refine ⟨ho.lt j (by rw [hAB];rcases List.mem_append.1 hA with h|h<;>simp [h]),fun hB=>?_⟩;have hnd:=ho.nodup;rw [hAB,← List.append_assoc,List.nodup_append] at hnd;exact hnd.2.2 j hA j hB rfl
  ·have hnot:∃ r∈rs,¬ Ls L r.i:=by
    apply Classical.byContradiction;intro hn;exact hall fun r hr=>Classical.byContradiction fun h=>hn ⟨r,hr,h⟩
   have hLt:∀ j,j<ops.size→(L.getD j true=true↔Ls L j):=fun j hj=>by
    unfold Ls;rw [Array.getD_eq_getD_getElem?,Array.getD_eq_getD_getElem?,Array.getElem?_eq_getElem (by omega)];simp
   have hsome:Region.ready .any ops L≠[]:=by
    obtain ⟨r0,hr0,hn0⟩:=hnot
    have:∀ X:List Rec,∀ Y,rs=X++Y→(∃ r∈Y,¬ Ls L r.i)→(∀ r∈X,Ls L r.i)→∃ A r B,rs=A++r::B∧¬ Ls L r.i∧∀ r∈A,Ls L r.i:=by
     intro X Y
     induction Y generalizing X with
     | nil=>rintro _ ⟨r,hr,_⟩ _;simp at hr
     | cons y Y ihY =>
      intro hXY hex hX
      by_cases hy:Ls L y.i
      ·obtain ⟨r,hr,hrn⟩:=hex
       rcases List.mem_cons.1 hr with rfl|hr
       ·exact absurd hy hrn
       ·exact ihY (X++[y]) (by simp [hXY]) ⟨r,hr,hrn⟩ (fun r hr=>by
         rcases List.mem_append.1 hr with h|h
         ·exact hX r h
         ·simp at h;subst h;exact hy)
      ·exact ⟨X,y,Y,hXY,hy,hX⟩
    obtain ⟨A,r,B,h1,h2,h3⟩:=this [] rs rfl ⟨r0,hr0,hn0⟩ (by simp);intro hnil;have hrlt:=ho.lt r.i (by rw [h1];simp)
    have:r.i∈Region.ready .any ops L:=by
     rw [a1d];refine ⟨hrlt,?_,fun j hj=>?_⟩
     ·cases hb:L.getD r.i true with
      | false=>rfl
      | true=>exact absurd ((hLt r.i hrlt).1 hb) h2
     ·have:=ho.first (A.map (·.i)) r.i (B.map (·.i)++suf) (by rw [h1];simp) j hj
      obtain ⟨r',hr',rfl⟩:=List.mem_map.1 this;exact h3 r' hr'
    rw [hnil] at this;simp at this
   refine ⟨fun h0=>absurd h0 hsome,fun i hir=>?_⟩;obtain ⟨hilt,hin,hid⟩:=a1d.1 hir;have hnL:¬ Ls L i:=fun h=>by rw [(hLt i hilt).2 h] at hin;cases hin
   have hpre:i∈rs.map (·.i):=by
    rcases List.mem_append.1 (ho.all i hilt) with h|h
    ·exact h
    ·obtain ⟨A,B,hAB⟩:=List.append_of_mem h
     obtain ⟨r0,hr0,hn0⟩:=hnot
     have:=a0M hL hc (ho.suf A i B hAB r0.i (List.mem_append_left _ (List.mem_map.2 ⟨r0,hr0,rfl⟩))) hid
     exact absurd this hn0
   obtain ⟨r,hr,rfl⟩:=List.mem_map.1 hpre;obtain ⟨A,B,hAB⟩:=List.append_of_mem hr;obtain ⟨hor,hgen2,hsteady⟩:=hst A r B hAB;have hset:∀ j,Ls (L.setIfInBounds r.i true) j↔j=r.i∨Ls L j:=fun j=>Ls.set (by omega)
   have hndr:(rs.map (·.i)).Nodup:=(List.nodup_append.1 ho.nodup).1;have hsub:∀ e∈H,e∈He:=fun e he=>hi.perm.mem_iff.2 (by simp [he])
   have hfr:∀ k,ρ k (n+r.i)=none:=fun k=>by
    apply Classical.byContradiction;intro hk;obtain ⟨r',h1,h2,h3⟩:=hi.fresh k (n+r.i) (by omega) hk
    have:r'.i=r.i:=by omega
    rw [this] at h2;exact hnL h2
   have hne:∀ e∈He,e.g≠n+r.i:=fun e he hg=>by
    rcases List.mem_append.1 (hi.perm.mem_iff.1 he) with h|h
    ·obtain ⟨r',h1,h2⟩:=List.mem_filterMap.1 h
     split at h2
     ·rename_i hl
      obtain ⟨A',B',hAB'⟩:=List.append_of_mem h1
      have:=(hst A' r' B' hAB').2.1 e h2
      have:r'.i=r.i:=by omega
      rw [this] at hl;exact hnL hl
     ·cases h2
    ·have:=hgen e h;omega
   have next:∀ v ρ' w',a9m C F He ρ w (n+r.i) r.d r.ne v ρ' w'→wpAnyIn (fw rd) 0 C.P .any ops Q fuel (L.setIfInBounds r.i true) (a.put r.o.dst v) w':=by
    intro v ρ' w' p;have hi':=hi;rw [hAB] at hi' hndr;have hdst:=ho.dst;rw [hAB] at hdst;have hn':=DI.next hi' (by omega) hnL hndr hdst (hd r hr) p;rw [← hAB] at hn';refine ih _ _ _ ρ' (a4f r.ne He) (by simp [hL]) ?_ ?_ (fun j hj=>?_) hn'
    ·have:((rs.map (·.i)++suf).filter (fun i=>!(L.setIfInBounds r.i true).getD i false)).length<((rs.map (·.i)++suf).filter (fun i=>!L.getD i false)).length:=by
      have sub:(rs.map (·.i)++suf).filter (fun i=>!(L.setIfInBounds r.i true).getD i false)=((rs.map (·.i)++suf).filter (fun i=>!L.getD i false)).filter (fun i=>!Nat.beq i r.i):=by
       rw [List.filter_filter];apply List.filter_congr;intro x hx;have h1:=hset x;unfold Ls at h1
       by_cases hxr:x=r.i
       ·subst hxr
        have:(L.setIfInBounds r.i true).getD r.i false=true:=h1.2 (.inl rfl)
        simp [this]
       ·have hb:Nat.beq x r.i=false:=by
         cases hb:Nat.beq x r.i with
         | false=>rfl
         | true=>exact absurd (Nat.eq_of_beq_eq_true hb) hxr
        rw [hb]
        by_cases hlx:L.getD x false=true
        ·rw [h1.2 (.inr hlx),hlx];rfl
        ·have:¬ (L.setIfInBounds r.i true).getD x false=true:=fun h=>hlx ((h1.1 h).resolve_left hxr)
         simp only [Bool.not_eq_true] at this hlx;rw [this,hlx];rfl
      rw [sub];apply List.length_filter_lt_length_iff_exists.2;exact ⟨r.i,by rw [List.mem_filter];exact ⟨by simp;exact .inl ⟨r,hr,rfl⟩,by unfold Ls at hnL;simpa using hnL⟩,by simp⟩
     omega
    ·intro k hk2 hks x hx
     have hk3:Ls (L.setIfInBounds r.i true) k:=by
      unfold Ls;rw [Array.getD_eq_getD_getElem?,Array.getElem?_eq_getElem (by simp;omega)] at hk2 ⊢;simpa using hk2
     show Ls _ x;rw [hset];rcases (hset k).1 hk3 with rfl|hk3
     ·exact .inr (hid x hx)
     ·exact .inr (hc k ((hLt k hks).2 hk3) hks x hx)
    ·rw [hset]
     rintro (rfl|h)
     ·have hnd:=ho.nodup
      rw [List.nodup_append] at hnd;exact hnd.2.2 r.i (List.mem_map.2 ⟨r,hr,rfl⟩) r.i hj rfl
     ·exact hs j hj h
   unfold wpOpIn;simp only [hor];rcases hsteady He ρ a w hi.mem hsub hfr hne (hi.look ho hL hc hAB hir) with ⟨hw,hn0,hrep⟩|⟨hw,hout⟩
   ·rw [if_neg (by rw [hw];simp)]
    exact ⟨fun _ _=>trivial,next undef ρ w ⟨by rw [hn0];exact hi.mem,by rw [hn0];exact .refl _ _ _,fun _ _ _=>rfl,by rw [hn0];exact hrep⟩⟩
   ·rw [if_pos hw]
    rcases hout with ⟨v,ρ',w',h1,h2⟩|⟨f,vs,h1,h2⟩
    ·exact a4Y h1 (next v ρ' w' h2)
    ·refine b6m h1 (h2.mono ?_)
     rintro e w' ⟨v,rfl,ρ',h3⟩;exact ⟨v,rfl,next v ρ' w' h3⟩
theorem c8c {R:Exit→Act→World→Prop}{i:Nat}{s:St}{pre suf:List Nat}{envF:Env}{N:Hp}(hm:C.P.follows .mixedOrders=true)(hc:b4g ops pre suf=true)
  (hpre:DTr C F ops s.H s.n pre s.env [] envF N)
  (h:(∀ j∈suf,j<ops.size)→∀ (ρ:Lk) (a:Act) (w:World),Sat C F ρ ⟨envF,N++s.H,s.n+ops.size⟩ a w→wpOpsIn (fw rd) 0 C.P ops R suf a w) (hd:ops.toList.all (a2A F.nt)=true) (ρ:Lk) (a:Act) (w:World) (hs:Sat C F ρ s a w) :
  (Code.region i ops true).wpIn (fw rd) 0 C.P R a w:=by
 obtain ⟨rs,h1,h2,h3,h4⟩:=hpre.recs;have hor:∀ r∈rs,ops[r.i]? = some r.o:=fun r hr=>by
  obtain ⟨A,B,hAB⟩:=List.append_of_mem hr;exact (h4 A r B hAB).1
 have ho:=b0T h1 hor hc;have hds:∀ r∈rs,a2A F.nt r.o=true:=fun r hr=>by
  refine List.all_eq_true.1 hd r.o ?_
  have:=hor r hr
  exact Array.mem_toList_iff.2 (Array.mem_of_getElem? this)
 have hrep:∀ j,(Array.replicate ops.size false).getD j false=false:=fun j=>by
  rw [Array.getD_eq_getD_getElem?];rw [Array.getElem?_replicate];split<;>rfl
 have hnL:∀ j,¬ Ls (Array.replicate ops.size false) j:=fun j hj=>by unfold Ls at hj;rw [hrep] at hj;cases hj
 refine wpIn_region_any hm ?_;have hin:DI C F s.H s.n s.env rs (Array.replicate ops.size false) a w.drew ρ s.H:=by
  refine ⟨hs.mem.drew,?_,fun r _ hl=>absurd hl (hnL _),fun t _=>(hs.env t).mono (.drew _ _ _),fun k g hg hk=>absurd (hs.fresh k g hg) hk,hs.nt,hs.dfr⟩
  have:rs.filterMap (fun r=>if (Array.replicate ops.size false).getD r.i false then r.ne else none)=[]:=by
   rw [List.filterMap_eq_nil_iff];intro r _;rw [hrep];rfl
  rw [this];exact List.Perm.refl _
 refine b2U ho hs.gen hds h4 ?_ ops.size _ a w.drew ρ s.H (by simp) ?_ ?_ (fun j _=>hnL j) hin
 ·intro L a' w' ρ' He hL hall hi
  have hN:He.Perm (N++s.H):=by
   refine hi.perm.trans (List.Perm.append_right _ ?_);have e:rs.filterMap (fun r=>if L.getD r.i false then r.ne else none)=rs.filterMap (·.ne):=a4N fun r hr=>by
    have:=hall r hr;unfold Ls at this;rw [this];rfl
   rw [e,h3]
   have:=a2q rs []
   rw [List.append_nil] at this;exact this.symm
  refine h (fun j hj=>ho.lt j (by simp [hj])) ρ' a' w' ⟨hi.mem.perm hN,?_,?_,fun t=>?_,hi.nt,hi.dfr⟩
  ·intro k g hg
   apply Classical.byContradiction;intro hk;obtain ⟨r,hr,_,he⟩:=hi.fresh k g (by simp at hg;omega) hk
   have:=ho.lt r.i (by simp;exact .inl ⟨r,hr,rfl⟩)
   simp at hg;omega
  ·intro e he
   rcases List.mem_append.1 he with he|he
   ·rw [h3] at he
    have he:=(a2q rs []).mem_iff.1 he;rw [List.append_nil] at he;obtain ⟨r,hr,hre⟩:=List.mem_filterMap.1 he;obtain ⟨A,B,hAB⟩:=List.append_of_mem hr
    have:=(h4 A r B hAB).2.1 e hre
    have:=ho.lt r.i (by simp;exact .inl ⟨r,hr,rfl⟩)
    show e.g<s.n+ops.size;omega
   ·have:=hs.gen e he
    show e.g<s.n+ops.size;omega
  ·show Rep ρ' (Own F.X ρ' (N++s.H)) w' (envF.get t) _
   rw [← Own.perm hN,h2]
   by_cases hw:∃ r∈rs,r.o.dst=some t
   ·obtain ⟨r,hr,hrd⟩:=hw
    rw [a5I rs s.env t ho.dst r hr hrd];exact hi.reps r hr (hall r hr) t hrd
   ·rw [a1V rs s.env t fun r hr hrd=>hw ⟨r,hr,hrd⟩]
    exact hi.old t fun r hr _ hrd=>hw ⟨r,hr,hrd⟩
 ·refine Nat.le_trans (List.length_filter_le _ _) ?_
  have hsub:∀ (l:List Nat) (n:Nat),l.Nodup→(∀ x∈l,x<n)→l.length≤n:=by
   intro l n
   induction n generalizing l with
   | zero=>intro _ h;cases l with
    | nil=>simp
    | cons x l=>exact absurd (h x (by simp)) (by omega)
   | succ n ihn =>
    intro hnd hlt;have h1:=ihn (l.erase n) (hnd.erase n) fun x hx=>by
     have:=hlt x (List.mem_of_mem_erase hx)
     have:x≠n:=fun h=>by subst h;exact (List.Nodup.not_mem_erase hnd) hx
     omega
    have:=List.length_erase (a:=n) (l:=l)
    split at this<;>omega
  exact hsub _ _ ho.nodup ho.lt
 ·intro k hk
  have:k<ops.size∨¬ k<ops.size:=by omega
  rcases this with hlt|hlt
  ·rw [Array.getD_eq_getD_getElem?,Array.getElem?_replicate,if_pos hlt] at hk;cases hk
  ·intro h;exact absurd h hlt
theorem a3i {R Q:Exit→Act→World→Prop}(hR:∀ e a w,R e a w→e=.normal∧Q .normal a w)(hnd:∀ (i:Nat) (o:Oper),ops[i]? = some o→∀ c,o.op≠.defer c) :
  ∀ (fuel:Nat) (L:Array Bool) (a:Act) (w:World),wpAny C.P .any ops R fuel L a w→wpAnyIn (fw rd) 0 C.P .any ops Q fuel L a w
 | 0,L,a,w,h=>⟨h.1,(hR _ _ _ h.2).2⟩
 | fuel+1,L,a,w,h=>⟨fun h0=>(hR _ _ _ (h.1 h0)).2,fun i hi=>by
   have hlet:¬ LetsOut R:=fun ⟨a,w,h⟩=>by have:=(hR _ _ _ h).1;cases this
   have hq:=h.2 i hi;unfold wpOp at hq;unfold wpOpIn;split
   ·rename_i ho;simp only [ho] at hq;exact a3i hR hnd fuel _ a w hq
   ·rename_i o ho
    simp only [ho] at hq;split
    ·rename_i hw
     rw [if_pos hw] at hq;rcases hq with hq|⟨_,hq⟩
     ·unfold Oper.wp at hq
      refine ⟨fun _ _=>trivial,?_⟩;rw [Oper.semAt_eq _ _ _ (hnd i o ho)]
      revert hq
      generalize (execOp a.eval o).run C.P w=r;intro hq;unfold Oper.upon at hq;unfold Oper.uponIn;split at hq
      ·exact a3i hR hnd fuel _ _ _ hq
      ·exact a3i hR hnd fuel _ _ _ hq
      ·exact a3i hR hnd fuel _ _ _ hq
      ·refine ⟨a3P,a3c.2 (hq.mono ?_)⟩
       intro e w'' h;cases e with
       | returned v=>exact a3i hR hnd fuel _ _ _ h
       | panicked c=>have:=(hR _ _ _ h).1;cases this
       | outgrown=>exact absurd h hlet
      ·exact ⟨a3P,fun c cs hr=>by
        obtain ⟨v,w',h1,h2⟩:=hq c cs;exact ⟨v,w',a3i hR hnd fuel _ _ _ h1,stepsIn_wide.2 h2⟩⟩
      ·have:=(hR _ _ _ hq).1;cases this
      ·exact hq.elim
     ·exact absurd hq hlet
    ·rename_i hw
     rw [if_neg hw] at hq;exact ⟨fun _ _=>trivial,a3i hR hnd fuel _ _ _ hq⟩⟩
end
def brB (b:Bool)(y n:Prop):Prop:=match b with
 | true=>y
 | false=>n
theorem brI {b:Bool}{y n:Prop}(h1:b=true→y)(h2:b=false→n):brB b y n:=by
 cases b
 ·exact h2 rfl
 ·exact h1 rfl
theorem Fz.loose {d d':D}(h:Fz [] [] d d'):∀ {ρ:Lk} {O:Nat→Prop} {w:World} {v:Value},Rep ρ O w d v→Rep ρ O w d' v:=by
 induction h with
 | refl=>exact fun h=>h
 | any=>exact fun _=>.any _
 | nil sz=>intro ρ O w v h;cases h;exact .nil _
 | nn nn sz es =>
  intro ρ O w v h;cases h with
  | nil=>exact .nil _
  | emp a=>exact .emp a
  | sl f hl hc hO hb hz hcell ho h=>exact .sl f hl hc hO hb hz hcell ho h
 | agg hl h ih =>
  intro ρ O w v hr;cases hr with
  | agg hn ho hh =>
   refine .agg (by omega) ho fun i d' hd'=>?_
   have hi:=(List.getElem?_eq_some_iff.1 hd').1;exact ih i _ d' (List.getElem?_eq_getElem (by omega)) hd' (hh i _ (List.getElem?_eq_getElem (by omega)))
 | tup hl h ih =>
  intro ρ O w v hr;cases hr with
  | tup hn hh =>
   refine .tup (by omega) fun i d' hd'=>?_
   have hi:=(List.getElem?_eq_some_iff.1 hd').1;exact ih i _ d' (List.getElem?_eq_getElem (by omega)) hd' (hh i _ (List.getElem?_eq_getElem (by omega)))
 | osl he _ _ _ _ _ _ _=>cases he
section
variable {C:Ctx}
inductive a0n (C:Ctx)(f:Nat)(ds:List D)(k:D→Prop):Prop
 | mk (ds':List D) (d:D) (hv:FzL [] [] ds ds') (hc:a0b C f ds' d) (hp:ArePure ds') (hk:k d)
inductive a0l (C:Ctx)(f:Nat)(ds:List D)(H:Hp)(n:Nat)(k:D→Hp→Nat→Prop):Prop
 | pure (ds':List D) (d:D) (hv:FzL [] [] ds ds') (hc:a0b C f ds' d) (hp:ArePure ds') (hk:k d H (n+1))
 | prop (ds':List D) (Φ:D→Prop) (hv:FzL [] [] ds ds') (hc:a0c C f ds' Φ) (hp:ArePure ds') (hk:∀ d,Φ d→k d H (n+1))
 | own (Φ:D→Hp→Nat→Prop) (hc:a0m C f ds H n Φ) (hk:∀ d H' n',Φ d H' n'→k d H' n')
 | lend (Hf:Hp) (ds':List D) (d:D) (hH:FzH H Hf H Hf) (hv:FzL H Hf ds ds') (hc:a0b C f ds' d) (hp:ArePure ds') (hflat:a6Z d) (hk:k d H (n+1))
theorem b1U {ds ds':List D}(h:FzL [] [] ds ds'){ρ:Lk}{O:Nat→Prop}{w:World}{vs:Array Value}(hr:∀ (i:Nat) (d:D),ds[i]? = some d→Rep ρ O w d (vs.getD i undef)) :
  ∀ (i:Nat) (d:D),ds'[i]? = some d→Rep ρ O w d (vs.getD i undef):=fun i d hd=>by
 obtain ⟨l1,l2⟩:=h.spec;have hi:=(List.getElem?_eq_some_iff.1 hd).1;have h0:ds[i]? = some ds[i]:=List.getElem?_eq_getElem (by omega);exact (l2 i _ d h0 hd).loose (hr i _ h0)
theorem a0s.call' {F:Fra}{ops:Array Oper}{H:Hp}{g:Nat}{env:Env}{o:Oper}{f:Nat}{first captured ds ds':List D}{fop:Operand}{args:Array Operand}{tys:Array Nat}{d:D}(hw:a0N ops env o=some true)(ho:o.op=.call ⟨.value fop,args,tys⟩)
  (hf:a1g env fop=.clo (.func f) first captured) (hds:first++args.toList.map (a1g env)++captured=ds) (hv:FzL [] [] ds ds') (hc:a0b C f ds' d) (hp:ArePure ds'):a0s C F ops H g env o d none:=by
 refine ⟨by simp,fun He ρ a w m hsub fr hne hr=>.inr ⟨a1u hr hw,.inr ?_⟩⟩;obtain ⟨g',h1,h2⟩:=a2v hr;have hfop:fop∈o.op.operands:=by rw [ho];simp [Op.operands,Call.operands]
 have harg:∀ x∈args.toList,a1g env x=g' x:=fun x hx=>h1 x (by rw [ho];simp [Op.operands,Call.operands];right;simpa using hx)
 rw [h1 fop hfop] at hf;rw [a1K harg] at hds;obtain ⟨vs,q1,q2,q3⟩:=a3L (g:=g') ho hf hc.1 h2;rw [hds] at q2 q3;have q4:=b1U hv q3;refine ⟨f,vs,q1,(hc.2 (Own F.X ρ He) w vs m.g (Nat.le_trans m.gn m.size) (fun b hb=>m.own_lt hb) (by rw [q2];exact hv.spec.1) fun i d hd=>hp.out d (List.mem_of_getElem? hd) _ _ _ _ _ (q4 i d hd)).mono ?_⟩;rintro e w' ⟨v,d',rfl,hb,rfl,hrep⟩;have x:Ext ρ (Own F.X ρ He) w ρ (Own F.X ρ He) w':=⟨hb.size,fun _ _ _ h=>h,fun b hb' hO=>⟨hO,hb.block b hb'⟩,fun b cs T fz hh=>⟨cs,_,by
  rw [hb.block b (Array.getElem?_eq_some_iff.1 hh).1];exact hh,rfl⟩⟩
 exact ⟨v,rfl,ρ,m.same x hb.os hb.tape hb.output hb.block,x,fun _ _ _=>rfl,hrep.nol⟩
def wpP (X:EV)(g:Operand→D)(op:Op)(acc:Prop)(k:Prop→D→Option Ent→Prop):Prop:=match evP X.tt g op with
 | some (d,p)=>k (p∧acc) d none
 | none=>False
def wpQ (X:EV)(g:Operand→D)(op:Op)(acc:Prop)(k:Prop→D→Option Ent→Prop):Prop:=match evQ X.tt X.xt g op with
 | some (d,p)=>k (p∧acc) d none
 | none=>False
def d2G (X:EV)(g:Operand→D)(op:Op)(acc:Prop)(k:Prop→D→Option Ent→Prop):Prop:=match evP X.tt g op with
 | some (d,p)=>k (p∧acc) d none
 | none=>wpQ X g op acc k
def d2F (X:EV)(g:Operand→D)(t:Nat)(x ix:Operand)(acc:Prop)(k:Prop→D→Option Ent→Prop):Prop:=match X.tt t with
 | some i=>match i.ti with
  | .slice _ esz _ _=>match g ix with
   | .prim (.int _ j)=>match g x with
    | .sl _ sz es=>acc∧(sz=esz∧0≤j)∧∃ d,es[j.toNat]? = some d∧k True (.pptr d) none
    | _=>False
   | _=>False
  | _=>False
 | none=>False
def wpE (C:Ctx)(X:EV)(kb:Nat)(g:Operand→D)(H:Hp)(n:Nat)(op:Op)(acc:Prop)(k:Prop→D→Option Ent→Prop):Prop:=match op with
 | .call ⟨.value fop,args,_⟩=>match g fop with
  | .clo (.func f) first captured=>match X.nat f (first++args.toList.map g++captured) with
   | some d=>k acc d none
   | none=>acc∧a0n C f (first++args.toList.map g++captured) fun d=>k True d none
  | _=>False
 | .call ⟨.builtin .append,_,_⟩=>match evA X.tt [] n kb g op with
  | some (d,[e],p)=>k (p∧acc) d (some e)
  | _=>False
 | .load _ _ | .alloc _ | .box _ _ | .buildSlice _ _ _=>match evL X.tt H n kb g op with
  | some (d,ne,p)=>k (p∧acc) d ne
  | none=>False
 | .indexAddr t x ix=>match evP X.tt g op with
  | some (d,p)=>k (p∧acc) d none
  | none=>d2F X g t x ix acc k
 | .makeInterface _ _ | .lookup _ _ _ _=>wpQ X g op acc k
 | .binOp _ _ _ _ _=>d2G X g op acc k
 | _=>wpP X g op acc k
structure WOk (C:Ctx)(X:EV):Prop where
 tt:Tab C.P X.tt
 xt:c2E C.P X.xt
 mixed:C.P.follows .mixedOrders=true
 mt:∀ t name f,X.mt t name=some f→∀ v w,(method (C.P.types.size+Made.depth) t v name).run C.P w=.ok (f,v) w
 nat:∀ f ds d,X.nat f ds=some d→a4g C f ds d
theorem a9k.w {X:EV}(h:a9k C X):WOk C X:=⟨h.tt,h.xt,h.mixed,h.mt,h.nat⟩
variable {F:Fra} {X:EV} {ops:Array Oper}
theorem c0o (hX:WOk C X){kb:Nat}{H:Hp}{n:Nat}{env:Env}{o:Oper}{acc:Prop}{k:Prop→D→Option Ent→Prop}(hw:a0N ops env o=some true)(hk:∀ acc d ne,k acc d ne→acc)
  (h:wpE C X kb (a1g env) H n o.op acc k):acc∧∃ acc' d ne,a0s C F ops H n env o d ne∧k acc' d ne:=by
 have pe:wpP X (a1g env) o.op acc k→acc∧∃ acc' d ne,a0s C F ops H n env o d ne∧k acc' d ne:=fun h=>by
  unfold wpP at h;split at h
  ·rename_i d p he
   have:=hk _ _ _ h
   exact ⟨this.2,_,_,_,a0s.p hX.tt hw he this.1,h⟩
  ·exact h.elim
 have qe:wpQ X (a1g env) o.op acc k→acc∧∃ acc' d ne,a0s C F ops H n env o d ne∧k acc' d ne:=fun h=>by
  unfold wpQ at h;split at h
  ·rename_i d p he
   have:=hk _ _ _ h
   exact ⟨this.2,_,_,_,a0s.q hX.tt hX.xt hw he this.1,h⟩
  ·exact h.elim
 have le:(match evL X.tt H n kb (a1g env) o.op with
   | some (d,ne,p)=>k (p∧acc) d ne
   | none=>False)→acc∧∃ acc' d ne,a0s C F ops H n env o d ne∧k acc' d ne:=fun h=>by
  split at h
  ·rename_i d ne p he
   have:=hk _ _ _ h
   exact ⟨this.2,_,_,_,a0s.l' kb hX.tt hw he this.1,h⟩
  ·exact h.elim
 unfold wpE at h;split at h
 ·rename_i fop args tys ho
  split at h
  ·rename_i f first captured hf
   split at h
   ·rename_i d hn
    exact ⟨hk _ _ _ h,_,_,_,a0s.nat hw ho hf rfl (hX.nat _ _ _ hn),h⟩
   ·obtain ⟨h1,⟨ds',d,hv,hc,hp,h2⟩⟩:=h
    exact ⟨h1,_,_,_,a0s.call' hw ho hf rfl hv hc hp,h2⟩
  ·exact h.elim
 ·split at h
  ·rename_i d e p he
   have:=hk _ _ _ h
   exact ⟨this.2,_,_,_,a0s.app0 kb hX.tt hw he this.1,h⟩
  ·exact h.elim
 ·exact le h
 ·exact le h
 ·exact le h
 ·exact le h
 ·rename_i t x ix ho
  split at h
  ·rename_i d p he
   have:=hk _ _ _ h
   exact ⟨this.2,_,_,_,a0s.p hX.tt hw he this.1,h⟩
  ·unfold d2F at h
   split at h<;>first|exact h.elim|skip
   rename_i i h1;split at h<;>first|exact h.elim|skip
   rename_i e esz eby ez h2;split at h<;>first|exact h.elim|skip
   rename_i kk j h3;split at h<;>first|exact h.elim|skip
   rename_i nn sz es h4;obtain ⟨ha,⟨rfl,hj⟩,d,hd,hk'⟩:=h;exact ⟨ha,_,_,_,a0s.idx hX.tt hw ho h1 h2 h3 h4 hj hd,hk'⟩
 ·exact qe h
 ·exact qe h
 ·unfold d2G at h
  split at h
  ·rename_i d p he
   have:=hk _ _ _ h
   exact ⟨this.2,_,_,_,a0s.p hX.tt hw he this.1,h⟩
  ·exact qe h
 ·exact pe h
def a9j:List Oper→Nat→Option Oper
 | [],_=>none
 | o::_,0=>some o
 | _::l,i+1=>a9j l i
theorem b8L:∀ (l:List Oper) (i:Nat),a9j l i=l[i]?
 | [],_=>by simp [a9j]
 | o::l,0=>by simp [a9j]
 | o::l,i+1=>by simp [a9j,b8L l i]
def b1q:List Oper→Nat
 | []=>0
 | _::l=>b1q l+1
theorem b0L:∀ l:List Oper,b1q l=l.length
 | []=>rfl
 | _::l=>by simp [b1q,b0L l]
theorem a4R {i:Nat}{o:Oper}(h:a9j ops.toList i=some o):ops[i]? = some o:=by
 rw [b8L] at h;simpa using h
def a3r (C:Ctx)(X:EV)(kb:Nat)(ops:Array Oper)(H:Hp)(n:Nat):List Nat→Env→Hp→Prop→(Prop→Env→Hp→Prop)→Prop
 | [],env,N,acc,K=>K acc env N
 | i::l,env,N,acc,K=>match a9j ops.toList i with
  | some o=>match o.guard with
   | none=>wpE C X (kb+i) (a1g env) H (n+i) o.op acc fun acc d ne=>a3r C X kb ops H n l (a1N env o.dst d) (a4f ne N) acc K
   | some _=>match a0N ops env o with
    | some b=>acc∧brB b (wpE C X (kb+i) (a1g env) H (n+i) o.op True fun acc d ne=>a3r C X kb ops H n l (a1N env o.dst d) (a4f ne N) acc K)
      (a3r C X kb ops H n l (a1N env o.dst (.prim (.tuple #[]))) N True K)
    | none=>False
  | none=>False
theorem a4H {kb:Nat}{H:Hp}{n:Nat}(hX:WOk C X){K:Prop→Env→Hp→Prop}(hK:∀ acc env N,K acc env N→acc):∀ {l:List Nat} {env:Env} {N:Hp} {acc:Prop},a3r C X kb ops H n l env N acc K →
  acc∧∃ acc' env' N',DTr C F ops H n l env N env' N'∧K acc' env' N'
 | [],env,N,acc,h=>⟨hK _ _ _ h,_,_,_,.nil _ _,h⟩
 | i::l,env,N,acc,h=>by
  simp only [a3r] at h;split at h<;>first|exact h.elim|skip
  rename_i o ho;have ho:=a4R ho;have step:∀ acc,a0N ops env o=some true→(wpE C X (kb+i) (a1g env) H (n+i) o.op acc fun acc d ne=>a3r C X kb ops H n l (a1N env o.dst d) (a4f ne N) acc K)→acc∧∃ acc' env' N',DTr C F ops H n (i::l) env N env' N'∧K acc' env' N':=fun acc hw h=>by
   obtain ⟨h1,acc1,d,ne,h2,h3⟩:=c0o (F:=F) hX hw (fun acc d ne h=>(a4H hX hK h).1) h;obtain ⟨_,acc2,env2,N2,h4,h5⟩:=a4H hX hK h3;exact ⟨h1,_,_,_,.cons ho h2 h4,h5⟩
  split at h
  ·rename_i hg
   exact step _ (by unfold a0N;rw [hg]) h
  ·split at h<;>first|exact h.elim|skip
   rename_i b hb;obtain ⟨h0,h⟩:=h;cases b with
   | true =>
    obtain ⟨_,h1⟩:=step _ hb h;exact ⟨h0,h1⟩
   | false =>
    obtain ⟨_,acc2,env2,N2,h4,h5⟩:=a4H hX hK h;exact ⟨h0,_,_,_,.cons ho (a0s.skip hb) h4,h5⟩
theorem a0l.ok {F:Fra}{ops:Array Oper}{s:St}{o:Oper}{os:List Oper}{K:St→Prop}{f:Nat}{ds:List D}{k:D→Hp→Nat→Prop}(hw:a0N ops s.env o=some true)
  (hrun:a3b C.P f→∀ (ρ:Lk) (a:Act) (w:World),Sat C F ρ s a w→∃ vs,(execOp a.eval o).run C.P w=.ok (.enter f vs) w∧vs.size=ds.length∧∀ (i:Nat) (d:D),ds[i]? = some d→Rep ρ (Own F.X ρ s.H) w d (vs.getD i undef))
  (h:a0l C f ds s.H s.n k) (hk:∀ d H n,k d H n→OkL C F ops os ⟨a1N s.env o.dst d,H,n⟩ K):OkL C F ops (o::os) s K:=by
 have prop:∀ (ds':List D) (Φ:D→Prop),FzL [] [] ds ds'→a0c C f ds' Φ→ArePure ds'→(∀ d,Φ d→k d s.H (s.n+1))→OkL C F ops (o::os) s K:=fun ds' Φ hv hc hp hk'=>by
  refine OkL.callStep (f:=f) hw (fun ρ a w hs=>?_) fun d hd=>hk _ _ _ (hk' d hd)
  obtain ⟨vs,h1,h2,h3⟩:=hrun hc.1 ρ a w hs;have q4:=b1U hv h3;refine ⟨vs,h1,(hc.2 (Own F.X ρ s.H) w vs hs.mem.g (Nat.le_trans hs.mem.gn hs.mem.size) (fun b hb=>hs.mem.own_lt hb) (by rw [h2];exact hv.spec.1) fun i d hd=>hp.out d (List.mem_of_getElem? hd) _ _ _ _ _ (q4 i d hd)).mono ?_⟩;rintro e w' ⟨v,d,a1,a2,a3,a4⟩;exact ⟨v,d,a1,a2,a3,a4.nol⟩
 cases h with
 | pure ds' d hv hc hp hk'=>exact prop ds' _ hv hc hp fun d' hd=>by subst hd;exact hk'
 | prop ds' Φ hv hc hp hk'=>exact prop ds' Φ hv hc hp hk'
 | own Φ hc hk' =>
  intro hd l hl ρ a w hs;cases l with
  | nil=>simp at hl
  | cons i l =>
   simp only [List.map_cons,List.cons.injEq] at hl;simp only [List.all_cons,Bool.and_eq_true] at hd;obtain ⟨vs,h1,h2,h3⟩:=hrun hc.1 ρ a w hs;simp only [wpOps,hl.1];rw [if_pos (a2x hs.env hw)];refine .inl ?_;unfold Oper.wp;rw [h1];refine (hc.2 F ρ w vs hs.mem hs.fresh hs.gen h2 h3).mono ?_;rintro e w' ⟨v,d,H',n',ρ',rfl,hΦ,m,x,fr,g,r⟩;exact hk d H' n' (hk' d H' n' hΦ) hd.2 l hl.2 ρ' (a.put o.dst v) w' (hs.put m x fr g r hd.1)
 | lend Hf ds' d hH hv hc hp hflat hk' =>
  refine OkL.callStep (f:=f) (Φ:=fun d'=>d'=d) hw (fun ρ a w hs=>?_) fun d' hd=>by subst hd;exact hk _ _ _ hk'
  obtain ⟨vs,h1,h2,h3⟩:=hrun hc.1 ρ a w hs;obtain ⟨m,hO,hN⟩:=hH.mem hs.mem;obtain ⟨l1,l2⟩:=hv.spec;refine ⟨vs,h1,(hc.2 (Own F.X ρ Hf) w vs hs.mem.g (Nat.le_trans hs.mem.gn hs.mem.size) (fun b hb=>m.own_lt hb) (by omega) fun i d hd=>?_).mono ?_⟩
  ·have hi:i<ds'.length:=(List.getElem?_eq_some_iff.1 hd).1
   have hd0:ds[i]? = some ds[i]:=List.getElem?_eq_getElem (by omega);exact hp.out d (List.mem_of_getElem? hd) _ _ _ _ _ ((l2 i _ d hd0 hd).rep hs.mem hO hN (h3 i _ hd0))
  ·rintro e w' ⟨v,d',a1,a2,a3,a4⟩
   subst a3;exact ⟨v,d',a1,a2,rfl,hflat _ _ _ _ _ _ _ a4⟩
def wpO (C:Ctx)(X:EV)(kb:Nat)(g:Operand→D)(H:Hp)(n:Nat)(op:Op)(acc:Prop)(k:Prop→D→Hp→Nat→Prop):Prop:=match op with
 | .call ⟨.value fop,args,_⟩=>match g fop with
  | .clo (.func f) first captured=>match X.nat f (first++args.toList.map g++captured) with
   | some d=>k acc d H (n+1)
   | none=>acc∧a0l C f (first++args.toList.map g++captured) H n fun d H' n'=>k True d H' n'
  | _=>False
 | .call ⟨.invoke r name,args,_⟩=>match g r with
  | .ifc t d0=>match X.mt t name with
   | some f=>acc∧a0l C f (d0::args.toList.map g) H n fun d H' n'=>k True d H' n'
   | none=>False
  | _=>False
 | .call ⟨.builtin .append,_,_⟩=>match evA X.tt H n kb g op with
  | some (d,H',p)=>k (p∧acc) d H' (n+1)
  | none=>match c7l X.tt H n kb g op with
   | some (d,H',p)=>k (p∧acc) d H' (n+1)
   | none=>False
 | .makeSlice _ _ _=>match evM X.tt n kb g op with
  | some (d,e,p)=>k (p∧acc) d (e::H) (n+1)
  | none=>False
 | .store _ _ _=>match evS X.tt H g op with
  | some (j,e,p)=>k (p∧acc) (.prim (.tuple #[])) (Hp.set H j e) (n+1)
  | none=>False
 | .load _ _ | .alloc _ | .box _ _ | .buildSlice _ _ _=>match evL X.tt H n kb g op with
  | some (d,ne,p)=>k (p∧acc) d (a4f ne H) (n+1)
  | none=>False
 | .indexAddr t x ix=>match evP X.tt g op with
  | some (d,p)=>k (p∧acc) d H (n+1)
  | none=>d2F X g t x ix acc fun acc d _=>k acc d H (n+1)
 | .makeInterface _ _ | .lookup _ _ _ _=>wpQ X g op acc fun acc d _=>k acc d H (n+1)
 | .binOp _ _ _ _ _=>d2G X g op acc fun acc d _=>k acc d H (n+1)
 | _=>wpP X g op acc fun acc d _=>k acc d H (n+1)
theorem c4M (hX:WOk C X){kb:Nat}{s:St}{o:Oper}{os:List Oper}{acc:Prop}{k:Prop→D→Hp→Nat→Prop}{K:St→Prop}(hw:a0N ops s.env o=some true)(hk:∀ acc d H n,k acc d H n→acc∧OkL C F ops os ⟨a1N s.env o.dst d,H,n⟩ K)
  (h:wpO C X kb (a1g s.env) s.H s.n o.op acc k):acc∧OkL C F ops (o::os) s K:=by
 have pe:wpP X (a1g s.env) o.op acc (fun acc d _=>k acc d s.H (s.n+1))→acc∧OkL C F ops (o::os) s K:=fun h=>by
  unfold wpP at h;split at h
  ·rename_i d p he
   obtain ⟨⟨hp,ha⟩,h2⟩:=hk _ _ _ _ h;exact ⟨ha,OkL.p hX.tt hw he hp h2⟩
  ·exact h.elim
 have qe:wpQ X (a1g s.env) o.op acc (fun acc d _=>k acc d s.H (s.n+1))→acc∧OkL C F ops (o::os) s K:=fun h=>by
  unfold wpQ at h;split at h
  ·rename_i d p he
   obtain ⟨⟨hp,ha⟩,h2⟩:=hk _ _ _ _ h;exact ⟨ha,OkL.q hX.tt hX.xt hw he hp h2⟩
  ·exact h.elim
 have le:(match evL X.tt s.H s.n kb (a1g s.env) o.op with
   | some (d,ne,p)=>k (p∧acc) d (a4f ne s.H) (s.n+1)
   | none=>False)→acc∧OkL C F ops (o::os) s K:=fun h=>by
  split at h
  ·rename_i d ne p he
   obtain ⟨⟨hp,ha⟩,h2⟩:=hk _ _ _ _ h;exact ⟨ha,OkL.l' kb hX.tt hw he hp h2⟩
  ·exact h.elim
 unfold wpO at h;split at h
 ·rename_i fop args tys ho
  split at h
  ·rename_i f first captured hf
   split at h
   ·rename_i d hn
    obtain ⟨ha,h2⟩:=hk _ _ _ _ h;exact ⟨ha,OkL.nat hw ho hf rfl (hX.nat _ _ _ hn) h2⟩
   ·obtain ⟨h1,h⟩:=h
    refine ⟨h1,?_⟩;exact a0l.ok hw (fun hc ρ a w hs=>a6I ho hf hc hs) h fun d H n hk'=>(hk _ _ _ _ hk').2
  ·exact h.elim
 ·rename_i r name args tys ho
  split at h<;>first|exact h.elim|skip
  rename_i t d0 hr;split at h<;>first|exact h.elim|skip
  rename_i f hf;obtain ⟨h1,h⟩:=h;refine ⟨h1,?_⟩;exact a0l.ok hw (fun hc ρ a w hs=>a8l ho hr (hX.mt _ _ _ hf) hc hs) h fun d H n hk'=>(hk _ _ _ _ hk').2
 ·split at h
  ·rename_i d H' p he
   obtain ⟨⟨hp,ha⟩,h2⟩:=hk _ _ _ _ h;exact ⟨ha,OkL.app' kb hX.tt hw he hp h2⟩
  ·split at h<;>first|exact h.elim|skip
   rename_i d H' p he;obtain ⟨⟨hp,ha⟩,h2⟩:=hk _ _ _ _ h;exact ⟨ha,OkL.appS kb hX.tt hw he hp h2⟩
 ·split at h<;>first|exact h.elim|skip
  rename_i d e p he;obtain ⟨⟨hp,ha⟩,h2⟩:=hk _ _ _ _ h;exact ⟨ha,OkL.mk' kb hX.tt hw he hp h2⟩
 ·split at h<;>first|exact h.elim|skip
  rename_i j e p he;obtain ⟨⟨hp,ha⟩,h2⟩:=hk _ _ _ _ h;exact ⟨ha,OkL.store hX.tt hw he hp h2⟩
 ·exact le h
 ·exact le h
 ·exact le h
 ·exact le h
 ·rename_i t x ix ho
  split at h
  ·rename_i d p he
   obtain ⟨⟨hp,ha⟩,h2⟩:=hk _ _ _ _ h;exact ⟨ha,OkL.p hX.tt hw he hp h2⟩
  ·unfold d2F at h
   split at h<;>first|exact h.elim|skip
   rename_i i h1;split at h<;>first|exact h.elim|skip
   rename_i e esz eby ez h2;split at h<;>first|exact h.elim|skip
   rename_i kk j h3;split at h<;>first|exact h.elim|skip
   rename_i nn sz es h4;obtain ⟨ha,⟨rfl,hj⟩,d,hd,hk'⟩:=h;exact ⟨ha,OkL.idx hX.tt hw ho h1 h2 h3 h4 hj hd (hk _ _ _ _ hk').2⟩
 ·exact qe h
 ·exact qe h
 ·unfold d2G at h
  split at h
  ·rename_i d p he
   obtain ⟨⟨hp,ha⟩,h2⟩:=hk _ _ _ _ h;exact ⟨ha,OkL.p hX.tt hw he hp h2⟩
  ·exact qe h
 ·exact pe h
def a2b (C:Ctx)(X:EV)(kb:Nat)(ops:Array Oper):List Nat→St→Prop→(Prop→St→Prop)→Prop
 | [],s,acc,K=>K acc s
 | i::l,s,acc,K=>match a9j ops.toList i with
  | some o=>match o.guard with
   | none=>wpO C X (kb+i) (a1g s.env) s.H s.n o.op acc fun acc d H n=>a2b C X kb ops l ⟨a1N s.env o.dst d,H,n⟩ acc K
   | some _=>match a0N ops s.env o with
    | some b=>acc∧brB b (wpO C X (kb+i) (a1g s.env) s.H s.n o.op True fun acc d H n=>a2b C X kb ops l ⟨a1N s.env o.dst d,H,n⟩ acc K)
      (a2b C X kb ops l ⟨a1N s.env o.dst (.prim (.tuple #[])),s.H,s.n+1⟩ True K)
    | none=>False
  | none=>False
theorem c5K {i:Nat}{o:Oper}(h:a9j ops.toList i=some o):ops.getD i default=o:=by
 have:=a4R h
 simp [Array.getD_eq_getD_getElem?,this]
theorem a1r {kb:Nat}(hX:WOk C X){K:Prop→St→Prop}{K':St→Prop}(hK:∀ acc s,K acc s→acc∧K' s):∀ {l:List Nat} {s:St} {acc:Prop},a2b C X kb ops l s acc K →
  acc∧OkL C F ops (l.map fun j=>ops.getD j default) s K'
 | [],s,acc,h=>⟨(hK _ _ h).1,OkL.nil (hK _ _ h).2⟩
 | i::l,s,acc,h=>by
  simp only [a2b] at h;split at h<;>first|exact h.elim|skip
  rename_i o ho;rw [List.map_cons,c5K ho];split at h
  ·rename_i hg
   exact c4M hX (by unfold a0N;rw [hg]) (fun acc d H n h=>a1r hX hK h) h
  ·split at h<;>first|exact h.elim|skip
   rename_i b hb;obtain ⟨h0,h⟩:=h;cases b with
   | true=>exact ⟨h0,(c4M hX hb (fun acc d H n h=>a1r hX hK h) h).2⟩
   | false=>exact ⟨h0,OkL.skip hb (a1r hX hK h).2⟩
def c4N (X:EV)(kb:Nat)(e:Ent)(n:Nat)(g:Operand→D)(op:Op)(acc:Prop)(k:Prop→D→Ent→Prop):Prop:=match op with
 | .store _ _ _=>match evS X.tt [e] g op with
  | some (_,e',p)=>k (p∧acc) (.prim (.tuple #[])) e'
  | none=>False
 | _=>match evA X.tt [e] n kb g op with
  | some (d,[e'],p)=>k (p∧acc) d e'
  | _=>False
def a1M (C:Ctx)(X:EV)(kb:Nat)(ops:Array Oper)(iw:Nat)(ia:Option Nat)(R:Hp)(clo:List Nat)(n:Nat):List Nat→Env→Hp→Option Ent→Option Ent→Prop→(Prop→Env→Hp→Ent→Ent→Prop)→Prop
 | [],env,N,some e,some e',acc,K=>K acc env N e e'
 | [],_,_,_,_,_,_=>False
 | i::l,env,N,accE,acc',acc,K=>match a9j ops.toList i with
  | some o=>match Nat.beq i iw with
   | true=>match acc' with
    | some _=>False
    | none=>match accE with
     | some e=>match o.guard with
      | none=>c4N X (kb+i) e (n+i) (a1g env) o.op acc fun acc d e'=>a1M C X kb ops iw ia R clo n l (a1N env o.dst d) N accE (some e') acc K
      | some _=>False
     | none=>False
   | false=>match b8p ia i with
    | true=>match accE with
     | some _=>False
     | none=>match o.guard with
      | none=>wpE C X (kb+i) (a1g env) R (n+i) o.op acc fun acc d ne=>match ne with
       | some e=>a1M C X kb ops iw ia R clo n l (a1N env o.dst d) N (some e) acc' acc K
       | none=>False
      | some _=>False
    | false=>match o.guard with
     | none=>wpE C X (kb+i) (a1g env) (a7d ia accE R (a3h i clo)) (n+i) o.op acc fun acc d ne=>a1M C X kb ops iw ia R clo n l (a1N env o.dst d) (a4f ne N) accE acc' acc K
     | some _=>match a0N ops env o with
      | some b=>acc∧brB b (wpE C X (kb+i) (a1g env) (a7d ia accE R (a3h i clo)) (n+i) o.op True fun acc d ne=>a1M C X kb ops iw ia R clo n l (a1N env o.dst d) (a4f ne N) accE acc' acc K)
        (a1M C X kb ops iw ia R clo n l (a1N env o.dst (.prim (.tuple #[]))) N accE acc' True K)
      | none=>False
  | none=>False
theorem c7e (hX:WOk C X){kb iw:Nat}{ia:Option Nat}{R:Hp}{e:Ent}{n:Nat}{env:Env}{o:Oper}{acc:Prop}{k:Prop→D→Ent→Prop}(hw:a0N ops env o=some true)(hk:∀ acc d e',k acc d e'→acc)(h:c4N X kb e n (a1g env) o.op acc k) :
  acc∧∃ acc' d e',a2R C F ops ⟨iw,ia,e,e',R⟩ n env o d∧k acc' d e':=by
 unfold c4N at h;split at h
 ·split at h<;>first|exact h.elim|skip
  rename_i e' p he
  have:=hk _ _ _ h
  exact ⟨this.2,_,_,_,a2R.store (W:=⟨iw,ia,e,e',R⟩) hX.tt hw he this.1,h⟩
 ·split at h<;>first|exact h.elim|skip
  rename_i d e' p he
  have:=hk _ _ _ h
  exact ⟨this.2,_,_,_,a2R.app (W:=⟨iw,ia,e,e',R⟩) kb hX.tt hw he this.1,h⟩
theorem a2E (hX:WOk C X){kb iw:Nat}{ia:Option Nat}{R:Hp}{clo:List Nat}{n:Nat}(hwa:ia≠some iw)(hclo:∀ j∈clo,a2l ops iw j){K:Prop→Env→Hp→Ent→Ent→Prop}(hK:∀ acc env N e e',K acc env N e e'→acc) :
  ∀ {l:List Nat} {env:Env} {N:Hp} {accE acc':Option Ent} {acc:Prop},a1M C X kb ops iw ia R clo n l env N accE acc' acc K →
  acc∧∃ q env' N' e e',(∀ a,accE=some a→e=a)∧(∀ a,acc'=some a→e'=a)∧b6z C F ops ⟨iw,ia,e,e',R⟩ n l env N env' N'∧K q env' N' e e'
 | [],env,N,accE,acc',acc,h=>by
  cases accE with
  | none=>simp only [a1M] at h
  | some e=>cases acc' with
   | none=>simp only [a1M] at h
   | some e' =>
    simp only [a1M] at h;exact ⟨hK _ _ _ _ _ h,_,_,_,e,e',fun a ha=>by cases ha;rfl,fun a ha=>by cases ha;rfl,.nil _ _,h⟩
 | i::l,env,N,accE,acc',acc,h=>by
  simp only [a1M] at h;split at h<;>first|exact h.elim|skip
  rename_i o ho;have ho:=a4R ho;split at h
  ·rename_i hb
   have hb:=Nat.eq_of_beq_eq_true hb;split at h<;>first|exact h.elim|skip
   split at h<;>first|exact h.elim|skip
   rename_i e0;split at h<;>first|exact h.elim|skip
   rename_i hg;have hw:a0N ops env o=some true:=by unfold a0N;rw [hg]
   obtain ⟨h1,acc1,d,e1,h2,h3⟩:=c7e (F:=F) (iw:=iw) (ia:=ia) (R:=R) hX hw (fun acc d e' h=>(a2E hX hwa hclo hK h).1) h;obtain ⟨_,q,env',N',e,e',h4,h5,h6,h7⟩:=a2E hX hwa hclo hK h3
   have:=h4 _ rfl
   subst this
   have:=h5 _ rfl
   subst this;exact ⟨h1,q,env',N',_,_,h4,by simp,.cons (ne:=none) ho (.inr (.inl ⟨hb,by rw [hb];exact hwa,rfl,h2⟩)) h6,h7⟩
  ·rename_i hb
   have hne:i≠iw:=fun hi=>by rw [hi,Nat.beq_refl] at hb;cases hb
   split at h
   ·rename_i hi
    have hi:=a7s.1 hi;split at h<;>first|exact h.elim|skip
    split at h<;>first|exact h.elim|skip
    rename_i hg;have hw:a0N ops env o=some true:=by unfold a0N;rw [hg]
    obtain ⟨h1,acc1,d,ne,h2,h3⟩:=c0o (F:=F) hX hw (fun acc d ne h=>by
     split at h
     ·exact (a2E hX hwa hclo hK h).1
     ·exact h.elim) h
    split at h3<;>first|exact h3.elim|skip
    rename_i e0;obtain ⟨_,q,env',N',e,e',h4,h5,h6,h7⟩:=a2E hX hwa hclo hK h3
    have:=h4 _ rfl
    subst this;exact ⟨h1,q,env',N',_,_,by simp,h5,.cons (ne:=none) ho (.inr (.inr ⟨hne,hi,rfl,h2⟩)) h6,h7⟩
   ·rename_i hi
    have hi:ia≠some i:=fun h=>by rw [a7s.2 h] at hi;cases hi
    have st:∀ {e:Ent} {d:D} {ne:Option Ent} (e':Ent),(∀ a,accE=some a→e=a)→a0s C F ops (a7d ia accE R (a3h i clo)) (n+i) env o d ne→c7i C F ops ⟨iw,ia,e,e',R⟩ (n+i) env ⟨i,o,d,ne⟩:=fun {e d ne} e' hacc hst=>by
     refine .inl ⟨hne,hi,?_⟩;unfold a7d at hst;cases ia with
     | some ia=>exact .inr hst
     | none =>
      cases accE with
      | none=>exact .inr hst
      | some a =>
       have:=hacc a rfl
       subst this;dsimp only at hst;cases hm:a3h i clo with
       | true=>rw [hm] at hst;exact .inl ⟨rfl,hclo i (a1f.1 hm),hst⟩
       | false=>rw [hm] at hst;exact .inr hst
    have step:∀ acc,a0N ops env o=some true→(wpE C X (kb+i) (a1g env) (a7d ia accE R (a3h i clo)) (n+i) o.op acc fun acc d ne=>a1M C X kb ops iw ia R clo n l (a1N env o.dst d) (a4f ne N) accE acc' acc K) →
      acc∧∃ q env' N' e e',(∀ a,accE=some a→e=a)∧(∀ a,acc'=some a→e'=a)∧b6z C F ops ⟨iw,ia,e,e',R⟩ n (i::l) env N env' N'∧K q env' N' e e':=fun acc hw h=>by
     obtain ⟨h1,acc1,d,ne,h2,h3⟩:=c0o (F:=F) hX hw (fun acc d ne h=>(a2E hX hwa hclo hK h).1) h;obtain ⟨_,q,env',N',e,e',h4,h5,h6,h7⟩:=a2E hX hwa hclo hK h3;exact ⟨h1,q,env',N',e,e',h4,h5,.cons ho (st e' h4 h2) h6,h7⟩
    split at h
    ·rename_i hg
     exact step _ (by unfold a0N;rw [hg]) h
    ·split at h<;>first|exact h.elim|skip
     rename_i b hb;obtain ⟨h0,h⟩:=h;cases b with
     | true=>exact ⟨h0,(step _ hb h).2⟩
     | false =>
      obtain ⟨_,q,env',N',e,e',h4,h5,h6,h7⟩:=a2E hX hwa hclo hK h;exact ⟨h0,q,env',N',e,e',h4,h5,.cons (ne:=none) ho (st e' h4 (a0s.skip hb)) h6,h7⟩
structure Fle (C:Ctx)(F F':Fra):Prop where
 nt:F'.nt=F.nt
 sz:F.w0.heap.size≤F'.w0.heap.size
 mem:∀ {ρ:Lk} {H:Hp} {w:World},Mem C F' ρ H w→Mem C F ρ H w
 X:∀ b,F.X b→F'.X b
 df:∃ ms:List Deferred,F'.df=ms++F.df∧(∃ rs:List Nat,ms=rs.map (fun r=>{ target:=.collected r,args:=#[] })∧rs.Nodup ∧
  ∀ r∈rs,F.w0.heap.size≤r∧r<F'.w0.heap.size∧F'.X r∧∀ (ρ:Lk) (H:Hp) (w:World),Mem C F' ρ H w→w.heap[r]? = some (.deferred (some [])))
theorem Fle.refl (F:Fra):Fle C F F:=⟨rfl,Nat.le_refl _,fun h=>h,fun _ h=>h,[],rfl,[],rfl,.nil,by simp⟩
theorem Fle.trans {F F' F'':Fra}(h:Fle C F F')(k:Fle C F' F''):Fle C F F'':=by
 obtain ⟨h1,h2,h3,h4,ms,e1,rs,e2,n1,q1⟩:=h;obtain ⟨k1,k2,k3,k4,ms',e1',rs',e2',n1',q1'⟩:=k;refine ⟨k1.trans h1,Nat.le_trans h2 k2,fun h=>h3 (k3 h),fun b hb=>k4 b (h4 b hb),ms'++ms,by rw [e1',e1,List.append_assoc],rs'++rs,by rw [e2,e2',List.map_append],?_,?_⟩
 ·refine List.nodup_append.2 ⟨n1',n1,fun x hx y hy he=>?_⟩
  have:=(q1' x hx).1
  have:=(q1 y hy).2.1
  omega
 ·intro r hr
  rcases List.mem_append.1 hr with hr|hr
  ·obtain ⟨x1,x2,x3,x4⟩:=q1' r hr
   exact ⟨by omega,x2,x3,x4⟩
  ·obtain ⟨x1,x2,x3,x4⟩:=q1 r hr
   exact ⟨x1,by omega,k4 _ x3,fun ρ H w m=>x4 ρ H w (k3 m)⟩
def a5a (C:Ctx)(F:Fra)(Q:Exit→Fra→St→Prop):Exit→Act→World→Prop:=fun e a w=>∃ F' s' ρ',Fle C F F'∧Q e F' s'∧Sat C F' ρ' s' a w
theorem a5a.up {F F':Fra}{Q:Exit→Fra→St→Prop}(h:Fle C F F'){e:Exit}{a:Act}{w:World}:a5a C F' Q e a w→a5a C F Q e a w:=fun ⟨F2,s',ρ',h1,h2,h3⟩=>⟨F2,s',ρ',h.trans h1,h2,h3⟩
structure OkS (C:Ctx)(B:Fra)(rd:Option Nat)(F:Fra)(c:Code)(s:St)(Q:Exit→Fra→St→Prop):Prop where
 out:Fle C B F→a0E B.nt c=true→∀ (ρ:Lk) (a:Act) (w:World),Sat C F ρ s a w→c.wpIn (fw rd) 0 C.P (a5a C B Q) a w
variable {s:St} {rd:Option Nat} {B:Fra} {Q:Exit→Fra→St→Prop}
theorem OkS.mono {c:Code}{Q':Exit→Fra→St→Prop}(h:OkS C B rd F c s Q)(hq:∀ e F s,Q e F s→Q' e F s):OkS C B rd F c s Q' :=
 ⟨fun hB hd ρ a w hs=>wpIn_mono (h.out hB hd ρ a w hs) fun e a w ⟨F',s',ρ',h1,h2,h3⟩=>⟨F',s',ρ',h1,hq _ _ _ h2,h3⟩⟩
theorem OkS.skip (h:Q .normal F s):OkS C B rd F .skip s Q:=⟨fun hB _ ρ _ _ hs=>wpIn_skip ⟨F,s,ρ,hB,h,hs⟩⟩
theorem OkS.ret (h:Q .ret F s):OkS C B rd F .ret s Q:=⟨fun hB _ ρ _ _ hs=>wpIn_ret ⟨F,s,ρ,hB,h,hs⟩⟩
theorem OkS.exit {i:Nat}(h:Q (.exit i) F s):OkS C B rd F (.exit i) s Q:=⟨fun hB _ ρ _ _ hs=>wpIn_exit ⟨F,s,ρ,hB,h,hs⟩⟩
def a9r (n:Prop)(r:Exit→Prop)(e:Exit):Prop:=match e with
 | .normal=>n
 | .ret=>r .ret
 | .exit j=>r (.exit j)
 | .goto l=>r (.goto l)
 | .panic c=>r (.panic c)
 | .outgrown=>r .outgrown
theorem b3e {nt:Nat}{a b:Code}(h:a0E nt (.seq a b)=true):a0E nt a=true∧a0E nt b=true:=by simpa [a0E] using h
theorem OkS.seq {a b:Code}(h:OkS C B rd F a s (fun e F s=>a9r (OkS C B rd F b s Q) (fun e=>Q e F s) e)):OkS C B rd F (.seq a b) s Q :=
 ⟨fun hB hd ρ x w hs=>by
  obtain ⟨d1,d2⟩:=b3e hd;refine wpIn_seq (wpIn_mono (h.out hB d1 ρ x w hs) ?_);rintro e a' w' ⟨F',s',ρ',h1,h2,h3⟩;cases e with
  | normal=>exact (show OkS C B rd F' b s' Q from h2).out h1 d2 ρ' a' w' h3
  | ret=>exact ⟨F',s',ρ',h1,h2,h3⟩
  | exit j=>exact ⟨F',s',ρ',h1,h2,h3⟩
  | goto l=>exact ⟨F',s',ρ',h1,h2,h3⟩
  | panic c=>exact ⟨F',s',ρ',h1,h2,h3⟩
  | outgrown=>exact ⟨F',s',ρ',h1,h2,h3⟩⟩
def b0o (d:D)(y n:Prop):Prop:=match d with
 | .prim (.bool b)=>brB b y n
 | _=>False
theorem OkS.cond {c:Operand}{a b:Code}(h:b0o (a1g s.env c) (OkS C B rd F a s Q) (OkS C B rd F b s Q)):OkS C B rd F (.cond c a b) s Q:=by
 unfold b0o at h;split at h
 ·rename_i t ht
  refine ⟨fun hB hd ρ x w hs=>?_⟩;simp only [a0E,Bool.and_eq_true] at hd;have hc:x.eval c=.bool t:=by
   have:=a0S hs.env c
   rw [ht] at this;generalize x.eval c=v at this;cases this;rfl
  refine wpIn_cond_split hc (fun ht=>?_) fun ht=>?_
  ·subst ht;exact OkS.out h hB hd.1 ρ x w hs
  ·subst ht;exact OkS.out h hB hd.2 ρ x w hs
 ·exact h.elim
def b5I (i:Nat)(n:Prop)(r:Exit→Prop)(e:Exit):Prop:=match e with
 | .exit j=>bif Nat.beq j i then n else r (.exit j)
 | .normal=>r .normal
 | .ret=>r .ret
 | .goto l=>r (.goto l)
 | .panic c=>r (.panic c)
 | .outgrown=>r .outgrown
theorem OkS.block {i:Nat}{b:Code}(h:OkS C B rd F b s (fun e F s=>b5I i (Q .normal F s) (fun e=>Q e F s) e)):OkS C B rd F (.block i b) s Q :=
 ⟨fun hB hd ρ x w hs=>by
  refine wpIn_block (wpIn_mono (h.out hB (by simpa [a0E] using hd) ρ x w hs) ?_);rintro e a' w' ⟨F',s',ρ',h1,h2,h3⟩;cases e with
  | normal=>exact ⟨F',s',ρ',h1,h2,h3⟩
  | ret=>exact ⟨F',s',ρ',h1,h2,h3⟩
  | exit j =>
   simp only [b5I] at h2;simp only [Exit.inBlock];cases hb:Nat.beq j i with
   | true=>rw [hb] at h2;rw [if_pos (Nat.eq_of_beq_eq_true hb)];exact ⟨F',s',ρ',h1,h2,h3⟩
   | false=>rw [hb] at h2;rw [if_neg (fun hj=>by rw [hj,Nat.beq_refl] at hb;cases hb)];exact ⟨F',s',ρ',h1,h2,h3⟩
  | goto l=>exact ⟨F',s',ρ',h1,h2,h3⟩
  | panic c=>exact ⟨F',s',ρ',h1,h2,h3⟩
  | outgrown=>exact ⟨F',s',ρ',h1,h2,h3⟩⟩
def b3z:Op→Bool
 | .defer _=>true
 | _=>false
def a3T:List Oper→Bool
 | []=>true
 | o::l=>match b3z o.op with
  | true=>false
  | false=>a3T l
theorem c1O {l:List Oper}(h:a3T l=true):∀ o∈l,∀ c,o.op≠.defer c:=by
 induction l with
 | nil=>intro o ho;cases ho
 | cons o l ih =>
  intro o' ho c hc;have h1:b3z o.op=false∧a3T l=true:=by
   rw [a3T] at h;generalize b3z o.op=b at h ⊢;cases b with
   | true=>cases h
   | false=>exact ⟨rfl,h⟩
  rcases List.mem_cons.1 ho with h2|h2
  ·rw [← h2,hc] at h1;cases h1.1
  ·exact ih h1.2 o' h2 c hc
theorem a2w (h:a3T ops.toList=true):∀ (i:Nat) (o:Oper),ops[i]? = some o→∀ c,o.op≠.defer c:=fun i o ho=>c1O h o (Array.mem_toList_iff.2 (Array.mem_of_getElem? ho))
theorem OkL.run {K:St→Prop}{l:List Nat}(h:OkL C F ops (l.map fun j=>ops.getD j default) s K)(hlt:∀ j∈l,j<ops.size)(hd:ops.toList.all (a2A F.nt)=true){ρ:Lk}{a:Act}{w:World}(hs:Sat C F ρ s a w):wpOps C.P ops (Fin C F K) l a w:=by
 refine h ?_ l ?_ ρ a w hs
 ·rw [List.all_eq_true]
  intro o' ho';obtain ⟨j,hj,rfl⟩:=List.mem_map.1 ho';refine List.all_eq_true.1 hd _ ?_;rw [Array.getD_eq_getD_getElem?,Array.getElem?_eq_getElem (hlt j hj)];simp
 ·rw [List.map_map]
  refine List.map_congr_left fun j hj=>?_
  simp [Array.getD_eq_getD_getElem?,Array.getElem?_eq_getElem (hlt j hj)]
theorem a3O {K:St→Prop}(hB:Fle C B F)(hK:∀ s,K s→Q .normal F s){e:Exit}{a:Act}{w:World}(h:Fin C F K e a w):e=.normal∧a5a C B Q .normal a w:=by
 obtain ⟨h0,s',ρ',h1,h2⟩:=h;exact ⟨h0,F,s',ρ',hB,hK _ h1,h2⟩
theorem a3N {i:Nat}{d:Bool}(hB:Fle C B F)(h:a0E B.nt (.region i ops d)=true):ops.toList.all (a2A F.nt)=true:=by rw [hB.nt];exact h
theorem OkS.reg {i:Nat}(hX:WOk C X)(kb:Nat)(hnd:a3T ops.toList=true)(h:a2b C X kb ops (List.range ops.size) s True fun acc s=>acc∧Q .normal F s):OkS C B rd F (.region i ops false) s Q:=by
 refine ⟨fun hB hd ρ a w hs=>wpIn_region ?_⟩;have hd:=a3N hB hd;have h1:=(a1r (F:=F) (K':=Q .normal F) hX (fun acc s h=>h) h).2.run (fun j hj=>List.mem_range.1 hj) hd hs
 have:=a1q (rd:=rd) (Q:=a5a C B Q) (l2:=[]) (fun _ _ _ h=>a3O hB (fun _ h=>h) h) (a2w hnd) _ a w h1
 rwa [List.append_nil] at this
theorem OkS.regD {i:Nat}(hX:WOk C X)(kb:Nat)(pre suf:List Nat)(hc:(b4g ops pre suf&&a3T ops.toList)=true)
  (h:a3r C X kb ops s.H s.n pre s.env [] True fun acc env N=>a2b C X kb ops suf ⟨env,N++s.H,s.n+b1q ops.toList⟩ acc fun acc s=>acc∧Q .normal F s):OkS C B rd F (.region i ops true) s Q:=by
 have hsz:ops.size=b1q ops.toList:=by rw [b0L,Array.length_toList]
 rw [← hsz] at h;simp only [Bool.and_eq_true] at hc;obtain ⟨_,acc,env,N,h1,h2⟩:=a4H (F:=F) hX (fun acc env N h=>(a1r (F:=F) (K':=Q .normal F) hX (fun acc s h=>h) h).1) h;refine ⟨fun hB hd ρ a w hs=>?_⟩;have hd:=a3N hB hd;refine c8c hX.mixed hc.1 h1 (fun hlt ρ a w hs=>?_) hd ρ a w hs;have h3:=(a1r (F:=F) (K':=Q .normal F) hX (fun acc s h=>h) h2).2.run hlt hd hs
 have:=a1q (rd:=rd) (Q:=a5a C B Q) (l2:=[]) (fun _ _ _ h=>a3O hB (fun _ h=>h) h) (a2w hc.2) _ a w h3
 rwa [List.append_nil] at this
def b6l (H:Hp)(k:Nat)(K:Ent→Hp→Prop):Prop:=match Hp.get H k with
 | some e=>K e (Hp.del H k)
 | none=>False
theorem c1f {i:Nat}{W:WR}{pre suf:List Nat}{envF:Env}{N:Hp}(hm:C.P.follows .mixedOrders=true)(hc:b4g ops pre suf=true)(hnd:a3T ops.toList=true)
  (hH:s.H.Perm W.start) (hga:∀ ia,W.ia=some ia→W.e.g=s.n+ia∧a2l ops W.iw ia∧ia∈pre) (hiw:W.iw∈pre) (hwg:W.e'.g=W.e.g∨W.e'.g=s.n+W.iw)
  (hpre:b6z C F ops W s.n pre s.env [] envF N)
  (h:OkL C F ops (suf.map fun j=>ops.getD j default) ⟨envF,N++W.e'::W.R,s.n+ops.size⟩ (Q .normal F)):OkS C B rd F (.region i ops true) s Q :=
 ⟨fun hB hd ρ a w hs=>wpIn_region_any hm (a3i (fun _ _ _ h=>a3O (F:=F) hB (fun _ h=>h) h) (a2w hnd) _ _ _ _ (Ok.drawWA (Q:=fun e s=>Q e F s) hc hH hga hiw hwg hpre h (a3N hB hd) ρ a w hs))⟩
theorem OkL.perm {os:List Oper}{env:Env}{H H':Hp}{n:Nat}{K:St→Prop}(hp:H.Perm H')(h:OkL C F ops os ⟨env,H,n⟩ K):OkL C F ops os ⟨env,H',n⟩ K:=fun hd l hl ρ a w hs =>
 h hd l hl ρ a w ⟨hs.mem.perm hp.symm,hs.fresh,fun e he=>hs.gen e (hp.mem_iff.1 he),fun t=>by
  show Rep ρ (Own F.X ρ H) w _ _;rw [Own.perm hp];exact hs.env t,hs.nt,hs.dfr⟩
theorem OkS.regW {i:Nat}(hX:WOk C X)(kb:Nat)(pre suf:List Nat)(iw:Nat)(clo:List Nat)(k:Nat)(hc:(b4g ops pre suf&&a3T ops.toList)=true)(hcl:(a3h iw pre&&a4h clo (a2a (b6s ops (pre++suf) []) iw))=true)
  (h:b6l s.H k fun e R=>a1M C X kb ops iw none R clo s.n pre s.env [] (some e) none True fun acc env N e e'=>(e'.g=e.g∨e'.g=s.n+iw)∧a2b C X kb ops suf ⟨env,N++Hp.set s.H k e',s.n+b1q ops.toList⟩ acc fun acc s=>acc∧Q .normal F s) :
  OkS C B rd F (.region i ops true) s Q:=by
 have hsz:ops.size=b1q ops.toList:=by rw [b0L,Array.length_toList]
 rw [← hsz] at h;unfold b6l at h;split at h<;>first|exact h.elim|skip
 rename_i e0 he0;simp only [Bool.and_eq_true] at hcl hc;have hclo:∀ j∈clo,a2l ops iw j:=fun j hj=>a3R (a4L _ _ (by simp)) _ _ (a2m.1 hcl.2 j hj)
 obtain ⟨_,q,env,N,e,e',h1,h2,h3,h4,h5⟩:=a2E (F:=F) hX (by simp) hclo (fun acc env N e e' h=>(a1r (F:=F) (K':=Q .normal F) hX (fun acc s h=>h) h.2).1) h
 have:=h1 _ rfl
 subst this;obtain ⟨H1,H2,q1,_,q3⟩:=Hp.set_split e he0;obtain ⟨H1',H2',q1',q2',q3'⟩:=Hp.set_split e' he0;refine c1f (W:=⟨iw,none,e,e',Hp.del s.H k⟩) hX.mixed hc.1 hc.2 ?_ (by simp) (a1f.1 hcl.1) h4 h3 (OkL.perm ?_ (a1r (F:=F) hX (fun acc s h=>h) h5).2)
 ·rw [q3];unfold WR.start
  dsimp only;rw [q1];exact List.perm_middle
 ·rw [q2',q3']
  exact List.Perm.append_left _ List.perm_middle
structure Wk (s s':St):Prop where
 h:FzH s.H s'.H s.H s'.H
 e:b2R s.H s'.H s.env s'.env
 n:s.n≤s'.n
theorem OkS.weak {c:Code}(s':St)(h:Wk s s')(hk:OkS C B rd F c s' Q):OkS C B rd F c s Q:=⟨fun hB hd ρ a w hs=>hk.out hB hd ρ a w (hs.weak h.h h.e h.n)⟩
theorem b2N {Fe:Fence}{n:Nat}{P:Program}{c:Code}{Q:Exit→Act→World→Prop}(I:Nat→Act→World→Prop){m:Nat}{a:Act}{w:World}(h₀:I m a w)
  (round:∀ m a w,I m a w→c.wpIn Fe n P (Exit.then (fun a' w'=>∃ m',m'<m∧I m' a' w') Q) a w):(Code.loop c).wpIn Fe n P Q a w:=by
 intro b k cs hro hb hr;have key:∀ m a w,I m a w→∃ e a' w',Q e a' w'∧ArrivesIn (Machine.fenced P Fe) P (lone (b.atR a (.code c::.inLoop c::k)) cs w) b k cs e a' w':=by
  intro m
  induction m using Nat.strongRecOn with
  | _ m ih =>
   intro a w hI;obtain ⟨e,a₁,w₁,hq,harr⟩:=round m a w hI b (.inLoop c::k) cs hro hb hr;cases e with
   | normal =>
    obtain ⟨m',hlt,hI₁⟩:=hq;obtain ⟨e₂,a₂,w₂,hq₂,harr₂⟩:=ih m' hlt a₁ w₁ hI₁;exact ⟨e₂,a₂,w₂,hq₂,.of_steps (StepsIn.trans harr (.one (fenced_calm hb hr rfl) stepR_inLoop)) harr₂⟩
   | exit id=>exact ⟨_,a₁,w₁,hq,.pass (x:=.inLoop c) rfl (fun _ _=>.inl (by simp)) harr⟩
   | goto l=>exact ⟨_,a₁,w₁,hq,.pass (x:=.inLoop c) rfl (fun _ _=>.inl (by simp)) harr⟩
   | ret=>exact ⟨_,a₁,w₁,hq,.pass (x:=.inLoop c) rfl (fun _ _=>.inl (by simp)) harr⟩
   | panic ch=>exact ⟨_,a₁,w₁,hq,.pass (x:=.inLoop c) rfl (fun _ _=>.inl (by simp)) harr⟩
   | outgrown=>exact ⟨_,a₁,w₁,hq,.pass (x:=.inLoop c) rfl (fun _ _=>.inl (by simp)) harr⟩
 obtain ⟨e,a',w',hq,harr⟩:=key _ a w h₀;exact ⟨e,a',w',hq,.of_steps (.one (fenced_calm hb hr rfl) stepR_loop) harr⟩
theorem OkS.loopF {b:Code}{α:Type}(sh:α→St)(μ:α→Nat)(J:α→Fra→Prop)(a0:α)(h0:J a0 F)(hs:Wk s (sh a0))
  (h:∀ a F',J a F'→OkS C B rd F' b (sh a) (fun e F' s'=>a9r (∃ a',J a' F'∧μ a'<μ a∧Wk s' (sh a')) (fun e=>Q e F' s') e)):OkS C B rd F (.loop b) s Q:=by
 refine ⟨fun hB hd ρ x w hsat=>?_⟩;have hd':a0E B.nt b=true:=by simpa [a0E] using hd
 refine b2N (fun m x w=>∃ (F':Fra) (a:α) (s1:St) (ρ:Lk),μ a=m∧Fle C B F'∧J a F'∧Wk s1 (sh a)∧Sat C F' ρ s1 x w) ⟨F,a0,s,ρ,rfl,hB,h0,hs,hsat⟩ ?_;rintro m x w ⟨F',a,s1,ρ,hm,hF,ha,hw,hsat⟩;refine wpIn_mono ((h a F' ha).out hF hd' ρ x w (hsat.weak hw.h hw.e hw.n)) ?_;rintro e a' w' ⟨F2,s2,ρ2,h1,h2,h3⟩;cases e with
 | normal =>
  obtain ⟨a2,q1,q2,q3⟩:=(show ∃ a',J a' F2∧μ a'<μ a∧Wk s2 (sh a') from h2)
  exact ⟨μ a2,hm ▸ q2,F2,a2,s2,ρ2,rfl,h1,q1,q3,h3⟩
 | ret=>exact ⟨F2,s2,ρ2,h1,h2,h3⟩
 | exit j=>exact ⟨F2,s2,ρ2,h1,h2,h3⟩
 | goto l=>exact ⟨F2,s2,ρ2,h1,h2,h3⟩
 | panic c=>exact ⟨F2,s2,ρ2,h1,h2,h3⟩
 | outgrown=>exact ⟨F2,s2,ρ2,h1,h2,h3⟩
theorem OkS.loop {b:Code}{α:Type}(sh:α→St)(μ:α→Nat)(J:α→Prop)(a0:α)(h0:J a0)(hs:Wk s (sh a0))
  (h:∀ a F',J a→OkS C B rd F' b (sh a) (fun e F' s'=>a9r (∃ a',J a'∧μ a'<μ a∧Wk s' (sh a')) (fun e=>Q e F' s') e)):OkS C B rd F (.loop b) s Q :=
 OkS.loopF sh μ (fun a _=>J a) a0 h0 hs h
abbrev i64 (z:Int):D:=.prim (.int .i64 z)
abbrev u64 (z:Int):D:=.prim (.int .u64 z)
abbrev str (s:ByteArray):D:=.prim (.string s)
abbrev boo (b:Bool):D:=.prim (.bool b)
abbrev a2d:D:=.prim (.slice none 0 0)
theorem a0a {H:Hp}{d0 d:D}(hd:d0=d)(hp:a2c d0):∃ d',Fz H [] d0 d'∧a2c d'∧d'=d:=⟨d0,.refl _,hp,hd⟩
theorem FzL.refl {H Hf:Hp}:∀ ds:List D,FzL H Hf ds ds
 | []=>trivial
 | _::l=>⟨.refl _,FzL.refl l⟩
theorem a0n.same {C:Ctx}{f:Nat}{ds:List D}{k:D→Prop}(d:D)(hc:a0b C f ds d)(hp:ArePure ds)(hk:k d):a0n C f ds k:=.mk ds d (FzL.refl _) hc hp hk
theorem a0l.same {C:Ctx}{f:Nat}{ds:List D}{H:Hp}{n:Nat}{k:D→Hp→Nat→Prop}(d:D)(hc:a0b C f ds d)(hp:ArePure ds)(hk:k d H (n+1)):a0l C f ds H n k:=.pure ds d (FzL.refl _) hc hp hk
end
def Fra.subZ (ρ:Lk)(H:Hp)(w:World)(nt:Nat)(X' Z:Nat→Prop)(df:List Deferred):Fra:=⟨w,X',fun b=>(∃ e∈H,ρ e.k e.g=some b)∨Z b,nt,ρ,df⟩
section
variable {C:Ctx} {F:Fra} {ρ:Lk} {H:Hp} {w w1:World} {X' Z:Nat→Prop}
theorem Mem.enterZ (m:Mem C F ρ H w)(x:Ext ρ (Own F.X ρ H) w ρ (Own X' ρ H) w1)(h1:w1.os=w.os)(h2:w1.tape=w.tape)(h3:w1.output=w.output)
  (h4:∀ b,b<w.heap.size→¬ Z b→w1.heap[b]? = w.heap[b]?) (hZo:∀ e∈H,∀ b,ρ e.k e.g=some b→¬ Z b) (hX:∀ b,X' b→b<w1.heap.size) (hXo:∀ e∈H,∀ b,ρ e.k e.g=some b→¬ X' b) (hZ:∀ b,Z b→C.nG≤b) (nt:Nat) (df:List Deferred) :
  Mem C (Fra.subZ ρ H w1 nt X' Z df) ρ H w1 where
 hok:=⟨fun e he=>by
  rcases m.hok.ent e he with h|⟨b,cs,a1,a2,a3⟩
  ·exact .inl h
  ·exact .inr ⟨b,cs,a1,by rw [h4 b (m.lt he a1) (hZo e he b a1)];exact a2,a3.mono x⟩,m.hok.inj,fun e he b hb=>⟨hXo e he b hb,.inr (.inl ⟨e,he,hb⟩)⟩⟩
 os:=rfl
 tape:=rfl
 output:=rfl
 size:=Nat.le_refl _
 blk:=fun _ _ _=>rfl
 xlt:=hX
 g0:=C.hG _ _ m.g ⟨h1,h2,h3,x.size,fun b hb=>h4 b (Nat.lt_of_lt_of_le hb (Nat.le_trans m.gn m.size)) fun hz=>absurd (hZ b hz) (by omega)⟩
 gn:=Nat.le_trans m.gn (Nat.le_trans m.size x.size)
 gw:=fun b h=>by
  rcases h with ⟨e,he,hb⟩|h
  ·rcases (m.hok.own e he b hb).2 with h|h
   ·exact Nat.le_trans m.gn h
   ·exact m.gw b h
  ·exact hZ b h
 lnk:=fun _ _ _ h=>h
 shp:=fun _ cs _ _ h=>⟨cs,_,h,rfl⟩
theorem Mem.leaveZ {nt:Nat}{df:List Deferred}{ρ':Lk}{H':Hp}{w':World}(m:Mem C F ρ H w1)(hX:∀ b,F.X b→X' b)(hZ:∀ b,Z b→F.w0.heap.size≤b∨F.Wr b)(m':Mem C (Fra.subZ ρ H w1 nt X' Z df) ρ' H' w') :
  Mem C F ρ' H' w'∧Ext ρ (fun b=>Own F.X ρ H b∨Z b) w1 ρ' (Own F.X ρ' H') w':=by
 have hwr:∀ b,(∃ e∈H,ρ e.k e.g=some b)→¬ F.X b∧(F.w0.heap.size≤b∨F.Wr b):=fun b ⟨e,he,hb⟩=>m.hok.own e he b hb
 have x:Ext ρ (fun b=>Own F.X ρ H b∨Z b) w1 ρ' (Own F.X ρ' H') w':=by
  refine ⟨m'.size,m'.lnk,fun b hb hO=>⟨?_,m'.blk b hb fun h=>?_⟩,m'.shp⟩
  ·rintro (h|⟨e,he,h⟩)
   ·exact hO (.inl (.inl h))
   ·rcases (m'.hok.own e he b h).2 with h'|h'|h'
    ·exact absurd hb (Nat.not_lt.2 h')
    ·exact hO (.inl (.inr h'))
    ·exact hO (.inr h')
  ·rcases h with h|h
   ·exact hO (.inl (.inr h))
   ·exact hO (.inr h)
 refine ⟨⟨⟨fun e he=>?_,m'.hok.inj,fun e he b hb=>?_⟩,m'.os.trans m.os,m'.tape.trans m.tape,m'.output.trans m.output,Nat.le_trans m.size m'.size,fun b hb hw=>?_,m.xlt,m.g0,m.gn,m.gw,
  fun _ _ _ h=>m'.lnk _ _ _ (m.lnk _ _ _ h),a3o m.shp x⟩,x⟩
 ·rcases m'.hok.ent e he with h|⟨b,cs,a1,a2,a3⟩
  ·exact .inl h
  ·exact .inr ⟨b,cs,a1,a2,a3.anti fun b hb=>hb.imp (hX b) id⟩
 ·have h:=m'.hok.own e he b hb
  refine ⟨fun hx=>h.1 (hX b hx),?_⟩;rcases h.2 with h'|h'|h'
  ·exact .inl (Nat.le_trans m.size h')
  ·exact (hwr b h').2
  ·exact hZ b h'
 ·have h1:=m'.blk b (Nat.lt_of_lt_of_le hb m.size) fun h=>by
   rcases h with h|h
   ·rcases (hwr b h).2 with h'|h'
    ·omega
    ·exact hw h'
   ·rcases hZ b h with h'|h'
    ·omega
    ·exact hw h'
  exact h1.trans (m.blk b hb hw)
theorem Fle.subZ (m:Mem C F ρ H w1)(hX:∀ b,F.X b→X' b)(hZ:∀ b,Z b→F.w0.heap.size≤b∨F.Wr b)(rs:List Nat)(hn:rs.Nodup)
  (hr:∀ r∈rs,F.w0.heap.size≤r∧r<w1.heap.size∧X' r∧(¬ Z r∧∀ e∈H,ρ e.k e.g≠some r)∧w1.heap[r]? = some (.deferred (some []))) :
  Fle C F (Fra.subZ ρ H w1 F.nt X' Z (rs.map (fun r=>{ target:=.collected r,args:=#[] })++F.df)) :=
 ⟨rfl,m.size,fun h=>(m.leaveZ hX hZ h).1,hX,_,rfl,rs,rfl,hn,fun r hr'=>by
  obtain ⟨a1,a2,a3,⟨a4,a5⟩,a6⟩:=hr r hr';refine ⟨a1,a2,a3,fun ρ' H' w' m'=>?_⟩;have hb:=m'.blk r a2 fun h=>by
   rcases h with ⟨e,he,h⟩|h
   ·exact a5 e he h
   ·exact a4 h
  exact hb.trans a6⟩
def b1r (w:World):List Nat→World
 | []=>w
 | r::rs=>b1r (w.putObj r (.deferred none)) rs
theorem a4z:∀ (rs:List Nat) (w:World),(b1r w rs).heap.size=w.heap.size
 | [],_=>rfl
 | r::rs,w=>by rw [b1r,a4z rs];simp [World.putObj]
theorem a2Y:∀ (rs:List Nat) (w:World) (b:Nat),b∉rs→(b1r w rs).heap[b]? = w.heap[b]?
 | [],_,_,_=>rfl
 | r::rs,w,b,h=>by
  rw [b1r,a2Y rs _ b (fun hb=>h (by simp [hb])),World.putObj_heap_other (fun hb=>h (by simp [hb]))]
theorem b2B:∀ (rs:List Nat) (w:World),(b1r w rs).os=w.os∧(b1r w rs).tape=w.tape∧(b1r w rs).output=w.output
 | [],_=>⟨rfl,rfl,rfl⟩
 | r::rs,w=>by rw [b1r];exact b2B rs _
theorem a6N {P:Program}{fn:Func}{tmps:Array Value}{R:Ending→World→Prop}:∀ (rs:List Nat) (w:World),rs.Nodup→(∀ r∈rs,w.heap[r]? = some (.deferred (some []))) →
  (∃ v,(results fn tmps).run P (b1r w rs)=.ok v (b1r w rs)∧R (.returned v) (b1r w rs))→LeavesInM (fw none) 0 P fn tmps R (rs.map (fun r=>{ target:=.collected r,args:=#[] })) .returning w
 | [],w,_,_,h=>h
 | r::rs,w,hn,hr,h=>by
  obtain ⟨n1,n2⟩:=List.nodup_cons.1 hn;refine ⟨by simp,.inl ⟨r,_,rfl,run_takeDeferred (hr r (by simp)),a6N rs _ n2 (fun q hq=>?_) h⟩⟩;rw [World.putObj_heap_other (fun hb=>by subst hb;exact n1 hq)];exact hr q (by simp [hq])
theorem Fle.finish {fn:Func}{s:St}{a:Act}{tt:Nat→Option a0k}{d:D}{p:Prop}{F':Fra}(htt:Tab C.P tt)(hF:Fle C F F')(hd0:F.df=[])(hs:Sat C F' ρ s a w)(h:b9t tt s fn.results.toList=some (d,p))(hp:p) :
  ∃ v w',LeavesIn (fw none) 0 C.P fn a.tmps (fun e w2=>e=.returned v∧w2=w') [] .returning w' ∧
   (∀ R:Ending→World→Prop,R (.returned v) w'→LeavesInM (fw none) 0 C.P fn a.tmps R a.defers .returning w) ∧
   Mem C F ρ s.H w'∧Rep ρ (Own F'.X ρ s.H) w' d v∧(∀ b,F.X b→F'.X b)∧Ext ρ (Own F'.X ρ s.H) w ρ (Own F'.X ρ s.H) w' ∧
   (∀ b,b<F.w0.heap.size→w'.heap[b]? = w.heap[b]?)∧w'.heap.size=w.heap.size∧∃ F2,Mem C F2 ρ s.H w'∧F2.X=F'.X:=by
 obtain ⟨ms,e1,rs,e2,hn,hr⟩:=hF.df;rw [hd0,List.append_nil] at e1;have hdf:a.defers=rs.map (fun r=>{ target:=.collected r,args:=#[] }):=by rw [hs.dfr,e1,e2]
 have mF:=hF.mem hs.mem;have hZ:∀ b,b∈rs→F.w0.heap.size≤b∨F.Wr b:=fun b hb=>.inl (hr b hb).1
 have hXr:∀ b,b∈rs→F'.X b:=fun b hb=>(hr b hb).2.2.1
 have hdr:∀ r∈rs,w.heap[r]? = some (.deferred (some [])):=fun r h=>(hr r h).2.2.2 _ _ _ hs.mem
 have hno:∀ e∈s.H,∀ b,ρ e.k e.g=some b→b∉rs:=fun e he b hb hb'=>(hs.mem.hok.own e he b hb).1 (hXr b hb')
 have x:Ext ρ (Own F'.X ρ s.H) w ρ (Own F'.X ρ s.H) (b1r w rs):=by
  refine ⟨by rw [a4z];exact Nat.le_refl _,fun _ _ _ h=>h,fun b hb hO=>⟨hO,a2Y _ _ _ fun h=>hO (.inl (hXr b h))⟩,fun b cs T fz h=>⟨cs,fz,?_,rfl⟩⟩;rw [a2Y _ _ _ fun hb=>by rw [hdr b hb] at h;cases h];exact h
 obtain ⟨o1,o2,o3⟩:=b2B rs w;have m2:=hs.mem.enterZ (Z:=fun b=>b∈rs) (X':=F'.X) x o1 o2 o3 (fun b _ hb=>a2Y _ _ _ hb) hno (fun b hb=>by rw [a4z];exact Nat.lt_of_lt_of_le (hs.mem.xlt b hb) hs.mem.size)
  (fun e he b hb=>(hs.mem.hok.own e he b hb).1) (fun b hb=>Nat.le_trans mF.gn (hr b hb).1) F'.nt F'.df
 have hs2:Sat C (Fra.subZ ρ s.H (b1r w rs) F'.nt F'.X (fun b=>b∈rs) F'.df) ρ s a (b1r w rs):=⟨m2,hs.fresh,hs.gen,fun t=>(hs.env t).mono x,hs.nt,hs.dfr⟩
 obtain ⟨v,r1,r2⟩:=b3N htt hs2 h hp;have mF2:Mem C F ρ s.H (b1r w rs):=by
  have mw:Mem C (Fra.subZ ρ s.H w F'.nt F'.X (fun b=>b∈rs) F'.df) ρ s.H w:=hs.mem.enterZ (.refl _ _ _) rfl rfl rfl (fun _ _ _=>rfl) hno (fun b hb=>Nat.lt_of_lt_of_le (hs.mem.xlt b hb) hs.mem.size) (fun e he b hb=>(hs.mem.hok.own e he b hb).1)
   (fun b hb=>Nat.le_trans mF.gn (hr b hb).1) _ _
  refine (mF.leaveZ hF.X hZ (nt:=F'.nt) (df:=F'.df) (ρ':=ρ) (H':=s.H) (w':=b1r w rs) ⟨⟨fun e he=>?_,mw.hok.inj,mw.hok.own⟩,o1,o2,o3,by rw [a4z];exact Nat.le_refl _,fun b hb hw=>a2Y _ _ _ fun h=>hw (.inr h),mw.xlt,mw.g0,mw.gn,mw.gw,fun _ _ _ h=>h,a3o mw.shp x⟩).1;rcases mw.hok.ent e he with h|⟨b,cs,a1,a2,a3⟩
  ·exact .inl h
  ·exact .inr ⟨b,cs,a1,by rw [a2Y _ _ _ (hno e he b a1)];exact a2,a3.mono x⟩
 refine ⟨v,b1r w rs,⟨v,r1,rfl,rfl⟩,fun R hR=>?_,mF2,r2,hF.X,x,fun b hb=>a2Y _ _ _ fun h=>?_,a4z _ _,_,m2,rfl⟩
 ·rw [hdf];exact a6N rs w hn hdr ⟨v,r1,hR⟩
 ·have:=(hr b h).1;omega
end
section
variable {C:Ctx} {X:EV}
def a9u (tt:Nat→Option a0k)(s:St)(rs:List ResultVar)(k:D→Prop):Prop:=match b9t tt s rs with
 | some (d,p)=>p∧k d
 | none=>False
def c0y (tt:Nat→Option a0k)(rs:List ResultVar)(Φ:D→Prop)(e:Exit)(_:Fra)(s:St):Prop:=match e with
 | .normal | .ret=>a9u tt s rs fun d0=>∃ d,Fz s.H [] d0 d∧a2c d∧Φ d
 | _=>False
def c7B (tt:Nat→Option a0k)(rs:List ResultVar)(Φ:D→Hp→Nat→Prop)(e:Exit)(_:Fra)(s:St):Prop:=match e with
 | .normal | .ret=>a9u tt s rs fun d=>Φ d s.H s.n
 | _=>False
theorem a7E {tt:Nat→Option a0k}{s:St}{rs:List ResultVar}{k:D→Prop}(h:a9u tt s rs k):∃ d p,b9t tt s rs=some (d,p)∧p∧k d:=by
 unfold a9u at h;split at h
 ·rename_i d p he;exact ⟨d,p,he,h.1,h.2⟩
 ·exact h.elim
theorem a0c.walk {f:Nat}{i:FI}{args:List D}{Φ:D→Prop}(hX:WOk C X)(hf:FOk C.P f i)(hnt:Nat.ble args.length i.nt=true)
  (h:∀ F:Fra,OkS C F none F i.code ⟨a1h 0 args,[],0⟩ (c0y X.tt i.res Φ)):a0c C f args Φ:=by
 obtain ⟨fn,hf,hb,hn,hd,hni,hres⟩:=hf;rw [← hni] at hnt;refine ⟨⟨fn,i.code,hf,hb,hn⟩,fun Y w vs hG hnG hX' hvs hr=>?_⟩;have hnt:=Nat.le_of_ble_eq_true hnt;refine (a3c (rd:=none) (n:=0)).1 (callsIn_of_wp_marks hf hb trivial ?_);have hown:∀ b,Own Y nol [] b↔Y b:=by simp [Own]
 have hoe:Own Y nol []=Y:=funext fun b=>propext (hown b)
 let F0:Fra:=⟨w,Y,fun _=>False,fn.ntmps,nol,[]⟩
 have sat:Sat C F0 nol ⟨a1h 0 args,[],0⟩ { tmps:=vs++Array.replicate (fn.ntmps - vs.size) undef,defers:=[] } w:=by
  refine ⟨⟨⟨by simp,.nil,by simp⟩,rfl,rfl,rfl,Nat.le_refl _,fun _ _ _=>rfl,hX',hG,hnG,by simp [F0],fun _ _ _ h=>h,fun _ cs _ _ h=>⟨cs,_,h,rfl⟩⟩,fun _ _ _=>rfl,by simp,fun t=>?_,by simp [F0];omega,rfl⟩;show Rep nol (Own Y nol []) w _ _;rw [hoe];exact a7N hvs hr t
 refine wpIn_mono ((h F0).out (.refl F0) hd nol _ w sat) ?_;rintro e a' w' ⟨F',s',ρ',hF,hq,hs'⟩;have key:a9u X.tt s' i.res (fun d0=>∃ d,Fz s'.H [] d0 d∧a2c d∧Φ d)→LeavesInM (fw none) 0 C.P fn a'.tmps (fun e w'=>∃ v d,e=.returned v∧Below w.heap.size w w'∧Φ d∧Rep nol Y w' d v) a'.defers .returning w':=fun hq=>by
  obtain ⟨d0,p,h1,h2,d,h3,h4,h5⟩:=a7E hq;rw [← hres] at h1;obtain ⟨v,w2,_,hl,mF,r2,hXX,x,hbl,hsz,F2,m2,hX2⟩:=hF.finish hX.tt rfl hs' h1 h2;refine hl _ ⟨v,d,rfl,⟨mF.os,mF.tape,mF.output,mF.size,fun b hb=>mF.blk b hb (by simp [F0])⟩,h5,?_⟩;have hH:FzH s'.H [] s'.H []:=by
   generalize s'.H=H0
   have:∀ H1:Hp,FzH H0 [] H1 []:=fun H1=>by
    induction H1 with
    | nil=>exact .nil
    | cons e r ih=>exact .drop ih
   exact this H0
  obtain ⟨m,hO,hN⟩:=hH.mem m2;have r3:=h3.rep m2 hO hN (by rw [hX2];exact r2);have r4:=h4 _ nol _ _ _ r3;exact r4.anti fun b hb=>.inl (by rw [hX2];exact hXX b hb)
 cases e with
 | normal=>exact key hq
 | ret=>exact key hq
 | _=>exact hq.elim
theorem a0m.walk {f:Nat}{i:FI}{args:List D}{H:Hp}{n:Nat}{Φ:D→Hp→Nat→Prop}(hX:WOk C X)(hf:FOk C.P f i)(hnt:Nat.ble args.length i.nt=true)
  (h:∀ F:Fra,OkS C F none F i.code ⟨a1h 0 args,H,n⟩ (c7B X.tt i.res Φ)):a0m C f args H n Φ:=by
 obtain ⟨fn,hf,hb,hn,hd,hni,hres⟩:=hf;rw [← hni] at hnt;refine ⟨⟨fn,i.code,hf,hb,hn⟩,fun F ρ w vs m hfr hg hvs hr=>?_⟩;have hnt:=Nat.le_of_ble_eq_true hnt;refine (a3c (rd:=none) (n:=0)).1 (callsIn_of_wp_marks hf hb trivial ?_);have sat:Sat C (F.sub ρ H w fn.ntmps) ρ ⟨a1h 0 args,H,n⟩ { tmps:=vs++Array.replicate (fn.ntmps - vs.size) undef,defers:=[] } w :=
  ⟨m.enter _,hfr,hg,a7N hvs hr,by simp [Fra.sub];omega,rfl⟩
 refine wpIn_mono ((h (F.sub ρ H w fn.ntmps)).out (.refl _) hd ρ _ w sat) ?_;rintro e a' w' ⟨F',s',ρ',hF,hq,hs'⟩;have key:a9u X.tt s' i.res (fun d=>Φ d s'.H s'.n)→LeavesInM (fw none) 0 C.P fn a'.tmps (fun e w'=>∃ v d H' n' ρ',e=.returned v∧Φ d H' n'∧Mem C F ρ' H' w'∧Ext ρ (Own F.X ρ H) w ρ' (Own F.X ρ' H') w'∧a9l ρ' n'∧(∀ e∈H',e.g<n') ∧
   Rep ρ' (Own F.X ρ' H') w' d v) a'.defers .returning w':=fun hq=>by
  obtain ⟨d,p,h1,h2,h3⟩:=a7E hq;rw [← hres] at h1;obtain ⟨v,w2,_,hl,mF,r2,hXX,x,hbl,hsz,F2,m2,hX2⟩:=hF.finish hX.tt rfl hs' h1 h2;obtain ⟨m',x'⟩:=m.leave mF;exact hl _ ⟨v,d,_,_,ρ',rfl,h3,m',x',hs'.fresh,hs'.gen,r2.anti fun b hb=>hb.imp (hXX b) id⟩
 cases e with
 | normal=>exact key hq
 | ret=>exact key hq
 | _=>exact hq.elim
variable {B F:Fra} {s:St} {rd:Option Nat} {Q:Exit→Fra→St→Prop}
theorem OkS.seqW {a b:Code}(s':St)(h1:OkS C B rd F a s (fun e F1 s1=>a9r (F1=F∧Wk s1 s') (fun e=>Q e F1 s1) e))(h2:OkS C B rd F b s' Q):OkS C B rd F (.seq a b) s Q :=
 OkS.seq (h1.mono fun e F1 s1 h=>by
  cases e with
  | normal =>
   obtain ⟨h0,h3⟩:=(show F1=F∧Wk s1 s' from h)
   rw [h0];exact OkS.weak s' h3 h2
  | ret=>exact h
  | exit j=>exact h
  | goto l=>exact h
  | panic c=>exact h
  | outgrown=>exact h)
theorem d3Y {H Hf:Hp}{d d':D}(h:d=d'):Fz H Hf d d':=h ▸ .refl d
end
structure LR where
 fn:Nat
 tmps:Array Value
 ps:Array Nat
 as:Code
 bd:Code
 dfs:Nat
def LR.lp (R:LR)(st:LoopState)(j:Option Code):Loop:={ state:=st,pending:=j,fn:=R.fn,tmps:=R.tmps,params:=R.ps,assign:=R.as,body:=R.bd,defers:=R.dfs }
def LR.obj (R:LR)(j:Option Code):Obj:=.loop (R.lp (if j.isNone then .ready else .done) j)
def Fra.wr (F:Fra)(l:Nat):Fra:=⟨F.w0,F.X,fun b=>F.Wr b∨b=l,F.nt,F.r0,F.df⟩
section
variable {C:Ctx} {F B:Fra} {ρ:Lk} {H:Hp} {w:World} {l:Nat} {R:LR}
theorem Mem.wr (m:Mem C F ρ H w)(hl:C.nG≤l):Mem C (F.wr l) ρ H w :=
 ⟨⟨m.hok.ent,m.hok.inj,fun e he b hb=>⟨(m.hok.own e he b hb).1,(m.hok.own e he b hb).2.imp id .inl⟩⟩,m.os,m.tape,m.output,m.size,fun b hb h=>m.blk b hb fun h'=>h (.inl h'),m.xlt,m.g0,m.gn,fun b h=>by
  rcases h with h|rfl
  ·exact m.gw b h
  ·exact hl,m.lnk,m.shp⟩
theorem Mem.unwr (m:Mem C (F.wr l) ρ H w)(hX:F.X l)(hb:w.heap[l]? = F.w0.heap[l]?):Mem C F ρ H w :=
 ⟨⟨m.hok.ent,m.hok.inj,fun e he b hb=>⟨(m.hok.own e he b hb).1,by
  rcases (m.hok.own e he b hb).2 with h|h|h
  ·exact .inl h
  ·exact .inr h
  ·exact absurd (h ▸ hX) (m.hok.own e he b hb).1⟩⟩,m.os,m.tape,m.output,m.size,fun b hb' h=>by
   by_cases hl:b=l
   ·subst hl;exact hb
   ·exact m.blk b hb' fun h'=>h'.elim h hl,m.xlt,m.g0,m.gn,fun b h=>m.gw b (.inl h),m.lnk,m.shp⟩
theorem a2X (w:World)(l:Nat)(o:Obj):(w.putObj l o).os=w.os∧(w.putObj l o).tape=w.tape∧(w.putObj l o).output=w.output∧(w.putObj l o).heap.size=w.heap.size:=⟨rfl,rfl,rfl,by simp [World.putObj]⟩
theorem Ext.putL {O:Nat→Prop}(hO:O l){r:Loop}(h:w.heap[l]? = some (.loop r))(o:Obj):Ext ρ O w ρ O (w.putObj l o) :=
 ⟨by rw [(a2X w l o).2.2.2];exact Nat.le_refl _,fun _ _ _ h=>h,fun b hb hb'=>⟨hb',World.putObj_heap_other fun hbl=>hb' (by rw [hbl];exact hO)⟩,fun b cs T fz hc=>⟨cs,_,by
  rw [World.putObj_heap_other fun hbl=>by rw [hbl,h] at hc;cases hc];exact hc,rfl⟩⟩
theorem Mem.putL (m:Mem C F ρ H w)(hX:F.X l)(hW:F.Wr l){r:Loop}(h:w.heap[l]? = some (.loop r))(o:Obj):Mem C F ρ H (w.putObj l o):=by
 have x:=Ext.putL (ρ:=ρ) (O:=Own F.X ρ H) (.inl hX) h o;exact ⟨⟨fun e he=>by
  rcases m.hok.ent e he with h|⟨b,cs,a1,a2,a3⟩
  ·exact .inl h
  ·exact .inr ⟨b,cs,a1,by rw [World.putObj_heap_other fun hb=>(m.hok.own e he b a1).1 (by rw [hb];exact hX)];exact a2,a3.mono x⟩,m.hok.inj,m.hok.own⟩,
  m.os,m.tape,m.output,by rw [(a2X w l o).2.2.2];exact m.size,fun b hb hw=>by rw [World.putObj_heap_other fun hbl=>hw (by rw [hbl];exact hW)];exact m.blk b hb hw,m.xlt,m.g0,m.gn,m.gw,m.lnk,a3o m.shp x⟩
def b3Y (C:Ctx)(F:Fra)(l:Nat)(R:LR)(ρ:Lk)(H:Hp)(w:World)(Φ:Option Code→D→Hp→Nat→Prop):Ending→World→Prop:=fun e w' =>
 ∃ v j d H' n' ρ',e=.returned v∧Φ j d H' n'∧w'.heap[l]? = some (R.obj j)∧Mem C (F.wr l) ρ' H' w'∧Ext ρ (Own F.X ρ H) w ρ' (Own F.X ρ' H') w'∧a9l ρ' n'∧(∀ e∈H',e.g<n')∧Rep ρ' (Own F.X ρ' H') w' d v
abbrev a3s:=Lk→(Nat→Prop)→World→Prop
def a3s.ok (E:a3s):Prop:=∀ ρ O w ρ' O' w',E ρ O w→Ext ρ O w ρ' O' w'→E ρ' O' w'
def a7I (C:Ctx)(E:a3s)(f:Nat)(args:List D)(l:Nat)(R:LR)(H:Hp)(n:Nat)(Φ:Option Code→D→Hp→Nat→Prop):Prop :=
 a3b C.P f∧∀ (F:Fra) (ρ:Lk) (w:World) (vs:Array Value),Mem C F ρ H w→F.X l→C.nG≤l→E ρ (Own F.X ρ H) w→w.heap[l]? = some (R.obj none)→a9l ρ n→(∀ e∈H,e.g<n)→vs.size=args.length →
  (∀ (i:Nat) (d:D),args[i]? = some d→Rep ρ (Own F.X ρ H) w d (vs.getD i undef))→Calls C.P f vs w (b3Y C F l R ρ H w Φ)
def b1t (C:Ctx)(E:a3s)(l:Nat)(R:LR)(ds:List D)(H:Hp)(n:Nat)(Φ:Option Code→Hp→Nat→Prop):Prop :=
 ∀ (F:Fra) (ρ:Lk) (w:World) (vs:Array Value),Mem C F ρ H w→F.X l→C.nG≤l→E ρ (Own F.X ρ H) w→w.heap[l]? = some (R.obj none)→a9l ρ n→(∀ e∈H,e.g<n)→vs.size=ds.length →
  (∀ (i:Nat) (d:D),ds[i]? = some d→Rep ρ (Own F.X ρ H) w d (vs.getD i undef))→vs.size=R.ps.size ∧
  RoundIn (fw none) 0 C.P l R.fn ((R.ps.zip vs).foldl (fun tmps (t,a)=>tmps.setIfInBounds t a) R.tmps) R.as R.bd w (b3Y C F l R ρ H w fun j d H' n'=>d=boo j.isNone∧Φ j H' n')
structure a9n (C:Ctx)(E:a3s)(B F:Fra)(l:Nat)(R:LR):Prop where
 X:F.X l
 nw:¬ F.Wr l
 at0:F.w0.heap[l]? = some (R.obj none)
 up:∀ {ρ:Lk} {H:Hp} {w:World},Mem C (F.wr l) ρ H w→Mem C B ρ H w
 ng:C.nG≤l
 df:F.df=B.df
 ext:∀ {ρ:Lk} {H:Hp} {w:World},Mem C F ρ H w→E ρ (Own F.X ρ H) w
def c7E (C:Ctx)(l:Nat)(R:LR)(j:Option Code)(F:Fra):Prop:=∀ {ρ:Lk} {H:Hp} {w:World},Mem C F ρ H w→w.heap[l]? = some (R.obj j)
theorem a9n.stat {E:a3s}(h:a9n C E B F l R):c7E C l R none F:=fun m=>(m.blk l (m.xlt l h.X) h.nw).trans h.at0
theorem Sat.reframe {F':Fra}{s:St}{a:Act}(h:Sat C F ρ s a w)(m:Mem C F' ρ s.H w)(hX:F'.X=F.X)(hn:F'.nt=F.nt)(hd:F'.df=F.df):Sat C F' ρ s a w :=
 ⟨m,h.fresh,h.gen,fun t=>by rw [hX];exact h.env t,h.nt.trans hn.symm,h.dfr.trans hd.symm⟩
theorem c0s {s:St}{o:Oper}{fop:Operand}{args:Array Operand}{tys:Array Nat}{a:Act}(ho:o.op=.call ⟨.value fop,args,tys⟩)(hf:a1g s.env fop=.clo (.yield l) [] [])(hs:Sat C F ρ s a w) :
  ∃ vs,(execOp a.eval o).run C.P w=(Instr.yield l vs).run C.P w∧vs.size=(args.toList.map (a1g s.env)).length ∧
   ∀ (i:Nat) (d:D),(args.toList.map (a1g s.env))[i]? = some d→Rep ρ (Own F.X ρ s.H) w d (vs.getD i undef):=by
 have hfr:=a0S hs.env fop;rw [hf] at hfr;generalize hv:a.eval fop=v at hfr;cases hfr with
 | clo hn hc h1 h2 =>
  rename_i fs cs;have hfs:fs = #[]:=Array.eq_empty_of_size_eq_zero (by simpa using hn);subst hfs;refine ⟨args.map a.eval,?_,by simp,fun i d hd=>?_⟩
  ·unfold execOp
   simp only [ho];rw [run_bind]
   have:(resolve a.eval ⟨.value fop,args,tys⟩ o.type).run C.P w=.ok { target:=.fn (.yield l) cs,args:=#[]++args.map a.eval } w:=by
    unfold resolve;simp only [hv];rfl
   rw [this];dsimp only;unfold invoke;simp
  ·simp only [List.getElem?_map,Array.getElem?_toList,Option.map_eq_some_iff] at hd
   obtain ⟨x,hx,rfl⟩:=hd
   have:(args.map a.eval).getD i undef=a.eval x:=by simp [Array.getD_eq_getD_getElem?,hx]
   rw [this];exact a0S hs.env x
variable {X:EV} {ops:Array Oper} {s:St} {E:a3s} {Q:Exit→Fra→St→Prop}
def a9h (C:Ctx)(X:EV)(E:a3s)(F:Fra)(l:Nat)(R:LR)(kb:Nat)(ops:Array Oper)(iy:Nat)(l2:List Nat)(Q:Exit→Fra→St→Prop)(s:St):Prop:=match a9j ops.toList iy with
 | some o=>match o.guard with
  | none=>match o.op with
   | .call ⟨.value fop,args,_⟩=>a1g s.env fop=.clo (.yield l) [] []∧∃ Φ,b1t C E l R (args.toList.map (a1g s.env)) s.H s.n Φ ∧
     (∀ H' n',Φ none H' n'→a2b C X kb ops l2 ⟨a1N s.env o.dst (boo true),H',n'⟩ True fun acc s=>acc∧Q .normal F s) ∧
     (∀ c H' n',Φ (some c) H' n'→∀ F2:Fra,c7E C l R (some c) F2→a2b C X kb ops l2 ⟨a1N s.env o.dst (boo false),H',n'⟩ True fun acc s=>acc∧Q .normal F2 s)
   | _=>False
  | some _=>False
 | none=>False
theorem b0r (hX:WOk C X){kb iy:Nat}{l2:List Nat}{a:Act}(hR:a9n C E B F l R)(hB:Fle C B F)(hnd:a3T ops.toList=true)(hlt:∀ j∈l2,j<ops.size)(hd:ops.toList.all (a2A B.nt)=true)
  (h:a9h C X E F l R kb ops iy l2 Q s) (hs:Sat C F ρ s a w):wpOpsIn (fw none) 0 C.P ops (a5a C B Q) (iy::l2) a w:=by
 unfold a9h at h;split at h<;>first|exact h.elim|skip
 rename_i o ho;split at h<;>first|exact h.elim|skip
 rename_i hgd;split at h<;>first|exact h.elim|skip
 rename_i fop args tys hop;obtain ⟨hf,Φ,hY,h1,h2⟩:=h;have ho:=a4R ho;have hdo:a2A B.nt o=true:=List.all_eq_true.1 hd o (Array.mem_toList_iff.2 (Array.mem_of_getElem? ho));simp only [wpOpsIn,ho];rw [if_pos (by unfold Region.wanted;rw [hgd])];obtain ⟨vs,r1,r2,r3⟩:=c0s hop hf hs;have hst:=hR.stat hs.mem;obtain ⟨q1,q2⟩:=hY F ρ w vs hs.mem hR.X hR.ng (hR.ext hs.mem) hst hs.fresh hs.gen r2 r3;have hrun:(execOp a.eval o).run C.P w=.ok (.round l R.fn ((R.ps.zip vs).foldl (fun tmps (t,a)=>tmps.setIfInBounds t a) R.tmps) R.as R.bd) w:=by
  rw [r1,run_yield (r:=R.lp .ready none) hst q1];rfl
 refine b6n hrun (q2.mono ?_);rintro e w' ⟨v,j,d,H',n',ρ',rfl,⟨rfl,hΦ⟩,hl,m',x,fr,gn,rep⟩;refine ⟨v,rfl,?_⟩;have hsw:Sat C (F.wr l) ρ s a w:=hs.reframe (hs.mem.wr hR.ng) rfl rfl rfl;have hs1:Sat C (F.wr l) ρ' ⟨a1N s.env o.dst (boo j.isNone),H',n'⟩ (a.put o.dst v) w':=hsw.put m' x fr gn rep (by rw [show (F.wr l).nt=B.nt from hB.nt];exact hdo);cases j with
 | none =>
  have hs2:Sat C F ρ' ⟨a1N s.env o.dst (boo true),H',n'⟩ (a.put o.dst v) w':=hs1.reframe (m'.unwr hR.X (by rw [hl,hR.at0])) rfl rfl rfl;have h3:=(a1r (F:=F) (K':=Q .normal F) hX (fun acc s h=>h) (h1 _ _ hΦ)).2.run hlt (by rw [hB.nt];exact hd) hs2
  have:=a1q (rd:=none) (Q:=a5a C B Q) (l2:=[]) (fun _ _ _ h=>a3O hB (fun _ h=>h) h) (a2w hnd) _ _ _ h3
  rwa [List.append_nil] at this
 | some c =>
  let F2:=Fra.subZ ρ' H' w' F.nt F.X (fun _=>False) F.df
  have m2:Mem C F2 ρ' H' w':=m'.enterZ (.refl _ _ _) rfl rfl rfl (fun _ _ _=>rfl) (fun _ _ _ _ h=>h) (fun b hb=>Nat.lt_of_lt_of_le (m'.xlt b hb) m'.size) (fun e he b hb=>(m'.hok.own e he b hb).1) (fun _ h=>h.elim) _ _;have hlw:l<w'.heap.size:=(Array.getElem?_eq_some_iff.1 hl).1;have hst2:c7E C l R (some c) F2:=fun {ρ'' H'' w''} m3=>by
   have:=m3.blk l hlw (by
    rintro (⟨e,he,h⟩|h)
    ·exact (m'.hok.own e he l h).1 hR.X
    ·exact h)
   exact this.trans hl
  have hB2:Fle C B F2:=⟨hB.nt,Nat.le_trans hB.sz (Nat.le_trans hs.mem.size x.size),fun m3=>hR.up (m'.leaveZ (fun _ h=>h) (fun _ h=>h.elim) m3).1,hB.X,[],hR.df,[],rfl,.nil,by simp⟩
  have hs2:Sat C F2 ρ' ⟨a1N s.env o.dst (boo false),H',n'⟩ (a.put o.dst v) w':=hs1.reframe m2 rfl rfl rfl;have h3:=(a1r (F:=F2) (K':=Q .normal F2) hX (fun acc s h=>h) (h2 _ _ _ hΦ F2 hst2)).2.run hlt (by rw [hB2.nt];exact hd) hs2
  have:=a1q (rd:=none) (Q:=a5a C B Q) (l2:=[]) (fun _ _ _ h=>a3O hB2 (fun _ h=>h) h) (a2w hnd) _ _ _ h3
  rwa [List.append_nil] at this
theorem OkS.regY {i:Nat}(hX:WOk C X)(kb:Nat)(l1:List Nat)(iy:Nat)(l2:List Nat)(hl:List.range ops.size=l1++iy::l2)(hnd:a3T ops.toList=true)(hR:a9n C E B F l R)
  (h:a2b C X kb ops l1 s True fun acc s1=>acc∧a9h C X E F l R kb ops iy l2 Q s1):OkS C B none F (.region i ops false) s Q:=by
 refine ⟨fun hB hd ρ a w hs=>wpIn_region ?_⟩;rw [hl];have hlt:∀ j∈l1++iy::l2,j<ops.size:=fun j hj=>by rw [← hl] at hj;exact List.mem_range.1 hj
 have h1:=(a1r (F:=F) (K':=a9h C X E F l R kb ops iy l2 Q) hX (fun acc s h=>h) h).2.run (fun j hj=>hlt j (by simp [hj])) (a3N hB hd) hs;refine a1q (rd:=none) (Q:=a5a C B Q) (l2:=iy::l2) (fun e a w h=>?_) (a2w hnd) _ a w h1;obtain ⟨h0,s1,ρ1,k1,k2⟩:=h;exact ⟨h0,b0r hX hR hB hnd (fun j hj=>hlt j (by simp [hj])) hd k1 k2⟩
theorem OkS.regDY {i:Nat}(hX:WOk C X)(kb:Nat)(pre l1:List Nat)(iy:Nat)(l2:List Nat)(hc:(b4g ops pre (l1++iy::l2)&&a3T ops.toList)=true)(hR:a9n C E B F l R)
  (h:a3r C X kb ops s.H s.n pre s.env [] True fun acc env N=>a2b C X kb ops l1 ⟨env,N++s.H,s.n+b1q ops.toList⟩ acc fun acc s1=>acc∧a9h C X E F l R kb ops iy l2 Q s1):OkS C B none F (.region i ops true) s Q:=by
 have hsz:ops.size=b1q ops.toList:=by rw [b0L,Array.length_toList]
 rw [← hsz] at h;simp only [Bool.and_eq_true] at hc;obtain ⟨_,acc,env,N,h1,h2⟩:=a4H (F:=F) hX (fun acc env N h=>(a1r (F:=F) (K':=a9h C X E F l R kb ops iy l2 Q) hX (fun acc s h=>h) h).1) h;refine ⟨fun hB hd ρ a w hs=>c8c hX.mixed hc.1 h1 (fun hlt ρ a w hs=>?_) (a3N hB hd) ρ a w hs⟩;have h3:=(a1r (F:=F) (K':=a9h C X E F l R kb ops iy l2 Q) hX (fun acc s h=>h) h2).2.run (fun j hj=>hlt j (by simp [hj])) (a3N hB hd) hs;refine a1q (rd:=none) (Q:=a5a C B Q) (l2:=iy::l2) (fun e a w h=>?_) (a2w hc.2) _ a w h3;obtain ⟨h0,s1,ρ1,k1,k2⟩:=h;exact ⟨h0,b0r hX hR hB hc.2 (fun j hj=>hlt j (by simp [hj])) hd k1 k2⟩
end
section
variable {C:Ctx} {X:EV} {E:a3s} {l:Nat} {R:LR}
theorem b5y {F F':Fra}{ρ:Lk}{H:Hp}{w:World}(m:Mem C F ρ H w)(h0:F'.w0=F.w0)(hX:F'.X=F.X)(hr:F'.r0=F.r0)(hW:∀ b,F.Wr b→F'.Wr b)(hg:∀ b,F'.Wr b→C.nG≤b):Mem C F' ρ H w:=by
 obtain ⟨a1,a2,a3,a4,a5,a6,a7,a8,a9,a10,a11,a12⟩:=m;refine ⟨⟨?_,a1.inj,?_⟩,?_,?_,?_,?_,?_,?_,?_,?_,hg,?_,?_⟩
 ·rw [hX];exact a1.ent
 ·intro e he b hb
  rw [hX,h0];exact ⟨(a1.own e he b hb).1,(a1.own e he b hb).2.imp id (hW b)⟩
 ·rw [h0];exact a2
 ·rw [h0];exact a3
 ·rw [h0];exact a4
 ·rw [h0];exact a5
 ·rw [h0];exact fun b hb h=>a6 b hb fun h'=>h (hW b h')
 ·rw [h0,hX];exact a7
 ·rw [h0];exact a8
 ·rw [h0];exact a9
 ·rw [hr];exact a11
 ·rw [h0];exact a12
def c7C (C:Ctx)(l:Nat)(R:LR)(tt:Nat→Option a0k)(rs:List ResultVar)(Φ:Option Code→D→Hp→Nat→Prop)(e:Exit)(F:Fra)(s:St):Prop:=match e with
 | .normal | .ret=>∃ j,c7E C l R j F∧a9u tt s rs fun d=>Φ j d s.H s.n
 | _=>False
theorem a7I.walk {f:Nat}{i:FI}{args:List D}{H:Hp}{n:Nat}{Φ:Option Code→D→Hp→Nat→Prop}(hX:WOk C X)(hE:a3s.ok E)(hf:FOk C.P f i)(hnt:Nat.ble args.length i.nt=true)
  (h:∀ B F:Fra,a9n C E B F l R→OkS C B none F i.code ⟨a1h 0 args,H,n⟩ (c7C C l R X.tt i.res Φ)):a7I C E f args l R H n Φ:=by
 obtain ⟨fn,hf,hb,hn,hd,hni,hres⟩:=hf;rw [← hni] at hnt;refine ⟨⟨fn,i.code,hf,hb,hn⟩,fun F ρ w vs m hFl hng hEw hlw hfr hg hvs hr=>?_⟩;have hnt:=Nat.le_of_ble_eq_true hnt;refine (a3c (rd:=none) (n:=0)).1 (callsIn_of_wp_marks hf hb trivial ?_);have hltl:l<w.heap.size:=(Array.getElem?_eq_some_iff.1 hlw).1;have hol:∀ e∈H,∀ b,ρ e.k e.g=some b→b≠l:=fun e he b hb hbl=>(m.hok.own e he b hb).1 (by rw [hbl];exact hFl)
 have ent:∀ Z:Nat→Prop,(∀ b,Z b→b=l)→Mem C (Fra.subZ ρ H w fn.ntmps F.X Z []) ρ H w:=fun Z hZ=>m.enterZ (.refl _ _ _) rfl rfl rfl (fun _ _ _=>rfl) (fun e he b hb hz=>hol e he b hb (hZ b hz)) (fun b hb=>Nat.lt_of_lt_of_le (m.xlt b hb) m.size)
  (fun e he b hb=>(m.hok.own e he b hb).1) (fun b hz=>by rw [hZ b hz];exact hng) _ _
 let B:=Fra.subZ ρ H w fn.ntmps F.X (fun b=>b=l) []
 let F0:=Fra.subZ ρ H w fn.ntmps F.X (fun _=>False) []
 have mB:Mem C B ρ H w:=ent _ fun _ h=>h
 have mF:Mem C F0 ρ H w:=ent _ fun _ h=>h.elim
 have hBg:∀ b,B.Wr b→C.nG≤b:=mB.gw;have upB:∀ {ρ':Lk} {H':Hp} {w':World},Mem C (F0.wr l) ρ' H' w'→Mem C B ρ' H' w':=fun m'=>b5y m' rfl rfl rfl (fun b hb=>by
  rcases hb with (hb|hb)|hb
  ·exact .inl hb
  ·exact hb.elim
  ·exact .inr hb) hBg
 have upF:∀ {ρ':Lk} {H':Hp} {w':World},Mem C F0 ρ' H' w'→Mem C B ρ' H' w':=fun m'=>upB (m'.wr hng)
 have hB:Fle C B F0:=⟨rfl,Nat.le_refl _,upF,fun _ h=>h,[],rfl,[],rfl,.nil,by simp⟩
 have mw:=m.wr hng;have lv:∀ {ρ':Lk} {H':Hp} {w':World},Mem C B ρ' H' w'→Mem C (F.wr l) ρ' H' w'∧Ext ρ (Own F.X ρ H) w ρ' (Own F.X ρ' H') w':=fun {ρ' H' w'} m'=>by
  obtain ⟨q1,q2⟩:=mw.leaveZ (X':=F.X) (Z:=fun b=>b=l) (fun _ h=>h) (fun b hb=>.inr (.inr hb)) m';refine ⟨q1,?_⟩
  have:(fun b=>Own F.X ρ H b∨b=l)=Own F.X ρ H:=funext fun b=>propext ⟨fun h=>h.elim id fun h=>.inl (by rw [h];exact hFl),.inl⟩
  have q2:Ext ρ (fun b=>Own F.X ρ H b∨b=l) w ρ' (Own F.X ρ' H') w':=q2
  rwa [this] at q2
 have hR:a9n C E B F0 l R:=⟨hFl,fun h=>by
  rcases h with ⟨e,he,h⟩|h
  ·exact hol e he l h rfl
  ·exact h.elim,hlw,upB,hng,rfl,fun {ρ' H' w'} m'=>hE _ _ _ _ _ _ hEw (lv (upF m')).2⟩
 have sat:Sat C F0 ρ ⟨a1h 0 args,H,n⟩ { tmps:=vs++Array.replicate (fn.ntmps - vs.size) undef,defers:=[] } w :=
  ⟨mF,hfr,hg,a7N hvs hr,by simp [F0,Fra.subZ];omega,rfl⟩
 refine wpIn_mono ((h B F0 hR).out hB hd ρ _ w sat) ?_;rintro e a' w' ⟨F',s',ρ',hF,hq,hs'⟩;have key:(∃ j,c7E C l R j F'∧a9u X.tt s' i.res fun d=>Φ j d s'.H s'.n)→LeavesInM (fw none) 0 C.P fn a'.tmps (b3Y C F l R ρ H w Φ) a'.defers .returning w':=fun ⟨j,hst,hq⟩=>by
  obtain ⟨d,p,h1,h2,h3⟩:=a7E hq;rw [← hres] at h1;obtain ⟨v,w2,_,hl,mB2,r2,hXX,x,hbl,hsz,F2,m2,hX2⟩:=hF.finish hX.tt rfl hs' h1 h2;obtain ⟨m',x'⟩:=lv mB2;exact hl _ ⟨v,j,d,_,_,ρ',rfl,h3,(hbl l hltl).trans (hst hs'.mem),m',x',hs'.fresh,hs'.gen,r2.anti fun b hb=>hb.imp (hXX b) id⟩
 cases e with
 | normal=>exact key hq
 | ret=>exact key hq
 | _=>exact hq.elim
def a9s:List Nat→List D→Env→Env
 | t::ts,d::ds,env=>a9s ts ds ((t,d)::env)
 | _,_,env=>env
theorem b2v:∀ (ps:List Nat) (ds:List D) (env:Env) (tm:Array Value) (vs:List Value) {ρ:Lk} {O:Nat→Prop} {w:World},vs.length=ds.length→(∀ t∈ps,t<tm.size) →
  (∀ t,Rep ρ O w (env.get t) (tm.getD t undef))→(∀ (i:Nat) (d:D),ds[i]? = some d→Rep ρ O w d (vs.getD i undef)) →
  ∀ t,Rep ρ O w ((a9s ps ds env).get t) (((ps.zip vs).foldl (fun tmps (x:Nat × Value)=>tmps.setIfInBounds x.1 x.2) tm).getD t undef)
 | [],_,_,_,_,_,_,_,_,_,h,_=>by simpa [a9s] using h
 | p::ps,[],env,tm,vs,_,_,_,hl,_,h,_=>by
  have:vs=[]:=List.eq_nil_of_length_eq_zero (by simpa using hl)
  subst this;simpa [a9s] using h
 | p::ps,d::ds,env,tm,[],_,_,_,hl,_,_,_=>by simp at hl
 | p::ps,d::ds,env,tm,v::vs,ρ,O,w,hl,hp,h,hr=>by
  intro t;simp only [a9s,List.zip_cons_cons,List.foldl_cons];refine b2v ps ds _ _ vs (by simpa using hl) (fun t ht=>by simp;exact hp t (by simp [ht])) (fun t=>?_) (fun i d hd=>?_) t
  ·rw [Env.get_cons]
   have h0:=hr 0 d (by simp);simp at h0
   by_cases hpt:p=t
   ·subst hpt
    rw [if_pos rfl,Array.getD_eq_getD_getElem?,Array.getElem?_setIfInBounds,if_pos rfl,if_pos (hp p (by simp))];exact h0
   ·rw [if_neg hpt,Array.getD_eq_getD_getElem?,Array.getElem?_setIfInBounds,if_neg hpt,← Array.getD_eq_getD_getElem?]
    exact h t
  ·have:=hr (i+1) d (by simpa using hd)
   simpa using this
theorem a8d:∀ (l:List (Nat × Value)) (tm:Array Value),(l.foldl (fun tmps (x:Nat × Value)=>tmps.setIfInBounds x.1 x.2) tm).size=tm.size
 | [],_=>rfl
 | x::l,tm=>by rw [List.foldl_cons,a8d l];simp
def c1m:Exit→Option (Option Code)
 | .normal=>some none
 | .ret=>some (some .ret)
 | .exit i=>some (some (.exit i))
 | .goto t=>some (some (.goto t))
 | _=>none
def c2D (Φ:Option Code→Hp→Nat→Prop)(e:Exit)(_:Fra)(s:St):Prop:=match c1m e with
 | some j=>Φ j s.H s.n
 | none=>False
variable {F:Fra}
theorem c2g {ps:Array Nat}{as bd:Code}{fn dfs:Nat}{tm:Array Value}{env:Env}{ρ1:Lk}{O1:Nat→Prop}{w1:World}{nt:Nat}(htm:tm.size=nt)(hps:∀ t∈ps,t<nt)(hda:a0E nt as=true)(hdb:a0E nt bd=true)
  (henv:∀ t,Rep ρ1 O1 w1 (env.get t) (tm.getD t undef)) {ds:List D} {H:Hp} {n:Nat} {Φ:Option Code→Hp→Nat→Prop} (hds:ds.length=ps.size)
  (h:∀ F:Fra,OkS C F (some l) F as ⟨a9s ps.toList ds env,H,n⟩ fun e F' s=>e=.normal∧F'=F∧∀ F':Fra,OkS C F' (some l) F' bd s (c2D Φ)) :
  b1t C (fun ρ O w=>Ext ρ1 O1 w1 ρ O w) l ⟨fn,tm,ps,as,bd,dfs⟩ ds H n Φ:=by
 intro F ρ w vs m hFl hng hEw hlw hfr hg hvs hr;refine ⟨hvs.trans hds,?_⟩;have hltl:l<w.heap.size:=(Array.getElem?_eq_some_iff.1 hlw).1;have mw:=m.wr hng;have hol:∀ {ρ':Lk} {H':Hp} {w':World},Mem C (F.wr l) ρ' H' w'→∀ e∈H',∀ b,ρ' e.k e.g=some b→b≠l:=fun m' e he b hb hbl=>(m'.hok.own e he b hb).1 (by show F.X b;rw [hbl];exact hFl)
 have ent:∀ {ρ':Lk} {H':Hp} {w':World},Mem C (F.wr l) ρ' H' w'→Mem C (Fra.subZ ρ' H' w' nt F.X (fun _=>False) []) ρ' H' w':=fun m'=>m'.enterZ (.refl _ _ _) rfl rfl rfl (fun _ _ _=>rfl) (fun _ _ _ _ h=>h) (fun b hb=>Nat.lt_of_lt_of_le (m'.xlt b hb) m'.size)
  (fun e he b hb=>(m'.hok.own e he b hb).1) (fun b hz=>hz.elim) _ _
 have lv:∀ {ρ':Lk} {H':Hp} {w':World} {ρ2:Lk} {H2:Hp} {w2:World},Mem C (F.wr l) ρ' H' w'→Mem C (Fra.subZ ρ' H' w' nt F.X (fun _=>False) []) ρ2 H2 w2→Mem C (F.wr l) ρ2 H2 w2∧Ext ρ' (Own F.X ρ' H') w' ρ2 (Own F.X ρ2 H2) w2:=fun {ρ' H' w' ρ2 H2 w2} m' m2=>by
  obtain ⟨q1,q2⟩:=m'.leaveZ (X':=F.X) (Z:=fun _=>False) (fun _ h=>h) (fun b hb=>hb.elim) m2;refine ⟨q1,?_⟩
  have:(fun b=>Own F.X ρ' H' b∨False)=Own F.X ρ' H':=funext fun b=>propext ⟨fun h=>h.elim id False.elim,.inl⟩
  have q2:Ext ρ' (fun b=>Own F.X ρ' H' b∨False) w' ρ2 (Own F.X ρ2 H2) w2:=q2
  rwa [this] at q2
 have lat:∀ {ρ':Lk} {H':Hp} {w':World} {ρ2:Lk} {H2:Hp} {w2:World},Mem C (F.wr l) ρ' H' w'→l<w'.heap.size→Mem C (Fra.subZ ρ' H' w' nt F.X (fun _=>False) []) ρ2 H2 w2→w2.heap[l]? = w'.heap[l]?:=fun m' hl m2=>m2.blk l hl fun h=>by
  rcases h with ⟨e,he,h⟩|h
  ·exact hol m' e he l h rfl
  ·exact h
 refine roundIn_of_wpIn trivial ?_
 let Fa:=Fra.subZ ρ H w nt F.X (fun _=>False) []
 have sata:Sat C Fa ρ ⟨a9s ps.toList ds env,H,n⟩ { tmps:=(ps.zip vs).foldl (fun tmps (t,a)=>tmps.setIfInBounds t a) tm,defers:=[] } w:=by
  refine ⟨ent mw,hfr,hg,fun t=>?_,?_,rfl⟩
  ·have:=b2v ps.toList ds env tm vs.toList (ρ:=ρ) (O:=Own F.X ρ H) (w:=w) (by simpa using hvs) (fun t ht=>by rw [htm];exact hps t (by simpa using ht)) (fun t=>(henv t).mono hEw) (fun i d hd=>by
    have:=hr i d hd
    simpa [Array.getD_eq_getD_getElem?,List.getD_eq_getElem?_getD] using this) t
   rw [← Array.foldl_toList,Array.toList_zip];exact this
  ·show ((ps.zip vs).foldl (fun tmps (t,a)=>tmps.setIfInBounds t a) tm).size=nt
   rw [← Array.foldl_toList];exact (a8d _ _).trans htm
 refine wpIn_mono ((h Fa).out (.refl Fa) hda ρ _ w sata) ?_;rintro e a2 w2 ⟨F2,s2,ρ2,hF2,⟨rfl,hFF,hbody⟩,hs2⟩;subst hFF;obtain ⟨m2,x2⟩:=lv mw (hF2.mem hs2.mem);have hl2:w2.heap[l]? = some (LR.obj ⟨fn,tm,ps,as,bd,dfs⟩ none):=(lat mw hltl (hF2.mem hs2.mem)).trans hlw;refine ⟨_,run_beginRound (r:=LR.lp ⟨fn,tm,ps,as,bd,dfs⟩ .ready none) hl2 rfl,?_⟩;have m3:=m2.putL hFl (.inr rfl) (r:=LR.lp ⟨fn,tm,ps,as,bd,dfs⟩ .ready none) hl2 (.loop { LR.lp ⟨fn,tm,ps,as,bd,dfs⟩ .ready none with state:=.busy });have x3:=Ext.putL (ρ:=ρ2) (O:=Own F.X ρ2 s2.H) (w:=w2) (.inl hFl) (r:=LR.lp ⟨fn,tm,ps,as,bd,dfs⟩ .ready none) hl2 (.loop { LR.lp ⟨fn,tm,ps,as,bd,dfs⟩ .ready none with state:=.busy });generalize hw3:w2.putObj l (.loop { LR.lp ⟨fn,tm,ps,as,bd,dfs⟩ .ready none with state:=.busy })=w3 at m3 x3 ⊢;have hlt2:l<w2.heap.size:=(Array.getElem?_eq_some_iff.1 hl2).1;have hl3:w3.heap[l]? = some (.loop { LR.lp ⟨fn,tm,ps,as,bd,dfs⟩ .ready none with state:=.busy }):=by rw [← hw3];exact World.putObj_heap_same hlt2
 let Fb:=Fra.subZ ρ2 s2.H w3 nt F.X (fun _=>False) []
 have satb:Sat C Fb ρ2 s2 a2 w3:=⟨ent m3,hs2.fresh,hs2.gen,fun t=>(hs2.env t).mono x3,hs2.nt,hs2.dfr⟩
 refine wpIn_mono ((hbody Fb).out (.refl Fb) hdb ρ2 _ w3 satb) ?_;rintro e a4 w4 ⟨F4,s4,ρ4,hF4,hq,hs4⟩;obtain ⟨m4,x4⟩:=lv m3 (hF4.mem hs4.mem);have hl4:w4.heap[l]? = some (.loop { LR.lp ⟨fn,tm,ps,as,bd,dfs⟩ .ready none with state:=.busy }):=(lat m3 (Array.getElem?_eq_some_iff.1 hl3).1 (hF4.mem hs4.mem)).trans hl3;have fin:∀ j,Φ j s4.H s4.n→∃ v w',(Instr.endRound l j).run C.P w4=.ok v w'∧b3Y C F l ⟨fn,tm,ps,as,bd,dfs⟩ ρ H w (fun j d H' n'=>d=boo j.isNone∧Φ j H' n') (.returned v) w':=fun j hj=>by
  refine ⟨_,_,run_endRound j hl4,_,j,boo j.isNone,s4.H,s4.n,ρ4,rfl,⟨rfl,hj⟩,World.putObj_heap_same (Array.getElem?_eq_some_iff.1 hl4).1,m4.putL hFl (.inr rfl) hl4 _,((x2.trans x3).trans x4).trans (Ext.putL (.inl hFl) hl4 _),hs4.fresh,hs4.gen,.prim _⟩
 cases e with
 | normal=>exact fin none hq
 | ret=>exact fin _ hq
 | exit i=>exact fin _ hq
 | goto t=>exact fin _ hq
 | panic c=>exact hq.elim
 | outgrown=>exact hq.elim
def d2X (Q:Exit→Fra→St→Prop)(F:Fra)(s:St)(j:Option Code):Prop:=match j with
 | none=>Q .normal F s
 | some .ret=>Q .ret F s
 | some (.exit i)=>Q (.exit i) F s
 | some (.goto t)=>Q (.goto t) F s
 | some _=>False
theorem a3s.ext {ρ1:Lk}{O1:Nat→Prop}{w1:World}:a3s.ok (fun ρ O w=>Ext ρ1 O1 w1 ρ O w):=fun _ _ _ _ _ _ h k=>h.trans k
theorem OkS.rangeFunc {B:Fra}{s:St}{Q:Exit→Fra→St→Prop}{g:Operand}{ps:Array Nat}{as bd:Code}{fi:Nat}{first captured:List D}{Ψ:Option Code→D→Hp→Nat→Prop}(hg:a1g s.env g=.clo (.func fi) first captured)
  (YS:List D→Hp→Nat→(Option Code→Hp→Nat→Prop)→Prop)
  (hbody:∀ l ds H n Φ,YS ds H n Φ→ds.length=ps.size∧∀ F:Fra,OkS C F (some l) F as ⟨a9s ps.toList ds s.env,H,n⟩ fun e F' s=>e=.normal∧F'=F∧∀ F':Fra,OkS C F' (some l) F' bd s (c2D Φ))
  (hiter:∀ (E:a3s) (l:Nat) (R:LR),a3s.ok E→(∀ ds H n Φ,YS ds H n Φ→b1t C E l R ds H n Φ)→a7I C E fi (first++[.clo (.yield l) [] []]++captured) l R s.H s.n Ψ)
  (hend:∀ j d H' n' F',Ψ j d H' n'→d2X Q F' ⟨s.env,H',n'⟩ j):OkS C B none F (.rangeFunc g ps as bd) s Q:=by
 refine ⟨fun hB hd ρ a w hs=>?_⟩;simp only [a0E,Bool.and_eq_true] at hd;have hps:∀ t∈ps,t<B.nt:=fun t ht=>Nat.blt_eq.mp (List.all_eq_true.1 hd.1 t (by simpa using ht))
 have hgr:=a0S hs.env g;rw [hg] at hgr;generalize hv:a.eval g=gv at hgr;cases hgr with
 | clo hnf hnc hr1 hr2 =>
 rename_i fs cs;refine wpIn_rangeFunc fun fn _=>?_
 let l:=w.heap.size+1
 let d:=w.heap.size
 let R:LR:=⟨fn,a.tmps,ps,as,bd,d⟩
 let w1:=(w.alloc (.deferred (some []))).alloc (R.obj none)
 have hw1s:w1.heap.size=w.heap.size+2:=by simp only [w1,World.size_alloc]
 have hold:∀ b,b<w.heap.size→w1.heap[b]? = w.heap[b]?:=fun b hb=>by
  show ((w.alloc _).alloc _).heap[b]? = _;rw [a0v,if_neg (by rw [World.size_alloc];omega),a0v,if_neg (by omega)]
 have hdw:w1.heap[d]? = some (.deferred (some [])):=by
  show ((w.alloc _).alloc _).heap[w.heap.size]? = _;rw [a0v,if_neg (by rw [World.size_alloc];omega),a0v,if_pos rfl]
 have hlw:w1.heap[l]? = some (R.obj none):=by
  show ((w.alloc _).alloc _).heap[w.heap.size+1]? = _;rw [a0v,if_pos (by rw [World.size_alloc])]
 have m:=hs.mem
 let X1:Nat→Prop:=fun b=>F.X b∨b=l∨b=d
 have hown:∀ e∈s.H,∀ b,ρ e.k e.g=some b→b<w.heap.size:=fun e he b hb=>m.lt he hb
 have x:Ext ρ (Own F.X ρ s.H) w ρ (Own X1 ρ s.H) w1:=by
  refine ⟨by omega,fun _ _ _ h=>h,fun b hb hO=>⟨?_,hold b hb⟩,fun b cs T fz h=>⟨cs,fz,?_,rfl⟩⟩
  ·rintro ((h|h|h)|h)
   ·exact hO (.inl h)
   ·simp only [l] at h;omega
   ·simp only [d] at h;omega
   ·exact hO (.inr h)
  ·rw [hold b (Array.getElem?_eq_some_iff.1 h).1];exact h
 have hng:C.nG≤l:=by
  have:=m.gn;have:=m.size
  simp only [l];omega
 have m1:Mem C (Fra.subZ ρ s.H w1 F.nt X1 (fun b=>b=l) ([d].map (fun r=>({ target:=.collected r,args:=#[] }:Deferred))++F.df)) ρ s.H w1:=by
  refine m.enterZ x rfl rfl rfl (fun b hb _=>hold b hb) (fun e he b hb hbl=>?_) (fun b hb=>?_) (fun e he b hb hb'=>?_) (fun b hb=>by rw [hb];exact hng) _ _
  ·have:=hown e he b hb
   simp only [l] at hbl;omega
  ·rcases hb with h|h|h
   ·have:=m.xlt b h;have:=m.size;omega
   ·simp only [l] at h;omega
   ·simp only [d] at h;omega
  ·have h1:=hown e he b hb
   rcases hb' with h|h|h
   ·exact (m.hok.own e he b hb).1 h
   ·simp only [l] at h;omega
   ·simp only [d] at h;omega
 have mo:Mem C F ρ s.H w1:=m.same ⟨by omega,fun _ _ _ h=>h,fun b hb hO=>⟨hO,hold b hb⟩,fun b cs T fz h=>⟨cs,_,by rw [hold b (Array.getElem?_eq_some_iff.1 h).1];exact h,rfl⟩⟩ rfl rfl rfl hold;have hF1:Fle C F (Fra.subZ ρ s.H w1 F.nt X1 (fun b=>b=l) ([d].map (fun r=>({ target:=.collected r,args:=#[] }:Deferred))++F.df)):=by
  refine Fle.subZ mo (fun b hb=>.inl hb) (fun b hb=>.inl ?_) [d] (by simp) fun r hr=>?_
  ·have:=m.size
   rw [hb];simp only [l];omega
  ·simp only [List.mem_singleton] at hr
   subst hr;refine ⟨m.size,by simp only [d];omega,.inr (.inr rfl),⟨by simp only [d,l];omega,fun e he h=>?_⟩,hdw⟩
   have:=hown e he d h
   simp only [d] at this;omega
 have hB1:=hB.trans hF1;generalize hF1d:Fra.subZ ρ s.H w1 F.nt X1 (fun b=>b=l) ([d].map (fun r=>({ target:=.collected r,args:=#[] }:Deferred))++F.df)=F1 at m1 hF1 hB1;have hF1X:F1.X=X1:=by rw [← hF1d];rfl
 have hF1W:F1.Wr l:=by rw [← hF1d];exact .inr rfl
 have hXl:F1.X l:=by rw [hF1X];exact .inr (.inl rfl)
 have henv1:∀ t,Rep ρ (Own F1.X ρ s.H) w1 (s.env.get t) (a.tmps.getD t undef):=fun t=>by rw [hF1X];exact (hs.env t).mono x
 have hc:=hiter (fun ρ' O w'=>Ext ρ (Own F1.X ρ s.H) w1 ρ' O w') l R a3s.ext fun ds H n Φ hY=>by
  obtain ⟨q1,q2⟩:=hbody l ds H n Φ hY;exact c2g (nt:=B.nt) (by rw [hs.nt];exact hB.nt) hps hd.2.1 hd.2.2 henv1 q1 q2
 have hargs:(fs ++ #[Value.func (.yield l) #[] #[]]++cs).size=(first++[D.clo (.yield l) [] []]++captured).length:=by simp [hnf,hnc];omega
 have hcall:=hc.2 F1 ρ w1 (fs ++ #[Value.func (.yield l) #[] #[]]++cs) m1 hXl hng (.refl _ _ _) hlw hs.fresh hs.gen hargs fun i dd hdd=>by
  rw [List.append_assoc] at hdd;rw [Array.append_assoc];rcases Nat.lt_or_ge i first.length with hi|hi
  ·rw [List.getElem?_append_left hi] at hdd
   have:(fs++(#[Value.func (.yield l) #[] #[]]++cs)).getD i undef=fs.getD i undef:=by
    simp only [Array.getD_eq_getD_getElem?];rw [Array.getElem?_append_left (by omega)]
   rw [this,hF1X];exact (hr1 i dd hdd).mono x
  ·rw [List.getElem?_append_right hi] at hdd
   have e1:(fs++(#[Value.func (.yield l) #[] #[]]++cs)).getD i undef=(#[Value.func (.yield l) #[] #[]]++cs).getD (i - first.length) undef:=by
    simp only [Array.getD_eq_getD_getElem?];rw [Array.getElem?_append_right (by omega),hnf]
   rw [e1];cases hk:i - first.length with
   | zero =>
    rw [hk] at hdd;simp at hdd;subst hdd
    have:(#[Value.func (.yield l) #[] #[]]++cs).getD 0 undef=Value.func (.yield l) #[] #[]:=by
     rw [Array.getD_eq_getD_getElem?,Array.getElem?_append_left (by simp)];rfl
    rw [this];exact .clo rfl rfl (by simp) (by simp)
   | succ k =>
    rw [hk] at hdd;have hdd:captured[k]? = some dd:=by simpa using hdd
    have:(#[Value.func (.yield l) #[] #[]]++cs).getD (k+1) undef=cs.getD k undef:=by
     simp only [Array.getD_eq_getD_getElem?];rw [Array.getElem?_append_right (by simp)];simp
    rw [this,hF1X];exact (hr2 k dd hdd).mono x
 refine ⟨l,[{ target:=.collected d,args:=#[] }],w1,{ target:=.fn (.func fi) cs,args:=fs ++ #[Value.func (.yield l) #[] #[]] },w1,fi,fs ++ #[Value.func (.yield l) #[] #[]]++cs,w1,run_enterLoop_outer _ _ _ _ _,?_,fun _ _=>trivial,?_,a3P,a3c.2 (hcall.mono ?_)⟩
 ·unfold resolve
  simp only [hv];have e:(#[Operand.const (Value.func (.yield l) #[] #[])]).map a.eval = #[Value.func (.yield l) #[] #[]]:=by simp [Act.eval]
  rw [e];rfl
 ·unfold invoke
  exact a4l hc.1 _ w1
 ·rintro e w' ⟨v,j,dd,H',n',ρ',rfl,hΨ,hl',m',x',fr,gn,rep⟩
  have hend':=hend j dd H' n' F1 hΨ;have m'':Mem C F1 ρ' H' w':=b5y m' rfl rfl rfl (fun b hb=>by
   rcases hb with hb|hb
   ·exact hb
   ·rw [hb];exact hF1W) m1.gw
  have m3:=m''.putL hXl hF1W (r:=R.lp (if j.isNone then .ready else .done) j) hl' (.loop { R.lp (if j.isNone then .ready else .done) j with state:=.exhausted });have x3:=Ext.putL (ρ:=ρ') (O:=Own F1.X ρ' H') (w:=w') (.inl hXl) (r:=R.lp (if j.isNone then .ready else .done) j) hl' (.loop { R.lp (if j.isNone then .ready else .done) j with state:=.exhausted });refine ⟨j,_,run_endLoop (r:=R.lp (if j.isNone then .ready else .done) j) hl' (by cases j<;>simp [LR.lp]),?_⟩;generalize w'.putObj l (.loop { R.lp (if j.isNone then .ready else .done) j with state:=.exhausted })=w3 at m3 x3 ⊢;have sat:Sat C F1 ρ' ⟨s.env,H',n'⟩ { a with defers:=[{ target:=.collected d,args:=#[] }]++a.defers } w3:=by
   refine ⟨m3,fr,gn,fun t=>((henv1 t).mono x').mono x3,?_,?_⟩
   ·show a.tmps.size=_
    rw [hs.nt,hF1.nt]
   ·show _++a.defers=_
    rw [hs.dfr,← hF1d];rfl
  cases j with
  | none=>exact ⟨F1,_,ρ',hB1,hend',sat⟩
  | some c =>
   cases c<;>first|exact hend'.elim|skip
   ·exact wpIn_exit ⟨F1,_,ρ',hB1,hend',sat⟩
   ·exact wpIn_goto ⟨F1,_,ρ',hB1,hend',sat⟩
   ·exact wpIn_ret ⟨F1,_,ρ',hB1,hend',sat⟩
end
section
variable {C:Ctx} {X:EV} {B F:Fra} {ops:Array Oper} {s:St} {rd:Option Nat} {Q:Exit→Fra→St→Prop}
structure a9v (C:Ctx)(B F:Fra)(k g:Nat)(str:ByteArray)(pos:Nat):Prop where
 ex:∃ it,F.r0 k g=some it∧F.X it∧¬ F.Wr it∧F.w0.heap[it]? = some (.stringIter str pos)∧C.nG≤it∧∀ {ρ:Lk} {H:Hp} {w:World},Mem C (F.wr it) ρ H w→Mem C B ρ H w
 df:F.df=B.df
theorem Ext.putX {ρ:Lk}{O:Nat→Prop}{w:World}{l:Nat}(hO:O l){o0:Obj}(hc:∀ cs T fz,o0≠.cells cs T fz)(h:w.heap[l]? = some o0)(o:Obj):Ext ρ O w ρ O (w.putObj l o) :=
 ⟨by rw [(a2X w l o).2.2.2];exact Nat.le_refl _,fun _ _ _ h=>h,fun b hb hb'=>⟨hb',World.putObj_heap_other fun hbl=>hb' (by rw [hbl];exact hO)⟩,fun b cs T fz hh=>⟨cs,_,by
  rw [World.putObj_heap_other fun hbl=>by rw [hbl,h] at hh;exact hc _ _ _ (Option.some.inj hh)];exact hh,rfl⟩⟩
theorem Mem.putX {ρ:Lk}{H:Hp}{w:World}{l:Nat}(m:Mem C F ρ H w)(hX:F.X l)(hW:F.Wr l){o0:Obj}(hc:∀ cs T fz,o0≠.cells cs T fz)(h:w.heap[l]? = some o0)(o:Obj):Mem C F ρ H (w.putObj l o):=by
 have x:=Ext.putX (ρ:=ρ) (O:=Own F.X ρ H) (.inl hX) hc h o;exact ⟨⟨fun e he=>by
  rcases m.hok.ent e he with h|⟨b,cs,a1,a2,a3⟩
  ·exact .inl h
  ·exact .inr ⟨b,cs,a1,by rw [World.putObj_heap_other fun hb=>(m.hok.own e he b a1).1 (by rw [hb];exact hX)];exact a2,a3.mono x⟩,m.hok.inj,m.hok.own⟩,
  m.os,m.tape,m.output,by rw [(a2X w l o).2.2.2];exact m.size,fun b hb hw=>by rw [World.putObj_heap_other fun hbl=>hw (by rw [hbl];exact hW)];exact m.blk b hb hw,m.xlt,m.g0,m.gn,m.gw,m.lnk,a3o m.shp x⟩
def b9m (C:Ctx)(X:EV)(B:Fra)(kb:Nat)(ops:Array Oper)(ir:Nat)(Q:Exit→Fra→St→Prop)(s:St):Prop:=match a9j ops.toList ir with
 | some o=>match o.guard with
  | none=>match o.op with
   | .range t x=>match X.tt t with
    | some i=>match i.ti with
     | .string=>match a1g s.env x with
      | .prim (.string str)=>∀ F':Fra,a9v C B F' kb s.n str 0→Q .normal F' ⟨a1N s.env o.dst (.optr kb s.n 0 0 0),s.H,s.n+1⟩
      | _=>False
     | _=>False
    | none=>False
   | _=>False
  | some _=>False
 | none=>False
theorem Fle.refine {F2:Fra}{ρ':Lk}{H':Hp}{w':World}{X':Nat→Prop}(hB:Fle C B F)(hdf:F.df=B.df)(hX:∀ b,F.X b→X' b)(hsz:B.w0.heap.size≤w'.heap.size)(hm:∀ {ρ:Lk} {H:Hp} {w:World},Mem C (Fra.subZ ρ' H' w' F.nt X' (fun _=>False) F.df) ρ H w→Mem C B ρ H w)
  (h2:F2=Fra.subZ ρ' H' w' F.nt X' (fun _=>False) F.df):Fle C B F2:=by
 subst h2;exact ⟨hB.nt,hsz,hm,fun b hb=>hX b (hB.X b hb),[],hdf,[],rfl,.nil,by simp⟩
theorem OkS.regRange {i:Nat}(hX:WOk C X)(kb:Nat)(l1:List Nat)(ir:Nat)(hl:List.range ops.size=l1++[ir])(hnd:a3T ops.toList=true)(hFB:F=B)
  (h:a2b C X kb ops l1 s True fun acc s1=>acc∧b9m C X B (kb+ir) ops ir Q s1):OkS C B rd F (.region i ops false) s Q:=by
 subst hFB;refine ⟨fun hB hd ρ a w hs=>wpIn_region ?_⟩;rw [hl];have hlt:∀ j∈l1++[ir],j<ops.size:=fun j hj=>by rw [← hl] at hj;exact List.mem_range.1 hj
 have h1:=(a1r (F:=F) (K':=b9m C X F (kb+ir) ops ir Q) hX (fun acc s h=>h) h).2.run (fun j hj=>hlt j (by simp [hj])) (a3N hB hd) hs;refine a1q (rd:=rd) (Q:=a5a C F Q) (l2:=[ir]) (fun e a w h=>?_) (a2w hnd) _ a w h1;obtain ⟨h0,s1,ρ1,h,hs1⟩:=h;refine ⟨h0,?_⟩;unfold b9m at h;split at h<;>first|exact h.elim|skip
 rename_i o ho;split at h<;>first|exact h.elim|skip
 rename_i hgd;split at h<;>first|exact h.elim|skip
 rename_i t x hop;split at h<;>first|exact h.elim|skip
 rename_i ti hti;split at h<;>first|exact h.elim|skip
 rename_i hstr;split at h<;>first|exact h.elim|skip
 rename_i str hx;have ho:=a4R ho;have hdo:a2A F.nt o=true:=List.all_eq_true.1 (show ops.toList.all (a2A F.nt)=true from hd) o (Array.mem_toList_iff.2 (Array.mem_of_getElem? ho));simp only [wpOpsIn,ho];rw [if_pos (by unfold Region.wanted;rw [hgd])];have hxv:a.eval x=.string str:=by
  have:=a0S hs1.env x
  rw [hx] at this;generalize a.eval x=v at this;cases this;rfl
 have hrun:(execOp a.eval o).run C.P w=.ok (.value (.pointer (some ⟨w.heap.size,0,none⟩))) (w.alloc (.stringIter str 0)):=by
  unfold execOp;simp only [hop];rw [run_bind]
  have:(Instr.range t (a.eval x)).run C.P w=.ok (.pointer (some ⟨w.heap.size,0,none⟩)) (w.alloc (.stringIter str 0)):=by
   unfold Instr.range;rw [run_bind,a0f (a1G (hX.tt _ _ hti) hstr),hxv];dsimp only;rw [run_bind,run_pure];dsimp only;rw [run_bind,run_newObj_alloc];rfl
  rw [this];rfl
 refine a4Y hrun ?_;show a5a C F Q .normal _ _;have m:=hs1.mem
 let it:=w.heap.size
 let X1:Nat→Prop:=fun b=>F.X b∨b=it
 have hown:∀ e∈s1.H,∀ b,ρ1 e.k e.g=some b→b<w.heap.size:=fun e he b hb=>m.lt he hb
 have hfr:ρ1 (kb+ir) s1.n=none:=hs1.fresh _ _ (Nat.le_refl _)
 let ρ2:=ρ1.put (kb+ir) s1.n it
 have hput:∀ k g b,ρ1 k g=some b→ρ2 k g=some b:=fun k g b hb=>Lk.put_old hfr hb
 have hown2:∀ e∈s1.H,∀ b,ρ2 e.k e.g=some b→ρ1 e.k e.g=some b:=fun e he b hb=>by
  have hg:=hs1.gen e he
  have:ρ2 e.k e.g=ρ1 e.k e.g:=by
   show (if e.k=kb+ir∧e.g=s1.n then some it else ρ1 e.k e.g)=_;rw [if_neg (by omega)]
  rw [← this];exact hb
 have hw1:(w.alloc (.stringIter str 0)).heap.size=w.heap.size+1:=World.size_alloc ..;have hold:∀ b,b<w.heap.size→(w.alloc (.stringIter str 0)).heap[b]? = w.heap[b]?:=fun b hb=>by rw [a0v,if_neg (by omega)]
 have xx:∀ X':Nat→Prop,(∀ b,b<w.heap.size→X' b→F.X b)→Ext ρ1 (Own F.X ρ1 s1.H) w ρ2 (Own X' ρ2 s1.H) (w.alloc (.stringIter str 0)):=fun X' hX'=>by
  refine ⟨by omega,hput,fun b hb hO=>⟨?_,hold b hb⟩,fun b cs T fz hc=>⟨cs,_,by rw [hold b (Array.getElem?_eq_some_iff.1 hc).1];exact hc,rfl⟩⟩;rintro (h|⟨e,he,h⟩)
  ·exact hO (.inl (hX' b hb h))
  ·exact hO (.inr ⟨e,he,hown2 e he b h⟩)
 have m1:Mem C F ρ2 s1.H (w.alloc (.stringIter str 0)):=by
  have x1:=xx F.X fun _ _ h=>h
  refine ⟨⟨fun e he=>?_,m.hok.inj.imp_of_mem fun {e e'} he he' h b b' hb hb'=>h b b' (hown2 e he b hb) (hown2 e' he' b' hb'),fun e he b hb=>m.hok.own e he b (hown2 e he b hb)⟩,m.os,m.tape,m.output,by have:=m.size;omega,
   fun b hb hW=>by rw [hold b (Nat.lt_of_lt_of_le hb m.size)];exact m.blk b hb hW,m.xlt,m.g0,m.gn,m.gw,fun k g b h=>hput _ _ _ (m.lnk k g b h),a3o m.shp x1⟩
  rcases m.hok.ent e he with ⟨h1,h2⟩|⟨b,cs,a1,a2,a3⟩
  ·refine .inl ⟨h1,?_⟩
   cases hb:ρ2 e.k e.g with
   | none=>rfl
   | some b=>rw [hown2 e he b hb] at h2;cases h2
  ·exact .inr ⟨b,cs,hput _ _ _ a1,by rw [hold b (m.lt he a1)];exact a2,a3.mono x1⟩
 have hitm:∀ e∈s1.H,∀ b,ρ2 e.k e.g=some b→b≠it:=fun e he b hb=>by have:=hown e he b (hown2 e he b hb);simp only [it];omega
 have hX1lt:∀ b,X1 b→b<(w.alloc (.stringIter str 0)).heap.size:=fun b hb=>by
  rcases hb with h|h
  ·have:=m.xlt b h;have:=m.size;omega
  ·simp only [it] at h;omega
 have hX1o:∀ e∈s1.H,∀ b,ρ2 e.k e.g=some b→¬ X1 b:=fun e he b hb hb'=>by
  rcases hb' with h|h
  ·exact (m.hok.own e he b (hown2 e he b hb)).1 h
  ·exact hitm e he b hb h
 have e2:∀ e∈s1.H,∀ b,Own F.X ρ2 s1.H b→Own X1 ρ2 s1.H b:=fun _ _ _ h=>h.imp .inl id
 have hng:C.nG≤it:=by have:=m.gn;have:=m.size;simp only [it];omega
 have ent:∀ Z:Nat→Prop,(∀ b,Z b→b=it)→Mem C (Fra.subZ ρ2 s1.H (w.alloc (.stringIter str 0)) F.nt X1 Z F.df) ρ2 s1.H (w.alloc (.stringIter str 0)):=fun Z hZ=>by
  refine ⟨⟨fun e he=>?_,m1.hok.inj,fun e he b hb=>⟨hX1o e he b hb,.inr (.inl ⟨e,he,hb⟩)⟩⟩,rfl,rfl,rfl,Nat.le_refl _,fun _ _ _=>rfl,hX1lt,m1.g,Nat.le_trans m1.gn m1.size,fun b hb=>?_,fun _ _ _ h=>h,fun _ cs _ _ h=>⟨cs,_,h,rfl⟩⟩
  ·rcases m.hok.ent e he with ⟨h1,h2⟩|⟨b,cs,a1,a2,a3⟩
   ·rcases m1.hok.ent e he with h|⟨b,cs,b1,_⟩
    ·exact .inl h
    ·rw [hown2 e he b b1] at h2;cases h2
   ·exact .inr ⟨b,cs,hput _ _ _ a1,by rw [hold b (m.lt he a1)];exact a2,a3.mono (xx X1 fun b hb h=>h.resolve_right fun h=>by simp only [it] at h;omega)⟩
  ·rcases hb with ⟨e,he,hb⟩|hb
   ·rcases (m1.hok.own e he b hb).2 with h|h
    ·exact Nat.le_trans m1.gn h
    ·exact m1.gw b h
   ·rw [hZ b hb];exact hng
 let F2:=Fra.subZ ρ2 s1.H (w.alloc (.stringIter str 0)) F.nt X1 (fun _=>False) F.df
 have upZ:∀ {ρ:Lk} {H:Hp} {w':World},Mem C (F2.wr it) ρ H w'→Mem C F ρ H w':=fun {ρ H w'} m'=>by
  have m'':Mem C (Fra.subZ ρ2 s1.H (w.alloc (.stringIter str 0)) F.nt X1 (fun b=>b=it) F.df) ρ H w':=b5y m' rfl rfl rfl (fun b hb=>by
   rcases hb with (hb|hb)|hb
   ·exact .inl hb
   ·exact hb.elim
   ·exact .inr hb) (ent _ fun _ h=>h).gw
  exact (m1.leaveZ (fun b hb=>.inl hb) (fun b hb=>.inl (by rw [hb];exact m.size)) m'').1
 have hit:a9v C F F2 (kb+ir) s1.n str 0:=⟨⟨it,Lk.put_same ..,.inr rfl,fun h=>by
  rcases h with ⟨e,he,h⟩|h
  ·exact hitm e he it h rfl
  ·exact h,by show (w.alloc _).heap[it]? = _;rw [a0v,if_pos rfl],hng,upZ⟩,rfl⟩
 have hF2:Fle C F F2:=Fle.refine hB rfl (fun b hb=>.inl hb) (by have:=m.size;show _≤(w.alloc _).heap.size;omega) (fun m'=>upZ (m'.wr hng)) rfl;refine ⟨F2,_,ρ2,hF2,h F2 hit,?_⟩;have hs2:Sat C F2 ρ2 ⟨s1.env,s1.H,s1.n+1⟩ a (w.alloc (.stringIter str 0)):=⟨ent _ fun _ h=>h.elim,fun k g hg=>by
  have hg:s1.n+1≤g:=hg;show (if k=kb+ir∧g=s1.n then some it else ρ1 k g)=none;rw [if_neg (by omega)];exact hs1.fresh k g (by omega),fun e he=>Nat.lt_succ_of_lt (hs1.gen e he),fun t=>(hs1.env t).mono (xx X1 fun b hb h=>h.resolve_right fun h=>by simp only [it] at h;omega),hs1.nt,hs1.dfr⟩
 exact hs2.put (H':=s1.H) hs2.mem (.refl _ _ _) hs2.fresh hs2.gen (.optr (Lk.put_same ..)) hdo
def d1w (C:Ctx)(X:EV)(B F:Fra)(kb:Nat)(ops:Array Oper)(i0:Nat)(l2:List Nat)(str:ByteArray)(pos:Nat)(Q:Exit→Fra→St→Prop)(s:St):Prop:=match a9j ops.toList i0 with
 | some o=>match o.guard with
  | none=>match o.op with
   | .next x true=>match a1g s.env x with
    | .optr k g 0 0 0=>a9v C B F k g str pos ∧
     (pos<str.size→∀ F':Fra,a9v C B F' k g str (pos+(Utf8.decode str pos).2)→a2b C X kb ops l2 ⟨a1N s.env o.dst (.tup [boo true,i64 pos,.prim (.int .i32 (Utf8.decode str pos).1)]),s.H,s.n+1⟩ True fun acc s=>acc∧Q .normal F' s) ∧
     (¬ pos<str.size→a2b C X kb ops l2 ⟨a1N s.env o.dst (.tup [boo false]),s.H,s.n+1⟩ True fun acc s=>acc∧Q .normal F s)
    | _=>False
   | _=>False
  | some _=>False
 | none=>False
theorem OkS.regNext {i:Nat}(hX:WOk C X)(kb:Nat)(i0:Nat)(l2:List Nat)(hl:List.range ops.size=i0::l2)(hnd:a3T ops.toList=true)(str:ByteArray)(pos:Nat)
  (h:d1w C X B F kb ops i0 l2 str pos Q s):OkS C B rd F (.region i ops false) s Q:=by
 refine ⟨fun hB hd ρ a w hs=>wpIn_region ?_⟩;rw [hl];have hlt:∀ j∈i0::l2,j<ops.size:=fun j hj=>by rw [← hl] at hj;exact List.mem_range.1 hj
 unfold d1w at h;split at h<;>first|exact h.elim|skip
 rename_i o ho;split at h<;>first|exact h.elim|skip
 rename_i hgd;split at h<;>first|exact h.elim|skip
 rename_i x hop;split at h<;>first|exact h.elim|skip
 rename_i k g hx;obtain ⟨⟨⟨it,i1,i2,i3,i4,i5,i6⟩,idf⟩,h1,h2⟩:=h;have ho:=a4R ho;have hdo:a2A B.nt o=true:=List.all_eq_true.1 (show ops.toList.all (a2A B.nt)=true from hd) o (Array.mem_toList_iff.2 (Array.mem_of_getElem? ho));simp only [wpOpsIn,ho];rw [if_pos (by unfold Region.wanted;rw [hgd])];have m:=hs.mem;have hlk:ρ k g=some it:=m.lnk _ _ _ i1;have hxv:a.eval x=.pointer (some ⟨it,0,none⟩):=by
  have:=a0S hs.env x
  rw [hx] at this;generalize a.eval x=v at this;cases this with
  | optr hr=>rw [hlk] at hr;cases hr;rfl
 have hob:w.heap[it]? = some (.stringIter str pos):=(m.blk it (m.xlt it i2) i3).trans i4;have hget:(getObj it).run C.P w=.ok (.stringIter str pos) w:=by
  simp [getObj,Sem.run,hob]
 by_cases hp:pos<str.size
 ·have hrun:(execOp a.eval o).run C.P w=.ok (.value (.tuple #[.bool true,.int .i64 pos,.int .i32 (Utf8.decode str pos).1])) (w.putObj it (.stringIter str (pos+(Utf8.decode str pos).2))):=by
   unfold execOp;simp only [hop];rw [run_bind]
   have:(Instr.next (a.eval x) true o.type).run C.P w=.ok (.tuple #[.bool true,.int .i64 pos,.int .i32 (Utf8.decode str pos).1]) (w.putObj it (.stringIter str (pos+(Utf8.decode str pos).2))):=by
    unfold Instr.next;rw [hxv];simp only [];rw [run_bind,hget];dsimp only;rw [if_pos hp];rw [run_bind]
    have:(setObj it (.stringIter str (pos+(Utf8.decode str pos).2))).run C.P w=.ok () (w.putObj it (.stringIter str (pos+(Utf8.decode str pos).2))):=by
     simp [setObj,Sem.run,hob,World.putObj]
    rw [this];rfl
   rw [this];rfl
  refine a4Y hrun ?_;have mp:=(m.wr i5).putX i2 (.inr rfl) (o0:=.stringIter str pos) (by simp) hob (.stringIter str (pos+(Utf8.decode str pos).2));have xp:=Ext.putX (ρ:=ρ) (O:=Own F.X ρ s.H) (w:=w) (.inl i2) (o0:=.stringIter str pos) (by simp) hob (.stringIter str (pos+(Utf8.decode str pos).2));have hitw:it<w.heap.size:=(Array.getElem?_eq_some_iff.1 hob).1;have hit':(w.putObj it (.stringIter str (pos+(Utf8.decode str pos).2))).heap[it]? = some (.stringIter str (pos+(Utf8.decode str pos).2)):=World.putObj_heap_same hitw;have hszp:=(a2X w it (.stringIter str (pos+(Utf8.decode str pos).2))).2.2.2;generalize w.putObj it (.stringIter str (pos+(Utf8.decode str pos).2))=w2 at mp xp hit' hszp ⊢
  let F2:=Fra.subZ ρ s.H w2 F.nt F.X (fun _=>False) F.df
  have m2:Mem C F2 ρ s.H w2:=mp.enterZ (.refl _ _ _) rfl rfl rfl (fun _ _ _=>rfl) (fun _ _ _ _ h=>h) (fun b hb=>Nat.lt_of_lt_of_le (mp.xlt b hb) mp.size) (fun e he b hb=>(mp.hok.own e he b hb).1) (fun _ h=>h.elim) _ _;have mZ:Mem C (Fra.subZ ρ s.H w2 F.nt F.X (fun b=>b=it) F.df) ρ s.H w2:=mp.enterZ (.refl _ _ _) rfl rfl rfl (fun _ _ _=>rfl) (fun e he b hb hb'=>(mp.hok.own e he b hb).1 (by rw [hb'];exact i2)) (fun b hb=>Nat.lt_of_lt_of_le (mp.xlt b hb) mp.size) (fun e he b hb=>(mp.hok.own e he b hb).1) (fun b hb=>by rw [hb];exact i5) _ _;have upZ:∀ {ρ':Lk} {H':Hp} {w':World},Mem C (F2.wr it) ρ' H' w'→Mem C B ρ' H' w':=fun {ρ' H' w'} m'=>by
   have m'':Mem C (Fra.subZ ρ s.H w2 F.nt F.X (fun b=>b=it) F.df) ρ' H' w':=b5y m' rfl rfl rfl (fun b hb=>by
    rcases hb with (hb|hb)|hb
    ·exact .inl hb
    ·exact hb.elim
    ·exact .inr hb) mZ.gw
   exact i6 (mp.leaveZ (fun _ h=>h) (fun b hb=>.inr (.inr hb)) m'').1
  have hiter:a9v C B F2 k g str (pos+(Utf8.decode str pos).2):=⟨⟨it,hlk,i2,fun h=>by
   rcases h with ⟨e,he,h⟩|h
   ·exact (mp.hok.own e he it h).1 i2
   ·exact h,hit',i5,upZ⟩,idf⟩
  have hB2:Fle C B F2:=Fle.refine hB idf (fun _ h=>h) (by rw [hszp];exact Nat.le_trans hB.sz m.size) (fun m'=>upZ (m'.wr i5)) rfl;have hs1:Sat C F2 ρ ⟨s.env,s.H,s.n+1⟩ a w2:=⟨m2,fun k g hg=>hs.fresh k g (by have:s.n+1≤g:=hg;omega),fun e he=>Nat.lt_succ_of_lt (hs.gen e he),fun t=>(hs.env t).mono xp,hs.nt,hs.dfr⟩
  have hs2:=hs1.put (H':=s.H) (o:=o) (d:=.tup [boo true,i64 pos,.prim (.int .i32 (Utf8.decode str pos).1)]) (v:=.tuple #[.bool true,.int .i64 pos,.int .i32 (Utf8.decode str pos).1]) hs1.mem (.refl _ _ _) hs1.fresh hs1.gen (.tup rfl fun i d hd=>by
   match i with
   | 0=>simp at hd;subst hd;exact .prim _
   | 1=>simp at hd;subst hd;exact .prim _
   | 2=>simp at hd;subst hd;exact .prim _
   | n+3=>simp at hd) (by rw [show F2.nt=B.nt from hB.nt];exact hdo)
  have h3:=(a1r (F:=F2) (K':=Q .normal F2) hX (fun acc s h=>h) (h1 hp F2 hiter)).2.run (fun j hj=>hlt j (by simp [hj])) (a3N hB2 hd) hs2
  have:=a1q (rd:=rd) (Q:=a5a C B Q) (l2:=[]) (fun _ _ _ h=>a3O hB2 (fun _ h=>h) h) (a2w hnd) _ _ _ h3
  rwa [List.append_nil] at this
 ·have hrun:(execOp a.eval o).run C.P w=.ok (.value (.tuple #[.bool false])) w:=by
   unfold execOp;simp only [hop];rw [run_bind]
   have:(Instr.next (a.eval x) true o.type).run C.P w=.ok (.tuple #[.bool false]) w:=by
    unfold Instr.next;rw [hxv];simp only [];rw [run_bind,hget];dsimp only;rw [if_neg hp];rfl
   rw [this];rfl
  refine a4Y hrun ?_;have hs1:Sat C F ρ ⟨s.env,s.H,s.n+1⟩ a w:=⟨m,fun k g hg=>hs.fresh k g (by have:s.n+1≤g:=hg;omega),fun e he=>Nat.lt_succ_of_lt (hs.gen e he),hs.env,hs.nt,hs.dfr⟩
  have hs2:=hs1.put (H':=s.H) (o:=o) (d:=.tup [boo false]) (v:=.tuple #[.bool false]) hs1.mem (.refl _ _ _) hs1.fresh hs1.gen (.tup rfl fun i d hd=>by
   match i with
   | 0=>simp at hd;subst hd;exact .prim _
   | n+1=>simp at hd) (by rw [hB.nt];exact hdo)
  have h3:=(a1r (F:=F) (K':=Q .normal F) hX (fun acc s h=>h) (h2 hp)).2.run (fun j hj=>hlt j (by simp [hj])) (a3N hB hd) hs2
  have:=a1q (rd:=rd) (Q:=a5a C B Q) (l2:=[]) (fun _ _ _ h=>a3O hB (fun _ h=>h) h) (a2w hnd) _ _ _ h3
  rwa [List.append_nil] at this
end
section
variable {ops:Array Oper}
def c1Q (ops:Array Oper):List (Nat × List Nat)→Bool
 | []=>true
 | (i,l)::r=>c1Q ops r&&l.all fun j=>a3h j (a2z ops i)||(a2z ops i).any fun k=>a3h j (a2a r k)
theorem a5x:∀ {clo:List (Nat × List Nat)},c1Q ops clo=true→∀ i j,j∈a2a clo i→a2l ops i j
 | [],_,i,j,hj=>by simp [a2a] at hj
 | (k,l)::r,h,i,j,hj=>by
  simp only [c1Q,Bool.and_eq_true,List.all_eq_true] at h;unfold a2a at hj;split at hj
  ·rename_i hk
   have:=Nat.eq_of_beq_eq_true hk
   subst this
   have:=h.2 j hj
   simp only [Bool.or_eq_true,List.any_eq_true] at this;rcases this with h1|⟨q,h1,h2⟩
   ·exact .dep (a1f.1 h1)
   ·exact .step h1 (a5x h.1 q j (a1f.1 h2))
  ·exact a5x h.1 i j hj
theorem b1B:∀ (l done:List Nat) (acc:List (Nat × List Nat)),a8b ops done l=true→(∀ k∈done,∀ j,a2l ops k j→j∈a2a acc k) →
  ∀ i,(i∈done∨i∈l)→∀ j,a2l ops i j→j∈a2a (b6s ops l acc) i
 | [],done,acc,_,h,i,hi,j,hr=>h i (hi.resolve_right (by simp)) j hr
 | i::l,done,acc,hf,h,i',hi,j,hr=>by
  simp only [a8b,Bool.and_eq_true] at hf;refine b1B l (i::done) _ hf.2 (fun k hk j hr=>?_) i' ?_ j hr
  ·unfold a2a
   split
   ·rename_i hk'
    have:=Nat.eq_of_beq_eq_true hk'
    subst this;refine a4U.2 (.inl ?_);rw [List.mem_append];cases hr with
    | dep h1=>exact .inl h1
    | step h1 h2=>exact .inr (List.mem_flatMap.2 ⟨_,h1,h _ (a2m.1 hf.1 _ h1) _ h2⟩)
   ·rename_i hk'
    rcases List.mem_cons.1 hk with rfl|hk
    ·simp at hk'
    ·exact h k hk j hr
  ·rcases hi with hi|hi
   ·exact .inl (List.mem_cons_of_mem _ hi)
   ·rcases List.mem_cons.1 hi with rfl|hi
    ·exact .inl List.mem_cons_self
    ·exact .inr hi
theorem b2s {all:List Nat}{clo clo':List (Nat × List Nat)}(h:∀ i j,i∈all→j∈a2a clo i→j∈a2a clo' i):∀ (l done:List Nat),(∀ i∈l,i∈all)→c4r ops all clo done l=true→c4r ops all clo' done l=true
 | [],_,_,_=>rfl
 | i::l,done,hl,hp=>by
  simp only [c4r,Bool.and_eq_true] at hp ⊢;refine ⟨?_,b2s h l _ (fun k hk=>hl k (List.mem_cons_of_mem _ hk)) hp.2⟩;have hp1:=hp.1;split at hp1
  ·rw [List.all_eq_true] at hp1 ⊢
   intro t ht
   have:=hp1 t ht
   rw [List.all_eq_true] at this ⊢;intro j hj
   have:=this j hj
   simp only [Bool.or_eq_true,Bool.and_eq_true,Bool.not_eq_true'] at this ⊢;rcases this with h1|⟨h1,h2⟩|⟨⟨h1,h2⟩,h3⟩
   ·exact .inl h1
   ·exact .inr (.inl ⟨a1f.2 (h _ _ (hl i List.mem_cons_self) (a1f.1 h1)),h2⟩)
   ·exact .inr (.inr ⟨⟨a1f.2 (h _ _ hj (a1f.1 h1)),h2⟩,h3⟩)
  ·cases hp1
theorem b2J {clo clo':List (Nat × List Nat)}{all:List Nat}(h:∀ i j,i∈all→j∈a2a clo i→j∈a2a clo' i):∀ (l done:List Nat),(∀ i∈l,i∈all)→c4G clo done l=true→c4G clo' done l=true
 | [],_,_,_=>rfl
 | i::l,done,hl,hp=>by
  simp only [c4G,Bool.and_eq_true] at hp ⊢;exact ⟨a2m.2 fun k hk=>h _ _ (hl i List.mem_cons_self) (a2m.1 hp.1 k hk),b2J h l _ (fun k hk=>hl k (List.mem_cons_of_mem _ hk)) hp.2⟩
def d4V (ops:Array Oper)(pre suf:List Nat)(clo:List (Nat × List Nat)):Bool :=
 a6Q (pre++suf)&&a4h (List.range ops.size) (pre++suf)&&(pre++suf).all (fun i=>Nat.blt i ops.size)&&a8b ops [] (pre++suf) &&
 a6Q (pre.flatMap (b1G ops))&&c4r ops pre clo [] pre&&c4G clo pre suf
theorem b6Z {pre suf:List Nat}(clo:List (Nat × List Nat))(h:(d4V ops pre suf clo&&c1Q ops clo&&a3T ops.toList)=true):(b4g ops pre suf&&a3T ops.toList)=true:=by
 simp only [d4V,Bool.and_eq_true] at h;obtain ⟨⟨⟨⟨⟨⟨⟨⟨c1,c2⟩,c3⟩,c4⟩,c5⟩,c6⟩,c7⟩,c8⟩,c9⟩:=h;have key:∀ i j,i∈pre++suf→j∈a2a clo i→j∈a2a (b6s ops (pre++suf) []) i:=fun i j hi hj=>b1B (pre++suf) [] [] c4 (by simp) i (.inr hi) j (a5x c8 i j hj)
 simp only [b4g,Bool.and_eq_true];exact ⟨⟨⟨⟨⟨⟨⟨c1,c2⟩,c3⟩,c4⟩,c5⟩,b2s (fun i j hi hj=>key i j (List.mem_append_left _ hi) hj) _ _ (fun _ h=>h) c6⟩,
  b2J (all:=suf) (fun i j hi hj=>key i j (List.mem_append_right _ hi) hj) _ _ (fun _ h=>h) c7⟩,c9⟩
end
section
variable {C:Ctx} {X:EV} {kb:Nat} {ops:Array Oper} {i:Nat} {l:List Nat} {s:St} {acc:Prop} {K:Prop→St→Prop} {o:Oper}
theorem a4I (h:K acc s):a2b C X kb ops [] s acc K:=h
theorem a0r (h:a9j ops.toList i=some o)(hg:o.guard=none)(hk:wpO C X (kb+i) (a1g s.env) s.H s.n o.op acc fun acc d H n=>a2b C X kb ops l ⟨a1N s.env o.dst d,H,n⟩ acc K):a2b C X kb ops (i::l) s acc K:=by
 unfold a2b;simp only [h,hg];exact hk
theorem a1D {g:Nat × Bool}{b:Bool}(h:a9j ops.toList i=some o)(hg:o.guard=some g)(hw:a0N ops s.env o=some b)(hb:b=true)(ha:acc)
  (hk:wpO C X (kb+i) (a1g s.env) s.H s.n o.op True fun acc d H n=>a2b C X kb ops l ⟨a1N s.env o.dst d,H,n⟩ acc K):a2b C X kb ops (i::l) s acc K:=by
 unfold a2b;simp only [h,hg,hw];subst hb;exact ⟨ha,hk⟩
theorem a9g {g:Nat × Bool}{b:Bool}(h:a9j ops.toList i=some o)(hg:o.guard=some g)(hw:a0N ops s.env o=some b)(hb:b=false)(ha:acc)
  (hk:a2b C X kb ops l ⟨a1N s.env o.dst (.prim (.tuple #[])),s.H,s.n+1⟩ True K):a2b C X kb ops (i::l) s acc K:=by
 unfold a2b;simp only [h,hg,hw];subst hb;exact ⟨ha,hk⟩
section
variable {g:Operand→D} {H:Hp} {n:Nat} {op:Op} {k:Prop→D→Hp→Nat→Prop}
theorem a2u {P:Prop→Prop}{d:D}{H':Hp}{n':Nat}(hs:∀ acc k,wpO C X kb g H n op acc k=k (P acc) d H' n')(hk:k (P acc) d H' n'):wpO C X kb g H n op acc k:=by rw [hs];exact hk
theorem a4Z {f:Nat}{ds:List D}(hs:∀ acc k,wpO C X kb g H n op acc k=(acc∧a0l C f ds H n fun d H n=>k True d H n))(ha:acc)(hc:a0l C f ds H n fun d H n=>k True d H n):wpO C X kb g H n op acc k:=by
 rw [hs];exact ⟨ha,hc⟩
theorem c0p {es:List D}{j:Int}{sz esz:Nat}{d:D}(hs:∀ acc k,wpO C X kb g H n op acc k=(acc∧(sz=esz∧0≤j)∧∃ d,es[j.toNat]? = some d∧k True (.pptr d) H (n+1)))(ha:acc)(h1:sz=esz∧0≤j)
  (h2:es[j.toNat]? = some d) (hk:k True (.pptr d) H (n+1)):wpO C X kb g H n op acc k:=by
 rw [hs];exact ⟨ha,h1,d,h2,hk⟩
end
section
variable {H:Hp} {n:Nat} {env:Env} {N:Hp} {K:Prop→Env→Hp→Prop}
theorem a6c (h:K acc env N):a3r C X kb ops H n [] env N acc K:=h
theorem a0w (h:a9j ops.toList i=some o)(hg:o.guard=none)(hk:wpE C X (kb+i) (a1g env) H (n+i) o.op acc fun acc d ne=>a3r C X kb ops H n l (a1N env o.dst d) (a4f ne N) acc K):a3r C X kb ops H n (i::l) env N acc K:=by
 unfold a3r;simp only [h,hg];exact hk
theorem a2y {g:Nat × Bool}{b:Bool}(h:a9j ops.toList i=some o)(hg:o.guard=some g)(hw:a0N ops env o=some b)(hb:b=true)(ha:acc)
  (hk:wpE C X (kb+i) (a1g env) H (n+i) o.op True fun acc d ne=>a3r C X kb ops H n l (a1N env o.dst d) (a4f ne N) acc K):a3r C X kb ops H n (i::l) env N acc K:=by
 unfold a3r;simp only [h,hg,hw];subst hb;exact ⟨ha,hk⟩
theorem a9f {g:Nat × Bool}{b:Bool}(h:a9j ops.toList i=some o)(hg:o.guard=some g)(hw:a0N ops env o=some b)(hb:b=false)(ha:acc)
  (hk:a3r C X kb ops H n l (a1N env o.dst (.prim (.tuple #[]))) N True K):a3r C X kb ops H n (i::l) env N acc K:=by
 unfold a3r;simp only [h,hg,hw];subst hb;exact ⟨ha,hk⟩
section
variable {g:Operand→D} {op:Op} {k:Prop→D→Option Ent→Prop}
theorem a2t {P:Prop→Prop}{d:D}{ne:Option Ent}(hs:∀ acc k,wpE C X kb g H n op acc k=k (P acc) d ne)(hk:k (P acc) d ne):wpE C X kb g H n op acc k:=by rw [hs];exact hk
theorem a4b {f:Nat}{ds:List D}(hs:∀ acc k,wpE C X kb g H n op acc k=(acc∧a0n C f ds fun d=>k True d none))(ha:acc)(hc:a0n C f ds fun d=>k True d none):wpE C X kb g H n op acc k:=by
 rw [hs];exact ⟨ha,hc⟩
theorem b0p {es:List D}{j:Int}{sz esz:Nat}{d:D}(hs:∀ acc k,wpE C X kb g H n op acc k=(acc∧(sz=esz∧0≤j)∧∃ d,es[j.toNat]? = some d∧k True (.pptr d) none))(ha:acc)(h1:sz=esz∧0≤j)
  (h2:es[j.toNat]? = some d) (hk:k True (.pptr d) none):wpE C X kb g H n op acc k:=by
 rw [hs];exact ⟨ha,h1,d,h2,hk⟩
end
end
end
def FzS (H:Hp)(d0 d:D):Prop:=∀ (C:Ctx) (F:Fra) (ρ:Lk) (w:World),Mem C F ρ H w→(∀ b,Own F.X ρ [] b→Own F.X ρ H b)→(∀ e∈H,∀ b,ρ e.k e.g=some b→¬ Own F.X ρ [] b) →
 ∀ v,Rep ρ (Own F.X ρ H) w d0 v→Rep ρ (Own F.X ρ []) w d v
theorem FzS.refl (H:Hp)(d:D):FzS H d d:=fun _ _ _ _ _ hO _ _ hv=>hv.anti hO
theorem FzS.clo1 {H:Hp}{fn:Fn}{c c':D}(h:FzS H c c'):FzS H (.clo fn [] [c]) (.clo fn [] [c']):=fun C F ρ w m hO hN v hv=>by
 cases hv with
 | clo hf hc h1 h2 =>
  refine .clo hf (by simpa using hc) (fun i d hd=>by simp at hd) fun i d hd=>?_
  match i with
  | 0 =>
   simp at hd;subst hd;exact h C F ρ w m hO hN _ (h2 0 _ rfl)
  | i+1=>simp at hd
theorem FzS.ptr {H:Hp}{k g sz:Nat}{e:Ent}{x:D}(he:Hp.get H k=some e)(hg:g=e.g)(hs:sz=e.sz)(hx:e.es=[x]):FzS H (.optr k g sz 0 0) (.pptr x):=fun C F ρ w m hO hN v hv=>by
 subst hg hs;obtain ⟨hm,hk⟩:=Hp.get_mem he;cases hv with
 | optr hr =>
  rename_i b;rw [← hk] at hr;obtain ⟨cs,h1,h2⟩:=m.at hm hr;have hlen:=h2.len;rw [hx] at hlen;have hsz:=h2.siz 0 x (by rw [hx];rfl);have hin:∀ n,n<x.cells.length→n<cs.size:=fun n hn=>by
   simp only [List.length_cons,List.length_nil] at hlen;omega
  rw [show 0*e.sz+0=0 from by omega];refine .pptr (fun n=>cs.getD n undef) (hN e hm b hr) (m.lt hm hr) (fun n hn=>?_) (fun n hn=>?_) fun j d hd=>?_
  ·rw [Nat.zero_add];simp [World.cell?,h1,hin n hn]
  ·have:=h2.one _ _ (Array.getElem?_eq_getElem (hin n hn))
   simpa [Array.getD_eq_getD_getElem?,Array.getElem?_eq_getElem (hin n hn)] using this
  ·have:=h2.rep 0 x j d (by rw [hx];rfl) hd
   rw [Nat.zero_mul,Nat.zero_add] at this;exact this.anti hO
def d2K (tt:Nat→Option a0k)(rs:List ResultVar)(Φ:D→Prop)(e:Exit)(_:Fra)(s:St):Prop:=match e with
 | .normal | .ret=>a9u tt s rs fun d0=>∃ d,FzS s.H d0 d∧a2c d∧Φ d
 | _=>False
section
variable {C:Ctx} {X:EV}
theorem a0c.walkS {f:Nat}{i:FI}{args:List D}{Φ:D→Prop}(hX:WOk C X)(hf:FOk C.P f i)(hnt:Nat.ble args.length i.nt=true)
  (h:∀ F:Fra,OkS C F none F i.code ⟨a1h 0 args,[],0⟩ (d2K X.tt i.res Φ)):a0c C f args Φ:=by
 obtain ⟨fn,hf,hb,hn,hd,hni,hres⟩:=hf;rw [← hni] at hnt;refine ⟨⟨fn,i.code,hf,hb,hn⟩,fun Y w vs hG hnG hX' hvs hr=>?_⟩;have hnt:=Nat.le_of_ble_eq_true hnt;refine (a3c (rd:=none) (n:=0)).1 (callsIn_of_wp_marks hf hb trivial ?_);have hown:∀ b,Own Y nol [] b↔Y b:=by simp [Own]
 have hoe:Own Y nol []=Y:=funext fun b=>propext (hown b)
 let F0:Fra:=⟨w,Y,fun _=>False,fn.ntmps,nol,[]⟩
 have sat:Sat C F0 nol ⟨a1h 0 args,[],0⟩ { tmps:=vs++Array.replicate (fn.ntmps - vs.size) undef,defers:=[] } w:=by
  refine ⟨⟨⟨by simp,.nil,by simp⟩,rfl,rfl,rfl,Nat.le_refl _,fun _ _ _=>rfl,hX',hG,hnG,by simp [F0],fun _ _ _ h=>h,fun _ cs _ _ h=>⟨cs,_,h,rfl⟩⟩,fun _ _ _=>rfl,by simp,fun t=>?_,by simp [F0];omega,rfl⟩;show Rep nol (Own Y nol []) w _ _;rw [hoe];exact a7N hvs hr t
 refine wpIn_mono ((h F0).out (.refl F0) hd nol _ w sat) ?_;rintro e a' w' ⟨F',s',ρ',hF,hq,hs'⟩;have key:a9u X.tt s' i.res (fun d0=>∃ d,FzS s'.H d0 d∧a2c d∧Φ d)→LeavesInM (fw none) 0 C.P fn a'.tmps (fun e w'=>∃ v d,e=.returned v∧Below w.heap.size w w'∧Φ d∧Rep nol Y w' d v) a'.defers .returning w':=fun hq=>by
  obtain ⟨d0,p,h1,h2,d,h3,h4,h5⟩:=a7E hq;rw [← hres] at h1;obtain ⟨v,w2,_,hl,mF,r2,hXX,x,hbl,hsz,F2,m2,hX2⟩:=hF.finish hX.tt rfl hs' h1 h2;refine hl _ ⟨v,d,rfl,⟨mF.os,mF.tape,mF.output,mF.size,fun b hb=>mF.blk b hb (by simp [F0])⟩,h5,?_⟩;have hH:FzH s'.H [] s'.H []:=by
   generalize s'.H=H0
   have:∀ H1:Hp,FzH H0 [] H1 []:=fun H1=>by
    induction H1 with
    | nil=>exact .nil
    | cons e r ih=>exact .drop ih
   exact this H0
  obtain ⟨m,hO,hN⟩:=hH.mem m2;have r3:=h3 _ _ _ _ m2 hO (fun e he b hb=>hN e he b hb rfl) v (by rw [hX2];exact r2);have r4:=h4 _ nol _ _ _ r3;exact r4.anti fun b hb=>.inl (by rw [hX2];exact hXX b hb)
 cases e with
 | normal=>exact key hq
 | ret=>exact key hq
 | _=>exact hq.elim
theorem a0m.lendS {f:Nat}{ds ds':List D}{d:D}{H:Hp}{n:Nat}(hc:a0b C f ds' d)(hl:ds'.length=ds.length)(hv:∀ (i:Nat) (a b:D),ds[i]? = some a→ds'[i]? = some b→FzS H a b)
  (hp:ArePure ds') (hflat:a6Z d):a0m C f ds H n (fun d' H' n'=>d'=d∧H'=H∧n'=n+1):=by
 refine ⟨hc.1,fun F ρ w vs m hfr hg hvs hr=>?_⟩;have hH:FzH H [] H []:=by
  generalize H=H0
  have:∀ H1:Hp,FzH H0 [] H1 []:=fun H1=>by
   induction H1 with
   | nil=>exact .nil
   | cons e r ih=>exact .drop ih
  exact this H0
 obtain ⟨m',hO,hN⟩:=hH.mem m;refine (hc.2 (Own F.X ρ []) w vs m.g (Nat.le_trans m.gn m.size) (fun b hb=>m'.own_lt hb) (by omega) fun i x hx=>?_).mono ?_
 ·have hi:i<ds'.length:=(List.getElem?_eq_some_iff.1 hx).1
  have hd0:ds[i]? = some ds[i]:=List.getElem?_eq_getElem (by omega);exact hp.out x (List.mem_of_getElem? hx) _ _ _ _ _ (hv i _ x hd0 hx C F ρ w m hO (fun e he b hb=>hN e he b hb rfl) _ (hr i _ hd0))
 ·rintro e w' ⟨v,d',rfl,hb,hd',rep⟩
  subst hd';have x:Ext ρ (Own F.X ρ H) w ρ (Own F.X ρ H) w':=⟨hb.size,fun _ _ _ h=>h,fun b hb' hO=>⟨hO,hb.block b hb'⟩,fun b cs T fz hh=>⟨cs,_,by
   rw [hb.block b (Array.getElem?_eq_some_iff.1 hh).1];exact hh,rfl⟩⟩
  exact ⟨v,_,H,n+1,ρ,rfl,⟨rfl,rfl,rfl⟩,m.same x hb.os hb.tape hb.output hb.block,x,fun k g hg'=>hfr k g (by omega),fun e he=>Nat.lt_succ_of_lt (hg e he),hflat _ _ _ _ _ _ _ rep⟩
end
abbrev smI (z:Int):D:=.agg [i64 z,a2d]
abbrev smF (a b:Int):D:=.agg [i64 a,a2d,i64 b,a2d]
theorem a6k {y n:Prop}:brB true y n=y:=rfl
theorem b0w {y n:Prop}:brB false y n=n:=rfl
theorem a5P {H Hf:Hp}:∀ r:Hp,FzH H Hf r r
 | []=>.nil
 | _::r=>.keep (a5P r)
theorem sdI {P:Prop}(h:P:=by (repeat' (first|exact trivial|exact rfl|exact Or.inl rfl|exact Or.inr rfl|exact a0Q.agg|exact a0Q.one' rfl|exact Nat.le_of_ble_eq_true rfl|refine And.intro ?_ ?_|(intro hq;first|exact rfl|exact trivial|(exact absurd hq (by decide)))|exact Nat.le_refl _|omega|decide|(dsimp only [List.length_cons,List.length_nil];omega)))):P:=h
structure a5D (Q:Prop):Prop where
 out:Q
theorem dsI {P Q:Prop}(h:Q)(e:a5D Q→P:=by intro hq;(try dsimp only [smI,smF,b1q,a1N,a4f,a1g,Env.get,a6J,b6g,a5d,b2K,b0B,b0Z,a0I,D.cells,ofV,Hp.get,Hp.set,Hp.del,a7f,a1h,asB,cond,a9r,b5I,b0o,a7d,b6l,a3h,List.map,List.length,List.append,List.nil_append,List.cons_append,List.append_nil,List.size_toArray,List.length_cons,List.length_nil,Value.cells,List.toList_toArray,Array.toList,Nat.reduceAdd,Nat.reduceMul,Nat.beq,Nat.reduceSub,a3h,b8p,b1q,Bool.false_and,Bool.true_and,Bool.true_or,Bool.false_or,Bool.not_true,Bool.not_false]);exact hq.out):P:=e ⟨h⟩
theorem nxI {A P Q:Prop}(h:Q)(a:A:=by exact sdI)(e:a5D Q→P:=by intro hq;refine dsI ?_;exact hq.out):A∧P:=⟨a,e ⟨h⟩⟩
theorem wkI {s s':St}(a:FzH s.H s'.H s.H s'.H:=by (first|(exact a5P _)|(repeat (first|exact .nil|(exact a5P _)|refine .keep ?_|refine .drop ?_))))
  (b:b2R s.H s'.H s.env s'.env:=by (repeat' (first|exact trivial|exact Fz.refl _|refine And.intro ?_ ?_|(refine d3Y ?_;dsimp only [smI,smF,b1q,a1N,a4f,a1g,Env.get,a6J,b6g,a5d,b2K,b0B,b0Z,a0I,D.cells,ofV,Hp.get,Hp.set,Hp.del,a7f,a1h,asB,cond,a9r,b5I,b0o,a7d,b6l,a3h,List.map,List.length,List.append,List.nil_append,List.cons_append,List.append_nil,List.size_toArray,List.length_cons,List.length_nil,Value.cells,List.toList_toArray,Array.toList,Nat.reduceAdd,Nat.reduceMul,Nat.beq,Nat.reduceSub,a3h,b8p,b1q,Bool.false_and,Bool.true_and,Bool.true_or,Bool.false_or,Bool.not_true,Bool.not_false];first|exact rfl|(simp_all;done)))))
  (c:s.n≤s'.n:=by (first|exact Nat.le_refl _|decide|(dsimp only;omega))):Wk s s':=⟨a,b,c⟩
theorem stI {P Q:Prop}(h:Q)(e:a5D Q→P:=by
  intro hq
  repeat (first|(refine a0r rfl rfl ?_;refine a2u (fun _ _=>rfl) ?_)|(refine a0w rfl rfl ?_;refine a2t (fun _ _=>rfl) ?_))
  try (refine a6c ?_;repeat (first|(refine a0r rfl rfl ?_;refine a2u (fun _ _=>rfl) ?_)|(refine a0w rfl rfl ?_;refine a2t (fun _ _=>rfl) ?_)))
  first|refine a4I (And.intro sdI ?_)|(refine a0r rfl rfl ?_;refine a4Z (fun _ _=>rfl) sdI ?_)|(refine a0w rfl rfl ?_;refine a4b (fun _ _=>rfl) sdI ?_)|skip
  refine dsI ?_;exact hq.out):P:=e ⟨h⟩
section
variable {C:Ctx} {X:EV} {kb:Nat} {g:Operand→D} {H:Hp} {n:Nat} {acc:Prop}
theorem a5E {p a:Prop}(hp:p):(p∧a)=a:=propext ⟨And.right,fun h=>⟨hp,h⟩⟩
theorem b7x {tt:Nat→Option a0k}{t:Nat}{x:Operand}{i:a0k}{k' gg sz j off:Nat}{e:Ent}{d d':D}(h1:tt t=some i)(h2:g x=.optr k' gg sz j off)(h3:Hp.get H k'=some e)
  (h4:e.es[j]? = some d) (h5:a5d i.ag i.sz off d.cells=some d') :
  evL tt H n kb g (.load t x)=some (d',none,gg=e.g∧sz=e.sz∧(bif i.ag then Nat.ble (off+i.sz) d.cells.length else true)=true):=by
 simp only [evL,h1,h2,h3,h4,h5]
theorem b0q {t:Nat}{x:Operand}{i:a0k}{k' gg sz j off:Nat}{e:Ent}{d d':D}{k:Prop→D→Hp→Nat→Prop}(h1:X.tt t=some i)(h2:g x=.optr k' gg sz j off)(h3:Hp.get H k'=some e)
  (h4:e.es[j]? = some d) (hk:k acc d' H (n+1)) (h5:a5d i.ag i.sz off d.cells=some d':=by exact rfl) (h6:gg=e.g∧sz=e.sz∧(bif i.ag then Nat.ble (off+i.sz) d.cells.length else true)=true:=by exact sdI) :
  wpO C X kb g H n (.load t x) acc k:=by
 unfold wpO;simp only [b7x h1 h2 h3 h4 h5,a5E h6];exact hk
theorem a9d {t:Nat}{x:Operand}{i:a0k}{k' gg sz j off:Nat}{e:Ent}{d d':D}{k:Prop→D→Option Ent→Prop}(h1:X.tt t=some i)(h2:g x=.optr k' gg sz j off)(h3:Hp.get H k'=some e)
  (h4:e.es[j]? = some d) (hk:k acc d' none) (h5:a5d i.ag i.sz off d.cells=some d':=by exact rfl) (h6:gg=e.g∧sz=e.sz∧(bif i.ag then Nat.ble (off+i.sz) d.cells.length else true)=true:=by exact sdI) :
  wpE C X kb g H n (.load t x) acc k:=by
 unfold wpE;simp only [b7x h1 h2 h3 h4 h5,a5E h6];exact hk
theorem b1o {fop:Operand}{args:Array Operand}{tys:Array Nat}{f:Nat}{first captured ds:List D}{d:D}{k:Prop→D→Hp→Nat→Prop}(hf:g fop=.clo (.func f) first captured)(hd:first++args.toList.map g++captured=ds)
  (hn:X.nat f ds=some d) (hk:k acc d H (n+1)):wpO C X kb g H n (.call ⟨.value fop,args,tys⟩) acc k:=by
 subst hd;unfold wpO;simp only [hf,hn];exact hk
theorem a9e {fop:Operand}{args:Array Operand}{tys:Array Nat}{f:Nat}{first captured ds:List D}{d:D}{k:Prop→D→Option Ent→Prop}(hf:g fop=.clo (.func f) first captured)(hd:first++args.toList.map g++captured=ds)
  (hn:X.nat f ds=some d) (hk:k acc d none):wpE C X kb g H n (.call ⟨.value fop,args,tys⟩) acc k:=by
 subst hd;unfold wpE;simp only [hf,hn];exact hk
theorem a6X {t:Nat}{x y:Operand}{i:a0k}{k' gg sz j off:Nat}{e:Ent}{d d':D}{k:Prop→D→Hp→Nat→Prop}(h1:X.tt t=some i)(h2:g x=.optr k' gg sz j off)(h3:Hp.get H k'=some e)
  (h4:e.es[j]? = some d) (hk:k acc (.prim (.tuple #[])) (Hp.set H k' ⟨e.k,e.g,e.T,e.sz,e.es.set j d'⟩) (n+1))
  (h5:b6g i off sz d (g y)=d':=by exact rfl) (h6:a0Q i.ag i.sz (g y)∧gg=e.g∧sz=e.sz∧Nat.ble (off+i.sz) e.sz=true:=by exact sdI) :
  wpO C X kb g H n (.store t x y) acc k:=by
 subst h5;unfold wpO;simp only [evS,h1,h2,h3,h4,a5E h6,a6b];exact hk
end
section
variable {C:Ctx} {X:EV} {kb:Nat} {ops:Array Oper} {iw:Nat} {ia:Option Nat} {R:Hp} {clo:List Nat} {n i:Nat} {l:List Nat} {env:Env} {N:Hp} {accE acc':Option Ent} {acc:Prop} {K:Prop→Env→Hp→Ent→Ent→Prop} {o:Oper}
theorem b6o {e e':Ent}(h:K acc env N e e'):a1M C X kb ops iw ia R clo n [] env N (some e) (some e') acc K:=h
theorem a3I (h:a9j ops.toList i=some o)(hw:Nat.beq i iw=false)(ha:b8p ia i=false)(hg:o.guard=none)
  (hk:wpE C X (kb+i) (a1g env) (a7d ia accE R (a3h i clo)) (n+i) o.op acc fun acc d ne=>a1M C X kb ops iw ia R clo n l (a1N env o.dst d) (a4f ne N) accE acc' acc K) :
  a1M C X kb ops iw ia R clo n (i::l) env N accE acc' acc K:=by
 unfold a1M;simp only [h,hw,ha,hg];exact hk
theorem c0r {e:Ent}(h:a9j ops.toList i=some o)(hw:Nat.beq i iw=true)(hg:o.guard=none)
  (hk:c4N X (kb+i) e (n+i) (a1g env) o.op acc fun acc d e'=>a1M C X kb ops iw ia R clo n l (a1N env o.dst d) N (some e) (some e') acc K) :
  a1M C X kb ops iw ia R clo n (i::l) env N (some e) none acc K:=by
 unfold a1M;simp only [h,hw,hg];exact hk
theorem c0q (h:a9j ops.toList i=some o)(hw:Nat.beq i iw=false)(ha:b8p ia i=true)(hg:o.guard=none)
  (hk:wpE C X (kb+i) (a1g env) R (n+i) o.op acc fun acc d ne=>match ne with
   | some e=>a1M C X kb ops iw ia R clo n l (a1N env o.dst d) N (some e) acc' acc K
   | none=>False) :
  a1M C X kb ops iw ia R clo n (i::l) env N none acc' acc K:=by
 unfold a1M;simp only [h,hw,ha,hg];exact hk
theorem c2C {e:Ent}{g:Operand→D}{op:Op}{k:Prop→D→Ent→Prop}{P:Prop→Prop}{d:D}{e':Ent}(hs:∀ acc k,c4N X kb e n g op acc k=k (P acc) d e')(hk:k (P acc) d e'):c4N X kb e n g op acc k:=by rw [hs];exact hk
theorem c7f {e:Ent}{g:Operand→D}{t:Nat}{x y:Operand}{i:a0k}{k' gg sz j off:Nat}{d d':D}{k:Prop→D→Ent→Prop}(h1:X.tt t=some i)(h2:g x=.optr k' gg sz j off)(h3:Hp.get [e] k'=some e)
  (h4:e.es[j]? = some d) (hk:k acc (.prim (.tuple #[])) ⟨e.k,e.g,e.T,e.sz,e.es.set j d'⟩)
  (h5:b6g i off sz d (g y)=d':=by exact rfl) (h6:a0Q i.ag i.sz (g y)∧gg=e.g∧sz=e.sz∧Nat.ble (off+i.sz) e.sz=true:=by exact sdI) :
  c4N X kb e n g (.store t x y) acc k:=by
 subst h5;unfold c4N;simp only [evS,h1,h2,h3,h4,a5E h6,a6b];exact hk
end
theorem b1T (K g T sz:Nat)(l:List D):Fz [⟨K,g,T,sz,l⟩] [] (.osl K g sz 0 l.length) (.sl false sz l):=by
 refine .osl (e:=⟨K,g,T,sz,l⟩) (by simp [Hp.get]) rfl rfl rfl (by simp) (by simp) (fun j d d' h1 h2=>?_) fun j d d' q c c' h1 h2 h3 h4=>?_
 ·rw [Nat.zero_add] at h1;rw [h1] at h2;cases h2;rfl
 ·rw [Nat.zero_add] at h1;rw [h1] at h2;cases h2;rw [h3] at h4;cases h4;exact Fz.refl _
section
variable {A B D E F G:Prop}
theorem ff2 (a:A)(b:B):A∧B:=⟨a,b⟩
theorem ff3 (a:A)(b:B)(c:D):A∧B∧D:=⟨a,b,c⟩
theorem ff4 (a:A)(b:B)(c:D)(d:E):A∧B∧D∧E:=⟨a,b,c,d⟩
theorem ff5 (a:A)(b:B)(c:D)(d:E)(e:F):A∧B∧D∧E∧F:=⟨a,b,c,d,e⟩
theorem ff6 (a:A)(b:B)(c:D)(d:E)(e:F)(f:G):A∧B∧D∧E∧F∧G:=⟨a,b,c,d,e,f⟩
theorem kT:(!true)=false:=rfl
theorem kF:(!false)=true:=rfl
theorem kN:∀ n:Nat,(n:Int).toNat=n:=Int.toNat_natCast
theorem kB:(!true)=false∧(!false)=true:=⟨rfl,rfl⟩
theorem ff7 {I:Prop}(a:A)(b:B)(c:D)(d:E)(e:F)(f:G)(g:I):A∧B∧D∧E∧F∧G∧I:=⟨a,b,c,d,e,f,g⟩
end
inductive KB:Nat→Prop
 | mk (n:Nat):KB n
section
variable {C:Ctx} {X:EV} {B:Fra} {rd:Option Nat} {F:Fra} {ops:Array Oper} {s:St} {Q:Exit→Fra→St→Prop} {i:Nat}
theorem OkS.regK (hX:WOk C X){kb:Nat}(_:KB kb)(hnd:a3T ops.toList=true)(h:a2b C X kb ops (List.range ops.size) s True fun acc s=>acc∧Q .normal F s):OkS C B rd F (.region i ops false) s Q:=OkS.reg hX kb hnd h
end
theorem gwI {F:Prop}(f:F){P Q:Prop}(h:Q)(e:a5D F→a5D Q→P:=by
  intro hf hq
  repeat (first
   | (refine a0r rfl rfl ?_;refine a2u (fun _ _=>rfl) ?_)|(refine a0w rfl rfl ?_;refine a2t (fun _ _=>rfl) ?_)
   | refine a1D rfl rfl rfl (by first|(simp only [hf.out];done)|fail) sdI (a2u (fun _ _=>rfl) ?_)|refine a9g rfl rfl rfl (by first|(simp only [hf.out];done)|fail) sdI ?_
   | refine a2y rfl rfl rfl (by first|(simp only [hf.out];done)|fail) sdI (a2t (fun _ _=>rfl) ?_)|refine a9f rfl rfl rfl (by first|(simp only [hf.out];done)|fail) sdI ?_
   | (refine a0r rfl rfl ?_;refine b0q rfl rfl rfl (by (try dsimp only);(try simp only [hf.out]);exact rfl) ?_)|(refine a0r rfl rfl ?_;refine a6X rfl rfl rfl (by (try dsimp only);(try simp only [hf.out]);exact rfl) ?_)
   | (refine a1D rfl rfl rfl (by first|(simp only [hf.out];done)|fail) sdI ?_;refine b0q rfl rfl rfl (by (try dsimp only);(try simp only [hf.out]);exact rfl) ?_)|(refine a1D rfl rfl rfl (by first|(simp only [hf.out];done)|fail) sdI ?_;refine a6X rfl rfl rfl (by (try dsimp only);(try simp only [hf.out]);exact rfl) ?_)
   | (refine a0w rfl rfl ?_;refine a9d rfl rfl rfl (by (try dsimp only);(try simp only [hf.out]);exact rfl) ?_)|(refine a2y rfl rfl rfl (by first|(simp only [hf.out];done)|fail) sdI ?_;refine a9d rfl rfl rfl (by (try dsimp only);(try simp only [hf.out]);exact rfl) ?_))
  try (refine a6c ?_;repeat (first|(refine a0r rfl rfl ?_;refine a2u (fun _ _=>rfl) ?_)|(refine a0w rfl rfl ?_;refine a2t (fun _ _=>rfl) ?_)))
  first|refine a4I (And.intro sdI ?_)|(refine a0r rfl rfl ?_;refine a4Z (fun _ _=>rfl) sdI ?_)|(refine a0w rfl rfl ?_;refine a4b (fun _ _=>rfl) sdI ?_)|skip
  refine dsI ?_
  try simp only [hf.out]
  exact hq.out):P:=e ⟨f⟩ ⟨h⟩
theorem gvI {F:Prop}(f:F){P Q:Prop}(h:Q)(e:a5D F→a5D Q→P:=by
  intro hf hq
  repeat (first
   | (refine a3I rfl rfl rfl rfl ?_;first|refine a2t (fun _ _=>rfl) ?_|refine a9d rfl rfl rfl (by (try dsimp only);(try simp only [hf.out]);exact rfl) ?_)
   | (refine c0r rfl rfl rfl ?_;first|refine c2C (fun _ _=>rfl) ?_|refine c7f rfl rfl rfl (by (try dsimp only);(try simp only [hf.out]);exact rfl) ?_)|(refine c0q rfl rfl rfl rfl ?_;refine a2t (fun _ _=>rfl) ?_))
  try refine b6o ?_
  refine dsI ?_
  try simp only [hf.out]
  exact hq.out):P:=e ⟨f⟩ ⟨h⟩
theorem nwI {F:Prop}(f:F){P Q:Prop}(h:Q)(e:a5D F→a5D Q→P:=by
  intro hf hq
  repeat (first
   | (refine a0r rfl rfl ?_;refine a2u (fun _ _=>rfl) ?_)|(refine a0w rfl rfl ?_;refine a2t (fun _ _=>rfl) ?_))
  try (refine a6c ?_;repeat (first|(refine a0r rfl rfl ?_;refine a2u (fun _ _=>rfl) ?_)|(refine a0w rfl rfl ?_;refine a2t (fun _ _=>rfl) ?_)))
  first|refine a4I (And.intro (by ((refine dsI ?_);(try simp only [hf.out]);all_goals exact sdI)) ?_)|(refine a0r rfl rfl ?_;refine a4Z (fun _ _=>rfl) (by ((refine dsI ?_);(try simp only [hf.out]);all_goals exact sdI)) ?_)|(refine a0w rfl rfl ?_;refine a4b (fun _ _=>rfl) (by ((refine dsI ?_);(try simp only [hf.out]);all_goals exact sdI)) ?_)|skip
  refine dsI ?_
  try simp only [hf.out]
  exact hq.out):P:=e ⟨f⟩ ⟨h⟩
theorem mwI {F:Prop}(f:F){A P Q:Prop}(h:Q)(a:a5D F→A:=by intro hf;(refine dsI ?_);(try simp only [hf.out]);all_goals exact sdI)(e:a5D F→a5D Q→P:=by intro hf hq;refine dsI ?_;(try simp only [hf.out]);exact hq.out):A∧P:=⟨a ⟨f⟩,e ⟨f⟩ ⟨h⟩⟩
theorem gcI {F:Prop}(f:F){P Q:Prop}(h:Q)(e:a5D F→a5D Q→P:=by
  intro hf hq
  first|(refine a1D rfl rfl rfl (by first|(simp only [hf.out];done)|fail) sdI ?_;refine a4Z (fun _ _=>rfl) trivial ?_)|(refine a2y rfl rfl rfl (by first|(simp only [hf.out];done)|fail) sdI ?_;refine a4b (fun _ _=>rfl) trivial ?_)
  refine dsI ?_;exact hq.out):P:=e ⟨f⟩ ⟨h⟩
theorem ixI {F:Prop}(f:F){A:Prop}(a:A){P Q:Prop}(h:Q)(e:a5D F→A→a5D Q→P:=by
  intro hf hx hq
  first|refine a0r rfl rfl ?_|refine a1D rfl rfl rfl (by first|(simp only [hf.out];done)|fail) sdI ?_|refine a0w rfl rfl ?_|refine a2y rfl rfl rfl (by first|(simp only [hf.out];done)|fail) sdI ?_
  first|refine c0p (fun _ _=>rfl) sdI ⟨rfl,by omega⟩ hx ?_|refine b0p (fun _ _=>rfl) sdI ⟨rfl,by omega⟩ hx ?_
  try dsimp only [D.cells]
  exact hq.out):P:=e ⟨f⟩ a ⟨h⟩
theorem ifI {P Q:Prop}(h:Q)(e:a5D Q→P:=by intro hq;refine OkS.cond ?_;refine dsI ?_;exact hq.out):P:=e ⟨h⟩
theorem skI {P Q:Prop}(h:Q)(e:a5D Q→P:=by intro hq;refine OkS.skip ?_;refine dsI ?_;exact hq.out):P:=e ⟨h⟩
theorem exI {P Q:Prop}(h:Q)(e:a5D Q→P:=by intro hq;refine OkS.exit ?_;refine dsI ?_;exact hq.out):P:=e ⟨h⟩
theorem rtI {P Q:Prop}(h:Q)(e:a5D Q→P:=by intro hq;refine OkS.ret ?_;refine And.intro sdI ?_;refine dsI ?_;exact hq.out):P:=e ⟨h⟩
theorem rI (kb:Nat){P Q:Prop}(h:Q)(e:KB kb→a5D Q→P:=by intro hk hq;refine OkS.regK w1 hk (by kernel_rfl) ?_;refine stI ?_;exact hq.out):P:=e (.mk kb) ⟨h⟩
theorem fI (kb:Nat){P Q:Prop}(h:Q)(e:KB kb→a5D Q→P:=by intro hk hq;refine OkS.regK w1 hk (by kernel_rfl) ?_;refine nxI ?_;exact hq.out):P:=e (.mk kb) ⟨h⟩
theorem sR (kb:Nat){P Q:Prop}(h:Q)(e:KB kb→a5D Q→P:=by intro hk hq;refine OkS.seq ?_;refine OkS.regK w1 hk (by kernel_rfl) ?_;refine stI ?_;exact hq.out):P:=e (.mk kb) ⟨h⟩
theorem fR (kb:Nat){P Q:Prop}(h:Q)(e:KB kb→a5D Q→P:=by intro hk hq;refine OkS.seq ?_;refine OkS.regK w1 hk (by kernel_rfl) ?_;refine nxI ?_;exact hq.out):P:=e (.mk kb) ⟨h⟩
theorem sZ (kb:Nat){P Q:Prop}(h:Q)(e:KB kb→a5D Q→P:=by intro hk hq;refine OkS.seq ?_;refine OkS.regK w1 hk (by kernel_rfl) ?_;exact hq.out):P:=e (.mk kb) ⟨h⟩
theorem cI {C:Ctx}{f:Nat}{ds:List D}{d:D}{H:Hp}{n:Nat}{k:D→Hp→Nat→Prop}(c:a0b C f ds d){Q:Prop}(h:Q)(p:ArePure ds:=by exact inferInstance)(e:a5D Q→k d H (n+1):=by intro hq;refine stI ?_;exact hq.out):a0l C f ds H n k:=a0l.same d c p (e ⟨h⟩)
theorem dI {C:Ctx}{f:Nat}{ds:List D}{d:D}{H:Hp}{n:Nat}{k:D→Hp→Nat→Prop}(c:a0b C f ds d){Q:Prop}(h:Q)(p:ArePure ds:=by exact inferInstance)(e:a5D Q→k d H (n+1):=by intro hq;refine nxI ?_;exact hq.out):a0l C f ds H n k:=a0l.same d c p (e ⟨h⟩)
open Go.ChangeShapes Go.WideShapes
structure a9i (W:World)(cs:List Value)(ds:List D):Prop where
 len:cs.length=ds.length
 cell:∀ (i:Nat) (c:Value) (d:D),cs[i]? = some c→ds[i]? = some d→one c=true∧Rep nol (fun _=>False) W d c
theorem a9i.one {W:World}{c:Value}{d:D}(ho:one c=true)(h:Rep nol (fun _=>False) W d c):a9i W [c] [d]:=⟨rfl,fun i x y hx hy=>by
 match i with
 | 0=>cases hx;cases hy;exact ⟨ho,h⟩
 | i+1=>simp at hx⟩
theorem a9i.append {W:World}{a b:List Value}{x y:List D}(h:a9i W a x)(k:a9i W b y):a9i W (a++b) (x++y):=⟨by rw [List.length_append,List.length_append,h.len,k.len],fun i c d hc hd=>by
 by_cases hi:i<a.length
 ·rw [List.getElem?_append_left hi] at hc
  rw [List.getElem?_append_left (by rw [← h.len];exact hi)] at hd;exact h.cell i c d hc hd
 ·rw [List.getElem?_append_right (by omega)] at hc
  rw [List.getElem?_append_right (by rw [← h.len];omega),← h.len] at hd;exact k.cell _ c d hc hd⟩
theorem b8u {α:Type}{p:Nat→α→Prop}:∀ {n:Nat},(∀ i,i<n→∃ x,p i x)→∃ l:List α,l.length=n∧∀ (i:Nat) (x:α),l[i]? = some x→p i x
 | 0,_=>⟨[],rfl,fun i x h=>by simp at h⟩
 | n+1,h=>by
  obtain ⟨l,h1,h2⟩:=b8u (n:=n) fun i hi=>h i (by omega)
  obtain ⟨x,hx⟩:=h n (by omega);refine ⟨l++[x],by simp [h1],fun i y hy=>?_⟩
  by_cases hi:i<l.length
  ·rw [List.getElem?_append_left hi] at hy;exact h2 i y hy
  ·rw [List.getElem?_append_right (by omega)] at hy
   have:i - l.length=0:=by
    have:=(List.getElem?_eq_some_iff.1 hy).1
    simp at this;omega
   rw [this] at hy;simp at hy;rw [show i=n by omega,← hy];exact hx
theorem c2J {b off k:Nat}:(Addr.mk b off none).add k=⟨b,off+k,none⟩:=by
 unfold Addr.add
 by_cases h:k=0
 ·subst h;rfl
 ·rw [if_neg h]
theorem b9T {W:World}{a:Addr}{v:Value}(h:W.cell? a=some v):∃ b off,a=⟨b,off,none⟩∧b<W.heap.size:=by
 obtain ⟨b,off,sp⟩:=a;unfold World.cell? at h;split at h
 ·rename_i c t f hb
  split at h
  ·cases h
  ·rename_i hs
   simp at hs;subst hs;exact ⟨b,off,rfl,(Array.getElem?_eq_some_iff.1 hb).1⟩
 ·cases h
section
variable {H:Type} {enc:TypeId × Value→H} {P:Program} {W:World} {fuel:Nat} {cs:List Value} {x:DataW H × List MemPlace} {t:TypeId}
theorem d1W {k:IntKind}(ht:P.underlying t=some (.int k))(h:DataW.trod enc P W 0 (fun _=>true) true fuel t cs=some x):∃ z:Int,cs=[.int k z]∧(Lit.int k z).wf=true∧a9i W cs [.prim (.int k z)]:=by
 obtain ⟨n,rfl,_,hw⟩:=DataW.trod_int ht h;exact ⟨n,rfl,hw,.one rfl (.prim _)⟩
theorem d1X (ht:P.underlying t=some .string)(h:DataW.trod enc P W 0 (fun _=>true) true fuel t cs=some x):∃ l:List UInt8,a9i W cs [.prim (.string ⟨l.toArray⟩)]∧l.length≤maxLen:=by
 obtain ⟨s,rfl,_,hw⟩:=DataW.trod_string ht h;refine ⟨s.data.toList,.one rfl ?_,?_⟩
 rotate_left
 ·rw [Array.length_toList];exact hw
 rw [show (⟨s.data.toList.toArray⟩:ByteArray)=s by cases s;simp];exact .prim _
theorem d4A {α:Type}{g:α→D}{ok:α→Prop}{e:TypeId}{sz:Nat}(ht:P.underlying t=some (.slice e))(hc:P.cellsOf e=sz)(h0:0<sz)
  (he:∀ n cs x,DataW.trod enc P W 0 (fun _=>true) true n e cs=some x→∃ a,a9i W cs (g a).cells∧ok a)
  (h:DataW.trod enc P W 0 (fun _=>true) true fuel t cs=some x):∃ l:List α,a9i W cs [.sl false sz (l.map g)]∧(∀ a∈l,ok a)∧l.length≤maxLen:=by
 rcases DataW.trod_slice ht h with ⟨rfl,_⟩|⟨a,len,cap,elems,rest,n,_,rfl,_,_,hl,hm,hlen,hel,hsp,_⟩
 ·exact ⟨[],.one rfl (.nil _),fun _ h=>absurd h List.not_mem_nil,Nat.zero_le _⟩
 rw [hc] at hel hsp;have hE:∀ i,i<len→∃ ci y,W.cells? 0 (a.add (i*sz)) sz=some ci∧DataW.trod enc P W 0 (fun _=>true) true n e ci=some y:=fun i hi=>by
  have h1:=hel i hi;rw [List.getElem?_eq_getElem (by omega)] at h1;obtain ⟨ci,h2,h3⟩:=Option.bind_eq_some_iff.1 h1;exact ⟨ci,_,h2,h3⟩
 have hA:(len=0∧cap=0)∨∃ v,W.cell? a=some v:=by
  by_cases hz:len=0
  ·by_cases hcz:cap=0
   ·exact .inl ⟨hz,hcz⟩
   obtain ⟨h1,h2⟩:=hsp rfl;have h3:=h2 0 (by omega);rw [List.getElem?_eq_getElem (by omega)] at h3;obtain ⟨ci,h4,_⟩:=Option.bind_eq_some_iff.1 h3;obtain ⟨_,h5,h6⟩:=World.cells?_some h4;have h7:=h6 0 h0;rw [show len+0=0 by omega,Nat.zero_mul] at h7;rw [show (a.add 0).add 0=a from rfl,List.getElem?_eq_getElem (by omega)] at h7;exact .inr ⟨_,h7⟩
  ·obtain ⟨ci,_,h4,_⟩:=hE 0 (by omega)
   obtain ⟨_,h5,h6⟩:=World.cells?_some h4;have h7:=h6 0 h0;rw [Nat.zero_mul] at h7;rw [show (a.add 0).add 0=a from rfl,List.getElem?_eq_getElem (by omega)] at h7;exact .inr ⟨_,h7⟩
 rcases hA with ⟨rfl,rfl⟩|⟨v,hv⟩
 ·exact ⟨[],.one rfl (.emp a),fun _ h=>absurd h List.not_mem_nil,Nat.zero_le _⟩
 obtain ⟨b,off,rfl,hb⟩:=b9T hv;obtain ⟨l,hll,hl2⟩:=b8u (p:=fun i x=>∃ ci,W.cells? 0 ((Addr.mk b off none).add (i*sz)) sz=some ci∧a9i W ci (g x).cells∧ok x) fun i hi=>by
  obtain ⟨ci,y,h1,h2⟩:=hE i hi;obtain ⟨x,h3,h4⟩:=he n ci y h2;exact ⟨x,ci,h1,h3,h4⟩
 have hcell:∀ i x,l[i]? = some x→(g x).cells.length=sz∧∀ j,j<sz→∃ c d,W.cell? ⟨b,off+(i*sz+j),none⟩=some c∧(g x).cells[j]? = some d∧Ide.one c=true∧Rep nol (fun _=>False) W d c:=fun i x hx=>by
  obtain ⟨ci,h1,h2,_⟩:=hl2 i x hx;obtain ⟨_,h3,h4⟩:=World.cells?_some h1;refine ⟨by rw [← h2.len,h3],fun j hj=>?_⟩;have h5:=h4 j hj;rw [c2J,c2J,List.getElem?_eq_getElem (by omega),Nat.add_assoc] at h5;have h6:(g x).cells[j]? = some ((g x).cells[j]'(by rw [← h2.len,h3];exact hj)):=List.getElem?_eq_getElem _
  have:=h2.cell j _ _ (List.getElem?_eq_getElem (by omega)) h6
  exact ⟨_,_,h5,h6,this.1,this.2⟩
 have hsplit:∀ k,k<len*sz→∃ i j x,k=i*sz+j∧i<len∧j<sz∧l[i]? = some x:=fun k hk=>by
  have h1:k / sz<len:=(Nat.div_lt_iff_lt_mul h0).2 hk;exact ⟨k / sz,k%sz,_,by rw [Nat.mul_comm];exact (Nat.div_add_mod k sz).symm,h1,Nat.mod_lt _ h0,List.getElem?_eq_getElem (by omega)⟩
 refine ⟨l,.one rfl (.sl (fun k=>(W.cell? ⟨b,off+k,none⟩).getD undef) (by rw [List.length_map,hll]) hl (fun h=>h) hb ?_ ?_ ?_ ?_),fun x hx=>?_,by omega⟩
 ·intro i d hd
  rw [List.getElem?_map] at hd;obtain ⟨x,hx,rfl⟩:=Option.map_eq_some_iff.1 hd;exact (hcell i x hx).1
 ·intro k hk
  obtain ⟨i,j,x,rfl,hi,hj,hx⟩:=hsplit k hk;obtain ⟨c,d,h1,_⟩:=(hcell i x hx).2 j hj;rw [h1];rfl
 ·intro k hk
  obtain ⟨i,j,x,rfl,hi,hj,hx⟩:=hsplit k hk;obtain ⟨c,d,h1,_,h3,_⟩:=(hcell i x hx).2 j hj;rw [h1];exact h3
 ·intro i e' j d hd hj
  rw [List.getElem?_map] at hd;obtain ⟨x,hx,rfl⟩:=Option.map_eq_some_iff.1 hd;have hjl:j<sz:=by
   have:=(List.getElem?_eq_some_iff.1 hj).1
   rw [(hcell i x hx).1] at this;exact this
  obtain ⟨c,d',h1,h2,_,h4⟩:=(hcell i x hx).2 j hjl;rw [h1];rw [h2] at hj;cases hj;exact h4
 ·obtain ⟨i,hi⟩:=List.getElem?_of_mem hx
  obtain ⟨_,_,_,h⟩:=hl2 i x hi;exact h
theorem b9n {fs:Array Field}(ht:P.underlying t=some (.struct fs))(h:DataW.trod enc P W 0 (fun _=>true) true fuel t cs=some x) :
  cs.length=P.cellsOf t∧∃ n,∀ (i:Nat) (f:Field),fs[i]? = some f→∃ y,DataW.trod enc P W 0 (fun _=>true) true n f.type ((cs.drop f.offset).take (P.cellsOf f.type))=some y:=by
 obtain ⟨xs,n,rfl,_,h1,h2,h3⟩:=DataW.trod_struct ht h;refine ⟨h1,n,fun i f hf=>?_⟩
 have:=(Array.getElem?_eq_some_iff.1 hf).1
 exact ⟨xs[i]'(by omega),by rw [h3 i f hf];exact List.getElem?_eq_getElem _⟩
end
section
variable {C:Ctx} {X:EV} {B:Fra} {rd:Option Nat} {F:Fra} {ops:Array Oper} {s:St} {Q:Exit→Fra→St→Prop} {i:Nat}
theorem OkS.regA (hX:WOk C X)(hnd:a3T ops.toList=true)(h:a2b C X (100*i) ops (List.range ops.size) s True fun acc s=>acc∧Q .normal F s):OkS C B rd F (.region i ops false) s Q:=OkS.reg hX (100*i) hnd h
abbrev Dr:=List (Nat × List Nat × List Nat)
abbrev dr0:Dr:=[]
noncomputable def drL (L:Dr)(i:Nat):List Nat × List Nat:=List.rec ([],[]) (fun a _ r=>cond (Nat.beq a.1 i) a.2 r) L
theorem OkS.perm {c:Code}{H':Hp}(hp:s.H.Perm H')(h:OkS C B rd F c ⟨s.env,H',s.n⟩ Q):OkS C B rd F c s Q :=
 ⟨fun hB hd ρ a w hs=>h.out hB hd ρ a w ⟨hs.mem.perm hp,hs.fresh,fun e he=>hs.gen e (hp.mem_iff.2 he),fun t=>by
  show Rep ρ (Own F.X ρ H') w _ _;rw [← Own.perm hp];exact hs.env t,hs.nt,hs.dfr⟩⟩
inductive KD:Dr→Prop
 | mk (L:Dr):KD L
theorem OkS.regDA {L:Dr}(hX:WOk C X)(_:KD L)(hc:(b4g ops (drL L i).1 (drL L i).2&&a3T ops.toList)=true)
  (h:a3r C X (100*i) ops s.H s.n (drL L i).1 s.env [] True fun acc env N=>a2b C X (100*i) ops (drL L i).2 ⟨env,N++s.H,s.n+b1q ops.toList⟩ acc fun acc s=>acc∧Q .normal F s):OkS C B rd F (.region i ops true) s Q:=OkS.regD hX (100*i) _ _ hc h
theorem idS {c:Code}(h:OkS C B rd F c s Q):OkS C B rd F c s Q:=h
theorem d4c {kb:Nat}{l:List Nat}{acc:Prop}{K:Prop→St→Prop}(h:a2b C X kb ops l s acc K):a2b C X kb ops l s acc K:=h
theorem d4b {kb n:Nat}{l:List Nat}{H N:Hp}{env:Env}{acc:Prop}{K:Prop→Env→Hp→Prop}(h:a3r C X kb ops H n l env N acc K):a3r C X kb ops H n l env N acc K:=h
theorem d5H {f n:Nat}{ds:List D}{H:Hp}{k:D→Hp→Nat→Prop}(h:a0l C f ds H n k):a0l C f ds H n k:=h
theorem d5I {f:Nat}{ds:List D}{k:D→Prop}(h:a0n C f ds k):a0n C f ds k:=h
theorem d5x {y n:Prop}(h:y):brB true y n:=h
theorem d5w {y n:Prop}(h:n):brB false y n:=h
end
theorem goI {F A1 A2 A3 A4 A5 A6:Prop}(dr:Dr)(f:F)(c1:A1)(c2:A2)(c3:A3)(c4:A4)(c5:A5)(c6:A6){P Q:Prop}(h:Q)(e:KD dr→a5D F→A1→A2→A3→A4→A5→A6→a5D Q→P:=by
  intro hd hf c1 c2 c3 c4 c5 c6 hq
  repeat (first
   | ((with_reducible refine idS ?_);first|refine OkS.seq ?_|refine OkS.regA w1 (by kernel_rfl) ?_|refine OkS.regDA w1 hd (by kernel_rfl) ?_|refine OkS.block ?_|(refine OkS.skip ?_;refine dsI ?_;try simp only [hf.out,kT,kF])|(refine OkS.exit ?_;refine dsI ?_;try simp only [hf.out,kT,kF])|(refine OkS.cond ?_;refine dsI ?_;try simp only [hf.out,kT,kF,a6k,b0w])|(refine OkS.ret ?_;refine And.intro (by first|((repeat' (first|exact trivial|exact rfl|exact Or.inl rfl|exact Or.inr rfl|exact a0Q.agg|exact a0Q.one' rfl|exact Nat.le_of_ble_eq_true rfl|refine And.intro ?_ ?_|(intro hq;first|exact rfl|exact trivial|(exact absurd hq (by decide)))|exact Nat.le_refl _|omega|decide|(dsimp only [List.length_cons,List.length_nil];omega)));done)|((refine dsI ?_);(try simp only [hf.out,kT,kF]);(try (repeat' (first|exact trivial|exact rfl|exact Or.inl rfl|exact Or.inr rfl|exact a0Q.agg|exact a0Q.one' rfl|exact Nat.le_of_ble_eq_true rfl|refine And.intro ?_ ?_|(intro hq;first|exact rfl|exact trivial|(exact absurd hq (by decide)))|exact Nat.le_refl _|omega|decide|(dsimp only [List.length_cons,List.length_nil];omega))));done)|fail) ?_;refine dsI ?_;try simp only [hf.out,kT,kF]))
   | ((with_reducible refine d4c ?_);first|(refine a0r rfl rfl ?_;refine a2u (fun _ _=>rfl) ?_)|(refine a1D rfl rfl rfl (by first|(simp only [hf.out,kT,kF];done)|fail) (by first|((repeat' (first|exact trivial|exact rfl|exact Or.inl rfl|exact Or.inr rfl|exact a0Q.agg|exact a0Q.one' rfl|exact Nat.le_of_ble_eq_true rfl|refine And.intro ?_ ?_|(intro hq;first|exact rfl|exact trivial|(exact absurd hq (by decide)))|exact Nat.le_refl _|omega|decide|(dsimp only [List.length_cons,List.length_nil];omega)));done)|((refine dsI ?_);(try simp only [hf.out,kT,kF]);(try (repeat' (first|exact trivial|exact rfl|exact Or.inl rfl|exact Or.inr rfl|exact a0Q.agg|exact a0Q.one' rfl|exact Nat.le_of_ble_eq_true rfl|refine And.intro ?_ ?_|(intro hq;first|exact rfl|exact trivial|(exact absurd hq (by decide)))|exact Nat.le_refl _|omega|decide|(dsimp only [List.length_cons,List.length_nil];omega))));done)|fail) ?_;refine a2u (fun _ _=>rfl) ?_)|refine a9g rfl rfl rfl (by first|(simp only [hf.out,kT,kF];done)|fail) (by first|((repeat' (first|exact trivial|exact rfl|exact Or.inl rfl|exact Or.inr rfl|exact a0Q.agg|exact a0Q.one' rfl|exact Nat.le_of_ble_eq_true rfl|refine And.intro ?_ ?_|(intro hq;first|exact rfl|exact trivial|(exact absurd hq (by decide)))|exact Nat.le_refl _|omega|decide|(dsimp only [List.length_cons,List.length_nil];omega)));done)|((refine dsI ?_);(try simp only [hf.out,kT,kF]);(try (repeat' (first|exact trivial|exact rfl|exact Or.inl rfl|exact Or.inr rfl|exact a0Q.agg|exact a0Q.one' rfl|exact Nat.le_of_ble_eq_true rfl|refine And.intro ?_ ?_|(intro hq;first|exact rfl|exact trivial|(exact absurd hq (by decide)))|exact Nat.le_refl _|omega|decide|(dsimp only [List.length_cons,List.length_nil];omega))));done)|fail) ?_|(refine a0r rfl rfl ?_;refine a4Z (fun _ _=>rfl) (by first|((repeat' (first|exact trivial|exact rfl|exact Or.inl rfl|exact Or.inr rfl|exact a0Q.agg|exact a0Q.one' rfl|exact Nat.le_of_ble_eq_true rfl|refine And.intro ?_ ?_|(intro hq;first|exact rfl|exact trivial|(exact absurd hq (by decide)))|exact Nat.le_refl _|omega|decide|(dsimp only [List.length_cons,List.length_nil];omega)));done)|((refine dsI ?_);(try simp only [hf.out,kT,kF]);(try (repeat' (first|exact trivial|exact rfl|exact Or.inl rfl|exact Or.inr rfl|exact a0Q.agg|exact a0Q.one' rfl|exact Nat.le_of_ble_eq_true rfl|refine And.intro ?_ ?_|(intro hq;first|exact rfl|exact trivial|(exact absurd hq (by decide)))|exact Nat.le_refl _|omega|decide|(dsimp only [List.length_cons,List.length_nil];omega))));done)|fail) ?_;refine dsI ?_;try simp only [hf.out,kT,kF])|(refine a0r rfl rfl ?_;refine c0p (fun _ _=>rfl) (by first|((repeat' (first|exact trivial|exact rfl|exact Or.inl rfl|exact Or.inr rfl|exact a0Q.agg|exact a0Q.one' rfl|exact Nat.le_of_ble_eq_true rfl|refine And.intro ?_ ?_|(intro hq;first|exact rfl|exact trivial|(exact absurd hq (by decide)))|exact Nat.le_refl _|omega|decide|(dsimp only [List.length_cons,List.length_nil];omega)));done)|((refine dsI ?_);(try simp only [hf.out,kT,kF]);(try (repeat' (first|exact trivial|exact rfl|exact Or.inl rfl|exact Or.inr rfl|exact a0Q.agg|exact a0Q.one' rfl|exact Nat.le_of_ble_eq_true rfl|refine And.intro ?_ ?_|(intro hq;first|exact rfl|exact trivial|(exact absurd hq (by decide)))|exact Nat.le_refl _|omega|decide|(dsimp only [List.length_cons,List.length_nil];omega))));done)|fail) ⟨rfl,by omega⟩ (by first|exact c1|exact c2|exact c3|exact c4|exact c5|exact c6|fail) ?_;try dsimp only [D.cells])|(refine a0r rfl rfl ?_;refine b0q rfl rfl rfl (by (try dsimp only);(try simp only [hf.out,kT,kF]);exact rfl) ?_)|(refine a0r rfl rfl ?_;refine a6X rfl rfl rfl (by (try dsimp only);(try simp only [hf.out,kT,kF]);exact rfl) ?_)|(refine a1D rfl rfl rfl (by first|(simp only [hf.out,kT,kF];done)|fail) (by first|((repeat' (first|exact trivial|exact rfl|exact Or.inl rfl|exact Or.inr rfl|exact a0Q.agg|exact a0Q.one' rfl|exact Nat.le_of_ble_eq_true rfl|refine And.intro ?_ ?_|(intro hq;first|exact rfl|exact trivial|(exact absurd hq (by decide)))|exact Nat.le_refl _|omega|decide|(dsimp only [List.length_cons,List.length_nil];omega)));done)|((refine dsI ?_);(try simp only [hf.out,kT,kF]);(try (repeat' (first|exact trivial|exact rfl|exact Or.inl rfl|exact Or.inr rfl|exact a0Q.agg|exact a0Q.one' rfl|exact Nat.le_of_ble_eq_true rfl|refine And.intro ?_ ?_|(intro hq;first|exact rfl|exact trivial|(exact absurd hq (by decide)))|exact Nat.le_refl _|omega|decide|(dsimp only [List.length_cons,List.length_nil];omega))));done)|fail) ?_;refine a4Z (fun _ _=>rfl) (by first|((repeat' (first|exact trivial|exact rfl|exact Or.inl rfl|exact Or.inr rfl|exact a0Q.agg|exact a0Q.one' rfl|exact Nat.le_of_ble_eq_true rfl|refine And.intro ?_ ?_|(intro hq;first|exact rfl|exact trivial|(exact absurd hq (by decide)))|exact Nat.le_refl _|omega|decide|(dsimp only [List.length_cons,List.length_nil];omega)));done)|((refine dsI ?_);(try simp only [hf.out,kT,kF]);(try (repeat' (first|exact trivial|exact rfl|exact Or.inl rfl|exact Or.inr rfl|exact a0Q.agg|exact a0Q.one' rfl|exact Nat.le_of_ble_eq_true rfl|refine And.intro ?_ ?_|(intro hq;first|exact rfl|exact trivial|(exact absurd hq (by decide)))|exact Nat.le_refl _|omega|decide|(dsimp only [List.length_cons,List.length_nil];omega))));done)|fail) ?_;refine dsI ?_;try simp only [hf.out,kT,kF])|(refine a1D rfl rfl rfl (by first|(simp only [hf.out,kT,kF];done)|fail) (by first|((repeat' (first|exact trivial|exact rfl|exact Or.inl rfl|exact Or.inr rfl|exact a0Q.agg|exact a0Q.one' rfl|exact Nat.le_of_ble_eq_true rfl|refine And.intro ?_ ?_|(intro hq;first|exact rfl|exact trivial|(exact absurd hq (by decide)))|exact Nat.le_refl _|omega|decide|(dsimp only [List.length_cons,List.length_nil];omega)));done)|((refine dsI ?_);(try simp only [hf.out,kT,kF]);(try (repeat' (first|exact trivial|exact rfl|exact Or.inl rfl|exact Or.inr rfl|exact a0Q.agg|exact a0Q.one' rfl|exact Nat.le_of_ble_eq_true rfl|refine And.intro ?_ ?_|(intro hq;first|exact rfl|exact trivial|(exact absurd hq (by decide)))|exact Nat.le_refl _|omega|decide|(dsimp only [List.length_cons,List.length_nil];omega))));done)|fail) ?_;refine c0p (fun _ _=>rfl) (by first|((repeat' (first|exact trivial|exact rfl|exact Or.inl rfl|exact Or.inr rfl|exact a0Q.agg|exact a0Q.one' rfl|exact Nat.le_of_ble_eq_true rfl|refine And.intro ?_ ?_|(intro hq;first|exact rfl|exact trivial|(exact absurd hq (by decide)))|exact Nat.le_refl _|omega|decide|(dsimp only [List.length_cons,List.length_nil];omega)));done)|((refine dsI ?_);(try simp only [hf.out,kT,kF]);(try (repeat' (first|exact trivial|exact rfl|exact Or.inl rfl|exact Or.inr rfl|exact a0Q.agg|exact a0Q.one' rfl|exact Nat.le_of_ble_eq_true rfl|refine And.intro ?_ ?_|(intro hq;first|exact rfl|exact trivial|(exact absurd hq (by decide)))|exact Nat.le_refl _|omega|decide|(dsimp only [List.length_cons,List.length_nil];omega))));done)|fail) ⟨rfl,by omega⟩ (by first|exact c1|exact c2|exact c3|exact c4|exact c5|exact c6|fail) ?_;try dsimp only [D.cells])|(refine a1D rfl rfl rfl (by first|(simp only [hf.out,kT,kF];done)|fail) (by first|((repeat' (first|exact trivial|exact rfl|exact Or.inl rfl|exact Or.inr rfl|exact a0Q.agg|exact a0Q.one' rfl|exact Nat.le_of_ble_eq_true rfl|refine And.intro ?_ ?_|(intro hq;first|exact rfl|exact trivial|(exact absurd hq (by decide)))|exact Nat.le_refl _|omega|decide|(dsimp only [List.length_cons,List.length_nil];omega)));done)|((refine dsI ?_);(try simp only [hf.out,kT,kF]);(try (repeat' (first|exact trivial|exact rfl|exact Or.inl rfl|exact Or.inr rfl|exact a0Q.agg|exact a0Q.one' rfl|exact Nat.le_of_ble_eq_true rfl|refine And.intro ?_ ?_|(intro hq;first|exact rfl|exact trivial|(exact absurd hq (by decide)))|exact Nat.le_refl _|omega|decide|(dsimp only [List.length_cons,List.length_nil];omega))));done)|fail) ?_;refine b0q rfl rfl rfl (by (try dsimp only);(try simp only [hf.out,kT,kF]);exact rfl) ?_)|(refine a1D rfl rfl rfl (by first|(simp only [hf.out,kT,kF];done)|fail) (by first|((repeat' (first|exact trivial|exact rfl|exact Or.inl rfl|exact Or.inr rfl|exact a0Q.agg|exact a0Q.one' rfl|exact Nat.le_of_ble_eq_true rfl|refine And.intro ?_ ?_|(intro hq;first|exact rfl|exact trivial|(exact absurd hq (by decide)))|exact Nat.le_refl _|omega|decide|(dsimp only [List.length_cons,List.length_nil];omega)));done)|((refine dsI ?_);(try simp only [hf.out,kT,kF]);(try (repeat' (first|exact trivial|exact rfl|exact Or.inl rfl|exact Or.inr rfl|exact a0Q.agg|exact a0Q.one' rfl|exact Nat.le_of_ble_eq_true rfl|refine And.intro ?_ ?_|(intro hq;first|exact rfl|exact trivial|(exact absurd hq (by decide)))|exact Nat.le_refl _|omega|decide|(dsimp only [List.length_cons,List.length_nil];omega))));done)|fail) ?_;refine a6X rfl rfl rfl (by (try dsimp only);(try simp only [hf.out,kT,kF]);exact rfl) ?_)|(refine a4I (And.intro (by first|((repeat' (first|exact trivial|exact rfl|exact Or.inl rfl|exact Or.inr rfl|exact a0Q.agg|exact a0Q.one' rfl|exact Nat.le_of_ble_eq_true rfl|refine And.intro ?_ ?_|(intro hq;first|exact rfl|exact trivial|(exact absurd hq (by decide)))|exact Nat.le_refl _|omega|decide|(dsimp only [List.length_cons,List.length_nil];omega)));done)|((refine dsI ?_);(try simp only [hf.out,kT,kF]);(try (repeat' (first|exact trivial|exact rfl|exact Or.inl rfl|exact Or.inr rfl|exact a0Q.agg|exact a0Q.one' rfl|exact Nat.le_of_ble_eq_true rfl|refine And.intro ?_ ?_|(intro hq;first|exact rfl|exact trivial|(exact absurd hq (by decide)))|exact Nat.le_refl _|omega|decide|(dsimp only [List.length_cons,List.length_nil];omega))));done)|fail) ?_);refine dsI ?_;try simp only [hf.out,kT,kF])|(dsimp only [smI,smF,b1q,a1N,a4f,a1g,Env.get,a6J,b6g,a5d,b2K,b0B,b0Z,a0I,D.cells,ofV,Hp.get,Hp.set,Hp.del,a7f,a1h,asB,cond,a9r,b5I,b0o,a7d,b6l,a3h,List.map,List.length,List.append,List.nil_append,List.cons_append,List.append_nil,List.size_toArray,List.length_cons,List.length_nil,Value.cells,List.toList_toArray,Array.toList,Nat.reduceAdd,Nat.reduceMul,Nat.beq,Nat.reduceSub,a3h,b8p,b1q,Bool.false_and,Bool.true_and,Bool.true_or,Bool.false_or,Bool.not_true,Bool.not_false])|(simp only [hf.out,kT,kF]))
   | ((with_reducible refine d4b ?_);first|(refine a0w rfl rfl ?_;refine a2t (fun _ _=>rfl) ?_)|(refine a2y rfl rfl rfl (by first|(simp only [hf.out,kT,kF];done)|fail) (by first|((repeat' (first|exact trivial|exact rfl|exact Or.inl rfl|exact Or.inr rfl|exact a0Q.agg|exact a0Q.one' rfl|exact Nat.le_of_ble_eq_true rfl|refine And.intro ?_ ?_|(intro hq;first|exact rfl|exact trivial|(exact absurd hq (by decide)))|exact Nat.le_refl _|omega|decide|(dsimp only [List.length_cons,List.length_nil];omega)));done)|((refine dsI ?_);(try simp only [hf.out,kT,kF]);(try (repeat' (first|exact trivial|exact rfl|exact Or.inl rfl|exact Or.inr rfl|exact a0Q.agg|exact a0Q.one' rfl|exact Nat.le_of_ble_eq_true rfl|refine And.intro ?_ ?_|(intro hq;first|exact rfl|exact trivial|(exact absurd hq (by decide)))|exact Nat.le_refl _|omega|decide|(dsimp only [List.length_cons,List.length_nil];omega))));done)|fail) ?_;refine a2t (fun _ _=>rfl) ?_)|refine a9f rfl rfl rfl (by first|(simp only [hf.out,kT,kF];done)|fail) (by first|((repeat' (first|exact trivial|exact rfl|exact Or.inl rfl|exact Or.inr rfl|exact a0Q.agg|exact a0Q.one' rfl|exact Nat.le_of_ble_eq_true rfl|refine And.intro ?_ ?_|(intro hq;first|exact rfl|exact trivial|(exact absurd hq (by decide)))|exact Nat.le_refl _|omega|decide|(dsimp only [List.length_cons,List.length_nil];omega)));done)|((refine dsI ?_);(try simp only [hf.out,kT,kF]);(try (repeat' (first|exact trivial|exact rfl|exact Or.inl rfl|exact Or.inr rfl|exact a0Q.agg|exact a0Q.one' rfl|exact Nat.le_of_ble_eq_true rfl|refine And.intro ?_ ?_|(intro hq;first|exact rfl|exact trivial|(exact absurd hq (by decide)))|exact Nat.le_refl _|omega|decide|(dsimp only [List.length_cons,List.length_nil];omega))));done)|fail) ?_|(refine a0w rfl rfl ?_;refine a4b (fun _ _=>rfl) (by first|((repeat' (first|exact trivial|exact rfl|exact Or.inl rfl|exact Or.inr rfl|exact a0Q.agg|exact a0Q.one' rfl|exact Nat.le_of_ble_eq_true rfl|refine And.intro ?_ ?_|(intro hq;first|exact rfl|exact trivial|(exact absurd hq (by decide)))|exact Nat.le_refl _|omega|decide|(dsimp only [List.length_cons,List.length_nil];omega)));done)|((refine dsI ?_);(try simp only [hf.out,kT,kF]);(try (repeat' (first|exact trivial|exact rfl|exact Or.inl rfl|exact Or.inr rfl|exact a0Q.agg|exact a0Q.one' rfl|exact Nat.le_of_ble_eq_true rfl|refine And.intro ?_ ?_|(intro hq;first|exact rfl|exact trivial|(exact absurd hq (by decide)))|exact Nat.le_refl _|omega|decide|(dsimp only [List.length_cons,List.length_nil];omega))));done)|fail) ?_;refine dsI ?_;try simp only [hf.out,kT,kF])|(refine a0w rfl rfl ?_;refine b0p (fun _ _=>rfl) (by first|((repeat' (first|exact trivial|exact rfl|exact Or.inl rfl|exact Or.inr rfl|exact a0Q.agg|exact a0Q.one' rfl|exact Nat.le_of_ble_eq_true rfl|refine And.intro ?_ ?_|(intro hq;first|exact rfl|exact trivial|(exact absurd hq (by decide)))|exact Nat.le_refl _|omega|decide|(dsimp only [List.length_cons,List.length_nil];omega)));done)|((refine dsI ?_);(try simp only [hf.out,kT,kF]);(try (repeat' (first|exact trivial|exact rfl|exact Or.inl rfl|exact Or.inr rfl|exact a0Q.agg|exact a0Q.one' rfl|exact Nat.le_of_ble_eq_true rfl|refine And.intro ?_ ?_|(intro hq;first|exact rfl|exact trivial|(exact absurd hq (by decide)))|exact Nat.le_refl _|omega|decide|(dsimp only [List.length_cons,List.length_nil];omega))));done)|fail) ⟨rfl,by omega⟩ (by first|exact c1|exact c2|exact c3|exact c4|exact c5|exact c6|fail) ?_;try dsimp only [D.cells])|(refine a0w rfl rfl ?_;refine a9d rfl rfl rfl (by (try dsimp only);(try simp only [hf.out,kT,kF]);exact rfl) ?_)|(refine a2y rfl rfl rfl (by first|(simp only [hf.out,kT,kF];done)|fail) (by first|((repeat' (first|exact trivial|exact rfl|exact Or.inl rfl|exact Or.inr rfl|exact a0Q.agg|exact a0Q.one' rfl|exact Nat.le_of_ble_eq_true rfl|refine And.intro ?_ ?_|(intro hq;first|exact rfl|exact trivial|(exact absurd hq (by decide)))|exact Nat.le_refl _|omega|decide|(dsimp only [List.length_cons,List.length_nil];omega)));done)|((refine dsI ?_);(try simp only [hf.out,kT,kF]);(try (repeat' (first|exact trivial|exact rfl|exact Or.inl rfl|exact Or.inr rfl|exact a0Q.agg|exact a0Q.one' rfl|exact Nat.le_of_ble_eq_true rfl|refine And.intro ?_ ?_|(intro hq;first|exact rfl|exact trivial|(exact absurd hq (by decide)))|exact Nat.le_refl _|omega|decide|(dsimp only [List.length_cons,List.length_nil];omega))));done)|fail) ?_;refine a4b (fun _ _=>rfl) (by first|((repeat' (first|exact trivial|exact rfl|exact Or.inl rfl|exact Or.inr rfl|exact a0Q.agg|exact a0Q.one' rfl|exact Nat.le_of_ble_eq_true rfl|refine And.intro ?_ ?_|(intro hq;first|exact rfl|exact trivial|(exact absurd hq (by decide)))|exact Nat.le_refl _|omega|decide|(dsimp only [List.length_cons,List.length_nil];omega)));done)|((refine dsI ?_);(try simp only [hf.out,kT,kF]);(try (repeat' (first|exact trivial|exact rfl|exact Or.inl rfl|exact Or.inr rfl|exact a0Q.agg|exact a0Q.one' rfl|exact Nat.le_of_ble_eq_true rfl|refine And.intro ?_ ?_|(intro hq;first|exact rfl|exact trivial|(exact absurd hq (by decide)))|exact Nat.le_refl _|omega|decide|(dsimp only [List.length_cons,List.length_nil];omega))));done)|fail) ?_;refine dsI ?_;try simp only [hf.out,kT,kF])|(refine a2y rfl rfl rfl (by first|(simp only [hf.out,kT,kF];done)|fail) (by first|((repeat' (first|exact trivial|exact rfl|exact Or.inl rfl|exact Or.inr rfl|exact a0Q.agg|exact a0Q.one' rfl|exact Nat.le_of_ble_eq_true rfl|refine And.intro ?_ ?_|(intro hq;first|exact rfl|exact trivial|(exact absurd hq (by decide)))|exact Nat.le_refl _|omega|decide|(dsimp only [List.length_cons,List.length_nil];omega)));done)|((refine dsI ?_);(try simp only [hf.out,kT,kF]);(try (repeat' (first|exact trivial|exact rfl|exact Or.inl rfl|exact Or.inr rfl|exact a0Q.agg|exact a0Q.one' rfl|exact Nat.le_of_ble_eq_true rfl|refine And.intro ?_ ?_|(intro hq;first|exact rfl|exact trivial|(exact absurd hq (by decide)))|exact Nat.le_refl _|omega|decide|(dsimp only [List.length_cons,List.length_nil];omega))));done)|fail) ?_;refine b0p (fun _ _=>rfl) (by first|((repeat' (first|exact trivial|exact rfl|exact Or.inl rfl|exact Or.inr rfl|exact a0Q.agg|exact a0Q.one' rfl|exact Nat.le_of_ble_eq_true rfl|refine And.intro ?_ ?_|(intro hq;first|exact rfl|exact trivial|(exact absurd hq (by decide)))|exact Nat.le_refl _|omega|decide|(dsimp only [List.length_cons,List.length_nil];omega)));done)|((refine dsI ?_);(try simp only [hf.out,kT,kF]);(try (repeat' (first|exact trivial|exact rfl|exact Or.inl rfl|exact Or.inr rfl|exact a0Q.agg|exact a0Q.one' rfl|exact Nat.le_of_ble_eq_true rfl|refine And.intro ?_ ?_|(intro hq;first|exact rfl|exact trivial|(exact absurd hq (by decide)))|exact Nat.le_refl _|omega|decide|(dsimp only [List.length_cons,List.length_nil];omega))));done)|fail) ⟨rfl,by omega⟩ (by first|exact c1|exact c2|exact c3|exact c4|exact c5|exact c6|fail) ?_;try dsimp only [D.cells])|(refine a2y rfl rfl rfl (by first|(simp only [hf.out,kT,kF];done)|fail) (by first|((repeat' (first|exact trivial|exact rfl|exact Or.inl rfl|exact Or.inr rfl|exact a0Q.agg|exact a0Q.one' rfl|exact Nat.le_of_ble_eq_true rfl|refine And.intro ?_ ?_|(intro hq;first|exact rfl|exact trivial|(exact absurd hq (by decide)))|exact Nat.le_refl _|omega|decide|(dsimp only [List.length_cons,List.length_nil];omega)));done)|((refine dsI ?_);(try simp only [hf.out,kT,kF]);(try (repeat' (first|exact trivial|exact rfl|exact Or.inl rfl|exact Or.inr rfl|exact a0Q.agg|exact a0Q.one' rfl|exact Nat.le_of_ble_eq_true rfl|refine And.intro ?_ ?_|(intro hq;first|exact rfl|exact trivial|(exact absurd hq (by decide)))|exact Nat.le_refl _|omega|decide|(dsimp only [List.length_cons,List.length_nil];omega))));done)|fail) ?_;refine a9d rfl rfl rfl (by (try dsimp only);(try simp only [hf.out,kT,kF]);exact rfl) ?_)|(refine a6c ?_;refine dsI ?_;try simp only [hf.out,kT,kF])|(dsimp only [smI,smF,b1q,a1N,a4f,a1g,Env.get,a6J,b6g,a5d,b2K,b0B,b0Z,a0I,D.cells,ofV,Hp.get,Hp.set,Hp.del,a7f,a1h,asB,cond,a9r,b5I,b0o,a7d,b6l,a3h,List.map,List.length,List.append,List.nil_append,List.cons_append,List.append_nil,List.size_toArray,List.length_cons,List.length_nil,Value.cells,List.toList_toArray,Array.toList,Nat.reduceAdd,Nat.reduceMul,Nat.beq,Nat.reduceSub,a3h,b8p,b1q,Bool.false_and,Bool.true_and,Bool.true_or,Bool.false_or,Bool.not_true,Bool.not_false])|(simp only [hf.out,kT,kF]))
   | ((with_reducible refine d5H ?_);first|(refine a0l.same _ c1 inferInstance ?_;refine dsI ?_;try simp only [hf.out,kT,kF])|(refine a0l.same _ c2 inferInstance ?_;refine dsI ?_;try simp only [hf.out,kT,kF])|(refine a0l.same _ c3 inferInstance ?_;refine dsI ?_;try simp only [hf.out,kT,kF])|(refine a0l.same _ c4 inferInstance ?_;refine dsI ?_;try simp only [hf.out,kT,kF])|(refine a0l.same _ c5 inferInstance ?_;refine dsI ?_;try simp only [hf.out,kT,kF])|(refine a0l.same _ c6 inferInstance ?_;refine dsI ?_;try simp only [hf.out,kT,kF])|(refine a0l.same _ (c1 rfl) inferInstance ?_;refine dsI ?_;try simp only [hf.out,kT,kF])|(refine a0l.same _ (c2 rfl) inferInstance ?_;refine dsI ?_;try simp only [hf.out,kT,kF])|(refine a0l.same _ (c3 rfl) inferInstance ?_;refine dsI ?_;try simp only [hf.out,kT,kF])|(refine a0l.same _ (c4 rfl) inferInstance ?_;refine dsI ?_;try simp only [hf.out,kT,kF])|(refine a0l.same _ (c5 rfl) inferInstance ?_;refine dsI ?_;try simp only [hf.out,kT,kF])|(refine a0l.same _ (c6 rfl) inferInstance ?_;refine dsI ?_;try simp only [hf.out,kT,kF]))
   | ((with_reducible refine d5I ?_);first|(refine a0n.same _ c1 inferInstance ?_;refine dsI ?_;try simp only [hf.out,kT,kF])|(refine a0n.same _ c2 inferInstance ?_;refine dsI ?_;try simp only [hf.out,kT,kF])|(refine a0n.same _ c3 inferInstance ?_;refine dsI ?_;try simp only [hf.out,kT,kF])|(refine a0n.same _ c4 inferInstance ?_;refine dsI ?_;try simp only [hf.out,kT,kF])|(refine a0n.same _ c5 inferInstance ?_;refine dsI ?_;try simp only [hf.out,kT,kF])|(refine a0n.same _ c6 inferInstance ?_;refine dsI ?_;try simp only [hf.out,kT,kF])|(refine a0n.same _ (c1 rfl) inferInstance ?_;refine dsI ?_;try simp only [hf.out,kT,kF])|(refine a0n.same _ (c2 rfl) inferInstance ?_;refine dsI ?_;try simp only [hf.out,kT,kF])|(refine a0n.same _ (c3 rfl) inferInstance ?_;refine dsI ?_;try simp only [hf.out,kT,kF])|(refine a0n.same _ (c4 rfl) inferInstance ?_;refine dsI ?_;try simp only [hf.out,kT,kF])|(refine a0n.same _ (c5 rfl) inferInstance ?_;refine dsI ?_;try simp only [hf.out,kT,kF])|(refine a0n.same _ (c6 rfl) inferInstance ?_;refine dsI ?_;try simp only [hf.out,kT,kF]))
   | (with_reducible refine d5x ?_)
   | (with_reducible refine d5w ?_)
   )
  exact hq.out):P:=e (.mk dr) ⟨f⟩ c1 c2 c3 c4 c5 c6 ⟨h⟩
section
variable {C:Ctx} {F:Fra} {ρ:Lk} {w w':World}
theorem Mem.letGo {H1 H2:Hp}{e:Ent}{b:Nat}(m:Mem C F ρ (H1++e::H2) w)(hb:ρ e.k e.g=some b)(hsz:w'.heap.size=w.heap.size)(h1:w'.os=w.os)(h2:w'.tape=w.tape)(h3:w'.output=w.output)
  (ho:∀ k,k≠b→w'.heap[k]? = w.heap[k]?) (hs:∀ cs,w.heap[b]? = some (.cells cs e.T (0,0))→∃ (cs':Array Value) (fz':Nat × Nat),w'.heap[b]? = some (.cells cs' e.T fz')∧cs'.size=cs.size) :
  Mem C F ρ (H1++H2) w'∧Ext ρ (Own F.X ρ (H1++e::H2)) w ρ (Own F.X ρ (H1++H2)) w':=by
 have he:e∈H1++e::H2:=by simp
 obtain ⟨cs,hc,_⟩:=m.at he hb;obtain ⟨m0,hO⟩:=m.sub (H':=H1++H2) (List.Sublist.append (List.Sublist.refl _) (List.sublist_cons_self _ _));have hown:Own F.X ρ (H1++e::H2) b:=.inr ⟨e,he,hb⟩;have x:Ext ρ (Own F.X ρ (H1++e::H2)) w ρ (Own F.X ρ (H1++H2)) w':=by
  refine ⟨by omega,fun _ _ _ h=>h,fun k hk hn=>⟨fun h=>hn (hO k h),ho k fun h=>hn (by rw [h];exact hown)⟩,fun k cs1 T fz h=>?_⟩
  by_cases hk:k=b
  ·subst hk
   rw [hc] at h;cases h;obtain ⟨cs',fz',q1,q2⟩:=hs cs hc;exact ⟨cs',fz',q1,q2⟩
  ·exact ⟨cs1,fz,by rw [ho k hk];exact h,rfl⟩
 have hne:∀ e'∈H1++H2,ρ e'.k e'.g≠some b:=fun e' he' hb'=>by
  have hinj:=m.hok.inj;rw [List.pairwise_append,List.pairwise_cons] at hinj;rcases List.mem_append.1 he' with h|h
  ·exact hinj.2.2 e' h e (List.mem_cons_self ..) b b hb' hb rfl
  ·exact hinj.2.1.1 e' h b b hb hb' rfl
 refine ⟨⟨⟨fun e' he'=>?_,m0.hok.inj,m0.hok.own⟩,by rw [h1];exact m.os,by rw [h2];exact m.tape,by rw [h3];exact m.output,by rw [hsz];exact m.size,fun k hk hw=>?_,m.xlt,m.g0,m.gn,m.gw,m.lnk,a3o m.shp x⟩,x⟩
 ·rcases m0.hok.ent e' he' with h|⟨b',cs',q1,q2,q3⟩
  ·exact .inl h
  ·refine .inr ⟨b',cs',q1,?_,?_⟩
   ·rw [ho b' fun h=>hne e' he' (by rw [q1,h])];exact q2
   ·have he2:e'∈H1++e::H2:=by rcases List.mem_append.1 he' with h|h<;>simp [h]
    obtain ⟨cs2,r1,r2⟩:=m.at he2 q1;rw [q2] at r1;cases r1;exact r2.mono x
 ·rw [ho k fun h=>?_]
  ·exact m.blk k hk hw
  ·subst h
   have:=m.hok.own e he k hb
   rcases this.2 with h|h
   ·omega
   ·exact hw h
end
end Go.Ide
