/- The layer of own lemmas and contracts, part 4. -/
import Derived.Test.YtmpdcldckjeklaaGreatDoorAC3
import Derived.OrdersIn
import Derived.RangeFuncLeaves
import Derived.RangeFuncSeq
import Derived.RangeFuncIn
import Derived.RangeFuncRecord
import Derived.ChangeArms
import Derived.ChangeSlices
import Derived.OpenShut
import Derived.Maps.RangeRun
set_option linter.unusedVariables false
set_option linter.unusedSimpArgs false
namespace Go.Ide
open Go.RowKit
def fw (rd:Option Nat):Fence:={ Fence.wide with round:=rd }
theorem Hx {rd:Option Nat}{n:Nat}{P:Program}{f:FuncId}{args:Array Value}{w:World}{R:Ending->World->Prop}:CallsIn (fw rd) n P f args w R↔Calls P f args w R:=
 (show CallsIn (fw rd) n P f args w R↔CallsIn Fence.wide n P f args w R from Iff.rfl).trans callsIn_wide
theorem Hy {rd:Option Nat}{n:Nat}:(fw rd).depth.isSome=true->1<=n:=λh=>by cases h
theorem LV {P:Program}{ρ:Operand->Value}{o:Oper}{w w':World}{x:Next}(h:(execOp ρ o).run P w=.ok x w')(hx:∀d,x≠.defer d):∀c,o.op≠.defer c:=λc hc=>by
 unfold execOp at h;simp only[hc]at h;rw[run_bind]at h;split at h
 ·cases h;exact hx _ rfl
 ·cases h
section
variable {C:AX} {F:AG} {ops:Array Oper} {rd:Option Nat} {Q:Exit->Act->World->Prop}
theorem J0 {P:Program}{o:Oper}{a:Act}{w w':World}{v:Value}{K:Act->World->Prop}(h:(execOp a.eval o).run P w=.ok (.value v) w')(hk:K (a.put o.dst v) w'):o.wpIn (fw rd) 0 P a w K Q:=by
 refine⟨λ_ _=>trivial,?_⟩;rw[Oper.semAt_eq _ _ _ (LV h (by simp)),h];exact hk
theorem Uc {P:Program}{o:Oper}{a:Act}{w w':World}{K:Act->World->Prop}(h:(execOp a.eval o).run P w=.ok .skip w')(hk:K (a.put o.dst undef) w'):o.wpIn (fw rd) 0 P a w K Q:=by
 refine⟨λ_ _=>trivial,?_⟩;rw[Oper.semAt_eq _ _ _ (LV h (by simp)),h];exact hk
theorem Ua {P:Program}{o:Oper}{a:Act}{w w':World}{f:Nat}{vs:Array Value}{K:Act->World->Prop}(h:(execOp a.eval o).run P w=.ok (.enter f vs) w')
  (hc:Calls P f vs w' λe w''=>∃v,e=.returned v/\K (a.put o.dst v) w''):o.wpIn (fw rd) 0 P a w K Q:=by
 refine⟨λ_ _=>trivial,?_⟩;rw[Oper.semAt_eq _ _ _ (LV h (by simp)),h];refine⟨Hy,Hx.2 (hc.mono ?_)⟩;rintro e w'' ⟨v,rfl,hk⟩;exact hk
theorem Ub {P:Program}{o:Oper}{a:Act}{w w':World}{l f:Nat}{tmps:Array Value}{as bd:Code}{K:Act->World->Prop}(h:(execOp a.eval o).run P w=.ok (.round l f tmps as bd) w')
  (hc:RoundIn (fw rd) 0 P l f tmps as bd w' λe w''=>∃v,e=.returned v/\K (a.put o.dst v) w''):o.wpIn (fw rd) 0 P a w K Q:=by
 refine⟨λ_ _=>trivial,?_⟩;rw[Oper.semAt_eq _ _ _ (LV h (by simp)),h];refine⟨Hy,hc.mono ?_⟩;rintro e w'' ⟨v,rfl,hk⟩;exact hk
theorem EZ {R:Exit->Act->World->Prop}{l2:List Nat}(hR:∀e a w,R e a w->e=.normal/\wpOpsIn (fw rd) 0 C.P ops Q l2 a w)(hnd:∀(i:Nat) (o:Oper),ops[i]?=some o->∀c,o.op≠.defer c):
  ∀(l:List Nat) (a:Act) (w:World),wpOps C.P ops R l a w->wpOpsIn (fw rd) 0 C.P ops Q (l++l2) a w
 | [],a,w,h=>(hR _ _ _ h).2
 |i::l,a,w,h=>by
  have hlet:¬LetsOut R:=λ⟨a,w,h⟩=>by have:=(hR _ _ _ h).1;cases this
  simp only[wpOps]at h;simp only[Hb,wpOpsIn];cases ho:ops[i]? with
  |none=>simp only[ho]at h;exact EZ hR hnd l a w h
  |some o=>
   simp only[ho]at h;dsimp only;split
   ·rename_i hw
    rw[AL hw]at h;rcases h with h|⟨_,h⟩
    ·unfold Oper.wp at h
     refine⟨λ_ _=>trivial,?_⟩;rw[Oper.semAt_eq _ _ _ (hnd i o ho)]
     revert h
     generalize(execOp a.eval o).run C.P w=r;intro h;unfold Oper.upon at h;unfold Oper.uponIn;split at h
     ·exact EZ hR hnd l _ _ h
     ·exact EZ hR hnd l _ _ h
     ·exact EZ hR hnd l _ _ h
     ·refine⟨Hy,Hx.2 (h.mono ?_)⟩
      intro e w'' h;cases e with
      |returned v=>exact EZ hR hnd l _ _ h
      |panicked c=>have:=(hR _ _ _ h).1;cases this
      |outgrown=>exact AY h hlet
     ·exact⟨Hy,λc cs hr=>by
       obtain⟨v,w',h1,h2⟩:=h c cs;exact⟨v,w',EZ hR hnd l _ _ h1,stepsIn_wide.2 h2⟩⟩
     ·have:=(hR _ _ _ h).1;cases this
     ·exact h.elim
    ·exact AY h hlet
   ·rename_i hw
    rw[AM hw]at h;exact⟨λ_ _=>trivial,EZ hR hnd l _ _ h⟩
theorem NJ {Q:Exit->Act->World->Prop}:∀(l:List Nat) (fuel:Nat) (L:Array Bool) (a:Act) (w:World),L.size=ops.size->l.length<=fuel->(∀i,i<ops.size->(Ls L i↔i∉l))->l.Nodup ->
  (∀A i B,l=A++i::B->(∀j∈BT ops i,j<ops.size/\j∉i::B)/\∀j∈A,CO ops i j)->(∀i∈l,i<ops.size)->Cl ops L ->
  wpOpsIn (fw rd) 0 C.P ops Q l a w->wpAnyIn (fw rd) 0 C.P .any ops Q fuel L a w
 | [],fuel,L,a,w,hs,_,hl,_,_,_,_,h=>by
  have hr:Region.ready .any ops L=[]:=by
   apply List.eq_nil_iff_forall_not_mem.2;intro i hi;obtain⟨h1,h2,_⟩:=CC.1 hi
   have:=(hl i h1).2 (by simp)
   unfold Ls at this;rw[AP,Do]at this h2;simp at this h2;rw[this]at h2;cases h2
  cases fuel with
  |zero=>exact⟨hr,h⟩
  |succ fuel=>exact⟨λ_=>h,λi hi=>by rw[hr]at hi;simp at hi⟩
 |i::l,0,_,_,_,_,hf,_,_,_,_,_,_=>by simp at hf
 |i::l,fuel+1,L,a,w,hs,hf,hl,hnd,hd,hlt,hcl,h=>by
  have hil:=hlt i (by simp);have hLi:∀j,j<ops.size->(L.getD j true=true↔Ls L j):=λj hj=>by
   unfold Ls;rw[AP,AP,Do];simp
  have hready:∀j,j∈Region.ready .any ops L↔j=i:=by
   intro j;rw[CC];constructor
   ·rintro⟨h1,h2,h3⟩
    have hj:j∈i::l:=by
     apply DV;intro hn
     have:=(hLi j h1).2 ((hl j h1).2 hn)
     rw[h2]at this;cases this
    apply DV;intro hne;have hjl:j∈l:=by simpa[hne]using hj
    obtain⟨A,B,rfl⟩:=Dx hjl;have hreach:=(hd (i::A) j B (by simp)).2 i (by simp)
    have:=Ep hs hcl hreach h3
    exact AY ((hl i hil).1 this) (by simp)
   ·rintro rfl
    refine⟨hil,?_,λk hk=>?_⟩
    ·cases hb:L.getD j true with
     |false=>rfl
     |true=>exact AY ((hl j hil).1 ((hLi j hil).1 hb)) (by simp)
    ·have hk2:=(hd [] j l rfl).1 k hk
     exact(hl k hk2.1).2 hk2.2
  have hset:∀j,Ls (L.setIfInBounds i true) j↔j=i\/Ls L j:=λj=>Ls.set (by omega)
  refine⟨λh0=>?_,λj hj=>?_⟩
  ·have:=(hready i).2 rfl
   rw[h0]at this;simp at this
  ·obtain rfl:=(hready j).1 hj
   rw[wpOpsIn_cons]at h;obtain⟨n1,n2⟩:=List.nodup_cons.1 hnd;refine wpOpIn_mono (λa w hk=>?_) h;refine NJ l fuel _ a w (by simp[hs]) (by simp at hf;omega) (λk hk2=>?_) n2 (λA k B hAB=>?_) (λk hk2=>hlt k (by simp[hk2])) ?_ hk
   ·rw[hset,hl k hk2]
    by_cases hkj:k=j
    ·subst hkj;simp[n1]
    ·simp[hkj]
   ·obtain⟨q1,q2⟩:=hd (j::A) k B (by simp[hAB])
    exact⟨q1,λx hx=>q2 x (by simp[hx])⟩
   ·intro k hk2 hks x hx
    have hk3:Ls (L.setIfInBounds j true) k:=by
     unfold Ls;rw[AP,BB (by simp;omega)]at hk2⊢;simpa using hk2
    show Ls _ x;rw[hset];rcases(hset k).1 hk3 with rfl|hk3
    ·exact .inr ((CC.1 hj).2.2 x hx)
    ·exact .inr (hcl k ((hLi k hks).2 hk3) hks x hx)
theorem Tf {Q:Exit->Act->World->Prop}{H:Hp}{n:Nat}{env:AZ}{rs:List B3}{suf:List Nat}(ho:KZ ops rs suf)(hgen:∀e∈H,e.g<n)(hd:∀r∈rs,Bv F.nt r.o=true)
  (hst:∀A r B,rs=A++r::B->ops[r.i]?=some r.o/\Ax C F ops H (n+r.i) (Ef A env) r.o r.d r.ne)
  (hend:∀(L:Array Bool) (a:Act) (w:World) (ρ:Lk) (He:Hp),L.size=ops.size->(∀r∈rs,Ls L r.i)->DI C F H n env rs L a w ρ He->wpOpsIn (fw rd) 0 C.P ops Q suf a w):
  ∀(fuel:Nat) (L:Array Bool) (a:Act) (w:World) (ρ:Lk) (He:Hp),L.size=ops.size->((rs.map (·.i)++suf).filter (λi=>!L.getD i false)).length<=fuel->Cl ops L->(∀i∈suf,¬Ls L i) ->
   DI C F H n env rs L a w ρ He->wpAnyIn (fw rd) 0 C.P .any ops Q fuel L a w:=by
 intro fuel
 induction fuel with
 |zero=>
  intro L a w ρ He hL hf hc hs hi;have h0:(rs.map (·.i)++suf).filter (λi=>!L.getD i false)=[]:=HZ (by omega);have hall:∀r∈rs,Ls L r.i:=λr hr=>by
   have:=List.filter_eq_nil_iff.1 h0 r.i (by simp;exact .inl ⟨r,hr,rfl⟩)
   simpa[Ls]using this
  have hsuf:suf=[]:=by
   apply List.eq_nil_iff_forall_not_mem.2;intro i hi2
   have:=List.filter_eq_nil_iff.1 h0 i (by simp[hi2])
   exact hs i hi2 (by simpa[Ls]using this)
  subst hsuf;refine NJ [] 0 L a w hL (Ag _) (λi hi2=>⟨λ_=>by simp,λ_=>?_⟩) .nil (λA i B h=>by cases A<;>simp at h) (by simp) hc (hend L a w ρ He hL hall hi)
  have:=ho.all i hi2
  simp at this;obtain⟨r,hr,rfl⟩:=this;exact hall r hr
 |succ fuel ih=>
  intro L a w ρ He hL hf hc hs hi
  by_cases hall:∀r∈rs,Ls L r.i
  ·refine NJ suf (fuel+1) L a w hL ?_ (λi hi2=>?_) ?_ (λA i B hAB=>⟨λj hj=>?_,λj hj=>ho.suf A i B hAB j (by simp[hj])⟩) (λi hi2=>ho.lt i (by simp[hi2])) hc (hend L a w ρ He hL hall hi)
   ·refine Ar ?_ hf
    rw[List.filter_append,Dk];rw[(List.filter_eq_self (l:=suf)).2 λi hi2=>by have:=hs i hi2;unfold Ls at this;simpa using this];omega
   ·constructor
    ·intro h1 h2;exact hs i h2 h1
    ·intro h1
     have:=ho.all i hi2
     rcases BO.1 this with h|h
     ·obtain⟨r,hr,rfl⟩:=Bk.1 h;exact hall r hr
     ·exact AY h h1
   ·exact(DH.1 ho.nodup).2.1
   ·have hA:=ho.first (rs.map (·.i)++A) i B (by simp[hAB]) j hj
    refine⟨ho.lt j (by rw[hAB];rcases BO.1 hA with h|h<;>simp[h]),λhB=>?_⟩;have hnd:=ho.nodup;rw[hAB,<-Dm,DH]at hnd;exact hnd.2.2 j hA j hB rfl
  ·have hnot:∃r∈rs,¬Ls L r.i:=by
    apply DV;intro hn;exact hall λr hr=>DV λh=>hn ⟨r,hr,h⟩
   have hLt:∀j,j<ops.size->(L.getD j true=true↔Ls L j):=λj hj=>by
    unfold Ls;rw[AP,AP,Do];simp
   have hsome:Region.ready .any ops L≠[]:=by
    obtain⟨r0,hr0,hn0⟩:=hnot
    have:∀X:List B3,∀Y,rs=X++Y->(∃r∈Y,¬Ls L r.i)->(∀r∈X,Ls L r.i)->∃A r B,rs=A++r::B/\¬Ls L r.i/\∀r∈A,Ls L r.i:=by
     intro X Y
     induction Y generalizing X with
     |nil=>rintro _ ⟨r,hr,_⟩ _;simp at hr
     |cons y Y ihY=>
      intro hXY hex hX
      by_cases hy:Ls L y.i
      ·obtain⟨r,hr,hrn⟩:=hex
       rcases Ak.1 hr with rfl|hr
       ·exact AY hy hrn
       ·exact ihY (X++[y]) (by simp[hXY]) ⟨r,hr,hrn⟩ (λr hr=>by
         rcases BO.1 hr with h|h
         ·exact hX r h
         ·simp at h;subst h;exact hy)
      ·exact⟨X,y,Y,hXY,hy,hX⟩
    obtain⟨A,r,B,h1,h2,h3⟩:=this [] rs rfl ⟨r0,hr0,hn0⟩ (by simp);intro hnil;have hrlt:=ho.lt r.i (by rw[h1];simp)
    have:r.i∈Region.ready .any ops L:=by
     rw[CC];refine⟨hrlt,?_,λj hj=>?_⟩
     ·cases hb:L.getD r.i true with
      |false=>rfl
      |true=>exact AY ((hLt r.i hrlt).1 hb) h2
     ·have:=ho.first (A.map (·.i)) r.i (B.map (·.i)++suf) (by rw[h1];simp) j hj
      obtain⟨r',hr',rfl⟩:=Bk.1 this;exact h3 r' hr'
    rw[hnil]at this;simp at this
   refine⟨λh0=>AY h0 hsome,λi hir=>?_⟩;obtain⟨hilt,hin,hid⟩:=CC.1 hir;have hnL:¬Ls L i:=λh=>by rw[(hLt i hilt).2 h]at hin;cases hin
   have hpre:i∈rs.map (·.i):=by
    rcases BO.1 (ho.all i hilt)with h|h
    ·exact h
    ·obtain⟨A,B,hAB⟩:=Dx h
     obtain⟨r0,hr0,hn0⟩:=hnot
     have:=Ep hL hc (ho.suf A i B hAB r0.i (JZ _ (Bk.2 ⟨r0,hr0,rfl⟩))) hid
     exact AY this hn0
   obtain⟨r,hr,rfl⟩:=Bk.1 hpre;obtain⟨A,B,hAB⟩:=Dx hr;obtain⟨hor,hgen2,hsteady⟩:=hst A r B hAB;have hset:∀j,Ls (L.setIfInBounds r.i true) j↔j=r.i\/Ls L j:=λj=>Ls.set (by omega)
   have hndr:(rs.map (·.i)).Nodup:=(DH.1 ho.nodup).1;have hsub:∀e∈H,e∈He:=λe he=>hi.perm.mem_iff.2 (by simp[he])
   have hfr:∀k,ρ k (n+r.i)=none:=λk=>by
    apply DV;intro hk;obtain⟨r',h1,h2,h3⟩:=hi.fresh k (n+r.i) (by omega) hk
    have:r'.i=r.i:=by omega
    rw[this]at h2;exact hnL h2
   have hne:∀e∈He,e.g≠n+r.i:=λe he hg=>by
    rcases BO.1 (hi.perm.mem_iff.1 he)with h|h
    ·obtain⟨r',h1,h2⟩:=List.mem_filterMap.1 h
     split at h2
     ·rename_i hl
      obtain⟨A',B',hAB'⟩:=Dx h1
      have:=(hst A' r' B' hAB').2.1 e h2
      have:r'.i=r.i:=by omega
      rw[this]at hl;exact hnL hl
     ·cases h2
    ·have:=hgen e h;omega
   have next:∀v ρ' w',Ee C F He ρ w (n+r.i) r.d r.ne v ρ' w'->wpAnyIn (fw rd) 0 C.P .any ops Q fuel (L.setIfInBounds r.i true) (a.put r.o.dst v) w':=by
    intro v ρ' w' p;have hi':=hi;rw[hAB]at hi' hndr;have hdst:=ho.dst;rw[hAB]at hdst;have hn':=DI.next hi' (by omega) hnL hndr hdst (hd r hr) p;rw[<-hAB]at hn';refine ih _ _ _ ρ' (BW r.ne He) (by simp[hL]) ?_ ?_ (λj hj=>?_) hn'
    ·have:((rs.map (·.i)++suf).filter (λi=>!(L.setIfInBounds r.i true).getD i false)).length<((rs.map (·.i)++suf).filter (λi=>!L.getD i false)).length:=by
      have sub:(rs.map (·.i)++suf).filter (λi=>!(L.setIfInBounds r.i true).getD i false)=((rs.map (·.i)++suf).filter (λi=>!L.getD i false)).filter (λi=>!Nat.beq i r.i):=by
       rw[List.filter_filter];apply List.filter_congr;intro x hx;have h1:=hset x;unfold Ls at h1
       by_cases hxr:x=r.i
       ·subst hxr
        have:(L.setIfInBounds r.i true).getD r.i false=true:=h1.2 (.inl rfl)
        simp[this]
       ·have hb:Nat.beq x r.i=false:=by
         cases hb:Nat.beq x r.i with
         |false=>rfl
         |true=>exact AY (Ab hb) hxr
        rw[hb]
        by_cases hlx:L.getD x false=true
        ·rw[h1.2 (.inr hlx),hlx];rfl
        ·have:¬(L.setIfInBounds r.i true).getD x false=true:=λh=>hlx ((h1.1 h).resolve_left hxr)
         simp only[Bool.not_eq_true]at this hlx;rw[this,hlx];rfl
      rw[sub];apply List.length_filter_lt_length_iff_exists.2;exact⟨r.i,by rw[List.mem_filter];exact⟨by simp;exact .inl ⟨r,hr,rfl⟩,by unfold Ls at hnL;simpa using hnL⟩,by simp⟩
     omega
    ·intro k hk2 hks x hx
     have hk3:Ls (L.setIfInBounds r.i true) k:=by
      unfold Ls;rw[AP,BB (by simp;omega)]at hk2⊢;simpa using hk2
     show Ls _ x;rw[hset];rcases(hset k).1 hk3 with rfl|hk3
     ·exact .inr (hid x hx)
     ·exact .inr (hc k ((hLt k hks).2 hk3) hks x hx)
    ·rw[hset]
     rintro(rfl|h)
     ·have hnd:=ho.nodup
      rw[DH]at hnd;exact hnd.2.2 r.i (Bk.2 ⟨r,hr,rfl⟩) r.i hj rfl
     ·exact hs j hj h
   unfold wpOpIn;simp only[hor];rcases hsteady He ρ a w hi.mem hsub hfr hne (hi.look ho hL hc hAB hir)with⟨hw,hn0,hrep⟩|⟨hw,hout⟩
   ·rw[AM (by rw[hw];simp)]
    exact⟨λ_ _=>trivial,next undef ρ w ⟨by rw[hn0];exact hi.mem,by rw[hn0];exact .refl _ _ _,λ_ _ _=>rfl,by rw[hn0];exact hrep⟩⟩
   ·rw[AL hw]
    rcases hout with⟨v,ρ',w',h1,h2⟩|⟨f,vs,h1,h2⟩
    ·exact J0 h1 (next v ρ' w' h2)
    ·refine Ua h1 (h2.mono ?_)
     rintro e w' ⟨v,rfl,ρ',h3⟩;exact⟨v,rfl,next v ρ' w' h3⟩
theorem af {R:Exit->Act->World->Prop}{i:Nat}{s:St}{pre suf:List Nat}{envF:AZ}{N:Hp}(hm:C.P.follows .mixedOrders=true)(hc:Fi ops pre suf=true)
  (hpre:Fv C F ops s.H s.n pre s.env [] envF N)
  (h:(∀j∈suf,j<ops.size)->∀(ρ:Lk) (a:Act) (w:World),Aq C F ρ ⟨envF,N++s.H,s.n+ops.size⟩ a w->wpOpsIn (fw rd) 0 C.P ops R suf a w) (hd:ops.toList.all (Bv F.nt)=true) (ρ:Lk) (a:Act) (w:World) (hs:Aq C F ρ s a w):
  (Code.region i ops true).wpIn (fw rd) 0 C.P R a w:=by
 obtain⟨rs,h1,h2,h3,h4⟩:=hpre.recs;have hor:∀r∈rs,ops[r.i]?=some r.o:=λr hr=>by
  obtain⟨A,B,hAB⟩:=Dx hr;exact(h4 A r B hAB).1
 have ho:=Nt h1 hor hc;have hds:∀r∈rs,Bv F.nt r.o=true:=λr hr=>by
  refine CK.1 hd r.o ?_
  have:=hor r hr
  exact DG.2 (Em this)
 have hrep:∀j,(Array.replicate ops.size false).getD j false=false:=λj=>by
  rw[AP];rw[Ha];split<;>rfl
 have hnL:∀j,¬Ls (Array.replicate ops.size false) j:=λj hj=>by unfold Ls at hj;rw[hrep]at hj;cases hj
 refine wpIn_region_any hm ?_;have hin:DI C F s.H s.n s.env rs (Array.replicate ops.size false) a w.drew ρ s.H:=by
  refine⟨hs.mem.drew,?_,λr _ hl=>AY hl (hnL _),λt _=>(hs.env t).mono (.drew _ _ _),λk g hg hk=>AY (hs.fresh k g hg) hk,hs.nt,hs.dfr⟩
  have:rs.filterMap (λr=>if(Array.replicate ops.size false).getD r.i false then r.ne else none)=[]:=by
   rw[O5];intro r _;rw[hrep];rfl
  rw[this];exact List.Perm.refl _
 refine Tf ho hs.gen hds h4 ?_ ops.size _ a w.drew ρ s.H (by simp) ?_ ?_ (λj _=>hnL j) hin
 ·intro L a' w' ρ' He hL hall hi
  have hN:He.Perm (N++s.H):=by
   refine hi.perm.trans (List.Perm.append_right _ ?_);have e:rs.filterMap (λr=>if L.getD r.i false then r.ne else none)=rs.filterMap (·.ne):=In λr hr=>by
    have:=hall r hr;unfold Ls at this;rw[this];rfl
   rw[e,h3]
   have:=Hm rs []
   rw[Ek]at this;exact this.symm
  refine h (λj hj=>ho.lt j (by simp[hj])) ρ' a' w' ⟨hi.mem.perm hN,?_,?_,λt=>?_,hi.nt,hi.dfr⟩
  ·intro k g hg
   apply DV;intro hk;obtain⟨r,hr,_,he⟩:=hi.fresh k g (by simp at hg;omega) hk
   have:=ho.lt r.i (by simp;exact .inl ⟨r,hr,rfl⟩)
   simp at hg;omega
  ·intro e he
   rcases BO.1 he with he|he
   ·rw[h3]at he
    have he:=(Hm rs []).mem_iff.1 he;rw[Ek]at he;obtain⟨r,hr,hre⟩:=List.mem_filterMap.1 he;obtain⟨A,B,hAB⟩:=Dx hr
    have:=(h4 A r B hAB).2.1 e hre
    have:=ho.lt r.i (by simp;exact .inl ⟨r,hr,rfl⟩)
    show e.g<s.n+ops.size;omega
   ·have:=hs.gen e he
    show e.g<s.n+ops.size;omega
  ·show AF ρ' (AC F.X ρ' (N++s.H)) w' (envF.get t) _
   rw[<-AC.perm hN,h2]
   by_cases hw:∃r∈rs,r.o.dst=some t
   ·obtain⟨r,hr,hrd⟩:=hw
    rw[KE rs s.env t ho.dst r hr hrd];exact hi.reps r hr (hall r hr) t hrd
   ·rw[Hk rs s.env t λr hr hrd=>hw ⟨r,hr,hrd⟩]
    exact hi.old t λr hr _ hrd=>hw ⟨r,hr,hrd⟩
 ·refine Ar (List.length_filter_le _ _) ?_
  have hsub:∀(l:List Nat) (n:Nat),l.Nodup->(∀x∈l,x<n)->l.length<=n:=by
   intro l n
   induction n generalizing l with
   |zero=>intro _ h;cases l with
    |nil=>simp
    |cons x l=>exact AY (h x (by simp)) (by omega)
   |succ n ihn=>
    intro hnd hlt;have h1:=ihn (l.erase n) (hnd.erase n) λx hx=>by
     have:=hlt x (List.mem_of_mem_erase hx)
     have:x≠n:=λh=>by subst h;exact(O6 hnd) hx
     omega
    have:=List.length_erase (a:=n) (l:=l)
    split at this<;>omega
  exact hsub _ _ ho.nodup ho.lt
 ·intro k hk
  have:k<ops.size\/¬k<ops.size:=by omega
  rcases this with hlt|hlt
  ·rw[AP,Ha,AL hlt]at hk;cases hk
  ·intro h;exact AY h hlt
theorem Gd {R Q:Exit->Act->World->Prop}(hR:∀e a w,R e a w->e=.normal/\Q .normal a w)(hnd:∀(i:Nat) (o:Oper),ops[i]?=some o->∀c,o.op≠.defer c):
  ∀(fuel:Nat) (L:Array Bool) (a:Act) (w:World),wpAny C.P .any ops R fuel L a w->wpAnyIn (fw rd) 0 C.P .any ops Q fuel L a w
 | 0,L,a,w,h=>⟨h.1,(hR _ _ _ h.2).2⟩
 |fuel+1,L,a,w,h=>⟨λh0=>(hR _ _ _ (h.1 h0)).2,λi hi=>by
   have hlet:¬LetsOut R:=λ⟨a,w,h⟩=>by have:=(hR _ _ _ h).1;cases this
   have hq:=h.2 i hi;unfold wpOp at hq;unfold wpOpIn;split
   ·rename_i ho;simp only[ho]at hq;exact Gd hR hnd fuel _ a w hq
   ·rename_i o ho
    simp only[ho]at hq;split
    ·rename_i hw
     rw[AL hw]at hq;rcases hq with hq|⟨_,hq⟩
     ·unfold Oper.wp at hq
      refine⟨λ_ _=>trivial,?_⟩;rw[Oper.semAt_eq _ _ _ (hnd i o ho)]
      revert hq
      generalize(execOp a.eval o).run C.P w=r;intro hq;unfold Oper.upon at hq;unfold Oper.uponIn;split at hq
      ·exact Gd hR hnd fuel _ _ _ hq
      ·exact Gd hR hnd fuel _ _ _ hq
      ·exact Gd hR hnd fuel _ _ _ hq
      ·refine⟨Hy,Hx.2 (hq.mono ?_)⟩
       intro e w'' h;cases e with
       |returned v=>exact Gd hR hnd fuel _ _ _ h
       |panicked c=>have:=(hR _ _ _ h).1;cases this
       |outgrown=>exact AY h hlet
      ·exact⟨Hy,λc cs hr=>by
        obtain⟨v,w',h1,h2⟩:=hq c cs;exact⟨v,w',Gd hR hnd fuel _ _ _ h1,stepsIn_wide.2 h2⟩⟩
      ·have:=(hR _ _ _ hq).1;cases this
      ·exact hq.elim
     ·exact AY hq hlet
    ·rename_i hw
     rw[AM hw]at hq;exact⟨λ_ _=>trivial,Gd hR hnd fuel _ _ _ hq⟩⟩
end
def Gr (b:Bool)(y n:Prop):Prop:=match b with
 |true=>y
 |false=>n
theorem Kp {b:Bool}{y n:Prop}(h1:b=true->y)(h2:b=false->n):Gr b y n:=by
 cases b
 ·exact h2 rfl
 ·exact h1 rfl
theorem Fz.loose {d d':D}(h:Fz [] [] d d'):∀ {ρ:Lk} {O:Nat->Prop} {w:World} {v:Value},AF ρ O w d v->AF ρ O w d' v:=by
 induction h with
 |refl=>exact λh=>h
 |any=>exact λ_=>.any _
 |nil sz=>intro ρ O w v h;cases h;exact .nil _
 |nn nn sz es=>
  intro ρ O w v h;cases h with
  |nil=>exact .nil _
  |emp a=>exact .emp a
  |sl f hl hc hO hb hz hcell ho h=>exact .sl f hl hc hO hb hz hcell ho h
 |agg hl h ih=>
  intro ρ O w v hr;cases hr with
  |agg hn ho hh=>
   refine .agg (by omega) ho λi d' hd'=>?_
   have hi:=(Au.1 hd').1;exact ih i _ d' (CG) hd' (hh i _ (CG))
 |tup hl h ih=>
  intro ρ O w v hr;cases hr with
  |tup hn hh=>
   refine .tup (by omega) λi d' hd'=>?_
   have hi:=(Au.1 hd').1;exact ih i _ d' (CG) hd' (hh i _ (CG))
 |osl he _ _ _ _ _ _ _=>cases he
 |omp he=>cases he
 |oxl _ ih=>exact λhr=>ih hr.wk
 |optr he=>cases he
 | @clo fn a a' c c' ha hc _ _ ih1 ih2=>
  intro ρ O w v hv;cases hv with
  |clo hf1 hc1 r1 r2=>
   refine .clo (by omega) (by omega) (λi d' hd'=>?_) λi d' hd'=>?_
   ·have hi:i<a.length:=by rw[ha];exact(Au.1 hd').1
    exact ih1 i _ d' (BM hi) hd' (r1 i _ (BM hi))
   ·have hi:i<c.length:=by rw[hc];exact(Au.1 hd').1
    exact ih2 i _ d' (BM hi) hd' (r2 i _ (BM hi))
section
variable {C:AX}
inductive Ch (C:AX)(f:Nat)(ds:List D)(k:D->Prop):Prop
 |mk (ds':List D) (d:D) (hv:D1 [] [] ds ds') (hc:Af C f ds' d) (hp:AN ds') (hk:k d)
inductive B0 (C:AX)(f:Nat)(ds:List D)(H:Hp)(n:Nat)(k:D->Hp->Nat->Prop):Prop
 |pure (ds':List D) (d:D) (hv:D1 [] [] ds ds') (hc:Af C f ds' d) (hp:AN ds') (hk:k d H (n+1))
 |prop (ds':List D) (Φ:D->Prop) (hv:D1 [] [] ds ds') (hc:BN C f ds' Φ) (hp:AN ds') (hk:∀d,Φ d->k d H (n+1))
 |own (Φ:D->Hp->Nat->Prop) (hc:Ca C f ds H n Φ) (hk:∀d H' n',Φ d H' n'->k d H' n')
 |lend (Hf:Hp) (ds':List D) (d:D) (hH:CT H Hf H Hf) (hv:D1 H Hf ds ds') (hc:Af C f ds' d) (hp:AN ds') (hflat:Cd d) (hk:k d H (n+1))
theorem P8 {ds ds':List D}(h:D1 [] [] ds ds'){ρ:Lk}{O:Nat->Prop}{w:World}{vs:Array Value}(hr:∀(i:Nat) (d:D),ds[i]?=some d->AF ρ O w d (vs.getD i undef)):
  ∀(i:Nat) (d:D),ds'[i]?=some d->AF ρ O w d (vs.getD i undef):=λi d hd=>by
 obtain⟨l1,l2⟩:=h.spec;have hi:=(Au.1 hd).1;have h0:ds[i]?=some ds[i]:=CG;exact(l2 i _ d h0 hd).loose (hr i _ h0)
theorem ec {F:AG}{ops:Array Oper}{H:Hp}{g:Nat}{env:AZ}{o:Oper}{f:Nat}{first captured ds ds':List D}{fop:Operand}{args:Array Operand}{tys:Array Nat}{d:D}(hw:Aj ops env o=some true)(ho:o.op=.call ⟨.value fop,args,tys⟩)
  (hf:AU env fop=.clo (.func f) first captured) (hds:first++args.toList.map (AU env)++captured=ds) (hv:D1 [] [] ds ds') (hc:Af C f ds' d) (hp:AN ds'):Ax C F ops H g env o d none:=by
 refine⟨by simp,λHe ρ a w m hsub fr hne hr=>.inr ⟨Dn hr hw,.inr ?_⟩⟩;obtain⟨g',h1,h2⟩:=D4 hr;have hfop:fop∈o.op.operands:=by rw[ho];simp[Op.operands,Call.operands]
 have harg:∀x∈args.toList,AU env x=g' x:=λx hx=>h1 x (by rw[ho];simp[Op.operands,Call.operands];right;simpa using hx)
 rw[h1 fop hfop]at hf;rw[G2 harg]at hds;obtain⟨vs,q1,q2,q3⟩:=Hn (g:=g') ho hf hc.1 h2;rw[hds]at q2 q3;have q4:=P8 hv q3;refine⟨f,vs,q1,(hc.2 (AC F.X ρ He) w vs m.g (Ar m.gn m.size) (λb hb=>m.own_lt hb) (by rw[q2];exact hv.spec.1) λi d hd=>hp.out d (Bc hd) _ _ _ _ _ (q4 i d hd)).mono ?_⟩;rintro e w' ⟨v,d',rfl,hb,rfl,hrep⟩;have x:Ai ρ (AC F.X ρ He) w ρ (AC F.X ρ He) w':=⟨hb.size,λ_ _ _ h=>h,λb hb' hO=>⟨hO,hb.block b hb'⟩,λb cs T fz hh=>⟨cs,_,by
  rw[hb.block b (Bi.1 hh).1];exact hh,rfl⟩⟩
 exact⟨v,rfl,ρ,m.same x hb.os hb.tape hb.output hb.block,x,λ_ _ _=>rfl,hrep.nol⟩
def Jo (X:EV)(g:Operand->D)(op:Op)(acc:Prop)(k:Prop->D->Option AH->Prop):Prop:=match B2 X.tt g op with
 |some (d,p)=>k (p/\acc) d none
 |none=>False
def FX (X:EV)(g:Operand->D)(op:Op)(acc:Prop)(k:Prop->D->Option AH->Prop):Prop:=match DZ X.tt X.xt g op with
 |some (d,p)=>k (p/\acc) d none
 |none=>False
def MT (X:EV)(g:Operand->D)(op:Op)(acc:Prop)(k:Prop->D->Option AH->Prop):Prop:=match B2 X.tt g op with
 |some (d,p)=>k (p/\acc) d none
 |none=>FX X g op acc k
def MS (X:EV)(g:Operand->D)(t:Nat)(x ix:Operand)(acc:Prop)(k:Prop->D->Option AH->Prop):Prop:=match X.tt t with
 |some i=>match i.ti with
  | .slice _ esz _ _=>match g ix with
   | .prim (.int _ j)=>match g x with
    | .sl _ sz es=>acc/\(sz=esz/\0<=j)/\∃d,es[j.toNat]?=some d/\k True (.pptr d) none
    |_=>False
   |_=>False
  |_=>False
 |none=>False
def C5 (C:AX)(X:EV)(kb:Nat)(g:Operand->D)(H:Hp)(n:Nat)(op:Op)(acc:Prop)(k:Prop->D->Option AH->Prop):Prop:=match op with
 | .call ⟨.value fop,args,_⟩=>match g fop with
  | .clo (.func f) first captured=>match X.nat f (first++args.toList.map g++captured)with
   |some d=>k acc d none
   |none=>acc/\Ch C f (first++args.toList.map g++captured) λd=>k True d none
  |_=>False
 | .call ⟨.builtin .append,_,_⟩=>match CQ X.tt [] n kb g op with
  |some (d,[e],p)=>k (p/\acc) d (some e)
  |_=>False
 | .load _ _ | .alloc _ | .box _ _ | .buildSlice _ _ _=>match CR X.tt H n kb g op with
  |some (d,ne,p)=>k (p/\acc) d ne
  |none=>False
 | .indexAddr t x ix=>match B2 X.tt g op with
  |some (d,p)=>k (p/\acc) d none
  |none=>MS X g t x ix acc k
 | .makeInterface _ _ | .lookup _ _ _ _=>FX X g op acc k
 | .binOp _ _ _ _ _=>MT X g op acc k
 |_=>Jo X g op acc k
structure CZ (C:AX)(X:EV):Prop where
 tt:Av C.P X.tt
 xt:EM C.P X.xt
 mixed:C.P.follows .mixedOrders=true
 mt:∀t name f,X.mt t name=some f->∀v w,(method (C.P.types.size+Made.depth) t v name).run C.P w=.ok (f,v) w
 nat:∀f ds d,X.nat f ds=some d->F5 C f ds d
theorem B9.w {X:EV}(h:B9 C X):CZ C X:=⟨h.tt,h.xt,h.mixed,h.mt,h.nat⟩
variable {F:AG} {X:EV} {ops:Array Oper}
theorem OU (hX:CZ C X){kb:Nat}{H:Hp}{n:Nat}{env:AZ}{o:Oper}{acc:Prop}{k:Prop->D->Option AH->Prop}(hw:Aj ops env o=some true)(hk:∀acc d ne,k acc d ne->acc)
  (h:C5 C X kb (AU env) H n o.op acc k):acc/\∃acc' d ne,Ax C F ops H n env o d ne/\k acc' d ne:=by
 have pe:Jo X (AU env) o.op acc k->acc/\∃acc' d ne,Ax C F ops H n env o d ne/\k acc' d ne:=λh=>by
  unfold Jo at h;split at h
  ·rename_i d p he
   have:=hk _ _ _ h
   exact⟨this.2,_,_,_,Ax.p hX.tt hw he this.1,h⟩
  ·exact h.elim
 have qe:FX X (AU env) o.op acc k->acc/\∃acc' d ne,Ax C F ops H n env o d ne/\k acc' d ne:=λh=>by
  unfold FX at h;split at h
  ·rename_i d p he
   have:=hk _ _ _ h
   exact⟨this.2,_,_,_,Ax.q hX.tt hX.xt hw he this.1,h⟩
  ·exact h.elim
 have le:(match CR X.tt H n kb (AU env) o.op with
   |some (d,ne,p)=>k (p/\acc) d ne
   |none=>False)->acc/\∃acc' d ne,Ax C F ops H n env o d ne/\k acc' d ne:=λh=>by
  split at h
  ·rename_i d ne p he
   have:=hk _ _ _ h
   exact⟨this.2,_,_,_,Ax.l' kb hX.tt hw he this.1,h⟩
  ·exact h.elim
 unfold C5 at h;split at h
 ·rename_i fop args tys ho
  split at h
  ·rename_i f first captured hf
   split at h
   ·rename_i d hn
    exact⟨hk _ _ _ h,_,_,_,Ax.nat hw ho hf rfl (hX.nat _ _ _ hn),h⟩
   ·obtain⟨h1,⟨ds',d,hv,hc,hp,h2⟩⟩:=h
    exact⟨h1,_,_,_,ec hw ho hf rfl hv hc hp,h2⟩
  ·exact h.elim
 ·split at h
  ·rename_i d e p he
   have:=hk _ _ _ h
   exact⟨this.2,_,_,_,TC kb hX.tt hw he this.1,h⟩
  ·exact h.elim
 ·exact le h
 ·exact le h
 ·exact le h
 ·exact le h
 ·rename_i t x ix ho
  split at h
  ·rename_i d p he
   have:=hk _ _ _ h
   exact⟨this.2,_,_,_,Ax.p hX.tt hw he this.1,h⟩
  ·unfold MS at h
   split at h<;>first|exact h.elim|skip
   rename_i i h1;split at h<;>first|exact h.elim|skip
   rename_i e esz eby ez h2;split at h<;>first|exact h.elim|skip
   rename_i kk j h3;split at h<;>first|exact h.elim|skip
   rename_i nn sz es h4;obtain⟨ha,⟨rfl,hj⟩,d,hd,hk'⟩:=h;exact⟨ha,_,_,_,Ax.idx hX.tt hw ho h1 h2 h3 h4 hj hd,hk'⟩
 ·exact qe h
 ·exact qe h
 ·unfold MT at h
  split at h
  ·rename_i d p he
   have:=hk _ _ _ h
   exact⟨this.2,_,_,_,Ax.p hX.tt hw he this.1,h⟩
  ·exact qe h
 ·exact pe h
def CP:List Oper->Nat->Option Oper
 | [],_=>none
 |o::_,0=>some o
 |_::l,i+1=>CP l i
theorem RF:∀(l:List Oper) (i:Nat),CP l i=l[i]?
 | [],_=>by simp[CP]
 |o::l,0=>by simp[CP]
 |o::l,i+1=>by simp[CP,RF l i]
def Bs:List Oper->Nat
 | []=>0
 |_::l=>Bs l+1
theorem OC:∀l:List Oper,Bs l=l.length
 | []=>rfl
 |_::l=>by simp[Bs,OC l]
theorem Iq {i:Nat}{o:Oper}(h:CP ops.toList i=some o):ops[i]?=some o:=by
 rw[RF]at h;simpa using h
def DD (C:AX)(X:EV)(kb:Nat)(ops:Array Oper)(H:Hp)(n:Nat):List Nat->AZ->Hp->Prop->(Prop->AZ->Hp->Prop)->Prop
 | [],env,N,acc,K=>K acc env N
 |i::l,env,N,acc,K=>match CP ops.toList i with
  |some o=>match o.guard with
   |none=>C5 C X (kb+i) (AU env) H (n+i) o.op acc λacc d ne=>DD C X kb ops H n l (Ae env o.dst d) (BW ne N) acc K
   |some _=>match Aj ops env o with
    |some b=>acc/\Gr b (C5 C X (kb+i) (AU env) H (n+i) o.op True λacc d ne=>DD C X kb ops H n l (Ae env o.dst d) (BW ne N) acc K)
      (DD C X kb ops H n l (Ae env o.dst (.prim (.tuple #[]))) N True K)
    |none=>False
  |none=>False
theorem LK {kb:Nat}{H:Hp}{n:Nat}(hX:CZ C X){K:Prop->AZ->Hp->Prop}(hK:∀acc env N,K acc env N->acc):∀ {l:List Nat} {env:AZ} {N:Hp} {acc:Prop},DD C X kb ops H n l env N acc K ->
  acc/\∃acc' env' N',Fv C F ops H n l env N env' N'/\K acc' env' N'
 | [],env,N,acc,h=>⟨hK _ _ _ h,_,_,_,.nil _ _,h⟩
 |i::l,env,N,acc,h=>by
  simp only[DD]at h;split at h<;>first|exact h.elim|skip
  rename_i o ho;have ho:=Iq ho;have step:∀acc,Aj ops env o=some true->(C5 C X (kb+i) (AU env) H (n+i) o.op acc λacc d ne=>DD C X kb ops H n l (Ae env o.dst d) (BW ne N) acc K)->acc/\∃acc' env' N',Fv C F ops H n (i::l) env N env' N'/\K acc' env' N':=λacc hw h=>by
   obtain⟨h1,acc1,d,ne,h2,h3⟩:=OU (F:=F) hX hw (λacc d ne h=>(LK hX hK h).1) h;obtain⟨_,acc2,env2,N2,h4,h5⟩:=LK hX hK h3;exact⟨h1,_,_,_,.cons ho h2 h4,h5⟩
  split at h
  ·rename_i hg
   exact step _ (by unfold Aj;rw[hg]) h
  ·split at h<;>first|exact h.elim|skip
   rename_i b hb;obtain⟨h0,h⟩:=h;cases b with
   |true=>
    obtain⟨_,h1⟩:=step _ hb h;exact⟨h0,h1⟩
   |false=>
    obtain⟨_,acc2,env2,N2,h4,h5⟩:=LK hX hK h;exact⟨h0,_,_,_,.cons ho (Ax.skip hb) h4,h5⟩
theorem B0.ok {F:AG}{ops:Array Oper}{s:St}{o:Oper}{os:List Oper}{K:St->Prop}{f:Nat}{ds:List D}{k:D->Hp->Nat->Prop}(hw:Aj ops s.env o=some true)
  (hrun:Fy C.P f->∀(ρ:Lk) (a:Act) (w:World),Aq C F ρ s a w->∃vs,(execOp a.eval o).run C.P w=.ok (.enter f vs) w/\vs.size=ds.length/\∀(i:Nat) (d:D),ds[i]?=some d->AF ρ (AC F.X ρ s.H) w d (vs.getD i undef))
  (h:B0 C f ds s.H s.n k) (hk:∀d H n,k d H n->AO C F ops os ⟨Ae s.env o.dst d,H,n⟩ K):AO C F ops (o::os) s K:=by
 have prop:∀(ds':List D) (Φ:D->Prop),D1 [] [] ds ds'->BN C f ds' Φ->AN ds'->(∀d,Φ d->k d s.H (s.n+1))->AO C F ops (o::os) s K:=λds' Φ hv hc hp hk'=>by
  refine O2 (f:=f) hw (λρ a w hs=>?_) λd hd=>hk _ _ _ (hk' d hd)
  obtain⟨vs,h1,h2,h3⟩:=hrun hc.1 ρ a w hs;have q4:=P8 hv h3;refine⟨vs,h1,(hc.2 (AC F.X ρ s.H) w vs hs.mem.g (Ar hs.mem.gn hs.mem.size) (λb hb=>hs.mem.own_lt hb) (by rw[h2];exact hv.spec.1) λi d hd=>hp.out d (Bc hd) _ _ _ _ _ (q4 i d hd)).mono ?_⟩;rintro e w' ⟨v,d,a1,a2,a3,a4⟩;exact⟨v,d,a1,a2,a3,a4.nol⟩
 cases h with
 |pure ds' d hv hc hp hk'=>exact prop ds' _ hv hc hp λd' hd=>by subst hd;exact hk'
 |prop ds' Φ hv hc hp hk'=>exact prop ds' Φ hv hc hp hk'
 |own Φ hc hk'=>
  intro hd l hl ρ a w hs;cases l with
  |nil=>simp at hl
  |cons i l=>
   simp only[BU,CL]at hl;simp only[DF,Ad]at hd;obtain⟨vs,h1,h2,h3⟩:=hrun hc.1 ρ a w hs;simp only[wpOps,hl.1];rw[AL (Et hs.env hw)];refine .inl ?_;unfold Oper.wp;rw[h1];refine(hc.2 F ρ w vs hs.mem hs.fresh hs.gen h2 h3).mono ?_;rintro e w' ⟨v,d,H',n',ρ',rfl,hΦ,m,x,fr,g,r⟩;exact hk d H' n' (hk' d H' n' hΦ) hd.2 l hl.2 ρ' (a.put o.dst v) w' (hs.put m x fr g r hd.1)
 |lend Hf ds' d hH hv hc hp hflat hk'=>
  refine O2 (f:=f) (Φ:=λd'=>d'=d) hw (λρ a w hs=>?_) λd' hd=>by subst hd;exact hk _ _ _ hk'
  obtain⟨vs,h1,h2,h3⟩:=hrun hc.1 ρ a w hs;obtain⟨m,hO,hN⟩:=hH.mem hs.mem;obtain⟨l1,l2⟩:=hv.spec;refine⟨vs,h1,(hc.2 (AC F.X ρ Hf) w vs hs.mem.g (Ar hs.mem.gn hs.mem.size) (λb hb=>m.own_lt hb) (by omega) λi d hd=>?_).mono ?_⟩
  ·have hi:i<ds'.length:=(Au.1 hd).1
   have hd0:ds[i]?=some ds[i]:=CG;exact hp.out d (Bc hd) _ _ _ _ _ ((l2 i _ d hd0 hd).rep hs.mem hO hN (h3 i _ hd0))
  ·rintro e w' ⟨v,d',a1,a2,a3,a4⟩
   subst a3;exact⟨v,d',a1,a2,rfl,hflat _ _ _ _ _ _ _ a4⟩
def EF (C:AX)(X:EV)(kb:Nat)(g:Operand->D)(H:Hp)(n:Nat)(op:Op)(acc:Prop)(k:Prop->D->Hp->Nat->Prop):Prop:=match op with
 | .call ⟨.value fop,args,_⟩=>match g fop with
  | .clo (.func f) first captured=>match X.nat f (first++args.toList.map g++captured)with
   |some d=>k acc d H (n+1)
   |none=>acc/\B0 C f (first++args.toList.map g++captured) H n λd H' n'=>k True d H' n'
  |_=>False
 | .call ⟨.invoke r name,args,_⟩=>match g r with
  | .ifc t d0=>match X.mt t name with
   |some f=>acc/\B0 C f (d0::args.toList.map g) H n λd H' n'=>k True d H' n'
   |none=>False
  |_=>False
 | .call ⟨.builtin .append,_,_⟩=>match CQ X.tt H n kb g op with
  |some (d,H',p)=>k (p/\acc) d H' (n+1)
  |none=>match JP X.tt H n kb g op with
   |some (d,H',p)=>k (p/\acc) d H' (n+1)
   |none=>False
 | .makeSlice _ _ _=>match Dy X.tt n kb g op with
  |some (d,e,p)=>k (p/\acc) d (e::H) (n+1)
  |none=>False
 | .store _ _ _=>match Cw X.tt H g op with
  |some (j,e,p)=>k (p/\acc) (.prim (.tuple #[])) (Hp.set H j e) (n+1)
  |none=>False
 | .load _ _ | .alloc _ | .box _ _ | .buildSlice _ _ _=>match CR X.tt H n kb g op with
  |some (d,ne,p)=>k (p/\acc) d (BW ne H) (n+1)
  |none=>False
 | .indexAddr t x ix=>match B2 X.tt g op with
  |some (d,p)=>k (p/\acc) d H (n+1)
  |none=>MS X g t x ix acc λacc d _=>k acc d H (n+1)
 | .makeInterface _ _ | .lookup _ _ _ _=>FX X g op acc λacc d _=>k acc d H (n+1)
 | .binOp _ _ _ _ _=>MT X g op acc λacc d _=>k acc d H (n+1)
 |_=>Jo X g op acc λacc d _=>k acc d H (n+1)
theorem Rq (hX:CZ C X){kb:Nat}{s:St}{o:Oper}{os:List Oper}{acc:Prop}{k:Prop->D->Hp->Nat->Prop}{K:St->Prop}(hw:Aj ops s.env o=some true)(hk:∀acc d H n,k acc d H n->acc/\AO C F ops os ⟨Ae s.env o.dst d,H,n⟩ K)
  (h:EF C X kb (AU s.env) s.H s.n o.op acc k):acc/\AO C F ops (o::os) s K:=by
 have pe:Jo X (AU s.env) o.op acc (λacc d _=>k acc d s.H (s.n+1))->acc/\AO C F ops (o::os) s K:=λh=>by
  unfold Jo at h;split at h
  ·rename_i d p he
   obtain⟨⟨hp,ha⟩,h2⟩:=hk _ _ _ _ h;exact⟨ha,AO.p hX.tt hw he hp h2⟩
  ·exact h.elim
 have qe:FX X (AU s.env) o.op acc (λacc d _=>k acc d s.H (s.n+1))->acc/\AO C F ops (o::os) s K:=λh=>by
  unfold FX at h;split at h
  ·rename_i d p he
   obtain⟨⟨hp,ha⟩,h2⟩:=hk _ _ _ _ h;exact⟨ha,AO.q hX.tt hX.xt hw he hp h2⟩
  ·exact h.elim
 have le:(match CR X.tt s.H s.n kb (AU s.env) o.op with
   |some (d,ne,p)=>k (p/\acc) d (BW ne s.H) (s.n+1)
   |none=>False)->acc/\AO C F ops (o::os) s K:=λh=>by
  split at h
  ·rename_i d ne p he
   obtain⟨⟨hp,ha⟩,h2⟩:=hk _ _ _ _ h;exact⟨ha,AO.l' kb hX.tt hw he hp h2⟩
  ·exact h.elim
 unfold EF at h;split at h
 ·rename_i fop args tys ho
  split at h
  ·rename_i f first captured hf
   split at h
   ·rename_i d hn
    obtain⟨ha,h2⟩:=hk _ _ _ _ h;exact⟨ha,AO.nat hw ho hf rfl (hX.nat _ _ _ hn) h2⟩
   ·obtain⟨h1,h⟩:=h
    refine⟨h1,?_⟩;exact B0.ok hw (λhc ρ a w hs=>PT ho hf hc hs) h λd H n hk'=>(hk _ _ _ _ hk').2
  ·exact h.elim
 ·rename_i r name args tys ho
  split at h<;>first|exact h.elim|skip
  rename_i t d0 hr;split at h<;>first|exact h.elim|skip
  rename_i f hf;obtain⟨h1,h⟩:=h;refine⟨h1,?_⟩;exact B0.ok hw (λhc ρ a w hs=>PQ ho hr (hX.mt _ _ _ hf) hc hs) h λd H n hk'=>(hk _ _ _ _ hk').2
 ·split at h
  ·rename_i d H' p he
   obtain⟨⟨hp,ha⟩,h2⟩:=hk _ _ _ _ h;exact⟨ha,S9 kb hX.tt hw he hp h2⟩
  ·split at h<;>first|exact h.elim|skip
   rename_i d H' p he;obtain⟨⟨hp,ha⟩,h2⟩:=hk _ _ _ _ h;exact⟨ha,eO kb hX.tt hw he hp h2⟩
 ·split at h<;>first|exact h.elim|skip
  rename_i d e p he;obtain⟨⟨hp,ha⟩,h2⟩:=hk _ _ _ _ h;exact⟨ha,S2 kb hX.tt hw he hp h2⟩
 ·split at h<;>first|exact h.elim|skip
  rename_i j e p he;obtain⟨⟨hp,ha⟩,h2⟩:=hk _ _ _ _ h;exact⟨ha,AO.store hX.tt hw he hp h2⟩
 ·exact le h
 ·exact le h
 ·exact le h
 ·exact le h
 ·rename_i t x ix ho
  split at h
  ·rename_i d p he
   obtain⟨⟨hp,ha⟩,h2⟩:=hk _ _ _ _ h;exact⟨ha,AO.p hX.tt hw he hp h2⟩
  ·unfold MS at h
   split at h<;>first|exact h.elim|skip
   rename_i i h1;split at h<;>first|exact h.elim|skip
   rename_i e esz eby ez h2;split at h<;>first|exact h.elim|skip
   rename_i kk j h3;split at h<;>first|exact h.elim|skip
   rename_i nn sz es h4;obtain⟨ha,⟨rfl,hj⟩,d,hd,hk'⟩:=h;exact⟨ha,AO.idx hX.tt hw ho h1 h2 h3 h4 hj hd (hk _ _ _ _ hk').2⟩
 ·exact qe h
 ·exact qe h
 ·unfold MT at h
  split at h
  ·rename_i d p he
   obtain⟨⟨hp,ha⟩,h2⟩:=hk _ _ _ _ h;exact⟨ha,AO.p hX.tt hw he hp h2⟩
  ·exact qe h
 ·exact pe h
def CD (C:AX)(X:EV)(kb:Nat)(ops:Array Oper):List Nat->St->Prop->(Prop->St->Prop)->Prop
 | [],s,acc,K=>K acc s
 |i::l,s,acc,K=>match CP ops.toList i with
  |some o=>match o.guard with
   |none=>EF C X (kb+i) (AU s.env) s.H s.n o.op acc λacc d H n=>CD C X kb ops l ⟨Ae s.env o.dst d,H,n⟩ acc K
   |some _=>match Aj ops s.env o with
    |some b=>acc/\Gr b (EF C X (kb+i) (AU s.env) s.H s.n o.op True λacc d H n=>CD C X kb ops l ⟨Ae s.env o.dst d,H,n⟩ acc K)
      (CD C X kb ops l ⟨Ae s.env o.dst (.prim (.tuple #[])),s.H,s.n+1⟩ True K)
    |none=>False
  |none=>False
theorem Vl {i:Nat}{o:Oper}(h:CP ops.toList i=some o):ops.getD i default=o:=by
 have:=Iq h
 simp[AP,this]
theorem FG {kb:Nat}(hX:CZ C X){K:Prop->St->Prop}{K':St->Prop}(hK:∀acc s,K acc s->acc/\K' s):∀ {l:List Nat} {s:St} {acc:Prop},CD C X kb ops l s acc K ->
  acc/\AO C F ops (l.map λj=>ops.getD j default) s K'
 | [],s,acc,h=>⟨(hK _ _ h).1,AO.nil (hK _ _ h).2⟩
 |i::l,s,acc,h=>by
  simp only[CD]at h;split at h<;>first|exact h.elim|skip
  rename_i o ho;rw[BU,Vl ho];split at h
  ·rename_i hg
   exact Rq hX (by unfold Aj;rw[hg]) (λacc d H n h=>FG hX hK h) h
  ·split at h<;>first|exact h.elim|skip
   rename_i b hb;obtain⟨h0,h⟩:=h;cases b with
   |true=>exact⟨h0,(Rq hX hb (λacc d H n h=>FG hX hK h) h).2⟩
   |false=>exact⟨h0,AO.skip hb (FG hX hK h).2⟩
def HY (X:EV)(kb:Nat)(e:AH)(n:Nat)(g:Operand->D)(op:Op)(acc:Prop)(k:Prop->D->AH->Prop):Prop:=match op with
 | .store _ _ _=>match Cw X.tt [e] g op with
  |some (_,e',p)=>k (p/\acc) (.prim (.tuple #[])) e'
  |none=>False
 |_=>match CQ X.tt [e] n kb g op with
  |some (d,[e'],p)=>k (p/\acc) d e'
  |_=>False
def Co (C:AX)(X:EV)(kb:Nat)(ops:Array Oper)(iw:Nat)(ia:Option Nat)(R:Hp)(clo:List Nat)(n:Nat):List Nat->AZ->Hp->Option AH->Option AH->Prop->(Prop->AZ->Hp->AH->AH->Prop)->Prop
 | [],env,N,some e,some e',acc,K=>K acc env N e e'
 | [],_,_,_,_,_,_=>False
 |i::l,env,N,accE,acc',acc,K=>match CP ops.toList i with
  |some o=>match Nat.beq i iw with
   |true=>match acc' with
    |some _=>False
    |none=>match accE with
     |some e=>match o.guard with
      |none=>HY X (kb+i) e (n+i) (AU env) o.op acc λacc d e'=>Co C X kb ops iw ia R clo n l (Ae env o.dst d) N accE (some e') acc K
      |some _=>False
     |none=>False
   |false=>match Fm ia i with
    |true=>match accE with
     |some _=>False
     |none=>match o.guard with
      |none=>C5 C X (kb+i) (AU env) R (n+i) o.op acc λacc d ne=>match ne with
       |some e=>Co C X kb ops iw ia R clo n l (Ae env o.dst d) N (some e) acc' acc K
       |none=>False
      |some _=>False
    |false=>match o.guard with
     |none=>C5 C X (kb+i) (AU env) (FM ia accE R (BL i clo)) (n+i) o.op acc λacc d ne=>Co C X kb ops iw ia R clo n l (Ae env o.dst d) (BW ne N) accE acc' acc K
     |some _=>match Aj ops env o with
      |some b=>acc/\Gr b (C5 C X (kb+i) (AU env) (FM ia accE R (BL i clo)) (n+i) o.op True λacc d ne=>Co C X kb ops iw ia R clo n l (Ae env o.dst d) (BW ne N) accE acc' acc K)
        (Co C X kb ops iw ia R clo n l (Ae env o.dst (.prim (.tuple #[]))) N accE acc' True K)
      |none=>False
  |none=>False
theorem WP (hX:CZ C X){kb iw:Nat}{ia:Option Nat}{R:Hp}{e:AH}{n:Nat}{env:AZ}{o:Oper}{acc:Prop}{k:Prop->D->AH->Prop}(hw:Aj ops env o=some true)(hk:∀acc d e',k acc d e'->acc)(h:HY X kb e n (AU env) o.op acc k):
  acc/\∃acc' d e',HA C F ops ⟨iw,ia,e,e',R⟩ n env o d/\k acc' d e':=by
 unfold HY at h;split at h
 ·split at h<;>first|exact h.elim|skip
  rename_i e' p he
  have:=hk _ _ _ h
  exact⟨this.2,_,_,_,HA.store (W:=⟨iw,ia,e,e',R⟩) hX.tt hw he this.1,h⟩
 ·split at h<;>first|exact h.elim|skip
  rename_i d e' p he
  have:=hk _ _ _ h
  exact⟨this.2,_,_,_,TE (W:=⟨iw,ia,e,e',R⟩) kb hX.tt hw he this.1,h⟩
theorem G9 (hX:CZ C X){kb iw:Nat}{ia:Option Nat}{R:Hp}{clo:List Nat}{n:Nat}(hwa:ia≠some iw)(hclo:∀j∈clo,CO ops iw j){K:Prop->AZ->Hp->AH->AH->Prop}(hK:∀acc env N e e',K acc env N e e'->acc):
  ∀ {l:List Nat} {env:AZ} {N:Hp} {accE acc':Option AH} {acc:Prop},Co C X kb ops iw ia R clo n l env N accE acc' acc K ->
  acc/\∃q env' N' e e',(∀a,accE=some a->e=a)/\(∀a,acc'=some a->e'=a)/\Fl C F ops ⟨iw,ia,e,e',R⟩ n l env N env' N'/\K q env' N' e e'
 | [],env,N,accE,acc',acc,h=>by
  cases accE with
  |none=>simp only[Co]at h
  |some e=>cases acc' with
   |none=>simp only[Co]at h
   |some e'=>
    simp only[Co]at h;exact⟨hK _ _ _ _ _ h,_,_,_,e,e',λa ha=>by cases ha;rfl,λa ha=>by cases ha;rfl,.nil _ _,h⟩
 |i::l,env,N,accE,acc',acc,h=>by
  simp only[Co]at h;split at h<;>first|exact h.elim|skip
  rename_i o ho;have ho:=Iq ho;split at h
  ·rename_i hb
   have hb:=Ab hb;split at h<;>first|exact h.elim|skip
   split at h<;>first|exact h.elim|skip
   rename_i e0;split at h<;>first|exact h.elim|skip
   rename_i hg;have hw:Aj ops env o=some true:=by unfold Aj;rw[hg]
   obtain⟨h1,acc1,d,e1,h2,h3⟩:=WP (F:=F) (iw:=iw) (ia:=ia) (R:=R) hX hw (λacc d e' h=>(G9 hX hwa hclo hK h).1) h;obtain⟨_,q,env',N',e,e',h4,h5,h6,h7⟩:=G9 hX hwa hclo hK h3
   have:=h4 _ rfl
   subst this
   have:=h5 _ rfl
   subst this;exact⟨h1,q,env',N',_,_,h4,by simp,.cons (ne:=none) ho (.inr (.inl ⟨hb,by rw[hb];exact hwa,rfl,h2⟩)) h6,h7⟩
  ·rename_i hb
   have hne:i≠iw:=λhi=>by rw[hi,FU]at hb;cases hb
   split at h
   ·rename_i hi
    have hi:=LZ.1 hi;split at h<;>first|exact h.elim|skip
    split at h<;>first|exact h.elim|skip
    rename_i hg;have hw:Aj ops env o=some true:=by unfold Aj;rw[hg]
    obtain⟨h1,acc1,d,ne,h2,h3⟩:=OU (F:=F) hX hw (λacc d ne h=>by
     split at h
     ·exact(G9 hX hwa hclo hK h).1
     ·exact h.elim) h
    split at h3<;>first|exact h3.elim|skip
    rename_i e0;obtain⟨_,q,env',N',e,e',h4,h5,h6,h7⟩:=G9 hX hwa hclo hK h3
    have:=h4 _ rfl
    subst this;exact⟨h1,q,env',N',_,_,by simp,h5,.cons (ne:=none) ho (.inr (.inr ⟨hne,hi,rfl,h2⟩)) h6,h7⟩
   ·rename_i hi
    have hi:ia≠some i:=λh=>by rw[LZ.2 h]at hi;cases hi
    have st:∀ {e:AH} {d:D} {ne:Option AH} (e':AH),(∀a,accE=some a->e=a)->Ax C F ops (FM ia accE R (BL i clo)) (n+i) env o d ne->JM C F ops ⟨iw,ia,e,e',R⟩ (n+i) env ⟨i,o,d,ne⟩:=λ{e d ne} e' hacc hst=>by
     refine .inl ⟨hne,hi,?_⟩;unfold FM at hst;cases ia with
     |some ia=>exact .inr hst
     |none=>
      cases accE with
      |none=>exact .inr hst
      |some a=>
       have:=hacc a rfl
       subst this;dsimp only at hst;cases hm:BL i clo with
       |true=>rw[hm]at hst;exact .inl ⟨rfl,hclo i (C6.1 hm),hst⟩
       |false=>rw[hm]at hst;exact .inr hst
    have step:∀acc,Aj ops env o=some true->(C5 C X (kb+i) (AU env) (FM ia accE R (BL i clo)) (n+i) o.op acc λacc d ne=>Co C X kb ops iw ia R clo n l (Ae env o.dst d) (BW ne N) accE acc' acc K) ->
      acc/\∃q env' N' e e',(∀a,accE=some a->e=a)/\(∀a,acc'=some a->e'=a)/\Fl C F ops ⟨iw,ia,e,e',R⟩ n (i::l) env N env' N'/\K q env' N' e e':=λacc hw h=>by
     obtain⟨h1,acc1,d,ne,h2,h3⟩:=OU (F:=F) hX hw (λacc d ne h=>(G9 hX hwa hclo hK h).1) h;obtain⟨_,q,env',N',e,e',h4,h5,h6,h7⟩:=G9 hX hwa hclo hK h3;exact⟨h1,q,env',N',e,e',h4,h5,.cons ho (st e' h4 h2) h6,h7⟩
    split at h
    ·rename_i hg
     exact step _ (by unfold Aj;rw[hg]) h
    ·split at h<;>first|exact h.elim|skip
     rename_i b hb;obtain⟨h0,h⟩:=h;cases b with
     |true=>exact⟨h0,(step _ hb h).2⟩
     |false=>
      obtain⟨_,q,env',N',e,e',h4,h5,h6,h7⟩:=G9 hX hwa hclo hK h;exact⟨h0,q,env',N',e,e',h4,h5,.cons (ne:=none) ho (st e' h4 (Ax.skip hb)) h6,h7⟩
structure Ba (C:AX)(F F':AG):Prop where
 nt:F'.nt=F.nt
 sz:F.w0.heap.size<=F'.w0.heap.size
 mem:∀ {ρ:Lk} {H:Hp} {w:World},AJ C F' ρ H w->AJ C F ρ H w
 X:∀b,F.X b->F'.X b
 df:∃ms:List Deferred,F'.df=ms++F.df/\(∃rs:List Nat,ms=rs.map (λr=>{ target:=.collected r,args:=#[] })/\rs.Nodup /\
  ∀r∈rs,F.w0.heap.size<=r/\r<F'.w0.heap.size/\F'.X r/\∀(ρ:Lk) (H:Hp) (w:World),AJ C F' ρ H w->w.heap[r]?=some (.deferred (some [])))
theorem Ba.refl (F:AG):Ba C F F:=⟨rfl,Ag _,λh=>h,λ_ h=>h,[],rfl,[],rfl,.nil,by simp⟩
theorem Ba.trans {F F' F'':AG}(h:Ba C F F')(k:Ba C F' F''):Ba C F F'':=by
 obtain⟨h1,h2,h3,h4,ms,e1,rs,e2,n1,q1⟩:=h;obtain⟨k1,k2,k3,k4,ms',e1',rs',e2',n1',q1'⟩:=k;refine⟨k1.trans h1,Ar h2 k2,λh=>h3 (k3 h),λb hb=>k4 b (h4 b hb),ms'++ms,by rw[e1',e1,Dm],rs'++rs,by rw[e2,e2',ER],?_,?_⟩
 ·refine DH.2 ⟨n1',n1,λx hx y hy he=>?_⟩
  have:=(q1' x hx).1
  have:=(q1 y hy).2.1
  omega
 ·intro r hr
  rcases BO.1 hr with hr|hr
  ·obtain⟨x1,x2,x3,x4⟩:=q1' r hr
   exact⟨by omega,x2,x3,x4⟩
  ·obtain⟨x1,x2,x3,x4⟩:=q1 r hr
   exact⟨x1,by omega,k4 _ x3,λρ H w m=>x4 ρ H w (k3 m)⟩
def DB (C:AX)(F:AG)(Q:Exit->AG->St->Prop):Exit->Act->World->Prop:=λe a w=>∃F' s' ρ',Ba C F F'/\Q e F' s'/\Aq C F' ρ' s' a w
theorem DB.up {F F':AG}{Q:Exit->AG->St->Prop}(h:Ba C F F'){e:Exit}{a:Act}{w:World}:DB C F' Q e a w->DB C F Q e a w:=λ⟨F2,s',ρ',h1,h2,h3⟩=>⟨F2,s',ρ',h.trans h1,h2,h3⟩
structure AQ (C:AX)(B:AG)(rd:Option Nat)(F:AG)(c:Code)(s:St)(Q:Exit->AG->St->Prop):Prop where
 out:Ba C B F->Bo B.nt c=true->∀(ρ:Lk) (a:Act) (w:World),Aq C F ρ s a w->c.wpIn (fw rd) 0 C.P (DB C B Q) a w
variable {s:St} {rd:Option Nat} {B:AG} {Q:Exit->AG->St->Prop}
theorem AQ.mono {c:Code}{Q':Exit->AG->St->Prop}(h:AQ C B rd F c s Q)(hq:∀e F s,Q e F s->Q' e F s):AQ C B rd F c s Q':=
 ⟨λhB hd ρ a w hs=>wpIn_mono (h.out hB hd ρ a w hs) λe a w ⟨F',s',ρ',h1,h2,h3⟩=>⟨F',s',ρ',h1,hq _ _ _ h2,h3⟩⟩
theorem AQ.skip (h:Q .normal F s):AQ C B rd F .skip s Q:=⟨λhB _ ρ _ _ hs=>wpIn_skip ⟨F,s,ρ,hB,h,hs⟩⟩
theorem AQ.ret (h:Q .ret F s):AQ C B rd F .ret s Q:=⟨λhB _ ρ _ _ hs=>wpIn_ret ⟨F,s,ρ,hB,h,hs⟩⟩
theorem AQ.exit {i:Nat}(h:Q (.exit i) F s):AQ C B rd F (.exit i) s Q:=⟨λhB _ ρ _ _ hs=>wpIn_exit ⟨F,s,ρ,hB,h,hs⟩⟩
def Gl (n:Prop)(r:Exit->Prop)(e:Exit):Prop:=match e with
 | .normal=>n
 | .ret=>r .ret
 | .exit j=>r (.exit j)
 | .goto l=>r (.goto l)
 | .panic c=>r (.panic c)
 | .outgrown=>r .outgrown
theorem Tk {nt:Nat}{a b:Code}(h:Bo nt (.seq a b)=true):Bo nt a=true/\Bo nt b=true:=by simpa[Bo]using h
theorem AQ.seq {a b:Code}(h:AQ C B rd F a s (λe F s=>Gl (AQ C B rd F b s Q) (λe=>Q e F s) e)):AQ C B rd F (.seq a b) s Q:=
 ⟨λhB hd ρ x w hs=>by
  obtain⟨d1,d2⟩:=Tk hd;refine wpIn_seq (wpIn_mono (h.out hB d1 ρ x w hs) ?_);rintro e a' w' ⟨F',s',ρ',h1,h2,h3⟩;cases e with
  |normal=>exact(show AQ C B rd F' b s' Q from h2).out h1 d2 ρ' a' w' h3
  |ret=>exact⟨F',s',ρ',h1,h2,h3⟩
  |exit j=>exact⟨F',s',ρ',h1,h2,h3⟩
  |goto l=>exact⟨F',s',ρ',h1,h2,h3⟩
  |panic c=>exact⟨F',s',ρ',h1,h2,h3⟩
  |outgrown=>exact⟨F',s',ρ',h1,h2,h3⟩⟩
def HG (d:D)(y n:Prop):Prop:=match d with
 | .prim (.bool b)=>Gr b y n
 |_=>False
theorem AQ.cond {c:Operand}{a b:Code}(h:HG (AU s.env c) (AQ C B rd F a s Q) (AQ C B rd F b s Q)):AQ C B rd F (.cond c a b) s Q:=by
 unfold HG at h;split at h
 ·rename_i t ht
  refine⟨λhB hd ρ x w hs=>?_⟩;simp only[Bo,Ad]at hd;have hc:x.eval c=.bool t:=by
   have:=BI hs.env c
   rw[ht]at this;generalize x.eval c=v at this;cases this;rfl
  refine wpIn_cond_split hc (λht=>?_) λht=>?_
  ·subst ht;exact AQ.out h hB hd.1 ρ x w hs
  ·subst ht;exact AQ.out h hB hd.2 ρ x w hs
 ·exact h.elim
def HL (i:Nat)(n:Prop)(r:Exit->Prop)(e:Exit):Prop:=match e with
 | .exit j=>bif Nat.beq j i then n else r (.exit j)
 | .normal=>r .normal
 | .ret=>r .ret
 | .goto l=>r (.goto l)
 | .panic c=>r (.panic c)
 | .outgrown=>r .outgrown
theorem AQ.block {i:Nat}{b:Code}(h:AQ C B rd F b s (λe F s=>HL i (Q .normal F s) (λe=>Q e F s) e)):AQ C B rd F (.block i b) s Q:=
 ⟨λhB hd ρ x w hs=>by
  refine wpIn_block (wpIn_mono (h.out hB (by simpa[Bo]using hd) ρ x w hs) ?_);rintro e a' w' ⟨F',s',ρ',h1,h2,h3⟩;cases e with
  |normal=>exact⟨F',s',ρ',h1,h2,h3⟩
  |ret=>exact⟨F',s',ρ',h1,h2,h3⟩
  |exit j=>
   simp only[HL]at h2;simp only[Exit.inBlock];cases hb:Nat.beq j i with
   |true=>rw[hb]at h2;rw[AL (Ab hb)];exact⟨F',s',ρ',h1,h2,h3⟩
   |false=>rw[hb]at h2;rw[AM (λhj=>by rw[hj,FU]at hb;cases hb)];exact⟨F',s',ρ',h1,h2,h3⟩
  |goto l=>exact⟨F',s',ρ',h1,h2,h3⟩
  |panic c=>exact⟨F',s',ρ',h1,h2,h3⟩
  |outgrown=>exact⟨F',s',ρ',h1,h2,h3⟩⟩
def OB:Op->Bool
 | .defer _=>true
 |_=>false
def DS:List Oper->Bool
 | []=>true
 |o::l=>match OB o.op with
  |true=>false
  |false=>DS l
theorem VU {l:List Oper}(h:DS l=true):∀o∈l,∀c,o.op≠.defer c:=by
 induction l with
 |nil=>intro o ho;cases ho
 |cons o l ih=>
  intro o' ho c hc;have h1:OB o.op=false/\DS l=true:=by
   rw[DS]at h;generalize OB o.op=b at h⊢;cases b with
   |true=>cases h
   |false=>exact⟨rfl,h⟩
  rcases Ak.1 ho with h2|h2
  ·rw[<-h2,hc]at h1;cases h1.1
  ·exact ih h1.2 o' h2 c hc
theorem Gc (h:DS ops.toList=true):∀(i:Nat) (o:Oper),ops[i]?=some o->∀c,o.op≠.defer c:=λi o ho=>VU h o (DG.2 (Em ho))
theorem AO.run {K:St->Prop}{l:List Nat}(h:AO C F ops (l.map λj=>ops.getD j default) s K)(hlt:∀j∈l,j<ops.size)(hd:ops.toList.all (Bv F.nt)=true){ρ:Lk}{a:Act}{w:World}(hs:Aq C F ρ s a w):wpOps C.P ops (GU C F K) l a w:=by
 refine h ?_ l ?_ ρ a w hs
 ·rw[CK]
  intro o' ho';obtain⟨j,hj,rfl⟩:=Bk.1 ho';refine CK.1 hd _ ?_;rw[AP,BB (hlt j hj)];simp
 ·rw[List.map_map]
  refine Mg λj hj=>?_
  simp[AP,BB (hlt j hj)]
theorem KF {K:St->Prop}(hB:Ba C B F)(hK:∀s,K s->Q .normal F s){e:Exit}{a:Act}{w:World}(h:GU C F K e a w):e=.normal/\DB C B Q .normal a w:=by
 obtain⟨h0,s',ρ',h1,h2⟩:=h;exact⟨h0,F,s',ρ',hB,hK _ h1,h2⟩
theorem Ht {i:Nat}{d:Bool}(hB:Ba C B F)(h:Bo B.nt (.region i ops d)=true):ops.toList.all (Bv F.nt)=true:=by rw[hB.nt];exact h
theorem AQ.reg {i:Nat}(hX:CZ C X)(kb:Nat)(hnd:DS ops.toList=true)(h:CD C X kb ops (List.range ops.size) s True λacc s=>acc/\Q .normal F s):AQ C B rd F (.region i ops false) s Q:=by
 refine⟨λhB hd ρ a w hs=>wpIn_region ?_⟩;have hd:=Ht hB hd;have h1:=(FG (F:=F) (K':=Q .normal F) hX (λacc s h=>h) h).2.run (λj hj=>List.mem_range.1 hj) hd hs
 have:=EZ (rd:=rd) (Q:=DB C B Q) (l2:=[]) (λ_ _ _ h=>KF hB (λ_ h=>h) h) (Gc hnd) _ a w h1
 rwa [Ek]at this
theorem eF {i:Nat}(hX:CZ C X)(kb:Nat)(pre suf:List Nat)(hc:(Fi ops pre suf&&DS ops.toList)=true)
  (h:DD C X kb ops s.H s.n pre s.env [] True λacc env N=>CD C X kb ops suf ⟨env,N++s.H,s.n+Bs ops.toList⟩ acc λacc s=>acc/\Q .normal F s):AQ C B rd F (.region i ops true) s Q:=by
 have hsz:ops.size=Bs ops.toList:=by rw[OC,Gu]
 rw[<-hsz]at h;simp only[Ad]at hc;obtain⟨_,acc,env,N,h1,h2⟩:=LK (F:=F) hX (λacc env N h=>(FG (F:=F) (K':=Q .normal F) hX (λacc s h=>h) h).1) h;refine⟨λhB hd ρ a w hs=>?_⟩;have hd:=Ht hB hd;refine af hX.mixed hc.1 h1 (λhlt ρ a w hs=>?_) hd ρ a w hs;have h3:=(FG (F:=F) (K':=Q .normal F) hX (λacc s h=>h) h2).2.run hlt hd hs
 have:=EZ (rd:=rd) (Q:=DB C B Q) (l2:=[]) (λ_ _ _ h=>KF hB (λ_ h=>h) h) (Gc hc.2) _ a w h3
 rwa [Ek]at this
def MN (H:Hp)(k:Nat)(K:AH->Hp->Prop):Prop:=match Hp.get H k with
 |some e=>K e (Hp.del H k)
 |none=>False
theorem U2 {i:Nat}{W:WR}{pre suf:List Nat}{envF:AZ}{N:Hp}(hm:C.P.follows .mixedOrders=true)(hc:Fi ops pre suf=true)(hnd:DS ops.toList=true)
  (hH:s.H.Perm W.start) (hga:∀ia,W.ia=some ia->W.e.g=s.n+ia/\CO ops W.iw ia/\ia∈pre) (hiw:W.iw∈pre) (hwg:W.e'.g=W.e.g\/W.e'.g=s.n+W.iw)
  (hpre:Fl C F ops W s.n pre s.env [] envF N)
  (h:AO C F ops (suf.map λj=>ops.getD j default) ⟨envF,N++W.e'::W.R,s.n+ops.size⟩ (Q .normal F)):AQ C B rd F (.region i ops true) s Q:=
 ⟨λhB hd ρ a w hs=>wpIn_region_any hm (Gd (λ_ _ _ h=>KF (F:=F) hB (λ_ h=>h) h) (Gc hnd) _ _ _ _ (S8 (Q:=λe s=>Q e F s) hc hH hga hiw hwg hpre h (Ht hB hd) ρ a w hs))⟩
theorem Mc {i:Nat}(hX:CZ C X)(kb:Nat)(pre suf:List Nat)(iw ia:Nat)(clo:List Nat)(hc:(Fi ops pre suf&&DS ops.toList)=true)(hcl:(BL iw pre&&BL ia pre&&BL ia clo && !(Nat.beq ia iw)&&Eu clo (Cb (Eh ops (pre++suf) []) iw))=true)
  (h:Co C X kb ops iw (some ia) s.H clo s.n pre s.env [] none none True λacc env N e e'=>(e.g=s.n+ia/\(e'.g=e.g\/e'.g=s.n+iw))/\CD C X kb ops suf ⟨env,N++e'::s.H,s.n+Bs ops.toList⟩ acc λacc s=>acc/\Q .normal F s):
  AQ C B rd F (.region i ops true) s Q:=by
 have hsz:ops.size=Bs ops.toList:=by rw[OC,Gu]
 rw[<-hsz]at h;simp only[Ad,El]at hcl hc;obtain⟨⟨⟨⟨c1,c2⟩,c3⟩,c4⟩,c5⟩:=hcl;have hclo:∀j∈clo,CO ops iw j:=λj hj=>Jt (Jv _ _ (by simp)) _ _ (Il.1 c5 j hj)
 have hne:ia≠iw:=λh=>by rw[h,FU]at c4;cases c4
 obtain⟨_,q,env,N,e,e',h1,h2,h3,⟨h4,h6⟩,h5⟩:=G9 (F:=F) hX (λh=>hne (by simpa using h)) hclo (λacc env N e e' h=>(FG (F:=F) (K':=Q .normal F) hX (λacc s h=>h) h.2).1) h;exact U2 (W:=⟨iw,some ia,e,e',s.H⟩) hX.mixed hc.1 hc.2 (List.Perm.refl _) (λj hj=>by cases hj;exact⟨h4,hclo ia (C6.1 c3),C6.1 c2⟩) (C6.1 c1) h6 h3 (FG (F:=F) hX (λacc s h=>h) h5).2
structure Wk (s s':St):Prop where
 h:CT s.H s'.H s.H s'.H
 e:ID s.H s'.H s.env s'.env
 n:s.n<=s'.n
theorem AQ.weak {c:Code}(s':St)(h:Wk s s')(hk:AQ C B rd F c s' Q):AQ C B rd F c s Q:=⟨λhB hd ρ a w hs=>hk.out hB hd ρ a w (hs.weak h.h h.e h.n)⟩
theorem PY {Fe:Fence}{n:Nat}{P:Program}{c:Code}{Q:Exit->Act->World->Prop}(I:Nat->Act->World->Prop){m:Nat}{a:Act}{w:World}(h₀:I m a w)
  (round:∀m a w,I m a w->c.wpIn Fe n P (Exit.then (λa' w'=>∃m',m'<m/\I m' a' w') Q) a w):(Code.loop c).wpIn Fe n P Q a w:=by
 intro b k cs hro hb hr;have key:∀m a w,I m a w->∃e a' w',Q e a' w'/\ArrivesIn (Machine.fenced P Fe) P (lone (b.atR a (.code c::.inLoop c::k)) cs w) b k cs e a' w':=by
  intro m
  induction m using Nat.strongRecOn with
  |_ m ih=>
   intro a w hI;obtain⟨e,a₁,w₁,hq,harr⟩:=round m a w hI b (.inLoop c::k) cs hro hb hr;cases e with
   |normal=>
    obtain⟨m',hlt,hI₁⟩:=hq;obtain⟨e₂,a₂,w₂,hq₂,harr₂⟩:=ih m' hlt a₁ w₁ hI₁;exact⟨e₂,a₂,w₂,hq₂,.of_steps (StepsIn.trans harr (.one (fenced_calm hb hr rfl) stepR_inLoop)) harr₂⟩
   |exit id=>exact⟨_,a₁,w₁,hq,.pass (x:=.inLoop c) rfl (λ_ _=>.inl (by simp)) harr⟩
   |goto l=>exact⟨_,a₁,w₁,hq,.pass (x:=.inLoop c) rfl (λ_ _=>.inl (by simp)) harr⟩
   |ret=>exact⟨_,a₁,w₁,hq,.pass (x:=.inLoop c) rfl (λ_ _=>.inl (by simp)) harr⟩
   |panic ch=>exact⟨_,a₁,w₁,hq,.pass (x:=.inLoop c) rfl (λ_ _=>.inl (by simp)) harr⟩
   |outgrown=>exact⟨_,a₁,w₁,hq,.pass (x:=.inLoop c) rfl (λ_ _=>.inl (by simp)) harr⟩
 obtain⟨e,a',w',hq,harr⟩:=key _ a w h₀;exact⟨e,a',w',hq,.of_steps (.one (fenced_calm hb hr rfl) stepR_loop) harr⟩
theorem Oy {b:Code}{α:Type}(sh:α->St)(μ:α->Nat)(J:α->AG->Prop)(a0:α)(h0:J a0 F)(hs:Wk s (sh a0))
  (h:∀a F',J a F'->AQ C B rd F' b (sh a) (λe F' s'=>Gl (∃a',J a' F'/\μ a'<μ a/\Wk s' (sh a')) (λe=>Q e F' s') e)):AQ C B rd F (.loop b) s Q:=by
 refine⟨λhB hd ρ x w hsat=>?_⟩;have hd':Bo B.nt b=true:=by simpa[Bo]using hd
 refine PY (λm x w=>∃(F':AG) (a:α) (s1:St) (ρ:Lk),μ a=m/\Ba C B F'/\J a F'/\Wk s1 (sh a)/\Aq C F' ρ s1 x w) ⟨F,a0,s,ρ,rfl,hB,h0,hs,hsat⟩ ?_;rintro m x w ⟨F',a,s1,ρ,hm,hF,ha,hw,hsat⟩;refine wpIn_mono ((h a F' ha).out hF hd' ρ x w (hsat.weak hw.h hw.e hw.n)) ?_;rintro e a' w' ⟨F2,s2,ρ2,h1,h2,h3⟩;cases e with
 |normal=>
  obtain⟨a2,q1,q2,q3⟩:=(show ∃a',J a' F2/\μ a'<μ a/\Wk s2 (sh a')from h2)
  exact⟨μ a2,hm ▸ q2,F2,a2,s2,ρ2,rfl,h1,q1,q3,h3⟩
 |ret=>exact⟨F2,s2,ρ2,h1,h2,h3⟩
 |exit j=>exact⟨F2,s2,ρ2,h1,h2,h3⟩
 |goto l=>exact⟨F2,s2,ρ2,h1,h2,h3⟩
 |panic c=>exact⟨F2,s2,ρ2,h1,h2,h3⟩
 |outgrown=>exact⟨F2,s2,ρ2,h1,h2,h3⟩
theorem AQ.loop {b:Code}{α:Type}(sh:α->St)(μ:α->Nat)(J:α->Prop)(a0:α)(h0:J a0)(hs:Wk s (sh a0))
  (h:∀a F',J a->AQ C B rd F' b (sh a) (λe F' s'=>Gl (∃a',J a'/\μ a'<μ a/\Wk s' (sh a')) (λe=>Q e F' s') e)):AQ C B rd F (.loop b) s Q:=
 Oy sh μ (λa _=>J a) a0 h0 hs h
abbrev i64 (z:Int):D:=.prim (.int .i64 z)
abbrev str (s:ByteArray):D:=.prim (.string s)
abbrev Al (b:Bool):D:=.prim (.bool b)
abbrev BC:D:=.prim (.slice none 0 0)
theorem An {H:Hp}{d0 d:D}(hd:d0=d)(hp:BS d0):∃d',Fz H [] d0 d'/\BS d'/\d'=d:=⟨d0,.refl _,hp,hd⟩
theorem D1.refl {H Hf:Hp}:∀ds:List D,D1 H Hf ds ds
 | []=>trivial
 |_::l=>⟨.refl _,D1.refl l⟩
theorem Ch.same {C:AX}{f:Nat}{ds:List D}{k:D->Prop}(d:D)(hc:Af C f ds d)(hp:AN ds)(hk:k d):Ch C f ds k:=.mk ds d (D1.refl _) hc hp hk
theorem B0.same {C:AX}{f:Nat}{ds:List D}{H:Hp}{n:Nat}{k:D->Hp->Nat->Prop}(d:D)(hc:Af C f ds d)(hp:AN ds)(hk:k d H (n+1)):B0 C f ds H n k:=.pure ds d (D1.refl _) hc hp hk
end
def AG.subZ (ρ:Lk)(H:Hp)(w:World)(nt:Nat)(X' Z:Nat->Prop)(df:List Deferred):AG:=⟨w,X',λb=>(∃e∈H,ρ e.k e.g=some b)\/Z b,nt,ρ,df⟩
section
variable {C:AX} {F:AG} {ρ:Lk} {H:Hp} {w w1:World} {X' Z:Nat->Prop}
theorem AJ.enterZ (m:AJ C F ρ H w)(x:Ai ρ (AC F.X ρ H) w ρ (AC X' ρ H) w1)(h1:w1.os=w.os)(h2:w1.tape=w.tape)(h3:w1.output=w.output)
  (h4:∀b,b<w.heap.size->¬Z b->w1.heap[b]?=w.heap[b]?) (hZo:∀e∈H,∀b,ρ e.k e.g=some b->¬Z b) (hX:∀b,X' b->b<w1.heap.size) (hXo:∀e∈H,∀b,ρ e.k e.g=some b->¬X' b) (hZ:∀b,Z b->C.nG<=b) (nt:Nat) (df:List Deferred):
  AJ C (AG.subZ ρ H w1 nt X' Z df) ρ H w1 where
 hok:=⟨λe he=>by
  rcases m.hok.ent e he with h|⟨b,cs,a1,a2,a3⟩
  ·exact .inl h
  ·exact .inr ⟨b,cs,a1,by rw[h4 b (m.lt he a1) (hZo e he b a1)];exact a2,a3.mono x⟩,m.hok.inj,λe he b hb=>⟨hXo e he b hb,.inr (.inl ⟨e,he,hb⟩)⟩⟩
 os:=rfl
 tape:=rfl
 output:=rfl
 size:=Ag _
 blk:=λ_ _ _=>rfl
 xlt:=hX
 g0:=C.hG _ _ m.g ⟨h1,h2,h3,x.size,λb hb=>h4 b (CF hb (Ar m.gn m.size)) λhz=>AY (hZ b hz) (by omega)⟩
 gn:=Ar m.gn (Ar m.size x.size)
 gw:=λb h=>by
  rcases h with⟨e,he,hb⟩|h
  ·rcases(m.hok.own e he b hb).2 with h|h
   ·exact Ar m.gn h
   ·exact m.gw b h
  ·exact hZ b h
 lnk:=λ_ _ _ h=>h
 shp:=λ_ cs _ _ h=>⟨cs,_,h,rfl⟩
theorem AJ.leaveZ {nt:Nat}{df:List Deferred}{ρ':Lk}{H':Hp}{w':World}(m:AJ C F ρ H w1)(hX:∀b,F.X b->X' b)(hZ:∀b,Z b->F.w0.heap.size<=b\/F.Wr b)(m':AJ C (AG.subZ ρ H w1 nt X' Z df) ρ' H' w'):
  AJ C F ρ' H' w'/\Ai ρ (λb=>AC F.X ρ H b\/Z b) w1 ρ' (AC F.X ρ' H') w':=by
 have hwr:∀b,(∃e∈H,ρ e.k e.g=some b)->¬F.X b/\(F.w0.heap.size<=b\/F.Wr b):=λb ⟨e,he,hb⟩=>m.hok.own e he b hb
 have x:Ai ρ (λb=>AC F.X ρ H b\/Z b) w1 ρ' (AC F.X ρ' H') w':=by
  refine⟨m'.size,m'.lnk,λb hb hO=>⟨?_,m'.blk b hb λh=>?_⟩,m'.shp⟩
  ·rintro(h|⟨e,he,h⟩)
   ·exact hO (.inl (.inl h))
   ·rcases(m'.hok.own e he b h).2 with h'|h'|h'
    ·exact AY hb (Nat.not_lt.2 h')
    ·exact hO (.inl (.inr h'))
    ·exact hO (.inr h')
  ·rcases h with h|h
   ·exact hO (.inl (.inr h))
   ·exact hO (.inr h)
 refine⟨⟨⟨λe he=>?_,m'.hok.inj,λe he b hb=>?_⟩,m'.os.trans m.os,m'.tape.trans m.tape,m'.output.trans m.output,Ar m.size m'.size,λb hb hw=>?_,m.xlt,m.g0,m.gn,m.gw,
  λ_ _ _ h=>m'.lnk _ _ _ (m.lnk _ _ _ h),Fd m.shp x⟩,x⟩
 ·rcases m'.hok.ent e he with h|⟨b,cs,a1,a2,a3⟩
  ·exact .inl h
  ·exact .inr ⟨b,cs,a1,a2,a3.anti λb hb=>hb.imp (hX b) id⟩
 ·have h:=m'.hok.own e he b hb
  refine⟨λhx=>h.1 (hX b hx),?_⟩;rcases h.2 with h'|h'|h'
  ·exact .inl (Ar m.size h')
  ·exact(hwr b h').2
  ·exact hZ b h'
 ·have h1:=m'.blk b (CF hb m.size) λh=>by
   rcases h with h|h
   ·rcases(hwr b h).2 with h'|h'
    ·omega
    ·exact hw h'
   ·rcases hZ b h with h'|h'
    ·omega
    ·exact hw h'
  exact h1.trans (m.blk b hb hw)
theorem Ba.subZ (m:AJ C F ρ H w1)(hX:∀b,F.X b->X' b)(hZ:∀b,Z b->F.w0.heap.size<=b\/F.Wr b)(rs:List Nat)(hn:rs.Nodup)
  (hr:∀r∈rs,F.w0.heap.size<=r/\r<w1.heap.size/\X' r/\(¬Z r/\∀e∈H,ρ e.k e.g≠some r)/\w1.heap[r]?=some (.deferred (some []))):
  Ba C F (AG.subZ ρ H w1 F.nt X' Z (rs.map (λr=>{ target:=.collected r,args:=#[] })++F.df)):=
 ⟨rfl,m.size,λh=>(m.leaveZ hX hZ h).1,hX,_,rfl,rs,rfl,hn,λr hr'=>by
  obtain⟨a1,a2,a3,⟨a4,a5⟩,a6⟩:=hr r hr';refine⟨a1,a2,a3,λρ' H' w' m'=>?_⟩;have hb:=m'.blk r a2 λh=>by
   rcases h with⟨e,he,h⟩|h
   ·exact a5 e he h
   ·exact a4 h
  exact hb.trans a6⟩
def Df (w:World):List Nat->World
 | []=>w
 |r::rs=>Df (w.putObj r (.deferred none)) rs
theorem J5:∀(rs:List Nat) (w:World),(Df w rs).heap.size=w.heap.size
 | [],_=>rfl
 |r::rs,w=>by rw[Df,J5 rs];simp[World.putObj]
theorem Hq:∀(rs:List Nat) (w:World) (b:Nat),b∉rs->(Df w rs).heap[b]?=w.heap[b]?
 | [],_,_,_=>rfl
 |r::rs,w,b,h=>by
  rw[Df,Hq rs _ b (λhb=>h (by simp[hb])),World.putObj_heap_other (λhb=>h (by simp[hb]))]
theorem Pw:∀(rs:List Nat) (w:World),(Df w rs).os=w.os/\(Df w rs).tape=w.tape/\(Df w rs).output=w.output
 | [],_=>⟨rfl,rfl,rfl⟩
 |r::rs,w=>by rw[Df];exact Pw rs _
theorem PV {P:Program}{fn:Func}{tmps:Array Value}{R:Ending->World->Prop}:∀(rs:List Nat) (w:World),rs.Nodup->(∀r∈rs,w.heap[r]?=some (.deferred (some []))) ->
  (∃v,(results fn tmps).run P (Df w rs)=.ok v (Df w rs)/\R (.returned v) (Df w rs))->LeavesInM (fw none) 0 P fn tmps R (rs.map (λr=>{ target:=.collected r,args:=#[] })) .returning w
 | [],w,_,_,h=>h
 |r::rs,w,hn,hr,h=>by
  obtain⟨n1,n2⟩:=List.nodup_cons.1 hn;refine⟨by simp,.inl ⟨r,_,rfl,run_takeDeferred (hr r (by simp)),PV rs _ n2 (λq hq=>?_) h⟩⟩;rw[World.putObj_heap_other (λhb=>by subst hb;exact n1 hq)];exact hr q (by simp[hq])
theorem Ba.finish {fn:Func}{s:St}{a:Act}{tt:Nat->Option AI}{d:D}{p:Prop}{F':AG}(htt:Av C.P tt)(hF:Ba C F F')(hd0:F.df=[])(hs:Aq C F' ρ s a w)(h:Ej tt s fn.results.toList=some (d,p))(hp:p):
  ∃v w',LeavesIn (fw none) 0 C.P fn a.tmps (λe w2=>e=.returned v/\w2=w') [] .returning w' /\
   (∀R:Ending->World->Prop,R (.returned v) w'->LeavesInM (fw none) 0 C.P fn a.tmps R a.defers .returning w) /\
   AJ C F ρ s.H w'/\AF ρ (AC F'.X ρ s.H) w' d v/\(∀b,F.X b->F'.X b)/\Ai ρ (AC F'.X ρ s.H) w ρ (AC F'.X ρ s.H) w' /\
   (∀b,b<F.w0.heap.size->w'.heap[b]?=w.heap[b]?)/\w'.heap.size=w.heap.size/\∃F2,AJ C F2 ρ s.H w'/\F2.X=F'.X:=by
 obtain⟨ms,e1,rs,e2,hn,hr⟩:=hF.df;rw[hd0,Ek]at e1;have hdf:a.defers=rs.map (λr=>{ target:=.collected r,args:=#[] }):=by rw[hs.dfr,e1,e2]
 have mF:=hF.mem hs.mem;have hZ:∀b,b∈rs->F.w0.heap.size<=b\/F.Wr b:=λb hb=>.inl (hr b hb).1
 have hXr:∀b,b∈rs->F'.X b:=λb hb=>(hr b hb).2.2.1
 have hdr:∀r∈rs,w.heap[r]?=some (.deferred (some [])):=λr h=>(hr r h).2.2.2 _ _ _ hs.mem
 have hno:∀e∈s.H,∀b,ρ e.k e.g=some b->b∉rs:=λe he b hb hb'=>(hs.mem.hok.own e he b hb).1 (hXr b hb')
 have x:Ai ρ (AC F'.X ρ s.H) w ρ (AC F'.X ρ s.H) (Df w rs):=by
  refine⟨by rw[J5];exact Ag _,λ_ _ _ h=>h,λb hb hO=>⟨hO,Hq _ _ _ λh=>hO (.inl (hXr b h))⟩,λb cs T fz h=>⟨cs,fz,?_,rfl⟩⟩;rw[Hq _ _ _ λhb=>by rw[hdr b hb]at h;cases h];exact h
 obtain⟨o1,o2,o3⟩:=Pw rs w;have m2:=hs.mem.enterZ (Z:=λb=>b∈rs) (X':=F'.X) x o1 o2 o3 (λb _ hb=>Hq _ _ _ hb) hno (λb hb=>by rw[J5];exact CF (hs.mem.xlt b hb) hs.mem.size)
  (λe he b hb=>(hs.mem.hok.own e he b hb).1) (λb hb=>Ar mF.gn (hr b hb).1) F'.nt F'.df
 have hs2:Aq C (AG.subZ ρ s.H (Df w rs) F'.nt F'.X (λb=>b∈rs) F'.df) ρ s a (Df w rs):=⟨m2,hs.fresh,hs.gen,λt=>(hs.env t).mono x,hs.nt,hs.dfr⟩
 obtain⟨v,r1,r2⟩:=Nw htt hs2 h hp;have mF2:AJ C F ρ s.H (Df w rs):=by
  have mw:AJ C (AG.subZ ρ s.H w F'.nt F'.X (λb=>b∈rs) F'.df) ρ s.H w:=hs.mem.enterZ (.refl _ _ _) rfl rfl rfl (λ_ _ _=>rfl) hno (λb hb=>CF (hs.mem.xlt b hb) hs.mem.size) (λe he b hb=>(hs.mem.hok.own e he b hb).1)
   (λb hb=>Ar mF.gn (hr b hb).1) _ _
  refine(mF.leaveZ hF.X hZ (nt:=F'.nt) (df:=F'.df) (ρ':=ρ) (H':=s.H) (w':=Df w rs) ⟨⟨λe he=>?_,mw.hok.inj,mw.hok.own⟩,o1,o2,o3,by rw[J5];exact Ag _,λb hb hw=>Hq _ _ _ λh=>hw (.inr h),mw.xlt,mw.g0,mw.gn,mw.gw,λ_ _ _ h=>h,Fd mw.shp x⟩).1;rcases mw.hok.ent e he with h|⟨b,cs,a1,a2,a3⟩
  ·exact .inl h
  ·exact .inr ⟨b,cs,a1,by rw[Hq _ _ _ (hno e he b a1)];exact a2,a3.mono x⟩
 refine⟨v,Df w rs,⟨v,r1,rfl,rfl⟩,λR hR=>?_,mF2,r2,hF.X,x,λb hb=>Hq _ _ _ λh=>?_,J5 _ _,_,m2,rfl⟩
 ·rw[hdf];exact PV rs w hn hdr ⟨v,r1,hR⟩
 ·have:=(hr b h).1;omega
end
section
variable {C:AX} {X:EV}
def Ed (tt:Nat->Option AI)(s:St)(rs:List ResultVar)(k:D->Prop):Prop:=match Ej tt s rs with
 |some (d,p)=>p/\k d
 |none=>False
def aU (tt:Nat->Option AI)(rs:List ResultVar)(Φ:D->Prop)(e:Exit)(_:AG)(s:St):Prop:=match e with
 | .normal | .ret=>Ed tt s rs λd0=>∃d,Fz s.H [] d0 d/\BS d/\Φ d
 |_=>False
def Rf (tt:Nat->Option AI)(rs:List ResultVar)(Φ:D->Hp->Nat->Prop)(e:Exit)(_:AG)(s:St):Prop:=match e with
 | .normal | .ret=>Ed tt s rs λd=>Φ d s.H s.n
 |_=>False
theorem Lb {tt:Nat->Option AI}{s:St}{rs:List ResultVar}{k:D->Prop}(h:Ed tt s rs k):∃d p,Ej tt s rs=some (d,p)/\p/\k d:=by
 unfold Ed at h;split at h
 ·rename_i d p he;exact⟨d,p,he,h.1,h.2⟩
 ·exact h.elim
theorem BN.walk {f:Nat}{i:FI}{args:List D}{Φ:D->Prop}(hX:CZ C X)(hf:GT C.P f i)(hnt:Nat.ble args.length i.nt=true)
  (h:∀F:AG,AQ C F none F i.code ⟨CV 0 args,[],0⟩ (aU X.tt i.res Φ)):BN C f args Φ:=by
 obtain⟨fn,hf,hb,hn,hd,hni,hres⟩:=hf;rw[<-hni]at hnt;refine⟨⟨fn,i.code,hf,hb,hn⟩,λY w vs hG hnG hX' hvs hr=>?_⟩;have hnt:=A0 hnt;refine(Hx (rd:=none) (n:=0)).1 (callsIn_of_wp_marks hf hb AA ?_);have hown:∀b,AC Y nol [] b↔Y b:=by simp[AC]
 have hoe:AC Y nol []=Y:=funext λb=>propext (hown b)
 let F0:AG:=⟨w,Y,λ_=>False,fn.ntmps,nol,[]⟩
 have sat:Aq C F0 nol ⟨CV 0 args,[],0⟩ { tmps:=vs++Array.replicate (fn.ntmps-vs.size) undef,defers:=[] } w:=by
  refine⟨⟨⟨by simp,.nil,by simp⟩,rfl,rfl,rfl,Ag _,λ_ _ _=>rfl,hX',hG,hnG,by simp[F0],λ_ _ _ h=>h,λ_ cs _ _ h=>⟨cs,_,h,rfl⟩⟩,λ_ _ _=>rfl,by simp,λt=>?_,by simp[F0];omega,rfl⟩;show AF nol (AC Y nol []) w _ _;rw[hoe];exact Ll hvs hr t
 refine wpIn_mono ((h F0).out (.refl F0) hd nol _ w sat) ?_;rintro e a' w' ⟨F',s',ρ',hF,hq,hs'⟩;have key:Ed X.tt s' i.res (λd0=>∃d,Fz s'.H [] d0 d/\BS d/\Φ d)->LeavesInM (fw none) 0 C.P fn a'.tmps (λe w'=>∃v d,e=.returned v/\Below w.heap.size w w'/\Φ d/\AF nol Y w' d v) a'.defers .returning w':=λhq=>by
  obtain⟨d0,p,h1,h2,d,h3,h4,h5⟩:=Lb hq;rw[<-hres]at h1;obtain⟨v,w2,_,hl,mF,r2,hXX,x,hbl,hsz,F2,m2,hX2⟩:=hF.finish hX.tt rfl hs' h1 h2;refine hl _ ⟨v,d,rfl,⟨mF.os,mF.tape,mF.output,mF.size,λb hb=>mF.blk b hb (by simp[F0])⟩,h5,?_⟩;have hH:CT s'.H [] s'.H []:=by
   generalize s'.H=H0
   have:∀H1:Hp,CT H0 [] H1 []:=λH1=>by
    induction H1 with
    |nil=>exact .nil
    |cons e r ih=>exact .drop ih
   exact this H0
  obtain⟨m,hO,hN⟩:=hH.mem m2;have r3:=h3.rep m2 hO hN (by rw[hX2];exact r2);have r4:=h4 _ nol _ _ _ r3;exact r4.anti λb hb=>.inl (by rw[hX2];exact hXX b hb)
 cases e with
 |normal=>exact key hq
 |ret=>exact key hq
 |_=>exact hq.elim
theorem Ca.walk {f:Nat}{i:FI}{args:List D}{H:Hp}{n:Nat}{Φ:D->Hp->Nat->Prop}(hX:CZ C X)(hf:GT C.P f i)(hnt:Nat.ble args.length i.nt=true)
  (h:∀F:AG,AQ C F none F i.code ⟨CV 0 args,H,n⟩ (Rf X.tt i.res Φ)):Ca C f args H n Φ:=by
 obtain⟨fn,hf,hb,hn,hd,hni,hres⟩:=hf;rw[<-hni]at hnt;refine⟨⟨fn,i.code,hf,hb,hn⟩,λF ρ w vs m hfr hg hvs hr=>?_⟩;have hnt:=A0 hnt;refine(Hx (rd:=none) (n:=0)).1 (callsIn_of_wp_marks hf hb AA ?_);have sat:Aq C (F.sub ρ H w fn.ntmps) ρ ⟨CV 0 args,H,n⟩ { tmps:=vs++Array.replicate (fn.ntmps-vs.size) undef,defers:=[] } w:=
  ⟨m.enter _,hfr,hg,Ll hvs hr,by simp[AG.sub];omega,rfl⟩
 refine wpIn_mono ((h (F.sub ρ H w fn.ntmps)).out (.refl _) hd ρ _ w sat) ?_;rintro e a' w' ⟨F',s',ρ',hF,hq,hs'⟩;have key:Ed X.tt s' i.res (λd=>Φ d s'.H s'.n)->LeavesInM (fw none) 0 C.P fn a'.tmps (λe w'=>∃v d H' n' ρ',e=.returned v/\Φ d H' n'/\AJ C F ρ' H' w'/\Ai ρ (AC F.X ρ H) w ρ' (AC F.X ρ' H') w'/\GD ρ' n'/\(∀e∈H',e.g<n') /\
   AF ρ' (AC F.X ρ' H') w' d v) a'.defers .returning w':=λhq=>by
  obtain⟨d,p,h1,h2,h3⟩:=Lb hq;rw[<-hres]at h1;obtain⟨v,w2,_,hl,mF,r2,hXX,x,hbl,hsz,F2,m2,hX2⟩:=hF.finish hX.tt rfl hs' h1 h2;obtain⟨m',x'⟩:=m.leave mF;exact hl _ ⟨v,d,_,_,ρ',rfl,h3,m',x',hs'.fresh,hs'.gen,r2.anti λb hb=>hb.imp (hXX b) id⟩
 cases e with
 |normal=>exact key hq
 |ret=>exact key hq
 |_=>exact hq.elim
variable {B F:AG} {s:St} {rd:Option Nat} {Q:Exit->AG->St->Prop}
theorem O3 {a b:Code}(s':St)(h1:AQ C B rd F a s (λe F1 s1=>Gl (F1=F/\Wk s1 s') (λe=>Q e F1 s1) e))(h2:AQ C B rd F b s' Q):AQ C B rd F (.seq a b) s Q:=
 AQ.seq (h1.mono λe F1 s1 h=>by
  cases e with
  |normal=>
   obtain⟨h0,h3⟩:=(show F1=F/\Wk s1 s' from h)
   rw[h0];exact AQ.weak s' h3 h2
  |ret=>exact h
  |exit j=>exact h
  |goto l=>exact h
  |panic c=>exact h
  |outgrown=>exact h)
theorem dF {H Hf:Hp}{d d':D}(h:d=d'):Fz H Hf d d':=h ▸ .refl d
end
structure LR where
 fn:Nat
 tmps:Array Value
 ps:Array Nat
 as:Code
 bd:Code
 dfs:Nat
def LR.lp (R:LR)(st:LoopState)(j:Option Code):Loop:={ state:=st,pending:=j,fn:=R.fn,tmps:=R.tmps,params:=R.ps,assign:=R.as,body:=R.bd,defers:=R.dfs }
def LR.obj (R:LR)(j:Option Code):Obj:=.loop (R.lp (if j.isNone then .ready else .done) j)
def AG.wr (F:AG)(l:Nat):AG:=⟨F.w0,F.X,λb=>F.Wr b\/b=l,F.nt,F.r0,F.df⟩
section
variable {C:AX} {F B:AG} {ρ:Lk} {H:Hp} {w:World} {l:Nat} {R:LR}
theorem AJ.wr (m:AJ C F ρ H w)(hl:C.nG<=l):AJ C (F.wr l) ρ H w:=
 ⟨⟨m.hok.ent,m.hok.inj,λe he b hb=>⟨(m.hok.own e he b hb).1,(m.hok.own e he b hb).2.imp id .inl⟩⟩,m.os,m.tape,m.output,m.size,λb hb h=>m.blk b hb λh'=>h (.inl h'),m.xlt,m.g0,m.gn,λb h=>by
  rcases h with h|rfl
  ·exact m.gw b h
  ·exact hl,m.lnk,m.shp⟩
theorem AJ.unwr (m:AJ C (F.wr l) ρ H w)(hX:F.X l)(hb:w.heap[l]?=F.w0.heap[l]?):AJ C F ρ H w:=
 ⟨⟨m.hok.ent,m.hok.inj,λe he b hb=>⟨(m.hok.own e he b hb).1,by
  rcases(m.hok.own e he b hb).2 with h|h|h
  ·exact .inl h
  ·exact .inr h
  ·exact AY (h ▸ hX) (m.hok.own e he b hb).1⟩⟩,m.os,m.tape,m.output,m.size,λb hb' h=>by
   by_cases hl:b=l
   ·subst hl;exact hb
   ·exact m.blk b hb' λh'=>h'.elim h hl,m.xlt,m.g0,m.gn,λb h=>m.gw b (.inl h),m.lnk,m.shp⟩
theorem Ga (w:World)(l:Nat)(o:Obj):(w.putObj l o).os=w.os/\(w.putObj l o).tape=w.tape/\(w.putObj l o).output=w.output/\(w.putObj l o).heap.size=w.heap.size:=⟨rfl,rfl,rfl,by simp[World.putObj]⟩
theorem Ai.putL {O:Nat->Prop}(hO:O l){r:Loop}(h:w.heap[l]?=some (.loop r))(o:Obj):Ai ρ O w ρ O (w.putObj l o):=
 ⟨by rw[(Ga w l o).2.2.2];exact Ag _,λ_ _ _ h=>h,λb hb hb'=>⟨hb',World.putObj_heap_other λhbl=>hb' (by rw[hbl];exact hO)⟩,λb cs T fz hc=>⟨cs,_,by
  rw[World.putObj_heap_other λhbl=>by rw[hbl,h]at hc;cases hc];exact hc,rfl⟩⟩
theorem AJ.putL (m:AJ C F ρ H w)(hX:F.X l)(hW:F.Wr l){r:Loop}(h:w.heap[l]?=some (.loop r))(o:Obj):AJ C F ρ H (w.putObj l o):=by
 have x:=Ai.putL (ρ:=ρ) (O:=AC F.X ρ H) (.inl hX) h o;exact⟨⟨λe he=>by
  rcases m.hok.ent e he with h|⟨b,cs,a1,a2,a3⟩
  ·exact .inl h
  ·exact .inr ⟨b,cs,a1,by rw[World.putObj_heap_other λhb=>(m.hok.own e he b a1).1 (by rw[hb];exact hX)];exact a2,a3.mono x⟩,m.hok.inj,m.hok.own⟩,
  m.os,m.tape,m.output,by rw[(Ga w l o).2.2.2];exact m.size,λb hb hw=>by rw[World.putObj_heap_other λhbl=>hw (by rw[hbl];exact hW)];exact m.blk b hb hw,m.xlt,m.g0,m.gn,m.gw,m.lnk,Fd m.shp x⟩
def L1 (C:AX)(F:AG)(l:Nat)(R:LR)(ρ:Lk)(H:Hp)(w:World)(Φ:Option Code->D->Hp->Nat->Prop):Ending->World->Prop:=λe w'=>
 ∃v j d H' n' ρ',e=.returned v/\Φ j d H' n'/\w'.heap[l]?=some (R.obj j)/\AJ C (F.wr l) ρ' H' w'/\Ai ρ (AC F.X ρ H) w ρ' (AC F.X ρ' H') w'/\GD ρ' n'/\(∀e∈H',e.g<n')/\AF ρ' (AC F.X ρ' H') w' d v
abbrev DC:=Lk->(Nat->Prop)->World->Prop
def DC.ok (E:DC):Prop:=∀ρ O w ρ' O' w',E ρ O w->Ai ρ O w ρ' O' w'->E ρ' O' w'
def QK (C:AX)(E:DC)(f:Nat)(args:List D)(l:Nat)(R:LR)(H:Hp)(n:Nat)(Φ:Option Code->D->Hp->Nat->Prop):Prop:=
 Fy C.P f/\∀(F:AG) (ρ:Lk) (w:World) (vs:Array Value),AJ C F ρ H w->F.X l->C.nG<=l->E ρ (AC F.X ρ H) w->w.heap[l]?=some (R.obj none)->GD ρ n->(∀e∈H,e.g<n)->vs.size=args.length ->
  (∀(i:Nat) (d:D),args[i]?=some d->AF ρ (AC F.X ρ H) w d (vs.getD i undef))->Calls C.P f vs w (L1 C F l R ρ H w Φ)
def Lz (C:AX)(E:DC)(l:Nat)(R:LR)(ds:List D)(H:Hp)(n:Nat)(Φ:Option Code->Hp->Nat->Prop):Prop:=
 ∀(F:AG) (ρ:Lk) (w:World) (vs:Array Value),AJ C F ρ H w->F.X l->C.nG<=l->E ρ (AC F.X ρ H) w->w.heap[l]?=some (R.obj none)->GD ρ n->(∀e∈H,e.g<n)->vs.size=ds.length ->
  (∀(i:Nat) (d:D),ds[i]?=some d->AF ρ (AC F.X ρ H) w d (vs.getD i undef))->vs.size=R.ps.size /\
  RoundIn (fw none) 0 C.P l R.fn ((R.ps.zip vs).foldl (λtmps (t,a)=>tmps.setIfInBounds t a) R.tmps) R.as R.bd w (L1 C F l R ρ H w λj d H' n'=>d=Al j.isNone/\Φ j H' n')
structure HH (C:AX)(E:DC)(B F:AG)(l:Nat)(R:LR):Prop where
 X:F.X l
 nw:¬F.Wr l
 at0:F.w0.heap[l]?=some (R.obj none)
 up:∀ {ρ:Lk} {H:Hp} {w:World},AJ C (F.wr l) ρ H w->AJ C B ρ H w
 ng:C.nG<=l
 df:F.df=B.df
 ext:∀ {ρ:Lk} {H:Hp} {w:World},AJ C F ρ H w->E ρ (AC F.X ρ H) w
def HV (C:AX)(l:Nat)(R:LR)(j:Option Code)(F:AG):Prop:=∀ {ρ:Lk} {H:Hp} {w:World},AJ C F ρ H w->w.heap[l]?=some (R.obj j)
theorem HH.stat {E:DC}(h:HH C E B F l R):HV C l R none F:=λm=>(m.blk l (m.xlt l h.X) h.nw).trans h.at0
theorem Aq.reframe {F':AG}{s:St}{a:Act}(h:Aq C F ρ s a w)(m:AJ C F' ρ s.H w)(hX:F'.X=F.X)(hn:F'.nt=F.nt)(hd:F'.df=F.df):Aq C F' ρ s a w:=
 ⟨m,h.fresh,h.gen,λt=>by rw[hX];exact h.env t,h.nt.trans hn.symm,h.dfr.trans hd.symm⟩
variable {X:EV} {ops:Array Oper} {s:St} {E:DC} {Q:Exit->AG->St->Prop}
end
section
variable {C:AX} {X:EV} {E:DC} {l:Nat} {R:LR}
theorem L7 {F F':AG}{ρ:Lk}{H:Hp}{w:World}(m:AJ C F ρ H w)(h0:F'.w0=F.w0)(hX:F'.X=F.X)(hr:F'.r0=F.r0)(hW:∀b,F.Wr b->F'.Wr b)(hg:∀b,F'.Wr b->C.nG<=b):AJ C F' ρ H w:=by
 obtain⟨a1,a2,a3,a4,a5,a6,a7,a8,a9,a10,a11,a12⟩:=m;refine⟨⟨?_,a1.inj,?_⟩,?_,?_,?_,?_,?_,?_,?_,?_,hg,?_,?_⟩
 ·rw[hX];exact a1.ent
 ·intro e he b hb
  rw[hX,h0];exact⟨(a1.own e he b hb).1,(a1.own e he b hb).2.imp id (hW b)⟩
 ·rw[h0];exact a2
 ·rw[h0];exact a3
 ·rw[h0];exact a4
 ·rw[h0];exact a5
 ·rw[h0];exact λb hb h=>a6 b hb λh'=>h (hW b h')
 ·rw[h0,hX];exact a7
 ·rw[h0];exact a8
 ·rw[h0];exact a9
 ·rw[hr];exact a11
 ·rw[h0];exact a12
def WS (C:AX)(l:Nat)(R:LR)(tt:Nat->Option AI)(rs:List ResultVar)(Φ:Option Code->D->Hp->Nat->Prop)(e:Exit)(F:AG)(s:St):Prop:=match e with
 | .normal | .ret=>∃j,HV C l R j F/\Ed tt s rs λd=>Φ j d s.H s.n
 |_=>False
def Eg:List Nat->List D->AZ->AZ
 |t::ts,d::ds,env=>Eg ts ds ((t,d)::env)
 |_,_,env=>env
theorem QI:∀(ps:List Nat) (ds:List D) (env:AZ) (tm:Array Value) (vs:List Value) {ρ:Lk} {O:Nat->Prop} {w:World},vs.length=ds.length->(∀t∈ps,t<tm.size) ->
  (∀t,AF ρ O w (env.get t) (tm.getD t undef))->(∀(i:Nat) (d:D),ds[i]?=some d->AF ρ O w d (vs.getD i undef)) ->
  ∀t,AF ρ O w ((Eg ps ds env).get t) (((ps.zip vs).foldl (λtmps (x:Nat×Value)=>tmps.setIfInBounds x.1 x.2) tm).getD t undef)
 | [],_,_,_,_,_,_,_,_,_,h,_=>by simpa[Eg]using h
 |p::ps,[],env,tm,vs,_,_,_,hl,_,h,_=>by
  have:vs=[]:=HZ (by simpa using hl)
  subst this;simpa[Eg]using h
 |p::ps,d::ds,env,tm,[],_,_,_,hl,_,_,_=>by simp at hl
 |p::ps,d::ds,env,tm,v::vs,ρ,O,w,hl,hp,h,hr=>by
  intro t;simp only[Eg,List.zip_cons_cons,List.foldl_cons];refine QI ps ds _ _ vs (by simpa using hl) (λt ht=>by simp;exact hp t (by simp[ht])) (λt=>?_) (λi d hd=>?_) t
  ·rw[GM]
   have h0:=hr 0 d (by simp);simp at h0
   by_cases hpt:p=t
   ·subst hpt
    rw[AL rfl,AP,Cu,AL rfl,AL (hp p (by simp))];exact h0
   ·rw[AM hpt,AP,Cu,AM hpt,<-AP]
    exact h t
  ·have:=hr (i+1) d (by simpa using hd)
   simpa using this
theorem PP:∀(l:List (Nat×Value)) (tm:Array Value),(l.foldl (λtmps (x:Nat×Value)=>tmps.setIfInBounds x.1 x.2) tm).size=tm.size
 | [],_=>rfl
 |x::l,tm=>by rw[List.foldl_cons,PP l];simp
def QR:Exit->Option (Option Code)
 | .normal=>some none
 | .ret=>some (some .ret)
 | .exit i=>some (some (.exit i))
 | .goto t=>some (some (.goto t))
 |_=>none
def L0 (Φ:Option Code->Hp->Nat->Prop)(e:Exit)(_:AG)(s:St):Prop:=match QR e with
 |some j=>Φ j s.H s.n
 |none=>False
variable {F:AG}
theorem Va {ps:Array Nat}{as bd:Code}{fn dfs:Nat}{tm:Array Value}{env:AZ}{ρ1:Lk}{O1:Nat->Prop}{w1:World}{nt:Nat}(htm:tm.size=nt)(hps:∀t∈ps,t<nt)(hda:Bo nt as=true)(hdb:Bo nt bd=true)
  (henv:∀t,AF ρ1 O1 w1 (env.get t) (tm.getD t undef)) {ds:List D} {H:Hp} {n:Nat} {Φ:Option Code->Hp->Nat->Prop} (hds:ds.length=ps.size)
  (h:∀F:AG,AQ C F (some l) F as ⟨Eg ps.toList ds env,H,n⟩ λe F' s=>e=.normal/\F'=F/\∀F':AG,AQ C F' (some l) F' bd s (L0 Φ)):
  Lz C (λρ O w=>Ai ρ1 O1 w1 ρ O w) l ⟨fn,tm,ps,as,bd,dfs⟩ ds H n Φ:=by
 intro F ρ w vs m hFl hng hEw hlw hfr hg hvs hr;refine⟨hvs.trans hds,?_⟩;have hltl:l<w.heap.size:=(Bi.1 hlw).1;have mw:=m.wr hng;have hol:∀ {ρ':Lk} {H':Hp} {w':World},AJ C (F.wr l) ρ' H' w'->∀e∈H',∀b,ρ' e.k e.g=some b->b≠l:=λm' e he b hb hbl=>(m'.hok.own e he b hb).1 (by show F.X b;rw[hbl];exact hFl)
 have ent:∀ {ρ':Lk} {H':Hp} {w':World},AJ C (F.wr l) ρ' H' w'->AJ C (AG.subZ ρ' H' w' nt F.X (λ_=>False) []) ρ' H' w':=λm'=>m'.enterZ (.refl _ _ _) rfl rfl rfl (λ_ _ _=>rfl) (λ_ _ _ _ h=>h) (λb hb=>CF (m'.xlt b hb) m'.size)
  (λe he b hb=>(m'.hok.own e he b hb).1) (λb hz=>hz.elim) _ _
 have lv:∀ {ρ':Lk} {H':Hp} {w':World} {ρ2:Lk} {H2:Hp} {w2:World},AJ C (F.wr l) ρ' H' w'->AJ C (AG.subZ ρ' H' w' nt F.X (λ_=>False) []) ρ2 H2 w2->AJ C (F.wr l) ρ2 H2 w2/\Ai ρ' (AC F.X ρ' H') w' ρ2 (AC F.X ρ2 H2) w2:=λ{ρ' H' w' ρ2 H2 w2} m' m2=>by
  obtain⟨q1,q2⟩:=m'.leaveZ (X':=F.X) (Z:=λ_=>False) (λ_ h=>h) (λb hb=>hb.elim) m2;refine⟨q1,?_⟩
  have:(λb=>AC F.X ρ' H' b\/False)=AC F.X ρ' H':=funext λb=>propext ⟨λh=>h.elim id False.elim,.inl⟩
  have q2:Ai ρ' (λb=>AC F.X ρ' H' b\/False) w' ρ2 (AC F.X ρ2 H2) w2:=q2
  rwa [this]at q2
 have lat:∀ {ρ':Lk} {H':Hp} {w':World} {ρ2:Lk} {H2:Hp} {w2:World},AJ C (F.wr l) ρ' H' w'->l<w'.heap.size->AJ C (AG.subZ ρ' H' w' nt F.X (λ_=>False) []) ρ2 H2 w2->w2.heap[l]?=w'.heap[l]?:=λm' hl m2=>m2.blk l hl λh=>by
  rcases h with⟨e,he,h⟩|h
  ·exact hol m' e he l h rfl
  ·exact h
 refine roundIn_of_wpIn AA ?_
 let Fa:=AG.subZ ρ H w nt F.X (λ_=>False) []
 have sata:Aq C Fa ρ ⟨Eg ps.toList ds env,H,n⟩ { tmps:=(ps.zip vs).foldl (λtmps (t,a)=>tmps.setIfInBounds t a) tm,defers:=[] } w:=by
  refine⟨ent mw,hfr,hg,λt=>?_,?_,rfl⟩
  ·have:=QI ps.toList ds env tm vs.toList (ρ:=ρ) (O:=AC F.X ρ H) (w:=w) (by simpa using hvs) (λt ht=>by rw[htm];exact hps t (by simpa using ht)) (λt=>(henv t).mono hEw) (λi d hd=>by
    have:=hr i d hd
    simpa[AP,Fr]using this) t
   rw[<-Array.foldl_toList,Array.toList_zip];exact this
  ·show((ps.zip vs).foldl (λtmps (t,a)=>tmps.setIfInBounds t a) tm).size=nt
   rw[<-Array.foldl_toList];exact(PP _ _).trans htm
 refine wpIn_mono ((h Fa).out (.refl Fa) hda ρ _ w sata) ?_;rintro e a2 w2 ⟨F2,s2,ρ2,hF2,⟨rfl,hFF,hbody⟩,hs2⟩;subst hFF;obtain⟨m2,x2⟩:=lv mw (hF2.mem hs2.mem);have hl2:w2.heap[l]?=some (LR.obj ⟨fn,tm,ps,as,bd,dfs⟩ none):=(lat mw hltl (hF2.mem hs2.mem)).trans hlw;refine⟨_,run_beginRound (r:=LR.lp ⟨fn,tm,ps,as,bd,dfs⟩ .ready none) hl2 rfl,?_⟩;have m3:=m2.putL hFl (.inr rfl) (r:=LR.lp ⟨fn,tm,ps,as,bd,dfs⟩ .ready none) hl2 (.loop { LR.lp ⟨fn,tm,ps,as,bd,dfs⟩ .ready none with state:=.busy });have x3:=Ai.putL (ρ:=ρ2) (O:=AC F.X ρ2 s2.H) (w:=w2) (.inl hFl) (r:=LR.lp ⟨fn,tm,ps,as,bd,dfs⟩ .ready none) hl2 (.loop { LR.lp ⟨fn,tm,ps,as,bd,dfs⟩ .ready none with state:=.busy });generalize hw3:w2.putObj l (.loop { LR.lp ⟨fn,tm,ps,as,bd,dfs⟩ .ready none with state:=.busy })=w3 at m3 x3⊢;have hlt2:l<w2.heap.size:=(Bi.1 hl2).1;have hl3:w3.heap[l]?=some (.loop { LR.lp ⟨fn,tm,ps,as,bd,dfs⟩ .ready none with state:=.busy }):=by rw[<-hw3];exact World.putObj_heap_same hlt2
 let Fb:=AG.subZ ρ2 s2.H w3 nt F.X (λ_=>False) []
 have satb:Aq C Fb ρ2 s2 a2 w3:=⟨ent m3,hs2.fresh,hs2.gen,λt=>(hs2.env t).mono x3,hs2.nt,hs2.dfr⟩
 refine wpIn_mono ((hbody Fb).out (.refl Fb) hdb ρ2 _ w3 satb) ?_;rintro e a4 w4 ⟨F4,s4,ρ4,hF4,hq,hs4⟩;obtain⟨m4,x4⟩:=lv m3 (hF4.mem hs4.mem);have hl4:w4.heap[l]?=some (.loop { LR.lp ⟨fn,tm,ps,as,bd,dfs⟩ .ready none with state:=.busy }):=(lat m3 (Bi.1 hl3).1 (hF4.mem hs4.mem)).trans hl3;have fin:∀j,Φ j s4.H s4.n->∃v w',(Instr.endRound l j).run C.P w4=.ok v w'/\L1 C F l ⟨fn,tm,ps,as,bd,dfs⟩ ρ H w (λj d H' n'=>d=Al j.isNone/\Φ j H' n') (.returned v) w':=λj hj=>by
  refine⟨_,_,run_endRound j hl4,_,j,Al j.isNone,s4.H,s4.n,ρ4,rfl,⟨rfl,hj⟩,World.putObj_heap_same (Bi.1 hl4).1,m4.putL hFl (.inr rfl) hl4 _,((x2.trans x3).trans x4).trans (Ai.putL (.inl hFl) hl4 _),hs4.fresh,hs4.gen,.prim _⟩
 cases e with
 |normal=>exact fin none hq
 |ret=>exact fin _ hq
 |exit i=>exact fin _ hq
 |goto t=>exact fin _ hq
 |panic c=>exact hq.elim
 |outgrown=>exact hq.elim
def dM (Q:Exit->AG->St->Prop)(F:AG)(s:St)(j:Option Code):Prop:=match j with
 |none=>Q .normal F s
 |some .ret=>Q .ret F s
 |some (.exit i)=>Q (.exit i) F s
 |some (.goto t)=>Q (.goto t) F s
 |some _=>False
theorem DC.ext {ρ1:Lk}{O1:Nat->Prop}{w1:World}:DC.ok (λρ O w=>Ai ρ1 O1 w1 ρ O w):=λ_ _ _ _ _ _ h k=>h.trans k
theorem AQ.rangeFunc {B:AG}{s:St}{Q:Exit->AG->St->Prop}{g:Operand}{ps:Array Nat}{as bd:Code}{fi:Nat}{first captured:List D}{Ψ:Option Code->D->Hp->Nat->Prop}(hg:AU s.env g=.clo (.func fi) first captured)
  (YS:List D->Hp->Nat->(Option Code->Hp->Nat->Prop)->Prop)
  (hbody:∀l ds H n Φ,YS ds H n Φ->ds.length=ps.size/\∀F:AG,AQ C F (some l) F as ⟨Eg ps.toList ds s.env,H,n⟩ λe F' s=>e=.normal/\F'=F/\∀F':AG,AQ C F' (some l) F' bd s (L0 Φ))
  (hiter:∀(E:DC) (l:Nat) (R:LR),DC.ok E->(∀ds H n Φ,YS ds H n Φ->Lz C E l R ds H n Φ)->QK C E fi (first++[.clo (.yield l) [] []]++captured) l R s.H s.n Ψ)
  (hend:∀j d H' n' F',Ψ j d H' n'->dM Q F' ⟨s.env,H',n'⟩ j):AQ C B none F (.rangeFunc g ps as bd) s Q:=by
 refine⟨λhB hd ρ a w hs=>?_⟩;simp only[Bo,Ad]at hd;have hps:∀t∈ps,t<B.nt:=λt ht=>Nat.blt_eq.mp (CK.1 hd.1 t (by simpa using ht))
 have hgr:=BI hs.env g;rw[hg]at hgr;generalize hv:a.eval g=gv at hgr;cases hgr with
 |clo hnf hnc hr1 hr2=>
 rename_i fs cs;refine wpIn_rangeFunc λfn _=>?_
 let l:=w.heap.size+1
 let d:=w.heap.size
 let R:LR:=⟨fn,a.tmps,ps,as,bd,d⟩
 let w1:=(w.alloc (.deferred (some []))).alloc (R.obj none)
 have hw1s:w1.heap.size=w.heap.size+2:=by simp only[w1,World.size_alloc]
 have hold:∀b,b<w.heap.size->w1.heap[b]?=w.heap[b]?:=λb hb=>by
  show((w.alloc _).alloc _).heap[b]?=_;rw[CN,AM (by rw[World.size_alloc];omega),CN,Bf]
 have hdw:w1.heap[d]?=some (.deferred (some [])):=by
  show((w.alloc _).alloc _).heap[w.heap.size]?=_;rw[CN,AM (by rw[World.size_alloc];omega),CN,AL rfl]
 have hlw:w1.heap[l]?=some (R.obj none):=by
  show((w.alloc _).alloc _).heap[w.heap.size+1]?=_;rw[CN,AL (by rw[World.size_alloc])]
 have m:=hs.mem
 let X1:Nat->Prop:=λb=>F.X b\/b=l\/b=d
 have hown:∀e∈s.H,∀b,ρ e.k e.g=some b->b<w.heap.size:=λe he b hb=>m.lt he hb
 have x:Ai ρ (AC F.X ρ s.H) w ρ (AC X1 ρ s.H) w1:=by
  refine⟨by omega,λ_ _ _ h=>h,λb hb hO=>⟨?_,hold b hb⟩,λb cs T fz h=>⟨cs,fz,?_,rfl⟩⟩
  ·rintro((h|h|h)|h)
   ·exact hO (.inl h)
   ·simp only[l]at h;omega
   ·simp only[d]at h;omega
   ·exact hO (.inr h)
  ·rw[hold b (Bi.1 h).1];exact h
 have hng:C.nG<=l:=by
  have:=m.gn;have:=m.size
  simp only[l];omega
 have m1:AJ C (AG.subZ ρ s.H w1 F.nt X1 (λb=>b=l) ([d].map (λr=>({ target:=.collected r,args:=#[] }:Deferred))++F.df)) ρ s.H w1:=by
  refine m.enterZ x rfl rfl rfl (λb hb _=>hold b hb) (λe he b hb hbl=>?_) (λb hb=>?_) (λe he b hb hb'=>?_) (λb hb=>by rw[hb];exact hng) _ _
  ·have:=hown e he b hb
   simp only[l]at hbl;omega
  ·rcases hb with h|h|h
   ·have:=m.xlt b h;have:=m.size;omega
   ·simp only[l]at h;omega
   ·simp only[d]at h;omega
  ·have h1:=hown e he b hb
   rcases hb' with h|h|h
   ·exact(m.hok.own e he b hb).1 h
   ·simp only[l]at h;omega
   ·simp only[d]at h;omega
 have mo:AJ C F ρ s.H w1:=m.same ⟨by omega,λ_ _ _ h=>h,λb hb hO=>⟨hO,hold b hb⟩,λb cs T fz h=>⟨cs,_,by rw[hold b (Bi.1 h).1];exact h,rfl⟩⟩ rfl rfl rfl hold;have hF1:Ba C F (AG.subZ ρ s.H w1 F.nt X1 (λb=>b=l) ([d].map (λr=>({ target:=.collected r,args:=#[] }:Deferred))++F.df)):=by
  refine Ba.subZ mo (λb hb=>.inl hb) (λb hb=>.inl ?_) [d] (by simp) λr hr=>?_
  ·have:=m.size
   rw[hb];simp only[l];omega
  ·simp only[E7]at hr
   subst hr;refine⟨m.size,by simp only[d];omega,.inr (.inr rfl),⟨by simp only[d,l];omega,λe he h=>?_⟩,hdw⟩
   have:=hown e he d h
   simp only[d]at this;omega
 have hB1:=hB.trans hF1;generalize hF1d:AG.subZ ρ s.H w1 F.nt X1 (λb=>b=l) ([d].map (λr=>({ target:=.collected r,args:=#[] }:Deferred))++F.df)=F1 at m1 hF1 hB1;have hF1X:F1.X=X1:=by rw[<-hF1d];rfl
 have hF1W:F1.Wr l:=by rw[<-hF1d];exact .inr rfl
 have hXl:F1.X l:=by rw[hF1X];exact .inr (.inl rfl)
 have henv1:∀t,AF ρ (AC F1.X ρ s.H) w1 (s.env.get t) (a.tmps.getD t undef):=λt=>by rw[hF1X];exact(hs.env t).mono x
 have hc:=hiter (λρ' O w'=>Ai ρ (AC F1.X ρ s.H) w1 ρ' O w') l R DC.ext λds H n Φ hY=>by
  obtain⟨q1,q2⟩:=hbody l ds H n Φ hY;exact Va (nt:=B.nt) (by rw[hs.nt];exact hB.nt) hps hd.2.1 hd.2.2 henv1 q1 q2
 have hargs:(fs ++ #[Value.func (.yield l) #[] #[]]++cs).size=(first++[D.clo (.yield l) [] []]++captured).length:=by simp[hnf,hnc];omega
 have hcall:=hc.2 F1 ρ w1 (fs ++ #[Value.func (.yield l) #[] #[]]++cs) m1 hXl hng (.refl _ _ _) hlw hs.fresh hs.gen hargs λi dd hdd=>by
  rw[Dm]at hdd;rw[IX];rcases Ao i first.length with hi|hi
  ·rw[CI hi]at hdd
   have:(fs++(#[Value.func (.yield l) #[] #[]]++cs)).getD i undef=fs.getD i undef:=by
    simp only[AP];rw[Di (by omega)]
   rw[this,hF1X];exact(hr1 i dd hdd).mono x
  ·rw[Bw hi]at hdd
   have e1:(fs++(#[Value.func (.yield l) #[] #[]]++cs)).getD i undef=(#[Value.func (.yield l) #[] #[]]++cs).getD (i-first.length) undef:=by
    simp only[AP];rw[Dh (by omega),hnf]
   rw[e1];cases hk:i-first.length with
   |zero=>
    rw[hk]at hdd;simp at hdd;subst hdd
    have:(#[Value.func (.yield l) #[] #[]]++cs).getD 0 undef=Value.func (.yield l) #[] #[]:=by
     rw[AP,Di (by simp)];rfl
    rw[this];exact .clo rfl rfl (by simp) (by simp)
   |succ k=>
    rw[hk]at hdd;have hdd:captured[k]?=some dd:=by simpa using hdd
    have:(#[Value.func (.yield l) #[] #[]]++cs).getD (k+1) undef=cs.getD k undef:=by
     simp only[AP];rw[Dh (by simp)];simp
    rw[this,hF1X];exact(hr2 k dd hdd).mono x
 refine⟨l,[{ target:=.collected d,args:=#[] }],w1,{ target:=.fn (.func fi) cs,args:=fs ++ #[Value.func (.yield l) #[] #[]] },w1,fi,fs ++ #[Value.func (.yield l) #[] #[]]++cs,w1,run_enterLoop_outer _ _ _ _ _,?_,λ_ _=>trivial,?_,Hy,Hx.2 (hcall.mono ?_)⟩
 ·unfold resolve
  simp only[hv];have e:(#[Operand.const (Value.func (.yield l) #[] #[])]).map a.eval = #[Value.func (.yield l) #[] #[]]:=by simp[Act.eval]
  rw[e];rfl
 ·unfold invoke
  exact NK hc.1 _ w1
 ·rintro e w' ⟨v,j,dd,H',n',ρ',rfl,hΨ,hl',m',x',fr,gn,rep⟩
  have hend':=hend j dd H' n' F1 hΨ;have m'':AJ C F1 ρ' H' w':=L7 m' rfl rfl rfl (λb hb=>by
   rcases hb with hb|hb
   ·exact hb
   ·rw[hb];exact hF1W) m1.gw
  have m3:=m''.putL hXl hF1W (r:=R.lp (if j.isNone then .ready else .done) j) hl' (.loop { R.lp (if j.isNone then .ready else .done) j with state:=.exhausted });have x3:=Ai.putL (ρ:=ρ') (O:=AC F1.X ρ' H') (w:=w') (.inl hXl) (r:=R.lp (if j.isNone then .ready else .done) j) hl' (.loop { R.lp (if j.isNone then .ready else .done) j with state:=.exhausted });refine⟨j,_,run_endLoop (r:=R.lp (if j.isNone then .ready else .done) j) hl' (by cases j<;>simp[LR.lp]),?_⟩;generalize w'.putObj l (.loop { R.lp (if j.isNone then .ready else .done) j with state:=.exhausted })=w3 at m3 x3⊢;have sat:Aq C F1 ρ' ⟨s.env,H',n'⟩ { a with defers:=[{ target:=.collected d,args:=#[] }]++a.defers } w3:=by
   refine⟨m3,fr,gn,λt=>((henv1 t).mono x').mono x3,?_,?_⟩
   ·show a.tmps.size=_
    rw[hs.nt,hF1.nt]
   ·show _++a.defers=_
    rw[hs.dfr,<-hF1d];rfl
  cases j with
  |none=>exact⟨F1,_,ρ',hB1,hend',sat⟩
  |some c=>
   cases c<;>first|exact hend'.elim|skip
   ·exact wpIn_exit ⟨F1,_,ρ',hB1,hend',sat⟩
   ·exact wpIn_goto ⟨F1,_,ρ',hB1,hend',sat⟩
   ·exact wpIn_ret ⟨F1,_,ρ',hB1,hend',sat⟩
end
section
variable {C:AX} {X:EV} {E:DC} {l:Nat} {R:LR} {F B:AG} {ρ:Lk} {H:Hp} {w:World} {ops:Array Oper} {s:St} {Q:Exit->AG->St->Prop}
theorem VO {s:St}{o:Oper}{fop:Operand}{args:Array Operand}{tys:Array Nat}{a:Act}{k g:Nat}(ho:o.op=.call ⟨.value fop,args,tys⟩)(hf:AU s.env fop=.oyl k g)(hl:ρ k g=some l)(hs:Aq C F ρ s a w):
  ∃vs,(execOp a.eval o).run C.P w=(Instr.yield l vs).run C.P w/\vs.size=(args.toList.map (AU s.env)).length /\
   ∀(i:Nat) (d:D),(args.toList.map (AU s.env))[i]?=some d->AF ρ (AC F.X ρ s.H) w d (vs.getD i undef):=by
 have hfr:=BI hs.env fop;rw[hf]at hfr;generalize hv:a.eval fop=v at hfr;cases hfr with
 |oyl hr=>
  rw[hl]at hr;cases hr;refine⟨args.map a.eval,?_,by simp,λi d hd=>?_⟩
  ·unfold execOp
   simp only[ho];rw[run_bind]
   have:(resolve a.eval ⟨.value fop,args,tys⟩ o.type).run C.P w=.ok { target:=.fn (.yield l) #[],args:=#[]++args.map a.eval } w:=by
    unfold resolve;simp only[hv];rfl
   rw[this];dsimp only;unfold invoke;simp
  ·simp only[Bj,Fq,IV]at hd
   obtain⟨x,hx,rfl⟩:=hd
   have:(args.map a.eval).getD i undef=a.eval x:=by simp[AP,hx]
   rw[this];exact BI hs.env x
theorem Vg {iy:Nat}{l2:List Nat}{o:Oper}{a:Act}{fop:Operand}{args:Array Operand}{tys:Array Nat}{k g:Nat}{Φ:Option Code->Hp->Nat->Prop}(hR:HH C E B F l R)(hB:Ba C B F)(hd:ops.toList.all (Bv B.nt)=true)
  (ho:ops[iy]?=some o) (hw:Aj ops s.env o=some true) (hop:o.op=.call ⟨.value fop,args,tys⟩) (hf:AU s.env fop=.oyl k g) (hk:F.r0 k g=some l)
  (hY:Lz C E l R (args.toList.map (AU s.env)) s.H s.n Φ) (hs:Aq C F ρ s a w)
  (h1:∀(H':Hp) (n':Nat) (ρ':Lk) (a':Act) (w':World),Φ none H' n'->Aq C F ρ' ⟨Ae s.env o.dst (Al true),H',n'⟩ a' w'->wpOpsIn (fw none) 0 C.P ops (DB C B Q) l2 a' w')
  (h2:∀(c:Code) (H':Hp) (n':Nat) (ρ':Lk) (a':Act) (w':World) (F2:AG),Φ (some c) H' n'->Ba C B F2->HV C l R (some c) F2->Aq C F2 ρ' ⟨Ae s.env o.dst (Al false),H',n'⟩ a' w'->wpOpsIn (fw none) 0 C.P ops (DB C B Q) l2 a' w'):
  wpOpsIn (fw none) 0 C.P ops (DB C B Q) (iy::l2) a w:=by
 have hdo:Bv B.nt o=true:=CK.1 hd o (DG.2 (Em ho));simp only[wpOpsIn,ho];rw[AL (Et hs.env hw)];obtain⟨vs,r1,r2,r3⟩:=VO hop hf (hs.mem.lnk _ _ _ hk) hs;have hst:=hR.stat hs.mem;obtain⟨q1,q2⟩:=hY F ρ w vs hs.mem hR.X hR.ng (hR.ext hs.mem) hst hs.fresh hs.gen r2 r3;have hrun:(execOp a.eval o).run C.P w=.ok (.round l R.fn ((R.ps.zip vs).foldl (λtmps (t,a)=>tmps.setIfInBounds t a) R.tmps) R.as R.bd) w:=by
  rw[r1,run_yield (r:=R.lp .ready none) hst q1];rfl
 refine Ub hrun (q2.mono ?_);rintro e w' ⟨v,j,d,H',n',ρ',rfl,⟨rfl,hΦ⟩,hl,m',x,fr,gn,rep⟩;refine⟨v,rfl,?_⟩;have hsw:Aq C (F.wr l) ρ s a w:=hs.reframe (hs.mem.wr hR.ng) rfl rfl rfl;have hs1:Aq C (F.wr l) ρ' ⟨Ae s.env o.dst (Al j.isNone),H',n'⟩ (a.put o.dst v) w':=hsw.put m' x fr gn rep (by rw[show(F.wr l).nt=B.nt from hB.nt];exact hdo);cases j with
 |none=>exact h1 _ _ _ _ _ hΦ (hs1.reframe (m'.unwr hR.X (by rw[hl,hR.at0])) rfl rfl rfl)
 |some c=>
  let F2:=AG.subZ ρ' H' w' F.nt F.X (λ_=>False) F.df
  have m2:AJ C F2 ρ' H' w':=m'.enterZ (.refl _ _ _) rfl rfl rfl (λ_ _ _=>rfl) (λ_ _ _ _ h=>h) (λb hb=>CF (m'.xlt b hb) m'.size) (λe he b hb=>(m'.hok.own e he b hb).1) (λ_ h=>h.elim) _ _;have hlw:l<w'.heap.size:=(Bi.1 hl).1;have hst2:HV C l R (some c) F2:=λ{ρ'' H'' w''} m3=>by
   have:=m3.blk l hlw (by
    rintro(⟨e,he,h⟩|h)
    ·exact(m'.hok.own e he l h).1 hR.X
    ·exact h)
   exact this.trans hl
  have hB2:Ba C B F2:=⟨hB.nt,Ar hB.sz (Ar hs.mem.size x.size),λm3=>hR.up (m'.leaveZ (λ_ h=>h) (λ_ h=>h.elim) m3).1,hB.X,[],hR.df,[],rfl,.nil,by simp⟩
  exact h2 _ _ _ _ _ _ F2 hΦ hB2 hst2 (hs1.reframe m2 rfl rfl rfl)
end
abbrev YH:=List D->Hp->Nat->Option (Option Code×Hp×Nat)
noncomputable def S0 (kY gY:Nat)(e:ET)(o:Oper):Option (List D):=match o.op with
 | .call ⟨.value fop,args,_⟩=>match FO e fop with
  | .oyl k g=>match Nat.beq k kY&&Nat.beq g gY with
   |true=>some (args.toList.map (FO e))
   |false=>none
  |_=>none
 |_=>none
noncomputable def Rw (X:EV)(cl:BA)(yf:YH)(kY gY:Nat)(ops:Array Oper)(e:ET)(H:Hp)(n:Nat)(j:Option Code)(o:Oper):Option (D×Hp×Nat×Option Code):=match H5 X cl ops ⟨e,H,n⟩ o with
 |some (d,H',n')=>some (d,H',n',j)
 |none=>match j with
  |some _=>none
  |none=>match S0 kY gY e o with
   |some ds=>match HK ops e o with
    |some true=>match yf ds H n with
     |some (j',H',n')=>some (Al j'.isNone,H',n',j')
     |none=>none
    |_=>none
   |none=>none
noncomputable def L3 (X:EV)(cl:BA)(yf:YH)(kY gY:Nat)(ops:Array Oper):List Nat->ET->Hp->Nat->Option Code->Option (ES×Option Code)
 | [],e,H,n,j=>some (⟨e,H,n⟩,j)
 |i::l,e,H,n,j=>match ops[i]? with
  |some o=>match Rw X cl yf kY gY ops e H n j o with
   |some (d,H',n',j')=>L3 X cl yf kY gY ops l (MO e o.dst d) H' n' j'
   |none=>none
  |none=>none
structure K7 (C:AX)(B:AG)(E:DC)(l:Nat)(R:LR)(yf:YH)(kY gY:Nat)(I:AG->Option Code->Prop):Prop where
 rdy:∀F,I F none->∀ds H n r,yf ds H n=some r->HH C E B F l R/\F.r0 kY gY=some l/\Lz C E l R ds H n (λj H1 n1=>j=r.1/\H1=r.2.1/\n1=r.2.2)
 gone:∀ds H n r,yf ds H n=some r->∀F c,HV C l R (some c) F->I F (some c)
section
variable {C:AX} {X:EV} {cl:BA} {E:DC} {l:Nat} {R:LR} {B:AG} {yf:YH} {kY gY:Nat} {I:AG->Option Code->Prop} {ops:Array Oper} {Q:Exit->AG->St->Prop}
theorem LP {rd:Option Nat}(hX:B9 C X)(hcl:C8 C cl)(hY:K7 C B E l R yf kY gY I)(hrd:∀ds H n r,yf ds H n=some r->rd=none)(hnd:DS ops.toList=true)(hd:ops.toList.all (Bv B.nt)=true){r:ES×Option Code}:
  ∀(l2:List Nat) (e:ET) (s:St) (j:Option Code) (F:AG) (ρ:Lk) (a:Act) (w:World),L3 X cl yf kY gY ops l2 e s.H s.n j=some r->Mt e s.env->I F j->Ba C B F->Aq C F ρ s a w ->
   (∀F' env' ρ' a' w',Ba C B F'->I F' r.2->Mt r.1.env env'->Aq C F' ρ' ⟨env',r.1.H,r.1.n⟩ a' w'->DB C B Q .normal a' w')->wpOpsIn (fw rd) 0 C.P ops (DB C B Q) l2 a w
 | [],e,s,j,F,ρ,a,w,h,hm,hi,hB,hs,hk=>by
  cases(show some (⟨e,s.H,s.n⟩,j)=some r from h);exact hk F s.env ρ a w hB hi hm hs
 |i::l2,e,s,j,F,ρ,a,w,h,hm,hi,hB,hs,hk=>by
  simp only[L3]at h;split at h<;>try(cases h;done)
  rename_i o ho;split at h<;>try(cases h;done)
  rename_i d H' n' j' hst;have hlt:i<ops.size:=(Bi.1 ho).1;unfold Rw at hst;split at hst
  ·rename_i hev
   cases hst;have hdF:ops.toList.all (Bv F.nt)=true:=by rw[hB.nt];exact hd
   have h1:AO C F ops ([i].map λj=>ops.getD j default) s (λs1=>Mt (MO e o.dst d) s1.env/\s1.H=H'/\s1.n=n'):=by
    have e1:([i].map λj=>ops.getD j default)=[o]:=by simp[AP,ho]
    rw[e1];exact Pu hX hcl hm hev (AO.nil ⟨hm.put _ _,rfl,rfl⟩)
   have h2:=h1.run (λj hj=>by simp at hj;subst hj;exact hlt) hdF hs;show wpOpsIn (fw rd) 0 C.P ops (DB C B Q) ([i]++l2) a w;refine EZ (rd:=rd) (Q:=DB C B Q) (l2:=l2) (λe1 a1 w1 hf=>?_) (Gc hnd) [i] _ _ h2;obtain⟨h0,s1,ρ1,⟨k1,rfl,rfl⟩,k2⟩:=hf;exact⟨h0,LP hX hcl hY hrd hnd hd l2 _ s1 j F ρ1 a1 w1 h k1 hi hB k2 hk⟩
  ·split at hst<;>try(cases hst;done)
   split at hst<;>try(cases hst;done)
   rename_i ds hds;split at hst<;>try(cases hst;done)
   rename_i hw;split at hst<;>try(cases hst;done)
   rename_i j1 H1 n1 hyf;cases hst;rw[La hm]at hw;unfold S0 at hds;split at hds<;>try(cases hds;done)
   rename_i fop args tys hop;split at hds<;>try(cases hds;done)
   rename_i k g hf;split at hds<;>try(cases hds;done)
   rename_i hb;cases hds;simp only[Ad]at hb;have e1:=Ab hb.1;have e2:=Ab hb.2;rw[Hw hm]at hf hyf;rw[e1,e2]at hf;obtain⟨q1,q2,q3⟩:=hY.rdy F hi _ _ _ _ hyf;have hfw:fw rd=fw none:=by rw[hrd _ _ _ _ hyf]
   rw[hfw];refine Vg q1 hB hd ho hw hop hf q2 q3 hs (λH' n' ρ' a' w' hΦ hs'=>?_) λc H' n' ρ' a' w' F2 hΦ hB2 hst2 hs'=>?_
   ·obtain⟨rfl,rfl,rfl⟩:=hΦ
    rw[<-hfw];exact LP hX hcl hY hrd hnd hd l2 _ _ none F ρ' a' w' h (hm.put _ _) hi hB hs' hk
   ·obtain⟨rfl,rfl,rfl⟩:=hΦ
    rw[<-hfw];exact LP hX hcl hY hrd hnd hd l2 _ _ (some c) F2 ρ' a' w' h (hm.put _ _) (hY.gone _ _ _ _ hyf F2 c hst2) hB2 hs' hk
theorem UA {cp:Bh}(hX:B9 C X)(hcl:C8 C cl)(hcp:D3 C cp){F:AG}{s s':ES}(h:I3 X cl cp ops s=some s'){st:St}(ha:At s st):EU C F ops st (isS .normal s'):=by
 unfold I3 B4 at h;split at h
 ·rename_i h0
  cases h;exact LB hX hcl hcp h0 ha
 ·split at h<;>try(cases h;done)
  exact NZ (λe s hs=>hs.1) (LB hX hcl hcp h ha)
end
noncomputable def Kg (f:ES->Option Code->Option (Exit×ES×Option Code)):Nat->ES->Option Code->Option (Exit×ES×Option Code)
 | 0,_,_=>none
 |k+1,s,j=>match f s j with
  |some (.normal,s',j')=>Kg f k s' j'
  |r=>r
abbrev Jp:=Operand->Array Nat->Code->Code->ES->Option (Exit×ES)
noncomputable def Cg (X:EV)(cl:BA)(cp:Bh)(lf:Nat)(yf:YH)(kY gY:Nat)(rg:Jp):Code->ES->Option Code->Option (Exit×ES×Option Code)
 | .skip,s,j=>some (.normal,s,j)
 | .region _ ops draw,s,j=>match DS ops.toList with
  |true=>match draw with
   |true=>match I3 X cl cp ops s with
    |some s'=>some (.normal,s',j)
    |none=>none
   |false=>match L3 X cl yf kY gY ops (List.range ops.size) s.env s.H s.n j with
    |some (s',j')=>some (.normal,s',j')
    |none=>none
  |false=>none
 | .seq a b,s,j=>match Cg X cl cp lf yf kY gY rg a s j with
  |some (.normal,s',j')=>Cg X cl cp lf yf kY gY rg b s' j'
  |r=>r
 | .cond c a b,s,j=>match FO s.env c with
  | .prim (.bool true)=>Cg X cl cp lf yf kY gY rg a s j
  | .prim (.bool false)=>Cg X cl cp lf yf kY gY rg b s j
  |_=>none
 | .block i b,s,j=>match Cg X cl cp lf yf kY gY rg b s j with
  |some (.exit k,s',j')=>match Nat.beq k i with
   |true=>some (.normal,s',j')
   |false=>some (.exit k,s',j')
  |r=>r
 | .loop b,s,j=>Kg (Cg X cl cp lf yf kY gY rg b) lf s j
 | .exit i,s,j=>some (.exit i,s,j)
 | .ret,s,j=>some (.ret,s,j)
 | .rangeFunc g ps as bd,s,j=>match rg g ps as bd s with
  |some (e,s')=>some (e,s',j)
  |none=>none
 |_,_,_=>none
section
variable {C:AX} {X:EV} {cl:BA} {cp:Bh} {E:DC} {l:Nat} {R:LR} {B:AG} {yf:YH} {kY gY:Nat} {I:AG->Option Code->Prop} {rg:Jp} {rd:Option Nat}
def Mu (I:AG->Option Code->Prop)(r:Exit×ES×Option Code):Exit->AG->St->Prop:=λe1 F' s1=>e1=r.1/\At r.2.1 s1/\I F' r.2.2
def Oi (C:AX)(B:AG)(rd:Option Nat)(I:AG->Option Code->Prop)(rg:Jp):Prop:=∀g ps as bd s e s',rg g ps as bd s=some (e,s')->∀(F:AG) (st:St) (j:Option Code),At s st->I F j->AQ C B rd F (.rangeFunc g ps as bd) st (Mu I (e,s',j))
theorem VT {b:Code}{f:ES->Option Code->Option (Exit×ES×Option Code)}{r:Exit×ES×Option Code}
  (hf:∀s j r,f s j=some r->∀(F:AG) (st:St),At s st->I F j->AQ C B rd F b st (Mu I r)) {m0:Nat} {s0:ES} {j0:Option Code} (h:Kg f m0 s0 j0=some r) {F:AG} {st:St} (ha:At s0 st) (hi:I F j0):AQ C B rd F (.loop b) st (Mu I r):=by
 refine⟨λhB hd ρ x w hsat=>?_⟩;have hd':Bo B.nt b=true:=by simpa[Bo]using hd
 refine PY (λm x w=>∃(F':AG) (s:ES) (j:Option Code) (s1:St) (ρ:Lk),Ba C B F'/\I F' j/\At s s1/\Kg f m s j=some r/\Aq C F' ρ s1 x w) (m:=m0) ⟨F,s0,j0,st,ρ,hB,hi,ha,h,hsat⟩ ?_;rintro m x w ⟨F',s,j,s1,ρ,hF,hi,ha,hl,hsat⟩;cases m with
 |zero=>cases hl
 |succ m=>
  simp only[Kg]at hl;cases hfs:f s j with
  |none=>rw[hfs]at hl;cases hl
  |some q=>
   obtain⟨e,s',j'⟩:=q;refine wpIn_mono ((hf s j _ hfs F' s1 ha hi).out hF hd' ρ x w hsat) ?_;rintro e1 a' w' ⟨F2,s2,ρ2,h1,⟨rfl,h3,h4⟩,h5⟩;rw[hfs]at hl;cases e1 with
   |normal=>exact⟨m,FS _,F2,s',j',s2,ρ2,h1,h4,h3,hl,h5⟩
   |ret=>cases hl;exact⟨F2,s2,ρ2,h1,⟨rfl,h3,h4⟩,h5⟩
   |exit i=>cases hl;exact⟨F2,s2,ρ2,h1,⟨rfl,h3,h4⟩,h5⟩
   |goto i=>cases hl;exact⟨F2,s2,ρ2,h1,⟨rfl,h3,h4⟩,h5⟩
   |panic i=>cases hl;exact⟨F2,s2,ρ2,h1,⟨rfl,h3,h4⟩,h5⟩
   |outgrown=>cases hl;exact⟨F2,s2,ρ2,h1,⟨rfl,h3,h4⟩,h5⟩
theorem FE (hX:B9 C X)(hcl:C8 C cl)(hcp:D3 C cp)(hY:K7 C B E l R yf kY gY I)(hrd:∀ds H n r,yf ds H n=some r->rd=none)(hrg:Oi C B rd I rg){lf:Nat}:
  ∀ {c:Code} {s:ES} {j:Option Code} {r:Exit×ES×Option Code},Cg X cl cp lf yf kY gY rg c s j=some r->∀(F:AG) (st:St),At s st->I F j->AQ C B rd F c st (Mu I r)
 | .skip,s,j,r,h,F,st,ha,hi=>by
  simp only[Cg,Aa]at h;subst h;exact AQ.skip ⟨rfl,ha,hi⟩
 | .ret,s,j,r,h,F,st,ha,hi=>by
  simp only[Cg,Aa]at h;subst h;exact AQ.ret ⟨rfl,ha,hi⟩
 | .exit i,s,j,r,h,F,st,ha,hi=>by
  simp only[Cg,Aa]at h;subst h;exact AQ.exit ⟨rfl,ha,hi⟩
 | .region i ops draw,s,j,r,h,F,st,ha,hi=>by
  simp only[Cg]at h;split at h<;>try(cases h;done)
  rename_i hnd;split at h
  ·split at h<;>try(cases h;done)
   rename_i s' hd;cases h;refine⟨λhB hdd ρ a w hs=>?_⟩;have hA:=UA hX hcl hcp hd ha (Ht hB hdd) ρ a w hs;refine wpIn_region_any hX.mixed (Gd (λe1 a1 w1 h1=>?_) (Gc hnd) _ _ _ _ hA);obtain⟨s1,ρ1,⟨h2,h3⟩,h4⟩:=h1;exact⟨h2,F,s1,ρ1,hB,⟨rfl,h3,hi⟩,h4⟩
  ·split at h<;>try(cases h;done)
   rename_i s' j' hd;cases h;obtain⟨env0,H0,n0⟩:=st;obtain⟨hm0,rfl,rfl⟩:=ha;refine⟨λhB hdd ρ a w hs=>wpIn_region ?_⟩;exact LP hX hcl hY hrd hnd hdd (List.range ops.size) s.env ⟨env0,s.H,s.n⟩ j F ρ a w hd hm0 hi hB hs λF' env' ρ' a' w' h1 h2 h3 h4=>⟨F',_,ρ',h1,⟨rfl,⟨h3,rfl,rfl⟩,h2⟩,h4⟩
 | .seq a b,s,j,r,h,F,st,ha,hi=>by
  simp only[Cg]at h;split at h
  ·rename_i s' j' h1
   refine AQ.seq ((FE hX hcl hcp hY hrd hrg h1 F st ha hi).mono λe F' s1 hq=>?_);obtain⟨rfl,h2,h3⟩:=hq;exact FE hX hcl hcp hY hrd hrg h F' s1 h2 h3
  ·rename_i hne
   refine AQ.seq ((FE hX hcl hcp hY hrd hrg h F st ha hi).mono λe F' s1 hq=>?_);obtain⟨h1,h2,h3⟩:=hq;cases e with
   |normal=>obtain⟨re,rs,rj⟩:=r;exact AY h (by rw[show re=.normal from h1.symm];exact hne rs rj)
   |ret=>exact⟨h1,h2,h3⟩
   |exit i=>exact⟨h1,h2,h3⟩
   |goto i=>exact⟨h1,h2,h3⟩
   |panic i=>exact⟨h1,h2,h3⟩
   |outgrown=>exact⟨h1,h2,h3⟩
 | .cond c a b,s,j,r,h,F,st,ha,hi=>by
  simp only[Cg]at h;have hg:=Hw ha.1;rw[hg]at h;split at h<;>try(cases h;done)
  ·rename_i hc
   exact AQ.cond (by unfold HG;rw[hc];exact FE hX hcl hcp hY hrd hrg h F st ha hi)
  ·rename_i hc
   exact AQ.cond (by unfold HG;rw[hc];exact FE hX hcl hcp hY hrd hrg h F st ha hi)
 | .block i b,s,j,r,h,F,st,ha,hi=>by
  simp only[Cg]at h;split at h
  ·rename_i k s' j' h1
   refine AQ.block ((FE hX hcl hcp hY hrd hrg h1 F st ha hi).mono λe F' s1 hq=>?_);obtain⟨rfl,h2,h3⟩:=hq;show HL i _ _ (Exit.exit k);unfold HL;dsimp only;split at h
   ·rename_i hk;cases h;rw[hk];exact⟨rfl,h2,h3⟩
   ·rename_i hk;cases h;rw[hk];exact⟨rfl,h2,h3⟩
  ·rename_i hne
   refine AQ.block ((FE hX hcl hcp hY hrd hrg h F st ha hi).mono λe F' s1 hq=>?_);obtain⟨h1,h2,h3⟩:=hq;cases e with
   |normal=>exact⟨h1,h2,h3⟩
   |ret=>exact⟨h1,h2,h3⟩
   |exit k=>obtain⟨re,rs,rj⟩:=r;exact AY h (by rw[show re=.exit k from h1.symm];exact hne k rs rj)
   |goto k=>exact⟨h1,h2,h3⟩
   |panic k=>exact⟨h1,h2,h3⟩
   |outgrown=>exact⟨h1,h2,h3⟩
 | .loop b,s,j,r,h,F,st,ha,hi=>by
  simp only[Cg]at h;exact VT (λs j r h F st ha hi=>FE hX hcl hcp hY hrd hrg h F st ha hi) h ha hi
 | .rangeFunc g ps as bd,s,j,r,h,F,st,ha,hi=>by
  simp only[Cg]at h;split at h<;>try(cases h;done)
  rename_i e s' hr;cases h;exact hrg g ps as bd s e s' hr F st j ha hi
 | .label _,_,_,_,h,_,_,_,_=>by simp[Cg]at h
 | .scope _,_,_,_,h,_,_,_,_=>by simp[Cg]at h
 | .goto _,_,_,_,h,_,_,_,_=>by simp[Cg]at h
end
noncomputable def I9:List Nat->List D->ET->ET
 |t::ts,d::ds,e=>I9 ts ds (e.put t d)
 |_,_,e=>e
theorem QH:∀(ps:List Nat) (ds:List D) {e:ET} {env:AZ},Mt e env->Mt (I9 ps ds e) (Eg ps ds env)
 | [],_,_,_,h=>by simpa[I9,Eg]using h
 |_::_,[],_,_,h=>by simpa[I9,Eg]using h
 |t::ts,d::ds,e,env,h=>by
  simp only[I9,Eg];exact QH ts ds (h.put (some t) d)
def My:YH:=λ_ _ _=>none
def Mx:Jp:=λ_ _ _ _ _=>none
noncomputable def KO (X:EV)(cl:BA)(cp:Bh)(lf:Nat)(ps:Array Nat)(as bd:Code)(e:ET):YH:=λds H n=>match Nat.beq ds.length ps.size with
 |true=>match Cg X cl cp lf My 0 0 Mx as ⟨I9 ps.toList ds e,H,n⟩ none with
  |some (.normal,s1,none)=>match Cg X cl cp lf My 0 0 Mx bd s1 none with
   |some (ex,s2,_)=>match QR ex with
    |some j=>some (j,s2.H,s2.n)
    |none=>none
   |none=>none
  |_=>none
 |false=>none
section
variable {C:AX} {X:EV} {cl:BA} {cp:Bh} {lf:Nat}
theorem OV {B:AG}{kY gY:Nat}{I:AG->Option Code->Prop}:K7 C B (λ_ _ _=>True) 0 ⟨0,#[],#[],.skip,.skip,0⟩ My kY gY I:=⟨λ_ _ _ _ _ _ h=>(by cases h),λ_ _ _ _ h=>(by cases h)⟩
theorem Nx {B:AG}{rd:Option Nat}{I:AG->Option Code->Prop}:Oi C B rd I Mx:=λ_ _ _ _ _ _ _ h=>by cases h
theorem UH (hX:B9 C X)(hcl:C8 C cl)(hcp:D3 C cp){ps:Array Nat}{as bd:Code}{e:ET}{env:AZ}(hm:Mt e env){ds:List D}{H:Hp}{n:Nat}{r:Option Code×Hp×Nat}(h:KO X cl cp lf ps as bd e ds H n=some r)(l:Nat):
  ds.length=ps.size/\∀F:AG,AQ C F (some l) F as ⟨Eg ps.toList ds env,H,n⟩ λe F' s=>e=.normal/\F'=F/\∀F':AG,AQ C F' (some l) F' bd s (L0 λj H1 n1=>j=r.1/\H1=r.2.1/\n1=r.2.2):=by
 unfold KO at h;split at h<;>try(cases h;done)
 rename_i hl;split at h<;>try(cases h;done)
 rename_i s1 h1;split at h<;>try(cases h;done)
 rename_i ex s2 j2 h2;split at h<;>try(cases h;done)
 rename_i j hj;cases h;refine⟨Ab hl,λF=>?_⟩;refine(FE (I:=λF' _=>F'=F) hX hcl hcp OV (λ_ _ _ _ h=>(by cases h)) Nx h1 F ⟨Eg ps.toList ds env,H,n⟩ ⟨QH _ _ hm,rfl,rfl⟩ rfl).mono λe1 F1 st1 hq=>?_
 obtain⟨rfl,hat,rfl⟩:=hq;refine⟨rfl,rfl,λF2=>?_⟩;refine(FE (I:=λ_ _=>True) hX hcl hcp OV (λ_ _ _ _ h=>(by cases h)) Nx h2 F2 st1 hat AA).mono λe2 F3 st3 hq=>?_
 obtain⟨rfl,hat2,_⟩:=hq;unfold L0;rw[hj];exact⟨rfl,hat2.2.1,hat2.2.2⟩
end
section
variable {C:AX} {F:AG} {ρ:Lk} {H:Hp} {w:World} {n l:Nat}
theorem AJ.named (m:AJ C F ρ H w)(hn:ρ n n=none)(hg:∀e∈H,e.g<n):AJ C F (ρ.put n n l) H w/\Ai ρ (AC F.X ρ H) w (ρ.put n n l) (AC F.X (ρ.put n n l) H) w:=by
 have hold:∀e∈H,ρ.put n n l e.k e.g=ρ e.k e.g:=λe he=>by
  unfold Lk.put;rw[AM λh=>by have:=hg e he;have h2:e.g=n:=h.2;omega]
 have hO:AC F.X (ρ.put n n l) H=AC F.X ρ H:=funext λb=>propext (or_congr Iff.rfl ⟨λ⟨e,he,h⟩=>⟨e,he,by rw[<-hold e he];exact h⟩,λ⟨e,he,h⟩=>⟨e,he,by rw[hold e he];exact h⟩⟩)
 have x:Ai ρ (AC F.X ρ H) w (ρ.put n n l) (AC F.X (ρ.put n n l) H) w:=⟨Ag _,λ_ _ _ h=>JY hn h,λb _ h=>⟨by rw[hO];exact h,rfl⟩,λ_ cs _ _ h=>⟨cs,_,h,rfl⟩⟩
 refine⟨⟨⟨λe he=>?_,?_,λe he b hb=>m.hok.own e he b (by rw[<-hold e he];exact hb)⟩,m.os,m.tape,m.output,m.size,m.blk,m.xlt,m.g0,m.gn,m.gw,λ_ _ _ h=>x.link _ _ _ (m.lnk _ _ _ h),m.shp⟩,x⟩
 ·rcases m.hok.ent e he with⟨a1,a2⟩|⟨b,o,a1,a2,a3⟩
  ·exact .inl ⟨a1,by rw[hold e he];exact a2⟩
  ·exact .inr ⟨b,o,by rw[hold e he];exact a1,a2,a3.mono x⟩
 ·refine m.hok.inj.imp_of_mem λ{e1 e2} h1 h2 h b b' hb hb'=>h b b' (by rw[<-hold e1 h1];exact hb) (by rw[<-hold e2 h2];exact hb')
theorem aZ {first captured:List D}{vs:Array Value}(x:Ai ρ (AC F.X ρ H) w (ρ.put n n l) (AC F.X (ρ.put n n l) H) w)
  (hr:∀(i:Nat) (d:D),(first++[D.clo (.yield l) [] []]++captured)[i]?=some d->AF ρ (AC F.X ρ H) w d (vs.getD i undef)) (i:Nat) (d:D) (hd:(first++[D.oyl n n]++captured)[i]?=some d):
  AF (ρ.put n n l) (AC F.X (ρ.put n n l) H) w d (vs.getD i undef):=by
 rw[Dm]at hd;rcases Ao i first.length with hi|hi
 ·rw[CI hi]at hd
  exact(hr i d (by rw[Dm,CI hi];exact hd)).mono x
 ·rw[Bw hi]at hd
  cases hk:i-first.length with
  |zero=>
   rw[hk]at hd;simp at hd;subst hd;have h1:=hr i (.clo (.yield l) [] []) (by rw[Dm,Bw hi,hk];rfl);generalize vs.getD i undef=v at h1⊢;cases h1 with
   |clo hf hc h3 h4=>
    rename_i fs cs;have e1:fs = #[]:=Array.eq_empty_of_size_eq_zero (by simpa using hf);have e2:cs = #[]:=Array.eq_empty_of_size_eq_zero (by simpa using hc);subst e1 e2;exact .oyl (CA _ _ _ _)
  |succ k=>
   rw[hk]at hd;have hd:captured[k]?=some d:=by simpa using hd
   exact(hr i d (by rw[Dm,Bw hi,hk];simpa using hd)).mono x
end
section
variable {C:AX} {X:EV} {E:DC} {l:Nat} {R:LR}
theorem eg {f:Nat}{i:FI}{first captured:List D}{H:Hp}{n:Nat}{Φ:Option Code->D->Hp->Nat->Prop}(hX:CZ C X)(hE:DC.ok E)(hf:GT C.P f i)(hnt:Nat.ble (first++[D.oyl n n]++captured).length i.nt=true)
  (h:∀B F:AG,HH C E B F l R->F.r0 n n=some l->AQ C B none F i.code ⟨CV 0 (first++[.oyl n n]++captured),H,n+1⟩ (WS C l R X.tt i.res Φ)):QK C E f (first++[.clo (.yield l) [] []]++captured) l R H n Φ:=by
 obtain⟨fn,hf,hb,hn,hd,hni,hres⟩:=hf;rw[<-hni]at hnt;refine⟨⟨fn,i.code,hf,hb,hn⟩,λF ρ0 w vs m0 hFl hng hEw0 hlw hfr0 hg hvs0 hr0=>?_⟩;obtain⟨m,x0⟩:=m0.named (n:=n) (l:=l) (hfr0 n n (Ag _)) hg;have hr1:∀(i:Nat) (d:D),(first++[D.oyl n n]++captured)[i]?=some d->AF (ρ0.put n n l) (AC F.X (ρ0.put n n l) H) w d (vs.getD i undef):=aZ x0 hr0;have hvs:vs.size=(first++[D.oyl n n]++captured).length:=by rw[hvs0];simp
 have hfr:GD (ρ0.put n n l) (n+1):=λk g hg=>by
  unfold Lk.put;rw[AM λhh=>by have h2:g=n:=hh.2;omega];exact hfr0 k g (by omega)
 have hgen:∀e∈H,e.g<n+1:=λe he=>BE (hg e he)
 have hEw:=hE _ _ _ _ _ _ hEw0 x0;have hput:(ρ0.put n n l) n n=some l:=CA _ _ _ _;generalize ρ0.put n n l=ρ at m x0 hr1 hfr hEw hput;have hnt:=A0 hnt;refine(Hx (rd:=none) (n:=0)).1 (callsIn_of_wp_marks hf hb AA ?_);have hltl:l<w.heap.size:=(Bi.1 hlw).1;have hol:∀e∈H,∀b,ρ e.k e.g=some b->b≠l:=λe he b hb hbl=>(m.hok.own e he b hb).1 (by rw[hbl];exact hFl)
 have ent:∀Z:Nat->Prop,(∀b,Z b->b=l)->AJ C (AG.subZ ρ H w fn.ntmps F.X Z []) ρ H w:=λZ hZ=>m.enterZ (.refl _ _ _) rfl rfl rfl (λ_ _ _=>rfl) (λe he b hb hz=>hol e he b hb (hZ b hz)) (λb hb=>CF (m.xlt b hb) m.size)
  (λe he b hb=>(m.hok.own e he b hb).1) (λb hz=>by rw[hZ b hz];exact hng) _ _
 let B:=AG.subZ ρ H w fn.ntmps F.X (λb=>b=l) []
 let F0:=AG.subZ ρ H w fn.ntmps F.X (λ_=>False) []
 have mB:AJ C B ρ H w:=ent _ λ_ h=>h
 have mF:AJ C F0 ρ H w:=ent _ λ_ h=>h.elim
 have hBg:∀b,B.Wr b->C.nG<=b:=mB.gw;have upB:∀ {ρ':Lk} {H':Hp} {w':World},AJ C (F0.wr l) ρ' H' w'->AJ C B ρ' H' w':=λm'=>L7 m' rfl rfl rfl (λb hb=>by
  rcases hb with(hb|hb)|hb
  ·exact .inl hb
  ·exact hb.elim
  ·exact .inr hb) hBg
 have upF:∀ {ρ':Lk} {H':Hp} {w':World},AJ C F0 ρ' H' w'->AJ C B ρ' H' w':=λm'=>upB (m'.wr hng)
 have hB:Ba C B F0:=⟨rfl,Ag _,upF,λ_ h=>h,[],rfl,[],rfl,.nil,by simp⟩
 have mw:=m.wr hng;have lv:∀ {ρ':Lk} {H':Hp} {w':World},AJ C B ρ' H' w'->AJ C (F.wr l) ρ' H' w'/\Ai ρ (AC F.X ρ H) w ρ' (AC F.X ρ' H') w':=λ{ρ' H' w'} m'=>by
  obtain⟨q1,q2⟩:=mw.leaveZ (X':=F.X) (Z:=λb=>b=l) (λ_ h=>h) (λb hb=>.inr (.inr hb)) m';refine⟨q1,?_⟩
  have:(λb=>AC F.X ρ H b\/b=l)=AC F.X ρ H:=funext λb=>propext ⟨λh=>h.elim id λh=>.inl (by rw[h];exact hFl),.inl⟩
  have q2:Ai ρ (λb=>AC F.X ρ H b\/b=l) w ρ' (AC F.X ρ' H') w':=q2
  rwa [this]at q2
 have hR:HH C E B F0 l R:=⟨hFl,λh=>by
  rcases h with⟨e,he,h⟩|h
  ·exact hol e he l h rfl
  ·exact h.elim,hlw,upB,hng,rfl,λ{ρ' H' w'} m'=>hE _ _ _ _ _ _ hEw (lv (upF m')).2⟩
 have sat:Aq C F0 ρ ⟨CV 0 (first++[.oyl n n]++captured),H,n+1⟩ { tmps:=vs++Array.replicate (fn.ntmps-vs.size) undef,defers:=[] } w:=
  ⟨mF,hfr,hgen,Ll hvs hr1,by simp only[F0,AG.subZ,C3,Array.size_replicate];omega,rfl⟩
 refine wpIn_mono ((h B F0 hR hput).out hB hd ρ _ w sat) ?_;rintro e a' w' ⟨F',s',ρ',hF,hq,hs'⟩;have key:(∃j,HV C l R j F'/\Ed X.tt s' i.res λd=>Φ j d s'.H s'.n)->LeavesInM (fw none) 0 C.P fn a'.tmps (L1 C F l R ρ0 H w Φ) a'.defers .returning w':=λ⟨j,hst,hq⟩=>by
  obtain⟨d,p,h1,h2,h3⟩:=Lb hq;rw[<-hres]at h1;obtain⟨v,w2,_,hl,mB2,r2,hXX,x,hbl,hsz,F2,m2,hX2⟩:=hF.finish hX.tt rfl hs' h1 h2;obtain⟨m',x'⟩:=lv mB2;exact hl _ ⟨v,j,d,_,_,ρ',rfl,h3,(hbl l hltl).trans (hst hs'.mem),m',x0.trans x',hs'.fresh,hs'.gen,r2.anti λb hb=>hb.imp (hXX b) id⟩
 cases e with
 |normal=>exact key hq
 |ret=>exact key hq
 |_=>exact hq.elim
end
def SW:Exit->Bool
 | .normal | .ret=>true
 |_=>false
def TM:Option Code->Option Exit
 |none=>some .normal
 |some .ret=>some .ret
 |some (.exit i)=>some (.exit i)
 |_=>none
noncomputable def Oo (X:EV)(cl:BA)(cp:Bh)(lf:Nat):Jp:=λg ps as bd s=>match FO s.env g with
 | .clo (.func fi) first captured=>match X.ft fi with
  |some i=>match Nat.ble (first++[D.oyl s.n s.n]++captured).length i.nt with
   |true=>match i.res with
    | []=>match Cg X cl cp lf (KO X cl cp lf ps as bd s.env) s.n s.n Mx i.code ⟨JN 0 (first++[D.oyl s.n s.n]++captured),s.H,s.n+1⟩ none with
     |some (ex,s3,j)=>match SW ex with
      |true=>match TM j with
       |some e=>some (e,⟨s.env,s3.H,s3.n⟩)
       |none=>none
      |false=>none
     |none=>none
    |_::_=>none
   |false=>none
  |none=>none
 |_=>none
def d6 (C:AX)(E:DC)(B:AG)(l:Nat)(R:LR)(n:Nat)(F:AG)(j:Option Code):Prop:=match j with
 |none=>HH C E B F l R/\F.r0 n n=some l
 |some c=>HV C l R (some c) F
section
variable {C:AX} {X:EV} {cl:BA} {cp:Bh} {lf:Nat} {B:AG}
theorem Vy (hX:B9 C X)(hcl:C8 C cl)(hcp:D3 C cp):Oi C B none (λ_ _=>True) (Oo X cl cp lf):=λg ps as bd s e s' h F st j0 ha _=>by
 unfold Oo at h;split at h<;>try(cases h;done)
 rename_i fi first captured hg
 split at h<;>try(cases h;done)
 rename_i i hft;split at h<;>try(cases h;done)
 rename_i hnt;split at h<;>try(cases h;done)
 rename_i hres;split at h<;>try(cases h;done)
 rename_i ex s3 j hev;split at h<;>try(cases h;done)
 rename_i hex;split at h<;>try(cases h;done)
 rename_i e0 hj;cases h;obtain⟨env0,H0,n0⟩:=st;obtain⟨hm0,rfl,rfl⟩:=ha;rw[Hw hm0]at hg;refine AQ.rangeFunc (fi:=fi) (first:=first) (captured:=captured) (Ψ:=λj1 _ H1 n1=>j1=j/\H1=s3.H/\n1=s3.n) hg
  (λds H n Φ=>∃r,KO X cl cp lf ps as bd s.env ds H n=some r/\Φ=λj H1 n1=>j=r.1/\H1=r.2.1/\n1=r.2.2) (λl ds H n Φ hY=>?_) (λE l R hE hYd=>?_) λj1 d H1 n1 F' hΨ=>?_
 ·obtain⟨r,hr,rfl⟩:=hY
  exact UH hX hcl hcp hm0 hr l
 ·refine eg hX.w hE (hX.ft _ _ hft) hnt λB1 F1 hR hk=>?_
  have hYok:K7 C B1 E l R (KO X cl cp lf ps as bd s.env) s.n s.n (d6 C E B1 l R s.n):=⟨λF hI ds H n r hr=>⟨hI.1,hI.2,hYd ds H n _ ⟨r,hr,rfl⟩⟩,λ_ _ _ _ _ F c hst=>hst⟩
  refine(FE hX hcl hcp hYok (λ_ _ _ _ _=>rfl) Nx hev F1 ⟨CV 0 (first++[.oyl s.n s.n]++captured),s.H,s.n+1⟩ ⟨Lj _ _,rfl,rfl⟩ ⟨hR,hk⟩).mono λe1 F2 s1 hq=>?_
  obtain⟨rfl,hat,hI⟩:=hq;have hst:HV C l R j F2:=by
   cases j with
   |none=>exact(show HH C E B1 F2 l R/\_ from hI).1.stat
   |some c=>exact hI
  have hw:Ed X.tt s1 i.res λd=>j=j/\s1.H=s3.H/\s1.n=s3.n:=by
   rw[hres];exact⟨trivial,rfl,hat.2.1,hat.2.2⟩
  cases e1 with
  |normal=>exact⟨j,hst,hw⟩
  |ret=>exact⟨j,hst,hw⟩
  |exit i=>cases hex
  |goto i=>cases hex
  |panic i=>cases hex
  |outgrown=>cases hex
 ·obtain⟨rfl,rfl,rfl⟩:=hΨ
  unfold TM at hj;split at hj<;>try(cases hj;done)
  ·cases hj;exact⟨rfl,⟨hm0,rfl,rfl⟩,trivial⟩
  ·cases hj;exact⟨rfl,⟨hm0,rfl,rfl⟩,trivial⟩
  ·cases hj;exact⟨rfl,⟨hm0,rfl,rfl⟩,trivial⟩
end
noncomputable def MC (X:EV)(cl:BA)(cp:Bh)(lf f:Nat)(ds:List D)(H:Hp)(n:Nat):Option (D×Hp×Nat):=match X.ft f with
 |some i=>match Nat.ble ds.length i.nt with
  |true=>match Cg X cl cp lf My 0 0 (Oo X cl cp lf) i.code ⟨JN 0 ds,H,n⟩ none with
   |some (ex,s,_)=>match SW ex with
    |true=>JG X.tt ⟨Hh s.env i.res,s.H,s.n⟩ i.res
    |false=>none
   |none=>none
  |false=>none
 |none=>none
noncomputable def Lu (X:EV)(cl:BA)(cp:Bh)(lf f:Nat)(ds:List D):Option D:=match X.orc f ds with
 |some d=>some d
 |none=>match X.np f with
  |true=>none
  |false=>match De (DT 20) ds with
   |true=>match MC X cl cp lf f ds [] 0 with
    |some (d,H,_)=>GR 20 H d
    |none=>none
   |false=>none
noncomputable def C1 (X:EV)(lf:Nat):Nat->Bh×BA
 | 0=>(λ_ _=>none,λ_ _ _ _=>none)
 |fu+1=>(λf ds=>match X.np (7000000+f)with
   |true=>Lu X (C1 X lf fu).2 (C1 X lf fu).1 lf f ds
   |false=>I8 X (C1 X lf fu).2 (C1 X lf fu).1 lf f ds,
  λf ds H n=>match X.np (7000000+f)with
   |true=>match Lu X (C1 X lf fu).2 (C1 X lf fu).1 lf f ds with
    |some d=>some (d,H,n+1)
    |none=>MC X (C1 X lf fu).2 (C1 X lf fu).1 lf f ds H n
   |false=>match I8 X (C1 X lf fu).2 (C1 X lf fu).1 lf f ds with
    |some d=>some (d,H,n+1)
    |none=>match Kb X (C1 X lf fu).2 (C1 X lf fu).1 lf f ds H n with
     |some (d,H',n')=>HJ (X.np (2000000+f)) n (HW d n []) H' (λH2=>some (d,H2,n')) (λH1=>Jh n d H1 λH2=>some (d,H2,n'))
     |none=>none)
section
variable {C:AX} {X:EV} {cl:BA} {cp:Bh}
theorem Pv (hX:B9 C X)(hcl:C8 C cl)(hcp:D3 C cp){lf f:Nat}{ds:List D}{H H':Hp}{n n':Nat}{d:D}(h:MC X cl cp lf f ds H n=some (d,H',n')):
  ∃i,GT C.P f i/\Nat.ble ds.length i.nt=true/\∀F:AG,AQ C F none F i.code ⟨CV 0 ds,H,n⟩ (Rf X.tt i.res λd1 H1 n1=>d1=d/\H1=H'/\n1=n'):=by
 unfold MC at h;split at h<;>try(cases h;done)
 rename_i i hi;split at h<;>try(cases h;done)
 rename_i hb;split at h<;>try(cases h;done)
 rename_i ex s j hc;split at h<;>try(cases h;done)
 rename_i hex;obtain⟨p,b1,b2,b3,b4⟩:=QQ h;refine⟨i,hX.ft f i hi,hb,λF=>(FE (I:=λ_ _=>True) hX hcl hcp OV (λ_ _ _ _ h=>(by cases h)) (Vy hX hcl hcp) hc F ⟨CV 0 ds,H,n⟩ ⟨Lj ds 0,rfl,rfl⟩ AA).mono λe1 F1 s1 hq=>?_⟩;obtain⟨rfl,ha,_⟩:=hq;have hw:Ed X.tt s1 i.res λd1=>d1=d/\s1.H=H'/\s1.n=n':=by
  unfold Ed;rw[<-Q2 ha,b1];exact⟨b2,rfl,by rw[ha.2.1];exact b3.symm,by rw[ha.2.2];exact b4.symm⟩
 cases e1 with
 |normal=>exact hw
 |ret=>exact hw
 |exit i=>cases hex
 |goto i=>cases hex
 |panic i=>cases hex
 |outgrown=>cases hex
theorem Pg (hX:B9 C X)(hcl:C8 C cl)(hcp:D3 C cp){lf f:Nat}{ds:List D}{d:D}(h:Lu X cl cp lf f ds=some d):Af C f ds d/\AN ds:=by
 unfold Lu at h;split at h
 ·rename_i ho;cases h;exact hX.orc _ _ _ ho
 ·split at h<;>try(cases h;done)
  split at h<;>try(cases h;done)
  rename_i hp;split at h<;>try(cases h;done)
  rename_i d0 H0 n0 hr;obtain⟨i,a1,a2,a3⟩:=Pv hX hcl hcp hr;obtain⟨z1,z2⟩:=D6 h;refine⟨BN.walk hX.w a1 a2 λF=>(a3 F).mono λe F1 s1 hq=>?_,⟨λx hx=>Cy (Dd hp x hx)⟩⟩;have key:(Ed X.tt s1 i.res λd1=>d1=d0/\s1.H=H0/\s1.n=n0)->Ed X.tt s1 i.res λd1=>∃d2,Fz s1.H [] d1 d2/\BS d2/\d2=d:=λhq=>by
   obtain⟨d1,p,k1,k2,rfl,k3,_⟩:=Lb hq;unfold Ed;rw[k1];exact⟨k2,d,by rw[k3];exact z1,z2,rfl⟩
  cases e with
  |normal=>exact key hq
  |ret=>exact key hq
  |exit i=>exact hq
  |goto i=>exact hq
  |panic i=>exact hq
  |outgrown=>exact hq
theorem N5 (hX:B9 C X)(lf:Nat):∀fu,D3 C (C1 X lf fu).1/\C8 C (C1 X lf fu).2
 | 0=>⟨λ_ _ _ h=>by simp[C1]at h,λ_ _ _ _ _ _ _ h=>by simp[C1]at h⟩
 |fu+1=>by
  obtain⟨hcp,hcl⟩:=N5 hX lf fu;refine⟨λf ds d h=>?_,λf ds H n d H' n' h=>?_⟩
  ·simp only[C1]at h
   split at h
   ·exact Pg hX hcl hcp h
   ·exact LW hX hcl hcp h
  ·simp only[C1]at h
   split at h
   ·split at h
    ·rename_i d0 hp
     cases h;obtain⟨h1,h2⟩:=Pg hX hcl hcp hp;exact .ofPure h1 h2
    ·obtain⟨i,a1,a2,a3⟩:=Pv hX hcl hcp h
     exact Ca.walk hX.w a1 a2 a3
   ·split at h
    ·rename_i d0 hp
     cases h;obtain⟨h1,h2⟩:=LW hX hcl hcp hp;exact .ofPure h1 h2
    ·split at h<;>try(cases h;done)
     rename_i d1 H1 n1 hrun;obtain⟨H2,hsub,hgc⟩:=QN (α:=Option (D×Hp×Nat)) (X.np (2000000+f)) n (HW d1 n []) H1 (λH2=>some (d1,H2,n1)) (λH1=>Jh n d1 H1 λH2=>some (d1,H2,n1)) (RX (α:=Option (D×Hp×Nat)) n d1 H1 (λH2=>some (d1,H2,n1)));rw[hgc]at h;cases h;refine Ca.subH hsub ?_;obtain⟨fn,c,p,a1,a2,a3,a4,a5,a6,a7⟩:=Nu hX hcl hcp hrun;refine Ca.intro hX.tt a1 a2 a3 a4 a5 λF _=>(a7 F).mono ?_
     rintro e s ⟨b1,b2,rfl,rfl⟩;exact⟨b1,d,p,b2,a6,rfl,rfl,rfl⟩
theorem DW (hX:B9 C X)(lf fu:Nat){f:Nat}{ds:List D}{d:D}(h:(C1 X lf fu).1 f ds=some d):Af C f ds d:=((N5 hX lf fu).1 f ds d h).1
end
section
variable {C:AX} {X:EV} {B F:AG} {ops:Array Oper} {s:St} {rd:Option Nat} {Q:Exit->AG->St->Prop}
structure I0 (C:AX)(B F:AG)(k g:Nat)(str:ByteArray)(pos:Nat):Prop where
 ex:∃it,F.r0 k g=some it/\F.X it/\¬F.Wr it/\F.w0.heap[it]?=some (.stringIter str pos)/\C.nG<=it/\∀ {ρ:Lk} {H:Hp} {w:World},AJ C (F.wr it) ρ H w->AJ C B ρ H w
 df:F.df=B.df
theorem Ai.putX {ρ:Lk}{O:Nat->Prop}{w:World}{l:Nat}(hO:O l){o0:Obj}(hc:∀cs T fz,o0≠.cells cs T fz)(h:w.heap[l]?=some o0)(o:Obj):Ai ρ O w ρ O (w.putObj l o):=
 ⟨by rw[(Ga w l o).2.2.2];exact Ag _,λ_ _ _ h=>h,λb hb hb'=>⟨hb',World.putObj_heap_other λhbl=>hb' (by rw[hbl];exact hO)⟩,λb cs T fz hh=>⟨cs,_,by
  rw[World.putObj_heap_other λhbl=>by rw[hbl,h]at hh;exact hc _ _ _ (Ia hh)];exact hh,rfl⟩⟩
theorem AJ.putX {ρ:Lk}{H:Hp}{w:World}{l:Nat}(m:AJ C F ρ H w)(hX:F.X l)(hW:F.Wr l){o0:Obj}(hc:∀cs T fz,o0≠.cells cs T fz)(h:w.heap[l]?=some o0)(o:Obj):AJ C F ρ H (w.putObj l o):=by
 have x:=Ai.putX (ρ:=ρ) (O:=AC F.X ρ H) (.inl hX) hc h o;exact⟨⟨λe he=>by
  rcases m.hok.ent e he with h|⟨b,cs,a1,a2,a3⟩
  ·exact .inl h
  ·exact .inr ⟨b,cs,a1,by rw[World.putObj_heap_other λhb=>(m.hok.own e he b a1).1 (by rw[hb];exact hX)];exact a2,a3.mono x⟩,m.hok.inj,m.hok.own⟩,
  m.os,m.tape,m.output,by rw[(Ga w l o).2.2.2];exact m.size,λb hb hw=>by rw[World.putObj_heap_other λhbl=>hw (by rw[hbl];exact hW)];exact m.blk b hb hw,m.xlt,m.g0,m.gn,m.gw,m.lnk,Fd m.shp x⟩
def OK (C:AX)(X:EV)(B:AG)(kb:Nat)(ops:Array Oper)(ir:Nat)(Q:Exit->AG->St->Prop)(s:St):Prop:=match CP ops.toList ir with
 |some o=>match o.guard with
  |none=>match o.op with
   | .range t x=>match X.tt t with
    |some i=>match i.ti with
     | .string=>match AU s.env x with
      | .prim (.string str)=>∀F':AG,I0 C B F' kb s.n str 0->Q .normal F' ⟨Ae s.env o.dst (.optr kb s.n 0 0 0),s.H,s.n+1⟩
      |_=>False
     |_=>False
    |none=>False
   |_=>False
  |some _=>False
 |none=>False
theorem S6 {F2:AG}{ρ':Lk}{H':Hp}{w':World}{X':Nat->Prop}(hB:Ba C B F)(hdf:F.df=B.df)(hX:∀b,F.X b->X' b)(hsz:B.w0.heap.size<=w'.heap.size)(hm:∀ {ρ:Lk} {H:Hp} {w:World},AJ C (AG.subZ ρ' H' w' F.nt X' (λ_=>False) F.df) ρ H w->AJ C B ρ H w)
  (h2:F2=AG.subZ ρ' H' w' F.nt X' (λ_=>False) F.df):Ba C B F2:=by
 subst h2;exact⟨hB.nt,hsz,hm,λb hb=>hX b (hB.X b hb),[],hdf,[],rfl,.nil,by simp⟩
theorem ea {i:Nat}(hX:CZ C X)(kb:Nat)(l1:List Nat)(ir:Nat)(hl:List.range ops.size=l1++[ir])(hnd:DS ops.toList=true)(hFB:F=B)
  (h:CD C X kb ops l1 s True λacc s1=>acc/\OK C X B (kb+ir) ops ir Q s1):AQ C B rd F (.region i ops false) s Q:=by
 subst hFB;refine⟨λhB hd ρ a w hs=>wpIn_region ?_⟩;rw[hl];have hlt:∀j∈l1++[ir],j<ops.size:=λj hj=>by rw[<-hl]at hj;exact List.mem_range.1 hj
 have h1:=(FG (F:=F) (K':=OK C X F (kb+ir) ops ir Q) hX (λacc s h=>h) h).2.run (λj hj=>hlt j (by simp[hj])) (Ht hB hd) hs;refine EZ (rd:=rd) (Q:=DB C F Q) (l2:=[ir]) (λe a w h=>?_) (Gc hnd) _ a w h1;obtain⟨h0,s1,ρ1,h,hs1⟩:=h;refine⟨h0,?_⟩;unfold OK at h;split at h<;>first|exact h.elim|skip
 rename_i o ho;split at h<;>first|exact h.elim|skip
 rename_i hgd;split at h<;>first|exact h.elim|skip
 rename_i t x hop;split at h<;>first|exact h.elim|skip
 rename_i ti hti;split at h<;>first|exact h.elim|skip
 rename_i hstr;split at h<;>first|exact h.elim|skip
 rename_i str hx;have ho:=Iq ho;have hdo:Bv F.nt o=true:=CK.1 (show ops.toList.all (Bv F.nt)=true from hd) o (DG.2 (Em ho));simp only[wpOpsIn,ho];rw[AL (by unfold Region.wanted;rw[hgd])];have hxv:a.eval x=.string str:=by
  have:=BI hs1.env x
  rw[hx]at this;generalize a.eval x=v at this;cases this;rfl
 have hrun:(execOp a.eval o).run C.P w=.ok (.value (.pointer (some ⟨w.heap.size,0,none⟩))) (w.alloc (.stringIter str 0)):=by
  unfold execOp;simp only[hop];rw[run_bind]
  have:(Instr.range t (a.eval x)).run C.P w=.ok (.pointer (some ⟨w.heap.size,0,none⟩)) (w.alloc (.stringIter str 0)):=by
   unfold Instr.range;rw[run_bind,BK (Ho (hX.tt _ _ hti) hstr),hxv];dsimp only;rw[run_bind,run_pure];dsimp only;rw[run_bind,run_newObj_alloc];rfl
  rw[this];rfl
 refine J0 hrun ?_;show DB C F Q .normal _ _;have m:=hs1.mem
 let it:=w.heap.size
 let X1:Nat->Prop:=λb=>F.X b\/b=it
 have hown:∀e∈s1.H,∀b,ρ1 e.k e.g=some b->b<w.heap.size:=λe he b hb=>m.lt he hb
 have hfr:ρ1 (kb+ir) s1.n=none:=hs1.fresh _ _ (Ag _)
 let ρ2:=ρ1.put (kb+ir) s1.n it
 have hput:∀k g b,ρ1 k g=some b->ρ2 k g=some b:=λk g b hb=>JY hfr hb
 have hown2:∀e∈s1.H,∀b,ρ2 e.k e.g=some b->ρ1 e.k e.g=some b:=λe he b hb=>by
  have hg:=hs1.gen e he
  have:ρ2 e.k e.g=ρ1 e.k e.g:=by
   show(if e.k=kb+ir/\e.g=s1.n then some it else ρ1 e.k e.g)=_;rw[Bf]
  rw[<-this];exact hb
 have hw1:(w.alloc (.stringIter str 0)).heap.size=w.heap.size+1:=World.size_alloc ..;have hold:∀b,b<w.heap.size->(w.alloc (.stringIter str 0)).heap[b]?=w.heap[b]?:=λb hb=>by rw[CN,Bf]
 have xx:∀X':Nat->Prop,(∀b,b<w.heap.size->X' b->F.X b)->Ai ρ1 (AC F.X ρ1 s1.H) w ρ2 (AC X' ρ2 s1.H) (w.alloc (.stringIter str 0)):=λX' hX'=>by
  refine⟨by omega,hput,λb hb hO=>⟨?_,hold b hb⟩,λb cs T fz hc=>⟨cs,_,by rw[hold b (Bi.1 hc).1];exact hc,rfl⟩⟩;rintro(h|⟨e,he,h⟩)
  ·exact hO (.inl (hX' b hb h))
  ·exact hO (.inr ⟨e,he,hown2 e he b h⟩)
 have m1:AJ C F ρ2 s1.H (w.alloc (.stringIter str 0)):=by
  have x1:=xx F.X λ_ _ h=>h
  refine⟨⟨λe he=>?_,m.hok.inj.imp_of_mem λ{e e'} he he' h b b' hb hb'=>h b b' (hown2 e he b hb) (hown2 e' he' b' hb'),λe he b hb=>m.hok.own e he b (hown2 e he b hb)⟩,m.os,m.tape,m.output,by have:=m.size;omega,
   λb hb hW=>by rw[hold b (CF hb m.size)];exact m.blk b hb hW,m.xlt,m.g0,m.gn,m.gw,λk g b h=>hput _ _ _ (m.lnk k g b h),Fd m.shp x1⟩
  rcases m.hok.ent e he with⟨h1,h2⟩|⟨b,cs,a1,a2,a3⟩
  ·refine .inl ⟨h1,?_⟩
   cases hb:ρ2 e.k e.g with
   |none=>rfl
   |some b=>rw[hown2 e he b hb]at h2;cases h2
  ·exact .inr ⟨b,cs,hput _ _ _ a1,by rw[hold b (m.lt he a1)];exact a2,a3.mono x1⟩
 have hitm:∀e∈s1.H,∀b,ρ2 e.k e.g=some b->b≠it:=λe he b hb=>by have:=hown e he b (hown2 e he b hb);simp only[it];omega
 have hX1lt:∀b,X1 b->b<(w.alloc (.stringIter str 0)).heap.size:=λb hb=>by
  rcases hb with h|h
  ·have:=m.xlt b h;have:=m.size;omega
  ·simp only[it]at h;omega
 have hX1o:∀e∈s1.H,∀b,ρ2 e.k e.g=some b->¬X1 b:=λe he b hb hb'=>by
  rcases hb' with h|h
  ·exact(m.hok.own e he b (hown2 e he b hb)).1 h
  ·exact hitm e he b hb h
 have e2:∀e∈s1.H,∀b,AC F.X ρ2 s1.H b->AC X1 ρ2 s1.H b:=λ_ _ _ h=>h.imp .inl id
 have hng:C.nG<=it:=by have:=m.gn;have:=m.size;simp only[it];omega
 have ent:∀Z:Nat->Prop,(∀b,Z b->b=it)->AJ C (AG.subZ ρ2 s1.H (w.alloc (.stringIter str 0)) F.nt X1 Z F.df) ρ2 s1.H (w.alloc (.stringIter str 0)):=λZ hZ=>by
  refine⟨⟨λe he=>?_,m1.hok.inj,λe he b hb=>⟨hX1o e he b hb,.inr (.inl ⟨e,he,hb⟩)⟩⟩,rfl,rfl,rfl,Ag _,λ_ _ _=>rfl,hX1lt,m1.g,Ar m1.gn m1.size,λb hb=>?_,λ_ _ _ h=>h,λ_ cs _ _ h=>⟨cs,_,h,rfl⟩⟩
  ·rcases m.hok.ent e he with⟨h1,h2⟩|⟨b,cs,a1,a2,a3⟩
   ·rcases m1.hok.ent e he with h|⟨b,cs,b1,_⟩
    ·exact .inl h
    ·rw[hown2 e he b b1]at h2;cases h2
   ·exact .inr ⟨b,cs,hput _ _ _ a1,by rw[hold b (m.lt he a1)];exact a2,a3.mono (xx X1 λb hb h=>h.resolve_right λh=>by simp only[it]at h;omega)⟩
  ·rcases hb with⟨e,he,hb⟩|hb
   ·rcases(m1.hok.own e he b hb).2 with h|h
    ·exact Ar m1.gn h
    ·exact m1.gw b h
   ·rw[hZ b hb];exact hng
 let F2:=AG.subZ ρ2 s1.H (w.alloc (.stringIter str 0)) F.nt X1 (λ_=>False) F.df
 have upZ:∀ {ρ:Lk} {H:Hp} {w':World},AJ C (F2.wr it) ρ H w'->AJ C F ρ H w':=λ{ρ H w'} m'=>by
  have m'':AJ C (AG.subZ ρ2 s1.H (w.alloc (.stringIter str 0)) F.nt X1 (λb=>b=it) F.df) ρ H w':=L7 m' rfl rfl rfl (λb hb=>by
   rcases hb with(hb|hb)|hb
   ·exact .inl hb
   ·exact hb.elim
   ·exact .inr hb) (ent _ λ_ h=>h).gw
  exact(m1.leaveZ (λb hb=>.inl hb) (λb hb=>.inl (by rw[hb];exact m.size)) m'').1
 have hit:I0 C F F2 (kb+ir) s1.n str 0:=⟨⟨it,CA ..,.inr rfl,λh=>by
  rcases h with⟨e,he,h⟩|h
  ·exact hitm e he it h rfl
  ·exact h,by show(w.alloc _).heap[it]?=_;rw[CN,AL rfl],hng,upZ⟩,rfl⟩
 have hF2:Ba C F F2:=S6 hB rfl (λb hb=>.inl hb) (by have:=m.size;show _<=(w.alloc _).heap.size;omega) (λm'=>upZ (m'.wr hng)) rfl;refine⟨F2,_,ρ2,hF2,h F2 hit,?_⟩;have hs2:Aq C F2 ρ2 ⟨s1.env,s1.H,s1.n+1⟩ a (w.alloc (.stringIter str 0)):=⟨ent _ λ_ h=>h.elim,λk g hg=>by
  have hg:s1.n+1<=g:=hg;show(if k=kb+ir/\g=s1.n then some it else ρ1 k g)=none;rw[Bf];exact hs1.fresh k g (by omega),λe he=>BE (hs1.gen e he),λt=>(hs1.env t).mono (xx X1 λb hb h=>h.resolve_right λh=>by simp only[it]at h;omega),hs1.nt,hs1.dfr⟩
 exact hs2.put (H':=s1.H) hs2.mem (.refl _ _ _) hs2.fresh hs2.gen (.optr (CA ..)) hdo
def SE (C:AX)(X:EV)(B F:AG)(kb:Nat)(ops:Array Oper)(i0:Nat)(l2:List Nat)(str:ByteArray)(pos:Nat)(Q:Exit->AG->St->Prop)(s:St):Prop:=match CP ops.toList i0 with
 |some o=>match o.guard with
  |none=>match o.op with
   | .next x true=>match AU s.env x with
    | .optr k g 0 0 0=>I0 C B F k g str pos /\
     (pos<str.size->∀F':AG,I0 C B F' k g str (pos+(Utf8.decode str pos).2)->CD C X kb ops l2 ⟨Ae s.env o.dst (.tup [Al true,i64 pos,.prim (.int .i32 (Utf8.decode str pos).1)]),s.H,s.n+1⟩ True λacc s=>acc/\Q .normal F' s) /\
     (¬pos<str.size->CD C X kb ops l2 ⟨Ae s.env o.dst (.tup [Al false]),s.H,s.n+1⟩ True λacc s=>acc/\Q .normal F s)
    |_=>False
   |_=>False
  |some _=>False
 |none=>False
theorem eH {i:Nat}(hX:CZ C X)(kb:Nat)(i0:Nat)(l2:List Nat)(hl:List.range ops.size=i0::l2)(hnd:DS ops.toList=true)(str:ByteArray)(pos:Nat)
  (h:SE C X B F kb ops i0 l2 str pos Q s):AQ C B rd F (.region i ops false) s Q:=by
 refine⟨λhB hd ρ a w hs=>wpIn_region ?_⟩;rw[hl];have hlt:∀j∈i0::l2,j<ops.size:=λj hj=>by rw[<-hl]at hj;exact List.mem_range.1 hj
 unfold SE at h;split at h<;>first|exact h.elim|skip
 rename_i o ho;split at h<;>first|exact h.elim|skip
 rename_i hgd;split at h<;>first|exact h.elim|skip
 rename_i x hop;split at h<;>first|exact h.elim|skip
 rename_i k g hx;obtain⟨⟨⟨it,i1,i2,i3,i4,i5,i6⟩,idf⟩,h1,h2⟩:=h;have ho:=Iq ho;have hdo:Bv B.nt o=true:=CK.1 (show ops.toList.all (Bv B.nt)=true from hd) o (DG.2 (Em ho));simp only[wpOpsIn,ho];rw[AL (by unfold Region.wanted;rw[hgd])];have m:=hs.mem;have hlk:ρ k g=some it:=m.lnk _ _ _ i1;have hxv:a.eval x=.pointer (some ⟨it,0,none⟩):=by
  have:=BI hs.env x
  rw[hx]at this;generalize a.eval x=v at this;cases this with
  |optr hr=>rw[hlk]at hr;cases hr;rfl
 have hob:w.heap[it]?=some (.stringIter str pos):=(m.blk it (m.xlt it i2) i3).trans i4;have hget:(getObj it).run C.P w=.ok (.stringIter str pos) w:=by
  simp[getObj,Sem.run,hob]
 by_cases hp:pos<str.size
 ·have hrun:(execOp a.eval o).run C.P w=.ok (.value (.tuple #[.bool true,.int .i64 pos,.int .i32 (Utf8.decode str pos).1])) (w.putObj it (.stringIter str (pos+(Utf8.decode str pos).2))):=by
   unfold execOp;simp only[hop];rw[run_bind]
   have:(Instr.next (a.eval x) true o.type).run C.P w=.ok (.tuple #[.bool true,.int .i64 pos,.int .i32 (Utf8.decode str pos).1]) (w.putObj it (.stringIter str (pos+(Utf8.decode str pos).2))):=by
    unfold Instr.next;rw[hxv];simp only[];rw[run_bind,hget];dsimp only;rw[AL hp];rw[run_bind]
    have:(setObj it (.stringIter str (pos+(Utf8.decode str pos).2))).run C.P w=.ok () (w.putObj it (.stringIter str (pos+(Utf8.decode str pos).2))):=by
     simp[setObj,Sem.run,hob,World.putObj]
    rw[this];rfl
   rw[this];rfl
  refine J0 hrun ?_;have mp:=(m.wr i5).putX i2 (.inr rfl) (o0:=.stringIter str pos) (by simp) hob (.stringIter str (pos+(Utf8.decode str pos).2));have xp:=Ai.putX (ρ:=ρ) (O:=AC F.X ρ s.H) (w:=w) (.inl i2) (o0:=.stringIter str pos) (by simp) hob (.stringIter str (pos+(Utf8.decode str pos).2));have hitw:it<w.heap.size:=(Bi.1 hob).1;have hit':(w.putObj it (.stringIter str (pos+(Utf8.decode str pos).2))).heap[it]?=some (.stringIter str (pos+(Utf8.decode str pos).2)):=World.putObj_heap_same hitw;have hszp:=(Ga w it (.stringIter str (pos+(Utf8.decode str pos).2))).2.2.2;generalize w.putObj it (.stringIter str (pos+(Utf8.decode str pos).2))=w2 at mp xp hit' hszp⊢
  let F2:=AG.subZ ρ s.H w2 F.nt F.X (λ_=>False) F.df
  have m2:AJ C F2 ρ s.H w2:=mp.enterZ (.refl _ _ _) rfl rfl rfl (λ_ _ _=>rfl) (λ_ _ _ _ h=>h) (λb hb=>CF (mp.xlt b hb) mp.size) (λe he b hb=>(mp.hok.own e he b hb).1) (λ_ h=>h.elim) _ _;have mZ:AJ C (AG.subZ ρ s.H w2 F.nt F.X (λb=>b=it) F.df) ρ s.H w2:=mp.enterZ (.refl _ _ _) rfl rfl rfl (λ_ _ _=>rfl) (λe he b hb hb'=>(mp.hok.own e he b hb).1 (by rw[hb'];exact i2)) (λb hb=>CF (mp.xlt b hb) mp.size) (λe he b hb=>(mp.hok.own e he b hb).1) (λb hb=>by rw[hb];exact i5) _ _;have upZ:∀ {ρ':Lk} {H':Hp} {w':World},AJ C (F2.wr it) ρ' H' w'->AJ C B ρ' H' w':=λ{ρ' H' w'} m'=>by
   have m'':AJ C (AG.subZ ρ s.H w2 F.nt F.X (λb=>b=it) F.df) ρ' H' w':=L7 m' rfl rfl rfl (λb hb=>by
    rcases hb with(hb|hb)|hb
    ·exact .inl hb
    ·exact hb.elim
    ·exact .inr hb) mZ.gw
   exact i6 (mp.leaveZ (λ_ h=>h) (λb hb=>.inr (.inr hb)) m'').1
  have hiter:I0 C B F2 k g str (pos+(Utf8.decode str pos).2):=⟨⟨it,hlk,i2,λh=>by
   rcases h with⟨e,he,h⟩|h
   ·exact(mp.hok.own e he it h).1 i2
   ·exact h,hit',i5,upZ⟩,idf⟩
  have hB2:Ba C B F2:=S6 hB idf (λ_ h=>h) (by rw[hszp];exact Ar hB.sz m.size) (λm'=>upZ (m'.wr i5)) rfl;have hs1:Aq C F2 ρ ⟨s.env,s.H,s.n+1⟩ a w2:=⟨m2,λk g hg=>hs.fresh k g (by have:s.n+1<=g:=hg;omega),λe he=>BE (hs.gen e he),λt=>(hs.env t).mono xp,hs.nt,hs.dfr⟩
  have hs2:=hs1.put (H':=s.H) (o:=o) (d:=.tup [Al true,i64 pos,.prim (.int .i32 (Utf8.decode str pos).1)]) (v:=.tuple #[.bool true,.int .i64 pos,.int .i32 (Utf8.decode str pos).1]) hs1.mem (.refl _ _ _) hs1.fresh hs1.gen (.tup rfl λi d hd=>by
   match i with
   | 0=>simp at hd;subst hd;exact .prim _
   | 1=>simp at hd;subst hd;exact .prim _
   | 2=>simp at hd;subst hd;exact .prim _
   |n+3=>simp at hd) (by rw[show F2.nt=B.nt from hB.nt];exact hdo)
  have h3:=(FG (F:=F2) (K':=Q .normal F2) hX (λacc s h=>h) (h1 hp F2 hiter)).2.run (λj hj=>hlt j (by simp[hj])) (Ht hB2 hd) hs2
  have:=EZ (rd:=rd) (Q:=DB C B Q) (l2:=[]) (λ_ _ _ h=>KF hB2 (λ_ h=>h) h) (Gc hnd) _ _ _ h3
  rwa [Ek]at this
 ·have hrun:(execOp a.eval o).run C.P w=.ok (.value (.tuple #[.bool false])) w:=by
   unfold execOp;simp only[hop];rw[run_bind]
   have:(Instr.next (a.eval x) true o.type).run C.P w=.ok (.tuple #[.bool false]) w:=by
    unfold Instr.next;rw[hxv];simp only[];rw[run_bind,hget];dsimp only;rw[AM hp];rfl
   rw[this];rfl
  refine J0 hrun ?_;have hs1:Aq C F ρ ⟨s.env,s.H,s.n+1⟩ a w:=⟨m,λk g hg=>hs.fresh k g (by have:s.n+1<=g:=hg;omega),λe he=>BE (hs.gen e he),hs.env,hs.nt,hs.dfr⟩
  have hs2:=hs1.put (H':=s.H) (o:=o) (d:=.tup [Al false]) (v:=.tuple #[.bool false]) hs1.mem (.refl _ _ _) hs1.fresh hs1.gen (.tup rfl λi d hd=>by
   match i with
   | 0=>simp at hd;subst hd;exact .prim _
   |n+1=>simp at hd) (by rw[hB.nt];exact hdo)
  have h3:=(FG (F:=F) (K':=Q .normal F) hX (λacc s h=>h) (h2 hp)).2.run (λj hj=>hlt j (by simp[hj])) (Ht hB hd) hs2
  have:=EZ (rd:=rd) (Q:=DB C B Q) (l2:=[]) (λ_ _ _ h=>KF hB (λ_ h=>h) h) (Gc hnd) _ _ _ h3
  rwa [Ek]at this
end
section
variable {C:AX} {X:EV} {kb:Nat} {ops:Array Oper} {i:Nat} {l:List Nat} {s:St} {acc:Prop} {K:Prop->St->Prop} {o:Oper}
theorem Jy (h:K acc s):CD C X kb ops [] s acc K:=h
theorem C7 (h:CP ops.toList i=some o)(hg:o.guard=none)(hk:EF C X (kb+i) (AU s.env) s.H s.n o.op acc λacc d H n=>CD C X kb ops l ⟨Ae s.env o.dst d,H,n⟩ acc K):CD C X kb ops (i::l) s acc K:=by
 unfold CD;simp only[h,hg];exact hk
theorem G6 {g:Nat×Bool}{b:Bool}(h:CP ops.toList i=some o)(hg:o.guard=some g)(hw:Aj ops s.env o=some b)(hb:b=true)(ha:acc)
  (hk:EF C X (kb+i) (AU s.env) s.H s.n o.op True λacc d H n=>CD C X kb ops l ⟨Ae s.env o.dst d,H,n⟩ acc K):CD C X kb ops (i::l) s acc K:=by
 unfold CD;simp only[h,hg,hw];subst hb;exact⟨ha,hk⟩
theorem P3 {g:Nat×Bool}{b:Bool}(h:CP ops.toList i=some o)(hg:o.guard=some g)(hw:Aj ops s.env o=some b)(hb:b=false)(ha:acc)
  (hk:CD C X kb ops l ⟨Ae s.env o.dst (.prim (.tuple #[])),s.H,s.n+1⟩ True K):CD C X kb ops (i::l) s acc K:=by
 unfold CD;simp only[h,hg,hw];subst hb;exact⟨ha,hk⟩
section
variable {g:Operand->D} {H:Hp} {n:Nat} {op:Op} {k:Prop->D->Hp->Nat->Prop}
theorem F6 {P:Prop->Prop}{d:D}{H':Hp}{n':Nat}(hs:∀acc k,EF C X kb g H n op acc k=k (P acc) d H' n')(hk:k (P acc) d H' n'):EF C X kb g H n op acc k:=by rw[hs];exact hk
theorem KA {f:Nat}{ds:List D}(hs:∀acc k,EF C X kb g H n op acc k=(acc/\B0 C f ds H n λd H n=>k True d H n))(ha:acc)(hc:B0 C f ds H n λd H n=>k True d H n):EF C X kb g H n op acc k:=by
 rw[hs];exact⟨ha,hc⟩
theorem Rp {es:List D}{j:Int}{sz esz:Nat}{d:D}(hs:∀acc k,EF C X kb g H n op acc k=(acc/\(sz=esz/\0<=j)/\∃d,es[j.toNat]?=some d/\k True (.pptr d) H (n+1)))(ha:acc)(h1:sz=esz/\0<=j)
  (h2:es[j.toNat]?=some d) (hk:k True (.pptr d) H (n+1)):EF C X kb g H n op acc k:=by
 rw[hs];exact⟨ha,h1,d,h2,hk⟩
end
section
variable {H:Hp} {n:Nat} {env:AZ} {N:Hp} {K:Prop->AZ->Hp->Prop}
theorem LL (h:K acc env N):DD C X kb ops H n [] env N acc K:=h
theorem EW (h:CP ops.toList i=some o)(hg:o.guard=none)(hk:C5 C X (kb+i) (AU env) H (n+i) o.op acc λacc d ne=>DD C X kb ops H n l (Ae env o.dst d) (BW ne N) acc K):DD C X kb ops H n (i::l) env N acc K:=by
 unfold DD;simp only[h,hg];exact hk
theorem Is {g:Nat×Bool}{b:Bool}(h:CP ops.toList i=some o)(hg:o.guard=some g)(hw:Aj ops env o=some b)(hb:b=true)(ha:acc)
  (hk:C5 C X (kb+i) (AU env) H (n+i) o.op True λacc d ne=>DD C X kb ops H n l (Ae env o.dst d) (BW ne N) acc K):DD C X kb ops H n (i::l) env N acc K:=by
 unfold DD;simp only[h,hg,hw];subst hb;exact⟨ha,hk⟩
theorem P2 {g:Nat×Bool}{b:Bool}(h:CP ops.toList i=some o)(hg:o.guard=some g)(hw:Aj ops env o=some b)(hb:b=false)(ha:acc)
  (hk:DD C X kb ops H n l (Ae env o.dst (.prim (.tuple #[]))) N True K):DD C X kb ops H n (i::l) env N acc K:=by
 unfold DD;simp only[h,hg,hw];subst hb;exact⟨ha,hk⟩
section
variable {g:Operand->D} {op:Op} {k:Prop->D->Option AH->Prop}
theorem EJ {P:Prop->Prop}{d:D}{ne:Option AH}(hs:∀acc k,C5 C X kb g H n op acc k=k (P acc) d ne)(hk:k (P acc) d ne):C5 C X kb g H n op acc k:=by rw[hs];exact hk
theorem J9 {f:Nat}{ds:List D}(hs:∀acc k,C5 C X kb g H n op acc k=(acc/\Ch C f ds λd=>k True d none))(ha:acc)(hc:Ch C f ds λd=>k True d none):C5 C X kb g H n op acc k:=by
 rw[hs];exact⟨ha,hc⟩
theorem ME {es:List D}{j:Int}{sz esz:Nat}{d:D}(hs:∀acc k,C5 C X kb g H n op acc k=(acc/\(sz=esz/\0<=j)/\∃d,es[j.toNat]?=some d/\k True (.pptr d) none))(ha:acc)(h1:sz=esz/\0<=j)
  (h2:es[j.toNat]?=some d) (hk:k True (.pptr d) none):C5 C X kb g H n op acc k:=by
 rw[hs];exact⟨ha,h1,d,h2,hk⟩
end
end
end
def GV (H:Hp)(d0 d:D):Prop:=∀(C:AX) (F:AG) (ρ:Lk) (w:World),AJ C F ρ H w->(∀b,AC F.X ρ [] b->AC F.X ρ H b)->(∀e∈H,∀b,ρ e.k e.g=some b->¬AC F.X ρ [] b) ->
 ∀v,AF ρ (AC F.X ρ H) w d0 v->AF ρ (AC F.X ρ []) w d v
theorem GV.refl (H:Hp)(d:D):GV H d d:=λ_ _ _ _ _ hO _ _ hv=>hv.anti hO
theorem GV.ptr {H:Hp}{k g sz:Nat}{e:AH}{x:D}(he:Hp.get H k=some e)(hg:g=e.g)(hs:sz=e.sz)(hx:e.es=[x])(hz:e.sz≠0:=by first|decide|(intro h;cases h)):GV H (.optr k g sz 0 0) (.pptr x):=λC F ρ w m hO hN v hv=>by
 subst hg hs;obtain⟨hm,hk⟩:=Hp.get_mem he;cases hv with
 |optr hr=>
  rename_i b;rw[<-hk]at hr;obtain⟨cs,h1,h2⟩:=m.at hm hr hz;have hlen:=h2.len;rw[hx]at hlen;have hsz:=h2.siz 0 x (by rw[hx];rfl);have hin:∀n,n<x.cells.length->n<cs.size:=λn hn=>by
   simp only[CY,IT]at hlen;omega
  rw[show 0*e.sz+0=0 from by omega];refine .pptr (λn=>cs.getD n undef) (hN e hm b hr) (m.lt hm hr) (λn hn=>?_) (λn hn=>?_) λj d hd=>?_
  ·rw[Bx];simp[World.cell?,h1,hin n hn]
  ·have:=h2.one _ _ (BB (hin n hn))
   simpa[AP,BB (hin n hn)]using this
  ·have:=h2.rep 0 x j d (by rw[hx];rfl) hd
   rw[Gx,Bx]at this;exact this.anti hO
section
variable {C:AX} {X:EV}
theorem TD {f:Nat}{ds ds':List D}{d:D}{H:Hp}{n:Nat}(hc:Af C f ds' d)(hl:ds'.length=ds.length)(hv:∀(i:Nat) (a b:D),ds[i]?=some a->ds'[i]?=some b->GV H a b)
  (hp:AN ds') (hflat:Cd d):Ca C f ds H n (λd' H' n'=>d'=d/\H'=H/\n'=n+1):=by
 refine⟨hc.1,λF ρ w vs m hfr hg hvs hr=>?_⟩;have hH:CT H [] H []:=by
  generalize H=H0
  have:∀H1:Hp,CT H0 [] H1 []:=λH1=>by
   induction H1 with
   |nil=>exact .nil
   |cons e r ih=>exact .drop ih
  exact this H0
 obtain⟨m',hO,hN⟩:=hH.mem m;refine(hc.2 (AC F.X ρ []) w vs m.g (Ar m.gn m.size) (λb hb=>m'.own_lt hb) (by omega) λi x hx=>?_).mono ?_
 ·have hi:i<ds'.length:=(Au.1 hx).1
  have hd0:ds[i]?=some ds[i]:=CG;exact hp.out x (Bc hx) _ _ _ _ _ (hv i _ x hd0 hx C F ρ w m hO (λe he b hb=>hN e he b hb rfl) _ (hr i _ hd0))
 ·rintro e w' ⟨v,d',rfl,hb,hd',rep⟩
  subst hd';have x:Ai ρ (AC F.X ρ H) w ρ (AC F.X ρ H) w':=⟨hb.size,λ_ _ _ h=>h,λb hb' hO=>⟨hO,hb.block b hb'⟩,λb cs T fz hh=>⟨cs,_,by
   rw[hb.block b (Bi.1 hh).1];exact hh,rfl⟩⟩
  exact⟨v,_,H,n+1,ρ,rfl,⟨rfl,rfl,rfl⟩,m.same x hb.os hb.tape hb.output hb.block,x,λk g hg'=>hfr k g (by omega),λe he=>BE (hg e he),hflat _ _ _ _ _ _ _ rep⟩
end
abbrev M2 (z:Int):D:=.agg [i64 z,BC]
abbrev M1 (a b:Int):D:=.agg [i64 a,BC,i64 b,BC]
theorem ab {y n:Prop}:Gr true y n=y:=rfl
theorem aa {y n:Prop}:Gr false y n=n:=rfl
theorem Nr {H Hf:Hp}:∀r:Hp,CT H Hf r r
 | []=>.nil
 |_::r=>.keep (Nr r)
theorem B7 {P:Prop}(h:P:=by(repeat'(first|exact AA|exact rfl|exact Or.inl rfl|exact Or.inr rfl|exact Cc.agg|exact Md rfl|exact A0 rfl|refine C2 ?_ ?_|(intro hq;first|exact rfl|exact AA|(exact AY hq (by decide)))|exact Ag _|omega|decide|(dsimp only[List.length_cons,List.length_nil];omega)))):P:=h
structure Ci (Q:Prop):Prop where
 out:Q
theorem BD {P Q:Prop}(h:Q)(e:Ci Q->P:=by intro hq;(try dsimp only[M2,M1,Bs,Ae,BW,AU,AZ.get,Dc,EB,Cr,Gj,GE,DU,DO,D.cells,ofV,Hp.get,Hp.set,Hp.del,Ez,CV,E0,cond,Gl,HL,HG,FM,MN,BL,List.map,List.length,List.append,List.nil_append,List.cons_append,List.append_nil,List.size_toArray,List.length_cons,List.length_nil,Value.cells,List.toList_toArray,Array.toList,Nat.reduceAdd,Nat.reduceMul,Nat.beq,Nat.reduceSub,BL,Fm,Bs,Bool.false_and,Bool.true_and,Bool.true_or,Bool.false_or,Bool.not_true,Bool.not_false]);exact hq.out):P:=e ⟨h⟩
theorem GS {A P Q:Prop}(h:Q)(a:A:=by exact B7)(e:Ci Q->P:=by intro hq;refine BD ?_;exact hq.out):A/\P:=⟨a,e ⟨h⟩⟩
theorem As {s s':St}(a:CT s.H s'.H s.H s'.H:=by(first|(exact Nr _)|(repeat(first|exact .nil|(exact Nr _)|refine .keep ?_|refine .drop ?_))))
  (b:ID s.H s'.H s.env s'.env:=by(repeat'(first|exact AA|exact Fz.refl _|refine C2 ?_ ?_|(refine dF ?_;dsimp only[M2,M1,Bs,Ae,BW,AU,AZ.get,Dc,EB,Cr,Gj,GE,DU,DO,D.cells,ofV,Hp.get,Hp.set,Hp.del,Ez,CV,E0,cond,Gl,HL,HG,FM,MN,BL,List.map,List.length,List.append,List.nil_append,List.cons_append,List.append_nil,List.size_toArray,List.length_cons,List.length_nil,Value.cells,List.toList_toArray,Array.toList,Nat.reduceAdd,Nat.reduceMul,Nat.beq,Nat.reduceSub,BL,Fm,Bs,Bool.false_and,Bool.true_and,Bool.true_or,Bool.false_or,Bool.not_true,Bool.not_false];first|exact rfl|(simp_all;done)))))
  (c:s.n<=s'.n:=by(first|exact Ag _|decide|(dsimp only;omega))):Wk s s':=⟨a,b,c⟩
theorem M3 {P Q:Prop}(h:Q)(e:Ci Q->P:=by
  intro hq
  repeat(first|(refine C7 rfl rfl ?_;refine F6 (λ_ _=>rfl) ?_)|(refine EW rfl rfl ?_;refine EJ (λ_ _=>rfl) ?_))
  try(refine LL ?_;repeat(first|(refine C7 rfl rfl ?_;refine F6 (λ_ _=>rfl) ?_)|(refine EW rfl rfl ?_;refine EJ (λ_ _=>rfl) ?_)))
  first|refine Jy (C2 B7 ?_)|(refine C7 rfl rfl ?_;refine KA (λ_ _=>rfl) B7 ?_)|(refine EW rfl rfl ?_;refine J9 (λ_ _=>rfl) B7 ?_)|skip
  refine BD ?_;exact hq.out):P:=e ⟨h⟩
section
variable {C:AX} {X:EV} {kb:Nat} {g:Operand->D} {H:Hp} {n:Nat} {acc:Prop}
theorem LN {p a:Prop}(hp:p):(p/\a)=a:=propext ⟨And.right,λh=>⟨hp,h⟩⟩
theorem Qt {tt:Nat->Option AI}{t:Nat}{x:Operand}{i:AI}{k' gg sz j off:Nat}{e:AH}{d d':D}(h1:tt t=some i)(h2:g x=.optr k' gg sz j off)(h3:Hp.get H k'=some e)
  (h4:e.es[j]?=some d) (h5:Cr i.ag i.sz off d.cells=some d'):
  CR tt H n kb g (.load t x)=some (d',none,gg=e.g/\sz=e.sz/\(bif Nat.ble 1 e.sz then bif i.ag then Nat.ble (off+i.sz) d.cells.length else true else false)=true):=by
 simp only[CR,h1,h2,h3,h4,h5]
theorem L5 {t:Nat}{x:Operand}{i:AI}{k' gg sz j off:Nat}{e:AH}{d d':D}{k:Prop->D->Hp->Nat->Prop}(h1:X.tt t=some i)(h2:g x=.optr k' gg sz j off)(h3:Hp.get H k'=some e)
  (h4:e.es[j]?=some d) (hk:k acc d' H (n+1)) (h5:Cr i.ag i.sz off d.cells=some d':=by exact rfl) (h6:gg=e.g/\sz=e.sz/\(bif Nat.ble 1 e.sz then bif i.ag then Nat.ble (off+i.sz) d.cells.length else true else false)=true:=by exact B7):
  EF C X kb g H n (.load t x) acc k:=by
 unfold EF;simp only[Qt h1 h2 h3 h4 h5,LN h6];exact hk
theorem IC {t:Nat}{x:Operand}{i:AI}{k' gg sz j off:Nat}{e:AH}{d d':D}{k:Prop->D->Option AH->Prop}(h1:X.tt t=some i)(h2:g x=.optr k' gg sz j off)(h3:Hp.get H k'=some e)
  (h4:e.es[j]?=some d) (hk:k acc d' none) (h5:Cr i.ag i.sz off d.cells=some d':=by exact rfl) (h6:gg=e.g/\sz=e.sz/\(bif Nat.ble 1 e.sz then bif i.ag then Nat.ble (off+i.sz) d.cells.length else true else false)=true:=by exact B7):
  C5 C X kb g H n (.load t x) acc k:=by
 unfold C5;simp only[Qt h1 h2 h3 h4 h5,LN h6];exact hk
theorem L6 {t:Nat}{x y:Operand}{i:AI}{k' gg sz j off:Nat}{e:AH}{d d':D}{k:Prop->D->Hp->Nat->Prop}(h1:X.tt t=some i)(h2:g x=.optr k' gg sz j off)(h3:Hp.get H k'=some e)
  (h4:e.es[j]?=some d) (hk:k acc (.prim (.tuple #[])) (Hp.set H k' ⟨e.k,e.g,e.T,e.sz,e.es.set j d'⟩) (n+1))
  (h5:EB i off sz d (g y)=d':=by exact rfl) (h6:Cc i.ag i.sz (g y)/\gg=e.g/\sz=e.sz/\(bif Nat.ble 1 e.sz then Nat.ble (off+i.sz) e.sz else false)=true:=by exact B7):
  EF C X kb g H n (.store t x y) acc k:=by
 subst h5;unfold EF;simp only[Cw,h1,h2,h3,h4,LN h6,J8];exact hk
end
section
variable {C:AX} {X:EV} {kb:Nat} {ops:Array Oper} {iw:Nat} {ia:Option Nat} {R:Hp} {clo:List Nat} {n i:Nat} {l:List Nat} {env:AZ} {N:Hp} {accE acc':Option AH} {acc:Prop} {K:Prop->AZ->Hp->AH->AH->Prop} {o:Oper}
theorem Nb {e e':AH}(h:K acc env N e e'):Co C X kb ops iw ia R clo n [] env N (some e) (some e') acc K:=h
theorem Hs (h:CP ops.toList i=some o)(hw:Nat.beq i iw=false)(ha:Fm ia i=false)(hg:o.guard=none)
  (hk:C5 C X (kb+i) (AU env) (FM ia accE R (BL i clo)) (n+i) o.op acc λacc d ne=>Co C X kb ops iw ia R clo n l (Ae env o.dst d) (BW ne N) accE acc' acc K):
  Co C X kb ops iw ia R clo n (i::l) env N accE acc' acc K:=by
 unfold Co;simp only[h,hw,ha,hg];exact hk
theorem Nm {e:AH}(h:CP ops.toList i=some o)(hw:Nat.beq i iw=true)(hg:o.guard=none)
  (hk:HY X (kb+i) e (n+i) (AU env) o.op acc λacc d e'=>Co C X kb ops iw ia R clo n l (Ae env o.dst d) N (some e) (some e') acc K):
  Co C X kb ops iw ia R clo n (i::l) env N (some e) none acc K:=by
 unfold Co;simp only[h,hw,hg];exact hk
theorem Nl (h:CP ops.toList i=some o)(hw:Nat.beq i iw=false)(ha:Fm ia i=true)(hg:o.guard=none)
  (hk:C5 C X (kb+i) (AU env) R (n+i) o.op acc λacc d ne=>match ne with
   |some e=>Co C X kb ops iw ia R clo n l (Ae env o.dst d) N (some e) acc' acc K
   |none=>False):
  Co C X kb ops iw ia R clo n (i::l) env N none acc' acc K:=by
 unfold Co;simp only[h,hw,ha,hg];exact hk
theorem Nn {e:AH}{g:Operand->D}{op:Op}{k:Prop->D->AH->Prop}{P:Prop->Prop}{d:D}{e':AH}(hs:∀acc k,HY X kb e n g op acc k=k (P acc) d e')(hk:k (P acc) d e'):HY X kb e n g op acc k:=by rw[hs];exact hk
theorem Nz {e:AH}{g:Operand->D}{t:Nat}{x y:Operand}{i:AI}{k' gg sz j off:Nat}{d d':D}{k:Prop->D->AH->Prop}(h1:X.tt t=some i)(h2:g x=.optr k' gg sz j off)(h3:Hp.get [e] k'=some e)
  (h4:e.es[j]?=some d) (hk:k acc (.prim (.tuple #[])) ⟨e.k,e.g,e.T,e.sz,e.es.set j d'⟩)
  (h5:EB i off sz d (g y)=d':=by exact rfl) (h6:Cc i.ag i.sz (g y)/\gg=e.g/\sz=e.sz/\(bif Nat.ble 1 e.sz then Nat.ble (off+i.sz) e.sz else false)=true:=by exact B7):
  HY X kb e n g (.store t x y) acc k:=by
 subst h5;unfold HY;simp only[Cw,h1,h2,h3,h4,LN h6,J8];exact hk
end
section
variable {A B D E F G:Prop}
theorem Be (a:A)(b:B):A/\B:=⟨a,b⟩
theorem Cx (a:A)(b:B)(c:D):A/\B/\D:=⟨a,b,c⟩
theorem Dz (a:A)(b:B)(c:D)(d:E):A/\B/\D/\E:=⟨a,b,c,d⟩
theorem Da (a:A)(b:B)(c:D)(d:E)(e:F):A/\B/\D/\E/\F:=⟨a,b,c,d,e⟩
theorem GQ (a:A)(b:B)(c:D)(d:E)(e:F)(f:G):A/\B/\D/\E/\F/\G:=⟨a,b,c,d,e,f⟩
theorem kT:(!true)=false:=rfl
theorem kF:(!false)=true:=rfl
theorem kN:∀n:Nat,(n:Int).toNat=n:=Je
theorem kB:(!true)=false/\(!false)=true:=⟨rfl,rfl⟩
theorem Db {I:Prop}(a:A)(b:B)(c:D)(d:E)(e:F)(f:G)(g:I):A/\B/\D/\E/\F/\G/\I:=⟨a,b,c,d,e,f,g⟩
end
inductive KB:Nat->Prop
 |mk (n:Nat):KB n
section
variable {C:AX} {X:EV} {B:AG} {rd:Option Nat} {F:AG} {ops:Array Oper} {s:St} {Q:Exit->AG->St->Prop} {i:Nat}
theorem Oz (hX:CZ C X){kb:Nat}(_:KB kb)(hnd:DS ops.toList=true)(h:CD C X kb ops (List.range ops.size) s True λacc s=>acc/\Q .normal F s):AQ C B rd F (.region i ops false) s Q:=AQ.reg hX kb hnd h
end
theorem CM {F:Prop}(f:F){P Q:Prop}(h:Q)(e:Ci F->Ci Q->P:=by
  intro hf hq
  repeat(first
   |(refine C7 rfl rfl ?_;refine F6 (λ_ _=>rfl) ?_)|(refine EW rfl rfl ?_;refine EJ (λ_ _=>rfl) ?_)
   |refine G6 rfl rfl rfl (by first|(simp only[hf.out];done)|fail) B7 (F6 (λ_ _=>rfl) ?_)|refine P3 rfl rfl rfl (by first|(simp only[hf.out];done)|fail) B7 ?_
   |refine Is rfl rfl rfl (by first|(simp only[hf.out];done)|fail) B7 (EJ (λ_ _=>rfl) ?_)|refine P2 rfl rfl rfl (by first|(simp only[hf.out];done)|fail) B7 ?_
   |(refine C7 rfl rfl ?_;refine L5 rfl rfl rfl (by(try dsimp only);(try simp only[hf.out]);exact rfl) ?_)|(refine C7 rfl rfl ?_;refine L6 rfl rfl rfl (by(try dsimp only);(try simp only[hf.out]);exact rfl) ?_)
   |(refine G6 rfl rfl rfl (by first|(simp only[hf.out];done)|fail) B7 ?_;refine L5 rfl rfl rfl (by(try dsimp only);(try simp only[hf.out]);exact rfl) ?_)|(refine G6 rfl rfl rfl (by first|(simp only[hf.out];done)|fail) B7 ?_;refine L6 rfl rfl rfl (by(try dsimp only);(try simp only[hf.out]);exact rfl) ?_)
   |(refine EW rfl rfl ?_;refine IC rfl rfl rfl (by(try dsimp only);(try simp only[hf.out]);exact rfl) ?_)|(refine Is rfl rfl rfl (by first|(simp only[hf.out];done)|fail) B7 ?_;refine IC rfl rfl rfl (by(try dsimp only);(try simp only[hf.out]);exact rfl) ?_))
  try(refine LL ?_;repeat(first|(refine C7 rfl rfl ?_;refine F6 (λ_ _=>rfl) ?_)|(refine EW rfl rfl ?_;refine EJ (λ_ _=>rfl) ?_)))
  first|refine Jy (C2 B7 ?_)|(refine C7 rfl rfl ?_;refine KA (λ_ _=>rfl) B7 ?_)|(refine EW rfl rfl ?_;refine J9 (λ_ _=>rfl) B7 ?_)|skip
  refine BD ?_
  try simp only[hf.out]
  exact hq.out):P:=e ⟨f⟩ ⟨h⟩
theorem Ms {F:Prop}(f:F){P Q:Prop}(h:Q)(e:Ci F->Ci Q->P:=by
  intro hf hq
  repeat(first
   |(refine Hs rfl rfl rfl rfl ?_;first|refine EJ (λ_ _=>rfl) ?_|refine IC rfl rfl rfl (by(try dsimp only);(try simp only[hf.out]);exact rfl) ?_)
   |(refine Nm rfl rfl rfl ?_;first|refine Nn (λ_ _=>rfl) ?_|refine Nz rfl rfl rfl (by(try dsimp only);(try simp only[hf.out]);exact rfl) ?_)|(refine Nl rfl rfl rfl rfl ?_;refine EJ (λ_ _=>rfl) ?_))
  try refine Nb ?_
  refine BD ?_
  try simp only[hf.out]
  exact hq.out):P:=e ⟨f⟩ ⟨h⟩
theorem D0 {F:Prop}(f:F){P Q:Prop}(h:Q)(e:Ci F->Ci Q->P:=by
  intro hf hq
  repeat(first
   |(refine C7 rfl rfl ?_;refine F6 (λ_ _=>rfl) ?_)|(refine EW rfl rfl ?_;refine EJ (λ_ _=>rfl) ?_))
  try(refine LL ?_;repeat(first|(refine C7 rfl rfl ?_;refine F6 (λ_ _=>rfl) ?_)|(refine EW rfl rfl ?_;refine EJ (λ_ _=>rfl) ?_)))
  first|refine Jy (C2 (by((refine BD ?_);(try simp only[hf.out]);all_goals exact B7)) ?_)|(refine C7 rfl rfl ?_;refine KA (λ_ _=>rfl) (by((refine BD ?_);(try simp only[hf.out]);all_goals exact B7)) ?_)|(refine EW rfl rfl ?_;refine J9 (λ_ _=>rfl) (by((refine BD ?_);(try simp only[hf.out]);all_goals exact B7)) ?_)|skip
  refine BD ?_
  try simp only[hf.out]
  exact hq.out):P:=e ⟨f⟩ ⟨h⟩
theorem Cm {P Q:Prop}(h:Q)(e:Ci Q->P:=by intro hq;refine AQ.cond ?_;refine BD ?_;exact hq.out):P:=e ⟨h⟩
theorem FW {P Q:Prop}(h:Q)(e:Ci Q->P:=by intro hq;refine AQ.skip ?_;refine BD ?_;exact hq.out):P:=e ⟨h⟩
theorem Id {P Q:Prop}(h:Q)(e:Ci Q->P:=by intro hq;refine AQ.exit ?_;refine BD ?_;exact hq.out):P:=e ⟨h⟩
theorem FD {P Q:Prop}(h:Q)(e:Ci Q->P:=by intro hq;refine AQ.ret ?_;refine C2 B7 ?_;refine BD ?_;exact hq.out):P:=e ⟨h⟩
theorem sR (kb:Nat){P Q:Prop}(h:Q)(e:KB kb->Ci Q->P:=by intro hk hq;refine AQ.seq ?_;refine Oz w1 hk (by kernel_rfl) ?_;refine M3 ?_;exact hq.out):P:=e (.mk kb) ⟨h⟩
theorem fR (kb:Nat){P Q:Prop}(h:Q)(e:KB kb->Ci Q->P:=by intro hk hq;refine AQ.seq ?_;refine Oz w1 hk (by kernel_rfl) ?_;refine GS ?_;exact hq.out):P:=e (.mk kb) ⟨h⟩
theorem sZ (kb:Nat){P Q:Prop}(h:Q)(e:KB kb->Ci Q->P:=by intro hk hq;refine AQ.seq ?_;refine Oz w1 hk (by kernel_rfl) ?_;exact hq.out):P:=e (.mk kb) ⟨h⟩
theorem cI {C:AX}{f:Nat}{ds:List D}{d:D}{H:Hp}{n:Nat}{k:D->Hp->Nat->Prop}(c:Af C f ds d){Q:Prop}(h:Q)(p:AN ds:=by exact A7)(e:Ci Q->k d H (n+1):=by intro hq;refine M3 ?_;exact hq.out):B0 C f ds H n k:=B0.same d c p (e ⟨h⟩)
open Go.ChangeShapes Go.WideShapes
structure MU (W:World)(cs:List Value)(ds:List D):Prop where
 len:cs.length=ds.length
 cell:∀(i:Nat) (c:Value) (d:D),cs[i]?=some c->ds[i]?=some d->one c=true/\AF nol (λ_=>False) W d c
theorem MU.append {W:World}{a b:List Value}{x y:List D}(h:MU W a x)(k:MU W b y):MU W (a++b) (x++y):=⟨by rw[Dk,Dk,h.len,k.len],λi c d hc hd=>by
 by_cases hi:i<a.length
 ·rw[CI hi]at hc
  rw[CI (by rw[<-h.len];exact hi)]at hd;exact h.cell i c d hc hd
 ·rw[Bw (by omega)]at hc
  rw[Bw (by rw[<-h.len];omega),<-h.len]at hd;exact k.cell _ c d hc hd⟩
section
variable {C:AX} {X:EV} {B:AG} {rd:Option Nat} {F:AG} {ops:Array Oper} {s:St} {Q:Exit->AG->St->Prop} {i:Nat}
theorem eE (hX:CZ C X)(hnd:DS ops.toList=true)(h:CD C X (100*i) ops (List.range ops.size) s True λacc s=>acc/\Q .normal F s):AQ C B rd F (.region i ops false) s Q:=AQ.reg hX (100*i) hnd h
abbrev Dr:=List (Nat×List Nat×List Nat)
abbrev Ah:Dr:=[]
noncomputable def Mn (L:Dr)(i:Nat):List Nat×List Nat:=List.rec ([],[]) (λa _ r=>cond (Nat.beq a.1 i) a.2 r) L
inductive KD:Dr->Prop
 |mk (L:Dr):KD L
theorem eG {L:Dr}(hX:CZ C X)(_:KD L)(hc:(Fi ops (Mn L i).1 (Mn L i).2&&DS ops.toList)=true)
  (h:DD C X (100*i) ops s.H s.n (Mn L i).1 s.env [] True λacc env N=>CD C X (100*i) ops (Mn L i).2 ⟨env,N++s.H,s.n+Bs ops.toList⟩ acc λacc s=>acc/\Q .normal F s):AQ C B rd F (.region i ops true) s Q:=eF hX (100*i) _ _ hc h
theorem et {c:Code}(h:AQ C B rd F c s Q):AQ C B rd F c s Q:=h
theorem dH {kb:Nat}{l:List Nat}{acc:Prop}{K:Prop->St->Prop}(h:CD C X kb ops l s acc K):CD C X kb ops l s acc K:=h
theorem dG {kb n:Nat}{l:List Nat}{H N:Hp}{env:AZ}{acc:Prop}{K:Prop->AZ->Hp->Prop}(h:DD C X kb ops H n l env N acc K):DD C X kb ops H n l env N acc K:=h
theorem dX {f n:Nat}{ds:List D}{H:Hp}{k:D->Hp->Nat->Prop}(h:B0 C f ds H n k):B0 C f ds H n k:=h
theorem dY {f:Nat}{ds:List D}{k:D->Prop}(h:Ch C f ds k):Ch C f ds k:=h
theorem C4 {F:Prop}(hf:Ci F){P:Prop}(h:Ci F->P:=by intro hf;first|((repeat'(first|exact AA|exact rfl|exact Or.inl rfl|exact Or.inr rfl|exact Cc.agg|exact Md rfl|exact A0 rfl|refine C2 ?_ ?_|(intro hq;first|exact rfl|exact AA|(exact AY hq (by decide)))|exact Ag _|omega|decide|(dsimp only[List.length_cons,List.length_nil];omega)));done)|((refine BD ?_);(try simp only[hf.out,kT,kF]);(try(repeat'(first|exact AA|exact rfl|exact Or.inl rfl|exact Or.inr rfl|exact Cc.agg|exact Md rfl|exact A0 rfl|refine C2 ?_ ?_|(intro hq;first|exact rfl|exact AA|(exact AY hq (by decide)))|exact Ag _|omega|decide|(dsimp only[List.length_cons,List.length_nil];omega))));done)|fail):P:=h hf
theorem Ft {F:Prop}(hf:Ci F){P:Prop}(h:Ci F->P:=by intro hf;first|(simp only[hf.out,kT,kF];done)|fail):P:=h hf
theorem dJ {y n:Prop}(h:y):Gr true y n:=h
theorem dl {y n:Prop}(h:n):Gr false y n:=h
end
theorem AS {F A1 A2 A3 A4 A5 A6:Prop}(dr:Dr)(f:F)(c1:A1)(c2:A2)(c3:A3)(c4:A4)(c5:A5)(c6:A6){P Q:Prop}(h:Q)(e:KD dr->Ci F->A1->A2->A3->A4->A5->A6->Ci Q->P:=by
  intro hd hf c1 c2 c3 c4 c5 c6 hq
  repeat(first
   |((with_reducible refine et ?_);first|refine AQ.seq ?_|refine eE w1 (by kernel_rfl) ?_|refine eG w1 hd (by kernel_rfl) ?_|refine AQ.block ?_|(refine AQ.skip ?_;refine BD ?_;try simp only[hf.out,kT,kF])|(refine AQ.exit ?_;refine BD ?_;try simp only[hf.out,kT,kF])|(refine AQ.cond ?_;refine BD ?_;try simp only[hf.out,kT,kF,ab,aa])|(refine AQ.ret ?_;refine C2 (C4 hf) ?_;refine BD ?_;try simp only[hf.out,kT,kF]))
   |((with_reducible refine dH ?_);first|(refine C7 rfl rfl ?_;refine F6 (λ_ _=>rfl) ?_)|(refine G6 rfl rfl rfl (Ft hf) (C4 hf) ?_;refine F6 (λ_ _=>rfl) ?_)|refine P3 rfl rfl rfl (Ft hf) (C4 hf) ?_|(refine C7 rfl rfl ?_;refine KA (λ_ _=>rfl) (C4 hf) ?_;refine BD ?_;try simp only[hf.out,kT,kF])|(refine C7 rfl rfl ?_;refine Rp (λ_ _=>rfl) (C4 hf) ⟨rfl,by omega⟩ (by first|exact c1|exact c2|exact c3|exact c4|exact c5|exact c6|fail) ?_;try dsimp only[D.cells])|(refine C7 rfl rfl ?_;refine L5 rfl rfl rfl (by(try dsimp only);(try simp only[hf.out,kT,kF]);exact rfl) ?_)|(refine C7 rfl rfl ?_;refine L6 rfl rfl rfl (by(try dsimp only);(try simp only[hf.out,kT,kF]);exact rfl) ?_)|(refine G6 rfl rfl rfl (Ft hf) (C4 hf) ?_;refine KA (λ_ _=>rfl) (C4 hf) ?_;refine BD ?_;try simp only[hf.out,kT,kF])|(refine G6 rfl rfl rfl (Ft hf) (C4 hf) ?_;refine Rp (λ_ _=>rfl) (C4 hf) ⟨rfl,by omega⟩ (by first|exact c1|exact c2|exact c3|exact c4|exact c5|exact c6|fail) ?_;try dsimp only[D.cells])|(refine G6 rfl rfl rfl (Ft hf) (C4 hf) ?_;refine L5 rfl rfl rfl (by(try dsimp only);(try simp only[hf.out,kT,kF]);exact rfl) ?_)|(refine G6 rfl rfl rfl (Ft hf) (C4 hf) ?_;refine L6 rfl rfl rfl (by(try dsimp only);(try simp only[hf.out,kT,kF]);exact rfl) ?_)|(refine Jy (C2 (C4 hf) ?_);refine BD ?_;try simp only[hf.out,kT,kF])|(dsimp only[M2,M1,Bs,Ae,BW,AU,AZ.get,Dc,EB,Cr,Gj,GE,DU,DO,D.cells,ofV,Hp.get,Hp.set,Hp.del,Ez,CV,E0,cond,Gl,HL,HG,FM,MN,BL,List.map,List.length,List.append,List.nil_append,List.cons_append,List.append_nil,List.size_toArray,List.length_cons,List.length_nil,Value.cells,List.toList_toArray,Array.toList,Nat.reduceAdd,Nat.reduceMul,Nat.beq,Nat.reduceSub,BL,Fm,Bs,Bool.false_and,Bool.true_and,Bool.true_or,Bool.false_or,Bool.not_true,Bool.not_false])|(simp only[hf.out,kT,kF]))
   |((with_reducible refine dG ?_);first|(refine EW rfl rfl ?_;refine EJ (λ_ _=>rfl) ?_)|(refine Is rfl rfl rfl (Ft hf) (C4 hf) ?_;refine EJ (λ_ _=>rfl) ?_)|refine P2 rfl rfl rfl (Ft hf) (C4 hf) ?_|(refine EW rfl rfl ?_;refine J9 (λ_ _=>rfl) (C4 hf) ?_;refine BD ?_;try simp only[hf.out,kT,kF])|(refine EW rfl rfl ?_;refine ME (λ_ _=>rfl) (C4 hf) ⟨rfl,by omega⟩ (by first|exact c1|exact c2|exact c3|exact c4|exact c5|exact c6|fail) ?_;try dsimp only[D.cells])|(refine EW rfl rfl ?_;refine IC rfl rfl rfl (by(try dsimp only);(try simp only[hf.out,kT,kF]);exact rfl) ?_)|(refine Is rfl rfl rfl (Ft hf) (C4 hf) ?_;refine J9 (λ_ _=>rfl) (C4 hf) ?_;refine BD ?_;try simp only[hf.out,kT,kF])|(refine Is rfl rfl rfl (Ft hf) (C4 hf) ?_;refine ME (λ_ _=>rfl) (C4 hf) ⟨rfl,by omega⟩ (by first|exact c1|exact c2|exact c3|exact c4|exact c5|exact c6|fail) ?_;try dsimp only[D.cells])|(refine Is rfl rfl rfl (Ft hf) (C4 hf) ?_;refine IC rfl rfl rfl (by(try dsimp only);(try simp only[hf.out,kT,kF]);exact rfl) ?_)|(refine LL ?_;refine BD ?_;try simp only[hf.out,kT,kF])|(dsimp only[M2,M1,Bs,Ae,BW,AU,AZ.get,Dc,EB,Cr,Gj,GE,DU,DO,D.cells,ofV,Hp.get,Hp.set,Hp.del,Ez,CV,E0,cond,Gl,HL,HG,FM,MN,BL,List.map,List.length,List.append,List.nil_append,List.cons_append,List.append_nil,List.size_toArray,List.length_cons,List.length_nil,Value.cells,List.toList_toArray,Array.toList,Nat.reduceAdd,Nat.reduceMul,Nat.beq,Nat.reduceSub,BL,Fm,Bs,Bool.false_and,Bool.true_and,Bool.true_or,Bool.false_or,Bool.not_true,Bool.not_false])|(simp only[hf.out,kT,kF]))
   |((with_reducible refine dX ?_);((first|refine B0.same _ c1 A7 ?_|refine B0.same _ c2 A7 ?_|refine B0.same _ c3 A7 ?_|refine B0.same _ c4 A7 ?_|refine B0.same _ c5 A7 ?_|refine B0.same _ c6 A7 ?_|refine B0.same _ (c1 rfl) A7 ?_|refine B0.same _ (c2 rfl) A7 ?_|refine B0.same _ (c3 rfl) A7 ?_|refine B0.same _ (c4 rfl) A7 ?_|refine B0.same _ (c5 rfl) A7 ?_|refine B0.same _ (c6 rfl) A7 ?_);refine BD ?_;try simp only[hf.out,kT,kF]))
   |((with_reducible refine dY ?_);((first|refine Ch.same _ c1 A7 ?_|refine Ch.same _ c2 A7 ?_|refine Ch.same _ c3 A7 ?_|refine Ch.same _ c4 A7 ?_|refine Ch.same _ c5 A7 ?_|refine Ch.same _ c6 A7 ?_|refine Ch.same _ (c1 rfl) A7 ?_|refine Ch.same _ (c2 rfl) A7 ?_|refine Ch.same _ (c3 rfl) A7 ?_|refine Ch.same _ (c4 rfl) A7 ?_|refine Ch.same _ (c5 rfl) A7 ?_|refine Ch.same _ (c6 rfl) A7 ?_);refine BD ?_;try simp only[hf.out,kT,kF]))
   |(with_reducible refine dJ ?_)
   |(with_reducible refine dl ?_)
   )
  exact hq.out):P:=e (.mk dr) ⟨f⟩ c1 c2 c3 c4 c5 c6 ⟨h⟩
structure GW where
 k:Nat
 g:Nat
 o:Obj
def AG.wrs (F:AG)(Z:Nat->Prop):AG:=⟨F.w0,F.X,λb=>F.Wr b\/Z b,F.nt,F.r0,F.df⟩
def GX (F:AG)(L:List GW)(b:Nat):Prop:=∃x∈L,F.r0 x.k x.g=some b
structure Fw (B F:AG)(Z:Nat->Prop):Prop where
 os:F.w0.os=B.w0.os
 tape:F.w0.tape=B.w0.tape
 output:F.w0.output=B.w0.output
 size:B.w0.heap.size<=F.w0.heap.size
 blk:∀b,b<B.w0.heap.size->¬B.Wr b->F.w0.heap[b]?=B.w0.heap[b]?
 wr:∀b,F.Wr b\/Z b->B.w0.heap.size<=b\/B.Wr b
 lnk:∀k g b,B.r0 k g=some b->F.r0 k g=some b
 X:∀b,B.X b->F.X b
 shp:∀(b:Nat) (cs:Array Value) (T:Nat) (fz:Nat×Nat),B.w0.heap[b]?=some (.cells cs T fz)->∃(cs':Array Value) (fz':Nat×Nat),F.w0.heap[b]?=some (.cells cs' T fz')/\cs'.size=cs.size
structure Ob (C:AX)(B:AG):Prop where
 xlt:∀b,B.X b->b<B.w0.heap.size
 g0:C.G B.w0
 gn:C.nG<=B.w0.heap.size
 gw:∀b,B.Wr b->C.nG<=b
structure Cf (C:AX)(B F:AG)(L:List GW):Prop where
 at_:∀x∈L,∃it,F.r0 x.k x.g=some it/\F.X it/\¬F.Wr it/\F.w0.heap[it]?=some x.o/\C.nG<=it
 nc:∀x∈L,∀cs T fz,x.o≠.cells cs T fz
 dis:L.Pairwise λx y=>F.r0 x.k x.g≠F.r0 y.k y.g
 reb:Fw B F (GX F L)
 bm:∀ {ρ:Lk} {H:Hp} {w:World},AJ C F ρ H w->Ob C B
 df:F.df=B.df
def GF (F:AG)(d:D)(v:Value):Prop:=AF F.r0 (λb=>F.X b\/F.Wr b) F.w0 d v
structure Ik (F F2:AG):Prop where
 lnk:∀k g b,F.r0 k g=some b->F2.r0 k g=some b
 rep:∀d v,GF F d v->GF F2 d v
 blk:∀b o,F.w0.heap[b]?=some o->¬(F.X b\/F.Wr b)->F2.w0.heap[b]?=some o/\¬(F2.X b\/F2.Wr b)
structure JL (ρ:Lk)(O:Nat->Prop)(w:World)(F2:AG):Prop where
 rep:∀d v,AF ρ O w d v->GF F2 d v
 blk:∀b o,w.heap[b]?=some o->¬O b->F2.w0.heap[b]?=some o/\¬(F2.X b\/F2.Wr b)
section
variable {C:AX} {B F:AG} {ρ:Lk} {H:Hp} {w:World} {L:List GW}
theorem GF.now {d:D}{v:Value}(h:GF F d v)(m:AJ C F ρ H w):AF ρ (AC F.X ρ H) w d v:=
 AF.mono h ⟨m.size,m.lnk,λb hb hO=>⟨λh=>by
  rcases h with h|⟨e,he,h⟩
  ·exact hO (.inl h)
  ·rcases(m.hok.own e he b h).2 with h|h
   ·omega
   ·exact hO (.inr h),m.blk b hb λh=>hO (.inr h)⟩,m.shp⟩
theorem JL.to {F2:AG}(h:JL ρ (AC F.X ρ H) w F2)(m:AJ C F ρ H w)(hl:∀k g b,ρ k g=some b->F2.r0 k g=some b):Ik F F2:=
 ⟨λk g b q=>hl _ _ _ (m.lnk _ _ _ q),λd v q=>h.rep d v (q.now m),λb o q r=>by
  have hlt:b<F.w0.heap.size:=(Bi.1 q).1;refine h.blk b o ((m.blk b hlt λh=>r (.inr h)).trans q) λho=>?_
  rcases ho with ho|⟨e,he,ho⟩
  ·exact r (.inl ho)
  ·rcases(m.hok.own e he b ho).2 with q|q
   ·omega
   ·exact r (.inr q)⟩
theorem AJ.wrs {Z:Nat->Prop}(m:AJ C F ρ H w)(hZ:∀b,Z b->C.nG<=b):AJ C (F.wrs Z) ρ H w:=
 ⟨⟨m.hok.ent,m.hok.inj,λe he b hb=>⟨(m.hok.own e he b hb).1,(m.hok.own e he b hb).2.imp id .inl⟩⟩,m.os,m.tape,m.output,m.size,λb hb h=>m.blk b hb λh'=>h (.inl h'),m.xlt,m.g0,m.gn,λb h=>h.elim (m.gw b) (hZ b),m.lnk,m.shp⟩
theorem Fw.up {Z:Nat->Prop}(h:Fw B F Z)(hb:Ob C B)(m:AJ C (F.wrs Z) ρ H w):AJ C B ρ H w:=by
 have hX:∀b,AC B.X ρ H b->AC F.X ρ H b:=λb hb=>hb.imp (h.X b) id
 refine⟨⟨λe he=>?_,m.hok.inj,λe he b hb'=>?_⟩,m.os.trans h.os,m.tape.trans h.tape,m.output.trans h.output,Ar h.size m.size,λb hb1 hb2=>?_,hb.xlt,hb.g0,hb.gn,hb.gw,λk g b q=>m.lnk _ _ _ (h.lnk _ _ _ q),λb cs T fz hc=>?_⟩
 ·rcases m.hok.ent e he with h1|⟨b,cs,a1,a2,a3⟩
  ·exact .inl h1
  ·exact .inr ⟨b,cs,a1,a2,a3.anti hX⟩
 ·obtain⟨q1,q2⟩:=m.hok.own e he b hb'
  refine⟨λq=>q1 (h.X b q),?_⟩;rcases q2 with q2|q2
  ·exact .inl (Ar h.size q2)
  ·exact h.wr b q2
 ·refine(m.blk b (CF hb1 h.size) λq=>?_).trans (h.blk b hb1 hb2)
  rcases h.wr b q with q|q
  ·omega
  ·exact hb2 q
 ·obtain⟨cs1,Ie,c1,c2⟩:=h.shp b cs T fz hc
  obtain⟨cs2,fz2,c3,c4⟩:=m.shp b cs1 T Ie c1;exact⟨cs2,fz2,c3,c4.trans c2⟩
theorem Fw.fle {Z:Nat->Prop}(h:Fw B F Z)(hb:Ob C B)(hZ:∀b,Z b->C.nG<=b)(hn:F.nt=B.nt)(hd:F.df=B.df):Ba C B F:=
 ⟨hn,h.size,λm=>h.up hb (m.wrs hZ),h.X,[],hd,[],rfl,.nil,by simp⟩
theorem eL (F:AG):Cf C F F [] where
 at_:=by simp
 nc:=by simp
 dis:=.nil
 reb:=⟨rfl,rfl,rfl,Ag _,λ_ _ _=>rfl,λb hb=>by
  rcases hb with hb|⟨x,hx,_⟩
  ·exact .inr hb
  ·exact AY hx (by simp),λ_ _ _ h=>h,λ_ h=>h,λ_ cs _ _ h=>⟨cs,_,h,rfl⟩⟩
 bm:=λm=>⟨m.xlt,m.g0,m.gn,m.gw⟩
 df:=rfl
theorem Cf.ng (h:Cf C B F L):∀b,GX F L b->C.nG<=b:=λb ⟨x,hx,hb⟩=>by
 obtain⟨it,a1,-,-,-,a5⟩:=h.at_ x hx;rw[a1]at hb;cases hb;exact a5
theorem Cf.now (h:Cf C B F L)(m:AJ C F ρ H w){x:GW}(hx:x∈L):∃it,ρ x.k x.g=some it/\F.r0 x.k x.g=some it/\F.X it/\w.heap[it]?=some x.o:=by
 obtain⟨it,a1,a2,a3,a4,-⟩:=h.at_ x hx;exact⟨it,m.lnk _ _ _ a1,a1,a2,(m.blk it (m.xlt it a2) a3).trans a4⟩
variable {s:St} {a:Act}
theorem Fw.now {Z Z2 X2:Nat->Prop}{ρ2:Lk}{w2:World}{nt:Nat}{df:List Deferred}(h:Fw B F Z)(m:AJ C F ρ H w)(hos:w2.os=w.os)(htp:w2.tape=w.tape)(hout:w2.output=w.output)(hsz:w.heap.size<=w2.heap.size)
  (hold:∀b,b<w.heap.size->¬Z b->w2.heap[b]?=w.heap[b]?) (hZc:∀b,Z b->∀cs T fz,w.heap[b]? ≠ some (.cells cs T fz)) (hl:∀k g b,ρ k g=some b->ρ2 k g=some b) (hown:∀e∈H,∀b,ρ2 e.k e.g=some b->ρ e.k e.g=some b) (hX:∀b,B.X b->X2 b) (hZ2:∀b,Z2 b->Z b\/w.heap.size<=b):
  Fw B (AG.subZ ρ2 H w2 nt X2 (λ_=>False) df) Z2 where
 os:=hos.trans (m.os.trans h.os)
 tape:=htp.trans (m.tape.trans h.tape)
 output:=hout.trans (m.output.trans h.output)
 size:=Ar h.size (Ar m.size hsz)
 blk:=λb hb1 hb2=>by
  have hn:¬(F.Wr b\/Z b):=λq=>by
   rcases h.wr b q with q|q
   ·omega
   ·exact hb2 q
  have hb3:=CF hb1 h.size;show w2.heap[b]?=_;rw[hold b (CF hb3 m.size) λq=>hn (.inr q),m.blk b hb3 λq=>hn (.inl q)];exact h.blk b hb1 hb2
 wr:=λb hb=>by
  rcases hb with(⟨e,he,hb⟩|hb)|hb
  ·rcases(m.hok.own e he b (hown e he b hb)).2 with q|q
   ·exact .inl (Ar h.size q)
   ·exact h.wr b (.inl q)
  ·exact hb.elim
  ·rcases hZ2 b hb with q|q
   ·exact h.wr b (.inr q)
   ·exact .inl (Ar h.size (Ar m.size q))
 lnk:=λk g b q=>hl _ _ _ (m.lnk _ _ _ (h.lnk _ _ _ q))
 X:=hX
 shp:=λb cs T fz hc=>by
  obtain⟨cs1,Ie,c1,c2⟩:=h.shp b cs T fz hc;obtain⟨cs2,fz2,c3,c4⟩:=m.shp b cs1 T Ie c1;have hlt:b<w.heap.size:=(Bi.1 c3).1;exact⟨cs2,fz2,by show w2.heap[b]?=_;rw[hold b hlt λq=>hZc b q _ _ _ c3];exact c3,c4.trans c2⟩
theorem Cf.cellF (h:Cf C B F L)(m:AJ C F ρ H w):∀b,GX F L b->∀cs T fz,w.heap[b]? ≠ some (.cells cs T fz):=λb ⟨x,hx,hb⟩ cs T fz hc=>by
 obtain⟨it,-,b2,-,b4⟩:=h.now m hx;rw[hb]at b2;cases b2;rw[hc]at b4;exact h.nc x hx _ _ _ (Ia b4).symm
theorem Cf.alloc (hO:Cf C B F L)(hB:Ba C B F)(hs:Aq C F ρ s a w)(kb:Nat)(o0:Obj)(hc:∀cs T fz,o0≠.cells cs T fz):
  ∃F2 ρ2,Ba C B F2/\F2.nt=F.nt/\Ik F F2/\Cf C B F2 (⟨kb,s.n,o0⟩::L)/\Aq C F2 ρ2 ⟨s.env,s.H,s.n+1⟩ a (w.alloc o0)/\ρ2 kb s.n=some w.heap.size/\F2.r0 kb s.n=some w.heap.size/\¬B.X w.heap.size/\JL ρ (AC F.X ρ s.H) w F2:=by
 have m:=hs.mem
 let it:=w.heap.size
 let X1:Nat->Prop:=λb=>F.X b\/b=it
 have hown:∀e∈s.H,∀b,ρ e.k e.g=some b->b<w.heap.size:=λe he b hb=>m.lt he hb
 have hfr:ρ kb s.n=none:=hs.fresh _ _ (Ag _)
 let ρ2:=ρ.put kb s.n it
 have hput:∀k g b,ρ k g=some b->ρ2 k g=some b:=λk g b hb=>JY hfr hb
 have hown2:∀e∈s.H,∀b,ρ2 e.k e.g=some b->ρ e.k e.g=some b:=λe he b hb=>by
  have hg:=hs.gen e he
  have:ρ2 e.k e.g=ρ e.k e.g:=by
   show(if e.k=kb/\e.g=s.n then some it else ρ e.k e.g)=_;rw[Bf]
  rw[<-this];exact hb
 have hw1:(w.alloc o0).heap.size=w.heap.size+1:=World.size_alloc ..;have hold:∀b,b<w.heap.size->(w.alloc o0).heap[b]?=w.heap[b]?:=λb hb=>by rw[CN,Bf]
 have xx:∀X':Nat->Prop,(∀b,b<w.heap.size->X' b->F.X b)->Ai ρ (AC F.X ρ s.H) w ρ2 (AC X' ρ2 s.H) (w.alloc o0):=λX' hX'=>by
  refine⟨by omega,hput,λb hb hO=>⟨?_,hold b hb⟩,λb cs T fz hc=>⟨cs,_,by rw[hold b (Bi.1 hc).1];exact hc,rfl⟩⟩;rintro(h|⟨e,he,h⟩)
  ·exact hO (.inl (hX' b hb h))
  ·exact hO (.inr ⟨e,he,hown2 e he b h⟩)
 have m1:AJ C F ρ2 s.H (w.alloc o0):=by
  have x1:=xx F.X λ_ _ h=>h
  refine⟨⟨λe he=>?_,m.hok.inj.imp_of_mem λ{e e'} he he' h b b' hb hb'=>h b b' (hown2 e he b hb) (hown2 e' he' b' hb'),λe he b hb=>m.hok.own e he b (hown2 e he b hb)⟩,m.os,m.tape,m.output,by have:=m.size;omega,
   λb hb hW=>by rw[hold b (CF hb m.size)];exact m.blk b hb hW,m.xlt,m.g0,m.gn,m.gw,λk g b h=>hput _ _ _ (m.lnk k g b h),Fd m.shp x1⟩
  rcases m.hok.ent e he with⟨h1,h2⟩|⟨b,cs,a1,a2,a3⟩
  ·refine .inl ⟨h1,?_⟩
   cases hb:ρ2 e.k e.g with
   |none=>rfl
   |some b=>rw[hown2 e he b hb]at h2;cases h2
  ·exact .inr ⟨b,cs,hput _ _ _ a1,by rw[hold b (m.lt he a1)];exact a2,a3.mono x1⟩
 have hitm:∀e∈s.H,∀b,ρ2 e.k e.g=some b->b≠it:=λe he b hb=>by have:=hown e he b (hown2 e he b hb);simp only[it];omega
 have hX1lt:∀b,X1 b->b<(w.alloc o0).heap.size:=λb hb=>by
  rcases hb with h|h
  ·have:=m.xlt b h;have:=m.size;omega
  ·simp only[it]at h;omega
 have hX1o:∀e∈s.H,∀b,ρ2 e.k e.g=some b->¬X1 b:=λe he b hb hb'=>by
  rcases hb' with h|h
  ·exact(m.hok.own e he b (hown2 e he b hb)).1 h
  ·exact hitm e he b hb h
 have hng:C.nG<=it:=by have:=m.gn;have:=m.size;simp only[it];omega
 have ent:∀Z:Nat->Prop,(∀b,Z b->C.nG<=b)->AJ C (AG.subZ ρ2 s.H (w.alloc o0) F.nt X1 Z F.df) ρ2 s.H (w.alloc o0):=λZ hZ=>by
  refine⟨⟨λe he=>?_,m1.hok.inj,λe he b hb=>⟨hX1o e he b hb,.inr (.inl ⟨e,he,hb⟩)⟩⟩,rfl,rfl,rfl,Ag _,λ_ _ _=>rfl,hX1lt,m1.g,Ar m1.gn m1.size,λb hb=>?_,λ_ _ _ h=>h,λ_ cs _ _ h=>⟨cs,_,h,rfl⟩⟩
  ·rcases m.hok.ent e he with⟨h1,h2⟩|⟨b,cs,a1,a2,a3⟩
   ·rcases m1.hok.ent e he with h|⟨b,cs,b1,_⟩
    ·exact .inl h
    ·rw[hown2 e he b b1]at h2;cases h2
   ·exact .inr ⟨b,cs,hput _ _ _ a1,by rw[hold b (m.lt he a1)];exact a2,a3.mono (xx X1 λb hb h=>h.resolve_right λh=>by simp only[it]at h;omega)⟩
  ·rcases hb with⟨e,he,hb⟩|hb
   ·rcases(m1.hok.own e he b hb).2 with h|h
    ·exact Ar m1.gn h
    ·exact m1.gw b h
   ·exact hZ b hb
 let F2:=AG.subZ ρ2 s.H (w.alloc o0) F.nt X1 (λ_=>False) F.df
 have hr0:F2.r0 kb s.n=some it:=CA ..;have hold0:∀x∈L,F2.r0 x.k x.g=F.r0 x.k x.g:=λx hx=>by
  obtain⟨i2,a1,-⟩:=hO.at_ x hx;rw[a1];exact hput _ _ _ (m.lnk _ _ _ a1)
 have hlt0:∀x∈L,∀b,F.r0 x.k x.g=some b->b<w.heap.size:=λx hx b hb=>by
  obtain⟨i2,a1,a2,-⟩:=hO.at_ x hx;have h9:i2=b:=Ia (a1.symm.trans hb)
  have:=m.xlt i2 a2;have:=m.size;omega
 have hZ2:∀b,GX F2 (⟨kb,s.n,o0⟩::L) b->b=it\/GX F L b:=λb ⟨x,hx,hb⟩=>by
  rcases Ak.1 hx with rfl|hx
  ·rw[hr0]at hb;cases hb;exact .inl rfl
  ·rw[hold0 x hx]at hb;exact .inr ⟨x,hx,hb⟩
 have hbm:=hO.bm m;have hreb:Fw B F2 (GX F2 (⟨kb,s.n,o0⟩::L)):=hO.reb.now m rfl rfl rfl (by rw[hw1];omega) (λb hb _=>hold b hb) (hO.cellF m) hput hown2 (λb hb=>.inl (hO.reb.X b hb)) λb hb=>by
  rcases hZ2 b hb with h|h
  ·exact .inr (Nat.le_of_eq h.symm)
  ·exact .inl h
 have hobs:Cf C B F2 (⟨kb,s.n,o0⟩::L):=by
  refine⟨λx hx=>?_,λx hx=>?_,Dl.2 ⟨λx hx e=>?_,?_⟩,hreb,λ_=>hbm,hO.df⟩
  ·rcases Ak.1 hx with rfl|hx
   ·exact⟨it,hr0,.inr rfl,λh=>by
     rcases h with⟨e,he,h⟩|h
     ·exact hitm e he it h rfl
     ·exact h,by show(w.alloc _).heap[it]?=_;rw[CN,AL rfl],hng⟩
   ·obtain⟨i2,a1,a2,a3,a4,a5⟩:=hO.at_ x hx
    refine⟨i2,(hold0 x hx).trans a1,.inl a2,λh=>?_,?_,a5⟩
    ·rcases h with⟨e,he,h⟩|h
     ·exact hX1o e he i2 h (.inl a2)
     ·exact h
    ·show(w.alloc o0).heap[i2]?=_
     rw[hold i2 (hlt0 x hx i2 a1)];exact(m.blk i2 (m.xlt i2 a2) a3).trans a4
  ·rcases Ak.1 hx with rfl|hx
   ·exact hc
   ·exact hO.nc x hx
  ·obtain⟨i2,a1,-⟩:=hO.at_ x hx
   have e':F2.r0 kb s.n=F2.r0 x.k x.g:=e;rw[hr0,hold0 x hx,a1]at e';have h9:=hlt0 x hx i2 a1;have h8:it=i2:=Ia e';simp only[it]at h8;omega
  ·exact hO.dis.imp_of_mem λ{x y} hx hy h=>by rw[hold0 x hx,hold0 y hy];exact h
 have hF2:Ba C B F2:=hreb.fle hbm (λb hb=>(hZ2 b hb).elim (λh=>by rw[h];exact hng) (hO.ng b)) hB.nt hO.df;have hfr2:∀d v,AF ρ (AC F.X ρ s.H) w d v->GF F2 d v:=λd v h=>(h.mono (xx X1 λb hb h=>h.resolve_right λh=>by simp only[it]at h;omega)).anti λb hb=>by
  rcases hb with hb|hb|hb
  ·exact .inl hb
  ·exact .inr hb
  ·exact hb.elim
 have hnow:JL ρ (AC F.X ρ s.H) w F2:=⟨hfr2,λb o h1 h2=>by
  have hlt:b<w.heap.size:=(Bi.1 h1).1;refine⟨(hold b hlt).trans h1,λq=>?_⟩;rcases q with(q|q)|⟨e,he,q⟩|q
  ·exact h2 (.inl q)
  ·simp only[it]at q;omega
  ·exact h2 (.inr ⟨e,he,hown2 e he b q⟩)
  ·exact q⟩
 refine⟨F2,ρ2,hF2,rfl,hnow.to m hput,hobs,?_,CA ..,hr0,λq=>by have:=hbm.xlt _ q;have:=hO.reb.size;have:=m.size;omega,hnow⟩;exact⟨ent _ λ_ h=>h.elim,λk g hg=>by
  have hg:s.n+1<=g:=hg;show(if k=kb/\g=s.n then some it else ρ k g)=none;rw[Bf];exact hs.fresh k g (by omega),λe he=>BE (hs.gen e he),λt=>(hs.env t).mono (xx X1 λb hb h=>h.resolve_right λh=>by simp only[it]at h;omega),hs.nt,hs.dfr⟩
theorem Cf.turn {x:GW}{o':Obj}{it:Nat}(hO:Cf C B F (x::L))(hB:Ba C B F)(hs:Aq C F ρ s a w)(hc:∀cs T fz,o'≠.cells cs T fz)(hit:F.r0 x.k x.g=some it):
  ∃F2,Ba C B F2/\F2.nt=F.nt/\Ik F F2/\Cf C B F2 (⟨x.k,x.g,o'⟩::L)/\Aq C F2 ρ ⟨s.env,s.H,s.n+1⟩ a (w.putObj it o')/\F2.r0 x.k x.g=some it/\JL ρ (AC F.X ρ s.H) w F2:=by
 have m:=hs.mem;obtain⟨i1,j1,j2,j3,j4,j5⟩:=hO.at_ x Cv;rw[hit]at j1;cases j1;have hob:w.heap[it]?=some x.o:=(m.blk it (m.xlt it j2) j3).trans j4;have hitw:it<w.heap.size:=(Bi.1 hob).1;have hx0:=hO.nc x Cv;have mW:=m.wrs hO.ng;have mp:=mW.putX j2 (.inr ⟨x,Cv,hit⟩) hx0 hob o';have xp:=Ai.putX (ρ:=ρ) (O:=AC F.X ρ s.H) (w:=w) (.inl j2) hx0 hob o';have hit':(w.putObj it o').heap[it]?=some o':=World.putObj_heap_same hitw;have hszp:=(Ga w it o').2.2.2;have hwos:=(Ga w it o').1;have hwtp:=(Ga w it o').2.1;have hwout:=(Ga w it o').2.2.1;have hoth:∀b,b≠it->(w.putObj it o').heap[b]?=w.heap[b]?:=λb hb=>World.putObj_heap_other hb
 generalize w.putObj it o'=w2 at mp xp hit' hszp hoth hwos hwtp hwout⊢
 let F2:=AG.subZ ρ s.H w2 F.nt F.X (λ_=>False) F.df
 have ent:∀Z:Nat->Prop,(∀b,Z b->C.nG<=b)->(∀b,Z b->F.X b)->AJ C (AG.subZ ρ s.H w2 F.nt F.X Z F.df) ρ s.H w2:=λZ hZ hZX=>mp.enterZ (.refl _ _ _) rfl rfl rfl (λ_ _ _=>rfl) (λe he b hb hb'=>(mp.hok.own e he b hb).1 (hZX b hb')) (λb hb=>CF (mp.xlt b hb) mp.size) (λe he b hb=>(mp.hok.own e he b hb).1) hZ _ _
 have hr0:∀y∈x::L,F2.r0 y.k y.g=F.r0 y.k y.g:=λy hy=>by
  obtain⟨i2,a1,-⟩:=hO.at_ y hy;rw[a1];exact m.lnk _ _ _ a1
 have hZ2:GX F2 (⟨x.k,x.g,o'⟩::L)=GX F (x::L):=funext λb=>propext ⟨λ⟨y,hy,hb⟩=>by
   rcases Ak.1 hy with rfl|hy
   ·exact⟨x,Cv,by rw[<-hr0 x Cv];exact hb⟩
   ·exact⟨y,DY _ hy,by rw[<-hr0 y (DY _ hy)];exact hb⟩,λ⟨y,hy,hb⟩=>by
   rcases Ak.1 hy with rfl|hy
   ·exact⟨_,Cv,by rw[hr0 y Cv];exact hb⟩
   ·exact⟨y,DY _ hy,by rw[hr0 y (DY _ hy)];exact hb⟩⟩
 have hbm:=hO.bm m;have hreb:Fw B F2 (GX F2 (⟨x.k,x.g,o'⟩::L)):=by
  rw[hZ2];exact hO.reb.now m hwos hwtp hwout (by rw[hszp];exact Ag _) (λb _ hz=>hoth b λe=>hz ⟨x,Cv,by rw[e];exact hit⟩) (hO.cellF m) (λ_ _ _ h=>h) (λ_ _ _ h=>h) (λb hb=>hO.reb.X b hb) λb hb=>.inl hb
 have hobs:Cf C B F2 (⟨x.k,x.g,o'⟩::L):=by
  have hd:=Dl.1 hO.dis;refine⟨λy hy=>?_,λy hy=>?_,Dl.2 ⟨λy hy e=>?_,?_⟩,hreb,λ_=>hbm,hO.df⟩
  ·rcases Ak.1 hy with rfl|hy
   ·exact⟨it,(hr0 x Cv).trans hit,j2,λh=>by
     rcases h with⟨e,he,h⟩|h
     ·exact(mp.hok.own e he it h).1 j2
     ·exact h,hit',j5⟩
   ·have hy':=DY x hy
    obtain⟨i2,a1,a2,a3,a4,a5⟩:=hO.at_ y hy';refine⟨i2,(hr0 y hy').trans a1,a2,λh=>?_,?_,a5⟩
    ·rcases h with⟨e,he,h⟩|h
     ·exact(mp.hok.own e he i2 h).1 a2
     ·exact h
    ·show w2.heap[i2]?=_
     rw[hoth i2 λe=>hd.1 y hy (by rw[hit,a1,e])];exact(m.blk i2 (m.xlt i2 a2) a3).trans a4
  ·rcases Ak.1 hy with rfl|hy
   ·exact hc
   ·exact hO.nc y (DY _ hy)
  ·have e':F2.r0 x.k x.g=F2.r0 y.k y.g:=e
   rw[hr0 x Cv,hr0 y (DY _ hy)]at e';exact hd.1 y hy e'
  ·exact hd.2.imp_of_mem λ{y z} hy hz h=>by rw[hr0 y (DY _ hy),hr0 z (DY _ hz)];exact h
 have hF2:Ba C B F2:=hreb.fle hbm (λb hb=>by rw[hZ2]at hb;exact hO.ng b hb) hB.nt hO.df;have hfr2:∀d v,AF ρ (AC F.X ρ s.H) w d v->GF F2 d v:=λd v h=>(h.mono xp).anti λb hb=>by
  rcases hb with hb|hb|hb
  ·exact .inl hb
  ·exact .inr hb
  ·exact hb.elim
 have hnow:JL ρ (AC F.X ρ s.H) w F2:=⟨hfr2,λb o h1 h2=>by
  refine⟨(hoth b λe=>h2 (.inl (e ▸ j2))).trans h1,λq=>?_⟩;rcases q with q|⟨e,he,q⟩|q
  ·exact h2 (.inl q)
  ·exact h2 (.inr ⟨e,he,q⟩)
  ·exact q⟩
 refine⟨F2,hF2,rfl,hnow.to m λ_ _ _ h=>h,hobs,?_,(hr0 x Cv).trans hit,hnow⟩;exact⟨ent _ (λ_ h=>h.elim) (λ_ h=>h.elim),λk g hg=>hs.fresh k g (by have:s.n+1<=g:=hg;omega),λe he=>BE (hs.gen e he),λt=>(hs.env t).mono xp,hs.nt,hs.dfr⟩
end
section
variable {C:AX} {X:EV} {B F:AG} {ops:Array Oper} {s:St} {rd:Option Nat} {Q:Exit->AG->St->Prop} {L:List GW}
structure Bb (C:AX)(B:AG)(rd:Option Nat)(F:AG)(ops:Array Oper)(l:List Nat)(s:St)(Q:Exit->AG->St->Prop):Prop where
 out:Ba C B F->(∀j∈l,j<ops.size)->ops.toList.all (Bv B.nt)=true->DS ops.toList=true->∀(ρ:Lk) (a:Act) (w:World),Aq C F ρ s a w->wpOpsIn (fw rd) 0 C.P ops (DB C B Q) l a w
theorem Bb.nil (h:Q .normal F s):Bb C B rd F ops [] s Q:=⟨λhB _ _ _ ρ _ _ hs=>⟨F,s,ρ,hB,h,hs⟩⟩
theorem IS (hX:CZ C X)(kb:Nat)(l1 l2:List Nat)(h:CD C X kb ops l1 s True λacc s1=>acc/\Bb C B rd F ops l2 s1 Q):Bb C B rd F ops (l1++l2) s Q:=
 ⟨λhB hlt hd hnd ρ a w hs=>EZ (rd:=rd) (Q:=DB C B Q) (l2:=l2) (λe a w h=>by
  obtain⟨h0,s1,ρ1,h,hs1⟩:=h;exact⟨h0,Bb.out h hB (λ_ hj=>hlt _ (by simp[hj])) hd hnd ρ1 a w hs1⟩) (Gc hnd) _ a w
   ((FG (F:=F) (K':=λs1=>Bb C B rd F ops l2 s1 Q) hX (λacc s h=>h) h).2.run (λj hj=>hlt j (by simp[hj])) (by rw[hB.nt];exact hd) hs)⟩
theorem JX {i:Nat}(hnd:DS ops.toList=true)(h:Bb C B rd F ops (List.range ops.size) s Q):AQ C B rd F (.region i ops false) s Q:=
 ⟨λhB hd ρ a w hs=>wpIn_region (h.out hB (λj hj=>List.mem_range.1 hj) hd hnd ρ a w hs)⟩
theorem Bb.step {i:Nat}{o:Oper}{l2:List Nat}(ho:CP ops.toList i=some o)(hg:o.guard=none)
  (h:∀ρ a w,Aq C F ρ s a w->Ba C B F->∃v w2 F2 ρ2 d,((execOp a.eval o).run C.P w=.ok (.value v) w2\/((execOp a.eval o).run C.P w=.ok .skip w2/\v=undef))/\Ba C B F2/\Aq C F2 ρ2 ⟨s.env,s.H,s.n+1⟩ a w2/\AF ρ2 (AC F2.X ρ2 s.H) w2 d v/\Bb C B rd F2 ops l2 ⟨Ae s.env o.dst d,s.H,s.n+1⟩ Q):
  Bb C B rd F ops (i::l2) s Q:=by
 refine⟨λhB hlt hd hnd ρ a w hs=>?_⟩;obtain⟨v,w2,F2,ρ2,d,hr,hB2,hs2,hrep,hk⟩:=h ρ a w hs hB;have ho:=Iq ho;have hdo:Bv B.nt o=true:=CK.1 hd o (DG.2 (Em ho));have hs3:=hs2.put (H':=s.H) (o:=o) (d:=d) (v:=v) hs2.mem (.refl _ _ _) hs2.fresh hs2.gen hrep (by rw[hB2.nt];exact hdo);have hk2:=hk.out hB2 (λj hj=>hlt j (DY _ hj)) hd hnd ρ2 _ w2 hs3;simp only[wpOpsIn,ho];rw[AL (by unfold Region.wanted;rw[hg])];rcases hr with hr|⟨hr,rfl⟩
 ·exact J0 hr hk2
 ·exact Uc hr hk2
abbrev dc:=List (ByteArray×D)
def MI (F:AG)(o:Obj)(l:dc):Prop:=∃es clock,o=.map es clock/\es.size=l.length/\D5 es clock/\∀(i:Nat) (p:ByteArray×D),l[i]?=some p->(es.getD i default).key=.string p.1/\GF F p.2 (es.getD i default).val
theorem MI.new (F:AG):MI F (.map #[] 0) []:=⟨#[],0,rfl,rfl,⟨by simp,by simp⟩,by simp⟩
theorem Bb.makeMap {i:Nat}{o:Oper}{l2:List Nat}{T:Nat}(kb:Nat)(ho:CP ops.toList i=some o)(hg:o.guard=none)(hop:o.op=.makeMap T none)(hO:Cf C B F L)
  (h:∀F2 it,Ik F F2->Cf C B F2 (⟨kb,s.n,.map #[] 0⟩::L)->F2.r0 kb s.n=some it->¬B.X it->MI F2 (.map #[] 0) []->Bb C B rd F2 ops l2 ⟨Ae s.env o.dst (.prim (.map (some it))),s.H,s.n+1⟩ Q):Bb C B rd F ops (i::l2) s Q:=by
 refine Bb.step ho hg λρ a w hs hB=>?_
 obtain⟨F2,ρ2,hB2,-,ht,hO2,hs2,-,hr0,hnX,-⟩:=hO.alloc hB hs kb (.map #[] 0) (by simp);refine⟨.map (some w.heap.size),_,F2,ρ2,.prim (.map (some w.heap.size)),.inl ?_,hB2,hs2,.prim _,h F2 _ ht hO2 hr0 hnX (MI.new _)⟩;unfold execOp;simp only[hop];rw[run_bind];rfl
end
section
variable {C:AX} {X:EV} {B F:AG} {ops:Array Oper} {s:St} {rd:Option Nat} {Q:Exit->AG->St->Prop} {L:List GW}
def JD (F:AG)(o:Obj)(ks vs:List D)(dn:List Nat):Prop:=∃bm es clock since c0 seen,o=.mapIter (some bm) since seen c0/\F.w0.heap[bm]?=some (.map es clock)/\¬(F.X bm\/F.Wr bm)/\es.size=ks.length/\es.size=vs.length/\D5 es clock /\
 (∀(i:Nat) (d:D),ks[i]?=some d->GF F d (es.getD i default).key)/\(∀(i:Nat) (d:D),vs[i]?=some d->GF F d (es.getD i default).val) /\
 (∀(i:Nat) (e:MapEntry),es[i]?=some e->e.born<since)/\since<=c0/\c0=clock/\seen.toList=dn.map (λi=>(es.getD i default).born)/\dn.Nodup/\∀i∈dn,i<es.size
theorem eD {i:Nat}{o:Oper}{l2:List Nat}{t k e:Nat}{x:Operand}{ks vs:List D}(kb:Nat)(ht:C.P.underlying t=some (.map k e))(ho:CP ops.toList i=some o)(hg:o.guard=none)(hop:o.op=.range t x)(hx:AU s.env x=.mp ks vs)(hO:Cf C B F L)
  (h:∀F2 o2,Ik F F2->Cf C B F2 (⟨kb,s.n,o2⟩::L)->JD F2 o2 ks vs []->Bb C B rd F2 ops l2 ⟨Ae s.env o.dst (.optr kb s.n 0 0 0),s.H,s.n+1⟩ Q):Bb C B rd F ops (i::l2) s Q:=by
 refine Bb.step ho hg λρ a w hs hB=>?_
 have hrep:=BI hs.env x;rw[hx]at hrep;generalize hev:a.eval x=v at hrep;cases hrep with
 |mp hO' hr hb h1 h2 hBo hk hv=>
  rename_i r clock es;obtain⟨F2,ρ2,hB2,-,hto,hO2,hs2,hlk,hr0,-,hnow⟩:=hO.alloc hB hs kb (.mapIter (some r) clock #[] clock) (by simp);obtain⟨q1,q2⟩:=hnow.blk r _ hb hO';refine⟨_,_,F2,ρ2,.optr kb s.n 0 0 0,.inl ?_,hB2,hs2,.optr hlk,h F2 _ hto hO2 ⟨r,es,clock,clock,clock,#[],rfl,q1,q2,h1,h2,hBo,λi d hd=>hnow.rep _ _ (hk i d hd),λi d hd=>hnow.rep _ _ (hv i d hd),hBo.1,Ag _,rfl,rfl,.nil,by simp⟩⟩;unfold execOp;simp only[hop];rw[run_bind,hev,run_range_map w t k e r es clock ht hb];simp
theorem Aq.drew {ρ:Lk}{a:Act}{w:World}(hs:Aq C F ρ s a w):Aq C F ρ s a w.drew:=⟨hs.mem.drew,hs.fresh,hs.gen,λt=>(hs.env t).mono (.drew _ _ _),hs.nt,hs.dfr⟩
theorem eC {i:Nat}{o:Oper}{l2:List Nat}{x:Operand}{ks vs:List D}{xo:GW}{dn:List Nat}(ho:CP ops.toList i=some o)(hg:o.guard=none)(hop:o.op=.next x false)(hx:AU s.env x=.optr xo.k xo.g 0 0 0)(hO:Cf C B F (xo::L))(hI:JD F xo.o ks vs dn)
  (h1:(∀j,j<ks.length->j∈dn)->Bb C B rd F ops l2 ⟨Ae s.env o.dst (.tup [Al false]),s.H,s.n+1⟩ Q)
  (h2:∀j kd vd F2 o2,j∉dn->ks[j]?=some kd->vs[j]?=some vd->Ik F F2->Cf C B F2 (⟨xo.k,xo.g,o2⟩::L)->JD F2 o2 ks vs (dn++[j])->Bb C B rd F2 ops l2 ⟨Ae s.env o.dst (.tup [Al true,kd,vd]),s.H,s.n+1⟩ Q):
  Bb C B rd F ops (i::l2) s Q:=by
 refine Bb.step ho hg λρ a w hs hB=>?_
 have m:=hs.mem;obtain⟨it,b1,b2,b3,b4⟩:=hO.now m Cv;obtain⟨bm,es,clock,since,c0,seen,e1,e2,e3,e4,e5,e6,e7,e8,e9,e10,e11,e12,e13,e14⟩:=hI;subst e11;rw[e1]at b4;have hlt0:bm<F.w0.heap.size:=(Bi.1 e2).1;have hbm:w.heap[bm]?=some (.map es c0):=(m.blk bm hlt0 λq=>e3 (.inr q)).trans e2;have hxv:a.eval x=.pointer (some ⟨it,0,none⟩):=by
  have:=BI hs.env x
  rw[hx]at this;generalize a.eval x=v at this;cases this with
  |optr hr=>rw[b1]at hr;cases hr;rfl
 have sat:∀w',Aq C F ρ s a w'->Aq C F ρ ⟨s.env,s.H,s.n+1⟩ a w':=λw' hs=>⟨hs.mem,λk g hg=>hs.fresh k g (by have:s.n+1<=g:=hg;omega),λe he=>BE (hs.gen e he),hs.env,hs.nt,hs.dfr⟩
 have hmem:∀e:MapEntry,e∈es.toList->∃j,es[j]?=some e:=λe he=>by
  obtain⟨j,hj⟩:=Gt.1 he;exact⟨j,by simpa using hj⟩
 have hseen:∀b:Nat,seen.contains b=true↔∃j∈dn,(es.getD j default).born=b:=λb=>by
  rw[<-Array.contains_toList,e12,List.contains_iff_mem,Bk]
 rcases run_next_at (P:=C.P) w o.type it bm since c0 seen es c0 b4 hbm (λe he=>by obtain⟨j,hj⟩:=hmem e he;exact e9 j e hj) e10 with⟨q1,q2⟩|⟨e,he,w1,hw1,q2⟩
 ·refine⟨_,w,F,ρ,_,.inl ?_,hB,sat w hs,.tup (vs:=#[.bool false]) rfl λi d hd=>?_,h1 λj hj=>?_⟩
  ·unfold execOp
   simp only[hop];rw[run_bind,hxv,q2];rfl
  ·match i with
   | 0=>simp at hd;subst hd;exact .prim _
   |n+1=>simp at hd
  ·rw[<-e4]at hj
   obtain⟨ej,hej⟩:∃ej,es[j]?=some ej:=⟨es[j],BB hj⟩
   have hc:seen.contains ej.born=true:=by
    apply DV;intro hn;have hn:seen.contains ej.born=false:=by simpa using hn
    have:ej∈leftOf es seen:=by
     unfold leftOf;rw[Array.mem_filter];exact⟨Em hej,by rw[hn];rfl⟩
    have:=Array.size_pos_of_mem this
    omega
   obtain⟨j',hj',hb'⟩:=(hseen _).1 hc;have hlt:=e14 j' hj'
   have:j=j':=e6.2 j j' ej (es.getD j' default) hej (by rw[AP,BB hlt];rfl) hb'.symm
   rw[this];exact hj'
 ·have hel:e∈es/\seen.contains e.born=false:=by
   have:e∈leftOf es seen:=DG.1 he
   unfold leftOf at this;rw[Array.mem_filter]at this;exact⟨this.1,by simpa using this.2⟩
  obtain⟨j,hj⟩:=hmem e (DG.2 hel.1);have hjl:j<es.size:=(Bi.1 hj).1;have hgd:es.getD j default=e:=by rw[AP,hj];rfl
  have hjn:j∉dn:=λq=>by
   have:=(hseen e.born).2 ⟨j,q,by rw[hgd]⟩
   rw[hel.2]at this;cases this
  obtain⟨kd,hkd⟩:∃kd,ks[j]?=some kd:=⟨ks[j]'(by omega),BM _⟩
  obtain⟨vd,hvd⟩:∃vd,vs[j]?=some vd:=⟨vs[j]'(by omega),BM _⟩
  have hs1:Aq C F ρ s a w1:=by
   rcases hw1 with rfl|rfl
   ·exact hs
   ·exact hs.drew
  obtain⟨F2,hB2,-,hto,hO2,hs2,hr0,-⟩:=hO.turn (o':=.mapIter (some bm) since (seen.push e.born) c0) hB hs1 (by simp) b2;obtain⟨p1,p2⟩:=hto.blk _ _ e2 e3;have hit2:JD F2 (.mapIter (some bm) since (seen.push e.born) c0) ks vs (dn++[j]):=⟨bm,es,c0,since,c0,seen.push e.born,rfl,p1,p2,e4,e5,e6,λi d hd=>hto.rep _ _ (e7 i d hd),λi d hd=>hto.rep _ _ (e8 i d hd),e9,e10,rfl,by
   rw[Array.toList_push,e12,ER];simp only[BU,List.map_nil];rw[hgd],by
   rw[DH];exact⟨e13,by simp,λx hx y hy=>by
    rw[E7]at hy;subst hy;exact λq=>hjn (q ▸ hx)⟩,λi hi=>by
   rcases BO.1 hi with hi|hi
   ·exact e14 i hi
   ·rw[E7]at hi;subst hi;exact hjl⟩
  have hk:=(hto.rep _ _ (e7 j kd hkd)).now hs2.mem;have hv:=(hto.rep _ _ (e8 j vd hvd)).now hs2.mem;rw[hgd]at hk hv;refine⟨_,_,F2,ρ,_,.inl ?_,hB2,hs2,.tup (vs:=#[.bool true,e.key,e.val]) rfl λi d hd=>?_,h2 j kd vd F2 _ hjn hkd hvd hto hO2 hit2⟩
  ·unfold execOp
   simp only[hop];rw[run_bind,hxv,q2];rfl
  ·match i with
   | 0=>simp at hd;subst hd;exact .prim _
   | 1=>simp at hd;subst hd;exact hk
   | 2=>simp at hd;subst hd;exact hv
   |n+3=>simp at hd
theorem D5.nodup {es:Array MapEntry}{clock:Nat}(h:D5 es clock):(es.toList.map (·.born)).Nodup:=by
 rw[List.nodup_iff_pairwise_ne,List.pairwise_map,List.pairwise_iff_getElem];intro i j hi hj hij hb
 have:=h.2 i j es.toList[i] es.toList[j] (by simp at hi;simp[hi]) (by simp at hj;simp[hj]) hb
 omega
theorem Mb {i:Nat}{o:Oper}{l2:List Nat}{x:Operand}{ks vs:List D}{xo:GW}{dn:List Nat}{j:Nat}{kd vd:D}(ho:CP ops.toList i=some o)(hg:o.guard=none)(hop:o.op=.entry x)(hx:AU s.env x=.optr xo.k xo.g 0 0 0)(hO:Cf C B F L)(hm:xo∈L)(hI:JD F xo.o ks vs (dn++[j]))
  (hk:ks[j]?=some kd) (hv:vs[j]?=some vd) (h:Bb C B rd F ops l2 ⟨Ae s.env o.dst (.tup [kd,vd]),s.H,s.n+1⟩ Q):Bb C B rd F ops (i::l2) s Q:=by
 refine Bb.step ho hg λρ a w hs hB=>?_
 have m:=hs.mem;obtain⟨it,b1,b2,b3,b4⟩:=hO.now m hm;obtain⟨bm,es,clock,since,c0,seen,e1,e2,e3,e4,e5,e6,e7,e8,e9,e10,e11,e12,e13,e14⟩:=hI;subst e11;rw[e1]at b4;have hlt0:bm<F.w0.heap.size:=(Bi.1 e2).1;have hbm:w.heap[bm]?=some (.map es c0):=(m.blk bm hlt0 λq=>e3 (.inr q)).trans e2;have hxv:a.eval x=.pointer (some ⟨it,0,none⟩):=by
  have:=BI hs.env x
  rw[hx]at this;generalize a.eval x=v at this;cases this with
  |optr hr=>rw[b1]at hr;cases hr;rfl
 have hjl:=e14 j (by simp);obtain⟨e,he⟩:∃e,es[j]?=some e:=⟨es[j],BB hjl⟩
 have hgd:es.getD j default=e:=by rw[AP,he];rfl
 have hpush:seen=((dn.map λi=>(es.getD i default).born).toArray).push e.born:=by
  apply Array.toList_inj.1;rw[e12,Array.toList_push,ER];simp only[BU,List.map_nil];rw[hgd]
 rw[hpush]at b4;have hk':=(e7 j kd hk).now m;have hv':=(e8 j vd hv).now m;rw[hgd]at hk' hv';refine⟨_,w,F,ρ,_,.inl ?_,hB,⟨hs.mem,λk g hg=>hs.fresh k g (by have:s.n+1<=g:=hg;omega),λe he=>BE (hs.gen e he),hs.env,hs.nt,hs.dfr⟩,.tup (vs:=#[e.key,e.val]) rfl λi d hd=>?_,h⟩
 ·unfold execOp
  simp only[hop];rw[run_bind,hxv,run_entry_at w it bm since _ es c0 e b4 hbm (DG.2 (Em he)) e6.nodup];rfl
 ·match i with
  | 0=>simp at hd;subst hd;exact hk'
  | 1=>simp at hd;subst hd;exact hv'
  |n+2=>simp at hd
end
end Go.Ide
