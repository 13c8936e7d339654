/- The layer of own lemmas and contracts, part 4. -/
import Derived.Test.YtmpdcldckjeklacGreatDoorAE3
import Derived.OrdersIn
import Derived.RangeFuncLeaves
import Derived.RangeFuncSeq
import Derived.RangeFuncIn
import Derived.RangeFuncRecord
import Derived.ChangeArms
import Derived.ChangeSlices
import Derived.OpenShut
import Derived.Maps.RangeRun
set_option linter.unusedVariables false
set_option linter.unusedSimpArgs false
namespace Go.Ide
open Go.RowKit
def fw (rd:Option Nat):Fence:={ Fence.wide with round:=rd }
theorem IP {rd:Option Nat}{n:Nat}{P:Program}{f:FuncId}{args:Array Value}{w:World}{R:Ending->World->Prop}:CallsIn (fw rd) n P f args w R↔Calls P f args w R:=
 (show CallsIn (fw rd) n P f args w R↔CallsIn Fence.wide n P f args w R from Iff.rfl).trans callsIn_wide
theorem IR {rd:Option Nat}{n:Nat}:(fw rd).depth.isSome=true->1<=n:=λh=>by cases h
theorem Lt {P:Program}{ρ:Operand->Value}{o:Oper}{w w':World}{x:Next}(h:(execOp ρ o).run P w=.ok x w')(hx:∀d,x≠.defer d):∀c,o.op≠.defer c:=λc hc=>by
 unfold execOp at h;simp only[hc]at h;rw[run_bind]at h;split at h
 ·cases h;exact hx _ rfl
 ·cases h
section
variable {C:AZ} {F:AI} {ops:Array Oper} {rd:Option Nat} {Q:Exit->Act->World->Prop}
theorem Ka {P:Program}{o:Oper}{a:Act}{w w':World}{v:Value}{K:Act->World->Prop}(h:(execOp a.eval o).run P w=.ok (.value v) w')(hk:K (a.put o.dst v) w'):o.wpIn (fw rd) 0 P a w K Q:=by
 refine⟨λ_ _=>trivial,?_⟩;rw[Oper.semAt_eq _ _ _ (Lt h (by simp)),h];exact hk
theorem Vi {P:Program}{o:Oper}{a:Act}{w w':World}{K:Act->World->Prop}(h:(execOp a.eval o).run P w=.ok .skip w')(hk:K (a.put o.dst undef) w'):o.wpIn (fw rd) 0 P a w K Q:=by
 refine⟨λ_ _=>trivial,?_⟩;rw[Oper.semAt_eq _ _ _ (Lt h (by simp)),h];exact hk
theorem Vg {P:Program}{o:Oper}{a:Act}{w w':World}{f:Nat}{vs:Array Value}{K:Act->World->Prop}(h:(execOp a.eval o).run P w=.ok (.enter f vs) w')
  (hc:Calls P f vs w' λe w''=>∃v,e=.returned v/\K (a.put o.dst v) w''):o.wpIn (fw rd) 0 P a w K Q:=by
 refine⟨λ_ _=>trivial,?_⟩;rw[Oper.semAt_eq _ _ _ (Lt h (by simp)),h];refine⟨IR,IP.2 (hc.mono ?_)⟩;rintro e w'' ⟨v,rfl,hk⟩;exact hk
theorem Vh {P:Program}{o:Oper}{a:Act}{w w':World}{l f:Nat}{tmps:Array Value}{as bd:Code}{K:Act->World->Prop}(h:(execOp a.eval o).run P w=.ok (.round l f tmps as bd) w')
  (hc:RoundIn (fw rd) 0 P l f tmps as bd w' λe w''=>∃v,e=.returned v/\K (a.put o.dst v) w''):o.wpIn (fw rd) 0 P a w K Q:=by
 refine⟨λ_ _=>trivial,?_⟩;rw[Oper.semAt_eq _ _ _ (Lt h (by simp)),h];refine⟨IR,hc.mono ?_⟩;rintro e w'' ⟨v,rfl,hk⟩;exact hk
theorem EP {R:Exit->Act->World->Prop}{l2:List Nat}(hR:∀e a w,R e a w->e=.normal/\wpOpsIn (fw rd) 0 C.P ops Q l2 a w)(hnd:∀(i:Nat) (o:Oper),ops[i]?=some o->∀c,o.op≠.defer c):
  ∀(l:List Nat) (a:Act) (w:World),wpOps C.P ops R l a w->wpOpsIn (fw rd) 0 C.P ops Q (l++l2) a w
 | [],a,w,h=>(hR _ _ _ h).2
 |i::l,a,w,h=>by
  have hlet:¬LetsOut R:=λ⟨a,w,h⟩=>by have:=(hR _ _ _ h).1;cases this
  simp only[wpOps]at h;simp only[Fv,wpOpsIn];cases ho:ops[i]? with
  |none=>simp only[ho]at h;exact EP hR hnd l a w h
  |some o=>
   simp only[ho]at h;dsimp only;split
   ·rename_i hw
    rw[AM hw]at h;rcases h with h|⟨_,h⟩
    ·unfold Oper.wp at h
     refine⟨λ_ _=>trivial,?_⟩;rw[Oper.semAt_eq _ _ _ (hnd i o ho)]
     revert h
     generalize(execOp a.eval o).run C.P w=r;intro h;unfold Oper.upon at h;unfold Oper.uponIn;split at h
     ·exact EP hR hnd l _ _ h
     ·exact EP hR hnd l _ _ h
     ·exact EP hR hnd l _ _ h
     ·refine⟨IR,IP.2 (h.mono ?_)⟩
      intro e w'' h;cases e with
      |returned v=>exact EP hR hnd l _ _ h
      |panicked c=>have:=(hR _ _ _ h).1;cases this
      |outgrown=>exact AW h hlet
     ·exact⟨IR,λc cs hr=>by
       obtain⟨v,w',h1,h2⟩:=h c cs;exact⟨v,w',EP hR hnd l _ _ h1,stepsIn_wide.2 h2⟩⟩
     ·have:=(hR _ _ _ h).1;cases this
     ·exact h.elim
    ·exact AW h hlet
   ·rename_i hw
    rw[AN hw]at h;exact⟨λ_ _=>trivial,EP hR hnd l _ _ h⟩
theorem Nw {Q:Exit->Act->World->Prop}:∀(l:List Nat) (fuel:Nat) (L:Array Bool) (a:Act) (w:World),L.size=ops.size->l.length<=fuel->(∀i,i<ops.size->(Ls L i↔i∉l))->l.Nodup ->
  (∀A i B,l=A++i::B->(∀j∈Bd ops i,j<ops.size/\j∉i::B)/\∀j∈A,Cd ops i j)->(∀i∈l,i<ops.size)->Cl ops L ->
  wpOpsIn (fw rd) 0 C.P ops Q l a w->wpAnyIn (fw rd) 0 C.P .any ops Q fuel L a w
 | [],fuel,L,a,w,hs,_,hl,_,_,_,_,h=>by
  have hr:Region.ready .any ops L=[]:=by
   apply List.eq_nil_iff_forall_not_mem.2;intro i hi;obtain⟨h1,h2,_⟩:=CP.1 hi
   have:=(hl i h1).2 (by simp)
   unfold Ls at this;rw[AT,D8]at this h2;simp at this h2;rw[this]at h2;cases h2
  cases fuel with
  |zero=>exact⟨hr,h⟩
  |succ fuel=>exact⟨λ_=>h,λi hi=>by rw[hr]at hi;simp at hi⟩
 |i::l,0,_,_,_,_,hf,_,_,_,_,_,_=>by simp at hf
 |i::l,fuel+1,L,a,w,hs,hf,hl,hnd,hd,hlt,hcl,h=>by
  have hil:=hlt i (by simp);have hLi:∀j,j<ops.size->(L.getD j true=true↔Ls L j):=λj hj=>by
   unfold Ls;rw[AT,AT,D8];simp
  have hready:∀j,j∈Region.ready .any ops L↔j=i:=by
   intro j;rw[CP];constructor
   ·rintro⟨h1,h2,h3⟩
    have hj:j∈i::l:=by
     apply Dt;intro hn
     have:=(hLi j h1).2 ((hl j h1).2 hn)
     rw[h2]at this;cases this
    apply Dt;intro hne;have hjl:j∈l:=by simpa[hne]using hj
    obtain⟨A,B,rfl⟩:=EF hjl;have hreach:=(hd (i::A) j B (by simp)).2 i (by simp)
    have:=FJ hs hcl hreach h3
    exact AW ((hl i hil).1 this) (by simp)
   ·rintro rfl
    refine⟨hil,?_,λk hk=>?_⟩
    ·cases hb:L.getD j true with
     |false=>rfl
     |true=>exact AW ((hl j hil).1 ((hLi j hil).1 hb)) (by simp)
    ·have hk2:=(hd [] j l rfl).1 k hk
     exact(hl k hk2.1).2 hk2.2
  have hset:∀j,Ls (L.setIfInBounds i true) j↔j=i\/Ls L j:=λj=>Ls.set (by omega)
  refine⟨λh0=>?_,λj hj=>?_⟩
  ·have:=(hready i).2 rfl
   rw[h0]at this;simp at this
  ·obtain rfl:=(hready j).1 hj
   rw[wpOpsIn_cons]at h;obtain⟨n1,n2⟩:=List.nodup_cons.1 hnd;refine wpOpIn_mono (λa w hk=>?_) h;refine Nw l fuel _ a w (by simp[hs]) (by simp at hf;omega) (λk hk2=>?_) n2 (λA k B hAB=>?_) (λk hk2=>hlt k (by simp[hk2])) ?_ hk
   ·rw[hset,hl k hk2]
    by_cases hkj:k=j
    ·subst hkj;simp[n1]
    ·simp[hkj]
   ·obtain⟨q1,q2⟩:=hd (j::A) k B (by simp[hAB])
    exact⟨q1,λx hx=>q2 x (by simp[hx])⟩
   ·intro k hk2 hks x hx
    have hk3:Ls (L.setIfInBounds j true) k:=by
     unfold Ls;rw[AT,BF (by simp;omega)]at hk2⊢;simpa using hk2
    show Ls _ x;rw[hset];rcases(hset k).1 hk3 with rfl|hk3
    ·exact .inr ((CP.1 hj).2.2 x hx)
    ·exact .inr (hcl k ((hLi k hks).2 hk3) hks x hx)
theorem Ux {Q:Exit->Act->World->Prop}{H:Hp}{n:Nat}{env:Ab}{rs:List CH}{suf:List Nat}(ho:K4 ops rs suf)(hgen:∀e∈H,e.g<n)(hd:∀r∈rs,CB F.nt r.o=true)
  (hst:∀A r B,rs=A++r::B->ops[r.i]?=some r.o/\A0 C F ops H (n+r.i) (E3 A env) r.o r.d r.ne)
  (hend:∀(L:Array Bool) (a:Act) (w:World) (ρ:Lk) (He:Hp),L.size=ops.size->(∀r∈rs,Ls L r.i)->DI C F H n env rs L a w ρ He->wpOpsIn (fw rd) 0 C.P ops Q suf a w):
  ∀(fuel:Nat) (L:Array Bool) (a:Act) (w:World) (ρ:Lk) (He:Hp),L.size=ops.size->((rs.map (·.i)++suf).filter (λi=>!L.getD i false)).length<=fuel->Cl ops L->(∀i∈suf,¬Ls L i) ->
   DI C F H n env rs L a w ρ He->wpAnyIn (fw rd) 0 C.P .any ops Q fuel L a w:=by
 intro fuel
 induction fuel with
 |zero=>
  intro L a w ρ He hL hf hc hs hi;have h0:(rs.map (·.i)++suf).filter (λi=>!L.getD i false)=[]:=Hz (by omega);have hall:∀r∈rs,Ls L r.i:=λr hr=>by
   have:=List.filter_eq_nil_iff.1 h0 r.i (by simp;exact .inl ⟨r,hr,rfl⟩)
   simpa[Ls]using this
  have hsuf:suf=[]:=by
   apply List.eq_nil_iff_forall_not_mem.2;intro i hi2
   have:=List.filter_eq_nil_iff.1 h0 i (by simp[hi2])
   exact hs i hi2 (by simpa[Ls]using this)
  subst hsuf;refine Nw [] 0 L a w hL (Ad _) (λi hi2=>⟨λ_=>by simp,λ_=>?_⟩) .nil (λA i B h=>by cases A<;>simp at h) (by simp) hc (hend L a w ρ He hL hall hi)
  have:=ho.all i hi2
  simp at this;obtain⟨r,hr,rfl⟩:=this;exact hall r hr
 |succ fuel ih=>
  intro L a w ρ He hL hf hc hs hi
  by_cases hall:∀r∈rs,Ls L r.i
  ·refine Nw suf (fuel+1) L a w hL ?_ (λi hi2=>?_) ?_ (λA i B hAB=>⟨λj hj=>?_,λj hj=>ho.suf A i B hAB j (by simp[hj])⟩) (λi hi2=>ho.lt i (by simp[hi2])) hc (hend L a w ρ He hL hall hi)
   ·refine Az ?_ hf
    rw[List.filter_append,B9];rw[(List.filter_eq_self (l:=suf)).2 λi hi2=>by have:=hs i hi2;unfold Ls at this;simpa using this];omega
   ·constructor
    ·intro h1 h2;exact hs i h2 h1
    ·intro h1
     have:=ho.all i hi2
     rcases BR.1 this with h|h
     ·obtain⟨r,hr,rfl⟩:=Bw.1 h;exact hall r hr
     ·exact AW h h1
   ·exact(De.1 ho.nodup).2.1
   ·have hA:=ho.first (rs.map (·.i)++A) i B (by simp[hAB]) j hj
    refine⟨ho.lt j (by rw[hAB];rcases BR.1 hA with h|h<;>simp[h]),λhB=>?_⟩;have hnd:=ho.nodup;rw[hAB,<-Cr,De]at hnd;exact hnd.2.2 j hA j hB rfl
  ·have hnot:∃r∈rs,¬Ls L r.i:=by
    apply Dt;intro hn;exact hall λr hr=>Dt λh=>hn ⟨r,hr,h⟩
   have hLt:∀j,j<ops.size->(L.getD j true=true↔Ls L j):=λj hj=>by
    unfold Ls;rw[AT,AT,D8];simp
   have hsome:Region.ready .any ops L≠[]:=by
    obtain⟨r0,hr0,hn0⟩:=hnot
    have:∀X:List CH,∀Y,rs=X++Y->(∃r∈Y,¬Ls L r.i)->(∀r∈X,Ls L r.i)->∃A r B,rs=A++r::B/\¬Ls L r.i/\∀r∈A,Ls L r.i:=by
     intro X Y
     induction Y generalizing X with
     |nil=>rintro _ ⟨r,hr,_⟩ _;simp at hr
     |cons y Y ihY=>
      intro hXY hex hX
      by_cases hy:Ls L y.i
      ·obtain⟨r,hr,hrn⟩:=hex
       rcases Ah.1 hr with rfl|hr
       ·exact AW hy hrn
       ·exact ihY (X++[y]) (by simp[hXY]) ⟨r,hr,hrn⟩ (λr hr=>by
         rcases BR.1 hr with h|h
         ·exact hX r h
         ·simp at h;subst h;exact hy)
      ·exact⟨X,y,Y,hXY,hy,hX⟩
    obtain⟨A,r,B,h1,h2,h3⟩:=this [] rs rfl ⟨r0,hr0,hn0⟩ (by simp);intro hnil;have hrlt:=ho.lt r.i (by rw[h1];simp)
    have:r.i∈Region.ready .any ops L:=by
     rw[CP];refine⟨hrlt,?_,λj hj=>?_⟩
     ·cases hb:L.getD r.i true with
      |false=>rfl
      |true=>exact AW ((hLt r.i hrlt).1 hb) h2
     ·have:=ho.first (A.map (·.i)) r.i (B.map (·.i)++suf) (by rw[h1];simp) j hj
      obtain⟨r',hr',rfl⟩:=Bw.1 this;exact h3 r' hr'
    rw[hnil]at this;simp at this
   refine⟨λh0=>AW h0 hsome,λi hir=>?_⟩;obtain⟨hilt,hin,hid⟩:=CP.1 hir;have hnL:¬Ls L i:=λh=>by rw[(hLt i hilt).2 h]at hin;cases hin
   have hpre:i∈rs.map (·.i):=by
    rcases BR.1 (ho.all i hilt)with h|h
    ·exact h
    ·obtain⟨A,B,hAB⟩:=EF h
     obtain⟨r0,hr0,hn0⟩:=hnot
     have:=FJ hL hc (ho.suf A i B hAB r0.i (J1 _ (Bw.2 ⟨r0,hr0,rfl⟩))) hid
     exact AW this hn0
   obtain⟨r,hr,rfl⟩:=Bw.1 hpre;obtain⟨A,B,hAB⟩:=EF hr;obtain⟨hor,hgen2,hsteady⟩:=hst A r B hAB;have hset:∀j,Ls (L.setIfInBounds r.i true) j↔j=r.i\/Ls L j:=λj=>Ls.set (by omega)
   have hndr:(rs.map (·.i)).Nodup:=(De.1 ho.nodup).1;have hsub:∀e∈H,e∈He:=λe he=>hi.perm.mem_iff.2 (by simp[he])
   have hfr:∀k,ρ k (n+r.i)=none:=λk=>by
    apply Dt;intro hk;obtain⟨r',h1,h2,h3⟩:=hi.fresh k (n+r.i) (by omega) hk
    have:r'.i=r.i:=by omega
    rw[this]at h2;exact hnL h2
   have hne:∀e∈He,e.g≠n+r.i:=λe he hg=>by
    rcases BR.1 (hi.perm.mem_iff.1 he)with h|h
    ·obtain⟨r',h1,h2⟩:=List.mem_filterMap.1 h
     split at h2
     ·rename_i hl
      obtain⟨A',B',hAB'⟩:=EF h1
      have:=(hst A' r' B' hAB').2.1 e h2
      have:r'.i=r.i:=by omega
      rw[this]at hl;exact hnL hl
     ·cases h2
    ·have:=hgen e h;omega
   have next:∀v ρ' w',E5 C F He ρ w (n+r.i) r.d r.ne v ρ' w'->wpAnyIn (fw rd) 0 C.P .any ops Q fuel (L.setIfInBounds r.i true) (a.put r.o.dst v) w':=by
    intro v ρ' w' p;have hi':=hi;rw[hAB]at hi' hndr;have hdst:=ho.dst;rw[hAB]at hdst;have hn':=DI.next hi' (by omega) hnL hndr hdst (hd r hr) p;rw[<-hAB]at hn';refine ih _ _ _ ρ' (Bk r.ne He) (by simp[hL]) ?_ ?_ (λj hj=>?_) hn'
    ·have:((rs.map (·.i)++suf).filter (λi=>!(L.setIfInBounds r.i true).getD i false)).length<((rs.map (·.i)++suf).filter (λi=>!L.getD i false)).length:=by
      have sub:(rs.map (·.i)++suf).filter (λi=>!(L.setIfInBounds r.i true).getD i false)=((rs.map (·.i)++suf).filter (λi=>!L.getD i false)).filter (λi=>!Nat.beq i r.i):=by
       rw[List.filter_filter];apply List.filter_congr;intro x hx;have h1:=hset x;unfold Ls at h1
       by_cases hxr:x=r.i
       ·subst hxr
        have:(L.setIfInBounds r.i true).getD r.i false=true:=h1.2 (.inl rfl)
        simp[this]
       ·have hb:Nat.beq x r.i=false:=by
         cases hb:Nat.beq x r.i with
         |false=>rfl
         |true=>exact AW (Ae hb) hxr
        rw[hb]
        by_cases hlx:L.getD x false=true
        ·rw[h1.2 (.inr hlx),hlx];rfl
        ·have:¬(L.setIfInBounds r.i true).getD x false=true:=λh=>hlx ((h1.1 h).resolve_left hxr)
         simp only[Bool.not_eq_true]at this hlx;rw[this,hlx];rfl
      rw[sub];apply List.length_filter_lt_length_iff_exists.2;exact⟨r.i,by rw[List.mem_filter];exact⟨by simp;exact .inl ⟨r,hr,rfl⟩,by unfold Ls at hnL;simpa using hnL⟩,by simp⟩
     omega
    ·intro k hk2 hks x hx
     have hk3:Ls (L.setIfInBounds r.i true) k:=by
      unfold Ls;rw[AT,BF (by simp;omega)]at hk2⊢;simpa using hk2
     show Ls _ x;rw[hset];rcases(hset k).1 hk3 with rfl|hk3
     ·exact .inr (hid x hx)
     ·exact .inr (hc k ((hLt k hks).2 hk3) hks x hx)
    ·rw[hset]
     rintro(rfl|h)
     ·have hnd:=ho.nodup
      rw[De]at hnd;exact hnd.2.2 r.i (Bw.2 ⟨r,hr,rfl⟩) r.i hj rfl
     ·exact hs j hj h
   unfold wpOpIn;simp only[hor];rcases hsteady He ρ a w hi.mem hsub hfr hne (hi.look ho hL hc hAB hir)with⟨hw,hn0,hrep⟩|⟨hw,hout⟩
   ·rw[AN (by rw[hw];simp)]
    exact⟨λ_ _=>trivial,next undef ρ w ⟨by rw[hn0];exact hi.mem,by rw[hn0];exact .refl _ _ _,λ_ _ _=>rfl,by rw[hn0];exact hrep⟩⟩
   ·rw[AM hw]
    rcases hout with⟨v,ρ',w',h1,h2⟩|⟨f,vs,h1,h2⟩
    ·exact Ka h1 (next v ρ' w' h2)
    ·refine Vg h1 (h2.mono ?_)
     rintro e w' ⟨v,rfl,ρ',h3⟩;exact⟨v,rfl,next v ρ' w' h3⟩
theorem PM {R:Exit->Act->World->Prop}{i:Nat}{s:St}{pre suf:List Nat}{envF:Ab}{N:Hp}(hm:C.P.follows .mixedOrders=true)(hc:FX ops pre suf=true)
  (hpre:Eg C F ops s.H s.n pre s.env [] envF N)
  (h:(∀j∈suf,j<ops.size)->∀(ρ:Lk) (a:Act) (w:World),Aw C F ρ ⟨envF,N++s.H,s.n+ops.size⟩ a w->wpOpsIn (fw rd) 0 C.P ops R suf a w) (hd:ops.toList.all (CB F.nt)=true) (ρ:Lk) (a:Act) (w:World) (hs:Aw C F ρ s a w):
  (Code.region i ops true).wpIn (fw rd) 0 C.P R a w:=by
 obtain⟨rs,h1,h2,h3,h4⟩:=hpre.recs;have hor:∀r∈rs,ops[r.i]?=some r.o:=λr hr=>by
  obtain⟨A,B,hAB⟩:=EF hr;exact(h4 A r B hAB).1
 have ho:=OU h1 hor hc;have hds:∀r∈rs,CB F.nt r.o=true:=λr hr=>by
  refine CF.1 hd r.o ?_
  have:=hor r hr
  exact Dc.2 (FD this)
 have hrep:∀j,(Array.replicate ops.size false).getD j false=false:=λj=>by
  rw[AT];rw[H5];split<;>rfl
 have hnL:∀j,¬Ls (Array.replicate ops.size false) j:=λj hj=>by unfold Ls at hj;rw[hrep]at hj;cases hj
 refine wpIn_region_any hm ?_;have hin:DI C F s.H s.n s.env rs (Array.replicate ops.size false) a w.drew ρ s.H:=by
  refine⟨hs.mem.drew,?_,λr _ hl=>AW hl (hnL _),λt _=>(hs.env t).mono (.drew _ _ _),λk g hg hk=>AW (hs.fresh k g hg) hk,hs.nt,hs.dfr⟩
  have:rs.filterMap (λr=>if(Array.replicate ops.size false).getD r.i false then r.ne else none)=[]:=by
   rw[Pj];intro r _;rw[hrep];rfl
  rw[this];exact List.Perm.refl _
 refine Ux ho hs.gen hds h4 ?_ ops.size _ a w.drew ρ s.H (by simp) ?_ ?_ (λj _=>hnL j) hin
 ·intro L a' w' ρ' He hL hall hi
  have hN:He.Perm (N++s.H):=by
   refine hi.perm.trans (List.Perm.append_right _ ?_);have e:rs.filterMap (λr=>if L.getD r.i false then r.ne else none)=rs.filterMap (·.ne):=JC λr hr=>by
    have:=hall r hr;unfold Ls at this;rw[this];rfl
   rw[e,h3]
   have:=IN rs []
   rw[Dd]at this;exact this.symm
  refine h (λj hj=>ho.lt j (by simp[hj])) ρ' a' w' ⟨hi.mem.perm hN,?_,?_,λt=>?_,hi.nt,hi.dfr⟩
  ·intro k g hg
   apply Dt;intro hk;obtain⟨r,hr,_,he⟩:=hi.fresh k g (by simp at hg;omega) hk
   have:=ho.lt r.i (by simp;exact .inl ⟨r,hr,rfl⟩)
   simp at hg;omega
  ·intro e he
   rcases BR.1 he with he|he
   ·rw[h3]at he
    have he:=(IN rs []).mem_iff.1 he;rw[Dd]at he;obtain⟨r,hr,hre⟩:=List.mem_filterMap.1 he;obtain⟨A,B,hAB⟩:=EF hr
    have:=(h4 A r B hAB).2.1 e hre
    have:=ho.lt r.i (by simp;exact .inl ⟨r,hr,rfl⟩)
    show e.g<s.n+ops.size;omega
   ·have:=hs.gen e he
    show e.g<s.n+ops.size;omega
  ·show AG ρ' (AF F.X ρ' (N++s.H)) w' (envF.get t) _
   rw[<-AF.perm hN,h2]
   by_cases hw:∃r∈rs,r.o.dst=some t
   ·obtain⟨r,hr,hrd⟩:=hw
    rw[Kb rs s.env t ho.dst r hr hrd];exact hi.reps r hr (hall r hr) t hrd
   ·rw[IG rs s.env t λr hr hrd=>hw ⟨r,hr,hrd⟩]
    exact hi.old t λr hr _ hrd=>hw ⟨r,hr,hrd⟩
 ·refine Az (List.length_filter_le _ _) ?_
  have hsub:∀(l:List Nat) (n:Nat),l.Nodup->(∀x∈l,x<n)->l.length<=n:=by
   intro l n
   induction n generalizing l with
   |zero=>intro _ h;cases l with
    |nil=>simp
    |cons x l=>exact AW (h x (by simp)) (by omega)
   |succ n ihn=>
    intro hnd hlt;have h1:=ihn (l.erase n) (hnd.erase n) λx hx=>by
     have:=hlt x (List.mem_of_mem_erase hx)
     have:x≠n:=λh=>by subst h;exact(Pk hnd) hx
     omega
    have:=List.length_erase (a:=n) (l:=l)
    split at this<;>omega
  exact hsub _ _ ho.nodup ho.lt
 ·intro k hk
  have:k<ops.size\/¬k<ops.size:=by omega
  rcases this with hlt|hlt
  ·rw[AT,H5,AM hlt]at hk;cases hk
  ·intro h;exact AW h hlt
theorem G2 {R Q:Exit->Act->World->Prop}(hR:∀e a w,R e a w->e=.normal/\Q .normal a w)(hnd:∀(i:Nat) (o:Oper),ops[i]?=some o->∀c,o.op≠.defer c):
  ∀(fuel:Nat) (L:Array Bool) (a:Act) (w:World),wpAny C.P .any ops R fuel L a w->wpAnyIn (fw rd) 0 C.P .any ops Q fuel L a w
 | 0,L,a,w,h=>⟨h.1,(hR _ _ _ h.2).2⟩
 |fuel+1,L,a,w,h=>⟨λh0=>(hR _ _ _ (h.1 h0)).2,λi hi=>by
   have hlet:¬LetsOut R:=λ⟨a,w,h⟩=>by have:=(hR _ _ _ h).1;cases this
   have hq:=h.2 i hi;unfold wpOp at hq;unfold wpOpIn;split
   ·rename_i ho;simp only[ho]at hq;exact G2 hR hnd fuel _ a w hq
   ·rename_i o ho
    simp only[ho]at hq;split
    ·rename_i hw
     rw[AM hw]at hq;rcases hq with hq|⟨_,hq⟩
     ·unfold Oper.wp at hq
      refine⟨λ_ _=>trivial,?_⟩;rw[Oper.semAt_eq _ _ _ (hnd i o ho)]
      revert hq
      generalize(execOp a.eval o).run C.P w=r;intro hq;unfold Oper.upon at hq;unfold Oper.uponIn;split at hq
      ·exact G2 hR hnd fuel _ _ _ hq
      ·exact G2 hR hnd fuel _ _ _ hq
      ·exact G2 hR hnd fuel _ _ _ hq
      ·refine⟨IR,IP.2 (hq.mono ?_)⟩
       intro e w'' h;cases e with
       |returned v=>exact G2 hR hnd fuel _ _ _ h
       |panicked c=>have:=(hR _ _ _ h).1;cases this
       |outgrown=>exact AW h hlet
      ·exact⟨IR,λc cs hr=>by
        obtain⟨v,w',h1,h2⟩:=hq c cs;exact⟨v,w',G2 hR hnd fuel _ _ _ h1,stepsIn_wide.2 h2⟩⟩
      ·have:=(hR _ _ _ hq).1;cases this
      ·exact hq.elim
     ·exact AW hq hlet
    ·rename_i hw
     rw[AN hw]at hq;exact⟨λ_ _=>trivial,G2 hR hnd fuel _ _ _ hq⟩⟩
end
def HH (b:Bool)(y n:Prop):Prop:=match b with
 |true=>y
 |false=>n
theorem Iv {b:Bool}{y n:Prop}(h1:b=true->y)(h2:b=false->n):HH b y n:=by
 cases b
 ·exact h2 rfl
 ·exact h1 rfl
theorem Fz.loose {d d':D}(h:Fz [] [] d d'):∀ {ρ:Lk} {O:Nat->Prop} {w:World} {v:Value},AG ρ O w d v->AG ρ O w d' v:=by
 induction h with
 |refl=>exact λh=>h
 |any=>exact λ_=>.any _
 |nil sz=>intro ρ O w v h;cases h;exact .nil _
 |nn nn sz es=>
  intro ρ O w v h;cases h with
  |nil=>exact .nil _
  |emp a=>exact .emp a
  |sl f hl hc hO hb hz hcell ho h=>exact .sl f hl hc hO hb hz hcell ho h
 |agg hl h ih=>
  intro ρ O w v hr;cases hr with
  |agg hn ho hh=>
   refine .agg (by omega) ho λi d' hd'=>?_
   have hi:=(Ay.1 hd').1;exact ih i _ d' (B3) hd' (hh i _ (B3))
 |tup hl h ih=>
  intro ρ O w v hr;cases hr with
  |tup hn hh=>
   refine .tup (by omega) λi d' hd'=>?_
   have hi:=(Ay.1 hd').1;exact ih i _ d' (B3) hd' (hh i _ (B3))
 |osl he _ _ _ _ _ _ _=>cases he
 |omp he=>cases he
 |oxl _ ih=>exact λhr=>ih hr.wk
 |optr he=>cases he
 | @clo fn a a' c c' ha hc _ _ ih1 ih2=>
  intro ρ O w v hv;cases hv with
  |clo hf1 hc1 r1 r2=>
   refine .clo (by omega) (by omega) (λi d' hd'=>?_) λi d' hd'=>?_
   ·have hi:i<a.length:=by rw[ha];exact(Ay.1 hd').1
    exact ih1 i _ d' (BI hi) hd' (r1 i _ (BI hi))
   ·have hi:i<c.length:=by rw[hc];exact(Ay.1 hd').1
    exact ih2 i _ d' (BI hi) hd' (r2 i _ (BI hi))
section
variable {C:AZ}
inductive CX (C:AZ)(f:Nat)(ds:List D)(k:D->Prop):Prop
 |mk (ds':List D) (d:D) (hv:EL [] [] ds ds') (hc:Aa C f ds' d) (hp:AS ds') (hk:k d)
inductive CE (C:AZ)(f:Nat)(ds:List D)(H:Hp)(n:Nat)(k:D->Hp->Nat->Prop):Prop
 |pure (ds':List D) (d:D) (hv:EL [] [] ds ds') (hc:Aa C f ds' d) (hp:AS ds') (hk:k d H (n+1))
 |prop (ds':List D) (Φ:D->Prop) (hv:EL [] [] ds ds') (hc:Ax C f ds' Φ) (hp:AS ds') (hk:∀d,Φ d->k d H (n+1))
 |own (Φ:D->Hp->Nat->Prop) (hc:Ct C f ds H n Φ) (hk:∀d H' n',Φ d H' n'->k d H' n')
 |lend (Hf:Hp) (ds':List D) (d:D) (hH:Ci H Hf H Hf) (hv:EL H Hf ds ds') (hc:Aa C f ds' d) (hp:AS ds') (hflat:Cw d) (hk:k d H (n+1))
theorem QZ {ds ds':List D}(h:EL [] [] ds ds'){ρ:Lk}{O:Nat->Prop}{w:World}{vs:Array Value}(hr:∀(i:Nat) (d:D),ds[i]?=some d->AG ρ O w d (vs.getD i undef)):
  ∀(i:Nat) (d:D),ds'[i]?=some d->AG ρ O w d (vs.getD i undef):=λi d hd=>by
 obtain⟨l1,l2⟩:=h.spec;have hi:=(Ay.1 hd).1;have h0:ds[i]?=some ds[i]:=B3;exact(l2 i _ d h0 hd).loose (hr i _ h0)
theorem iV {F:AI}{ops:Array Oper}{H:Hp}{g:Nat}{env:Ab}{o:Oper}{f:Nat}{first captured ds ds':List D}{fop:Operand}{args:Array Operand}{tys:Array Nat}{d:D}(hw:Am ops env o=some true)(ho:o.op=.call ⟨.value fop,args,tys⟩)
  (hf:AV env fop=.clo (.func f) first captured) (hds:first++args.toList.map (AV env)++captured=ds) (hv:EL [] [] ds ds') (hc:Aa C f ds' d) (hp:AS ds'):A0 C F ops H g env o d none:=by
 refine⟨by simp,λHe ρ a w m hsub fr hne hr=>.inr ⟨Dx hr hw,.inr ?_⟩⟩;obtain⟨g',h1,h2⟩:=EA hr;have hfop:fop∈o.op.operands:=by rw[ho];simp[Op.operands,Call.operands]
 have harg:∀x∈args.toList,AV env x=g' x:=λx hx=>h1 x (by rw[ho];simp[Op.operands,Call.operands];right;simpa using hx)
 rw[h1 fop hfop]at hf;rw[HO harg]at hds;obtain⟨vs,q1,q2,q3⟩:=IH (g:=g') ho hf hc.1 h2;rw[hds]at q2 q3;have q4:=QZ hv q3;refine⟨f,vs,q1,(hc.2 (AF F.X ρ He) w vs m.g (Az m.gn m.size) (λb hb=>m.own_lt hb) (by rw[q2];exact hv.spec.1) λi d hd=>hp.out d (Bh hd) _ _ _ _ _ (q4 i d hd)).mono ?_⟩;rintro e w' ⟨v,d',rfl,hb,rfl,hrep⟩;have x:Ao ρ (AF F.X ρ He) w ρ (AF F.X ρ He) w':=⟨hb.size,λ_ _ _ h=>h,λb hb' hO=>⟨hO,hb.block b hb'⟩,λb cs T fz hh=>⟨cs,_,by
  rw[hb.block b (Bo.1 hh).1];exact hh,rfl⟩⟩
 exact⟨v,rfl,ρ,m.same x hb.os hb.tape hb.output hb.block,x,λ_ _ _=>rfl,hrep.nol⟩
def KG (X:EV)(g:Operand->D)(op:Op)(acc:Prop)(k:Prop->D->Option AK->Prop):Prop:=match CG X.tt g op with
 |some (d,p)=>k (p/\acc) d none
 |none=>False
def F6 (X:EV)(g:Operand->D)(op:Op)(acc:Prop)(k:Prop->D->Option AK->Prop):Prop:=match Dw X.tt X.xt g op with
 |some (d,p)=>k (p/\acc) d none
 |none=>False
def Mz (X:EV)(g:Operand->D)(op:Op)(acc:Prop)(k:Prop->D->Option AK->Prop):Prop:=match CG X.tt g op with
 |some (d,p)=>k (p/\acc) d none
 |none=>F6 X g op acc k
def My (X:EV)(g:Operand->D)(t:Nat)(x ix:Operand)(acc:Prop)(k:Prop->D->Option AK->Prop):Prop:=match X.tt t with
 |some i=>match i.ti with
  | .slice _ esz _ _=>match g ix with
   | .prim (.int _ j)=>match g x with
    | .sl _ sz es=>acc/\(sz=esz/\0<=j)/\∃d,es[j.toNat]?=some d/\k True (.pptr d) none
    |_=>False
   |_=>False
  |_=>False
 |none=>False
def DR (C:AZ)(X:EV)(kb:Nat)(g:Operand->D)(H:Hp)(n:Nat)(op:Op)(acc:Prop)(k:Prop->D->Option AK->Prop):Prop:=match op with
 | .call ⟨.value fop,args,_⟩=>match g fop with
  | .clo (.func f) first captured=>match X.nat f (first++args.toList.map g++captured)with
   |some d=>k acc d none
   |none=>acc/\CX C f (first++args.toList.map g++captured) λd=>k True d none
  |_=>False
 | .call ⟨.builtin .append,_,_⟩=>match Cf X.tt [] n kb g op with
  |some (d,[e],p)=>k (p/\acc) d (some e)
  |_=>False
 | .load _ _ | .alloc _ | .box _ _ | .buildSlice _ _ _=>match Cg X.tt H n kb g op with
  |some (d,ne,p)=>k (p/\acc) d ne
  |none=>False
 | .indexAddr t x ix=>match CG X.tt g op with
  |some (d,p)=>k (p/\acc) d none
  |none=>My X g t x ix acc k
 | .makeInterface _ _ | .lookup _ _ _ _=>F6 X g op acc k
 | .binOp _ _ _ _ _=>Mz X g op acc k
 |_=>KG X g op acc k
structure Cb (C:AZ)(X:EV):Prop where
 tt:A7 C.P X.tt
 xt:Er C.P X.xt
 mixed:C.P.follows .mixedOrders=true
 mt:∀t name f,X.mt t name=some f->∀v w,(method (C.P.types.size+Made.depth) t v name).run C.P w=.ok (f,v) w
 nat:∀f ds d,X.nat f ds=some d->GX C f ds d
theorem CN.w {X:EV}(h:CN C X):Cb C X:=⟨h.tt,h.xt,h.mixed,h.mt,h.nat⟩
variable {F:AI} {X:EV} {ops:Array Oper}
theorem PE (hX:Cb C X){kb:Nat}{H:Hp}{n:Nat}{env:Ab}{o:Oper}{acc:Prop}{k:Prop->D->Option AK->Prop}(hw:Am ops env o=some true)(hk:∀acc d ne,k acc d ne->acc)
  (h:DR C X kb (AV env) H n o.op acc k):acc/\∃acc' d ne,A0 C F ops H n env o d ne/\k acc' d ne:=by
 have pe:KG X (AV env) o.op acc k->acc/\∃acc' d ne,A0 C F ops H n env o d ne/\k acc' d ne:=λh=>by
  unfold KG at h;split at h
  ·rename_i d p he
   have:=hk _ _ _ h
   exact⟨this.2,_,_,_,A0.p hX.tt hw he this.1,h⟩
  ·exact h.elim
 have qe:F6 X (AV env) o.op acc k->acc/\∃acc' d ne,A0 C F ops H n env o d ne/\k acc' d ne:=λh=>by
  unfold F6 at h;split at h
  ·rename_i d p he
   have:=hk _ _ _ h
   exact⟨this.2,_,_,_,A0.q hX.tt hX.xt hw he this.1,h⟩
  ·exact h.elim
 have le:(match Cg X.tt H n kb (AV env) o.op with
   |some (d,ne,p)=>k (p/\acc) d ne
   |none=>False)->acc/\∃acc' d ne,A0 C F ops H n env o d ne/\k acc' d ne:=λh=>by
  split at h
  ·rename_i d ne p he
   have:=hk _ _ _ h
   exact⟨this.2,_,_,_,A0.l' kb hX.tt hw he this.1,h⟩
  ·exact h.elim
 unfold DR at h;split at h
 ·rename_i fop args tys ho
  split at h
  ·rename_i f first captured hf
   split at h
   ·rename_i d hn
    exact⟨hk _ _ _ h,_,_,_,A0.nat hw ho hf rfl (hX.nat _ _ _ hn),h⟩
   ·obtain⟨h1,⟨ds',d,hv,hc,hp,h2⟩⟩:=h
    exact⟨h1,_,_,_,iV hw ho hf rfl hv hc hp,h2⟩
  ·exact h.elim
 ·split at h
  ·rename_i d e p he
   have:=hk _ _ _ h
   exact⟨this.2,_,_,_,UM kb hX.tt hw he this.1,h⟩
  ·exact h.elim
 ·exact le h
 ·exact le h
 ·exact le h
 ·exact le h
 ·rename_i t x ix ho
  split at h
  ·rename_i d p he
   have:=hk _ _ _ h
   exact⟨this.2,_,_,_,A0.p hX.tt hw he this.1,h⟩
  ·unfold My at h
   split at h<;>first|exact h.elim|skip
   rename_i i h1;split at h<;>first|exact h.elim|skip
   rename_i e esz eby ez h2;split at h<;>first|exact h.elim|skip
   rename_i kk j h3;split at h<;>first|exact h.elim|skip
   rename_i nn sz es h4;obtain⟨ha,⟨rfl,hj⟩,d,hd,hk'⟩:=h;exact⟨ha,_,_,_,A0.idx hX.tt hw ho h1 h2 h3 h4 hj hd,hk'⟩
 ·exact qe h
 ·exact qe h
 ·unfold Mz at h
  split at h
  ·rename_i d p he
   have:=hk _ _ _ h
   exact⟨this.2,_,_,_,A0.p hX.tt hw he this.1,h⟩
  ·exact qe h
 ·exact pe h
def CS:List Oper->Nat->Option Oper
 | [],_=>none
 |o::_,0=>some o
 |_::l,i+1=>CS l i
theorem SB:∀(l:List Oper) (i:Nat),CS l i=l[i]?
 | [],_=>by simp[CS]
 |o::l,0=>by simp[CS]
 |o::l,i+1=>by simp[CS,SB l i]
def Bc:List Oper->Nat
 | []=>0
 |_::l=>Bc l+1
theorem Kq:∀l:List Oper,Bc l=l.length
 | []=>rfl
 |_::l=>by simp[Bc,Kq l]
theorem IT {i:Nat}{o:Oper}(h:CS ops.toList i=some o):ops[i]?=some o:=by
 rw[SB]at h;simpa using h
def C2 (C:AZ)(X:EV)(kb:Nat)(ops:Array Oper)(H:Hp)(n:Nat):List Nat->Ab->Hp->Prop->(Prop->Ab->Hp->Prop)->Prop
 | [],env,N,acc,K=>K acc env N
 |i::l,env,N,acc,K=>match CS ops.toList i with
  |some o=>match o.guard with
   |none=>DR C X (kb+i) (AV env) H (n+i) o.op acc λacc d ne=>C2 C X kb ops H n l (Ak env o.dst d) (Bk ne N) acc K
   |some _=>match Am ops env o with
    |some b=>acc/\HH b (DR C X (kb+i) (AV env) H (n+i) o.op True λacc d ne=>C2 C X kb ops H n l (Ak env o.dst d) (Bk ne N) acc K)
      (C2 C X kb ops H n l (Ak env o.dst (.prim (.tuple #[]))) N True K)
    |none=>False
  |none=>False
theorem IK {kb:Nat}{H:Hp}{n:Nat}(hX:Cb C X){K:Prop->Ab->Hp->Prop}(hK:∀acc env N,K acc env N->acc):∀ {l:List Nat} {env:Ab} {N:Hp} {acc:Prop},C2 C X kb ops H n l env N acc K ->
  acc/\∃acc' env' N',Eg C F ops H n l env N env' N'/\K acc' env' N'
 | [],env,N,acc,h=>⟨hK _ _ _ h,_,_,_,.nil _ _,h⟩
 |i::l,env,N,acc,h=>by
  simp only[C2]at h;split at h<;>first|exact h.elim|skip
  rename_i o ho;have ho:=IT ho;have step:∀acc,Am ops env o=some true->(DR C X (kb+i) (AV env) H (n+i) o.op acc λacc d ne=>C2 C X kb ops H n l (Ak env o.dst d) (Bk ne N) acc K)->acc/\∃acc' env' N',Eg C F ops H n (i::l) env N env' N'/\K acc' env' N':=λacc hw h=>by
   obtain⟨h1,acc1,d,ne,h2,h3⟩:=PE (F:=F) hX hw (λacc d ne h=>(IK hX hK h).1) h;obtain⟨_,acc2,env2,N2,h4,h5⟩:=IK hX hK h3;exact⟨h1,_,_,_,.cons ho h2 h4,h5⟩
  split at h
  ·rename_i hg
   exact step _ (by unfold Am;rw[hg]) h
  ·split at h<;>first|exact h.elim|skip
   rename_i b hb;obtain⟨h0,h⟩:=h;cases b with
   |true=>
    obtain⟨_,h1⟩:=step _ hb h;exact⟨h0,h1⟩
   |false=>
    obtain⟨_,acc2,env2,N2,h4,h5⟩:=IK hX hK h;exact⟨h0,_,_,_,.cons ho (A0.skip hb) h4,h5⟩
theorem CE.ok {F:AI}{ops:Array Oper}{s:St}{o:Oper}{os:List Oper}{K:St->Prop}{f:Nat}{ds:List D}{k:D->Hp->Nat->Prop}(hw:Am ops s.env o=some true)
  (hrun:GY C.P f->∀(ρ:Lk) (a:Act) (w:World),Aw C F ρ s a w->∃vs,(execOp a.eval o).run C.P w=.ok (.enter f vs) w/\vs.size=ds.length/\∀(i:Nat) (d:D),ds[i]?=some d->AG ρ (AF F.X ρ s.H) w d (vs.getD i undef))
  (h:CE C f ds s.H s.n k) (hk:∀d H n,k d H n->AR C F ops os ⟨Ak s.env o.dst d,H,n⟩ K):AR C F ops (o::os) s K:=by
 have prop:∀(ds':List D) (Φ:D->Prop),EL [] [] ds ds'->Ax C f ds' Φ->AS ds'->(∀d,Φ d->k d s.H (s.n+1))->AR C F ops (o::os) s K:=λds' Φ hv hc hp hk'=>by
  refine Ph (f:=f) hw (λρ a w hs=>?_) λd hd=>hk _ _ _ (hk' d hd)
  obtain⟨vs,h1,h2,h3⟩:=hrun hc.1 ρ a w hs;have q4:=QZ hv h3;refine⟨vs,h1,(hc.2 (AF F.X ρ s.H) w vs hs.mem.g (Az hs.mem.gn hs.mem.size) (λb hb=>hs.mem.own_lt hb) (by rw[h2];exact hv.spec.1) λi d hd=>hp.out d (Bh hd) _ _ _ _ _ (q4 i d hd)).mono ?_⟩;rintro e w' ⟨v,d,a1,a2,a3,a4⟩;exact⟨v,d,a1,a2,a3,a4.nol⟩
 cases h with
 |pure ds' d hv hc hp hk'=>exact prop ds' _ hv hc hp λd' hd=>by subst hd;exact hk'
 |prop ds' Φ hv hc hp hk'=>exact prop ds' Φ hv hc hp hk'
 |own Φ hc hk'=>
  intro hd l hl ρ a w hs;cases l with
  |nil=>simp at hl
  |cons i l=>
   simp only[BY,CZ]at hl;simp only[Db,Ag]at hd;obtain⟨vs,h1,h2,h3⟩:=hrun hc.1 ρ a w hs;simp only[wpOps,hl.1];rw[AM (FK hs.env hw)];refine .inl ?_;unfold Oper.wp;rw[h1];refine(hc.2 F ρ w vs hs.mem hs.fresh hs.gen h2 h3).mono ?_;rintro e w' ⟨v,d,H',n',ρ',rfl,hΦ,m,x,fr,g,r⟩;exact hk d H' n' (hk' d H' n' hΦ) hd.2 l hl.2 ρ' (a.put o.dst v) w' (hs.put m x fr g r hd.1)
 |lend Hf ds' d hH hv hc hp hflat hk'=>
  refine Ph (f:=f) (Φ:=λd'=>d'=d) hw (λρ a w hs=>?_) λd' hd=>by subst hd;exact hk _ _ _ hk'
  obtain⟨vs,h1,h2,h3⟩:=hrun hc.1 ρ a w hs;obtain⟨m,hO,hN⟩:=hH.mem hs.mem;obtain⟨l1,l2⟩:=hv.spec;refine⟨vs,h1,(hc.2 (AF F.X ρ Hf) w vs hs.mem.g (Az hs.mem.gn hs.mem.size) (λb hb=>m.own_lt hb) (by omega) λi d hd=>?_).mono ?_⟩
  ·have hi:i<ds'.length:=(Ay.1 hd).1
   have hd0:ds[i]?=some ds[i]:=B3;exact hp.out d (Bh hd) _ _ _ _ _ ((l2 i _ d hd0 hd).rep hs.mem hO hN (h3 i _ hd0))
  ·rintro e w' ⟨v,d',a1,a2,a3,a4⟩
   subst a3;exact⟨v,d',a1,a2,rfl,hflat _ _ _ _ _ _ _ a4⟩
def Ef (C:AZ)(X:EV)(kb:Nat)(g:Operand->D)(H:Hp)(n:Nat)(op:Op)(acc:Prop)(k:Prop->D->Hp->Nat->Prop):Prop:=match op with
 | .call ⟨.value fop,args,_⟩=>match g fop with
  | .clo (.func f) first captured=>match X.nat f (first++args.toList.map g++captured)with
   |some d=>k acc d H (n+1)
   |none=>acc/\CE C f (first++args.toList.map g++captured) H n λd H' n'=>k True d H' n'
  |_=>False
 | .call ⟨.invoke r name,args,_⟩=>match g r with
  | .ifc t d0=>match X.mt t name with
   |some f=>acc/\CE C f (d0::args.toList.map g) H n λd H' n'=>k True d H' n'
   |none=>False
  |_=>False
 | .call ⟨.builtin .append,_,_⟩=>match Cf X.tt H n kb g op with
  |some (d,H',p)=>k (p/\acc) d H' (n+1)
  |none=>match Jn X.tt H n kb g op with
   |some (d,H',p)=>k (p/\acc) d H' (n+1)
   |none=>False
 | .makeSlice _ _ _=>match EJ X.tt n kb g op with
  |some (d,e,p)=>k (p/\acc) d (e::H) (n+1)
  |none=>False
 | .store _ _ _=>match DH X.tt H g op with
  |some (j,e,p)=>k (p/\acc) (.prim (.tuple #[])) (Hp.set H j e) (n+1)
  |none=>False
 | .load _ _ | .alloc _ | .box _ _ | .buildSlice _ _ _=>match Cg X.tt H n kb g op with
  |some (d,ne,p)=>k (p/\acc) d (Bk ne H) (n+1)
  |none=>False
 | .indexAddr t x ix=>match CG X.tt g op with
  |some (d,p)=>k (p/\acc) d H (n+1)
  |none=>My X g t x ix acc λacc d _=>k acc d H (n+1)
 | .makeInterface _ _ | .lookup _ _ _ _=>F6 X g op acc λacc d _=>k acc d H (n+1)
 | .binOp _ _ _ _ _=>Mz X g op acc λacc d _=>k acc d H (n+1)
 |_=>KG X g op acc λacc d _=>k acc d H (n+1)
theorem SZ (hX:Cb C X){kb:Nat}{s:St}{o:Oper}{os:List Oper}{acc:Prop}{k:Prop->D->Hp->Nat->Prop}{K:St->Prop}(hw:Am ops s.env o=some true)(hk:∀acc d H n,k acc d H n->acc/\AR C F ops os ⟨Ak s.env o.dst d,H,n⟩ K)
  (h:Ef C X kb (AV s.env) s.H s.n o.op acc k):acc/\AR C F ops (o::os) s K:=by
 have pe:KG X (AV s.env) o.op acc (λacc d _=>k acc d s.H (s.n+1))->acc/\AR C F ops (o::os) s K:=λh=>by
  unfold KG at h;split at h
  ·rename_i d p he
   obtain⟨⟨hp,ha⟩,h2⟩:=hk _ _ _ _ h;exact⟨ha,AR.p hX.tt hw he hp h2⟩
  ·exact h.elim
 have qe:F6 X (AV s.env) o.op acc (λacc d _=>k acc d s.H (s.n+1))->acc/\AR C F ops (o::os) s K:=λh=>by
  unfold F6 at h;split at h
  ·rename_i d p he
   obtain⟨⟨hp,ha⟩,h2⟩:=hk _ _ _ _ h;exact⟨ha,AR.q hX.tt hX.xt hw he hp h2⟩
  ·exact h.elim
 have le:(match Cg X.tt s.H s.n kb (AV s.env) o.op with
   |some (d,ne,p)=>k (p/\acc) d (Bk ne s.H) (s.n+1)
   |none=>False)->acc/\AR C F ops (o::os) s K:=λh=>by
  split at h
  ·rename_i d ne p he
   obtain⟨⟨hp,ha⟩,h2⟩:=hk _ _ _ _ h;exact⟨ha,AR.l' kb hX.tt hw he hp h2⟩
  ·exact h.elim
 unfold Ef at h;split at h
 ·rename_i fop args tys ho
  split at h
  ·rename_i f first captured hf
   split at h
   ·rename_i d hn
    obtain⟨ha,h2⟩:=hk _ _ _ _ h;exact⟨ha,AR.nat hw ho hf rfl (hX.nat _ _ _ hn) h2⟩
   ·obtain⟨h1,h⟩:=h
    refine⟨h1,?_⟩;exact CE.ok hw (λhc ρ a w hs=>P7 ho hf hc hs) h λd H n hk'=>(hk _ _ _ _ hk').2
  ·exact h.elim
 ·rename_i r name args tys ho
  split at h<;>first|exact h.elim|skip
  rename_i t d0 hr;split at h<;>first|exact h.elim|skip
  rename_i f hf;obtain⟨h1,h⟩:=h;refine⟨h1,?_⟩;exact CE.ok hw (λhc ρ a w hs=>QH ho hr (hX.mt _ _ _ hf) hc hs) h λd H n hk'=>(hk _ _ _ _ hk').2
 ·split at h
  ·rename_i d H' p he
   obtain⟨⟨hp,ha⟩,h2⟩:=hk _ _ _ _ h;exact⟨ha,UJ kb hX.tt hw he hp h2⟩
  ·split at h<;>first|exact h.elim|skip
   rename_i d H' p he;obtain⟨⟨hp,ha⟩,h2⟩:=hk _ _ _ _ h;exact⟨ha,iK kb hX.tt hw he hp h2⟩
 ·split at h<;>first|exact h.elim|skip
  rename_i d e p he;obtain⟨⟨hp,ha⟩,h2⟩:=hk _ _ _ _ h;exact⟨ha,UC kb hX.tt hw he hp h2⟩
 ·split at h<;>first|exact h.elim|skip
  rename_i j e p he;obtain⟨⟨hp,ha⟩,h2⟩:=hk _ _ _ _ h;exact⟨ha,AR.store hX.tt hw he hp h2⟩
 ·exact le h
 ·exact le h
 ·exact le h
 ·exact le h
 ·rename_i t x ix ho
  split at h
  ·rename_i d p he
   obtain⟨⟨hp,ha⟩,h2⟩:=hk _ _ _ _ h;exact⟨ha,AR.p hX.tt hw he hp h2⟩
  ·unfold My at h
   split at h<;>first|exact h.elim|skip
   rename_i i h1;split at h<;>first|exact h.elim|skip
   rename_i e esz eby ez h2;split at h<;>first|exact h.elim|skip
   rename_i kk j h3;split at h<;>first|exact h.elim|skip
   rename_i nn sz es h4;obtain⟨ha,⟨rfl,hj⟩,d,hd,hk'⟩:=h;exact⟨ha,AR.idx hX.tt hw ho h1 h2 h3 h4 hj hd (hk _ _ _ _ hk').2⟩
 ·exact qe h
 ·exact qe h
 ·unfold Mz at h
  split at h
  ·rename_i d p he
   obtain⟨⟨hp,ha⟩,h2⟩:=hk _ _ _ _ h;exact⟨ha,AR.p hX.tt hw he hp h2⟩
  ·exact qe h
 ·exact pe h
def CJ (C:AZ)(X:EV)(kb:Nat)(ops:Array Oper):List Nat->St->Prop->(Prop->St->Prop)->Prop
 | [],s,acc,K=>K acc s
 |i::l,s,acc,K=>match CS ops.toList i with
  |some o=>match o.guard with
   |none=>Ef C X (kb+i) (AV s.env) s.H s.n o.op acc λacc d H n=>CJ C X kb ops l ⟨Ak s.env o.dst d,H,n⟩ acc K
   |some _=>match Am ops s.env o with
    |some b=>acc/\HH b (Ef C X (kb+i) (AV s.env) s.H s.n o.op True λacc d H n=>CJ C X kb ops l ⟨Ak s.env o.dst d,H,n⟩ acc K)
      (CJ C X kb ops l ⟨Ak s.env o.dst (.prim (.tuple #[])),s.H,s.n+1⟩ True K)
    |none=>False
  |none=>False
theorem R3 {i:Nat}{o:Oper}(h:CS ops.toList i=some o):ops.getD i default=o:=by
 have:=IT h
 simp[AT,this]
theorem Em {kb:Nat}(hX:Cb C X){K:Prop->St->Prop}{K':St->Prop}(hK:∀acc s,K acc s->acc/\K' s):∀ {l:List Nat} {s:St} {acc:Prop},CJ C X kb ops l s acc K ->
  acc/\AR C F ops (l.map λj=>ops.getD j default) s K'
 | [],s,acc,h=>⟨(hK _ _ h).1,AR.nil (hK _ _ h).2⟩
 |i::l,s,acc,h=>by
  simp only[CJ]at h;split at h<;>first|exact h.elim|skip
  rename_i o ho;rw[BY,R3 ho];split at h
  ·rename_i hg
   exact SZ hX (by unfold Am;rw[hg]) (λacc d H n h=>Em hX hK h) h
  ·split at h<;>first|exact h.elim|skip
   rename_i b hb;obtain⟨h0,h⟩:=h;cases b with
   |true=>exact⟨h0,(SZ hX hb (λacc d H n h=>Em hX hK h) h).2⟩
   |false=>exact⟨h0,AR.skip hb (Em hX hK h).2⟩
def Hw (X:EV)(kb:Nat)(e:AK)(n:Nat)(g:Operand->D)(op:Op)(acc:Prop)(k:Prop->D->AK->Prop):Prop:=match op with
 | .store _ _ _=>match DH X.tt [e] g op with
  |some (_,e',p)=>k (p/\acc) (.prim (.tuple #[])) e'
  |none=>False
 |_=>match Cf X.tt [e] n kb g op with
  |some (d,[e'],p)=>k (p/\acc) d e'
  |_=>False
def C8 (C:AZ)(X:EV)(kb:Nat)(ops:Array Oper)(iw:Nat)(ia:Option Nat)(R:Hp)(clo:List Nat)(n:Nat):List Nat->Ab->Hp->Option AK->Option AK->Prop->(Prop->Ab->Hp->AK->AK->Prop)->Prop
 | [],env,N,some e,some e',acc,K=>K acc env N e e'
 | [],_,_,_,_,_,_=>False
 |i::l,env,N,accE,acc',acc,K=>match CS ops.toList i with
  |some o=>match Nat.beq i iw with
   |true=>match acc' with
    |some _=>False
    |none=>match accE with
     |some e=>match o.guard with
      |none=>Hw X (kb+i) e (n+i) (AV env) o.op acc λacc d e'=>C8 C X kb ops iw ia R clo n l (Ak env o.dst d) N accE (some e') acc K
      |some _=>False
     |none=>False
   |false=>match GK ia i with
    |true=>match accE with
     |some _=>False
     |none=>match o.guard with
      |none=>DR C X (kb+i) (AV env) R (n+i) o.op acc λacc d ne=>match ne with
       |some e=>C8 C X kb ops iw ia R clo n l (Ak env o.dst d) N (some e) acc' acc K
       |none=>False
      |some _=>False
    |false=>match o.guard with
     |none=>DR C X (kb+i) (AV env) (Fo ia accE R (BT i clo)) (n+i) o.op acc λacc d ne=>C8 C X kb ops iw ia R clo n l (Ak env o.dst d) (Bk ne N) accE acc' acc K
     |some _=>match Am ops env o with
      |some b=>acc/\HH b (DR C X (kb+i) (AV env) (Fo ia accE R (BT i clo)) (n+i) o.op True λacc d ne=>C8 C X kb ops iw ia R clo n l (Ak env o.dst d) (Bk ne N) accE acc' acc K)
        (C8 C X kb ops iw ia R clo n l (Ak env o.dst (.prim (.tuple #[]))) N accE acc' True K)
      |none=>False
  |none=>False
theorem Xa (hX:Cb C X){kb iw:Nat}{ia:Option Nat}{R:Hp}{e:AK}{n:Nat}{env:Ab}{o:Oper}{acc:Prop}{k:Prop->D->AK->Prop}(hw:Am ops env o=some true)(hk:∀acc d e',k acc d e'->acc)(h:Hw X kb e n (AV env) o.op acc k):
  acc/\∃acc' d e',GA C F ops ⟨iw,ia,e,e',R⟩ n env o d/\k acc' d e':=by
 unfold Hw at h;split at h
 ·split at h<;>first|exact h.elim|skip
  rename_i e' p he
  have:=hk _ _ _ h
  exact⟨this.2,_,_,_,GA.store (W:=⟨iw,ia,e,e',R⟩) hX.tt hw he this.1,h⟩
 ·split at h<;>first|exact h.elim|skip
  rename_i d e' p he
  have:=hk _ _ _ h
  exact⟨this.2,_,_,_,GA.app (W:=⟨iw,ia,e,e',R⟩) kb hX.tt hw he this.1,h⟩
theorem HT (hX:Cb C X){kb iw:Nat}{ia:Option Nat}{R:Hp}{clo:List Nat}{n:Nat}(hwa:ia≠some iw)(hclo:∀j∈clo,Cd ops iw j){K:Prop->Ab->Hp->AK->AK->Prop}(hK:∀acc env N e e',K acc env N e e'->acc):
  ∀ {l:List Nat} {env:Ab} {N:Hp} {accE acc':Option AK} {acc:Prop},C8 C X kb ops iw ia R clo n l env N accE acc' acc K ->
  acc/\∃q env' N' e e',(∀a,accE=some a->e=a)/\(∀a,acc'=some a->e'=a)/\GJ C F ops ⟨iw,ia,e,e',R⟩ n l env N env' N'/\K q env' N' e e'
 | [],env,N,accE,acc',acc,h=>by
  cases accE with
  |none=>simp only[C8]at h
  |some e=>cases acc' with
   |none=>simp only[C8]at h
   |some e'=>
    simp only[C8]at h;exact⟨hK _ _ _ _ _ h,_,_,_,e,e',λa ha=>by cases ha;rfl,λa ha=>by cases ha;rfl,.nil _ _,h⟩
 |i::l,env,N,accE,acc',acc,h=>by
  simp only[C8]at h;split at h<;>first|exact h.elim|skip
  rename_i o ho;have ho:=IT ho;split at h
  ·rename_i hb
   have hb:=Ae hb;split at h<;>first|exact h.elim|skip
   split at h<;>first|exact h.elim|skip
   rename_i e0;split at h<;>first|exact h.elim|skip
   rename_i hg;have hw:Am ops env o=some true:=by unfold Am;rw[hg]
   obtain⟨h1,acc1,d,e1,h2,h3⟩:=Xa (F:=F) (iw:=iw) (ia:=ia) (R:=R) hX hw (λacc d e' h=>(HT hX hwa hclo hK h).1) h;obtain⟨_,q,env',N',e,e',h4,h5,h6,h7⟩:=HT hX hwa hclo hK h3
   have:=h4 _ rfl
   subst this
   have:=h5 _ rfl
   subst this;exact⟨h1,q,env',N',_,_,h4,by simp,.cons (ne:=none) ho (.inr (.inl ⟨hb,by rw[hb];exact hwa,rfl,h2⟩)) h6,h7⟩
  ·rename_i hb
   have hne:i≠iw:=λhi=>by rw[hi,Fx]at hb;cases hb
   split at h
   ·rename_i hi
    have hi:=MC.1 hi;split at h<;>first|exact h.elim|skip
    split at h<;>first|exact h.elim|skip
    rename_i hg;have hw:Am ops env o=some true:=by unfold Am;rw[hg]
    obtain⟨h1,acc1,d,ne,h2,h3⟩:=PE (F:=F) hX hw (λacc d ne h=>by
     split at h
     ·exact(HT hX hwa hclo hK h).1
     ·exact h.elim) h
    split at h3<;>first|exact h3.elim|skip
    rename_i e0;obtain⟨_,q,env',N',e,e',h4,h5,h6,h7⟩:=HT hX hwa hclo hK h3
    have:=h4 _ rfl
    subst this;exact⟨h1,q,env',N',_,_,by simp,h5,.cons (ne:=none) ho (.inr (.inr ⟨hne,hi,rfl,h2⟩)) h6,h7⟩
   ·rename_i hi
    have hi:ia≠some i:=λh=>by rw[MC.2 h]at hi;cases hi
    have st:∀ {e:AK} {d:D} {ne:Option AK} (e':AK),(∀a,accE=some a->e=a)->A0 C F ops (Fo ia accE R (BT i clo)) (n+i) env o d ne->Jk C F ops ⟨iw,ia,e,e',R⟩ (n+i) env ⟨i,o,d,ne⟩:=λ{e d ne} e' hacc hst=>by
     refine .inl ⟨hne,hi,?_⟩;unfold Fo at hst;cases ia with
     |some ia=>exact .inr hst
     |none=>
      cases accE with
      |none=>exact .inr hst
      |some a=>
       have:=hacc a rfl
       subst this;dsimp only at hst;cases hm:BT i clo with
       |true=>rw[hm]at hst;exact .inl ⟨rfl,hclo i (DU.1 hm),hst⟩
       |false=>rw[hm]at hst;exact .inr hst
    have step:∀acc,Am ops env o=some true->(DR C X (kb+i) (AV env) (Fo ia accE R (BT i clo)) (n+i) o.op acc λacc d ne=>C8 C X kb ops iw ia R clo n l (Ak env o.dst d) (Bk ne N) accE acc' acc K) ->
      acc/\∃q env' N' e e',(∀a,accE=some a->e=a)/\(∀a,acc'=some a->e'=a)/\GJ C F ops ⟨iw,ia,e,e',R⟩ n (i::l) env N env' N'/\K q env' N' e e':=λacc hw h=>by
     obtain⟨h1,acc1,d,ne,h2,h3⟩:=PE (F:=F) hX hw (λacc d ne h=>(HT hX hwa hclo hK h).1) h;obtain⟨_,q,env',N',e,e',h4,h5,h6,h7⟩:=HT hX hwa hclo hK h3;exact⟨h1,q,env',N',e,e',h4,h5,.cons ho (st e' h4 h2) h6,h7⟩
    split at h
    ·rename_i hg
     exact step _ (by unfold Am;rw[hg]) h
    ·split at h<;>first|exact h.elim|skip
     rename_i b hb;obtain⟨h0,h⟩:=h;cases b with
     |true=>exact⟨h0,(step _ hb h).2⟩
     |false=>
      obtain⟨_,q,env',N',e,e',h4,h5,h6,h7⟩:=HT hX hwa hclo hK h;exact⟨h0,q,env',N',e,e',h4,h5,.cons (ne:=none) ho (st e' h4 (A0.skip hb)) h6,h7⟩
structure Bp (C:AZ)(F F':AI):Prop where
 nt:F'.nt=F.nt
 sz:F.w0.heap.size<=F'.w0.heap.size
 mem:∀ {ρ:Lk} {H:Hp} {w:World},AQ C F' ρ H w->AQ C F ρ H w
 X:∀b,F.X b->F'.X b
 df:∃ms:List Deferred,F'.df=ms++F.df/\(∃rs:List Nat,ms=rs.map (λr=>{ target:=.collected r,args:=#[] })/\rs.Nodup /\
  ∀r∈rs,F.w0.heap.size<=r/\r<F'.w0.heap.size/\F'.X r/\∀(ρ:Lk) (H:Hp) (w:World),AQ C F' ρ H w->w.heap[r]?=some (.deferred (some [])))
theorem Bp.refl (F:AI):Bp C F F:=⟨rfl,Ad _,λh=>h,λ_ h=>h,[],rfl,[],rfl,.nil,by simp⟩
theorem Bp.trans {F F' F'':AI}(h:Bp C F F')(k:Bp C F' F''):Bp C F F'':=by
 obtain⟨h1,h2,h3,h4,ms,e1,rs,e2,n1,q1⟩:=h;obtain⟨k1,k2,k3,k4,ms',e1',rs',e2',n1',q1'⟩:=k;refine⟨k1.trans h1,Az h2 k2,λh=>h3 (k3 h),λb hb=>k4 b (h4 b hb),ms'++ms,by rw[e1',e1,Cr],rs'++rs,by rw[e2,e2',EH],?_,?_⟩
 ·refine De.2 ⟨n1',n1,λx hx y hy he=>?_⟩
  have:=(q1' x hx).1
  have:=(q1 y hy).2.1
  omega
 ·intro r hr
  rcases BR.1 hr with hr|hr
  ·obtain⟨x1,x2,x3,x4⟩:=q1' r hr
   exact⟨by omega,x2,x3,x4⟩
  ·obtain⟨x1,x2,x3,x4⟩:=q1 r hr
   exact⟨x1,by omega,k4 _ x3,λρ H w m=>x4 ρ H w (k3 m)⟩
def DA (C:AZ)(F:AI)(Q:Exit->AI->St->Prop):Exit->Act->World->Prop:=λe a w=>∃F' s' ρ',Bp C F F'/\Q e F' s'/\Aw C F' ρ' s' a w
theorem DA.up {F F':AI}{Q:Exit->AI->St->Prop}(h:Bp C F F'){e:Exit}{a:Act}{w:World}:DA C F' Q e a w->DA C F Q e a w:=λ⟨F2,s',ρ',h1,h2,h3⟩=>⟨F2,s',ρ',h.trans h1,h2,h3⟩
structure AO (C:AZ)(B:AI)(rd:Option Nat)(F:AI)(c:Code)(s:St)(Q:Exit->AI->St->Prop):Prop where
 out:Bp C B F->B6 B.nt c=true->∀(ρ:Lk) (a:Act) (w:World),Aw C F ρ s a w->c.wpIn (fw rd) 0 C.P (DA C B Q) a w
variable {s:St} {rd:Option Nat} {B:AI} {Q:Exit->AI->St->Prop}
theorem AO.mono {c:Code}{Q':Exit->AI->St->Prop}(h:AO C B rd F c s Q)(hq:∀e F s,Q e F s->Q' e F s):AO C B rd F c s Q':=
 ⟨λhB hd ρ a w hs=>wpIn_mono (h.out hB hd ρ a w hs) λe a w ⟨F',s',ρ',h1,h2,h3⟩=>⟨F',s',ρ',h1,hq _ _ _ h2,h3⟩⟩
theorem AO.skip (h:Q .normal F s):AO C B rd F .skip s Q:=⟨λhB _ ρ _ _ hs=>wpIn_skip ⟨F,s,ρ,hB,h,hs⟩⟩
theorem AO.ret (h:Q .ret F s):AO C B rd F .ret s Q:=⟨λhB _ ρ _ _ hs=>wpIn_ret ⟨F,s,ρ,hB,h,hs⟩⟩
theorem AO.exit {i:Nat}(h:Q (.exit i) F s):AO C B rd F (.exit i) s Q:=⟨λhB _ ρ _ _ hs=>wpIn_exit ⟨F,s,ρ,hB,h,hs⟩⟩
def G9 (n:Prop)(r:Exit->Prop)(e:Exit):Prop:=match e with
 | .normal=>n
 | .ret=>r .ret
 | .exit j=>r (.exit j)
 | .goto l=>r (.goto l)
 | .panic c=>r (.panic c)
 | .outgrown=>r .outgrown
theorem Un {nt:Nat}{a b:Code}(h:B6 nt (.seq a b)=true):B6 nt a=true/\B6 nt b=true:=by simpa[B6]using h
theorem AO.seq {a b:Code}(h:AO C B rd F a s (λe F s=>G9 (AO C B rd F b s Q) (λe=>Q e F s) e)):AO C B rd F (.seq a b) s Q:=
 ⟨λhB hd ρ x w hs=>by
  obtain⟨d1,d2⟩:=Un hd;refine wpIn_seq (wpIn_mono (h.out hB d1 ρ x w hs) ?_);rintro e a' w' ⟨F',s',ρ',h1,h2,h3⟩;cases e with
  |normal=>exact(show AO C B rd F' b s' Q from h2).out h1 d2 ρ' a' w' h3
  |ret=>exact⟨F',s',ρ',h1,h2,h3⟩
  |exit j=>exact⟨F',s',ρ',h1,h2,h3⟩
  |goto l=>exact⟨F',s',ρ',h1,h2,h3⟩
  |panic c=>exact⟨F',s',ρ',h1,h2,h3⟩
  |outgrown=>exact⟨F',s',ρ',h1,h2,h3⟩⟩
def Ha (d:D)(y n:Prop):Prop:=match d with
 | .prim (.bool b)=>HH b y n
 |_=>False
theorem AO.cond {c:Operand}{a b:Code}(h:Ha (AV s.env c) (AO C B rd F a s Q) (AO C B rd F b s Q)):AO C B rd F (.cond c a b) s Q:=by
 unfold Ha at h;split at h
 ·rename_i t ht
  refine⟨λhB hd ρ x w hs=>?_⟩;simp only[B6,Ag]at hd;have hc:x.eval c=.bool t:=by
   have:=BN hs.env c
   rw[ht]at this;generalize x.eval c=v at this;cases this;rfl
  refine wpIn_cond_split hc (λht=>?_) λht=>?_
  ·subst ht;exact AO.out h hB hd.1 ρ x w hs
  ·subst ht;exact AO.out h hB hd.2 ρ x w hs
 ·exact h.elim
def Hd (i:Nat)(n:Prop)(r:Exit->Prop)(e:Exit):Prop:=match e with
 | .exit j=>bif Nat.beq j i then n else r (.exit j)
 | .normal=>r .normal
 | .ret=>r .ret
 | .goto l=>r (.goto l)
 | .panic c=>r (.panic c)
 | .outgrown=>r .outgrown
theorem AO.block {i:Nat}{b:Code}(h:AO C B rd F b s (λe F s=>Hd i (Q .normal F s) (λe=>Q e F s) e)):AO C B rd F (.block i b) s Q:=
 ⟨λhB hd ρ x w hs=>by
  refine wpIn_block (wpIn_mono (h.out hB (by simpa[B6]using hd) ρ x w hs) ?_);rintro e a' w' ⟨F',s',ρ',h1,h2,h3⟩;cases e with
  |normal=>exact⟨F',s',ρ',h1,h2,h3⟩
  |ret=>exact⟨F',s',ρ',h1,h2,h3⟩
  |exit j=>
   simp only[Hd]at h2;simp only[Exit.inBlock];cases hb:Nat.beq j i with
   |true=>rw[hb]at h2;rw[AM (Ae hb)];exact⟨F',s',ρ',h1,h2,h3⟩
   |false=>rw[hb]at h2;rw[AN (λhj=>by rw[hj,Fx]at hb;cases hb)];exact⟨F',s',ρ',h1,h2,h3⟩
  |goto l=>exact⟨F',s',ρ',h1,h2,h3⟩
  |panic c=>exact⟨F',s',ρ',h1,h2,h3⟩
  |outgrown=>exact⟨F',s',ρ',h1,h2,h3⟩⟩
def Oh:Op->Bool
 | .defer _=>true
 |_=>false
def DM:List Oper->Bool
 | []=>true
 |o::l=>match Oh o.op with
  |true=>false
  |false=>DM l
theorem W1 {l:List Oper}(h:DM l=true):∀o∈l,∀c,o.op≠.defer c:=by
 induction l with
 |nil=>intro o ho;cases ho
 |cons o l ih=>
  intro o' ho c hc;have h1:Oh o.op=false/\DM l=true:=by
   rw[DM]at h;generalize Oh o.op=b at h⊢;cases b with
   |true=>cases h
   |false=>exact⟨rfl,h⟩
  rcases Ah.1 ho with h2|h2
  ·rw[<-h2,hc]at h1;cases h1.1
  ·exact ih h1.2 o' h2 c hc
theorem F8 (h:DM ops.toList=true):∀(i:Nat) (o:Oper),ops[i]?=some o->∀c,o.op≠.defer c:=λi o ho=>W1 h o (Dc.2 (FD ho))
theorem AR.run {K:St->Prop}{l:List Nat}(h:AR C F ops (l.map λj=>ops.getD j default) s K)(hlt:∀j∈l,j<ops.size)(hd:ops.toList.all (CB F.nt)=true){ρ:Lk}{a:Act}{w:World}(hs:Aw C F ρ s a w):wpOps C.P ops (Gt C F K) l a w:=by
 refine h ?_ l ?_ ρ a w hs
 ·rw[CF]
  intro o' ho';obtain⟨j,hj,rfl⟩:=Bw.1 ho';refine CF.1 hd _ ?_;rw[AT,BF (hlt j hj)];simp
 ·rw[List.map_map]
  refine LQ λj hj=>?_
  simp[AT,BF (hlt j hj)]
theorem IQ {K:St->Prop}(hB:Bp C B F)(hK:∀s,K s->Q .normal F s){e:Exit}{a:Act}{w:World}(h:Gt C F K e a w):e=.normal/\DA C B Q .normal a w:=by
 obtain⟨h0,s',ρ',h1,h2⟩:=h;exact⟨h0,F,s',ρ',hB,hK _ h1,h2⟩
theorem G3 {i:Nat}{d:Bool}(hB:Bp C B F)(h:B6 B.nt (.region i ops d)=true):ops.toList.all (CB F.nt)=true:=by rw[hB.nt];exact h
theorem AO.reg {i:Nat}(hX:Cb C X)(kb:Nat)(hnd:DM ops.toList=true)(h:CJ C X kb ops (List.range ops.size) s True λacc s=>acc/\Q .normal F s):AO C B rd F (.region i ops false) s Q:=by
 refine⟨λhB hd ρ a w hs=>wpIn_region ?_⟩;have hd:=G3 hB hd;have h1:=(Em (F:=F) (K':=Q .normal F) hX (λacc s h=>h) h).2.run (λj hj=>List.mem_range.1 hj) hd hs
 have:=EP (rd:=rd) (Q:=DA C B Q) (l2:=[]) (λ_ _ _ h=>IQ hB (λ_ h=>h) h) (F8 hnd) _ a w h1
 rwa [Dd]at this
theorem iA {i:Nat}(hX:Cb C X)(kb:Nat)(pre suf:List Nat)(hc:(FX ops pre suf&&DM ops.toList)=true)
  (h:C2 C X kb ops s.H s.n pre s.env [] True λacc env N=>CJ C X kb ops suf ⟨env,N++s.H,s.n+Bc ops.toList⟩ acc λacc s=>acc/\Q .normal F s):AO C B rd F (.region i ops true) s Q:=by
 have hsz:ops.size=Bc ops.toList:=by rw[Kq,GO]
 rw[<-hsz]at h;simp only[Ag]at hc;obtain⟨_,acc,env,N,h1,h2⟩:=IK (F:=F) hX (λacc env N h=>(Em (F:=F) (K':=Q .normal F) hX (λacc s h=>h) h).1) h;refine⟨λhB hd ρ a w hs=>?_⟩;have hd:=G3 hB hd;refine PM hX.mixed hc.1 h1 (λhlt ρ a w hs=>?_) hd ρ a w hs;have h3:=(Em (F:=F) (K':=Q .normal F) hX (λacc s h=>h) h2).2.run hlt hd hs
 have:=EP (rd:=rd) (Q:=DA C B Q) (l2:=[]) (λ_ _ _ h=>IQ hB (λ_ h=>h) h) (F8 hc.2) _ a w h3
 rwa [Dd]at this
def Mu (H:Hp)(k:Nat)(K:AK->Hp->Prop):Prop:=match Hp.get H k with
 |some e=>K e (Hp.del H k)
 |none=>False
theorem WO {i:Nat}{W:WR}{pre suf:List Nat}{envF:Ab}{N:Hp}(hm:C.P.follows .mixedOrders=true)(hc:FX ops pre suf=true)(hnd:DM ops.toList=true)
  (hH:s.H.Perm W.start) (hga:∀ia,W.ia=some ia->W.e.g=s.n+ia/\Cd ops W.iw ia/\ia∈pre) (hiw:W.iw∈pre) (hwg:W.e'.g=W.e.g\/W.e'.g=s.n+W.iw)
  (hpre:GJ C F ops W s.n pre s.env [] envF N)
  (h:AR C F ops (suf.map λj=>ops.getD j default) ⟨envF,N++W.e'::W.R,s.n+ops.size⟩ (Q .normal F)):AO C B rd F (.region i ops true) s Q:=
 ⟨λhB hd ρ a w hs=>wpIn_region_any hm (G2 (λ_ _ _ h=>IQ (F:=F) hB (λ_ h=>h) h) (F8 hnd) _ _ _ _ (UI (Q:=λe s=>Q e F s) hc hH hga hiw hwg hpre h (G3 hB hd) ρ a w hs))⟩
theorem ND {i:Nat}(hX:Cb C X)(kb:Nat)(pre suf:List Nat)(iw ia:Nat)(clo:List Nat)(hc:(FX ops pre suf&&DM ops.toList)=true)(hcl:(BT iw pre&&BT ia pre&&BT ia clo && !(Nat.beq ia iw)&&FM clo (Cu (FB ops (pre++suf) []) iw))=true)
  (h:C8 C X kb ops iw (some ia) s.H clo s.n pre s.env [] none none True λacc env N e e'=>(e.g=s.n+ia/\(e'.g=e.g\/e'.g=s.n+iw))/\CJ C X kb ops suf ⟨env,N++e'::s.H,s.n+Bc ops.toList⟩ acc λacc s=>acc/\Q .normal F s):
  AO C B rd F (.region i ops true) s Q:=by
 have hsz:ops.size=Bc ops.toList:=by rw[Kq,GO]
 rw[<-hsz]at h;simp only[Ag,Ec]at hcl hc;obtain⟨⟨⟨⟨c1,c2⟩,c3⟩,c4⟩,c5⟩:=hcl;have hclo:∀j∈clo,Cd ops iw j:=λj hj=>KK (KW _ _ (by simp)) _ _ (JA.1 c5 j hj)
 have hne:ia≠iw:=λh=>by rw[h,Fx]at c4;cases c4
 obtain⟨_,q,env,N,e,e',h1,h2,h3,⟨h4,h6⟩,h5⟩:=HT (F:=F) hX (λh=>hne (by simpa using h)) hclo (λacc env N e e' h=>(Em (F:=F) (K':=Q .normal F) hX (λacc s h=>h) h.2).1) h;exact WO (W:=⟨iw,some ia,e,e',s.H⟩) hX.mixed hc.1 hc.2 (List.Perm.refl _) (λj hj=>by cases hj;exact⟨h4,hclo ia (DU.1 c3),DU.1 c2⟩) (DU.1 c1) h6 h3 (Em (F:=F) hX (λacc s h=>h) h5).2
structure Wk (s s':St):Prop where
 h:Ci s.H s'.H s.H s'.H
 e:Ih s.H s'.H s.env s'.env
 n:s.n<=s'.n
theorem AO.weak {c:Code}(s':St)(h:Wk s s')(hk:AO C B rd F c s' Q):AO C B rd F c s Q:=⟨λhB hd ρ a w hs=>hk.out hB hd ρ a w (hs.weak h.h h.e h.n)⟩
theorem P4 {Fe:Fence}{n:Nat}{P:Program}{c:Code}{Q:Exit->Act->World->Prop}(I:Nat->Act->World->Prop){m:Nat}{a:Act}{w:World}(h₀:I m a w)
  (round:∀m a w,I m a w->c.wpIn Fe n P (Exit.then (λa' w'=>∃m',m'<m/\I m' a' w') Q) a w):(Code.loop c).wpIn Fe n P Q a w:=by
 intro b k cs hro hb hr;have key:∀m a w,I m a w->∃e a' w',Q e a' w'/\ArrivesIn (Machine.fenced P Fe) P (lone (b.atR a (.code c::.inLoop c::k)) cs w) b k cs e a' w':=by
  intro m
  induction m using Nat.strongRecOn with
  |_ m ih=>
   intro a w hI;obtain⟨e,a₁,w₁,hq,harr⟩:=round m a w hI b (.inLoop c::k) cs hro hb hr;cases e with
   |normal=>
    obtain⟨m',hlt,hI₁⟩:=hq;obtain⟨e₂,a₂,w₂,hq₂,harr₂⟩:=ih m' hlt a₁ w₁ hI₁;exact⟨e₂,a₂,w₂,hq₂,.of_steps (StepsIn.trans harr (.one (fenced_calm hb hr rfl) stepR_inLoop)) harr₂⟩
   |exit id=>exact⟨_,a₁,w₁,hq,.pass (x:=.inLoop c) rfl (λ_ _=>.inl (by simp)) harr⟩
   |goto l=>exact⟨_,a₁,w₁,hq,.pass (x:=.inLoop c) rfl (λ_ _=>.inl (by simp)) harr⟩
   |ret=>exact⟨_,a₁,w₁,hq,.pass (x:=.inLoop c) rfl (λ_ _=>.inl (by simp)) harr⟩
   |panic ch=>exact⟨_,a₁,w₁,hq,.pass (x:=.inLoop c) rfl (λ_ _=>.inl (by simp)) harr⟩
   |outgrown=>exact⟨_,a₁,w₁,hq,.pass (x:=.inLoop c) rfl (λ_ _=>.inl (by simp)) harr⟩
 obtain⟨e,a',w',hq,harr⟩:=key _ a w h₀;exact⟨e,a',w',hq,.of_steps (.one (fenced_calm hb hr rfl) stepR_loop) harr⟩
theorem Pe {b:Code}{α:Type}(sh:α->St)(μ:α->Nat)(J:α->AI->Prop)(a0:α)(h0:J a0 F)(hs:Wk s (sh a0))
  (h:∀a F',J a F'->AO C B rd F' b (sh a) (λe F' s'=>G9 (∃a',J a' F'/\μ a'<μ a/\Wk s' (sh a')) (λe=>Q e F' s') e)):AO C B rd F (.loop b) s Q:=by
 refine⟨λhB hd ρ x w hsat=>?_⟩;have hd':B6 B.nt b=true:=by simpa[B6]using hd
 refine P4 (λm x w=>∃(F':AI) (a:α) (s1:St) (ρ:Lk),μ a=m/\Bp C B F'/\J a F'/\Wk s1 (sh a)/\Aw C F' ρ s1 x w) ⟨F,a0,s,ρ,rfl,hB,h0,hs,hsat⟩ ?_;rintro m x w ⟨F',a,s1,ρ,hm,hF,ha,hw,hsat⟩;refine wpIn_mono ((h a F' ha).out hF hd' ρ x w (hsat.weak hw.h hw.e hw.n)) ?_;rintro e a' w' ⟨F2,s2,ρ2,h1,h2,h3⟩;cases e with
 |normal=>
  obtain⟨a2,q1,q2,q3⟩:=(show ∃a',J a' F2/\μ a'<μ a/\Wk s2 (sh a')from h2)
  exact⟨μ a2,hm ▸ q2,F2,a2,s2,ρ2,rfl,h1,q1,q3,h3⟩
 |ret=>exact⟨F2,s2,ρ2,h1,h2,h3⟩
 |exit j=>exact⟨F2,s2,ρ2,h1,h2,h3⟩
 |goto l=>exact⟨F2,s2,ρ2,h1,h2,h3⟩
 |panic c=>exact⟨F2,s2,ρ2,h1,h2,h3⟩
 |outgrown=>exact⟨F2,s2,ρ2,h1,h2,h3⟩
theorem AO.loop {b:Code}{α:Type}(sh:α->St)(μ:α->Nat)(J:α->Prop)(a0:α)(h0:J a0)(hs:Wk s (sh a0))
  (h:∀a F',J a->AO C B rd F' b (sh a) (λe F' s'=>G9 (∃a',J a'/\μ a'<μ a/\Wk s' (sh a')) (λe=>Q e F' s') e)):AO C B rd F (.loop b) s Q:=
 Pe sh μ (λa _=>J a) a0 h0 hs h
abbrev i64 (z:Int):D:=.prim (.int .i64 z)
abbrev str (s:ByteArray):D:=.prim (.string s)
abbrev Ai (b:Bool):D:=.prim (.bool b)
abbrev BA:D:=.prim (.slice none 0 0)
theorem Ac {H:Hp}{d0 d:D}(hd:d0=d)(hp:BX d0):∃d',Fz H [] d0 d'/\BX d'/\d'=d:=⟨d0,.refl _,hp,hd⟩
theorem EL.refl {H Hf:Hp}:∀ds:List D,EL H Hf ds ds
 | []=>trivial
 |_::l=>⟨.refl _,EL.refl l⟩
theorem CX.same {C:AZ}{f:Nat}{ds:List D}{k:D->Prop}(d:D)(hc:Aa C f ds d)(hp:AS ds)(hk:k d):CX C f ds k:=.mk ds d (EL.refl _) hc hp hk
theorem CE.same {C:AZ}{f:Nat}{ds:List D}{H:Hp}{n:Nat}{k:D->Hp->Nat->Prop}(d:D)(hc:Aa C f ds d)(hp:AS ds)(hk:k d H (n+1)):CE C f ds H n k:=.pure ds d (EL.refl _) hc hp hk
end
def AI.subZ (ρ:Lk)(H:Hp)(w:World)(nt:Nat)(X' Z:Nat->Prop)(df:List Deferred):AI:=⟨w,X',λb=>(∃e∈H,ρ e.k e.g=some b)\/Z b,nt,ρ,df⟩
section
variable {C:AZ} {F:AI} {ρ:Lk} {H:Hp} {w w1:World} {X' Z:Nat->Prop}
theorem AQ.enterZ (m:AQ C F ρ H w)(x:Ao ρ (AF F.X ρ H) w ρ (AF X' ρ H) w1)(h1:w1.os=w.os)(h2:w1.tape=w.tape)(h3:w1.output=w.output)
  (h4:∀b,b<w.heap.size->¬Z b->w1.heap[b]?=w.heap[b]?) (hZo:∀e∈H,∀b,ρ e.k e.g=some b->¬Z b) (hX:∀b,X' b->b<w1.heap.size) (hXo:∀e∈H,∀b,ρ e.k e.g=some b->¬X' b) (hZ:∀b,Z b->C.nG<=b) (nt:Nat) (df:List Deferred):
  AQ C (AI.subZ ρ H w1 nt X' Z df) ρ H w1 where
 hok:=⟨λe he=>by
  rcases m.hok.ent e he with h|⟨b,cs,a1,a2,a3⟩
  ·exact .inl h
  ·exact .inr ⟨b,cs,a1,by rw[h4 b (m.lt he a1) (hZo e he b a1)];exact a2,a3.mono x⟩,m.hok.inj,λe he b hb=>⟨hXo e he b hb,.inr (.inl ⟨e,he,hb⟩)⟩⟩
 os:=rfl
 tape:=rfl
 output:=rfl
 size:=Ad _
 blk:=λ_ _ _=>rfl
 xlt:=hX
 g0:=C.hG _ _ m.g ⟨h1,h2,h3,x.size,λb hb=>h4 b (CU hb (Az m.gn m.size)) λhz=>AW (hZ b hz) (by omega)⟩
 gn:=Az m.gn (Az m.size x.size)
 gw:=λb h=>by
  rcases h with⟨e,he,hb⟩|h
  ·rcases(m.hok.own e he b hb).2 with h|h
   ·exact Az m.gn h
   ·exact m.gw b h
  ·exact hZ b h
 lnk:=λ_ _ _ h=>h
 shp:=λ_ cs _ _ h=>⟨cs,_,h,rfl⟩
theorem AQ.leaveZ {nt:Nat}{df:List Deferred}{ρ':Lk}{H':Hp}{w':World}(m:AQ C F ρ H w1)(hX:∀b,F.X b->X' b)(hZ:∀b,Z b->F.w0.heap.size<=b\/F.Wr b)(m':AQ C (AI.subZ ρ H w1 nt X' Z df) ρ' H' w'):
  AQ C F ρ' H' w'/\Ao ρ (λb=>AF F.X ρ H b\/Z b) w1 ρ' (AF F.X ρ' H') w':=by
 have hwr:∀b,(∃e∈H,ρ e.k e.g=some b)->¬F.X b/\(F.w0.heap.size<=b\/F.Wr b):=λb ⟨e,he,hb⟩=>m.hok.own e he b hb
 have x:Ao ρ (λb=>AF F.X ρ H b\/Z b) w1 ρ' (AF F.X ρ' H') w':=by
  refine⟨m'.size,m'.lnk,λb hb hO=>⟨?_,m'.blk b hb λh=>?_⟩,m'.shp⟩
  ·rintro(h|⟨e,he,h⟩)
   ·exact hO (.inl (.inl h))
   ·rcases(m'.hok.own e he b h).2 with h'|h'|h'
    ·exact AW hb (Nat.not_lt.2 h')
    ·exact hO (.inl (.inr h'))
    ·exact hO (.inr h')
  ·rcases h with h|h
   ·exact hO (.inl (.inr h))
   ·exact hO (.inr h)
 refine⟨⟨⟨λe he=>?_,m'.hok.inj,λe he b hb=>?_⟩,m'.os.trans m.os,m'.tape.trans m.tape,m'.output.trans m.output,Az m.size m'.size,λb hb hw=>?_,m.xlt,m.g0,m.gn,m.gw,
  λ_ _ _ h=>m'.lnk _ _ _ (m.lnk _ _ _ h),GC m.shp x⟩,x⟩
 ·rcases m'.hok.ent e he with h|⟨b,cs,a1,a2,a3⟩
  ·exact .inl h
  ·exact .inr ⟨b,cs,a1,a2,a3.anti λb hb=>hb.imp (hX b) id⟩
 ·have h:=m'.hok.own e he b hb
  refine⟨λhx=>h.1 (hX b hx),?_⟩;rcases h.2 with h'|h'|h'
  ·exact .inl (Az m.size h')
  ·exact(hwr b h').2
  ·exact hZ b h'
 ·have h1:=m'.blk b (CU hb m.size) λh=>by
   rcases h with h|h
   ·rcases(hwr b h).2 with h'|h'
    ·omega
    ·exact hw h'
   ·rcases hZ b h with h'|h'
    ·omega
    ·exact hw h'
  exact h1.trans (m.blk b hb hw)
theorem Bp.subZ (m:AQ C F ρ H w1)(hX:∀b,F.X b->X' b)(hZ:∀b,Z b->F.w0.heap.size<=b\/F.Wr b)(rs:List Nat)(hn:rs.Nodup)
  (hr:∀r∈rs,F.w0.heap.size<=r/\r<w1.heap.size/\X' r/\(¬Z r/\∀e∈H,ρ e.k e.g≠some r)/\w1.heap[r]?=some (.deferred (some []))):
  Bp C F (AI.subZ ρ H w1 F.nt X' Z (rs.map (λr=>{ target:=.collected r,args:=#[] })++F.df)):=
 ⟨rfl,m.size,λh=>(m.leaveZ hX hZ h).1,hX,_,rfl,rs,rfl,hn,λr hr'=>by
  obtain⟨a1,a2,a3,⟨a4,a5⟩,a6⟩:=hr r hr';refine⟨a1,a2,a3,λρ' H' w' m'=>?_⟩;have hb:=m'.blk r a2 λh=>by
   rcases h with⟨e,he,h⟩|h
   ·exact a5 e he h
   ·exact a4 h
  exact hb.trans a6⟩
def D1 (w:World):List Nat->World
 | []=>w
 |r::rs=>D1 (w.putObj r (.deferred none)) rs
theorem KR:∀(rs:List Nat) (w:World),(D1 w rs).heap.size=w.heap.size
 | [],_=>rfl
 |r::rs,w=>by rw[D1,KR rs];simp[World.putObj]
theorem II:∀(rs:List Nat) (w:World) (b:Nat),b∉rs->(D1 w rs).heap[b]?=w.heap[b]?
 | [],_,_,_=>rfl
 |r::rs,w,b,h=>by
  rw[D1,II rs _ b (λhb=>h (by simp[hb])),World.putObj_heap_other (λhb=>h (by simp[hb]))]
theorem Qz:∀(rs:List Nat) (w:World),(D1 w rs).os=w.os/\(D1 w rs).tape=w.tape/\(D1 w rs).output=w.output
 | [],_=>⟨rfl,rfl,rfl⟩
 |r::rs,w=>by rw[D1];exact Qz rs _
theorem P1 {P:Program}{fn:Func}{tmps:Array Value}{R:Ending->World->Prop}:∀(rs:List Nat) (w:World),rs.Nodup->(∀r∈rs,w.heap[r]?=some (.deferred (some []))) ->
  (∃v,(results fn tmps).run P (D1 w rs)=.ok v (D1 w rs)/\R (.returned v) (D1 w rs))->LeavesInM (fw none) 0 P fn tmps R (rs.map (λr=>{ target:=.collected r,args:=#[] })) .returning w
 | [],w,_,_,h=>h
 |r::rs,w,hn,hr,h=>by
  obtain⟨n1,n2⟩:=List.nodup_cons.1 hn;refine⟨by simp,.inl ⟨r,_,rfl,run_takeDeferred (hr r (by simp)),P1 rs _ n2 (λq hq=>?_) h⟩⟩;rw[World.putObj_heap_other (λhb=>by subst hb;exact n1 hq)];exact hr q (by simp[hq])
theorem Bp.finish {fn:Func}{s:St}{a:Act}{tt:Nat->Option AL}{d:D}{p:Prop}{F':AI}(htt:A7 C.P tt)(hF:Bp C F F')(hd0:F.df=[])(hs:Aw C F' ρ s a w)(h:FA tt s fn.results.toList=some (d,p))(hp:p):
  ∃v w',LeavesIn (fw none) 0 C.P fn a.tmps (λe w2=>e=.returned v/\w2=w') [] .returning w' /\
   (∀R:Ending->World->Prop,R (.returned v) w'->LeavesInM (fw none) 0 C.P fn a.tmps R a.defers .returning w) /\
   AQ C F ρ s.H w'/\AG ρ (AF F'.X ρ s.H) w' d v/\(∀b,F.X b->F'.X b)/\Ao ρ (AF F'.X ρ s.H) w ρ (AF F'.X ρ s.H) w' /\
   (∀b,b<F.w0.heap.size->w'.heap[b]?=w.heap[b]?)/\w'.heap.size=w.heap.size/\∃F2,AQ C F2 ρ s.H w'/\F2.X=F'.X:=by
 obtain⟨ms,e1,rs,e2,hn,hr⟩:=hF.df;rw[hd0,Dd]at e1;have hdf:a.defers=rs.map (λr=>{ target:=.collected r,args:=#[] }):=by rw[hs.dfr,e1,e2]
 have mF:=hF.mem hs.mem;have hZ:∀b,b∈rs->F.w0.heap.size<=b\/F.Wr b:=λb hb=>.inl (hr b hb).1
 have hXr:∀b,b∈rs->F'.X b:=λb hb=>(hr b hb).2.2.1
 have hdr:∀r∈rs,w.heap[r]?=some (.deferred (some [])):=λr h=>(hr r h).2.2.2 _ _ _ hs.mem
 have hno:∀e∈s.H,∀b,ρ e.k e.g=some b->b∉rs:=λe he b hb hb'=>(hs.mem.hok.own e he b hb).1 (hXr b hb')
 have x:Ao ρ (AF F'.X ρ s.H) w ρ (AF F'.X ρ s.H) (D1 w rs):=by
  refine⟨by rw[KR];exact Ad _,λ_ _ _ h=>h,λb hb hO=>⟨hO,II _ _ _ λh=>hO (.inl (hXr b h))⟩,λb cs T fz h=>⟨cs,fz,?_,rfl⟩⟩;rw[II _ _ _ λhb=>by rw[hdr b hb]at h;cases h];exact h
 obtain⟨o1,o2,o3⟩:=Qz rs w;have m2:=hs.mem.enterZ (Z:=λb=>b∈rs) (X':=F'.X) x o1 o2 o3 (λb _ hb=>II _ _ _ hb) hno (λb hb=>by rw[KR];exact CU (hs.mem.xlt b hb) hs.mem.size)
  (λe he b hb=>(hs.mem.hok.own e he b hb).1) (λb hb=>Az mF.gn (hr b hb).1) F'.nt F'.df
 have hs2:Aw C (AI.subZ ρ s.H (D1 w rs) F'.nt F'.X (λb=>b∈rs) F'.df) ρ s a (D1 w rs):=⟨m2,hs.fresh,hs.gen,λt=>(hs.env t).mono x,hs.nt,hs.dfr⟩
 obtain⟨v,r1,r2⟩:=Oq htt hs2 h hp;have mF2:AQ C F ρ s.H (D1 w rs):=by
  have mw:AQ C (AI.subZ ρ s.H w F'.nt F'.X (λb=>b∈rs) F'.df) ρ s.H w:=hs.mem.enterZ (.refl _ _ _) rfl rfl rfl (λ_ _ _=>rfl) hno (λb hb=>CU (hs.mem.xlt b hb) hs.mem.size) (λe he b hb=>(hs.mem.hok.own e he b hb).1)
   (λb hb=>Az mF.gn (hr b hb).1) _ _
  refine(mF.leaveZ hF.X hZ (nt:=F'.nt) (df:=F'.df) (ρ':=ρ) (H':=s.H) (w':=D1 w rs) ⟨⟨λe he=>?_,mw.hok.inj,mw.hok.own⟩,o1,o2,o3,by rw[KR];exact Ad _,λb hb hw=>II _ _ _ λh=>hw (.inr h),mw.xlt,mw.g0,mw.gn,mw.gw,λ_ _ _ h=>h,GC mw.shp x⟩).1;rcases mw.hok.ent e he with h|⟨b,cs,a1,a2,a3⟩
  ·exact .inl h
  ·exact .inr ⟨b,cs,a1,by rw[II _ _ _ (hno e he b a1)];exact a2,a3.mono x⟩
 refine⟨v,D1 w rs,⟨v,r1,rfl,rfl⟩,λR hR=>?_,mF2,r2,hF.X,x,λb hb=>II _ _ _ λh=>?_,KR _ _,_,m2,rfl⟩
 ·rw[hdf];exact P1 rs w hn hdr ⟨v,r1,hR⟩
 ·have:=(hr b h).1;omega
end
section
variable {C:AZ} {X:EV}
def E6 (tt:Nat->Option AL)(s:St)(rs:List ResultVar)(k:D->Prop):Prop:=match FA tt s rs with
 |some (d,p)=>p/\k d
 |none=>False
def dQ (tt:Nat->Option AL)(rs:List ResultVar)(Φ:D->Prop)(e:Exit)(_:AI)(s:St):Prop:=match e with
 | .normal | .ret=>E6 tt s rs λd0=>∃d,Fz s.H [] d0 d/\BX d/\Φ d
 |_=>False
def SG (tt:Nat->Option AL)(rs:List ResultVar)(Φ:D->Hp->Nat->Prop)(e:Exit)(_:AI)(s:St):Prop:=match e with
 | .normal | .ret=>E6 tt s rs λd=>Φ d s.H s.n
 |_=>False
theorem ME {tt:Nat->Option AL}{s:St}{rs:List ResultVar}{k:D->Prop}(h:E6 tt s rs k):∃d p,FA tt s rs=some (d,p)/\p/\k d:=by
 unfold E6 at h;split at h
 ·rename_i d p he;exact⟨d,p,he,h.1,h.2⟩
 ·exact h.elim
theorem Ax.walk {f:Nat}{i:FI}{args:List D}{Φ:D->Prop}(hX:Cb C X)(hf:Gs C.P f i)(hnt:Nat.ble args.length i.nt=true)
  (h:∀F:AI,AO C F none F i.code ⟨Ck 0 args,[],0⟩ (dQ X.tt i.res Φ)):Ax C f args Φ:=by
 obtain⟨fn,hf,hb,hn,hd,hni,hres⟩:=hf;rw[<-hni]at hnt;refine⟨⟨fn,i.code,hf,hb,hn⟩,λY w vs hG hnG hX' hvs hr=>?_⟩;have hnt:=BD hnt;refine(IP (rd:=none) (n:=0)).1 (callsIn_of_wp_marks hf hb AA ?_);have hown:∀b,AF Y nol [] b↔Y b:=by simp[AF]
 have hoe:AF Y nol []=Y:=funext λb=>propext (hown b)
 let F0:AI:=⟨w,Y,λ_=>False,fn.ntmps,nol,[]⟩
 have sat:Aw C F0 nol ⟨Ck 0 args,[],0⟩ { tmps:=vs++Array.replicate (fn.ntmps-vs.size) undef,defers:=[] } w:=by
  refine⟨⟨⟨by simp,.nil,by simp⟩,rfl,rfl,rfl,Ad _,λ_ _ _=>rfl,hX',hG,hnG,by simp[F0],λ_ _ _ h=>h,λ_ cs _ _ h=>⟨cs,_,h,rfl⟩⟩,λ_ _ _=>rfl,by simp,λt=>?_,by simp[F0];omega,rfl⟩;show AG nol (AF Y nol []) w _ _;rw[hoe];exact MV hvs hr t
 refine wpIn_mono ((h F0).out (.refl F0) hd nol _ w sat) ?_;rintro e a' w' ⟨F',s',ρ',hF,hq,hs'⟩;have key:E6 X.tt s' i.res (λd0=>∃d,Fz s'.H [] d0 d/\BX d/\Φ d)->LeavesInM (fw none) 0 C.P fn a'.tmps (λe w'=>∃v d,e=.returned v/\Below w.heap.size w w'/\Φ d/\AG nol Y w' d v) a'.defers .returning w':=λhq=>by
  obtain⟨d0,p,h1,h2,d,h3,h4,h5⟩:=ME hq;rw[<-hres]at h1;obtain⟨v,w2,_,hl,mF,r2,hXX,x,hbl,hsz,F2,m2,hX2⟩:=hF.finish hX.tt rfl hs' h1 h2;refine hl _ ⟨v,d,rfl,⟨mF.os,mF.tape,mF.output,mF.size,λb hb=>mF.blk b hb (by simp[F0])⟩,h5,?_⟩;have hH:Ci s'.H [] s'.H []:=by
   generalize s'.H=H0
   have:∀H1:Hp,Ci H0 [] H1 []:=λH1=>by
    induction H1 with
    |nil=>exact .nil
    |cons e r ih=>exact .drop ih
   exact this H0
  obtain⟨m,hO,hN⟩:=hH.mem m2;have r3:=h3.rep m2 hO hN (by rw[hX2];exact r2);have r4:=h4 _ nol _ _ _ r3;exact r4.anti λb hb=>.inl (by rw[hX2];exact hXX b hb)
 cases e with
 |normal=>exact key hq
 |ret=>exact key hq
 |_=>exact hq.elim
theorem Ct.walk {f:Nat}{i:FI}{args:List D}{H:Hp}{n:Nat}{Φ:D->Hp->Nat->Prop}(hX:Cb C X)(hf:Gs C.P f i)(hnt:Nat.ble args.length i.nt=true)
  (h:∀F:AI,AO C F none F i.code ⟨Ck 0 args,H,n⟩ (SG X.tt i.res Φ)):Ct C f args H n Φ:=by
 obtain⟨fn,hf,hb,hn,hd,hni,hres⟩:=hf;rw[<-hni]at hnt;refine⟨⟨fn,i.code,hf,hb,hn⟩,λF ρ w vs m hfr hg hvs hr=>?_⟩;have hnt:=BD hnt;refine(IP (rd:=none) (n:=0)).1 (callsIn_of_wp_marks hf hb AA ?_);have sat:Aw C (F.sub ρ H w fn.ntmps) ρ ⟨Ck 0 args,H,n⟩ { tmps:=vs++Array.replicate (fn.ntmps-vs.size) undef,defers:=[] } w:=
  ⟨m.enter _,hfr,hg,MV hvs hr,by simp[AI.sub];omega,rfl⟩
 refine wpIn_mono ((h (F.sub ρ H w fn.ntmps)).out (.refl _) hd ρ _ w sat) ?_;rintro e a' w' ⟨F',s',ρ',hF,hq,hs'⟩;have key:E6 X.tt s' i.res (λd=>Φ d s'.H s'.n)->LeavesInM (fw none) 0 C.P fn a'.tmps (λe w'=>∃v d H' n' ρ',e=.returned v/\Φ d H' n'/\AQ C F ρ' H' w'/\Ao ρ (AF F.X ρ H) w ρ' (AF F.X ρ' H') w'/\Ge ρ' n'/\(∀e∈H',e.g<n') /\
   AG ρ' (AF F.X ρ' H') w' d v) a'.defers .returning w':=λhq=>by
  obtain⟨d,p,h1,h2,h3⟩:=ME hq;rw[<-hres]at h1;obtain⟨v,w2,_,hl,mF,r2,hXX,x,hbl,hsz,F2,m2,hX2⟩:=hF.finish hX.tt rfl hs' h1 h2;obtain⟨m',x'⟩:=m.leave mF;exact hl _ ⟨v,d,_,_,ρ',rfl,h3,m',x',hs'.fresh,hs'.gen,r2.anti λb hb=>hb.imp (hXX b) id⟩
 cases e with
 |normal=>exact key hq
 |ret=>exact key hq
 |_=>exact hq.elim
variable {B F:AI} {s:St} {rd:Option Nat} {Q:Exit->AI->St->Prop}
theorem NE {a b:Code}(s':St)(h1:AO C B rd F a s (λe F1 s1=>G9 (F1=F/\Wk s1 s') (λe=>Q e F1 s1) e))(h2:AO C B rd F b s' Q):AO C B rd F (.seq a b) s Q:=
 AO.seq (h1.mono λe F1 s1 h=>by
  cases e with
  |normal=>
   obtain⟨h0,h3⟩:=(show F1=F/\Wk s1 s' from h)
   rw[h0];exact AO.weak s' h3 h2
  |ret=>exact h
  |exit j=>exact h
  |goto l=>exact h
  |panic c=>exact h
  |outgrown=>exact h)
theorem fq {H Hf:Hp}{d d':D}(h:d=d'):Fz H Hf d d':=h ▸ .refl d
end
structure LR where
 fn:Nat
 tmps:Array Value
 ps:Array Nat
 as:Code
 bd:Code
 dfs:Nat
def LR.lp (R:LR)(st:LoopState)(j:Option Code):Loop:={ state:=st,pending:=j,fn:=R.fn,tmps:=R.tmps,params:=R.ps,assign:=R.as,body:=R.bd,defers:=R.dfs }
def LR.obj (R:LR)(j:Option Code):Obj:=.loop (R.lp (if j.isNone then .ready else .done) j)
def AI.wr (F:AI)(l:Nat):AI:=⟨F.w0,F.X,λb=>F.Wr b\/b=l,F.nt,F.r0,F.df⟩
section
variable {C:AZ} {F B:AI} {ρ:Lk} {H:Hp} {w:World} {l:Nat} {R:LR}
theorem AQ.wr (m:AQ C F ρ H w)(hl:C.nG<=l):AQ C (F.wr l) ρ H w:=
 ⟨⟨m.hok.ent,m.hok.inj,λe he b hb=>⟨(m.hok.own e he b hb).1,(m.hok.own e he b hb).2.imp id .inl⟩⟩,m.os,m.tape,m.output,m.size,λb hb h=>m.blk b hb λh'=>h (.inl h'),m.xlt,m.g0,m.gn,λb h=>by
  rcases h with h|rfl
  ·exact m.gw b h
  ·exact hl,m.lnk,m.shp⟩
theorem AQ.unwr (m:AQ C (F.wr l) ρ H w)(hX:F.X l)(hb:w.heap[l]?=F.w0.heap[l]?):AQ C F ρ H w:=
 ⟨⟨m.hok.ent,m.hok.inj,λe he b hb=>⟨(m.hok.own e he b hb).1,by
  rcases(m.hok.own e he b hb).2 with h|h|h
  ·exact .inl h
  ·exact .inr h
  ·exact AW (h ▸ hX) (m.hok.own e he b hb).1⟩⟩,m.os,m.tape,m.output,m.size,λb hb' h=>by
   by_cases hl:b=l
   ·subst hl;exact hb
   ·exact m.blk b hb' λh'=>h'.elim h hl,m.xlt,m.g0,m.gn,λb h=>m.gw b (.inl h),m.lnk,m.shp⟩
theorem Gy (w:World)(l:Nat)(o:Obj):(w.putObj l o).os=w.os/\(w.putObj l o).tape=w.tape/\(w.putObj l o).output=w.output/\(w.putObj l o).heap.size=w.heap.size:=⟨rfl,rfl,rfl,by simp[World.putObj]⟩
theorem Ao.putL {O:Nat->Prop}(hO:O l){r:Loop}(h:w.heap[l]?=some (.loop r))(o:Obj):Ao ρ O w ρ O (w.putObj l o):=
 ⟨by rw[(Gy w l o).2.2.2];exact Ad _,λ_ _ _ h=>h,λb hb hb'=>⟨hb',World.putObj_heap_other λhbl=>hb' (by rw[hbl];exact hO)⟩,λb cs T fz hc=>⟨cs,_,by
  rw[World.putObj_heap_other λhbl=>by rw[hbl,h]at hc;cases hc];exact hc,rfl⟩⟩
theorem AQ.putL (m:AQ C F ρ H w)(hX:F.X l)(hW:F.Wr l){r:Loop}(h:w.heap[l]?=some (.loop r))(o:Obj):AQ C F ρ H (w.putObj l o):=by
 have x:=Ao.putL (ρ:=ρ) (O:=AF F.X ρ H) (.inl hX) h o;exact⟨⟨λe he=>by
  rcases m.hok.ent e he with h|⟨b,cs,a1,a2,a3⟩
  ·exact .inl h
  ·exact .inr ⟨b,cs,a1,by rw[World.putObj_heap_other λhb=>(m.hok.own e he b a1).1 (by rw[hb];exact hX)];exact a2,a3.mono x⟩,m.hok.inj,m.hok.own⟩,
  m.os,m.tape,m.output,by rw[(Gy w l o).2.2.2];exact m.size,λb hb hw=>by rw[World.putObj_heap_other λhbl=>hw (by rw[hbl];exact hW)];exact m.blk b hb hw,m.xlt,m.g0,m.gn,m.gw,m.lnk,GC m.shp x⟩
def Mg (C:AZ)(F:AI)(l:Nat)(R:LR)(ρ:Lk)(H:Hp)(w:World)(Φ:Option Code->D->Hp->Nat->Prop):Ending->World->Prop:=λe w'=>
 ∃v j d H' n' ρ',e=.returned v/\Φ j d H' n'/\w'.heap[l]?=some (R.obj j)/\AQ C (F.wr l) ρ' H' w'/\Ao ρ (AF F.X ρ H) w ρ' (AF F.X ρ' H') w'/\Ge ρ' n'/\(∀e∈H',e.g<n')/\AG ρ' (AF F.X ρ' H') w' d v
abbrev DZ:=Lk->(Nat->Prop)->World->Prop
def DZ.ok (E:DZ):Prop:=∀ρ O w ρ' O' w',E ρ O w->Ao ρ O w ρ' O' w'->E ρ' O' w'
def RO (C:AZ)(E:DZ)(f:Nat)(args:List D)(l:Nat)(R:LR)(H:Hp)(n:Nat)(Φ:Option Code->D->Hp->Nat->Prop):Prop:=
 GY C.P f/\∀(F:AI) (ρ:Lk) (w:World) (vs:Array Value),AQ C F ρ H w->F.X l->C.nG<=l->E ρ (AF F.X ρ H) w->w.heap[l]?=some (R.obj none)->Ge ρ n->(∀e∈H,e.g<n)->vs.size=args.length ->
  (∀(i:Nat) (d:D),args[i]?=some d->AG ρ (AF F.X ρ H) w d (vs.getD i undef))->Calls C.P f vs w (Mg C F l R ρ H w Φ)
def Me (C:AZ)(E:DZ)(l:Nat)(R:LR)(ds:List D)(H:Hp)(n:Nat)(Φ:Option Code->Hp->Nat->Prop):Prop:=
 ∀(F:AI) (ρ:Lk) (w:World) (vs:Array Value),AQ C F ρ H w->F.X l->C.nG<=l->E ρ (AF F.X ρ H) w->w.heap[l]?=some (R.obj none)->Ge ρ n->(∀e∈H,e.g<n)->vs.size=ds.length ->
  (∀(i:Nat) (d:D),ds[i]?=some d->AG ρ (AF F.X ρ H) w d (vs.getD i undef))->vs.size=R.ps.size /\
  RoundIn (fw none) 0 C.P l R.fn ((R.ps.zip vs).foldl (λtmps (t,a)=>tmps.setIfInBounds t a) R.tmps) R.as R.bd w (Mg C F l R ρ H w λj d H' n'=>d=Ai j.isNone/\Φ j H' n')
structure Hl (C:AZ)(E:DZ)(B F:AI)(l:Nat)(R:LR):Prop where
 X:F.X l
 nw:¬F.Wr l
 at0:F.w0.heap[l]?=some (R.obj none)
 up:∀ {ρ:Lk} {H:Hp} {w:World},AQ C (F.wr l) ρ H w->AQ C B ρ H w
 ng:C.nG<=l
 df:F.df=B.df
 ext:∀ {ρ:Lk} {H:Hp} {w:World},AQ C F ρ H w->E ρ (AF F.X ρ H) w
def Hq (C:AZ)(l:Nat)(R:LR)(j:Option Code)(F:AI):Prop:=∀ {ρ:Lk} {H:Hp} {w:World},AQ C F ρ H w->w.heap[l]?=some (R.obj j)
theorem Hl.stat {E:DZ}(h:Hl C E B F l R):Hq C l R none F:=λm=>(m.blk l (m.xlt l h.X) h.nw).trans h.at0
theorem Aw.reframe {F':AI}{s:St}{a:Act}(h:Aw C F ρ s a w)(m:AQ C F' ρ s.H w)(hX:F'.X=F.X)(hn:F'.nt=F.nt)(hd:F'.df=F.df):Aw C F' ρ s a w:=
 ⟨m,h.fresh,h.gen,λt=>by rw[hX];exact h.env t,h.nt.trans hn.symm,h.dfr.trans hd.symm⟩
variable {X:EV} {ops:Array Oper} {s:St} {E:DZ} {Q:Exit->AI->St->Prop}
end
section
variable {C:AZ} {X:EV} {E:DZ} {l:Nat} {R:LR}
theorem Mn {F F':AI}{ρ:Lk}{H:Hp}{w:World}(m:AQ C F ρ H w)(h0:F'.w0=F.w0)(hX:F'.X=F.X)(hr:F'.r0=F.r0)(hW:∀b,F.Wr b->F'.Wr b)(hg:∀b,F'.Wr b->C.nG<=b):AQ C F' ρ H w:=by
 obtain⟨a1,a2,a3,a4,a5,a6,a7,a8,a9,a10,a11,a12⟩:=m;refine⟨⟨?_,a1.inj,?_⟩,?_,?_,?_,?_,?_,?_,?_,?_,hg,?_,?_⟩
 ·rw[hX];exact a1.ent
 ·intro e he b hb
  rw[hX,h0];exact⟨(a1.own e he b hb).1,(a1.own e he b hb).2.imp id (hW b)⟩
 ·rw[h0];exact a2
 ·rw[h0];exact a3
 ·rw[h0];exact a4
 ·rw[h0];exact a5
 ·rw[h0];exact λb hb h=>a6 b hb λh'=>h (hW b h')
 ·rw[h0,hX];exact a7
 ·rw[h0];exact a8
 ·rw[h0];exact a9
 ·rw[hr];exact a11
 ·rw[h0];exact a12
def YL (C:AZ)(l:Nat)(R:LR)(tt:Nat->Option AL)(rs:List ResultVar)(Φ:Option Code->D->Hp->Nat->Prop)(e:Exit)(F:AI)(s:St):Prop:=match e with
 | .normal | .ret=>∃j,Hq C l R j F/\E6 tt s rs λd=>Φ j d s.H s.n
 |_=>False
def E4:List Nat->List D->Ab->Ab
 |t::ts,d::ds,env=>E4 ts ds ((t,d)::env)
 |_,_,env=>env
theorem Qj:∀(ps:List Nat) (ds:List D) (env:Ab) (tm:Array Value) (vs:List Value) {ρ:Lk} {O:Nat->Prop} {w:World},vs.length=ds.length->(∀t∈ps,t<tm.size) ->
  (∀t,AG ρ O w (env.get t) (tm.getD t undef))->(∀(i:Nat) (d:D),ds[i]?=some d->AG ρ O w d (vs.getD i undef)) ->
  ∀t,AG ρ O w ((E4 ps ds env).get t) (((ps.zip vs).foldl (λtmps (x:Nat×Value)=>tmps.setIfInBounds x.1 x.2) tm).getD t undef)
 | [],_,_,_,_,_,_,_,_,_,h,_=>by simpa[E4]using h
 |p::ps,[],env,tm,vs,_,_,_,hl,_,h,_=>by
  have:vs=[]:=Hz (by simpa using hl)
  subst this;simpa[E4]using h
 |p::ps,d::ds,env,tm,[],_,_,_,hl,_,_,_=>by simp at hl
 |p::ps,d::ds,env,tm,v::vs,ρ,O,w,hl,hp,h,hr=>by
  intro t;simp only[E4,List.zip_cons_cons,List.foldl_cons];refine Qj ps ds _ _ vs (by simpa using hl) (λt ht=>by simp;exact hp t (by simp[ht])) (λt=>?_) (λi d hd=>?_) t
  ·rw[Gk]
   have h0:=hr 0 d (by simp);simp at h0
   by_cases hpt:p=t
   ·subst hpt
    rw[AM rfl,AT,DE,AM rfl,AM (hp p (by simp))];exact h0
   ·rw[AN hpt,AT,DE,AN hpt,<-AT]
    exact h t
  ·have:=hr (i+1) d (by simpa using hd)
   simpa using this
theorem QG:∀(l:List (Nat×Value)) (tm:Array Value),(l.foldl (λtmps (x:Nat×Value)=>tmps.setIfInBounds x.1 x.2) tm).size=tm.size
 | [],_=>rfl
 |x::l,tm=>by rw[List.foldl_cons,QG l];simp
def Q9:Exit->Option (Option Code)
 | .normal=>some none
 | .ret=>some (some .ret)
 | .exit i=>some (some (.exit i))
 | .goto t=>some (some (.goto t))
 |_=>none
def Mf (Φ:Option Code->Hp->Nat->Prop)(e:Exit)(_:AI)(s:St):Prop:=match Q9 e with
 |some j=>Φ j s.H s.n
 |none=>False
variable {F:AI}
theorem XC {ps:Array Nat}{as bd:Code}{fn dfs:Nat}{tm:Array Value}{env:Ab}{ρ1:Lk}{O1:Nat->Prop}{w1:World}{nt:Nat}(htm:tm.size=nt)(hps:∀t∈ps,t<nt)(hda:B6 nt as=true)(hdb:B6 nt bd=true)
  (henv:∀t,AG ρ1 O1 w1 (env.get t) (tm.getD t undef)) {ds:List D} {H:Hp} {n:Nat} {Φ:Option Code->Hp->Nat->Prop} (hds:ds.length=ps.size)
  (h:∀F:AI,AO C F (some l) F as ⟨E4 ps.toList ds env,H,n⟩ λe F' s=>e=.normal/\F'=F/\∀F':AI,AO C F' (some l) F' bd s (Mf Φ)):
  Me C (λρ O w=>Ao ρ1 O1 w1 ρ O w) l ⟨fn,tm,ps,as,bd,dfs⟩ ds H n Φ:=by
 intro F ρ w vs m hFl hng hEw hlw hfr hg hvs hr;refine⟨hvs.trans hds,?_⟩;have hltl:l<w.heap.size:=(Bo.1 hlw).1;have mw:=m.wr hng;have hol:∀ {ρ':Lk} {H':Hp} {w':World},AQ C (F.wr l) ρ' H' w'->∀e∈H',∀b,ρ' e.k e.g=some b->b≠l:=λm' e he b hb hbl=>(m'.hok.own e he b hb).1 (by show F.X b;rw[hbl];exact hFl)
 have ent:∀ {ρ':Lk} {H':Hp} {w':World},AQ C (F.wr l) ρ' H' w'->AQ C (AI.subZ ρ' H' w' nt F.X (λ_=>False) []) ρ' H' w':=λm'=>m'.enterZ (.refl _ _ _) rfl rfl rfl (λ_ _ _=>rfl) (λ_ _ _ _ h=>h) (λb hb=>CU (m'.xlt b hb) m'.size)
  (λe he b hb=>(m'.hok.own e he b hb).1) (λb hz=>hz.elim) _ _
 have lv:∀ {ρ':Lk} {H':Hp} {w':World} {ρ2:Lk} {H2:Hp} {w2:World},AQ C (F.wr l) ρ' H' w'->AQ C (AI.subZ ρ' H' w' nt F.X (λ_=>False) []) ρ2 H2 w2->AQ C (F.wr l) ρ2 H2 w2/\Ao ρ' (AF F.X ρ' H') w' ρ2 (AF F.X ρ2 H2) w2:=λ{ρ' H' w' ρ2 H2 w2} m' m2=>by
  obtain⟨q1,q2⟩:=m'.leaveZ (X':=F.X) (Z:=λ_=>False) (λ_ h=>h) (λb hb=>hb.elim) m2;refine⟨q1,?_⟩
  have:(λb=>AF F.X ρ' H' b\/False)=AF F.X ρ' H':=funext λb=>propext ⟨λh=>h.elim id False.elim,.inl⟩
  have q2:Ao ρ' (λb=>AF F.X ρ' H' b\/False) w' ρ2 (AF F.X ρ2 H2) w2:=q2
  rwa [this]at q2
 have lat:∀ {ρ':Lk} {H':Hp} {w':World} {ρ2:Lk} {H2:Hp} {w2:World},AQ C (F.wr l) ρ' H' w'->l<w'.heap.size->AQ C (AI.subZ ρ' H' w' nt F.X (λ_=>False) []) ρ2 H2 w2->w2.heap[l]?=w'.heap[l]?:=λm' hl m2=>m2.blk l hl λh=>by
  rcases h with⟨e,he,h⟩|h
  ·exact hol m' e he l h rfl
  ·exact h
 refine roundIn_of_wpIn AA ?_
 let Fa:=AI.subZ ρ H w nt F.X (λ_=>False) []
 have sata:Aw C Fa ρ ⟨E4 ps.toList ds env,H,n⟩ { tmps:=(ps.zip vs).foldl (λtmps (t,a)=>tmps.setIfInBounds t a) tm,defers:=[] } w:=by
  refine⟨ent mw,hfr,hg,λt=>?_,?_,rfl⟩
  ·have:=Qj ps.toList ds env tm vs.toList (ρ:=ρ) (O:=AF F.X ρ H) (w:=w) (by simpa using hvs) (λt ht=>by rw[htm];exact hps t (by simpa using ht)) (λt=>(henv t).mono hEw) (λi d hd=>by
    have:=hr i d hd
    simpa[AT,GN]using this) t
   rw[<-Array.foldl_toList,Array.toList_zip];exact this
  ·show((ps.zip vs).foldl (λtmps (t,a)=>tmps.setIfInBounds t a) tm).size=nt
   rw[<-Array.foldl_toList];exact(QG _ _).trans htm
 refine wpIn_mono ((h Fa).out (.refl Fa) hda ρ _ w sata) ?_;rintro e a2 w2 ⟨F2,s2,ρ2,hF2,⟨rfl,hFF,hbody⟩,hs2⟩;subst hFF;obtain⟨m2,x2⟩:=lv mw (hF2.mem hs2.mem);have hl2:w2.heap[l]?=some (LR.obj ⟨fn,tm,ps,as,bd,dfs⟩ none):=(lat mw hltl (hF2.mem hs2.mem)).trans hlw;refine⟨_,run_beginRound (r:=LR.lp ⟨fn,tm,ps,as,bd,dfs⟩ .ready none) hl2 rfl,?_⟩;have m3:=m2.putL hFl (.inr rfl) (r:=LR.lp ⟨fn,tm,ps,as,bd,dfs⟩ .ready none) hl2 (.loop { LR.lp ⟨fn,tm,ps,as,bd,dfs⟩ .ready none with state:=.busy });have x3:=Ao.putL (ρ:=ρ2) (O:=AF F.X ρ2 s2.H) (w:=w2) (.inl hFl) (r:=LR.lp ⟨fn,tm,ps,as,bd,dfs⟩ .ready none) hl2 (.loop { LR.lp ⟨fn,tm,ps,as,bd,dfs⟩ .ready none with state:=.busy });generalize hw3:w2.putObj l (.loop { LR.lp ⟨fn,tm,ps,as,bd,dfs⟩ .ready none with state:=.busy })=w3 at m3 x3⊢;have hlt2:l<w2.heap.size:=(Bo.1 hl2).1;have hl3:w3.heap[l]?=some (.loop { LR.lp ⟨fn,tm,ps,as,bd,dfs⟩ .ready none with state:=.busy }):=by rw[<-hw3];exact World.putObj_heap_same hlt2
 let Fb:=AI.subZ ρ2 s2.H w3 nt F.X (λ_=>False) []
 have satb:Aw C Fb ρ2 s2 a2 w3:=⟨ent m3,hs2.fresh,hs2.gen,λt=>(hs2.env t).mono x3,hs2.nt,hs2.dfr⟩
 refine wpIn_mono ((hbody Fb).out (.refl Fb) hdb ρ2 _ w3 satb) ?_;rintro e a4 w4 ⟨F4,s4,ρ4,hF4,hq,hs4⟩;obtain⟨m4,x4⟩:=lv m3 (hF4.mem hs4.mem);have hl4:w4.heap[l]?=some (.loop { LR.lp ⟨fn,tm,ps,as,bd,dfs⟩ .ready none with state:=.busy }):=(lat m3 (Bo.1 hl3).1 (hF4.mem hs4.mem)).trans hl3;have fin:∀j,Φ j s4.H s4.n->∃v w',(Instr.endRound l j).run C.P w4=.ok v w'/\Mg C F l ⟨fn,tm,ps,as,bd,dfs⟩ ρ H w (λj d H' n'=>d=Ai j.isNone/\Φ j H' n') (.returned v) w':=λj hj=>by
  refine⟨_,_,run_endRound j hl4,_,j,Ai j.isNone,s4.H,s4.n,ρ4,rfl,⟨rfl,hj⟩,World.putObj_heap_same (Bo.1 hl4).1,m4.putL hFl (.inr rfl) hl4 _,((x2.trans x3).trans x4).trans (Ao.putL (.inl hFl) hl4 _),hs4.fresh,hs4.gen,.prim _⟩
 cases e with
 |normal=>exact fin none hq
 |ret=>exact fin _ hq
 |exit i=>exact fin _ hq
 |goto t=>exact fin _ hq
 |panic c=>exact hq.elim
 |outgrown=>exact hq.elim
def gH (Q:Exit->AI->St->Prop)(F:AI)(s:St)(j:Option Code):Prop:=match j with
 |none=>Q .normal F s
 |some .ret=>Q .ret F s
 |some (.exit i)=>Q (.exit i) F s
 |some (.goto t)=>Q (.goto t) F s
 |some _=>False
theorem DZ.ext {ρ1:Lk}{O1:Nat->Prop}{w1:World}:DZ.ok (λρ O w=>Ao ρ1 O1 w1 ρ O w):=λ_ _ _ _ _ _ h k=>h.trans k
theorem AO.rangeFunc {B:AI}{s:St}{Q:Exit->AI->St->Prop}{g:Operand}{ps:Array Nat}{as bd:Code}{fi:Nat}{first captured:List D}{Ψ:Option Code->D->Hp->Nat->Prop}(hg:AV s.env g=.clo (.func fi) first captured)
  (YS:List D->Hp->Nat->(Option Code->Hp->Nat->Prop)->Prop)
  (hbody:∀l ds H n Φ,YS ds H n Φ->ds.length=ps.size/\∀F:AI,AO C F (some l) F as ⟨E4 ps.toList ds s.env,H,n⟩ λe F' s=>e=.normal/\F'=F/\∀F':AI,AO C F' (some l) F' bd s (Mf Φ))
  (hiter:∀(E:DZ) (l:Nat) (R:LR),DZ.ok E->(∀ds H n Φ,YS ds H n Φ->Me C E l R ds H n Φ)->RO C E fi (first++[.clo (.yield l) [] []]++captured) l R s.H s.n Ψ)
  (hend:∀j d H' n' F',Ψ j d H' n'->gH Q F' ⟨s.env,H',n'⟩ j):AO C B none F (.rangeFunc g ps as bd) s Q:=by
 refine⟨λhB hd ρ a w hs=>?_⟩;simp only[B6,Ag]at hd;have hps:∀t∈ps,t<B.nt:=λt ht=>Nat.blt_eq.mp (CF.1 hd.1 t (by simpa using ht))
 have hgr:=BN hs.env g;rw[hg]at hgr;generalize hv:a.eval g=gv at hgr;cases hgr with
 |clo hnf hnc hr1 hr2=>
 rename_i fs cs;refine wpIn_rangeFunc λfn _=>?_
 let l:=w.heap.size+1
 let d:=w.heap.size
 let R:LR:=⟨fn,a.tmps,ps,as,bd,d⟩
 let w1:=(w.alloc (.deferred (some []))).alloc (R.obj none)
 have hw1s:w1.heap.size=w.heap.size+2:=by simp only[w1,World.size_alloc]
 have hold:∀b,b<w.heap.size->w1.heap[b]?=w.heap[b]?:=λb hb=>by
  show((w.alloc _).alloc _).heap[b]?=_;rw[Cc,AN (by rw[World.size_alloc];omega),Cc,BU]
 have hdw:w1.heap[d]?=some (.deferred (some [])):=by
  show((w.alloc _).alloc _).heap[w.heap.size]?=_;rw[Cc,AN (by rw[World.size_alloc];omega),Cc,AM rfl]
 have hlw:w1.heap[l]?=some (R.obj none):=by
  show((w.alloc _).alloc _).heap[w.heap.size+1]?=_;rw[Cc,AM (by rw[World.size_alloc])]
 have m:=hs.mem
 let X1:Nat->Prop:=λb=>F.X b\/b=l\/b=d
 have hown:∀e∈s.H,∀b,ρ e.k e.g=some b->b<w.heap.size:=λe he b hb=>m.lt he hb
 have x:Ao ρ (AF F.X ρ s.H) w ρ (AF X1 ρ s.H) w1:=by
  refine⟨by omega,λ_ _ _ h=>h,λb hb hO=>⟨?_,hold b hb⟩,λb cs T fz h=>⟨cs,fz,?_,rfl⟩⟩
  ·rintro((h|h|h)|h)
   ·exact hO (.inl h)
   ·simp only[l]at h;omega
   ·simp only[d]at h;omega
   ·exact hO (.inr h)
  ·rw[hold b (Bo.1 h).1];exact h
 have hng:C.nG<=l:=by
  have:=m.gn;have:=m.size
  simp only[l];omega
 have m1:AQ C (AI.subZ ρ s.H w1 F.nt X1 (λb=>b=l) ([d].map (λr=>({ target:=.collected r,args:=#[] }:Deferred))++F.df)) ρ s.H w1:=by
  refine m.enterZ x rfl rfl rfl (λb hb _=>hold b hb) (λe he b hb hbl=>?_) (λb hb=>?_) (λe he b hb hb'=>?_) (λb hb=>by rw[hb];exact hng) _ _
  ·have:=hown e he b hb
   simp only[l]at hbl;omega
  ·rcases hb with h|h|h
   ·have:=m.xlt b h;have:=m.size;omega
   ·simp only[l]at h;omega
   ·simp only[d]at h;omega
  ·have h1:=hown e he b hb
   rcases hb' with h|h|h
   ·exact(m.hok.own e he b hb).1 h
   ·simp only[l]at h;omega
   ·simp only[d]at h;omega
 have mo:AQ C F ρ s.H w1:=m.same ⟨by omega,λ_ _ _ h=>h,λb hb hO=>⟨hO,hold b hb⟩,λb cs T fz h=>⟨cs,_,by rw[hold b (Bo.1 h).1];exact h,rfl⟩⟩ rfl rfl rfl hold;have hF1:Bp C F (AI.subZ ρ s.H w1 F.nt X1 (λb=>b=l) ([d].map (λr=>({ target:=.collected r,args:=#[] }:Deferred))++F.df)):=by
  refine Bp.subZ mo (λb hb=>.inl hb) (λb hb=>.inl ?_) [d] (by simp) λr hr=>?_
  ·have:=m.size
   rw[hb];simp only[l];omega
  ·simp only[Eb]at hr
   subst hr;refine⟨m.size,by simp only[d];omega,.inr (.inr rfl),⟨by simp only[d,l];omega,λe he h=>?_⟩,hdw⟩
   have:=hown e he d h
   simp only[d]at this;omega
 have hB1:=hB.trans hF1;generalize hF1d:AI.subZ ρ s.H w1 F.nt X1 (λb=>b=l) ([d].map (λr=>({ target:=.collected r,args:=#[] }:Deferred))++F.df)=F1 at m1 hF1 hB1;have hF1X:F1.X=X1:=by rw[<-hF1d];rfl
 have hF1W:F1.Wr l:=by rw[<-hF1d];exact .inr rfl
 have hXl:F1.X l:=by rw[hF1X];exact .inr (.inl rfl)
 have henv1:∀t,AG ρ (AF F1.X ρ s.H) w1 (s.env.get t) (a.tmps.getD t undef):=λt=>by rw[hF1X];exact(hs.env t).mono x
 have hc:=hiter (λρ' O w'=>Ao ρ (AF F1.X ρ s.H) w1 ρ' O w') l R DZ.ext λds H n Φ hY=>by
  obtain⟨q1,q2⟩:=hbody l ds H n Φ hY;exact XC (nt:=B.nt) (by rw[hs.nt];exact hB.nt) hps hd.2.1 hd.2.2 henv1 q1 q2
 have hargs:(fs ++ #[Value.func (.yield l) #[] #[]]++cs).size=(first++[D.clo (.yield l) [] []]++captured).length:=by simp[hnf,hnc];omega
 have hcall:=hc.2 F1 ρ w1 (fs ++ #[Value.func (.yield l) #[] #[]]++cs) m1 hXl hng (.refl _ _ _) hlw hs.fresh hs.gen hargs λi dd hdd=>by
  rw[Cr]at hdd;rw[Iz];rcases Aq i first.length with hi|hi
  ·rw[CT hi]at hdd
   have:(fs++(#[Value.func (.yield l) #[] #[]]++cs)).getD i undef=fs.getD i undef:=by
    simp only[AT];rw[D5 (by omega)]
   rw[this,hF1X];exact(hr1 i dd hdd).mono x
  ·rw[B8 hi]at hdd
   have e1:(fs++(#[Value.func (.yield l) #[] #[]]++cs)).getD i undef=(#[Value.func (.yield l) #[] #[]]++cs).getD (i-first.length) undef:=by
    simp only[AT];rw[D4 (by omega),hnf]
   rw[e1];cases hk:i-first.length with
   |zero=>
    rw[hk]at hdd;simp at hdd;subst hdd
    have:(#[Value.func (.yield l) #[] #[]]++cs).getD 0 undef=Value.func (.yield l) #[] #[]:=by
     rw[AT,D5 (by simp)];rfl
    rw[this];exact .clo rfl rfl (by simp) (by simp)
   |succ k=>
    rw[hk]at hdd;have hdd:captured[k]?=some dd:=by simpa using hdd
    have:(#[Value.func (.yield l) #[] #[]]++cs).getD (k+1) undef=cs.getD k undef:=by
     simp only[AT];rw[D4 (by simp)];simp
    rw[this,hF1X];exact(hr2 k dd hdd).mono x
 refine⟨l,[{ target:=.collected d,args:=#[] }],w1,{ target:=.fn (.func fi) cs,args:=fs ++ #[Value.func (.yield l) #[] #[]] },w1,fi,fs ++ #[Value.func (.yield l) #[] #[]]++cs,w1,run_enterLoop_outer _ _ _ _ _,?_,λ_ _=>trivial,?_,IR,IP.2 (hcall.mono ?_)⟩
 ·unfold resolve
  simp only[hv];have e:(#[Operand.const (Value.func (.yield l) #[] #[])]).map a.eval = #[Value.func (.yield l) #[] #[]]:=by simp[Act.eval]
  rw[e];rfl
 ·unfold invoke
  exact Ns hc.1 _ w1
 ·rintro e w' ⟨v,j,dd,H',n',ρ',rfl,hΨ,hl',m',x',fr,gn,rep⟩
  have hend':=hend j dd H' n' F1 hΨ;have m'':AQ C F1 ρ' H' w':=Mn m' rfl rfl rfl (λb hb=>by
   rcases hb with hb|hb
   ·exact hb
   ·rw[hb];exact hF1W) m1.gw
  have m3:=m''.putL hXl hF1W (r:=R.lp (if j.isNone then .ready else .done) j) hl' (.loop { R.lp (if j.isNone then .ready else .done) j with state:=.exhausted });have x3:=Ao.putL (ρ:=ρ') (O:=AF F1.X ρ' H') (w:=w') (.inl hXl) (r:=R.lp (if j.isNone then .ready else .done) j) hl' (.loop { R.lp (if j.isNone then .ready else .done) j with state:=.exhausted });refine⟨j,_,run_endLoop (r:=R.lp (if j.isNone then .ready else .done) j) hl' (by cases j<;>simp[LR.lp]),?_⟩;generalize w'.putObj l (.loop { R.lp (if j.isNone then .ready else .done) j with state:=.exhausted })=w3 at m3 x3⊢;have sat:Aw C F1 ρ' ⟨s.env,H',n'⟩ { a with defers:=[{ target:=.collected d,args:=#[] }]++a.defers } w3:=by
   refine⟨m3,fr,gn,λt=>((henv1 t).mono x').mono x3,?_,?_⟩
   ·show a.tmps.size=_
    rw[hs.nt,hF1.nt]
   ·show _++a.defers=_
    rw[hs.dfr,<-hF1d];rfl
  cases j with
  |none=>exact⟨F1,_,ρ',hB1,hend',sat⟩
  |some c=>
   cases c<;>first|exact hend'.elim|skip
   ·exact wpIn_exit ⟨F1,_,ρ',hB1,hend',sat⟩
   ·exact wpIn_goto ⟨F1,_,ρ',hB1,hend',sat⟩
   ·exact wpIn_ret ⟨F1,_,ρ',hB1,hend',sat⟩
end
section
variable {C:AZ} {X:EV} {E:DZ} {l:Nat} {R:LR} {F B:AI} {ρ:Lk} {H:Hp} {w:World} {ops:Array Oper} {s:St} {Q:Exit->AI->St->Prop}
theorem Wl {s:St}{o:Oper}{fop:Operand}{args:Array Operand}{tys:Array Nat}{a:Act}{k g:Nat}(ho:o.op=.call ⟨.value fop,args,tys⟩)(hf:AV s.env fop=.oyl k g)(hl:ρ k g=some l)(hs:Aw C F ρ s a w):
  ∃vs,(execOp a.eval o).run C.P w=(Instr.yield l vs).run C.P w/\vs.size=(args.toList.map (AV s.env)).length /\
   ∀(i:Nat) (d:D),(args.toList.map (AV s.env))[i]?=some d->AG ρ (AF F.X ρ s.H) w d (vs.getD i undef):=by
 have hfr:=BN hs.env fop;rw[hf]at hfr;generalize hv:a.eval fop=v at hfr;cases hfr with
 |oyl hr=>
  rw[hl]at hr;cases hr;refine⟨args.map a.eval,?_,by simp,λi d hd=>?_⟩
  ·unfold execOp
   simp only[ho];rw[run_bind]
   have:(resolve a.eval ⟨.value fop,args,tys⟩ o.type).run C.P w=.ok { target:=.fn (.yield l) #[],args:=#[]++args.map a.eval } w:=by
    unfold resolve;simp only[hv];rfl
   rw[this];dsimp only;unfold invoke;simp
  ·simp only[Bf,FC,Gm]at hd
   obtain⟨x,hx,rfl⟩:=hd
   have:(args.map a.eval).getD i undef=a.eval x:=by simp[AT,hx]
   rw[this];exact BN hs.env x
theorem Wt {iy:Nat}{l2:List Nat}{o:Oper}{a:Act}{fop:Operand}{args:Array Operand}{tys:Array Nat}{k g:Nat}{Φ:Option Code->Hp->Nat->Prop}(hR:Hl C E B F l R)(hB:Bp C B F)(hd:ops.toList.all (CB B.nt)=true)
  (ho:ops[iy]?=some o) (hw:Am ops s.env o=some true) (hop:o.op=.call ⟨.value fop,args,tys⟩) (hf:AV s.env fop=.oyl k g) (hk:F.r0 k g=some l)
  (hY:Me C E l R (args.toList.map (AV s.env)) s.H s.n Φ) (hs:Aw C F ρ s a w)
  (h1:∀(H':Hp) (n':Nat) (ρ':Lk) (a':Act) (w':World),Φ none H' n'->Aw C F ρ' ⟨Ak s.env o.dst (Ai true),H',n'⟩ a' w'->wpOpsIn (fw none) 0 C.P ops (DA C B Q) l2 a' w')
  (h2:∀(c:Code) (H':Hp) (n':Nat) (ρ':Lk) (a':Act) (w':World) (F2:AI),Φ (some c) H' n'->Bp C B F2->Hq C l R (some c) F2->Aw C F2 ρ' ⟨Ak s.env o.dst (Ai false),H',n'⟩ a' w'->wpOpsIn (fw none) 0 C.P ops (DA C B Q) l2 a' w'):
  wpOpsIn (fw none) 0 C.P ops (DA C B Q) (iy::l2) a w:=by
 have hdo:CB B.nt o=true:=CF.1 hd o (Dc.2 (FD ho));simp only[wpOpsIn,ho];rw[AM (FK hs.env hw)];obtain⟨vs,r1,r2,r3⟩:=Wl hop hf (hs.mem.lnk _ _ _ hk) hs;have hst:=hR.stat hs.mem;obtain⟨q1,q2⟩:=hY F ρ w vs hs.mem hR.X hR.ng (hR.ext hs.mem) hst hs.fresh hs.gen r2 r3;have hrun:(execOp a.eval o).run C.P w=.ok (.round l R.fn ((R.ps.zip vs).foldl (λtmps (t,a)=>tmps.setIfInBounds t a) R.tmps) R.as R.bd) w:=by
  rw[r1,run_yield (r:=R.lp .ready none) hst q1];rfl
 refine Vh hrun (q2.mono ?_);rintro e w' ⟨v,j,d,H',n',ρ',rfl,⟨rfl,hΦ⟩,hl,m',x,fr,gn,rep⟩;refine⟨v,rfl,?_⟩;have hsw:Aw C (F.wr l) ρ s a w:=hs.reframe (hs.mem.wr hR.ng) rfl rfl rfl;have hs1:Aw C (F.wr l) ρ' ⟨Ak s.env o.dst (Ai j.isNone),H',n'⟩ (a.put o.dst v) w':=hsw.put m' x fr gn rep (by rw[show(F.wr l).nt=B.nt from hB.nt];exact hdo);cases j with
 |none=>exact h1 _ _ _ _ _ hΦ (hs1.reframe (m'.unwr hR.X (by rw[hl,hR.at0])) rfl rfl rfl)
 |some c=>
  let F2:=AI.subZ ρ' H' w' F.nt F.X (λ_=>False) F.df
  have m2:AQ C F2 ρ' H' w':=m'.enterZ (.refl _ _ _) rfl rfl rfl (λ_ _ _=>rfl) (λ_ _ _ _ h=>h) (λb hb=>CU (m'.xlt b hb) m'.size) (λe he b hb=>(m'.hok.own e he b hb).1) (λ_ h=>h.elim) _ _;have hlw:l<w'.heap.size:=(Bo.1 hl).1;have hst2:Hq C l R (some c) F2:=λ{ρ'' H'' w''} m3=>by
   have:=m3.blk l hlw (by
    rintro(⟨e,he,h⟩|h)
    ·exact(m'.hok.own e he l h).1 hR.X
    ·exact h)
   exact this.trans hl
  have hB2:Bp C B F2:=⟨hB.nt,Az hB.sz (Az hs.mem.size x.size),λm3=>hR.up (m'.leaveZ (λ_ h=>h) (λ_ h=>h.elim) m3).1,hB.X,[],hR.df,[],rfl,.nil,by simp⟩
  exact h2 _ _ _ _ _ _ F2 hΦ hB2 hst2 (hs1.reframe m2 rfl rfl rfl)
end
abbrev YH:=List D->Hp->Nat->Option (Option Code×Hp×Nat)
noncomputable def UA (kY gY:Nat)(e:ET)(o:Oper):Option (List D):=match o.op with
 | .call ⟨.value fop,args,_⟩=>match Fq e fop with
  | .oyl k g=>match Nat.beq k kY&&Nat.beq g gY with
   |true=>some (args.toList.map (Fq e))
   |false=>none
  |_=>none
 |_=>none
noncomputable def S5 (X:EV)(cl:BG)(yf:YH)(kY gY:Nat)(ops:Array Oper)(e:ET)(H:Hp)(n:Nat)(j:Option Code)(o:Oper):Option (D×Hp×Nat×Option Code):=match Ic X cl ops ⟨e,H,n⟩ o with
 |some (d,H',n')=>some (d,H',n',j)
 |none=>match j with
  |some _=>none
  |none=>match UA kY gY e o with
   |some ds=>match Ho ops e o with
    |some true=>match yf ds H n with
     |some (j',H',n')=>some (Ai j'.isNone,H',n',j')
     |none=>none
    |_=>none
   |none=>none
noncomputable def Mi (X:EV)(cl:BG)(yf:YH)(kY gY:Nat)(ops:Array Oper):List Nat->ET->Hp->Nat->Option Code->Option (ES×Option Code)
 | [],e,H,n,j=>some (⟨e,H,n⟩,j)
 |i::l,e,H,n,j=>match ops[i]? with
  |some o=>match S5 X cl yf kY gY ops e H n j o with
   |some (d,H',n',j')=>Mi X cl yf kY gY ops l (M7 e o.dst d) H' n' j'
   |none=>none
  |none=>none
structure Lf (C:AZ)(B:AI)(E:DZ)(l:Nat)(R:LR)(yf:YH)(kY gY:Nat)(I:AI->Option Code->Prop):Prop where
 rdy:∀F,I F none->∀ds H n r,yf ds H n=some r->Hl C E B F l R/\F.r0 kY gY=some l/\Me C E l R ds H n (λj H1 n1=>j=r.1/\H1=r.2.1/\n1=r.2.2)
 gone:∀ds H n r,yf ds H n=some r->∀F c,Hq C l R (some c) F->I F (some c)
section
variable {C:AZ} {X:EV} {cl:BG} {E:DZ} {l:Nat} {R:LR} {B:AI} {yf:YH} {kY gY:Nat} {I:AI->Option Code->Prop} {ops:Array Oper} {Q:Exit->AI->St->Prop}
theorem Ln {rd:Option Nat}(hX:CN C X)(hcl:DW C cl)(hY:Lf C B E l R yf kY gY I)(hrd:∀ds H n r,yf ds H n=some r->rd=none)(hnd:DM ops.toList=true)(hd:ops.toList.all (CB B.nt)=true){r:ES×Option Code}:
  ∀(l2:List Nat) (e:ET) (s:St) (j:Option Code) (F:AI) (ρ:Lk) (a:Act) (w:World),Mi X cl yf kY gY ops l2 e s.H s.n j=some r->Mt e s.env->I F j->Bp C B F->Aw C F ρ s a w ->
   (∀F' env' ρ' a' w',Bp C B F'->I F' r.2->Mt r.1.env env'->Aw C F' ρ' ⟨env',r.1.H,r.1.n⟩ a' w'->DA C B Q .normal a' w')->wpOpsIn (fw rd) 0 C.P ops (DA C B Q) l2 a w
 | [],e,s,j,F,ρ,a,w,h,hm,hi,hB,hs,hk=>by
  cases(show some (⟨e,s.H,s.n⟩,j)=some r from h);exact hk F s.env ρ a w hB hi hm hs
 |i::l2,e,s,j,F,ρ,a,w,h,hm,hi,hB,hs,hk=>by
  simp only[Mi]at h;split at h<;>try(cases h;done)
  rename_i o ho;split at h<;>try(cases h;done)
  rename_i d H' n' j' hst;have hlt:i<ops.size:=(Bo.1 ho).1;unfold S5 at hst;split at hst
  ·rename_i hev
   cases hst;have hdF:ops.toList.all (CB F.nt)=true:=by rw[hB.nt];exact hd
   have h1:AR C F ops ([i].map λj=>ops.getD j default) s (λs1=>Mt (M7 e o.dst d) s1.env/\s1.H=H'/\s1.n=n'):=by
    have e1:([i].map λj=>ops.getD j default)=[o]:=by simp[AT,ho]
    rw[e1];exact Qt hX hcl hm hev (AR.nil ⟨hm.put _ _,rfl,rfl⟩)
   have h2:=h1.run (λj hj=>by simp at hj;subst hj;exact hlt) hdF hs;show wpOpsIn (fw rd) 0 C.P ops (DA C B Q) ([i]++l2) a w;refine EP (rd:=rd) (Q:=DA C B Q) (l2:=l2) (λe1 a1 w1 hf=>?_) (F8 hnd) [i] _ _ h2;obtain⟨h0,s1,ρ1,⟨k1,rfl,rfl⟩,k2⟩:=hf;exact⟨h0,Ln hX hcl hY hrd hnd hd l2 _ s1 j F ρ1 a1 w1 h k1 hi hB k2 hk⟩
  ·split at hst<;>try(cases hst;done)
   split at hst<;>try(cases hst;done)
   rename_i ds hds;split at hst<;>try(cases hst;done)
   rename_i hw;split at hst<;>try(cases hst;done)
   rename_i j1 H1 n1 hyf;cases hst;rw[MD hm]at hw;unfold UA at hds;split at hds<;>try(cases hds;done)
   rename_i fop args tys hop;split at hds<;>try(cases hds;done)
   rename_i k g hf;split at hds<;>try(cases hds;done)
   rename_i hb;cases hds;simp only[Ag]at hb;have e1:=Ae hb.1;have e2:=Ae hb.2;rw[IX hm]at hf hyf;rw[e1,e2]at hf;obtain⟨q1,q2,q3⟩:=hY.rdy F hi _ _ _ _ hyf;have hfw:fw rd=fw none:=by rw[hrd _ _ _ _ hyf]
   rw[hfw];refine Wt q1 hB hd ho hw hop hf q2 q3 hs (λH' n' ρ' a' w' hΦ hs'=>?_) λc H' n' ρ' a' w' F2 hΦ hB2 hst2 hs'=>?_
   ·obtain⟨rfl,rfl,rfl⟩:=hΦ
    rw[<-hfw];exact Ln hX hcl hY hrd hnd hd l2 _ _ none F ρ' a' w' h (hm.put _ _) hi hB hs' hk
   ·obtain⟨rfl,rfl,rfl⟩:=hΦ
    rw[<-hfw];exact Ln hX hcl hY hrd hnd hd l2 _ _ (some c) F2 ρ' a' w' h (hm.put _ _) (hY.gone _ _ _ _ hyf F2 c hst2) hB2 hs' hk
theorem VC {cp:Bx}(hX:CN C X)(hcl:DW C cl)(hcp:EN C cp){F:AI}{s s':ES}(h:JS X cl cp ops s=some s'){st:St}(ha:At s st):Eu C F ops st (isS .normal s'):=by
 unfold JS CI at h;split at h
 ·rename_i h0
  cases h;exact Lm hX hcl hcp h0 ha
 ·split at h<;>try(cases h;done)
  exact N9 (λe s hs=>hs.1) (Lm hX hcl hcp h ha)
end
noncomputable def K9 (f:ES->Option Code->Option (Exit×ES×Option Code)):Nat->ES->Option Code->Option (Exit×ES×Option Code)
 | 0,_,_=>none
 |k+1,s,j=>match f s j with
  |some (.normal,s',j')=>K9 f k s' j'
  |r=>r
abbrev KH:=Operand->Array Nat->Code->Code->ES->Option (Exit×ES)
noncomputable def C1 (X:EV)(cl:BG)(cp:Bx)(lf:Nat)(yf:YH)(kY gY:Nat)(rg:KH):Code->ES->Option Code->Option (Exit×ES×Option Code)
 | .skip,s,j=>some (.normal,s,j)
 | .region _ ops draw,s,j=>match DM ops.toList with
  |true=>match draw with
   |true=>match JS X cl cp ops s with
    |some s'=>some (.normal,s',j)
    |none=>none
   |false=>match Mi X cl yf kY gY ops (List.range ops.size) s.env s.H s.n j with
    |some (s',j')=>some (.normal,s',j')
    |none=>none
  |false=>none
 | .seq a b,s,j=>match C1 X cl cp lf yf kY gY rg a s j with
  |some (.normal,s',j')=>C1 X cl cp lf yf kY gY rg b s' j'
  |r=>r
 | .cond c a b,s,j=>match Fq s.env c with
  | .prim (.bool true)=>C1 X cl cp lf yf kY gY rg a s j
  | .prim (.bool false)=>C1 X cl cp lf yf kY gY rg b s j
  |_=>none
 | .block i b,s,j=>match C1 X cl cp lf yf kY gY rg b s j with
  |some (.exit k,s',j')=>match Nat.beq k i with
   |true=>some (.normal,s',j')
   |false=>some (.exit k,s',j')
  |r=>r
 | .loop b,s,j=>K9 (C1 X cl cp lf yf kY gY rg b) lf s j
 | .exit i,s,j=>some (.exit i,s,j)
 | .ret,s,j=>some (.ret,s,j)
 | .rangeFunc g ps as bd,s,j=>match rg g ps as bd s with
  |some (e,s')=>some (e,s',j)
  |none=>none
 |_,_,_=>none
section
variable {C:AZ} {X:EV} {cl:BG} {cp:Bx} {E:DZ} {l:Nat} {R:LR} {B:AI} {yf:YH} {kY gY:Nat} {I:AI->Option Code->Prop} {rg:KH} {rd:Option Nat}
def NU (I:AI->Option Code->Prop)(r:Exit×ES×Option Code):Exit->AI->St->Prop:=λe1 F' s1=>e1=r.1/\At r.2.1 s1/\I F' r.2.2
def PT (C:AZ)(B:AI)(rd:Option Nat)(I:AI->Option Code->Prop)(rg:KH):Prop:=∀g ps as bd s e s',rg g ps as bd s=some (e,s')->∀(F:AI) (st:St) (j:Option Code),At s st->I F j->AO C B rd F (.rangeFunc g ps as bd) st (NU I (e,s',j))
theorem Wz {b:Code}{f:ES->Option Code->Option (Exit×ES×Option Code)}{r:Exit×ES×Option Code}
  (hf:∀s j r,f s j=some r->∀(F:AI) (st:St),At s st->I F j->AO C B rd F b st (NU I r)) {m0:Nat} {s0:ES} {j0:Option Code} (h:K9 f m0 s0 j0=some r) {F:AI} {st:St} (ha:At s0 st) (hi:I F j0):AO C B rd F (.loop b) st (NU I r):=by
 refine⟨λhB hd ρ x w hsat=>?_⟩;have hd':B6 B.nt b=true:=by simpa[B6]using hd
 refine P4 (λm x w=>∃(F':AI) (s:ES) (j:Option Code) (s1:St) (ρ:Lk),Bp C B F'/\I F' j/\At s s1/\K9 f m s j=some r/\Aw C F' ρ s1 x w) (m:=m0) ⟨F,s0,j0,st,ρ,hB,hi,ha,h,hsat⟩ ?_;rintro m x w ⟨F',s,j,s1,ρ,hF,hi,ha,hl,hsat⟩;cases m with
 |zero=>cases hl
 |succ m=>
  simp only[K9]at hl;cases hfs:f s j with
  |none=>rw[hfs]at hl;cases hl
  |some q=>
   obtain⟨e,s',j'⟩:=q;refine wpIn_mono ((hf s j _ hfs F' s1 ha hi).out hF hd' ρ x w hsat) ?_;rintro e1 a' w' ⟨F2,s2,ρ2,h1,⟨rfl,h3,h4⟩,h5⟩;rw[hfs]at hl;cases e1 with
   |normal=>exact⟨m,Ft _,F2,s',j',s2,ρ2,h1,h4,h3,hl,h5⟩
   |ret=>cases hl;exact⟨F2,s2,ρ2,h1,⟨rfl,h3,h4⟩,h5⟩
   |exit i=>cases hl;exact⟨F2,s2,ρ2,h1,⟨rfl,h3,h4⟩,h5⟩
   |goto i=>cases hl;exact⟨F2,s2,ρ2,h1,⟨rfl,h3,h4⟩,h5⟩
   |panic i=>cases hl;exact⟨F2,s2,ρ2,h1,⟨rfl,h3,h4⟩,h5⟩
   |outgrown=>cases hl;exact⟨F2,s2,ρ2,h1,⟨rfl,h3,h4⟩,h5⟩
theorem Fj (hX:CN C X)(hcl:DW C cl)(hcp:EN C cp)(hY:Lf C B E l R yf kY gY I)(hrd:∀ds H n r,yf ds H n=some r->rd=none)(hrg:PT C B rd I rg){lf:Nat}:
  ∀ {c:Code} {s:ES} {j:Option Code} {r:Exit×ES×Option Code},C1 X cl cp lf yf kY gY rg c s j=some r->∀(F:AI) (st:St),At s st->I F j->AO C B rd F c st (NU I r)
 | .skip,s,j,r,h,F,st,ha,hi=>by
  simp only[C1,Af]at h;subst h;exact AO.skip ⟨rfl,ha,hi⟩
 | .ret,s,j,r,h,F,st,ha,hi=>by
  simp only[C1,Af]at h;subst h;exact AO.ret ⟨rfl,ha,hi⟩
 | .exit i,s,j,r,h,F,st,ha,hi=>by
  simp only[C1,Af]at h;subst h;exact AO.exit ⟨rfl,ha,hi⟩
 | .region i ops draw,s,j,r,h,F,st,ha,hi=>by
  simp only[C1]at h;split at h<;>try(cases h;done)
  rename_i hnd;split at h
  ·split at h<;>try(cases h;done)
   rename_i s' hd;cases h;refine⟨λhB hdd ρ a w hs=>?_⟩;have hA:=VC hX hcl hcp hd ha (G3 hB hdd) ρ a w hs;refine wpIn_region_any hX.mixed (G2 (λe1 a1 w1 h1=>?_) (F8 hnd) _ _ _ _ hA);obtain⟨s1,ρ1,⟨h2,h3⟩,h4⟩:=h1;exact⟨h2,F,s1,ρ1,hB,⟨rfl,h3,hi⟩,h4⟩
  ·split at h<;>try(cases h;done)
   rename_i s' j' hd;cases h;obtain⟨env0,H0,n0⟩:=st;obtain⟨hm0,rfl,rfl⟩:=ha;refine⟨λhB hdd ρ a w hs=>wpIn_region ?_⟩;exact Ln hX hcl hY hrd hnd hdd (List.range ops.size) s.env ⟨env0,s.H,s.n⟩ j F ρ a w hd hm0 hi hB hs λF' env' ρ' a' w' h1 h2 h3 h4=>⟨F',_,ρ',h1,⟨rfl,⟨h3,rfl,rfl⟩,h2⟩,h4⟩
 | .seq a b,s,j,r,h,F,st,ha,hi=>by
  simp only[C1]at h;split at h
  ·rename_i s' j' h1
   refine AO.seq ((Fj hX hcl hcp hY hrd hrg h1 F st ha hi).mono λe F' s1 hq=>?_);obtain⟨rfl,h2,h3⟩:=hq;exact Fj hX hcl hcp hY hrd hrg h F' s1 h2 h3
  ·rename_i hne
   refine AO.seq ((Fj hX hcl hcp hY hrd hrg h F st ha hi).mono λe F' s1 hq=>?_);obtain⟨h1,h2,h3⟩:=hq;cases e with
   |normal=>obtain⟨re,rs,rj⟩:=r;exact AW h (by rw[show re=.normal from h1.symm];exact hne rs rj)
   |ret=>exact⟨h1,h2,h3⟩
   |exit i=>exact⟨h1,h2,h3⟩
   |goto i=>exact⟨h1,h2,h3⟩
   |panic i=>exact⟨h1,h2,h3⟩
   |outgrown=>exact⟨h1,h2,h3⟩
 | .cond c a b,s,j,r,h,F,st,ha,hi=>by
  simp only[C1]at h;have hg:=IX ha.1;rw[hg]at h;split at h<;>try(cases h;done)
  ·rename_i hc
   exact AO.cond (by unfold Ha;rw[hc];exact Fj hX hcl hcp hY hrd hrg h F st ha hi)
  ·rename_i hc
   exact AO.cond (by unfold Ha;rw[hc];exact Fj hX hcl hcp hY hrd hrg h F st ha hi)
 | .block i b,s,j,r,h,F,st,ha,hi=>by
  simp only[C1]at h;split at h
  ·rename_i k s' j' h1
   refine AO.block ((Fj hX hcl hcp hY hrd hrg h1 F st ha hi).mono λe F' s1 hq=>?_);obtain⟨rfl,h2,h3⟩:=hq;show Hd i _ _ (Exit.exit k);unfold Hd;dsimp only;split at h
   ·rename_i hk;cases h;rw[hk];exact⟨rfl,h2,h3⟩
   ·rename_i hk;cases h;rw[hk];exact⟨rfl,h2,h3⟩
  ·rename_i hne
   refine AO.block ((Fj hX hcl hcp hY hrd hrg h F st ha hi).mono λe F' s1 hq=>?_);obtain⟨h1,h2,h3⟩:=hq;cases e with
   |normal=>exact⟨h1,h2,h3⟩
   |ret=>exact⟨h1,h2,h3⟩
   |exit k=>obtain⟨re,rs,rj⟩:=r;exact AW h (by rw[show re=.exit k from h1.symm];exact hne k rs rj)
   |goto k=>exact⟨h1,h2,h3⟩
   |panic k=>exact⟨h1,h2,h3⟩
   |outgrown=>exact⟨h1,h2,h3⟩
 | .loop b,s,j,r,h,F,st,ha,hi=>by
  simp only[C1]at h;exact Wz (λs j r h F st ha hi=>Fj hX hcl hcp hY hrd hrg h F st ha hi) h ha hi
 | .rangeFunc g ps as bd,s,j,r,h,F,st,ha,hi=>by
  simp only[C1]at h;split at h<;>try(cases h;done)
  rename_i e s' hr;cases h;exact hrg g ps as bd s e s' hr F st j ha hi
 | .label _,_,_,_,h,_,_,_,_=>by simp[C1]at h
 | .scope _,_,_,_,h,_,_,_,_=>by simp[C1]at h
 | .goto _,_,_,_,h,_,_,_,_=>by simp[C1]at h
end
noncomputable def JX:List Nat->List D->ET->ET
 |t::ts,d::ds,e=>JX ts ds (e.put t d)
 |_,_,e=>e
theorem Qi:∀(ps:List Nat) (ds:List D) {e:ET} {env:Ab},Mt e env->Mt (JX ps ds e) (E4 ps ds env)
 | [],_,_,_,h=>by simpa[JX,E4]using h
 |_::_,[],_,_,h=>by simpa[JX,E4]using h
 |t::ts,d::ds,e,env,h=>by
  simp only[JX,E4];exact Qi ts ds (h.put (some t) d)
def NY:YH:=λ_ _ _=>none
def NX:KH:=λ_ _ _ _ _=>none
noncomputable def Ku (X:EV)(cl:BG)(cp:Bx)(lf:Nat)(ps:Array Nat)(as bd:Code)(e:ET):YH:=λds H n=>match Nat.beq ds.length ps.size with
 |true=>match C1 X cl cp lf NY 0 0 NX as ⟨JX ps.toList ds e,H,n⟩ none with
  |some (.normal,s1,none)=>match C1 X cl cp lf NY 0 0 NX bd s1 none with
   |some (ex,s2,_)=>match Q9 ex with
    |some j=>some (j,s2.H,s2.n)
    |none=>none
   |none=>none
  |_=>none
 |false=>none
section
variable {C:AZ} {X:EV} {cl:BG} {cp:Bx} {lf:Nat}
theorem PF {B:AI}{kY gY:Nat}{I:AI->Option Code->Prop}:Lf C B (λ_ _ _=>True) 0 ⟨0,#[],#[],.skip,.skip,0⟩ NY kY gY I:=⟨λ_ _ _ _ _ _ h=>(by cases h),λ_ _ _ _ h=>(by cases h)⟩
theorem Ot {B:AI}{rd:Option Nat}{I:AI->Option Code->Prop}:PT C B rd I NX:=λ_ _ _ _ _ _ _ h=>by cases h
theorem Vm (hX:CN C X)(hcl:DW C cl)(hcp:EN C cp){ps:Array Nat}{as bd:Code}{e:ET}{env:Ab}(hm:Mt e env){ds:List D}{H:Hp}{n:Nat}{r:Option Code×Hp×Nat}(h:Ku X cl cp lf ps as bd e ds H n=some r)(l:Nat):
  ds.length=ps.size/\∀F:AI,AO C F (some l) F as ⟨E4 ps.toList ds env,H,n⟩ λe F' s=>e=.normal/\F'=F/\∀F':AI,AO C F' (some l) F' bd s (Mf λj H1 n1=>j=r.1/\H1=r.2.1/\n1=r.2.2):=by
 unfold Ku at h;split at h<;>try(cases h;done)
 rename_i hl;split at h<;>try(cases h;done)
 rename_i s1 h1;split at h<;>try(cases h;done)
 rename_i ex s2 j2 h2;split at h<;>try(cases h;done)
 rename_i j hj;cases h;refine⟨Ae hl,λF=>?_⟩;refine(Fj (I:=λF' _=>F'=F) hX hcl hcp PF (λ_ _ _ _ h=>(by cases h)) Ot h1 F ⟨E4 ps.toList ds env,H,n⟩ ⟨Qi _ _ hm,rfl,rfl⟩ rfl).mono λe1 F1 st1 hq=>?_
 obtain⟨rfl,hat,rfl⟩:=hq;refine⟨rfl,rfl,λF2=>?_⟩;refine(Fj (I:=λ_ _=>True) hX hcl hcp PF (λ_ _ _ _ h=>(by cases h)) Ot h2 F2 st1 hat AA).mono λe2 F3 st3 hq=>?_
 obtain⟨rfl,hat2,_⟩:=hq;unfold Mf;rw[hj];exact⟨rfl,hat2.2.1,hat2.2.2⟩
end
section
variable {C:AZ} {F:AI} {ρ:Lk} {H:Hp} {w:World} {n l:Nat}
theorem AQ.named (m:AQ C F ρ H w)(hn:ρ n n=none)(hg:∀e∈H,e.g<n):AQ C F (ρ.put n n l) H w/\Ao ρ (AF F.X ρ H) w (ρ.put n n l) (AF F.X (ρ.put n n l) H) w:=by
 have hold:∀e∈H,ρ.put n n l e.k e.g=ρ e.k e.g:=λe he=>by
  unfold Lk.put;rw[AN λh=>by have:=hg e he;have h2:e.g=n:=h.2;omega]
 have hO:AF F.X (ρ.put n n l) H=AF F.X ρ H:=funext λb=>propext (or_congr Iff.rfl ⟨λ⟨e,he,h⟩=>⟨e,he,by rw[<-hold e he];exact h⟩,λ⟨e,he,h⟩=>⟨e,he,by rw[hold e he];exact h⟩⟩)
 have x:Ao ρ (AF F.X ρ H) w (ρ.put n n l) (AF F.X (ρ.put n n l) H) w:=⟨Ad _,λ_ _ _ h=>Jw hn h,λb _ h=>⟨by rw[hO];exact h,rfl⟩,λ_ cs _ _ h=>⟨cs,_,h,rfl⟩⟩
 refine⟨⟨⟨λe he=>?_,?_,λe he b hb=>m.hok.own e he b (by rw[<-hold e he];exact hb)⟩,m.os,m.tape,m.output,m.size,m.blk,m.xlt,m.g0,m.gn,m.gw,λ_ _ _ h=>x.link _ _ _ (m.lnk _ _ _ h),m.shp⟩,x⟩
 ·rcases m.hok.ent e he with⟨a1,a2⟩|⟨b,o,a1,a2,a3⟩
  ·exact .inl ⟨a1,by rw[hold e he];exact a2⟩
  ·exact .inr ⟨b,o,by rw[hold e he];exact a1,a2,a3.mono x⟩
 ·refine m.hok.inj.imp_of_mem λ{e1 e2} h1 h2 h b b' hb hb'=>h b b' (by rw[<-hold e1 h1];exact hb) (by rw[<-hold e2 h2];exact hb')
theorem dV {first captured:List D}{vs:Array Value}(x:Ao ρ (AF F.X ρ H) w (ρ.put n n l) (AF F.X (ρ.put n n l) H) w)
  (hr:∀(i:Nat) (d:D),(first++[D.clo (.yield l) [] []]++captured)[i]?=some d->AG ρ (AF F.X ρ H) w d (vs.getD i undef)) (i:Nat) (d:D) (hd:(first++[D.oyl n n]++captured)[i]?=some d):
  AG (ρ.put n n l) (AF F.X (ρ.put n n l) H) w d (vs.getD i undef):=by
 rw[Cr]at hd;rcases Aq i first.length with hi|hi
 ·rw[CT hi]at hd
  exact(hr i d (by rw[Cr,CT hi];exact hd)).mono x
 ·rw[B8 hi]at hd
  cases hk:i-first.length with
  |zero=>
   rw[hk]at hd;simp at hd;subst hd;have h1:=hr i (.clo (.yield l) [] []) (by rw[Cr,B8 hi,hk];rfl);generalize vs.getD i undef=v at h1⊢;cases h1 with
   |clo hf hc h3 h4=>
    rename_i fs cs;have e1:fs = #[]:=Array.eq_empty_of_size_eq_zero (by simpa using hf);have e2:cs = #[]:=Array.eq_empty_of_size_eq_zero (by simpa using hc);subst e1 e2;exact .oyl (CO _ _ _ _)
  |succ k=>
   rw[hk]at hd;have hd:captured[k]?=some d:=by simpa using hd
   exact(hr i d (by rw[Cr,B8 hi,hk];simpa using hd)).mono x
end
section
variable {C:AZ} {X:EV} {E:DZ} {l:Nat} {R:LR}
theorem iZ {f:Nat}{i:FI}{first captured:List D}{H:Hp}{n:Nat}{Φ:Option Code->D->Hp->Nat->Prop}(hX:Cb C X)(hE:DZ.ok E)(hf:Gs C.P f i)(hnt:Nat.ble (first++[D.oyl n n]++captured).length i.nt=true)
  (h:∀B F:AI,Hl C E B F l R->F.r0 n n=some l->AO C B none F i.code ⟨Ck 0 (first++[.oyl n n]++captured),H,n+1⟩ (YL C l R X.tt i.res Φ)):RO C E f (first++[.clo (.yield l) [] []]++captured) l R H n Φ:=by
 obtain⟨fn,hf,hb,hn,hd,hni,hres⟩:=hf;rw[<-hni]at hnt;refine⟨⟨fn,i.code,hf,hb,hn⟩,λF ρ0 w vs m0 hFl hng hEw0 hlw hfr0 hg hvs0 hr0=>?_⟩;obtain⟨m,x0⟩:=m0.named (n:=n) (l:=l) (hfr0 n n (Ad _)) hg;have hr1:∀(i:Nat) (d:D),(first++[D.oyl n n]++captured)[i]?=some d->AG (ρ0.put n n l) (AF F.X (ρ0.put n n l) H) w d (vs.getD i undef):=dV x0 hr0;have hvs:vs.size=(first++[D.oyl n n]++captured).length:=by rw[hvs0];simp
 have hfr:Ge (ρ0.put n n l) (n+1):=λk g hg=>by
  unfold Lk.put;rw[AN λhh=>by have h2:g=n:=hh.2;omega];exact hfr0 k g (by omega)
 have hgen:∀e∈H,e.g<n+1:=λe he=>BK (hg e he)
 have hEw:=hE _ _ _ _ _ _ hEw0 x0;have hput:(ρ0.put n n l) n n=some l:=CO _ _ _ _;generalize ρ0.put n n l=ρ at m x0 hr1 hfr hEw hput;have hnt:=BD hnt;refine(IP (rd:=none) (n:=0)).1 (callsIn_of_wp_marks hf hb AA ?_);have hltl:l<w.heap.size:=(Bo.1 hlw).1;have hol:∀e∈H,∀b,ρ e.k e.g=some b->b≠l:=λe he b hb hbl=>(m.hok.own e he b hb).1 (by rw[hbl];exact hFl)
 have ent:∀Z:Nat->Prop,(∀b,Z b->b=l)->AQ C (AI.subZ ρ H w fn.ntmps F.X Z []) ρ H w:=λZ hZ=>m.enterZ (.refl _ _ _) rfl rfl rfl (λ_ _ _=>rfl) (λe he b hb hz=>hol e he b hb (hZ b hz)) (λb hb=>CU (m.xlt b hb) m.size)
  (λe he b hb=>(m.hok.own e he b hb).1) (λb hz=>by rw[hZ b hz];exact hng) _ _
 let B:=AI.subZ ρ H w fn.ntmps F.X (λb=>b=l) []
 let F0:=AI.subZ ρ H w fn.ntmps F.X (λ_=>False) []
 have mB:AQ C B ρ H w:=ent _ λ_ h=>h
 have mF:AQ C F0 ρ H w:=ent _ λ_ h=>h.elim
 have hBg:∀b,B.Wr b->C.nG<=b:=mB.gw;have upB:∀ {ρ':Lk} {H':Hp} {w':World},AQ C (F0.wr l) ρ' H' w'->AQ C B ρ' H' w':=λm'=>Mn m' rfl rfl rfl (λb hb=>by
  rcases hb with(hb|hb)|hb
  ·exact .inl hb
  ·exact hb.elim
  ·exact .inr hb) hBg
 have upF:∀ {ρ':Lk} {H':Hp} {w':World},AQ C F0 ρ' H' w'->AQ C B ρ' H' w':=λm'=>upB (m'.wr hng)
 have hB:Bp C B F0:=⟨rfl,Ad _,upF,λ_ h=>h,[],rfl,[],rfl,.nil,by simp⟩
 have mw:=m.wr hng;have lv:∀ {ρ':Lk} {H':Hp} {w':World},AQ C B ρ' H' w'->AQ C (F.wr l) ρ' H' w'/\Ao ρ (AF F.X ρ H) w ρ' (AF F.X ρ' H') w':=λ{ρ' H' w'} m'=>by
  obtain⟨q1,q2⟩:=mw.leaveZ (X':=F.X) (Z:=λb=>b=l) (λ_ h=>h) (λb hb=>.inr (.inr hb)) m';refine⟨q1,?_⟩
  have:(λb=>AF F.X ρ H b\/b=l)=AF F.X ρ H:=funext λb=>propext ⟨λh=>h.elim id λh=>.inl (by rw[h];exact hFl),.inl⟩
  have q2:Ao ρ (λb=>AF F.X ρ H b\/b=l) w ρ' (AF F.X ρ' H') w':=q2
  rwa [this]at q2
 have hR:Hl C E B F0 l R:=⟨hFl,λh=>by
  rcases h with⟨e,he,h⟩|h
  ·exact hol e he l h rfl
  ·exact h.elim,hlw,upB,hng,rfl,λ{ρ' H' w'} m'=>hE _ _ _ _ _ _ hEw (lv (upF m')).2⟩
 have sat:Aw C F0 ρ ⟨Ck 0 (first++[.oyl n n]++captured),H,n+1⟩ { tmps:=vs++Array.replicate (fn.ntmps-vs.size) undef,defers:=[] } w:=
  ⟨mF,hfr,hgen,MV hvs hr1,by simp only[F0,AI.subZ,DP,Array.size_replicate];omega,rfl⟩
 refine wpIn_mono ((h B F0 hR hput).out hB hd ρ _ w sat) ?_;rintro e a' w' ⟨F',s',ρ',hF,hq,hs'⟩;have key:(∃j,Hq C l R j F'/\E6 X.tt s' i.res λd=>Φ j d s'.H s'.n)->LeavesInM (fw none) 0 C.P fn a'.tmps (Mg C F l R ρ0 H w Φ) a'.defers .returning w':=λ⟨j,hst,hq⟩=>by
  obtain⟨d,p,h1,h2,h3⟩:=ME hq;rw[<-hres]at h1;obtain⟨v,w2,_,hl,mB2,r2,hXX,x,hbl,hsz,F2,m2,hX2⟩:=hF.finish hX.tt rfl hs' h1 h2;obtain⟨m',x'⟩:=lv mB2;exact hl _ ⟨v,j,d,_,_,ρ',rfl,h3,(hbl l hltl).trans (hst hs'.mem),m',x0.trans x',hs'.fresh,hs'.gen,r2.anti λb hb=>hb.imp (hXX b) id⟩
 cases e with
 |normal=>exact key hq
 |ret=>exact key hq
 |_=>exact hq.elim
end
def Tg:Exit->Bool
 | .normal | .ret=>true
 |_=>false
def UT:Option Code->Option Exit
 |none=>some .normal
 |some .ret=>some .ret
 |some (.exit i)=>some (.exit i)
 |_=>none
noncomputable def PZ (X:EV)(cl:BG)(cp:Bx)(lf:Nat):KH:=λg ps as bd s=>match Fq s.env g with
 | .clo (.func fi) first captured=>match X.ft fi with
  |some i=>match Nat.ble (first++[D.oyl s.n s.n]++captured).length i.nt with
   |true=>match i.res with
    | []=>match C1 X cl cp lf (Ku X cl cp lf ps as bd s.env) s.n s.n NX i.code ⟨Jl 0 (first++[D.oyl s.n s.n]++captured),s.H,s.n+1⟩ none with
     |some (ex,s3,j)=>match Tg ex with
      |true=>match UT j with
       |some e=>some (e,⟨s.env,s3.H,s3.n⟩)
       |none=>none
      |false=>none
     |none=>none
    |_::_=>none
   |false=>none
  |none=>none
 |_=>none
def g9 (C:AZ)(E:DZ)(B:AI)(l:Nat)(R:LR)(n:Nat)(F:AI)(j:Option Code):Prop:=match j with
 |none=>Hl C E B F l R/\F.r0 n n=some l
 |some c=>Hq C l R (some c) F
section
variable {C:AZ} {X:EV} {cl:BG} {cp:Bx} {lf:Nat} {B:AI}
theorem XS (hX:CN C X)(hcl:DW C cl)(hcp:EN C cp):PT C B none (λ_ _=>True) (PZ X cl cp lf):=λg ps as bd s e s' h F st j0 ha _=>by
 unfold PZ at h;split at h<;>try(cases h;done)
 rename_i fi first captured hg
 split at h<;>try(cases h;done)
 rename_i i hft;split at h<;>try(cases h;done)
 rename_i hnt;split at h<;>try(cases h;done)
 rename_i hres;split at h<;>try(cases h;done)
 rename_i ex s3 j hev;split at h<;>try(cases h;done)
 rename_i hex;split at h<;>try(cases h;done)
 rename_i e0 hj;cases h;obtain⟨env0,H0,n0⟩:=st;obtain⟨hm0,rfl,rfl⟩:=ha;rw[IX hm0]at hg;refine AO.rangeFunc (fi:=fi) (first:=first) (captured:=captured) (Ψ:=λj1 _ H1 n1=>j1=j/\H1=s3.H/\n1=s3.n) hg
  (λds H n Φ=>∃r,Ku X cl cp lf ps as bd s.env ds H n=some r/\Φ=λj H1 n1=>j=r.1/\H1=r.2.1/\n1=r.2.2) (λl ds H n Φ hY=>?_) (λE l R hE hYd=>?_) λj1 d H1 n1 F' hΨ=>?_
 ·obtain⟨r,hr,rfl⟩:=hY
  exact Vm hX hcl hcp hm0 hr l
 ·refine iZ hX.w hE (hX.ft _ _ hft) hnt λB1 F1 hR hk=>?_
  have hYok:Lf C B1 E l R (Ku X cl cp lf ps as bd s.env) s.n s.n (g9 C E B1 l R s.n):=⟨λF hI ds H n r hr=>⟨hI.1,hI.2,hYd ds H n _ ⟨r,hr,rfl⟩⟩,λ_ _ _ _ _ F c hst=>hst⟩
  refine(Fj hX hcl hcp hYok (λ_ _ _ _ _=>rfl) Ot hev F1 ⟨Ck 0 (first++[.oyl s.n s.n]++captured),s.H,s.n+1⟩ ⟨MU _ _,rfl,rfl⟩ ⟨hR,hk⟩).mono λe1 F2 s1 hq=>?_
  obtain⟨rfl,hat,hI⟩:=hq;have hst:Hq C l R j F2:=by
   cases j with
   |none=>exact(show Hl C E B1 F2 l R/\_ from hI).1.stat
   |some c=>exact hI
  have hw:E6 X.tt s1 i.res λd=>j=j/\s1.H=s3.H/\s1.n=s3.n:=by
   rw[hres];exact⟨trivial,rfl,hat.2.1,hat.2.2⟩
  cases e1 with
  |normal=>exact⟨j,hst,hw⟩
  |ret=>exact⟨j,hst,hw⟩
  |exit i=>cases hex
  |goto i=>cases hex
  |panic i=>cases hex
  |outgrown=>cases hex
 ·obtain⟨rfl,rfl,rfl⟩:=hΨ
  unfold UT at hj;split at hj<;>try(cases hj;done)
  ·cases hj;exact⟨rfl,⟨hm0,rfl,rfl⟩,trivial⟩
  ·cases hj;exact⟨rfl,⟨hm0,rfl,rfl⟩,trivial⟩
  ·cases hj;exact⟨rfl,⟨hm0,rfl,rfl⟩,trivial⟩
end
noncomputable def Md (X:EV)(cl:BG)(cp:Bx)(lf f:Nat)(ds:List D)(H:Hp)(n:Nat):Option (D×Hp×Nat):=match X.ft f with
 |some i=>match Nat.ble ds.length i.nt with
  |true=>match C1 X cl cp lf NY 0 0 (PZ X cl cp lf) i.code ⟨Jl 0 ds,H,n⟩ none with
   |some (ex,s,_)=>match Tg ex with
    |true=>Jd X.tt ⟨IC s.env i.res,s.H,s.n⟩ i.res
    |false=>none
   |none=>none
  |false=>none
 |none=>none
noncomputable def MO (X:EV)(cl:BG)(cp:Bx)(lf f:Nat)(ds:List D):Option D:=match X.orc f ds with
 |some d=>some d
 |none=>match X.np f with
  |true=>none
  |false=>match D0 (Dn 20) ds with
   |true=>match Md X cl cp lf f ds [] 0 with
    |some (d,H,_)=>Gr 20 H d
    |none=>none
   |false=>none
noncomputable def DN (X:EV)(lf:Nat):Nat->Bx×BG
 | 0=>(λ_ _=>none,λ_ _ _ _=>none)
 |fu+1=>(λf ds=>match X.np (7000000+f)with
   |true=>MO X (DN X lf fu).2 (DN X lf fu).1 lf f ds
   |false=>JW X (DN X lf fu).2 (DN X lf fu).1 lf f ds,
  λf ds H n=>match X.np (7000000+f)with
   |true=>match MO X (DN X lf fu).2 (DN X lf fu).1 lf f ds with
    |some d=>some (d,H,n+1)
    |none=>Md X (DN X lf fu).2 (DN X lf fu).1 lf f ds H n
   |false=>match JW X (DN X lf fu).2 (DN X lf fu).1 lf f ds with
    |some d=>some (d,H,n+1)
    |none=>match K6 X (DN X lf fu).2 (DN X lf fu).1 lf f ds H n with
     |some (d,H',n')=>Hn (X.np (2000000+f)) n (Hu d n []) H' (λH2=>some (d,H2,n')) (λH1=>J7 n d H1 λH2=>some (d,H2,n'))
     |none=>none)
section
variable {C:AZ} {X:EV} {cl:BG} {cp:Bx}
theorem Qy (hX:CN C X)(hcl:DW C cl)(hcp:EN C cp){lf f:Nat}{ds:List D}{H H':Hp}{n n':Nat}{d:D}(h:Md X cl cp lf f ds H n=some (d,H',n')):
  ∃i,Gs C.P f i/\Nat.ble ds.length i.nt=true/\∀F:AI,AO C F none F i.code ⟨Ck 0 ds,H,n⟩ (SG X.tt i.res λd1 H1 n1=>d1=d/\H1=H'/\n1=n'):=by
 unfold Md at h;split at h<;>try(cases h;done)
 rename_i i hi;split at h<;>try(cases h;done)
 rename_i hb;split at h<;>try(cases h;done)
 rename_i ex s j hc;split at h<;>try(cases h;done)
 rename_i hex;obtain⟨p,b1,b2,b3,b4⟩:=RU h;refine⟨i,hX.ft f i hi,hb,λF=>(Fj (I:=λ_ _=>True) hX hcl hcp PF (λ_ _ _ _ h=>(by cases h)) (XS hX hcl hcp) hc F ⟨Ck 0 ds,H,n⟩ ⟨MU ds 0,rfl,rfl⟩ AA).mono λe1 F1 s1 hq=>?_⟩;obtain⟨rfl,ha,_⟩:=hq;have hw:E6 X.tt s1 i.res λd1=>d1=d/\s1.H=H'/\s1.n=n':=by
  unfold E6;rw[<-Ry ha,b1];exact⟨b2,rfl,by rw[ha.2.1];exact b3.symm,by rw[ha.2.2];exact b4.symm⟩
 cases e1 with
 |normal=>exact hw
 |ret=>exact hw
 |exit i=>cases hex
 |goto i=>cases hex
 |panic i=>cases hex
 |outgrown=>cases hex
theorem QQ (hX:CN C X)(hcl:DW C cl)(hcp:EN C cp){lf f:Nat}{ds:List D}{d:D}(h:MO X cl cp lf f ds=some d):Aa C f ds d/\AS ds:=by
 unfold MO at h;split at h
 ·rename_i ho;cases h;exact hX.orc _ _ _ ho
 ·split at h<;>try(cases h;done)
  split at h<;>try(cases h;done)
  rename_i hp;split at h<;>try(cases h;done)
  rename_i d0 H0 n0 hr;obtain⟨i,a1,a2,a3⟩:=Qy hX hcl hcp hr;obtain⟨z1,z2⟩:=ER h;refine⟨Ax.walk hX.w a1 a2 λF=>(a3 F).mono λe F1 s1 hq=>?_,⟨λx hx=>DL (Dy hp x hx)⟩⟩;have key:(E6 X.tt s1 i.res λd1=>d1=d0/\s1.H=H0/\s1.n=n0)->E6 X.tt s1 i.res λd1=>∃d2,Fz s1.H [] d1 d2/\BX d2/\d2=d:=λhq=>by
   obtain⟨d1,p,k1,k2,rfl,k3,_⟩:=ME hq;unfold E6;rw[k1];exact⟨k2,d,by rw[k3];exact z1,z2,rfl⟩
  cases e with
  |normal=>exact key hq
  |ret=>exact key hq
  |exit i=>exact hq
  |goto i=>exact hq
  |panic i=>exact hq
  |outgrown=>exact hq
theorem Ob (hX:CN C X)(lf:Nat):∀fu,EN C (DN X lf fu).1/\DW C (DN X lf fu).2
 | 0=>⟨λ_ _ _ h=>by simp[DN]at h,λ_ _ _ _ _ _ _ h=>by simp[DN]at h⟩
 |fu+1=>by
  obtain⟨hcp,hcl⟩:=Ob hX lf fu;refine⟨λf ds d h=>?_,λf ds H n d H' n' h=>?_⟩
  ·simp only[DN]at h
   split at h
   ·exact QQ hX hcl hcp h
   ·exact Lu hX hcl hcp h
  ·simp only[DN]at h
   split at h
   ·split at h
    ·rename_i d0 hp
     cases h;obtain⟨h1,h2⟩:=QQ hX hcl hcp hp;exact .ofPure h1 h2
    ·obtain⟨i,a1,a2,a3⟩:=Qy hX hcl hcp h
     exact Ct.walk hX.w a1 a2 a3
   ·split at h
    ·rename_i d0 hp
     cases h;obtain⟨h1,h2⟩:=Lu hX hcl hcp hp;exact .ofPure h1 h2
    ·split at h<;>try(cases h;done)
     rename_i d1 H1 n1 hrun;obtain⟨H2,hsub,hgc⟩:=RR (α:=Option (D×Hp×Nat)) (X.np (2000000+f)) n (Hu d1 n []) H1 (λH2=>some (d1,H2,n1)) (λH1=>J7 n d1 H1 λH2=>some (d1,H2,n1)) (Sn (α:=Option (D×Hp×Nat)) n d1 H1 (λH2=>some (d1,H2,n1)));rw[hgc]at h;cases h;refine Ct.subH hsub ?_;obtain⟨fn,c,p,a1,a2,a3,a4,a5,a6,a7⟩:=OW hX hcl hcp hrun;refine Ct.intro hX.tt a1 a2 a3 a4 a5 λF _=>(a7 F).mono ?_
     rintro e s ⟨b1,b2,rfl,rfl⟩;exact⟨b1,d,p,b2,a6,rfl,rfl,rfl⟩
theorem Dq (hX:CN C X)(lf fu:Nat){f:Nat}{ds:List D}{d:D}(h:(DN X lf fu).1 f ds=some d):Aa C f ds d:=((Ob hX lf fu).1 f ds d h).1
end
section
variable {C:AZ} {X:EV} {B F:AI} {ops:Array Oper} {s:St} {rd:Option Nat} {Q:Exit->AI->St->Prop}
structure JP (C:AZ)(B F:AI)(k g:Nat)(str:ByteArray)(pos:Nat):Prop where
 ex:∃it,F.r0 k g=some it/\F.X it/\¬F.Wr it/\F.w0.heap[it]?=some (.stringIter str pos)/\C.nG<=it/\∀ {ρ:Lk} {H:Hp} {w:World},AQ C (F.wr it) ρ H w->AQ C B ρ H w
 df:F.df=B.df
theorem Ao.putX {ρ:Lk}{O:Nat->Prop}{w:World}{l:Nat}(hO:O l){o0:Obj}(hc:∀cs T fz,o0≠.cells cs T fz)(h:w.heap[l]?=some o0)(o:Obj):Ao ρ O w ρ O (w.putObj l o):=
 ⟨by rw[(Gy w l o).2.2.2];exact Ad _,λ_ _ _ h=>h,λb hb hb'=>⟨hb',World.putObj_heap_other λhbl=>hb' (by rw[hbl];exact hO)⟩,λb cs T fz hh=>⟨cs,_,by
  rw[World.putObj_heap_other λhbl=>by rw[hbl,h]at hh;exact hc _ _ _ (H9 hh)];exact hh,rfl⟩⟩
theorem AQ.putX {ρ:Lk}{H:Hp}{w:World}{l:Nat}(m:AQ C F ρ H w)(hX:F.X l)(hW:F.Wr l){o0:Obj}(hc:∀cs T fz,o0≠.cells cs T fz)(h:w.heap[l]?=some o0)(o:Obj):AQ C F ρ H (w.putObj l o):=by
 have x:=Ao.putX (ρ:=ρ) (O:=AF F.X ρ H) (.inl hX) hc h o;exact⟨⟨λe he=>by
  rcases m.hok.ent e he with h|⟨b,cs,a1,a2,a3⟩
  ·exact .inl h
  ·exact .inr ⟨b,cs,a1,by rw[World.putObj_heap_other λhb=>(m.hok.own e he b a1).1 (by rw[hb];exact hX)];exact a2,a3.mono x⟩,m.hok.inj,m.hok.own⟩,
  m.os,m.tape,m.output,by rw[(Gy w l o).2.2.2];exact m.size,λb hb hw=>by rw[World.putObj_heap_other λhbl=>hw (by rw[hbl];exact hW)];exact m.blk b hb hw,m.xlt,m.g0,m.gn,m.gw,m.lnk,GC m.shp x⟩
def O3 (C:AZ)(X:EV)(B:AI)(kb:Nat)(ops:Array Oper)(ir:Nat)(Q:Exit->AI->St->Prop)(s:St):Prop:=match CS ops.toList ir with
 |some o=>match o.guard with
  |none=>match o.op with
   | .range t x=>match X.tt t with
    |some i=>match i.ti with
     | .string=>match AV s.env x with
      | .prim (.string str)=>∀F':AI,JP C B F' kb s.n str 0->Q .normal F' ⟨Ak s.env o.dst (.optr kb s.n 0 0 0),s.H,s.n+1⟩
      |_=>False
     |_=>False
    |none=>False
   |_=>False
  |some _=>False
 |none=>False
theorem UG {F2:AI}{ρ':Lk}{H':Hp}{w':World}{X':Nat->Prop}(hB:Bp C B F)(hdf:F.df=B.df)(hX:∀b,F.X b->X' b)(hsz:B.w0.heap.size<=w'.heap.size)(hm:∀ {ρ:Lk} {H:Hp} {w:World},AQ C (AI.subZ ρ' H' w' F.nt X' (λ_=>False) F.df) ρ H w->AQ C B ρ H w)
  (h2:F2=AI.subZ ρ' H' w' F.nt X' (λ_=>False) F.df):Bp C B F2:=by
 subst h2;exact⟨hB.nt,hsz,hm,λb hb=>hX b (hB.X b hb),[],hdf,[],rfl,.nil,by simp⟩
theorem iT {i:Nat}(hX:Cb C X)(kb:Nat)(l1:List Nat)(ir:Nat)(hl:List.range ops.size=l1++[ir])(hnd:DM ops.toList=true)(hFB:F=B)
  (h:CJ C X kb ops l1 s True λacc s1=>acc/\O3 C X B (kb+ir) ops ir Q s1):AO C B rd F (.region i ops false) s Q:=by
 subst hFB;refine⟨λhB hd ρ a w hs=>wpIn_region ?_⟩;rw[hl];have hlt:∀j∈l1++[ir],j<ops.size:=λj hj=>by rw[<-hl]at hj;exact List.mem_range.1 hj
 have h1:=(Em (F:=F) (K':=O3 C X F (kb+ir) ops ir Q) hX (λacc s h=>h) h).2.run (λj hj=>hlt j (by simp[hj])) (G3 hB hd) hs;refine EP (rd:=rd) (Q:=DA C F Q) (l2:=[ir]) (λe a w h=>?_) (F8 hnd) _ a w h1;obtain⟨h0,s1,ρ1,h,hs1⟩:=h;refine⟨h0,?_⟩;unfold O3 at h;split at h<;>first|exact h.elim|skip
 rename_i o ho;split at h<;>first|exact h.elim|skip
 rename_i hgd;split at h<;>first|exact h.elim|skip
 rename_i t x hop;split at h<;>first|exact h.elim|skip
 rename_i ti hti;split at h<;>first|exact h.elim|skip
 rename_i hstr;split at h<;>first|exact h.elim|skip
 rename_i str hx;have ho:=IT ho;have hdo:CB F.nt o=true:=CF.1 (show ops.toList.all (CB F.nt)=true from hd) o (Dc.2 (FD ho));simp only[wpOpsIn,ho];rw[AM (by unfold Region.wanted;rw[hgd])];have hxv:a.eval x=.string str:=by
  have:=BN hs1.env x
  rw[hx]at this;generalize a.eval x=v at this;cases this;rfl
 have hrun:(execOp a.eval o).run C.P w=.ok (.value (.pointer (some ⟨w.heap.size,0,none⟩))) (w.alloc (.stringIter str 0)):=by
  unfold execOp;simp only[hop];rw[run_bind]
  have:(Instr.range t (a.eval x)).run C.P w=.ok (.pointer (some ⟨w.heap.size,0,none⟩)) (w.alloc (.stringIter str 0)):=by
   unfold Instr.range;rw[run_bind,BS (IF (hX.tt _ _ hti) hstr),hxv];dsimp only;rw[run_bind,run_pure];dsimp only;rw[run_bind,run_newObj_alloc];rfl
  rw[this];rfl
 refine Ka hrun ?_;show DA C F Q .normal _ _;have m:=hs1.mem
 let it:=w.heap.size
 let X1:Nat->Prop:=λb=>F.X b\/b=it
 have hown:∀e∈s1.H,∀b,ρ1 e.k e.g=some b->b<w.heap.size:=λe he b hb=>m.lt he hb
 have hfr:ρ1 (kb+ir) s1.n=none:=hs1.fresh _ _ (Ad _)
 let ρ2:=ρ1.put (kb+ir) s1.n it
 have hput:∀k g b,ρ1 k g=some b->ρ2 k g=some b:=λk g b hb=>Jw hfr hb
 have hown2:∀e∈s1.H,∀b,ρ2 e.k e.g=some b->ρ1 e.k e.g=some b:=λe he b hb=>by
  have hg:=hs1.gen e he
  have:ρ2 e.k e.g=ρ1 e.k e.g:=by
   show(if e.k=kb+ir/\e.g=s1.n then some it else ρ1 e.k e.g)=_;rw[BU]
  rw[<-this];exact hb
 have hw1:(w.alloc (.stringIter str 0)).heap.size=w.heap.size+1:=World.size_alloc ..;have hold:∀b,b<w.heap.size->(w.alloc (.stringIter str 0)).heap[b]?=w.heap[b]?:=λb hb=>by rw[Cc,BU]
 have xx:∀X':Nat->Prop,(∀b,b<w.heap.size->X' b->F.X b)->Ao ρ1 (AF F.X ρ1 s1.H) w ρ2 (AF X' ρ2 s1.H) (w.alloc (.stringIter str 0)):=λX' hX'=>by
  refine⟨by omega,hput,λb hb hO=>⟨?_,hold b hb⟩,λb cs T fz hc=>⟨cs,_,by rw[hold b (Bo.1 hc).1];exact hc,rfl⟩⟩;rintro(h|⟨e,he,h⟩)
  ·exact hO (.inl (hX' b hb h))
  ·exact hO (.inr ⟨e,he,hown2 e he b h⟩)
 have m1:AQ C F ρ2 s1.H (w.alloc (.stringIter str 0)):=by
  have x1:=xx F.X λ_ _ h=>h
  refine⟨⟨λe he=>?_,m.hok.inj.imp_of_mem λ{e e'} he he' h b b' hb hb'=>h b b' (hown2 e he b hb) (hown2 e' he' b' hb'),λe he b hb=>m.hok.own e he b (hown2 e he b hb)⟩,m.os,m.tape,m.output,by have:=m.size;omega,
   λb hb hW=>by rw[hold b (CU hb m.size)];exact m.blk b hb hW,m.xlt,m.g0,m.gn,m.gw,λk g b h=>hput _ _ _ (m.lnk k g b h),GC m.shp x1⟩
  rcases m.hok.ent e he with⟨h1,h2⟩|⟨b,cs,a1,a2,a3⟩
  ·refine .inl ⟨h1,?_⟩
   cases hb:ρ2 e.k e.g with
   |none=>rfl
   |some b=>rw[hown2 e he b hb]at h2;cases h2
  ·exact .inr ⟨b,cs,hput _ _ _ a1,by rw[hold b (m.lt he a1)];exact a2,a3.mono x1⟩
 have hitm:∀e∈s1.H,∀b,ρ2 e.k e.g=some b->b≠it:=λe he b hb=>by have:=hown e he b (hown2 e he b hb);simp only[it];omega
 have hX1lt:∀b,X1 b->b<(w.alloc (.stringIter str 0)).heap.size:=λb hb=>by
  rcases hb with h|h
  ·have:=m.xlt b h;have:=m.size;omega
  ·simp only[it]at h;omega
 have hX1o:∀e∈s1.H,∀b,ρ2 e.k e.g=some b->¬X1 b:=λe he b hb hb'=>by
  rcases hb' with h|h
  ·exact(m.hok.own e he b (hown2 e he b hb)).1 h
  ·exact hitm e he b hb h
 have e2:∀e∈s1.H,∀b,AF F.X ρ2 s1.H b->AF X1 ρ2 s1.H b:=λ_ _ _ h=>h.imp .inl id
 have hng:C.nG<=it:=by have:=m.gn;have:=m.size;simp only[it];omega
 have ent:∀Z:Nat->Prop,(∀b,Z b->b=it)->AQ C (AI.subZ ρ2 s1.H (w.alloc (.stringIter str 0)) F.nt X1 Z F.df) ρ2 s1.H (w.alloc (.stringIter str 0)):=λZ hZ=>by
  refine⟨⟨λe he=>?_,m1.hok.inj,λe he b hb=>⟨hX1o e he b hb,.inr (.inl ⟨e,he,hb⟩)⟩⟩,rfl,rfl,rfl,Ad _,λ_ _ _=>rfl,hX1lt,m1.g,Az m1.gn m1.size,λb hb=>?_,λ_ _ _ h=>h,λ_ cs _ _ h=>⟨cs,_,h,rfl⟩⟩
  ·rcases m.hok.ent e he with⟨h1,h2⟩|⟨b,cs,a1,a2,a3⟩
   ·rcases m1.hok.ent e he with h|⟨b,cs,b1,_⟩
    ·exact .inl h
    ·rw[hown2 e he b b1]at h2;cases h2
   ·exact .inr ⟨b,cs,hput _ _ _ a1,by rw[hold b (m.lt he a1)];exact a2,a3.mono (xx X1 λb hb h=>h.resolve_right λh=>by simp only[it]at h;omega)⟩
  ·rcases hb with⟨e,he,hb⟩|hb
   ·rcases(m1.hok.own e he b hb).2 with h|h
    ·exact Az m1.gn h
    ·exact m1.gw b h
   ·rw[hZ b hb];exact hng
 let F2:=AI.subZ ρ2 s1.H (w.alloc (.stringIter str 0)) F.nt X1 (λ_=>False) F.df
 have upZ:∀ {ρ:Lk} {H:Hp} {w':World},AQ C (F2.wr it) ρ H w'->AQ C F ρ H w':=λ{ρ H w'} m'=>by
  have m'':AQ C (AI.subZ ρ2 s1.H (w.alloc (.stringIter str 0)) F.nt X1 (λb=>b=it) F.df) ρ H w':=Mn m' rfl rfl rfl (λb hb=>by
   rcases hb with(hb|hb)|hb
   ·exact .inl hb
   ·exact hb.elim
   ·exact .inr hb) (ent _ λ_ h=>h).gw
  exact(m1.leaveZ (λb hb=>.inl hb) (λb hb=>.inl (by rw[hb];exact m.size)) m'').1
 have hit:JP C F F2 (kb+ir) s1.n str 0:=⟨⟨it,CO ..,.inr rfl,λh=>by
  rcases h with⟨e,he,h⟩|h
  ·exact hitm e he it h rfl
  ·exact h,by show(w.alloc _).heap[it]?=_;rw[Cc,AM rfl],hng,upZ⟩,rfl⟩
 have hF2:Bp C F F2:=UG hB rfl (λb hb=>.inl hb) (by have:=m.size;show _<=(w.alloc _).heap.size;omega) (λm'=>upZ (m'.wr hng)) rfl;refine⟨F2,_,ρ2,hF2,h F2 hit,?_⟩;have hs2:Aw C F2 ρ2 ⟨s1.env,s1.H,s1.n+1⟩ a (w.alloc (.stringIter str 0)):=⟨ent _ λ_ h=>h.elim,λk g hg=>by
  have hg:s1.n+1<=g:=hg;show(if k=kb+ir/\g=s1.n then some it else ρ1 k g)=none;rw[BU];exact hs1.fresh k g (by omega),λe he=>BK (hs1.gen e he),λt=>(hs1.env t).mono (xx X1 λb hb h=>h.resolve_right λh=>by simp only[it]at h;omega),hs1.nt,hs1.dfr⟩
 exact hs2.put (H':=s1.H) hs2.mem (.refl _ _ _) hs2.fresh hs2.gen (.optr (CO ..)) hdo
def TD (C:AZ)(X:EV)(B F:AI)(kb:Nat)(ops:Array Oper)(i0:Nat)(l2:List Nat)(str:ByteArray)(pos:Nat)(Q:Exit->AI->St->Prop)(s:St):Prop:=match CS ops.toList i0 with
 |some o=>match o.guard with
  |none=>match o.op with
   | .next x true=>match AV s.env x with
    | .optr k g 0 0 0=>JP C B F k g str pos /\
     (pos<str.size->∀F':AI,JP C B F' k g str (pos+(Utf8.decode str pos).2)->CJ C X kb ops l2 ⟨Ak s.env o.dst (.tup [Ai true,i64 pos,.prim (.int .i32 (Utf8.decode str pos).1)]),s.H,s.n+1⟩ True λacc s=>acc/\Q .normal F' s) /\
     (¬pos<str.size->CJ C X kb ops l2 ⟨Ak s.env o.dst (.tup [Ai false]),s.H,s.n+1⟩ True λacc s=>acc/\Q .normal F s)
    |_=>False
   |_=>False
  |some _=>False
 |none=>False
theorem iS {i:Nat}(hX:Cb C X)(kb:Nat)(i0:Nat)(l2:List Nat)(hl:List.range ops.size=i0::l2)(hnd:DM ops.toList=true)(str:ByteArray)(pos:Nat)
  (h:TD C X B F kb ops i0 l2 str pos Q s):AO C B rd F (.region i ops false) s Q:=by
 refine⟨λhB hd ρ a w hs=>wpIn_region ?_⟩;rw[hl];have hlt:∀j∈i0::l2,j<ops.size:=λj hj=>by rw[<-hl]at hj;exact List.mem_range.1 hj
 unfold TD at h;split at h<;>first|exact h.elim|skip
 rename_i o ho;split at h<;>first|exact h.elim|skip
 rename_i hgd;split at h<;>first|exact h.elim|skip
 rename_i x hop;split at h<;>first|exact h.elim|skip
 rename_i k g hx;obtain⟨⟨⟨it,i1,i2,i3,i4,i5,i6⟩,idf⟩,h1,h2⟩:=h;have ho:=IT ho;have hdo:CB B.nt o=true:=CF.1 (show ops.toList.all (CB B.nt)=true from hd) o (Dc.2 (FD ho));simp only[wpOpsIn,ho];rw[AM (by unfold Region.wanted;rw[hgd])];have m:=hs.mem;have hlk:ρ k g=some it:=m.lnk _ _ _ i1;have hxv:a.eval x=.pointer (some ⟨it,0,none⟩):=by
  have:=BN hs.env x
  rw[hx]at this;generalize a.eval x=v at this;cases this with
  |optr hr=>rw[hlk]at hr;cases hr;rfl
 have hob:w.heap[it]?=some (.stringIter str pos):=(m.blk it (m.xlt it i2) i3).trans i4;have hget:(getObj it).run C.P w=.ok (.stringIter str pos) w:=by
  simp[getObj,Sem.run,hob]
 by_cases hp:pos<str.size
 ·have hrun:(execOp a.eval o).run C.P w=.ok (.value (.tuple #[.bool true,.int .i64 pos,.int .i32 (Utf8.decode str pos).1])) (w.putObj it (.stringIter str (pos+(Utf8.decode str pos).2))):=by
   unfold execOp;simp only[hop];rw[run_bind]
   have:(Instr.next (a.eval x) true o.type).run C.P w=.ok (.tuple #[.bool true,.int .i64 pos,.int .i32 (Utf8.decode str pos).1]) (w.putObj it (.stringIter str (pos+(Utf8.decode str pos).2))):=by
    unfold Instr.next;rw[hxv];simp only[];rw[run_bind,hget];dsimp only;rw[AM hp];rw[run_bind]
    have:(setObj it (.stringIter str (pos+(Utf8.decode str pos).2))).run C.P w=.ok () (w.putObj it (.stringIter str (pos+(Utf8.decode str pos).2))):=by
     simp[setObj,Sem.run,hob,World.putObj]
    rw[this];rfl
   rw[this];rfl
  refine Ka hrun ?_;have mp:=(m.wr i5).putX i2 (.inr rfl) (o0:=.stringIter str pos) (by simp) hob (.stringIter str (pos+(Utf8.decode str pos).2));have xp:=Ao.putX (ρ:=ρ) (O:=AF F.X ρ s.H) (w:=w) (.inl i2) (o0:=.stringIter str pos) (by simp) hob (.stringIter str (pos+(Utf8.decode str pos).2));have hitw:it<w.heap.size:=(Bo.1 hob).1;have hit':(w.putObj it (.stringIter str (pos+(Utf8.decode str pos).2))).heap[it]?=some (.stringIter str (pos+(Utf8.decode str pos).2)):=World.putObj_heap_same hitw;have hszp:=(Gy w it (.stringIter str (pos+(Utf8.decode str pos).2))).2.2.2;generalize w.putObj it (.stringIter str (pos+(Utf8.decode str pos).2))=w2 at mp xp hit' hszp⊢
  let F2:=AI.subZ ρ s.H w2 F.nt F.X (λ_=>False) F.df
  have m2:AQ C F2 ρ s.H w2:=mp.enterZ (.refl _ _ _) rfl rfl rfl (λ_ _ _=>rfl) (λ_ _ _ _ h=>h) (λb hb=>CU (mp.xlt b hb) mp.size) (λe he b hb=>(mp.hok.own e he b hb).1) (λ_ h=>h.elim) _ _;have mZ:AQ C (AI.subZ ρ s.H w2 F.nt F.X (λb=>b=it) F.df) ρ s.H w2:=mp.enterZ (.refl _ _ _) rfl rfl rfl (λ_ _ _=>rfl) (λe he b hb hb'=>(mp.hok.own e he b hb).1 (by rw[hb'];exact i2)) (λb hb=>CU (mp.xlt b hb) mp.size) (λe he b hb=>(mp.hok.own e he b hb).1) (λb hb=>by rw[hb];exact i5) _ _;have upZ:∀ {ρ':Lk} {H':Hp} {w':World},AQ C (F2.wr it) ρ' H' w'->AQ C B ρ' H' w':=λ{ρ' H' w'} m'=>by
   have m'':AQ C (AI.subZ ρ s.H w2 F.nt F.X (λb=>b=it) F.df) ρ' H' w':=Mn m' rfl rfl rfl (λb hb=>by
    rcases hb with(hb|hb)|hb
    ·exact .inl hb
    ·exact hb.elim
    ·exact .inr hb) mZ.gw
   exact i6 (mp.leaveZ (λ_ h=>h) (λb hb=>.inr (.inr hb)) m'').1
  have hiter:JP C B F2 k g str (pos+(Utf8.decode str pos).2):=⟨⟨it,hlk,i2,λh=>by
   rcases h with⟨e,he,h⟩|h
   ·exact(mp.hok.own e he it h).1 i2
   ·exact h,hit',i5,upZ⟩,idf⟩
  have hB2:Bp C B F2:=UG hB idf (λ_ h=>h) (by rw[hszp];exact Az hB.sz m.size) (λm'=>upZ (m'.wr i5)) rfl;have hs1:Aw C F2 ρ ⟨s.env,s.H,s.n+1⟩ a w2:=⟨m2,λk g hg=>hs.fresh k g (by have:s.n+1<=g:=hg;omega),λe he=>BK (hs.gen e he),λt=>(hs.env t).mono xp,hs.nt,hs.dfr⟩
  have hs2:=hs1.put (H':=s.H) (o:=o) (d:=.tup [Ai true,i64 pos,.prim (.int .i32 (Utf8.decode str pos).1)]) (v:=.tuple #[.bool true,.int .i64 pos,.int .i32 (Utf8.decode str pos).1]) hs1.mem (.refl _ _ _) hs1.fresh hs1.gen (.tup rfl λi d hd=>by
   match i with
   | 0=>simp at hd;subst hd;exact .prim _
   | 1=>simp at hd;subst hd;exact .prim _
   | 2=>simp at hd;subst hd;exact .prim _
   |n+3=>simp at hd) (by rw[show F2.nt=B.nt from hB.nt];exact hdo)
  have h3:=(Em (F:=F2) (K':=Q .normal F2) hX (λacc s h=>h) (h1 hp F2 hiter)).2.run (λj hj=>hlt j (by simp[hj])) (G3 hB2 hd) hs2
  have:=EP (rd:=rd) (Q:=DA C B Q) (l2:=[]) (λ_ _ _ h=>IQ hB2 (λ_ h=>h) h) (F8 hnd) _ _ _ h3
  rwa [Dd]at this
 ·have hrun:(execOp a.eval o).run C.P w=.ok (.value (.tuple #[.bool false])) w:=by
   unfold execOp;simp only[hop];rw[run_bind]
   have:(Instr.next (a.eval x) true o.type).run C.P w=.ok (.tuple #[.bool false]) w:=by
    unfold Instr.next;rw[hxv];simp only[];rw[run_bind,hget];dsimp only;rw[AN hp];rfl
   rw[this];rfl
  refine Ka hrun ?_;have hs1:Aw C F ρ ⟨s.env,s.H,s.n+1⟩ a w:=⟨m,λk g hg=>hs.fresh k g (by have:s.n+1<=g:=hg;omega),λe he=>BK (hs.gen e he),hs.env,hs.nt,hs.dfr⟩
  have hs2:=hs1.put (H':=s.H) (o:=o) (d:=.tup [Ai false]) (v:=.tuple #[.bool false]) hs1.mem (.refl _ _ _) hs1.fresh hs1.gen (.tup rfl λi d hd=>by
   match i with
   | 0=>simp at hd;subst hd;exact .prim _
   |n+1=>simp at hd) (by rw[hB.nt];exact hdo)
  have h3:=(Em (F:=F) (K':=Q .normal F) hX (λacc s h=>h) (h2 hp)).2.run (λj hj=>hlt j (by simp[hj])) (G3 hB hd) hs2
  have:=EP (rd:=rd) (Q:=DA C B Q) (l2:=[]) (λ_ _ _ h=>IQ hB (λ_ h=>h) h) (F8 hnd) _ _ _ h3
  rwa [Dd]at this
end
section
variable {C:AZ} {X:EV} {kb:Nat} {ops:Array Oper} {i:Nat} {l:List Nat} {s:St} {acc:Prop} {K:Prop->St->Prop} {o:Oper}
theorem KU (h:K acc s):CJ C X kb ops [] s acc K:=h
theorem DV (h:CS ops.toList i=some o)(hg:o.guard=none)(hk:Ef C X (kb+i) (AV s.env) s.H s.n o.op acc λacc d H n=>CJ C X kb ops l ⟨Ak s.env o.dst d,H,n⟩ acc K):CJ C X kb ops (i::l) s acc K:=by
 unfold CJ;simp only[h,hg];exact hk
theorem HQ {g:Nat×Bool}{b:Bool}(h:CS ops.toList i=some o)(hg:o.guard=some g)(hw:Am ops s.env o=some b)(hb:b=true)(ha:acc)
  (hk:Ef C X (kb+i) (AV s.env) s.H s.n o.op True λacc d H n=>CJ C X kb ops l ⟨Ak s.env o.dst d,H,n⟩ acc K):CJ C X kb ops (i::l) s acc K:=by
 unfold CJ;simp only[h,hg,hw];subst hb;exact⟨ha,hk⟩
theorem Q6 {g:Nat×Bool}{b:Bool}(h:CS ops.toList i=some o)(hg:o.guard=some g)(hw:Am ops s.env o=some b)(hb:b=false)(ha:acc)
  (hk:CJ C X kb ops l ⟨Ak s.env o.dst (.prim (.tuple #[])),s.H,s.n+1⟩ True K):CJ C X kb ops (i::l) s acc K:=by
 unfold CJ;simp only[h,hg,hw];subst hb;exact⟨ha,hk⟩
section
variable {g:Operand->D} {H:Hp} {n:Nat} {op:Op} {k:Prop->D->Hp->Nat->Prop}
theorem GZ {P:Prop->Prop}{d:D}{H':Hp}{n':Nat}(hs:∀acc k,Ef C X kb g H n op acc k=k (P acc) d H' n')(hk:k (P acc) d H' n'):Ef C X kb g H n op acc k:=by rw[hs];exact hk
theorem Ki {f:Nat}{ds:List D}(hs:∀acc k,Ef C X kb g H n op acc k=(acc/\CE C f ds H n λd H n=>k True d H n))(ha:acc)(hc:CE C f ds H n λd H n=>k True d H n):Ef C X kb g H n op acc k:=by
 rw[hs];exact⟨ha,hc⟩
theorem SY {es:List D}{j:Int}{sz esz:Nat}{d:D}(hs:∀acc k,Ef C X kb g H n op acc k=(acc/\(sz=esz/\0<=j)/\∃d,es[j.toNat]?=some d/\k True (.pptr d) H (n+1)))(ha:acc)(h1:sz=esz/\0<=j)
  (h2:es[j.toNat]?=some d) (hk:k True (.pptr d) H (n+1)):Ef C X kb g H n op acc k:=by
 rw[hs];exact⟨ha,h1,d,h2,hk⟩
end
section
variable {H:Hp} {n:Nat} {env:Ab} {N:Hp} {K:Prop->Ab->Hp->Prop}
theorem MF (h:K acc env N):C2 C X kb ops H n [] env N acc K:=h
theorem Ew (h:CS ops.toList i=some o)(hg:o.guard=none)(hk:DR C X (kb+i) (AV env) H (n+i) o.op acc λacc d ne=>C2 C X kb ops H n l (Ak env o.dst d) (Bk ne N) acc K):C2 C X kb ops H n (i::l) env N acc K:=by
 unfold C2;simp only[h,hg];exact hk
theorem JJ {g:Nat×Bool}{b:Bool}(h:CS ops.toList i=some o)(hg:o.guard=some g)(hw:Am ops env o=some b)(hb:b=true)(ha:acc)
  (hk:DR C X (kb+i) (AV env) H (n+i) o.op True λacc d ne=>C2 C X kb ops H n l (Ak env o.dst d) (Bk ne N) acc K):C2 C X kb ops H n (i::l) env N acc K:=by
 unfold C2;simp only[h,hg,hw];subst hb;exact⟨ha,hk⟩
theorem Q5 {g:Nat×Bool}{b:Bool}(h:CS ops.toList i=some o)(hg:o.guard=some g)(hw:Am ops env o=some b)(hb:b=false)(ha:acc)
  (hk:C2 C X kb ops H n l (Ak env o.dst (.prim (.tuple #[]))) N True K):C2 C X kb ops H n (i::l) env N acc K:=by
 unfold C2;simp only[h,hg,hw];subst hb;exact⟨ha,hk⟩
section
variable {g:Operand->D} {op:Op} {k:Prop->D->Option AK->Prop}
theorem El {P:Prop->Prop}{d:D}{ne:Option AK}(hs:∀acc k,DR C X kb g H n op acc k=k (P acc) d ne)(hk:k (P acc) d ne):DR C X kb g H n op acc k:=by rw[hs];exact hk
theorem Kh {f:Nat}{ds:List D}(hs:∀acc k,DR C X kb g H n op acc k=(acc/\CX C f ds λd=>k True d none))(ha:acc)(hc:CX C f ds λd=>k True d none):DR C X kb g H n op acc k:=by
 rw[hs];exact⟨ha,hc⟩
theorem Mk {es:List D}{j:Int}{sz esz:Nat}{d:D}(hs:∀acc k,DR C X kb g H n op acc k=(acc/\(sz=esz/\0<=j)/\∃d,es[j.toNat]?=some d/\k True (.pptr d) none))(ha:acc)(h1:sz=esz/\0<=j)
  (h2:es[j.toNat]?=some d) (hk:k True (.pptr d) none):DR C X kb g H n op acc k:=by
 rw[hs];exact⟨ha,h1,d,h2,hk⟩
end
end
end
def Gu (H:Hp)(d0 d:D):Prop:=∀(C:AZ) (F:AI) (ρ:Lk) (w:World),AQ C F ρ H w->(∀b,AF F.X ρ [] b->AF F.X ρ H b)->(∀e∈H,∀b,ρ e.k e.g=some b->¬AF F.X ρ [] b) ->
 ∀v,AG ρ (AF F.X ρ H) w d0 v->AG ρ (AF F.X ρ []) w d v
theorem Gu.refl (H:Hp)(d:D):Gu H d d:=λ_ _ _ _ _ hO _ _ hv=>hv.anti hO
theorem Gu.ptr {H:Hp}{k g sz:Nat}{e:AK}{x:D}(he:Hp.get H k=some e)(hg:g=e.g)(hs:sz=e.sz)(hx:e.es=[x])(hz:e.sz≠0:=by first|decide|(intro h;cases h)):Gu H (.optr k g sz 0 0) (.pptr x):=λC F ρ w m hO hN v hv=>by
 subst hg hs;obtain⟨hm,hk⟩:=Hp.get_mem he;cases hv with
 |optr hr=>
  rename_i b;rw[<-hk]at hr;obtain⟨cs,h1,h2⟩:=m.at hm hr hz;have hlen:=h2.len;rw[hx]at hlen;have hsz:=h2.siz 0 x (by rw[hx];rfl);have hin:∀n,n<x.cells.length->n<cs.size:=λn hn=>by
   simp only[CD,Gl]at hlen;omega
  rw[show 0*e.sz+0=0 from by omega];refine .pptr (λn=>cs.getD n undef) (hN e hm b hr) (m.lt hm hr) (λn hn=>?_) (λn hn=>?_) λj d hd=>?_
  ·rw[B5];simp[World.cell?,h1,hin n hn]
  ·have:=h2.one _ _ (BF (hin n hn))
   simpa[AT,BF (hin n hn)]using this
  ·have:=h2.rep 0 x j d (by rw[hx];rfl) hd
   rw[GQ,B5]at this;exact this.anti hO
section
variable {C:AZ} {X:EV}
theorem UN {f:Nat}{ds ds':List D}{d:D}{H:Hp}{n:Nat}(hc:Aa C f ds' d)(hl:ds'.length=ds.length)(hv:∀(i:Nat) (a b:D),ds[i]?=some a->ds'[i]?=some b->Gu H a b)
  (hp:AS ds') (hflat:Cw d):Ct C f ds H n (λd' H' n'=>d'=d/\H'=H/\n'=n+1):=by
 refine⟨hc.1,λF ρ w vs m hfr hg hvs hr=>?_⟩;have hH:Ci H [] H []:=by
  generalize H=H0
  have:∀H1:Hp,Ci H0 [] H1 []:=λH1=>by
   induction H1 with
   |nil=>exact .nil
   |cons e r ih=>exact .drop ih
  exact this H0
 obtain⟨m',hO,hN⟩:=hH.mem m;refine(hc.2 (AF F.X ρ []) w vs m.g (Az m.gn m.size) (λb hb=>m'.own_lt hb) (by omega) λi x hx=>?_).mono ?_
 ·have hi:i<ds'.length:=(Ay.1 hx).1
  have hd0:ds[i]?=some ds[i]:=B3;exact hp.out x (Bh hx) _ _ _ _ _ (hv i _ x hd0 hx C F ρ w m hO (λe he b hb=>hN e he b hb rfl) _ (hr i _ hd0))
 ·rintro e w' ⟨v,d',rfl,hb,hd',rep⟩
  subst hd';have x:Ao ρ (AF F.X ρ H) w ρ (AF F.X ρ H) w':=⟨hb.size,λ_ _ _ h=>h,λb hb' hO=>⟨hO,hb.block b hb'⟩,λb cs T fz hh=>⟨cs,_,by
   rw[hb.block b (Bo.1 hh).1];exact hh,rfl⟩⟩
  exact⟨v,_,H,n+1,ρ,rfl,⟨rfl,rfl,rfl⟩,m.same x hb.os hb.tape hb.output hb.block,x,λk g hg'=>hfr k g (by omega),λe he=>BK (hg e he),hflat _ _ _ _ _ _ _ rep⟩
end
abbrev Nc (z:Int):D:=.agg [i64 z,BA]
abbrev Nb (a b:Int):D:=.agg [i64 a,BA,i64 b,BA]
theorem dX {y n:Prop}:HH true y n=y:=rfl
theorem dW {y n:Prop}:HH false y n=n:=rfl
theorem OS {H Hf:Hp}:∀r:Hp,Ci H Hf r r
 | []=>.nil
 |_::r=>.keep (OS r)
theorem Bz {P:Prop}(h:P:=by(repeat'(first|exact AA|exact rfl|exact Or.inl rfl|exact Or.inr rfl|exact Cv.agg|exact NF rfl|exact BD rfl|refine DG ?_ ?_|(intro hq;first|exact rfl|exact AA|(exact AW hq (by decide)))|exact Ad _|omega|decide|(dsimp only[List.length_cons,List.length_nil];omega)))):P:=h
structure CY (Q:Prop):Prop where
 out:Q
theorem BC {P Q:Prop}(h:Q)(e:CY Q->P:=by intro hq;(try dsimp only[Nc,Nb,Bc,Ak,Bk,AV,Ab.get,Dz,EZ,DB,HC,Gf,Do,Di,D.cells,ofV,Hp.get,Hp.set,Hp.del,FQ,Ck,FR,cond,G9,Hd,Ha,Fo,Mu,BT,List.map,List.length,List.append,List.nil_append,List.cons_append,List.append_nil,List.size_toArray,List.length_cons,List.length_nil,Value.cells,List.toList_toArray,Array.toList,Nat.reduceAdd,Nat.reduceMul,Nat.beq,Nat.reduceSub,BT,GK,Bc,Bool.false_and,Bool.true_and,Bool.true_or,Bool.false_or,Bool.not_true,Bool.not_false]);exact hq.out):P:=e ⟨h⟩
theorem GT {A P Q:Prop}(h:Q)(a:A:=by exact Bz)(e:CY Q->P:=by intro hq;refine BC ?_;exact hq.out):A/\P:=⟨a,e ⟨h⟩⟩
theorem Al {s s':St}(a:Ci s.H s'.H s.H s'.H:=by(first|(exact OS _)|(repeat(first|exact .nil|(exact OS _)|refine .keep ?_|refine .drop ?_))))
  (b:Ih s.H s'.H s.env s'.env:=by(repeat'(first|exact AA|exact Fz.refl _|refine DG ?_ ?_|(refine fq ?_;dsimp only[Nc,Nb,Bc,Ak,Bk,AV,Ab.get,Dz,EZ,DB,HC,Gf,Do,Di,D.cells,ofV,Hp.get,Hp.set,Hp.del,FQ,Ck,FR,cond,G9,Hd,Ha,Fo,Mu,BT,List.map,List.length,List.append,List.nil_append,List.cons_append,List.append_nil,List.size_toArray,List.length_cons,List.length_nil,Value.cells,List.toList_toArray,Array.toList,Nat.reduceAdd,Nat.reduceMul,Nat.beq,Nat.reduceSub,BT,GK,Bc,Bool.false_and,Bool.true_and,Bool.true_or,Bool.false_or,Bool.not_true,Bool.not_false];first|exact rfl|(simp_all;done)))))
  (c:s.n<=s'.n:=by(first|exact Ad _|decide|(dsimp only;omega))):Wk s s':=⟨a,b,c⟩
theorem F5 {P Q:Prop}(h:Q)(e:CY Q->P:=by
  intro hq
  repeat(first|(refine DV rfl rfl ?_;refine GZ (λ_ _=>rfl) ?_)|(refine Ew rfl rfl ?_;refine El (λ_ _=>rfl) ?_))
  try(refine MF ?_;repeat(first|(refine DV rfl rfl ?_;refine GZ (λ_ _=>rfl) ?_)|(refine Ew rfl rfl ?_;refine El (λ_ _=>rfl) ?_)))
  first|refine KU (DG Bz ?_)|(refine DV rfl rfl ?_;refine Ki (λ_ _=>rfl) Bz ?_)|(refine Ew rfl rfl ?_;refine Kh (λ_ _=>rfl) Bz ?_)|skip
  refine BC ?_;exact hq.out):P:=e ⟨h⟩
section
variable {C:AZ} {X:EV} {kb:Nat} {g:Operand->D} {H:Hp} {n:Nat} {acc:Prop}
theorem L2 {p a:Prop}(hp:p):(p/\a)=a:=propext ⟨And.right,λh=>⟨hp,h⟩⟩
theorem Rj {tt:Nat->Option AL}{t:Nat}{x:Operand}{i:AL}{k' gg sz j off:Nat}{e:AK}{d d':D}(h1:tt t=some i)(h2:g x=.optr k' gg sz j off)(h3:Hp.get H k'=some e)
  (h4:e.es[j]?=some d) (h5:DB i.ag i.sz off d.cells=some d'):
  Cg tt H n kb g (.load t x)=some (d',none,gg=e.g/\sz=e.sz/\(bif Nat.ble 1 e.sz then bif i.ag then Nat.ble (off+i.sz) d.cells.length else true else false)=true):=by
 simp only[Cg,h1,h2,h3,h4,h5]
theorem Ml {t:Nat}{x:Operand}{i:AL}{k' gg sz j off:Nat}{e:AK}{d d':D}{k:Prop->D->Hp->Nat->Prop}(h1:X.tt t=some i)(h2:g x=.optr k' gg sz j off)(h3:Hp.get H k'=some e)
  (h4:e.es[j]?=some d) (hk:k acc d' H (n+1)) (h5:DB i.ag i.sz off d.cells=some d':=by exact rfl) (h6:gg=e.g/\sz=e.sz/\(bif Nat.ble 1 e.sz then bif i.ag then Nat.ble (off+i.sz) d.cells.length else true else false)=true:=by exact Bz):
  Ef C X kb g H n (.load t x) acc k:=by
 unfold Ef;simp only[Rj h1 h2 h3 h4 h5,L2 h6];exact hk
theorem Ia {t:Nat}{x:Operand}{i:AL}{k' gg sz j off:Nat}{e:AK}{d d':D}{k:Prop->D->Option AK->Prop}(h1:X.tt t=some i)(h2:g x=.optr k' gg sz j off)(h3:Hp.get H k'=some e)
  (h4:e.es[j]?=some d) (hk:k acc d' none) (h5:DB i.ag i.sz off d.cells=some d':=by exact rfl) (h6:gg=e.g/\sz=e.sz/\(bif Nat.ble 1 e.sz then bif i.ag then Nat.ble (off+i.sz) d.cells.length else true else false)=true:=by exact Bz):
  DR C X kb g H n (.load t x) acc k:=by
 unfold DR;simp only[Rj h1 h2 h3 h4 h5,L2 h6];exact hk
theorem Mm {t:Nat}{x y:Operand}{i:AL}{k' gg sz j off:Nat}{e:AK}{d d':D}{k:Prop->D->Hp->Nat->Prop}(h1:X.tt t=some i)(h2:g x=.optr k' gg sz j off)(h3:Hp.get H k'=some e)
  (h4:e.es[j]?=some d) (hk:k acc (.prim (.tuple #[])) (Hp.set H k' ⟨e.k,e.g,e.T,e.sz,e.es.set j d'⟩) (n+1))
  (h5:EZ i off sz d (g y)=d':=by exact rfl) (h6:Cv i.ag i.sz (g y)/\gg=e.g/\sz=e.sz/\(bif Nat.ble 1 e.sz then Nat.ble (off+i.sz) e.sz else false)=true:=by exact Bz):
  Ef C X kb g H n (.store t x y) acc k:=by
 subst h5;unfold Ef;simp only[DH,h1,h2,h3,h4,L2 h6,Kg];exact hk
end
section
variable {C:AZ} {X:EV} {kb:Nat} {ops:Array Oper} {iw:Nat} {ia:Option Nat} {R:Hp} {clo:List Nat} {n i:Nat} {l:List Nat} {env:Ab} {N:Hp} {accE acc':Option AK} {acc:Prop} {K:Prop->Ab->Hp->AK->AK->Prop} {o:Oper}
theorem OB {e e':AK}(h:K acc env N e e'):C8 C X kb ops iw ia R clo n [] env N (some e) (some e') acc K:=h
theorem IJ (h:CS ops.toList i=some o)(hw:Nat.beq i iw=false)(ha:GK ia i=false)(hg:o.guard=none)
  (hk:DR C X (kb+i) (AV env) (Fo ia accE R (BT i clo)) (n+i) o.op acc λacc d ne=>C8 C X kb ops iw ia R clo n l (Ak env o.dst d) (Bk ne N) accE acc' acc K):
  C8 C X kb ops iw ia R clo n (i::l) env N accE acc' acc K:=by
 unfold C8;simp only[h,hw,ha,hg];exact hk
theorem OJ {e:AK}(h:CS ops.toList i=some o)(hw:Nat.beq i iw=true)(hg:o.guard=none)
  (hk:Hw X (kb+i) e (n+i) (AV env) o.op acc λacc d e'=>C8 C X kb ops iw ia R clo n l (Ak env o.dst d) N (some e) (some e') acc K):
  C8 C X kb ops iw ia R clo n (i::l) env N (some e) none acc K:=by
 unfold C8;simp only[h,hw,hg];exact hk
theorem OI (h:CS ops.toList i=some o)(hw:Nat.beq i iw=false)(ha:GK ia i=true)(hg:o.guard=none)
  (hk:DR C X (kb+i) (AV env) R (n+i) o.op acc λacc d ne=>match ne with
   |some e=>C8 C X kb ops iw ia R clo n l (Ak env o.dst d) N (some e) acc' acc K
   |none=>False):
  C8 C X kb ops iw ia R clo n (i::l) env N none acc' acc K:=by
 unfold C8;simp only[h,hw,ha,hg];exact hk
theorem OX {e:AK}{g:Operand->D}{op:Op}{k:Prop->D->AK->Prop}{P:Prop->Prop}{d:D}{e':AK}(hs:∀acc k,Hw X kb e n g op acc k=k (P acc) d e')(hk:k (P acc) d e'):Hw X kb e n g op acc k:=by rw[hs];exact hk
theorem Ov {e:AK}{g:Operand->D}{t:Nat}{x y:Operand}{i:AL}{k' gg sz j off:Nat}{d d':D}{k:Prop->D->AK->Prop}(h1:X.tt t=some i)(h2:g x=.optr k' gg sz j off)(h3:Hp.get [e] k'=some e)
  (h4:e.es[j]?=some d) (hk:k acc (.prim (.tuple #[])) ⟨e.k,e.g,e.T,e.sz,e.es.set j d'⟩)
  (h5:EZ i off sz d (g y)=d':=by exact rfl) (h6:Cv i.ag i.sz (g y)/\gg=e.g/\sz=e.sz/\(bif Nat.ble 1 e.sz then Nat.ble (off+i.sz) e.sz else false)=true:=by exact Bz):
  Hw X kb e n g (.store t x y) acc k:=by
 subst h5;unfold Hw;simp only[DH,h1,h2,h3,h4,L2 h6,Kg];exact hk
end
section
variable {A B D E F G:Prop}
theorem BJ (a:A)(b:B):A/\B:=⟨a,b⟩
theorem CK (a:A)(b:B)(c:D):A/\B/\D:=⟨a,b,c⟩
theorem Cs (a:A)(b:B)(c:D)(d:E):A/\B/\D/\E:=⟨a,b,c,d⟩
theorem CW (a:A)(b:B)(c:D)(d:E)(e:F):A/\B/\D/\E/\F:=⟨a,b,c,d,e⟩
theorem D7 (a:A)(b:B)(c:D)(d:E)(e:F)(f:G):A/\B/\D/\E/\F/\G:=⟨a,b,c,d,e,f⟩
theorem kT:(!true)=false:=rfl
theorem kF:(!false)=true:=rfl
theorem kN:∀n:Nat,(n:Int).toNat=n:=H6
theorem kB:(!true)=false/\(!false)=true:=⟨rfl,rfl⟩
theorem CL {I:Prop}(a:A)(b:B)(c:D)(d:E)(e:F)(f:G)(g:I):A/\B/\D/\E/\F/\G/\I:=⟨a,b,c,d,e,f,g⟩
end
inductive KB:Nat->Prop
 |mk (n:Nat):KB n
section
variable {C:AZ} {X:EV} {B:AI} {rd:Option Nat} {F:AI} {ops:Array Oper} {s:St} {Q:Exit->AI->St->Prop} {i:Nat}
theorem NC (hX:Cb C X){kb:Nat}(_:KB kb)(hnd:DM ops.toList=true)(h:CJ C X kb ops (List.range ops.size) s True λacc s=>acc/\Q .normal F s):AO C B rd F (.region i ops false) s Q:=AO.reg hX kb hnd h
end
theorem Ca {F:Prop}(f:F){P Q:Prop}(h:Q)(e:CY F->CY Q->P:=by
  intro hf hq
  repeat(first
   |(refine DV rfl rfl ?_;refine GZ (λ_ _=>rfl) ?_)|(refine Ew rfl rfl ?_;refine El (λ_ _=>rfl) ?_)
   |refine HQ rfl rfl rfl (by first|(simp only[hf.out];done)|fail) Bz (GZ (λ_ _=>rfl) ?_)|refine Q6 rfl rfl rfl (by first|(simp only[hf.out];done)|fail) Bz ?_
   |refine JJ rfl rfl rfl (by first|(simp only[hf.out];done)|fail) Bz (El (λ_ _=>rfl) ?_)|refine Q5 rfl rfl rfl (by first|(simp only[hf.out];done)|fail) Bz ?_
   |(refine DV rfl rfl ?_;refine Ml rfl rfl rfl (by(try dsimp only);(try simp only[hf.out]);exact rfl) ?_)|(refine DV rfl rfl ?_;refine Mm rfl rfl rfl (by(try dsimp only);(try simp only[hf.out]);exact rfl) ?_)
   |(refine HQ rfl rfl rfl (by first|(simp only[hf.out];done)|fail) Bz ?_;refine Ml rfl rfl rfl (by(try dsimp only);(try simp only[hf.out]);exact rfl) ?_)|(refine HQ rfl rfl rfl (by first|(simp only[hf.out];done)|fail) Bz ?_;refine Mm rfl rfl rfl (by(try dsimp only);(try simp only[hf.out]);exact rfl) ?_)
   |(refine Ew rfl rfl ?_;refine Ia rfl rfl rfl (by(try dsimp only);(try simp only[hf.out]);exact rfl) ?_)|(refine JJ rfl rfl rfl (by first|(simp only[hf.out];done)|fail) Bz ?_;refine Ia rfl rfl rfl (by(try dsimp only);(try simp only[hf.out]);exact rfl) ?_))
  try(refine MF ?_;repeat(first|(refine DV rfl rfl ?_;refine GZ (λ_ _=>rfl) ?_)|(refine Ew rfl rfl ?_;refine El (λ_ _=>rfl) ?_)))
  first|refine KU (DG Bz ?_)|(refine DV rfl rfl ?_;refine Ki (λ_ _=>rfl) Bz ?_)|(refine Ew rfl rfl ?_;refine Kh (λ_ _=>rfl) Bz ?_)|skip
  refine BC ?_
  try simp only[hf.out]
  exact hq.out):P:=e ⟨f⟩ ⟨h⟩
theorem NT {F:Prop}(f:F){P Q:Prop}(h:Q)(e:CY F->CY Q->P:=by
  intro hf hq
  repeat(first
   |(refine IJ rfl rfl rfl rfl ?_;first|refine El (λ_ _=>rfl) ?_|refine Ia rfl rfl rfl (by(try dsimp only);(try simp only[hf.out]);exact rfl) ?_)
   |(refine OJ rfl rfl rfl ?_;first|refine OX (λ_ _=>rfl) ?_|refine Ov rfl rfl rfl (by(try dsimp only);(try simp only[hf.out]);exact rfl) ?_)|(refine OI rfl rfl rfl rfl ?_;refine El (λ_ _=>rfl) ?_))
  try refine OB ?_
  refine BC ?_
  try simp only[hf.out]
  exact hq.out):P:=e ⟨f⟩ ⟨h⟩
theorem EK {F:Prop}(f:F){P Q:Prop}(h:Q)(e:CY F->CY Q->P:=by
  intro hf hq
  repeat(first
   |(refine DV rfl rfl ?_;refine GZ (λ_ _=>rfl) ?_)|(refine Ew rfl rfl ?_;refine El (λ_ _=>rfl) ?_))
  try(refine MF ?_;repeat(first|(refine DV rfl rfl ?_;refine GZ (λ_ _=>rfl) ?_)|(refine Ew rfl rfl ?_;refine El (λ_ _=>rfl) ?_)))
  first|refine KU (DG (by((refine BC ?_);(try simp only[hf.out]);all_goals exact Bz)) ?_)|(refine DV rfl rfl ?_;refine Ki (λ_ _=>rfl) (by((refine BC ?_);(try simp only[hf.out]);all_goals exact Bz)) ?_)|(refine Ew rfl rfl ?_;refine Kh (λ_ _=>rfl) (by((refine BC ?_);(try simp only[hf.out]);all_goals exact Bz)) ?_)|skip
  refine BC ?_
  try simp only[hf.out]
  exact hq.out):P:=e ⟨f⟩ ⟨h⟩
theorem iv {F:Prop}(f:F){A P Q:Prop}(h:Q)(a:CY F->A:=by intro hf;(refine BC ?_);(try simp only[hf.out]);all_goals exact Bz)(e:CY F->CY Q->P:=by intro hf hq;refine BC ?_;(try simp only[hf.out]);exact hq.out):A/\P:=⟨a ⟨f⟩,e ⟨f⟩ ⟨h⟩⟩
theorem Cy {P Q:Prop}(h:Q)(e:CY Q->P:=by intro hq;refine AO.cond ?_;refine BC ?_;exact hq.out):P:=e ⟨h⟩
theorem Fh {P Q:Prop}(h:Q)(e:CY Q->P:=by intro hq;refine AO.skip ?_;refine BC ?_;exact hq.out):P:=e ⟨h⟩
theorem IA {P Q:Prop}(h:Q)(e:CY Q->P:=by intro hq;refine AO.exit ?_;refine BC ?_;exact hq.out):P:=e ⟨h⟩
theorem FH {P Q:Prop}(h:Q)(e:CY Q->P:=by intro hq;refine AO.ret ?_;refine DG Bz ?_;refine BC ?_;exact hq.out):P:=e ⟨h⟩
theorem fI (kb:Nat){P Q:Prop}(h:Q)(e:KB kb->CY Q->P:=by intro hk hq;refine NC w1 hk (by kernel_rfl) ?_;refine GT ?_;exact hq.out):P:=e (.mk kb) ⟨h⟩
theorem sR (kb:Nat){P Q:Prop}(h:Q)(e:KB kb->CY Q->P:=by intro hk hq;refine AO.seq ?_;refine NC w1 hk (by kernel_rfl) ?_;refine F5 ?_;exact hq.out):P:=e (.mk kb) ⟨h⟩
theorem fR (kb:Nat){P Q:Prop}(h:Q)(e:KB kb->CY Q->P:=by intro hk hq;refine AO.seq ?_;refine NC w1 hk (by kernel_rfl) ?_;refine GT ?_;exact hq.out):P:=e (.mk kb) ⟨h⟩
theorem sZ (kb:Nat){P Q:Prop}(h:Q)(e:KB kb->CY Q->P:=by intro hk hq;refine AO.seq ?_;refine NC w1 hk (by kernel_rfl) ?_;exact hq.out):P:=e (.mk kb) ⟨h⟩
theorem cI {C:AZ}{f:Nat}{ds:List D}{d:D}{H:Hp}{n:Nat}{k:D->Hp->Nat->Prop}(c:Aa C f ds d){Q:Prop}(h:Q)(p:AS ds:=by exact An)(e:CY Q->k d H (n+1):=by intro hq;refine F5 ?_;exact hq.out):CE C f ds H n k:=CE.same d c p (e ⟨h⟩)
open Go.ChangeShapes Go.WideShapes
structure Cn (W:World)(cs:List Value)(ds:List D):Prop where
 len:cs.length=ds.length
 cell:∀(i:Nat) (c:Value) (d:D),cs[i]?=some c->ds[i]?=some d->one c=true/\AG nol (λ_=>False) W d c
theorem Cn.one {W:World}{c:Value}{d:D}(ho:one c=true)(h:AG nol (λ_=>False) W d c):Cn W [c] [d]:=⟨rfl,λi x y hx hy=>by
 match i with
 | 0=>cases hx;cases hy;exact⟨ho,h⟩
 |i+1=>simp at hx⟩
theorem Cn.append {W:World}{a b:List Value}{x y:List D}(h:Cn W a x)(k:Cn W b y):Cn W (a++b) (x++y):=⟨by rw[B9,B9,h.len,k.len],λi c d hc hd=>by
 by_cases hi:i<a.length
 ·rw[CT hi]at hc
  rw[CT (by rw[<-h.len];exact hi)]at hd;exact h.cell i c d hc hd
 ·rw[B8 (by omega)]at hc
  rw[B8 (by rw[<-h.len];omega),<-h.len]at hd;exact k.cell _ c d hc hd⟩
theorem Cn.agg {W:World}{cs:Array Value}{ds:List D}(h:Cn W cs.toList ds):AG nol (λ_=>False) W (.agg ds) (.agg cs):=by
 have hl:cs.size=ds.length:=by rw[<-h.len];simp
 refine .agg hl (λi v hv=>?_) λi d hd=>?_
 ·have hi:i<ds.length:=by
   have:=(Bo.1 hv).1
   omega
  exact(h.cell i v _ (by rw[FC];exact hv) (BI hi)).1
 ·have hi:i<cs.size:=by
   have:=(Ay.1 hd).1
   omega
  have hv:cs[i]?=some cs[i]:=BF hi
  have:=(h.cell i _ d (by rw[FC];exact hv) hd).2
  rw[show cs.getD i undef=cs[i] by simp[Array.getD,hi]];exact this
theorem R7 {α:Type}{p:Nat->α->Prop}:∀ {n:Nat},(∀i,i<n->∃x,p i x)->∃l:List α,l.length=n/\∀(i:Nat) (x:α),l[i]?=some x->p i x
 | 0,_=>⟨[],rfl,λi x h=>by simp at h⟩
 |n+1,h=>by
  obtain⟨l,h1,h2⟩:=R7 (n:=n) λi hi=>h i (by omega)
  obtain⟨x,hx⟩:=h n (by omega);refine⟨l++[x],by simp[h1],λi y hy=>?_⟩
  by_cases hi:i<l.length
  ·rw[CT hi]at hy;exact h2 i y hy
  ·rw[B8 (by omega)]at hy
   have:i-l.length=0:=by
    have:=(Ay.1 hy).1
    simp at this;omega
   rw[this]at hy;simp at hy;rw[show i=n by omega,<-hy];exact hx
theorem SH {b off k:Nat}:(Addr.mk b off none).add k=⟨b,off+k,none⟩:=by
 unfold Addr.add
 by_cases h:k=0
 ·subst h;rfl
 ·rw[AN h]
theorem Wc {W:World}{a:Addr}{v:Value}(h:W.cell? a=some v):∃b off,a=⟨b,off,none⟩/\b<W.heap.size:=by
 obtain⟨b,off,sp⟩:=a;unfold World.cell? at h;split at h
 ·rename_i c t f hb
  split at h
  ·cases h
  ·rename_i hs
   simp at hs;subst hs;exact⟨b,off,rfl,(Bo.1 hb).1⟩
 ·cases h
section
variable {H:Type} {enc:TypeId×Value->H} {P:Program} {W:World} {fuel:Nat} {cs:List Value} {x:DataW H×List MemPlace} {t:TypeId}
theorem cx {k:IntKind}(ht:P.underlying t=some (.int k))(h:DataW.trod enc P W 0 (λ_=>true) true fuel t cs=some x):∃z:Int,cs=[.int k z]/\(Lit.int k z).wf=true/\Cn W cs [.prim (.int k z)]:=by
 obtain⟨n,rfl,_,hw⟩:=DataW.trod_int ht h;exact⟨n,rfl,hw,.one rfl (.prim _)⟩
theorem cy (ht:P.underlying t=some .string)(h:DataW.trod enc P W 0 (λ_=>true) true fuel t cs=some x):∃l:List UInt8,Cn W cs [.prim (.string ⟨l.toArray⟩)]/\l.length<=maxLen:=by
 obtain⟨s,rfl,_,hw⟩:=DataW.trod_string ht h;refine⟨s.data.toList,.one rfl ?_,?_⟩
 rotate_left
 ·rw[GO];exact hw
 rw[show(⟨s.data.toList.toArray⟩:ByteArray)=s by cases s;simp];exact .prim _
theorem TH {α:Type}{g:α->D}{ok:α->Prop}{e:TypeId}{sz:Nat}(ht:P.underlying t=some (.slice e))(hc:P.cellsOf e=sz)(h0:0<sz)
  (he:∀n cs x,DataW.trod enc P W 0 (λ_=>true) true n e cs=some x->∃a,Cn W cs (g a).cells/\ok a)
  (h:DataW.trod enc P W 0 (λ_=>true) true fuel t cs=some x):∃l:List α,Cn W cs [.sl false sz (l.map g)]/\(∀a∈l,ok a)/\l.length<=maxLen:=by
 rcases DataW.trod_slice ht h with⟨rfl,_⟩|⟨a,len,cap,elems,rest,n,_,rfl,_,_,hl,hm,hlen,hel,hsp,_⟩
 ·exact⟨[],.one rfl (.nil _),λ_ h=>AW h NK,Bu _⟩
 rw[hc]at hel hsp;have hE:∀i,i<len->∃ci y,W.cells? 0 (a.add (i*sz)) sz=some ci/\DataW.trod enc P W 0 (λ_=>true) true n e ci=some y:=λi hi=>by
  have h1:=hel i hi;rw[B3]at h1;obtain⟨ci,h2,h3⟩:=Option.bind_eq_some_iff.1 h1;exact⟨ci,_,h2,h3⟩
 have hA:(len=0/\cap=0)\/∃v,W.cell? a=some v:=by
  by_cases hz:len=0
  ·by_cases hcz:cap=0
   ·exact .inl ⟨hz,hcz⟩
   obtain⟨h1,h2⟩:=hsp rfl;have h3:=h2 0 (by omega);rw[B3]at h3;obtain⟨ci,h4,_⟩:=Option.bind_eq_some_iff.1 h3;obtain⟨_,h5,h6⟩:=World.cells?_some h4;have h7:=h6 0 h0;rw[show len+0=0 by omega,GQ]at h7;rw[show(a.add 0).add 0=a from rfl,B3]at h7;exact .inr ⟨_,h7⟩
  ·obtain⟨ci,_,h4,_⟩:=hE 0 (by omega)
   obtain⟨_,h5,h6⟩:=World.cells?_some h4;have h7:=h6 0 h0;rw[GQ]at h7;rw[show(a.add 0).add 0=a from rfl,B3]at h7;exact .inr ⟨_,h7⟩
 rcases hA with⟨rfl,rfl⟩|⟨v,hv⟩
 ·exact⟨[],.one rfl (.emp a),λ_ h=>AW h NK,Bu _⟩
 obtain⟨b,off,rfl,hb⟩:=Wc hv;obtain⟨l,hll,hl2⟩:=R7 (p:=λi x=>∃ci,W.cells? 0 ((Addr.mk b off none).add (i*sz)) sz=some ci/\Cn W ci (g x).cells/\ok x) λi hi=>by
  obtain⟨ci,y,h1,h2⟩:=hE i hi;obtain⟨x,h3,h4⟩:=he n ci y h2;exact⟨x,ci,h1,h3,h4⟩
 have hcell:∀i x,l[i]?=some x->(g x).cells.length=sz/\∀j,j<sz->∃c d,W.cell? ⟨b,off+(i*sz+j),none⟩=some c/\(g x).cells[j]?=some d/\Ide.one c=true/\AG nol (λ_=>False) W d c:=λi x hx=>by
  obtain⟨ci,h1,h2,_⟩:=hl2 i x hx;obtain⟨_,h3,h4⟩:=World.cells?_some h1;refine⟨by rw[<-h2.len,h3],λj hj=>?_⟩;have h5:=h4 j hj;rw[SH,SH,B3,Fw]at h5;have h6:(g x).cells[j]?=some ((g x).cells[j]'(by rw[<-h2.len,h3];exact hj)):=BI _
  have:=h2.cell j _ _ (B3) h6
  exact⟨_,_,h5,h6,this.1,this.2⟩
 have hsplit:∀k,k<len*sz->∃i j x,k=i*sz+j/\i<len/\j<sz/\l[i]?=some x:=λk hk=>by
  have h1:k/sz<len:=(Nat.div_lt_iff_lt_mul h0).2 hk;exact⟨k/sz,k%sz,_,by rw[J0];exact(Nat.div_add_mod k sz).symm,h1,Gn _ h0,B3⟩
 refine⟨l,.one rfl (.sl (λk=>(W.cell? ⟨b,off+k,none⟩).getD undef) (by rw[BP,hll]) hl (λh=>h) hb ?_ ?_ ?_ ?_),λx hx=>?_,by omega⟩
 ·intro i d hd
  rw[Bf]at hd;obtain⟨x,hx,rfl⟩:=Gm.1 hd;exact(hcell i x hx).1
 ·intro k hk
  obtain⟨i,j,x,rfl,hi,hj,hx⟩:=hsplit k hk;obtain⟨c,d,h1,_⟩:=(hcell i x hx).2 j hj;rw[h1];rfl
 ·intro k hk
  obtain⟨i,j,x,rfl,hi,hj,hx⟩:=hsplit k hk;obtain⟨c,d,h1,_,h3,_⟩:=(hcell i x hx).2 j hj;rw[h1];exact h3
 ·intro i e' j d hd hj
  rw[Bf]at hd;obtain⟨x,hx,rfl⟩:=Gm.1 hd;have hjl:j<sz:=by
   have:=(Ay.1 hj).1
   rw[(hcell i x hx).1]at this;exact this
  obtain⟨c,d',h1,h2,_,h4⟩:=(hcell i x hx).2 j hjl;rw[h1];rw[h2]at hj;cases hj;exact h4
 ·obtain⟨i,hi⟩:=List.getElem?_of_mem hx
  obtain⟨_,_,_,h⟩:=hl2 i x hi;exact h
theorem Vs {fs:Array Field}(ht:P.underlying t=some (.struct fs))(h:DataW.trod enc P W 0 (λ_=>true) true fuel t cs=some x):
  cs.length=P.cellsOf t/\∃n,∀(i:Nat) (f:Field),fs[i]?=some f->∃y,DataW.trod enc P W 0 (λ_=>true) true n f.type ((cs.drop f.offset).take (P.cellsOf f.type))=some y:=by
 obtain⟨xs,n,rfl,_,h1,h2,h3⟩:=DataW.trod_struct ht h;refine⟨h1,n,λi f hf=>?_⟩
 have:=(Bo.1 hf).1
 exact⟨xs[i]'(by omega),by rw[h3 i f hf];exact BI _⟩
end
section
variable {C:AZ} {X:EV} {B:AI} {rd:Option Nat} {F:AI} {ops:Array Oper} {s:St} {Q:Exit->AI->St->Prop} {i:Nat}
theorem hU (hX:Cb C X)(hnd:DM ops.toList=true)(h:CJ C X (100*i) ops (List.range ops.size) s True λacc s=>acc/\Q .normal F s):AO C B rd F (.region i ops false) s Q:=AO.reg hX (100*i) hnd h
abbrev Dr:=List (Nat×List Nat×List Nat)
abbrev AU:Dr:=[]
noncomputable def NO (L:Dr)(i:Nat):List Nat×List Nat:=List.rec ([],[]) (λa _ r=>cond (Nat.beq a.1 i) a.2 r) L
inductive KD:Dr->Prop
 |mk (L:Dr):KD L
theorem iB {L:Dr}(hX:Cb C X)(_:KD L)(hc:(FX ops (NO L i).1 (NO L i).2&&DM ops.toList)=true)
  (h:C2 C X (100*i) ops s.H s.n (NO L i).1 s.env [] True λacc env N=>CJ C X (100*i) ops (NO L i).2 ⟨env,N++s.H,s.n+Bc ops.toList⟩ acc λacc s=>acc/\Q .normal F s):AO C B rd F (.region i ops true) s Q:=iA hX (100*i) _ _ hc h
theorem ip {c:Code}(h:AO C B rd F c s Q):AO C B rd F c s Q:=h
theorem fx {kb:Nat}{l:List Nat}{acc:Prop}{K:Prop->St->Prop}(h:CJ C X kb ops l s acc K):CJ C X kb ops l s acc K:=h
theorem fv {kb n:Nat}{l:List Nat}{H N:Hp}{env:Ab}{acc:Prop}{K:Prop->Ab->Hp->Prop}(h:C2 C X kb ops H n l env N acc K):C2 C X kb ops H n l env N acc K:=h
theorem gU {f n:Nat}{ds:List D}{H:Hp}{k:D->Hp->Nat->Prop}(h:CE C f ds H n k):CE C f ds H n k:=h
theorem gV {f:Nat}{ds:List D}{k:D->Prop}(h:CX C f ds k):CX C f ds k:=h
theorem DQ {F:Prop}(hf:CY F){P:Prop}(h:CY F->P:=by intro hf;first|((repeat'(first|exact AA|exact rfl|exact Or.inl rfl|exact Or.inr rfl|exact Cv.agg|exact NF rfl|exact BD rfl|refine DG ?_ ?_|(intro hq;first|exact rfl|exact AA|(exact AW hq (by decide)))|exact Ad _|omega|decide|(dsimp only[List.length_cons,List.length_nil];omega)));done)|((refine BC ?_);(try simp only[hf.out,kT,kF]);(try(repeat'(first|exact AA|exact rfl|exact Or.inl rfl|exact Or.inr rfl|exact Cv.agg|exact NF rfl|exact BD rfl|refine DG ?_ ?_|(intro hq;first|exact rfl|exact AA|(exact AW hq (by decide)))|exact Ad _|omega|decide|(dsimp only[List.length_cons,List.length_nil];omega))));done)|fail):P:=h hf
theorem GR {F:Prop}(hf:CY F){P:Prop}(h:CY F->P:=by intro hf;first|(simp only[hf.out,kT,kF];done)|fail):P:=h hf
theorem gD {y n:Prop}(h:y):HH true y n:=h
theorem gC {y n:Prop}(h:n):HH false y n:=h
end
theorem AJ {F A1 A2 A3 A4 A5 A6:Prop}(dr:Dr)(f:F)(c1:A1)(c2:A2)(c3:A3)(c4:A4)(c5:A5)(c6:A6){P Q:Prop}(h:Q)(e:KD dr->CY F->A1->A2->A3->A4->A5->A6->CY Q->P:=by
  intro hd hf c1 c2 c3 c4 c5 c6 hq
  repeat(first
   |((with_reducible refine ip ?_);first|refine AO.seq ?_|refine hU w1 (by kernel_rfl) ?_|refine iB w1 hd (by kernel_rfl) ?_|refine AO.block ?_|(refine AO.skip ?_;refine BC ?_;try simp only[hf.out,kT,kF])|(refine AO.exit ?_;refine BC ?_;try simp only[hf.out,kT,kF])|(refine AO.cond ?_;refine BC ?_;try simp only[hf.out,kT,kF,dX,dW])|(refine AO.ret ?_;refine DG (DQ hf) ?_;refine BC ?_;try simp only[hf.out,kT,kF]))
   |((with_reducible refine fx ?_);first|(refine DV rfl rfl ?_;refine GZ (λ_ _=>rfl) ?_)|(refine HQ rfl rfl rfl (GR hf) (DQ hf) ?_;refine GZ (λ_ _=>rfl) ?_)|refine Q6 rfl rfl rfl (GR hf) (DQ hf) ?_|(refine DV rfl rfl ?_;refine Ki (λ_ _=>rfl) (DQ hf) ?_;refine BC ?_;try simp only[hf.out,kT,kF])|(refine DV rfl rfl ?_;refine SY (λ_ _=>rfl) (DQ hf) ⟨rfl,by omega⟩ (by first|exact c1|exact c2|exact c3|exact c4|exact c5|exact c6|fail) ?_;try dsimp only[D.cells])|(refine DV rfl rfl ?_;refine Ml rfl rfl rfl (by(try dsimp only);(try simp only[hf.out,kT,kF]);exact rfl) ?_)|(refine DV rfl rfl ?_;refine Mm rfl rfl rfl (by(try dsimp only);(try simp only[hf.out,kT,kF]);exact rfl) ?_)|(refine HQ rfl rfl rfl (GR hf) (DQ hf) ?_;refine Ki (λ_ _=>rfl) (DQ hf) ?_;refine BC ?_;try simp only[hf.out,kT,kF])|(refine HQ rfl rfl rfl (GR hf) (DQ hf) ?_;refine SY (λ_ _=>rfl) (DQ hf) ⟨rfl,by omega⟩ (by first|exact c1|exact c2|exact c3|exact c4|exact c5|exact c6|fail) ?_;try dsimp only[D.cells])|(refine HQ rfl rfl rfl (GR hf) (DQ hf) ?_;refine Ml rfl rfl rfl (by(try dsimp only);(try simp only[hf.out,kT,kF]);exact rfl) ?_)|(refine HQ rfl rfl rfl (GR hf) (DQ hf) ?_;refine Mm rfl rfl rfl (by(try dsimp only);(try simp only[hf.out,kT,kF]);exact rfl) ?_)|(refine KU (DG (DQ hf) ?_);refine BC ?_;try simp only[hf.out,kT,kF])|(dsimp only[Nc,Nb,Bc,Ak,Bk,AV,Ab.get,Dz,EZ,DB,HC,Gf,Do,Di,D.cells,ofV,Hp.get,Hp.set,Hp.del,FQ,Ck,FR,cond,G9,Hd,Ha,Fo,Mu,BT,List.map,List.length,List.append,List.nil_append,List.cons_append,List.append_nil,List.size_toArray,List.length_cons,List.length_nil,Value.cells,List.toList_toArray,Array.toList,Nat.reduceAdd,Nat.reduceMul,Nat.beq,Nat.reduceSub,BT,GK,Bc,Bool.false_and,Bool.true_and,Bool.true_or,Bool.false_or,Bool.not_true,Bool.not_false])|(simp only[hf.out,kT,kF]))
   |((with_reducible refine fv ?_);first|(refine Ew rfl rfl ?_;refine El (λ_ _=>rfl) ?_)|(refine JJ rfl rfl rfl (GR hf) (DQ hf) ?_;refine El (λ_ _=>rfl) ?_)|refine Q5 rfl rfl rfl (GR hf) (DQ hf) ?_|(refine Ew rfl rfl ?_;refine Kh (λ_ _=>rfl) (DQ hf) ?_;refine BC ?_;try simp only[hf.out,kT,kF])|(refine Ew rfl rfl ?_;refine Mk (λ_ _=>rfl) (DQ hf) ⟨rfl,by omega⟩ (by first|exact c1|exact c2|exact c3|exact c4|exact c5|exact c6|fail) ?_;try dsimp only[D.cells])|(refine Ew rfl rfl ?_;refine Ia rfl rfl rfl (by(try dsimp only);(try simp only[hf.out,kT,kF]);exact rfl) ?_)|(refine JJ rfl rfl rfl (GR hf) (DQ hf) ?_;refine Kh (λ_ _=>rfl) (DQ hf) ?_;refine BC ?_;try simp only[hf.out,kT,kF])|(refine JJ rfl rfl rfl (GR hf) (DQ hf) ?_;refine Mk (λ_ _=>rfl) (DQ hf) ⟨rfl,by omega⟩ (by first|exact c1|exact c2|exact c3|exact c4|exact c5|exact c6|fail) ?_;try dsimp only[D.cells])|(refine JJ rfl rfl rfl (GR hf) (DQ hf) ?_;refine Ia rfl rfl rfl (by(try dsimp only);(try simp only[hf.out,kT,kF]);exact rfl) ?_)|(refine MF ?_;refine BC ?_;try simp only[hf.out,kT,kF])|(dsimp only[Nc,Nb,Bc,Ak,Bk,AV,Ab.get,Dz,EZ,DB,HC,Gf,Do,Di,D.cells,ofV,Hp.get,Hp.set,Hp.del,FQ,Ck,FR,cond,G9,Hd,Ha,Fo,Mu,BT,List.map,List.length,List.append,List.nil_append,List.cons_append,List.append_nil,List.size_toArray,List.length_cons,List.length_nil,Value.cells,List.toList_toArray,Array.toList,Nat.reduceAdd,Nat.reduceMul,Nat.beq,Nat.reduceSub,BT,GK,Bc,Bool.false_and,Bool.true_and,Bool.true_or,Bool.false_or,Bool.not_true,Bool.not_false])|(simp only[hf.out,kT,kF]))
   |((with_reducible refine gU ?_);((first|refine CE.same _ c1 An ?_|refine CE.same _ c2 An ?_|refine CE.same _ c3 An ?_|refine CE.same _ c4 An ?_|refine CE.same _ c5 An ?_|refine CE.same _ c6 An ?_|refine CE.same _ (c1 rfl) An ?_|refine CE.same _ (c2 rfl) An ?_|refine CE.same _ (c3 rfl) An ?_|refine CE.same _ (c4 rfl) An ?_|refine CE.same _ (c5 rfl) An ?_|refine CE.same _ (c6 rfl) An ?_);refine BC ?_;try simp only[hf.out,kT,kF]))
   |((with_reducible refine gV ?_);((first|refine CX.same _ c1 An ?_|refine CX.same _ c2 An ?_|refine CX.same _ c3 An ?_|refine CX.same _ c4 An ?_|refine CX.same _ c5 An ?_|refine CX.same _ c6 An ?_|refine CX.same _ (c1 rfl) An ?_|refine CX.same _ (c2 rfl) An ?_|refine CX.same _ (c3 rfl) An ?_|refine CX.same _ (c4 rfl) An ?_|refine CX.same _ (c5 rfl) An ?_|refine CX.same _ (c6 rfl) An ?_);refine BC ?_;try simp only[hf.out,kT,kF]))
   |(with_reducible refine gD ?_)
   |(with_reducible refine gC ?_)
   )
  exact hq.out):P:=e (.mk dr) ⟨f⟩ c1 c2 c3 c4 c5 c6 ⟨h⟩
structure Gv where
 k:Nat
 g:Nat
 o:Obj
def AI.wrs (F:AI)(Z:Nat->Prop):AI:=⟨F.w0,F.X,λb=>F.Wr b\/Z b,F.nt,F.r0,F.df⟩
def Gw (F:AI)(L:List Gv)(b:Nat):Prop:=∃x∈L,F.r0 x.k x.g=some b
structure GU (B F:AI)(Z:Nat->Prop):Prop where
 os:F.w0.os=B.w0.os
 tape:F.w0.tape=B.w0.tape
 output:F.w0.output=B.w0.output
 size:B.w0.heap.size<=F.w0.heap.size
 blk:∀b,b<B.w0.heap.size->¬B.Wr b->F.w0.heap[b]?=B.w0.heap[b]?
 wr:∀b,F.Wr b\/Z b->B.w0.heap.size<=b\/B.Wr b
 lnk:∀k g b,B.r0 k g=some b->F.r0 k g=some b
 X:∀b,B.X b->F.X b
 shp:∀(b:Nat) (cs:Array Value) (T:Nat) (fz:Nat×Nat),B.w0.heap[b]?=some (.cells cs T fz)->∃(cs':Array Value) (fz':Nat×Nat),F.w0.heap[b]?=some (.cells cs' T fz')/\cs'.size=cs.size
structure PG (C:AZ)(B:AI):Prop where
 xlt:∀b,B.X b->b<B.w0.heap.size
 g0:C.G B.w0
 gn:C.nG<=B.w0.heap.size
 gw:∀b,B.Wr b->C.nG<=b
structure Cz (C:AZ)(B F:AI)(L:List Gv):Prop where
 at_:∀x∈L,∃it,F.r0 x.k x.g=some it/\F.X it/\¬F.Wr it/\F.w0.heap[it]?=some x.o/\C.nG<=it
 nc:∀x∈L,∀cs T fz,x.o≠.cells cs T fz
 dis:L.Pairwise λx y=>F.r0 x.k x.g≠F.r0 y.k y.g
 reb:GU B F (Gw F L)
 bm:∀ {ρ:Lk} {H:Hp} {w:World},AQ C F ρ H w->PG C B
 df:F.df=B.df
def Gh (F:AI)(d:D)(v:Value):Prop:=AG F.r0 (λb=>F.X b\/F.Wr b) F.w0 d v
structure I9 (F F2:AI):Prop where
 lnk:∀k g b,F.r0 k g=some b->F2.r0 k g=some b
 rep:∀d v,Gh F d v->Gh F2 d v
 blk:∀b o,F.w0.heap[b]?=some o->¬(F.X b\/F.Wr b)->F2.w0.heap[b]?=some o/\¬(F2.X b\/F2.Wr b)
structure Jj (ρ:Lk)(O:Nat->Prop)(w:World)(F2:AI):Prop where
 rep:∀d v,AG ρ O w d v->Gh F2 d v
 blk:∀b o,w.heap[b]?=some o->¬O b->F2.w0.heap[b]?=some o/\¬(F2.X b\/F2.Wr b)
section
variable {C:AZ} {B F:AI} {ρ:Lk} {H:Hp} {w:World} {L:List Gv}
theorem Gh.now {d:D}{v:Value}(h:Gh F d v)(m:AQ C F ρ H w):AG ρ (AF F.X ρ H) w d v:=
 AG.mono h ⟨m.size,m.lnk,λb hb hO=>⟨λh=>by
  rcases h with h|⟨e,he,h⟩
  ·exact hO (.inl h)
  ·rcases(m.hok.own e he b h).2 with h|h
   ·omega
   ·exact hO (.inr h),m.blk b hb λh=>hO (.inr h)⟩,m.shp⟩
theorem Jj.to {F2:AI}(h:Jj ρ (AF F.X ρ H) w F2)(m:AQ C F ρ H w)(hl:∀k g b,ρ k g=some b->F2.r0 k g=some b):I9 F F2:=
 ⟨λk g b q=>hl _ _ _ (m.lnk _ _ _ q),λd v q=>h.rep d v (q.now m),λb o q r=>by
  have hlt:b<F.w0.heap.size:=(Bo.1 q).1;refine h.blk b o ((m.blk b hlt λh=>r (.inr h)).trans q) λho=>?_
  rcases ho with ho|⟨e,he,ho⟩
  ·exact r (.inl ho)
  ·rcases(m.hok.own e he b ho).2 with q|q
   ·omega
   ·exact r (.inr q)⟩
theorem AQ.wrs {Z:Nat->Prop}(m:AQ C F ρ H w)(hZ:∀b,Z b->C.nG<=b):AQ C (F.wrs Z) ρ H w:=
 ⟨⟨m.hok.ent,m.hok.inj,λe he b hb=>⟨(m.hok.own e he b hb).1,(m.hok.own e he b hb).2.imp id .inl⟩⟩,m.os,m.tape,m.output,m.size,λb hb h=>m.blk b hb λh'=>h (.inl h'),m.xlt,m.g0,m.gn,λb h=>h.elim (m.gw b) (hZ b),m.lnk,m.shp⟩
theorem GU.up {Z:Nat->Prop}(h:GU B F Z)(hb:PG C B)(m:AQ C (F.wrs Z) ρ H w):AQ C B ρ H w:=by
 have hX:∀b,AF B.X ρ H b->AF F.X ρ H b:=λb hb=>hb.imp (h.X b) id
 refine⟨⟨λe he=>?_,m.hok.inj,λe he b hb'=>?_⟩,m.os.trans h.os,m.tape.trans h.tape,m.output.trans h.output,Az h.size m.size,λb hb1 hb2=>?_,hb.xlt,hb.g0,hb.gn,hb.gw,λk g b q=>m.lnk _ _ _ (h.lnk _ _ _ q),λb cs T fz hc=>?_⟩
 ·rcases m.hok.ent e he with h1|⟨b,cs,a1,a2,a3⟩
  ·exact .inl h1
  ·exact .inr ⟨b,cs,a1,a2,a3.anti hX⟩
 ·obtain⟨q1,q2⟩:=m.hok.own e he b hb'
  refine⟨λq=>q1 (h.X b q),?_⟩;rcases q2 with q2|q2
  ·exact .inl (Az h.size q2)
  ·exact h.wr b q2
 ·refine(m.blk b (CU hb1 h.size) λq=>?_).trans (h.blk b hb1 hb2)
  rcases h.wr b q with q|q
  ·omega
  ·exact hb2 q
 ·obtain⟨cs1,I3,c1,c2⟩:=h.shp b cs T fz hc
  obtain⟨cs2,fz2,c3,c4⟩:=m.shp b cs1 T I3 c1;exact⟨cs2,fz2,c3,c4.trans c2⟩
theorem GU.fle {Z:Nat->Prop}(h:GU B F Z)(hb:PG C B)(hZ:∀b,Z b->C.nG<=b)(hn:F.nt=B.nt)(hd:F.df=B.df):Bp C B F:=
 ⟨hn,h.size,λm=>h.up hb (m.wrs hZ),h.X,[],hd,[],rfl,.nil,by simp⟩
theorem iH (F:AI):Cz C F F [] where
 at_:=by simp
 nc:=by simp
 dis:=.nil
 reb:=⟨rfl,rfl,rfl,Ad _,λ_ _ _=>rfl,λb hb=>by
  rcases hb with hb|⟨x,hx,_⟩
  ·exact .inr hb
  ·exact AW hx (by simp),λ_ _ _ h=>h,λ_ h=>h,λ_ cs _ _ h=>⟨cs,_,h,rfl⟩⟩
 bm:=λm=>⟨m.xlt,m.g0,m.gn,m.gw⟩
 df:=rfl
theorem Cz.ng (h:Cz C B F L):∀b,Gw F L b->C.nG<=b:=λb ⟨x,hx,hb⟩=>by
 obtain⟨it,a1,-,-,-,a5⟩:=h.at_ x hx;rw[a1]at hb;cases hb;exact a5
theorem Cz.now (h:Cz C B F L)(m:AQ C F ρ H w){x:Gv}(hx:x∈L):∃it,ρ x.k x.g=some it/\F.r0 x.k x.g=some it/\F.X it/\w.heap[it]?=some x.o:=by
 obtain⟨it,a1,a2,a3,a4,-⟩:=h.at_ x hx;exact⟨it,m.lnk _ _ _ a1,a1,a2,(m.blk it (m.xlt it a2) a3).trans a4⟩
variable {s:St} {a:Act}
theorem GU.now {Z Z2 X2:Nat->Prop}{ρ2:Lk}{w2:World}{nt:Nat}{df:List Deferred}(h:GU B F Z)(m:AQ C F ρ H w)(hos:w2.os=w.os)(htp:w2.tape=w.tape)(hout:w2.output=w.output)(hsz:w.heap.size<=w2.heap.size)
  (hold:∀b,b<w.heap.size->¬Z b->w2.heap[b]?=w.heap[b]?) (hZc:∀b,Z b->∀cs T fz,w.heap[b]? ≠ some (.cells cs T fz)) (hl:∀k g b,ρ k g=some b->ρ2 k g=some b) (hown:∀e∈H,∀b,ρ2 e.k e.g=some b->ρ e.k e.g=some b) (hX:∀b,B.X b->X2 b) (hZ2:∀b,Z2 b->Z b\/w.heap.size<=b):
  GU B (AI.subZ ρ2 H w2 nt X2 (λ_=>False) df) Z2 where
 os:=hos.trans (m.os.trans h.os)
 tape:=htp.trans (m.tape.trans h.tape)
 output:=hout.trans (m.output.trans h.output)
 size:=Az h.size (Az m.size hsz)
 blk:=λb hb1 hb2=>by
  have hn:¬(F.Wr b\/Z b):=λq=>by
   rcases h.wr b q with q|q
   ·omega
   ·exact hb2 q
  have hb3:=CU hb1 h.size;show w2.heap[b]?=_;rw[hold b (CU hb3 m.size) λq=>hn (.inr q),m.blk b hb3 λq=>hn (.inl q)];exact h.blk b hb1 hb2
 wr:=λb hb=>by
  rcases hb with(⟨e,he,hb⟩|hb)|hb
  ·rcases(m.hok.own e he b (hown e he b hb)).2 with q|q
   ·exact .inl (Az h.size q)
   ·exact h.wr b (.inl q)
  ·exact hb.elim
  ·rcases hZ2 b hb with q|q
   ·exact h.wr b (.inr q)
   ·exact .inl (Az h.size (Az m.size q))
 lnk:=λk g b q=>hl _ _ _ (m.lnk _ _ _ (h.lnk _ _ _ q))
 X:=hX
 shp:=λb cs T fz hc=>by
  obtain⟨cs1,I3,c1,c2⟩:=h.shp b cs T fz hc;obtain⟨cs2,fz2,c3,c4⟩:=m.shp b cs1 T I3 c1;have hlt:b<w.heap.size:=(Bo.1 c3).1;exact⟨cs2,fz2,by show w2.heap[b]?=_;rw[hold b hlt λq=>hZc b q _ _ _ c3];exact c3,c4.trans c2⟩
theorem Cz.cellF (h:Cz C B F L)(m:AQ C F ρ H w):∀b,Gw F L b->∀cs T fz,w.heap[b]? ≠ some (.cells cs T fz):=λb ⟨x,hx,hb⟩ cs T fz hc=>by
 obtain⟨it,-,b2,-,b4⟩:=h.now m hx;rw[hb]at b2;cases b2;rw[hc]at b4;exact h.nc x hx _ _ _ (H9 b4).symm
theorem Cz.alloc (hO:Cz C B F L)(hB:Bp C B F)(hs:Aw C F ρ s a w)(kb:Nat)(o0:Obj)(hc:∀cs T fz,o0≠.cells cs T fz):
  ∃F2 ρ2,Bp C B F2/\F2.nt=F.nt/\I9 F F2/\Cz C B F2 (⟨kb,s.n,o0⟩::L)/\Aw C F2 ρ2 ⟨s.env,s.H,s.n+1⟩ a (w.alloc o0)/\ρ2 kb s.n=some w.heap.size/\F2.r0 kb s.n=some w.heap.size/\¬B.X w.heap.size/\Jj ρ (AF F.X ρ s.H) w F2:=by
 have m:=hs.mem
 let it:=w.heap.size
 let X1:Nat->Prop:=λb=>F.X b\/b=it
 have hown:∀e∈s.H,∀b,ρ e.k e.g=some b->b<w.heap.size:=λe he b hb=>m.lt he hb
 have hfr:ρ kb s.n=none:=hs.fresh _ _ (Ad _)
 let ρ2:=ρ.put kb s.n it
 have hput:∀k g b,ρ k g=some b->ρ2 k g=some b:=λk g b hb=>Jw hfr hb
 have hown2:∀e∈s.H,∀b,ρ2 e.k e.g=some b->ρ e.k e.g=some b:=λe he b hb=>by
  have hg:=hs.gen e he
  have:ρ2 e.k e.g=ρ e.k e.g:=by
   show(if e.k=kb/\e.g=s.n then some it else ρ e.k e.g)=_;rw[BU]
  rw[<-this];exact hb
 have hw1:(w.alloc o0).heap.size=w.heap.size+1:=World.size_alloc ..;have hold:∀b,b<w.heap.size->(w.alloc o0).heap[b]?=w.heap[b]?:=λb hb=>by rw[Cc,BU]
 have xx:∀X':Nat->Prop,(∀b,b<w.heap.size->X' b->F.X b)->Ao ρ (AF F.X ρ s.H) w ρ2 (AF X' ρ2 s.H) (w.alloc o0):=λX' hX'=>by
  refine⟨by omega,hput,λb hb hO=>⟨?_,hold b hb⟩,λb cs T fz hc=>⟨cs,_,by rw[hold b (Bo.1 hc).1];exact hc,rfl⟩⟩;rintro(h|⟨e,he,h⟩)
  ·exact hO (.inl (hX' b hb h))
  ·exact hO (.inr ⟨e,he,hown2 e he b h⟩)
 have m1:AQ C F ρ2 s.H (w.alloc o0):=by
  have x1:=xx F.X λ_ _ h=>h
  refine⟨⟨λe he=>?_,m.hok.inj.imp_of_mem λ{e e'} he he' h b b' hb hb'=>h b b' (hown2 e he b hb) (hown2 e' he' b' hb'),λe he b hb=>m.hok.own e he b (hown2 e he b hb)⟩,m.os,m.tape,m.output,by have:=m.size;omega,
   λb hb hW=>by rw[hold b (CU hb m.size)];exact m.blk b hb hW,m.xlt,m.g0,m.gn,m.gw,λk g b h=>hput _ _ _ (m.lnk k g b h),GC m.shp x1⟩
  rcases m.hok.ent e he with⟨h1,h2⟩|⟨b,cs,a1,a2,a3⟩
  ·refine .inl ⟨h1,?_⟩
   cases hb:ρ2 e.k e.g with
   |none=>rfl
   |some b=>rw[hown2 e he b hb]at h2;cases h2
  ·exact .inr ⟨b,cs,hput _ _ _ a1,by rw[hold b (m.lt he a1)];exact a2,a3.mono x1⟩
 have hitm:∀e∈s.H,∀b,ρ2 e.k e.g=some b->b≠it:=λe he b hb=>by have:=hown e he b (hown2 e he b hb);simp only[it];omega
 have hX1lt:∀b,X1 b->b<(w.alloc o0).heap.size:=λb hb=>by
  rcases hb with h|h
  ·have:=m.xlt b h;have:=m.size;omega
  ·simp only[it]at h;omega
 have hX1o:∀e∈s.H,∀b,ρ2 e.k e.g=some b->¬X1 b:=λe he b hb hb'=>by
  rcases hb' with h|h
  ·exact(m.hok.own e he b (hown2 e he b hb)).1 h
  ·exact hitm e he b hb h
 have hng:C.nG<=it:=by have:=m.gn;have:=m.size;simp only[it];omega
 have ent:∀Z:Nat->Prop,(∀b,Z b->C.nG<=b)->AQ C (AI.subZ ρ2 s.H (w.alloc o0) F.nt X1 Z F.df) ρ2 s.H (w.alloc o0):=λZ hZ=>by
  refine⟨⟨λe he=>?_,m1.hok.inj,λe he b hb=>⟨hX1o e he b hb,.inr (.inl ⟨e,he,hb⟩)⟩⟩,rfl,rfl,rfl,Ad _,λ_ _ _=>rfl,hX1lt,m1.g,Az m1.gn m1.size,λb hb=>?_,λ_ _ _ h=>h,λ_ cs _ _ h=>⟨cs,_,h,rfl⟩⟩
  ·rcases m.hok.ent e he with⟨h1,h2⟩|⟨b,cs,a1,a2,a3⟩
   ·rcases m1.hok.ent e he with h|⟨b,cs,b1,_⟩
    ·exact .inl h
    ·rw[hown2 e he b b1]at h2;cases h2
   ·exact .inr ⟨b,cs,hput _ _ _ a1,by rw[hold b (m.lt he a1)];exact a2,a3.mono (xx X1 λb hb h=>h.resolve_right λh=>by simp only[it]at h;omega)⟩
  ·rcases hb with⟨e,he,hb⟩|hb
   ·rcases(m1.hok.own e he b hb).2 with h|h
    ·exact Az m1.gn h
    ·exact m1.gw b h
   ·exact hZ b hb
 let F2:=AI.subZ ρ2 s.H (w.alloc o0) F.nt X1 (λ_=>False) F.df
 have hr0:F2.r0 kb s.n=some it:=CO ..;have hold0:∀x∈L,F2.r0 x.k x.g=F.r0 x.k x.g:=λx hx=>by
  obtain⟨i2,a1,-⟩:=hO.at_ x hx;rw[a1];exact hput _ _ _ (m.lnk _ _ _ a1)
 have hlt0:∀x∈L,∀b,F.r0 x.k x.g=some b->b<w.heap.size:=λx hx b hb=>by
  obtain⟨i2,a1,a2,-⟩:=hO.at_ x hx;have h9:i2=b:=H9 (a1.symm.trans hb)
  have:=m.xlt i2 a2;have:=m.size;omega
 have hZ2:∀b,Gw F2 (⟨kb,s.n,o0⟩::L) b->b=it\/Gw F L b:=λb ⟨x,hx,hb⟩=>by
  rcases Ah.1 hx with rfl|hx
  ·rw[hr0]at hb;cases hb;exact .inl rfl
  ·rw[hold0 x hx]at hb;exact .inr ⟨x,hx,hb⟩
 have hbm:=hO.bm m;have hreb:GU B F2 (Gw F2 (⟨kb,s.n,o0⟩::L)):=hO.reb.now m rfl rfl rfl (by rw[hw1];omega) (λb hb _=>hold b hb) (hO.cellF m) hput hown2 (λb hb=>.inl (hO.reb.X b hb)) λb hb=>by
  rcases hZ2 b hb with h|h
  ·exact .inr (Nat.le_of_eq h.symm)
  ·exact .inl h
 have hobs:Cz C B F2 (⟨kb,s.n,o0⟩::L):=by
  refine⟨λx hx=>?_,λx hx=>?_,D3.2 ⟨λx hx e=>?_,?_⟩,hreb,λ_=>hbm,hO.df⟩
  ·rcases Ah.1 hx with rfl|hx
   ·exact⟨it,hr0,.inr rfl,λh=>by
     rcases h with⟨e,he,h⟩|h
     ·exact hitm e he it h rfl
     ·exact h,by show(w.alloc _).heap[it]?=_;rw[Cc,AM rfl],hng⟩
   ·obtain⟨i2,a1,a2,a3,a4,a5⟩:=hO.at_ x hx
    refine⟨i2,(hold0 x hx).trans a1,.inl a2,λh=>?_,?_,a5⟩
    ·rcases h with⟨e,he,h⟩|h
     ·exact hX1o e he i2 h (.inl a2)
     ·exact h
    ·show(w.alloc o0).heap[i2]?=_
     rw[hold i2 (hlt0 x hx i2 a1)];exact(m.blk i2 (m.xlt i2 a2) a3).trans a4
  ·rcases Ah.1 hx with rfl|hx
   ·exact hc
   ·exact hO.nc x hx
  ·obtain⟨i2,a1,-⟩:=hO.at_ x hx
   have e':F2.r0 kb s.n=F2.r0 x.k x.g:=e;rw[hr0,hold0 x hx,a1]at e';have h9:=hlt0 x hx i2 a1;have h8:it=i2:=H9 e';simp only[it]at h8;omega
  ·exact hO.dis.imp_of_mem λ{x y} hx hy h=>by rw[hold0 x hx,hold0 y hy];exact h
 have hF2:Bp C B F2:=hreb.fle hbm (λb hb=>(hZ2 b hb).elim (λh=>by rw[h];exact hng) (hO.ng b)) hB.nt hO.df;have hfr2:∀d v,AG ρ (AF F.X ρ s.H) w d v->Gh F2 d v:=λd v h=>(h.mono (xx X1 λb hb h=>h.resolve_right λh=>by simp only[it]at h;omega)).anti λb hb=>by
  rcases hb with hb|hb|hb
  ·exact .inl hb
  ·exact .inr hb
  ·exact hb.elim
 have hnow:Jj ρ (AF F.X ρ s.H) w F2:=⟨hfr2,λb o h1 h2=>by
  have hlt:b<w.heap.size:=(Bo.1 h1).1;refine⟨(hold b hlt).trans h1,λq=>?_⟩;rcases q with(q|q)|⟨e,he,q⟩|q
  ·exact h2 (.inl q)
  ·simp only[it]at q;omega
  ·exact h2 (.inr ⟨e,he,hown2 e he b q⟩)
  ·exact q⟩
 refine⟨F2,ρ2,hF2,rfl,hnow.to m hput,hobs,?_,CO ..,hr0,λq=>by have:=hbm.xlt _ q;have:=hO.reb.size;have:=m.size;omega,hnow⟩;exact⟨ent _ λ_ h=>h.elim,λk g hg=>by
  have hg:s.n+1<=g:=hg;show(if k=kb/\g=s.n then some it else ρ k g)=none;rw[BU];exact hs.fresh k g (by omega),λe he=>BK (hs.gen e he),λt=>(hs.env t).mono (xx X1 λb hb h=>h.resolve_right λh=>by simp only[it]at h;omega),hs.nt,hs.dfr⟩
theorem Cz.turn {x:Gv}{o':Obj}{it:Nat}(hO:Cz C B F (x::L))(hB:Bp C B F)(hs:Aw C F ρ s a w)(hc:∀cs T fz,o'≠.cells cs T fz)(hit:F.r0 x.k x.g=some it):
  ∃F2,Bp C B F2/\F2.nt=F.nt/\I9 F F2/\Cz C B F2 (⟨x.k,x.g,o'⟩::L)/\Aw C F2 ρ ⟨s.env,s.H,s.n+1⟩ a (w.putObj it o')/\F2.r0 x.k x.g=some it/\Jj ρ (AF F.X ρ s.H) w F2:=by
 have m:=hs.mem;obtain⟨i1,j1,j2,j3,j4,j5⟩:=hO.at_ x DF;rw[hit]at j1;cases j1;have hob:w.heap[it]?=some x.o:=(m.blk it (m.xlt it j2) j3).trans j4;have hitw:it<w.heap.size:=(Bo.1 hob).1;have hx0:=hO.nc x DF;have mW:=m.wrs hO.ng;have mp:=mW.putX j2 (.inr ⟨x,DF,hit⟩) hx0 hob o';have xp:=Ao.putX (ρ:=ρ) (O:=AF F.X ρ s.H) (w:=w) (.inl j2) hx0 hob o';have hit':(w.putObj it o').heap[it]?=some o':=World.putObj_heap_same hitw;have hszp:=(Gy w it o').2.2.2;have hwos:=(Gy w it o').1;have hwtp:=(Gy w it o').2.1;have hwout:=(Gy w it o').2.2.1;have hoth:∀b,b≠it->(w.putObj it o').heap[b]?=w.heap[b]?:=λb hb=>World.putObj_heap_other hb
 generalize w.putObj it o'=w2 at mp xp hit' hszp hoth hwos hwtp hwout⊢
 let F2:=AI.subZ ρ s.H w2 F.nt F.X (λ_=>False) F.df
 have ent:∀Z:Nat->Prop,(∀b,Z b->C.nG<=b)->(∀b,Z b->F.X b)->AQ C (AI.subZ ρ s.H w2 F.nt F.X Z F.df) ρ s.H w2:=λZ hZ hZX=>mp.enterZ (.refl _ _ _) rfl rfl rfl (λ_ _ _=>rfl) (λe he b hb hb'=>(mp.hok.own e he b hb).1 (hZX b hb')) (λb hb=>CU (mp.xlt b hb) mp.size) (λe he b hb=>(mp.hok.own e he b hb).1) hZ _ _
 have hr0:∀y∈x::L,F2.r0 y.k y.g=F.r0 y.k y.g:=λy hy=>by
  obtain⟨i2,a1,-⟩:=hO.at_ y hy;rw[a1];exact m.lnk _ _ _ a1
 have hZ2:Gw F2 (⟨x.k,x.g,o'⟩::L)=Gw F (x::L):=funext λb=>propext ⟨λ⟨y,hy,hb⟩=>by
   rcases Ah.1 hy with rfl|hy
   ·exact⟨x,DF,by rw[<-hr0 x DF];exact hb⟩
   ·exact⟨y,Dv _ hy,by rw[<-hr0 y (Dv _ hy)];exact hb⟩,λ⟨y,hy,hb⟩=>by
   rcases Ah.1 hy with rfl|hy
   ·exact⟨_,DF,by rw[hr0 y DF];exact hb⟩
   ·exact⟨y,Dv _ hy,by rw[hr0 y (Dv _ hy)];exact hb⟩⟩
 have hbm:=hO.bm m;have hreb:GU B F2 (Gw F2 (⟨x.k,x.g,o'⟩::L)):=by
  rw[hZ2];exact hO.reb.now m hwos hwtp hwout (by rw[hszp];exact Ad _) (λb _ hz=>hoth b λe=>hz ⟨x,DF,by rw[e];exact hit⟩) (hO.cellF m) (λ_ _ _ h=>h) (λ_ _ _ h=>h) (λb hb=>hO.reb.X b hb) λb hb=>.inl hb
 have hobs:Cz C B F2 (⟨x.k,x.g,o'⟩::L):=by
  have hd:=D3.1 hO.dis;refine⟨λy hy=>?_,λy hy=>?_,D3.2 ⟨λy hy e=>?_,?_⟩,hreb,λ_=>hbm,hO.df⟩
  ·rcases Ah.1 hy with rfl|hy
   ·exact⟨it,(hr0 x DF).trans hit,j2,λh=>by
     rcases h with⟨e,he,h⟩|h
     ·exact(mp.hok.own e he it h).1 j2
     ·exact h,hit',j5⟩
   ·have hy':=Dv x hy
    obtain⟨i2,a1,a2,a3,a4,a5⟩:=hO.at_ y hy';refine⟨i2,(hr0 y hy').trans a1,a2,λh=>?_,?_,a5⟩
    ·rcases h with⟨e,he,h⟩|h
     ·exact(mp.hok.own e he i2 h).1 a2
     ·exact h
    ·show w2.heap[i2]?=_
     rw[hoth i2 λe=>hd.1 y hy (by rw[hit,a1,e])];exact(m.blk i2 (m.xlt i2 a2) a3).trans a4
  ·rcases Ah.1 hy with rfl|hy
   ·exact hc
   ·exact hO.nc y (Dv _ hy)
  ·have e':F2.r0 x.k x.g=F2.r0 y.k y.g:=e
   rw[hr0 x DF,hr0 y (Dv _ hy)]at e';exact hd.1 y hy e'
  ·exact hd.2.imp_of_mem λ{y z} hy hz h=>by rw[hr0 y (Dv _ hy),hr0 z (Dv _ hz)];exact h
 have hF2:Bp C B F2:=hreb.fle hbm (λb hb=>by rw[hZ2]at hb;exact hO.ng b hb) hB.nt hO.df;have hfr2:∀d v,AG ρ (AF F.X ρ s.H) w d v->Gh F2 d v:=λd v h=>(h.mono xp).anti λb hb=>by
  rcases hb with hb|hb|hb
  ·exact .inl hb
  ·exact .inr hb
  ·exact hb.elim
 have hnow:Jj ρ (AF F.X ρ s.H) w F2:=⟨hfr2,λb o h1 h2=>by
  refine⟨(hoth b λe=>h2 (.inl (e ▸ j2))).trans h1,λq=>?_⟩;rcases q with q|⟨e,he,q⟩|q
  ·exact h2 (.inl q)
  ·exact h2 (.inr ⟨e,he,q⟩)
  ·exact q⟩
 refine⟨F2,hF2,rfl,hnow.to m λ_ _ _ h=>h,hobs,?_,(hr0 x DF).trans hit,hnow⟩;exact⟨ent _ (λ_ h=>h.elim) (λ_ h=>h.elim),λk g hg=>hs.fresh k g (by have:s.n+1<=g:=hg;omega),λe he=>BK (hs.gen e he),λt=>(hs.env t).mono xp,hs.nt,hs.dfr⟩
end
section
variable {C:AZ} {X:EV} {B F:AI} {ops:Array Oper} {s:St} {rd:Option Nat} {Q:Exit->AI->St->Prop} {L:List Gv}
structure Bq (C:AZ)(B:AI)(rd:Option Nat)(F:AI)(ops:Array Oper)(l:List Nat)(s:St)(Q:Exit->AI->St->Prop):Prop where
 out:Bp C B F->(∀j∈l,j<ops.size)->ops.toList.all (CB B.nt)=true->DM ops.toList=true->∀(ρ:Lk) (a:Act) (w:World),Aw C F ρ s a w->wpOpsIn (fw rd) 0 C.P ops (DA C B Q) l a w
theorem Bq.nil (h:Q .normal F s):Bq C B rd F ops [] s Q:=⟨λhB _ _ _ ρ _ _ hs=>⟨F,s,ρ,hB,h,hs⟩⟩
theorem Iw (hX:Cb C X)(kb:Nat)(l1 l2:List Nat)(h:CJ C X kb ops l1 s True λacc s1=>acc/\Bq C B rd F ops l2 s1 Q):Bq C B rd F ops (l1++l2) s Q:=
 ⟨λhB hlt hd hnd ρ a w hs=>EP (rd:=rd) (Q:=DA C B Q) (l2:=l2) (λe a w h=>by
  obtain⟨h0,s1,ρ1,h,hs1⟩:=h;exact⟨h0,Bq.out h hB (λ_ hj=>hlt _ (by simp[hj])) hd hnd ρ1 a w hs1⟩) (F8 hnd) _ a w
   ((Em (F:=F) (K':=λs1=>Bq C B rd F ops l2 s1 Q) hX (λacc s h=>h) h).2.run (λj hj=>hlt j (by simp[hj])) (by rw[hB.nt];exact hd) hs)⟩
theorem Jx {i:Nat}(hnd:DM ops.toList=true)(h:Bq C B rd F ops (List.range ops.size) s Q):AO C B rd F (.region i ops false) s Q:=
 ⟨λhB hd ρ a w hs=>wpIn_region (h.out hB (λj hj=>List.mem_range.1 hj) hd hnd ρ a w hs)⟩
theorem Bq.step {i:Nat}{o:Oper}{l2:List Nat}(ho:CS ops.toList i=some o)(hg:o.guard=none)
  (h:∀ρ a w,Aw C F ρ s a w->Bp C B F->∃v w2 F2 ρ2 d,((execOp a.eval o).run C.P w=.ok (.value v) w2\/((execOp a.eval o).run C.P w=.ok .skip w2/\v=undef))/\Bp C B F2/\Aw C F2 ρ2 ⟨s.env,s.H,s.n+1⟩ a w2/\AG ρ2 (AF F2.X ρ2 s.H) w2 d v/\Bq C B rd F2 ops l2 ⟨Ak s.env o.dst d,s.H,s.n+1⟩ Q):
  Bq C B rd F ops (i::l2) s Q:=by
 refine⟨λhB hlt hd hnd ρ a w hs=>?_⟩;obtain⟨v,w2,F2,ρ2,d,hr,hB2,hs2,hrep,hk⟩:=h ρ a w hs hB;have ho:=IT ho;have hdo:CB B.nt o=true:=CF.1 hd o (Dc.2 (FD ho));have hs3:=hs2.put (H':=s.H) (o:=o) (d:=d) (v:=v) hs2.mem (.refl _ _ _) hs2.fresh hs2.gen hrep (by rw[hB2.nt];exact hdo);have hk2:=hk.out hB2 (λj hj=>hlt j (Dv _ hj)) hd hnd ρ2 _ w2 hs3;simp only[wpOpsIn,ho];rw[AM (by unfold Region.wanted;rw[hg])];rcases hr with hr|⟨hr,rfl⟩
 ·exact Ka hr hk2
 ·exact Vi hr hk2
abbrev ge:=List (ByteArray×D)
def Mo (F:AI)(o:Obj)(l:ge):Prop:=∃es clock,o=.map es clock/\es.size=l.length/\EQ es clock/\∀(i:Nat) (p:ByteArray×D),l[i]?=some p->(es.getD i default).key=.string p.1/\Gh F p.2 (es.getD i default).val
theorem Mo.new (F:AI):Mo F (.map #[] 0) []:=⟨#[],0,rfl,rfl,⟨by simp,by simp⟩,by simp⟩
theorem Bq.makeMap {i:Nat}{o:Oper}{l2:List Nat}{T:Nat}(kb:Nat)(ho:CS ops.toList i=some o)(hg:o.guard=none)(hop:o.op=.makeMap T none)(hO:Cz C B F L)
  (h:∀F2 it,I9 F F2->Cz C B F2 (⟨kb,s.n,.map #[] 0⟩::L)->F2.r0 kb s.n=some it->¬B.X it->Mo F2 (.map #[] 0) []->Bq C B rd F2 ops l2 ⟨Ak s.env o.dst (.prim (.map (some it))),s.H,s.n+1⟩ Q):Bq C B rd F ops (i::l2) s Q:=by
 refine Bq.step ho hg λρ a w hs hB=>?_
 obtain⟨F2,ρ2,hB2,-,ht,hO2,hs2,-,hr0,hnX,-⟩:=hO.alloc hB hs kb (.map #[] 0) (by simp);refine⟨.map (some w.heap.size),_,F2,ρ2,.prim (.map (some w.heap.size)),.inl ?_,hB2,hs2,.prim _,h F2 _ ht hO2 hr0 hnX (Mo.new _)⟩;unfold execOp;simp only[hop];rw[run_bind];rfl
end
section
variable {C:AZ} {X:EV} {B F:AI} {ops:Array Oper} {s:St} {rd:Option Nat} {Q:Exit->AI->St->Prop} {L:List Gv}
def Ji (F:AI)(o:Obj)(ks vs:List D)(dn:List Nat):Prop:=∃bm es clock since c0 seen,o=.mapIter (some bm) since seen c0/\F.w0.heap[bm]?=some (.map es clock)/\¬(F.X bm\/F.Wr bm)/\es.size=ks.length/\es.size=vs.length/\EQ es clock /\
 (∀(i:Nat) (d:D),ks[i]?=some d->Gh F d (es.getD i default).key)/\(∀(i:Nat) (d:D),vs[i]?=some d->Gh F d (es.getD i default).val) /\
 (∀(i:Nat) (e:MapEntry),es[i]?=some e->e.born<since)/\since<=c0/\c0=clock/\seen.toList=dn.map (λi=>(es.getD i default).born)/\dn.Nodup/\∀i∈dn,i<es.size
theorem hP {i:Nat}{o:Oper}{l2:List Nat}{t k e:Nat}{x:Operand}{ks vs:List D}(kb:Nat)(ht:C.P.underlying t=some (.map k e))(ho:CS ops.toList i=some o)(hg:o.guard=none)(hop:o.op=.range t x)(hx:AV s.env x=.mp ks vs)(hO:Cz C B F L)
  (h:∀F2 o2,I9 F F2->Cz C B F2 (⟨kb,s.n,o2⟩::L)->Ji F2 o2 ks vs []->Bq C B rd F2 ops l2 ⟨Ak s.env o.dst (.optr kb s.n 0 0 0),s.H,s.n+1⟩ Q):Bq C B rd F ops (i::l2) s Q:=by
 refine Bq.step ho hg λρ a w hs hB=>?_
 have hrep:=BN hs.env x;rw[hx]at hrep;generalize hev:a.eval x=v at hrep;cases hrep with
 |mp hO' hr hb h1 h2 hBo hk hv=>
  rename_i r clock es;obtain⟨F2,ρ2,hB2,-,hto,hO2,hs2,hlk,hr0,-,hnow⟩:=hO.alloc hB hs kb (.mapIter (some r) clock #[] clock) (by simp);obtain⟨q1,q2⟩:=hnow.blk r _ hb hO';refine⟨_,_,F2,ρ2,.optr kb s.n 0 0 0,.inl ?_,hB2,hs2,.optr hlk,h F2 _ hto hO2 ⟨r,es,clock,clock,clock,#[],rfl,q1,q2,h1,h2,hBo,λi d hd=>hnow.rep _ _ (hk i d hd),λi d hd=>hnow.rep _ _ (hv i d hd),hBo.1,Ad _,rfl,rfl,.nil,by simp⟩⟩;unfold execOp;simp only[hop];rw[run_bind,hev,run_range_map w t k e r es clock ht hb];simp
theorem Aw.drew {ρ:Lk}{a:Act}{w:World}(hs:Aw C F ρ s a w):Aw C F ρ s a w.drew:=⟨hs.mem.drew,hs.fresh,hs.gen,λt=>(hs.env t).mono (.drew _ _ _),hs.nt,hs.dfr⟩
theorem hD {i:Nat}{o:Oper}{l2:List Nat}{x:Operand}{ks vs:List D}{xo:Gv}{dn:List Nat}(ho:CS ops.toList i=some o)(hg:o.guard=none)(hop:o.op=.next x false)(hx:AV s.env x=.optr xo.k xo.g 0 0 0)(hO:Cz C B F (xo::L))(hI:Ji F xo.o ks vs dn)
  (h1:(∀j,j<ks.length->j∈dn)->Bq C B rd F ops l2 ⟨Ak s.env o.dst (.tup [Ai false]),s.H,s.n+1⟩ Q)
  (h2:∀j kd vd F2 o2,j∉dn->ks[j]?=some kd->vs[j]?=some vd->I9 F F2->Cz C B F2 (⟨xo.k,xo.g,o2⟩::L)->Ji F2 o2 ks vs (dn++[j])->Bq C B rd F2 ops l2 ⟨Ak s.env o.dst (.tup [Ai true,kd,vd]),s.H,s.n+1⟩ Q):
  Bq C B rd F ops (i::l2) s Q:=by
 refine Bq.step ho hg λρ a w hs hB=>?_
 have m:=hs.mem;obtain⟨it,b1,b2,b3,b4⟩:=hO.now m DF;obtain⟨bm,es,clock,since,c0,seen,e1,e2,e3,e4,e5,e6,e7,e8,e9,e10,e11,e12,e13,e14⟩:=hI;subst e11;rw[e1]at b4;have hlt0:bm<F.w0.heap.size:=(Bo.1 e2).1;have hbm:w.heap[bm]?=some (.map es c0):=(m.blk bm hlt0 λq=>e3 (.inr q)).trans e2;have hxv:a.eval x=.pointer (some ⟨it,0,none⟩):=by
  have:=BN hs.env x
  rw[hx]at this;generalize a.eval x=v at this;cases this with
  |optr hr=>rw[b1]at hr;cases hr;rfl
 have sat:∀w',Aw C F ρ s a w'->Aw C F ρ ⟨s.env,s.H,s.n+1⟩ a w':=λw' hs=>⟨hs.mem,λk g hg=>hs.fresh k g (by have:s.n+1<=g:=hg;omega),λe he=>BK (hs.gen e he),hs.env,hs.nt,hs.dfr⟩
 have hmem:∀e:MapEntry,e∈es.toList->∃j,es[j]?=some e:=λe he=>by
  obtain⟨j,hj⟩:=HJ.1 he;exact⟨j,by simpa using hj⟩
 have hseen:∀b:Nat,seen.contains b=true↔∃j∈dn,(es.getD j default).born=b:=λb=>by
  rw[<-Array.contains_toList,e12,List.contains_iff_mem,Bw]
 rcases run_next_at (P:=C.P) w o.type it bm since c0 seen es c0 b4 hbm (λe he=>by obtain⟨j,hj⟩:=hmem e he;exact e9 j e hj) e10 with⟨q1,q2⟩|⟨e,he,w1,hw1,q2⟩
 ·refine⟨_,w,F,ρ,_,.inl ?_,hB,sat w hs,.tup (vs:=#[.bool false]) rfl λi d hd=>?_,h1 λj hj=>?_⟩
  ·unfold execOp
   simp only[hop];rw[run_bind,hxv,q2];rfl
  ·match i with
   | 0=>simp at hd;subst hd;exact .prim _
   |n+1=>simp at hd
  ·rw[<-e4]at hj
   obtain⟨ej,hej⟩:∃ej,es[j]?=some ej:=⟨es[j],BF hj⟩
   have hc:seen.contains ej.born=true:=by
    apply Dt;intro hn;have hn:seen.contains ej.born=false:=by simpa using hn
    have:ej∈leftOf es seen:=by
     unfold leftOf;rw[Array.mem_filter];exact⟨FD hej,by rw[hn];rfl⟩
    have:=Array.size_pos_of_mem this
    omega
   obtain⟨j',hj',hb'⟩:=(hseen _).1 hc;have hlt:=e14 j' hj'
   have:j=j':=e6.2 j j' ej (es.getD j' default) hej (by rw[AT,BF hlt];rfl) hb'.symm
   rw[this];exact hj'
 ·have hel:e∈es/\seen.contains e.born=false:=by
   have:e∈leftOf es seen:=Dc.1 he
   unfold leftOf at this;rw[Array.mem_filter]at this;exact⟨this.1,by simpa using this.2⟩
  obtain⟨j,hj⟩:=hmem e (Dc.2 hel.1);have hjl:j<es.size:=(Bo.1 hj).1;have hgd:es.getD j default=e:=by rw[AT,hj];rfl
  have hjn:j∉dn:=λq=>by
   have:=(hseen e.born).2 ⟨j,q,by rw[hgd]⟩
   rw[hel.2]at this;cases this
  obtain⟨kd,hkd⟩:∃kd,ks[j]?=some kd:=⟨ks[j]'(by omega),BI _⟩
  obtain⟨vd,hvd⟩:∃vd,vs[j]?=some vd:=⟨vs[j]'(by omega),BI _⟩
  have hs1:Aw C F ρ s a w1:=by
   rcases hw1 with rfl|rfl
   ·exact hs
   ·exact hs.drew
  obtain⟨F2,hB2,-,hto,hO2,hs2,hr0,-⟩:=hO.turn (o':=.mapIter (some bm) since (seen.push e.born) c0) hB hs1 (by simp) b2;obtain⟨p1,p2⟩:=hto.blk _ _ e2 e3;have hit2:Ji F2 (.mapIter (some bm) since (seen.push e.born) c0) ks vs (dn++[j]):=⟨bm,es,c0,since,c0,seen.push e.born,rfl,p1,p2,e4,e5,e6,λi d hd=>hto.rep _ _ (e7 i d hd),λi d hd=>hto.rep _ _ (e8 i d hd),e9,e10,rfl,by
   rw[Array.toList_push,e12,EH];simp only[BY,List.map_nil];rw[hgd],by
   rw[De];exact⟨e13,by simp,λx hx y hy=>by
    rw[Eb]at hy;subst hy;exact λq=>hjn (q ▸ hx)⟩,λi hi=>by
   rcases BR.1 hi with hi|hi
   ·exact e14 i hi
   ·rw[Eb]at hi;subst hi;exact hjl⟩
  have hk:=(hto.rep _ _ (e7 j kd hkd)).now hs2.mem;have hv:=(hto.rep _ _ (e8 j vd hvd)).now hs2.mem;rw[hgd]at hk hv;refine⟨_,_,F2,ρ,_,.inl ?_,hB2,hs2,.tup (vs:=#[.bool true,e.key,e.val]) rfl λi d hd=>?_,h2 j kd vd F2 _ hjn hkd hvd hto hO2 hit2⟩
  ·unfold execOp
   simp only[hop];rw[run_bind,hxv,q2];rfl
  ·match i with
   | 0=>simp at hd;subst hd;exact .prim _
   | 1=>simp at hd;subst hd;exact hk
   | 2=>simp at hd;subst hd;exact hv
   |n+3=>simp at hd
theorem EQ.nodup {es:Array MapEntry}{clock:Nat}(h:EQ es clock):(es.toList.map (·.born)).Nodup:=by
 rw[List.nodup_iff_pairwise_ne,List.pairwise_map,List.pairwise_iff_getElem];intro i j hi hj hij hb
 have:=h.2 i j es.toList[i] es.toList[j] (by simp at hi;simp[hi]) (by simp at hj;simp[hj]) hb
 omega
theorem NB {i:Nat}{o:Oper}{l2:List Nat}{x:Operand}{ks vs:List D}{xo:Gv}{dn:List Nat}{j:Nat}{kd vd:D}(ho:CS ops.toList i=some o)(hg:o.guard=none)(hop:o.op=.entry x)(hx:AV s.env x=.optr xo.k xo.g 0 0 0)(hO:Cz C B F L)(hm:xo∈L)(hI:Ji F xo.o ks vs (dn++[j]))
  (hk:ks[j]?=some kd) (hv:vs[j]?=some vd) (h:Bq C B rd F ops l2 ⟨Ak s.env o.dst (.tup [kd,vd]),s.H,s.n+1⟩ Q):Bq C B rd F ops (i::l2) s Q:=by
 refine Bq.step ho hg λρ a w hs hB=>?_
 have m:=hs.mem;obtain⟨it,b1,b2,b3,b4⟩:=hO.now m hm;obtain⟨bm,es,clock,since,c0,seen,e1,e2,e3,e4,e5,e6,e7,e8,e9,e10,e11,e12,e13,e14⟩:=hI;subst e11;rw[e1]at b4;have hlt0:bm<F.w0.heap.size:=(Bo.1 e2).1;have hbm:w.heap[bm]?=some (.map es c0):=(m.blk bm hlt0 λq=>e3 (.inr q)).trans e2;have hxv:a.eval x=.pointer (some ⟨it,0,none⟩):=by
  have:=BN hs.env x
  rw[hx]at this;generalize a.eval x=v at this;cases this with
  |optr hr=>rw[b1]at hr;cases hr;rfl
 have hjl:=e14 j (by simp);obtain⟨e,he⟩:∃e,es[j]?=some e:=⟨es[j],BF hjl⟩
 have hgd:es.getD j default=e:=by rw[AT,he];rfl
 have hpush:seen=((dn.map λi=>(es.getD i default).born).toArray).push e.born:=by
  apply Array.toList_inj.1;rw[e12,Array.toList_push,EH];simp only[BY,List.map_nil];rw[hgd]
 rw[hpush]at b4;have hk':=(e7 j kd hk).now m;have hv':=(e8 j vd hv).now m;rw[hgd]at hk' hv';refine⟨_,w,F,ρ,_,.inl ?_,hB,⟨hs.mem,λk g hg=>hs.fresh k g (by have:s.n+1<=g:=hg;omega),λe he=>BK (hs.gen e he),hs.env,hs.nt,hs.dfr⟩,.tup (vs:=#[e.key,e.val]) rfl λi d hd=>?_,h⟩
 ·unfold execOp
  simp only[hop];rw[run_bind,hxv,run_entry_at w it bm since _ es c0 e b4 hbm (Dc.2 (FD he)) e6.nodup];rfl
 ·match i with
  | 0=>simp at hd;subst hd;exact hk'
  | 1=>simp at hd;subst hd;exact hv'
  |n+2=>simp at hd
end
end Go.Ide
