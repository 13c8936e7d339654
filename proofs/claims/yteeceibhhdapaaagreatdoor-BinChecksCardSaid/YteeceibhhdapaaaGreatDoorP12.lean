/- The layer of own lemmas and contracts, part 12. -/
import Derived.Test.YteeceibhhdapaaaGreatDoorP11
import Derived.Test.YteeceibhhdapaaaGreatDoorP9
import Derived.Test.YteeceibhhdapaaaGreatDoorP4
import Derived.Shelf.Spec.SlicesGrow
import Derived.Shelf.Lay
import Derived.Ground.Names8Prog
import Derived.Test.YteeceibhhdapaaaGreatDoorP7
import Derived.Laws.StructEq
import Derived.Test.YteeceibhhdapaaaGreatDoorP10
set_option linter.unusedVariables false
set_option linter.unusedSimpArgs false
namespace Go.Ide
open Go.Proofs Go.RowKit
set_option maxRecDepth 20000
set_option maxHeartbeats 4000000
theorem py (b:Bool)(l:List AG)(hl:l.length<=9223372036854775807)(hs:∀x∈l,x.shs.length<=9223372036854775807):AK C0 9 [Ax b l] (Aq (F8 l)):=by
 refine Ai.walk w1 tT rfl λF=>?_
 have el:(((l.map AG.D).length:Nat):Int)=(l.length:Int):=by rw[An]
 refine AR Am el AB AB AB AB AB AB ?_;refine AC.loop (α:=Nat×Nat) (λp=>⟨[(0,Ax b l),(7,Ax b l),(8,i64 (l.length:Int)),(9,i64 (p.1:Int))],[],p.2⟩) (λp=>l.length-p.1) (λq=>q.1<=l.length/\(l.take q.1).all AG.shB=true) (0,_) ⟨BZ _,rfl⟩ AL ?_;rintro⟨i,n⟩ F ⟨hi,ha⟩;dsimp only at hi ha⊢;rcases BL i l.length with h2|h2
 rotate_left
 ·have e1:=Cw h2
  have:i=l.length:=by omega
  subst this;rw[Dk]at ha;obtain⟨q1,h1⟩:∃q,decide ((l.length:Int)<=8)=q:=⟨_,rfl⟩
  obtain⟨q2,h2'⟩:∃q,decide ((l.length:Int)>64)=q:=⟨_,rfl⟩
  obtain⟨q3,h3⟩:∃q,decide ((l.length:Int)<=80)=q:=⟨_,rfl⟩
  have hb:F8 l=(q1||(q2&&q3)):=by
   unfold F8;rw[ha,<-h1,<-h2',<-h3,Hq]
   congr 1
   ·exact Cn.2 (by omega)
   ·congr 1
    ·exact Cn.2 (by omega)
    ·exact Cn.2 (by omega)
  rw[hb];cases q1<;>cases q2<;>cases q3
  all_goals
   refine AR Am (Ce e1 el h1 h2' h3 kT kF) AB AB AB AB AB AB ?_;exact AN rfl AA.out
 have e1:=Cx h2;have wi:=Cy (i:=i) (by omega);obtain⟨x,hx⟩:=Cg h2;have hm:(l.map AG.D)[i]?=some (.agg [str (sb x.grain),i64 x.mass,.sl false 2 (x.shs.map BE.D)]):=by rw[BK,hx];rfl
 have hsx:=hs x (A8 hx);have ex:(((x.shs.map BE.D).length:Nat):Int)=(x.shs.length:Int):=by rw[An]
 have hsz:=CS x.grain;obtain⟨p1,h1⟩:∃q,decide ((x.grain.length:Int)>100)=q:=⟨_,rfl⟩
 obtain⟨p2,h2'⟩:∃q,decide ((x.shs.length:Int)>8)=q:=⟨_,rfl⟩
 obtain⟨p3,h3⟩:∃q,decide ((x.shs.length:Int)<=64)=q:=⟨_,rfl⟩
 obtain⟨p4,h4⟩:∃q,decide ((x.shs.length:Int)>80)=q:=⟨_,rfl⟩
 have hb:x.shB=(!p1&&(!p2 || !p3) && !p4&&x.shs.all BE.shB):=by
  unfold AG.shB;rw[<-h1,<-h2',<-h3,<-h4]
  congr 1
  congr 1
  ·congr 1
   ·rw[<-decide_not];exact Cn.2 (by omega)
   ·congr 1
    ·rw[<-decide_not];exact Cn.2 (by omega)
    ·rw[<-decide_not];exact Cn.2 (by omega)
  ·rw[<-decide_not];exact Cn.2 (by omega)
 by_cases g:(!p1&&(!p2 || !p3) && !p4)=true
 rotate_left
 ·have hbf:x.shB=false:=by rw[hb];simp only[Bool.not_eq_true]at g;rw[g];rfl
  have hsf:F8 l=false:=by unfold F8;rw[SB hx hbf];rfl
  rw[hsf];cases p1<;>cases p2<;>cases p3<;>cases p4
  all_goals first
   |exact Ae rfl g
   |skip
  all_goals
   refine AR Am (Ce e1 hsz ex h1 h2' h3 (Ba h4 kN kT kF)) hm AB AB AB AB AB ?_;exact AN rfl AA.out
 rw[g,Hq]at hb;cases p1<;>cases p2<;>cases p3<;>cases p4
 all_goals first
  |exact Ae g (by decide)
  |skip
 all_goals
  refine AR Am (Ce e1 hsz ex h1 h2' h3 (Ba h4 kN kT kF)) hm AB AB AB AB AB ?_;refine AC.loop (α:=Nat×Nat) (λp=>⟨[(0,Ax b l),(7,Ax b l),(8,i64 (l.length:Int)),(9,i64 (i:Int)),(36,.sl false 2 (x.shs.map BE.D)),(37,i64 (x.shs.length:Int)),(38,i64 (p.1:Int))],[],p.2⟩) (λp=>x.shs.length-p.1) (λq=>q.1<=x.shs.length/\(x.shs.take q.1).all BE.shB=true) (0,_) ⟨BZ _,rfl⟩ AL ?_;clear h1 h2' h3 h4 g;rintro⟨j,n⟩ F ⟨hj,haj⟩;dsimp only at hj haj⊢;rcases BL j x.shs.length with g2|g2
  ·have e3:=Cx g2
   have wj:=Cy (i:=j) (by omega);obtain⟨y,hy⟩:=Cg g2;have hmy:(x.shs.map BE.D)[j]?=some (.agg [str (sb y.lot),str (sb y.part)]):=by rw[BK,hy];rfl
   have hs1:=CS y.lot;have hs2:=CS y.part;obtain⟨r1,k1⟩:∃q,decide ((y.lot.length:Int)>100)=q:=⟨_,rfl⟩
   obtain⟨r2,k2⟩:∃q,decide ((y.part.length:Int)>14)=q:=⟨_,rfl⟩
   have hby:y.shB=(!r1 && !r2):=by
    unfold BE.shB;rw[<-k1,<-k2]
    congr 1
    ·rw[<-decide_not];exact Cn.2 (by omega)
    ·rw[<-decide_not];exact Cn.2 (by omega)
   have fin:y.shB=false->F8 l=false:=λh=>by
    have:x.shB=false:=by rw[hb,SB hy h]
    unfold F8;rw[SB hx this];rfl
   cases r1
   ·cases r2
    ·refine AR Am (Ce e3 wj hs1 hs2 k1 k2 (Ar kN kT kF)) hmy AB AB AB AB AB ?_
     exact⟨(j+1,_),⟨g2,Vq hy haj hby⟩,by dsimp only;omega,AL⟩
    ·rw[fin hby]
     refine AR Am (Ce e3 wj hs1 hs2 k1 k2 (Ar kN kT kF)) hmy AB AB AB AB AB ?_;exact AN rfl AA.out
   ·rw[fin hby]
    refine AR Am (Ce e3 wj hs1 hs2 k1 kN (Ah kT kF)) hmy AB AB AB AB AB ?_;exact AN rfl AA.out
  ·have e3:=Cw g2
   have:j=x.shs.length:=by omega
   subst this;rw[Dk]at haj;refine AR Am (Ah e3 wi) AB AB AB AB AB AB ?_;exact⟨(i+1,_),⟨h2,Vq hx ha (hb.trans haj)⟩,by dsimp only;omega,AL⟩
open Go.Sort
theorem ko {l:List AG}(h:F8 l=true):(∀x∈l,x.lite/\x.modr)/\l.length<=80/\(l.length<=8\/64<l.length):=by
 unfold F8 at h;simp only[BV,MO,CI,Gl]at h;obtain⟨h1,h2⟩:=h;refine⟨λx hx=>?_,by omega,by omega⟩;have hb:=h1 x hx;unfold AG.shB at hb;simp only[BV,MO,CI,Gl]at hb;obtain⟨⟨⟨b1,b2⟩,b3⟩,b4⟩:=hb;have hs:∀s∈x.shs,s.lot.length<=100/\s.part.length<=14:=λs hs=>by
  have:=b4 s hs
  unfold BE.shB at this;simpa using this
 have hl:x.lite:=⟨⟨by omega,by omega,λs q=>⟨by have:=(hs s q).1;omega,by have:=(hs s q).2;omega⟩⟩,λs q=>⟨by have:=(hs s q).1;omega,by have:=(hs s q).2;omega⟩⟩
 exact⟨hl,by omega,hl⟩
theorem PY {l:List AG}(h:B4 l=0):l.length<=64/\(∀x∈l,1<=x.mass/\x.mass<=1000000000/\x.shs.length<=1000000)/\Gz l:=by
 obtain⟨g1,g2,g3⟩:=P3 h;have hx:∀x∈l,1<=x.mass/\x.mass<=1000000000/\x.shs.length<=1000000:=λx q=>by
  obtain⟨a,b,c,d⟩:=M1 (g2 x q)
  have:=(U5 d).2.1
  exact⟨by omega,by omega,by omega⟩
 exact⟨g1,hx,by omega,λx q=>by have:=hx x q;omega⟩
abbrev PP:Dr:=[(4,[0,1,2,3,4,5,6,7,8,9,10,11,12,13,14],[15,16])]
open Go.Proofs Go.RowKit Go.Sort
set_option maxRecDepth 20000
set_option maxHeartbeats 4000000
structure CF where
 flow:List UInt8
 core:Int
 room:Int
 side:Int
 cells:List (List AG)
abbrev FO (b:Bool)(cs:List (List AG)):D:=.sl b 1 (cs.map (Ax false))
def CF.D (x:CF):D:=.agg [str (sb x.flow),i64 x.core,i64 x.room,i64 x.side,FO false x.cells]
instance  (x:CF):Ag x.D:=by unfold CF.D;exact AH
instance  (x:CF):AA x.D:=by unfold CF.D;exact AH
theorem ZY (b:Bool)(l:List AG)(hl:l.length<=9223372036854775807):AK C0 59 [Ax b l] (i64 (DC l)):=by
 refine Ai.walk w1 TE rfl λF=>?_
 have el:(((l.map AG.D).length:Nat):Int)=(l.length:Int):=by rw[An]
 refine AR Am el AB AB AB AB AB AB ?_;refine AC.loop (α:=Nat×Nat) (λp=>⟨[(3,i64 (DC (l.take p.1))),(6,Ax b l),(7,i64 (l.length:Int)),(8,i64 (p.1:Int))],[],p.2⟩) (λp=>l.length-p.1) (λp=>p.1<=l.length) (0,_) (BZ _) AL ?_;rintro⟨i,m⟩ F hi;dsimp only at hi⊢;rcases BL i l.length with h2|h2
 rotate_left
 ·have e1:=Cw h2
  have:i=l.length:=by omega
  subst this;rw[Dk];refine AR Am e1 AB AB AB AB AB AB ?_;exact AN rfl AA.out
 have e1:=Cx h2;have wi:=Cy (i:=i) (by omega);obtain⟨x,hx⟩:=Cg h2;have hm:(l.map AG.D)[i]?=some (.agg [str (sb x.grain),i64 x.mass,.sl false 2 (x.shs.map BE.D)]):=by rw[BK,hx];rfl
 have wS:=(Rk hx).symm;refine AR Am (Ba e1 wi @wS kN) hm AB AB AB AB AB ?_;exact⟨(i+1,_),h2,by dsimp only;omega,AL⟩
def EM (n lo hi:Int):Bool:=decide (n>=lo)&&decide (n<=hi)
theorem PK (n lo hi:Int):AK C0 82 [i64 n,i64 lo,i64 hi] (Aq (EM n lo hi)):=by
 refine Ai.walk w1 Z3 rfl λF=>?_
 obtain⟨p,hp⟩:∃p,decide (n>=lo)=p:=⟨_,rfl⟩
 have hb:EM n lo hi=(p&&decide (n<=hi)):=by unfold EM;rw[hp]
 rw[hb];cases p
 ·refine AR Am (Ar hp kT kF) AB AB AB AB AB AB ?_
  exact AN rfl AA.out
 ·refine AR Am (Ar hp kT kF) AB AB AB AB AB AB ?_
  exact AN rfl AA.out
def IQ (side:Int)(l:List Int):Bool:=(List.range (l.length-1)).any λi=>!EM (IntKind.i64.wrap (l.getD (i+1) 0-l.getD i 0)) (IntKind.i64.wrap (0-side)) side
theorem ZR {side:Int}{l:List Int}{i:Nat}(h:i+1<l.length)(hb:EM (IntKind.i64.wrap (l.getD (i+1) 0-l.getD i 0)) (IntKind.i64.wrap (0-side)) side=false):IQ side l=true:=by
 unfold IQ;rw[List.any_eq_true];exact⟨i,List.mem_range.2 (by omega),by rw[hb];rfl⟩
theorem ZT {side:Int}{l:List Int}(h:∀i,i+1<l.length->EM (IntKind.i64.wrap (l.getD (i+1) 0-l.getD i 0)) (IntKind.i64.wrap (0-side)) side=true):IQ side l=false:=by
 unfold IQ;rw[List.any_eq_false];intro i hi
 have:=List.mem_range.1 hi
 rw[h i (by omega)];decide
theorem lc (x:CF)(b:Bool)(l:List Int)(hl:l.length<=1000000):AK C0 83 [x.D,.sl b 1 (CD l)] (i64 (if IQ x.side l then 17 else 0)):=by
 refine Ai.walk w1 Z4 rfl λF=>?_
 have el:((CD l).length:Int)=(l.length:Int):=by rw[An]
 have elN:(CD l).length=l.length:=An ..;unfold CF.D;obtain⟨cd,hcd⟩:∃d,FO false x.cells=d:=⟨_,rfl⟩
 have pcd:AA cd:=by rw[<-hcd];exact AH
 have ncd:Ij cd=true:=by rw[<-hcd];rfl
 rw[hcd];refine AR PP el AB AB AB AB AB AB ?_;refine AC.loop (α:=Nat×Nat) (λp=>⟨[(1,.sl b 1 (CD l)),(2,.optr 0 0 5 0 0),(5,i64 ((p.1+1:Nat):Int))],[⟨0,0,48,5,[.agg [str (sb x.flow),i64 x.core,i64 x.room,i64 x.side,cd]]⟩],p.2⟩) (λp=>l.length-p.1) (λp=>p.1<=l.length/\∀j,j<p.1->EM (IntKind.i64.wrap (l.getD (j+1) 0-l.getD j 0)) (IntKind.i64.wrap (0-x.side)) x.side=true) (0,_) ⟨BZ _,λj h=>Ae h (Ht j)⟩ AL ?_;rintro⟨i,m⟩ F ⟨hi,ha⟩;dsimp only at hi ha⊢;rcases BL (i+1) l.length with h2|h2
 rotate_left
 ·have e1:=Cw h2
  rw[ZT λj hj=>ha j (by omega)];refine AR PP (Ah el e1) AB AB AB AB AB AB ?_;exact AN rfl AA.out
 have e1:=Cx h2;have wi:=Cy (i:=i+1) (by omega);have w2:IntKind.i64.wrap (((i+1:Nat):Int)-1)=((i:Nat):Int):=by rw[wI (by omega) (by omega)];omega
 have hm1:=L4 (l:=l) (i:=i+1) h2;have hm2:=L4 (l:=l) (i:=i) (by omega);have cW:=PK (IntKind.i64.wrap (l.getD (i+1) 0-l.getD i 0)) (IntKind.i64.wrap (0-x.side)) x.side;have hbad:=ZR (side:=x.side) h2;obtain⟨u,hu⟩:∃u,l.getD (i+1) 0=u:=⟨_,rfl⟩
 obtain⟨v,hv⟩:∃u,l.getD i 0=u:=⟨_,rfl⟩
 have hgood:=λ(hq:EM (IntKind.i64.wrap (u-v)) (IntKind.i64.wrap (0-x.side)) x.side=true) (j:Nat) (hj:j<i+1)=>show EM (IntKind.i64.wrap (l.getD (j+1) 0-l.getD j 0)) (IntKind.i64.wrap (0-x.side)) x.side=true from by
  rcases BL j i with h|h
  ·exact ha j h
  ·have:j=i:=by omega
   subst this;rw[hu,hv];exact hq
 rw[hu]at hm1 cW hbad;rw[hv]at hm2 cW hbad;obtain⟨q,hq⟩:∃q,EM (IntKind.i64.wrap (u-v)) (IntKind.i64.wrap (0-x.side)) x.side=q:=⟨_,rfl⟩
 rw[hq]at cW hbad hgood;obtain⟨L,hL⟩:∃L,CD l=L:=⟨_,rfl⟩
 have pL:AA (.sl b 1 L):=by rw[<-hL];exact AH
 rw[hL]at hm1 hm2 el⊢;cases q
 ·rw[hbad rfl]
  refine AR PP (CH el e1 w2 wi kN) hm1 hm2 cW AB AB AB ?_;exact AN rfl AA.out
 ·refine AR PP (CH el e1 w2 wi kN) hm1 hm2 cW AB AB AB ?_
  exact⟨(i+1,_),⟨by omega,hgood rfl⟩,by dsimp only;omega,AL⟩
def DL (x:CF):List Int:=x.cells.map DC
theorem WP (x:CF)(hl:x.cells.length<=1000000)(hc:∀c∈x.cells,c.length<=9223372036854775807):AK C0 75 [x.D] (.sl false 1 (CD (DL x))):=by
 refine Ai.walk w1 TF rfl λF=>?_
 obtain⟨cs,hcs⟩:∃c,x.cells=c:=⟨_,rfl⟩
 have hlv:DL x=cs.map DC:=by unfold DL;rw[hcs]
 rw[hlv];rw[hcs]at hl hc;have el:(((cs.map (Ax false)).length:Nat):Int)=(cs.length:Int):=by rw[An]
 unfold CF.D;rw[hcs];refine sR 0 ?_;refine sR 100 ?_;refine AC.seq ?_;refine sZ 200 ?_;refine AT el ?_;refine AC.ghost 504 3 1 [(3,.osl 504 _ 1 0 0),(7,FO false cs),(8,i64 (cs.length:Int)),(9,i64 ((0:Nat):Int))] ⟨.inr ⟨rfl,rfl⟩,.inl rfl,.inl rfl,.inl rfl,trivial⟩ ?_;refine AC.block ?_;refine AC.loop (α:=Nat×Nat×Nat) (λp=>⟨[(3,.osl 504 p.2.1 1 0 p.1),(7,FO false cs),(8,i64 (cs.length:Int)),(9,i64 (p.1:Int))],[⟨504,p.2.1,3,1,CD ((cs.take p.1).map DC)⟩],p.2.2⟩) (λp=>cs.length-p.1) (λq=>q.1<=cs.length) (0,_,_) (BZ _) AL ?_;rintro⟨i,g,n⟩ F hi;dsimp only at hi⊢;rcases BL i cs.length with h2|h2
 rotate_left
 ·have e1:=Cw h2
  have:i=cs.length:=by omega
  subst this;rw[Dk];have hf:=If (H:=[⟨504,g,3,1,CD (cs.map DC)⟩]) (Hf:=[]) (k:=504) (g:=g) (T:=3) (sz:=1) (l:=CD (cs.map DC)) rfl;rw[An,An]at hf;refine AR Am e1 AB AB AB AB AB AB ?_;exact⟨_,hf,AA.out,rfl⟩
 have e1:=Cx h2;have wi:=Cy (i:=i) (by omega);obtain⟨c,hc'⟩:=Cg h2;have hm:(cs.map (Ax false))[i]?=some (.sl false 3 (c.map AG.D)):=by rw[BK,hc'];rfl
 have cT:=ZY false c (hc c (A8 hc'));have ht:CD ((cs.take (i+1)).map DC)=CD ((cs.take i).map DC)++[i64 (DC c)]:=by
  rw[D7,hc',DP];unfold CD;rw[DP];rfl
 have htl:(CD ((cs.take i).map DC)).length=i:=by rw[An,An,Bg];omega
 obtain⟨R,hR⟩:∃R,CD ((cs.take i).map DC)=R:=⟨_,rfl⟩
 rw[hR]at ht htl⊢;refine AR Am (Ar e1 wi kN) hm cT AB AB AB AB ?_;refine⟨(i+1,n+1+1+1+1+1+1+1+1,n+1000),h2,by dsimp only;omega,?_⟩;dsimp only;rw[ht,B5 (show R.length<=i by omega)];exact AL
open Go.ChangeShapes Go.WideShapes
def CF.fit (x:CF):Prop:=x.cells.length<=maxLen/\∀c∈x.cells,c.length<=maxLen/\∀y∈c,y.shs.length<=maxLen
section
variable {H:Type} {enc:TypeId×Value->H} {W:World} {fuel:Nat} {cs:List Value} {x:DataW H×List MemPlace} {t:TypeId}
theorem iG (h:DataW.trod enc Tryz.prog W 0 (λ_=>true) true fuel 46 cs=some x):∃l:List (List AG),DS W cs [FO false l]/\(∀c∈l,c.length<=maxLen/\∀y∈c,y.shs.length<=maxLen)/\l.length<=maxLen:=
 TK (g:=Ax false) (ok:=λc=>c.length<=maxLen/\∀y∈c,y.shs.length<=maxLen) (e:=22) (sz:=1) (by kernel_rfl) (by kernel_rfl) (by decide) (λ_ _ _ h=>by
  obtain⟨l,h1,h2,h3⟩:=ff h;exact⟨l,h1,h3,h2⟩) h
theorem pZ (h:DataW.trod enc Tryz.prog W 0 (λ_=>true) true fuel 48 cs=some x):∃s:CF,DS W cs s.D.cells/\s.fit:=by
 obtain⟨h1,n,h2⟩:=TM (l:=[(9,0,1),(3,1,1),(3,2,1),(3,3,1),(46,4,1)]) (m:=5) (by kernel_rfl) (by kernel_rfl) h;obtain⟨y0,k0⟩:=h2 0 _ _ _ rfl;obtain⟨y1,k1⟩:=h2 1 _ _ _ rfl;obtain⟨y2,k2⟩:=h2 2 _ _ _ rfl;obtain⟨y3,k3⟩:=h2 3 _ _ _ rfl;obtain⟨y4,k4⟩:=h2 4 _ _ _ rfl;obtain⟨a0,r0,_⟩:=RX k0;obtain⟨a1,r1⟩:=P5 k1;obtain⟨a2,r2⟩:=P5 k2;obtain⟨a3,r3⟩:=P5 k3;obtain⟨a4,r4,hc,hl⟩:=iG k4;exact⟨⟨a0,a1,a2,a3,a4⟩,Su h1 (Ki (b:=1) (c:=4) r0 (Ki (b:=1) (c:=3) r1 (Ki (b:=1) (c:=2) r2 (Ki (b:=1) (c:=1) r3 r4)))),hl,hc⟩
end
abbrev Ka:Dr:=[(2,[0,1,2,3,4,5,6,7,8,9,10,11,12,13,14,15,16,17,18,19,20,21,22,23,24,25,26,27,28,29,30,31,32],[33,34,35,36]),(8,[0,1,2,3,4,5,6,7],[8,9,10,11,12]),(12,[0,1,2],[3,4])]
open Go.Proofs Go.RowKit Go.Sort
set_option maxRecDepth 20000
set_option maxHeartbeats 4000000
def Iv:ByteArray:=⟨#[109,97,115,115]⟩
def Ig:ByteArray:=⟨#[102,117,110,110,101,108]⟩
def TC (x:CF):Bool:=(BM (sb x.flow) Iv&&(x.core==0))||(BM (sb x.flow) Ig&&EM x.core 2 999999999)
def MG (x:CF):Int:=if !BM (sb x.flow) Iv && !BM (sb x.flow) Ig then 20 else 0
def Ky (x:CF):Int:=if !TC x || !EM x.room 1 999999999 || !EM x.side 0 999999999 then 3 else 0
def JG (x:CF):Int:=E4 [MG x,Ky x,if(x.cells.length:Int)==0 then 2 else 0,if decide ((x.cells.length:Int)>8)then 5 else 0]
def Er (x:CF)(c:List AG):Int:=E4 [(B4 c:Int),((if CJ c then 0 else 16:Nat):Int),if decide (DC c>x.room)then 14 else 0]
def EK (x:CF):List (List AG)->Int
 | []=>0
 |c::r=>if Er x c≠0 then Er x c else EK x r
def Gc (x:CF):Int:=if JG x≠0 then JG x else if EK x x.cells≠0 then EK x x.cells else if IQ x.side (DL x)then 17 else 0
theorem Xt (x:CF)(hl:x.cells.length<=1000000)(hc:∀c∈x.cells,c.length<=1000000/\∀y∈c,y.few):AK C0 32 [x.D] (i64 (Gc x)):=by
 refine Ai.walk w1 Zi rfl λF=>?_
 have cLv:=WP x hl λc h=>by have:=(hc c h).1;omega
 have cSt:=lc x false (DL x) (by unfold DL;rw[An];exact hl);have cC1:=PK x.core 2 999999999;have cC2:=PK x.room 1 999999999;have cC3:=PK x.side 0 999999999;have cF:=NK [MG x,Ky x,if(x.cells.length:Int)==0 then 2 else 0,if decide ((x.cells.length:Int)>8)then 5 else 0] (by simp);have hF:E4 [MG x,Ky x,if(x.cells.length:Int)==0 then 2 else 0,if decide ((x.cells.length:Int)>8)then 5 else 0]=JG x:=rfl;rw[hF]at cF;have cW3:=Hb ((x.cells.length:Int)==0) 2;have cW4:=Hb (decide ((x.cells.length:Int)>8)) 5;obtain⟨cs,hcs⟩:∃c,x.cells=c:=⟨_,rfl⟩
 have el:(((cs.map (Ax false)).length:Nat):Int)=(cs.length:Int):=by rw[An]
 obtain⟨H,hH⟩:∃h,JG x=h:=⟨_,rfl⟩
 have hB:Gc x=if H≠0 then H else if EK x x.cells≠0 then EK x x.cells else if IQ x.side (DL x)then 17 else 0:=by unfold Gc;rw[hH]
 obtain⟨K1,hK1⟩:∃h,MG x=h:=⟨_,rfl⟩
 obtain⟨K2,hK2⟩:∃h,Ky x=h:=⟨_,rfl⟩
 obtain⟨CB,hCB⟩:∃h,TC x=h:=⟨_,rfl⟩
 rw[hK1,hK2,hH]at cF;rw[hB];rw[hcs]at cF cW3 cW4 hl hc⊢;unfold CF.D at cLv cSt⊢;rw[hcs]at cLv cSt⊢;refine sR 0 ?_;refine EB ⟨[(1,.optr 0 0 5 0 0),(3,Aq CB)],[⟨0,0,48,5,[.agg [str (sb x.flow),i64 x.core,i64 x.room,i64 x.side,FO false cs]]⟩],100⟩ ?_ ?_
 ·obtain⟨p1,h1⟩:∃q,BM (sb x.flow) ⟨#[109,97,115,115]⟩=q:=⟨_,rfl⟩
  obtain⟨p2,h2⟩:∃q,BM (sb x.flow) ⟨#[102,117,110,110,101,108]⟩=q:=⟨_,rfl⟩
  obtain⟨c0,h0⟩:∃q,(x.core==0)=q:=⟨_,rfl⟩
  have hb:CB=((p1&&c0)||(p2&&EM x.core 2 999999999)):=by rw[<-hCB,<-h1,<-h2,<-h0];rfl
  rw[hb];cases p1<;>cases p2<;>cases c0
  all_goals
   refine AR Ka (CH h1 h2 h0 kT kF) cC1 AB AB AB AB AB ?_;exact⟨trivial,AL⟩
 refine EB ⟨[(1,.optr 0 0 5 0 0),(4,i64 H)],[⟨0,0,48,5,[.agg [str (sb x.flow),i64 x.core,i64 x.room,i64 x.side,FO false cs]]⟩],1000⟩ ?_ ?_
 ·obtain⟨p1,h1⟩:∃q,BM (sb x.flow) ⟨#[109,97,115,115]⟩=q:=⟨_,rfl⟩
  obtain⟨p2,h2⟩:∃q,BM (sb x.flow) ⟨#[102,117,110,110,101,108]⟩=q:=⟨_,rfl⟩
  obtain⟨wr,hr⟩:∃q,EM x.room 1 999999999=q:=⟨_,rfl⟩
  obtain⟨ws,hw⟩:∃q,EM x.side 0 999999999=q:=⟨_,rfl⟩
  have e1:MG x=if !p1 && !p2 then 20 else 0:=by rw[<-h1,<-h2];rfl
  have e2:Ky x=if !CB || !wr || !ws then 3 else 0:=by rw[<-hCB,<-hr,<-hw];rfl
  have cA:=Hb (!p1 && !p2) 20;have cB:=Hb (!CB || !wr || !ws) 3;rw[<-e1,hK1]at cA;rw[<-e2,hK2]at cB;rw[hr]at cC2;rw[hw]at cC3;clear e1 e2 hcs hK1 hK2 hCB hF cC1 cLv cSt hr hw;cases p1<;>cases p2<;>cases CB<;>cases wr
  all_goals
   refine AR Ka (CH h1 h2 el kT kF) cA cC2 cC3 cB cW3 cW4 ?_;refine A7.same _ cF AH ?_;refine BJ ?_;exact⟨trivial,AL⟩
 by_cases hH0:H=0
 rotate_left
 ·have e1:(H != 0)=true:=KZ hH0
  rw[AF hH0];refine AR Ka e1 AB AB AB AB AB AB ?_;exact AN rfl AA.out
 have e1:(H != 0)=false:=by rw[hH0];rfl
 rw[AE (λh=>h hH0)];clear cC1 cC2 cC3 cF cW3 cW4 hK1 hK2 hCB hF hB;refine AR Ka (Ah e1 el) AB AB AB AB AB AB ?_;refine AC.loop (α:=Nat×Nat) (λp=>⟨[(1,.optr 0 0 5 0 0),(66,FO false cs),(67,i64 (cs.length:Int)),(68,i64 (p.1:Int))],[⟨0,0,48,5,[.agg [str (sb x.flow),i64 x.core,i64 x.room,i64 x.side,FO false cs]]⟩],p.2⟩) (λp=>cs.length-p.1) (λq=>q.1<=cs.length/\EK x (cs.drop q.1)=EK x cs) (0,_) ⟨BZ _,rfl⟩ AL ?_;rintro⟨i,n⟩ F ⟨hi,hJ⟩;dsimp only at hi hJ⊢;rcases BL i cs.length with h2|h2
 rotate_left
 ·have k1:=Cw h2
  have:i=cs.length:=by omega
  subst this;rw[JB]at hJ;rw[AE (λh=>h (by rw[<-hJ];rfl))];have pLv:AA (.sl false 1 (CD (DL x))):=AH;refine AR Ka k1 cLv cSt AB AB AB AB ?_;exact AN rfl AA.out
 have k1:=Cx h2;have wi:=Cy (i:=i) (by omega);obtain⟨c,hc'⟩:=Cg h2;have hm:(cs.map (Ax false))[i]?=some (.sl false 3 (c.map AG.D)):=by rw[BK,hc'];rfl
 obtain⟨hc1,hc2⟩:=hc c (A8 hc');have cP:=MC false c (by omega) hc2;have cG:=VQ false c hc1;have cT:=ZY false c (by omega);have cW:=Hb (decide (DC c>x.room)) 14;have cE:=NK [(B4 c:Int),((if CJ c then 0 else 16:Nat):Int),if decide (DC c>x.room)then 14 else 0] (by simp);have hE:E4 [(B4 c:Int),((if CJ c then 0 else 16:Nat):Int),if decide (DC c>x.room)then 14 else 0]=Er x c:=rfl;rw[hE]at cE;have hd:cs.drop i=c::cs.drop (i+1):=by
  have:=List.getElem?_eq_some_iff.1 hc'
  rw[D9 this.1,this.2]
 rw[hd]at hJ;have hJ2:EK x cs=if Er x c≠0 then Er x c else EK x (cs.drop (i+1)):=hJ.symm
 obtain⟨E,hEE⟩:∃E,Er x c=E:=⟨_,rfl⟩
 rw[hEE]at cE hJ2
 by_cases hE0:E=0
 ·have k2:(E != 0)=false:=by rw[hE0];rfl
  rw[AE (λh=>h hE0)]at hJ2;refine AR Ka (Ba k1 k2 wi kN) hm cP cG cT cW cE ?_;exact⟨(i+1,_),⟨h2,hJ2.symm⟩,by dsimp only;omega,AL⟩
 ·have k2:(E != 0)=true:=KZ hE0
  rw[AF hE0]at hJ2;rw[hJ2,AF hE0];refine AR Ka (Ba k1 k2 wi kN) hm cP cG cT cW cE ?_;exact AN rfl AA.out
def TP (x:CF):List Int:=if Gc x≠0 then[]else DL x
theorem j6 (x:CF)(hl:x.cells.length<=1000000)(hc:∀c∈x.cells,c.length<=1000000/\∀y∈c,y.few):AK C0 31 [x.D] (.tup [.sl false 1 (CD (TP x)),i64 (Gc x)]):=by
 refine Ai.walk w1 Zu rfl λF=>?_
 have cC:=Xt x hl hc;have cLv:=WP x hl λc h=>by have:=(hc c h).1;omega
 have hL:TP x=if Gc x≠0 then[]else DL x:=rfl
 obtain⟨E,hE⟩:∃e,Gc x=e:=⟨_,rfl⟩
 rw[hE]at cC hL⊢;have hx:∃a b c d e,x.D=.agg [a,b,c,d,e]:=⟨_,_,_,_,_,rfl⟩
 have px:AA x.D:=AH;obtain⟨a1,a2,a3,a4,a5,hx⟩:=hx;rw[hx]at cC cLv px⊢
 by_cases hE0:E=0
 ·have k2:(E != 0)=false:=by rw[hE0];rfl
  rw[AE (λh=>h hE0)]at hL;rw[hL,hE0];rw[hE0]at cC k2;refine AR Am k2 cC cLv AB AB AB AB ?_;exact AN rfl AA.out
 ·have k2:(E != 0)=true:=KZ hE0
  rw[AF hE0]at hL;rw[hL];refine AR Am k2 cC AB AB AB AB AB ?_;exact⟨_,HO (.nil 1) (.refl _),AA.out,rfl⟩
abbrev PQ:Dr:=[(4,[0,1,2,3,4,5,6,7,8,9],[10])]
open Go.Proofs Go.RowKit Go.Sort
set_option maxRecDepth 20000
set_option maxHeartbeats 4000000
theorem Sv (x:CF)(i:Nat)(c:List AG)(hc:x.cells[i]?=some c)(hs:Gz c)(hl:x.cells.length<=1000000):AK C0 33 [x.D,i64 (i:Int)] (i64 (Av c)):=by
 refine Ai.walk w1 rh rfl λF=>?_
 have cM:=aD false c hs;have hi:=(List.getElem?_eq_some_iff.1 hc).1;obtain⟨cs,hcs⟩:∃c,x.cells=c:=⟨_,rfl⟩
 unfold CF.D;rw[hcs]at hc hl hi⊢;have hm:(cs.map (Ax false))[i]?=some (.sl false 3 (c.map AG.D)):=by rw[BK,hc];rfl
 have hml:(cs.map (Ax false)).length=cs.length:=An ..;obtain⟨K,hK⟩:∃K,cs.map (Ax false)=K:=⟨_,rfl⟩
 have pK:AA (.sl false 1 K):=by rw[<-hK];exact AH
 show AC _ _ _ _ _ ⟨C5 0 [.agg [str (sb x.flow),i64 x.core,i64 x.room,i64 x.side,.sl false 1 (cs.map (Ax false))],i64 (i:Int)],[],0⟩ _;rw[hK]at hm hml⊢;refine AR Am kN hm cM AB AB AB AB ?_;exact AN rfl AA.out
theorem pW (u v:Int):AK C0 81 [i64 u,i64 v] (i64 (max (IntKind.i64.wrap (u-v)) (IntKind.i64.wrap (v-u)))):=by
 refine Ai.walk w1 rC rfl λF=>?_
 refine AR Am kB AB AB AB AB AB AB ?_;exact AN rfl AA.out
theorem sP (x:CF)(hl:x.cells.length<=1000000)(hc:∀c∈x.cells,Gz c/\0<=Av c/\Av c<=999999999)(hside:0<=x.side/\x.side<=999999999):AK C0 80 [x.D] (Aq (!IQ x.side (DL x))):=by
 refine Ai.walk w1 rA rfl λF=>?_
 have hlvl:=λ(i:Nat) (c:List AG) (h:x.cells[i]?=some c)=>Sv x i c h (hc c (A8 h)).1 hl
 have hlv:∀(i:Nat) (c:List AG),x.cells[i]?=some c->(DL x).getD i 0=Av c:=λi c h=>by
  unfold DL;rw[ES,BK,h];exact LS (hc c (A8 h)).1
 have hlen:(DL x).length=x.cells.length:=by unfold DL;rw[An]
 obtain⟨cs,hcs⟩:∃c,x.cells=c:=⟨_,rfl⟩
 have el:(((cs.map (Ax false)).length:Nat):Int)=(cs.length:Int):=by rw[An]
 unfold CF.D at hlvl⊢;rw[hcs]at hlvl hlv hlen hl hc⊢;refine AR PQ kB AB AB AB AB AB AB ?_;refine AC.loop (α:=Nat×Nat) (λp=>⟨[(1,.optr 0 0 5 0 0),(3,i64 ((p.1+1:Nat):Int))],[⟨0,0,48,5,[.agg [str (sb x.flow),i64 x.core,i64 x.room,i64 x.side,FO false cs]]⟩],p.2⟩) (λp=>cs.length-p.1) (λp=>p.1<=cs.length/\∀j,j<p.1->EM (IntKind.i64.wrap ((DL x).getD (j+1) 0-(DL x).getD j 0)) (IntKind.i64.wrap (0-x.side)) x.side=true) (0,_) ⟨BZ _,λj h=>Ae h (Ht j)⟩ AL ?_;rintro⟨i,m⟩ F ⟨hi,ha⟩;dsimp only at hi ha⊢;rcases BL (i+1) cs.length with h2|h2
 rotate_left
 ·have e1:=Cw h2
  rw[ZT (side:=x.side) (l:=DL x) λj hj=>ha j (by omega)];refine AR PQ (Ah el e1) AB AB AB AB AB AB ?_;exact AN rfl AA.out
 have e1:=Cx h2;have wi:=Cy (i:=i+1) (by omega);have w2:IntKind.i64.wrap (((i+1:Nat):Int)-1)=((i:Nat):Int):=by rw[wI (by omega) (by omega)];omega
 obtain⟨c,hc1⟩:=Cg (show i<cs.length by omega);obtain⟨d,hd1⟩:=Cg h2;have c1:=hlvl i c hc1;have c2:=hlvl (i+1) d hd1;have v1:=hlv i c hc1;have v2:=hlv (i+1) d hd1;obtain⟨-,a1,a2⟩:=hc c (A8 hc1);obtain⟨-,b1,b2⟩:=hc d (A8 hd1);have c3:=pW (Av c) (Av d);have hbad:=ZR (side:=x.side) (l:=DL x) (i:=i) (by omega);rw[v1,v2]at hbad;have q1:IntKind.i64.wrap (Av c-Av d)=Av c-Av d:=wI (by omega) (by omega);have q2:IntKind.i64.wrap (Av d-Av c)=Av d-Av c:=wI (by omega) (by omega);have q3:IntKind.i64.wrap (0-x.side)=0-x.side:=wI (by omega) (by omega);rw[q1,q2]at c3
 by_cases hg:max (Av c-Av d) (Av d-Av c)>x.side
 ·have e2:decide (max (Av c-Av d) (Av d-Av c)>x.side)=true:=AZ hg
  rw[hbad (by rw[q2,q3];unfold EM;rw[Bool.and_eq_false_iff,Hu,Hu];omega)];refine AR PQ (EU el e1 e2 w2 wi kN) c1 c2 c3 AB AB AB ?_;exact AN rfl AA.out
 ·have e2:decide (max (Av c-Av d) (Av d-Av c)>x.side)=false:=Ad hg
  refine AR PQ (EU el e1 e2 w2 wi kN) c1 c2 c3 AB AB AB ?_;refine⟨(i+1,_),⟨by omega,λj hj=>?_⟩,by dsimp only;omega,AL⟩;rcases BL j i with h|h
  ·exact ha j h
  ·have:j=i:=by dsimp only at hj;omega
   subst this;rw[v1,v2,q2,q3];unfold EM;rw[BV,decide_eq_true_iff,decide_eq_true_iff];omega
theorem Ve {l:List UInt8}(h:BM (sb l) Iv=true):BM (sb l) Ig=false:=by
 have h1:BM (sb l) (sb [109,97,115,115])=true:=h;rw[WE]at h1;rw[Cs h1];show BM (sb [109,97,115,115]) (sb [102,117,110,110,101,108])=false;rw[WE];decide
def MK (x:CF):Bool:=(BM (sb x.flow) Iv&&(x.core != 0))||(BM (sb x.flow) Ig&&(decide (x.core<2)||decide (x.core>999999999)))||decide (x.room<1)||decide (x.room>999999999)||decide (x.side<0)||decide (x.side>999999999)
theorem qO {x:CF}(h:(!BM (sb x.flow) Iv && !BM (sb x.flow) Ig)=false):Ky x=if MK x then 3 else 0:=by
 have hx:=@Ve x.flow;unfold Ky MK TC EM;obtain⟨p1,h1⟩:∃q,BM (sb x.flow) Iv=q:=⟨_,rfl⟩
 obtain⟨p2,h2⟩:∃q,BM (sb x.flow) Ig=q:=⟨_,rfl⟩
 rw[h1,h2]at h hx⊢;have e:(!(p1&&x.core==0||p2&&(decide (x.core>=2)&&decide (x.core<=999999999))) || !(decide (x.room>=1)&&decide (x.room<=999999999)) || !(decide (x.side>=0)&&decide (x.side<=999999999)))
   = (p1&&x.core != 0||p2&&(decide (x.core<2)||decide (x.core>999999999))||decide (x.room<1)||decide (x.room>999999999)||decide (x.side<0)||decide (x.side>999999999)):=by
  cases p1<;>cases p2
  ·cases h
  ·rw[FU];simp;omega
  ·rw[FU];simp;omega
  ·cases hx rfl
 rw[e]
theorem po (x:CF):JG x=if(!BM (sb x.flow) Iv && !BM (sb x.flow) Ig)=true then 20 else if MK x=true then 3 else if x.cells.length=0 then 2 else if 8<x.cells.length then 5 else 0:=by
 unfold JG MG;cases h:(!BM (sb x.flow) Iv && !BM (sb x.flow) Ig)
 ·rw[qO h,AE Bool.false_ne_true,AE Bool.false_ne_true]
  cases MK x
  ·rw[AE Bool.false_ne_true,AE Bool.false_ne_true]
   by_cases h0:x.cells.length=0
   ·rw[AF h0,h0];rfl
   ·have:((x.cells.length:Int)==0)=false:=Bv.2 (by omega)
    rw[AE h0,this]
    by_cases h8:8<x.cells.length
    ·rw[AF h8,show decide ((x.cells.length:Int)>8)=true from AZ (by omega)];rfl
    ·rw[AE h8,show decide ((x.cells.length:Int)>8)=false from Ad (by omega)];rfl
  ·rfl
 ·rfl
theorem RE {x:CF}:∀ {l:List (List AG)},EK x l=0->∀c∈l,Er x c=0
 | [],_,c,h=>by cases h
 |d::r,h,c,hc=>by
  have h1:(if Er x d≠0 then Er x d else EK x r)=0:=h
  by_cases h0:Er x d=0
  ·rw[AE (λq=>q h0)]at h1
   rcases BA.1 hc with rfl|h2
   ·exact h0
   ·exact RE h1 c h2
  ·rw[AF h0]at h1;exact Ae h1 h0
theorem W6:∀ {l:List AG},(∀x∈l,0<=x.mass)->0<=Av l
 | [],_=>Int.le_refl _
 |x::l,h=>by
  have h1:=h x (Cc ..);have h2:=W6 λy hy=>h y (Ck _ hy)
  have:Av (x::l)=x.mass+Av l:=by unfold Av;rfl
  omega
theorem Xx {x:CF}{c:List AG}(h:Er x c=0):B4 c=0/\CJ c=true/\Gz c/\0<=Av c/\Av c<=999999999/\Av c<=x.room:=by
 have h1:(if(B4 c:Int)≠0 then(B4 c:Int)else if((if CJ c then 0 else 16:Nat):Int)≠0 then((if CJ c then 0 else 16:Nat):Int)else if(if decide (DC c>x.room)then(14:Int)else 0)≠0 then(if decide (DC c>x.room)then(14:Int)else 0)else 0)=0:=h
 by_cases hp:B4 c=0
 rotate_left
 ·rw[AF (by omega)]at h1;omega
 rw[hp,AE (λq=>q rfl)]at h1;obtain⟨g1,g2,g3⟩:=PY hp;have g4:=(P3 hp).2.2;have hT:=LS g3;have g5:0<=Av c:=W6 λy hy=>by have:=(g2 y hy).1;omega
 cases hg:CJ c
 ·rw[hg]at h1;cases h1
 rw[hg,AE (by decide)]at h1;refine⟨hp,rfl,g3,g5,g4,?_⟩;rw[hT]at h1
 by_cases hr:Av c>x.room
 ·rw[AZ hr]at h1;cases h1
 ·omega
theorem ja {x:CF}{c:List AG}(h:B4 c≠0):Er x c=(B4 c:Int):=by
 show(if(B4 c:Int)≠0 then _ else _)=_;rw[AF (by omega)]
theorem lI {x:CF}{c:List AG}(h:B4 c=0)(hg:CJ c=false):Er x c=16:=by
 show(if(B4 c:Int)≠0 then _ else if((if CJ c then 0 else 16:Nat):Int)≠0 then((if CJ c then 0 else 16:Nat):Int)else _)=_;rw[h,hg];rfl
theorem gH {x:CF}{c:List AG}(h:B4 c=0)(hg:CJ c=true)(hr:Av c>x.room):Er x c=14:=by
 have hT:=LS (PY h).2.2;show(if(B4 c:Int)≠0 then _ else if((if CJ c then 0 else 16:Nat):Int)≠0 then((if CJ c then 0 else 16:Nat):Int)else if(if decide (DC c>x.room)then(14:Int)else 0)≠0 then(if decide (DC c>x.room)then(14:Int)else 0)else 0)=_;rw[h,hg,hT,AZ hr];rfl
theorem gI {x:CF}{c:List AG}(h:B4 c=0)(hg:CJ c=true)(hr:¬Av c>x.room):Er x c=0:=by
 have hT:=LS (PY h).2.2;show(if(B4 c:Int)≠0 then _ else if((if CJ c then 0 else 16:Nat):Int)≠0 then((if CJ c then 0 else 16:Nat):Int)else if(if decide (DC c>x.room)then(14:Int)else 0)≠0 then(if decide (DC c>x.room)then(14:Int)else 0)else 0)=_;rw[h,hg,hT,Ad hr];rfl
abbrev Do:Dr:=[(17,[0,1,2,3,4],[5])]
open Go.Proofs Go.RowKit Go.Sort
set_option maxRecDepth 20000
set_option maxHeartbeats 4000000
theorem kY (x:CF)(hl:x.cells.length<=1000000)(hc:∀c∈x.cells,c.length<=1000000/\∀y∈c,y.modr):AK C0 30 [x.D] (i64 (Gc x)):=by
 refine Ai.walk w1 rf rfl λF=>?_
 have hB:Gc x=if JG x≠0 then JG x else if EK x x.cells≠0 then EK x x.cells else if IQ x.side (DL x)then 17 else 0:=rfl
 have hH:=po x;have hlvl:=λ(i:Nat) (c:List AG) (h:x.cells[i]?=some c) (hs:Gz c)=>Sv x i c h hs hl
 have hsafe:=λ(h1:∀c∈x.cells,Er x c=0) (h2:0<=x.side/\x.side<=999999999)=>sP x hl (λc hq=>by
  obtain⟨-,-,g1,g2,g3,-⟩:=Xx (h1 c hq);exact⟨g1,g2,g3⟩) h2
 obtain⟨p1,h1⟩:∃q,BM (sb x.flow) ⟨#[109,97,115,115]⟩=q:=⟨_,rfl⟩
 obtain⟨p2,h2⟩:∃q,BM (sb x.flow) ⟨#[102,117,110,110,101,108]⟩=q:=⟨_,rfl⟩
 have hex:p1=true->p2=false:=λq=>by rw[<-h2];exact Ve (h1.trans q)
 have hr:MK x=((p1&&(x.core != 0))||(p2&&(decide (x.core<2)||decide (x.core>999999999)))||decide (x.room<1)||decide (x.room>999999999)||decide (x.side<0)||decide (x.side>999999999)):=by rw[<-h1,<-h2];rfl
 rw[show BM (sb x.flow) Iv=p1 from h1,show BM (sb x.flow) Ig=p2 from h2]at hH;obtain⟨R,hR⟩:∃r,MK x=r:=⟨_,rfl⟩
 rw[hR]at hH hr;have hside:R=false->0<=x.side/\x.side<=999999999:=λq=>by
  rw[q]at hr
  have:=hr.symm
  simp only[IR,Hu]at this;omega
 obtain⟨cs,hcs⟩:∃c,x.cells=c:=⟨_,rfl⟩
 have el:(((cs.map (Ax false)).length:Nat):Int)=(cs.length:Int):=by rw[An]
 unfold CF.D at hlvl hsafe⊢;rw[hcs]at hlvl hsafe hB hH hc hl⊢;refine sR 0 ?_;cases hk:(!p1 && !p2)
 rotate_left
 ·rw[AF hk]at hH
  rw[hH,AF (by decide)]at hB;rw[hB];have hp:p1=false/\p2=false:=by cases p1<;>cases p2<;>first|exact⟨rfl,rfl⟩|cases hk
  obtain⟨rfl,rfl⟩:=hp;refine AR Do (Ba h1 h2 kT kF) AB AB AB AB AB AB ?_;exact AN rfl AA.out
 rw[AE (by rw[hk];exact Bool.false_ne_true)]at hH;have hp:(p1=true/\p2=false)\/(p1=false/\p2=true):=by
  cases p1
  ·cases p2
   ·cases hk
   ·exact .inr ⟨rfl,rfl⟩
  ·exact .inl ⟨rfl,hex rfl⟩
 clear hex hk;refine EB ⟨[(1,.optr 0 0 5 0 0)],[⟨0,0,48,5,[.agg [str (sb x.flow),i64 x.core,i64 x.room,i64 x.side,FO false cs]]⟩],100⟩ ?_ ?_
 ·rcases hp with⟨rfl,rfl⟩|⟨rfl,rfl⟩
  all_goals
   refine AR Do (Ba h1 h2 kT kF) AB AB AB AB AB AB ?_;exact⟨trivial,AL⟩
 obtain⟨c0,e0⟩:∃q,(x.core != 0)=q:=⟨_,rfl⟩
 obtain⟨c1,e1⟩:∃q,decide (x.core<2)=q:=⟨_,rfl⟩
 obtain⟨c2,e2⟩:∃q,decide (x.core>999999999)=q:=⟨_,rfl⟩
 obtain⟨u1,r1⟩:∃q,decide (x.room<1)=q:=⟨_,rfl⟩
 obtain⟨u2,r2⟩:∃q,decide (x.room>999999999)=q:=⟨_,rfl⟩
 obtain⟨v1,s1⟩:∃q,decide (x.side<0)=q:=⟨_,rfl⟩
 obtain⟨v2,s2⟩:∃q,decide (x.side>999999999)=q:=⟨_,rfl⟩
 rw[e0,e1,e2,r1,r2,s1,s2]at hr;cases R
 rotate_left
 ·rw[AF rfl]at hH
  rw[hH,AF (by decide)]at hB;rw[hB];clear hlvl hsafe hB hH el;rcases hp with⟨rfl,rfl⟩|⟨rfl,rfl⟩
  ·cases c0
   rotate_left
   ·refine AR Do (Ce e0 e1 e2 r1 r2 s1 (CH s2 h1 h2 kT kF)) AB AB AB AB AB AB ?_
    exact AN rfl AA.out
   cases u1
   rotate_left
   ·refine AR Do (Ce e0 e1 e2 r1 r2 s1 (CH s2 h1 h2 kT kF)) AB AB AB AB AB AB ?_
    exact AN rfl AA.out
   cases u2
   rotate_left
   ·refine AR Do (Ce e0 e1 e2 r1 r2 s1 (CH s2 h1 h2 kT kF)) AB AB AB AB AB AB ?_
    exact AN rfl AA.out
   cases v1
   rotate_left
   ·refine AR Do (Ce e0 e1 e2 r1 r2 s1 (CH s2 h1 h2 kT kF)) AB AB AB AB AB AB ?_
    exact AN rfl AA.out
   cases v2
   rotate_left
   ·refine AR Do (Ce e0 e1 e2 r1 r2 s1 (CH s2 h1 h2 kT kF)) AB AB AB AB AB AB ?_
    exact AN rfl AA.out
   cases hr
  ·cases c1
   rotate_left
   ·refine AR Do (Ce e0 e1 e2 r1 r2 s1 (CH s2 h1 h2 kT kF)) AB AB AB AB AB AB ?_
    exact AN rfl AA.out
   cases c2
   rotate_left
   ·refine AR Do (Ce e0 e1 e2 r1 r2 s1 (CH s2 h1 h2 kT kF)) AB AB AB AB AB AB ?_
    exact AN rfl AA.out
   cases u1
   rotate_left
   ·refine AR Do (Ce e0 e1 e2 r1 r2 s1 (CH s2 h1 h2 kT kF)) AB AB AB AB AB AB ?_
    exact AN rfl AA.out
   cases u2
   rotate_left
   ·refine AR Do (Ce e0 e1 e2 r1 r2 s1 (CH s2 h1 h2 kT kF)) AB AB AB AB AB AB ?_
    exact AN rfl AA.out
   cases v1
   rotate_left
   ·refine AR Do (Ce e0 e1 e2 r1 r2 s1 (CH s2 h1 h2 kT kF)) AB AB AB AB AB AB ?_
    exact AN rfl AA.out
   cases v2
   rotate_left
   ·refine AR Do (Ce e0 e1 e2 r1 r2 s1 (CH s2 h1 h2 kT kF)) AB AB AB AB AB AB ?_
    exact AN rfl AA.out
   cases hr
 rw[AE Bool.false_ne_true]at hH;have hsd:=hside rfl;refine EB ⟨[(1,.optr 0 0 5 0 0)],[⟨0,0,48,5,[.agg [str (sb x.flow),i64 x.core,i64 x.room,i64 x.side,FO false cs]]⟩],1000⟩ ?_ ?_
 ·clear hlvl hsafe hB hH
  cases v2
  rotate_left
  ·simp at hr
  cases v1
  rotate_left
  ·simp at hr
  cases u2
  rotate_left
  ·simp at hr
  cases u1
  rotate_left
  ·simp at hr
  rcases hp with⟨rfl,rfl⟩|⟨rfl,rfl⟩
  ·cases c0
   rotate_left
   ·cases hr
   refine AR Do (Ce e0 e1 e2 r1 r2 s1 (CH s2 h1 h2 kT kF)) AB AB AB AB AB AB ?_;exact⟨trivial,AL⟩
  ·cases c1
   rotate_left
   ·cases hr
   cases c2
   rotate_left
   ·cases hr
   refine AR Do (Ce e0 e1 e2 r1 r2 s1 (CH s2 h1 h2 kT kF)) AB AB AB AB AB AB ?_;exact⟨trivial,AL⟩
 clear hr e0 e1 e2 r1 r2 s1 s2 hp h1 h2 hR
 by_cases h0:cs.length=0
 ·rw[AF h0]at hH
  rw[hH,AF (by decide)]at hB;rw[hB];have k0:((cs.length:Int)==0)=true:=by rw[h0];rfl
  refine AR Do (Ah el k0) AB AB AB AB AB AB ?_;exact AN rfl AA.out
 rw[AE h0]at hH;have k0:((cs.length:Int)==0)=false:=Bv.2 (by omega)
 by_cases h8:8<cs.length
 ·rw[AF h8]at hH
  rw[hH,AF (by decide)]at hB;rw[hB];have k8:decide ((cs.length:Int)>8)=true:=AZ (by omega);refine AR Do (Ar el k0 k8) AB AB AB AB AB AB ?_;exact AN rfl AA.out
 rw[AE h8]at hH;rw[hH,AE (λh=>h rfl)]at hB;rw[hB];have k8:decide ((cs.length:Int)>8)=false:=Ad (by omega);clear hB hH hside;refine AR Do (Ar el k0 k8) AB AB AB AB AB AB ?_;refine AC.loop (α:=Nat×Nat) (λp=>⟨[(1,.optr 0 0 5 0 0),(3,i64 (p.1:Int))],[⟨0,0,48,5,[.agg [str (sb x.flow),i64 x.core,i64 x.room,i64 x.side,FO false cs]]⟩],p.2⟩) (λp=>cs.length-p.1) (λq=>q.1<=cs.length/\EK x (cs.drop q.1)=EK x cs) (0,_) ⟨BZ _,rfl⟩ AL ?_;rintro⟨i,n⟩ F ⟨hi,hJ⟩;dsimp only at hi hJ⊢;rcases BL i cs.length with h2|h2
 rotate_left
 ·have k1:=Cw h2
  have:i=cs.length:=by omega
  subst this;rw[JB]at hJ;have hz:EK x cs=0:=hJ.symm;have cS:=hsafe (RE hz) hsd;rw[AE (λh=>h hz)];cases hq:IQ x.side (DL x)
  ·rw[hq]at cS
   rw[AE Bool.false_ne_true];refine AR Do (Ba k1 el kT kF) cS AB AB AB AB AB ?_;exact AN rfl AA.out
  ·rw[hq]at cS
   rw[AF rfl];refine AR Do (Ba k1 el kT kF) cS AB AB AB AB AB ?_;exact AN rfl AA.out
 have k1:=Cx h2;have wi:=Cy (i:=i) (by omega);obtain⟨c,hc'⟩:=Cg h2;have hm:(cs.map (Ax false))[i]?=some (.sl false 3 (c.map AG.D)):=by rw[BK,hc'];rfl
 obtain⟨hc1,hc2⟩:=hc c (A8 hc');have cP:=sy false c hc1 hc2;have cG:=kh false c hc1;have hd:cs.drop i=c::cs.drop (i+1):=by
  have:=List.getElem?_eq_some_iff.1 hc'
  rw[D9 this.1,this.2]
 rw[hd]at hJ;have hJ2:EK x cs=if Er x c≠0 then Er x c else EK x (cs.drop (i+1)):=hJ.symm
 by_cases hp:B4 c=0
 rotate_left
 ·rw[ja hp,AF (by omega)]at hJ2
  have k2:(((B4 c:Nat):Int) != 0)=true:=KZ (by omega);rw[AF (by rw[hJ2];omega),hJ2];refine AR Do (Ba k1 el k2 kN) hm cP AB AB AB AB ?_;exact AN rfl AA.out
 rw[hp]at cP;have k2:(((0:Nat):Int) != 0)=false:=rfl;have hsm:=(PY hp).2.2;have cL:=hlvl i c hc' hsm;cases hg:CJ c
 ·rw[hg]at cG
  rw[lI hp hg,AF (by decide)]at hJ2;rw[AF (by rw[hJ2];decide),hJ2];refine AR Do (EU k1 el k2 kT kF kN) hm cP cG AB AB AB ?_;exact AN rfl AA.out
 rw[hg]at cG
 by_cases hrm:Av c>x.room
 ·have k3:decide (Av c>x.room)=true:=AZ hrm
  rw[gH hp hg hrm,AF (by decide)]at hJ2;rw[AF (by rw[hJ2];decide),hJ2];refine AR Do (Ce k1 el k2 k3 kT kF kN) hm cP cG cL AB AB ?_;exact AN rfl AA.out
 ·have k3:decide (Av c>x.room)=false:=Ad hrm
  rw[gI hp hg hrm,AE (λh=>h rfl)]at hJ2;refine AR Do (Ce k1 el k2 k3 wi kT (Ah kF kN)) hm cP cG cL AB AB ?_;exact⟨(i+1,_),⟨h2,hJ2.symm⟩,by dsimp only;omega,AL⟩
def Nu (x:CF):Bool:=x.cells.all F8&&(decide (x.flow.length<=100)&&decide (x.cells.length<=20))
theorem im (x:CF)(hl:x.cells.length<=9223372036854775807)(hs:∀c∈x.cells,c.length<=9223372036854775807/\∀y∈c,y.shs.length<=9223372036854775807):AK C0 29 [x.D] (Aq (Nu x)):=by
 refine Ai.walk w1 re rfl λF=>?_
 obtain⟨cs,hcs⟩:∃c,x.cells=c:=⟨_,rfl⟩
 have el:(((cs.map (Ax false)).length:Nat):Int)=(cs.length:Int):=by rw[An]
 have hb:Nu x=(cs.all F8&&(decide (x.flow.length<=100)&&decide (cs.length<=20))):=by rw[<-hcs];rfl
 rw[hb];unfold CF.D;rw[hcs]at hl hs⊢;refine AR Am el AB AB AB AB AB AB ?_;refine AC.loop (α:=Nat×Nat) (λp=>⟨[(1,.optr 0 0 5 0 0),(6,FO false cs),(7,i64 (cs.length:Int)),(8,i64 (p.1:Int))],[⟨0,0,48,5,[.agg [str (sb x.flow),i64 x.core,i64 x.room,i64 x.side,FO false cs]]⟩],p.2⟩) (λp=>cs.length-p.1) (λq=>q.1<=cs.length/\(cs.take q.1).all F8=true) (0,_) ⟨BZ _,rfl⟩ AL ?_;rintro⟨i,n⟩ F ⟨hi,ha⟩;dsimp only at hi ha⊢;rcases BL i cs.length with h2|h2
 rotate_left
 ·have e1:=Cw h2
  have:i=cs.length:=by omega
  subst this;rw[Dk]at ha;rw[ha,Hq];have hsz:=CS x.flow;have d1:decide (x.flow.length<=100)=decide ((x.flow.length:Int)<=100):=Cn.2 (by omega);have d2:decide (cs.length<=20)=decide ((cs.length:Int)<=20):=Cn.2 (by omega);rw[d1,d2];obtain⟨q1,h1⟩:∃q,decide ((x.flow.length:Int)<=100)=q:=⟨_,rfl⟩
  rw[h1];cases q1
  all_goals
   refine AR Am (EU e1 hsz el h1 kT kF) AB AB AB AB AB AB ?_;exact AN rfl AA.out
 have e1:=Cx h2;have wi:=Cy (i:=i) (by omega);obtain⟨c,hc⟩:=Cg h2;have hm:(cs.map (Ax false))[i]?=some (.sl false 3 (c.map AG.D)):=by rw[BK,hc];rfl
 obtain⟨hs1,hs2⟩:=hs c (A8 hc);have cS:=py false c hs1 hs2;have htk:cs.take (i+1)=cs.take i++[c]:=by rw[D7,hc];rfl
 cases hq:F8 c
 ·rw[hq]at cS
  have hall:cs.all F8=false:=by
   rw[List.all_eq_false];exact⟨c,A8 hc,by rw[hq];exact Bool.false_ne_true⟩
  rw[hall,J6];refine AR Am (Ar e1 kT kF) hm cS AB AB AB AB ?_;exact AN rfl AA.out
 ·rw[hq]at cS
  refine AR Am (Ba e1 wi kT kF) hm cS AB AB AB AB ?_;exact⟨(i+1,_),⟨h2,by dsimp only;rw[htk,J8,ha,FQ,hq];rfl⟩,by dsimp only;omega,AL⟩
theorem qQ {x:CF}(h:Nu x=true):x.cells.length<=20/\x.flow.length<=100/\∀c∈x.cells,(∀y∈c,y.lite/\y.modr)/\c.length<=80:=by
 unfold Nu at h;rw[BV,BV,decide_eq_true_iff,decide_eq_true_iff,CI]at h;obtain⟨h1,h2,h3⟩:=h;refine⟨h3,h2,λc hc=>?_⟩;obtain⟨g1,g2,_⟩:=ko (h1 c hc);exact⟨g1,g2⟩
abbrev NN:Dr:=[(12,[0,1,2,3,4,5,6,7,8,9,10,11,12,13],[14,15])]
open Go.Proofs Go.RowKit Go.Sort
set_option maxRecDepth 20000
set_option maxHeartbeats 4000000
theorem ph (ha:AK C0 10 [] (Aq true))(x:CF)(hl:x.cells.length<=9223372036854775807)(hs:∀c∈x.cells,c.length<=9223372036854775807/\∀y∈c,y.shs.length<=9223372036854775807):AK C0 5 [x.D] (Aq true):=by
 refine Ai.walk w1 tS rfl λF=>?_
 have cS:=im x hl hs;have hk:=@qQ x;have cR:=kY x;have cB:=Xt x;have cL:=j6 x;have hlvl:=λ(i:Nat) (c:List AG) (h:x.cells[i]?=some c) (hs:Gz c) (hl:x.cells.length<=1000000)=>Sv x i c h hs hl
 have hL:TP x=if Gc x≠0 then[]else DL x:=rfl
 have hB:Gc x=0->EK x x.cells=0:=λh=>by
  unfold Gc at h
  by_cases h1:JG x=0
  ·rw[AE (λq=>q h1)]at h
   by_cases h2:EK x x.cells=0
   ·exact h2
   ·rw[AF h2]at h;exact h
  ·rw[AF h1]at h;exact Ae h h1
 have hlv:∀(i:Nat) (c:List AG),x.cells[i]?=some c->Gz c->(DL x).getD i 0=Av c:=λi c h hq=>by
  unfold DL;rw[ES,BK,h];exact LS hq
 have hlen:(DL x).length=x.cells.length:=by unfold DL;rw[An]
 obtain⟨cs,hcs⟩:∃c,x.cells=c:=⟨_,rfl⟩
 have el:(((cs.map (Ax false)).length:Nat):Int)=(cs.length:Int):=by rw[An]
 unfold CF.D at cS cR cB cL hlvl⊢;rw[hcs]at cS cR cB cL hlvl hB hlv hlen hk hl hs⊢;obtain⟨E,hE⟩:∃e,Gc x=e:=⟨_,rfl⟩
 rw[hE]at cR cB cL hL hB;cases hsh:Nu x
 ·rw[hsh]at cS
  refine AR NN kB cS ha AB AB AB AB ?_;exact AN rfl AA.out
 rw[hsh]at cS;obtain⟨k1,k2,k3⟩:=hk hsh;have cR:=cR (by omega) λc q=>⟨by have:=(k3 c q).2;omega,λy h=>((k3 c q).1 y h).2⟩
 have cB:=cB (by omega) λc q=>⟨by have:=(k3 c q).2;omega,λy h=>((k3 c q).1 y h).1.1⟩
 have cL:=cL (by omega) λc q=>⟨by have:=(k3 c q).2;omega,λy h=>((k3 c q).1 y h).1.1⟩
 have n1:(E != E)=false:=bne_self_eq_false _
 by_cases h0:E=0
 rotate_left
 ·have e1:(E != 0)=true:=KZ h0
  rw[AF h0]at hL;rw[hL]at cL;have z2:(((([]:List D).length:Nat):Int)==0)=true:=rfl;have ln0:([]:List D).length=0:=rfl;have z3:(((0:Nat):Int)==0)=true:=rfl;rw[show CD []=[]from rfl]at cL;refine AR NN (EU e1 n1 ln0 z3 kT kF) cS cR cL cB ha AB ?_;exact AN rfl AA.out
 subst h0;have e1:((0:Int) != 0)=false:=rfl;rw[AE (λh=>h rfl)]at hL;rw[hL]at cL;have hcel:=RE (hB rfl);have elv:(((CD (DL x)).length:Nat):Int)=(cs.length:Int):=by rw[An,hlen]
 refine AR NN (Ba e1 el kT kF) cS cR cL cB AB AB ?_;refine AC.loop (α:=Nat×Nat) (λp=>⟨[(1,.optr 0 0 5 0 0),(4,.sl false 1 (CD (DL x))),(37,i64 (cs.length:Int)),(38,i64 (p.1:Int))],[⟨0,0,48,5,[.agg [str (sb x.flow),i64 x.core,i64 x.room,i64 x.side,FO false cs]]⟩],p.2⟩) (λp=>cs.length-p.1) (λq=>q.1<=cs.length) (0,_) (BZ _) AL ?_;rintro⟨i,n⟩ F hi;dsimp only at hi⊢;rcases BL i cs.length with h2|h2
 rotate_left
 ·have e1:=Cw h2
  refine AR NN e1 ha AB AB AB AB AB ?_;exact AN rfl AA.out
 have e1:=Cx h2;have wi:=Cy (i:=i) (by omega);obtain⟨c,hc⟩:=Cg h2;have hsm:=(Xx (hcel c (A8 hc))).2.2.1;have hm:=L4 (l:=DL x) (i:=i) (by omega);rw[hlv i c hc hsm]at hm;have cV:=hlvl i c hc hsm (by omega);have n2:((cs.length:Int) != (cs.length:Int))=false:=bne_self_eq_false _;have n3:(Av c != Av c)=false:=bne_self_eq_false _;refine AR NN (Ce e1 el elv n2 n3 wi (Ar kT kF kN)) hm cV AB AB AB AB ?_;exact⟨(i+1,_),h2,by dsimp only;omega,AL⟩
def tA:List UInt8:=[97]
def tB:List UInt8:=[98]
def Ea:List UInt8:=[119,104,101,97,116]
def Lb:List UInt8:=[102,117,110,110,101,108]
def CW (m:Int):AG:=⟨Ea,m,[⟨tA,[49]⟩]⟩
def Cr (m:Int):AG:=⟨Ea,m,[⟨tA,[49,47,50]⟩,⟨tB,[49,47,50]⟩]⟩
def Ek (x:AG):D:=.agg [str (sb x.grain),i64 x.mass,.sl true 2 (x.shs.map BE.D)]
def an:D:=.agg [str (sb Lb),i64 4,i64 30,i64 12,.sl true 1 [.sl true 3 [Ek (CW 10),Ek (Cr 6)],.sl true 3 [Ek (CW 5)]]]
theorem rY:AK C0 47 [] an:=B6 DE 400 40 (by kernel_rfl)
def Lo (d d':D):Prop:=∀(ρ:Lk) (O:Nat->Prop) (w:World) (v:Value),AU ρ O w d v->AU ρ O w d' v
theorem Lo.refl (d:D):Lo d d:=λ_ _ _ _ h=>h
theorem Lo.agg {ds ds':List D}(hl:ds.length=ds'.length)(h:∀(i:Nat) (d d':D),ds[i]?=some d->ds'[i]?=some d'->Lo d d'):Lo (.agg ds) (.agg ds'):=λρ O w v hv=>by
 cases hv with
 |agg hn ho hd=>
  refine .agg (hn.trans hl) ho λi d' hd'=>?_
  have hi:i<ds.length:=by rw[hl];exact(List.getElem?_eq_some_iff.1 hd').1
  exact h i _ d' (BD hi) hd' _ _ _ _ (hd i _ (BD hi))
theorem Lo.tup {ds ds':List D}(hl:ds.length=ds'.length)(h:∀(i:Nat) (d d':D),ds[i]?=some d->ds'[i]?=some d'->Lo d d'):Lo (.tup ds) (.tup ds'):=λρ O w v hv=>by
 cases hv with
 |tup hn hd=>
  refine .tup (hn.trans hl) λi d' hd'=>?_
  have hi:i<ds.length:=by rw[hl];exact(List.getElem?_eq_some_iff.1 hd').1
  exact h i _ d' (BD hi) hd' _ _ _ _ (hd i _ (BD hi))
def Mh (e e':D):Prop:=e'.cells.length=e.cells.length/\∀(j:Nat) (d d':D),e.cells[j]?=some d->e'.cells[j]?=some d'->Lo d d'
theorem Lo.sl {b:Bool}{sz:Nat}{es es':List D}(hl:es.length=es'.length)(hc:∀(i:Nat) (e e':D),es[i]?=some e->es'[i]?=some e'->Mh e e'):Lo (.sl b sz es) (.sl false sz es'):=λρ O w v hv=>by
 cases hv with
 |nil=>
  have:es'=[]:=List.length_eq_zero_iff.1 hl.symm
  subst this;exact .nil sz
 |emp a=>
  have:es'=[]:=List.length_eq_zero_iff.1 hl.symm
  subst this;exact .emp a
 |sl f hl' hc' hO hb hz hcell ho h=>
  have hx:∀(i:Nat) (e':D),es'[i]?=some e'->∃e,es[i]?=some e/\Mh e e':=λi e' he'=>by
   have hi:i<es.length:=by rw[hl];exact(List.getElem?_eq_some_iff.1 he').1
   exact⟨_,BD hi,hc i _ e' (BD hi) he'⟩
  refine .sl f (hl.symm.trans hl') hc' hO hb (λi e' he'=>?_) hcell ho λi e' j d' he' hd'=>?_
  ·obtain⟨e,he,h1,h2⟩:=hx i e' he'
   rw[h1];exact hz i e he
  ·obtain⟨e,he,h1,h2⟩:=hx i e' he'
   have hj:j<e.cells.length:=by rw[<-h1];exact(List.getElem?_eq_some_iff.1 hd').1
   exact h2 j _ d' (BD hj) hd' _ _ _ _ (h i e j _ he (BD hj))
def loosen:Nat->D->D
 | 0,d=>d
 |n+1,.agg ds=>.agg (ds.map (loosen n))
 |n+1,.tup ds=>.tup (ds.map (loosen n))
 |n+1,.sl _ sz es=>.sl false sz (es.map (loosen n))
 |_+1,d=>d
theorem Sk {f:D->D}(hf:∀d,Lo d (f d))(ds:List D)(i:Nat)(d d':D)(h:ds[i]?=some d)(h':(ds.map f)[i]?=some d'):Lo d d':=by
 rw[BK,h]at h';cases h';exact hf d
theorem VZ:∀n:Nat,(∀d,Lo d (loosen n d))/\∀e,Mh e (loosen n e)
 | 0=>⟨λd=>.refl d,λe=>⟨rfl,λj d d' h h'=>by
   have:d=d':=by
    have:=h.symm.trans h'
    injection this
   subst this;exact .refl d⟩⟩
 |n+1=>by
  obtain⟨h1,h2⟩:=VZ n;have hs:∀(es:List D) (i:Nat) (e e':D),es[i]?=some e->(es.map (loosen n))[i]?=some e'->Mh e e':=λes i e e' h h'=>by
   rw[BK,h]at h';cases h';exact h2 e
  have hL:∀d,Lo d (loosen (n+1) d):=λd=>by
   cases d with
   |agg ds=>exact .agg (by simp) (Sk h1 ds)
   |tup ds=>exact .tup (by simp) (Sk h1 ds)
   |sl b sz es=>exact .sl (by simp) (hs es)
   |_=>exact .refl _
  refine⟨hL,λe=>?_⟩;have one:e.cells=[e]->(loosen (n+1) e).cells=[loosen (n+1) e]->Mh e (loosen (n+1) e):=λa b=>by
   refine⟨by rw[a,b];rfl,λj d d' h h'=>?_⟩;rw[a]at h;rw[b]at h'
   match j with
   | 0=>cases h;cases h';exact hL e
   |j+1=>cases h
  cases e with
  |agg ds=>exact⟨by simp[loosen,D.cells],λj d d' h h'=>Sk h1 ds j d d' h h'⟩
  |_=>exact one rfl rfl
theorem AK.loosen {C:A0}{f:Nat}{args:List D}{d:D}(h:AK C f args d)(n:Nat):AK C f args (loosen n d):=
 ⟨h.1,λX w vs a b c e g=>(h.2 X w vs a b c e g).mono λ_ _ ⟨v,d,h1,h2,h3,h4⟩=>⟨v,_,h1,h2,rfl,by subst h3;exact(VZ n).1 _ _ _ _ _ h4⟩⟩
abbrev SH:Dr:=[(1,[0,1,2,3,4,5,6],[7]),(9,[0,1,2,3,4],[5,6])]
open Go.Proofs Go.RowKit
set_option maxRecDepth 20000
set_option maxHeartbeats 4000000
def Kr:List AG->Int->Int->List AG
 | [],_,_=>[]
 |x::r,low,left=>x.w (min (x.mass-min x.mass low) left)::Kr r (low-min x.mass low) (left-min (x.mass-min x.mass low) left)
structure Tt where
 o:List AG
 low:Int
 left:Int
 g:Nat
def Iz (g1 g2:Nat)(p:Tt):Hp:=DW 905 p.g 27 3 (p.o.map AG.D)++[⟨200,g2,22,1,[Dc 905 p.g 3 (p.o.map AG.D)]⟩,⟨106,g1,3,1,[i64 p.left]⟩,⟨0,0,3,1,[i64 p.low]⟩]
theorem Wc (g1 g2:Nat)(a b:Int)(g:Nat):Iz g1 g2 ⟨[],a,b,g⟩=[⟨200,g2,22,1,[CK]⟩,⟨106,g1,3,1,[i64 b]⟩,⟨0,0,3,1,[i64 a]⟩]:=rfl
theorem O5 (g1 g2:Nat)(z:AG)(o:List AG)(a b:Int)(g:Nat):Iz g1 g2 ⟨z::o,a,b,g⟩=[⟨905,g,27,3,z.D::o.map AG.D⟩,⟨200,g2,22,1,[.osl 905 g 3 0 ((o.map AG.D).length+1)]⟩,⟨106,g1,3,1,[i64 b]⟩,⟨0,0,3,1,[i64 a]⟩]:=rfl
def Nh (L:List AG)(low left:Int)(k:Nat)(p:Tt):Prop:=p.o.length=k/\p.o++Kr (L.drop k) p.low p.left=Kr L low left/\0<=p.low/\p.low<=1000000000000/\0<=p.left/\p.left<=1000000000000000
theorem bw (b:Bool)(l:List AG)(low high:Int)(hl:l.length<=1000000)(h1:0<=low/\low<=1000000000000)(h2:0<=high/\high<=1000000000000)(t:Int)(ht:low+high<=t/\t<=1000000000000000)(hx:∀x∈l,0<=x.mass/\x.mass<=1000000000)
  (cT:AK C0 59 [Ax b l] (i64 t))
  (ho:∀x∈l,∀m,AK C0 63 [x.D,i64 m] (x.w m).D) (R:D) [pR:AA R] (hN:AK C0 84 [Ax false (Kr l low (t-low-high))] R):
  AK C0 92 [Ax b l,i64 low,i64 high] R:=by
 refine Ai.walk w1 Z8 rfl λF=>?_
 have cV:=Ro b false (l.map AG.D);have hT:∀x∈l.map AG.D,∃a c d,x=.agg [a,c,d]:=λx hx=>by
  obtain⟨y,-,rfl⟩:=List.mem_map.1 hx;exact⟨_,_,_,rfl⟩
 have hoA:∀k,k<l.length->∃y,y∈l/\l[k]?=some y/\(l.map AG.D)[if false then(l.map AG.D).length-1-k else k]?=some y.D:=λk hk=>⟨_,List.getElem_mem hk,BD hk,by
  show(l.map AG.D)[k]?=_;rw[BK,BD hk];rfl⟩
 unfold Ax at cT⊢;obtain⟨T,hTT⟩:∃T,l.map AG.D=T:=⟨_,rfl⟩
 have pT:AA (.sl b 3 T):=by rw[<-hTT];exact AH
 have hTl:T.length=l.length:=by rw[<-hTT,An]
 rw[hTT]at cV hT hoA cT⊢;have w1':IntKind.i64.wrap (t-low)=t-low:=wI (by omega) (by omega);have w2:IntKind.i64.wrap (t-low-high)=t-low-high:=wI (by omega) (by omega);obtain⟨e,he⟩:∃e,t-low-high=e:=⟨_,rfl⟩
 have w2':IntKind.i64.wrap (t-low-high)=e:=by rw[w2,he]
 rw[he]at hN;have he0:0<=e/\e<=1000000000000000:=by omega
 refine AR SH (Ah w1' w2') cT cV AB AB AB AB ?_;have h0:Nh l low e 0 ⟨[],low,e,0⟩:=⟨rfl,rfl,h1.1,h1.2,he0.1,he0.2⟩
 refine AC.rangeFunc (fi:=185) (first:=[]) (captured:=[.pptr (.sl b 3 T),.pptr (Aq false)]) (Ψ:=λj _ H' _=>(j=none/\∃a,Nh l low e T.length a/\H'=Iz 8 11 a)\/(j=some (.exit 0)/\False)) rfl
  (λds H n Φ=>∃k a x,Nh l low e k a/\k<T.length/\T[if false then T.length-1-k else k]?=some x/\ds=[x]/\H=Iz 8 11 a/\Φ=λj H' _=>(j=none/\∃a',Nh l low e (k+1) a'/\CT H' (Iz 8 11 a') H' (Iz 8 11 a'))\/(j=some (.exit 0)/\False)) ?_
  (λE l' R' hE hY=>TH hE b false T hT (by omega) (λ_ a=>Iz 8 11 a) (Nh l low e) (.exit 0) (λ_=>False) ⟨[],low,e,0⟩ h0 _ λk a x n hP hk hx=>hY _ _ _ _ ⟨k,a,x,hP,hk,hx,rfl,rfl,rfl⟩) ?_
 ·rintro l' ds H n Φ ⟨k,⟨o,lw,lf,g⟩,x,⟨p1,p2,p3,p4,p6,p7⟩,hk,hxT,rfl,rfl,rfl⟩
  dsimp only at p1 p2 p3 p4 p6 p7;obtain⟨y,hy1,hy2,hy3⟩:=hoA k (by omega);rw[hy3]at hxT;cases hxT;have hd:l.drop k=y::l.drop (k+1):=by
   have:=(List.getElem?_eq_some_iff.1 hy2)
   rw[D9 this.1,this.2]
  rw[hd]at p2;have hb:=hx y hy1;have cO:=ho y hy1 (min (y.mass-min y.mass lw) lf);have p5:(o++[y.w (min (y.mass-min y.mass lw) lf)])++Kr (l.drop (k+1)) (lw-min y.mass lw) (lf-min (y.mass-min y.mass lw) lf)=Kr l low e:=by
   rw[<-p2,D2];rfl
  have a1:IntKind.i64.wrap (lw-min y.mass lw)=lw-min y.mass lw:=wI (by omega) (by omega);have a2:IntKind.i64.wrap (y.mass-min y.mass lw)=y.mass-min y.mass lw:=wI (by omega) (by omega);have a3:IntKind.i64.wrap (lf-min (y.mass-min y.mass lw) lf)=lf-min (y.mass-min y.mass lw) lf:=wI (by omega) (by omega);have q1:0<=lw-min y.mass lw/\lw-min y.mass lw<=1000000000000/\0<=lf-min (y.mass-min y.mass lw) lf/\lf-min (y.mass-min y.mass lw) lf<=1000000000000000:=by omega
  refine⟨rfl,λF=>?_⟩;unfold AG.w AG.D at cO;unfold AG.D;dsimp only at cO⊢;obtain⟨SD,hSD⟩:∃d,Dg false y.shs=d:=⟨_,rfl⟩
  have pS:AA SD:=by rw[<-hSD];exact AH
  rw[hSD]at cO⊢;rcases o with _|⟨z,o⟩
  ·rw[Wc]
   dsimp only[F9];refine Ak w1 400 (by kernel_rfl) ?_;refine AD kB ?_;refine⟨trivial,trivial,λF'=>?_⟩;refine AR SH (Ar a1 a2 a3) cO AB AB AB AB AB ?_;refine .inl ⟨rfl,⟨[y.w (min (y.mass-min y.mass lw) lf)],lw-min y.mass lw,lf-min (y.mass-min y.mass lw) lf,n+1+1+1+1+1+1+1+1+1+1+1+1+1+1+1+1+1+1+1+1+1+1+7⟩,⟨by rw[<-p1];rfl,p5,q1⟩,?_⟩;rw[O5,<-hSD];exact .keep (.drop (GS _))
  ·have hol:o.length<=1000000:=by rw[Bj]at p1;omega
   rw[O5];dsimp only[F9];obtain⟨O,hO⟩:∃O,o.map AG.D=O:=⟨_,rfl⟩
   obtain⟨zD,hzD⟩:∃O,z.D=O:=⟨_,rfl⟩
   have hOl:O.length=o.length:=by rw[<-hO,An]
   rw[hO,hzD];refine Ak w1 400 (by kernel_rfl) ?_;refine AD kB ?_;refine⟨trivial,trivial,λF'=>?_⟩;refine AR SH (Ar a1 a2 a3) cO AB AB AB AB AB ?_;rw[show List.take (O.length+1) (zD::O)=zD::O from Dk (l:=zD::O)];refine .inl ⟨rfl,⟨z::o++[y.w (min (y.mass-min y.mass lw) lf)],lw-min y.mass lw,lf-min (y.mass-min y.mass lw) lf,n+1+1+1+1+1+1+1+1+1+1+1+1+1+1+1+1+1+1+1+1+1+1+7⟩,⟨by rw[<-p1];simp,p5,q1⟩,?_⟩;have hs:∀g' a b,Iz 8 11 ⟨z::o++[y.w (min (y.mass-min y.mass lw) lf)],a,b,g'⟩=[⟨905,g',27,3,zD::O++[.agg [str (sb y.grain),i64 (min (y.mass-min y.mass lw) lf),SD]]⟩,⟨200,11,22,1,[.osl 905 g' 3 0 (O.length+1+1)]⟩,⟨106,8,3,1,[i64 b]⟩,⟨0,0,3,1,[i64 a]⟩]:=λg' a b=>by
    rw[EP,O5,<-hO,<-hzD,<-hSD,DP];rw[B1];rfl
   rw[hs];exact .keep (.drop (GS _))
 ·rintro j d H' n' F' hE
  rcases hE with⟨rfl,⟨o,lw,lf,g⟩,⟨p1,p2,-⟩,rfl⟩|⟨-,h⟩
  rotate_left
  ·exact h.elim
  dsimp only at p2;rw[List.drop_eq_nil_of_le (by omega)]at p2;have ho2:o=Kr l low e:=by rw[<-p2];exact(DN o).symm
  rw[<-ho2]at hN;rcases o with _|⟨z,o⟩
  ·rw[Wc]
   change AC _ _ _ _ _ _ _;refine sR 1000 ?_;refine A7.pure [.sl false 3 []] _ ⟨.nil 3,trivial⟩ hN AH ?_;refine BJ ?_;refine Ab ?_;exact AN rfl pR.out
  ·have hR:=If (H:=Iz 8 11 ⟨z::o,lw,lf,g⟩) (Hf:=[]) (k:=905) (g:=g) (T:=27) (sz:=3) (l:=(z::o).map AG.D) rfl
   have hle:((z::o).map AG.D).length=(o.map AG.D).length+1:=rfl;rw[hle]at hR;rw[O5]at hR⊢;change AC _ _ _ _ _ _ _;refine sR 1000 ?_;refine A7.own _ (N0 [] hN (.drop (.drop (.drop (.drop .nil)))) ⟨hR,trivial⟩ AH) ?_;rintro d H2 n2 ⟨rfl,rfl,rfl⟩;refine BJ ?_;refine Ab ?_;exact AN rfl pR.out
def Pq (lot:List UInt8)(x:AG):Bool:=x.shs.any λs=>BM (sb s.lot) (sb lot)
def KE (lot:List UInt8):List AG->Int->List (Int×Int)
 | [],_=>[]
 |x::r,n=>(if Pq lot x then[(n+1,n+x.mass)]else[])++KE lot r (n+x.mass)
def FG (p:Int×Int):D:=.agg [i64 p.1,i64 p.2]
instance  (p:Int×Int):Ag (FG p):=by unfold FG;exact AH
instance  (p:Int×Int):AA (FG p):=by unfold FG;exact AH
theorem sY (lot:List UInt8)(s:BE):AK C0 187 [s.D,.pptr (str (sb lot))] (Aq (BM (sb s.lot) (sb lot))):=by
 refine Ai.walk w1 Yh rfl λF=>?_
 unfold BE.D;refine AR Am kB AB AB AB AB AB AB ?_;exact AN rfl AA.out
theorem sE (b:Bool)(l:List BE)(c:D)[pc:AA c](p:BE->Bool)(hl:l.length<=1000000)(hc:∀x∈l,AK C0 187 [x.D,c] (Aq (p x))):AK C0 233 [Dg b l,.clo (.func 187) [] [c]] (i64 (Jt p l)):=by
 refine Ai.walk w1 YD rfl λF=>?_
 have el:(((l.map BE.D).length:Nat):Int)=(l.length:Int):=by rw[An]
 refine AR Am el AB AB AB AB AB AB ?_;refine AC.loop (α:=Nat×Nat) (λp=>⟨[(0,Dg b l),(1,.clo (.func 187) [] [c]),(7,i64 l.length),(8,i64 (p.1:Int))],[],p.2⟩) (λp=>l.length-p.1) (λq=>q.1<=l.length/\∀(j:Nat) (x:BE),j<q.1->l[j]?=some x->p x=false) (0,_) ⟨BZ _,λj x hj=>Ae hj (Ht j)⟩ AL ?_;rintro⟨i,n⟩ F ⟨hi,ha⟩;dsimp only at hi ha⊢;rcases BL i l.length with h2|h2
 rotate_left
 ·have e1:=Cw h2
  have:i=l.length:=by omega
  subst this;refine AR Am e1 AB AB AB AB AB AB ?_;exact AN (by rw[U9 ha]) AA.out
 have e1:=Cx h2;have wi:=Cy (i:=i) (by omega);obtain⟨x,hx⟩:=Cg h2;have hm:(l.map BE.D)[i]?=some (.agg [str (sb x.lot),str (sb x.part)]):=by rw[BK,hx];rfl
 have cn:=hc x (A8 hx);unfold BE.D at cn;cases hb:p x
 ·rw[hb]at cn
  refine AR Am (Ar e1 wi kN) hm cn AB AB AB AB ?_;refine⟨(i+1,_),⟨h2,λj z hj hjz=>?_⟩,by dsimp only;omega,AL⟩;rcases BL j i with h|h
  ·exact ha j z h hjz
  ·have:j=i:=by dsimp only at hj;omega
   subst this;rw[hx]at hjz;cases hjz;exact hb
 ·rw[hb]at cn
  refine AR Am (Ar e1 wi kN) hm cn AB AB AB AB ?_;exact AN (by rw[WW hx hb ha]) AA.out
theorem sA (b:Bool)(l:List BE)(c:D)[pc:AA c](p:BE->Bool)(hl:l.length<=1000000)(hc:∀x∈l,AK C0 187 [x.D,c] (Aq (p x))):AK C0 186 [Dg b l,.clo (.func 187) [] [c]] (Aq (l.any p)):=by
 refine Ai.walk w1 Yg rfl λF=>?_
 have c1:=sE b l c p hl hc;have e1:=WX p l;refine AR Am e1 c1 AB AB AB AB AB ?_;exact AN rfl AA.out
structure Tv where
 o:List (Int×Int)
 n:Int
 g:Nat
def JK (lot:List UInt8)(g1 g2:Nat)(p:Tv):Hp:=DW 609 p.g 132 2 (p.o.map FG)++[⟨200,g2,3,1,[i64 p.n]⟩,⟨100,g1,130,1,[Dc 609 p.g 2 (p.o.map FG)]⟩,⟨0,0,9,1,[str (sb lot)]⟩]
theorem W4 (lot:List UInt8)(g1 g2:Nat)(n:Int)(g:Nat):JK lot g1 g2 ⟨[],n,g⟩=[⟨200,g2,3,1,[i64 n]⟩,⟨100,g1,130,1,[CK]⟩,⟨0,0,9,1,[str (sb lot)]⟩]:=rfl
theorem PH (lot:List UInt8)(g1 g2:Nat)(z:Int×Int)(o:List (Int×Int))(n:Int)(g:Nat):JK lot g1 g2 ⟨z::o,n,g⟩=[⟨609,g,132,2,FG z::o.map FG⟩,⟨200,g2,3,1,[i64 n]⟩,⟨100,g1,130,1,[.osl 609 g 2 0 ((o.map FG).length+1)]⟩,⟨0,0,9,1,[str (sb lot)]⟩]:=rfl
def Nv (lot:List UInt8)(l:List AG)(k:Nat)(p:Tv):Prop:=p.o.length<=k/\p.o++KE lot (l.drop k) p.n=KE lot l 0/\0<=p.n/\p.n<=(k:Int)*1000000000
theorem bT (b:Bool)(l:List AG)(lot:List UInt8)(hl:l.length<=1000000)(hx:∀x∈l,0<=x.mass/\x.mass<=1000000000/\x.shs.length<=1000000):
  AK C0 142 [Ax b l,str (sb lot)] (.sl false 2 ((KE lot l 0).map FG)):=by
 refine Ai.walk w1 Xe rfl λF=>?_
 have cV:=Ro b false (l.map AG.D);have hT:∀x∈l.map AG.D,∃a c d,x=.agg [a,c,d]:=λx hx=>by
  obtain⟨y,-,rfl⟩:=List.mem_map.1 hx;exact⟨_,_,_,rfl⟩
 have hoA:∀k,k<l.length->∃y,y∈l/\l[k]?=some y/\(l.map AG.D)[if false then(l.map AG.D).length-1-k else k]?=some y.D:=λk hk=>⟨_,List.getElem_mem hk,BD hk,by
  show(l.map AG.D)[k]?=_;rw[BK,BD hk];rfl⟩
 unfold Ax;obtain⟨T,hTT⟩:∃T,l.map AG.D=T:=⟨_,rfl⟩
 have pT:AA (.sl b 3 T):=by rw[<-hTT];exact AH
 have hTl:T.length=l.length:=by rw[<-hTT,An]
 rw[hTT]at cV hT hoA⊢;refine AR Am kB cV AB AB AB AB AB ?_;have h0:Nv lot l 0 ⟨[],0,0⟩:=⟨Af _,rfl,Int.le_refl _,Int.le_refl _⟩
 refine AC.rangeFunc (fi:=185) (first:=[]) (captured:=[.pptr (.sl b 3 T),.pptr (Aq false)]) (Ψ:=λj _ H' _=>(j=none/\∃a,Nv lot l T.length a/\H'=JK lot 2 3 a)\/(j=some (.exit 0)/\False)) rfl
  (λds H n Φ=>∃k a x,Nv lot l k a/\k<T.length/\T[if false then T.length-1-k else k]?=some x/\ds=[x]/\H=JK lot 2 3 a/\Φ=λj H' _=>(j=none/\∃a',Nv lot l (k+1) a'/\CT H' (JK lot 2 3 a') H' (JK lot 2 3 a'))\/(j=some (.exit 0)/\False)) ?_
  (λE l' R' hE hY=>TH hE b false T hT (by omega) (λ_ a=>JK lot 2 3 a) (Nv lot l) (.exit 0) (λ_=>False) ⟨[],0,0⟩ h0 _ λk a x n hP hk hx=>hY _ _ _ _ ⟨k,a,x,hP,hk,hx,rfl,rfl,rfl⟩) ?_
 ·rintro l' ds H n Φ ⟨k,⟨o,nn,g⟩,x,⟨p1,p2,p3,p4⟩,hk,hxT,rfl,rfl,rfl⟩
  dsimp only at p1 p2 p3 p4;obtain⟨y,hy1,hy2,hy3⟩:=hoA k (by omega);rw[hy3]at hxT;cases hxT;have hd:l.drop k=y::l.drop (k+1):=by
   have:=(List.getElem?_eq_some_iff.1 hy2)
   rw[D9 this.1,this.2]
  rw[hd]at p2;have hb:=hx y hy1;have cH:=sA false y.shs (.pptr (str (sb lot))) (λs=>BM (sb s.lot) (sb lot)) hb.2.2 λs _=>sY lot s
  have hK:(y.shs.any λs=>BM (sb s.lot) (sb lot))=Pq lot y:=rfl;rw[hK]at cH;have p5:(o++(if Pq lot y then[(nn+1,nn+y.mass)]else[]))++KE lot (l.drop (k+1)) (nn+y.mass)=KE lot l 0:=by
   rw[<-p2,D2];rfl
  obtain⟨K,hKK⟩:∃K,Pq lot y=K:=⟨_,rfl⟩
  rw[hKK]at cH p5;have a1:IntKind.i64.wrap (nn+y.mass)=nn+y.mass:=wI (by omega) (by omega);have a2:IntKind.i64.wrap (nn+1)=nn+1:=wI (by omega) (by omega);have q1:0<=nn+y.mass/\nn+y.mass<=((k+1:Nat):Int)*1000000000:=by omega
  refine⟨rfl,λF=>?_⟩;unfold AG.D;unfold Dg at cH⊢;obtain⟨SD,hSD⟩:∃d,y.shs.map BE.D=d:=⟨_,rfl⟩
  have pS:AA (.sl false 2 SD):=by rw[<-hSD];exact AH
  rw[hSD]at cH⊢;rcases o with _|⟨z,o⟩
  ·rw[W4]
   dsimp only[F9];refine Ak w1 400 (by kernel_rfl) ?_;refine AD kB ?_;refine⟨trivial,trivial,λF'=>?_⟩;refine AR Am kB AB AB AB AB AB AB ?_;refine A7.own _ (MM cH rfl (λi a d h1 h2=>by
    match i with
    | 0=>cases h1;cases h2;exact .refl _ _
    | 1=>cases h1;cases h2;exact .clo1 (.ptr rfl rfl rfl rfl)
    |n+2=>cases h1) AH (.prim _)) ?_
   rintro d H' n' ⟨rfl,rfl,rfl⟩;cases K
   ·refine AR Am (Ah a1 a2) AB AB AB AB AB AB ?_
    exact .inl ⟨rfl,⟨[],nn+y.mass,0⟩,⟨BZ _,p5,q1⟩,.drop (GS _)⟩
   ·refine AR Am (Ah a1 a2) AB AB AB AB AB AB ?_
    exact .inl ⟨rfl,⟨[(nn+1,nn+y.mass)],nn+y.mass,n+1+1+1+1+1+1+1+1+1+1+1+1+1+1+1⟩,⟨by simp,p5,q1⟩,.keep (.drop (GS _))⟩
  ·have hol:o.length<=1000000:=by rw[Bj]at p1;omega
   rw[PH];dsimp only[F9];obtain⟨O,hO⟩:∃O,o.map FG=O:=⟨_,rfl⟩
   obtain⟨zD,hzD⟩:∃O,FG z=O:=⟨_,rfl⟩
   have hOl:O.length=o.length:=by rw[<-hO,An]
   rw[hO,hzD];refine Ak w1 400 (by kernel_rfl) ?_;refine AD kB ?_;refine⟨trivial,trivial,λF'=>?_⟩;refine AR Am kB AB AB AB AB AB AB ?_;refine A7.own _ (MM cH rfl (λi a d h1 h2=>by
    match i with
    | 0=>cases h1;cases h2;exact .refl _ _
    | 1=>cases h1;cases h2;exact .clo1 (.ptr rfl rfl rfl rfl)
    |n+2=>cases h1) AH (.prim _)) ?_
   rintro d H' n' ⟨rfl,rfl,rfl⟩;cases K
   ·refine AR Am (Ah a1 a2) AB AB AB AB AB AB ?_
    refine .inl ⟨rfl,⟨z::o,nn+y.mass,g⟩,⟨Nat.le_succ_of_le p1,by rw[<-p5,AE Bool.false_ne_true,DN],q1⟩,?_⟩;rw[PH,hO,hzD];exact .drop (GS _)
   ·refine AR Am (Ah a1 a2) AB AB AB AB AB AB ?_
    rw[show List.take (O.length+1) (zD::O)=zD::O from Dk (l:=zD::O)];refine .inl ⟨rfl,⟨z::o++[(nn+1,nn+y.mass)],nn+y.mass,n+1+1+1+1+1+1+1+1+1+1+1+1+1+1+1⟩,⟨by rw[B1];exact Nat.succ_le_succ p1,p5,q1⟩,?_⟩;have hs:∀g' a,JK lot 2 3 ⟨z::o++[(nn+1,nn+y.mass)],a,g'⟩=[⟨609,g',132,2,zD::O++[.agg [i64 (nn+1),i64 (nn+y.mass)]]⟩,⟨200,3,3,1,[i64 a]⟩,⟨100,2,130,1,[.osl 609 g' 2 0 (O.length+1+1)]⟩,⟨0,0,9,1,[str (sb lot)]⟩]:=λg' a=>by
     rw[EP,PH,<-hO,<-hzD,DP];rw[B1];rfl
    rw[hs];exact .keep (.drop (GS _))
 ·rintro j d H' n' F' hE
  rcases hE with⟨rfl,⟨o,nn,g⟩,⟨p1,p2,-⟩,rfl⟩|⟨-,h⟩
  rotate_left
  ·exact h.elim
  dsimp only at p2;rw[List.drop_eq_nil_of_le (by omega)]at p2;have ho2:o=KE lot l 0:=by rw[<-p2];exact(DN o).symm
  rw[<-ho2];rcases o with _|⟨z,o⟩
  ·rw[W4]
   change AC _ _ _ _ _ _ _;refine sR 800 ?_;refine Ab ?_;exact⟨_,.nil 2,AA.out,rfl⟩
  ·have hR:=If (H:=JK lot 2 3 ⟨z::o,nn,g⟩) (Hf:=[]) (k:=609) (g:=g) (T:=132) (sz:=2) (l:=(z::o).map FG) rfl
   have hle:((z::o).map FG).length=(o.map FG).length+1:=rfl;rw[hle]at hR;rw[PH]at hR⊢;change AC _ _ _ _ _ _ _;refine sR 800 ?_;refine Ab ?_;exact⟨_,hR,AA.out,rfl⟩
end Go.Ide
namespace Go.Proofs
open Go.Shelf Go.RowKit Go.Lib
def Tryz.growLay_ren:Go.Shelf.Ren:=⟨fun|4=>140|n=>n,fun|22=>22|25=>27|3=>3|4=>4|9=>9|20=>20|0=>0|n=>n,fun|n=>n⟩
theorem uJ:Go.Proofs.Lays8.n4 Tryz.prog Tryz.growLay_ren:={
 mixed:=by kernel_rfl
 f4:=⟨Tryz.f140.name,by decide,Tryz.func140.trans (congrArg some (by kernel_rfl))⟩
 t0:=Tryz.underlying0
 a0:=Tryz.isAgg0
 z0:=Tryz.sizeOf0
 v0:=Tryz.zeroValue0
 t3:=Tryz.underlying3
 a3:=Tryz.isAgg3
 z3:=Tryz.sizeOf3
 v3:=Tryz.zeroValue3
 t4:=Tryz.underlying4
 a4:=Tryz.isAgg4
 z4:=Tryz.sizeOf4
 v4:=Tryz.zeroValue4
 t9:=Tryz.underlying9
 a9:=Tryz.isAgg9
 z9:=Tryz.sizeOf9
 v9:=Tryz.zeroValue9
 t20:=Tryz.underlying20
 a20:=Tryz.isAgg20
 z20:=Tryz.sizeOf20
 v20:=Tryz.zeroValue20
 t22:=Tryz.underlying22
 a22:=Tryz.isAgg22
 z22:=Tryz.sizeOf22
 v22:=Tryz.zeroValue22 }
end Go.Proofs
namespace Go.Ide
open Go.Proofs Go.RowKit Go.Lib
set_option maxRecDepth 20000
set_option maxHeartbeats 4000000
theorem JF (K n:Nat)(h0:0<n)(hn:n<=1000000)(H:Hp)(m:Nat):CQ C0 140 [CK,i64 (n:Int)] H m (λd H' n'=>d=.osl K m 3 0 0/\H'=⟨K,m,27,3,[]⟩::H/\n'=m+1):=by
 refine⟨by obtain⟨fn,a1,a2,a3,-⟩:=Xc;exact⟨fn,_,a1,a2,a3⟩,λF ρ w vs mm fr gn hsz rep=>?_⟩;obtain⟨v0,v1,rfl⟩:∃v0 v1,vs = #[v0,v1]:=by
  match vs,hsz with
  |⟨[a,b]⟩,_=>exact⟨a,b,rfl⟩
 have r0:AU ρ _ w CK v0:=rep 0 _ rfl;have r1:AU ρ _ w (i64 (n:Int)) v1:=rep 1 _ rfl;cases r0;cases r1;have hT:∃i,X1.tt 22=some i/\i.ti=.slice 27 3 48 (.agg #[.string ⟨#[]⟩,.int .i64 0,.slice none 0 0]):=⟨_,rfl,rfl⟩
 obtain⟨i,hi1,hi2⟩:=hT;obtain⟨-,⟨inf,k1,k2,k3,k4⟩,k5,k6⟩:=EI (w1.tt _ _ hi1) hi2;have hc:=Any8.slices_Grow_grow uJ inf _ k1 k4 (by rw[k2];decide) none 0 0 n [] w (Af _) (by omega) (by rw[k3];omega) (by omega) (by rw[k2];rfl) (λ_=>rfl) (λa h=>by cases h);refine Calls.mono hc ?_;rintro e w' ⟨rfl,rfl⟩;rw[show Tryz.growLay_ren.t 25=27 from rfl,BT];have hge:n<=grownCap w n 0 27:=grownCap_ge ..;have hmx:grownCap w n 0 27<=maxLen:=grownCap_le_maxLen _ _ _ _ (by simp only[maxLen];omega);generalize grownCap w n 0 27=cap at hge hmx⊢;obtain⟨z,hz⟩:∃z,(Value.agg #[.string ⟨#[]⟩,.int .i64 0,.slice none 0 0])=z:=⟨_,rfl⟩
 rw[hz]at k5 k6⊢;generalize hcs' : #[]++Builtin.zeroCells z.cells (n-0)++Builtin.zeroCells z.cells (cap-n)=cs';have hsz':cs'.size=cap*3:=by
  rw[<-hcs',IT,IT,size_zeroCells,size_zeroCells,k5];simp only[I9,HD];omega
 have ho:Ct ρ (AJ F.X ρ H) w.drew ⟨K,m,27,3,[]⟩ cs':=by
  refine⟨by simp,λq d h=>by simp at h,λq v hv=>?_,λq d j c h=>by simp at h⟩;rw[<-hcs']at hv;rcases BL q (#[]++Builtin.zeroCells z.cells (n-0)).size with hq|hq
  ·rw[Fv hq,Array.empty_append]at hv
   exact OU k6 _ _ v hv
  ·rw[Fu hq]at hv
   exact OU k6 _ _ v hv
 obtain⟨m1,x1⟩:=mm.drew.alloc ⟨K,m,27,3,[]⟩ cs' (fr _ _ (Af _)) (λe' he' h=>Nat.ne_of_lt (gn e' he') h.2) ho;refine⟨_,_,_,_,_,rfl,⟨rfl,rfl,rfl⟩,m1,(BO.drew _ _ _).trans x1,λk g hg=>?_,λe he=>?_,?_⟩
 ·unfold Lk.put
  rw[AE λh=>by have:=h.2;dsimp only at this;omega];exact fr k g (by omega)
 ·rcases BA.1 he with rfl|he
  ·exact Gi _
  ·exact Cv (gn e he)
 ·exact Nz (b:=w.heap.size) (T:=27) (cs:=cs') (fz:=(0,0)) (D1 _ _ _ _) (by rw[Dx];exact AF rfl) (BZ _) hsz'.symm hmx
theorem VM {vs:List (List AG)}{i:Nat}{l:List AG}(h:vs[i]?=some l):(vs.take (i+1)).flatten=(vs.take i).flatten++l:=by
 rw[D7,h];simp
theorem WZ {vs:List (List AG)}(i:Nat):(vs.take i).flatten.length<=vs.flatten.length:=by
 have:vs.flatten=(vs.take i).flatten++(vs.drop i).flatten:=by rw[<-List.flatten_append,Ef]
 rw[this,B1];omega
theorem eB (vs:List (List AG))(h0:vs.flatten≠[])(hl:vs.flatten.length<=1000000)(hv:vs.length<=1000000):AK C0 88 [.sl true 1 (vs.map (Ax false))] (Ax false vs.flatten):=by
 refine Ai.walk w1 Z6 rfl λF=>?_
 have el:(((vs.map (Ax false)).length:Nat):Int)=(vs.length:Int):=by rw[An]
 have hpos:0<vs.flatten.length:=List.length_pos_iff.2 h0;have cG:=λm=>JF 1302 vs.flatten.length hpos hl [] m
 refine AR Am el AB AB AB AB AB AB ?_;refine AC.loop (α:=Nat×Nat) (λp=>⟨[(0,.sl true 1 (vs.map (Ax false))),(3,i64 ((vs.take p.1).flatten.length:Int)),(9,.sl true 1 (vs.map (Ax false))),(10,i64 (vs.length:Int)),(11,i64 (p.1:Int))],[],p.2⟩) (λp=>vs.length-p.1) (λq=>q.1<=vs.length) (0,_) (BZ _) AL ?_;rintro⟨i,n⟩ F hi;dsimp only at hi⊢;rcases BL i vs.length with h2|h2
 ·have e1:=Cx h2
  have wi:=Cy (i:=i) (by omega);obtain⟨x,hx⟩:=Cg h2;have hm:(vs.map (Ax false))[i]?=some (.sl false 3 (x.map AG.D)):=by rw[BK,hx];rfl
  have hs:=VM hx;have hle:=WZ (vs:=vs) (i+1);have ex:(((x.map AG.D).length:Nat):Int)=(x.length:Int):=by rw[An]
  rw[hs,B1]at hle;have w1':IntKind.i64.wrap (((vs.take i).flatten.length:Int)+(x.length:Int))=(((vs.take (i+1)).flatten.length:Nat):Int):=by
   rw[wI (by omega) (by omega),hs,B1];omega
  have g0:decide ((((vs.take (i+1)).flatten.length:Nat):Int)<0)=false:=Ad (by omega);refine AR Am (EU e1 wi ex w1' g0 kN) hm AB AB AB AB AB ?_;exact⟨(i+1,_),h2,by dsimp only;omega,AL⟩
 have e1:=Cw h2
 have:i=vs.length:=by omega
 subst this;rw[Dk];refine AR Am e1 AB AB AB AB AB AB ?_;refine A7.own _ (cG _) ?_;rintro d H' n' ⟨rfl,rfl,rfl⟩;refine AR Am el AB AB AB AB AB AB ?_;refine AC.loop (α:=Nat×Nat×Nat) (λp=>⟨[(6,.osl 1302 p.2.1 3 0 (vs.take p.1).flatten.length),(25,.sl true 1 (vs.map (Ax false))),(26,i64 (vs.length:Int)),(27,i64 (p.1:Int))],[⟨1302,p.2.1,27,3,(vs.take p.1).flatten.map AG.D⟩],p.2.2⟩) (λp=>vs.length-p.1) (λq=>q.1<=vs.length) (0,n+1+1,_) (BZ _) AL ?_;clear hi h2 e1;rintro⟨i,g,n⟩ F hi;dsimp only at hi⊢;rcases BL i vs.length with h2|h2
 ·have e1:=Cx h2
  have wi:=Cy (i:=i) (by omega);obtain⟨x,hx⟩:=Cg h2;have hm:(vs.map (Ax false))[i]?=some (.sl false 3 (x.map AG.D)):=by rw[BK,hx];rfl
  have hs:=VM hx;have hle:=WZ (vs:=vs) (i+1);have hln:((vs.take i).flatten.map AG.D).length=(vs.take i).flatten.length:=An ..;have hlx:(x.map AG.D).length=x.length:=An ..;rw[hs,B1]at hle;obtain⟨R,hR⟩:∃R,(vs.take i).flatten=R:=⟨_,rfl⟩
  obtain⟨X,hX⟩:∃X,x.map AG.D=X:=⟨_,rfl⟩
  have pX:AA (.sl false 3 X):=by rw[<-hX];exact AH
  rw[hR]at hs hle hln⊢;rw[hX]at hm hlx;obtain⟨RD,hRD⟩:∃X,R.map AG.D=X:=⟨_,rfl⟩
  rw[hRD]at hln⊢;refine AR Am (Ar e1 wi kN) hm AB AB AB AB AB ?_;refine⟨(i+1,n+1+1+1+1+1+1,n+1+1+1+1+1+1+1+1+1+1),h2,by dsimp only;omega,?_⟩;dsimp only;rw[hs,B1,DP,hRD,hX,hlx];rw[B5 (show RD.length<=R.length by omega)];exact AL
 have e1:=Cw h2
 have:i=vs.length:=by omega
 subst this;rw[Dk];have hR:=If (H:=[⟨1302,g,27,3,vs.flatten.map AG.D⟩]) (Hf:=[]) (k:=1302) (g:=g) (T:=27) (sz:=3) (l:=vs.flatten.map AG.D) rfl;rw[An]at hR;refine AR Am e1 AB AB AB AB AB AB ?_;exact⟨_,hR,AA.out,rfl⟩
end Go.Ide
namespace Go.Ide
open Go.Proofs Go.RowKit
set_option maxRecDepth 20000
section
variable {C:A0} {F B:AY} {ops:Array Oper} {rd:Option Nat}
theorem ge {K1:St->Prop}{Q:Exit->Act->World->Prop}{l2:List Nat}(h2:∀(s1:St) (ρ:Lk) (a:Act) (w:World),K1 s1->Bd C F ρ s1 a w->wpOps C.P ops Q l2 a w):∀(l:List Nat) (a:Act) (w:World),wpOps C.P ops (KG C F K1) l a w->wpOps C.P ops Q (l++l2) a w:=by
 intro l
 induction l with
 |nil=>rintro a w ⟨_,s',ρ',hq,hs'⟩;exact h2 s' ρ' a w hq hs'
 |cons i l ih=>
  intro a w h;simp only[EP,wpOps]at h⊢;cases ho:ops[i]? with
  |none=>simp only[ho]at h⊢;exact ih a w h
  |some o=>
   simp only[ho]at h⊢;split
   ·rename_i hw
    rw[AF hw]at h;rcases h with h|⟨_,⟨a0,w0,h0⟩⟩
    ·refine .inl ?_
     unfold Oper.wp Oper.upon at h⊢;split<;>rename_i hr<;>simp only[hr]at h
     ·exact ih _ _ h
     ·exact ih _ _ h
     ·exact ih _ _ h
     ·refine Calls.mono h λe w'' he=>?_
      cases e with
      |returned v=>exact ih _ _ he
      |panicked c=>cases he.1
      |outgrown=>obtain⟨a0,w0,h0⟩:=he;cases h0.1
     ·exact Rows.mono h λ_ _ he=>ih _ _ he
     ·cases h.1
    ·cases h0.1
   ·rename_i hw
    rw[AE hw]at h;exact ih _ _ h
theorem t6 {K:St->Prop}{os1 os2:List Oper}{s:St}(h:BC C F ops os1 s (λs1=>BC C F ops os2 s1 K)):BC C F ops (os1++os2) s K:=by
 intro hd l hl ρ a w hs;rw[J8,BV]at hd;have hlen:l.length=os1.length+os2.length:=by
  have:=congrArg List.length hl
  simpa using this
 obtain⟨l1,l2,rfl,e1⟩:∃l1 l2,l=l1++l2/\l1.length=os1.length:=⟨l.take os1.length,l.drop os1.length,(Ef _ _).symm,by rw[Bg];omega⟩
 rw[DP,DP]at hl;obtain⟨h1,h2⟩:=List.append_inj hl (by simpa using e1);exact ge (λs1 ρ a w hk hs=>hk hd.2 l2 h2 ρ a w hs) l1 a w (h hd.1 l1 h1 ρ a w hs)
theorem tj {X:EV}{i:Nat}{s:St}{Q:Exit->AY->St->Prop}(hX:DA C X)(hnd:EL ops.toList=true)(h:BC C F ops ((List.range ops.size).map λj=>ops.getD j default) s (Q .normal F)):AC C B rd F (.region i ops false) s Q:=by
 refine⟨λhB hd ρ a w hs=>wpIn_region ?_⟩;have hd:=Ja hB hd;have h1:=BC.run h (λj hj=>List.mem_range.1 hj) hd hs
 have:=E2 (rd:=rd) (Q:=Eo C B Q) (l2:=[]) (λ_ _ _ h=>JX hB (λ_ h=>h) h) (HS hnd) _ a w h1
 rwa [DN]at this
def TV (C:A0)(F:AY)(X:EV)(kb:Nat)(ops:Array Oper):List (List Nat×Nat)->List Nat->St->(St->Prop)->Prop
 | [],l,s,K=>Ci C X kb ops l s True λacc s=>acc/\K s
 |(l1,i)::r,l,s,K=>Ci C X kb ops l1 s True λacc s1=>acc/\∃d,(∀(os:List Oper) (K':St->Prop),BC C F ops os ⟨BS s1.env (ops.getD i default).dst d,s1.H,s1.n+1⟩ K'->BC C F ops (ops.getD i default::os) s1 K')/\TV C F X kb ops r l ⟨BS s1.env (ops.getD i default).dst d,s1.H,s1.n+1⟩ K
def OJ:List (List Nat×Nat)->List Nat->List Nat
 | [],l=>l
 |(l1,i)::r,l=>l1++i::OJ r l
theorem XO {X:EV}(hX:DA C X){kb:Nat}{K:St->Prop}:∀(r:List (List Nat×Nat)) (l:List Nat) (s:St),TV C F X kb ops r l s K->BC C F ops ((OJ r l).map λj=>ops.getD j default) s K
 | [],l,s,h=>(E3 hX (λacc s h=>h) h).2
 |(l1,i)::r,l,s,h=>by
  show BC C F ops ((l1++i::OJ r l).map _) s K;rw[DP,Cb];refine t6 ?_;refine(E3 (K':=λs1=>BC C F ops (ops.getD i default::(OJ r l).map λj=>ops.getD j default) s1 K) hX (λacc s1 h=>⟨h.1,?_⟩) h).2;obtain⟨d,h1,h2⟩:=h.2;exact h1 _ _ (XO hX r l _ h2)
theorem tk {X:EV}{i:Nat}{s:St}{Q:Exit->AY->St->Prop}(hX:DA C X)(kb:Nat)(r:List (List Nat×Nat))(l:List Nat)(hl:List.range ops.size=OJ r l)(hnd:EL ops.toList=true)(h:TV C F X kb ops r l s (Q .normal F)):AC C B rd F (.region i ops false) s Q:=
 tj hX hnd (by rw[hl];exact XO hX r l s h)
def T2 (P:Program) (t:Nat):Prop:=∃(f1 f2:Field) (k1 k2:IntKind),P.underlying t=some (.struct #[f1,f2])/\P.stoodInHeld t=false/\P.eqGuardType P.depth t=false/\f1.name ≠ "_"/\f1.offset=0/\P.underlying f1.type=some (.int k1)/\f2.name ≠ "_"/\f2.offset=1/\P.underlying f2.type=some (.int k2)
theorem UE {P:Program} {w:World} (d:Nat) {xs ys:Array Value} {f:Field} {fs:List Field} {i:Nat} {ka k:IntKind} {x y:Int} {b:Bool} (f1:f.name ≠ "_") (f2:f.offset=i) (f3:P.underlying f.type=some (.int k)) (hxa:xs[i]?=some (.int ka x)) (hya:ys[i]?=some (.int ka y))
  (ih:(Op.eqFields (d+1) xs ys fs).run P w=.ok b w):(Op.eqFields (d+1) xs ys (f::fs)).run P w=.ok (x==y&&b) w:=by
 have ag:(isAgg f.type).run P w=.ok false w:=by
  unfold isAgg;rw[run_bind,CV f3];rfl
 have part1:(part f.type xs f.offset).run P w=.ok (.int ka x) w:=by
  unfold part;rw[run_bind,ag];dsimp only;rw[AE (by simp),f2];simp only[hxa];rfl
 have part2:(part f.type ys f.offset).run P w=.ok (.int ka y) w:=by
  unfold part;rw[run_bind,ag];dsimp only;rw[AE (by simp),f2];simp only[hya];rfl
 simp only[Op.eqFields];rw[AF f1,run_bind,part1];dsimp only;rw[run_bind,part2];dsimp only;rw[run_bind,run_equalIn_int w d f.type ka k x y f3];dsimp only;cases hb:x==y with
 |true=>simpa using ih
 |false=>rfl
theorem aX {o:Oper}{os:List Oper}{s:St}{K:St->Prop}{t tt:Nat}{x y:Operand}{a1 a2 b1 b2:Int}(hw:B3 ops s.env o=some true)(ho:o.op=.binOp .neq t x y tt)(hT:T2 C.P t)(hx:A9 s.env x=.agg [i64 a1,i64 a2])(hy:A9 s.env y=.agg [i64 b1,i64 b2])
  (h:BC C F ops os ⟨BS s.env o.dst (Aq (!(a1==b1&&(a2==b2&&true)))),s.H,s.n+1⟩ K):BC C F ops (o::os) s K:=
 BC.step hw (λρ a w hs=>by
  refine⟨_,ρ,w,.inl ?_,OQ.pure hs (.prim _),λe he=>Cv (hs.gen e he)⟩;have rx:=C3 hs.env x;have ry:=C3 hs.env y;rw[hx]at rx;rw[hy]at ry;unfold execOp;simp only[ho];generalize a.eval x=vx at rx⊢;generalize a.eval y=vy at ry⊢;cases rx with
  |agg n1 o1 r1=>
   cases ry with
   |agg n2 o2 r2=>
    rename_i xs ys;obtain⟨f1,f2,k1,k2,c1,c2,c3,c4,c5,c6,c7,c8,c9⟩:=hT;have at_:∀ {vs:Array Value} {u1 u2:Int},vs.size=[i64 u1,i64 u2].length->(∀(i:Nat) (d:D),[i64 u1,i64 u2][i]?=some d->AU ρ (AJ F.X ρ s.H) w d (vs.getD i undef))->vs[0]?=some (.int .i64 u1)/\vs[1]?=some (.int .i64 u2):=λ{vs u1 u2} n r=>by
     have q0:=r 0 _ rfl;have q1:=r 1 _ rfl;have m0:0<vs.size:=by rw[n];exact Nat.zero_lt_succ _
     have m1:1<vs.size:=by rw[n];exact Gi _
     rw[Aw,Be m0,Hs]at q0;rw[Aw,Be m1,Hs]at q1;rw[Be m0,Be m1];generalize vs[0]=z0 at q0;generalize vs[1]=z1 at q1;cases q0;cases q1;exact⟨rfl,rfl⟩
    obtain⟨x0,x1⟩:=at_ n1 r1;obtain⟨y0,y1⟩:=at_ n2 r2;have eqf:C.P.fieldsOf t = #[f1,f2]:=by unfold Program.fieldsOf;rw[c1]
    have run:(Op.equalIn 10000 t (.agg xs) (.agg ys)).run C.P w=.ok (a1==b1&&(a2==b2&&true)) w:=by
     rw[show(10000:Nat)=9998+1+1 from rfl,run_equalIn_struct w _ t xs ys (by rw[eqf];exact c1) c2,eqf];exact UE 9998 c4 c5 c6 x0 y0 (UE 9998 c7 c8 c9 x1 y1 rfl)
    have r3:(do eqGuard .neq t x y (.agg xs) (.agg ys);binOp .neq t (.agg xs) (.agg ys):Sem Value).run C.P w=.ok (.bool (!(a1==b1&&(a2==b2&&true)))) w:=by
     rw[run_bind,run_eqGuard_agg w .neq t x y xs ys c3];dsimp only;rw[run_neq_struct,run];rfl
    rw[run_bind,r3];rfl) h
end
def QR (P:Program)(t:Nat):Bool:=match P.underlying t with
 |some (.int _)=>true
 |_=>false
theorem Ww {P:Program}{t:Nat}(h:QR P t=true):∃k,P.underlying t=some (.int k):=by
 unfold QR at h;split at h
 ·rename_i k hk;exact⟨k,hk⟩
 ·cases h
def aw (P:Program):List Field->Bool
 | [f1,f2]=>(f1.name != "_")&&Nat.beq f1.offset 0&&QR P f1.type&&(f2.name != "_")&&Nat.beq f2.offset 1&&QR P f2.type
 |_=>false
def av (P:Program)(t:Nat):Bool:=match P.underlying t with
 |some (.struct fs)=>!(P.stoodInHeld t) && !(P.eqGuardType P.depth t)&&aw P fs.toList
 |_=>false
theorem qU {P:Program}{t:Nat}(h:av P t=true):T2 P t:=by
 unfold av at h;split at h<;>try(cases h;done)
 rename_i fs hu;simp only[BV,Bc]at h;obtain⟨⟨h1,h2⟩,h3⟩:=h;obtain⟨l⟩:=fs
 match l,h3 with
 | [f1,f2],h3=>
  simp only[aw,BV,bne_iff_ne]at h3;obtain⟨⟨⟨⟨⟨g1,g2⟩,g3⟩,g4⟩,g5⟩,g6⟩:=h3;obtain⟨k1,e1⟩:=Ww g3;obtain⟨k2,e2⟩:=Ww g6;exact⟨f1,f2,k1,k2,hu,h1,h2,g1,Bu g2,e1,g4,Bu g5,e2⟩
theorem W8:T2 C0.P 91:=qU (by kernel_rfl)
open Go.Sort
set_option maxHeartbeats 4000000
def lA:List AG:=[CW 10,Cr 6]
def lB:List AG:=[CW 5]
def cA:D:=Ax false lA
def cB:D:=Ax false lB
def DK:D:=.agg [str (sb Lb),i64 4,i64 30,i64 12,.sl false 1 [cA,cB]]
theorem tM:AK C0 47 [] DK:=by
 have h:=rY.loosen 10
 rwa [show loosen 10 an=DK from rfl]at h
theorem W3 {x:AG}(h:decide (x.grain.length<=1000)&&decide (x.shs.length<=1000)&&x.shs.all (λs=>decide (s.lot.length<=1000)&&decide (s.part.length<=40))=true):x.lite:=by
 simp only[BV,Gl,CI]at h;obtain⟨⟨h1,h2⟩,h3⟩:=h;exact⟨⟨by omega,by omega,λs hs=>⟨by have:=(h3 s hs).1;omega,by have:=(h3 s hs).2;omega⟩⟩,h3⟩
theorem Pr:∀x∈lA,x.lite:=by
 intro x hx;simp only[lA,BA,DF,or_false]at hx;rcases hx with rfl|rfl<;>exact W3 rfl
theorem pv:∀x∈lB,x.lite:=by
 intro x hx;simp only[lB,BA,DF,or_false]at hx;subst hx;exact W3 rfl
theorem P7:B4 lA=0:=by kernel_rfl
theorem qD:B4 lB=0:=by kernel_rfl
theorem kE:Jo lA=[(tA,13),(tB,3)]:=by kernel_rfl
theorem TG:Eu (B7 lA)=[(tA,13),(tB,3)]:=by rw[<-Vj];exact kE
theorem XK:(B7 lA).any (λp=>DX p.2)=false:=by kernel_rfl
theorem kG:QJ lA=0:=by
 unfold QJ HZ;rw[AE (by rw[P7];exact λh=>h rfl),XK];rfl
theorem kH:QK lA=[(tA,13),(tB,3)]:=by
 unfold QK Ir;rw[AE (by rw[P7];exact λh=>h rfl),XK,TG];rfl
def Qw:List UInt8:=[49,51]
def t3:List UInt8:=[51]
def Fl:List UInt8:=[49,51,47,49,54]
def Fp:List UInt8:=[51,47,49,54]
def Ju (m:Int):AG:=⟨Ea,m,[⟨tA,Fl⟩,⟨tB,Fp⟩]⟩
theorem rm:CX (tA,13)=EN (tA,Qw):=by unfold CX EN;rw[show BI 13=Qw by kernel_rfl]
theorem rn:CX (tB,3)=EN (tB,t3):=by unfold CX EN;rw[show BI 3=t3 by kernel_rfl]
theorem ky:AK C0 36 [cA] (.tup [.sl false 2 [EN (tA,Qw),EN (tB,t3)],i64 0]):=by
 have h:=sK false lA (by decide) Pr;rw[kG,kH,Cb,Cb,List.map_nil,rm,rn]at h;exact h
theorem Qa:lA.map (Da Ea)=lA:=rfl
theorem q8:Gd lA=0:=by kernel_rfl
theorem rq:[((tA,13):List UInt8×Rat),(tB,3)].any (λp=>DX (p.2/(Av lA:Rat)))=false:=by kernel_rfl
theorem rr:(B7 lA).length=2:=by kernel_rfl
theorem Y7:GB lA=0:=by
 unfold GB;rw[AE (by rw[q8];exact λh=>h rfl),AE (by rw[rr];decide),TG,rq];rfl
theorem Sx:EO lA=[⟨tA,Fl⟩,⟨tB,Fp⟩]:=by
 unfold EO;rw[TG];kernel_rfl
theorem QG:Av lA=16:=by kernel_rfl
theorem qC:Jv lA=Ju 16:=by rw[Wo Y7,Sx,QG];rfl
theorem XL:GZ lA Ea=0:=by kernel_rfl
theorem XM:Hc lA Ea=0:=by unfold Hc;rw[XL,Qa,Y7];rfl
theorem kI:Kk lA Ea=Ju 16:=by unfold Kk;rw[XL,Qa,qC];rfl
theorem lG:AK C0 11 [cA,str (sb Ea)] (.tup [(Ju 16).D,i64 0]):=by
 have h:=Zy false lA Ea (by decide) Pr (by decide);rw[XM,kI]at h;exact h
theorem q7:FL lA 15=⟨Ea,1,[⟨tA,Fl⟩,⟨tB,Fp⟩]⟩:=by
 unfold FL;rw[QG,show(CC lA 0).grain=Ea from rfl,Qa,Sx];rfl
theorem Y6:GY (FL lA 15)=[(tA,mkRat 13 16),(tB,mkRat 3 16)]:=by rw[q7];kernel_rfl
theorem Y5:[((tA,mkRat 13 16):List UInt8×Rat),(tB,mkRat 3 16)].any (λp=>DX p.2)=false:=by kernel_rfl
theorem q6:HZ (B7 [FL lA 15])=0:=by
 unfold HZ;rw[(R0 lA 15).1,Y6,Y5];rfl
theorem qE:CJ lA=true:=by kernel_rfl
theorem Sy:IP lA 15=0:=by
 unfold IP;rw[P7,AE (λh=>h rfl),AE (by decide),QG,AE (by decide),qE,AE (λh=>by cases h),show(CC lA 0).grain=Ea from rfl,XM,AE (λh=>h rfl),AE (by decide),q6]
theorem qG:QX lA 15=Ju 15:=by
 unfold QX;rw[Sy,AE (λh=>h rfl),show(CC lA 0).grain=Ea from rfl,Qa,Sx];rfl
theorem qF:QW lA 15=[(tA,mkRat 13 16),(tB,mkRat 3 16)]:=by
 unfold QW Ir;rw[Sy,AE (λh=>h rfl),QG,AE (by decide),(R0 lA 15).2,(R0 lA 15).1,Y6,Y5];rfl
theorem ro:CX (tA,mkRat 13 16)=EN (tA,Fl):=by unfold CX EN;rw[show BI (tA,mkRat 13 16).2=Fl by kernel_rfl]
theorem rp:CX (tB,mkRat 3 16)=EN (tB,Fp):=by unfold CX EN;rw[show BI (tB,mkRat 3 16).2=Fp by kernel_rfl]
theorem gG:AK C0 12 [cA,i64 15] (.tup [(Ju 15).D,.sl false 2 [EN (tA,Fl),EN (tB,Fp)],i64 0]):=by
 have h:=kP false lA 15 (by decide) Pr;rw[Sy,qG,qF,Cb,Cb,List.map_nil,ro,rp]at h;exact h
theorem lE:AK C0 37 [cA] (i64 0):=by
 have h:=MC false lA (by decide) λx hx=>(Pr x hx).1
 rw[P7]at h;exact h
theorem lF:AK C0 37 [cB] (i64 0):=by
 have h:=MC false lB (by decide) λx hx=>(pv x hx).1
 rw[qD]at h;exact h
theorem lC:AK C0 56 [str (sb tB)] (Aq true):=by
 have h:=Pa tB;rw[show DM tB=true by kernel_rfl]at h;exact h
theorem sJ (x:AG)(h:x.shs.length<=1000000)(m:Int):AK C0 63 [x.D,i64 m] (x.w m).D:=ZH x m h
theorem Sj {l:List AG}(h:l.all (λx=>decide (x.shs.length<=1000000))=true):∀x∈l,∀m,AK C0 63 [x.D,i64 m] (x.w m).D:=λx hx m=>sJ x (Cs (CI.1 h x hx)) m
theorem R1 {l:List AG}(h:l.all (λx=>decide (0<=x.mass)&&decide (x.mass<=1000000000))=true):∀x∈l,0<=x.mass/\x.mass<=1000000000:=λx hx=>by
 have:=CI.1 h x hx
 simpa using this
theorem u9:AK C0 84 [Ax false [Cr 2]] (Ax false [Cr 2]):=B6 DE 400 40 (by kernel_rfl)
theorem ua:AK C0 84 [Ax false [CW 1]] (Ax false [CW 1]):=B6 DE 400 40 (by kernel_rfl)
theorem ub:AK C0 84 [Ax false [CW 9,Cr 4]] (Ax false [CW 9,Cr 4]):=B6 DE 400 40 (by kernel_rfl)
theorem ZZ:AK C0 59 [cA] (i64 16):=B6 DE 400 40 (by kernel_rfl)
theorem j7:AK C0 91 [cA,i64 2,Aq true] (Ax false [Cr 2]):=XA false true lA 2 (by decide) (by decide) (R1 rfl) (Sj rfl) _ u9
theorem j8:AK C0 91 [cA,i64 1,Aq false] (Ax false [CW 1]):=XA false false lA 1 (by decide) (by decide) (R1 rfl) (Sj rfl) _ ua
theorem kq:AK C0 92 [cA,i64 1,i64 2] (Ax false [CW 9,Cr 4]):=bw false lA 1 2 (by decide) (by decide) (by decide) 16 (by decide) (R1 rfl) ZZ (Sj rfl) _ ub
theorem rU:AK C0 142 [cA,str (sb tB)] (.sl false 2 [FG (11,16)]):=by
 have h:=bT false lA tB (by decide) λx hx=>by
  simp only[lA,BA,DF,or_false]at hx;rcases hx with rfl|rfl<;>exact⟨by decide,by decide,by decide⟩
 rw[show KE tB lA 0=[(11,16)] by kernel_rfl]at h;exact h
theorem kt:AK C0 88 [.sl true 1 [Ax false [Cr 2],Ax false [CW 1]]] (Ax false [Cr 2,CW 1]):=eB [[Cr 2],[CW 1]] (by simp) (by decide) (by decide)
def Nw:List (Nat×List D×D):=[(37,[cA],i64 0),(37,[cB],i64 0),(56,[str (sb tB)],Aq true),
 (91,[cA,i64 2,Aq true],Ax false [Cr 2]),(91,[cA,i64 1,Aq false],Ax false [CW 1]),(92,[cA,i64 1,i64 2],Ax false [CW 9,Cr 4]),
 (142,[cA,str (sb tB)],.sl false 2 [FG (11,16)]),(88,[.sl true 1 [Ax false [Cr 2],Ax false [CW 1]]],Ax false [Cr 2,CW 1])]
instance s6:AA cA:=by unfold cA;exact AH
instance s7:AA cB:=by unfold cB;exact AH
instance q_cA:Ag cA:=by unfold cA;exact AH
instance q_cB:Ag cB:=by unfold cB;exact AH
theorem W9:∀e∈Nw,AK C0 e.1 e.2.1 e.2.2/\Ac e.2.1:=by
 intro e he;simp only[Nw,BA,DF,or_false]at he;rcases he with rfl|rfl|rfl|rfl|rfl|rfl|rfl|rfl
 ·exact⟨lE,AH⟩
 ·exact⟨lF,AH⟩
 ·exact⟨lC,AH⟩
 ·exact⟨j7,AH⟩
 ·exact⟨j8,AH⟩
 ·exact⟨kq,AH⟩
 ·exact⟨rU,AH⟩
 ·exact⟨kt,AH⟩
noncomputable def X5:EV:=⟨OP,LF.get,Ma.get,λ_=>false,L2 Nw,Qr,Jx⟩
theorem Dz:Ep C0 X5:=⟨TR,QZ,JE,Rl Nw W9,by kernel_rfl,ZA,PV⟩
def ap:D:=.agg [str (sb Lb),i64 4,i64 30,i64 12,.sl false 1 [Ax false [CW 9,Cr 4],Ax false [CW 5]]]
theorem ku:AK C0 48 [DK,i64 0,i64 3] (.tup [ap,Ax false [Cr 2,CW 1],i64 0]):=B6 Dz 400 40 (by kernel_rfl)
abbrev S5 (ls:List Int)(i:Int):D:=.clo (.func 131) [] [.pptr (.sl false 1 (CD ls)),.pptr (i64 i),.pptr DK]
abbrev qT (ls:List Int)(i:Int):D:=.clo (.func 78) [] [.pptr DK,.pptr (.sl false 1 (CD ls)),.pptr (i64 i)]
theorem gm:AK C0 77 [.sl false 1 (CD [16,5]),i64 ((0:Nat):Int),S5 [16,5] ((0:Nat):Int)] (.sl false 1 [i64 23]):=B6 Dz 400 40 (by kernel_rfl)
theorem gp:AK C0 77 [.sl false 1 (CD [16,5]),i64 ((1:Nat):Int),S5 [16,5] ((1:Nat):Int)] (.sl false 1 [i64 1]):=B6 Dz 400 40 (by kernel_rfl)
theorem gt:AK C0 77 [.sl false 1 (CD [0,5]),i64 ((1:Nat):Int),S5 [0,5] ((1:Nat):Int)] (.sl false 1 [i64 17]):=B6 Dz 400 40 (by kernel_rfl)
theorem gx:AK C0 77 [.sl false 1 (CD [16,5]),i64 ((1:Nat):Int),qT [16,5] ((1:Nat):Int)] (.sl false 1 [i64 23]):=B6 Dz 400 40 (by kernel_rfl)
theorem uV:AK C0 76 [i64 16,.sl false 1 [i64 23]] (i64 16):=B6 Dz 400 40 (by kernel_rfl)
theorem uW:AK C0 76 [i64 5,.sl false 1 [i64 1]] (i64 1):=B6 Dz 400 40 (by kernel_rfl)
theorem uX:AK C0 76 [i64 5,.sl false 1 [i64 17]] (i64 5):=B6 Dz 400 40 (by kernel_rfl)
theorem uZ:AK C0 76 [i64 25,.sl false 1 [i64 23]] (i64 23):=B6 Dz 400 40 (by kernel_rfl)
instance d4J:AA DK:=by unfold DK;exact AH
instance d4M:Ag DK:=by unfold DK;exact AH
theorem u5:AK C0 74 [DK,.sl false 1 (CD [16,5]),i64 ((0:Nat):Int)] (i64 16):=Se DK ⟨_,_,_,_,_,rfl⟩ false _ 0 16 rfl _ 16 gm uV
theorem u6:AK C0 74 [DK,.sl false 1 (CD [16,5]),i64 ((1:Nat):Int)] (i64 1):=Se DK ⟨_,_,_,_,_,rfl⟩ false _ 1 5 rfl _ 1 gp uW
theorem u7:AK C0 74 [DK,.sl false 1 (CD [0,5]),i64 ((1:Nat):Int)] (i64 5):=Se DK ⟨_,_,_,_,_,rfl⟩ false _ 1 5 rfl _ 5 gt uX
theorem rT:AK C0 75 [DK] (.sl false 1 (CD [16,5])):=B6 Dz 400 40 (by kernel_rfl)
theorem kr:AK C0 73 [DK,.sl true 1 [i64 1]] (i64 0):=B6 Dz 400 40 (by kernel_rfl)
theorem rS:AK C0 32 [DK] (i64 0):=B6 Dz 400 40 (by kernel_rfl)
theorem jJ:AK C0 25 [DK,i64 1] (.tup [i64 23,i64 0]):=jt DK _ _ _ _ 30 rfl _ 1 5 rfl _ 23 kr rT gx 25 rfl uZ
def TS:List (Nat×List D×D):=(74,[DK,.sl false 1 (CD [16,5]),i64 1],i64 1)::Nw
theorem jx:∀e∈TS,AK C0 e.1 e.2.1 e.2.2/\Ac e.2.1:=by
 intro e he;rcases BA.1 he with rfl|he
 ·exact⟨u6,AH⟩
 ·exact W9 e he
noncomputable def az:EV:=⟨OP,LF.get,Ma.get,λ_=>false,L2 TS,Qr,Jx⟩
theorem rP:Ep C0 az:=⟨TR,QZ,JE,Rl TS jx,by kernel_rfl,ZA,PV⟩
theorem kz:AK C0 24 [DK,i64 1] (.tup [i64 1,i64 0]):=B6 rP 400 40 (by kernel_rfl)
theorem jI:AK C0 49 [DK,i64 0,str (sb tB)] (.tup [i64 2,i64 0]):=B6 Dz 400 40 (by kernel_rfl)
theorem kw:AK C0 50 [DK,i64 0,str (sb tB)] (.tup [i64 8,i64 0]):=B6 Dz 400 40 (by kernel_rfl)
def ar (l:List Int):Int:=if l=[16,5]then 16 else 5
theorem jH:AK C0 51 [DK] (.tup [.sl false 2 [JJ (0,16),JJ (1,5)],i64 0]):=by
 have h:=ji (str (sb Lb)) (i64 4) (i64 30) (i64 12) false [cA,cB] [16,5] rfl (by simp) (by decide) (λi c m h1 h2=>by
  match i with
  | 0=>cases h1;cases h2;exact ZZ
  | 1=>cases h1;cases h2;exact B6 Dz 400 40 (by kernel_rfl)
  |i+2=>cases h1) (λc hc=>by
  simp only[BA,DF,or_false]at hc;rcases hc with rfl|rfl
  ·exact⟨_,_,rfl,s6⟩
  ·exact⟨_,_,rfl,s7⟩) rS ar (λl=>l=[16,5]\/l=[0,5]\/l=[0,0]) (.inl rfl) (λl hl hn=>by
  rcases hl with rfl|rfl|rfl
  ·exact⟨u5,rfl,.inr (.inl rfl)⟩
  ·exact⟨u7,rfl,.inr (.inr rfl)⟩
  ·exact Ae rfl hn)
 rw[show J9 ar 257 [16,5] []=([(0,16),(1,5)],0) by kernel_rfl]at h;exact h
abbrev Wj:Dr:=[(16,[0,1,2,3,4,5,6,7,8,9,10,11,12,13,14,15,16,17,18],[19,20,21])]
open Go.Proofs Go.RowKit Go.Sort
set_option maxRecDepth 20000
set_option maxHeartbeats 8000000
def tu:D:=.sl true 2 [.agg [str (sb tA),str (sb Fl)],.agg [str (sb tB),str (sb Fp)]]
theorem sX (m:Int):AK C0 52 [.sl false 2 [.agg [str (sb tA),str (sb Fl)],.agg [str (sb tB),str (sb Fp)]],tu] (Aq true):=B6 Dz 400 40 (by kernel_rfl)
theorem pu:AK C0 22 [.sl false 2 [EN (tA,Fl),EN (tB,Fp)],.sl true 2 [EN (tA,Fl),EN (tB,Fp)]] (Aq true):=B6 Dz 400 40 (by kernel_rfl)
theorem tX:AK C0 53 [i64 2,Aq true] (Ek (Cr 2)):=B6 Dz 400 40 (by kernel_rfl)
theorem tY:AK C0 53 [i64 1,Aq false] (Ek (CW 1)):=B6 Dz 400 40 (by kernel_rfl)
theorem sT:AK C0 53 [i64 9,Aq false] (Ek (CW 9)):=B6 Dz 400 40 (by kernel_rfl)
theorem sU:AK C0 53 [i64 4,Aq true] (Ek (Cr 4)):=B6 Dz 400 40 (by kernel_rfl)
theorem sV:AK C0 17 [Ax false [Cr 2,CW 1],.sl true 3 [Ek (Cr 2),Ek (CW 1)]] (Aq true):=B6 Dz 400 40 (by kernel_rfl)
theorem sW:AK C0 17 [Ax false [CW 9,Cr 4],.sl true 3 [Ek (CW 9),Ek (Cr 4)]] (Aq true):=B6 Dz 400 40 (by kernel_rfl)
theorem l7:AK C0 10 [] (Aq true):=by
 refine Ai.walk w1 Ze rfl λF=>?_
 have cE:=tM;have cL:=ky;have cP:AK C0 11 [cA,.prim (.string ⟨#[119,104,101,97,116]⟩)] (.tup [(Ju 16).D,i64 0]):=lG;have cD:=ku;have cM:=kz;have cS:=jJ;have cF:AK C0 49 [DK,i64 0,.prim (.string ⟨#[98]⟩)] (.tup [i64 2,i64 0]):=jI;have cLa:AK C0 50 [DK,i64 0,.prim (.string ⟨#[98]⟩)] (.tup [i64 8,i64 0]):=kw;have cEm:=jH;have cSh:=gG;have pA:AA cA:=AH;have pB:AA cB:=AH;have pX:AA DK:=AH;unfold DK at cE cD cM cS cF cLa cEm pX;have hA:∃T,cA=.sl false 3 T:=⟨_,rfl⟩
 have hB:∃T,cB=.sl false 3 T:=⟨_,rfl⟩
 obtain⟨TA,hA⟩:=hA;obtain⟨TB,hB⟩:=hB;rw[hA,hB]at cE cD cM cS cF cLa cEm pX;rw[hA]at cL cP cSh pA;rw[hB]at pB;have hm:([.sl false 3 TA,.sl false 3 TB]:List D)[0]?=some (.sl false 3 TA):=rfl;have dP:(Ju 16).D=.agg [str (sb Ea),i64 16,.sl false 2 [.agg [str (sb tA),str (sb Fl)],.agg [str (sb tB),str (sb Fp)]]]:=rfl;have dP2:(Ju 15).D=.agg [str (sb Ea),i64 15,.sl false 2 [.agg [str (sb tA),str (sb Fl)],.agg [str (sb tB),str (sb Fp)]]]:=rfl;rw[dP]at cP;rw[dP2]at cSh;unfold ap at cD;refine AR Wj kB cE hm cL cP cD cM ?_;refine cI cS ?_;refine sR 700 ?_;refine cI cF ?_;refine sR 800 ?_;refine cI cLa ?_;refine sR 900 ?_;refine cI cEm ?_;refine sR 1000 ?_;refine Bi kT hm ?_;refine AD kB ?_;refine cI cSh ?_;have z0:IntKind.i64.wrap (0+0)=0:=rfl;have n0:((0:Int) != 0)=false:=rfl;have n1:((1:Int) != 1)=false:=rfl;have n23:((23:Int) != 23)=false:=rfl;have n2:((2:Int) != 2)=false:=rfl;have n2':(((2:Nat):Int) != 2)=false:=rfl;have s0:([.agg [i64 0,i64 16],.agg [i64 1,i64 5]]:List D)[0]?=some (.agg [i64 0,i64 16]):=rfl;have s1:([.agg [i64 0,i64 16],.agg [i64 1,i64 5]]:List D)[1]?=some (.agg [i64 1,i64 5]):=rfl;have n8:((8:Int) != 8)=false:=rfl;obtain⟨C1,hC1⟩:∃d,Ax false [CW 9,Cr 4]=d:=⟨_,rfl⟩
 obtain⟨O1,hO1⟩:∃d,Ax false [Cr 2,CW 1]=d:=⟨_,rfl⟩
 rw[hC1,hO1];refine AC.weak ⟨[(2,.sl false 2 [.agg [str (sb tA),str (sb Qw)],.agg [str (sb tB),str (sb t3)]]),(3,i64 0),(4,.optr 308 22 3 0 0),(5,i64 0),(6,.optr 406 31 5 0 0),(7,O1),(8,i64 0),(9,i64 1),(10,i64 0),(11,i64 23),(12,i64 0),(13,i64 2),(14,i64 0),(15,i64 8),(16,i64 0),(17,.sl false 2 [.agg [i64 0,i64 16],.agg [i64 1,i64 5]]),(18,i64 0),(19,.optr 1009 79 3 0 0),(20,.sl false 2 [.agg [str (sb tA),str (sb Fl)],.agg [str (sb tB),str (sb Fp)]]),(21,i64 0)],
  [⟨1009,79,27,3,[.agg [str (sb Ea),i64 15,.sl false 2 [.agg [str (sb tA),str (sb Fl)],.agg [str (sb tB),str (sb Fp)]]]]⟩,⟨406,31,48,5,[.agg [str (sb Lb),i64 4,i64 30,i64 12,.sl false 1 [C1,Ax false [CW 5]]]]⟩,⟨308,22,27,3,[.agg [str (sb Ea),i64 16,.sl false 2 [.agg [str (sb tA),str (sb Fl)],.agg [str (sb tB),str (sb Fp)]]]]⟩],_⟩ AL ?_
 refine AC.seq ?_;refine AC.seq ?_;refine tk w1 1100 [([0,1,2,3,4,5,6,7,8,9,10,11,12,13,14,15,16,17,18,19,20,21,22,23,24,25,26,27,28,29,30,31,32,33,34,35,36,37,38,39,40,41,42,43],44),([45,46,47,48,49,50],51)] [52] rfl (by kernel_rfl) ?_;change Ci _ _ _ _ _ _ _ _;refine AD (Ce z0 n0 n1 n23 n2 n2' (Ar n8 kT kF)) ?_;refine AD (Ce z0 n0 n1 n23 n2 n2' (Ar n8 kT kF)) ?_;refine AD (Ce z0 n0 n1 n23 n2 n2' (Ar n8 kT kF)) ?_;refine AD (Ce z0 n0 n1 n23 n2 n2' (Ar n8 kT kF)) ?_;refine AD (Ce z0 n0 n1 n23 n2 n2' (Ar n8 kT kF)) ?_;refine AD (Ar n2' kT kF) ?_;refine Bi kF s0 ?_;refine AD (Ar n2' kT kF) ?_;refine AD (Ar n2' kT kF) ?_;refine⟨Aq false,λos K' hk=>aX (a1:=0) (a2:=16) (b1:=0) (b2:=16) rfl rfl W8 rfl rfl hk,?_⟩;change Ci _ _ _ _ _ ⟨(124,Aq false)::_,_,_⟩ _ _;refine Ap ?_;refine AD (Ar n2' kT kF) ?_;refine AD (Ar n2' kT kF) ?_;refine Bi kF s1 ?_;refine AD (Ar n2' kT kF) ?_;refine AD (Ar n2' kT kF) ?_;refine⟨Aq false,λos K' hk=>aX (a1:=1) (a2:=5) (b1:=1) (b2:=5) rfl rfl W8 rfl rfl hk,?_⟩;change Ci _ _ _ _ _ ⟨(131,Aq false)::_,_,_⟩ _ _;refine Ap ?_;refine AD (Ar n2' kT kF) ?_;refine AI ?_;refine Aj ?_;refine AC.weak ⟨[(2,.sl false 2 [.agg [.prim (.string ⟨#[97]⟩),.prim (.string ⟨#[49,51]⟩)],.agg [.prim (.string ⟨#[98]⟩),.prim (.string ⟨#[51]⟩)]]),(4,.optr 308 22 3 0 0),(6,.optr 406 31 5 0 0),(7,O1),(19,.optr 1009 79 3 0 0),(20,.sl false 2 [.agg [.prim (.string ⟨#[97]⟩),.prim (.string ⟨#[49,51,47,49,54]⟩)],.agg [.prim (.string ⟨#[98]⟩),.prim (.string ⟨#[51,47,49,54]⟩)]])],
  [⟨1009,79,27,3,[.agg [str (sb Ea),i64 15,.sl false 2 [.agg [.prim (.string ⟨#[97]⟩),.prim (.string ⟨#[49,51,47,49,54]⟩)],.agg [.prim (.string ⟨#[98]⟩),.prim (.string ⟨#[51,47,49,54]⟩)]]]]⟩,⟨406,31,48,5,[.agg [str (sb Lb),i64 4,i64 30,i64 12,.sl false 1 [C1,Ax false [CW 5]]]]⟩,⟨308,22,27,3,[.agg [str (sb Ea),i64 16,.sl false 2 [.agg [.prim (.string ⟨#[97]⟩),.prim (.string ⟨#[49,51,47,49,54]⟩)],.agg [.prim (.string ⟨#[98]⟩),.prim (.string ⟨#[51,47,49,54]⟩)]]]]⟩],_⟩ AL ?_
 have h1:AK C0 52 [.sl false 2 [.agg [.prim (.string ⟨#[97]⟩),.prim (.string ⟨#[49,51,47,49,54]⟩)],.agg [.prim (.string ⟨#[98]⟩),.prim (.string ⟨#[51,47,49,54]⟩)]],.sl true 2 [.agg [.prim (.string ⟨#[97]⟩),.prim (.string ⟨#[49,51,47,49,54]⟩)],.agg [.prim (.string ⟨#[98]⟩),.prim (.string ⟨#[51,47,49,54]⟩)]]] (Aq true):=sX 0;have h2:AK C0 22 [.sl false 2 [.agg [.prim (.string ⟨#[97]⟩),.prim (.string ⟨#[49,51,47,49,54]⟩)],.agg [.prim (.string ⟨#[98]⟩),.prim (.string ⟨#[51,47,49,54]⟩)]],.sl true 2 [.agg [.prim (.string ⟨#[97]⟩),.prim (.string ⟨#[49,51,47,49,54]⟩)],.agg [.prim (.string ⟨#[98]⟩),.prim (.string ⟨#[51,47,49,54]⟩)]]] (Aq true):=pu;have e1:BM ⟨#[97]⟩ ⟨#[97]⟩=true:=Od _;have e2:BM ⟨#[49,51]⟩ ⟨#[49,51]⟩=true:=Od _;have e3:BM ⟨#[98]⟩ ⟨#[98]⟩=true:=Od _;have e4:BM ⟨#[51]⟩ ⟨#[51]⟩=true:=Od _;have x0:([.agg [.prim (.string ⟨#[97]⟩),.prim (.string ⟨#[49,51]⟩)],.agg [.prim (.string ⟨#[98]⟩),.prim (.string ⟨#[51]⟩)]]:List D)[0]?=some (.agg [.prim (.string ⟨#[97]⟩),.prim (.string ⟨#[49,51]⟩)]):=rfl;have x1:([.agg [.prim (.string ⟨#[97]⟩),.prim (.string ⟨#[49,51]⟩)],.agg [.prim (.string ⟨#[98]⟩),.prim (.string ⟨#[51]⟩)]]:List D)[1]?=some (.agg [.prim (.string ⟨#[98]⟩),.prim (.string ⟨#[51]⟩)]):=rfl;have b1:(!(true&&(true&&true)))=false:=rfl;have n16:((16:Int) != 16)=false:=rfl;have n15:((15:Int) != 15)=false:=rfl;have k1:=tX;have k2:=tY;have k3:=sT;have k4:=sU;have k5:=sV;have k6:=sW;have pA1:Ac [Ax false [Cr 2,CW 1],.sl true 3 [Ek (Cr 2),Ek (CW 1)]]:=⟨λd hd=>by
  simp only[BA,DF,or_false]at hd;rcases hd with rfl|rfl
  ·exact(AH:AA (Ax false [Cr 2,CW 1])).out
  ·exact GU (n:=30) (by kernel_rfl)⟩
 have pA2:Ac [Ax false [CW 9,Cr 4],.sl true 3 [Ek (CW 9),Ek (Cr 4)]]:=⟨λd hd=>by
  simp only[BA,DF,or_false]at hd;rcases hd with rfl|rfl
  ·exact(AH:AA (Ax false [CW 9,Cr 4])).out
  ·exact GU (n:=30) (by kernel_rfl)⟩
 rw[hO1]at k5 pA1;rw[hC1]at k6 pA2;obtain⟨u1,u2,u3,hu⟩:∃a b c,Ek (Cr 2)=.agg [a,b,c]:=⟨_,_,_,rfl⟩
 obtain⟨v1,v2,v3,hv⟩:∃a b c,Ek (CW 1)=.agg [a,b,c]:=⟨_,_,_,rfl⟩
 obtain⟨y1,y2,y3,hy⟩:∃a b c,Ek (CW 9)=.agg [a,b,c]:=⟨_,_,_,rfl⟩
 obtain⟨z1,z2,z3,hz⟩:∃a b c,Ek (Cr 4)=.agg [a,b,c]:=⟨_,_,_,rfl⟩
 rw[hu]at k1;rw[hv]at k2;rw[hy]at k3;rw[hz]at k4;rw[hu,hv]at k5 pA1;rw[hy,hz]at k6 pA2;obtain⟨C2,hC2⟩:∃d,Ax false [CW 5]=d:=⟨_,rfl⟩
 obtain⟨C1L,hC1L⟩:∃T,C1=.sl false 3 T:=⟨_,hC1.symm⟩
 rw[hC2,hC1L];rw[hC1L]at k6 pA2;have q0:([.sl false 3 C1L,C2]:List D)[0]?=some (.sl false 3 C1L):=rfl;have n2e:(((2:Nat):Int)==2)=true:=rfl;refine AR Wj (Ce b1 n2' n16 n15 e1 e2 (Ba e3 e4 kT kF)) x0 x1 h1 h2 AB AB ?_;refine BQ.same _ (k1) AH ?_;refine BJ ?_;refine AD (Ar n2e kT kF) ?_;refine BQ.same _ (k2) AH ?_;refine BJ ?_;refine AD (Ar n2e kT kF) ?_;refine BQ.same _ k5 pA1 ?_;refine Ap ?_;refine AD (Ar n2e kT kF) ?_;refine AD (Ar n2e kT kF) ?_;refine AD (Ar n2e kT kF) ?_;refine Bi kT q0 ?_;refine AD (Ar n2e kT kF) ?_;refine AD (Ar n2e kT kF) ?_;refine Me kT ?_;refine BQ.same _ (k3) AH ?_;refine BJ ?_;refine Me kT ?_;refine BQ.same _ (k4) AH ?_;refine BJ ?_;refine AD (Ar n2e kT kF) ?_;refine AD (Ar n2e kT kF) ?_;refine AD (Ar n2e kT kF) ?_;refine Me kT ?_;refine A7.same _ k6 pA2 ?_;refine Ap ?_;refine AD (Ar n2e kT kF) ?_;refine AD (Ar n2e kT kF) ?_;refine Ab ?_;exact AN rfl AA.out
end Go.Ide
