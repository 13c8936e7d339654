/- The layer of own lemmas and contracts, part 12. -/
import Derived.Test.YtegpdgcahcikoaaGreatDoorY11
import Derived.Test.YtegpdgcahcikoaaGreatDoorY9
import Derived.Test.YtegpdgcahcikoaaGreatDoorY4
import Derived.Shelf.Spec.SlicesGrow
import Derived.Shelf.Lay
import Derived.Ground.Names8Prog
import Derived.Test.YtegpdgcahcikoaaGreatDoorY7
import Derived.Laws.StructEq
import Derived.Test.YtegpdgcahcikoaaGreatDoorY10
set_option linter.unusedVariables false
set_option linter.unusedSimpArgs false
namespace Go.Ide
abbrev Qd:Dr:=[(4,[0,1,2,3,4,5,6,7,8],[9])]
open Go.Proofs Go.RowKit Go.Sort
set_option maxRecDepth 20000
set_option maxHeartbeats 4000000
def AE.modr (x:AE):Prop:=(x.shs.length<=15\/64<x.shs.length)/\x.lite
theorem kX (l:List UInt8):BJ (sb l) (sb l)=true:=by rw[Ev];exact AX rfl
def Cy (l:List AE):Int:=l.foldl (λa x=>IntKind.i64.wrap (a+x.mass)) 0
theorem TO {l:List AE}{i:Nat}{x:AE}(h:l[i]?=some x):Cy (l.take (i+1))=IntKind.i64.wrap (Cy (l.take i)+x.mass):=by
 unfold Cy;rw[Di,h];simp
theorem JS {l:List AE}(hs:IF l):Cy l=Al l:=by
 obtain⟨hl,hm⟩:=hs
 have:∀i,i<=l.length->Cy (l.take i)=Al (l.take i):=λi=>by
  induction i with
  |zero=>exact λ_=>rfl
  |succ i ih=>
   intro hi;obtain⟨x,hx⟩:=CP (show i<l.length by omega);have hb:=UA (l:=l.take i) λy hy=>hm y (El hy)
   have hxm:=hm x (Av hx);rw[Ba,E8 (by omega)]at hb;rw[TO hx,ih (by omega),TK hx,wI (by omega) (by omega)]
 have:=this l.length (Af _)
 rwa [DO]at this
theorem ue (b:Bool)(l:List AE)(hl:l.length<=9223372036854775807):AI C0 19 [Am b l] (i64 (Cy l)):=by
 refine Ag.walk w1 wz rfl λF=>?_
 have el:(((l.map AE.D).length:Nat):Int)=(l.length:Int):=by rw[Ak]
 refine AH AZ el AB AB AB AB AB AB ?_;refine AC.loop (α:=Nat×Nat) (λp=>⟨[(0,Am b l),(3,i64 (Cy (l.take p.1))),(4,i64 (p.1:Int))],[],p.2⟩) (λp=>l.length-p.1) (λp=>p.1<=l.length) (0,_) (BS _) AK ?_;rintro⟨i,m⟩ F hi;dsimp only at hi⊢;rcases BG i l.length with h2|h2
 rotate_left
 ·have e1:=CZ h2
  have:i=l.length:=by omega
  subst this;rw[DO];refine AH AZ (Aj e1 el) AB AB AB AB AB AB ?_;exact AL rfl AA.out
 have e1:=Ca h2;have wi:=Cc (i:=i) (by omega);obtain⟨x,hx⟩:=CP h2;have hm:(l.map AE.D)[i]?=some (.agg [str (sb x.grain),i64 x.mass,.sl false 2 (x.shs.map Ay.D)]):=by rw[A7,hx];rfl
 have ws:=(TO hx).symm;refine AH AZ (CF e1 el wi ws kN) hm AB AB AB AB AB ?_;exact⟨(i+1,_),h2,by dsimp only;omega,AK⟩
theorem VL (b:Bool)(l:List AE)(hs:IF l):AI C0 19 [Am b l] (i64 (Al l)):=by
 have h:=ue b l (by have:=hs.1;omega)
 rwa [JS hs]at h
theorem pj (b:Bool)(l:List AE)(hl:l.length<=1000000):AI C0 50 [Am b l] (Aq (CJ l)):=by
 refine Ag.walk w1 xO rfl λF=>?_
 have el:(((l.map AE.D).length:Nat):Int)=(l.length:Int):=by rw[Ak]
 refine AH Qd el AB AB AB AB AB AB ?_;refine AC.loop (α:=Nat×Nat) (λp=>⟨[(0,Am b l),(3,i64 (p.1:Int))],[],p.2⟩) (λp=>l.length-p.1)
  (λp=>1<=p.1/\(p.1<=l.length\/p.1=1)/\∀x∈l.take p.1,BJ (sb x.grain) (sb (CG l 0).grain)=true) (1,_) ⟨Af _,.inr rfl,λx h=>by
   rcases l with _|⟨y,l⟩
   ·simp at h
   ·have:x=y:=by simpa using h
    rw[this];exact kX _⟩ AK ?_
 rintro⟨i,m⟩ F ⟨hi1,hi,hs⟩;dsimp only at hi1 hi hs⊢;rcases BG i l.length with h2|h2
 rotate_left
 ·have e1:=CZ h2
  have hg:CJ l=true:=by
   unfold CJ;rw[CN];intro x hx;rw[CA h2]at hs;exact hs x hx
  rw[hg];refine AH Qd (Aj e1 el) AB AB AB AB AB AB ?_;exact AL rfl AA.out
 have e1:=Ca h2;have wi:=Cc (i:=i) (by omega);obtain⟨x,hx⟩:=CP h2;have hm:(l.map AE.D)[i]?=some (.agg [str (sb x.grain),i64 x.mass,.sl false 2 (x.shs.map Ay.D)]):=by rw[A7,hx];rfl
 obtain⟨x0,hx0⟩:∃x,l[0]?=some x:=⟨_,BE (by omega)⟩
 have hm0:(l.map AE.D)[0]?=some (.agg [str (sb x0.grain),i64 x0.mass,.sl false 2 (x0.shs.map Ay.D)]):=by rw[A7,hx0];rfl
 have hv0:=FS hx0;obtain⟨bG,hbG⟩:∃q,BJ (sb x.grain) (sb x0.grain)=q:=⟨_,rfl⟩
 cases bG
 ·have hg:CJ l=false:=by
   unfold CJ;rw[List.all_eq_false];exact⟨x,Av hx,by rw[hv0,hbG];decide⟩
  rw[hg];refine AH Qd (BW e1 el hbG kN) hm hm0 AB AB AB AB ?_;exact AL rfl AA.out
 ·refine AH Qd (CF e1 el hbG wi kN) hm hm0 AB AB AB AB ?_
  exact⟨(i+1,_),⟨by dsimp only;omega,.inl h2,λy hy=>by
   dsimp only at hy;rw[Di,hx]at hy;rcases List.mem_append.1 hy with q|q
   ·exact hs y q
   ·have:y=x:=by simpa using q
    rw[this,hv0];exact hbG⟩,by dsimp only;omega,AK⟩
theorem fN (b:Bool)(l:List AE)(hl:l.length<=1000000)(hf:∀x∈l,x.modr):AI C0 18 [Am b l] (i64 (Br l:Nat)):=by
 refine Ag.walk w1 ww rfl λF=>?_
 have el:(((l.map AE.D).length:Nat):Int)=(l.length:Int):=by rw[Ak]
 have hC:Br l=if 64<l.length then 5 else if Dh (λi=>CW (CG l i)) l.length≠0 then Dh (λi=>CW (CG l i)) l.length else if Al l>999999999 then 4 else 0:=rfl
 by_cases h64:64<l.length
 ·rw[AG h64]at hC
  rw[hC];have q2:decide ((l.length:Int)>64)=true:=AX (by omega);refine AH AZ (Aj el q2) AB AB AB AB AB AB ?_;exact AL rfl AA.out
 rw[AF h64]at hC;have q2:decide ((l.length:Int)>64)=false:=Ac (by omega);refine AH AZ (Aj el q2) AB AB AB AB AB AB ?_;refine AC.loop (α:=Nat×Nat) (λp=>⟨[(0,Am b l),(3,i64 (p.1:Int))],[],p.2⟩) (λp=>l.length-p.1) (λp=>p.1<=l.length/\∀j,j<p.1->CW (CG l j)=0) (0,_) ⟨BS _,λj h=>Ae h (HN j)⟩ AK ?_;rintro⟨i,m⟩ F ⟨hi,hz⟩;dsimp only at hi hz⊢;rcases BG i l.length with h2|h2
 rotate_left
 ·have e1:=CZ h2
  have:i=l.length:=by omega
  subst this;rw[AF (λh=>h (LC (f:=λi=>CW (CG l i)) hz))]at hC;have cT:=VL b l (S1 h64 hz)
  by_cases h9:Al l>999999999
  ·have e9:decide (Al l>999999999)=true:=AX h9
   rw[AG h9]at hC;rw[hC];refine AH AZ (As e1 el e9) cT AB AB AB AB AB ?_;exact AL rfl AA.out
  ·have e9:decide (Al l>999999999)=false:=Ac h9
   rw[AF h9]at hC;rw[hC];refine AH AZ (As e1 el e9) cT AB AB AB AB AB ?_;exact AL rfl AA.out
 have e1:=Ca h2;have wi:=Cc (i:=i) (by omega);obtain⟨x,hx⟩:=CP h2;have hm:(l.map AE.D)[i]?=some (.agg [str (sb x.grain),i64 x.mass,.sl false 2 (x.shs.map Ay.D)]):=by rw[A7,hx];rfl
 have hxm:=hf x (Av hx);have cL:=yA x hxm.1 hxm.2.1;unfold AE.D at cL;rcases Nat.decEq (CW x) 0 with hc0|hc0
 ·have e3:=GO hc0
  have:=OS (f:=λi=>CW (CG l i)) hz h2 (by rw[FS hx];exact hc0)
  rw[FS hx]at this;rw[this,AG hc0]at hC;rw[hC];refine AH AZ (BW e1 el e3 kN) hm cL AB AB AB AB ?_;exact AL rfl AA.out
 have e3:=GP hc0;refine AH AZ (CF e1 el e3 wi kN) hm cL AB AB AB AB ?_;exact⟨(i+1,_),⟨h2,λj hj=>by
  rcases Nat.lt_succ_iff_lt_or_eq.1 hj with q|q
  ·exact hz j q
  ·rw[q,FS hx];exact hc0⟩,by dsimp only;omega,AK⟩
open Go.Proofs Go.RowKit Go.Sort
set_option maxRecDepth 20000
set_option maxHeartbeats 4000000
def G9 (x:AE):By:=x.shs.map λs=>(s.lot,CO s.part*(x.mass:Rat))
theorem W8 {x:AE}(hn:(x.shs.map (·.lot)).Nodup):∀j,j<=x.shs.length->GH x j []=(G9 x).take j
 | 0,_=>rfl
 |j+1,hj=>by
  obtain⟨s,hs⟩:∃s,x.shs[j]?=some s:=⟨_,BE hj⟩
  rw[Nq x j [] hs,W8 hn j (by omega)];have hm:(G9 x)[j]?=some (s.lot,CO s.part*(x.mass:Rat)):=by unfold G9;rw[A7,hs];rfl
  have hnot:s.lot∉Cn ((G9 x).take j):=λh=>by
   obtain⟨z,hz,h2⟩:=List.mem_map.1 h;obtain⟨i,hi⟩:=List.mem_iff_getElem?.1 hz;have hij:i<j:=by
    have:=(List.getElem?_eq_some_iff.1 hi).1
    rw[Ba]at this;omega
   rw[Em,AG hij]at hi;unfold G9 at hi;rw[A7]at hi;obtain⟨t,ht,rfl⟩:=Option.map_eq_some_iff.1 hi;have e1:(x.shs.map (·.lot))[i]?=some t.lot:=by rw[A7,ht];rfl
   have e2:(x.shs.map (·.lot))[j]?=some s.lot:=by rw[A7,hs];rfl
   have a1:=List.getElem?_eq_some_iff.1 e1;have a2:=List.getElem?_eq_some_iff.1 e2
   have:i=j:=(List.getElem_inj (h₀:=a1.1) (h₁:=a2.1) hn).1 (by rw[a1.2,a2.2];exact h2)
   omega
  have hl:Fl s.lot ((G9 x).take j)=none:=by
   cases h9:Fl s.lot ((G9 x).take j)with
   |none=>rfl
   |some o=>
    obtain⟨A,B,h3,-⟩:=QF (v:=o) h9;exact Ae (by rw[h3];simp[Cn]) hnot
  unfold Js;rw[hl];dsimp only;rw[(TC (v:=CO s.part*(x.mass:Rat)) hl).2,Di,hm];rfl
theorem kE {x:AE}(hn:(x.shs.map (·.lot)).Nodup):CH [x]=G9 x:=by
 show GH x x.shs.length []=_;rw[W8 hn _ (Af _),CA];unfold G9;rw[Ak];exact Af _
theorem ol {q:By}(h:Gv q):FK q=q:=(Sh h.nd (.refl _) (KF _) h.weak (Qt _)).symm
theorem oC (l:List AE):(Ej l).Pairwise λa b=>ltStr a.lot b.lot=true:=by
 unfold Ej;rw[List.pairwise_map,<-YR];exact lh l
theorem Tr (l:List AE)(left:Int):CH [Fm l left]=G9 (Fm l left)/\FK (CH [Fm l left])=G9 (Fm l left):=by
 have hp:(Fm l left).shs.Pairwise λa b=>ltStr a.lot b.lot=true:=oC _
 have h1:=kE (x:=Fm l left) (by
  rw[List.Nodup,List.pairwise_map];exact hp.imp λ{a b} h e=>by rw[e,swo_ltStr.irrefl]at h;cases h)
 refine⟨h1,?_⟩;rw[h1];refine ol ?_;unfold G9;show List.Pairwise _ _;rw[List.pairwise_map];exact hp
theorem uU (b:Bool)(l:List AE)(hl:l.length<=9223372036854775807)(hs:∀x∈l,x.shs.length<=9223372036854775807):AI C0 27 [Am b l] (Aq (Gj l)):=by
 refine Ag.walk w1 xE rfl λF=>?_
 have el:(((l.map AE.D).length:Nat):Int)=(l.length:Int):=by rw[Ak]
 refine AH AZ el AB AB AB AB AB AB ?_;refine AC.loop (α:=Nat×Nat) (λp=>⟨[(0,Am b l),(7,Am b l),(8,i64 (l.length:Int)),(9,i64 (p.1:Int))],[],p.2⟩) (λp=>l.length-p.1) (λq=>q.1<=l.length/\(l.take q.1).all AE.shB=true) (0,_) ⟨BS _,rfl⟩ AK ?_;rintro⟨i,n⟩ F ⟨hi,ha⟩;dsimp only at hi ha⊢;rcases BG i l.length with h2|h2
 rotate_left
 ·have e1:=CZ h2
  have:i=l.length:=by omega
  subst this;rw[DO]at ha;obtain⟨q1,h1⟩:∃q,decide ((l.length:Int)<=8)=q:=⟨_,rfl⟩
  obtain⟨q2,h2'⟩:∃q,decide ((l.length:Int)>64)=q:=⟨_,rfl⟩
  obtain⟨q3,h3⟩:∃q,decide ((l.length:Int)<=80)=q:=⟨_,rfl⟩
  have hb:Gj l=(q1||(q2&&q3)):=by
   unfold Gj;rw[ha,<-h1,<-h2',<-h3,GY]
   congr 1
   ·exact C4.2 (by omega)
   ·congr 1
    ·exact C4.2 (by omega)
    ·exact C4.2 (by omega)
  rw[hb];cases q1<;>cases q2<;>cases q3
  all_goals
   refine AH AZ (CS e1 el h1 h2' h3 kT kF) AB AB AB AB AB AB ?_;exact AL rfl AA.out
 have e1:=Ca h2;have wi:=Cc (i:=i) (by omega);obtain⟨x,hx⟩:=CP h2;have hm:(l.map AE.D)[i]?=some (.agg [str (sb x.grain),i64 x.mass,.sl false 2 (x.shs.map Ay.D)]):=by rw[A7,hx];rfl
 have hsx:=hs x (Av hx);have ex:(((x.shs.map Ay.D).length:Nat):Int)=(x.shs.length:Int):=by rw[Ak]
 have hsz:=Ce x.grain;obtain⟨p1,h1⟩:∃q,decide ((x.grain.length:Int)>100)=q:=⟨_,rfl⟩
 obtain⟨p2,h2'⟩:∃q,decide ((x.shs.length:Int)>8)=q:=⟨_,rfl⟩
 obtain⟨p3,h3⟩:∃q,decide ((x.shs.length:Int)<=64)=q:=⟨_,rfl⟩
 obtain⟨p4,h4⟩:∃q,decide ((x.shs.length:Int)>80)=q:=⟨_,rfl⟩
 have hb:x.shB=(!p1&&(!p2 || !p3) && !p4&&x.shs.all Ay.shB):=by
  unfold AE.shB;rw[<-h1,<-h2',<-h3,<-h4]
  congr 1
  congr 1
  ·congr 1
   ·rw[<-decide_not];exact C4.2 (by omega)
   ·congr 1
    ·rw[<-decide_not];exact C4.2 (by omega)
    ·rw[<-decide_not];exact C4.2 (by omega)
  ·rw[<-decide_not];exact C4.2 (by omega)
 by_cases g:(!p1&&(!p2 || !p3) && !p4)=true
 rotate_left
 ·have hbf:x.shB=false:=by rw[hb];simp only[Bool.not_eq_true]at g;rw[g];rfl
  have hsf:Gj l=false:=by unfold Gj;rw[Tx hx hbf];rfl
  rw[hsf];cases p1<;>cases p2<;>cases p3<;>cases p4
  all_goals first
   |exact Ae rfl g
   |skip
  all_goals
   refine AH AZ (CS e1 hsz ex h1 h2' h3 (BW h4 kN kT kF)) hm AB AB AB AB AB ?_;exact AL rfl AA.out
 rw[g,GY]at hb;cases p1<;>cases p2<;>cases p3<;>cases p4
 all_goals first
  |exact Ae g (by decide)
  |skip
 all_goals
  refine AH AZ (CS e1 hsz ex h1 h2' h3 (BW h4 kN kT kF)) hm AB AB AB AB AB ?_;refine AC.loop (α:=Nat×Nat) (λp=>⟨[(0,Am b l),(7,Am b l),(8,i64 (l.length:Int)),(9,i64 (i:Int)),(36,.sl false 2 (x.shs.map Ay.D)),(37,i64 (x.shs.length:Int)),(38,i64 (p.1:Int))],[],p.2⟩) (λp=>x.shs.length-p.1) (λq=>q.1<=x.shs.length/\(x.shs.take q.1).all Ay.shB=true) (0,_) ⟨BS _,rfl⟩ AK ?_;clear h1 h2' h3 h4 g;rintro⟨j,n⟩ F ⟨hj,haj⟩;dsimp only at hj haj⊢;rcases BG j x.shs.length with g2|g2
  ·have e3:=Ca g2
   have wj:=Cc (i:=j) (by omega);obtain⟨y,hy⟩:=CP g2;have hmy:(x.shs.map Ay.D)[j]?=some (.agg [str (sb y.lot),str (sb y.part)]):=by rw[A7,hy];rfl
   have hs1:=Ce y.lot;have hs2:=Ce y.part;obtain⟨r1,k1⟩:∃q,decide ((y.lot.length:Int)>100)=q:=⟨_,rfl⟩
   obtain⟨r2,k2⟩:∃q,decide ((y.part.length:Int)>14)=q:=⟨_,rfl⟩
   have hby:y.shB=(!r1 && !r2):=by
    unfold Ay.shB;rw[<-k1,<-k2]
    congr 1
    ·rw[<-decide_not];exact C4.2 (by omega)
    ·rw[<-decide_not];exact C4.2 (by omega)
   have fin:y.shB=false->Gj l=false:=λh=>by
    have:x.shB=false:=by rw[hb,Tx hy h]
    unfold Gj;rw[Tx hx this];rfl
   cases r1
   ·cases r2
    ·refine AH AZ (CS e3 wj hs1 hs2 k1 k2 (As kN kT kF)) hmy AB AB AB AB AB ?_
     exact⟨(j+1,_),⟨g2,Xi hy haj hby⟩,by dsimp only;omega,AK⟩
    ·rw[fin hby]
     refine AH AZ (CS e3 wj hs1 hs2 k1 k2 (As kN kT kF)) hmy AB AB AB AB AB ?_;exact AL rfl AA.out
   ·rw[fin hby]
    refine AH AZ (CS e3 wj hs1 hs2 k1 kN (Aj kT kF)) hmy AB AB AB AB AB ?_;exact AL rfl AA.out
  ·have e3:=CZ g2
   have:j=x.shs.length:=by omega
   subst this;rw[DO]at haj;refine AH AZ (Aj e3 wi) AB AB AB AB AB AB ?_;exact⟨(i+1,_),⟨h2,Xi hx ha (hb.trans haj)⟩,by dsimp only;omega,AK⟩
theorem ob {l:List AE}(h:Gj l=true):(∀x∈l,x.lite/\x.modr)/\l.length<=80/\(l.length<=8\/64<l.length):=by
 unfold Gj at h;simp only[BO,K0,CN,GX]at h;obtain⟨h1,h2⟩:=h;refine⟨λx hx=>?_,by omega,by omega⟩;have hb:=h1 x hx;unfold AE.shB at hb;simp only[BO,K0,CN,GX]at hb;obtain⟨⟨⟨b1,b2⟩,b3⟩,b4⟩:=hb;have hs:∀s∈x.shs,s.lot.length<=100/\s.part.length<=14:=λs hs=>by
  have:=b4 s hs
  unfold Ay.shB at this;simpa using this
 have hl:x.lite:=⟨⟨by omega,by omega,λs q=>⟨by have:=(hs s q).1;omega,by have:=(hs s q).2;omega⟩⟩,λs q=>⟨by have:=(hs s q).1;omega,by have:=(hs s q).2;omega⟩⟩
 exact⟨hl,by omega,hl⟩
theorem Ee {l:List AE}(h:Br l=0):l.length<=64/\(∀x∈l,1<=x.mass/\x.mass<=1000000000/\x.shs.length<=1000000)/\IF l:=by
 obtain⟨g1,g2,g3⟩:=Ka h;have hx:∀x∈l,1<=x.mass/\x.mass<=1000000000/\x.shs.length<=1000000:=λx q=>by
  obtain⟨a,b,c,d⟩:=OE (g2 x q)
  have:=(W6 d).2.1
  exact⟨by omega,by omega,by omega⟩
 exact⟨g1,hx,by omega,λx q=>by have:=hx x q;omega⟩
abbrev Qe:Dr:=[(4,[0,1,2,3,4,5,6,7,8,9,10,11,12,13,14],[15,16])]
open Go.Proofs Go.RowKit Go.Sort
set_option maxRecDepth 20000
set_option maxHeartbeats 4000000
structure At where
 flow:List UInt8
 core:Int
 room:Int
 side:Int
 cells:List (List AE)
abbrev FG (b:Bool)(cs:List (List AE)):D:=.sl b 1 (cs.map (Am false))
def At.D (x:At):D:=.agg [str (sb x.flow),i64 x.core,i64 x.room,i64 x.side,FG false x.cells]
instance  (x:At):AV x.D:=by unfold At.D;exact AJ
instance  (x:At):AA x.D:=by unfold At.D;exact AJ
theorem Rc (b:Bool)(l:List AE)(hl:l.length<=9223372036854775807):AI C0 57 [Am b l] (i64 (Cy l)):=by
 refine Ag.walk w1 U9 rfl λF=>?_
 have el:(((l.map AE.D).length:Nat):Int)=(l.length:Int):=by rw[Ak]
 refine AH AZ el AB AB AB AB AB AB ?_;refine AC.loop (α:=Nat×Nat) (λp=>⟨[(3,i64 (Cy (l.take p.1))),(6,Am b l),(7,i64 (l.length:Int)),(8,i64 (p.1:Int))],[],p.2⟩) (λp=>l.length-p.1) (λp=>p.1<=l.length) (0,_) (BS _) AK ?_;rintro⟨i,m⟩ F hi;dsimp only at hi⊢;rcases BG i l.length with h2|h2
 rotate_left
 ·have e1:=CZ h2
  have:i=l.length:=by omega
  subst this;rw[DO];refine AH AZ e1 AB AB AB AB AB AB ?_;exact AL rfl AA.out
 have e1:=Ca h2;have wi:=Cc (i:=i) (by omega);obtain⟨x,hx⟩:=CP h2;have hm:(l.map AE.D)[i]?=some (.agg [str (sb x.grain),i64 x.mass,.sl false 2 (x.shs.map Ay.D)]):=by rw[A7,hx];rfl
 have wS:=(TO hx).symm;refine AH AZ (BW e1 wi @wS kN) hm AB AB AB AB AB ?_;exact⟨(i+1,_),h2,by dsimp only;omega,AK⟩
def Cs (n lo hi:Int):Bool:=decide (n>=lo)&&decide (n<=hi)
theorem Ma (n lo hi:Int):AI C0 95 [i64 n,i64 lo,i64 hi] (Aq (Cs n lo hi)):=by
 refine Ag.walk w1 dQ rfl λF=>?_
 obtain⟨p,hp⟩:∃p,decide (n>=lo)=p:=⟨_,rfl⟩
 have hb:Cs n lo hi=(p&&decide (n<=hi)):=by unfold Cs;rw[hp]
 rw[hb];cases p
 ·refine AH AZ (As hp kT kF) AB AB AB AB AB AB ?_
  exact AL rfl AA.out
 ·refine AH AZ (As hp kT kF) AB AB AB AB AB AB ?_
  exact AL rfl AA.out
def Dc (side:Int)(l:List Int):Bool:=(List.range (l.length-1)).any λi=>!Cs (IntKind.i64.wrap (l.getD (i+1) 0-l.getD i 0)) (IntKind.i64.wrap (0-side)) side
theorem Ug {side:Int}{l:List Int}{i:Nat}(h:i+1<l.length)(hb:Cs (IntKind.i64.wrap (l.getD (i+1) 0-l.getD i 0)) (IntKind.i64.wrap (0-side)) side=false):Dc side l=true:=by
 unfold Dc;rw[List.any_eq_true];exact⟨i,List.mem_range.2 (by omega),by rw[hb];rfl⟩
theorem Uh {side:Int}{l:List Int}(h:∀i,i+1<l.length->Cs (IntKind.i64.wrap (l.getD (i+1) 0-l.getD i 0)) (IntKind.i64.wrap (0-side)) side=true):Dc side l=false:=by
 unfold Dc;rw[List.any_eq_false];intro i hi
 have:=List.mem_range.1 hi
 rw[h i (by omega)];decide
theorem Zs (x:At)(b:Bool)(l:List Int)(hl:l.length<=1000000):AI C0 65 [x.D,.sl b 1 (Bb l)] (i64 (if Dc x.side l then 17 else 0)):=by
 refine Ag.walk w1 dj rfl λF=>?_
 have el:((Bb l).length:Int)=(l.length:Int):=by rw[Ak]
 have elN:(Bb l).length=l.length:=Ak ..;unfold At.D;obtain⟨cd,hcd⟩:∃d,FG false x.cells=d:=⟨_,rfl⟩
 have pcd:AA cd:=by rw[<-hcd];exact AJ
 have ncd:JZ cd=true:=by rw[<-hcd];rfl
 rw[hcd];refine AH Qe el AB AB AB AB AB AB ?_;refine AC.loop (α:=Nat×Nat) (λp=>⟨[(1,.sl b 1 (Bb l)),(2,.optr 0 0 5 0 0),(5,i64 ((p.1+1:Nat):Int))],[⟨0,0,24,5,[.agg [str (sb x.flow),i64 x.core,i64 x.room,i64 x.side,cd]]⟩],p.2⟩) (λp=>l.length-p.1) (λp=>p.1<=l.length/\∀j,j<p.1->Cs (IntKind.i64.wrap (l.getD (j+1) 0-l.getD j 0)) (IntKind.i64.wrap (0-x.side)) x.side=true) (0,_) ⟨BS _,λj h=>Ae h (HN j)⟩ AK ?_;rintro⟨i,m⟩ F ⟨hi,ha⟩;dsimp only at hi ha⊢;rcases BG (i+1) l.length with h2|h2
 rotate_left
 ·have e1:=CZ h2
  rw[Uh λj hj=>ha j (by omega)];refine AH Qe (Aj el e1) AB AB AB AB AB AB ?_;exact AL rfl AA.out
 have e1:=Ca h2;have wi:=Cc (i:=i+1) (by omega);have w2:IntKind.i64.wrap (((i+1:Nat):Int)-1)=((i:Nat):Int):=by rw[wI (by omega) (by omega)];omega
 have hm1:=Oq (l:=l) (i:=i+1) h2;have hm2:=Oq (l:=l) (i:=i) (by omega);have cW:=Ma (IntKind.i64.wrap (l.getD (i+1) 0-l.getD i 0)) (IntKind.i64.wrap (0-x.side)) x.side;have hbad:=Ug (side:=x.side) h2;obtain⟨u,hu⟩:∃u,l.getD (i+1) 0=u:=⟨_,rfl⟩
 obtain⟨v,hv⟩:∃u,l.getD i 0=u:=⟨_,rfl⟩
 have hgood:=λ(hq:Cs (IntKind.i64.wrap (u-v)) (IntKind.i64.wrap (0-x.side)) x.side=true) (j:Nat) (hj:j<i+1)=>show Cs (IntKind.i64.wrap (l.getD (j+1) 0-l.getD j 0)) (IntKind.i64.wrap (0-x.side)) x.side=true from by
  rcases BG j i with h|h
  ·exact ha j h
  ·have:j=i:=by omega
   subst this;rw[hu,hv];exact hq
 rw[hu]at hm1 cW hbad;rw[hv]at hm2 cW hbad;obtain⟨q,hq⟩:∃q,Cs (IntKind.i64.wrap (u-v)) (IntKind.i64.wrap (0-x.side)) x.side=q:=⟨_,rfl⟩
 rw[hq]at cW hbad hgood;obtain⟨L,hL⟩:∃L,Bb l=L:=⟨_,rfl⟩
 have pL:AA (.sl b 1 L):=by rw[<-hL];exact AJ
 rw[hL]at hm1 hm2 el⊢;cases q
 ·rw[hbad rfl]
  refine AH Qe (CF el e1 w2 wi kN) hm1 hm2 cW AB AB AB ?_;exact AL rfl AA.out
 ·refine AH Qe (CF el e1 w2 wi kN) hm1 hm2 cW AB AB AB ?_
  exact⟨(i+1,_),⟨by omega,hgood rfl⟩,by dsimp only;omega,AK⟩
def BT (x:At):List Int:=x.cells.map Cy
theorem Yj (x:At)(hl:x.cells.length<=1000000)(hc:∀c∈x.cells,c.length<=9223372036854775807):AI C0 48 [x.D] (.sl false 1 (Bb (BT x))):=by
 refine Ag.walk w1 U8 rfl λF=>?_
 obtain⟨cs,hcs⟩:∃c,x.cells=c:=⟨_,rfl⟩
 have hlv:BT x=cs.map Cy:=by unfold BT;rw[hcs]
 rw[hlv];rw[hcs]at hl hc;have el:(((cs.map (Am false)).length:Nat):Int)=(cs.length:Int):=by rw[Ak]
 unfold At.D;rw[hcs];refine sR 0 ?_;refine sR 100 ?_;refine AC.seq ?_;refine sZ 200 ?_;refine AT el ?_;refine AC.ghost 504 3 1 [(3,.osl 504 _ 1 0 0),(7,FG false cs),(8,i64 (cs.length:Int)),(9,i64 ((0:Nat):Int))] ⟨.inr ⟨rfl,rfl⟩,.inl rfl,.inl rfl,.inl rfl,trivial⟩ ?_;refine AC.block ?_;refine AC.loop (α:=Nat×Nat×Nat) (λp=>⟨[(3,.osl 504 p.2.1 1 0 p.1),(7,FG false cs),(8,i64 (cs.length:Int)),(9,i64 (p.1:Int))],[⟨504,p.2.1,3,1,Bb ((cs.take p.1).map Cy)⟩],p.2.2⟩) (λp=>cs.length-p.1) (λq=>q.1<=cs.length) (0,_,_) (BS _) AK ?_;rintro⟨i,g,n⟩ F hi;dsimp only at hi⊢;rcases BG i cs.length with h2|h2
 rotate_left
 ·have e1:=CZ h2
  have:i=cs.length:=by omega
  subst this;rw[DO];have hf:=G5 (H:=[⟨504,g,3,1,Bb (cs.map Cy)⟩]) (Hf:=[]) (k:=504) (g:=g) (T:=3) (sz:=1) (l:=Bb (cs.map Cy)) rfl;rw[Ak,Ak]at hf;refine AH AZ e1 AB AB AB AB AB AB ?_;exact⟨_,hf,AA.out,rfl⟩
 have e1:=Ca h2;have wi:=Cc (i:=i) (by omega);obtain⟨c,hc'⟩:=CP h2;have hm:(cs.map (Am false))[i]?=some (.sl false 3 (c.map AE.D)):=by rw[A7,hc'];rfl
 have cT:=Rc false c (hc c (Av hc'));have ht:Bb ((cs.take (i+1)).map Cy)=Bb ((cs.take i).map Cy)++[i64 (Cy c)]:=by
  rw[Di,hc',DA];unfold Bb;rw[DA];rfl
 have htl:(Bb ((cs.take i).map Cy)).length=i:=by rw[Ak,Ak,Ba];omega
 obtain⟨R,hR⟩:∃R,Bb ((cs.take i).map Cy)=R:=⟨_,rfl⟩
 rw[hR]at ht htl⊢;refine AH AZ (As e1 wi kN) hm cT AB AB AB AB ?_;refine⟨(i+1,n+1+1+1+1+1+1+1+1,n+1000),h2,by dsimp only;omega,?_⟩;dsimp only;rw[ht,CA (show R.length<=i by omega)];exact AK
open Go.ChangeShapes Go.WideShapes
def At.fit (x:At):Prop:=x.cells.length<=maxLen/\∀c∈x.cells,c.length<=maxLen/\∀y∈c,y.shs.length<=maxLen
section
variable {H:Type} {enc:TypeId×Value->H} {W:World} {fuel:Nat} {cs:List Value} {x:DataW H×List MemPlace} {t:TypeId}
theorem mr (h:DataW.trod enc Tryz.prog W 0 (λ_=>true) true fuel 22 cs=some x):∃l:List (List AE),Dg W cs [FG false l]/\(∀c∈l,c.length<=maxLen/\∀y∈c,y.shs.length<=maxLen)/\l.length<=maxLen:=
 VJ (g:=Am false) (ok:=λc=>c.length<=maxLen/\∀y∈c,y.shs.length<=maxLen) (e:=38) (sz:=1) (by kernel_rfl) (by kernel_rfl) (by decide) (λ_ _ _ h=>by
  obtain⟨l,h1,h2,h3⟩:=ki h;exact⟨l,h1,h3,h2⟩) h
theorem u7 (h:DataW.trod enc Tryz.prog W 0 (λ_=>true) true fuel 24 cs=some x):∃s:At,Dg W cs s.D.cells/\s.fit:=by
 obtain⟨h1,n,h2⟩:=VK (l:=[(9,0,1),(3,1,1),(3,2,1),(3,3,1),(22,4,1)]) (m:=5) (by kernel_rfl) (by kernel_rfl) h;obtain⟨y0,k0⟩:=h2 0 _ _ _ rfl;obtain⟨y1,k1⟩:=h2 1 _ _ _ rfl;obtain⟨y2,k2⟩:=h2 2 _ _ _ rfl;obtain⟨y3,k3⟩:=h2 3 _ _ _ rfl;obtain⟨y4,k4⟩:=h2 4 _ _ _ rfl;obtain⟨a0,r0,_⟩:=S4 k0;obtain⟨a1,r1⟩:=Q9 k1;obtain⟨a2,r2⟩:=Q9 k2;obtain⟨a3,r3⟩:=Q9 k3;obtain⟨a4,r4,hc,hl⟩:=mr k4;exact⟨⟨a0,a1,a2,a3,a4⟩,Un h1 (Le (b:=1) (c:=4) r0 (Le (b:=1) (c:=3) r1 (Le (b:=1) (c:=2) r2 (Le (b:=1) (c:=1) r3 r4)))),hl,hc⟩
end
abbrev LX:Dr:=[(2,[0,1,2,3,4,5,6,7,8,9,10,11,12,13,14,15,16,17,18,19,20,21,22,23,24,25,26,27,28,29,30,31,32],[33,34,35,36]),(8,[0,1,2,3,4,5,6,7],[8,9,10,11,12]),(12,[0,1,2],[3,4])]
open Go.Proofs Go.RowKit Go.Sort
set_option maxRecDepth 20000
set_option maxHeartbeats 4000000
def GJ:ByteArray:=⟨#[109,97,115,115]⟩
def Iv:ByteArray:=⟨#[102,117,110,110,101,108]⟩
def Rj (x:At):Bool:=(BJ (sb x.flow) GJ&&(x.core==0))||(BJ (sb x.flow) Iv&&Cs x.core 2 999999999)
def L4 (x:At):Int:=if !BJ (sb x.flow) GJ && !BJ (sb x.flow) Iv then 20 else 0
def Kp (x:At):Int:=if !Rj x || !Cs x.room 1 999999999 || !Cs x.side 0 999999999 then 3 else 0
def F6 (x:At):Int:=ES [L4 x,Kp x,if(x.cells.length:Int)==0 then 2 else 0,if decide ((x.cells.length:Int)>8)then 5 else 0]
def C8 (x:At)(c:List AE):Int:=ES [(Br c:Int),((if CJ c then 0 else 16:Nat):Int),if decide (Cy c>x.room)then 14 else 0]
def EO (x:At):List (List AE)->Int
 | []=>0
 |c::r=>if C8 x c≠0 then C8 x c else EO x r
def CQ (x:At):Int:=if F6 x≠0 then F6 x else if EO x x.cells≠0 then EO x x.cells else if Dc x.side (BT x)then 17 else 0
theorem Zp (x:At)(hl:x.cells.length<=1000000)(hc:∀c∈x.cells,c.length<=1000000/\∀y∈c,y.few):AI C0 47 [x.D] (i64 (CQ x)):=by
 refine Ag.walk w1 dZ rfl λF=>?_
 have cLv:=Yj x hl λc h=>by have:=(hc c h).1;omega
 have cSt:=Zs x false (BT x) (by unfold BT;rw[Ak];exact hl);have cC1:=Ma x.core 2 999999999;have cC2:=Ma x.room 1 999999999;have cC3:=Ma x.side 0 999999999;have cF:=Lh [L4 x,Kp x,if(x.cells.length:Int)==0 then 2 else 0,if decide ((x.cells.length:Int)>8)then 5 else 0] (by simp);have hF:ES [L4 x,Kp x,if(x.cells.length:Int)==0 then 2 else 0,if decide ((x.cells.length:Int)>8)then 5 else 0]=F6 x:=rfl;rw[hF]at cF;have cW3:=G7 ((x.cells.length:Int)==0) 2;have cW4:=G7 (decide ((x.cells.length:Int)>8)) 5;obtain⟨cs,hcs⟩:∃c,x.cells=c:=⟨_,rfl⟩
 have el:(((cs.map (Am false)).length:Nat):Int)=(cs.length:Int):=by rw[Ak]
 obtain⟨H,hH⟩:∃h,F6 x=h:=⟨_,rfl⟩
 have hB:CQ x=if H≠0 then H else if EO x x.cells≠0 then EO x x.cells else if Dc x.side (BT x)then 17 else 0:=by unfold CQ;rw[hH]
 obtain⟨K1,hK1⟩:∃h,L4 x=h:=⟨_,rfl⟩
 obtain⟨K2,hK2⟩:∃h,Kp x=h:=⟨_,rfl⟩
 obtain⟨CB,hCB⟩:∃h,Rj x=h:=⟨_,rfl⟩
 rw[hK1,hK2,hH]at cF;rw[hB];rw[hcs]at cF cW3 cW4 hl hc⊢;unfold At.D at cLv cSt⊢;rw[hcs]at cLv cSt⊢;refine sR 0 ?_;refine EU ⟨[(1,.optr 0 0 5 0 0),(3,Aq CB)],[⟨0,0,24,5,[.agg [str (sb x.flow),i64 x.core,i64 x.room,i64 x.side,FG false cs]]⟩],100⟩ ?_ ?_
 ·obtain⟨p1,h1⟩:∃q,BJ (sb x.flow) ⟨#[109,97,115,115]⟩=q:=⟨_,rfl⟩
  obtain⟨p2,h2⟩:∃q,BJ (sb x.flow) ⟨#[102,117,110,110,101,108]⟩=q:=⟨_,rfl⟩
  obtain⟨c0,h0⟩:∃q,(x.core==0)=q:=⟨_,rfl⟩
  have hb:CB=((p1&&c0)||(p2&&Cs x.core 2 999999999)):=by rw[<-hCB,<-h1,<-h2,<-h0];rfl
  rw[hb];cases p1<;>cases p2<;>cases c0
  all_goals
   refine AH LX (CF h1 h2 h0 kT kF) cC1 AB AB AB AB AB ?_;exact⟨trivial,AK⟩
 refine EU ⟨[(1,.optr 0 0 5 0 0),(4,i64 H)],[⟨0,0,24,5,[.agg [str (sb x.flow),i64 x.core,i64 x.room,i64 x.side,FG false cs]]⟩],1000⟩ ?_ ?_
 ·obtain⟨p1,h1⟩:∃q,BJ (sb x.flow) ⟨#[109,97,115,115]⟩=q:=⟨_,rfl⟩
  obtain⟨p2,h2⟩:∃q,BJ (sb x.flow) ⟨#[102,117,110,110,101,108]⟩=q:=⟨_,rfl⟩
  obtain⟨wr,hr⟩:∃q,Cs x.room 1 999999999=q:=⟨_,rfl⟩
  obtain⟨ws,hw⟩:∃q,Cs x.side 0 999999999=q:=⟨_,rfl⟩
  have e1:L4 x=if !p1 && !p2 then 20 else 0:=by rw[<-h1,<-h2];rfl
  have e2:Kp x=if !CB || !wr || !ws then 3 else 0:=by rw[<-hCB,<-hr,<-hw];rfl
  have cA:=G7 (!p1 && !p2) 20;have cB:=G7 (!CB || !wr || !ws) 3;rw[<-e1,hK1]at cA;rw[<-e2,hK2]at cB;rw[hr]at cC2;rw[hw]at cC3;clear e1 e2 hcs hK1 hK2 hCB hF cC1 cLv cSt hr hw;cases p1<;>cases p2<;>cases CB<;>cases wr
  all_goals
   refine AH LX (CF h1 h2 el kT kF) cA cC2 cC3 cB cW3 cW4 ?_;refine BD.same _ cF AJ ?_;refine BN ?_;exact⟨trivial,AK⟩
 by_cases hH0:H=0
 rotate_left
 ·have e1:(H != 0)=true:=Ir hH0
  rw[AG hH0];refine AH LX e1 AB AB AB AB AB AB ?_;exact AL rfl AA.out
 have e1:(H != 0)=false:=by rw[hH0];rfl
 rw[AF (λh=>h hH0)];clear cC1 cC2 cC3 cF cW3 cW4 hK1 hK2 hCB hF hB;refine AH LX (Aj e1 el) AB AB AB AB AB AB ?_;refine AC.loop (α:=Nat×Nat) (λp=>⟨[(1,.optr 0 0 5 0 0),(66,FG false cs),(67,i64 (cs.length:Int)),(68,i64 (p.1:Int))],[⟨0,0,24,5,[.agg [str (sb x.flow),i64 x.core,i64 x.room,i64 x.side,FG false cs]]⟩],p.2⟩) (λp=>cs.length-p.1) (λq=>q.1<=cs.length/\EO x (cs.drop q.1)=EO x cs) (0,_) ⟨BS _,rfl⟩ AK ?_;rintro⟨i,n⟩ F ⟨hi,hJ⟩;dsimp only at hi hJ⊢;rcases BG i cs.length with h2|h2
 rotate_left
 ·have k1:=CZ h2
  have:i=cs.length:=by omega
  subst this;rw[IZ]at hJ;rw[AF (λh=>h (by rw[<-hJ];rfl))];have pLv:AA (.sl false 1 (Bb (BT x))):=AJ;refine AH LX k1 cLv cSt AB AB AB AB ?_;exact AL rfl AA.out
 have k1:=Ca h2;have wi:=Cc (i:=i) (by omega);obtain⟨c,hc'⟩:=CP h2;have hm:(cs.map (Am false))[i]?=some (.sl false 3 (c.map AE.D)):=by rw[A7,hc'];rfl
 obtain⟨hc1,hc2⟩:=hc c (Av hc');have cP:=NG false c (by omega) hc2;have cG:=XU false c hc1;have cT:=Rc false c (by omega);have cW:=G7 (decide (Cy c>x.room)) 14;have cE:=Lh [(Br c:Int),((if CJ c then 0 else 16:Nat):Int),if decide (Cy c>x.room)then 14 else 0] (by simp);have hE:ES [(Br c:Int),((if CJ c then 0 else 16:Nat):Int),if decide (Cy c>x.room)then 14 else 0]=C8 x c:=rfl;rw[hE]at cE;have hd:cs.drop i=c::cs.drop (i+1):=by
  have:=List.getElem?_eq_some_iff.1 hc'
  rw[EK this.1,this.2]
 rw[hd]at hJ;have hJ2:EO x cs=if C8 x c≠0 then C8 x c else EO x (cs.drop (i+1)):=hJ.symm
 obtain⟨E,hEE⟩:∃E,C8 x c=E:=⟨_,rfl⟩
 rw[hEE]at cE hJ2
 by_cases hE0:E=0
 ·have k2:(E != 0)=false:=by rw[hE0];rfl
  rw[AF (λh=>h hE0)]at hJ2;refine AH LX (BW k1 k2 wi kN) hm cP cG cT cW cE ?_;exact⟨(i+1,_),⟨h2,hJ2.symm⟩,by dsimp only;omega,AK⟩
 ·have k2:(E != 0)=true:=Ir hE0
  rw[AG hE0]at hJ2;rw[hJ2,AG hE0];refine AH LX (BW k1 k2 wi kN) hm cP cG cT cW cE ?_;exact AL rfl AA.out
abbrev Qf:Dr:=[(4,[0,1,2,3,4,5,6,7,8,9],[10])]
open Go.Proofs Go.RowKit Go.Sort
set_option maxRecDepth 20000
set_option maxHeartbeats 4000000
theorem Uo (x:At)(i:Nat)(c:List AE)(hc:x.cells[i]?=some c)(hs:IF c)(hl:x.cells.length<=1000000):AI C0 17 [x.D,i64 (i:Int)] (i64 (Al c)):=by
 refine Ag.walk w1 wo rfl λF=>?_
 have cM:=VL false c hs;have hi:=(List.getElem?_eq_some_iff.1 hc).1;obtain⟨cs,hcs⟩:∃c,x.cells=c:=⟨_,rfl⟩
 unfold At.D;rw[hcs]at hc hl hi⊢;have hm:(cs.map (Am false))[i]?=some (.sl false 3 (c.map AE.D)):=by rw[A7,hc];rfl
 have hml:(cs.map (Am false)).length=cs.length:=Ak ..;obtain⟨K,hK⟩:∃K,cs.map (Am false)=K:=⟨_,rfl⟩
 have pK:AA (.sl false 1 K):=by rw[<-hK];exact AJ
 show AC _ _ _ _ _ ⟨DK 0 [.agg [str (sb x.flow),i64 x.core,i64 x.room,i64 x.side,.sl false 1 (cs.map (Am false))],i64 (i:Int)],[],0⟩ _;rw[hK]at hm hml⊢;refine AH AZ kN hm cM AB AB AB AB ?_;exact AL rfl AA.out
theorem vK (u v:Int):AI C0 97 [i64 u,i64 v] (i64 (max (IntKind.i64.wrap (u-v)) (IntKind.i64.wrap (v-u)))):=by
 refine Ag.walk w1 wF rfl λF=>?_
 refine AH AZ kB AB AB AB AB AB AB ?_;exact AL rfl AA.out
theorem xf (x:At)(hl:x.cells.length<=1000000)(hc:∀c∈x.cells,IF c/\0<=Al c/\Al c<=999999999)(hside:0<=x.side/\x.side<=999999999):AI C0 51 [x.D] (Aq (!Dc x.side (BT x))):=by
 refine Ag.walk w1 xP rfl λF=>?_
 have hlvl:=λ(i:Nat) (c:List AE) (h:x.cells[i]?=some c)=>Uo x i c h (hc c (Av h)).1 hl
 have hlv:∀(i:Nat) (c:List AE),x.cells[i]?=some c->(BT x).getD i 0=Al c:=λi c h=>by
  unfold BT;rw[Dj,A7,h];exact JS (hc c (Av h)).1
 have hlen:(BT x).length=x.cells.length:=by unfold BT;rw[Ak]
 obtain⟨cs,hcs⟩:∃c,x.cells=c:=⟨_,rfl⟩
 have el:(((cs.map (Am false)).length:Nat):Int)=(cs.length:Int):=by rw[Ak]
 unfold At.D at hlvl⊢;rw[hcs]at hlvl hlv hlen hl hc⊢;refine AH Qf kB AB AB AB AB AB AB ?_;refine AC.loop (α:=Nat×Nat) (λp=>⟨[(1,.optr 0 0 5 0 0),(3,i64 ((p.1+1:Nat):Int))],[⟨0,0,24,5,[.agg [str (sb x.flow),i64 x.core,i64 x.room,i64 x.side,FG false cs]]⟩],p.2⟩) (λp=>cs.length-p.1) (λp=>p.1<=cs.length/\∀j,j<p.1->Cs (IntKind.i64.wrap ((BT x).getD (j+1) 0-(BT x).getD j 0)) (IntKind.i64.wrap (0-x.side)) x.side=true) (0,_) ⟨BS _,λj h=>Ae h (HN j)⟩ AK ?_;rintro⟨i,m⟩ F ⟨hi,ha⟩;dsimp only at hi ha⊢;rcases BG (i+1) cs.length with h2|h2
 rotate_left
 ·have e1:=CZ h2
  rw[Uh (side:=x.side) (l:=BT x) λj hj=>ha j (by omega)];refine AH Qf (Aj el e1) AB AB AB AB AB AB ?_;exact AL rfl AA.out
 have e1:=Ca h2;have wi:=Cc (i:=i+1) (by omega);have w2:IntKind.i64.wrap (((i+1:Nat):Int)-1)=((i:Nat):Int):=by rw[wI (by omega) (by omega)];omega
 obtain⟨c,hc1⟩:=CP (show i<cs.length by omega);obtain⟨d,hd1⟩:=CP h2;have c1:=hlvl i c hc1;have c2:=hlvl (i+1) d hd1;have v1:=hlv i c hc1;have v2:=hlv (i+1) d hd1;obtain⟨-,a1,a2⟩:=hc c (Av hc1);obtain⟨-,b1,b2⟩:=hc d (Av hd1);have c3:=vK (Al c) (Al d);have hbad:=Ug (side:=x.side) (l:=BT x) (i:=i) (by omega);rw[v1,v2]at hbad;have q1:IntKind.i64.wrap (Al c-Al d)=Al c-Al d:=wI (by omega) (by omega);have q2:IntKind.i64.wrap (Al d-Al c)=Al d-Al c:=wI (by omega) (by omega);have q3:IntKind.i64.wrap (0-x.side)=0-x.side:=wI (by omega) (by omega);rw[q1,q2]at c3
 by_cases hg:max (Al c-Al d) (Al d-Al c)>x.side
 ·have e2:decide (max (Al c-Al d) (Al d-Al c)>x.side)=true:=AX hg
  rw[hbad (by rw[q2,q3];unfold Cs;rw[Bool.and_eq_false_iff,Ib,Ib];omega)];refine AH Qf (EM el e1 e2 w2 wi kN) c1 c2 c3 AB AB AB ?_;exact AL rfl AA.out
 ·have e2:decide (max (Al c-Al d) (Al d-Al c)>x.side)=false:=Ac hg
  refine AH Qf (EM el e1 e2 w2 wi kN) c1 c2 c3 AB AB AB ?_;refine⟨(i+1,_),⟨by omega,λj hj=>?_⟩,by dsimp only;omega,AK⟩;rcases BG j i with h|h
  ·exact ha j h
  ·have:j=i:=by dsimp only at hj;omega
   subst this;rw[v1,v2,q2,q3];unfold Cs;rw[BO,decide_eq_true_iff,decide_eq_true_iff];omega
theorem YM {l:List UInt8}(h:BJ (sb l) GJ=true):BJ (sb l) Iv=false:=by
 have h1:BJ (sb l) (sb [109,97,115,115])=true:=h;rw[LT]at h1;rw[Cz h1];show BJ (sb [109,97,115,115]) (sb [102,117,110,110,101,108])=false;rw[LT];decide
def Kt (x:At):Bool:=(BJ (sb x.flow) GJ&&(x.core != 0))||(BJ (sb x.flow) Iv&&(decide (x.core<2)||decide (x.core>999999999)))||decide (x.room<1)||decide (x.room>999999999)||decide (x.side<0)||decide (x.side>999999999)
theorem uf {x:At}(h:(!BJ (sb x.flow) GJ && !BJ (sb x.flow) Iv)=false):Kp x=if Kt x then 3 else 0:=by
 have hx:=@YM x.flow;unfold Kp Kt Rj Cs;obtain⟨p1,h1⟩:∃q,BJ (sb x.flow) GJ=q:=⟨_,rfl⟩
 obtain⟨p2,h2⟩:∃q,BJ (sb x.flow) Iv=q:=⟨_,rfl⟩
 rw[h1,h2]at h hx⊢;have e:(!(p1&&x.core==0||p2&&(decide (x.core>=2)&&decide (x.core<=999999999))) || !(decide (x.room>=1)&&decide (x.room<=999999999)) || !(decide (x.side>=0)&&decide (x.side<=999999999)))
   = (p1&&x.core != 0||p2&&(decide (x.core<2)||decide (x.core>999999999))||decide (x.room<1)||decide (x.room>999999999)||decide (x.side<0)||decide (x.side>999999999)):=by
  cases p1<;>cases p2
  ·cases h
  ·rw[Fc];simp;omega
  ·rw[Fc];simp;omega
  ·cases hx rfl
 rw[e]
theorem RO (x:At):F6 x=if(!BJ (sb x.flow) GJ && !BJ (sb x.flow) Iv)=true then 20 else if Kt x=true then 3 else if x.cells.length=0 then 2 else if 8<x.cells.length then 5 else 0:=by
 unfold F6 L4;cases h:(!BJ (sb x.flow) GJ && !BJ (sb x.flow) Iv)
 ·rw[uf h,AF Bool.false_ne_true,AF Bool.false_ne_true]
  cases Kt x
  ·rw[AF Bool.false_ne_true,AF Bool.false_ne_true]
   by_cases h0:x.cells.length=0
   ·rw[AG h0,h0];rfl
   ·have:((x.cells.length:Int)==0)=false:=Bs.2 (by omega)
    rw[AF h0,this]
    by_cases h8:8<x.cells.length
    ·rw[AG h8,show decide ((x.cells.length:Int)>8)=true from AX (by omega)];rfl
    ·rw[AF h8,show decide ((x.cells.length:Int)>8)=false from Ac (by omega)];rfl
  ·rfl
 ·rfl
theorem Sl {x:At}:∀ {l:List (List AE)},EO x l=0->∀c∈l,C8 x c=0
 | [],_,c,h=>by cases h
 |d::r,h,c,hc=>by
  have h1:(if C8 x d≠0 then C8 x d else EO x r)=0:=h
  by_cases h0:C8 x d=0
  ·rw[AF (λq=>q h0)]at h1
   rcases A8.1 hc with rfl|h2
   ·exact h0
   ·exact Sl h1 c h2
  ·rw[AG h0]at h1;exact Ae h1 h0
theorem Lb:∀ {l:List AE},(∀x∈l,0<=x.mass)->0<=Al l
 | [],_=>Int.le_refl _
 |x::l,h=>by
  have h1:=h x (B9 ..);have h2:=Lb λy hy=>h y (CD _ hy)
  have:Al (x::l)=x.mass+Al l:=by unfold Al;rfl
  omega
theorem Hg {x:At}{c:List AE}(h:C8 x c=0):Br c=0/\CJ c=true/\IF c/\0<=Al c/\Al c<=999999999/\Al c<=x.room:=by
 have h1:(if(Br c:Int)≠0 then(Br c:Int)else if((if CJ c then 0 else 16:Nat):Int)≠0 then((if CJ c then 0 else 16:Nat):Int)else if(if decide (Cy c>x.room)then(14:Int)else 0)≠0 then(if decide (Cy c>x.room)then(14:Int)else 0)else 0)=0:=h
 by_cases hp:Br c=0
 rotate_left
 ·rw[AG (by omega)]at h1;omega
 rw[hp,AF (λq=>q rfl)]at h1;obtain⟨g1,g2,g3⟩:=Ee hp;have g4:=(Ka hp).2.2;have hT:=JS g3;have g5:0<=Al c:=Lb λy hy=>by have:=(g2 y hy).1;omega
 cases hg:CJ c
 ·rw[hg]at h1;cases h1
 rw[hg,AF (by decide)]at h1;refine⟨hp,rfl,g3,g5,g4,?_⟩;rw[hT]at h1
 by_cases hr:Al c>x.room
 ·rw[AX hr]at h1;cases h1
 ·omega
theorem nZ {x:At}{c:List AE}(h:Br c≠0):C8 x c=(Br c:Int):=by
 show(if(Br c:Int)≠0 then _ else _)=_;rw[AG (by omega)]
theorem rP {x:At}{c:List AE}(h:Br c=0)(hg:CJ c=false):C8 x c=16:=by
 show(if(Br c:Int)≠0 then _ else if((if CJ c then 0 else 16:Nat):Int)≠0 then((if CJ c then 0 else 16:Nat):Int)else _)=_;rw[h,hg];rfl
theorem lG {x:At}{c:List AE}(h:Br c=0)(hg:CJ c=true)(hr:Al c>x.room):C8 x c=14:=by
 have hT:=JS (Ee h).2.2;show(if(Br c:Int)≠0 then _ else if((if CJ c then 0 else 16:Nat):Int)≠0 then((if CJ c then 0 else 16:Nat):Int)else if(if decide (Cy c>x.room)then(14:Int)else 0)≠0 then(if decide (Cy c>x.room)then(14:Int)else 0)else 0)=_;rw[h,hg,hT,AX hr];rfl
theorem Xm {x:At}{c:List AE}(h:Br c=0)(hg:CJ c=true)(hr:¬Al c>x.room):C8 x c=0:=by
 have hT:=JS (Ee h).2.2;show(if(Br c:Int)≠0 then _ else if((if CJ c then 0 else 16:Nat):Int)≠0 then((if CJ c then 0 else 16:Nat):Int)else if(if decide (Cy c>x.room)then(14:Int)else 0)≠0 then(if decide (Cy c>x.room)then(14:Int)else 0)else 0)=_;rw[h,hg,hT,Ac hr];rfl
abbrev D7:Dr:=[(17,[0,1,2,3,4],[5])]
open Go.Proofs Go.RowKit Go.Sort
set_option maxRecDepth 20000
set_option maxHeartbeats 4000000
theorem pZ (x:At)(hl:x.cells.length<=1000000)(hc:∀c∈x.cells,c.length<=1000000/\∀y∈c,y.modr):AI C0 12 [x.D] (i64 (CQ x)):=by
 refine Ag.walk w1 w9 rfl λF=>?_
 have hB:CQ x=if F6 x≠0 then F6 x else if EO x x.cells≠0 then EO x x.cells else if Dc x.side (BT x)then 17 else 0:=rfl
 have hH:=RO x;have hlvl:=λ(i:Nat) (c:List AE) (h:x.cells[i]?=some c) (hs:IF c)=>Uo x i c h hs hl
 have hsafe:=λ(h1:∀c∈x.cells,C8 x c=0) (h2:0<=x.side/\x.side<=999999999)=>xf x hl (λc hq=>by
  obtain⟨-,-,g1,g2,g3,-⟩:=Hg (h1 c hq);exact⟨g1,g2,g3⟩) h2
 obtain⟨p1,h1⟩:∃q,BJ (sb x.flow) ⟨#[109,97,115,115]⟩=q:=⟨_,rfl⟩
 obtain⟨p2,h2⟩:∃q,BJ (sb x.flow) ⟨#[102,117,110,110,101,108]⟩=q:=⟨_,rfl⟩
 have hex:p1=true->p2=false:=λq=>by rw[<-h2];exact YM (h1.trans q)
 have hr:Kt x=((p1&&(x.core != 0))||(p2&&(decide (x.core<2)||decide (x.core>999999999)))||decide (x.room<1)||decide (x.room>999999999)||decide (x.side<0)||decide (x.side>999999999)):=by rw[<-h1,<-h2];rfl
 rw[show BJ (sb x.flow) GJ=p1 from h1,show BJ (sb x.flow) Iv=p2 from h2]at hH;obtain⟨R,hR⟩:∃r,Kt x=r:=⟨_,rfl⟩
 rw[hR]at hH hr;have hside:R=false->0<=x.side/\x.side<=999999999:=λq=>by
  rw[q]at hr
  have:=hr.symm
  simp only[JD,Ib]at this;omega
 obtain⟨cs,hcs⟩:∃c,x.cells=c:=⟨_,rfl⟩
 have el:(((cs.map (Am false)).length:Nat):Int)=(cs.length:Int):=by rw[Ak]
 unfold At.D at hlvl hsafe⊢;rw[hcs]at hlvl hsafe hB hH hc hl⊢;refine sR 0 ?_;cases hk:(!p1 && !p2)
 rotate_left
 ·rw[AG hk]at hH
  rw[hH,AG (by decide)]at hB;rw[hB];have hp:p1=false/\p2=false:=by cases p1<;>cases p2<;>first|exact⟨rfl,rfl⟩|cases hk
  obtain⟨rfl,rfl⟩:=hp;refine AH D7 (BW h1 h2 kT kF) AB AB AB AB AB AB ?_;exact AL rfl AA.out
 rw[AF (by rw[hk];exact Bool.false_ne_true)]at hH;have hp:(p1=true/\p2=false)\/(p1=false/\p2=true):=by
  cases p1
  ·cases p2
   ·cases hk
   ·exact .inr ⟨rfl,rfl⟩
  ·exact .inl ⟨rfl,hex rfl⟩
 clear hex hk;refine EU ⟨[(1,.optr 0 0 5 0 0)],[⟨0,0,24,5,[.agg [str (sb x.flow),i64 x.core,i64 x.room,i64 x.side,FG false cs]]⟩],100⟩ ?_ ?_
 ·rcases hp with⟨rfl,rfl⟩|⟨rfl,rfl⟩
  all_goals
   refine AH D7 (BW h1 h2 kT kF) AB AB AB AB AB AB ?_;exact⟨trivial,AK⟩
 obtain⟨c0,e0⟩:∃q,(x.core != 0)=q:=⟨_,rfl⟩
 obtain⟨c1,e1⟩:∃q,decide (x.core<2)=q:=⟨_,rfl⟩
 obtain⟨c2,e2⟩:∃q,decide (x.core>999999999)=q:=⟨_,rfl⟩
 obtain⟨u1,r1⟩:∃q,decide (x.room<1)=q:=⟨_,rfl⟩
 obtain⟨u2,r2⟩:∃q,decide (x.room>999999999)=q:=⟨_,rfl⟩
 obtain⟨v1,s1⟩:∃q,decide (x.side<0)=q:=⟨_,rfl⟩
 obtain⟨v2,s2⟩:∃q,decide (x.side>999999999)=q:=⟨_,rfl⟩
 rw[e0,e1,e2,r1,r2,s1,s2]at hr;cases R
 rotate_left
 ·rw[AG rfl]at hH
  rw[hH,AG (by decide)]at hB;rw[hB];clear hlvl hsafe hB hH el;rcases hp with⟨rfl,rfl⟩|⟨rfl,rfl⟩
  ·cases c0
   rotate_left
   ·refine AH D7 (CS e0 e1 e2 r1 r2 s1 (CF s2 h1 h2 kT kF)) AB AB AB AB AB AB ?_
    exact AL rfl AA.out
   cases u1
   rotate_left
   ·refine AH D7 (CS e0 e1 e2 r1 r2 s1 (CF s2 h1 h2 kT kF)) AB AB AB AB AB AB ?_
    exact AL rfl AA.out
   cases u2
   rotate_left
   ·refine AH D7 (CS e0 e1 e2 r1 r2 s1 (CF s2 h1 h2 kT kF)) AB AB AB AB AB AB ?_
    exact AL rfl AA.out
   cases v1
   rotate_left
   ·refine AH D7 (CS e0 e1 e2 r1 r2 s1 (CF s2 h1 h2 kT kF)) AB AB AB AB AB AB ?_
    exact AL rfl AA.out
   cases v2
   rotate_left
   ·refine AH D7 (CS e0 e1 e2 r1 r2 s1 (CF s2 h1 h2 kT kF)) AB AB AB AB AB AB ?_
    exact AL rfl AA.out
   cases hr
  ·cases c1
   rotate_left
   ·refine AH D7 (CS e0 e1 e2 r1 r2 s1 (CF s2 h1 h2 kT kF)) AB AB AB AB AB AB ?_
    exact AL rfl AA.out
   cases c2
   rotate_left
   ·refine AH D7 (CS e0 e1 e2 r1 r2 s1 (CF s2 h1 h2 kT kF)) AB AB AB AB AB AB ?_
    exact AL rfl AA.out
   cases u1
   rotate_left
   ·refine AH D7 (CS e0 e1 e2 r1 r2 s1 (CF s2 h1 h2 kT kF)) AB AB AB AB AB AB ?_
    exact AL rfl AA.out
   cases u2
   rotate_left
   ·refine AH D7 (CS e0 e1 e2 r1 r2 s1 (CF s2 h1 h2 kT kF)) AB AB AB AB AB AB ?_
    exact AL rfl AA.out
   cases v1
   rotate_left
   ·refine AH D7 (CS e0 e1 e2 r1 r2 s1 (CF s2 h1 h2 kT kF)) AB AB AB AB AB AB ?_
    exact AL rfl AA.out
   cases v2
   rotate_left
   ·refine AH D7 (CS e0 e1 e2 r1 r2 s1 (CF s2 h1 h2 kT kF)) AB AB AB AB AB AB ?_
    exact AL rfl AA.out
   cases hr
 rw[AF Bool.false_ne_true]at hH;have hsd:=hside rfl;refine EU ⟨[(1,.optr 0 0 5 0 0)],[⟨0,0,24,5,[.agg [str (sb x.flow),i64 x.core,i64 x.room,i64 x.side,FG false cs]]⟩],1000⟩ ?_ ?_
 ·clear hlvl hsafe hB hH
  cases v2
  rotate_left
  ·simp at hr
  cases v1
  rotate_left
  ·simp at hr
  cases u2
  rotate_left
  ·simp at hr
  cases u1
  rotate_left
  ·simp at hr
  rcases hp with⟨rfl,rfl⟩|⟨rfl,rfl⟩
  ·cases c0
   rotate_left
   ·cases hr
   refine AH D7 (CS e0 e1 e2 r1 r2 s1 (CF s2 h1 h2 kT kF)) AB AB AB AB AB AB ?_;exact⟨trivial,AK⟩
  ·cases c1
   rotate_left
   ·cases hr
   cases c2
   rotate_left
   ·cases hr
   refine AH D7 (CS e0 e1 e2 r1 r2 s1 (CF s2 h1 h2 kT kF)) AB AB AB AB AB AB ?_;exact⟨trivial,AK⟩
 clear hr e0 e1 e2 r1 r2 s1 s2 hp h1 h2 hR
 by_cases h0:cs.length=0
 ·rw[AG h0]at hH
  rw[hH,AG (by decide)]at hB;rw[hB];have k0:((cs.length:Int)==0)=true:=by rw[h0];rfl
  refine AH D7 (Aj el k0) AB AB AB AB AB AB ?_;exact AL rfl AA.out
 rw[AF h0]at hH;have k0:((cs.length:Int)==0)=false:=Bs.2 (by omega)
 by_cases h8:8<cs.length
 ·rw[AG h8]at hH
  rw[hH,AG (by decide)]at hB;rw[hB];have k8:decide ((cs.length:Int)>8)=true:=AX (by omega);refine AH D7 (As el k0 k8) AB AB AB AB AB AB ?_;exact AL rfl AA.out
 rw[AF h8]at hH;rw[hH,AF (λh=>h rfl)]at hB;rw[hB];have k8:decide ((cs.length:Int)>8)=false:=Ac (by omega);clear hB hH hside;refine AH D7 (As el k0 k8) AB AB AB AB AB AB ?_;refine AC.loop (α:=Nat×Nat) (λp=>⟨[(1,.optr 0 0 5 0 0),(3,i64 (p.1:Int))],[⟨0,0,24,5,[.agg [str (sb x.flow),i64 x.core,i64 x.room,i64 x.side,FG false cs]]⟩],p.2⟩) (λp=>cs.length-p.1) (λq=>q.1<=cs.length/\EO x (cs.drop q.1)=EO x cs) (0,_) ⟨BS _,rfl⟩ AK ?_;rintro⟨i,n⟩ F ⟨hi,hJ⟩;dsimp only at hi hJ⊢;rcases BG i cs.length with h2|h2
 rotate_left
 ·have k1:=CZ h2
  have:i=cs.length:=by omega
  subst this;rw[IZ]at hJ;have hz:EO x cs=0:=hJ.symm;have cS:=hsafe (Sl hz) hsd;rw[AF (λh=>h hz)];cases hq:Dc x.side (BT x)
  ·rw[hq]at cS
   rw[AF Bool.false_ne_true];refine AH D7 (BW k1 el kT kF) cS AB AB AB AB AB ?_;exact AL rfl AA.out
  ·rw[hq]at cS
   rw[AG rfl];refine AH D7 (BW k1 el kT kF) cS AB AB AB AB AB ?_;exact AL rfl AA.out
 have k1:=Ca h2;have wi:=Cc (i:=i) (by omega);obtain⟨c,hc'⟩:=CP h2;have hm:(cs.map (Am false))[i]?=some (.sl false 3 (c.map AE.D)):=by rw[A7,hc'];rfl
 obtain⟨hc1,hc2⟩:=hc c (Av hc');have cP:=fN false c hc1 hc2;have cG:=pj false c hc1;have hd:cs.drop i=c::cs.drop (i+1):=by
  have:=List.getElem?_eq_some_iff.1 hc'
  rw[EK this.1,this.2]
 rw[hd]at hJ;have hJ2:EO x cs=if C8 x c≠0 then C8 x c else EO x (cs.drop (i+1)):=hJ.symm
 by_cases hp:Br c=0
 rotate_left
 ·rw[nZ hp,AG (by omega)]at hJ2
  have k2:(((Br c:Nat):Int) != 0)=true:=Ir (by omega);rw[AG (by rw[hJ2];omega),hJ2];refine AH D7 (BW k1 el k2 kN) hm cP AB AB AB AB ?_;exact AL rfl AA.out
 rw[hp]at cP;have k2:(((0:Nat):Int) != 0)=false:=rfl;have hsm:=(Ee hp).2.2;have cL:=hlvl i c hc' hsm;cases hg:CJ c
 ·rw[hg]at cG
  rw[rP hp hg,AG (by decide)]at hJ2;rw[AG (by rw[hJ2];decide),hJ2];refine AH D7 (EM k1 el k2 kT kF kN) hm cP cG AB AB AB ?_;exact AL rfl AA.out
 rw[hg]at cG
 by_cases hrm:Al c>x.room
 ·have k3:decide (Al c>x.room)=true:=AX hrm
  rw[lG hp hg hrm,AG (by decide)]at hJ2;rw[AG (by rw[hJ2];decide),hJ2];refine AH D7 (CS k1 el k2 k3 kT kF kN) hm cP cG cL AB AB ?_;exact AL rfl AA.out
 ·have k3:decide (Al c>x.room)=false:=Ac hrm
  rw[Xm hp hg hrm,AF (λh=>h rfl)]at hJ2;refine AH D7 (CS k1 el k2 k3 wi kT (Aj kF kN)) hm cP cG cL AB AB ?_;exact⟨(i+1,_),⟨h2,hJ2.symm⟩,by dsimp only;omega,AK⟩
def JJ (x:At)(i:Int):Bool:=Cs i 0 ((x.cells.length:Int)-1)
theorem vU (x:At)(hl:x.cells.length<=1000000)(i:Int):AI C0 101 [i64 i,.pptr x.D] (Aq (!JJ x i)):=by
 refine Ag.walk w1 aU rfl λF=>?_
 have cW:=Ma i 0 ((x.cells.length:Int)-1);have hb:JJ x i=Cs i 0 ((x.cells.length:Int)-1):=rfl;have w2:IntKind.i64.wrap ((x.cells.length:Int)-1)=(x.cells.length:Int)-1:=wI (by omega) (by omega);obtain⟨cs,hcs⟩:∃c,x.cells=c:=⟨_,rfl⟩
 have el:(((cs.map (Am false)).length:Nat):Int)=(cs.length:Int):=by rw[Ak]
 unfold At.D;rw[hb];rw[hcs]at cW w2⊢;refine AH AZ (Aj el w2) cW AB AB AB AB AB ?_;exact AL rfl AA.out
theorem wQ (b:Bool)(l:List Int)(c:D)[pc:AA c](p:Int->Bool)(hl:l.length<=1000000)(hc:∀x∈l,AI C0 101 [i64 x,c] (Aq (p x))):AI C0 141 [.sl b 1 (Bb l),.clo (.func 101) [] [c]] (i64 (Jr p l)):=by
 refine Ag.walk w1 au rfl λF=>?_
 have el:(((Bb l).length:Nat):Int)=(l.length:Int):=by rw[Ak]
 refine AH AZ el AB AB AB AB AB AB ?_;refine AC.loop (α:=Nat×Nat) (λp=>⟨[(0,.sl b 1 (Bb l)),(1,.clo (.func 101) [] [c]),(7,i64 l.length),(8,i64 (p.1:Int))],[],p.2⟩) (λp=>l.length-p.1) (λq=>q.1<=l.length/\∀(j:Nat) (x:Int),j<q.1->l[j]?=some x->p x=false) (0,_) ⟨BS _,λj x hj=>Ae hj (HN j)⟩ AK ?_;rintro⟨i,n⟩ F ⟨hi,ha⟩;dsimp only at hi ha⊢;rcases BG i l.length with h2|h2
 rotate_left
 ·have e1:=CZ h2
  have:i=l.length:=by omega
  subst this;refine AH AZ e1 AB AB AB AB AB AB ?_;exact AL (by rw[S7 ha]) AA.out
 have e1:=Ca h2;have wi:=Cc (i:=i) (by omega);obtain⟨x,hx⟩:=CP h2;have hm:(Bb l)[i]?=some (i64 x):=by rw[A7,hx];rfl
 have cn:=hc x (Av hx);cases hb:p x
 ·rw[hb]at cn
  refine AH AZ (As e1 wi kN) hm cn AB AB AB AB ?_;refine⟨(i+1,_),⟨h2,λj z hj hjz=>?_⟩,by dsimp only;omega,AK⟩;rcases BG j i with h|h
  ·exact ha j z h hjz
  ·have:j=i:=by dsimp only at hj;omega
   subst this;rw[hx]at hjz;cases hjz;exact hb
 ·rw[hb]at cn
  refine AH AZ (As e1 wi kN) hm cn AB AB AB AB ?_;exact AL (by rw[Th hx hb ha]) AA.out
theorem wJ (b:Bool)(l:List Int)(c:D)[pc:AA c](p:Int->Bool)(hl:l.length<=1000000)(hc:∀x∈l,AI C0 101 [i64 x,c] (Aq (p x))):AI C0 100 [.sl b 1 (Bb l),.clo (.func 101) [] [c]] (Aq (l.any p)):=by
 refine Ag.walk w1 aT rfl λF=>?_
 have c1:=wQ b l c p hl hc;have e1:=Ti p l;refine AH AZ e1 c1 AB AB AB AB AB ?_;exact AL rfl AA.out
def Jn (x:At)(ns:List Int):Int:=if CQ x≠0 then CQ x else if ns.any (λi=>!JJ x i)then 10 else 0
theorem x8 (x:At)(hl:x.cells.length<=1000000)(hc:∀c∈x.cells,c.length<=1000000/\∀y∈c,y.few)(ns:List Int)(hn:ns.length<=1000000):AI C0 55 [x.D,.sl true 1 (Bb ns)] (i64 (Jn x ns)):=by
 refine Ag.walk w1 d7 rfl λF=>?_
 have cB:=Zp x hl hc;have cH:=wJ true ns (.pptr x.D) (λi=>!JJ x i) hn λi _=>vU x hl i
 have cW:=G7 (ns.any λi=>!JJ x i) 10;have hE:Jn x ns=if CQ x≠0 then CQ x else if ns.any (λi=>!JJ x i)then 10 else 0:=rfl
 obtain⟨E,hEE⟩:∃E,CQ x=E:=⟨_,rfl⟩
 rw[hEE]at cB hE;have hx:∃a b c d e,x.D=.agg [a,b,c,d,e]:=⟨_,_,_,_,_,rfl⟩
 have px:AA x.D:=AJ;have px2:AV x.D:=AJ;obtain⟨a1,a2,a3,a4,a5,hx⟩:=hx;rw[hx]at cB cH px px2⊢;rw[hE]
 by_cases h0:E=0
 rotate_left
 ·have k2:(E != 0)=true:=Ir h0
  rw[AG h0];refine AH AZ k2 cB AB AB AB AB AB ?_;exact AL rfl AA.out
 have k2:(E != 0)=false:=by rw[h0];rfl
 rw[AF (λh=>h h0)];refine AH AZ k2 cB AB AB AB AB AB ?_;refine BD.own _ (MA cH rfl (λi a d h1 h2=>by
  match i with
  | 0=>cases h1;cases h2;exact .refl _ _
  | 1=>cases h1;cases h2;exact .clo1 (.ptr rfl rfl rfl rfl)
  |n+2=>cases h1) AJ (.prim _)) ?_
 rintro d H' n' ⟨rfl,rfl,rfl⟩;refine AH AZ k2 cW AB AB AB AB AB ?_;exact AL rfl AA.out
def I4 (x:At)(i:Nat)(L:List AE):At:=⟨x.flow,x.core,x.room,x.side,(x.cells.map Bl).set i L⟩
def HI (l:List (List AE))(k:Nat):List D:=(l.take k).map (λc=>Am false (Bl c))++List.replicate (l.length-k) CM
theorem q6 {l:List (List AE)}{k:Nat}{c:List AE}(h:l[k]?=some c):(HI l k).set k (Am false (Bl c))=HI l (k+1):=by
 have hk:=(List.getElem?_eq_some_iff.1 h).1;unfold HI;rw[NV _ _ (by rw[Ak,Ba];omega)];rw[Ak,Ba,show k-min k l.length=0 by omega,Di,h,DA];rw[show l.length-k=(l.length-(k+1))+1 by omega,List.replicate_succ,List.set_cons_zero];rw[show List.map (λc=>Am false (Bl c)) (some c).toList=[Am false (Bl c)]from rfl,DZ];rfl
theorem qY (l:List (List AE))(k:Nat)(hk:k<=l.length):(HI l k).length=l.length:=by
 unfold HI;rw[Bh,Ak,Ba,Id];omega
theorem qX (l:List (List AE)):HI l l.length=(l.map Bl).map (Am false):=by
 unfold HI;rw[DO,Nat.sub_self,List.map_map];exact C3 _
theorem vp {l:List (List AE)}{k:Nat}(h:k<l.length):(HI l k)[k]?=some CM:=by
 unfold HI;rw[E6 (by rw[Ak,Ba];omega),Ak,Ba,show k-min k l.length=0 by omega,show l.length-k=(l.length-(k+1))+1 by omega,List.replicate_succ];rfl
theorem RL {H:Hp}{a b c d sD:D}{L:List D}(h:Fz H [] sD (.sl false 1 L)):Fz H [] (.agg [a,b,c,d,sD]) (.agg [a,b,c,d,.sl false 1 L]):=.agg rfl λi e e' h1 h2=>by
 match i with
 | 0=>cases h1;cases h2;exact .refl _
 | 1=>cases h1;cases h2;exact .refl _
 | 2=>cases h1;cases h2;exact .refl _
 | 3=>cases h1;cases h2;exact .refl _
 | 4=>cases h1;cases h2;exact h
 |n+5=>cases h1
theorem xa (x:At)(i:Nat)(hi:i<x.cells.length)(hl:x.cells.length<=1000000)(hc:∀c∈x.cells,AI C0 62 [Am false c] (Am false (Bl c)))(L:List AE):AI C0 59 [x.D,i64 (i:Int),Am false L] (I4 x i L).D:=by
 refine Ag.walk w1 dc rfl λF=>?_
 obtain⟨cs,hcs⟩:∃c,x.cells=c:=⟨_,rfl⟩
 have hW:(I4 x i L).D=.agg [str (sb x.flow),i64 x.core,i64 x.room,i64 x.side,.sl false 1 (((cs.map Bl).map (Am false)).set i (Am false L))]:=by
  rw[<-hcs,<-List.map_set];rfl
 have el:(((cs.map (Am false)).length:Nat):Int)=(cs.length:Int):=by rw[Ak]
 have pB:AA (I4 x i L).D:=AJ;rw[hW]at pB⊢;unfold At.D;rw[hcs]at hi hl hc⊢;have e0:decide ((cs.length:Int)<0)=false:=Ac (by omega);refine AH AZ (As el e0 kN) AB AB AB AB AB AB ?_;rw[show List.replicate cs.length (D.prim (Value.slice none 0 0))=HI cs 0 from by unfold HI;simp];refine AC.loop (α:=Nat×Nat) (λp=>⟨[(1,i64 (i:Int)),(2,Am false L),(3,.optr 0 0 5 0 0),(6,.optr 1 1 5 0 0),(7,.osl 103 5 1 0 cs.length),(15,FG false cs),(16,i64 (cs.length:Int)),(17,i64 (p.1:Int))],[⟨103,5,38,1,HI cs p.1⟩,⟨1,1,24,5,[.agg [.prim (.string ⟨#[]⟩),.prim (.int .i64 0),.prim (.int .i64 0),.prim (.int .i64 0),.prim (.slice none 0 0)]]⟩,⟨0,0,24,5,[.agg [str (sb x.flow),i64 x.core,i64 x.room,i64 x.side,FG false cs]]⟩],p.2⟩) (λp=>cs.length-p.1) (λq=>q.1<=cs.length/\11<=q.2) (0,_) ⟨BS _,Af _⟩ AK ?_;rintro⟨k,n⟩ F ⟨hk,hn⟩;dsimp only at hk hn⊢;have hlw:=qY cs k hk;rcases BG k cs.length with h2|h2
 rotate_left
 ·have k1:=CZ h2
  have:k=cs.length:=by omega
  subst this;rw[qX]at hlw⊢;obtain⟨W,hWW⟩:∃W,(cs.map Bl).map (Am false)=W:=⟨_,rfl⟩
  obtain⟨ci,hci⟩:=CP hi;have hwi:W[i]?=some (.sl false 3 ((Bl ci).map AE.D)):=by rw[<-hWW,A7,A7,hci];rfl
  rw[hWW]at hlw pB⊢;refine AH AZ (BW k1 hwi kN BU) AB AB AB AB AB AB ?_;have hR:=G5 (H:=[⟨103,5,38,1,W.set i (Am false L)⟩,⟨1,1,24,5,[.agg [str (sb x.flow),i64 x.core,i64 x.room,i64 x.side,.osl 103 5 1 0 cs.length]]⟩,⟨0,0,24,5,[.agg [str (sb x.flow),i64 x.core,i64 x.room,i64 x.side,.osl 103 5 1 0 cs.length]]⟩]) (Hf:=[]) (k:=103) (g:=5) (T:=38) (sz:=1) (l:=W.set i (Am false L)) rfl;rw[DE,hlw]at hR;exact⟨_,RL hR,pB.out,rfl⟩
 have k1:=Ca h2;have wi:=Cc (i:=k) (by omega);obtain⟨c,hc'⟩:=CP h2;have hm:(cs.map (Am false))[k]?=some (.sl false 3 (c.map AE.D)):=by rw[A7,hc'];rfl
 have cN:=hc c (Av hc');have hset:=q6 hc';have hat:=vp h2;obtain⟨es,hes⟩:∃e,HI cs k=e:=⟨_,rfl⟩
 rw[hes]at hlw hset hat⊢;refine AH AZ (CF k1 wi hat kN BU) hm cN AB AB AB AB ?_;refine⟨(k+1,n+1000),⟨h2,by dsimp only;omega⟩,by dsimp only;omega,?_⟩;dsimp only;rw[<-hset];exact AK
end Go.Ide
namespace Go.Proofs
open Go.Shelf Go.RowKit Go.Lib
def Tryz.growLay_ren:Go.Shelf.Ren:=⟨fun|4=>104|n=>n,fun|22=>38|25=>80|3=>3|4=>4|9=>9|20=>20|0=>0|n=>n,fun|n=>n⟩
theorem fv:Go.Proofs.Lays8.n4 Tryz.prog Tryz.growLay_ren:={
 mixed:=by kernel_rfl
 f4:=⟨Tryz.f104.name,by decide,Tryz.func104.trans (congrArg some (by kernel_rfl))⟩
 t0:=Tryz.underlying0
 a0:=Tryz.isAgg0
 z0:=Tryz.sizeOf0
 v0:=Tryz.zeroValue0
 t3:=Tryz.underlying3
 a3:=Tryz.isAgg3
 z3:=Tryz.sizeOf3
 v3:=Tryz.zeroValue3
 t4:=Tryz.underlying4
 a4:=Tryz.isAgg4
 z4:=Tryz.sizeOf4
 v4:=Tryz.zeroValue4
 t9:=Tryz.underlying9
 a9:=Tryz.isAgg9
 z9:=Tryz.sizeOf9
 v9:=Tryz.zeroValue9
 t20:=Tryz.underlying20
 a20:=Tryz.isAgg20
 z20:=Tryz.sizeOf20
 v20:=Tryz.zeroValue20
 t22:=Tryz.underlying38
 a22:=Tryz.isAgg38
 z22:=Tryz.sizeOf38
 v22:=Tryz.zeroValue38 }
end Go.Proofs
namespace Go.Ide
open Go.Proofs Go.RowKit Go.Lib
set_option maxRecDepth 20000
set_option maxHeartbeats 4000000
theorem J6 (K n:Nat)(h0:0<n)(hn:n<=1000000)(H:Hp)(m:Nat):Cd C0 104 [CM,i64 (n:Int)] H m (λd H' n'=>d=.osl K m 3 0 0/\H'=⟨K,m,80,3,[]⟩::H/\n'=m+1):=by
 refine⟨by obtain⟨fn,a1,a2,a3,-⟩:=UK;exact⟨fn,_,a1,a2,a3⟩,λF ρ w vs mm fr gn hsz rep=>?_⟩;obtain⟨v0,v1,rfl⟩:∃v0 v1,vs = #[v0,v1]:=by
  match vs,hsz with
  |⟨[a,b]⟩,_=>exact⟨a,b,rfl⟩
 have r0:AU ρ _ w CM v0:=rep 0 _ rfl;have r1:AU ρ _ w (i64 (n:Int)) v1:=rep 1 _ rfl;cases r0;cases r1;have hT:∃i,X1.tt 38=some i/\i.ti=.slice 80 3 48 (.agg #[.string ⟨#[]⟩,.int .i64 0,.slice none 0 0]):=⟨_,rfl,rfl⟩
 obtain⟨i,hi1,hi2⟩:=hT;obtain⟨-,⟨inf,k1,k2,k3,k4⟩,k5,k6⟩:=Ec (w1.tt _ _ hi1) hi2;have hc:=Any8.slices_Grow_grow fv inf _ k1 k4 (by rw[k2];decide) none 0 0 n [] w (Af _) (by omega) (by rw[k3];omega) (by omega) (by rw[k2];rfl) (λ_=>rfl) (λa h=>by cases h);refine Calls.mono hc ?_;rintro e w' ⟨rfl,rfl⟩;rw[show Tryz.growLay_ren.t 25=80 from rfl,BU];have hge:n<=grownCap w n 0 80:=grownCap_ge ..;have hmx:grownCap w n 0 80<=maxLen:=grownCap_le_maxLen _ _ _ _ (by simp only[maxLen];omega);generalize grownCap w n 0 80=cap at hge hmx⊢;obtain⟨z,hz⟩:∃z,(Value.agg #[.string ⟨#[]⟩,.int .i64 0,.slice none 0 0])=z:=⟨_,rfl⟩
 rw[hz]at k5 k6⊢;generalize hcs' : #[]++Builtin.zeroCells z.cells (n-0)++Builtin.zeroCells z.cells (cap-n)=cs';have hsz':cs'.size=cap*3:=by
  rw[<-hcs',JF,JF,size_zeroCells,size_zeroCells,k5];simp only[Jx,HJ];omega
 have ho:DB ρ (AN F.X ρ H) w.drew ⟨K,m,80,3,[]⟩ cs':=by
  refine⟨by simp,λq d h=>by simp at h,λq v hv=>?_,λq d j c h=>by simp at h⟩;rw[<-hcs']at hv;rcases BG q (#[]++Builtin.zeroCells z.cells (n-0)).size with hq|hq
  ·rw[GV hq,Array.empty_append]at hv
   exact Pm k6 _ _ v hv
  ·rw[GU hq]at hv
   exact Pm k6 _ _ v hv
 obtain⟨m1,x1⟩:=mm.drew.alloc ⟨K,m,80,3,[]⟩ cs' (fr _ _ (Af _)) (λe' he' h=>Nat.ne_of_lt (gn e' he') h.2) ho;refine⟨_,_,_,_,_,rfl,⟨rfl,rfl,rfl⟩,m1,(BR.drew _ _ _).trans x1,λk g hg=>?_,λe he=>?_,?_⟩
 ·unfold Lk.put
  rw[AF λh=>by have:=h.2;dsimp only at this;omega];exact fr k g (by omega)
 ·rcases A8.1 he with rfl|he
  ·exact HM _
  ·exact DF (gn e he)
 ·exact PJ (b:=w.heap.size) (T:=80) (cs:=cs') (fz:=(0,0)) (EJ _ _ _ _) (by rw[EG];exact AG rfl) (BS _) hsz'.symm hmx
theorem XQ {vs:List (List AE)}{i:Nat}{l:List AE}(h:vs[i]?=some l):(vs.take (i+1)).flatten=(vs.take i).flatten++l:=by
 rw[Di,h];simp
theorem Yr {vs:List (List AE)}(i:Nat):(vs.take i).flatten.length<=vs.flatten.length:=by
 have:vs.flatten=(vs.take i).flatten++(vs.drop i).flatten:=by rw[<-List.flatten_append,E2]
 rw[this,Bh];omega
theorem W7 (vs:List (List AE))(h0:vs.flatten≠[])(hl:vs.flatten.length<=1000000)(hv:vs.length<=1000000):AI C0 63 [.sl true 1 (vs.map (Am false))] (Am false vs.flatten):=by
 refine Ag.walk w1 VA rfl λF=>?_
 have el:(((vs.map (Am false)).length:Nat):Int)=(vs.length:Int):=by rw[Ak]
 have hpos:0<vs.flatten.length:=List.length_pos_iff.2 h0;have cG:=λm=>J6 1302 vs.flatten.length hpos hl [] m
 refine AH AZ el AB AB AB AB AB AB ?_;refine AC.loop (α:=Nat×Nat) (λp=>⟨[(0,.sl true 1 (vs.map (Am false))),(3,i64 ((vs.take p.1).flatten.length:Int)),(9,.sl true 1 (vs.map (Am false))),(10,i64 (vs.length:Int)),(11,i64 (p.1:Int))],[],p.2⟩) (λp=>vs.length-p.1) (λq=>q.1<=vs.length) (0,_) (BS _) AK ?_;rintro⟨i,n⟩ F hi;dsimp only at hi⊢;rcases BG i vs.length with h2|h2
 ·have e1:=Ca h2
  have wi:=Cc (i:=i) (by omega);obtain⟨x,hx⟩:=CP h2;have hm:(vs.map (Am false))[i]?=some (.sl false 3 (x.map AE.D)):=by rw[A7,hx];rfl
  have hs:=XQ hx;have hle:=Yr (vs:=vs) (i+1);have ex:(((x.map AE.D).length:Nat):Int)=(x.length:Int):=by rw[Ak]
  rw[hs,Bh]at hle;have w1':IntKind.i64.wrap (((vs.take i).flatten.length:Int)+(x.length:Int))=(((vs.take (i+1)).flatten.length:Nat):Int):=by
   rw[wI (by omega) (by omega),hs,Bh];omega
  have g0:decide ((((vs.take (i+1)).flatten.length:Nat):Int)<0)=false:=Ac (by omega);refine AH AZ (EM e1 wi ex w1' g0 kN) hm AB AB AB AB AB ?_;exact⟨(i+1,_),h2,by dsimp only;omega,AK⟩
 have e1:=CZ h2
 have:i=vs.length:=by omega
 subst this;rw[DO];refine AH AZ e1 AB AB AB AB AB AB ?_;refine BD.own _ (cG _) ?_;rintro d H' n' ⟨rfl,rfl,rfl⟩;refine AH AZ el AB AB AB AB AB AB ?_;refine AC.loop (α:=Nat×Nat×Nat) (λp=>⟨[(6,.osl 1302 p.2.1 3 0 (vs.take p.1).flatten.length),(25,.sl true 1 (vs.map (Am false))),(26,i64 (vs.length:Int)),(27,i64 (p.1:Int))],[⟨1302,p.2.1,80,3,(vs.take p.1).flatten.map AE.D⟩],p.2.2⟩) (λp=>vs.length-p.1) (λq=>q.1<=vs.length) (0,n+1+1,_) (BS _) AK ?_;clear hi h2 e1;rintro⟨i,g,n⟩ F hi;dsimp only at hi⊢;rcases BG i vs.length with h2|h2
 ·have e1:=Ca h2
  have wi:=Cc (i:=i) (by omega);obtain⟨x,hx⟩:=CP h2;have hm:(vs.map (Am false))[i]?=some (.sl false 3 (x.map AE.D)):=by rw[A7,hx];rfl
  have hs:=XQ hx;have hle:=Yr (vs:=vs) (i+1);have hln:((vs.take i).flatten.map AE.D).length=(vs.take i).flatten.length:=Ak ..;have hlx:(x.map AE.D).length=x.length:=Ak ..;rw[hs,Bh]at hle;obtain⟨R,hR⟩:∃R,(vs.take i).flatten=R:=⟨_,rfl⟩
  obtain⟨X,hX⟩:∃X,x.map AE.D=X:=⟨_,rfl⟩
  have pX:AA (.sl false 3 X):=by rw[<-hX];exact AJ
  rw[hR]at hs hle hln⊢;rw[hX]at hm hlx;obtain⟨RD,hRD⟩:∃X,R.map AE.D=X:=⟨_,rfl⟩
  rw[hRD]at hln⊢;refine AH AZ (As e1 wi kN) hm AB AB AB AB AB ?_;refine⟨(i+1,n+1+1+1+1+1+1,n+1+1+1+1+1+1+1+1+1+1),h2,by dsimp only;omega,?_⟩;dsimp only;rw[hs,Bh,DA,hRD,hX,hlx];rw[CA (show RD.length<=R.length by omega)];exact AK
 have e1:=CZ h2
 have:i=vs.length:=by omega
 subst this;rw[DO];have hR:=G5 (H:=[⟨1302,g,80,3,vs.flatten.map AE.D⟩]) (Hf:=[]) (k:=1302) (g:=g) (T:=80) (sz:=3) (l:=vs.flatten.map AE.D) rfl;rw[Ak]at hR;refine AH AZ e1 AB AB AB AB AB AB ?_;exact⟨_,hR,AA.out,rfl⟩
end Go.Ide
namespace Go.Ide
open Go.Proofs Go.RowKit Go.Lib
set_option maxRecDepth 20000
set_option maxHeartbeats 4000000
theorem o8:AI C0 104 [CM,i64 0] CM:=by
 refine⟨by obtain⟨fn,a1,a2,a3,-⟩:=UK;exact⟨fn,_,a1,a2,a3⟩,λX w vs _ _ _ hsz rep=>?_⟩;obtain⟨v0,v1,rfl⟩:∃v0 v1,vs = #[v0,v1]:=by
  match vs,hsz with
  |⟨[a,b]⟩,_=>exact⟨a,b,rfl⟩
 have r0:AU nol _ w CM v0:=rep 0 _ rfl;have r1:AU nol _ w (i64 0) v1:=rep 1 _ rfl;cases r0;cases r1;refine(Any8.slices_Grow_room fv none 0 0 0 w (Af _) (by omega) (by omega) (Af _)).mono ?_;rintro e w' ⟨rfl,rfl⟩;exact⟨_,_,rfl,.refl _ _,rfl,.prim _⟩
theorem iS (vs:List (List AE))(h0:∀x∈vs,x=[])(hv:vs.length<=1000000):AI C0 63 [.sl true 1 (vs.map (Am false))] (Am false []):=by
 refine Ag.walk w1 VA rfl λF=>?_
 have el:(((vs.map (Am false)).length:Nat):Int)=(vs.length:Int):=by rw[Ak]
 have cG:=o8;refine AH AZ el AB AB AB AB AB AB ?_;refine AC.loop (α:=Nat×Nat) (λp=>⟨[(0,.sl true 1 (vs.map (Am false))),(3,i64 0),(9,.sl true 1 (vs.map (Am false))),(10,i64 (vs.length:Int)),(11,i64 (p.1:Int))],[],p.2⟩) (λp=>vs.length-p.1) (λq=>q.1<=vs.length) (0,_) (BS _) AK ?_;rintro⟨i,n⟩ F hi;dsimp only at hi⊢;rcases BG i vs.length with h2|h2
 ·have e1:=Ca h2
  have wi:=Cc (i:=i) (by omega);obtain⟨x,hx⟩:=CP h2;have hx0:=h0 x (Av hx);subst hx0;have hm:(vs.map (Am false))[i]?=some (.sl false 3 []):=by rw[A7,hx];rfl
  have ln0:([]:List D).length=0:=rfl;have w1':IntKind.i64.wrap (0+((0:Nat):Int))=0:=rfl;have g0:decide ((0:Int)<0)=false:=rfl;refine AH AZ (EM e1 wi ln0 w1' g0 kN) hm AB AB AB AB AB ?_;exact⟨(i+1,_),h2,by dsimp only;omega,AK⟩
 have e1:=CZ h2
 have:i=vs.length:=by omega
 subst this;refine AH AZ (Aj el e1) cG AB AB AB AB AB ?_;refine AC.ghost 1302 80 3 [(6,.osl 1302 _ 3 0 0),(25,.sl true 1 (vs.map (Am false))),(26,i64 (vs.length:Int)),(27,i64 ((0:Nat):Int))] ⟨.inr ⟨rfl,rfl⟩,.inl rfl,.inl rfl,.inl rfl,trivial⟩ ?_;refine AC.loop (α:=Nat×Nat×Nat) (λp=>⟨[(6,.osl 1302 p.2.1 3 0 0),(25,.sl true 1 (vs.map (Am false))),(26,i64 (vs.length:Int)),(27,i64 (p.1:Int))],[⟨1302,p.2.1,80,3,[]⟩],p.2.2⟩) (λp=>vs.length-p.1) (λq=>q.1<=vs.length) (0,_,_) (BS _) AK ?_;clear hi h2 e1;rintro⟨i,g,n⟩ F hi;dsimp only at hi⊢;rcases BG i vs.length with h2|h2
 ·have e1:=Ca h2
  have wi:=Cc (i:=i) (by omega);obtain⟨x,hx⟩:=CP h2;have hx0:=h0 x (Av hx);subst hx0;have hm:(vs.map (Am false))[i]?=some (.sl false 3 []):=by rw[A7,hx];rfl
  refine AH AZ (As e1 wi kN) hm AB AB AB AB AB ?_;exact⟨(i+1,n+1+1+1+1+1+1,n+1+1+1+1+1+1+1+1+1+1),h2,by dsimp only;omega,AK⟩
 have e1:=CZ h2;have hR:=G5 (H:=[⟨1302,g,80,3,[]⟩]) (Hf:=[]) (k:=1302) (g:=g) (T:=80) (sz:=3) (l:=[]) rfl;refine AH AZ e1 AB AB AB AB AB AB ?_;exact⟨_,hR,AA.out,rfl⟩
theorem lL (vs:List (List AE))(hl:vs.flatten.length<=1000000)(hv:vs.length<=1000000):AI C0 63 [.sl true 1 (vs.map (Am false))] (Am false vs.flatten):=by
 by_cases h:vs.flatten=[]
 ·rw[h]
  exact iS vs (λx hx=>E5 (Nat.le_zero.1 (by
   have:=(List.sublist_flatten_of_mem hx).length_le
   rwa [h]at this))) hv
 ·exact W7 vs h hl hv
def O5:List AE->Int->List AE
 | [],_=>[]
 |x::r,m=>x.w (min m x.mass)::O5 r (m-min m x.mass)
abbrev T4:Dr:=[(1,[0,1,2,3,4,5,6],[7]),(9,[0,1,2,3,4],[5,6])]
open Go.Proofs Go.RowKit
set_option maxRecDepth 20000
set_option maxHeartbeats 4000000
def Ez:List AE->Int->Int->List AE
 | [],_,_=>[]
 |x::r,low,left=>x.w (min (x.mass-min x.mass low) left)::Ez r (low-min x.mass low) (left-min (x.mass-min x.mass low) left)
structure Vs where
 o:List AE
 low:Int
 left:Int
 g:Nat
def Jk (g1 g2:Nat)(p:Vs):Hp:=Dm 905 p.g 80 3 (p.o.map AE.D)++[⟨200,g2,38,1,[Dw 905 p.g 3 (p.o.map AE.D)]⟩,⟨106,g1,3,1,[i64 p.left]⟩,⟨0,0,3,1,[i64 p.low]⟩]
theorem Ym (g1 g2:Nat)(a b:Int)(g:Nat):Jk g1 g2 ⟨[],a,b,g⟩=[⟨200,g2,38,1,[CM]⟩,⟨106,g1,3,1,[i64 b]⟩,⟨0,0,3,1,[i64 a]⟩]:=rfl
theorem QK (g1 g2:Nat)(z:AE)(o:List AE)(a b:Int)(g:Nat):Jk g1 g2 ⟨z::o,a,b,g⟩=[⟨905,g,80,3,z.D::o.map AE.D⟩,⟨200,g2,38,1,[.osl 905 g 3 0 ((o.map AE.D).length+1)]⟩,⟨106,g1,3,1,[i64 b]⟩,⟨0,0,3,1,[i64 a]⟩]:=rfl
def Ow (L:List AE)(low left:Int)(k:Nat)(p:Vs):Prop:=p.o.length=k/\p.o++Ez (L.drop k) p.low p.left=Ez L low left/\0<=p.low/\p.low<=1000000000000/\0<=p.left/\p.left<=1000000000000000
theorem WS (b:Bool)(l:List AE)(low high:Int)(hl:l.length<=1000000)(h1:0<=low/\low<=1000000000000)(h2:0<=high/\high<=1000000000000)(t:Int)(ht:low+high<=t/\t<=1000000000000000)(hx:∀x∈l,0<=x.mass/\x.mass<=1000000000)
  (cT:AI C0 57 [Am b l] (i64 t))
  (ho:∀x∈l,∀m,AI C0 94 [x.D,i64 m] (x.w m).D) (R:D) [pR:AA R] (hN:AI C0 62 [Am false (Ez l low (t-low-high))] R):
  AI C0 60 [Am b l,i64 low,i64 high] R:=by
 refine Ag.walk w1 de rfl λF=>?_
 have cV:=TV b false (l.map AE.D);have hT:∀x∈l.map AE.D,∃a c d,x=.agg [a,c,d]:=λx hx=>by
  obtain⟨y,-,rfl⟩:=List.mem_map.1 hx;exact⟨_,_,_,rfl⟩
 have hoA:∀k,k<l.length->∃y,y∈l/\l[k]?=some y/\(l.map AE.D)[if false then(l.map AE.D).length-1-k else k]?=some y.D:=λk hk=>⟨_,List.getElem_mem hk,BE hk,by
  show(l.map AE.D)[k]?=_;rw[A7,BE hk];rfl⟩
 unfold Am at cT⊢;obtain⟨T,hTT⟩:∃T,l.map AE.D=T:=⟨_,rfl⟩
 have pT:AA (.sl b 3 T):=by rw[<-hTT];exact AJ
 have hTl:T.length=l.length:=by rw[<-hTT,Ak]
 rw[hTT]at cV hT hoA cT⊢;have w1':IntKind.i64.wrap (t-low)=t-low:=wI (by omega) (by omega);have w2:IntKind.i64.wrap (t-low-high)=t-low-high:=wI (by omega) (by omega);obtain⟨e,he⟩:∃e,t-low-high=e:=⟨_,rfl⟩
 have w2':IntKind.i64.wrap (t-low-high)=e:=by rw[w2,he]
 rw[he]at hN;have he0:0<=e/\e<=1000000000000000:=by omega
 refine AH T4 (Aj w1' w2') cT cV AB AB AB AB ?_;have h0:Ow l low e 0 ⟨[],low,e,0⟩:=⟨rfl,rfl,h1.1,h1.2,he0.1,he0.2⟩
 refine AC.rangeFunc (fi:=142) (first:=[]) (captured:=[.pptr (.sl b 3 T),.pptr (Aq false)]) (Ψ:=λj _ H' _=>(j=none/\∃a,Ow l low e T.length a/\H'=Jk 8 11 a)\/(j=some (.exit 0)/\False)) rfl
  (λds H n Φ=>∃k a x,Ow l low e k a/\k<T.length/\T[if false then T.length-1-k else k]?=some x/\ds=[x]/\H=Jk 8 11 a/\Φ=λj H' _=>(j=none/\∃a',Ow l low e (k+1) a'/\Cg H' (Jk 8 11 a') H' (Jk 8 11 a'))\/(j=some (.exit 0)/\False)) ?_
  (λE l' R' hE hY=>VM hE b false T hT (by omega) (λ_ a=>Jk 8 11 a) (Ow l low e) (.exit 0) (λ_=>False) ⟨[],low,e,0⟩ h0 _ λk a x n hP hk hx=>hY _ _ _ _ ⟨k,a,x,hP,hk,hx,rfl,rfl,rfl⟩) ?_
 ·rintro l' ds H n Φ ⟨k,⟨o,lw,lf,g⟩,x,⟨p1,p2,p3,p4,p6,p7⟩,hk,hxT,rfl,rfl,rfl⟩
  dsimp only at p1 p2 p3 p4 p6 p7;obtain⟨y,hy1,hy2,hy3⟩:=hoA k (by omega);rw[hy3]at hxT;cases hxT;have hd:l.drop k=y::l.drop (k+1):=by
   have:=(List.getElem?_eq_some_iff.1 hy2)
   rw[EK this.1,this.2]
  rw[hd]at p2;have hb:=hx y hy1;have cO:=ho y hy1 (min (y.mass-min y.mass lw) lf);have p5:(o++[y.w (min (y.mass-min y.mass lw) lf)])++Ez (l.drop (k+1)) (lw-min y.mass lw) (lf-min (y.mass-min y.mass lw) lf)=Ez l low e:=by
   rw[<-p2,DZ];rfl
  have a1:IntKind.i64.wrap (lw-min y.mass lw)=lw-min y.mass lw:=wI (by omega) (by omega);have a2:IntKind.i64.wrap (y.mass-min y.mass lw)=y.mass-min y.mass lw:=wI (by omega) (by omega);have a3:IntKind.i64.wrap (lf-min (y.mass-min y.mass lw) lf)=lf-min (y.mass-min y.mass lw) lf:=wI (by omega) (by omega);have q1:0<=lw-min y.mass lw/\lw-min y.mass lw<=1000000000000/\0<=lf-min (y.mass-min y.mass lw) lf/\lf-min (y.mass-min y.mass lw) lf<=1000000000000000:=by omega
  refine⟨rfl,λF=>?_⟩;unfold AE.w AE.D at cO;unfold AE.D;dsimp only at cO⊢;obtain⟨SD,hSD⟩:∃d,DD false y.shs=d:=⟨_,rfl⟩
  have pS:AA SD:=by rw[<-hSD];exact AJ
  rw[hSD]at cO⊢;rcases o with _|⟨z,o⟩
  ·rw[Ym]
   dsimp only[Gl];refine Ao w1 400 (by kernel_rfl) ?_;refine AD kB ?_;refine⟨trivial,trivial,λF'=>?_⟩;refine AH T4 (As a1 a2 a3) cO AB AB AB AB AB ?_;refine .inl ⟨rfl,⟨[y.w (min (y.mass-min y.mass lw) lf)],lw-min y.mass lw,lf-min (y.mass-min y.mass lw) lf,n+1+1+1+1+1+1+1+1+1+1+1+1+1+1+1+1+1+1+1+1+1+1+7⟩,⟨by rw[<-p1];rfl,p5,q1⟩,?_⟩;rw[QK,<-hSD];exact .keep (.drop (Gz _))
  ·have hol:o.length<=1000000:=by rw[Bo]at p1;omega
   rw[QK];dsimp only[Gl];obtain⟨O,hO⟩:∃O,o.map AE.D=O:=⟨_,rfl⟩
   obtain⟨zD,hzD⟩:∃O,z.D=O:=⟨_,rfl⟩
   have hOl:O.length=o.length:=by rw[<-hO,Ak]
   rw[hO,hzD];refine Ao w1 400 (by kernel_rfl) ?_;refine AD kB ?_;refine⟨trivial,trivial,λF'=>?_⟩;refine AH T4 (As a1 a2 a3) cO AB AB AB AB AB ?_;rw[show List.take (O.length+1) (zD::O)=zD::O from DO (l:=zD::O)];refine .inl ⟨rfl,⟨z::o++[y.w (min (y.mass-min y.mass lw) lf)],lw-min y.mass lw,lf-min (y.mass-min y.mass lw) lf,n+1+1+1+1+1+1+1+1+1+1+1+1+1+1+1+1+1+1+1+1+1+1+7⟩,⟨by rw[<-p1];simp,p5,q1⟩,?_⟩;have hs:∀g' a b,Jk 8 11 ⟨z::o++[y.w (min (y.mass-min y.mass lw) lf)],a,b,g'⟩=[⟨905,g',80,3,zD::O++[.agg [str (sb y.grain),i64 (min (y.mass-min y.mass lw) lf),SD]]⟩,⟨200,11,38,1,[.osl 905 g' 3 0 (O.length+1+1)]⟩,⟨106,8,3,1,[i64 b]⟩,⟨0,0,3,1,[i64 a]⟩]:=λg' a b=>by
    rw[Ek,QK,<-hO,<-hzD,<-hSD,DA];rw[Bh];rfl
   rw[hs];exact .keep (.drop (Gz _))
 ·rintro j d H' n' F' hE
  rcases hE with⟨rfl,⟨o,lw,lf,g⟩,⟨p1,p2,-⟩,rfl⟩|⟨-,h⟩
  rotate_left
  ·exact h.elim
  dsimp only at p2;rw[List.drop_eq_nil_of_le (by omega)]at p2;have ho2:o=Ez l low e:=by rw[<-p2];exact(C3 o).symm
  rw[<-ho2]at hN;rcases o with _|⟨z,o⟩
  ·rw[Ym]
   change AC _ _ _ _ _ _ _;refine sR 1000 ?_;refine BD.pure [.sl false 3 []] _ ⟨.nil 3,trivial⟩ hN AJ ?_;refine BN ?_;refine Ah ?_;exact AL rfl pR.out
  ·have hR:=G5 (H:=Jk 8 11 ⟨z::o,lw,lf,g⟩) (Hf:=[]) (k:=905) (g:=g) (T:=80) (sz:=3) (l:=(z::o).map AE.D) rfl
   have hle:((z::o).map AE.D).length=(o.map AE.D).length+1:=rfl;rw[hle]at hR;rw[QK]at hR⊢;change AC _ _ _ _ _ _ _;refine sR 1000 ?_;refine BD.own _ (PK [] hN (.drop (.drop (.drop (.drop .nil)))) ⟨hR,trivial⟩ AJ) ?_;rintro d H2 n2 ⟨rfl,rfl,rfl⟩;refine BN ?_;refine Ah ?_;exact AL rfl pR.out
def RN (lot:List UInt8)(x:AE):Bool:=x.shs.any λs=>BJ (sb s.lot) (sb lot)
def K5 (lot:List UInt8):List AE->Int->List (Int×Int)
 | [],_=>[]
 |x::r,n=>(if RN lot x then[(n+1,n+x.mass)]else[])++K5 lot r (n+x.mass)
def Fh (p:Int×Int):D:=.agg [i64 p.1,i64 p.2]
instance  (p:Int×Int):AV (Fh p):=by unfold Fh;exact AJ
instance  (p:Int×Int):AA (Fh p):=by unfold Fh;exact AJ
theorem xq (lot:List UInt8)(s:Ay):AI C0 174 [s.D,.pptr (str (sb lot))] (Aq (BJ (sb s.lot) (sb lot))):=by
 refine Ag.walk w1 aF rfl λF=>?_
 unfold Ay.D;refine AH AZ kB AB AB AB AB AB AB ?_;exact AL rfl AA.out
theorem wR (b:Bool)(l:List Ay)(c:D)[pc:AA c](p:Ay->Bool)(hl:l.length<=1000000)(hc:∀x∈l,AI C0 174 [x.D,c] (Aq (p x))):AI C0 235 [DD b l,.clo (.func 174) [] [c]] (i64 (Jr p l)):=by
 refine Ag.walk w1 b9 rfl λF=>?_
 have el:(((l.map Ay.D).length:Nat):Int)=(l.length:Int):=by rw[Ak]
 refine AH AZ el AB AB AB AB AB AB ?_;refine AC.loop (α:=Nat×Nat) (λp=>⟨[(0,DD b l),(1,.clo (.func 174) [] [c]),(7,i64 l.length),(8,i64 (p.1:Int))],[],p.2⟩) (λp=>l.length-p.1) (λq=>q.1<=l.length/\∀(j:Nat) (x:Ay),j<q.1->l[j]?=some x->p x=false) (0,_) ⟨BS _,λj x hj=>Ae hj (HN j)⟩ AK ?_;rintro⟨i,n⟩ F ⟨hi,ha⟩;dsimp only at hi ha⊢;rcases BG i l.length with h2|h2
 rotate_left
 ·have e1:=CZ h2
  have:i=l.length:=by omega
  subst this;refine AH AZ e1 AB AB AB AB AB AB ?_;exact AL (by rw[S7 ha]) AA.out
 have e1:=Ca h2;have wi:=Cc (i:=i) (by omega);obtain⟨x,hx⟩:=CP h2;have hm:(l.map Ay.D)[i]?=some (.agg [str (sb x.lot),str (sb x.part)]):=by rw[A7,hx];rfl
 have cn:=hc x (Av hx);unfold Ay.D at cn;cases hb:p x
 ·rw[hb]at cn
  refine AH AZ (As e1 wi kN) hm cn AB AB AB AB ?_;refine⟨(i+1,_),⟨h2,λj z hj hjz=>?_⟩,by dsimp only;omega,AK⟩;rcases BG j i with h|h
  ·exact ha j z h hjz
  ·have:j=i:=by dsimp only at hj;omega
   subst this;rw[hx]at hjz;cases hjz;exact hb
 ·rw[hb]at cn
  refine AH AZ (As e1 wi kN) hm cn AB AB AB AB ?_;exact AL (by rw[Th hx hb ha]) AA.out
theorem wK (b:Bool)(l:List Ay)(c:D)[pc:AA c](p:Ay->Bool)(hl:l.length<=1000000)(hc:∀x∈l,AI C0 174 [x.D,c] (Aq (p x))):AI C0 173 [DD b l,.clo (.func 174) [] [c]] (Aq (l.any p)):=by
 refine Ag.walk w1 aE rfl λF=>?_
 have c1:=wR b l c p hl hc;have e1:=Ti p l;refine AH AZ e1 c1 AB AB AB AB AB ?_;exact AL rfl AA.out
structure Vu where
 o:List (Int×Int)
 n:Int
 g:Nat
def J9 (lot:List UInt8)(g1 g2:Nat)(p:Vu):Hp:=Dm 609 p.g 129 2 (p.o.map Fh)++[⟨200,g2,3,1,[i64 p.n]⟩,⟨100,g1,127,1,[Dw 609 p.g 2 (p.o.map Fh)]⟩,⟨0,0,9,1,[str (sb lot)]⟩]
theorem ZT (lot:List UInt8)(g1 g2:Nat)(n:Int)(g:Nat):J9 lot g1 g2 ⟨[],n,g⟩=[⟨200,g2,3,1,[i64 n]⟩,⟨100,g1,127,1,[CM]⟩,⟨0,0,9,1,[str (sb lot)]⟩]:=rfl
theorem QY (lot:List UInt8)(g1 g2:Nat)(z:Int×Int)(o:List (Int×Int))(n:Int)(g:Nat):J9 lot g1 g2 ⟨z::o,n,g⟩=[⟨609,g,129,2,Fh z::o.map Fh⟩,⟨200,g2,3,1,[i64 n]⟩,⟨100,g1,127,1,[.osl 609 g 2 0 ((o.map Fh).length+1)]⟩,⟨0,0,9,1,[str (sb lot)]⟩]:=rfl
def PC (lot:List UInt8)(l:List AE)(k:Nat)(p:Vu):Prop:=p.o.length<=k/\p.o++K5 lot (l.drop k) p.n=K5 lot l 0/\0<=p.n/\p.n<=(k:Int)*1000000000
theorem gh (b:Bool)(l:List AE)(lot:List UInt8)(hl:l.length<=1000000)(hx:∀x∈l,0<=x.mass/\x.mass<=1000000000/\x.shs.length<=1000000):
  AI C0 126 [Am b l,str (sb lot)] (.sl false 2 ((K5 lot l 0).map Fh)):=by
 refine Ag.walk w1 al rfl λF=>?_
 have cV:=TV b false (l.map AE.D);have hT:∀x∈l.map AE.D,∃a c d,x=.agg [a,c,d]:=λx hx=>by
  obtain⟨y,-,rfl⟩:=List.mem_map.1 hx;exact⟨_,_,_,rfl⟩
 have hoA:∀k,k<l.length->∃y,y∈l/\l[k]?=some y/\(l.map AE.D)[if false then(l.map AE.D).length-1-k else k]?=some y.D:=λk hk=>⟨_,List.getElem_mem hk,BE hk,by
  show(l.map AE.D)[k]?=_;rw[A7,BE hk];rfl⟩
 unfold Am;obtain⟨T,hTT⟩:∃T,l.map AE.D=T:=⟨_,rfl⟩
 have pT:AA (.sl b 3 T):=by rw[<-hTT];exact AJ
 have hTl:T.length=l.length:=by rw[<-hTT,Ak]
 rw[hTT]at cV hT hoA⊢;refine AH AZ kB cV AB AB AB AB AB ?_;have h0:PC lot l 0 ⟨[],0,0⟩:=⟨Af _,rfl,Int.le_refl _,Int.le_refl _⟩
 refine AC.rangeFunc (fi:=142) (first:=[]) (captured:=[.pptr (.sl b 3 T),.pptr (Aq false)]) (Ψ:=λj _ H' _=>(j=none/\∃a,PC lot l T.length a/\H'=J9 lot 2 3 a)\/(j=some (.exit 0)/\False)) rfl
  (λds H n Φ=>∃k a x,PC lot l k a/\k<T.length/\T[if false then T.length-1-k else k]?=some x/\ds=[x]/\H=J9 lot 2 3 a/\Φ=λj H' _=>(j=none/\∃a',PC lot l (k+1) a'/\Cg H' (J9 lot 2 3 a') H' (J9 lot 2 3 a'))\/(j=some (.exit 0)/\False)) ?_
  (λE l' R' hE hY=>VM hE b false T hT (by omega) (λ_ a=>J9 lot 2 3 a) (PC lot l) (.exit 0) (λ_=>False) ⟨[],0,0⟩ h0 _ λk a x n hP hk hx=>hY _ _ _ _ ⟨k,a,x,hP,hk,hx,rfl,rfl,rfl⟩) ?_
 ·rintro l' ds H n Φ ⟨k,⟨o,nn,g⟩,x,⟨p1,p2,p3,p4⟩,hk,hxT,rfl,rfl,rfl⟩
  dsimp only at p1 p2 p3 p4;obtain⟨y,hy1,hy2,hy3⟩:=hoA k (by omega);rw[hy3]at hxT;cases hxT;have hd:l.drop k=y::l.drop (k+1):=by
   have:=(List.getElem?_eq_some_iff.1 hy2)
   rw[EK this.1,this.2]
  rw[hd]at p2;have hb:=hx y hy1;have cH:=wK false y.shs (.pptr (str (sb lot))) (λs=>BJ (sb s.lot) (sb lot)) hb.2.2 λs _=>xq lot s
  have hK:(y.shs.any λs=>BJ (sb s.lot) (sb lot))=RN lot y:=rfl;rw[hK]at cH;have p5:(o++(if RN lot y then[(nn+1,nn+y.mass)]else[]))++K5 lot (l.drop (k+1)) (nn+y.mass)=K5 lot l 0:=by
   rw[<-p2,DZ];rfl
  obtain⟨K,hKK⟩:∃K,RN lot y=K:=⟨_,rfl⟩
  rw[hKK]at cH p5;have a1:IntKind.i64.wrap (nn+y.mass)=nn+y.mass:=wI (by omega) (by omega);have a2:IntKind.i64.wrap (nn+1)=nn+1:=wI (by omega) (by omega);have q1:0<=nn+y.mass/\nn+y.mass<=((k+1:Nat):Int)*1000000000:=by omega
  refine⟨rfl,λF=>?_⟩;unfold AE.D;unfold DD at cH⊢;obtain⟨SD,hSD⟩:∃d,y.shs.map Ay.D=d:=⟨_,rfl⟩
  have pS:AA (.sl false 2 SD):=by rw[<-hSD];exact AJ
  rw[hSD]at cH⊢;rcases o with _|⟨z,o⟩
  ·rw[ZT]
   dsimp only[Gl];refine Ao w1 400 (by kernel_rfl) ?_;refine AD kB ?_;refine⟨trivial,trivial,λF'=>?_⟩;refine AH AZ kB AB AB AB AB AB AB ?_;refine BD.own _ (MA cH rfl (λi a d h1 h2=>by
    match i with
    | 0=>cases h1;cases h2;exact .refl _ _
    | 1=>cases h1;cases h2;exact .clo1 (.ptr rfl rfl rfl rfl)
    |n+2=>cases h1) AJ (.prim _)) ?_
   rintro d H' n' ⟨rfl,rfl,rfl⟩;cases K
   ·refine AH AZ (Aj a1 a2) AB AB AB AB AB AB ?_
    exact .inl ⟨rfl,⟨[],nn+y.mass,0⟩,⟨BS _,p5,q1⟩,.drop (Gz _)⟩
   ·refine AH AZ (Aj a1 a2) AB AB AB AB AB AB ?_
    exact .inl ⟨rfl,⟨[(nn+1,nn+y.mass)],nn+y.mass,n+1+1+1+1+1+1+1+1+1+1+1+1+1+1+1⟩,⟨by simp,p5,q1⟩,.keep (.drop (Gz _))⟩
  ·have hol:o.length<=1000000:=by rw[Bo]at p1;omega
   rw[QY];dsimp only[Gl];obtain⟨O,hO⟩:∃O,o.map Fh=O:=⟨_,rfl⟩
   obtain⟨zD,hzD⟩:∃O,Fh z=O:=⟨_,rfl⟩
   have hOl:O.length=o.length:=by rw[<-hO,Ak]
   rw[hO,hzD];refine Ao w1 400 (by kernel_rfl) ?_;refine AD kB ?_;refine⟨trivial,trivial,λF'=>?_⟩;refine AH AZ kB AB AB AB AB AB AB ?_;refine BD.own _ (MA cH rfl (λi a d h1 h2=>by
    match i with
    | 0=>cases h1;cases h2;exact .refl _ _
    | 1=>cases h1;cases h2;exact .clo1 (.ptr rfl rfl rfl rfl)
    |n+2=>cases h1) AJ (.prim _)) ?_
   rintro d H' n' ⟨rfl,rfl,rfl⟩;cases K
   ·refine AH AZ (Aj a1 a2) AB AB AB AB AB AB ?_
    refine .inl ⟨rfl,⟨z::o,nn+y.mass,g⟩,⟨Nat.le_succ_of_le p1,by rw[<-p5,AF Bool.false_ne_true,C3],q1⟩,?_⟩;rw[QY,hO,hzD];exact .drop (Gz _)
   ·refine AH AZ (Aj a1 a2) AB AB AB AB AB AB ?_
    rw[show List.take (O.length+1) (zD::O)=zD::O from DO (l:=zD::O)];refine .inl ⟨rfl,⟨z::o++[(nn+1,nn+y.mass)],nn+y.mass,n+1+1+1+1+1+1+1+1+1+1+1+1+1+1+1⟩,⟨by rw[Bh];exact Nat.succ_le_succ p1,p5,q1⟩,?_⟩;have hs:∀g' a,J9 lot 2 3 ⟨z::o++[(nn+1,nn+y.mass)],a,g'⟩=[⟨609,g',129,2,zD::O++[.agg [i64 (nn+1),i64 (nn+y.mass)]]⟩,⟨200,3,3,1,[i64 a]⟩,⟨100,2,127,1,[.osl 609 g' 2 0 (O.length+1+1)]⟩,⟨0,0,9,1,[str (sb lot)]⟩]:=λg' a=>by
     rw[Ek,QY,<-hO,<-hzD,DA];rw[Bh];rfl
    rw[hs];exact .keep (.drop (Gz _))
 ·rintro j d H' n' F' hE
  rcases hE with⟨rfl,⟨o,nn,g⟩,⟨p1,p2,-⟩,rfl⟩|⟨-,h⟩
  rotate_left
  ·exact h.elim
  dsimp only at p2;rw[List.drop_eq_nil_of_le (by omega)]at p2;have ho2:o=K5 lot l 0:=by rw[<-p2];exact(C3 o).symm
  rw[<-ho2];rcases o with _|⟨z,o⟩
  ·rw[ZT]
   change AC _ _ _ _ _ _ _;refine sR 800 ?_;refine Ah ?_;exact⟨_,.nil 2,AA.out,rfl⟩
  ·have hR:=G5 (H:=J9 lot 2 3 ⟨z::o,nn,g⟩) (Hf:=[]) (k:=609) (g:=g) (T:=129) (sz:=2) (l:=(z::o).map Fh) rfl
   have hle:((z::o).map Fh).length=(o.map Fh).length+1:=rfl;rw[hle]at hR;rw[QY]at hR⊢;change AC _ _ _ _ _ _ _;refine sR 800 ?_;refine Ah ?_;exact⟨_,hR,AA.out,rfl⟩
theorem mg {x:AE}{l:List AE}(h:x.mass=0):DG (x::l)=DG l:=by
 unfold DG;rw[List.filter_cons,AF (by rw[h];decide)]
theorem me {x:AE}{l r:List AE}(h:DG l=DG r):DG (x::l)=DG (x::r):=by
 unfold DG at h⊢;rw[List.filter_cons,List.filter_cons,h]
theorem Xp:∀ {l:List AE},(∀x∈l,0<=x.mass)->DG (O5 l 0)=[]
 | [],_=>rfl
 |x::r,h=>by
  have h1:=h x (B9 ..);show DG (x.w (min 0 x.mass)::O5 r (0-min 0 x.mass))=[];rw[show min 0 x.mass=0 by omega,mg rfl];exact Xp λy hy=>h y (CD _ hy)
theorem uo:∀ {l:List AE} {m:Int},(∀x∈l,0<=x.mass)->0<=m->DG (D4 l m)=DG (O5 l m)
 | [],_,_,_=>rfl
 |x::r,m,h,hm=>by
  have h1:=h x (B9 ..);have h2:∀y∈r,0<=y.mass:=λy hy=>h y (CD _ hy)
  show DG (x.w (min x.mass m)::if m-x.mass<=0 then[]else D4 r (m-x.mass))=DG (x.w (min m x.mass)::O5 r (m-min m x.mass));rw[show min x.mass m=min m x.mass by omega];refine me ?_
  by_cases hz:m-x.mass<=0
  ·rw[AG hz,show m-min m x.mass=0 by omega,Xp h2];rfl
  ·rw[AF hz,show m-min m x.mass=m-x.mass by omega]
   exact uo h2 (by omega)
theorem Ur:∀ {l:List AE} {m:Int},(∀x∈l,0<=x.mass/\x.mass<=1000000000/\x.shs.length<=1000000)->0<=m->∀y∈D4 l m,0<=y.mass/\y.mass<=1000000000/\y.shs.length<=1000000
 | [],_,_,_,y,hy=>by cases hy
 |x::r,m,h,hm,y,hy=>by
  obtain⟨h1,h2,h3⟩:=h x (B9 ..);rcases A8.1 hy with rfl|h4
  ·exact⟨by show 0<=min x.mass m;omega,by show min x.mass m<=_;omega,h3⟩
  ·split at h4
   ·cases h4
   ·exact Ur (λz hz=>h z (CD _ hz)) (by omega) y h4
theorem UF:∀(l:List AE) (m:Int),(D4 l m).length<=l.length
 | [],_=>Af _
 |x::r,m=>by
  show(if m-x.mass<=0 then[]else D4 r (m-x.mass)).length+1<=r.length+1;split
  ·simp
  ·have:=UF r (m-x.mass);omega
theorem re {a b:Int}(h:ES [a,b]=0):a=0/\b=0:=by
 have h1:(if a≠0 then a else if b≠0 then b else 0)=0:=h
 by_cases h0:a=0
 ·rw[AF (λq=>q h0)]at h1
  by_cases h2:b=0
  ·exact⟨h0,h2⟩
  ·rw[AG h2]at h1;exact Ae h1 h2
 ·rw[AG h0]at h1;exact Ae h1 h0
theorem vB (l:List AE)(hl:l.length<=1000000):AI C0 61 [Am false l] (.tup [Am false (if 64<l.length then[]else l),i64 (if 64<l.length then 5 else 0)]):=by
 refine Ag.walk w1 dg rfl λF=>?_
 have el:(((l.map AE.D).length:Nat):Int)=(l.length:Int):=by rw[Ak]
 by_cases h:64<l.length
 ·rw[AG h,AG h]
  have k:decide ((l.length:Int)>64)=true:=AX (by omega);refine AH AZ (Aj el k) AB AB AB AB AB AB ?_;exact⟨_,Hb (.nil 3) (.refl _),AA.out,rfl⟩
 ·rw[AF h,AF h]
  have k:decide ((l.length:Int)>64)=false:=Ac (by omega);refine AH AZ (Aj el k) AB AB AB AB AB AB ?_;exact AL rfl AA.out
theorem lz (R:List AE)(x:AE):(Ck R x).length<=R.length+1:=by
 unfold Ck;split
 ·split
  ·rw[Bh,List.length_dropLast,Fu];omega
  ·rw[Bh];exact Af _
 ·simp
theorem La (l:List AE):(Bl l).length<=l.length:=by
 have:∀(l R:List AE),(l.foldl Ck R).length<=R.length+l.length:=λl=>by
  induction l with
  |nil=>exact λ_=>Af _
  |cons x l ih=>
   intro R;have h1:=ih (Ck R x);have h2:=lz R x;rw[List.foldl_cons,Bo];omega
 have:=this l []
 unfold Bl;simpa using this
def Rn:At:=⟨[],0,0,0,[]⟩
def Du (x:At)(i:Int):List AE:=x.cells.getD i.toNat []
theorem KU {x:At}(h:CQ x=0):∀c∈x.cells,C8 x c=0:=by
 unfold CQ at h
 by_cases h1:F6 x=0
 ·rw[AF (λq=>q h1)]at h
  by_cases h2:EO x x.cells=0
  ·exact Sl h2
  ·rw[AG h2]at h;exact Ae h h2
 ·rw[AG h1]at h;exact Ae h h1
theorem rS {x:At}{i:Int}(h:Jn x [i]=0):CQ x=0/\0<=i/\i<(x.cells.length:Int):=by
 unfold Jn at h
 by_cases h1:CQ x=0
 ·rw[AF (λq=>q h1)]at h
  refine⟨h1,?_⟩;cases hb:JJ x i
  ·simp[hb]at h
  ·unfold JJ Cs at hb
   rw[BO,decide_eq_true_iff,decide_eq_true_iff]at hb;omega
 ·rw[AG h1]at h;exact Ae h h1
structure dC (x:At)(i:Int)(l:List AE):Prop where
 cel:∀c∈x.cells,C8 x c=0
 lt:i.toNat<x.cells.length
 ii:i=(i.toNat:Int)
 par:Br l=0
 at_:x.cells[i.toNat]?=some (Du x i)
 bin:CQ x=0
theorem eM:∀ {l R:List AE} {k:Nat},NN k R->(∀x∈l,0<=x.mass/\x.mass<=1000000000/\x.shs.length<=1000000)->NN (k+l.length) (l.foldl Ck R)
 | [],_,_,h,_=>h
 |x::l,R,k,h,hx=>by
  have h1:=eM (XA h (hx x (B9 ..))) λy hy=>hx y (CD _ hy)
  rw[List.foldl_cons,Bo,show k+(l.length+1)=k+1+l.length by omega];exact h1
theorem wY {l:List AE}(hx:∀x∈l,0<=x.mass/\x.mass<=1000000000/\x.shs.length<=1000000):(Bl l).length<=l.length/\∀y∈Bl l,0<=y.mass/\y.mass<=(l.length:Int)*1000000000/\y.shs.length<=1000000:=by
 have:=eM (l:=l) (R:=[]) (k:=0) ⟨Af _,λy h=>by cases h⟩ hx
 rw[BU]at this;exact this
theorem OI (a b:List AE):Al (a++b)=Al a+Al b:=by
 unfold Al;rw[DA,List.sum_append]
theorem mA (R:List AE)(x:AE):Al (Ck R x)=Al R+x.mass:=by
 unfold Ck;split
 ·rename_i y hy
  have hR:R=R.dropLast++[y]:=by
   have hne:R≠[]:=λh=>by rw[h]at hy;cases hy
   have:=List.getLast?_eq_some_getLast hne
   rw[this]at hy;cases hy;exact(List.dropLast_concat_getLast hne).symm
  split
  ·rw[OI]
   conv=>rhs;rw[hR,OI]
   unfold Al AE.w;simp;omega
  ·rw[OI];unfold Al;simp
 ·rename_i hy
  have:R=[]:=List.getLast?_eq_none_iff.1 hy
  rw[this];unfold Al;simp
theorem Me (l:List AE):Al (Bl l)=Al l:=by
 have:∀(l R:List AE),Al (l.foldl Ck R)=Al R+Al l:=λl=>by
  induction l with
  |nil=>intro R;unfold Al;simp
  |cons x l ih=>
   intro R;rw[List.foldl_cons,ih,mA];unfold Al;simp;omega
 have h:=this l [];rw[show Al ([]:List AE)=0 from rfl,Int.zero_add]at h;exact h
theorem ju {l:List AE}(h1:∀x∈l,1<=x.mass/\x.mass<=1000000000/\x.shs.length<=1000000)(h2:l.length<=1000000)(h3:Al l<=1000000000):IF (Bl l)/\0<=Al (Bl l)/\Al (Bl l)=Al l:=by
 have h0:∀x∈l,0<=x.mass/\x.mass<=1000000000/\x.shs.length<=1000000:=λx hx=>⟨by have:=(h1 x hx).1;omega,(h1 x hx).2⟩
 obtain⟨b1,b2⟩:=wY h0;have b3:=Me l;refine⟨⟨by omega,λy hy=>?_⟩,?_,b3⟩
 ·have hy0:=(b2 y hy).1
  have:y.mass<=Al (Bl l):=by
   obtain⟨A,B,hAB⟩:=E4 hy;rw[hAB,OI,show Al (y::B)=y.mass+Al B from rfl];have p1:=Lb (l:=A) λz hz=>(b2 z (by rw[hAB];exact HP _ hz)).1
   have p2:=Lb (l:=B) λz hz=>(b2 z (by rw[hAB];exact List.mem_append_right _ (CD _ hz))).1
   omega
  omega
 ·exact Lb λz hz=>(b2 z hz).1
theorem JP {x:At}(h:CQ x=0):0<=x.side/\x.side<=999999999/\x.room<=999999999/\x.cells.length<=8:=by
 have h1:F6 x=0:=by
  unfold CQ at h
  by_cases h1:F6 x=0
  ·exact h1
  ·rw[AG h1]at h;exact Ae h h1
 rw[RO]at h1;split at h1
 ·cases h1
 split at h1
 ·cases h1
 rename_i hr;split at h1
 ·cases h1
 split at h1
 ·cases h1
 rename_i hn;unfold Kt at hr;simp only[K0,GX,not_or]at hr;obtain⟨⟨⟨⟨-,-⟩,h3⟩,h4⟩,h5⟩:=hr;omega
theorem Xz:∀ {S T:List Ay},Fq S T=true↔S=T
 | [],[]=>by simp[Fq]
 | [],_::_=>by simp[Fq]
 |_::_,[]=>by simp[Fq]
 |s::S,t::T=>by
  show(Hs s t&&Fq S T)=true↔_;rw[BO,Xz (S:=S) (T:=T)];unfold Hs;rw[BO,LT,LT,decide_eq_true_iff,decide_eq_true_iff];obtain⟨a,b⟩:=s;obtain⟨c,d⟩:=t;simp
theorem l9 (x y:AE):Fk x y=true↔x.grain=y.grain/\x.shs=y.shs:=by
 unfold Fk;rw[BO,LT,decide_eq_true_iff,Xz]
theorem zA {x y:AE}(hg:x.grain=y.grain)(hs:x.shs=y.shs)(m:Int):x.w m=y.w m:=by unfold AE.w;rw[hg,hs]
theorem zx (x:AE)(a b:Int):(x.w a).w b=x.w b:=rfl
theorem vm (x:AE):x.w x.mass=x:=rfl
theorem Mv {x y:AE}:Fk x y=true↔∀m,x.w m=y.w m:=by
 rw[l9];constructor
 ·rintro⟨a,b⟩ m;exact zA a b m
 ·intro h
  have h0:=h 0;unfold AE.w at h0;injection h0 with a b c;exact⟨a,c⟩
def BV (l:List AE):List AE:=l.flatMap λx=>List.replicate x.mass.toNat (x.w 1)
theorem RT:BV []=[]:=rfl
theorem IB (x:AE)(l:List AE):BV (x::l)=List.replicate x.mass.toNat (x.w 1)++BV l:=rfl
theorem Ll (a b:List AE):BV (a++b)=BV a++BV b:=List.flatMap_append
theorem RU (x:AE):BV [x]=List.replicate x.mass.toNat (x.w 1):=by rw[IB,RT,C3]
theorem Us:∀l:List AE,BV l.reverse=(BV l).reverse
 | []=>rfl
 |x::l=>by rw[List.reverse_cons,Ll,Us l,RU,IB,List.reverse_append,List.reverse_replicate]
theorem Mq:∀ {l:List AE},(∀x∈l,0<=x.mass)->((BV l).length:Int)=Al l
 | [],_=>rfl
 |x::l,h=>by
  have h1:=h x (B9 ..);have h2:=Mq (l:=l) λy hy=>h y (CD _ hy)
  rw[IB,Bh,Id,show Al (x::l)=x.mass+Al l from rfl];omega
theorem RS {l:List AE}:∀y∈BV l,∃x∈l,y=x.w 1/\0<x.mass:=λy hy=>by
 unfold BV at hy;obtain⟨x,hx,h⟩:=List.mem_flatMap.1 hy;obtain⟨h1,h2⟩:=List.mem_replicate.1 h;exact⟨x,hx,h2,by omega⟩
theorem oK {R:List AE}{x:AE}(hR:∀y∈R,0<=y.mass)(hx:0<=x.mass):BV (Ck R x)=BV R++BV [x]:=by
 unfold Ck;split
 ·rename_i y hy
  have hR':R=R.dropLast++[y]:=by
   have hne:R≠[]:=λh=>by rw[h]at hy;cases hy
   have:=List.getLast?_eq_some_getLast hne
   rw[this]at hy;cases hy;exact(List.dropLast_concat_getLast hne).symm
  split
  ·rename_i hl
   have e:=Mv.1 hl 1;have hy0:=hR y (List.mem_of_getLast? hy)
   conv=>rhs;rw[hR']
   rw[Ll,Ll,RU,RU,RU,DZ];show _++List.replicate (y.mass+x.mass).toNat (y.w 1)=_;rw[<-e,List.replicate_append_replicate,show(y.mass+x.mass).toNat=y.mass.toNat+x.mass.toNat by omega]
  ·rw[Ll]
 ·rename_i hy
  rw[List.getLast?_eq_none_iff.1 hy];rfl
theorem oJ {R:List AE}{x:AE}(hR:∀y∈R,0<=y.mass)(hx:0<=x.mass):∀y∈Ck R x,0<=y.mass:=by
 unfold Ck;split
 ·rename_i z hz
  have hz0:=hR z (List.mem_of_getLast? hz);split
  ·intro y hy
   rcases List.mem_append.1 hy with h|h
   ·exact hR y ((List.dropLast_sublist R).subset h)
   ·obtain rfl:=List.mem_singleton.1 h
    show 0<=z.mass+x.mass;omega
  ·intro y hy
   rcases List.mem_append.1 hy with h|h
   ·exact hR y h
   ·obtain rfl:=List.mem_singleton.1 h;exact hx
 ·intro y hy
  obtain rfl:=List.mem_singleton.1 hy;exact hx
theorem bF {l:List AE}(h:∀x∈l,0<=x.mass):BV (Bl l)=BV l:=by
 have:∀(l R:List AE),(∀x∈l,0<=x.mass)->(∀y∈R,0<=y.mass)->BV (l.foldl Ck R)=BV R++BV l:=λl=>by
  induction l with
  |nil=>intro R _ _;simp[RT]
  |cons x l ih=>
   intro R hl hR;have hx:=hl x (B9 ..);rw[List.foldl_cons,ih _ (λy hy=>hl y (CD _ hy)) (oJ hR hx),oK hR hx,DZ,<-Ll];rfl
 exact this l [] h λy hy=>by cases hy
theorem eQ:∀l:List AE,BV (DG l)=BV l
 | []=>rfl
 |x::l=>by
  have ih:=eQ l;unfold DG at ih⊢;rw[List.filter_cons];split
  ·rw[IB,IB,ih]
  ·rename_i h
   have h0:x.mass=0:=by simpa using h
   rw[IB,ih,h0];rfl
theorem js (R:List AE)(x:AE)(m:Int):Ck (Ck R (x.w m)) (x.w 1)=Ck R (x.w (m+1)):=by
 have key:∀(A:List AE) (z:AE),Fk z (x.w 1)=true->Ck (A++[z]) (x.w 1)=A++[z.w (z.mass+1)]:=λA z hz=>by
  unfold Ck;rw[List.getLast?_append];show(if Fk z (x.w 1)=true then _ else _)=_;rw[AG hz,List.dropLast_concat];rfl
 have hlx:∀a b:Int,Fk (x.w a) (x.w b)=true:=λa b=>Mv.2 λm=>rfl
 cases hR:R.getLast? with
 |none=>
  have:R=[]:=List.getLast?_eq_none_iff.1 hR
  subst this;exact key [] (x.w m) (hlx _ _)
 |some y=>
  have e:∀a:Int,Ck R (x.w a)=if Fk y (x.w a)then R.dropLast++[y.w (y.mass+a)]else R++[x.w a]:=λa=>by
   unfold Ck;rw[hR];rfl
  have hb:∀a b:Int,Fk y (x.w a)=Fk y (x.w b):=λa b=>by
   rw[Fc,Mv,Mv];exact Iff.rfl
  rw[e m,e (m+1),hb m 1,hb (m+1) 1]
  by_cases h:Fk y (x.w 1)=true
  ·rw[AG h,AG h,key _ _ (Mv.2 λk=>(zx y _ k).trans (Mv.1 h k))]
   show _++[y.w (y.mass+m+1)]=_;rw[Int.add_assoc]
  ·rw[AF h,AF h,key _ _ (hlx _ _)];rfl
theorem ZD (x:AE):∀(n:Nat) (R:List AE),(List.replicate (n+1) (x.w 1)).foldl Ck R=Ck R (x.w ((n:Int)+1))
 | 0,R=>rfl
 |n+1,R=>by
  rw[List.replicate_succ',List.foldl_append,ZD x n R];exact js R x _
theorem UZ {l:List AE}(h:∀x∈l,1<=x.mass):Bl (BV l)=Bl l:=by
 have:∀(l R:List AE),(∀x∈l,1<=x.mass)->(BV l).foldl Ck R=l.foldl Ck R:=λl=>by
  induction l with
  |nil=>intro R _;rfl
  |cons x l ih=>
   intro R hl;have hx:=hl x (B9 ..);rw[IB,List.foldl_append,show x.mass.toNat=(x.mass.toNat-1)+1 by omega,ZD,List.foldl_cons,ih _ λy hy=>hl y (CD _ hy)];rw[show(((x.mass.toNat-1:Nat):Int)+1)=x.mass by omega,vm]
 exact this l [] h
theorem Q5 {l:List AE}(h:∀x∈l,0<=x.mass):Bl (DG l)=Bl (BV l):=by
 rw[<-eQ l];refine(UZ λx hx=>?_).symm;unfold DG at hx;obtain⟨h1,h2⟩:=List.mem_filter.1 hx
 have:=h x h1
 have:x.mass≠0:=by simpa using h2
 omega
theorem ut {a b:List AE}(ha:∀x∈a,1<=x.mass)(hb:∀x∈b,1<=x.mass)(h:BV a=BV b):Bl a=Bl b:=by rw[<-UZ ha,<-UZ hb,h]
theorem VE:∀ {l:List AE} {m:Int},(∀x∈l,0<=x.mass)->0<=m->BV (D4 l m)=(BV l).take m.toNat
 | [],m,_,_=>by rw[RT,List.take_nil];rfl
 |x::r,m,h,hm=>by
  have h1:=h x (B9 ..);have h2:∀y∈r,0<=y.mass:=λy hy=>h y (CD _ hy)
  show BV (x.w (min x.mass m)::if m-x.mass<=0 then[]else D4 r (m-x.mass))=_;rw[IB,IB,List.take_append,List.take_replicate,Id];show List.replicate (min x.mass m).toNat (x.w 1)++_=_;rw[show(min x.mass m).toNat=min m.toNat x.mass.toNat by omega]
  by_cases hz:m-x.mass<=0
  ·rw[AG hz,show m.toNat-x.mass.toNat=0 by omega];rfl
  ·rw[AF hz,VE h2 (by omega),show m.toNat-x.mass.toNat=(m-x.mass).toNat by omega]
theorem Uz:∀ {l:List AE} {low left:Int},(∀x∈l,0<=x.mass)->0<=low->0<=left->BV (Ez l low left)=((BV l).drop low.toNat).take left.toNat
 | [],low,left,_,_,_=>by rw[RT,List.drop_nil,List.take_nil];rfl
 |x::r,low,left,h,h0,h5=>by
  have h1:=h x (B9 ..);have h2:∀y∈r,0<=y.mass:=λy hy=>h y (CD _ hy)
  show BV (x.w (min (x.mass-min x.mass low) left)::Ez r (low-min x.mass low) (left-min (x.mass-min x.mass low) left))=_;rw[IB,IB,Uz h2 (by omega) (by omega),List.drop_append,List.drop_replicate,Id,List.take_append,List.take_replicate,Id];show List.replicate (min (x.mass-min x.mass low) left).toNat (x.w 1)++_=_;rw[show(min (x.mass-min x.mass low) left).toNat=min left.toNat (x.mass.toNat-low.toNat) by omega,show(low-min x.mass low).toNat=low.toNat-x.mass.toNat by omega,
   show(left-min (x.mass-min x.mass low) left).toNat=left.toNat-(x.mass.toNat-low.toNat) by omega]
def HD (bot:Nat->Bool)(n:Nat):Nat->Nat
 | 0=>0
 |j+1=>HD bot n j+if bot (n-j)then 1 else 0
theorem bB (bot:Nat->Bool)(n j:Nat):HD bot n (j+1)=HD bot n j+if bot (n-j)then 1 else 0:=rfl
theorem ZP (bot:Nat->Bool)(n:Nat):∀j,HD bot n j<=j
 | 0=>Af _
 |j+1=>by have:=ZP bot n j;unfold HD;split<;>omega
theorem YU {bot:Nat->Bool}{n:Nat}(hb:∀k,bot k=true):∀j,HD bot n j=j
 | 0=>rfl
 |j+1=>by rw[bB,YU hb j,AG (hb _)]
theorem YT {bot:Nat->Bool}{n c:Nat}(hc:0<c)(hb:∀k,bot k=decide (k%c=0)):∀j,j<=n->HD bot n j=n/c-(n-j)/c
 | 0,_=>by show 0=n/c-(n-0)/c;rw[Nat.sub_zero,Nat.sub_self]
 |j+1,h=>by
  rw[bB,YT hc hb j (by omega),hb];have h1:(n-j)/c<=n/c:=Nat.div_le_div_right (by omega);have e:n-j=(n-(j+1))+1:=by omega
  have h2:=Nat.succ_div (a:=n-(j+1)) (b:=c);rw[show n-(j+1)+1=n-j by omega]at h2
  by_cases hd:c ∣ n-j
  ·rw[AG hd]at h2
   rw[AG (AX (Nat.mod_eq_zero_of_dvd hd))];omega
  ·rw[AF hd]at h2
   rw[AF (λq=>hd (Nat.dvd_of_mod_eq_zero (Cz q)))];omega
def Kk (x:At)(k:Nat):Bool:=BJ (sb x.flow) GJ||decide (k%x.core.toNat=0)
def Q0 (x:At):Prop:=BJ (sb x.flow) GJ=true\/2<=x.core/\x.core<=999999999
abbrev Y3:Dr:=[(3,[0,1,2,3,4,5,6,7,8,9],[10,11])]
open Go.Proofs Go.RowKit
set_option maxRecDepth 20000
set_option maxHeartbeats 4000000
theorem uT {x:At}{n m:Nat}(hm:m<=n)(hf:BJ (sb x.flow) GJ=false)(hc:2<=x.core):HD (Kk x) n m=n/x.core.toNat-(n-m)/x.core.toNat:=by
 refine YT (by omega) (λk=>?_) m hm;unfold Kk;rw[hf,Bool.false_or]
theorem nv {x:At}{n m:Nat}(hf:BJ (sb x.flow) GJ=true):HD (Kk x) n m=m:=by
 refine YU (λk=>?_) m;unfold Kk;rw[hf,Bool.true_or]
def Ph (bk:Bool)(l:List AE):List AE:=if bk then(BV l).reverse else BV l
theorem ur (bk:Bool)(l:List AE):BV (Fs bk l)=Ph bk l:=by
 unfold Fs Ph;cases bk
 ·rfl
 ·exact Us l
theorem pP (x:At)(n m:Nat)(hm:m<=n)(hn:n<=1000000000)(hf:Q0 x):AI C0 58 [x.D,i64 (n:Int),i64 (m:Int)] (i64 ((HD (Kk x) n m:Nat):Int)):=by
 refine Ag.walk w1 d9 rfl λF=>?_
 have ho:=@uT x n m hm;have ho':=@nv x n m;unfold Q0 at hf;obtain⟨A,hA⟩:∃A,HD (Kk x) n m=A:=⟨_,rfl⟩
 rw[hA]at ho ho'⊢;unfold GJ at ho ho' hf;unfold At.D;cases hq:BJ (sb x.flow) ⟨#[109,97,115,115]⟩
 rotate_left
 ·rw[ho' hq]
  refine AH Y3 (As hq kT kF) AB AB AB AB AB AB ?_;exact AL rfl AA.out
 obtain⟨h2,h3⟩:2<=x.core/\x.core<=999999999:=by
  rcases hf with h|h
  ·rw[hq]at h;cases h
  ·exact h
 have ho:=ho hq h2;obtain⟨c,hc⟩:∃c:Nat,x.core=(c:Int):=⟨x.core.toNat,by omega⟩
 rw[hc]at h2 h3 ho⊢;rw[IX]at ho;have q0:((c:Int)==0)=false:=Bs.2 (by omega);have e2:IntKind.i64.wrap ((n:Int)-(m:Int))=((n-m:Nat):Int):=by rw[wI (by omega) (by omega)];omega
 have l1:n/c<=n:=Fy _ _;have l2:(n-m)/c<=n-m:=Fy _ _;have l3:(n-m)/c<=n/c:=Nat.div_le_div_right (by omega);have q1:((n:Int)).tdiv (c:Int)=((n/c:Nat):Int):=rfl;have q2:(((n-m:Nat):Int)).tdiv (c:Int)=(((n-m)/c:Nat):Int):=rfl;obtain⟨D1,hD1⟩:∃q,n/c=q:=⟨_,rfl⟩
 obtain⟨D2,hD2⟩:∃q,(n-m)/c=q:=⟨_,rfl⟩
 rw[hD1]at l1 l3 q1 ho;rw[hD2]at l2 l3 q2 ho;clear hD1 hD2;have q3:IntKind.i64.wrap ((D1:Nat):Int)=(D1:Int):=wI (by omega) (by omega);have q4:IntKind.i64.wrap ((D2:Nat):Int)=(D2:Int):=wI (by omega) (by omega);have q5:IntKind.i64.wrap ((D1:Int)-(D2:Int))=(A:Int):=by rw[wI (by omega) (by omega)];omega
 refine AH Y3 (CS hq e2 q1 q2 q3 q4 (As q5 kT kF)) AB AB AB AB AB AB ?_;exact AL rfl AA.out
theorem eW (b bk:Bool)(l:List AE)(m:Nat)(hl:l.length<=1000000)(hm:m<=1000000000)(hx:∀x∈l,0<=x.mass/\x.mass<=1000000000/\x.shs.length<=1000000):AI C0 64 [Am b l,i64 (m:Int),Aq bk] (Am false (Bl ((Ph bk l).take m))):=by
 refine Ag.walk w1 di rfl λF=>?_
 have hxo:∀x∈Fs bk l,0<=x.mass/\x.mass<=1000000000/\x.shs.length<=1000000:=λx q=>hx x (by
  unfold Fs at q;cases bk
  ·exact q
  ·exact List.mem_reverse.1 q)
 have hol:(Fs bk l).length=l.length:=by
  unfold Fs;cases bk
  ·rfl
  ·exact List.length_reverse
 have ho:∀x∈l,∀m,AI C0 94 [x.D,i64 m] (x.w m).D:=λx q m=>Oa x m (hx x q).2.2
 have cA:=UC b bk l (m:Int) hl ⟨by omega,by omega⟩ (λx q=>⟨(hx x q).1,(hx x q).2.1⟩) ho _ (TZ false (D4 (Fs bk l) (m:Int)) (by
  have:=UF (Fs bk l) (m:Int)
  omega) (Ur hxo (by omega)))
 rw[Q5 λx q=>(Ur hxo (by omega) x q).1,VE (λx q=>(hxo x q).1) (by omega),ur,IX]at cA
 by_cases h0:m=0
 ·subst h0
  have k1:(((0:Nat):Int)==0)=true:=rfl;refine AH AZ k1 AB AB AB AB AB AB ?_;rw[MC];exact⟨_,.nil 3,AA.out,rfl⟩
 ·have k1:((m:Int)==0)=false:=Bs.2 (by omega)
  refine AH AZ k1 cA AB AB AB AB AB ?_;exact AL rfl AA.out
abbrev oO:Dr:=[(1,[0,1,2,3,4,5,6,7],[8,9])]
open Go.Proofs Go.RowKit
set_option maxRecDepth 20000
set_option maxHeartbeats 4000000
theorem qI (a:Int)(b:Bool)(l:List Int)(hl:l.length<=1000000):AI C0 91 [i64 a,.sl b 1 (Bb l)] (i64 (l.foldl min a)):=by
 refine Ag.walk w1 eF rfl λF=>?_
 have el:(((Bb l).length:Nat):Int)=(l.length:Int):=by rw[Ak]
 refine AH AZ el AB AB AB AB AB AB ?_;refine AC.loop (α:=Nat×Nat) (λp=>⟨[(0,i64 ((l.take p.1).foldl min a)),(7,.sl b 1 (Bb l)),(8,i64 (l.length:Int)),(9,i64 (p.1:Int))],[],p.2⟩) (λp=>l.length-p.1) (λq=>q.1<=l.length) (0,_) (BS _) AK ?_;rintro⟨i,n⟩ F hi;dsimp only at hi⊢;rcases BG i l.length with h2|h2
 rotate_left
 ·have e1:=CZ h2
  have:i=l.length:=by omega
  subst this;rw[DO];refine AH AZ e1 AB AB AB AB AB AB ?_;exact AL rfl AA.out
 have e1:=Ca h2;have wi:=Cc (i:=i) (by omega);obtain⟨x,hx⟩:=CP h2;have hm:(Bb l)[i]?=some (i64 x):=by rw[A7,hx];rfl
 have ht:(l.take (i+1)).foldl min a=min ((l.take i).foldl min a) x:=by rw[Di,hx,List.foldl_append];rfl
 obtain⟨R,hR⟩:∃R,(l.take i).foldl min a=R:=⟨_,rfl⟩
 rw[hR]at ht⊢;refine AH AZ (As e1 wi kN) hm AB AB AB AB AB ?_;refine⟨(i+1,n+1000),h2,by dsimp only;omega,?_⟩;dsimp only;rw[ht];exact AK
def HF (ls:List Int)(i:Nat)(f:Int->Int):List Int:=if 1<=i then[f (ls.getD (i-1) 0)]else[]
def GN (ls:List Int)(i:Nat)(f:Int->Int):List Int:=HF ls i f++if i+1<ls.length then[f (ls.getD (i+1) 0)]else[]
def JA (ls:List Int)(i:Nat)(f:Int->Int)(j:Nat):List Int:=if j=0 then[]else if j=1 then HF ls i f else GN ls i f
theorem TP (ls:List Int)(i:Nat)(f:Int->Int):(HF ls i f).length<=1:=by unfold HF;split<;>simp
theorem It {l:List Int}{i:Nat}(h:i<l.length):l[i]?=some (l.getD i 0):=by rw[Dj,BE h];rfl
theorem nP (b:Bool)(ls:List Int)(i:Nat)(f:Nat)(c1 c2 c3:D)[p1:AA c1][p2:AA c2][p3:AA c3](φ:Int->Int)(hl:ls.length<=1000000)(hi:i<ls.length)(hfe:f=96\/f=93)
  (hf:∀x∈ls,AI C0 f [i64 x,c1,c2,c3] (i64 (φ x))):AI C0 92 [.sl b 1 (Bb ls),i64 (i:Int),.clo (.func f) [] [c1,c2,c3]] (.sl false 1 (Bb (GN ls i φ))):=by
 refine Ag.walk w1 eG rfl λF=>?_
 have el:(((Bb ls).length:Nat):Int)=(ls.length:Int):=by rw[Ak]
 have wa:IntKind.i64.wrap ((i:Int)-1)=(i:Int)-1:=wI (by omega) (by omega);have wb:IntKind.i64.wrap ((i:Int)+1)=(i:Int)+1:=wI (by omega) (by omega);have wc:IntKind.i64.wrap ((ls.length:Int)-1)=(ls.length:Int)-1:=wI (by omega) (by omega);have cW:=λk=>Ma k 0 ((ls.length:Int)-1)
 refine AH AZ (Aj wa wb) AB AB AB AB AB AB ?_;refine AC.ghost 608 3 1 [(0,.sl b 1 (Bb ls)),(1,i64 (i:Int)),(2,.clo (.func f) [] [c1,c2,c3]),(7,.osl 608 _ 1 0 0),(14,.sl true 1 [i64 ((i:Int)-1),i64 ((i:Int)+1)]),(15,i64 2),(16,i64 ((0:Nat):Int))] ⟨.inl rfl,.inl rfl,.inl rfl,.inr ⟨rfl,rfl⟩,.inl rfl,.inl rfl,.inl rfl,trivial⟩ ?_;refine AC.loop (α:=Nat×Nat×Nat) (λp=>⟨[(0,.sl b 1 (Bb ls)),(1,i64 (i:Int)),(2,.clo (.func f) [] [c1,c2,c3]),(7,.osl 608 p.2.1 1 0 (JA ls i φ p.1).length),(14,.sl true 1 [i64 ((i:Int)-1),i64 ((i:Int)+1)]),(15,i64 2),(16,i64 (p.1:Int))],[⟨608,p.2.1,3,1,Bb (JA ls i φ p.1)⟩],p.2.2⟩) (λp=>2-p.1) (λq=>q.1<=2) (0,_,_) (BS _) AK ?_;rintro⟨j,g,n⟩ F hj;dsimp only at hj⊢;rcases BG j 2 with h2|h2
 rotate_left
 ·have:j=2:=by omega
  subst this;have e1:decide (((2:Nat):Int)<2)=false:=rfl;have hf:=G5 (H:=[⟨608,g,3,1,Bb (JA ls i φ 2)⟩]) (Hf:=[]) (k:=608) (g:=g) (T:=3) (sz:=1) (l:=Bb (JA ls i φ 2)) rfl;rw[Ak]at hf;refine AH AZ e1 AB AB AB AB AB AB ?_;exact⟨_,hf,AA.out,rfl⟩
 obtain rfl|rfl:j=0\/j=1:=by omega
 ·have e1:decide (((0:Nat):Int)<2)=true:=rfl
  have wj:IntKind.i64.wrap (((0:Nat):Int)+1)=((1:Nat):Int):=rfl;have hm:[i64 ((i:Int)-1),i64 ((i:Int)+1)][0]?=some (i64 ((i:Int)-1)):=rfl;have cw:=cW ((i:Int)-1);obtain⟨P,hP⟩:∃P,P=([]:List Int):=⟨_,rfl⟩
  rw[show JA ls i φ 0=P from hP.symm]
  by_cases h1:1<=i
  ·have hb:Cs ((i:Int)-1) 0 ((ls.length:Int)-1)=true:=by
    unfold Cs;rw[BO,decide_eq_true_iff,decide_eq_true_iff];omega
   rw[hb]at cw;have hv:=It (l:=ls) (i:=i-1) (by omega);have hd:(Bb ls)[((i:Int)-1).toNat]?=some (i64 (ls.getD (i-1) 0)):=by
    rw[show((i:Int)-1).toNat=i-1 by omega,A7,hv];rfl
   have cf:=hf _ (Av hv);have hT:HF ls i φ=P++[φ (ls.getD (i-1) 0)]:=by rw[hP];unfold HF;rw[AG h1];rfl
   have hz0:0<=((i:Int)-1):=by omega
   have hlen:=TP ls i φ;have hPl:P.length<=1:=by rw[hP];exact BS _
   have hPD:(Bb P).length=P.length:=Ak ..;obtain⟨PD,hPD2⟩:∃Q,Bb P=Q:=⟨_,rfl⟩
   rw[hPD2]at hPD⊢;have htk:PD.take P.length=PD:=by rw[<-hPD];exact DO
   have hTD:Bb (HF ls i φ)=PD++[i64 (φ (ls.getD (i-1) 0))]:=by rw[hT];unfold Bb;rw[DA,<-hPD2];rfl
   rcases hfe with rfl|rfl
   all_goals
    refine AH AZ (CF e1 wj wc el htk) hm cw hd cf AB AB ?_;refine⟨(0+1,?g,n+1000),by dsimp only;omega,by dsimp only;omega,?_⟩
    rotate_left
    ·dsimp only
     rw[show JA ls i φ (0+1)=HF ls i φ from rfl,hTD,hT,Bh];exact AK
  ·have hb:Cs ((i:Int)-1) 0 ((ls.length:Int)-1)=false:=by
    cases hq:Cs ((i:Int)-1) 0 ((ls.length:Int)-1)
    ·rfl
    ·unfold Cs at hq
     rw[BO,decide_eq_true_iff,decide_eq_true_iff]at hq;omega
   rw[hb]at cw;have hT:HF ls i φ=P:=by rw[hP];unfold HF;rw[AF h1]
   refine AH AZ (BW e1 wj wc el) hm cw AB AB AB AB ?_;refine⟨(0+1,g,n+1000),by dsimp only;omega,by dsimp only;omega,?_⟩;dsimp only;rw[show JA ls i φ (0+1)=HF ls i φ from rfl,hT];exact AK
 ·have e1:decide (((1:Nat):Int)<2)=true:=rfl
  have wj:IntKind.i64.wrap (((1:Nat):Int)+1)=((2:Nat):Int):=rfl;have hm:[i64 ((i:Int)-1),i64 ((i:Int)+1)][1]?=some (i64 ((i:Int)+1)):=rfl;have cw:=cW ((i:Int)+1);obtain⟨P,hP⟩:∃P,P=HF ls i φ:=⟨_,rfl⟩
  rw[show JA ls i φ 1=P from hP.symm]
  by_cases h1:i+1<ls.length
  ·have hb:Cs ((i:Int)+1) 0 ((ls.length:Int)-1)=true:=by
    unfold Cs;rw[BO,decide_eq_true_iff,decide_eq_true_iff];omega
   rw[hb]at cw;have hv:=It (l:=ls) (i:=i+1) (by omega);have hd:(Bb ls)[((i:Int)+1).toNat]?=some (i64 (ls.getD (i+1) 0)):=by
    rw[show((i:Int)+1).toNat=i+1 by omega,A7,hv];rfl
   have cf:=hf _ (Av hv);have hT:GN ls i φ=P++[φ (ls.getD (i+1) 0)]:=by rw[hP];unfold GN;rw[AG h1]
   have hz0:0<=((i:Int)+1):=by omega
   have hlen:=TP ls i φ;have hPl:P.length<=1:=by rw[hP];exact hlen
   have hPD:(Bb P).length=P.length:=Ak ..;obtain⟨PD,hPD2⟩:∃Q,Bb P=Q:=⟨_,rfl⟩
   rw[hPD2]at hPD⊢;have htk:PD.take P.length=PD:=by rw[<-hPD];exact DO
   have hTD:Bb (GN ls i φ)=PD++[i64 (φ (ls.getD (i+1) 0))]:=by rw[hT];unfold Bb;rw[DA,<-hPD2];rfl
   rcases hfe with rfl|rfl
   all_goals
    refine AH AZ (CF e1 wj wc el htk) hm cw hd cf AB AB ?_;refine⟨(1+1,?g,n+1000),by dsimp only;omega,by dsimp only;omega,?_⟩
    rotate_left
    ·dsimp only
     rw[show JA ls i φ (1+1)=GN ls i φ from rfl,hTD,hT,Bh];exact AK
  ·have hb:Cs ((i:Int)+1) 0 ((ls.length:Int)-1)=false:=by
    cases hq:Cs ((i:Int)+1) 0 ((ls.length:Int)-1)
    ·rfl
    ·unfold Cs at hq
     rw[BO,decide_eq_true_iff,decide_eq_true_iff]at hq;omega
   rw[hb]at cw;have hT:GN ls i φ=P:=by rw[hP];unfold GN;rw[AF h1,C3]
   refine AH AZ (BW e1 wj wc el) hm cw AB AB AB AB ?_;refine⟨(1+1,g,n+1000),by dsimp only;omega,by dsimp only;omega,?_⟩;dsimp only;rw[show JA ls i φ (1+1)=GN ls i φ from rfl,hT];exact AK
theorem wW (x:At)(b:Bool)(ls:List Int)(i:Nat)(v n:Int)(hv:ls[i]?=some v)(h1:0<=v/\v<=1000000000)(h2:0<=n/\n<=1000000000)(h3:0<=x.side/\x.side<=1000000000):
  AI C0 96 [i64 n,.pptr (.sl b 1 (Bb ls)),.pptr (i64 (i:Int)),.pptr x.D] (i64 (v-n+x.side)):=by
 refine Ag.walk w1 dR rfl λF=>?_
 have hm:(Bb ls)[i]?=some (i64 v):=by rw[A7,hv];rfl
 have u1:IntKind.i64.wrap (v-n)=v-n:=wI (by omega) (by omega);have u2:IntKind.i64.wrap (v-n+x.side)=v-n+x.side:=wI (by omega) (by omega);unfold At.D;refine AH oO (As u1 u2 kN) hm AB AB AB AB AB ?_;exact AL rfl AA.out
theorem RR {x:At}(h:CQ x=0):BT x=x.cells.map Al/\∀v∈BT x,0<=v/\v<=999999999/\v<=x.room:=by
 have hc:=KU h;have e:BT x=x.cells.map Al:=NY λc hq=>JS (Hg (hc c hq)).2.2.1
 refine⟨e,λv hv=>?_⟩;rw[e]at hv;obtain⟨c,hq,rfl⟩:=List.mem_map.1 hv;obtain⟨-,-,-,a,b,d⟩:=Hg (hc c hq);exact⟨a,b,d⟩
def I1 (side:Int)(ls:List Int)(i:Nat):Int:=(GN ls i λn=>ls.getD i 0-n+side).foldl min (ls.getD i 0)
theorem lE (ls:List Int)(i:Nat)(f:Int->Int):(GN ls i f).length<=2:=by
 unfold GN
 have:=TP ls i f
 rw[Bh];split<;>simp<;>omega
theorem vQ (x:At)(b:Bool)(ls:List Int)(i:Nat)(hi:i<ls.length)(hl:ls.length<=1000000)(h1:∀v∈ls,0<=v/\v<=1000000000)(h3:0<=x.side/\x.side<=1000000000):AI C0 49 [x.D,.sl b 1 (Bb ls),i64 (i:Int)] (i64 (I1 x.side ls i)):=by
 have hv:=It hi;have cB:=nP b ls i 96 (.pptr (.sl b 1 (Bb ls))) (.pptr (i64 (i:Int))) (.pptr x.D) (λn=>ls.getD i 0-n+x.side) hl hi (.inl rfl) λn hn=>wW x b ls i _ n hv (h1 _ (Av hv)) (h1 n hn) h3
 have cL:=qI (ls.getD i 0) false (GN ls i λn=>ls.getD i 0-n+x.side) (by have:=lE ls i λn=>ls.getD i 0-n+x.side;omega);exact Q2 x.D ⟨_,_,_,_,_,rfl⟩ b (Bb ls) i (ls.getD i 0) (by rw[A7,hv];rfl) _ _ cB cL
theorem ZU {side:Int}{l:List Int}(hs:0<=side/\side<=1000000000)(hl:∀v∈l,0<=v/\v<=1000000000):Dc side l=false↔∀k,k+1<l.length->l.getD (k+1) 0-l.getD k 0<=side/\l.getD k 0-l.getD (k+1) 0<=side:=by
 have hv:∀k,k<l.length->0<=l.getD k 0/\l.getD k 0<=1000000000:=λk hk=>hl _ (Av (It hk))
 have hw:∀k,k+1<l.length->(Cs (IntKind.i64.wrap (l.getD (k+1) 0-l.getD k 0)) (IntKind.i64.wrap (0-side)) side=true↔l.getD (k+1) 0-l.getD k 0<=side/\l.getD k 0-l.getD (k+1) 0<=side):=λk hk=>by
  have h1:=hv k (by omega);have h2:=hv (k+1) hk;rw[wI (by omega) (by omega),wI (by omega) (by omega)];unfold Cs;rw[BO,decide_eq_true_iff,decide_eq_true_iff];omega
 constructor
 ·intro h k hk
  apply(hw k hk).1;cases hb:Cs (IntKind.i64.wrap (l.getD (k+1) 0-l.getD k 0)) (IntKind.i64.wrap (0-side)) side
  ·rw[Ug hk hb]at h;cases h
  ·rfl
 ·intro h
  exact Uh λk hk=>(hw k hk).2 (h k hk)
theorem Ql {m : Int} : ∀ {L : List Int} {a : Int}, m <= L.foldl min a ↔ m <= a /\ ∀v ∈ L, m <= v
  | [], a => by simp
  |x :: L, a => by
    rw[List.foldl_cons, Ql (L := L)]
    constructor
    · rintro⟨h1, h2⟩
      exact⟨by omega, λv hv => (A8.1 hv).elim (λe=>by omega) (h2 v)⟩
    · rintro⟨h1, h2⟩
      have := h2 x (B9 ..)
      exact⟨by omega, λv hv => h2 v (CD _ hv)⟩
theorem Yh {ls:List Int}{i:Nat}{f:Int->Int}{m:Int}:(∀v∈GN ls i f,m<=v)↔(1<=i->m<=f (ls.getD (i-1) 0))/\(i+1<ls.length->m<=f (ls.getD (i+1) 0)):=by
 unfold GN HF;constructor
 ·intro h
  refine⟨λh1=>h _ (HP _ (by rw[AG h1];exact List.mem_singleton.2 rfl)),λh1=>h _ (List.mem_append_right _ (by rw[AG h1];exact List.mem_singleton.2 rfl))⟩
 ·rintro⟨h1,h2⟩ v hv
  rcases List.mem_append.1 hv with hv|hv
  ·by_cases hi:1<=i
   ·rw[AG hi]at hv
    obtain rfl:=List.mem_singleton.1 hv;exact h1 hi
   ·rw[AF hi]at hv;cases hv
  ·by_cases hi:i+1<ls.length
   ·rw[AG hi]at hv
    obtain rfl:=List.mem_singleton.1 hv;exact h2 hi
   ·rw[AF hi]at hv;cases hv
theorem MU {l:List Int}{i k:Nat}{v:Int}(hi:i<l.length):(l.set i v).getD k 0=if k=i then v else l.getD k 0:=by
 rw[Dj,Dj,List.getElem?_set]
 by_cases h:k=i
 ·subst h;rw[AG rfl,AG hi,AG rfl];rfl
 ·rw[AF (λq=>h q.symm),AF h]
theorem T9 {side:Int}{ls:List Int}{i:Nat}{m:Int}(hs:0<=side/\side<=1000000000)(hl:∀v∈ls,0<=v/\v<=1000000000)(hi:i<ls.length)(h0:Dc side ls=false)(hm:0<=m/\m<=ls.getD i 0):
  Dc side (ls.set i (ls.getD i 0-m))=false↔m<=I1 side ls i:=by
 have hv:=hl _ (Av (It hi));have hl2:∀v∈ls.set i (ls.getD i 0-m),0<=v/\v<=1000000000:=λv hq=>by
  rcases NQ hq with hq|hq
  ·exact hl v hq
  ·omega
 have h1:=(ZU hs hl).1 h0;rw[ZU hs hl2,DE];unfold I1;rw[Ql,Yh];constructor
 ·intro h
  refine⟨hm.2,λhi1=>?_,λhi1=>?_⟩
  ·have:=h (i-1) (by omega)
   rw[MU hi,MU hi,show i-1+1=i by omega,AG rfl,AF (by omega)]at this;omega
  ·have:=h i hi1
   rw[MU hi,MU hi,AG rfl,AF (by omega)]at this;omega
 ·rintro⟨g1,g2,g3⟩ k hk
  have h2:=h1 k hk;rw[MU hi,MU hi]
  by_cases c1:k+1=i
  ·rw[AG c1,AF (by omega)]
   have:=g2 (by omega)
   rw[show i-1=k by omega]at this;rw[c1]at h2;omega
  ·rw[AF c1]
   by_cases c2:k=i
   ·rw[AG c2]
    subst c2
    have:=g3 hk
    omega
   ·rw[AF c2];exact h2
theorem ZB (side:Int)(ls:List Int)(i:Nat):I1 side ls i<=ls.getD i 0:=(Ql.1 (Int.le_refl _)).1
theorem oD {side:Int}{ls:List Int}{i:Nat}(hs:0<=side/\side<=1000000000)(hl:∀v∈ls,0<=v/\v<=1000000000)(hi:i<ls.length)(h0:Dc side ls=false):0<=I1 side ls i:=by
 have hv:=hl _ (Av (It hi));rw[<-T9 hs hl hi h0 ⟨Int.le_refl _,hv.1⟩,Int.sub_zero]
 have:ls.set i (ls.getD i 0)=ls:=by
  rw[Dj,BE hi];exact List.set_getElem_self _
 rw[this];exact h0
def Ei (x:At)(c:List AE)(m:Nat):Nat:=HD (Kk x) (BV c).length m
def FU (x:At)(c:List AE)(m:Nat):List AE:=((BV c).drop (Ei x c m)).take ((BV c).length-m)
def I8 (x:At)(c:List AE)(m:Nat):List AE:=(BV c).reverse.take (m-Ei x c m)++(BV c).take (Ei x c m)
theorem Ts (x:At)(c:List AE)(m:Nat):Ei x c m<=m:=ZP _ _ _
theorem OG {x:At}{c:List AE}{m:Nat}:∀y∈FU x c m,y∈BV c:=λy hy=>Jv (El hy)
theorem QP {x:At}{c:List AE}{m:Nat}:∀y∈I8 x c m,y∈BV c:=λy hy=>by
 rcases List.mem_append.1 hy with h|h
 ·exact List.mem_reverse.1 (El h)
 ·exact El h
theorem Te {x:At}{c:List AE}{m:Nat}(h:m<=(BV c).length):(FU x c m).length=(BV c).length-m:=by
 have:=Ts x c m
 unfold FU;rw[Ba,Dq];omega
theorem m7 {x:At}{c:List AE}{m:Nat}(h:m<=(BV c).length):(I8 x c m).length=m:=by
 have:=Ts x c m
 unfold I8;rw[Bh,Ba,Ba,List.length_reverse];omega
def Gd (l:List AE)(y:AE):Prop:=∃z∈l,y.grain=z.grain/\y.shs=z.shs
theorem LP {l:List AE}:∀y∈Bl l,Gd l y:=by
 have:∀(l R A:List AE),(∀y∈R,Gd A y)->∀y∈l.foldl Ck R,Gd (A++l) y:=λl=>by
  induction l with
  |nil=>intro R A h y hy;rw[C3];exact h y hy
  |cons x l ih=>
   intro R A h y hy;rw[List.foldl_cons]at hy
   have:=ih (Ck R x) (A++[x]) (λz hz=>by
    unfold Ck at hz;split at hz
    ·rename_i w hw
     split at hz
     ·rcases List.mem_append.1 hz with hz|hz
      ·obtain⟨q,hq,e⟩:=h z ((List.dropLast_sublist R).subset hz)
       exact⟨q,HP _ hq,e⟩
      ·obtain rfl:=List.mem_singleton.1 hz
       obtain⟨q,hq,e⟩:=h w (List.mem_of_getLast? hw);exact⟨q,HP _ hq,e⟩
     ·rcases List.mem_append.1 hz with hz|hz
      ·obtain⟨q,hq,e⟩:=h z hz
       exact⟨q,HP _ hq,e⟩
      ·obtain rfl:=List.mem_singleton.1 hz
       exact⟨z,List.mem_append_right _ (List.mem_singleton.2 rfl),rfl,rfl⟩
    ·obtain rfl:=List.mem_singleton.1 hz
     exact⟨z,List.mem_append_right _ (List.mem_singleton.2 rfl),rfl,rfl⟩) y hy
   rw[DZ]at this;exact this
 intro y hy
 have:=this l [] [] (λy hy=>by cases hy) y hy
 rwa [Ft]at this
theorem OU {l:List AE}:∀y∈BV l,Gd l y:=λy hy=>by
 obtain⟨z,hz,rfl,_⟩:=RS y hy;exact⟨z,hz,rfl,rfl⟩
theorem Gd.trans {l L:List AE}{y:AE}(h:Gd L y)(hL:∀z∈L,Gd l z):Gd l y:=by
 obtain⟨z,hz,e1,e2⟩:=h;obtain⟨q,hq,e3,e4⟩:=hL z hz;exact⟨q,hq,e1.trans e3,e2.trans e4⟩
theorem Md {l:List AE}(h:∀x∈l,1<=x.mass):∀y∈Bl l,1<=y.mass:=by
 have:∀(l R:List AE),(∀x∈l,1<=x.mass)->(∀y∈R,1<=y.mass)->∀y∈l.foldl Ck R,1<=y.mass:=λl=>by
  induction l with
  |nil=>intro R _ h;exact h
  |cons x l ih=>
   intro R hl hR;rw[List.foldl_cons];refine ih _ (λy hy=>hl y (CD _ hy)) λz hz=>?_
   have hx:=hl x (B9 ..);unfold Ck at hz;split at hz
   ·rename_i w hw
    split at hz
    ·rcases List.mem_append.1 hz with hz|hz
     ·exact hR z ((List.dropLast_sublist R).subset hz)
     ·obtain rfl:=List.mem_singleton.1 hz
      have:=hR w (List.mem_of_getLast? hw)
      show 1<=w.mass+x.mass;omega
    ·rcases List.mem_append.1 hz with hz|hz
     ·exact hR z hz
     ·obtain rfl:=List.mem_singleton.1 hz;exact hx
   ·obtain rfl:=List.mem_singleton.1 hz;exact hx
 exact this l [] h λy hy=>by cases hy
theorem WF {l:List AE}(h:∀x∈l,0<=x.mass){y:AE}(hy:y∈l):y.mass<=Al l:=by
 obtain⟨A,B,rfl⟩:=E4 hy;rw[OI,show Al (y::B)=y.mass+Al B from rfl];have p1:=Lb (l:=A) λz hz=>h z (HP _ hz)
 have p2:=Lb (l:=B) λz hz=>h z (List.mem_append_right _ (CD _ hz))
 omega
theorem iv {y z:AE}(h:CW z=0)(e1:y.grain=z.grain)(e2:y.shs=z.shs)(hm:1<=y.mass/\y.mass<=999999999):CW y=0:=by
 unfold CW at h⊢;rw[e1,e2];split at h
 ·cases h
 ·split at h
  ·cases h
  ·rw[AF (by assumption),AF (by omega)];exact h
theorem YB {l L:List AE}(h:Br l=0)(hk:∀y∈L,Gd l y)(hn:L.length<=64)(hm:∀y∈L,1<=y.mass)(hs:Al L<=999999999):Br L=0:=by
 obtain⟨h1,h2,h3⟩:=Ka h;have h0:∀y∈L,0<=y.mass:=λy hy=>by have:=hm y hy;omega
 unfold Br;rw[AF (by omega),LC (λj hj=>?_),AF (by decide),AF (by omega)];have hj2:CG L j∈L:=by
  unfold CG;rw[Dj,BE hj];exact List.getElem_mem hj
 obtain⟨z,hz,e1,e2⟩:=hk _ hj2
 have:=WF h0 hj2
 exact iv (h2 z hz) e1 e2 ⟨hm _ hj2,by omega⟩
theorem jN {l:List AE}(h:CJ l=true):∀x∈l,∀y∈l,x.grain=y.grain:=λx hx y hy=>by
 unfold CJ at h;rw[CN]at h;have h1:=h x hx;have h2:=h y hy;rw[LT,decide_eq_true_iff]at h1 h2;rw[h1,h2]
theorem kL {l:List AE}(h:∀x∈l,∀y∈l,x.grain=y.grain):CJ l=true:=by
 unfold CJ;rw[CN];intro x hx;rw[LT,decide_eq_true_iff];refine h x hx _ ?_;unfold CG;cases l with
 |nil=>cases hx
 |cons a l=>exact B9 ..
theorem nC {l L:List AE}(h:CJ l=true)(hk:∀y∈L,Gd l y):CJ L=true:=kL λx hx y hy=>by
 obtain⟨a,ha,e1,_⟩:=hk x hx;obtain⟨b,hb,e2,_⟩:=hk y hy;rw[e1,e2];exact jN h a ha b hb
theorem Xl {x:At}{c L:List AE}(h:C8 x c=0)(hk:∀y∈L,Gd c y)(hn:L.length<=64)(hm:∀y∈L,1<=y.mass)(hs:Al L<=Al c):C8 x L=0:=by
 obtain⟨h1,h2,h3,h4,h5,h6⟩:=Hg h;exact Xm (YB h1 hk hn hm (by omega)) (nC h2 hk) (by omega)
theorem jG {x y:At}(hr:y.room=x.room)(c:List AE):C8 y c=C8 x c:=by unfold C8;rw[hr]
theorem Xn {x:At}:∀ {l:List (List AE)},(∀c∈l,C8 x c=0)->EO x l=0
 | [],_=>rfl
 |c::l,h=>by
  show(if C8 x c≠0 then C8 x c else EO x l)=0;rw[AF (λq=>q (h c (B9 ..)))];exact Xn λd hd=>h d (CD _ hd)
theorem uP {x y:At}(h1:y.flow=x.flow)(h2:y.core=x.core)(h3:y.room=x.room)(h4:y.side=x.side)(h5:y.cells.length=x.cells.length):F6 y=F6 x:=by
 unfold F6 L4 Kp Rj;rw[h1,h2,h3,h4,h5]
theorem OY {x:At}(h:CQ x=0):F6 x=0/\Dc x.side (BT x)=false:=by
 unfold CQ at h
 by_cases h1:F6 x=0
 ·rw[AF (λq=>q h1)]at h
  by_cases h2:EO x x.cells=0
  ·rw[AF (λq=>q h2)]at h
   refine⟨h1,?_⟩;cases hb:Dc x.side (BT x)
   ·rfl
   ·rw[hb]at h;cases h
  ·rw[AG h2]at h;exact Ae h h2
 ·rw[AG h1]at h;exact Ae h h1
theorem qG {x y:At}(h:CQ x=0)(h1:y.flow=x.flow)(h2:y.core=x.core)(h3:y.room=x.room)(h4:y.side=x.side)(h5:y.cells.length=x.cells.length)(hc:∀c∈y.cells,C8 x c=0)(hs:Dc x.side (BT y)=false):CQ y=0:=by
 unfold CQ;rw[uP h1 h2 h3 h4 h5,(OY h).1,AF (λq=>q rfl),Xn (λc hq=>(jG h3 c).trans (hc c hq)),AF (λq=>q rfl),h4,hs];rfl
theorem oX {x:At}(h:CQ x=0):Q0 x:=by
 have h1:=(OY h).1;rw[RO]at h1;split at h1
 ·cases h1
 rename_i hf;split at h1
 ·cases h1
 rename_i hr;unfold Kt at hr;unfold Q0;cases hm:BJ (sb x.flow) GJ
 ·rw[hm]at hf hr
  cases hu:BJ (sb x.flow) Iv
  ·rw[hu]at hf;exact Ae rfl hf
  ·rw[hu]at hr
   simp only[HR,GY,Bool.false_or,K0,GX,not_or]at hr;exact .inr (by omega)
 ·exact .inl rfl
theorem ph {x:At}{c:List AE}{m:Nat}(hc:∀y∈c,1<=y.mass)(hm:m<=(BV c).length):(∀y∈Bl (FU x c m),Gd c y)/\(∀y∈Bl (FU x c m),1<=y.mass)/\Al (Bl (FU x c m))=Al c-m:=by
 have hu:∀y∈FU x c m,1<=y.mass:=λy hy=>by
  obtain⟨z,hz,rfl,_⟩:=RS y (OG y hy);exact Int.le_refl _
 refine⟨λy hy=>(LP y hy).trans λz hz=>OU z (OG z hz),Md hu,?_⟩;have h0:∀y∈c,0<=y.mass:=λy hy=>by have:=hc y hy;omega
 rw[Me,<-Mq h0];have h1:Al (FU x c m)=((FU x c m).length:Int):=by
  have:∀L:List AE,(∀y∈L,y.mass=1)->Al L=(L.length:Int):=λL=>by
   induction L with
   |nil=>intro _;rfl
   |cons a L ih=>
    intro h;rw[show Al (a::L)=a.mass+Al L from rfl,h a (B9 ..),ih λy hy=>h y (CD _ hy),Bo];omega
  exact this _ λy hy=>by
   obtain⟨z,hz,rfl,_⟩:=RS y (OG y hy);rfl
 rw[h1,Te hm];omega
def GD (x:At)(i m:Int):Int:=ES [Jn x [i],if decide (m<0)then 3 else 0]
def Cp (x:At)(i m:Int):At:=I4 x i.toNat (Bl (FU x (Du x i) m.toNat))
def Eg (x:At)(i m:Int):List AE:=Bl (I8 x (Du x i) m.toNat)
def Jg (x:At)(i m:Int):Int:=if Dc x.side (BT (Cp x i m))then 17 else if 64<(Eg x i m).length then 5 else 0
def GM (x:At)(i m:Int):Int:=if GD x i m≠0 then GD x i m else if Al (Du x i)<m then 13 else Jg x i m
def VO (x:At)(i m:Int):At:=if GM x i m≠0 then Rn else Cp x i m
def VP (x:At)(i m:Int):List AE:=if GM x i m≠0 then[]else Eg x i m
theorem ZC {P Q:List AE}(hP:∀y∈P,1<=y.mass)(hQ:∀y∈Q,1<=y.mass):Bl (Bl P++Bl Q)=Bl (P++Q):=by
 have h0:∀L:List AE,(∀y∈L,1<=y.mass)->∀y∈L,0<=y.mass:=λL h y hy=>by have:=h y hy;omega
 refine ut (λy hy=>?_) (λy hy=>?_) ?_
 ·rcases List.mem_append.1 hy with h|h
  ·exact Md hP y h
  ·exact Md hQ y h
 ·rcases List.mem_append.1 hy with h|h
  ·exact hP y h
  ·exact hQ y h
 ·rw[Ll,Ll,bF (h0 P hP),bF (h0 Q hQ)]
structure vL (x:At)(i m:Int)(c:List AE)(n k:Nat):Prop where
 cel:∀c∈x.cells,C8 x c=0
 bin:CQ x=0
 lt:i.toNat<x.cells.length
 ii:i=(i.toNat:Int)
 at_:x.cells[i.toNat]?=some c
 mm:m=(k:Int)
 nn:(n:Int)=Al c
 un:(BV c).length=n
 par:Br c=0
theorem Qy {x:At}{i m:Int}(h:GD x i m=0):vL x i m (Du x i) (BV (Du x i)).length m.toNat:=by
 obtain⟨h1,h2⟩:=re h;obtain⟨g1,g2,g3⟩:=rS h1;have hlt:i.toNat<x.cells.length:=by omega
 have hat:x.cells[i.toNat]?=some (Du x i):=by
  unfold Du;rw[Dj,BE hlt];rfl
 have hp:=(Hg (KU g1 _ (Av hat))).1;have hm:¬m<0:=λq=>by rw[AX q]at h2;cases h2
 exact⟨KU g1,g1,hlt,by omega,hat,by omega,Mq λy hy=>by have:=((Ee hp).2.1 y hy).1;omega,rfl,hp⟩
theorem UB:∀ {L:List AE},(∀y∈L,y.mass=1)->Al L=(L.length:Int)
 | [],_=>rfl
 |a::L,h=>by
  rw[show Al (a::L)=a.mass+Al L from rfl,h a (B9 ..),UB λy hy=>h y (CD _ hy),Bo];omega
theorem LU {c:List AE}:∀y∈BV c,y.mass=1:=λy hy=>by
 obtain⟨z,hz,rfl,_⟩:=RS y hy;rfl
theorem Ut {c L:List AE}(hp:Br c=0)(hL:∀y∈L,y∈BV c)(hl:L.length<=(BV c).length):(∀y∈Bl L,1<=y.mass/\y.mass<=1000000000/\y.shs.length<=1000000)/\Al (Bl L)=(L.length:Int):=by
 have h1:∀y∈L,y.mass=1:=λy hy=>LU y (hL y hy)
 have hs:=UB h1;have hc:=(Ka hp).2.2;have hn:=Mq (l:=c) λy hy=>by have:=((Ee hp).2.1 y hy).1;omega
 have h0:∀y∈Bl L,1<=y.mass:=Md λy hy=>by rw[h1 y hy];exact Int.le_refl _
 refine⟨λy hy=>⟨h0 y hy,?_,?_⟩,by rw[Me,hs]⟩
 ·have:=WF (λz hz=>by have:=h0 z hz;omega) hy
  rw[Me,hs]at this;omega
 ·obtain⟨z,hz,_,e⟩:=LP y hy
  obtain⟨w,hw,_,e2⟩:=OU z (hL z hz);rw[e,e2];exact((Ee hp).2.1 w hw).2.2
theorem SZ {c:List AE}{k:Nat}(hc:∀y∈c,1<=y.mass):(Bl ((BV c).take k)).length<=c.length:=by
 have h0:∀y∈c,0<=y.mass:=λy hy=>by have:=hc y hy;omega
 have e:=VE (l:=c) (m:=(k:Int)) h0 (by omega);rw[IX]at e;have h1:∀y∈D4 c (k:Int),0<=y.mass:=by
  have:∀(l:List AE) (m:Int),(∀y∈l,0<=y.mass)->0<=m->∀y∈D4 l m,0<=y.mass:=λl=>by
   induction l with
   |nil=>intro m _ _ y hy;cases hy
   |cons a l ih=>
    intro m h hm y hy
    have:=h a (B9 ..)
    rcases A8.1 hy with rfl|hy
    ·show 0<=min a.mass m;omega
    ·split at hy
     ·cases hy
     ·exact ih _ (λz hz=>h z (CD _ hz)) (by omega) y hy
  exact this c _ h0 (by omega)
 have h2:=Q5 h1;rw[e]at h2;rw[<-h2];have h3:=La (DG (D4 c (k:Int)));have h4:(DG (D4 c (k:Int))).length<=(D4 c (k:Int)).length:=List.length_filter_le ..;have h5:=UF c (k:Int);omega
theorem Vz {c:List AE}{k:Nat}(hc:∀y∈c,1<=y.mass):(Bl ((BV c).reverse.take k)).length<=c.length:=by
 rw[<-Us]
 have:=SZ (c:=c.reverse) (k:=k) λy hy=>hc y (List.mem_reverse.1 hy)
 rwa [List.length_reverse]at this
theorem iE {P Q:List AE}(hP:∀y∈P,1<=y.mass)(hQ:∀y∈Q,1<=y.mass):(Bl (P++Q)).length<=(Bl P).length+(Bl Q).length:=by
 rw[<-ZC hP hQ,<-Bh];exact La _
theorem jb {x:At}{c:List AE}{m:Nat}(hc:∀y∈c,1<=y.mass):(Bl (I8 x c m)).length<=c.length+c.length:=by
 have h1:∀y∈(BV c).reverse.take (m-Ei x c m),1<=y.mass:=λy hy=>by
  rw[LU y (List.mem_reverse.1 (El hy))];exact Int.le_refl _
 have h2:∀y∈(BV c).take (Ei x c m),1<=y.mass:=λy hy=>by
  rw[LU y (El hy)];exact Int.le_refl _
 have:=iE h1 h2
 have g1:=Vz (k:=m-Ei x c m) hc;have g2:=SZ (k:=Ei x c m) hc;unfold I8;omega
theorem QD {x:At}{c:List AE}{m:Nat}(hc:∀y∈c,1<=y.mass):(Bl (FU x c m)).length<=c.length:=by
 have h0:∀y∈c,0<=y.mass:=λy hy=>by have:=hc y hy;omega
 have e:=Uz (l:=c) (low:=(Ei x c m:Int)) (left:=(((BV c).length-m:Nat):Int)) h0 (by omega) (by omega);rw[IX,IX]at e;have hbl:∀(l:List AE) (a b:Int),(Ez l a b).length=l.length:=λl=>by
  induction l with
  |nil=>intro a b;rfl
  |cons z l ih=>intro a b;show(Ez l _ _).length+1=_;rw[ih];rfl
 have hbn:∀(l:List AE) (a b:Int),(∀y∈l,0<=y.mass)->0<=a->0<=b->∀y∈Ez l a b,0<=y.mass:=λl=>by
  induction l with
  |nil=>intro a b _ _ _ y hy;cases hy
  |cons z l ih=>
   intro a b h ha hb y hy
   have:=h z (B9 ..)
   rcases A8.1 hy with rfl|hy
   ·show 0<=min (z.mass-min z.mass a) b;omega
   ·exact ih _ _ (λw hw=>h w (CD _ hw)) (by omega) (by omega) y hy
 have h2:=Q5 (hbn c (Ei x c m:Int) (((BV c).length-m:Nat):Int) h0 (by omega) (by omega));rw[e]at h2;show(Bl (((BV c).drop (Ei x c m)).take ((BV c).length-m))).length<=_;rw[<-h2];have h3:=La (DG (Ez c (Ei x c m:Int) (((BV c).length-m:Nat):Int)));have h4:(DG (Ez c (Ei x c m:Int) (((BV c).length-m:Nat):Int))).length<=(Ez c (Ei x c m:Int) (((BV c).length-m:Nat):Int)).length:=List.length_filter_le ..;rw[hbl]at h4;omega
abbrev Is:Dr:=[(9,[0,1,2,3,4,5,6,7,8,9],[10]),(11,[0,1,2,3,4],[5,6,7])]
open Go.Proofs Go.RowKit
set_option maxRecDepth 20000
set_option maxHeartbeats 4000000
theorem TT {H:Hp}{a a' b b' c:D}(h1:Fz H [] a a')(h2:Fz H [] b b'):Fz H [] (.tup [a,b,c]) (.tup [a',b',c]):=MT h1 h2
theorem x6 (x:At)(hl:x.cells.length<=1000000)(hc:∀c∈x.cells,c.length<=1000000/\∀y∈c,y.few)(i m:Int):AI C0 15 [x.D,i64 i,i64 m] (.tup [(VO x i m).D,Am false (VP x i m),i64 (GM x i m)]):=by
 refine Ag.walk w1 dF rfl λF=>?_
 have cC:=x8 x hl hc [i] (by simp);have cW:=G7 (decide (m<0)) 3;have cF1:=Lh [Jn x [i],if decide (m<0)then 3 else 0] (by simp);rw[show ES [Jn x [i],if decide (m<0)then 3 else 0]=GD x i m from rfl]at cF1;have hE:GM x i m=if GD x i m≠0 then GD x i m else if Al (Du x i)<m then 13 else Jg x i m:=rfl
 have hB:VO x i m=if GM x i m≠0 then Rn else Cp x i m:=rfl
 have hL:VP x i m=if GM x i m≠0 then[]else Eg x i m:=rfl
 have hz:Rn.D=.agg [str (sb []),i64 0,i64 0,i64 0,.sl false 1 []]:=rfl;have pz:AA (.tup [Rn.D,Am false [],i64 (GM x i m)]):=AJ;rw[hz]at pz
 by_cases h0:GD x i m=0
 rotate_left
 ·have k2:(GD x i m != 0)=true:=Ir h0
  rw[AG h0]at hE;rw[hE,AG h0]at hB hL;rw[hE]at pz;rw[hB,hL,hE,hz];unfold At.D at cC⊢;refine AH Is k2 cC cW cF1 AB AB AB ?_;exact⟨_,TT (RL (.nil 1)) (.nil 3),pz.out,rfl⟩
 have k2:(GD x i m != 0)=false:=by rw[h0];rfl
 rw[AF (λh=>h h0)]at hE;have ok:=Qy h0;obtain⟨c,hcc⟩:∃c,Du x i=c:=⟨_,rfl⟩
 obtain⟨k,hk⟩:∃k,m.toNat=k:=⟨_,rfl⟩
 obtain⟨n,hn⟩:∃n,(BV c).length=n:=⟨_,rfl⟩
 have hO:Cp x i m=I4 x i.toNat (Bl (FU x c k)):=by unfold Cp;rw[hcc,hk]
 have hF:Eg x i m=Bl (I8 x c k):=by unfold Eg;rw[hcc,hk]
 have hE3:Jg x i m=if Dc x.side (BT (Cp x i m))then 17 else if 64<(Eg x i m).length then 5 else 0:=rfl
 rw[hcc]at hE ok;rw[hk,hn]at ok;have hpn:=Ee ok.par;have hps:=(Ka ok.par).2.2;have hmem:=Av ok.at_;have cT:=Rc false c (by omega);rw[JS hpn.2.2,<-ok.nn]at cT;have hat:(x.cells.map (Am false))[i.toNat]?=some (.sl false 3 (c.map AE.D)):=by rw[A7,ok.at_];rfl
 have hi0:0<=i:=by have:=ok.ii;omega
 have hil:i<(x.cells.length:Int):=by have:=ok.ii;have:=ok.lt;omega
 have el:(((x.cells.map (Am false)).length:Nat):Int)=(x.cells.length:Int):=by rw[Ak]
 have hmk:=ok.mm
 by_cases h1:Al c<m
 ·have k3:decide ((n:Int)<m)=true:=AX (by rw[ok.nn];exact h1)
  rw[AG h1]at hE;rw[hE,AG (by decide)]at hB hL;rw[hE]at pz;rw[hB,hL,hE,hz];unfold At.D at cC⊢;refine AH Is (As k2 el k3) cC cW cF1 hat cT AB ?_;exact⟨_,TT (RL (.nil 1)) (.nil 3),pz.out,rfl⟩
 have k3:decide ((n:Int)<m)=false:=Ac (by rw[ok.nn];exact h1);rw[AF h1]at hE;have hkn:k<=n:=by have:=ok.nn;omega
 have hnB:n<=1000000000:=by have:=ok.nn;omega
 have cLo:=pP x n k hkn hnB (oX ok.bin);have hlX:Ei x c k=HD (Kk x) n k:=by unfold Ei;rw[hn]
 rw[<-hlX]at cLo;have hA:=Ts x c k;have hxc:∀y∈c,0<=y.mass/\y.mass<=1000000000/\y.shs.length<=1000000:=λy hy=>⟨by have:=(hpn.2.1 y hy).1;omega,(hpn.2.1 y hy).2⟩
 have hown:∀y∈c,∀m,AI C0 94 [y.D,i64 m] (y.w m).D:=λy q m=>Oa y m (hxc y q).2.2
 have hrD:FU x c k=((BV c).drop (Ei x c k)).take (n-k):=by unfold FU;rw[hn]
 have hfD:I8 x c k=(BV c).reverse.take (k-Ei x c k)++(BV c).take (Ei x c k):=rfl;obtain⟨A,hAe⟩:∃A,Ei x c k=A:=⟨_,rfl⟩
 rw[hAe]at cLo hA hrD hfD;have hbl:∀(l:List AE) (a b:Int),(Ez l a b).length=l.length:=λl=>by
  induction l with
  |nil=>intro a b;rfl
  |cons z l ih=>intro a b;show(Ez l _ _).length+1=_;rw[ih];rfl
 have hbn:∀(l:List AE) (a b:Int),(∀y∈l,0<=y.mass/\y.mass<=1000000000/\y.shs.length<=1000000)->0<=a->0<=b->∀y∈Ez l a b,0<=y.mass/\y.mass<=1000000000/\y.shs.length<=1000000:=λl=>by
  induction l with
  |nil=>intro a b _ _ _ y hy;cases hy
  |cons z l ih=>
   intro a b h ha hb y hy
   have:=h z (B9 ..)
   rcases A8.1 hy with rfl|hy
   ·refine⟨?_,?_,this.2.2⟩
    ·show 0<=min (z.mass-min z.mass a) b;omega
    ·show min (z.mass-min z.mass a) b<=_;omega
   ·exact ih _ _ (λw hw=>h w (CD _ hw)) (by omega) (by omega) y hy
 have cBt:=WS false c (A:Int) ((k-A:Nat):Int) (by omega) ⟨by omega,by omega⟩ ⟨by omega,by omega⟩ (n:Int) ⟨by omega,by omega⟩ (λy q=>⟨(hxc y q).1,(hxc y q).2.1⟩) cT hown (Am false (Bl (FU x c k))) (by
  have h3:=TZ false (Ez c (A:Int) ((n:Int)-A-((k-A:Nat):Int))) (by rw[hbl];omega) (hbn c _ _ hxc (by omega) (by omega));rw[Q5 λy hy=>(hbn c _ _ hxc (by omega) (by omega) y hy).1,Uz (λy hy=>(hxc y hy).1) (by omega) (by omega),IX,show((n:Int)-A-((k-A:Nat):Int)).toNat=n-k by omega,<-hrD]at h3;exact h3)
 have wA:IntKind.i64.wrap (m-(A:Int))=((k-A:Nat):Int):=by rw[wI (by omega) (by omega)];omega
 have cWi:=xa x i.toNat ok.lt hl (λc hq=>W9 false c (hc c hq).1 (Ee (Hg (ok.cel c hq)).1).2.1) (Bl (FU x c k));rw[<-ok.ii,<-hO]at cWi;have cP1:=eW false true c (k-A) (by omega) (by omega) hxc;have cP2:=eW false false c A (by omega) (by omega) hxc;rw[show Ph true c=(BV c).reverse from rfl]at cP1;rw[show Ph false c=BV c from rfl]at cP2;have u1:=Ut (L:=(BV c).reverse.take (k-A)) ok.par (λy hy=>List.mem_reverse.1 (El hy)) (by rw[Ba,List.length_reverse];omega);have u2:=Ut (L:=(BV c).take A) ok.par (λy hy=>El hy) (by rw[Ba];omega);have g1:=Vz (c:=c) (k:=k-A) λy hy=>(hpn.2.1 y hy).1
 have g2:=SZ (c:=c) (k:=A) λy hy=>(hpn.2.1 y hy).1
 have v1:∀y∈(BV c).reverse.take (k-A),1<=y.mass:=λy hy=>by
  rw[LU y (List.mem_reverse.1 (El hy))];exact Int.le_refl _
 have v2:∀y∈(BV c).take A,1<=y.mass:=λy hy=>by
  rw[LU y (El hy)];exact Int.le_refl _
 have hFn:=ZC v1 v2;rw[<-hfD,<-hF]at hFn;obtain⟨P,hP⟩:∃P,Bl ((BV c).reverse.take (k-A))=P:=⟨_,rfl⟩
 obtain⟨Q,hQ⟩:∃Q,Bl ((BV c).take A)=Q:=⟨_,rfl⟩
 rw[hP]at cP1 u1 g1 hFn;rw[hQ]at cP2 u2 g2 hFn;have cCC:=lL [P,Q] (by rw[show[P,Q].flatten=P++Q by simp,Bh];omega) (by simp);rw[show[P,Q].flatten=P++Q by simp]at cCC;have cN:=W9 false (P++Q) (by rw[Bh];omega) λy hy=>by
  rcases List.mem_append.1 hy with h|h
  ·exact u1.1 y h
  ·exact u2.1 y h
 rw[hFn]at cN;have hFl:(Eg x i m).length<=1000000:=by
  rw[<-hFn]
  have:=La (P++Q)
  rw[Bh]at this;omega
 have cCr:=vB (Eg x i m) hFl;have hol:(Cp x i m).cells.length=x.cells.length:=by
  rw[hO];show((x.cells.map Bl).set _ _).length=_;rw[DE,Ak]
 have hoc:∀c∈(Cp x i m).cells,c.length<=1000000:=λd hq=>by
  rw[hO]at hq;rcases NQ hq with h|h
  ·obtain⟨e,h1,rfl⟩:=List.mem_map.1 h
   have:=La e
   have:=(hc e h1).1
   omega
  ·rw[h]
   have:=QD (x:=x) (c:=c) (m:=k) λy hy=>(hpn.2.1 y hy).1
   omega
 have cLv:=Yj (Cp x i m) (by omega) λc h=>by have:=hoc c h;omega
 have cSt:=Zs x false (BT (Cp x i m)) (by unfold BT;rw[Ak];omega);have cF3:=Lh [if Dc x.side (BT (Cp x i m))then 17 else 0,if 64<(Eg x i m).length then 5 else 0] (by simp);have hE3':ES [if Dc x.side (BT (Cp x i m))then 17 else 0,if 64<(Eg x i m).length then 5 else 0]=Jg x i m:=by
  rw[hE3];cases Dc x.side (BT (Cp x i m))
  ·by_cases h:64<(Eg x i m).length
   ·rw[AG h];rfl
   ·rw[AF h];rfl
  ·rfl
 rw[hE3']at cF3;have hoD:(Cp x i m).D=.agg [str (sb x.flow),i64 x.core,i64 x.room,i64 x.side,.sl false 1 ((Cp x i m).cells.map (Am false))]:=by rw[hO];rfl
 have po:AA (.tup [(Cp x i m).D,Am false (Eg x i m),i64 (GM x i m)]):=AJ;have Ge:AA (Cp x i m).D:=AJ;rw[hoD]at cWi cLv po Ge;obtain⟨OD,hOD⟩:∃O,(Cp x i m).cells.map (Am false)=O:=⟨_,rfl⟩
 rw[hOD]at cWi cLv po Ge hoD;subst hmk
 by_cases h2:Jg x i (k:Int)=0
 rotate_left
 ·have k4:(Jg x i (k:Int) != 0)=true:=Ir h2
  rw[hE,AG h2]at hB hL;rw[hE]at pz;rw[hB,hL,hE,hz];unfold At.D at cC cWi cSt cLo⊢;refine AH Is (BW k2 el k3 wA) cC cW cF1 hat cT cLo ?_;refine AH Is (Aj wA k4) cBt cWi AB AB AB AB ?_;refine AH Is wA cP1 cP2 cCC cN cCr AB ?_;refine AH Is k4 cLv cSt cF3 AB AB AB ?_;exact⟨_,TT (RL (.nil 1)) (.nil 3),pz.out,rfl⟩
 ·have k4:(Jg x i (k:Int) != 0)=false:=by rw[h2];rfl
  have h64:¬ 64<(Eg x i (k:Int)).length:=λh=>by
   rw[hE3,AG h]at h2;split at h2<;>cases h2
  rw[hE,AF (λh=>h h2)]at hB hL;rw[hE,h2]at po;rw[AF h64]at cCr;rw[hB,hL,hE,h2,hoD];unfold At.D at cC cWi cSt cLo⊢;refine AH Is (BW k2 el k3 wA) cC cW cF1 hat cT cLo ?_;refine AH Is (Aj wA k4) cBt cWi AB AB AB AB ?_;refine AH Is wA cP1 cP2 cCC cN cCr AB ?_;refine AH Is k4 cLv cSt cF3 AB AB AB ?_;exact AL rfl po.out
open Go.Sort
def Kv (x:At):Bool:=x.cells.all Gj&&(decide (x.flow.length<=100)&&decide (x.cells.length<=20))
theorem li (x:At)(hl:x.cells.length<=9223372036854775807)(hs:∀c∈x.cells,c.length<=9223372036854775807/\∀y∈c,y.shs.length<=9223372036854775807):AI C0 39 [x.D] (Aq (Kv x)):=by
 refine Ag.walk w1 xJ rfl λF=>?_
 obtain⟨cs,hcs⟩:∃c,x.cells=c:=⟨_,rfl⟩
 have el:(((cs.map (Am false)).length:Nat):Int)=(cs.length:Int):=by rw[Ak]
 have hb:Kv x=(cs.all Gj&&(decide (x.flow.length<=100)&&decide (cs.length<=20))):=by rw[<-hcs];rfl
 rw[hb];unfold At.D;rw[hcs]at hl hs⊢;refine AH AZ el AB AB AB AB AB AB ?_;refine AC.loop (α:=Nat×Nat) (λp=>⟨[(1,.optr 0 0 5 0 0),(6,FG false cs),(7,i64 (cs.length:Int)),(8,i64 (p.1:Int))],[⟨0,0,24,5,[.agg [str (sb x.flow),i64 x.core,i64 x.room,i64 x.side,FG false cs]]⟩],p.2⟩) (λp=>cs.length-p.1) (λq=>q.1<=cs.length/\(cs.take q.1).all Gj=true) (0,_) ⟨BS _,rfl⟩ AK ?_;rintro⟨i,n⟩ F ⟨hi,ha⟩;dsimp only at hi ha⊢;rcases BG i cs.length with h2|h2
 rotate_left
 ·have e1:=CZ h2
  have:i=cs.length:=by omega
  subst this;rw[DO]at ha;rw[ha,GY];have hsz:=Ce x.flow;have d1:decide (x.flow.length<=100)=decide ((x.flow.length:Int)<=100):=C4.2 (by omega);have d2:decide (cs.length<=20)=decide ((cs.length:Int)<=20):=C4.2 (by omega);rw[d1,d2];obtain⟨q1,h1⟩:∃q,decide ((x.flow.length:Int)<=100)=q:=⟨_,rfl⟩
  rw[h1];cases q1
  all_goals
   refine AH AZ (EM e1 hsz el h1 kT kF) AB AB AB AB AB AB ?_;exact AL rfl AA.out
 have e1:=Ca h2;have wi:=Cc (i:=i) (by omega);obtain⟨c,hc⟩:=CP h2;have hm:(cs.map (Am false))[i]?=some (.sl false 3 (c.map AE.D)):=by rw[A7,hc];rfl
 obtain⟨hs1,hs2⟩:=hs c (Av hc);have cS:=uU false c hs1 hs2;have htk:cs.take (i+1)=cs.take i++[c]:=by rw[Di,hc];rfl
 cases hq:Gj c
 ·rw[hq]at cS
  have hall:cs.all Gj=false:=by
   rw[List.all_eq_false];exact⟨c,Av hc,by rw[hq];exact Bool.false_ne_true⟩
  rw[hall,HR];refine AH AZ (As e1 kT kF) hm cS AB AB AB AB ?_;exact AL rfl AA.out
 ·rw[hq]at cS
  refine AH AZ (BW e1 wi kT kF) hm cS AB AB AB AB ?_;exact⟨(i+1,_),⟨h2,by dsimp only;rw[htk,Jz,ha,FZ,hq];rfl⟩,by dsimp only;omega,AK⟩
theorem bw {x:At}(h:Kv x=true):x.cells.length<=20/\x.flow.length<=100/\∀c∈x.cells,(∀y∈c,y.lite/\y.modr)/\c.length<=80:=by
 unfold Kv at h;rw[BO,BO,decide_eq_true_iff,decide_eq_true_iff,CN]at h;obtain⟨h1,h2,h3⟩:=h;refine⟨h3,h2,λc hc=>?_⟩;obtain⟨g1,g2,_⟩:=ob (h1 c hc);exact⟨g1,g2⟩
def Kn (l:List AE)(n most:Int):Bool:=decide ((l.length:Int)<=n)&&decide (Al l<=most)
def NI (x:At)(most:Int):Bool:=decide (x.cells.length<=4)&&(decide (CQ x=0)&&x.cells.all λc=>Kn c 6 most)
def PA (x:At):Bool:=Kv x&&NI x 999999999
theorem ub (l:List AE)(n most:Int)(hl:l.length<=1000000)(hf:∀x∈l,x.modr)(hp:Br l=0):AI C0 88 [Am false l,i64 n,i64 most] (Aq (Kn l n most)):=by
 refine Ag.walk w1 wC rfl λF=>?_
 have el:(((l.map AE.D).length:Nat):Int)=(l.length:Int):=by rw[Ak]
 have cP:=fN false l hl hf;have cM:=VL false l (Ee hp).2.2;rw[hp]at cP;have k0:(((0:Nat):Int)==0)=true:=rfl;unfold Kn;obtain⟨a,ha⟩:∃a,decide ((l.length:Int)<=n)=a:=⟨_,rfl⟩
 obtain⟨b,hb⟩:∃b,decide (Al l<=most)=b:=⟨_,rfl⟩
 rw[ha,hb];cases a
 ·refine AH AZ (As el ha k0) AB AB AB AB AB AB ?_
  exact AL rfl AA.out
 ·cases b
  ·refine AH AZ (BW el ha hb k0) cP cM AB AB AB AB ?_
   exact AL rfl AA.out
  ·refine AH AZ (BW el ha hb k0) cP cM AB AB AB AB ?_
   exact AL rfl AA.out
theorem xd (x:At)(most:Int)(hl:x.cells.length<=1000000)(hc:∀c∈x.cells,c.length<=1000000/\∀y∈c,y.modr):AI C0 40 [x.D,i64 most] (Aq (NI x most)):=by
 refine Ag.walk w1 xK rfl λF=>?_
 have cB:=pZ x hl hc;have hE:NI x most=(decide (x.cells.length<=4)&&(decide (CQ x=0)&&x.cells.all λc=>Kn c 6 most)):=rfl;have hcl:=@KU x;obtain⟨cs,hcs⟩:∃c,x.cells=c:=⟨_,rfl⟩
 have el:(((cs.map (Am false)).length:Nat):Int)=(cs.length:Int):=by rw[Ak]
 obtain⟨E,hEE⟩:∃E,CQ x=E:=⟨_,rfl⟩
 rw[hE];unfold At.D at cB⊢;rw[hcs]at cB hcl hl hc⊢;rw[hEE]at cB hcl⊢
 by_cases h4:cs.length<=4
 rotate_left
 ·have k1:decide ((cs.length:Int)>4)=true:=AX (by omega)
  rw[Ac h4,HR];refine AH AZ (Aj el k1) AB AB AB AB AB AB ?_;exact AL rfl AA.out
 have k1:decide ((cs.length:Int)>4)=false:=Ac (by omega);rw[AX h4,GY]
 by_cases h0:E=0
 rotate_left
 ·have k2:(E != 0)=true:=Ir h0
  rw[Ac h0,HR];refine AH AZ (As el k1 k2) cB AB AB AB AB AB ?_;exact AL rfl AA.out
 have k2:(E != 0)=false:=by rw[h0];rfl
 rw[AX h0,GY];refine AH AZ (As el k1 k2) cB AB AB AB AB AB ?_;refine AC.loop (α:=Nat×Nat) (λp=>⟨[(1,i64 most),(2,.optr 0 0 5 0 0),(5,i64 (p.1:Int))],[⟨0,0,24,5,[.agg [str (sb x.flow),i64 x.core,i64 x.room,i64 x.side,FG false cs]]⟩],p.2⟩) (λp=>cs.length-p.1) (λq=>q.1<=cs.length/\((cs.take q.1).all λc=>Kn c 6 most)=true) (0,_) ⟨BS _,rfl⟩ AK ?_;rintro⟨i,n⟩ F ⟨hi,ha⟩;dsimp only at hi ha⊢;rcases BG i cs.length with h2|h2
 rotate_left
 ·have e1:=CZ h2
  have:i=cs.length:=by omega
  subst this;rw[DO]at ha;rw[ha];refine AH AZ (Aj e1 el) AB AB AB AB AB AB ?_;exact AL rfl AA.out
 have e1:=Ca h2;have wi:=Cc (i:=i) (by omega);obtain⟨c,hc'⟩:=CP h2;have hm:(cs.map (Am false))[i]?=some (.sl false 3 (c.map AE.D)):=by rw[A7,hc'];rfl
 have hmem:=Av hc';have cF:=ub c 6 most (hc c hmem).1 (hc c hmem).2 (Hg (hcl h0 c hmem)).1;have htk:cs.take (i+1)=cs.take i++[c]:=by rw[Di,hc'];rfl
 cases hq:Kn c 6 most
 ·rw[hq]at cF
  have hall:(cs.all λc=>Kn c 6 most)=false:=by
   rw[List.all_eq_false];exact⟨c,hmem,by rw[hq];exact Bool.false_ne_true⟩
  rw[hall];refine AH AZ (CF e1 el kT kF kN) hm cF AB AB AB AB ?_;exact AL rfl AA.out
 ·rw[hq]at cF
  refine AH AZ (EM e1 el wi kT kF kN) hm cF AB AB AB AB ?_;exact⟨(i+1,_),⟨h2,by dsimp only;rw[htk,Jz,ha,FZ,hq];rfl⟩,by dsimp only;omega,AK⟩
structure cz (x:At)(m:Int):Prop where
 n:x.cells.length<=4
 len:∀c∈x.cells,c.length<=6
 mass:∀c∈x.cells,Al c<=m
 bin:CQ x=0
theorem r9 {x:At}{m:Int}(h:NI x m=true):cz x m:=by
 unfold NI at h;rw[BO,BO,decide_eq_true_iff,decide_eq_true_iff,CN]at h;obtain⟨h1,h2,h3⟩:=h;have h4:∀c∈x.cells,(c.length:Int)<=6/\Al c<=m:=λc hc=>by
  have:=h3 c hc
  unfold Kn at this
  rwa [BO,decide_eq_true_iff,decide_eq_true_iff]at this
 exact⟨h1,λc hc=>by have:=(h4 c hc).1;omega,λc hc=>(h4 c hc).2,h2⟩
theorem qF (x:At):x.D=.agg [str (sb x.flow),i64 x.core,i64 x.room,i64 x.side,.sl false 1 (x.cells.map (Am false))]:=rfl
theorem Tt {x:At}{i:Nat}{c:List AE}(h:CQ x=0)(hc:x.cells[i]?=some c):(BT x).getD i 0=Al c:=by
 rw[(RR h).1,Dj,A7,hc];rfl
theorem oy {x:At}{c:List AE}(h:C8 x c=0):Cy (Bl c)=Al c:=by
 have p:=Hg h;have hn:=Ee p.1
 have:=ju hn.2.1 (by omega) (by omega)
 rw[JS this.1,this.2.2]
theorem lk {x:At}{i:Nat}{L:List AE}(h:CQ x=0):BT (I4 x i L)=(BT x).set i (Cy L):=by
 show List.map Cy ((x.cells.map Bl).set i L)=_;rw[List.map_set,List.map_map,(RR h).1]
 congr 1
 exact NY λc hq=>oy (KU h c hq)
theorem oz {c L:List AE}(hp:Br c=0)(hL:∀y∈L,y∈BV c)(hl:L.length<=(BV c).length)(hn:(Bl L).length<=1000000):Cy (Bl L)=(L.length:Int):=by
 obtain⟨h1,h2⟩:=Ut hp hL hl;rw[JS ⟨hn,λy hy=>by have:=h1 y hy;omega⟩,h2]
theorem lj {x:At}{i:Nat}{c:List AE}{m:Nat}(h:CQ x=0)(hc:x.cells[i]?=some c)(hm:m<=(BV c).length):BT (I4 x i (Bl (FU x c m)))=(BT x).set i ((BT x).getD i 0-m):=by
 have hce:=Hg (KU h c (Av hc));have hpn:=Ee hce.1;have hr:=QD (x:=x) (c:=c) (m:=m) λy hy=>(hpn.2.1 y hy).1
 have hn:=Mq (l:=c) λy hy=>by have:=(hpn.2.1 y hy).1;omega
 rw[lk h,oz hce.1 OG (by rw[Te hm];omega) (by omega),Te hm,Tt h hc,<-hn]
 congr 1
 omega
theorem wZ {l:List AE}{y:AE}(h:Gd l y)(hf:∀z∈l,z.few):y.few:=by
 obtain⟨z,hz,e1,e2⟩:=h
 have:=hf z hz
 unfold AE.few at this⊢;rw[e1,e2];exact this
theorem TW {x:At}{i:Nat}{L:List AE}{P:List AE->Prop}(h1:∀c∈x.cells,P (Bl c))(h2:P L):∀d∈(I4 x i L).cells,P d:=λd hd=>by
 rcases NQ hd with hd|hd
 ·obtain⟨e,he,rfl⟩:=List.mem_map.1 hd
  exact h1 e he
 ·rw[hd];exact h2
theorem Yd (x:At)(i:Nat)(L:List AE):(I4 x i L).cells.length=x.cells.length:=by
 show((x.cells.map Bl).set _ _).length=_;rw[DE,Ak]
theorem nY {x:At}{c:List AE}(h:C8 x c=0):C8 x (Bl c)=0:=by
 have p:=Hg h;have hn:=Ee p.1
 have:=La c
 exact Xl h LP (by omega) (Md λy hy=>(hn.2.1 y hy).1) (by rw[Me];exact Int.le_refl _)
structure xX (x:At)(i m:Int):Prop where
 bin:CQ (Cp x i m)=0
 par:Br (Eg x i m)=0
 one:GD x i m=0
 mle:m<=Al (Du x i)
 stp:Dc x.side (BT (Cp x i m))=false
 f64:¬ 64<(Eg x i m).length
theorem rX {x:At}{i m:Int}(h1:GD x i m=0)(h2:¬Al (Du x i)<m)(h3:Dc x.side (BT (Cp x i m))=false):CQ (Cp x i m)=0:=by
 have ok:=Qy h1;have hce:=ok.cel _ (Av ok.at_);have hpn:=Ee ok.par;have hkn:m.toNat<=(BV (Du x i)).length:=by have:=ok.nn;have:=ok.mm;omega
 have hr:=ph (x:=x) (c:=Du x i) (m:=m.toNat) (λy hy=>(hpn.2.1 y hy).1) hkn;have hl:=QD (x:=x) (c:=Du x i) (m:=m.toNat) λy hy=>(hpn.2.1 y hy).1
 refine qG ok.bin rfl rfl rfl rfl (Yd ..) (TW (λc hc=>nY (ok.cel c hc)) ?_) h3;exact Xl hce hr.1 (by omega) hr.2.1 (by rw[hr.2.2];omega)
theorem lX {x:At}{c:List AE}{m:Nat}(h:m<=(BV c).length):Al (Bl (I8 x c m))=m:=by
 rw[Me,UB λy hy=>LU y (QP y hy),m7 h]
theorem vY {x:At}{i m:Int}(h:GM x i m=0):xX x i m:=by
 unfold GM at h
 by_cases h1:GD x i m=0
 ·rw[AF (λq=>q h1)]at h
  by_cases h2:Al (Du x i)<m
  ·rw[AG h2]at h;cases h
  ·rw[AF h2]at h
   unfold Jg at h;have h3:Dc x.side (BT (Cp x i m))=false:=by
    cases hb:Dc x.side (BT (Cp x i m))
    ·rfl
    ·rw[hb,AG rfl]at h;cases h
   rw[h3,AF (by decide)]at h;have h4:¬ 64<(Eg x i m).length:=λq=>by rw[AG q]at h;cases h
   have ok:=Qy h1;have hpn:=Ee ok.par;have hps:=(Ka ok.par).2.2;have hkn:m.toNat<=(BV (Du x i)).length:=by have:=ok.nn;have:=ok.mm;omega
   refine⟨rX h1 h2 h3,YB ok.par (λy hy=>(LP y hy).trans λz hz=>OU z (QP z hz)) (by omega) (Md λy hy=>?_) ?_,h1,by omega,h3,h4⟩
   ·rw[LU y (QP y hy)];exact Int.le_refl _
   ·show Al (Bl (I8 x (Du x i) m.toNat))<=_
    rw[lX hkn]
    have:=ok.mm
    omega
 ·rw[AG h1]at h;exact Ae h h1
theorem vX {x:At}{i m:Int}(h:x.cells[i.toNat]?=some (Du x i)):(∀c∈(Cp x i m).cells,∃d∈x.cells,∀y∈c,Gd d y)/\∀y∈Eg x i m,Gd (Du x i) y:=
 ⟨TW (λc hc=>⟨c,hc,LP⟩) ⟨_,Av h,λy hy=>(LP y hy).trans λz hz=>OU z (OG z hz)⟩,
  λy hy=>(LP y hy).trans λz hz=>OU z (QP z hz)⟩
theorem oR {x:At}{i m:Int}(h:GD x i m=0):∀c∈(Cp x i m).cells,∃d∈x.cells,c.length<=d.length:=by
 have ok:=Qy h;exact TW (λc hc=>⟨c,hc,La c⟩) ⟨_,Av ok.at_,QD λy hy=>((Ee ok.par).2.1 y hy).1⟩
def EE (side:Int)(l:List Int):Int:=I1 side l (Cb l)
def Rz (x:At):List (Nat×Int)×Int:=if CQ x≠0 then([],CQ x)else GZ (EE x.side) 257 (BT x) []
structure K8 (side:Int)(N:Nat)(l:List Int):Prop where
 len:l.length=N
 bnd:∀v∈l,0<=v/\v<=1000000000
 stp:Dc side l=false
theorem Ri {l:List Int}(h:0<l.length):Cb l<l.length:=Q3 h _ (Af _)
theorem Q4 {l:List Int}(h:0<l.length):∀k,k<l.length->l.getD k 0<=l.getD (Cb l) 0:=by
 have:∀n,n<=l.length->∀k,k<n->l.getD k 0<=l.getD (Gc l n) 0:=λn=>by
  induction n with
  |zero=>intro _ k hk;omega
  |succ n ih=>
   intro hn k hk;have h1:=ih (by omega);show _<=l.getD (if l.getD (Gc l n) 0<l.getD n 0 then n else Gc l n) 0
   by_cases hq:l.getD (Gc l n) 0<l.getD n 0
   ·rw[AG hq]
    by_cases hkn:k=n
    ·rw[hkn];exact Int.le_refl _
    ·have:=h1 k (by omega);omega
   ·rw[AF hq]
    by_cases hkn:k=n
    ·rw[hkn];omega
    ·exact h1 k (by omega)
 exact this _ (Af _)
theorem TY {side:Int}{N:Nat}{l:List Int}(hs:0<=side/\side<=1000000000)(hN:0<N)(h:K8 side N l):0<=EE side l/\EE side l<=l.getD (Cb l) 0/\K8 side N (l.set (Cb l) (l.getD (Cb l) 0-EE side l)):=by
 have hi:=Ri (l:=l) (by rw[h.len];exact hN);have h1:=ZB side l (Cb l);have h2:=oD hs h.bnd hi h.stp;have hv:=h.bnd _ (Av (It hi));refine⟨h2,h1,by rw[DE,h.len],λv hq=>?_,(T9 hs h.bnd hi h.stp ⟨h2,h1⟩).2 (Int.le_refl _)⟩;rcases NQ hq with hq|hq
 ·exact h.bnd v hq
 ·have:EE side l=I1 side l (Cb l):=rfl
  omega
inductive L3 (side:Int):List Int->List (Nat×Int)->Prop
 |nil {l:List Int} (h:l.getD (Cb l) 0=0):L3 side l []
 |cons {l:List Int} {S:List (Nat×Int)} (h1:l.getD (Cb l) 0≠0) (h2:EE side l≠0) (h:L3 side (l.set (Cb l) (l.getD (Cb l) 0-EE side l)) S):L3 side l ((Cb l,EE side l)::S)
theorem Xx {side:Int}{N:Nat}(hs:0<=side/\side<=1000000000)(hN:0<N):∀(k:Nat) (l:List Int) (out:List (Nat×Int)),K8 side N l->out.length<=256->(∃S,GZ (EE side) k l out=(out++S,0)/\L3 side l S/\(out++S).length<=256)\/GZ (EE side) k l out=([],19)\/(GZ (EE side) k l out=([],7)/\∃l,K8 side N l/\l.getD (Cb l) 0≠0/\EE side l=0)
 | 0,_,_,_,_=>.inr (.inl rfl)
 |k+1,l,out,h,ho=>by
  unfold GZ
  by_cases h1:l.getD (Cb l) 0=0
  ·rw[AG h1]
   exact .inl ⟨[],by rw[C3],.nil h1,by rw[C3];exact ho⟩
  rw[AF h1]
  by_cases h2:EE side l=0
  ·rw[AG h2]
   exact .inr (.inr ⟨rfl,l,h,h1,h2⟩)
  rw[AF h2]
  by_cases h3:out.length=256
  ·rw[AG h3]
   exact .inr (.inl rfl)
  rw[AF h3];have h4:=(TY hs hN h).2.2;rcases Xx hs hN k _ (out++[(Cb l,EE side l)]) h4 (by rw[Bh,Fu];omega)with⟨S,e1,e2,e3⟩|e|e
  ·refine .inl ⟨(Cb l,EE side l)::S,?_,.cons h1 h2 e2,?_⟩
   ·rw[e1,DZ];rfl
   ·rw[DZ]at e3;exact e3
  ·exact .inr (.inl e)
  ·exact .inr (.inr e)
theorem xi {side:Int}{N:Nat}{l:List Int}(hs:0<=side/\side<=1000000000)(hN:0<N)(h:K8 side N l)(h1:l.getD (Cb l) 0≠0)(h2:EE side l=0):1<N/\side=0:=by
 have hl:0<l.length:=by rw[h.len];exact hN
 have hi:=Ri hl;have hv:=h.bnd _ (Av (It hi));apply DT;intro hc
 have:1<=EE side l:=by
  unfold EE I1;rw[Ql,Yh];refine⟨by omega,λh3=>?_,λh3=>?_⟩
  ·have:=Q4 hl (Cb l-1) (by omega)
   have:=h.len
   omega
  ·have:=Q4 hl (Cb l+1) h3
   have:=h.len
   omega
 omega
theorem Mw {x:At}(h:CQ x=0):K8 x.side x.cells.length (BT x)/\0<x.cells.length/\x.cells.length<=8:=by
 have h1:=(OY h).1;refine⟨⟨Ak ..,λv hv=>by have:=(RR h).2 v hv;omega,(OY h).2⟩,?_,(JP h).2.2.2⟩;rw[RO]at h1;split at h1
 ·cases h1
 split at h1
 ·cases h1
 split at h1
 ·cases h1
 rename_i h0;omega
theorem vA (x:At)(hl:x.cells.length<=1000000)(hc:∀c∈x.cells,c.length<=1000000/\∀y∈c,y.few):AI C0 11 [x.D] (.tup [.sl false 2 ((Rz x).1.map Ge),i64 (Rz x).2]):=by
 have cB:=Zp x hl hc;have hE:Rz x=if CQ x≠0 then([],CQ x)else GZ (EE x.side) 257 (BT x) []:=rfl
 by_cases h0:CQ x=0
 ·rw[AF (λq=>q h0)]at hE
  rw[hE];rw[h0]at cB;obtain⟨s1,s2,s3,s4⟩:=JP h0;obtain⟨hI,hN,_⟩:=Mw h0;have hcl:(x.cells.map (Am false)).length=x.cells.length:=Ak ..;refine Y5 (str (sb x.flow)) (i64 x.core) (i64 x.room) (i64 x.side) false (x.cells.map (Am false)) (BT x) (by rw[hcl];exact hI.len) (λq=>by rw[q]at hcl;simp at hcl;omega) (by omega) (λi c m h1 h2=>?_) (λc hq=>?_) cB (EE x.side) (K8 x.side x.cells.length) hI λl hl2 h2=>?_
  ·rw[A7]at h1
   obtain⟨d,hd,rfl⟩:=Option.map_eq_some_iff.1 h1;have hw:=Rc false d (by have:=(hc d (Av hd)).1;omega)
   have:m=Cy d:=by
    unfold BT at h2;rw[A7,hd]at h2;cases h2;rfl
   rw[this];exact hw
  ·obtain⟨d,_,rfl⟩:=List.mem_map.1 hq
   exact⟨false,d.map AE.D,rfl,AJ⟩
  ·have hi:=Ri (l:=l) (by rw[hl2.len];exact hN)
   obtain⟨g1,g2,g3⟩:=TY ⟨s1,by omega⟩ hN hl2;have hv:=hl2.bnd _ (Av (It hi));exact⟨vQ x false l (Cb l) hi (by rw[hl2.len];omega) hl2.bnd ⟨s1,by omega⟩,wI (by omega) (by omega),g3⟩
 ·rw[AG h0]at hE
  rw[hE];refine Ag.walk w1 U7 rfl λF=>?_
  have k2:(CQ x != 0)=true:=Ir h0;have hx:∃a b c d e,x.D=.agg [a,b,c,d,e]:=⟨_,_,_,_,_,rfl⟩
  have px:AA x.D:=AJ;have px2:AV x.D:=AJ;obtain⟨a1,a2,a3,a4,a5,hx⟩:=hx;rw[hx]at cB px px2⊢;obtain⟨E,hEE⟩:∃E,CQ x=E:=⟨_,rfl⟩
  rw[hEE]at cB k2⊢;refine AH AZ k2 cB AB AB AB AB AB ?_;exact⟨_,Hb (.nil 2) (.refl _),AA.out,rfl⟩
def At.wc (x:At)(cs:List (List AE)):At:=⟨x.flow,x.core,x.room,x.side,cs⟩
theorem fT (x:At)(cs:List (List AE)):(x.wc cs).D=.agg [str (sb x.flow),i64 x.core,i64 x.room,i64 x.side,.sl false 1 (cs.map (Am false))]:=rfl
theorem rQ {x:At}{k:Nat}(h:CQ x=0)(hk:k<x.cells.length):Jn x [(k:Int)]=0:=by
 unfold Jn;rw[AF (λq=>q h)]
 have:JJ x (k:Int)=true:=by
  unfold JJ Cs;rw[BO,decide_eq_true_iff,decide_eq_true_iff];omega
 simp[this]
theorem Y4 {x:At}{k:Nat}{m:Int}(h:CQ x=0)(hk:k<x.cells.length)(hm:0<=m):GD x (k:Int) m=0:=by
 unfold GD;rw[rQ h hk,Ac (by omega)];rfl
theorem UI {x:At}{k:Nat}(hk:k<x.cells.length):x.cells[k]?=some (Du x (k:Int)):=by
 unfold Du;rw[IX,Dj,BE hk];rfl
theorem mR {x:At}{k:Nat}{m:Int}(h:CQ x=0)(hk:k<x.cells.length)(hl:∀c∈x.cells,c.length<=32)(hm:0<=m/\m<=I1 x.side (BT x) k):
  GM x (k:Int) m=0/\BT (Cp x (k:Int) m)=(BT x).set k ((BT x).getD k 0-m):=by
 obtain⟨s1,s2,s3,s4⟩:=JP h;have h1:=Y4 h hk hm.1;have hat:=UI hk;have hg:=Tt h hat;have hml:=ZB x.side (BT x) k;have hpn:=Ee (Hg (KU h _ (Av hat))).1;have hn:=Mq (l:=Du x (k:Int)) λy hy=>by have:=(hpn.2.1 y hy).1;omega
 have hlv:BT (Cp x (k:Int) m)=(BT x).set k ((BT x).getD k 0-m):=by
  show BT (I4 x ((k:Int).toNat) _)=_;rw[IX,lj h hat (by omega),show((m.toNat:Nat):Int)=m by omega]
 refine⟨?_,hlv⟩;have hi:k<(BT x).length:=by unfold BT;rw[Ak];exact hk
 have hst:Dc x.side (BT (Cp x (k:Int) m))=false:=by
  rw[hlv];exact(T9 ⟨s1,by omega⟩ (λv hv=>by have:=(RR h).2 v hv;omega) hi (OY h).2 ⟨hm.1,by omega⟩).2 hm.2
 have hfl:¬ 64<(Eg x (k:Int) m).length:=by
  have:=jb (x:=x) (c:=Du x (k:Int)) (m:=m.toNat) λy hy=>(hpn.2.1 y hy).1
  have:=hl _ (Av hat)
  unfold Eg;omega
 unfold GM;rw[AF (λq=>q h1),AF (by omega)];unfold Jg;rw[hst,AF (by decide),AF hfl]
structure No (x:At)(cs:List (List AE))(S:List (Nat×Int))(t:Nat):Prop where
 bin:CQ (x.wc cs)=0
 len:∀c∈cs,c.length<=6/\∀y∈c,y.few
 num:cs.length=x.cells.length
 stp:L3 x.side (BT (x.wc cs)) (S.drop t)
 tl:t<=S.length
theorem nI {x:At}{cs:List (List AE)}{S:List (Nat×Int)}{t:Nat}(h:No x cs S t)(ht:t<S.length):
  ∃(k:Nat) (m:Int),S[t]?=some (k,m)/\1<=m/\k<cs.length/\(∀j,j<cs.length->(BT (x.wc cs)).getD j 0<=(BT (x.wc cs)).getD k 0)/\GM (x.wc cs) (k:Int) m=0/\No x (Cp (x.wc cs) (k:Int) m).cells S (t+1):=by
 obtain⟨s1,s2,s3,s4⟩:=JP h.bin;obtain⟨hI,hN,_⟩:=Mw h.bin;have hside:(x.wc cs).side=x.side:=rfl;have hcells:(x.wc cs).cells=cs:=rfl;rw[hside]at s1 s2 hI;rw[hcells]at hI hN s4;have hdrop:S.drop t=S[t]::S.drop (t+1):=EK ht;have hS:=h.stp;rw[hdrop]at hS;obtain⟨g1,g2,g3⟩:=TY ⟨s1,by omega⟩ hN hI;have hi:=Ri (l:=BT (x.wc cs)) (by rw[hI.len];exact hN);have hmx:=Q4 (l:=BT (x.wc cs)) (by rw[hI.len];exact hN);generalize hq:S[t]=q at hS;cases hS;rename_i h1 h2 h3;have hk:Cb (BT (x.wc cs))<cs.length:=by rw[<-hI.len];exact hi
 have hm1:1<=EE x.side (BT (x.wc cs)):=by omega
 have hmm:EE x.side (BT (x.wc cs))=I1 x.side (BT (x.wc cs)) (Cb (BT (x.wc cs))):=rfl;obtain⟨k,hK⟩:∃k,Cb (BT (x.wc cs))=k:=⟨_,rfl⟩
 obtain⟨m,hM⟩:∃m,EE x.side (BT (x.wc cs))=m:=⟨_,rfl⟩
 rw[hK,hM]at hq;rw[hK]at hk hmx hmm h3 g2;rw[hM]at hm1 hmm h3 g2;obtain⟨z1,z2⟩:=mR (x:=x.wc cs) (k:=k) (m:=m) h.bin hk (λc hc=>by have:=(h.len c hc).1;omega) ⟨by omega,by rw[hmm];exact Int.le_refl _⟩;have hv:=vY z1;have hkk:=vX (x:=x.wc cs) (i:=(k:Int)) (m:=m) (by rw[IX];exact UI hk);refine⟨k,m,by rw[BE ht,hq],hm1,hk,λj hj=>hmx j (by rw[hI.len];exact hj),z1,hv.bin,λc hc=>?_,?_,?_,ht⟩
 ·obtain⟨d,hd,hl⟩:=oR (Y4 (m:=m) h.bin hk (by omega)) c hc
  obtain⟨e,he,hf⟩:=hkk.1 c hc;exact⟨BQ hl (h.len d hd).1,λy hy=>wZ (hf y hy) (h.len e he).2⟩
 ·rw[<-h.num];exact Yd ..
 ·show L3 x.side (BT (Cp (x.wc cs) (k:Int) m)) _
  rw[z2];exact h3
theorem om {x:At}{cs:List (List AE)}{S:List (Nat×Int)}(h:No x cs S S.length):∀j,j<cs.length->(BT (x.wc cs)).getD j 0=0:=λj hj=>by
 obtain⟨hI,hN,_⟩:=Mw h.bin;have hcells:(x.wc cs).cells=cs:=rfl;rw[hcells]at hI hN;have hS:=h.stp;rw[IZ]at hS;have h0:(BT (x.wc cs)).getD (Cb (BT (x.wc cs))) 0=0:=by
  generalize BT (x.wc cs)=l at hS;cases hS;assumption
 have:=Q4 (l:=BT (x.wc cs)) (by rw[hI.len];exact hN) j (by rw[hI.len];exact hj)
 have:=hI.bnd _ (Av (It (l:=BT (x.wc cs)) (i:=j) (by rw[hI.len];exact hj)))
 omega
abbrev Iy:Dr:=[(16,[0,1,2,3,4,5],[6,7])]
open Go.Proofs Go.RowKit
set_option maxRecDepth 20000
set_option maxHeartbeats 4000000
theorem yk (x:At)(hl:x.cells.length<=9223372036854775807)(hs:∀c∈x.cells,c.length<=9223372036854775807/\∀y∈c,y.shs.length<=9223372036854775807):AI C0 14 [x.D] (Aq (PA x)):=by
 refine Ag.walk w1 we rfl λF=>?_
 have cS:=li x hl hs;have hk:=@bw x;have cF:=xd x 999999999;have hE:PA x=(Kv x&&NI x 999999999):=rfl;have hx:∃a b c d e,x.D=.agg [a,b,c,d,e]:=⟨_,_,_,_,_,rfl⟩
 have px:AA x.D:=AJ;have px2:AV x.D:=AJ;obtain⟨a1,a2,a3,a4,a5,hx⟩:=hx;rw[hx]at cS cF px px2⊢;rw[hE];cases hsh:Kv x
 ·rw[hsh]at cS
  rw[HR];refine AH AZ kB cS AB AB AB AB AB ?_;exact AL rfl AA.out
 rw[hsh]at cS;rw[GY];obtain⟨k1,k2,k3⟩:=hk hsh;have cF:=cF (by omega) λc q=>⟨by have:=(k3 c q).2;omega,λy h=>((k3 c q).1 y h).2⟩
 refine AH AZ kB cS cF AB AB AB AB ?_;exact AL rfl AA.out
structure Oz (x:At):Prop where
 sm:cz x 999999999
 few:∀c∈x.cells,∀y∈c,y.lite/\y.modr
 shr:Kv x=true
theorem uW {x:At}(h:PA x=true):Oz x:=by
 unfold PA at h;rw[BO]at h;obtain⟨k1,k2,k3⟩:=bw h.1;exact⟨r9 h.2,λc hc=>(k3 c hc).1,h.1⟩
theorem oP {x:At}{i m:Int}(h:GM x i m=0):VO x i m=Cp x i m:=AF λq=>q h
theorem oQ {x:At}{i m:Int}(h:GM x i m=0):VP x i m=Eg x i m:=AF λq=>q h
theorem o6 (ha:AI C0 10 [] (Aq true))(x:At)(hl:x.cells.length<=9223372036854775807)(hs:∀c∈x.cells,c.length<=9223372036854775807/\∀y∈c,y.shs.length<=9223372036854775807):AI C0 5 [x.D] (Aq true):=by
 refine Ag.walk w1 y9 rfl λF=>?_
 have cM:=yk x hl hs;have hk:=@uW x;have hJ0:∀S,Oz x->L3 x.side (BT x) S->No x x.cells S 0:=λS h hS=>⟨h.sm.bin,λc hc=>⟨h.sm.len c hc,λy hy=>(h.few c hc y hy).1.1⟩,rfl,hS,BS _⟩
 have cE:=vA x;have hE:Oz x->Rz x=GZ (EE x.side) 257 (BT x) []:=λh=>AF λq=>q h.sm.bin
 have hR:=λh:Oz x=>Xx (side:=x.side) (N:=x.cells.length) ⟨(JP h.sm.bin).1,by have:=(JP h.sm.bin).2.1;omega⟩ (Mw h.sm.bin).2.1 257 (BT x) [] (Mw h.sm.bin).1 (by decide)
 have hst:=λ(h:Oz x) l=>xi (side:=x.side) (N:=x.cells.length) (l:=l) ⟨(JP h.sm.bin).1,by have:=(JP h.sm.bin).2.1;omega⟩ (Mw h.sm.bin).2.1
 have el:(((x.cells.map (Am false)).length:Nat):Int)=(x.cells.length:Int):=by rw[Ak]
 have pX:AA x.D:=AJ;have cX:AV x.D:=AJ;rw[qF]at cM cE pX cX⊢;cases hsh:PA x
 ·rw[hsh]at cM
  refine AH Iy kB cM ha AB AB AB AB ?_;exact AL rfl AA.out
 rw[hsh]at cM;have hv:=hk hsh;have cE:=cE (by have:=hv.sm.n;omega) λc hc=>⟨by have:=hv.sm.len c hc;omega,λy hy=>(hv.few c hc y hy).1.1⟩
 rw[hE hv]at cE;have ln0:([]:List D).length=0:=rfl;have z0:(((0:Nat):Int)==0)=true:=rfl;rcases hR hv with⟨S,e1,e2,e3⟩|e|⟨e,l,l1,l2,l3⟩
 rotate_left
 ·rw[e]at cE
  have q1:((19:Int)==19)=true:=rfl;refine AH Iy (CF q1 ln0 z0 kT kF) cM cE ha AB AB AB ?_;exact AL rfl AA.out
 ·rw[e]at cE
  obtain⟨g1,g2⟩:=hst hv l l1 l2 l3;have q1:((7:Int)==19)=false:=rfl;have q2:((7:Int)==7)=true:=rfl;have q3:decide ((x.cells.length:Int)>1)=true:=AX (by omega);have q4:(x.side==0)=true:=by rw[g2];rfl
  refine AH Iy (CS q1 q2 q3 q4 el ln0 (As z0 kT kF)) cM cE ha AB AB AB ?_;exact AL rfl AA.out
 rw[e1]at cE;rw[Ft]at cE e3;have q1:((0:Int)==19)=false:=rfl;have q2:((0:Int)==7)=false:=rfl;have q3:((0:Int) != 0)=false:=rfl;have eS:(((S.map Ge).length:Nat):Int)=(S.length:Int):=by rw[Ak]
 have q4:decide ((S.length:Int)>256)=false:=Ac (by omega);refine AH Iy (CS q1 q2 q3 q4 eS el (Aj kT kF)) cM cE AB AB AB AB ?_;obtain⟨PD,hPD⟩:∃T,S.map Ge=T:=⟨_,rfl⟩
 have hPDl:PD.length=S.length:=by rw[<-hPD,Ak]
 have pPD:AA (.sl false 2 PD):=by rw[<-hPD];exact AJ
 rw[hPD];have hside:=JP hv.sm.bin;refine AC.loop (α:=List (List AE)×Nat×Nat) (λp=>⟨[(1,.optr 0 0 5 0 0),(51,.sl false 2 PD),(52,i64 (S.length:Int)),(53,i64 (p.2.1:Int))],[⟨0,0,24,5,[.agg [str (sb x.flow),i64 x.core,i64 x.room,i64 x.side,.sl false 1 (p.1.map (Am false))]]⟩],p.2.2⟩) (λp=>S.length-p.2.1) (λq=>No x q.1 S q.2.1) (x.cells,0,_) (hJ0 S hv e2) AK ?_;rintro⟨cs,t,n⟩ F hJ;dsimp only at hJ⊢;have hcl:=hJ.num;have hN4:=hv.sm.n;have ecs:(((cs.map (Am false)).length:Nat):Int)=(cs.length:Int):=by rw[Ak]
 have hlv:∀j,j<cs.length->AI C0 17 [(x.wc cs).D,i64 (j:Int)] (i64 ((BT (x.wc cs)).getD j 0)):=λj hj=>by
  have hc:=UI (x:=x.wc cs) (k:=j) hj;rw[Tt hJ.bin hc];exact Uo (x.wc cs) j _ hc (Ee (Hg (KU hJ.bin _ (Av hc))).1).2.2 (by show cs.length<=_;omega)
 have pXt:AA (x.wc cs).D:=AJ;have cXt:AV (x.wc cs).D:=AJ;rcases BG t S.length with h2|h2
 rotate_left
 ·have g1:=CZ h2
  have:t=S.length:=by have:=hJ.tl;omega
  subst this;have hend:=om hJ;rw[fT]at hlv pXt cXt;refine AH Iy (Aj g1 ecs) AB AB AB AB AB AB ?_;refine AC.loop (α:=Nat×Nat) (λp=>⟨[(1,.optr 0 0 5 0 0),(113,i64 (cs.length:Int)),(114,i64 (p.1:Int))],[⟨0,0,24,5,[.agg [str (sb x.flow),i64 x.core,i64 x.room,i64 x.side,.sl false 1 (cs.map (Am false))]]⟩],p.2⟩) (λp=>cs.length-p.1) (λq=>q.1<=cs.length) (0,_) (BS _) AK ?_;rintro⟨i,n⟩ F hi;dsimp only at hi⊢;rcases BG i cs.length with h3|h3
  rotate_left
  ·have e3:=CZ h3
   refine AH Iy e3 ha AB AB AB AB AB ?_;exact AL rfl AA.out
  have e3:=Ca h3;have wi:=Cc (i:=i) (by omega);have cLi:=hlv i h3;rw[hend i h3]at cLi;refine AH Iy (As e3 wi q3) cLi AB AB AB AB AB ?_;exact⟨(i+1,_),h3,by dsimp only;omega,AK⟩
 have g1:=Ca h2;have wt:=Cc (i:=t) (by have:=e3;omega);obtain⟨k,m,hS,hm1,hk,hmx,hE0,hJ2⟩:=nI hJ h2;have hPt:PD[t]?=some (.agg [i64 (k:Int),i64 m]):=by rw[<-hPD,A7,hS];rfl
 have u1:decide ((k:Int)<0)=false:=Ac (by omega);have u2:decide ((k:Int)>=(cs.length:Int))=false:=Ac (by omega);have u3:decide (m<1)=false:=Ac (by omega);have u4:((cs.length:Int) != (cs.length:Int))=false:=bne_self_eq_false _;have cD:=x6 (x.wc cs) (by show cs.length<=_;omega) (λc hc=>⟨by have:=(hJ.len c hc).1;omega,(hJ.len c hc).2⟩) (k:Int) m;rw[hE0,oP hE0,oQ hE0]at cD;have hOD:(Cp (x.wc cs) (k:Int) m).D=.agg [str (sb x.flow),i64 x.core,i64 x.room,i64 x.side,.sl false 1 ((Cp (x.wc cs) (k:Int) m).cells.map (Am false))]:=rfl;have pO:AA (Cp (x.wc cs) (k:Int) m).D:=AJ;have cO:AV (Cp (x.wc cs) (k:Int) m).D:=AJ;have eO:((((Cp (x.wc cs) (k:Int) m).cells.map (Am false)).length:Nat):Int)=(cs.length:Int):=by rw[Ak,hJ2.num,hcl]
 rw[hOD]at cD pO cO;obtain⟨OC,hOC⟩:∃O,(Cp (x.wc cs) (k:Int) m).cells=O:=⟨_,rfl⟩
 rw[hOC]at cD pO cO eO hJ2;have cLk:=hlv k hk;rw[fT]at hlv pXt cXt cD cLk;refine AH Iy (CF g1 ecs u1 u2 u3) hPt AB AB AB AB AB ?_;refine AC.loop (α:=Nat×Nat×Nat) (λp=>⟨[(1,.optr 0 0 5 0 0),(6,.optr 1002 p.2.1 2 0 0),(51,.sl false 2 PD),(52,i64 (S.length:Int)),(53,i64 (t:Int)),(75,i64 (cs.length:Int)),(76,i64 (p.1:Int))],[⟨1002,p.2.1,35,2,[.agg [i64 (k:Int),i64 m]]⟩,⟨0,0,24,5,[.agg [str (sb x.flow),i64 x.core,i64 x.room,i64 x.side,.sl false 1 (cs.map (Am false))]]⟩],p.2.2⟩) (λp=>cs.length-p.1) (λq=>q.1<=cs.length) (0,_,_) (BS _) AK ?_;rintro⟨i,g,n2⟩ F hi;dsimp only at hi⊢;rcases BG i cs.length with h3|h3
 rotate_left
 ·have e4:=CZ h3
  refine AH Iy (EM e4 q3 eO ecs u4 wt) cD AB AB AB AB AB ?_;refine⟨(OC,t+1,n2+1000),hJ2,by dsimp only;omega,?_⟩;dsimp only;exact AK
 have e4:=Ca h3;have wi:=Cc (i:=i) (by omega);have cLi:=hlv i h3;have u5:decide ((BT (x.wc cs)).getD i 0>(BT (x.wc cs)).getD k 0)=false:=Ac (by have:=hmx i h3;omega);refine AH Iy (As e4 u5 wi) cLi cLk AB AB AB AB ?_;exact⟨(i+1,g,_),h3,by dsimp only;omega,AK⟩
def tA:List UInt8:=[97]
def tB:List UInt8:=[98]
def Eu:List UInt8:=[119,104,101,97,116]
def Mg:List UInt8:=[102,117,110,110,101,108]
def Cj (m:Int):AE:=⟨Eu,m,[⟨tA,[49]⟩]⟩
def C9 (m:Int):AE:=⟨Eu,m,[⟨tA,[49,47,50]⟩,⟨tB,[49,47,50]⟩]⟩
def FA (x:AE):D:=.agg [str (sb x.grain),i64 x.mass,.sl true 2 (x.shs.map Ay.D)]
def gE:D:=.agg [str (sb Mg),i64 4,i64 30,i64 12,.sl true 1 [.sl true 3 [FA (Cj 10),FA (C9 6)],.sl true 3 [FA (Cj 5)]]]
theorem v6:AI C0 41 [] gE:=CE DV 400 40 (by kernel_rfl)
def Lo (d d':D):Prop:=∀(ρ:Lk) (O:Nat->Prop) (w:World) (v:Value),AU ρ O w d v->AU ρ O w d' v
theorem Lo.refl (d:D):Lo d d:=λ_ _ _ _ h=>h
theorem Lo.agg {ds ds':List D}(hl:ds.length=ds'.length)(h:∀(i:Nat) (d d':D),ds[i]?=some d->ds'[i]?=some d'->Lo d d'):Lo (.agg ds) (.agg ds'):=λρ O w v hv=>by
 cases hv with
 |agg hn ho hd=>
  refine .agg (hn.trans hl) ho λi d' hd'=>?_
  have hi:i<ds.length:=by rw[hl];exact(List.getElem?_eq_some_iff.1 hd').1
  exact h i _ d' (BE hi) hd' _ _ _ _ (hd i _ (BE hi))
theorem Lo.tup {ds ds':List D}(hl:ds.length=ds'.length)(h:∀(i:Nat) (d d':D),ds[i]?=some d->ds'[i]?=some d'->Lo d d'):Lo (.tup ds) (.tup ds'):=λρ O w v hv=>by
 cases hv with
 |tup hn hd=>
  refine .tup (hn.trans hl) λi d' hd'=>?_
  have hi:i<ds.length:=by rw[hl];exact(List.getElem?_eq_some_iff.1 hd').1
  exact h i _ d' (BE hi) hd' _ _ _ _ (hd i _ (BE hi))
def Nl (e e':D):Prop:=e'.cells.length=e.cells.length/\∀(j:Nat) (d d':D),e.cells[j]?=some d->e'.cells[j]?=some d'->Lo d d'
theorem Lo.sl {b:Bool}{sz:Nat}{es es':List D}(hl:es.length=es'.length)(hc:∀(i:Nat) (e e':D),es[i]?=some e->es'[i]?=some e'->Nl e e'):Lo (.sl b sz es) (.sl false sz es'):=λρ O w v hv=>by
 cases hv with
 |nil=>
  have:es'=[]:=List.length_eq_zero_iff.1 hl.symm
  subst this;exact .nil sz
 |emp a=>
  have:es'=[]:=List.length_eq_zero_iff.1 hl.symm
  subst this;exact .emp a
 |sl f hl' hc' hO hb hz hcell ho h=>
  have hx:∀(i:Nat) (e':D),es'[i]?=some e'->∃e,es[i]?=some e/\Nl e e':=λi e' he'=>by
   have hi:i<es.length:=by rw[hl];exact(List.getElem?_eq_some_iff.1 he').1
   exact⟨_,BE hi,hc i _ e' (BE hi) he'⟩
  refine .sl f (hl.symm.trans hl') hc' hO hb (λi e' he'=>?_) hcell ho λi e' j d' he' hd'=>?_
  ·obtain⟨e,he,h1,h2⟩:=hx i e' he'
   rw[h1];exact hz i e he
  ·obtain⟨e,he,h1,h2⟩:=hx i e' he'
   have hj:j<e.cells.length:=by rw[<-h1];exact(List.getElem?_eq_some_iff.1 hd').1
   exact h2 j _ d' (BE hj) hd' _ _ _ _ (h i e j _ he (BE hj))
def loosen:Nat->D->D
 | 0,d=>d
 |n+1,.agg ds=>.agg (ds.map (loosen n))
 |n+1,.tup ds=>.tup (ds.map (loosen n))
 |n+1,.sl _ sz es=>.sl false sz (es.map (loosen n))
 |_+1,d=>d
theorem Ud {f:D->D}(hf:∀d,Lo d (f d))(ds:List D)(i:Nat)(d d':D)(h:ds[i]?=some d)(h':(ds.map f)[i]?=some d'):Lo d d':=by
 rw[A7,h]at h';cases h';exact hf d
theorem Xd:∀n:Nat,(∀d,Lo d (loosen n d))/\∀e,Nl e (loosen n e)
 | 0=>⟨λd=>.refl d,λe=>⟨rfl,λj d d' h h'=>by
   have:d=d':=by
    have:=h.symm.trans h'
    injection this
   subst this;exact .refl d⟩⟩
 |n+1=>by
  obtain⟨h1,h2⟩:=Xd n;have hs:∀(es:List D) (i:Nat) (e e':D),es[i]?=some e->(es.map (loosen n))[i]?=some e'->Nl e e':=λes i e e' h h'=>by
   rw[A7,h]at h';cases h';exact h2 e
  have hL:∀d,Lo d (loosen (n+1) d):=λd=>by
   cases d with
   |agg ds=>exact .agg (by simp) (Ud h1 ds)
   |tup ds=>exact .tup (by simp) (Ud h1 ds)
   |sl b sz es=>exact .sl (by simp) (hs es)
   |_=>exact .refl _
  refine⟨hL,λe=>?_⟩;have one:e.cells=[e]->(loosen (n+1) e).cells=[loosen (n+1) e]->Nl e (loosen (n+1) e):=λa b=>by
   refine⟨by rw[a,b];rfl,λj d d' h h'=>?_⟩;rw[a]at h;rw[b]at h'
   match j with
   | 0=>cases h;cases h';exact hL e
   |j+1=>cases h
  cases e with
  |agg ds=>exact⟨by simp[loosen,D.cells],λj d d' h h'=>Ud h1 ds j d d' h h'⟩
  |_=>exact one rfl rfl
theorem AI.loosen {C:BC}{f:Nat}{args:List D}{d:D}(h:AI C f args d)(n:Nat):AI C f args (loosen n d):=
 ⟨h.1,λX w vs a b c e g=>(h.2 X w vs a b c e g).mono λ_ _ ⟨v,d,h1,h2,h3,h4⟩=>⟨v,_,h1,h2,rfl,by subst h3;exact(Xd n).1 _ _ _ _ _ h4⟩⟩
section
variable {C:BC} {F B:Ab} {ops:Array Oper} {rd:Option Nat}
theorem lS {K1:St->Prop}{Q:Exit->Act->World->Prop}{l2:List Nat}(h2:∀(s1:St) (ρ:Lk) (a:Act) (w:World),K1 s1->Bj C F ρ s1 a w->wpOps C.P ops Q l2 a w):∀(l:List Nat) (a:Act) (w:World),wpOps C.P ops (K7 C F K1) l a w->wpOps C.P ops Q (l++l2) a w:=by
 intro l
 induction l with
 |nil=>rintro a w ⟨_,s',ρ',hq,hs'⟩;exact h2 s' ρ' a w hq hs'
 |cons i l ih=>
  intro a w h;simp only[Ek,wpOps]at h⊢;cases ho:ops[i]? with
  |none=>simp only[ho]at h⊢;exact ih a w h
  |some o=>
   simp only[ho]at h⊢;split
   ·rename_i hw
    rw[AG hw]at h;rcases h with h|⟨_,⟨a0,w0,h0⟩⟩
    ·refine .inl ?_
     unfold Oper.wp Oper.upon at h⊢;split<;>rename_i hr<;>simp only[hr]at h
     ·exact ih _ _ h
     ·exact ih _ _ h
     ·exact ih _ _ h
     ·refine Calls.mono h λe w'' he=>?_
      cases e with
      |returned v=>exact ih _ _ he
      |panicked c=>cases he.1
      |outgrown=>obtain⟨a0,w0,h0⟩:=he;cases h0.1
     ·exact Rows.mono h λ_ _ he=>ih _ _ he
     ·cases h.1
    ·cases h0.1
   ·rename_i hw
    rw[AF hw]at h;exact ih _ _ h
theorem zL {K:St->Prop}{os1 os2:List Oper}{s:St}(h:BH C F ops os1 s (λs1=>BH C F ops os2 s1 K)):BH C F ops (os1++os2) s K:=by
 intro hd l hl ρ a w hs;rw[Jz,BO]at hd;have hlen:l.length=os1.length+os2.length:=by
  have:=congrArg List.length hl
  simpa using this
 obtain⟨l1,l2,rfl,e1⟩:∃l1 l2,l=l1++l2/\l1.length=os1.length:=⟨l.take os1.length,l.drop os1.length,(E2 _ _).symm,by rw[Ba];omega⟩
 rw[DA,DA]at hl;obtain⟨h1,h2⟩:=List.append_inj hl (by simpa using e1);exact lS (λs1 ρ a w hk hs=>hk hd.2 l2 h2 ρ a w hs) l1 a w (h hd.1 l1 h1 ρ a w hs)
theorem yu {X:EV}{i:Nat}{s:St}{Q:Exit->Ab->St->Prop}(hX:DR C X)(hnd:Ef ops.toList=true)(h:BH C F ops ((List.range ops.size).map λj=>ops.getD j default) s (Q .normal F)):AC C B rd F (.region i ops false) s Q:=by
 refine⟨λhB hd ρ a w hs=>wpIn_region ?_⟩;have hd:=KV hB hd;have h1:=BH.run h (λj hj=>List.mem_range.1 hj) hd hs
 have:=FP (rd:=rd) (Q:=FE C B Q) (l2:=[]) (λ_ _ _ h=>KN hB (λ_ h=>h) h) (H9 hnd) _ a w h1
 rwa [C3]at this
def VV (C:BC)(F:Ab)(X:EV)(kb:Nat)(ops:Array Oper):List (List Nat×Nat)->List Nat->St->(St->Prop)->Prop
 | [],l,s,K=>Cv C X kb ops l s True λacc s=>acc/\K s
 |(l1,i)::r,l,s,K=>Cv C X kb ops l1 s True λacc s1=>acc/\∃d,(∀(os:List Oper) (K':St->Prop),BH C F ops os ⟨BZ s1.env (ops.getD i default).dst d,s1.H,s1.n+1⟩ K'->BH C F ops (ops.getD i default::os) s1 K')/\VV C F X kb ops r l ⟨BZ s1.env (ops.getD i default).dst d,s1.H,s1.n+1⟩ K
def Pa:List (List Nat×Nat)->List Nat->List Nat
 | [],l=>l
 |(l1,i)::r,l=>l1++i::Pa r l
theorem Zl {X:EV}(hX:DR C X){kb:Nat}{K:St->Prop}:∀(r:List (List Nat×Nat)) (l:List Nat) (s:St),VV C F X kb ops r l s K->BH C F ops ((Pa r l).map λj=>ops.getD j default) s K
 | [],l,s,h=>(FQ hX (λacc s h=>h) h).2
 |(l1,i)::r,l,s,h=>by
  show BH C F ops ((l1++i::Pa r l).map _) s K;rw[DA,Cq];refine zL ?_;refine(FQ (K':=λs1=>BH C F ops (ops.getD i default::(Pa r l).map λj=>ops.getD j default) s1 K) hX (λacc s1 h=>⟨h.1,?_⟩) h).2;obtain⟨d,h1,h2⟩:=h.2;exact h1 _ _ (Zl hX r l _ h2)
theorem yv {X:EV}{i:Nat}{s:St}{Q:Exit->Ab->St->Prop}(hX:DR C X)(kb:Nat)(r:List (List Nat×Nat))(l:List Nat)(hl:List.range ops.size=Pa r l)(hnd:Ef ops.toList=true)(h:VV C F X kb ops r l s (Q .normal F)):AC C B rd F (.region i ops false) s Q:=
 yu hX hnd (by rw[hl];exact Zl hX r l s h)
def T2 (P:Program) (t:Nat):Prop:=∃(f1 f2:Field) (k1 k2:IntKind),P.underlying t=some (.struct #[f1,f2])/\P.stoodInHeld t=false/\P.eqGuardType P.depth t=false/\f1.name ≠ "_"/\f1.offset=0/\P.underlying f1.type=some (.int k1)/\f2.name ≠ "_"/\f2.offset=1/\P.underlying f2.type=some (.int k2)
theorem WN {P:Program} {w:World} (d:Nat) {xs ys:Array Value} {f:Field} {fs:List Field} {i:Nat} {ka k:IntKind} {x y:Int} {b:Bool} (f1:f.name ≠ "_") (f2:f.offset=i) (f3:P.underlying f.type=some (.int k)) (hxa:xs[i]?=some (.int ka x)) (hya:ys[i]?=some (.int ka y))
  (ih:(Op.eqFields (d+1) xs ys fs).run P w=.ok b w):(Op.eqFields (d+1) xs ys (f::fs)).run P w=.ok (x==y&&b) w:=by
 have ag:(isAgg f.type).run P w=.ok false w:=by
  unfold isAgg;rw[run_bind,Ch f3];rfl
 have part1:(part f.type xs f.offset).run P w=.ok (.int ka x) w:=by
  unfold part;rw[run_bind,ag];dsimp only;rw[AF (by simp),f2];simp only[hxa];rfl
 have part2:(part f.type ys f.offset).run P w=.ok (.int ka y) w:=by
  unfold part;rw[run_bind,ag];dsimp only;rw[AF (by simp),f2];simp only[hya];rfl
 simp only[Op.eqFields];rw[AG f1,run_bind,part1];dsimp only;rw[run_bind,part2];dsimp only;rw[run_bind,run_equalIn_int w d f.type ka k x y f3];dsimp only;cases hb:x==y with
 |true=>simpa using ih
 |false=>rfl
theorem fV {o:Oper}{os:List Oper}{s:St}{K:St->Prop}{t tt:Nat}{x y:Operand}{a1 a2 b1 b2:Int}(hw:CC ops s.env o=some true)(ho:o.op=.binOp .neq t x y tt)(hT:T2 C.P t)(hx:BF s.env x=.agg [i64 a1,i64 a2])(hy:BF s.env y=.agg [i64 b1,i64 b2])
  (h:BH C F ops os ⟨BZ s.env o.dst (Aq (!(a1==b1&&(a2==b2&&true)))),s.H,s.n+1⟩ K):BH C F ops (o::os) s K:=
 BH.step hw (λρ a w hs=>by
  refine⟨_,ρ,w,.inl ?_,Pi.pure hs (.prim _),λe he=>DF (hs.gen e he)⟩;have rx:=DH hs.env x;have ry:=DH hs.env y;rw[hx]at rx;rw[hy]at ry;unfold execOp;simp only[ho];generalize a.eval x=vx at rx⊢;generalize a.eval y=vy at ry⊢;cases rx with
  |agg n1 o1 r1=>
   cases ry with
   |agg n2 o2 r2=>
    rename_i xs ys;obtain⟨f1,f2,k1,k2,c1,c2,c3,c4,c5,c6,c7,c8,c9⟩:=hT;have at_:∀ {vs:Array Value} {u1 u2:Int},vs.size=[i64 u1,i64 u2].length->(∀(i:Nat) (d:D),[i64 u1,i64 u2][i]?=some d->AU ρ (AN F.X ρ s.H) w d (vs.getD i undef))->vs[0]?=some (.int .i64 u1)/\vs[1]?=some (.int .i64 u2):=λ{vs u1 u2} n r=>by
     have q0:=r 0 _ rfl;have q1:=r 1 _ rfl;have m0:0<vs.size:=by rw[n];exact Nat.zero_lt_succ _
     have m1:1<vs.size:=by rw[n];exact HM _
     rw[A0,Bk m0,Ia]at q0;rw[A0,Bk m1,Ia]at q1;rw[Bk m0,Bk m1];generalize vs[0]=z0 at q0;generalize vs[1]=z1 at q1;cases q0;cases q1;exact⟨rfl,rfl⟩
    obtain⟨x0,x1⟩:=at_ n1 r1;obtain⟨y0,y1⟩:=at_ n2 r2;have eqf:C.P.fieldsOf t = #[f1,f2]:=by unfold Program.fieldsOf;rw[c1]
    have run:(Op.equalIn 10000 t (.agg xs) (.agg ys)).run C.P w=.ok (a1==b1&&(a2==b2&&true)) w:=by
     rw[show(10000:Nat)=9998+1+1 from rfl,run_equalIn_struct w _ t xs ys (by rw[eqf];exact c1) c2,eqf];exact WN 9998 c4 c5 c6 x0 y0 (WN 9998 c7 c8 c9 x1 y1 rfl)
    have r3:(do eqGuard .neq t x y (.agg xs) (.agg ys);binOp .neq t (.agg xs) (.agg ys):Sem Value).run C.P w=.ok (.bool (!(a1==b1&&(a2==b2&&true)))) w:=by
     rw[run_bind,run_eqGuard_agg w .neq t x y xs ys c3];dsimp only;rw[run_neq_struct,run];rfl
    rw[run_bind,r3];rfl) h
end
def R2 (P:Program)(t:Nat):Bool:=match P.underlying t with
 |some (.int _)=>true
 |_=>false
theorem ZH {P:Program}{t:Nat}(h:R2 P t=true):∃k,P.underlying t=some (.int k):=by
 unfold R2 at h;split at h
 ·rename_i k hk;exact⟨k,hk⟩
 ·cases h
def gL (P:Program):List Field->Bool
 | [f1,f2]=>(f1.name != "_")&&Nat.beq f1.offset 0&&R2 P f1.type&&(f2.name != "_")&&Nat.beq f2.offset 1&&R2 P f2.type
 |_=>false
def gJ (P:Program)(t:Nat):Bool:=match P.underlying t with
 |some (.struct fs)=>!(P.stoodInHeld t) && !(P.eqGuardType P.depth t)&&gL P fs.toList
 |_=>false
theorem uk {P:Program}{t:Nat}(h:gJ P t=true):T2 P t:=by
 unfold gJ at h;split at h<;>try(cases h;done)
 rename_i fs hu;simp only[BO,Bi]at h;obtain⟨⟨h1,h2⟩,h3⟩:=h;obtain⟨l⟩:=fs
 match l,h3 with
 | [f1,f2],h3=>
  simp only[gL,BO,bne_iff_ne]at h3;obtain⟨⟨⟨⟨⟨g1,g2⟩,g3⟩,g4⟩,g5⟩,g6⟩:=h3;obtain⟨k1,e1⟩:=ZH g3;obtain⟨k2,e2⟩:=ZH g6;exact⟨f1,f2,k1,k2,hu,h1,h2,g1,B3 g2,e1,g4,B3 g5,e2⟩
theorem ZX:T2 C0.P 35:=uk (by kernel_rfl)
def lA:List AE:=[Cj 10,C9 6]
def lB:List AE:=[Cj 5]
def cA:D:=Am false lA
def cB:D:=Am false lB
def Da:D:=.agg [str (sb Mg),i64 4,i64 30,i64 12,.sl false 1 [cA,cB]]
theorem yY:AI C0 41 [] Da:=by
 have h:=v6.loosen 10
 rwa [show loosen 10 gE=Da from rfl]at h
theorem ZO {x:AE}(h:decide (x.grain.length<=1000)&&decide (x.shs.length<=1000)&&x.shs.all (λs=>decide (s.lot.length<=1000)&&decide (s.part.length<=40))=true):x.lite:=by
 simp only[BO,GX,CN]at h;obtain⟨⟨h1,h2⟩,h3⟩:=h;exact⟨⟨by omega,by omega,λs hs=>⟨by have:=(h3 s hs).1;omega,by have:=(h3 s hs).2;omega⟩⟩,h3⟩
theorem RP:∀x∈lA,x.lite:=by
 intro x hx;simp only[lA,A8,DW,or_false]at hx;rcases hx with rfl|rfl<;>exact ZO rfl
theorem uS:∀x∈lB,x.lite:=by
 intro x hx;simp only[lB,A8,DW,or_false]at hx;subst hx;exact ZO rfl
theorem RV:Br lA=0:=by kernel_rfl
theorem vg:Br lB=0:=by kernel_rfl
theorem pE:Kj lA=[(tA,13),(tB,3)]:=by kernel_rfl
theorem VF:FK (CH lA)=[(tA,13),(tB,3)]:=by rw[<-YR];exact pE
theorem Zh:(CH lA).any (λp=>Do p.2)=false:=by kernel_rfl
theorem pF:Rg lA=0:=by
 unfold Rg IL;rw[AF (by rw[RV];exact λh=>h rfl),Zh];rfl
theorem pG:Rh lA=[(tA,13),(tB,3)]:=by
 unfold Rh Je;rw[AF (by rw[RV];exact λh=>h rfl),Zh,VF];rfl
def ST:List UInt8:=[49,51]
def t3:List UInt8:=[51]
def GK:List UInt8:=[49,51,47,49,54]
def GR:List UInt8:=[51,47,49,54]
def Kq (m:Int):AE:=⟨Eu,m,[⟨tA,GK⟩,⟨tB,GR⟩]⟩
theorem xj:Ci (tA,13)=Eh (tA,ST):=by unfold Ci Eh;rw[show BM 13=ST by kernel_rfl]
theorem xk:Ci (tB,3)=Eh (tB,t3):=by unfold Ci Eh;rw[show BM 3=t3 by kernel_rfl]
theorem qO:AI C0 22 [cA] (.tup [.sl false 2 [Eh (tA,ST),Eh (tB,t3)],i64 0]):=by
 have h:=x7 false lA (by decide) RP;rw[pF,pG,Cq,Cq,List.map_nil,xj,xk]at h;exact h
theorem Rs:lA.map (Ds Eu)=lA:=rfl
theorem ve:HE lA=0:=by kernel_rfl
theorem xU:[((tA,13):List UInt8×Rat),(tB,3)].any (λp=>Do (p.2/(Al lA:Rat)))=false:=by kernel_rfl
theorem xV:(CH lA).length=2:=by kernel_rfl
theorem ck:Gm lA=0:=by
 unfold Gm;rw[AF (by rw[ve];exact λh=>h rfl),AF (by rw[xV];decide),VF,xU];rfl
theorem Uu:Ej lA=[⟨tA,GK⟩,⟨tB,GR⟩]:=by
 unfold Ej;rw[VF];kernel_rfl
theorem Rm:Al lA=16:=by kernel_rfl
theorem vf:Kr lA=Kq 16:=by rw[ZA ck,Uu,Rm];rfl
theorem Zi:HA lA Eu=0:=by kernel_rfl
theorem Zj:IK lA Eu=0:=by unfold IK;rw[Zi,Rs,ck];rfl
theorem pH:Lt lA Eu=Kq 16:=by unfold Lt;rw[Zi,Rs,vf];rfl
theorem rN:AI C0 42 [cA,str (sb Eu)] (.tup [(Kq 16).D,i64 0]):=by
 have h:=eV false lA Eu (by decide) RP (by decide);rw[Zj,pH]at h;exact h
theorem v8:Fm lA 15=⟨Eu,1,[⟨tA,GK⟩,⟨tB,GR⟩]⟩:=by
 unfold Fm;rw[Rm,show(CG lA 0).grain=Eu from rfl,Rs,Uu];rfl
theorem cj:G9 (Fm lA 15)=[(tA,mkRat 13 16),(tB,mkRat 3 16)]:=by rw[v8];kernel_rfl
theorem ce:[((tA,mkRat 13 16):List UInt8×Rat),(tB,mkRat 3 16)].any (λp=>Do p.2)=false:=by kernel_rfl
theorem v7:IL (CH [Fm lA 15])=0:=by
 unfold IL;rw[(Tr lA 15).1,cj,ce];rfl
theorem vh:CJ lA=true:=by kernel_rfl
theorem Uv:JC lA 15=0:=by
 unfold JC;rw[RV,AF (λh=>h rfl),AF (by decide),Rm,AF (by decide),vh,AF (λh=>by cases h),show(CG lA 0).grain=Eu from rfl,Zj,AF (λh=>h rfl),AF (by decide),v7]
theorem vk:R8 lA 15=Kq 15:=by
 unfold R8;rw[Uv,AF (λh=>h rfl),show(CG lA 0).grain=Eu from rfl,Rs,Uu];rfl
theorem vj:R7 lA 15=[(tA,mkRat 13 16),(tB,mkRat 3 16)]:=by
 unfold R7 Je;rw[Uv,AF (λh=>h rfl),Rm,AF (by decide),(Tr lA 15).2,(Tr lA 15).1,cj,ce];rfl
theorem xm:Ci (tA,mkRat 13 16)=Eh (tA,GK):=by unfold Ci Eh;rw[show BM (tA,mkRat 13 16).2=GK by kernel_rfl]
theorem xn:Ci (tB,mkRat 3 16)=Eh (tB,GR):=by unfold Ci Eh;rw[show BM (tB,mkRat 3 16).2=GR by kernel_rfl]
theorem lF:AI C0 44 [cA,i64 15] (.tup [(Kq 15).D,.sl false 2 [Eh (tA,GK),Eh (tB,GR)],i64 0]):=by
 have h:=pI false lA 15 (by decide) RP;rw[Uv,vk,vj,Cq,Cq,List.map_nil,xm,xn]at h;exact h
theorem qR:AI C0 68 [cA] (i64 0):=by
 have h:=NG false lA (by decide) λx hx=>(RP x hx).1
 rw[RV]at h;exact h
theorem rM:AI C0 68 [cB] (i64 0):=by
 have h:=NG false lB (by decide) λx hx=>(uS x hx).1
 rw[vg]at h;exact h
theorem qQ:AI C0 75 [str (sb tB)] (Aq true):=by
 have h:=Qp tB;rw[show Db tB=true by kernel_rfl]at h;exact h
theorem x5 (x:AE)(h:x.shs.length<=1000000)(m:Int):AI C0 94 [x.D,i64 m] (x.w m).D:=Oa x m h
theorem Ui {l:List AE}(h:l.all (λx=>decide (x.shs.length<=1000000))=true):∀x∈l,∀m,AI C0 94 [x.D,i64 m] (x.w m).D:=λx hx m=>x5 x (Cz (CN.1 h x hx)) m
theorem Tu {l:List AE}(h:l.all (λx=>decide (0<=x.mass)&&decide (x.mass<=1000000000))=true):∀x∈l,0<=x.mass/\x.mass<=1000000000:=λx hx=>by
 have:=CN.1 h x hx
 simpa using this
theorem ze:AI C0 62 [Am false [C9 2]] (Am false [C9 2]):=CE DV 400 40 (by kernel_rfl)
theorem zf:AI C0 62 [Am false [Cj 1]] (Am false [Cj 1]):=CE DV 400 40 (by kernel_rfl)
theorem zg:AI C0 62 [Am false [Cj 9,C9 4]] (Am false [Cj 9,C9 4]):=CE DV 400 40 (by kernel_rfl)
theorem dG:AI C0 57 [cA] (i64 16):=CE DV 400 40 (by kernel_rfl)
theorem nV:AI C0 105 [cA,i64 2,Aq true] (Am false [C9 2]):=UC false true lA 2 (by decide) (by decide) (Tu rfl) (Ui rfl) _ ze
theorem nW:AI C0 105 [cA,i64 1,Aq false] (Am false [Cj 1]):=UC false false lA 1 (by decide) (by decide) (Tu rfl) (Ui rfl) _ zf
theorem qJ:AI C0 60 [cA,i64 1,i64 2] (Am false [Cj 9,C9 4]):=WS false lA 1 2 (by decide) (by decide) (by decide) 16 (by decide) (Tu rfl) dG (Ui rfl) _ zg
theorem vT:AI C0 126 [cA,str (sb tB)] (.sl false 2 [Fh (11,16)]):=by
 have h:=gh false lA tB (by decide) λx hx=>by
  simp only[lA,A8,DW,or_false]at hx;rcases hx with rfl|rfl<;>exact⟨by decide,by decide,by decide⟩
 rw[show K5 tB lA 0=[(11,16)] by kernel_rfl]at h;exact h
theorem qL:AI C0 63 [.sl true 1 [Am false [C9 2],Am false [Cj 1]]] (Am false [C9 2,Cj 1]):=W7 [[C9 2],[Cj 1]] (by simp) (by decide) (by decide)
def PE:List (Nat×List D×D):=[(68,[cA],i64 0),(68,[cB],i64 0),(75,[str (sb tB)],Aq true),
 (105,[cA,i64 2,Aq true],Am false [C9 2]),(105,[cA,i64 1,Aq false],Am false [Cj 1]),(60,[cA,i64 1,i64 2],Am false [Cj 9,C9 4]),
 (126,[cA,str (sb tB)],.sl false 2 [Fh (11,16)]),(63,[.sl true 1 [Am false [C9 2],Am false [Cj 1]]],Am false [C9 2,Cj 1])]
instance xu:AA cA:=by unfold cA;exact AJ
instance xv:AA cB:=by unfold cB;exact AJ
instance q_cA:AV cA:=by unfold cA;exact AJ
instance q_cB:AV cB:=by unfold cB;exact AJ
theorem Zd:∀e∈PE,AI C0 e.1 e.2.1 e.2.2/\Ai e.2.1:=by
 intro e he;simp only[PE,A8,DW,or_false]at he;rcases he with rfl|rfl|rfl|rfl|rfl|rfl|rfl|rfl
 ·exact⟨qR,AJ⟩
 ·exact⟨rM,AJ⟩
 ·exact⟨qQ,AJ⟩
 ·exact⟨nV,AJ⟩
 ·exact⟨nW,AJ⟩
 ·exact⟨qJ,AJ⟩
 ·exact⟨vT,AJ⟩
 ·exact⟨qL,AJ⟩
noncomputable def X5:EV:=⟨Pg,MJ.get,Nd.get,λ_=>false,M4 PE,SO,Ks⟩
theorem EI:FF C0 X5:=⟨VZ,Rr,J5,TQ PE Zd,by kernel_rfl,bD,Qm⟩
def gF:D:=.agg [str (sb Mg),i64 4,i64 30,i64 12,.sl false 1 [Am false [Cj 9,C9 4],Am false [Cj 5]]]
theorem qM:AI C0 15 [Da,i64 0,i64 3] (.tup [gF,Am false [C9 2,Cj 1],i64 0]):=CE EI 400 40 (by kernel_rfl)
abbrev U4 (ls:List Int)(i:Int):D:=.clo (.func 96) [] [.pptr (.sl false 1 (Bb ls)),.pptr (i64 i),.pptr Da]
abbrev uj (ls:List Int)(i:Int):D:=.clo (.func 93) [] [.pptr Da,.pptr (.sl false 1 (Bb ls)),.pptr (i64 i)]
theorem kG:AI C0 92 [.sl false 1 (Bb [16,5]),i64 ((0:Nat):Int),U4 [16,5] ((0:Nat):Int)] (.sl false 1 [i64 23]):=CE EI 400 40 (by kernel_rfl)
theorem kH:AI C0 92 [.sl false 1 (Bb [16,5]),i64 ((1:Nat):Int),U4 [16,5] ((1:Nat):Int)] (.sl false 1 [i64 1]):=CE EI 400 40 (by kernel_rfl)
theorem kI:AI C0 92 [.sl false 1 (Bb [0,5]),i64 ((1:Nat):Int),U4 [0,5] ((1:Nat):Int)] (.sl false 1 [i64 17]):=CE EI 400 40 (by kernel_rfl)
theorem kJ:AI C0 92 [.sl false 1 (Bb [16,5]),i64 ((1:Nat):Int),uj [16,5] ((1:Nat):Int)] (.sl false 1 [i64 23]):=CE EI 400 40 (by kernel_rfl)
theorem zY:AI C0 91 [i64 16,.sl false 1 [i64 23]] (i64 16):=CE EI 400 40 (by kernel_rfl)
theorem zZ:AI C0 91 [i64 5,.sl false 1 [i64 1]] (i64 1):=CE EI 400 40 (by kernel_rfl)
theorem z7:AI C0 91 [i64 5,.sl false 1 [i64 17]] (i64 5):=CE EI 400 40 (by kernel_rfl)
theorem za:AI C0 91 [i64 25,.sl false 1 [i64 23]] (i64 23):=CE EI 400 40 (by kernel_rfl)
instance d8E:AA Da:=by unfold Da;exact AJ
instance d8H:AV Da:=by unfold Da;exact AJ
theorem zb:AI C0 49 [Da,.sl false 1 (Bb [16,5]),i64 ((0:Nat):Int)] (i64 16):=Q2 Da ⟨_,_,_,_,_,rfl⟩ false _ 0 16 rfl _ 16 kG zY
theorem zc:AI C0 49 [Da,.sl false 1 (Bb [16,5]),i64 ((1:Nat):Int)] (i64 1):=Q2 Da ⟨_,_,_,_,_,rfl⟩ false _ 1 5 rfl _ 1 kH zZ
theorem zd:AI C0 49 [Da,.sl false 1 (Bb [0,5]),i64 ((1:Nat):Int)] (i64 5):=Q2 Da ⟨_,_,_,_,_,rfl⟩ false _ 1 5 rfl _ 5 kI z7
theorem vS:AI C0 48 [Da] (.sl false 1 (Bb [16,5])):=CE EI 400 40 (by kernel_rfl)
theorem qK:AI C0 55 [Da,.sl true 1 [i64 1]] (i64 0):=CE EI 400 40 (by kernel_rfl)
theorem vR:AI C0 47 [Da] (i64 0):=CE EI 400 40 (by kernel_rfl)
theorem nU:AI C0 43 [Da,i64 1] (.tup [i64 23,i64 0]):=og Da _ _ _ _ 30 rfl _ 1 5 rfl _ 23 qK vS kJ 25 rfl za
def Va:List (Nat×List D×D):=(49,[Da,.sl false 1 (Bb [16,5]),i64 1],i64 1)::PE
theorem ot:∀e∈Va,AI C0 e.1 e.2.1 e.2.2/\Ai e.2.1:=by
 intro e he;rcases A8.1 he with rfl|he
 ·exact⟨zc,AJ⟩
 ·exact Zd e he
noncomputable def gO:EV:=⟨Pg,MJ.get,Nd.get,λ_=>false,M4 Va,SO,Ks⟩
theorem vO:FF C0 gO:=⟨VZ,Rr,J5,TQ Va ot,by kernel_rfl,bD,Qm⟩
theorem qP:AI C0 16 [Da,i64 1] (.tup [i64 1,i64 0]):=CE vO 400 40 (by kernel_rfl)
theorem nT:AI C0 30 [Da,i64 0,str (sb tB)] (.tup [i64 2,i64 0]):=CE EI 400 40 (by kernel_rfl)
theorem qN:AI C0 31 [Da,i64 0,str (sb tB)] (.tup [i64 8,i64 0]):=CE EI 400 40 (by kernel_rfl)
def gH (l:List Int):Int:=if l=[16,5]then 16 else 5
theorem nS:AI C0 11 [Da] (.tup [.sl false 2 [Ge (0,16),Ge (1,5)],i64 0]):=by
 have h:=Y5 (str (sb Mg)) (i64 4) (i64 30) (i64 12) false [cA,cB] [16,5] rfl (by simp) (by decide) (λi c m h1 h2=>by
  match i with
  | 0=>cases h1;cases h2;exact dG
  | 1=>cases h1;cases h2;exact CE EI 400 40 (by kernel_rfl)
  |i+2=>cases h1) (λc hc=>by
  simp only[A8,DW,or_false]at hc;rcases hc with rfl|rfl
  ·exact⟨_,_,rfl,xu⟩
  ·exact⟨_,_,rfl,xv⟩) vR gH (λl=>l=[16,5]\/l=[0,5]\/l=[0,0]) (.inl rfl) (λl hl hn=>by
  rcases hl with rfl|rfl|rfl
  ·exact⟨zb,rfl,.inr (.inl rfl)⟩
  ·exact⟨zd,rfl,.inr (.inr rfl)⟩
  ·exact Ae rfl hn)
 rw[show GZ gH 257 [16,5] []=([(0,16),(1,5)],0) by kernel_rfl]at h;exact h
abbrev Y2:Dr:=[(16,[0,1,2,3,4,5,6,7,8,9,10,11,12,13,14,15,16,17,18],[19,20,21])]
open Go.Proofs Go.RowKit Go.Sort
set_option maxRecDepth 20000
set_option maxHeartbeats 8000000
def yL:D:=.sl true 2 [.agg [str (sb tA),str (sb GK)],.agg [str (sb tB),str (sb GR)]]
theorem yj (m:Int):AI C0 45 [.sl false 2 [.agg [str (sb tA),str (sb GK)],.agg [str (sb tB),str (sb GR)]],yL] (Aq true):=CE EI 400 40 (by kernel_rfl)
theorem uR:AI C0 23 [.sl false 2 [Eh (tA,GK),Eh (tB,GR)],.sl true 2 [Eh (tA,GK),Eh (tB,GR)]] (Aq true):=CE EI 400 40 (by kernel_rfl)
theorem yd:AI C0 46 [i64 2,Aq true] (FA (C9 2)):=CE EI 400 40 (by kernel_rfl)
theorem ye:AI C0 46 [i64 1,Aq false] (FA (Cj 1)):=CE EI 400 40 (by kernel_rfl)
theorem yf:AI C0 46 [i64 9,Aq false] (FA (Cj 9)):=CE EI 400 40 (by kernel_rfl)
theorem yg:AI C0 46 [i64 4,Aq true] (FA (C9 4)):=CE EI 400 40 (by kernel_rfl)
theorem yh:AI C0 20 [Am false [C9 2,Cj 1],.sl true 3 [FA (C9 2),FA (Cj 1)]] (Aq true):=CE EI 400 40 (by kernel_rfl)
theorem yi:AI C0 20 [Am false [Cj 9,C9 4],.sl true 3 [FA (Cj 9),FA (C9 4)]] (Aq true):=CE EI 400 40 (by kernel_rfl)
theorem qD:AI C0 10 [] (Aq true):=by
 refine Ag.walk w1 dE rfl λF=>?_
 have cE:=yY;have cL:=qO;have cP:AI C0 42 [cA,.prim (.string ⟨#[119,104,101,97,116]⟩)] (.tup [(Kq 16).D,i64 0]):=rN;have cD:=qM;have cM:=qP;have cS:=nU;have cF:AI C0 30 [Da,i64 0,.prim (.string ⟨#[98]⟩)] (.tup [i64 2,i64 0]):=nT;have cLa:AI C0 31 [Da,i64 0,.prim (.string ⟨#[98]⟩)] (.tup [i64 8,i64 0]):=qN;have cEm:=nS;have cSh:=lF;have pA:AA cA:=AJ;have pB:AA cB:=AJ;have pX:AA Da:=AJ;unfold Da at cE cD cM cS cF cLa cEm pX;have hA:∃T,cA=.sl false 3 T:=⟨_,rfl⟩
 have hB:∃T,cB=.sl false 3 T:=⟨_,rfl⟩
 obtain⟨TA,hA⟩:=hA;obtain⟨TB,hB⟩:=hB;rw[hA,hB]at cE cD cM cS cF cLa cEm pX;rw[hA]at cL cP cSh pA;rw[hB]at pB;have hm:([.sl false 3 TA,.sl false 3 TB]:List D)[0]?=some (.sl false 3 TA):=rfl;have dP:(Kq 16).D=.agg [str (sb Eu),i64 16,.sl false 2 [.agg [str (sb tA),str (sb GK)],.agg [str (sb tB),str (sb GR)]]]:=rfl;have dP2:(Kq 15).D=.agg [str (sb Eu),i64 15,.sl false 2 [.agg [str (sb tA),str (sb GK)],.agg [str (sb tB),str (sb GR)]]]:=rfl;rw[dP]at cP;rw[dP2]at cSh;unfold gF at cD;refine AH Y2 kB cE hm cL cP cD cM ?_;refine cI cS ?_;refine sR 700 ?_;refine cI cF ?_;refine sR 800 ?_;refine cI cLa ?_;refine sR 900 ?_;refine cI cEm ?_;refine sR 1000 ?_;refine Bq kT hm ?_;refine AD kB ?_;refine cI cSh ?_;have z0:IntKind.i64.wrap (0+0)=0:=rfl;have n0:((0:Int) != 0)=false:=rfl;have n1:((1:Int) != 1)=false:=rfl;have n23:((23:Int) != 23)=false:=rfl;have n2:((2:Int) != 2)=false:=rfl;have n2':(((2:Nat):Int) != 2)=false:=rfl;have s0:([.agg [i64 0,i64 16],.agg [i64 1,i64 5]]:List D)[0]?=some (.agg [i64 0,i64 16]):=rfl;have s1:([.agg [i64 0,i64 16],.agg [i64 1,i64 5]]:List D)[1]?=some (.agg [i64 1,i64 5]):=rfl;have n8:((8:Int) != 8)=false:=rfl;obtain⟨C1,hC1⟩:∃d,Am false [Cj 9,C9 4]=d:=⟨_,rfl⟩
 obtain⟨O1,hO1⟩:∃d,Am false [C9 2,Cj 1]=d:=⟨_,rfl⟩
 rw[hC1,hO1];refine AC.weak ⟨[(2,.sl false 2 [.agg [str (sb tA),str (sb ST)],.agg [str (sb tB),str (sb t3)]]),(3,i64 0),(4,.optr 308 22 3 0 0),(5,i64 0),(6,.optr 406 31 5 0 0),(7,O1),(8,i64 0),(9,i64 1),(10,i64 0),(11,i64 23),(12,i64 0),(13,i64 2),(14,i64 0),(15,i64 8),(16,i64 0),(17,.sl false 2 [.agg [i64 0,i64 16],.agg [i64 1,i64 5]]),(18,i64 0),(19,.optr 1009 79 3 0 0),(20,.sl false 2 [.agg [str (sb tA),str (sb GK)],.agg [str (sb tB),str (sb GR)]]),(21,i64 0)],
  [⟨1009,79,80,3,[.agg [str (sb Eu),i64 15,.sl false 2 [.agg [str (sb tA),str (sb GK)],.agg [str (sb tB),str (sb GR)]]]]⟩,⟨406,31,24,5,[.agg [str (sb Mg),i64 4,i64 30,i64 12,.sl false 1 [C1,Am false [Cj 5]]]]⟩,⟨308,22,80,3,[.agg [str (sb Eu),i64 16,.sl false 2 [.agg [str (sb tA),str (sb GK)],.agg [str (sb tB),str (sb GR)]]]]⟩],_⟩ AK ?_
 refine AC.seq ?_;refine AC.seq ?_;refine yv w1 1100 [([0,1,2,3,4,5,6,7,8,9,10,11,12,13,14,15,16,17,18,19,20,21,22,23,24,25,26,27,28,29,30,31,32,33,34,35,36,37,38,39,40,41,42,43],44),([45,46,47,48,49,50],51)] [52] rfl (by kernel_rfl) ?_;change Cv _ _ _ _ _ _ _ _;refine AD (CS z0 n0 n1 n23 n2 n2' (As n8 kT kF)) ?_;refine AD (CS z0 n0 n1 n23 n2 n2' (As n8 kT kF)) ?_;refine AD (CS z0 n0 n1 n23 n2 n2' (As n8 kT kF)) ?_;refine AD (CS z0 n0 n1 n23 n2 n2' (As n8 kT kF)) ?_;refine AD (CS z0 n0 n1 n23 n2 n2' (As n8 kT kF)) ?_;refine AD (As n2' kT kF) ?_;refine Bq kF s0 ?_;refine AD (As n2' kT kF) ?_;refine AD (As n2' kT kF) ?_;refine⟨Aq false,λos K' hk=>fV (a1:=0) (a2:=16) (b1:=0) (b2:=16) rfl rfl ZX rfl rfl hk,?_⟩;change Cv _ _ _ _ _ ⟨(124,Aq false)::_,_,_⟩ _ _;refine Au ?_;refine AD (As n2' kT kF) ?_;refine AD (As n2' kT kF) ?_;refine Bq kF s1 ?_;refine AD (As n2' kT kF) ?_;refine AD (As n2' kT kF) ?_;refine⟨Aq false,λos K' hk=>fV (a1:=1) (a2:=5) (b1:=1) (b2:=5) rfl rfl ZX rfl rfl hk,?_⟩;change Cv _ _ _ _ _ ⟨(131,Aq false)::_,_,_⟩ _ _;refine Au ?_;refine AD (As n2' kT kF) ?_;refine AM ?_;refine An ?_;refine AC.weak ⟨[(2,.sl false 2 [.agg [.prim (.string ⟨#[97]⟩),.prim (.string ⟨#[49,51]⟩)],.agg [.prim (.string ⟨#[98]⟩),.prim (.string ⟨#[51]⟩)]]),(4,.optr 308 22 3 0 0),(6,.optr 406 31 5 0 0),(7,O1),(19,.optr 1009 79 3 0 0),(20,.sl false 2 [.agg [.prim (.string ⟨#[97]⟩),.prim (.string ⟨#[49,51,47,49,54]⟩)],.agg [.prim (.string ⟨#[98]⟩),.prim (.string ⟨#[51,47,49,54]⟩)]])],
  [⟨1009,79,80,3,[.agg [str (sb Eu),i64 15,.sl false 2 [.agg [.prim (.string ⟨#[97]⟩),.prim (.string ⟨#[49,51,47,49,54]⟩)],.agg [.prim (.string ⟨#[98]⟩),.prim (.string ⟨#[51,47,49,54]⟩)]]]]⟩,⟨406,31,24,5,[.agg [str (sb Mg),i64 4,i64 30,i64 12,.sl false 1 [C1,Am false [Cj 5]]]]⟩,⟨308,22,80,3,[.agg [str (sb Eu),i64 16,.sl false 2 [.agg [.prim (.string ⟨#[97]⟩),.prim (.string ⟨#[49,51,47,49,54]⟩)],.agg [.prim (.string ⟨#[98]⟩),.prim (.string ⟨#[51,47,49,54]⟩)]]]]⟩],_⟩ AK ?_
 have h1:AI C0 45 [.sl false 2 [.agg [.prim (.string ⟨#[97]⟩),.prim (.string ⟨#[49,51,47,49,54]⟩)],.agg [.prim (.string ⟨#[98]⟩),.prim (.string ⟨#[51,47,49,54]⟩)]],.sl true 2 [.agg [.prim (.string ⟨#[97]⟩),.prim (.string ⟨#[49,51,47,49,54]⟩)],.agg [.prim (.string ⟨#[98]⟩),.prim (.string ⟨#[51,47,49,54]⟩)]]] (Aq true):=yj 0;have h2:AI C0 23 [.sl false 2 [.agg [.prim (.string ⟨#[97]⟩),.prim (.string ⟨#[49,51,47,49,54]⟩)],.agg [.prim (.string ⟨#[98]⟩),.prim (.string ⟨#[51,47,49,54]⟩)]],.sl true 2 [.agg [.prim (.string ⟨#[97]⟩),.prim (.string ⟨#[49,51,47,49,54]⟩)],.agg [.prim (.string ⟨#[98]⟩),.prim (.string ⟨#[51,47,49,54]⟩)]]] (Aq true):=uR;have e1:BJ ⟨#[97]⟩ ⟨#[97]⟩=true:=P1 _;have e2:BJ ⟨#[49,51]⟩ ⟨#[49,51]⟩=true:=P1 _;have e3:BJ ⟨#[98]⟩ ⟨#[98]⟩=true:=P1 _;have e4:BJ ⟨#[51]⟩ ⟨#[51]⟩=true:=P1 _;have x0:([.agg [.prim (.string ⟨#[97]⟩),.prim (.string ⟨#[49,51]⟩)],.agg [.prim (.string ⟨#[98]⟩),.prim (.string ⟨#[51]⟩)]]:List D)[0]?=some (.agg [.prim (.string ⟨#[97]⟩),.prim (.string ⟨#[49,51]⟩)]):=rfl;have x1:([.agg [.prim (.string ⟨#[97]⟩),.prim (.string ⟨#[49,51]⟩)],.agg [.prim (.string ⟨#[98]⟩),.prim (.string ⟨#[51]⟩)]]:List D)[1]?=some (.agg [.prim (.string ⟨#[98]⟩),.prim (.string ⟨#[51]⟩)]):=rfl;have b1:(!(true&&(true&&true)))=false:=rfl;have n16:((16:Int) != 16)=false:=rfl;have n15:((15:Int) != 15)=false:=rfl;have k1:=yd;have k2:=ye;have k3:=yf;have k4:=yg;have k5:=yh;have k6:=yi;have pA1:Ai [Am false [C9 2,Cj 1],.sl true 3 [FA (C9 2),FA (Cj 1)]]:=⟨λd hd=>by
  simp only[A8,DW,or_false]at hd;rcases hd with rfl|rfl
  ·exact(AJ:AA (Am false [C9 2,Cj 1])).out
  ·exact G3 (n:=30) (by kernel_rfl)⟩
 have pA2:Ai [Am false [Cj 9,C9 4],.sl true 3 [FA (Cj 9),FA (C9 4)]]:=⟨λd hd=>by
  simp only[A8,DW,or_false]at hd;rcases hd with rfl|rfl
  ·exact(AJ:AA (Am false [Cj 9,C9 4])).out
  ·exact G3 (n:=30) (by kernel_rfl)⟩
 rw[hO1]at k5 pA1;rw[hC1]at k6 pA2;obtain⟨u1,u2,u3,hu⟩:∃a b c,FA (C9 2)=.agg [a,b,c]:=⟨_,_,_,rfl⟩
 obtain⟨v1,v2,v3,hv⟩:∃a b c,FA (Cj 1)=.agg [a,b,c]:=⟨_,_,_,rfl⟩
 obtain⟨y1,y2,y3,hy⟩:∃a b c,FA (Cj 9)=.agg [a,b,c]:=⟨_,_,_,rfl⟩
 obtain⟨z1,z2,z3,hz⟩:∃a b c,FA (C9 4)=.agg [a,b,c]:=⟨_,_,_,rfl⟩
 rw[hu]at k1;rw[hv]at k2;rw[hy]at k3;rw[hz]at k4;rw[hu,hv]at k5 pA1;rw[hy,hz]at k6 pA2;obtain⟨C2,hC2⟩:∃d,Am false [Cj 5]=d:=⟨_,rfl⟩
 obtain⟨C1L,hC1L⟩:∃T,C1=.sl false 3 T:=⟨_,hC1.symm⟩
 rw[hC2,hC1L];rw[hC1L]at k6 pA2;have q0:([.sl false 3 C1L,C2]:List D)[0]?=some (.sl false 3 C1L):=rfl;have n2e:(((2:Nat):Int)==2)=true:=rfl;refine AH Y2 (CS b1 n2' n16 n15 e1 e2 (BW e3 e4 kT kF)) x0 x1 h1 h2 AB AB ?_;refine BX.same _ (k1) AJ ?_;refine BN ?_;refine AD (As n2e kT kF) ?_;refine BX.same _ (k2) AJ ?_;refine BN ?_;refine AD (As n2e kT kF) ?_;refine BX.same _ k5 pA1 ?_;refine Au ?_;refine AD (As n2e kT kF) ?_;refine AD (As n2e kT kF) ?_;refine AD (As n2e kT kF) ?_;refine Bq kT q0 ?_;refine AD (As n2e kT kF) ?_;refine AD (As n2e kT kF) ?_;refine Ni kT ?_;refine BX.same _ (k3) AJ ?_;refine BN ?_;refine Ni kT ?_;refine BX.same _ (k4) AJ ?_;refine BN ?_;refine AD (As n2e kT kF) ?_;refine AD (As n2e kT kF) ?_;refine AD (As n2e kT kF) ?_;refine Ni kT ?_;refine BD.same _ k6 pA2 ?_;refine Au ?_;refine AD (As n2e kT kF) ?_;refine AD (As n2e kT kF) ?_;refine Ah ?_;exact AL rfl AA.out
end Go.Ide
