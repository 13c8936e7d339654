/- The layer of own lemmas and contracts, part 12. -/
import Derived.Test.YteeceibhhdapaaaGreatDoorP11
import Derived.Test.YteeceibhhdapaaaGreatDoorP3
import Derived.Test.YteeceibhhdapaaaGreatDoorP4
import Derived.Test.YteeceibhhdapaaaGreatDoorP9
import Derived.Shelf.Spec.SlicesGrow
import Derived.Shelf.Lay
import Derived.Ground.Names8Prog
import Derived.Test.YteeceibhhdapaaaGreatDoorP7
import Derived.Laws.StructEq
import Derived.Test.YteeceibhhdapaaaGreatDoorP10
set_option linter.unusedVariables false
set_option linter.unusedSimpArgs false
namespace Go.Ide
abbrev JZ:Dr:=[(8,[0,1,2,3,4,5,6,7,8,9,10,11,12],[13,14])]
open Go.Proofs Go.RowKit Go.Sort
set_option maxRecDepth 20000
set_option maxHeartbeats 4000000
theorem Y5 {H Hf:Hp}{K g T sz n:Nat}{l:List D}(h:Hp.get H K=some ⟨K,g,T,sz,l⟩)(hf:Hp.get Hf K=none)(hn:n=l.length):Fz H Hf (.osl K g sz 0 n) (.sl false sz l):=by
 subst hn;refine .osl (e:=⟨K,g,T,sz,l⟩) h hf rfl rfl (by simp) (by simp) (λj d d' h1 h2=>?_) λj d d' q c c' h1 h2 h3 h4=>?_
 ·rw[BM]at h1;rw[h1]at h2;cases h2;rfl
 ·rw[BM]at h1;rw[h1]at h2;cases h2;rw[h3]at h4;cases h4;exact Fz.refl _
def FQ (lot:List UInt8)(l:BW):Nat:=(l.takeWhile λp=>ltStr p.1 lot).length
theorem im (lot:List UInt8)(l:BW):FQ lot l<=l.length:=by
 unfold FQ
 have:=(List.takeWhile_sublist (l:=l) λp=>ltStr p.1 lot).length_le
 exact this
theorem Oo (lot:List UInt8)(p:List UInt8×Rat)(l:BW):FQ lot (p::l)=if ltStr p.1 lot then FQ lot l+1 else 0:=by
 unfold FQ;rw[Mb];split<;>simp
theorem SB {lot:List UInt8}:∀ {l:BW} {i:Nat},(∀j p,j<i->l[j]?=some p->ltStr p.1 lot=true)->i<=l.length->(∀p,l[i]?=some p->ltStr p.1 lot=false)->FQ lot l=i
 | [],i,_,h2,_=>by simp at h2;subst h2;rfl
 |q::l,0,_,_,h3=>by
  rw[Oo,AE (by rw[h3 q rfl];decide)]
 |q::l,i+1,h1,h2,h3=>by
  rw[Oo,AH (h1 0 q (by omega) rfl)];rw[SB (i:=i) (λj p hj hp=>h1 (j+1) p (by omega) (by simpa using hp)) (by simpa using h2) λp hp=>h3 p (by simpa using hp)]
def DY (lot:List UInt8)(r:Rat):BW->BW
 | []=>[(lot,r)]
 |p::l=>if ltStr p.1 lot then p::DY lot r l else if p.1=lot then(p.1,p.2+r)::l else(lot,r)::p::l
theorem W9 {lot:List UInt8}{r:Rat}:∀ {l:BW} {p:List UInt8×Rat},l[FQ lot l]?=some p->p.1=lot->DY lot r l=l.set (FQ lot l) (p.1,p.2+r)
 | [],p,h,_=>by simp[FQ]at h
 |q::l,p,h,e=>by
  unfold DY;rw[Oo]at h⊢;split at h
  ·rename_i h2
   rw[AH h2,AH h2,List.set_cons_succ,W9 (by simpa using h) e]
  ·rename_i h2
   rw[AE h2,AE h2];simp at h;subst h;rw[AH e];rfl
theorem XA {lot:List UInt8}{r:Rat}:∀ {l:BW},(∀p,l[FQ lot l]?=some p->p.1≠lot)->DY lot r l=l.take (FQ lot l)++(lot,r)::l.drop (FQ lot l)
 | [],_=>rfl
 |q::l,h=>by
  unfold DY;rw[Oo]at h⊢;split at h
  ·rename_i h2
   rw[AH h2,AH h2,XA (λp hp=>h p (by simpa using hp))];rfl
  ·rename_i h2
   rw[AE h2,AE h2,AE (h q rfl)];rfl
theorem jl (a b:List UInt8):Ix (sb a) (sb b)=ltStr a b:=by
 unfold Ix ltStr;rw[bytesLess_eq,Vp,Vp]
def Tp (E0 E4:Ar)(i:Nat):Option Ar:=match i with
 | 4=>some E0
 | 9=>some E4
 |_=>none
def OC (i:Nat):Option Nat:=match i with
 | 0=>some 4
 | 4=>some 9
 |_=>none
theorem jQ {ops:Array Oper}{d0 d1 d2 d3 d4 d5 d6 d7 d8 d9 d10 d11 d12:D}{E0 E4 E9:Ar}(h1:DP ops 4 0)(h2:DP ops 9 4):
  L3 ops (K7 ops [(0,d0,some E0),(1,d1,none),(2,d2,none),(3,d3,none),(4,d4,some E4),(5,d5,none),(6,d6,none),(7,d7,none),(8,d8,none),(9,d9,some E9),(10,d10,none),(11,d11,none),(12,d12,none)]) (Tp E0 E4) OC:=by
 constructor
 ·intro r hr e he
  simp only[K7,CJ,List.map_nil,A0,DC,or_false]at hr;rcases hr with rfl|rfl|rfl|rfl|rfl|rfl|rfl|rfl|rfl|rfl|rfl|rfl|rfl<;>dsimp only[Tp]at he<;>first
   |(cases he;done)
   |(cases he;exact⟨⟨0,ops.getD 0 default,d0,some _⟩,by simp[K7],rfl,rfl⟩)
   |(cases he;exact⟨⟨4,ops.getD 4 default,d4,some _⟩,by simp[K7],rfl,rfl⟩)
 ·intro r hr j hj
  simp only[K7,CJ,List.map_nil,A0,DC,or_false]at hr;rcases hr with rfl|rfl|rfl|rfl|rfl|rfl|rfl|rfl|rfl|rfl|rfl|rfl|rfl<;>dsimp only[OC]at hj<;>first
   |(cases hj;done)
   |(cases hj;exact⟨by simp[K7],rfl,by assumption⟩)
 ·intro r hr r' hr' j hj hj'
  have key:∀i k:Nat,OC i=some k->(i=0/\k=4)\/(i=4/\k=9):=λi k h=>by
   unfold OC at h;split at h<;>first|(cases h;simp;done)|cases h
  rcases key _ _ hj with⟨a,b⟩|⟨a,b⟩<;>rcases key _ _ hj' with⟨c,d⟩|⟨c,d⟩<;>omega
theorem uM (l:BW)(lot:List UInt8)(r:Rat)(k:Nat)(hl:l.length<=10000)(hk:∀p∈l,rk p.2 k)(hr:rk r k)(hk2:k+k<=10000):AI C0 136 [.sl false 2 (l.map Bg),str (sb lot),rR r] (.sl false 2 ((DY lot r l).map Bg)):=by
 refine Ah.walk w1 mq rfl λF=>?_
 have el:(((l.map Bg).length:Nat):Int)=(l.length:Int):=by rw[Ap]
 obtain⟨T,hT⟩:∃T,l.map Bg=T:=⟨_,rfl⟩
 have pT:AA (.sl false 2 T):=by rw[<-hT];exact AG
 have hTl:T.length=l.length:=by rw[<-hT,Ap]
 have hTat:∀(i:Nat) (p:List UInt8×Rat),l[i]?=some p->T[i]?=some (D.agg [str (sb p.1),str (sb (Ao p.2))]):=λi p h=>by rw[<-hT,BG,h];rfl
 rw[hT]at el⊢;unfold rR;refine sZ 0 ?_;refine AD kB ?_;refine sZ 100 ?_;refine AD kB ?_;refine Qn (λn=>⟨[(0,.sl false 2 T),(1,str (sb lot)),(2,str (sb (Ao r))),(7,i64 (FQ lot l:Nat))],[],n⟩) ?_ λn=>?_
 ·refine AC.block ?_
  refine FY (α:=Nat×Nat) (λp=>⟨[(0,.sl false 2 T),(1,str (sb lot)),(2,str (sb (Ao r))),(7,i64 (p.1:Nat))],[],p.2⟩) (λp=>l.length-p.1) (λp F1=>F1=F/\p.1<=l.length/\∀j q,j<p.1->l[j]?=some q->ltStr q.1 lot=true) (0,_) ⟨rfl,BT _,λj q h=>Aa h (HN j)⟩ AL ?_;rintro⟨i,m⟩ F1 ⟨rfl,hi,ha⟩;dsimp only at hi ha⊢;rcases BH i l.length with h2|h2
  rotate_left
  ·have e1:=Ci h2
   have:i=l.length:=by omega
   subst this;have hat:FQ lot l=l.length:=SB ha (Ae _) λp hp=>by simp at hp
   rw[hat];refine AN JZ (Ac e1 el) AB AB AB AB AB AB ?_;exact⟨trivial,_,AL⟩
  have e1:=Cg h2;have wi:=Cm (i:=i) (by omega);obtain⟨q,hq⟩:=CK h2;have hm:=hTat i q hq;have eS:=jl q.1 lot;obtain⟨bS,hbS⟩:∃b,ltStr q.1 lot=b:=⟨_,rfl⟩
  rw[hbS]at eS;cases bS
  ·have hat:FQ lot l=i:=SB ha (IY h2) λp hp=>by
    rw[hq]at hp;cases hp;exact hbS
   rw[hat];refine AN JZ (Bh e1 el eS kN) hm AB AB AB AB AB ?_;exact⟨trivial,_,AL⟩
  ·refine AN JZ (C5 e1 el eS wi kN) hm AB AB AB AB AB ?_
   exact⟨(i+1,_),⟨trivial,h2,λj z hj hz=>by
    rcases Nat.lt_succ_iff_lt_or_eq.1 hj with g|g
    ·exact ha j z g hz
    ·rw[g,hq]at hz;cases hz;exact hbS⟩,by dsimp only;omega,AL⟩
 obtain⟨A,hA⟩:∃A,FQ lot l=A:=⟨_,rfl⟩
 have hAl:=im lot l;rw[hA]at hAl⊢
 by_cases hq:∃q,l[A]?=some q/\q.1=lot
 ·obtain⟨q,hq,hql⟩:=hq
  have hAlt:A<l.length:=(List.getElem?_eq_some_iff.1 hq).1;have e1:=Cg hAlt;have hm:=hTat A q hq;have eE:Bb (sb q.1) (sb lot)=true:=by rw[EQ];exact AZ hql
  have cA:AI C0 167 [str (sb (Ao q.2)),str (sb (Ao r))] (str (sb (Ao (q.2+r)))):=Tw q.2 r k k (hk q (BA hq)) hr hk2;have hres:(DY lot r l).map Bg=T.set A (.agg [str (sb q.1),str (sb (Ao (q.2+r)))]):=by
   rw[W9 (by rw[hA];exact hq) hql,hA,List.map_set,hT];rfl
  rw[hres];refine AC.seq ?_;refine AC.seq ?_;refine AN JZ (Bh e1 el eE kN) hm AB AB AB AB AB ?_;rw[show List.take 0 []++T=T from rfl,BM,BM];refine AD hm ?_;refine cI cA ?_;refine AD (Au kN BM hm) ?_;have pR:B0 (.sl false 2 ((DY lot r l).map Bg)):=AA.out;rw[hres]at pR;obtain⟨T2,hT2⟩:∃T2,T.set A (.agg [str (sb q.1),str (sb (Ao (q.2+r)))])=T2:=⟨_,rfl⟩
  have hT2l:T.length=T2.length:=by rw[<-hT2,DK]
  rw[hT2]at pR;rw[hT2,hT2l];refine AN JZ kB AB AB AB AB AB AB ?_;exact⟨_,Y5 rfl rfl rfl,pR,rfl⟩
 refine Qn (λn=>⟨[(0,.sl false 2 T),(1,str (sb lot)),(2,str (sb (Ao r))),(7,i64 (A:Nat))],[],n⟩) ?_ λn2=>?_
 ·rcases BH A l.length with h2|h2
  ·have e1:=Cg h2
   obtain⟨q,hq2⟩:=CK h2;have hm:=hTat A q hq2;have eE:Bb (sb q.1) (sb lot)=false:=by
    rw[EQ];exact Ag λh=>hq ⟨q,hq2,h⟩
   refine AN JZ (Bh e1 el eE kN) hm AB AB AB AB AB ?_;exact⟨trivial,_,AL⟩
  ·have e1:=Ci h2
   refine AN JZ (Ac e1 el) AB AB AB AB AB AB ?_;exact⟨trivial,_,AL⟩
 have hres:(DY lot r l).map Bg=T.take A++[.agg [str (sb lot),str (sb (Ao r))]]++T.drop A:=by
  rw[XA (λp hp h=>hq ⟨p,by rw[<-hA];exact hp,h⟩),hA,<-hT];simp[Bg]
 have pR:B0 (.sl false 2 ((DY lot r l).map Bg)):=AA.out;rw[hres]at pR⊢;have hAT:A<=T.length:=by omega
 refine AC.seq ?_;have hA0:(0:Int)<=(A:Nat):=by omega
 have hA1:((A:Nat):Int)<=(T.length:Nat):=by omega
 have hTAl:((T.drop 0).take (((A:Nat):Int).toNat-0)).length<=10000:=by
  rw[Bf]
  have:=DQ (i:=0) (l:=T)
  omega
 refine ux w1 800 [0,1,2,3,4,5,6,7,8,9,10,11,12] [13,14] (use:=OC) (con:=Tp ⟨800,n2+0,82,2,[]⟩ ⟨804,n2+4,82,2,[].take 0++((T.drop 0).take (((A:Nat):Int).toNat-0))⟩)
  (rs:=K7 _ [(0,.osl 800 (n2+0) 2 0 0,some ⟨800,n2+0,82,2,[]⟩),(1,.sl false 2 T,none),(2,i64 (A:Nat),none),(3,.sl false 2 ((T.drop 0).take (((A:Nat):Int).toNat-0)),none),(4,.osl 804 (n2+4) 2 0 (0+((T.drop 0).take (((A:Nat):Int).toNat-0)).length),some ⟨804,n2+4,82,2,[].take 0++((T.drop 0).take (((A:Nat):Int).toNat-0))⟩),(5,str (sb lot),none),(6,str (sb (Ao r)),none),(7,(.agg [str (sb lot),str (sb (Ao r))]),none),(8,.sl true 2 [(.agg [str (sb lot),str (sb (Ao r))])],none),
   (9,.osl 809 (n2+9) 2 0 (0+((T.drop 0).take (((A:Nat):Int).toNat-0)).length+1),some ⟨809,n2+9,82,2,([].take 0++((T.drop 0).take (((A:Nat):Int).toNat-0))).take (0+((T.drop 0).take (((A:Nat):Int).toNat-0)).length)++[(.agg [str (sb lot),str (sb (Ao r))])]⟩),(10,.sl false 2 T,none),(11,i64 (A:Nat),none),(12,.sl false 2 ((T.drop ((A:Nat):Int).toNat).take (T.length-((A:Nat):Int).toNat)),none)])
  (N:=[⟨809,n2+9,82,2,([].take 0++((T.drop 0).take (((A:Nat):Int).toNat-0))).take (0+((T.drop 0).take (((A:Nat):Int).toNat-0)).length)++[(.agg [str (sb lot),str (sb (Ao r))])]⟩])
  (by kernel_rfl) rfl (jQ (WV (l:=[0,1,2,3,4,5,6,7,8,9,10,11,12]) (by kernel_rfl)) (WV (l:=[0,1,2,3,4,5,6,7,8,9,10,11,12]) (by kernel_rfl))) (Nu.at ?_) (List.Perm.refl _) ?_
 ·refine And.intro (And.intro rfl (Or.inl (And.intro rfl (Bs.l' 800 w1.tt rfl rfl AB)))) ?_
  refine And.intro (And.intro rfl (Or.inl (And.intro rfl (Bs.p w1.tt rfl rfl AB)))) ?_;refine And.intro (And.intro rfl (Or.inl (And.intro rfl (Bs.p w1.tt rfl rfl AB)))) ?_;refine And.intro (And.intro rfl (Or.inl (And.intro rfl (Bs.p w1.tt rfl rfl ⟨⟨hA0,hA1⟩,rfl⟩)))) ?_;refine And.intro (And.intro rfl (Or.inr ⟨_,_,rfl,rfl,ND.app 804 w1.tt rfl rfl ⟨rfl,rfl,rfl,rfl,rfl,Ae _,by show(0+((T.drop 0).take (((A:Nat):Int).toNat-0)).length)*32<=140737488355328;omega,by decide,by decide⟩⟩)) ?_;refine And.intro (And.intro rfl (Or.inl (And.intro rfl (Bs.p w1.tt rfl rfl AB)))) ?_;refine And.intro (And.intro rfl (Or.inl (And.intro rfl (Bs.p w1.tt rfl rfl AB)))) ?_;refine And.intro (And.intro rfl (Or.inl (And.intro rfl (Bs.p w1.tt rfl rfl (by exact B4))))) ?_;refine And.intro (And.intro rfl (Or.inl (And.intro rfl (Bs.l' 808 w1.tt rfl rfl (by exact B4))))) ?_;refine And.intro (And.intro rfl (Or.inr ⟨_,_,rfl,rfl,ND.app 809 w1.tt rfl rfl ⟨rfl,rfl,rfl,rfl,rfl,by show 0+((T.drop 0).take (((A:Nat):Int).toNat-0)).length<=([]++((T.drop 0).take (((A:Nat):Int).toNat-0))).length;rw[FZ];omega,by show(0+((T.drop 0).take (((A:Nat):Int).toNat-0)).length+1)*32<=140737488355328;omega,by decide,by decide⟩⟩)) ?_;refine And.intro (And.intro rfl (Or.inl (And.intro rfl (Bs.p w1.tt rfl rfl AB)))) ?_;refine And.intro (And.intro rfl (Or.inl (And.intro rfl (Bs.p w1.tt rfl rfl AB)))) ?_;refine And.intro (And.intro rfl (Or.inl (And.intro rfl (Bs.p w1.tt rfl rfl ⟨⟨hA0,hA1⟩,rfl⟩)))) ?_;exact AB
 change Cd _ _ _ _ _ ⟨(64,.sl false 2 ((T.drop ((A:Nat):Int).toNat).take (T.length-((A:Nat):Int).toNat)))::(63,i64 (A:Nat))::(62,.sl false 2 T)::(61,.osl 809 (n2+9) 2 0 (0+((T.drop 0).take (((A:Nat):Int).toNat-0)).length+1))::(60,.sl true 2 [(.agg [str (sb lot),str (sb (Ao r))])])::(59,(.agg [str (sb lot),str (sb (Ao r))]))::(58,str (sb (Ao r)))::(57,str (sb lot))::(56,.osl 804 (n2+4) 2 0 (0+((T.drop 0).take (((A:Nat):Int).toNat-0)).length))::(55,.sl false 2 ((T.drop 0).take (((A:Nat):Int).toNat-0)))::(54,i64 (A:Nat))::(53,.sl false 2 T)::(52,.osl 800 (n2+0) 2 0 0)::_,[⟨809,n2+9,82,2,([].take 0++((T.drop 0).take (((A:Nat):Int).toNat-0))).take (0+((T.drop 0).take (((A:Nat):Int).toNat-0)).length)++[(.agg [str (sb lot),str (sb (Ao r))])]⟩],_⟩ _ _;have q1:((T.drop 0).take (((A:Nat):Int).toNat-0))=T.take A:=by simp
 have q2:((T.drop ((A:Nat):Int).toNat).take (T.length-((A:Nat):Int).toNat))=T.drop A:=by
  rw[Qt,B1];rw[DQ];omega
 rw[q1,q2];obtain⟨P,hP⟩:∃P,T.take A=P:=⟨_,rfl⟩
 obtain⟨S,hS⟩:∃S,T.drop A=S:=⟨_,rfl⟩
 have hPl:P.length<=10000:=by rw[<-hP,Bf];omega
 have hSl:S.length<=10000:=by rw[<-hS,DQ];omega
 have pS:AA (.sl false 2 S):=by
  rw[<-hS,<-hT,<-List.map_drop];exact AG
 rw[hP,hS]at pR⊢;have q3:([].take 0++P).take (0+P.length)=P:=by simp
 rw[q3,BM];have q5:P.length+1<=(P++[(D.agg [str (sb lot),str (sb (Ao r))])]).length:=by simp
 have q4:(P++[(D.agg [str (sb lot),str (sb (Ao r))])]).take (P.length+1)=P++[(D.agg [str (sb lot),str (sb (Ao r))])]:=by rw[B1];simp
 refine AN JZ kB AB AB AB AB AB AB ?_;rw[q4];refine⟨_,Y5 rfl rfl ?_,pR,rfl⟩;rw[Bo,Bo];rfl
abbrev Pl:Dr:=[(8,[0,1,2,3,4,5,6,7,8,9,10,11,12,13,14,15,16,17,18,19,20,21,22,23,24,25],[26,27])]
open Go.Proofs Go.RowKit Go.Sort
set_option maxRecDepth 20000
set_option maxHeartbeats 4000000
theorem SU {lot:List UInt8}{r:Rat}{k:Nat}(hr:rk r 4):∀ {l:BW},(∀p∈l,rk p.2 k)->∀p∈DY lot r l,rk p.2 (k+5)
 | [],_,p,hp=>by
  unfold DY at hp;rw[List.mem_singleton]at hp;rw[hp];exact hr.mono (by omega)
 |a::l,h,p,hp=>by
  unfold DY at hp;split at hp
  ·rcases A0.1 hp with rfl|hp
   ·exact(h p Cf).mono (by omega)
   ·exact SU hr (λq hq=>h q (Cn _ hq)) p hp
  ·split at hp
   ·rcases A0.1 hp with rfl|hp
    ·exact(S9 (h a Cf) hr).mono (by omega)
    ·exact(h p (Cn _ hp)).mono (by omega)
   ·rcases A0.1 hp with rfl|hp
    ·exact hr.mono (by omega)
    ·exact(h p hp).mono (by omega)
theorem Wg {lot:List UInt8}{r:Rat}:∀ {l:BW},(DY lot r l).length<=l.length+1
 | []=>by simp[DY]
 |a::l=>by
  unfold DY;split
  ·simp only[Bk]
   have:=Wg (lot:=lot) (r:=r) (l:=l)
   omega
  ·split<;>simp
def HG (x:AF)(n:Nat)(q:BW):BW:=(x.shs.take n).foldl (λacc s=>DY s.lot (CB s.part*(x.mass:Rat)) acc) q
def Df (l:List AF):BW:=l.foldl (λacc x=>HG x x.shs.length acc) []
theorem Ro (x:AF)(n:Nat)(q:BW){s:As}(h:x.shs[n]?=some s):HG x (n+1) q=DY s.lot (CB s.part*(x.mass:Rat)) (HG x n q):=by
 unfold HG;rw[Dx,h,List.foldl_append];rfl
theorem RX (l:List AF)(n:Nat){x:AF}(h:l[n]?=some x):Df (l.take (n+1))=HG x x.shs.length (Df (l.take n)):=by
 unfold Df;rw[Dx,h,List.foldl_append];rfl
def AF.okR (x:AF):Prop:=x.shs.length<=15/\1<=x.mass/\x.mass<=999999999/\∀s∈x.shs,s.ok
theorem ke {s:As}(h:s.ok):str (sb s.part)=rR (CB s.part):=by
 unfold rR;rw[(LU h.2.2).2.2.1]
theorem Sa {z:Int}(h0:1<=z)(h1:z<=999999999):rk (z:Rat) 1:=(NQ (z:=z) (by omega)).rk
theorem mQ (n:Nat)(hn:n<1000000000):AI C0 127 [i64 (n:Int)] (rZ (n:Int)):=by
 refine Ah.walk w1 Yt rfl λF=>?_
 have q1:decide ((n:Int)<0)=false:=Ag (by omega);have q2:((n:Int)).tmod 1000000000=(n:Int):=Int.tmod_eq_of_lt (by omega) (by omega);have q3:((n:Int)).tdiv 1000000000=0:=Int.tdiv_eq_zero_of_lt (by omega) (by omega);have q4:IntKind.i64.wrap 0=0:=rfl;have q5:IntKind.i64.wrap (n:Int)=(n:Int):=wI (by omega) (by omega);have q6:((0:Int) != 0)=false:=rfl;have c0:=PU false [] (λa h=>by cases h) (by decide);have e0:rZ (sg false (AM []))=rZ 0:=rfl;rw[e0]at c0;have cn:n≠0->AI C0 177 [Aq false,rL [n]] (rZ (n:Int)):=λh=>by
  have:=PU false [n] (λa h=>by rw[List.mem_singleton.1 h];exact hn) (by simp)
  have e:AM [n]=n:=by unfold AM AM;omega
  rw[e]at this;exact this
 rcases Nat.decEq n 0 with h0|h0
 rotate_left
 ·subst h0
  have q7:(((0:Nat):Int) != 0)=false:=rfl;refine AN Ai q1 AB AB AB AB AB AB ?_;refine AC.loop (α:=Nat) (λp=>⟨[(0,i64 ((0:Nat):Int)),(2,.optr 0 0 2 0 0),(3,CD),(4,Aq false)],[⟨0,0,165,2,[.agg [Aq false,CD]]⟩],p⟩) (λ_=>0) (λ_=>True) _ AB AL ?_;intro m F _;refine AN Ai q7 AB AB AB AB AB AB ?_;refine Az.own _ (LA [⟨0,0,165,2,[.agg [Aq false,CD]]⟩] c0 (.keep .nil) ⟨.refl _,.nil 1,trivial⟩ AG) ?_;rintro d H' n' ⟨rfl,rfl,rfl⟩;refine AN Ai kB AB AB AB AB AB AB ?_;exact AO rfl AA.out
 have cn:=cn h0;have q7:=Ee h0;refine AN Ai q1 AB AB AB AB AB AB ?_;refine AC.loop (α:=Bool×Nat×Nat) (λp=>⟨[(0,if p.1 then i64 0 else i64 (n:Int)),(2,.optr 0 0 2 0 0),(3,if p.1 then .osl 703 p.2.1 1 0 1 else CD),(4,Aq false)],(if p.1 then[⟨703,p.2.1,3,1,[i64 (n:Int)]⟩]else[])++[⟨0,0,165,2,[.agg [Aq false,CD]]⟩],p.2.2⟩) (λp=>if p.1 then 0 else 1) (λ_=>True) (false,0,_) AB AL ?_;rintro⟨t,g,m⟩ F -;cases t
 ·dsimp only[Bool.false_eq_true,if_false,List.nil_append]
  refine AN Ai (E7 q7 q1 q2 q3 q4 q5) AB AB AB AB AB AB ?_;exact⟨(true,_,_),trivial,Nat.zero_lt_one,AL⟩
 ·dsimp only[if_true,List.cons_append,List.nil_append]
  refine AN Ai q6 AB AB AB AB AB AB ?_;refine Az.own _ (LA [⟨0,0,165,2,[.agg [Aq false,CD]]⟩] cn (.drop (.keep .nil)) ⟨.refl _,R9 rfl,trivial⟩ AG) ?_;rintro d H' n' ⟨rfl,rfl,rfl⟩;refine AN Ai kB AB AB AB AB AB AB ?_;exact AO rfl AA.out
theorem qD (z:Int)(h0:0<=z)(h1:z<1000000000):AI C0 70 [i64 z] (rR (z:Rat)):=by
 obtain⟨n,rfl⟩:∃n:Nat,z=(n:Int):=⟨z.toNat,by omega⟩
 refine Ah.walk w1 tL rfl λF=>?_
 have c1:=mQ n (by omega);have hr:FW (n:Int):=by
  unfold FW;rw[Dl];exact DB (JS (k:=1) (DB (show n<=999999999 by omega) (by decide +kernel))) (by decide)
 have c2:=TN (n:Int) hr;have e:str (sb (Lib.itoa (n:Int)))=rR ((n:Int):Rat):=by unfold rR;rw[Jh]
 rw[e]at c2;unfold rZ at c1 c2;refine AN Ai kB c1 c2 AB AB AB AB ?_;exact AO rfl AA.out
theorem tf (b:Bool)(l:List AF)(hl:l.length<=8)(hx:∀x∈l,x.okR):AI C0 86 [Ay b l] (.sl false 2 ((Df l).map Bg)):=by
 refine Ah.walk w1 sI rfl λF=>?_
 have el:(((l.map AF.D).length:Nat):Int)=(l.length:Int):=by rw[Ap]
 refine sZ 0 ?_;refine AD kB ?_;refine sZ 100 ?_;refine AD kB ?_;refine AC.seq ?_;refine sZ 200 ?_;refine AD kB ?_;refine AC.block ?_;refine AC.loop (α:=Nat×Nat) (λp=>⟨[(0,Ay b l),(3,.sl false 2 ((Df (l.take p.1)).map Bg)),(4,i64 (p.1:Int))],[],p.2⟩) (λp=>l.length-p.1)
  (λp=>p.1<=l.length/\(∀z∈Df (l.take p.1),rk z.2 (75*p.1))/\(Df (l.take p.1)).length<=15*p.1) (0,_) ⟨BT _,λz h=>by simp[Df]at h,by simp[Df]⟩ (AL (b:=⟨.refl _,.nil 2,.refl _,trivial⟩)) ?_
 rintro⟨i,n1⟩ F ⟨hi,hk,hlen⟩;dsimp only at hi hk hlen⊢;rcases BH i l.length with h2|h2
 rotate_left
 ·have e1:=Ci h2
  have:i=l.length:=by omega
  subst this;rw[DG];refine AN Pl (Ac e1 el) AB AB AB AB AB AB ?_;exact AO rfl AA.out
 have e1:=Cg h2;have wi:=Cm (i:=i) (by omega);obtain⟨x,hxi⟩:=CK h2;obtain⟨x1,x2,x3,x4⟩:=hx x (BA hxi);have hm:(l.map AF.D)[i]?=some (.agg [str (sb x.grain),i64 x.mass,.sl false 2 (x.shs.map As.D)]):=by rw[BG,hxi];rfl
 have es:(((x.shs.map As.D).length:Nat):Int)=(x.shs.length:Int):=by rw[Ap]
 have hsn:=RX l i hxi;obtain⟨Q,hQ⟩:∃Q,Df (l.take i)=Q:=⟨_,rfl⟩
 rw[hQ]at hk hlen hsn⊢;have cF:=qD x.mass (by omega) (by omega);refine AN Pl (Ac e1 el) AB AB AB AB AB AB ?_;refine AC.loop (α:=Nat×Nat) (λp=>⟨[(0,Ay b l),(3,.sl false 2 ((HG x p.1 Q).map Bg)),(4,i64 (i:Int)),(5,i64 (p.1:Int))],[],p.2⟩) (λp=>x.shs.length-p.1)
  (λp=>p.1<=x.shs.length/\(∀z∈HG x p.1 Q,rk z.2 (75*i+5*p.1))/\(HG x p.1 Q).length<=15*i+p.1) (0,_) ⟨BT _,hk,hlen⟩ AL ?_
 rintro⟨j,n2⟩ F ⟨hj,hk2,hlen2⟩;dsimp only at hj hk2 hlen2⊢;rcases BH j x.shs.length with h3|h3
 rotate_left
 ·have e2:=Ci h3
  have:j=x.shs.length:=by omega
  subst this;rw[<-hsn]at hk2 hlen2⊢;refine AN Pl (Bh e2 es wi kN) hm AB AB AB AB AB ?_;exact⟨(i+1,_),⟨h2,λz hz=>(hk2 z hz).mono (by dsimp only;omega),by dsimp only;omega⟩,by dsimp only;omega,AL⟩
 have e2:=Cg h3;have wj:=Cm (i:=j) (by omega);obtain⟨s,hsj⟩:=CK h3;have hms:(x.shs.map As.D)[j]?=some (.agg [str (sb s.lot),str (sb s.part)]):=by rw[BG,hsj];rfl
 have hso:=x4 s (BA hsj);have hsn2:=Ro x j Q hsj;have cM:=uC (CB s.part) ((x.mass:Int):Rat) 3 1 (OW hso.2.2 hso.2.1) (Sa x2 x3) (by decide);rw[<-ke hso]at cM;have hr4:rk (CB s.part*((x.mass:Int):Rat)) 4:=TT (OW hso.2.2 hso.2.1) (Sa x2 x3);obtain⟨r,hr⟩:∃r,CB s.part*((x.mass:Int):Rat)=r:=⟨_,rfl⟩
 rw[hr]at cM hr4 hsn2;obtain⟨Q2,hQ2⟩:∃Q2,HG x j Q=Q2:=⟨_,rfl⟩
 rw[hQ2]at hk2 hlen2 hsn2⊢;have cP:=uM Q2 s.lot r (75*i+5*j+4) (by omega) (λp hp=>(hk2 p hp).mono (by omega)) (hr4.mono (by omega)) (by omega);have hk3:=SU (lot:=s.lot) hr4 hk2;have hl3:=Wg (lot:=s.lot) (r:=r) (l:=Q2);rw[<-hsn2]at cP hk3 hl3;obtain⟨q2,hq2⟩:∃d,Q2.map Bg=d:=⟨_,rfl⟩
 have pq2:AA (.sl false 2 q2):=by rw[<-hq2];exact AG
 rw[hq2]at cP⊢;obtain⟨rd,hrd⟩:∃d,rR r=d:=⟨_,rfl⟩
 have prd:AA rd:=by rw[<-hrd];exact AG
 obtain⟨md,hmd⟩:∃d,rR ((x.mass:Int):Rat)=d:=⟨_,rfl⟩
 have pmd:AA md:=by rw[<-hmd];exact AG
 rw[hrd]at cP cM;rw[hmd]at cF cM;refine AN Pl (Bh e2 es wj kN) hm hms cF cM cP AB ?_;exact⟨(j+1,_),⟨h3,λz hz=>(hk3 z hz).mono (by dsimp only;omega),by dsimp only;omega⟩,by dsimp only;omega,AL⟩
open Go.Proofs Go.RowKit Go.Sort
abbrev GT (q:BW):Prop:=q.Pairwise λa b=>ltStr a.1 b.1=true
theorem GT.nd {q:BW}(h:GT q):(Cb q).Nodup:=by
 rw[Cb,List.Nodup,List.pairwise_map];exact h.imp λ{a b} h e=>by rw[e,swo_ltStr.irrefl]at h;cases h
theorem O9 {lot:List UInt8}{o v:Rat}:∀ {q:BW},FO lot q=some o->∃A B,q=A++(lot,o)::B/\Fu lot v q=A++(lot,v)::B
 | [],h=>by simp[FO]at h
 |p::l,h=>by
  unfold FO at h;unfold Fu;split at h
  ·rename_i e
   cases h;rw[AH e];exact⟨[],l,by rw[e];rfl,rfl⟩
  ·rename_i e
   rw[AE e];obtain⟨A,B,h1,h2⟩:=O9 (v:=v) h;exact⟨p::A,B,by rw[h1];rfl,by rw[h2];rfl⟩
theorem Rf {lot:List UInt8}{v:Rat}:∀ {q:BW},FO lot q=none->lot∉Cb q/\Fu lot v q=q++[(lot,v)]
 | [],_=>⟨by simp[Cb],rfl⟩
 |p::l,h=>by
  unfold FO at h;unfold Fu;split at h
  ·cases h
  ·rename_i e
   rw[AE e];obtain⟨h1,h2⟩:=Rf (v:=v) h;exact⟨λq=>by
    rcases A0.1 q with q|q
    ·exact e q
    ·exact h1 q,by rw[h2];rfl⟩
theorem Wh {lot:List UInt8}{r:Rat}:∀ {Q:BW},GT Q->(∃A o B,Q=A++(lot,o)::B/\DY lot r Q=A++(lot,o+r)::B)\/(lot∉Cb Q/\∃A B,Q=A++B/\DY lot r Q=A++(lot,r)::B)
 | [],_=>.inr ⟨by simp[Cb],[],[],rfl,rfl⟩
 |p::l,h=>by
  have hp:=Dm.1 h;unfold DY;split
  ·rename_i e
   rcases Wh (lot:=lot) (r:=r) hp.2 with⟨A,o,B,h1,h2⟩|⟨h0,A,B,h1,h2⟩
   ·exact .inl ⟨p::A,o,B,by rw[h1];rfl,by rw[h2];rfl⟩
   ·refine .inr ⟨λq=>?_,p::A,B,by rw[h1];rfl,by rw[h2];rfl⟩
    rcases A0.1 q with q|q
    ·rw[show p.1=lot from q.symm,swo_ltStr.irrefl]at e;cases e
    ·exact h0 q
  ·rename_i e
   split
   ·rename_i e2
    exact .inl ⟨[],p.2,l,by rw[<-e2];rfl,by rw[e2];rfl⟩
   ·rename_i e2
    refine .inr ⟨λq=>?_,[],p::l,rfl,rfl⟩;rcases A0.1 q with q|q
    ·exact e2 q.symm
    ·obtain⟨z,hz,rfl⟩:=List.mem_map.1 q
     exact e (hp.1 z hz)
theorem VV {lot:List UInt8}{r:Rat}:∀ {Q:BW},∀z∈DY lot r Q,z.1=lot\/z.1∈Cb Q
 | [],z,hz=>by
  unfold DY at hz;rw[List.mem_singleton]at hz;exact .inl (by rw[hz])
 |p::l,z,hz=>by
  unfold DY at hz;split at hz
  ·rcases A0.1 hz with rfl|hz
   ·exact .inr Cf
   ·rcases VV z hz with h|h
    ·exact .inl h
    ·exact .inr (Cn _ h)
  ·split at hz
   ·rcases A0.1 hz with rfl|hz
    ·exact .inr Cf
    ·exact .inr (Cn _ (List.mem_map_of_mem hz))
   ·rcases A0.1 hz with rfl|hz
    ·exact .inl rfl
    ·exact .inr (List.mem_map_of_mem hz)
theorem XB {lot:List UInt8}{r:Rat}:∀ {Q:BW},GT Q->GT (DY lot r Q)
 | [],_=>List.pairwise_singleton _ _
 |p::l,h=>by
  have hp:=Dm.1 h;unfold DY;split
  ·rename_i e
   refine Dm.2 ⟨λz hz=>?_,XB hp.2⟩;rcases VV z hz with h|h
   ·rw[h];exact e
   ·obtain⟨y,hy,h2⟩:=List.mem_map.1 h
    rw[<-h2];exact hp.1 y hy
  ·rename_i e
   split
   ·exact Dm.2 ⟨hp.1,hp.2⟩
   ·rename_i e2
    have e3:ltStr lot p.1=true:=by
     cases h9:ltStr lot p.1 with
     |true=>rfl
     |false=>exact Aa (U3 (by simpa using e) h9) e2
    refine Dm.2 ⟨λz hz=>?_,h⟩;rcases A0.1 hz with rfl|hz
    ·exact e3
    ·exact swo_ltStr.trans _ _ _ e3 (hp.1 z hz)
theorem lF {Q q:BW}(hs:GT Q)(hp:Q.Perm q)(lot:List UInt8)(r:Rat):(DY lot r Q).Perm (JA lot r q):=by
 have hnd:(Cb Q).Nodup:=hs.nd;unfold JA;rcases Wh (lot:=lot) (r:=r) hs with⟨A,o,B,h1,h2⟩|⟨h0,A,B,h1,h2⟩
 ·have hm:(lot,o)∈q:=hp.mem_iff.1 (by rw[h1];simp)
  have hqn:(Cb q).Nodup:=(hp.map _).nodup_iff.1 hnd;have hlk:=Rs hqn hm;dsimp only at hlk;rw[hlk];dsimp only;obtain⟨A2,B2,h3,h4⟩:=O9 (v:=r+o) hlk;rw[h2,h4];have p1:(A++(lot,o)::B).Perm ((lot,o)::(A++B)):=GO;have p2:(A2++(lot,o)::B2).Perm ((lot,o)::(A2++B2)):=GO;have p3:(A++B).Perm (A2++B2):=by
   rw[h1,h3]at hp;exact List.Perm.cons_inv (p1.symm.trans (hp.trans p2))
  rw[Rat.add_comm o r];exact GO.trans ((p3.cons _).trans GO.symm)
 ·have hn:FO lot q=none:=by
   cases h9:FO lot q with
   |none=>rfl
   |some o=>
    obtain⟨A2,B2,h3,-⟩:=O9 (v:=o) h9;exact Aa ((hp.map (·.1)).mem_iff.2 (by rw[h3];simp)) h0
  rw[hn];dsimp only;rw[(Rf (v:=r) hn).2,h2];rw[h1]at hp;exact GO.trans ((hp.cons _).trans (List.perm_append_singleton _ _).symm)
theorem XC {Q q:BW}(hs:GT Q)(hp:Q.Perm q)(x:AF):∀j,j<=x.shs.length->GT (HG x j Q)/\(HG x j Q).Perm (Fr x j q)
 | 0,_=>⟨hs,hp⟩
 |j+1,hj=>by
  obtain⟨s,hsj⟩:∃s,x.shs[j]?=some s:=⟨_,BF hj⟩
  obtain⟨h1,h2⟩:=XC hs hp x j (by omega);rw[Ro x j Q hsj,Mp x j q hsj];exact⟨XB h1,lF h1 h2 _ _⟩
theorem SC (l:List AF):∀i,i<=l.length->GT (Df (l.take i))/\(Df (l.take i)).Perm (Bw (l.take i))
 | 0,_=>⟨List.Pairwise.nil,.refl _⟩
 |i+1,hi=>by
  obtain⟨x,hx⟩:∃x,l[i]?=some x:=⟨_,BF hi⟩
  obtain⟨h1,h2⟩:=SC l i (by omega);rw[RX l i hx,Oq l i hx];exact XC h1 h2 x _ (Ae _)
theorem GT.weak {q:BW}(h:GT q):q.Pairwise λa b=>ltStr b.1 a.1=false:=h.imp λ{a b} h=>by
 cases h9:ltStr b.1 a.1 with
 |false=>rfl
 |true=>have:=swo_ltStr.trans _ _ _ h h9;rw[swo_ltStr.irrefl]at this;cases this
theorem M8 (l:List AF):Df l=Ec (Bw l):=by
 obtain⟨h1,h2⟩:=SC l l.length (Ae _);rw[DG]at h1 h2;exact RO ((h2.map _).nodup_iff.1 h1.nd) h2 (IB _) h1.weak (Pg _)
theorem io (l:List AF):GT (Df l):=by
 obtain⟨h1,-⟩:=SC l l.length (Ae _)
 rwa [DG]at h1
set_option maxRecDepth 20000
set_option maxHeartbeats 4000000
def Dd (g:List UInt8)(x:AF):AF:=⟨g,x.mass,x.shs⟩
def Gg (l:List AF)(g:List UInt8):Nat:=if B9 l≠0 then B9 l else if DO g=false then 8 else if l.length=0 then 13 else 0
def Hn (l:List AF)(g:List UInt8):Nat:=if Gg l g≠0 then Gg l g else GK (l.map (Dd g))
def Kw (l:List AF)(g:List UInt8):AF:=if Gg l g≠0 then⟨[],0,[]⟩else Jy (l.map (Dd g))
theorem kh (g:List UInt8){l:List AF}{i:Nat}{x:AF}(hx:l[i]?=some x):
  (((l.take i).map (Dd g)++l.drop i).map AF.D).set i (.agg [str (sb g),i64 x.mass,.sl false 2 (x.shs.map As.D)])=((l.take (i+1)).map (Dd g)++l.drop (i+1)).map AF.D:=by
 have hi:=(List.getElem?_eq_some_iff.1 hx).1;have hd:l.drop i=x::l.drop (i+1):=by
  rw[EU hi,(List.getElem?_eq_some_iff.1 hx).2]
 rw[Dx,hx,hd];simp only[C4,CJ,Option.toList_some,List.map_nil,Dk,ED,FZ];rw[OO _ _ (by simp;omega)]
 have:i-(((l.take i).map (Dd g)).map AF.D).length=0:=by simp;omega
 rw[this];rfl
theorem ar (b:Bool)(l:List AF)(g:List UInt8)(hl:l.length<=1000000)(hf:∀x∈l,x.lite)(hg:g.length<=100000):AI C0 11 [Ay b l,str (sb g)] (.tup [(Kw l g).D,i64 (Hn l g:Nat)]):=by
 refine Ah.walk w1 Z4 rfl λF=>?_
 have el:(((l.map AF.D).length:Nat):Int)=(l.length:Int):=by rw[Ap]
 have cP:=Js b l (by omega) λx hx=>(hf x hx).1
 have cN:=Pb g;have hN:Hn l g=if Gg l g≠0 then Gg l g else GK (l.map (Dd g)):=rfl
 have hL:Kw l g=if Gg l g≠0 then⟨[],0,[]⟩else Jy (l.map (Dd g)):=rfl
 have hE:Gg l g=if B9 l≠0 then B9 l else if DO g=false then 8 else if l.length=0 then 13 else 0:=rfl
 obtain⟨K,hK⟩:∃K,DO g=K:=⟨_,rfl⟩
 have cW1:=ME (!K) 8;have cW2:=ME ((l.length:Int)==0) 13;have cF:AI C0 54 [.sl true 1 [i64 (B9 l:Nat),i64 (if !K then 8 else 0),i64 (if(l.length:Int)==0 then 13 else 0)]] (i64 (Gg l g:Nat)):=by
  have:=So [(B9 l:Int),if !K then 8 else 0,if(l.length:Int)==0 then 13 else 0] (by simp)
  have he:Gb [(B9 l:Int),if !K then 8 else 0,if(l.length:Int)==0 then 13 else 0]=((Gg l g:Nat):Int):=by
   rw[hE,hK]
   by_cases h1:B9 l=0<;>cases K<;>by_cases h3:l.length=0<;>simp[Gb,h1,h3]
  rw[he]at this;exact this
 rw[hK]at cN;rcases Nat.decEq (Gg l g) 0 with g0|g0
 ·have e1:=Ee g0
  rw[AH g0]at hN hL;rw[hN,hL];refine AN Ai (Ac el e1) cP cN cW1 cW2 cF AB ?_;exact⟨_,NK _ _,AA.out,rfl⟩
 have e1:=Eu g0;rw[AE (λh=>h g0)]at hN hL;rw[hN,hL];have h0:l≠[]:=λh=>by
  rw[hE]at g0;split at g0
  ·rename_i h9;exact h9 g0
  ·split at g0
   ·cases g0
   ·split at g0
    ·cases g0
    ·rename_i h9;exact h9 (by rw[h];rfl)
 refine AN Ai (Ac el e1) cP cN cW1 cW2 cF AB ?_;refine Az.own _ (jE b l hl h0 _ _) ?_;rintro d H' n' ⟨gk,rfl,rfl,rfl⟩;refine AN Ai kB AB AB AB AB AB AB ?_;refine AC.loop (α:=Nat×Nat) (λp=>⟨[(1,str (sb g)),(4,.optr 0 0 3 0 0),(7,.osl 302 gk 3 0 l.length),(28,i64 (l.length:Int)),(29,i64 (p.1:Int))],[⟨302,gk,27,3,((l.take p.1).map (Dd g)++l.drop p.1).map AF.D⟩,⟨0,0,27,3,[.agg [.prim (.string ⟨#[]⟩),.prim (.int .i64 0),.prim (.slice none 0 0)]]⟩],p.2⟩) (λp=>l.length-p.1)
  (λp=>p.1<=l.length) (0,_) (BT _) AL ?_
 rintro⟨i,n⟩ F hi;dsimp only at hi⊢;rcases BH i l.length with h2|h2
 rotate_left
 ·have e1:=Ci h2
  have:i=l.length:=by omega
  subst this;rw[DG,KC,DV];have hlr:(l.map (Dd g)).length=l.length:=Ap ..;have hfr:∀x∈l.map (Dd g),x.lite:=λx hx=>by
   obtain⟨y,hy,rfl⟩:=List.mem_map.1 hx;obtain⟨⟨a1,a2,a3⟩,a4⟩:=hf y hy;exact⟨⟨hg,a2,a3⟩,a4⟩
  have cM:=uo false (l.map (Dd g)) (by rw[hlr];exact hl) hfr;obtain⟨R,hR⟩:∃R,l.map (Dd g)=R:=⟨_,rfl⟩
  rw[hR]at cM hlr⊢;obtain⟨Z,hZ⟩:∃Z:AF,Jy R=Z:=⟨_,rfl⟩
  rw[hZ]at cM⊢;refine AN Ai e1 AB AB AB AB AB AB ?_;have hfz:Fz [⟨302,gk,27,3,R.map AF.D⟩,⟨0,0,27,3,[.agg [.prim (.string ⟨#[]⟩),.prim (.int .i64 0),.prim (.slice none 0 0)]]⟩] [⟨0,0,27,3,[.agg [.prim (.string ⟨#[]⟩),.prim (.int .i64 0),.prim (.slice none 0 0)]]⟩] (.osl 302 gk 3 0 l.length) (Ay false R):=by
   have:=G6 (H:=[⟨302,gk,27,3,R.map AF.D⟩,⟨0,0,27,3,[.agg [.prim (.string ⟨#[]⟩),.prim (.int .i64 0),.prim (.slice none 0 0)]]⟩]) (Hf:=[⟨0,0,27,3,[.agg [.prim (.string ⟨#[]⟩),.prim (.int .i64 0),.prim (.slice none 0 0)]]⟩]) (k:=302) (g:=gk) (T:=27) (sz:=3) (l:=R.map AF.D) rfl
   rwa [Ap,hlr]at this
  refine Az.own _ (LA [⟨0,0,27,3,[.agg [.prim (.string ⟨#[]⟩),.prim (.int .i64 0),.prim (.slice none 0 0)]]⟩] cM (.drop (.keep .nil)) ⟨hfz,trivial⟩ AG) ?_;rintro d H2 n2 ⟨rfl,rfl,rfl⟩;unfold AF.D;refine AN Ai kB AB AB AB AB AB AB ?_;exact AO rfl AA.out
 have e1:=Cg h2;have wi:=Cm (i:=i) (by omega);obtain⟨x,hx⟩:=CK h2;obtain⟨es,hes⟩:∃es,((l.take i).map (Dd g)++l.drop i).map AF.D=es:=⟨_,rfl⟩
 rw[hes];have hm:es[i]?=some (.agg [str (sb x.grain),i64 x.mass,.sl false 2 (x.shs.map As.D)]):=by
  rw[<-hes,BG,E5 (by simp;omega)];simp only[Ap,Bf,E2 (IY h2),Nat.sub_self,Gr,DL,hx,IV];rfl
 refine sZ 600 ?_;refine AD e1 ?_;refine AC.seq ?_;refine AJ ?_;refine Ak ?_;refine AC.seq ?_;refine AC.block ?_;refine sZ 700 ?_;refine AD kB ?_;refine Am w1 800 (by kernel_rfl) ?_;refine AD (Au kN BM hm) ?_;have hset:es.set i (.agg [str (sb g),i64 x.mass,.sl false 2 (x.shs.map As.D)])=((l.take (i+1)).map (Dd g)++l.drop (i+1)).map AF.D:=by
  rw[<-hes];exact kh g hx
 rw[hset];refine AN Ai wi AB AB AB AB AB AB ?_;exact⟨(i+1,_),h2,by dsimp only;omega,AL⟩
theorem je {g:List UInt8}(hg:g.length<=100000){l:List AF}(hf:∀x∈l,x.lite):∀x∈l.map (Dd g),x.lite:=λx hx=>by
 obtain⟨y,hy,rfl⟩:=List.mem_map.1 hx;obtain⟨⟨a1,a2,a3⟩,a4⟩:=hf y hy;exact⟨⟨hg,a2,a3⟩,a4⟩
theorem lL {l:List AF}(h:GK l=0):Gp l=0/\(Bw l).length<=64/\∀p∈Ec (Bw l),CZ (p.2/(BN l:Rat))=false:=by
 unfold GK at h;split at h
 ·rename_i h9;exact Aa h h9
 ·split at h
  ·cases h
  ·split at h
   ·cases h
   ·rename_i h1 h2 h3
    refine⟨by omega,by omega,λp hp=>?_⟩
    have:=List.any_eq_false.1 ((Bool.not_eq_true _).mp h3) p hp
    exact(Bool.not_eq_true _).mp this
theorem Xe {l:List AF}(h:GK l=0):Jy l=⟨(CG l 0).grain,BN l,ER l⟩:=by
 unfold Jy;rw[AE (λq=>q h)]
theorem jr {l:List UInt8}(h:CR l=0):l.length<=100000:=by
 obtain⟨-,h2,h3,-⟩:=PH h;have h4:(Bu l).length<=(Bx l).length+1:=by
  unfold Bx Bi;split
  ·simp;omega
  ·omega
 unfold Bu BR at*;rw[Bf]at h4;rw[DQ]at h3;omega
theorem lM {l:List AF}(hf:∀x∈l,x.lite)(h:GK l=0):(ER l).length<=64/\∀s∈ER l,s.lot.length<=1000/\s.part.length<=100000/\CR s.part=0/\rk (CB s.part) 600:=by
 obtain⟨h1,h2,h3⟩:=lL h;obtain⟨g1,g2,g3,g4,g5⟩:=Xd h1;obtain⟨hx,hK⟩:=RY hf g3 g2;refine⟨by unfold ER;rw[Ap,(IB _).length_eq];exact h2,λs hs=>?_⟩;unfold ER at hs;obtain⟨p,hp,rfl⟩:=List.mem_map.1 hs;have hc:=js (h3 p hp);refine⟨hK.all p.1 (List.mem_map_of_mem ((IB _).mem_iff.1 hp)),?_,hc,L5 hc⟩;exact jr hc
def FP (l:List AF)(left:Int):AF:=⟨(CG l 0).grain,BN l-left,ER (l.map (Dd (CG l 0).grain))⟩
def IS (l:List AF)(left:Int):Nat:=if B9 l≠0 then B9 l else if left<1 then 3 else if BN l<left then 13 else if D8 l=false then 16 else if Hn l (CG l 0).grain≠0 then Hn l (CG l 0).grain
 else if BN l=left then 0 else Gd (Bw [FP l left])
def QY (l:List AF)(left:Int):AF:=if IS l left≠0 then⟨[],0,[]⟩else⟨(CG l 0).grain,left,ER (l.map (Dd (CG l 0).grain))⟩
def QX (l:List AF)(left:Int):BW:=if IS l left≠0 then[]else if BN l=left then[]else Hk (Bw [FP l left])
theorem M7 {H:Hp}{a a' b b' c:D}(h1:Fz H [] a a')(h2:Fz H [] b b'):Fz H [] (.tup [a,b,c]) (.tup [a',b',c]):=.tup rfl λi d d' h h'=>by
 match i with
 | 0=>cases h;cases h';exact h1
 | 1=>cases h;cases h';exact h2
 | 2=>cases h;cases h';exact .refl _
 |n+3=>cases h
theorem QL (H:Hp):Fz H [] (.agg [str ⟨#[]⟩,i64 0,CD]) (⟨[],0,[]⟩:AF).D:=.agg rfl λi d d' h h'=>by
 match i with
 | 0=>cases h;cases h';exact .refl _
 | 1=>cases h;cases h';exact .refl _
 | 2=>cases h;cases h';exact .nil 2
 |n+3=>cases h
theorem kU (b:Bool)(l:List AF)(left:Int)(hl:l.length<=1000000)(hf:∀x∈l,x.lite):AI C0 12 [Ay b l,i64 left] (.tup [(QY l left).D,.sl false 2 ((QX l left).map Bg),i64 (IS l left:Nat)]):=by
 refine Ah.walk w1 Z5 rfl λF=>?_
 have cP:=Js b l (by omega) λx hx=>(hf x hx).1
 have hE:IS l left=if B9 l≠0 then B9 l else if left<1 then 3 else if BN l<left then 13 else if D8 l=false then 16 else if Hn l (CG l 0).grain≠0 then Hn l (CG l 0).grain
  else if BN l=left then 0 else Gd (Bw [FP l left]):=rfl
 have hX:QY l left=if IS l left≠0 then⟨[],0,[]⟩else⟨(CG l 0).grain,left,ER (l.map (Dd (CG l 0).grain))⟩:=rfl
 have hL:QX l left=if IS l left≠0 then[]else if BN l=left then[]else Hk (Bw [FP l left]):=rfl
 have cW1:=ME (decide (left<1)) 3;obtain⟨E0,hE0⟩:∃e:Nat,(if B9 l≠0 then B9 l else if left<1 then 3 else 0)=e:=⟨_,rfl⟩
 have cF0:AI C0 54 [.sl true 1 [i64 (B9 l:Nat),i64 (if decide (left<1)then 3 else 0)]] (i64 (E0:Nat)):=by
  have:=So [(B9 l:Int),if decide (left<1)then 3 else 0] (by simp)
  have he:Gb [(B9 l:Int),if decide (left<1)then 3 else 0]=((E0:Nat):Int):=by
   rw[<-hE0]
   by_cases h1:B9 l=0<;>by_cases h2:left<1<;>simp[Gb,h1,h2]
  rw[he]at this;exact this
 rcases Nat.decEq E0 0 with g0|g0
 ·have e1:=Ee g0
  have hE2:IS l left=E0:=by
   rw[hE,<-hE0];split
   ·rfl
   ·rename_i h1
    rw[<-hE0,AE h1]at g0;split
    ·rfl
    ·rename_i h2;exact Aa (AE h2) g0
  rw[hE2]at hX hL⊢;rw[AH g0]at hX hL;rw[hX,hL];refine AN Ai e1 cP cW1 cF0 AB AB AB ?_;exact⟨_,M7 (QL _) (.nil 2),AA.out,rfl⟩
 have e1:=Eu g0;have hp0:B9 l=0:=by
  apply Cq;intro h;rw[AH h]at hE0;omega
 have hl1:¬left<1:=λh=>by
  rw[AE (λq=>q hp0),AH h]at hE0;omega
 rw[AE (λh=>h hp0),AE hl1]at hE;obtain⟨p1,p2,p3⟩:=QJ hp0;have hsm:NZ l:=⟨by omega,λx hx=>by have:=Lb (p2 x hx);omega⟩
 have cT:=Sp b l hsm;have cG:=gF b l hl;have cW2:=ME (decide (BN l<left)) 13;obtain⟨E1,hE1⟩:∃e:Nat,(if BN l<left then 13 else if D8 l=false then 16 else 0)=e:=⟨_,rfl⟩
 have cF1:AI C0 54 [.sl true 1 [i64 (if decide (BN l<left)then 13 else 0),i64 (if D8 l then 0 else 16:Nat)]] (i64 (E1:Nat)):=by
  have:=So [if decide (BN l<left)then 13 else 0,((if D8 l then 0 else 16:Nat):Int)] (by simp)
  have he:Gb [if decide (BN l<left)then 13 else 0,((if D8 l then 0 else 16:Nat):Int)]=((E1:Nat):Int):=by
   rw[<-hE1]
   by_cases h1:BN l<left<;>cases D8 l<;>simp[Gb,h1]
  rw[he]at this;exact this
 rcases Nat.decEq E1 0 with g1|g1
 ·have e2:=Ee g1
  have hE2:IS l left=E1:=by
   rw[hE,<-hE1];split
   ·rfl
   ·rename_i h1
    rw[<-hE1,AE h1]at g1;split
    ·rfl
    ·rename_i h2;exact Aa (AE h2) g1
  rw[hE2]at hX hL⊢;rw[AH g1]at hX hL;rw[hX,hL];refine AN Ai e1 cP cW1 cF0 AB AB AB ?_;refine AN Ai e2 cT cW2 cG cF1 AB AB ?_;exact⟨_,M7 (QL _) (.nil 2),AA.out,rfl⟩
 have e2:=Eu g1;have hs1:¬BN l<left:=λh=>by
  rw[AH h]at hE1;omega
 have hs2:¬D8 l=false:=λh=>by
  rw[AE hs1,AH h]at hE1;omega
 rw[AE hs1,AE hs2]at hE;have hl0:0<l.length:=by
  rcases l with _|⟨y,l⟩
  ·exfalso;apply hs1
   show(0:Int)<left;omega
  ·simp
 obtain⟨x0,hx0⟩:∃x,l[0]?=some x:=⟨_,BF hl0⟩
 have hm0:(l.map AF.D)[0]?=some (.agg [str (sb x0.grain),i64 x0.mass,.sl false 2 (x0.shs.map As.D)]):=by rw[BG,hx0];rfl
 have hgr:(CG l 0).grain=x0.grain:=by rw[FM hx0]
 have hg9:=(hf x0 (BA hx0)).1.1;have cPo:=ar b l x0.grain hl hf hg9;rw[hgr]at hE hX;have hlt:FP l left=⟨x0.grain,BN l-left,ER (l.map (Dd x0.grain))⟩:=by unfold FP;rw[hgr]
 rw[hlt]at hE hL;obtain⟨PN,hPN⟩:∃n,Hn l x0.grain=n:=⟨_,rfl⟩
 rw[hPN]at hE cPo;rcases Nat.decEq PN 0 with g2|g2
 ·have e3:=Ee g2
  rw[AH g2]at hE;rw[hE]at hX hL⊢;rw[AH g2]at hX hL;rw[hX,hL];obtain⟨Z,hZ⟩:∃Z,Kw l x0.grain=Z:=⟨_,rfl⟩
  rw[hZ]at cPo;unfold AF.D CM at cPo;obtain⟨ZS,hZS⟩:∃d,List.map As.D Z.shs=d:=⟨_,rfl⟩
  have pZS:AA (.sl false 2 ZS):=by rw[<-hZS];exact AG
  rw[hZS]at cPo;refine AN Ai e1 cP cW1 cF0 AB AB AB ?_;refine AN Ai e2 cT cW2 cG cF1 AB AB ?_;refine AN Ai e3 hm0 cPo AB AB AB AB ?_;exact⟨_,M7 (QL _) (.nil 2),AA.out,rfl⟩
 have e3:=Eu g2;rw[AE (λh=>h g2)]at hE;have hpe:Gg l x0.grain=0:=by
  apply Cq;intro h
  have:Hn l x0.grain=Gg l x0.grain:=AH h
  omega
 have hmn:GK (l.map (Dd x0.grain))=0:=by
  have:Hn l x0.grain=GK (l.map (Dd x0.grain)):=AE (λh=>h hpe)
  omega
 have hpl:Kw l x0.grain=⟨x0.grain,BN l,ER (l.map (Dd x0.grain))⟩:=by
  unfold Kw;rw[AE (λh=>h hpe),Xe hmn]
  congr 1
  ·rw[FM (l:=l.map (Dd x0.grain)) (x:=Dd x0.grain x0) (by rw[BG,hx0];rfl)];rfl
  ·unfold BN;rw[List.map_map];rfl
 obtain⟨m1,m2⟩:=lM (je hg9 hf) hmn;rw[hpl]at cPo;clear hpl hmn hpe hPN hlt;obtain⟨S,hS⟩:∃S,ER (l.map (Dd x0.grain))=S:=⟨_,rfl⟩
 rw[hS]at cPo hE hX hL m1 m2;have ws:IntKind.i64.wrap (BN l-left)=BN l-left:=wI (by omega) (by omega);unfold AF.D at cPo;dsimp only at cPo;unfold CM at cPo;obtain⟨SD,hSD⟩:∃d,List.map As.D S=d:=⟨_,rfl⟩
 have pSD:AA (.sl false 2 SD):=by rw[<-hSD];exact AG
 rw[hSD]at cPo
 by_cases hz:BN l=left
 ·have e4:((BN l-left)==0)=true:=by rw[Dp];omega
  rw[AH hz]at hE;rw[hE]at hX hL⊢;rw[AE (λh=>h rfl)]at hX hL;rw[AH hz]at hL;rw[hX,hL];unfold AF.D;dsimp only;unfold CM;rw[hSD];refine AN Ai e1 cP cW1 cF0 AB AB AB ?_;refine AN Ai e2 cT cW2 cG cF1 AB AB ?_;refine AN Ai (Au e3 ws e4) hm0 cPo AB AB AB AB ?_;exact⟨_,M7 (.refl _) (.nil 2),AA.out,rfl⟩
 have e4:((BN l-left)==0)=false:=by rw[B3];omega
 rw[AE hz]at hE hL;have cO:=TK ⟨x0.grain,left,S⟩ (BN l-left) (by dsimp only;omega);obtain⟨Y,hY⟩:∃Y:AF,(⟨x0.grain,BN l-left,S⟩:AF)=Y:=⟨_,rfl⟩
 rw[hY]at cO hE hL;have hYo:∀x∈[Y],x.okW 602:=λx hx=>by
  rw[List.mem_singleton]at hx;rw[hx,<-hY];exact⟨m1,by unfold Sm;dsimp only;omega,λs hs=>⟨by have:=(m2 s hs).1;omega,(m2 s hs).2.1,(m2 s hs).2.2.1,(m2 s hs).2.2.2⟩⟩
 have cLo:=ZG 602 true [Y] (by simp) hYo (by omega) (by simp);have hKY:Gc (λk=>k.length<=1000) (64*[Y].length) (Bw [Y]):=RW λx hx=>by
  rw[List.mem_singleton]at hx;rw[hx,<-hY];exact⟨m1,λs hs=>(m2 s hs).1⟩
 change Ah C0 62 [.sl true 3 [.agg [str (sb Y.grain),i64 Y.mass,.sl false 2 (Y.shs.map As.D)]]] _ at cLo;change AI C0 63 [.agg [str (sb x0.grain),i64 left,.sl false 2 (S.map As.D)],i64 (BN l-left)] (.agg [str (sb Y.grain),i64 Y.mass,.sl false 2 (Y.shs.map As.D)])at cO;obtain⟨YS,hYS⟩:∃d,Y.shs.map As.D=d:=⟨_,rfl⟩
 have pYS:AA (.sl false 2 YS):=by rw[<-hYS];exact AG
 rw[hSD,hYS]at cO;rw[hYS]at cLo;obtain⟨q,hq⟩:∃q,Bw [Y]=q:=⟨_,rfl⟩
 rw[hq]at cLo hKY hE hL;refine AN Ai e1 cP cW1 cF0 AB AB AB ?_;refine AN Ai e2 cT cW2 cG cF1 AB AB ?_;refine AN Ai (Au e3 ws e4) hm0 cPo cO AB AB AB ?_;refine Az.prop _ _ (EK.refl _) cLo AG ?_;rintro d ⟨m,rfl,hQ⟩;have cA:=Ws _ (by simp) q m hQ (BO hKY.len (by simp)) hKY.nd;have pM:AA (mapD m):=⟨hQ.mapD⟩
 unfold Iw at cA;obtain⟨M,hM⟩:∃M,mapD m=M:=⟨_,rfl⟩
 rw[hM]at cA pM⊢;rcases Nat.decEq (Gd q) 0 with g4|g4
 ·have e5:=Ee g4
  rw[hE]at hX hL⊢;rw[AH g4]at hX hL;rw[hX,hL];refine AN Ai e5 cA AB AB AB AB AB ?_;exact⟨_,M7 (QL _) (.nil 2),AA.out,rfl⟩
 have e5:=Eu g4;rw[hE]at hX hL⊢;rw[AE (λh=>h g4)]at hX hL;rw[hX,hL];unfold AF.D;dsimp only;unfold CM;rw[hSD];refine AN Ai e5 cA AB AB AB AB AB ?_;exact⟨_,.refl _,AA.out,by rw[g4];rfl⟩
def AF.modr (x:AF):Prop:=(x.shs.length<=15\/64<x.shs.length)/\x.lite
theorem jW {x:AF}(h:x.modr)(hc:CU x=0):x.okR:=by
 obtain⟨a,b,c,d⟩:=Lb hc;obtain⟨e,-⟩:=Sq h.2 hc;refine⟨?_,b,c,e.2.2⟩
 have:=e.1
 rcases h.1 with q|q<;>omega
theorem ae (b:Bool)(l:List AF)(hs:NZ l):AI C0 19 [Ay b l] (i64 (BN l)):=by
 refine Ah.walk w1 sj rfl λF=>?_
 have el:(((l.map AF.D).length:Nat):Int)=(l.length:Int):=by rw[Ap]
 refine AN Ai el AB AB AB AB AB AB ?_;refine AC.loop (α:=Nat×Nat) (λp=>⟨[(0,Ay b l),(3,i64 (BN (l.take p.1))),(4,i64 (p.1:Int))],[],p.2⟩) (λp=>l.length-p.1) (λp=>p.1<=l.length) (0,_) (BT _) AL ?_;rintro⟨i,m⟩ F hi;dsimp only at hi⊢;rcases BH i l.length with h2|h2
 rotate_left
 ·have e1:=Ci h2
  have:i=l.length:=by omega
  subst this;rw[DG];refine AN Ai (Ac e1 el) AB AB AB AB AB AB ?_;exact AO rfl AA.out
 have e1:=Cg h2;have wi:=Cm (i:=i) (by have:=hs.1;omega);obtain⟨x,hx⟩:=CK h2;have hm:(l.map AF.D)[i]?=some (.agg [str (sb x.grain),i64 x.mass,.sl false 2 (x.shs.map As.D)]):=by rw[BG,hx];rfl
 have hsum:=Rl hx;have hs1:=Sg (l:=l.take i) λy hy=>hs.2 y (H4 hy)
 have hs2:=hs.2 x (BA hx);have hs3:=hs.1;rw[Bf]at hs1;have ws:IntKind.i64.wrap (BN (l.take i)+x.mass)=BN (l.take i)+x.mass:=wI (by omega) (by omega);refine AN Ai (C5 e1 el wi ws kN) hm AB AB AB AB AB ?_;exact⟨(i+1,_),h2,by dsimp only;omega,by(dsimp only;rw[hsum];exact AL)⟩
theorem uL (b:Bool)(l:List AF)(hl:l.length<=1000000)(hf:∀x∈l,x.modr):AI C0 14 [Ay b l] (i64 (B9 l:Nat)):=by
 refine Ah.walk w1 sf rfl λF=>?_
 have el:(((l.map AF.D).length:Nat):Int)=(l.length:Int):=by rw[Ap]
 have hC:B9 l=if 64<l.length then 5 else if DX (λi=>CU (CG l i)) l.length≠0 then DX (λi=>CU (CG l i)) l.length else if BN l>999999999 then 4 else 0:=rfl
 by_cases h64:64<l.length
 ·rw[AH h64]at hC
  rw[hC];have q2:decide ((l.length:Int)>64)=true:=AZ (by omega);refine AN Ai (Ac el q2) AB AB AB AB AB AB ?_;exact AO rfl AA.out
 rw[AE h64]at hC;have q2:decide ((l.length:Int)>64)=false:=Ag (by omega);refine AN Ai (Ac el q2) AB AB AB AB AB AB ?_;refine AC.loop (α:=Nat×Nat) (λp=>⟨[(0,Ay b l),(3,i64 (p.1:Int))],[],p.2⟩) (λp=>l.length-p.1) (λp=>p.1<=l.length/\∀j,j<p.1->CU (CG l j)=0) (0,_) ⟨BT _,λj h=>Aa h (HN j)⟩ AL ?_;rintro⟨i,m⟩ F ⟨hi,hz⟩;dsimp only at hi hz⊢;rcases BH i l.length with h2|h2
 rotate_left
 ·have e1:=Ci h2
  have:i=l.length:=by omega
  subst this;rw[AE (λh=>h (LV (f:=λi=>CU (CG l i)) hz))]at hC;have cT:=ae b l (Ru h64 hz)
  by_cases h9:BN l>999999999
  ·have e9:decide (BN l>999999999)=true:=AZ h9
   rw[AH h9]at hC;rw[hC];refine AN Ai (Au e1 el e9) cT AB AB AB AB AB ?_;exact AO rfl AA.out
  ·have e9:decide (BN l>999999999)=false:=Ag h9
   rw[AE h9]at hC;rw[hC];refine AN Ai (Au e1 el e9) cT AB AB AB AB AB ?_;exact AO rfl AA.out
 have e1:=Cg h2;have wi:=Cm (i:=i) (by omega);obtain⟨x,hx⟩:=CK h2;have hm:(l.map AF.D)[i]?=some (.agg [str (sb x.grain),i64 x.mass,.sl false 2 (x.shs.map As.D)]):=by rw[BG,hx];rfl
 have hxm:=hf x (BA hx);have cL:=uB x hxm.1 hxm.2.1;unfold AF.D at cL;rcases Nat.decEq (CU x) 0 with hc0|hc0
 ·have e3:=Ee hc0
  have:=NJ (f:=λi=>CU (CG l i)) hz h2 (by rw[FM hx];exact hc0)
  rw[FM hx]at this;rw[this,AH hc0]at hC;rw[hC];refine AN Ai (Bh e1 el e3 kN) hm cL AB AB AB AB ?_;exact AO rfl AA.out
 have e3:=Eu hc0;refine AN Ai (C5 e1 el e3 wi kN) hm cL AB AB AB AB ?_;exact⟨(i+1,_),⟨h2,λj hj=>by
  rcases Nat.lt_succ_iff_lt_or_eq.1 hj with q|q
  ·exact hz j q
  ·rw[q,FM hx];exact hc0⟩,by dsimp only;omega,AL⟩
theorem XD {x:AF}(hx:x.okR){Q:BW}{k:Nat}(h:∀p∈Q,rk p.2 k):∀j,j<=x.shs.length->∀p∈HG x j Q,rk p.2 (k+5*j)
 | 0,_,p,hp=>h p hp
 |j+1,hj,p,hp=>by
  obtain⟨s,hsj⟩:∃s,x.shs[j]?=some s:=⟨_,BF hj⟩
  rw[Ro x j Q hsj]at hp;have hso:=hx.2.2.2 s (BA hsj);have hr4:rk (CB s.part*((x.mass:Int):Rat)) 4:=TT (OW hso.2.2 hso.2.1) (Sa hx.2.1 hx.2.2.1);exact(SU hr4 (XD hx h j (by omega)) p hp).mono (by omega)
theorem Wl {l:List AF}(hx:∀x∈l,x.okR):∀i,i<=l.length->∀p∈Df (l.take i),rk p.2 (75*i)
 | 0,_,p,hp=>by simp[Df]at hp
 |i+1,hi,p,hp=>by
  obtain⟨x,hxi⟩:∃x,l[i]?=some x:=⟨_,BF hi⟩
  rw[RX l i hxi]at hp;have hxo:=hx x (BA hxi);refine(XD hxo (Wl hx i (by omega)) _ (Ae _) p hp).mono ?_
  have:=hxo.1
  omega
theorem kn (b:Bool)(q:BW)(k:Nat)(hk:∀p∈q,rk p.2 k)(hk2:k<=10000)(hl:q.length<=100000):AI C0 39 [.sl b 2 (q.map Bg)] (i64 (if q.any (λp=>CZ p.2)then 4 else 0)):=by
 refine Ah.walk w1 sr rfl λF=>?_
 have el:(((q.map Bg).length:Nat):Int)=(q.length:Int):=by rw[Ap]
 refine AN Ai kB AB AB AB AB AB AB ?_;refine AC.loop (α:=Nat×Nat) (λp=>⟨[(0,.sl b 2 (q.map Bg)),(3,i64 (p.1:Int))],[],p.2⟩) (λp=>q.length-p.1) (λp=>p.1<=q.length/\∀z∈q.take p.1,CZ z.2=false) (0,_) ⟨BT _,λz h=>by simp at h⟩ AL ?_;rintro⟨i,m⟩ F ⟨hi,hB⟩;dsimp only at hi hB⊢;rcases BH i q.length with h2|h2
 rotate_left
 ·have e1:=Ci h2
  have:i=q.length:=by omega
  subst this;rw[DG]at hB;have hany:q.any (λp=>CZ p.2)=false:=by
   rw[List.any_eq_false];intro p hp;rw[hB p hp];decide
  rw[AE (by rw[hany];decide)];refine AN Ai (Ac e1 el) AB AB AB AB AB AB ?_;exact AO rfl AA.out
 have e1:=Cg h2;have wi:=Cm (i:=i) (by omega);obtain⟨p,hp⟩:=CK h2;have hm:(q.map Bg)[i]?=some (.agg [str (sb p.1),str (sb (Ao p.2))]):=by rw[BG,hp];rfl
 have cG:AI C0 87 [str (sb (Ao p.2))] (i64 (if CZ p.2 then 4 else 0)):=qz _ _ (hk p (BA hp)) hk2;obtain⟨bg,hbg⟩:∃q,CZ p.2=q:=⟨_,rfl⟩
 rw[hbg]at cG;have n4:((4:Int) != 0)=true:=rfl;have n0:((0:Int) != 0)=false:=rfl;cases bg
 ·rw[AE (by decide)]at cG
  refine AN Ai (C5 e1 el n0 wi kN) hm cG AB AB AB AB ?_;exact⟨(i+1,_),⟨h2,λw hw=>by
   dsimp only at hw;rw[Dx,hp]at hw;rcases List.mem_append.1 hw with h|h
   ·exact hB w h
   ·have:w=p:=by simpa using h
    rw[this];exact hbg⟩,by dsimp only;omega,AL⟩
 ·rw[AH rfl]at cG
  have hany:q.any (λp=>CZ p.2)=true:=by
   rw[List.any_eq_true];exact⟨p,BA hp,hbg⟩
  rw[AH hany];refine AN Ai (Bh e1 el n4 kN) hm cG AB AB AB AB ?_;exact AO rfl AA.out
def Gf (x:AF):BW:=x.shs.map λs=>(s.lot,CB s.part*(x.mass:Rat))
theorem Ve {x:AF}(hn:(x.shs.map (·.lot)).Nodup):∀j,j<=x.shs.length->Fr x j []=(Gf x).take j
 | 0,_=>rfl
 |j+1,hj=>by
  obtain⟨s,hs⟩:∃s,x.shs[j]?=some s:=⟨_,BF hj⟩
  rw[Mp x j [] hs,Ve hn j (by omega)];have hm:(Gf x)[j]?=some (s.lot,CB s.part*(x.mass:Rat)):=by unfold Gf;rw[BG,hs];rfl
  have hnot:s.lot∉Cb ((Gf x).take j):=λh=>by
   obtain⟨z,hz,h2⟩:=List.mem_map.1 h;obtain⟨i,hi⟩:=List.mem_iff_getElem?.1 hz;have hij:i<j:=by
    have:=(List.getElem?_eq_some_iff.1 hi).1
    rw[Bf]at this;omega
   rw[ES,AH hij]at hi;unfold Gf at hi;rw[BG]at hi;obtain⟨t,ht,rfl⟩:=Option.map_eq_some_iff.1 hi;have e1:(x.shs.map (·.lot))[i]?=some t.lot:=by rw[BG,ht];rfl
   have e2:(x.shs.map (·.lot))[j]?=some s.lot:=by rw[BG,hs];rfl
   have a1:=List.getElem?_eq_some_iff.1 e1;have a2:=List.getElem?_eq_some_iff.1 e2
   have:i=j:=(List.getElem_inj (h₀:=a1.1) (h₁:=a2.1) hn).1 (by rw[a1.2,a2.2];exact h2)
   omega
  have hl:FO s.lot ((Gf x).take j)=none:=by
   cases h9:FO s.lot ((Gf x).take j)with
   |none=>rfl
   |some o=>
    obtain⟨A,B,h3,-⟩:=O9 (v:=o) h9;exact Aa (by rw[h3];simp[Cb]) hnot
  unfold JA;rw[hl];dsimp only;rw[(Rf (v:=CB s.part*(x.mass:Rat)) hl).2,Dx,hm];rfl
theorem gX {x:AF}(hn:(x.shs.map (·.lot)).Nodup):Bw [x]=Gf x:=by
 show Fr x x.shs.length []=_;rw[Ve hn _ (Ae _),B1];unfold Gf;rw[Ap];exact Ae _
theorem mA {q:BW}(h:GT q):Ec q=q:=(RO h.nd (.refl _) (IB _) h.weak (Pg _)).symm
theorem lO (l:List AF):(ER l).Pairwise λa b=>ltStr a.lot b.lot=true:=by
 unfold ER;rw[List.pairwise_map,<-M8];exact io l
theorem SX (l:List AF)(left:Int):Bw [FP l left]=Gf (FP l left)/\Ec (Bw [FP l left])=Gf (FP l left):=by
 have hp:(FP l left).shs.Pairwise λa b=>ltStr a.lot b.lot=true:=lO _
 have h1:=gX (x:=FP l left) (by
  rw[List.Nodup,List.pairwise_map];exact hp.imp λ{a b} h e=>by rw[e,swo_ltStr.irrefl]at h;cases h)
 refine⟨h1,?_⟩;rw[h1];refine mA ?_;unfold Gf;show List.Pairwise _ _;rw[List.pairwise_map];exact hp
theorem rJ (b:Bool)(l:List AF)(hl:l.length<=9223372036854775807)(hs:∀x∈l,x.shs.length<=9223372036854775807):AI C0 9 [Ay b l] (Aq (IK l)):=by
 refine Ah.walk w1 u9 rfl λF=>?_
 have el:(((l.map AF.D).length:Nat):Int)=(l.length:Int):=by rw[Ap]
 refine AN Ai el AB AB AB AB AB AB ?_;refine AC.loop (α:=Nat×Nat) (λp=>⟨[(0,Ay b l),(7,Ay b l),(8,i64 (l.length:Int)),(9,i64 (p.1:Int))],[],p.2⟩) (λp=>l.length-p.1) (λq=>q.1<=l.length/\(l.take q.1).all AF.shB=true) (0,_) ⟨BT _,rfl⟩ AL ?_;rintro⟨i,n⟩ F ⟨hi,ha⟩;dsimp only at hi ha⊢;rcases BH i l.length with h2|h2
 rotate_left
 ·have e1:=Ci h2
  have:i=l.length:=by omega
  subst this;rw[DG]at ha;obtain⟨q1,h1⟩:∃q,decide ((l.length:Int)<=8)=q:=⟨_,rfl⟩
  obtain⟨q2,h2'⟩:∃q,decide ((l.length:Int)>64)=q:=⟨_,rfl⟩
  obtain⟨q3,h3⟩:∃q,decide ((l.length:Int)<=80)=q:=⟨_,rfl⟩
  have hb:IK l=(q1||(q2&&q3)):=by
   unfold IK;rw[ha,<-h1,<-h2',<-h3,IU]
   congr 1
   ·exact Co.2 (by omega)
   ·congr 1
    ·exact Co.2 (by omega)
    ·exact Co.2 (by omega)
  rw[hb];cases q1<;>cases q2<;>cases q3
  all_goals
   refine AN Ai (CP e1 el h1 h2' h3 kT kF) AB AB AB AB AB AB ?_;exact AO rfl AA.out
 have e1:=Cg h2;have wi:=Cm (i:=i) (by omega);obtain⟨x,hx⟩:=CK h2;have hm:(l.map AF.D)[i]?=some (.agg [str (sb x.grain),i64 x.mass,.sl false 2 (x.shs.map As.D)]):=by rw[BG,hx];rfl
 have hsx:=hs x (BA hx);have ex:(((x.shs.map As.D).length:Nat):Int)=(x.shs.length:Int):=by rw[Ap]
 have hsz:=CL x.grain;obtain⟨p1,h1⟩:∃q,decide ((x.grain.length:Int)>100)=q:=⟨_,rfl⟩
 obtain⟨p2,h2'⟩:∃q,decide ((x.shs.length:Int)>8)=q:=⟨_,rfl⟩
 obtain⟨p3,h3⟩:∃q,decide ((x.shs.length:Int)<=64)=q:=⟨_,rfl⟩
 obtain⟨p4,h4⟩:∃q,decide ((x.shs.length:Int)>80)=q:=⟨_,rfl⟩
 have hb:x.shB=(!p1&&(!p2 || !p3) && !p4&&x.shs.all As.shB):=by
  unfold AF.shB;rw[<-h1,<-h2',<-h3,<-h4]
  congr 1
  congr 1
  ·congr 1
   ·rw[<-decide_not];exact Co.2 (by omega)
   ·congr 1
    ·rw[<-decide_not];exact Co.2 (by omega)
    ·rw[<-decide_not];exact Co.2 (by omega)
  ·rw[<-decide_not];exact Co.2 (by omega)
 by_cases g:(!p1&&(!p2 || !p3) && !p4)=true
 rotate_left
 ·have hbf:x.shB=false:=by rw[hb];simp only[Bool.not_eq_true]at g;rw[g];rfl
  have hsf:IK l=false:=by unfold IK;rw[SS hx hbf];rfl
  rw[hsf];cases p1<;>cases p2<;>cases p3<;>cases p4
  all_goals first
   |exact Aa rfl g
   |skip
  all_goals
   refine AN Ai (CP e1 hsz ex h1 h2' h3 (Bh h4 kN kT kF)) hm AB AB AB AB AB ?_;exact AO rfl AA.out
 rw[g,IU]at hb;cases p1<;>cases p2<;>cases p3<;>cases p4
 all_goals first
  |exact Aa g (by decide)
  |skip
 all_goals
  refine AN Ai (CP e1 hsz ex h1 h2' h3 (Bh h4 kN kT kF)) hm AB AB AB AB AB ?_;refine AC.loop (α:=Nat×Nat) (λp=>⟨[(0,Ay b l),(7,Ay b l),(8,i64 (l.length:Int)),(9,i64 (i:Int)),(36,.sl false 2 (x.shs.map As.D)),(37,i64 (x.shs.length:Int)),(38,i64 (p.1:Int))],[],p.2⟩) (λp=>x.shs.length-p.1) (λq=>q.1<=x.shs.length/\(x.shs.take q.1).all As.shB=true) (0,_) ⟨BT _,rfl⟩ AL ?_;clear h1 h2' h3 h4 g;rintro⟨j,n⟩ F ⟨hj,haj⟩;dsimp only at hj haj⊢;rcases BH j x.shs.length with g2|g2
  ·have e3:=Cg g2
   have wj:=Cm (i:=j) (by omega);obtain⟨y,hy⟩:=CK g2;have hmy:(x.shs.map As.D)[j]?=some (.agg [str (sb y.lot),str (sb y.part)]):=by rw[BG,hy];rfl
   have hs1:=CL y.lot;have hs2:=CL y.part;obtain⟨r1,k1⟩:∃q,decide ((y.lot.length:Int)>100)=q:=⟨_,rfl⟩
   obtain⟨r2,k2⟩:∃q,decide ((y.part.length:Int)>14)=q:=⟨_,rfl⟩
   have hby:y.shB=(!r1 && !r2):=by
    unfold As.shB;rw[<-k1,<-k2]
    congr 1
    ·rw[<-decide_not];exact Co.2 (by omega)
    ·rw[<-decide_not];exact Co.2 (by omega)
   have fin:y.shB=false->IK l=false:=λh=>by
    have:x.shB=false:=by rw[hb,SS hy h]
    unfold IK;rw[SS hx this];rfl
   cases r1
   ·cases r2
    ·refine AN Ai (CP e3 wj hs1 hs2 k1 k2 (Au kN kT kF)) hmy AB AB AB AB AB ?_
     exact⟨(j+1,_),⟨g2,WB hy haj hby⟩,by dsimp only;omega,AL⟩
    ·rw[fin hby]
     refine AN Ai (CP e3 wj hs1 hs2 k1 k2 (Au kN kT kF)) hmy AB AB AB AB AB ?_;exact AO rfl AA.out
   ·rw[fin hby]
    refine AN Ai (CP e3 wj hs1 hs2 k1 kN (Ac kT kF)) hmy AB AB AB AB AB ?_;exact AO rfl AA.out
  ·have e3:=Ci g2
   have:j=x.shs.length:=by omega
   subst this;rw[DG]at haj;refine AN Ai (Ac e3 wi) AB AB AB AB AB AB ?_;exact⟨(i+1,_),⟨h2,WB hx ha (hb.trans haj)⟩,by dsimp only;omega,AL⟩
theorem ll {l:List AF}(h:IK l=true):(∀x∈l,x.lite/\x.modr)/\l.length<=80/\(l.length<=8\/64<l.length):=by
 unfold IK at h;simp only[BX,Me,CI,Gs]at h;obtain⟨h1,h2⟩:=h;refine⟨λx hx=>?_,by omega,by omega⟩;have hb:=h1 x hx;unfold AF.shB at hb;simp only[BX,Me,CI,Gs]at hb;obtain⟨⟨⟨b1,b2⟩,b3⟩,b4⟩:=hb;have hs:∀s∈x.shs,s.lot.length<=100/\s.part.length<=14:=λs hs=>by
  have:=b4 s hs
  unfold As.shB at this;simpa using this
 have hl:x.lite:=⟨⟨by omega,by omega,λs q=>⟨by have:=(hs s q).1;omega,by have:=(hs s q).2;omega⟩⟩,λs q=>⟨by have:=(hs s q).1;omega,by have:=(hs s q).2;omega⟩⟩
 exact⟨hl,by omega,hl⟩
theorem lj (q:BW):q.map Bg=(q.map λp=>(p.1,Ao p.2)).map CF:=by rw[List.map_map];rfl
abbrev Wz:Dr:=[(6,[0,1,2,3,4,5,6,7,8,9,10,11,12],[13,14])]
open Go.Proofs Go.RowKit Go.Sort
set_option maxRecDepth 20000
set_option maxHeartbeats 4000000
theorem Sd {l:List AF}(h:B9 l=0):l.length<=64/\(∀x∈l,1<=x.mass/\x.mass<=1000000000/\x.shs.length<=1000000)/\NZ l:=by
 obtain⟨g1,g2,g3⟩:=QJ h;have hx:∀x∈l,1<=x.mass/\x.mass<=1000000000/\x.shs.length<=1000000:=λx q=>by
  obtain⟨a,b,c,d⟩:=Lb (g2 x q)
  have:=(Vs d).2.1
  exact⟨by omega,by omega,by omega⟩
 exact⟨g1,hx,by omega,λx q=>by have:=hx x q;omega⟩
def UG (l:List AF):List AF:=if B9 l≠0 then[]else J3 l
def UH (l:List AF):Int:=if B9 l≠0 then 0 else BN l
theorem kS (b:Bool)(l:List AF)(hl:l.length<=1000000)(hf:∀x∈l,x.lite):AI C0 34 [Ay b l] (.tup [Ay false (UG l),i64 (B9 l:Nat)]):=by
 refine Ah.walk w1 aR rfl λF=>?_
 have cP:=Js b l (by omega) λx hx=>(hf x hx).1
 have hR:UG l=if B9 l≠0 then[]else J3 l:=rfl
 rcases Nat.decEq (B9 l) 0 with g|g
 ·have e1:=Ee g
  rw[AH g]at hR;rw[hR];refine AN Ai e1 cP AB AB AB AB AB ?_;exact⟨_,HY (.nil 3) (.refl _),AA.out,rfl⟩
 have e1:=Eu g;rw[AE (λh=>h g)]at hR;rw[hR];obtain⟨g1,g2,g3⟩:=Sd g;have cN:=ge b l hl g2;rw[g]at cP e1⊢;refine AN Ai e1 cP cN AB AB AB AB ?_;exact AO rfl AA.out
theorem t7 (b:Bool)(l:List AF)(hl:l.length<=1000000)(hf:∀x∈l,x.lite):AI C0 35 [Ay b l] (.tup [i64 (UH l),i64 (B9 l:Nat)]):=by
 refine Ah.walk w1 aS rfl λF=>?_
 have cP:=Js b l (by omega) λx hx=>(hf x hx).1
 have hR:UH l=if B9 l≠0 then 0 else BN l:=rfl
 rcases Nat.decEq (B9 l) 0 with g|g
 ·have e1:=Ee g
  rw[AH g]at hR;rw[hR];refine AN Ai e1 cP AB AB AB AB AB ?_;exact AO rfl AA.out
 have e1:=Eu g;rw[AE (λh=>h g)]at hR;rw[hR];obtain⟨g1,g2,g3⟩:=Sd g;have cT:=Sp b l g3;rw[g]at cP e1⊢;refine AN Ai e1 cP cT AB AB AB AB ?_;exact AO rfl AA.out
theorem tg (b:Bool)(l:List AF)(hl:l.length<=8)(hx:∀x∈l,x.okR)(hq:(Df l).length<=1000000):AI C0 38 [Ay b l] (.sl false 2 ((Df l).map Bg)):=by
 refine Ah.walk w1 sq rfl λF=>?_
 have cM:=tf b l hl hx;obtain⟨q,hqq⟩:∃q,Df l=q:=⟨_,rfl⟩
 rw[hqq]at cM hq⊢;have el:(((q.map Bg).length:Nat):Int)=(q.length:Int):=by rw[Ap]
 refine sR 0 ?_;refine sR 100 ?_;refine sR 200 ?_;refine cI cM ?_;refine AC.seq ?_;refine sR 300 ?_;refine AC.ghost 613 95 2 [(4,.sl false 2 (q.map Bg)),(3,.osl 613 _ 2 0 0),(5,i64 ((0:Nat):Int))] ⟨.inl rfl,.inr ⟨rfl,rfl⟩,.inl rfl,trivial⟩ ?_;refine AC.block ?_;refine AC.loop (α:=Nat×Nat×Nat) (λp=>⟨[(4,.sl false 2 (q.map Bg)),(3,.osl 613 p.2.1 2 0 p.1),(5,i64 (p.1:Int))],[⟨613,p.2.1,95,2,(q.take p.1).map Bg⟩],p.2.2⟩) (λp=>q.length-p.1) (λr=>r.1<=q.length) (0,_,_) (BT _) AL ?_;rintro⟨i,g,n⟩ F hi;dsimp only at hi⊢;rcases BH i q.length with h2|h2
 rotate_left
 ·have k1:=Ci h2
  have:i=q.length:=by omega
  subst this;rw[DG];have hf:=G6 (H:=[⟨613,g,95,2,q.map Bg⟩]) (Hf:=[]) (k:=613) (g:=g) (T:=95) (sz:=2) (l:=q.map Bg) rfl;rw[Ap]at hf;refine AN Wz (Ac el k1) AB AB AB AB AB AB ?_;exact⟨_,hf,AA.out,rfl⟩
 have k1:=Cg h2;have wi:=Cm (i:=i) (by omega);obtain⟨x,hx'⟩:=CK h2;have hm:(q.map Bg)[i]?=some (.agg [str (sb x.1),str (sb (Ao x.2))]):=by rw[BG,hx'];rfl
 have ht:(q.take (i+1)).map Bg=(q.take i).map Bg++[.agg [str (sb x.1),str (sb (Ao x.2))]]:=by
  rw[Dx,hx',C4];rfl
 have htl:((q.take i).map Bg).length=i:=by rw[Ap,Bf];omega
 obtain⟨R,hR⟩:∃R,(q.take i).map Bg=R:=⟨_,rfl⟩
 rw[hR]at ht htl⊢;refine AN Wz (Bh el k1 wi kN) hm AB AB AB AB AB ?_;refine⟨(i+1,n+1+1+1+1+15,n+1000),h2,by dsimp only;omega,?_⟩;dsimp only;rw[ht,B1 (show R.length<=i by omega)];exact AL
theorem jA {p:List UInt8×Rat->Bool}{a b:BW}(h:a.Perm b):a.any p=b.any p:=by
 rw[F7,List.any_eq_true,List.any_eq_true];exact⟨λ⟨x,h1,h2⟩=>⟨x,h.mem_iff.1 h1,h2⟩,λ⟨x,h1,h2⟩=>⟨x,h.mem_iff.2 h1,h2⟩⟩
theorem qG (ha:AI C0 10 [] (Aq true))(b:Bool)(l:List AF)(hl:l.length<=9223372036854775807)(hs:∀x∈l,x.shs.length<=9223372036854775807):
  AI C0 6 [Ay b l] (Aq true):=by
 refine Ah.walk w1 u7 rfl λF=>?_
 have cS:=rJ b l hl hs;rcases hsh:IK l with _|_
 ·rw[hsh]at cS
  refine AN Ai kB cS ha AB AB AB AB ?_;exact AO rfl AA.out
 rw[hsh]at cS;obtain⟨hx,hl80,hl8⟩:=ll hsh;have cC:=uL b l (by omega) (λx q=>(hx x q).2);have cP:=Js b l (by omega) λx q=>(hx x q).1.1
 have cN:=kS b l (by omega) λx q=>(hx x q).1
 have cM:=t7 b l (by omega) λx q=>(hx x q).1
 have cL:=aq b l (by omega) λx q=>(hx x q).1
 have ln0:([]:List D).length=0:=rfl;have n1:(((B9 l:Nat):Int) != ((B9 l:Nat):Int))=false:=bne_self_eq_false _;have n2:(((B9 l:Nat):Int)==((B9 l:Nat):Int))=true:=beq_self_eq_true _;have hE:Nl l=if B9 l≠0 then B9 l else Gd (Bw l):=rfl
 have hL:Nm l=if B9 l≠0 then[]else Hk (Bw l):=rfl
 have hN:UG l=if B9 l≠0 then[]else J3 l:=rfl
 have hM:UH l=if B9 l≠0 then 0 else BN l:=rfl
 rcases Nat.decEq (B9 l) 0 with g|g
 ·have e1:=Ee g
  rw[AH g]at hE hL hN hM;rw[hE,hL]at cL;rw[hN]at cN;rw[hM]at cM;rw[List.map_nil]at cL;rw[show Ay false []=.sl false 3 []from rfl]at cN;have z0:IntKind.i64.wrap (((0:Nat):Int)+((0:Nat):Int))=0:=rfl;have z1:IntKind.i64.wrap (0+0)=0:=rfl;have z2:((0:Int)==0)=true:=rfl;refine AN Ai (CP e1 n1 n2 z0 z1 z2 (Au ln0 kT kF)) cS cC cN cM cL cP ?_;refine AN Ai (CP e1 n1 n2 z0 z1 z2 (Au ln0 kT kF)) ha AB AB AB AB AB ?_;exact AO rfl AA.out
 have e1:=Eu g;rw[AE (λh=>h g)]at hE hL hN hM;rw[hE,hL]at cL;rw[hN]at cN;rw[hM]at cM;obtain⟨g1,g2,g3⟩:=Sd g;have hz:=(QJ g).2.1;have hokR:∀x∈l,x.okR:=λx q=>jW (hx x q).2 (hz x q)
 obtain⟨hxo,hK⟩:=RY (λx q=>(hx x q).1) hz g1;have hlen:(Df l).length<=4096:=by rw[M8,(IB _).length_eq];exact hK.len
 have cR:=tg b l (by omega) hokR (by omega);have hrk:∀p∈Df l,rk p.2 (75*l.length):=by
  have:=Wl hokR l.length (Ae _)
  rwa [DG]at this
 have cLg:=kn false (Df l) (75*l.length) hrk (by omega) (by omega);have hany:(Df l).any (λp=>CZ p.2)=(Bw l).any (λp=>CZ p.2):=by rw[M8];exact jA (IB _)
 rw[hany]at cLg;rw[g]at n1 n2 e1;rw[g]at cN cM cC cP;have hA:Gd (Bw l)=if(Bw l).any (λp=>CZ p.2)then 4 else 0:=rfl
 have hB:Hk (Bw l)=if(Bw l).any (λp=>CZ p.2)then[]else Ec (Bw l):=rfl
 cases hq:(Bw l).any (λp=>CZ p.2)
 rotate_left
 ·rw[hq,AH rfl]at hA hB cLg
  rw[hA,hB]at cL;rw[List.map_nil]at cL;have f1:((4:Int) != 0)=true:=rfl;have f2:(((4:Nat):Int)==4)=true:=rfl;have f3:(((0:Nat):Int)==0)=true:=rfl;refine AN Ai (CP e1 n1 n2 f1 f2 f3 (Au ln0 kT kF)) cS cC cN cM cL cP ?_;refine AN Ai (CP e1 n1 n2 f1 f2 f3 (Au ln0 kT kF)) cR cLg ha AB AB AB ?_;exact AO rfl AA.out
 rw[hq,AE Bool.false_ne_true]at hA hB cLg;rw[hA,hB,<-M8]at cL;have f1:((0:Int) != 0)=false:=rfl;have f2:(((0:Nat):Int)==0)=true:=rfl;have f3:(BN l==BN l)=true:=beq_self_eq_true _;have cSl:=s6 false false ((Df l).map λp=>(p.1,Ao p.2)) (by rw[Ap];omega);rw[<-lj]at cSl;have cMs:=ae b l g3;have cNr:=ko b l (by omega) g2;have hJ:N8 l l.length (J3 l):=by
  have:∀i,i<=l.length->N8 l i ((l.take i).foldl FU []):=λi=>by
   induction i with
   |zero=>exact λ_=>⟨rfl,Ae _,λy h=>by cases h⟩
   |succ i ih=>
    intro hi;obtain⟨x,hxi⟩:=CK (show i<l.length by omega);rw[Wn hxi];exact Vg (ih (by omega)) hxi (g2 x (BA hxi))
  have:=this l.length (Ae _)
  rwa [DG]at this
 have cSm:=ku false false (J3 l) (by have:=hJ.2.1;omega) λy q=>(hJ.2.2 y q).2.2
 refine AN Ai (CP e1 n1 n2 f1 f2 f3 (Ac kT kF)) cS cC cN cM cL cP ?_;refine AN Ai (CP e1 n1 n2 f1 f2 f3 (Ac kT kF)) cR cLg cSl cMs cNr cSm ?_;refine AN Ai (CP e1 n1 n2 f1 f2 f3 (Ac kT kF)) ha AB AB AB AB AB ?_;exact AO rfl AA.out
def tA:List UInt8:=[97]
def tB:List UInt8:=[98]
def EZ:List UInt8:=[119,104,101,97,116]
def Le:List UInt8:=[102,117,110,110,101,108]
def Ca (m:Int):AF:=⟨EZ,m,[⟨tA,[49]⟩]⟩
def Cv (m:Int):AF:=⟨EZ,m,[⟨tA,[49,47,50]⟩,⟨tB,[49,47,50]⟩]⟩
def Ek (x:AF):D:=.agg [str (sb x.grain),i64 x.mass,.sl true 2 (x.shs.map As.D)]
def bY:D:=.agg [str (sb Le),i64 4,i64 30,i64 12,.sl true 1 [.sl true 3 [Ek (Ca 10),Ek (Cv 6)],.sl true 3 [Ek (Ca 5)]]]
theorem se:AI C0 47 [] bY:=CA DJ 400 40 (by kernel_rfl)
def Lo (d d':D):Prop:=∀(ρ:Lk) (O:Nat->Prop) (w:World) (v:Value),AU ρ O w d v->AU ρ O w d' v
theorem Lo.refl (d:D):Lo d d:=λ_ _ _ _ h=>h
theorem Lo.agg {ds ds':List D}(hl:ds.length=ds'.length)(h:∀(i:Nat) (d d':D),ds[i]?=some d->ds'[i]?=some d'->Lo d d'):Lo (.agg ds) (.agg ds'):=λρ O w v hv=>by
 cases hv with
 |agg hn ho hd=>
  refine .agg (hn.trans hl) ho λi d' hd'=>?_
  have hi:i<ds.length:=by rw[hl];exact(List.getElem?_eq_some_iff.1 hd').1
  exact h i _ d' (BF hi) hd' _ _ _ _ (hd i _ (BF hi))
theorem Lo.tup {ds ds':List D}(hl:ds.length=ds'.length)(h:∀(i:Nat) (d d':D),ds[i]?=some d->ds'[i]?=some d'->Lo d d'):Lo (.tup ds) (.tup ds'):=λρ O w v hv=>by
 cases hv with
 |tup hn hd=>
  refine .tup (hn.trans hl) λi d' hd'=>?_
  have hi:i<ds.length:=by rw[hl];exact(List.getElem?_eq_some_iff.1 hd').1
  exact h i _ d' (BF hi) hd' _ _ _ _ (hd i _ (BF hi))
def Ml (e e':D):Prop:=e'.cells.length=e.cells.length/\∀(j:Nat) (d d':D),e.cells[j]?=some d->e'.cells[j]?=some d'->Lo d d'
theorem Lo.sl {b:Bool}{sz:Nat}{es es':List D}(hl:es.length=es'.length)(hc:∀(i:Nat) (e e':D),es[i]?=some e->es'[i]?=some e'->Ml e e'):Lo (.sl b sz es) (.sl false sz es'):=λρ O w v hv=>by
 cases hv with
 |nil=>
  have:es'=[]:=List.length_eq_zero_iff.1 hl.symm
  subst this;exact .nil sz
 |emp a=>
  have:es'=[]:=List.length_eq_zero_iff.1 hl.symm
  subst this;exact .emp a
 |sl f hl' hc' hO hb hz hcell ho h=>
  have hx:∀(i:Nat) (e':D),es'[i]?=some e'->∃e,es[i]?=some e/\Ml e e':=λi e' he'=>by
   have hi:i<es.length:=by rw[hl];exact(List.getElem?_eq_some_iff.1 he').1
   exact⟨_,BF hi,hc i _ e' (BF hi) he'⟩
  refine .sl f (hl.symm.trans hl') hc' hO hb (λi e' he'=>?_) hcell ho λi e' j d' he' hd'=>?_
  ·obtain⟨e,he,h1,h2⟩:=hx i e' he'
   rw[h1];exact hz i e he
  ·obtain⟨e,he,h1,h2⟩:=hx i e' he'
   have hj:j<e.cells.length:=by rw[<-h1];exact(List.getElem?_eq_some_iff.1 hd').1
   exact h2 j _ d' (BF hj) hd' _ _ _ _ (h i e j _ he (BF hj))
def loosen:Nat->D->D
 | 0,d=>d
 |n+1,.agg ds=>.agg (ds.map (loosen n))
 |n+1,.tup ds=>.tup (ds.map (loosen n))
 |n+1,.sl _ sz es=>.sl false sz (es.map (loosen n))
 |_+1,d=>d
theorem Sr {f:D->D}(hf:∀d,Lo d (f d))(ds:List D)(i:Nat)(d d':D)(h:ds[i]?=some d)(h':(ds.map f)[i]?=some d'):Lo d d':=by
 rw[BG,h]at h';cases h';exact hf d
theorem Vd:∀n:Nat,(∀d,Lo d (loosen n d))/\∀e,Ml e (loosen n e)
 | 0=>⟨λd=>.refl d,λe=>⟨rfl,λj d d' h h'=>by
   have:d=d':=by
    have:=h.symm.trans h'
    injection this
   subst this;exact .refl d⟩⟩
 |n+1=>by
  obtain⟨h1,h2⟩:=Vd n;have hs:∀(es:List D) (i:Nat) (e e':D),es[i]?=some e->(es.map (loosen n))[i]?=some e'->Ml e e':=λes i e e' h h'=>by
   rw[BG,h]at h';cases h';exact h2 e
  have hL:∀d,Lo d (loosen (n+1) d):=λd=>by
   cases d with
   |agg ds=>exact .agg (by simp) (Sr h1 ds)
   |tup ds=>exact .tup (by simp) (Sr h1 ds)
   |sl b sz es=>exact .sl (by simp) (hs es)
   |_=>exact .refl _
  refine⟨hL,λe=>?_⟩;have one:e.cells=[e]->(loosen (n+1) e).cells=[loosen (n+1) e]->Ml e (loosen (n+1) e):=λa b=>by
   refine⟨by rw[a,b];rfl,λj d d' h h'=>?_⟩;rw[a]at h;rw[b]at h'
   match j with
   | 0=>cases h;cases h';exact hL e
   |j+1=>cases h
  cases e with
  |agg ds=>exact⟨by simp[loosen,D.cells],λj d d' h h'=>Sr h1 ds j d d' h h'⟩
  |_=>exact one rfl rfl
theorem AI.loosen {C:A9}{f:Nat}{args:List D}{d:D}(h:AI C f args d)(n:Nat):AI C f args (loosen n d):=
 ⟨h.1,λX w vs a b c e g=>(h.2 X w vs a b c e g).mono λ_ _ ⟨v,d,h1,h2,h3,h4⟩=>⟨v,_,h1,h2,rfl,by subst h3;exact(Vd n).1 _ _ _ _ _ h4⟩⟩
abbrev SK:Dr:=[(1,[0,1,2,3,4,5,6],[7]),(9,[0,1,2,3,4],[5,6])]
open Go.Proofs Go.RowKit
set_option maxRecDepth 20000
set_option maxHeartbeats 4000000
def Kx:List AF->Int->Int->List AF
 | [],_,_=>[]
 |x::r,low,left=>x.w (min (x.mass-min x.mass low) left)::Kx r (low-min x.mass low) (left-min (x.mass-min x.mass low) left)
structure UM where
 o:List AF
 low:Int
 left:Int
 g:Nat
def I4 (g1 g2:Nat)(p:UM):Hp:=DW 905 p.g 27 3 (p.o.map AF.D)++[⟨200,g2,22,1,[Da 905 p.g 3 (p.o.map AF.D)]⟩,⟨106,g1,3,1,[i64 p.left]⟩,⟨0,0,3,1,[i64 p.low]⟩]
theorem W8 (g1 g2:Nat)(a b:Int)(g:Nat):I4 g1 g2 ⟨[],a,b,g⟩=[⟨200,g2,22,1,[CD]⟩,⟨106,g1,3,1,[i64 b]⟩,⟨0,0,3,1,[i64 a]⟩]:=rfl
theorem PG (g1 g2:Nat)(z:AF)(o:List AF)(a b:Int)(g:Nat):I4 g1 g2 ⟨z::o,a,b,g⟩=[⟨905,g,27,3,z.D::o.map AF.D⟩,⟨200,g2,22,1,[.osl 905 g 3 0 ((o.map AF.D).length+1)]⟩,⟨106,g1,3,1,[i64 b]⟩,⟨0,0,3,1,[i64 a]⟩]:=rfl
def Nt (L:List AF)(low left:Int)(k:Nat)(p:UM):Prop:=p.o.length=k/\p.o++Kx (L.drop k) p.low p.left=Kx L low left/\0<=p.low/\p.low<=1000000000000/\0<=p.left/\p.left<=1000000000000000
theorem dX (b:Bool)(l:List AF)(low high:Int)(hl:l.length<=1000000)(h1:0<=low/\low<=1000000000000)(h2:0<=high/\high<=1000000000000)(t:Int)(ht:low+high<=t/\t<=1000000000000000)(hx:∀x∈l,0<=x.mass/\x.mass<=1000000000)
  (cT:AI C0 59 [Ay b l] (i64 t))
  (ho:∀x∈l,∀m,AI C0 63 [x.D,i64 m] (x.w m).D) (R:D) [pR:AA R] (hN:AI C0 84 [Ay false (Kx l low (t-low-high))] R):
  AI C0 92 [Ay b l,i64 low,i64 high] R:=by
 refine Ah.walk w1 aP rfl λF=>?_
 have cV:=R2 b false (l.map AF.D);have hT:∀x∈l.map AF.D,∃a c d,x=.agg [a,c,d]:=λx hx=>by
  obtain⟨y,-,rfl⟩:=List.mem_map.1 hx;exact⟨_,_,_,rfl⟩
 have hoA:∀k,k<l.length->∃y,y∈l/\l[k]?=some y/\(l.map AF.D)[if false then(l.map AF.D).length-1-k else k]?=some y.D:=λk hk=>⟨_,List.getElem_mem hk,BF hk,by
  show(l.map AF.D)[k]?=_;rw[BG,BF hk];rfl⟩
 unfold Ay at cT⊢;obtain⟨T,hTT⟩:∃T,l.map AF.D=T:=⟨_,rfl⟩
 have pT:AA (.sl b 3 T):=by rw[<-hTT];exact AG
 have hTl:T.length=l.length:=by rw[<-hTT,Ap]
 rw[hTT]at cV hT hoA cT⊢;have w1':IntKind.i64.wrap (t-low)=t-low:=wI (by omega) (by omega);have w2:IntKind.i64.wrap (t-low-high)=t-low-high:=wI (by omega) (by omega);obtain⟨e,he⟩:∃e,t-low-high=e:=⟨_,rfl⟩
 have w2':IntKind.i64.wrap (t-low-high)=e:=by rw[w2,he]
 rw[he]at hN;have he0:0<=e/\e<=1000000000000000:=by omega
 refine AN SK (Ac w1' w2') cT cV AB AB AB AB ?_;have h0:Nt l low e 0 ⟨[],low,e,0⟩:=⟨rfl,rfl,h1.1,h1.2,he0.1,he0.2⟩
 refine AC.rangeFunc (fi:=185) (first:=[]) (captured:=[.pptr (.sl b 3 T),.pptr (Aq false)]) (Ψ:=λj _ H' _=>(j=none/\∃a,Nt l low e T.length a/\H'=I4 8 11 a)\/(j=some (.exit 0)/\False)) rfl
  (λds H n Φ=>∃k a x,Nt l low e k a/\k<T.length/\T[if false then T.length-1-k else k]?=some x/\ds=[x]/\H=I4 8 11 a/\Φ=λj H' _=>(j=none/\∃a',Nt l low e (k+1) a'/\CW H' (I4 8 11 a') H' (I4 8 11 a'))\/(j=some (.exit 0)/\False)) ?_
  (λE l' R' hE hY=>Tn hE b false T hT (by omega) (λ_ a=>I4 8 11 a) (Nt l low e) (.exit 0) (λ_=>False) ⟨[],low,e,0⟩ h0 _ λk a x n hP hk hx=>hY _ _ _ _ ⟨k,a,x,hP,hk,hx,rfl,rfl,rfl⟩) ?_
 ·rintro l' ds H n Φ ⟨k,⟨o,lw,lf,g⟩,x,⟨p1,p2,p3,p4,p6,p7⟩,hk,hxT,rfl,rfl,rfl⟩
  dsimp only at p1 p2 p3 p4 p6 p7;obtain⟨y,hy1,hy2,hy3⟩:=hoA k (by omega);rw[hy3]at hxT;cases hxT;have hd:l.drop k=y::l.drop (k+1):=by
   have:=(List.getElem?_eq_some_iff.1 hy2)
   rw[EU this.1,this.2]
  rw[hd]at p2;have hb:=hx y hy1;have cO:=ho y hy1 (min (y.mass-min y.mass lw) lf);have p5:(o++[y.w (min (y.mass-min y.mass lw) lf)])++Kx (l.drop (k+1)) (lw-min y.mass lw) (lf-min (y.mass-min y.mass lw) lf)=Kx l low e:=by
   rw[<-p2,Dk];rfl
  have a1:IntKind.i64.wrap (lw-min y.mass lw)=lw-min y.mass lw:=wI (by omega) (by omega);have a2:IntKind.i64.wrap (y.mass-min y.mass lw)=y.mass-min y.mass lw:=wI (by omega) (by omega);have a3:IntKind.i64.wrap (lf-min (y.mass-min y.mass lw) lf)=lf-min (y.mass-min y.mass lw) lf:=wI (by omega) (by omega);have q1:0<=lw-min y.mass lw/\lw-min y.mass lw<=1000000000000/\0<=lf-min (y.mass-min y.mass lw) lf/\lf-min (y.mass-min y.mass lw) lf<=1000000000000000:=by omega
  refine⟨rfl,λF=>?_⟩;unfold AF.w AF.D at cO;unfold AF.D;dsimp only at cO⊢;obtain⟨SD,hSD⟩:∃d,CM false y.shs=d:=⟨_,rfl⟩
  have pS:AA SD:=by rw[<-hSD];exact AG
  rw[hSD]at cO⊢;rcases o with _|⟨z,o⟩
  ·rw[W8]
   dsimp only[GG];refine Am w1 400 (by kernel_rfl) ?_;refine AD kB ?_;refine⟨trivial,trivial,λF'=>?_⟩;refine AN SK (Au a1 a2 a3) cO AB AB AB AB AB ?_;refine .inl ⟨rfl,⟨[y.w (min (y.mass-min y.mass lw) lf)],lw-min y.mass lw,lf-min (y.mass-min y.mass lw) lf,n+1+1+1+1+1+1+1+1+1+1+1+1+1+1+1+1+1+1+1+1+1+1+7⟩,⟨by rw[<-p1];rfl,p5,q1⟩,?_⟩;rw[PG,<-hSD];exact .keep (.drop (GW _))
  ·have hol:o.length<=1000000:=by rw[Bk]at p1;omega
   rw[PG];dsimp only[GG];obtain⟨O,hO⟩:∃O,o.map AF.D=O:=⟨_,rfl⟩
   obtain⟨zD,hzD⟩:∃O,z.D=O:=⟨_,rfl⟩
   have hOl:O.length=o.length:=by rw[<-hO,Ap]
   rw[hO,hzD];refine Am w1 400 (by kernel_rfl) ?_;refine AD kB ?_;refine⟨trivial,trivial,λF'=>?_⟩;refine AN SK (Au a1 a2 a3) cO AB AB AB AB AB ?_;rw[show List.take (O.length+1) (zD::O)=zD::O from DG (l:=zD::O)];refine .inl ⟨rfl,⟨z::o++[y.w (min (y.mass-min y.mass lw) lf)],lw-min y.mass lw,lf-min (y.mass-min y.mass lw) lf,n+1+1+1+1+1+1+1+1+1+1+1+1+1+1+1+1+1+1+1+1+1+1+7⟩,⟨by rw[<-p1];simp,p5,q1⟩,?_⟩;have hs:∀g' a b,I4 8 11 ⟨z::o++[y.w (min (y.mass-min y.mass lw) lf)],a,b,g'⟩=[⟨905,g',27,3,zD::O++[.agg [str (sb y.grain),i64 (min (y.mass-min y.mass lw) lf),SD]]⟩,⟨200,11,22,1,[.osl 905 g' 3 0 (O.length+1+1)]⟩,⟨106,8,3,1,[i64 b]⟩,⟨0,0,3,1,[i64 a]⟩]:=λg' a b=>by
    rw[ED,PG,<-hO,<-hzD,<-hSD,C4];rw[Bo];rfl
   rw[hs];exact .keep (.drop (GW _))
 ·rintro j d H' n' F' hE
  rcases hE with⟨rfl,⟨o,lw,lf,g⟩,⟨p1,p2,-⟩,rfl⟩|⟨-,h⟩
  rotate_left
  ·exact h.elim
  dsimp only at p2;rw[List.drop_eq_nil_of_le (by omega)]at p2;have ho2:o=Kx l low e:=by rw[<-p2];exact(DV o).symm
  rw[<-ho2]at hN;rcases o with _|⟨z,o⟩
  ·rw[W8]
   change AC _ _ _ _ _ _ _;refine sR 1000 ?_;refine Az.pure [.sl false 3 []] _ ⟨.nil 3,trivial⟩ hN AG ?_;refine BK ?_;refine Ab ?_;exact AO rfl pR.out
  ·have hR:=G6 (H:=I4 8 11 ⟨z::o,lw,lf,g⟩) (Hf:=[]) (k:=905) (g:=g) (T:=27) (sz:=3) (l:=(z::o).map AF.D) rfl
   have hle:((z::o).map AF.D).length=(o.map AF.D).length+1:=rfl;rw[hle]at hR;rw[PG]at hR⊢;change AC _ _ _ _ _ _ _;refine sR 1000 ?_;refine Az.own _ (LA [] hN (.drop (.drop (.drop (.drop .nil)))) ⟨hR,trivial⟩ AG) ?_;rintro d H2 n2 ⟨rfl,rfl,rfl⟩;refine BK ?_;refine Ab ?_;exact AO rfl pR.out
def QE (lot:List UInt8)(x:AF):Bool:=x.shs.any λs=>Bb (sb s.lot) (sb lot)
def KM (lot:List UInt8):List AF->Int->List (Int×Int)
 | [],_=>[]
 |x::r,n=>(if QE lot x then[(n+1,n+x.mass)]else[])++KM lot r (n+x.mass)
def FK (p:Int×Int):D:=.agg [i64 p.1,i64 p.2]
instance  (p:Int×Int):Aj (FK p):=by unfold FK;exact AG
instance  (p:Int×Int):AA (FK p):=by unfold FK;exact AG
theorem uk (lot:List UInt8)(s:As):AI C0 187 [s.D,.pptr (str (sb lot))] (Aq (Bb (sb s.lot) (sb lot))):=by
 refine Ah.walk w1 YO rfl λF=>?_
 unfold As.D;refine AN Ai kB AB AB AB AB AB AB ?_;exact AO rfl AA.out
theorem sX (b:Bool)(l:List As)(c:D)[pc:AA c](p:As->Bool)(hl:l.length<=1000000)(hc:∀x∈l,AI C0 187 [x.D,c] (Aq (p x))):AI C0 233 [CM b l,.clo (.func 187) [] [c]] (i64 (Jw p l)):=by
 refine Ah.walk w1 ZW rfl λF=>?_
 have el:(((l.map As.D).length:Nat):Int)=(l.length:Int):=by rw[Ap]
 refine AN Ai el AB AB AB AB AB AB ?_;refine AC.loop (α:=Nat×Nat) (λp=>⟨[(0,CM b l),(1,.clo (.func 187) [] [c]),(7,i64 l.length),(8,i64 (p.1:Int))],[],p.2⟩) (λp=>l.length-p.1) (λq=>q.1<=l.length/\∀(j:Nat) (x:As),j<q.1->l[j]?=some x->p x=false) (0,_) ⟨BT _,λj x hj=>Aa hj (HN j)⟩ AL ?_;rintro⟨i,n⟩ F ⟨hi,ha⟩;dsimp only at hi ha⊢;rcases BH i l.length with h2|h2
 rotate_left
 ·have e1:=Ci h2
  have:i=l.length:=by omega
  subst this;refine AN Ai e1 AB AB AB AB AB AB ?_;exact AO (by rw[Vv ha]) AA.out
 have e1:=Cg h2;have wi:=Cm (i:=i) (by omega);obtain⟨x,hx⟩:=CK h2;have hm:(l.map As.D)[i]?=some (.agg [str (sb x.lot),str (sb x.part)]):=by rw[BG,hx];rfl
 have cn:=hc x (BA hx);unfold As.D at cn;cases hb:p x
 ·rw[hb]at cn
  refine AN Ai (Au e1 wi kN) hm cn AB AB AB AB ?_;refine⟨(i+1,_),⟨h2,λj z hj hjz=>?_⟩,by dsimp only;omega,AL⟩;rcases BH j i with h|h
  ·exact ha j z h hjz
  ·have:j=i:=by dsimp only at hj;omega
   subst this;rw[hx]at hjz;cases hjz;exact hb
 ·rw[hb]at cn
  refine AN Ai (Au e1 wi kN) hm cn AB AB AB AB ?_;exact AO (by rw[XQ hx hb ha]) AA.out
theorem sU (b:Bool)(l:List As)(c:D)[pc:AA c](p:As->Bool)(hl:l.length<=1000000)(hc:∀x∈l,AI C0 187 [x.D,c] (Aq (p x))):AI C0 186 [CM b l,.clo (.func 187) [] [c]] (Aq (l.any p)):=by
 refine Ah.walk w1 YN rfl λF=>?_
 have c1:=sX b l c p hl hc;have e1:=XR p l;refine AN Ai e1 c1 AB AB AB AB AB ?_;exact AO rfl AA.out
structure UO where
 o:List (Int×Int)
 n:Int
 g:Nat
def JN (lot:List UInt8)(g1 g2:Nat)(p:UO):Hp:=DW 609 p.g 132 2 (p.o.map FK)++[⟨200,g2,3,1,[i64 p.n]⟩,⟨100,g1,130,1,[Da 609 p.g 2 (p.o.map FK)]⟩,⟨0,0,9,1,[str (sb lot)]⟩]
theorem Xr (lot:List UInt8)(g1 g2:Nat)(n:Int)(g:Nat):JN lot g1 g2 ⟨[],n,g⟩=[⟨200,g2,3,1,[i64 n]⟩,⟨100,g1,130,1,[CD]⟩,⟨0,0,9,1,[str (sb lot)]⟩]:=rfl
theorem PV (lot:List UInt8)(g1 g2:Nat)(z:Int×Int)(o:List (Int×Int))(n:Int)(g:Nat):JN lot g1 g2 ⟨z::o,n,g⟩=[⟨609,g,132,2,FK z::o.map FK⟩,⟨200,g2,3,1,[i64 n]⟩,⟨100,g1,130,1,[.osl 609 g 2 0 ((o.map FK).length+1)]⟩,⟨0,0,9,1,[str (sb lot)]⟩]:=rfl
def N6 (lot:List UInt8)(l:List AF)(k:Nat)(p:UO):Prop:=p.o.length<=k/\p.o++KM lot (l.drop k) p.n=KM lot l 0/\0<=p.n/\p.n<=(k:Int)*1000000000
theorem dF (b:Bool)(l:List AF)(lot:List UInt8)(hl:l.length<=1000000)(hx:∀x∈l,0<=x.mass/\x.mass<=1000000000/\x.shs.length<=1000000):
  AI C0 142 [Ay b l,str (sb lot)] (.sl false 2 ((KM lot l 0).map FK)):=by
 refine Ah.walk w1 Yy rfl λF=>?_
 have cV:=R2 b false (l.map AF.D);have hT:∀x∈l.map AF.D,∃a c d,x=.agg [a,c,d]:=λx hx=>by
  obtain⟨y,-,rfl⟩:=List.mem_map.1 hx;exact⟨_,_,_,rfl⟩
 have hoA:∀k,k<l.length->∃y,y∈l/\l[k]?=some y/\(l.map AF.D)[if false then(l.map AF.D).length-1-k else k]?=some y.D:=λk hk=>⟨_,List.getElem_mem hk,BF hk,by
  show(l.map AF.D)[k]?=_;rw[BG,BF hk];rfl⟩
 unfold Ay;obtain⟨T,hTT⟩:∃T,l.map AF.D=T:=⟨_,rfl⟩
 have pT:AA (.sl b 3 T):=by rw[<-hTT];exact AG
 have hTl:T.length=l.length:=by rw[<-hTT,Ap]
 rw[hTT]at cV hT hoA⊢;refine AN Ai kB cV AB AB AB AB AB ?_;have h0:N6 lot l 0 ⟨[],0,0⟩:=⟨Ae _,rfl,Int.le_refl _,Int.le_refl _⟩
 refine AC.rangeFunc (fi:=185) (first:=[]) (captured:=[.pptr (.sl b 3 T),.pptr (Aq false)]) (Ψ:=λj _ H' _=>(j=none/\∃a,N6 lot l T.length a/\H'=JN lot 2 3 a)\/(j=some (.exit 0)/\False)) rfl
  (λds H n Φ=>∃k a x,N6 lot l k a/\k<T.length/\T[if false then T.length-1-k else k]?=some x/\ds=[x]/\H=JN lot 2 3 a/\Φ=λj H' _=>(j=none/\∃a',N6 lot l (k+1) a'/\CW H' (JN lot 2 3 a') H' (JN lot 2 3 a'))\/(j=some (.exit 0)/\False)) ?_
  (λE l' R' hE hY=>Tn hE b false T hT (by omega) (λ_ a=>JN lot 2 3 a) (N6 lot l) (.exit 0) (λ_=>False) ⟨[],0,0⟩ h0 _ λk a x n hP hk hx=>hY _ _ _ _ ⟨k,a,x,hP,hk,hx,rfl,rfl,rfl⟩) ?_
 ·rintro l' ds H n Φ ⟨k,⟨o,nn,g⟩,x,⟨p1,p2,p3,p4⟩,hk,hxT,rfl,rfl,rfl⟩
  dsimp only at p1 p2 p3 p4;obtain⟨y,hy1,hy2,hy3⟩:=hoA k (by omega);rw[hy3]at hxT;cases hxT;have hd:l.drop k=y::l.drop (k+1):=by
   have:=(List.getElem?_eq_some_iff.1 hy2)
   rw[EU this.1,this.2]
  rw[hd]at p2;have hb:=hx y hy1;have cH:=sU false y.shs (.pptr (str (sb lot))) (λs=>Bb (sb s.lot) (sb lot)) hb.2.2 λs _=>uk lot s
  have hK:(y.shs.any λs=>Bb (sb s.lot) (sb lot))=QE lot y:=rfl;rw[hK]at cH;have p5:(o++(if QE lot y then[(nn+1,nn+y.mass)]else[]))++KM lot (l.drop (k+1)) (nn+y.mass)=KM lot l 0:=by
   rw[<-p2,Dk];rfl
  obtain⟨K,hKK⟩:∃K,QE lot y=K:=⟨_,rfl⟩
  rw[hKK]at cH p5;have a1:IntKind.i64.wrap (nn+y.mass)=nn+y.mass:=wI (by omega) (by omega);have a2:IntKind.i64.wrap (nn+1)=nn+1:=wI (by omega) (by omega);have q1:0<=nn+y.mass/\nn+y.mass<=((k+1:Nat):Int)*1000000000:=by omega
  refine⟨rfl,λF=>?_⟩;unfold AF.D;unfold CM at cH⊢;obtain⟨SD,hSD⟩:∃d,y.shs.map As.D=d:=⟨_,rfl⟩
  have pS:AA (.sl false 2 SD):=by rw[<-hSD];exact AG
  rw[hSD]at cH⊢;rcases o with _|⟨z,o⟩
  ·rw[Xr]
   dsimp only[GG];refine Am w1 400 (by kernel_rfl) ?_;refine AD kB ?_;refine⟨trivial,trivial,λF'=>?_⟩;refine AN Ai kB AB AB AB AB AB AB ?_;refine Az.own _ (LB cH rfl (λi a d h1 h2=>by
    match i with
    | 0=>cases h1;cases h2;exact .refl _ _
    | 1=>cases h1;cases h2;exact .clo1 (.ptr rfl rfl rfl rfl)
    |n+2=>cases h1) AG (.prim _)) ?_
   rintro d H' n' ⟨rfl,rfl,rfl⟩;cases K
   ·refine AN Ai (Ac a1 a2) AB AB AB AB AB AB ?_
    exact .inl ⟨rfl,⟨[],nn+y.mass,0⟩,⟨BT _,p5,q1⟩,.drop (GW _)⟩
   ·refine AN Ai (Ac a1 a2) AB AB AB AB AB AB ?_
    exact .inl ⟨rfl,⟨[(nn+1,nn+y.mass)],nn+y.mass,n+1+1+1+1+1+1+1+1+1+1+1+1+1+1+1⟩,⟨by simp,p5,q1⟩,.keep (.drop (GW _))⟩
  ·have hol:o.length<=1000000:=by rw[Bk]at p1;omega
   rw[PV];dsimp only[GG];obtain⟨O,hO⟩:∃O,o.map FK=O:=⟨_,rfl⟩
   obtain⟨zD,hzD⟩:∃O,FK z=O:=⟨_,rfl⟩
   have hOl:O.length=o.length:=by rw[<-hO,Ap]
   rw[hO,hzD];refine Am w1 400 (by kernel_rfl) ?_;refine AD kB ?_;refine⟨trivial,trivial,λF'=>?_⟩;refine AN Ai kB AB AB AB AB AB AB ?_;refine Az.own _ (LB cH rfl (λi a d h1 h2=>by
    match i with
    | 0=>cases h1;cases h2;exact .refl _ _
    | 1=>cases h1;cases h2;exact .clo1 (.ptr rfl rfl rfl rfl)
    |n+2=>cases h1) AG (.prim _)) ?_
   rintro d H' n' ⟨rfl,rfl,rfl⟩;cases K
   ·refine AN Ai (Ac a1 a2) AB AB AB AB AB AB ?_
    refine .inl ⟨rfl,⟨z::o,nn+y.mass,g⟩,⟨Nat.le_succ_of_le p1,by rw[<-p5,AE Bool.false_ne_true,DV],q1⟩,?_⟩;rw[PV,hO,hzD];exact .drop (GW _)
   ·refine AN Ai (Ac a1 a2) AB AB AB AB AB AB ?_
    rw[show List.take (O.length+1) (zD::O)=zD::O from DG (l:=zD::O)];refine .inl ⟨rfl,⟨z::o++[(nn+1,nn+y.mass)],nn+y.mass,n+1+1+1+1+1+1+1+1+1+1+1+1+1+1+1⟩,⟨by rw[Bo];exact Nat.succ_le_succ p1,p5,q1⟩,?_⟩;have hs:∀g' a,JN lot 2 3 ⟨z::o++[(nn+1,nn+y.mass)],a,g'⟩=[⟨609,g',132,2,zD::O++[.agg [i64 (nn+1),i64 (nn+y.mass)]]⟩,⟨200,3,3,1,[i64 a]⟩,⟨100,2,130,1,[.osl 609 g' 2 0 (O.length+1+1)]⟩,⟨0,0,9,1,[str (sb lot)]⟩]:=λg' a=>by
     rw[ED,PV,<-hO,<-hzD,C4];rw[Bo];rfl
    rw[hs];exact .keep (.drop (GW _))
 ·rintro j d H' n' F' hE
  rcases hE with⟨rfl,⟨o,nn,g⟩,⟨p1,p2,-⟩,rfl⟩|⟨-,h⟩
  rotate_left
  ·exact h.elim
  dsimp only at p2;rw[List.drop_eq_nil_of_le (by omega)]at p2;have ho2:o=KM lot l 0:=by rw[<-p2];exact(DV o).symm
  rw[<-ho2];rcases o with _|⟨z,o⟩
  ·rw[Xr]
   change AC _ _ _ _ _ _ _;refine sR 800 ?_;refine Ab ?_;exact⟨_,.nil 2,AA.out,rfl⟩
  ·have hR:=G6 (H:=JN lot 2 3 ⟨z::o,nn,g⟩) (Hf:=[]) (k:=609) (g:=g) (T:=132) (sz:=2) (l:=(z::o).map FK) rfl
   have hle:((z::o).map FK).length=(o.map FK).length+1:=rfl;rw[hle]at hR;rw[PV]at hR⊢;change AC _ _ _ _ _ _ _;refine sR 800 ?_;refine Ab ?_;exact⟨_,hR,AA.out,rfl⟩
end Go.Ide
namespace Go.Proofs
open Go.Shelf Go.RowKit Go.Lib
def Tryz.growLay_ren:Go.Shelf.Ren:=⟨fun|4=>140|n=>n,fun|22=>22|25=>27|3=>3|4=>4|9=>9|20=>20|0=>0|n=>n,fun|n=>n⟩
theorem uz:Go.Proofs.Lays8.n4 Tryz.prog Tryz.growLay_ren:={
 mixed:=by kernel_rfl
 f4:=⟨Tryz.f140.name,by decide,Tryz.func140.trans (congrArg some (by kernel_rfl))⟩
 t0:=Tryz.underlying0
 a0:=Tryz.isAgg0
 z0:=Tryz.sizeOf0
 v0:=Tryz.zeroValue0
 t3:=Tryz.underlying3
 a3:=Tryz.isAgg3
 z3:=Tryz.sizeOf3
 v3:=Tryz.zeroValue3
 t4:=Tryz.underlying4
 a4:=Tryz.isAgg4
 z4:=Tryz.sizeOf4
 v4:=Tryz.zeroValue4
 t9:=Tryz.underlying9
 a9:=Tryz.isAgg9
 z9:=Tryz.sizeOf9
 v9:=Tryz.zeroValue9
 t20:=Tryz.underlying20
 a20:=Tryz.isAgg20
 z20:=Tryz.sizeOf20
 v20:=Tryz.zeroValue20
 t22:=Tryz.underlying22
 a22:=Tryz.isAgg22
 z22:=Tryz.sizeOf22
 v22:=Tryz.zeroValue22 }
end Go.Proofs
namespace Go.Ide
open Go.Proofs Go.RowKit Go.Lib
set_option maxRecDepth 20000
set_option maxHeartbeats 4000000
theorem JJ (K n:Nat)(h0:0<n)(hn:n<=1000000)(H:Hp)(m:Nat):CT C0 140 [CD,i64 (n:Int)] H m (λd H' n'=>d=.osl K m 3 0 0/\H'=⟨K,m,27,3,[]⟩::H/\n'=m+1):=by
 refine⟨by obtain⟨fn,a1,a2,a3,-⟩:=Yw;exact⟨fn,_,a1,a2,a3⟩,λF ρ w vs mm fr gn hsz rep=>?_⟩;obtain⟨v0,v1,rfl⟩:∃v0 v1,vs = #[v0,v1]:=by
  match vs,hsz with
  |⟨[a,b]⟩,_=>exact⟨a,b,rfl⟩
 have r0:AU ρ _ w CD v0:=rep 0 _ rfl;have r1:AU ρ _ w (i64 (n:Int)) v1:=rep 1 _ rfl;cases r0;cases r1;have hT:∃i,X1.tt 22=some i/\i.ti=.slice 27 3 48 (.agg #[.string ⟨#[]⟩,.int .i64 0,.slice none 0 0]):=⟨_,rfl,rfl⟩
 obtain⟨i,hi1,hi2⟩:=hT;obtain⟨-,⟨inf,k1,k2,k3,k4⟩,k5,k6⟩:=EO (w1.tt _ _ hi1) hi2;have hc:=Any8.slices_Grow_grow uz inf _ k1 k4 (by rw[k2];decide) none 0 0 n [] w (Ae _) (by omega) (by rw[k3];omega) (by omega) (by rw[k2];rfl) (λ_=>rfl) (λa h=>by cases h);refine Calls.mono hc ?_;rintro e w' ⟨rfl,rfl⟩;rw[show Tryz.growLay_ren.t 25=27 from rfl,BM];have hge:n<=grownCap w n 0 27:=grownCap_ge ..;have hmx:grownCap w n 0 27<=maxLen:=grownCap_le_maxLen _ _ _ _ (by simp only[maxLen];omega);generalize grownCap w n 0 27=cap at hge hmx⊢;obtain⟨z,hz⟩:∃z,(Value.agg #[.string ⟨#[]⟩,.int .i64 0,.slice none 0 0])=z:=⟨_,rfl⟩
 rw[hz]at k5 k6⊢;generalize hcs' : #[]++Builtin.zeroCells z.cells (n-0)++Builtin.zeroCells z.cells (cap-n)=cs';have hsz':cs'.size=cap*3:=by
  rw[<-hcs',IT,IT,size_zeroCells,size_zeroCells,k5];simp only[JE,GL];omega
 have ho:Cx ρ (AK F.X ρ H) w.drew ⟨K,m,27,3,[]⟩ cs':=by
  refine⟨by simp,λq d h=>by simp at h,λq v hv=>?_,λq d j c h=>by simp at h⟩;rw[<-hcs']at hv;rcases BH q (#[]++Builtin.zeroCells z.cells (n-0)).size with hq|hq
  ·rw[Fy hq,Array.empty_append]at hv
   exact Of k6 _ _ v hv
  ·rw[Fx hq]at hv
   exact Of k6 _ _ v hv
 obtain⟨m1,x1⟩:=mm.drew.alloc ⟨K,m,27,3,[]⟩ cs' (fr _ _ (Ae _)) (λe' he' h=>Nat.ne_of_lt (gn e' he') h.2) ho;refine⟨_,_,_,_,_,rfl,⟨rfl,rfl,rfl⟩,m1,(BL.drew _ _ _).trans x1,λk g hg=>?_,λe he=>?_,?_⟩
 ·unfold Lk.put
  rw[AE λh=>by have:=h.2;dsimp only at this;omega];exact fr k g (by omega)
 ·rcases A0.1 he with rfl|he
  ·exact Gu _
  ·exact C3 (gn e he)
 ·exact OG (b:=w.heap.size) (T:=27) (cs:=cs') (fz:=(0,0)) (D5 _ _ _ _) (by rw[D1];exact AH rfl) (BT _) hsz'.symm hmx
theorem Vw {vs:List (List AF)}{i:Nat}{l:List AF}(h:vs[i]?=some l):(vs.take (i+1)).flatten=(vs.take i).flatten++l:=by
 rw[Dx,h];simp
theorem XT {vs:List (List AF)}(i:Nat):(vs.take i).flatten.length<=vs.flatten.length:=by
 have:vs.flatten=(vs.take i).flatten++(vs.drop i).flatten:=by rw[<-List.flatten_append,Ef]
 rw[this,Bo];omega
theorem fJ (vs:List (List AF))(h0:vs.flatten≠[])(hl:vs.flatten.length<=1000000)(hv:vs.length<=1000000):AI C0 88 [.sl true 1 (vs.map (Ay false))] (Ay false vs.flatten):=by
 refine Ah.walk w1 aN rfl λF=>?_
 have el:(((vs.map (Ay false)).length:Nat):Int)=(vs.length:Int):=by rw[Ap]
 have hpos:0<vs.flatten.length:=List.length_pos_iff.2 h0;have cG:=λm=>JJ 1302 vs.flatten.length hpos hl [] m
 refine AN Ai el AB AB AB AB AB AB ?_;refine AC.loop (α:=Nat×Nat) (λp=>⟨[(0,.sl true 1 (vs.map (Ay false))),(3,i64 ((vs.take p.1).flatten.length:Int)),(9,.sl true 1 (vs.map (Ay false))),(10,i64 (vs.length:Int)),(11,i64 (p.1:Int))],[],p.2⟩) (λp=>vs.length-p.1) (λq=>q.1<=vs.length) (0,_) (BT _) AL ?_;rintro⟨i,n⟩ F hi;dsimp only at hi⊢;rcases BH i vs.length with h2|h2
 ·have e1:=Cg h2
  have wi:=Cm (i:=i) (by omega);obtain⟨x,hx⟩:=CK h2;have hm:(vs.map (Ay false))[i]?=some (.sl false 3 (x.map AF.D)):=by rw[BG,hx];rfl
  have hs:=Vw hx;have hle:=XT (vs:=vs) (i+1);have ex:(((x.map AF.D).length:Nat):Int)=(x.length:Int):=by rw[Ap]
  rw[hs,Bo]at hle;have w1':IntKind.i64.wrap (((vs.take i).flatten.length:Int)+(x.length:Int))=(((vs.take (i+1)).flatten.length:Nat):Int):=by
   rw[wI (by omega) (by omega),hs,Bo];omega
  have g0:decide ((((vs.take (i+1)).flatten.length:Nat):Int)<0)=false:=Ag (by omega);refine AN Ai (E7 e1 wi ex w1' g0 kN) hm AB AB AB AB AB ?_;exact⟨(i+1,_),h2,by dsimp only;omega,AL⟩
 have e1:=Ci h2
 have:i=vs.length:=by omega
 subst this;rw[DG];refine AN Ai e1 AB AB AB AB AB AB ?_;refine Az.own _ (cG _) ?_;rintro d H' n' ⟨rfl,rfl,rfl⟩;refine AN Ai el AB AB AB AB AB AB ?_;refine AC.loop (α:=Nat×Nat×Nat) (λp=>⟨[(6,.osl 1302 p.2.1 3 0 (vs.take p.1).flatten.length),(25,.sl true 1 (vs.map (Ay false))),(26,i64 (vs.length:Int)),(27,i64 (p.1:Int))],[⟨1302,p.2.1,27,3,(vs.take p.1).flatten.map AF.D⟩],p.2.2⟩) (λp=>vs.length-p.1) (λq=>q.1<=vs.length) (0,n+1+1,_) (BT _) AL ?_;clear hi h2 e1;rintro⟨i,g,n⟩ F hi;dsimp only at hi⊢;rcases BH i vs.length with h2|h2
 ·have e1:=Cg h2
  have wi:=Cm (i:=i) (by omega);obtain⟨x,hx⟩:=CK h2;have hm:(vs.map (Ay false))[i]?=some (.sl false 3 (x.map AF.D)):=by rw[BG,hx];rfl
  have hs:=Vw hx;have hle:=XT (vs:=vs) (i+1);have hln:((vs.take i).flatten.map AF.D).length=(vs.take i).flatten.length:=Ap ..;have hlx:(x.map AF.D).length=x.length:=Ap ..;rw[hs,Bo]at hle;obtain⟨R,hR⟩:∃R,(vs.take i).flatten=R:=⟨_,rfl⟩
  obtain⟨X,hX⟩:∃X,x.map AF.D=X:=⟨_,rfl⟩
  have pX:AA (.sl false 3 X):=by rw[<-hX];exact AG
  rw[hR]at hs hle hln⊢;rw[hX]at hm hlx;obtain⟨RD,hRD⟩:∃X,R.map AF.D=X:=⟨_,rfl⟩
  rw[hRD]at hln⊢;refine AN Ai (Au e1 wi kN) hm AB AB AB AB AB ?_;refine⟨(i+1,n+1+1+1+1+1+1,n+1+1+1+1+1+1+1+1+1+1),h2,by dsimp only;omega,?_⟩;dsimp only;rw[hs,Bo,C4,hRD,hX,hlx];rw[B1 (show RD.length<=R.length by omega)];exact AL
 have e1:=Ci h2
 have:i=vs.length:=by omega
 subst this;rw[DG];have hR:=G6 (H:=[⟨1302,g,27,3,vs.flatten.map AF.D⟩]) (Hf:=[]) (k:=1302) (g:=g) (T:=27) (sz:=3) (l:=vs.flatten.map AF.D) rfl;rw[Ap]at hR;refine AN Ai e1 AB AB AB AB AB AB ?_;exact⟨_,hR,AA.out,rfl⟩
end Go.Ide
namespace Go.Ide
open Go.Proofs Go.RowKit
set_option maxRecDepth 20000
section
variable {C:A9} {F B:AX} {ops:Array Oper} {rd:Option Nat}
theorem gj {K1:St->Prop}{Q:Exit->Act->World->Prop}{l2:List Nat}(h2:∀(s1:St) (ρ:Lk) (a:Act) (w:World),K1 s1->Be C F ρ s1 a w->wpOps C.P ops Q l2 a w):∀(l:List Nat) (a:Act) (w:World),wpOps C.P ops (JO C F K1) l a w->wpOps C.P ops Q (l++l2) a w:=by
 intro l
 induction l with
 |nil=>rintro a w ⟨_,s',ρ',hq,hs'⟩;exact h2 s' ρ' a w hq hs'
 |cons i l ih=>
  intro a w h;simp only[ED,wpOps]at h⊢;cases ho:ops[i]? with
  |none=>simp only[ho]at h⊢;exact ih a w h
  |some o=>
   simp only[ho]at h⊢;split
   ·rename_i hw
    rw[AH hw]at h;rcases h with h|⟨_,⟨a0,w0,h0⟩⟩
    ·refine .inl ?_
     unfold Oper.wp Oper.upon at h⊢;split<;>rename_i hr<;>simp only[hr]at h
     ·exact ih _ _ h
     ·exact ih _ _ h
     ·exact ih _ _ h
     ·refine Calls.mono h λe w'' he=>?_
      cases e with
      |returned v=>exact ih _ _ he
      |panicked c=>cases he.1
      |outgrown=>obtain⟨a0,w0,h0⟩:=he;cases h0.1
     ·exact Rows.mono h λ_ _ he=>ih _ _ he
     ·cases h.1
    ·cases h0.1
   ·rename_i hw
    rw[AE hw]at h;exact ih _ _ h
theorem vL {K:St->Prop}{os1 os2:List Oper}{s:St}(h:BE C F ops os1 s (λs1=>BE C F ops os2 s1 K)):BE C F ops (os1++os2) s K:=by
 intro hd l hl ρ a w hs;rw[LF,BX]at hd;have hlen:l.length=os1.length+os2.length:=by
  have:=congrArg List.length hl
  simpa using this
 obtain⟨l1,l2,rfl,e1⟩:∃l1 l2,l=l1++l2/\l1.length=os1.length:=⟨l.take os1.length,l.drop os1.length,(Ef _ _).symm,by rw[Bf];omega⟩
 rw[C4,C4]at hl;obtain⟨h1,h2⟩:=List.append_inj hl (by simpa using e1);exact gj (λs1 ρ a w hk hs=>hk hd.2 l2 h2 ρ a w hs) l1 a w (h hd.1 l1 h1 ρ a w hs)
theorem ut {X:EV}{i:Nat}{s:St}{Q:Exit->AX->St->Prop}(hX:C6 C X)(hnd:EF ops.toList=true)(h:BE C F ops ((List.range ops.size).map λj=>ops.getD j default) s (Q .normal F)):AC C B rd F (.region i ops false) s Q:=by
 refine⟨λhB hd ρ a w hs=>wpIn_region ?_⟩;have hd:=Io hB hd;have h1:=BE.run h (λj hj=>List.mem_range.1 hj) hd hs
 have:=FB (rd:=rd) (Q:=Er C B Q) (l2:=[]) (λ_ _ _ h=>Ih hB (λ_ h=>h) h) (G5 hnd) _ a w h1
 rwa [DV]at this
def T6 (C:A9)(F:AX)(X:EV)(kb:Nat)(ops:Array Oper):List (List Nat×Nat)->List Nat->St->(St->Prop)->Prop
 | [],l,s,K=>Cd C X kb ops l s True λacc s=>acc/\K s
 |(l1,i)::r,l,s,K=>Cd C X kb ops l1 s True λacc s1=>acc/\∃d,(∀(os:List Oper) (K':St->Prop),BE C F ops os ⟨BS s1.env (ops.getD i default).dst d,s1.H,s1.n+1⟩ K'->BE C F ops (ops.getD i default::os) s1 K')/\T6 C F X kb ops r l ⟨BS s1.env (ops.getD i default).dst d,s1.H,s1.n+1⟩ K
def OU:List (List Nat×Nat)->List Nat->List Nat
 | [],l=>l
 |(l1,i)::r,l=>l1++i::OU r l
theorem Xn {X:EV}(hX:C6 C X){kb:Nat}{K:St->Prop}:∀(r:List (List Nat×Nat)) (l:List Nat) (s:St),T6 C F X kb ops r l s K->BE C F ops ((OU r l).map λj=>ops.getD j default) s K
 | [],l,s,h=>(Eo hX (λacc s h=>h) h).2
 |(l1,i)::r,l,s,h=>by
  show BE C F ops ((l1++i::OU r l).map _) s K;rw[C4,CJ];refine vL ?_;refine(Eo (K':=λs1=>BE C F ops (ops.getD i default::(OU r l).map λj=>ops.getD j default) s1 K) hX (λacc s1 h=>⟨h.1,?_⟩) h).2;obtain⟨d,h1,h2⟩:=h.2;exact h1 _ _ (Xn hX r l _ h2)
theorem uu {X:EV}{i:Nat}{s:St}{Q:Exit->AX->St->Prop}(hX:C6 C X)(kb:Nat)(r:List (List Nat×Nat))(l:List Nat)(hl:List.range ops.size=OU r l)(hnd:EF ops.toList=true)(h:T6 C F X kb ops r l s (Q .normal F)):AC C B rd F (.region i ops false) s Q:=
 ut hX hnd (by rw[hl];exact Xn hX r l s h)
def T2 (P:Program) (t:Nat):Prop:=∃(f1 f2:Field) (k1 k2:IntKind),P.underlying t=some (.struct #[f1,f2])/\P.stoodInHeld t=false/\P.eqGuardType P.depth t=false/\f1.name ≠ "_"/\f1.offset=0/\P.underlying f1.type=some (.int k1)/\f2.name ≠ "_"/\f2.offset=1/\P.underlying f2.type=some (.int k2)
theorem Uh {P:Program} {w:World} (d:Nat) {xs ys:Array Value} {f:Field} {fs:List Field} {i:Nat} {ka k:IntKind} {x y:Int} {b:Bool} (f1:f.name ≠ "_") (f2:f.offset=i) (f3:P.underlying f.type=some (.int k)) (hxa:xs[i]?=some (.int ka x)) (hya:ys[i]?=some (.int ka y))
  (ih:(Op.eqFields (d+1) xs ys fs).run P w=.ok b w):(Op.eqFields (d+1) xs ys (f::fs)).run P w=.ok (x==y&&b) w:=by
 have ag:(isAgg f.type).run P w=.ok false w:=by
  unfold isAgg;rw[run_bind,CY f3];rfl
 have part1:(part f.type xs f.offset).run P w=.ok (.int ka x) w:=by
  unfold part;rw[run_bind,ag];dsimp only;rw[AE (by simp),f2];simp only[hxa];rfl
 have part2:(part f.type ys f.offset).run P w=.ok (.int ka y) w:=by
  unfold part;rw[run_bind,ag];dsimp only;rw[AE (by simp),f2];simp only[hya];rfl
 simp only[Op.eqFields];rw[AH f1,run_bind,part1];dsimp only;rw[run_bind,part2];dsimp only;rw[run_bind,run_equalIn_int w d f.type ka k x y f3];dsimp only;cases hb:x==y with
 |true=>simpa using ih
 |false=>rfl
theorem bV {o:Oper}{os:List Oper}{s:St}{K:St->Prop}{t tt:Nat}{x y:Operand}{a1 a2 b1 b2:Int}(hw:B8 ops s.env o=some true)(ho:o.op=.binOp .neq t x y tt)(hT:T2 C.P t)(hx:BD s.env x=.agg [i64 a1,i64 a2])(hy:BD s.env y=.agg [i64 b1,i64 b2])
  (h:BE C F ops os ⟨BS s.env o.dst (Aq (!(a1==b1&&(a2==b2&&true)))),s.H,s.n+1⟩ K):BE C F ops (o::os) s K:=
 BE.step hw (λρ a w hs=>by
  refine⟨_,ρ,w,.inl ?_,Ob.pure hs (.prim _),λe he=>C3 (hs.gen e he)⟩;have rx:=C7 hs.env x;have ry:=C7 hs.env y;rw[hx]at rx;rw[hy]at ry;unfold execOp;simp only[ho];generalize a.eval x=vx at rx⊢;generalize a.eval y=vy at ry⊢;cases rx with
  |agg n1 o1 r1=>
   cases ry with
   |agg n2 o2 r2=>
    rename_i xs ys;obtain⟨f1,f2,k1,k2,c1,c2,c3,c4,c5,c6,c7,c8,c9⟩:=hT;have at_:∀ {vs:Array Value} {u1 u2:Int},vs.size=[i64 u1,i64 u2].length->(∀(i:Nat) (d:D),[i64 u1,i64 u2][i]?=some d->AU ρ (AK F.X ρ s.H) w d (vs.getD i undef))->vs[0]?=some (.int .i64 u1)/\vs[1]?=some (.int .i64 u2):=λ{vs u1 u2} n r=>by
     have q0:=r 0 _ rfl;have q1:=r 1 _ rfl;have m0:0<vs.size:=by rw[n];exact Nat.zero_lt_succ _
     have m1:1<vs.size:=by rw[n];exact Gu _
     rw[Av,Ba m0,Hy]at q0;rw[Av,Ba m1,Hy]at q1;rw[Ba m0,Ba m1];generalize vs[0]=z0 at q0;generalize vs[1]=z1 at q1;cases q0;cases q1;exact⟨rfl,rfl⟩
    obtain⟨x0,x1⟩:=at_ n1 r1;obtain⟨y0,y1⟩:=at_ n2 r2;have eqf:C.P.fieldsOf t = #[f1,f2]:=by unfold Program.fieldsOf;rw[c1]
    have run:(Op.equalIn 10000 t (.agg xs) (.agg ys)).run C.P w=.ok (a1==b1&&(a2==b2&&true)) w:=by
     rw[show(10000:Nat)=9998+1+1 from rfl,run_equalIn_struct w _ t xs ys (by rw[eqf];exact c1) c2,eqf];exact Uh 9998 c4 c5 c6 x0 y0 (Uh 9998 c7 c8 c9 x1 y1 rfl)
    have r3:(do eqGuard .neq t x y (.agg xs) (.agg ys);binOp .neq t (.agg xs) (.agg ys):Sem Value).run C.P w=.ok (.bool (!(a1==b1&&(a2==b2&&true)))) w:=by
     rw[run_bind,run_eqGuard_agg w .neq t x y xs ys c3];dsimp only;rw[run_neq_struct,run];rfl
    rw[run_bind,r3];rfl) h
end
def Qk (P:Program)(t:Nat):Bool:=match P.underlying t with
 |some (.int _)=>true
 |_=>false
theorem XE {P:Program}{t:Nat}(h:Qk P t=true):∃k,P.underlying t=some (.int k):=by
 unfold Qk at h;split at h
 ·rename_i k hk;exact⟨k,hk⟩
 ·cases h
def b9 (P:Program):List Field->Bool
 | [f1,f2]=>(f1.name != "_")&&Nat.beq f1.offset 0&&Qk P f1.type&&(f2.name != "_")&&Nat.beq f2.offset 1&&Qk P f2.type
 |_=>false
def b8 (P:Program)(t:Nat):Bool:=match P.underlying t with
 |some (.struct fs)=>!(P.stoodInHeld t) && !(P.eqGuardType P.depth t)&&b9 P fs.toList
 |_=>false
theorem rm {P:Program}{t:Nat}(h:b8 P t=true):T2 P t:=by
 unfold b8 at h;split at h<;>try(cases h;done)
 rename_i fs hu;simp only[BX,Bd]at h;obtain⟨⟨h1,h2⟩,h3⟩:=h;obtain⟨l⟩:=fs
 match l,h3 with
 | [f1,f2],h3=>
  simp only[b9,BX,bne_iff_ne]at h3;obtain⟨⟨⟨⟨⟨g1,g2⟩,g3⟩,g4⟩,g5⟩,g6⟩:=h3;obtain⟨k1,e1⟩:=XE g3;obtain⟨k2,e2⟩:=XE g6;exact⟨f1,f2,k1,k2,hu,h1,h2,g1,By g2,e1,g4,By g5,e2⟩
theorem Xu:T2 C0.P 91:=rm (by kernel_rfl)
open Go.Sort
set_option maxHeartbeats 4000000
def lA:List AF:=[Ca 10,Cv 6]
def lB:List AF:=[Ca 5]
def cA:D:=Ay false lA
def cB:D:=Ay false lB
def DM:D:=.agg [str (sb Le),i64 4,i64 30,i64 12,.sl false 1 [cA,cB]]
theorem uV:AI C0 47 [] DM:=by
 have h:=se.loosen 10
 rwa [show loosen 10 bY=DM from rfl]at h
theorem XN {x:AF}(h:decide (x.grain.length<=1000)&&decide (x.shs.length<=1000)&&x.shs.all (λs=>decide (s.lot.length<=1000)&&decide (s.part.length<=40))=true):x.lite:=by
 simp only[BX,Gs,CI]at h;obtain⟨⟨h1,h2⟩,h3⟩:=h;exact⟨⟨by omega,by omega,λs hs=>⟨by have:=(h3 s hs).1;omega,by have:=(h3 s hs).2;omega⟩⟩,h3⟩
theorem QF:∀x∈lA,x.lite:=by
 intro x hx;simp only[lA,A0,DC,or_false]at hx;rcases hx with rfl|rfl<;>exact XN rfl
theorem rH:∀x∈lB,x.lite:=by
 intro x hx;simp only[lB,A0,DC,or_false]at hx;subst hx;exact XN rfl
theorem P2:B9 lA=0:=by kernel_rfl
theorem sA:B9 lB=0:=by kernel_rfl
theorem mL:Df lA=[(tA,13),(tB,3)]:=by kernel_rfl
theorem Tm:Ec (Bw lA)=[(tA,13),(tB,3)]:=by rw[<-M8];exact mL
theorem Xj:(Bw lA).any (λp=>CZ p.2)=false:=by kernel_rfl
theorem mM:Nl lA=0:=by
 unfold Nl Gd;rw[AE (by rw[P2];exact λh=>h rfl),Xj];rfl
theorem mN:Nm lA=[(tA,13),(tB,3)]:=by
 unfold Nm Hk;rw[AE (by rw[P2];exact λh=>h rfl),Xj,Tm];rfl
def RA:List UInt8:=[49,51]
def t3:List UInt8:=[51]
def Fs:List UInt8:=[49,51,47,49,54]
def Fv:List UInt8:=[51,47,49,54]
def Jx (m:Int):AF:=⟨EZ,m,[⟨tA,Fs⟩,⟨tB,Fv⟩]⟩
theorem tl:Bg (tA,13)=CF (tA,RA):=by unfold Bg CF;rw[show Ao 13=RA by kernel_rfl]
theorem tn:Bg (tB,3)=CF (tB,t3):=by unfold Bg CF;rw[show Ao 3=t3 by kernel_rfl]
theorem nE:AI C0 36 [cA] (.tup [.sl false 2 [CF (tA,RA),CF (tB,t3)],i64 0]):=by
 have h:=aq false lA (by decide) QF;rw[mM,mN,CJ,CJ,List.map_nil,tl,tn]at h;exact h
theorem Qb:lA.map (Dd EZ)=lA:=rfl
theorem ru:Gp lA=0:=by kernel_rfl
theorem tv:[((tA,13):List UInt8×Rat),(tB,3)].any (λp=>CZ (p.2/(BN lA:Rat)))=false:=by kernel_rfl
theorem tw:(Bw lA).length=2:=by kernel_rfl
theorem Zw:GK lA=0:=by
 unfold GK;rw[AE (by rw[ru];exact λh=>h rfl),AE (by rw[tw];decide),Tm,tv];rfl
theorem TO:ER lA=[⟨tA,Fs⟩,⟨tB,Fv⟩]:=by
 unfold ER;rw[Tm];kernel_rfl
theorem QR:BN lA=16:=by kernel_rfl
theorem rz:Jy lA=Jx 16:=by rw[Xe Zw,TO,QR];rfl
theorem Xk:Gg lA EZ=0:=by kernel_rfl
theorem Xl:Hn lA EZ=0:=by unfold Hn;rw[Xk,Qb,Zw];rfl
theorem mO:Kw lA EZ=Jx 16:=by unfold Kw;rw[Xk,Qb,rz];rfl
theorem nK:AI C0 11 [cA,str (sb EZ)] (.tup [(Jx 16).D,i64 0]):=by
 have h:=ar false lA EZ (by decide) QF (by decide);rw[Xl,mO]at h;exact h
theorem rt:FP lA 15=⟨EZ,1,[⟨tA,Fs⟩,⟨tB,Fv⟩]⟩:=by
 unfold FP;rw[QR,show(CG lA 0).grain=EZ from rfl,Qb,TO];rfl
theorem Zv:Gf (FP lA 15)=[(tA,mkRat 13 16),(tB,mkRat 3 16)]:=by rw[rt];kernel_rfl
theorem Zu:[((tA,mkRat 13 16):List UInt8×Rat),(tB,mkRat 3 16)].any (λp=>CZ p.2)=false:=by kernel_rfl
theorem rr:Gd (Bw [FP lA 15])=0:=by
 unfold Gd;rw[(SX lA 15).1,Zv,Zu];rfl
theorem sB:D8 lA=true:=by kernel_rfl
theorem TP:IS lA 15=0:=by
 unfold IS;rw[P2,AE (λh=>h rfl),AE (by decide),QR,AE (by decide),sB,AE (λh=>by cases h),show(CG lA 0).grain=EZ from rfl,Xl,AE (λh=>h rfl),AE (by decide),rr]
theorem sE:QY lA 15=Jx 15:=by
 unfold QY;rw[TP,AE (λh=>h rfl),show(CG lA 0).grain=EZ from rfl,Qb,TO];rfl
theorem sC:QX lA 15=[(tA,mkRat 13 16),(tB,mkRat 3 16)]:=by
 unfold QX Hk;rw[TP,AE (λh=>h rfl),QR,AE (by decide),(SX lA 15).2,(SX lA 15).1,Zv,Zu];rfl
theorem tq:Bg (tA,mkRat 13 16)=CF (tA,Fs):=by unfold Bg CF;rw[show Ao (tA,mkRat 13 16).2=Fs by kernel_rfl]
theorem tu:Bg (tB,mkRat 3 16)=CF (tB,Fv):=by unfold Bg CF;rw[show Ao (tB,mkRat 3 16).2=Fv by kernel_rfl]
theorem jC:AI C0 12 [cA,i64 15] (.tup [(Jx 15).D,.sl false 2 [CF (tA,Fs),CF (tB,Fv)],i64 0]):=by
 have h:=kU false lA 15 (by decide) QF;rw[TP,sE,sC,CJ,CJ,List.map_nil,tq,tu]at h;exact h
theorem nI:AI C0 37 [cA] (i64 0):=by
 have h:=Js false lA (by decide) λx hx=>(QF x hx).1
 rw[P2]at h;exact h
theorem nJ:AI C0 37 [cB] (i64 0):=by
 have h:=Js false lB (by decide) λx hx=>(rH x hx).1
 rw[sA]at h;exact h
theorem nH:AI C0 56 [str (sb tB)] (Aq true):=by
 have h:=Pb tB;rw[show DO tB=true by kernel_rfl]at h;exact h
theorem t6 (x:AF)(h:x.shs.length<=1000000)(m:Int):AI C0 63 [x.D,i64 m] (x.w m).D:=TK x m h
theorem S3 {l:List AF}(h:l.all (λx=>decide (x.shs.length<=1000000))=true):∀x∈l,∀m,AI C0 63 [x.D,i64 m] (x.w m).D:=λx hx m=>t6 x (Cw (CI.1 h x hx)) m
theorem SZ {l:List AF}(h:l.all (λx=>decide (0<=x.mass)&&decide (x.mass<=1000000000))=true):∀x∈l,0<=x.mass/\x.mass<=1000000000:=λx hx=>by
 have:=CI.1 h x hx
 simpa using this
theorem vh:AI C0 84 [Ay false [Cv 2]] (Ay false [Cv 2]):=CA DJ 400 40 (by kernel_rfl)
theorem vj:AI C0 84 [Ay false [Ca 1]] (Ay false [Ca 1]):=CA DJ 400 40 (by kernel_rfl)
theorem vk:AI C0 84 [Ay false [Ca 9,Cv 4]] (Ay false [Ca 9,Cv 4]):=CA DJ 400 40 (by kernel_rfl)
theorem Z6:AI C0 59 [cA] (i64 16):=CA DJ 400 40 (by kernel_rfl)
theorem jo:AI C0 91 [cA,i64 2,Aq true] (Ay false [Cv 2]):=Xg false true lA 2 (by decide) (by decide) (SZ rfl) (S3 rfl) _ vh
theorem jp:AI C0 91 [cA,i64 1,Aq false] (Ay false [Ca 1]):=Xg false false lA 1 (by decide) (by decide) (SZ rfl) (S3 rfl) _ vj
theorem mz:AI C0 92 [cA,i64 1,i64 2] (Ay false [Ca 9,Cv 4]):=dX false lA 1 2 (by decide) (by decide) (by decide) 16 (by decide) (SZ rfl) Z6 (S3 rfl) _ vk
theorem re:AI C0 142 [cA,str (sb tB)] (.sl false 2 [FK (11,16)]):=by
 have h:=dF false lA tB (by decide) λx hx=>by
  simp only[lA,A0,DC,or_false]at hx;rcases hx with rfl|rfl<;>exact⟨by decide,by decide,by decide⟩
 rw[show KM tB lA 0=[(11,16)] by kernel_rfl]at h;exact h
theorem nB:AI C0 88 [.sl true 1 [Ay false [Cv 2],Ay false [Ca 1]]] (Ay false [Cv 2,Ca 1]):=fJ [[Cv 2],[Ca 1]] (by simp) (by decide) (by decide)
def OB:List (Nat×List D×D):=[(37,[cA],i64 0),(37,[cB],i64 0),(56,[str (sb tB)],Aq true),
 (91,[cA,i64 2,Aq true],Ay false [Cv 2]),(91,[cA,i64 1,Aq false],Ay false [Ca 1]),(92,[cA,i64 1,i64 2],Ay false [Ca 9,Cv 4]),
 (142,[cA,str (sb tB)],.sl false 2 [FK (11,16)]),(88,[.sl true 1 [Ay false [Cv 2],Ay false [Ca 1]]],Ay false [Cv 2,Ca 1])]
instance um:AA cA:=by unfold cA;exact AG
instance un:AA cB:=by unfold cB;exact AG
instance q_cA:Aj cA:=by unfold cA;exact AG
instance q_cB:Aj cB:=by unfold cB;exact AG
theorem Xv:∀e∈OB,AI C0 e.1 e.2.1 e.2.2/\Af e.2.1:=by
 intro e he;simp only[OB,A0,DC,or_false]at he;rcases he with rfl|rfl|rfl|rfl|rfl|rfl|rfl|rfl
 ·exact⟨nI,AG⟩
 ·exact⟨nJ,AG⟩
 ·exact⟨nH,AG⟩
 ·exact⟨jo,AG⟩
 ·exact⟨jp,AG⟩
 ·exact⟨mz,AG⟩
 ·exact⟨re,AG⟩
 ·exact⟨nB,AG⟩
noncomputable def X5:EV:=⟨Oa,LN.get,Mg.get,λ_=>false,MI OB,Q5,Jz⟩
theorem D4:Et C0 X5:=⟨T1,Qa,JI,R6 OB Xv,by kernel_rfl,Y9,Pq⟩
def bZ:D:=.agg [str (sb Le),i64 4,i64 30,i64 12,.sl false 1 [Ay false [Ca 9,Cv 4],Ay false [Ca 5]]]
theorem nC:AI C0 48 [DM,i64 0,i64 3] (.tup [bZ,Ay false [Cv 2,Ca 1],i64 0]):=CA D4 400 40 (by kernel_rfl)
abbrev Tj (ls:List Int)(i:Int):D:=.clo (.func 131) [] [.pptr (.sl false 1 (DN ls)),.pptr (i64 i),.pptr DM]
abbrev rF (ls:List Int)(i:Int):D:=.clo (.func 78) [] [.pptr DM,.pptr (.sl false 1 (DN ls)),.pptr (i64 i)]
theorem iL:AI C0 77 [.sl false 1 (DN [16,5]),i64 ((0:Nat):Int),Tj [16,5] ((0:Nat):Int)] (.sl false 1 [i64 23]):=CA D4 400 40 (by kernel_rfl)
theorem iM:AI C0 77 [.sl false 1 (DN [16,5]),i64 ((1:Nat):Int),Tj [16,5] ((1:Nat):Int)] (.sl false 1 [i64 1]):=CA D4 400 40 (by kernel_rfl)
theorem iN:AI C0 77 [.sl false 1 (DN [0,5]),i64 ((1:Nat):Int),Tj [0,5] ((1:Nat):Int)] (.sl false 1 [i64 17]):=CA D4 400 40 (by kernel_rfl)
theorem iO:AI C0 77 [.sl false 1 (DN [16,5]),i64 ((1:Nat):Int),rF [16,5] ((1:Nat):Int)] (.sl false 1 [i64 23]):=CA D4 400 40 (by kernel_rfl)
theorem vZ:AI C0 76 [i64 16,.sl false 1 [i64 23]] (i64 16):=CA D4 400 40 (by kernel_rfl)
theorem v6:AI C0 76 [i64 5,.sl false 1 [i64 1]] (i64 1):=CA D4 400 40 (by kernel_rfl)
theorem v7:AI C0 76 [i64 5,.sl false 1 [i64 17]] (i64 5):=CA D4 400 40 (by kernel_rfl)
theorem v8:AI C0 76 [i64 25,.sl false 1 [i64 23]] (i64 23):=CA D4 400 40 (by kernel_rfl)
instance d5w:AA DM:=by unfold DM;exact AG
instance d5z:Aj DM:=by unfold DM;exact AG
theorem ve:AI C0 74 [DM,.sl false 1 (DN [16,5]),i64 ((0:Nat):Int)] (i64 16):=TE DM ⟨_,_,_,_,_,rfl⟩ false _ 0 16 rfl _ 16 iL vZ
theorem vf:AI C0 74 [DM,.sl false 1 (DN [16,5]),i64 ((1:Nat):Int)] (i64 1):=TE DM ⟨_,_,_,_,_,rfl⟩ false _ 1 5 rfl _ 1 iM v6
theorem vg:AI C0 74 [DM,.sl false 1 (DN [0,5]),i64 ((1:Nat):Int)] (i64 5):=TE DM ⟨_,_,_,_,_,rfl⟩ false _ 1 5 rfl _ 5 iN v7
theorem rc:AI C0 75 [DM] (.sl false 1 (DN [16,5])):=CA D4 400 40 (by kernel_rfl)
theorem nA:AI C0 73 [DM,.sl true 1 [i64 1]] (i64 0):=CA D4 400 40 (by kernel_rfl)
theorem r9:AI C0 32 [DM] (i64 0):=CA D4 400 40 (by kernel_rfl)
theorem jn:AI C0 25 [DM,i64 1] (.tup [i64 23,i64 0]):=lz DM _ _ _ _ 30 rfl _ 1 5 rfl _ 23 nA rc iO 25 rfl v8
def T3:List (Nat×List D×D):=(74,[DM,.sl false 1 (DN [16,5]),i64 1],i64 1)::OB
theorem mE:∀e∈T3,AI C0 e.1 e.2.1 e.2.2/\Af e.2.1:=by
 intro e he;rcases A0.1 he with rfl|he
 ·exact⟨vf,AG⟩
 ·exact Xv e he
noncomputable def be:EV:=⟨Oa,LN.get,Mg.get,λ_=>false,MI T3,Q5,Jz⟩
theorem r6:Et C0 be:=⟨T1,Qa,JI,R6 T3 mE,by kernel_rfl,Y9,Pq⟩
theorem nF:AI C0 24 [DM,i64 1] (.tup [i64 1,i64 0]):=CA r6 400 40 (by kernel_rfl)
theorem jm:AI C0 49 [DM,i64 0,str (sb tB)] (.tup [i64 2,i64 0]):=CA D4 400 40 (by kernel_rfl)
theorem nD:AI C0 50 [DM,i64 0,str (sb tB)] (.tup [i64 8,i64 0]):=CA D4 400 40 (by kernel_rfl)
def b6 (l:List Int):Int:=if l=[16,5]then 16 else 5
theorem kR:AI C0 51 [DM] (.tup [.sl false 2 [JM (0,16),JM (1,5)],i64 0]):=by
 have h:=jy (str (sb Le)) (i64 4) (i64 30) (i64 12) false [cA,cB] [16,5] rfl (by simp) (by decide) (λi c m h1 h2=>by
  match i with
  | 0=>cases h1;cases h2;exact Z6
  | 1=>cases h1;cases h2;exact CA D4 400 40 (by kernel_rfl)
  |i+2=>cases h1) (λc hc=>by
  simp only[A0,DC,or_false]at hc;rcases hc with rfl|rfl
  ·exact⟨_,_,rfl,um⟩
  ·exact⟨_,_,rfl,un⟩) r9 b6 (λl=>l=[16,5]\/l=[0,5]\/l=[0,0]) (.inl rfl) (λl hl hn=>by
  rcases hl with rfl|rfl|rfl
  ·exact⟨ve,rfl,.inr (.inl rfl)⟩
  ·exact⟨vg,rfl,.inr (.inr rfl)⟩
  ·exact Aa rfl hn)
 rw[show KJ b6 257 [16,5] []=([(0,16),(1,5)],0) by kernel_rfl]at h;exact h
abbrev Wy:Dr:=[(16,[0,1,2,3,4,5,6,7,8,9,10,11,12,13,14,15,16,17,18],[19,20,21])]
open Go.Proofs Go.RowKit Go.Sort
set_option maxRecDepth 20000
set_option maxHeartbeats 8000000
def uO:D:=.sl true 2 [.agg [str (sb tA),str (sb Fs)],.agg [str (sb tB),str (sb Fv)]]
theorem uj (m:Int):AI C0 52 [.sl false 2 [.agg [str (sb tA),str (sb Fs)],.agg [str (sb tB),str (sb Fv)]],uO] (Aq true):=CA D4 400 40 (by kernel_rfl)
theorem rG:AI C0 22 [.sl false 2 [CF (tA,Fs),CF (tB,Fv)],.sl true 2 [CF (tA,Fs),CF (tB,Fv)]] (Aq true):=CA D4 400 40 (by kernel_rfl)
theorem ud:AI C0 53 [i64 2,Aq true] (Ek (Cv 2)):=CA D4 400 40 (by kernel_rfl)
theorem ue:AI C0 53 [i64 1,Aq false] (Ek (Ca 1)):=CA D4 400 40 (by kernel_rfl)
theorem uf:AI C0 53 [i64 9,Aq false] (Ek (Ca 9)):=CA D4 400 40 (by kernel_rfl)
theorem ug:AI C0 53 [i64 4,Aq true] (Ek (Cv 4)):=CA D4 400 40 (by kernel_rfl)
theorem uh:AI C0 17 [Ay false [Cv 2,Ca 1],.sl true 3 [Ek (Cv 2),Ek (Ca 1)]] (Aq true):=CA D4 400 40 (by kernel_rfl)
theorem ui:AI C0 17 [Ay false [Ca 9,Cv 4],.sl true 3 [Ek (Ca 9),Ek (Cv 4)]] (Aq true):=CA D4 400 40 (by kernel_rfl)
theorem mu:AI C0 10 [] (Aq true):=by
 refine Ah.walk w1 Z3 rfl λF=>?_
 have cE:=uV;have cL:=nE;have cP:AI C0 11 [cA,.prim (.string ⟨#[119,104,101,97,116]⟩)] (.tup [(Jx 16).D,i64 0]):=nK;have cD:=nC;have cM:=nF;have cS:=jn;have cF:AI C0 49 [DM,i64 0,.prim (.string ⟨#[98]⟩)] (.tup [i64 2,i64 0]):=jm;have cLa:AI C0 50 [DM,i64 0,.prim (.string ⟨#[98]⟩)] (.tup [i64 8,i64 0]):=nD;have cEm:=kR;have cSh:=jC;have pA:AA cA:=AG;have pB:AA cB:=AG;have pX:AA DM:=AG;unfold DM at cE cD cM cS cF cLa cEm pX;have hA:∃T,cA=.sl false 3 T:=⟨_,rfl⟩
 have hB:∃T,cB=.sl false 3 T:=⟨_,rfl⟩
 obtain⟨TA,hA⟩:=hA;obtain⟨TB,hB⟩:=hB;rw[hA,hB]at cE cD cM cS cF cLa cEm pX;rw[hA]at cL cP cSh pA;rw[hB]at pB;have hm:([.sl false 3 TA,.sl false 3 TB]:List D)[0]?=some (.sl false 3 TA):=rfl;have dP:(Jx 16).D=.agg [str (sb EZ),i64 16,.sl false 2 [.agg [str (sb tA),str (sb Fs)],.agg [str (sb tB),str (sb Fv)]]]:=rfl;have dP2:(Jx 15).D=.agg [str (sb EZ),i64 15,.sl false 2 [.agg [str (sb tA),str (sb Fs)],.agg [str (sb tB),str (sb Fv)]]]:=rfl;rw[dP]at cP;rw[dP2]at cSh;unfold bZ at cD;refine AN Wy kB cE hm cL cP cD cM ?_;refine cI cS ?_;refine sR 700 ?_;refine cI cF ?_;refine sR 800 ?_;refine cI cLa ?_;refine sR 900 ?_;refine cI cEm ?_;refine sR 1000 ?_;refine Bl kT hm ?_;refine AD kB ?_;refine cI cSh ?_;have z0:IntKind.i64.wrap (0+0)=0:=rfl;have n0:((0:Int) != 0)=false:=rfl;have n1:((1:Int) != 1)=false:=rfl;have n23:((23:Int) != 23)=false:=rfl;have n2:((2:Int) != 2)=false:=rfl;have n2':(((2:Nat):Int) != 2)=false:=rfl;have s0:([.agg [i64 0,i64 16],.agg [i64 1,i64 5]]:List D)[0]?=some (.agg [i64 0,i64 16]):=rfl;have s1:([.agg [i64 0,i64 16],.agg [i64 1,i64 5]]:List D)[1]?=some (.agg [i64 1,i64 5]):=rfl;have n8:((8:Int) != 8)=false:=rfl;obtain⟨C1,hC1⟩:∃d,Ay false [Ca 9,Cv 4]=d:=⟨_,rfl⟩
 obtain⟨O1,hO1⟩:∃d,Ay false [Cv 2,Ca 1]=d:=⟨_,rfl⟩
 rw[hC1,hO1];refine AC.weak ⟨[(2,.sl false 2 [.agg [str (sb tA),str (sb RA)],.agg [str (sb tB),str (sb t3)]]),(3,i64 0),(4,.optr 308 22 3 0 0),(5,i64 0),(6,.optr 406 31 5 0 0),(7,O1),(8,i64 0),(9,i64 1),(10,i64 0),(11,i64 23),(12,i64 0),(13,i64 2),(14,i64 0),(15,i64 8),(16,i64 0),(17,.sl false 2 [.agg [i64 0,i64 16],.agg [i64 1,i64 5]]),(18,i64 0),(19,.optr 1009 79 3 0 0),(20,.sl false 2 [.agg [str (sb tA),str (sb Fs)],.agg [str (sb tB),str (sb Fv)]]),(21,i64 0)],
  [⟨1009,79,27,3,[.agg [str (sb EZ),i64 15,.sl false 2 [.agg [str (sb tA),str (sb Fs)],.agg [str (sb tB),str (sb Fv)]]]]⟩,⟨406,31,48,5,[.agg [str (sb Le),i64 4,i64 30,i64 12,.sl false 1 [C1,Ay false [Ca 5]]]]⟩,⟨308,22,27,3,[.agg [str (sb EZ),i64 16,.sl false 2 [.agg [str (sb tA),str (sb Fs)],.agg [str (sb tB),str (sb Fv)]]]]⟩],_⟩ AL ?_
 refine AC.seq ?_;refine AC.seq ?_;refine uu w1 1100 [([0,1,2,3,4,5,6,7,8,9,10,11,12,13,14,15,16,17,18,19,20,21,22,23,24,25,26,27,28,29,30,31,32,33,34,35,36,37,38,39,40,41,42,43],44),([45,46,47,48,49,50],51)] [52] rfl (by kernel_rfl) ?_;change Cd _ _ _ _ _ _ _ _;refine AD (CP z0 n0 n1 n23 n2 n2' (Au n8 kT kF)) ?_;refine AD (CP z0 n0 n1 n23 n2 n2' (Au n8 kT kF)) ?_;refine AD (CP z0 n0 n1 n23 n2 n2' (Au n8 kT kF)) ?_;refine AD (CP z0 n0 n1 n23 n2 n2' (Au n8 kT kF)) ?_;refine AD (CP z0 n0 n1 n23 n2 n2' (Au n8 kT kF)) ?_;refine AD (Au n2' kT kF) ?_;refine Bl kF s0 ?_;refine AD (Au n2' kT kF) ?_;refine AD (Au n2' kT kF) ?_;refine⟨Aq false,λos K' hk=>bV (a1:=0) (a2:=16) (b1:=0) (b2:=16) rfl rfl Xu rfl rfl hk,?_⟩;change Cd _ _ _ _ _ ⟨(124,Aq false)::_,_,_⟩ _ _;refine At ?_;refine AD (Au n2' kT kF) ?_;refine AD (Au n2' kT kF) ?_;refine Bl kF s1 ?_;refine AD (Au n2' kT kF) ?_;refine AD (Au n2' kT kF) ?_;refine⟨Aq false,λos K' hk=>bV (a1:=1) (a2:=5) (b1:=1) (b2:=5) rfl rfl Xu rfl rfl hk,?_⟩;change Cd _ _ _ _ _ ⟨(131,Aq false)::_,_,_⟩ _ _;refine At ?_;refine AD (Au n2' kT kF) ?_;refine AJ ?_;refine Ak ?_;refine AC.weak ⟨[(2,.sl false 2 [.agg [.prim (.string ⟨#[97]⟩),.prim (.string ⟨#[49,51]⟩)],.agg [.prim (.string ⟨#[98]⟩),.prim (.string ⟨#[51]⟩)]]),(4,.optr 308 22 3 0 0),(6,.optr 406 31 5 0 0),(7,O1),(19,.optr 1009 79 3 0 0),(20,.sl false 2 [.agg [.prim (.string ⟨#[97]⟩),.prim (.string ⟨#[49,51,47,49,54]⟩)],.agg [.prim (.string ⟨#[98]⟩),.prim (.string ⟨#[51,47,49,54]⟩)]])],
  [⟨1009,79,27,3,[.agg [str (sb EZ),i64 15,.sl false 2 [.agg [.prim (.string ⟨#[97]⟩),.prim (.string ⟨#[49,51,47,49,54]⟩)],.agg [.prim (.string ⟨#[98]⟩),.prim (.string ⟨#[51,47,49,54]⟩)]]]]⟩,⟨406,31,48,5,[.agg [str (sb Le),i64 4,i64 30,i64 12,.sl false 1 [C1,Ay false [Ca 5]]]]⟩,⟨308,22,27,3,[.agg [str (sb EZ),i64 16,.sl false 2 [.agg [.prim (.string ⟨#[97]⟩),.prim (.string ⟨#[49,51,47,49,54]⟩)],.agg [.prim (.string ⟨#[98]⟩),.prim (.string ⟨#[51,47,49,54]⟩)]]]]⟩],_⟩ AL ?_
 have h1:AI C0 52 [.sl false 2 [.agg [.prim (.string ⟨#[97]⟩),.prim (.string ⟨#[49,51,47,49,54]⟩)],.agg [.prim (.string ⟨#[98]⟩),.prim (.string ⟨#[51,47,49,54]⟩)]],.sl true 2 [.agg [.prim (.string ⟨#[97]⟩),.prim (.string ⟨#[49,51,47,49,54]⟩)],.agg [.prim (.string ⟨#[98]⟩),.prim (.string ⟨#[51,47,49,54]⟩)]]] (Aq true):=uj 0;have h2:AI C0 22 [.sl false 2 [.agg [.prim (.string ⟨#[97]⟩),.prim (.string ⟨#[49,51,47,49,54]⟩)],.agg [.prim (.string ⟨#[98]⟩),.prim (.string ⟨#[51,47,49,54]⟩)]],.sl true 2 [.agg [.prim (.string ⟨#[97]⟩),.prim (.string ⟨#[49,51,47,49,54]⟩)],.agg [.prim (.string ⟨#[98]⟩),.prim (.string ⟨#[51,47,49,54]⟩)]]] (Aq true):=rG;have e1:Bb ⟨#[97]⟩ ⟨#[97]⟩=true:=strEq_self _;have e2:Bb ⟨#[49,51]⟩ ⟨#[49,51]⟩=true:=strEq_self _;have e3:Bb ⟨#[98]⟩ ⟨#[98]⟩=true:=strEq_self _;have e4:Bb ⟨#[51]⟩ ⟨#[51]⟩=true:=strEq_self _;have x0:([.agg [.prim (.string ⟨#[97]⟩),.prim (.string ⟨#[49,51]⟩)],.agg [.prim (.string ⟨#[98]⟩),.prim (.string ⟨#[51]⟩)]]:List D)[0]?=some (.agg [.prim (.string ⟨#[97]⟩),.prim (.string ⟨#[49,51]⟩)]):=rfl;have x1:([.agg [.prim (.string ⟨#[97]⟩),.prim (.string ⟨#[49,51]⟩)],.agg [.prim (.string ⟨#[98]⟩),.prim (.string ⟨#[51]⟩)]]:List D)[1]?=some (.agg [.prim (.string ⟨#[98]⟩),.prim (.string ⟨#[51]⟩)]):=rfl;have b1:(!(true&&(true&&true)))=false:=rfl;have n16:((16:Int) != 16)=false:=rfl;have n15:((15:Int) != 15)=false:=rfl;have k1:=ud;have k2:=ue;have k3:=uf;have k4:=ug;have k5:=uh;have k6:=ui;have pA1:Af [Ay false [Cv 2,Ca 1],.sl true 3 [Ek (Cv 2),Ek (Ca 1)]]:=⟨λd hd=>by
  simp only[A0,DC,or_false]at hd;rcases hd with rfl|rfl
  ·exact(AG:AA (Ay false [Cv 2,Ca 1])).out
  ·exact GZ (n:=30) (by kernel_rfl)⟩
 have pA2:Af [Ay false [Ca 9,Cv 4],.sl true 3 [Ek (Ca 9),Ek (Cv 4)]]:=⟨λd hd=>by
  simp only[A0,DC,or_false]at hd;rcases hd with rfl|rfl
  ·exact(AG:AA (Ay false [Ca 9,Cv 4])).out
  ·exact GZ (n:=30) (by kernel_rfl)⟩
 rw[hO1]at k5 pA1;rw[hC1]at k6 pA2;obtain⟨u1,u2,u3,hu⟩:∃a b c,Ek (Cv 2)=.agg [a,b,c]:=⟨_,_,_,rfl⟩
 obtain⟨v1,v2,v3,hv⟩:∃a b c,Ek (Ca 1)=.agg [a,b,c]:=⟨_,_,_,rfl⟩
 obtain⟨y1,y2,y3,hy⟩:∃a b c,Ek (Ca 9)=.agg [a,b,c]:=⟨_,_,_,rfl⟩
 obtain⟨z1,z2,z3,hz⟩:∃a b c,Ek (Cv 4)=.agg [a,b,c]:=⟨_,_,_,rfl⟩
 rw[hu]at k1;rw[hv]at k2;rw[hy]at k3;rw[hz]at k4;rw[hu,hv]at k5 pA1;rw[hy,hz]at k6 pA2;obtain⟨C2,hC2⟩:∃d,Ay false [Ca 5]=d:=⟨_,rfl⟩
 obtain⟨C1L,hC1L⟩:∃T,C1=.sl false 3 T:=⟨_,hC1.symm⟩
 rw[hC2,hC1L];rw[hC1L]at k6 pA2;have q0:([.sl false 3 C1L,C2]:List D)[0]?=some (.sl false 3 C1L):=rfl;have n2e:(((2:Nat):Int)==2)=true:=rfl;refine AN Wy (CP b1 n2' n16 n15 e1 e2 (Bh e3 e4 kT kF)) x0 x1 h1 h2 AB AB ?_;refine BQ.same _ (k1) AG ?_;refine BK ?_;refine AD (Au n2e kT kF) ?_;refine BQ.same _ (k2) AG ?_;refine BK ?_;refine AD (Au n2e kT kF) ?_;refine BQ.same _ k5 pA1 ?_;refine At ?_;refine AD (Au n2e kT kF) ?_;refine AD (Au n2e kT kF) ?_;refine AD (Au n2e kT kF) ?_;refine Bl kT q0 ?_;refine AD (Au n2e kT kF) ?_;refine AD (Au n2e kT kF) ?_;refine LI kT ?_;refine BQ.same _ (k3) AG ?_;refine BK ?_;refine LI kT ?_;refine BQ.same _ (k4) AG ?_;refine BK ?_;refine AD (Au n2e kT kF) ?_;refine AD (Au n2e kT kF) ?_;refine AD (Au n2e kT kF) ?_;refine LI kT ?_;refine Az.same _ k6 pA2 ?_;refine At ?_;refine AD (Au n2e kT kF) ?_;refine AD (Au n2e kT kF) ?_;refine Ab ?_;exact AO rfl AA.out
end Go.Ide
