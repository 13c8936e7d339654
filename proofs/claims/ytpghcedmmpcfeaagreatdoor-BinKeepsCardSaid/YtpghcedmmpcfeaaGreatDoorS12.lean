/- The layer of own lemmas and contracts, part 12. -/
import Derived.Test.YtpghcedmmpcfeaaGreatDoorS11
import Derived.Test.YtpghcedmmpcfeaaGreatDoorS3
import Derived.Test.YtpghcedmmpcfeaaGreatDoorS8
import Derived.Test.YtpghcedmmpcfeaaGreatDoorS4
import Derived.Shelf.Spec.SlicesGrow
import Derived.Shelf.Lay
import Derived.Ground.Names8Prog
import Derived.Test.YtpghcedmmpcfeaaGreatDoorS9
set_option linter.unusedVariables false
set_option linter.unusedSimpArgs false
namespace Go.Ide
abbrev LN:Dr:=[(8,[0,1,2,3,4,5,6,7,8,9,10,11,12],[13,14])]
open Go.Proofs Go.RowKit Go.Sort
set_option maxRecDepth 20000
set_option maxHeartbeats 4000000
theorem Vy {H Hf:Hp}{K g T sz n:Nat}{l:List D}(h:Hp.get H K=some ⟨K,g,T,sz,l⟩)(hf:Hp.get Hf K=none)(hn:n=l.length):Fz H Hf (.osl K g sz 0 n) (.sl false sz l):=by
 subst hn;refine .osl (e:=⟨K,g,T,sz,l⟩) h hf rfl rfl (by simp) (by simp) (λj d d' h1 h2=>?_) λj d d' q c c' h1 h2 h3 h4=>?_
 ·rw[BW]at h1;rw[h1]at h2;cases h2;rfl
 ·rw[BW]at h1;rw[h1]at h2;cases h2;rw[h3]at h4;cases h4;exact Fz.refl _
def Gd (lot:List UInt8)(l:BQ):Nat:=(l.takeWhile λp=>ltStr p.1 lot).length
theorem q9 (lot:List UInt8)(l:BQ):Gd lot l<=l.length:=by
 unfold Gd
 have:=(List.takeWhile_sublist (l:=l) λp=>ltStr p.1 lot).length_le
 exact this
theorem Q5 (lot:List UInt8)(p:List UInt8×Rat)(l:BQ):Gd lot (p::l)=if ltStr p.1 lot then Gd lot l+1 else 0:=by
 unfold Gd;rw[Od];split<;>simp
theorem Uq {lot:List UInt8}:∀ {l:BQ} {i:Nat},(∀j p,j<i->l[j]?=some p->ltStr p.1 lot=true)->i<=l.length->(∀p,l[i]?=some p->ltStr p.1 lot=false)->Gd lot l=i
 | [],i,_,h2,_=>by simp at h2;subst h2;rfl
 |q::l,0,_,_,h3=>by
  rw[Q5,AG (by rw[h3 q rfl];decide)]
 |q::l,i+1,h1,h2,h3=>by
  rw[Q5,AI (h1 0 q (by omega) rfl)];rw[Uq (i:=i) (λj p hj hp=>h1 (j+1) p (by omega) (by simpa using hp)) (by simpa using h2) λp hp=>h3 p (by simpa using hp)]
def DX (lot:List UInt8)(r:Rat):BQ->BQ
 | []=>[(lot,r)]
 |p::l=>if ltStr p.1 lot then p::DX lot r l else if p.1=lot then(p.1,p.2+r)::l else(lot,r)::p::l
theorem bO {lot:List UInt8}{r:Rat}:∀ {l:BQ} {p:List UInt8×Rat},l[Gd lot l]?=some p->p.1=lot->DX lot r l=l.set (Gd lot l) (p.1,p.2+r)
 | [],p,h,_=>by simp[Gd]at h
 |q::l,p,h,e=>by
  unfold DX;rw[Q5]at h⊢;split at h
  ·rename_i h2
   rw[AI h2,AI h2,List.set_cons_succ,bO (by simpa using h) e]
  ·rename_i h2
   rw[AG h2,AG h2];simp at h;subst h;rw[AI e];rfl
theorem bP {lot:List UInt8}{r:Rat}:∀ {l:BQ},(∀p,l[Gd lot l]?=some p->p.1≠lot)->DX lot r l=l.take (Gd lot l)++(lot,r)::l.drop (Gd lot l)
 | [],_=>rfl
 |q::l,h=>by
  unfold DX;rw[Q5]at h⊢;split at h
  ·rename_i h2
   rw[AI h2,AI h2,bP (λp hp=>h p (by simpa using hp))];rfl
  ·rename_i h2
   rw[AG h2,AG h2,AG (h q rfl)];rfl
theorem aP (a b:List UInt8):Kc (sb a) (sb b)=ltStr a b:=by
 unfold Kc ltStr;rw[bytesLess_eq,Yy,Yy]
def W1 (E0 E4:At)(i:Nat):Option At:=match i with
 | 4=>some E0
 | 9=>some E4
 |_=>none
def QO (i:Nat):Option Nat:=match i with
 | 0=>some 4
 | 4=>some 9
 |_=>none
theorem qr {ops:Array Oper}{d0 d1 d2 d3 d4 d5 d6 d7 d8 d9 d10 d11 d12:D}{E0 E4 E9:At}(h1:D9 ops 4 0)(h2:D9 ops 9 4):
  Nt ops (M3 ops [(0,d0,some E0),(1,d1,none),(2,d2,none),(3,d3,none),(4,d4,some E4),(5,d5,none),(6,d6,none),(7,d7,none),(8,d8,none),(9,d9,some E9),(10,d10,none),(11,d11,none),(12,d12,none)]) (W1 E0 E4) QO:=by
 constructor
 ·intro r hr e he
  simp only[M3,Ci,List.map_nil,A9,Dv,or_false]at hr;rcases hr with rfl|rfl|rfl|rfl|rfl|rfl|rfl|rfl|rfl|rfl|rfl|rfl|rfl<;>dsimp only[W1]at he<;>first
   |(cases he;done)
   |(cases he;exact⟨⟨0,ops.getD 0 default,d0,some _⟩,by simp[M3],rfl,rfl⟩)
   |(cases he;exact⟨⟨4,ops.getD 4 default,d4,some _⟩,by simp[M3],rfl,rfl⟩)
 ·intro r hr j hj
  simp only[M3,Ci,List.map_nil,A9,Dv,or_false]at hr;rcases hr with rfl|rfl|rfl|rfl|rfl|rfl|rfl|rfl|rfl|rfl|rfl|rfl|rfl<;>dsimp only[QO]at hj<;>first
   |(cases hj;done)
   |(cases hj;exact⟨by simp[M3],rfl,by assumption⟩)
 ·intro r hr r' hr' j hj hj'
  have key:∀i k:Nat,QO i=some k->(i=0/\k=4)\/(i=4/\k=9):=λi k h=>by
   unfold QO at h;split at h<;>first|(cases h;simp;done)|cases h
  rcases key _ _ hj with⟨a,b⟩|⟨a,b⟩<;>rcases key _ _ hj' with⟨c,d⟩|⟨c,d⟩<;>omega
theorem e1a (l:BQ)(lot:List UInt8)(r:Rat)(k:Nat)(hl:l.length<=10000)(hk:∀p∈l,rk p.2 k)(hr:rk r k)(hk2:k+k<=10000):AL C0 51 [.sl false 2 (l.map Bl),str (sb lot),rR r] (.sl false 2 ((DX lot r l).map Bl)):=by
 refine Ad.walk w1 d8q rfl λF=>?_
 have el:(((l.map Bl).length:Nat):Int)=(l.length:Int):=by rw[Ae]
 obtain⟨T,hT⟩:∃T,l.map Bl=T:=⟨_,rfl⟩
 have pT:AA (.sl false 2 T):=by rw[<-hT];exact AJ
 have hTl:T.length=l.length:=by rw[<-hT,Ae]
 have hTat:∀(i:Nat) (p:List UInt8×Rat),l[i]?=some p->T[i]?=some (D.agg [str (sb p.1),str (sb (A0 p.2))]):=λi p h=>by rw[<-hT,Az,h];rfl
 rw[hT]at el⊢;unfold rR;refine sZ 0 ?_;refine AF kB ?_;refine sZ 100 ?_;refine AF kB ?_;refine TP (λn=>⟨[(0,.sl false 2 T),(1,str (sb lot)),(2,str (sb (A0 r))),(7,i64 (Gd lot l:Nat))],[],n⟩) ?_ λn=>?_
 ·refine AC.block ?_
  refine Gi (α:=Nat×Nat) (λp=>⟨[(0,.sl false 2 T),(1,str (sb lot)),(2,str (sb (A0 r))),(7,i64 (p.1:Nat))],[],p.2⟩) (λp=>l.length-p.1) (λp F1=>F1=F/\p.1<=l.length/\∀j q,j<p.1->l[j]?=some q->ltStr q.1 lot=true) (0,_) ⟨rfl,BT _,λj q h=>Ak h (HJ j)⟩ AK ?_;rintro⟨i,m⟩ F1 ⟨rfl,hi,ha⟩;dsimp only at hi ha⊢;rcases BC i l.length with h2|h2
  rotate_left
  ·have e1:=Cc h2
   have:i=l.length:=by omega
   subst this;have hat:Gd lot l=l.length:=Uq ha (An _) λp hp=>by simp at hp
   rw[hat];refine AH LN (Ab e1 el) AB AB AB AB AB AB ?_;exact⟨trivial,_,AK⟩
  have e1:=CZ h2;have wi:=Ce (i:=i) (by omega);obtain⟨q,hq⟩:=CJ h2;have hm:=hTat i q hq;have eS:=aP q.1 lot;obtain⟨bS,hbS⟩:∃b,ltStr q.1 lot=b:=⟨_,rfl⟩
  rw[hbS]at eS;cases bS
  ·have hat:Gd lot l=i:=Uq ha (Jz h2) λp hp=>by
    rw[hq]at hp;cases hp;exact hbS
   rw[hat];refine AH LN (Bb e1 el eS kN) hm AB AB AB AB AB ?_;exact⟨trivial,_,AK⟩
  ·refine AH LN (CN e1 el eS wi kN) hm AB AB AB AB AB ?_
   exact⟨(i+1,_),⟨trivial,h2,λj z hj hz=>by
    rcases Kq.1 hj with g|g
    ·exact ha j z g hz
    ·rw[g,hq]at hz;cases hz;exact hbS⟩,by dsimp only;omega,AK⟩
 obtain⟨A,hA⟩:∃A,Gd lot l=A:=⟨_,rfl⟩
 have hAl:=q9 lot l;rw[hA]at hAl⊢
 by_cases hq:∃q,l[A]?=some q/\q.1=lot
 ·obtain⟨q,hq,hql⟩:=hq
  have hAlt:A<l.length:=(BS.1 hq).1;have e1:=CZ hAlt;have hm:=hTat A q hq;have eE:BI (sb q.1) (sb lot)=true:=by rw[E8];exact Ax hql
  have cA:AL C0 93 [str (sb (A0 q.2)),str (sb (A0 r))] (str (sb (A0 (q.2+r)))):=W9 q.2 r k k (hk q (Au hq)) hr hk2;have hres:(DX lot r l).map Bl=T.set A (.agg [str (sb q.1),str (sb (A0 (q.2+r)))]):=by
   rw[bO (by rw[hA];exact hq) hql,hA,List.map_set,hT];rfl
  rw[hres];refine AC.seq ?_;refine AC.seq ?_;refine AH LN (Bb e1 el eE kN) hm AB AB AB AB AB ?_;rw[show List.take 0 []++T=T from rfl,BW,BW];refine AF hm ?_;refine cI cA ?_;refine AF (Ar kN BW hm) ?_;have pR:CK (.sl false 2 ((DX lot r l).map Bl)):=AA.out;rw[hres]at pR;obtain⟨T2,hT2⟩:∃T2,T.set A (.agg [str (sb q.1),str (sb (A0 (q.2+r)))])=T2:=⟨_,rfl⟩
  have hT2l:T.length=T2.length:=by rw[<-hT2,Db]
  rw[hT2]at pR;rw[hT2,hT2l];refine AH LN kB AB AB AB AB AB AB ?_;exact⟨_,Vy rfl rfl rfl,pR,rfl⟩
 refine TP (λn=>⟨[(0,.sl false 2 T),(1,str (sb lot)),(2,str (sb (A0 r))),(7,i64 (A:Nat))],[],n⟩) ?_ λn2=>?_
 ·rcases BC A l.length with h2|h2
  ·have e1:=CZ h2
   obtain⟨q,hq2⟩:=CJ h2;have hm:=hTat A q hq2;have eE:BI (sb q.1) (sb lot)=false:=by
    rw[E8];exact A8 λh=>hq ⟨q,hq2,h⟩
   refine AH LN (Bb e1 el eE kN) hm AB AB AB AB AB ?_;exact⟨trivial,_,AK⟩
  ·have e1:=Cc h2
   refine AH LN (Ab e1 el) AB AB AB AB AB AB ?_;exact⟨trivial,_,AK⟩
 have hres:(DX lot r l).map Bl=T.take A++[.agg [str (sb lot),str (sb (A0 r))]]++T.drop A:=by
  rw[bP (λp hp h=>hq ⟨p,by rw[<-hA];exact hp,h⟩),hA,<-hT];simp[Bl]
 have pR:CK (.sl false 2 ((DX lot r l).map Bl)):=AA.out;rw[hres]at pR⊢;have hAT:A<=T.length:=by omega
 refine AC.seq ?_;have hA0:(0:Int)<=(A:Nat):=by omega
 have hA1:((A:Nat):Int)<=(T.length:Nat):=by omega
 have hTAl:((T.drop 0).take (((A:Nat):Int).toNat-0)).length<=10000:=by
  rw[Bd]
  have:=D3 (i:=0) (l:=T)
  omega
 refine e2a w1 800 [0,1,2,3,4,5,6,7,8,9,10,11,12] [13,14] (use:=QO) (con:=W1 ⟨800,n2+0,64,2,[]⟩ ⟨804,n2+4,64,2,[].take 0++((T.drop 0).take (((A:Nat):Int).toNat-0))⟩)
  (rs:=M3 _ [(0,.osl 800 (n2+0) 2 0 0,some ⟨800,n2+0,64,2,[]⟩),(1,.sl false 2 T,none),(2,i64 (A:Nat),none),(3,.sl false 2 ((T.drop 0).take (((A:Nat):Int).toNat-0)),none),(4,.osl 804 (n2+4) 2 0 (0+((T.drop 0).take (((A:Nat):Int).toNat-0)).length),some ⟨804,n2+4,64,2,[].take 0++((T.drop 0).take (((A:Nat):Int).toNat-0))⟩),(5,str (sb lot),none),(6,str (sb (A0 r)),none),(7,(.agg [str (sb lot),str (sb (A0 r))]),none),(8,.sl true 2 [(.agg [str (sb lot),str (sb (A0 r))])],none),
   (9,.osl 809 (n2+9) 2 0 (0+((T.drop 0).take (((A:Nat):Int).toNat-0)).length+1),some ⟨809,n2+9,64,2,([].take 0++((T.drop 0).take (((A:Nat):Int).toNat-0))).take (0+((T.drop 0).take (((A:Nat):Int).toNat-0)).length)++[(.agg [str (sb lot),str (sb (A0 r))])]⟩),(10,.sl false 2 T,none),(11,i64 (A:Nat),none),(12,.sl false 2 ((T.drop ((A:Nat):Int).toNat).take (T.length-((A:Nat):Int).toNat)),none)])
  (N:=[⟨809,n2+9,64,2,([].take 0++((T.drop 0).take (((A:Nat):Int).toNat-0))).take (0+((T.drop 0).take (((A:Nat):Int).toNat-0)).length)++[(.agg [str (sb lot),str (sb (A0 r))])]⟩])
  (by kernel_rfl) rfl (qr (aI (l:=[0,1,2,3,4,5,6,7,8,9,10,11,12]) (by kernel_rfl)) (aI (l:=[0,1,2,3,4,5,6,7,8,9,10,11,12]) (by kernel_rfl))) (QB.at ?_) (List.Perm.refl _) ?_
 ·refine BK (BK rfl (Or.inl (BK rfl (CA.l' 800 w1.tt rfl rfl AB)))) ?_
  refine BK (BK rfl (Or.inl (BK rfl (CA.p w1.tt rfl rfl AB)))) ?_;refine BK (BK rfl (Or.inl (BK rfl (CA.p w1.tt rfl rfl AB)))) ?_;refine BK (BK rfl (Or.inl (BK rfl (CA.p w1.tt rfl rfl ⟨⟨hA0,hA1⟩,rfl⟩)))) ?_;refine BK (BK rfl (Or.inr ⟨_,_,rfl,rfl,PR.app 804 w1.tt rfl rfl ⟨rfl,rfl,rfl,rfl,rfl,An _,by show(0+((T.drop 0).take (((A:Nat):Int).toNat-0)).length)*32<=140737488355328;omega,by decide,by decide⟩⟩)) ?_;refine BK (BK rfl (Or.inl (BK rfl (CA.p w1.tt rfl rfl AB)))) ?_;refine BK (BK rfl (Or.inl (BK rfl (CA.p w1.tt rfl rfl AB)))) ?_;refine BK (BK rfl (Or.inl (BK rfl (CA.p w1.tt rfl rfl (by exact CL))))) ?_;refine BK (BK rfl (Or.inl (BK rfl (CA.l' 808 w1.tt rfl rfl (by exact CL))))) ?_;refine BK (BK rfl (Or.inr ⟨_,_,rfl,rfl,PR.app 809 w1.tt rfl rfl ⟨rfl,rfl,rfl,rfl,rfl,by show 0+((T.drop 0).take (((A:Nat):Int).toNat-0)).length<=([]++((T.drop 0).take (((A:Nat):Int).toNat-0))).length;rw[FS];omega,by show(0+((T.drop 0).take (((A:Nat):Int).toNat-0)).length+1)*32<=140737488355328;omega,by decide,by decide⟩⟩)) ?_;refine BK (BK rfl (Or.inl (BK rfl (CA.p w1.tt rfl rfl AB)))) ?_;refine BK (BK rfl (Or.inl (BK rfl (CA.p w1.tt rfl rfl AB)))) ?_;refine BK (BK rfl (Or.inl (BK rfl (CA.p w1.tt rfl rfl ⟨⟨hA0,hA1⟩,rfl⟩)))) ?_;exact AB
 change C6 _ _ _ _ _ ⟨(64,.sl false 2 ((T.drop ((A:Nat):Int).toNat).take (T.length-((A:Nat):Int).toNat)))::(63,i64 (A:Nat))::(62,.sl false 2 T)::(61,.osl 809 (n2+9) 2 0 (0+((T.drop 0).take (((A:Nat):Int).toNat-0)).length+1))::(60,.sl true 2 [(.agg [str (sb lot),str (sb (A0 r))])])::(59,(.agg [str (sb lot),str (sb (A0 r))]))::(58,str (sb (A0 r)))::(57,str (sb lot))::(56,.osl 804 (n2+4) 2 0 (0+((T.drop 0).take (((A:Nat):Int).toNat-0)).length))::(55,.sl false 2 ((T.drop 0).take (((A:Nat):Int).toNat-0)))::(54,i64 (A:Nat))::(53,.sl false 2 T)::(52,.osl 800 (n2+0) 2 0 0)::_,[⟨809,n2+9,64,2,([].take 0++((T.drop 0).take (((A:Nat):Int).toNat-0))).take (0+((T.drop 0).take (((A:Nat):Int).toNat-0)).length)++[(.agg [str (sb lot),str (sb (A0 r))])]⟩],_⟩ _ _;have q1:((T.drop 0).take (((A:Nat):Int).toNat-0))=T.take A:=by simp
 have q2:((T.drop ((A:Nat):Int).toNat).take (T.length-((A:Nat):Int).toNat))=T.drop A:=by
  rw[HG,Cp];rw[D3];omega
 rw[q1,q2];obtain⟨P,hP⟩:∃P,T.take A=P:=⟨_,rfl⟩
 obtain⟨S,hS⟩:∃S,T.drop A=S:=⟨_,rfl⟩
 have hPl:P.length<=10000:=by rw[<-hP,Bd];omega
 have hSl:S.length<=10000:=by rw[<-hS,D3];omega
 have pS:AA (.sl false 2 S):=by
  rw[<-hS,<-hT,<-List.map_drop];exact AJ
 rw[hP,hS]at pR⊢;have q3:([].take 0++P).take (0+P.length)=P:=by simp
 rw[q3,BW];have q5:P.length+1<=(P++[(D.agg [str (sb lot),str (sb (A0 r))])]).length:=by simp
 have q4:(P++[(D.agg [str (sb lot),str (sb (A0 r))])]).take (P.length+1)=P++[(D.agg [str (sb lot),str (sb (A0 r))])]:=by rw[Cp];simp
 refine AH LN kB AB AB AB AB AB AB ?_;rw[q4];refine⟨_,Vy rfl rfl ?_,pR,rfl⟩;rw[Be,Be];rfl
open Go.Proofs Go.RowKit Go.Sort
set_option maxRecDepth 20000
set_option maxHeartbeats 4000000
theorem Zf {lot:List UInt8}{r:Rat}:∀ {l:BQ},(DX lot r l).length<=l.length+1
 | []=>by simp[DX]
 |a::l=>by
  unfold DX;split
  ·simp only[Br]
   have:=Zf (lot:=lot) (r:=r) (l:=l)
   omega
  ·split<;>simp
def Jv (x:AE)(n:Nat)(q:BQ):BQ:=(x.shs.take n).foldl (λacc s=>DX s.lot (Bv s.part*(x.mass:Rat)) acc) q
def DC (l:List AE):BQ:=l.foldl (λacc x=>Jv x x.shs.length acc) []
theorem nR (x:AE)(n:Nat)(q:BQ){s:As}(h:x.shs[n]?=some s):Jv x (n+1) q=DX s.lot (Bv s.part*(x.mass:Rat)) (Jv x n q):=by
 unfold Jv;rw[Du,h,List.foldl_append];rfl
theorem m9 (l:List AE)(n:Nat){x:AE}(h:l[n]?=some x):DC (l.take (n+1))=Jv x x.shs.length (DC (l.take n)):=by
 unfold DC;rw[Du,h,List.foldl_append];rfl
abbrev EE (q:BQ):Prop:=q.Pairwise λa b=>ltStr a.1 b.1=true
theorem EE.nd {q:BQ}(h:EE q):(Cw q).Nodup:=by
 rw[Cw,List.Nodup,List.pairwise_map];exact h.imp λ{a b} h e=>by rw[e,swo_ltStr.irrefl]at h;cases h
theorem RL {lot:List UInt8}{o v:Rat}:∀ {q:BQ},Gb lot q=some o->∃A B,q=A++(lot,o)::B/\HB lot v q=A++(lot,v)::B
 | [],h=>by simp[Gb]at h
 |p::l,h=>by
  unfold Gb at h;unfold HB;split at h
  ·rename_i e
   cases h;rw[AI e];exact⟨[],l,by rw[e];rfl,rfl⟩
  ·rename_i e
   rw[AG e];obtain⟨A,B,h1,h2⟩:=RL (v:=v) h;exact⟨p::A,B,by rw[h1];rfl,by rw[h2];rfl⟩
theorem UL {lot:List UInt8}{v:Rat}:∀ {q:BQ},Gb lot q=none->lot∉Cw q/\HB lot v q=q++[(lot,v)]
 | [],_=>⟨by simp[Cw],rfl⟩
 |p::l,h=>by
  unfold Gb at h;unfold HB;split at h
  ·cases h
  ·rename_i e
   rw[AG e];obtain⟨h1,h2⟩:=UL (v:=v) h;exact⟨λq=>by
    rcases A9.1 q with q|q
    ·exact e q
    ·exact h1 q,by rw[h2];rfl⟩
theorem Zg {lot:List UInt8}{r:Rat}:∀ {Q:BQ},EE Q->(∃A o B,Q=A++(lot,o)::B/\DX lot r Q=A++(lot,o+r)::B)\/(lot∉Cw Q/\∃A B,Q=A++B/\DX lot r Q=A++(lot,r)::B)
 | [],_=>.inr ⟨by simp[Cw],[],[],rfl,rfl⟩
 |p::l,h=>by
  have hp:=DP.1 h;unfold DX;split
  ·rename_i e
   rcases Zg (lot:=lot) (r:=r) hp.2 with⟨A,o,B,h1,h2⟩|⟨h0,A,B,h1,h2⟩
   ·exact .inl ⟨p::A,o,B,by rw[h1];rfl,by rw[h2];rfl⟩
   ·refine .inr ⟨λq=>?_,p::A,B,by rw[h1];rfl,by rw[h2];rfl⟩
    rcases A9.1 q with q|q
    ·rw[show p.1=lot from q.symm,swo_ltStr.irrefl]at e;cases e
    ·exact h0 q
  ·rename_i e
   split
   ·rename_i e2
    exact .inl ⟨[],p.2,l,by rw[<-e2];rfl,by rw[e2];rfl⟩
   ·rename_i e2
    refine .inr ⟨λq=>?_,[],p::l,rfl,rfl⟩;rcases A9.1 q with q|q
    ·exact e2 q.symm
    ·obtain⟨z,hz,rfl⟩:=By.1 q
     exact e (hp.1 z hz)
theorem ZD {lot:List UInt8}{r:Rat}:∀ {Q:BQ},∀z∈DX lot r Q,z.1=lot\/z.1∈Cw Q
 | [],z,hz=>by
  unfold DX at hz;rw[Dz]at hz;exact .inl (by rw[hz])
 |p::l,z,hz=>by
  unfold DX at hz;split at hz
  ·rcases A9.1 hz with rfl|hz
   ·exact .inr B1
   ·rcases ZD z hz with h|h
    ·exact .inl h
    ·exact .inr (B9 _ h)
  ·split at hz
   ·rcases A9.1 hz with rfl|hz
    ·exact .inr B1
    ·exact .inr (B9 _ (List.mem_map_of_mem hz))
   ·rcases A9.1 hz with rfl|hz
    ·exact .inl rfl
    ·exact .inr (List.mem_map_of_mem hz)
theorem Rp {lot:List UInt8}{r:Rat}:∀ {Q:BQ},EE Q->EE (DX lot r Q)
 | [],_=>List.pairwise_singleton _ _
 |p::l,h=>by
  have hp:=DP.1 h;unfold DX;split
  ·rename_i e
   refine DP.2 ⟨λz hz=>?_,Rp hp.2⟩;rcases ZD z hz with h|h
   ·rw[h];exact e
   ·obtain⟨y,hy,h2⟩:=By.1 h
    rw[<-h2];exact hp.1 y hy
  ·rename_i e
   split
   ·exact DP.2 ⟨hp.1,hp.2⟩
   ·rename_i e2
    have e3:ltStr lot p.1=true:=by
     cases h9:ltStr lot p.1 with
     |true=>rfl
     |false=>exact Ak (Qw (by simpa using e) h9) e2
    refine DP.2 ⟨λz hz=>?_,h⟩;rcases A9.1 hz with rfl|hz
    ·exact e3
    ·exact swo_ltStr.trans _ _ _ e3 (hp.1 z hz)
theorem s7 {Q q:BQ}(hs:EE Q)(hp:Q.Perm q)(lot:List UInt8)(r:Rat):(DX lot r Q).Perm (Kj lot r q):=by
 have hnd:(Cw Q).Nodup:=hs.nd;unfold Kj;rcases Zg (lot:=lot) (r:=r) hs with⟨A,o,B,h1,h2⟩|⟨h0,A,B,h1,h2⟩
 ·have hm:(lot,o)∈q:=hp.mem_iff.1 (by rw[h1];simp)
  have hqn:(Cw q).Nodup:=(hp.map _).nodup_iff.1 hnd;have hlk:=Ua hqn hm;dsimp only at hlk;rw[hlk];dsimp only;obtain⟨A2,B2,h3,h4⟩:=RL (v:=r+o) hlk;rw[h2,h4];have p1:(A++(lot,o)::B).Perm ((lot,o)::(A++B)):=Hg;have p2:(A2++(lot,o)::B2).Perm ((lot,o)::(A2++B2)):=Hg;have p3:(A++B).Perm (A2++B2):=by
   rw[h1,h3]at hp;exact List.Perm.cons_inv (p1.symm.trans (hp.trans p2))
  rw[Rat.add_comm o r];exact Hg.trans ((p3.cons _).trans Hg.symm)
 ·have hn:Gb lot q=none:=by
   cases h9:Gb lot q with
   |none=>rfl
   |some o=>
    obtain⟨A2,B2,h3,-⟩:=RL (v:=o) h9;exact Ak ((hp.map (·.1)).mem_iff.2 (by rw[h3];simp)) h0
  rw[hn];dsimp only;rw[(UL (v:=r) hn).2,h2];rw[h1]at hp;exact Hg.trans ((hp.cons _).trans (List.perm_append_singleton _ _).symm)
theorem bQ {Q q:BQ}(hs:EE Q)(hp:Q.Perm q)(x:AE):∀j,j<=x.shs.length->EE (Jv x j Q)/\(Jv x j Q).Perm (G4 x j q)
 | 0,_=>⟨hs,hp⟩
 |j+1,hj=>by
  obtain⟨s,hsj⟩:∃s,x.shs[j]?=some s:=⟨_,Bx hj⟩
  obtain⟨h1,h2⟩:=bQ hs hp x j (by omega);rw[nR x j Q hsj,O6 x j q hsj];exact⟨Rp h1,s7 h1 h2 _ _⟩
theorem Re (l:List AE):∀i,i<=l.length->EE (DC (l.take i))/\(DC (l.take i)).Perm (CU (l.take i))
 | 0,_=>⟨List.Pairwise.nil,.refl _⟩
 |i+1,hi=>by
  obtain⟨x,hx⟩:∃x,l[i]?=some x:=⟨_,Bx hi⟩
  obtain⟨h1,h2⟩:=Re l i (by omega);rw[m9 l i hx,Qv l i hx];exact bQ h1 h2 x _ (An _)
theorem EE.weak {q:BQ}(h:EE q):q.Pairwise λa b=>ltStr b.1 a.1=false:=h.imp λ{a b} h=>by
 cases h9:ltStr b.1 a.1 with
 |false=>rfl
 |true=>have:=swo_ltStr.trans _ _ _ h h9;rw[swo_ltStr.irrefl]at this;cases this
theorem Us (l:List AE):DC l=GE (CU l):=by
 obtain⟨h1,h2⟩:=Re l l.length (An _);rw[Cz]at h1 h2;exact Ty ((h2.map _).nodup_iff.1 h1.nd) h2 (LC _) h1.weak (R5 _)
theorem MV (l:List AE):EE (DC l):=by
 obtain⟨h1,-⟩:=Re l l.length (An _)
 rwa [Cz]at h1
def EQ (g:List UInt8)(x:AE):AE:=⟨g,x.mass,x.shs⟩
def H3 (l:List AE)(g:List UInt8):Nat:=if Bz l≠0 then Bz l else if D8 g=false then 8 else if l.length=0 then 13 else 0
def JH (l:List AE)(g:List UInt8):Nat:=if H3 l g≠0 then H3 l g else Ha (l.map (EQ g))
def Mt (l:List AE)(g:List UInt8):AE:=if H3 l g≠0 then⟨[],0,[]⟩else Lu (l.map (EQ g))
theorem sS (g:List UInt8){l:List AE}{i:Nat}{x:AE}(hx:l[i]?=some x):
  (((l.take i).map (EQ g)++l.drop i).map AE.D).set i (.agg [str (sb g),i64 x.mass,.sl false 2 (x.shs.map As.D)])=((l.take (i+1)).map (EQ g)++l.drop (i+1)).map AE.D:=by
 have hi:=(BS.1 hx).1;have hd:l.drop i=x::l.drop (i+1):=by
  rw[Ey hi,(BS.1 hx).2]
 rw[Du,hx,hd];simp only[DA,Ci,Option.toList_some,List.map_nil,Dt,E2,FS];rw[Ob _ _ (by simp;omega)]
 have:i-(((l.take i).map (EQ g)).map AE.D).length=0:=by simp;omega
 rw[this];rfl
theorem j0 (b:Bool)(l:List AE)(g:List UInt8)(hl:l.length<=1000000)(hf:∀x∈l,x.lite)(hg:g.length<=100000):AL C0 20 [Aj b l,str (sb g)] (.tup [(Mt l g).D,i64 (JH l g:Nat)]):=by
 refine Ad.walk w1 iG rfl λF=>?_
 have el:(((l.map AE.D).length:Nat):Int)=(l.length:Int):=by rw[Ae]
 have cP:=OR b l (by omega) λx hx=>(hf x hx).1
 have cN:=R1 g;have hN:JH l g=if H3 l g≠0 then H3 l g else Ha (l.map (EQ g)):=rfl
 have hL:Mt l g=if H3 l g≠0 then⟨[],0,[]⟩else Lu (l.map (EQ g)):=rfl
 have hE:H3 l g=if Bz l≠0 then Bz l else if D8 g=false then 8 else if l.length=0 then 13 else 0:=rfl
 obtain⟨K,hK⟩:∃K,D8 g=K:=⟨_,rfl⟩
 have cW1:=H6 (!K) 8;have cW2:=H6 ((l.length:Int)==0) 13;have cF:AL C0 28 [.sl true 1 [i64 (Bz l:Nat),i64 (if !K then 8 else 0),i64 (if(l.length:Int)==0 then 13 else 0)]] (i64 (H3 l g:Nat)):=by
  have:=Mg [(Bz l:Int),if !K then 8 else 0,if(l.length:Int)==0 then 13 else 0] (by simp)
  have he:E7 [(Bz l:Int),if !K then 8 else 0,if(l.length:Int)==0 then 13 else 0]=((H3 l g:Nat):Int):=by
   rw[hE,hK]
   by_cases h1:Bz l=0<;>cases K<;>by_cases h3:l.length=0<;>simp[E7,h1,h3]
  rw[he]at this;exact this
 rw[hK]at cN;rcases Nat.decEq (H3 l g) 0 with g0|g0
 ·have e1:=G9 g0
  rw[AI g0]at hN hL;rw[hN,hL];refine AH AW (Ab el e1) cP cN cW1 cW2 cF AB ?_;exact⟨_,Pa _ _,AA.out,rfl⟩
 have e1:=HA g0;rw[AG (λh=>h g0)]at hN hL;rw[hN,hL];have h0:l≠[]:=λh=>by
  rw[hE]at g0;split at g0
  ·rename_i h9;exact h9 g0
  ·split at g0
   ·cases g0
   ·split at g0
    ·cases g0
    ·rename_i h9;exact h9 (by rw[h];rfl)
 refine AH AW (Ab el e1) cP cN cW1 cW2 cF AB ?_;refine BE.own _ (o9 b l hl h0 _ _) ?_;rintro d H' n' ⟨gk,rfl,rfl,rfl⟩;refine AH AW kB AB AB AB AB AB AB ?_;refine AC.loop (α:=Nat×Nat) (λp=>⟨[(1,str (sb g)),(4,.optr 0 0 3 0 0),(7,.osl 302 gk 3 0 l.length),(28,i64 (l.length:Int)),(29,i64 (p.1:Int))],[⟨302,gk,51,3,((l.take p.1).map (EQ g)++l.drop p.1).map AE.D⟩,⟨0,0,51,3,[.agg [.prim (.string ⟨#[]⟩),.prim (.int .i64 0),.prim (.slice none 0 0)]]⟩],p.2⟩) (λp=>l.length-p.1)
  (λp=>p.1<=l.length) (0,_) (BT _) AK ?_
 rintro⟨i,n⟩ F hi;dsimp only at hi⊢;rcases BC i l.length with h2|h2
 rotate_left
 ·have e1:=Cc h2
  have:i=l.length:=by omega
  subst this;rw[Cz,J5,Dh];have hlr:(l.map (EQ g)).length=l.length:=Ae ..;have hfr:∀x∈l.map (EQ g),x.lite:=λx hx=>by
   obtain⟨y,hy,rfl⟩:=By.1 hx;obtain⟨⟨a1,a2,a3⟩,a4⟩:=hf y hy;exact⟨⟨hg,a2,a3⟩,a4⟩
  have cM:=e0M false (l.map (EQ g)) (by rw[hlr];exact hl) hfr;obtain⟨R,hR⟩:∃R,l.map (EQ g)=R:=⟨_,rfl⟩
  rw[hR]at cM hlr⊢;obtain⟨Z,hZ⟩:∃Z:AE,Lu R=Z:=⟨_,rfl⟩
  rw[hZ]at cM⊢;refine AH AW e1 AB AB AB AB AB AB ?_;have hfz:Fz [⟨302,gk,51,3,R.map AE.D⟩,⟨0,0,51,3,[.agg [.prim (.string ⟨#[]⟩),.prim (.int .i64 0),.prim (.slice none 0 0)]]⟩] [⟨0,0,51,3,[.agg [.prim (.string ⟨#[]⟩),.prim (.int .i64 0),.prim (.slice none 0 0)]]⟩] (.osl 302 gk 3 0 l.length) (Aj false R):=by
   have:=GZ (H:=[⟨302,gk,51,3,R.map AE.D⟩,⟨0,0,51,3,[.agg [.prim (.string ⟨#[]⟩),.prim (.int .i64 0),.prim (.slice none 0 0)]]⟩]) (Hf:=[⟨0,0,51,3,[.agg [.prim (.string ⟨#[]⟩),.prim (.int .i64 0),.prim (.slice none 0 0)]]⟩]) (k:=302) (g:=gk) (T:=51) (sz:=3) (l:=R.map AE.D) rfl
   rwa [Ae,hlr]at this
  refine BE.own _ (QS [⟨0,0,51,3,[.agg [.prim (.string ⟨#[]⟩),.prim (.int .i64 0),.prim (.slice none 0 0)]]⟩] cM (.drop (.keep .nil)) ⟨hfz,trivial⟩ AJ) ?_;rintro d H2 n2 ⟨rfl,rfl,rfl⟩;unfold AE.D;refine AH AW kB AB AB AB AB AB AB ?_;exact AM rfl AA.out
 have e1:=CZ h2;have wi:=Ce (i:=i) (by omega);obtain⟨x,hx⟩:=CJ h2;obtain⟨es,hes⟩:∃es,((l.take i).map (EQ g)++l.drop i).map AE.D=es:=⟨_,rfl⟩
 rw[hes];have hm:es[i]?=some (.agg [str (sb x.grain),i64 x.mass,.sl false 2 (x.shs.map As.D)]):=by
  rw[<-hes,Az,Fp (by simp;omega)];simp only[Ae,Bd,Ft (Jz h2),Nat.sub_self,IH,D6,hx,J6];rfl
 refine sZ 600 ?_;refine AF e1 ?_;refine AC.seq ?_;refine AO ?_;refine Am ?_;refine AC.seq ?_;refine AC.block ?_;refine sZ 700 ?_;refine AF kB ?_;refine Aq 800 ?_;refine AF (Ar kN BW hm) ?_;have hset:es.set i (.agg [str (sb g),i64 x.mass,.sl false 2 (x.shs.map As.D)])=((l.take (i+1)).map (EQ g)++l.drop (i+1)).map AE.D:=by
  rw[<-hes];exact sS g hx
 rw[hset];refine AH AW wi AB AB AB AB AB AB ?_;exact⟨(i+1,_),h2,by dsimp only;omega,AK⟩
theorem qK {g:List UInt8}(hg:g.length<=100000){l:List AE}(hf:∀x∈l,x.lite):∀x∈l.map (EQ g),x.lite:=λx hx=>by
 obtain⟨y,hy,rfl⟩:=By.1 hx;obtain⟨⟨a1,a2,a3⟩,a4⟩:=hf y hy;exact⟨⟨hg,a2,a3⟩,a4⟩
theorem sq {l:List AE}(h:Ha l=0):IG l=0/\(CU l).length<=64/\∀p∈GE (CU l),DJ (p.2/(Ai l:Rat))=false:=by
 unfold Ha at h;split at h
 ·rename_i h9;exact Ak h h9
 ·split at h
  ·cases h
  ·split at h
   ·cases h
   ·rename_i h1 h2 h3
    refine⟨by omega,by omega,λp hp=>?_⟩
    have:=List.any_eq_false.1 ((Bool.not_eq_true _).mp h3) p hp
    exact(Bool.not_eq_true _).mp this
theorem b5 {l:List AE}(h:Ha l=0):Lu l=⟨(CX l 0).grain,Ai l,FQ l⟩:=by
 unfold Lu;rw[AG (λq=>q h)]
theorem rr {l:List UInt8}(h:Cj l=0):l.length<=100000:=by
 obtain⟨-,h2,h3,-⟩:=RZ h;have h4:(CE l).length<=(CG l).length+1:=by
  unfold CG Bw;split
  ·simp;omega
  ·omega
 unfold CE Bg at*;rw[Bd]at h4;rw[D3]at h3;omega
theorem sr {l:List AE}(hf:∀x∈l,x.lite)(h:Ha l=0):(FQ l).length<=64/\∀s∈FQ l,s.lot.length<=1000/\s.part.length<=100000/\Cj s.part=0/\rk (Bv s.part) 600:=by
 obtain⟨h1,h2,h3⟩:=sq h;obtain⟨g1,g2,g3,g4,g5⟩:=bZ h1;obtain⟨hx,hK⟩:=Yb hf g3 g2;refine⟨by unfold FQ;rw[Ae,(LC _).length_eq];exact h2,λs hs=>?_⟩;unfold FQ at hs;obtain⟨p,hp,rfl⟩:=By.1 hs;have hc:=an (h3 p hp);refine⟨hK.all p.1 (List.mem_map_of_mem ((LC _).mem_iff.1 hp)),?_,hc,Nv hc⟩;exact rr hc
def Gc (l:List AE)(left:Int):AE:=⟨(CX l 0).grain,Ai l-left,FQ (l.map (EQ (CX l 0).grain))⟩
def Jw (l:List AE)(left:Int):Nat:=if Bz l≠0 then Bz l else if left<1 then 3 else if Ai l<left then 13 else if Ca l=false then 16 else if JH l (CX l 0).grain≠0 then JH l (CX l 0).grain
 else if Ai l=left then 0 else Id (CU [Gc l left])
def TK (l:List AE)(left:Int):AE:=if Jw l left≠0 then⟨[],0,[]⟩else⟨(CX l 0).grain,left,FQ (l.map (EQ (CX l 0).grain))⟩
def TJ (l:List AE)(left:Int):BQ:=if Jw l left≠0 then[]else if Ai l=left then[]else Jp (CU [Gc l left])
theorem NT {H:Hp}{a a' b b' c:D}(h1:Fz H [] a a')(h2:Fz H [] b b'):Fz H [] (.tup [a,b,c]) (.tup [a',b',c]):=.tup rfl λi d d' h h'=>by
 match i with
 | 0=>cases h;cases h';exact h1
 | 1=>cases h;cases h';exact h2
 | 2=>cases h;cases h';exact .refl _
 |n+3=>cases h
theorem Sw (H:Hp):Fz H [] (.agg [str ⟨#[]⟩,i64 0,Cd]) (⟨[],0,[]⟩:AE).D:=.agg rfl λi d d' h h'=>by
 match i with
 | 0=>cases h;cases h';exact .refl _
 | 1=>cases h;cases h';exact .refl _
 | 2=>cases h;cases h';exact .nil 2
 |n+3=>cases h
theorem sI (b:Bool)(l:List AE)(left:Int)(hl:l.length<=1000000)(hf:∀x∈l,x.lite):AL C0 25 [Aj b l,i64 left] (.tup [(TK l left).D,.sl false 2 ((TJ l left).map Bl),i64 (Jw l left:Nat)]):=by
 refine Ad.walk w1 iF rfl λF=>?_
 have cP:=OR b l (by omega) λx hx=>(hf x hx).1
 have hE:Jw l left=if Bz l≠0 then Bz l else if left<1 then 3 else if Ai l<left then 13 else if Ca l=false then 16 else if JH l (CX l 0).grain≠0 then JH l (CX l 0).grain
  else if Ai l=left then 0 else Id (CU [Gc l left]):=rfl
 have hX:TK l left=if Jw l left≠0 then⟨[],0,[]⟩else⟨(CX l 0).grain,left,FQ (l.map (EQ (CX l 0).grain))⟩:=rfl
 have hL:TJ l left=if Jw l left≠0 then[]else if Ai l=left then[]else Jp (CU [Gc l left]):=rfl
 have cW1:=H6 (decide (left<1)) 3;obtain⟨E0,hE0⟩:∃e:Nat,(if Bz l≠0 then Bz l else if left<1 then 3 else 0)=e:=⟨_,rfl⟩
 have cF0:AL C0 28 [.sl true 1 [i64 (Bz l:Nat),i64 (if decide (left<1)then 3 else 0)]] (i64 (E0:Nat)):=by
  have:=Mg [(Bz l:Int),if decide (left<1)then 3 else 0] (by simp)
  have he:E7 [(Bz l:Int),if decide (left<1)then 3 else 0]=((E0:Nat):Int):=by
   rw[<-hE0]
   by_cases h1:Bz l=0<;>by_cases h2:left<1<;>simp[E7,h1,h2]
  rw[he]at this;exact this
 rcases Nat.decEq E0 0 with g0|g0
 ·have e1:=G9 g0
  have hE2:Jw l left=E0:=by
   rw[hE,<-hE0];split
   ·rfl
   ·rename_i h1
    rw[<-hE0,AG h1]at g0;split
    ·rfl
    ·rename_i h2;exact Ak (AG h2) g0
  rw[hE2]at hX hL⊢;rw[AI g0]at hX hL;rw[hX,hL];refine AH AW e1 cP cW1 cF0 AB AB AB ?_;exact⟨_,NT (Sw _) (.nil 2),AA.out,rfl⟩
 have e1:=HA g0;have hp0:Bz l=0:=by
  apply DG;intro h;rw[AI h]at hE0;omega
 have hl1:¬left<1:=λh=>by
  rw[AG (λq=>q hp0),AI h]at hE0;omega
 rw[AG (λh=>h hp0),AG hl1]at hE;obtain⟨p1,p2,p3⟩:=JD hp0;have hsm:JE l:=⟨by omega,λx hx=>by have:=PJ (p2 x hx);omega⟩
 have cT:=dW b l hsm;have cG:=ZA b l hl;have cW2:=H6 (decide (Ai l<left)) 13;obtain⟨E1,hE1⟩:∃e:Nat,(if Ai l<left then 13 else if Ca l=false then 16 else 0)=e:=⟨_,rfl⟩
 have cF1:AL C0 28 [.sl true 1 [i64 (if decide (Ai l<left)then 13 else 0),i64 (if Ca l then 0 else 16:Nat)]] (i64 (E1:Nat)):=by
  have:=Mg [if decide (Ai l<left)then 13 else 0,((if Ca l then 0 else 16:Nat):Int)] (by simp)
  have he:E7 [if decide (Ai l<left)then 13 else 0,((if Ca l then 0 else 16:Nat):Int)]=((E1:Nat):Int):=by
   rw[<-hE1]
   by_cases h1:Ai l<left<;>cases Ca l<;>simp[E7,h1]
  rw[he]at this;exact this
 rcases Nat.decEq E1 0 with g1|g1
 ·have e2:=G9 g1
  have hE2:Jw l left=E1:=by
   rw[hE,<-hE1];split
   ·rfl
   ·rename_i h1
    rw[<-hE1,AG h1]at g1;split
    ·rfl
    ·rename_i h2;exact Ak (AG h2) g1
  rw[hE2]at hX hL⊢;rw[AI g1]at hX hL;rw[hX,hL];refine AH AW e1 cP cW1 cF0 AB AB AB ?_;refine AH AW e2 cT cW2 cG cF1 AB AB ?_;exact⟨_,NT (Sw _) (.nil 2),AA.out,rfl⟩
 have e2:=HA g1;have hs1:¬Ai l<left:=λh=>by
  rw[AI h]at hE1;omega
 have hs2:¬Ca l=false:=λh=>by
  rw[AG hs1,AI h]at hE1;omega
 rw[AG hs1,AG hs2]at hE;have hl0:0<l.length:=by
  rcases l with _|⟨y,l⟩
  ·exfalso;apply hs1
   show(0:Int)<left;omega
  ·simp
 obtain⟨x0,hx0⟩:∃x,l[0]?=some x:=⟨_,Bx hl0⟩
 have hm0:(l.map AE.D)[0]?=some (.agg [str (sb x0.grain),i64 x0.mass,.sl false 2 (x0.shs.map As.D)]):=by rw[Az,hx0];rfl
 have hgr:(CX l 0).grain=x0.grain:=by rw[GL hx0]
 have hg9:=(hf x0 (Au hx0)).1.1;have cPo:=j0 b l x0.grain hl hf hg9;rw[hgr]at hE hX;have hlt:Gc l left=⟨x0.grain,Ai l-left,FQ (l.map (EQ x0.grain))⟩:=by unfold Gc;rw[hgr]
 rw[hlt]at hE hL;obtain⟨PN,hPN⟩:∃n,JH l x0.grain=n:=⟨_,rfl⟩
 rw[hPN]at hE cPo;rcases Nat.decEq PN 0 with g2|g2
 ·have e3:=G9 g2
  rw[AI g2]at hE;rw[hE]at hX hL⊢;rw[AI g2]at hX hL;rw[hX,hL];obtain⟨Z,hZ⟩:∃Z,Mt l x0.grain=Z:=⟨_,rfl⟩
  rw[hZ]at cPo;unfold AE.D Co at cPo;obtain⟨ZS,hZS⟩:∃d,List.map As.D Z.shs=d:=⟨_,rfl⟩
  have pZS:AA (.sl false 2 ZS):=by rw[<-hZS];exact AJ
  rw[hZS]at cPo;refine AH AW e1 cP cW1 cF0 AB AB AB ?_;refine AH AW e2 cT cW2 cG cF1 AB AB ?_;refine AH AW e3 hm0 cPo AB AB AB AB ?_;exact⟨_,NT (Sw _) (.nil 2),AA.out,rfl⟩
 have e3:=HA g2;rw[AG (λh=>h g2)]at hE;have hpe:H3 l x0.grain=0:=by
  apply DG;intro h
  have:JH l x0.grain=H3 l x0.grain:=AI h
  omega
 have hmn:Ha (l.map (EQ x0.grain))=0:=by
  have:JH l x0.grain=Ha (l.map (EQ x0.grain)):=AG (λh=>h hpe)
  omega
 have hpl:Mt l x0.grain=⟨x0.grain,Ai l,FQ (l.map (EQ x0.grain))⟩:=by
  unfold Mt;rw[AG (λh=>h hpe),b5 hmn]
  congr 1
  ·rw[GL (l:=l.map (EQ x0.grain)) (x:=EQ x0.grain x0) (by rw[Az,hx0];rfl)];rfl
  ·unfold Ai;rw[List.map_map];rfl
 obtain⟨m1,m2⟩:=sr (qK hg9 hf) hmn;rw[hpl]at cPo;clear hpl hmn hpe hPN hlt;obtain⟨S,hS⟩:∃S,FQ (l.map (EQ x0.grain))=S:=⟨_,rfl⟩
 rw[hS]at cPo hE hX hL m1 m2;have ws:IntKind.i64.wrap (Ai l-left)=Ai l-left:=wI;unfold AE.D at cPo;dsimp only at cPo;unfold Co at cPo;obtain⟨SD,hSD⟩:∃d,List.map As.D S=d:=⟨_,rfl⟩
 have pSD:AA (.sl false 2 SD):=by rw[<-hSD];exact AJ
 rw[hSD]at cPo
 by_cases hz:Ai l=left
 ·have e4:((Ai l-left)==0)=true:=by rw[Ek];omega
  rw[AI hz]at hE;rw[hE]at hX hL⊢;rw[AG (λh=>h rfl)]at hX hL;rw[AI hz]at hL;rw[hX,hL];unfold AE.D;dsimp only;unfold Co;rw[hSD];refine AH AW e1 cP cW1 cF0 AB AB AB ?_;refine AH AW e2 cT cW2 cG cF1 AB AB ?_;refine AH AW (Ar e3 ws e4) hm0 cPo AB AB AB AB ?_;exact⟨_,NT (.refl _) (.nil 2),AA.out,rfl⟩
 have e4:((Ai l-left)==0)=false:=by rw[B4];omega
 rw[AG hz]at hE hL;have cO:=Pk ⟨x0.grain,left,S⟩ (Ai l-left) (by dsimp only;omega);obtain⟨Y,hY⟩:∃Y:AE,(⟨x0.grain,Ai l-left,S⟩:AE)=Y:=⟨_,rfl⟩
 rw[hY]at cO hE hL;have hYo:∀x∈[Y],x.okW 602:=λx hx=>by
  rw[Dz]at hx;rw[hx,<-hY];exact⟨m1,by unfold Sm;dsimp only;omega,λs hs=>⟨by have:=(m2 s hs).1;omega,(m2 s hs).2.1,(m2 s hs).2.2.1,(m2 s hs).2.2.2⟩⟩
 have cLo:=gZ 602 true [Y] (by simp) hYo (by omega) (by simp);have hKY:H5 (λk=>k.length<=1000) (64*[Y].length) (CU [Y]):=UB λx hx=>by
  rw[Dz]at hx;rw[hx,<-hY];exact⟨m1,λs hs=>(m2 s hs).1⟩
 change Ad C0 48 [.sl true 3 [.agg [str (sb Y.grain),i64 Y.mass,.sl false 2 (Y.shs.map As.D)]]] _ at cLo;change AL C0 67 [.agg [str (sb x0.grain),i64 left,.sl false 2 (S.map As.D)],i64 (Ai l-left)] (.agg [str (sb Y.grain),i64 Y.mass,.sl false 2 (Y.shs.map As.D)])at cO;obtain⟨YS,hYS⟩:∃d,Y.shs.map As.D=d:=⟨_,rfl⟩
 have pYS:AA (.sl false 2 YS):=by rw[<-hYS];exact AJ
 rw[hSD,hYS]at cO;rw[hYS]at cLo;obtain⟨q,hq⟩:∃q,CU [Y]=q:=⟨_,rfl⟩
 rw[hq]at cLo hKY hE hL;refine AH AW e1 cP cW1 cF0 AB AB AB ?_;refine AH AW e2 cT cW2 cG cF1 AB AB ?_;refine AH AW (Ar e3 ws e4) hm0 cPo cO AB AB AB ?_;refine BE.prop _ _ (FJ.refl _) cLo AJ ?_;rintro d ⟨m,rfl,hQ⟩;have cA:=Zs _ (by simp) q m hQ (BV hKY.len (by simp)) hKY.nd;have pM:AA (mapD m):=⟨hQ.mapD⟩
 unfold Kb at cA;obtain⟨M,hM⟩:∃M,mapD m=M:=⟨_,rfl⟩
 rw[hM]at cA pM⊢;rcases Nat.decEq (Id q) 0 with g4|g4
 ·have e5:=G9 g4
  rw[hE]at hX hL⊢;rw[AI g4]at hX hL;rw[hX,hL];refine AH AW e5 cA AB AB AB AB AB ?_;exact⟨_,NT (Sw _) (.nil 2),AA.out,rfl⟩
 have e5:=HA g4;rw[hE]at hX hL⊢;rw[AG (λh=>h g4)]at hX hL;rw[hX,hL];unfold AE.D;dsimp only;unfold Co;rw[hSD];refine AH AW e5 cA AB AB AB AB AB ?_;exact⟨_,.refl _,AA.out,by rw[g4];rfl⟩
abbrev Rk:Dr:=[(4,[0,1,2,3,4,5,6,7,8],[9])]
open Go.Proofs Go.RowKit Go.Sort
set_option maxRecDepth 20000
set_option maxHeartbeats 4000000
def AE.modr (x:AE):Prop:=(x.shs.length<=15\/64<x.shs.length)/\x.lite
theorem o7 (l:List UInt8):BI (sb l) (sb l)=true:=by rw[E8];exact Ax rfl
def DZ (l:List AE):Int:=l.foldl (λa x=>IntKind.i64.wrap (a+x.mass)) 0
theorem Uf {l:List AE}{i:Nat}{x:AE}(h:l[i]?=some x):DZ (l.take (i+1))=IntKind.i64.wrap (DZ (l.take i)+x.mass):=by
 unfold DZ;rw[Du,h];simp
theorem KK {l:List AE}(hs:JE l):DZ l=Ai l:=by
 obtain⟨hl,hm⟩:=hs
 have:∀i,i<=l.length->DZ (l.take i)=Ai (l.take i):=λi=>by
  induction i with
  |zero=>exact λ_=>rfl
  |succ i ih=>
   intro hi;obtain⟨x,hx⟩:=CJ (show i<l.length by omega);have hb:=Vc (l:=l.take i) λy hy=>hm y (E3 hy)
   have hxm:=hm x (Au hx);rw[Bd,Ft (by omega)]at hb;rw[Uf hx,ih (by omega),US hx,wI]
 have:=this l.length (An _)
 rwa [Cz]at this
theorem yH (b:Bool)(l:List AE)(hl:l.length<=9223372036854775807):AL C0 11 [Aj b l] (i64 (DZ l)):=by
 refine Ad.walk w1 zu rfl λF=>?_
 have el:(((l.map AE.D).length:Nat):Int)=(l.length:Int):=by rw[Ae]
 refine AH AW el AB AB AB AB AB AB ?_;refine AC.loop (α:=Nat×Nat) (λp=>⟨[(0,Aj b l),(3,i64 (DZ (l.take p.1))),(4,i64 (p.1:Int))],[],p.2⟩) (λp=>l.length-p.1) (λp=>p.1<=l.length) (0,_) (BT _) AK ?_;rintro⟨i,m⟩ F hi;dsimp only at hi⊢;rcases BC i l.length with h2|h2
 rotate_left
 ·have e1:=Cc h2
  have:i=l.length:=by omega
  subst this;rw[Cz];refine AH AW (Ab e1 el) AB AB AB AB AB AB ?_;exact AM rfl AA.out
 have e1:=CZ h2;have wi:=Ce (i:=i) (by omega);obtain⟨x,hx⟩:=CJ h2;have hm:(l.map AE.D)[i]?=some (.agg [str (sb x.grain),i64 x.mass,.sl false 2 (x.shs.map As.D)]):=by rw[Az,hx];rfl
 have ws:=(Uf hx).symm;refine AH AW (CN e1 el wi ws kN) hm AB AB AB AB AB ?_;exact⟨(i+1,_),h2,by dsimp only;omega,AK⟩
theorem Su (b:Bool)(l:List AE)(hs:JE l):AL C0 11 [Aj b l] (i64 (Ai l)):=by
 have h:=yH b l (by have:=hs.1;omega)
 rwa [KK hs]at h
theorem sX (b:Bool)(l:List AE)(hl:l.length<=1000000):AL C0 42 [Aj b l] (Ap (Ca l)):=by
 refine Ad.walk w1 d8m rfl λF=>?_
 have el:(((l.map AE.D).length:Nat):Int)=(l.length:Int):=by rw[Ae]
 refine AH Rk el AB AB AB AB AB AB ?_;refine AC.loop (α:=Nat×Nat) (λp=>⟨[(0,Aj b l),(3,i64 (p.1:Int))],[],p.2⟩) (λp=>l.length-p.1)
  (λp=>1<=p.1/\(p.1<=l.length\/p.1=1)/\∀x∈l.take p.1,BI (sb x.grain) (sb (CX l 0).grain)=true) (1,_) ⟨An _,.inr rfl,λx h=>by
   rcases l with _|⟨y,l⟩
   ·simp at h
   ·have:x=y:=by simpa using h
    rw[this];exact o7 _⟩ AK ?_
 rintro⟨i,m⟩ F ⟨hi1,hi,hs⟩;dsimp only at hi1 hi hs⊢;rcases BC i l.length with h2|h2
 rotate_left
 ·have e1:=Cc h2
  have hg:Ca l=true:=by
   unfold Ca;rw[CY];intro x hx;rw[Cp h2]at hs;exact hs x hx
  rw[hg];refine AH Rk (Ab e1 el) AB AB AB AB AB AB ?_;exact AM rfl AA.out
 have e1:=CZ h2;have wi:=Ce (i:=i) (by omega);obtain⟨x,hx⟩:=CJ h2;have hm:(l.map AE.D)[i]?=some (.agg [str (sb x.grain),i64 x.mass,.sl false 2 (x.shs.map As.D)]):=by rw[Az,hx];rfl
 obtain⟨x0,hx0⟩:∃x,l[0]?=some x:=⟨_,Cu⟩
 have hm0:(l.map AE.D)[0]?=some (.agg [str (sb x0.grain),i64 x0.mass,.sl false 2 (x0.shs.map As.D)]):=by rw[Az,hx0];rfl
 have hv0:=GL hx0;obtain⟨bG,hbG⟩:∃q,BI (sb x.grain) (sb x0.grain)=q:=⟨_,rfl⟩
 cases bG
 ·have hg:Ca l=false:=by
   unfold Ca;rw[List.all_eq_false];exact⟨x,Au hx,by rw[hv0,hbG];decide⟩
  rw[hg];refine AH Rk (Bb e1 el hbG kN) hm hm0 AB AB AB AB ?_;exact AM rfl AA.out
 ·refine AH Rk (CN e1 el hbG wi kN) hm hm0 AB AB AB AB ?_
  exact⟨(i+1,_),⟨by dsimp only;omega,.inl h2,λy hy=>by
   dsimp only at hy;rw[Du,hx]at hy;rcases Bn.1 hy with q|q
   ·exact hs y q
   ·have:y=x:=by simpa using q
    rw[this,hv0];exact hbG⟩,by dsimp only;omega,AK⟩
theorem XE (b:Bool)(l:List AE)(hl:l.length<=1000000)(hf:∀x∈l,x.modr):AL C0 10 [Aj b l] (i64 (Bz l:Nat)):=by
 refine Ad.walk w1 zt rfl λF=>?_
 have el:(((l.map AE.D).length:Nat):Int)=(l.length:Int):=by rw[Ae]
 have hC:Bz l=if 64<l.length then 5 else if EH (λi=>Cm (CX l i)) l.length≠0 then EH (λi=>Cm (CX l i)) l.length else if Ai l>999999999 then 4 else 0:=rfl
 by_cases h64:64<l.length
 ·rw[AI h64]at hC
  rw[hC];have q2:decide ((l.length:Int)>64)=true:=BX;refine AH AW (Ab el q2) AB AB AB AB AB AB ?_;exact AM rfl AA.out
 rw[AG h64]at hC;have q2:decide ((l.length:Int)>64)=false:=Bc;refine AH AW (Ab el q2) AB AB AB AB AB AB ?_;refine AC.loop (α:=Nat×Nat) (λp=>⟨[(0,Aj b l),(3,i64 (p.1:Int))],[],p.2⟩) (λp=>l.length-p.1) (λp=>p.1<=l.length/\∀j,j<p.1->Cm (CX l j)=0) (0,_) ⟨BT _,λj h=>Ak h (HJ j)⟩ AK ?_;rintro⟨i,m⟩ F ⟨hi,hz⟩;dsimp only at hi hz⊢;rcases BC i l.length with h2|h2
 rotate_left
 ·have e1:=Cc h2
  have:i=l.length:=by omega
  subst this;rw[AG (λh=>h (MK (f:=λi=>Cm (CX l i)) hz))]at hC;have cT:=Su b l (UG h64 hz)
  by_cases h9:Ai l>999999999
  ·have e9:decide (Ai l>999999999)=true:=Ax h9
   rw[AI h9]at hC;rw[hC];refine AH AW (Ar e1 el e9) cT AB AB AB AB AB ?_;exact AM rfl AA.out
  ·have e9:decide (Ai l>999999999)=false:=A8 h9
   rw[AG h9]at hC;rw[hC];refine AH AW (Ar e1 el e9) cT AB AB AB AB AB ?_;exact AM rfl AA.out
 have e1:=CZ h2;have wi:=Ce (i:=i) (by omega);obtain⟨x,hx⟩:=CJ h2;have hm:(l.map AE.D)[i]?=some (.agg [str (sb x.grain),i64 x.mass,.sl false 2 (x.shs.map As.D)]):=by rw[Az,hx];rfl
 have hxm:=hf x (Au hx);have cL:=e0R x hxm.1 hxm.2.1;unfold AE.D at cL;rcases Nat.decEq (Cm x) 0 with hc0|hc0
 ·have e3:=G9 hc0
  have:=PZ (f:=λi=>Cm (CX l i)) hz h2 (by rw[GL hx];exact hc0)
  rw[GL hx]at this;rw[this,AI hc0]at hC;rw[hC];refine AH AW (Bb e1 el e3 kN) hm cL AB AB AB AB ?_;exact AM rfl AA.out
 have e3:=HA hc0;refine AH AW (CN e1 el e3 wi kN) hm cL AB AB AB AB ?_;exact⟨(i+1,_),⟨h2,λj hj=>by
  rcases Kq.1 hj with q|q
  ·exact hz j q
  ·rw[q,GL hx];exact hc0⟩,by dsimp only;omega,AK⟩
def Hy (x:AE):BQ:=x.shs.map λs=>(s.lot,Bv s.part*(x.mass:Rat))
theorem ZM {x:AE}(hn:(x.shs.map (·.lot)).Nodup):∀j,j<=x.shs.length->G4 x j []=(Hy x).take j
 | 0,_=>rfl
 |j+1,hj=>by
  obtain⟨s,hs⟩:∃s,x.shs[j]?=some s:=⟨_,Bx hj⟩
  rw[O6 x j [] hs,ZM hn j (by omega)];have hm:(Hy x)[j]?=some (s.lot,Bv s.part*(x.mass:Rat)):=by unfold Hy;rw[Az,hs];rfl
  have hnot:s.lot∉Cw ((Hy x).take j):=λh=>by
   obtain⟨z,hz,h2⟩:=By.1 h;obtain⟨i,hi⟩:=L1.1 hz;have hij:i<j:=by
    have:=(BS.1 hi).1
    rw[Bd]at this;omega
   rw[FU,AI hij]at hi;unfold Hy at hi;rw[Az]at hi;obtain⟨t,ht,rfl⟩:=Ez.1 hi;have e1:(x.shs.map (·.lot))[i]?=some t.lot:=by rw[Az,ht];rfl
   have e2:(x.shs.map (·.lot))[j]?=some s.lot:=by rw[Az,hs];rfl
   have a1:=BS.1 e1;have a2:=BS.1 e2
   have:i=j:=(List.getElem_inj (h₀:=a1.1) (h₁:=a2.1) hn).1 (by rw[a1.2,a2.2];exact h2)
   omega
  have hl:Gb s.lot ((Hy x).take j)=none:=by
   cases h9:Gb s.lot ((Hy x).take j)with
   |none=>rfl
   |some o=>
    obtain⟨A,B,h3,-⟩:=RL (v:=o) h9;exact Ak (by rw[h3];simp[Cw]) hnot
  unfold Kj;rw[hl];dsimp only;rw[(UL (v:=Bv s.part*(x.mass:Rat)) hl).2,Du,hm];rfl
theorem nX {x:AE}(hn:(x.shs.map (·.lot)).Nodup):CU [x]=Hy x:=by
 show G4 x x.shs.length []=_;rw[ZM hn _ (An _),Cp];unfold Hy;rw[Ae];exact An _
theorem t7 {q:BQ}(h:EE q):GE q=q:=(Ty h.nd (.refl _) (LC _) h.weak (R5 _)).symm
theorem sw (l:List AE):(FQ l).Pairwise λa b=>ltStr a.lot b.lot=true:=by
 unfold FQ;rw[List.pairwise_map,<-Us];exact MV l
theorem VS (l:List AE)(left:Int):CU [Gc l left]=Hy (Gc l left)/\GE (CU [Gc l left])=Hy (Gc l left):=by
 have hp:(Gc l left).shs.Pairwise λa b=>ltStr a.lot b.lot=true:=sw _
 have h1:=nX (x:=Gc l left) (by
  rw[List.Nodup,List.pairwise_map];exact hp.imp λ{a b} h e=>by rw[e,swo_ltStr.irrefl]at h;cases h)
 refine⟨h1,?_⟩;rw[h1];refine t7 ?_;unfold Hy;show List.Pairwise _ _;rw[List.pairwise_map];exact hp
theorem xg (b:Bool)(l:List AE)(hl:l.length<=9223372036854775807)(hs:∀x∈l,x.shs.length<=9223372036854775807):AL C0 52 [Aj b l] (Ap (HV l)):=by
 refine Ad.walk w1 d8r rfl λF=>?_
 have el:(((l.map AE.D).length:Nat):Int)=(l.length:Int):=by rw[Ae]
 refine AH AW el AB AB AB AB AB AB ?_;refine AC.loop (α:=Nat×Nat) (λp=>⟨[(0,Aj b l),(7,Aj b l),(8,i64 (l.length:Int)),(9,i64 (p.1:Int))],[],p.2⟩) (λp=>l.length-p.1) (λq=>q.1<=l.length/\(l.take q.1).all AE.shB=true) (0,_) ⟨BT _,rfl⟩ AK ?_;rintro⟨i,n⟩ F ⟨hi,ha⟩;dsimp only at hi ha⊢;rcases BC i l.length with h2|h2
 rotate_left
 ·have e1:=Cc h2
  have:i=l.length:=by omega
  subst this;rw[Cz]at ha;obtain⟨q1,h1⟩:∃q,decide ((l.length:Int)<=8)=q:=⟨_,rfl⟩
  obtain⟨q2,h2'⟩:∃q,decide ((l.length:Int)>64)=q:=⟨_,rfl⟩
  obtain⟨q3,h3⟩:∃q,decide ((l.length:Int)<=80)=q:=⟨_,rfl⟩
  have hb:HV l=(q1||(q2&&q3)):=by
   unfold HV;rw[ha,<-h1,<-h2',<-h3,HI]
   congr 1
   ·exact DO.2 (by omega)
   ·congr 1
    ·exact DO.2 (by omega)
    ·exact DO.2 (by omega)
  rw[hb];cases q1<;>cases q2<;>cases q3
  all_goals
   refine AH AW (CP e1 el h1 h2' h3 kT kF) AB AB AB AB AB AB ?_;exact AM rfl AA.out
 have e1:=CZ h2;have wi:=Ce (i:=i) (by omega);obtain⟨x,hx⟩:=CJ h2;have hm:(l.map AE.D)[i]?=some (.agg [str (sb x.grain),i64 x.mass,.sl false 2 (x.shs.map As.D)]):=by rw[Az,hx];rfl
 have hsx:=hs x (Au hx);have ex:(((x.shs.map As.D).length:Nat):Int)=(x.shs.length:Int):=by rw[Ae]
 have hsz:=Cx x.grain;obtain⟨p1,h1⟩:∃q,decide ((x.grain.length:Int)>100)=q:=⟨_,rfl⟩
 obtain⟨p2,h2'⟩:∃q,decide ((x.shs.length:Int)>8)=q:=⟨_,rfl⟩
 obtain⟨p3,h3⟩:∃q,decide ((x.shs.length:Int)<=64)=q:=⟨_,rfl⟩
 obtain⟨p4,h4⟩:∃q,decide ((x.shs.length:Int)>80)=q:=⟨_,rfl⟩
 have hb:x.shB=(!p1&&(!p2 || !p3) && !p4&&x.shs.all As.shB):=by
  unfold AE.shB;rw[<-h1,<-h2',<-h3,<-h4]
  congr 1
  congr 1
  ·congr 1
   ·rw[<-decide_not];exact DO.2 (by omega)
   ·congr 1
    ·rw[<-decide_not];exact DO.2 (by omega)
    ·rw[<-decide_not];exact DO.2 (by omega)
  ·rw[<-decide_not];exact DO.2 (by omega)
 by_cases g:(!p1&&(!p2 || !p3) && !p4)=true
 rotate_left
 ·have hbf:x.shB=false:=by rw[hb];simp only[Bool.not_eq_true]at g;rw[g];rfl
  have hsf:HV l=false:=by unfold HV;rw[VK hx hbf];rfl
  rw[hsf];cases p1<;>cases p2<;>cases p3<;>cases p4
  all_goals first
   |exact Ak rfl g
   |skip
  all_goals
   refine AH AW (CP e1 hsz ex h1 h2' h3 (Bb h4 kN kT kF)) hm AB AB AB AB AB ?_;exact AM rfl AA.out
 rw[g,HI]at hb;cases p1<;>cases p2<;>cases p3<;>cases p4
 all_goals first
  |exact Ak g (by decide)
  |skip
 all_goals
  refine AH AW (CP e1 hsz ex h1 h2' h3 (Bb h4 kN kT kF)) hm AB AB AB AB AB ?_;refine AC.loop (α:=Nat×Nat) (λp=>⟨[(0,Aj b l),(7,Aj b l),(8,i64 (l.length:Int)),(9,i64 (i:Int)),(36,.sl false 2 (x.shs.map As.D)),(37,i64 (x.shs.length:Int)),(38,i64 (p.1:Int))],[],p.2⟩) (λp=>x.shs.length-p.1) (λq=>q.1<=x.shs.length/\(x.shs.take q.1).all As.shB=true) (0,_) ⟨BT _,rfl⟩ AK ?_;clear h1 h2' h3 h4 g;rintro⟨j,n⟩ F ⟨hj,haj⟩;dsimp only at hj haj⊢;rcases BC j x.shs.length with g2|g2
  ·have e3:=CZ g2
   have wj:=Ce (i:=j) (by omega);obtain⟨y,hy⟩:=CJ g2;have hmy:(x.shs.map As.D)[j]?=some (.agg [str (sb y.lot),str (sb y.part)]):=by rw[Az,hy];rfl
   have hs1:=Cx y.lot;have hs2:=Cx y.part;obtain⟨r1,k1⟩:∃q,decide ((y.lot.length:Int)>100)=q:=⟨_,rfl⟩
   obtain⟨r2,k2⟩:∃q,decide ((y.part.length:Int)>14)=q:=⟨_,rfl⟩
   have hby:y.shB=(!r1 && !r2):=by
    unfold As.shB;rw[<-k1,<-k2]
    congr 1
    ·rw[<-decide_not];exact DO.2 (by omega)
    ·rw[<-decide_not];exact DO.2 (by omega)
   have fin:y.shB=false->HV l=false:=λh=>by
    have:x.shB=false:=by rw[hb,VK hy h]
    unfold HV;rw[VK hx this];rfl
   cases r1
   ·cases r2
    ·refine AH AW (CP e3 wj hs1 hs2 k1 k2 (Ar kN kT kF)) hmy AB AB AB AB AB ?_
     exact⟨(j+1,_),⟨g2,ZT hy haj hby⟩,by dsimp only;omega,AK⟩
    ·rw[fin hby]
     refine AH AW (CP e3 wj hs1 hs2 k1 k2 (Ar kN kT kF)) hmy AB AB AB AB AB ?_;exact AM rfl AA.out
   ·rw[fin hby]
    refine AH AW (CP e3 wj hs1 hs2 k1 kN (Ab kT kF)) hmy AB AB AB AB AB ?_;exact AM rfl AA.out
  ·have e3:=Cc g2
   have:j=x.shs.length:=by omega
   subst this;rw[Cz]at haj;refine AH AW (Ab e3 wi) AB AB AB AB AB AB ?_;exact⟨(i+1,_),⟨h2,ZT hx ha (hb.trans haj)⟩,by dsimp only;omega,AK⟩
theorem tX {l:List AE}(h:HV l=true):(∀x∈l,x.lite/\x.modr)/\l.length<=80/\(l.length<=8\/64<l.length):=by
 unfold HV at h;simp only[BU,Kx,CY,HH]at h;obtain⟨h1,h2⟩:=h;refine⟨λx hx=>?_,by omega,by omega⟩;have hb:=h1 x hx;unfold AE.shB at hb;simp only[BU,Kx,CY,HH]at hb;obtain⟨⟨⟨b1,b2⟩,b3⟩,b4⟩:=hb;have hs:∀s∈x.shs,s.lot.length<=100/\s.part.length<=14:=λs hs=>by
  have:=b4 s hs
  unfold As.shB at this;simpa using this
 have hl:x.lite:=⟨⟨by omega,by omega,λs q=>⟨by have:=(hs s q).1;omega,by have:=(hs s q).2;omega⟩⟩,λs q=>⟨by have:=(hs s q).1;omega,by have:=(hs s q).2;omega⟩⟩
 exact⟨hl,by omega,hl⟩
theorem EJ {l:List AE}(h:Bz l=0):l.length<=64/\(∀x∈l,1<=x.mass/\x.mass<=1000000000/\x.shs.length<=1000000)/\JE l:=by
 obtain⟨g1,g2,g3⟩:=JD h;have hx:∀x∈l,1<=x.mass/\x.mass<=1000000000/\x.shs.length<=1000000:=λx q=>by
  obtain⟨a,b,c,d⟩:=PJ (g2 x q)
  have:=(UD d).2.1
  exact⟨by omega,by omega,by omega⟩
 exact⟨g1,hx,by omega,λx q=>by have:=hx x q;omega⟩
abbrev Rm:Dr:=[(4,[0,1,2,3,4,5,6,7,8,9,10,11,12,13,14],[15,16])]
open Go.Proofs Go.RowKit Go.Sort
set_option maxRecDepth 20000
set_option maxHeartbeats 4000000
structure Av where
 flow:List UInt8
 core:Int
 room:Int
 side:Int
 cells:List (List AE)
abbrev GA (b:Bool)(cs:List (List AE)):D:=.sl b 1 (cs.map (Aj false))
def Av.D (x:Av):D:=.agg [str (sb x.flow),i64 x.core,i64 x.room,i64 x.side,GA false x.cells]
instance  (x:Av):AX x.D:=by unfold Av.D;exact AJ
instance  (x:Av):AA x.D:=by unfold Av.D;exact AJ
theorem Wf (b:Bool)(l:List AE)(hl:l.length<=9223372036854775807):AL C0 31 [Aj b l] (i64 (DZ l)):=by
 refine Ad.walk w1 WW rfl λF=>?_
 have el:(((l.map AE.D).length:Nat):Int)=(l.length:Int):=by rw[Ae]
 refine AH AW el AB AB AB AB AB AB ?_;refine AC.loop (α:=Nat×Nat) (λp=>⟨[(3,i64 (DZ (l.take p.1))),(6,Aj b l),(7,i64 (l.length:Int)),(8,i64 (p.1:Int))],[],p.2⟩) (λp=>l.length-p.1) (λp=>p.1<=l.length) (0,_) (BT _) AK ?_;rintro⟨i,m⟩ F hi;dsimp only at hi⊢;rcases BC i l.length with h2|h2
 rotate_left
 ·have e1:=Cc h2
  have:i=l.length:=by omega
  subst this;rw[Cz];refine AH AW e1 AB AB AB AB AB AB ?_;exact AM rfl AA.out
 have e1:=CZ h2;have wi:=Ce (i:=i) (by omega);obtain⟨x,hx⟩:=CJ h2;have hm:(l.map AE.D)[i]?=some (.agg [str (sb x.grain),i64 x.mass,.sl false 2 (x.shs.map As.D)]):=by rw[Az,hx];rfl
 have wS:=(Uf hx).symm;refine AH AW (Bb e1 wi @wS kN) hm AB AB AB AB AB ?_;exact⟨(i+1,_),h2,by dsimp only;omega,AK⟩
def DF (n lo hi:Int):Bool:=decide (n>=lo)&&decide (n<=hi)
theorem Nf (n lo hi:Int):AL C0 70 [i64 n,i64 lo,i64 hi] (Ap (DF n lo hi)):=by
 refine Ad.walk w1 ig rfl λF=>?_
 obtain⟨p,hp⟩:∃p,decide (n>=lo)=p:=⟨_,rfl⟩
 have hb:DF n lo hi=(p&&decide (n<=hi)):=by unfold DF;rw[hp]
 rw[hb];cases p
 ·refine AH AW (Ar hp kT kF) AB AB AB AB AB AB ?_
  exact AM rfl AA.out
 ·refine AH AW (Ar hp kT kF) AB AB AB AB AB AB ?_
  exact AM rfl AA.out
def EF (side:Int)(l:List Int):Bool:=(List.range (l.length-1)).any λi=>!DF (IntKind.i64.wrap (l.getD (i+1) 0-l.getD i 0)) (IntKind.i64.wrap (0-side)) side
theorem WN {side:Int}{l:List Int}{i:Nat}(h:i+1<l.length)(hb:DF (IntKind.i64.wrap (l.getD (i+1) 0-l.getD i 0)) (IntKind.i64.wrap (0-side)) side=false):EF side l=true:=by
 unfold EF;rw[List.any_eq_true];exact⟨i,List.mem_range.2 (by omega),by rw[hb];rfl⟩
theorem WO {side:Int}{l:List Int}(h:∀i,i+1<l.length->DF (IntKind.i64.wrap (l.getD (i+1) 0-l.getD i 0)) (IntKind.i64.wrap (0-side)) side=true):EF side l=false:=by
 unfold EF;rw[List.any_eq_false];intro i hi
 have:=List.mem_range.1 hi
 rw[h i (by omega)];decide
theorem dV (x:Av)(b:Bool)(l:List Int)(hl:l.length<=1000000):AL C0 39 [x.D,.sl b 1 (Bi l)] (i64 (if EF x.side l then 17 else 0)):=by
 refine Ad.walk w1 iO rfl λF=>?_
 have el:((Bi l).length:Int)=(l.length:Int):=by rw[Ae]
 have elN:(Bi l).length=l.length:=Ae ..;unfold Av.D;obtain⟨cd,hcd⟩:∃d,GA false x.cells=d:=⟨_,rfl⟩
 have pcd:AA cd:=by rw[<-hcd];exact AJ
 have ncd:KR cd=true:=by rw[<-hcd];rfl
 rw[hcd];refine AH Rm el AB AB AB AB AB AB ?_;refine AC.loop (α:=Nat×Nat) (λp=>⟨[(1,.sl b 1 (Bi l)),(2,.optr 0 0 5 0 0),(5,i64 ((p.1+1:Nat):Int))],[⟨0,0,24,5,[.agg [str (sb x.flow),i64 x.core,i64 x.room,i64 x.side,cd]]⟩],p.2⟩) (λp=>l.length-p.1) (λp=>p.1<=l.length/\∀j,j<p.1->DF (IntKind.i64.wrap (l.getD (j+1) 0-l.getD j 0)) (IntKind.i64.wrap (0-x.side)) x.side=true) (0,_) ⟨BT _,λj h=>Ak h (HJ j)⟩ AK ?_;rintro⟨i,m⟩ F ⟨hi,ha⟩;dsimp only at hi ha⊢;rcases BC (i+1) l.length with h2|h2
 rotate_left
 ·have e1:=Cc h2
  rw[WO λj hj=>ha j (by omega)];refine AH Rm (Ab el e1) AB AB AB AB AB AB ?_;exact AM rfl AA.out
 have e1:=CZ h2;have wi:=Ce (i:=i+1) (by omega);have w2:IntKind.i64.wrap (((i+1:Nat):Int)-1)=((i:Nat):Int):=by rw[wI];omega
 have hm1:=Pw (l:=l) (i:=i+1) h2;have hm2:=Pw (l:=l) (i:=i) (by omega);have cW:=Nf (IntKind.i64.wrap (l.getD (i+1) 0-l.getD i 0)) (IntKind.i64.wrap (0-x.side)) x.side;have hbad:=WN (side:=x.side) h2;obtain⟨u,hu⟩:∃u,l.getD (i+1) 0=u:=⟨_,rfl⟩
 obtain⟨v,hv⟩:∃u,l.getD i 0=u:=⟨_,rfl⟩
 have hgood:=λ(hq:DF (IntKind.i64.wrap (u-v)) (IntKind.i64.wrap (0-x.side)) x.side=true) (j:Nat) (hj:j<i+1)=>show DF (IntKind.i64.wrap (l.getD (j+1) 0-l.getD j 0)) (IntKind.i64.wrap (0-x.side)) x.side=true from by
  rcases BC j i with h|h
  ·exact ha j h
  ·have:j=i:=by omega
   subst this;rw[hu,hv];exact hq
 rw[hu]at hm1 cW hbad;rw[hv]at hm2 cW hbad;obtain⟨q,hq⟩:∃q,DF (IntKind.i64.wrap (u-v)) (IntKind.i64.wrap (0-x.side)) x.side=q:=⟨_,rfl⟩
 rw[hq]at cW hbad hgood;obtain⟨L,hL⟩:∃L,Bi l=L:=⟨_,rfl⟩
 have pL:AA (.sl b 1 L):=by rw[<-hL];exact AJ
 rw[hL]at hm1 hm2 el⊢;cases q
 ·rw[hbad rfl]
  refine AH Rm (CN el e1 w2 wi kN) hm1 hm2 cW AB AB AB ?_;exact AM rfl AA.out
 ·refine AH Rm (CN el e1 w2 wi kN) hm1 hm2 cW AB AB AB ?_
  exact⟨(i+1,_),⟨by omega,hgood rfl⟩,by dsimp only;omega,AK⟩
def Bq (x:Av):List Int:=x.cells.map DZ
theorem VL (x:Av)(hl:x.cells.length<=1000000)(hc:∀c∈x.cells,c.length<=9223372036854775807):AL C0 40 [x.D] (.sl false 1 (Bi (Bq x))):=by
 refine Ad.walk w1 WY rfl λF=>?_
 obtain⟨cs,hcs⟩:∃c,x.cells=c:=⟨_,rfl⟩
 have hlv:Bq x=cs.map DZ:=by unfold Bq;rw[hcs]
 rw[hlv];rw[hcs]at hl hc;have el:(((cs.map (Aj false)).length:Nat):Int)=(cs.length:Int):=by rw[Ae]
 unfold Av.D;rw[hcs];refine sR 0 ?_;refine sR 100 ?_;refine AC.seq ?_;refine sZ 200 ?_;refine AV el ?_;refine AC.ghost 504 3 1 [(3,.osl 504 _ 1 0 0),(7,GA false cs),(8,i64 (cs.length:Int)),(9,i64 ((0:Nat):Int))] ⟨.inr ⟨rfl,rfl⟩,.inl rfl,.inl rfl,.inl rfl,trivial⟩ ?_;refine AC.block ?_;refine AC.loop (α:=Nat×Nat×Nat) (λp=>⟨[(3,.osl 504 p.2.1 1 0 p.1),(7,GA false cs),(8,i64 (cs.length:Int)),(9,i64 (p.1:Int))],[⟨504,p.2.1,3,1,Bi ((cs.take p.1).map DZ)⟩],p.2.2⟩) (λp=>cs.length-p.1) (λq=>q.1<=cs.length) (0,_,_) (BT _) AK ?_;rintro⟨i,g,n⟩ F hi;dsimp only at hi⊢;rcases BC i cs.length with h2|h2
 rotate_left
 ·have e1:=Cc h2
  have:i=cs.length:=by omega
  subst this;rw[Cz];have hf:=GZ (H:=[⟨504,g,3,1,Bi (cs.map DZ)⟩]) (Hf:=[]) (k:=504) (g:=g) (T:=3) (sz:=1) (l:=Bi (cs.map DZ)) rfl;rw[Ae,Ae]at hf;refine AH AW e1 AB AB AB AB AB AB ?_;exact⟨_,hf,AA.out,rfl⟩
 have e1:=CZ h2;have wi:=Ce (i:=i) (by omega);obtain⟨c,hc'⟩:=CJ h2;have hm:(cs.map (Aj false))[i]?=some (.sl false 3 (c.map AE.D)):=by rw[Az,hc'];rfl
 have cT:=Wf false c (hc c (Au hc'));have ht:Bi ((cs.take (i+1)).map DZ)=Bi ((cs.take i).map DZ)++[i64 (DZ c)]:=by
  rw[Du,hc',DA];unfold Bi;rw[DA];rfl
 have htl:(Bi ((cs.take i).map DZ)).length=i:=by rw[Ae,Ae,Bd];omega
 obtain⟨R,hR⟩:∃R,Bi ((cs.take i).map DZ)=R:=⟨_,rfl⟩
 rw[hR]at ht htl⊢;refine AH AW (Ar e1 wi kN) hm cT AB AB AB AB ?_;refine⟨(i+1,n+1+1+1+1+1+1+1+1,n+1000),h2,by dsimp only;omega,?_⟩;dsimp only;rw[ht,Cp (show R.length<=i by omega)];exact AK
open Go.ChangeShapes Go.WideShapes
def Av.fit (x:Av):Prop:=x.cells.length<=maxLen/\∀c∈x.cells,c.length<=maxLen/\∀y∈c,y.shs.length<=maxLen
section
variable {H:Type} {enc:TypeId×Value->H} {W:World} {fuel:Nat} {cs:List Value} {x:DataW H×List MemPlace} {t:TypeId}
theorem qG (h:DataW.trod enc Tryz.prog W 0 (λ_=>true) true fuel 22 cs=some x):∃l:List (List AE),EA W cs [GA false l]/\(∀c∈l,c.length<=maxLen/\∀y∈c,y.shs.length<=maxLen)/\l.length<=maxLen:=
 Wm (g:=Aj false) (ok:=λc=>c.length<=maxLen/\∀y∈c,y.shs.length<=maxLen) (e:=29) (sz:=1) (by kernel_rfl) (by kernel_rfl) (by decide) (λ_ _ _ h=>by
  obtain⟨l,h1,h2,h3⟩:=nu h;exact⟨l,h1,h3,h2⟩) h
theorem yk (h:DataW.trod enc Tryz.prog W 0 (λ_=>true) true fuel 24 cs=some x):∃s:Av,EA W cs s.D.cells/\s.fit:=by
 obtain⟨h1,n,h2⟩:=Sr (l:=[(9,0,1),(3,1,1),(3,2,1),(3,3,1),(22,4,1)]) (m:=5) (by kernel_rfl) (by kernel_rfl) h;obtain⟨y0,k0⟩:=h2 0 _ _ _ rfl;obtain⟨y1,k1⟩:=h2 1 _ _ _ rfl;obtain⟨y2,k2⟩:=h2 2 _ _ _ rfl;obtain⟨y3,k3⟩:=h2 3 _ _ _ rfl;obtain⟨y4,k4⟩:=h2 4 _ _ _ rfl;obtain⟨a0,r0,_⟩:=UJ k0;obtain⟨a1,r1⟩:=Mh k1;obtain⟨a2,r2⟩:=Mh k2;obtain⟨a3,r3⟩:=Mh k3;obtain⟨a4,r4,hc,hl⟩:=qG k4;exact⟨⟨a0,a1,a2,a3,a4⟩,Sf h1 (KS (b:=1) (c:=4) r0 (KS (b:=1) (c:=3) r1 (KS (b:=1) (c:=2) r2 (KS (b:=1) (c:=1) r3 r4)))),hl,hc⟩
end
structure Wz where
 f:Int
 t:Int
 m:Int
def Wz.D (x:Wz):D:=.agg [i64 x.f,i64 x.t,i64 x.m]
section
variable {H:Type} {enc:TypeId×Value->H} {W:World} {fuel:Nat} {cs:List Value} {x:DataW H×List MemPlace} {t:TypeId}
theorem nz (h:DataW.trod enc Tryz.prog W 0 (λ_=>true) true fuel 26 cs=some x):∃s:Wz,EA W cs s.D.cells/\True:=by
 obtain⟨h1,n,h2⟩:=Sr (l:=[(3,0,1),(3,1,1),(3,2,1)]) (m:=3) (by kernel_rfl) (by kernel_rfl) h;obtain⟨y0,k0⟩:=h2 0 _ _ _ rfl;obtain⟨y1,k1⟩:=h2 1 _ _ _ rfl;obtain⟨y2,k2⟩:=h2 2 _ _ _ rfl;obtain⟨a0,r0⟩:=Mh k0;obtain⟨a1,r1⟩:=Mh k1;obtain⟨a2,r2⟩:=Mh k2;exact⟨⟨a0,a1,a2⟩,Sf h1 (KS (b:=1) (c:=2) r0 (KS (b:=1) (c:=1) r1 r2)),trivial⟩
end
abbrev Ma:Dr:=[(2,[0,1,2,3,4,5,6,7,8,9,10,11,12,13,14,15,16,17,18,19,20,21,22,23,24,25,26,27,28,29,30,31,32],[33,34,35,36]),(8,[0,1,2,3,4,5,6,7],[8,9,10,11,12]),(12,[0,1,2],[3,4])]
open Go.Proofs Go.RowKit Go.Sort
set_option maxRecDepth 20000
set_option maxHeartbeats 4000000
def G5:ByteArray:=⟨#[109,97,115,115]⟩
def Ji:ByteArray:=⟨#[102,117,110,110,101,108]⟩
def Sk (x:Av):Bool:=(BI (sb x.flow) G5&&(x.core==0))||(BI (sb x.flow) Ji&&DF x.core 2 999999999)
def M2 (x:Av):Int:=if !BI (sb x.flow) G5 && !BI (sb x.flow) Ji then 20 else 0
def Lp (x:Av):Int:=if !Sk x || !DF x.room 1 999999999 || !DF x.side 0 999999999 then 3 else 0
def Gp (x:Av):Int:=E7 [M2 x,Lp x,if(x.cells.length:Int)==0 then 2 else 0,if decide ((x.cells.length:Int)>8)then 5 else 0]
def DW (x:Av)(c:List AE):Int:=E7 [(Bz c:Int),((if Ca c then 0 else 16:Nat):Int),if decide (DZ c>x.room)then 14 else 0]
def Ew (x:Av):List (List AE)->Int
 | []=>0
 |c::r=>if DW x c≠0 then DW x c else Ew x r
def C9 (x:Av):Int:=if Gp x≠0 then Gp x else if Ew x x.cells≠0 then Ew x x.cells else if EF x.side (Bq x)then 17 else 0
theorem u5 (x:Av)(hl:x.cells.length<=1000000)(hc:∀c∈x.cells,c.length<=1000000/\∀y∈c,y.few):AL C0 65 [x.D] (i64 (C9 x)):=by
 refine Ad.walk w1 iZ rfl λF=>?_
 have cLv:=VL x hl λc h=>by have:=(hc c h).1;omega
 have cSt:=dV x false (Bq x) (by unfold Bq;rw[Ae];exact hl);have cC1:=Nf x.core 2 999999999;have cC2:=Nf x.room 1 999999999;have cC3:=Nf x.side 0 999999999;have cF:=Mg [M2 x,Lp x,if(x.cells.length:Int)==0 then 2 else 0,if decide ((x.cells.length:Int)>8)then 5 else 0] (by simp);have hF:E7 [M2 x,Lp x,if(x.cells.length:Int)==0 then 2 else 0,if decide ((x.cells.length:Int)>8)then 5 else 0]=Gp x:=rfl;rw[hF]at cF;have cW3:=H6 ((x.cells.length:Int)==0) 2;have cW4:=H6 (decide ((x.cells.length:Int)>8)) 5;obtain⟨cs,hcs⟩:∃c,x.cells=c:=⟨_,rfl⟩
 have el:(((cs.map (Aj false)).length:Nat):Int)=(cs.length:Int):=by rw[Ae]
 obtain⟨H,hH⟩:∃h,Gp x=h:=⟨_,rfl⟩
 have hB:C9 x=if H≠0 then H else if Ew x x.cells≠0 then Ew x x.cells else if EF x.side (Bq x)then 17 else 0:=by unfold C9;rw[hH]
 obtain⟨K1,hK1⟩:∃h,M2 x=h:=⟨_,rfl⟩
 obtain⟨K2,hK2⟩:∃h,Lp x=h:=⟨_,rfl⟩
 obtain⟨CB,hCB⟩:∃h,Sk x=h:=⟨_,rfl⟩
 rw[hK1,hK2,hH]at cF;rw[hB];rw[hcs]at cF cW3 cW4 hl hc⊢;unfold Av.D at cLv cSt⊢;rw[hcs]at cLv cSt⊢;refine sR 0 ?_;refine EI ⟨[(1,.optr 0 0 5 0 0),(3,Ap CB)],[⟨0,0,24,5,[.agg [str (sb x.flow),i64 x.core,i64 x.room,i64 x.side,GA false cs]]⟩],100⟩ ?_ ?_
 ·obtain⟨p1,h1⟩:∃q,BI (sb x.flow) ⟨#[109,97,115,115]⟩=q:=⟨_,rfl⟩
  obtain⟨p2,h2⟩:∃q,BI (sb x.flow) ⟨#[102,117,110,110,101,108]⟩=q:=⟨_,rfl⟩
  obtain⟨c0,h0⟩:∃q,(x.core==0)=q:=⟨_,rfl⟩
  have hb:CB=((p1&&c0)||(p2&&DF x.core 2 999999999)):=by rw[<-hCB,<-h1,<-h2,<-h0];rfl
  rw[hb];cases p1<;>cases p2<;>cases c0
  all_goals
   refine AH Ma (CN h1 h2 h0 kT kF) cC1 AB AB AB AB AB ?_;exact⟨trivial,AK⟩
 refine EI ⟨[(1,.optr 0 0 5 0 0),(4,i64 H)],[⟨0,0,24,5,[.agg [str (sb x.flow),i64 x.core,i64 x.room,i64 x.side,GA false cs]]⟩],1000⟩ ?_ ?_
 ·obtain⟨p1,h1⟩:∃q,BI (sb x.flow) ⟨#[109,97,115,115]⟩=q:=⟨_,rfl⟩
  obtain⟨p2,h2⟩:∃q,BI (sb x.flow) ⟨#[102,117,110,110,101,108]⟩=q:=⟨_,rfl⟩
  obtain⟨wr,hr⟩:∃q,DF x.room 1 999999999=q:=⟨_,rfl⟩
  obtain⟨ws,hw⟩:∃q,DF x.side 0 999999999=q:=⟨_,rfl⟩
  have e1:M2 x=if !p1 && !p2 then 20 else 0:=by rw[<-h1,<-h2];rfl
  have e2:Lp x=if !CB || !wr || !ws then 3 else 0:=by rw[<-hCB,<-hr,<-hw];rfl
  have cA:=H6 (!p1 && !p2) 20;have cB:=H6 (!CB || !wr || !ws) 3;rw[<-e1,hK1]at cA;rw[<-e2,hK2]at cB;rw[hr]at cC2;rw[hw]at cC3;clear e1 e2 hcs hK1 hK2 hCB hF cC1 cLv cSt hr hw;cases p1<;>cases p2<;>cases CB<;>cases wr
  all_goals
   refine AH Ma (CN h1 h2 el kT kF) cA cC2 cC3 cB cW3 cW4 ?_;refine BE.same _ cF AJ ?_;refine BR ?_;exact⟨trivial,AK⟩
 by_cases hH0:H=0
 rotate_left
 ·have e1:(H != 0)=true:=I7 hH0
  rw[AI hH0];refine AH Ma e1 AB AB AB AB AB AB ?_;exact AM rfl AA.out
 have e1:(H != 0)=false:=by rw[hH0];rfl
 rw[AG (λh=>h hH0)];clear cC1 cC2 cC3 cF cW3 cW4 hK1 hK2 hCB hF hB;refine AH Ma (Ab e1 el) AB AB AB AB AB AB ?_;refine AC.loop (α:=Nat×Nat) (λp=>⟨[(1,.optr 0 0 5 0 0),(66,GA false cs),(67,i64 (cs.length:Int)),(68,i64 (p.1:Int))],[⟨0,0,24,5,[.agg [str (sb x.flow),i64 x.core,i64 x.room,i64 x.side,GA false cs]]⟩],p.2⟩) (λp=>cs.length-p.1) (λq=>q.1<=cs.length/\Ew x (cs.drop q.1)=Ew x cs) (0,_) ⟨BT _,rfl⟩ AK ?_;rintro⟨i,n⟩ F ⟨hi,hJ⟩;dsimp only at hi hJ⊢;rcases BC i cs.length with h2|h2
 rotate_left
 ·have k1:=Cc h2
  have:i=cs.length:=by omega
  subst this;rw[J5]at hJ;rw[AG (λh=>h (by rw[<-hJ];rfl))];have pLv:AA (.sl false 1 (Bi (Bq x))):=AJ;refine AH Ma k1 cLv cSt AB AB AB AB ?_;exact AM rfl AA.out
 have k1:=CZ h2;have wi:=Ce (i:=i) (by omega);obtain⟨c,hc'⟩:=CJ h2;have hm:(cs.map (Aj false))[i]?=some (.sl false 3 (c.map AE.D)):=by rw[Az,hc'];rfl
 obtain⟨hc1,hc2⟩:=hc c (Au hc');have cP:=OR false c (by omega) hc2;have cG:=ZA false c hc1;have cT:=Wf false c (by omega);have cW:=H6 (decide (DZ c>x.room)) 14;have cE:=Mg [(Bz c:Int),((if Ca c then 0 else 16:Nat):Int),if decide (DZ c>x.room)then 14 else 0] (by simp);have hE:E7 [(Bz c:Int),((if Ca c then 0 else 16:Nat):Int),if decide (DZ c>x.room)then 14 else 0]=DW x c:=rfl;rw[hE]at cE;have hd:cs.drop i=c::cs.drop (i+1):=by
  have:=BS.1 hc'
  rw[Ey this.1,this.2]
 rw[hd]at hJ;have hJ2:Ew x cs=if DW x c≠0 then DW x c else Ew x (cs.drop (i+1)):=hJ.symm
 obtain⟨E,hEE⟩:∃E,DW x c=E:=⟨_,rfl⟩
 rw[hEE]at cE hJ2
 by_cases hE0:E=0
 ·have k2:(E != 0)=false:=by rw[hE0];rfl
  rw[AG (λh=>h hE0)]at hJ2;refine AH Ma (Bb k1 k2 wi kN) hm cP cG cT cW cE ?_;exact⟨(i+1,_),⟨h2,hJ2.symm⟩,by dsimp only;omega,AK⟩
 ·have k2:(E != 0)=true:=I7 hE0
  rw[AI hE0]at hJ2;rw[hJ2,AI hE0];refine AH Ma (Bb k1 k2 wi kN) hm cP cG cT cW cE ?_;exact AM rfl AA.out
abbrev Rn:Dr:=[(4,[0,1,2,3,4,5,6,7,8,9],[10])]
open Go.Proofs Go.RowKit Go.Sort
set_option maxRecDepth 20000
set_option maxHeartbeats 4000000
theorem Sg (x:Av)(i:Nat)(c:List AE)(hc:x.cells[i]?=some c)(hs:JE c)(hl:x.cells.length<=1000000):AL C0 8 [x.D,i64 (i:Int)] (i64 (Ai c)):=by
 refine Ad.walk w1 e0u rfl λF=>?_
 have cM:=Su false c hs;have hi:=(BS.1 hc).1;obtain⟨cs,hcs⟩:∃c,x.cells=c:=⟨_,rfl⟩
 unfold Av.D;rw[hcs]at hc hl hi⊢;have hm:(cs.map (Aj false))[i]?=some (.sl false 3 (c.map AE.D)):=by rw[Az,hc];rfl
 have hml:(cs.map (Aj false)).length=cs.length:=Ae ..;obtain⟨K,hK⟩:∃K,cs.map (Aj false)=K:=⟨_,rfl⟩
 have pK:AA (.sl false 1 K):=by rw[<-hK];exact AJ
 show AC _ _ _ _ _ ⟨Dm 0 [.agg [str (sb x.flow),i64 x.core,i64 x.room,i64 x.side,.sl false 1 (cs.map (Aj false))],i64 (i:Int)],[],0⟩ _;rw[hK]at hm hml⊢;refine AH AW kN hm cM AB AB AB AB ?_;exact AM rfl AA.out
theorem yj (u v:Int):AL C0 76 [i64 u,i64 v] (i64 (max (IntKind.i64.wrap (u-v)) (IntKind.i64.wrap (v-u)))):=by
 refine Ad.walk w1 d8z rfl λF=>?_
 refine AH AW kB AB AB AB AB AB AB ?_;exact AM rfl AA.out
theorem d9r (x:Av)(hl:x.cells.length<=1000000)(hc:∀c∈x.cells,JE c/\0<=Ai c/\Ai c<=999999999)(hside:0<=x.side/\x.side<=999999999):AL C0 43 [x.D] (Ap (!EF x.side (Bq x))):=by
 refine Ad.walk w1 d8n rfl λF=>?_
 have hlvl:=λ(i:Nat) (c:List AE) (h:x.cells[i]?=some c)=>Sg x i c h (hc c (Au h)).1 hl
 have hlv:∀(i:Nat) (c:List AE),x.cells[i]?=some c->(Bq x).getD i 0=Ai c:=λi c h=>by
  unfold Bq;rw[ED,Az,h];exact KK (hc c (Au h)).1
 have hlen:(Bq x).length=x.cells.length:=by unfold Bq;rw[Ae]
 obtain⟨cs,hcs⟩:∃c,x.cells=c:=⟨_,rfl⟩
 have el:(((cs.map (Aj false)).length:Nat):Int)=(cs.length:Int):=by rw[Ae]
 unfold Av.D at hlvl⊢;rw[hcs]at hlvl hlv hlen hl hc⊢;refine AH Rn kB AB AB AB AB AB AB ?_;refine AC.loop (α:=Nat×Nat) (λp=>⟨[(1,.optr 0 0 5 0 0),(3,i64 ((p.1+1:Nat):Int))],[⟨0,0,24,5,[.agg [str (sb x.flow),i64 x.core,i64 x.room,i64 x.side,GA false cs]]⟩],p.2⟩) (λp=>cs.length-p.1) (λp=>p.1<=cs.length/\∀j,j<p.1->DF (IntKind.i64.wrap ((Bq x).getD (j+1) 0-(Bq x).getD j 0)) (IntKind.i64.wrap (0-x.side)) x.side=true) (0,_) ⟨BT _,λj h=>Ak h (HJ j)⟩ AK ?_;rintro⟨i,m⟩ F ⟨hi,ha⟩;dsimp only at hi ha⊢;rcases BC (i+1) cs.length with h2|h2
 rotate_left
 ·have e1:=Cc h2
  rw[WO (side:=x.side) (l:=Bq x) λj hj=>ha j (by omega)];refine AH Rn (Ab el e1) AB AB AB AB AB AB ?_;exact AM rfl AA.out
 have e1:=CZ h2;have wi:=Ce (i:=i+1) (by omega);have w2:IntKind.i64.wrap (((i+1:Nat):Int)-1)=((i:Nat):Int):=by rw[wI];omega
 obtain⟨c,hc1⟩:=CJ (show i<cs.length by omega);obtain⟨d,hd1⟩:=CJ h2;have c1:=hlvl i c hc1;have c2:=hlvl (i+1) d hd1;have v1:=hlv i c hc1;have v2:=hlv (i+1) d hd1;obtain⟨-,a1,a2⟩:=hc c (Au hc1);obtain⟨-,b1,b2⟩:=hc d (Au hd1);have c3:=yj (Ai c) (Ai d);have hbad:=WN (side:=x.side) (l:=Bq x) (i:=i) (by omega);rw[v1,v2]at hbad;have q1:IntKind.i64.wrap (Ai c-Ai d)=Ai c-Ai d:=wI;have q2:IntKind.i64.wrap (Ai d-Ai c)=Ai d-Ai c:=wI;have q3:IntKind.i64.wrap (0-x.side)=0-x.side:=wI;rw[q1,q2]at c3
 by_cases hg:max (Ai c-Ai d) (Ai d-Ai c)>x.side
 ·have e2:decide (max (Ai c-Ai d) (Ai d-Ai c)>x.side)=true:=Ax hg
  rw[hbad (by rw[q2,q3];unfold DF;rw[Bool.and_eq_false_iff,Hh,Hh];omega)];refine AH Rn (EP el e1 e2 w2 wi kN) c1 c2 c3 AB AB AB ?_;exact AM rfl AA.out
 ·have e2:decide (max (Ai c-Ai d) (Ai d-Ai c)>x.side)=false:=A8 hg
  refine AH Rn (EP el e1 e2 w2 wi kN) c1 c2 c3 AB AB AB ?_;refine⟨(i+1,_),⟨by omega,λj hj=>?_⟩,by dsimp only;omega,AK⟩;rcases BC j i with h|h
  ·exact ha j h
  ·have:j=i:=by dsimp only at hj;omega
   subst this;rw[v1,v2,q2,q3];unfold DF;rw[BU,decide_eq_true_iff,decide_eq_true_iff];omega
theorem Z6 {l:List UInt8}(h:BI (sb l) G5=true):BI (sb l) Ji=false:=by
 have h1:BI (sb l) (sb [109,97,115,115])=true:=h;rw[LI]at h1;rw[DN h1];show BI (sb [109,97,115,115]) (sb [102,117,110,110,101,108])=false;rw[LI];decide
def Lw (x:Av):Bool:=(BI (sb x.flow) G5&&(x.core != 0))||(BI (sb x.flow) Ji&&(decide (x.core<2)||decide (x.core>999999999)))||decide (x.room<1)||decide (x.room>999999999)||decide (x.side<0)||decide (x.side>999999999)
theorem yI {x:Av}(h:(!BI (sb x.flow) G5 && !BI (sb x.flow) Ji)=false):Lp x=if Lw x then 3 else 0:=by
 have hx:=@Z6 x.flow;unfold Lp Lw Sk DF;obtain⟨p1,h1⟩:∃q,BI (sb x.flow) G5=q:=⟨_,rfl⟩
 obtain⟨p2,h2⟩:∃q,BI (sb x.flow) Ji=q:=⟨_,rfl⟩
 rw[h1,h2]at h hx⊢;have e:(!(p1&&x.core==0||p2&&(decide (x.core>=2)&&decide (x.core<=999999999))) || !(decide (x.room>=1)&&decide (x.room<=999999999)) || !(decide (x.side>=0)&&decide (x.side<=999999999)))
   = (p1&&x.core != 0||p2&&(decide (x.core<2)||decide (x.core>999999999))||decide (x.room<1)||decide (x.room>999999999)||decide (x.side<0)||decide (x.side>999999999)):=by
  cases p1<;>cases p2
  ·cases h
  ·rw[Fs];simp;omega
  ·rw[Fs];simp;omega
  ·cases hx rfl
 rw[e]
theorem Vz (x:Av):Gp x=if(!BI (sb x.flow) G5 && !BI (sb x.flow) Ji)=true then 20 else if Lw x=true then 3 else if x.cells.length=0 then 2 else if 8<x.cells.length then 5 else 0:=by
 unfold Gp M2;cases h:(!BI (sb x.flow) G5 && !BI (sb x.flow) Ji)
 ·rw[yI h,AG Bool.false_ne_true,AG Bool.false_ne_true]
  cases Lw x
  ·rw[AG Bool.false_ne_true,AG Bool.false_ne_true]
   by_cases h0:x.cells.length=0
   ·rw[AI h0,h0];rfl
   ·have:((x.cells.length:Int)==0)=false:=B4.2 (by omega)
    rw[AG h0,this]
    by_cases h8:8<x.cells.length
    ·rw[AI h8,show decide ((x.cells.length:Int)>8)=true from BX];rfl
    ·rw[AG h8,show decide ((x.cells.length:Int)>8)=false from Bc];rfl
  ·rfl
 ·rfl
theorem T8 {x:Av}:∀ {l:List (List AE)},Ew x l=0->∀c∈l,DW x c=0
 | [],_,c,h=>by cases h
 |d::r,h,c,hc=>by
  have h1:(if DW x d≠0 then DW x d else Ew x r)=0:=h
  by_cases h0:DW x d=0
  ·rw[AG (λq=>q h0)]at h1
   rcases A9.1 hc with rfl|h2
   ·exact h0
   ·exact T8 h1 c h2
  ·rw[AI h0]at h1;exact Ak h1 h0
theorem Md:∀ {l:List AE},(∀x∈l,0<=x.mass)->0<=Ai l
 | [],_=>Int.le_refl _
 |x::l,h=>by
  have h1:=h x (B1 ..);have h2:=Md λy hy=>h y (B9 _ hy)
  have:Ai (x::l)=x.mass+Ai l:=by unfold Ai;rfl
  omega
theorem GY {x:Av}{c:List AE}(h:DW x c=0):Bz c=0/\Ca c=true/\JE c/\0<=Ai c/\Ai c<=999999999/\Ai c<=x.room:=by
 have h1:(if(Bz c:Int)≠0 then(Bz c:Int)else if((if Ca c then 0 else 16:Nat):Int)≠0 then((if Ca c then 0 else 16:Nat):Int)else if(if decide (DZ c>x.room)then(14:Int)else 0)≠0 then(if decide (DZ c>x.room)then(14:Int)else 0)else 0)=0:=h
 by_cases hp:Bz c=0
 rotate_left
 ·rw[DR]at h1;omega
 rw[hp,AG (λq=>q rfl)]at h1;obtain⟨g1,g2,g3⟩:=EJ hp;have g4:=(JD hp).2.2;have hT:=KK g3;have g5:0<=Ai c:=Md λy hy=>by have:=(g2 y hy).1;omega
 cases hg:Ca c
 ·rw[hg]at h1;cases h1
 rw[hg,AG (by decide)]at h1;refine⟨hp,rfl,g3,g5,g4,?_⟩;rw[hT]at h1
 by_cases hr:Ai c>x.room
 ·rw[Ax hr]at h1;cases h1
 ·omega
theorem rq {x:Av}{c:List AE}(h:Bz c≠0):DW x c=(Bz c:Int):=by
 show(if(Bz c:Int)≠0 then _ else _)=_;rw[DR]
theorem uE {x:Av}{c:List AE}(h:Bz c=0)(hg:Ca c=false):DW x c=16:=by
 show(if(Bz c:Int)≠0 then _ else if((if Ca c then 0 else 16:Nat):Int)≠0 then((if Ca c then 0 else 16:Nat):Int)else _)=_;rw[h,hg];rfl
theorem pi {x:Av}{c:List AE}(h:Bz c=0)(hg:Ca c=true)(hr:Ai c>x.room):DW x c=14:=by
 have hT:=KK (EJ h).2.2;show(if(Bz c:Int)≠0 then _ else if((if Ca c then 0 else 16:Nat):Int)≠0 then((if Ca c then 0 else 16:Nat):Int)else if(if decide (DZ c>x.room)then(14:Int)else 0)≠0 then(if decide (DZ c>x.room)then(14:Int)else 0)else 0)=_;rw[h,hg,hT,Ax hr];rfl
theorem ZX {x:Av}{c:List AE}(h:Bz c=0)(hg:Ca c=true)(hr:¬Ai c>x.room):DW x c=0:=by
 have hT:=KK (EJ h).2.2;show(if(Bz c:Int)≠0 then _ else if((if Ca c then 0 else 16:Nat):Int)≠0 then((if Ca c then 0 else 16:Nat):Int)else if(if decide (DZ c>x.room)then(14:Int)else 0)≠0 then(if decide (DZ c>x.room)then(14:Int)else 0)else 0)=_;rw[h,hg,hT,A8 hr];rfl
abbrev Ed:Dr:=[(17,[0,1,2,3,4],[5])]
open Go.Proofs Go.RowKit Go.Sort
set_option maxRecDepth 20000
set_option maxHeartbeats 4000000
theorem bX (x:Av)(hl:x.cells.length<=1000000)(hc:∀c∈x.cells,c.length<=1000000/\∀y∈c,y.modr):AL C0 9 [x.D] (i64 (C9 x)):=by
 refine Ad.walk w1 e0v rfl λF=>?_
 have hB:C9 x=if Gp x≠0 then Gp x else if Ew x x.cells≠0 then Ew x x.cells else if EF x.side (Bq x)then 17 else 0:=rfl
 have hH:=Vz x;have hlvl:=λ(i:Nat) (c:List AE) (h:x.cells[i]?=some c) (hs:JE c)=>Sg x i c h hs hl
 have hsafe:=λ(h1:∀c∈x.cells,DW x c=0) (h2:0<=x.side/\x.side<=999999999)=>d9r x hl (λc hq=>by
  obtain⟨-,-,g1,g2,g3,-⟩:=GY (h1 c hq);exact⟨g1,g2,g3⟩) h2
 obtain⟨p1,h1⟩:∃q,BI (sb x.flow) ⟨#[109,97,115,115]⟩=q:=⟨_,rfl⟩
 obtain⟨p2,h2⟩:∃q,BI (sb x.flow) ⟨#[102,117,110,110,101,108]⟩=q:=⟨_,rfl⟩
 have hex:p1=true->p2=false:=λq=>by rw[<-h2];exact Z6 (h1.trans q)
 have hr:Lw x=((p1&&(x.core != 0))||(p2&&(decide (x.core<2)||decide (x.core>999999999)))||decide (x.room<1)||decide (x.room>999999999)||decide (x.side<0)||decide (x.side>999999999)):=by rw[<-h1,<-h2];rfl
 rw[show BI (sb x.flow) G5=p1 from h1,show BI (sb x.flow) Ji=p2 from h2]at hH;obtain⟨R,hR⟩:∃r,Lw x=r:=⟨_,rfl⟩
 rw[hR]at hH hr;have hside:R=false->0<=x.side/\x.side<=999999999:=λq=>by
  rw[q]at hr
  have:=hr.symm
  simp only[Hj,Hh]at this;omega
 obtain⟨cs,hcs⟩:∃c,x.cells=c:=⟨_,rfl⟩
 have el:(((cs.map (Aj false)).length:Nat):Int)=(cs.length:Int):=by rw[Ae]
 unfold Av.D at hlvl hsafe⊢;rw[hcs]at hlvl hsafe hB hH hc hl⊢;refine sR 0 ?_;cases hk:(!p1 && !p2)
 rotate_left
 ·rw[AI hk]at hH
  rw[hH,AI (by decide)]at hB;rw[hB];have hp:p1=false/\p2=false:=by cases p1<;>cases p2<;>first|exact⟨rfl,rfl⟩|cases hk
  obtain⟨rfl,rfl⟩:=hp;refine AH Ed (Bb h1 h2 kT kF) AB AB AB AB AB AB ?_;exact AM rfl AA.out
 rw[AG (by rw[hk];exact Bool.false_ne_true)]at hH;have hp:(p1=true/\p2=false)\/(p1=false/\p2=true):=by
  cases p1
  ·cases p2
   ·cases hk
   ·exact .inr ⟨rfl,rfl⟩
  ·exact .inl ⟨rfl,hex rfl⟩
 clear hex hk;refine EI ⟨[(1,.optr 0 0 5 0 0)],[⟨0,0,24,5,[.agg [str (sb x.flow),i64 x.core,i64 x.room,i64 x.side,GA false cs]]⟩],100⟩ ?_ ?_
 ·rcases hp with⟨rfl,rfl⟩|⟨rfl,rfl⟩
  all_goals
   refine AH Ed (Bb h1 h2 kT kF) AB AB AB AB AB AB ?_;exact⟨trivial,AK⟩
 obtain⟨c0,e0⟩:∃q,(x.core != 0)=q:=⟨_,rfl⟩
 obtain⟨c1,e1⟩:∃q,decide (x.core<2)=q:=⟨_,rfl⟩
 obtain⟨c2,e2⟩:∃q,decide (x.core>999999999)=q:=⟨_,rfl⟩
 obtain⟨u1,r1⟩:∃q,decide (x.room<1)=q:=⟨_,rfl⟩
 obtain⟨u2,r2⟩:∃q,decide (x.room>999999999)=q:=⟨_,rfl⟩
 obtain⟨v1,s1⟩:∃q,decide (x.side<0)=q:=⟨_,rfl⟩
 obtain⟨v2,s2⟩:∃q,decide (x.side>999999999)=q:=⟨_,rfl⟩
 rw[e0,e1,e2,r1,r2,s1,s2]at hr;cases R
 rotate_left
 ·rw[AI rfl]at hH
  rw[hH,AI (by decide)]at hB;rw[hB];clear hlvl hsafe hB hH el;rcases hp with⟨rfl,rfl⟩|⟨rfl,rfl⟩
  ·cases c0
   rotate_left
   ·refine AH Ed (CP e0 e1 e2 r1 r2 s1 (CN s2 h1 h2 kT kF)) AB AB AB AB AB AB ?_
    exact AM rfl AA.out
   cases u1
   rotate_left
   ·refine AH Ed (CP e0 e1 e2 r1 r2 s1 (CN s2 h1 h2 kT kF)) AB AB AB AB AB AB ?_
    exact AM rfl AA.out
   cases u2
   rotate_left
   ·refine AH Ed (CP e0 e1 e2 r1 r2 s1 (CN s2 h1 h2 kT kF)) AB AB AB AB AB AB ?_
    exact AM rfl AA.out
   cases v1
   rotate_left
   ·refine AH Ed (CP e0 e1 e2 r1 r2 s1 (CN s2 h1 h2 kT kF)) AB AB AB AB AB AB ?_
    exact AM rfl AA.out
   cases v2
   rotate_left
   ·refine AH Ed (CP e0 e1 e2 r1 r2 s1 (CN s2 h1 h2 kT kF)) AB AB AB AB AB AB ?_
    exact AM rfl AA.out
   cases hr
  ·cases c1
   rotate_left
   ·refine AH Ed (CP e0 e1 e2 r1 r2 s1 (CN s2 h1 h2 kT kF)) AB AB AB AB AB AB ?_
    exact AM rfl AA.out
   cases c2
   rotate_left
   ·refine AH Ed (CP e0 e1 e2 r1 r2 s1 (CN s2 h1 h2 kT kF)) AB AB AB AB AB AB ?_
    exact AM rfl AA.out
   cases u1
   rotate_left
   ·refine AH Ed (CP e0 e1 e2 r1 r2 s1 (CN s2 h1 h2 kT kF)) AB AB AB AB AB AB ?_
    exact AM rfl AA.out
   cases u2
   rotate_left
   ·refine AH Ed (CP e0 e1 e2 r1 r2 s1 (CN s2 h1 h2 kT kF)) AB AB AB AB AB AB ?_
    exact AM rfl AA.out
   cases v1
   rotate_left
   ·refine AH Ed (CP e0 e1 e2 r1 r2 s1 (CN s2 h1 h2 kT kF)) AB AB AB AB AB AB ?_
    exact AM rfl AA.out
   cases v2
   rotate_left
   ·refine AH Ed (CP e0 e1 e2 r1 r2 s1 (CN s2 h1 h2 kT kF)) AB AB AB AB AB AB ?_
    exact AM rfl AA.out
   cases hr
 rw[AG Bool.false_ne_true]at hH;have hsd:=hside rfl;refine EI ⟨[(1,.optr 0 0 5 0 0)],[⟨0,0,24,5,[.agg [str (sb x.flow),i64 x.core,i64 x.room,i64 x.side,GA false cs]]⟩],1000⟩ ?_ ?_
 ·clear hlvl hsafe hB hH
  cases v2
  rotate_left
  ·simp at hr
  cases v1
  rotate_left
  ·simp at hr
  cases u2
  rotate_left
  ·simp at hr
  cases u1
  rotate_left
  ·simp at hr
  rcases hp with⟨rfl,rfl⟩|⟨rfl,rfl⟩
  ·cases c0
   rotate_left
   ·cases hr
   refine AH Ed (CP e0 e1 e2 r1 r2 s1 (CN s2 h1 h2 kT kF)) AB AB AB AB AB AB ?_;exact⟨trivial,AK⟩
  ·cases c1
   rotate_left
   ·cases hr
   cases c2
   rotate_left
   ·cases hr
   refine AH Ed (CP e0 e1 e2 r1 r2 s1 (CN s2 h1 h2 kT kF)) AB AB AB AB AB AB ?_;exact⟨trivial,AK⟩
 clear hr e0 e1 e2 r1 r2 s1 s2 hp h1 h2 hR
 by_cases h0:cs.length=0
 ·rw[AI h0]at hH
  rw[hH,AI (by decide)]at hB;rw[hB];have k0:((cs.length:Int)==0)=true:=by rw[h0];rfl
  refine AH Ed (Ab el k0) AB AB AB AB AB AB ?_;exact AM rfl AA.out
 rw[AG h0]at hH;have k0:((cs.length:Int)==0)=false:=B4.2 (by omega)
 by_cases h8:8<cs.length
 ·rw[AI h8]at hH
  rw[hH,AI (by decide)]at hB;rw[hB];have k8:decide ((cs.length:Int)>8)=true:=BX;refine AH Ed (Ar el k0 k8) AB AB AB AB AB AB ?_;exact AM rfl AA.out
 rw[AG h8]at hH;rw[hH,AG (λh=>h rfl)]at hB;rw[hB];have k8:decide ((cs.length:Int)>8)=false:=Bc;clear hB hH hside;refine AH Ed (Ar el k0 k8) AB AB AB AB AB AB ?_;refine AC.loop (α:=Nat×Nat) (λp=>⟨[(1,.optr 0 0 5 0 0),(3,i64 (p.1:Int))],[⟨0,0,24,5,[.agg [str (sb x.flow),i64 x.core,i64 x.room,i64 x.side,GA false cs]]⟩],p.2⟩) (λp=>cs.length-p.1) (λq=>q.1<=cs.length/\Ew x (cs.drop q.1)=Ew x cs) (0,_) ⟨BT _,rfl⟩ AK ?_;rintro⟨i,n⟩ F ⟨hi,hJ⟩;dsimp only at hi hJ⊢;rcases BC i cs.length with h2|h2
 rotate_left
 ·have k1:=Cc h2
  have:i=cs.length:=by omega
  subst this;rw[J5]at hJ;have hz:Ew x cs=0:=hJ.symm;have cS:=hsafe (T8 hz) hsd;rw[AG (λh=>h hz)];cases hq:EF x.side (Bq x)
  ·rw[hq]at cS
   rw[AG Bool.false_ne_true];refine AH Ed (Bb k1 el kT kF) cS AB AB AB AB AB ?_;exact AM rfl AA.out
  ·rw[hq]at cS
   rw[AI rfl];refine AH Ed (Bb k1 el kT kF) cS AB AB AB AB AB ?_;exact AM rfl AA.out
 have k1:=CZ h2;have wi:=Ce (i:=i) (by omega);obtain⟨c,hc'⟩:=CJ h2;have hm:(cs.map (Aj false))[i]?=some (.sl false 3 (c.map AE.D)):=by rw[Az,hc'];rfl
 obtain⟨hc1,hc2⟩:=hc c (Au hc');have cP:=XE false c hc1 hc2;have cG:=sX false c hc1;have hd:cs.drop i=c::cs.drop (i+1):=by
  have:=BS.1 hc'
  rw[Ey this.1,this.2]
 rw[hd]at hJ;have hJ2:Ew x cs=if DW x c≠0 then DW x c else Ew x (cs.drop (i+1)):=hJ.symm
 by_cases hp:Bz c=0
 rotate_left
 ·rw[rq hp,DR]at hJ2
  have k2:(((Bz c:Nat):Int) != 0)=true:=I7 (by omega);rw[AI (by rw[hJ2];omega),hJ2];refine AH Ed (Bb k1 el k2 kN) hm cP AB AB AB AB ?_;exact AM rfl AA.out
 rw[hp]at cP;have k2:(((0:Nat):Int) != 0)=false:=rfl;have hsm:=(EJ hp).2.2;have cL:=hlvl i c hc' hsm;cases hg:Ca c
 ·rw[hg]at cG
  rw[uE hp hg,AI (by decide)]at hJ2;rw[AI (by rw[hJ2];decide),hJ2];refine AH Ed (EP k1 el k2 kT kF kN) hm cP cG AB AB AB ?_;exact AM rfl AA.out
 rw[hg]at cG
 by_cases hrm:Ai c>x.room
 ·have k3:decide (Ai c>x.room)=true:=Ax hrm
  rw[pi hp hg hrm,AI (by decide)]at hJ2;rw[AI (by rw[hJ2];decide),hJ2];refine AH Ed (CP k1 el k2 k3 kT kF kN) hm cP cG cL AB AB ?_;exact AM rfl AA.out
 ·have k3:decide (Ai c>x.room)=false:=A8 hrm
  rw[ZX hp hg hrm,AG (λh=>h rfl)]at hJ2;refine AH Ed (CP k1 el k2 k3 wi kT (Ab kF kN)) hm cP cG cL AB AB ?_;exact⟨(i+1,_),⟨h2,hJ2.symm⟩,by dsimp only;omega,AK⟩
def J7 (x:Av)(i:Int):Bool:=DF i 0 ((x.cells.length:Int)-1)
theorem zE (x:Av)(hl:x.cells.length<=1000000)(i:Int):AL C0 69 [i64 i,.pptr x.D] (Ap (!J7 x i)):=by
 refine Ad.walk w1 ic rfl λF=>?_
 have cW:=Nf i 0 ((x.cells.length:Int)-1);have hb:J7 x i=DF i 0 ((x.cells.length:Int)-1):=rfl;have w2:IntKind.i64.wrap ((x.cells.length:Int)-1)=(x.cells.length:Int)-1:=wI;obtain⟨cs,hcs⟩:∃c,x.cells=c:=⟨_,rfl⟩
 have el:(((cs.map (Aj false)).length:Nat):Int)=(cs.length:Int):=by rw[Ae]
 unfold Av.D;rw[hb];rw[hcs]at cW w2⊢;refine AH AW (Ab el w2) cW AB AB AB AB AB ?_;exact AM rfl AA.out
theorem zh (b:Bool)(l:List Int)(c:D)[pc:AA c](p:Int->Bool)(hl:l.length<=1000000)(hc:∀x∈l,AL C0 69 [i64 x,c] (Ap (p x))):AL C0 106 [.sl b 1 (Bi l),.clo (.func 69) [] [c]] (i64 (Kl p l)):=by
 refine Ad.walk w1 dB rfl λF=>?_
 have el:(((Bi l).length:Nat):Int)=(l.length:Int):=by rw[Ae]
 refine AH AW el AB AB AB AB AB AB ?_;refine AC.loop (α:=Nat×Nat) (λp=>⟨[(0,.sl b 1 (Bi l)),(1,.clo (.func 69) [] [c]),(7,i64 l.length),(8,i64 (p.1:Int))],[],p.2⟩) (λp=>l.length-p.1) (λq=>q.1<=l.length/\∀(j:Nat) (x:Int),j<q.1->l[j]?=some x->p x=false) (0,_) ⟨BT _,λj x hj=>Ak hj (HJ j)⟩ AK ?_;rintro⟨i,n⟩ F ⟨hi,ha⟩;dsimp only at hi ha⊢;rcases BC i l.length with h2|h2
 rotate_left
 ·have e1:=Cc h2
  have:i=l.length:=by omega
  subst this;refine AH AW e1 AB AB AB AB AB AB ?_;exact AM (by rw[UU ha]) AA.out
 have e1:=CZ h2;have wi:=Ce (i:=i) (by omega);obtain⟨x,hx⟩:=CJ h2;have hm:(Bi l)[i]?=some (i64 x):=by rw[Az,hx];rfl
 have cn:=hc x (Au hx);cases hb:p x
 ·rw[hb]at cn
  refine AH AW (Ar e1 wi kN) hm cn AB AB AB AB ?_;refine⟨(i+1,_),⟨h2,λj z hj hjz=>?_⟩,by dsimp only;omega,AK⟩;rcases BC j i with h|h
  ·exact ha j z h hjz
  ·have:j=i:=by dsimp only at hj;omega
   subst this;rw[hx]at hjz;cases hjz;exact hb
 ·rw[hb]at cn
  refine AH AW (Ar e1 wi kN) hm cn AB AB AB AB ?_;exact AM (by rw[VA hx hb ha]) AA.out
theorem zd (b:Bool)(l:List Int)(c:D)[pc:AA c](p:Int->Bool)(hl:l.length<=1000000)(hc:∀x∈l,AL C0 69 [i64 x,c] (Ap (p x))):AL C0 68 [.sl b 1 (Bi l),.clo (.func 69) [] [c]] (Ap (l.any p)):=by
 refine Ad.walk w1 ib rfl λF=>?_
 have c1:=zh b l c p hl hc;have e1:=VB p l;refine AH AW e1 c1 AB AB AB AB AB ?_;exact AM rfl AA.out
def HZ (x:Av)(ns:List Int):Int:=if C9 x≠0 then C9 x else if ns.any (λi=>!J7 x i)then 10 else 0
theorem j6 (x:Av)(hl:x.cells.length<=1000000)(hc:∀c∈x.cells,c.length<=1000000/\∀y∈c,y.few)(ns:List Int)(hn:ns.length<=1000000):AL C0 29 [x.D,.sl true 1 (Bi ns)] (i64 (HZ x ns)):=by
 refine Ad.walk w1 im rfl λF=>?_
 have cB:=u5 x hl hc;have cH:=zd true ns (.pptr x.D) (λi=>!J7 x i) hn λi _=>zE x hl i
 have cW:=H6 (ns.any λi=>!J7 x i) 10;have hE:HZ x ns=if C9 x≠0 then C9 x else if ns.any (λi=>!J7 x i)then 10 else 0:=rfl
 obtain⟨E,hEE⟩:∃E,C9 x=E:=⟨_,rfl⟩
 rw[hEE]at cB hE;have hx:∃a b c d e,x.D=.agg [a,b,c,d,e]:=⟨_,_,_,_,_,rfl⟩
 have px:AA x.D:=AJ;have px2:AX x.D:=AJ;obtain⟨a1,a2,a3,a4,a5,hx⟩:=hx;rw[hx]at cB cH px px2⊢;rw[hE]
 by_cases h0:E=0
 rotate_left
 ·have k2:(E != 0)=true:=I7 h0
  rw[AI h0];refine AH AW k2 cB AB AB AB AB AB ?_;exact AM rfl AA.out
 have k2:(E != 0)=false:=by rw[h0];rfl
 rw[AG (λh=>h h0)];refine AH AW k2 cB AB AB AB AB AB ?_;refine BE.own _ (Ly cH rfl (λi a d h1 h2=>by
  match i with
  | 0=>cases h1;cases h2;exact .refl _ _
  | 1=>cases h1;cases h2;exact .clo1 (.ptr rfl rfl rfl rfl)
  |n+2=>cases h1) AJ (.prim _)) ?_
 rintro d H' n' ⟨rfl,rfl,rfl⟩;refine AH AW k2 cW AB AB AB AB AB ?_;exact AM rfl AA.out
def JJ (x:Av)(i:Nat)(L:List AE):Av:=⟨x.flow,x.core,x.room,x.side,(x.cells.map BZ).set i L⟩
def ID (l:List (List AE))(k:Nat):List D:=(l.take k).map (λc=>Aj false (BZ c))++List.replicate (l.length-k) Cd
theorem tP {l:List (List AE)}{k:Nat}{c:List AE}(h:l[k]?=some c):(ID l k).set k (Aj false (BZ c))=ID l (k+1):=by
 have hk:=(BS.1 h).1;unfold ID;rw[Ob _ _ (by rw[Ae,Bd];omega)];rw[Ae,Bd,show k-min k l.length=0 by omega,Du,h,DA];rw[show l.length-k=(l.length-(k+1))+1 by omega,List.replicate_succ,List.set_cons_zero];rw[show List.map (λc=>Aj false (BZ c)) (some c).toList=[Aj false (BZ c)]from rfl,Dt];rfl
theorem tO (l:List (List AE))(k:Nat)(hk:k<=l.length):(ID l k).length=l.length:=by
 unfold ID;rw[Be,Ae,Bd,JR];omega
theorem tN (l:List (List AE)):ID l l.length=(l.map BZ).map (Aj false):=by
 unfold ID;rw[Cz,Nat.sub_self,List.map_map];exact Dh _
theorem zR {l:List (List AE)}{k:Nat}(h:k<l.length):(ID l k)[k]?=some Cd:=by
 unfold ID;rw[Fp (by rw[Ae,Bd];omega),Ae,Bd,show k-min k l.length=0 by omega,show l.length-k=(l.length-(k+1))+1 by omega,List.replicate_succ];rfl
theorem SV {H:Hp}{a b c d sD:D}{L:List D}(h:Fz H [] sD (.sl false 1 L)):Fz H [] (.agg [a,b,c,d,sD]) (.agg [a,b,c,d,.sl false 1 L]):=.agg rfl λi e e' h1 h2=>by
 match i with
 | 0=>cases h1;cases h2;exact .refl _
 | 1=>cases h1;cases h2;exact .refl _
 | 2=>cases h1;cases h2;exact .refl _
 | 3=>cases h1;cases h2;exact .refl _
 | 4=>cases h1;cases h2;exact h
 |n+5=>cases h1
theorem d9g (x:Av)(i:Nat)(hi:i<x.cells.length)(hl:x.cells.length<=1000000)(hc:∀c∈x.cells,AL C0 36 [Aj false c] (Aj false (BZ c)))(L:List AE):AL C0 33 [x.D,i64 (i:Int),Aj false L] (JJ x i L).D:=by
 refine Ad.walk w1 iJ rfl λF=>?_
 obtain⟨cs,hcs⟩:∃c,x.cells=c:=⟨_,rfl⟩
 have hW:(JJ x i L).D=.agg [str (sb x.flow),i64 x.core,i64 x.room,i64 x.side,.sl false 1 (((cs.map BZ).map (Aj false)).set i (Aj false L))]:=by
  rw[<-hcs,<-List.map_set];rfl
 have el:(((cs.map (Aj false)).length:Nat):Int)=(cs.length:Int):=by rw[Ae]
 have pB:AA (JJ x i L).D:=AJ;rw[hW]at pB⊢;unfold Av.D;rw[hcs]at hi hl hc⊢;have e0:decide ((cs.length:Int)<0)=false:=Bc;refine AH AW (Ar el e0 kN) AB AB AB AB AB AB ?_;rw[show List.replicate cs.length (D.prim (Value.slice none 0 0))=ID cs 0 from by unfold ID;simp];refine AC.loop (α:=Nat×Nat) (λp=>⟨[(1,i64 (i:Int)),(2,Aj false L),(3,.optr 0 0 5 0 0),(6,.optr 1 1 5 0 0),(7,.osl 103 5 1 0 cs.length),(15,GA false cs),(16,i64 (cs.length:Int)),(17,i64 (p.1:Int))],[⟨103,5,29,1,ID cs p.1⟩,⟨1,1,24,5,[.agg [.prim (.string ⟨#[]⟩),.prim (.int .i64 0),.prim (.int .i64 0),.prim (.int .i64 0),.prim (.slice none 0 0)]]⟩,⟨0,0,24,5,[.agg [str (sb x.flow),i64 x.core,i64 x.room,i64 x.side,GA false cs]]⟩],p.2⟩) (λp=>cs.length-p.1) (λq=>q.1<=cs.length/\11<=q.2) (0,_) ⟨BT _,An _⟩ AK ?_;rintro⟨k,n⟩ F ⟨hk,hn⟩;dsimp only at hk hn⊢;have hlw:=tO cs k hk;rcases BC k cs.length with h2|h2
 rotate_left
 ·have k1:=Cc h2
  have:k=cs.length:=by omega
  subst this;rw[tN]at hlw⊢;obtain⟨W,hWW⟩:∃W,(cs.map BZ).map (Aj false)=W:=⟨_,rfl⟩
  obtain⟨ci,hci⟩:=CJ hi;have hwi:W[i]?=some (.sl false 3 ((BZ ci).map AE.D)):=by rw[<-hWW,Az,Az,hci];rfl
  rw[hWW]at hlw pB⊢;refine AH AW (Bb k1 hwi kN BW) AB AB AB AB AB AB ?_;have hR:=GZ (H:=[⟨103,5,29,1,W.set i (Aj false L)⟩,⟨1,1,24,5,[.agg [str (sb x.flow),i64 x.core,i64 x.room,i64 x.side,.osl 103 5 1 0 cs.length]]⟩,⟨0,0,24,5,[.agg [str (sb x.flow),i64 x.core,i64 x.room,i64 x.side,.osl 103 5 1 0 cs.length]]⟩]) (Hf:=[]) (k:=103) (g:=5) (T:=29) (sz:=1) (l:=W.set i (Aj false L)) rfl;rw[Db,hlw]at hR;exact⟨_,SV hR,pB.out,rfl⟩
 have k1:=CZ h2;have wi:=Ce (i:=k) (by omega);obtain⟨c,hc'⟩:=CJ h2;have hm:(cs.map (Aj false))[k]?=some (.sl false 3 (c.map AE.D)):=by rw[Az,hc'];rfl
 have cN:=hc c (Au hc');have hset:=tP hc';have hat:=zR h2;obtain⟨es,hes⟩:∃e,ID cs k=e:=⟨_,rfl⟩
 rw[hes]at hlw hset hat⊢;refine AH AW (CN k1 wi hat kN BW) hm cN AB AB AB AB ?_;refine⟨(k+1,n+1000),⟨h2,by dsimp only;omega⟩,by dsimp only;omega,?_⟩;dsimp only;rw[<-hset];exact AK
end Go.Ide
namespace Go.Proofs
open Go.Shelf Go.RowKit Go.Lib
open Tryz
def Tryz.growLay_ren:Go.Shelf.Ren:=⟨fun|4=>73|n=>n,fun|22=>29|25=>51|3=>3|4=>4|9=>9|20=>20|0=>0|n=>n,fun|n=>n⟩
theorem kD:Go.Proofs.Lays8.n4 Tryz.prog Tryz.growLay_ren:={
 mixed:=by kernel_rfl
 f4:=⟨Tryz.f73.name,by decide,Ck func73⟩
 t0:=underlying0
 a0:=isAgg0
 z0:=sizeOf0
 v0:=zeroValue0
 t3:=underlying3
 a3:=isAgg3
 z3:=sizeOf3
 v3:=zeroValue3
 t4:=underlying4
 a4:=isAgg4
 z4:=sizeOf4
 v4:=zeroValue4
 t9:=underlying9
 a9:=isAgg9
 z9:=sizeOf9
 v9:=zeroValue9
 t20:=underlying20
 a20:=isAgg20
 z20:=sizeOf20
 v20:=zeroValue20
 t22:=underlying29
 a22:=isAgg29
 z22:=sizeOf29
 v22:=zeroValue29 }
end Go.Proofs
namespace Go.Ide
open Go.Proofs Go.RowKit Go.Lib
set_option maxRecDepth 20000
set_option maxHeartbeats 4000000
theorem K3 (K n:Nat)(h0:0<n)(hn:n<=1000000)(H:Hp)(m:Nat):Cv C0 73 [Cd,i64 (n:Int)] H m (λd H' n'=>d=.osl K m 3 0 0/\H'=⟨K,m,51,3,[]⟩::H/\n'=m+1):=by
 refine⟨by obtain⟨fn,a1,a2,a3,-⟩:=Wa;exact⟨fn,_,a1,a2,a3⟩,λF ρ w vs mm fr gn hsz rep=>?_⟩;obtain⟨v0,v1,rfl⟩:∃v0 v1,vs = #[v0,v1]:=by
  match vs,hsz with
  |⟨[a,b]⟩,_=>exact⟨a,b,rfl⟩
 have r0:AU ρ _ w Cd v0:=rep 0 _ rfl;have r1:AU ρ _ w (i64 (n:Int)) v1:=rep 1 _ rfl;cases r0;cases r1;have hT:∃i,X1.tt 29=some i/\i.ti=.slice 51 3 48 (.agg #[.string ⟨#[]⟩,.int .i64 0,.slice none 0 0]):=⟨_,rfl,rfl⟩
 obtain⟨i,hi1,hi2⟩:=hT;obtain⟨-,⟨inf,k1,k2,k3,k4⟩,k5,k6⟩:=FK (w1.tt _ _ hi1) hi2;have hc:=Any8.slices_Grow_grow kD inf _ k1 k4 (by rw[k2];decide) none 0 0 n [] w (An _) (by omega) (by rw[k3];omega) (by omega) (by rw[k2];rfl) (λ_=>rfl) (λa h=>by cases h);refine Calls.mono hc ?_;rintro e w' ⟨rfl,rfl⟩;rw[show Tryz.growLay_ren.t 25=51 from rfl,BW];have hge:n<=grownCap w n 0 51:=grownCap_ge ..;have hmx:grownCap w n 0 51<=maxLen:=grownCap_le_maxLen _ _ _ _ (by simp only[maxLen];omega);generalize grownCap w n 0 51=cap at hge hmx⊢;obtain⟨z,hz⟩:∃z,(Value.agg #[.string ⟨#[]⟩,.int .i64 0,.slice none 0 0])=z:=⟨_,rfl⟩
 rw[hz]at k5 k6⊢;generalize hcs' : #[]++Builtin.zeroCells z.cells (n-0)++Builtin.zeroCells z.cells (cap-n)=cs';have hsz':cs'.size=cap*3:=by
  rw[<-hcs',J4,J4,size_zeroCells,size_zeroCells,k5];simp only[Kr,Hi];omega
 have ho:Dd ρ (AN F.X ρ H) w.drew ⟨K,m,51,3,[]⟩ cs':=by
  refine⟨by simp,λq d h=>by simp at h,λq v hv=>?_,λq d j c h=>by simp at h⟩;rw[<-hcs']at hv;rcases BC q (#[]++Builtin.zeroCells z.cells (n-0)).size with hq|hq
  ·rw[HL hq,Array.empty_append]at hv
   exact Qq k6 _ _ v hv
  ·rw[HK hq]at hv
   exact Qq k6 _ _ v hv
 obtain⟨m1,x1⟩:=mm.drew.alloc ⟨K,m,51,3,[]⟩ cs' (fr _ _ (An _)) (λe' he' h=>Nat.ne_of_lt (gn e' he') h.2) ho;refine⟨_,_,_,_,_,rfl,⟨rfl,rfl,rfl⟩,m1,(BY.drew _ _ _).trans x1,λk g hg=>?_,λe he=>?_,?_⟩
 ·unfold Lk.put
  rw[AG λh=>by have:=h.2;dsimp only at this;omega];exact fr k g (by omega)
 ·rcases A9.1 he with rfl|he
  ·exact IN _
  ·exact Dg (gn e he)
 ·exact QR (b:=w.heap.size) (T:=51) (cs:=cs') (fz:=(0,0)) (Et _ _ _ _) (by rw[Em];exact AI rfl) (BT _) hsz'.symm hmx
theorem Y4 {vs:List (List AE)}{i:Nat}{l:List AE}(h:vs[i]?=some l):(vs.take (i+1)).flatten=(vs.take i).flatten++l:=by
 rw[Du,h];simp
theorem bI {vs:List (List AE)}(i:Nat):(vs.take i).flatten.length<=vs.flatten.length:=by
 have:vs.flatten=(vs.take i).flatten++(vs.drop i).flatten:=by rw[<-List.flatten_append,FB]
 rw[this,Be];omega
theorem Ym (vs:List (List AE))(h0:vs.flatten≠[])(hl:vs.flatten.length<=1000000)(hv:vs.length<=1000000):AL C0 37 [.sl true 1 (vs.map (Aj false))] (Aj false vs.flatten):=by
 refine Ad.walk w1 WX rfl λF=>?_
 have el:(((vs.map (Aj false)).length:Nat):Int)=(vs.length:Int):=by rw[Ae]
 have hpos:0<vs.flatten.length:=List.length_pos_iff.2 h0;have cG:=λm=>K3 1302 vs.flatten.length hpos hl [] m
 refine AH AW el AB AB AB AB AB AB ?_;refine AC.loop (α:=Nat×Nat) (λp=>⟨[(0,.sl true 1 (vs.map (Aj false))),(3,i64 ((vs.take p.1).flatten.length:Int)),(9,.sl true 1 (vs.map (Aj false))),(10,i64 (vs.length:Int)),(11,i64 (p.1:Int))],[],p.2⟩) (λp=>vs.length-p.1) (λq=>q.1<=vs.length) (0,_) (BT _) AK ?_;rintro⟨i,n⟩ F hi;dsimp only at hi⊢;rcases BC i vs.length with h2|h2
 ·have e1:=CZ h2
  have wi:=Ce (i:=i) (by omega);obtain⟨x,hx⟩:=CJ h2;have hm:(vs.map (Aj false))[i]?=some (.sl false 3 (x.map AE.D)):=by rw[Az,hx];rfl
  have hs:=Y4 hx;have hle:=bI (vs:=vs) (i+1);have ex:(((x.map AE.D).length:Nat):Int)=(x.length:Int):=by rw[Ae]
  rw[hs,Be]at hle;have w1':IntKind.i64.wrap (((vs.take i).flatten.length:Int)+(x.length:Int))=(((vs.take (i+1)).flatten.length:Nat):Int):=by
   rw[wI,hs,Be];omega
  have g0:decide ((((vs.take (i+1)).flatten.length:Nat):Int)<0)=false:=Bc;refine AH AW (EP e1 wi ex w1' g0 kN) hm AB AB AB AB AB ?_;exact⟨(i+1,_),h2,by dsimp only;omega,AK⟩
 have e1:=Cc h2
 have:i=vs.length:=by omega
 subst this;rw[Cz];refine AH AW e1 AB AB AB AB AB AB ?_;refine BE.own _ (cG _) ?_;rintro d H' n' ⟨rfl,rfl,rfl⟩;refine AH AW el AB AB AB AB AB AB ?_;refine AC.loop (α:=Nat×Nat×Nat) (λp=>⟨[(6,.osl 1302 p.2.1 3 0 (vs.take p.1).flatten.length),(25,.sl true 1 (vs.map (Aj false))),(26,i64 (vs.length:Int)),(27,i64 (p.1:Int))],[⟨1302,p.2.1,51,3,(vs.take p.1).flatten.map AE.D⟩],p.2.2⟩) (λp=>vs.length-p.1) (λq=>q.1<=vs.length) (0,n+1+1,_) (BT _) AK ?_;clear hi h2 e1;rintro⟨i,g,n⟩ F hi;dsimp only at hi⊢;rcases BC i vs.length with h2|h2
 ·have e1:=CZ h2
  have wi:=Ce (i:=i) (by omega);obtain⟨x,hx⟩:=CJ h2;have hm:(vs.map (Aj false))[i]?=some (.sl false 3 (x.map AE.D)):=by rw[Az,hx];rfl
  have hs:=Y4 hx;have hle:=bI (vs:=vs) (i+1);have hln:((vs.take i).flatten.map AE.D).length=(vs.take i).flatten.length:=Ae ..;have hlx:(x.map AE.D).length=x.length:=Ae ..;rw[hs,Be]at hle;obtain⟨R,hR⟩:∃R,(vs.take i).flatten=R:=⟨_,rfl⟩
  obtain⟨X,hX⟩:∃X,x.map AE.D=X:=⟨_,rfl⟩
  have pX:AA (.sl false 3 X):=by rw[<-hX];exact AJ
  rw[hR]at hs hle hln⊢;rw[hX]at hm hlx;obtain⟨RD,hRD⟩:∃X,R.map AE.D=X:=⟨_,rfl⟩
  rw[hRD]at hln⊢;refine AH AW (Ar e1 wi kN) hm AB AB AB AB AB ?_;refine⟨(i+1,n+1+1+1+1+1+1,n+1+1+1+1+1+1+1+1+1+1),h2,by dsimp only;omega,?_⟩;dsimp only;rw[hs,Be,DA,hRD,hX,hlx];rw[Cp (show RD.length<=R.length by omega)];exact AK
 have e1:=Cc h2
 have:i=vs.length:=by omega
 subst this;rw[Cz];have hR:=GZ (H:=[⟨1302,g,51,3,vs.flatten.map AE.D⟩]) (Hf:=[]) (k:=1302) (g:=g) (T:=51) (sz:=3) (l:=vs.flatten.map AE.D) rfl;rw[Ae]at hR;refine AH AW e1 AB AB AB AB AB AB ?_;exact⟨_,hR,AA.out,rfl⟩
end Go.Ide
namespace Go.Ide
open Go.Proofs Go.RowKit Go.Lib
set_option maxRecDepth 20000
set_option maxHeartbeats 4000000
theorem sY:AL C0 73 [Cd,i64 0] Cd:=by
 refine⟨by obtain⟨fn,a1,a2,a3,-⟩:=Wa;exact⟨fn,_,a1,a2,a3⟩,λX w vs _ _ _ hsz rep=>?_⟩;obtain⟨v0,v1,rfl⟩:∃v0 v1,vs = #[v0,v1]:=by
  match vs,hsz with
  |⟨[a,b]⟩,_=>exact⟨a,b,rfl⟩
 have r0:AU nol _ w Cd v0:=rep 0 _ rfl;have r1:AU nol _ w (i64 0) v1:=rep 1 _ rfl;cases r0;cases r1;refine(Any8.slices_Grow_room kD none 0 0 0 w (An _) (by omega) (by omega) (An _)).mono ?_;rintro e w' ⟨rfl,rfl⟩;exact⟨_,_,rfl,.refl _ _,rfl,.prim _⟩
theorem lj (vs:List (List AE))(h0:∀x∈vs,x=[])(hv:vs.length<=1000000):AL C0 37 [.sl true 1 (vs.map (Aj false))] (Aj false []):=by
 refine Ad.walk w1 WX rfl λF=>?_
 have el:(((vs.map (Aj false)).length:Nat):Int)=(vs.length:Int):=by rw[Ae]
 have cG:=sY;refine AH AW el AB AB AB AB AB AB ?_;refine AC.loop (α:=Nat×Nat) (λp=>⟨[(0,.sl true 1 (vs.map (Aj false))),(3,i64 0),(9,.sl true 1 (vs.map (Aj false))),(10,i64 (vs.length:Int)),(11,i64 (p.1:Int))],[],p.2⟩) (λp=>vs.length-p.1) (λq=>q.1<=vs.length) (0,_) (BT _) AK ?_;rintro⟨i,n⟩ F hi;dsimp only at hi⊢;rcases BC i vs.length with h2|h2
 ·have e1:=CZ h2
  have wi:=Ce (i:=i) (by omega);obtain⟨x,hx⟩:=CJ h2;have hx0:=h0 x (Au hx);subst hx0;have hm:(vs.map (Aj false))[i]?=some (.sl false 3 []):=by rw[Az,hx];rfl
  have ln0:([]:List D).length=0:=rfl;have w1':IntKind.i64.wrap (0+((0:Nat):Int))=0:=rfl;have g0:decide ((0:Int)<0)=false:=rfl;refine AH AW (EP e1 wi ln0 w1' g0 kN) hm AB AB AB AB AB ?_;exact⟨(i+1,_),h2,by dsimp only;omega,AK⟩
 have e1:=Cc h2
 have:i=vs.length:=by omega
 subst this;refine AH AW (Ab el e1) cG AB AB AB AB AB ?_;refine AC.ghost 1302 51 3 [(6,.osl 1302 _ 3 0 0),(25,.sl true 1 (vs.map (Aj false))),(26,i64 (vs.length:Int)),(27,i64 ((0:Nat):Int))] ⟨.inr ⟨rfl,rfl⟩,.inl rfl,.inl rfl,.inl rfl,trivial⟩ ?_;refine AC.loop (α:=Nat×Nat×Nat) (λp=>⟨[(6,.osl 1302 p.2.1 3 0 0),(25,.sl true 1 (vs.map (Aj false))),(26,i64 (vs.length:Int)),(27,i64 (p.1:Int))],[⟨1302,p.2.1,51,3,[]⟩],p.2.2⟩) (λp=>vs.length-p.1) (λq=>q.1<=vs.length) (0,_,_) (BT _) AK ?_;clear hi h2 e1;rintro⟨i,g,n⟩ F hi;dsimp only at hi⊢;rcases BC i vs.length with h2|h2
 ·have e1:=CZ h2
  have wi:=Ce (i:=i) (by omega);obtain⟨x,hx⟩:=CJ h2;have hx0:=h0 x (Au hx);subst hx0;have hm:(vs.map (Aj false))[i]?=some (.sl false 3 []):=by rw[Az,hx];rfl
  refine AH AW (Ar e1 wi kN) hm AB AB AB AB AB ?_;exact⟨(i+1,n+1+1+1+1+1+1,n+1+1+1+1+1+1+1+1+1+1),h2,by dsimp only;omega,AK⟩
 have e1:=Cc h2;have hR:=GZ (H:=[⟨1302,g,51,3,[]⟩]) (Hf:=[]) (k:=1302) (g:=g) (T:=51) (sz:=3) (l:=[]) rfl;refine AH AW e1 AB AB AB AB AB AB ?_;exact⟨_,hR,AA.out,rfl⟩
theorem oc (vs:List (List AE))(hl:vs.flatten.length<=1000000)(hv:vs.length<=1000000):AL C0 37 [.sl true 1 (vs.map (Aj false))] (Aj false vs.flatten):=by
 by_cases h:vs.flatten=[]
 ·rw[h]
  exact lj vs (λx hx=>FC (Nat.le_zero.1 (by
   have:=(List.sublist_flatten_of_mem hx).length_le
   rwa [h]at this))) hv
 ·exact Ym vs h hl hv
def P8:List AE->Int->List AE
 | [],_=>[]
 |x::r,m=>x.w (min m x.mass)::P8 r (m-min m x.mass)
abbrev U6:Dr:=[(1,[0,1,2,3,4,5,6],[7]),(9,[0,1,2,3,4],[5,6])]
open Go.Proofs Go.RowKit
set_option maxRecDepth 20000
set_option maxHeartbeats 4000000
def Fo:List AE->Int->Int->List AE
 | [],_,_=>[]
 |x::r,low,left=>x.w (min (x.mass-min x.mass low) left)::Fo r (low-min x.mass low) (left-min (x.mass-min x.mass low) left)
structure XW where
 o:List AE
 low:Int
 left:Int
 g:Nat
def Kg (g1 g2:Nat)(p:XW):Hp:=EG 905 p.g 51 3 (p.o.map AE.D)++[⟨200,g2,29,1,[EL 905 p.g 3 (p.o.map AE.D)]⟩,⟨106,g1,3,1,[i64 p.left]⟩,⟨0,0,3,1,[i64 p.low]⟩]
theorem al (g1 g2:Nat)(a b:Int)(g:Nat):Kg g1 g2 ⟨[],a,b,g⟩=[⟨200,g2,29,1,[Cd]⟩,⟨106,g1,3,1,[i64 b]⟩,⟨0,0,3,1,[i64 a]⟩]:=rfl
theorem RY (g1 g2:Nat)(z:AE)(o:List AE)(a b:Int)(g:Nat):Kg g1 g2 ⟨z::o,a,b,g⟩=[⟨905,g,51,3,z.D::o.map AE.D⟩,⟨200,g2,29,1,[.osl 905 g 3 0 ((o.map AE.D).length+1)]⟩,⟨106,g1,3,1,[i64 b]⟩,⟨0,0,3,1,[i64 a]⟩]:=rfl
def Pv (L:List AE)(low left:Int)(k:Nat)(p:XW):Prop:=p.o.length=k/\p.o++Fo (L.drop k) p.low p.left=Fo L low left/\0<=p.low/\p.low<=1000000000000/\0<=p.left/\p.left<=1000000000000000
theorem YZ (b:Bool)(l:List AE)(low high:Int)(hl:l.length<=1000000)(h1:0<=low/\low<=1000000000000)(h2:0<=high/\high<=1000000000000)(t:Int)(ht:low+high<=t/\t<=1000000000000000)(hx:∀x∈l,0<=x.mass/\x.mass<=1000000000)
  (cT:AL C0 31 [Aj b l] (i64 t))
  (ho:∀x∈l,∀m,AL C0 67 [x.D,i64 m] (x.w m).D) (R:D) [pR:AA R] (hN:AL C0 36 [Aj false (Fo l low (t-low-high))] R):
  AL C0 34 [Aj b l,i64 low,i64 high] R:=by
 refine Ad.walk w1 iK rfl λF=>?_
 have cV:=Ur b false (l.map AE.D);have hT:∀x∈l.map AE.D,∃a c d,x=.agg [a,c,d]:=λx hx=>by
  obtain⟨y,-,rfl⟩:=By.1 hx;exact⟨_,_,_,rfl⟩
 have hoA:∀k,k<l.length->∃y,y∈l/\l[k]?=some y/\(l.map AE.D)[if false then(l.map AE.D).length-1-k else k]?=some y.D:=λk hk=>⟨_,List.getElem_mem hk,Bx hk,by
  show(l.map AE.D)[k]?=_;rw[Az,Bx hk];rfl⟩
 unfold Aj at cT⊢;obtain⟨T,hTT⟩:∃T,l.map AE.D=T:=⟨_,rfl⟩
 have pT:AA (.sl b 3 T):=by rw[<-hTT];exact AJ
 have hTl:T.length=l.length:=by rw[<-hTT,Ae]
 rw[hTT]at cV hT hoA cT⊢;have w1':IntKind.i64.wrap (t-low)=t-low:=wI;have w2:IntKind.i64.wrap (t-low-high)=t-low-high:=wI;obtain⟨e,he⟩:∃e,t-low-high=e:=⟨_,rfl⟩
 have w2':IntKind.i64.wrap (t-low-high)=e:=by rw[w2,he]
 rw[he]at hN;have he0:0<=e/\e<=1000000000000000:=by omega
 refine AH U6 (Ab w1' w2') cT cV AB AB AB AB ?_;have h0:Pv l low e 0 ⟨[],low,e,0⟩:=⟨rfl,rfl,h1.1,h1.2,he0.1,he0.2⟩
 refine AC.rangeFunc (fi:=107) (first:=[]) (captured:=[.pptr (.sl b 3 T),.pptr (Ap false)]) (Ψ:=λj _ H' _=>(j=none/\∃a,Pv l low e T.length a/\H'=Kg 8 11 a)\/(j=some (.exit 0)/\False)) rfl
  (λds H n Φ=>∃k a x,Pv l low e k a/\k<T.length/\T[if false then T.length-1-k else k]?=some x/\ds=[x]/\H=Kg 8 11 a/\Φ=λj H' _=>(j=none/\∃a',Pv l low e (k+1) a'/\C3 H' (Kg 8 11 a') H' (Kg 8 11 a'))\/(j=some (.exit 0)/\False)) ?_
  (λE l' R' hE hY=>Wu hE b false T hT (by omega) (λ_ a=>Kg 8 11 a) (Pv l low e) (.exit 0) (λ_=>False) ⟨[],low,e,0⟩ h0 _ λk a x n hP hk hx=>hY _ _ _ _ ⟨k,a,x,hP,hk,hx,rfl,rfl,rfl⟩) ?_
 ·rintro l' ds H n Φ ⟨k,⟨o,lw,lf,g⟩,x,⟨p1,p2,p3,p4,p6,p7⟩,hk,hxT,rfl,rfl,rfl⟩
  dsimp only at p1 p2 p3 p4 p6 p7;obtain⟨y,hy1,hy2,hy3⟩:=hoA k (by omega);rw[hy3]at hxT;cases hxT;have hd:l.drop k=y::l.drop (k+1):=by
   have:=(BS.1 hy2)
   rw[Ey this.1,this.2]
  rw[hd]at p2;have hb:=hx y hy1;have cO:=ho y hy1 (min (y.mass-min y.mass lw) lf);have p5:(o++[y.w (min (y.mass-min y.mass lw) lf)])++Fo (l.drop (k+1)) (lw-min y.mass lw) (lf-min (y.mass-min y.mass lw) lf)=Fo l low e:=by
   rw[<-p2,Dt];rfl
  have a1:IntKind.i64.wrap (lw-min y.mass lw)=lw-min y.mass lw:=wI;have a2:IntKind.i64.wrap (y.mass-min y.mass lw)=y.mass-min y.mass lw:=wI;have a3:IntKind.i64.wrap (lf-min (y.mass-min y.mass lw) lf)=lf-min (y.mass-min y.mass lw) lf:=wI;have q1:0<=lw-min y.mass lw/\lw-min y.mass lw<=1000000000000/\0<=lf-min (y.mass-min y.mass lw) lf/\lf-min (y.mass-min y.mass lw) lf<=1000000000000000:=by omega
  refine⟨rfl,λF=>?_⟩;unfold AE.w AE.D at cO;unfold AE.D;dsimp only at cO⊢;obtain⟨SD,hSD⟩:∃d,Co false y.shs=d:=⟨_,rfl⟩
  have pS:AA SD:=by rw[<-hSD];exact AJ
  rw[hSD]at cO⊢;rcases o with _|⟨z,o⟩
  ·rw[al]
   dsimp only[HX];refine Aq 400 ?_;refine AF kB ?_;refine⟨trivial,trivial,λF'=>?_⟩;refine AH U6 (Ar a1 a2 a3) cO AB AB AB AB AB ?_;refine .inl ⟨rfl,⟨[y.w (min (y.mass-min y.mass lw) lf)],lw-min y.mass lw,lf-min (y.mass-min y.mass lw) lf,n+1+1+1+1+1+1+1+1+1+1+1+1+1+1+1+1+1+1+1+1+1+1+7⟩,⟨by rw[<-p1];rfl,p5,q1⟩,?_⟩;rw[RY,<-hSD];exact .keep (.drop (Hq _))
  ·have hol:o.length<=1000000:=by rw[Br]at p1;omega
   rw[RY];dsimp only[HX];obtain⟨O,hO⟩:∃O,o.map AE.D=O:=⟨_,rfl⟩
   obtain⟨zD,hzD⟩:∃O,z.D=O:=⟨_,rfl⟩
   have hOl:O.length=o.length:=by rw[<-hO,Ae]
   rw[hO,hzD];refine Aq 400 ?_;refine AF kB ?_;refine⟨trivial,trivial,λF'=>?_⟩;refine AH U6 (Ar a1 a2 a3) cO AB AB AB AB AB ?_;rw[show List.take (O.length+1) (zD::O)=zD::O from Cz (l:=zD::O)];refine .inl ⟨rfl,⟨z::o++[y.w (min (y.mass-min y.mass lw) lf)],lw-min y.mass lw,lf-min (y.mass-min y.mass lw) lf,n+1+1+1+1+1+1+1+1+1+1+1+1+1+1+1+1+1+1+1+1+1+1+7⟩,⟨by rw[<-p1];simp,p5,q1⟩,?_⟩;have hs:∀g' a b,Kg 8 11 ⟨z::o++[y.w (min (y.mass-min y.mass lw) lf)],a,b,g'⟩=[⟨905,g',51,3,zD::O++[.agg [str (sb y.grain),i64 (min (y.mass-min y.mass lw) lf),SD]]⟩,⟨200,11,29,1,[.osl 905 g' 3 0 (O.length+1+1)]⟩,⟨106,8,3,1,[i64 b]⟩,⟨0,0,3,1,[i64 a]⟩]:=λg' a b=>by
    rw[E2,RY,<-hO,<-hzD,<-hSD,DA];rw[Be];rfl
   rw[hs];exact .keep (.drop (Hq _))
 ·rintro j d H' n' F' hE
  rcases hE with⟨rfl,⟨o,lw,lf,g⟩,⟨p1,p2,-⟩,rfl⟩|⟨-,h⟩
  rotate_left
  ·exact h.elim
  dsimp only at p2;rw[List.drop_eq_nil_of_le (by omega)]at p2;have ho2:o=Fo l low e:=by rw[<-p2];exact(Dh o).symm
  rw[<-ho2]at hN;rcases o with _|⟨z,o⟩
  ·rw[al]
   change AC _ _ _ _ _ _ _;refine sR 1000 ?_;refine BE.pure [.sl false 3 []] _ ⟨.nil 3,trivial⟩ hN AJ ?_;refine BR ?_;refine Ag ?_;exact AM rfl pR.out
  ·have hR:=GZ (H:=Kg 8 11 ⟨z::o,lw,lf,g⟩) (Hf:=[]) (k:=905) (g:=g) (T:=51) (sz:=3) (l:=(z::o).map AE.D) rfl
   have hle:((z::o).map AE.D).length=(o.map AE.D).length+1:=rfl;rw[hle]at hR;rw[RY]at hR⊢;change AC _ _ _ _ _ _ _;refine sR 1000 ?_;refine BE.own _ (QS [] hN (.drop (.drop (.drop (.drop .nil)))) ⟨hR,trivial⟩ AJ) ?_;rintro d H2 n2 ⟨rfl,rfl,rfl⟩;refine BR ?_;refine Ag ?_;exact AM rfl pR.out
def SC (lot:List UInt8)(x:AE):Bool:=x.shs.any λs=>BI (sb s.lot) (sb lot)
def L7 (lot:List UInt8):List AE->Int->List (Int×Int)
 | [],_=>[]
 |x::r,n=>(if SC lot x then[(n+1,n+x.mass)]else[])++L7 lot r (n+x.mass)
def GW (p:Int×Int):D:=.agg [i64 p.1,i64 p.2]
instance  (p:Int×Int):AX (GW p):=by unfold GW;exact AJ
instance  (p:Int×Int):AA (GW p):=by unfold GW;exact AJ
theorem e0H (lot:List UInt8)(s:As):AL C0 139 [s.D,.pptr (str (sb lot))] (Ap (BI (sb s.lot) (sb lot))):=by
 refine Ad.walk w1 fB rfl λF=>?_
 unfold As.D;refine AH AW kB AB AB AB AB AB AB ?_;exact AM rfl AA.out
theorem zi (b:Bool)(l:List As)(c:D)[pc:AA c](p:As->Bool)(hl:l.length<=1000000)(hc:∀x∈l,AL C0 139 [x.D,c] (Ap (p x))):AL C0 193 [Co b l,.clo (.func 139) [] [c]] (i64 (Kl p l)):=by
 refine Ad.walk w1 dg rfl λF=>?_
 have el:(((l.map As.D).length:Nat):Int)=(l.length:Int):=by rw[Ae]
 refine AH AW el AB AB AB AB AB AB ?_;refine AC.loop (α:=Nat×Nat) (λp=>⟨[(0,Co b l),(1,.clo (.func 139) [] [c]),(7,i64 l.length),(8,i64 (p.1:Int))],[],p.2⟩) (λp=>l.length-p.1) (λq=>q.1<=l.length/\∀(j:Nat) (x:As),j<q.1->l[j]?=some x->p x=false) (0,_) ⟨BT _,λj x hj=>Ak hj (HJ j)⟩ AK ?_;rintro⟨i,n⟩ F ⟨hi,ha⟩;dsimp only at hi ha⊢;rcases BC i l.length with h2|h2
 rotate_left
 ·have e1:=Cc h2
  have:i=l.length:=by omega
  subst this;refine AH AW e1 AB AB AB AB AB AB ?_;exact AM (by rw[UU ha]) AA.out
 have e1:=CZ h2;have wi:=Ce (i:=i) (by omega);obtain⟨x,hx⟩:=CJ h2;have hm:(l.map As.D)[i]?=some (.agg [str (sb x.lot),str (sb x.part)]):=by rw[Az,hx];rfl
 have cn:=hc x (Au hx);unfold As.D at cn;cases hb:p x
 ·rw[hb]at cn
  refine AH AW (Ar e1 wi kN) hm cn AB AB AB AB ?_;refine⟨(i+1,_),⟨h2,λj z hj hjz=>?_⟩,by dsimp only;omega,AK⟩;rcases BC j i with h|h
  ·exact ha j z h hjz
  ·have:j=i:=by dsimp only at hj;omega
   subst this;rw[hx]at hjz;cases hjz;exact hb
 ·rw[hb]at cn
  refine AH AW (Ar e1 wi kN) hm cn AB AB AB AB ?_;exact AM (by rw[VA hx hb ha]) AA.out
theorem ze (b:Bool)(l:List As)(c:D)[pc:AA c](p:As->Bool)(hl:l.length<=1000000)(hc:∀x∈l,AL C0 139 [x.D,c] (Ap (p x))):AL C0 138 [Co b l,.clo (.func 139) [] [c]] (Ap (l.any p)):=by
 refine Ad.walk w1 eZ rfl λF=>?_
 have c1:=zi b l c p hl hc;have e1:=VB p l;refine AH AW e1 c1 AB AB AB AB AB ?_;exact AM rfl AA.out
structure XY where
 o:List (Int×Int)
 n:Int
 g:Nat
def K6 (lot:List UInt8)(g1 g2:Nat)(p:XY):Hp:=EG 609 p.g 103 2 (p.o.map GW)++[⟨200,g2,3,1,[i64 p.n]⟩,⟨100,g1,101,1,[EL 609 p.g 2 (p.o.map GW)]⟩,⟨0,0,9,1,[str (sb lot)]⟩]
theorem bx (lot:List UInt8)(g1 g2:Nat)(n:Int)(g:Nat):K6 lot g1 g2 ⟨[],n,g⟩=[⟨200,g2,3,1,[i64 n]⟩,⟨100,g1,101,1,[Cd]⟩,⟨0,0,9,1,[str (sb lot)]⟩]:=rfl
theorem RS (lot:List UInt8)(g1 g2:Nat)(z:Int×Int)(o:List (Int×Int))(n:Int)(g:Nat):K6 lot g1 g2 ⟨z::o,n,g⟩=[⟨609,g,103,2,GW z::o.map GW⟩,⟨200,g2,3,1,[i64 n]⟩,⟨100,g1,101,1,[.osl 609 g 2 0 ((o.map GW).length+1)]⟩,⟨0,0,9,1,[str (sb lot)]⟩]:=rfl
def QM (lot:List UInt8)(l:List AE)(k:Nat)(p:XY):Prop:=p.o.length<=k/\p.o++L7 lot (l.drop k) p.n=L7 lot l 0/\0<=p.n/\p.n<=(k:Int)*1000000000
theorem kq (b:Bool)(l:List AE)(lot:List UInt8)(hl:l.length<=1000000)(hx:∀x∈l,0<=x.mass/\x.mass<=1000000000/\x.shs.length<=1000000):
  AL C0 99 [Aj b l,str (sb lot)] (.sl false 2 ((L7 lot l 0).map GW)):=by
 refine Ad.walk w1 jR rfl λF=>?_
 have cV:=Ur b false (l.map AE.D);have hT:∀x∈l.map AE.D,∃a c d,x=.agg [a,c,d]:=λx hx=>by
  obtain⟨y,-,rfl⟩:=By.1 hx;exact⟨_,_,_,rfl⟩
 have hoA:∀k,k<l.length->∃y,y∈l/\l[k]?=some y/\(l.map AE.D)[if false then(l.map AE.D).length-1-k else k]?=some y.D:=λk hk=>⟨_,List.getElem_mem hk,Bx hk,by
  show(l.map AE.D)[k]?=_;rw[Az,Bx hk];rfl⟩
 unfold Aj;obtain⟨T,hTT⟩:∃T,l.map AE.D=T:=⟨_,rfl⟩
 have pT:AA (.sl b 3 T):=by rw[<-hTT];exact AJ
 have hTl:T.length=l.length:=by rw[<-hTT,Ae]
 rw[hTT]at cV hT hoA⊢;refine AH AW kB cV AB AB AB AB AB ?_;have h0:QM lot l 0 ⟨[],0,0⟩:=⟨An _,rfl,Int.le_refl _,Int.le_refl _⟩
 refine AC.rangeFunc (fi:=107) (first:=[]) (captured:=[.pptr (.sl b 3 T),.pptr (Ap false)]) (Ψ:=λj _ H' _=>(j=none/\∃a,QM lot l T.length a/\H'=K6 lot 2 3 a)\/(j=some (.exit 0)/\False)) rfl
  (λds H n Φ=>∃k a x,QM lot l k a/\k<T.length/\T[if false then T.length-1-k else k]?=some x/\ds=[x]/\H=K6 lot 2 3 a/\Φ=λj H' _=>(j=none/\∃a',QM lot l (k+1) a'/\C3 H' (K6 lot 2 3 a') H' (K6 lot 2 3 a'))\/(j=some (.exit 0)/\False)) ?_
  (λE l' R' hE hY=>Wu hE b false T hT (by omega) (λ_ a=>K6 lot 2 3 a) (QM lot l) (.exit 0) (λ_=>False) ⟨[],0,0⟩ h0 _ λk a x n hP hk hx=>hY _ _ _ _ ⟨k,a,x,hP,hk,hx,rfl,rfl,rfl⟩) ?_
 ·rintro l' ds H n Φ ⟨k,⟨o,nn,g⟩,x,⟨p1,p2,p3,p4⟩,hk,hxT,rfl,rfl,rfl⟩
  dsimp only at p1 p2 p3 p4;obtain⟨y,hy1,hy2,hy3⟩:=hoA k (by omega);rw[hy3]at hxT;cases hxT;have hd:l.drop k=y::l.drop (k+1):=by
   have:=(BS.1 hy2)
   rw[Ey this.1,this.2]
  rw[hd]at p2;have hb:=hx y hy1;have cH:=ze false y.shs (.pptr (str (sb lot))) (λs=>BI (sb s.lot) (sb lot)) hb.2.2 λs _=>e0H lot s
  have hK:(y.shs.any λs=>BI (sb s.lot) (sb lot))=SC lot y:=rfl;rw[hK]at cH;have p5:(o++(if SC lot y then[(nn+1,nn+y.mass)]else[]))++L7 lot (l.drop (k+1)) (nn+y.mass)=L7 lot l 0:=by
   rw[<-p2,Dt];rfl
  obtain⟨K,hKK⟩:∃K,SC lot y=K:=⟨_,rfl⟩
  rw[hKK]at cH p5;have a1:IntKind.i64.wrap (nn+y.mass)=nn+y.mass:=wI;have a2:IntKind.i64.wrap (nn+1)=nn+1:=wI;have q1:0<=nn+y.mass/\nn+y.mass<=((k+1:Nat):Int)*1000000000:=by omega
  refine⟨rfl,λF=>?_⟩;unfold AE.D;unfold Co at cH⊢;obtain⟨SD,hSD⟩:∃d,y.shs.map As.D=d:=⟨_,rfl⟩
  have pS:AA (.sl false 2 SD):=by rw[<-hSD];exact AJ
  rw[hSD]at cH⊢;rcases o with _|⟨z,o⟩
  ·rw[bx]
   dsimp only[HX];refine Aq 400 ?_;refine AF kB ?_;refine⟨trivial,trivial,λF'=>?_⟩;refine AH AW kB AB AB AB AB AB AB ?_;refine BE.own _ (Ly cH rfl (λi a d h1 h2=>by
    match i with
    | 0=>cases h1;cases h2;exact .refl _ _
    | 1=>cases h1;cases h2;exact .clo1 (.ptr rfl rfl rfl rfl)
    |n+2=>cases h1) AJ (.prim _)) ?_
   rintro d H' n' ⟨rfl,rfl,rfl⟩;cases K
   ·refine AH AW (Ab a1 a2) AB AB AB AB AB AB ?_
    exact .inl ⟨rfl,⟨[],nn+y.mass,0⟩,⟨BT _,p5,q1⟩,.drop (Hq _)⟩
   ·refine AH AW (Ab a1 a2) AB AB AB AB AB AB ?_
    exact .inl ⟨rfl,⟨[(nn+1,nn+y.mass)],nn+y.mass,n+1+1+1+1+1+1+1+1+1+1+1+1+1+1+1⟩,⟨by simp,p5,q1⟩,.keep (.drop (Hq _))⟩
  ·have hol:o.length<=1000000:=by rw[Br]at p1;omega
   rw[RS];dsimp only[HX];obtain⟨O,hO⟩:∃O,o.map GW=O:=⟨_,rfl⟩
   obtain⟨zD,hzD⟩:∃O,GW z=O:=⟨_,rfl⟩
   have hOl:O.length=o.length:=by rw[<-hO,Ae]
   rw[hO,hzD];refine Aq 400 ?_;refine AF kB ?_;refine⟨trivial,trivial,λF'=>?_⟩;refine AH AW kB AB AB AB AB AB AB ?_;refine BE.own _ (Ly cH rfl (λi a d h1 h2=>by
    match i with
    | 0=>cases h1;cases h2;exact .refl _ _
    | 1=>cases h1;cases h2;exact .clo1 (.ptr rfl rfl rfl rfl)
    |n+2=>cases h1) AJ (.prim _)) ?_
   rintro d H' n' ⟨rfl,rfl,rfl⟩;cases K
   ·refine AH AW (Ab a1 a2) AB AB AB AB AB AB ?_
    refine .inl ⟨rfl,⟨z::o,nn+y.mass,g⟩,⟨Nat.le_succ_of_le p1,by rw[<-p5,AG Bool.false_ne_true,Dh],q1⟩,?_⟩;rw[RS,hO,hzD];exact .drop (Hq _)
   ·refine AH AW (Ab a1 a2) AB AB AB AB AB AB ?_
    rw[show List.take (O.length+1) (zD::O)=zD::O from Cz (l:=zD::O)];refine .inl ⟨rfl,⟨z::o++[(nn+1,nn+y.mass)],nn+y.mass,n+1+1+1+1+1+1+1+1+1+1+1+1+1+1+1⟩,⟨by rw[Be];exact Nat.succ_le_succ p1,p5,q1⟩,?_⟩;have hs:∀g' a,K6 lot 2 3 ⟨z::o++[(nn+1,nn+y.mass)],a,g'⟩=[⟨609,g',103,2,zD::O++[.agg [i64 (nn+1),i64 (nn+y.mass)]]⟩,⟨200,3,3,1,[i64 a]⟩,⟨100,2,101,1,[.osl 609 g' 2 0 (O.length+1+1)]⟩,⟨0,0,9,1,[str (sb lot)]⟩]:=λg' a=>by
     rw[E2,RS,<-hO,<-hzD,DA];rw[Be];rfl
    rw[hs];exact .keep (.drop (Hq _))
 ·rintro j d H' n' F' hE
  rcases hE with⟨rfl,⟨o,nn,g⟩,⟨p1,p2,-⟩,rfl⟩|⟨-,h⟩
  rotate_left
  ·exact h.elim
  dsimp only at p2;rw[List.drop_eq_nil_of_le (by omega)]at p2;have ho2:o=L7 lot l 0:=by rw[<-p2];exact(Dh o).symm
  rw[<-ho2];rcases o with _|⟨z,o⟩
  ·rw[bx]
   change AC _ _ _ _ _ _ _;refine sR 800 ?_;refine Ag ?_;exact⟨_,.nil 2,AA.out,rfl⟩
  ·have hR:=GZ (H:=K6 lot 2 3 ⟨z::o,nn,g⟩) (Hf:=[]) (k:=609) (g:=g) (T:=103) (sz:=2) (l:=(z::o).map GW) rfl
   have hle:((z::o).map GW).length=(o.map GW).length+1:=rfl;rw[hle]at hR;rw[RS]at hR⊢;change AC _ _ _ _ _ _ _;refine sR 800 ?_;refine Ag ?_;exact⟨_,hR,AA.out,rfl⟩
theorem pv {x:AE}{l:List AE}(h:x.mass=0):Di (x::l)=Di l:=by
 unfold Di;rw[List.filter_cons,AG (by rw[h];decide)]
theorem pu {x:AE}{l r:List AE}(h:Di l=Di r):Di (x::l)=Di (x::r):=by
 unfold Di at h⊢;rw[List.filter_cons,List.filter_cons,h]
theorem Zb:∀ {l:List AE},(∀x∈l,0<=x.mass)->Di (P8 l 0)=[]
 | [],_=>rfl
 |x::r,h=>by
  have h1:=h x (B1 ..);show Di (x.w (min 0 x.mass)::P8 r (0-min 0 x.mass))=[];rw[show min 0 x.mass=0 by omega,pv rfl];exact Zb λy hy=>h y (B9 _ hy)
theorem yR:∀ {l:List AE} {m:Int},(∀x∈l,0<=x.mass)->0<=m->Di (Ea l m)=Di (P8 l m)
 | [],_,_,_=>rfl
 |x::r,m,h,hm=>by
  have h1:=h x (B1 ..);have h2:∀y∈r,0<=y.mass:=λy hy=>h y (B9 _ hy)
  show Di (x.w (min x.mass m)::if m-x.mass<=0 then[]else Ea r (m-x.mass))=Di (x.w (min m x.mass)::P8 r (m-min m x.mass));rw[show min x.mass m=min m x.mass by omega];refine pu ?_
  by_cases hz:m-x.mass<=0
  ·rw[AI hz,show m-min m x.mass=0 by omega,Zb h2];rfl
  ·rw[AG hz,show m-min m x.mass=m-x.mass by omega]
   exact yR h2 (by omega)
theorem WE:∀ {l:List AE} {m:Int},(∀x∈l,0<=x.mass/\x.mass<=1000000000/\x.shs.length<=1000000)->0<=m->∀y∈Ea l m,0<=y.mass/\y.mass<=1000000000/\y.shs.length<=1000000
 | [],_,_,_,y,hy=>by cases hy
 |x::r,m,h,hm,y,hy=>by
  obtain⟨h1,h2,h3⟩:=h x (B1 ..);rcases A9.1 hy with rfl|h4
  ·exact⟨by show 0<=min x.mass m;omega,by show min x.mass m<=_;omega,h3⟩
  ·split at h4
   ·cases h4
   ·exact WE (λz hz=>h z (B9 _ hz)) (by omega) y h4
theorem VO:∀(l:List AE) (m:Int),(Ea l m).length<=l.length
 | [],_=>An _
 |x::r,m=>by
  show(if m-x.mass<=0 then[]else Ea r (m-x.mass)).length+1<=r.length+1;split
  ·simp
  ·have:=VO r (m-x.mass);omega
theorem vH {a b:Int}(h:E7 [a,b]=0):a=0/\b=0:=by
 have h1:(if a≠0 then a else if b≠0 then b else 0)=0:=h
 by_cases h0:a=0
 ·rw[AG (λq=>q h0)]at h1
  by_cases h2:b=0
  ·exact⟨h0,h2⟩
  ·rw[AI h2]at h1;exact Ak h1 h2
 ·rw[AI h0]at h1;exact Ak h1 h0
theorem ya (l:List AE)(hl:l.length<=1000000):AL C0 35 [Aj false l] (.tup [Aj false (if 64<l.length then[]else l),i64 (if 64<l.length then 5 else 0)]):=by
 refine Ad.walk w1 iL rfl λF=>?_
 have el:(((l.map AE.D).length:Nat):Int)=(l.length:Int):=by rw[Ae]
 by_cases h:64<l.length
 ·rw[AI h,AI h]
  have k:decide ((l.length:Int)>64)=true:=BX;refine AH AW (Ab el k) AB AB AB AB AB AB ?_;exact⟨_,I9 (.nil 3) (.refl _),AA.out,rfl⟩
 ·rw[AG h,AG h]
  have k:decide ((l.length:Int)>64)=false:=Bc;refine AH AW (Ab el k) AB AB AB AB AB AB ?_;exact AM rfl AA.out
theorem pk (R:List AE)(x:AE):(Cn R x).length<=R.length+1:=by
 unfold Cn;split
 ·split
  ·rw[Be,List.length_dropLast,HN];omega
  ·rw[Be];exact An _
 ·simp
theorem Mc (l:List AE):(BZ l).length<=l.length:=by
 have:∀(l R:List AE),(l.foldl Cn R).length<=R.length+l.length:=λl=>by
  induction l with
  |nil=>exact λ_=>An _
  |cons x l ih=>
   intro R;have h1:=ih (Cn R x);have h2:=pk R x;rw[List.foldl_cons,Br];omega
 have:=this l []
 unfold BZ;simpa using this
def P7:Av:=⟨[],0,0,0,[]⟩
def CC (x:Av)(i:Int):List AE:=x.cells.getD i.toNat []
theorem IU {x:Av}(h:C9 x=0):∀c∈x.cells,DW x c=0:=by
 unfold C9 at h
 by_cases h1:Gp x=0
 ·rw[AG (λq=>q h1)]at h
  by_cases h2:Ew x x.cells=0
  ·exact T8 h2
  ·rw[AI h2]at h;exact Ak h h2
 ·rw[AI h1]at h;exact Ak h h1
theorem dZ {x:Av}{i:Int}(h:HZ x [i]=0):C9 x=0/\0<=i/\i<(x.cells.length:Int):=by
 unfold HZ at h
 by_cases h1:C9 x=0
 ·rw[AG (λq=>q h1)]at h
  refine⟨h1,?_⟩;cases hb:J7 x i
  ·simp[hb]at h
  ·unfold J7 DF at hb
   rw[BU,decide_eq_true_iff,decide_eq_true_iff]at hb;omega
 ·rw[AI h1]at h;exact Ak h h1
structure gp (x:Av)(i:Int)(l:List AE):Prop where
 cel:∀c∈x.cells,DW x c=0
 lt:i.toNat<x.cells.length
 ii:i=(i.toNat:Int)
 par:Bz l=0
 at_:x.cells[i.toNat]?=some (CC x i)
 bin:C9 x=0
theorem jA:∀ {l R:List AE} {k:Nat},OY k R->(∀x∈l,0<=x.mass/\x.mass<=1000000000/\x.shs.length<=1000000)->OY (k+l.length) (l.foldl Cn R)
 | [],_,_,h,_=>h
 |x::l,R,k,h,hx=>by
  have h1:=jA (UF h (hx x (B1 ..))) λy hy=>hx y (B9 _ hy)
  rw[List.foldl_cons,Br,show k+(l.length+1)=k+1+l.length by omega];exact h1
theorem zn {l:List AE}(hx:∀x∈l,0<=x.mass/\x.mass<=1000000000/\x.shs.length<=1000000):(BZ l).length<=l.length/\∀y∈BZ l,0<=y.mass/\y.mass<=(l.length:Int)*1000000000/\y.shs.length<=1000000:=by
 have:=jA (l:=l) (R:=[]) (k:=0) ⟨An _,λy h=>by cases h⟩ hx
 rw[BW]at this;exact this
theorem PO (a b:List AE):Ai (a++b)=Ai a+Ai b:=by
 unfold Ai;rw[DA,List.sum_append]
theorem pn (R:List AE)(x:AE):Ai (Cn R x)=Ai R+x.mass:=by
 unfold Cn;split
 ·rename_i y hy
  have hR:R=R.dropLast++[y]:=by
   have hne:R≠[]:=λh=>by rw[h]at hy;cases hy
   have:=List.getLast?_eq_some_getLast hne
   rw[this]at hy;cases hy;exact(List.dropLast_concat_getLast hne).symm
  split
  ·rw[PO]
   conv=>rhs;rw[hR,PO]
   unfold Ai AE.w;simp;omega
  ·rw[PO];unfold Ai;simp
 ·rename_i hy
  have:R=[]:=List.getLast?_eq_none_iff.1 hy
  rw[this];unfold Ai;simp
theorem NW (l:List AE):Ai (BZ l)=Ai l:=by
 have:∀(l R:List AE),Ai (l.foldl Cn R)=Ai R+Ai l:=λl=>by
  induction l with
  |nil=>intro R;unfold Ai;simp
  |cons x l ih=>
   intro R;rw[List.foldl_cons,ih,pn];unfold Ai;simp;omega
 have h:=this l [];rw[show Ai ([]:List AE)=0 from rfl,Int.zero_add]at h;exact h
theorem Yr {l:List AE}(h1:∀x∈l,1<=x.mass/\x.mass<=1000000000/\x.shs.length<=1000000)(h2:l.length<=1000000)(h3:Ai l<=1000000000):JE (BZ l)/\0<=Ai (BZ l)/\Ai (BZ l)=Ai l:=by
 have h0:∀x∈l,0<=x.mass/\x.mass<=1000000000/\x.shs.length<=1000000:=λx hx=>⟨by have:=(h1 x hx).1;omega,(h1 x hx).2⟩
 obtain⟨b1,b2⟩:=zn h0;have b3:=NW l;refine⟨⟨by omega,λy hy=>?_⟩,?_,b3⟩
 ·have hy0:=(b2 y hy).1
  have:y.mass<=Ai (BZ l):=by
   obtain⟨A,B,hAB⟩:=EW hy;rw[hAB,PO,show Ai (y::B)=y.mass+Ai B from rfl];have p1:=Md (l:=A) λz hz=>(b2 z (by rw[hAB];exact HO _ hz)).1
   have p2:=Md (l:=B) λz hz=>(b2 z (by rw[hAB];exact List.mem_append_right _ (B9 _ hz))).1
   omega
  omega
 ·exact Md λz hz=>(b2 z hz).1
theorem RW {x:Av}(h:C9 x=0):0<=x.side/\x.side<=999999999/\x.room<=999999999/\x.cells.length<=8:=by
 have h1:Gp x=0:=by
  unfold C9 at h
  by_cases h1:Gp x=0
  ·exact h1
  ·rw[AI h1]at h;exact Ak h h1
 rw[Vz]at h1;split at h1
 ·cases h1
 split at h1
 ·cases h1
 rename_i hr;split at h1
 ·cases h1
 split at h1
 ·cases h1
 rename_i hn;unfold Lw at hr;simp only[Kx,HH,not_or]at hr;obtain⟨⟨⟨⟨-,-⟩,h3⟩,h4⟩,h5⟩:=hr;omega
theorem Z1:∀ {S T:List As},GB S T=true↔S=T
 | [],[]=>by simp[GB]
 | [],_::_=>by simp[GB]
 |_::_,[]=>by simp[GB]
 |s::S,t::T=>by
  show(HD s t&&GB S T)=true↔_;rw[BU,Z1 (S:=S) (T:=T)];unfold HD;rw[BU,LI,LI,decide_eq_true_iff,decide_eq_true_iff];obtain⟨a,b⟩:=s;obtain⟨c,d⟩:=t;simp
theorem q6 (x y:AE):FP x y=true↔x.grain=y.grain/\x.shs=y.shs:=by
 unfold FP;rw[BU,LI,decide_eq_true_iff,Z1]
theorem e1j {x y:AE}(hg:x.grain=y.grain)(hs:x.shs=y.shs)(m:Int):x.w m=y.w m:=by unfold AE.w;rw[hg,hs]
theorem w_w (x:AE)(a b:Int):(x.w a).w b=x.w b:=rfl
theorem zP (x:AE):x.w x.mass=x:=rfl
theorem Np {x y:AE}:FP x y=true↔∀m,x.w m=y.w m:=by
 rw[q6];constructor
 ·rintro⟨a,b⟩ m;exact e1j a b m
 ·intro h
  have h0:=h 0;unfold AE.w at h0;injection h0 with a b c;exact⟨a,c⟩
def BP (l:List AE):List AE:=l.flatMap λx=>List.replicate x.mass.toNat (x.w 1)
theorem SX:BP []=[]:=rfl
theorem Hu (x:AE)(l:List AE):BP (x::l)=List.replicate x.mass.toNat (x.w 1)++BP l:=rfl
theorem Ml (a b:List AE):BP (a++b)=BP a++BP b:=List.flatMap_append
theorem SZ (x:AE):BP [x]=List.replicate x.mass.toNat (x.w 1):=by rw[Hu,SX,Dh]
theorem WF:∀l:List AE,BP l.reverse=(BP l).reverse
 | []=>rfl
 |x::l=>by rw[List.reverse_cons,Ml,WF l,SZ,Hu,List.reverse_append,List.reverse_replicate]
theorem N5:∀ {l:List AE},(∀x∈l,0<=x.mass)->((BP l).length:Int)=Ai l
 | [],_=>rfl
 |x::l,h=>by
  have h1:=h x (B1 ..);have h2:=N5 (l:=l) λy hy=>h y (B9 _ hy)
  rw[Hu,Be,JR,show Ai (x::l)=x.mass+Ai l from rfl];omega
theorem Pp {l:List AE}:∀y∈BP l,∃x∈l,y=x.w 1/\0<x.mass:=λy hy=>by
 unfold BP at hy;obtain⟨x,hx,h⟩:=List.mem_flatMap.1 hy;obtain⟨h1,h2⟩:=List.mem_replicate.1 h;exact⟨x,hx,h2,by omega⟩
theorem sF {R:List AE}{x:AE}(hR:∀y∈R,0<=y.mass)(hx:0<=x.mass):BP (Cn R x)=BP R++BP [x]:=by
 unfold Cn;split
 ·rename_i y hy
  have hR':R=R.dropLast++[y]:=by
   have hne:R≠[]:=λh=>by rw[h]at hy;cases hy
   have:=List.getLast?_eq_some_getLast hne
   rw[this]at hy;cases hy;exact(List.dropLast_concat_getLast hne).symm
  split
  ·rename_i hl
   have e:=Np.1 hl 1;have hy0:=hR y (List.mem_of_getLast? hy)
   conv=>rhs;rw[hR']
   rw[Ml,Ml,SZ,SZ,SZ,Dt];show _++List.replicate (y.mass+x.mass).toNat (y.w 1)=_;rw[<-e,List.replicate_append_replicate,show(y.mass+x.mass).toNat=y.mass.toNat+x.mass.toNat by omega]
  ·rw[Ml]
 ·rename_i hy
  rw[List.getLast?_eq_none_iff.1 hy];rfl
theorem sE {R:List AE}{x:AE}(hR:∀y∈R,0<=y.mass)(hx:0<=x.mass):∀y∈Cn R x,0<=y.mass:=by
 unfold Cn;split
 ·rename_i z hz
  have hz0:=hR z (List.mem_of_getLast? hz);split
  ·intro y hy
   rcases Bn.1 hy with h|h
   ·exact hR y ((List.dropLast_sublist R).subset h)
   ·obtain rfl:=Dz.1 h
    show 0<=z.mass+x.mass;omega
  ·intro y hy
   rcases Bn.1 hy with h|h
   ·exact hR y h
   ·obtain rfl:=Dz.1 h;exact hx
 ·intro y hy
  obtain rfl:=Dz.1 hy;exact hx
theorem SJ {l:List AE}(h:∀x∈l,0<=x.mass):BP (BZ l)=BP l:=by
 have:∀(l R:List AE),(∀x∈l,0<=x.mass)->(∀y∈R,0<=y.mass)->BP (l.foldl Cn R)=BP R++BP l:=λl=>by
  induction l with
  |nil=>intro R _ _;simp[SX]
  |cons x l ih=>
   intro R hl hR;have hx:=hl x (B1 ..);rw[List.foldl_cons,ih _ (λy hy=>hl y (B9 _ hy)) (sE hR hx),sF hR hx,Dt,<-Ml];rfl
 exact this l [] h λy hy=>by cases hy
theorem jB:∀l:List AE,BP (Di l)=BP l
 | []=>rfl
 |x::l=>by
  have ih:=jB l;unfold Di at ih⊢;rw[List.filter_cons];split
  ·rw[Hu,Hu,ih]
  ·rename_i h
   have h0:x.mass=0:=by simpa using h
   rw[Hu,ih,h0];rfl
theorem oJ (R:List AE)(x:AE)(m:Int):Cn (Cn R (x.w m)) (x.w 1)=Cn R (x.w (m+1)):=by
 have key:∀(A:List AE) (z:AE),FP z (x.w 1)=true->Cn (A++[z]) (x.w 1)=A++[z.w (z.mass+1)]:=λA z hz=>by
  unfold Cn;rw[List.getLast?_append];show(if FP z (x.w 1)=true then _ else _)=_;rw[AI hz,List.dropLast_concat];rfl
 have hlx:∀a b:Int,FP (x.w a) (x.w b)=true:=λa b=>Np.2 λm=>rfl
 cases hR:R.getLast? with
 |none=>
  have:R=[]:=List.getLast?_eq_none_iff.1 hR
  subst this;exact key [] (x.w m) (hlx _ _)
 |some y=>
  have e:∀a:Int,Cn R (x.w a)=if FP y (x.w a)then R.dropLast++[y.w (y.mass+a)]else R++[x.w a]:=λa=>by
   unfold Cn;rw[hR];rfl
  have hb:∀a b:Int,FP y (x.w a)=FP y (x.w b):=λa b=>by
   rw[Fs,Np,Np];exact Iff.rfl
  rw[e m,e (m+1),hb m 1,hb (m+1) 1]
  by_cases h:FP y (x.w 1)=true
  ·rw[AI h,AI h,key _ _ (Np.2 λk=>(w_w y _ k).trans (Np.1 h k))]
   show _++[y.w (y.mass+m+1)]=_;rw[Int.add_assoc]
  ·rw[AG h,AG h,key _ _ (hlx _ _)];rfl
theorem ba (x:AE):∀(n:Nat) (R:List AE),(List.replicate (n+1) (x.w 1)).foldl Cn R=Cn R (x.w ((n:Int)+1))
 | 0,R=>rfl
 |n+1,R=>by
  rw[List.replicate_succ',List.foldl_append,ba x n R];exact oJ R x _
theorem V8 {l:List AE}(h:∀x∈l,1<=x.mass):BZ (BP l)=BZ l:=by
 have:∀(l R:List AE),(∀x∈l,1<=x.mass)->(BP l).foldl Cn R=l.foldl Cn R:=λl=>by
  induction l with
  |nil=>intro R _;rfl
  |cons x l ih=>
   intro R hl;have hx:=hl x (B1 ..);rw[Hu,List.foldl_append,show x.mass.toNat=(x.mass.toNat-1)+1 by omega,ba,List.foldl_cons,ih _ λy hy=>hl y (B9 _ hy)];rw[show(((x.mass.toNat-1:Nat):Int)+1)=x.mass by omega,zP]
 exact this l [] h
theorem SH {l:List AE}(h:∀x∈l,0<=x.mass):BZ (Di l)=BZ (BP l):=by
 rw[<-jB l];refine(V8 λx hx=>?_).symm;unfold Di at hx;obtain⟨h1,h2⟩:=List.mem_filter.1 hx
 have:=h x h1
 have:x.mass≠0:=by simpa using h2
 omega
theorem xr {a b:List AE}(ha:∀x∈a,1<=x.mass)(hb:∀x∈b,1<=x.mass)(h:BP a=BP b):BZ a=BZ b:=by rw[<-V8 ha,<-V8 hb,h]
theorem Ww:∀ {l:List AE} {m:Int},(∀x∈l,0<=x.mass)->0<=m->BP (Ea l m)=(BP l).take m.toNat
 | [],m,_,_=>by rw[SX,List.take_nil];rfl
 |x::r,m,h,hm=>by
  have h1:=h x (B1 ..);have h2:∀y∈r,0<=y.mass:=λy hy=>h y (B9 _ hy)
  show BP (x.w (min x.mass m)::if m-x.mass<=0 then[]else Ea r (m-x.mass))=_;rw[Hu,Hu,List.take_append,List.take_replicate,JR];show List.replicate (min x.mass m).toNat (x.w 1)++_=_;rw[show(min x.mass m).toNat=min m.toNat x.mass.toNat by omega]
  by_cases hz:m-x.mass<=0
  ·rw[AI hz,show m.toNat-x.mass.toNat=0 by omega];rfl
  ·rw[AG hz,Ww h2 (by omega),show m.toNat-x.mass.toNat=(m-x.mass).toNat by omega]
theorem We:∀ {l:List AE} {low left:Int},(∀x∈l,0<=x.mass)->0<=low->0<=left->BP (Fo l low left)=((BP l).drop low.toNat).take left.toNat
 | [],low,left,_,_,_=>by rw[SX,List.drop_nil,List.take_nil];rfl
 |x::r,low,left,h,h0,h5=>by
  have h1:=h x (B1 ..);have h2:∀y∈r,0<=y.mass:=λy hy=>h y (B9 _ hy)
  show BP (x.w (min (x.mass-min x.mass low) left)::Fo r (low-min x.mass low) (left-min (x.mass-min x.mass low) left))=_;rw[Hu,Hu,We h2 (by omega) (by omega),List.drop_append,List.drop_replicate,JR,List.take_append,List.take_replicate,JR];show List.replicate (min (x.mass-min x.mass low) left).toNat (x.w 1)++_=_;rw[show(min (x.mass-min x.mass low) left).toNat=min left.toNat (x.mass.toNat-low.toNat) by omega,show(low-min x.mass low).toNat=low.toNat-x.mass.toNat by omega,
   show(left-min (x.mass-min x.mass low) left).toNat=left.toNat-(x.mass.toNat-low.toNat) by omega]
open Go.Sort
def Ct (k:List UInt8):BQ->Option Rat
 | []=>none
 |p::l=>if p.1=k then some p.2 else Ct k l
def Eo (ts Q:BQ):BQ:=ts.foldl (λacc t=>DX t.1 t.2 acc) Q
def Ke (l:List AE):BQ:=l.flatMap λx=>x.shs.map λs=>(s.lot,Bv s.part*(x.mass:Rat))
theorem Y6 (a b Q:BQ):Eo (a++b) Q=Eo b (Eo a Q):=List.foldl_append
theorem nh (x:AE)(q:BQ):Jv x x.shs.length q=Eo (x.shs.map λs=>(s.lot,Bv s.part*(x.mass:Rat))) q:=by
 unfold Jv Eo;rw[Cz,List.foldl_map]
theorem YX (l:List AE):DC l=Eo (Ke l) []:=by
 have:∀(l:List AE) (q:BQ),l.foldl (λacc x=>Jv x x.shs.length acc) q=Eo (Ke l) q:=λl=>by
  induction l with
  |nil=>intro q;rfl
  |cons x l ih=>
   intro q;rw[List.foldl_cons,ih,nh,<-Y6];rfl
 exact this l []
theorem Z8 {ts:BQ}:∀ {Q:BQ},EE Q->EE (Eo ts Q):=by
 induction ts with
 |nil=>intro Q h;exact h
 |cons t ts ih=>intro Q h;exact ih (Rp h)
theorem NV {k:List UInt8}:∀ {Q:BQ},k∉Cw Q->Ct k Q=none
 | [],_=>rfl
 |p::l,h=>by
  unfold Ct;rw[AG (λe=>h (by rw[<-e];exact B1 ..))];exact NV λq=>h (B9 _ q)
theorem ip {a b:List UInt8}(h:ltStr a b=true):a≠b:=λe=>by rw[e,swo_ltStr.irrefl]at h;cases h
theorem Zk {a:List UInt8}{r:Rat}{k:List UInt8}:∀ {Q:BQ},EE Q->Ct k (DX a r Q)=if a=k then some ((Ct a Q).getD 0+r)else Ct k Q
 | [],_=>by
  unfold DX Ct
  by_cases h:a=k
  ·rw[AI h,AI h]
   show some r=some (0+r);rw[Rat.zero_add]
  ·rw[AG h,AG h];rfl
 |p::l,hs=>by
  have hp:=DP.1 hs;unfold DX
  by_cases h1:ltStr p.1 a=true
  ·rw[AI h1]
   have hpa:p.1≠a:=ip h1;have e1:Ct a (p::l)=Ct a l:=by
    show(if p.1=a then some p.2 else Ct a l)=_;rw[AG hpa]
   show(if p.1=k then some p.2 else Ct k (DX a r l))=_;rw[Zk hp.2,e1]
   by_cases h2:a=k
   ·rw[AI h2,AI h2,AG (λe=>hpa (e.trans h2.symm))]
   ·rw[AG h2,AG h2];rfl
  ·rw[AG h1]
   by_cases h2:p.1=a
   ·rw[AI h2]
    show(if p.1=k then some (p.2+r)else Ct k l)=if a=k then some ((if p.1=a then some p.2 else Ct a l).getD 0+r)else if p.1=k then some p.2 else Ct k l
    rw[AI h2,h2]
    by_cases h3:a=k
    ·rw[AI h3,AI h3];rfl
    ·rw[AG h3,AG h3,AG h3]
   ·rw[AG h2]
    have h3:ltStr a p.1=true:=by
     cases h9:ltStr a p.1 with
     |true=>rfl
     |false=>exact Ak (Qw (by simpa using h1) h9) h2
    have hn:a∉Cw (p::l):=λq=>by
     rcases A9.1 q with q|q
     ·exact h2 q.symm
     ·obtain⟨z,hz,e⟩:=By.1 q
      have:=swo_ltStr.trans _ _ _ h3 (hp.1 z hz)
      rw[e,swo_ltStr.irrefl]at this;cases this
    rw[NV hn];show(if a=k then some r else Ct k (p::l))=_
    by_cases h4:a=k
    ·rw[AI h4,AI h4]
     show some r=some (0+r);rw[Rat.zero_add]
    ·rw[AG h4,AG h4]
def DK (k:List UInt8):BQ->Rat
 | []=>0
 |t::ts=>if t.1=k then t.2+DK k ts else DK k ts
def IE (k:List UInt8)(ts:BQ):Bool:=ts.any λt=>decide (t.1=k)
theorem RC {k:List UInt8}:∀ {ts Q:BQ},EE Q->Ct k (Eo ts Q)=if IE k ts=true then some ((Ct k Q).getD 0+DK k ts)else Ct k Q
 | [],Q,_=>rfl
 |t::ts,Q,h=>by
  show Ct k (Eo ts (DX t.1 t.2 Q))=_;rw[RC (Rp h),Zk h];show _=if(decide (t.1=k)||IE k ts)=true then some ((Ct k Q).getD 0+if t.1=k then t.2+DK k ts else DK k ts)else Ct k Q
  by_cases h1:t.1=k
  ·rw[AI h1,AI h1,Ax h1,Bool.true_or,AI rfl,h1]
   by_cases h2:IE k ts=true
   ·rw[AI h2]
    show some ((Ct k Q).getD 0+t.2+DK k ts)=_;rw[Rat.add_assoc]
   ·rw[AG h2]
    have:DK k ts=0:=by
     have:∀ts:BQ,¬IE k ts=true->DK k ts=0:=λts=>by
      induction ts with
      |nil=>intro _;rfl
      |cons a ts ih=>
       intro hq;unfold IE at hq;rw[List.any_cons,Kx,not_or,decide_eq_true_iff]at hq;unfold DK;rw[AG hq.1];exact ih hq.2
     exact this ts h2
    rw[this,Rat.add_zero]
  ·rw[AG h1,AG h1,A8 h1,Bool.false_or]
theorem O5 {k:List UInt8}:∀ {Q:BQ},EE Q->(IE k Q=(Ct k Q).isSome/\DK k Q=(Ct k Q).getD 0)
 | [],_=>⟨rfl,rfl⟩
 |p::l,h=>by
  have hp:=DP.1 h;obtain⟨i1,i2⟩:=O5 (k:=k) hp.2;show(decide (p.1=k)||IE k l)=(if p.1=k then some p.2 else Ct k l).isSome/\(if p.1=k then p.2+DK k l else DK k l)=(if p.1=k then some p.2 else Ct k l).getD 0
  by_cases h1:p.1=k
  ·rw[AI h1,AI h1,Ax h1,Bool.true_or]
   refine⟨rfl,?_⟩
   have:Ct k l=none:=NV λq=>by
    obtain⟨z,hz,e⟩:=By.1 q
    have:=hp.1 z hz
    rw[h1,e,swo_ltStr.irrefl]at this;cases this
   rw[i2,this];show p.2+0=p.2;rw[Rat.add_zero]
  ·rw[AG h1,AG h1,A8 h1,Bool.false_or]
   exact⟨i1,i2⟩
theorem Zj:∀ {A B:BQ},EE A->EE B->(∀k,Ct k A=Ct k B)->A=B
 | [],[],_,_,_=>rfl
 | [],b::B,_,_,h=>by
  have:=h b.1
  unfold Ct at this;rw[AI rfl]at this;cases this
 |a::A,[],_,_,h=>by
  have:=h a.1
  unfold Ct at this;rw[AI rfl]at this;cases this
 |a::A,b::B,hA,hB,h=>by
  have pA:=DP.1 hA;have pB:=DP.1 hB;have la:∀k,Ct k (a::A)=if a.1=k then some a.2 else Ct k A:=λ_=>rfl
  have lb:∀k,Ct k (b::B)=if b.1=k then some b.2 else Ct k B:=λ_=>rfl
  have mem:∀ {Q:BQ} {k:List UInt8} {v:Rat},Ct k Q=some v->k∈Cw Q:=λ{Q k v} hq=>by
   apply DG;intro hn;rw[NV hn]at hq;cases hq
  have hk:a.1=b.1:=by
   apply DG;intro hne;have h1:=h a.1;rw[la,lb,AI rfl,AG (λe=>hne e.symm)]at h1;have h2:=h b.1;rw[la,lb,AI rfl,AG hne]at h2;obtain⟨z,hz,e⟩:=By.1 (mem h1.symm);obtain⟨y,hy,e2⟩:=By.1 (mem h2);have q1:=pB.1 z hz;have q2:=pA.1 y hy;rw[e]at q1;rw[e2]at q2
   have:=swo_ltStr.trans _ _ _ q1 q2
   rw[swo_ltStr.irrefl]at this;cases this
  have hv:a.2=b.2:=by
   have h1:=h a.1;rw[la,lb,AI rfl,AI hk.symm]at h1;exact FY h1
  have hab:a=b:=Prod.ext hk hv;rw[hab,Zj pA.2 pB.2 λk=>?_];have h1:=h k;rw[la,lb]at h1
  by_cases e:a.1=k
  ·have n1:Ct k A=none:=NV λq=>by
    obtain⟨z,hz,e3⟩:=By.1 q
    have:=pA.1 z hz
    rw[e,e3,swo_ltStr.irrefl]at this;cases this
   have n2:Ct k B=none:=NV λq=>by
    obtain⟨z,hz,e3⟩:=By.1 q
    have:=pB.1 z hz
    rw[<-hk,e,e3,swo_ltStr.irrefl]at this;cases this
   rw[n1,n2]
  ·rw[AG e,AG (λq=>e (hk.trans q))]at h1
   exact h1
def Gq (k:List UInt8)(x:AE):Rat:=DK k (x.shs.map λs=>(s.lot,Bv s.part))
def Dc (k:List UInt8):List AE->Rat
 | []=>0
 |x::l=>Gq k x*(x.mass:Rat)+Dc k l
def S9 (k:List UInt8)(x:AE):Bool:=x.shs.any λs=>decide (s.lot=k)
def Gg (k:List UInt8)(l:List AE):Bool:=l.any (S9 k)
theorem RT (k:List UInt8):∀a b:BQ,DK k (a++b)=DK k a+DK k b
 | [],b=>by rw[FS];show _=0+_;rw[Rat.zero_add]
 |t::a,b=>by
  show(if t.1=k then t.2+DK k (a++b)else DK k (a++b))=(if t.1=k then t.2+DK k a else DK k a)+DK k b;rw[RT k a b];split
  ·rw[Rat.add_assoc]
  ·rfl
theorem Zd (k:List UInt8)(a b:BQ):IE k (a++b)=(IE k a||IE k b):=List.any_append
theorem aT (k:List UInt8)(m:Rat):∀l:List As,DK k (l.map λs=>(s.lot,Bv s.part*m))=DK k (l.map λs=>(s.lot,Bv s.part))*m
 | []=>by show(0:Rat)=0*m;rw[Rat.zero_mul]
 |s::l=>by
  show(if s.lot=k then Bv s.part*m+DK k (l.map λs=>(s.lot,Bv s.part*m))else DK k (l.map λs=>(s.lot,Bv s.part*m)))=(if s.lot=k then Bv s.part+DK k (l.map λs=>(s.lot,Bv s.part))else DK k (l.map λs=>(s.lot,Bv s.part)))*m;rw[aT k m l];split
  ·rw[Rat.add_mul]
  ·rfl
theorem aU (k:List UInt8):∀l:List AE,DK k (Ke l)=Dc k l
 | []=>rfl
 |x::l=>by
  show DK k ((x.shs.map λs=>(s.lot,Bv s.part*(x.mass:Rat)))++Ke l)=_;rw[RT,aT,aU k l];rfl
theorem Ze (k:List UInt8):∀l:List AE,IE k (Ke l)=Gg k l
 | []=>rfl
 |x::l=>by
  show IE k ((x.shs.map λs=>(s.lot,Bv s.part*(x.mass:Rat)))++Ke l)=(S9 k x||Gg k l);rw[Zd,Ze k l]
  congr 1
  unfold IE S9;rw[List.any_map];rfl
theorem Ub (k:List UInt8)(l:List AE):Ct k (DC l)=if Gg k l=true then some (Dc k l)else none:=by
 rw[YX,RC List.Pairwise.nil,Ze,aU];split
 ·show some ((0:Rat)+_)=_
  rw[Rat.zero_add]
 ·rfl
theorem VP (k:List UInt8):∀a b:List AE,Dc k (a++b)=Dc k a+Dc k b
 | [],b=>by rw[FS];show _=0+_;rw[Rat.zero_add]
 |x::a,b=>by
  show Gq k x*(x.mass:Rat)+Dc k (a++b)=Gq k x*(x.mass:Rat)+Dc k a+Dc k b;rw[VP k a b,Rat.add_assoc]
theorem bo (k:List UInt8)(x:AE):∀n:Nat,Dc k (List.replicate n (x.w 1))=Gq k x*((n:Int):Rat)
 | 0=>by show(0:Rat)=Gq k x*((0:Int):Rat);rw[show((0:Int):Rat)=0 from rfl,Rat.mul_zero]
 |n+1=>by
  rw[List.replicate_succ];show Gq k x*((1:Int):Rat)+Dc k (List.replicate n (x.w 1))=_;rw[bo k x n,<-Rat.mul_add,<-Rat.intCast_add,show(1:Int)+(n:Int)=((n+1:Nat):Int) by omega]
theorem Si (k:List UInt8):∀ {l:List AE},(∀x∈l,0<=x.mass)->Dc k (BP l)=Dc k l
 | [],_=>rfl
 |x::l,h=>by
  have hx:=h x (B1 ..);rw[Hu,VP,bo,Si k λy hy=>h y (B9 _ hy),Int.toNat_of_nonneg hx];rfl
theorem VH (k:List UInt8){l:List AE}(h:∀x∈l,1<=x.mass):Gg k (BP l)=Gg k l:=by
 rw[Fs];unfold Gg;rw[List.any_eq_true,List.any_eq_true];constructor
 ·rintro⟨y,hy,e⟩
  obtain⟨z,hz,rfl,_⟩:=Pp y hy;exact⟨z,hz,e⟩
 ·rintro⟨y,hy,e⟩
  refine⟨y.w 1,?_,e⟩;unfold BP;exact List.mem_flatMap.2 ⟨y,hy,List.mem_replicate.2 ⟨by have:=h y hy;omega,rfl⟩⟩
theorem qt (k:List UInt8){a b:List AE}(h:a.Perm b):Dc k a=Dc k b:=by
 induction h with
 |nil=>rfl
 |cons x _ ih=>show _+_=_+_;rw[ih]
 |swap x y l=>
  show Gq k y*(y.mass:Rat)+(Gq k x*(x.mass:Rat)+Dc k l)=Gq k x*(x.mass:Rat)+(Gq k y*(y.mass:Rat)+Dc k l);rw[<-Rat.add_assoc,<-Rat.add_assoc,Rat.add_comm (Gq k y*(y.mass:Rat))]
 |trans _ _ i1 i2=>exact i1.trans i2
theorem na (k:List UInt8){a b:List AE}(h:a.Perm b):Gg k a=Gg k b:=by
 rw[Fs];unfold Gg;rw[List.any_eq_true,List.any_eq_true];exact⟨λ⟨y,hy,e⟩=>⟨y,h.mem_iff.1 hy,e⟩,λ⟨y,hy,e⟩=>⟨y,h.mem_iff.2 hy,e⟩⟩
theorem qc {c A B:List AE}(hc:∀x∈c,1<=x.mass)(hA:∀x∈A,1<=x.mass)(hB:∀x∈B,1<=x.mass)(h:(BP A++BP B).Perm (BP c)):Eo (DC A++DC B) []=DC c:=by
 have n0:∀ {l:List AE},(∀x∈l,1<=x.mass)->∀x∈l,0<=x.mass:=λh x hx=>by have:=h x hx;omega
 refine Zj (Z8 List.Pairwise.nil) (MV c) λk=>?_
 have e1:=O5 (k:=k) (MV A);have e2:=O5 (k:=k) (MV B);rw[Ub]at e1 e2;have ht:Dc k c=Dc k A+Dc k B:=by
  rw[<-Si k (n0 hc),<-qt k h,VP,Si k (n0 hA),Si k (n0 hB)]
 have hh:Gg k c=(Gg k A||Gg k B):=by
  rw[<-VH k hc,<-na k h,<-VH k hA,<-VH k hB];exact List.any_append
 have hz:∀ {l:List AE},Gg k l=false->Dc k l=0:=λ{l}=>by
  induction l with
  |nil=>intro _;rfl
  |cons x l ih=>
   intro hq;have hq':(S9 k x||Gg k l)=false:=hq;rw[Hj]at hq';show Gq k x*(x.mass:Rat)+Dc k l=0;have hw:Gq k x=0:=by
    unfold Gq
    have:∀L:List As,(L.any λs=>decide (s.lot=k))=false->DK k (L.map λs=>(s.lot,Bv s.part))=0:=λL=>by
     induction L with
     |nil=>intro _;rfl
     |cons s L ih2=>
      intro hs;rw[List.any_cons,Hj,Hh]at hs;show(if s.lot=k then _ else _)=_;rw[AG hs.1];exact ih2 hs.2
    exact this x.shs hq'.1
   rw[hw,ih hq'.2,Rat.zero_mul,Rat.zero_add]
 rw[RC List.Pairwise.nil,Zd,RT,e1.1,e1.2,e2.1,e2.2,Ub,ht,hh];cases ha:Gg k A<;>cases hb:Gg k B
 ·rfl
 ·rw[hz ha]
  show some ((0:Rat)+(0+Dc k B))=some (0+Dc k B);rw[Rat.zero_add]
 ·rw[hz hb]
  show some ((0:Rat)+(Dc k A+0))=some (Dc k A+0);rw[Rat.zero_add]
 ·show some ((0:Rat)+(Dc k A+Dc k B))=some (Dc k A+Dc k B)
  rw[Rat.zero_add]
def IF (bot:Nat->Bool)(n:Nat):Nat->Nat
 | 0=>0
 |j+1=>IF bot n j+if bot (n-j)then 1 else 0
theorem gO (bot:Nat->Bool)(n j:Nat):IF bot n (j+1)=IF bot n j+if bot (n-j)then 1 else 0:=rfl
theorem bC (bot:Nat->Bool)(n:Nat):∀j,IF bot n j<=j
 | 0=>An _
 |j+1=>by have:=bC bot n j;unfold IF;split<;>omega
theorem Zm {bot:Nat->Bool}{n:Nat}(hb:∀k,bot k=true):∀j,IF bot n j=j
 | 0=>rfl
 |j+1=>by rw[gO,Zm hb j,AI (hb _)]
theorem Zl {bot:Nat->Bool}{n c:Nat}(hc:0<c)(hb:∀k,bot k=decide (k%c=0)):∀j,j<=n->IF bot n j=n/c-(n-j)/c
 | 0,_=>by show 0=n/c-(n-0)/c;rw[Nat.sub_zero,Nat.sub_self]
 |j+1,h=>by
  rw[gO,Zl hc hb j (by omega),hb];have h1:(n-j)/c<=n/c:=Nat.div_le_div_right (by omega);have e:n-j=(n-(j+1))+1:=by omega
  have h2:=Nat.succ_div (a:=n-(j+1)) (b:=c);rw[show n-(j+1)+1=n-j by omega]at h2
  by_cases hd:c ∣ n-j
  ·rw[AI hd]at h2
   rw[AI (Ax (Nat.mod_eq_zero_of_dvd hd))];omega
  ·rw[AG hd]at h2
   rw[AG (λq=>hd (Nat.dvd_of_mod_eq_zero (DN q)))];omega
def Ln (x:Av)(k:Nat):Bool:=BI (sb x.flow) G5||decide (k%x.core.toNat=0)
def R6 (x:Av):Prop:=BI (sb x.flow) G5=true\/2<=x.core/\x.core<=999999999
abbrev aZ:Dr:=[(3,[0,1,2,3,4,5,6,7,8,9],[10,11])]
open Go.Proofs Go.RowKit
set_option maxRecDepth 20000
set_option maxHeartbeats 4000000
theorem xf {x:Av}{n m:Nat}(hm:m<=n)(hf:BI (sb x.flow) G5=false)(hc:2<=x.core):IF (Ln x) n m=n/x.core.toNat-(n-m)/x.core.toNat:=by
 refine Zl (by omega) (λk=>?_) m hm;unfold Ln;rw[hf,Bool.false_or]
theorem sn {x:Av}{n m:Nat}(hf:BI (sb x.flow) G5=true):IF (Ln x) n m=m:=by
 refine Zm (λk=>?_) m;unfold Ln;rw[hf,Bool.true_or]
def Qm (bk:Bool)(l:List AE):List AE:=if bk then(BP l).reverse else BP l
theorem yU (bk:Bool)(l:List AE):BP (Gh bk l)=Qm bk l:=by
 unfold Gh Qm;cases bk
 ·rfl
 ·exact WF l
theorem sL (x:Av)(n m:Nat)(hm:m<=n)(hn:n<=1000000000)(hf:R6 x):AL C0 32 [x.D,i64 (n:Int),i64 (m:Int)] (i64 ((IF (Ln x) n m:Nat):Int)):=by
 refine Ad.walk w1 iI rfl λF=>?_
 have ho:=@xf x n m hm;have ho':=@sn x n m;unfold R6 at hf;obtain⟨A,hA⟩:∃A,IF (Ln x) n m=A:=⟨_,rfl⟩
 rw[hA]at ho ho'⊢;unfold G5 at ho ho' hf;unfold Av.D;cases hq:BI (sb x.flow) ⟨#[109,97,115,115]⟩
 rotate_left
 ·rw[ho' hq]
  refine AH aZ (Ar hq kT kF) AB AB AB AB AB AB ?_;exact AM rfl AA.out
 obtain⟨h2,h3⟩:2<=x.core/\x.core<=999999999:=by
  rcases hf with h|h
  ·rw[hq]at h;cases h
  ·exact h
 have ho:=ho hq h2;obtain⟨c,hc⟩:∃c:Nat,x.core=(c:Int):=⟨x.core.toNat,by omega⟩
 rw[hc]at h2 h3 ho⊢;rw[HG]at ho;have q0:((c:Int)==0)=false:=B4.2 (by omega);have e2:IntKind.i64.wrap ((n:Int)-(m:Int))=((n-m:Nat):Int):=by rw[wI];omega
 have l1:n/c<=n:=GQ _ _;have l2:(n-m)/c<=n-m:=GQ _ _;have l3:(n-m)/c<=n/c:=Nat.div_le_div_right (by omega);have q1:((n:Int)).tdiv (c:Int)=((n/c:Nat):Int):=rfl;have q2:(((n-m:Nat):Int)).tdiv (c:Int)=(((n-m)/c:Nat):Int):=rfl;obtain⟨D1,hD1⟩:∃q,n/c=q:=⟨_,rfl⟩
 obtain⟨D2,hD2⟩:∃q,(n-m)/c=q:=⟨_,rfl⟩
 rw[hD1]at l1 l3 q1 ho;rw[hD2]at l2 l3 q2 ho;clear hD1 hD2;have q3:IntKind.i64.wrap ((D1:Nat):Int)=(D1:Int):=wI;have q4:IntKind.i64.wrap ((D2:Nat):Int)=(D2:Int):=wI;have q5:IntKind.i64.wrap ((D1:Int)-(D2:Int))=(A:Int):=by rw[wI];omega
 refine AH aZ (CP hq e2 q1 q2 q3 q4 (Ar q5 kT kF)) AB AB AB AB AB AB ?_;exact AM rfl AA.out
theorem j7 (b bk:Bool)(l:List AE)(m:Nat)(hl:l.length<=1000000)(hm:m<=1000000000)(hx:∀x∈l,0<=x.mass/\x.mass<=1000000000/\x.shs.length<=1000000):AL C0 38 [Aj b l,i64 (m:Int),Ap bk] (Aj false (BZ ((Qm bk l).take m))):=by
 refine Ad.walk w1 iN rfl λF=>?_
 have hxo:∀x∈Gh bk l,0<=x.mass/\x.mass<=1000000000/\x.shs.length<=1000000:=λx q=>hx x (by
  unfold Gh at q;cases bk
  ·exact q
  ·exact List.mem_reverse.1 q)
 have hol:(Gh bk l).length=l.length:=by
  unfold Gh;cases bk
  ·rfl
  ·exact List.length_reverse
 have ho:∀x∈l,∀m,AL C0 67 [x.D,i64 m] (x.w m).D:=λx q m=>Pk x m (hx x q).2.2
 have cA:=Ve b bk l (m:Int) hl ⟨by omega,by omega⟩ (λx q=>⟨(hx x q).1,(hx x q).2.1⟩) ho _ (Uu false (Ea (Gh bk l) (m:Int)) (by
  have:=VO (Gh bk l) (m:Int)
  omega) (WE hxo (by omega)))
 rw[SH λx q=>(WE hxo (by omega) x q).1,Ww (λx q=>(hxo x q).1) (by omega),yU,HG]at cA
 by_cases h0:m=0
 ·subst h0
  have k1:(((0:Nat):Int)==0)=true:=rfl;refine AH AW k1 AB AB AB AB AB AB ?_;rw[NC];exact⟨_,.nil 3,AA.out,rfl⟩
 ·have k1:((m:Int)==0)=false:=B4.2 (by omega)
  refine AH AW k1 cA AB AB AB AB AB ?_;exact AM rfl AA.out
abbrev sB:Dr:=[(1,[0,1,2,3,4,5,6,7],[8,9])]
abbrev cY:Dr:=[(4,[0,1,2,3],[4,5,6])]
open Go.Proofs Go.RowKit
set_option maxRecDepth 20000
set_option maxHeartbeats 4000000
theorem ua (a:Int)(b:Bool)(l:List Int)(hl:l.length<=1000000):AL C0 57 [i64 a,.sl b 1 (Bi l)] (i64 (l.foldl min a)):=by
 refine Ad.walk w1 iX rfl λF=>?_
 have el:(((Bi l).length:Nat):Int)=(l.length:Int):=by rw[Ae]
 refine AH AW el AB AB AB AB AB AB ?_;refine AC.loop (α:=Nat×Nat) (λp=>⟨[(0,i64 ((l.take p.1).foldl min a)),(7,.sl b 1 (Bi l)),(8,i64 (l.length:Int)),(9,i64 (p.1:Int))],[],p.2⟩) (λp=>l.length-p.1) (λq=>q.1<=l.length) (0,_) (BT _) AK ?_;rintro⟨i,n⟩ F hi;dsimp only at hi⊢;rcases BC i l.length with h2|h2
 rotate_left
 ·have e1:=Cc h2
  have:i=l.length:=by omega
  subst this;rw[Cz];refine AH AW e1 AB AB AB AB AB AB ?_;exact AM rfl AA.out
 have e1:=CZ h2;have wi:=Ce (i:=i) (by omega);obtain⟨x,hx⟩:=CJ h2;have hm:(Bi l)[i]?=some (i64 x):=by rw[Az,hx];rfl
 have ht:(l.take (i+1)).foldl min a=min ((l.take i).foldl min a) x:=by rw[Du,hx,List.foldl_append];rfl
 obtain⟨R,hR⟩:∃R,(l.take i).foldl min a=R:=⟨_,rfl⟩
 rw[hR]at ht⊢;refine AH AW (Ar e1 wi kN) hm AB AB AB AB AB ?_;refine⟨(i+1,n+1000),h2,by dsimp only;omega,?_⟩;dsimp only;rw[ht];exact AK
def H9 (ls:List Int)(i:Nat)(f:Int->Int):List Int:=if 1<=i then[f (ls.getD (i-1) 0)]else[]
def G8 (ls:List Int)(i:Nat)(f:Int->Int):List Int:=H9 ls i f++if i+1<ls.length then[f (ls.getD (i+1) 0)]else[]
def Ju (ls:List Int)(i:Nat)(f:Int->Int)(j:Nat):List Int:=if j=0 then[]else if j=1 then H9 ls i f else G8 ls i f
theorem Ug (ls:List Int)(i:Nat)(f:Int->Int):(H9 ls i f).length<=1:=by unfold H9;split<;>simp
theorem Ni {l:List Int}{i:Nat}(h:i<l.length):l[i]?=some (l.getD i 0):=by rw[ED,Bx h];rfl
theorem r9 (b:Bool)(ls:List Int)(i:Nat)(f:Nat)(c1 c2 c3:D)[p1:AA c1][p2:AA c2][p3:AA c3](φ:Int->Int)(hl:ls.length<=1000000)(hi:i<ls.length)(hfe:f=75\/f=59)
  (hf:∀x∈ls,AL C0 f [i64 x,c1,c2,c3] (i64 (φ x))):AL C0 58 [.sl b 1 (Bi ls),i64 (i:Int),.clo (.func f) [] [c1,c2,c3]] (.sl false 1 (Bi (G8 ls i φ))):=by
 refine Ad.walk w1 iY rfl λF=>?_
 have el:(((Bi ls).length:Nat):Int)=(ls.length:Int):=by rw[Ae]
 have wa:IntKind.i64.wrap ((i:Int)-1)=(i:Int)-1:=wI;have wb:IntKind.i64.wrap ((i:Int)+1)=(i:Int)+1:=wI;have wc:IntKind.i64.wrap ((ls.length:Int)-1)=(ls.length:Int)-1:=wI;have cW:=λk=>Nf k 0 ((ls.length:Int)-1)
 refine AH AW (Ab wa wb) AB AB AB AB AB AB ?_;refine AC.ghost 608 3 1 [(0,.sl b 1 (Bi ls)),(1,i64 (i:Int)),(2,.clo (.func f) [] [c1,c2,c3]),(7,.osl 608 _ 1 0 0),(14,.sl true 1 [i64 ((i:Int)-1),i64 ((i:Int)+1)]),(15,i64 2),(16,i64 ((0:Nat):Int))] ⟨.inl rfl,.inl rfl,.inl rfl,.inr ⟨rfl,rfl⟩,.inl rfl,.inl rfl,.inl rfl,trivial⟩ ?_;refine AC.loop (α:=Nat×Nat×Nat) (λp=>⟨[(0,.sl b 1 (Bi ls)),(1,i64 (i:Int)),(2,.clo (.func f) [] [c1,c2,c3]),(7,.osl 608 p.2.1 1 0 (Ju ls i φ p.1).length),(14,.sl true 1 [i64 ((i:Int)-1),i64 ((i:Int)+1)]),(15,i64 2),(16,i64 (p.1:Int))],[⟨608,p.2.1,3,1,Bi (Ju ls i φ p.1)⟩],p.2.2⟩) (λp=>2-p.1) (λq=>q.1<=2) (0,_,_) (BT _) AK ?_;rintro⟨j,g,n⟩ F hj;dsimp only at hj⊢;rcases BC j 2 with h2|h2
 rotate_left
 ·have:j=2:=by omega
  subst this;have e1:decide (((2:Nat):Int)<2)=false:=rfl;have hf:=GZ (H:=[⟨608,g,3,1,Bi (Ju ls i φ 2)⟩]) (Hf:=[]) (k:=608) (g:=g) (T:=3) (sz:=1) (l:=Bi (Ju ls i φ 2)) rfl;rw[Ae]at hf;refine AH AW e1 AB AB AB AB AB AB ?_;exact⟨_,hf,AA.out,rfl⟩
 obtain rfl|rfl:j=0\/j=1:=by omega
 ·have e1:decide (((0:Nat):Int)<2)=true:=rfl
  have wj:IntKind.i64.wrap (((0:Nat):Int)+1)=((1:Nat):Int):=rfl;have hm:[i64 ((i:Int)-1),i64 ((i:Int)+1)][0]?=some (i64 ((i:Int)-1)):=rfl;have cw:=cW ((i:Int)-1);obtain⟨P,hP⟩:∃P,P=([]:List Int):=⟨_,rfl⟩
  rw[show Ju ls i φ 0=P from hP.symm]
  by_cases h1:1<=i
  ·have hb:DF ((i:Int)-1) 0 ((ls.length:Int)-1)=true:=by
    unfold DF;rw[BU,decide_eq_true_iff,decide_eq_true_iff];omega
   rw[hb]at cw;have hv:=Ni (l:=ls) (i:=i-1) (by omega);have hd:(Bi ls)[((i:Int)-1).toNat]?=some (i64 (ls.getD (i-1) 0)):=by
    rw[show((i:Int)-1).toNat=i-1 by omega,Az,hv];rfl
   have cf:=hf _ (Au hv);have hT:H9 ls i φ=P++[φ (ls.getD (i-1) 0)]:=by rw[hP];unfold H9;rw[AI h1];rfl
   have hz0:0<=((i:Int)-1):=by omega
   have hlen:=Ug ls i φ;have hPl:P.length<=1:=by rw[hP];exact BT _
   have hPD:(Bi P).length=P.length:=Ae ..;obtain⟨PD,hPD2⟩:∃Q,Bi P=Q:=⟨_,rfl⟩
   rw[hPD2]at hPD⊢;have htk:PD.take P.length=PD:=by rw[<-hPD];exact Cz
   have hTD:Bi (H9 ls i φ)=PD++[i64 (φ (ls.getD (i-1) 0))]:=by rw[hT];unfold Bi;rw[DA,<-hPD2];rfl
   rcases hfe with rfl|rfl
   all_goals
    refine AH AW (CN e1 wj wc el htk) hm cw hd cf AB AB ?_;refine⟨(0+1,?g,n+1000),by dsimp only;omega,by dsimp only;omega,?_⟩
    rotate_left
    ·dsimp only
     rw[show Ju ls i φ (0+1)=H9 ls i φ from rfl,hTD,hT,Be];exact AK
  ·have hb:DF ((i:Int)-1) 0 ((ls.length:Int)-1)=false:=by
    cases hq:DF ((i:Int)-1) 0 ((ls.length:Int)-1)
    ·rfl
    ·unfold DF at hq
     rw[BU,decide_eq_true_iff,decide_eq_true_iff]at hq;omega
   rw[hb]at cw;have hT:H9 ls i φ=P:=by rw[hP];unfold H9;rw[AG h1]
   refine AH AW (Bb e1 wj wc el) hm cw AB AB AB AB ?_;refine⟨(0+1,g,n+1000),by dsimp only;omega,by dsimp only;omega,?_⟩;dsimp only;rw[show Ju ls i φ (0+1)=H9 ls i φ from rfl,hT];exact AK
 ·have e1:decide (((1:Nat):Int)<2)=true:=rfl
  have wj:IntKind.i64.wrap (((1:Nat):Int)+1)=((2:Nat):Int):=rfl;have hm:[i64 ((i:Int)-1),i64 ((i:Int)+1)][1]?=some (i64 ((i:Int)+1)):=rfl;have cw:=cW ((i:Int)+1);obtain⟨P,hP⟩:∃P,P=H9 ls i φ:=⟨_,rfl⟩
  rw[show Ju ls i φ 1=P from hP.symm]
  by_cases h1:i+1<ls.length
  ·have hb:DF ((i:Int)+1) 0 ((ls.length:Int)-1)=true:=by
    unfold DF;rw[BU,decide_eq_true_iff,decide_eq_true_iff];omega
   rw[hb]at cw;have hv:=Ni (l:=ls) (i:=i+1) (by omega);have hd:(Bi ls)[((i:Int)+1).toNat]?=some (i64 (ls.getD (i+1) 0)):=by
    rw[show((i:Int)+1).toNat=i+1 by omega,Az,hv];rfl
   have cf:=hf _ (Au hv);have hT:G8 ls i φ=P++[φ (ls.getD (i+1) 0)]:=by rw[hP];unfold G8;rw[AI h1]
   have hz0:0<=((i:Int)+1):=by omega
   have hlen:=Ug ls i φ;have hPl:P.length<=1:=by rw[hP];exact hlen
   have hPD:(Bi P).length=P.length:=Ae ..;obtain⟨PD,hPD2⟩:∃Q,Bi P=Q:=⟨_,rfl⟩
   rw[hPD2]at hPD⊢;have htk:PD.take P.length=PD:=by rw[<-hPD];exact Cz
   have hTD:Bi (G8 ls i φ)=PD++[i64 (φ (ls.getD (i+1) 0))]:=by rw[hT];unfold Bi;rw[DA,<-hPD2];rfl
   rcases hfe with rfl|rfl
   all_goals
    refine AH AW (CN e1 wj wc el htk) hm cw hd cf AB AB ?_;refine⟨(1+1,?g,n+1000),by dsimp only;omega,by dsimp only;omega,?_⟩
    rotate_left
    ·dsimp only
     rw[show Ju ls i φ (1+1)=G8 ls i φ from rfl,hTD,hT,Be];exact AK
  ·have hb:DF ((i:Int)+1) 0 ((ls.length:Int)-1)=false:=by
    cases hq:DF ((i:Int)+1) 0 ((ls.length:Int)-1)
    ·rfl
    ·unfold DF at hq
     rw[BU,decide_eq_true_iff,decide_eq_true_iff]at hq;omega
   rw[hb]at cw;have hT:G8 ls i φ=P:=by rw[hP];unfold G8;rw[AG h1,Dh]
   refine AH AW (Bb e1 wj wc el) hm cw AB AB AB AB ?_;refine⟨(1+1,g,n+1000),by dsimp only;omega,by dsimp only;omega,?_⟩;dsimp only;rw[show Ju ls i φ (1+1)=G8 ls i φ from rfl,hT];exact AK
theorem zm (x:Av)(b:Bool)(ls:List Int)(i:Nat)(v n:Int)(hv:ls[i]?=some v)(h1:0<=v/\v<=1000000000)(h2:0<=n/\n<=1000000000)(h3:0<=x.side/\x.side<=1000000000):
  AL C0 75 [i64 n,.pptr (.sl b 1 (Bi ls)),.pptr (i64 (i:Int)),.pptr x.D] (i64 (v-n+x.side)):=by
 refine Ad.walk w1 jD rfl λF=>?_
 have hm:(Bi ls)[i]?=some (i64 v):=by rw[Az,hv];rfl
 have u1:IntKind.i64.wrap (v-n)=v-n:=wI;have u2:IntKind.i64.wrap (v-n+x.side)=v-n+x.side:=wI;unfold Av.D;refine AH sB (Ar u1 u2 kN) hm AB AB AB AB AB ?_;exact AM rfl AA.out
theorem Nw {x:Av}(h:C9 x=0):Bq x=x.cells.map Ai/\∀v∈Bq x,0<=v/\v<=999999999/\v<=x.room:=by
 have hc:=IU h;have e:Bq x=x.cells.map Ai:=NB λc hq=>KK (GY (hc c hq)).2.2.1
 refine⟨e,λv hv=>?_⟩;rw[e]at hv;obtain⟨c,hq,rfl⟩:=By.1 hv;obtain⟨-,-,-,a,b,d⟩:=GY (hc c hq);exact⟨a,b,d⟩
def Hz (side:Int)(ls:List Int)(i:Nat):Int:=(G8 ls i λn=>ls.getD i 0-n+side).foldl min (ls.getD i 0)
def Wq (x:Av)(i:Int):Int:=if HZ x [i]≠0 then 0 else Hz x.side (Bq x) i.toNat
theorem pg (ls:List Int)(i:Nat)(f:Int->Int):(G8 ls i f).length<=2:=by
 unfold G8
 have:=Ug ls i f
 rw[Be];split<;>simp<;>omega
theorem yz (x:Av)(b:Bool)(ls:List Int)(i:Nat)(hi:i<ls.length)(hl:ls.length<=1000000)(h1:∀v∈ls,0<=v/\v<=1000000000)(h3:0<=x.side/\x.side<=1000000000):AL C0 41 [x.D,.sl b 1 (Bi ls),i64 (i:Int)] (i64 (Hz x.side ls i)):=by
 have hv:=Ni hi;have cB:=r9 b ls i 75 (.pptr (.sl b 1 (Bi ls))) (.pptr (i64 (i:Int))) (.pptr x.D) (λn=>ls.getD i 0-n+x.side) hl hi (.inl rfl) λn hn=>zm x b ls i _ n hv (h1 _ (Au hv)) (h1 n hn) h3
 have cL:=ua (ls.getD i 0) false (G8 ls i λn=>ls.getD i 0-n+x.side) (by have:=pg ls i λn=>ls.getD i 0-n+x.side;omega);exact SG x.D ⟨_,_,_,_,_,rfl⟩ b (Bi ls) i (ls.getD i 0) (by rw[Az,hv];rfl) _ _ cB cL
theorem d9e (x:Av)(i:Int)(hl:x.cells.length<=1000000)(hc:∀c∈x.cells,c.length<=1000000/\∀y∈c,y.few):AL C0 7 [x.D,i64 i] (.tup [i64 (Wq x i),i64 (HZ x [i])]):=by
 refine Ad.walk w1 ji rfl λF=>?_
 have cC:=j6 x hl hc [i] (by simp);have cLv:=VL x hl λc h=>by have:=(hc c h).1;omega
 have hM:Wq x i=if HZ x [i]≠0 then 0 else Hz x.side (Bq x) i.toNat:=rfl
 have hk:=@dZ x i;have cM:=yz x false (Bq x) i.toNat;have hla:=@Nw x;have hbs:=@RW x;have hll:(Bq x).length=x.cells.length:=Ae ..;have hx:∃a b c d e,x.D=.agg [a,b,c,d,e]:=⟨_,_,_,_,_,rfl⟩
 have px:AA x.D:=AJ;have px2:AX x.D:=AJ;obtain⟨a1,a2,a3,a4,a5,hx⟩:=hx;rw[hx]at cC cLv cM px px2⊢;obtain⟨E,hE⟩:∃E,HZ x [i]=E:=⟨_,rfl⟩
 rw[hE]at cC hM hk⊢
 by_cases h0:E=0
 rotate_left
 ·have k2:(E != 0)=true:=I7 h0
  rw[hM,AI h0];refine AH cY k2 cC AB AB AB AB AB ?_;exact AM rfl AA.out
 have k2:(E != 0)=false:=by rw[h0];rfl
 obtain⟨g1,g2,g3⟩:=hk h0;have cM:=cM (by omega) (by omega) (λv hv=>by obtain⟨a,b,_⟩:=(hla g1).2 v hv;omega) (by obtain⟨a,b,_⟩:=hbs g1;omega);rw[show((i.toNat:Nat):Int)=i by omega]at cM;rw[hM,AG (λh=>h h0)];obtain⟨M,hMM⟩:∃M,Hz x.side (Bq x) i.toNat=M:=⟨_,rfl⟩
 rw[hMM]at cM⊢;subst h0;refine AH cY k2 cC cLv cM AB AB AB ?_;exact AM rfl AA.out
theorem bz {side:Int}{l:List Int}(hs:0<=side/\side<=1000000000)(hl:∀v∈l,0<=v/\v<=1000000000):EF side l=false↔∀k,k+1<l.length->l.getD (k+1) 0-l.getD k 0<=side/\l.getD k 0-l.getD (k+1) 0<=side:=by
 have hv:∀k,k<l.length->0<=l.getD k 0/\l.getD k 0<=1000000000:=λk hk=>hl _ (Au (Ni hk))
 have hw:∀k,k+1<l.length->(DF (IntKind.i64.wrap (l.getD (k+1) 0-l.getD k 0)) (IntKind.i64.wrap (0-side)) side=true↔l.getD (k+1) 0-l.getD k 0<=side/\l.getD k 0-l.getD (k+1) 0<=side):=λk hk=>by
  have h1:=hv k (by omega);have h2:=hv (k+1) hk;rw[wI,wI];unfold DF;rw[BU,decide_eq_true_iff,decide_eq_true_iff];omega
 constructor
 ·intro h k hk
  apply(hw k hk).1;cases hb:DF (IntKind.i64.wrap (l.getD (k+1) 0-l.getD k 0)) (IntKind.i64.wrap (0-side)) side
  ·rw[WN hk hb]at h;cases h
  ·rfl
 ·intro h
  exact WO λk hk=>(hw k hk).2 (h k hk)
theorem VJ {m:Int}:∀ {L:List Int} {a:Int},m<=L.foldl min a↔m<=a/\∀v∈L,m<=v
 | [],a=>by simp
 |x::L,a=>by
  rw[List.foldl_cons,VJ (L:=L)];constructor
  ·rintro⟨h1,h2⟩
   exact⟨by omega,λv hv=>(A9.1 hv).elim (λe=>by omega) (h2 v)⟩
  ·rintro⟨h1,h2⟩
   have:=h2 x (B1 ..)
   exact⟨by omega,λv hv=>h2 v (B9 _ hv)⟩
theorem rc {ls:List Int}{i:Nat}{f:Int->Int}{m:Int}:(∀v∈G8 ls i f,m<=v)↔(1<=i->m<=f (ls.getD (i-1) 0))/\(i+1<ls.length->m<=f (ls.getD (i+1) 0)):=by
 unfold G8 H9;constructor
 ·intro h
  refine⟨λh1=>h _ (HO _ (by rw[AI h1];exact Dz.2 rfl)),λh1=>h _ (List.mem_append_right _ (by rw[AI h1];exact Dz.2 rfl))⟩
 ·rintro⟨h1,h2⟩ v hv
  rcases Bn.1 hv with hv|hv
  ·by_cases hi:1<=i
   ·rw[AI hi]at hv
    obtain rfl:=Dz.1 hv;exact h1 hi
   ·rw[AG hi]at hv;cases hv
  ·by_cases hi:i+1<ls.length
   ·rw[AI hi]at hv
    obtain rfl:=Dz.1 hv;exact h2 hi
   ·rw[AG hi]at hv;cases hv
theorem NU {l:List Int}{i k:Nat}{v:Int}(hi:i<l.length):(l.set i v).getD k 0=if k=i then v else l.getD k 0:=by
 rw[ED,ED,List.getElem?_set]
 by_cases h:k=i
 ·subst h;rw[AI rfl,AI hi,AI rfl];rfl
 ·rw[AG (λq=>h q.symm),AG h]
theorem Vb {side:Int}{ls:List Int}{i:Nat}{m:Int}(hs:0<=side/\side<=1000000000)(hl:∀v∈ls,0<=v/\v<=1000000000)(hi:i<ls.length)(h0:EF side ls=false)(hm:0<=m/\m<=ls.getD i 0):
  EF side (ls.set i (ls.getD i 0-m))=false↔m<=Hz side ls i:=by
 have hv:=hl _ (Au (Ni hi));have hl2:∀v∈ls.set i (ls.getD i 0-m),0<=v/\v<=1000000000:=λv hq=>by
  rcases Qd hq with hq|hq
  ·exact hl v hq
  ·omega
 have h1:=(bz hs hl).1 h0;rw[bz hs hl2,Db];unfold Hz;rw[VJ,rc];constructor
 ·intro h
  refine⟨hm.2,λhi1=>?_,λhi1=>?_⟩
  ·have:=h (i-1) (by omega)
   rw[NU hi,NU hi,show i-1+1=i by omega,AI rfl,CM]at this;omega
  ·have:=h i hi1
   rw[NU hi,NU hi,AI rfl,CM]at this;omega
 ·rintro⟨g1,g2,g3⟩ k hk
  have h2:=h1 k hk;rw[NU hi,NU hi]
  by_cases c1:k+1=i
  ·rw[AI c1,CM]
   have:=g2 (by omega)
   rw[show i-1=k by omega]at this;rw[c1]at h2;omega
  ·rw[AG c1]
   by_cases c2:k=i
   ·rw[AI c2]
    subst c2
    have:=g3 hk
    omega
   ·rw[AG c2];exact h2
theorem b6 (side:Int)(ls:List Int)(i:Nat):Hz side ls i<=ls.getD i 0:=(VJ.1 (Int.le_refl _)).1
theorem sx {side:Int}{ls:List Int}{i:Nat}(hs:0<=side/\side<=1000000000)(hl:∀v∈ls,0<=v/\v<=1000000000)(hi:i<ls.length)(h0:EF side ls=false):0<=Hz side ls i:=by
 have hv:=hl _ (Au (Ni hi));rw[<-Vb hs hl hi h0 ⟨Int.le_refl _,hv.1⟩,Int.sub_zero]
 have:ls.set i (ls.getD i 0)=ls:=by
  rw[ED,Bx hi];exact List.set_getElem_self _
 rw[this];exact h0
def FA (x:Av)(c:List AE)(m:Nat):Nat:=IF (Ln x) (BP c).length m
def Ef (x:Av)(c:List AE)(m:Nat):List AE:=((BP c).drop (FA x c m)).take ((BP c).length-m)
def GN (x:Av)(c:List AE)(m:Nat):List AE:=(BP c).reverse.take (m-FA x c m)++(BP c).take (FA x c m)
theorem Rw (x:Av)(c:List AE)(m:Nat):FA x c m<=m:=bC _ _ _
theorem MX {x:Av}{c:List AE}{m:Nat}:∀y∈Ef x c m,y∈BP c:=λy hy=>Kv (E3 hy)
theorem NS {x:Av}{c:List AE}{m:Nat}:∀y∈GN x c m,y∈BP c:=λy hy=>by
 rcases Bn.1 hy with h|h
 ·exact List.mem_reverse.1 (E3 h)
 ·exact E3 h
theorem Uy {x:Av}{c:List AE}{m:Nat}(h:m<=(BP c).length):(Ef x c m).length=(BP c).length-m:=by
 have:=Rw x c m
 unfold Ef;rw[Bd,D3];omega
theorem qR {x:Av}{c:List AE}{m:Nat}(h:m<=(BP c).length):(GN x c m).length=m:=by
 have:=Rw x c m
 unfold GN;rw[Be,Bd,Bd,List.length_reverse];omega
def GU (l:List AE)(y:AE):Prop:=∃z∈l,y.grain=z.grain/\y.shs=z.shs
theorem LH {l:List AE}:∀y∈BZ l,GU l y:=by
 have:∀(l R A:List AE),(∀y∈R,GU A y)->∀y∈l.foldl Cn R,GU (A++l) y:=λl=>by
  induction l with
  |nil=>intro R A h y hy;rw[Dh];exact h y hy
  |cons x l ih=>
   intro R A h y hy;rw[List.foldl_cons]at hy
   have:=ih (Cn R x) (A++[x]) (λz hz=>by
    unfold Cn at hz;split at hz
    ·rename_i w hw
     split at hz
     ·rcases Bn.1 hz with hz|hz
      ·obtain⟨q,hq,e⟩:=h z ((List.dropLast_sublist R).subset hz)
       exact⟨q,HO _ hq,e⟩
      ·obtain rfl:=Dz.1 hz
       obtain⟨q,hq,e⟩:=h w (List.mem_of_getLast? hw);exact⟨q,HO _ hq,e⟩
     ·rcases Bn.1 hz with hz|hz
      ·obtain⟨q,hq,e⟩:=h z hz
       exact⟨q,HO _ hq,e⟩
      ·obtain rfl:=Dz.1 hz
       exact⟨z,List.mem_append_right _ (Dz.2 rfl),rfl,rfl⟩
    ·obtain rfl:=Dz.1 hz
     exact⟨z,List.mem_append_right _ (Dz.2 rfl),rfl,rfl⟩) y hy
   rw[Dt]at this;exact this
 intro y hy
 have:=this l [] [] (λy hy=>by cases hy) y hy
 rwa [FS]at this
theorem Pd {l:List AE}:∀y∈BP l,GU l y:=λy hy=>by
 obtain⟨z,hz,rfl,_⟩:=Pp y hy;exact⟨z,hz,rfl,rfl⟩
theorem GU.trans {l L:List AE}{y:AE}(h:GU L y)(hL:∀z∈L,GU l z):GU l y:=by
 obtain⟨z,hz,e1,e2⟩:=h;obtain⟨q,hq,e3,e4⟩:=hL z hz;exact⟨q,hq,e1.trans e3,e2.trans e4⟩
theorem LQ {l:List AE}(h:∀x∈l,1<=x.mass):∀y∈BZ l,1<=y.mass:=by
 have:∀(l R:List AE),(∀x∈l,1<=x.mass)->(∀y∈R,1<=y.mass)->∀y∈l.foldl Cn R,1<=y.mass:=λl=>by
  induction l with
  |nil=>intro R _ h;exact h
  |cons x l ih=>
   intro R hl hR;rw[List.foldl_cons];refine ih _ (λy hy=>hl y (B9 _ hy)) λz hz=>?_
   have hx:=hl x (B1 ..);unfold Cn at hz;split at hz
   ·rename_i w hw
    split at hz
    ·rcases Bn.1 hz with hz|hz
     ·exact hR z ((List.dropLast_sublist R).subset hz)
     ·obtain rfl:=Dz.1 hz
      have:=hR w (List.mem_of_getLast? hw)
      show 1<=w.mass+x.mass;omega
    ·rcases Bn.1 hz with hz|hz
     ·exact hR z hz
     ·obtain rfl:=Dz.1 hz;exact hx
   ·obtain rfl:=Dz.1 hz;exact hx
 exact this l [] h λy hy=>by cases hy
theorem YC {l:List AE}(h:∀x∈l,0<=x.mass){y:AE}(hy:y∈l):y.mass<=Ai l:=by
 obtain⟨A,B,rfl⟩:=EW hy;rw[PO,show Ai (y::B)=y.mass+Ai B from rfl];have p1:=Md (l:=A) λz hz=>h z (HO _ hz)
 have p2:=Md (l:=B) λz hz=>h z (List.mem_append_right _ (B9 _ hz))
 omega
theorem lg {y z:AE}(h:Cm z=0)(e1:y.grain=z.grain)(e2:y.shs=z.shs)(hm:1<=y.mass/\y.mass<=999999999):Cm y=0:=by
 unfold Cm at h⊢;rw[e1,e2];split at h
 ·cases h
 ·split at h
  ·cases h
  ·rw[AG (by assumption),CM];exact h
theorem aD {l L:List AE}(h:Bz l=0)(hk:∀y∈L,GU l y)(hn:L.length<=64)(hm:∀y∈L,1<=y.mass)(hs:Ai L<=999999999):Bz L=0:=by
 obtain⟨h1,h2,h3⟩:=JD h;have h0:∀y∈L,0<=y.mass:=λy hy=>by have:=hm y hy;omega
 unfold Bz;rw[CM,MK (λj hj=>?_),AG (by decide),CM];have hj2:CX L j∈L:=by
  unfold CX;rw[ED,Bx hj];exact List.getElem_mem hj
 obtain⟨z,hz,e1,e2⟩:=hk _ hj2
 have:=YC h0 hj2
 exact lg (h2 z hz) e1 e2 ⟨hm _ hj2,by omega⟩
theorem mC {l:List AE}(h:Ca l=true):∀x∈l,∀y∈l,x.grain=y.grain:=λx hx y hy=>by
 unfold Ca at h;rw[CY]at h;have h1:=h x hx;have h2:=h y hy;rw[LI,decide_eq_true_iff]at h1 h2;rw[h1,h2]
theorem oS {l:List AE}(h:∀x∈l,∀y∈l,x.grain=y.grain):Ca l=true:=by
 unfold Ca;rw[CY];intro x hx;rw[LI,decide_eq_true_iff];refine h x hx _ ?_;unfold CX;cases l with
 |nil=>cases hx
 |cons a l=>exact B1 ..
theorem qN {l L:List AE}(h:Ca l=true)(hk:∀y∈L,GU l y):Ca L=true:=oS λx hx y hy=>by
 obtain⟨a,ha,e1,_⟩:=hk x hx;obtain⟨b,hb,e2,_⟩:=hk y hy;rw[e1,e2];exact mC h a ha b hb
theorem ZW {x:Av}{c L:List AE}(h:DW x c=0)(hk:∀y∈L,GU c y)(hn:L.length<=64)(hm:∀y∈L,1<=y.mass)(hs:Ai L<=Ai c):DW x L=0:=by
 obtain⟨h1,h2,h3,h4,h5,h6⟩:=GY h;exact ZX (aD h1 hk hn hm (by omega)) (qN h2 hk) (by omega)
theorem nK {x y:Av}(hr:y.room=x.room)(c:List AE):DW y c=DW x c:=by unfold DW;rw[hr]
theorem ZY {x:Av}:∀ {l:List (List AE)},(∀c∈l,DW x c=0)->Ew x l=0
 | [],_=>rfl
 |c::l,h=>by
  show(if DW x c≠0 then DW x c else Ew x l)=0;rw[AG (λq=>q (h c (B1 ..)))];exact ZY λd hd=>h d (B9 _ hd)
theorem yE {x y:Av}(h1:y.flow=x.flow)(h2:y.core=x.core)(h3:y.room=x.room)(h4:y.side=x.side)(h5:y.cells.length=x.cells.length):Gp y=Gp x:=by
 unfold Gp M2 Lp Sk;rw[h1,h2,h3,h4,h5]
theorem Ph {x:Av}(h:C9 x=0):Gp x=0/\EF x.side (Bq x)=false:=by
 unfold C9 at h
 by_cases h1:Gp x=0
 ·rw[AG (λq=>q h1)]at h
  by_cases h2:Ew x x.cells=0
  ·rw[AG (λq=>q h2)]at h
   refine⟨h1,?_⟩;cases hb:EF x.side (Bq x)
   ·rfl
   ·rw[hb]at h;cases h
  ·rw[AI h2]at h;exact Ak h h2
 ·rw[AI h1]at h;exact Ak h h1
theorem u7 {x y:Av}(h:C9 x=0)(h1:y.flow=x.flow)(h2:y.core=x.core)(h3:y.room=x.room)(h4:y.side=x.side)(h5:y.cells.length=x.cells.length)(hc:∀c∈y.cells,DW x c=0)(hs:EF x.side (Bq y)=false):C9 y=0:=by
 unfold C9;rw[yE h1 h2 h3 h4 h5,(Ph h).1,AG (λq=>q rfl),ZY (λc hq=>(nK h3 c).trans (hc c hq)),AG (λq=>q rfl),h4,hs];rfl
theorem rP {x:Av}(h:C9 x=0):R6 x:=by
 have h1:=(Ph h).1;rw[Vz]at h1;split at h1
 ·cases h1
 rename_i hf;split at h1
 ·cases h1
 rename_i hr;unfold Lw at hr;unfold R6;cases hm:BI (sb x.flow) G5
 ·rw[hm]at hf hr
  cases hu:BI (sb x.flow) Ji
  ·rw[hu]at hf;exact Ak rfl hf
  ·rw[hu]at hr
   simp only[II,HI,Bool.false_or,Kx,HH,not_or]at hr;exact .inr (by omega)
 ·exact .inl rfl
theorem bu {x:Av}{c:List AE}{m:Nat}(hc:∀y∈c,1<=y.mass)(hm:m<=(BP c).length):(∀y∈BZ (Ef x c m),GU c y)/\(∀y∈BZ (Ef x c m),1<=y.mass)/\Ai (BZ (Ef x c m))=Ai c-m:=by
 have hu:∀y∈Ef x c m,1<=y.mass:=λy hy=>by
  obtain⟨z,hz,rfl,_⟩:=Pp y (MX y hy);exact Int.le_refl _
 refine⟨λy hy=>(LH y hy).trans λz hz=>Pd z (MX z hz),LQ hu,?_⟩;have h0:∀y∈c,0<=y.mass:=λy hy=>by have:=hc y hy;omega
 rw[NW,<-N5 h0];have h1:Ai (Ef x c m)=((Ef x c m).length:Int):=by
  have:∀L:List AE,(∀y∈L,y.mass=1)->Ai L=(L.length:Int):=λL=>by
   induction L with
   |nil=>intro _;rfl
   |cons a L ih=>
    intro h;rw[show Ai (a::L)=a.mass+Ai L from rfl,h a (B1 ..),ih λy hy=>h y (B9 _ hy),Br];omega
  exact this _ λy hy=>by
   obtain⟨z,hz,rfl,_⟩:=Pp y (MX y hy);rfl
 rw[h1,Uy hm];omega
def HW (x:Av)(i m:Int):Int:=E7 [HZ x [i],if decide (m<0)then 3 else 0]
def CT (x:Av)(i m:Int):Av:=JJ x i.toNat (BZ (Ef x (CC x i) m.toNat))
def Dp (x:Av)(i m:Int):List AE:=BZ (GN x (CC x i) m.toNat)
def Jq (x:Av)(i m:Int):Int:=if EF x.side (Bq (CT x i m))then 17 else if 64<(Dp x i m).length then 5 else 0
def EM (x:Av)(i m:Int):Int:=if HW x i m≠0 then HW x i m else if Ai (CC x i)<m then 13 else Jq x i m
def IA (x:Av)(i m:Int):Av:=if EM x i m≠0 then P7 else CT x i m
def Lh (x:Av)(i m:Int):List AE:=if EM x i m≠0 then[]else Dp x i m
theorem b9 {P Q:List AE}(hP:∀y∈P,1<=y.mass)(hQ:∀y∈Q,1<=y.mass):BZ (BZ P++BZ Q)=BZ (P++Q):=by
 have h0:∀L:List AE,(∀y∈L,1<=y.mass)->∀y∈L,0<=y.mass:=λL h y hy=>by have:=h y hy;omega
 refine xr (λy hy=>?_) (λy hy=>?_) ?_
 ·rcases Bn.1 hy with h|h
  ·exact LQ hP y h
  ·exact LQ hQ y h
 ·rcases Bn.1 hy with h|h
  ·exact hP y h
  ·exact hQ y h
 ·rw[Ml,Ml,SJ (h0 P hP),SJ (h0 Q hQ)]
structure yq (x:Av)(i m:Int)(c:List AE)(n k:Nat):Prop where
 cel:∀c∈x.cells,DW x c=0
 bin:C9 x=0
 lt:i.toNat<x.cells.length
 ii:i=(i.toNat:Int)
 at_:x.cells[i.toNat]?=some c
 mm:m=(k:Int)
 nn:(n:Int)=Ai c
 un:(BP c).length=n
 par:Bz c=0
theorem Nl {x:Av}{i m:Int}(h:HW x i m=0):yq x i m (CC x i) (BP (CC x i)).length m.toNat:=by
 obtain⟨h1,h2⟩:=vH h;obtain⟨g1,g2,g3⟩:=dZ h1;have hlt:i.toNat<x.cells.length:=by omega
 have hat:x.cells[i.toNat]?=some (CC x i):=by
  unfold CC;rw[ED,Bx hlt];rfl
 have hp:=(GY (IU g1 _ (Au hat))).1;have hm:¬m<0:=λq=>by rw[Ax q]at h2;cases h2
 exact⟨IU g1,g1,hlt,by omega,hat,by omega,N5 λy hy=>by have:=((EJ hp).2.1 y hy).1;omega,rfl,hp⟩
theorem Vd:∀ {L:List AE},(∀y∈L,y.mass=1)->Ai L=(L.length:Int)
 | [],_=>rfl
 |a::L,h=>by
  rw[show Ai (a::L)=a.mass+Ai L from rfl,h a (B1 ..),Vd λy hy=>h y (B9 _ hy),Br];omega
theorem Iy {c:List AE}:∀y∈BP c,y.mass=1:=λy hy=>by
 obtain⟨z,hz,rfl,_⟩:=Pp y hy;rfl
theorem WG {c L:List AE}(hp:Bz c=0)(hL:∀y∈L,y∈BP c)(hl:L.length<=(BP c).length):(∀y∈BZ L,1<=y.mass/\y.mass<=1000000000/\y.shs.length<=1000000)/\Ai (BZ L)=(L.length:Int):=by
 have h1:∀y∈L,y.mass=1:=λy hy=>Iy y (hL y hy)
 have hs:=Vd h1;have hc:=(JD hp).2.2;have hn:=N5 (l:=c) λy hy=>by have:=((EJ hp).2.1 y hy).1;omega
 have h0:∀y∈BZ L,1<=y.mass:=LQ λy hy=>by rw[h1 y hy];exact Int.le_refl _
 refine⟨λy hy=>⟨h0 y hy,?_,?_⟩,by rw[NW,hs]⟩
 ·have:=YC (λz hz=>by have:=h0 z hz;omega) hy
  rw[NW,hs]at this;omega
 ·obtain⟨z,hz,_,e⟩:=LH y hy
  obtain⟨w,hw,_,e2⟩:=Pd z (hL z hz);rw[e,e2];exact((EJ hp).2.1 w hw).2.2
theorem Tt {c:List AE}{k:Nat}(hc:∀y∈c,1<=y.mass):(BZ ((BP c).take k)).length<=c.length:=by
 have h0:∀y∈c,0<=y.mass:=λy hy=>by have:=hc y hy;omega
 have e:=Ww (l:=c) (m:=(k:Int)) h0 (by omega);rw[HG]at e;have h1:∀y∈Ea c (k:Int),0<=y.mass:=by
  have:∀(l:List AE) (m:Int),(∀y∈l,0<=y.mass)->0<=m->∀y∈Ea l m,0<=y.mass:=λl=>by
   induction l with
   |nil=>intro m _ _ y hy;cases hy
   |cons a l ih=>
    intro m h hm y hy
    have:=h a (B1 ..)
    rcases A9.1 hy with rfl|hy
    ·show 0<=min a.mass m;omega
    ·split at hy
     ·cases hy
     ·exact ih _ (λz hz=>h z (B9 _ hz)) (by omega) y hy
  exact this c _ h0 (by omega)
 have h2:=SH h1;rw[e]at h2;rw[<-h2];have h3:=Mc (Di (Ea c (k:Int)));have h4:(Di (Ea c (k:Int))).length<=(Ea c (k:Int)).length:=List.length_filter_le ..;have h5:=VO c (k:Int);omega
theorem Xc {c:List AE}{k:Nat}(hc:∀y∈c,1<=y.mass):(BZ ((BP c).reverse.take k)).length<=c.length:=by
 rw[<-WF]
 have:=Tt (c:=c.reverse) (k:=k) λy hy=>hc y (List.mem_reverse.1 hy)
 rwa [List.length_reverse]at this
theorem lZ {P Q:List AE}(hP:∀y∈P,1<=y.mass)(hQ:∀y∈Q,1<=y.mass):(BZ (P++Q)).length<=(BZ P).length+(BZ Q).length:=by
 rw[<-b9 hP hQ,<-Be];exact Mc _
theorem Y5 {x:Av}{c:List AE}{m:Nat}(hc:∀y∈c,1<=y.mass):(BZ (GN x c m)).length<=c.length+c.length:=by
 have h1:∀y∈(BP c).reverse.take (m-FA x c m),1<=y.mass:=λy hy=>by
  rw[Iy y (List.mem_reverse.1 (E3 hy))];exact Int.le_refl _
 have h2:∀y∈(BP c).take (FA x c m),1<=y.mass:=λy hy=>by
  rw[Iy y (E3 hy)];exact Int.le_refl _
 have:=lZ h1 h2
 have g1:=Xc (k:=m-FA x c m) hc;have g2:=Tt (k:=FA x c m) hc;unfold GN;omega
theorem RH {x:Av}{c:List AE}{m:Nat}(hc:∀y∈c,1<=y.mass):(BZ (Ef x c m)).length<=c.length:=by
 have h0:∀y∈c,0<=y.mass:=λy hy=>by have:=hc y hy;omega
 have e:=We (l:=c) (low:=(FA x c m:Int)) (left:=(((BP c).length-m:Nat):Int)) h0 (by omega) (by omega);rw[HG,HG]at e;have hbl:∀(l:List AE) (a b:Int),(Fo l a b).length=l.length:=λl=>by
  induction l with
  |nil=>intro a b;rfl
  |cons z l ih=>intro a b;show(Fo l _ _).length+1=_;rw[ih];rfl
 have hbn:∀(l:List AE) (a b:Int),(∀y∈l,0<=y.mass)->0<=a->0<=b->∀y∈Fo l a b,0<=y.mass:=λl=>by
  induction l with
  |nil=>intro a b _ _ _ y hy;cases hy
  |cons z l ih=>
   intro a b h ha hb y hy
   have:=h z (B1 ..)
   rcases A9.1 hy with rfl|hy
   ·show 0<=min (z.mass-min z.mass a) b;omega
   ·exact ih _ _ (λw hw=>h w (B9 _ hw)) (by omega) (by omega) y hy
 have h2:=SH (hbn c (FA x c m:Int) (((BP c).length-m:Nat):Int) h0 (by omega) (by omega));rw[e]at h2;show(BZ (((BP c).drop (FA x c m)).take ((BP c).length-m))).length<=_;rw[<-h2];have h3:=Mc (Di (Fo c (FA x c m:Int) (((BP c).length-m:Nat):Int)));have h4:(Di (Fo c (FA x c m:Int) (((BP c).length-m:Nat):Int))).length<=(Fo c (FA x c m:Int) (((BP c).length-m:Nat):Int)).length:=List.length_filter_le ..;rw[hbl]at h4;omega
abbrev Jl:Dr:=[(9,[0,1,2,3,4,5,6,7,8,9],[10]),(11,[0,1,2,3,4],[5,6,7])]
open Go.Proofs Go.RowKit
set_option maxRecDepth 20000
set_option maxHeartbeats 4000000
theorem Un {H:Hp}{a a' b b' c:D}(h1:Fz H [] a a')(h2:Fz H [] b b'):Fz H [] (.tup [a,b,c]) (.tup [a',b',c]):=NT h1 h2
theorem d9d (x:Av)(hl:x.cells.length<=1000000)(hc:∀c∈x.cells,c.length<=1000000/\∀y∈c,y.few)(i m:Int):AL C0 6 [x.D,i64 i,i64 m] (.tup [(IA x i m).D,Aj false (Lh x i m),i64 (EM x i m)]):=by
 refine Ad.walk w1 jh rfl λF=>?_
 have cC:=j6 x hl hc [i] (by simp);have cW:=H6 (decide (m<0)) 3;have cF1:=Mg [HZ x [i],if decide (m<0)then 3 else 0] (by simp);rw[show E7 [HZ x [i],if decide (m<0)then 3 else 0]=HW x i m from rfl]at cF1;have hE:EM x i m=if HW x i m≠0 then HW x i m else if Ai (CC x i)<m then 13 else Jq x i m:=rfl
 have hB:IA x i m=if EM x i m≠0 then P7 else CT x i m:=rfl
 have hL:Lh x i m=if EM x i m≠0 then[]else Dp x i m:=rfl
 have hz:P7.D=.agg [str (sb []),i64 0,i64 0,i64 0,.sl false 1 []]:=rfl;have pz:AA (.tup [P7.D,Aj false [],i64 (EM x i m)]):=AJ;rw[hz]at pz
 by_cases h0:HW x i m=0
 rotate_left
 ·have k2:(HW x i m != 0)=true:=I7 h0
  rw[AI h0]at hE;rw[hE,AI h0]at hB hL;rw[hE]at pz;rw[hB,hL,hE,hz];unfold Av.D at cC⊢;refine AH Jl k2 cC cW cF1 AB AB AB ?_;exact⟨_,Un (SV (.nil 1)) (.nil 3),pz.out,rfl⟩
 have k2:(HW x i m != 0)=false:=by rw[h0];rfl
 rw[AG (λh=>h h0)]at hE;have ok:=Nl h0;obtain⟨c,hcc⟩:∃c,CC x i=c:=⟨_,rfl⟩
 obtain⟨k,hk⟩:∃k,m.toNat=k:=⟨_,rfl⟩
 obtain⟨n,hn⟩:∃n,(BP c).length=n:=⟨_,rfl⟩
 have hO:CT x i m=JJ x i.toNat (BZ (Ef x c k)):=by unfold CT;rw[hcc,hk]
 have hF:Dp x i m=BZ (GN x c k):=by unfold Dp;rw[hcc,hk]
 have hE3:Jq x i m=if EF x.side (Bq (CT x i m))then 17 else if 64<(Dp x i m).length then 5 else 0:=rfl
 rw[hcc]at hE ok;rw[hk,hn]at ok;have hpn:=EJ ok.par;have hps:=(JD ok.par).2.2;have hmem:=Au ok.at_;have cT:=Wf false c (by omega);rw[KK hpn.2.2,<-ok.nn]at cT;have hat:(x.cells.map (Aj false))[i.toNat]?=some (.sl false 3 (c.map AE.D)):=by rw[Az,ok.at_];rfl
 have hi0:0<=i:=by have:=ok.ii;omega
 have hil:i<(x.cells.length:Int):=by have:=ok.ii;have:=ok.lt;omega
 have el:(((x.cells.map (Aj false)).length:Nat):Int)=(x.cells.length:Int):=by rw[Ae]
 have hmk:=ok.mm
 by_cases h1:Ai c<m
 ·have k3:decide ((n:Int)<m)=true:=Ax (by rw[ok.nn];exact h1)
  rw[AI h1]at hE;rw[hE,AI (by decide)]at hB hL;rw[hE]at pz;rw[hB,hL,hE,hz];unfold Av.D at cC⊢;refine AH Jl (Ar k2 el k3) cC cW cF1 hat cT AB ?_;exact⟨_,Un (SV (.nil 1)) (.nil 3),pz.out,rfl⟩
 have k3:decide ((n:Int)<m)=false:=A8 (by rw[ok.nn];exact h1);rw[AG h1]at hE;have hkn:k<=n:=by have:=ok.nn;omega
 have hnB:n<=1000000000:=by have:=ok.nn;omega
 have cLo:=sL x n k hkn hnB (rP ok.bin);have hlX:FA x c k=IF (Ln x) n k:=by unfold FA;rw[hn]
 rw[<-hlX]at cLo;have hA:=Rw x c k;have hxc:∀y∈c,0<=y.mass/\y.mass<=1000000000/\y.shs.length<=1000000:=λy hy=>⟨by have:=(hpn.2.1 y hy).1;omega,(hpn.2.1 y hy).2⟩
 have hown:∀y∈c,∀m,AL C0 67 [y.D,i64 m] (y.w m).D:=λy q m=>Pk y m (hxc y q).2.2
 have hrD:Ef x c k=((BP c).drop (FA x c k)).take (n-k):=by unfold Ef;rw[hn]
 have hfD:GN x c k=(BP c).reverse.take (k-FA x c k)++(BP c).take (FA x c k):=rfl;obtain⟨A,hAe⟩:∃A,FA x c k=A:=⟨_,rfl⟩
 rw[hAe]at cLo hA hrD hfD;have hbl:∀(l:List AE) (a b:Int),(Fo l a b).length=l.length:=λl=>by
  induction l with
  |nil=>intro a b;rfl
  |cons z l ih=>intro a b;show(Fo l _ _).length+1=_;rw[ih];rfl
 have hbn:∀(l:List AE) (a b:Int),(∀y∈l,0<=y.mass/\y.mass<=1000000000/\y.shs.length<=1000000)->0<=a->0<=b->∀y∈Fo l a b,0<=y.mass/\y.mass<=1000000000/\y.shs.length<=1000000:=λl=>by
  induction l with
  |nil=>intro a b _ _ _ y hy;cases hy
  |cons z l ih=>
   intro a b h ha hb y hy
   have:=h z (B1 ..)
   rcases A9.1 hy with rfl|hy
   ·refine⟨?_,?_,this.2.2⟩
    ·show 0<=min (z.mass-min z.mass a) b;omega
    ·show min (z.mass-min z.mass a) b<=_;omega
   ·exact ih _ _ (λw hw=>h w (B9 _ hw)) (by omega) (by omega) y hy
 have cBt:=YZ false c (A:Int) ((k-A:Nat):Int) (by omega) ⟨by omega,by omega⟩ ⟨by omega,by omega⟩ (n:Int) ⟨by omega,by omega⟩ (λy q=>⟨(hxc y q).1,(hxc y q).2.1⟩) cT hown (Aj false (BZ (Ef x c k))) (by
  have h3:=Uu false (Fo c (A:Int) ((n:Int)-A-((k-A:Nat):Int))) (by rw[hbl];omega) (hbn c _ _ hxc (by omega) (by omega));rw[SH λy hy=>(hbn c _ _ hxc (by omega) (by omega) y hy).1,We (λy hy=>(hxc y hy).1) (by omega) (by omega),HG,show((n:Int)-A-((k-A:Nat):Int)).toNat=n-k by omega,<-hrD]at h3;exact h3)
 have wA:IntKind.i64.wrap (m-(A:Int))=((k-A:Nat):Int):=by rw[wI];omega
 have cWi:=d9g x i.toNat ok.lt hl (λc hq=>Yp false c (hc c hq).1 (EJ (GY (ok.cel c hq)).1).2.1) (BZ (Ef x c k));rw[<-ok.ii,<-hO]at cWi;have cP1:=j7 false true c (k-A) (by omega) (by omega) hxc;have cP2:=j7 false false c A (by omega) (by omega) hxc;rw[show Qm true c=(BP c).reverse from rfl]at cP1;rw[show Qm false c=BP c from rfl]at cP2;have u1:=WG (L:=(BP c).reverse.take (k-A)) ok.par (λy hy=>List.mem_reverse.1 (E3 hy)) (by rw[Bd,List.length_reverse];omega);have u2:=WG (L:=(BP c).take A) ok.par (λy hy=>E3 hy) (by rw[Bd];omega);have g1:=Xc (c:=c) (k:=k-A) λy hy=>(hpn.2.1 y hy).1
 have g2:=Tt (c:=c) (k:=A) λy hy=>(hpn.2.1 y hy).1
 have v1:∀y∈(BP c).reverse.take (k-A),1<=y.mass:=λy hy=>by
  rw[Iy y (List.mem_reverse.1 (E3 hy))];exact Int.le_refl _
 have v2:∀y∈(BP c).take A,1<=y.mass:=λy hy=>by
  rw[Iy y (E3 hy)];exact Int.le_refl _
 have hFn:=b9 v1 v2;rw[<-hfD,<-hF]at hFn;obtain⟨P,hP⟩:∃P,BZ ((BP c).reverse.take (k-A))=P:=⟨_,rfl⟩
 obtain⟨Q,hQ⟩:∃Q,BZ ((BP c).take A)=Q:=⟨_,rfl⟩
 rw[hP]at cP1 u1 g1 hFn;rw[hQ]at cP2 u2 g2 hFn;have cCC:=oc [P,Q] (by rw[show[P,Q].flatten=P++Q by simp,Be];omega) (by simp);rw[show[P,Q].flatten=P++Q by simp]at cCC;have cN:=Yp false (P++Q) (by rw[Be];omega) λy hy=>by
  rcases Bn.1 hy with h|h
  ·exact u1.1 y h
  ·exact u2.1 y h
 rw[hFn]at cN;have hFl:(Dp x i m).length<=1000000:=by
  rw[<-hFn]
  have:=Mc (P++Q)
  rw[Be]at this;omega
 have cCr:=ya (Dp x i m) hFl;have hol:(CT x i m).cells.length=x.cells.length:=by
  rw[hO];show((x.cells.map BZ).set _ _).length=_;rw[Db,Ae]
 have hoc:∀c∈(CT x i m).cells,c.length<=1000000:=λd hq=>by
  rw[hO]at hq;rcases Qd hq with h|h
  ·obtain⟨e,h1,rfl⟩:=By.1 h
   have:=Mc e
   have:=(hc e h1).1
   omega
  ·rw[h]
   have:=RH (x:=x) (c:=c) (m:=k) λy hy=>(hpn.2.1 y hy).1
   omega
 have cLv:=VL (CT x i m) (by omega) λc h=>by have:=hoc c h;omega
 have cSt:=dV x false (Bq (CT x i m)) (by unfold Bq;rw[Ae];omega);have cF3:=Mg [if EF x.side (Bq (CT x i m))then 17 else 0,if 64<(Dp x i m).length then 5 else 0] (by simp);have hE3':E7 [if EF x.side (Bq (CT x i m))then 17 else 0,if 64<(Dp x i m).length then 5 else 0]=Jq x i m:=by
  rw[hE3];cases EF x.side (Bq (CT x i m))
  ·by_cases h:64<(Dp x i m).length
   ·rw[AI h];rfl
   ·rw[AG h];rfl
  ·rfl
 rw[hE3']at cF3;have hoD:(CT x i m).D=.agg [str (sb x.flow),i64 x.core,i64 x.room,i64 x.side,.sl false 1 ((CT x i m).cells.map (Aj false))]:=by rw[hO];rfl
 have po:AA (.tup [(CT x i m).D,Aj false (Dp x i m),i64 (EM x i m)]):=AJ;have Iv:AA (CT x i m).D:=AJ;rw[hoD]at cWi cLv po Iv;obtain⟨OD,hOD⟩:∃O,(CT x i m).cells.map (Aj false)=O:=⟨_,rfl⟩
 rw[hOD]at cWi cLv po Iv hoD;subst hmk
 by_cases h2:Jq x i (k:Int)=0
 rotate_left
 ·have k4:(Jq x i (k:Int) != 0)=true:=I7 h2
  rw[hE,AI h2]at hB hL;rw[hE]at pz;rw[hB,hL,hE,hz];unfold Av.D at cC cWi cSt cLo⊢;refine AH Jl (Bb k2 el k3 wA) cC cW cF1 hat cT cLo ?_;refine AH Jl (Ab wA k4) cBt cWi AB AB AB AB ?_;refine AH Jl wA cP1 cP2 cCC cN cCr AB ?_;refine AH Jl k4 cLv cSt cF3 AB AB AB ?_;exact⟨_,Un (SV (.nil 1)) (.nil 3),pz.out,rfl⟩
 ·have k4:(Jq x i (k:Int) != 0)=false:=by rw[h2];rfl
  have h64:¬ 64<(Dp x i (k:Int)).length:=λh=>by
   rw[hE3,AI h]at h2;split at h2<;>cases h2
  rw[hE,AG (λh=>h h2)]at hB hL;rw[hE,h2]at po;rw[AG h64]at cCr;rw[hB,hL,hE,h2,hoD];unfold Av.D at cC cWi cSt cLo⊢;refine AH Jl (Bb k2 el k3 wA) cC cW cF1 hat cT cLo ?_;refine AH Jl (Ab wA k4) cBt cWi AB AB AB AB ?_;refine AH Jl wA cP1 cP2 cCC cN cCr AB ?_;refine AH Jl k4 cLv cSt cF3 AB AB AB ?_;exact AM rfl po.out
def Lq (x:Av):Bool:=x.cells.all HV&&(decide (x.flow.length<=100)&&decide (x.cells.length<=20))
theorem qf (x:Av)(hl:x.cells.length<=9223372036854775807)(hs:∀c∈x.cells,c.length<=9223372036854775807/\∀y∈c,y.shs.length<=9223372036854775807):AL C0 17 [x.D] (Ap (Lq x)):=by
 refine Ad.walk w1 zx rfl λF=>?_
 obtain⟨cs,hcs⟩:∃c,x.cells=c:=⟨_,rfl⟩
 have el:(((cs.map (Aj false)).length:Nat):Int)=(cs.length:Int):=by rw[Ae]
 have hb:Lq x=(cs.all HV&&(decide (x.flow.length<=100)&&decide (cs.length<=20))):=by rw[<-hcs];rfl
 rw[hb];unfold Av.D;rw[hcs]at hl hs⊢;refine AH AW el AB AB AB AB AB AB ?_;refine AC.loop (α:=Nat×Nat) (λp=>⟨[(1,.optr 0 0 5 0 0),(6,GA false cs),(7,i64 (cs.length:Int)),(8,i64 (p.1:Int))],[⟨0,0,24,5,[.agg [str (sb x.flow),i64 x.core,i64 x.room,i64 x.side,GA false cs]]⟩],p.2⟩) (λp=>cs.length-p.1) (λq=>q.1<=cs.length/\(cs.take q.1).all HV=true) (0,_) ⟨BT _,rfl⟩ AK ?_;rintro⟨i,n⟩ F ⟨hi,ha⟩;dsimp only at hi ha⊢;rcases BC i cs.length with h2|h2
 rotate_left
 ·have e1:=Cc h2
  have:i=cs.length:=by omega
  subst this;rw[Cz]at ha;rw[ha,HI];have hsz:=Cx x.flow;have d1:decide (x.flow.length<=100)=decide ((x.flow.length:Int)<=100):=DO.2 (by omega);have d2:decide (cs.length<=20)=decide ((cs.length:Int)<=20):=DO.2 (by omega);rw[d1,d2];obtain⟨q1,h1⟩:∃q,decide ((x.flow.length:Int)<=100)=q:=⟨_,rfl⟩
  rw[h1];cases q1
  all_goals
   refine AH AW (EP e1 hsz el h1 kT kF) AB AB AB AB AB AB ?_;exact AM rfl AA.out
 have e1:=CZ h2;have wi:=Ce (i:=i) (by omega);obtain⟨c,hc⟩:=CJ h2;have hm:(cs.map (Aj false))[i]?=some (.sl false 3 (c.map AE.D)):=by rw[Az,hc];rfl
 obtain⟨hs1,hs2⟩:=hs c (Au hc);have cS:=xg false c hs1 hs2;have htk:cs.take (i+1)=cs.take i++[c]:=by rw[Du,hc];rfl
 cases hq:HV c
 ·rw[hq]at cS
  have hall:cs.all HV=false:=by
   rw[List.all_eq_false];exact⟨c,Au hc,by rw[hq];exact Bool.false_ne_true⟩
  rw[hall,II];refine AH AW (Ar e1 kT kF) hm cS AB AB AB AB ?_;exact AM rfl AA.out
 ·rw[hq]at cS
  refine AH AW (Bb e1 wi kT kF) hm cS AB AB AB AB ?_;exact⟨(i+1,_),⟨h2,by dsimp only;rw[htk,Ky,ha,GS,hq];rfl⟩,by dsimp only;omega,AK⟩
theorem fk {x:Av}(h:Lq x=true):x.cells.length<=20/\x.flow.length<=100/\∀c∈x.cells,(∀y∈c,y.lite/\y.modr)/\c.length<=80:=by
 unfold Lq at h;rw[BU,BU,decide_eq_true_iff,decide_eq_true_iff,CY]at h;obtain⟨h1,h2,h3⟩:=h;refine⟨h3,h2,λc hc=>?_⟩;obtain⟨g1,g2,_⟩:=tX (h1 c hc);exact⟨g1,g2⟩
def Lj (l:List AE)(n most:Int):Bool:=decide ((l.length:Int)<=n)&&decide (Ai l<=most)
def OT (x:Av)(most:Int):Bool:=decide (x.cells.length<=4)&&(decide (C9 x=0)&&x.cells.all λc=>Lj c 6 most)
def QH (x:Av):Bool:=Lq x&&OT x 999999999
theorem yo (l:List AE)(n most:Int)(hl:l.length<=1000000)(hf:∀x∈l,x.modr)(hp:Bz l=0):AL C0 53 [Aj false l,i64 n,i64 most] (Ap (Lj l n most)):=by
 refine Ad.walk w1 d8s rfl λF=>?_
 have el:(((l.map AE.D).length:Nat):Int)=(l.length:Int):=by rw[Ae]
 have cP:=XE false l hl hf;have cM:=Su false l (EJ hp).2.2;rw[hp]at cP;have k0:(((0:Nat):Int)==0)=true:=rfl;unfold Lj;obtain⟨a,ha⟩:∃a,decide ((l.length:Int)<=n)=a:=⟨_,rfl⟩
 obtain⟨b,hb⟩:∃b,decide (Ai l<=most)=b:=⟨_,rfl⟩
 rw[ha,hb];cases a
 ·refine AH AW (Ar el ha k0) AB AB AB AB AB AB ?_
  exact AM rfl AA.out
 ·cases b
  ·refine AH AW (Bb el ha hb k0) cP cM AB AB AB AB ?_
   exact AM rfl AA.out
  ·refine AH AW (Bb el ha hb k0) cP cM AB AB AB AB ?_
   exact AM rfl AA.out
theorem d9n (x:Av)(most:Int)(hl:x.cells.length<=1000000)(hc:∀c∈x.cells,c.length<=1000000/\∀y∈c,y.modr):AL C0 18 [x.D,i64 most] (Ap (OT x most)):=by
 refine Ad.walk w1 zy rfl λF=>?_
 have cB:=bX x hl hc;have hE:OT x most=(decide (x.cells.length<=4)&&(decide (C9 x=0)&&x.cells.all λc=>Lj c 6 most)):=rfl;have hcl:=@IU x;obtain⟨cs,hcs⟩:∃c,x.cells=c:=⟨_,rfl⟩
 have el:(((cs.map (Aj false)).length:Nat):Int)=(cs.length:Int):=by rw[Ae]
 obtain⟨E,hEE⟩:∃E,C9 x=E:=⟨_,rfl⟩
 rw[hE];unfold Av.D at cB⊢;rw[hcs]at cB hcl hl hc⊢;rw[hEE]at cB hcl⊢
 by_cases h4:cs.length<=4
 rotate_left
 ·have k1:decide ((cs.length:Int)>4)=true:=BX
  rw[A8 h4,II];refine AH AW (Ab el k1) AB AB AB AB AB AB ?_;exact AM rfl AA.out
 have k1:decide ((cs.length:Int)>4)=false:=Bc;rw[Ax h4,HI]
 by_cases h0:E=0
 rotate_left
 ·have k2:(E != 0)=true:=I7 h0
  rw[A8 h0,II];refine AH AW (Ar el k1 k2) cB AB AB AB AB AB ?_;exact AM rfl AA.out
 have k2:(E != 0)=false:=by rw[h0];rfl
 rw[Ax h0,HI];refine AH AW (Ar el k1 k2) cB AB AB AB AB AB ?_;refine AC.loop (α:=Nat×Nat) (λp=>⟨[(1,i64 most),(2,.optr 0 0 5 0 0),(5,i64 (p.1:Int))],[⟨0,0,24,5,[.agg [str (sb x.flow),i64 x.core,i64 x.room,i64 x.side,GA false cs]]⟩],p.2⟩) (λp=>cs.length-p.1) (λq=>q.1<=cs.length/\((cs.take q.1).all λc=>Lj c 6 most)=true) (0,_) ⟨BT _,rfl⟩ AK ?_;rintro⟨i,n⟩ F ⟨hi,ha⟩;dsimp only at hi ha⊢;rcases BC i cs.length with h2|h2
 rotate_left
 ·have e1:=Cc h2
  have:i=cs.length:=by omega
  subst this;rw[Cz]at ha;rw[ha];refine AH AW (Ab e1 el) AB AB AB AB AB AB ?_;exact AM rfl AA.out
 have e1:=CZ h2;have wi:=Ce (i:=i) (by omega);obtain⟨c,hc'⟩:=CJ h2;have hm:(cs.map (Aj false))[i]?=some (.sl false 3 (c.map AE.D)):=by rw[Az,hc'];rfl
 have hmem:=Au hc';have cF:=yo c 6 most (hc c hmem).1 (hc c hmem).2 (GY (hcl h0 c hmem)).1;have htk:cs.take (i+1)=cs.take i++[c]:=by rw[Du,hc'];rfl
 cases hq:Lj c 6 most
 ·rw[hq]at cF
  have hall:(cs.all λc=>Lj c 6 most)=false:=by
   rw[List.all_eq_false];exact⟨c,hmem,by rw[hq];exact Bool.false_ne_true⟩
  rw[hall];refine AH AW (CN e1 el kT kF kN) hm cF AB AB AB AB ?_;exact AM rfl AA.out
 ·rw[hq]at cF
  refine AH AW (EP e1 el wi kT kF kN) hm cF AB AB AB AB ?_;exact⟨(i+1,_),⟨h2,by dsimp only;rw[htk,Ky,ha,GS,hq];rfl⟩,by dsimp only;omega,AK⟩
structure gt (x:Av)(m:Int):Prop where
 n:x.cells.length<=4
 len:∀c∈x.cells,c.length<=6
 mass:∀c∈x.cells,Ai c<=m
 bin:C9 x=0
theorem uP {x:Av}{m:Int}(h:OT x m=true):gt x m:=by
 unfold OT at h;rw[BU,BU,decide_eq_true_iff,decide_eq_true_iff,CY]at h;obtain⟨h1,h2,h3⟩:=h;have h4:∀c∈x.cells,(c.length:Int)<=6/\Ai c<=m:=λc hc=>by
  have:=h3 c hc
  unfold Lj at this
  rwa [BU,decide_eq_true_iff,decide_eq_true_iff]at this
 exact⟨h1,λc hc=>by have:=(h4 c hc).1;omega,λc hc=>(h4 c hc).2,h2⟩
theorem Rx {x:Av}{i:Nat}{c:List AE}(h:C9 x=0)(hc:x.cells[i]?=some c):(Bq x).getD i 0=Ai c:=by
 rw[(Nw h).1,ED,Az,hc];rfl
theorem tk {x:Av}{c:List AE}(h:DW x c=0):DZ (BZ c)=Ai c:=by
 have p:=GY h;have hn:=EJ p.1
 have:=Yr hn.2.1 (by omega) (by omega)
 rw[KK this.1,this.2.2]
theorem qg {x:Av}{i:Nat}{L:List AE}(h:C9 x=0):Bq (JJ x i L)=(Bq x).set i (DZ L):=by
 show List.map DZ ((x.cells.map BZ).set i L)=_;rw[List.map_set,List.map_map,(Nw h).1]
 congr 1
 exact NB λc hq=>tk (IU h c hq)
theorem tl {c L:List AE}(hp:Bz c=0)(hL:∀y∈L,y∈BP c)(hl:L.length<=(BP c).length)(hn:(BZ L).length<=1000000):DZ (BZ L)=(L.length:Int):=by
 obtain⟨h1,h2⟩:=WG hp hL hl;rw[KK ⟨hn,λy hy=>by have:=h1 y hy;omega⟩,h2]
theorem Zn {x:Av}{i:Nat}{c:List AE}{m:Nat}(h:C9 x=0)(hc:x.cells[i]?=some c)(hm:m<=(BP c).length):Bq (JJ x i (BZ (Ef x c m)))=(Bq x).set i ((Bq x).getD i 0-m):=by
 have hce:=GY (IU h c (Au hc));have hpn:=EJ hce.1;have hr:=RH (x:=x) (c:=c) (m:=m) λy hy=>(hpn.2.1 y hy).1
 have hn:=N5 (l:=c) λy hy=>by have:=(hpn.2.1 y hy).1;omega
 rw[qg h,tl hce.1 MX (by rw[Uy hm];omega) (by omega),Uy hm,Rx h hc,<-hn]
 congr 1
 omega
theorem zr {l:List AE}{y:AE}(h:GU l y)(hf:∀z∈l,z.few):y.few:=by
 obtain⟨z,hz,e1,e2⟩:=h
 have:=hf z hz
 unfold AE.few at this⊢;rw[e1,e2];exact this
theorem Vm {l:List AE}{y:AE}(h:GU l y)(hf:∀z∈l,z.lite):y.lite:=by
 have h1:=zr h λz hz=>(hf z hz).1
 obtain⟨z,hz,e1,e2⟩:=h
 have:=(hf z hz).2
 refine⟨h1,?_⟩;rw[e2];exact this
theorem gQ {l:List AE}{y:AE}(h:GU l y)(hf:∀z∈l,z.modr):y.modr:=by
 have h1:=Vm h λz hz=>(hf z hz).2
 obtain⟨z,hz,e1,e2⟩:=h
 have:=(hf z hz).1
 refine⟨?_,h1⟩;rw[e2];exact this
theorem aC {x:Av}{i:Nat}{L:List AE}{P:List AE->Prop}(h1:∀c∈x.cells,P (BZ c))(h2:P L):∀d∈(JJ x i L).cells,P d:=λd hd=>by
 rcases Qd hd with hd|hd
 ·obtain⟨e,he,rfl⟩:=By.1 hd
  exact h1 e he
 ·rw[hd];exact h2
theorem PP (x:Av)(i:Nat)(L:List AE):(JJ x i L).cells.length=x.cells.length:=by
 show((x.cells.map BZ).set _ _).length=_;rw[Db,Ae]
theorem rp {x:Av}{c:List AE}(h:DW x c=0):DW x (BZ c)=0:=by
 have p:=GY h;have hn:=EJ p.1
 have:=Mc c
 exact ZW h LH (by omega) (LQ λy hy=>(hn.2.1 y hy).1) (by rw[NW];exact Int.le_refl _)
structure e0b (x:Av)(i m:Int):Prop where
 bin:C9 (CT x i m)=0
 par:Bz (Dp x i m)=0
 one:HW x i m=0
 mle:m<=Ai (CC x i)
 stp:EF x.side (Bq (CT x i m))=false
 f64:¬ 64<(Dp x i m).length
theorem uJ {x:Av}{i m:Int}(h1:HW x i m=0)(h2:¬Ai (CC x i)<m)(h3:EF x.side (Bq (CT x i m))=false):C9 (CT x i m)=0:=by
 have ok:=Nl h1;have hce:=ok.cel _ (Au ok.at_);have hpn:=EJ ok.par;have hkn:m.toNat<=(BP (CC x i)).length:=by have:=ok.nn;have:=ok.mm;omega
 have hr:=bu (x:=x) (c:=CC x i) (m:=m.toNat) (λy hy=>(hpn.2.1 y hy).1) hkn;have hl:=RH (x:=x) (c:=CC x i) (m:=m.toNat) λy hy=>(hpn.2.1 y hy).1
 refine u7 ok.bin rfl rfl rfl rfl (PP ..) (aC (λc hc=>rp (ok.cel c hc)) ?_) h3;exact ZW hce hr.1 (by omega) hr.2.1 (by rw[hr.2.2];omega)
theorem Z7 {x:Av}{c:List AE}{m:Nat}(h:m<=(BP c).length):Ai (BZ (GN x c m))=m:=by
 rw[NW,Vd λy hy=>Iy y (NS y hy),qR h]
theorem WS {x:Av}{i m:Int}(h:EM x i m=0):e0b x i m:=by
 unfold EM at h
 by_cases h1:HW x i m=0
 ·rw[AG (λq=>q h1)]at h
  by_cases h2:Ai (CC x i)<m
  ·rw[AI h2]at h;cases h
  ·rw[AG h2]at h
   unfold Jq at h;have h3:EF x.side (Bq (CT x i m))=false:=by
    cases hb:EF x.side (Bq (CT x i m))
    ·rfl
    ·rw[hb,AI rfl]at h;cases h
   rw[h3,AG (by decide)]at h;have h4:¬ 64<(Dp x i m).length:=λq=>by rw[AI q]at h;cases h
   have ok:=Nl h1;have hpn:=EJ ok.par;have hps:=(JD ok.par).2.2;have hkn:m.toNat<=(BP (CC x i)).length:=by have:=ok.nn;have:=ok.mm;omega
   refine⟨uJ h1 h2 h3,aD ok.par (λy hy=>(LH y hy).trans λz hz=>Pd z (NS z hz)) (by omega) (LQ λy hy=>?_) ?_,h1,by omega,h3,h4⟩
   ·rw[Iy y (NS y hy)];exact Int.le_refl _
   ·show Ai (BZ (GN x (CC x i) m.toNat))<=_
    rw[Z7 hkn]
    have:=ok.mm
    omega
 ·rw[AI h1]at h;exact Ak h h1
theorem zH {x:Av}{i m:Int}(h:x.cells[i.toNat]?=some (CC x i)):(∀c∈(CT x i m).cells,∃d∈x.cells,∀y∈c,GU d y)/\∀y∈Dp x i m,GU (CC x i) y:=
 ⟨aC (λc hc=>⟨c,hc,LH⟩) ⟨_,Au h,λy hy=>(LH y hy).trans λz hz=>Pd z (MX z hz)⟩,
  λy hy=>(LH y hy).trans λz hz=>Pd z (NS z hz)⟩
theorem ZZ {R:As->As->Prop}(ht:∀a b c,R a b->R b c->R a c):∀ {l:List As},(∀i,i+1<l.length->R (D4 l i) (D4 l (i+1)))->l.Pairwise R
 | [],_=>List.Pairwise.nil
 | [a],_=>List.pairwise_singleton _ _
 |a::b::l,h=>by
  have h1:(b::l).Pairwise R:=ZZ ht λi hi=>h (i+1) (by simp at hi⊢;omega)
  have hab:R a b:=h 0 (by simp);refine DP.2 ⟨λc hc=>?_,h1⟩;rcases A9.1 hc with rfl|hc
  ·exact hab
  ·exact ht a b c hab ((DP.1 h1).1 c hc)
theorem yK {l:List As}(h:Gy l=0):(l.Pairwise λs t=>ltStr s.lot t.lot=true)/\∀s∈l,Cj s.part=0/\0<Bv s.part:=by
 unfold Gy at h;split at h
 ·cases h
 split at h
 ·cases h
 split at h
 ·rename_i q;exact Ak h q
 rename_i h0;have hall:=PI (Classical.not_not.1 h0);have hat:∀i,i<l.length->Cj (D4 l i).part=0/\0<Bv (D4 l i).part/\(0<i->Lf (D4 l i).lot (D4 l (i-1)).lot=false):=λi hi=>by
  have:=hall i hi
  unfold Fw at this;split at this
  ·cases this
  split at this
  ·cases this
  rename_i ho;split at this
  ·rename_i q;exact Ak this q
  rename_i hc;split at this
  ·cases this
  rename_i hs;refine⟨Classical.not_not.1 hc,?_,λh0=>?_⟩
  ·unfold HC at hs
   apply DG;intro hn;have h9:=Rat.num_nonneg.2 (show 0≤-(Bv (D4 l i).part) by grind);rw[Rat.neg_num]at h9;exact hs (by omega)
  ·cases hb:Lf (D4 l i).lot (D4 l (i-1)).lot
   ·rfl
   ·exact Ak ⟨h0,hb⟩ ho
 refine⟨ZZ (R:=λs t=>ltStr s.lot t.lot=true) (λa b c=>swo_ltStr.trans a.lot b.lot c.lot) λi hi=>?_,λs hs=>?_⟩
 ·have:=(hat (i+1) hi).2.2 (by omega)
  rw[show i+1-1=i by omega]at this;unfold Lf at this;rw[Hj,aP,LI,Hh]at this;cases h9:ltStr (D4 l i).lot (D4 l (i+1)).lot with
  |true=>rfl
  |false=>exact Ak (Qw this.1 h9) this.2
 ·obtain⟨i,hi,e⟩:=NA hs
  have:=hat i hi
  have e2:D4 l i=s:=by
   unfold D4;rw[ED,Bx hi,e];rfl
  rw[e2]at this;exact⟨this.1,this.2.1⟩
theorem az {x:AE}(h:Cm x=0):Gy x.shs=0:=by
 unfold Cm at h;split at h
 ·cases h
 split at h
 ·cases h
 exact h
theorem gD {k:List UInt8}:∀ {l:List As},(l.Pairwise λs t=>ltStr s.lot t.lot=true)->(∀s∈l,nb (Bv s.part) Cg Cg)->nb (DK k (l.map λs=>(s.lot,Bv s.part))) Cg Cg
 | [],_,_=>VV.mono (BT _) (by decide)
 |s::l,h,hb=>by
  have hp:=DP.1 h;show nb (if s.lot=k then Bv s.part+DK k (l.map λs=>(s.lot,Bv s.part))else DK k (l.map λs=>(s.lot,Bv s.part))) Cg Cg
  by_cases hk:s.lot=k
  ·rw[AI hk]
   have:∀L:List As,(∀t∈L,t.lot≠k)->DK k (L.map λs=>(s.lot,Bv s.part))=0:=λL=>by
    induction L with
    |nil=>intro _;rfl
    |cons t L ih=>
     intro hq;show(if t.lot=k then _ else _)=_;rw[AG (hq t (B1 ..))];exact ih λu hu=>hq u (B9 _ hu)
   rw[this l λt ht e=>ip (hp.1 t ht) (hk.trans e.symm),Rat.add_zero];exact hb s (B1 ..)
  ·rw[AG hk]
   exact gD hp.2 λt ht=>hb t (B9 _ ht)
theorem qj {S t:Rat}{i Q:Nat}(hS:nb S (i*Q*Cg^i) (Cg^i))(ht:nb t Q Cg):nb (S+t) ((i+1)*Q*Cg^(i+1)) (Cg^(i+1)):=by
 refine(gS hS ht).mono ?_ (Nat.le_of_eq (CW ..).symm);rw[CW,B0,B0,JS,B6 (i*Q)];refine Nat.add_le_add_left ?_ _;refine Cs _ ?_;exact Nat.le_mul_of_pos_right _ (by decide)
def IR:Nat:=Cg*1000000000
theorem jW {k:List UInt8}:∀ {l:List AE},(∀x∈l,nb (Gq k x) Cg Cg/\0<=x.mass/\x.mass<=1000000000)->nb (Dc k l) (l.length*IR*Cg^l.length) (Cg^l.length)
 | [],_=>VV.mono (BT _) (by decide)
 |x::l,h=>by
  have hx:=h x (B1 ..);have ih:=jW (k:=k) (l:=l) λy hy=>h y (B9 _ hy)
  show nb (Gq k x*(x.mass:Rat)+Dc k l) _ _;rw[Rat.add_comm];exact qj ih ((xm hx.1 (xk x.mass (n:=1000000000) (by omega))).mono (An _) (by rw[EY];exact An _))
theorem yS {r:Rat}{n:Nat}(hn:n<=12)(h:nb r (n*IR*Cg^n) (Cg^n)):DJ r=false:=by
 have h1:Cg^n<=Cg^12:=FT (by decide) hn;have h2:n*IR*Cg^n<=12*IR*Cg^12:=GH (CV _ hn) h1;have h3:12*IR*Cg^12<S5:=by decide
 have h4:Cg^12<S5:=by decide
 exact xj h (Da h2 h3) (Da h1 h4)
theorem Vn {k:List UInt8}{v:Rat}:∀ {Q:BQ},EE Q->(k,v)∈Q->Ct k Q=some v
 | [],_,h=>by cases h
 |p::l,hs,h=>by
  have hp:=DP.1 hs;unfold Ct;rcases A9.1 h with rfl|h
  ·rw[AI rfl]
  ·rw[AG (λe=>by
    have:=hp.1 _ h
    rw[e,swo_ltStr.irrefl]at this;cases this)]
   exact Vn hp.2 h
theorem Ut {l:List AE}(hp:Bz l=0)(hn:l.length<=12)(hl:∀y∈l,y.lite):OK l=0/\OL l=DC l/\∀p∈DC l,DJ p.2=false/\nb p.2 (12*IR*Cg^12) (Cg^12):=by
 have hpn:=EJ hp;have hlay:=(JD hp).2.1;have hall:∀p∈DC l,DJ p.2=false/\nb p.2 (12*IR*Cg^12) (Cg^12):=λp h=>by
  have h1:=Vn (MV l) h;rw[Ub]at h1;split at h1
  ·have hv:Dc p.1 l=p.2:=FY h1
   have hb:=jW (k:=p.1) (l:=l) λx hx=>by
    have hs:=yK (az (hlay x hx));exact⟨gD hs.1 λs hs2=>b8 (hs.2 s hs2).1 ((hl x hx).2 s hs2).2,by have:=(hpn.2.1 x hx).1;omega,(hpn.2.1 x hx).2.1⟩
   rw[hv]at hb;have h1:Cg^l.length<=Cg^12:=FT (by decide) hn;exact⟨yS hn hb,hb.mono (GH (CV _ hn) h1) h1⟩
  ·cases h1
 have hperm:(DC l).Perm (CU l):=by
  obtain⟨_,h2⟩:=Re l l.length (An _)
  rwa [Cz]at h2
 have hany:(CU l).any (λp=>DJ p.2)=false:=by
  rw[List.any_eq_false];intro p h;rw[(hall p (hperm.mem_iff.2 h)).1];exact Bool.false_ne_true
 refine⟨?_,?_,hall⟩
 ·unfold OK Id
  rw[AG (λq=>q hp),hany];rfl
 ·unfold OL Jp
  rw[AG (λq=>q hp),hany,AG (by decide),Us]
theorem mv {x:Av}{c:List AE}{m:Nat}(hm:m<=(BP c).length):(GN x c m++Ef x c m).Perm (BP c):=by
 have ha:=Rw x c m;unfold GN Ef;generalize FA x c m=a at*;generalize BP c=U at*;have e1:U=U.take a++((U.drop a).take (U.length-m)++U.drop (U.length-(m-a))):=by
  have:(U.drop a).drop (U.length-m)=U.drop (U.length-(m-a)):=by rw[List.drop_drop,show a+(U.length-m)=U.length-(m-a) by omega]
  rw[<-this,FB,FB]
 have e2:U.reverse.take (m-a)=(U.drop (U.length-(m-a))).reverse:=by rw[List.take_reverse]
 rw[e2]
 conv=>rhs;rw[e1]
 refine((List.Perm.append_right _ (List.Perm.append_right _ (List.reverse_perm _))).trans ?_);rw[Dt];refine List.perm_append_comm.trans ?_;rw[Dt]
theorem dX {x:Av}{k:Nat}(h:C9 x=0)(hk:k<x.cells.length):HZ x [(k:Int)]=0:=by
 unfold HZ;rw[AG (λq=>q h)]
 have:J7 x (k:Int)=true:=by
  unfold J7 DF;rw[BU,decide_eq_true_iff,decide_eq_true_iff];omega
 simp[this]
theorem aa {x:Av}{k:Nat}{m:Int}(h:C9 x=0)(hk:k<x.cells.length)(hm:0<=m):HW x (k:Int) m=0:=by
 unfold HW;rw[dX h hk,Bc];rfl
theorem Nm {x:Av}{k:Nat}(hk:k<x.cells.length):x.cells[k]?=some (CC x (k:Int)):=by
 unfold CC;rw[HG,ED,Bx hk];rfl
theorem pE {x:Av}{k:Nat}{m:Int}(h:C9 x=0)(hk:k<x.cells.length)(hl:∀c∈x.cells,c.length<=32)(hm:0<=m/\m<=Hz x.side (Bq x) k):
  EM x (k:Int) m=0/\Bq (CT x (k:Int) m)=(Bq x).set k ((Bq x).getD k 0-m):=by
 obtain⟨s1,s2,s3,s4⟩:=RW h;have h1:=aa h hk hm.1;have hat:=Nm hk;have hg:=Rx h hat;have hml:=b6 x.side (Bq x) k;have hpn:=EJ (GY (IU h _ (Au hat))).1;have hn:=N5 (l:=CC x (k:Int)) λy hy=>by have:=(hpn.2.1 y hy).1;omega
 have hlv:Bq (CT x (k:Int) m)=(Bq x).set k ((Bq x).getD k 0-m):=by
  show Bq (JJ x ((k:Int).toNat) _)=_;rw[HG,Zn h hat (by omega),show((m.toNat:Nat):Int)=m by omega]
 refine⟨?_,hlv⟩;have hi:k<(Bq x).length:=by unfold Bq;rw[Ae];exact hk
 have hst:EF x.side (Bq (CT x (k:Int) m))=false:=by
  rw[hlv];exact(Vb ⟨s1,by omega⟩ (λv hv=>by have:=(Nw h).2 v hv;omega) hi (Ph h).2 ⟨hm.1,by omega⟩).2 hm.2
 have hfl:¬ 64<(Dp x (k:Int) m).length:=by
  have:=Y5 (x:=x) (c:=CC x (k:Int)) (m:=m.toNat) λy hy=>(hpn.2.1 y hy).1
  have:=hl _ (Au hat)
  unfold Dp;omega
 unfold EM;rw[AG (λq=>q h1),CM];unfold Jq;rw[hst,AG (by decide),AG hfl]
theorem jX {L:List AE}(h:∀y∈L,y.mass=1):BP L=L:=by
 induction L with
 |nil=>rfl
 |cons x L ih=>
  have hx:=h x (B1 ..);rw[Hu,ih λy hy=>h y (B9 _ hy),hx];show x.w 1::L=_;rw[<-hx];rfl
theorem sV {x:Av}{c:List AE}{m:Nat}:BP (BZ (Ef x c m))=Ef x c m:=by
 have h1:∀y∈Ef x c m,y.mass=1:=λy hy=>Iy y (MX y hy)
 rw[SJ λy hy=>by rw[h1 y hy];omega,jX h1]
theorem rQ {x:Av}{c:List AE}{m:Nat}:BP (BZ (GN x c m))=GN x c m:=by
 have h1:∀y∈GN x c m,y.mass=1:=λy hy=>Iy y (NS y hy)
 rw[SJ λy hy=>by rw[h1 y hy];omega,jX h1]
theorem VC {x:Av}{k:Nat}{m:Int}(hk:k<x.cells.length):CC (CT x (k:Int) m) (k:Int)=BZ (Ef x (CC x (k:Int)) m.toNat):=by
 have:(CT x (k:Int) m).cells[k]?=some (BZ (Ef x (CC x (k:Int)) m.toNat)):=by
  show((x.cells.map BZ).set ((k:Int).toNat) _)[k]?=_;rw[HG,TW (by rw[Ae];exact hk)]
 have h2:=Nm (x:=CT x (k:Int) m) (k:=k) (by rw[show(CT x (k:Int) m).cells.length=x.cells.length from PP ..];exact hk);rw[this]at h2;exact(FY h2).symm
theorem nU {x:Av}{k:Nat}{m:Int}(h:EM x (k:Int) m=0)(hk:k<x.cells.length):Eo (DC (Dp x (k:Int) m)++DC (CC (CT x (k:Int) m) (k:Int))) []=DC (CC x (k:Int)):=by
 have v:=WS h;have ok:=Nl v.one;have hpn:=EJ ok.par;have hpos:∀y∈CC x (k:Int),1<=y.mass:=λy hy=>(hpn.2.1 y hy).1
 have hmn:m.toNat<=(BP (CC x (k:Int))).length:=by have:=ok.nn;have:=v.mle;have:=ok.mm;omega
 rw[VC hk];refine qc hpos (LQ λy hy=>by rw[Iy y (NS y hy)];exact Int.le_refl _) (LQ λy hy=>by rw[Iy y (MX y hy)];exact Int.le_refl _) ?_;show(BP (BZ (GN x (CC x (k:Int)) m.toNat))++_).Perm _;rw[rQ,sV];exact mv hmn
theorem e0G (x:Av)(hl:x.cells.length<=9223372036854775807)(hs:∀c∈x.cells,c.length<=9223372036854775807/\∀y∈c,y.shs.length<=9223372036854775807):AL C0 4 [x.D] (Ap (QH x)):=by
 refine Ad.walk w1 e0t rfl λF=>?_
 have cS:=qf x hl hs;have hk:=@fk x;have cF:=d9n x 999999999;have hE:QH x=(Lq x&&OT x 999999999):=rfl;have hx:∃a b c d e,x.D=.agg [a,b,c,d,e]:=⟨_,_,_,_,_,rfl⟩
 have px:AA x.D:=AJ;have px2:AX x.D:=AJ;obtain⟨a1,a2,a3,a4,a5,hx⟩:=hx;rw[hx]at cS cF px px2⊢;rw[hE];cases hsh:Lq x
 ·rw[hsh]at cS
  rw[II];refine AH AW kB cS AB AB AB AB AB ?_;exact AM rfl AA.out
 rw[hsh]at cS;rw[HI];obtain⟨k1,k2,k3⟩:=hk hsh;have cF:=cF (by omega) λc q=>⟨by have:=(k3 c q).2;omega,λy h=>((k3 c q).1 y h).2⟩
 refine AH AW kB cS cF AB AB AB AB ?_;exact AM rfl AA.out
structure Wx (x:Av):Prop where
 sm:gt x 999999999
 few:∀c∈x.cells,∀y∈c,y.lite/\y.modr
 shr:Lq x=true
theorem xi {x:Av}(h:QH x=true):Wx x:=by
 unfold QH at h;rw[BU]at h;obtain⟨k1,k2,k3⟩:=fk h.1;exact⟨uP h.2,λc hc=>(k3 c hc).1,h.1⟩
end Go.Ide
