/- The layer of own lemmas and contracts, part 9. -/
import Derived.Test.YtpghcedmmpcfeaaGreatDoorS8
import Derived.Test.YtpghcedmmpcfeaaGreatDoorS7
set_option linter.unusedVariables false
set_option linter.unusedSimpArgs false
namespace Go.Ide
open Go.Proofs Go.RowKit
set_option maxRecDepth 20000
set_option maxHeartbeats 2000000
theorem oQ (c:Nat):(97<=c/\c<=122)\/(122<c)\/(65<=c/\c<=90)\/((91<=c/\c<=96)/\c≠95)\/(c=95)\/(58<=c/\c<=64)\/(48<=c/\c<=57)\/(c<48/\c≠45/\c≠46)\/(c=45)\/(c=46):=by omega
theorem jT (l:List UInt8)(hl:l.length<=1000000):AL C0 77 [str (sb l)] (Ap (D8 l)):=by
 refine Ad.walk w1 zT rfl λF=>?_
 have hsz:=Cx l;refine sR 0 ?_;refine DL (α:=Nat) (λn=>⟨[(0,str (sb l))],[],n⟩) (λ_=>1<=l.length/\l.length<=24) ?_ ?_
 ·by_cases h1:l.length<1
  ·have e1:decide ((l.length:Int)<1)=true:=BX
   refine sZ 100 ?_;refine AV (Ab hsz e1) ?_;refine AF kT ?_;refine AO ?_;refine sR 200 ?_;refine Ag ?_;exact AM (by unfold D8;rw[A8 (show ¬ 1<=l.length by omega)];simp) AA.out
  ·have e1:decide ((l.length:Int)<1)=false:=Bc
   have e2:decide ((l.length:Int)>24)=decide (24<l.length):=DO.2 (by omega);refine sZ 100 ?_;refine AV (Ab hsz e1) ?_;refine AF (Ar kF hsz e2) ?_
   by_cases h2:24<l.length
   ·rw[Ax h2]
    refine AO ?_;refine sR 200 ?_;refine Ag ?_;exact AM (by unfold D8;rw[A8 (show ¬l.length<=24 by omega)];simp) AA.out
   ·rw[A8 h2]
    refine AO ?_;refine Am ?_;exact⟨rfl,_,⟨by omega,by omega⟩,AK⟩
 rintro n0 ⟨l1,l2⟩;refine AC.seq ?_;refine sR 300 ?_;refine AC.block ?_;refine AC.loop (α:=Nat×Nat) (λp=>⟨[(0,str (sb l)),(3,i64 (p.1:Int))],[],p.2⟩) (λp=>l.length-p.1) (λp=>p.1<=l.length/\(l.take p.1).all (λb=>C8 b.toNat)=true) (0,_) ⟨BT _,rfl⟩ AK ?_;rintro⟨i,n⟩ F ⟨hi,ha⟩;dsimp only at hi ha⊢;refine AC.seq ?_;refine sZ 400 ?_;refine AV hsz ?_;refine AO ?_
 (refine B7 (λhlt=>?_) (λhlt=>?_))<;>(try simp only[Bs,B5]at hlt)<;>(try simp only[hlt])
 ·have hi2:i<l.length:=by
   have:=DN hlt
   omega
  obtain⟨c,hc⟩:∃c,l[i]?=some c:=⟨l[i],Bx hi2⟩
  have hg:l.getD i 0=c:=by simp[hc]
  have wi:IntKind.i64.wrap ((i:Int)+1)=((i+1:Nat):Int):=wI;refine Am ?_;refine AC.seq ?_;refine AC.block ?_;refine sZ 600 ?_;refine AV (Ab kN hg) ?_;have hcl:C8 c.toNat=false->D8 l=false:=λh=>by
   unfold D8;cases hall:l.all (λb=>C8 b.toNat)
   ·rfl
   ·have:=CY.1 hall c (Au hc)
    rw[h]at this;cases this
  have hsn:C8 c.toNat=true->(l.take (i+1)).all (λb=>C8 b.toNat)=true:=λh=>by
   rw[Du,hc,Ky,ha];simpa using h
  have hc9:c.toNat<256:=c.toNat_lt;generalize c.toNat=c at*;refine DL (α:=Nat) (λn=>⟨[(0,str (sb l)),(3,i64 (i:Int)),(56,Ap (!C8 c))],[],n⟩) (λ_=>True) ?_ ?_
  ·clear hcl hsn
   rcases oQ c with h|h|h|h|h|h|h|h|h|h
   ·skip
    have f1:decide ((c:Int)>=97)=true:=BX;have f2:decide ((c:Int)<=122)=true:=BX;have f3:decide ((c:Int)>=65)=true:=BX;have f4:decide ((c:Int)<=90)=false:=Bc;have f5:decide ((c:Int)>=48)=true:=BX;have f6:decide ((c:Int)<=57)=false:=Bc;have f7:((c:Int)==45)=false:=B4.2 (by omega);have f8:((c:Int)==95)=false:=B4.2 (by omega);have f9:((c:Int)==46)=false:=B4.2 (by omega);have hnb:C8 c=true:=by
     unfold C8;simp;omega
    rw[hnb];refine Aq 700 ?_
    iterate 9
     refine AF kB ?_
     try simp only[f1,f2,f3,f4,f5,f6,f7,f8,f9]
    exact⟨by first|exact AB|rfl|simp,_,trivial,AK⟩
   ·skip
    have f1:decide ((c:Int)>=97)=true:=BX;have f2:decide ((c:Int)<=122)=false:=Bc;have f3:decide ((c:Int)>=65)=true:=BX;have f4:decide ((c:Int)<=90)=false:=Bc;have f5:decide ((c:Int)>=48)=true:=BX;have f6:decide ((c:Int)<=57)=false:=Bc;have f7:((c:Int)==45)=false:=B4.2 (by omega);have f8:((c:Int)==95)=false:=B4.2 (by omega);have f9:((c:Int)==46)=false:=B4.2 (by omega);have hnb:C8 c=false:=by
     unfold C8;simp;omega
    rw[hnb];refine Aq 700 ?_
    iterate 9
     refine AF kB ?_
     try simp only[f1,f2,f3,f4,f5,f6,f7,f8,f9]
    exact⟨by first|exact AB|rfl|simp,_,trivial,AK⟩
   ·skip
    have f1:decide ((c:Int)>=97)=false:=Bc;have f2:decide ((c:Int)<=122)=true:=BX;have f3:decide ((c:Int)>=65)=true:=BX;have f4:decide ((c:Int)<=90)=true:=BX;have f5:decide ((c:Int)>=48)=true:=BX;have f6:decide ((c:Int)<=57)=false:=Bc;have f7:((c:Int)==45)=false:=B4.2 (by omega);have f8:((c:Int)==95)=false:=B4.2 (by omega);have f9:((c:Int)==46)=false:=B4.2 (by omega);have hnb:C8 c=true:=by
     unfold C8;simp;omega
    rw[hnb];refine Aq 700 ?_
    iterate 9
     refine AF kB ?_
     try simp only[f1,f2,f3,f4,f5,f6,f7,f8,f9]
    exact⟨by first|exact AB|rfl|simp,_,trivial,AK⟩
   ·skip
    have f1:decide ((c:Int)>=97)=false:=Bc;have f2:decide ((c:Int)<=122)=true:=BX;have f3:decide ((c:Int)>=65)=true:=BX;have f4:decide ((c:Int)<=90)=false:=Bc;have f5:decide ((c:Int)>=48)=true:=BX;have f6:decide ((c:Int)<=57)=false:=Bc;have f7:((c:Int)==45)=false:=B4.2 (by omega);have f8:((c:Int)==95)=false:=B4.2 (by omega);have f9:((c:Int)==46)=false:=B4.2 (by omega);have hnb:C8 c=false:=by
     unfold C8;simp;omega
    rw[hnb];refine Aq 700 ?_
    iterate 9
     refine AF kB ?_
     try simp only[f1,f2,f3,f4,f5,f6,f7,f8,f9]
    exact⟨by first|exact AB|rfl|simp,_,trivial,AK⟩
   ·skip
    have f1:decide ((c:Int)>=97)=false:=Bc;have f2:decide ((c:Int)<=122)=true:=BX;have f3:decide ((c:Int)>=65)=true:=BX;have f4:decide ((c:Int)<=90)=false:=Bc;have f5:decide ((c:Int)>=48)=true:=BX;have f6:decide ((c:Int)<=57)=false:=Bc;have f7:((c:Int)==45)=false:=B4.2 (by omega);have f8:((c:Int)==95)=true:=Ek.2 (by omega);have f9:((c:Int)==46)=false:=B4.2 (by omega);have hnb:C8 c=true:=by
     unfold C8;simp;omega
    rw[hnb];refine Aq 700 ?_
    iterate 9
     refine AF kB ?_
     try simp only[f1,f2,f3,f4,f5,f6,f7,f8,f9]
    exact⟨by first|exact AB|rfl|simp,_,trivial,AK⟩
   ·skip
    have f1:decide ((c:Int)>=97)=false:=Bc;have f2:decide ((c:Int)<=122)=true:=BX;have f3:decide ((c:Int)>=65)=false:=Bc;have f4:decide ((c:Int)<=90)=true:=BX;have f5:decide ((c:Int)>=48)=true:=BX;have f6:decide ((c:Int)<=57)=false:=Bc;have f7:((c:Int)==45)=false:=B4.2 (by omega);have f8:((c:Int)==95)=false:=B4.2 (by omega);have f9:((c:Int)==46)=false:=B4.2 (by omega);have hnb:C8 c=false:=by
     unfold C8;simp;omega
    rw[hnb];refine Aq 700 ?_
    iterate 9
     refine AF kB ?_
     try simp only[f1,f2,f3,f4,f5,f6,f7,f8,f9]
    exact⟨by first|exact AB|rfl|simp,_,trivial,AK⟩
   ·skip
    have f1:decide ((c:Int)>=97)=false:=Bc;have f2:decide ((c:Int)<=122)=true:=BX;have f3:decide ((c:Int)>=65)=false:=Bc;have f4:decide ((c:Int)<=90)=true:=BX;have f5:decide ((c:Int)>=48)=true:=BX;have f6:decide ((c:Int)<=57)=true:=BX;have f7:((c:Int)==45)=false:=B4.2 (by omega);have f8:((c:Int)==95)=false:=B4.2 (by omega);have f9:((c:Int)==46)=false:=B4.2 (by omega);have hnb:C8 c=true:=by
     unfold C8;simp;omega
    rw[hnb];refine Aq 700 ?_
    iterate 9
     refine AF kB ?_
     try simp only[f1,f2,f3,f4,f5,f6,f7,f8,f9]
    exact⟨by first|exact AB|rfl|simp,_,trivial,AK⟩
   ·skip
    have f1:decide ((c:Int)>=97)=false:=Bc;have f2:decide ((c:Int)<=122)=true:=BX;have f3:decide ((c:Int)>=65)=false:=Bc;have f4:decide ((c:Int)<=90)=true:=BX;have f5:decide ((c:Int)>=48)=false:=Bc;have f6:decide ((c:Int)<=57)=true:=BX;have f7:((c:Int)==45)=false:=B4.2 (by omega);have f8:((c:Int)==95)=false:=B4.2 (by omega);have f9:((c:Int)==46)=false:=B4.2 (by omega);have hnb:C8 c=false:=by
     unfold C8;simp;omega
    rw[hnb];refine Aq 700 ?_
    iterate 9
     refine AF kB ?_
     try simp only[f1,f2,f3,f4,f5,f6,f7,f8,f9]
    exact⟨by first|exact AB|rfl|simp,_,trivial,AK⟩
   ·skip
    have f1:decide ((c:Int)>=97)=false:=Bc;have f2:decide ((c:Int)<=122)=true:=BX;have f3:decide ((c:Int)>=65)=false:=Bc;have f4:decide ((c:Int)<=90)=true:=BX;have f5:decide ((c:Int)>=48)=false:=Bc;have f6:decide ((c:Int)<=57)=true:=BX;have f7:((c:Int)==45)=true:=Ek.2 (by omega);have f8:((c:Int)==95)=false:=B4.2 (by omega);have f9:((c:Int)==46)=false:=B4.2 (by omega);have hnb:C8 c=true:=by
     unfold C8;simp;omega
    rw[hnb];refine Aq 700 ?_
    iterate 9
     refine AF kB ?_
     try simp only[f1,f2,f3,f4,f5,f6,f7,f8,f9]
    exact⟨by first|exact AB|rfl|simp,_,trivial,AK⟩
   ·skip
    have f1:decide ((c:Int)>=97)=false:=Bc;have f2:decide ((c:Int)<=122)=true:=BX;have f3:decide ((c:Int)>=65)=false:=Bc;have f4:decide ((c:Int)<=90)=true:=BX;have f5:decide ((c:Int)>=48)=false:=Bc;have f6:decide ((c:Int)<=57)=true:=BX;have f7:((c:Int)==45)=false:=B4.2 (by omega);have f8:((c:Int)==95)=false:=B4.2 (by omega);have f9:((c:Int)==46)=true:=Ek.2 (by omega);have hnb:C8 c=true:=by
     unfold C8;simp;omega
    rw[hnb];refine Aq 700 ?_
    iterate 9
     refine AF kB ?_
     try simp only[f1,f2,f3,f4,f5,f6,f7,f8,f9]
    exact⟨by first|exact AB|rfl|simp,_,trivial,AK⟩
  rintro n1 -;cases hb:C8 c
  ·refine AO ?_
   refine sR 800 ?_;refine Ag ?_;exact AM (by rw[hcl hb]) AA.out
  ·refine AO ?_
   refine Am ?_;refine Aq 500 ?_;refine AV wi ?_;exact⟨(i+1,_),⟨hi2,hsn hb⟩,by dsimp only;omega,AK⟩
 ·have hi2:i=l.length:=by
   have:=Ds hlt
   omega
  subst hi2;rw[Cp (An _)]at ha;refine CO ?_;refine sR 900 ?_;refine Ag ?_;exact AM (by unfold D8;rw[ha,Ax l1,Ax l2];rfl) AA.out
def E7:List Int->Int
 | []=>0
 |e::r=>if e≠0 then e else E7 r
theorem X3 {v:List Int}{i:Nat}(h:∀(j:Nat) (e:Int),j<i->v[j]?=some e->e=0):E7 v=E7 (v.drop i):=by
 induction i generalizing v with
 |zero=>rfl
 |succ i ih=>
  cases v with
  |nil=>rfl
  |cons l r=>
   have h0:=h 0 l (Nat.succ_pos i) rfl;rw[Tc];show(if l≠0 then l else E7 r)=_;rw[AG (λhh=>hh h0)];exact ih λj m hj hm=>h (j+1) m (by omega) hm
theorem I7 {a:Int}(h:a≠0):(a != 0)=true:=by
 have:(a==0)=false:=B4.2 h
 unfold bne;rw[this];rfl
theorem am {l:List UInt8}(h:Cj l=0):M5 (Bv l):=Vf (Nv h) (by decide)
theorem LI (a b:List UInt8):BI (sb a) (sb b)=decide (a=b):=by
 unfold BI
 by_cases h:a=b
 ·subst h;simp
 ·rw[A8 h]
  apply B4.2;intro hh;apply h;simpa[sb]using hh
def EH (f:Nat->Nat):Nat->Nat
 | 0=>0
 |n+1=>if EH f n≠0 then EH f n else f n
theorem MK {f:Nat->Nat}{n:Nat}(h:∀j,j<n->f j=0):EH f n=0:=by
 induction n with
 |zero=>rfl
 |succ n ih=>
  have:=ih λj hj=>h j (by omega)
  unfold EH;rw[AG (λhh=>hh this)];exact h n (by omega)
theorem PZ {f:Nat->Nat}{i n:Nat}(h:∀j,j<i->f j=0)(hi:i<n)(h0:f i≠0):EH f n=f i:=by
 induction n with
 |zero=>omega
 |succ n ih=>
  unfold EH;rcases BC i n with hlt|hge
  ·have:=ih hlt
   rw[AI (by rw[this];exact h0),this]
  ·have:i=n:=by omega
   subst this;rw[AG (λhh=>hh (MK h))]
theorem PI {f:Nat->Nat}{n:Nat}(h:EH f n=0):∀j,j<n->f j=0:=by
 induction n with
 |zero=>intro j hj;omega
 |succ n ih=>
  unfold EH at h
  by_cases h0:EH f n=0
  ·rw[AG (λhh=>hh h0)]at h
   intro j hj;rcases BC j n with hl|hg
   ·exact ih h0 j hl
   ·have:j=n:=by omega
    subst this;exact h
  ·rw[AI h0]at h
   exact Ak h h0
structure Mw where
 name:List UInt8
 least:List (List UInt8)
 most:List (List UInt8)
 deriving Inhabited
def Mw.D (g:Mw):D:=.agg [str (sb g.name),.sl false 1 (g.least.map λl=>str (sb l)),.sl false 1 (g.most.map λl=>str (sb l))]
instance  (g:Mw):AX g.D:=by unfold Mw.D;exact AJ
instance  (g:Mw):AA g.D:=by unfold Mw.D;exact AJ
def lv (l:List (List UInt8))(k:Nat):List UInt8:=l.getD k []
def u6 (gs:List Mw)(i k:Nat):Option (List UInt8×List UInt8):=if i=0 then none else some (lv (gs.getD (i-1) default).least k,lv (gs.getD (i-1) default).most k)
theorem kZ {α:Type}{l:List α}{p:α->Bool}{i:Nat}(h:∀(j:Nat) (x:α),j<i->l[j]?=some x->p x=false):(l.take i).any p=false:=by
 rw[List.any_eq_false];intro x hx;obtain⟨j,hj,e⟩:=List.mem_iff_getElem.1 hx;have hj2:j<i:=by rw[Bd]at hj;omega
 have:l[j]?=some x:=by
  rw[<-e,List.getElem_take];exact Bx _
 rw[h j x hj2 this];simp
def Kl {α:Type}(p:α->Bool)(l:List α):Int:=if l.any p then(l.findIdx p:Int)else -1
theorem VA {α:Type}{p:α->Bool}{l:List α}{i:Nat}{x:α}(hx:l[i]?=some x)(h:p x=true)(ha:∀(j:Nat) (y:α),j<i->l[j]?=some y->p y=false):Kl p l=i:=by
 unfold Kl;obtain⟨hi,e⟩:=BS.1 hx;rw[AI (List.any_eq_true.2 ⟨x,Au hx,h⟩)]
 have:l.findIdx p=i:=(List.findIdx_eq hi).2 ⟨by rw[e];exact h,λj hj=>ha j _ hj (Bx _)⟩
 rw[this]
theorem UU {α:Type}{p:α->Bool}{l:List α}(ha:∀(j:Nat) (y:α),j<l.length->l[j]?=some y->p y=false):Kl p l = -1:=by
 unfold Kl
 have:=kZ (l:=l) (p:=p) (i:=l.length) ha
 rw[Cz]at this;rw[this];rfl
theorem VB {α:Type}(p:α->Bool)(l:List α):decide (Kl p l>=0)=l.any p:=by
 unfold Kl;cases l.any p
 ·rfl
 ·exact Ax (by simp)
end Go.Ide
