/- The layer of own lemmas and contracts, part 9. -/
import Derived.Test.YtaoojbnciofmcabGreatDoorR8
import Derived.Test.YtaoojbnciofmcabGreatDoorR7
set_option linter.unusedVariables false
set_option linter.unusedSimpArgs false
namespace Go.Ide
open Go.Proofs Go.RowKit
set_option maxRecDepth 20000
set_option maxHeartbeats 2000000
theorem nY (c:Nat):(97<=c/\c<=122)\/(122<c)\/(65<=c/\c<=90)\/((91<=c/\c<=96)/\c≠95)\/(c=95)\/(58<=c/\c<=64)\/(48<=c/\c<=57)\/(c<48/\c≠45/\c≠46)\/(c=45)\/(c=46):=by omega
theorem iN (l:List UInt8)(hl:l.length<=1000000):AL C0 112 [str (sb l)] (Al (D3 l)):=by
 refine Af.walk w1 uX rfl λF=>?_
 have hsz:=C3 l;refine sR 0 ?_;refine DJ (α:=Nat) (λn=>⟨[(0,str (sb l))],[],n⟩) (λ_=>1<=l.length/\l.length<=24) ?_ ?_
 ·by_cases h1:l.length<1
  ·have e1:decide ((l.length:Int)<1)=true:=BR
   refine sZ 100 ?_;refine AX (Aa hsz e1) ?_;refine AG kT ?_;refine AO ?_;refine sR 200 ?_;refine Aj ?_;exact AM (by unfold D3;rw[Az (show ¬ 1<=l.length by omega)];simp) AA.out
  ·have e1:decide ((l.length:Int)<1)=false:=Bd
   have e2:decide ((l.length:Int)>24)=decide (24<l.length):=DO.2 (by omega);refine sZ 100 ?_;refine AX (Aa hsz e1) ?_;refine AG (Ao kF hsz e2) ?_
   by_cases h2:24<l.length
   ·rw[Aw h2]
    refine AO ?_;refine sR 200 ?_;refine Aj ?_;exact AM (by unfold D3;rw[Az (show ¬l.length<=24 by omega)];simp) AA.out
   ·rw[Az h2]
    refine AO ?_;refine An ?_;exact⟨rfl,_,⟨by omega,by omega⟩,AK⟩
 rintro n0 ⟨l1,l2⟩;refine AC.seq ?_;refine sR 300 ?_;refine AC.block ?_;refine AC.loop (α:=Nat×Nat) (λp=>⟨[(0,str (sb l)),(3,i64 (p.1:Int))],[],p.2⟩) (λp=>l.length-p.1) (λp=>p.1<=l.length/\(l.take p.1).all (λb=>DD b.toNat)=true) (0,_) ⟨BW _,rfl⟩ AK ?_;rintro⟨i,n⟩ F ⟨hi,ha⟩;dsimp only at hi ha⊢;refine AC.seq ?_;refine sZ 400 ?_;refine AX hsz ?_;refine AO ?_
 (refine B1 (λhlt=>?_) (λhlt=>?_))<;>(try simp only[Bq,B0]at hlt)<;>(try simp only[hlt])
 ·have hi2:i<l.length:=by
   have:=DN hlt
   omega
  obtain⟨c,hc⟩:∃c,l[i]?=some c:=⟨l[i],Bs hi2⟩
  have hg:l.getD i 0=c:=by simp[hc]
  have wi:IntKind.i64.wrap ((i:Int)+1)=((i+1:Nat):Int):=wI;refine An ?_;refine AC.seq ?_;refine AC.block ?_;refine sZ 600 ?_;refine AX (Aa kN hg) ?_;have hcl:DD c.toNat=false->D3 l=false:=λh=>by
   unfold D3;cases hall:l.all (λb=>DD b.toNat)
   ·rfl
   ·have:=CW.1 hall c (Ax hc)
    rw[h]at this;cases this
  have hsn:DD c.toNat=true->(l.take (i+1)).all (λb=>DD b.toNat)=true:=λh=>by
   rw[Dp,hc,Ks,ha];simpa using h
  have hc9:c.toNat<256:=c.toNat_lt;generalize c.toNat=c at*;refine DJ (α:=Nat) (λn=>⟨[(0,str (sb l)),(3,i64 (i:Int)),(56,Al (!DD c))],[],n⟩) (λ_=>True) ?_ ?_
  ·clear hcl hsn
   rcases nY c with h|h|h|h|h|h|h|h|h|h
   ·skip
    have f1:decide ((c:Int)>=97)=true:=BR;have f2:decide ((c:Int)<=122)=true:=BR;have f3:decide ((c:Int)>=65)=true:=BR;have f4:decide ((c:Int)<=90)=false:=Bd;have f5:decide ((c:Int)>=48)=true:=BR;have f6:decide ((c:Int)<=57)=false:=Bd;have f7:((c:Int)==45)=false:=Bo.2 (by omega);have f8:((c:Int)==95)=false:=Bo.2 (by omega);have f9:((c:Int)==46)=false:=Bo.2 (by omega);have hnb:DD c=true:=by
     unfold DD;simp;omega
    rw[hnb];refine As 700 ?_
    iterate 9
     refine AG kB ?_
     try simp only[f1,f2,f3,f4,f5,f6,f7,f8,f9]
    exact⟨by first|exact AB|rfl|simp,_,trivial,AK⟩
   ·skip
    have f1:decide ((c:Int)>=97)=true:=BR;have f2:decide ((c:Int)<=122)=false:=Bd;have f3:decide ((c:Int)>=65)=true:=BR;have f4:decide ((c:Int)<=90)=false:=Bd;have f5:decide ((c:Int)>=48)=true:=BR;have f6:decide ((c:Int)<=57)=false:=Bd;have f7:((c:Int)==45)=false:=Bo.2 (by omega);have f8:((c:Int)==95)=false:=Bo.2 (by omega);have f9:((c:Int)==46)=false:=Bo.2 (by omega);have hnb:DD c=false:=by
     unfold DD;simp;omega
    rw[hnb];refine As 700 ?_
    iterate 9
     refine AG kB ?_
     try simp only[f1,f2,f3,f4,f5,f6,f7,f8,f9]
    exact⟨by first|exact AB|rfl|simp,_,trivial,AK⟩
   ·skip
    have f1:decide ((c:Int)>=97)=false:=Bd;have f2:decide ((c:Int)<=122)=true:=BR;have f3:decide ((c:Int)>=65)=true:=BR;have f4:decide ((c:Int)<=90)=true:=BR;have f5:decide ((c:Int)>=48)=true:=BR;have f6:decide ((c:Int)<=57)=false:=Bd;have f7:((c:Int)==45)=false:=Bo.2 (by omega);have f8:((c:Int)==95)=false:=Bo.2 (by omega);have f9:((c:Int)==46)=false:=Bo.2 (by omega);have hnb:DD c=true:=by
     unfold DD;simp;omega
    rw[hnb];refine As 700 ?_
    iterate 9
     refine AG kB ?_
     try simp only[f1,f2,f3,f4,f5,f6,f7,f8,f9]
    exact⟨by first|exact AB|rfl|simp,_,trivial,AK⟩
   ·skip
    have f1:decide ((c:Int)>=97)=false:=Bd;have f2:decide ((c:Int)<=122)=true:=BR;have f3:decide ((c:Int)>=65)=true:=BR;have f4:decide ((c:Int)<=90)=false:=Bd;have f5:decide ((c:Int)>=48)=true:=BR;have f6:decide ((c:Int)<=57)=false:=Bd;have f7:((c:Int)==45)=false:=Bo.2 (by omega);have f8:((c:Int)==95)=false:=Bo.2 (by omega);have f9:((c:Int)==46)=false:=Bo.2 (by omega);have hnb:DD c=false:=by
     unfold DD;simp;omega
    rw[hnb];refine As 700 ?_
    iterate 9
     refine AG kB ?_
     try simp only[f1,f2,f3,f4,f5,f6,f7,f8,f9]
    exact⟨by first|exact AB|rfl|simp,_,trivial,AK⟩
   ·skip
    have f1:decide ((c:Int)>=97)=false:=Bd;have f2:decide ((c:Int)<=122)=true:=BR;have f3:decide ((c:Int)>=65)=true:=BR;have f4:decide ((c:Int)<=90)=false:=Bd;have f5:decide ((c:Int)>=48)=true:=BR;have f6:decide ((c:Int)<=57)=false:=Bd;have f7:((c:Int)==45)=false:=Bo.2 (by omega);have f8:((c:Int)==95)=true:=ED.2 (by omega);have f9:((c:Int)==46)=false:=Bo.2 (by omega);have hnb:DD c=true:=by
     unfold DD;simp;omega
    rw[hnb];refine As 700 ?_
    iterate 9
     refine AG kB ?_
     try simp only[f1,f2,f3,f4,f5,f6,f7,f8,f9]
    exact⟨by first|exact AB|rfl|simp,_,trivial,AK⟩
   ·skip
    have f1:decide ((c:Int)>=97)=false:=Bd;have f2:decide ((c:Int)<=122)=true:=BR;have f3:decide ((c:Int)>=65)=false:=Bd;have f4:decide ((c:Int)<=90)=true:=BR;have f5:decide ((c:Int)>=48)=true:=BR;have f6:decide ((c:Int)<=57)=false:=Bd;have f7:((c:Int)==45)=false:=Bo.2 (by omega);have f8:((c:Int)==95)=false:=Bo.2 (by omega);have f9:((c:Int)==46)=false:=Bo.2 (by omega);have hnb:DD c=false:=by
     unfold DD;simp;omega
    rw[hnb];refine As 700 ?_
    iterate 9
     refine AG kB ?_
     try simp only[f1,f2,f3,f4,f5,f6,f7,f8,f9]
    exact⟨by first|exact AB|rfl|simp,_,trivial,AK⟩
   ·skip
    have f1:decide ((c:Int)>=97)=false:=Bd;have f2:decide ((c:Int)<=122)=true:=BR;have f3:decide ((c:Int)>=65)=false:=Bd;have f4:decide ((c:Int)<=90)=true:=BR;have f5:decide ((c:Int)>=48)=true:=BR;have f6:decide ((c:Int)<=57)=true:=BR;have f7:((c:Int)==45)=false:=Bo.2 (by omega);have f8:((c:Int)==95)=false:=Bo.2 (by omega);have f9:((c:Int)==46)=false:=Bo.2 (by omega);have hnb:DD c=true:=by
     unfold DD;simp;omega
    rw[hnb];refine As 700 ?_
    iterate 9
     refine AG kB ?_
     try simp only[f1,f2,f3,f4,f5,f6,f7,f8,f9]
    exact⟨by first|exact AB|rfl|simp,_,trivial,AK⟩
   ·skip
    have f1:decide ((c:Int)>=97)=false:=Bd;have f2:decide ((c:Int)<=122)=true:=BR;have f3:decide ((c:Int)>=65)=false:=Bd;have f4:decide ((c:Int)<=90)=true:=BR;have f5:decide ((c:Int)>=48)=false:=Bd;have f6:decide ((c:Int)<=57)=true:=BR;have f7:((c:Int)==45)=false:=Bo.2 (by omega);have f8:((c:Int)==95)=false:=Bo.2 (by omega);have f9:((c:Int)==46)=false:=Bo.2 (by omega);have hnb:DD c=false:=by
     unfold DD;simp;omega
    rw[hnb];refine As 700 ?_
    iterate 9
     refine AG kB ?_
     try simp only[f1,f2,f3,f4,f5,f6,f7,f8,f9]
    exact⟨by first|exact AB|rfl|simp,_,trivial,AK⟩
   ·skip
    have f1:decide ((c:Int)>=97)=false:=Bd;have f2:decide ((c:Int)<=122)=true:=BR;have f3:decide ((c:Int)>=65)=false:=Bd;have f4:decide ((c:Int)<=90)=true:=BR;have f5:decide ((c:Int)>=48)=false:=Bd;have f6:decide ((c:Int)<=57)=true:=BR;have f7:((c:Int)==45)=true:=ED.2 (by omega);have f8:((c:Int)==95)=false:=Bo.2 (by omega);have f9:((c:Int)==46)=false:=Bo.2 (by omega);have hnb:DD c=true:=by
     unfold DD;simp;omega
    rw[hnb];refine As 700 ?_
    iterate 9
     refine AG kB ?_
     try simp only[f1,f2,f3,f4,f5,f6,f7,f8,f9]
    exact⟨by first|exact AB|rfl|simp,_,trivial,AK⟩
   ·skip
    have f1:decide ((c:Int)>=97)=false:=Bd;have f2:decide ((c:Int)<=122)=true:=BR;have f3:decide ((c:Int)>=65)=false:=Bd;have f4:decide ((c:Int)<=90)=true:=BR;have f5:decide ((c:Int)>=48)=false:=Bd;have f6:decide ((c:Int)<=57)=true:=BR;have f7:((c:Int)==45)=false:=Bo.2 (by omega);have f8:((c:Int)==95)=false:=Bo.2 (by omega);have f9:((c:Int)==46)=true:=ED.2 (by omega);have hnb:DD c=true:=by
     unfold DD;simp;omega
    rw[hnb];refine As 700 ?_
    iterate 9
     refine AG kB ?_
     try simp only[f1,f2,f3,f4,f5,f6,f7,f8,f9]
    exact⟨by first|exact AB|rfl|simp,_,trivial,AK⟩
  rintro n1 -;cases hb:DD c
  ·refine AO ?_
   refine sR 800 ?_;refine Aj ?_;exact AM (by rw[hcl hb]) AA.out
  ·refine AO ?_
   refine An ?_;refine As 500 ?_;refine AX wi ?_;exact⟨(i+1,_),⟨hi2,hsn hb⟩,by dsimp only;omega,AK⟩
 ·have hi2:i=l.length:=by
   have:=Do hlt
   omega
  subst hi2;rw[Cn (Ar _)]at ha;refine CG ?_;refine sR 900 ?_;refine Aj ?_;exact AM (by unfold D3;rw[ha,Aw l1,Aw l2];rfl) AA.out
def Ck:List Int->Int
 | []=>0
 |e::r=>if e≠0 then e else Ck r
theorem Qt {v:List Int}{i:Nat}(h:∀(j:Nat) (e:Int),j<i->v[j]?=some e->e=0):Ck v=Ck (v.drop i):=by
 induction i generalizing v with
 |zero=>rfl
 |succ i ih=>
  cases v with
  |nil=>rfl
  |cons l r=>
   have h0:=h 0 l (Nat.succ_pos i) rfl;rw[TX];show(if l≠0 then l else Ck r)=_;rw[AH (λhh=>hh h0)];exact ih λj m hj hm=>h (j+1) m (by omega) hm
theorem FW {a:Int}(h:a≠0):(a != 0)=true:=by
 have:(a==0)=false:=Bo.2 h
 unfold bne;rw[this];rfl
theorem Z6 {l:List UInt8}(h:Cr l=0):M6 (Cd l):=VU (No h) (by decide)
theorem LH (a b:List UInt8):BJ (sb a) (sb b)=decide (a=b):=by
 unfold BJ
 by_cases h:a=b
 ·subst h;simp
 ·rw[Az h]
  apply Bo.2;intro hh;apply h;simpa[sb]using hh
def EC (f:Nat->Nat):Nat->Nat
 | 0=>0
 |n+1=>if EC f n≠0 then EC f n else f n
theorem MN {f:Nat->Nat}{n:Nat}(h:∀j,j<n->f j=0):EC f n=0:=by
 induction n with
 |zero=>rfl
 |succ n ih=>
  have:=ih λj hj=>h j (by omega)
  unfold EC;rw[AH (λhh=>hh this)];exact h n (by omega)
theorem Pb {f:Nat->Nat}{i n:Nat}(h:∀j,j<i->f j=0)(hi:i<n)(h0:f i≠0):EC f n=f i:=by
 induction n with
 |zero=>omega
 |succ n ih=>
  unfold EC;rcases BE i n with hlt|hge
  ·have:=ih hlt
   rw[AI (by rw[this];exact h0),this]
  ·have:i=n:=by omega
   subst this;rw[AH (λhh=>hh (MN h))]
theorem Rg {f:Nat->Nat}{n:Nat}(h:EC f n=0):∀j,j<n->f j=0:=by
 induction n with
 |zero=>intro j hj;omega
 |succ n ih=>
  unfold EC at h
  by_cases h0:EC f n=0
  ·rw[AH (λhh=>hh h0)]at h
   intro j hj;rcases BE j n with hl|hg
   ·exact ih h0 j hl
   ·have:j=n:=by omega
    subst this;exact h
  ·rw[AI h0]at h
   exact Ak h h0
structure My where
 name:List UInt8
 least:List (List UInt8)
 most:List (List UInt8)
 deriving Inhabited
def My.D (g:My):D:=.agg [str (sb g.name),.sl false 1 (g.least.map λl=>str (sb l)),.sl false 1 (g.most.map λl=>str (sb l))]
instance  (g:My):AS g.D:=by unfold My.D;exact AJ
instance  (g:My):AA g.D:=by unfold My.D;exact AJ
def lv (l:List (List UInt8))(k:Nat):List UInt8:=l.getD k []
def t8 (gs:List My)(i k:Nat):Option (List UInt8×List UInt8):=if i=0 then none else some (lv (gs.getD (i-1) default).least k,lv (gs.getD (i-1) default).most k)
theorem jd {α:Type}{l:List α}{p:α->Bool}{i:Nat}(h:∀(j:Nat) (x:α),j<i->l[j]?=some x->p x=false):(l.take i).any p=false:=by
 rw[List.any_eq_false];intro x hx;obtain⟨j,hj,e⟩:=List.mem_iff_getElem.1 hx;have hj2:j<i:=by rw[Bc]at hj;omega
 have:l[j]?=some x:=by
  rw[<-e,List.getElem_take];exact Bs _
 rw[h j x hj2 this];simp
def Ki {α:Type}(p:α->Bool)(l:List α):Int:=if l.any p then(l.findIdx p:Int)else -1
theorem U4 {α:Type}{p:α->Bool}{l:List α}{i:Nat}{x:α}(hx:l[i]?=some x)(h:p x=true)(ha:∀(j:Nat) (y:α),j<i->l[j]?=some y->p y=false):Ki p l=i:=by
 unfold Ki;obtain⟨hi,e⟩:=BS.1 hx;rw[AI (List.any_eq_true.2 ⟨x,Ax hx,h⟩)]
 have:l.findIdx p=i:=(List.findIdx_eq hi).2 ⟨by rw[e];exact h,λj hj=>ha j _ hj (Bs _)⟩
 rw[this]
theorem UN {α:Type}{p:α->Bool}{l:List α}(ha:∀(j:Nat) (y:α),j<l.length->l[j]?=some y->p y=false):Ki p l = -1:=by
 unfold Ki
 have:=jd (l:=l) (p:=p) (i:=l.length) ha
 rw[Cw]at this;rw[this];rfl
theorem U5 {α:Type}(p:α->Bool)(l:List α):decide (Ki p l>=0)=l.any p:=by
 unfold Ki;cases l.any p
 ·rfl
 ·exact Aw (by simp)
end Go.Ide
