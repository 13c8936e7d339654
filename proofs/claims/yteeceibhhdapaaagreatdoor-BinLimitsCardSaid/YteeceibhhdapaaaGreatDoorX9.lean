/- The layer of own lemmas and contracts, part 9. -/
import Derived.Test.YteeceibhhdapaaaGreatDoorX8
import Derived.Test.YteeceibhhdapaaaGreatDoorX7
import Derived.Test.YteeceibhhdapaaaGreatDoorX3
set_option linter.unusedVariables false
set_option linter.unusedSimpArgs false
namespace Go.Ide
open Go.Proofs Go.RowKit
structure Au where
 lot:List UInt8
 part:List UInt8
def Au.D (s:Au):D:=.agg [str (sb s.lot),str (sb s.part)]
instance d8q (s:Au):AT s.D:=by unfold Au.D;exact AI
instance d8r (s:Au):AA s.D:=by unfold Au.D;exact AI
abbrev Cb (b:Bool)(l:List Au):D:=.sl b 2 (l.map Au.D)
def Au.few (s:Au):Prop:=s.lot.length<=100000/\s.part.length<=100000
def Fc (l:List Au)(k:Nat):Au:=l.getD k ⟨[],[]⟩
theorem JO {l:List Au}{k:Nat}{s:Au}(h:l[k]?=some s):Fc l k=s:=by unfold Fc;rw[Da,h];rfl
structure AE where
 grain:List UInt8
 mass:Int
 shs:List Au
def AE.D (x:AE):D:=.agg [str (sb x.grain),i64 x.mass,Cb false x.shs]
instance d7n (x:AE):AT x.D:=by unfold AE.D;exact AI
instance d7o (x:AE):AA x.D:=by unfold AE.D;exact AI
abbrev Al (b:Bool)(l:List AE):D:=.sl b 3 (l.map AE.D)
theorem Ox (z:Int)(h:Sm z):AJ C0 105 [i64 z] (⟨AY z,1⟩:GF).D:=by
 have e:(⟨AY z,1⟩:GF).D=L5 z 1:=by
  unfold GF.D;rw[UP,JL h];rfl
 rw[e];exact x5 z
theorem nF {n:GI}{k:Nat}(h:n.wf)(hk:1<=k)(hl:(Af n.z.natAbs).length<=k):FR (n.z:Rat) ⟨n,1⟩ k:=by
 refine⟨⟨h,(Rat.num_intCast _).symm,(Rat.den_intCast _).symm⟩,?_⟩;unfold rk;rw[Rat.num_intCast,Rat.den_intCast];exact⟨hl,BU (Gu (n:=1) (k:=1) (by decide)) hk⟩
theorem QW {z:Int}(h:z.natAbs<18446744073709551616):FR (z:Rat) ⟨AY z,1⟩ 1:=by
 have:=nF (n:=AY z) (k:=1) (Cc _) (Ai _) (by rw[Dk];exact Gu (k:=1) (by unfold BB;omega))
 rwa [Dk]at this
open Go.ChangeShapes Go.WideShapes
def PS (P:Program)(t:Nat):Option (List (Nat×Nat×Nat)):=match P.underlying t with
 |some (.struct fs)=>some (fs.toList.map λf=>(f.type,f.offset,P.cellsOf f.type))
 |_=>none
section
variable {H:Type} {enc:TypeId×Value->H} {W:World} {fuel:Nat} {cs:List Value} {x:DataW H×List MemPlace} {t:TypeId}
theorem Uu {l:List (Nat×Nat×Nat)}{m:Nat}(hs:PS Tryz.prog t=some l)(hm:Tryz.prog.cellsOf t=m)(h:DataW.trod enc Tryz.prog W 0 (λ_=>true) true fuel t cs=some x):
  cs.length=m/\∃n,∀(i u off k:Nat),l[i]?=some (u,off,k)->∃y,DataW.trod enc Tryz.prog W 0 (λ_=>true) true n u ((cs.drop off).take k)=some y:=by
 unfold PS at hs;split at hs
 ·rename_i fs hu
  obtain⟨h1,n,h2⟩:=jg hu h;refine⟨h1.trans hm,n,λi u off k hl=>?_⟩;obtain rfl:=Fs hs;rw[A0]at hl;obtain⟨f,hf,he⟩:=Option.map_eq_some_iff.1 hl;cases he;exact h2 i f (by rw[<-Iy];exact hf)
 ·cases hs
theorem LP {a b c:Nat}{p q:List D}(h:Dg W ((cs.drop a).take b) p)(k:Dg W ((cs.drop (a+b)).take c) q):Dg W ((cs.drop a).take (b+c)) (p++q):=by
 rw[List.take_add,List.drop_drop];exact h.append k
theorem UM {n:Nat}{p:List D}(hn:cs.length=n)(h:Dg W ((cs.drop 0).take n) p):Dg W cs p:=by
 rw[FG,<-hn,Cf]at h;exact h
theorem uG (h:DataW.trod enc Tryz.prog W 0 (λ_=>true) true fuel 80 cs=some x):∃l:List UInt8,Dg W cs (str (sb l)).cells/\l.length<=maxLen:=bh (by kernel_rfl) h
theorem Sg (h:DataW.trod enc Tryz.prog W 0 (λ_=>true) true fuel 9 cs=some x):∃l:List UInt8,Dg W cs [str (sb l)]/\l.length<=maxLen:=bh (by kernel_rfl) h
theorem RG (h:DataW.trod enc Tryz.prog W 0 (λ_=>true) true fuel 3 cs=some x):∃z:Int,Dg W cs [i64 z]:=by
 obtain⟨z,_,_,h⟩:=uF (by kernel_rfl) h;exact⟨z,h⟩
theorem lh (h:DataW.trod enc Tryz.prog W 0 (λ_=>true) true fuel 82 cs=some x):∃s:Au,Dg W cs s.D.cells/\True:=by
 obtain⟨h1,n,h2⟩:=Uu (l:=[(9,0,1),(80,1,1)]) (m:=2) (by kernel_rfl) (by kernel_rfl) h;obtain⟨y0,k0⟩:=h2 0 _ _ _ rfl;obtain⟨y1,k1⟩:=h2 1 _ _ _ rfl;obtain⟨a0,r0,_⟩:=Sg k0;obtain⟨a1,r1,_⟩:=uG k1;exact⟨⟨a0,a1⟩,UM h1 (LP (b:=1) (c:=1) r0 r1),trivial⟩
theorem ji (h:DataW.trod enc Tryz.prog W 0 (λ_=>true) true fuel 25 cs=some x):∃l:List Au,Dg W cs [Cb false l]/\(∀a∈l,True)/\l.length<=maxLen:=
 Ut (g:=Au.D) (ok:=λ_=>True) (e:=82) (sz:=2) (by kernel_rfl) (by kernel_rfl) (by decide) (λ_ _ _ h=>lh h) h
theorem lg (h:DataW.trod enc Tryz.prog W 0 (λ_=>true) true fuel 27 cs=some x):∃s:AE,Dg W cs s.D.cells/\s.shs.length<=maxLen:=by
 obtain⟨h1,n,h2⟩:=Uu (l:=[(9,0,1),(3,1,1),(25,2,1)]) (m:=3) (by kernel_rfl) (by kernel_rfl) h;obtain⟨y0,k0⟩:=h2 0 _ _ _ rfl;obtain⟨y1,k1⟩:=h2 1 _ _ _ rfl;obtain⟨y2,k2⟩:=h2 2 _ _ _ rfl;obtain⟨a0,r0,_⟩:=Sg k0;obtain⟨a1,r1⟩:=RG k1;obtain⟨a2,r2,_,hl⟩:=ji k2;exact⟨⟨a0,a1,a2⟩,UM h1 (LP (b:=1) (c:=2) r0 (LP (b:=1) (c:=1) r1 r2)),hl⟩
theorem jh (h:DataW.trod enc Tryz.prog W 0 (λ_=>true) true fuel 22 cs=some x):∃l:List AE,Dg W cs [Al false l]/\(∀a∈l,a.shs.length<=maxLen)/\l.length<=maxLen:=
 Ut (g:=AE.D) (ok:=λs=>s.shs.length<=maxLen) (e:=27) (sz:=3) (by kernel_rfl) (by kernel_rfl) (by decide) (λ_ _ _ h=>lg h) h
end
set_option maxRecDepth 20000
set_option maxHeartbeats 2000000
theorem jq (c:Nat):(97<=c/\c<=122)\/(122<c)\/(65<=c/\c<=90)\/((91<=c/\c<=96)/\c≠95)\/(c=95)\/(58<=c/\c<=64)\/(48<=c/\c<=57)\/(c<48/\c≠45/\c≠46)\/(c=45)\/(c=46):=by omega
theorem dj (l:List UInt8)(hl:l.length<=1000000):AJ C0 65 [str (sb l)] (Ap (DZ l)):=by
 refine Ag.walk w1 vN rfl λF=>?_
 have hsz:=Cd l;refine sR 0 ?_;refine Cz (α:=Nat) (λn=>⟨[(0,str (sb l))],[],n⟩) (λ_=>1<=l.length/\l.length<=24) ?_ ?_
 ·by_cases h1:l.length<1
  ·have e1:decide ((l.length:Int)<1)=true:=AX (by omega)
   refine sZ 100 ?_;refine AU (Ae hsz e1) ?_;refine AD kT ?_;refine AM ?_;refine sR 200 ?_;refine Aj ?_;exact AL (by unfold DZ;rw[Ad (show ¬ 1<=l.length by omega)];simp) AA.out
  ·have e1:decide ((l.length:Int)<1)=false:=Ad (by omega)
   have e2:decide ((l.length:Int)>24)=decide (24<l.length):=C4.2 (by omega);refine sZ 100 ?_;refine AU (Ae hsz e1) ?_;refine AD (As kF hsz e2) ?_
   by_cases h2:24<l.length
   ·rw[AX h2]
    refine AM ?_;refine sR 200 ?_;refine Aj ?_;exact AL (by unfold DZ;rw[Ad (show ¬l.length<=24 by omega)];simp) AA.out
   ·rw[Ad h2]
    refine AM ?_;refine Am ?_;exact⟨rfl,_,⟨by omega,by omega⟩,AK⟩
 rintro n0 ⟨l1,l2⟩;refine AC.seq ?_;refine sR 300 ?_;refine AC.block ?_;refine AC.loop (α:=Nat×Nat) (λp=>⟨[(0,str (sb l)),(3,i64 (p.1:Int))],[],p.2⟩) (λp=>l.length-p.1) (λp=>p.1<=l.length/\(l.take p.1).all (λb=>Cq b.toNat)=true) (0,_) ⟨BS _,rfl⟩ AK ?_;rintro⟨i,n⟩ F ⟨hi,ha⟩;dsimp only at hi ha⊢;refine AC.seq ?_;refine sZ 400 ?_;refine AU hsz ?_;refine AM ?_
 (refine Bw (λhlt=>?_) (λhlt=>?_))<;>(try simp only[Bi,Bv]at hlt)<;>(try simp only[hlt])
 ·have hi2:i<l.length:=by
   have:=DA hlt
   omega
  obtain⟨c,hc⟩:∃c,l[i]?=some c:=⟨l[i],BE hi2⟩
  have hg:l.getD i 0=c:=by simp[hc]
  have wi:IntKind.i64.wrap ((i:Int)+1)=((i+1:Nat):Int):=wI (by omega) (by omega);refine Am ?_;refine AC.seq ?_;refine AC.block ?_;refine sZ 600 ?_;refine AU (Ae kN hg) ?_;have hcl:Cq c.toNat=false->DZ l=false:=λh=>by
   unfold DZ;cases hall:l.all (λb=>Cq b.toNat)
   ·rfl
   ·have:=CS.1 hall c (Ax hc)
    rw[h]at this;cases this
  have hsn:Cq c.toNat=true->(l.take (i+1)).all (λb=>Cq b.toNat)=true:=λh=>by
   rw[DW,hc,Jm,ha];simpa using h
  have hc9:c.toNat<256:=c.toNat_lt;generalize c.toNat=c at*;refine Cz (α:=Nat) (λn=>⟨[(0,str (sb l)),(3,i64 (i:Int)),(56,Ap (!Cq c))],[],n⟩) (λ_=>True) ?_ ?_
  ·clear hcl hsn
   rcases jq c with h|h|h|h|h|h|h|h|h|h
   ·skip
    have f1:decide ((c:Int)>=97)=true:=AX (by omega);have f2:decide ((c:Int)<=122)=true:=AX (by omega);have f3:decide ((c:Int)>=65)=true:=AX (by omega);have f4:decide ((c:Int)<=90)=false:=Ad (by omega);have f5:decide ((c:Int)>=48)=true:=AX (by omega);have f6:decide ((c:Int)<=57)=false:=Ad (by omega);have f7:((c:Int)==45)=false:=Bu.2 (by omega);have f8:((c:Int)==95)=false:=Bu.2 (by omega);have f9:((c:Int)==46)=false:=Bu.2 (by omega);have hnb:Cq c=true:=by
     unfold Cq;simp;omega
    rw[hnb];refine An w1 700 (by kernel_rfl) ?_;refine AD kB ?_
    try simp only[f1,f2,f3,f4,f5,f6,f7,f8,f9]
    refine AD kB ?_
    try simp only[f1,f2,f3,f4,f5,f6,f7,f8,f9]
    refine AD kB ?_
    try simp only[f1,f2,f3,f4,f5,f6,f7,f8,f9]
    refine AD kB ?_
    try simp only[f1,f2,f3,f4,f5,f6,f7,f8,f9]
    refine AD kB ?_
    try simp only[f1,f2,f3,f4,f5,f6,f7,f8,f9]
    refine AD kB ?_
    try simp only[f1,f2,f3,f4,f5,f6,f7,f8,f9]
    refine AD kB ?_
    try simp only[f1,f2,f3,f4,f5,f6,f7,f8,f9]
    refine AD kB ?_
    try simp only[f1,f2,f3,f4,f5,f6,f7,f8,f9]
    refine AD kB ?_
    try simp only[f1,f2,f3,f4,f5,f6,f7,f8,f9]
    exact⟨by first|exact AB|rfl|simp,_,trivial,AK⟩
   ·skip
    have f1:decide ((c:Int)>=97)=true:=AX (by omega);have f2:decide ((c:Int)<=122)=false:=Ad (by omega);have f3:decide ((c:Int)>=65)=true:=AX (by omega);have f4:decide ((c:Int)<=90)=false:=Ad (by omega);have f5:decide ((c:Int)>=48)=true:=AX (by omega);have f6:decide ((c:Int)<=57)=false:=Ad (by omega);have f7:((c:Int)==45)=false:=Bu.2 (by omega);have f8:((c:Int)==95)=false:=Bu.2 (by omega);have f9:((c:Int)==46)=false:=Bu.2 (by omega);have hnb:Cq c=false:=by
     unfold Cq;simp;omega
    rw[hnb];refine An w1 700 (by kernel_rfl) ?_;refine AD kB ?_
    try simp only[f1,f2,f3,f4,f5,f6,f7,f8,f9]
    refine AD kB ?_
    try simp only[f1,f2,f3,f4,f5,f6,f7,f8,f9]
    refine AD kB ?_
    try simp only[f1,f2,f3,f4,f5,f6,f7,f8,f9]
    refine AD kB ?_
    try simp only[f1,f2,f3,f4,f5,f6,f7,f8,f9]
    refine AD kB ?_
    try simp only[f1,f2,f3,f4,f5,f6,f7,f8,f9]
    refine AD kB ?_
    try simp only[f1,f2,f3,f4,f5,f6,f7,f8,f9]
    refine AD kB ?_
    try simp only[f1,f2,f3,f4,f5,f6,f7,f8,f9]
    refine AD kB ?_
    try simp only[f1,f2,f3,f4,f5,f6,f7,f8,f9]
    refine AD kB ?_
    try simp only[f1,f2,f3,f4,f5,f6,f7,f8,f9]
    exact⟨by first|exact AB|rfl|simp,_,trivial,AK⟩
   ·skip
    have f1:decide ((c:Int)>=97)=false:=Ad (by omega);have f2:decide ((c:Int)<=122)=true:=AX (by omega);have f3:decide ((c:Int)>=65)=true:=AX (by omega);have f4:decide ((c:Int)<=90)=true:=AX (by omega);have f5:decide ((c:Int)>=48)=true:=AX (by omega);have f6:decide ((c:Int)<=57)=false:=Ad (by omega);have f7:((c:Int)==45)=false:=Bu.2 (by omega);have f8:((c:Int)==95)=false:=Bu.2 (by omega);have f9:((c:Int)==46)=false:=Bu.2 (by omega);have hnb:Cq c=true:=by
     unfold Cq;simp;omega
    rw[hnb];refine An w1 700 (by kernel_rfl) ?_;refine AD kB ?_
    try simp only[f1,f2,f3,f4,f5,f6,f7,f8,f9]
    refine AD kB ?_
    try simp only[f1,f2,f3,f4,f5,f6,f7,f8,f9]
    refine AD kB ?_
    try simp only[f1,f2,f3,f4,f5,f6,f7,f8,f9]
    refine AD kB ?_
    try simp only[f1,f2,f3,f4,f5,f6,f7,f8,f9]
    refine AD kB ?_
    try simp only[f1,f2,f3,f4,f5,f6,f7,f8,f9]
    refine AD kB ?_
    try simp only[f1,f2,f3,f4,f5,f6,f7,f8,f9]
    refine AD kB ?_
    try simp only[f1,f2,f3,f4,f5,f6,f7,f8,f9]
    refine AD kB ?_
    try simp only[f1,f2,f3,f4,f5,f6,f7,f8,f9]
    refine AD kB ?_
    try simp only[f1,f2,f3,f4,f5,f6,f7,f8,f9]
    exact⟨by first|exact AB|rfl|simp,_,trivial,AK⟩
   ·skip
    have f1:decide ((c:Int)>=97)=false:=Ad (by omega);have f2:decide ((c:Int)<=122)=true:=AX (by omega);have f3:decide ((c:Int)>=65)=true:=AX (by omega);have f4:decide ((c:Int)<=90)=false:=Ad (by omega);have f5:decide ((c:Int)>=48)=true:=AX (by omega);have f6:decide ((c:Int)<=57)=false:=Ad (by omega);have f7:((c:Int)==45)=false:=Bu.2 (by omega);have f8:((c:Int)==95)=false:=Bu.2 (by omega);have f9:((c:Int)==46)=false:=Bu.2 (by omega);have hnb:Cq c=false:=by
     unfold Cq;simp;omega
    rw[hnb];refine An w1 700 (by kernel_rfl) ?_;refine AD kB ?_
    try simp only[f1,f2,f3,f4,f5,f6,f7,f8,f9]
    refine AD kB ?_
    try simp only[f1,f2,f3,f4,f5,f6,f7,f8,f9]
    refine AD kB ?_
    try simp only[f1,f2,f3,f4,f5,f6,f7,f8,f9]
    refine AD kB ?_
    try simp only[f1,f2,f3,f4,f5,f6,f7,f8,f9]
    refine AD kB ?_
    try simp only[f1,f2,f3,f4,f5,f6,f7,f8,f9]
    refine AD kB ?_
    try simp only[f1,f2,f3,f4,f5,f6,f7,f8,f9]
    refine AD kB ?_
    try simp only[f1,f2,f3,f4,f5,f6,f7,f8,f9]
    refine AD kB ?_
    try simp only[f1,f2,f3,f4,f5,f6,f7,f8,f9]
    refine AD kB ?_
    try simp only[f1,f2,f3,f4,f5,f6,f7,f8,f9]
    exact⟨by first|exact AB|rfl|simp,_,trivial,AK⟩
   ·skip
    have f1:decide ((c:Int)>=97)=false:=Ad (by omega);have f2:decide ((c:Int)<=122)=true:=AX (by omega);have f3:decide ((c:Int)>=65)=true:=AX (by omega);have f4:decide ((c:Int)<=90)=false:=Ad (by omega);have f5:decide ((c:Int)>=48)=true:=AX (by omega);have f6:decide ((c:Int)<=57)=false:=Ad (by omega);have f7:((c:Int)==45)=false:=Bu.2 (by omega);have f8:((c:Int)==95)=true:=D7.2 (by omega);have f9:((c:Int)==46)=false:=Bu.2 (by omega);have hnb:Cq c=true:=by
     unfold Cq;simp;omega
    rw[hnb];refine An w1 700 (by kernel_rfl) ?_;refine AD kB ?_
    try simp only[f1,f2,f3,f4,f5,f6,f7,f8,f9]
    refine AD kB ?_
    try simp only[f1,f2,f3,f4,f5,f6,f7,f8,f9]
    refine AD kB ?_
    try simp only[f1,f2,f3,f4,f5,f6,f7,f8,f9]
    refine AD kB ?_
    try simp only[f1,f2,f3,f4,f5,f6,f7,f8,f9]
    refine AD kB ?_
    try simp only[f1,f2,f3,f4,f5,f6,f7,f8,f9]
    refine AD kB ?_
    try simp only[f1,f2,f3,f4,f5,f6,f7,f8,f9]
    refine AD kB ?_
    try simp only[f1,f2,f3,f4,f5,f6,f7,f8,f9]
    refine AD kB ?_
    try simp only[f1,f2,f3,f4,f5,f6,f7,f8,f9]
    refine AD kB ?_
    try simp only[f1,f2,f3,f4,f5,f6,f7,f8,f9]
    exact⟨by first|exact AB|rfl|simp,_,trivial,AK⟩
   ·skip
    have f1:decide ((c:Int)>=97)=false:=Ad (by omega);have f2:decide ((c:Int)<=122)=true:=AX (by omega);have f3:decide ((c:Int)>=65)=false:=Ad (by omega);have f4:decide ((c:Int)<=90)=true:=AX (by omega);have f5:decide ((c:Int)>=48)=true:=AX (by omega);have f6:decide ((c:Int)<=57)=false:=Ad (by omega);have f7:((c:Int)==45)=false:=Bu.2 (by omega);have f8:((c:Int)==95)=false:=Bu.2 (by omega);have f9:((c:Int)==46)=false:=Bu.2 (by omega);have hnb:Cq c=false:=by
     unfold Cq;simp;omega
    rw[hnb];refine An w1 700 (by kernel_rfl) ?_;refine AD kB ?_
    try simp only[f1,f2,f3,f4,f5,f6,f7,f8,f9]
    refine AD kB ?_
    try simp only[f1,f2,f3,f4,f5,f6,f7,f8,f9]
    refine AD kB ?_
    try simp only[f1,f2,f3,f4,f5,f6,f7,f8,f9]
    refine AD kB ?_
    try simp only[f1,f2,f3,f4,f5,f6,f7,f8,f9]
    refine AD kB ?_
    try simp only[f1,f2,f3,f4,f5,f6,f7,f8,f9]
    refine AD kB ?_
    try simp only[f1,f2,f3,f4,f5,f6,f7,f8,f9]
    refine AD kB ?_
    try simp only[f1,f2,f3,f4,f5,f6,f7,f8,f9]
    refine AD kB ?_
    try simp only[f1,f2,f3,f4,f5,f6,f7,f8,f9]
    refine AD kB ?_
    try simp only[f1,f2,f3,f4,f5,f6,f7,f8,f9]
    exact⟨by first|exact AB|rfl|simp,_,trivial,AK⟩
   ·skip
    have f1:decide ((c:Int)>=97)=false:=Ad (by omega);have f2:decide ((c:Int)<=122)=true:=AX (by omega);have f3:decide ((c:Int)>=65)=false:=Ad (by omega);have f4:decide ((c:Int)<=90)=true:=AX (by omega);have f5:decide ((c:Int)>=48)=true:=AX (by omega);have f6:decide ((c:Int)<=57)=true:=AX (by omega);have f7:((c:Int)==45)=false:=Bu.2 (by omega);have f8:((c:Int)==95)=false:=Bu.2 (by omega);have f9:((c:Int)==46)=false:=Bu.2 (by omega);have hnb:Cq c=true:=by
     unfold Cq;simp;omega
    rw[hnb];refine An w1 700 (by kernel_rfl) ?_;refine AD kB ?_
    try simp only[f1,f2,f3,f4,f5,f6,f7,f8,f9]
    refine AD kB ?_
    try simp only[f1,f2,f3,f4,f5,f6,f7,f8,f9]
    refine AD kB ?_
    try simp only[f1,f2,f3,f4,f5,f6,f7,f8,f9]
    refine AD kB ?_
    try simp only[f1,f2,f3,f4,f5,f6,f7,f8,f9]
    refine AD kB ?_
    try simp only[f1,f2,f3,f4,f5,f6,f7,f8,f9]
    refine AD kB ?_
    try simp only[f1,f2,f3,f4,f5,f6,f7,f8,f9]
    refine AD kB ?_
    try simp only[f1,f2,f3,f4,f5,f6,f7,f8,f9]
    refine AD kB ?_
    try simp only[f1,f2,f3,f4,f5,f6,f7,f8,f9]
    refine AD kB ?_
    try simp only[f1,f2,f3,f4,f5,f6,f7,f8,f9]
    exact⟨by first|exact AB|rfl|simp,_,trivial,AK⟩
   ·skip
    have f1:decide ((c:Int)>=97)=false:=Ad (by omega);have f2:decide ((c:Int)<=122)=true:=AX (by omega);have f3:decide ((c:Int)>=65)=false:=Ad (by omega);have f4:decide ((c:Int)<=90)=true:=AX (by omega);have f5:decide ((c:Int)>=48)=false:=Ad (by omega);have f6:decide ((c:Int)<=57)=true:=AX (by omega);have f7:((c:Int)==45)=false:=Bu.2 (by omega);have f8:((c:Int)==95)=false:=Bu.2 (by omega);have f9:((c:Int)==46)=false:=Bu.2 (by omega);have hnb:Cq c=false:=by
     unfold Cq;simp;omega
    rw[hnb];refine An w1 700 (by kernel_rfl) ?_;refine AD kB ?_
    try simp only[f1,f2,f3,f4,f5,f6,f7,f8,f9]
    refine AD kB ?_
    try simp only[f1,f2,f3,f4,f5,f6,f7,f8,f9]
    refine AD kB ?_
    try simp only[f1,f2,f3,f4,f5,f6,f7,f8,f9]
    refine AD kB ?_
    try simp only[f1,f2,f3,f4,f5,f6,f7,f8,f9]
    refine AD kB ?_
    try simp only[f1,f2,f3,f4,f5,f6,f7,f8,f9]
    refine AD kB ?_
    try simp only[f1,f2,f3,f4,f5,f6,f7,f8,f9]
    refine AD kB ?_
    try simp only[f1,f2,f3,f4,f5,f6,f7,f8,f9]
    refine AD kB ?_
    try simp only[f1,f2,f3,f4,f5,f6,f7,f8,f9]
    refine AD kB ?_
    try simp only[f1,f2,f3,f4,f5,f6,f7,f8,f9]
    exact⟨by first|exact AB|rfl|simp,_,trivial,AK⟩
   ·skip
    have f1:decide ((c:Int)>=97)=false:=Ad (by omega);have f2:decide ((c:Int)<=122)=true:=AX (by omega);have f3:decide ((c:Int)>=65)=false:=Ad (by omega);have f4:decide ((c:Int)<=90)=true:=AX (by omega);have f5:decide ((c:Int)>=48)=false:=Ad (by omega);have f6:decide ((c:Int)<=57)=true:=AX (by omega);have f7:((c:Int)==45)=true:=D7.2 (by omega);have f8:((c:Int)==95)=false:=Bu.2 (by omega);have f9:((c:Int)==46)=false:=Bu.2 (by omega);have hnb:Cq c=true:=by
     unfold Cq;simp;omega
    rw[hnb];refine An w1 700 (by kernel_rfl) ?_;refine AD kB ?_
    try simp only[f1,f2,f3,f4,f5,f6,f7,f8,f9]
    refine AD kB ?_
    try simp only[f1,f2,f3,f4,f5,f6,f7,f8,f9]
    refine AD kB ?_
    try simp only[f1,f2,f3,f4,f5,f6,f7,f8,f9]
    refine AD kB ?_
    try simp only[f1,f2,f3,f4,f5,f6,f7,f8,f9]
    refine AD kB ?_
    try simp only[f1,f2,f3,f4,f5,f6,f7,f8,f9]
    refine AD kB ?_
    try simp only[f1,f2,f3,f4,f5,f6,f7,f8,f9]
    refine AD kB ?_
    try simp only[f1,f2,f3,f4,f5,f6,f7,f8,f9]
    refine AD kB ?_
    try simp only[f1,f2,f3,f4,f5,f6,f7,f8,f9]
    refine AD kB ?_
    try simp only[f1,f2,f3,f4,f5,f6,f7,f8,f9]
    exact⟨by first|exact AB|rfl|simp,_,trivial,AK⟩
   ·skip
    have f1:decide ((c:Int)>=97)=false:=Ad (by omega);have f2:decide ((c:Int)<=122)=true:=AX (by omega);have f3:decide ((c:Int)>=65)=false:=Ad (by omega);have f4:decide ((c:Int)<=90)=true:=AX (by omega);have f5:decide ((c:Int)>=48)=false:=Ad (by omega);have f6:decide ((c:Int)<=57)=true:=AX (by omega);have f7:((c:Int)==45)=false:=Bu.2 (by omega);have f8:((c:Int)==95)=false:=Bu.2 (by omega);have f9:((c:Int)==46)=true:=D7.2 (by omega);have hnb:Cq c=true:=by
     unfold Cq;simp;omega
    rw[hnb];refine An w1 700 (by kernel_rfl) ?_;refine AD kB ?_
    try simp only[f1,f2,f3,f4,f5,f6,f7,f8,f9]
    refine AD kB ?_
    try simp only[f1,f2,f3,f4,f5,f6,f7,f8,f9]
    refine AD kB ?_
    try simp only[f1,f2,f3,f4,f5,f6,f7,f8,f9]
    refine AD kB ?_
    try simp only[f1,f2,f3,f4,f5,f6,f7,f8,f9]
    refine AD kB ?_
    try simp only[f1,f2,f3,f4,f5,f6,f7,f8,f9]
    refine AD kB ?_
    try simp only[f1,f2,f3,f4,f5,f6,f7,f8,f9]
    refine AD kB ?_
    try simp only[f1,f2,f3,f4,f5,f6,f7,f8,f9]
    refine AD kB ?_
    try simp only[f1,f2,f3,f4,f5,f6,f7,f8,f9]
    refine AD kB ?_
    try simp only[f1,f2,f3,f4,f5,f6,f7,f8,f9]
    exact⟨by first|exact AB|rfl|simp,_,trivial,AK⟩
  rintro n1 -;cases hb:Cq c
  ·refine AM ?_
   refine sR 800 ?_;refine Aj ?_;exact AL (by rw[hcl hb]) AA.out
  ·refine AM ?_
   refine Am ?_;refine An w1 500 (by kernel_rfl) ?_;refine AU wi ?_;exact⟨(i+1,_),⟨hi2,hsn hb⟩,by dsimp only;omega,AK⟩
 ·have hi2:i=l.length:=by
   have:=DL hlt
   omega
  subst hi2;rw[B7 (Ai _)]at ha;refine B8 ?_;refine sR 900 ?_;refine Aj ?_;exact AL (by unfold DZ;rw[ha,AX l1,AX l2];rfl) AA.out
def FN:List Int->Int
 | []=>0
 |e::r=>if e≠0 then e else FN r
theorem V9 {v:List Int}{i:Nat}(h:∀(j:Nat) (e:Int),j<i->v[j]?=some e->e=0):FN v=FN (v.drop i):=by
 induction i generalizing v with
 |zero=>rfl
 |succ i ih=>
  cases v with
  |nil=>rfl
  |cons l r=>
   have h0:=h 0 l (Nat.succ_pos i) rfl;rw[Ry];show(if l≠0 then l else FN r)=_;rw[AF (λhh=>hh h0)];exact ih λj m hj hm=>h (j+1) m (by omega) hm
theorem Hw {a:Int}(h:a≠0):(a != 0)=true:=by
 have:(a==0)=false:=Bu.2 h
 unfold bne;rw[this];rfl
theorem YD {l:List UInt8}(h:CW l=0):Lu (CN l):=Tu (Mf h) (by decide)
theorem N8 (a b:List UInt8):BI (sb a) (sb b)=decide (a=b):=by
 unfold BI
 by_cases h:a=b
 ·subst h;simp
 ·rw[Ad h]
  apply Bu.2;intro hh;apply h;simpa[sb]using hh
def Df (f:Nat->Nat):Nat->Nat
 | 0=>0
 |n+1=>if Df f n≠0 then Df f n else f n
theorem MC {f:Nat->Nat}{n:Nat}(h:∀j,j<n->f j=0):Df f n=0:=by
 induction n with
 |zero=>rfl
 |succ n ih=>
  have:=ih λj hj=>h j (by omega)
  unfold Df;rw[AF (λhh=>hh this)];exact h n (by omega)
theorem OI {f:Nat->Nat}{i n:Nat}(h:∀j,j<i->f j=0)(hi:i<n)(h0:f i≠0):Df f n=f i:=by
 induction n with
 |zero=>omega
 |succ n ih=>
  unfold Df;rcases BA i n with hlt|hge
  ·have:=ih hlt
   rw[AG (by rw[this];exact h0),this]
  ·have:i=n:=by omega
   subst this;rw[AF (λhh=>hh (MC h))]
theorem QD {f:Nat->Nat}{n:Nat}(h:Df f n=0):∀j,j<n->f j=0:=by
 induction n with
 |zero=>intro j hj;omega
 |succ n ih=>
  unfold Df at h
  by_cases h0:Df f n=0
  ·rw[AF (λhh=>hh h0)]at h
   intro j hj;rcases BA j n with hl|hg
   ·exact ih h0 j hl
   ·have:j=n:=by omega
    subst this;exact h
  ·rw[AG h0]at h
   exact Ah h h0
structure Li where
 name:List UInt8
 least:List (List UInt8)
 most:List (List UInt8)
 deriving Inhabited
def Li.D (g:Li):D:=.agg [str (sb g.name),.sl false 1 (g.least.map λl=>str (sb l)),.sl false 1 (g.most.map λl=>str (sb l))]
instance  (g:Li):AT g.D:=by unfold Li.D;exact AI
instance  (g:Li):AA g.D:=by unfold Li.D;exact AI
def lv (l:List (List UInt8))(k:Nat):List UInt8:=l.getD k []
def qK (gs:List Li)(i k:Nat):Option (List UInt8×List UInt8):=if i=0 then none else some (lv (gs.getD (i-1) default).least k,lv (gs.getD (i-1) default).most k)
theorem gC {α:Type}{l:List α}{p:α->Bool}{i:Nat}(h:∀(j:Nat) (x:α),j<i->l[j]?=some x->p x=false):(l.take i).any p=false:=by
 rw[List.any_eq_false];intro x hx;obtain⟨j,hj,e⟩:=List.mem_iff_getElem.1 hx;have hj2:j<i:=by rw[Bb]at hj;omega
 have:l[j]?=some x:=by
  rw[<-e,List.getElem_take];exact BE _
 rw[h j x hj2 this];simp
def JX {α:Type}(p:α->Bool)(l:List α):Int:=if l.any p then(l.findIdx p:Int)else -1
theorem Tl {α:Type}{p:α->Bool}{l:List α}{i:Nat}{x:α}(hx:l[i]?=some x)(h:p x=true)(ha:∀(j:Nat) (y:α),j<i->l[j]?=some y->p y=false):JX p l=i:=by
 unfold JX;obtain⟨hi,e⟩:=List.getElem?_eq_some_iff.1 hx;rw[AG (List.any_eq_true.2 ⟨x,Ax hx,h⟩)]
 have:l.findIdx p=i:=(List.findIdx_eq hi).2 ⟨by rw[e];exact h,λj hj=>ha j _ hj (BE _)⟩
 rw[this]
theorem Sl {α:Type}{p:α->Bool}{l:List α}(ha:∀(j:Nat) (y:α),j<l.length->l[j]?=some y->p y=false):JX p l = -1:=by
 unfold JX
 have:=gC (l:=l) (p:=p) (i:=l.length) ha
 rw[Cf]at this;rw[this];rfl
theorem Tm {α:Type}(p:α->Bool)(l:List α):decide (JX p l>=0)=l.any p:=by
 unfold JX;cases l.any p
 ·rfl
 ·exact AX (by simp)
end Go.Ide
