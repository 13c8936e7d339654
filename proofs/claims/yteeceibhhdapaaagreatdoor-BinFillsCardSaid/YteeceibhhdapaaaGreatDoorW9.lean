/- The layer of own lemmas and contracts, part 9. -/
import Derived.Test.YteeceibhhdapaaaGreatDoorW8
import Derived.Test.YteeceibhhdapaaaGreatDoorW7
import Derived.Test.YteeceibhhdapaaaGreatDoorW3
set_option linter.unusedVariables false
set_option linter.unusedSimpArgs false
namespace Go.Ide
open Go.Proofs Go.RowKit
structure Av where
 lot:List UInt8
 part:List UInt8
def Av.D (s:Av):D:=.agg [str (sb s.lot),str (sb s.part)]
instance d7d (s:Av):AW s.D:=by unfold Av.D;exact AJ
instance d7e (s:Av):AA s.D:=by unfold Av.D;exact AJ
abbrev CT (b:Bool)(l:List Av):D:=.sl b 2 (l.map Av.D)
def Av.few (s:Av):Prop:=s.lot.length<=100000/\s.part.length<=100000
def Fg (l:List Av)(k:Nat):Av:=l.getD k ⟨[],[]⟩
theorem JT {l:List Av}{k:Nat}{s:Av}(h:l[k]?=some s):Fg l k=s:=by unfold Fg;rw[Ei,h];rfl
structure AF where
 grain:List UInt8
 mass:Int
 shs:List Av
def AF.D (x:AF):D:=.agg [str (sb x.grain),i64 x.mass,CT false x.shs]
instance d6a (x:AF):AW x.D:=by unfold AF.D;exact AJ
instance d6b (x:AF):AA x.D:=by unfold AF.D;exact AJ
abbrev Ae (b:Bool)(l:List AF):D:=.sl b 3 (l.map AF.D)
theorem Od (z:Int)(h:Sm z):AK C0 105 [i64 z] (⟨AX z,1⟩:GF).D:=by
 have e:(⟨AX z,1⟩:GF).D=MA z 1:=by
  unfold GF.D;rw[To,JQ h];rfl
 rw[e];exact wR z
theorem mr {n:GI}{k:Nat}(h:n.wf)(hk:1<=k)(hl:(Ag n.z.natAbs).length<=k):FR (n.z:Rat) ⟨n,1⟩ k:=by
 refine⟨⟨h,(Rat.num_intCast _).symm,(Rat.den_intCast _).symm⟩,?_⟩;unfold rk;rw[Rat.num_intCast,Rat.den_intCast];exact⟨hl,BR (Gq (n:=1) (k:=1) (by decide)) hk⟩
theorem QD {z:Int}(h:z.natAbs<18446744073709551616):FR (z:Rat) ⟨AX z,1⟩ 1:=by
 have:=mr (n:=AX z) (k:=1) (Cf _) (Ai _) (by rw[Di];exact Gq (k:=1) (by unfold BB;omega))
 rwa [Di]at this
open Go.ChangeShapes Go.WideShapes
def PE (P:Program)(t:Nat):Option (List (Nat×Nat×Nat)):=match P.underlying t with
 |some (.struct fs)=>some (fs.toList.map λf=>(f.type,f.offset,P.cellsOf f.type))
 |_=>none
section
variable {H:Type} {enc:TypeId×Value->H} {W:World} {fuel:Nat} {cs:List Value} {x:DataW H×List MemPlace} {t:TypeId}
theorem UU {l:List (Nat×Nat×Nat)}{m:Nat}(hs:PE Tryz.prog t=some l)(hm:Tryz.prog.cellsOf t=m)(h:DataW.trod enc Tryz.prog W 0 (λ_=>true) true fuel t cs=some x):
  cs.length=m/\∃n,∀(i u off k:Nat),l[i]?=some (u,off,k)->∃y,DataW.trod enc Tryz.prog W 0 (λ_=>true) true n u ((cs.drop off).take k)=some y:=by
 unfold PE at hs;split at hs
 ·rename_i fs hu
  obtain⟨h1,n,h2⟩:=jN hu h;refine⟨h1.trans hm,n,λi u off k hl=>?_⟩;obtain rfl:=Fc hs;rw[A7]at hl;obtain⟨f,hf,he⟩:=Option.map_eq_some_iff.1 hl;cases he;exact h2 i f (by rw[<-Iw];exact hf)
 ·cases hs
theorem LT {a b c:Nat}{p q:List D}(h:DU W ((cs.drop a).take b) p)(k:DU W ((cs.drop (a+b)).take c) q):DU W ((cs.drop a).take (b+c)) (p++q):=by
 rw[List.take_add,List.drop_drop];exact h.append k
theorem T7 {n:Nat}{p:List D}(hn:cs.length=n)(h:DU W ((cs.drop 0).take n) p):DU W cs p:=by
 rw[Fd,<-hn,C8]at h;exact h
theorem se (h:DataW.trod enc Tryz.prog W 0 (λ_=>true) true fuel 80 cs=some x):∃l:List UInt8,DU W cs (str (sb l)).cells/\l.length<=maxLen:=aF (by kernel_rfl) h
theorem SH (h:DataW.trod enc Tryz.prog W 0 (λ_=>true) true fuel 9 cs=some x):∃l:List UInt8,DU W cs [str (sb l)]/\l.length<=maxLen:=aF (by kernel_rfl) h
theorem Qr (h:DataW.trod enc Tryz.prog W 0 (λ_=>true) true fuel 3 cs=some x):∃z:Int,DU W cs [i64 z]:=by
 obtain⟨z,_,_,h⟩:=s9 (by kernel_rfl) h;exact⟨z,h⟩
theorem lC (h:DataW.trod enc Tryz.prog W 0 (λ_=>true) true fuel 82 cs=some x):∃s:Av,DU W cs s.D.cells/\True:=by
 obtain⟨h1,n,h2⟩:=UU (l:=[(9,0,1),(80,1,1)]) (m:=2) (by kernel_rfl) (by kernel_rfl) h;obtain⟨y0,k0⟩:=h2 0 _ _ _ rfl;obtain⟨y1,k1⟩:=h2 1 _ _ _ rfl;obtain⟨a0,r0,_⟩:=SH k0;obtain⟨a1,r1,_⟩:=se k1;exact⟨⟨a0,a1⟩,T7 h1 (LT (b:=1) (c:=1) r0 r1),trivial⟩
theorem jO (h:DataW.trod enc Tryz.prog W 0 (λ_=>true) true fuel 25 cs=some x):∃l:List Av,DU W cs [CT false l]/\(∀a∈l,True)/\l.length<=maxLen:=
 UT (g:=Av.D) (ok:=λ_=>True) (e:=82) (sz:=2) (by kernel_rfl) (by kernel_rfl) (by decide) (λ_ _ _ h=>lC h) h
theorem kz (h:DataW.trod enc Tryz.prog W 0 (λ_=>true) true fuel 27 cs=some x):∃s:AF,DU W cs s.D.cells/\s.shs.length<=maxLen:=by
 obtain⟨h1,n,h2⟩:=UU (l:=[(9,0,1),(3,1,1),(25,2,1)]) (m:=3) (by kernel_rfl) (by kernel_rfl) h;obtain⟨y0,k0⟩:=h2 0 _ _ _ rfl;obtain⟨y1,k1⟩:=h2 1 _ _ _ rfl;obtain⟨y2,k2⟩:=h2 2 _ _ _ rfl;obtain⟨a0,r0,_⟩:=SH k0;obtain⟨a1,r1⟩:=Qr k1;obtain⟨a2,r2,_,hl⟩:=jO k2;exact⟨⟨a0,a1,a2⟩,T7 h1 (LT (b:=1) (c:=2) r0 (LT (b:=1) (c:=1) r1 r2)),hl⟩
theorem Wt (h:DataW.trod enc Tryz.prog W 0 (λ_=>true) true fuel 22 cs=some x):∃l:List AF,DU W cs [Ae false l]/\(∀a∈l,a.shs.length<=maxLen)/\l.length<=maxLen:=
 UT (g:=AF.D) (ok:=λs=>s.shs.length<=maxLen) (e:=27) (sz:=3) (by kernel_rfl) (by kernel_rfl) (by decide) (λ_ _ _ h=>kz h) h
end
theorem us {P:Program}{W:World}{t e base:Nat}{v:Value}(hu:P.underlying t=some (.slice e))(h:Value.okWide P W .any base t v):∃a l c,v=.slice a l c:=by
 unfold Value.okWide at h;rw[hu]at h;dsimp only at h;unfold Cell.okWide at h;rw[hu]at h;cases v<;>first|exact⟨_,_,_,rfl⟩|(dsimp only at h;unfold Cell.ok at h;rw[hu]at h;exact h.elim)
theorem DU.val1 {W:World}{v:Value}{d:D}(h:DU W [v] [d]):AU nol (λ_=>False) W d v:=(h.cell 0 v d rfl rfl).2
set_option maxRecDepth 20000
set_option maxHeartbeats 2000000
theorem im (c:Nat):(97<=c/\c<=122)\/(122<c)\/(65<=c/\c<=90)\/((91<=c/\c<=96)/\c≠95)\/(c=95)\/(58<=c/\c<=64)\/(48<=c/\c<=57)\/(c<48/\c≠45/\c≠46)\/(c=45)\/(c=46):=by omega
theorem bp (l:List UInt8)(hl:l.length<=1000000):AK C0 65 [str (sb l)] (As (Da l)):=by
 refine Ak.walk w1 uD rfl λF=>?_
 have hsz:=Ce l;refine sR 0 ?_;refine Cu (α:=Nat) (λn=>⟨[(0,str (sb l))],[],n⟩) (λ_=>1<=l.length/\l.length<=24) ?_ ?_
 ·by_cases h1:l.length<1
  ·have e1:decide ((l.length:Int)<1)=true:=AY (by omega)
   refine sZ 100 ?_;refine AV (Ac hsz e1) ?_;refine AE kT ?_;refine AO ?_;refine sR 200 ?_;refine Al ?_;exact AN (by unfold Da;rw[Ah (show ¬ 1<=l.length by omega)];simp) AA.out
  ·have e1:decide ((l.length:Int)<1)=false:=Ah (by omega)
   have e2:decide ((l.length:Int)>24)=decide (24<l.length):=Cz.2 (by omega);refine sZ 100 ?_;refine AV (Ac hsz e1) ?_;refine AE (At kF hsz e2) ?_
   by_cases h2:24<l.length
   ·rw[AY h2]
    refine AO ?_;refine sR 200 ?_;refine Al ?_;exact AN (by unfold Da;rw[Ah (show ¬l.length<=24 by omega)];simp) AA.out
   ·rw[Ah h2]
    refine AO ?_;refine Ap ?_;exact⟨rfl,_,⟨by omega,by omega⟩,AL⟩
 rintro n0 ⟨l1,l2⟩;refine AC.seq ?_;refine sR 300 ?_;refine AC.block ?_;refine AC.loop (α:=Nat×Nat) (λp=>⟨[(0,str (sb l)),(3,i64 (p.1:Int))],[],p.2⟩) (λp=>l.length-p.1) (λp=>p.1<=l.length/\(l.take p.1).all (λb=>Cp b.toNat)=true) (0,_) ⟨BU _,rfl⟩ AL ?_;rintro⟨i,n⟩ F ⟨hi,ha⟩;dsimp only at hi ha⊢;refine AC.seq ?_;refine sZ 400 ?_;refine AV hsz ?_;refine AO ?_
 (refine Bv (λhlt=>?_) (λhlt=>?_))<;>(try simp only[Bi,Bs]at hlt)<;>(try simp only[hlt])
 ·have hi2:i<l.length:=by
   have:=DA hlt
   omega
  obtain⟨c,hc⟩:∃c,l[i]?=some c:=⟨l[i],BI hi2⟩
  have hg:l.getD i 0=c:=by simp[hc]
  have wi:IntKind.i64.wrap ((i:Int)+1)=((i+1:Nat):Int):=wI (by omega) (by omega);refine Ap ?_;refine AC.seq ?_;refine AC.block ?_;refine sZ 600 ?_;refine AV (Ac kN hg) ?_;have hcl:Cp c.toNat=false->Da l=false:=λh=>by
   unfold Da;cases hall:l.all (λb=>Cp b.toNat)
   ·rfl
   ·have:=CQ.1 hall c (A0 hc)
    rw[h]at this;cases this
  have hsn:Cp c.toNat=true->(l.take (i+1)).all (λb=>Cp b.toNat)=true:=λh=>by
   rw[Dh,hc,Ks,ha];simpa using h
  have hc9:c.toNat<256:=c.toNat_lt;generalize c.toNat=c at*;refine Cu (α:=Nat) (λn=>⟨[(0,str (sb l)),(3,i64 (i:Int)),(56,As (!Cp c))],[],n⟩) (λ_=>True) ?_ ?_
  ·clear hcl hsn
   rcases im c with h|h|h|h|h|h|h|h|h|h
   ·skip
    have f1:decide ((c:Int)>=97)=true:=AY (by omega);have f2:decide ((c:Int)<=122)=true:=AY (by omega);have f3:decide ((c:Int)>=65)=true:=AY (by omega);have f4:decide ((c:Int)<=90)=false:=Ah (by omega);have f5:decide ((c:Int)>=48)=true:=AY (by omega);have f6:decide ((c:Int)<=57)=false:=Ah (by omega);have f7:((c:Int)==45)=false:=Bq.2 (by omega);have f8:((c:Int)==95)=false:=Bq.2 (by omega);have f9:((c:Int)==46)=false:=Bq.2 (by omega);have hnb:Cp c=true:=by
     unfold Cp;simp;omega
    rw[hnb];refine Aq w1 700 (by kernel_rfl) ?_;refine AE kB ?_
    try simp only[f1,f2,f3,f4,f5,f6,f7,f8,f9]
    refine AE kB ?_
    try simp only[f1,f2,f3,f4,f5,f6,f7,f8,f9]
    refine AE kB ?_
    try simp only[f1,f2,f3,f4,f5,f6,f7,f8,f9]
    refine AE kB ?_
    try simp only[f1,f2,f3,f4,f5,f6,f7,f8,f9]
    refine AE kB ?_
    try simp only[f1,f2,f3,f4,f5,f6,f7,f8,f9]
    refine AE kB ?_
    try simp only[f1,f2,f3,f4,f5,f6,f7,f8,f9]
    refine AE kB ?_
    try simp only[f1,f2,f3,f4,f5,f6,f7,f8,f9]
    refine AE kB ?_
    try simp only[f1,f2,f3,f4,f5,f6,f7,f8,f9]
    refine AE kB ?_
    try simp only[f1,f2,f3,f4,f5,f6,f7,f8,f9]
    exact⟨by first|exact AB|rfl|simp,_,trivial,AL⟩
   ·skip
    have f1:decide ((c:Int)>=97)=true:=AY (by omega);have f2:decide ((c:Int)<=122)=false:=Ah (by omega);have f3:decide ((c:Int)>=65)=true:=AY (by omega);have f4:decide ((c:Int)<=90)=false:=Ah (by omega);have f5:decide ((c:Int)>=48)=true:=AY (by omega);have f6:decide ((c:Int)<=57)=false:=Ah (by omega);have f7:((c:Int)==45)=false:=Bq.2 (by omega);have f8:((c:Int)==95)=false:=Bq.2 (by omega);have f9:((c:Int)==46)=false:=Bq.2 (by omega);have hnb:Cp c=false:=by
     unfold Cp;simp;omega
    rw[hnb];refine Aq w1 700 (by kernel_rfl) ?_;refine AE kB ?_
    try simp only[f1,f2,f3,f4,f5,f6,f7,f8,f9]
    refine AE kB ?_
    try simp only[f1,f2,f3,f4,f5,f6,f7,f8,f9]
    refine AE kB ?_
    try simp only[f1,f2,f3,f4,f5,f6,f7,f8,f9]
    refine AE kB ?_
    try simp only[f1,f2,f3,f4,f5,f6,f7,f8,f9]
    refine AE kB ?_
    try simp only[f1,f2,f3,f4,f5,f6,f7,f8,f9]
    refine AE kB ?_
    try simp only[f1,f2,f3,f4,f5,f6,f7,f8,f9]
    refine AE kB ?_
    try simp only[f1,f2,f3,f4,f5,f6,f7,f8,f9]
    refine AE kB ?_
    try simp only[f1,f2,f3,f4,f5,f6,f7,f8,f9]
    refine AE kB ?_
    try simp only[f1,f2,f3,f4,f5,f6,f7,f8,f9]
    exact⟨by first|exact AB|rfl|simp,_,trivial,AL⟩
   ·skip
    have f1:decide ((c:Int)>=97)=false:=Ah (by omega);have f2:decide ((c:Int)<=122)=true:=AY (by omega);have f3:decide ((c:Int)>=65)=true:=AY (by omega);have f4:decide ((c:Int)<=90)=true:=AY (by omega);have f5:decide ((c:Int)>=48)=true:=AY (by omega);have f6:decide ((c:Int)<=57)=false:=Ah (by omega);have f7:((c:Int)==45)=false:=Bq.2 (by omega);have f8:((c:Int)==95)=false:=Bq.2 (by omega);have f9:((c:Int)==46)=false:=Bq.2 (by omega);have hnb:Cp c=true:=by
     unfold Cp;simp;omega
    rw[hnb];refine Aq w1 700 (by kernel_rfl) ?_;refine AE kB ?_
    try simp only[f1,f2,f3,f4,f5,f6,f7,f8,f9]
    refine AE kB ?_
    try simp only[f1,f2,f3,f4,f5,f6,f7,f8,f9]
    refine AE kB ?_
    try simp only[f1,f2,f3,f4,f5,f6,f7,f8,f9]
    refine AE kB ?_
    try simp only[f1,f2,f3,f4,f5,f6,f7,f8,f9]
    refine AE kB ?_
    try simp only[f1,f2,f3,f4,f5,f6,f7,f8,f9]
    refine AE kB ?_
    try simp only[f1,f2,f3,f4,f5,f6,f7,f8,f9]
    refine AE kB ?_
    try simp only[f1,f2,f3,f4,f5,f6,f7,f8,f9]
    refine AE kB ?_
    try simp only[f1,f2,f3,f4,f5,f6,f7,f8,f9]
    refine AE kB ?_
    try simp only[f1,f2,f3,f4,f5,f6,f7,f8,f9]
    exact⟨by first|exact AB|rfl|simp,_,trivial,AL⟩
   ·skip
    have f1:decide ((c:Int)>=97)=false:=Ah (by omega);have f2:decide ((c:Int)<=122)=true:=AY (by omega);have f3:decide ((c:Int)>=65)=true:=AY (by omega);have f4:decide ((c:Int)<=90)=false:=Ah (by omega);have f5:decide ((c:Int)>=48)=true:=AY (by omega);have f6:decide ((c:Int)<=57)=false:=Ah (by omega);have f7:((c:Int)==45)=false:=Bq.2 (by omega);have f8:((c:Int)==95)=false:=Bq.2 (by omega);have f9:((c:Int)==46)=false:=Bq.2 (by omega);have hnb:Cp c=false:=by
     unfold Cp;simp;omega
    rw[hnb];refine Aq w1 700 (by kernel_rfl) ?_;refine AE kB ?_
    try simp only[f1,f2,f3,f4,f5,f6,f7,f8,f9]
    refine AE kB ?_
    try simp only[f1,f2,f3,f4,f5,f6,f7,f8,f9]
    refine AE kB ?_
    try simp only[f1,f2,f3,f4,f5,f6,f7,f8,f9]
    refine AE kB ?_
    try simp only[f1,f2,f3,f4,f5,f6,f7,f8,f9]
    refine AE kB ?_
    try simp only[f1,f2,f3,f4,f5,f6,f7,f8,f9]
    refine AE kB ?_
    try simp only[f1,f2,f3,f4,f5,f6,f7,f8,f9]
    refine AE kB ?_
    try simp only[f1,f2,f3,f4,f5,f6,f7,f8,f9]
    refine AE kB ?_
    try simp only[f1,f2,f3,f4,f5,f6,f7,f8,f9]
    refine AE kB ?_
    try simp only[f1,f2,f3,f4,f5,f6,f7,f8,f9]
    exact⟨by first|exact AB|rfl|simp,_,trivial,AL⟩
   ·skip
    have f1:decide ((c:Int)>=97)=false:=Ah (by omega);have f2:decide ((c:Int)<=122)=true:=AY (by omega);have f3:decide ((c:Int)>=65)=true:=AY (by omega);have f4:decide ((c:Int)<=90)=false:=Ah (by omega);have f5:decide ((c:Int)>=48)=true:=AY (by omega);have f6:decide ((c:Int)<=57)=false:=Ah (by omega);have f7:((c:Int)==45)=false:=Bq.2 (by omega);have f8:((c:Int)==95)=true:=EA.2 (by omega);have f9:((c:Int)==46)=false:=Bq.2 (by omega);have hnb:Cp c=true:=by
     unfold Cp;simp;omega
    rw[hnb];refine Aq w1 700 (by kernel_rfl) ?_;refine AE kB ?_
    try simp only[f1,f2,f3,f4,f5,f6,f7,f8,f9]
    refine AE kB ?_
    try simp only[f1,f2,f3,f4,f5,f6,f7,f8,f9]
    refine AE kB ?_
    try simp only[f1,f2,f3,f4,f5,f6,f7,f8,f9]
    refine AE kB ?_
    try simp only[f1,f2,f3,f4,f5,f6,f7,f8,f9]
    refine AE kB ?_
    try simp only[f1,f2,f3,f4,f5,f6,f7,f8,f9]
    refine AE kB ?_
    try simp only[f1,f2,f3,f4,f5,f6,f7,f8,f9]
    refine AE kB ?_
    try simp only[f1,f2,f3,f4,f5,f6,f7,f8,f9]
    refine AE kB ?_
    try simp only[f1,f2,f3,f4,f5,f6,f7,f8,f9]
    refine AE kB ?_
    try simp only[f1,f2,f3,f4,f5,f6,f7,f8,f9]
    exact⟨by first|exact AB|rfl|simp,_,trivial,AL⟩
   ·skip
    have f1:decide ((c:Int)>=97)=false:=Ah (by omega);have f2:decide ((c:Int)<=122)=true:=AY (by omega);have f3:decide ((c:Int)>=65)=false:=Ah (by omega);have f4:decide ((c:Int)<=90)=true:=AY (by omega);have f5:decide ((c:Int)>=48)=true:=AY (by omega);have f6:decide ((c:Int)<=57)=false:=Ah (by omega);have f7:((c:Int)==45)=false:=Bq.2 (by omega);have f8:((c:Int)==95)=false:=Bq.2 (by omega);have f9:((c:Int)==46)=false:=Bq.2 (by omega);have hnb:Cp c=false:=by
     unfold Cp;simp;omega
    rw[hnb];refine Aq w1 700 (by kernel_rfl) ?_;refine AE kB ?_
    try simp only[f1,f2,f3,f4,f5,f6,f7,f8,f9]
    refine AE kB ?_
    try simp only[f1,f2,f3,f4,f5,f6,f7,f8,f9]
    refine AE kB ?_
    try simp only[f1,f2,f3,f4,f5,f6,f7,f8,f9]
    refine AE kB ?_
    try simp only[f1,f2,f3,f4,f5,f6,f7,f8,f9]
    refine AE kB ?_
    try simp only[f1,f2,f3,f4,f5,f6,f7,f8,f9]
    refine AE kB ?_
    try simp only[f1,f2,f3,f4,f5,f6,f7,f8,f9]
    refine AE kB ?_
    try simp only[f1,f2,f3,f4,f5,f6,f7,f8,f9]
    refine AE kB ?_
    try simp only[f1,f2,f3,f4,f5,f6,f7,f8,f9]
    refine AE kB ?_
    try simp only[f1,f2,f3,f4,f5,f6,f7,f8,f9]
    exact⟨by first|exact AB|rfl|simp,_,trivial,AL⟩
   ·skip
    have f1:decide ((c:Int)>=97)=false:=Ah (by omega);have f2:decide ((c:Int)<=122)=true:=AY (by omega);have f3:decide ((c:Int)>=65)=false:=Ah (by omega);have f4:decide ((c:Int)<=90)=true:=AY (by omega);have f5:decide ((c:Int)>=48)=true:=AY (by omega);have f6:decide ((c:Int)<=57)=true:=AY (by omega);have f7:((c:Int)==45)=false:=Bq.2 (by omega);have f8:((c:Int)==95)=false:=Bq.2 (by omega);have f9:((c:Int)==46)=false:=Bq.2 (by omega);have hnb:Cp c=true:=by
     unfold Cp;simp;omega
    rw[hnb];refine Aq w1 700 (by kernel_rfl) ?_;refine AE kB ?_
    try simp only[f1,f2,f3,f4,f5,f6,f7,f8,f9]
    refine AE kB ?_
    try simp only[f1,f2,f3,f4,f5,f6,f7,f8,f9]
    refine AE kB ?_
    try simp only[f1,f2,f3,f4,f5,f6,f7,f8,f9]
    refine AE kB ?_
    try simp only[f1,f2,f3,f4,f5,f6,f7,f8,f9]
    refine AE kB ?_
    try simp only[f1,f2,f3,f4,f5,f6,f7,f8,f9]
    refine AE kB ?_
    try simp only[f1,f2,f3,f4,f5,f6,f7,f8,f9]
    refine AE kB ?_
    try simp only[f1,f2,f3,f4,f5,f6,f7,f8,f9]
    refine AE kB ?_
    try simp only[f1,f2,f3,f4,f5,f6,f7,f8,f9]
    refine AE kB ?_
    try simp only[f1,f2,f3,f4,f5,f6,f7,f8,f9]
    exact⟨by first|exact AB|rfl|simp,_,trivial,AL⟩
   ·skip
    have f1:decide ((c:Int)>=97)=false:=Ah (by omega);have f2:decide ((c:Int)<=122)=true:=AY (by omega);have f3:decide ((c:Int)>=65)=false:=Ah (by omega);have f4:decide ((c:Int)<=90)=true:=AY (by omega);have f5:decide ((c:Int)>=48)=false:=Ah (by omega);have f6:decide ((c:Int)<=57)=true:=AY (by omega);have f7:((c:Int)==45)=false:=Bq.2 (by omega);have f8:((c:Int)==95)=false:=Bq.2 (by omega);have f9:((c:Int)==46)=false:=Bq.2 (by omega);have hnb:Cp c=false:=by
     unfold Cp;simp;omega
    rw[hnb];refine Aq w1 700 (by kernel_rfl) ?_;refine AE kB ?_
    try simp only[f1,f2,f3,f4,f5,f6,f7,f8,f9]
    refine AE kB ?_
    try simp only[f1,f2,f3,f4,f5,f6,f7,f8,f9]
    refine AE kB ?_
    try simp only[f1,f2,f3,f4,f5,f6,f7,f8,f9]
    refine AE kB ?_
    try simp only[f1,f2,f3,f4,f5,f6,f7,f8,f9]
    refine AE kB ?_
    try simp only[f1,f2,f3,f4,f5,f6,f7,f8,f9]
    refine AE kB ?_
    try simp only[f1,f2,f3,f4,f5,f6,f7,f8,f9]
    refine AE kB ?_
    try simp only[f1,f2,f3,f4,f5,f6,f7,f8,f9]
    refine AE kB ?_
    try simp only[f1,f2,f3,f4,f5,f6,f7,f8,f9]
    refine AE kB ?_
    try simp only[f1,f2,f3,f4,f5,f6,f7,f8,f9]
    exact⟨by first|exact AB|rfl|simp,_,trivial,AL⟩
   ·skip
    have f1:decide ((c:Int)>=97)=false:=Ah (by omega);have f2:decide ((c:Int)<=122)=true:=AY (by omega);have f3:decide ((c:Int)>=65)=false:=Ah (by omega);have f4:decide ((c:Int)<=90)=true:=AY (by omega);have f5:decide ((c:Int)>=48)=false:=Ah (by omega);have f6:decide ((c:Int)<=57)=true:=AY (by omega);have f7:((c:Int)==45)=true:=EA.2 (by omega);have f8:((c:Int)==95)=false:=Bq.2 (by omega);have f9:((c:Int)==46)=false:=Bq.2 (by omega);have hnb:Cp c=true:=by
     unfold Cp;simp;omega
    rw[hnb];refine Aq w1 700 (by kernel_rfl) ?_;refine AE kB ?_
    try simp only[f1,f2,f3,f4,f5,f6,f7,f8,f9]
    refine AE kB ?_
    try simp only[f1,f2,f3,f4,f5,f6,f7,f8,f9]
    refine AE kB ?_
    try simp only[f1,f2,f3,f4,f5,f6,f7,f8,f9]
    refine AE kB ?_
    try simp only[f1,f2,f3,f4,f5,f6,f7,f8,f9]
    refine AE kB ?_
    try simp only[f1,f2,f3,f4,f5,f6,f7,f8,f9]
    refine AE kB ?_
    try simp only[f1,f2,f3,f4,f5,f6,f7,f8,f9]
    refine AE kB ?_
    try simp only[f1,f2,f3,f4,f5,f6,f7,f8,f9]
    refine AE kB ?_
    try simp only[f1,f2,f3,f4,f5,f6,f7,f8,f9]
    refine AE kB ?_
    try simp only[f1,f2,f3,f4,f5,f6,f7,f8,f9]
    exact⟨by first|exact AB|rfl|simp,_,trivial,AL⟩
   ·skip
    have f1:decide ((c:Int)>=97)=false:=Ah (by omega);have f2:decide ((c:Int)<=122)=true:=AY (by omega);have f3:decide ((c:Int)>=65)=false:=Ah (by omega);have f4:decide ((c:Int)<=90)=true:=AY (by omega);have f5:decide ((c:Int)>=48)=false:=Ah (by omega);have f6:decide ((c:Int)<=57)=true:=AY (by omega);have f7:((c:Int)==45)=false:=Bq.2 (by omega);have f8:((c:Int)==95)=false:=Bq.2 (by omega);have f9:((c:Int)==46)=true:=EA.2 (by omega);have hnb:Cp c=true:=by
     unfold Cp;simp;omega
    rw[hnb];refine Aq w1 700 (by kernel_rfl) ?_;refine AE kB ?_
    try simp only[f1,f2,f3,f4,f5,f6,f7,f8,f9]
    refine AE kB ?_
    try simp only[f1,f2,f3,f4,f5,f6,f7,f8,f9]
    refine AE kB ?_
    try simp only[f1,f2,f3,f4,f5,f6,f7,f8,f9]
    refine AE kB ?_
    try simp only[f1,f2,f3,f4,f5,f6,f7,f8,f9]
    refine AE kB ?_
    try simp only[f1,f2,f3,f4,f5,f6,f7,f8,f9]
    refine AE kB ?_
    try simp only[f1,f2,f3,f4,f5,f6,f7,f8,f9]
    refine AE kB ?_
    try simp only[f1,f2,f3,f4,f5,f6,f7,f8,f9]
    refine AE kB ?_
    try simp only[f1,f2,f3,f4,f5,f6,f7,f8,f9]
    refine AE kB ?_
    try simp only[f1,f2,f3,f4,f5,f6,f7,f8,f9]
    exact⟨by first|exact AB|rfl|simp,_,trivial,AL⟩
  rintro n1 -;cases hb:Cp c
  ·refine AO ?_
   refine sR 800 ?_;refine Al ?_;exact AN (by rw[hcl hb]) AA.out
  ·refine AO ?_
   refine Ap ?_;refine Aq w1 500 (by kernel_rfl) ?_;refine AV wi ?_;exact⟨(i+1,_),⟨hi2,hsn hb⟩,by dsimp only;omega,AL⟩
 ·have hi2:i=l.length:=by
   have:=DN hlt
   omega
  subst hi2;rw[B9 (Ai _)]at ha;refine CA ?_;refine sR 900 ?_;refine Al ?_;exact AN (by unfold Da;rw[ha,AY l1,AY l2];rfl) AA.out
def DP:List Int->Int
 | []=>0
 |e::r=>if e≠0 then e else DP r
theorem PQ {v:List Int}{i:Nat}(h:∀(j:Nat) (e:Int),j<i->v[j]?=some e->e=0):DP v=DP (v.drop i):=by
 induction i generalizing v with
 |zero=>rfl
 |succ i ih=>
  cases v with
  |nil=>rfl
  |cons l r=>
   have h0:=h 0 l (Nat.succ_pos i) rfl;rw[Rf];show(if l≠0 then l else DP r)=_;rw[AG (λhh=>hh h0)];exact ih λj m hj hm=>h (j+1) m (by omega) hm
theorem Ii {a:Int}(h:a≠0):(a != 0)=true:=by
 have:(a==0)=false:=Bq.2 h
 unfold bne;rw[this];rfl
theorem Xv {l:List UInt8}(h:Ca l=0):Ly (CR l):=TE (Mg h) (by decide)
theorem Sv (a b:List UInt8):BK (sb a) (sb b)=decide (a=b):=by
 unfold BK
 by_cases h:a=b
 ·subst h;simp
 ·rw[Ah h]
  apply Bq.2;intro hh;apply h;simpa[sb]using hh
def Df (f:Nat->Nat):Nat->Nat
 | 0=>0
 |n+1=>if Df f n≠0 then Df f n else f n
theorem ME {f:Nat->Nat}{n:Nat}(h:∀j,j<n->f j=0):Df f n=0:=by
 induction n with
 |zero=>rfl
 |succ n ih=>
  have:=ih λj hj=>h j (by omega)
  unfold Df;rw[AG (λhh=>hh this)];exact h n (by omega)
theorem N8 {f:Nat->Nat}{i n:Nat}(h:∀j,j<i->f j=0)(hi:i<n)(h0:f i≠0):Df f n=f i:=by
 induction n with
 |zero=>omega
 |succ n ih=>
  unfold Df;rcases BG i n with hlt|hge
  ·have:=ih hlt
   rw[AH (by rw[this];exact h0),this]
  ·have:i=n:=by omega
   subst this;rw[AG (λhh=>hh (ME h))]
theorem QA {f:Nat->Nat}{n:Nat}(h:Df f n=0):∀j,j<n->f j=0:=by
 induction n with
 |zero=>intro j hj;omega
 |succ n ih=>
  unfold Df at h
  by_cases h0:Df f n=0
  ·rw[AG (λhh=>hh h0)]at h
   intro j hj;rcases BG j n with hl|hg
   ·exact ih h0 j hl
   ·have:j=n:=by omega
    subst this;exact h
  ·rw[AH h0]at h
   exact AZ h h0
structure Lm where
 name:List UInt8
 least:List (List UInt8)
 most:List (List UInt8)
 deriving Inhabited
def Lm.D (g:Lm):D:=.agg [str (sb g.name),.sl false 1 (g.least.map λl=>str (sb l)),.sl false 1 (g.most.map λl=>str (sb l))]
instance  (g:Lm):AW g.D:=by unfold Lm.D;exact AJ
instance  (g:Lm):AA g.D:=by unfold Lm.D;exact AJ
def lv (l:List (List UInt8))(k:Nat):List UInt8:=l.getD k []
def o8 (gs:List Lm)(i k:Nat):Option (List UInt8×List UInt8):=if i=0 then none else some (lv (gs.getD (i-1) default).least k,lv (gs.getD (i-1) default).most k)
theorem eG {α:Type}{l:List α}{p:α->Bool}{i:Nat}(h:∀(j:Nat) (x:α),j<i->l[j]?=some x->p x=false):(l.take i).any p=false:=by
 rw[List.any_eq_false];intro x hx;obtain⟨j,hj,e⟩:=List.mem_iff_getElem.1 hx;have hj2:j<i:=by rw[Bf]at hj;omega
 have:l[j]?=some x:=by
  rw[<-e,List.getElem_take];exact BI _
 rw[h j x hj2 this];simp
def Jj {α:Type}(p:α->Bool)(l:List α):Int:=if l.any p then(l.findIdx p:Int)else -1
theorem TQ {α:Type}{p:α->Bool}{l:List α}{i:Nat}{x:α}(hx:l[i]?=some x)(h:p x=true)(ha:∀(j:Nat) (y:α),j<i->l[j]?=some y->p y=false):Jj p l=i:=by
 unfold Jj;obtain⟨hi,e⟩:=List.getElem?_eq_some_iff.1 hx;rw[AH (List.any_eq_true.2 ⟨x,A0 hx,h⟩)]
 have:l.findIdx p=i:=(List.findIdx_eq hi).2 ⟨by rw[e];exact h,λj hj=>ha j _ hj (BI _)⟩
 rw[this]
theorem SU {α:Type}{p:α->Bool}{l:List α}(ha:∀(j:Nat) (y:α),j<l.length->l[j]?=some y->p y=false):Jj p l = -1:=by
 unfold Jj
 have:=eG (l:=l) (p:=p) (i:=l.length) ha
 rw[C8]at this;rw[this];rfl
theorem TR {α:Type}(p:α->Bool)(l:List α):decide (Jj p l>=0)=l.any p:=by
 unfold Jj;cases l.any p
 ·rfl
 ·exact AY (by simp)
end Go.Ide
