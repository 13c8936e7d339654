/- The layer of own lemmas and contracts, part 9. -/
import Derived.Test.YtegpdgcahcikoaaGreatDoorZ8
import Derived.Test.YtegpdgcahcikoaaGreatDoorZ7
import Derived.Test.YtegpdgcahcikoaaGreatDoorZ3
set_option linter.unusedVariables false
set_option linter.unusedSimpArgs false
namespace Go.Ide
open Go.Proofs Go.RowKit
structure Av where
 lot:List UInt8
 part:List UInt8
def Av.D (s:Av):D:=.agg [str (sb s.lot),str (sb s.part)]
instance d9c (s:Av):AU s.D:=by unfold Av.D;exact AI
instance d9d (s:Av):AA s.D:=by unfold Av.D;exact AI
abbrev CX (b:Bool)(l:List Av):D:=.sl b 2 (l.map Av.D)
def Av.few (s:Av):Prop:=s.lot.length<=100000/\s.part.length<=100000
def Fq (l:List Av)(k:Nat):Av:=l.getD k ⟨[],[]⟩
theorem Jo {l:List Av}{k:Nat}{s:Av}(h:l[k]?=some s):Fq l k=s:=by unfold Fq;rw[Dw,h];rfl
structure AD where
 grain:List UInt8
 mass:Int
 shs:List Av
def AD.D (x:AD):D:=.agg [str (sb x.grain),i64 x.mass,CX false x.shs]
instance d7X (x:AD):AU x.D:=by unfold AD.D;exact AI
instance d7Y (x:AD):AA x.D:=by unfold AD.D;exact AI
abbrev AY (b:Bool)(l:List AD):D:=.sl b 3 (l.map AD.D)
theorem PS (z:Int)(h:Sm z):AJ C0 76 [i64 z] (⟨AX z,1⟩:GF).D:=by
 have e:(⟨AX z,1⟩:GF).D=Mb z 1:=by
  unfold GF.D;rw[U5,Jt h];rfl
 rw[e];exact yu z
theorem oM {n:GI}{k:Nat}(h:n.wf)(hk:1<=k)(hl:(Af n.z.natAbs).length<=k):FR (n.z:Rat) ⟨n,1⟩ k:=by
 refine⟨⟨h,(Rat.num_intCast _).symm,(Rat.den_intCast _).symm⟩,?_⟩;unfold rk;rw[Rat.num_intCast,Rat.den_intCast];exact⟨hl,BR (HB (n:=1) (k:=1) (by decide)) hk⟩
theorem Q9 {z:Int}(h:z.natAbs<18446744073709551616):FR (z:Rat) ⟨AX z,1⟩ 1:=by
 have:=oM (n:=AX z) (k:=1) (Cj _) (Ai _) (by rw[Dq];exact HB (k:=1) (by unfold BB;omega))
 rwa [Dq]at this
open Go.ChangeShapes Go.WideShapes
def Pw (P:Program)(t:Nat):Option (List (Nat×Nat×Nat)):=match P.underlying t with
 |some (.struct fs)=>some (fs.toList.map λf=>(f.type,f.offset,P.cellsOf f.type))
 |_=>none
section
variable {H:Type} {enc:TypeId×Value->H} {W:World} {fuel:Nat} {cs:List Value} {x:DataW H×List MemPlace} {t:TypeId}
theorem Vb {l:List (Nat×Nat×Nat)}{m:Nat}(hs:Pw Tryz.prog t=some l)(hm:Tryz.prog.cellsOf t=m)(h:DataW.trod enc Tryz.prog W 0 (λ_=>true) true fuel t cs=some x):
  cs.length=m/\∃n,∀(i u off k:Nat),l[i]?=some (u,off,k)->∃y,DataW.trod enc Tryz.prog W 0 (λ_=>true) true n u ((cs.drop off).take k)=some y:=by
 unfold Pw at hs;split at hs
 ·rename_i fs hu
  obtain⟨h1,n,h2⟩:=kw hu h;refine⟨h1.trans hm,n,λi u off k hl=>?_⟩;obtain rfl:=F7 hs;rw[A7]at hl;obtain⟨f,hf,he⟩:=Option.map_eq_some_iff.1 hl;cases he;exact h2 i f (by rw[<-JS];exact hf)
 ·cases hs
theorem L5 {a b c:Nat}{p q:List D}(h:DZ W ((cs.drop a).take b) p)(k:DZ W ((cs.drop (a+b)).take c) q):DZ W ((cs.drop a).take (b+c)) (p++q):=by
 rw[List.take_add,List.drop_drop];exact h.append k
theorem U2 {n:Nat}{p:List D}(hn:cs.length=n)(h:DZ W ((cs.drop 0).take n) p):DZ W cs p:=by
 rw[Fk,<-hn,DV]at h;exact h
theorem vG (h:DataW.trod enc Tryz.prog W 0 (λ_=>true) true fuel 69 cs=some x):∃l:List UInt8,DZ W cs (str (sb l)).cells/\l.length<=maxLen:=dV (by kernel_rfl) h
theorem Ta (h:DataW.trod enc Tryz.prog W 0 (λ_=>true) true fuel 9 cs=some x):∃l:List UInt8,DZ W cs [str (sb l)]/\l.length<=maxLen:=dV (by kernel_rfl) h
theorem Rm (h:DataW.trod enc Tryz.prog W 0 (λ_=>true) true fuel 3 cs=some x):∃z:Int,DZ W cs [i64 z]:=by
 obtain⟨z,_,_,h⟩:=vF (by kernel_rfl) h;exact⟨z,h⟩
theorem nA (h:DataW.trod enc Tryz.prog W 0 (λ_=>true) true fuel 86 cs=some x):∃s:Av,DZ W cs s.D.cells/\True:=by
 obtain⟨h1,n,h2⟩:=Vb (l:=[(9,0,1),(69,1,1)]) (m:=2) (by kernel_rfl) (by kernel_rfl) h;obtain⟨y0,k0⟩:=h2 0 _ _ _ rfl;obtain⟨y1,k1⟩:=h2 1 _ _ _ rfl;obtain⟨a0,r0,_⟩:=Ta k0;obtain⟨a1,r1,_⟩:=vG k1;exact⟨⟨a0,a1⟩,U2 h1 (L5 (b:=1) (c:=1) r0 r1),trivial⟩
theorem ky (h:DataW.trod enc Tryz.prog W 0 (λ_=>true) true fuel 78 cs=some x):∃l:List Av,DZ W cs [CX false l]/\(∀a∈l,True)/\l.length<=maxLen:=
 Va (g:=Av.D) (ok:=λ_=>True) (e:=86) (sz:=2) (by kernel_rfl) (by kernel_rfl) (by decide) (λ_ _ _ h=>nA h) h
theorem mz (h:DataW.trod enc Tryz.prog W 0 (λ_=>true) true fuel 80 cs=some x):∃s:AD,DZ W cs s.D.cells/\s.shs.length<=maxLen:=by
 obtain⟨h1,n,h2⟩:=Vb (l:=[(9,0,1),(3,1,1),(78,2,1)]) (m:=3) (by kernel_rfl) (by kernel_rfl) h;obtain⟨y0,k0⟩:=h2 0 _ _ _ rfl;obtain⟨y1,k1⟩:=h2 1 _ _ _ rfl;obtain⟨y2,k2⟩:=h2 2 _ _ _ rfl;obtain⟨a0,r0,_⟩:=Ta k0;obtain⟨a1,r1⟩:=Rm k1;obtain⟨a2,r2,_,hl⟩:=ky k2;exact⟨⟨a0,a1,a2⟩,U2 h1 (L5 (b:=1) (c:=2) r0 (L5 (b:=1) (c:=1) r1 r2)),hl⟩
theorem TZ (h:DataW.trod enc Tryz.prog W 0 (λ_=>true) true fuel 38 cs=some x):∃l:List AD,DZ W cs [AY false l]/\(∀a∈l,a.shs.length<=maxLen)/\l.length<=maxLen:=
 Va (g:=AD.D) (ok:=λs=>s.shs.length<=maxLen) (e:=80) (sz:=3) (by kernel_rfl) (by kernel_rfl) (by decide) (λ_ _ _ h=>mz h) h
end
theorem gB {P:Program}{W:World}{t e base:Nat}{v:Value}(hu:P.underlying t=some (.slice e))(h:Value.okWide P W .any base t v):∃a l c,v=.slice a l c:=by
 unfold Value.okWide at h;rw[hu]at h;dsimp only at h;unfold Cell.okWide at h;rw[hu]at h;cases v<;>first|exact⟨_,_,_,rfl⟩|(dsimp only at h;unfold Cell.ok at h;rw[hu]at h;exact h.elim)
theorem DZ.val1 {W:World}{v:Value}{d:D}(h:DZ W [v] [d]):AW nol (λ_=>False) W d v:=(h.cell 0 v d rfl rfl).2
set_option maxRecDepth 20000
set_option maxHeartbeats 2000000
theorem lI (c:Nat):(97<=c/\c<=122)\/(122<c)\/(65<=c/\c<=90)\/((91<=c/\c<=96)/\c≠95)\/(c=95)\/(58<=c/\c<=64)\/(48<=c/\c<=57)\/(c<48/\c≠45/\c≠46)\/(c=45)\/(c=46):=by omega
theorem fY (l:List UInt8)(hl:l.length<=1000000):AJ C0 84 [str (sb l)] (As (Dg l)):=by
 refine Aj.walk w1 wz rfl λF=>?_
 have hsz:=Ci l;refine sR 0 ?_;refine Cz (α:=Nat) (λn=>⟨[(0,str (sb l))],[],n⟩) (λ_=>1<=l.length/\l.length<=24) ?_ ?_
 ·by_cases h1:l.length<1
  ·have e1:decide ((l.length:Int)<1)=true:=AZ (by omega)
   refine sZ 100 ?_;refine AV (Ad hsz e1) ?_;refine AE kT ?_;refine AM ?_;refine sR 200 ?_;refine Ak ?_;exact AK (by unfold Dg;rw[Ah (show ¬ 1<=l.length by omega)];simp) AA.out
  ·have e1:decide ((l.length:Int)<1)=false:=Ah (by omega)
   have e2:decide ((l.length:Int)>24)=decide (24<l.length):=C5.2 (by omega);refine sZ 100 ?_;refine AV (Ad hsz e1) ?_;refine AE (At kF hsz e2) ?_
   by_cases h2:24<l.length
   ·rw[AZ h2]
    refine AM ?_;refine sR 200 ?_;refine Ak ?_;exact AK (by unfold Dg;rw[Ah (show ¬l.length<=24 by omega)];simp) AA.out
   ·rw[Ah h2]
    refine AM ?_;refine Ao ?_;exact⟨rfl,_,⟨by omega,by omega⟩,AL⟩
 rintro n0 ⟨l1,l2⟩;refine AC.seq ?_;refine sR 300 ?_;refine AC.block ?_;refine AC.loop (α:=Nat×Nat) (λp=>⟨[(0,str (sb l)),(3,i64 (p.1:Int))],[],p.2⟩) (λp=>l.length-p.1) (λp=>p.1<=l.length/\(l.take p.1).all (λb=>Cr b.toNat)=true) (0,_) ⟨BX _,rfl⟩ AL ?_;rintro⟨i,n⟩ F ⟨hi,ha⟩;dsimp only at hi ha⊢;refine AC.seq ?_;refine sZ 400 ?_;refine AV hsz ?_;refine AM ?_
 (refine By (λhlt=>?_) (λhlt=>?_))<;>(try simp only[Bi,Bv]at hlt)<;>(try simp only[hlt])
 ·have hi2:i<l.length:=by
   have:=C6 hlt
   omega
  obtain⟨c,hc⟩:∃c,l[i]?=some c:=⟨l[i],BG hi2⟩
  have hg:l.getD i 0=c:=by simp[hc]
  have wi:IntKind.i64.wrap ((i:Int)+1)=((i+1:Nat):Int):=wI (by omega) (by omega);refine Ao ?_;refine AC.seq ?_;refine AC.block ?_;refine sZ 600 ?_;refine AV (Ad kN hg) ?_;have hcl:Cr c.toNat=false->Dg l=false:=λh=>by
   unfold Dg;cases hall:l.all (λb=>Cr b.toNat)
   ·rfl
   ·have:=CS.1 hall c (Aw hc)
    rw[h]at this;cases this
  have hsn:Cr c.toNat=true->(l.take (i+1)).all (λb=>Cr b.toNat)=true:=λh=>by
   rw[Dp,hc,KO,ha];simpa using h
  have hc9:c.toNat<256:=c.toNat_lt;generalize c.toNat=c at*;refine Cz (α:=Nat) (λn=>⟨[(0,str (sb l)),(3,i64 (i:Int)),(56,As (!Cr c))],[],n⟩) (λ_=>True) ?_ ?_
  ·clear hcl hsn
   rcases lI c with h|h|h|h|h|h|h|h|h|h
   ·skip
    have f1:decide ((c:Int)>=97)=true:=AZ (by omega);have f2:decide ((c:Int)<=122)=true:=AZ (by omega);have f3:decide ((c:Int)>=65)=true:=AZ (by omega);have f4:decide ((c:Int)<=90)=false:=Ah (by omega);have f5:decide ((c:Int)>=48)=true:=AZ (by omega);have f6:decide ((c:Int)<=57)=false:=Ah (by omega);have f7:((c:Int)==45)=false:=Bu.2 (by omega);have f8:((c:Int)==95)=false:=Bu.2 (by omega);have f9:((c:Int)==46)=false:=Bu.2 (by omega);have hnb:Cr c=true:=by
     unfold Cr;simp;omega
    rw[hnb];refine Ap w1 700 (by kernel_rfl) ?_;refine AE kB ?_
    try simp only[f1,f2,f3,f4,f5,f6,f7,f8,f9]
    refine AE kB ?_
    try simp only[f1,f2,f3,f4,f5,f6,f7,f8,f9]
    refine AE kB ?_
    try simp only[f1,f2,f3,f4,f5,f6,f7,f8,f9]
    refine AE kB ?_
    try simp only[f1,f2,f3,f4,f5,f6,f7,f8,f9]
    refine AE kB ?_
    try simp only[f1,f2,f3,f4,f5,f6,f7,f8,f9]
    refine AE kB ?_
    try simp only[f1,f2,f3,f4,f5,f6,f7,f8,f9]
    refine AE kB ?_
    try simp only[f1,f2,f3,f4,f5,f6,f7,f8,f9]
    refine AE kB ?_
    try simp only[f1,f2,f3,f4,f5,f6,f7,f8,f9]
    refine AE kB ?_
    try simp only[f1,f2,f3,f4,f5,f6,f7,f8,f9]
    exact⟨by first|exact AB|rfl|simp,_,trivial,AL⟩
   ·skip
    have f1:decide ((c:Int)>=97)=true:=AZ (by omega);have f2:decide ((c:Int)<=122)=false:=Ah (by omega);have f3:decide ((c:Int)>=65)=true:=AZ (by omega);have f4:decide ((c:Int)<=90)=false:=Ah (by omega);have f5:decide ((c:Int)>=48)=true:=AZ (by omega);have f6:decide ((c:Int)<=57)=false:=Ah (by omega);have f7:((c:Int)==45)=false:=Bu.2 (by omega);have f8:((c:Int)==95)=false:=Bu.2 (by omega);have f9:((c:Int)==46)=false:=Bu.2 (by omega);have hnb:Cr c=false:=by
     unfold Cr;simp;omega
    rw[hnb];refine Ap w1 700 (by kernel_rfl) ?_;refine AE kB ?_
    try simp only[f1,f2,f3,f4,f5,f6,f7,f8,f9]
    refine AE kB ?_
    try simp only[f1,f2,f3,f4,f5,f6,f7,f8,f9]
    refine AE kB ?_
    try simp only[f1,f2,f3,f4,f5,f6,f7,f8,f9]
    refine AE kB ?_
    try simp only[f1,f2,f3,f4,f5,f6,f7,f8,f9]
    refine AE kB ?_
    try simp only[f1,f2,f3,f4,f5,f6,f7,f8,f9]
    refine AE kB ?_
    try simp only[f1,f2,f3,f4,f5,f6,f7,f8,f9]
    refine AE kB ?_
    try simp only[f1,f2,f3,f4,f5,f6,f7,f8,f9]
    refine AE kB ?_
    try simp only[f1,f2,f3,f4,f5,f6,f7,f8,f9]
    refine AE kB ?_
    try simp only[f1,f2,f3,f4,f5,f6,f7,f8,f9]
    exact⟨by first|exact AB|rfl|simp,_,trivial,AL⟩
   ·skip
    have f1:decide ((c:Int)>=97)=false:=Ah (by omega);have f2:decide ((c:Int)<=122)=true:=AZ (by omega);have f3:decide ((c:Int)>=65)=true:=AZ (by omega);have f4:decide ((c:Int)<=90)=true:=AZ (by omega);have f5:decide ((c:Int)>=48)=true:=AZ (by omega);have f6:decide ((c:Int)<=57)=false:=Ah (by omega);have f7:((c:Int)==45)=false:=Bu.2 (by omega);have f8:((c:Int)==95)=false:=Bu.2 (by omega);have f9:((c:Int)==46)=false:=Bu.2 (by omega);have hnb:Cr c=true:=by
     unfold Cr;simp;omega
    rw[hnb];refine Ap w1 700 (by kernel_rfl) ?_;refine AE kB ?_
    try simp only[f1,f2,f3,f4,f5,f6,f7,f8,f9]
    refine AE kB ?_
    try simp only[f1,f2,f3,f4,f5,f6,f7,f8,f9]
    refine AE kB ?_
    try simp only[f1,f2,f3,f4,f5,f6,f7,f8,f9]
    refine AE kB ?_
    try simp only[f1,f2,f3,f4,f5,f6,f7,f8,f9]
    refine AE kB ?_
    try simp only[f1,f2,f3,f4,f5,f6,f7,f8,f9]
    refine AE kB ?_
    try simp only[f1,f2,f3,f4,f5,f6,f7,f8,f9]
    refine AE kB ?_
    try simp only[f1,f2,f3,f4,f5,f6,f7,f8,f9]
    refine AE kB ?_
    try simp only[f1,f2,f3,f4,f5,f6,f7,f8,f9]
    refine AE kB ?_
    try simp only[f1,f2,f3,f4,f5,f6,f7,f8,f9]
    exact⟨by first|exact AB|rfl|simp,_,trivial,AL⟩
   ·skip
    have f1:decide ((c:Int)>=97)=false:=Ah (by omega);have f2:decide ((c:Int)<=122)=true:=AZ (by omega);have f3:decide ((c:Int)>=65)=true:=AZ (by omega);have f4:decide ((c:Int)<=90)=false:=Ah (by omega);have f5:decide ((c:Int)>=48)=true:=AZ (by omega);have f6:decide ((c:Int)<=57)=false:=Ah (by omega);have f7:((c:Int)==45)=false:=Bu.2 (by omega);have f8:((c:Int)==95)=false:=Bu.2 (by omega);have f9:((c:Int)==46)=false:=Bu.2 (by omega);have hnb:Cr c=false:=by
     unfold Cr;simp;omega
    rw[hnb];refine Ap w1 700 (by kernel_rfl) ?_;refine AE kB ?_
    try simp only[f1,f2,f3,f4,f5,f6,f7,f8,f9]
    refine AE kB ?_
    try simp only[f1,f2,f3,f4,f5,f6,f7,f8,f9]
    refine AE kB ?_
    try simp only[f1,f2,f3,f4,f5,f6,f7,f8,f9]
    refine AE kB ?_
    try simp only[f1,f2,f3,f4,f5,f6,f7,f8,f9]
    refine AE kB ?_
    try simp only[f1,f2,f3,f4,f5,f6,f7,f8,f9]
    refine AE kB ?_
    try simp only[f1,f2,f3,f4,f5,f6,f7,f8,f9]
    refine AE kB ?_
    try simp only[f1,f2,f3,f4,f5,f6,f7,f8,f9]
    refine AE kB ?_
    try simp only[f1,f2,f3,f4,f5,f6,f7,f8,f9]
    refine AE kB ?_
    try simp only[f1,f2,f3,f4,f5,f6,f7,f8,f9]
    exact⟨by first|exact AB|rfl|simp,_,trivial,AL⟩
   ·skip
    have f1:decide ((c:Int)>=97)=false:=Ah (by omega);have f2:decide ((c:Int)<=122)=true:=AZ (by omega);have f3:decide ((c:Int)>=65)=true:=AZ (by omega);have f4:decide ((c:Int)<=90)=false:=Ah (by omega);have f5:decide ((c:Int)>=48)=true:=AZ (by omega);have f6:decide ((c:Int)<=57)=false:=Ah (by omega);have f7:((c:Int)==45)=false:=Bu.2 (by omega);have f8:((c:Int)==95)=true:=EH.2 (by omega);have f9:((c:Int)==46)=false:=Bu.2 (by omega);have hnb:Cr c=true:=by
     unfold Cr;simp;omega
    rw[hnb];refine Ap w1 700 (by kernel_rfl) ?_;refine AE kB ?_
    try simp only[f1,f2,f3,f4,f5,f6,f7,f8,f9]
    refine AE kB ?_
    try simp only[f1,f2,f3,f4,f5,f6,f7,f8,f9]
    refine AE kB ?_
    try simp only[f1,f2,f3,f4,f5,f6,f7,f8,f9]
    refine AE kB ?_
    try simp only[f1,f2,f3,f4,f5,f6,f7,f8,f9]
    refine AE kB ?_
    try simp only[f1,f2,f3,f4,f5,f6,f7,f8,f9]
    refine AE kB ?_
    try simp only[f1,f2,f3,f4,f5,f6,f7,f8,f9]
    refine AE kB ?_
    try simp only[f1,f2,f3,f4,f5,f6,f7,f8,f9]
    refine AE kB ?_
    try simp only[f1,f2,f3,f4,f5,f6,f7,f8,f9]
    refine AE kB ?_
    try simp only[f1,f2,f3,f4,f5,f6,f7,f8,f9]
    exact⟨by first|exact AB|rfl|simp,_,trivial,AL⟩
   ·skip
    have f1:decide ((c:Int)>=97)=false:=Ah (by omega);have f2:decide ((c:Int)<=122)=true:=AZ (by omega);have f3:decide ((c:Int)>=65)=false:=Ah (by omega);have f4:decide ((c:Int)<=90)=true:=AZ (by omega);have f5:decide ((c:Int)>=48)=true:=AZ (by omega);have f6:decide ((c:Int)<=57)=false:=Ah (by omega);have f7:((c:Int)==45)=false:=Bu.2 (by omega);have f8:((c:Int)==95)=false:=Bu.2 (by omega);have f9:((c:Int)==46)=false:=Bu.2 (by omega);have hnb:Cr c=false:=by
     unfold Cr;simp;omega
    rw[hnb];refine Ap w1 700 (by kernel_rfl) ?_;refine AE kB ?_
    try simp only[f1,f2,f3,f4,f5,f6,f7,f8,f9]
    refine AE kB ?_
    try simp only[f1,f2,f3,f4,f5,f6,f7,f8,f9]
    refine AE kB ?_
    try simp only[f1,f2,f3,f4,f5,f6,f7,f8,f9]
    refine AE kB ?_
    try simp only[f1,f2,f3,f4,f5,f6,f7,f8,f9]
    refine AE kB ?_
    try simp only[f1,f2,f3,f4,f5,f6,f7,f8,f9]
    refine AE kB ?_
    try simp only[f1,f2,f3,f4,f5,f6,f7,f8,f9]
    refine AE kB ?_
    try simp only[f1,f2,f3,f4,f5,f6,f7,f8,f9]
    refine AE kB ?_
    try simp only[f1,f2,f3,f4,f5,f6,f7,f8,f9]
    refine AE kB ?_
    try simp only[f1,f2,f3,f4,f5,f6,f7,f8,f9]
    exact⟨by first|exact AB|rfl|simp,_,trivial,AL⟩
   ·skip
    have f1:decide ((c:Int)>=97)=false:=Ah (by omega);have f2:decide ((c:Int)<=122)=true:=AZ (by omega);have f3:decide ((c:Int)>=65)=false:=Ah (by omega);have f4:decide ((c:Int)<=90)=true:=AZ (by omega);have f5:decide ((c:Int)>=48)=true:=AZ (by omega);have f6:decide ((c:Int)<=57)=true:=AZ (by omega);have f7:((c:Int)==45)=false:=Bu.2 (by omega);have f8:((c:Int)==95)=false:=Bu.2 (by omega);have f9:((c:Int)==46)=false:=Bu.2 (by omega);have hnb:Cr c=true:=by
     unfold Cr;simp;omega
    rw[hnb];refine Ap w1 700 (by kernel_rfl) ?_;refine AE kB ?_
    try simp only[f1,f2,f3,f4,f5,f6,f7,f8,f9]
    refine AE kB ?_
    try simp only[f1,f2,f3,f4,f5,f6,f7,f8,f9]
    refine AE kB ?_
    try simp only[f1,f2,f3,f4,f5,f6,f7,f8,f9]
    refine AE kB ?_
    try simp only[f1,f2,f3,f4,f5,f6,f7,f8,f9]
    refine AE kB ?_
    try simp only[f1,f2,f3,f4,f5,f6,f7,f8,f9]
    refine AE kB ?_
    try simp only[f1,f2,f3,f4,f5,f6,f7,f8,f9]
    refine AE kB ?_
    try simp only[f1,f2,f3,f4,f5,f6,f7,f8,f9]
    refine AE kB ?_
    try simp only[f1,f2,f3,f4,f5,f6,f7,f8,f9]
    refine AE kB ?_
    try simp only[f1,f2,f3,f4,f5,f6,f7,f8,f9]
    exact⟨by first|exact AB|rfl|simp,_,trivial,AL⟩
   ·skip
    have f1:decide ((c:Int)>=97)=false:=Ah (by omega);have f2:decide ((c:Int)<=122)=true:=AZ (by omega);have f3:decide ((c:Int)>=65)=false:=Ah (by omega);have f4:decide ((c:Int)<=90)=true:=AZ (by omega);have f5:decide ((c:Int)>=48)=false:=Ah (by omega);have f6:decide ((c:Int)<=57)=true:=AZ (by omega);have f7:((c:Int)==45)=false:=Bu.2 (by omega);have f8:((c:Int)==95)=false:=Bu.2 (by omega);have f9:((c:Int)==46)=false:=Bu.2 (by omega);have hnb:Cr c=false:=by
     unfold Cr;simp;omega
    rw[hnb];refine Ap w1 700 (by kernel_rfl) ?_;refine AE kB ?_
    try simp only[f1,f2,f3,f4,f5,f6,f7,f8,f9]
    refine AE kB ?_
    try simp only[f1,f2,f3,f4,f5,f6,f7,f8,f9]
    refine AE kB ?_
    try simp only[f1,f2,f3,f4,f5,f6,f7,f8,f9]
    refine AE kB ?_
    try simp only[f1,f2,f3,f4,f5,f6,f7,f8,f9]
    refine AE kB ?_
    try simp only[f1,f2,f3,f4,f5,f6,f7,f8,f9]
    refine AE kB ?_
    try simp only[f1,f2,f3,f4,f5,f6,f7,f8,f9]
    refine AE kB ?_
    try simp only[f1,f2,f3,f4,f5,f6,f7,f8,f9]
    refine AE kB ?_
    try simp only[f1,f2,f3,f4,f5,f6,f7,f8,f9]
    refine AE kB ?_
    try simp only[f1,f2,f3,f4,f5,f6,f7,f8,f9]
    exact⟨by first|exact AB|rfl|simp,_,trivial,AL⟩
   ·skip
    have f1:decide ((c:Int)>=97)=false:=Ah (by omega);have f2:decide ((c:Int)<=122)=true:=AZ (by omega);have f3:decide ((c:Int)>=65)=false:=Ah (by omega);have f4:decide ((c:Int)<=90)=true:=AZ (by omega);have f5:decide ((c:Int)>=48)=false:=Ah (by omega);have f6:decide ((c:Int)<=57)=true:=AZ (by omega);have f7:((c:Int)==45)=true:=EH.2 (by omega);have f8:((c:Int)==95)=false:=Bu.2 (by omega);have f9:((c:Int)==46)=false:=Bu.2 (by omega);have hnb:Cr c=true:=by
     unfold Cr;simp;omega
    rw[hnb];refine Ap w1 700 (by kernel_rfl) ?_;refine AE kB ?_
    try simp only[f1,f2,f3,f4,f5,f6,f7,f8,f9]
    refine AE kB ?_
    try simp only[f1,f2,f3,f4,f5,f6,f7,f8,f9]
    refine AE kB ?_
    try simp only[f1,f2,f3,f4,f5,f6,f7,f8,f9]
    refine AE kB ?_
    try simp only[f1,f2,f3,f4,f5,f6,f7,f8,f9]
    refine AE kB ?_
    try simp only[f1,f2,f3,f4,f5,f6,f7,f8,f9]
    refine AE kB ?_
    try simp only[f1,f2,f3,f4,f5,f6,f7,f8,f9]
    refine AE kB ?_
    try simp only[f1,f2,f3,f4,f5,f6,f7,f8,f9]
    refine AE kB ?_
    try simp only[f1,f2,f3,f4,f5,f6,f7,f8,f9]
    refine AE kB ?_
    try simp only[f1,f2,f3,f4,f5,f6,f7,f8,f9]
    exact⟨by first|exact AB|rfl|simp,_,trivial,AL⟩
   ·skip
    have f1:decide ((c:Int)>=97)=false:=Ah (by omega);have f2:decide ((c:Int)<=122)=true:=AZ (by omega);have f3:decide ((c:Int)>=65)=false:=Ah (by omega);have f4:decide ((c:Int)<=90)=true:=AZ (by omega);have f5:decide ((c:Int)>=48)=false:=Ah (by omega);have f6:decide ((c:Int)<=57)=true:=AZ (by omega);have f7:((c:Int)==45)=false:=Bu.2 (by omega);have f8:((c:Int)==95)=false:=Bu.2 (by omega);have f9:((c:Int)==46)=true:=EH.2 (by omega);have hnb:Cr c=true:=by
     unfold Cr;simp;omega
    rw[hnb];refine Ap w1 700 (by kernel_rfl) ?_;refine AE kB ?_
    try simp only[f1,f2,f3,f4,f5,f6,f7,f8,f9]
    refine AE kB ?_
    try simp only[f1,f2,f3,f4,f5,f6,f7,f8,f9]
    refine AE kB ?_
    try simp only[f1,f2,f3,f4,f5,f6,f7,f8,f9]
    refine AE kB ?_
    try simp only[f1,f2,f3,f4,f5,f6,f7,f8,f9]
    refine AE kB ?_
    try simp only[f1,f2,f3,f4,f5,f6,f7,f8,f9]
    refine AE kB ?_
    try simp only[f1,f2,f3,f4,f5,f6,f7,f8,f9]
    refine AE kB ?_
    try simp only[f1,f2,f3,f4,f5,f6,f7,f8,f9]
    refine AE kB ?_
    try simp only[f1,f2,f3,f4,f5,f6,f7,f8,f9]
    refine AE kB ?_
    try simp only[f1,f2,f3,f4,f5,f6,f7,f8,f9]
    exact⟨by first|exact AB|rfl|simp,_,trivial,AL⟩
  rintro n1 -;cases hb:Cr c
  ·refine AM ?_
   refine sR 800 ?_;refine Ak ?_;exact AK (by rw[hcl hb]) AA.out
  ·refine AM ?_
   refine Ao ?_;refine Ap w1 500 (by kernel_rfl) ?_;refine AV wi ?_;exact⟨(i+1,_),⟨hi2,hsn hb⟩,by dsimp only;omega,AL⟩
 ·have hi2:i=l.length:=by
   have:=DP hlt
   omega
  subst hi2;rw[CE (Ai _)]at ha;refine CC ?_;refine sR 900 ?_;refine Ak ?_;exact AK (by unfold Dg;rw[ha,AZ l1,AZ l2];rfl) AA.out
def DX:List Int->Int
 | []=>0
 |e::r=>if e≠0 then e else DX r
theorem Wg {v:List Int}{i:Nat}(h:∀(j:Nat) (e:Int),j<i->v[j]?=some e->e=0):DX v=DX (v.drop i):=by
 induction i generalizing v with
 |zero=>rfl
 |succ i ih=>
  cases v with
  |nil=>rfl
  |cons l r=>
   have h0:=h 0 l (Nat.succ_pos i) rfl;rw[SW];show(if l≠0 then l else DX r)=_;rw[AF (λhh=>hh h0)];exact ih λj m hj hm=>h (j+1) m (by omega) hm
theorem Gs {a:Int}(h:a≠0):(a != 0)=true:=by
 have:(a==0)=false:=Bu.2 h
 unfold bne;rw[this];rfl
theorem Y4 {l:List UInt8}(h:Cb l=0):MR (CT l):=UH (NE h) (by decide)
theorem Lr (a b:List UInt8):BF (sb a) (sb b)=decide (a=b):=by
 unfold BF
 by_cases h:a=b
 ·subst h;simp
 ·rw[Ah h]
  apply Bu.2;intro hh;apply h;simpa[sb]using hh
def Dm (f:Nat->Nat):Nat->Nat
 | 0=>0
 |n+1=>if Dm f n≠0 then Dm f n else f n
theorem KY {f:Nat->Nat}{n:Nat}(h:∀j,j<n->f j=0):Dm f n=0:=by
 induction n with
 |zero=>rfl
 |succ n ih=>
  have:=ih λj hj=>h j (by omega)
  unfold Dm;rw[AF (λhh=>hh this)];exact h n (by omega)
theorem Oe {f:Nat->Nat}{i n:Nat}(h:∀j,j<i->f j=0)(hi:i<n)(h0:f i≠0):Dm f n=f i:=by
 induction n with
 |zero=>omega
 |succ n ih=>
  unfold Dm;rcases BI i n with hlt|hge
  ·have:=ih hlt
   rw[AH (by rw[this];exact h0),this]
  ·have:i=n:=by omega
   subst this;rw[AF (λhh=>hh (KY h))]
theorem Qg {f:Nat->Nat}{n:Nat}(h:Dm f n=0):∀j,j<n->f j=0:=by
 induction n with
 |zero=>intro j hj;omega
 |succ n ih=>
  unfold Dm at h
  by_cases h0:Dm f n=0
  ·rw[AF (λhh=>hh h0)]at h
   intro j hj;rcases BI j n with hl|hg
   ·exact ih h0 j hl
   ·have:j=n:=by omega
    subst this;exact h
  ·rw[AH h0]at h
   exact Ae h h0
structure MG where
 name:List UInt8
 least:List (List UInt8)
 most:List (List UInt8)
 deriving Inhabited
def MG.D (g:MG):D:=.agg [str (sb g.name),.sl false 1 (g.least.map λl=>str (sb l)),.sl false 1 (g.most.map λl=>str (sb l))]
instance  (g:MG):AU g.D:=by unfold MG.D;exact AI
instance  (g:MG):AA g.D:=by unfold MG.D;exact AI
def lv (l:List (List UInt8))(k:Nat):List UInt8:=l.getD k []
def q6 (gs:List MG)(i k:Nat):Option (List UInt8×List UInt8):=if i=0 then none else some (lv (gs.getD (i-1) default).least k,lv (gs.getD (i-1) default).most k)
theorem iU {α:Type}{l:List α}{p:α->Bool}{i:Nat}(h:∀(j:Nat) (x:α),j<i->l[j]?=some x->p x=false):(l.take i).any p=false:=by
 rw[List.any_eq_false];intro x hx;obtain⟨j,hj,e⟩:=List.mem_iff_getElem.1 hx;have hj2:j<i:=by rw[Bb]at hj;omega
 have:l[j]?=some x:=by
  rw[<-e,List.getElem_take];exact BG _
 rw[h j x hj2 this];simp
def J7 {α:Type}(p:α->Bool)(l:List α):Int:=if l.any p then(l.findIdx p:Int)else -1
theorem UR {α:Type}{p:α->Bool}{l:List α}{i:Nat}{x:α}(hx:l[i]?=some x)(h:p x=true)(ha:∀(j:Nat) (y:α),j<i->l[j]?=some y->p y=false):J7 p l=i:=by
 unfold J7;obtain⟨hi,e⟩:=List.getElem?_eq_some_iff.1 hx;rw[AH (List.any_eq_true.2 ⟨x,Aw hx,h⟩)]
 have:l.findIdx p=i:=(List.findIdx_eq hi).2 ⟨by rw[e];exact h,λj hj=>ha j _ hj (BG _)⟩
 rw[this]
theorem S7 {α:Type}{p:α->Bool}{l:List α}(ha:∀(j:Nat) (y:α),j<l.length->l[j]?=some y->p y=false):J7 p l = -1:=by
 unfold J7
 have:=iU (l:=l) (p:=p) (i:=l.length) ha
 rw[DV]at this;rw[this];rfl
theorem US {α:Type}(p:α->Bool)(l:List α):decide (J7 p l>=0)=l.any p:=by
 unfold J7;cases l.any p
 ·rfl
 ·exact AZ (by simp)
end Go.Ide
