/- The layer of own lemmas and contracts, part 9. -/
import Derived.Test.YtegpdgcahcikoaaGreatDoorO8
import Derived.Test.YtegpdgcahcikoaaGreatDoorO7
import Derived.Test.YtegpdgcahcikoaaGreatDoorO3
set_option linter.unusedVariables false
set_option linter.unusedSimpArgs false
namespace Go.Ide
open Go.Proofs Go.RowKit
structure Av where
 lot:List UInt8
 part:List UInt8
def Av.D (s:Av):D:=.agg [str (sb s.lot),str (sb s.part)]
instance d8Q (s:Av):AT s.D:=by unfold Av.D;exact AI
instance d8R (s:Av):AA s.D:=by unfold Av.D;exact AI
abbrev Ce (b:Bool)(l:List Av):D:=.sl b 2 (l.map Av.D)
def Av.few (s:Av):Prop:=s.lot.length<=100000/\s.part.length<=100000
def Fm (l:List Av)(k:Nat):Av:=l.getD k ⟨[],[]⟩
theorem JT {l:List Av}{k:Nat}{s:Av}(h:l[k]?=some s):Fm l k=s:=by unfold Fm;rw[DR,h];rfl
structure AD where
 grain:List UInt8
 mass:Int
 shs:List Av
def AD.D (x:AD):D:=.agg [str (sb x.grain),i64 x.mass,Ce false x.shs]
instance d7N (x:AD):AT x.D:=by unfold AD.D;exact AI
instance d7O (x:AD):AA x.D:=by unfold AD.D;exact AI
abbrev Al (b:Bool)(l:List AD):D:=.sl b 3 (l.map AD.D)
theorem PM (z:Int)(h:Sm z):AK C0 76 [i64 z] (⟨AW z,1⟩:GF).D:=by
 have e:(⟨AW z,1⟩:GF).D=MI z 1:=by
  unfold GF.D;rw[Uj,JU h];rfl
 rw[e];exact ye z
theorem ot {n:GI}{k:Nat}(h:n.wf)(hk:1<=k)(hl:(Ae n.z.natAbs).length<=k):FR (n.z:Rat) ⟨n,1⟩ k:=by
 refine⟨⟨h,(Rat.num_intCast _).symm,(Rat.den_intCast _).symm⟩,?_⟩;unfold rk;rw[Rat.num_intCast,Rat.den_intCast];exact⟨hl,BX (G4 (n:=1) (k:=1) (by decide)) hk⟩
theorem Q2 {z:Int}(h:z.natAbs<18446744073709551616):FR (z:Rat) ⟨AW z,1⟩ 1:=by
 have:=ot (n:=AW z) (k:=1) (Ch _) (Af _) (by rw[Dq];exact G4 (k:=1) (by unfold BB;omega))
 rwa [Dq]at this
open Go.ChangeShapes Go.WideShapes
def Pq (P:Program)(t:Nat):Option (List (Nat×Nat×Nat)):=match P.underlying t with
 |some (.struct fs)=>some (fs.toList.map λf=>(f.type,f.offset,P.cellsOf f.type))
 |_=>none
section
variable {H:Type} {enc:TypeId×Value->H} {W:World} {fuel:Nat} {cs:List Value} {x:DataW H×List MemPlace} {t:TypeId}
theorem VP {l:List (Nat×Nat×Nat)}{m:Nat}(hs:Pq Tryz.prog t=some l)(hm:Tryz.prog.cellsOf t=m)(h:DataW.trod enc Tryz.prog W 0 (λ_=>true) true fuel t cs=some x):
  cs.length=m/\∃n,∀(i u off k:Nat),l[i]?=some (u,off,k)->∃y,DataW.trod enc Tryz.prog W 0 (λ_=>true) true n u ((cs.drop off).take k)=some y:=by
 unfold Pq at hs;split at hs
 ·rename_i fs hu
  obtain⟨h1,n,h2⟩:=lG hu h;refine⟨h1.trans hm,n,λi u off k hl=>?_⟩;obtain rfl:=F7 hs;rw[A8]at hl;obtain⟨f,hf,he⟩:=Option.map_eq_some_iff.1 hl;cases he;exact h2 i f (by rw[<-JB];exact hf)
 ·cases hs
theorem Lm {a b c:Nat}{p q:List D}(h:Dl W ((cs.drop a).take b) p)(k:Dl W ((cs.drop (a+b)).take c) q):Dl W ((cs.drop a).take (b+c)) (p++q):=by
 rw[List.take_add,List.drop_drop];exact h.append k
theorem Uy {n:Nat}{p:List D}(hn:cs.length=n)(h:Dl W ((cs.drop 0).take n) p):Dl W cs p:=by
 rw[FW,<-hn,Cf]at h;exact h
theorem vV (h:DataW.trod enc Tryz.prog W 0 (λ_=>true) true fuel 69 cs=some x):∃l:List UInt8,Dl W cs (str (sb l)).cells/\l.length<=maxLen:=bU (by kernel_rfl) h
theorem TN (h:DataW.trod enc Tryz.prog W 0 (λ_=>true) true fuel 9 cs=some x):∃l:List UInt8,Dl W cs [str (sb l)]/\l.length<=maxLen:=bU (by kernel_rfl) h
theorem RO (h:DataW.trod enc Tryz.prog W 0 (λ_=>true) true fuel 3 cs=some x):∃z:Int,Dl W cs [i64 z]:=by
 obtain⟨z,_,_,h⟩:=vU (by kernel_rfl) h;exact⟨z,h⟩
theorem nE (h:DataW.trod enc Tryz.prog W 0 (λ_=>true) true fuel 86 cs=some x):∃s:Av,Dl W cs s.D.cells/\True:=by
 obtain⟨h1,n,h2⟩:=VP (l:=[(9,0,1),(69,1,1)]) (m:=2) (by kernel_rfl) (by kernel_rfl) h;obtain⟨y0,k0⟩:=h2 0 _ _ _ rfl;obtain⟨y1,k1⟩:=h2 1 _ _ _ rfl;obtain⟨a0,r0,_⟩:=TN k0;obtain⟨a1,r1,_⟩:=vV k1;exact⟨⟨a0,a1⟩,Uy h1 (Lm (b:=1) (c:=1) r0 r1),trivial⟩
theorem lI (h:DataW.trod enc Tryz.prog W 0 (λ_=>true) true fuel 78 cs=some x):∃l:List Av,Dl W cs [Ce false l]/\(∀a∈l,True)/\l.length<=maxLen:=
 VO (g:=Av.D) (ok:=λ_=>True) (e:=86) (sz:=2) (by kernel_rfl) (by kernel_rfl) (by decide) (λ_ _ _ h=>nE h) h
theorem nD (h:DataW.trod enc Tryz.prog W 0 (λ_=>true) true fuel 80 cs=some x):∃s:AD,Dl W cs s.D.cells/\s.shs.length<=maxLen:=by
 obtain⟨h1,n,h2⟩:=VP (l:=[(9,0,1),(3,1,1),(78,2,1)]) (m:=3) (by kernel_rfl) (by kernel_rfl) h;obtain⟨y0,k0⟩:=h2 0 _ _ _ rfl;obtain⟨y1,k1⟩:=h2 1 _ _ _ rfl;obtain⟨y2,k2⟩:=h2 2 _ _ _ rfl;obtain⟨a0,r0,_⟩:=TN k0;obtain⟨a1,r1⟩:=RO k1;obtain⟨a2,r2,_,hl⟩:=lI k2;exact⟨⟨a0,a1,a2⟩,Uy h1 (Lm (b:=1) (c:=2) r0 (Lm (b:=1) (c:=1) r1 r2)),hl⟩
theorem lH (h:DataW.trod enc Tryz.prog W 0 (λ_=>true) true fuel 38 cs=some x):∃l:List AD,Dl W cs [Al false l]/\(∀a∈l,a.shs.length<=maxLen)/\l.length<=maxLen:=
 VO (g:=AD.D) (ok:=λs=>s.shs.length<=maxLen) (e:=80) (sz:=3) (by kernel_rfl) (by kernel_rfl) (by decide) (λ_ _ _ h=>nD h) h
end
set_option maxRecDepth 20000
set_option maxHeartbeats 2000000
theorem kg (c:Nat):(97<=c/\c<=122)\/(122<c)\/(65<=c/\c<=90)\/((91<=c/\c<=96)/\c≠95)\/(c=95)\/(58<=c/\c<=64)\/(48<=c/\c<=57)\/(c<48/\c≠45/\c≠46)\/(c=45)\/(c=46):=by omega
theorem eZ (l:List UInt8)(hl:l.length<=1000000):AK C0 84 [str (sb l)] (Aq (Dg l)):=by
 refine Ak.walk w1 wR rfl λF=>?_
 have hsz:=Cg l;refine sR 0 ?_;refine C4 (α:=Nat) (λn=>⟨[(0,str (sb l))],[],n⟩) (λ_=>1<=l.length/\l.length<=24) ?_ ?_
 ·by_cases h1:l.length<1
  ·have e1:decide ((l.length:Int)<1)=true:=AX (by omega)
   refine sZ 100 ?_;refine AU (Ah hsz e1) ?_;refine AE kT ?_;refine AM ?_;refine sR 200 ?_;refine Ai ?_;exact AL (by unfold Dg;rw[Ag (show ¬ 1<=l.length by omega)];simp) AA.out
  ·have e1:decide ((l.length:Int)<1)=false:=Ag (by omega)
   have e2:decide ((l.length:Int)>24)=decide (24<l.length):=C8.2 (by omega);refine sZ 100 ?_;refine AU (Ah hsz e1) ?_;refine AE (As kF hsz e2) ?_
   by_cases h2:24<l.length
   ·rw[AX h2]
    refine AM ?_;refine sR 200 ?_;refine Ai ?_;exact AL (by unfold Dg;rw[Ag (show ¬l.length<=24 by omega)];simp) AA.out
   ·rw[Ag h2]
    refine AM ?_;refine An ?_;exact⟨rfl,_,⟨by omega,by omega⟩,AJ⟩
 rintro n0 ⟨l1,l2⟩;refine AC.seq ?_;refine sR 300 ?_;refine AC.block ?_;refine AC.loop (α:=Nat×Nat) (λp=>⟨[(0,str (sb l)),(3,i64 (p.1:Int))],[],p.2⟩) (λp=>l.length-p.1) (λp=>p.1<=l.length/\(l.take p.1).all (λb=>Ct b.toNat)=true) (0,_) ⟨BU _,rfl⟩ AJ ?_;rintro⟨i,n⟩ F ⟨hi,ha⟩;dsimp only at hi ha⊢;refine AC.seq ?_;refine sZ 400 ?_;refine AU hsz ?_;refine AM ?_
 (refine By (λhlt=>?_) (λhlt=>?_))<;>(try simp only[Bj,Bw]at hlt)<;>(try simp only[hlt])
 ·have hi2:i<l.length:=by
   have:=DE hlt
   omega
  obtain⟨c,hc⟩:∃c,l[i]?=some c:=⟨l[i],A9 hi2⟩
  have hg:l.getD i 0=c:=by simp[hc]
  have wi:IntKind.i64.wrap ((i:Int)+1)=((i+1:Nat):Int):=wI (by omega) (by omega);refine An ?_;refine AC.seq ?_;refine AC.block ?_;refine sZ 600 ?_;refine AU (Ah kN hg) ?_;have hcl:Ct c.toNat=false->Dg l=false:=λh=>by
   unfold Dg;cases hall:l.all (λb=>Ct b.toNat)
   ·rfl
   ·have:=CQ.1 hall c (Aw hc)
    rw[h]at this;cases this
  have hsn:Ct c.toNat=true->(l.take (i+1)).all (λb=>Ct b.toNat)=true:=λh=>by
   rw[Da,hc,Js,ha];simpa using h
  have hc9:c.toNat<256:=c.toNat_lt;generalize c.toNat=c at*;refine C4 (α:=Nat) (λn=>⟨[(0,str (sb l)),(3,i64 (i:Int)),(56,Aq (!Ct c))],[],n⟩) (λ_=>True) ?_ ?_
  ·clear hcl hsn
   rcases kg c with h|h|h|h|h|h|h|h|h|h
   ·skip
    have f1:decide ((c:Int)>=97)=true:=AX (by omega);have f2:decide ((c:Int)<=122)=true:=AX (by omega);have f3:decide ((c:Int)>=65)=true:=AX (by omega);have f4:decide ((c:Int)<=90)=false:=Ag (by omega);have f5:decide ((c:Int)>=48)=true:=AX (by omega);have f6:decide ((c:Int)<=57)=false:=Ag (by omega);have f7:((c:Int)==45)=false:=Br.2 (by omega);have f8:((c:Int)==95)=false:=Br.2 (by omega);have f9:((c:Int)==46)=false:=Br.2 (by omega);have hnb:Ct c=true:=by
     unfold Ct;simp;omega
    rw[hnb];refine Ao w1 700 (by kernel_rfl) ?_;refine AE kB ?_
    try simp only[f1,f2,f3,f4,f5,f6,f7,f8,f9]
    refine AE kB ?_
    try simp only[f1,f2,f3,f4,f5,f6,f7,f8,f9]
    refine AE kB ?_
    try simp only[f1,f2,f3,f4,f5,f6,f7,f8,f9]
    refine AE kB ?_
    try simp only[f1,f2,f3,f4,f5,f6,f7,f8,f9]
    refine AE kB ?_
    try simp only[f1,f2,f3,f4,f5,f6,f7,f8,f9]
    refine AE kB ?_
    try simp only[f1,f2,f3,f4,f5,f6,f7,f8,f9]
    refine AE kB ?_
    try simp only[f1,f2,f3,f4,f5,f6,f7,f8,f9]
    refine AE kB ?_
    try simp only[f1,f2,f3,f4,f5,f6,f7,f8,f9]
    refine AE kB ?_
    try simp only[f1,f2,f3,f4,f5,f6,f7,f8,f9]
    exact⟨by first|exact AB|rfl|simp,_,trivial,AJ⟩
   ·skip
    have f1:decide ((c:Int)>=97)=true:=AX (by omega);have f2:decide ((c:Int)<=122)=false:=Ag (by omega);have f3:decide ((c:Int)>=65)=true:=AX (by omega);have f4:decide ((c:Int)<=90)=false:=Ag (by omega);have f5:decide ((c:Int)>=48)=true:=AX (by omega);have f6:decide ((c:Int)<=57)=false:=Ag (by omega);have f7:((c:Int)==45)=false:=Br.2 (by omega);have f8:((c:Int)==95)=false:=Br.2 (by omega);have f9:((c:Int)==46)=false:=Br.2 (by omega);have hnb:Ct c=false:=by
     unfold Ct;simp;omega
    rw[hnb];refine Ao w1 700 (by kernel_rfl) ?_;refine AE kB ?_
    try simp only[f1,f2,f3,f4,f5,f6,f7,f8,f9]
    refine AE kB ?_
    try simp only[f1,f2,f3,f4,f5,f6,f7,f8,f9]
    refine AE kB ?_
    try simp only[f1,f2,f3,f4,f5,f6,f7,f8,f9]
    refine AE kB ?_
    try simp only[f1,f2,f3,f4,f5,f6,f7,f8,f9]
    refine AE kB ?_
    try simp only[f1,f2,f3,f4,f5,f6,f7,f8,f9]
    refine AE kB ?_
    try simp only[f1,f2,f3,f4,f5,f6,f7,f8,f9]
    refine AE kB ?_
    try simp only[f1,f2,f3,f4,f5,f6,f7,f8,f9]
    refine AE kB ?_
    try simp only[f1,f2,f3,f4,f5,f6,f7,f8,f9]
    refine AE kB ?_
    try simp only[f1,f2,f3,f4,f5,f6,f7,f8,f9]
    exact⟨by first|exact AB|rfl|simp,_,trivial,AJ⟩
   ·skip
    have f1:decide ((c:Int)>=97)=false:=Ag (by omega);have f2:decide ((c:Int)<=122)=true:=AX (by omega);have f3:decide ((c:Int)>=65)=true:=AX (by omega);have f4:decide ((c:Int)<=90)=true:=AX (by omega);have f5:decide ((c:Int)>=48)=true:=AX (by omega);have f6:decide ((c:Int)<=57)=false:=Ag (by omega);have f7:((c:Int)==45)=false:=Br.2 (by omega);have f8:((c:Int)==95)=false:=Br.2 (by omega);have f9:((c:Int)==46)=false:=Br.2 (by omega);have hnb:Ct c=true:=by
     unfold Ct;simp;omega
    rw[hnb];refine Ao w1 700 (by kernel_rfl) ?_;refine AE kB ?_
    try simp only[f1,f2,f3,f4,f5,f6,f7,f8,f9]
    refine AE kB ?_
    try simp only[f1,f2,f3,f4,f5,f6,f7,f8,f9]
    refine AE kB ?_
    try simp only[f1,f2,f3,f4,f5,f6,f7,f8,f9]
    refine AE kB ?_
    try simp only[f1,f2,f3,f4,f5,f6,f7,f8,f9]
    refine AE kB ?_
    try simp only[f1,f2,f3,f4,f5,f6,f7,f8,f9]
    refine AE kB ?_
    try simp only[f1,f2,f3,f4,f5,f6,f7,f8,f9]
    refine AE kB ?_
    try simp only[f1,f2,f3,f4,f5,f6,f7,f8,f9]
    refine AE kB ?_
    try simp only[f1,f2,f3,f4,f5,f6,f7,f8,f9]
    refine AE kB ?_
    try simp only[f1,f2,f3,f4,f5,f6,f7,f8,f9]
    exact⟨by first|exact AB|rfl|simp,_,trivial,AJ⟩
   ·skip
    have f1:decide ((c:Int)>=97)=false:=Ag (by omega);have f2:decide ((c:Int)<=122)=true:=AX (by omega);have f3:decide ((c:Int)>=65)=true:=AX (by omega);have f4:decide ((c:Int)<=90)=false:=Ag (by omega);have f5:decide ((c:Int)>=48)=true:=AX (by omega);have f6:decide ((c:Int)<=57)=false:=Ag (by omega);have f7:((c:Int)==45)=false:=Br.2 (by omega);have f8:((c:Int)==95)=false:=Br.2 (by omega);have f9:((c:Int)==46)=false:=Br.2 (by omega);have hnb:Ct c=false:=by
     unfold Ct;simp;omega
    rw[hnb];refine Ao w1 700 (by kernel_rfl) ?_;refine AE kB ?_
    try simp only[f1,f2,f3,f4,f5,f6,f7,f8,f9]
    refine AE kB ?_
    try simp only[f1,f2,f3,f4,f5,f6,f7,f8,f9]
    refine AE kB ?_
    try simp only[f1,f2,f3,f4,f5,f6,f7,f8,f9]
    refine AE kB ?_
    try simp only[f1,f2,f3,f4,f5,f6,f7,f8,f9]
    refine AE kB ?_
    try simp only[f1,f2,f3,f4,f5,f6,f7,f8,f9]
    refine AE kB ?_
    try simp only[f1,f2,f3,f4,f5,f6,f7,f8,f9]
    refine AE kB ?_
    try simp only[f1,f2,f3,f4,f5,f6,f7,f8,f9]
    refine AE kB ?_
    try simp only[f1,f2,f3,f4,f5,f6,f7,f8,f9]
    refine AE kB ?_
    try simp only[f1,f2,f3,f4,f5,f6,f7,f8,f9]
    exact⟨by first|exact AB|rfl|simp,_,trivial,AJ⟩
   ·skip
    have f1:decide ((c:Int)>=97)=false:=Ag (by omega);have f2:decide ((c:Int)<=122)=true:=AX (by omega);have f3:decide ((c:Int)>=65)=true:=AX (by omega);have f4:decide ((c:Int)<=90)=false:=Ag (by omega);have f5:decide ((c:Int)>=48)=true:=AX (by omega);have f6:decide ((c:Int)<=57)=false:=Ag (by omega);have f7:((c:Int)==45)=false:=Br.2 (by omega);have f8:((c:Int)==95)=true:=EE.2 (by omega);have f9:((c:Int)==46)=false:=Br.2 (by omega);have hnb:Ct c=true:=by
     unfold Ct;simp;omega
    rw[hnb];refine Ao w1 700 (by kernel_rfl) ?_;refine AE kB ?_
    try simp only[f1,f2,f3,f4,f5,f6,f7,f8,f9]
    refine AE kB ?_
    try simp only[f1,f2,f3,f4,f5,f6,f7,f8,f9]
    refine AE kB ?_
    try simp only[f1,f2,f3,f4,f5,f6,f7,f8,f9]
    refine AE kB ?_
    try simp only[f1,f2,f3,f4,f5,f6,f7,f8,f9]
    refine AE kB ?_
    try simp only[f1,f2,f3,f4,f5,f6,f7,f8,f9]
    refine AE kB ?_
    try simp only[f1,f2,f3,f4,f5,f6,f7,f8,f9]
    refine AE kB ?_
    try simp only[f1,f2,f3,f4,f5,f6,f7,f8,f9]
    refine AE kB ?_
    try simp only[f1,f2,f3,f4,f5,f6,f7,f8,f9]
    refine AE kB ?_
    try simp only[f1,f2,f3,f4,f5,f6,f7,f8,f9]
    exact⟨by first|exact AB|rfl|simp,_,trivial,AJ⟩
   ·skip
    have f1:decide ((c:Int)>=97)=false:=Ag (by omega);have f2:decide ((c:Int)<=122)=true:=AX (by omega);have f3:decide ((c:Int)>=65)=false:=Ag (by omega);have f4:decide ((c:Int)<=90)=true:=AX (by omega);have f5:decide ((c:Int)>=48)=true:=AX (by omega);have f6:decide ((c:Int)<=57)=false:=Ag (by omega);have f7:((c:Int)==45)=false:=Br.2 (by omega);have f8:((c:Int)==95)=false:=Br.2 (by omega);have f9:((c:Int)==46)=false:=Br.2 (by omega);have hnb:Ct c=false:=by
     unfold Ct;simp;omega
    rw[hnb];refine Ao w1 700 (by kernel_rfl) ?_;refine AE kB ?_
    try simp only[f1,f2,f3,f4,f5,f6,f7,f8,f9]
    refine AE kB ?_
    try simp only[f1,f2,f3,f4,f5,f6,f7,f8,f9]
    refine AE kB ?_
    try simp only[f1,f2,f3,f4,f5,f6,f7,f8,f9]
    refine AE kB ?_
    try simp only[f1,f2,f3,f4,f5,f6,f7,f8,f9]
    refine AE kB ?_
    try simp only[f1,f2,f3,f4,f5,f6,f7,f8,f9]
    refine AE kB ?_
    try simp only[f1,f2,f3,f4,f5,f6,f7,f8,f9]
    refine AE kB ?_
    try simp only[f1,f2,f3,f4,f5,f6,f7,f8,f9]
    refine AE kB ?_
    try simp only[f1,f2,f3,f4,f5,f6,f7,f8,f9]
    refine AE kB ?_
    try simp only[f1,f2,f3,f4,f5,f6,f7,f8,f9]
    exact⟨by first|exact AB|rfl|simp,_,trivial,AJ⟩
   ·skip
    have f1:decide ((c:Int)>=97)=false:=Ag (by omega);have f2:decide ((c:Int)<=122)=true:=AX (by omega);have f3:decide ((c:Int)>=65)=false:=Ag (by omega);have f4:decide ((c:Int)<=90)=true:=AX (by omega);have f5:decide ((c:Int)>=48)=true:=AX (by omega);have f6:decide ((c:Int)<=57)=true:=AX (by omega);have f7:((c:Int)==45)=false:=Br.2 (by omega);have f8:((c:Int)==95)=false:=Br.2 (by omega);have f9:((c:Int)==46)=false:=Br.2 (by omega);have hnb:Ct c=true:=by
     unfold Ct;simp;omega
    rw[hnb];refine Ao w1 700 (by kernel_rfl) ?_;refine AE kB ?_
    try simp only[f1,f2,f3,f4,f5,f6,f7,f8,f9]
    refine AE kB ?_
    try simp only[f1,f2,f3,f4,f5,f6,f7,f8,f9]
    refine AE kB ?_
    try simp only[f1,f2,f3,f4,f5,f6,f7,f8,f9]
    refine AE kB ?_
    try simp only[f1,f2,f3,f4,f5,f6,f7,f8,f9]
    refine AE kB ?_
    try simp only[f1,f2,f3,f4,f5,f6,f7,f8,f9]
    refine AE kB ?_
    try simp only[f1,f2,f3,f4,f5,f6,f7,f8,f9]
    refine AE kB ?_
    try simp only[f1,f2,f3,f4,f5,f6,f7,f8,f9]
    refine AE kB ?_
    try simp only[f1,f2,f3,f4,f5,f6,f7,f8,f9]
    refine AE kB ?_
    try simp only[f1,f2,f3,f4,f5,f6,f7,f8,f9]
    exact⟨by first|exact AB|rfl|simp,_,trivial,AJ⟩
   ·skip
    have f1:decide ((c:Int)>=97)=false:=Ag (by omega);have f2:decide ((c:Int)<=122)=true:=AX (by omega);have f3:decide ((c:Int)>=65)=false:=Ag (by omega);have f4:decide ((c:Int)<=90)=true:=AX (by omega);have f5:decide ((c:Int)>=48)=false:=Ag (by omega);have f6:decide ((c:Int)<=57)=true:=AX (by omega);have f7:((c:Int)==45)=false:=Br.2 (by omega);have f8:((c:Int)==95)=false:=Br.2 (by omega);have f9:((c:Int)==46)=false:=Br.2 (by omega);have hnb:Ct c=false:=by
     unfold Ct;simp;omega
    rw[hnb];refine Ao w1 700 (by kernel_rfl) ?_;refine AE kB ?_
    try simp only[f1,f2,f3,f4,f5,f6,f7,f8,f9]
    refine AE kB ?_
    try simp only[f1,f2,f3,f4,f5,f6,f7,f8,f9]
    refine AE kB ?_
    try simp only[f1,f2,f3,f4,f5,f6,f7,f8,f9]
    refine AE kB ?_
    try simp only[f1,f2,f3,f4,f5,f6,f7,f8,f9]
    refine AE kB ?_
    try simp only[f1,f2,f3,f4,f5,f6,f7,f8,f9]
    refine AE kB ?_
    try simp only[f1,f2,f3,f4,f5,f6,f7,f8,f9]
    refine AE kB ?_
    try simp only[f1,f2,f3,f4,f5,f6,f7,f8,f9]
    refine AE kB ?_
    try simp only[f1,f2,f3,f4,f5,f6,f7,f8,f9]
    refine AE kB ?_
    try simp only[f1,f2,f3,f4,f5,f6,f7,f8,f9]
    exact⟨by first|exact AB|rfl|simp,_,trivial,AJ⟩
   ·skip
    have f1:decide ((c:Int)>=97)=false:=Ag (by omega);have f2:decide ((c:Int)<=122)=true:=AX (by omega);have f3:decide ((c:Int)>=65)=false:=Ag (by omega);have f4:decide ((c:Int)<=90)=true:=AX (by omega);have f5:decide ((c:Int)>=48)=false:=Ag (by omega);have f6:decide ((c:Int)<=57)=true:=AX (by omega);have f7:((c:Int)==45)=true:=EE.2 (by omega);have f8:((c:Int)==95)=false:=Br.2 (by omega);have f9:((c:Int)==46)=false:=Br.2 (by omega);have hnb:Ct c=true:=by
     unfold Ct;simp;omega
    rw[hnb];refine Ao w1 700 (by kernel_rfl) ?_;refine AE kB ?_
    try simp only[f1,f2,f3,f4,f5,f6,f7,f8,f9]
    refine AE kB ?_
    try simp only[f1,f2,f3,f4,f5,f6,f7,f8,f9]
    refine AE kB ?_
    try simp only[f1,f2,f3,f4,f5,f6,f7,f8,f9]
    refine AE kB ?_
    try simp only[f1,f2,f3,f4,f5,f6,f7,f8,f9]
    refine AE kB ?_
    try simp only[f1,f2,f3,f4,f5,f6,f7,f8,f9]
    refine AE kB ?_
    try simp only[f1,f2,f3,f4,f5,f6,f7,f8,f9]
    refine AE kB ?_
    try simp only[f1,f2,f3,f4,f5,f6,f7,f8,f9]
    refine AE kB ?_
    try simp only[f1,f2,f3,f4,f5,f6,f7,f8,f9]
    refine AE kB ?_
    try simp only[f1,f2,f3,f4,f5,f6,f7,f8,f9]
    exact⟨by first|exact AB|rfl|simp,_,trivial,AJ⟩
   ·skip
    have f1:decide ((c:Int)>=97)=false:=Ag (by omega);have f2:decide ((c:Int)<=122)=true:=AX (by omega);have f3:decide ((c:Int)>=65)=false:=Ag (by omega);have f4:decide ((c:Int)<=90)=true:=AX (by omega);have f5:decide ((c:Int)>=48)=false:=Ag (by omega);have f6:decide ((c:Int)<=57)=true:=AX (by omega);have f7:((c:Int)==45)=false:=Br.2 (by omega);have f8:((c:Int)==95)=false:=Br.2 (by omega);have f9:((c:Int)==46)=true:=EE.2 (by omega);have hnb:Ct c=true:=by
     unfold Ct;simp;omega
    rw[hnb];refine Ao w1 700 (by kernel_rfl) ?_;refine AE kB ?_
    try simp only[f1,f2,f3,f4,f5,f6,f7,f8,f9]
    refine AE kB ?_
    try simp only[f1,f2,f3,f4,f5,f6,f7,f8,f9]
    refine AE kB ?_
    try simp only[f1,f2,f3,f4,f5,f6,f7,f8,f9]
    refine AE kB ?_
    try simp only[f1,f2,f3,f4,f5,f6,f7,f8,f9]
    refine AE kB ?_
    try simp only[f1,f2,f3,f4,f5,f6,f7,f8,f9]
    refine AE kB ?_
    try simp only[f1,f2,f3,f4,f5,f6,f7,f8,f9]
    refine AE kB ?_
    try simp only[f1,f2,f3,f4,f5,f6,f7,f8,f9]
    refine AE kB ?_
    try simp only[f1,f2,f3,f4,f5,f6,f7,f8,f9]
    refine AE kB ?_
    try simp only[f1,f2,f3,f4,f5,f6,f7,f8,f9]
    exact⟨by first|exact AB|rfl|simp,_,trivial,AJ⟩
  rintro n1 -;cases hb:Ct c
  ·refine AM ?_
   refine sR 800 ?_;refine Ai ?_;exact AL (by rw[hcl hb]) AA.out
  ·refine AM ?_
   refine An ?_;refine Ao w1 500 (by kernel_rfl) ?_;refine AU wi ?_;exact⟨(i+1,_),⟨hi2,hsn hb⟩,by dsimp only;omega,AJ⟩
 ·have hi2:i=l.length:=by
   have:=DS hlt
   omega
  subst hi2;rw[B8 (Af _)]at ha;refine B9 ?_;refine sR 900 ?_;refine Ai ?_;exact AL (by unfold Dg;rw[ha,AX l1,AX l2];rfl) AA.out
def Et:List Int->Int
 | []=>0
 |e::r=>if e≠0 then e else Et r
theorem WH {v:List Int}{i:Nat}(h:∀(j:Nat) (e:Int),j<i->v[j]?=some e->e=0):Et v=Et (v.drop i):=by
 induction i generalizing v with
 |zero=>rfl
 |succ i ih=>
  cases v with
  |nil=>rfl
  |cons l r=>
   have h0:=h 0 l (Nat.succ_pos i) rfl;rw[ST];show(if l≠0 then l else Et r)=_;rw[AF (λhh=>hh h0)];exact ih λj m hj hm=>h (j+1) m (by omega) hm
theorem KQ {a:Int}(h:a≠0):(a != 0)=true:=by
 have:(a==0)=false:=Br.2 h
 unfold bne;rw[this];rfl
theorem Yy {l:List UInt8}(h:CY l=0):L9 (CR l):=UP (Mr h) (by decide)
theorem LW (a b:List UInt8):BK (sb a) (sb b)=decide (a=b):=by
 unfold BK
 by_cases h:a=b
 ·subst h;simp
 ·rw[Ag h]
  apply Br.2;intro hh;apply h;simpa[sb]using hh
def Dm (f:Nat->Nat):Nat->Nat
 | 0=>0
 |n+1=>if Dm f n≠0 then Dm f n else f n
theorem LC {f:Nat->Nat}{n:Nat}(h:∀j,j<n->f j=0):Dm f n=0:=by
 induction n with
 |zero=>rfl
 |succ n ih=>
  have:=ih λj hj=>h j (by omega)
  unfold Dm;rw[AF (λhh=>hh this)];exact h n (by omega)
theorem OU {f:Nat->Nat}{i n:Nat}(h:∀j,j<i->f j=0)(hi:i<n)(h0:f i≠0):Dm f n=f i:=by
 induction n with
 |zero=>omega
 |succ n ih=>
  unfold Dm;rcases BH i n with hlt|hge
  ·have:=ih hlt
   rw[AG (by rw[this];exact h0),this]
  ·have:i=n:=by omega
   subst this;rw[AF (λhh=>hh (LC h))]
theorem Qc {f:Nat->Nat}{n:Nat}(h:Dm f n=0):∀j,j<n->f j=0:=by
 induction n with
 |zero=>intro j hj;omega
 |succ n ih=>
  unfold Dm at h
  by_cases h0:Dm f n=0
  ·rw[AF (λhh=>hh h0)]at h
   intro j hj;rcases BH j n with hl|hg
   ·exact ih h0 j hl
   ·have:j=n:=by omega
    subst this;exact h
  ·rw[AG h0]at h
   exact Ad h h0
structure L1 where
 name:List UInt8
 least:List (List UInt8)
 most:List (List UInt8)
 deriving Inhabited
def L1.D (g:L1):D:=.agg [str (sb g.name),.sl false 1 (g.least.map λl=>str (sb l)),.sl false 1 (g.most.map λl=>str (sb l))]
instance  (g:L1):AT g.D:=by unfold L1.D;exact AI
instance  (g:L1):AA g.D:=by unfold L1.D;exact AI
def lv (l:List (List UInt8))(k:Nat):List UInt8:=l.getD k []
def qz (gs:List L1)(i k:Nat):Option (List UInt8×List UInt8):=if i=0 then none else some (lv (gs.getD (i-1) default).least k,lv (gs.getD (i-1) default).most k)
theorem ge {α:Type}{l:List α}{p:α->Bool}{i:Nat}(h:∀(j:Nat) (x:α),j<i->l[j]?=some x->p x=false):(l.take i).any p=false:=by
 rw[List.any_eq_false];intro x hx;obtain⟨j,hj,e⟩:=List.mem_iff_getElem.1 hx;have hj2:j<i:=by rw[Bd]at hj;omega
 have:l[j]?=some x:=by
  rw[<-e,List.getElem_take];exact A9 _
 rw[h j x hj2 this];simp
def Kn {α:Type}(p:α->Bool)(l:List α):Int:=if l.any p then(l.findIdx p:Int)else -1
theorem Ys {α:Type}{p:α->Bool}{l:List α}{i:Nat}{x:α}(hx:l[i]?=some x)(h:p x=true)(ha:∀(j:Nat) (y:α),j<i->l[j]?=some y->p y=false):Kn p l=i:=by
 unfold Kn;obtain⟨hi,e⟩:=List.getElem?_eq_some_iff.1 hx;rw[AG (List.any_eq_true.2 ⟨x,Aw hx,h⟩)]
 have:l.findIdx p=i:=(List.findIdx_eq hi).2 ⟨by rw[e];exact h,λj hj=>ha j _ hj (A9 _)⟩
 rw[this]
theorem XY {α:Type}{p:α->Bool}{l:List α}(ha:∀(j:Nat) (y:α),j<l.length->l[j]?=some y->p y=false):Kn p l = -1:=by
 unfold Kn
 have:=ge (l:=l) (p:=p) (i:=l.length) ha
 rw[Cf]at this;rw[this];rfl
theorem Yt {α:Type}(p:α->Bool)(l:List α):decide (Kn p l>=0)=l.any p:=by
 unfold Kn;cases l.any p
 ·rfl
 ·exact AX (by simp)
end Go.Ide
