/- The layer of own lemmas and contracts, part 9. -/
import Derived.Test.YtegpdgcahcikoaaGreatDoorY8
import Derived.Test.YtegpdgcahcikoaaGreatDoorY7
import Derived.Test.YtegpdgcahcikoaaGreatDoorY3
set_option linter.unusedVariables false
set_option linter.unusedSimpArgs false
namespace Go.Ide
open Go.Proofs Go.RowKit
structure Ay where
 lot:List UInt8
 part:List UInt8
def Ay.D (s:Ay):D:=.agg [str (sb s.lot),str (sb s.part)]
instance d8T (s:Ay):AV s.D:=by unfold Ay.D;exact AJ
instance d8U (s:Ay):AA s.D:=by unfold Ay.D;exact AJ
abbrev DD (b:Bool)(l:List Ay):D:=.sl b 2 (l.map Ay.D)
def Ay.few (s:Ay):Prop:=s.lot.length<=100000/\s.part.length<=100000
def Ff (l:List Ay)(k:Nat):Ay:=l.getD k ⟨[],[]⟩
theorem Jb {l:List Ay}{k:Nat}{s:Ay}(h:l[k]?=some s):Ff l k=s:=by unfold Ff;rw[Dj,h];rfl
structure AE where
 grain:List UInt8
 mass:Int
 shs:List Ay
def AE.D (x:AE):D:=.agg [str (sb x.grain),i64 x.mass,DD false x.shs]
instance d7O (x:AE):AV x.D:=by unfold AE.D;exact AJ
instance d7P (x:AE):AA x.D:=by unfold AE.D;exact AJ
abbrev Am (b:Bool)(l:List AE):D:=.sl b 3 (l.map AE.D)
theorem O8 (z:Int)(h:Sm z):AI C0 76 [i64 z] (⟨AW z,1⟩:GF).D:=by
 have e:(⟨AW z,1⟩:GF).D=MI z 1:=by
  unfold GF.D;rw[UY,JY h];rfl
 rw[e];exact y6 z
theorem nm {n:GI}{k:Nat}(h:n.wf)(hk:1<=k)(hl:(Ad n.z.natAbs).length<=k):FR (n.z:Rat) ⟨n,1⟩ k:=by
 refine⟨⟨h,(Rat.num_intCast _).symm,(Rat.den_intCast _).symm⟩,?_⟩;unfold rk;rw[Rat.num_intCast,Rat.den_intCast];exact⟨hl,BQ (Gw (n:=1) (k:=1) (by decide)) hk⟩
theorem Qk {z:Int}(h:z.natAbs<18446744073709551616):FR (z:Rat) ⟨AW z,1⟩ 1:=by
 have:=nm (n:=AW z) (k:=1) (Cf _) (Af _) (by rw[Dl];exact Gw (k:=1) (by unfold BB;omega))
 rwa [Dl]at this
open Go.ChangeShapes Go.WideShapes
def Pc (P:Program)(t:Nat):Option (List (Nat×Nat×Nat)):=match P.underlying t with
 |some (.struct fs)=>some (fs.toList.map λf=>(f.type,f.offset,P.cellsOf f.type))
 |_=>none
section
variable {H:Type} {enc:TypeId×Value->H} {W:World} {fuel:Nat} {cs:List Value} {x:DataW H×List MemPlace} {t:TypeId}
theorem VK {l:List (Nat×Nat×Nat)}{m:Nat}(hs:Pc Tryz.prog t=some l)(hm:Tryz.prog.cellsOf t=m)(h:DataW.trod enc Tryz.prog W 0 (λ_=>true) true fuel t cs=some x):
  cs.length=m/\∃n,∀(i u off k:Nat),l[i]?=some (u,off,k)->∃y,DataW.trod enc Tryz.prog W 0 (λ_=>true) true n u ((cs.drop off).take k)=some y:=by
 unfold Pc at hs;split at hs
 ·rename_i fs hu
  obtain⟨h1,n,h2⟩:=kh hu h;refine⟨h1.trans hm,n,λi u off k hl=>?_⟩;obtain rfl:=F3 hs;rw[A7]at hl;obtain⟨f,hf,he⟩:=Option.map_eq_some_iff.1 hl;cases he;exact h2 i f (by rw[<-JG];exact hf)
 ·cases hs
theorem Le {a b c:Nat}{p q:List D}(h:Dg W ((cs.drop a).take b) p)(k:Dg W ((cs.drop (a+b)).take c) q):Dg W ((cs.drop a).take (b+c)) (p++q):=by
 rw[List.take_add,List.drop_drop];exact h.append k
theorem Un {n:Nat}{p:List D}(hn:cs.length=n)(h:Dg W ((cs.drop 0).take n) p):Dg W cs p:=by
 rw[Fd,<-hn,DO]at h;exact h
theorem ua (h:DataW.trod enc Tryz.prog W 0 (λ_=>true) true fuel 69 cs=some x):∃l:List UInt8,Dg W cs (str (sb l)).cells/\l.length<=maxLen:=bQ (by kernel_rfl) h
theorem S4 (h:DataW.trod enc Tryz.prog W 0 (λ_=>true) true fuel 9 cs=some x):∃l:List UInt8,Dg W cs [str (sb l)]/\l.length<=maxLen:=bQ (by kernel_rfl) h
theorem Q9 (h:DataW.trod enc Tryz.prog W 0 (λ_=>true) true fuel 3 cs=some x):∃z:Int,Dg W cs [i64 z]:=by
 obtain⟨z,_,_,h⟩:=u9 (by kernel_rfl) h;exact⟨z,h⟩
theorem mv (h:DataW.trod enc Tryz.prog W 0 (λ_=>true) true fuel 86 cs=some x):∃s:Ay,Dg W cs s.D.cells/\True:=by
 obtain⟨h1,n,h2⟩:=VK (l:=[(9,0,1),(69,1,1)]) (m:=2) (by kernel_rfl) (by kernel_rfl) h;obtain⟨y0,k0⟩:=h2 0 _ _ _ rfl;obtain⟨y1,k1⟩:=h2 1 _ _ _ rfl;obtain⟨a0,r0,_⟩:=S4 k0;obtain⟨a1,r1,_⟩:=ua k1;exact⟨⟨a0,a1⟩,Un h1 (Le (b:=1) (c:=1) r0 r1),trivial⟩
theorem kj (h:DataW.trod enc Tryz.prog W 0 (λ_=>true) true fuel 78 cs=some x):∃l:List Ay,Dg W cs [DD false l]/\(∀a∈l,True)/\l.length<=maxLen:=
 VJ (g:=Ay.D) (ok:=λ_=>True) (e:=86) (sz:=2) (by kernel_rfl) (by kernel_rfl) (by decide) (λ_ _ _ h=>mv h) h
theorem mu (h:DataW.trod enc Tryz.prog W 0 (λ_=>true) true fuel 80 cs=some x):∃s:AE,Dg W cs s.D.cells/\s.shs.length<=maxLen:=by
 obtain⟨h1,n,h2⟩:=VK (l:=[(9,0,1),(3,1,1),(78,2,1)]) (m:=3) (by kernel_rfl) (by kernel_rfl) h;obtain⟨y0,k0⟩:=h2 0 _ _ _ rfl;obtain⟨y1,k1⟩:=h2 1 _ _ _ rfl;obtain⟨y2,k2⟩:=h2 2 _ _ _ rfl;obtain⟨a0,r0,_⟩:=S4 k0;obtain⟨a1,r1⟩:=Q9 k1;obtain⟨a2,r2,_,hl⟩:=kj k2;exact⟨⟨a0,a1,a2⟩,Un h1 (Le (b:=1) (c:=2) r0 (Le (b:=1) (c:=1) r1 r2)),hl⟩
theorem ki (h:DataW.trod enc Tryz.prog W 0 (λ_=>true) true fuel 38 cs=some x):∃l:List AE,Dg W cs [Am false l]/\(∀a∈l,a.shs.length<=maxLen)/\l.length<=maxLen:=
 VJ (g:=AE.D) (ok:=λs=>s.shs.length<=maxLen) (e:=80) (sz:=3) (by kernel_rfl) (by kernel_rfl) (by decide) (λ_ _ _ h=>mu h) h
end
set_option maxRecDepth 20000
set_option maxHeartbeats 2000000
theorem kt (c:Nat):(97<=c/\c<=122)\/(122<c)\/(65<=c/\c<=90)\/((91<=c/\c<=96)/\c≠95)\/(c=95)\/(58<=c/\c<=64)\/(48<=c/\c<=57)\/(c<48/\c≠45/\c≠46)\/(c=45)\/(c=46):=by omega
theorem eJ (l:List UInt8)(hl:l.length<=1000000):AI C0 84 [str (sb l)] (Aq (Db l)):=by
 refine Ag.walk w1 wB rfl λF=>?_
 have hsz:=Ce l;refine sR 0 ?_;refine Cw (α:=Nat) (λn=>⟨[(0,str (sb l))],[],n⟩) (λ_=>1<=l.length/\l.length<=24) ?_ ?_
 ·by_cases h1:l.length<1
  ·have e1:decide ((l.length:Int)<1)=true:=AX (by omega)
   refine sZ 100 ?_;refine AT (Aj hsz e1) ?_;refine AD kT ?_;refine AM ?_;refine sR 200 ?_;refine Ah ?_;exact AL (by unfold Db;rw[Ac (show ¬ 1<=l.length by omega)];simp) AA.out
  ·have e1:decide ((l.length:Int)<1)=false:=Ac (by omega)
   have e2:decide ((l.length:Int)>24)=decide (24<l.length):=C4.2 (by omega);refine sZ 100 ?_;refine AT (Aj hsz e1) ?_;refine AD (As kF hsz e2) ?_
   by_cases h2:24<l.length
   ·rw[AX h2]
    refine AM ?_;refine sR 200 ?_;refine Ah ?_;exact AL (by unfold Db;rw[Ac (show ¬l.length<=24 by omega)];simp) AA.out
   ·rw[Ac h2]
    refine AM ?_;refine An ?_;exact⟨rfl,_,⟨by omega,by omega⟩,AK⟩
 rintro n0 ⟨l1,l2⟩;refine AC.seq ?_;refine sR 300 ?_;refine AC.block ?_;refine AC.loop (α:=Nat×Nat) (λp=>⟨[(0,str (sb l)),(3,i64 (p.1:Int))],[],p.2⟩) (λp=>l.length-p.1) (λp=>p.1<=l.length/\(l.take p.1).all (λb=>Co b.toNat)=true) (0,_) ⟨BS _,rfl⟩ AK ?_;rintro⟨i,n⟩ F ⟨hi,ha⟩;dsimp only at hi ha⊢;refine AC.seq ?_;refine sZ 400 ?_;refine AT hsz ?_;refine AM ?_
 (refine Bw (λhlt=>?_) (λhlt=>?_))<;>(try simp only[Bi,Bu]at hlt)<;>(try simp only[hlt])
 ·have hi2:i<l.length:=by
   have:=Cz hlt
   omega
  obtain⟨c,hc⟩:∃c,l[i]?=some c:=⟨l[i],BE hi2⟩
  have hg:l.getD i 0=c:=by simp[hc]
  have wi:IntKind.i64.wrap ((i:Int)+1)=((i+1:Nat):Int):=wI (by omega) (by omega);refine An ?_;refine AC.seq ?_;refine AC.block ?_;refine sZ 600 ?_;refine AT (Aj kN hg) ?_;have hcl:Co c.toNat=false->Db l=false:=λh=>by
   unfold Db;cases hall:l.all (λb=>Co b.toNat)
   ·rfl
   ·have:=CN.1 hall c (Av hc)
    rw[h]at this;cases this
  have hsn:Co c.toNat=true->(l.take (i+1)).all (λb=>Co b.toNat)=true:=λh=>by
   rw[Di,hc,Jz,ha];simpa using h
  have hc9:c.toNat<256:=c.toNat_lt;generalize c.toNat=c at*;refine Cw (α:=Nat) (λn=>⟨[(0,str (sb l)),(3,i64 (i:Int)),(56,Aq (!Co c))],[],n⟩) (λ_=>True) ?_ ?_
  ·clear hcl hsn
   rcases kt c with h|h|h|h|h|h|h|h|h|h
   ·skip
    have f1:decide ((c:Int)>=97)=true:=AX (by omega);have f2:decide ((c:Int)<=122)=true:=AX (by omega);have f3:decide ((c:Int)>=65)=true:=AX (by omega);have f4:decide ((c:Int)<=90)=false:=Ac (by omega);have f5:decide ((c:Int)>=48)=true:=AX (by omega);have f6:decide ((c:Int)<=57)=false:=Ac (by omega);have f7:((c:Int)==45)=false:=Bs.2 (by omega);have f8:((c:Int)==95)=false:=Bs.2 (by omega);have f9:((c:Int)==46)=false:=Bs.2 (by omega);have hnb:Co c=true:=by
     unfold Co;simp;omega
    rw[hnb];refine Ao w1 700 (by kernel_rfl) ?_;refine AD kB ?_
    try simp only[f1,f2,f3,f4,f5,f6,f7,f8,f9]
    refine AD kB ?_
    try simp only[f1,f2,f3,f4,f5,f6,f7,f8,f9]
    refine AD kB ?_
    try simp only[f1,f2,f3,f4,f5,f6,f7,f8,f9]
    refine AD kB ?_
    try simp only[f1,f2,f3,f4,f5,f6,f7,f8,f9]
    refine AD kB ?_
    try simp only[f1,f2,f3,f4,f5,f6,f7,f8,f9]
    refine AD kB ?_
    try simp only[f1,f2,f3,f4,f5,f6,f7,f8,f9]
    refine AD kB ?_
    try simp only[f1,f2,f3,f4,f5,f6,f7,f8,f9]
    refine AD kB ?_
    try simp only[f1,f2,f3,f4,f5,f6,f7,f8,f9]
    refine AD kB ?_
    try simp only[f1,f2,f3,f4,f5,f6,f7,f8,f9]
    exact⟨by first|exact AB|rfl|simp,_,trivial,AK⟩
   ·skip
    have f1:decide ((c:Int)>=97)=true:=AX (by omega);have f2:decide ((c:Int)<=122)=false:=Ac (by omega);have f3:decide ((c:Int)>=65)=true:=AX (by omega);have f4:decide ((c:Int)<=90)=false:=Ac (by omega);have f5:decide ((c:Int)>=48)=true:=AX (by omega);have f6:decide ((c:Int)<=57)=false:=Ac (by omega);have f7:((c:Int)==45)=false:=Bs.2 (by omega);have f8:((c:Int)==95)=false:=Bs.2 (by omega);have f9:((c:Int)==46)=false:=Bs.2 (by omega);have hnb:Co c=false:=by
     unfold Co;simp;omega
    rw[hnb];refine Ao w1 700 (by kernel_rfl) ?_;refine AD kB ?_
    try simp only[f1,f2,f3,f4,f5,f6,f7,f8,f9]
    refine AD kB ?_
    try simp only[f1,f2,f3,f4,f5,f6,f7,f8,f9]
    refine AD kB ?_
    try simp only[f1,f2,f3,f4,f5,f6,f7,f8,f9]
    refine AD kB ?_
    try simp only[f1,f2,f3,f4,f5,f6,f7,f8,f9]
    refine AD kB ?_
    try simp only[f1,f2,f3,f4,f5,f6,f7,f8,f9]
    refine AD kB ?_
    try simp only[f1,f2,f3,f4,f5,f6,f7,f8,f9]
    refine AD kB ?_
    try simp only[f1,f2,f3,f4,f5,f6,f7,f8,f9]
    refine AD kB ?_
    try simp only[f1,f2,f3,f4,f5,f6,f7,f8,f9]
    refine AD kB ?_
    try simp only[f1,f2,f3,f4,f5,f6,f7,f8,f9]
    exact⟨by first|exact AB|rfl|simp,_,trivial,AK⟩
   ·skip
    have f1:decide ((c:Int)>=97)=false:=Ac (by omega);have f2:decide ((c:Int)<=122)=true:=AX (by omega);have f3:decide ((c:Int)>=65)=true:=AX (by omega);have f4:decide ((c:Int)<=90)=true:=AX (by omega);have f5:decide ((c:Int)>=48)=true:=AX (by omega);have f6:decide ((c:Int)<=57)=false:=Ac (by omega);have f7:((c:Int)==45)=false:=Bs.2 (by omega);have f8:((c:Int)==95)=false:=Bs.2 (by omega);have f9:((c:Int)==46)=false:=Bs.2 (by omega);have hnb:Co c=true:=by
     unfold Co;simp;omega
    rw[hnb];refine Ao w1 700 (by kernel_rfl) ?_;refine AD kB ?_
    try simp only[f1,f2,f3,f4,f5,f6,f7,f8,f9]
    refine AD kB ?_
    try simp only[f1,f2,f3,f4,f5,f6,f7,f8,f9]
    refine AD kB ?_
    try simp only[f1,f2,f3,f4,f5,f6,f7,f8,f9]
    refine AD kB ?_
    try simp only[f1,f2,f3,f4,f5,f6,f7,f8,f9]
    refine AD kB ?_
    try simp only[f1,f2,f3,f4,f5,f6,f7,f8,f9]
    refine AD kB ?_
    try simp only[f1,f2,f3,f4,f5,f6,f7,f8,f9]
    refine AD kB ?_
    try simp only[f1,f2,f3,f4,f5,f6,f7,f8,f9]
    refine AD kB ?_
    try simp only[f1,f2,f3,f4,f5,f6,f7,f8,f9]
    refine AD kB ?_
    try simp only[f1,f2,f3,f4,f5,f6,f7,f8,f9]
    exact⟨by first|exact AB|rfl|simp,_,trivial,AK⟩
   ·skip
    have f1:decide ((c:Int)>=97)=false:=Ac (by omega);have f2:decide ((c:Int)<=122)=true:=AX (by omega);have f3:decide ((c:Int)>=65)=true:=AX (by omega);have f4:decide ((c:Int)<=90)=false:=Ac (by omega);have f5:decide ((c:Int)>=48)=true:=AX (by omega);have f6:decide ((c:Int)<=57)=false:=Ac (by omega);have f7:((c:Int)==45)=false:=Bs.2 (by omega);have f8:((c:Int)==95)=false:=Bs.2 (by omega);have f9:((c:Int)==46)=false:=Bs.2 (by omega);have hnb:Co c=false:=by
     unfold Co;simp;omega
    rw[hnb];refine Ao w1 700 (by kernel_rfl) ?_;refine AD kB ?_
    try simp only[f1,f2,f3,f4,f5,f6,f7,f8,f9]
    refine AD kB ?_
    try simp only[f1,f2,f3,f4,f5,f6,f7,f8,f9]
    refine AD kB ?_
    try simp only[f1,f2,f3,f4,f5,f6,f7,f8,f9]
    refine AD kB ?_
    try simp only[f1,f2,f3,f4,f5,f6,f7,f8,f9]
    refine AD kB ?_
    try simp only[f1,f2,f3,f4,f5,f6,f7,f8,f9]
    refine AD kB ?_
    try simp only[f1,f2,f3,f4,f5,f6,f7,f8,f9]
    refine AD kB ?_
    try simp only[f1,f2,f3,f4,f5,f6,f7,f8,f9]
    refine AD kB ?_
    try simp only[f1,f2,f3,f4,f5,f6,f7,f8,f9]
    refine AD kB ?_
    try simp only[f1,f2,f3,f4,f5,f6,f7,f8,f9]
    exact⟨by first|exact AB|rfl|simp,_,trivial,AK⟩
   ·skip
    have f1:decide ((c:Int)>=97)=false:=Ac (by omega);have f2:decide ((c:Int)<=122)=true:=AX (by omega);have f3:decide ((c:Int)>=65)=true:=AX (by omega);have f4:decide ((c:Int)<=90)=false:=Ac (by omega);have f5:decide ((c:Int)>=48)=true:=AX (by omega);have f6:decide ((c:Int)<=57)=false:=Ac (by omega);have f7:((c:Int)==45)=false:=Bs.2 (by omega);have f8:((c:Int)==95)=true:=EB.2 (by omega);have f9:((c:Int)==46)=false:=Bs.2 (by omega);have hnb:Co c=true:=by
     unfold Co;simp;omega
    rw[hnb];refine Ao w1 700 (by kernel_rfl) ?_;refine AD kB ?_
    try simp only[f1,f2,f3,f4,f5,f6,f7,f8,f9]
    refine AD kB ?_
    try simp only[f1,f2,f3,f4,f5,f6,f7,f8,f9]
    refine AD kB ?_
    try simp only[f1,f2,f3,f4,f5,f6,f7,f8,f9]
    refine AD kB ?_
    try simp only[f1,f2,f3,f4,f5,f6,f7,f8,f9]
    refine AD kB ?_
    try simp only[f1,f2,f3,f4,f5,f6,f7,f8,f9]
    refine AD kB ?_
    try simp only[f1,f2,f3,f4,f5,f6,f7,f8,f9]
    refine AD kB ?_
    try simp only[f1,f2,f3,f4,f5,f6,f7,f8,f9]
    refine AD kB ?_
    try simp only[f1,f2,f3,f4,f5,f6,f7,f8,f9]
    refine AD kB ?_
    try simp only[f1,f2,f3,f4,f5,f6,f7,f8,f9]
    exact⟨by first|exact AB|rfl|simp,_,trivial,AK⟩
   ·skip
    have f1:decide ((c:Int)>=97)=false:=Ac (by omega);have f2:decide ((c:Int)<=122)=true:=AX (by omega);have f3:decide ((c:Int)>=65)=false:=Ac (by omega);have f4:decide ((c:Int)<=90)=true:=AX (by omega);have f5:decide ((c:Int)>=48)=true:=AX (by omega);have f6:decide ((c:Int)<=57)=false:=Ac (by omega);have f7:((c:Int)==45)=false:=Bs.2 (by omega);have f8:((c:Int)==95)=false:=Bs.2 (by omega);have f9:((c:Int)==46)=false:=Bs.2 (by omega);have hnb:Co c=false:=by
     unfold Co;simp;omega
    rw[hnb];refine Ao w1 700 (by kernel_rfl) ?_;refine AD kB ?_
    try simp only[f1,f2,f3,f4,f5,f6,f7,f8,f9]
    refine AD kB ?_
    try simp only[f1,f2,f3,f4,f5,f6,f7,f8,f9]
    refine AD kB ?_
    try simp only[f1,f2,f3,f4,f5,f6,f7,f8,f9]
    refine AD kB ?_
    try simp only[f1,f2,f3,f4,f5,f6,f7,f8,f9]
    refine AD kB ?_
    try simp only[f1,f2,f3,f4,f5,f6,f7,f8,f9]
    refine AD kB ?_
    try simp only[f1,f2,f3,f4,f5,f6,f7,f8,f9]
    refine AD kB ?_
    try simp only[f1,f2,f3,f4,f5,f6,f7,f8,f9]
    refine AD kB ?_
    try simp only[f1,f2,f3,f4,f5,f6,f7,f8,f9]
    refine AD kB ?_
    try simp only[f1,f2,f3,f4,f5,f6,f7,f8,f9]
    exact⟨by first|exact AB|rfl|simp,_,trivial,AK⟩
   ·skip
    have f1:decide ((c:Int)>=97)=false:=Ac (by omega);have f2:decide ((c:Int)<=122)=true:=AX (by omega);have f3:decide ((c:Int)>=65)=false:=Ac (by omega);have f4:decide ((c:Int)<=90)=true:=AX (by omega);have f5:decide ((c:Int)>=48)=true:=AX (by omega);have f6:decide ((c:Int)<=57)=true:=AX (by omega);have f7:((c:Int)==45)=false:=Bs.2 (by omega);have f8:((c:Int)==95)=false:=Bs.2 (by omega);have f9:((c:Int)==46)=false:=Bs.2 (by omega);have hnb:Co c=true:=by
     unfold Co;simp;omega
    rw[hnb];refine Ao w1 700 (by kernel_rfl) ?_;refine AD kB ?_
    try simp only[f1,f2,f3,f4,f5,f6,f7,f8,f9]
    refine AD kB ?_
    try simp only[f1,f2,f3,f4,f5,f6,f7,f8,f9]
    refine AD kB ?_
    try simp only[f1,f2,f3,f4,f5,f6,f7,f8,f9]
    refine AD kB ?_
    try simp only[f1,f2,f3,f4,f5,f6,f7,f8,f9]
    refine AD kB ?_
    try simp only[f1,f2,f3,f4,f5,f6,f7,f8,f9]
    refine AD kB ?_
    try simp only[f1,f2,f3,f4,f5,f6,f7,f8,f9]
    refine AD kB ?_
    try simp only[f1,f2,f3,f4,f5,f6,f7,f8,f9]
    refine AD kB ?_
    try simp only[f1,f2,f3,f4,f5,f6,f7,f8,f9]
    refine AD kB ?_
    try simp only[f1,f2,f3,f4,f5,f6,f7,f8,f9]
    exact⟨by first|exact AB|rfl|simp,_,trivial,AK⟩
   ·skip
    have f1:decide ((c:Int)>=97)=false:=Ac (by omega);have f2:decide ((c:Int)<=122)=true:=AX (by omega);have f3:decide ((c:Int)>=65)=false:=Ac (by omega);have f4:decide ((c:Int)<=90)=true:=AX (by omega);have f5:decide ((c:Int)>=48)=false:=Ac (by omega);have f6:decide ((c:Int)<=57)=true:=AX (by omega);have f7:((c:Int)==45)=false:=Bs.2 (by omega);have f8:((c:Int)==95)=false:=Bs.2 (by omega);have f9:((c:Int)==46)=false:=Bs.2 (by omega);have hnb:Co c=false:=by
     unfold Co;simp;omega
    rw[hnb];refine Ao w1 700 (by kernel_rfl) ?_;refine AD kB ?_
    try simp only[f1,f2,f3,f4,f5,f6,f7,f8,f9]
    refine AD kB ?_
    try simp only[f1,f2,f3,f4,f5,f6,f7,f8,f9]
    refine AD kB ?_
    try simp only[f1,f2,f3,f4,f5,f6,f7,f8,f9]
    refine AD kB ?_
    try simp only[f1,f2,f3,f4,f5,f6,f7,f8,f9]
    refine AD kB ?_
    try simp only[f1,f2,f3,f4,f5,f6,f7,f8,f9]
    refine AD kB ?_
    try simp only[f1,f2,f3,f4,f5,f6,f7,f8,f9]
    refine AD kB ?_
    try simp only[f1,f2,f3,f4,f5,f6,f7,f8,f9]
    refine AD kB ?_
    try simp only[f1,f2,f3,f4,f5,f6,f7,f8,f9]
    refine AD kB ?_
    try simp only[f1,f2,f3,f4,f5,f6,f7,f8,f9]
    exact⟨by first|exact AB|rfl|simp,_,trivial,AK⟩
   ·skip
    have f1:decide ((c:Int)>=97)=false:=Ac (by omega);have f2:decide ((c:Int)<=122)=true:=AX (by omega);have f3:decide ((c:Int)>=65)=false:=Ac (by omega);have f4:decide ((c:Int)<=90)=true:=AX (by omega);have f5:decide ((c:Int)>=48)=false:=Ac (by omega);have f6:decide ((c:Int)<=57)=true:=AX (by omega);have f7:((c:Int)==45)=true:=EB.2 (by omega);have f8:((c:Int)==95)=false:=Bs.2 (by omega);have f9:((c:Int)==46)=false:=Bs.2 (by omega);have hnb:Co c=true:=by
     unfold Co;simp;omega
    rw[hnb];refine Ao w1 700 (by kernel_rfl) ?_;refine AD kB ?_
    try simp only[f1,f2,f3,f4,f5,f6,f7,f8,f9]
    refine AD kB ?_
    try simp only[f1,f2,f3,f4,f5,f6,f7,f8,f9]
    refine AD kB ?_
    try simp only[f1,f2,f3,f4,f5,f6,f7,f8,f9]
    refine AD kB ?_
    try simp only[f1,f2,f3,f4,f5,f6,f7,f8,f9]
    refine AD kB ?_
    try simp only[f1,f2,f3,f4,f5,f6,f7,f8,f9]
    refine AD kB ?_
    try simp only[f1,f2,f3,f4,f5,f6,f7,f8,f9]
    refine AD kB ?_
    try simp only[f1,f2,f3,f4,f5,f6,f7,f8,f9]
    refine AD kB ?_
    try simp only[f1,f2,f3,f4,f5,f6,f7,f8,f9]
    refine AD kB ?_
    try simp only[f1,f2,f3,f4,f5,f6,f7,f8,f9]
    exact⟨by first|exact AB|rfl|simp,_,trivial,AK⟩
   ·skip
    have f1:decide ((c:Int)>=97)=false:=Ac (by omega);have f2:decide ((c:Int)<=122)=true:=AX (by omega);have f3:decide ((c:Int)>=65)=false:=Ac (by omega);have f4:decide ((c:Int)<=90)=true:=AX (by omega);have f5:decide ((c:Int)>=48)=false:=Ac (by omega);have f6:decide ((c:Int)<=57)=true:=AX (by omega);have f7:((c:Int)==45)=false:=Bs.2 (by omega);have f8:((c:Int)==95)=false:=Bs.2 (by omega);have f9:((c:Int)==46)=true:=EB.2 (by omega);have hnb:Co c=true:=by
     unfold Co;simp;omega
    rw[hnb];refine Ao w1 700 (by kernel_rfl) ?_;refine AD kB ?_
    try simp only[f1,f2,f3,f4,f5,f6,f7,f8,f9]
    refine AD kB ?_
    try simp only[f1,f2,f3,f4,f5,f6,f7,f8,f9]
    refine AD kB ?_
    try simp only[f1,f2,f3,f4,f5,f6,f7,f8,f9]
    refine AD kB ?_
    try simp only[f1,f2,f3,f4,f5,f6,f7,f8,f9]
    refine AD kB ?_
    try simp only[f1,f2,f3,f4,f5,f6,f7,f8,f9]
    refine AD kB ?_
    try simp only[f1,f2,f3,f4,f5,f6,f7,f8,f9]
    refine AD kB ?_
    try simp only[f1,f2,f3,f4,f5,f6,f7,f8,f9]
    refine AD kB ?_
    try simp only[f1,f2,f3,f4,f5,f6,f7,f8,f9]
    refine AD kB ?_
    try simp only[f1,f2,f3,f4,f5,f6,f7,f8,f9]
    exact⟨by first|exact AB|rfl|simp,_,trivial,AK⟩
  rintro n1 -;cases hb:Co c
  ·refine AM ?_
   refine sR 800 ?_;refine Ah ?_;exact AL (by rw[hcl hb]) AA.out
  ·refine AM ?_
   refine An ?_;refine Ao w1 500 (by kernel_rfl) ?_;refine AT wi ?_;exact⟨(i+1,_),⟨hi2,hsn hb⟩,by dsimp only;omega,AK⟩
 ·have hi2:i=l.length:=by
   have:=DN hlt
   omega
  subst hi2;rw[CA (Af _)]at ha;refine B6 ?_;refine sR 900 ?_;refine Ah ?_;exact AL (by unfold Db;rw[ha,AX l1,AX l2];rfl) AA.out
def ES:List Int->Int
 | []=>0
 |e::r=>if e≠0 then e else ES r
theorem WP {v:List Int}{i:Nat}(h:∀(j:Nat) (e:Int),j<i->v[j]?=some e->e=0):ES v=ES (v.drop i):=by
 induction i generalizing v with
 |zero=>rfl
 |succ i ih=>
  cases v with
  |nil=>rfl
  |cons l r=>
   have h0:=h 0 l (Nat.succ_pos i) rfl;rw[SH];show(if l≠0 then l else ES r)=_;rw[AF (λhh=>hh h0)];exact ih λj m hj hm=>h (j+1) m (by omega) hm
theorem Ir {a:Int}(h:a≠0):(a != 0)=true:=by
 have:(a==0)=false:=Bs.2 h
 unfold bne;rw[this];rfl
theorem Yw {l:List UInt8}(h:CV l=0):L7 (CO l):=UD (Mn h) (by decide)
theorem LT (a b:List UInt8):BJ (sb a) (sb b)=decide (a=b):=by
 unfold BJ
 by_cases h:a=b
 ·subst h;simp
 ·rw[Ac h]
  apply Bs.2;intro hh;apply h;simpa[sb]using hh
def Dh (f:Nat->Nat):Nat->Nat
 | 0=>0
 |n+1=>if Dh f n≠0 then Dh f n else f n
theorem LC {f:Nat->Nat}{n:Nat}(h:∀j,j<n->f j=0):Dh f n=0:=by
 induction n with
 |zero=>rfl
 |succ n ih=>
  have:=ih λj hj=>h j (by omega)
  unfold Dh;rw[AF (λhh=>hh this)];exact h n (by omega)
theorem OS {f:Nat->Nat}{i n:Nat}(h:∀j,j<i->f j=0)(hi:i<n)(h0:f i≠0):Dh f n=f i:=by
 induction n with
 |zero=>omega
 |succ n ih=>
  unfold Dh;rcases BG i n with hlt|hge
  ·have:=ih hlt
   rw[AG (by rw[this];exact h0),this]
  ·have:i=n:=by omega
   subst this;rw[AF (λhh=>hh (LC h))]
theorem QQ {f:Nat->Nat}{n:Nat}(h:Dh f n=0):∀j,j<n->f j=0:=by
 induction n with
 |zero=>intro j hj;omega
 |succ n ih=>
  unfold Dh at h
  by_cases h0:Dh f n=0
  ·rw[AF (λhh=>hh h0)]at h
   intro j hj;rcases BG j n with hl|hg
   ·exact ih h0 j hl
   ·have:j=n:=by omega
    subst this;exact h
  ·rw[AG h0]at h
   exact Ae h h0
structure L1 where
 name:List UInt8
 least:List (List UInt8)
 most:List (List UInt8)
 deriving Inhabited
def L1.D (g:L1):D:=.agg [str (sb g.name),.sl false 1 (g.least.map λl=>str (sb l)),.sl false 1 (g.most.map λl=>str (sb l))]
instance  (g:L1):AV g.D:=by unfold L1.D;exact AJ
instance  (g:L1):AA g.D:=by unfold L1.D;exact AJ
def lv (l:List (List UInt8))(k:Nat):List UInt8:=l.getD k []
def qE (gs:List L1)(i k:Nat):Option (List UInt8×List UInt8):=if i=0 then none else some (lv (gs.getD (i-1) default).least k,lv (gs.getD (i-1) default).most k)
theorem gV {α:Type}{l:List α}{p:α->Bool}{i:Nat}(h:∀(j:Nat) (x:α),j<i->l[j]?=some x->p x=false):(l.take i).any p=false:=by
 rw[List.any_eq_false];intro x hx;obtain⟨j,hj,e⟩:=List.mem_iff_getElem.1 hx;have hj2:j<i:=by rw[Ba]at hj;omega
 have:l[j]?=some x:=by
  rw[<-e,List.getElem_take];exact BE _
 rw[h j x hj2 this];simp
def Jr {α:Type}(p:α->Bool)(l:List α):Int:=if l.any p then(l.findIdx p:Int)else -1
theorem Th {α:Type}{p:α->Bool}{l:List α}{i:Nat}{x:α}(hx:l[i]?=some x)(h:p x=true)(ha:∀(j:Nat) (y:α),j<i->l[j]?=some y->p y=false):Jr p l=i:=by
 unfold Jr;obtain⟨hi,e⟩:=List.getElem?_eq_some_iff.1 hx;rw[AG (List.any_eq_true.2 ⟨x,Av hx,h⟩)]
 have:l.findIdx p=i:=(List.findIdx_eq hi).2 ⟨by rw[e];exact h,λj hj=>ha j _ hj (BE _)⟩
 rw[this]
theorem S7 {α:Type}{p:α->Bool}{l:List α}(ha:∀(j:Nat) (y:α),j<l.length->l[j]?=some y->p y=false):Jr p l = -1:=by
 unfold Jr
 have:=gV (l:=l) (p:=p) (i:=l.length) ha
 rw[DO]at this;rw[this];rfl
theorem Ti {α:Type}(p:α->Bool)(l:List α):decide (Jr p l>=0)=l.any p:=by
 unfold Jr;cases l.any p
 ·rfl
 ·exact AX (by simp)
end Go.Ide
