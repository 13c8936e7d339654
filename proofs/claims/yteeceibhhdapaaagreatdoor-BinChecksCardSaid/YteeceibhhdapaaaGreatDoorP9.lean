/- The layer of own lemmas and contracts, part 9. -/
import Derived.Test.YteeceibhhdapaaaGreatDoorP8
import Derived.Test.YteeceibhhdapaaaGreatDoorP7
import Derived.Test.YteeceibhhdapaaaGreatDoorP3
set_option linter.unusedVariables false
set_option linter.unusedSimpArgs false
namespace Go.Ide
open Go.Proofs Go.RowKit
structure BE where
 lot:List UInt8
 part:List UInt8
def BE.D (s:BE):D:=.agg [str (sb s.lot),str (sb s.part)]
instance d4Z (s:BE):Ag s.D:=by unfold BE.D;exact AH
instance d5a (s:BE):AA s.D:=by unfold BE.D;exact AH
abbrev Dg (b:Bool)(l:List BE):D:=.sl b 2 (l.map BE.D)
def BE.few (s:BE):Prop:=s.lot.length<=100000/\s.part.length<=100000
def FE (l:List BE)(k:Nat):BE:=l.getD k ⟨[],[]⟩
theorem Il {l:List BE}{k:Nat}{s:BE}(h:l[k]?=some s):FE l k=s:=by unfold FE;rw[ES,h];rfl
structure AG where
 grain:List UInt8
 mass:Int
 shs:List BE
def AG.D (x:AG):D:=.agg [str (sb x.grain),i64 x.mass,Dg false x.shs]
instance d3W (x:AG):Ag x.D:=by unfold AG.D;exact AH
instance d3X (x:AG):AA x.D:=by unfold AG.D;exact AH
abbrev Ax (b:Bool)(l:List AG):D:=.sl b 3 (l.map AG.D)
theorem Np (z:Int)(h:Sm z):AK C0 105 [i64 z] (⟨AV z,1⟩:GF).D:=by
 have e:(⟨AV z,1⟩:GF).D=LE z 1:=by
  unfold GF.D;rw[Sd,Ii h];rfl
 rw[e];exact tP z
theorem jO {n:GI}{k:Nat}(h:n.wf)(hk:1<=k)(hl:(Aa n.z.natAbs).length<=k):FR (n.z:Rat) ⟨n,1⟩ k:=by
 refine⟨⟨h,(Rat.num_intCast _).symm,(Rat.den_intCast _).symm⟩,?_⟩;unfold rk;rw[Rat.num_intCast,Rat.den_intCast];exact⟨hl,BP (GP (n:=1) (k:=1) (by decide)) hk⟩
theorem PS {z:Int}(h:z.natAbs<18446744073709551616):FR (z:Rat) ⟨AV z,1⟩ 1:=by
 have:=jO (n:=AV z) (k:=1) (CR _) (Af _) (by rw[DU];exact GP (k:=1) (by unfold BB;omega))
 rwa [DU]at this
open Go.ChangeShapes Go.WideShapes
def OL (P:Program)(t:Nat):Option (List (Nat×Nat×Nat)):=match P.underlying t with
 |some (.struct fs)=>some (fs.toList.map λf=>(f.type,f.offset,P.cellsOf f.type))
 |_=>none
section
variable {H:Type} {enc:TypeId×Value->H} {W:World} {fuel:Nat} {cs:List Value} {x:DataW H×List MemPlace} {t:TypeId}
theorem TM {l:List (Nat×Nat×Nat)}{m:Nat}(hs:OL Tryz.prog t=some l)(hm:Tryz.prog.cellsOf t=m)(h:DataW.trod enc Tryz.prog W 0 (λ_=>true) true fuel t cs=some x):
  cs.length=m/\∃n,∀(i u off k:Nat),l[i]?=some (u,off,k)->∃y,DataW.trod enc Tryz.prog W 0 (λ_=>true) true n u ((cs.drop off).take k)=some y:=by
 unfold OL at hs;split at hs
 ·rename_i fs hu
  obtain⟨h1,n,h2⟩:=fe hu h;refine⟨h1.trans hm,n,λi u off k hl=>?_⟩;obtain rfl:=FX hs;rw[BK]at hl;obtain⟨f,hf,he⟩:=Option.map_eq_some_iff.1 hl;cases he;exact h2 i f (by rw[<-IU];exact hf)
 ·cases hs
theorem Ki {a b c:Nat}{p q:List D}(h:DS W ((cs.drop a).take b) p)(k:DS W ((cs.drop (a+b)).take c) q):DS W ((cs.drop a).take (b+c)) (p++q):=by
 rw[List.take_add,List.drop_drop];exact h.append k
theorem Su {n:Nat}{p:List D}(hn:cs.length=n)(h:DS W ((cs.drop 0).take n) p):DS W cs p:=by
 rw[FC,<-hn,Dk]at h;exact h
theorem qK (h:DataW.trod enc Tryz.prog W 0 (λ_=>true) true fuel 80 cs=some x):∃l:List UInt8,DS W cs (str (sb l)).cells/\l.length<=maxLen:=ZK (by kernel_rfl) h
theorem RX (h:DataW.trod enc Tryz.prog W 0 (λ_=>true) true fuel 9 cs=some x):∃l:List UInt8,DS W cs [str (sb l)]/\l.length<=maxLen:=ZK (by kernel_rfl) h
theorem P5 (h:DataW.trod enc Tryz.prog W 0 (λ_=>true) true fuel 3 cs=some x):∃z:Int,DS W cs [i64 z]:=by
 obtain⟨z,_,_,h⟩:=p9 (by kernel_rfl) h;exact⟨z,h⟩
theorem iI (h:DataW.trod enc Tryz.prog W 0 (λ_=>true) true fuel 82 cs=some x):∃s:BE,DS W cs s.D.cells/\True:=by
 obtain⟨h1,n,h2⟩:=TM (l:=[(9,0,1),(80,1,1)]) (m:=2) (by kernel_rfl) (by kernel_rfl) h;obtain⟨y0,k0⟩:=h2 0 _ _ _ rfl;obtain⟨y1,k1⟩:=h2 1 _ _ _ rfl;obtain⟨a0,r0,_⟩:=RX k0;obtain⟨a1,r1,_⟩:=qK k1;exact⟨⟨a0,a1⟩,Su h1 (Ki (b:=1) (c:=1) r0 r1),trivial⟩
theorem fg (h:DataW.trod enc Tryz.prog W 0 (λ_=>true) true fuel 25 cs=some x):∃l:List BE,DS W cs [Dg false l]/\(∀a∈l,True)/\l.length<=maxLen:=
 TK (g:=BE.D) (ok:=λ_=>True) (e:=82) (sz:=2) (by kernel_rfl) (by kernel_rfl) (by decide) (λ_ _ _ h=>iI h) h
theorem iH (h:DataW.trod enc Tryz.prog W 0 (λ_=>true) true fuel 27 cs=some x):∃s:AG,DS W cs s.D.cells/\s.shs.length<=maxLen:=by
 obtain⟨h1,n,h2⟩:=TM (l:=[(9,0,1),(3,1,1),(25,2,1)]) (m:=3) (by kernel_rfl) (by kernel_rfl) h;obtain⟨y0,k0⟩:=h2 0 _ _ _ rfl;obtain⟨y1,k1⟩:=h2 1 _ _ _ rfl;obtain⟨y2,k2⟩:=h2 2 _ _ _ rfl;obtain⟨a0,r0,_⟩:=RX k0;obtain⟨a1,r1⟩:=P5 k1;obtain⟨a2,r2,_,hl⟩:=fg k2;exact⟨⟨a0,a1,a2⟩,Su h1 (Ki (b:=1) (c:=2) r0 (Ki (b:=1) (c:=1) r1 r2)),hl⟩
theorem ff (h:DataW.trod enc Tryz.prog W 0 (λ_=>true) true fuel 22 cs=some x):∃l:List AG,DS W cs [Ax false l]/\(∀a∈l,a.shs.length<=maxLen)/\l.length<=maxLen:=
 TK (g:=AG.D) (ok:=λs=>s.shs.length<=maxLen) (e:=27) (sz:=3) (by kernel_rfl) (by kernel_rfl) (by decide) (λ_ _ _ h=>iH h) h
end
set_option maxRecDepth 20000
set_option maxHeartbeats 2000000
theorem gA (c:Nat):(97<=c/\c<=122)\/(122<c)\/(65<=c/\c<=90)\/((91<=c/\c<=96)/\c≠95)\/(c=95)\/(58<=c/\c<=64)\/(48<=c/\c<=57)\/(c<48/\c≠45/\c≠46)\/(c=45)\/(c=46):=by omega
theorem aE (l:List UInt8)(hl:l.length<=1000000):AK C0 65 [str (sb l)] (Aq (DM l)):=by
 refine Ai.walk w1 qo rfl λF=>?_
 have hsz:=CS l;refine sR 0 ?_;refine Cj (α:=Nat) (λn=>⟨[(0,str (sb l))],[],n⟩) (λ_=>1<=l.length/\l.length<=24) ?_ ?_
 ·by_cases h1:l.length<1
  ·have e1:decide ((l.length:Int)<1)=true:=AZ (by omega)
   refine sZ 100 ?_;refine AT (Ah hsz e1) ?_;refine AD kT ?_;refine AI ?_;refine sR 200 ?_;refine Ab ?_;exact AN (by unfold DM;rw[Ad (show ¬ 1<=l.length by omega)];simp) AA.out
  ·have e1:decide ((l.length:Int)<1)=false:=Ad (by omega)
   have e2:decide ((l.length:Int)>24)=decide (24<l.length):=Cn.2 (by omega);refine sZ 100 ?_;refine AT (Ah hsz e1) ?_;refine AD (Ar kF hsz e2) ?_
   by_cases h2:24<l.length
   ·rw[AZ h2]
    refine AI ?_;refine sR 200 ?_;refine Ab ?_;exact AN (by unfold DM;rw[Ad (show ¬l.length<=24 by omega)];simp) AA.out
   ·rw[Ad h2]
    refine AI ?_;refine Aj ?_;exact⟨rfl,_,⟨by omega,by omega⟩,AL⟩
 rintro n0 ⟨l1,l2⟩;refine AC.seq ?_;refine sR 300 ?_;refine AC.block ?_;refine AC.loop (α:=Nat×Nat) (λp=>⟨[(0,str (sb l)),(3,i64 (p.1:Int))],[],p.2⟩) (λp=>l.length-p.1) (λp=>p.1<=l.length/\(l.take p.1).all (λb=>Ca b.toNat)=true) (0,_) ⟨BZ _,rfl⟩ AL ?_;rintro⟨i,n⟩ F ⟨hi,ha⟩;dsimp only at hi ha⊢;refine AC.seq ?_;refine sZ 400 ?_;refine AT hsz ?_;refine AI ?_
 (refine Bn (λhlt=>?_) (λhlt=>?_))<;>(try simp only[Bc,Bk]at hlt)<;>(try simp only[hlt])
 ·have hi2:i<l.length:=by
   have:=Cs hlt
   omega
  obtain⟨c,hc⟩:∃c,l[i]?=some c:=⟨l[i],BD hi2⟩
  have hg:l.getD i 0=c:=by simp[hc]
  have wi:IntKind.i64.wrap ((i:Int)+1)=((i+1:Nat):Int):=wI (by omega) (by omega);refine Aj ?_;refine AC.seq ?_;refine AC.block ?_;refine sZ 600 ?_;refine AT (Ah kN hg) ?_;have hcl:Ca c.toNat=false->DM l=false:=λh=>by
   unfold DM;cases hall:l.all (λb=>Ca b.toNat)
   ·rfl
   ·have:=CI.1 hall c (A8 hc)
    rw[h]at this;cases this
  have hsn:Ca c.toNat=true->(l.take (i+1)).all (λb=>Ca b.toNat)=true:=λh=>by
   rw[D7,hc,J8,ha];simpa using h
  have hc9:c.toNat<256:=c.toNat_lt;generalize c.toNat=c at*;refine Cj (α:=Nat) (λn=>⟨[(0,str (sb l)),(3,i64 (i:Int)),(56,Aq (!Ca c))],[],n⟩) (λ_=>True) ?_ ?_
  ·clear hcl hsn
   rcases gA c with h|h|h|h|h|h|h|h|h|h
   ·skip
    have f1:decide ((c:Int)>=97)=true:=AZ (by omega);have f2:decide ((c:Int)<=122)=true:=AZ (by omega);have f3:decide ((c:Int)>=65)=true:=AZ (by omega);have f4:decide ((c:Int)<=90)=false:=Ad (by omega);have f5:decide ((c:Int)>=48)=true:=AZ (by omega);have f6:decide ((c:Int)<=57)=false:=Ad (by omega);have f7:((c:Int)==45)=false:=Bv.2 (by omega);have f8:((c:Int)==95)=false:=Bv.2 (by omega);have f9:((c:Int)==46)=false:=Bv.2 (by omega);have hnb:Ca c=true:=by
     unfold Ca;simp;omega
    rw[hnb];refine Ak w1 700 (by kernel_rfl) ?_;refine AD kB ?_
    try simp only[f1,f2,f3,f4,f5,f6,f7,f8,f9]
    refine AD kB ?_
    try simp only[f1,f2,f3,f4,f5,f6,f7,f8,f9]
    refine AD kB ?_
    try simp only[f1,f2,f3,f4,f5,f6,f7,f8,f9]
    refine AD kB ?_
    try simp only[f1,f2,f3,f4,f5,f6,f7,f8,f9]
    refine AD kB ?_
    try simp only[f1,f2,f3,f4,f5,f6,f7,f8,f9]
    refine AD kB ?_
    try simp only[f1,f2,f3,f4,f5,f6,f7,f8,f9]
    refine AD kB ?_
    try simp only[f1,f2,f3,f4,f5,f6,f7,f8,f9]
    refine AD kB ?_
    try simp only[f1,f2,f3,f4,f5,f6,f7,f8,f9]
    refine AD kB ?_
    try simp only[f1,f2,f3,f4,f5,f6,f7,f8,f9]
    exact⟨by first|exact AB|rfl|simp,_,trivial,AL⟩
   ·skip
    have f1:decide ((c:Int)>=97)=true:=AZ (by omega);have f2:decide ((c:Int)<=122)=false:=Ad (by omega);have f3:decide ((c:Int)>=65)=true:=AZ (by omega);have f4:decide ((c:Int)<=90)=false:=Ad (by omega);have f5:decide ((c:Int)>=48)=true:=AZ (by omega);have f6:decide ((c:Int)<=57)=false:=Ad (by omega);have f7:((c:Int)==45)=false:=Bv.2 (by omega);have f8:((c:Int)==95)=false:=Bv.2 (by omega);have f9:((c:Int)==46)=false:=Bv.2 (by omega);have hnb:Ca c=false:=by
     unfold Ca;simp;omega
    rw[hnb];refine Ak w1 700 (by kernel_rfl) ?_;refine AD kB ?_
    try simp only[f1,f2,f3,f4,f5,f6,f7,f8,f9]
    refine AD kB ?_
    try simp only[f1,f2,f3,f4,f5,f6,f7,f8,f9]
    refine AD kB ?_
    try simp only[f1,f2,f3,f4,f5,f6,f7,f8,f9]
    refine AD kB ?_
    try simp only[f1,f2,f3,f4,f5,f6,f7,f8,f9]
    refine AD kB ?_
    try simp only[f1,f2,f3,f4,f5,f6,f7,f8,f9]
    refine AD kB ?_
    try simp only[f1,f2,f3,f4,f5,f6,f7,f8,f9]
    refine AD kB ?_
    try simp only[f1,f2,f3,f4,f5,f6,f7,f8,f9]
    refine AD kB ?_
    try simp only[f1,f2,f3,f4,f5,f6,f7,f8,f9]
    refine AD kB ?_
    try simp only[f1,f2,f3,f4,f5,f6,f7,f8,f9]
    exact⟨by first|exact AB|rfl|simp,_,trivial,AL⟩
   ·skip
    have f1:decide ((c:Int)>=97)=false:=Ad (by omega);have f2:decide ((c:Int)<=122)=true:=AZ (by omega);have f3:decide ((c:Int)>=65)=true:=AZ (by omega);have f4:decide ((c:Int)<=90)=true:=AZ (by omega);have f5:decide ((c:Int)>=48)=true:=AZ (by omega);have f6:decide ((c:Int)<=57)=false:=Ad (by omega);have f7:((c:Int)==45)=false:=Bv.2 (by omega);have f8:((c:Int)==95)=false:=Bv.2 (by omega);have f9:((c:Int)==46)=false:=Bv.2 (by omega);have hnb:Ca c=true:=by
     unfold Ca;simp;omega
    rw[hnb];refine Ak w1 700 (by kernel_rfl) ?_;refine AD kB ?_
    try simp only[f1,f2,f3,f4,f5,f6,f7,f8,f9]
    refine AD kB ?_
    try simp only[f1,f2,f3,f4,f5,f6,f7,f8,f9]
    refine AD kB ?_
    try simp only[f1,f2,f3,f4,f5,f6,f7,f8,f9]
    refine AD kB ?_
    try simp only[f1,f2,f3,f4,f5,f6,f7,f8,f9]
    refine AD kB ?_
    try simp only[f1,f2,f3,f4,f5,f6,f7,f8,f9]
    refine AD kB ?_
    try simp only[f1,f2,f3,f4,f5,f6,f7,f8,f9]
    refine AD kB ?_
    try simp only[f1,f2,f3,f4,f5,f6,f7,f8,f9]
    refine AD kB ?_
    try simp only[f1,f2,f3,f4,f5,f6,f7,f8,f9]
    refine AD kB ?_
    try simp only[f1,f2,f3,f4,f5,f6,f7,f8,f9]
    exact⟨by first|exact AB|rfl|simp,_,trivial,AL⟩
   ·skip
    have f1:decide ((c:Int)>=97)=false:=Ad (by omega);have f2:decide ((c:Int)<=122)=true:=AZ (by omega);have f3:decide ((c:Int)>=65)=true:=AZ (by omega);have f4:decide ((c:Int)<=90)=false:=Ad (by omega);have f5:decide ((c:Int)>=48)=true:=AZ (by omega);have f6:decide ((c:Int)<=57)=false:=Ad (by omega);have f7:((c:Int)==45)=false:=Bv.2 (by omega);have f8:((c:Int)==95)=false:=Bv.2 (by omega);have f9:((c:Int)==46)=false:=Bv.2 (by omega);have hnb:Ca c=false:=by
     unfold Ca;simp;omega
    rw[hnb];refine Ak w1 700 (by kernel_rfl) ?_;refine AD kB ?_
    try simp only[f1,f2,f3,f4,f5,f6,f7,f8,f9]
    refine AD kB ?_
    try simp only[f1,f2,f3,f4,f5,f6,f7,f8,f9]
    refine AD kB ?_
    try simp only[f1,f2,f3,f4,f5,f6,f7,f8,f9]
    refine AD kB ?_
    try simp only[f1,f2,f3,f4,f5,f6,f7,f8,f9]
    refine AD kB ?_
    try simp only[f1,f2,f3,f4,f5,f6,f7,f8,f9]
    refine AD kB ?_
    try simp only[f1,f2,f3,f4,f5,f6,f7,f8,f9]
    refine AD kB ?_
    try simp only[f1,f2,f3,f4,f5,f6,f7,f8,f9]
    refine AD kB ?_
    try simp only[f1,f2,f3,f4,f5,f6,f7,f8,f9]
    refine AD kB ?_
    try simp only[f1,f2,f3,f4,f5,f6,f7,f8,f9]
    exact⟨by first|exact AB|rfl|simp,_,trivial,AL⟩
   ·skip
    have f1:decide ((c:Int)>=97)=false:=Ad (by omega);have f2:decide ((c:Int)<=122)=true:=AZ (by omega);have f3:decide ((c:Int)>=65)=true:=AZ (by omega);have f4:decide ((c:Int)<=90)=false:=Ad (by omega);have f5:decide ((c:Int)>=48)=true:=AZ (by omega);have f6:decide ((c:Int)<=57)=false:=Ad (by omega);have f7:((c:Int)==45)=false:=Bv.2 (by omega);have f8:((c:Int)==95)=true:=Dt.2 (by omega);have f9:((c:Int)==46)=false:=Bv.2 (by omega);have hnb:Ca c=true:=by
     unfold Ca;simp;omega
    rw[hnb];refine Ak w1 700 (by kernel_rfl) ?_;refine AD kB ?_
    try simp only[f1,f2,f3,f4,f5,f6,f7,f8,f9]
    refine AD kB ?_
    try simp only[f1,f2,f3,f4,f5,f6,f7,f8,f9]
    refine AD kB ?_
    try simp only[f1,f2,f3,f4,f5,f6,f7,f8,f9]
    refine AD kB ?_
    try simp only[f1,f2,f3,f4,f5,f6,f7,f8,f9]
    refine AD kB ?_
    try simp only[f1,f2,f3,f4,f5,f6,f7,f8,f9]
    refine AD kB ?_
    try simp only[f1,f2,f3,f4,f5,f6,f7,f8,f9]
    refine AD kB ?_
    try simp only[f1,f2,f3,f4,f5,f6,f7,f8,f9]
    refine AD kB ?_
    try simp only[f1,f2,f3,f4,f5,f6,f7,f8,f9]
    refine AD kB ?_
    try simp only[f1,f2,f3,f4,f5,f6,f7,f8,f9]
    exact⟨by first|exact AB|rfl|simp,_,trivial,AL⟩
   ·skip
    have f1:decide ((c:Int)>=97)=false:=Ad (by omega);have f2:decide ((c:Int)<=122)=true:=AZ (by omega);have f3:decide ((c:Int)>=65)=false:=Ad (by omega);have f4:decide ((c:Int)<=90)=true:=AZ (by omega);have f5:decide ((c:Int)>=48)=true:=AZ (by omega);have f6:decide ((c:Int)<=57)=false:=Ad (by omega);have f7:((c:Int)==45)=false:=Bv.2 (by omega);have f8:((c:Int)==95)=false:=Bv.2 (by omega);have f9:((c:Int)==46)=false:=Bv.2 (by omega);have hnb:Ca c=false:=by
     unfold Ca;simp;omega
    rw[hnb];refine Ak w1 700 (by kernel_rfl) ?_;refine AD kB ?_
    try simp only[f1,f2,f3,f4,f5,f6,f7,f8,f9]
    refine AD kB ?_
    try simp only[f1,f2,f3,f4,f5,f6,f7,f8,f9]
    refine AD kB ?_
    try simp only[f1,f2,f3,f4,f5,f6,f7,f8,f9]
    refine AD kB ?_
    try simp only[f1,f2,f3,f4,f5,f6,f7,f8,f9]
    refine AD kB ?_
    try simp only[f1,f2,f3,f4,f5,f6,f7,f8,f9]
    refine AD kB ?_
    try simp only[f1,f2,f3,f4,f5,f6,f7,f8,f9]
    refine AD kB ?_
    try simp only[f1,f2,f3,f4,f5,f6,f7,f8,f9]
    refine AD kB ?_
    try simp only[f1,f2,f3,f4,f5,f6,f7,f8,f9]
    refine AD kB ?_
    try simp only[f1,f2,f3,f4,f5,f6,f7,f8,f9]
    exact⟨by first|exact AB|rfl|simp,_,trivial,AL⟩
   ·skip
    have f1:decide ((c:Int)>=97)=false:=Ad (by omega);have f2:decide ((c:Int)<=122)=true:=AZ (by omega);have f3:decide ((c:Int)>=65)=false:=Ad (by omega);have f4:decide ((c:Int)<=90)=true:=AZ (by omega);have f5:decide ((c:Int)>=48)=true:=AZ (by omega);have f6:decide ((c:Int)<=57)=true:=AZ (by omega);have f7:((c:Int)==45)=false:=Bv.2 (by omega);have f8:((c:Int)==95)=false:=Bv.2 (by omega);have f9:((c:Int)==46)=false:=Bv.2 (by omega);have hnb:Ca c=true:=by
     unfold Ca;simp;omega
    rw[hnb];refine Ak w1 700 (by kernel_rfl) ?_;refine AD kB ?_
    try simp only[f1,f2,f3,f4,f5,f6,f7,f8,f9]
    refine AD kB ?_
    try simp only[f1,f2,f3,f4,f5,f6,f7,f8,f9]
    refine AD kB ?_
    try simp only[f1,f2,f3,f4,f5,f6,f7,f8,f9]
    refine AD kB ?_
    try simp only[f1,f2,f3,f4,f5,f6,f7,f8,f9]
    refine AD kB ?_
    try simp only[f1,f2,f3,f4,f5,f6,f7,f8,f9]
    refine AD kB ?_
    try simp only[f1,f2,f3,f4,f5,f6,f7,f8,f9]
    refine AD kB ?_
    try simp only[f1,f2,f3,f4,f5,f6,f7,f8,f9]
    refine AD kB ?_
    try simp only[f1,f2,f3,f4,f5,f6,f7,f8,f9]
    refine AD kB ?_
    try simp only[f1,f2,f3,f4,f5,f6,f7,f8,f9]
    exact⟨by first|exact AB|rfl|simp,_,trivial,AL⟩
   ·skip
    have f1:decide ((c:Int)>=97)=false:=Ad (by omega);have f2:decide ((c:Int)<=122)=true:=AZ (by omega);have f3:decide ((c:Int)>=65)=false:=Ad (by omega);have f4:decide ((c:Int)<=90)=true:=AZ (by omega);have f5:decide ((c:Int)>=48)=false:=Ad (by omega);have f6:decide ((c:Int)<=57)=true:=AZ (by omega);have f7:((c:Int)==45)=false:=Bv.2 (by omega);have f8:((c:Int)==95)=false:=Bv.2 (by omega);have f9:((c:Int)==46)=false:=Bv.2 (by omega);have hnb:Ca c=false:=by
     unfold Ca;simp;omega
    rw[hnb];refine Ak w1 700 (by kernel_rfl) ?_;refine AD kB ?_
    try simp only[f1,f2,f3,f4,f5,f6,f7,f8,f9]
    refine AD kB ?_
    try simp only[f1,f2,f3,f4,f5,f6,f7,f8,f9]
    refine AD kB ?_
    try simp only[f1,f2,f3,f4,f5,f6,f7,f8,f9]
    refine AD kB ?_
    try simp only[f1,f2,f3,f4,f5,f6,f7,f8,f9]
    refine AD kB ?_
    try simp only[f1,f2,f3,f4,f5,f6,f7,f8,f9]
    refine AD kB ?_
    try simp only[f1,f2,f3,f4,f5,f6,f7,f8,f9]
    refine AD kB ?_
    try simp only[f1,f2,f3,f4,f5,f6,f7,f8,f9]
    refine AD kB ?_
    try simp only[f1,f2,f3,f4,f5,f6,f7,f8,f9]
    refine AD kB ?_
    try simp only[f1,f2,f3,f4,f5,f6,f7,f8,f9]
    exact⟨by first|exact AB|rfl|simp,_,trivial,AL⟩
   ·skip
    have f1:decide ((c:Int)>=97)=false:=Ad (by omega);have f2:decide ((c:Int)<=122)=true:=AZ (by omega);have f3:decide ((c:Int)>=65)=false:=Ad (by omega);have f4:decide ((c:Int)<=90)=true:=AZ (by omega);have f5:decide ((c:Int)>=48)=false:=Ad (by omega);have f6:decide ((c:Int)<=57)=true:=AZ (by omega);have f7:((c:Int)==45)=true:=Dt.2 (by omega);have f8:((c:Int)==95)=false:=Bv.2 (by omega);have f9:((c:Int)==46)=false:=Bv.2 (by omega);have hnb:Ca c=true:=by
     unfold Ca;simp;omega
    rw[hnb];refine Ak w1 700 (by kernel_rfl) ?_;refine AD kB ?_
    try simp only[f1,f2,f3,f4,f5,f6,f7,f8,f9]
    refine AD kB ?_
    try simp only[f1,f2,f3,f4,f5,f6,f7,f8,f9]
    refine AD kB ?_
    try simp only[f1,f2,f3,f4,f5,f6,f7,f8,f9]
    refine AD kB ?_
    try simp only[f1,f2,f3,f4,f5,f6,f7,f8,f9]
    refine AD kB ?_
    try simp only[f1,f2,f3,f4,f5,f6,f7,f8,f9]
    refine AD kB ?_
    try simp only[f1,f2,f3,f4,f5,f6,f7,f8,f9]
    refine AD kB ?_
    try simp only[f1,f2,f3,f4,f5,f6,f7,f8,f9]
    refine AD kB ?_
    try simp only[f1,f2,f3,f4,f5,f6,f7,f8,f9]
    refine AD kB ?_
    try simp only[f1,f2,f3,f4,f5,f6,f7,f8,f9]
    exact⟨by first|exact AB|rfl|simp,_,trivial,AL⟩
   ·skip
    have f1:decide ((c:Int)>=97)=false:=Ad (by omega);have f2:decide ((c:Int)<=122)=true:=AZ (by omega);have f3:decide ((c:Int)>=65)=false:=Ad (by omega);have f4:decide ((c:Int)<=90)=true:=AZ (by omega);have f5:decide ((c:Int)>=48)=false:=Ad (by omega);have f6:decide ((c:Int)<=57)=true:=AZ (by omega);have f7:((c:Int)==45)=false:=Bv.2 (by omega);have f8:((c:Int)==95)=false:=Bv.2 (by omega);have f9:((c:Int)==46)=true:=Dt.2 (by omega);have hnb:Ca c=true:=by
     unfold Ca;simp;omega
    rw[hnb];refine Ak w1 700 (by kernel_rfl) ?_;refine AD kB ?_
    try simp only[f1,f2,f3,f4,f5,f6,f7,f8,f9]
    refine AD kB ?_
    try simp only[f1,f2,f3,f4,f5,f6,f7,f8,f9]
    refine AD kB ?_
    try simp only[f1,f2,f3,f4,f5,f6,f7,f8,f9]
    refine AD kB ?_
    try simp only[f1,f2,f3,f4,f5,f6,f7,f8,f9]
    refine AD kB ?_
    try simp only[f1,f2,f3,f4,f5,f6,f7,f8,f9]
    refine AD kB ?_
    try simp only[f1,f2,f3,f4,f5,f6,f7,f8,f9]
    refine AD kB ?_
    try simp only[f1,f2,f3,f4,f5,f6,f7,f8,f9]
    refine AD kB ?_
    try simp only[f1,f2,f3,f4,f5,f6,f7,f8,f9]
    refine AD kB ?_
    try simp only[f1,f2,f3,f4,f5,f6,f7,f8,f9]
    exact⟨by first|exact AB|rfl|simp,_,trivial,AL⟩
  rintro n1 -;cases hb:Ca c
  ·refine AI ?_
   refine sR 800 ?_;refine Ab ?_;exact AN (by rw[hcl hb]) AA.out
  ·refine AI ?_
   refine Aj ?_;refine Ak w1 500 (by kernel_rfl) ?_;refine AT wi ?_;exact⟨(i+1,_),⟨hi2,hsn hb⟩,by dsimp only;omega,AL⟩
 ·have hi2:i=l.length:=by
   have:=C7 hlt
   omega
  subst hi2;rw[B5 (Af _)]at ha;refine By ?_;refine sR 900 ?_;refine Ab ?_;exact AN (by unfold DM;rw[ha,AZ l1,AZ l2];rfl) AA.out
def E4:List Int->Int
 | []=>0
 |e::r=>if e≠0 then e else E4 r
theorem UG {v:List Int}{i:Nat}(h:∀(j:Nat) (e:Int),j<i->v[j]?=some e->e=0):E4 v=E4 (v.drop i):=by
 induction i generalizing v with
 |zero=>rfl
 |succ i ih=>
  cases v with
  |nil=>rfl
  |cons l r=>
   have h0:=h 0 l (Nat.succ_pos i) rfl;rw[Qj];show(if l≠0 then l else E4 r)=_;rw[AE (λhh=>hh h0)];exact ih λj m hj hm=>h (j+1) m (by omega) hm
theorem KZ {a:Int}(h:a≠0):(a != 0)=true:=by
 have:(a==0)=false:=Bv.2 h
 unfold bne;rw[this];rfl
theorem We {l:List UInt8}(h:CN l=0):K3 (CE l):=R9 (Li h) (by decide)
theorem WE (a b:List UInt8):BM (sb a) (sb b)=decide (a=b):=by
 unfold BM
 by_cases h:a=b
 ·subst h;simp
 ·rw[Ad h]
  apply Bv.2;intro hh;apply h;simpa[sb]using hh
def DT (f:Nat->Nat):Nat->Nat
 | 0=>0
 |n+1=>if DT f n≠0 then DT f n else f n
theorem LK {f:Nat->Nat}{n:Nat}(h:∀j,j<n->f j=0):DT f n=0:=by
 induction n with
 |zero=>rfl
 |succ n ih=>
  have:=ih λj hj=>h j (by omega)
  unfold DT;rw[AE (λhh=>hh this)];exact h n (by omega)
theorem M9 {f:Nat->Nat}{i n:Nat}(h:∀j,j<i->f j=0)(hi:i<n)(h0:f i≠0):DT f n=f i:=by
 induction n with
 |zero=>omega
 |succ n ih=>
  unfold DT;rcases BL i n with hlt|hge
  ·have:=ih hlt
   rw[AF (by rw[this];exact h0),this]
  ·have:i=n:=by omega
   subst this;rw[AE (λhh=>hh (LK h))]
theorem O9 {f:Nat->Nat}{n:Nat}(h:DT f n=0):∀j,j<n->f j=0:=by
 induction n with
 |zero=>intro j hj;omega
 |succ n ih=>
  unfold DT at h
  by_cases h0:DT f n=0
  ·rw[AE (λhh=>hh h0)]at h
   intro j hj;rcases BL j n with hl|hg
   ·exact ih h0 j hl
   ·have:j=n:=by omega
    subst this;exact h
  ·rw[AF h0]at h
   exact Ae h h0
structure Ku where
 name:List UInt8
 least:List (List UInt8)
 most:List (List UInt8)
 deriving Inhabited
def Ku.D (g:Ku):D:=.agg [str (sb g.name),.sl false 1 (g.least.map λl=>str (sb l)),.sl false 1 (g.most.map λl=>str (sb l))]
instance  (g:Ku):Ag g.D:=by unfold Ku.D;exact AH
instance  (g:Ku):AA g.D:=by unfold Ku.D;exact AH
def lv (l:List (List UInt8))(k:Nat):List UInt8:=l.getD k []
def l8 (gs:List Ku)(i k:Nat):Option (List UInt8×List UInt8):=if i=0 then none else some (lv (gs.getD (i-1) default).least k,lv (gs.getD (i-1) default).most k)
theorem bF {α:Type}{l:List α}{p:α->Bool}{i:Nat}(h:∀(j:Nat) (x:α),j<i->l[j]?=some x->p x=false):(l.take i).any p=false:=by
 rw[List.any_eq_false];intro x hx;obtain⟨j,hj,e⟩:=List.mem_iff_getElem.1 hx;have hj2:j<i:=by rw[Bg]at hj;omega
 have:l[j]?=some x:=by
  rw[<-e,List.getElem_take];exact BD _
 rw[h j x hj2 this];simp
def Jt {α:Type}(p:α->Bool)(l:List α):Int:=if l.any p then(l.findIdx p:Int)else -1
theorem WW {α:Type}{p:α->Bool}{l:List α}{i:Nat}{x:α}(hx:l[i]?=some x)(h:p x=true)(ha:∀(j:Nat) (y:α),j<i->l[j]?=some y->p y=false):Jt p l=i:=by
 unfold Jt;obtain⟨hi,e⟩:=List.getElem?_eq_some_iff.1 hx;rw[AF (List.any_eq_true.2 ⟨x,A8 hx,h⟩)]
 have:l.findIdx p=i:=(List.findIdx_eq hi).2 ⟨by rw[e];exact h,λj hj=>ha j _ hj (BD _)⟩
 rw[this]
theorem U9 {α:Type}{p:α->Bool}{l:List α}(ha:∀(j:Nat) (y:α),j<l.length->l[j]?=some y->p y=false):Jt p l = -1:=by
 unfold Jt
 have:=bF (l:=l) (p:=p) (i:=l.length) ha
 rw[Dk]at this;rw[this];rfl
theorem WX {α:Type}(p:α->Bool)(l:List α):decide (Jt p l>=0)=l.any p:=by
 unfold Jt;cases l.any p
 ·rfl
 ·exact AZ (by simp)
end Go.Ide
