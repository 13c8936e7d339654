/- The layer of own lemmas and contracts, part 9. -/
import Derived.Test.YteeceibhhdapaaaGreatDoorV8
import Derived.Test.YteeceibhhdapaaaGreatDoorV7
import Derived.Test.YteeceibhhdapaaaGreatDoorV3
set_option linter.unusedVariables false
set_option linter.unusedSimpArgs false
namespace Go.Ide
open Go.Proofs Go.RowKit
structure As where
 lot:List UInt8
 part:List UInt8
def As.D (s:As):D:=.agg [str (sb s.lot),str (sb s.part)]
instance d5r (s:As):Al s.D:=by unfold As.D;exact AI
instance d5s (s:As):AA s.D:=by unfold As.D;exact AI
abbrev CK (b:Bool)(l:List As):D:=.sl b 2 (l.map As.D)
def As.few (s:As):Prop:=s.lot.length<=100000/\s.part.length<=100000
def FJ (l:List As)(k:Nat):As:=l.getD k ⟨[],[]⟩
theorem Iq {l:List As}{k:Nat}{s:As}(h:l[k]?=some s):FJ l k=s:=by unfold FJ;rw[E2,h];rfl
structure AF where
 grain:List UInt8
 mass:Int
 shs:List As
def AF.D (x:AF):D:=.agg [str (sb x.grain),i64 x.mass,CK false x.shs]
instance d4n (x:AF):Al x.D:=by unfold AF.D;exact AI
instance d4o (x:AF):AA x.D:=by unfold AF.D;exact AI
abbrev Ai (b:Bool)(l:List AF):D:=.sl b 3 (l.map AF.D)
theorem Ny (z:Int)(h:Sm z):AK C0 105 [i64 z] (⟨AW z,1⟩:GF).D:=by
 have e:(⟨AW z,1⟩:GF).D=LK z 1:=by
  unfold GF.D;rw[Sg,In h];rfl
 rw[e];exact tS z
theorem lC {n:GI}{k:Nat}(h:n.wf)(hk:1<=k)(hl:(Ab n.z.natAbs).length<=k):FR (n.z:Rat) ⟨n,1⟩ k:=by
 refine⟨⟨h,(Rat.num_intCast _).symm,(Rat.den_intCast _).symm⟩,?_⟩;unfold rk;rw[Rat.num_intCast,Rat.den_intCast];exact⟨hl,BQ (GU (n:=1) (k:=1) (by decide)) hk⟩
theorem PZ {z:Int}(h:z.natAbs<18446744073709551616):FR (z:Rat) ⟨AW z,1⟩ 1:=by
 have:=lC (n:=AW z) (k:=1) (CT _) (Ad _) (by rw[DX];exact GU (k:=1) (by unfold BB;omega))
 rwa [DX]at this
open Go.ChangeShapes Go.WideShapes
def b7 (P:Program)(t:Nat):Option (List (Nat×Nat×Nat)):=match P.underlying t with
 |some (.struct fs)=>some (fs.toList.map λf=>(f.type,f.offset,P.cellsOf f.type))
 |_=>none
section
variable {H:Type} {enc:TypeId×Value->H} {W:World} {fuel:Nat} {cs:List Value} {x:DataW H×List MemPlace} {t:TypeId}
theorem aj {l:List (Nat×Nat×Nat)}{m:Nat}(hs:b7 Tryz.prog t=some l)(hm:Tryz.prog.cellsOf t=m)(h:DataW.trod enc Tryz.prog W 0 (λ_=>true) true fuel t cs=some x):
  cs.length=m/\∃n,∀(i u off k:Nat),l[i]?=some (u,off,k)->∃y,DataW.trod enc Tryz.prog W 0 (λ_=>true) true n u ((cs.drop off).take k)=some y:=by
 unfold b7 at hs;split at hs
 ·rename_i fs hu
  obtain⟨h1,n,h2⟩:=gL hu h;refine⟨h1.trans hm,n,λi u off k hl=>?_⟩;obtain rfl:=FD hs;rw[BI]at hl;obtain⟨f,hf,he⟩:=Option.map_eq_some_iff.1 hl;cases he;exact h2 i f (by rw[<-KC];exact hf)
 ·cases hs
theorem S6 {a b c:Nat}{p q:List D}(h:Df W ((cs.drop a).take b) p)(k:Df W ((cs.drop (a+b)).take c) q):Df W ((cs.drop a).take (b+c)) (p++q):=by
 rw[List.take_add,List.drop_drop];exact h.append k
theorem ZC {n:Nat}{p:List D}(hn:cs.length=n)(h:Df W ((cs.drop 0).take n) p):Df W cs p:=by
 rw[FE,<-hn,DW]at h;exact h
theorem rU (h:DataW.trod enc Tryz.prog W 0 (λ_=>true) true fuel 80 cs=some x):∃l:List UInt8,Df W cs (str (sb l)).cells/\l.length<=maxLen:=ZD (by kernel_rfl) h
theorem VT (h:DataW.trod enc Tryz.prog W 0 (λ_=>true) true fuel 9 cs=some x):∃l:List UInt8,Df W cs [str (sb l)]/\l.length<=maxLen:=ZD (by kernel_rfl) h
theorem rS (h:DataW.trod enc Tryz.prog W 0 (λ_=>true) true fuel 3 cs=some x):∃z:Int,Df W cs [i64 z]:=by
 obtain⟨z,_,_,h⟩:=rT (by kernel_rfl) h;exact⟨z,h⟩
theorem jY (h:DataW.trod enc Tryz.prog W 0 (λ_=>true) true fuel 82 cs=some x):∃s:As,Df W cs s.D.cells/\True:=by
 obtain⟨h1,n,h2⟩:=aj (l:=[(9,0,1),(80,1,1)]) (m:=2) (by kernel_rfl) (by kernel_rfl) h;obtain⟨y0,k0⟩:=h2 0 _ _ _ rfl;obtain⟨y1,k1⟩:=h2 1 _ _ _ rfl;obtain⟨a0,r0,_⟩:=VT k0;obtain⟨a1,r1,_⟩:=rU k1;exact⟨⟨a0,a1⟩,ZC h1 (S6 (b:=1) (c:=1) r0 r1),trivial⟩
theorem gM (h:DataW.trod enc Tryz.prog W 0 (λ_=>true) true fuel 25 cs=some x):∃l:List As,Df W cs [CK false l]/\(∀a∈l,True)/\l.length<=maxLen:=
 ai (g:=As.D) (ok:=λ_=>True) (e:=82) (sz:=2) (by kernel_rfl) (by kernel_rfl) (by decide) (λ_ _ _ h=>jY h) h
theorem jX (h:DataW.trod enc Tryz.prog W 0 (λ_=>true) true fuel 27 cs=some x):∃s:AF,Df W cs s.D.cells/\s.shs.length<=maxLen:=by
 obtain⟨h1,n,h2⟩:=aj (l:=[(9,0,1),(3,1,1),(25,2,1)]) (m:=3) (by kernel_rfl) (by kernel_rfl) h;obtain⟨y0,k0⟩:=h2 0 _ _ _ rfl;obtain⟨y1,k1⟩:=h2 1 _ _ _ rfl;obtain⟨y2,k2⟩:=h2 2 _ _ _ rfl;obtain⟨a0,r0,_⟩:=VT k0;obtain⟨a1,r1⟩:=rS k1;obtain⟨a2,r2,_,hl⟩:=gM k2;exact⟨⟨a0,a1,a2⟩,ZC h1 (S6 (b:=1) (c:=2) r0 (S6 (b:=1) (c:=1) r1 r2)),hl⟩
theorem VS (h:DataW.trod enc Tryz.prog W 0 (λ_=>true) true fuel 22 cs=some x):∃l:List AF,Df W cs [Ai false l]/\(∀a∈l,a.shs.length<=maxLen)/\l.length<=maxLen:=
 ai (g:=AF.D) (ok:=λs=>s.shs.length<=maxLen) (e:=27) (sz:=3) (by kernel_rfl) (by kernel_rfl) (by decide) (λ_ _ _ h=>jX h) h
end
theorem aa {P:Program}{W:World}{t e base:Nat}{v:Value}(hu:P.underlying t=some (.slice e))(h:Value.okWide P W .any base t v):∃a l c,v=.slice a l c:=by
 unfold Value.okWide at h;rw[hu]at h;dsimp only at h;unfold Cell.okWide at h;rw[hu]at h;cases v<;>first|exact⟨_,_,_,rfl⟩|(dsimp only at h;unfold Cell.ok at h;rw[hu]at h;exact h.elim)
theorem Df.val1 {W:World}{v:Value}{d:D}(h:Df W [v] [d]):AV nol (λ_=>False) W d v:=(h.cell 0 v d rfl rfl).2
set_option maxRecDepth 20000
set_option maxHeartbeats 2000000
theorem gT (c:Nat):(97<=c/\c<=122)\/(122<c)\/(65<=c/\c<=90)\/((91<=c/\c<=96)/\c≠95)\/(c=95)\/(58<=c/\c<=64)\/(48<=c/\c<=57)\/(c<48/\c≠45/\c≠46)\/(c=45)\/(c=46):=by omega
theorem aZ (l:List UInt8)(hl:l.length<=1000000):AK C0 65 [str (sb l)] (Au (DO l)):=by
 refine Ak.walk w1 s6 rfl λF=>?_
 have hsz:=CX l;refine sR 0 ?_;refine Ck (α:=Nat) (λn=>⟨[(0,str (sb l))],[],n⟩) (λ_=>1<=l.length/\l.length<=24) ?_ ?_
 ·by_cases h1:l.length<1
  ·have e1:decide ((l.length:Int)<1)=true:=AY (by omega)
   refine sZ 100 ?_;refine AU (Ae hsz e1) ?_;refine AE kT ?_;refine AL ?_;refine sR 200 ?_;refine Af ?_;exact AQ (by unfold DO;rw[Ah (show ¬ 1<=l.length by omega)];simp) AA.out
  ·have e1:decide ((l.length:Int)<1)=false:=Ah (by omega)
   have e2:decide ((l.length:Int)>24)=decide (24<l.length):=C4.2 (by omega);refine sZ 100 ?_;refine AU (Ae hsz e1) ?_;refine AE (Av kF hsz e2) ?_
   by_cases h2:24<l.length
   ·rw[AY h2]
    refine AL ?_;refine sR 200 ?_;refine Af ?_;exact AQ (by unfold DO;rw[Ah (show ¬l.length<=24 by omega)];simp) AA.out
   ·rw[Ah h2]
    refine AL ?_;refine Am ?_;exact⟨rfl,_,⟨by omega,by omega⟩,AJ⟩
 rintro n0 ⟨l1,l2⟩;refine AC.seq ?_;refine sR 300 ?_;refine AC.block ?_;refine AC.loop (α:=Nat×Nat) (λp=>⟨[(0,str (sb l)),(3,i64 (p.1:Int))],[],p.2⟩) (λp=>l.length-p.1) (λp=>p.1<=l.length/\(l.take p.1).all (λb=>Cc b.toNat)=true) (0,_) ⟨BS _,rfl⟩ AJ ?_;rintro⟨i,n⟩ F ⟨hi,ha⟩;dsimp only at hi ha⊢;refine AC.seq ?_;refine sZ 400 ?_;refine AU hsz ?_;refine AL ?_
 (refine Br (λhlt=>?_) (λhlt=>?_))<;>(try simp only[Bb,Bq]at hlt)<;>(try simp only[hlt])
 ·have hi2:i<l.length:=by
   have:=C3 hlt
   omega
  obtain⟨c,hc⟩:∃c,l[i]?=some c:=⟨l[i],BH hi2⟩
  have hg:l.getD i 0=c:=by simp[hc]
  have wi:IntKind.i64.wrap ((i:Int)+1)=((i+1:Nat):Int):=wI (by omega) (by omega);refine Am ?_;refine AC.seq ?_;refine AC.block ?_;refine sZ 600 ?_;refine AU (Ae kN hg) ?_;have hcl:Cc c.toNat=false->DO l=false:=λh=>by
   unfold DO;cases hall:l.all (λb=>Cc b.toNat)
   ·rfl
   ·have:=CQ.1 hall c (BE hc)
    rw[h]at this;cases this
  have hsn:Cc c.toNat=true->(l.take (i+1)).all (λb=>Cc b.toNat)=true:=λh=>by
   rw[EB,hc,LC,ha];simpa using h
  have hc9:c.toNat<256:=c.toNat_lt;generalize c.toNat=c at*;refine Ck (α:=Nat) (λn=>⟨[(0,str (sb l)),(3,i64 (i:Int)),(56,Au (!Cc c))],[],n⟩) (λ_=>True) ?_ ?_
  ·clear hcl hsn
   rcases gT c with h|h|h|h|h|h|h|h|h|h
   ·skip
    have f1:decide ((c:Int)>=97)=true:=AY (by omega);have f2:decide ((c:Int)<=122)=true:=AY (by omega);have f3:decide ((c:Int)>=65)=true:=AY (by omega);have f4:decide ((c:Int)<=90)=false:=Ah (by omega);have f5:decide ((c:Int)>=48)=true:=AY (by omega);have f6:decide ((c:Int)<=57)=false:=Ah (by omega);have f7:((c:Int)==45)=false:=Bw.2 (by omega);have f8:((c:Int)==95)=false:=Bw.2 (by omega);have f9:((c:Int)==46)=false:=Bw.2 (by omega);have hnb:Cc c=true:=by
     unfold Cc;simp;omega
    rw[hnb];refine An w1 700 (by kernel_rfl) ?_;refine AE kB ?_
    try simp only[f1,f2,f3,f4,f5,f6,f7,f8,f9]
    refine AE kB ?_
    try simp only[f1,f2,f3,f4,f5,f6,f7,f8,f9]
    refine AE kB ?_
    try simp only[f1,f2,f3,f4,f5,f6,f7,f8,f9]
    refine AE kB ?_
    try simp only[f1,f2,f3,f4,f5,f6,f7,f8,f9]
    refine AE kB ?_
    try simp only[f1,f2,f3,f4,f5,f6,f7,f8,f9]
    refine AE kB ?_
    try simp only[f1,f2,f3,f4,f5,f6,f7,f8,f9]
    refine AE kB ?_
    try simp only[f1,f2,f3,f4,f5,f6,f7,f8,f9]
    refine AE kB ?_
    try simp only[f1,f2,f3,f4,f5,f6,f7,f8,f9]
    refine AE kB ?_
    try simp only[f1,f2,f3,f4,f5,f6,f7,f8,f9]
    exact⟨by first|exact AB|rfl|simp,_,trivial,AJ⟩
   ·skip
    have f1:decide ((c:Int)>=97)=true:=AY (by omega);have f2:decide ((c:Int)<=122)=false:=Ah (by omega);have f3:decide ((c:Int)>=65)=true:=AY (by omega);have f4:decide ((c:Int)<=90)=false:=Ah (by omega);have f5:decide ((c:Int)>=48)=true:=AY (by omega);have f6:decide ((c:Int)<=57)=false:=Ah (by omega);have f7:((c:Int)==45)=false:=Bw.2 (by omega);have f8:((c:Int)==95)=false:=Bw.2 (by omega);have f9:((c:Int)==46)=false:=Bw.2 (by omega);have hnb:Cc c=false:=by
     unfold Cc;simp;omega
    rw[hnb];refine An w1 700 (by kernel_rfl) ?_;refine AE kB ?_
    try simp only[f1,f2,f3,f4,f5,f6,f7,f8,f9]
    refine AE kB ?_
    try simp only[f1,f2,f3,f4,f5,f6,f7,f8,f9]
    refine AE kB ?_
    try simp only[f1,f2,f3,f4,f5,f6,f7,f8,f9]
    refine AE kB ?_
    try simp only[f1,f2,f3,f4,f5,f6,f7,f8,f9]
    refine AE kB ?_
    try simp only[f1,f2,f3,f4,f5,f6,f7,f8,f9]
    refine AE kB ?_
    try simp only[f1,f2,f3,f4,f5,f6,f7,f8,f9]
    refine AE kB ?_
    try simp only[f1,f2,f3,f4,f5,f6,f7,f8,f9]
    refine AE kB ?_
    try simp only[f1,f2,f3,f4,f5,f6,f7,f8,f9]
    refine AE kB ?_
    try simp only[f1,f2,f3,f4,f5,f6,f7,f8,f9]
    exact⟨by first|exact AB|rfl|simp,_,trivial,AJ⟩
   ·skip
    have f1:decide ((c:Int)>=97)=false:=Ah (by omega);have f2:decide ((c:Int)<=122)=true:=AY (by omega);have f3:decide ((c:Int)>=65)=true:=AY (by omega);have f4:decide ((c:Int)<=90)=true:=AY (by omega);have f5:decide ((c:Int)>=48)=true:=AY (by omega);have f6:decide ((c:Int)<=57)=false:=Ah (by omega);have f7:((c:Int)==45)=false:=Bw.2 (by omega);have f8:((c:Int)==95)=false:=Bw.2 (by omega);have f9:((c:Int)==46)=false:=Bw.2 (by omega);have hnb:Cc c=true:=by
     unfold Cc;simp;omega
    rw[hnb];refine An w1 700 (by kernel_rfl) ?_;refine AE kB ?_
    try simp only[f1,f2,f3,f4,f5,f6,f7,f8,f9]
    refine AE kB ?_
    try simp only[f1,f2,f3,f4,f5,f6,f7,f8,f9]
    refine AE kB ?_
    try simp only[f1,f2,f3,f4,f5,f6,f7,f8,f9]
    refine AE kB ?_
    try simp only[f1,f2,f3,f4,f5,f6,f7,f8,f9]
    refine AE kB ?_
    try simp only[f1,f2,f3,f4,f5,f6,f7,f8,f9]
    refine AE kB ?_
    try simp only[f1,f2,f3,f4,f5,f6,f7,f8,f9]
    refine AE kB ?_
    try simp only[f1,f2,f3,f4,f5,f6,f7,f8,f9]
    refine AE kB ?_
    try simp only[f1,f2,f3,f4,f5,f6,f7,f8,f9]
    refine AE kB ?_
    try simp only[f1,f2,f3,f4,f5,f6,f7,f8,f9]
    exact⟨by first|exact AB|rfl|simp,_,trivial,AJ⟩
   ·skip
    have f1:decide ((c:Int)>=97)=false:=Ah (by omega);have f2:decide ((c:Int)<=122)=true:=AY (by omega);have f3:decide ((c:Int)>=65)=true:=AY (by omega);have f4:decide ((c:Int)<=90)=false:=Ah (by omega);have f5:decide ((c:Int)>=48)=true:=AY (by omega);have f6:decide ((c:Int)<=57)=false:=Ah (by omega);have f7:((c:Int)==45)=false:=Bw.2 (by omega);have f8:((c:Int)==95)=false:=Bw.2 (by omega);have f9:((c:Int)==46)=false:=Bw.2 (by omega);have hnb:Cc c=false:=by
     unfold Cc;simp;omega
    rw[hnb];refine An w1 700 (by kernel_rfl) ?_;refine AE kB ?_
    try simp only[f1,f2,f3,f4,f5,f6,f7,f8,f9]
    refine AE kB ?_
    try simp only[f1,f2,f3,f4,f5,f6,f7,f8,f9]
    refine AE kB ?_
    try simp only[f1,f2,f3,f4,f5,f6,f7,f8,f9]
    refine AE kB ?_
    try simp only[f1,f2,f3,f4,f5,f6,f7,f8,f9]
    refine AE kB ?_
    try simp only[f1,f2,f3,f4,f5,f6,f7,f8,f9]
    refine AE kB ?_
    try simp only[f1,f2,f3,f4,f5,f6,f7,f8,f9]
    refine AE kB ?_
    try simp only[f1,f2,f3,f4,f5,f6,f7,f8,f9]
    refine AE kB ?_
    try simp only[f1,f2,f3,f4,f5,f6,f7,f8,f9]
    refine AE kB ?_
    try simp only[f1,f2,f3,f4,f5,f6,f7,f8,f9]
    exact⟨by first|exact AB|rfl|simp,_,trivial,AJ⟩
   ·skip
    have f1:decide ((c:Int)>=97)=false:=Ah (by omega);have f2:decide ((c:Int)<=122)=true:=AY (by omega);have f3:decide ((c:Int)>=65)=true:=AY (by omega);have f4:decide ((c:Int)<=90)=false:=Ah (by omega);have f5:decide ((c:Int)>=48)=true:=AY (by omega);have f6:decide ((c:Int)<=57)=false:=Ah (by omega);have f7:((c:Int)==45)=false:=Bw.2 (by omega);have f8:((c:Int)==95)=true:=Dv.2 (by omega);have f9:((c:Int)==46)=false:=Bw.2 (by omega);have hnb:Cc c=true:=by
     unfold Cc;simp;omega
    rw[hnb];refine An w1 700 (by kernel_rfl) ?_;refine AE kB ?_
    try simp only[f1,f2,f3,f4,f5,f6,f7,f8,f9]
    refine AE kB ?_
    try simp only[f1,f2,f3,f4,f5,f6,f7,f8,f9]
    refine AE kB ?_
    try simp only[f1,f2,f3,f4,f5,f6,f7,f8,f9]
    refine AE kB ?_
    try simp only[f1,f2,f3,f4,f5,f6,f7,f8,f9]
    refine AE kB ?_
    try simp only[f1,f2,f3,f4,f5,f6,f7,f8,f9]
    refine AE kB ?_
    try simp only[f1,f2,f3,f4,f5,f6,f7,f8,f9]
    refine AE kB ?_
    try simp only[f1,f2,f3,f4,f5,f6,f7,f8,f9]
    refine AE kB ?_
    try simp only[f1,f2,f3,f4,f5,f6,f7,f8,f9]
    refine AE kB ?_
    try simp only[f1,f2,f3,f4,f5,f6,f7,f8,f9]
    exact⟨by first|exact AB|rfl|simp,_,trivial,AJ⟩
   ·skip
    have f1:decide ((c:Int)>=97)=false:=Ah (by omega);have f2:decide ((c:Int)<=122)=true:=AY (by omega);have f3:decide ((c:Int)>=65)=false:=Ah (by omega);have f4:decide ((c:Int)<=90)=true:=AY (by omega);have f5:decide ((c:Int)>=48)=true:=AY (by omega);have f6:decide ((c:Int)<=57)=false:=Ah (by omega);have f7:((c:Int)==45)=false:=Bw.2 (by omega);have f8:((c:Int)==95)=false:=Bw.2 (by omega);have f9:((c:Int)==46)=false:=Bw.2 (by omega);have hnb:Cc c=false:=by
     unfold Cc;simp;omega
    rw[hnb];refine An w1 700 (by kernel_rfl) ?_;refine AE kB ?_
    try simp only[f1,f2,f3,f4,f5,f6,f7,f8,f9]
    refine AE kB ?_
    try simp only[f1,f2,f3,f4,f5,f6,f7,f8,f9]
    refine AE kB ?_
    try simp only[f1,f2,f3,f4,f5,f6,f7,f8,f9]
    refine AE kB ?_
    try simp only[f1,f2,f3,f4,f5,f6,f7,f8,f9]
    refine AE kB ?_
    try simp only[f1,f2,f3,f4,f5,f6,f7,f8,f9]
    refine AE kB ?_
    try simp only[f1,f2,f3,f4,f5,f6,f7,f8,f9]
    refine AE kB ?_
    try simp only[f1,f2,f3,f4,f5,f6,f7,f8,f9]
    refine AE kB ?_
    try simp only[f1,f2,f3,f4,f5,f6,f7,f8,f9]
    refine AE kB ?_
    try simp only[f1,f2,f3,f4,f5,f6,f7,f8,f9]
    exact⟨by first|exact AB|rfl|simp,_,trivial,AJ⟩
   ·skip
    have f1:decide ((c:Int)>=97)=false:=Ah (by omega);have f2:decide ((c:Int)<=122)=true:=AY (by omega);have f3:decide ((c:Int)>=65)=false:=Ah (by omega);have f4:decide ((c:Int)<=90)=true:=AY (by omega);have f5:decide ((c:Int)>=48)=true:=AY (by omega);have f6:decide ((c:Int)<=57)=true:=AY (by omega);have f7:((c:Int)==45)=false:=Bw.2 (by omega);have f8:((c:Int)==95)=false:=Bw.2 (by omega);have f9:((c:Int)==46)=false:=Bw.2 (by omega);have hnb:Cc c=true:=by
     unfold Cc;simp;omega
    rw[hnb];refine An w1 700 (by kernel_rfl) ?_;refine AE kB ?_
    try simp only[f1,f2,f3,f4,f5,f6,f7,f8,f9]
    refine AE kB ?_
    try simp only[f1,f2,f3,f4,f5,f6,f7,f8,f9]
    refine AE kB ?_
    try simp only[f1,f2,f3,f4,f5,f6,f7,f8,f9]
    refine AE kB ?_
    try simp only[f1,f2,f3,f4,f5,f6,f7,f8,f9]
    refine AE kB ?_
    try simp only[f1,f2,f3,f4,f5,f6,f7,f8,f9]
    refine AE kB ?_
    try simp only[f1,f2,f3,f4,f5,f6,f7,f8,f9]
    refine AE kB ?_
    try simp only[f1,f2,f3,f4,f5,f6,f7,f8,f9]
    refine AE kB ?_
    try simp only[f1,f2,f3,f4,f5,f6,f7,f8,f9]
    refine AE kB ?_
    try simp only[f1,f2,f3,f4,f5,f6,f7,f8,f9]
    exact⟨by first|exact AB|rfl|simp,_,trivial,AJ⟩
   ·skip
    have f1:decide ((c:Int)>=97)=false:=Ah (by omega);have f2:decide ((c:Int)<=122)=true:=AY (by omega);have f3:decide ((c:Int)>=65)=false:=Ah (by omega);have f4:decide ((c:Int)<=90)=true:=AY (by omega);have f5:decide ((c:Int)>=48)=false:=Ah (by omega);have f6:decide ((c:Int)<=57)=true:=AY (by omega);have f7:((c:Int)==45)=false:=Bw.2 (by omega);have f8:((c:Int)==95)=false:=Bw.2 (by omega);have f9:((c:Int)==46)=false:=Bw.2 (by omega);have hnb:Cc c=false:=by
     unfold Cc;simp;omega
    rw[hnb];refine An w1 700 (by kernel_rfl) ?_;refine AE kB ?_
    try simp only[f1,f2,f3,f4,f5,f6,f7,f8,f9]
    refine AE kB ?_
    try simp only[f1,f2,f3,f4,f5,f6,f7,f8,f9]
    refine AE kB ?_
    try simp only[f1,f2,f3,f4,f5,f6,f7,f8,f9]
    refine AE kB ?_
    try simp only[f1,f2,f3,f4,f5,f6,f7,f8,f9]
    refine AE kB ?_
    try simp only[f1,f2,f3,f4,f5,f6,f7,f8,f9]
    refine AE kB ?_
    try simp only[f1,f2,f3,f4,f5,f6,f7,f8,f9]
    refine AE kB ?_
    try simp only[f1,f2,f3,f4,f5,f6,f7,f8,f9]
    refine AE kB ?_
    try simp only[f1,f2,f3,f4,f5,f6,f7,f8,f9]
    refine AE kB ?_
    try simp only[f1,f2,f3,f4,f5,f6,f7,f8,f9]
    exact⟨by first|exact AB|rfl|simp,_,trivial,AJ⟩
   ·skip
    have f1:decide ((c:Int)>=97)=false:=Ah (by omega);have f2:decide ((c:Int)<=122)=true:=AY (by omega);have f3:decide ((c:Int)>=65)=false:=Ah (by omega);have f4:decide ((c:Int)<=90)=true:=AY (by omega);have f5:decide ((c:Int)>=48)=false:=Ah (by omega);have f6:decide ((c:Int)<=57)=true:=AY (by omega);have f7:((c:Int)==45)=true:=Dv.2 (by omega);have f8:((c:Int)==95)=false:=Bw.2 (by omega);have f9:((c:Int)==46)=false:=Bw.2 (by omega);have hnb:Cc c=true:=by
     unfold Cc;simp;omega
    rw[hnb];refine An w1 700 (by kernel_rfl) ?_;refine AE kB ?_
    try simp only[f1,f2,f3,f4,f5,f6,f7,f8,f9]
    refine AE kB ?_
    try simp only[f1,f2,f3,f4,f5,f6,f7,f8,f9]
    refine AE kB ?_
    try simp only[f1,f2,f3,f4,f5,f6,f7,f8,f9]
    refine AE kB ?_
    try simp only[f1,f2,f3,f4,f5,f6,f7,f8,f9]
    refine AE kB ?_
    try simp only[f1,f2,f3,f4,f5,f6,f7,f8,f9]
    refine AE kB ?_
    try simp only[f1,f2,f3,f4,f5,f6,f7,f8,f9]
    refine AE kB ?_
    try simp only[f1,f2,f3,f4,f5,f6,f7,f8,f9]
    refine AE kB ?_
    try simp only[f1,f2,f3,f4,f5,f6,f7,f8,f9]
    refine AE kB ?_
    try simp only[f1,f2,f3,f4,f5,f6,f7,f8,f9]
    exact⟨by first|exact AB|rfl|simp,_,trivial,AJ⟩
   ·skip
    have f1:decide ((c:Int)>=97)=false:=Ah (by omega);have f2:decide ((c:Int)<=122)=true:=AY (by omega);have f3:decide ((c:Int)>=65)=false:=Ah (by omega);have f4:decide ((c:Int)<=90)=true:=AY (by omega);have f5:decide ((c:Int)>=48)=false:=Ah (by omega);have f6:decide ((c:Int)<=57)=true:=AY (by omega);have f7:((c:Int)==45)=false:=Bw.2 (by omega);have f8:((c:Int)==95)=false:=Bw.2 (by omega);have f9:((c:Int)==46)=true:=Dv.2 (by omega);have hnb:Cc c=true:=by
     unfold Cc;simp;omega
    rw[hnb];refine An w1 700 (by kernel_rfl) ?_;refine AE kB ?_
    try simp only[f1,f2,f3,f4,f5,f6,f7,f8,f9]
    refine AE kB ?_
    try simp only[f1,f2,f3,f4,f5,f6,f7,f8,f9]
    refine AE kB ?_
    try simp only[f1,f2,f3,f4,f5,f6,f7,f8,f9]
    refine AE kB ?_
    try simp only[f1,f2,f3,f4,f5,f6,f7,f8,f9]
    refine AE kB ?_
    try simp only[f1,f2,f3,f4,f5,f6,f7,f8,f9]
    refine AE kB ?_
    try simp only[f1,f2,f3,f4,f5,f6,f7,f8,f9]
    refine AE kB ?_
    try simp only[f1,f2,f3,f4,f5,f6,f7,f8,f9]
    refine AE kB ?_
    try simp only[f1,f2,f3,f4,f5,f6,f7,f8,f9]
    refine AE kB ?_
    try simp only[f1,f2,f3,f4,f5,f6,f7,f8,f9]
    exact⟨by first|exact AB|rfl|simp,_,trivial,AJ⟩
  rintro n1 -;cases hb:Cc c
  ·refine AL ?_
   refine sR 800 ?_;refine Af ?_;exact AQ (by rw[hcl hb]) AA.out
  ·refine AL ?_
   refine Am ?_;refine An w1 500 (by kernel_rfl) ?_;refine AU wi ?_;exact⟨(i+1,_),⟨hi2,hsn hb⟩,by dsimp only;omega,AJ⟩
 ·have hi2:i=l.length:=by
   have:=DA hlt
   omega
  subst hi2;rw[B4 (Ad _)]at ha;refine B5 ?_;refine sR 900 ?_;refine Af ?_;exact AQ (by unfold DO;rw[ha,AY l1,AY l2];rfl) AA.out
def DP:List Int->Int
 | []=>0
 |e::r=>if e≠0 then e else DP r
theorem Ob {v:List Int}{i:Nat}(h:∀(j:Nat) (e:Int),j<i->v[j]?=some e->e=0):DP v=DP (v.drop i):=by
 induction i generalizing v with
 |zero=>rfl
 |succ i ih=>
  cases v with
  |nil=>rfl
  |cons l r=>
   have h0:=h 0 l (Nat.succ_pos i) rfl;rw[Qr];show(if l≠0 then l else DP r)=_;rw[AG (λhh=>hh h0)];exact ih λj m hj hm=>h (j+1) m (by omega) hm
theorem NM {a:Int}(h:a≠0):(a != 0)=true:=by
 have:(a==0)=false:=Bw.2 h
 unfold bne;rw[this];rfl
theorem Wz {l:List UInt8}(h:CP l=0):LA (CF l):=SV (Lq h) (by decide)
def DV (f:Nat->Nat):Nat->Nat
 | 0=>0
 |n+1=>if DV f n≠0 then DV f n else f n
theorem LS {f:Nat->Nat}{n:Nat}(h:∀j,j<n->f j=0):DV f n=0:=by
 induction n with
 |zero=>rfl
 |succ n ih=>
  have:=ih λj hj=>h j (by omega)
  unfold DV;rw[AG (λhh=>hh this)];exact h n (by omega)
theorem NG {f:Nat->Nat}{i n:Nat}(h:∀j,j<i->f j=0)(hi:i<n)(h0:f i≠0):DV f n=f i:=by
 induction n with
 |zero=>omega
 |succ n ih=>
  unfold DV;rcases BL i n with hlt|hge
  ·have:=ih hlt
   rw[AH (by rw[this];exact h0),this]
  ·have:i=n:=by omega
   subst this;rw[AG (λhh=>hh (LS h))]
theorem PC {f:Nat->Nat}{n:Nat}(h:DV f n=0):∀j,j<n->f j=0:=by
 induction n with
 |zero=>intro j hj;omega
 |succ n ih=>
  unfold DV at h
  by_cases h0:DV f n=0
  ·rw[AG (λhh=>hh h0)]at h
   intro j hj;rcases BL j n with hl|hg
   ·exact ih h0 j hl
   ·have:j=n:=by omega
    subst this;exact h
  ·rw[AH h0]at h
   exact Aj h h0
structure K3 where
 name:List UInt8
 least:List (List UInt8)
 most:List (List UInt8)
 deriving Inhabited
def K3.D (g:K3):D:=.agg [str (sb g.name),.sl false 1 (g.least.map λl=>str (sb l)),.sl false 1 (g.most.map λl=>str (sb l))]
instance  (g:K3):Al g.D:=by unfold K3.D;exact AI
instance  (g:K3):AA g.D:=by unfold K3.D;exact AI
def lv (l:List (List UInt8))(k:Nat):List UInt8:=l.getD k []
def lg (gs:List K3)(i k:Nat):Option (List UInt8×List UInt8):=if i=0 then none else some (lv (gs.getD (i-1) default).least k,lv (gs.getD (i-1) default).most k)
theorem bo {α:Type}{l:List α}{p:α->Bool}{i:Nat}(h:∀(j:Nat) (x:α),j<i->l[j]?=some x->p x=false):(l.take i).any p=false:=by
 rw[List.any_eq_false];intro x hx;obtain⟨j,hj,e⟩:=List.mem_iff_getElem.1 hx;have hj2:j<i:=by rw[Bj]at hj;omega
 have:l[j]?=some x:=by
  rw[<-e,List.getElem_take];exact BH _
 rw[h j x hj2 this];simp
def J3 {α:Type}(p:α->Bool)(l:List α):Int:=if l.any p then(l.findIdx p:Int)else -1
theorem Wo {α:Type}{p:α->Bool}{l:List α}{i:Nat}{x:α}(hx:l[i]?=some x)(h:p x=true)(ha:∀(j:Nat) (y:α),j<i->l[j]?=some y->p y=false):J3 p l=i:=by
 unfold J3;obtain⟨hi,e⟩:=List.getElem?_eq_some_iff.1 hx;rw[AH (List.any_eq_true.2 ⟨x,BE hx,h⟩)]
 have:l.findIdx p=i:=(List.findIdx_eq hi).2 ⟨by rw[e];exact h,λj hj=>ha j _ hj (BH _)⟩
 rw[this]
theorem Vd {α:Type}{p:α->Bool}{l:List α}(ha:∀(j:Nat) (y:α),j<l.length->l[j]?=some y->p y=false):J3 p l = -1:=by
 unfold J3
 have:=bo (l:=l) (p:=p) (i:=l.length) ha
 rw[DW]at this;rw[this];rfl
theorem Wp {α:Type}(p:α->Bool)(l:List α):decide (J3 p l>=0)=l.any p:=by
 unfold J3;cases l.any p
 ·rfl
 ·exact AY (by simp)
end Go.Ide
