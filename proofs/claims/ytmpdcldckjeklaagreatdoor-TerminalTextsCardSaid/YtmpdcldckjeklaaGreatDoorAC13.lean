/- The layer of own lemmas and contracts, part 13. -/
import Derived.Test.YtmpdcldckjeklaaGreatDoorAC11
import Derived.Test.YtmpdcldckjeklaaGreatDoorAC7
import Derived.Test.YtmpdcldckjeklaaGreatDoorAC4
set_option linter.unusedVariables false
set_option linter.unusedSimpArgs false
namespace Go.Ide
open Go.Proofs Go.RowKit
set_option maxRecDepth 100000
theorem aW:Af C0 42 [HX,RL] (.tup [.prim (.pointer none),i64 28]):=DW (DE OP DA) 1000 40 (by kernel_rfl)
theorem aX:Af C0 42 [HX,RM] (.tup [TT,i64 0]):=DW (DE OP DA) 1000 40 (by kernel_rfl)
set_option maxRecDepth 20000
set_option maxHeartbeats 4000000
abbrev K4:D:=.agg [i64 6,BC,i64 1,BC]
abbrev K3:D:=.agg [i64 3,BC,i64 1,BC]
def aB:D:=.agg [Bl,str (sb [54])]
def aR:D:=.agg [BX,str (sb [51])]
instance:Ac aB:=⟨λc hc=>Cy (n:=5) (Dd (f:=DT 5) (l:=aB.cells) (by kernel_rfl) c hc)⟩
instance:Ac aR:=⟨λc hc=>Cy (n:=5) (Dd (f:=DT 5) (l:=aR.cells) (by kernel_rfl) c hc)⟩
theorem ew:Af C0 67 [K4] (Al false):=DW (DE DK DA) 1000 40 (by kernel_rfl)
theorem eu:Af C0 67 [K3] (Al false):=DW (DE DK DA) 1000 40 (by kernel_rfl)
theorem fC:Af C0 68 [K4] (str (sb [54])):=DW (DE DK DA) 1000 40 (by kernel_rfl)
theorem fB:Af C0 68 [K3] (str (sb [51])):=DW (DE DK DA) 1000 40 (by kernel_rfl)
def kL:List D:=[Bl,BX]
def vL:List D:=[K4,K3]
def aL (j:Nat):D:=[aB,aR].getD j aR
def ey (o:Option (D×Hp×Nat)):Nat:=match o with
 |some (_,_,n)=>n
 |none=>0
theorem Ss (a b:D)(h:(C1 (XT DK []) 1000 40).2 162 [.osl 706 176 2 0 2,.clo (.func 163) [] []] [⟨706,176,59,2,[a,b]⟩] 223=some (.tup [],[⟨706,176,59,2,[aB,aR]⟩],ey ((C1 (XT DK []) 1000 40).2 162 [.osl 706 176 2 0 2,.clo (.func 163) [] []] [⟨706,176,59,2,[a,b]⟩] 223)):=by kernel_rfl):
  ∃n,Ca C0 162 [.osl 706 176 2 0 2,.clo (.func 163) [] []] [⟨706,176,59,2,[a,b]⟩] 223 (Ih (.tup []) [⟨706,176,59,2,[aB,aR]⟩] n):=⟨_,(N5 (DE DK DA) 1000 40).2 _ _ _ _ _ _ _ h⟩
theorem cW:∃n,Ca C0 162 [.osl 706 176 2 0 2,.clo (.func 163) [] []] [⟨706,176,59,2,[aB,aR]⟩] 223 (Ih (.tup []) [⟨706,176,59,2,[aB,aR]⟩] n):=Ss aB aR
theorem cX:∃n,Ca C0 162 [.osl 706 176 2 0 2,.clo (.func 163) [] []] [⟨706,176,59,2,[aR,aB]⟩] 223 (Ih (.tup []) [⟨706,176,59,2,[aB,aR]⟩] n):=Ss aR aB
def gA (k:Nat):Nat:=56+60*k
theorem VK {dn:List Nat}{j:Nat}(h:(dn++[j]).Nodup)(h2:∀i∈dn++[j],i<2):(dn=[]/\j=0)\/(dn=[]/\j=1)\/(dn=[1]/\j=0)\/(dn=[0]/\j=1):=by
 have hj:=h2 j (by simp);rcases dn with _|⟨a,_|⟨b,r⟩⟩
 ·have:j=0\/j=1:=by omega
  rcases this with rfl|rfl<;>simp
 ·have ha:=h2 a (by simp)
  have hne:a≠j:=λe=>by subst e;simp at h
  have:(a=1/\j=0)\/(a=0/\j=1):=by omega
  rcases this with⟨rfl,rfl⟩|⟨rfl,rfl⟩<;>simp
 ·have ha:=h2 a (by simp)
  have hb:=h2 b (by simp);simp at h;omega
theorem WO {dn:List Nat}(h:dn.Nodup)(h2:∀i∈dn,i<2)(h0:0∈dn)(h1:1∈dn):dn=[0,1]\/dn=[1,0]:=by
 rcases dn with _|⟨a,_|⟨b,_|⟨c,r⟩⟩⟩
 ·simp at h0
 ·simp at h0 h1;omega
 ·have ha:=h2 a (by simp)
  have hb:=h2 b (by simp);have hab:a≠b:=λe=>by subst e;simp at h
  have:(a=0/\b=1)\/(a=1/\b=0):=by omega
  rcases this with⟨rfl,rfl⟩|⟨rfl,rfl⟩<;>simp
 ·have ha:=h2 a (by simp)
  have hb:=h2 b (by simp);have hc:=h2 c (by simp);simp at h;omega
theorem aY:Af C0 111 [.mp kL vL] (.tup [.sl false 2 [aB,aR],i64 0]):=by
 refine BN.walk w1 RQ rfl λF0=>?_
 refine sZ 0 ?_;refine CM kB ?_;refine sZ 100 ?_;refine CM kB ?_;refine AQ.seq ?_;refine AQ.seq ?_;refine JX (by kernel_rfl) ?_;change Bb _ _ _ _ _ ([0]++(1::[])) _ _;refine IS w1 200 [0] _ ?_;refine CM kB ?_;refine eD 201 (GZ (w1.xt 93 _ rfl)).1 rfl rfl rfl rfl (eL F0) (λF1 o1 hto hO hI=>Bb.nil ?_);refine BD ?_;refine AQ.block ?_;refine Oy (α:=List Nat×Obj) (λp=>⟨[(8,.optr 201 4 0 0 0),(4,GG 706 (gA p.1.length) 2 (p.1.map aL))],GH 706 (gA p.1.length) 59 2 (p.1.map aL),100+60*p.1.length⟩) (λp=>2-p.1.length)
  (λp F=>Cf C0 F0 F [⟨201,4,p.2⟩]/\JD F p.2 kL vL p.1) ([],o1) ⟨hO,hI⟩ As ?_
 clear hO hI hto;rintro⟨dn,o⟩ F ⟨hO,hI⟩;dsimp only at hO hI⊢;refine AQ.seq ?_;refine JX (by kernel_rfl) ?_;change Bb _ _ _ _ _ [0,1] _ _;refine eC rfl rfl rfl rfl hO hI (λhall=>?_) (λj kd vd F2 o2 hjn hkd hvd hto hO2 hI2=>?_)
 ·change Bb _ _ _ _ _ ([1]++[]) _ _
  refine IS w1 300 [1] [] ?_;refine CM kB ?_;refine Bb.nil ?_;refine BD ?_;refine AQ.seq ?_;refine Cm ?_;refine Id ?_;have hfin:dn=[0,1]\/dn=[1,0]:=by
   obtain⟨bm,es,clock,since,c0,seen,-,-,-,z4,-,-,-,-,-,-,-,-,z8,z9⟩:=hI;have e:kL.length=2:=rfl;exact WO z8 (λi hi=>by have:=z9 i hi;omega) (hall 0 (by rw[e];omega)) (hall 1 (by rw[e];omega))
  rcases hfin with rfl|rfl
  ·change AQ _ _ _ _ _ ⟨[(10,Al false),(9,.tup [Al false]),(8,.optr 201 4 0 0 0),(4,.osl 706 176 2 0 2)],[⟨706,176,59,2,[aB,aR]⟩],222⟩ _
   refine AS Ah kB AA AA AA AA AA AA ?_;obtain⟨nS,cS⟩:=cW;refine B0.own _ cS ?_;rintro d H' n' ⟨rfl,rfl,rfl⟩;refine AS Ah kB AA AA AA AA AA AA ?_;exact⟨_,Bp (H6 706 176 59 2 [aB,aR] []) (.refl _),AB.out,rfl⟩
  ·change AQ _ _ _ _ _ ⟨[(10,Al false),(9,.tup [Al false]),(8,.optr 201 4 0 0 0),(4,.osl 706 176 2 0 2)],[⟨706,176,59,2,[aR,aB]⟩],222⟩ _
   refine AS Ah kB AA AA AA AA AA AA ?_;obtain⟨nS,cS⟩:=cX;refine B0.own _ cS ?_;rintro d H' n' ⟨rfl,rfl,rfl⟩;refine AS Ah kB AA AA AA AA AA AA ?_;exact⟨_,Bp (H6 706 176 59 2 [aB,aR] []) (.refl _),AB.out,rfl⟩
 change Bb _ _ _ _ _ ([1]++[]) _ _;refine IS w1 300 [1] [] ?_;refine CM kB ?_;refine Bb.nil ?_;refine BD ?_;refine AQ.seq ?_;refine Cm ?_;refine FW ?_;obtain⟨hnd,hlt⟩:(dn++[j]).Nodup/\∀i∈dn++[j],i<2:=by
  obtain⟨bm,es,clock,since,c0,seen,-,-,-,z4,-,-,-,-,-,-,-,-,z8,z9⟩:=hI2;exact⟨z8,λi hi=>by have:=z9 i hi;have e:kL.length=2:=rfl;omega⟩
 have hc:=VK hnd hlt;have cL6:=ew;have cL3:=eu;have cT6:=fC;have cT3:=fB;rcases hc with⟨rfl,rfl⟩|⟨rfl,rfl⟩|⟨rfl,rfl⟩|⟨rfl,rfl⟩
 ·cases hkd
  cases hvd;change AQ _ _ _ _ _ ⟨[(10,Al true),(9,.tup [Al true,Bl,K4]),(8,.optr 201 4 0 0 0),(4,BC)],[],102⟩ _;refine AQ.block ?_;refine AQ.seq ?_;refine JX (by kernel_rfl) ?_;change Bb _ _ _ _ _ (0::([1,2,3,4,5]++[])) _ _;refine Mb (xo:=⟨201,4,o2⟩) rfl rfl rfl rfl hO2 Cv hI2 rfl rfl ?_;refine IS w1 400 [1,2,3,4,5] [] ?_;refine CM kB ?_;refine Bb.nil ?_;refine BD ?_;refine AS Ah kB cL6 cT6 AA AA AA AA ?_;refine⟨([0],o2),⟨hO2,hI2⟩,(by show 2-1<2;decide),?_⟩;show Wk _ ⟨[(8,.optr 201 4 0 0 0),(4,.osl 706 116 2 0 1)],[⟨706,116,59,2,[.agg [Bl,str (sb [54])]]⟩],160⟩;exact As
 ·cases hkd
  cases hvd;change AQ _ _ _ _ _ ⟨[(10,Al true),(9,.tup [Al true,BX,K3]),(8,.optr 201 4 0 0 0),(4,BC)],[],102⟩ _;refine AQ.block ?_;refine AQ.seq ?_;refine JX (by kernel_rfl) ?_;change Bb _ _ _ _ _ (0::([1,2,3,4,5]++[])) _ _;refine Mb (xo:=⟨201,4,o2⟩) rfl rfl rfl rfl hO2 Cv hI2 rfl rfl ?_;refine IS w1 400 [1,2,3,4,5] [] ?_;refine CM kB ?_;refine Bb.nil ?_;refine BD ?_;refine AS Ah kB cL3 cT3 AA AA AA AA ?_;refine⟨([1],o2),⟨hO2,hI2⟩,(by show 2-1<2;decide),?_⟩;show Wk _ ⟨[(8,.optr 201 4 0 0 0),(4,.osl 706 116 2 0 1)],[⟨706,116,59,2,[.agg [BX,str (sb [51])]]⟩],160⟩;exact As
 ·cases hkd
  cases hvd;change AQ _ _ _ _ _ ⟨[(10,Al true),(9,.tup [Al true,Bl,K4]),(8,.optr 201 4 0 0 0),(4,.osl 706 116 2 0 1)],[⟨706,116,59,2,[.agg [BX,str (sb [51])]]⟩],162⟩ _;refine AQ.block ?_;refine AQ.seq ?_;refine JX (by kernel_rfl) ?_;change Bb _ _ _ _ _ (0::([1,2,3,4,5]++[])) _ _;refine Mb (xo:=⟨201,4,o2⟩) rfl rfl rfl rfl hO2 Cv hI2 rfl rfl ?_;refine IS w1 400 [1,2,3,4,5] [] ?_;refine CM kB ?_;refine Bb.nil ?_;refine BD ?_;refine AS Ah kB cL6 cT6 AA AA AA AA ?_;refine⟨([1,0],o2),⟨hO2,hI2⟩,(by show 2-2<1;decide),?_⟩;show Wk _ ⟨[(8,.optr 201 4 0 0 0),(4,.osl 706 176 2 0 2)],[⟨706,176,59,2,[.agg [BX,str (sb [51])],.agg [Bl,str (sb [54])]]⟩],220⟩;exact As
 ·cases hkd
  cases hvd;change AQ _ _ _ _ _ ⟨[(10,Al true),(9,.tup [Al true,BX,K3]),(8,.optr 201 4 0 0 0),(4,.osl 706 116 2 0 1)],[⟨706,116,59,2,[.agg [Bl,str (sb [54])]]⟩],162⟩ _;refine AQ.block ?_;refine AQ.seq ?_;refine JX (by kernel_rfl) ?_;change Bb _ _ _ _ _ (0::([1,2,3,4,5]++[])) _ _;refine Mb (xo:=⟨201,4,o2⟩) rfl rfl rfl rfl hO2 Cv hI2 rfl rfl ?_;refine IS w1 400 [1,2,3,4,5] [] ?_;refine CM kB ?_;refine Bb.nil ?_;refine BD ?_;refine AS Ah kB cL3 cT3 AA AA AA AA ?_;refine⟨([0,1],o2),⟨hO2,hI2⟩,(by show 2-2<1;decide),?_⟩;show Wk _ ⟨[(8,.optr 201 4 0 0 0),(4,.osl 706 176 2 0 2)],[⟨706,176,59,2,[.agg [Bl,str (sb [54])],.agg [BX,str (sb [51])]]⟩],220⟩;exact As
end Go.Ide
