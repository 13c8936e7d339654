/- The layer of own lemmas and contracts, part 17. -/
import Derived.Test.YtmpdcldckjeklabGreatDoorAD15
import Derived.Test.YtmpdcldckjeklabGreatDoorAD7
import Derived.Test.YtmpdcldckjeklabGreatDoorAD4
set_option linter.unusedVariables false
set_option linter.unusedSimpArgs false
namespace Go.Ide
open Go.Proofs Go.RowKit
set_option maxRecDepth 100000
theorem bj:Aa C0 51 [HU,Re] (.tup [.prim (.pointer none),i64 28]):=Dc (DN OU DL) 1000 40 (by kernel_rfl)
theorem bn:Aa C0 51 [HU,Rm] (.tup [Tq,i64 0]):=Dc (DN OU DL) 1000 40 (by kernel_rfl)
set_option maxRecDepth 20000
set_option maxHeartbeats 4000000
abbrev LC:D:=.agg [i64 6,BC,i64 1,BC]
abbrev LB:D:=.agg [i64 3,BC,i64 1,BC]
def aB:D:=.agg [Bo,str (sb [54])]
def aR:D:=.agg [Bd,str (sb [51])]
instance:Af aB:=⟨λc hc=>DA (n:=5) (Dj (f:=DZ 5) (l:=aB.cells) (by kernel_rfl) c hc)⟩
instance:Af aR:=⟨λc hc=>DA (n:=5) (Dj (f:=DZ 5) (l:=aR.cells) (by kernel_rfl) c hc)⟩
theorem gP:Aa C0 82 [LC] (Am false):=Dc (DN DS DL) 1000 40 (by kernel_rfl)
theorem gO:Aa C0 82 [LB] (Am false):=Dc (DN DS DL) 1000 40 (by kernel_rfl)
theorem gU:Aa C0 83 [LC] (str (sb [54])):=Dc (DN DS DL) 1000 40 (by kernel_rfl)
theorem gT:Aa C0 83 [LB] (str (sb [51])):=Dc (DN DS DL) 1000 40 (by kernel_rfl)
def kL:List D:=[Bo,Bd]
def vL:List D:=[LC,LB]
def aL (j:Nat):D:=[aB,aR].getD j aR
def gR (o:Option (D×Hp×Nat)):Nat:=match o with
 |some (_,_,n)=>n
 |none=>0
theorem TG (a b:D)(h:(DC (XT DS []) 1000 40).2 201 [.osl 706 176 2 0 2,.clo (.func 202) [] []] [⟨706,176,62,2,[a,b]⟩] 223=some (.tup [],[⟨706,176,62,2,[aB,aR]⟩],gR ((DC (XT DS []) 1000 40).2 201 [.osl 706 176 2 0 2,.clo (.func 202) [] []] [⟨706,176,62,2,[a,b]⟩] 223)):=by kernel_rfl):
  ∃n,Ci C0 201 [.osl 706 176 2 0 2,.clo (.func 202) [] []] [⟨706,176,62,2,[a,b]⟩] 223 (Ic (.tup []) [⟨706,176,62,2,[aB,aR]⟩] n):=⟨_,(OB (DN DS DL) 1000 40).2 _ _ _ _ _ _ _ h⟩
theorem eP:∃n,Ci C0 201 [.osl 706 176 2 0 2,.clo (.func 202) [] []] [⟨706,176,62,2,[aB,aR]⟩] 223 (Ic (.tup []) [⟨706,176,62,2,[aB,aR]⟩] n):=TG aB aR
theorem eQ:∃n,Ci C0 201 [.osl 706 176 2 0 2,.clo (.func 202) [] []] [⟨706,176,62,2,[aR,aB]⟩] 223 (Ic (.tup []) [⟨706,176,62,2,[aB,aR]⟩] n):=TG aR aB
def gA (k:Nat):Nat:=56+60*k
theorem Vm {dn:List Nat}{j:Nat}(h:(dn++[j]).Nodup)(h2:∀i∈dn++[j],i<2):(dn=[]/\j=0)\/(dn=[]/\j=1)\/(dn=[1]/\j=0)\/(dn=[0]/\j=1):=by
 have hj:=h2 j (by simp);rcases dn with _|⟨a,_|⟨b,r⟩⟩
 ·have:j=0\/j=1:=by omega
  rcases this with rfl|rfl<;>simp
 ·have ha:=h2 a (by simp)
  have hne:a≠j:=λe=>by subst e;simp at h
  have:(a=1/\j=0)\/(a=0/\j=1):=by omega
  rcases this with⟨rfl,rfl⟩|⟨rfl,rfl⟩<;>simp
 ·have ha:=h2 a (by simp)
  have hb:=h2 b (by simp);simp at h;omega
theorem We {dn:List Nat}(h:dn.Nodup)(h2:∀i∈dn,i<2)(h0:0∈dn)(h1:1∈dn):dn=[0,1]\/dn=[1,0]:=by
 rcases dn with _|⟨a,_|⟨b,_|⟨c,r⟩⟩⟩
 ·simp at h0
 ·simp at h0 h1;omega
 ·have ha:=h2 a (by simp)
  have hb:=h2 b (by simp);have hab:a≠b:=λe=>by subst e;simp at h
  have:(a=0/\b=1)\/(a=1/\b=0):=by omega
  rcases this with⟨rfl,rfl⟩|⟨rfl,rfl⟩<;>simp
 ·have ha:=h2 a (by simp)
  have hb:=h2 b (by simp);have hc:=h2 c (by simp);simp at h;omega
theorem bo:Aa C0 133 [.mp kL vL] (.tup [.sl false 2 [aB,aR],i64 0]):=by
 refine A0.walk w1 Rr rfl λF0=>?_
 refine sZ 0 ?_;refine CY kB ?_;refine sZ 100 ?_;refine CY kB ?_;refine AN.seq ?_;refine AN.seq ?_;refine JT (by kernel_rfl) ?_;change Bh _ _ _ _ _ ([0]++(1::[])) _ _;refine IP w1 200 [0] _ ?_;refine CY kB ?_;refine fP 201 (GY (w1.xt 102 _ rfl)).1 rfl rfl rfl rfl (fY F0) (λF1 o1 hto hO hI=>Bh.nil ?_);refine BG ?_;refine AN.block ?_;refine O9 (α:=List Nat×Obj) (λp=>⟨[(8,.optr 201 4 0 0 0),(4,IH 706 (gA p.1.length) 2 (p.1.map aL))],Kv 706 (gA p.1.length) 62 2 (p.1.map aL),100+60*p.1.length⟩) (λp=>2-p.1.length)
  (λp F=>Cr C0 F0 F [⟨201,4,p.2⟩]/\I6 F p.2 kL vL p.1) ([],o1) ⟨hO,hI⟩ Ap ?_
 clear hO hI hto;rintro⟨dn,o⟩ F ⟨hO,hI⟩;dsimp only at hO hI⊢;refine AN.seq ?_;refine JT (by kernel_rfl) ?_;change Bh _ _ _ _ _ [0,1] _ _;refine fO rfl rfl rfl rfl hO hI (λhall=>?_) (λj kd vd F2 o2 hjn hkd hvd hto hO2 hI2=>?_)
 ·change Bh _ _ _ _ _ ([1]++[]) _ _
  refine IP w1 300 [1] [] ?_;refine CY kB ?_;refine Bh.nil ?_;refine BG ?_;refine AN.seq ?_;refine Cq ?_;refine Hc ?_;have hfin:dn=[0,1]\/dn=[1,0]:=by
   obtain⟨bm,es,clock,since,c0,seen,-,-,-,z4,-,-,-,-,-,-,-,-,z8,z9⟩:=hI;have e:kL.length=2:=rfl;exact We z8 (λi hi=>by have:=z9 i hi;omega) (hall 0 (by rw[e];omega)) (hall 1 (by rw[e];omega))
  rcases hfin with rfl|rfl
  ·change AN _ _ _ _ _ ⟨[(10,Am false),(9,.tup [Am false]),(8,.optr 201 4 0 0 0),(4,.osl 706 176 2 0 2)],[⟨706,176,62,2,[aB,aR]⟩],222⟩ _
   refine AT Ad kB AA AA AA AA AA AA ?_;obtain⟨nS,cS⟩:=eP;refine B5.own _ cS ?_;rintro d H' n' ⟨rfl,rfl,rfl⟩;refine AT Ad kB AA AA AA AA AA AA ?_;exact⟨_,Dv (Ix 706 176 62 2 [aB,aR] []) (.refl _),AB.out,rfl⟩
  ·change AN _ _ _ _ _ ⟨[(10,Am false),(9,.tup [Am false]),(8,.optr 201 4 0 0 0),(4,.osl 706 176 2 0 2)],[⟨706,176,62,2,[aR,aB]⟩],222⟩ _
   refine AT Ad kB AA AA AA AA AA AA ?_;obtain⟨nS,cS⟩:=eQ;refine B5.own _ cS ?_;rintro d H' n' ⟨rfl,rfl,rfl⟩;refine AT Ad kB AA AA AA AA AA AA ?_;exact⟨_,Dv (Ix 706 176 62 2 [aB,aR] []) (.refl _),AB.out,rfl⟩
 change Bh _ _ _ _ _ ([1]++[]) _ _;refine IP w1 300 [1] [] ?_;refine CY kB ?_;refine Bh.nil ?_;refine BG ?_;refine AN.seq ?_;refine Cq ?_;refine FG ?_;obtain⟨hnd,hlt⟩:(dn++[j]).Nodup/\∀i∈dn++[j],i<2:=by
  obtain⟨bm,es,clock,since,c0,seen,-,-,-,z4,-,-,-,-,-,-,-,-,z8,z9⟩:=hI2;exact⟨z8,λi hi=>by have:=z9 i hi;have e:kL.length=2:=rfl;omega⟩
 have hc:=Vm hnd hlt;have cL6:=gP;have cL3:=gO;have cT6:=gU;have cT3:=gT;rcases hc with⟨rfl,rfl⟩|⟨rfl,rfl⟩|⟨rfl,rfl⟩|⟨rfl,rfl⟩
 ·cases hkd
  cases hvd;change AN _ _ _ _ _ ⟨[(10,Am true),(9,.tup [Am true,Bo,LC]),(8,.optr 201 4 0 0 0),(4,BC)],[],102⟩ _;refine AN.block ?_;refine AN.seq ?_;refine JT (by kernel_rfl) ?_;change Bh _ _ _ _ _ (0::([1,2,3,4,5]++[])) _ _;refine Mj (xo:=⟨201,4,o2⟩) rfl rfl rfl rfl hO2 C5 hI2 rfl rfl ?_;refine IP w1 400 [1,2,3,4,5] [] ?_;refine CY kB ?_;refine Bh.nil ?_;refine BG ?_;refine AT Ad kB cL6 cT6 AA AA AA AA ?_;refine⟨([0],o2),⟨hO2,hI2⟩,(by show 2-1<2;decide),?_⟩;show Wk _ ⟨[(8,.optr 201 4 0 0 0),(4,.osl 706 116 2 0 1)],[⟨706,116,62,2,[.agg [Bo,str (sb [54])]]⟩],160⟩;exact Ap
 ·cases hkd
  cases hvd;change AN _ _ _ _ _ ⟨[(10,Am true),(9,.tup [Am true,Bd,LB]),(8,.optr 201 4 0 0 0),(4,BC)],[],102⟩ _;refine AN.block ?_;refine AN.seq ?_;refine JT (by kernel_rfl) ?_;change Bh _ _ _ _ _ (0::([1,2,3,4,5]++[])) _ _;refine Mj (xo:=⟨201,4,o2⟩) rfl rfl rfl rfl hO2 C5 hI2 rfl rfl ?_;refine IP w1 400 [1,2,3,4,5] [] ?_;refine CY kB ?_;refine Bh.nil ?_;refine BG ?_;refine AT Ad kB cL3 cT3 AA AA AA AA ?_;refine⟨([1],o2),⟨hO2,hI2⟩,(by show 2-1<2;decide),?_⟩;show Wk _ ⟨[(8,.optr 201 4 0 0 0),(4,.osl 706 116 2 0 1)],[⟨706,116,62,2,[.agg [Bd,str (sb [51])]]⟩],160⟩;exact Ap
 ·cases hkd
  cases hvd;change AN _ _ _ _ _ ⟨[(10,Am true),(9,.tup [Am true,Bo,LC]),(8,.optr 201 4 0 0 0),(4,.osl 706 116 2 0 1)],[⟨706,116,62,2,[.agg [Bd,str (sb [51])]]⟩],162⟩ _;refine AN.block ?_;refine AN.seq ?_;refine JT (by kernel_rfl) ?_;change Bh _ _ _ _ _ (0::([1,2,3,4,5]++[])) _ _;refine Mj (xo:=⟨201,4,o2⟩) rfl rfl rfl rfl hO2 C5 hI2 rfl rfl ?_;refine IP w1 400 [1,2,3,4,5] [] ?_;refine CY kB ?_;refine Bh.nil ?_;refine BG ?_;refine AT Ad kB cL6 cT6 AA AA AA AA ?_;refine⟨([1,0],o2),⟨hO2,hI2⟩,(by show 2-2<1;decide),?_⟩;show Wk _ ⟨[(8,.optr 201 4 0 0 0),(4,.osl 706 176 2 0 2)],[⟨706,176,62,2,[.agg [Bd,str (sb [51])],.agg [Bo,str (sb [54])]]⟩],220⟩;exact Ap
 ·cases hkd
  cases hvd;change AN _ _ _ _ _ ⟨[(10,Am true),(9,.tup [Am true,Bd,LB]),(8,.optr 201 4 0 0 0),(4,.osl 706 116 2 0 1)],[⟨706,116,62,2,[.agg [Bo,str (sb [54])]]⟩],162⟩ _;refine AN.block ?_;refine AN.seq ?_;refine JT (by kernel_rfl) ?_;change Bh _ _ _ _ _ (0::([1,2,3,4,5]++[])) _ _;refine Mj (xo:=⟨201,4,o2⟩) rfl rfl rfl rfl hO2 C5 hI2 rfl rfl ?_;refine IP w1 400 [1,2,3,4,5] [] ?_;refine CY kB ?_;refine Bh.nil ?_;refine BG ?_;refine AT Ad kB cL3 cT3 AA AA AA AA ?_;refine⟨([0,1],o2),⟨hO2,hI2⟩,(by show 2-2<1;decide),?_⟩;show Wk _ ⟨[(8,.optr 201 4 0 0 0),(4,.osl 706 176 2 0 2)],[⟨706,176,62,2,[.agg [Bo,str (sb [54])],.agg [Bd,str (sb [51])]]⟩],220⟩;exact Ap
end Go.Ide
