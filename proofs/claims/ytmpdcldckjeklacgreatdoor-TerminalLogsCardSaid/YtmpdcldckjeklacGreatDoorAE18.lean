/- The layer of own lemmas and contracts, part 18. -/
import Derived.Test.YtmpdcldckjeklacGreatDoorAE16
import Derived.Test.YtmpdcldckjeklacGreatDoorAE7
import Derived.Test.YtmpdcldckjeklacGreatDoorAE4
set_option linter.unusedVariables false
set_option linter.unusedSimpArgs false
namespace Go.Ide
open Go.Proofs Go.RowKit
set_option maxRecDepth 100000
theorem dS:Aa C0 43 [Hv,SO] (.tup [.prim (.pointer none),i64 28]):=Dq (Da Ox DY) 1000 40 (by kernel_rfl)
theorem dT:Aa C0 43 [Hv,SP] (.tup [Ua,i64 0]):=Dq (Da Ox DY) 1000 40 (by kernel_rfl)
set_option maxRecDepth 20000
set_option maxHeartbeats 4000000
abbrev Lb:D:=.agg [i64 6,BA,i64 1,BA]
abbrev La:D:=.agg [i64 3,BA,i64 1,BA]
def aB:D:=.agg [By,str (sb [54])]
def aR:D:=.agg [Bm,str (sb [51])]
instance:Aj aB:=⟨λc hc=>DL (n:=5) (Dy (f:=Dn 5) (l:=aB.cells) (by kernel_rfl) c hc)⟩
instance:Aj aR:=⟨λc hc=>DL (n:=5) (Dy (f:=Dn 5) (l:=aR.cells) (by kernel_rfl) c hc)⟩
theorem is:Aa C0 69 [Lb] (Ai false):=Dq (Da Dg DY) 1000 40 (by kernel_rfl)
theorem iq:Aa C0 69 [La] (Ai false):=Dq (Da Dg DY) 1000 40 (by kernel_rfl)
theorem jC:Aa C0 70 [Lb] (str (sb [54])):=Dq (Da Dg DY) 1000 40 (by kernel_rfl)
theorem jB:Aa C0 70 [La] (str (sb [51])):=Dq (Da Dg DY) 1000 40 (by kernel_rfl)
def kL:List D:=[By,Bm]
def vL:List D:=[Lb,La]
def aL (j:Nat):D:=[aB,aR].getD j aR
def iz (o:Option (D×Hp×Nat)):Nat:=match o with
 |some (_,_,n)=>n
 |none=>0
theorem T3 (a b:D)(h:(DN (XT Dg []) 1000 40).2 173 [.osl 706 176 2 0 2,.clo (.func 174) [] []] [⟨706,176,64,2,[a,b]⟩] 223=some (.tup [],[⟨706,176,64,2,[aB,aR]⟩],iz ((DN (XT Dg []) 1000 40).2 173 [.osl 706 176 2 0 2,.clo (.func 174) [] []] [⟨706,176,64,2,[a,b]⟩] 223)):=by kernel_rfl):
  ∃n,Ct C0 173 [.osl 706 176 2 0 2,.clo (.func 174) [] []] [⟨706,176,64,2,[a,b]⟩] 223 (I6 (.tup []) [⟨706,176,64,2,[aB,aR]⟩] n):=⟨_,(Ob (Da Dg DY) 1000 40).2 _ _ _ _ _ _ _ h⟩
theorem fL:∃n,Ct C0 173 [.osl 706 176 2 0 2,.clo (.func 174) [] []] [⟨706,176,64,2,[aB,aR]⟩] 223 (I6 (.tup []) [⟨706,176,64,2,[aB,aR]⟩] n):=T3 aB aR
theorem fM:∃n,Ct C0 173 [.osl 706 176 2 0 2,.clo (.func 174) [] []] [⟨706,176,64,2,[aR,aB]⟩] 223 (I6 (.tup []) [⟨706,176,64,2,[aB,aR]⟩] n):=T3 aR aB
def gA (k:Nat):Nat:=56+60*k
theorem Wg {dn:List Nat}{j:Nat}(h:(dn++[j]).Nodup)(h2:∀i∈dn++[j],i<2):(dn=[]/\j=0)\/(dn=[]/\j=1)\/(dn=[1]/\j=0)\/(dn=[0]/\j=1):=by
 have hj:=h2 j (by simp);rcases dn with _|⟨a,_|⟨b,r⟩⟩
 ·have:j=0\/j=1:=by omega
  rcases this with rfl|rfl<;>simp
 ·have ha:=h2 a (by simp)
  have hne:a≠j:=λe=>by subst e;simp at h
  have:(a=1/\j=0)\/(a=0/\j=1):=by omega
  rcases this with⟨rfl,rfl⟩|⟨rfl,rfl⟩<;>simp
 ·have ha:=h2 a (by simp)
  have hb:=h2 b (by simp);simp at h;omega
theorem XZ {dn:List Nat}(h:dn.Nodup)(h2:∀i∈dn,i<2)(h0:0∈dn)(h1:1∈dn):dn=[0,1]\/dn=[1,0]:=by
 rcases dn with _|⟨a,_|⟨b,_|⟨c,r⟩⟩⟩
 ·simp at h0
 ·simp at h0 h1;omega
 ·have ha:=h2 a (by simp)
  have hb:=h2 b (by simp);have hab:a≠b:=λe=>by subst e;simp at h
  have:(a=0/\b=1)\/(a=1/\b=0):=by omega
  rcases this with⟨rfl,rfl⟩|⟨rfl,rfl⟩<;>simp
 ·have ha:=h2 a (by simp)
  have hb:=h2 b (by simp);have hc:=h2 c (by simp);simp at h;omega
theorem dU:Aa C0 113 [.mp kL vL] (.tup [.sl false 2 [aB,aR],i64 0]):=by
 refine Ax.walk w1 Sb rfl λF0=>?_
 refine sZ 0 ?_;refine Ca kB ?_;refine sZ 100 ?_;refine Ca kB ?_;refine AO.seq ?_;refine AO.seq ?_;refine Jx (by kernel_rfl) ?_;change Bq _ _ _ _ _ ([0]++(1::[])) _ _;refine Iw w1 200 [0] _ ?_;refine Ca kB ?_;refine hP 201 (Gz (w1.xt 97 _ rfl)).1 rfl rfl rfl rfl (iH F0) (λF1 o1 hto hO hI=>Bq.nil ?_);refine BC ?_;refine AO.block ?_;refine Pe (α:=List Nat×Obj) (λp=>⟨[(8,.optr 201 4 0 0 0),(4,FU 706 (gA p.1.length) 2 (p.1.map aL))],FV 706 (gA p.1.length) 64 2 (p.1.map aL),100+60*p.1.length⟩) (λp=>2-p.1.length)
  (λp F=>Cz C0 F0 F [⟨201,4,p.2⟩]/\Ji F p.2 kL vL p.1) ([],o1) ⟨hO,hI⟩ Al ?_
 clear hO hI hto;rintro⟨dn,o⟩ F ⟨hO,hI⟩;dsimp only at hO hI⊢;refine AO.seq ?_;refine Jx (by kernel_rfl) ?_;change Bq _ _ _ _ _ [0,1] _ _;refine hD rfl rfl rfl rfl hO hI (λhall=>?_) (λj kd vd F2 o2 hjn hkd hvd hto hO2 hI2=>?_)
 ·change Bq _ _ _ _ _ ([1]++[]) _ _
  refine Iw w1 300 [1] [] ?_;refine Ca kB ?_;refine Bq.nil ?_;refine BC ?_;refine AO.seq ?_;refine Cy ?_;refine IA ?_;have hfin:dn=[0,1]\/dn=[1,0]:=by
   obtain⟨bm,es,clock,since,c0,seen,-,-,-,z4,-,-,-,-,-,-,-,-,z8,z9⟩:=hI;have e:kL.length=2:=rfl;exact XZ z8 (λi hi=>by have:=z9 i hi;omega) (hall 0 (by rw[e];omega)) (hall 1 (by rw[e];omega))
  rcases hfin with rfl|rfl
  ·change AO _ _ _ _ _ ⟨[(10,Ai false),(9,.tup [Ai false]),(8,.optr 201 4 0 0 0),(4,.osl 706 176 2 0 2)],[⟨706,176,64,2,[aB,aR]⟩],222⟩ _
   refine AJ AU kB AA AA AA AA AA AA ?_;obtain⟨nS,cS⟩:=fL;refine CE.own _ cS ?_;rintro d H' n' ⟨rfl,rfl,rfl⟩;refine AJ AU kB AA AA AA AA AA AA ?_;exact⟨_,B7 (Fk 706 176 64 2 [aB,aR] []) (.refl _),AB.out,rfl⟩
  ·change AO _ _ _ _ _ ⟨[(10,Ai false),(9,.tup [Ai false]),(8,.optr 201 4 0 0 0),(4,.osl 706 176 2 0 2)],[⟨706,176,64,2,[aR,aB]⟩],222⟩ _
   refine AJ AU kB AA AA AA AA AA AA ?_;obtain⟨nS,cS⟩:=fM;refine CE.own _ cS ?_;rintro d H' n' ⟨rfl,rfl,rfl⟩;refine AJ AU kB AA AA AA AA AA AA ?_;exact⟨_,B7 (Fk 706 176 64 2 [aB,aR] []) (.refl _),AB.out,rfl⟩
 change Bq _ _ _ _ _ ([1]++[]) _ _;refine Iw w1 300 [1] [] ?_;refine Ca kB ?_;refine Bq.nil ?_;refine BC ?_;refine AO.seq ?_;refine Cy ?_;refine Fh ?_;obtain⟨hnd,hlt⟩:(dn++[j]).Nodup/\∀i∈dn++[j],i<2:=by
  obtain⟨bm,es,clock,since,c0,seen,-,-,-,z4,-,-,-,-,-,-,-,-,z8,z9⟩:=hI2;exact⟨z8,λi hi=>by have:=z9 i hi;have e:kL.length=2:=rfl;omega⟩
 have hc:=Wg hnd hlt;have cL6:=is;have cL3:=iq;have cT6:=jC;have cT3:=jB;rcases hc with⟨rfl,rfl⟩|⟨rfl,rfl⟩|⟨rfl,rfl⟩|⟨rfl,rfl⟩
 ·cases hkd
  cases hvd;change AO _ _ _ _ _ ⟨[(10,Ai true),(9,.tup [Ai true,By,Lb]),(8,.optr 201 4 0 0 0),(4,BA)],[],102⟩ _;refine AO.block ?_;refine AO.seq ?_;refine Jx (by kernel_rfl) ?_;change Bq _ _ _ _ _ (0::([1,2,3,4,5]++[])) _ _;refine NB (xo:=⟨201,4,o2⟩) rfl rfl rfl rfl hO2 DF hI2 rfl rfl ?_;refine Iw w1 400 [1,2,3,4,5] [] ?_;refine Ca kB ?_;refine Bq.nil ?_;refine BC ?_;refine AJ AU kB cL6 cT6 AA AA AA AA ?_;refine⟨([0],o2),⟨hO2,hI2⟩,(by show 2-1<2;decide),?_⟩;show Wk _ ⟨[(8,.optr 201 4 0 0 0),(4,.osl 706 116 2 0 1)],[⟨706,116,64,2,[.agg [By,str (sb [54])]]⟩],160⟩;exact Al
 ·cases hkd
  cases hvd;change AO _ _ _ _ _ ⟨[(10,Ai true),(9,.tup [Ai true,Bm,La]),(8,.optr 201 4 0 0 0),(4,BA)],[],102⟩ _;refine AO.block ?_;refine AO.seq ?_;refine Jx (by kernel_rfl) ?_;change Bq _ _ _ _ _ (0::([1,2,3,4,5]++[])) _ _;refine NB (xo:=⟨201,4,o2⟩) rfl rfl rfl rfl hO2 DF hI2 rfl rfl ?_;refine Iw w1 400 [1,2,3,4,5] [] ?_;refine Ca kB ?_;refine Bq.nil ?_;refine BC ?_;refine AJ AU kB cL3 cT3 AA AA AA AA ?_;refine⟨([1],o2),⟨hO2,hI2⟩,(by show 2-1<2;decide),?_⟩;show Wk _ ⟨[(8,.optr 201 4 0 0 0),(4,.osl 706 116 2 0 1)],[⟨706,116,64,2,[.agg [Bm,str (sb [51])]]⟩],160⟩;exact Al
 ·cases hkd
  cases hvd;change AO _ _ _ _ _ ⟨[(10,Ai true),(9,.tup [Ai true,By,Lb]),(8,.optr 201 4 0 0 0),(4,.osl 706 116 2 0 1)],[⟨706,116,64,2,[.agg [Bm,str (sb [51])]]⟩],162⟩ _;refine AO.block ?_;refine AO.seq ?_;refine Jx (by kernel_rfl) ?_;change Bq _ _ _ _ _ (0::([1,2,3,4,5]++[])) _ _;refine NB (xo:=⟨201,4,o2⟩) rfl rfl rfl rfl hO2 DF hI2 rfl rfl ?_;refine Iw w1 400 [1,2,3,4,5] [] ?_;refine Ca kB ?_;refine Bq.nil ?_;refine BC ?_;refine AJ AU kB cL6 cT6 AA AA AA AA ?_;refine⟨([1,0],o2),⟨hO2,hI2⟩,(by show 2-2<1;decide),?_⟩;show Wk _ ⟨[(8,.optr 201 4 0 0 0),(4,.osl 706 176 2 0 2)],[⟨706,176,64,2,[.agg [Bm,str (sb [51])],.agg [By,str (sb [54])]]⟩],220⟩;exact Al
 ·cases hkd
  cases hvd;change AO _ _ _ _ _ ⟨[(10,Ai true),(9,.tup [Ai true,Bm,La]),(8,.optr 201 4 0 0 0),(4,.osl 706 116 2 0 1)],[⟨706,116,64,2,[.agg [By,str (sb [54])]]⟩],162⟩ _;refine AO.block ?_;refine AO.seq ?_;refine Jx (by kernel_rfl) ?_;change Bq _ _ _ _ _ (0::([1,2,3,4,5]++[])) _ _;refine NB (xo:=⟨201,4,o2⟩) rfl rfl rfl rfl hO2 DF hI2 rfl rfl ?_;refine Iw w1 400 [1,2,3,4,5] [] ?_;refine Ca kB ?_;refine Bq.nil ?_;refine BC ?_;refine AJ AU kB cL3 cT3 AA AA AA AA ?_;refine⟨([0,1],o2),⟨hO2,hI2⟩,(by show 2-2<1;decide),?_⟩;show Wk _ ⟨[(8,.optr 201 4 0 0 0),(4,.osl 706 176 2 0 2)],[⟨706,176,64,2,[.agg [By,str (sb [54])],.agg [Bm,str (sb [51])]]⟩],220⟩;exact Al
end Go.Ide
