/- The layer of own lemmas and contracts, part 13. -/
import Derived.Test.YtaoojbnciofmcaaGreatDoorAA12
import Derived.Test.YtaoojbnciofmcaaGreatDoorAA11
import Derived.Test.YtaoojbnciofmcaaGreatDoorAA10
set_option linter.unusedVariables false
set_option linter.unusedSimpArgs false
namespace Go.Ide
open Go.Proofs Go.RowKit Go.Sort
set_option maxRecDepth 20000
set_option maxHeartbeats 4000000
def lA:List AE:=[C3 10,DX 6]
def lB:List AE:=[C3 5]
def cA:D:=Am false lA
def cB:D:=Am false lB
def Dw:D:=.agg [str (sb NG),i64 4,i64 30,i64 12,.sl false 1 [cA,cB]]
theorem zz:AK C0 19 [] Dw:=by
 have h:=xY.loosen 10
 rwa [show loosen 10 ip=Dw from rfl]at h
theorem Zr {x:AE}(h:decide (x.grain.length<=1000)&&decide (x.shs.length<=1000)&&x.shs.all (λs=>decide (s.lot.length<=1000)&&decide (s.part.length<=40))=true):x.lite:=by
 simp only[Ba,G4,CY]at h;obtain⟨⟨h1,h2⟩,h3⟩:=h;exact⟨⟨by omega,by omega,λs hs=>⟨by have:=(h3 s hs).1;omega,by have:=(h3 s hs).2;omega⟩⟩,h3⟩
theorem Ry:∀x∈lA,x.lite:=by
 intro x hx;simp only[lA,Az,Dk,or_false]at hx;rcases hx with rfl|rfl<;>exact Zr rfl
theorem vP:∀x∈lB,x.lite:=by
 intro x hx;simp only[lB,Az,Dk,or_false]at hx;subst hx;exact Zr rfl
theorem SC:CG lA=0:=by kernel_rfl
theorem xa:CG lB=0:=by kernel_rfl
theorem qi:DS lA=[(tA,13),(tB,3)]:=by kernel_rfl
theorem V7:F3 (CJ lA)=[(tA,13),(tB,3)]:=by rw[<-UI];exact qi
theorem aa:(CJ lA).any (λp=>DF p.2)=false:=by kernel_rfl
theorem qj:No lA=0:=by
 unfold No II;rw[AG (by rw[SC];exact λh=>h rfl),aa];rfl
theorem ql:Np lA=[(tA,13),(tB,3)]:=by
 unfold Np Jd;rw[AG (by rw[SC];exact λh=>h rfl),aa,V7];rfl
def TQ:List UInt8:=[49,51]
def t3:List UInt8:=[51]
def Gu:List UInt8:=[49,51,47,49,54]
def Gz:List UInt8:=[51,47,49,54]
def Lb (m:Int):AE:=⟨FU,m,[⟨tA,Gu⟩,⟨tB,Gz⟩]⟩
theorem yi:Bu (tA,13)=FL (tA,TQ):=by unfold Bu FL;rw[show An 13=TQ by kernel_rfl]
theorem yj:Bu (tB,3)=FL (tB,t3):=by unfold Bu FL;rw[show An 3=t3 by kernel_rfl]
theorem r8:AK C0 20 [cA] (.tup [.sl false 2 [FL (tA,TQ),FL (tB,t3)],i64 0]):=by
 have h:=zC false lA (by decide) Ry;rw[qj,ql,Cs,Cs,List.map_nil,yi,yj]at h;exact h
theorem Sa:lA.map (EG FU)=lA:=rfl
theorem x8:Ht lA=0:=by kernel_rfl
theorem yn:[((tA,13):List UInt8×Rat),(tB,3)].any (λp=>DF (p.2/(As lA:Rat)))=false:=by kernel_rfl
theorem yo:(CJ lA).length=2:=by kernel_rfl
theorem eU:HK lA=0:=by
 unfold HK;rw[AG (by rw[x8];exact λh=>h rfl),AG (by rw[yo];decide),V7,yn];rfl
theorem Ve:FK lA=[⟨tA,Gu⟩,⟨tB,Gz⟩]:=by
 unfold FK;rw[V7];kernel_rfl
theorem SW:As lA=16:=by kernel_rfl
theorem x9:Lc lA=Lb 16:=by rw[Zx eU,Ve,SW];rfl
theorem aO:Ho lA FU=0:=by kernel_rfl
theorem aP:Ix lA FU=0:=by unfold Ix;rw[aO,Sa,eU];rfl
theorem qm:MS lA FU=Lb 16:=by unfold MS;rw[aO,Sa,x9];rfl
theorem rh:AK C0 21 [cA,str (sb FU)] (.tup [(Lb 16).D,i64 0]):=by
 have h:=gt false lA FU (by decide) Ry (by decide);rw[aP,qm]at h;exact h
theorem x7:GW lA 15=⟨FU,1,[⟨tA,Gu⟩,⟨tB,Gz⟩]⟩:=by
 unfold GW;rw[SW,show(Ca lA 0).grain=FU from rfl,Sa,Ve];rfl
theorem eQ:Hn (GW lA 15)=[(tA,mkRat 13 16),(tB,mkRat 3 16)]:=by rw[x7];kernel_rfl
theorem eO:[((tA,mkRat 13 16):List UInt8×Rat),(tB,mkRat 3 16)].any (λp=>DF p.2)=false:=by kernel_rfl
theorem wR:II (CJ [GW lA 15])=0:=by
 unfold II;rw[(U4 lA 15).1,eQ,eO];rfl
theorem xb:Cm lA=true:=by kernel_rfl
theorem Vf:Jj lA 15=0:=by
 unfold Jj;rw[SC,AG (λh=>h rfl),AG (by decide),SW,AG (by decide),xb,AG (λh=>by cases h),show(Ca lA 0).grain=FU from rfl,aP,AG (λh=>h rfl),AG (by decide),wR]
theorem xd:Su lA 15=Lb 15:=by
 unfold Su;rw[Vf,AG (λh=>h rfl),show(Ca lA 0).grain=FU from rfl,Sa,Ve];rfl
theorem xc:Ss lA 15=[(tA,mkRat 13 16),(tB,mkRat 3 16)]:=by
 unfold Ss Jd;rw[Vf,AG (λh=>h rfl),SW,AG (by decide),(U4 lA 15).2,(U4 lA 15).1,eQ,eO];rfl
theorem yk:Bu (tA,mkRat 13 16)=FL (tA,Gu):=by unfold Bu FL;rw[show An (tA,mkRat 13 16).2=Gu by kernel_rfl]
theorem ym:Bu (tB,mkRat 3 16)=FL (tB,Gz):=by unfold Bu FL;rw[show An (tB,mkRat 3 16).2=Gz by kernel_rfl]
theorem nj:AK C0 26 [cA,i64 15] (.tup [(Lb 15).D,.sl false 2 [FL (tA,Gu),FL (tB,Gz)],i64 0]):=by
 have h:=qA false lA 15 (by decide) Ry;rw[Vf,xd,xc,Cs,Cs,List.map_nil,yk,ym]at h;exact h
theorem re:AK C0 54 [cA] (i64 0):=by
 have h:=Nv false lA (by decide) λx hx=>(Ry x hx).1
 rw[SC]at h;exact h
theorem rf:AK C0 54 [cB] (i64 0):=by
 have h:=Nv false lB (by decide) λx hx=>(vP x hx).1
 rw[xa]at h;exact h
theorem rc:AK C0 34 [str (sb tB)] (Ai true):=by
 have h:=MF tB;rw[show B4 tB=true by kernel_rfl]at h;exact h
theorem zA (x:AE)(h:x.shs.length<=1000000)(m:Int):AK C0 74 [x.D,i64 m] (x.w m).D:=dA x m h
theorem Vc {l:List AE}(h:l.all (λx=>decide (x.shs.length<=1000000))=true):∀x∈l,∀m,AK C0 74 [x.D,i64 m] (x.w m).D:=λx hx m=>zA x (DJ (CY.1 h x hx)) m
theorem U5 {l:List AE}(h:l.all (λx=>decide (0<=x.mass)&&decide (x.mass<=1000000000))=true):∀x∈l,0<=x.mass/\x.mass<=1000000000:=λx hx=>by
 have:=CY.1 h x hx
 simpa using this
theorem n_1:AK C0 64 [Am false [DX 2]] (Am false [DX 2]):=CV Dv 400 40
theorem n_2:AK C0 64 [Am false [C3 1]] (Am false [C3 1]):=CV Dv 400 40
theorem n_3:AK C0 64 [Am false [C3 9,DX 4]] (Am false [C3 9,DX 4]):=CV Dv 400 40
theorem eZ:AK C0 59 [cA] (i64 16):=CV Dv 400 40
theorem ou:AK C0 113 [cA,i64 2,Ai true] (Am false [DX 2]):=aX false true lA 2 (by decide) (by decide) (U5 rfl) (Vc rfl) _ n_1
theorem ov:AK C0 113 [cA,i64 1,Ai false] (Am false [C3 1]):=aX false false lA 1 (by decide) (by decide) (U5 rfl) (Vc rfl) _ n_2
theorem sP:AK C0 62 [cA,i64 1,i64 2] (Am false [C3 9,DX 4]):=jv false lA 1 2 (by decide) (by decide) (by decide) 16 (by decide) (U5 rfl) eZ (Vc rfl) _ n_3
theorem xS:AK C0 86 [cA,str (sb tB)] (.sl false 2 [C8 (11,16)]):=by
 have h:=TW false lA tB (by decide) λx hx=>by
  simp only[lA,Az,Dk,or_false]at hx;rcases hx with rfl|rfl<;>exact⟨by decide,by decide,by decide⟩
 rw[show CX tB lA 0=[(11,16)] by kernel_rfl]at h;exact h
theorem sS:AK C0 65 [.sl true 1 [Am false [DX 2],Am false [C3 1]]] (Am false [DX 2,C3 1]):=lS [[DX 2],[C3 1]] (by simp) (by decide) (by decide)
def Pv:List (Nat×List D×D):=[(54,[cA],i64 0),(54,[cB],i64 0),(34,[str (sb tB)],Ai true),
 (113,[cA,i64 2,Ai true],Am false [DX 2]),(113,[cA,i64 1,Ai false],Am false [C3 1]),(62,[cA,i64 1,i64 2],Am false [C3 9,DX 4]),
 (86,[cA,str (sb tB)],.sl false 2 [C8 (11,16)]),(65,[.sl true 1 [Am false [DX 2],Am false [C3 1]]],Am false [DX 2,C3 1])]
instance zc:AA cA:=by unfold cA;exact AI
instance zd:AA cB:=by unfold cB;exact AI
instance q_cA:AO cA:=by unfold cA;exact AI
instance q_cB:AO cB:=by unfold cB;exact AI
theorem aW:∀e∈Pv,AK C0 e.1 e.2.1 e.2.2/\Ah e.2.1:=by
 intro e he;simp only[Pv,Az,Dk,or_false]at he;rcases he with rfl|rfl|rfl|rfl|rfl|rfl|rfl|rfl
 ·exact⟨re,AI⟩
 ·exact⟨rf,AI⟩
 ·exact⟨rc,AI⟩
 ·exact⟨ou,AI⟩
 ·exact⟨ov,AI⟩
 ·exact⟨sP,AI⟩
 ·exact⟨xS,AI⟩
 ·exact⟨sS,AI⟩
noncomputable def X5:EV:=⟨QO,Mx.get,OG.get,λ_=>false,Nk Pv,TH,Ld⟩
theorem Eh:FX C0 X5:=⟨WL,Sw,Kh,UT Pv aW,by kernel_rfl,eF,RR⟩
def iq:D:=.agg [str (sb NG),i64 4,i64 30,i64 12,.sl false 1 [Am false [C3 9,DX 4],Am false [C3 5]]]
theorem r6:AK C0 22 [Dw,i64 0,i64 3] (.tup [iq,Am false [DX 2,C3 1],i64 0]):=CV Eh 400 40
abbrev Vt (ls:List Int)(i:Int):D:=.clo (.func 114) [] [.pptr (.sl false 1 (CW ls)),.pptr (i64 i),.pptr Dw]
abbrev wB (ls:List Int)(i:Int):D:=.clo (.func 72) [] [.pptr Dw,.pptr (.sl false 1 (CW ls)),.pptr (i64 i)]
theorem mG:AK C0 71 [.sl false 1 (CW [16,5]),i64 ((0:Nat):Int),Vt [16,5] ((0:Nat):Int)] (.sl false 1 [i64 23]):=CV Eh 400 40
theorem mH:AK C0 71 [.sl false 1 (CW [16,5]),i64 ((1:Nat):Int),Vt [16,5] ((1:Nat):Int)] (.sl false 1 [i64 1]):=CV Eh 400 40
theorem mI:AK C0 71 [.sl false 1 (CW [0,5]),i64 ((1:Nat):Int),Vt [0,5] ((1:Nat):Int)] (.sl false 1 [i64 17]):=CV Eh 400 40
theorem mJ:AK C0 71 [.sl false 1 (CW [16,5]),i64 ((1:Nat):Int),wB [16,5] ((1:Nat):Int)] (.sl false 1 [i64 23]):=CV Eh 400 40
theorem l_1:AK C0 70 [i64 16,.sl false 1 [i64 23]] (i64 16):=CV Eh 400 40
theorem l_2:AK C0 70 [i64 5,.sl false 1 [i64 1]] (i64 1):=CV Eh 400 40
theorem l_3:AK C0 70 [i64 5,.sl false 1 [i64 17]] (i64 5):=CV Eh 400 40
theorem l_4:AK C0 70 [i64 25,.sl false 1 [i64 23]] (i64 23):=CV Eh 400 40
instance d8R:AA Dw:=by unfold Dw;exact AI
instance d8U:AO Dw:=by unfold Dw;exact AI
theorem m_1:AK C0 69 [Dw,.sl false 1 (CW [16,5]),i64 ((0:Nat):Int)] (i64 16):=VP Dw ⟨_,_,_,_,_,rfl⟩ false _ 0 16 rfl _ 16 mG l_1
theorem m_2:AK C0 69 [Dw,.sl false 1 (CW [16,5]),i64 ((1:Nat):Int)] (i64 1):=VP Dw ⟨_,_,_,_,_,rfl⟩ false _ 1 5 rfl _ 1 mH l_2
theorem m_3:AK C0 69 [Dw,.sl false 1 (CW [0,5]),i64 ((1:Nat):Int)] (i64 5):=VP Dw ⟨_,_,_,_,_,rfl⟩ false _ 1 5 rfl _ 5 mI l_3
theorem xR:AK C0 68 [Dw] (.sl false 1 (CW [16,5])):=CV Eh 400 40
theorem sQ:AK C0 58 [Dw,.sl true 1 [i64 1]] (i64 0):=CV Eh 400 40
theorem xQ:AK C0 32 [Dw] (i64 0):=CV Eh 400 40
theorem ot:AK C0 24 [Dw,i64 1] (.tup [i64 23,i64 0]):=rQ Dw _ _ _ _ 30 rfl _ 1 5 rfl _ 23 sQ xR mJ 25 rfl l_4
def WM:List (Nat×List D×D):=(69,[Dw,.sl false 1 (CW [16,5]),i64 1],i64 1)::Pv
theorem rV:∀e∈WM,AK C0 e.1 e.2.1 e.2.2/\Ah e.2.1:=by
 intro e he;rcases Az.1 he with rfl|he
 ·exact⟨m_2,AI⟩
 ·exact aW e he
noncomputable def jF:EV:=⟨QO,Mx.get,OG.get,λ_=>false,Nk WM,TH,Ld⟩
theorem xN:FX C0 jF:=⟨WL,Sw,Kh,UT WM rV,by kernel_rfl,eF,RR⟩
theorem r9:AK C0 23 [Dw,i64 1] (.tup [i64 1,i64 0]):=CV xN 400 40
theorem oq:AK C0 7 [Dw,i64 0,str (sb tB)] (.tup [i64 2,i64 0]):=CV Eh 400 40
theorem r7:AK C0 8 [Dw,i64 0,str (sb tB)] (.tup [i64 8,i64 0]):=CV Eh 400 40
def iv (l:List Int):Int:=if l=[16,5]then 16 else 5
theorem oo:AK C0 25 [Dw] (.tup [.sl false 2 [Kl (0,16),Kl (1,5)],i64 0]):=by
 have h:=pN (str (sb NG)) (i64 4) (i64 30) (i64 12) false [cA,cB] [16,5] rfl (by simp) (by decide) (λi c m h1 h2=>by
  match i with
  | 0=>cases h1;cases h2;exact eZ
  | 1=>cases h1;cases h2;exact CV Eh 400 40
  |i+2=>cases h1) (λc hc=>by
  simp only[Az,Dk,or_false]at hc;rcases hc with rfl|rfl
  ·exact⟨_,_,rfl,zc⟩
  ·exact⟨_,_,rfl,zd⟩) xQ iv (λl=>l=[16,5]\/l=[0,5]\/l=[0,0]) (.inl rfl) (λl hl hn=>by
  rcases hl with rfl|rfl|rfl
  ·exact⟨m_1,rfl,.inr (.inl rfl)⟩
  ·exact⟨m_3,rfl,.inr (.inr rfl)⟩
  ·exact Af rfl hn)
 rw[show Lm iv 257 [16,5] []=([(0,16),(1,5)],0) by kernel_rfl]at h;exact h
abbrev al:Dr:=[(16,[0,1,2,3,4,5,6,7,8,9,10,11,12,13,14,15,16,17,18],[19,20,21])]
open Go.Proofs Go.RowKit Go.Sort
set_option maxRecDepth 20000
set_option maxHeartbeats 8000000
def d9o:D:=.sl true 2 [.agg [str (sb tA),str (sb Gu)],.agg [str (sb tB),str (sb Gz)]]
theorem zZ (m:Int):AK C0 27 [.sl false 2 [.agg [str (sb tA),str (sb Gu)],.agg [str (sb tB),str (sb Gz)]],d9o] (Ai true):=CV Eh 400 40
theorem vq:AK C0 28 [.sl false 2 [FL (tA,Gu),FL (tB,Gz)],.sl true 2 [FL (tA,Gu),FL (tB,Gz)]] (Ai true):=CV Eh 400 40
theorem zT:AK C0 30 [i64 2,Ai true] (Fm (DX 2)):=CV Eh 400 40
theorem zU:AK C0 30 [i64 1,Ai false] (Fm (C3 1)):=CV Eh 400 40
theorem zV:AK C0 30 [i64 9,Ai false] (Fm (C3 9)):=CV Eh 400 40
theorem zW:AK C0 30 [i64 4,Ai true] (Fm (DX 4)):=CV Eh 400 40
theorem zX:AK C0 29 [Am false [DX 2,C3 1],.sl true 3 [Fm (DX 2),Fm (C3 1)]] (Ai true):=CV Eh 400 40
theorem zY:AK C0 29 [Am false [C3 9,DX 4],.sl true 3 [Fm (C3 9),Fm (DX 4)]] (Ai true):=CV Eh 400 40
theorem sK:AK C0 5 [] (Ai true):=by
 refine AZ.walk w1 iK rfl λF=>?_
 have cE:=zz;have cL:=r8;have cP:AK C0 21 [cA,.prim (.string ⟨#[119,104,101,97,116]⟩)] (.tup [(Lb 16).D,i64 0]):=rh;have cD:=r6;have cM:=r9;have cS:=ot;have cF:AK C0 7 [Dw,i64 0,.prim (.string ⟨#[98]⟩)] (.tup [i64 2,i64 0]):=oq;have cLa:AK C0 8 [Dw,i64 0,.prim (.string ⟨#[98]⟩)] (.tup [i64 8,i64 0]):=r7;have cEm:=oo;have cSh:=nj;have pA:AA cA:=AI;have pB:AA cB:=AI;have pX:AA Dw:=AI;unfold Dw at cE cD cM cS cF cLa cEm pX;have hA:∃T,cA=.sl false 3 T:=⟨_,rfl⟩
 have hB:∃T,cB=.sl false 3 T:=⟨_,rfl⟩
 obtain⟨TA,hA⟩:=hA;obtain⟨TB,hB⟩:=hB;rw[hA,hB]at cE cD cM cS cF cLa cEm pX;rw[hA]at cL cP cSh pA;rw[hB]at pB;have hm:([.sl false 3 TA,.sl false 3 TB]:List D)[0]?=some (.sl false 3 TA):=rfl;have dP:(Lb 16).D=.agg [str (sb FU),i64 16,.sl false 2 [.agg [str (sb tA),str (sb Gu)],.agg [str (sb tB),str (sb Gz)]]]:=rfl;have dP2:(Lb 15).D=.agg [str (sb FU),i64 15,.sl false 2 [.agg [str (sb tA),str (sb Gu)],.agg [str (sb tB),str (sb Gz)]]]:=rfl;rw[dP]at cP;rw[dP2]at cSh;unfold iq at cD;refine AF al kB cE hm cL cP cD cM ?_;refine cI cS ?_;refine sR 700 ?_;refine cI cF ?_;refine sR 800 ?_;refine cI cLa ?_;refine sR 900 ?_;refine cI cEm ?_;refine sR 1000 ?_;refine Bw kT hm ?_;refine AD kB ?_;refine cI cSh ?_;have z0:IntKind.i64.wrap (0+0)=0:=rfl;have n0:((0:Int) != 0)=false:=rfl;have n1:((1:Int) != 1)=false:=rfl;have n23:((23:Int) != 23)=false:=rfl;have n2:((2:Int) != 2)=false:=rfl;have n2':(((2:Nat):Int) != 2)=false:=rfl;have s0:([.agg [i64 0,i64 16],.agg [i64 1,i64 5]]:List D)[0]?=some (.agg [i64 0,i64 16]):=rfl;have s1:([.agg [i64 0,i64 16],.agg [i64 1,i64 5]]:List D)[1]?=some (.agg [i64 1,i64 5]):=rfl;have n8:((8:Int) != 8)=false:=rfl;obtain⟨C1,hC1⟩:∃d,Am false [C3 9,DX 4]=d:=⟨_,rfl⟩
 obtain⟨O1,hO1⟩:∃d,Am false [DX 2,C3 1]=d:=⟨_,rfl⟩
 rw[hC1,hO1];refine AC.weak ⟨[(2,.sl false 2 [.agg [str (sb tA),str (sb TQ)],.agg [str (sb tB),str (sb t3)]]),(3,i64 0),(4,.optr 308 22 3 0 0),(5,i64 0),(6,.optr 406 31 5 0 0),(7,O1),(8,i64 0),(9,i64 1),(10,i64 0),(11,i64 23),(12,i64 0),(13,i64 2),(14,i64 0),(15,i64 8),(16,i64 0),(17,.sl false 2 [.agg [i64 0,i64 16],.agg [i64 1,i64 5]]),(18,i64 0),(19,.optr 1009 79 3 0 0),(20,.sl false 2 [.agg [str (sb tA),str (sb Gu)],.agg [str (sb tB),str (sb Gz)]]),(21,i64 0)],
  [⟨1009,79,52,3,[.agg [str (sb FU),i64 15,.sl false 2 [.agg [str (sb tA),str (sb Gu)],.agg [str (sb tB),str (sb Gz)]]]]⟩,⟨406,31,24,5,[.agg [str (sb NG),i64 4,i64 30,i64 12,.sl false 1 [C1,Am false [C3 5]]]]⟩,⟨308,22,52,3,[.agg [str (sb FU),i64 16,.sl false 2 [.agg [str (sb tA),str (sb Gu)],.agg [str (sb tB),str (sb Gz)]]]]⟩],_⟩ AL ?_
 refine AC.seq ?_;refine AC.seq ?_;refine e0f w1 1100 [([0,1,2,3,4,5,6,7,8,9,10,11,12,13,14,15,16,17,18,19,20,21,22,23,24,25,26,27,28,29,30,31,32,33,34,35,36,37,38,39,40,41,42,43],44),([45,46,47,48,49,50],51)] [52] rfl (by kernel_rfl) ?_;change Cz _ _ _ _ _ _ _ _;refine AD (Ci z0 n0 n1 n23 n2 n2' (Ar n8 kT kF)) ?_;refine AD (Ci z0 n0 n1 n23 n2 n2' (Ar n8 kT kF)) ?_;refine AD (Ci z0 n0 n1 n23 n2 n2' (Ar n8 kT kF)) ?_;refine AD (Ci z0 n0 n1 n23 n2 n2' (Ar n8 kT kF)) ?_;refine AD (Ci z0 n0 n1 n23 n2 n2' (Ar n8 kT kF)) ?_;refine AD (Ar n2' kT kF) ?_;refine Bw kF s0 ?_;refine AD (Ar n2' kT kF) ?_;refine AD (Ar n2' kT kF) ?_;refine⟨Ai false,λos K' hk=>i7 (a1:=0) (a2:=16) (b1:=0) (b2:=16) rfl rfl aV rfl rfl hk,?_⟩;change Cz _ _ _ _ _ ⟨(124,Ai false)::_,_,_⟩ _ _;refine BJ ?_;refine AD (Ar n2' kT kF) ?_;refine AD (Ar n2' kT kF) ?_;refine Bw kF s1 ?_;refine AD (Ar n2' kT kF) ?_;refine AD (Ar n2' kT kF) ?_;refine⟨Ai false,λos K' hk=>i7 (a1:=1) (a2:=5) (b1:=1) (b2:=5) rfl rfl aV rfl rfl hk,?_⟩;change Cz _ _ _ _ _ ⟨(131,Ai false)::_,_,_⟩ _ _;refine BJ ?_;refine AD (Ar n2' kT kF) ?_;refine AN ?_;refine Aj ?_;refine AC.weak ⟨[(2,.sl false 2 [.agg [.prim (.string ⟨#[97]⟩),.prim (.string ⟨#[49,51]⟩)],.agg [.prim (.string ⟨#[98]⟩),.prim (.string ⟨#[51]⟩)]]),(4,.optr 308 22 3 0 0),(6,.optr 406 31 5 0 0),(7,O1),(19,.optr 1009 79 3 0 0),(20,.sl false 2 [.agg [.prim (.string ⟨#[97]⟩),.prim (.string ⟨#[49,51,47,49,54]⟩)],.agg [.prim (.string ⟨#[98]⟩),.prim (.string ⟨#[51,47,49,54]⟩)]])],
  [⟨1009,79,52,3,[.agg [str (sb FU),i64 15,.sl false 2 [.agg [.prim (.string ⟨#[97]⟩),.prim (.string ⟨#[49,51,47,49,54]⟩)],.agg [.prim (.string ⟨#[98]⟩),.prim (.string ⟨#[51,47,49,54]⟩)]]]]⟩,⟨406,31,24,5,[.agg [str (sb NG),i64 4,i64 30,i64 12,.sl false 1 [C1,Am false [C3 5]]]]⟩,⟨308,22,52,3,[.agg [str (sb FU),i64 16,.sl false 2 [.agg [.prim (.string ⟨#[97]⟩),.prim (.string ⟨#[49,51,47,49,54]⟩)],.agg [.prim (.string ⟨#[98]⟩),.prim (.string ⟨#[51,47,49,54]⟩)]]]]⟩],_⟩ AL ?_
 have h1:AK C0 27 [.sl false 2 [.agg [.prim (.string ⟨#[97]⟩),.prim (.string ⟨#[49,51,47,49,54]⟩)],.agg [.prim (.string ⟨#[98]⟩),.prim (.string ⟨#[51,47,49,54]⟩)]],.sl true 2 [.agg [.prim (.string ⟨#[97]⟩),.prim (.string ⟨#[49,51,47,49,54]⟩)],.agg [.prim (.string ⟨#[98]⟩),.prim (.string ⟨#[51,47,49,54]⟩)]]] (Ai true):=zZ 0;have h2:AK C0 28 [.sl false 2 [.agg [.prim (.string ⟨#[97]⟩),.prim (.string ⟨#[49,51,47,49,54]⟩)],.agg [.prim (.string ⟨#[98]⟩),.prim (.string ⟨#[51,47,49,54]⟩)]],.sl true 2 [.agg [.prim (.string ⟨#[97]⟩),.prim (.string ⟨#[49,51,47,49,54]⟩)],.agg [.prim (.string ⟨#[98]⟩),.prim (.string ⟨#[51,47,49,54]⟩)]]] (Ai true):=vq;have e1:BI ⟨#[97]⟩ ⟨#[97]⟩=true:=Qh _;have e2:BI ⟨#[49,51]⟩ ⟨#[49,51]⟩=true:=Qh _;have e3:BI ⟨#[98]⟩ ⟨#[98]⟩=true:=Qh _;have e4:BI ⟨#[51]⟩ ⟨#[51]⟩=true:=Qh _;have x0:([.agg [.prim (.string ⟨#[97]⟩),.prim (.string ⟨#[49,51]⟩)],.agg [.prim (.string ⟨#[98]⟩),.prim (.string ⟨#[51]⟩)]]:List D)[0]?=some (.agg [.prim (.string ⟨#[97]⟩),.prim (.string ⟨#[49,51]⟩)]):=rfl;have x1:([.agg [.prim (.string ⟨#[97]⟩),.prim (.string ⟨#[49,51]⟩)],.agg [.prim (.string ⟨#[98]⟩),.prim (.string ⟨#[51]⟩)]]:List D)[1]?=some (.agg [.prim (.string ⟨#[98]⟩),.prim (.string ⟨#[51]⟩)]):=rfl;have b1:(!(true&&(true&&true)))=false:=rfl;have n16:((16:Int) != 16)=false:=rfl;have n15:((15:Int) != 15)=false:=rfl;have k1:=zT;have k2:=zU;have k3:=zV;have k4:=zW;have k5:=zX;have k6:=zY;have pA1:Ah [Am false [DX 2,C3 1],.sl true 3 [Fm (DX 2),Fm (C3 1)]]:=⟨λd hd=>by
  simp only[Az,Dk,or_false]at hd;rcases hd with rfl|rfl
  ·exact(AI:AA (Am false [DX 2,C3 1])).out
  ·exact Hk (n:=30) (by kernel_rfl)⟩
 have pA2:Ah [Am false [C3 9,DX 4],.sl true 3 [Fm (C3 9),Fm (DX 4)]]:=⟨λd hd=>by
  simp only[Az,Dk,or_false]at hd;rcases hd with rfl|rfl
  ·exact(AI:AA (Am false [C3 9,DX 4])).out
  ·exact Hk (n:=30) (by kernel_rfl)⟩
 rw[hO1]at k5 pA1;rw[hC1]at k6 pA2;obtain⟨u1,u2,u3,hu⟩:∃a b c,Fm (DX 2)=.agg [a,b,c]:=⟨_,_,_,rfl⟩
 obtain⟨v1,v2,v3,hv⟩:∃a b c,Fm (C3 1)=.agg [a,b,c]:=⟨_,_,_,rfl⟩
 obtain⟨y1,y2,y3,hy⟩:∃a b c,Fm (C3 9)=.agg [a,b,c]:=⟨_,_,_,rfl⟩
 obtain⟨z1,z2,z3,hz⟩:∃a b c,Fm (DX 4)=.agg [a,b,c]:=⟨_,_,_,rfl⟩
 rw[hu]at k1;rw[hv]at k2;rw[hy]at k3;rw[hz]at k4;rw[hu,hv]at k5 pA1;rw[hy,hz]at k6 pA2;obtain⟨C2,hC2⟩:∃d,Am false [C3 5]=d:=⟨_,rfl⟩
 obtain⟨C1L,hC1L⟩:∃T,C1=.sl false 3 T:=⟨_,hC1.symm⟩
 rw[hC2,hC1L];rw[hC1L]at k6 pA2;have q0:([.sl false 3 C1L,C2]:List D)[0]?=some (.sl false 3 C1L):=rfl;have n2e:(((2:Nat):Int)==2)=true:=rfl;refine AF al (Ci b1 n2' n16 n15 e1 e2 (BS e3 e4 kT kF)) x0 x1 h1 h2 AB AB ?_;refine Bb.same _ (k1) AI ?_;refine BO ?_;refine AD (Ar n2e kT kF) ?_;refine Bb.same _ (k2) AI ?_;refine BO ?_;refine AD (Ar n2e kT kF) ?_;refine Bb.same _ k5 pA1 ?_;refine BJ ?_;refine AD (Ar n2e kT kF) ?_;refine AD (Ar n2e kT kF) ?_;refine AD (Ar n2e kT kF) ?_;refine Bw kT q0 ?_;refine AD (Ar n2e kT kF) ?_;refine AD (Ar n2e kT kF) ?_;refine Ms kT ?_;refine Bb.same _ (k3) AI ?_;refine BO ?_;refine Ms kT ?_;refine Bb.same _ (k4) AI ?_;refine BO ?_;refine AD (Ar n2e kT kF) ?_;refine AD (Ar n2e kT kF) ?_;refine AD (Ar n2e kT kF) ?_;refine Ms kT ?_;refine A7.same _ k6 pA2 ?_;refine BJ ?_;refine AD (Ar n2e kT kF) ?_;refine AD (Ar n2e kT kF) ?_;refine Ad ?_;exact AJ rfl AA.out
end Go.Ide
