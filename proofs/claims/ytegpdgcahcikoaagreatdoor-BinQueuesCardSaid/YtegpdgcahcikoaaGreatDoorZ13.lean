/- The layer of own lemmas and contracts, part 13. -/
import Derived.Test.YtegpdgcahcikoaaGreatDoorZ12
set_option linter.unusedVariables false
set_option linter.unusedSimpArgs false
namespace Go.Ide
open Go.Proofs Go.RowKit Go.Sort
set_option maxRecDepth 20000
set_option maxHeartbeats 4000000
def Pb:List (Nat×List D×D):=[(68,[cA],i64 0),(68,[cB],i64 0),(75,[str (sb tB)],As true),
 (105,[cA,i64 2,As true],AY false [DA 2]),(105,[cA,i64 1,As false],AY false [Co 1]),(60,[cA,i64 1,i64 2],AY false [Co 9,DA 4]),
 (126,[cA,str (sb tB)],.sl false 2 [Fs (11,16)]),(63,[.sl true 1 [AY false [DA 2],AY false [Co 1]]],AY false [DA 2,Co 1])]
instance yV:AA cA:=by unfold cA;exact AI
instance yW:AA cB:=by unfold cB;exact AI
instance q_cA:AU cA:=by unfold cA;exact AI
instance q_cB:AU cB:=by unfold cB;exact AI
theorem Zt:∀e∈Pb,AJ C0 e.1 e.2.1 e.2.2/\Al e.2.1:=by
 intro e he;simp only[Pb,BA,Dc,or_false]at he;rcases he with rfl|rfl|rfl|rfl|rfl|rfl|rfl|rfl
 ·exact⟨rm,AI⟩
 ·exact⟨rn,AI⟩
 ·exact⟨rl,AI⟩
 ·exact⟨oY,AI⟩
 ·exact⟨oZ,AI⟩
 ·exact⟨r9,AI⟩
 ·exact⟨xM,AI⟩
 ·exact⟨re,AI⟩
noncomputable def X5:EV:=⟨P0,Mc.get,Nu.get,λ_=>false,NP Pb,Sa,LI⟩
theorem EN:FL C0 X5:=⟨Vq,SH,KQ,Tt Pb Zt,by kernel_rfl,dJ,Qr⟩
def gz:D:=.agg [str (sb Mw),i64 4,i64 30,i64 12,.sl false 1 [AY false [Co 9,DA 4],AY false [Co 5]]]
theorem rf:AJ C0 15 [Df,i64 0,i64 3] (.tup [gz,AY false [DA 2,Co 1],i64 0]):=CH EN 400 40 (by kernel_rfl)
abbrev VW (ls:List Int)(i:Int):D:=.clo (.func 96) [] [.pptr (.sl false 1 (CP ls)),.pptr (i64 i),.pptr Df]
abbrev vj (ls:List Int)(i:Int):D:=.clo (.func 93) [] [.pptr Df,.pptr (.sl false 1 (CP ls)),.pptr (i64 i)]
theorem km:AJ C0 92 [.sl false 1 (CP [16,5]),i64 ((0:Nat):Int),VW [16,5] ((0:Nat):Int)] (.sl false 1 [i64 23]):=CH EN 400 40 (by kernel_rfl)
theorem kn:AJ C0 92 [.sl false 1 (CP [16,5]),i64 ((1:Nat):Int),VW [16,5] ((1:Nat):Int)] (.sl false 1 [i64 1]):=CH EN 400 40 (by kernel_rfl)
theorem ko:AJ C0 92 [.sl false 1 (CP [0,5]),i64 ((1:Nat):Int),VW [0,5] ((1:Nat):Int)] (.sl false 1 [i64 17]):=CH EN 400 40 (by kernel_rfl)
theorem kp:AJ C0 92 [.sl false 1 (CP [16,5]),i64 ((1:Nat):Int),vj [16,5] ((1:Nat):Int)] (.sl false 1 [i64 23]):=CH EN 400 40 (by kernel_rfl)
theorem zt:AJ C0 91 [i64 16,.sl false 1 [i64 23]] (i64 16):=CH EN 400 40 (by kernel_rfl)
theorem zu:AJ C0 91 [i64 5,.sl false 1 [i64 1]] (i64 1):=CH EN 400 40 (by kernel_rfl)
theorem zv:AJ C0 91 [i64 5,.sl false 1 [i64 17]] (i64 5):=CH EN 400 40 (by kernel_rfl)
theorem zw:AJ C0 91 [i64 25,.sl false 1 [i64 23]] (i64 23):=CH EN 400 40 (by kernel_rfl)
instance d8N:AA Df:=by unfold Df;exact AI
instance d8Q:AU Df:=by unfold Df;exact AI
theorem zx:AJ C0 49 [Df,.sl false 1 (CP [16,5]),i64 ((0:Nat):Int)] (i64 16):=U6 Df ⟨_,_,_,_,_,rfl⟩ false _ 0 16 rfl _ 16 km zt
theorem zy:AJ C0 49 [Df,.sl false 1 (CP [16,5]),i64 ((1:Nat):Int)] (i64 1):=U6 Df ⟨_,_,_,_,_,rfl⟩ false _ 1 5 rfl _ 1 kn zu
theorem zz:AJ C0 49 [Df,.sl false 1 (CP [0,5]),i64 ((1:Nat):Int)] (i64 5):=U6 Df ⟨_,_,_,_,_,rfl⟩ false _ 1 5 rfl _ 5 ko zv
theorem xL:AJ C0 48 [Df] (.sl false 1 (CP [16,5])):=CH EN 400 40 (by kernel_rfl)
theorem rc:AJ C0 55 [Df,.sl true 1 [i64 1]] (i64 0):=CH EN 400 40 (by kernel_rfl)
theorem xK:AJ C0 47 [Df] (i64 0):=CH EN 400 40 (by kernel_rfl)
theorem oX:AJ C0 43 [Df,i64 1] (.tup [i64 23,i64 0]):=pV Df _ _ _ _ 30 rfl _ 1 5 rfl _ 23 rc xL kp 25 rfl zw
def Vr:List (Nat×List D×D):=(49,[Df,.sl false 1 (CP [16,5]),i64 1],i64 1)::Pb
theorem pi:∀e∈Vr,AJ C0 e.1 e.2.1 e.2.2/\Al e.2.1:=by
 intro e he;rcases BA.1 he with rfl|he
 ·exact⟨zy,AI⟩
 ·exact Zt e he
noncomputable def iJ:EV:=⟨P0,Mc.get,Nu.get,λ_=>false,NP Vr,Sa,LI⟩
theorem ve:FL C0 iJ:=⟨Vq,SH,KQ,Tt Vr pi,by kernel_rfl,dJ,Qr⟩
theorem rj:AJ C0 16 [Df,i64 1] (.tup [i64 1,i64 0]):=CH ve 400 40 (by kernel_rfl)
theorem oW:AJ C0 30 [Df,i64 0,str (sb tB)] (.tup [i64 2,i64 0]):=CH EN 400 40 (by kernel_rfl)
theorem rh:AJ C0 31 [Df,i64 0,str (sb tB)] (.tup [i64 8,i64 0]):=CH EN 400 40 (by kernel_rfl)
def iB (l:List Int):Int:=if l=[16,5]then 16 else 5
theorem oV:AJ C0 11 [Df] (.tup [.sl false 2 [Gn (0,16),Gn (1,5)],i64 0]):=by
 have h:=og (str (sb Mw)) (i64 4) (i64 30) (i64 12) false [cA,cB] [16,5] rfl (by simp) (by decide) (λi c m h1 h2=>by
  match i with
  | 0=>cases h1;cases h2;exact du
  | 1=>cases h1;cases h2;exact CH EN 400 40 (by kernel_rfl)
  |i+2=>cases h1) (λc hc=>by
  simp only[BA,Dc,or_false]at hc;rcases hc with rfl|rfl
  ·exact⟨_,_,rfl,yV⟩
  ·exact⟨_,_,rfl,yW⟩) xK iB (λl=>l=[16,5]\/l=[0,5]\/l=[0,0]) (.inl rfl) (λl hl hn=>by
  rcases hl with rfl|rfl|rfl
  ·exact⟨zx,rfl,.inr (.inl rfl)⟩
  ·exact⟨zz,rfl,.inr (.inr rfl)⟩
  ·exact Ae rfl hn)
 rw[show LQ iB 257 [16,5] []=([(0,16),(1,5)],0) by kernel_rfl]at h;exact h
abbrev ZA:Dr:=[(16,[0,1,2,3,4,5,6,7,8,9,10,11,12,13,14,15,16,17,18],[19,20,21])]
open Go.Proofs Go.RowKit Go.Sort
set_option maxRecDepth 20000
set_option maxHeartbeats 8000000
def zT:D:=.sl true 2 [.agg [str (sb tA),str (sb GV)],.agg [str (sb tB),str (sb Gb)]]
theorem yR (m:Int):AJ C0 45 [.sl false 2 [.agg [str (sb tA),str (sb GV)],.agg [str (sb tB),str (sb Gb)]],zT] (As true):=CH EN 400 40 (by kernel_rfl)
theorem ud:AJ C0 23 [.sl false 2 [Ek (tA,GV),Ek (tB,Gb)],.sl true 2 [Ek (tA,GV),Ek (tB,Gb)]] (As true):=CH EN 400 40 (by kernel_rfl)
theorem yL:AJ C0 46 [i64 2,As true] (FE (DA 2)):=CH EN 400 40 (by kernel_rfl)
theorem yM:AJ C0 46 [i64 1,As false] (FE (Co 1)):=CH EN 400 40 (by kernel_rfl)
theorem yN:AJ C0 46 [i64 9,As false] (FE (Co 9)):=CH EN 400 40 (by kernel_rfl)
theorem yO:AJ C0 46 [i64 4,As true] (FE (DA 4)):=CH EN 400 40 (by kernel_rfl)
theorem yP:AJ C0 20 [AY false [DA 2,Co 1],.sl true 3 [FE (DA 2),FE (Co 1)]] (As true):=CH EN 400 40 (by kernel_rfl)
theorem yQ:AJ C0 20 [AY false [Co 9,DA 4],.sl true 3 [FE (Co 9),FE (DA 4)]] (As true):=CH EN 400 40 (by kernel_rfl)
theorem qX:AJ C0 10 [] (As true):=by
 refine Aj.walk w1 dq rfl λF=>?_
 have cE:=yp;have cL:=ri;have cP:AJ C0 42 [cA,.prim (.string ⟨#[119,104,101,97,116]⟩)] (.tup [(LF 16).D,i64 0]):=ro;have cD:=rf;have cM:=rj;have cS:=oX;have cF:AJ C0 30 [Df,i64 0,.prim (.string ⟨#[98]⟩)] (.tup [i64 2,i64 0]):=oW;have cLa:AJ C0 31 [Df,i64 0,.prim (.string ⟨#[98]⟩)] (.tup [i64 8,i64 0]):=rh;have cEm:=oV;have cSh:=mb;have pA:AA cA:=AI;have pB:AA cB:=AI;have pX:AA Df:=AI;unfold Df at cE cD cM cS cF cLa cEm pX;have hA:∃T,cA=.sl false 3 T:=⟨_,rfl⟩
 have hB:∃T,cB=.sl false 3 T:=⟨_,rfl⟩
 obtain⟨TA,hA⟩:=hA;obtain⟨TB,hB⟩:=hB;rw[hA,hB]at cE cD cM cS cF cLa cEm pX;rw[hA]at cL cP cSh pA;rw[hB]at pB;have hm:([.sl false 3 TA,.sl false 3 TB]:List D)[0]?=some (.sl false 3 TA):=rfl;have dP:(LF 16).D=.agg [str (sb Ex),i64 16,.sl false 2 [.agg [str (sb tA),str (sb GV)],.agg [str (sb tB),str (sb Gb)]]]:=rfl;have dP2:(LF 15).D=.agg [str (sb Ex),i64 15,.sl false 2 [.agg [str (sb tA),str (sb GV)],.agg [str (sb tB),str (sb Gb)]]]:=rfl;rw[dP]at cP;rw[dP2]at cSh;unfold gz at cD;refine AG ZA kB cE hm cL cP cD cM ?_;refine cI cS ?_;refine sR 700 ?_;refine cI cF ?_;refine sR 800 ?_;refine cI cLa ?_;refine sR 900 ?_;refine cI cEm ?_;refine sR 1000 ?_;refine Bs kT hm ?_;refine AE kB ?_;refine cI cSh ?_;have z0:IntKind.i64.wrap (0+0)=0:=rfl;have n0:((0:Int) != 0)=false:=rfl;have n1:((1:Int) != 1)=false:=rfl;have n23:((23:Int) != 23)=false:=rfl;have n2:((2:Int) != 2)=false:=rfl;have n2':(((2:Nat):Int) != 2)=false:=rfl;have s0:([.agg [i64 0,i64 16],.agg [i64 1,i64 5]]:List D)[0]?=some (.agg [i64 0,i64 16]):=rfl;have s1:([.agg [i64 0,i64 16],.agg [i64 1,i64 5]]:List D)[1]?=some (.agg [i64 1,i64 5]):=rfl;have n8:((8:Int) != 8)=false:=rfl;obtain⟨C1,hC1⟩:∃d,AY false [Co 9,DA 4]=d:=⟨_,rfl⟩
 obtain⟨O1,hO1⟩:∃d,AY false [DA 2,Co 1]=d:=⟨_,rfl⟩
 rw[hC1,hO1];refine AC.weak ⟨[(2,.sl false 2 [.agg [str (sb tA),str (sb Sf)],.agg [str (sb tB),str (sb t3)]]),(3,i64 0),(4,.optr 308 22 3 0 0),(5,i64 0),(6,.optr 406 31 5 0 0),(7,O1),(8,i64 0),(9,i64 1),(10,i64 0),(11,i64 23),(12,i64 0),(13,i64 2),(14,i64 0),(15,i64 8),(16,i64 0),(17,.sl false 2 [.agg [i64 0,i64 16],.agg [i64 1,i64 5]]),(18,i64 0),(19,.optr 1009 79 3 0 0),(20,.sl false 2 [.agg [str (sb tA),str (sb GV)],.agg [str (sb tB),str (sb Gb)]]),(21,i64 0)],
  [⟨1009,79,80,3,[.agg [str (sb Ex),i64 15,.sl false 2 [.agg [str (sb tA),str (sb GV)],.agg [str (sb tB),str (sb Gb)]]]]⟩,⟨406,31,24,5,[.agg [str (sb Mw),i64 4,i64 30,i64 12,.sl false 1 [C1,AY false [Co 5]]]]⟩,⟨308,22,80,3,[.agg [str (sb Ex),i64 16,.sl false 2 [.agg [str (sb tA),str (sb GV)],.agg [str (sb tB),str (sb Gb)]]]]⟩],_⟩ AL ?_
 refine AC.seq ?_;refine AC.seq ?_;refine zO w1 1100 [([0,1,2,3,4,5,6,7,8,9,10,11,12,13,14,15,16,17,18,19,20,21,22,23,24,25,26,27,28,29,30,31,32,33,34,35,36,37,38,39,40,41,42,43],44),([45,46,47,48,49,50],51)] [52] rfl (by kernel_rfl) ?_;change Cw _ _ _ _ _ _ _ _;refine AE (CJ z0 n0 n1 n23 n2 n2' (At n8 kT kF)) ?_;refine AE (CJ z0 n0 n1 n23 n2 n2' (At n8 kT kF)) ?_;refine AE (CJ z0 n0 n1 n23 n2 n2' (At n8 kT kF)) ?_;refine AE (CJ z0 n0 n1 n23 n2 n2' (At n8 kT kF)) ?_;refine AE (CJ z0 n0 n1 n23 n2 n2' (At n8 kT kF)) ?_;refine AE (At n2' kT kF) ?_;refine Bs kF s0 ?_;refine AE (At n2' kT kF) ?_;refine AE (At n2' kT kF) ?_;refine⟨As false,λos K' hk=>gY (a1:=0) (a2:=16) (b1:=0) (b2:=16) rfl rfl Zs rfl rfl hk,?_⟩;change Cw _ _ _ _ _ ⟨(124,As false)::_,_,_⟩ _ _;refine An ?_;refine AE (At n2' kT kF) ?_;refine AE (At n2' kT kF) ?_;refine Bs kF s1 ?_;refine AE (At n2' kT kF) ?_;refine AE (At n2' kT kF) ?_;refine⟨As false,λos K' hk=>gY (a1:=1) (a2:=5) (b1:=1) (b2:=5) rfl rfl Zs rfl rfl hk,?_⟩;change Cw _ _ _ _ _ ⟨(131,As false)::_,_,_⟩ _ _;refine An ?_;refine AE (At n2' kT kF) ?_;refine AM ?_;refine Ao ?_;refine AC.weak ⟨[(2,.sl false 2 [.agg [.prim (.string ⟨#[97]⟩),.prim (.string ⟨#[49,51]⟩)],.agg [.prim (.string ⟨#[98]⟩),.prim (.string ⟨#[51]⟩)]]),(4,.optr 308 22 3 0 0),(6,.optr 406 31 5 0 0),(7,O1),(19,.optr 1009 79 3 0 0),(20,.sl false 2 [.agg [.prim (.string ⟨#[97]⟩),.prim (.string ⟨#[49,51,47,49,54]⟩)],.agg [.prim (.string ⟨#[98]⟩),.prim (.string ⟨#[51,47,49,54]⟩)]])],
  [⟨1009,79,80,3,[.agg [str (sb Ex),i64 15,.sl false 2 [.agg [.prim (.string ⟨#[97]⟩),.prim (.string ⟨#[49,51,47,49,54]⟩)],.agg [.prim (.string ⟨#[98]⟩),.prim (.string ⟨#[51,47,49,54]⟩)]]]]⟩,⟨406,31,24,5,[.agg [str (sb Mw),i64 4,i64 30,i64 12,.sl false 1 [C1,AY false [Co 5]]]]⟩,⟨308,22,80,3,[.agg [str (sb Ex),i64 16,.sl false 2 [.agg [.prim (.string ⟨#[97]⟩),.prim (.string ⟨#[49,51,47,49,54]⟩)],.agg [.prim (.string ⟨#[98]⟩),.prim (.string ⟨#[51,47,49,54]⟩)]]]]⟩],_⟩ AL ?_
 have h1:AJ C0 45 [.sl false 2 [.agg [.prim (.string ⟨#[97]⟩),.prim (.string ⟨#[49,51,47,49,54]⟩)],.agg [.prim (.string ⟨#[98]⟩),.prim (.string ⟨#[51,47,49,54]⟩)]],.sl true 2 [.agg [.prim (.string ⟨#[97]⟩),.prim (.string ⟨#[49,51,47,49,54]⟩)],.agg [.prim (.string ⟨#[98]⟩),.prim (.string ⟨#[51,47,49,54]⟩)]]] (As true):=yR 0;have h2:AJ C0 23 [.sl false 2 [.agg [.prim (.string ⟨#[97]⟩),.prim (.string ⟨#[49,51,47,49,54]⟩)],.agg [.prim (.string ⟨#[98]⟩),.prim (.string ⟨#[51,47,49,54]⟩)]],.sl true 2 [.agg [.prim (.string ⟨#[97]⟩),.prim (.string ⟨#[49,51,47,49,54]⟩)],.agg [.prim (.string ⟨#[98]⟩),.prim (.string ⟨#[51,47,49,54]⟩)]]] (As true):=ud;have e1:BF ⟨#[97]⟩ ⟨#[97]⟩=true:=Ld _;have e2:BF ⟨#[49,51]⟩ ⟨#[49,51]⟩=true:=Ld _;have e3:BF ⟨#[98]⟩ ⟨#[98]⟩=true:=Ld _;have e4:BF ⟨#[51]⟩ ⟨#[51]⟩=true:=Ld _;have x0:([.agg [.prim (.string ⟨#[97]⟩),.prim (.string ⟨#[49,51]⟩)],.agg [.prim (.string ⟨#[98]⟩),.prim (.string ⟨#[51]⟩)]]:List D)[0]?=some (.agg [.prim (.string ⟨#[97]⟩),.prim (.string ⟨#[49,51]⟩)]):=rfl;have x1:([.agg [.prim (.string ⟨#[97]⟩),.prim (.string ⟨#[49,51]⟩)],.agg [.prim (.string ⟨#[98]⟩),.prim (.string ⟨#[51]⟩)]]:List D)[1]?=some (.agg [.prim (.string ⟨#[98]⟩),.prim (.string ⟨#[51]⟩)]):=rfl;have b1:(!(true&&(true&&true)))=false:=rfl;have n16:((16:Int) != 16)=false:=rfl;have n15:((15:Int) != 15)=false:=rfl;have k1:=yL;have k2:=yM;have k3:=yN;have k4:=yO;have k5:=yP;have k6:=yQ;have pA1:Al [AY false [DA 2,Co 1],.sl true 3 [FE (DA 2),FE (Co 1)]]:=⟨λd hd=>by
  simp only[BA,Dc,or_false]at hd;rcases hd with rfl|rfl
  ·exact(AI:AA (AY false [DA 2,Co 1])).out
  ·exact HK (n:=30) (by kernel_rfl)⟩
 have pA2:Al [AY false [Co 9,DA 4],.sl true 3 [FE (Co 9),FE (DA 4)]]:=⟨λd hd=>by
  simp only[BA,Dc,or_false]at hd;rcases hd with rfl|rfl
  ·exact(AI:AA (AY false [Co 9,DA 4])).out
  ·exact HK (n:=30) (by kernel_rfl)⟩
 rw[hO1]at k5 pA1;rw[hC1]at k6 pA2;obtain⟨u1,u2,u3,hu⟩:∃a b c,FE (DA 2)=.agg [a,b,c]:=⟨_,_,_,rfl⟩
 obtain⟨v1,v2,v3,hv⟩:∃a b c,FE (Co 1)=.agg [a,b,c]:=⟨_,_,_,rfl⟩
 obtain⟨y1,y2,y3,hy⟩:∃a b c,FE (Co 9)=.agg [a,b,c]:=⟨_,_,_,rfl⟩
 obtain⟨z1,z2,z3,hz⟩:∃a b c,FE (DA 4)=.agg [a,b,c]:=⟨_,_,_,rfl⟩
 rw[hu]at k1;rw[hv]at k2;rw[hy]at k3;rw[hz]at k4;rw[hu,hv]at k5 pA1;rw[hy,hz]at k6 pA2;obtain⟨C2,hC2⟩:∃d,AY false [Co 5]=d:=⟨_,rfl⟩
 obtain⟨C1L,hC1L⟩:∃T,C1=.sl false 3 T:=⟨_,hC1.symm⟩
 rw[hC2,hC1L];rw[hC1L]at k6 pA2;have q0:([.sl false 3 C1L,C2]:List D)[0]?=some (.sl false 3 C1L):=rfl;have n2e:(((2:Nat):Int)==2)=true:=rfl;refine AG ZA (CJ b1 n2' n16 n15 e1 e2 (BZ e3 e4 kT kF)) x0 x1 h1 h2 AB AB ?_;refine BU.same _ (k1) AI ?_;refine BP ?_;refine AE (At n2e kT kF) ?_;refine BU.same _ (k2) AI ?_;refine BP ?_;refine AE (At n2e kT kF) ?_;refine BU.same _ k5 pA1 ?_;refine An ?_;refine AE (At n2e kT kF) ?_;refine AE (At n2e kT kF) ?_;refine AE (At n2e kT kF) ?_;refine Bs kT q0 ?_;refine AE (At n2e kT kF) ?_;refine AE (At n2e kT kF) ?_;refine Ny kT ?_;refine BU.same _ (k3) AI ?_;refine BP ?_;refine Ny kT ?_;refine BU.same _ (k4) AI ?_;refine BP ?_;refine AE (At n2e kT kF) ?_;refine AE (At n2e kT kF) ?_;refine AE (At n2e kT kF) ?_;refine Ny kT ?_;refine BE.same _ k6 pA2 ?_;refine An ?_;refine AE (At n2e kT kF) ?_;refine AE (At n2e kT kF) ?_;refine Ak ?_;exact AK rfl AA.out
end Go.Ide
