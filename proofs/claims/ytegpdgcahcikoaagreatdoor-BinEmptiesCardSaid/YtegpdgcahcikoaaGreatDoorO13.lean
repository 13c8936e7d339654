/- The layer of own lemmas and contracts, part 13. -/
import Derived.Test.YtegpdgcahcikoaaGreatDoorO12
set_option linter.unusedVariables false
set_option linter.unusedSimpArgs false
namespace Go.Ide
open Go.Proofs Go.RowKit Go.Sort
set_option maxRecDepth 20000
set_option maxHeartbeats 4000000
def PU:List (Nat×List D×D):=[(68,[cA],i64 0),(68,[cB],i64 0),(75,[str (sb tB)],Aq true),
 (105,[cA,i64 2,Aq true],Al false [DD 2]),(105,[cA,i64 1,Aq false],Al false [Cp 1]),(60,[cA,i64 1,i64 2],Al false [Cp 9,DD 4]),
 (126,[cA,str (sb tB)],.sl false 2 [Fp (11,16)]),(63,[.sl true 1 [Al false [DD 2],Al false [Cp 1]]],Al false [DD 2,Cp 1])]
instance yz:AA cA:=by unfold cA;exact AI
instance yG:AA cB:=by unfold cB;exact AI
instance q_cA:AT cA:=by unfold cA;exact AI
instance q_cB:AT cB:=by unfold cB;exact AI
theorem Zf:∀e∈PU,AK C0 e.1 e.2.1 e.2.2/\Aj e.2.1:=by
 intro e he;simp only[PU,BG,Db,or_false]at he;rcases he with rfl|rfl|rfl|rfl|rfl|rfl|rfl|rfl
 ·exact⟨qX,AI⟩
 ·exact⟨qY,AI⟩
 ·exact⟨qW,AI⟩
 ·exact⟨ni,AI⟩
 ·exact⟨nj,AI⟩
 ·exact⟨qP,AI⟩
 ·exact⟨vm,AI⟩
 ·exact⟨qR,AI⟩
noncomputable def X5:EV:=⟨Pu,MJ.get,Nj.get,λ_=>false,M7 PU,Sb,Ko⟩
theorem EM:FM C0 X5:=⟨Vc,SK,Jv,Td PU Zf,by kernel_rfl,bE,Q5⟩
def gN:D:=.agg [str (sb Mi),i64 4,i64 30,i64 12,.sl false 1 [Al false [Cp 9,DD 4],Al false [Cp 5]]]
theorem qS:AK C0 15 [Df,i64 0,i64 3] (.tup [gN,Al false [DD 2,Cp 1],i64 0]):=CF EM 400 40 (by kernel_rfl)
abbrev VB (ls:List Int)(i:Int):D:=.clo (.func 96) [] [.pptr (.sl false 1 (Bk ls)),.pptr (i64 i),.pptr Df]
abbrev ur (ls:List Int)(i:Int):D:=.clo (.func 93) [] [.pptr Df,.pptr (.sl false 1 (Bk ls)),.pptr (i64 i)]
theorem kW:AK C0 92 [.sl false 1 (Bk [16,5]),i64 ((0:Nat):Int),VB [16,5] ((0:Nat):Int)] (.sl false 1 [i64 23]):=CF EM 400 40 (by kernel_rfl)
theorem kX:AK C0 92 [.sl false 1 (Bk [16,5]),i64 ((1:Nat):Int),VB [16,5] ((1:Nat):Int)] (.sl false 1 [i64 1]):=CF EM 400 40 (by kernel_rfl)
theorem kY:AK C0 92 [.sl false 1 (Bk [0,5]),i64 ((1:Nat):Int),VB [0,5] ((1:Nat):Int)] (.sl false 1 [i64 17]):=CF EM 400 40 (by kernel_rfl)
theorem kZ:AK C0 92 [.sl false 1 (Bk [16,5]),i64 ((1:Nat):Int),ur [16,5] ((1:Nat):Int)] (.sl false 1 [i64 23]):=CF EM 400 40 (by kernel_rfl)
theorem zj:AK C0 91 [i64 16,.sl false 1 [i64 23]] (i64 16):=CF EM 400 40 (by kernel_rfl)
theorem zk:AK C0 91 [i64 5,.sl false 1 [i64 1]] (i64 1):=CF EM 400 40 (by kernel_rfl)
theorem zl:AK C0 91 [i64 5,.sl false 1 [i64 17]] (i64 5):=CF EM 400 40 (by kernel_rfl)
theorem zm:AK C0 91 [i64 25,.sl false 1 [i64 23]] (i64 23):=CF EM 400 40 (by kernel_rfl)
instance d8B:AA Df:=by unfold Df;exact AI
instance d8E:AT Df:=by unfold Df;exact AI
theorem zn:AK C0 49 [Df,.sl false 1 (Bk [16,5]),i64 ((0:Nat):Int)] (i64 16):=RK Df ⟨_,_,_,_,_,rfl⟩ false _ 0 16 rfl _ 16 kW zj
theorem zp:AK C0 49 [Df,.sl false 1 (Bk [16,5]),i64 ((1:Nat):Int)] (i64 1):=RK Df ⟨_,_,_,_,_,rfl⟩ false _ 1 5 rfl _ 1 kX zk
theorem zr:AK C0 49 [Df,.sl false 1 (Bk [0,5]),i64 ((1:Nat):Int)] (i64 5):=RK Df ⟨_,_,_,_,_,rfl⟩ false _ 1 5 rfl _ 5 kY zl
theorem vk:AK C0 48 [Df] (.sl false 1 (Bk [16,5])):=CF EM 400 40 (by kernel_rfl)
theorem qQ:AK C0 55 [Df,.sl true 1 [i64 1]] (i64 0):=CF EM 400 40 (by kernel_rfl)
theorem vj:AK C0 47 [Df] (i64 0):=CF EM 400 40 (by kernel_rfl)
theorem nh:AK C0 43 [Df,i64 1] (.tup [i64 23,i64 0]):=qF Df _ _ _ _ 30 rfl _ 1 5 rfl _ 23 qQ vk kZ 25 rfl zm
def Vd:List (Nat×List D×D):=(49,[Df,.sl false 1 (Bk [16,5]),i64 1],i64 1)::PU
theorem qJ:∀e∈Vd,AK C0 e.1 e.2.1 e.2.2/\Aj e.2.1:=by
 intro e he;rcases BG.1 he with rfl|he
 ·exact⟨zp,AI⟩
 ·exact Zf e he
noncomputable def gV:EV:=⟨Pu,MJ.get,Nj.get,λ_=>false,M7 Vd,Sb,Ko⟩
theorem vf:FM C0 gV:=⟨Vc,SK,Jv,Td Vd qJ,by kernel_rfl,bE,Q5⟩
theorem qV:AK C0 16 [Df,i64 1] (.tup [i64 1,i64 0]):=CF vf 400 40 (by kernel_rfl)
theorem nf:AK C0 30 [Df,i64 0,str (sb tB)] (.tup [i64 2,i64 0]):=CF EM 400 40 (by kernel_rfl)
theorem qT:AK C0 31 [Df,i64 0,str (sb tB)] (.tup [i64 8,i64 0]):=CF EM 400 40 (by kernel_rfl)
def gP (l:List Int):Int:=if l=[16,5]then 16 else 5
theorem na:AK C0 11 [Df] (.tup [.sl false 2 [GA (0,16),GA (1,5)],i64 0]):=by
 have h:=Y6 (str (sb Mi)) (i64 4) (i64 30) (i64 12) false [cA,cB] [16,5] rfl (by simp) (by decide) (λi c m h1 h2=>by
  match i with
  | 0=>cases h1;cases h2;exact dH
  | 1=>cases h1;cases h2;exact CF EM 400 40 (by kernel_rfl)
  |i+2=>cases h1) (λc hc=>by
  simp only[BG,Db,or_false]at hc;rcases hc with rfl|rfl
  ·exact⟨_,_,rfl,yz⟩
  ·exact⟨_,_,rfl,yG⟩) vj gP (λl=>l=[16,5]\/l=[0,5]\/l=[0,0]) (.inl rfl) (λl hl hn=>by
  rcases hl with rfl|rfl|rfl
  ·exact⟨zn,rfl,.inr (.inl rfl)⟩
  ·exact⟨zr,rfl,.inr (.inr rfl)⟩
  ·exact Ad rfl hn)
 rw[show D5 gP 257 [16,5] []=([(0,16),(1,5)],0) by kernel_rfl]at h;exact h
abbrev Y4:Dr:=[(16,[0,1,2,3,4,5,6,7,8,9,10,11,12,13,14,15,16,17,18],[19,20,21])]
open Go.Proofs Go.RowKit Go.Sort
set_option maxRecDepth 20000
set_option maxHeartbeats 8000000
def yU:D:=.sl true 2 [.agg [str (sb tA),str (sb GO)],.agg [str (sb tB),str (sb GV)]]
theorem yv (m:Int):AK C0 45 [.sl false 2 [.agg [str (sb tA),str (sb GO)],.agg [str (sb tB),str (sb GV)]],yU] (Aq true):=CF EM 400 40 (by kernel_rfl)
theorem uZ:AK C0 23 [.sl false 2 [Ei (tA,GO),Ei (tB,GV)],.sl true 2 [Ei (tA,GO),Ei (tB,GV)]] (Aq true):=CF EM 400 40 (by kernel_rfl)
theorem yn:AK C0 46 [i64 2,Aq true] (FE (DD 2)):=CF EM 400 40 (by kernel_rfl)
theorem yo:AK C0 46 [i64 1,Aq false] (FE (Cp 1)):=CF EM 400 40 (by kernel_rfl)
theorem yp:AK C0 46 [i64 9,Aq false] (FE (Cp 9)):=CF EM 400 40 (by kernel_rfl)
theorem yq:AK C0 46 [i64 4,Aq true] (FE (DD 4)):=CF EM 400 40 (by kernel_rfl)
theorem yr:AK C0 20 [Al false [DD 2,Cp 1],.sl true 3 [FE (DD 2),FE (Cp 1)]] (Aq true):=CF EM 400 40 (by kernel_rfl)
theorem yu:AK C0 20 [Al false [Cp 9,DD 4],.sl true 3 [FE (Cp 9),FE (DD 4)]] (Aq true):=CF EM 400 40 (by kernel_rfl)
theorem qu:AK C0 10 [] (Aq true):=by
 refine Ak.walk w1 dT rfl λF=>?_
 have cE:=yb;have cL:=qU;have cP:AK C0 42 [cA,.prim (.string ⟨#[119,104,101,97,116]⟩)] (.tup [(Ku 16).D,i64 0]):=q6;have cD:=qS;have cM:=qV;have cS:=nh;have cF:AK C0 30 [Df,i64 0,.prim (.string ⟨#[98]⟩)] (.tup [i64 2,i64 0]):=nf;have cLa:AK C0 31 [Df,i64 0,.prim (.string ⟨#[98]⟩)] (.tup [i64 8,i64 0]):=qT;have cEm:=na;have cSh:=lZ;have pA:AA cA:=AI;have pB:AA cB:=AI;have pX:AA Df:=AI;unfold Df at cE cD cM cS cF cLa cEm pX;have hA:∃T,cA=.sl false 3 T:=⟨_,rfl⟩
 have hB:∃T,cB=.sl false 3 T:=⟨_,rfl⟩
 obtain⟨TA,hA⟩:=hA;obtain⟨TB,hB⟩:=hB;rw[hA,hB]at cE cD cM cS cF cLa cEm pX;rw[hA]at cL cP cSh pA;rw[hB]at pB;have hm:([.sl false 3 TA,.sl false 3 TB]:List D)[0]?=some (.sl false 3 TA):=rfl;have dP:(Ku 16).D=.agg [str (sb Ev),i64 16,.sl false 2 [.agg [str (sb tA),str (sb GO)],.agg [str (sb tB),str (sb GV)]]]:=rfl;have dP2:(Ku 15).D=.agg [str (sb Ev),i64 15,.sl false 2 [.agg [str (sb tA),str (sb GO)],.agg [str (sb tB),str (sb GV)]]]:=rfl;rw[dP]at cP;rw[dP2]at cSh;unfold gN at cD;refine AH Y4 kB cE hm cL cP cD cM ?_;refine cI cS ?_;refine sR 700 ?_;refine cI cF ?_;refine sR 800 ?_;refine cI cLa ?_;refine sR 900 ?_;refine cI cEm ?_;refine sR 1000 ?_;refine Bq kT hm ?_;refine AE kB ?_;refine cI cSh ?_;have z0:IntKind.i64.wrap (0+0)=0:=rfl;have n0:((0:Int) != 0)=false:=rfl;have n1:((1:Int) != 1)=false:=rfl;have n23:((23:Int) != 23)=false:=rfl;have n2:((2:Int) != 2)=false:=rfl;have n2':(((2:Nat):Int) != 2)=false:=rfl;have s0:([.agg [i64 0,i64 16],.agg [i64 1,i64 5]]:List D)[0]?=some (.agg [i64 0,i64 16]):=rfl;have s1:([.agg [i64 0,i64 16],.agg [i64 1,i64 5]]:List D)[1]?=some (.agg [i64 1,i64 5]):=rfl;have n8:((8:Int) != 8)=false:=rfl;obtain⟨C1,hC1⟩:∃d,Al false [Cp 9,DD 4]=d:=⟨_,rfl⟩
 obtain⟨O1,hO1⟩:∃d,Al false [DD 2,Cp 1]=d:=⟨_,rfl⟩
 rw[hC1,hO1];refine AC.weak ⟨[(2,.sl false 2 [.agg [str (sb tA),str (sb Sh)],.agg [str (sb tB),str (sb t3)]]),(3,i64 0),(4,.optr 308 22 3 0 0),(5,i64 0),(6,.optr 406 31 5 0 0),(7,O1),(8,i64 0),(9,i64 1),(10,i64 0),(11,i64 23),(12,i64 0),(13,i64 2),(14,i64 0),(15,i64 8),(16,i64 0),(17,.sl false 2 [.agg [i64 0,i64 16],.agg [i64 1,i64 5]]),(18,i64 0),(19,.optr 1009 79 3 0 0),(20,.sl false 2 [.agg [str (sb tA),str (sb GO)],.agg [str (sb tB),str (sb GV)]]),(21,i64 0)],
  [⟨1009,79,80,3,[.agg [str (sb Ev),i64 15,.sl false 2 [.agg [str (sb tA),str (sb GO)],.agg [str (sb tB),str (sb GV)]]]]⟩,⟨406,31,24,5,[.agg [str (sb Mi),i64 4,i64 30,i64 12,.sl false 1 [C1,Al false [Cp 5]]]]⟩,⟨308,22,80,3,[.agg [str (sb Ev),i64 16,.sl false 2 [.agg [str (sb tA),str (sb GO)],.agg [str (sb tB),str (sb GV)]]]]⟩],_⟩ AJ ?_
 refine AC.seq ?_;refine AC.seq ?_;refine zI w1 1100 [([0,1,2,3,4,5,6,7,8,9,10,11,12,13,14,15,16,17,18,19,20,21,22,23,24,25,26,27,28,29,30,31,32,33,34,35,36,37,38,39,40,41,42,43],44),([45,46,47,48,49,50],51)] [52] rfl (by kernel_rfl) ?_;change Cy _ _ _ _ _ _ _ _;refine AE (CO z0 n0 n1 n23 n2 n2' (As n8 kT kF)) ?_;refine AE (CO z0 n0 n1 n23 n2 n2' (As n8 kT kF)) ?_;refine AE (CO z0 n0 n1 n23 n2 n2' (As n8 kT kF)) ?_;refine AE (CO z0 n0 n1 n23 n2 n2' (As n8 kT kF)) ?_;refine AE (CO z0 n0 n1 n23 n2 n2' (As n8 kT kF)) ?_;refine AE (As n2' kT kF) ?_;refine Bq kF s0 ?_;refine AE (As n2' kT kF) ?_;refine AE (As n2' kT kF) ?_;refine⟨Aq false,λos K' hk=>Vj (a1:=0) (a2:=16) (b1:=0) (b2:=16) rfl rfl UO rfl rfl hk,?_⟩;change Cy _ _ _ _ _ ⟨(124,Aq false)::_,_,_⟩ _ _;refine At ?_;refine AE (As n2' kT kF) ?_;refine AE (As n2' kT kF) ?_;refine Bq kF s1 ?_;refine AE (As n2' kT kF) ?_;refine AE (As n2' kT kF) ?_;refine⟨Aq false,λos K' hk=>Vj (a1:=1) (a2:=5) (b1:=1) (b2:=5) rfl rfl UO rfl rfl hk,?_⟩;change Cy _ _ _ _ _ ⟨(131,Aq false)::_,_,_⟩ _ _;refine At ?_;refine AE (As n2' kT kF) ?_;refine AM ?_;refine An ?_;refine AC.weak ⟨[(2,.sl false 2 [.agg [.prim (.string ⟨#[97]⟩),.prim (.string ⟨#[49,51]⟩)],.agg [.prim (.string ⟨#[98]⟩),.prim (.string ⟨#[51]⟩)]]),(4,.optr 308 22 3 0 0),(6,.optr 406 31 5 0 0),(7,O1),(19,.optr 1009 79 3 0 0),(20,.sl false 2 [.agg [.prim (.string ⟨#[97]⟩),.prim (.string ⟨#[49,51,47,49,54]⟩)],.agg [.prim (.string ⟨#[98]⟩),.prim (.string ⟨#[51,47,49,54]⟩)]])],
  [⟨1009,79,80,3,[.agg [str (sb Ev),i64 15,.sl false 2 [.agg [.prim (.string ⟨#[97]⟩),.prim (.string ⟨#[49,51,47,49,54]⟩)],.agg [.prim (.string ⟨#[98]⟩),.prim (.string ⟨#[51,47,49,54]⟩)]]]]⟩,⟨406,31,24,5,[.agg [str (sb Mi),i64 4,i64 30,i64 12,.sl false 1 [C1,Al false [Cp 5]]]]⟩,⟨308,22,80,3,[.agg [str (sb Ev),i64 16,.sl false 2 [.agg [.prim (.string ⟨#[97]⟩),.prim (.string ⟨#[49,51,47,49,54]⟩)],.agg [.prim (.string ⟨#[98]⟩),.prim (.string ⟨#[51,47,49,54]⟩)]]]]⟩],_⟩ AJ ?_
 have h1:AK C0 45 [.sl false 2 [.agg [.prim (.string ⟨#[97]⟩),.prim (.string ⟨#[49,51,47,49,54]⟩)],.agg [.prim (.string ⟨#[98]⟩),.prim (.string ⟨#[51,47,49,54]⟩)]],.sl true 2 [.agg [.prim (.string ⟨#[97]⟩),.prim (.string ⟨#[49,51,47,49,54]⟩)],.agg [.prim (.string ⟨#[98]⟩),.prim (.string ⟨#[51,47,49,54]⟩)]]] (Aq true):=yv 0;have h2:AK C0 23 [.sl false 2 [.agg [.prim (.string ⟨#[97]⟩),.prim (.string ⟨#[49,51,47,49,54]⟩)],.agg [.prim (.string ⟨#[98]⟩),.prim (.string ⟨#[51,47,49,54]⟩)]],.sl true 2 [.agg [.prim (.string ⟨#[97]⟩),.prim (.string ⟨#[49,51,47,49,54]⟩)],.agg [.prim (.string ⟨#[98]⟩),.prim (.string ⟨#[51,47,49,54]⟩)]]] (Aq true):=uZ;have e1:BK ⟨#[97]⟩ ⟨#[97]⟩=true:=QF _;have e2:BK ⟨#[49,51]⟩ ⟨#[49,51]⟩=true:=QF _;have e3:BK ⟨#[98]⟩ ⟨#[98]⟩=true:=QF _;have e4:BK ⟨#[51]⟩ ⟨#[51]⟩=true:=QF _;have x0:([.agg [.prim (.string ⟨#[97]⟩),.prim (.string ⟨#[49,51]⟩)],.agg [.prim (.string ⟨#[98]⟩),.prim (.string ⟨#[51]⟩)]]:List D)[0]?=some (.agg [.prim (.string ⟨#[97]⟩),.prim (.string ⟨#[49,51]⟩)]):=rfl;have x1:([.agg [.prim (.string ⟨#[97]⟩),.prim (.string ⟨#[49,51]⟩)],.agg [.prim (.string ⟨#[98]⟩),.prim (.string ⟨#[51]⟩)]]:List D)[1]?=some (.agg [.prim (.string ⟨#[98]⟩),.prim (.string ⟨#[51]⟩)]):=rfl;have b1:(!(true&&(true&&true)))=false:=rfl;have n16:((16:Int) != 16)=false:=rfl;have n15:((15:Int) != 15)=false:=rfl;have k1:=yn;have k2:=yo;have k3:=yp;have k4:=yq;have k5:=yr;have k6:=yu;have pA1:Aj [Al false [DD 2,Cp 1],.sl true 3 [FE (DD 2),FE (Cp 1)]]:=⟨λd hd=>by
  simp only[BG,Db,or_false]at hd;rcases hd with rfl|rfl
  ·exact(AI:AA (Al false [DD 2,Cp 1])).out
  ·exact G9 (n:=30) (by kernel_rfl)⟩
 have pA2:Aj [Al false [Cp 9,DD 4],.sl true 3 [FE (Cp 9),FE (DD 4)]]:=⟨λd hd=>by
  simp only[BG,Db,or_false]at hd;rcases hd with rfl|rfl
  ·exact(AI:AA (Al false [Cp 9,DD 4])).out
  ·exact G9 (n:=30) (by kernel_rfl)⟩
 rw[hO1]at k5 pA1;rw[hC1]at k6 pA2;obtain⟨u1,u2,u3,hu⟩:∃a b c,FE (DD 2)=.agg [a,b,c]:=⟨_,_,_,rfl⟩
 obtain⟨v1,v2,v3,hv⟩:∃a b c,FE (Cp 1)=.agg [a,b,c]:=⟨_,_,_,rfl⟩
 obtain⟨y1,y2,y3,hy⟩:∃a b c,FE (Cp 9)=.agg [a,b,c]:=⟨_,_,_,rfl⟩
 obtain⟨z1,z2,z3,hz⟩:∃a b c,FE (DD 4)=.agg [a,b,c]:=⟨_,_,_,rfl⟩
 rw[hu]at k1;rw[hv]at k2;rw[hy]at k3;rw[hz]at k4;rw[hu,hv]at k5 pA1;rw[hy,hz]at k6 pA2;obtain⟨C2,hC2⟩:∃d,Al false [Cp 5]=d:=⟨_,rfl⟩
 obtain⟨C1L,hC1L⟩:∃T,C1=.sl false 3 T:=⟨_,hC1.symm⟩
 rw[hC2,hC1L];rw[hC1L]at k6 pA2;have q0:([.sl false 3 C1L,C2]:List D)[0]?=some (.sl false 3 C1L):=rfl;have n2e:(((2:Nat):Int)==2)=true:=rfl;refine AH Y4 (CO b1 n2' n16 n15 e1 e2 (BY e3 e4 kT kF)) x0 x1 h1 h2 AB AB ?_;refine BZ.same _ (k1) AI ?_;refine BP ?_;refine AE (As n2e kT kF) ?_;refine BZ.same _ (k2) AI ?_;refine BP ?_;refine AE (As n2e kT kF) ?_;refine BZ.same _ k5 pA1 ?_;refine At ?_;refine AE (As n2e kT kF) ?_;refine AE (As n2e kT kF) ?_;refine AE (As n2e kT kF) ?_;refine Bq kT q0 ?_;refine AE (As n2e kT kF) ?_;refine AE (As n2e kT kF) ?_;refine No kT ?_;refine BZ.same _ (k3) AI ?_;refine BP ?_;refine No kT ?_;refine BZ.same _ (k4) AI ?_;refine BP ?_;refine AE (As n2e kT kF) ?_;refine AE (As n2e kT kF) ?_;refine AE (As n2e kT kF) ?_;refine No kT ?_;refine BE.same _ k6 pA2 ?_;refine At ?_;refine AE (As n2e kT kF) ?_;refine AE (As n2e kT kF) ?_;refine Ai ?_;exact AL rfl AA.out
end Go.Ide
