/- The layer of own lemmas and contracts, part 12. -/
import Derived.Test.YtaoojbnciofmcabGreatDoorR11
import Derived.Test.YtaoojbnciofmcabGreatDoorR8
import Derived.Test.YtaoojbnciofmcabGreatDoorR4
import Derived.Shelf.Spec.SlicesGrow
import Derived.Shelf.Lay
import Derived.Ground.Names8Prog
import Derived.Test.YtaoojbnciofmcabGreatDoorR9
set_option linter.unusedVariables false
set_option linter.unusedSimpArgs false
namespace Go.Ide
open Go.Proofs Go.RowKit Go.Sort
set_option maxRecDepth 20000
set_option maxHeartbeats 4000000
theorem p9 {g:List UInt8}(hg:g.length<=100000){l:List AE}(hf:∀x∈l,x.lite):∀x∈l.map (EN g),x.lite:=λx hx=>by
 obtain⟨y,hy,rfl⟩:=Bx.1 hx;obtain⟨⟨a1,a2,a3⟩,a4⟩:=hf y hy;exact⟨⟨hg,a2,a3⟩,a4⟩
theorem rc {l:List AE}(h:Hb l=0):IC l=0/\(CU l).length<=64/\∀p∈GE (CU l),EG (p.2/(AZ l:Rat))=false:=by
 unfold Hb at h;split at h
 ·rename_i h9;exact Ak h h9
 ·split at h
  ·cases h
  ·split at h
   ·cases h
   ·rename_i h1 h2 h3
    refine⟨by omega,by omega,λp hp=>?_⟩
    have:=List.any_eq_false.1 ((Bool.not_eq_true _).mp h3) p hp
    exact(Bool.not_eq_true _).mp this
theorem aS {l:List AE}(h:Hb l=0):Lw l=⟨(CT l 0).grain,AZ l,FS l⟩:=by
 unfold Lw;rw[AH (λq=>q h)]
theorem qE {l:List UInt8}(h:Cr l=0):l.length<=100000:=by
 obtain⟨-,h2,h3,-⟩:=Rc h;have h4:(B6 l).length<=(CA l).length+1:=by
  unfold CA Bv;split
  ·simp;omega
  ·omega
 unfold B6 Bg at*;rw[Bc]at h4;rw[D8]at h3;omega
theorem re {l:List AE}(hf:∀x∈l,x.lite)(h:Hb l=0):(FS l).length<=64/\∀s∈FS l,s.lot.length<=1000/\s.part.length<=100000/\Cr s.part=0/\rk (Cd s.part) 600:=by
 obtain⟨h1,h2,h3⟩:=rc h;obtain⟨g1,g2,g3,g4,g5⟩:=aR h1;obtain⟨hx,hK⟩:=YL hf g3 g2;refine⟨by unfold FS;rw[Ab,(K9 _).length_eq];exact h2,λs hs=>?_⟩;unfold FS at hs;obtain⟨p,hp,rfl⟩:=Bx.1 hs;have hc:=qF (h3 p hp);refine⟨hK.all p.1 (List.mem_map_of_mem ((K9 _).mem_iff.1 hp)),?_,hc,No hc⟩;exact qE hc
def Gg (l:List AE)(left:Int):AE:=⟨(CT l 0).grain,AZ l-left,FS (l.map (EN (CT l 0).grain))⟩
def Ju (l:List AE)(left:Int):Nat:=if Bw l≠0 then Bw l else if left<1 then 3 else if AZ l<left then 13 else if CI l=false then 16 else if JE l (CT l 0).grain≠0 then JE l (CT l 0).grain
 else if AZ l=left then 0 else JB (CU [Gg l left])
def S3 (l:List AE)(left:Int):AE:=if Ju l left≠0 then⟨[],0,[]⟩else⟨(CT l 0).grain,left,FS (l.map (EN (CT l 0).grain))⟩
def S2 (l:List AE)(left:Int):B5:=if Ju l left≠0 then[]else if AZ l=left then[]else KV (CU [Gg l left])
theorem NR {H:Hp}{a a' b b' c:D}(h1:Fz H [] a a')(h2:Fz H [] b b'):Fz H [] (.tup [a,b,c]) (.tup [a',b',c]):=.tup rfl λi d d' h h'=>by
 match i with
 | 0=>cases h;cases h';exact h1
 | 1=>cases h;cases h';exact h2
 | 2=>cases h;cases h';exact .refl _
 |n+3=>cases h
theorem Sq (H:Hp):Fz H [] (.agg [str ⟨#[]⟩,i64 0,CK]) (⟨[],0,[]⟩:AE).D:=.agg rfl λi d d' h h'=>by
 match i with
 | 0=>cases h;cases h';exact .refl _
 | 1=>cases h;cases h';exact .refl _
 | 2=>cases h;cases h';exact .nil 2
 |n+3=>cases h
theorem qx (b:Bool)(l:List AE)(left:Int)(hl:l.length<=1000000)(hf:∀x∈l,x.lite):AL C0 26 [AV b l,i64 left] (.tup [(S3 l left).D,.sl false 2 ((S2 l left).map C8),i64 (Ju l left:Nat)]):=by
 refine Af.walk w1 gS rfl λF=>?_
 have cP:=M2 b l (by omega) λx hx=>(hf x hx).1
 have hE:Ju l left=if Bw l≠0 then Bw l else if left<1 then 3 else if AZ l<left then 13 else if CI l=false then 16 else if JE l (CT l 0).grain≠0 then JE l (CT l 0).grain
  else if AZ l=left then 0 else JB (CU [Gg l left]):=rfl
 have hX:S3 l left=if Ju l left≠0 then⟨[],0,[]⟩else⟨(CT l 0).grain,left,FS (l.map (EN (CT l 0).grain))⟩:=rfl
 have hL:S2 l left=if Ju l left≠0 then[]else if AZ l=left then[]else KV (CU [Gg l left]):=rfl
 have cW1:=GQ (decide (left<1)) 3;obtain⟨E0,hE0⟩:∃e:Nat,(if Bw l≠0 then Bw l else if left<1 then 3 else 0)=e:=⟨_,rfl⟩
 have cF0:AL C0 30 [.sl true 1 [i64 (Bw l:Nat),i64 (if decide (left<1)then 3 else 0)]] (i64 (E0:Nat)):=by
  have:=I6 [(Bw l:Int),if decide (left<1)then 3 else 0] (by simp)
  have he:Ck [(Bw l:Int),if decide (left<1)then 3 else 0]=((E0:Nat):Int):=by
   rw[<-hE0]
   by_cases h1:Bw l=0<;>by_cases h2:left<1<;>simp[Ck,h1,h2]
  rw[he]at this;exact this
 rcases Nat.decEq E0 0 with g0|g0
 ·have e1:=G9 g0
  have hE2:Ju l left=E0:=by
   rw[hE,<-hE0];split
   ·rfl
   ·rename_i h1
    rw[<-hE0,AH h1]at g0;split
    ·rfl
    ·rename_i h2;exact Ak (AH h2) g0
  rw[hE2]at hX hL⊢;rw[AI g0]at hX hL;rw[hX,hL];refine AF AY e1 cP cW1 cF0 AB AB AB ?_;exact⟨_,NR (Sq _) (.nil 2),AA.out,rfl⟩
 have e1:=HA g0;have hp0:Bw l=0:=by
  apply DH;intro h;rw[AI h]at hE0;omega
 have hl1:¬left<1:=λh=>by
  rw[AH (λq=>q hp0),AI h]at hE0;omega
 rw[AH (λh=>h hp0),AH hl1]at hE;obtain⟨p1,p2,p3⟩:=Ia hp0;have hsm:Ib l:=⟨by omega,λx hx=>by have:=PJ (p2 x hx);omega⟩
 have cT:=bP b l hsm;have cG:=UP b l hl;have cW2:=GQ (decide (AZ l<left)) 13;obtain⟨E1,hE1⟩:∃e:Nat,(if AZ l<left then 13 else if CI l=false then 16 else 0)=e:=⟨_,rfl⟩
 have cF1:AL C0 30 [.sl true 1 [i64 (if decide (AZ l<left)then 13 else 0),i64 (if CI l then 0 else 16:Nat)]] (i64 (E1:Nat)):=by
  have:=I6 [if decide (AZ l<left)then 13 else 0,((if CI l then 0 else 16:Nat):Int)] (by simp)
  have he:Ck [if decide (AZ l<left)then 13 else 0,((if CI l then 0 else 16:Nat):Int)]=((E1:Nat):Int):=by
   rw[<-hE1]
   by_cases h1:AZ l<left<;>cases CI l<;>simp[Ck,h1]
  rw[he]at this;exact this
 rcases Nat.decEq E1 0 with g1|g1
 ·have e2:=G9 g1
  have hE2:Ju l left=E1:=by
   rw[hE,<-hE1];split
   ·rfl
   ·rename_i h1
    rw[<-hE1,AH h1]at g1;split
    ·rfl
    ·rename_i h2;exact Ak (AH h2) g1
  rw[hE2]at hX hL⊢;rw[AI g1]at hX hL;rw[hX,hL];refine AF AY e1 cP cW1 cF0 AB AB AB ?_;refine AF AY e2 cT cW2 cG cF1 AB AB ?_;exact⟨_,NR (Sq _) (.nil 2),AA.out,rfl⟩
 have e2:=HA g1;have hs1:¬AZ l<left:=λh=>by
  rw[AI h]at hE1;omega
 have hs2:¬CI l=false:=λh=>by
  rw[AH hs1,AI h]at hE1;omega
 rw[AH hs1,AH hs2]at hE;have hl0:0<l.length:=by
  rcases l with _|⟨y,l⟩
  ·exfalso;apply hs1
   show(0:Int)<left;omega
  ·simp
 obtain⟨x0,hx0⟩:∃x,l[0]?=some x:=⟨_,Bs hl0⟩
 have hm0:(l.map AE.D)[0]?=some (.agg [str (sb x0.grain),i64 x0.mass,.sl false 2 (x0.shs.map Au.D)]):=by rw[Ay,hx0];rfl
 have hgr:(CT l 0).grain=x0.grain:=by rw[GO hx0]
 have hg9:=(hf x0 (Ax hx0)).1.1;have cPo:=iV b l x0.grain hl hf hg9;rw[hgr]at hE hX;have hlt:Gg l left=⟨x0.grain,AZ l-left,FS (l.map (EN x0.grain))⟩:=by unfold Gg;rw[hgr]
 rw[hlt]at hE hL;obtain⟨PN,hPN⟩:∃n,JE l x0.grain=n:=⟨_,rfl⟩
 rw[hPN]at hE cPo;rcases Nat.decEq PN 0 with g2|g2
 ·have e3:=G9 g2
  rw[AI g2]at hE;rw[hE]at hX hL⊢;rw[AI g2]at hX hL;rw[hX,hL];obtain⟨Z,hZ⟩:∃Z,Ms l x0.grain=Z:=⟨_,rfl⟩
  rw[hZ]at cPo;unfold AE.D CY at cPo;obtain⟨ZS,hZS⟩:∃d,List.map Au.D Z.shs=d:=⟨_,rfl⟩
  have pZS:AA (.sl false 2 ZS):=by rw[<-hZS];exact AJ
  rw[hZS]at cPo;refine AF AY e1 cP cW1 cF0 AB AB AB ?_;refine AF AY e2 cT cW2 cG cF1 AB AB ?_;refine AF AY e3 hm0 cPo AB AB AB AB ?_;exact⟨_,NR (Sq _) (.nil 2),AA.out,rfl⟩
 have e3:=HA g2;rw[AH (λh=>h g2)]at hE;have hpe:H6 l x0.grain=0:=by
  apply DH;intro h
  have:JE l x0.grain=H6 l x0.grain:=AI h
  omega
 have hmn:Hb (l.map (EN x0.grain))=0:=by
  have:JE l x0.grain=Hb (l.map (EN x0.grain)):=AH (λh=>h hpe)
  omega
 have hpl:Ms l x0.grain=⟨x0.grain,AZ l,FS (l.map (EN x0.grain))⟩:=by
  unfold Ms;rw[AH (λh=>h hpe),aS hmn]
  congr 1
  ·rw[GO (l:=l.map (EN x0.grain)) (x:=EN x0.grain x0) (by rw[Ay,hx0];rfl)];rfl
  ·unfold AZ;rw[List.map_map];rfl
 obtain⟨m1,m2⟩:=re (p9 hg9 hf) hmn;rw[hpl]at cPo;clear hpl hmn hpe hPN hlt;obtain⟨S,hS⟩:∃S,FS (l.map (EN x0.grain))=S:=⟨_,rfl⟩
 rw[hS]at cPo hE hX hL m1 m2;have ws:IntKind.i64.wrap (AZ l-left)=AZ l-left:=wI;unfold AE.D at cPo;dsimp only at cPo;unfold CY at cPo;obtain⟨SD,hSD⟩:∃d,List.map Au.D S=d:=⟨_,rfl⟩
 have pSD:AA (.sl false 2 SD):=by rw[<-hSD];exact AJ
 rw[hSD]at cPo
 by_cases hz:AZ l=left
 ·have e4:((AZ l-left)==0)=true:=by rw[ED];omega
  rw[AI hz]at hE;rw[hE]at hX hL⊢;rw[AH (λh=>h rfl)]at hX hL;rw[AI hz]at hL;rw[hX,hL];unfold AE.D;dsimp only;unfold CY;rw[hSD];refine AF AY e1 cP cW1 cF0 AB AB AB ?_;refine AF AY e2 cT cW2 cG cF1 AB AB ?_;refine AF AY (Ao e3 ws e4) hm0 cPo AB AB AB AB ?_;exact⟨_,NR (.refl _) (.nil 2),AA.out,rfl⟩
 have e4:((AZ l-left)==0)=false:=by rw[Bo];omega
 rw[AH hz]at hE hL;have cO:=Pl ⟨x0.grain,left,S⟩ (AZ l-left) (by dsimp only;omega);obtain⟨Y,hY⟩:∃Y:AE,(⟨x0.grain,AZ l-left,S⟩:AE)=Y:=⟨_,rfl⟩
 rw[hY]at cO hE hL;have hYo:∀x∈[Y],x.okW 602:=λx hx=>by
  rw[EJ]at hx;rw[hx,<-hY];exact⟨m1,by unfold Sm;dsimp only;omega,λs hs=>⟨by have:=(m2 s hs).1;omega,(m2 s hs).2.1,(m2 s hs).2.2.1,(m2 s hs).2.2.2⟩⟩
 have cLo:=dg 602 true [Y] (by simp) hYo (by omega) (by simp);have hKY:H8 (λk=>k.length<=1000) (64*[Y].length) (CU [Y]):=T6 λx hx=>by
  rw[EJ]at hx;rw[hx,<-hY];exact⟨m1,λs hs=>(m2 s hs).1⟩
 change Af C0 56 [.sl true 3 [.agg [str (sb Y.grain),i64 Y.mass,.sl false 2 (Y.shs.map Au.D)]]] _ at cLo;change AL C0 71 [.agg [str (sb x0.grain),i64 left,.sl false 2 (S.map Au.D)],i64 (AZ l-left)] (.agg [str (sb Y.grain),i64 Y.mass,.sl false 2 (Y.shs.map Au.D)])at cO;obtain⟨YS,hYS⟩:∃d,Y.shs.map Au.D=d:=⟨_,rfl⟩
 have pYS:AA (.sl false 2 YS):=by rw[<-hYS];exact AJ
 rw[hSD,hYS]at cO;rw[hYS]at cLo;obtain⟨q,hq⟩:∃q,CU [Y]=q:=⟨_,rfl⟩
 rw[hq]at cLo hKY hE hL;refine AF AY e1 cP cW1 cF0 AB AB AB ?_;refine AF AY e2 cT cW2 cG cF1 AB AB ?_;refine AF AY (Ao e3 ws e4) hm0 cPo cO AB AB AB ?_;refine BF.prop _ _ (FH.refl _) cLo AJ ?_;rintro d ⟨m,rfl,hQ⟩;have cA:=ZU _ (by simp) q m hQ (BY hKY.len (by simp)) hKY.nd;have pM:AA (mapD m):=⟨hQ.mapD⟩
 unfold KZ at cA;obtain⟨M,hM⟩:∃M,mapD m=M:=⟨_,rfl⟩
 rw[hM]at cA pM⊢;rcases Nat.decEq (JB q) 0 with g4|g4
 ·have e5:=G9 g4
  rw[hE]at hX hL⊢;rw[AI g4]at hX hL;rw[hX,hL];refine AF AY e5 cA AB AB AB AB AB ?_;exact⟨_,NR (Sq _) (.nil 2),AA.out,rfl⟩
 have e5:=HA g4;rw[hE]at hX hL⊢;rw[AH (λh=>h g4)]at hX hL;rw[hX,hL];unfold AE.D;dsimp only;unfold CY;rw[hSD];refine AF AY e5 cA AB AB AB AB AB ?_;exact⟨_,.refl _,AA.out,by rw[g4];rfl⟩
abbrev Rm:Dr:=[(4,[0,1,2,3,4,5,6,7,8],[9])]
open Go.Proofs Go.RowKit Go.Sort
set_option maxRecDepth 20000
set_option maxHeartbeats 4000000
def AE.modr (x:AE):Prop:=(x.shs.length<=15\/64<x.shs.length)/\x.lite
theorem nF (l:List UInt8):BJ (sb l) (sb l)=true:=by rw[Ff];exact Aw rfl
def DM (l:List AE):Int:=l.foldl (λa x=>IntKind.i64.wrap (a+x.mass)) 0
theorem Ua {l:List AE}{i:Nat}{x:AE}(h:l[i]?=some x):DM (l.take (i+1))=IntKind.i64.wrap (DM (l.take i)+x.mass):=by
 unfold DM;rw[Dp,h];simp
theorem NU {l:List AE}(hs:Ib l):DM l=AZ l:=by
 obtain⟨hl,hm⟩:=hs
 have:∀i,i<=l.length->DM (l.take i)=AZ (l.take i):=λi=>by
  induction i with
  |zero=>exact λ_=>rfl
  |succ i ih=>
   intro hi;obtain⟨x,hx⟩:=CO (show i<l.length by omega);have hb:=VR (l:=l.take i) λy hy=>hm y (GJ hy)
   have hxm:=hm x (Ax hx);rw[Bc,Fp (by omega)]at hb;rw[Ua hx,ih (by omega),UX hx,wI]
 have:=this l.length (Ar _)
 rwa [Cw]at this
theorem x7 (b:Bool)(l:List AE)(hl:l.length<=9223372036854775807):AL C0 49 [AV b l] (i64 (DM l)):=by
 refine Af.walk w1 za rfl λF=>?_
 have el:(((l.map AE.D).length:Nat):Int)=(l.length:Int):=by rw[Ab]
 refine AF AY el AB AB AB AB AB AB ?_;refine AC.loop (α:=Nat×Nat) (λp=>⟨[(0,AV b l),(3,i64 (DM (l.take p.1))),(4,i64 (p.1:Int))],[],p.2⟩) (λp=>l.length-p.1) (λp=>p.1<=l.length) (0,_) (BW _) AK ?_;rintro⟨i,m⟩ F hi;dsimp only at hi⊢;rcases BE i l.length with h2|h2
 rotate_left
 ·have e1:=Cg h2
  have:i=l.length:=by omega
  subst this;rw[Cw];refine AF AY (Aa e1 el) AB AB AB AB AB AB ?_;exact AM rfl AA.out
 have e1:=Ch h2;have wi:=Cc (i:=i) (by omega);obtain⟨x,hx⟩:=CO h2;have hm:(l.map AE.D)[i]?=some (.agg [str (sb x.grain),i64 x.mass,.sl false 2 (x.shs.map Au.D)]):=by rw[Ay,hx];rfl
 have ws:=(Ua hx).symm;refine AF AY (CS e1 el wi ws kN) hm AB AB AB AB AB ?_;exact⟨(i+1,_),h2,by dsimp only;omega,AK⟩
theorem Su (b:Bool)(l:List AE)(hs:Ib l):AL C0 49 [AV b l] (i64 (AZ l)):=by
 have h:=x7 b l (by have:=hs.1;omega)
 rwa [NU hs]at h
theorem av (b:Bool)(l:List AE)(hl:l.length<=1000000):AL C0 48 [AV b l] (Al (CI l)):=by
 refine Af.walk w1 z7 rfl λF=>?_
 have el:(((l.map AE.D).length:Nat):Int)=(l.length:Int):=by rw[Ab]
 refine AF Rm el AB AB AB AB AB AB ?_;refine AC.loop (α:=Nat×Nat) (λp=>⟨[(0,AV b l),(3,i64 (p.1:Int))],[],p.2⟩) (λp=>l.length-p.1)
  (λp=>1<=p.1/\(p.1<=l.length\/p.1=1)/\∀x∈l.take p.1,BJ (sb x.grain) (sb (CT l 0).grain)=true) (1,_) ⟨Ar _,.inr rfl,λx h=>by
   rcases l with _|⟨y,l⟩
   ·simp at h
   ·have:x=y:=by simpa using h
    rw[this];exact nF _⟩ AK ?_
 rintro⟨i,m⟩ F ⟨hi1,hi,hs⟩;dsimp only at hi1 hi hs⊢;rcases BE i l.length with h2|h2
 rotate_left
 ·have e1:=Cg h2
  have hg:CI l=true:=by
   unfold CI;rw[CW];intro x hx;rw[Cn h2]at hs;exact hs x hx
  rw[hg];refine AF Rm (Aa e1 el) AB AB AB AB AB AB ?_;exact AM rfl AA.out
 have e1:=Ch h2;have wi:=Cc (i:=i) (by omega);obtain⟨x,hx⟩:=CO h2;have hm:(l.map AE.D)[i]?=some (.agg [str (sb x.grain),i64 x.mass,.sl false 2 (x.shs.map Au.D)]):=by rw[Ay,hx];rfl
 obtain⟨x0,hx0⟩:∃x,l[0]?=some x:=⟨_,Ce⟩
 have hm0:(l.map AE.D)[0]?=some (.agg [str (sb x0.grain),i64 x0.mass,.sl false 2 (x0.shs.map Au.D)]):=by rw[Ay,hx0];rfl
 have hv0:=GO hx0;obtain⟨bG,hbG⟩:∃q,BJ (sb x.grain) (sb x0.grain)=q:=⟨_,rfl⟩
 cases bG
 ·have hg:CI l=false:=by
   unfold CI;rw[List.all_eq_false];exact⟨x,Ax hx,by rw[hv0,hbG];decide⟩
  rw[hg];refine AF Rm (Bb e1 el hbG kN) hm hm0 AB AB AB AB ?_;exact AM rfl AA.out
 ·refine AF Rm (CS e1 el hbG wi kN) hm hm0 AB AB AB AB ?_
  exact⟨(i+1,_),⟨by dsimp only;omega,.inl h2,λy hy=>by
   dsimp only at hy;rw[Dp,hx]at hy;rcases Bp.1 hy with q|q
   ·exact hs y q
   ·have:y=x:=by simpa using q
    rw[this,hv0];exact hbG⟩,by dsimp only;omega,AK⟩
theorem iu (b:Bool)(l:List AE)(hl:l.length<=1000000)(hf:∀x∈l,x.modr):AL C0 52 [AV b l] (i64 (Bw l:Nat)):=by
 refine Af.walk w1 yc rfl λF=>?_
 have el:(((l.map AE.D).length:Nat):Int)=(l.length:Int):=by rw[Ab]
 have hC:Bw l=if 64<l.length then 5 else if EC (λi=>Ct (CT l i)) l.length≠0 then EC (λi=>Ct (CT l i)) l.length else if AZ l>999999999 then 4 else 0:=rfl
 by_cases h64:64<l.length
 ·rw[AI h64]at hC
  rw[hC];have q2:decide ((l.length:Int)>64)=true:=BR;refine AF AY (Aa el q2) AB AB AB AB AB AB ?_;exact AM rfl AA.out
 rw[AH h64]at hC;have q2:decide ((l.length:Int)>64)=false:=Bd;refine AF AY (Aa el q2) AB AB AB AB AB AB ?_;refine AC.loop (α:=Nat×Nat) (λp=>⟨[(0,AV b l),(3,i64 (p.1:Int))],[],p.2⟩) (λp=>l.length-p.1) (λp=>p.1<=l.length/\∀j,j<p.1->Ct (CT l j)=0) (0,_) ⟨BW _,λj h=>Ak h (HK j)⟩ AK ?_;rintro⟨i,m⟩ F ⟨hi,hz⟩;dsimp only at hi hz⊢;rcases BE i l.length with h2|h2
 rotate_left
 ·have e1:=Cg h2
  have:i=l.length:=by omega
  subst this;rw[AH (λh=>h (MN (f:=λi=>Ct (CT l i)) hz))]at hC;have cT:=Su b l (UC h64 hz)
  by_cases h9:AZ l>999999999
  ·have e9:decide (AZ l>999999999)=true:=Aw h9
   rw[AI h9]at hC;rw[hC];refine AF AY (Ao e1 el e9) cT AB AB AB AB AB ?_;exact AM rfl AA.out
  ·have e9:decide (AZ l>999999999)=false:=Az h9
   rw[AH h9]at hC;rw[hC];refine AF AY (Ao e1 el e9) cT AB AB AB AB AB ?_;exact AM rfl AA.out
 have e1:=Ch h2;have wi:=Cc (i:=i) (by omega);obtain⟨x,hx⟩:=CO h2;have hm:(l.map AE.D)[i]?=some (.agg [str (sb x.grain),i64 x.mass,.sl false 2 (x.shs.map Au.D)]):=by rw[Ay,hx];rfl
 have hxm:=hf x (Ax hx);have cL:=d9Y x hxm.1 hxm.2.1;unfold AE.D at cL;rcases Nat.decEq (Ct x) 0 with hc0|hc0
 ·have e3:=G9 hc0
  have:=Pb (f:=λi=>Ct (CT l i)) hz h2 (by rw[GO hx];exact hc0)
  rw[GO hx]at this;rw[this,AI hc0]at hC;rw[hC];refine AF AY (Bb e1 el e3 kN) hm cL AB AB AB AB ?_;exact AM rfl AA.out
 have e3:=HA hc0;refine AF AY (CS e1 el e3 wi kN) hm cL AB AB AB AB ?_;exact⟨(i+1,_),⟨h2,λj hj=>by
  rcases Ko.1 hj with q|q
  ·exact hz j q
  ·rw[q,GO hx];exact hc0⟩,by dsimp only;omega,AK⟩
def IA (x:AE):B5:=x.shs.map λs=>(s.lot,Cd s.part*(x.mass:Rat))
theorem Y3 {x:AE}(hn:(x.shs.map (·.lot)).Nodup):∀j,j<=x.shs.length->G5 x j []=(IA x).take j
 | 0,_=>rfl
 |j+1,hj=>by
  obtain⟨s,hs⟩:∃s,x.shs[j]?=some s:=⟨_,Bs hj⟩
  rw[O4 x j [] hs,Y3 hn j (by omega)];have hm:(IA x)[j]?=some (s.lot,Cd s.part*(x.mass:Rat)):=by unfold IA;rw[Ay,hs];rfl
  have hnot:s.lot∉DC ((IA x).take j):=λh=>by
   obtain⟨z,hz,h2⟩:=Bx.1 h;obtain⟨i,hi⟩:=L3.1 hz;have hij:i<j:=by
    have:=(BS.1 hi).1
    rw[Bc]at this;omega
   rw[FT,AI hij]at hi;unfold IA at hi;rw[Ay]at hi;obtain⟨t,ht,rfl⟩:=E4.1 hi;have e1:(x.shs.map (·.lot))[i]?=some t.lot:=by rw[Ay,ht];rfl
   have e2:(x.shs.map (·.lot))[j]?=some s.lot:=by rw[Ay,hs];rfl
   have a1:=BS.1 e1;have a2:=BS.1 e2
   have:i=j:=(List.getElem_inj (h₀:=a1.1) (h₁:=a2.1) hn).1 (by rw[a1.2,a2.2];exact h2)
   omega
  have hl:Gf s.lot ((IA x).take j)=none:=by
   cases h9:Gf s.lot ((IA x).take j)with
   |none=>rfl
   |some o=>
    obtain⟨A,B,h3,-⟩:=RN (v:=o) h9;exact Ak (by rw[h3];simp[DC]) hnot
  unfold Kl;rw[hl];dsimp only;rw[(UI (v:=Cd s.part*(x.mass:Rat)) hl).2,Dp,hm];rfl
theorem ml {x:AE}(hn:(x.shs.map (·.lot)).Nodup):CU [x]=IA x:=by
 show G5 x x.shs.length []=_;rw[Y3 hn _ (Ar _),Cn];unfold IA;rw[Ab];exact Ar _
theorem s7 {q:B5}(h:Ht q):GE q=q:=(Tt h.nd (.refl _) (K9 _) h.weak (R6 _)).symm
theorem rf (l:List AE):(FS l).Pairwise λa b=>ltStr a.lot b.lot=true:=by
 unfold FS;rw[List.pairwise_map,<-Zo];exact oR l
theorem VC (l:List AE)(left:Int):CU [Gg l left]=IA (Gg l left)/\GE (CU [Gg l left])=IA (Gg l left):=by
 have hp:(Gg l left).shs.Pairwise λa b=>ltStr a.lot b.lot=true:=rf _
 have h1:=ml (x:=Gg l left) (by
  rw[List.Nodup,List.pairwise_map];exact hp.imp λ{a b} h e=>by rw[e,swo_ltStr.irrefl]at h;cases h)
 refine⟨h1,?_⟩;rw[h1];refine s7 ?_;unfold IA;show List.Pairwise _ _;rw[List.pairwise_map];exact hp
theorem xO (b:Bool)(l:List AE)(hl:l.length<=9223372036854775807)(hs:∀x∈l,x.shs.length<=9223372036854775807):AL C0 51 [AV b l] (Al (HV l)):=by
 refine Af.walk w1 yb rfl λF=>?_
 have el:(((l.map AE.D).length:Nat):Int)=(l.length:Int):=by rw[Ab]
 refine AF AY el AB AB AB AB AB AB ?_;refine AC.loop (α:=Nat×Nat) (λp=>⟨[(0,AV b l),(7,AV b l),(8,i64 (l.length:Int)),(9,i64 (p.1:Int))],[],p.2⟩) (λp=>l.length-p.1) (λq=>q.1<=l.length/\(l.take q.1).all AE.shB=true) (0,_) ⟨BW _,rfl⟩ AK ?_;rintro⟨i,n⟩ F ⟨hi,ha⟩;dsimp only at hi ha⊢;rcases BE i l.length with h2|h2
 rotate_left
 ·have e1:=Cg h2
  have:i=l.length:=by omega
  subst this;rw[Cw]at ha;obtain⟨q1,h1⟩:∃q,decide ((l.length:Int)<=8)=q:=⟨_,rfl⟩
  obtain⟨q2,h2'⟩:∃q,decide ((l.length:Int)>64)=q:=⟨_,rfl⟩
  obtain⟨q3,h3⟩:∃q,decide ((l.length:Int)<=80)=q:=⟨_,rfl⟩
  have hb:HV l=(q1||(q2&&q3)):=by
   unfold HV;rw[ha,<-h1,<-h2',<-h3,Gl]
   congr 1
   ·exact DO.2 (by omega)
   ·congr 1
    ·exact DO.2 (by omega)
    ·exact DO.2 (by omega)
  rw[hb];cases q1<;>cases q2<;>cases q3
  all_goals
   refine AF AY (CM e1 el h1 h2' h3 kT kF) AB AB AB AB AB AB ?_;exact AM rfl AA.out
 have e1:=Ch h2;have wi:=Cc (i:=i) (by omega);obtain⟨x,hx⟩:=CO h2;have hm:(l.map AE.D)[i]?=some (.agg [str (sb x.grain),i64 x.mass,.sl false 2 (x.shs.map Au.D)]):=by rw[Ay,hx];rfl
 have hsx:=hs x (Ax hx);have ex:(((x.shs.map Au.D).length:Nat):Int)=(x.shs.length:Int):=by rw[Ab]
 have hsz:=C3 x.grain;obtain⟨p1,h1⟩:∃q,decide ((x.grain.length:Int)>100)=q:=⟨_,rfl⟩
 obtain⟨p2,h2'⟩:∃q,decide ((x.shs.length:Int)>8)=q:=⟨_,rfl⟩
 obtain⟨p3,h3⟩:∃q,decide ((x.shs.length:Int)<=64)=q:=⟨_,rfl⟩
 obtain⟨p4,h4⟩:∃q,decide ((x.shs.length:Int)>80)=q:=⟨_,rfl⟩
 have hb:x.shB=(!p1&&(!p2 || !p3) && !p4&&x.shs.all Au.shB):=by
  unfold AE.shB;rw[<-h1,<-h2',<-h3,<-h4]
  congr 1
  congr 1
  ·congr 1
   ·rw[<-decide_not];exact DO.2 (by omega)
   ·congr 1
    ·rw[<-decide_not];exact DO.2 (by omega)
    ·rw[<-decide_not];exact DO.2 (by omega)
  ·rw[<-decide_not];exact DO.2 (by omega)
 by_cases g:(!p1&&(!p2 || !p3) && !p4)=true
 rotate_left
 ·have hbf:x.shB=false:=by rw[hb];simp only[Bool.not_eq_true]at g;rw[g];rfl
  have hsf:HV l=false:=by unfold HV;rw[VF hx hbf];rfl
  rw[hsf];cases p1<;>cases p2<;>cases p3<;>cases p4
  all_goals first
   |exact Ak rfl g
   |skip
  all_goals
   refine AF AY (CM e1 hsz ex h1 h2' h3 (Bb h4 kN kT kF)) hm AB AB AB AB AB ?_;exact AM rfl AA.out
 rw[g,Gl]at hb;cases p1<;>cases p2<;>cases p3<;>cases p4
 all_goals first
  |exact Ak g (by decide)
  |skip
 all_goals
  refine AF AY (CM e1 hsz ex h1 h2' h3 (Bb h4 kN kT kF)) hm AB AB AB AB AB ?_;refine AC.loop (α:=Nat×Nat) (λp=>⟨[(0,AV b l),(7,AV b l),(8,i64 (l.length:Int)),(9,i64 (i:Int)),(36,.sl false 2 (x.shs.map Au.D)),(37,i64 (x.shs.length:Int)),(38,i64 (p.1:Int))],[],p.2⟩) (λp=>x.shs.length-p.1) (λq=>q.1<=x.shs.length/\(x.shs.take q.1).all Au.shB=true) (0,_) ⟨BW _,rfl⟩ AK ?_;clear h1 h2' h3 h4 g;rintro⟨j,n⟩ F ⟨hj,haj⟩;dsimp only at hj haj⊢;rcases BE j x.shs.length with g2|g2
  ·have e3:=Ch g2
   have wj:=Cc (i:=j) (by omega);obtain⟨y,hy⟩:=CO g2;have hmy:(x.shs.map Au.D)[j]?=some (.agg [str (sb y.lot),str (sb y.part)]):=by rw[Ay,hy];rfl
   have hs1:=C3 y.lot;have hs2:=C3 y.part;obtain⟨r1,k1⟩:∃q,decide ((y.lot.length:Int)>100)=q:=⟨_,rfl⟩
   obtain⟨r2,k2⟩:∃q,decide ((y.part.length:Int)>14)=q:=⟨_,rfl⟩
   have hby:y.shB=(!r1 && !r2):=by
    unfold Au.shB;rw[<-k1,<-k2]
    congr 1
    ·rw[<-decide_not];exact DO.2 (by omega)
    ·rw[<-decide_not];exact DO.2 (by omega)
   have fin:y.shB=false->HV l=false:=λh=>by
    have:x.shB=false:=by rw[hb,VF hy h]
    unfold HV;rw[VF hx this];rfl
   cases r1
   ·cases r2
    ·refine AF AY (CM e3 wj hs1 hs2 k1 k2 (Ao kN kT kF)) hmy AB AB AB AB AB ?_
     exact⟨(j+1,_),⟨g2,Y9 hy haj hby⟩,by dsimp only;omega,AK⟩
    ·rw[fin hby]
     refine AF AY (CM e3 wj hs1 hs2 k1 k2 (Ao kN kT kF)) hmy AB AB AB AB AB ?_;exact AM rfl AA.out
   ·rw[fin hby]
    refine AF AY (CM e3 wj hs1 hs2 k1 kN (Aa kT kF)) hmy AB AB AB AB AB ?_;exact AM rfl AA.out
  ·have e3:=Cg g2
   have:j=x.shs.length:=by omega
   subst this;rw[Cw]at haj;refine AF AY (Aa e3 wi) AB AB AB AB AB AB ?_;exact⟨(i+1,_),⟨h2,Y9 hx ha (hb.trans haj)⟩,by dsimp only;omega,AK⟩
theorem sX {l:List AE}(h:HV l=true):(∀x∈l,x.lite/\x.modr)/\l.length<=80/\(l.length<=8\/64<l.length):=by
 unfold HV at h;simp only[BZ,Kr,CW,HJ]at h;obtain⟨h1,h2⟩:=h;refine⟨λx hx=>?_,by omega,by omega⟩;have hb:=h1 x hx;unfold AE.shB at hb;simp only[BZ,Kr,CW,HJ]at hb;obtain⟨⟨⟨b1,b2⟩,b3⟩,b4⟩:=hb;have hs:∀s∈x.shs,s.lot.length<=100/\s.part.length<=14:=λs hs=>by
  have:=b4 s hs
  unfold Au.shB at this;simpa using this
 have hl:x.lite:=⟨⟨by omega,by omega,λs q=>⟨by have:=(hs s q).1;omega,by have:=(hs s q).2;omega⟩⟩,λs q=>⟨by have:=(hs s q).1;omega,by have:=(hs s q).2;omega⟩⟩
 exact⟨hl,by omega,hl⟩
theorem DW {l:List AE}(h:Bw l=0):l.length<=64/\(∀x∈l,1<=x.mass/\x.mass<=1000000000/\x.shs.length<=1000000)/\Ib l:=by
 obtain⟨g1,g2,g3⟩:=Ia h;have hx:∀x∈l,1<=x.mass/\x.mass<=1000000000/\x.shs.length<=1000000:=λx q=>by
  obtain⟨a,b,c,d⟩:=PJ (g2 x q)
  have:=(YX d).2.1
  exact⟨by omega,by omega,by omega⟩
 exact⟨g1,hx,by omega,λx q=>by have:=hx x q;omega⟩
abbrev Ro:Dr:=[(4,[0,1,2,3,4,5,6,7,8,9,10,11,12,13,14],[15,16])]
open Go.Proofs Go.RowKit Go.Sort
set_option maxRecDepth 20000
set_option maxHeartbeats 4000000
structure Aq where
 flow:List UInt8
 core:Int
 room:Int
 side:Int
 cells:List (List AE)
abbrev Er (b:Bool)(cs:List (List AE)):D:=.sl b 1 (cs.map (AV false))
def Aq.D (x:Aq):D:=.agg [str (sb x.flow),i64 x.core,i64 x.room,i64 x.side,Er false x.cells]
instance  (x:Aq):AS x.D:=by unfold Aq.D;exact AJ
instance  (x:Aq):AA x.D:=by unfold Aq.D;exact AJ
theorem Sh (b:Bool)(l:List AE)(hl:l.length<=9223372036854775807):AL C0 33 [AV b l] (i64 (DM l)):=by
 refine Af.walk w1 WK rfl λF=>?_
 have el:(((l.map AE.D).length:Nat):Int)=(l.length:Int):=by rw[Ab]
 refine AF AY el AB AB AB AB AB AB ?_;refine AC.loop (α:=Nat×Nat) (λp=>⟨[(3,i64 (DM (l.take p.1))),(6,AV b l),(7,i64 (l.length:Int)),(8,i64 (p.1:Int))],[],p.2⟩) (λp=>l.length-p.1) (λp=>p.1<=l.length) (0,_) (BW _) AK ?_;rintro⟨i,m⟩ F hi;dsimp only at hi⊢;rcases BE i l.length with h2|h2
 rotate_left
 ·have e1:=Cg h2
  have:i=l.length:=by omega
  subst this;rw[Cw];refine AF AY e1 AB AB AB AB AB AB ?_;exact AM rfl AA.out
 have e1:=Ch h2;have wi:=Cc (i:=i) (by omega);obtain⟨x,hx⟩:=CO h2;have hm:(l.map AE.D)[i]?=some (.agg [str (sb x.grain),i64 x.mass,.sl false 2 (x.shs.map Au.D)]):=by rw[Ay,hx];rfl
 have wS:=(Ua hx).symm;refine AF AY (Bb e1 wi @wS kN) hm AB AB AB AB AB ?_;exact⟨(i+1,_),h2,by dsimp only;omega,AK⟩
def EI (n lo hi:Int):Bool:=decide (n>=lo)&&decide (n<=hi)
theorem PU (n lo hi:Int):AL C0 75 [i64 n,i64 lo,i64 hi] (Al (EI n lo hi)):=by
 refine Af.walk w1 gl rfl λF=>?_
 obtain⟨p,hp⟩:∃p,decide (n>=lo)=p:=⟨_,rfl⟩
 have hb:EI n lo hi=(p&&decide (n<=hi)):=by unfold EI;rw[hp]
 rw[hb];cases p
 ·refine AF AY (Ao hp kT kF) AB AB AB AB AB AB ?_
  exact AM rfl AA.out
 ·refine AF AY (Ao hp kT kF) AB AB AB AB AB AB ?_
  exact AM rfl AA.out
def Dc (side:Int)(l:List Int):Bool:=(List.range (l.length-1)).any λi=>!EI (IntKind.i64.wrap (l.getD (i+1) 0-l.getD i 0)) (IntKind.i64.wrap (0-side)) side
theorem eB {side:Int}{l:List Int}{i:Nat}(h:i+1<l.length)(hb:EI (IntKind.i64.wrap (l.getD (i+1) 0-l.getD i 0)) (IntKind.i64.wrap (0-side)) side=false):Dc side l=true:=by
 unfold Dc;rw[List.any_eq_true];exact⟨i,List.mem_range.2 (by omega),by rw[hb];rfl⟩
theorem eC {side:Int}{l:List Int}(h:∀i,i+1<l.length->EI (IntKind.i64.wrap (l.getD (i+1) 0-l.getD i 0)) (IntKind.i64.wrap (0-side)) side=true):Dc side l=false:=by
 unfold Dc;rw[List.any_eq_false];intro i hi
 have:=List.mem_range.1 hi
 rw[h i (by omega)];decide
theorem VY (x:Aq)(b:Bool)(l:List Int)(hl:l.length<=1000000):AL C0 41 [x.D,.sl b 1 (Cb l)] (i64 (if Dc x.side l then 17 else 0)):=by
 refine Af.walk w1 gN rfl λF=>?_
 have el:((Cb l).length:Int)=(l.length:Int):=by rw[Ab]
 have elN:(Cb l).length=l.length:=Ab ..;unfold Aq.D;obtain⟨cd,hcd⟩:∃d,Er false x.cells=d:=⟨_,rfl⟩
 have pcd:AA cd:=by rw[<-hcd];exact AJ
 have ncd:KP cd=true:=by rw[<-hcd];rfl
 rw[hcd];refine AF Ro el AB AB AB AB AB AB ?_;refine AC.loop (α:=Nat×Nat) (λp=>⟨[(1,.sl b 1 (Cb l)),(2,.optr 0 0 5 0 0),(5,i64 ((p.1+1:Nat):Int))],[⟨0,0,24,5,[.agg [str (sb x.flow),i64 x.core,i64 x.room,i64 x.side,cd]]⟩],p.2⟩) (λp=>l.length-p.1) (λp=>p.1<=l.length/\∀j,j<p.1->EI (IntKind.i64.wrap (l.getD (j+1) 0-l.getD j 0)) (IntKind.i64.wrap (0-x.side)) x.side=true) (0,_) ⟨BW _,λj h=>Ak h (HK j)⟩ AK ?_;rintro⟨i,m⟩ F ⟨hi,ha⟩;dsimp only at hi ha⊢;rcases BE (i+1) l.length with h2|h2
 rotate_left
 ·have e1:=Cg h2
  rw[eC λj hj=>ha j (by omega)];refine AF Ro (Aa el e1) AB AB AB AB AB AB ?_;exact AM rfl AA.out
 have e1:=Ch h2;have wi:=Cc (i:=i+1) (by omega);have w2:IntKind.i64.wrap (((i+1:Nat):Int)-1)=((i:Nat):Int):=by rw[wI];omega
 have hm1:=P2 (l:=l) (i:=i+1) h2;have hm2:=P2 (l:=l) (i:=i) (by omega);have cW:=PU (IntKind.i64.wrap (l.getD (i+1) 0-l.getD i 0)) (IntKind.i64.wrap (0-x.side)) x.side;have hbad:=eB (side:=x.side) h2;obtain⟨u,hu⟩:∃u,l.getD (i+1) 0=u:=⟨_,rfl⟩
 obtain⟨v,hv⟩:∃u,l.getD i 0=u:=⟨_,rfl⟩
 have hgood:=λ(hq:EI (IntKind.i64.wrap (u-v)) (IntKind.i64.wrap (0-x.side)) x.side=true) (j:Nat) (hj:j<i+1)=>show EI (IntKind.i64.wrap (l.getD (j+1) 0-l.getD j 0)) (IntKind.i64.wrap (0-x.side)) x.side=true from by
  rcases BE j i with h|h
  ·exact ha j h
  ·have:j=i:=by omega
   subst this;rw[hu,hv];exact hq
 rw[hu]at hm1 cW hbad;rw[hv]at hm2 cW hbad;obtain⟨q,hq⟩:∃q,EI (IntKind.i64.wrap (u-v)) (IntKind.i64.wrap (0-x.side)) x.side=q:=⟨_,rfl⟩
 rw[hq]at cW hbad hgood;obtain⟨L,hL⟩:∃L,Cb l=L:=⟨_,rfl⟩
 have pL:AA (.sl b 1 L):=by rw[<-hL];exact AJ
 rw[hL]at hm1 hm2 el⊢;cases q
 ·rw[hbad rfl]
  refine AF Ro (CS el e1 w2 wi kN) hm1 hm2 cW AB AB AB ?_;exact AM rfl AA.out
 ·refine AF Ro (CS el e1 w2 wi kN) hm1 hm2 cW AB AB AB ?_
  exact⟨(i+1,_),⟨by omega,hgood rfl⟩,by dsimp only;omega,AK⟩
def Cj (x:Aq):List Int:=x.cells.map DM
theorem VG (x:Aq)(hl:x.cells.length<=1000000)(hc:∀c∈x.cells,c.length<=9223372036854775807):AL C0 42 [x.D] (.sl false 1 (Cb (Cj x))):=by
 refine Af.walk w1 WM rfl λF=>?_
 obtain⟨cs,hcs⟩:∃c,x.cells=c:=⟨_,rfl⟩
 have hlv:Cj x=cs.map DM:=by unfold Cj;rw[hcs]
 rw[hlv];rw[hcs]at hl hc;have el:(((cs.map (AV false)).length:Nat):Int)=(cs.length:Int):=by rw[Ab]
 unfold Aq.D;rw[hcs];refine sR 0 ?_;refine sR 100 ?_;refine AC.seq ?_;refine sZ 200 ?_;refine AX el ?_;refine AC.ghost 504 3 1 [(3,.osl 504 _ 1 0 0),(7,Er false cs),(8,i64 (cs.length:Int)),(9,i64 ((0:Nat):Int))] ⟨.inr ⟨rfl,rfl⟩,.inl rfl,.inl rfl,.inl rfl,trivial⟩ ?_;refine AC.block ?_;refine AC.loop (α:=Nat×Nat×Nat) (λp=>⟨[(3,.osl 504 p.2.1 1 0 p.1),(7,Er false cs),(8,i64 (cs.length:Int)),(9,i64 (p.1:Int))],[⟨504,p.2.1,3,1,Cb ((cs.take p.1).map DM)⟩],p.2.2⟩) (λp=>cs.length-p.1) (λq=>q.1<=cs.length) (0,_,_) (BW _) AK ?_;rintro⟨i,g,n⟩ F hi;dsimp only at hi⊢;rcases BE i cs.length with h2|h2
 rotate_left
 ·have e1:=Cg h2
  have:i=cs.length:=by omega
  subst this;rw[Cw];have hf:=Fx (H:=[⟨504,g,3,1,Cb (cs.map DM)⟩]) (Hf:=[]) (k:=504) (g:=g) (T:=3) (sz:=1) (l:=Cb (cs.map DM)) rfl;rw[Ab,Ab]at hf;refine AF AY e1 AB AB AB AB AB AB ?_;exact⟨_,hf,AA.out,rfl⟩
 have e1:=Ch h2;have wi:=Cc (i:=i) (by omega);obtain⟨c,hc'⟩:=CO h2;have hm:(cs.map (AV false))[i]?=some (.sl false 3 (c.map AE.D)):=by rw[Ay,hc'];rfl
 have cT:=Sh false c (hc c (Ax hc'));have ht:Cb ((cs.take (i+1)).map DM)=Cb ((cs.take i).map DM)++[i64 (DM c)]:=by
  rw[Dp,hc',Cz];unfold Cb;rw[Cz];rfl
 have htl:(Cb ((cs.take i).map DM)).length=i:=by rw[Ab,Ab,Bc];omega
 obtain⟨R,hR⟩:∃R,Cb ((cs.take i).map DM)=R:=⟨_,rfl⟩
 rw[hR]at ht htl⊢;refine AF AY (Ao e1 wi kN) hm cT AB AB AB AB ?_;refine⟨(i+1,n+1+1+1+1+1+1+1+1,n+1000),h2,by dsimp only;omega,?_⟩;dsimp only;rw[ht,Cn (show R.length<=i by omega)];exact AK
open Go.ChangeShapes Go.WideShapes
def Aq.fit (x:Aq):Prop:=x.cells.length<=maxLen/\∀c∈x.cells,c.length<=maxLen/\∀y∈c,y.shs.length<=maxLen
section
variable {H:Type} {enc:TypeId×Value->H} {W:World} {fuel:Nat} {cs:List Value} {x:DataW H×List MemPlace} {t:TypeId}
theorem pV (h:DataW.trod enc Tryz.prog W 0 (λ_=>true) true fuel 22 cs=some x):∃l:List (List AE),D5 W cs [Er false l]/\(∀c∈l,c.length<=maxLen/\∀y∈c,y.shs.length<=maxLen)/\l.length<=maxLen:=
 Wf (g:=AV false) (ok:=λc=>c.length<=maxLen/\∀y∈c,y.shs.length<=maxLen) (e:=29) (sz:=1) (by kernel_rfl) (by kernel_rfl) (by decide) (λ_ _ _ h=>by
  obtain⟨l,h1,h2,h3⟩:=nP h;exact⟨l,h1,h3,h2⟩) h
theorem xU (h:DataW.trod enc Tryz.prog W 0 (λ_=>true) true fuel 24 cs=some x):∃s:Aq,D5 W cs s.D.cells/\s.fit:=by
 obtain⟨h1,n,h2⟩:=Sr (l:=[(9,0,1),(3,1,1),(3,2,1),(3,3,1),(22,4,1)]) (m:=5) (by kernel_rfl) (by kernel_rfl) h;obtain⟨y0,k0⟩:=h2 0 _ _ _ rfl;obtain⟨y1,k1⟩:=h2 1 _ _ _ rfl;obtain⟨y2,k2⟩:=h2 2 _ _ _ rfl;obtain⟨y3,k3⟩:=h2 3 _ _ _ rfl;obtain⟨y4,k4⟩:=h2 4 _ _ _ rfl;obtain⟨a0,r0,_⟩:=UG k0;obtain⟨a1,r1⟩:=Mg k1;obtain⟨a2,r2⟩:=Mg k2;obtain⟨a3,r3⟩:=Mg k3;obtain⟨a4,r4,hc,hl⟩:=pV k4;exact⟨⟨a0,a1,a2,a3,a4⟩,SJ h1 (KQ (b:=1) (c:=4) r0 (KQ (b:=1) (c:=3) r1 (KQ (b:=1) (c:=2) r2 (KQ (b:=1) (c:=1) r3 r4)))),hl,hc⟩
end
structure Wj where
 f:Int
 t:Int
 m:Int
def Wj.D (x:Wj):D:=.agg [i64 x.f,i64 x.t,i64 x.m]
section
variable {H:Type} {enc:TypeId×Value->H} {W:World} {fuel:Nat} {cs:List Value} {x:DataW H×List MemPlace} {t:TypeId}
theorem nR (h:DataW.trod enc Tryz.prog W 0 (λ_=>true) true fuel 26 cs=some x):∃s:Wj,D5 W cs s.D.cells/\True:=by
 obtain⟨h1,n,h2⟩:=Sr (l:=[(3,0,1),(3,1,1),(3,2,1)]) (m:=3) (by kernel_rfl) (by kernel_rfl) h;obtain⟨y0,k0⟩:=h2 0 _ _ _ rfl;obtain⟨y1,k1⟩:=h2 1 _ _ _ rfl;obtain⟨y2,k2⟩:=h2 2 _ _ _ rfl;obtain⟨a0,r0⟩:=Mg k0;obtain⟨a1,r1⟩:=Mg k1;obtain⟨a2,r2⟩:=Mg k2;exact⟨⟨a0,a1,a2⟩,SJ h1 (KQ (b:=1) (c:=2) r0 (KQ (b:=1) (c:=1) r1 r2)),trivial⟩
end
abbrev Mc:Dr:=[(2,[0,1,2,3,4,5,6,7,8,9,10,11,12,13,14,15,16,17,18,19,20,21,22,23,24,25,26,27,28,29,30,31,32],[33,34,35,36]),(8,[0,1,2,3,4,5,6,7],[8,9,10,11,12]),(12,[0,1,2],[3,4])]
open Go.Proofs Go.RowKit Go.Sort
set_option maxRecDepth 20000
set_option maxHeartbeats 4000000
def GA:ByteArray:=⟨#[109,97,115,115]⟩
def Jj:ByteArray:=⟨#[102,117,110,110,101,108]⟩
def Sj (x:Aq):Bool:=(BJ (sb x.flow) GA&&(x.core==0))||(BJ (sb x.flow) Jj&&EI x.core 2 999999999)
def M4 (x:Aq):Int:=if !BJ (sb x.flow) GA && !BJ (sb x.flow) Jj then 20 else 0
def Lu (x:Aq):Int:=if !Sj x || !EI x.room 1 999999999 || !EI x.side 0 999999999 then 3 else 0
def Gt (x:Aq):Int:=Ck [M4 x,Lu x,if(x.cells.length:Int)==0 then 2 else 0,if decide ((x.cells.length:Int)>8)then 5 else 0]
def Da (x:Aq)(c:List AE):Int:=Ck [(Bw c:Int),((if CI c then 0 else 16:Nat):Int),if decide (DM c>x.room)then 14 else 0]
def Ey (x:Aq):List (List AE)->Int
 | []=>0
 |c::r=>if Da x c≠0 then Da x c else Ey x r
def Cu (x:Aq):Int:=if Gt x≠0 then Gt x else if Ey x x.cells≠0 then Ey x x.cells else if Dc x.side (Cj x)then 17 else 0
theorem t7 (x:Aq)(hl:x.cells.length<=1000000)(hc:∀c∈x.cells,c.length<=1000000/\∀y∈c,y.few):AL C0 69 [x.D] (i64 (Cu x)):=by
 refine Af.walk w1 ge rfl λF=>?_
 have cLv:=VG x hl λc h=>by have:=(hc c h).1;omega
 have cSt:=VY x false (Cj x) (by unfold Cj;rw[Ab];exact hl);have cC1:=PU x.core 2 999999999;have cC2:=PU x.room 1 999999999;have cC3:=PU x.side 0 999999999;have cF:=I6 [M4 x,Lu x,if(x.cells.length:Int)==0 then 2 else 0,if decide ((x.cells.length:Int)>8)then 5 else 0] (by simp);have hF:Ck [M4 x,Lu x,if(x.cells.length:Int)==0 then 2 else 0,if decide ((x.cells.length:Int)>8)then 5 else 0]=Gt x:=rfl;rw[hF]at cF;have cW3:=GQ ((x.cells.length:Int)==0) 2;have cW4:=GQ (decide ((x.cells.length:Int)>8)) 5;obtain⟨cs,hcs⟩:∃c,x.cells=c:=⟨_,rfl⟩
 have el:(((cs.map (AV false)).length:Nat):Int)=(cs.length:Int):=by rw[Ab]
 obtain⟨H,hH⟩:∃h,Gt x=h:=⟨_,rfl⟩
 have hB:Cu x=if H≠0 then H else if Ey x x.cells≠0 then Ey x x.cells else if Dc x.side (Cj x)then 17 else 0:=by unfold Cu;rw[hH]
 obtain⟨K1,hK1⟩:∃h,M4 x=h:=⟨_,rfl⟩
 obtain⟨K2,hK2⟩:∃h,Lu x=h:=⟨_,rfl⟩
 obtain⟨CB,hCB⟩:∃h,Sj x=h:=⟨_,rfl⟩
 rw[hK1,hK2,hH]at cF;rw[hB];rw[hcs]at cF cW3 cW4 hl hc⊢;unfold Aq.D at cLv cSt⊢;rw[hcs]at cLv cSt⊢;refine sR 0 ?_;refine DA ⟨[(1,.optr 0 0 5 0 0),(3,Al CB)],[⟨0,0,24,5,[.agg [str (sb x.flow),i64 x.core,i64 x.room,i64 x.side,Er false cs]]⟩],100⟩ ?_ ?_
 ·obtain⟨p1,h1⟩:∃q,BJ (sb x.flow) ⟨#[109,97,115,115]⟩=q:=⟨_,rfl⟩
  obtain⟨p2,h2⟩:∃q,BJ (sb x.flow) ⟨#[102,117,110,110,101,108]⟩=q:=⟨_,rfl⟩
  obtain⟨c0,h0⟩:∃q,(x.core==0)=q:=⟨_,rfl⟩
  have hb:CB=((p1&&c0)||(p2&&EI x.core 2 999999999)):=by rw[<-hCB,<-h1,<-h2,<-h0];rfl
  rw[hb];cases p1<;>cases p2<;>cases c0
  all_goals
   refine AF Mc (CS h1 h2 h0 kT kF) cC1 AB AB AB AB AB ?_;exact⟨trivial,AK⟩
 refine DA ⟨[(1,.optr 0 0 5 0 0),(4,i64 H)],[⟨0,0,24,5,[.agg [str (sb x.flow),i64 x.core,i64 x.room,i64 x.side,Er false cs]]⟩],1000⟩ ?_ ?_
 ·obtain⟨p1,h1⟩:∃q,BJ (sb x.flow) ⟨#[109,97,115,115]⟩=q:=⟨_,rfl⟩
  obtain⟨p2,h2⟩:∃q,BJ (sb x.flow) ⟨#[102,117,110,110,101,108]⟩=q:=⟨_,rfl⟩
  obtain⟨wr,hr⟩:∃q,EI x.room 1 999999999=q:=⟨_,rfl⟩
  obtain⟨ws,hw⟩:∃q,EI x.side 0 999999999=q:=⟨_,rfl⟩
  have e1:M4 x=if !p1 && !p2 then 20 else 0:=by rw[<-h1,<-h2];rfl
  have e2:Lu x=if !CB || !wr || !ws then 3 else 0:=by rw[<-hCB,<-hr,<-hw];rfl
  have cA:=GQ (!p1 && !p2) 20;have cB:=GQ (!CB || !wr || !ws) 3;rw[<-e1,hK1]at cA;rw[<-e2,hK2]at cB;rw[hr]at cC2;rw[hw]at cC3;clear e1 e2 hcs hK1 hK2 hCB hF cC1 cLv cSt hr hw;cases p1<;>cases p2<;>cases CB<;>cases wr
  all_goals
   refine AF Mc (CS h1 h2 el kT kF) cA cC2 cC3 cB cW3 cW4 ?_;refine BF.same _ cF AJ ?_;refine BU ?_;exact⟨trivial,AK⟩
 by_cases hH0:H=0
 rotate_left
 ·have e1:(H != 0)=true:=FW hH0
  rw[AI hH0];refine AF Mc e1 AB AB AB AB AB AB ?_;exact AM rfl AA.out
 have e1:(H != 0)=false:=by rw[hH0];rfl
 rw[AH (λh=>h hH0)];clear cC1 cC2 cC3 cF cW3 cW4 hK1 hK2 hCB hF hB;refine AF Mc (Aa e1 el) AB AB AB AB AB AB ?_;refine AC.loop (α:=Nat×Nat) (λp=>⟨[(1,.optr 0 0 5 0 0),(66,Er false cs),(67,i64 (cs.length:Int)),(68,i64 (p.1:Int))],[⟨0,0,24,5,[.agg [str (sb x.flow),i64 x.core,i64 x.room,i64 x.side,Er false cs]]⟩],p.2⟩) (λp=>cs.length-p.1) (λq=>q.1<=cs.length/\Ey x (cs.drop q.1)=Ey x cs) (0,_) ⟨BW _,rfl⟩ AK ?_;rintro⟨i,n⟩ F ⟨hi,hJ⟩;dsimp only at hi hJ⊢;rcases BE i cs.length with h2|h2
 rotate_left
 ·have k1:=Cg h2
  have:i=cs.length:=by omega
  subst this;rw[JS]at hJ;rw[AH (λh=>h (by rw[<-hJ];rfl))];have pLv:AA (.sl false 1 (Cb (Cj x))):=AJ;refine AF Mc k1 cLv cSt AB AB AB AB ?_;exact AM rfl AA.out
 have k1:=Ch h2;have wi:=Cc (i:=i) (by omega);obtain⟨c,hc'⟩:=CO h2;have hm:(cs.map (AV false))[i]?=some (.sl false 3 (c.map AE.D)):=by rw[Ay,hc'];rfl
 obtain⟨hc1,hc2⟩:=hc c (Ax hc');have cP:=M2 false c (by omega) hc2;have cG:=UP false c hc1;have cT:=Sh false c (by omega);have cW:=GQ (decide (DM c>x.room)) 14;have cE:=I6 [(Bw c:Int),((if CI c then 0 else 16:Nat):Int),if decide (DM c>x.room)then 14 else 0] (by simp);have hE:Ck [(Bw c:Int),((if CI c then 0 else 16:Nat):Int),if decide (DM c>x.room)then 14 else 0]=Da x c:=rfl;rw[hE]at cE;have hd:cs.drop i=c::cs.drop (i+1):=by
  have:=BS.1 hc'
  rw[Et this.1,this.2]
 rw[hd]at hJ;have hJ2:Ey x cs=if Da x c≠0 then Da x c else Ey x (cs.drop (i+1)):=hJ.symm
 obtain⟨E,hEE⟩:∃E,Da x c=E:=⟨_,rfl⟩
 rw[hEE]at cE hJ2
 by_cases hE0:E=0
 ·have k2:(E != 0)=false:=by rw[hE0];rfl
  rw[AH (λh=>h hE0)]at hJ2;refine AF Mc (Bb k1 k2 wi kN) hm cP cG cT cW cE ?_;exact⟨(i+1,_),⟨h2,hJ2.symm⟩,by dsimp only;omega,AK⟩
 ·have k2:(E != 0)=true:=FW hE0
  rw[AI hE0]at hJ2;rw[hJ2,AI hE0];refine AF Mc (Bb k1 k2 wi kN) hm cP cG cT cW cE ?_;exact AM rfl AA.out
abbrev Rp:Dr:=[(4,[0,1,2,3,4,5,6,7,8,9],[10])]
open Go.Proofs Go.RowKit Go.Sort
set_option maxRecDepth 20000
set_option maxHeartbeats 4000000
theorem SK (x:Aq)(i:Nat)(c:List AE)(hc:x.cells[i]?=some c)(hs:Ib c)(hl:x.cells.length<=1000000):AL C0 44 [x.D,i64 (i:Int)] (i64 (AZ c)):=by
 refine Af.walk w1 zX rfl λF=>?_
 have cM:=Su false c hs;have hi:=(BS.1 hc).1;obtain⟨cs,hcs⟩:∃c,x.cells=c:=⟨_,rfl⟩
 unfold Aq.D;rw[hcs]at hc hl hi⊢;have hm:(cs.map (AV false))[i]?=some (.sl false 3 (c.map AE.D)):=by rw[Ay,hc];rfl
 have hml:(cs.map (AV false)).length=cs.length:=Ab ..;obtain⟨K,hK⟩:∃K,cs.map (AV false)=K:=⟨_,rfl⟩
 have pK:AA (.sl false 1 K):=by rw[<-hK];exact AJ
 show AC _ _ _ _ _ ⟨Dj 0 [.agg [str (sb x.flow),i64 x.core,i64 x.room,i64 x.side,.sl false 1 (cs.map (AV false))],i64 (i:Int)],[],0⟩ _;rw[hK]at hm hml⊢;refine AF AY kN hm cM AB AB AB AB ?_;exact AM rfl AA.out
theorem xS (u v:Int):AL C0 83 [i64 u,i64 v] (i64 (max (IntKind.i64.wrap (u-v)) (IntKind.i64.wrap (v-u)))):=by
 refine Af.walk w1 yr rfl λF=>?_
 refine AF AY kB AB AB AB AB AB AB ?_;exact AM rfl AA.out
theorem Wg (x:Aq)(hl:x.cells.length<=1000000)(hc:∀c∈x.cells,Ib c/\0<=AZ c/\AZ c<=999999999)(hside:0<=x.side/\x.side<=999999999):AL C0 46 [x.D] (Al (!Dc x.side (Cj x))):=by
 refine Af.walk w1 zZ rfl λF=>?_
 have hlvl:=λ(i:Nat) (c:List AE) (h:x.cells[i]?=some c)=>SK x i c h (hc c (Ax h)).1 hl
 have hlv:∀(i:Nat) (c:List AE),x.cells[i]?=some c->(Cj x).getD i 0=AZ c:=λi c h=>by
  unfold Cj;rw[EK,Ay,h];exact NU (hc c (Ax h)).1
 have hlen:(Cj x).length=x.cells.length:=by unfold Cj;rw[Ab]
 obtain⟨cs,hcs⟩:∃c,x.cells=c:=⟨_,rfl⟩
 have el:(((cs.map (AV false)).length:Nat):Int)=(cs.length:Int):=by rw[Ab]
 unfold Aq.D at hlvl⊢;rw[hcs]at hlvl hlv hlen hl hc⊢;refine AF Rp kB AB AB AB AB AB AB ?_;refine AC.loop (α:=Nat×Nat) (λp=>⟨[(1,.optr 0 0 5 0 0),(3,i64 ((p.1+1:Nat):Int))],[⟨0,0,24,5,[.agg [str (sb x.flow),i64 x.core,i64 x.room,i64 x.side,Er false cs]]⟩],p.2⟩) (λp=>cs.length-p.1) (λp=>p.1<=cs.length/\∀j,j<p.1->EI (IntKind.i64.wrap ((Cj x).getD (j+1) 0-(Cj x).getD j 0)) (IntKind.i64.wrap (0-x.side)) x.side=true) (0,_) ⟨BW _,λj h=>Ak h (HK j)⟩ AK ?_;rintro⟨i,m⟩ F ⟨hi,ha⟩;dsimp only at hi ha⊢;rcases BE (i+1) cs.length with h2|h2
 rotate_left
 ·have e1:=Cg h2
  rw[eC (side:=x.side) (l:=Cj x) λj hj=>ha j (by omega)];refine AF Rp (Aa el e1) AB AB AB AB AB AB ?_;exact AM rfl AA.out
 have e1:=Ch h2;have wi:=Cc (i:=i+1) (by omega);have w2:IntKind.i64.wrap (((i+1:Nat):Int)-1)=((i:Nat):Int):=by rw[wI];omega
 obtain⟨c,hc1⟩:=CO (show i<cs.length by omega);obtain⟨d,hd1⟩:=CO h2;have c1:=hlvl i c hc1;have c2:=hlvl (i+1) d hd1;have v1:=hlv i c hc1;have v2:=hlv (i+1) d hd1;obtain⟨-,a1,a2⟩:=hc c (Ax hc1);obtain⟨-,b1,b2⟩:=hc d (Ax hd1);have c3:=xS (AZ c) (AZ d);have hbad:=eB (side:=x.side) (l:=Cj x) (i:=i) (by omega);rw[v1,v2]at hbad;have q1:IntKind.i64.wrap (AZ c-AZ d)=AZ c-AZ d:=wI;have q2:IntKind.i64.wrap (AZ d-AZ c)=AZ d-AZ c:=wI;have q3:IntKind.i64.wrap (0-x.side)=0-x.side:=wI;rw[q1,q2]at c3
 by_cases hg:max (AZ c-AZ d) (AZ d-AZ c)>x.side
 ·have e2:decide (max (AZ c-AZ d) (AZ d-AZ c)>x.side)=true:=Aw hg
  rw[hbad (by rw[q2,q3];unfold EI;rw[Bool.and_eq_false_iff,JN,JN];omega)];refine AF Rp (D9 el e1 e2 w2 wi kN) c1 c2 c3 AB AB AB ?_;exact AM rfl AA.out
 ·have e2:decide (max (AZ c-AZ d) (AZ d-AZ c)>x.side)=false:=Az hg
  refine AF Rp (D9 el e1 e2 w2 wi kN) c1 c2 c3 AB AB AB ?_;refine⟨(i+1,_),⟨by omega,λj hj=>?_⟩,by dsimp only;omega,AK⟩;rcases BE j i with h|h
  ·exact ha j h
  ·have:j=i:=by dsimp only at hj;omega
   subst this;rw[v1,v2,q2,q3];unfold EI;rw[BZ,decide_eq_true_iff,decide_eq_true_iff];omega
theorem Zj {l:List UInt8}(h:BJ (sb l) GA=true):BJ (sb l) Jj=false:=by
 have h1:BJ (sb l) (sb [109,97,115,115])=true:=h;rw[LH]at h1;rw[DN h1];show BJ (sb [109,97,115,115]) (sb [102,117,110,110,101,108])=false;rw[LH];decide
def Lq (x:Aq):Bool:=(BJ (sb x.flow) GA&&(x.core != 0))||(BJ (sb x.flow) Jj&&(decide (x.core<2)||decide (x.core>999999999)))||decide (x.room<1)||decide (x.room>999999999)||decide (x.side<0)||decide (x.side>999999999)
theorem x8 {x:Aq}(h:(!BJ (sb x.flow) GA && !BJ (sb x.flow) Jj)=false):Lu x=if Lq x then 3 else 0:=by
 have hx:=@Zj x.flow;unfold Lu Lq Sj EI;obtain⟨p1,h1⟩:∃q,BJ (sb x.flow) GA=q:=⟨_,rfl⟩
 obtain⟨p2,h2⟩:∃q,BJ (sb x.flow) Jj=q:=⟨_,rfl⟩
 rw[h1,h2]at h hx⊢;have e:(!(p1&&x.core==0||p2&&(decide (x.core>=2)&&decide (x.core<=999999999))) || !(decide (x.room>=1)&&decide (x.room<=999999999)) || !(decide (x.side>=0)&&decide (x.side<=999999999)))
   = (p1&&x.core != 0||p2&&(decide (x.core<2)||decide (x.core>999999999))||decide (x.room<1)||decide (x.room>999999999)||decide (x.side<0)||decide (x.side>999999999)):=by
  cases p1<;>cases p2
  ·cases h
  ·rw[GU];simp;omega
  ·rw[GU];simp;omega
  ·cases hx rfl
 rw[e]
theorem Vl (x:Aq):Gt x=if(!BJ (sb x.flow) GA && !BJ (sb x.flow) Jj)=true then 20 else if Lq x=true then 3 else if x.cells.length=0 then 2 else if 8<x.cells.length then 5 else 0:=by
 unfold Gt M4;cases h:(!BJ (sb x.flow) GA && !BJ (sb x.flow) Jj)
 ·rw[x8 h,AH Bool.false_ne_true,AH Bool.false_ne_true]
  cases Lq x
  ·rw[AH Bool.false_ne_true,AH Bool.false_ne_true]
   by_cases h0:x.cells.length=0
   ·rw[AI h0,h0];rfl
   ·have:((x.cells.length:Int)==0)=false:=Bo.2 (by omega)
    rw[AH h0,this]
    by_cases h8:8<x.cells.length
    ·rw[AI h8,show decide ((x.cells.length:Int)>8)=true from BR];rfl
    ·rw[AH h8,show decide ((x.cells.length:Int)>8)=false from Bd];rfl
  ·rfl
 ·rfl
theorem T3 {x:Aq}:∀ {l:List (List AE)},Ey x l=0->∀c∈l,Da x c=0
 | [],_,c,h=>by cases h
 |d::r,h,c,hc=>by
  have h1:(if Da x d≠0 then Da x d else Ey x r)=0:=h
  by_cases h0:Da x d=0
  ·rw[AH (λq=>q h0)]at h1
   rcases A8.1 hc with rfl|h2
   ·exact h0
   ·exact T3 h1 c h2
  ·rw[AI h0]at h1;exact Ak h1 h0
theorem Jk:∀ {l:List AE},(∀x∈l,0<=x.mass)->0<=AZ l
 | [],_=>Int.le_refl _
 |x::l,h=>by
  have h1:=h x (CF ..);have h2:=Jk λy hy=>h y (CL _ hy)
  have:AZ (x::l)=x.mass+AZ l:=by unfold AZ;rfl
  omega
theorem HT {x:Aq}{c:List AE}(h:Da x c=0):Bw c=0/\CI c=true/\Ib c/\0<=AZ c/\AZ c<=999999999/\AZ c<=x.room:=by
 have h1:(if(Bw c:Int)≠0 then(Bw c:Int)else if((if CI c then 0 else 16:Nat):Int)≠0 then((if CI c then 0 else 16:Nat):Int)else if(if decide (DM c>x.room)then(14:Int)else 0)≠0 then(if decide (DM c>x.room)then(14:Int)else 0)else 0)=0:=h
 by_cases hp:Bw c=0
 rotate_left
 ·rw[DQ]at h1;omega
 rw[hp,AH (λq=>q rfl)]at h1;obtain⟨g1,g2,g3⟩:=DW hp;have g4:=(Ia hp).2.2;have hT:=NU g3;have g5:0<=AZ c:=Jk λy hy=>by have:=(g2 y hy).1;omega
 cases hg:CI c
 ·rw[hg]at h1;cases h1
 rw[hg,AH (by decide)]at h1;refine⟨hp,rfl,g3,g5,g4,?_⟩;rw[hT]at h1
 by_cases hr:AZ c>x.room
 ·rw[Aw hr]at h1;cases h1
 ·omega
theorem qD {x:Aq}{c:List AE}(h:Bw c≠0):Da x c=(Bw c:Int):=by
 show(if(Bw c:Int)≠0 then _ else _)=_;rw[DQ]
theorem tK {x:Aq}{c:List AE}(h:Bw c=0)(hg:CI c=false):Da x c=16:=by
 show(if(Bw c:Int)≠0 then _ else if((if CI c then 0 else 16:Nat):Int)≠0 then((if CI c then 0 else 16:Nat):Int)else _)=_;rw[h,hg];rfl
theorem nl {x:Aq}{c:List AE}(h:Bw c=0)(hg:CI c=true)(hr:AZ c>x.room):Da x c=14:=by
 have hT:=NU (DW h).2.2;show(if(Bw c:Int)≠0 then _ else if((if CI c then 0 else 16:Nat):Int)≠0 then((if CI c then 0 else 16:Nat):Int)else if(if decide (DM c>x.room)then(14:Int)else 0)≠0 then(if decide (DM c>x.room)then(14:Int)else 0)else 0)=_;rw[h,hg,hT,Aw hr];rfl
theorem ZD {x:Aq}{c:List AE}(h:Bw c=0)(hg:CI c=true)(hr:¬AZ c>x.room):Da x c=0:=by
 have hT:=NU (DW h).2.2;show(if(Bw c:Int)≠0 then _ else if((if CI c then 0 else 16:Nat):Int)≠0 then((if CI c then 0 else 16:Nat):Int)else if(if decide (DM c>x.room)then(14:Int)else 0)≠0 then(if decide (DM c>x.room)then(14:Int)else 0)else 0)=_;rw[h,hg,hT,Az hr];rfl
abbrev Ed:Dr:=[(17,[0,1,2,3,4],[5])]
open Go.Proofs Go.RowKit Go.Sort
set_option maxRecDepth 20000
set_option maxHeartbeats 4000000
theorem VN (x:Aq)(hl:x.cells.length<=1000000)(hc:∀c∈x.cells,c.length<=1000000/\∀y∈c,y.modr):AL C0 16 [x.D] (i64 (Cu x)):=by
 refine Af.walk w1 zP rfl λF=>?_
 have hB:Cu x=if Gt x≠0 then Gt x else if Ey x x.cells≠0 then Ey x x.cells else if Dc x.side (Cj x)then 17 else 0:=rfl
 have hH:=Vl x;have hlvl:=λ(i:Nat) (c:List AE) (h:x.cells[i]?=some c) (hs:Ib c)=>SK x i c h hs hl
 have hsafe:=λ(h1:∀c∈x.cells,Da x c=0) (h2:0<=x.side/\x.side<=999999999)=>Wg x hl (λc hq=>by
  obtain⟨-,-,g1,g2,g3,-⟩:=HT (h1 c hq);exact⟨g1,g2,g3⟩) h2
 obtain⟨p1,h1⟩:∃q,BJ (sb x.flow) ⟨#[109,97,115,115]⟩=q:=⟨_,rfl⟩
 obtain⟨p2,h2⟩:∃q,BJ (sb x.flow) ⟨#[102,117,110,110,101,108]⟩=q:=⟨_,rfl⟩
 have hex:p1=true->p2=false:=λq=>by rw[<-h2];exact Zj (h1.trans q)
 have hr:Lq x=((p1&&(x.core != 0))||(p2&&(decide (x.core<2)||decide (x.core>999999999)))||decide (x.room<1)||decide (x.room>999999999)||decide (x.side<0)||decide (x.side>999999999)):=by rw[<-h1,<-h2];rfl
 rw[show BJ (sb x.flow) GA=p1 from h1,show BJ (sb x.flow) Jj=p2 from h2]at hH;obtain⟨R,hR⟩:∃r,Lq x=r:=⟨_,rfl⟩
 rw[hR]at hH hr;have hside:R=false->0<=x.side/\x.side<=999999999:=λq=>by
  rw[q]at hr
  have:=hr.symm
  simp only[Jw,JN]at this;omega
 obtain⟨cs,hcs⟩:∃c,x.cells=c:=⟨_,rfl⟩
 have el:(((cs.map (AV false)).length:Nat):Int)=(cs.length:Int):=by rw[Ab]
 unfold Aq.D at hlvl hsafe⊢;rw[hcs]at hlvl hsafe hB hH hc hl⊢;refine sR 0 ?_;cases hk:(!p1 && !p2)
 rotate_left
 ·rw[AI hk]at hH
  rw[hH,AI (by decide)]at hB;rw[hB];have hp:p1=false/\p2=false:=by cases p1<;>cases p2<;>first|exact⟨rfl,rfl⟩|cases hk
  obtain⟨rfl,rfl⟩:=hp;refine AF Ed (Bb h1 h2 kT kF) AB AB AB AB AB AB ?_;exact AM rfl AA.out
 rw[AH (by rw[hk];exact Bool.false_ne_true)]at hH;have hp:(p1=true/\p2=false)\/(p1=false/\p2=true):=by
  cases p1
  ·cases p2
   ·cases hk
   ·exact .inr ⟨rfl,rfl⟩
  ·exact .inl ⟨rfl,hex rfl⟩
 clear hex hk;refine DA ⟨[(1,.optr 0 0 5 0 0)],[⟨0,0,24,5,[.agg [str (sb x.flow),i64 x.core,i64 x.room,i64 x.side,Er false cs]]⟩],100⟩ ?_ ?_
 ·rcases hp with⟨rfl,rfl⟩|⟨rfl,rfl⟩
  all_goals
   refine AF Ed (Bb h1 h2 kT kF) AB AB AB AB AB AB ?_;exact⟨trivial,AK⟩
 obtain⟨c0,e0⟩:∃q,(x.core != 0)=q:=⟨_,rfl⟩
 obtain⟨c1,e1⟩:∃q,decide (x.core<2)=q:=⟨_,rfl⟩
 obtain⟨c2,e2⟩:∃q,decide (x.core>999999999)=q:=⟨_,rfl⟩
 obtain⟨u1,r1⟩:∃q,decide (x.room<1)=q:=⟨_,rfl⟩
 obtain⟨u2,r2⟩:∃q,decide (x.room>999999999)=q:=⟨_,rfl⟩
 obtain⟨v1,s1⟩:∃q,decide (x.side<0)=q:=⟨_,rfl⟩
 obtain⟨v2,s2⟩:∃q,decide (x.side>999999999)=q:=⟨_,rfl⟩
 rw[e0,e1,e2,r1,r2,s1,s2]at hr;cases R
 rotate_left
 ·rw[AI rfl]at hH
  rw[hH,AI (by decide)]at hB;rw[hB];clear hlvl hsafe hB hH el;rcases hp with⟨rfl,rfl⟩|⟨rfl,rfl⟩
  ·cases c0
   rotate_left
   ·refine AF Ed (CM e0 e1 e2 r1 r2 s1 (CS s2 h1 h2 kT kF)) AB AB AB AB AB AB ?_
    exact AM rfl AA.out
   cases u1
   rotate_left
   ·refine AF Ed (CM e0 e1 e2 r1 r2 s1 (CS s2 h1 h2 kT kF)) AB AB AB AB AB AB ?_
    exact AM rfl AA.out
   cases u2
   rotate_left
   ·refine AF Ed (CM e0 e1 e2 r1 r2 s1 (CS s2 h1 h2 kT kF)) AB AB AB AB AB AB ?_
    exact AM rfl AA.out
   cases v1
   rotate_left
   ·refine AF Ed (CM e0 e1 e2 r1 r2 s1 (CS s2 h1 h2 kT kF)) AB AB AB AB AB AB ?_
    exact AM rfl AA.out
   cases v2
   rotate_left
   ·refine AF Ed (CM e0 e1 e2 r1 r2 s1 (CS s2 h1 h2 kT kF)) AB AB AB AB AB AB ?_
    exact AM rfl AA.out
   cases hr
  ·cases c1
   rotate_left
   ·refine AF Ed (CM e0 e1 e2 r1 r2 s1 (CS s2 h1 h2 kT kF)) AB AB AB AB AB AB ?_
    exact AM rfl AA.out
   cases c2
   rotate_left
   ·refine AF Ed (CM e0 e1 e2 r1 r2 s1 (CS s2 h1 h2 kT kF)) AB AB AB AB AB AB ?_
    exact AM rfl AA.out
   cases u1
   rotate_left
   ·refine AF Ed (CM e0 e1 e2 r1 r2 s1 (CS s2 h1 h2 kT kF)) AB AB AB AB AB AB ?_
    exact AM rfl AA.out
   cases u2
   rotate_left
   ·refine AF Ed (CM e0 e1 e2 r1 r2 s1 (CS s2 h1 h2 kT kF)) AB AB AB AB AB AB ?_
    exact AM rfl AA.out
   cases v1
   rotate_left
   ·refine AF Ed (CM e0 e1 e2 r1 r2 s1 (CS s2 h1 h2 kT kF)) AB AB AB AB AB AB ?_
    exact AM rfl AA.out
   cases v2
   rotate_left
   ·refine AF Ed (CM e0 e1 e2 r1 r2 s1 (CS s2 h1 h2 kT kF)) AB AB AB AB AB AB ?_
    exact AM rfl AA.out
   cases hr
 rw[AH Bool.false_ne_true]at hH;have hsd:=hside rfl;refine DA ⟨[(1,.optr 0 0 5 0 0)],[⟨0,0,24,5,[.agg [str (sb x.flow),i64 x.core,i64 x.room,i64 x.side,Er false cs]]⟩],1000⟩ ?_ ?_
 ·clear hlvl hsafe hB hH
  cases v2
  rotate_left
  ·simp at hr
  cases v1
  rotate_left
  ·simp at hr
  cases u2
  rotate_left
  ·simp at hr
  cases u1
  rotate_left
  ·simp at hr
  rcases hp with⟨rfl,rfl⟩|⟨rfl,rfl⟩
  ·cases c0
   rotate_left
   ·cases hr
   refine AF Ed (CM e0 e1 e2 r1 r2 s1 (CS s2 h1 h2 kT kF)) AB AB AB AB AB AB ?_;exact⟨trivial,AK⟩
  ·cases c1
   rotate_left
   ·cases hr
   cases c2
   rotate_left
   ·cases hr
   refine AF Ed (CM e0 e1 e2 r1 r2 s1 (CS s2 h1 h2 kT kF)) AB AB AB AB AB AB ?_;exact⟨trivial,AK⟩
 clear hr e0 e1 e2 r1 r2 s1 s2 hp h1 h2 hR
 by_cases h0:cs.length=0
 ·rw[AI h0]at hH
  rw[hH,AI (by decide)]at hB;rw[hB];have k0:((cs.length:Int)==0)=true:=by rw[h0];rfl
  refine AF Ed (Aa el k0) AB AB AB AB AB AB ?_;exact AM rfl AA.out
 rw[AH h0]at hH;have k0:((cs.length:Int)==0)=false:=Bo.2 (by omega)
 by_cases h8:8<cs.length
 ·rw[AI h8]at hH
  rw[hH,AI (by decide)]at hB;rw[hB];have k8:decide ((cs.length:Int)>8)=true:=BR;refine AF Ed (Ao el k0 k8) AB AB AB AB AB AB ?_;exact AM rfl AA.out
 rw[AH h8]at hH;rw[hH,AH (λh=>h rfl)]at hB;rw[hB];have k8:decide ((cs.length:Int)>8)=false:=Bd;clear hB hH hside;refine AF Ed (Ao el k0 k8) AB AB AB AB AB AB ?_;refine AC.loop (α:=Nat×Nat) (λp=>⟨[(1,.optr 0 0 5 0 0),(3,i64 (p.1:Int))],[⟨0,0,24,5,[.agg [str (sb x.flow),i64 x.core,i64 x.room,i64 x.side,Er false cs]]⟩],p.2⟩) (λp=>cs.length-p.1) (λq=>q.1<=cs.length/\Ey x (cs.drop q.1)=Ey x cs) (0,_) ⟨BW _,rfl⟩ AK ?_;rintro⟨i,n⟩ F ⟨hi,hJ⟩;dsimp only at hi hJ⊢;rcases BE i cs.length with h2|h2
 rotate_left
 ·have k1:=Cg h2
  have:i=cs.length:=by omega
  subst this;rw[JS]at hJ;have hz:Ey x cs=0:=hJ.symm;have cS:=hsafe (T3 hz) hsd;rw[AH (λh=>h hz)];cases hq:Dc x.side (Cj x)
  ·rw[hq]at cS
   rw[AH Bool.false_ne_true];refine AF Ed (Bb k1 el kT kF) cS AB AB AB AB AB ?_;exact AM rfl AA.out
  ·rw[hq]at cS
   rw[AI rfl];refine AF Ed (Bb k1 el kT kF) cS AB AB AB AB AB ?_;exact AM rfl AA.out
 have k1:=Ch h2;have wi:=Cc (i:=i) (by omega);obtain⟨c,hc'⟩:=CO h2;have hm:(cs.map (AV false))[i]?=some (.sl false 3 (c.map AE.D)):=by rw[Ay,hc'];rfl
 obtain⟨hc1,hc2⟩:=hc c (Ax hc');have cP:=iu false c hc1 hc2;have cG:=av false c hc1;have hd:cs.drop i=c::cs.drop (i+1):=by
  have:=BS.1 hc'
  rw[Et this.1,this.2]
 rw[hd]at hJ;have hJ2:Ey x cs=if Da x c≠0 then Da x c else Ey x (cs.drop (i+1)):=hJ.symm
 by_cases hp:Bw c=0
 rotate_left
 ·rw[qD hp,DQ]at hJ2
  have k2:(((Bw c:Nat):Int) != 0)=true:=FW (by omega);rw[AI (by rw[hJ2];omega),hJ2];refine AF Ed (Bb k1 el k2 kN) hm cP AB AB AB AB ?_;exact AM rfl AA.out
 rw[hp]at cP;have k2:(((0:Nat):Int) != 0)=false:=rfl;have hsm:=(DW hp).2.2;have cL:=hlvl i c hc' hsm;cases hg:CI c
 ·rw[hg]at cG
  rw[tK hp hg,AI (by decide)]at hJ2;rw[AI (by rw[hJ2];decide),hJ2];refine AF Ed (D9 k1 el k2 kT kF kN) hm cP cG AB AB AB ?_;exact AM rfl AA.out
 rw[hg]at cG
 by_cases hrm:AZ c>x.room
 ·have k3:decide (AZ c>x.room)=true:=Aw hrm
  rw[nl hp hg hrm,AI (by decide)]at hJ2;rw[AI (by rw[hJ2];decide),hJ2];refine AF Ed (CM k1 el k2 k3 kT kF kN) hm cP cG cL AB AB ?_;exact AM rfl AA.out
 ·have k3:decide (AZ c>x.room)=false:=Az hrm
  rw[ZD hp hg hrm,AH (λh=>h rfl)]at hJ2;refine AF Ed (CM k1 el k2 k3 wi kT (Aa kF kN)) hm cP cG cL AB AB ?_;exact⟨(i+1,_),⟨h2,hJ2.symm⟩,by dsimp only;omega,AK⟩
def Gu (x:Aq)(i:Int):Bool:=EI i 0 ((x.cells.length:Int)-1)
theorem yM (x:Aq)(hl:x.cells.length<=1000000)(i:Int):AL C0 74 [i64 i,.pptr x.D] (Al (!Gu x i)):=by
 refine Af.walk w1 gj rfl λF=>?_
 have cW:=PU i 0 ((x.cells.length:Int)-1);have hb:Gu x i=EI i 0 ((x.cells.length:Int)-1):=rfl;have w2:IntKind.i64.wrap ((x.cells.length:Int)-1)=(x.cells.length:Int)-1:=wI;obtain⟨cs,hcs⟩:∃c,x.cells=c:=⟨_,rfl⟩
 have el:(((cs.map (AV false)).length:Nat):Int)=(cs.length:Int):=by rw[Ab]
 unfold Aq.D;rw[hb];rw[hcs]at cW w2⊢;refine AF AY (Aa el w2) cW AB AB AB AB AB ?_;exact AM rfl AA.out
theorem zk (b:Bool)(l:List Int)(c:D)[pc:AA c](p:Int->Bool)(hl:l.length<=1000000)(hc:∀x∈l,AL C0 74 [i64 x,c] (Al (p x))):AL C0 108 [.sl b 1 (Cb l),.clo (.func 74) [] [c]] (i64 (Ki p l)):=by
 refine Af.walk w1 cj rfl λF=>?_
 have el:(((Cb l).length:Nat):Int)=(l.length:Int):=by rw[Ab]
 refine AF AY el AB AB AB AB AB AB ?_;refine AC.loop (α:=Nat×Nat) (λp=>⟨[(0,.sl b 1 (Cb l)),(1,.clo (.func 74) [] [c]),(7,i64 l.length),(8,i64 (p.1:Int))],[],p.2⟩) (λp=>l.length-p.1) (λq=>q.1<=l.length/\∀(j:Nat) (x:Int),j<q.1->l[j]?=some x->p x=false) (0,_) ⟨BW _,λj x hj=>Ak hj (HK j)⟩ AK ?_;rintro⟨i,n⟩ F ⟨hi,ha⟩;dsimp only at hi ha⊢;rcases BE i l.length with h2|h2
 rotate_left
 ·have e1:=Cg h2
  have:i=l.length:=by omega
  subst this;refine AF AY e1 AB AB AB AB AB AB ?_;exact AM (by rw[UN ha]) AA.out
 have e1:=Ch h2;have wi:=Cc (i:=i) (by omega);obtain⟨x,hx⟩:=CO h2;have hm:(Cb l)[i]?=some (i64 x):=by rw[Ay,hx];rfl
 have cn:=hc x (Ax hx);cases hb:p x
 ·rw[hb]at cn
  refine AF AY (Ao e1 wi kN) hm cn AB AB AB AB ?_;refine⟨(i+1,_),⟨h2,λj z hj hjz=>?_⟩,by dsimp only;omega,AK⟩;rcases BE j i with h|h
  ·exact ha j z h hjz
  ·have:j=i:=by dsimp only at hj;omega
   subst this;rw[hx]at hjz;cases hjz;exact hb
 ·rw[hb]at cn
  refine AF AY (Ao e1 wi kN) hm cn AB AB AB AB ?_;exact AM (by rw[U4 hx hb ha]) AA.out
theorem zA (b:Bool)(l:List Int)(c:D)[pc:AA c](p:Int->Bool)(hl:l.length<=1000000)(hc:∀x∈l,AL C0 74 [i64 x,c] (Al (p x))):AL C0 73 [.sl b 1 (Cb l),.clo (.func 74) [] [c]] (Al (l.any p)):=by
 refine Af.walk w1 gi rfl λF=>?_
 have c1:=zk b l c p hl hc;have e1:=U5 p l;refine AF AY e1 c1 AB AB AB AB AB ?_;exact AM rfl AA.out
def Cp (x:Aq)(ns:List Int):Int:=if Cu x≠0 then Cu x else if ns.any (λi=>!Gu x i)then 10 else 0
theorem WW (x:Aq)(hl:x.cells.length<=1000000)(hc:∀c∈x.cells,c.length<=1000000/\∀y∈c,y.few)(ns:List Int)(hn:ns.length<=1000000):AL C0 31 [x.D,.sl true 1 (Cb ns)] (i64 (Cp x ns)):=by
 refine Af.walk w1 gE rfl λF=>?_
 have cB:=t7 x hl hc;have cH:=zA true ns (.pptr x.D) (λi=>!Gu x i) hn λi _=>yM x hl i
 have cW:=GQ (ns.any λi=>!Gu x i) 10;have hE:Cp x ns=if Cu x≠0 then Cu x else if ns.any (λi=>!Gu x i)then 10 else 0:=rfl
 obtain⟨E,hEE⟩:∃E,Cu x=E:=⟨_,rfl⟩
 rw[hEE]at cB hE;have hx:∃a b c d e,x.D=.agg [a,b,c,d,e]:=⟨_,_,_,_,_,rfl⟩
 have px:AA x.D:=AJ;have px2:AS x.D:=AJ;obtain⟨a1,a2,a3,a4,a5,hx⟩:=hx;rw[hx]at cB cH px px2⊢;rw[hE]
 by_cases h0:E=0
 rotate_left
 ·have k2:(E != 0)=true:=FW h0
  rw[AI h0];refine AF AY k2 cB AB AB AB AB AB ?_;exact AM rfl AA.out
 have k2:(E != 0)=false:=by rw[h0];rfl
 rw[AH (λh=>h h0)];refine AF AY k2 cB AB AB AB AB AB ?_;refine BF.own _ (M9 cH rfl (λi a d h1 h2=>by
  match i with
  | 0=>cases h1;cases h2;exact .refl _ _
  | 1=>cases h1;cases h2;exact .clo1 (.ptr rfl rfl rfl rfl)
  |n+2=>cases h1) AJ (.prim _)) ?_
 rintro d H' n' ⟨rfl,rfl,rfl⟩;refine AF AY k2 cW AB AB AB AB AB ?_;exact AM rfl AA.out
theorem rY (x:Aq)(hl:x.cells.length<=1000000)(hc:∀c∈x.cells,c.length<=1000000/\∀y∈c,y.modr)(i:Int):AL C0 9 [x.D,i64 i] (i64 (Cp x [i])):=by
 refine Af.walk w1 d9E rfl λF=>?_
 have cB:=VN x hl hc;have hE:Cp x [i]=if Cu x≠0 then Cu x else if Gu x i then 0 else 10:=by
  unfold Cp;cases h:Gu x i
  ·simp[h]
  ·simp[h]
 obtain⟨E,hEE⟩:∃E,Cu x=E:=⟨_,rfl⟩
 rw[hEE]at cB hE;have hb:Gu x i=EI i 0 ((x.cells.length:Int)-1):=rfl;obtain⟨cs,hcs⟩:∃c,x.cells=c:=⟨_,rfl⟩
 have el:(((cs.map (AV false)).length:Nat):Int)=(cs.length:Int):=by rw[Ab]
 rw[hE,hb];unfold Aq.D at cB⊢;rw[hcs]at cB⊢
 by_cases h0:E=0
 rotate_left
 ·have k2:(E==0)=false:=Bo.2 h0
  rw[AI h0];refine AF AY k2 cB AB AB AB AB AB ?_;exact AM rfl AA.out
 have k2:(E==0)=true:=by rw[h0];rfl
 rw[AH (λh=>h h0)];unfold EI
 by_cases hi:i<0
 ·have k3:decide (i<0)=true:=Aw hi
  rw[show decide (i>=0)=false from Bd,Hk,AH Bool.false_ne_true];refine AF AY (Aa k2 k3) cB AB AB AB AB AB ?_;exact AM rfl AA.out
 have k3:decide (i<0)=false:=Az hi;rw[show decide (i>=0)=true from BR,Gl]
 by_cases hg:i>=(cs.length:Int)
 ·have k4:decide (i>=(cs.length:Int))=true:=Aw hg
  rw[show decide (i<=(cs.length:Int)-1)=false from Bd,AH Bool.false_ne_true];refine AF AY (Bb k2 k3 k4 el) cB AB AB AB AB AB ?_;exact AM rfl AA.out
 ·have k4:decide (i>=(cs.length:Int))=false:=Az hg
  rw[show decide (i<=(cs.length:Int)-1)=true from BR,AI rfl];subst h0;refine AF AY (Bb k2 k3 k4 el) cB AB AB AB AB AB ?_;exact AM rfl AA.out
def Fh (x:Aq)(i:Nat)(L:List AE):Aq:=⟨x.flow,x.core,x.room,x.side,(x.cells.map A9).set i L⟩
def IG (l:List (List AE))(k:Nat):List D:=(l.take k).map (λc=>AV false (A9 c))++List.replicate (l.length-k) CK
theorem sI {l:List (List AE)}{k:Nat}{c:List AE}(h:l[k]?=some c):(IG l k).set k (AV false (A9 c))=IG l (k+1):=by
 have hk:=(BS.1 h).1;unfold IG;rw[Ob _ _ (by rw[Ab,Bc];omega)];rw[Ab,Bc,show k-min k l.length=0 by omega,Dp,h,Cz];rw[show l.length-k=(l.length-(k+1))+1 by omega,List.replicate_succ,List.set_cons_zero];rw[show List.map (λc=>AV false (A9 c)) (some c).toList=[AV false (A9 c)]from rfl,Du];rfl
theorem sH (l:List (List AE))(k:Nat)(hk:k<=l.length):(IG l k).length=l.length:=by
 unfold IG;rw[Be,Ab,Bc,Hn];omega
theorem sG (l:List (List AE)):IG l l.length=(l.map A9).map (AV false):=by
 unfold IG;rw[Cw,Nat.sub_self,List.map_map];exact De _
theorem y9 {l:List (List AE)}{k:Nat}(h:k<l.length):(IG l k)[k]?=some CK:=by
 unfold IG;rw[FC (by rw[Ab,Bc];omega),Ab,Bc,show k-min k l.length=0 by omega,show l.length-k=(l.length-(k+1))+1 by omega,List.replicate_succ];rfl
theorem F6 {H:Hp}{a b c d sD:D}{L:List D}(h:Fz H [] sD (.sl false 1 L)):Fz H [] (.agg [a,b,c,d,sD]) (.agg [a,b,c,d,.sl false 1 L]):=.agg rfl λi e e' h1 h2=>by
 match i with
 | 0=>cases h1;cases h2;exact .refl _
 | 1=>cases h1;cases h2;exact .refl _
 | 2=>cases h1;cases h2;exact .refl _
 | 3=>cases h1;cases h2;exact .refl _
 | 4=>cases h1;cases h2;exact h
 |n+5=>cases h1
theorem iX (x:Aq)(i:Nat)(hi:i<x.cells.length)(hl:x.cells.length<=1000000)(hc:∀c∈x.cells,AL C0 38 [AV false c] (AV false (A9 c)))(L:List AE):AL C0 35 [x.D,i64 (i:Int),AV false L] (Fh x i L).D:=by
 refine Af.walk w1 gH rfl λF=>?_
 obtain⟨cs,hcs⟩:∃c,x.cells=c:=⟨_,rfl⟩
 have hW:(Fh x i L).D=.agg [str (sb x.flow),i64 x.core,i64 x.room,i64 x.side,.sl false 1 (((cs.map A9).map (AV false)).set i (AV false L))]:=by
  rw[<-hcs,<-List.map_set];rfl
 have el:(((cs.map (AV false)).length:Nat):Int)=(cs.length:Int):=by rw[Ab]
 have pB:AA (Fh x i L).D:=AJ;rw[hW]at pB⊢;unfold Aq.D;rw[hcs]at hi hl hc⊢;have e0:decide ((cs.length:Int)<0)=false:=Bd;refine AF AY (Ao el e0 kN) AB AB AB AB AB AB ?_;rw[show List.replicate cs.length (D.prim (Value.slice none 0 0))=IG cs 0 from by unfold IG;simp];refine AC.loop (α:=Nat×Nat) (λp=>⟨[(1,i64 (i:Int)),(2,AV false L),(3,.optr 0 0 5 0 0),(6,.optr 1 1 5 0 0),(7,.osl 103 5 1 0 cs.length),(15,Er false cs),(16,i64 (cs.length:Int)),(17,i64 (p.1:Int))],[⟨103,5,29,1,IG cs p.1⟩,⟨1,1,24,5,[.agg [.prim (.string ⟨#[]⟩),.prim (.int .i64 0),.prim (.int .i64 0),.prim (.int .i64 0),.prim (.slice none 0 0)]]⟩,⟨0,0,24,5,[.agg [str (sb x.flow),i64 x.core,i64 x.room,i64 x.side,Er false cs]]⟩],p.2⟩) (λp=>cs.length-p.1) (λq=>q.1<=cs.length/\11<=q.2) (0,_) ⟨BW _,Ar _⟩ AK ?_;rintro⟨k,n⟩ F ⟨hk,hn⟩;dsimp only at hk hn⊢;have hlw:=sH cs k hk;rcases BE k cs.length with h2|h2
 rotate_left
 ·have k1:=Cg h2
  have:k=cs.length:=by omega
  subst this;rw[sG]at hlw⊢;obtain⟨W,hWW⟩:∃W,(cs.map A9).map (AV false)=W:=⟨_,rfl⟩
  obtain⟨ci,hci⟩:=CO hi;have hwi:W[i]?=some (.sl false 3 ((A9 ci).map AE.D)):=by rw[<-hWW,Ay,Ay,hci];rfl
  rw[hWW]at hlw pB⊢;refine AF AY (Bb k1 hwi kN BV) AB AB AB AB AB AB ?_;have hR:=Fx (H:=[⟨103,5,29,1,W.set i (AV false L)⟩,⟨1,1,24,5,[.agg [str (sb x.flow),i64 x.core,i64 x.room,i64 x.side,.osl 103 5 1 0 cs.length]]⟩,⟨0,0,24,5,[.agg [str (sb x.flow),i64 x.core,i64 x.room,i64 x.side,.osl 103 5 1 0 cs.length]]⟩]) (Hf:=[]) (k:=103) (g:=5) (T:=29) (sz:=1) (l:=W.set i (AV false L)) rfl;rw[DK,hlw]at hR;exact⟨_,F6 hR,pB.out,rfl⟩
 have k1:=Ch h2;have wi:=Cc (i:=k) (by omega);obtain⟨c,hc'⟩:=CO h2;have hm:(cs.map (AV false))[k]?=some (.sl false 3 (c.map AE.D)):=by rw[Ay,hc'];rfl
 have cN:=hc c (Ax hc');have hset:=sI hc';have hat:=y9 h2;obtain⟨es,hes⟩:∃e,IG cs k=e:=⟨_,rfl⟩
 rw[hes]at hlw hset hat⊢;refine AF AY (CS k1 wi hat kN BV) hm cN AB AB AB AB ?_;refine⟨(k+1,n+1000),⟨h2,by dsimp only;omega⟩,by dsimp only;omega,?_⟩;dsimp only;rw[<-hset];exact AK
abbrev LN:Dr:=[(7,[0,1,2,3,4],[5,6,7]),(8,[0,1,2,3,4,5,6,7,8],[9,10,11])]
open Go.Proofs Go.RowKit
set_option maxRecDepth 20000
set_option maxHeartbeats 4000000
def Te (i k:Nat):Nat:=if k=i+1 then 705 else 809
def XE (i k g:Nat):D:=if k=0 then CK else .osl (Te i k) g 1 0 k
def XF (i k g:Nat)(E:List D):Hp:=if k=0 then[]else[⟨Te i k,g,29,1,E⟩]
theorem iO (x:Aq)(i:Nat)(hi:i<x.cells.length)(hl:x.cells.length<=1000000)(hc:∀c∈x.cells,AL C0 82 [AV false c] (AV false (A9 c)))(L:List AE)(hL:AL C0 82 [AV false L] (AV false (A9 L))):AL C0 50 [x.D,i64 (i:Int),AV false L] (Fh x i (A9 L)).D:=by
 refine Af.walk w1 zb rfl λF=>?_
 obtain⟨cs,hcs⟩:∃c,x.cells=c:=⟨_,rfl⟩
 have hW:(Fh x i (A9 L)).D=.agg [str (sb x.flow),i64 x.core,i64 x.room,i64 x.side,.sl false 1 (((cs.map A9).set i (A9 L)).map (AV false))]:=by rw[<-hcs];rfl
 have el:(((cs.map (AV false)).length:Nat):Int)=(cs.length:Int):=by rw[Ab]
 have pB:AA (Fh x i (A9 L)).D:=AJ;rw[hW]at pB⊢;unfold Aq.D;rw[hcs]at hi hl hc⊢;have hV:∀k c,cs[k]?=some c->(((cs.map A9).set i (A9 L)).map (AV false))[k]?=some (if k=i then AV false (A9 L)else AV false (A9 c)):=λk c h=>by
  have hk:=(BS.1 h).1;rw[Ay,List.getElem?_set,Ay,h,Ab]
  by_cases hik:k=i
  ·subst hik;rw[AI rfl,AI hk,AI rfl];rfl
  ·rw[AH (λh=>hik h.symm),AH hik];rfl
 have hVl:(((cs.map A9).set i (A9 L)).map (AV false)).length=cs.length:=by rw[Ab,DK,Ab]
 obtain⟨V,hVV⟩:∃V,((cs.map A9).set i (A9 L)).map (AV false)=V:=⟨_,rfl⟩
 rw[hVV]at hV hVl pB⊢;refine AF LN (Aa el kN) AB AB AB AB AB AB ?_;refine AC.loop (α:=Nat×Nat×Nat) (λp=>⟨[(1,i64 (i:Int)),(2,AV false L),(3,.optr 0 0 5 0 0),(6,.optr 1 1 5 0 0),(7,.optr 101 3 5 0 0),(8,i64 (p.1:Int))],XF i p.1 p.2.1 (V.take p.1)++[⟨101,3,24,5,[.agg [str (sb x.flow),i64 x.core,i64 x.room,i64 x.side,XE i p.1 p.2.1]]⟩,⟨1,1,24,5,[.agg [.prim (.string ⟨#[]⟩),.prim (.int .i64 0),.prim (.int .i64 0),.prim (.int .i64 0),.prim (.slice none 0 0)]]⟩,⟨0,0,24,5,[.agg [str (sb x.flow),i64 x.core,i64 x.room,i64 x.side,Er false cs]]⟩],p.2.2⟩) (λp=>cs.length-p.1) (λq=>q.1<=cs.length/\8<=q.2.2) (0,0,_) ⟨BW _,Ar _⟩ AK ?_;rintro⟨k,g,n⟩ F ⟨hk,hn⟩;dsimp only at hk hn⊢;rcases BE k cs.length with h2|h2
 rotate_left
 ·have k1:=Cg h2
  have:k=cs.length:=by omega
  subst this;unfold XE XF Te;rw[AH (show ¬cs.length=0 by omega),AH (show ¬cs.length=0 by omega),Cn (show V.length<=cs.length by omega)]
  by_cases hK:cs.length=i+1
  ·rw[AI hK]
   have hR:=Fx (H:=[⟨705,g,29,1,V⟩,⟨101,3,24,5,[.agg [str (sb x.flow),i64 x.core,i64 x.room,i64 x.side,.osl 705 g 1 0 cs.length]]⟩,⟨1,1,24,5,[.agg [str (sb x.flow),i64 x.core,i64 x.room,i64 x.side,.osl 705 g 1 0 cs.length]]⟩,⟨0,0,24,5,[.agg [str (sb x.flow),i64 x.core,i64 x.room,i64 x.side,Er false cs]]⟩]) (Hf:=[]) (k:=705) (g:=g) (T:=29) (sz:=1) (l:=V) rfl;rw[hVl]at hR;refine AF LN (Aa el k1) AB AB AB AB AB AB ?_;exact⟨_,F6 hR,pB.out,rfl⟩
  ·rw[AH hK]
   have hR:=Fx (H:=[⟨809,g,29,1,V⟩,⟨101,3,24,5,[.agg [str (sb x.flow),i64 x.core,i64 x.room,i64 x.side,.osl 809 g 1 0 cs.length]]⟩,⟨1,1,24,5,[.agg [str (sb x.flow),i64 x.core,i64 x.room,i64 x.side,.osl 809 g 1 0 cs.length]]⟩,⟨0,0,24,5,[.agg [str (sb x.flow),i64 x.core,i64 x.room,i64 x.side,Er false cs]]⟩]) (Hf:=[]) (k:=809) (g:=g) (T:=29) (sz:=1) (l:=V) rfl;rw[hVl]at hR;refine AF LN (Aa el k1) AB AB AB AB AB AB ?_;exact⟨_,F6 hR,pB.out,rfl⟩
 have k1:=Ch h2;have wi:=Cc (i:=k) (by omega);obtain⟨c,hc'⟩:=CO h2;have hm:(cs.map (AV false))[k]?=some (.sl false 3 (c.map AE.D)):=by rw[Ay,hc'];rfl
 have cN:=hc c (Ax hc');have hv:=hV k c hc';have hT:V.take (k+1)=V.take k++[if k=i then AV false (A9 L)else AV false (A9 c)]:=by rw[Dp,hv];rfl
 have hEl:(V.take k).length=k:=by rw[Bc];omega
 have f1:∀l:List D,([]:List D)++l=l:=Ei;have f2:∀n,List.take n ([]:List D)=[]:=λn=>List.take_nil
 unfold XE XF Te
 by_cases hki:k=i
 ·rw[AI hki]at hT
  have q1:((k:Int)==(i:Int))=true:=by rw[hki];exact beq_self_eq_true _
  by_cases hk0:k=0
  ·rw[AI hk0,AI hk0]
   rw[show V.take k=[]from by rw[hk0];rfl]at hT hEl;refine AF LN (CM k1 el q1 wi f1 f2 BV) hL AB AB AB AB AB ?_;subst hk0;refine⟨(0+1,n+1+1+1+1+1+1+1+1+8,n+1000),⟨h2,by dsimp only;omega⟩,by dsimp only;omega,?_⟩;dsimp only;rw[AH (show ¬ 0+1=0 by omega),AH (show ¬ 0+1=0 by omega),AI (show 0+1=i+1 by omega),hT];exact AK
  ·rw[AH hk0,AH hk0,AH (show ¬k=i+1 by omega)]
   obtain⟨E,hE⟩:∃E,V.take k=E:=⟨_,rfl⟩
   rw[hE]at hT hEl⊢;have f3:List.take k E=E:=by rw[<-hEl];exact Cw
   refine AF LN (CS k1 el q1 wi f3) hL AB AB AB AB AB ?_;refine⟨(k+1,n+1+1+1+1+1+1+1+1+8,n+1000),⟨h2,by dsimp only;omega⟩,by dsimp only;omega,?_⟩;dsimp only;rw[AH (show ¬k+1=0 by omega),AH (show ¬k+1=0 by omega),AI (show k+1=i+1 by omega),hT];exact AK
 ·rw[AH hki]at hT
  have q1:((k:Int)==(i:Int))=false:=Bo.2 (by omega)
  by_cases hk0:k=0
  ·rw[AI hk0,AI hk0]
   rw[show V.take k=[]from by rw[hk0];rfl]at hT hEl;refine AF LN (CM k1 el q1 wi f1 f2 (Aa kN BV)) hm cN AB AB AB AB ?_;subst hk0;refine⟨(0+1,n+1+1+1+1+1+1+1+1+12,n+1000),⟨h2,by dsimp only;omega⟩,by dsimp only;omega,?_⟩;dsimp only;rw[AH (show ¬ 0+1=0 by omega),AH (show ¬ 0+1=0 by omega),AH (show ¬ 0+1=i+1 by omega),hT];exact AK
  ·rw[AH hk0,AH hk0]
   obtain⟨E,hE⟩:∃E,V.take k=E:=⟨_,rfl⟩
   rw[hE]at hT hEl⊢;have f3:List.take k E=E:=by rw[<-hEl];exact Cw
   by_cases hK:k=i+1
   ·rw[AI hK]
    refine AF LN (D9 k1 el q1 wi f3 kN) hm cN AB AB AB AB ?_;refine⟨(k+1,n+1+1+1+1+1+1+1+1+12,n+1000),⟨h2,by dsimp only;omega⟩,by dsimp only;omega,?_⟩;dsimp only;rw[AH (show ¬k+1=0 by omega),AH (show ¬k+1=0 by omega),AH (show ¬k+1=i+1 by omega),hT];exact AK
   ·rw[AH hK]
    refine AF LN (D9 k1 el q1 wi f3 kN) hm cN AB AB AB AB ?_;refine⟨(k+1,n+1+1+1+1+1+1+1+1+12,n+1000),⟨h2,by dsimp only;omega⟩,by dsimp only;omega,?_⟩;dsimp only;rw[AH (show ¬k+1=0 by omega),AH (show ¬k+1=0 by omega),AH (show ¬k+1=i+1 by omega),hT];exact AK
end Go.Ide
namespace Go.Proofs
open Go.Shelf Go.RowKit Go.Lib
open Tryz
def Tryz.growLay_ren:Go.Shelf.Ren:=⟨fun|4=>78|n=>n,fun|22=>29|25=>53|3=>3|4=>4|9=>9|20=>20|0=>0|n=>n,fun|n=>n⟩
theorem jP:Go.Proofs.Lays8.n4 Tryz.prog Tryz.growLay_ren:={
 mixed:=by kernel_rfl
 f4:=⟨Tryz.f78.name,by decide,Ci func78⟩
 t0:=underlying0
 a0:=isAgg0
 z0:=sizeOf0
 v0:=zeroValue0
 t3:=underlying3
 a3:=isAgg3
 z3:=sizeOf3
 v3:=zeroValue3
 t4:=underlying4
 a4:=isAgg4
 z4:=sizeOf4
 v4:=zeroValue4
 t9:=underlying9
 a9:=isAgg9
 z9:=sizeOf9
 v9:=zeroValue9
 t20:=underlying20
 a20:=isAgg20
 z20:=sizeOf20
 v20:=zeroValue20
 t22:=underlying29
 a22:=isAgg29
 z22:=sizeOf29
 v22:=zeroValue29 }
end Go.Proofs
namespace Go.Ide
open Go.Proofs Go.RowKit Go.Lib
set_option maxRecDepth 20000
set_option maxHeartbeats 4000000
theorem Kz (K n:Nat)(h0:0<n)(hn:n<=1000000)(H:Hp)(m:Nat):CX C0 78 [CK,i64 (n:Int)] H m (λd H' n'=>d=.osl K m 3 0 0/\H'=⟨K,m,53,3,[]⟩::H/\n'=m+1):=by
 refine⟨by obtain⟨fn,a1,a2,a3,-⟩:=WO;exact⟨fn,_,a1,a2,a3⟩,λF ρ w vs mm fr gn hsz rep=>?_⟩;obtain⟨v0,v1,rfl⟩:∃v0 v1,vs = #[v0,v1]:=by
  match vs,hsz with
  |⟨[a,b]⟩,_=>exact⟨a,b,rfl⟩
 have r0:AW ρ _ w CK v0:=rep 0 _ rfl;have r1:AW ρ _ w (i64 (n:Int)) v1:=rep 1 _ rfl;cases r0;cases r1;have hT:∃i,X1.tt 29=some i/\i.ti=.slice 53 3 48 (.agg #[.string ⟨#[]⟩,.int .i64 0,.slice none 0 0]):=⟨_,rfl,rfl⟩
 obtain⟨i,hi1,hi2⟩:=hT;obtain⟨-,⟨inf,k1,k2,k3,k4⟩,k5,k6⟩:=FJ (w1.tt _ _ hi1) hi2;have hc:=Any8.slices_Grow_grow jP inf _ k1 k4 (by rw[k2];decide) none 0 0 n [] w (Ar _) (by omega) (by rw[k3];omega) (by omega) (by rw[k2];rfl) (λ_=>rfl) (λa h=>by cases h);refine Calls.mono hc ?_;rintro e w' ⟨rfl,rfl⟩;rw[show Tryz.growLay_ren.t 25=53 from rfl,BV];have hge:n<=grownCap w n 0 53:=grownCap_ge ..;have hmx:grownCap w n 0 53<=maxLen:=grownCap_le_maxLen _ _ _ _ (by simp only[maxLen];omega);generalize grownCap w n 0 53=cap at hge hmx⊢;obtain⟨z,hz⟩:∃z,(Value.agg #[.string ⟨#[]⟩,.int .i64 0,.slice none 0 0])=z:=⟨_,rfl⟩
 rw[hz]at k5 k6⊢;generalize hcs' : #[]++Builtin.zeroCells z.cells (n-0)++Builtin.zeroCells z.cells (cap-n)=cs';have hsz':cs'.size=cap*3:=by
  rw[<-hcs',Jz,Jz,size_zeroCells,size_zeroCells,k5];simp only[Kp,Hm];omega
 have ho:DX ρ (AN F.X ρ H) w.drew ⟨K,m,53,3,[]⟩ cs':=by
  refine⟨by simp,λq d h=>by simp at h,λq v hv=>?_,λq d j c h=>by simp at h⟩;rw[<-hcs']at hv;rcases BE q (#[]++Builtin.zeroCells z.cells (n-0)).size with hq|hq
  ·rw[HM hq,Array.empty_append]at hv
   exact Qs k6 _ _ v hv
  ·rw[HL hq]at hv
   exact Qs k6 _ _ v hv
 obtain⟨m1,x1⟩:=mm.drew.alloc ⟨K,m,53,3,[]⟩ cs' (fr _ _ (Ar _)) (λe' he' h=>Nat.ne_of_lt (gn e' he') h.2) ho;refine⟨_,_,_,_,_,rfl,⟨rfl,rfl,rfl⟩,m1,(BX.drew _ _ _).trans x1,λk g hg=>?_,λe he=>?_,?_⟩
 ·unfold Lk.put
  rw[AH λh=>by have:=h.2;dsimp only at this;omega];exact fr k g (by omega)
 ·rcases A8.1 he with rfl|he
  ·exact IM _
  ·exact Dd (gn e he)
 ·exact QS (b:=w.heap.size) (T:=53) (cs:=cs') (fz:=(0,0)) (Es _ _ _ _) (by rw[El];exact AI rfl) (BW _) hsz'.symm hmx
theorem Yo {vs:List (List AE)}{i:Nat}{l:List AE}(h:vs[i]?=some l):(vs.take (i+1)).flatten=(vs.take i).flatten++l:=by
 rw[Dp,h];simp
theorem aA {vs:List (List AE)}(i:Nat):(vs.take i).flatten.length<=vs.flatten.length:=by
 have:vs.flatten=(vs.take i).flatten++(vs.drop i).flatten:=by rw[<-List.flatten_append,Fq]
 rw[this,Be];omega
theorem YY (vs:List (List AE))(h0:vs.flatten≠[])(hl:vs.flatten.length<=1000000)(hv:vs.length<=1000000):AL C0 39 [.sl true 1 (vs.map (AV false))] (AV false vs.flatten):=by
 refine Af.walk w1 WL rfl λF=>?_
 have el:(((vs.map (AV false)).length:Nat):Int)=(vs.length:Int):=by rw[Ab]
 have hpos:0<vs.flatten.length:=List.length_pos_iff.2 h0;have cG:=λm=>Kz 1302 vs.flatten.length hpos hl [] m
 refine AF AY el AB AB AB AB AB AB ?_;refine AC.loop (α:=Nat×Nat) (λp=>⟨[(0,.sl true 1 (vs.map (AV false))),(3,i64 ((vs.take p.1).flatten.length:Int)),(9,.sl true 1 (vs.map (AV false))),(10,i64 (vs.length:Int)),(11,i64 (p.1:Int))],[],p.2⟩) (λp=>vs.length-p.1) (λq=>q.1<=vs.length) (0,_) (BW _) AK ?_;rintro⟨i,n⟩ F hi;dsimp only at hi⊢;rcases BE i vs.length with h2|h2
 ·have e1:=Ch h2
  have wi:=Cc (i:=i) (by omega);obtain⟨x,hx⟩:=CO h2;have hm:(vs.map (AV false))[i]?=some (.sl false 3 (x.map AE.D)):=by rw[Ay,hx];rfl
  have hs:=Yo hx;have hle:=aA (vs:=vs) (i+1);have ex:(((x.map AE.D).length:Nat):Int)=(x.length:Int):=by rw[Ab]
  rw[hs,Be]at hle;have w1':IntKind.i64.wrap (((vs.take i).flatten.length:Int)+(x.length:Int))=(((vs.take (i+1)).flatten.length:Nat):Int):=by
   rw[wI,hs,Be];omega
  have g0:decide ((((vs.take (i+1)).flatten.length:Nat):Int)<0)=false:=Bd;refine AF AY (D9 e1 wi ex w1' g0 kN) hm AB AB AB AB AB ?_;exact⟨(i+1,_),h2,by dsimp only;omega,AK⟩
 have e1:=Cg h2
 have:i=vs.length:=by omega
 subst this;rw[Cw];refine AF AY e1 AB AB AB AB AB AB ?_;refine BF.own _ (cG _) ?_;rintro d H' n' ⟨rfl,rfl,rfl⟩;refine AF AY el AB AB AB AB AB AB ?_;refine AC.loop (α:=Nat×Nat×Nat) (λp=>⟨[(6,.osl 1302 p.2.1 3 0 (vs.take p.1).flatten.length),(25,.sl true 1 (vs.map (AV false))),(26,i64 (vs.length:Int)),(27,i64 (p.1:Int))],[⟨1302,p.2.1,53,3,(vs.take p.1).flatten.map AE.D⟩],p.2.2⟩) (λp=>vs.length-p.1) (λq=>q.1<=vs.length) (0,n+1+1,_) (BW _) AK ?_;clear hi h2 e1;rintro⟨i,g,n⟩ F hi;dsimp only at hi⊢;rcases BE i vs.length with h2|h2
 ·have e1:=Ch h2
  have wi:=Cc (i:=i) (by omega);obtain⟨x,hx⟩:=CO h2;have hm:(vs.map (AV false))[i]?=some (.sl false 3 (x.map AE.D)):=by rw[Ay,hx];rfl
  have hs:=Yo hx;have hle:=aA (vs:=vs) (i+1);have hln:((vs.take i).flatten.map AE.D).length=(vs.take i).flatten.length:=Ab ..;have hlx:(x.map AE.D).length=x.length:=Ab ..;rw[hs,Be]at hle;obtain⟨R,hR⟩:∃R,(vs.take i).flatten=R:=⟨_,rfl⟩
  obtain⟨X,hX⟩:∃X,x.map AE.D=X:=⟨_,rfl⟩
  have pX:AA (.sl false 3 X):=by rw[<-hX];exact AJ
  rw[hR]at hs hle hln⊢;rw[hX]at hm hlx;obtain⟨RD,hRD⟩:∃X,R.map AE.D=X:=⟨_,rfl⟩
  rw[hRD]at hln⊢;refine AF AY (Ao e1 wi kN) hm AB AB AB AB AB ?_;refine⟨(i+1,n+1+1+1+1+1+1,n+1+1+1+1+1+1+1+1+1+1),h2,by dsimp only;omega,?_⟩;dsimp only;rw[hs,Be,Cz,hRD,hX,hlx];rw[Cn (show RD.length<=R.length by omega)];exact AK
 have e1:=Cg h2
 have:i=vs.length:=by omega
 subst this;rw[Cw];have hR:=Fx (H:=[⟨1302,g,53,3,vs.flatten.map AE.D⟩]) (Hf:=[]) (k:=1302) (g:=g) (T:=53) (sz:=3) (l:=vs.flatten.map AE.D) rfl;rw[Ab]at hR;refine AF AY e1 AB AB AB AB AB AB ?_;exact⟨_,hR,AA.out,rfl⟩
end Go.Ide
namespace Go.Ide
open Go.Proofs Go.RowKit Go.Lib
set_option maxRecDepth 20000
set_option maxHeartbeats 4000000
theorem rP:AL C0 78 [CK,i64 0] CK:=by
 refine⟨by obtain⟨fn,a1,a2,a3,-⟩:=WO;exact⟨fn,_,a1,a2,a3⟩,λX w vs _ _ _ hsz rep=>?_⟩;obtain⟨v0,v1,rfl⟩:∃v0 v1,vs = #[v0,v1]:=by
  match vs,hsz with
  |⟨[a,b]⟩,_=>exact⟨a,b,rfl⟩
 have r0:AW nol _ w CK v0:=rep 0 _ rfl;have r1:AW nol _ w (i64 0) v1:=rep 1 _ rfl;cases r0;cases r1;refine(Any8.slices_Grow_room jP none 0 0 0 w (Ar _) (by omega) (by omega) (Ar _)).mono ?_;rintro e w' ⟨rfl,rfl⟩;exact⟨_,_,rfl,.refl _ _,rfl,.prim _⟩
theorem lG (vs:List (List AE))(h0:∀x∈vs,x=[])(hv:vs.length<=1000000):AL C0 39 [.sl true 1 (vs.map (AV false))] (AV false []):=by
 refine Af.walk w1 WL rfl λF=>?_
 have el:(((vs.map (AV false)).length:Nat):Int)=(vs.length:Int):=by rw[Ab]
 have cG:=rP;refine AF AY el AB AB AB AB AB AB ?_;refine AC.loop (α:=Nat×Nat) (λp=>⟨[(0,.sl true 1 (vs.map (AV false))),(3,i64 0),(9,.sl true 1 (vs.map (AV false))),(10,i64 (vs.length:Int)),(11,i64 (p.1:Int))],[],p.2⟩) (λp=>vs.length-p.1) (λq=>q.1<=vs.length) (0,_) (BW _) AK ?_;rintro⟨i,n⟩ F hi;dsimp only at hi⊢;rcases BE i vs.length with h2|h2
 ·have e1:=Ch h2
  have wi:=Cc (i:=i) (by omega);obtain⟨x,hx⟩:=CO h2;have hx0:=h0 x (Ax hx);subst hx0;have hm:(vs.map (AV false))[i]?=some (.sl false 3 []):=by rw[Ay,hx];rfl
  have ln0:([]:List D).length=0:=rfl;have w1':IntKind.i64.wrap (0+((0:Nat):Int))=0:=rfl;have g0:decide ((0:Int)<0)=false:=rfl;refine AF AY (D9 e1 wi ln0 w1' g0 kN) hm AB AB AB AB AB ?_;exact⟨(i+1,_),h2,by dsimp only;omega,AK⟩
 have e1:=Cg h2
 have:i=vs.length:=by omega
 subst this;refine AF AY (Aa el e1) cG AB AB AB AB AB ?_;refine AC.ghost 1302 53 3 [(6,.osl 1302 _ 3 0 0),(25,.sl true 1 (vs.map (AV false))),(26,i64 (vs.length:Int)),(27,i64 ((0:Nat):Int))] ⟨.inr ⟨rfl,rfl⟩,.inl rfl,.inl rfl,.inl rfl,trivial⟩ ?_;refine AC.loop (α:=Nat×Nat×Nat) (λp=>⟨[(6,.osl 1302 p.2.1 3 0 0),(25,.sl true 1 (vs.map (AV false))),(26,i64 (vs.length:Int)),(27,i64 (p.1:Int))],[⟨1302,p.2.1,53,3,[]⟩],p.2.2⟩) (λp=>vs.length-p.1) (λq=>q.1<=vs.length) (0,_,_) (BW _) AK ?_;clear hi h2 e1;rintro⟨i,g,n⟩ F hi;dsimp only at hi⊢;rcases BE i vs.length with h2|h2
 ·have e1:=Ch h2
  have wi:=Cc (i:=i) (by omega);obtain⟨x,hx⟩:=CO h2;have hx0:=h0 x (Ax hx);subst hx0;have hm:(vs.map (AV false))[i]?=some (.sl false 3 []):=by rw[Ay,hx];rfl
  refine AF AY (Ao e1 wi kN) hm AB AB AB AB AB ?_;exact⟨(i+1,n+1+1+1+1+1+1,n+1+1+1+1+1+1+1+1+1+1),h2,by dsimp only;omega,AK⟩
 have e1:=Cg h2;have hR:=Fx (H:=[⟨1302,g,53,3,[]⟩]) (Hf:=[]) (k:=1302) (g:=g) (T:=53) (sz:=3) (l:=[]) rfl;refine AF AY e1 AB AB AB AB AB AB ?_;exact⟨_,hR,AA.out,rfl⟩
theorem ZG (vs:List (List AE))(hl:vs.flatten.length<=1000000)(hv:vs.length<=1000000):AL C0 39 [.sl true 1 (vs.map (AV false))] (AV false vs.flatten):=by
 by_cases h:vs.flatten=[]
 ·rw[h]
  exact lG vs (λx hx=>FB (Nat.le_zero.1 (by
   have:=(List.sublist_flatten_of_mem hx).length_le
   rwa [h]at this))) hv
 ·exact YY vs h hl hv
def P8:List AE->Int->List AE
 | [],_=>[]
 |x::r,m=>x.w (min m x.mass)::P8 r (m-min m x.mass)
abbrev Uy:Dr:=[(1,[0,1,2,3,4,5,6],[7]),(9,[0,1,2,3,4],[5,6])]
open Go.Proofs Go.RowKit
set_option maxRecDepth 20000
set_option maxHeartbeats 4000000
def Fo:List AE->Int->Int->List AE
 | [],_,_=>[]
 |x::r,low,left=>x.w (min (x.mass-min x.mass low) left)::Fo r (low-min x.mass low) (left-min (x.mass-min x.mass low) left)
structure XJ where
 o:List AE
 low:Int
 left:Int
 g:Nat
def Ke (g1 g2:Nat)(p:XJ):Hp:=EF 905 p.g 53 3 (p.o.map AE.D)++[⟨200,g2,29,1,[EP 905 p.g 3 (p.o.map AE.D)]⟩,⟨106,g1,3,1,[i64 p.left]⟩,⟨0,0,3,1,[i64 p.low]⟩]
theorem Z5 (g1 g2:Nat)(a b:Int)(g:Nat):Ke g1 g2 ⟨[],a,b,g⟩=[⟨200,g2,29,1,[CK]⟩,⟨106,g1,3,1,[i64 b]⟩,⟨0,0,3,1,[i64 a]⟩]:=rfl
theorem Rb (g1 g2:Nat)(z:AE)(o:List AE)(a b:Int)(g:Nat):Ke g1 g2 ⟨z::o,a,b,g⟩=[⟨905,g,53,3,z.D::o.map AE.D⟩,⟨200,g2,29,1,[.osl 905 g 3 0 ((o.map AE.D).length+1)]⟩,⟨106,g1,3,1,[i64 b]⟩,⟨0,0,3,1,[i64 a]⟩]:=rfl
def Py (L:List AE)(low left:Int)(k:Nat)(p:XJ):Prop:=p.o.length=k/\p.o++Fo (L.drop k) p.low p.left=Fo L low left/\0<=p.low/\p.low<=1000000000000/\0<=p.left/\p.left<=1000000000000000
theorem YJ (b:Bool)(l:List AE)(low high:Int)(hl:l.length<=1000000)(h1:0<=low/\low<=1000000000000)(h2:0<=high/\high<=1000000000000)(t:Int)(ht:low+high<=t/\t<=1000000000000000)(hx:∀x∈l,0<=x.mass/\x.mass<=1000000000)
  (cT:AL C0 33 [AV b l] (i64 t))
  (ho:∀x∈l,∀m,AL C0 71 [x.D,i64 m] (x.w m).D) (R:D) [pR:AA R] (hN:AL C0 38 [AV false (Fo l low (t-low-high))] R):
  AL C0 36 [AV b l,i64 low,i64 high] R:=by
 refine Af.walk w1 gI rfl λF=>?_
 have cV:=Ul b false (l.map AE.D);have hT:∀x∈l.map AE.D,∃a c d,x=.agg [a,c,d]:=λx hx=>by
  obtain⟨y,-,rfl⟩:=Bx.1 hx;exact⟨_,_,_,rfl⟩
 have hoA:∀k,k<l.length->∃y,y∈l/\l[k]?=some y/\(l.map AE.D)[if false then(l.map AE.D).length-1-k else k]?=some y.D:=λk hk=>⟨_,List.getElem_mem hk,Bs hk,by
  show(l.map AE.D)[k]?=_;rw[Ay,Bs hk];rfl⟩
 unfold AV at cT⊢;obtain⟨T,hTT⟩:∃T,l.map AE.D=T:=⟨_,rfl⟩
 have pT:AA (.sl b 3 T):=by rw[<-hTT];exact AJ
 have hTl:T.length=l.length:=by rw[<-hTT,Ab]
 rw[hTT]at cV hT hoA cT⊢;have w1':IntKind.i64.wrap (t-low)=t-low:=wI;have w2:IntKind.i64.wrap (t-low-high)=t-low-high:=wI;obtain⟨e,he⟩:∃e,t-low-high=e:=⟨_,rfl⟩
 have w2':IntKind.i64.wrap (t-low-high)=e:=by rw[w2,he]
 rw[he]at hN;have he0:0<=e/\e<=1000000000000000:=by omega
 refine AF Uy (Aa w1' w2') cT cV AB AB AB AB ?_;have h0:Py l low e 0 ⟨[],low,e,0⟩:=⟨rfl,rfl,h1.1,h1.2,he0.1,he0.2⟩
 refine AC.rangeFunc (fi:=109) (first:=[]) (captured:=[.pptr (.sl b 3 T),.pptr (Al false)]) (Ψ:=λj _ H' _=>(j=none/\∃a,Py l low e T.length a/\H'=Ke 8 11 a)\/(j=some (.exit 0)/\False)) rfl
  (λds H n Φ=>∃k a x,Py l low e k a/\k<T.length/\T[if false then T.length-1-k else k]?=some x/\ds=[x]/\H=Ke 8 11 a/\Φ=λj H' _=>(j=none/\∃a',Py l low e (k+1) a'/\Cs H' (Ke 8 11 a') H' (Ke 8 11 a'))\/(j=some (.exit 0)/\False)) ?_
  (λE l' R' hE hY=>We hE b false T hT (by omega) (λ_ a=>Ke 8 11 a) (Py l low e) (.exit 0) (λ_=>False) ⟨[],low,e,0⟩ h0 _ λk a x n hP hk hx=>hY _ _ _ _ ⟨k,a,x,hP,hk,hx,rfl,rfl,rfl⟩) ?_
 ·rintro l' ds H n Φ ⟨k,⟨o,lw,lf,g⟩,x,⟨p1,p2,p3,p4,p6,p7⟩,hk,hxT,rfl,rfl,rfl⟩
  dsimp only at p1 p2 p3 p4 p6 p7;obtain⟨y,hy1,hy2,hy3⟩:=hoA k (by omega);rw[hy3]at hxT;cases hxT;have hd:l.drop k=y::l.drop (k+1):=by
   have:=(BS.1 hy2)
   rw[Et this.1,this.2]
  rw[hd]at p2;have hb:=hx y hy1;have cO:=ho y hy1 (min (y.mass-min y.mass lw) lf);have p5:(o++[y.w (min (y.mass-min y.mass lw) lf)])++Fo (l.drop (k+1)) (lw-min y.mass lw) (lf-min (y.mass-min y.mass lw) lf)=Fo l low e:=by
   rw[<-p2,Du];rfl
  have a1:IntKind.i64.wrap (lw-min y.mass lw)=lw-min y.mass lw:=wI;have a2:IntKind.i64.wrap (y.mass-min y.mass lw)=y.mass-min y.mass lw:=wI;have a3:IntKind.i64.wrap (lf-min (y.mass-min y.mass lw) lf)=lf-min (y.mass-min y.mass lw) lf:=wI;have q1:0<=lw-min y.mass lw/\lw-min y.mass lw<=1000000000000/\0<=lf-min (y.mass-min y.mass lw) lf/\lf-min (y.mass-min y.mass lw) lf<=1000000000000000:=by omega
  refine⟨rfl,λF=>?_⟩;unfold AE.w AE.D at cO;unfold AE.D;dsimp only at cO⊢;obtain⟨SD,hSD⟩:∃d,CY false y.shs=d:=⟨_,rfl⟩
  have pS:AA SD:=by rw[<-hSD];exact AJ
  rw[hSD]at cO⊢;rcases o with _|⟨z,o⟩
  ·rw[Z5]
   dsimp only[HY];refine As 400 ?_;refine AG kB ?_;refine⟨trivial,trivial,λF'=>?_⟩;refine AF Uy (Ao a1 a2 a3) cO AB AB AB AB AB ?_;refine .inl ⟨rfl,⟨[y.w (min (y.mass-min y.mass lw) lf)],lw-min y.mass lw,lf-min (y.mass-min y.mass lw) lf,n+1+1+1+1+1+1+1+1+1+1+1+1+1+1+1+1+1+1+1+1+1+1+7⟩,⟨by rw[<-p1];rfl,p5,q1⟩,?_⟩;rw[Rb,<-hSD];exact .keep (.drop (Hz _))
  ·have hol:o.length<=1000000:=by rw[Bu]at p1;omega
   rw[Rb];dsimp only[HY];obtain⟨O,hO⟩:∃O,o.map AE.D=O:=⟨_,rfl⟩
   obtain⟨zD,hzD⟩:∃O,z.D=O:=⟨_,rfl⟩
   have hOl:O.length=o.length:=by rw[<-hO,Ab]
   rw[hO,hzD];refine As 400 ?_;refine AG kB ?_;refine⟨trivial,trivial,λF'=>?_⟩;refine AF Uy (Ao a1 a2 a3) cO AB AB AB AB AB ?_;rw[show List.take (O.length+1) (zD::O)=zD::O from Cw (l:=zD::O)];refine .inl ⟨rfl,⟨z::o++[y.w (min (y.mass-min y.mass lw) lf)],lw-min y.mass lw,lf-min (y.mass-min y.mass lw) lf,n+1+1+1+1+1+1+1+1+1+1+1+1+1+1+1+1+1+1+1+1+1+1+7⟩,⟨by rw[<-p1];simp,p5,q1⟩,?_⟩;have hs:∀g' a b,Ke 8 11 ⟨z::o++[y.w (min (y.mass-min y.mass lw) lf)],a,b,g'⟩=[⟨905,g',53,3,zD::O++[.agg [str (sb y.grain),i64 (min (y.mass-min y.mass lw) lf),SD]]⟩,⟨200,11,29,1,[.osl 905 g' 3 0 (O.length+1+1)]⟩,⟨106,8,3,1,[i64 b]⟩,⟨0,0,3,1,[i64 a]⟩]:=λg' a b=>by
    rw[EU,Rb,<-hO,<-hzD,<-hSD,Cz];rw[Be];rfl
   rw[hs];exact .keep (.drop (Hz _))
 ·rintro j d H' n' F' hE
  rcases hE with⟨rfl,⟨o,lw,lf,g⟩,⟨p1,p2,-⟩,rfl⟩|⟨-,h⟩
  rotate_left
  ·exact h.elim
  dsimp only at p2;rw[List.drop_eq_nil_of_le (by omega)]at p2;have ho2:o=Fo l low e:=by rw[<-p2];exact(De o).symm
  rw[<-ho2]at hN;rcases o with _|⟨z,o⟩
  ·rw[Z5]
   change AC _ _ _ _ _ _ _;refine sR 1000 ?_;refine BF.pure [.sl false 3 []] _ ⟨.nil 3,trivial⟩ hN AJ ?_;refine BU ?_;refine Aj ?_;exact AM rfl pR.out
  ·have hR:=Fx (H:=Ke 8 11 ⟨z::o,lw,lf,g⟩) (Hf:=[]) (k:=905) (g:=g) (T:=53) (sz:=3) (l:=(z::o).map AE.D) rfl
   have hle:((z::o).map AE.D).length=(o.map AE.D).length+1:=rfl;rw[hle]at hR;rw[Rb]at hR⊢;change AC _ _ _ _ _ _ _;refine sR 1000 ?_;refine BF.own _ (CX.give [] hN (.drop (.drop (.drop (.drop .nil)))) ⟨hR,trivial⟩ AJ) ?_;rintro d H2 n2 ⟨rfl,rfl,rfl⟩;refine BU ?_;refine Aj ?_;exact AM rfl pR.out
def SV (lot:List UInt8)(x:AE):Bool:=x.shs.any λs=>BJ (sb s.lot) (sb lot)
def L9 (lot:List UInt8):List AE->Int->List (Int×Int)
 | [],_=>[]
 |x::r,n=>(if SV lot x then[(n+1,n+x.mass)]else[])++L9 lot r (n+x.mass)
def Gc (p:Int×Int):D:=.agg [i64 p.1,i64 p.2]
instance  (p:Int×Int):AS (Gc p):=by unfold Gc;exact AJ
instance  (p:Int×Int):AA (Gc p):=by unfold Gc;exact AJ
theorem d9P (lot:List UInt8)(s:Au):AL C0 134 [s.D,.pptr (str (sb lot))] (Al (BJ (sb s.lot) (sb lot))):=by
 refine Af.walk w1 dL rfl λF=>?_
 unfold Au.D;refine AF AY kB AB AB AB AB AB AB ?_;exact AM rfl AA.out
theorem zl (b:Bool)(l:List Au)(c:D)[pc:AA c](p:Au->Bool)(hl:l.length<=1000000)(hc:∀x∈l,AL C0 134 [x.D,c] (Al (p x))):AL C0 178 [CY b l,.clo (.func 134) [] [c]] (i64 (Ki p l)):=by
 refine Af.walk w1 bn rfl λF=>?_
 have el:(((l.map Au.D).length:Nat):Int)=(l.length:Int):=by rw[Ab]
 refine AF AY el AB AB AB AB AB AB ?_;refine AC.loop (α:=Nat×Nat) (λp=>⟨[(0,CY b l),(1,.clo (.func 134) [] [c]),(7,i64 l.length),(8,i64 (p.1:Int))],[],p.2⟩) (λp=>l.length-p.1) (λq=>q.1<=l.length/\∀(j:Nat) (x:Au),j<q.1->l[j]?=some x->p x=false) (0,_) ⟨BW _,λj x hj=>Ak hj (HK j)⟩ AK ?_;rintro⟨i,n⟩ F ⟨hi,ha⟩;dsimp only at hi ha⊢;rcases BE i l.length with h2|h2
 rotate_left
 ·have e1:=Cg h2
  have:i=l.length:=by omega
  subst this;refine AF AY e1 AB AB AB AB AB AB ?_;exact AM (by rw[UN ha]) AA.out
 have e1:=Ch h2;have wi:=Cc (i:=i) (by omega);obtain⟨x,hx⟩:=CO h2;have hm:(l.map Au.D)[i]?=some (.agg [str (sb x.lot),str (sb x.part)]):=by rw[Ay,hx];rfl
 have cn:=hc x (Ax hx);unfold Au.D at cn;cases hb:p x
 ·rw[hb]at cn
  refine AF AY (Ao e1 wi kN) hm cn AB AB AB AB ?_;refine⟨(i+1,_),⟨h2,λj z hj hjz=>?_⟩,by dsimp only;omega,AK⟩;rcases BE j i with h|h
  ·exact ha j z h hjz
  ·have:j=i:=by dsimp only at hj;omega
   subst this;rw[hx]at hjz;cases hjz;exact hb
 ·rw[hb]at cn
  refine AF AY (Ao e1 wi kN) hm cn AB AB AB AB ?_;exact AM (by rw[U4 hx hb ha]) AA.out
theorem zB (b:Bool)(l:List Au)(c:D)[pc:AA c](p:Au->Bool)(hl:l.length<=1000000)(hc:∀x∈l,AL C0 134 [x.D,c] (Al (p x))):AL C0 133 [CY b l,.clo (.func 134) [] [c]] (Al (l.any p)):=by
 refine Af.walk w1 dK rfl λF=>?_
 have c1:=zl b l c p hl hc;have e1:=U5 p l;refine AF AY e1 c1 AB AB AB AB AB ?_;exact AM rfl AA.out
structure XL where
 o:List (Int×Int)
 n:Int
 g:Nat
def K4 (lot:List UInt8)(g1 g2:Nat)(p:XL):Hp:=EF 609 p.g 110 2 (p.o.map Gc)++[⟨200,g2,3,1,[i64 p.n]⟩,⟨100,g1,108,1,[EP 609 p.g 2 (p.o.map Gc)]⟩,⟨0,0,9,1,[str (sb lot)]⟩]
theorem ak (lot:List UInt8)(g1 g2:Nat)(n:Int)(g:Nat):K4 lot g1 g2 ⟨[],n,g⟩=[⟨200,g2,3,1,[i64 n]⟩,⟨100,g1,108,1,[CK]⟩,⟨0,0,9,1,[str (sb lot)]⟩]:=rfl
theorem RW (lot:List UInt8)(g1 g2:Nat)(z:Int×Int)(o:List (Int×Int))(n:Int)(g:Nat):K4 lot g1 g2 ⟨z::o,n,g⟩=[⟨609,g,110,2,Gc z::o.map Gc⟩,⟨200,g2,3,1,[i64 n]⟩,⟨100,g1,108,1,[.osl 609 g 2 0 ((o.map Gc).length+1)]⟩,⟨0,0,9,1,[str (sb lot)]⟩]:=rfl
def QK (lot:List UInt8)(l:List AE)(k:Nat)(p:XL):Prop:=p.o.length<=k/\p.o++L9 lot (l.drop k) p.n=L9 lot l 0/\0<=p.n/\p.n<=(k:Int)*1000000000
theorem jq (b:Bool)(l:List AE)(lot:List UInt8)(hl:l.length<=1000000)(hx:∀x∈l,0<=x.mass/\x.mass<=1000000000/\x.shs.length<=1000000):
  AL C0 101 [AV b l,str (sb lot)] (.sl false 2 ((L9 lot l 0).map Gc)):=by
 refine Af.walk w1 b5 rfl λF=>?_
 have cV:=Ul b false (l.map AE.D);have hT:∀x∈l.map AE.D,∃a c d,x=.agg [a,c,d]:=λx hx=>by
  obtain⟨y,-,rfl⟩:=Bx.1 hx;exact⟨_,_,_,rfl⟩
 have hoA:∀k,k<l.length->∃y,y∈l/\l[k]?=some y/\(l.map AE.D)[if false then(l.map AE.D).length-1-k else k]?=some y.D:=λk hk=>⟨_,List.getElem_mem hk,Bs hk,by
  show(l.map AE.D)[k]?=_;rw[Ay,Bs hk];rfl⟩
 unfold AV;obtain⟨T,hTT⟩:∃T,l.map AE.D=T:=⟨_,rfl⟩
 have pT:AA (.sl b 3 T):=by rw[<-hTT];exact AJ
 have hTl:T.length=l.length:=by rw[<-hTT,Ab]
 rw[hTT]at cV hT hoA⊢;refine AF AY kB cV AB AB AB AB AB ?_;have h0:QK lot l 0 ⟨[],0,0⟩:=⟨Ar _,rfl,Int.le_refl _,Int.le_refl _⟩
 refine AC.rangeFunc (fi:=109) (first:=[]) (captured:=[.pptr (.sl b 3 T),.pptr (Al false)]) (Ψ:=λj _ H' _=>(j=none/\∃a,QK lot l T.length a/\H'=K4 lot 2 3 a)\/(j=some (.exit 0)/\False)) rfl
  (λds H n Φ=>∃k a x,QK lot l k a/\k<T.length/\T[if false then T.length-1-k else k]?=some x/\ds=[x]/\H=K4 lot 2 3 a/\Φ=λj H' _=>(j=none/\∃a',QK lot l (k+1) a'/\Cs H' (K4 lot 2 3 a') H' (K4 lot 2 3 a'))\/(j=some (.exit 0)/\False)) ?_
  (λE l' R' hE hY=>We hE b false T hT (by omega) (λ_ a=>K4 lot 2 3 a) (QK lot l) (.exit 0) (λ_=>False) ⟨[],0,0⟩ h0 _ λk a x n hP hk hx=>hY _ _ _ _ ⟨k,a,x,hP,hk,hx,rfl,rfl,rfl⟩) ?_
 ·rintro l' ds H n Φ ⟨k,⟨o,nn,g⟩,x,⟨p1,p2,p3,p4⟩,hk,hxT,rfl,rfl,rfl⟩
  dsimp only at p1 p2 p3 p4;obtain⟨y,hy1,hy2,hy3⟩:=hoA k (by omega);rw[hy3]at hxT;cases hxT;have hd:l.drop k=y::l.drop (k+1):=by
   have:=(BS.1 hy2)
   rw[Et this.1,this.2]
  rw[hd]at p2;have hb:=hx y hy1;have cH:=zB false y.shs (.pptr (str (sb lot))) (λs=>BJ (sb s.lot) (sb lot)) hb.2.2 λs _=>d9P lot s
  have hK:(y.shs.any λs=>BJ (sb s.lot) (sb lot))=SV lot y:=rfl;rw[hK]at cH;have p5:(o++(if SV lot y then[(nn+1,nn+y.mass)]else[]))++L9 lot (l.drop (k+1)) (nn+y.mass)=L9 lot l 0:=by
   rw[<-p2,Du];rfl
  obtain⟨K,hKK⟩:∃K,SV lot y=K:=⟨_,rfl⟩
  rw[hKK]at cH p5;have a1:IntKind.i64.wrap (nn+y.mass)=nn+y.mass:=wI;have a2:IntKind.i64.wrap (nn+1)=nn+1:=wI;have q1:0<=nn+y.mass/\nn+y.mass<=((k+1:Nat):Int)*1000000000:=by omega
  refine⟨rfl,λF=>?_⟩;unfold AE.D;unfold CY at cH⊢;obtain⟨SD,hSD⟩:∃d,y.shs.map Au.D=d:=⟨_,rfl⟩
  have pS:AA (.sl false 2 SD):=by rw[<-hSD];exact AJ
  rw[hSD]at cH⊢;rcases o with _|⟨z,o⟩
  ·rw[ak]
   dsimp only[HY];refine As 400 ?_;refine AG kB ?_;refine⟨trivial,trivial,λF'=>?_⟩;refine AF AY kB AB AB AB AB AB AB ?_;refine BF.own _ (M9 cH rfl (λi a d h1 h2=>by
    match i with
    | 0=>cases h1;cases h2;exact .refl _ _
    | 1=>cases h1;cases h2;exact .clo1 (.ptr rfl rfl rfl rfl)
    |n+2=>cases h1) AJ (.prim _)) ?_
   rintro d H' n' ⟨rfl,rfl,rfl⟩;cases K
   ·refine AF AY (Aa a1 a2) AB AB AB AB AB AB ?_
    exact .inl ⟨rfl,⟨[],nn+y.mass,0⟩,⟨BW _,p5,q1⟩,.drop (Hz _)⟩
   ·refine AF AY (Aa a1 a2) AB AB AB AB AB AB ?_
    exact .inl ⟨rfl,⟨[(nn+1,nn+y.mass)],nn+y.mass,n+1+1+1+1+1+1+1+1+1+1+1+1+1+1+1⟩,⟨by simp,p5,q1⟩,.keep (.drop (Hz _))⟩
  ·have hol:o.length<=1000000:=by rw[Bu]at p1;omega
   rw[RW];dsimp only[HY];obtain⟨O,hO⟩:∃O,o.map Gc=O:=⟨_,rfl⟩
   obtain⟨zD,hzD⟩:∃O,Gc z=O:=⟨_,rfl⟩
   have hOl:O.length=o.length:=by rw[<-hO,Ab]
   rw[hO,hzD];refine As 400 ?_;refine AG kB ?_;refine⟨trivial,trivial,λF'=>?_⟩;refine AF AY kB AB AB AB AB AB AB ?_;refine BF.own _ (M9 cH rfl (λi a d h1 h2=>by
    match i with
    | 0=>cases h1;cases h2;exact .refl _ _
    | 1=>cases h1;cases h2;exact .clo1 (.ptr rfl rfl rfl rfl)
    |n+2=>cases h1) AJ (.prim _)) ?_
   rintro d H' n' ⟨rfl,rfl,rfl⟩;cases K
   ·refine AF AY (Aa a1 a2) AB AB AB AB AB AB ?_
    refine .inl ⟨rfl,⟨z::o,nn+y.mass,g⟩,⟨Nat.le_succ_of_le p1,by rw[<-p5,AH Bool.false_ne_true,De],q1⟩,?_⟩;rw[RW,hO,hzD];exact .drop (Hz _)
   ·refine AF AY (Aa a1 a2) AB AB AB AB AB AB ?_
    rw[show List.take (O.length+1) (zD::O)=zD::O from Cw (l:=zD::O)];refine .inl ⟨rfl,⟨z::o++[(nn+1,nn+y.mass)],nn+y.mass,n+1+1+1+1+1+1+1+1+1+1+1+1+1+1+1⟩,⟨by rw[Be];exact Nat.succ_le_succ p1,p5,q1⟩,?_⟩;have hs:∀g' a,K4 lot 2 3 ⟨z::o++[(nn+1,nn+y.mass)],a,g'⟩=[⟨609,g',110,2,zD::O++[.agg [i64 (nn+1),i64 (nn+y.mass)]]⟩,⟨200,3,3,1,[i64 a]⟩,⟨100,2,108,1,[.osl 609 g' 2 0 (O.length+1+1)]⟩,⟨0,0,9,1,[str (sb lot)]⟩]:=λg' a=>by
     rw[EU,RW,<-hO,<-hzD,Cz];rw[Be];rfl
    rw[hs];exact .keep (.drop (Hz _))
 ·rintro j d H' n' F' hE
  rcases hE with⟨rfl,⟨o,nn,g⟩,⟨p1,p2,-⟩,rfl⟩|⟨-,h⟩
  rotate_left
  ·exact h.elim
  dsimp only at p2;rw[List.drop_eq_nil_of_le (by omega)]at p2;have ho2:o=L9 lot l 0:=by rw[<-p2];exact(De o).symm
  rw[<-ho2];rcases o with _|⟨z,o⟩
  ·rw[ak]
   change AC _ _ _ _ _ _ _;refine sR 800 ?_;refine Aj ?_;exact⟨_,.nil 2,AA.out,rfl⟩
  ·have hR:=Fx (H:=K4 lot 2 3 ⟨z::o,nn,g⟩) (Hf:=[]) (k:=609) (g:=g) (T:=110) (sz:=2) (l:=(z::o).map Gc) rfl
   have hle:((z::o).map Gc).length=(o.map Gc).length+1:=rfl;rw[hle]at hR;rw[RW]at hR⊢;change AC _ _ _ _ _ _ _;refine sR 800 ?_;refine Aj ?_;exact⟨_,hR,AA.out,rfl⟩
theorem o6 {x:AE}{l:List AE}(h:x.mass=0):Df (x::l)=Df l:=by
 unfold Df;rw[List.filter_cons,AH (by rw[h];decide)]
theorem oZ {x:AE}{l r:List AE}(h:Df l=Df r):Df (x::l)=Df (x::r):=by
 unfold Df at h⊢;rw[List.filter_cons,List.filter_cons,h]
theorem ZH:∀ {l:List AE},(∀x∈l,0<=x.mass)->Df (P8 l 0)=[]
 | [],_=>rfl
 |x::r,h=>by
  have h1:=h x (CF ..);show Df (x.w (min 0 x.mass)::P8 r (0-min 0 x.mass))=[];rw[show min 0 x.mass=0 by omega,o6 rfl];exact ZH λy hy=>h y (CL _ hy)
theorem yO:∀ {l:List AE} {m:Int},(∀x∈l,0<=x.mass)->0<=m->Df (EZ l m)=Df (P8 l m)
 | [],_,_,_=>rfl
 |x::r,m,h,hm=>by
  have h1:=h x (CF ..);have h2:∀y∈r,0<=y.mass:=λy hy=>h y (CL _ hy)
  show Df (x.w (min x.mass m)::if m-x.mass<=0 then[]else EZ r (m-x.mass))=Df (x.w (min m x.mass)::P8 r (m-min m x.mass));rw[show min x.mass m=min m x.mass by omega];refine oZ ?_
  by_cases hz:m-x.mass<=0
  ·rw[AI hz,show m-min m x.mass=0 by omega,ZH h2];rfl
  ·rw[AH hz,show m-min m x.mass=m-x.mass by omega]
   exact yO h2 (by omega)
theorem V8:∀ {l:List AE} {m:Int},(∀x∈l,0<=x.mass/\x.mass<=1000000000/\x.shs.length<=1000000)->0<=m->∀y∈EZ l m,0<=y.mass/\y.mass<=1000000000/\y.shs.length<=1000000
 | [],_,_,_,y,hy=>by cases hy
 |x::r,m,h,hm,y,hy=>by
  obtain⟨h1,h2,h3⟩:=h x (CF ..);rcases A8.1 hy with rfl|h4
  ·exact⟨by show 0<=min x.mass m;omega,by show min x.mass m<=_;omega,h3⟩
  ·split at h4
   ·cases h4
   ·exact V8 (λz hz=>h z (CL _ hz)) (by omega) y h4
theorem VW:∀(l:List AE) (m:Int),(EZ l m).length<=l.length
 | [],_=>Ar _
 |x::r,m=>by
  show(if m-x.mass<=0 then[]else EZ r (m-x.mass)).length+1<=r.length+1;split
  ·simp
  ·have:=VW r (m-x.mass);omega
theorem bZ {a b:Int}(h:Ck [a,b]=0):a=0/\b=0:=by
 have h1:(if a≠0 then a else if b≠0 then b else 0)=0:=h
 by_cases h0:a=0
 ·rw[AH (λq=>q h0)]at h1
  by_cases h2:b=0
  ·exact⟨h0,h2⟩
  ·rw[AI h2]at h1;exact Ak h1 h2
 ·rw[AI h0]at h1;exact Ak h1 h0
theorem xq (l:List AE)(hl:l.length<=1000000):AL C0 37 [AV false l] (.tup [AV false (if 64<l.length then[]else l),i64 (if 64<l.length then 5 else 0)]):=by
 refine Af.walk w1 gJ rfl λF=>?_
 have el:(((l.map AE.D).length:Nat):Int)=(l.length:Int):=by rw[Ab]
 by_cases h:64<l.length
 ·rw[AI h,AI h]
  have k:decide ((l.length:Int)>64)=true:=BR;refine AF AY (Aa el k) AB AB AB AB AB AB ?_;exact⟨_,E9 (.nil 3) (.refl _),AA.out,rfl⟩
 ·rw[AH h,AH h]
  have k:decide ((l.length:Int)>64)=false:=Bd;refine AF AY (Aa el k) AB AB AB AB AB AB ?_;exact AM rfl AA.out
theorem oW (R:List AE)(x:AE):(Cm R x).length<=R.length+1:=by
 unfold Cm;split
 ·split
  ·rw[Be,List.length_dropLast,HN];omega
  ·rw[Be];exact Ar _
 ·simp
theorem LS (l:List AE):(A9 l).length<=l.length:=by
 have:∀(l R:List AE),(l.foldl Cm R).length<=R.length+l.length:=λl=>by
  induction l with
  |nil=>exact λ_=>Ar _
  |cons x l ih=>
   intro R;have h1:=ih (Cm R x);have h2:=oW R x;rw[List.foldl_cons,Bu];omega
 have:=this l []
 unfold A9;simpa using this
abbrev I3:Dr:=[(5,[0,1,2,3,4,5],[6,7,8,9,10]),(8,[0,1,2,3,4,5],[6]),(9,[0,1,2,3,4,5,6,7,8,9,10],[11,12,13,14])]
open Go.Proofs Go.RowKit
set_option maxRecDepth 20000
set_option maxHeartbeats 4000000
def EB:Aq:=⟨[],0,0,0,[]⟩
def BC (x:Aq)(i:Int):List AE:=x.cells.getD i.toNat []
def Db (x:Aq)(i:Int)(l:List AE):Aq:=Fh x i.toNat (A9 (BC x i++l))
def HW (x:Aq)(i:Int)(l:List AE):Int:=Ck [Cp x [i],(Bw l:Int)]
def Ie (x:Aq)(i:Int)(l:List AE):Int:=Ck [((if CI (BC x i++l)then 0 else 16:Nat):Int),if decide (DM (BC x i++l)>x.room)then 14 else 0]
def KX (x:Aq)(i:Int)(l:List AE):Int:=Ck [if Dc x.side (Cj (Db x i l))then 17 else 0,if decide (((A9 (BC x i++l)).length:Int)>64)then 5 else 0]
def E3 (x:Aq)(i:Int)(l:List AE):Int:=if HW x i l≠0 then HW x i l else if Ie x i l≠0 then Ie x i l else KX x i l
def GS (x:Aq)(i:Int)(l:List AE):Aq:=if E3 x i l≠0 then EB else Db x i l
theorem PT {x:Aq}(h:Cu x=0):∀c∈x.cells,Da x c=0:=by
 unfold Cu at h
 by_cases h1:Gt x=0
 ·rw[AH (λq=>q h1)]at h
  by_cases h2:Ey x x.cells=0
  ·exact T3 h2
  ·rw[AI h2]at h;exact Ak h h2
 ·rw[AI h1]at h;exact Ak h h1
theorem VZ {x:Aq}{i:Int}(h:Cp x [i]=0):Cu x=0/\0<=i/\i<(x.cells.length:Int):=by
 unfold Cp at h
 by_cases h1:Cu x=0
 ·rw[AH (λq=>q h1)]at h
  refine⟨h1,?_⟩;cases hb:Gu x i
  ·simp[hb]at h
  ·unfold Gu EI at hb
   rw[BZ,decide_eq_true_iff,decide_eq_true_iff]at hb;omega
 ·rw[AI h1]at h;exact Ak h h1
structure Lb (x:Aq)(i:Int)(l:List AE):Prop where
 cel:∀c∈x.cells,Da x c=0
 lt:i.toNat<x.cells.length
 ii:i=(i.toNat:Int)
 par:Bw l=0
 at_:x.cells[i.toNat]?=some (BC x i)
 bin:Cu x=0
theorem Vb {x:Aq}{i:Int}{l:List AE}(h:HW x i l=0):Lb x i l:=by
 obtain⟨h1,h2⟩:=bZ h;obtain⟨g1,g2,g3⟩:=VZ h1;have hlt:i.toNat<x.cells.length:=by omega
 refine⟨PT g1,hlt,by omega,by omega,?_,g1⟩;unfold BC;rw[EK,Bs hlt];rfl
theorem Lb.pc {x:Aq}{i:Int}{l:List AE}(h:Lb x i l):Bw (BC x i)=0:=(HT (h.cel _ (Ax h.at_))).1
theorem Lb.all {x:Aq}{i:Int}{l:List AE}(h:Lb x i l):∀y∈BC x i++l,1<=y.mass/\y.mass<=1000000000/\y.shs.length<=1000000:=λy hy=>by
 rcases Bp.1 hy with k|k
 ·exact(DW h.pc).2.1 y k
 ·exact(DW h.par).2.1 y k
theorem Lb.len {x:Aq}{i:Int}{l:List AE}(h:Lb x i l):(BC x i).length<=64/\l.length<=64:=⟨(DW h.pc).1,(DW h.par).1⟩
theorem zv (x:Aq)(hl:x.cells.length<=1000000)(hc:∀c∈x.cells,c.length<=1000000/\∀y∈c,y.few)(i:Int)(l:List AE)(hll:l.length<=1000000)(hfl:∀y∈l,y.few):AL C0 43 [x.D,i64 i,AV false l] (.tup [(GS x i l).D,i64 (E3 x i l)]):=by
 refine Af.walk w1 gO rfl λF=>?_
 have cC:=WW x hl hc [i] (by simp);have cP:=M2 false l (by omega) hfl;have cF1:=I6 [Cp x [i],(Bw l:Int)] (by simp);rw[show Ck [Cp x [i],(Bw l:Int)]=HW x i l from rfl]at cF1;have hE:E3 x i l=if HW x i l≠0 then HW x i l else if Ie x i l≠0 then Ie x i l else KX x i l:=rfl
 have hB:GS x i l=if E3 x i l≠0 then EB else Db x i l:=rfl
 have hz:EB.D=.agg [str (sb []),i64 0,i64 0,i64 0,.sl false 1 []]:=rfl;have pz:AA (.tup [EB.D,i64 (E3 x i l)]):=AJ;rw[hz]at pz
 by_cases h0:HW x i l=0
 rotate_left
 ·have k2:(HW x i l != 0)=true:=FW h0
  rw[AI h0]at hE;rw[hE,AI h0]at hB;rw[hE]at pz;rw[hB,hE,hz];unfold Aq.D at cC⊢;refine AF I3 k2 cC cP cF1 AB AB AB ?_;exact⟨_,E9 (F6 (.nil 1)) (.refl _),pz.out,rfl⟩
 have k2:(HW x i l != 0)=false:=by rw[h0];rfl
 rw[AH (λh=>h h0)]at hE;have ok:=Vb h0;obtain⟨ln1,ln2⟩:=ok.len;have hall:=ok.all;have hlA:(BC x i++l).length<=128:=by rw[Be];omega
 have cCC:=ZG [BC x i,l] (by rw[show[BC x i,l].flatten=BC x i++l by simp];omega) (by simp);rw[show[BC x i,l].flatten=BC x i++l by simp]at cCC;have cG:=UP false (BC x i++l) (by omega);have cT:=Sh false (BC x i++l) (by omega);have cW1:=GQ (decide (DM (BC x i++l)>x.room)) 14;have cF2:=I6 [((if CI (BC x i++l)then 0 else 16:Nat):Int),if decide (DM (BC x i++l)>x.room)then 14 else 0] (by simp);rw[show Ck [((if CI (BC x i++l)then 0 else 16:Nat):Int),if decide (DM (BC x i++l)>x.room)then 14 else 0]=Ie x i l from rfl]at cF2;have hat:(x.cells.map (AV false))[i.toNat]?=some (.sl false 3 ((BC x i).map AE.D)):=by rw[Ay,ok.at_];rfl
 have hi0:0<=i:=by have:=ok.ii;omega
 have hil:i<(x.cells.length:Int):=by have:=ok.ii;have:=ok.lt;omega
 have el:(((x.cells.map (AV false)).length:Nat):Int)=(x.cells.length:Int):=by rw[Ab]
 by_cases h1:Ie x i l=0
 rotate_left
 ·have k3:(Ie x i l != 0)=true:=FW h1
  rw[AI h1]at hE;rw[hE,AI h1]at hB;rw[hE]at pz;rw[hB,hE,hz];unfold Aq.D at cC⊢;refine AF I3 (Aa k2 el) cC cP cF1 hat cCC AB ?_;refine AF I3 (Aa k3 el) cG cT cW1 cF2 AB AB ?_;exact⟨_,E9 (F6 (.nil 1)) (.refl _),pz.out,rfl⟩
 have k3:(Ie x i l != 0)=false:=by rw[h1];rfl
 rw[AH (λh=>h h1)]at hE;have cN:=RG false (BC x i++l) (by omega) hall;have cWi:=iX x i.toNat ok.lt hl (λc hq=>RG false c (hc c hq).1 (DW (HT (ok.cel c hq)).1).2.1) (A9 (BC x i++l));rw[<-ok.ii,show Fh x i.toNat (A9 (BC x i++l))=Db x i l from rfl]at cWi;have hol:(Db x i l).cells.length=x.cells.length:=by
  show((x.cells.map A9).set _ _).length=_;rw[DK,Ab]
 have hoc:∀c∈(Db x i l).cells,c.length<=1000000:=λc hq=>by
  rcases NC hq with h|h
  ·obtain⟨d,h1,rfl⟩:=Bx.1 h
   have:=LS d
   have:=(hc d h1).1
   omega
  ·rw[h];have:=LS (BC x i++l);omega
 have cLv:=VG (Db x i l) (by omega) λc h=>by have:=hoc c h;omega
 have cSt:=VY x false (Cj (Db x i l)) (by unfold Cj;rw[Ab];omega);have hat2:((Db x i l).cells.map (AV false))[i.toNat]?=some (.sl false 3 ((A9 (BC x i++l)).map AE.D)):=by
  rw[Ay];show Option.map _ (((x.cells.map A9).set i.toNat (A9 (BC x i++l)))[i.toNat]?)=_;rw[QW (by rw[Ab];exact ok.lt)];rfl
 have el2:((((A9 (BC x i++l)).map AE.D).length:Nat):Int)=((A9 (BC x i++l)).length:Int):=by rw[Ab]
 have cW2:=GQ (decide (((A9 (BC x i++l)).length:Int)>64)) 5;have cF3:=I6 [if Dc x.side (Cj (Db x i l))then 17 else 0,if decide (((A9 (BC x i++l)).length:Int)>64)then 5 else 0] (by simp);rw[show Ck [if Dc x.side (Cj (Db x i l))then 17 else 0,if decide (((A9 (BC x i++l)).length:Int)>64)then 5 else 0]=KX x i l from rfl]at cF3;have hoD:(Db x i l).D=.agg [str (sb x.flow),i64 x.core,i64 x.room,i64 x.side,.sl false 1 ((Db x i l).cells.map (AV false))]:=rfl;have po:AA (.tup [(Db x i l).D,i64 (E3 x i l)]):=AJ;have Ew:AA (Db x i l).D:=AJ;have polen:((((Db x i l).cells.map (AV false)).length:Nat):Int)=(x.cells.length:Int):=by rw[Ab,hol]
 rw[hoD]at cWi cLv po Ew;obtain⟨OD,hOD⟩:∃O,(Db x i l).cells.map (AV false)=O:=⟨_,rfl⟩
 rw[hOD]at cWi cLv po Ew hat2 polen hoD
 by_cases h2:KX x i l=0
 rotate_left
 ·have k4:(KX x i l != 0)=true:=FW h2
  rw[hE,AI h2]at hB;rw[hE]at pz;rw[hB,hE,hz];unfold Aq.D at cC cWi cSt⊢;refine AF I3 (Aa k2 el) cC cP cF1 hat cCC AB ?_;refine AF I3 (Aa k3 el) cG cT cW1 cF2 AB AB ?_;refine AF I3 (Ao k4 el el2) cN cWi cLv cSt hat2 AB ?_;refine AF I3 (Ao k4 el el2) cW2 cF3 AB AB AB AB ?_;exact⟨_,E9 (F6 (.nil 1)) (.refl _),pz.out,rfl⟩
 ·have k4:(KX x i l != 0)=false:=by rw[h2];rfl
  rw[hE,AH (λh=>h h2)]at hB;rw[hE,h2]at po;rw[hB,hE,h2,hoD];unfold Aq.D at cC cWi cSt⊢;refine AF I3 (Aa k2 el) cC cP cF1 hat cCC AB ?_;refine AF I3 (Aa k3 el) cG cT cW1 cF2 AB AB ?_;refine AF I3 (Ao k4 el el2) cN cWi cLv cSt hat2 AB ?_;refine AF I3 (Ao k4 el el2) cW2 cF3 AB AB AB AB ?_;exact AM rfl po.out
theorem iR:∀ {l R:List AE} {k:Nat},OX k R->(∀x∈l,0<=x.mass/\x.mass<=1000000000/\x.shs.length<=1000000)->OX (k+l.length) (l.foldl Cm R)
 | [],_,_,h,_=>h
 |x::l,R,k,h,hx=>by
  have h1:=iR (UA h (hx x (CF ..))) λy hy=>hx y (CL _ hy)
  rw[List.foldl_cons,Bu,show k+(l.length+1)=k+1+l.length by omega];exact h1
theorem WT {l:List AE}(hx:∀x∈l,0<=x.mass/\x.mass<=1000000000/\x.shs.length<=1000000):(A9 l).length<=l.length/\∀y∈A9 l,0<=y.mass/\y.mass<=(l.length:Int)*1000000000/\y.shs.length<=1000000:=by
 have:=iR (l:=l) (R:=[]) (k:=0) ⟨Ar _,λy h=>by cases h⟩ hx
 rw[BV]at this;exact this
theorem MS (a b:List AE):AZ (a++b)=AZ a+AZ b:=by
 unfold AZ;rw[Cz,List.sum_append]
theorem oX (R:List AE)(x:AE):AZ (Cm R x)=AZ R+x.mass:=by
 unfold Cm;split
 ·rename_i y hy
  have hR:R=R.dropLast++[y]:=by
   have hne:R≠[]:=λh=>by rw[h]at hy;cases hy
   have:=List.getLast?_eq_some_getLast hne
   rw[this]at hy;cases hy;exact(List.dropLast_concat_getLast hne).symm
  split
  ·rw[MS]
   conv=>rhs;rw[hR,MS]
   unfold AZ AE.w;simp;omega
  ·rw[MS];unfold AZ;simp
 ·rename_i hy
  have:R=[]:=List.getLast?_eq_none_iff.1 hy
  rw[this];unfold AZ;simp
theorem Nc (l:List AE):AZ (A9 l)=AZ l:=by
 have:∀(l R:List AE),AZ (l.foldl Cm R)=AZ R+AZ l:=λl=>by
  induction l with
  |nil=>intro R;unfold AZ;simp
  |cons x l ih=>
   intro R;rw[List.foldl_cons,ih,oX];unfold AZ;simp;omega
 have h:=this l [];rw[show AZ ([]:List AE)=0 from rfl,Int.zero_add]at h;exact h
theorem rm {l:List AE}(h:∀x∈l,0<=x.mass)(hs:AZ l<=1000000000000000000):DM l=AZ l:=by
 have:∀(l:List AE) (a:Int),0<=a->(∀x∈l,0<=x.mass)->a+AZ l<=1000000000000000000->l.foldl (λa x=>IntKind.i64.wrap (a+x.mass)) a=a+AZ l:=λl=>by
  induction l with
  |nil=>intro a _ _ _;unfold AZ;simp
  |cons x l ih=>
   intro a ha hx hs;have h1:=hx x (CF ..);have h2:=Jk λy hy=>hx y (CL _ hy)
   have h3:AZ (x::l)=x.mass+AZ l:=by unfold AZ;rfl
   rw[h3]at hs⊢;rw[List.foldl_cons,wI,ih _ (by omega) (λy hy=>hx y (CL _ hy)) (by omega)];omega
 have h1:=this l 0 (Int.le_refl _) h (by omega);rw[Int.zero_add]at h1;exact h1
abbrev KK:Dr:=[(3,[0,1,2,3,4,5,6,7],[8]),(5,[0,1,2,3,4,5,6,7,8,9,10,11,12],[13])]
abbrev U3:Dr:=[(6,[0,1,2,3,4,5,6,7,8,9],[10,11])]
open Go.Proofs Go.RowKit
set_option maxRecDepth 20000
set_option maxHeartbeats 4000000
def Wn (E2 E8 E10:At)(i:Nat):Option At:=match i with
 | 8=>some E2
 | 10=>some E8
 | 11=>some E10
 |_=>none
def QO (i:Nat):Option Nat:=match i with
 | 2=>some 8
 | 8=>some 10
 | 10=>some 11
 |_=>none
theorem nJ {ops:Array Oper}{d0 d1 d2 d3 d4 d5 d6 d7 d8 d9 d10 d11 d12:D}{E2 E8 E10 E11 E12:At}(h1:Dw ops 8 2)(h2:Dw ops 10 8)(h3:Dw ops 11 10):
  Nv ops (Lx ops [(0,d0,none),(1,d1,none),(2,d2,some E2),(3,d3,none),(4,d4,none),(5,d5,none),(6,d6,none),(7,d7,none),(8,d8,some E8),(9,d9,none),(10,d10,some E10),(11,d11,some E11),(12,d12,some E12)]) (Wn E2 E8 E10) QO:=by
 constructor
 ·intro r hr e he
  simp only[Lx,Cx,List.map_nil,A8,Dq,or_false]at hr;rcases hr with rfl|rfl|rfl|rfl|rfl|rfl|rfl|rfl|rfl|rfl|rfl|rfl|rfl<;>dsimp only[Wn]at he<;>first
   |(cases he;done)
   |(cases he;exact⟨⟨2,ops.getD 2 default,d2,some _⟩,by simp[Lx],rfl,rfl⟩)
   |(cases he;exact⟨⟨8,ops.getD 8 default,d8,some _⟩,by simp[Lx],rfl,rfl⟩)
   |(cases he;exact⟨⟨10,ops.getD 10 default,d10,some _⟩,by simp[Lx],rfl,rfl⟩)
 ·intro r hr j hj
  simp only[Lx,Cx,List.map_nil,A8,Dq,or_false]at hr;rcases hr with rfl|rfl|rfl|rfl|rfl|rfl|rfl|rfl|rfl|rfl|rfl|rfl|rfl<;>dsimp only[QO]at hj<;>first
   |(cases hj;done)
   |(cases hj;exact⟨by simp[Lx],rfl,by assumption⟩)
 ·intro r hr r' hr' j hj hj'
  have key:∀i k:Nat,QO i=some k->(i=2/\k=8)\/(i=8/\k=10)\/(i=10/\k=11):=λi k h=>by
   unfold QO at h;split at h<;>first|(cases h;simp;done)|cases h
  rcases key _ _ hj with⟨a,b⟩|⟨a,b⟩|⟨a,b⟩<;>rcases key _ _ hj' with⟨c,d⟩|⟨c,d⟩|⟨c,d⟩<;>omega
theorem pE {x:Aq}{i:Int}{l:List AE}(h:Lb x i l):Ie x i l=if CI (BC x i++l)=false then 16 else if AZ (BC x i)+AZ l>x.room then 14 else 0:=by
 have ga:=(Ia h.pc).2.2;have gb:=(Ia h.par).2.2;have hS:AZ (BC x i++l)=AZ (BC x i)+AZ l:=MS _ _;have ht:=rm (l:=BC x i++l) (λy hy=>by have:=(h.all y hy).1;omega) (by omega);unfold Ie;rw[ht,hS];cases CI (BC x i++l)
 ·rfl
 ·by_cases hr:AZ (BC x i)+AZ l>x.room
  ·show Ck [((0:Nat):Int),if decide (AZ (BC x i)+AZ l>x.room)=true then(14:Int)else 0]=(if AZ (BC x i)+AZ l>x.room then(14:Int)else 0)
   rw[AI hr,Aw hr];rfl
  ·show Ck [((0:Nat):Int),if decide (AZ (BC x i)+AZ l>x.room)=true then(14:Int)else 0]=(if AZ (BC x i)+AZ l>x.room then(14:Int)else 0)
   rw[AH hr,Az hr];rfl
theorem pG {x:Aq}{i:Int}{l:List AE}:KX x i l=if Dc x.side (Cj (Db x i l))then 17 else if 64<(A9 (BC x i++l)).length then 5 else 0:=by
 unfold KX;cases Dc x.side (Cj (Db x i l))
 ·by_cases hr:64<(A9 (BC x i++l)).length
  ·rw[AI hr,Aw (show((A9 (BC x i++l)).length:Int)>64 by omega)];rfl
  ·rw[AH hr,Az (show ¬((A9 (BC x i++l)).length:Int)>64 by omega)];rfl
 ·rfl
theorem UB {l:List AE}(h1:∀x∈l,1<=x.mass/\x.mass<=1000000000/\x.shs.length<=1000000)(h2:l.length<=1000000)(h3:AZ l<=1000000000):Ib (A9 l)/\0<=AZ (A9 l)/\AZ (A9 l)=AZ l:=by
 have h0:∀x∈l,0<=x.mass/\x.mass<=1000000000/\x.shs.length<=1000000:=λx hx=>⟨by have:=(h1 x hx).1;omega,(h1 x hx).2⟩
 obtain⟨b1,b2⟩:=WT h0;have b3:=Nc l;refine⟨⟨by omega,λy hy=>?_⟩,?_,b3⟩
 ·have hy0:=(b2 y hy).1
  have:y.mass<=AZ (A9 l):=by
   obtain⟨A,B,hAB⟩:=EW hy;rw[hAB,MS,show AZ (y::B)=y.mass+AZ B from rfl];have p1:=Jk (l:=A) λz hz=>(b2 z (by rw[hAB];exact II _ hz)).1
   have p2:=Jk (l:=B) λz hz=>(b2 z (by rw[hAB];exact List.mem_append_right _ (CL _ hz))).1
   omega
  omega
 ·exact Jk λz hz=>(b2 z hz).1
theorem Ub {x:Aq}(h:Cu x=0):0<=x.side/\x.side<=999999999/\x.room<=999999999/\x.cells.length<=8:=by
 have h1:Gt x=0:=by
  unfold Cu at h
  by_cases h1:Gt x=0
  ·exact h1
  ·rw[AI h1]at h;exact Ak h h1
 rw[Vl]at h1;split at h1
 ·cases h1
 split at h1
 ·cases h1
 rename_i hr;split at h1
 ·cases h1
 split at h1
 ·cases h1
 rename_i hn;unfold Lq at hr;simp only[Kr,HJ,not_or]at hr;obtain⟨⟨⟨⟨-,-⟩,h3⟩,h4⟩,h5⟩:=hr;omega
theorem d8x (x:Aq)(i:Int)(l:List AE)(h0:HW x i l=0)(hc:∀c∈x.cells,c.length<=1000000):AL C0 14 [x.D,i64 i,AV false l] (.tup [(GS x i l).D,i64 (E3 x i l)]):=by
 refine Af.walk w1 zN rfl λF=>?_
 have ok:=Vb h0;obtain⟨s1,s2,s3,s4⟩:=Ub ok.bin;have hE:E3 x i l=if Ie x i l≠0 then Ie x i l else KX x i l:=AH (λh=>h h0)
 have hB:GS x i l=if E3 x i l≠0 then EB else Db x i l:=rfl
 have hz:EB.D=.agg [str (sb []),i64 0,i64 0,i64 0,.sl false 1 []]:=rfl;have pz:AA (.tup [EB.D,i64 (E3 x i l)]):=AJ;rw[hz]at pz;obtain⟨ln1,ln2⟩:=ok.len;have hall:=ok.all;have ga:=(Ia ok.pc).2.2;have gb:=(Ia ok.par).2.2;have hlA:(BC x i++l).length<=128:=by rw[Be];omega
 have hat:(x.cells.map (AV false))[i.toNat]?=some (.sl false 3 ((BC x i).map AE.D)):=by rw[Ay,ok.at_];rfl
 have hi0:0<=i:=by have:=ok.ii;omega
 have hil:i<(x.cells.length:Int):=by have:=ok.ii;have:=ok.lt;omega
 have cG:=av false (BC x i++l) (by omega);have cLv:=SK x i.toNat (BC x i) ok.at_ (DW ok.pc).2.2 (by omega);rw[<-ok.ii]at cLv;have cMl:=Su false l (DW ok.par).2.2;have hALn:((BC x i).map AE.D).length=(BC x i).length:=Ab ..;have hBLn:(l.map AE.D).length=l.length:=Ab ..;have hAB:(BC x i).map AE.D++l.map AE.D=(BC x i++l).map AE.D:=Cz.symm;have hE2:=pE ok;have hE3:=@pG x i l;unfold AV at cG;rw[<-hAB]at cG;obtain⟨AD,hAD⟩:∃T,(BC x i).map AE.D=T:=⟨_,rfl⟩
 have pAD:AA (.sl false 3 AD):=by rw[<-hAD];exact AJ
 obtain⟨BD,hBD⟩:∃T,l.map AE.D=T:=⟨_,rfl⟩
 have pBD:AA (.sl false 3 BD):=by rw[<-hBD];exact AJ
 unfold AV at cMl⊢;rw[hAD]at hALn hAB hat cG;rw[hBD]at hBLn hAB cG cMl⊢;have f1:∀l:List D,([]:List D)++l=l:=Ei;have f2:∀n,List.take n ([]:List D)=[]:=λn=>List.take_nil
 have hB0:x.D=.agg [str (sb x.flow),i64 x.core,i64 x.room,i64 x.side,.sl false 1 (x.cells.map (AV false))]:=rfl;rw[hB0]at cLv⊢;have hN:∀c∈x.cells,AL C0 82 [AV false c] (AV false (A9 c)):=λc hq=>PX false c (hc c hq) (DW (HT (ok.cel c hq)).1).2.1
 have cN:=PX false (BC x i++l) (by omega) hall;have cW:=iO x i.toNat ok.lt (by omega) hN (BC x i++l) cN;rw[<-ok.ii,show Fh x i.toNat (A9 (BC x i++l))=Db x i l from rfl]at cW;unfold AV at cW;rw[<-hAB]at cW;have hoD:(Db x i l).D=.agg [str (sb x.flow),i64 x.core,i64 x.room,i64 x.side,.sl false 1 ((Db x i l).cells.map (AV false))]:=rfl;have hol:(Db x i l).cells.length=x.cells.length:=by
  show((x.cells.map A9).set _ _).length=_;rw[DK,Ab]
 have hS:AZ (BC x i++l)=AZ (BC x i)+AZ l:=MS _ _;have wS:IntKind.i64.wrap (AZ (BC x i)+AZ l)=AZ (BC x i)+AZ l:=by
  have g1:=Jk (l:=BC x i) λy hy=>by have:=((DW ok.pc).2.1 y hy).1;omega
  have g2:=Jk (l:=l) λy hy=>by have:=((DW ok.par).2.1 y hy).1;omega
  exact wI
 have hsf:AZ (BC x i)+AZ l<=x.room->AL C0 46 [(Db x i l).D] (Al (!Dc x.side (Cj (Db x i l)))):=λhr=>by
  refine Wg (Db x i l) (by omega) (λc hq=>?_) ⟨s1,s2⟩;rcases NC hq with hq|hq
  ·obtain⟨d,hd,rfl⟩:=Bx.1 hq
   have pd:=HT (ok.cel d hd)
   have:=UB (DW pd.1).2.1 (hc d hd) (by omega)
   exact⟨this.1,this.2.1,by omega⟩
  ·rw[hq]
   have:=UB hall (by omega) (by omega)
   exact⟨this.1,this.2.1,by omega⟩
 have hat2:((Db x i l).cells.map (AV false))[i.toNat]?=some (.sl false 3 ((A9 (BC x i++l)).map AE.D)):=by
  rw[Ay];show Option.map _ (((x.cells.map A9).set i.toNat (A9 (BC x i++l)))[i.toNat]?)=_;rw[QW (by rw[Ab];exact ok.lt)];rfl
 have el2:((((A9 (BC x i++l)).map AE.D).length:Nat):Int)=((A9 (BC x i++l)).length:Int):=by rw[Ab]
 have po:AA (.tup [(Db x i l).D,i64 (E3 x i l)]):=AJ;have Ew:AA (Db x i l).D:=AJ;rw[hoD]at cW po Ew hsf;obtain⟨OD,hOD⟩:∃O,(Db x i l).cells.map (AV false)=O:=⟨_,rfl⟩
 rw[hOD]at cW po Ew hat2 hoD hsf;obtain⟨XD,hXD⟩:∃X,x.cells.map (AV false)=X:=⟨_,rfl⟩
 have pX:AA (.sl false 1 XD):=by rw[<-hXD];exact AJ
 have cX:AS (.agg [str (sb x.flow),i64 x.core,i64 x.room,i64 x.side,.sl false 1 XD]):=by rw[<-hXD];exact(AJ:AS x.D)
 rw[hB0,hXD]at cW;rw[hXD]at cLv hat⊢;have pAB:AA (.sl false 3 (AD++BD)):=by rw[hAB];exact AJ
 cases hsg:CI (BC x i++l)
 ·rw[hsg,AI rfl]at hE2
  rw[hE2,AI (by decide)]at hE;rw[hE,AI (by decide)]at hB;rw[hE]at pz;rw[hB,hE,hz];rw[hsg]at cG;refine AF KK (Ao f1 f2 BV) hat AB AB AB AB AB ?_;rw[Cw];have hR:=Fx (H:=[⟨108,11,53,3,AD++BD⟩,⟨1,1,24,5,[.agg [.prim (.string ⟨#[]⟩),.prim (.int .i64 0),.prim (.int .i64 0),.prim (.int .i64 0),.prim (.slice none 0 0)]]⟩,⟨0,0,24,5,[.agg [str (sb x.flow),i64 x.core,i64 x.room,i64 x.side,.sl false 1 XD]]⟩]) (Hf:=[⟨1,1,24,5,[.agg [.prim (.string ⟨#[]⟩),.prim (.int .i64 0),.prim (.int .i64 0),.prim (.int .i64 0),.prim (.slice none 0 0)]]⟩,⟨0,0,24,5,[.agg [str (sb x.flow),i64 x.core,i64 x.room,i64 x.side,.sl false 1 XD]]⟩]) (k:=108) (g:=11) (T:=53) (sz:=3) (l:=AD++BD) rfl;rw[Be]at hR;refine BF.own _ (CX.give _ cG (.drop (.keep (.keep .nil))) ⟨hR,trivial⟩ AJ) ?_;rintro d H2 n2 ⟨rfl,rfl,rfl⟩;refine AF KK kB AB AB AB AB AB AB ?_;exact⟨_,E9 (F6 (.nil 1)) (.refl _),pz.out,rfl⟩
 rw[hsg]at cG;rw[hsg,AH (by decide)]at hE2;refine sR 0 ?_;refine DA ⟨[(1,i64 i),(2,.sl false 3 BD),(3,.optr 0 0 5 0 0),(6,.optr 1 1 5 0 0)],[⟨1,1,24,5,[.agg [.prim (.string ⟨#[]⟩),.prim (.int .i64 0),.prim (.int .i64 0),.prim (.int .i64 0),.prim (.slice none 0 0)]]⟩,⟨0,0,24,5,[.agg [str (sb x.flow),i64 x.core,i64 x.room,i64 x.side,.sl false 1 XD]]⟩],50⟩ ?_ ?_
 ·have hkk:True:=trivial
  refine AF KK (Ao f1 f2 BV) hat AB AB AB AB AB ?_;rw[Cw];have hR:=Fx (H:=[⟨108,11,53,3,AD++BD⟩,⟨1,1,24,5,[.agg [.prim (.string ⟨#[]⟩),.prim (.int .i64 0),.prim (.int .i64 0),.prim (.int .i64 0),.prim (.slice none 0 0)]]⟩,⟨0,0,24,5,[.agg [str (sb x.flow),i64 x.core,i64 x.room,i64 x.side,.sl false 1 XD]]⟩]) (Hf:=[⟨1,1,24,5,[.agg [.prim (.string ⟨#[]⟩),.prim (.int .i64 0),.prim (.int .i64 0),.prim (.int .i64 0),.prim (.slice none 0 0)]]⟩,⟨0,0,24,5,[.agg [str (sb x.flow),i64 x.core,i64 x.room,i64 x.side,.sl false 1 XD]]⟩]) (k:=108) (g:=11) (T:=53) (sz:=3) (l:=AD++BD) rfl;rw[Be]at hR;refine BF.own _ (CX.give _ cG (.drop (.keep (.keep .nil))) ⟨hR,trivial⟩ AJ) ?_;rintro d H2 n2 ⟨rfl,rfl,rfl⟩;refine AF KK kB AB AB AB AB AB AB ?_;exact⟨trivial,AK⟩
 by_cases hr:AZ (BC x i)+AZ l>x.room
 ·have k3:decide (AZ (BC x i)+AZ l>x.room)=true:=Aw hr
  rw[AI hr]at hE2;rw[hE2,AI (by decide)]at hE;rw[hE,AI (by decide)]at hB;rw[hE]at pz;rw[hB,hE,hz];refine AF KK (Aa @wS k3) cLv cMl AB AB AB AB ?_;exact⟨_,E9 (F6 (.nil 1)) (.refl _),pz.out,rfl⟩
 have k3:decide (AZ (BC x i)+AZ l>x.room)=false:=Az hr;rw[AH hr]at hE2;rw[hE2,AH (λh=>h rfl)]at hE;have hsf:=hsf (by omega);refine DA ⟨[(1,i64 i),(2,.sl false 3 BD),(3,.optr 0 0 5 0 0),(6,.optr 1 1 5 0 0)],[⟨1,1,24,5,[.agg [.prim (.string ⟨#[]⟩),.prim (.int .i64 0),.prim (.int .i64 0),.prim (.int .i64 0),.prim (.slice none 0 0)]]⟩,⟨0,0,24,5,[.agg [str (sb x.flow),i64 x.core,i64 x.room,i64 x.side,.sl false 1 XD]]⟩],100⟩ ?_ ?_
 ·refine AF KK (Aa @wS k3) cLv cMl AB AB AB AB ?_
  exact⟨trivial,AK⟩
 have hAl:AD.length<=64:=by omega
 have hBl:BD.length<=64:=by omega
 have q1:[].take 0++AD=AD:=rfl;have q2:(AD).take (0+AD.length)=AD:=by rw[BV,Cw]
 refine AC.seq ?_;refine e1g w1 500 [0,1,2,3,4,5,6,7,8,9,10,11,12] [13] (use:=QO) (con:=Wn ⟨502,102,53,3,[]⟩ ⟨508,108,53,3,[].take 0++AD⟩ ⟨510,110,53,3,([].take 0++AD).take (0+AD.length)++BD⟩)
  (rs:=Lx _ [(0,.agg [str (sb x.flow),i64 x.core,i64 x.room,i64 x.side,.sl false 1 XD],none),(1,i64 i,none),(2,.osl 502 102 3 0 0,some ⟨502,102,53,3,[]⟩),(3,.optr 0 0 5 0 4,none),(4,.sl false 1 XD,none),(5,i64 i,none),(6,.pptr (.sl false 3 AD),none),(7,.sl false 3 AD,none),(8,.osl 508 108 3 0 (0+AD.length),some ⟨508,108,53,3,[].take 0++AD⟩),(9,.sl false 3 BD,none),(10,.osl 510 110 3 0 (0+AD.length+BD.length),some ⟨510,110,53,3,([].take 0++AD).take (0+AD.length)++BD⟩),(11,.agg [str (sb x.flow),i64 x.core,i64 x.room,i64 x.side,.sl false 1 OD],some ⟨511,111,53,3,[]⟩),(12,.optr 512 112 5 0 0,some ⟨512,112,24,5,[.agg [.prim (.string ⟨#[]⟩),.prim (.int .i64 0),.prim (.int .i64 0),.prim (.int .i64 0),.prim (.slice none 0 0)]]⟩)])
  (N:=[⟨511,111,53,3,[]⟩,⟨512,112,24,5,[.agg [.prim (.string ⟨#[]⟩),.prim (.int .i64 0),.prim (.int .i64 0),.prim (.int .i64 0),.prim (.slice none 0 0)]]⟩])
  (by kernel_rfl) rfl (nJ (Us (l:=[0,1,2,3,4,5,6,7,8,9,10,11,12]) (by kernel_rfl)) (Us (l:=[0,1,2,3,4,5,6,7,8,9,10,11,12]) (by kernel_rfl)) (Us (l:=[0,1,2,3,4,5,6,7,8,9,10,11,12]) (by kernel_rfl))) (QA.at ?_) (List.Perm.refl _) ?_
 ·refine BM (BM rfl (Or.inl (BM rfl (B9.l' 500 w1.tt rfl rfl (by exact CD))))) ?_
  refine BM (BM rfl (Or.inl (BM rfl (B9.p w1.tt rfl rfl AB)))) ?_;refine BM (BM rfl (Or.inl (BM rfl (B9.l' 502 w1.tt rfl rfl AB)))) ?_;refine BM (BM rfl (Or.inl (BM rfl (B9.p w1.tt rfl rfl AB)))) ?_;refine BM (BM rfl (Or.inl (BM rfl (B9.l' 504 w1.tt rfl rfl (by exact CD))))) ?_;refine BM (BM rfl (Or.inl (BM rfl (B9.p w1.tt rfl rfl AB)))) ?_;refine BM (BM rfl (Or.inl (BM rfl (B9.idx w1.tt rfl rfl rfl rfl rfl rfl hi0 hat)))) ?_;refine BM (BM rfl (Or.inl (BM rfl (B9.l' 507 w1.tt rfl rfl (by exact CD))))) ?_;refine BM (BM rfl (Or.inr ⟨_,_,rfl,rfl,LK.app 508 w1.tt rfl rfl ⟨rfl,rfl,rfl,rfl,rfl,Ar _,by show(0+AD.length)*48<=140737488355328;omega,by decide,by decide⟩⟩)) ?_;refine BM (BM rfl (Or.inl (BM rfl (B9.p w1.tt rfl rfl AB)))) ?_;refine BM (BM rfl (Or.inr ⟨_,_,rfl,rfl,LK.app 510 w1.tt rfl rfl ⟨rfl,rfl,rfl,rfl,rfl,by show 0+AD.length<=([]++AD).length;rw[Ei];omega,by show(0+AD.length+BD.length)*48<=140737488355328;omega,by decide,by decide⟩⟩)) ?_;refine BM (BM rfl (Or.inr ⟨_,_,rfl,rfl,LK.give 511 53 3 (ds':=[.agg [str (sb x.flow),i64 x.core,i64 x.room,i64 x.side,.sl false 1 XD],i64 i,.sl false 3 (AD++BD)]) rfl rfl rfl rfl rfl (λj a b h1 h2=>?_) cW AJ⟩)) ?_
  ·match j with
   | 0=>cases h1;cases h2;exact J6.refl _
   | 1=>cases h1;cases h2;exact J6.refl _
   | 2=>
    cases h1;cases h2
    have:=J6.osl (C:=C0) (F:=F) (e:=⟨510,110,53,3,([].take 0++AD).take (0+AD.length)++BD⟩) (len:=0+AD.length+BD.length) (by
     show(((([]:List D).take 0++AD).take (0+AD.length))++BD).length=_;rw[q1,q2,Be,BV])
    rw[q1,q2]at this⊢;exact this
   |j+3=>cases h1
  refine BM (BM rfl (Or.inl (BM rfl (B9.l' 512 w1.tt rfl rfl AB)))) ?_;exact AB
 change C7 _ _ _ _ _ ⟨(8,.optr 512 112 5 0 0)::(42,.agg [str (sb x.flow),i64 x.core,i64 x.room,i64 x.side,.sl false 1 OD])::(41,.osl 510 110 3 0 (0+AD.length+BD.length))::(40,.sl false 3 BD)::(39,.osl 508 108 3 0 (0+AD.length))::(38,.sl false 3 AD)::(37,.pptr (.sl false 3 AD))::(36,i64 i)::(35,.sl false 1 XD)::(34,.optr 0 0 5 0 4)::(33,.osl 502 102 3 0 0)::(32,i64 i)::(31,.agg [str (sb x.flow),i64 x.core,i64 x.room,i64 x.side,.sl false 1 XD])::_,_,_⟩ _ _;refine AG kB ?_
 by_cases hst:Dc x.side (Cj (Db x i l))=true
 ·rw[hst]at hsf
  rw[hst,AI rfl]at hE3;rw[hE3]at hE;rw[hE,AI (by decide)]at hB;rw[hE]at pz;rw[hB,hE,hz];refine AF KK kB hsf AB AB AB AB AB ?_;exact⟨_,E9 (F6 (.nil 1)) (.refl _),pz.out,rfl⟩
 rw[Bool.not_eq_true]at hst;rw[hst]at hsf;rw[hst,AH (by decide)]at hE3
 by_cases h64:64<(A9 (BC x i++l)).length
 ·have k4:decide (((A9 (BC x i++l)).length:Int)>64)=true:=BR
  rw[AI h64]at hE3;rw[hE3]at hE;rw[hE,AI (by decide)]at hB;rw[hE]at pz;rw[hB,hE,hz];refine AF KK (Bb k4 el2 kT kF) hsf hat2 AB AB AB AB ?_;exact⟨_,E9 (F6 (.nil 1)) (.refl _),pz.out,rfl⟩
 ·have k4:decide (((A9 (BC x i++l)).length:Int)>64)=false:=Bd
  rw[AH h64]at hE3;rw[hE3]at hE;rw[hE,AH (λh=>h rfl)]at hB;rw[hE]at po;rw[hB,hE,hoD];refine AF KK (Bb k4 el2 kT kF) hsf hat2 AB AB AB AB ?_;exact AM rfl po.out
theorem Ut (x:Aq)(hl:x.cells.length<=1000000)(hc:∀c∈x.cells,c.length<=1000000/\∀y∈c,y.shs.length<=1000000):AL C0 12 [x.D,x.D] (Al true):=by
 refine Af.walk w1 zM rfl λF=>?_
 obtain⟨cs,hcs⟩:∃c,x.cells=c:=⟨_,rfl⟩
 have el:(((cs.map (AV false)).length:Nat):Int)=(cs.length:Int):=by rw[Ab]
 have q0:BJ (sb x.flow) (sb x.flow)=true:=by rw[LH];exact Aw rfl
 have q1:(x.core != x.core)=false:=bne_self_eq_false _;have q2:(x.room != x.room)=false:=bne_self_eq_false _;have q3:(x.side != x.side)=false:=bne_self_eq_false _;have q4:((cs.length:Int) != (cs.length:Int))=false:=bne_self_eq_false _;unfold Aq.D;rw[hcs]at hl hc⊢;refine AF U3 (CM el q0 q1 q2 q3 q4 (Aa kT kF)) AB AB AB AB AB AB ?_;refine AC.loop (α:=Nat×Nat) (λp=>⟨[(2,.optr 0 0 5 0 0),(3,.optr 1 1 5 0 0),(5,i64 (p.1:Int))],[⟨1,1,24,5,[.agg [str (sb x.flow),i64 x.core,i64 x.room,i64 x.side,Er false cs]]⟩,⟨0,0,24,5,[.agg [str (sb x.flow),i64 x.core,i64 x.room,i64 x.side,Er false cs]]⟩],p.2⟩) (λp=>cs.length-p.1) (λq=>q.1<=cs.length) (0,_) (BW _) AK ?_;rintro⟨i,n⟩ F hi;dsimp only at hi⊢;rcases BE i cs.length with h2|h2
 rotate_left
 ·have e1:=Cg h2
  have:i=cs.length:=by omega
  subst this;refine AF U3 (Aa e1 el) AB AB AB AB AB AB ?_;exact AM rfl AA.out
 have e1:=Ch h2;have wi:=Cc (i:=i) (by omega);obtain⟨c,hc'⟩:=CO h2;have hm:(cs.map (AV false))[i]?=some (.sl false 3 (c.map AE.D)):=by rw[Ay,hc'];rfl
 have cc:=hc c (Ax hc');have cS:=VP false false c cc.1 cc.2;refine AF U3 (D9 e1 el wi kT kF kN) hm cS AB AB AB AB ?_;exact⟨(i+1,_),h2,by dsimp only;omega,AK⟩
theorem Ze:∀ {S T:List Au},GB S T=true↔S=T
 | [],[]=>by simp[GB]
 | [],_::_=>by simp[GB]
 |_::_,[]=>by simp[GB]
 |s::S,t::T=>by
  show(HE s t&&GB S T)=true↔_;rw[BZ,Ze (S:=S) (T:=T)];unfold HE;rw[BZ,LH,LH,decide_eq_true_iff,decide_eq_true_iff];obtain⟨a,b⟩:=s;obtain⟨c,d⟩:=t;simp
theorem oO (x y:AE):FO x y=true↔x.grain=y.grain/\x.shs=y.shs:=by
 unfold FO;rw[BZ,LH,decide_eq_true_iff,Ze]
theorem e0p {x y:AE}(hg:x.grain=y.grain)(hs:x.shs=y.shs)(m:Int):x.w m=y.w m:=by unfold AE.w;rw[hg,hs]
theorem w_w (x:AE)(a b:Int):(x.w a).w b=x.w b:=rfl
theorem y7 (x:AE):x.w x.mass=x:=rfl
theorem Nr {x y:AE}:FO x y=true↔∀m,x.w m=y.w m:=by
 rw[oO];constructor
 ·rintro⟨a,b⟩ m;exact e0p a b m
 ·intro h
  have h0:=h 0;unfold AE.w at h0;injection h0 with a b c;exact⟨a,c⟩
def BN (l:List AE):List AE:=l.flatMap λx=>List.replicate x.mass.toNat (x.w 1)
theorem SZ:BN []=[]:=rfl
theorem IT (x:AE)(l:List AE):BN (x::l)=List.replicate x.mass.toNat (x.w 1)++BN l:=rfl
theorem La (a b:List AE):BN (a++b)=BN a++BN b:=List.flatMap_append
theorem Ps (x:AE):BN [x]=List.replicate x.mass.toNat (x.w 1):=by rw[IT,SZ,De]
theorem V9:∀l:List AE,BN l.reverse=(BN l).reverse
 | []=>rfl
 |x::l=>by rw[List.reverse_cons,La,V9 l,Ps,IT,List.reverse_append,List.reverse_replicate]
theorem Pr:∀ {l:List AE},(∀x∈l,0<=x.mass)->((BN l).length:Int)=AZ l
 | [],_=>rfl
 |x::l,h=>by
  have h1:=h x (CF ..);have h2:=Pr (l:=l) λy hy=>h y (CL _ hy)
  rw[IT,Be,Hn,show AZ (x::l)=x.mass+AZ l from rfl];omega
theorem Pq {l:List AE}:∀y∈BN l,∃x∈l,y=x.w 1/\0<x.mass:=λy hy=>by
 unfold BN at hy;obtain⟨x,hx,h⟩:=List.mem_flatMap.1 hy;obtain⟨h1,h2⟩:=List.mem_replicate.1 h;exact⟨x,hx,h2,by omega⟩
theorem qo {R:List AE}{x:AE}(hR:∀y∈R,0<=y.mass)(hx:0<=x.mass):BN (Cm R x)=BN R++BN [x]:=by
 unfold Cm;split
 ·rename_i y hy
  have hR':R=R.dropLast++[y]:=by
   have hne:R≠[]:=λh=>by rw[h]at hy;cases hy
   have:=List.getLast?_eq_some_getLast hne
   rw[this]at hy;cases hy;exact(List.dropLast_concat_getLast hne).symm
  split
  ·rename_i hl
   have e:=Nr.1 hl 1;have hy0:=hR y (List.mem_of_getLast? hy)
   conv=>rhs;rw[hR']
   rw[La,La,Ps,Ps,Ps,Du];show _++List.replicate (y.mass+x.mass).toNat (y.w 1)=_;rw[<-e,List.replicate_append_replicate,show(y.mass+x.mass).toNat=y.mass.toNat+x.mass.toNat by omega]
  ·rw[La]
 ·rename_i hy
  rw[List.getLast?_eq_none_iff.1 hy];rfl
theorem qm {R:List AE}{x:AE}(hR:∀y∈R,0<=y.mass)(hx:0<=x.mass):∀y∈Cm R x,0<=y.mass:=by
 unfold Cm;split
 ·rename_i z hz
  have hz0:=hR z (List.mem_of_getLast? hz);split
  ·intro y hy
   rcases Bp.1 hy with h|h
   ·exact hR y ((List.dropLast_sublist R).subset h)
   ·obtain rfl:=EJ.1 h
    show 0<=z.mass+x.mass;omega
  ·intro y hy
   rcases Bp.1 hy with h|h
   ·exact hR y h
   ·obtain rfl:=EJ.1 h;exact hx
 ·intro y hy
  obtain rfl:=EJ.1 hy;exact hx
theorem fT {l:List AE}(h:∀x∈l,0<=x.mass):BN (A9 l)=BN l:=by
 have:∀(l R:List AE),(∀x∈l,0<=x.mass)->(∀y∈R,0<=y.mass)->BN (l.foldl Cm R)=BN R++BN l:=λl=>by
  induction l with
  |nil=>intro R _ _;simp[SZ]
  |cons x l ih=>
   intro R hl hR;have hx:=hl x (CF ..);rw[List.foldl_cons,ih _ (λy hy=>hl y (CL _ hy)) (qm hR hx),qo hR hx,Du,<-La];rfl
 exact this l [] h λy hy=>by cases hy
theorem iS:∀l:List AE,BN (Df l)=BN l
 | []=>rfl
 |x::l=>by
  have ih:=iS l;unfold Df at ih⊢;rw[List.filter_cons];split
  ·rw[IT,IT,ih]
  ·rename_i h
   have h0:x.mass=0:=by simpa using h
   rw[IT,ih,h0];rfl
theorem m8 (R:List AE)(x:AE)(m:Int):Cm (Cm R (x.w m)) (x.w 1)=Cm R (x.w (m+1)):=by
 have key:∀(A:List AE) (z:AE),FO z (x.w 1)=true->Cm (A++[z]) (x.w 1)=A++[z.w (z.mass+1)]:=λA z hz=>by
  unfold Cm;rw[List.getLast?_append];show(if FO z (x.w 1)=true then _ else _)=_;rw[AI hz,List.dropLast_concat];rfl
 have hlx:∀a b:Int,FO (x.w a) (x.w b)=true:=λa b=>Nr.2 λm=>rfl
 cases hR:R.getLast? with
 |none=>
  have:R=[]:=List.getLast?_eq_none_iff.1 hR
  subst this;exact key [] (x.w m) (hlx _ _)
 |some y=>
  have e:∀a:Int,Cm R (x.w a)=if FO y (x.w a)then R.dropLast++[y.w (y.mass+a)]else R++[x.w a]:=λa=>by
   unfold Cm;rw[hR];rfl
  have hb:∀a b:Int,FO y (x.w a)=FO y (x.w b):=λa b=>by
   rw[GU,Nr,Nr];exact Iff.rfl
  rw[e m,e (m+1),hb m 1,hb (m+1) 1]
  by_cases h:FO y (x.w 1)=true
  ·rw[AI h,AI h,key _ _ (Nr.2 λk=>(w_w y _ k).trans (Nr.1 h k))]
   show _++[y.w (y.mass+m+1)]=_;rw[Int.add_assoc]
  ·rw[AH h,AH h,key _ _ (hlx _ _)];rfl
theorem aT (x:AE):∀(n:Nat) (R:List AE),(List.replicate (n+1) (x.w 1)).foldl Cm R=Cm R (x.w ((n:Int)+1))
 | 0,R=>rfl
 |n+1,R=>by
  rw[List.replicate_succ',List.foldl_append,aT x n R];exact m8 R x _
theorem Vu {l:List AE}(h:∀x∈l,1<=x.mass):A9 (BN l)=A9 l:=by
 have:∀(l R:List AE),(∀x∈l,1<=x.mass)->(BN l).foldl Cm R=l.foldl Cm R:=λl=>by
  induction l with
  |nil=>intro R _;rfl
  |cons x l ih=>
   intro R hl;have hx:=hl x (CF ..);rw[IT,List.foldl_append,show x.mass.toNat=(x.mass.toNat-1)+1 by omega,aT,List.foldl_cons,ih _ λy hy=>hl y (CL _ hy)];rw[show(((x.mass.toNat-1:Nat):Int)+1)=x.mass by omega,y7]
 exact this l [] h
theorem SE {l:List AE}(h:∀x∈l,0<=x.mass):A9 (Df l)=A9 (BN l):=by
 rw[<-iS l];refine(Vu λx hx=>?_).symm;unfold Df at hx;obtain⟨h1,h2⟩:=List.mem_filter.1 hx
 have:=h x h1
 have:x.mass≠0:=by simpa using h2
 omega
theorem xg {a b:List AE}(ha:∀x∈a,1<=x.mass)(hb:∀x∈b,1<=x.mass)(h:BN a=BN b):A9 a=A9 b:=by rw[<-Vu ha,<-Vu hb,h]
theorem Wb:∀ {l:List AE} {m:Int},(∀x∈l,0<=x.mass)->0<=m->BN (EZ l m)=(BN l).take m.toNat
 | [],m,_,_=>by rw[SZ,List.take_nil];rfl
 |x::r,m,h,hm=>by
  have h1:=h x (CF ..);have h2:∀y∈r,0<=y.mass:=λy hy=>h y (CL _ hy)
  show BN (x.w (min x.mass m)::if m-x.mass<=0 then[]else EZ r (m-x.mass))=_;rw[IT,IT,List.take_append,List.take_replicate,Hn];show List.replicate (min x.mass m).toNat (x.w 1)++_=_;rw[show(min x.mass m).toNat=min m.toNat x.mass.toNat by omega]
  by_cases hz:m-x.mass<=0
  ·rw[AI hz,show m.toNat-x.mass.toNat=0 by omega];rfl
  ·rw[AH hz,Wb h2 (by omega),show m.toNat-x.mass.toNat=(m-x.mass).toNat by omega]
theorem WQ:∀ {l:List AE} {low left:Int},(∀x∈l,0<=x.mass)->0<=low->0<=left->BN (Fo l low left)=((BN l).drop low.toNat).take left.toNat
 | [],low,left,_,_,_=>by rw[SZ,List.drop_nil,List.take_nil];rfl
 |x::r,low,left,h,h0,h5=>by
  have h1:=h x (CF ..);have h2:∀y∈r,0<=y.mass:=λy hy=>h y (CL _ hy)
  show BN (x.w (min (x.mass-min x.mass low) left)::Fo r (low-min x.mass low) (left-min (x.mass-min x.mass low) left))=_;rw[IT,IT,WQ h2 (by omega) (by omega),List.drop_append,List.drop_replicate,Hn,List.take_append,List.take_replicate,Hn];show List.replicate (min (x.mass-min x.mass low) left).toNat (x.w 1)++_=_;rw[show(min (x.mass-min x.mass low) left).toNat=min left.toNat (x.mass.toNat-low.toNat) by omega,show(low-min x.mass low).toNat=low.toNat-x.mass.toNat by omega,
   show(left-min (x.mass-min x.mass low) left).toNat=left.toNat-(x.mass.toNat-low.toNat) by omega]
theorem ro {l:List AE}{i:Nat}{x:AE}(h:l[i]?=some x):BN (l.take (i+1))=BN (l.take i)++List.replicate x.mass.toNat (x.w 1):=by
 rw[Dp,h,La];show _++BN [x]=_;rw[Ps]
theorem Uk:∀ {l:List AE},(∀x∈l,0<=x.mass/\x.mass<=100000)->(BN l).length<=l.length*100000
 | [],_=>Ar _
 |x::l,h=>by
  have h1:=h x (CF ..);have h2:=Uk (l:=l) λy hy=>h y (CL _ hy)
  rw[IT,Be,Hn,Bu];omega
theorem di (b:Bool)(l:List AE)(hl:l.length<=1000)(hx:∀x∈l,0<=x.mass/\x.mass<=100000):AL C0 81 [AV b l] (AV false (BN l)):=by
 refine Af.walk w1 yp rfl λF=>?_
 have el:(((l.map AE.D).length:Nat):Int)=(l.length:Int):=by rw[Ab]
 refine AF AY el AB AB AB AB AB AB ?_;refine AC.ghost 1003 53 3 [(0,AV b l),(3,.osl 1003 _ 3 0 0),(4,i64 ((0:Nat):Int))] ⟨.inl rfl,.inr ⟨rfl,rfl⟩,.inl rfl,trivial⟩ ?_;refine AC.loop (α:=Nat×Nat×Nat) (λp=>⟨[(0,AV b l),(3,.osl 1003 p.2.1 3 0 (BN (l.take p.1)).length),(4,i64 (p.1:Int))],[⟨1003,p.2.1,53,3,(BN (l.take p.1)).map AE.D⟩],p.2.2⟩) (λp=>l.length-p.1) (λq=>q.1<=l.length) (0,_,_) (BW _) AK ?_;rintro⟨i,g,n⟩ F hi;dsimp only at hi⊢;rcases BE i l.length with h2|h2
 rotate_left
 ·have e1:=Cg h2
  have:i=l.length:=by omega
  subst this;rw[Cw];have hf:=Fx (H:=[⟨1003,g,53,3,(BN l).map AE.D⟩]) (Hf:=[]) (k:=1003) (g:=g) (T:=53) (sz:=3) (l:=(BN l).map AE.D) rfl;rw[Ab]at hf;refine AF AY (Aa e1 el) AB AB AB AB AB AB ?_;exact⟨_,hf,AA.out,rfl⟩
 have e1:=Ch h2;have wi:=Cc (i:=i) (by omega);obtain⟨x,hxi⟩:=CO h2;obtain⟨x1,x2⟩:=hx x (Ax hxi);have hm:(l.map AE.D)[i]?=some (.agg [str (sb x.grain),i64 x.mass,.sl false 2 (x.shs.map Au.D)]):=by rw[Ay,hxi];rfl
 have hU:=ro hxi;have hb0:=Uk (l:=l.take i) λy hy=>hx y (List.take_subset _ _ hy)
 rw[Bc]at hb0;obtain⟨R,hR⟩:∃R,BN (l.take i)=R:=⟨_,rfl⟩
 rw[hR]at hU hb0⊢;have hRl:R.length<=100000000:=by omega
 refine AF AY (Aa e1 el) AB AB AB AB AB AB ?_;refine AC.loop (α:=Nat×Nat×Nat) (λp=>⟨[(0,AV b l),(3,.osl 1003 p.2.1 3 0 (R++List.replicate p.1 (x.w 1)).length),(4,i64 (i:Int)),(5,i64 (p.1:Int))],[⟨1003,p.2.1,53,3,(R++List.replicate p.1 (x.w 1)).map AE.D⟩],p.2.2⟩) (λp=>x.mass.toNat-p.1) (λq=>q.1<=x.mass.toNat) (0,g,_) (BW _) (by rw[show R++List.replicate 0 (x.w 1)=R from De R];exact AK) ?_;rintro⟨k,g2,n2⟩ F hk;dsimp only at hk⊢;rcases BE k x.mass.toNat with h3|h3
 rotate_left
 ·have e2:decide ((k:Int)<x.mass)=false:=Bd
  have:k=x.mass.toNat:=by omega
  subst this;rw[<-hU];refine AF AY (Ao e2 wi kN) hm AB AB AB AB AB ?_;exact⟨(i+1,g2,n2+1000),h2,by dsimp only;omega,AK⟩
 have e2:decide ((k:Int)<x.mass)=true:=BR;have wk:=Cc (i:=k) (by omega);have hl2:(R++List.replicate k (x.w 1)).length=R.length+k:=by rw[Be,Hn]
 have hR2:(R++List.replicate (k+1) (x.w 1)).map AE.D=(R++List.replicate k (x.w 1)).map AE.D++[.agg [str (sb x.grain),i64 1,.sl false 2 (x.shs.map Au.D)]]:=by
  rw[List.replicate_succ',<-Du,Cz];rfl
 have hl3:(R++List.replicate (k+1) (x.w 1)).length=R.length+k+1:=by rw[Be,Hn];omega
 obtain⟨RD,hRD⟩:∃T,(R++List.replicate k (x.w 1)).map AE.D=T:=⟨_,rfl⟩
 have hRDl:RD.length=R.length+k:=by rw[<-hRD,Ab,hl2]
 rw[hl2,hRD];rw[hRD]at hR2;have htk:RD.take (R.length+k)=RD:=by rw[<-hRDl];exact Cw
 refine AF AY (Bb e2 wk htk kN) hm AB AB AB AB AB ?_;refine⟨(k+1,?g,n2+1000),h3,by dsimp only;omega,?_⟩
 rotate_left
 ·dsimp only
  rw[hl3,hR2];exact AK
def CR (bot:Nat->Bool)(n:Nat):Nat->Nat
 | 0=>0
 |j+1=>CR bot n j+if bot (n-j)then 1 else 0
def Hc (bot:Nat->Bool)(U:List AE):Nat->List AE
 | 0=>[]
 |j+1=>Hc bot U j++[U.getD (if bot (U.length-j)then CR bot U.length j else CR bot U.length j+(U.length-j)-1) ⟨[],0,[]⟩]
def Hi (bot:Nat->Bool)(n:Nat):Nat->List Bool
 | 0=>[]
 |j+1=>Hi bot n j++[bot (n-j)]
theorem Nx (bot:Nat->Bool)(n j:Nat):CR bot n (j+1)=CR bot n j+if bot (n-j)then 1 else 0:=rfl
theorem KM (bot:Nat->Bool)(n:Nat):∀j,CR bot n j<=j
 | 0=>Ar _
 |j+1=>by have:=KM bot n j;unfold CR;split<;>omega
theorem PM (bot:Nat->Bool)(U:List AE):∀j,(Hc bot U j).length=j
 | 0=>rfl
 |j+1=>by unfold Hc;rw[Be,PM bot U j];rfl
theorem PK (bot:Nat->Bool)(n:Nat):∀j,(Hi bot n j).length=j
 | 0=>rfl
 |j+1=>by unfold Hi;rw[Be,PK bot n j];rfl
theorem qu (bot:Nat->Bool)(U:List AE){j m:Nat}(h:j<m):(Hc bot U m)[j]?=some (U.getD (if bot (U.length-j)then CR bot U.length j else CR bot U.length j+(U.length-j)-1) ⟨[],0,[]⟩):=by
 induction m with
 |zero=>omega
 |succ m ih=>
  unfold Hc;rcases BE j m with h1|h1
  ·rw[GW (by rw[PM];exact h1),ih h1]
  ·have:j=m:=by omega
   subst this;rw[FC (by rw[PM];omega),PM,Nat.sub_self];rfl
theorem r7 (bot:Nat->Bool)(n:Nat){j m:Nat}(h:j<m):(Hi bot n m)[j]?=some (bot (n-j)):=by
 induction m with
 |zero=>omega
 |succ m ih=>
  unfold Hi;rcases BE j m with h1|h1
  ·rw[GW (by rw[PK];exact h1),ih h1]
  ·have:j=m:=by omega
   subst this;rw[FC (by rw[PK];omega),PK,Nat.sub_self];rfl
def Fi (bot:Nat->Bool)(U:List AE)(j:Nat):List AE:=(U.drop (CR bot U.length j)).take (U.length-j)
theorem Ui (bot:Nat->Bool)(U:List AE)(j:Nat):(Fi bot U j).length=U.length-j:=by
 have:=KM bot U.length j
 unfold Fi;rw[Bc,D8];omega
theorem mh (bot:Nat->Bool)(U:List AE):Fi bot U 0=U:=by
 unfold Fi;exact Cw
theorem oL {bot:Nat->Bool}{U:List AE}{j:Nat}(_:j<U.length)(hb:bot (U.length-j)=true):Fi bot U (j+1)=(Fi bot U j).drop 1:=by
 unfold Fi;rw[Nx,AI hb,List.drop_take,List.drop_drop,show U.length-j-1=U.length-(j+1) by omega]
theorem me {bot:Nat->Bool}{U:List AE}{j:Nat}(h:j<U.length)(hb:bot (U.length-j)=false):Fi bot U (j+1)=(Fi bot U j).take (U.length-j-1):=by
 unfold Fi;rw[Nx,AH (by rw[hb];exact Bool.false_ne_true),List.take_take,show min (U.length-j-1) (U.length-j)=U.length-(j+1) by omega];rfl
theorem kg {bot:Nat->Bool}{U:List AE}{j:Nat}(h:j<U.length):(Fi bot U j)[0]?=some (U.getD (CR bot U.length j) ⟨[],0,[]⟩):=by
 have:=KM bot U.length j
 unfold Fi;rw[List.getElem?_take_of_lt (by omega),HI,Dv,Ce,EK,Ce];rfl
theorem mg {bot:Nat->Bool}{U:List AE}{j:Nat}(h:j<U.length):(Fi bot U j)[U.length-j-1]?=some (U.getD (CR bot U.length j+(U.length-j)-1) ⟨[],0,[]⟩):=by
 have:=KM bot U.length j
 unfold Fi;rw[List.getElem?_take_of_lt (by omega),HI,EK,show CR bot U.length j+(U.length-j-1)=CR bot U.length j+(U.length-j)-1 by omega,Ce];rfl
theorem yP {bot:Nat->Bool}{U:List AE}{j:Nat}(h:j<U.length)(hb:bot (U.length-j)=true):U.take (CR bot U.length (j+1))=U.take (CR bot U.length j)++[U.getD (CR bot U.length j) ⟨[],0,[]⟩]:=by
 have:=KM bot U.length j
 rw[Nx,AI hb,Dp,EK,Bs (show CR bot U.length j<U.length by omega)];rfl
theorem ri {bot:Nat->Bool}{U:List AE}{j:Nat}(h:j<U.length)(hb:bot (U.length-j)=false):U.reverse.take (j+1-CR bot U.length (j+1))=U.reverse.take (j-CR bot U.length j)++[U.getD (CR bot U.length j+(U.length-j)-1) ⟨[],0,[]⟩]:=by
 have:=KM bot U.length j
 have e:CR bot U.length (j+1)=CR bot U.length j:=by show CR bot U.length j+_=_;rw[AH (by rw[hb];exact Bool.false_ne_true)];rfl
 rw[e,show j+1-CR bot U.length j=(j-CR bot U.length j)+1 by omega,Dp,List.getElem?_reverse (by omega),EK,
  show U.length-1-(j-CR bot U.length j)=CR bot U.length j+(U.length-j)-1 by omega,Bs (show CR bot U.length j+(U.length-j)-1<U.length by omega)];rfl
theorem Zq {bot:Nat->Bool}{n:Nat}(hb:∀k,bot k=true):∀j,CR bot n j=j
 | 0=>rfl
 |j+1=>by rw[Nx,Zq hb j,AI (hb _)]
theorem Zp {bot:Nat->Bool}{n c:Nat}(hc:0<c)(hb:∀k,bot k=decide (k%c=0)):∀j,j<=n->CR bot n j=n/c-(n-j)/c
 | 0,_=>by show 0=n/c-(n-0)/c;rw[Nat.sub_zero,Nat.sub_self]
 |j+1,h=>by
  rw[Nx,Zp hc hb j (by omega),hb];have h1:(n-j)/c<=n/c:=Nat.div_le_div_right (by omega);have e:n-j=(n-(j+1))+1:=by omega
  have h2:=Nat.succ_div (a:=n-(j+1)) (b:=c);rw[show n-(j+1)+1=n-j by omega]at h2
  by_cases hd:c ∣ n-j
  ·rw[AI hd]at h2
   rw[AI (Aw (Nat.mod_eq_zero_of_dvd hd))];omega
  ·rw[AH hd]at h2
   rw[AH (λq=>hd (Nat.dvd_of_mod_eq_zero (DN q)))];omega
def HB (x:Aq)(k:Nat):Bool:=BJ (sb x.flow) GA||decide (k%x.core.toNat=0)
def LW (x:Aq):Prop:=BJ (sb x.flow) GA=true\/2<=x.core/\x.core<=999999999
theorem nI {T:List D}:(T.drop (1:Int).toNat).take (T.length-(1:Int).toNat)=T.drop 1:=by
 rw[show(1:Int).toNat=1 from rfl,Cn (by rw[D8];exact Ar _)]
theorem sJ (x:Aq)(k:Nat)(hk:k<=1000000000)(hf:LW x):AL C0 111 [x.D,i64 (k:Int)] (Al (HB x k)):=by
 refine Af.walk w1 uW rfl λF=>?_
 have hb:HB x k=(BJ (sb x.flow) GA||decide (k%x.core.toNat=0)):=rfl;rw[hb];unfold GA at hb⊢;unfold LW GA at hf;unfold Aq.D;cases hm:BJ (sb x.flow) ⟨#[109,97,115,115]⟩
 rotate_left
 ·refine AF AY (Ao hm kT kF) AB AB AB AB AB AB ?_
  exact AM rfl AA.out
 obtain⟨h2,h3⟩:2<=x.core/\x.core<=999999999:=by
  rcases hf with h|h
  ·rw[hm]at h;cases h
  ·exact h
 obtain⟨c,hc⟩:∃c:Nat,x.core=(c:Int):=⟨x.core.toNat,by omega⟩
 rw[hc]at h2 h3⊢;have q0:((c:Int)==0)=false:=Bo.2 (by omega);have q1:((k:Int)).tmod (c:Int)=((k%c:Nat):Int):=rfl;have hlt:k%c<c:=B7 _ (by omega);have q3:IntKind.i64.wrap ((k%c:Nat):Int)=((k%c:Nat):Int):=wI;have q2:(((k%c:Nat):Int)==0)=decide (k%c=0):=by
  by_cases h:k%c=0
  ·rw[h];rfl
  ·rw[Az h];exact Bo.2 (by omega)
 rw[JQ];refine AF AY (D9 hm q1 q3 q2 kT kF) AB AB AB AB AB AB ?_;exact AM (by rw[Bool.false_or]) AA.out
theorem x6 (x:Aq)(i:Nat)(c:List AE)(hc:x.cells[i]?=some c)(hcl:x.cells.length<=1000000)(hl:c.length<=1000)(hx:∀y∈c,0<=y.mass/\y.mass<=100000)(hf:LW x):
  AL C0 80 [x.D,i64 (i:Int)] (.tup [AV false (Hc (HB x) (BN c) (BN c).length),.sl false 1 ((Hi (HB x) (BN c).length (BN c).length).map Al)]):=by
 refine Af.walk w1 yo rfl λF=>?_
 have cU:=di false c hl hx;have hUl:=Uk hx;have cB:=λk hk=>sJ x k hk hf
 obtain⟨bot,hbot⟩:∃b,HB x=b:=⟨_,rfl⟩
 rw[hbot]at cB⊢;obtain⟨U,hU⟩:∃U,BN c=U:=⟨_,rfl⟩
 rw[hU]at cU hUl⊢;have hat:(x.cells.map (AV false))[i]?=some (.sl false 3 (c.map AE.D)):=by rw[Ay,hc];rfl
 have el:(((x.cells.map (AV false)).length:Nat):Int)=(x.cells.length:Int):=by rw[Ab]
 have hi:=(BS.1 hc).1;have px:AA x.D:=AJ;have px2:AS x.D:=AJ;have hB0:x.D=.agg [str (sb x.flow),i64 x.core,i64 x.room,i64 x.side,.sl false 1 (x.cells.map (AV false))]:=rfl;rw[hB0]at cB px px2⊢;have fin:AA (.tup [AV false (Hc bot U U.length),.sl false 1 ((Hi bot U.length U.length).map Al)]):=AJ;refine AF AY (Aa el kN) hat cU AB AB AB AB ?_;refine AC.ghost 705 53 3 [(2,.optr 0 0 5 0 0),(6,AV false U),(7,.osl 705 _ 3 0 0),(8,CK)] ⟨.inl rfl,.inl rfl,.inr ⟨rfl,rfl⟩,.inl rfl,trivial⟩ ?_;refine AC.ghost 902 4 1 [(2,.optr 0 0 5 0 0),(6,AV false U),(7,.osl 705 _ 3 0 0),(8,.osl 902 _ 1 0 0)] ⟨.inl rfl,.inl rfl,.inl rfl,.inr ⟨rfl,rfl⟩,trivial⟩ ?_;refine AC.loop (α:=Nat×Bool×Nat×Nat×Nat) (λp=>⟨[(2,.optr 0 0 5 0 0),(6,AV false (Fi bot U p.1)),(7,.osl (if p.2.1 then 705 else 1007) p.2.2.1 3 0 p.1),(8,.osl (if p.2.1 then 902 else 1202) p.2.2.2.1 1 0 p.1)],
   [⟨if p.2.1 then 902 else 1202,p.2.2.2.1,4,1,(Hi bot U.length p.1).map Al⟩,⟨if p.2.1 then 705 else 1007,p.2.2.1,53,3,(Hc bot U p.1).map AE.D⟩,⟨0,0,24,5,[.agg [str (sb x.flow),i64 x.core,i64 x.room,i64 x.side,.sl false 1 (x.cells.map (AV false))]]⟩],p.2.2.2.2⟩)
  (λp=>U.length-p.1) (λq=>q.1<=U.length) (0,true,_,_,_) (BW _) (by rw[mh];exact AK) ?_
 rintro⟨j,last,g1,g2,n⟩ F hj;dsimp only at hj⊢;have hoL:=PM bot U j;have hlL:=PK bot U.length j;rcases BE j U.length with h2|h2
 rotate_left
 ·have:j=U.length:=by omega
  subst this;have hll:((((Fi bot U U.length).map AE.D).length:Nat):Int)=0:=by rw[Ab,Ui];omega
  have k0:decide ((0:Int)>0)=false:=rfl;cases last
  all_goals
   simp only[if_true,Fs,if_false];refine AF AY (Aa hll k0) AB AB AB AB AB AB ?_;exact⟨_,E9 (Mj rfl rfl (by rw[Ab,hoL])) (Mj rfl rfl (by rw[Ab,hlL])),fin.out,rfl⟩
 have hll:((((Fi bot U j).map AE.D).length:Nat):Int)=((U.length-j:Nat):Int):=by rw[Ab,Ui]
 have k1:decide (((U.length-j:Nat):Int)>0)=true:=BR;have cb:=cB (U.length-j) (by omega);have hF:=kg (bot:=bot) h2;have hG:=mg (bot:=bot) h2;have hlo:=@oL bot U j h2;have hhi:=@me bot U j h2;have hOn:Hc bot U (j+1)=Hc bot U j++[U.getD (if bot (U.length-j)then CR bot U.length j else CR bot U.length j+(U.length-j)-1) ⟨[],0,[]⟩]:=rfl;have hLn:Hi bot U.length (j+1)=Hi bot U.length j++[bot (U.length-j)]:=rfl;have hLl:=Ui bot U j;obtain⟨L2,hL2⟩:∃L,Fi bot U (j+1)=L:=⟨_,rfl⟩
 rw[hL2]at hlo hhi;obtain⟨LF,hLF⟩:∃L,Fi bot U j=L:=⟨_,rfl⟩
 rw[hLF]at hll hF hG hlo hhi hLl⊢;have hlo':bot (U.length-j)=true->(LF.map AE.D).drop 1=L2.map AE.D:=λh=>by rw[hlo h,List.map_drop]
 have hhi':bot (U.length-j)=false->(LF.map AE.D).take (U.length-j-1)=L2.map AE.D:=λh=>by rw[hhi h,Oh]
 have hFm:(LF.map AE.D)[0]?=some (U.getD (CR bot U.length j) ⟨[],0,[]⟩).D:=by rw[Ay,hF];rfl
 have hGm:(LF.map AE.D)[U.length-j-1]?=some (U.getD (CR bot U.length j+(U.length-j)-1) ⟨[],0,[]⟩).D:=by rw[Ay,hG];rfl
 obtain⟨LD,hLD⟩:∃T,LF.map AE.D=T:=⟨_,rfl⟩
 have pLD:AA (.sl false 3 LD):=by rw[<-hLD];exact AJ
 have hLDl:LD.length=U.length-j:=by rw[<-hLD,Ab,hLl]
 have hlys:AV false LF=.sl false 3 LD:=by rw[<-hLD]
 rw[hLD]at hll hlo' hhi' hFm hGm;rw[hlys];have hOD:(Hc bot U (j+1)).map AE.D=(Hc bot U j).map AE.D++[(U.getD (if bot (U.length-j)then CR bot U.length j else CR bot U.length j+(U.length-j)-1) ⟨[],0,[]⟩).D]:=by rw[hOn,Cz];rfl
 have hLoD:(Hi bot U.length (j+1)).map Al=(Hi bot U.length j).map Al++[Al (bot (U.length-j))]:=by rw[hLn,Cz];rfl
 obtain⟨OD,hODe⟩:∃T,(Hc bot U j).map AE.D=T:=⟨_,rfl⟩
 have hODl:OD.length=j:=by rw[<-hODe,Ab,hoL]
 obtain⟨BD,hBDe⟩:∃T,(Hi bot U.length j).map Al=T:=⟨_,rfl⟩
 have hBDl:BD.length=j:=by rw[<-hBDe,Ab,hlL]
 rw[hODe]at hOD⊢;rw[hBDe]at hLoD⊢;have t1:OD.take j=OD:=by rw[<-hODl];exact Cw
 have t2:BD.take j=BD:=by rw[<-hBDl];exact Cw
 cases hb:bot (U.length-j)
 ·rw[hb]at cb hOD hLoD
  rw[AH (by decide)]at hOD;have hhi':=hhi' hb;have wn:IntKind.i64.wrap (((U.length-j:Nat):Int)-1)=((U.length-j-1:Nat):Int):=by rw[wI];omega
  obtain⟨Y,hY⟩:∃Y,U.getD (CR bot U.length j+(U.length-j)-1) ⟨[],0,[]⟩=Y:=⟨_,rfl⟩
  rw[hY]at hGm hOD;rw[show Y.D=.agg [str (sb Y.grain),i64 Y.mass,CY false Y.shs]from rfl]at hGm hOD;cases last
  all_goals
   simp only[if_true,Fs,if_false];refine AF AY (CM hll k1 wn kN Nat.sub_zero (@GH D) (Ao hhi' t1 t2)) cb hGm AB AB AB AB ?_;refine⟨(j+1,false,?ga,?gb,n+1000),h2,by dsimp only;omega,?_⟩
   rotate_left 2
   ·dsimp only
    simp only[Fs,if_false];rw[hL2,hOD,hLoD];exact AK
 ·rw[hb]at cb hOD hLoD
  rw[AI rfl]at hOD;have hlo':=hlo' hb;obtain⟨Y,hY⟩:∃Y,U.getD (CR bot U.length j) ⟨[],0,[]⟩=Y:=⟨_,rfl⟩
  rw[hY]at hFm hOD;rw[show Y.D=.agg [str (sb Y.grain),i64 Y.mass,CY false Y.shs]from rfl]at hFm hOD;have hs:(LD.drop (1:Int).toNat).take (LD.length-(1:Int).toNat)=L2.map AE.D:=by rw[nI];exact hlo'
  cases last
  all_goals
   simp only[if_true,Fs,if_false];refine AF AY (CS hll k1 hs t1 t2) cb hFm AB AB AB AB ?_;refine⟨(j+1,true,?gc,?gd,n+1000),h2,by dsimp only;omega,?_⟩
   rotate_left 2
   ·dsimp only
    simp only[if_true];rw[hL2,hOD,hLoD];exact AK
abbrev aM:Dr:=[(3,[0,1,2,3,4,5,6,7,8,9],[10,11])]
open Go.Proofs Go.RowKit
set_option maxRecDepth 20000
set_option maxHeartbeats 4000000
theorem xN {x:Aq}{n m:Nat}(hm:m<=n)(hf:BJ (sb x.flow) GA=false)(hc:2<=x.core):CR (HB x) n m=n/x.core.toNat-(n-m)/x.core.toNat:=by
 refine Zp (by omega) (λk=>?_) m hm;unfold HB;rw[hf,Bool.false_or]
theorem r8 {x:Aq}{n m:Nat}(hf:BJ (sb x.flow) GA=true):CR (HB x) n m=m:=by
 refine Zq (λk=>?_) m;unfold HB;rw[hf,Bool.true_or]
def Qm (bk:Bool)(l:List AE):List AE:=if bk then(BN l).reverse else BN l
theorem yS (bk:Bool)(l:List AE):BN (Gj bk l)=Qm bk l:=by
 unfold Gj Qm;cases bk
 ·rfl
 ·exact V9 l
theorem rC (x:Aq)(n m:Nat)(hm:m<=n)(hn:n<=1000000000)(hf:LW x):AL C0 34 [x.D,i64 (n:Int),i64 (m:Int)] (i64 ((CR (HB x) n m:Nat):Int)):=by
 refine Af.walk w1 gG rfl λF=>?_
 have ho:=@xN x n m hm;have ho':=@r8 x n m;unfold LW at hf;obtain⟨A,hA⟩:∃A,CR (HB x) n m=A:=⟨_,rfl⟩
 rw[hA]at ho ho'⊢;unfold GA at ho ho' hf;unfold Aq.D;cases hq:BJ (sb x.flow) ⟨#[109,97,115,115]⟩
 rotate_left
 ·rw[ho' hq]
  refine AF aM (Ao hq kT kF) AB AB AB AB AB AB ?_;exact AM rfl AA.out
 obtain⟨h2,h3⟩:2<=x.core/\x.core<=999999999:=by
  rcases hf with h|h
  ·rw[hq]at h;cases h
  ·exact h
 have ho:=ho hq h2;obtain⟨c,hc⟩:∃c:Nat,x.core=(c:Int):=⟨x.core.toNat,by omega⟩
 rw[hc]at h2 h3 ho⊢;rw[JQ]at ho;have q0:((c:Int)==0)=false:=Bo.2 (by omega);have e2:IntKind.i64.wrap ((n:Int)-(m:Int))=((n-m:Nat):Int):=by rw[wI];omega
 have l1:n/c<=n:=Gn _ _;have l2:(n-m)/c<=n-m:=Gn _ _;have l3:(n-m)/c<=n/c:=Nat.div_le_div_right (by omega);have q1:((n:Int)).tdiv (c:Int)=((n/c:Nat):Int):=rfl;have q2:(((n-m:Nat):Int)).tdiv (c:Int)=(((n-m)/c:Nat):Int):=rfl;obtain⟨D1,hD1⟩:∃q,n/c=q:=⟨_,rfl⟩
 obtain⟨D2,hD2⟩:∃q,(n-m)/c=q:=⟨_,rfl⟩
 rw[hD1]at l1 l3 q1 ho;rw[hD2]at l2 l3 q2 ho;clear hD1 hD2;have q3:IntKind.i64.wrap ((D1:Nat):Int)=(D1:Int):=wI;have q4:IntKind.i64.wrap ((D2:Nat):Int)=(D2:Int):=wI;have q5:IntKind.i64.wrap ((D1:Int)-(D2:Int))=(A:Int):=by rw[wI];omega
 refine AF aM (CM hq e2 q1 q2 q3 q4 (Ao q5 kT kF)) AB AB AB AB AB AB ?_;exact AM rfl AA.out
theorem iW (b bk:Bool)(l:List AE)(m:Nat)(hl:l.length<=1000000)(hm:m<=1000000000)(hx:∀x∈l,0<=x.mass/\x.mass<=1000000000/\x.shs.length<=1000000):AL C0 40 [AV b l,i64 (m:Int),Al bk] (AV false (A9 ((Qm bk l).take m))):=by
 refine Af.walk w1 gM rfl λF=>?_
 have hxo:∀x∈Gj bk l,0<=x.mass/\x.mass<=1000000000/\x.shs.length<=1000000:=λx q=>hx x (by
  unfold Gj at q;cases bk
  ·exact q
  ·exact List.mem_reverse.1 q)
 have hol:(Gj bk l).length=l.length:=by
  unfold Gj;cases bk
  ·rfl
  ·exact List.length_reverse
 have ho:∀x∈l,∀m,AL C0 71 [x.D,i64 m] (x.w m).D:=λx q m=>Pl x m (hx x q).2.2
 have cA:=VT b bk l (m:Int) hl ⟨by omega,by omega⟩ (λx q=>⟨(hx x q).1,(hx x q).2.1⟩) ho _ (Un false (EZ (Gj bk l) (m:Int)) (by
  have:=VW (Gj bk l) (m:Int)
  omega) (V8 hxo (by omega)))
 rw[SE λx q=>(V8 hxo (by omega) x q).1,Wb (λx q=>(hxo x q).1) (by omega),yS,JQ]at cA
 by_cases h0:m=0
 ·subst h0
  have k1:(((0:Nat):Int)==0)=true:=rfl;refine AF AY k1 AB AB AB AB AB AB ?_;rw[NE];exact⟨_,.nil 3,AA.out,rfl⟩
 ·have k1:((m:Int)==0)=false:=Bo.2 (by omega)
  refine AF AY k1 cA AB AB AB AB AB ?_;exact AM rfl AA.out
def FA (x:Aq)(c:List AE)(m:Nat):Nat:=CR (HB x) (BN c).length m
def EA (x:Aq)(c:List AE)(m:Nat):List AE:=((BN c).drop (FA x c m)).take ((BN c).length-m)
def HX (x:Aq)(c:List AE)(m:Nat):List AE:=(BN c).reverse.take (m-FA x c m)++(BN c).take (FA x c m)
theorem Ry (x:Aq)(c:List AE)(m:Nat):FA x c m<=m:=KM _ _ _
theorem rn {c:List AE}(h:∀y∈c,y.shs.length<=1000000):∀y∈BN c,1<=y.mass/\y.mass<=1000000000/\y.shs.length<=1000000:=λy hy=>by
 obtain⟨z,hz,rfl,_⟩:=Pq y hy;exact⟨Int.le_refl _,by show(1:Int)<=_;omega,h z hz⟩
theorem NT {x:Aq}{c:List AE}{m:Nat}:∀y∈EA x c m,y∈BN c:=λy hy=>Kv (GJ hy)
theorem PI {x:Aq}{c:List AE}{m:Nat}:∀y∈HX x c m,y∈BN c:=λy hy=>by
 rcases Bp.1 hy with h|h
 ·exact List.mem_reverse.1 (GJ h)
 ·exact GJ h
theorem RT {x:Aq}{c:List AE}{m:Nat}(h:m<=(BN c).length):(EA x c m).length=(BN c).length-m:=by
 have:=Ry x c m
 unfold EA;rw[Bc,D8];omega
theorem Zi {x:Aq}{c:List AE}{m:Nat}(h:m<=(BN c).length):(HX x c m).length=m:=by
 have:=Ry x c m
 unfold HX;rw[Be,Bc,Bc,List.length_reverse];omega
theorem d8s (x:Aq)(i:Nat)(c:List AE)(hc:x.cells[i]?=some c)(hcl:x.cells.length<=1000000)(hl:c.length<=1000)(hx:∀y∈c,0<=y.mass/\y.mass<=100000)(hsh:∀y∈c,y.shs.length<=1000000)(hf:LW x)
  (hu:(BN c).length<=1000000) (hN:∀c∈x.cells,AL C0 82 [AV false c] (AV false (A9 c))) (m:Nat) (hm:m<=(BN c).length):
  AL C0 45 [x.D,i64 (i:Int),i64 (m:Int)] (.tup [(Fh x i (A9 (EA x c m))).D,AV false (A9 (HX x c m))]):=by
 refine Af.walk w1 zY rfl λF=>?_
 have cL:=x6 x i c hc hcl hl hx hf;have cU:=di false c hl hx;have hmU:=rn hsh;have hrl:=RT (x:=x) hm;have hfl:=Zi (x:=x) hm;have cN:=PX false (EA x c m) (by omega) λy hy=>hmU y (NT y hy)
 have cN2:=PX false (HX x c m) (by omega) λy hy=>hmU y (PI y hy)
 have hi:=(BS.1 hc).1;have cW:=iO x i hi hcl hN (EA x c m) cN;have hlo:=Ry x c m;have hrD:EA x c m=((BN c).drop (FA x c m)).take ((BN c).length-m):=rfl;have hfD:HX x c m=(BN c).reverse.take (m-FA x c m)++(BN c).take (FA x c m):=rfl;have hlX:FA x c m=CR (HB x) (BN c).length m:=rfl;have hat:(x.cells.map (AV false))[i]?=some (.sl false 3 (c.map AE.D)):=by rw[Ay,hc];rfl
 have el:(((x.cells.map (AV false)).length:Nat):Int)=(x.cells.length:Int):=by rw[Ab]
 have hoD:(Fh x i (A9 (EA x c m))).D=.agg [str (sb x.flow),i64 x.core,i64 x.room,i64 x.side,.sl false 1 ((Fh x i (A9 (EA x c m))).cells.map (AV false))]:=rfl;have po:AA (.tup [(Fh x i (A9 (EA x c m))).D,AV false (A9 (HX x c m))]):=AJ;rw[hoD]at cW po⊢;obtain⟨OC,hOC⟩:∃O,(Fh x i (A9 (EA x c m))).cells.map (AV false)=O:=⟨_,rfl⟩
 rw[hOC]at cW po⊢;obtain⟨U,hU⟩:∃U,BN c=U:=⟨_,rfl⟩
 rw[hU]at cL cU hm hu hlX hrD hfD;obtain⟨bot,hbot⟩:∃b,HB x=b:=⟨_,rfl⟩
 rw[hbot]at cL hlX;have px:AA x.D:=AJ;have px2:AS x.D:=AJ;have hB0:x.D=.agg [str (sb x.flow),i64 x.core,i64 x.room,i64 x.side,.sl false 1 (x.cells.map (AV false))]:=rfl;rw[hB0]at cL cW px px2⊢;obtain⟨XD,hXD⟩:∃T,x.cells.map (AV false)=T:=⟨_,rfl⟩
 rw[hXD]at cL cW px px2 hat el⊢;have hOat:=λj hj=>qu bot U (j:=j) (m:=U.length) hj
 have hLat:=λj hj=>r7 bot U.length (j:=j) (m:=U.length) hj
 obtain⟨OR,hOR⟩:∃O,Hc bot U U.length=O:=⟨_,rfl⟩
 rw[hOR]at cL hOat;obtain⟨LO,hLO⟩:∃O,Hi bot U.length U.length=O:=⟨_,rfl⟩
 rw[hLO]at cL hLat;have pLO:AA (.sl false 1 (LO.map Al)):=AJ;refine AF AY (Aa el kN) cL AB AB AB AB AB ?_;refine AC.ghost 806 53 3 [(1,i64 (i:Int)),(2,i64 (m:Int)),(3,.optr 0 0 5 0 0),(6,.optr 1 1 5 0 0),(8,AV false OR),(9,.sl false 1 (LO.map Al)),(10,.osl 806 _ 3 0 0),(11,CK),(12,i64 ((0:Nat):Int))] ⟨.inl rfl,.inl rfl,.inl rfl,.inl rfl,.inl rfl,.inl rfl,.inr ⟨rfl,rfl⟩,.inl rfl,.inl rfl,trivial⟩ ?_;refine AC.ghost 706 53 3 [(1,i64 (i:Int)),(2,i64 (m:Int)),(3,.optr 0 0 5 0 0),(6,.optr 1 1 5 0 0),(8,AV false OR),(9,.sl false 1 (LO.map Al)),(10,.osl 806 _ 3 0 0),(11,.osl 706 _ 3 0 0),(12,i64 ((0:Nat):Int))] ⟨.inl rfl,.inl rfl,.inl rfl,.inl rfl,.inl rfl,.inl rfl,.inl rfl,.inr ⟨rfl,rfl⟩,.inl rfl,trivial⟩ ?_;refine AC.loop (α:=Nat×Bool×Nat×Nat×Nat) (λp=>⟨[(1,i64 (i:Int)),(2,i64 (m:Int)),(3,.optr 0 0 5 0 0),(6,.optr 1 1 5 0 0),(8,AV false OR),(9,.sl false 1 (LO.map Al)),(10,.osl 806 p.2.2.1 3 0 (p.1-CR bot U.length p.1)),(11,.osl 706 p.2.2.2.1 3 0 (CR bot U.length p.1)),(12,i64 (p.1:Int))],
   (if p.2.1 then[⟨706,p.2.2.2.1,53,3,(U.take (CR bot U.length p.1)).map AE.D⟩,⟨806,p.2.2.1,53,3,(U.reverse.take (p.1-CR bot U.length p.1)).map AE.D⟩]else[⟨806,p.2.2.1,53,3,(U.reverse.take (p.1-CR bot U.length p.1)).map AE.D⟩,⟨706,p.2.2.2.1,53,3,(U.take (CR bot U.length p.1)).map AE.D⟩]) ++
   [⟨1,1,24,5,[.agg [.prim (.string ⟨#[]⟩),.prim (.int .i64 0),.prim (.int .i64 0),.prim (.int .i64 0),.prim (.slice none 0 0)]]⟩,⟨0,0,24,5,[.agg [str (sb x.flow),i64 x.core,i64 x.room,i64 x.side,.sl false 1 XD]]⟩],p.2.2.2.2⟩)
  (λp=>m-p.1) (λq=>q.1<=m) (0,true,_,_,_) (BW _) (by exact AK) ?_
 rintro⟨j,last,g1,g2,n⟩ F hj;dsimp only at hj⊢;have hlc:=KM bot U.length j;rcases BE j m with h2|h2
 rotate_left
 ·have:j=m:=by omega
  subst this;have k0:decide (((j:Nat):Int)<(j:Int))=false:=Bd;obtain⟨A,hA⟩:∃A,FA x c j=A:=⟨_,rfl⟩
  rw[<-hlX,hA]at hlc⊢;rw[hA]at hrD hfD;have hHl:(U.reverse.take (j-A)).length=j-A:=by rw[Bc,List.length_reverse];omega
  have hLl:(U.take A).length=A:=by rw[Bc];omega
  refine AC.weak ⟨[(1,i64 (i:Int)),(2,i64 (j:Int)),(3,.optr 0 0 5 0 0),(6,.optr 1 1 5 0 0),(10,AV false (U.reverse.take (j-A))),(11,AV false (U.take A)),(12,i64 (j:Int))],[⟨1,1,24,5,[.agg [.prim (.string ⟨#[]⟩),.prim (.int .i64 0),.prim (.int .i64 0),.prim (.int .i64 0),.prim (.slice none 0 0)]]⟩,⟨0,0,24,5,[.agg [str (sb x.flow),i64 x.core,i64 x.room,i64 x.side,.sl false 1 XD]]⟩],n⟩ ?_ ?_
  ·cases last
   ·exact AK (a:=.drop (.drop (.keep (.keep .nil)))) (b:=⟨.refl _,.refl _,.refl _,.refl _,Mj rfl rfl (by rw[Ab,hHl]),Mj rfl rfl (by rw[Ab,hLl]),.refl _,trivial⟩)
   ·exact AK (a:=.drop (.drop (.keep (.keep .nil)))) (b:=⟨.refl _,.refl _,.refl _,.refl _,Mj rfl rfl (by rw[Ab,hHl]),Mj rfl rfl (by rw[Ab,hLl]),.refl _,trivial⟩)
  have eH:((((U.reverse.take (j-A)).map AE.D).length:Nat):Int)=((j-A:Nat):Int):=by rw[Ab,hHl]
  have eL:((((U.take A).map AE.D).length:Nat):Int)=(A:Int):=by rw[Ab,hLl]
  have eU:(((U.map AE.D).length:Nat):Int)=(U.length:Int):=by rw[Ab]
  have wS:IntKind.i64.wrap ((U.length:Int)-((j-A:Nat):Int))=((U.length-(j-A):Nat):Int):=by rw[wI];omega
  have hRD:((U.map AE.D).drop A).take (U.length-(j-A)-A)=(EA x c j).map AE.D:=by
   rw[hrD,<-List.map_drop,<-Oh,show U.length-(j-A)-A=U.length-j by omega]
  have hFD:(HX x c j).map AE.D=(U.reverse.take (j-A)).map AE.D++(U.take A).map AE.D:=by rw[hfD,Cz]
  unfold AV at cN2;rw[hFD]at cN2;have hs1:(0:Int)<=(A:Int)/\(A:Int)<=((U.length-(j-A):Nat):Int)/\((U.length-(j-A):Nat):Int)<=(U.length:Int):=by omega
  have pF1:AA (.sl false 3 ((U.reverse.take (j-A)).map AE.D)):=AJ;have pF2:AA (.sl false 3 ((U.take A).map AE.D)):=AJ;have pF3:AA (.sl false 3 ((U.reverse.take (j-A)).map AE.D++(U.take A).map AE.D)):=by rw[<-hFD];exact AJ
  have hUDl:(U.map AE.D).length=U.length:=Ab ..;obtain⟨HD,hHD⟩:∃T,(U.reverse.take (j-A)).map AE.D=T:=⟨_,rfl⟩
  obtain⟨LD,hLD⟩:∃T,(U.take A).map AE.D=T:=⟨_,rfl⟩
  have hHDl:HD.length=j-A:=by rw[<-hHD,Ab,hHl]
  have hLDl:LD.length=A:=by rw[<-hLD,Ab,hLl]
  unfold AV at cU cW⊢;obtain⟨UD,hUD⟩:∃T,U.map AE.D=T:=⟨_,rfl⟩
  rw[hHD]at eH pF1 pF3 cN2⊢;rw[hLD]at eL pF2 pF3 cN2⊢;rw[hUD]at eU hRD cU hUDl;have f1:∀l:List D,([]:List D)++l=l:=Ei;have f2:∀n,List.take n ([]:List D)=[]:=λn=>List.take_nil
  refine AF AY (D9 k0 el eH eL eU @wS) hat cU AB AB AB AB ?_;rw[JQ,JQ,hRD];refine BF.same _ cW AJ ?_;refine AF AY (Ao f1 f2 BV) AB AB AB AB AB AB ?_;rw[Cw];refine BF.own _ (CX.give [⟨1,1,24,5,[.agg [.prim (.string ⟨#[]⟩),.prim (.int .i64 0),.prim (.int .i64 0),.prim (.int .i64 0),.prim (.slice none 0 0)]]⟩,⟨0,0,24,5,[.agg [str (sb x.flow),i64 x.core,i64 x.room,i64 x.side,.sl false 1 XD]]⟩] cN2 (.drop (.keep (.keep .nil))) ⟨Mj rfl rfl (by rw[Be]),trivial⟩ AJ) ?_;rintro d H2 n2 ⟨rfl,rfl,rfl⟩;refine AF AY kB AB AB AB AB AB AB ?_;exact AM rfl po.out
 have h3:j<U.length:=by omega
 have k0:decide ((j:Int)<(m:Int))=true:=BR;have wj:=Cc (i:=j) (by omega);have hO:=hOat j h3;have hL:=hLat j h3;have hlow:=@yP bot U j h3;have hhigh:=@ri bot U j h3;have hs:=Nx bot U.length j;have hlc2:=KM bot U.length (j+1);obtain⟨A,hA⟩:∃A,CR bot U.length j=A:=⟨_,rfl⟩
 obtain⟨A2,hA2⟩:∃A,CR bot U.length (j+1)=A:=⟨_,rfl⟩
 rw[hA]at hs hlow hhigh hlc hO⊢;rw[hA2]at hs hlow hhigh hlc2;have hLm:(LO.map Al)[j]?=some (Al (bot (U.length-j))):=by rw[Ay,hL];rfl
 have hHl:((U.reverse.take (j-A)).map AE.D).length=j-A:=by rw[Ab,Bc,List.length_reverse];omega
 have hLl:((U.take A).map AE.D).length=A:=by rw[Ab,Bc];omega
 cases hb:bot (U.length-j)
 ·rw[hb]at hs hO hLm
  rw[AH (by decide)]at hs hO;have hhigh:=hhigh hb;obtain⟨Y,hY⟩:∃Y,U.getD (A+(U.length-j)-1) ⟨[],0,[]⟩=Y:=⟨_,rfl⟩
  rw[hY]at hO hhigh;have hHD:(U.reverse.take (j+1-A)).map AE.D=(U.reverse.take (j-A)).map AE.D++[.agg [str (sb Y.grain),i64 Y.mass,CY false Y.shs]]:=by
   rw[show j+1-A=j+1-A2 by omega,hhigh,Cz];rfl
  have hOm:(OR.map AE.D)[j]?=some (.agg [str (sb Y.grain),i64 Y.mass,CY false Y.shs]):=by rw[Ay,hO];rfl
  obtain⟨HD,hHDe⟩:∃T,(U.reverse.take (j-A)).map AE.D=T:=⟨_,rfl⟩
  obtain⟨LD,hLDe⟩:∃T,(U.take A).map AE.D=T:=⟨_,rfl⟩
  rw[hHDe]at hHl hHD⊢;rw[hLDe]at hLl⊢;have htk:HD.take (j-A)=HD:=by rw[<-hHl];exact Cw
  have e2:A2=A:=by omega
  cases last
  all_goals
   simp only[if_true,Fs,if_false,EU,Ei];refine AF AY (Bb k0 wj htk kN) hLm hOm AB AB AB AB ?_;refine⟨(j+1,false,?ga,g2,n+1000),h2,by dsimp only;omega,?_⟩
   rotate_left
   ·dsimp only
    simp only[Fs,if_false,EU,Ei];rw[hA2,e2,hHD,hLDe,show j+1-A=j-A+1 by omega];exact AK
 ·rw[hb]at hs hO hLm
  rw[AI rfl]at hs hO;have hlow:=hlow hb;obtain⟨Y,hY⟩:∃Y,U.getD A ⟨[],0,[]⟩=Y:=⟨_,rfl⟩
  rw[hY]at hO hlow;have hLD2:(U.take A2).map AE.D=(U.take A).map AE.D++[.agg [str (sb Y.grain),i64 Y.mass,CY false Y.shs]]:=by
   rw[hlow,Cz];rfl
  have hOm:(OR.map AE.D)[j]?=some (.agg [str (sb Y.grain),i64 Y.mass,CY false Y.shs]):=by rw[Ay,hO];rfl
  have e3:j+1-A2=j-A:=by omega
  obtain⟨HD,hHDe⟩:∃T,(U.reverse.take (j-A)).map AE.D=T:=⟨_,rfl⟩
  obtain⟨LD,hLDe⟩:∃T,(U.take A).map AE.D=T:=⟨_,rfl⟩
  rw[hHDe]at hHl⊢;rw[hLDe]at hLl hLD2⊢;have htk:LD.take A=LD:=by rw[<-hLl];exact Cw
  cases last
  all_goals
   simp only[if_true,Fs,if_false,EU,Ei];refine AF AY (Bb k0 wj htk kN) hLm hOm AB AB AB AB ?_;refine⟨(j+1,true,g1,?gb,n+1000),h2,by dsimp only;omega,?_⟩
   rotate_left
   ·dsimp only
    simp only[if_true,EU,Ei];rw[hA2,e3,hLD2,hHDe,hs];exact AK
def GZ (l:List AE)(y:AE):Prop:=∃z∈l,y.grain=z.grain/\y.shs=z.shs
theorem MZ {l:List AE}:∀y∈A9 l,GZ l y:=by
 have:∀(l R A:List AE),(∀y∈R,GZ A y)->∀y∈l.foldl Cm R,GZ (A++l) y:=λl=>by
  induction l with
  |nil=>intro R A h y hy;rw[De];exact h y hy
  |cons x l ih=>
   intro R A h y hy;rw[List.foldl_cons]at hy
   have:=ih (Cm R x) (A++[x]) (λz hz=>by
    unfold Cm at hz;split at hz
    ·rename_i w hw
     split at hz
     ·rcases Bp.1 hz with hz|hz
      ·obtain⟨q,hq,e⟩:=h z ((List.dropLast_sublist R).subset hz)
       exact⟨q,II _ hq,e⟩
      ·obtain rfl:=EJ.1 hz
       obtain⟨q,hq,e⟩:=h w (List.mem_of_getLast? hw);exact⟨q,II _ hq,e⟩
     ·rcases Bp.1 hz with hz|hz
      ·obtain⟨q,hq,e⟩:=h z hz
       exact⟨q,II _ hq,e⟩
      ·obtain rfl:=EJ.1 hz
       exact⟨z,List.mem_append_right _ (EJ.2 rfl),rfl,rfl⟩
    ·obtain rfl:=EJ.1 hz
     exact⟨z,List.mem_append_right _ (EJ.2 rfl),rfl,rfl⟩) y hy
   rw[Du]at this;exact this
 intro y hy
 have:=this l [] [] (λy hy=>by cases hy) y hy
 rwa [Ei]at this
theorem Pf {l:List AE}:∀y∈BN l,GZ l y:=λy hy=>by
 obtain⟨z,hz,rfl,_⟩:=Pq y hy;exact⟨z,hz,rfl,rfl⟩
theorem GZ.trans {l L:List AE}{y:AE}(h:GZ L y)(hL:∀z∈L,GZ l z):GZ l y:=by
 obtain⟨z,hz,e1,e2⟩:=h;obtain⟨q,hq,e3,e4⟩:=hL z hz;exact⟨q,hq,e1.trans e3,e2.trans e4⟩
theorem Na {l:List AE}(h:∀x∈l,1<=x.mass):∀y∈A9 l,1<=y.mass:=by
 have:∀(l R:List AE),(∀x∈l,1<=x.mass)->(∀y∈R,1<=y.mass)->∀y∈l.foldl Cm R,1<=y.mass:=λl=>by
  induction l with
  |nil=>intro R _ h;exact h
  |cons x l ih=>
   intro R hl hR;rw[List.foldl_cons];refine ih _ (λy hy=>hl y (CL _ hy)) λz hz=>?_
   have hx:=hl x (CF ..);unfold Cm at hz;split at hz
   ·rename_i w hw
    split at hz
    ·rcases Bp.1 hz with hz|hz
     ·exact hR z ((List.dropLast_sublist R).subset hz)
     ·obtain rfl:=EJ.1 hz
      have:=hR w (List.mem_of_getLast? hw)
      show 1<=w.mass+x.mass;omega
    ·rcases Bp.1 hz with hz|hz
     ·exact hR z hz
     ·obtain rfl:=EJ.1 hz;exact hx
   ·obtain rfl:=EJ.1 hz;exact hx
 exact this l [] h λy hy=>by cases hy
theorem Tp {l:List AE}(h:∀x∈l,0<=x.mass){y:AE}(hy:y∈l):y.mass<=AZ l:=by
 obtain⟨A,B,rfl⟩:=EW hy;rw[MS,show AZ (y::B)=y.mass+AZ B from rfl];have p1:=Jk (l:=A) λz hz=>h z (II _ hz)
 have p2:=Jk (l:=B) λz hz=>h z (List.mem_append_right _ (CL _ hz))
 omega
theorem lC {y z:AE}(h:Ct z=0)(e1:y.grain=z.grain)(e2:y.shs=z.shs)(hm:1<=y.mass/\y.mass<=999999999):Ct y=0:=by
 unfold Ct at h⊢;rw[e1,e2];split at h
 ·cases h
 ·split at h
  ·cases h
  ·rw[AH (by assumption),CP];exact h
theorem ZV {l L:List AE}(h:Bw l=0)(hk:∀y∈L,GZ l y)(hn:L.length<=64)(hm:∀y∈L,1<=y.mass)(hs:AZ L<=999999999):Bw L=0:=by
 obtain⟨h1,h2,h3⟩:=Ia h;have h0:∀y∈L,0<=y.mass:=λy hy=>by have:=hm y hy;omega
 unfold Bw;rw[CP,MN (λj hj=>?_),AH (by decide),CP];have hj2:CT L j∈L:=by
  unfold CT;rw[EK,Bs hj];exact List.getElem_mem hj
 obtain⟨z,hz,e1,e2⟩:=hk _ hj2
 have:=Tp h0 hj2
 exact lC (h2 z hz) e1 e2 ⟨hm _ hj2,by omega⟩
theorem lX {l:List AE}(h:CI l=true):∀x∈l,∀y∈l,x.grain=y.grain:=λx hx y hy=>by
 unfold CI at h;rw[CW]at h;have h1:=h x hx;have h2:=h y hy;rw[LH,decide_eq_true_iff]at h1 h2;rw[h1,h2]
theorem mq {l:List AE}(h:∀x∈l,∀y∈l,x.grain=y.grain):CI l=true:=by
 unfold CI;rw[CW];intro x hx;rw[LH,decide_eq_true_iff];refine h x hx _ ?_;unfold CT;cases l with
 |nil=>cases hx
 |cons a l=>exact CF ..
theorem pi {l L:List AE}(h:CI l=true)(hk:∀y∈L,GZ l y):CI L=true:=mq λx hx y hy=>by
 obtain⟨a,ha,e1,_⟩:=hk x hx;obtain⟨b,hb,e2,_⟩:=hk y hy;rw[e1,e2];exact lX h a ha b hb
theorem ZC {x:Aq}{c L:List AE}(h:Da x c=0)(hk:∀y∈L,GZ c y)(hn:L.length<=64)(hm:∀y∈L,1<=y.mass)(hs:AZ L<=AZ c):Da x L=0:=by
 obtain⟨h1,h2,h3,h4,h5,h6⟩:=HT h;exact ZD (ZV h1 hk hn hm (by omega)) (pi h2 hk) (by omega)
theorem lS {x y:Aq}(hr:y.room=x.room)(c:List AE):Da y c=Da x c:=by unfold Da;rw[hr]
theorem ZE {x:Aq}:∀ {l:List (List AE)},(∀c∈l,Da x c=0)->Ey x l=0
 | [],_=>rfl
 |c::l,h=>by
  show(if Da x c≠0 then Da x c else Ey x l)=0;rw[AH (λq=>q (h c (CF ..)))];exact ZE λd hd=>h d (CL _ hd)
theorem xH {x y:Aq}(h1:y.flow=x.flow)(h2:y.core=x.core)(h3:y.room=x.room)(h4:y.side=x.side)(h5:y.cells.length=x.cells.length):Gt y=Gt x:=by
 unfold Gt M4 Lu Sj;rw[h1,h2,h3,h4,h5]
theorem bM {x:Aq}(h:Cu x=0):Gt x=0/\Dc x.side (Cj x)=false:=by
 unfold Cu at h
 by_cases h1:Gt x=0
 ·rw[AH (λq=>q h1)]at h
  by_cases h2:Ey x x.cells=0
  ·rw[AH (λq=>q h2)]at h
   refine⟨h1,?_⟩;cases hb:Dc x.side (Cj x)
   ·rfl
   ·rw[hb]at h;cases h
  ·rw[AI h2]at h;exact Ak h h2
 ·rw[AI h1]at h;exact Ak h h1
theorem so {x y:Aq}(h:Cu x=0)(h1:y.flow=x.flow)(h2:y.core=x.core)(h3:y.room=x.room)(h4:y.side=x.side)(h5:y.cells.length=x.cells.length)(hc:∀c∈y.cells,Da x c=0)(hs:Dc x.side (Cj y)=false):Cu y=0:=by
 unfold Cu;rw[xH h1 h2 h3 h4 h5,(bM h).1,AH (λq=>q rfl),ZE (λc hq=>(lS h3 c).trans (hc c hq)),AH (λq=>q rfl),h4,hs];rfl
theorem aB {x:Aq}(h:Cu x=0):LW x:=by
 have h1:=(bM h).1;rw[Vl]at h1;split at h1
 ·cases h1
 rename_i hf;split at h1
 ·cases h1
 rename_i hr;unfold Lq at hr;unfold LW;cases hm:BJ (sb x.flow) GA
 ·rw[hm]at hf hr
  cases hu:BJ (sb x.flow) Jj
  ·rw[hu]at hf;exact Ak rfl hf
  ·rw[hu]at hr
   simp only[Hk,Gl,Bool.false_or,Kr,HJ,not_or]at hr;exact .inr (by omega)
 ·exact .inl rfl
theorem sO {x:Aq}{c:List AE}{m:Nat}(hc:∀y∈c,1<=y.mass)(hm:m<=(BN c).length):(∀y∈A9 (EA x c m),GZ c y)/\(∀y∈A9 (EA x c m),1<=y.mass)/\AZ (A9 (EA x c m))=AZ c-m:=by
 have hu:∀y∈EA x c m,1<=y.mass:=λy hy=>by
  obtain⟨z,hz,rfl,_⟩:=Pq y (NT y hy);exact Int.le_refl _
 refine⟨λy hy=>(MZ y hy).trans λz hz=>Pf z (NT z hz),Na hu,?_⟩;have h0:∀y∈c,0<=y.mass:=λy hy=>by have:=hc y hy;omega
 rw[Nc,<-Pr h0];have h1:AZ (EA x c m)=((EA x c m).length:Int):=by
  have:∀L:List AE,(∀y∈L,y.mass=1)->AZ L=(L.length:Int):=λL=>by
   induction L with
   |nil=>intro _;rfl
   |cons a L ih=>
    intro h;rw[show AZ (a::L)=a.mass+AZ L from rfl,h a (CF ..),ih λy hy=>h y (CL _ hy),Bu];omega
  exact this _ λy hy=>by
   obtain⟨z,hz,rfl,_⟩:=Pq y (NT y hy);rfl
 rw[h1,RT hm];omega
def D4 (x:Aq)(i m:Int):Int:=Ck [Cp x [i],if decide (m<0)then 3 else 0]
def Bj (x:Aq)(i m:Int):Aq:=Fh x i.toNat (A9 (EA x (BC x i) m.toNat))
def CQ (x:Aq)(i m:Int):List AE:=A9 (HX x (BC x i) m.toNat)
def JF (x:Aq)(i m:Int):Int:=if Dc x.side (Cj (Bj x i m))then 17 else if 64<(CQ x i m).length then 5 else 0
def Cv (x:Aq)(i m:Int):Int:=if D4 x i m≠0 then D4 x i m else if AZ (BC x i)<m then 13 else JF x i m
def Ha (x:Aq)(i m:Int):Aq:=if Cv x i m≠0 then EB else Bj x i m
def G8 (x:Aq)(i m:Int):List AE:=if Cv x i m≠0 then[]else CQ x i m
theorem qp {P Q:List AE}(hP:∀y∈P,1<=y.mass)(hQ:∀y∈Q,1<=y.mass):A9 (A9 P++A9 Q)=A9 (P++Q):=by
 have h0:∀L:List AE,(∀y∈L,1<=y.mass)->∀y∈L,0<=y.mass:=λL h y hy=>by have:=h y hy;omega
 refine xg (λy hy=>?_) (λy hy=>?_) ?_
 ·rcases Bp.1 hy with h|h
  ·exact Na hP y h
  ·exact Na hQ y h
 ·rcases Bp.1 hy with h|h
  ·exact hP y h
  ·exact hQ y h
 ·rw[La,La,fT (h0 P hP),fT (h0 Q hQ)]
structure yC (x:Aq)(i m:Int)(c:List AE)(n k:Nat):Prop where
 cel:∀c∈x.cells,Da x c=0
 bin:Cu x=0
 lt:i.toNat<x.cells.length
 ii:i=(i.toNat:Int)
 at_:x.cells[i.toNat]?=some c
 mm:m=(k:Int)
 nn:(n:Int)=AZ c
 un:(BN c).length=n
 par:Bw c=0
theorem Mh {x:Aq}{i m:Int}(h:D4 x i m=0):yC x i m (BC x i) (BN (BC x i)).length m.toNat:=by
 obtain⟨h1,h2⟩:=bZ h;obtain⟨g1,g2,g3⟩:=VZ h1;have hlt:i.toNat<x.cells.length:=by omega
 have hat:x.cells[i.toNat]?=some (BC x i):=by
  unfold BC;rw[EK,Bs hlt];rfl
 have hp:=(HT (PT g1 _ (Ax hat))).1;have hm:¬m<0:=λq=>by rw[Aw q]at h2;cases h2
 exact⟨PT g1,g1,hlt,by omega,hat,by omega,Pr λy hy=>by have:=((DW hp).2.1 y hy).1;omega,rfl,hp⟩
theorem VS:∀ {L:List AE},(∀y∈L,y.mass=1)->AZ L=(L.length:Int)
 | [],_=>rfl
 |a::L,h=>by
  rw[show AZ (a::L)=a.mass+AZ L from rfl,h a (CF ..),VS λy hy=>h y (CL _ hy),Bu];omega
theorem PP {c:List AE}:∀y∈BN c,y.mass=1:=λy hy=>by
 obtain⟨z,hz,rfl,_⟩:=Pq y hy;rfl
theorem WA {c L:List AE}(hp:Bw c=0)(hL:∀y∈L,y∈BN c)(hl:L.length<=(BN c).length):(∀y∈A9 L,1<=y.mass/\y.mass<=1000000000/\y.shs.length<=1000000)/\AZ (A9 L)=(L.length:Int):=by
 have h1:∀y∈L,y.mass=1:=λy hy=>PP y (hL y hy)
 have hs:=VS h1;have hc:=(Ia hp).2.2;have hn:=Pr (l:=c) λy hy=>by have:=((DW hp).2.1 y hy).1;omega
 have h0:∀y∈A9 L,1<=y.mass:=Na λy hy=>by rw[h1 y hy];exact Int.le_refl _
 refine⟨λy hy=>⟨h0 y hy,?_,?_⟩,by rw[Nc,hs]⟩
 ·have:=Tp (λz hz=>by have:=h0 z hz;omega) hy
  rw[Nc,hs]at this;omega
 ·obtain⟨z,hz,_,e⟩:=MZ y hy
  obtain⟨w,hw,_,e2⟩:=Pf z (hL z hz);rw[e,e2];exact((DW hp).2.1 w hw).2.2
theorem XW {c:List AE}{k:Nat}(hc:∀y∈c,1<=y.mass):(A9 ((BN c).take k)).length<=c.length:=by
 have h0:∀y∈c,0<=y.mass:=λy hy=>by have:=hc y hy;omega
 have e:=Wb (l:=c) (m:=(k:Int)) h0 (by omega);rw[JQ]at e;have h1:∀y∈EZ c (k:Int),0<=y.mass:=by
  have:∀(l:List AE) (m:Int),(∀y∈l,0<=y.mass)->0<=m->∀y∈EZ l m,0<=y.mass:=λl=>by
   induction l with
   |nil=>intro m _ _ y hy;cases hy
   |cons a l ih=>
    intro m h hm y hy
    have:=h a (CF ..)
    rcases A8.1 hy with rfl|hy
    ·show 0<=min a.mass m;omega
    ·split at hy
     ·cases hy
     ·exact ih _ (λz hz=>h z (CL _ hz)) (by omega) y hy
  exact this c _ h0 (by omega)
 have h2:=SE h1;rw[e]at h2;rw[<-h2];have h3:=LS (Df (EZ c (k:Int)));have h4:(Df (EZ c (k:Int))).length<=(EZ c (k:Int)).length:=List.length_filter_le ..;have h5:=VW c (k:Int);omega
theorem ji {c:List AE}{k:Nat}(hc:∀y∈c,1<=y.mass):(A9 ((BN c).reverse.take k)).length<=c.length:=by
 rw[<-V9]
 have:=XW (c:=c.reverse) (k:=k) λy hy=>hc y (List.mem_reverse.1 hy)
 rwa [List.length_reverse]at this
theorem RL {x:Aq}{c:List AE}{m:Nat}(hc:∀y∈c,1<=y.mass):(A9 (EA x c m)).length<=c.length:=by
 have h0:∀y∈c,0<=y.mass:=λy hy=>by have:=hc y hy;omega
 have e:=WQ (l:=c) (low:=(FA x c m:Int)) (left:=(((BN c).length-m:Nat):Int)) h0 (by omega) (by omega);rw[JQ,JQ]at e;have hbl:∀(l:List AE) (a b:Int),(Fo l a b).length=l.length:=λl=>by
  induction l with
  |nil=>intro a b;rfl
  |cons z l ih=>intro a b;show(Fo l _ _).length+1=_;rw[ih];rfl
 have hbn:∀(l:List AE) (a b:Int),(∀y∈l,0<=y.mass)->0<=a->0<=b->∀y∈Fo l a b,0<=y.mass:=λl=>by
  induction l with
  |nil=>intro a b _ _ _ y hy;cases hy
  |cons z l ih=>
   intro a b h ha hb y hy
   have:=h z (CF ..)
   rcases A8.1 hy with rfl|hy
   ·show 0<=min (z.mass-min z.mass a) b;omega
   ·exact ih _ _ (λw hw=>h w (CL _ hw)) (by omega) (by omega) y hy
 have h2:=SE (hbn c (FA x c m:Int) (((BN c).length-m:Nat):Int) h0 (by omega) (by omega));rw[e]at h2;show(A9 (((BN c).drop (FA x c m)).take ((BN c).length-m))).length<=_;rw[<-h2];have h3:=LS (Df (Fo c (FA x c m:Int) (((BN c).length-m:Nat):Int)));have h4:(Df (Fo c (FA x c m:Int) (((BN c).length-m:Nat):Int))).length<=(Fo c (FA x c m:Int) (((BN c).length-m:Nat):Int)).length:=List.length_filter_le ..;rw[hbl]at h4;omega
abbrev Jn:Dr:=[(9,[0,1,2,3,4,5,6,7,8,9],[10]),(11,[0,1,2,3,4],[5,6,7])]
open Go.Proofs Go.RowKit
set_option maxRecDepth 20000
set_option maxHeartbeats 4000000
theorem NZ {H:Hp}{a a' b b' c:D}(h1:Fz H [] a a')(h2:Fz H [] b b'):Fz H [] (.tup [a,b,c]) (.tup [a',b',c]):=NR h1 h2
theorem iU (x:Aq)(hl:x.cells.length<=1000000)(hc:∀c∈x.cells,c.length<=1000000/\∀y∈c,y.few)(i m:Int):AL C0 6 [x.D,i64 i,i64 m] (.tup [(Ha x i m).D,AV false (G8 x i m),i64 (Cv x i m)]):=by
 refine Af.walk w1 ik rfl λF=>?_
 have cC:=WW x hl hc [i] (by simp);have cW:=GQ (decide (m<0)) 3;have cF1:=I6 [Cp x [i],if decide (m<0)then 3 else 0] (by simp);rw[show Ck [Cp x [i],if decide (m<0)then 3 else 0]=D4 x i m from rfl]at cF1;have hE:Cv x i m=if D4 x i m≠0 then D4 x i m else if AZ (BC x i)<m then 13 else JF x i m:=rfl
 have hB:Ha x i m=if Cv x i m≠0 then EB else Bj x i m:=rfl
 have hL:G8 x i m=if Cv x i m≠0 then[]else CQ x i m:=rfl
 have hz:EB.D=.agg [str (sb []),i64 0,i64 0,i64 0,.sl false 1 []]:=rfl;have pz:AA (.tup [EB.D,AV false [],i64 (Cv x i m)]):=AJ;rw[hz]at pz
 by_cases h0:D4 x i m=0
 rotate_left
 ·have k2:(D4 x i m != 0)=true:=FW h0
  rw[AI h0]at hE;rw[hE,AI h0]at hB hL;rw[hE]at pz;rw[hB,hL,hE,hz];unfold Aq.D at cC⊢;refine AF Jn k2 cC cW cF1 AB AB AB ?_;exact⟨_,NZ (F6 (.nil 1)) (.nil 3),pz.out,rfl⟩
 have k2:(D4 x i m != 0)=false:=by rw[h0];rfl
 rw[AH (λh=>h h0)]at hE;have ok:=Mh h0;obtain⟨c,hcc⟩:∃c,BC x i=c:=⟨_,rfl⟩
 obtain⟨k,hk⟩:∃k,m.toNat=k:=⟨_,rfl⟩
 obtain⟨n,hn⟩:∃n,(BN c).length=n:=⟨_,rfl⟩
 have hO:Bj x i m=Fh x i.toNat (A9 (EA x c k)):=by unfold Bj;rw[hcc,hk]
 have hF:CQ x i m=A9 (HX x c k):=by unfold CQ;rw[hcc,hk]
 have hE3:JF x i m=if Dc x.side (Cj (Bj x i m))then 17 else if 64<(CQ x i m).length then 5 else 0:=rfl
 rw[hcc]at hE ok;rw[hk,hn]at ok;have hpn:=DW ok.par;have hps:=(Ia ok.par).2.2;have hmem:=Ax ok.at_;have cT:=Sh false c (by omega);rw[NU hpn.2.2,<-ok.nn]at cT;have hat:(x.cells.map (AV false))[i.toNat]?=some (.sl false 3 (c.map AE.D)):=by rw[Ay,ok.at_];rfl
 have hi0:0<=i:=by have:=ok.ii;omega
 have hil:i<(x.cells.length:Int):=by have:=ok.ii;have:=ok.lt;omega
 have el:(((x.cells.map (AV false)).length:Nat):Int)=(x.cells.length:Int):=by rw[Ab]
 have hmk:=ok.mm
 by_cases h1:AZ c<m
 ·have k3:decide ((n:Int)<m)=true:=Aw (by rw[ok.nn];exact h1)
  rw[AI h1]at hE;rw[hE,AI (by decide)]at hB hL;rw[hE]at pz;rw[hB,hL,hE,hz];unfold Aq.D at cC⊢;refine AF Jn (Ao k2 el k3) cC cW cF1 hat cT AB ?_;exact⟨_,NZ (F6 (.nil 1)) (.nil 3),pz.out,rfl⟩
 have k3:decide ((n:Int)<m)=false:=Az (by rw[ok.nn];exact h1);rw[AH h1]at hE;have hkn:k<=n:=by have:=ok.nn;omega
 have hnB:n<=1000000000:=by have:=ok.nn;omega
 have cLo:=rC x n k hkn hnB (aB ok.bin);have hlX:FA x c k=CR (HB x) n k:=by unfold FA;rw[hn]
 rw[<-hlX]at cLo;have hA:=Ry x c k;have hxc:∀y∈c,0<=y.mass/\y.mass<=1000000000/\y.shs.length<=1000000:=λy hy=>⟨by have:=(hpn.2.1 y hy).1;omega,(hpn.2.1 y hy).2⟩
 have hown:∀y∈c,∀m,AL C0 71 [y.D,i64 m] (y.w m).D:=λy q m=>Pl y m (hxc y q).2.2
 have hrD:EA x c k=((BN c).drop (FA x c k)).take (n-k):=by unfold EA;rw[hn]
 have hfD:HX x c k=(BN c).reverse.take (k-FA x c k)++(BN c).take (FA x c k):=rfl;obtain⟨A,hAe⟩:∃A,FA x c k=A:=⟨_,rfl⟩
 rw[hAe]at cLo hA hrD hfD;have hbl:∀(l:List AE) (a b:Int),(Fo l a b).length=l.length:=λl=>by
  induction l with
  |nil=>intro a b;rfl
  |cons z l ih=>intro a b;show(Fo l _ _).length+1=_;rw[ih];rfl
 have hbn:∀(l:List AE) (a b:Int),(∀y∈l,0<=y.mass/\y.mass<=1000000000/\y.shs.length<=1000000)->0<=a->0<=b->∀y∈Fo l a b,0<=y.mass/\y.mass<=1000000000/\y.shs.length<=1000000:=λl=>by
  induction l with
  |nil=>intro a b _ _ _ y hy;cases hy
  |cons z l ih=>
   intro a b h ha hb y hy
   have:=h z (CF ..)
   rcases A8.1 hy with rfl|hy
   ·refine⟨?_,?_,this.2.2⟩
    ·show 0<=min (z.mass-min z.mass a) b;omega
    ·show min (z.mass-min z.mass a) b<=_;omega
   ·exact ih _ _ (λw hw=>h w (CL _ hw)) (by omega) (by omega) y hy
 have cBt:=YJ false c (A:Int) ((k-A:Nat):Int) (by omega) ⟨by omega,by omega⟩ ⟨by omega,by omega⟩ (n:Int) ⟨by omega,by omega⟩ (λy q=>⟨(hxc y q).1,(hxc y q).2.1⟩) cT hown (AV false (A9 (EA x c k))) (by
  have h3:=Un false (Fo c (A:Int) ((n:Int)-A-((k-A:Nat):Int))) (by rw[hbl];omega) (hbn c _ _ hxc (by omega) (by omega));rw[SE λy hy=>(hbn c _ _ hxc (by omega) (by omega) y hy).1,WQ (λy hy=>(hxc y hy).1) (by omega) (by omega),JQ,show((n:Int)-A-((k-A:Nat):Int)).toNat=n-k by omega,<-hrD]at h3;exact h3)
 have wA:IntKind.i64.wrap (m-(A:Int))=((k-A:Nat):Int):=by rw[wI];omega
 have cWi:=iX x i.toNat ok.lt hl (λc hq=>RG false c (hc c hq).1 (DW (HT (ok.cel c hq)).1).2.1) (A9 (EA x c k));rw[<-ok.ii,<-hO]at cWi;have cP1:=iW false true c (k-A) (by omega) (by omega) hxc;have cP2:=iW false false c A (by omega) (by omega) hxc;rw[show Qm true c=(BN c).reverse from rfl]at cP1;rw[show Qm false c=BN c from rfl]at cP2;have u1:=WA (L:=(BN c).reverse.take (k-A)) ok.par (λy hy=>List.mem_reverse.1 (GJ hy)) (by rw[Bc,List.length_reverse];omega);have u2:=WA (L:=(BN c).take A) ok.par (λy hy=>GJ hy) (by rw[Bc];omega);have g1:=ji (c:=c) (k:=k-A) λy hy=>(hpn.2.1 y hy).1
 have g2:=XW (c:=c) (k:=A) λy hy=>(hpn.2.1 y hy).1
 have v1:∀y∈(BN c).reverse.take (k-A),1<=y.mass:=λy hy=>by
  rw[PP y (List.mem_reverse.1 (GJ hy))];exact Int.le_refl _
 have v2:∀y∈(BN c).take A,1<=y.mass:=λy hy=>by
  rw[PP y (GJ hy)];exact Int.le_refl _
 have hFn:=qp v1 v2;rw[<-hfD,<-hF]at hFn;obtain⟨P,hP⟩:∃P,A9 ((BN c).reverse.take (k-A))=P:=⟨_,rfl⟩
 obtain⟨Q,hQ⟩:∃Q,A9 ((BN c).take A)=Q:=⟨_,rfl⟩
 rw[hP]at cP1 u1 g1 hFn;rw[hQ]at cP2 u2 g2 hFn;have cCC:=ZG [P,Q] (by rw[show[P,Q].flatten=P++Q by simp,Be];omega) (by simp);rw[show[P,Q].flatten=P++Q by simp]at cCC;have cN:=RG false (P++Q) (by rw[Be];omega) λy hy=>by
  rcases Bp.1 hy with h|h
  ·exact u1.1 y h
  ·exact u2.1 y h
 rw[hFn]at cN;have hFl:(CQ x i m).length<=1000000:=by
  rw[<-hFn]
  have:=LS (P++Q)
  rw[Be]at this;omega
 have cCr:=xq (CQ x i m) hFl;have hol:(Bj x i m).cells.length=x.cells.length:=by
  rw[hO];show((x.cells.map A9).set _ _).length=_;rw[DK,Ab]
 have hoc:∀c∈(Bj x i m).cells,c.length<=1000000:=λd hq=>by
  rw[hO]at hq;rcases NC hq with h|h
  ·obtain⟨e,h1,rfl⟩:=Bx.1 h
   have:=LS e
   have:=(hc e h1).1
   omega
  ·rw[h]
   have:=RL (x:=x) (c:=c) (m:=k) λy hy=>(hpn.2.1 y hy).1
   omega
 have cLv:=VG (Bj x i m) (by omega) λc h=>by have:=hoc c h;omega
 have cSt:=VY x false (Cj (Bj x i m)) (by unfold Cj;rw[Ab];omega);have cF3:=I6 [if Dc x.side (Cj (Bj x i m))then 17 else 0,if 64<(CQ x i m).length then 5 else 0] (by simp);have hE3':Ck [if Dc x.side (Cj (Bj x i m))then 17 else 0,if 64<(CQ x i m).length then 5 else 0]=JF x i m:=by
  rw[hE3];cases Dc x.side (Cj (Bj x i m))
  ·by_cases h:64<(CQ x i m).length
   ·rw[AI h];rfl
   ·rw[AH h];rfl
  ·rfl
 rw[hE3']at cF3;have hoD:(Bj x i m).D=.agg [str (sb x.flow),i64 x.core,i64 x.room,i64 x.side,.sl false 1 ((Bj x i m).cells.map (AV false))]:=by rw[hO];rfl
 have po:AA (.tup [(Bj x i m).D,AV false (CQ x i m),i64 (Cv x i m)]):=AJ;have Ew:AA (Bj x i m).D:=AJ;rw[hoD]at cWi cLv po Ew;obtain⟨OD,hOD⟩:∃O,(Bj x i m).cells.map (AV false)=O:=⟨_,rfl⟩
 rw[hOD]at cWi cLv po Ew hoD;subst hmk
 by_cases h2:JF x i (k:Int)=0
 rotate_left
 ·have k4:(JF x i (k:Int) != 0)=true:=FW h2
  rw[hE,AI h2]at hB hL;rw[hE]at pz;rw[hB,hL,hE,hz];unfold Aq.D at cC cWi cSt cLo⊢;refine AF Jn (Bb k2 el k3 wA) cC cW cF1 hat cT cLo ?_;refine AF Jn (Aa wA k4) cBt cWi AB AB AB AB ?_;refine AF Jn wA cP1 cP2 cCC cN cCr AB ?_;refine AF Jn k4 cLv cSt cF3 AB AB AB ?_;exact⟨_,NZ (F6 (.nil 1)) (.nil 3),pz.out,rfl⟩
 ·have k4:(JF x i (k:Int) != 0)=false:=by rw[h2];rfl
  have h64:¬ 64<(CQ x i (k:Int)).length:=λh=>by
   rw[hE3,AI h]at h2;split at h2<;>cases h2
  rw[hE,AH (λh=>h h2)]at hB hL;rw[hE,h2]at po;rw[AH h64]at cCr;rw[hB,hL,hE,h2,hoD];unfold Aq.D at cC cWi cSt cLo⊢;refine AF Jn (Bb k2 el k3 wA) cC cW cF1 hat cT cLo ?_;refine AF Jn (Aa wA k4) cBt cWi AB AB AB AB ?_;refine AF Jn wA cP1 cP2 cCC cN cCr AB ?_;refine AF Jn k4 cLv cSt cF3 AB AB AB ?_;exact AM rfl po.out
open Go.Sort
def Lt (x:Aq):Bool:=x.cells.all HV&&(decide (x.flow.length<=100)&&decide (x.cells.length<=20))
theorem oS (x:Aq)(hl:x.cells.length<=9223372036854775807)(hs:∀c∈x.cells,c.length<=9223372036854775807/\∀y∈c,y.shs.length<=9223372036854775807):AL C0 15 [x.D] (Al (Lt x)):=by
 refine Af.walk w1 zO rfl λF=>?_
 obtain⟨cs,hcs⟩:∃c,x.cells=c:=⟨_,rfl⟩
 have el:(((cs.map (AV false)).length:Nat):Int)=(cs.length:Int):=by rw[Ab]
 have hb:Lt x=(cs.all HV&&(decide (x.flow.length<=100)&&decide (cs.length<=20))):=by rw[<-hcs];rfl
 rw[hb];unfold Aq.D;rw[hcs]at hl hs⊢;refine AF AY el AB AB AB AB AB AB ?_;refine AC.loop (α:=Nat×Nat) (λp=>⟨[(1,.optr 0 0 5 0 0),(6,Er false cs),(7,i64 (cs.length:Int)),(8,i64 (p.1:Int))],[⟨0,0,24,5,[.agg [str (sb x.flow),i64 x.core,i64 x.room,i64 x.side,Er false cs]]⟩],p.2⟩) (λp=>cs.length-p.1) (λq=>q.1<=cs.length/\(cs.take q.1).all HV=true) (0,_) ⟨BW _,rfl⟩ AK ?_;rintro⟨i,n⟩ F ⟨hi,ha⟩;dsimp only at hi ha⊢;rcases BE i cs.length with h2|h2
 rotate_left
 ·have e1:=Cg h2
  have:i=cs.length:=by omega
  subst this;rw[Cw]at ha;rw[ha,Gl];have hsz:=C3 x.flow;have d1:decide (x.flow.length<=100)=decide ((x.flow.length:Int)<=100):=DO.2 (by omega);have d2:decide (cs.length<=20)=decide ((cs.length:Int)<=20):=DO.2 (by omega);rw[d1,d2];obtain⟨q1,h1⟩:∃q,decide ((x.flow.length:Int)<=100)=q:=⟨_,rfl⟩
  rw[h1];cases q1
  all_goals
   refine AF AY (D9 e1 hsz el h1 kT kF) AB AB AB AB AB AB ?_;exact AM rfl AA.out
 have e1:=Ch h2;have wi:=Cc (i:=i) (by omega);obtain⟨c,hc⟩:=CO h2;have hm:(cs.map (AV false))[i]?=some (.sl false 3 (c.map AE.D)):=by rw[Ay,hc];rfl
 obtain⟨hs1,hs2⟩:=hs c (Ax hc);have cS:=xO false c hs1 hs2;have htk:cs.take (i+1)=cs.take i++[c]:=by rw[Dp,hc];rfl
 cases hq:HV c
 ·rw[hq]at cS
  have hall:cs.all HV=false:=by
   rw[List.all_eq_false];exact⟨c,Ax hc,by rw[hq];exact Bool.false_ne_true⟩
  rw[hall,Hk];refine AF AY (Ao e1 kT kF) hm cS AB AB AB AB ?_;exact AM rfl AA.out
 ·rw[hq]at cS
  refine AF AY (Bb e1 wi kT kF) hm cS AB AB AB AB ?_;exact⟨(i+1,_),⟨h2,by dsimp only;rw[htk,Ks,ha,GX,hq];rfl⟩,by dsimp only;omega,AK⟩
theorem dw {x:Aq}(h:Lt x=true):x.cells.length<=20/\x.flow.length<=100/\∀c∈x.cells,(∀y∈c,y.lite/\y.modr)/\c.length<=80:=by
 unfold Lt at h;rw[BZ,BZ,decide_eq_true_iff,decide_eq_true_iff,CW]at h;obtain⟨h1,h2,h3⟩:=h;refine⟨h3,h2,λc hc=>?_⟩;obtain⟨g1,g2,_⟩:=sX (h1 c hc);exact⟨g1,g2⟩
def Ln (l:List AE)(n most:Int):Bool:=decide ((l.length:Int)<=n)&&decide (AZ l<=most)
def OS (x:Aq)(most:Int):Bool:=decide (x.cells.length<=4)&&(decide (Cu x=0)&&x.cells.all λc=>Ln c 6 most)
def QI (x:Aq):Bool:=Lt x&&(decide (Cu x≠0)||OS x 60)
theorem xY (l:List AE)(n most:Int)(hl:l.length<=1000000)(hf:∀x∈l,x.modr)(hp:Bw l=0):AL C0 53 [AV false l,i64 n,i64 most] (Al (Ln l n most)):=by
 refine Af.walk w1 yd rfl λF=>?_
 have el:(((l.map AE.D).length:Nat):Int)=(l.length:Int):=by rw[Ab]
 have cP:=iu false l hl hf;have cM:=Su false l (DW hp).2.2;rw[hp]at cP;have k0:(((0:Nat):Int)==0)=true:=rfl;unfold Ln;obtain⟨a,ha⟩:∃a,decide ((l.length:Int)<=n)=a:=⟨_,rfl⟩
 obtain⟨b,hb⟩:∃b,decide (AZ l<=most)=b:=⟨_,rfl⟩
 rw[ha,hb];cases a
 ·refine AF AY (Ao el ha k0) AB AB AB AB AB AB ?_
  exact AM rfl AA.out
 ·cases b
  ·refine AF AY (Bb el ha hb k0) cP cM AB AB AB AB ?_
   exact AM rfl AA.out
  ·refine AF AY (Bb el ha hb k0) cP cM AB AB AB AB ?_
   exact AM rfl AA.out
theorem d8w (x:Aq)(most:Int)(hl:x.cells.length<=1000000)(hc:∀c∈x.cells,c.length<=1000000/\∀y∈c,y.modr):AL C0 17 [x.D,i64 most] (Al (OS x most)):=by
 refine Af.walk w1 zQ rfl λF=>?_
 have cB:=VN x hl hc;have hE:OS x most=(decide (x.cells.length<=4)&&(decide (Cu x=0)&&x.cells.all λc=>Ln c 6 most)):=rfl;have hcl:=@PT x;obtain⟨cs,hcs⟩:∃c,x.cells=c:=⟨_,rfl⟩
 have el:(((cs.map (AV false)).length:Nat):Int)=(cs.length:Int):=by rw[Ab]
 obtain⟨E,hEE⟩:∃E,Cu x=E:=⟨_,rfl⟩
 rw[hE];unfold Aq.D at cB⊢;rw[hcs]at cB hcl hl hc⊢;rw[hEE]at cB hcl⊢
 by_cases h4:cs.length<=4
 rotate_left
 ·have k1:decide ((cs.length:Int)>4)=true:=BR
  rw[Az h4,Hk];refine AF AY (Aa el k1) AB AB AB AB AB AB ?_;exact AM rfl AA.out
 have k1:decide ((cs.length:Int)>4)=false:=Bd;rw[Aw h4,Gl]
 by_cases h0:E=0
 rotate_left
 ·have k2:(E != 0)=true:=FW h0
  rw[Az h0,Hk];refine AF AY (Ao el k1 k2) cB AB AB AB AB AB ?_;exact AM rfl AA.out
 have k2:(E != 0)=false:=by rw[h0];rfl
 rw[Aw h0,Gl];refine AF AY (Ao el k1 k2) cB AB AB AB AB AB ?_;refine AC.loop (α:=Nat×Nat) (λp=>⟨[(1,i64 most),(2,.optr 0 0 5 0 0),(5,i64 (p.1:Int))],[⟨0,0,24,5,[.agg [str (sb x.flow),i64 x.core,i64 x.room,i64 x.side,Er false cs]]⟩],p.2⟩) (λp=>cs.length-p.1) (λq=>q.1<=cs.length/\((cs.take q.1).all λc=>Ln c 6 most)=true) (0,_) ⟨BW _,rfl⟩ AK ?_;rintro⟨i,n⟩ F ⟨hi,ha⟩;dsimp only at hi ha⊢;rcases BE i cs.length with h2|h2
 rotate_left
 ·have e1:=Cg h2
  have:i=cs.length:=by omega
  subst this;rw[Cw]at ha;rw[ha];refine AF AY (Aa e1 el) AB AB AB AB AB AB ?_;exact AM rfl AA.out
 have e1:=Ch h2;have wi:=Cc (i:=i) (by omega);obtain⟨c,hc'⟩:=CO h2;have hm:(cs.map (AV false))[i]?=some (.sl false 3 (c.map AE.D)):=by rw[Ay,hc'];rfl
 have hmem:=Ax hc';have cF:=xY c 6 most (hc c hmem).1 (hc c hmem).2 (HT (hcl h0 c hmem)).1;have htk:cs.take (i+1)=cs.take i++[c]:=by rw[Dp,hc'];rfl
 cases hq:Ln c 6 most
 ·rw[hq]at cF
  have hall:(cs.all λc=>Ln c 6 most)=false:=by
   rw[List.all_eq_false];exact⟨c,hmem,by rw[hq];exact Bool.false_ne_true⟩
  rw[hall];refine AF AY (CS e1 el kT kF kN) hm cF AB AB AB AB ?_;exact AM rfl AA.out
 ·rw[hq]at cF
  refine AF AY (D9 e1 el wi kT kF kN) hm cF AB AB AB AB ?_;exact⟨(i+1,_),⟨h2,by dsimp only;rw[htk,Ks,ha,GX,hq];rfl⟩,by dsimp only;omega,AK⟩
theorem xM (x:Aq)(hl:x.cells.length<=9223372036854775807)(hs:∀c∈x.cells,c.length<=9223372036854775807/\∀y∈c,y.shs.length<=9223372036854775807):AL C0 4 [x.D] (Al (QI x)):=by
 refine Af.walk w1 d9C rfl λF=>?_
 have cS:=oS x hl hs;have hk:=@dw x;have cB:=VN x;have cF:=d8w x 60;have hE:QI x=(Lt x&&(decide (Cu x≠0)||OS x 60)):=rfl;have hx:∃a b c d e,x.D=.agg [a,b,c,d,e]:=⟨_,_,_,_,_,rfl⟩
 have px:AA x.D:=AJ;have px2:AS x.D:=AJ;obtain⟨a1,a2,a3,a4,a5,hx⟩:=hx;rw[hx]at cS cB cF px px2⊢;rw[hE];cases hsh:Lt x
 ·rw[hsh]at cS
  rw[Hk];refine AF AY kB cS AB AB AB AB AB ?_;exact AM rfl AA.out
 rw[hsh]at cS;rw[Gl];obtain⟨k1,k2,k3⟩:=hk hsh;have cB:=cB (by omega) λc q=>⟨by have:=(k3 c q).2;omega,λy h=>((k3 c q).1 y h).2⟩
 have cF:=cF (by omega) λc q=>⟨by have:=(k3 c q).2;omega,λy h=>((k3 c q).1 y h).2⟩
 obtain⟨E,hEE⟩:∃E,Cu x=E:=⟨_,rfl⟩
 rw[hEE]at cB⊢
 by_cases h0:E=0
 ·have e2:(E != 0)=false:=by rw[h0];rfl
  rw[Az (λh=>h h0),Bool.false_or];refine AF AY e2 cS cB cF AB AB AB ?_;exact AM rfl AA.out
 ·have e2:(E != 0)=true:=FW h0
  rw[Aw h0,Bool.true_or];refine AF AY e2 cS cB AB AB AB AB ?_;exact AM rfl AA.out
structure fh (x:Aq)(m:Int):Prop where
 n:x.cells.length<=4
 len:∀c∈x.cells,c.length<=6
 mass:∀c∈x.cells,AZ c<=m
 bin:Cu x=0
theorem uP {x:Aq}{m:Int}(h:OS x m=true):fh x m:=by
 unfold OS at h;rw[BZ,BZ,decide_eq_true_iff,decide_eq_true_iff,CW]at h;obtain⟨h1,h2,h3⟩:=h;have h4:∀c∈x.cells,(c.length:Int)<=6/\AZ c<=m:=λc hc=>by
  have:=h3 c hc
  unfold Ln at this
  rwa [BZ,decide_eq_true_iff,decide_eq_true_iff]at this
 exact⟨h1,λc hc=>by have:=(h4 c hc).1;omega,λc hc=>(h4 c hc).2,h2⟩
theorem sn (x:Aq):x.D=.agg [str (sb x.flow),i64 x.core,i64 x.room,i64 x.side,.sl false 1 (x.cells.map (AV false))]:=rfl
theorem zp {x:Aq}(h:QI x=true):Lt x=true/\(Cu x=0->fh x 60):=by
 unfold QI at h;rw[BZ,Kr,decide_eq_true_iff]at h;obtain⟨h1,h2⟩:=h;refine⟨h1,λh0=>?_⟩;rcases h2 with h2|h2
 ·exact Ak h0 h2
 ·exact uP h2
theorem zJ {l:List AE}{y:AE}(h:GZ l y)(hf:∀z∈l,z.few):y.few:=by
 obtain⟨z,hz,e1,e2⟩:=h
 have:=hf z hz
 unfold AE.few at this⊢;rw[e1,e2];exact this
theorem Vz {l:List AE}{y:AE}(h:GZ l y)(hf:∀z∈l,z.lite):y.lite:=by
 have h1:=zJ h λz hz=>(hf z hz).1
 obtain⟨z,hz,e1,e2⟩:=h
 have:=(hf z hz).2
 refine⟨h1,?_⟩;rw[e2];exact this
theorem fO {l:List AE}{y:AE}(h:GZ l y)(hf:∀z∈l,z.modr):y.modr:=by
 have h1:=Vz h λz hz=>(hf z hz).2
 obtain⟨z,hz,e1,e2⟩:=h
 have:=(hf z hz).1
 refine⟨?_,h1⟩;rw[e2];exact this
theorem RX {x:Aq}{i:Nat}{L:List AE}{P:List AE->Prop}(h1:∀c∈x.cells,P (A9 c))(h2:P L):∀d∈(Fh x i L).cells,P d:=λd hd=>by
 rcases NC hd with hd|hd
 ·obtain⟨e,he,rfl⟩:=Bx.1 hd
  exact h1 e he
 ·rw[hd];exact h2
theorem NW (x:Aq)(i:Nat)(L:List AE):(Fh x i L).cells.length=x.cells.length:=by
 show((x.cells.map A9).set _ _).length=_;rw[DK,Ab]
theorem qC {x:Aq}{c:List AE}(h:Da x c=0):Da x (A9 c)=0:=by
 have p:=HT h;have hn:=DW p.1
 have:=LS c
 exact ZC h MZ (by omega) (Na λy hy=>(hn.2.1 y hy).1) (by rw[Nc];exact Int.le_refl _)
structure d9k (x:Aq)(i m:Int):Prop where
 bin:Cu (Bj x i m)=0
 par:Bw (CQ x i m)=0
 one:D4 x i m=0
 mle:m<=AZ (BC x i)
 stp:Dc x.side (Cj (Bj x i m))=false
 f64:¬ 64<(CQ x i m).length
theorem tP {x:Aq}{i m:Int}(h1:D4 x i m=0)(h2:¬AZ (BC x i)<m)(h3:Dc x.side (Cj (Bj x i m))=false):Cu (Bj x i m)=0:=by
 have ok:=Mh h1;have hce:=ok.cel _ (Ax ok.at_);have hpn:=DW ok.par;have hkn:m.toNat<=(BN (BC x i)).length:=by have:=ok.nn;have:=ok.mm;omega
 have hr:=sO (x:=x) (c:=BC x i) (m:=m.toNat) (λy hy=>(hpn.2.1 y hy).1) hkn;have hl:=RL (x:=x) (c:=BC x i) (m:=m.toNat) λy hy=>(hpn.2.1 y hy).1
 refine so ok.bin rfl rfl rfl rfl (NW ..) (RX (λc hc=>qC (ok.cel c hc)) ?_) h3;exact ZC hce hr.1 (by omega) hr.2.1 (by rw[hr.2.2];omega)
theorem pI {x:Aq}{c:List AE}{m:Nat}(h:m<=(BN c).length):AZ (A9 (HX x c m))=m:=by
 rw[Nc,VS λy hy=>PP y (PI y hy),Zi h]
theorem So {x:Aq}{i m:Int}(h:Cv x i m=0):d9k x i m:=by
 unfold Cv at h
 by_cases h1:D4 x i m=0
 ·rw[AH (λq=>q h1)]at h
  by_cases h2:AZ (BC x i)<m
  ·rw[AI h2]at h;cases h
  ·rw[AH h2]at h
   unfold JF at h;have h3:Dc x.side (Cj (Bj x i m))=false:=by
    cases hb:Dc x.side (Cj (Bj x i m))
    ·rfl
    ·rw[hb,AI rfl]at h;cases h
   rw[h3,AH (by decide)]at h;have h4:¬ 64<(CQ x i m).length:=λq=>by rw[AI q]at h;cases h
   have ok:=Mh h1;have hpn:=DW ok.par;have hps:=(Ia ok.par).2.2;have hkn:m.toNat<=(BN (BC x i)).length:=by have:=ok.nn;have:=ok.mm;omega
   refine⟨tP h1 h2 h3,ZV ok.par (λy hy=>(MZ y hy).trans λz hz=>Pf z (PI z hz)) (by omega) (Na λy hy=>?_) ?_,h1,by omega,h3,h4⟩
   ·rw[PP y (PI y hy)];exact Int.le_refl _
   ·show AZ (A9 (HX x (BC x i) m.toNat))<=_
    rw[pI hkn]
    have:=ok.mm
    omega
 ·rw[AI h1]at h;exact Ak h h1
theorem zG {x:Aq}{i m:Int}(h:x.cells[i.toNat]?=some (BC x i)):(∀c∈(Bj x i m).cells,∃d∈x.cells,∀y∈c,GZ d y)/\∀y∈CQ x i m,GZ (BC x i) y:=
 ⟨RX (λc hc=>⟨c,hc,MZ⟩) ⟨_,Ax h,λy hy=>(MZ y hy).trans λz hz=>Pf z (NT z hz)⟩,
  λy hy=>(MZ y hy).trans λz hz=>Pf z (PI z hz)⟩
theorem qK {x:Aq}{i m:Int}(h:D4 x i m=0):∀c∈(Bj x i m).cells,∃d∈x.cells,c.length<=d.length:=by
 have ok:=Mh h;exact RX (λc hc=>⟨c,hc,LS c⟩) ⟨_,Ax ok.at_,RL λy hy=>((DW ok.par).2.1 y hy).1⟩
theorem d9v {x:Aq}{a b:Int}:Cp x [a,b]=Ck [Cp x [a],Cp x [b]]:=by
 by_cases h:Cu x=0
 ·have e:∀ns,Cp x ns=if(ns.any λi=>!Gu x i)=true then 10 else 0:=λns=>by
   unfold Cp;rw[AH (λq=>q h)]
  rw[e,e,e];cases ha:Gu x a<;>cases hb:Gu x b<;>simp[ha,hb,Ck]
 ·have e:∀ns,Cp x ns=Cu x:=λns=>by
   unfold Cp;rw[AI h]
  rw[e,e,e];show _=if Cu x≠0 then Cu x else _
  rw[AI h]
theorem Rr {H Hf r r':Hp}{k g T sz:Nat}{a b c d s s':D}(h:Fz H Hf s s')(hr:Cs H Hf r r'):Cs H Hf (⟨k,g,T,sz,[.agg [a,b,c,d,s]]⟩::r) (⟨k,g,T,sz,[.agg [a,b,c,d,s']]⟩::r'):=by
 refine Cs.turn (e:=⟨k,g,T,sz,[.agg [a,b,c,d,s]]⟩) rfl (λj e e' q1 q2=>?_) (λj e e' q f f' q1 q2 q3 q4=>?_) hr
 ·match j with
  | 0=>cases q1;cases q2;rfl
  |j+1=>cases q1
 ·match j with
  | 0=>
   cases q1;cases q2
   match q with
   | 0=>cases q3;cases q4;exact .refl _
   | 1=>cases q3;cases q4;exact .refl _
   | 2=>cases q3;cases q4;exact .refl _
   | 3=>cases q3;cases q4;exact .refl _
   | 4=>cases q3;cases q4;exact h
   |q+5=>cases q3
  |j+1=>cases q1
theorem Xy {x:Aq}{i:Int}{l:List AE}(hx:x.cells.length<=20/\∀c∈x.cells,c.length<=80):(GS x i l).cells.length<=20/\(E3 x i l=0->∀c∈(GS x i l).cells,c.length<=1000/\∀y∈c,y.shs.length<=1000000):=by
 unfold GS
 by_cases h:E3 x i l=0
 ·rw[AH (λq=>q h)]
  have h1:HW x i l=0:=by
   unfold E3 at h
   by_cases h1:HW x i l=0
   ·exact h1
   ·rw[AI h1]at h;exact Ak h h1
  have ok:=Vb h1;refine⟨?_,λ_ c hq=>?_⟩
  ·show((x.cells.map A9).set _ _).length<=_
   rw[DK,Ab];exact hx.1
  ·rcases NC hq with hq|hq
   ·obtain⟨d,hd,rfl⟩:=Bx.1 hq
    have h0:∀y∈d,0<=y.mass/\y.mass<=1000000000/\y.shs.length<=1000000:=λy hy=>by
     have:=(DW (HT (ok.cel d hd)).1).2.1 y hy
     exact⟨by omega,this.2⟩
    obtain⟨b1,b2⟩:=WT h0
    have:=hx.2 d hd
    exact⟨by omega,λy hy=>(b2 y hy).2.2⟩
   ·rw[hq]
    have h0:∀y∈BC x i++l,0<=y.mass/\y.mass<=1000000000/\y.shs.length<=1000000:=λy hy=>by
     have:=ok.all y hy
     exact⟨by omega,this.2⟩
    obtain⟨b1,b2⟩:=WT h0;obtain⟨l1,l2⟩:=ok.len;exact⟨by rw[Be]at b1;omega,λy hy=>(b2 y hy).2.2⟩
 ·rw[AI h]
  exact⟨by decide,λq=>Ak q h⟩
end Go.Ide
