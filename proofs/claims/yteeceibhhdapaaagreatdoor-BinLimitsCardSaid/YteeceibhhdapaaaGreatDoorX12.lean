/- The layer of own lemmas and contracts, part 12. -/
import Derived.Test.YteeceibhhdapaaaGreatDoorX11
import Derived.Test.YteeceibhhdapaaaGreatDoorX9
import Derived.Test.YteeceibhhdapaaaGreatDoorX4
import Derived.Shelf.Spec.SlicesGrow
import Derived.Shelf.Lay
import Derived.Ground.Names8Prog
import Derived.Test.YteeceibhhdapaaaGreatDoorX7
import Derived.Laws.StructEq
import Derived.Test.YteeceibhhdapaaaGreatDoorX10
set_option linter.unusedVariables false
set_option linter.unusedSimpArgs false
namespace Go.Ide
open Go.Proofs Go.RowKit Go.Sort
set_option maxRecDepth 20000
set_option maxHeartbeats 4000000
theorem lj {g:List UInt8}(hg:g.length<=100000){l:List AE}(hf:∀x∈l,x.lite):∀x∈l.map (Dp g),x.lite:=λx hx=>by
 obtain⟨y,hy,rfl⟩:=List.mem_map.1 hx;obtain⟨⟨a1,a2,a3⟩,a4⟩:=hf y hy;exact⟨⟨hg,a2,a3⟩,a4⟩
theorem oP {l:List AE}(h:Gh l=0):HC l=0/\(CF l).length<=64/\∀p∈E8 (CF l),Dm (p.2/(Aq l:Rat))=false:=by
 unfold Gh at h;split at h
 ·rename_i h9;exact Ah h h9
 ·split at h
  ·cases h
  ·split at h
   ·cases h
   ·rename_i h1 h2 h3
    refine⟨by omega,by omega,λp hp=>?_⟩
    have:=List.any_eq_false.1 ((Bool.not_eq_true _).mp h3) p hp
    exact(Bool.not_eq_true _).mp this
theorem Yv {l:List AE}(h:Gh l=0):Ki l=⟨(CK l 0).grain,Aq l,Ec l⟩:=by
 unfold Ki;rw[AF (λq=>q h)]
theorem nY {l:List UInt8}(h:CW l=0):l.length<=100000:=by
 obtain⟨-,h2,h3,-⟩:=QA h;have h4:(Bz l).length<=(B1 l).length+1:=by
  unfold B1 Bo;split
  ·simp;omega
  ·omega
 unfold Bz BZ at*;rw[Bb]at h4;rw[Dc]at h3;omega
theorem oQ {l:List AE}(hf:∀x∈l,x.lite)(h:Gh l=0):(Ec l).length<=64/\∀s∈Ec l,s.lot.length<=1000/\s.part.length<=100000/\CW s.part=0/\rk (CN s.part) 600:=by
 obtain⟨h1,h2,h3⟩:=oP h;obtain⟨g1,g2,g3,g4,g5⟩:=Yu h1;obtain⟨hx,hK⟩:=WZ hf g3 g2;refine⟨by unfold Ec;rw[Ac,(Jx _).length_eq];exact h2,λs hs=>?_⟩;unfold Ec at hs;obtain⟨p,hp,rfl⟩:=List.mem_map.1 hs;have hc:=nZ (h3 p hp);refine⟨hK.all p.1 (List.mem_map_of_mem ((Jx _).mem_iff.1 hp)),?_,hc,Mf hc⟩;exact nY hc
def Fl (l:List AE)(left:Int):AE:=⟨(CK l 0).grain,Aq l-left,Ec (l.map (Dp (CK l 0).grain))⟩
def Ix (l:List AE)(left:Int):Nat:=if B3 l≠0 then B3 l else if left<1 then 3 else if Aq l<left then 13 else if CT l=false then 16 else if IE l (CK l 0).grain≠0 then IE l (CK l 0).grain
 else if Aq l=left then 0 else IC (CF [Fl l left])
def Rh (l:List AE)(left:Int):AE:=if Ix l left≠0 then⟨[],0,[]⟩else⟨(CK l 0).grain,left,Ec (l.map (Dp (CK l 0).grain))⟩
def Rg (l:List AE)(left:Int):By:=if Ix l left≠0 then[]else if Aq l=left then[]else JU (CF [Fl l left])
theorem Ny {H:Hp}{a a' b b' c:D}(h1:Fz H [] a a')(h2:Fz H [] b b'):Fz H [] (.tup [a,b,c]) (.tup [a',b',c]):=.tup rfl λi d d' h h'=>by
 match i with
 | 0=>cases h;cases h';exact h1
 | 1=>cases h;cases h';exact h2
 | 2=>cases h;cases h';exact .refl _
 |n+3=>cases h
theorem RI (H:Hp):Fz H [] (.agg [str ⟨#[]⟩,i64 0,CP]) (⟨[],0,[]⟩:AE).D:=.agg rfl λi d d' h h'=>by
 match i with
 | 0=>cases h;cases h';exact .refl _
 | 1=>cases h;cases h';exact .refl _
 | 2=>cases h;cases h';exact .nil 2
 |n+3=>cases h
theorem o7 (b:Bool)(l:List AE)(left:Int)(hl:l.length<=1000000)(hf:∀x∈l,x.lite):AJ C0 12 [Al b l,i64 left] (.tup [(Rh l left).D,.sl false 2 ((Rg l left).map Cm),i64 (Ix l left:Nat)]):=by
 refine Ag.walk w1 bv rfl λF=>?_
 have cP:=M4 b l (by omega) λx hx=>(hf x hx).1
 have hE:Ix l left=if B3 l≠0 then B3 l else if left<1 then 3 else if Aq l<left then 13 else if CT l=false then 16 else if IE l (CK l 0).grain≠0 then IE l (CK l 0).grain
  else if Aq l=left then 0 else IC (CF [Fl l left]):=rfl
 have hX:Rh l left=if Ix l left≠0 then⟨[],0,[]⟩else⟨(CK l 0).grain,left,Ec (l.map (Dp (CK l 0).grain))⟩:=rfl
 have hL:Rg l left=if Ix l left≠0 then[]else if Aq l=left then[]else JU (CF [Fl l left]):=rfl
 have cW1:=HZ (decide (left<1)) 3;obtain⟨E0,hE0⟩:∃e:Nat,(if B3 l≠0 then B3 l else if left<1 then 3 else 0)=e:=⟨_,rfl⟩
 have cF0:AJ C0 54 [.sl true 1 [i64 (B3 l:Nat),i64 (if decide (left<1)then 3 else 0)]] (i64 (E0:Nat)):=by
  have:=OP [(B3 l:Int),if decide (left<1)then 3 else 0] (by simp)
  have he:FN [(B3 l:Int),if decide (left<1)then 3 else 0]=((E0:Nat):Int):=by
   rw[<-hE0]
   by_cases h1:B3 l=0<;>by_cases h2:left<1<;>simp[FN,h1,h2]
  rw[he]at this;exact this
 rcases Nat.decEq E0 0 with g0|g0
 ·have e1:=GE g0
  have hE2:Ix l left=E0:=by
   rw[hE,<-hE0];split
   ·rfl
   ·rename_i h1
    rw[<-hE0,AF h1]at g0;split
    ·rfl
    ·rename_i h2;exact Ah (AF h2) g0
  rw[hE2]at hX hL⊢;rw[AG g0]at hX hL;rw[hX,hL];refine AH AW e1 cP cW1 cF0 AB AB AB ?_;exact⟨_,Ny (RI _) (.nil 2),AA.out,rfl⟩
 have e1:=GG g0;have hp0:B3 l=0:=by
  apply DU;intro h;rw[AG h]at hE0;omega
 have hl1:¬left<1:=λh=>by
  rw[AF (λq=>q hp0),AG h]at hE0;omega
 rw[AF (λh=>h hp0),AF hl1]at hE;obtain⟨p1,p2,p3⟩:=OY hp0;have hsm:H7 l:=⟨by omega,λx hx=>by have:=Nz (p2 x hx);omega⟩
 have cT:=Zq b l hsm;have cG:=W7 b l hl;have cW2:=HZ (decide (Aq l<left)) 13;obtain⟨E1,hE1⟩:∃e:Nat,(if Aq l<left then 13 else if CT l=false then 16 else 0)=e:=⟨_,rfl⟩
 have cF1:AJ C0 54 [.sl true 1 [i64 (if decide (Aq l<left)then 13 else 0),i64 (if CT l then 0 else 16:Nat)]] (i64 (E1:Nat)):=by
  have:=OP [if decide (Aq l<left)then 13 else 0,((if CT l then 0 else 16:Nat):Int)] (by simp)
  have he:FN [if decide (Aq l<left)then 13 else 0,((if CT l then 0 else 16:Nat):Int)]=((E1:Nat):Int):=by
   rw[<-hE1]
   by_cases h1:Aq l<left<;>cases CT l<;>simp[FN,h1]
  rw[he]at this;exact this
 rcases Nat.decEq E1 0 with g1|g1
 ·have e2:=GE g1
  have hE2:Ix l left=E1:=by
   rw[hE,<-hE1];split
   ·rfl
   ·rename_i h1
    rw[<-hE1,AF h1]at g1;split
    ·rfl
    ·rename_i h2;exact Ah (AF h2) g1
  rw[hE2]at hX hL⊢;rw[AG g1]at hX hL;rw[hX,hL];refine AH AW e1 cP cW1 cF0 AB AB AB ?_;refine AH AW e2 cT cW2 cG cF1 AB AB ?_;exact⟨_,Ny (RI _) (.nil 2),AA.out,rfl⟩
 have e2:=GG g1;have hs1:¬Aq l<left:=λh=>by
  rw[AG h]at hE1;omega
 have hs2:¬CT l=false:=λh=>by
  rw[AF hs1,AG h]at hE1;omega
 rw[AF hs1,AF hs2]at hE;have hl0:0<l.length:=by
  rcases l with _|⟨y,l⟩
  ·exfalso;apply hs1
   show(0:Int)<left;omega
  ·simp
 obtain⟨x0,hx0⟩:∃x,l[0]?=some x:=⟨_,BE hl0⟩
 have hm0:(l.map AE.D)[0]?=some (.agg [str (sb x0.grain),i64 x0.mass,.sl false 2 (x0.shs.map Au.D)]):=by rw[A0,hx0];rfl
 have hgr:(CK l 0).grain=x0.grain:=by rw[FO hx0]
 have hg9:=(hf x0 (Ax hx0)).1.1;have cPo:=dZ b l x0.grain hl hf hg9;rw[hgr]at hE hX;have hlt:Fl l left=⟨x0.grain,Aq l-left,Ec (l.map (Dp x0.grain))⟩:=by unfold Fl;rw[hgr]
 rw[hlt]at hE hL;obtain⟨PN,hPN⟩:∃n,IE l x0.grain=n:=⟨_,rfl⟩
 rw[hPN]at hE cPo;rcases Nat.decEq PN 0 with g2|g2
 ·have e3:=GE g2
  rw[AG g2]at hE;rw[hE]at hX hL⊢;rw[AG g2]at hX hL;rw[hX,hL];obtain⟨Z,hZ⟩:∃Z,Lb l x0.grain=Z:=⟨_,rfl⟩
  rw[hZ]at cPo;unfold AE.D Cb at cPo;obtain⟨ZS,hZS⟩:∃d,List.map Au.D Z.shs=d:=⟨_,rfl⟩
  have pZS:AA (.sl false 2 ZS):=by rw[<-hZS];exact AI
  rw[hZS]at cPo;refine AH AW e1 cP cW1 cF0 AB AB AB ?_;refine AH AW e2 cT cW2 cG cF1 AB AB ?_;refine AH AW e3 hm0 cPo AB AB AB AB ?_;exact⟨_,Ny (RI _) (.nil 2),AA.out,rfl⟩
 have e3:=GG g2;rw[AF (λh=>h g2)]at hE;have hpe:G6 l x0.grain=0:=by
  apply DU;intro h
  have:IE l x0.grain=G6 l x0.grain:=AG h
  omega
 have hmn:Gh (l.map (Dp x0.grain))=0:=by
  have:IE l x0.grain=Gh (l.map (Dp x0.grain)):=AF (λh=>h hpe)
  omega
 have hpl:Lb l x0.grain=⟨x0.grain,Aq l,Ec (l.map (Dp x0.grain))⟩:=by
  unfold Lb;rw[AF (λh=>h hpe),Yv hmn]
  congr 1
  ·rw[FO (l:=l.map (Dp x0.grain)) (x:=Dp x0.grain x0) (by rw[A0,hx0];rfl)];rfl
  ·unfold Aq;rw[List.map_map];rfl
 obtain⟨m1,m2⟩:=oQ (lj hg9 hf) hmn;rw[hpl]at cPo;clear hpl hmn hpe hPN hlt;obtain⟨S,hS⟩:∃S,Ec (l.map (Dp x0.grain))=S:=⟨_,rfl⟩
 rw[hS]at cPo hE hX hL m1 m2;have ws:IntKind.i64.wrap (Aq l-left)=Aq l-left:=wI (by omega) (by omega);unfold AE.D at cPo;dsimp only at cPo;unfold Cb at cPo;obtain⟨SD,hSD⟩:∃d,List.map Au.D S=d:=⟨_,rfl⟩
 have pSD:AA (.sl false 2 SD):=by rw[<-hSD];exact AI
 rw[hSD]at cPo
 by_cases hz:Aq l=left
 ·have e4:((Aq l-left)==0)=true:=by rw[D7];omega
  rw[AG hz]at hE;rw[hE]at hX hL⊢;rw[AF (λh=>h rfl)]at hX hL;rw[AG hz]at hL;rw[hX,hL];unfold AE.D;dsimp only;unfold Cb;rw[hSD];refine AH AW e1 cP cW1 cF0 AB AB AB ?_;refine AH AW e2 cT cW2 cG cF1 AB AB ?_;refine AH AW (As e3 ws e4) hm0 cPo AB AB AB AB ?_;exact⟨_,Ny (.refl _) (.nil 2),AA.out,rfl⟩
 have e4:((Aq l-left)==0)=false:=by rw[Bu];omega
 rw[AF hz]at hE hL;have cO:=b8 ⟨x0.grain,left,S⟩ (Aq l-left) (by dsimp only;omega);obtain⟨Y,hY⟩:∃Y:AE,(⟨x0.grain,Aq l-left,S⟩:AE)=Y:=⟨_,rfl⟩
 rw[hY]at cO hE hL;have hYo:∀x∈[Y],x.okW 602:=λx hx=>by
  rw[List.mem_singleton]at hx;rw[hx,<-hY];exact⟨m1,by unfold Sm;dsimp only;omega,λs hs=>⟨by have:=(m2 s hs).1;omega,(m2 s hs).2.1,(m2 s hs).2.2.1,(m2 s hs).2.2.2⟩⟩
 have cLo:=b9 602 true [Y] (by simp) hYo (by omega) (by simp);have hKY:G8 (λk=>k.length<=1000) (64*[Y].length) (CF [Y]):=SR λx hx=>by
  rw[List.mem_singleton]at hx;rw[hx,<-hY];exact⟨m1,λs hs=>(m2 s hs).1⟩
 change Ag C0 62 [.sl true 3 [.agg [str (sb Y.grain),i64 Y.mass,.sl false 2 (Y.shs.map Au.D)]]] _ at cLo;change AJ C0 63 [.agg [str (sb x0.grain),i64 left,.sl false 2 (S.map Au.D)],i64 (Aq l-left)] (.agg [str (sb Y.grain),i64 Y.mass,.sl false 2 (Y.shs.map Au.D)])at cO;obtain⟨YS,hYS⟩:∃d,Y.shs.map Au.D=d:=⟨_,rfl⟩
 have pYS:AA (.sl false 2 YS):=by rw[<-hYS];exact AI
 rw[hSD,hYS]at cO;rw[hYS]at cLo;obtain⟨q,hq⟩:∃q,CF [Y]=q:=⟨_,rfl⟩
 rw[hq]at cLo hKY hE hL;refine AH AW e1 cP cW1 cF0 AB AB AB ?_;refine AH AW e2 cT cW2 cG cF1 AB AB ?_;refine AH AW (As e3 ws e4) hm0 cPo cO AB AB AB ?_;refine A9.prop _ _ (ES.refl _) cLo AI ?_;rintro d ⟨m,rfl,hQ⟩;have cA:=X8 _ (by simp) q m hQ (BU hKY.len (by simp)) hKY.nd;have pM:AA (mapD m):=⟨hQ.mapD⟩
 unfold JT at cA;obtain⟨M,hM⟩:∃M,mapD m=M:=⟨_,rfl⟩
 rw[hM]at cA pM⊢;rcases Nat.decEq (IC q) 0 with g4|g4
 ·have e5:=GE g4
  rw[hE]at hX hL⊢;rw[AG g4]at hX hL;rw[hX,hL];refine AH AW e5 cA AB AB AB AB AB ?_;exact⟨_,Ny (RI _) (.nil 2),AA.out,rfl⟩
 have e5:=GG g4;rw[hE]at hX hL⊢;rw[AF (λh=>h g4)]at hX hL;rw[hX,hL];unfold AE.D;dsimp only;unfold Cb;rw[hSD];refine AH AW e5 cA AB AB AB AB AB ?_;exact⟨_,.refl _,AA.out,by rw[g4];rfl⟩
abbrev QQ:Dr:=[(4,[0,1,2,3,4,5,6,7,8],[9])]
open Go.Proofs Go.RowKit Go.Sort
set_option maxRecDepth 20000
set_option maxHeartbeats 4000000
def AE.modr (x:AE):Prop:=(x.shs.length<=15\/64<x.shs.length)/\x.lite
theorem kZ (l:List UInt8):BI (sb l) (sb l)=true:=by rw[Em];exact AX rfl
def C9 (l:List AE):Int:=l.foldl (λa x=>IntKind.i64.wrap (a+x.mass)) 0
theorem S0 {l:List AE}{i:Nat}{x:AE}(h:l[i]?=some x):C9 (l.take (i+1))=IntKind.i64.wrap (C9 (l.take i)+x.mass):=by
 unfold C9;rw[DW,h];simp
theorem J9 {l:List AE}(hs:H7 l):C9 l=Aq l:=by
 obtain⟨hl,hm⟩:=hs
 have:∀i,i<=l.length->C9 (l.take i)=Aq (l.take i):=λi=>by
  induction i with
  |zero=>exact λ_=>rfl
  |succ i ih=>
   intro hi;obtain⟨x,hx⟩:=CL (show i<l.length by omega);have hb:=Tt (l:=l.take i) λy hy=>hm y (Gm hy)
   have hxm:=hm x (Ax hx);rw[Bb,Eu (by omega)]at hb;rw[S0 hx,ih (by omega),Sx hx,wI (by omega) (by omega)]
 have:=this l.length (Ai _)
 rwa [Cf]at this
theorem ue (b:Bool)(l:List AE)(hl:l.length<=9223372036854775807):AJ C0 19 [Al b l] (i64 (C9 l)):=by
 refine Ag.walk w1 vr rfl λF=>?_
 have el:(((l.map AE.D).length:Nat):Int)=(l.length:Int):=by rw[Ac]
 refine AH AW el AB AB AB AB AB AB ?_;refine AC.loop (α:=Nat×Nat) (λp=>⟨[(0,Al b l),(3,i64 (C9 (l.take p.1))),(4,i64 (p.1:Int))],[],p.2⟩) (λp=>l.length-p.1) (λp=>p.1<=l.length) (0,_) (BS _) AK ?_;rintro⟨i,m⟩ F hi;dsimp only at hi⊢;rcases BA i l.length with h2|h2
 rotate_left
 ·have e1:=Cg h2
  have:i=l.length:=by omega
  subst this;rw[Cf];refine AH AW (Ae e1 el) AB AB AB AB AB AB ?_;exact AL rfl AA.out
 have e1:=Ch h2;have wi:=CZ (i:=i) (by omega);obtain⟨x,hx⟩:=CL h2;have hm:(l.map AE.D)[i]?=some (.agg [str (sb x.grain),i64 x.mass,.sl false 2 (x.shs.map Au.D)]):=by rw[A0,hx];rfl
 have ws:=(S0 hx).symm;refine AH AW (CE e1 el wi ws kN) hm AB AB AB AB AB ?_;exact⟨(i+1,_),h2,by dsimp only;omega,AK⟩
theorem Uv (b:Bool)(l:List AE)(hs:H7 l):AJ C0 19 [Al b l] (i64 (Aq l)):=by
 have h:=ue b l (by have:=hs.1;omega)
 rwa [J9 hs]at h
theorem oC (b:Bool)(l:List AE)(hl:l.length<=1000000):AJ C0 20 [Al b l] (Ap (CT l)):=by
 refine Ag.walk w1 vt rfl λF=>?_
 have el:(((l.map AE.D).length:Nat):Int)=(l.length:Int):=by rw[Ac]
 refine AH QQ el AB AB AB AB AB AB ?_;refine AC.loop (α:=Nat×Nat) (λp=>⟨[(0,Al b l),(3,i64 (p.1:Int))],[],p.2⟩) (λp=>l.length-p.1)
  (λp=>1<=p.1/\(p.1<=l.length\/p.1=1)/\∀x∈l.take p.1,BI (sb x.grain) (sb (CK l 0).grain)=true) (1,_) ⟨Ai _,.inr rfl,λx h=>by
   rcases l with _|⟨y,l⟩
   ·simp at h
   ·have:x=y:=by simpa using h
    rw[this];exact kZ _⟩ AK ?_
 rintro⟨i,m⟩ F ⟨hi1,hi,hs⟩;dsimp only at hi1 hi hs⊢;rcases BA i l.length with h2|h2
 rotate_left
 ·have e1:=Cg h2
  have hg:CT l=true:=by
   unfold CT;rw[CS];intro x hx;rw[B7 h2]at hs;exact hs x hx
  rw[hg];refine AH QQ (Ae e1 el) AB AB AB AB AB AB ?_;exact AL rfl AA.out
 have e1:=Ch h2;have wi:=CZ (i:=i) (by omega);obtain⟨x,hx⟩:=CL h2;have hm:(l.map AE.D)[i]?=some (.agg [str (sb x.grain),i64 x.mass,.sl false 2 (x.shs.map Au.D)]):=by rw[A0,hx];rfl
 obtain⟨x0,hx0⟩:∃x,l[0]?=some x:=⟨_,BE (by omega)⟩
 have hm0:(l.map AE.D)[0]?=some (.agg [str (sb x0.grain),i64 x0.mass,.sl false 2 (x0.shs.map Au.D)]):=by rw[A0,hx0];rfl
 have hv0:=FO hx0;obtain⟨bG,hbG⟩:∃q,BI (sb x.grain) (sb x0.grain)=q:=⟨_,rfl⟩
 cases bG
 ·have hg:CT l=false:=by
   unfold CT;rw[List.all_eq_false];exact⟨x,Ax hx,by rw[hv0,hbG];decide⟩
  rw[hg];refine AH QQ (BV e1 el hbG kN) hm hm0 AB AB AB AB ?_;exact AL rfl AA.out
 ·refine AH QQ (CE e1 el hbG wi kN) hm hm0 AB AB AB AB ?_
  exact⟨(i+1,_),⟨by dsimp only;omega,.inl h2,λy hy=>by
   dsimp only at hy;rw[DW,hx]at hy;rcases List.mem_append.1 hy with q|q
   ·exact hs y q
   ·have:y=x:=by simpa using q
    rw[this,hv0];exact hbG⟩,by dsimp only;omega,AK⟩
theorem eK (b:Bool)(l:List AE)(hl:l.length<=1000000)(hf:∀x∈l,x.modr):AJ C0 14 [Al b l] (i64 (B3 l:Nat)):=by
 refine Ag.walk w1 vp rfl λF=>?_
 have el:(((l.map AE.D).length:Nat):Int)=(l.length:Int):=by rw[Ac]
 have hC:B3 l=if 64<l.length then 5 else if Df (λi=>Cj (CK l i)) l.length≠0 then Df (λi=>Cj (CK l i)) l.length else if Aq l>999999999 then 4 else 0:=rfl
 by_cases h64:64<l.length
 ·rw[AG h64]at hC
  rw[hC];have q2:decide ((l.length:Int)>64)=true:=AX (by omega);refine AH AW (Ae el q2) AB AB AB AB AB AB ?_;exact AL rfl AA.out
 rw[AF h64]at hC;have q2:decide ((l.length:Int)>64)=false:=Ad (by omega);refine AH AW (Ae el q2) AB AB AB AB AB AB ?_;refine AC.loop (α:=Nat×Nat) (λp=>⟨[(0,Al b l),(3,i64 (p.1:Int))],[],p.2⟩) (λp=>l.length-p.1) (λp=>p.1<=l.length/\∀j,j<p.1->Cj (CK l j)=0) (0,_) ⟨BS _,λj h=>Ah h (Gp j)⟩ AK ?_;rintro⟨i,m⟩ F ⟨hi,hz⟩;dsimp only at hi hz⊢;rcases BA i l.length with h2|h2
 rotate_left
 ·have e1:=Cg h2
  have:i=l.length:=by omega
  subst this;rw[AF (λh=>h (MC (f:=λi=>Cj (CK l i)) hz))]at hC;have cT:=Uv b l (Sd h64 hz)
  by_cases h9:Aq l>999999999
  ·have e9:decide (Aq l>999999999)=true:=AX h9
   rw[AG h9]at hC;rw[hC];refine AH AW (As e1 el e9) cT AB AB AB AB AB ?_;exact AL rfl AA.out
  ·have e9:decide (Aq l>999999999)=false:=Ad h9
   rw[AF h9]at hC;rw[hC];refine AH AW (As e1 el e9) cT AB AB AB AB AB ?_;exact AL rfl AA.out
 have e1:=Ch h2;have wi:=CZ (i:=i) (by omega);obtain⟨x,hx⟩:=CL h2;have hm:(l.map AE.D)[i]?=some (.agg [str (sb x.grain),i64 x.mass,.sl false 2 (x.shs.map Au.D)]):=by rw[A0,hx];rfl
 have hxm:=hf x (Ax hx);have cL:=yP x hxm.1 hxm.2.1;unfold AE.D at cL;rcases Nat.decEq (Cj x) 0 with hc0|hc0
 ·have e3:=GE hc0
  have:=OI (f:=λi=>Cj (CK l i)) hz h2 (by rw[FO hx];exact hc0)
  rw[FO hx]at this;rw[this,AG hc0]at hC;rw[hC];refine AH AW (BV e1 el e3 kN) hm cL AB AB AB AB ?_;exact AL rfl AA.out
 have e3:=GG hc0;refine AH AW (CE e1 el e3 wi kN) hm cL AB AB AB AB ?_;exact⟨(i+1,_),⟨h2,λj hj=>by
  rcases Nat.lt_succ_iff_lt_or_eq.1 hj with q|q
  ·exact hz j q
  ·rw[q,FO hx];exact hc0⟩,by dsimp only;omega,AK⟩
def G4 (x:AE):By:=x.shs.map λs=>(s.lot,CN s.part*(x.mass:Rat))
theorem XJ {x:AE}(hn:(x.shs.map (·.lot)).Nodup):∀j,j<=x.shs.length->GC x j []=(G4 x).take j
 | 0,_=>rfl
 |j+1,hj=>by
  obtain⟨s,hs⟩:∃s,x.shs[j]?=some s:=⟨_,BE hj⟩
  rw[Nd x j [] hs,XJ hn j (by omega)];have hm:(G4 x)[j]?=some (s.lot,CN s.part*(x.mass:Rat)):=by unfold G4;rw[A0,hs];rfl
  have hnot:s.lot∉Cp ((G4 x).take j):=λh=>by
   obtain⟨z,hz,h2⟩:=List.mem_map.1 h;obtain⟨i,hi⟩:=List.mem_iff_getElem?.1 hz;have hij:i<j:=by
    have:=(List.getElem?_eq_some_iff.1 hi).1
    rw[Bb]at this;omega
   rw[Ee,AG hij]at hi;unfold G4 at hi;rw[A0]at hi;obtain⟨t,ht,rfl⟩:=Option.map_eq_some_iff.1 hi;have e1:(x.shs.map (·.lot))[i]?=some t.lot:=by rw[A0,ht];rfl
   have e2:(x.shs.map (·.lot))[j]?=some s.lot:=by rw[A0,hs];rfl
   have a1:=List.getElem?_eq_some_iff.1 e1;have a2:=List.getElem?_eq_some_iff.1 e2
   have:i=j:=(List.getElem_inj (h₀:=a1.1) (h₁:=a2.1) hn).1 (by rw[a1.2,a2.2];exact h2)
   omega
  have hl:Fk s.lot ((G4 x).take j)=none:=by
   cases h9:Fk s.lot ((G4 x).take j)with
   |none=>rfl
   |some o=>
    obtain⟨A,B,h3,-⟩:=P4 (v:=o) h9;exact Ah (by rw[h3];simp[Cp]) hnot
  unfold Jc;rw[hl];dsimp only;rw[(Si (v:=CN s.part*(x.mass:Rat)) hl).2,DW,hm];rfl
theorem j6 {x:AE}(hn:(x.shs.map (·.lot)).Nodup):CF [x]=G4 x:=by
 show GC x x.shs.length []=_;rw[XJ hn _ (Ai _),B7];unfold G4;rw[Ac];exact Ai _
theorem oq {q:By}(h:Gt q):E8 q=q:=(SL h.nd (.refl _) (Jx _) h.weak (Qf _)).symm
theorem oR (l:List AE):(Ec l).Pairwise λa b=>ltStr a.lot b.lot=true:=by
 unfold Ec;rw[List.pairwise_map,<-Xz];exact mS l
theorem TR (l:List AE)(left:Int):CF [Fl l left]=G4 (Fl l left)/\E8 (CF [Fl l left])=G4 (Fl l left):=by
 have hp:(Fl l left).shs.Pairwise λa b=>ltStr a.lot b.lot=true:=oR _
 have h1:=j6 (x:=Fl l left) (by
  rw[List.Nodup,List.pairwise_map];exact hp.imp λ{a b} h e=>by rw[e,swo_ltStr.irrefl]at h;cases h)
 refine⟨h1,?_⟩;rw[h1];refine oq ?_;unfold G4;show List.Pairwise _ _;rw[List.pairwise_map];exact hp
theorem uT (b:Bool)(l:List AE)(hl:l.length<=9223372036854775807)(hs:∀x∈l,x.shs.length<=9223372036854775807):AJ C0 9 [Al b l] (Ap (Ga l)):=by
 refine Ag.walk w1 x9 rfl λF=>?_
 have el:(((l.map AE.D).length:Nat):Int)=(l.length:Int):=by rw[Ac]
 refine AH AW el AB AB AB AB AB AB ?_;refine AC.loop (α:=Nat×Nat) (λp=>⟨[(0,Al b l),(7,Al b l),(8,i64 (l.length:Int)),(9,i64 (p.1:Int))],[],p.2⟩) (λp=>l.length-p.1) (λq=>q.1<=l.length/\(l.take q.1).all AE.shB=true) (0,_) ⟨BS _,rfl⟩ AK ?_;rintro⟨i,n⟩ F ⟨hi,ha⟩;dsimp only at hi ha⊢;rcases BA i l.length with h2|h2
 rotate_left
 ·have e1:=Cg h2
  have:i=l.length:=by omega
  subst this;rw[Cf]at ha;obtain⟨q1,h1⟩:∃q,decide ((l.length:Int)<=8)=q:=⟨_,rfl⟩
  obtain⟨q2,h2'⟩:∃q,decide ((l.length:Int)>64)=q:=⟨_,rfl⟩
  obtain⟨q3,h3⟩:∃q,decide ((l.length:Int)<=80)=q:=⟨_,rfl⟩
  have hb:Ga l=(q1||(q2&&q3)):=by
   unfold Ga;rw[ha,<-h1,<-h2',<-h3,Fq]
   congr 1
   ·exact C4.2 (by omega)
   ·congr 1
    ·exact C4.2 (by omega)
    ·exact C4.2 (by omega)
  rw[hb];cases q1<;>cases q2<;>cases q3
  all_goals
   refine AH AW (CJ e1 el h1 h2' h3 kT kF) AB AB AB AB AB AB ?_;exact AL rfl AA.out
 have e1:=Ch h2;have wi:=CZ (i:=i) (by omega);obtain⟨x,hx⟩:=CL h2;have hm:(l.map AE.D)[i]?=some (.agg [str (sb x.grain),i64 x.mass,.sl false 2 (x.shs.map Au.D)]):=by rw[A0,hx];rfl
 have hsx:=hs x (Ax hx);have ex:(((x.shs.map Au.D).length:Nat):Int)=(x.shs.length:Int):=by rw[Ac]
 have hsz:=Cd x.grain;obtain⟨p1,h1⟩:∃q,decide ((x.grain.length:Int)>100)=q:=⟨_,rfl⟩
 obtain⟨p2,h2'⟩:∃q,decide ((x.shs.length:Int)>8)=q:=⟨_,rfl⟩
 obtain⟨p3,h3⟩:∃q,decide ((x.shs.length:Int)<=64)=q:=⟨_,rfl⟩
 obtain⟨p4,h4⟩:∃q,decide ((x.shs.length:Int)>80)=q:=⟨_,rfl⟩
 have hb:x.shB=(!p1&&(!p2 || !p3) && !p4&&x.shs.all Au.shB):=by
  unfold AE.shB;rw[<-h1,<-h2',<-h3,<-h4]
  congr 1
  congr 1
  ·congr 1
   ·rw[<-decide_not];exact C4.2 (by omega)
   ·congr 1
    ·rw[<-decide_not];exact C4.2 (by omega)
    ·rw[<-decide_not];exact C4.2 (by omega)
  ·rw[<-decide_not];exact C4.2 (by omega)
 by_cases g:(!p1&&(!p2 || !p3) && !p4)=true
 rotate_left
 ·have hbf:x.shB=false:=by rw[hb];simp only[Bool.not_eq_true]at g;rw[g];rfl
  have hsf:Ga l=false:=by unfold Ga;rw[Te hx hbf];rfl
  rw[hsf];cases p1<;>cases p2<;>cases p3<;>cases p4
  all_goals first
   |exact Ah rfl g
   |skip
  all_goals
   refine AH AW (CJ e1 hsz ex h1 h2' h3 (BV h4 kN kT kF)) hm AB AB AB AB AB ?_;exact AL rfl AA.out
 rw[g,Fq]at hb;cases p1<;>cases p2<;>cases p3<;>cases p4
 all_goals first
  |exact Ah g (by decide)
  |skip
 all_goals
  refine AH AW (CJ e1 hsz ex h1 h2' h3 (BV h4 kN kT kF)) hm AB AB AB AB AB ?_;refine AC.loop (α:=Nat×Nat) (λp=>⟨[(0,Al b l),(7,Al b l),(8,i64 (l.length:Int)),(9,i64 (i:Int)),(36,.sl false 2 (x.shs.map Au.D)),(37,i64 (x.shs.length:Int)),(38,i64 (p.1:Int))],[],p.2⟩) (λp=>x.shs.length-p.1) (λq=>q.1<=x.shs.length/\(x.shs.take q.1).all Au.shB=true) (0,_) ⟨BS _,rfl⟩ AK ?_;clear h1 h2' h3 h4 g;rintro⟨j,n⟩ F ⟨hj,haj⟩;dsimp only at hj haj⊢;rcases BA j x.shs.length with g2|g2
  ·have e3:=Ch g2
   have wj:=CZ (i:=j) (by omega);obtain⟨y,hy⟩:=CL g2;have hmy:(x.shs.map Au.D)[j]?=some (.agg [str (sb y.lot),str (sb y.part)]):=by rw[A0,hy];rfl
   have hs1:=Cd y.lot;have hs2:=Cd y.part;obtain⟨r1,k1⟩:∃q,decide ((y.lot.length:Int)>100)=q:=⟨_,rfl⟩
   obtain⟨r2,k2⟩:∃q,decide ((y.part.length:Int)>14)=q:=⟨_,rfl⟩
   have hby:y.shB=(!r1 && !r2):=by
    unfold Au.shB;rw[<-k1,<-k2]
    congr 1
    ·rw[<-decide_not];exact C4.2 (by omega)
    ·rw[<-decide_not];exact C4.2 (by omega)
   have fin:y.shB=false->Ga l=false:=λh=>by
    have:x.shB=false:=by rw[hb,Te hy h]
    unfold Ga;rw[Te hx this];rfl
   cases r1
   ·cases r2
    ·refine AH AW (CJ e3 wj hs1 hs2 k1 k2 (As kN kT kF)) hmy AB AB AB AB AB ?_
     exact⟨(j+1,_),⟨g2,Xh hy haj hby⟩,by dsimp only;omega,AK⟩
    ·rw[fin hby]
     refine AH AW (CJ e3 wj hs1 hs2 k1 k2 (As kN kT kF)) hmy AB AB AB AB AB ?_;exact AL rfl AA.out
   ·rw[fin hby]
    refine AH AW (CJ e3 wj hs1 hs2 k1 kN (Ae kT kF)) hmy AB AB AB AB AB ?_;exact AL rfl AA.out
  ·have e3:=Cg g2
   have:j=x.shs.length:=by omega
   subst this;rw[Cf]at haj;refine AH AW (Ae e3 wi) AB AB AB AB AB AB ?_;exact⟨(i+1,_),⟨h2,Xh hx ha (hb.trans haj)⟩,by dsimp only;omega,AK⟩
theorem oI {l:List AE}(h:Ga l=true):(∀x∈l,x.lite/\x.modr)/\l.length<=80/\(l.length<=8\/64<l.length):=by
 unfold Ga at h;simp only[BP,Jl,CS,GP]at h;obtain⟨h1,h2⟩:=h;refine⟨λx hx=>?_,by omega,by omega⟩;have hb:=h1 x hx;unfold AE.shB at hb;simp only[BP,Jl,CS,GP]at hb;obtain⟨⟨⟨b1,b2⟩,b3⟩,b4⟩:=hb;have hs:∀s∈x.shs,s.lot.length<=100/\s.part.length<=14:=λs hs=>by
  have:=b4 s hs
  unfold Au.shB at this;simpa using this
 have hl:x.lite:=⟨⟨by omega,by omega,λs q=>⟨by have:=(hs s q).1;omega,by have:=(hs s q).2;omega⟩⟩,λs q=>⟨by have:=(hs s q).1;omega,by have:=(hs s q).2;omega⟩⟩
 exact⟨hl,by omega,hl⟩
theorem Fh {l:List AE}(h:B3 l=0):l.length<=64/\(∀x∈l,1<=x.mass/\x.mass<=1000000000/\x.shs.length<=1000000)/\H7 l:=by
 obtain⟨g1,g2,g3⟩:=OY h;have hx:∀x∈l,1<=x.mass/\x.mass<=1000000000/\x.shs.length<=1000000:=λx q=>by
  obtain⟨a,b,c,d⟩:=Nz (g2 x q)
  have:=(Wn d).2.1
  exact⟨by omega,by omega,by omega⟩
 exact⟨g1,hx,by omega,λx q=>by have:=hx x q;omega⟩
abbrev QS:Dr:=[(4,[0,1,2,3,4,5,6,7,8,9,10,11,12,13,14],[15,16])]
open Go.Proofs Go.RowKit Go.Sort
set_option maxRecDepth 20000
set_option maxHeartbeats 4000000
structure BK where
 flow:List UInt8
 core:Int
 room:Int
 side:Int
 cells:List (List AE)
abbrev Eo (b:Bool)(cs:List (List AE)):D:=.sl b 1 (cs.map (Al false))
def BK.D (x:BK):D:=.agg [str (sb x.flow),i64 x.core,i64 x.room,i64 x.side,Eo false x.cells]
instance  (x:BK):AT x.D:=by unfold BK.D;exact AI
instance  (x:BK):AA x.D:=by unfold BK.D;exact AI
theorem bz (b:Bool)(l:List AE)(hl:l.length<=9223372036854775807):AJ C0 59 [Al b l] (i64 (C9 l)):=by
 refine Ag.walk w1 Ul rfl λF=>?_
 have el:(((l.map AE.D).length:Nat):Int)=(l.length:Int):=by rw[Ac]
 refine AH AW el AB AB AB AB AB AB ?_;refine AC.loop (α:=Nat×Nat) (λp=>⟨[(3,i64 (C9 (l.take p.1))),(6,Al b l),(7,i64 (l.length:Int)),(8,i64 (p.1:Int))],[],p.2⟩) (λp=>l.length-p.1) (λp=>p.1<=l.length) (0,_) (BS _) AK ?_;rintro⟨i,m⟩ F hi;dsimp only at hi⊢;rcases BA i l.length with h2|h2
 rotate_left
 ·have e1:=Cg h2
  have:i=l.length:=by omega
  subst this;rw[Cf];refine AH AW e1 AB AB AB AB AB AB ?_;exact AL rfl AA.out
 have e1:=Ch h2;have wi:=CZ (i:=i) (by omega);obtain⟨x,hx⟩:=CL h2;have hm:(l.map AE.D)[i]?=some (.agg [str (sb x.grain),i64 x.mass,.sl false 2 (x.shs.map Au.D)]):=by rw[A0,hx];rfl
 have wS:=(S0 hx).symm;refine AH AW (BV e1 wi @wS kN) hm AB AB AB AB AB ?_;exact⟨(i+1,_),h2,by dsimp only;omega,AK⟩
def Cr (n lo hi:Int):Bool:=decide (n>=lo)&&decide (n<=hi)
theorem MM (n lo hi:Int):AJ C0 82 [i64 n,i64 lo,i64 hi] (Ap (Cr n lo hi)):=by
 refine Ag.walk w1 dL rfl λF=>?_
 obtain⟨p,hp⟩:∃p,decide (n>=lo)=p:=⟨_,rfl⟩
 have hb:Cr n lo hi=(p&&decide (n<=hi)):=by unfold Cr;rw[hp]
 rw[hb];cases p
 ·refine AH AW (As hp kT kF) AB AB AB AB AB AB ?_
  exact AL rfl AA.out
 ·refine AH AW (As hp kT kF) AB AB AB AB AB AB ?_
  exact AL rfl AA.out
def E9 (side:Int)(l:List Int):Bool:=(List.range (l.length-1)).any λi=>!Cr (IntKind.i64.wrap (l.getD (i+1) 0-l.getD i 0)) (IntKind.i64.wrap (0-side)) side
theorem Ug {side:Int}{l:List Int}{i:Nat}(h:i+1<l.length)(hb:Cr (IntKind.i64.wrap (l.getD (i+1) 0-l.getD i 0)) (IntKind.i64.wrap (0-side)) side=false):E9 side l=true:=by
 unfold E9;rw[List.any_eq_true];exact⟨i,List.mem_range.2 (by omega),by rw[hb];rfl⟩
theorem Uh {side:Int}{l:List Int}(h:∀i,i+1<l.length->Cr (IntKind.i64.wrap (l.getD (i+1) 0-l.getD i 0)) (IntKind.i64.wrap (0-side)) side=true):E9 side l=false:=by
 unfold E9;rw[List.any_eq_false];intro i hi
 have:=List.mem_range.1 hi
 rw[h i (by omega)];decide
theorem qM (x:BK)(b:Bool)(l:List Int)(hl:l.length<=1000000):AJ C0 83 [x.D,.sl b 1 (BW l)] (i64 (if E9 x.side l then 17 else 0)):=by
 refine Ag.walk w1 dO rfl λF=>?_
 have el:((BW l).length:Int)=(l.length:Int):=by rw[Ac]
 have elN:(BW l).length=l.length:=Ac ..;unfold BK.D;obtain⟨cd,hcd⟩:∃d,Eo false x.cells=d:=⟨_,rfl⟩
 have pcd:AA cd:=by rw[<-hcd];exact AI
 have ncd:JM cd=true:=by rw[<-hcd];rfl
 rw[hcd];refine AH QS el AB AB AB AB AB AB ?_;refine AC.loop (α:=Nat×Nat) (λp=>⟨[(1,.sl b 1 (BW l)),(2,.optr 0 0 5 0 0),(5,i64 ((p.1+1:Nat):Int))],[⟨0,0,48,5,[.agg [str (sb x.flow),i64 x.core,i64 x.room,i64 x.side,cd]]⟩],p.2⟩) (λp=>l.length-p.1) (λp=>p.1<=l.length/\∀j,j<p.1->Cr (IntKind.i64.wrap (l.getD (j+1) 0-l.getD j 0)) (IntKind.i64.wrap (0-x.side)) x.side=true) (0,_) ⟨BS _,λj h=>Ah h (Gp j)⟩ AK ?_;rintro⟨i,m⟩ F ⟨hi,ha⟩;dsimp only at hi ha⊢;rcases BA (i+1) l.length with h2|h2
 rotate_left
 ·have e1:=Cg h2
  rw[Uh λj hj=>ha j (by omega)];refine AH QS (Ae el e1) AB AB AB AB AB AB ?_;exact AL rfl AA.out
 have e1:=Ch h2;have wi:=CZ (i:=i+1) (by omega);have w2:IntKind.i64.wrap (((i+1:Nat):Int)-1)=((i:Nat):Int):=by rw[wI (by omega) (by omega)];omega
 have hm1:=Oe (l:=l) (i:=i+1) h2;have hm2:=Oe (l:=l) (i:=i) (by omega);have cW:=MM (IntKind.i64.wrap (l.getD (i+1) 0-l.getD i 0)) (IntKind.i64.wrap (0-x.side)) x.side;have hbad:=Ug (side:=x.side) h2;obtain⟨u,hu⟩:∃u,l.getD (i+1) 0=u:=⟨_,rfl⟩
 obtain⟨v,hv⟩:∃u,l.getD i 0=u:=⟨_,rfl⟩
 have hgood:=λ(hq:Cr (IntKind.i64.wrap (u-v)) (IntKind.i64.wrap (0-x.side)) x.side=true) (j:Nat) (hj:j<i+1)=>show Cr (IntKind.i64.wrap (l.getD (j+1) 0-l.getD j 0)) (IntKind.i64.wrap (0-x.side)) x.side=true from by
  rcases BA j i with h|h
  ·exact ha j h
  ·have:j=i:=by omega
   subst this;rw[hu,hv];exact hq
 rw[hu]at hm1 cW hbad;rw[hv]at hm2 cW hbad;obtain⟨q,hq⟩:∃q,Cr (IntKind.i64.wrap (u-v)) (IntKind.i64.wrap (0-x.side)) x.side=q:=⟨_,rfl⟩
 rw[hq]at cW hbad hgood;obtain⟨L,hL⟩:∃L,BW l=L:=⟨_,rfl⟩
 have pL:AA (.sl b 1 L):=by rw[<-hL];exact AI
 rw[hL]at hm1 hm2 el⊢;cases q
 ·rw[hbad rfl]
  refine AH QS (CE el e1 w2 wi kN) hm1 hm2 cW AB AB AB ?_;exact AL rfl AA.out
 ·refine AH QS (CE el e1 w2 wi kN) hm1 hm2 cW AB AB AB ?_
  exact⟨(i+1,_),⟨by omega,hgood rfl⟩,by dsimp only;omega,AK⟩
def Bj (x:BK):List Int:=x.cells.map C9
theorem Tf (x:BK)(hl:x.cells.length<=1000000)(hc:∀c∈x.cells,c.length<=9223372036854775807):AJ C0 75 [x.D] (.sl false 1 (BW (Bj x))):=by
 refine Ag.walk w1 Um rfl λF=>?_
 obtain⟨cs,hcs⟩:∃c,x.cells=c:=⟨_,rfl⟩
 have hlv:Bj x=cs.map C9:=by unfold Bj;rw[hcs]
 rw[hlv];rw[hcs]at hl hc;have el:(((cs.map (Al false)).length:Nat):Int)=(cs.length:Int):=by rw[Ac]
 unfold BK.D;rw[hcs];refine sR 0 ?_;refine sR 100 ?_;refine AC.seq ?_;refine sZ 200 ?_;refine AU el ?_;refine AC.ghost 504 3 1 [(3,.osl 504 _ 1 0 0),(7,Eo false cs),(8,i64 (cs.length:Int)),(9,i64 ((0:Nat):Int))] ⟨.inr ⟨rfl,rfl⟩,.inl rfl,.inl rfl,.inl rfl,trivial⟩ ?_;refine AC.block ?_;refine AC.loop (α:=Nat×Nat×Nat) (λp=>⟨[(3,.osl 504 p.2.1 1 0 p.1),(7,Eo false cs),(8,i64 (cs.length:Int)),(9,i64 (p.1:Int))],[⟨504,p.2.1,3,1,BW ((cs.take p.1).map C9)⟩],p.2.2⟩) (λp=>cs.length-p.1) (λq=>q.1<=cs.length) (0,_,_) (BS _) AK ?_;rintro⟨i,g,n⟩ F hi;dsimp only at hi⊢;rcases BA i cs.length with h2|h2
 rotate_left
 ·have e1:=Cg h2
  have:i=cs.length:=by omega
  subst this;rw[Cf];have hf:=GY (H:=[⟨504,g,3,1,BW (cs.map C9)⟩]) (Hf:=[]) (k:=504) (g:=g) (T:=3) (sz:=1) (l:=BW (cs.map C9)) rfl;rw[Ac,Ac]at hf;refine AH AW e1 AB AB AB AB AB AB ?_;exact⟨_,hf,AA.out,rfl⟩
 have e1:=Ch h2;have wi:=CZ (i:=i) (by omega);obtain⟨c,hc'⟩:=CL h2;have hm:(cs.map (Al false))[i]?=some (.sl false 3 (c.map AE.D)):=by rw[A0,hc'];rfl
 have cT:=bz false c (hc c (Ax hc'));have ht:BW ((cs.take (i+1)).map C9)=BW ((cs.take i).map C9)++[i64 (C9 c)]:=by
  rw[DW,hc',Cs];unfold BW;rw[Cs];rfl
 have htl:(BW ((cs.take i).map C9)).length=i:=by rw[Ac,Ac,Bb];omega
 obtain⟨R,hR⟩:∃R,BW ((cs.take i).map C9)=R:=⟨_,rfl⟩
 rw[hR]at ht htl⊢;refine AH AW (As e1 wi kN) hm cT AB AB AB AB ?_;refine⟨(i+1,n+1+1+1+1+1+1+1+1,n+1000),h2,by dsimp only;omega,?_⟩;dsimp only;rw[ht,B7 (show R.length<=i by omega)];exact AK
open Go.ChangeShapes Go.WideShapes
def BK.fit (x:BK):Prop:=x.cells.length<=maxLen/\∀c∈x.cells,c.length<=maxLen/\∀y∈c,y.shs.length<=maxLen
section
variable {H:Type} {enc:TypeId×Value->H} {W:World} {fuel:Nat} {cs:List Value} {x:DataW H×List MemPlace} {t:TypeId}
theorem lc (h:DataW.trod enc Tryz.prog W 0 (λ_=>true) true fuel 46 cs=some x):∃l:List (List AE),Dg W cs [Eo false l]/\(∀c∈l,c.length<=maxLen/\∀y∈c,y.shs.length<=maxLen)/\l.length<=maxLen:=
 Ut (g:=Al false) (ok:=λc=>c.length<=maxLen/\∀y∈c,y.shs.length<=maxLen) (e:=22) (sz:=1) (by kernel_rfl) (by kernel_rfl) (by decide) (λ_ _ _ h=>by
  obtain⟨l,h1,h2,h3⟩:=jh h;exact⟨l,h1,h3,h2⟩) h
theorem uE (h:DataW.trod enc Tryz.prog W 0 (λ_=>true) true fuel 48 cs=some x):∃s:BK,Dg W cs s.D.cells/\s.fit:=by
 obtain⟨h1,n,h2⟩:=Uu (l:=[(9,0,1),(3,1,1),(3,2,1),(3,3,1),(46,4,1)]) (m:=5) (by kernel_rfl) (by kernel_rfl) h;obtain⟨y0,k0⟩:=h2 0 _ _ _ rfl;obtain⟨y1,k1⟩:=h2 1 _ _ _ rfl;obtain⟨y2,k2⟩:=h2 2 _ _ _ rfl;obtain⟨y3,k3⟩:=h2 3 _ _ _ rfl;obtain⟨y4,k4⟩:=h2 4 _ _ _ rfl;obtain⟨a0,r0,_⟩:=Sg k0;obtain⟨a1,r1⟩:=RG k1;obtain⟨a2,r2⟩:=RG k2;obtain⟨a3,r3⟩:=RG k3;obtain⟨a4,r4,hc,hl⟩:=lc k4;exact⟨⟨a0,a1,a2,a3,a4⟩,UM h1 (LP (b:=1) (c:=4) r0 (LP (b:=1) (c:=3) r1 (LP (b:=1) (c:=2) r2 (LP (b:=1) (c:=1) r3 r4)))),hl,hc⟩
end
abbrev LK:Dr:=[(2,[0,1,2,3,4,5,6,7,8,9,10,11,12,13,14,15,16,17,18,19,20,21,22,23,24,25,26,27,28,29,30,31,32],[33,34,35,36]),(8,[0,1,2,3,4,5,6,7],[8,9,10,11,12]),(12,[0,1,2],[3,4])]
open Go.Proofs Go.RowKit Go.Sort
set_option maxRecDepth 20000
set_option maxHeartbeats 4000000
def F7:ByteArray:=⟨#[109,97,115,115]⟩
def Ik:ByteArray:=⟨#[102,117,110,110,101,108]⟩
def Ur (x:BK):Bool:=(BI (sb x.flow) F7&&(x.core==0))||(BI (sb x.flow) Ik&&Cr x.core 2 999999999)
def M9 (x:BK):Int:=if !BI (sb x.flow) F7 && !BI (sb x.flow) Ik then 20 else 0
def Ln (x:BK):Int:=if !Ur x || !Cr x.room 1 999999999 || !Cr x.side 0 999999999 then 3 else 0
def HL (x:BK):Int:=FN [M9 x,Ln x,if(x.cells.length:Int)==0 then 2 else 0,if decide ((x.cells.length:Int)>8)then 5 else 0]
def EM (x:BK)(c:List AE):Int:=FN [(B3 c:Int),((if CT c then 0 else 16:Nat):Int),if decide (C9 c>x.room)then 14 else 0]
def EZ (x:BK):List (List AE)->Int
 | []=>0
 |c::r=>if EM x c≠0 then EM x c else EZ x r
def Cu (x:BK):Int:=if HL x≠0 then HL x else if EZ x x.cells≠0 then EZ x x.cells else if E9 x.side (Bj x)then 17 else 0
theorem qJ (x:BK)(hl:x.cells.length<=1000000)(hc:∀c∈x.cells,c.length<=1000000/\∀y∈c,y.few):AJ C0 32 [x.D] (i64 (Cu x)):=by
 refine Ag.walk w1 dU rfl λF=>?_
 have cLv:=Tf x hl λc h=>by have:=(hc c h).1;omega
 have cSt:=qM x false (Bj x) (by unfold Bj;rw[Ac];exact hl);have cC1:=MM x.core 2 999999999;have cC2:=MM x.room 1 999999999;have cC3:=MM x.side 0 999999999;have cF:=OP [M9 x,Ln x,if(x.cells.length:Int)==0 then 2 else 0,if decide ((x.cells.length:Int)>8)then 5 else 0] (by simp);have hF:FN [M9 x,Ln x,if(x.cells.length:Int)==0 then 2 else 0,if decide ((x.cells.length:Int)>8)then 5 else 0]=HL x:=rfl;rw[hF]at cF;have cW3:=HZ ((x.cells.length:Int)==0) 2;have cW4:=HZ (decide ((x.cells.length:Int)>8)) 5;obtain⟨cs,hcs⟩:∃c,x.cells=c:=⟨_,rfl⟩
 have el:(((cs.map (Al false)).length:Nat):Int)=(cs.length:Int):=by rw[Ac]
 obtain⟨H,hH⟩:∃h,HL x=h:=⟨_,rfl⟩
 have hB:Cu x=if H≠0 then H else if EZ x x.cells≠0 then EZ x x.cells else if E9 x.side (Bj x)then 17 else 0:=by unfold Cu;rw[hH]
 obtain⟨K1,hK1⟩:∃h,M9 x=h:=⟨_,rfl⟩
 obtain⟨K2,hK2⟩:∃h,Ln x=h:=⟨_,rfl⟩
 obtain⟨CB,hCB⟩:∃h,Ur x=h:=⟨_,rfl⟩
 rw[hK1,hK2,hH]at cF;rw[hB];rw[hcs]at cF cW3 cW4 hl hc⊢;unfold BK.D at cLv cSt⊢;rw[hcs]at cLv cSt⊢;refine sR 0 ?_;refine EN ⟨[(1,.optr 0 0 5 0 0),(3,Ap CB)],[⟨0,0,48,5,[.agg [str (sb x.flow),i64 x.core,i64 x.room,i64 x.side,Eo false cs]]⟩],100⟩ ?_ ?_
 ·obtain⟨p1,h1⟩:∃q,BI (sb x.flow) ⟨#[109,97,115,115]⟩=q:=⟨_,rfl⟩
  obtain⟨p2,h2⟩:∃q,BI (sb x.flow) ⟨#[102,117,110,110,101,108]⟩=q:=⟨_,rfl⟩
  obtain⟨c0,h0⟩:∃q,(x.core==0)=q:=⟨_,rfl⟩
  have hb:CB=((p1&&c0)||(p2&&Cr x.core 2 999999999)):=by rw[<-hCB,<-h1,<-h2,<-h0];rfl
  rw[hb];cases p1<;>cases p2<;>cases c0
  all_goals
   refine AH LK (CE h1 h2 h0 kT kF) cC1 AB AB AB AB AB ?_;exact⟨trivial,AK⟩
 refine EN ⟨[(1,.optr 0 0 5 0 0),(4,i64 H)],[⟨0,0,48,5,[.agg [str (sb x.flow),i64 x.core,i64 x.room,i64 x.side,Eo false cs]]⟩],1000⟩ ?_ ?_
 ·obtain⟨p1,h1⟩:∃q,BI (sb x.flow) ⟨#[109,97,115,115]⟩=q:=⟨_,rfl⟩
  obtain⟨p2,h2⟩:∃q,BI (sb x.flow) ⟨#[102,117,110,110,101,108]⟩=q:=⟨_,rfl⟩
  obtain⟨wr,hr⟩:∃q,Cr x.room 1 999999999=q:=⟨_,rfl⟩
  obtain⟨ws,hw⟩:∃q,Cr x.side 0 999999999=q:=⟨_,rfl⟩
  have e1:M9 x=if !p1 && !p2 then 20 else 0:=by rw[<-h1,<-h2];rfl
  have e2:Ln x=if !CB || !wr || !ws then 3 else 0:=by rw[<-hCB,<-hr,<-hw];rfl
  have cA:=HZ (!p1 && !p2) 20;have cB:=HZ (!CB || !wr || !ws) 3;rw[<-e1,hK1]at cA;rw[<-e2,hK2]at cB;rw[hr]at cC2;rw[hw]at cC3;clear e1 e2 hcs hK1 hK2 hCB hF cC1 cLv cSt hr hw;cases p1<;>cases p2<;>cases CB<;>cases wr
  all_goals
   refine AH LK (CE h1 h2 el kT kF) cA cC2 cC3 cB cW3 cW4 ?_;refine A9.same _ cF AI ?_;refine BO ?_;exact⟨trivial,AK⟩
 by_cases hH0:H=0
 rotate_left
 ·have e1:(H != 0)=true:=Hw hH0
  rw[AG hH0];refine AH LK e1 AB AB AB AB AB AB ?_;exact AL rfl AA.out
 have e1:(H != 0)=false:=by rw[hH0];rfl
 rw[AF (λh=>h hH0)];clear cC1 cC2 cC3 cF cW3 cW4 hK1 hK2 hCB hF hB;refine AH LK (Ae e1 el) AB AB AB AB AB AB ?_;refine AC.loop (α:=Nat×Nat) (λp=>⟨[(1,.optr 0 0 5 0 0),(66,Eo false cs),(67,i64 (cs.length:Int)),(68,i64 (p.1:Int))],[⟨0,0,48,5,[.agg [str (sb x.flow),i64 x.core,i64 x.room,i64 x.side,Eo false cs]]⟩],p.2⟩) (λp=>cs.length-p.1) (λq=>q.1<=cs.length/\EZ x (cs.drop q.1)=EZ x cs) (0,_) ⟨BS _,rfl⟩ AK ?_;rintro⟨i,n⟩ F ⟨hi,hJ⟩;dsimp only at hi hJ⊢;rcases BA i cs.length with h2|h2
 rotate_left
 ·have k1:=Cg h2
  have:i=cs.length:=by omega
  subst this;rw[I5]at hJ;rw[AF (λh=>h (by rw[<-hJ];rfl))];have pLv:AA (.sl false 1 (BW (Bj x))):=AI;refine AH LK k1 cLv cSt AB AB AB AB ?_;exact AL rfl AA.out
 have k1:=Ch h2;have wi:=CZ (i:=i) (by omega);obtain⟨c,hc'⟩:=CL h2;have hm:(cs.map (Al false))[i]?=some (.sl false 3 (c.map AE.D)):=by rw[A0,hc'];rfl
 obtain⟨hc1,hc2⟩:=hc c (Ax hc');have cP:=M4 false c (by omega) hc2;have cG:=W7 false c hc1;have cT:=bz false c (by omega);have cW:=HZ (decide (C9 c>x.room)) 14;have cE:=OP [(B3 c:Int),((if CT c then 0 else 16:Nat):Int),if decide (C9 c>x.room)then 14 else 0] (by simp);have hE:FN [(B3 c:Int),((if CT c then 0 else 16:Nat):Int),if decide (C9 c>x.room)then 14 else 0]=EM x c:=rfl;rw[hE]at cE;have hd:cs.drop i=c::cs.drop (i+1):=by
  have:=List.getElem?_eq_some_iff.1 hc'
  rw[EI this.1,this.2]
 rw[hd]at hJ;have hJ2:EZ x cs=if EM x c≠0 then EM x c else EZ x (cs.drop (i+1)):=hJ.symm
 obtain⟨E,hEE⟩:∃E,EM x c=E:=⟨_,rfl⟩
 rw[hEE]at cE hJ2
 by_cases hE0:E=0
 ·have k2:(E != 0)=false:=by rw[hE0];rfl
  rw[AF (λh=>h hE0)]at hJ2;refine AH LK (BV k1 k2 wi kN) hm cP cG cT cW cE ?_;exact⟨(i+1,_),⟨h2,hJ2.symm⟩,by dsimp only;omega,AK⟩
 ·have k2:(E != 0)=true:=Hw hE0
  rw[AG hE0]at hJ2;rw[hJ2,AG hE0];refine AH LK (BV k1 k2 wi kN) hm cP cG cT cW cE ?_;exact AL rfl AA.out
abbrev QT:Dr:=[(4,[0,1,2,3,4,5,6,7,8,9],[10])]
open Go.Proofs Go.RowKit Go.Sort
set_option maxRecDepth 20000
set_option maxHeartbeats 4000000
theorem Qz (x:BK)(i:Nat)(c:List AE)(hc:x.cells[i]?=some c)(hs:H7 c)(hl:x.cells.length<=1000000):AJ C0 33 [x.D,i64 (i:Int)] (i64 (Aq c)):=by
 refine Ag.walk w1 vA rfl λF=>?_
 have cM:=Uv false c hs;have hi:=(List.getElem?_eq_some_iff.1 hc).1;obtain⟨cs,hcs⟩:∃c,x.cells=c:=⟨_,rfl⟩
 unfold BK.D;rw[hcs]at hc hl hi⊢;have hm:(cs.map (Al false))[i]?=some (.sl false 3 (c.map AE.D)):=by rw[A0,hc];rfl
 have hml:(cs.map (Al false)).length=cs.length:=Ac ..;obtain⟨K,hK⟩:∃K,cs.map (Al false)=K:=⟨_,rfl⟩
 have pK:AA (.sl false 1 K):=by rw[<-hK];exact AI
 show AC _ _ _ _ _ ⟨DH 0 [.agg [str (sb x.flow),i64 x.core,i64 x.room,i64 x.side,.sl false 1 (cs.map (Al false))],i64 (i:Int)],[],0⟩ _;rw[hK]at hm hml⊢;refine AH AW kN hm cM AB AB AB AB ?_;exact AL rfl AA.out
theorem be (u v:Int):AJ C0 81 [i64 u,i64 v] (i64 (max (IntKind.i64.wrap (u-v)) (IntKind.i64.wrap (v-u)))):=by
 refine Ag.walk w1 vS rfl λF=>?_
 refine AH AW kB AB AB AB AB AB AB ?_;exact AL rfl AA.out
theorem dm (x:BK)(hl:x.cells.length<=1000000)(hc:∀c∈x.cells,H7 c/\0<=Aq c/\Aq c<=999999999)(hside:0<=x.side/\x.side<=999999999):AJ C0 80 [x.D] (Ap (!E9 x.side (Bj x))):=by
 refine Ag.walk w1 vR rfl λF=>?_
 have hlvl:=λ(i:Nat) (c:List AE) (h:x.cells[i]?=some c)=>Qz x i c h (hc c (Ax h)).1 hl
 have hlv:∀(i:Nat) (c:List AE),x.cells[i]?=some c->(Bj x).getD i 0=Aq c:=λi c h=>by
  unfold Bj;rw[Da,A0,h];exact J9 (hc c (Ax h)).1
 have hlen:(Bj x).length=x.cells.length:=by unfold Bj;rw[Ac]
 obtain⟨cs,hcs⟩:∃c,x.cells=c:=⟨_,rfl⟩
 have el:(((cs.map (Al false)).length:Nat):Int)=(cs.length:Int):=by rw[Ac]
 unfold BK.D at hlvl⊢;rw[hcs]at hlvl hlv hlen hl hc⊢;refine AH QT kB AB AB AB AB AB AB ?_;refine AC.loop (α:=Nat×Nat) (λp=>⟨[(1,.optr 0 0 5 0 0),(3,i64 ((p.1+1:Nat):Int))],[⟨0,0,48,5,[.agg [str (sb x.flow),i64 x.core,i64 x.room,i64 x.side,Eo false cs]]⟩],p.2⟩) (λp=>cs.length-p.1) (λp=>p.1<=cs.length/\∀j,j<p.1->Cr (IntKind.i64.wrap ((Bj x).getD (j+1) 0-(Bj x).getD j 0)) (IntKind.i64.wrap (0-x.side)) x.side=true) (0,_) ⟨BS _,λj h=>Ah h (Gp j)⟩ AK ?_;rintro⟨i,m⟩ F ⟨hi,ha⟩;dsimp only at hi ha⊢;rcases BA (i+1) cs.length with h2|h2
 rotate_left
 ·have e1:=Cg h2
  rw[Uh (side:=x.side) (l:=Bj x) λj hj=>ha j (by omega)];refine AH QT (Ae el e1) AB AB AB AB AB AB ?_;exact AL rfl AA.out
 have e1:=Ch h2;have wi:=CZ (i:=i+1) (by omega);have w2:IntKind.i64.wrap (((i+1:Nat):Int)-1)=((i:Nat):Int):=by rw[wI (by omega) (by omega)];omega
 obtain⟨c,hc1⟩:=CL (show i<cs.length by omega);obtain⟨d,hd1⟩:=CL h2;have c1:=hlvl i c hc1;have c2:=hlvl (i+1) d hd1;have v1:=hlv i c hc1;have v2:=hlv (i+1) d hd1;obtain⟨-,a1,a2⟩:=hc c (Ax hc1);obtain⟨-,b1,b2⟩:=hc d (Ax hd1);have c3:=be (Aq c) (Aq d);have hbad:=Ug (side:=x.side) (l:=Bj x) (i:=i) (by omega);rw[v1,v2]at hbad;have q1:IntKind.i64.wrap (Aq c-Aq d)=Aq c-Aq d:=wI (by omega) (by omega);have q2:IntKind.i64.wrap (Aq d-Aq c)=Aq d-Aq c:=wI (by omega) (by omega);have q3:IntKind.i64.wrap (0-x.side)=0-x.side:=wI (by omega) (by omega);rw[q1,q2]at c3
 by_cases hg:max (Aq c-Aq d) (Aq d-Aq c)>x.side
 ·have e2:decide (max (Aq c-Aq d) (Aq d-Aq c)>x.side)=true:=AX hg
  rw[hbad (by rw[q2,q3];unfold Cr;rw[Bool.and_eq_false_iff,IN,IN];omega)];refine AH QT (Dj el e1 e2 w2 wi kN) c1 c2 c3 AB AB AB ?_;exact AL rfl AA.out
 ·have e2:decide (max (Aq c-Aq d) (Aq d-Aq c)>x.side)=false:=Ad hg
  refine AH QT (Dj el e1 e2 w2 wi kN) c1 c2 c3 AB AB AB ?_;refine⟨(i+1,_),⟨by omega,λj hj=>?_⟩,by dsimp only;omega,AK⟩;rcases BA j i with h|h
  ·exact ha j h
  ·have:j=i:=by dsimp only at hj;omega
   subst this;rw[v1,v2,q2,q3];unfold Cr;rw[BP,decide_eq_true_iff,decide_eq_true_iff];omega
theorem Xd {l:List UInt8}(h:BI (sb l) F7=true):BI (sb l) Ik=false:=by
 have h1:BI (sb l) (sb [109,97,115,115])=true:=h;rw[N8]at h1;rw[DA h1];show BI (sb [109,97,115,115]) (sb [102,117,110,110,101,108])=false;rw[N8];decide
def Kl (x:BK):Bool:=(BI (sb x.flow) F7&&(x.core != 0))||(BI (sb x.flow) Ik&&(decide (x.core<2)||decide (x.core>999999999)))||decide (x.room<1)||decide (x.room>999999999)||decide (x.side<0)||decide (x.side>999999999)
theorem uf {x:BK}(h:(!BI (sb x.flow) F7 && !BI (sb x.flow) Ik)=false):Ln x=if Kl x then 3 else 0:=by
 have hx:=@Xd x.flow;unfold Ln Kl Ur Cr;obtain⟨p1,h1⟩:∃q,BI (sb x.flow) F7=q:=⟨_,rfl⟩
 obtain⟨p2,h2⟩:∃q,BI (sb x.flow) Ik=q:=⟨_,rfl⟩
 rw[h1,h2]at h hx⊢;have e:(!(p1&&x.core==0||p2&&(decide (x.core>=2)&&decide (x.core<=999999999))) || !(decide (x.room>=1)&&decide (x.room<=999999999)) || !(decide (x.side>=0)&&decide (x.side<=999999999)))
   = (p1&&x.core != 0||p2&&(decide (x.core<2)||decide (x.core>999999999))||decide (x.room<1)||decide (x.room>999999999)||decide (x.side<0)||decide (x.side>999999999)):=by
  cases p1<;>cases p2
  ·cases h
  ·rw[FW];simp;omega
  ·rw[FW];simp;omega
  ·cases hx rfl
 rw[e]
theorem UH (x:BK):HL x=if(!BI (sb x.flow) F7 && !BI (sb x.flow) Ik)=true then 20 else if Kl x=true then 3 else if x.cells.length=0 then 2 else if 8<x.cells.length then 5 else 0:=by
 unfold HL M9;cases h:(!BI (sb x.flow) F7 && !BI (sb x.flow) Ik)
 ·rw[uf h,AF Bool.false_ne_true,AF Bool.false_ne_true]
  cases Kl x
  ·rw[AF Bool.false_ne_true,AF Bool.false_ne_true]
   by_cases h0:x.cells.length=0
   ·rw[AG h0,h0];rfl
   ·have:((x.cells.length:Int)==0)=false:=Bu.2 (by omega)
    rw[AF h0,this]
    by_cases h8:8<x.cells.length
    ·rw[AG h8,show decide ((x.cells.length:Int)>8)=true from AX (by omega)];rfl
    ·rw[AF h8,show decide ((x.cells.length:Int)>8)=false from Ad (by omega)];rfl
  ·rfl
 ·rfl
theorem SO {x:BK}:∀ {l:List (List AE)},EZ x l=0->∀c∈l,EM x c=0
 | [],_,c,h=>by cases h
 |d::r,h,c,hc=>by
  have h1:(if EM x d≠0 then EM x d else EZ x r)=0:=h
  by_cases h0:EM x d=0
  ·rw[AF (λq=>q h0)]at h1
   rcases BF.1 hc with rfl|h2
   ·exact h0
   ·exact SO h1 c h2
  ·rw[AG h0]at h1;exact Ah h1 h0
theorem LI:∀ {l:List AE},(∀x∈l,0<=x.mass)->0<=Aq l
 | [],_=>Int.le_refl _
 |x::l,h=>by
  have h1:=h x (CM ..);have h2:=LI λy hy=>h y (CQ _ hy)
  have:Aq (x::l)=x.mass+Aq l:=by unfold Aq;rfl
  omega
theorem Io {x:BK}{c:List AE}(h:EM x c=0):B3 c=0/\CT c=true/\H7 c/\0<=Aq c/\Aq c<=999999999/\Aq c<=x.room:=by
 have h1:(if(B3 c:Int)≠0 then(B3 c:Int)else if((if CT c then 0 else 16:Nat):Int)≠0 then((if CT c then 0 else 16:Nat):Int)else if(if decide (C9 c>x.room)then(14:Int)else 0)≠0 then(if decide (C9 c>x.room)then(14:Int)else 0)else 0)=0:=h
 by_cases hp:B3 c=0
 rotate_left
 ·rw[AG (by omega)]at h1;omega
 rw[hp,AF (λq=>q rfl)]at h1;obtain⟨g1,g2,g3⟩:=Fh hp;have g4:=(OY hp).2.2;have hT:=J9 g3;have g5:0<=Aq c:=LI λy hy=>by have:=(g2 y hy).1;omega
 cases hg:CT c
 ·rw[hg]at h1;cases h1
 rw[hg,AF (by decide)]at h1;refine⟨hp,rfl,g3,g5,g4,?_⟩;rw[hT]at h1
 by_cases hr:Aq c>x.room
 ·rw[AX hr]at h1;cases h1
 ·omega
theorem nX {x:BK}{c:List AE}(h:B3 c≠0):EM x c=(B3 c:Int):=by
 show(if(B3 c:Int)≠0 then _ else _)=_;rw[AG (by omega)]
theorem q6 {x:BK}{c:List AE}(h:B3 c=0)(hg:CT c=false):EM x c=16:=by
 show(if(B3 c:Int)≠0 then _ else if((if CT c then 0 else 16:Nat):Int)≠0 then((if CT c then 0 else 16:Nat):Int)else _)=_;rw[h,hg];rfl
theorem lS {x:BK}{c:List AE}(h:B3 c=0)(hg:CT c=true)(hr:Aq c>x.room):EM x c=14:=by
 have hT:=J9 (Fh h).2.2;show(if(B3 c:Int)≠0 then _ else if((if CT c then 0 else 16:Nat):Int)≠0 then((if CT c then 0 else 16:Nat):Int)else if(if decide (C9 c>x.room)then(14:Int)else 0)≠0 then(if decide (C9 c>x.room)then(14:Int)else 0)else 0)=_;rw[h,hg,hT,AX hr];rfl
theorem lT {x:BK}{c:List AE}(h:B3 c=0)(hg:CT c=true)(hr:¬Aq c>x.room):EM x c=0:=by
 have hT:=J9 (Fh h).2.2;show(if(B3 c:Int)≠0 then _ else if((if CT c then 0 else 16:Nat):Int)≠0 then((if CT c then 0 else 16:Nat):Int)else if(if decide (C9 c>x.room)then(14:Int)else 0)≠0 then(if decide (C9 c>x.room)then(14:Int)else 0)else 0)=_;rw[h,hg,hT,Ad hr];rfl
abbrev D1:Dr:=[(17,[0,1,2,3,4],[5])]
open Go.Proofs Go.RowKit Go.Sort
set_option maxRecDepth 20000
set_option maxHeartbeats 4000000
theorem Tb (x:BK)(hl:x.cells.length<=1000000)(hc:∀c∈x.cells,c.length<=1000000/\∀y∈c,y.modr):AJ C0 30 [x.D] (i64 (Cu x)):=by
 refine Ag.walk w1 uy rfl λF=>?_
 have hB:Cu x=if HL x≠0 then HL x else if EZ x x.cells≠0 then EZ x x.cells else if E9 x.side (Bj x)then 17 else 0:=rfl
 have hH:=UH x;have hlvl:=λ(i:Nat) (c:List AE) (h:x.cells[i]?=some c) (hs:H7 c)=>Qz x i c h hs hl
 have hsafe:=λ(h1:∀c∈x.cells,EM x c=0) (h2:0<=x.side/\x.side<=999999999)=>dm x hl (λc hq=>by
  obtain⟨-,-,g1,g2,g3,-⟩:=Io (h1 c hq);exact⟨g1,g2,g3⟩) h2
 obtain⟨p1,h1⟩:∃q,BI (sb x.flow) ⟨#[109,97,115,115]⟩=q:=⟨_,rfl⟩
 obtain⟨p2,h2⟩:∃q,BI (sb x.flow) ⟨#[102,117,110,110,101,108]⟩=q:=⟨_,rfl⟩
 have hex:p1=true->p2=false:=λq=>by rw[<-h2];exact Xd (h1.trans q)
 have hr:Kl x=((p1&&(x.core != 0))||(p2&&(decide (x.core<2)||decide (x.core>999999999)))||decide (x.room<1)||decide (x.room>999999999)||decide (x.side<0)||decide (x.side>999999999)):=by rw[<-h1,<-h2];rfl
 rw[show BI (sb x.flow) F7=p1 from h1,show BI (sb x.flow) Ik=p2 from h2]at hH;obtain⟨R,hR⟩:∃r,Kl x=r:=⟨_,rfl⟩
 rw[hR]at hH hr;have hside:R=false->0<=x.side/\x.side<=999999999:=λq=>by
  rw[q]at hr
  have:=hr.symm
  simp only[Iz,IN]at this;omega
 obtain⟨cs,hcs⟩:∃c,x.cells=c:=⟨_,rfl⟩
 have el:(((cs.map (Al false)).length:Nat):Int)=(cs.length:Int):=by rw[Ac]
 unfold BK.D at hlvl hsafe⊢;rw[hcs]at hlvl hsafe hB hH hc hl⊢;refine sR 0 ?_;cases hk:(!p1 && !p2)
 rotate_left
 ·rw[AG hk]at hH
  rw[hH,AG (by decide)]at hB;rw[hB];have hp:p1=false/\p2=false:=by cases p1<;>cases p2<;>first|exact⟨rfl,rfl⟩|cases hk
  obtain⟨rfl,rfl⟩:=hp;refine AH D1 (BV h1 h2 kT kF) AB AB AB AB AB AB ?_;exact AL rfl AA.out
 rw[AF (by rw[hk];exact Bool.false_ne_true)]at hH;have hp:(p1=true/\p2=false)\/(p1=false/\p2=true):=by
  cases p1
  ·cases p2
   ·cases hk
   ·exact .inr ⟨rfl,rfl⟩
  ·exact .inl ⟨rfl,hex rfl⟩
 clear hex hk;refine EN ⟨[(1,.optr 0 0 5 0 0)],[⟨0,0,48,5,[.agg [str (sb x.flow),i64 x.core,i64 x.room,i64 x.side,Eo false cs]]⟩],100⟩ ?_ ?_
 ·rcases hp with⟨rfl,rfl⟩|⟨rfl,rfl⟩
  all_goals
   refine AH D1 (BV h1 h2 kT kF) AB AB AB AB AB AB ?_;exact⟨trivial,AK⟩
 obtain⟨c0,e0⟩:∃q,(x.core != 0)=q:=⟨_,rfl⟩
 obtain⟨c1,e1⟩:∃q,decide (x.core<2)=q:=⟨_,rfl⟩
 obtain⟨c2,e2⟩:∃q,decide (x.core>999999999)=q:=⟨_,rfl⟩
 obtain⟨u1,r1⟩:∃q,decide (x.room<1)=q:=⟨_,rfl⟩
 obtain⟨u2,r2⟩:∃q,decide (x.room>999999999)=q:=⟨_,rfl⟩
 obtain⟨v1,s1⟩:∃q,decide (x.side<0)=q:=⟨_,rfl⟩
 obtain⟨v2,s2⟩:∃q,decide (x.side>999999999)=q:=⟨_,rfl⟩
 rw[e0,e1,e2,r1,r2,s1,s2]at hr;cases R
 rotate_left
 ·rw[AG rfl]at hH
  rw[hH,AG (by decide)]at hB;rw[hB];clear hlvl hsafe hB hH el;rcases hp with⟨rfl,rfl⟩|⟨rfl,rfl⟩
  ·cases c0
   rotate_left
   ·refine AH D1 (CJ e0 e1 e2 r1 r2 s1 (CE s2 h1 h2 kT kF)) AB AB AB AB AB AB ?_
    exact AL rfl AA.out
   cases u1
   rotate_left
   ·refine AH D1 (CJ e0 e1 e2 r1 r2 s1 (CE s2 h1 h2 kT kF)) AB AB AB AB AB AB ?_
    exact AL rfl AA.out
   cases u2
   rotate_left
   ·refine AH D1 (CJ e0 e1 e2 r1 r2 s1 (CE s2 h1 h2 kT kF)) AB AB AB AB AB AB ?_
    exact AL rfl AA.out
   cases v1
   rotate_left
   ·refine AH D1 (CJ e0 e1 e2 r1 r2 s1 (CE s2 h1 h2 kT kF)) AB AB AB AB AB AB ?_
    exact AL rfl AA.out
   cases v2
   rotate_left
   ·refine AH D1 (CJ e0 e1 e2 r1 r2 s1 (CE s2 h1 h2 kT kF)) AB AB AB AB AB AB ?_
    exact AL rfl AA.out
   cases hr
  ·cases c1
   rotate_left
   ·refine AH D1 (CJ e0 e1 e2 r1 r2 s1 (CE s2 h1 h2 kT kF)) AB AB AB AB AB AB ?_
    exact AL rfl AA.out
   cases c2
   rotate_left
   ·refine AH D1 (CJ e0 e1 e2 r1 r2 s1 (CE s2 h1 h2 kT kF)) AB AB AB AB AB AB ?_
    exact AL rfl AA.out
   cases u1
   rotate_left
   ·refine AH D1 (CJ e0 e1 e2 r1 r2 s1 (CE s2 h1 h2 kT kF)) AB AB AB AB AB AB ?_
    exact AL rfl AA.out
   cases u2
   rotate_left
   ·refine AH D1 (CJ e0 e1 e2 r1 r2 s1 (CE s2 h1 h2 kT kF)) AB AB AB AB AB AB ?_
    exact AL rfl AA.out
   cases v1
   rotate_left
   ·refine AH D1 (CJ e0 e1 e2 r1 r2 s1 (CE s2 h1 h2 kT kF)) AB AB AB AB AB AB ?_
    exact AL rfl AA.out
   cases v2
   rotate_left
   ·refine AH D1 (CJ e0 e1 e2 r1 r2 s1 (CE s2 h1 h2 kT kF)) AB AB AB AB AB AB ?_
    exact AL rfl AA.out
   cases hr
 rw[AF Bool.false_ne_true]at hH;have hsd:=hside rfl;refine EN ⟨[(1,.optr 0 0 5 0 0)],[⟨0,0,48,5,[.agg [str (sb x.flow),i64 x.core,i64 x.room,i64 x.side,Eo false cs]]⟩],1000⟩ ?_ ?_
 ·clear hlvl hsafe hB hH
  cases v2
  rotate_left
  ·simp at hr
  cases v1
  rotate_left
  ·simp at hr
  cases u2
  rotate_left
  ·simp at hr
  cases u1
  rotate_left
  ·simp at hr
  rcases hp with⟨rfl,rfl⟩|⟨rfl,rfl⟩
  ·cases c0
   rotate_left
   ·cases hr
   refine AH D1 (CJ e0 e1 e2 r1 r2 s1 (CE s2 h1 h2 kT kF)) AB AB AB AB AB AB ?_;exact⟨trivial,AK⟩
  ·cases c1
   rotate_left
   ·cases hr
   cases c2
   rotate_left
   ·cases hr
   refine AH D1 (CJ e0 e1 e2 r1 r2 s1 (CE s2 h1 h2 kT kF)) AB AB AB AB AB AB ?_;exact⟨trivial,AK⟩
 clear hr e0 e1 e2 r1 r2 s1 s2 hp h1 h2 hR
 by_cases h0:cs.length=0
 ·rw[AG h0]at hH
  rw[hH,AG (by decide)]at hB;rw[hB];have k0:((cs.length:Int)==0)=true:=by rw[h0];rfl
  refine AH D1 (Ae el k0) AB AB AB AB AB AB ?_;exact AL rfl AA.out
 rw[AF h0]at hH;have k0:((cs.length:Int)==0)=false:=Bu.2 (by omega)
 by_cases h8:8<cs.length
 ·rw[AG h8]at hH
  rw[hH,AG (by decide)]at hB;rw[hB];have k8:decide ((cs.length:Int)>8)=true:=AX (by omega);refine AH D1 (As el k0 k8) AB AB AB AB AB AB ?_;exact AL rfl AA.out
 rw[AF h8]at hH;rw[hH,AF (λh=>h rfl)]at hB;rw[hB];have k8:decide ((cs.length:Int)>8)=false:=Ad (by omega);clear hB hH hside;refine AH D1 (As el k0 k8) AB AB AB AB AB AB ?_;refine AC.loop (α:=Nat×Nat) (λp=>⟨[(1,.optr 0 0 5 0 0),(3,i64 (p.1:Int))],[⟨0,0,48,5,[.agg [str (sb x.flow),i64 x.core,i64 x.room,i64 x.side,Eo false cs]]⟩],p.2⟩) (λp=>cs.length-p.1) (λq=>q.1<=cs.length/\EZ x (cs.drop q.1)=EZ x cs) (0,_) ⟨BS _,rfl⟩ AK ?_;rintro⟨i,n⟩ F ⟨hi,hJ⟩;dsimp only at hi hJ⊢;rcases BA i cs.length with h2|h2
 rotate_left
 ·have k1:=Cg h2
  have:i=cs.length:=by omega
  subst this;rw[I5]at hJ;have hz:EZ x cs=0:=hJ.symm;have cS:=hsafe (SO hz) hsd;rw[AF (λh=>h hz)];cases hq:E9 x.side (Bj x)
  ·rw[hq]at cS
   rw[AF Bool.false_ne_true];refine AH D1 (BV k1 el kT kF) cS AB AB AB AB AB ?_;exact AL rfl AA.out
  ·rw[hq]at cS
   rw[AG rfl];refine AH D1 (BV k1 el kT kF) cS AB AB AB AB AB ?_;exact AL rfl AA.out
 have k1:=Ch h2;have wi:=CZ (i:=i) (by omega);obtain⟨c,hc'⟩:=CL h2;have hm:(cs.map (Al false))[i]?=some (.sl false 3 (c.map AE.D)):=by rw[A0,hc'];rfl
 obtain⟨hc1,hc2⟩:=hc c (Ax hc');have cP:=eK false c hc1 hc2;have cG:=oC false c hc1;have hd:cs.drop i=c::cs.drop (i+1):=by
  have:=List.getElem?_eq_some_iff.1 hc'
  rw[EI this.1,this.2]
 rw[hd]at hJ;have hJ2:EZ x cs=if EM x c≠0 then EM x c else EZ x (cs.drop (i+1)):=hJ.symm
 by_cases hp:B3 c=0
 rotate_left
 ·rw[nX hp,AG (by omega)]at hJ2
  have k2:(((B3 c:Nat):Int) != 0)=true:=Hw (by omega);rw[AG (by rw[hJ2];omega),hJ2];refine AH D1 (BV k1 el k2 kN) hm cP AB AB AB AB ?_;exact AL rfl AA.out
 rw[hp]at cP;have k2:(((0:Nat):Int) != 0)=false:=rfl;have hsm:=(Fh hp).2.2;have cL:=hlvl i c hc' hsm;cases hg:CT c
 ·rw[hg]at cG
  rw[q6 hp hg,AG (by decide)]at hJ2;rw[AG (by rw[hJ2];decide),hJ2];refine AH D1 (Dj k1 el k2 kT kF kN) hm cP cG AB AB AB ?_;exact AL rfl AA.out
 rw[hg]at cG
 by_cases hrm:Aq c>x.room
 ·have k3:decide (Aq c>x.room)=true:=AX hrm
  rw[lS hp hg hrm,AG (by decide)]at hJ2;rw[AG (by rw[hJ2];decide),hJ2];refine AH D1 (CJ k1 el k2 k3 kT kF kN) hm cP cG cL AB AB ?_;exact AL rfl AA.out
 ·have k3:decide (Aq c>x.room)=false:=Ad hrm
  rw[lT hp hg hrm,AF (λh=>h rfl)]at hJ2;refine AH D1 (CJ k1 el k2 k3 wi kT (Ae kF kN)) hm cP cG cL AB AB ?_;exact⟨(i+1,_),⟨h2,hJ2.symm⟩,by dsimp only;omega,AK⟩
def IX (x:BK)(i:Int):Bool:=Cr i 0 ((x.cells.length:Int)-1)
theorem vh (x:BK)(hl:x.cells.length<=1000000)(i:Int):AJ C0 130 [i64 i,.pptr x.D] (Ap (!IX x i)):=by
 refine Ag.walk w1 ZT rfl λF=>?_
 have cW:=MM i 0 ((x.cells.length:Int)-1);have hb:IX x i=Cr i 0 ((x.cells.length:Int)-1):=rfl;have w2:IntKind.i64.wrap ((x.cells.length:Int)-1)=(x.cells.length:Int)-1:=wI (by omega) (by omega);obtain⟨cs,hcs⟩:∃c,x.cells=c:=⟨_,rfl⟩
 have el:(((cs.map (Al false)).length:Nat):Int)=(cs.length:Int):=by rw[Ac]
 unfold BK.D;rw[hb];rw[hcs]at cW w2⊢;refine AH AW (Ae el w2) cW AB AB AB AB AB ?_;exact AL rfl AA.out
theorem xI (b:Bool)(l:List Int)(c:D)[pc:AA c](p:Int->Bool)(hl:l.length<=1000000)(hc:∀x∈l,AJ C0 130 [i64 x,c] (Ap (p x))):AJ C0 179 [.sl b 1 (BW l),.clo (.func 130) [] [c]] (i64 (JX p l)):=by
 refine Ag.walk w1 aV rfl λF=>?_
 have el:(((BW l).length:Nat):Int)=(l.length:Int):=by rw[Ac]
 refine AH AW el AB AB AB AB AB AB ?_;refine AC.loop (α:=Nat×Nat) (λp=>⟨[(0,.sl b 1 (BW l)),(1,.clo (.func 130) [] [c]),(7,i64 l.length),(8,i64 (p.1:Int))],[],p.2⟩) (λp=>l.length-p.1) (λq=>q.1<=l.length/\∀(j:Nat) (x:Int),j<q.1->l[j]?=some x->p x=false) (0,_) ⟨BS _,λj x hj=>Ah hj (Gp j)⟩ AK ?_;rintro⟨i,n⟩ F ⟨hi,ha⟩;dsimp only at hi ha⊢;rcases BA i l.length with h2|h2
 rotate_left
 ·have e1:=Cg h2
  have:i=l.length:=by omega
  subst this;refine AH AW e1 AB AB AB AB AB AB ?_;exact AL (by rw[Sl ha]) AA.out
 have e1:=Ch h2;have wi:=CZ (i:=i) (by omega);obtain⟨x,hx⟩:=CL h2;have hm:(BW l)[i]?=some (i64 x):=by rw[A0,hx];rfl
 have cn:=hc x (Ax hx);cases hb:p x
 ·rw[hb]at cn
  refine AH AW (As e1 wi kN) hm cn AB AB AB AB ?_;refine⟨(i+1,_),⟨h2,λj z hj hjz=>?_⟩,by dsimp only;omega,AK⟩;rcases BA j i with h|h
  ·exact ha j z h hjz
  ·have:j=i:=by dsimp only at hj;omega
   subst this;rw[hx]at hjz;cases hjz;exact hb
 ·rw[hb]at cn
  refine AH AW (As e1 wi kN) hm cn AB AB AB AB ?_;exact AL (by rw[Tl hx hb ha]) AA.out
theorem xE (b:Bool)(l:List Int)(c:D)[pc:AA c](p:Int->Bool)(hl:l.length<=1000000)(hc:∀x∈l,AJ C0 130 [i64 x,c] (Ap (p x))):AJ C0 129 [.sl b 1 (BW l),.clo (.func 130) [] [c]] (Ap (l.any p)):=by
 refine Ag.walk w1 ZR rfl λF=>?_
 have c1:=xI b l c p hl hc;have e1:=Tm p l;refine AH AW e1 c1 AB AB AB AB AB ?_;exact AL rfl AA.out
def Eb (x:BK)(ns:List Int):Int:=if Cu x≠0 then Cu x else if ns.any (λi=>!IX x i)then 10 else 0
theorem d5 (x:BK)(hl:x.cells.length<=1000000)(hc:∀c∈x.cells,c.length<=1000000/\∀y∈c,y.few)(ns:List Int)(hn:ns.length<=1000000):AJ C0 73 [x.D,.sl true 1 (BW ns)] (i64 (Eb x ns)):=by
 refine Ag.walk w1 dF rfl λF=>?_
 have cB:=qJ x hl hc;have cH:=xE true ns (.pptr x.D) (λi=>!IX x i) hn λi _=>vh x hl i
 have cW:=HZ (ns.any λi=>!IX x i) 10;have hE:Eb x ns=if Cu x≠0 then Cu x else if ns.any (λi=>!IX x i)then 10 else 0:=rfl
 obtain⟨E,hEE⟩:∃E,Cu x=E:=⟨_,rfl⟩
 rw[hEE]at cB hE;have hx:∃a b c d e,x.D=.agg [a,b,c,d,e]:=⟨_,_,_,_,_,rfl⟩
 have px:AA x.D:=AI;have px2:AT x.D:=AI;obtain⟨a1,a2,a3,a4,a5,hx⟩:=hx;rw[hx]at cB cH px px2⊢;rw[hE]
 by_cases h0:E=0
 rotate_left
 ·have k2:(E != 0)=true:=Hw h0
  rw[AG h0];refine AH AW k2 cB AB AB AB AB AB ?_;exact AL rfl AA.out
 have k2:(E != 0)=false:=by rw[h0];rfl
 rw[AF (λh=>h h0)];refine AH AW k2 cB AB AB AB AB AB ?_;refine A9.own _ (Lw cH rfl (λi a d h1 h2=>by
  match i with
  | 0=>cases h1;cases h2;exact .refl _ _
  | 1=>cases h1;cases h2;exact .clo1 (.ptr rfl rfl rfl rfl)
  |n+2=>cases h1) AI (.prim _)) ?_
 rintro d H' n' ⟨rfl,rfl,rfl⟩;refine AH AW k2 cW AB AB AB AB AB ?_;exact AL rfl AA.out
theorem oM (x:BK)(hl:x.cells.length<=1000000)(hc:∀c∈x.cells,c.length<=1000000/\∀y∈c,y.modr)(i:Int):AJ C0 26 [x.D,i64 i] (i64 (Eb x [i])):=by
 refine Ag.walk w1 vz rfl λF=>?_
 have cB:=Tb x hl hc;have hE:Eb x [i]=if Cu x≠0 then Cu x else if IX x i then 0 else 10:=by
  unfold Eb;cases h:IX x i
  ·simp[h]
  ·simp[h]
 obtain⟨E,hEE⟩:∃E,Cu x=E:=⟨_,rfl⟩
 rw[hEE]at cB hE;have hb:IX x i=Cr i 0 ((x.cells.length:Int)-1):=rfl;obtain⟨cs,hcs⟩:∃c,x.cells=c:=⟨_,rfl⟩
 have el:(((cs.map (Al false)).length:Nat):Int)=(cs.length:Int):=by rw[Ac]
 rw[hE,hb];unfold BK.D at cB⊢;rw[hcs]at cB⊢
 by_cases h0:E=0
 rotate_left
 ·have k2:(E==0)=false:=Bu.2 h0
  rw[AG h0];refine AH AW k2 cB AB AB AB AB AB ?_;exact AL rfl AA.out
 have k2:(E==0)=true:=by rw[h0];rfl
 rw[AF (λh=>h h0)];unfold Cr
 by_cases hi:i<0
 ·have k3:decide (i<0)=true:=AX hi
  rw[show decide (i>=0)=false from Ad (by omega),Gl,AF Bool.false_ne_true];refine AH AW (Ae k2 k3) cB AB AB AB AB AB ?_;exact AL rfl AA.out
 have k3:decide (i<0)=false:=Ad hi;rw[show decide (i>=0)=true from AX (by omega),Fq]
 by_cases hg:i>=(cs.length:Int)
 ·have k4:decide (i>=(cs.length:Int))=true:=AX hg
  rw[show decide (i<=(cs.length:Int)-1)=false from Ad (by omega),AF Bool.false_ne_true];refine AH AW (BV k2 k3 k4 el) cB AB AB AB AB AB ?_;exact AL rfl AA.out
 ·have k4:decide (i>=(cs.length:Int))=false:=Ad hg
  rw[show decide (i<=(cs.length:Int)-1)=true from AX (by omega),AG rfl];subst h0;refine AH AW (BV k2 k3 k4 el) cB AB AB AB AB AB ?_;exact AL rfl AA.out
def E7 (x:BK)(i:Nat)(L:List AE):BK:=⟨x.flow,x.core,x.room,x.side,(x.cells.map Bl).set i L⟩
theorem aR {H:Hp}{a b c d sD:D}{L:List D}(h:Fz H [] sD (.sl false 1 L)):Fz H [] (.agg [a,b,c,d,sD]) (.agg [a,b,c,d,.sl false 1 L]):=.agg rfl λi e e' h1 h2=>by
 match i with
 | 0=>cases h1;cases h2;exact .refl _
 | 1=>cases h1;cases h2;exact .refl _
 | 2=>cases h1;cases h2;exact .refl _
 | 3=>cases h1;cases h2;exact .refl _
 | 4=>cases h1;cases h2;exact h
 |n+5=>cases h1
abbrev KI:Dr:=[(7,[0,1,2,3,4],[5,6,7]),(8,[0,1,2,3,4,5,6,7,8],[9,10,11])]
open Go.Proofs Go.RowKit
set_option maxRecDepth 20000
set_option maxHeartbeats 4000000
def R6 (i k:Nat):Nat:=if k=i+1 then 705 else 809
def VY (i k g:Nat):D:=if k=0 then CP else .osl (R6 i k) g 1 0 k
def VZ (i k g:Nat)(E:List D):Hp:=if k=0 then[]else[⟨R6 i k,g,22,1,E⟩]
theorem wR (x:BK)(i:Nat)(hi:i<x.cells.length)(hl:x.cells.length<=1000000)(hc:∀c∈x.cells,AJ C0 40 [Al false c] (Al false (Bl c)))(L:List AE)(hL:AJ C0 40 [Al false L] (Al false (Bl L))):AJ C0 90 [x.D,i64 (i:Int),Al false L] (E7 x i (Bl L)).D:=by
 refine Ag.walk w1 vV rfl λF=>?_
 obtain⟨cs,hcs⟩:∃c,x.cells=c:=⟨_,rfl⟩
 have hW:(E7 x i (Bl L)).D=.agg [str (sb x.flow),i64 x.core,i64 x.room,i64 x.side,.sl false 1 (((cs.map Bl).set i (Bl L)).map (Al false))]:=by rw[<-hcs];rfl
 have el:(((cs.map (Al false)).length:Nat):Int)=(cs.length:Int):=by rw[Ac]
 have pB:AA (E7 x i (Bl L)).D:=AI;rw[hW]at pB⊢;unfold BK.D;rw[hcs]at hi hl hc⊢;have hV:∀k c,cs[k]?=some c->(((cs.map Bl).set i (Bl L)).map (Al false))[k]?=some (if k=i then Al false (Bl L)else Al false (Bl c)):=λk c h=>by
  have hk:=(List.getElem?_eq_some_iff.1 h).1;rw[A0,List.getElem?_set,A0,h,Ac]
  by_cases hik:k=i
  ·subst hik;rw[AG rfl,AG hk,AG rfl];rfl
  ·rw[AF (λh=>hik h.symm),AF hik];rfl
 have hVl:(((cs.map Bl).set i (Bl L)).map (Al false)).length=cs.length:=by rw[Ac,DQ,Ac]
 obtain⟨V,hVV⟩:∃V,((cs.map Bl).set i (Bl L)).map (Al false)=V:=⟨_,rfl⟩
 rw[hVV]at hV hVl pB⊢;refine AH KI (Ae el kN) AB AB AB AB AB AB ?_;refine AC.loop (α:=Nat×Nat×Nat) (λp=>⟨[(1,i64 (i:Int)),(2,Al false L),(3,.optr 0 0 5 0 0),(6,.optr 1 1 5 0 0),(7,.optr 101 3 5 0 0),(8,i64 (p.1:Int))],VZ i p.1 p.2.1 (V.take p.1)++[⟨101,3,48,5,[.agg [str (sb x.flow),i64 x.core,i64 x.room,i64 x.side,VY i p.1 p.2.1]]⟩,⟨1,1,48,5,[.agg [.prim (.string ⟨#[]⟩),.prim (.int .i64 0),.prim (.int .i64 0),.prim (.int .i64 0),.prim (.slice none 0 0)]]⟩,⟨0,0,48,5,[.agg [str (sb x.flow),i64 x.core,i64 x.room,i64 x.side,Eo false cs]]⟩],p.2.2⟩) (λp=>cs.length-p.1) (λq=>q.1<=cs.length/\8<=q.2.2) (0,0,_) ⟨BS _,Ai _⟩ AK ?_;rintro⟨k,g,n⟩ F ⟨hk,hn⟩;dsimp only at hk hn⊢;rcases BA k cs.length with h2|h2
 rotate_left
 ·have k1:=Cg h2
  have:k=cs.length:=by omega
  subst this;unfold VY VZ R6;rw[AF (show ¬cs.length=0 by omega),AF (show ¬cs.length=0 by omega),B7 (show V.length<=cs.length by omega)]
  by_cases hK:cs.length=i+1
  ·rw[AG hK]
   have hR:=GY (H:=[⟨705,g,22,1,V⟩,⟨101,3,48,5,[.agg [str (sb x.flow),i64 x.core,i64 x.room,i64 x.side,.osl 705 g 1 0 cs.length]]⟩,⟨1,1,48,5,[.agg [str (sb x.flow),i64 x.core,i64 x.room,i64 x.side,.osl 705 g 1 0 cs.length]]⟩,⟨0,0,48,5,[.agg [str (sb x.flow),i64 x.core,i64 x.room,i64 x.side,Eo false cs]]⟩]) (Hf:=[]) (k:=705) (g:=g) (T:=22) (sz:=1) (l:=V) rfl;rw[hVl]at hR;refine AH KI (Ae el k1) AB AB AB AB AB AB ?_;exact⟨_,aR hR,pB.out,rfl⟩
  ·rw[AF hK]
   have hR:=GY (H:=[⟨809,g,22,1,V⟩,⟨101,3,48,5,[.agg [str (sb x.flow),i64 x.core,i64 x.room,i64 x.side,.osl 809 g 1 0 cs.length]]⟩,⟨1,1,48,5,[.agg [str (sb x.flow),i64 x.core,i64 x.room,i64 x.side,.osl 809 g 1 0 cs.length]]⟩,⟨0,0,48,5,[.agg [str (sb x.flow),i64 x.core,i64 x.room,i64 x.side,Eo false cs]]⟩]) (Hf:=[]) (k:=809) (g:=g) (T:=22) (sz:=1) (l:=V) rfl;rw[hVl]at hR;refine AH KI (Ae el k1) AB AB AB AB AB AB ?_;exact⟨_,aR hR,pB.out,rfl⟩
 have k1:=Ch h2;have wi:=CZ (i:=k) (by omega);obtain⟨c,hc'⟩:=CL h2;have hm:(cs.map (Al false))[k]?=some (.sl false 3 (c.map AE.D)):=by rw[A0,hc'];rfl
 have cN:=hc c (Ax hc');have hv:=hV k c hc';have hT:V.take (k+1)=V.take k++[if k=i then Al false (Bl L)else Al false (Bl c)]:=by rw[DW,hv];rfl
 have hEl:(V.take k).length=k:=by rw[Bb];omega
 have f1:∀l:List D,([]:List D)++l=l:=EO;have f2:∀n,List.take n ([]:List D)=[]:=λn=>List.take_nil
 unfold VY VZ R6
 by_cases hki:k=i
 ·rw[AG hki]at hT
  have q1:((k:Int)==(i:Int))=true:=by rw[hki];exact beq_self_eq_true _
  by_cases hk0:k=0
  ·rw[AG hk0,AG hk0]
   rw[show V.take k=[]from by rw[hk0];rfl]at hT hEl;refine AH KI (CJ k1 el q1 wi f1 f2 BR) hL AB AB AB AB AB ?_;subst hk0;refine⟨(0+1,n+1+1+1+1+1+1+1+1+8,n+1000),⟨h2,by dsimp only;omega⟩,by dsimp only;omega,?_⟩;dsimp only;rw[AF (show ¬ 0+1=0 by omega),AF (show ¬ 0+1=0 by omega),AG (show 0+1=i+1 by omega),hT];exact AK
  ·rw[AF hk0,AF hk0,AF (show ¬k=i+1 by omega)]
   obtain⟨E,hE⟩:∃E,V.take k=E:=⟨_,rfl⟩
   rw[hE]at hT hEl⊢;have f3:List.take k E=E:=by rw[<-hEl];exact Cf
   refine AH KI (CE k1 el q1 wi f3) hL AB AB AB AB AB ?_;refine⟨(k+1,n+1+1+1+1+1+1+1+1+8,n+1000),⟨h2,by dsimp only;omega⟩,by dsimp only;omega,?_⟩;dsimp only;rw[AF (show ¬k+1=0 by omega),AF (show ¬k+1=0 by omega),AG (show k+1=i+1 by omega),hT];exact AK
 ·rw[AF hki]at hT
  have q1:((k:Int)==(i:Int))=false:=Bu.2 (by omega)
  by_cases hk0:k=0
  ·rw[AG hk0,AG hk0]
   rw[show V.take k=[]from by rw[hk0];rfl]at hT hEl;refine AH KI (CJ k1 el q1 wi f1 f2 (Ae kN BR)) hm cN AB AB AB AB ?_;subst hk0;refine⟨(0+1,n+1+1+1+1+1+1+1+1+12,n+1000),⟨h2,by dsimp only;omega⟩,by dsimp only;omega,?_⟩;dsimp only;rw[AF (show ¬ 0+1=0 by omega),AF (show ¬ 0+1=0 by omega),AF (show ¬ 0+1=i+1 by omega),hT];exact AK
  ·rw[AF hk0,AF hk0]
   obtain⟨E,hE⟩:∃E,V.take k=E:=⟨_,rfl⟩
   rw[hE]at hT hEl⊢;have f3:List.take k E=E:=by rw[<-hEl];exact Cf
   by_cases hK:k=i+1
   ·rw[AG hK]
    refine AH KI (Dj k1 el q1 wi f3 kN) hm cN AB AB AB AB ?_;refine⟨(k+1,n+1+1+1+1+1+1+1+1+12,n+1000),⟨h2,by dsimp only;omega⟩,by dsimp only;omega,?_⟩;dsimp only;rw[AF (show ¬k+1=0 by omega),AF (show ¬k+1=0 by omega),AF (show ¬k+1=i+1 by omega),hT];exact AK
   ·rw[AF hK]
    refine AH KI (Dj k1 el q1 wi f3 kN) hm cN AB AB AB AB ?_;refine⟨(k+1,n+1+1+1+1+1+1+1+1+12,n+1000),⟨h2,by dsimp only;omega⟩,by dsimp only;omega,?_⟩;dsimp only;rw[AF (show ¬k+1=0 by omega),AF (show ¬k+1=0 by omega),AF (show ¬k+1=i+1 by omega),hT];exact AK
end Go.Ide
namespace Go.Proofs
open Go.Shelf Go.RowKit Go.Lib
def Tryz.growLay_ren:Go.Shelf.Ren:=⟨fun|4=>140|n=>n,fun|22=>22|25=>27|3=>3|4=>4|9=>9|20=>20|0=>0|n=>n,fun|n=>n⟩
theorem yu:Go.Proofs.Lays8.n4 Tryz.prog Tryz.growLay_ren:={
 mixed:=by kernel_rfl
 f4:=⟨Tryz.f140.name,by decide,Tryz.func140.trans (congrArg some (by kernel_rfl))⟩
 t0:=Tryz.underlying0
 a0:=Tryz.isAgg0
 z0:=Tryz.sizeOf0
 v0:=Tryz.zeroValue0
 t3:=Tryz.underlying3
 a3:=Tryz.isAgg3
 z3:=Tryz.sizeOf3
 v3:=Tryz.zeroValue3
 t4:=Tryz.underlying4
 a4:=Tryz.isAgg4
 z4:=Tryz.sizeOf4
 v4:=Tryz.zeroValue4
 t9:=Tryz.underlying9
 a9:=Tryz.isAgg9
 z9:=Tryz.sizeOf9
 v9:=Tryz.zeroValue9
 t20:=Tryz.underlying20
 a20:=Tryz.isAgg20
 z20:=Tryz.sizeOf20
 v20:=Tryz.zeroValue20
 t22:=Tryz.underlying22
 a22:=Tryz.isAgg22
 z22:=Tryz.sizeOf22
 v22:=Tryz.zeroValue22 }
end Go.Proofs
namespace Go.Ide
open Go.Proofs Go.RowKit Go.Lib
set_option maxRecDepth 20000
set_option maxHeartbeats 4000000
theorem Jp (K n:Nat)(h0:0<n)(hn:n<=1000000)(H:Hp)(m:Nat):Ca C0 140 [CP,i64 (n:Int)] H m (λd H' n'=>d=.osl K m 3 0 0/\H'=⟨K,m,27,3,[]⟩::H/\n'=m+1):=by
 refine⟨by obtain⟨fn,a1,a2,a3,-⟩:=ZW;exact⟨fn,_,a1,a2,a3⟩,λF ρ w vs mm fr gn hsz rep=>?_⟩;obtain⟨v0,v1,rfl⟩:∃v0 v1,vs = #[v0,v1]:=by
  match vs,hsz with
  |⟨[a,b]⟩,_=>exact⟨a,b,rfl⟩
 have r0:AV ρ _ w CP v0:=rep 0 _ rfl;have r1:AV ρ _ w (i64 (n:Int)) v1:=rep 1 _ rfl;cases r0;cases r1;have hT:∃i,X1.tt 22=some i/\i.ti=.slice 27 3 48 (.agg #[.string ⟨#[]⟩,.int .i64 0,.slice none 0 0]):=⟨_,rfl,rfl⟩
 obtain⟨i,hi1,hi2⟩:=hT;obtain⟨-,⟨inf,k1,k2,k3,k4⟩,k5,k6⟩:=EW (w1.tt _ _ hi1) hi2;have hc:=Any8.slices_Grow_grow yu inf _ k1 k4 (by rw[k2];decide) none 0 0 n [] w (Ai _) (by omega) (by rw[k3];omega) (by omega) (by rw[k2];rfl) (λ_=>rfl) (λa h=>by cases h);refine Calls.mono hc ?_;rintro e w' ⟨rfl,rfl⟩;rw[show Tryz.growLay_ren.t 25=27 from rfl,BR];have hge:n<=grownCap w n 0 27:=grownCap_ge ..;have hmx:grownCap w n 0 27<=maxLen:=grownCap_le_maxLen _ _ _ _ (by simp only[maxLen];omega);generalize grownCap w n 0 27=cap at hge hmx⊢;obtain⟨z,hz⟩:∃z,(Value.agg #[.string ⟨#[]⟩,.int .i64 0,.slice none 0 0])=z:=⟨_,rfl⟩
 rw[hz]at k5 k6⊢;generalize hcs' : #[]++Builtin.zeroCells z.cells (n-0)++Builtin.zeroCells z.cells (cap-n)=cs';have hsz':cs'.size=cap*3:=by
  rw[<-hcs',I4,I4,size_zeroCells,size_zeroCells,k5];simp only[Jf,HE];omega
 have ho:DC ρ (AN F.X ρ H) w.drew ⟨K,m,27,3,[]⟩ cs':=by
  refine⟨by simp,λq d h=>by simp at h,λq v hv=>?_,λq d j c h=>by simp at h⟩;rw[<-hcs']at hv;rcases BA q (#[]++Builtin.zeroCells z.cells (n-0)).size with hq|hq
  ·rw[GR hq,Array.empty_append]at hv
   exact Pc k6 _ _ v hv
  ·rw[GQ hq]at hv
   exact Pc k6 _ _ v hv
 obtain⟨m1,x1⟩:=mm.drew.alloc ⟨K,m,27,3,[]⟩ cs' (fr _ _ (Ai _)) (λe' he' h=>Nat.ne_of_lt (gn e' he') h.2) ho;refine⟨_,_,_,_,_,rfl,⟨rfl,rfl,rfl⟩,m1,(BT.drew _ _ _).trans x1,λk g hg=>?_,λe he=>?_,?_⟩
 ·unfold Lk.put
  rw[AF λh=>by have:=h.2;dsimp only at this;omega];exact fr k g (by omega)
 ·rcases BF.1 he with rfl|he
  ·exact HK _
  ·exact DE (gn e he)
 ·exact O9 (b:=w.heap.size) (T:=27) (cs:=cs') (fz:=(0,0)) (EE _ _ _ _) (by rw[EA];exact AG rfl) (BS _) hsz'.symm hmx
theorem Ws {vs:List (List AE)}{i:Nat}{l:List AE}(h:vs[i]?=some l):(vs.take (i+1)).flatten=(vs.take i).flatten++l:=by
 rw[DW,h];simp
theorem Yh {vs:List (List AE)}(i:Nat):(vs.take i).flatten.length<=vs.flatten.length:=by
 have:vs.flatten=(vs.take i).flatten++(vs.drop i).flatten:=by rw[<-List.flatten_append,Ev]
 rw[this,Bh];omega
theorem jB (vs:List (List AE))(h0:vs.flatten≠[])(hl:vs.flatten.length<=1000000)(hv:vs.length<=1000000):AJ C0 88 [.sl true 1 (vs.map (Al false))] (Al false vs.flatten):=by
 refine Ag.walk w1 dR rfl λF=>?_
 have el:(((vs.map (Al false)).length:Nat):Int)=(vs.length:Int):=by rw[Ac]
 have hpos:0<vs.flatten.length:=List.length_pos_iff.2 h0;have cG:=λm=>Jp 1302 vs.flatten.length hpos hl [] m
 refine AH AW el AB AB AB AB AB AB ?_;refine AC.loop (α:=Nat×Nat) (λp=>⟨[(0,.sl true 1 (vs.map (Al false))),(3,i64 ((vs.take p.1).flatten.length:Int)),(9,.sl true 1 (vs.map (Al false))),(10,i64 (vs.length:Int)),(11,i64 (p.1:Int))],[],p.2⟩) (λp=>vs.length-p.1) (λq=>q.1<=vs.length) (0,_) (BS _) AK ?_;rintro⟨i,n⟩ F hi;dsimp only at hi⊢;rcases BA i vs.length with h2|h2
 ·have e1:=Ch h2
  have wi:=CZ (i:=i) (by omega);obtain⟨x,hx⟩:=CL h2;have hm:(vs.map (Al false))[i]?=some (.sl false 3 (x.map AE.D)):=by rw[A0,hx];rfl
  have hs:=Ws hx;have hle:=Yh (vs:=vs) (i+1);have ex:(((x.map AE.D).length:Nat):Int)=(x.length:Int):=by rw[Ac]
  rw[hs,Bh]at hle;have w1':IntKind.i64.wrap (((vs.take i).flatten.length:Int)+(x.length:Int))=(((vs.take (i+1)).flatten.length:Nat):Int):=by
   rw[wI (by omega) (by omega),hs,Bh];omega
  have g0:decide ((((vs.take (i+1)).flatten.length:Nat):Int)<0)=false:=Ad (by omega);refine AH AW (Dj e1 wi ex w1' g0 kN) hm AB AB AB AB AB ?_;exact⟨(i+1,_),h2,by dsimp only;omega,AK⟩
 have e1:=Cg h2
 have:i=vs.length:=by omega
 subst this;rw[Cf];refine AH AW e1 AB AB AB AB AB AB ?_;refine A9.own _ (cG _) ?_;rintro d H' n' ⟨rfl,rfl,rfl⟩;refine AH AW el AB AB AB AB AB AB ?_;refine AC.loop (α:=Nat×Nat×Nat) (λp=>⟨[(6,.osl 1302 p.2.1 3 0 (vs.take p.1).flatten.length),(25,.sl true 1 (vs.map (Al false))),(26,i64 (vs.length:Int)),(27,i64 (p.1:Int))],[⟨1302,p.2.1,27,3,(vs.take p.1).flatten.map AE.D⟩],p.2.2⟩) (λp=>vs.length-p.1) (λq=>q.1<=vs.length) (0,n+1+1,_) (BS _) AK ?_;clear hi h2 e1;rintro⟨i,g,n⟩ F hi;dsimp only at hi⊢;rcases BA i vs.length with h2|h2
 ·have e1:=Ch h2
  have wi:=CZ (i:=i) (by omega);obtain⟨x,hx⟩:=CL h2;have hm:(vs.map (Al false))[i]?=some (.sl false 3 (x.map AE.D)):=by rw[A0,hx];rfl
  have hs:=Ws hx;have hle:=Yh (vs:=vs) (i+1);have hln:((vs.take i).flatten.map AE.D).length=(vs.take i).flatten.length:=Ac ..;have hlx:(x.map AE.D).length=x.length:=Ac ..;rw[hs,Bh]at hle;obtain⟨R,hR⟩:∃R,(vs.take i).flatten=R:=⟨_,rfl⟩
  obtain⟨X,hX⟩:∃X,x.map AE.D=X:=⟨_,rfl⟩
  have pX:AA (.sl false 3 X):=by rw[<-hX];exact AI
  rw[hR]at hs hle hln⊢;rw[hX]at hm hlx;obtain⟨RD,hRD⟩:∃X,R.map AE.D=X:=⟨_,rfl⟩
  rw[hRD]at hln⊢;refine AH AW (As e1 wi kN) hm AB AB AB AB AB ?_;refine⟨(i+1,n+1+1+1+1+1+1,n+1+1+1+1+1+1+1+1+1+1),h2,by dsimp only;omega,?_⟩;dsimp only;rw[hs,Bh,Cs,hRD,hX,hlx];rw[B7 (show RD.length<=R.length by omega)];exact AK
 have e1:=Cg h2
 have:i=vs.length:=by omega
 subst this;rw[Cf];have hR:=GY (H:=[⟨1302,g,27,3,vs.flatten.map AE.D⟩]) (Hf:=[]) (k:=1302) (g:=g) (T:=27) (sz:=3) (l:=vs.flatten.map AE.D) rfl;rw[Ac]at hR;refine AH AW e1 AB AB AB AB AB AB ?_;exact⟨_,hR,AA.out,rfl⟩
end Go.Ide
namespace Go.Ide
abbrev Tk:Dr:=[(1,[0,1,2,3,4,5,6],[7]),(9,[0,1,2,3,4],[5,6])]
open Go.Proofs Go.RowKit
set_option maxRecDepth 20000
set_option maxHeartbeats 4000000
def GM:List AE->Int->Int->List AE
 | [],_,_=>[]
 |x::r,low,left=>x.w (min (x.mass-min x.mass low) left)::GM r (low-min x.mass low) (left-min (x.mass-min x.mass low) left)
structure Vc where
 o:List AE
 low:Int
 left:Int
 g:Nat
def JW (g1 g2:Nat)(p:Vc):Hp:=Dl 905 p.g 27 3 (p.o.map AE.D)++[⟨200,g2,22,1,[Ds 905 p.g 3 (p.o.map AE.D)]⟩,⟨106,g1,3,1,[i64 p.left]⟩,⟨0,0,3,1,[i64 p.low]⟩]
theorem YU (g1 g2:Nat)(a b:Int)(g:Nat):JW g1 g2 ⟨[],a,b,g⟩=[⟨200,g2,22,1,[CP]⟩,⟨106,g1,3,1,[i64 b]⟩,⟨0,0,3,1,[i64 a]⟩]:=rfl
theorem P9 (g1 g2:Nat)(z:AE)(o:List AE)(a b:Int)(g:Nat):JW g1 g2 ⟨z::o,a,b,g⟩=[⟨905,g,27,3,z.D::o.map AE.D⟩,⟨200,g2,22,1,[.osl 905 g 3 0 ((o.map AE.D).length+1)]⟩,⟨106,g1,3,1,[i64 b]⟩,⟨0,0,3,1,[i64 a]⟩]:=rfl
def Om (L:List AE)(low left:Int)(k:Nat)(p:Vc):Prop:=p.o.length=k/\p.o++GM (L.drop k) p.low p.left=GM L low left/\0<=p.low/\p.low<=1000000000000/\0<=p.left/\p.left<=1000000000000000
theorem iB (b:Bool)(l:List AE)(low high:Int)(hl:l.length<=1000000)(h1:0<=low/\low<=1000000000000)(h2:0<=high/\high<=1000000000000)(t:Int)(ht:low+high<=t/\t<=1000000000000000)(hx:∀x∈l,0<=x.mass/\x.mass<=1000000000)
  (cT:AJ C0 59 [Al b l] (i64 t))
  (ho:∀x∈l,∀m,AJ C0 63 [x.D,i64 m] (x.w m).D) (R:D) [pR:AA R] (hN:AJ C0 84 [Al false (GM l low (t-low-high))] R):
  AJ C0 92 [Al b l,i64 low,i64 high] R:=by
 refine Ag.walk w1 dT rfl λF=>?_
 have cV:=TM b false (l.map AE.D);have hT:∀x∈l.map AE.D,∃a c d,x=.agg [a,c,d]:=λx hx=>by
  obtain⟨y,-,rfl⟩:=List.mem_map.1 hx;exact⟨_,_,_,rfl⟩
 have hoA:∀k,k<l.length->∃y,y∈l/\l[k]?=some y/\(l.map AE.D)[if false then(l.map AE.D).length-1-k else k]?=some y.D:=λk hk=>⟨_,List.getElem_mem hk,BE hk,by
  show(l.map AE.D)[k]?=_;rw[A0,BE hk];rfl⟩
 unfold Al at cT⊢;obtain⟨T,hTT⟩:∃T,l.map AE.D=T:=⟨_,rfl⟩
 have pT:AA (.sl b 3 T):=by rw[<-hTT];exact AI
 have hTl:T.length=l.length:=by rw[<-hTT,Ac]
 rw[hTT]at cV hT hoA cT⊢;have w1':IntKind.i64.wrap (t-low)=t-low:=wI (by omega) (by omega);have w2:IntKind.i64.wrap (t-low-high)=t-low-high:=wI (by omega) (by omega);obtain⟨e,he⟩:∃e,t-low-high=e:=⟨_,rfl⟩
 have w2':IntKind.i64.wrap (t-low-high)=e:=by rw[w2,he]
 rw[he]at hN;have he0:0<=e/\e<=1000000000000000:=by omega
 refine AH Tk (Ae w1' w2') cT cV AB AB AB AB ?_;have h0:Om l low e 0 ⟨[],low,e,0⟩:=⟨rfl,rfl,h1.1,h1.2,he0.1,he0.2⟩
 refine AC.rangeFunc (fi:=185) (first:=[]) (captured:=[.pptr (.sl b 3 T),.pptr (Ap false)]) (Ψ:=λj _ H' _=>(j=none/\∃a,Om l low e T.length a/\H'=JW 8 11 a)\/(j=some (.exit 0)/\False)) rfl
  (λds H n Φ=>∃k a x,Om l low e k a/\k<T.length/\T[if false then T.length-1-k else k]?=some x/\ds=[x]/\H=JW 8 11 a/\Φ=λj H' _=>(j=none/\∃a',Om l low e (k+1) a'/\Ci H' (JW 8 11 a') H' (JW 8 11 a'))\/(j=some (.exit 0)/\False)) ?_
  (λE l' R' hE hY=>U5 hE b false T hT (by omega) (λ_ a=>JW 8 11 a) (Om l low e) (.exit 0) (λ_=>False) ⟨[],low,e,0⟩ h0 _ λk a x n hP hk hx=>hY _ _ _ _ ⟨k,a,x,hP,hk,hx,rfl,rfl,rfl⟩) ?_
 ·rintro l' ds H n Φ ⟨k,⟨o,lw,lf,g⟩,x,⟨p1,p2,p3,p4,p6,p7⟩,hk,hxT,rfl,rfl,rfl⟩
  dsimp only at p1 p2 p3 p4 p6 p7;obtain⟨y,hy1,hy2,hy3⟩:=hoA k (by omega);rw[hy3]at hxT;cases hxT;have hd:l.drop k=y::l.drop (k+1):=by
   have:=(List.getElem?_eq_some_iff.1 hy2)
   rw[EI this.1,this.2]
  rw[hd]at p2;have hb:=hx y hy1;have cO:=ho y hy1 (min (y.mass-min y.mass lw) lf);have p5:(o++[y.w (min (y.mass-min y.mass lw) lf)])++GM (l.drop (k+1)) (lw-min y.mass lw) (lf-min (y.mass-min y.mass lw) lf)=GM l low e:=by
   rw[<-p2,Di];rfl
  have a1:IntKind.i64.wrap (lw-min y.mass lw)=lw-min y.mass lw:=wI (by omega) (by omega);have a2:IntKind.i64.wrap (y.mass-min y.mass lw)=y.mass-min y.mass lw:=wI (by omega) (by omega);have a3:IntKind.i64.wrap (lf-min (y.mass-min y.mass lw) lf)=lf-min (y.mass-min y.mass lw) lf:=wI (by omega) (by omega);have q1:0<=lw-min y.mass lw/\lw-min y.mass lw<=1000000000000/\0<=lf-min (y.mass-min y.mass lw) lf/\lf-min (y.mass-min y.mass lw) lf<=1000000000000000:=by omega
  refine⟨rfl,λF=>?_⟩;unfold AE.w AE.D at cO;unfold AE.D;dsimp only at cO⊢;obtain⟨SD,hSD⟩:∃d,Cb false y.shs=d:=⟨_,rfl⟩
  have pS:AA SD:=by rw[<-hSD];exact AI
  rw[hSD]at cO⊢;rcases o with _|⟨z,o⟩
  ·rw[YU]
   dsimp only[Gc];refine An w1 400 (by kernel_rfl) ?_;refine AD kB ?_;refine⟨trivial,trivial,λF'=>?_⟩;refine AH Tk (As a1 a2 a3) cO AB AB AB AB AB ?_;refine .inl ⟨rfl,⟨[y.w (min (y.mass-min y.mass lw) lf)],lw-min y.mass lw,lf-min (y.mass-min y.mass lw) lf,n+1+1+1+1+1+1+1+1+1+1+1+1+1+1+1+1+1+1+1+1+1+1+7⟩,⟨by rw[<-p1];rfl,p5,q1⟩,?_⟩;rw[P9,<-hSD];exact .keep (.drop (Gx _))
  ·have hol:o.length<=1000000:=by rw[Bp]at p1;omega
   rw[P9];dsimp only[Gc];obtain⟨O,hO⟩:∃O,o.map AE.D=O:=⟨_,rfl⟩
   obtain⟨zD,hzD⟩:∃O,z.D=O:=⟨_,rfl⟩
   have hOl:O.length=o.length:=by rw[<-hO,Ac]
   rw[hO,hzD];refine An w1 400 (by kernel_rfl) ?_;refine AD kB ?_;refine⟨trivial,trivial,λF'=>?_⟩;refine AH Tk (As a1 a2 a3) cO AB AB AB AB AB ?_;rw[show List.take (O.length+1) (zD::O)=zD::O from Cf (l:=zD::O)];refine .inl ⟨rfl,⟨z::o++[y.w (min (y.mass-min y.mass lw) lf)],lw-min y.mass lw,lf-min (y.mass-min y.mass lw) lf,n+1+1+1+1+1+1+1+1+1+1+1+1+1+1+1+1+1+1+1+1+1+1+7⟩,⟨by rw[<-p1];simp,p5,q1⟩,?_⟩;have hs:∀g' a b,JW 8 11 ⟨z::o++[y.w (min (y.mass-min y.mass lw) lf)],a,b,g'⟩=[⟨905,g',27,3,zD::O++[.agg [str (sb y.grain),i64 (min (y.mass-min y.mass lw) lf),SD]]⟩,⟨200,11,22,1,[.osl 905 g' 3 0 (O.length+1+1)]⟩,⟨106,8,3,1,[i64 b]⟩,⟨0,0,3,1,[i64 a]⟩]:=λg' a b=>by
    rw[D5,P9,<-hO,<-hzD,<-hSD,Cs];rw[Bh];rfl
   rw[hs];exact .keep (.drop (Gx _))
 ·rintro j d H' n' F' hE
  rcases hE with⟨rfl,⟨o,lw,lf,g⟩,⟨p1,p2,-⟩,rfl⟩|⟨-,h⟩
  rotate_left
  ·exact h.elim
  dsimp only at p2;rw[List.drop_eq_nil_of_le (by omega)]at p2;have ho2:o=GM l low e:=by rw[<-p2];exact(DB o).symm
  rw[<-ho2]at hN;rcases o with _|⟨z,o⟩
  ·rw[YU]
   change AC _ _ _ _ _ _ _;refine sR 1000 ?_;refine A9.pure [.sl false 3 []] _ ⟨.nil 3,trivial⟩ hN AI ?_;refine BO ?_;refine Aj ?_;exact AL rfl pR.out
  ·have hR:=GY (H:=JW 8 11 ⟨z::o,lw,lf,g⟩) (Hf:=[]) (k:=905) (g:=g) (T:=27) (sz:=3) (l:=(z::o).map AE.D) rfl
   have hle:((z::o).map AE.D).length=(o.map AE.D).length+1:=rfl;rw[hle]at hR;rw[P9]at hR⊢;change AC _ _ _ _ _ _ _;refine sR 1000 ?_;refine A9.own _ (NE [] hN (.drop (.drop (.drop (.drop .nil)))) ⟨hR,trivial⟩ AI) ?_;rintro d H2 n2 ⟨rfl,rfl,rfl⟩;refine BO ?_;refine Aj ?_;exact AL rfl pR.out
open Go.Proofs Go.RowKit
set_option maxRecDepth 20000
set_option maxHeartbeats 4000000
def Qt (lot:List UInt8)(x:AE):Bool:=x.shs.any λs=>BI (sb s.lot) (sb lot)
def Kt (lot:List UInt8):List AE->Int->List (Int×Int)
 | [],_=>[]
 |x::r,n=>(if Qt lot x then[(n+1,n+x.mass)]else[])++Kt lot r (n+x.mass)
def Ff (p:Int×Int):D:=.agg [i64 p.1,i64 p.2]
instance  (p:Int×Int):AT (Ff p):=by unfold Ff;exact AI
instance  (p:Int×Int):AA (Ff p):=by unfold Ff;exact AI
theorem xk (lot:List UInt8)(s:Au):AJ C0 187 [s.D,.pptr (str (sb lot))] (Ap (BI (sb s.lot) (sb lot))):=by
 refine Ag.walk w1 ad rfl λF=>?_
 unfold Au.D;refine AH AW kB AB AB AB AB AB AB ?_;exact AL rfl AA.out
theorem xJ (b:Bool)(l:List Au)(c:D)[pc:AA c](p:Au->Bool)(hl:l.length<=1000000)(hc:∀x∈l,AJ C0 187 [x.D,c] (Ap (p x))):AJ C0 233 [Cb b l,.clo (.func 187) [] [c]] (i64 (JX p l)):=by
 refine Ag.walk w1 Z8 rfl λF=>?_
 have el:(((l.map Au.D).length:Nat):Int)=(l.length:Int):=by rw[Ac]
 refine AH AW el AB AB AB AB AB AB ?_;refine AC.loop (α:=Nat×Nat) (λp=>⟨[(0,Cb b l),(1,.clo (.func 187) [] [c]),(7,i64 l.length),(8,i64 (p.1:Int))],[],p.2⟩) (λp=>l.length-p.1) (λq=>q.1<=l.length/\∀(j:Nat) (x:Au),j<q.1->l[j]?=some x->p x=false) (0,_) ⟨BS _,λj x hj=>Ah hj (Gp j)⟩ AK ?_;rintro⟨i,n⟩ F ⟨hi,ha⟩;dsimp only at hi ha⊢;rcases BA i l.length with h2|h2
 rotate_left
 ·have e1:=Cg h2
  have:i=l.length:=by omega
  subst this;refine AH AW e1 AB AB AB AB AB AB ?_;exact AL (by rw[Sl ha]) AA.out
 have e1:=Ch h2;have wi:=CZ (i:=i) (by omega);obtain⟨x,hx⟩:=CL h2;have hm:(l.map Au.D)[i]?=some (.agg [str (sb x.lot),str (sb x.part)]):=by rw[A0,hx];rfl
 have cn:=hc x (Ax hx);unfold Au.D at cn;cases hb:p x
 ·rw[hb]at cn
  refine AH AW (As e1 wi kN) hm cn AB AB AB AB ?_;refine⟨(i+1,_),⟨h2,λj z hj hjz=>?_⟩,by dsimp only;omega,AK⟩;rcases BA j i with h|h
  ·exact ha j z h hjz
  ·have:j=i:=by dsimp only at hj;omega
   subst this;rw[hx]at hjz;cases hjz;exact hb
 ·rw[hb]at cn
  refine AH AW (As e1 wi kN) hm cn AB AB AB AB ?_;exact AL (by rw[Tl hx hb ha]) AA.out
theorem xF (b:Bool)(l:List Au)(c:D)[pc:AA c](p:Au->Bool)(hl:l.length<=1000000)(hc:∀x∈l,AJ C0 187 [x.D,c] (Ap (p x))):AJ C0 186 [Cb b l,.clo (.func 187) [] [c]] (Ap (l.any p)):=by
 refine Ag.walk w1 ab rfl λF=>?_
 have c1:=xJ b l c p hl hc;have e1:=Tm p l;refine AH AW e1 c1 AB AB AB AB AB ?_;exact AL rfl AA.out
structure Ve where
 o:List (Int×Int)
 n:Int
 g:Nat
def Jt (lot:List UInt8)(g1 g2:Nat)(p:Ve):Hp:=Dl 609 p.g 132 2 (p.o.map Ff)++[⟨200,g2,3,1,[i64 p.n]⟩,⟨100,g1,130,1,[Ds 609 p.g 2 (p.o.map Ff)]⟩,⟨0,0,9,1,[str (sb lot)]⟩]
theorem ZA (lot:List UInt8)(g1 g2:Nat)(n:Int)(g:Nat):Jt lot g1 g2 ⟨[],n,g⟩=[⟨200,g2,3,1,[i64 n]⟩,⟨100,g1,130,1,[CP]⟩,⟨0,0,9,1,[str (sb lot)]⟩]:=rfl
theorem QL (lot:List UInt8)(g1 g2:Nat)(z:Int×Int)(o:List (Int×Int))(n:Int)(g:Nat):Jt lot g1 g2 ⟨z::o,n,g⟩=[⟨609,g,132,2,Ff z::o.map Ff⟩,⟨200,g2,3,1,[i64 n]⟩,⟨100,g1,130,1,[.osl 609 g 2 0 ((o.map Ff).length+1)]⟩,⟨0,0,9,1,[str (sb lot)]⟩]:=rfl
def O5 (lot:List UInt8)(l:List AE)(k:Nat)(p:Ve):Prop:=p.o.length<=k/\p.o++Kt lot (l.drop k) p.n=Kt lot l 0/\0<=p.n/\p.n<=(k:Int)*1000000000
theorem gM (b:Bool)(l:List AE)(lot:List UInt8)(hl:l.length<=1000000)(hx:∀x∈l,0<=x.mass/\x.mass<=1000000000/\x.shs.length<=1000000):
  AJ C0 142 [Al b l,str (sb lot)] (.sl false 2 ((Kt lot l 0).map Ff)):=by
 refine Ag.walk w1 ZY rfl λF=>?_
 have cV:=TM b false (l.map AE.D);have hT:∀x∈l.map AE.D,∃a c d,x=.agg [a,c,d]:=λx hx=>by
  obtain⟨y,-,rfl⟩:=List.mem_map.1 hx;exact⟨_,_,_,rfl⟩
 have hoA:∀k,k<l.length->∃y,y∈l/\l[k]?=some y/\(l.map AE.D)[if false then(l.map AE.D).length-1-k else k]?=some y.D:=λk hk=>⟨_,List.getElem_mem hk,BE hk,by
  show(l.map AE.D)[k]?=_;rw[A0,BE hk];rfl⟩
 unfold Al;obtain⟨T,hTT⟩:∃T,l.map AE.D=T:=⟨_,rfl⟩
 have pT:AA (.sl b 3 T):=by rw[<-hTT];exact AI
 have hTl:T.length=l.length:=by rw[<-hTT,Ac]
 rw[hTT]at cV hT hoA⊢;refine AH AW kB cV AB AB AB AB AB ?_;have h0:O5 lot l 0 ⟨[],0,0⟩:=⟨Ai _,rfl,Int.le_refl _,Int.le_refl _⟩
 refine AC.rangeFunc (fi:=185) (first:=[]) (captured:=[.pptr (.sl b 3 T),.pptr (Ap false)]) (Ψ:=λj _ H' _=>(j=none/\∃a,O5 lot l T.length a/\H'=Jt lot 2 3 a)\/(j=some (.exit 0)/\False)) rfl
  (λds H n Φ=>∃k a x,O5 lot l k a/\k<T.length/\T[if false then T.length-1-k else k]?=some x/\ds=[x]/\H=Jt lot 2 3 a/\Φ=λj H' _=>(j=none/\∃a',O5 lot l (k+1) a'/\Ci H' (Jt lot 2 3 a') H' (Jt lot 2 3 a'))\/(j=some (.exit 0)/\False)) ?_
  (λE l' R' hE hY=>U5 hE b false T hT (by omega) (λ_ a=>Jt lot 2 3 a) (O5 lot l) (.exit 0) (λ_=>False) ⟨[],0,0⟩ h0 _ λk a x n hP hk hx=>hY _ _ _ _ ⟨k,a,x,hP,hk,hx,rfl,rfl,rfl⟩) ?_
 ·rintro l' ds H n Φ ⟨k,⟨o,nn,g⟩,x,⟨p1,p2,p3,p4⟩,hk,hxT,rfl,rfl,rfl⟩
  dsimp only at p1 p2 p3 p4;obtain⟨y,hy1,hy2,hy3⟩:=hoA k (by omega);rw[hy3]at hxT;cases hxT;have hd:l.drop k=y::l.drop (k+1):=by
   have:=(List.getElem?_eq_some_iff.1 hy2)
   rw[EI this.1,this.2]
  rw[hd]at p2;have hb:=hx y hy1;have cH:=xF false y.shs (.pptr (str (sb lot))) (λs=>BI (sb s.lot) (sb lot)) hb.2.2 λs _=>xk lot s
  have hK:(y.shs.any λs=>BI (sb s.lot) (sb lot))=Qt lot y:=rfl;rw[hK]at cH;have p5:(o++(if Qt lot y then[(nn+1,nn+y.mass)]else[]))++Kt lot (l.drop (k+1)) (nn+y.mass)=Kt lot l 0:=by
   rw[<-p2,Di];rfl
  obtain⟨K,hKK⟩:∃K,Qt lot y=K:=⟨_,rfl⟩
  rw[hKK]at cH p5;have a1:IntKind.i64.wrap (nn+y.mass)=nn+y.mass:=wI (by omega) (by omega);have a2:IntKind.i64.wrap (nn+1)=nn+1:=wI (by omega) (by omega);have q1:0<=nn+y.mass/\nn+y.mass<=((k+1:Nat):Int)*1000000000:=by omega
  refine⟨rfl,λF=>?_⟩;unfold AE.D;unfold Cb at cH⊢;obtain⟨SD,hSD⟩:∃d,y.shs.map Au.D=d:=⟨_,rfl⟩
  have pS:AA (.sl false 2 SD):=by rw[<-hSD];exact AI
  rw[hSD]at cH⊢;rcases o with _|⟨z,o⟩
  ·rw[ZA]
   dsimp only[Gc];refine An w1 400 (by kernel_rfl) ?_;refine AD kB ?_;refine⟨trivial,trivial,λF'=>?_⟩;refine AH AW kB AB AB AB AB AB AB ?_;refine A9.own _ (Lw cH rfl (λi a d h1 h2=>by
    match i with
    | 0=>cases h1;cases h2;exact .refl _ _
    | 1=>cases h1;cases h2;exact .clo1 (.ptr rfl rfl rfl rfl)
    |n+2=>cases h1) AI (.prim _)) ?_
   rintro d H' n' ⟨rfl,rfl,rfl⟩;cases K
   ·refine AH AW (Ae a1 a2) AB AB AB AB AB AB ?_
    exact .inl ⟨rfl,⟨[],nn+y.mass,0⟩,⟨BS _,p5,q1⟩,.drop (Gx _)⟩
   ·refine AH AW (Ae a1 a2) AB AB AB AB AB AB ?_
    exact .inl ⟨rfl,⟨[(nn+1,nn+y.mass)],nn+y.mass,n+1+1+1+1+1+1+1+1+1+1+1+1+1+1+1⟩,⟨by simp,p5,q1⟩,.keep (.drop (Gx _))⟩
  ·have hol:o.length<=1000000:=by rw[Bp]at p1;omega
   rw[QL];dsimp only[Gc];obtain⟨O,hO⟩:∃O,o.map Ff=O:=⟨_,rfl⟩
   obtain⟨zD,hzD⟩:∃O,Ff z=O:=⟨_,rfl⟩
   have hOl:O.length=o.length:=by rw[<-hO,Ac]
   rw[hO,hzD];refine An w1 400 (by kernel_rfl) ?_;refine AD kB ?_;refine⟨trivial,trivial,λF'=>?_⟩;refine AH AW kB AB AB AB AB AB AB ?_;refine A9.own _ (Lw cH rfl (λi a d h1 h2=>by
    match i with
    | 0=>cases h1;cases h2;exact .refl _ _
    | 1=>cases h1;cases h2;exact .clo1 (.ptr rfl rfl rfl rfl)
    |n+2=>cases h1) AI (.prim _)) ?_
   rintro d H' n' ⟨rfl,rfl,rfl⟩;cases K
   ·refine AH AW (Ae a1 a2) AB AB AB AB AB AB ?_
    refine .inl ⟨rfl,⟨z::o,nn+y.mass,g⟩,⟨Nat.le_succ_of_le p1,by rw[<-p5,AF Bool.false_ne_true,DB],q1⟩,?_⟩;rw[QL,hO,hzD];exact .drop (Gx _)
   ·refine AH AW (Ae a1 a2) AB AB AB AB AB AB ?_
    rw[show List.take (O.length+1) (zD::O)=zD::O from Cf (l:=zD::O)];refine .inl ⟨rfl,⟨z::o++[(nn+1,nn+y.mass)],nn+y.mass,n+1+1+1+1+1+1+1+1+1+1+1+1+1+1+1⟩,⟨by rw[Bh];exact Nat.succ_le_succ p1,p5,q1⟩,?_⟩;have hs:∀g' a,Jt lot 2 3 ⟨z::o++[(nn+1,nn+y.mass)],a,g'⟩=[⟨609,g',132,2,zD::O++[.agg [i64 (nn+1),i64 (nn+y.mass)]]⟩,⟨200,3,3,1,[i64 a]⟩,⟨100,2,130,1,[.osl 609 g' 2 0 (O.length+1+1)]⟩,⟨0,0,9,1,[str (sb lot)]⟩]:=λg' a=>by
     rw[D5,QL,<-hO,<-hzD,Cs];rw[Bh];rfl
    rw[hs];exact .keep (.drop (Gx _))
 ·rintro j d H' n' F' hE
  rcases hE with⟨rfl,⟨o,nn,g⟩,⟨p1,p2,-⟩,rfl⟩|⟨-,h⟩
  rotate_left
  ·exact h.elim
  dsimp only at p2;rw[List.drop_eq_nil_of_le (by omega)]at p2;have ho2:o=Kt lot l 0:=by rw[<-p2];exact(DB o).symm
  rw[<-ho2];rcases o with _|⟨z,o⟩
  ·rw[ZA]
   change AC _ _ _ _ _ _ _;refine sR 800 ?_;refine Aj ?_;exact⟨_,.nil 2,AA.out,rfl⟩
  ·have hR:=GY (H:=Jt lot 2 3 ⟨z::o,nn,g⟩) (Hf:=[]) (k:=609) (g:=g) (T:=132) (sz:=2) (l:=(z::o).map Ff) rfl
   have hle:((z::o).map Ff).length=(o.map Ff).length+1:=rfl;rw[hle]at hR;rw[QL]at hR⊢;change AC _ _ _ _ _ _ _;refine sR 800 ?_;refine Aj ?_;exact⟨_,hR,AA.out,rfl⟩
theorem m7 (R:List AE)(x:AE):(Ce R x).length<=R.length+1:=by
 unfold Ce;split
 ·split
  ·rw[Bh,List.length_dropLast,GS];omega
  ·rw[Bh];exact Ai _
 ·simp
theorem o5 (l:List AE):(Bl l).length<=l.length:=by
 have:∀(l R:List AE),(l.foldl Ce R).length<=R.length+l.length:=λl=>by
  induction l with
  |nil=>exact λ_=>Ai _
  |cons x l ih=>
   intro R;have h1:=ih (Ce R x);have h2:=m7 R x;rw[List.foldl_cons,Bp];omega
 have:=this l []
 unfold Bl;simpa using this
def eE (x:BK)(i:Int):List AE:=x.cells.getD i.toNat []
theorem ML {x:BK}(h:Cu x=0):∀c∈x.cells,EM x c=0:=by
 unfold Cu at h
 by_cases h1:HL x=0
 ·rw[AF (λq=>q h1)]at h
  by_cases h2:EZ x x.cells=0
  ·exact SO h2
  ·rw[AG h2]at h;exact Ah h h2
 ·rw[AG h1]at h;exact Ah h h1
theorem Tx {x:BK}{i:Int}(h:Eb x [i]=0):Cu x=0/\0<=i/\i<(x.cells.length:Int):=by
 unfold Eb at h
 by_cases h1:Cu x=0
 ·rw[AF (λq=>q h1)]at h
  refine⟨h1,?_⟩;cases hb:IX x i
  ·simp[hb]at h
  ·unfold IX Cr at hb
   rw[BP,decide_eq_true_iff,decide_eq_true_iff]at hb;omega
 ·rw[AG h1]at h;exact Ah h h1
structure bo (x:BK)(i:Int)(l:List AE):Prop where
 cel:∀c∈x.cells,EM x c=0
 lt:i.toNat<x.cells.length
 ii:i=(i.toNat:Int)
 par:B3 l=0
 at_:x.cells[i.toNat]?=some (eE x i)
 bin:Cu x=0
theorem dh:∀ {l R:List AE} {k:Nat},Re k R->(∀x∈l,0<=x.mass/\x.mass<=1000000000/\x.shs.length<=1000000)->Re (k+l.length) (l.foldl Ce R)
 | [],_,_,h,_=>h
 |x::l,R,k,h,hx=>by
  have h1:=dh (XK h (hx x (CM ..))) λy hy=>hx y (CQ _ hy)
  rw[List.foldl_cons,Bp,show k+(l.length+1)=k+1+l.length by omega];exact h1
theorem xP {l:List AE}(hx:∀x∈l,0<=x.mass/\x.mass<=1000000000/\x.shs.length<=1000000):(Bl l).length<=l.length/\∀y∈Bl l,0<=y.mass/\y.mass<=(l.length:Int)*1000000000/\y.shs.length<=1000000:=by
 have:=dh (l:=l) (R:=[]) (k:=0) ⟨Ai _,λy h=>by cases h⟩ hx
 rw[BR]at this;exact this
theorem N9 (a b:List AE):Aq (a++b)=Aq a+Aq b:=by
 unfold Aq;rw[Cs,List.sum_append]
theorem m8 (R:List AE)(x:AE):Aq (Ce R x)=Aq R+x.mass:=by
 unfold Ce;split
 ·rename_i y hy
  have hR:R=R.dropLast++[y]:=by
   have hne:R≠[]:=λh=>by rw[h]at hy;cases hy
   have:=List.getLast?_eq_some_getLast hne
   rw[this]at hy;cases hy;exact(List.dropLast_concat_getLast hne).symm
  split
  ·rw[N9]
   conv=>rhs;rw[hR,N9]
   unfold Aq AE.w;simp;omega
  ·rw[N9];unfold Aq;simp
 ·rename_i hy
  have:R=[]:=List.getLast?_eq_none_iff.1 hy
  rw[this];unfold Aq;simp
theorem TX (l:List AE):Aq (Bl l)=Aq l:=by
 have:∀(l R:List AE),Aq (l.foldl Ce R)=Aq R+Aq l:=λl=>by
  induction l with
  |nil=>intro R;unfold Aq;simp
  |cons x l ih=>
   intro R;rw[List.foldl_cons,ih,m8];unfold Aq;simp;omega
 have h:=this l [];rw[show Aq ([]:List AE)=0 from rfl,Int.zero_add]at h;exact h
theorem XL {l:List AE}(h1:∀x∈l,1<=x.mass/\x.mass<=1000000000/\x.shs.length<=1000000)(h2:l.length<=1000000)(h3:Aq l<=1000000000):H7 (Bl l)/\0<=Aq (Bl l)/\Aq (Bl l)=Aq l:=by
 have h0:∀x∈l,0<=x.mass/\x.mass<=1000000000/\x.shs.length<=1000000:=λx hx=>⟨by have:=(h1 x hx).1;omega,(h1 x hx).2⟩
 obtain⟨b1,b2⟩:=xP h0;have b3:=TX l;refine⟨⟨by omega,λy hy=>?_⟩,?_,b3⟩
 ·have hy0:=(b2 y hy).1
  have:y.mass<=Aq (Bl l):=by
   obtain⟨A,B,hAB⟩:=Ey hy;rw[hAB,N9,show Aq (y::B)=y.mass+Aq B from rfl];have p1:=LI (l:=A) λz hz=>(b2 z (by rw[hAB];exact HF _ hz)).1
   have p2:=LI (l:=B) λz hz=>(b2 z (by rw[hAB];exact List.mem_append_right _ (CQ _ hz))).1
   omega
  omega
 ·exact LI λz hz=>(b2 z hz).1
theorem P7 {x:BK}(h:Cu x=0):0<=x.side/\x.side<=999999999/\x.room<=999999999/\x.cells.length<=8:=by
 have h1:HL x=0:=by
  unfold Cu at h
  by_cases h1:HL x=0
  ·exact h1
  ·rw[AG h1]at h;exact Ah h h1
 rw[UH]at h1;split at h1
 ·cases h1
 split at h1
 ·cases h1
 rename_i hr;split at h1
 ·cases h1
 split at h1
 ·cases h1
 rename_i hn;unfold Kl at hr;simp only[Jl,GP,not_or]at hr;obtain⟨⟨⟨⟨-,-⟩,h3⟩,h4⟩,h5⟩:=hr;omega
theorem XZ:∀ {S T:List Au},FT S T=true↔S=T
 | [],[]=>by simp[FT]
 | [],_::_=>by simp[FT]
 |_::_,[]=>by simp[FT]
 |s::S,t::T=>by
  show(GJ s t&&FT S T)=true↔_;rw[BP,XZ (S:=S) (T:=T)];unfold GJ;rw[BP,N8,N8,decide_eq_true_iff,decide_eq_true_iff];obtain⟨a,b⟩:=s;obtain⟨c,d⟩:=t;simp
theorem mP (x y:AE):Fj x y=true↔x.grain=y.grain/\x.shs=y.shs:=by
 unfold Fj;rw[BP,N8,decide_eq_true_iff,XZ]
theorem y9 {x y:AE}(hg:x.grain=y.grain)(hs:x.shs=y.shs)(m:Int):x.w m=y.w m:=by unfold AE.w;rw[hg,hs]
theorem zY (x:AE)(a b:Int):(x.w a).w b=x.w b:=rfl
theorem ua (x:AE):x.w x.mass=x:=rfl
theorem MZ {x y:AE}:Fj x y=true↔∀m,x.w m=y.w m:=by
 rw[mP];constructor
 ·rintro⟨a,b⟩ m;exact y9 a b m
 ·intro h
  have h0:=h 0;unfold AE.w at h0;injection h0 with a b c;exact⟨a,c⟩
def BX (l:List AE):List AE:=l.flatMap λx=>List.replicate x.mass.toNat (x.w 1)
theorem UY:BX []=[]:=rfl
theorem Il (x:AE)(l:List AE):BX (x::l)=List.replicate x.mass.toNat (x.w 1)++BX l:=rfl
theorem KP (a b:List AE):BX (a++b)=BX a++BX b:=List.flatMap_append
theorem OW (x:AE):BX [x]=List.replicate x.mass.toNat (x.w 1):=by rw[Il,UY,DB]
theorem ur:∀l:List AE,BX l.reverse=(BX l).reverse
 | []=>rfl
 |x::l=>by rw[List.reverse_cons,KP,ur l,OW,Il,List.reverse_append,List.reverse_replicate]
theorem Q1:∀ {l:List AE},(∀x∈l,0<=x.mass)->((BX l).length:Int)=Aq l
 | [],_=>rfl
 |x::l,h=>by
  have h1:=h x (CM ..);have h2:=Q1 (l:=l) λy hy=>h y (CQ _ hy)
  rw[Il,Bh,Hl,show Aq (x::l)=x.mass+Aq l from rfl];omega
theorem UX {l:List AE}:∀y∈BX l,∃x∈l,y=x.w 1/\0<x.mass:=λy hy=>by
 unfold BX at hy;obtain⟨x,hx,h⟩:=List.mem_flatMap.1 hy;obtain⟨h1,h2⟩:=List.mem_replicate.1 h;exact⟨x,hx,h2,by omega⟩
theorem o4 {R:List AE}{x:AE}(hR:∀y∈R,0<=y.mass)(hx:0<=x.mass):BX (Ce R x)=BX R++BX [x]:=by
 unfold Ce;split
 ·rename_i y hy
  have hR':R=R.dropLast++[y]:=by
   have hne:R≠[]:=λh=>by rw[h]at hy;cases hy
   have:=List.getLast?_eq_some_getLast hne
   rw[this]at hy;cases hy;exact(List.dropLast_concat_getLast hne).symm
  split
  ·rename_i hl
   have e:=MZ.1 hl 1;have hy0:=hR y (List.mem_of_getLast? hy)
   conv=>rhs;rw[hR']
   rw[KP,KP,OW,OW,OW,Di];show _++List.replicate (y.mass+x.mass).toNat (y.w 1)=_;rw[<-e,List.replicate_append_replicate,show(y.mass+x.mass).toNat=y.mass.toNat+x.mass.toNat by omega]
  ·rw[KP]
 ·rename_i hy
  rw[List.getLast?_eq_none_iff.1 hy];rfl
theorem oZ {R:List AE}{x:AE}(hR:∀y∈R,0<=y.mass)(hx:0<=x.mass):∀y∈Ce R x,0<=y.mass:=by
 unfold Ce;split
 ·rename_i z hz
  have hz0:=hR z (List.mem_of_getLast? hz);split
  ·intro y hy
   rcases List.mem_append.1 hy with h|h
   ·exact hR y ((List.dropLast_sublist R).subset h)
   ·obtain rfl:=List.mem_singleton.1 h
    show 0<=z.mass+x.mass;omega
  ·intro y hy
   rcases List.mem_append.1 hy with h|h
   ·exact hR y h
   ·obtain rfl:=List.mem_singleton.1 h;exact hx
 ·intro y hy
  obtain rfl:=List.mem_singleton.1 hy;exact hx
theorem bX {l:List AE}(h:∀x∈l,0<=x.mass):BX (Bl l)=BX l:=by
 have:∀(l R:List AE),(∀x∈l,0<=x.mass)->(∀y∈R,0<=y.mass)->BX (l.foldl Ce R)=BX R++BX l:=λl=>by
  induction l with
  |nil=>intro R _ _;simp[UY]
  |cons x l ih=>
   intro R hl hR;have hx:=hl x (CM ..);rw[List.foldl_cons,ih _ (λy hy=>hl y (CQ _ hy)) (oZ hR hx),o4 hR hx,Di,<-KP];rfl
 exact this l [] h λy hy=>by cases hy
theorem di:∀l:List AE,BX (NW l)=BX l
 | []=>rfl
 |x::l=>by
  have ih:=di l;unfold NW at ih⊢;rw[List.filter_cons];split
  ·rw[Il,Il,ih]
  ·rename_i h
   have h0:x.mass=0:=by simpa using h
   rw[Il,ih,h0];rfl
theorem jy (R:List AE)(x:AE)(m:Int):Ce (Ce R (x.w m)) (x.w 1)=Ce R (x.w (m+1)):=by
 have key:∀(A:List AE) (z:AE),Fj z (x.w 1)=true->Ce (A++[z]) (x.w 1)=A++[z.w (z.mass+1)]:=λA z hz=>by
  unfold Ce;rw[List.getLast?_append];show(if Fj z (x.w 1)=true then _ else _)=_;rw[AG hz,List.dropLast_concat];rfl
 have hlx:∀a b:Int,Fj (x.w a) (x.w b)=true:=λa b=>MZ.2 λm=>rfl
 cases hR:R.getLast? with
 |none=>
  have:R=[]:=List.getLast?_eq_none_iff.1 hR
  subst this;exact key [] (x.w m) (hlx _ _)
 |some y=>
  have e:∀a:Int,Ce R (x.w a)=if Fj y (x.w a)then R.dropLast++[y.w (y.mass+a)]else R++[x.w a]:=λa=>by
   unfold Ce;rw[hR];rfl
  have hb:∀a b:Int,Fj y (x.w a)=Fj y (x.w b):=λa b=>by
   rw[FW,MZ,MZ];exact Iff.rfl
  rw[e m,e (m+1),hb m 1,hb (m+1) 1]
  by_cases h:Fj y (x.w 1)=true
  ·rw[AG h,AG h,key _ _ (MZ.2 λk=>(zY y _ k).trans (MZ.1 h k))]
   show _++[y.w (y.mass+m+1)]=_;rw[Int.add_assoc]
  ·rw[AF h,AF h,key _ _ (hlx _ _)];rfl
theorem Yw (x:AE):∀(n:Nat) (R:List AE),(List.replicate (n+1) (x.w 1)).foldl Ce R=Ce R (x.w ((n:Int)+1))
 | 0,R=>rfl
 |n+1,R=>by
  rw[List.replicate_succ',List.foldl_append,Yw x n R];exact jy R x _
theorem UR {l:List AE}(h:∀x∈l,1<=x.mass):Bl (BX l)=Bl l:=by
 have:∀(l R:List AE),(∀x∈l,1<=x.mass)->(BX l).foldl Ce R=l.foldl Ce R:=λl=>by
  induction l with
  |nil=>intro R _;rfl
  |cons x l ih=>
   intro R hl;have hx:=hl x (CM ..);rw[Il,List.foldl_append,show x.mass.toNat=(x.mass.toNat-1)+1 by omega,Yw,List.foldl_cons,ih _ λy hy=>hl y (CQ _ hy)];rw[show(((x.mass.toNat-1:Nat):Int)+1)=x.mass by omega,ua]
 exact this l [] h
theorem uZ {l:List AE}(h:∀x∈l,0<=x.mass):Bl (NW l)=Bl (BX l):=by
 rw[<-di l];refine(UR λx hx=>?_).symm;unfold NW at hx;obtain⟨h1,h2⟩:=List.mem_filter.1 hx
 have:=h x h1
 have:x.mass≠0:=by simpa using h2
 omega
theorem uX {a b:List AE}(ha:∀x∈a,1<=x.mass)(hb:∀x∈b,1<=x.mass)(h:BX a=BX b):Bl a=Bl b:=by rw[<-UR ha,<-UR hb,h]
theorem bx:∀ {l:List AE} {low left:Int},(∀x∈l,0<=x.mass)->0<=low->0<=left->BX (GM l low left)=((BX l).drop low.toNat).take left.toNat
 | [],low,left,_,_,_=>by rw[UY,List.drop_nil,List.take_nil];rfl
 |x::r,low,left,h,h0,h5=>by
  have h1:=h x (CM ..);have h2:∀y∈r,0<=y.mass:=λy hy=>h y (CQ _ hy)
  show BX (x.w (min (x.mass-min x.mass low) left)::GM r (low-min x.mass low) (left-min (x.mass-min x.mass low) left))=_;rw[Il,Il,bx h2 (by omega) (by omega),List.drop_append,List.drop_replicate,Hl,List.take_append,List.take_replicate,Hl];show List.replicate (min (x.mass-min x.mass low) left).toNat (x.w 1)++_=_;rw[show(min (x.mass-min x.mass low) left).toNat=min left.toNat (x.mass.toNat-low.toNat) by omega,show(low-min x.mass low).toNat=low.toNat-x.mass.toNat by omega,
   show(left-min (x.mass-min x.mass low) left).toNat=left.toNat-(x.mass.toNat-low.toNat) by omega]
theorem pI {l:List AE}{i:Nat}{x:AE}(h:l[i]?=some x):BX (l.take (i+1))=BX (l.take i)++List.replicate x.mass.toNat (x.w 1):=by
 rw[DW,h,KP];show _++BX [x]=_;rw[OW]
theorem TK:∀ {l:List AE},(∀x∈l,0<=x.mass/\x.mass<=100000)->(BX l).length<=l.length*100000
 | [],_=>Ai _
 |x::l,h=>by
  have h1:=h x (CM ..);have h2:=TK (l:=l) λy hy=>h y (CQ _ hy)
  rw[Il,Bh,Hl,Bp];omega
theorem bc (b:Bool)(l:List AE)(hl:l.length<=1000)(hx:∀x∈l,0<=x.mass/\x.mass<=100000):AJ C0 133 [Al b l] (Al false (BX l)):=by
 refine Ag.walk w1 rV rfl λF=>?_
 have el:(((l.map AE.D).length:Nat):Int)=(l.length:Int):=by rw[Ac]
 refine AH AW el AB AB AB AB AB AB ?_;refine AC.ghost 1003 27 3 [(0,Al b l),(3,.osl 1003 _ 3 0 0),(4,i64 ((0:Nat):Int))] ⟨.inl rfl,.inr ⟨rfl,rfl⟩,.inl rfl,trivial⟩ ?_;refine AC.loop (α:=Nat×Nat×Nat) (λp=>⟨[(0,Al b l),(3,.osl 1003 p.2.1 3 0 (BX (l.take p.1)).length),(4,i64 (p.1:Int))],[⟨1003,p.2.1,27,3,(BX (l.take p.1)).map AE.D⟩],p.2.2⟩) (λp=>l.length-p.1) (λq=>q.1<=l.length) (0,_,_) (BS _) AK ?_;rintro⟨i,g,n⟩ F hi;dsimp only at hi⊢;rcases BA i l.length with h2|h2
 rotate_left
 ·have e1:=Cg h2
  have:i=l.length:=by omega
  subst this;rw[Cf];have hf:=GY (H:=[⟨1003,g,27,3,(BX l).map AE.D⟩]) (Hf:=[]) (k:=1003) (g:=g) (T:=27) (sz:=3) (l:=(BX l).map AE.D) rfl;rw[Ac]at hf;refine AH AW (Ae e1 el) AB AB AB AB AB AB ?_;exact⟨_,hf,AA.out,rfl⟩
 have e1:=Ch h2;have wi:=CZ (i:=i) (by omega);obtain⟨x,hxi⟩:=CL h2;obtain⟨x1,x2⟩:=hx x (Ax hxi);have hm:(l.map AE.D)[i]?=some (.agg [str (sb x.grain),i64 x.mass,.sl false 2 (x.shs.map Au.D)]):=by rw[A0,hxi];rfl
 have hU:=pI hxi;have hb0:=TK (l:=l.take i) λy hy=>hx y (List.take_subset _ _ hy)
 rw[Bb]at hb0;obtain⟨R,hR⟩:∃R,BX (l.take i)=R:=⟨_,rfl⟩
 rw[hR]at hU hb0⊢;have hRl:R.length<=100000000:=by omega
 refine AH AW (Ae e1 el) AB AB AB AB AB AB ?_;refine AC.loop (α:=Nat×Nat×Nat) (λp=>⟨[(0,Al b l),(3,.osl 1003 p.2.1 3 0 (R++List.replicate p.1 (x.w 1)).length),(4,i64 (i:Int)),(5,i64 (p.1:Int))],[⟨1003,p.2.1,27,3,(R++List.replicate p.1 (x.w 1)).map AE.D⟩],p.2.2⟩) (λp=>x.mass.toNat-p.1) (λq=>q.1<=x.mass.toNat) (0,g,_) (BS _) (by rw[show R++List.replicate 0 (x.w 1)=R from DB R];exact AK) ?_;rintro⟨k,g2,n2⟩ F hk;dsimp only at hk⊢;rcases BA k x.mass.toNat with h3|h3
 rotate_left
 ·have e2:decide ((k:Int)<x.mass)=false:=Ad (by omega)
  have:k=x.mass.toNat:=by omega
  subst this;rw[<-hU];refine AH AW (As e2 wi kN) hm AB AB AB AB AB ?_;exact⟨(i+1,g2,n2+1000),h2,by dsimp only;omega,AK⟩
 have e2:decide ((k:Int)<x.mass)=true:=AX (by omega);have wk:=CZ (i:=k) (by omega);have hl2:(R++List.replicate k (x.w 1)).length=R.length+k:=by rw[Bh,Hl]
 have hR2:(R++List.replicate (k+1) (x.w 1)).map AE.D=(R++List.replicate k (x.w 1)).map AE.D++[.agg [str (sb x.grain),i64 1,.sl false 2 (x.shs.map Au.D)]]:=by
  rw[List.replicate_succ',<-Di,Cs];rfl
 have hl3:(R++List.replicate (k+1) (x.w 1)).length=R.length+k+1:=by rw[Bh,Hl];omega
 obtain⟨RD,hRD⟩:∃T,(R++List.replicate k (x.w 1)).map AE.D=T:=⟨_,rfl⟩
 have hRDl:RD.length=R.length+k:=by rw[<-hRD,Ac,hl2]
 rw[hl2,hRD];rw[hRD]at hR2;have htk:RD.take (R.length+k)=RD:=by rw[<-hRDl];exact Cf
 refine AH AW (BV e2 wk htk kN) hm AB AB AB AB AB ?_;refine⟨(k+1,?g,n2+1000),h3,by dsimp only;omega,?_⟩
 rotate_left
 ·dsimp only
  rw[hl3,hR2];exact AK
def CO (bot:Nat->Bool)(n:Nat):Nat->Nat
 | 0=>0
 |j+1=>CO bot n j+if bot (n-j)then 1 else 0
def Gi (bot:Nat->Bool)(U:List AE):Nat->List AE
 | 0=>[]
 |j+1=>Gi bot U j++[U.getD (if bot (U.length-j)then CO bot U.length j else CO bot U.length j+(U.length-j)-1) ⟨[],0,[]⟩]
def Gg (bot:Nat->Bool)(n:Nat):Nat->List Bool
 | 0=>[]
 |j+1=>Gg bot n j++[bot (n-j)]
theorem Q9 (bot:Nat->Bool)(n j:Nat):CO bot n (j+1)=CO bot n j+if bot (n-j)then 1 else 0:=rfl
theorem JH (bot:Nat->Bool)(n:Nat):∀j,CO bot n j<=j
 | 0=>Ai _
 |j+1=>by have:=JH bot n j;unfold CO;split<;>omega
theorem N5 (bot:Nat->Bool)(U:List AE):∀j,(Gi bot U j).length=j
 | 0=>rfl
 |j+1=>by unfold Gi;rw[Bh,N5 bot U j];rfl
theorem N0 (bot:Nat->Bool)(n:Nat):∀j,(Gg bot n j).length=j
 | 0=>rfl
 |j+1=>by unfold Gg;rw[Bh,N0 bot n j];rfl
theorem o6 (bot:Nat->Bool)(U:List AE){j m:Nat}(h:j<m):(Gi bot U m)[j]?=some (U.getD (if bot (U.length-j)then CO bot U.length j else CO bot U.length j+(U.length-j)-1) ⟨[],0,[]⟩):=by
 induction m with
 |zero=>omega
 |succ m ih=>
  unfold Gi;rcases BA j m with h1|h1
  ·rw[FY (by rw[N5];exact h1),ih h1]
  ·have:j=m:=by omega
   subst this;rw[Ed (by rw[N5];omega),N5,Nat.sub_self];rfl
theorem oN (bot:Nat->Bool)(n:Nat){j m:Nat}(h:j<m):(Gg bot n m)[j]?=some (bot (n-j)):=by
 induction m with
 |zero=>omega
 |succ m ih=>
  unfold Gg;rcases BA j m with h1|h1
  ·rw[FY (by rw[N0];exact h1),ih h1]
  ·have:j=m:=by omega
   subst this;rw[Ed (by rw[N0];omega),N0,Nat.sub_self];rfl
def Ep (bot:Nat->Bool)(U:List AE)(j:Nat):List AE:=(U.drop (CO bot U.length j)).take (U.length-j)
theorem S6 (bot:Nat->Bool)(U:List AE)(j:Nat):(Ep bot U j).length=U.length-j:=by
 have:=JH bot U.length j
 unfold Ep;rw[Bb,Dc];omega
theorem jY (bot:Nat->Bool)(U:List AE):Ep bot U 0=U:=by
 unfold Ep;exact Cf
theorem mM {bot:Nat->Bool}{U:List AE}{j:Nat}(_:j<U.length)(hb:bot (U.length-j)=true):Ep bot U (j+1)=(Ep bot U j).drop 1:=by
 unfold Ep;rw[Q9,AG hb,List.drop_take,List.drop_drop,show U.length-j-1=U.length-(j+1) by omega]
theorem jW {bot:Nat->Bool}{U:List AE}{j:Nat}(h:j<U.length)(hb:bot (U.length-j)=false):Ep bot U (j+1)=(Ep bot U j).take (U.length-j-1):=by
 unfold Ep;rw[Q9,AF (by rw[hb];exact Bool.false_ne_true),List.take_take,show min (U.length-j-1) (U.length-j)=U.length-(j+1) by omega];rfl
theorem ip {bot:Nat->Bool}{U:List AE}{j:Nat}(h:j<U.length):(Ep bot U j)[0]?=some (U.getD (CO bot U.length j) ⟨[],0,[]⟩):=by
 have:=JH bot U.length j
 unfold Ep;rw[List.getElem?_take_of_lt (by omega),GO,DR,BE (by omega),Da,BE (by omega)];rfl
theorem jX {bot:Nat->Bool}{U:List AE}{j:Nat}(h:j<U.length):(Ep bot U j)[U.length-j-1]?=some (U.getD (CO bot U.length j+(U.length-j)-1) ⟨[],0,[]⟩):=by
 have:=JH bot U.length j
 unfold Ep;rw[List.getElem?_take_of_lt (by omega),GO,Da,show CO bot U.length j+(U.length-j-1)=CO bot U.length j+(U.length-j)-1 by omega,BE (by omega)];rfl
theorem uo {bot:Nat->Bool}{U:List AE}{j:Nat}(h:j<U.length)(hb:bot (U.length-j)=true):U.take (CO bot U.length (j+1))=U.take (CO bot U.length j)++[U.getD (CO bot U.length j) ⟨[],0,[]⟩]:=by
 have:=JH bot U.length j
 rw[Q9,AG hb,DW,Da,BE (show CO bot U.length j<U.length by omega)];rfl
theorem oz {bot:Nat->Bool}{U:List AE}{j:Nat}(h:j<U.length)(hb:bot (U.length-j)=false):U.reverse.take (j+1-CO bot U.length (j+1))=U.reverse.take (j-CO bot U.length j)++[U.getD (CO bot U.length j+(U.length-j)-1) ⟨[],0,[]⟩]:=by
 have:=JH bot U.length j
 have e:CO bot U.length (j+1)=CO bot U.length j:=by show CO bot U.length j+_=_;rw[AF (by rw[hb];exact Bool.false_ne_true)];rfl
 rw[e,show j+1-CO bot U.length j=(j-CO bot U.length j)+1 by omega,DW,List.getElem?_reverse (by omega),Da,
  show U.length-1-(j-CO bot U.length j)=CO bot U.length j+(U.length-j)-1 by omega,BE (show CO bot U.length j+(U.length-j)-1<U.length by omega)];rfl
def KZ (x:BK)(k:Nat):Bool:=BI (sb x.flow) F7||decide (k%x.core.toNat=0)
def Ma (x:BK):Prop:=BI (sb x.flow) F7=true\/2<=x.core/\x.core<=999999999
theorem kf {T:List D}:(T.drop (1:Int).toNat).take (T.length-(1:Int).toNat)=T.drop 1:=by
 rw[show(1:Int).toNat=1 from rfl,B7 (by rw[Dc];exact Ai _)]
theorem nu (x:BK)(k:Nat)(hk:k<=1000000000)(hf:Ma x):AJ C0 180 [x.D,i64 (k:Int)] (Ap (KZ x k)):=by
 refine Ag.walk w1 qf rfl λF=>?_
 have hb:KZ x k=(BI (sb x.flow) F7||decide (k%x.core.toNat=0)):=rfl;rw[hb];unfold F7 at hb⊢;unfold Ma F7 at hf;unfold BK.D;cases hm:BI (sb x.flow) ⟨#[109,97,115,115]⟩
 rotate_left
 ·refine AH AW (As hm kT kF) AB AB AB AB AB AB ?_
  exact AL rfl AA.out
 obtain⟨h2,h3⟩:2<=x.core/\x.core<=999999999:=by
  rcases hf with h|h
  ·rw[hm]at h;cases h
  ·exact h
 obtain⟨c,hc⟩:∃c:Nat,x.core=(c:Int):=⟨x.core.toNat,by omega⟩
 rw[hc]at h2 h3⊢;have q0:((c:Int)==0)=false:=Bu.2 (by omega);have q1:((k:Int)).tmod (c:Int)=((k%c:Nat):Int):=rfl;have hlt:k%c<c:=B0 _ (by omega);have q3:IntKind.i64.wrap ((k%c:Nat):Int)=((k%c:Nat):Int):=wI (by omega) (by omega);have q2:(((k%c:Nat):Int)==0)=decide (k%c=0):=by
  by_cases h:k%c=0
  ·rw[h];rfl
  ·rw[Ad h];exact Bu.2 (by omega)
 rw[Lx];refine AH AW (Dj hm q1 q3 q2 kT kF) AB AB AB AB AB AB ?_;exact AL (by rw[Bool.false_or]) AA.out
theorem ud (x:BK)(i:Nat)(c:List AE)(hc:x.cells[i]?=some c)(hcl:x.cells.length<=1000000)(hl:c.length<=1000)(hx:∀y∈c,0<=y.mass/\y.mass<=100000)(hf:Ma x):
  AJ C0 132 [x.D,i64 (i:Int)] (.tup [Al false (Gi (KZ x) (BX c) (BX c).length),.sl false 1 ((Gg (KZ x) (BX c).length (BX c).length).map Ap)]):=by
 refine Ag.walk w1 rU rfl λF=>?_
 have cU:=bc false c hl hx;have hUl:=TK hx;have cB:=λk hk=>nu x k hk hf
 obtain⟨bot,hbot⟩:∃b,KZ x=b:=⟨_,rfl⟩
 rw[hbot]at cB⊢;obtain⟨U,hU⟩:∃U,BX c=U:=⟨_,rfl⟩
 rw[hU]at cU hUl⊢;have hat:(x.cells.map (Al false))[i]?=some (.sl false 3 (c.map AE.D)):=by rw[A0,hc];rfl
 have el:(((x.cells.map (Al false)).length:Nat):Int)=(x.cells.length:Int):=by rw[Ac]
 have hi:=(List.getElem?_eq_some_iff.1 hc).1;have px:AA x.D:=AI;have px2:AT x.D:=AI;have hB0:x.D=.agg [str (sb x.flow),i64 x.core,i64 x.room,i64 x.side,.sl false 1 (x.cells.map (Al false))]:=rfl;rw[hB0]at cB px px2⊢;have fin:AA (.tup [Al false (Gi bot U U.length),.sl false 1 ((Gg bot U.length U.length).map Ap)]):=AI;refine AH AW (Ae el kN) hat cU AB AB AB AB ?_;refine AC.ghost 705 27 3 [(2,.optr 0 0 5 0 0),(6,Al false U),(7,.osl 705 _ 3 0 0),(8,CP)] ⟨.inl rfl,.inl rfl,.inr ⟨rfl,rfl⟩,.inl rfl,trivial⟩ ?_;refine AC.ghost 902 4 1 [(2,.optr 0 0 5 0 0),(6,Al false U),(7,.osl 705 _ 3 0 0),(8,.osl 902 _ 1 0 0)] ⟨.inl rfl,.inl rfl,.inl rfl,.inr ⟨rfl,rfl⟩,trivial⟩ ?_;refine AC.loop (α:=Nat×Bool×Nat×Nat×Nat) (λp=>⟨[(2,.optr 0 0 5 0 0),(6,Al false (Ep bot U p.1)),(7,.osl (if p.2.1 then 705 else 1007) p.2.2.1 3 0 p.1),(8,.osl (if p.2.1 then 902 else 1202) p.2.2.2.1 1 0 p.1)],
   [⟨if p.2.1 then 902 else 1202,p.2.2.2.1,4,1,(Gg bot U.length p.1).map Ap⟩,⟨if p.2.1 then 705 else 1007,p.2.2.1,27,3,(Gi bot U p.1).map AE.D⟩,⟨0,0,48,5,[.agg [str (sb x.flow),i64 x.core,i64 x.room,i64 x.side,.sl false 1 (x.cells.map (Al false))]]⟩],p.2.2.2.2⟩)
  (λp=>U.length-p.1) (λq=>q.1<=U.length) (0,true,_,_,_) (BS _) (by rw[jY];exact AK) ?_
 rintro⟨j,last,g1,g2,n⟩ F hj;dsimp only at hj⊢;have hoL:=N5 bot U j;have hlL:=N0 bot U.length j;rcases BA j U.length with h2|h2
 rotate_left
 ·have:j=U.length:=by omega
  subst this;have hll:((((Ep bot U U.length).map AE.D).length:Nat):Int)=0:=by rw[Ac,S6];omega
  have k0:decide ((0:Int)>0)=false:=rfl;cases last
  all_goals
   simp only[if_true,Ex,if_false];refine AH AW (Ae hll k0) AB AB AB AB AB AB ?_;exact⟨_,Hy (LU rfl rfl (by rw[Ac,hoL])) (LU rfl rfl (by rw[Ac,hlL])),fin.out,rfl⟩
 have hll:((((Ep bot U j).map AE.D).length:Nat):Int)=((U.length-j:Nat):Int):=by rw[Ac,S6]
 have k1:decide (((U.length-j:Nat):Int)>0)=true:=AX (by omega);have cb:=cB (U.length-j) (by omega);have hF:=ip (bot:=bot) h2;have hG:=jX (bot:=bot) h2;have hlo:=@mM bot U j h2;have hhi:=@jW bot U j h2;have hOn:Gi bot U (j+1)=Gi bot U j++[U.getD (if bot (U.length-j)then CO bot U.length j else CO bot U.length j+(U.length-j)-1) ⟨[],0,[]⟩]:=rfl;have hLn:Gg bot U.length (j+1)=Gg bot U.length j++[bot (U.length-j)]:=rfl;have hLl:=S6 bot U j;obtain⟨L2,hL2⟩:∃L,Ep bot U (j+1)=L:=⟨_,rfl⟩
 rw[hL2]at hlo hhi;obtain⟨LF,hLF⟩:∃L,Ep bot U j=L:=⟨_,rfl⟩
 rw[hLF]at hll hF hG hlo hhi hLl⊢;have hlo':bot (U.length-j)=true->(LF.map AE.D).drop 1=L2.map AE.D:=λh=>by rw[hlo h,List.map_drop]
 have hhi':bot (U.length-j)=false->(LF.map AE.D).take (U.length-j-1)=L2.map AE.D:=λh=>by rw[hhi h,NN]
 have hFm:(LF.map AE.D)[0]?=some (U.getD (CO bot U.length j) ⟨[],0,[]⟩).D:=by rw[A0,hF];rfl
 have hGm:(LF.map AE.D)[U.length-j-1]?=some (U.getD (CO bot U.length j+(U.length-j)-1) ⟨[],0,[]⟩).D:=by rw[A0,hG];rfl
 obtain⟨LD,hLD⟩:∃T,LF.map AE.D=T:=⟨_,rfl⟩
 have pLD:AA (.sl false 3 LD):=by rw[<-hLD];exact AI
 have hLDl:LD.length=U.length-j:=by rw[<-hLD,Ac,hLl]
 have hlys:Al false LF=.sl false 3 LD:=by rw[<-hLD]
 rw[hLD]at hll hlo' hhi' hFm hGm;rw[hlys];have hOD:(Gi bot U (j+1)).map AE.D=(Gi bot U j).map AE.D++[(U.getD (if bot (U.length-j)then CO bot U.length j else CO bot U.length j+(U.length-j)-1) ⟨[],0,[]⟩).D]:=by rw[hOn,Cs];rfl
 have hLoD:(Gg bot U.length (j+1)).map Ap=(Gg bot U.length j).map Ap++[Ap (bot (U.length-j))]:=by rw[hLn,Cs];rfl
 obtain⟨OD,hODe⟩:∃T,(Gi bot U j).map AE.D=T:=⟨_,rfl⟩
 have hODl:OD.length=j:=by rw[<-hODe,Ac,hoL]
 obtain⟨BD,hBDe⟩:∃T,(Gg bot U.length j).map Ap=T:=⟨_,rfl⟩
 have hBDl:BD.length=j:=by rw[<-hBDe,Ac,hlL]
 rw[hODe]at hOD⊢;rw[hBDe]at hLoD⊢;have t1:OD.take j=OD:=by rw[<-hODl];exact Cf
 have t2:BD.take j=BD:=by rw[<-hBDl];exact Cf
 cases hb:bot (U.length-j)
 ·rw[hb]at cb hOD hLoD
  rw[AF (by decide)]at hOD;have hhi':=hhi' hb;have wn:IntKind.i64.wrap (((U.length-j:Nat):Int)-1)=((U.length-j-1:Nat):Int):=by rw[wI (by omega) (by omega)];omega
  obtain⟨Y,hY⟩:∃Y,U.getD (CO bot U.length j+(U.length-j)-1) ⟨[],0,[]⟩=Y:=⟨_,rfl⟩
  rw[hY]at hGm hOD;rw[show Y.D=.agg [str (sb Y.grain),i64 Y.mass,Cb false Y.shs]from rfl]at hGm hOD;cases last
  all_goals
   simp only[if_true,Ex,if_false];refine AH AW (CJ hll k1 wn kN Nat.sub_zero (@FG D) (As hhi' t1 t2)) cb hGm AB AB AB AB ?_;refine⟨(j+1,false,?ga,?gb,n+1000),h2,by dsimp only;omega,?_⟩
   rotate_left 2
   ·dsimp only
    simp only[Ex,if_false];rw[hL2,hOD,hLoD];exact AK
 ·rw[hb]at cb hOD hLoD
  rw[AG rfl]at hOD;have hlo':=hlo' hb;obtain⟨Y,hY⟩:∃Y,U.getD (CO bot U.length j) ⟨[],0,[]⟩=Y:=⟨_,rfl⟩
  rw[hY]at hFm hOD;rw[show Y.D=.agg [str (sb Y.grain),i64 Y.mass,Cb false Y.shs]from rfl]at hFm hOD;have hs:(LD.drop (1:Int).toNat).take (LD.length-(1:Int).toNat)=L2.map AE.D:=by rw[kf];exact hlo'
  cases last
  all_goals
   simp only[if_true,Ex,if_false];refine AH AW (CE hll k1 hs t1 t2) cb hFm AB AB AB AB ?_;refine⟨(j+1,true,?gc,?gd,n+1000),h2,by dsimp only;omega,?_⟩
   rotate_left 2
   ·dsimp only
    simp only[if_true];rw[hL2,hOD,hLoD];exact AK
abbrev kr:Dr:=[(1,[0,1,2,3,4,5,6,7],[8,9])]
abbrev nj:Dr:=[(1,[0,1,2,3,4,5,6,7],[8,9])]
abbrev YJ:Dr:=[(4,[0,1,2,3],[4,5,6])]
abbrev ni:Dr:=[(5,[0,1,2,3,4,5,6,7,8,9,10],[11,12,13])]
open Go.Proofs Go.RowKit
set_option maxRecDepth 20000
set_option maxHeartbeats 4000000
theorem Zn (a:Int)(b:Bool)(l:List Int)(hl:l.length<=1000000):AJ C0 76 [i64 a,.sl b 1 (BW l)] (i64 (l.foldl min a)):=by
 refine Ag.walk w1 dH rfl λF=>?_
 have el:(((BW l).length:Nat):Int)=(l.length:Int):=by rw[Ac]
 refine AH AW el AB AB AB AB AB AB ?_;refine AC.loop (α:=Nat×Nat) (λp=>⟨[(0,i64 ((l.take p.1).foldl min a)),(7,.sl b 1 (BW l)),(8,i64 (l.length:Int)),(9,i64 (p.1:Int))],[],p.2⟩) (λp=>l.length-p.1) (λq=>q.1<=l.length) (0,_) (BS _) AK ?_;rintro⟨i,n⟩ F hi;dsimp only at hi⊢;rcases BA i l.length with h2|h2
 rotate_left
 ·have e1:=Cg h2
  have:i=l.length:=by omega
  subst this;rw[Cf];refine AH AW e1 AB AB AB AB AB AB ?_;exact AL rfl AA.out
 have e1:=Ch h2;have wi:=CZ (i:=i) (by omega);obtain⟨x,hx⟩:=CL h2;have hm:(BW l)[i]?=some (i64 x):=by rw[A0,hx];rfl
 have ht:(l.take (i+1)).foldl min a=min ((l.take i).foldl min a) x:=by rw[DW,hx,List.foldl_append];rfl
 obtain⟨R,hR⟩:∃R,(l.take i).foldl min a=R:=⟨_,rfl⟩
 rw[hR]at ht⊢;refine AH AW (As e1 wi kN) hm AB AB AB AB AB ?_;refine⟨(i+1,n+1000),h2,by dsimp only;omega,?_⟩;dsimp only;rw[ht];exact AK
def Gd (ls:List Int)(i:Nat)(f:Int->Int):List Int:=if 1<=i then[f (ls.getD (i-1) 0)]else[]
def FB (ls:List Int)(i:Nat)(f:Int->Int):List Int:=Gd ls i f++if i+1<ls.length then[f (ls.getD (i+1) 0)]else[]
def Iv (ls:List Int)(i:Nat)(f:Int->Int)(j:Nat):List Int:=if j=0 then[]else if j=1 then Gd ls i f else FB ls i f
theorem TC (ls:List Int)(i:Nat)(f:Int->Int):(Gd ls i f).length<=1:=by unfold Gd;split<;>simp
theorem KM {l:List Int}{i:Nat}(h:i<l.length):l[i]?=some (l.getD i 0):=by rw[Da,BE h];rfl
theorem YQ (b:Bool)(ls:List Int)(i:Nat)(f:Nat)(c1 c2 c3:D)[p1:AA c1][p2:AA c2][p3:AA c3](φ:Int->Int)(hl:ls.length<=1000000)(hi:i<ls.length)(hfe:f=131\/f=78)
  (hf:∀x∈ls,AJ C0 f [i64 x,c1,c2,c3] (i64 (φ x))):AJ C0 77 [.sl b 1 (BW ls),i64 (i:Int),.clo (.func f) [] [c1,c2,c3]] (.sl false 1 (BW (FB ls i φ))):=by
 refine Ag.walk w1 dJ rfl λF=>?_
 have el:(((BW ls).length:Nat):Int)=(ls.length:Int):=by rw[Ac]
 have wa:IntKind.i64.wrap ((i:Int)-1)=(i:Int)-1:=wI (by omega) (by omega);have wb:IntKind.i64.wrap ((i:Int)+1)=(i:Int)+1:=wI (by omega) (by omega);have wc:IntKind.i64.wrap ((ls.length:Int)-1)=(ls.length:Int)-1:=wI (by omega) (by omega);have cW:=λk=>MM k 0 ((ls.length:Int)-1)
 refine AH AW (Ae wa wb) AB AB AB AB AB AB ?_;refine AC.ghost 608 3 1 [(0,.sl b 1 (BW ls)),(1,i64 (i:Int)),(2,.clo (.func f) [] [c1,c2,c3]),(7,.osl 608 _ 1 0 0),(14,.sl true 1 [i64 ((i:Int)-1),i64 ((i:Int)+1)]),(15,i64 2),(16,i64 ((0:Nat):Int))] ⟨.inl rfl,.inl rfl,.inl rfl,.inr ⟨rfl,rfl⟩,.inl rfl,.inl rfl,.inl rfl,trivial⟩ ?_;refine AC.loop (α:=Nat×Nat×Nat) (λp=>⟨[(0,.sl b 1 (BW ls)),(1,i64 (i:Int)),(2,.clo (.func f) [] [c1,c2,c3]),(7,.osl 608 p.2.1 1 0 (Iv ls i φ p.1).length),(14,.sl true 1 [i64 ((i:Int)-1),i64 ((i:Int)+1)]),(15,i64 2),(16,i64 (p.1:Int))],[⟨608,p.2.1,3,1,BW (Iv ls i φ p.1)⟩],p.2.2⟩) (λp=>2-p.1) (λq=>q.1<=2) (0,_,_) (BS _) AK ?_;rintro⟨j,g,n⟩ F hj;dsimp only at hj⊢;rcases BA j 2 with h2|h2
 rotate_left
 ·have:j=2:=by omega
  subst this;have e1:decide (((2:Nat):Int)<2)=false:=rfl;have hf:=GY (H:=[⟨608,g,3,1,BW (Iv ls i φ 2)⟩]) (Hf:=[]) (k:=608) (g:=g) (T:=3) (sz:=1) (l:=BW (Iv ls i φ 2)) rfl;rw[Ac]at hf;refine AH AW e1 AB AB AB AB AB AB ?_;exact⟨_,hf,AA.out,rfl⟩
 obtain rfl|rfl:j=0\/j=1:=by omega
 ·have e1:decide (((0:Nat):Int)<2)=true:=rfl
  have wj:IntKind.i64.wrap (((0:Nat):Int)+1)=((1:Nat):Int):=rfl;have hm:[i64 ((i:Int)-1),i64 ((i:Int)+1)][0]?=some (i64 ((i:Int)-1)):=rfl;have cw:=cW ((i:Int)-1);obtain⟨P,hP⟩:∃P,P=([]:List Int):=⟨_,rfl⟩
  rw[show Iv ls i φ 0=P from hP.symm]
  by_cases h1:1<=i
  ·have hb:Cr ((i:Int)-1) 0 ((ls.length:Int)-1)=true:=by
    unfold Cr;rw[BP,decide_eq_true_iff,decide_eq_true_iff];omega
   rw[hb]at cw;have hv:=KM (l:=ls) (i:=i-1) (by omega);have hd:(BW ls)[((i:Int)-1).toNat]?=some (i64 (ls.getD (i-1) 0)):=by
    rw[show((i:Int)-1).toNat=i-1 by omega,A0,hv];rfl
   have cf:=hf _ (Ax hv);have hT:Gd ls i φ=P++[φ (ls.getD (i-1) 0)]:=by rw[hP];unfold Gd;rw[AG h1];rfl
   have hz0:0<=((i:Int)-1):=by omega
   have hlen:=TC ls i φ;have hPl:P.length<=1:=by rw[hP];exact BS _
   have hPD:(BW P).length=P.length:=Ac ..;obtain⟨PD,hPD2⟩:∃Q,BW P=Q:=⟨_,rfl⟩
   rw[hPD2]at hPD⊢;have htk:PD.take P.length=PD:=by rw[<-hPD];exact Cf
   have hTD:BW (Gd ls i φ)=PD++[i64 (φ (ls.getD (i-1) 0))]:=by rw[hT];unfold BW;rw[Cs,<-hPD2];rfl
   rcases hfe with rfl|rfl
   all_goals
    refine AH AW (CE e1 wj wc el htk) hm cw hd cf AB AB ?_;refine⟨(0+1,?g,n+1000),by dsimp only;omega,by dsimp only;omega,?_⟩
    rotate_left
    ·dsimp only
     rw[show Iv ls i φ (0+1)=Gd ls i φ from rfl,hTD,hT,Bh];exact AK
  ·have hb:Cr ((i:Int)-1) 0 ((ls.length:Int)-1)=false:=by
    cases hq:Cr ((i:Int)-1) 0 ((ls.length:Int)-1)
    ·rfl
    ·unfold Cr at hq
     rw[BP,decide_eq_true_iff,decide_eq_true_iff]at hq;omega
   rw[hb]at cw;have hT:Gd ls i φ=P:=by rw[hP];unfold Gd;rw[AF h1]
   refine AH AW (BV e1 wj wc el) hm cw AB AB AB AB ?_;refine⟨(0+1,g,n+1000),by dsimp only;omega,by dsimp only;omega,?_⟩;dsimp only;rw[show Iv ls i φ (0+1)=Gd ls i φ from rfl,hT];exact AK
 ·have e1:decide (((1:Nat):Int)<2)=true:=rfl
  have wj:IntKind.i64.wrap (((1:Nat):Int)+1)=((2:Nat):Int):=rfl;have hm:[i64 ((i:Int)-1),i64 ((i:Int)+1)][1]?=some (i64 ((i:Int)+1)):=rfl;have cw:=cW ((i:Int)+1);obtain⟨P,hP⟩:∃P,P=Gd ls i φ:=⟨_,rfl⟩
  rw[show Iv ls i φ 1=P from hP.symm]
  by_cases h1:i+1<ls.length
  ·have hb:Cr ((i:Int)+1) 0 ((ls.length:Int)-1)=true:=by
    unfold Cr;rw[BP,decide_eq_true_iff,decide_eq_true_iff];omega
   rw[hb]at cw;have hv:=KM (l:=ls) (i:=i+1) (by omega);have hd:(BW ls)[((i:Int)+1).toNat]?=some (i64 (ls.getD (i+1) 0)):=by
    rw[show((i:Int)+1).toNat=i+1 by omega,A0,hv];rfl
   have cf:=hf _ (Ax hv);have hT:FB ls i φ=P++[φ (ls.getD (i+1) 0)]:=by rw[hP];unfold FB;rw[AG h1]
   have hz0:0<=((i:Int)+1):=by omega
   have hlen:=TC ls i φ;have hPl:P.length<=1:=by rw[hP];exact hlen
   have hPD:(BW P).length=P.length:=Ac ..;obtain⟨PD,hPD2⟩:∃Q,BW P=Q:=⟨_,rfl⟩
   rw[hPD2]at hPD⊢;have htk:PD.take P.length=PD:=by rw[<-hPD];exact Cf
   have hTD:BW (FB ls i φ)=PD++[i64 (φ (ls.getD (i+1) 0))]:=by rw[hT];unfold BW;rw[Cs,<-hPD2];rfl
   rcases hfe with rfl|rfl
   all_goals
    refine AH AW (CE e1 wj wc el htk) hm cw hd cf AB AB ?_;refine⟨(1+1,?g,n+1000),by dsimp only;omega,by dsimp only;omega,?_⟩
    rotate_left
    ·dsimp only
     rw[show Iv ls i φ (1+1)=FB ls i φ from rfl,hTD,hT,Bh];exact AK
  ·have hb:Cr ((i:Int)+1) 0 ((ls.length:Int)-1)=false:=by
    cases hq:Cr ((i:Int)+1) 0 ((ls.length:Int)-1)
    ·rfl
    ·unfold Cr at hq
     rw[BP,decide_eq_true_iff,decide_eq_true_iff]at hq;omega
   rw[hb]at cw;have hT:FB ls i φ=P:=by rw[hP];unfold FB;rw[AF h1,DB]
   refine AH AW (BV e1 wj wc el) hm cw AB AB AB AB ?_;refine⟨(1+1,g,n+1000),by dsimp only;omega,by dsimp only;omega,?_⟩;dsimp only;rw[show Iv ls i φ (1+1)=FB ls i φ from rfl,hT];exact AK
theorem xN (x:BK)(b:Bool)(ls:List Int)(i:Nat)(v n:Int)(hv:ls[i]?=some v)(h1:0<=v/\v<=1000000000)(h2:0<=n/\n<=1000000000)(h3:0<=x.side/\x.side<=1000000000):
  AJ C0 131 [i64 n,.pptr (.sl b 1 (BW ls)),.pptr (i64 (i:Int)),.pptr x.D] (i64 (v-n+x.side)):=by
 refine Ag.walk w1 ZU rfl λF=>?_
 have hm:(BW ls)[i]?=some (i64 v):=by rw[A0,hv];rfl
 have u1:IntKind.i64.wrap (v-n)=v-n:=wI (by omega) (by omega);have u2:IntKind.i64.wrap (v-n+x.side)=v-n+x.side:=wI (by omega) (by omega);unfold BK.D;refine AH kr (As u1 u2 kN) hm AB AB AB AB AB ?_;exact AL rfl AA.out
theorem wV (x:BK)(b:Bool)(ls:List Int)(i:Nat)(v n:Int)(hv:ls[i]?=some v)(h1:0<=v/\v<=1000000000)(h2:0<=n/\n<=1000000000)(h3:0<=x.side/\x.side<=1000000000):
  AJ C0 78 [i64 n,.pptr x.D,.pptr (.sl b 1 (BW ls)),.pptr (i64 (i:Int))] (i64 (n+x.side-v)):=by
 refine Ag.walk w1 dK rfl λF=>?_
 have hm:(BW ls)[i]?=some (i64 v):=by rw[A0,hv];rfl
 have u1:IntKind.i64.wrap (n+x.side)=n+x.side:=wI (by omega) (by omega);have u2:IntKind.i64.wrap (n+x.side-v)=n+x.side-v:=wI (by omega) (by omega);unfold BK.D;refine AH nj (As u1 u2 kN) hm AB AB AB AB AB ?_;exact AL rfl AA.out
theorem Mg {x:BK}(h:Cu x=0):Bj x=x.cells.map Aq/\∀v∈Bj x,0<=v/\v<=999999999/\v<=x.room:=by
 have hc:=ML h;have e:Bj x=x.cells.map Aq:=NH λc hq=>J9 (Io (hc c hq)).2.2.1
 refine⟨e,λv hv=>?_⟩;rw[e]at hv;obtain⟨c,hq,rfl⟩:=List.mem_map.1 hv;obtain⟨-,-,-,a,b,d⟩:=Io (hc c hq);exact⟨a,b,d⟩
def G5 (side:Int)(ls:List Int)(i:Nat):Int:=(FB ls i λn=>ls.getD i 0-n+side).foldl min (ls.getD i 0)
def LQ (room side:Int)(ls:List Int)(i:Nat):Int:=(FB ls i λn=>n+side-ls.getD i 0).foldl min (room-ls.getD i 0)
def Uy (x:BK)(i:Int):Int:=if Eb x [i]≠0 then 0 else G5 x.side (Bj x) i.toNat
def Ue (x:BK)(i:Int):Int:=if Eb x [i]≠0 then 0 else LQ x.room x.side (Bj x) i.toNat
theorem Xi (ls:List Int)(i:Nat)(f:Int->Int):(FB ls i f).length<=2:=by
 unfold FB
 have:=TC ls i f
 rw[Bh];split<;>simp<;>omega
theorem v8 (x:BK)(b:Bool)(ls:List Int)(i:Nat)(hi:i<ls.length)(hl:ls.length<=1000000)(h1:∀v∈ls,0<=v/\v<=1000000000)(h3:0<=x.side/\x.side<=1000000000):AJ C0 74 [x.D,.sl b 1 (BW ls),i64 (i:Int)] (i64 (G5 x.side ls i)):=by
 have hv:=KM hi;have cB:=YQ b ls i 131 (.pptr (.sl b 1 (BW ls))) (.pptr (i64 (i:Int))) (.pptr x.D) (λn=>ls.getD i 0-n+x.side) hl hi (.inl rfl) λn hn=>xN x b ls i _ n hv (h1 _ (Ax hv)) (h1 n hn) h3
 have cL:=Zn (ls.getD i 0) false (FB ls i λn=>ls.getD i 0-n+x.side) (by have:=Xi ls i λn=>ls.getD i 0-n+x.side;omega);exact RA x.D ⟨_,_,_,_,_,rfl⟩ b (BW ls) i (ls.getD i 0) (by rw[A0,hv];rfl) _ _ cB cL
theorem wF (x:BK)(i:Int)(hl:x.cells.length<=1000000)(hc:∀c∈x.cells,c.length<=1000000/\∀y∈c,y.few):AJ C0 24 [x.D,i64 i] (.tup [i64 (Uy x i),i64 (Eb x [i])]):=by
 refine Ag.walk w1 cQ rfl λF=>?_
 have cC:=d5 x hl hc [i] (by simp);have cLv:=Tf x hl λc h=>by have:=(hc c h).1;omega
 have hM:Uy x i=if Eb x [i]≠0 then 0 else G5 x.side (Bj x) i.toNat:=rfl
 have hk:=@Tx x i;have cM:=v8 x false (Bj x) i.toNat;have hla:=@Mg x;have hbs:=@P7 x;have hll:(Bj x).length=x.cells.length:=Ac ..;have hx:∃a b c d e,x.D=.agg [a,b,c,d,e]:=⟨_,_,_,_,_,rfl⟩
 have px:AA x.D:=AI;have px2:AT x.D:=AI;obtain⟨a1,a2,a3,a4,a5,hx⟩:=hx;rw[hx]at cC cLv cM px px2⊢;obtain⟨E,hE⟩:∃E,Eb x [i]=E:=⟨_,rfl⟩
 rw[hE]at cC hM hk⊢
 by_cases h0:E=0
 rotate_left
 ·have k2:(E != 0)=true:=Hw h0
  rw[hM,AG h0];refine AH YJ k2 cC AB AB AB AB AB ?_;exact AL rfl AA.out
 have k2:(E != 0)=false:=by rw[h0];rfl
 obtain⟨g1,g2,g3⟩:=hk h0;have cM:=cM (by omega) (by omega) (λv hv=>by obtain⟨a,b,_⟩:=(hla g1).2 v hv;omega) (by obtain⟨a,b,_⟩:=hbs g1;omega);rw[show((i.toNat:Nat):Int)=i by omega]at cM;rw[hM,AF (λh=>h h0)];obtain⟨M,hMM⟩:∃M,G5 x.side (Bj x) i.toNat=M:=⟨_,rfl⟩
 rw[hMM]at cM⊢;subst h0;refine AH YJ k2 cC cLv cM AB AB AB ?_;exact AL rfl AA.out
theorem tn (x:BK)(i:Int)(hl:x.cells.length<=1000000)(hc:∀c∈x.cells,c.length<=1000000/\∀y∈c,y.few):AJ C0 25 [x.D,i64 i] (.tup [i64 (Ue x i),i64 (Eb x [i])]):=by
 have cC:=d5 x hl hc [i] (by simp);have hM:Ue x i=if Eb x [i]≠0 then 0 else LQ x.room x.side (Bj x) i.toNat:=rfl
 by_cases h0:Eb x [i]=0
 ·obtain⟨g1,g2,g3⟩:=Tx h0
  obtain⟨s1,s2,s3,s4⟩:=P7 g1;have cLv:=Tf x hl λc h=>by have:=(hc c h).1;omega
  have hll:(Bj x).length=x.cells.length:=Ac ..;have hi:i.toNat<(Bj x).length:=by omega
  have hv:=KM hi;have h1:=(Mg g1).2;rw[hM,AF (λh=>h h0),h0];rw[h0]at cC;obtain⟨q1,q2,q3⟩:=h1 _ (Ax hv);have cB:=YQ false (Bj x) i.toNat 78 (.pptr x.D) (.pptr (.sl false 1 (BW (Bj x)))) (.pptr (i64 (i.toNat:Int))) (λn=>n+x.side-(Bj x).getD i.toNat 0) (by omega) hi (.inr rfl) λn hn=>wV x false (Bj x) i.toNat _ n hv ⟨q1,by omega⟩ (by have:=h1 n hn;omega) (by omega)
  have cL:=Zn (x.room-(Bj x).getD i.toNat 0) false (FB (Bj x) i.toNat λn=>n+x.side-(Bj x).getD i.toNat 0) (by have:=Xi (Bj x) i.toNat λn=>n+x.side-(Bj x).getD i.toNat 0;omega);have ii:((i.toNat:Nat):Int)=i:=by omega
  have:=Y9 x.D _ _ _ _ x.room rfl (BW (Bj x)) i.toNat ((Bj x).getD i.toNat 0) (by rw[A0,hv];rfl) _ _ (by rw[ii];exact cC) cLv cB _ (wI (by omega) (by omega)) cL
  rw[ii]at this;exact this
 ·refine Ag.walk w1 Uk rfl λF=>?_
  have k2:(Eb x [i] != 0)=true:=Hw h0;rw[hM,AG h0];have hx:∃a b c d e,x.D=.agg [a,b,c,d,e]:=⟨_,_,_,_,_,rfl⟩
  have px:AA x.D:=AI;have px2:AT x.D:=AI;obtain⟨a1,a2,a3,a4,a5,hx⟩:=hx;rw[hx]at cC px px2⊢;obtain⟨E,hE⟩:∃E,Eb x [i]=E:=⟨_,rfl⟩
  rw[hE]at cC k2⊢;refine AH ni k2 cC AB AB AB AB AB ?_;exact AL rfl AA.out
theorem ZB {side:Int}{l:List Int}(hs:0<=side/\side<=1000000000)(hl:∀v∈l,0<=v/\v<=1000000000):E9 side l=false↔∀k,k+1<l.length->l.getD (k+1) 0-l.getD k 0<=side/\l.getD k 0-l.getD (k+1) 0<=side:=by
 have hv:∀k,k<l.length->0<=l.getD k 0/\l.getD k 0<=1000000000:=λk hk=>hl _ (Ax (KM hk))
 have hw:∀k,k+1<l.length->(Cr (IntKind.i64.wrap (l.getD (k+1) 0-l.getD k 0)) (IntKind.i64.wrap (0-side)) side=true↔l.getD (k+1) 0-l.getD k 0<=side/\l.getD k 0-l.getD (k+1) 0<=side):=λk hk=>by
  have h1:=hv k (by omega);have h2:=hv (k+1) hk;rw[wI (by omega) (by omega),wI (by omega) (by omega)];unfold Cr;rw[BP,decide_eq_true_iff,decide_eq_true_iff];omega
 constructor
 ·intro h k hk
  apply(hw k hk).1;cases hb:Cr (IntKind.i64.wrap (l.getD (k+1) 0-l.getD k 0)) (IntKind.i64.wrap (0-side)) side
  ·rw[Ug hk hb]at h;cases h
  ·rfl
 ·intro h
  exact Uh λk hk=>(hw k hk).2 (h k hk)
theorem TO {m : Int} : ∀ {L : List Int} {a : Int}, m <= L.foldl min a ↔ m <= a /\ ∀v ∈ L, m <= v
  | [], a => by simp
  |x :: L, a => by
    rw[List.foldl_cons, TO (L := L)]
    constructor
    · rintro⟨h1, h2⟩
      exact⟨by omega, λv hv => (BF.1 hv).elim (λe=>by omega) (h2 v)⟩
    · rintro⟨h1, h2⟩
      have := h2 x (CM ..)
      exact⟨by omega, λv hv => h2 v (CQ _ hv)⟩
theorem nO {ls:List Int}{i:Nat}{f:Int->Int}{m:Int}:(∀v∈FB ls i f,m<=v)↔(1<=i->m<=f (ls.getD (i-1) 0))/\(i+1<ls.length->m<=f (ls.getD (i+1) 0)):=by
 unfold FB Gd;constructor
 ·intro h
  refine⟨λh1=>h _ (HF _ (by rw[AG h1];exact List.mem_singleton.2 rfl)),λh1=>h _ (List.mem_append_right _ (by rw[AG h1];exact List.mem_singleton.2 rfl))⟩
 ·rintro⟨h1,h2⟩ v hv
  rcases List.mem_append.1 hv with hv|hv
  ·by_cases hi:1<=i
   ·rw[AG hi]at hv
    obtain rfl:=List.mem_singleton.1 hv;exact h1 hi
   ·rw[AF hi]at hv;cases hv
  ·by_cases hi:i+1<ls.length
   ·rw[AG hi]at hv
    obtain rfl:=List.mem_singleton.1 hv;exact h2 hi
   ·rw[AF hi]at hv;cases hv
theorem MH {l:List Int}{i k:Nat}{v:Int}(hi:i<l.length):(l.set i v).getD k 0=if k=i then v else l.getD k 0:=by
 rw[Da,Da,List.getElem?_set]
 by_cases h:k=i
 ·subst h;rw[AG rfl,AG hi,AG rfl];rfl
 ·rw[AF (λq=>h q.symm),AF h]
theorem ZC {side:Int}{ls:List Int}{i:Nat}{m:Int}(hs:0<=side/\side<=1000000000)(hl:∀v∈ls,0<=v/\v<=1000000000)(hi:i<ls.length)(h0:E9 side ls=false)(hm:0<=m/\m<=ls.getD i 0):
  E9 side (ls.set i (ls.getD i 0-m))=false↔m<=G5 side ls i:=by
 have hv:=hl _ (Ax (KM hi));have hl2:∀v∈ls.set i (ls.getD i 0-m),0<=v/\v<=1000000000:=λv hq=>by
  rcases Rq hq with hq|hq
  ·exact hl v hq
  ·omega
 have h1:=(ZB hs hl).1 h0;rw[ZB hs hl2,DQ];unfold G5;rw[TO,nO];constructor
 ·intro h
  refine⟨hm.2,λhi1=>?_,λhi1=>?_⟩
  ·have:=h (i-1) (by omega)
   rw[MH hi,MH hi,show i-1+1=i by omega,AG rfl,AF (by omega)]at this;omega
  ·have:=h i hi1
   rw[MH hi,MH hi,AG rfl,AF (by omega)]at this;omega
 ·rintro⟨g1,g2,g3⟩ k hk
  have h2:=h1 k hk;rw[MH hi,MH hi]
  by_cases c1:k+1=i
  ·rw[AG c1,AF (by omega)]
   have:=g2 (by omega)
   rw[show i-1=k by omega]at this;rw[c1]at h2;omega
  ·rw[AF c1]
   by_cases c2:k=i
   ·rw[AG c2]
    subst c2
    have:=g3 hk
    omega
   ·rw[AF c2];exact h2
theorem oS (side:Int)(ls:List Int)(i:Nat):G5 side ls i<=ls.getD i 0:=(TO.1 (Int.le_refl _)).1
theorem oT {side:Int}{ls:List Int}{i:Nat}(hs:0<=side/\side<=1000000000)(hl:∀v∈ls,0<=v/\v<=1000000000)(hi:i<ls.length)(h0:E9 side ls=false):0<=G5 side ls i:=by
 have hv:=hl _ (Ax (KM hi));rw[<-ZC hs hl hi h0 ⟨Int.le_refl _,hv.1⟩,Int.sub_zero]
 have:ls.set i (ls.getD i 0)=ls:=by
  rw[Da,BE hi];exact List.set_getElem_self _
 rw[this];exact h0
def I7 (ls:List Int)(room side:Int)(c:Nat):Nat->Int
 | 0=>room-ls.getD c 0
 |k+1=>if k+1=c\/k=c+1 then min (I7 ls room side c k) (ls.getD k 0+side-ls.getD c 0)else I7 ls room side c k
theorem Q6 {α:Type}{p q:Prop}[Decidable p][Decidable q](h:p↔q)(a b:α):(if p then a else b)=if q then a else b:=by
 by_cases hq:q
 ·rw[AG (h.2 hq),AG hq]
 ·rw[AF (λk=>hq (h.1 k)),AF hq]
theorem bB (ls:List Int)(room side:Int)(c:Nat):∀k,I7 ls room side c k=((if 1<=c/\c<=k then[ls.getD (c-1) 0+side-ls.getD c 0]else[])++if c+1<k then[ls.getD (c+1) 0+side-ls.getD c 0]else[]).foldl min (room-ls.getD c 0)
 | 0=>by
  rw[AF (by omega),AF (by omega)];rfl
 |k+1=>by
  unfold I7;rw[bB ls room side c k]
  by_cases h1:k+1=c
  ·subst h1
   rw[AG (.inl rfl),AF (by omega),AF (by omega),AG ⟨by omega,Ai _⟩,AF (by omega)];rfl
  ·by_cases h2:k=c+1
   ·subst h2
    rw[AG (.inr rfl),AF (show ¬c+1<c+1 by omega),AG (show c+1<c+1+1 by omega),DB,List.foldl_append];rw[Q6 (show 1<=c/\c<=c+1+1↔1<=c/\c<=c+1 by omega)];rfl
   ·rw[AF (by omega),Q6 (show 1<=c/\c<=k+1↔1<=c/\c<=k by omega),Q6 (show c+1<k+1↔c+1<k by omega)]
theorem oo {ls:List Int}{room side:Int}{c:Nat}(hc:c<ls.length):I7 ls room side c ls.length=LQ room side ls c:=by
 rw[bB];unfold LQ FB Gd;rw[Q6 (show 1<=c/\c<=ls.length↔1<=c by omega)]
def GD (x:BK)(c:List AE)(m:Nat):Nat:=CO (KZ x) (BX c).length m
def EC (x:BK)(c:List AE)(m:Nat):List AE:=((BX c).drop (GD x c m)).take ((BX c).length-m)
def KU (x:BK)(c:List AE)(m:Nat):List AE:=(BX c).reverse.take (m-GD x c m)++(BX c).take (GD x c m)
theorem TS (x:BK)(c:List AE)(m:Nat):GD x c m<=m:=JH _ _ _
theorem pG {c:List AE}(h:∀y∈c,y.shs.length<=1000000):∀y∈BX c,1<=y.mass/\y.mass<=1000000000/\y.shs.length<=1000000:=λy hy=>by
 obtain⟨z,hz,rfl,_⟩:=UX y hy;exact⟨Int.le_refl _,by show(1:Int)<=_;omega,h z hz⟩
theorem TF {x:BK}{c:List AE}{m:Nat}:∀y∈EC x c m,y∈BX c:=λy hy=>Jj (Gm hy)
theorem lG {x:BK}{c:List AE}{m:Nat}:∀y∈KU x c m,y∈BX c:=λy hy=>by
 rcases List.mem_append.1 hy with h|h
 ·exact List.mem_reverse.1 (Gm h)
 ·exact Gm h
theorem N6 {x:BK}{c:List AE}{m:Nat}(h:m<=(BX c).length):(EC x c m).length=(BX c).length-m:=by
 have:=TS x c m
 unfold EC;rw[Bb,Dc];omega
theorem lF {x:BK}{c:List AE}{m:Nat}(h:m<=(BX c).length):(KU x c m).length=m:=by
 have:=TS x c m
 unfold KU;rw[Bh,Bb,Bb,List.length_reverse];omega
theorem wJ (x:BK)(i:Nat)(c:List AE)(hc:x.cells[i]?=some c)(hcl:x.cells.length<=1000000)(hl:c.length<=1000)(hx:∀y∈c,0<=y.mass/\y.mass<=100000)(hsh:∀y∈c,y.shs.length<=1000000)(hf:Ma x)
  (hu:(BX c).length<=1000000) (hN:∀c∈x.cells,AJ C0 40 [Al false c] (Al false (Bl c))) (m:Nat) (hm:m<=(BX c).length):
  AJ C0 79 [x.D,i64 (i:Int),i64 (m:Int)] (.tup [(E7 x i (Bl (EC x c m))).D,Al false (Bl (KU x c m))]):=by
 refine Ag.walk w1 vQ rfl λF=>?_
 have cL:=ud x i c hc hcl hl hx hf;have cU:=bc false c hl hx;have hmU:=pG hsh;have hrl:=N6 (x:=x) hm;have hfl:=lF (x:=x) hm;have cN:=Td false (EC x c m) (by omega) λy hy=>hmU y (TF y hy)
 have cN2:=Td false (KU x c m) (by omega) λy hy=>hmU y (lG y hy)
 have hi:=(List.getElem?_eq_some_iff.1 hc).1;have cW:=wR x i hi hcl hN (EC x c m) cN;have hlo:=TS x c m;have hrD:EC x c m=((BX c).drop (GD x c m)).take ((BX c).length-m):=rfl;have hfD:KU x c m=(BX c).reverse.take (m-GD x c m)++(BX c).take (GD x c m):=rfl;have hlX:GD x c m=CO (KZ x) (BX c).length m:=rfl;have hat:(x.cells.map (Al false))[i]?=some (.sl false 3 (c.map AE.D)):=by rw[A0,hc];rfl
 have el:(((x.cells.map (Al false)).length:Nat):Int)=(x.cells.length:Int):=by rw[Ac]
 have hoD:(E7 x i (Bl (EC x c m))).D=.agg [str (sb x.flow),i64 x.core,i64 x.room,i64 x.side,.sl false 1 ((E7 x i (Bl (EC x c m))).cells.map (Al false))]:=rfl;have po:AA (.tup [(E7 x i (Bl (EC x c m))).D,Al false (Bl (KU x c m))]):=AI;rw[hoD]at cW po⊢;obtain⟨OC,hOC⟩:∃O,(E7 x i (Bl (EC x c m))).cells.map (Al false)=O:=⟨_,rfl⟩
 rw[hOC]at cW po⊢;obtain⟨U,hU⟩:∃U,BX c=U:=⟨_,rfl⟩
 rw[hU]at cL cU hm hu hlX hrD hfD;obtain⟨bot,hbot⟩:∃b,KZ x=b:=⟨_,rfl⟩
 rw[hbot]at cL hlX;have px:AA x.D:=AI;have px2:AT x.D:=AI;have hB0:x.D=.agg [str (sb x.flow),i64 x.core,i64 x.room,i64 x.side,.sl false 1 (x.cells.map (Al false))]:=rfl;rw[hB0]at cL cW px px2⊢;obtain⟨XD,hXD⟩:∃T,x.cells.map (Al false)=T:=⟨_,rfl⟩
 rw[hXD]at cL cW px px2 hat el⊢;have hOat:=λj hj=>o6 bot U (j:=j) (m:=U.length) hj
 have hLat:=λj hj=>oN bot U.length (j:=j) (m:=U.length) hj
 obtain⟨OR,hOR⟩:∃O,Gi bot U U.length=O:=⟨_,rfl⟩
 rw[hOR]at cL hOat;obtain⟨LO,hLO⟩:∃O,Gg bot U.length U.length=O:=⟨_,rfl⟩
 rw[hLO]at cL hLat;have pLO:AA (.sl false 1 (LO.map Ap)):=AI;refine AH AW (Ae el kN) cL AB AB AB AB AB ?_;refine AC.ghost 806 27 3 [(1,i64 (i:Int)),(2,i64 (m:Int)),(3,.optr 0 0 5 0 0),(6,.optr 1 1 5 0 0),(8,Al false OR),(9,.sl false 1 (LO.map Ap)),(10,.osl 806 _ 3 0 0),(11,CP),(12,i64 ((0:Nat):Int))] ⟨.inl rfl,.inl rfl,.inl rfl,.inl rfl,.inl rfl,.inl rfl,.inr ⟨rfl,rfl⟩,.inl rfl,.inl rfl,trivial⟩ ?_;refine AC.ghost 706 27 3 [(1,i64 (i:Int)),(2,i64 (m:Int)),(3,.optr 0 0 5 0 0),(6,.optr 1 1 5 0 0),(8,Al false OR),(9,.sl false 1 (LO.map Ap)),(10,.osl 806 _ 3 0 0),(11,.osl 706 _ 3 0 0),(12,i64 ((0:Nat):Int))] ⟨.inl rfl,.inl rfl,.inl rfl,.inl rfl,.inl rfl,.inl rfl,.inl rfl,.inr ⟨rfl,rfl⟩,.inl rfl,trivial⟩ ?_;refine AC.loop (α:=Nat×Bool×Nat×Nat×Nat) (λp=>⟨[(1,i64 (i:Int)),(2,i64 (m:Int)),(3,.optr 0 0 5 0 0),(6,.optr 1 1 5 0 0),(8,Al false OR),(9,.sl false 1 (LO.map Ap)),(10,.osl 806 p.2.2.1 3 0 (p.1-CO bot U.length p.1)),(11,.osl 706 p.2.2.2.1 3 0 (CO bot U.length p.1)),(12,i64 (p.1:Int))],
   (if p.2.1 then[⟨706,p.2.2.2.1,27,3,(U.take (CO bot U.length p.1)).map AE.D⟩,⟨806,p.2.2.1,27,3,(U.reverse.take (p.1-CO bot U.length p.1)).map AE.D⟩]else[⟨806,p.2.2.1,27,3,(U.reverse.take (p.1-CO bot U.length p.1)).map AE.D⟩,⟨706,p.2.2.2.1,27,3,(U.take (CO bot U.length p.1)).map AE.D⟩]) ++
   [⟨1,1,48,5,[.agg [.prim (.string ⟨#[]⟩),.prim (.int .i64 0),.prim (.int .i64 0),.prim (.int .i64 0),.prim (.slice none 0 0)]]⟩,⟨0,0,48,5,[.agg [str (sb x.flow),i64 x.core,i64 x.room,i64 x.side,.sl false 1 XD]]⟩],p.2.2.2.2⟩)
  (λp=>m-p.1) (λq=>q.1<=m) (0,true,_,_,_) (BS _) (by exact AK) ?_
 rintro⟨j,last,g1,g2,n⟩ F hj;dsimp only at hj⊢;have hlc:=JH bot U.length j;rcases BA j m with h2|h2
 rotate_left
 ·have:j=m:=by omega
  subst this;have k0:decide (((j:Nat):Int)<(j:Int))=false:=Ad (by omega);obtain⟨A,hA⟩:∃A,GD x c j=A:=⟨_,rfl⟩
  rw[<-hlX,hA]at hlc⊢;rw[hA]at hrD hfD;have hHl:(U.reverse.take (j-A)).length=j-A:=by rw[Bb,List.length_reverse];omega
  have hLl:(U.take A).length=A:=by rw[Bb];omega
  refine AC.weak ⟨[(1,i64 (i:Int)),(2,i64 (j:Int)),(3,.optr 0 0 5 0 0),(6,.optr 1 1 5 0 0),(10,Al false (U.reverse.take (j-A))),(11,Al false (U.take A)),(12,i64 (j:Int))],[⟨1,1,48,5,[.agg [.prim (.string ⟨#[]⟩),.prim (.int .i64 0),.prim (.int .i64 0),.prim (.int .i64 0),.prim (.slice none 0 0)]]⟩,⟨0,0,48,5,[.agg [str (sb x.flow),i64 x.core,i64 x.room,i64 x.side,.sl false 1 XD]]⟩],n⟩ ?_ ?_
  ·cases last
   ·exact AK (a:=.drop (.drop (.keep (.keep .nil)))) (b:=⟨.refl _,.refl _,.refl _,.refl _,LU rfl rfl (by rw[Ac,hHl]),LU rfl rfl (by rw[Ac,hLl]),.refl _,trivial⟩)
   ·exact AK (a:=.drop (.drop (.keep (.keep .nil)))) (b:=⟨.refl _,.refl _,.refl _,.refl _,LU rfl rfl (by rw[Ac,hHl]),LU rfl rfl (by rw[Ac,hLl]),.refl _,trivial⟩)
  have eH:((((U.reverse.take (j-A)).map AE.D).length:Nat):Int)=((j-A:Nat):Int):=by rw[Ac,hHl]
  have eL:((((U.take A).map AE.D).length:Nat):Int)=(A:Int):=by rw[Ac,hLl]
  have eU:(((U.map AE.D).length:Nat):Int)=(U.length:Int):=by rw[Ac]
  have wS:IntKind.i64.wrap ((U.length:Int)-((j-A:Nat):Int))=((U.length-(j-A):Nat):Int):=by rw[wI (by omega) (by omega)];omega
  have hRD:((U.map AE.D).drop A).take (U.length-(j-A)-A)=(EC x c j).map AE.D:=by
   rw[hrD,<-List.map_drop,<-NN,show U.length-(j-A)-A=U.length-j by omega]
  have hFD:(KU x c j).map AE.D=(U.reverse.take (j-A)).map AE.D++(U.take A).map AE.D:=by rw[hfD,Cs]
  unfold Al at cN2;rw[hFD]at cN2;have hs1:(0:Int)<=(A:Int)/\(A:Int)<=((U.length-(j-A):Nat):Int)/\((U.length-(j-A):Nat):Int)<=(U.length:Int):=by omega
  have pF1:AA (.sl false 3 ((U.reverse.take (j-A)).map AE.D)):=AI;have pF2:AA (.sl false 3 ((U.take A).map AE.D)):=AI;have pF3:AA (.sl false 3 ((U.reverse.take (j-A)).map AE.D++(U.take A).map AE.D)):=by rw[<-hFD];exact AI
  have hUDl:(U.map AE.D).length=U.length:=Ac ..;obtain⟨HD,hHD⟩:∃T,(U.reverse.take (j-A)).map AE.D=T:=⟨_,rfl⟩
  obtain⟨LD,hLD⟩:∃T,(U.take A).map AE.D=T:=⟨_,rfl⟩
  have hHDl:HD.length=j-A:=by rw[<-hHD,Ac,hHl]
  have hLDl:LD.length=A:=by rw[<-hLD,Ac,hLl]
  unfold Al at cU cW⊢;obtain⟨UD,hUD⟩:∃T,U.map AE.D=T:=⟨_,rfl⟩
  rw[hHD]at eH pF1 pF3 cN2⊢;rw[hLD]at eL pF2 pF3 cN2⊢;rw[hUD]at eU hRD cU hUDl;have f1:∀l:List D,([]:List D)++l=l:=EO;have f2:∀n,List.take n ([]:List D)=[]:=λn=>List.take_nil
  refine AH AW (Dj k0 el eH eL eU @wS) hat cU AB AB AB AB ?_;rw[Lx,Lx,hRD];refine A9.same _ cW AI ?_;refine AH AW (As f1 f2 BR) AB AB AB AB AB AB ?_;rw[Cf];refine A9.own _ (NE [⟨1,1,48,5,[.agg [.prim (.string ⟨#[]⟩),.prim (.int .i64 0),.prim (.int .i64 0),.prim (.int .i64 0),.prim (.slice none 0 0)]]⟩,⟨0,0,48,5,[.agg [str (sb x.flow),i64 x.core,i64 x.room,i64 x.side,.sl false 1 XD]]⟩] cN2 (.drop (.keep (.keep .nil))) ⟨LU rfl rfl (by rw[Bh]),trivial⟩ AI) ?_;rintro d H2 n2 ⟨rfl,rfl,rfl⟩;refine AH AW kB AB AB AB AB AB AB ?_;exact AL rfl po.out
 have h3:j<U.length:=by omega
 have k0:decide ((j:Int)<(m:Int))=true:=AX (by omega);have wj:=CZ (i:=j) (by omega);have hO:=hOat j h3;have hL:=hLat j h3;have hlow:=@uo bot U j h3;have hhigh:=@oz bot U j h3;have hs:=Q9 bot U.length j;have hlc2:=JH bot U.length (j+1);obtain⟨A,hA⟩:∃A,CO bot U.length j=A:=⟨_,rfl⟩
 obtain⟨A2,hA2⟩:∃A,CO bot U.length (j+1)=A:=⟨_,rfl⟩
 rw[hA]at hs hlow hhigh hlc hO⊢;rw[hA2]at hs hlow hhigh hlc2;have hLm:(LO.map Ap)[j]?=some (Ap (bot (U.length-j))):=by rw[A0,hL];rfl
 have hHl:((U.reverse.take (j-A)).map AE.D).length=j-A:=by rw[Ac,Bb,List.length_reverse];omega
 have hLl:((U.take A).map AE.D).length=A:=by rw[Ac,Bb];omega
 cases hb:bot (U.length-j)
 ·rw[hb]at hs hO hLm
  rw[AF (by decide)]at hs hO;have hhigh:=hhigh hb;obtain⟨Y,hY⟩:∃Y,U.getD (A+(U.length-j)-1) ⟨[],0,[]⟩=Y:=⟨_,rfl⟩
  rw[hY]at hO hhigh;have hHD:(U.reverse.take (j+1-A)).map AE.D=(U.reverse.take (j-A)).map AE.D++[.agg [str (sb Y.grain),i64 Y.mass,Cb false Y.shs]]:=by
   rw[show j+1-A=j+1-A2 by omega,hhigh,Cs];rfl
  have hOm:(OR.map AE.D)[j]?=some (.agg [str (sb Y.grain),i64 Y.mass,Cb false Y.shs]):=by rw[A0,hO];rfl
  obtain⟨HD,hHDe⟩:∃T,(U.reverse.take (j-A)).map AE.D=T:=⟨_,rfl⟩
  obtain⟨LD,hLDe⟩:∃T,(U.take A).map AE.D=T:=⟨_,rfl⟩
  rw[hHDe]at hHl hHD⊢;rw[hLDe]at hLl⊢;have htk:HD.take (j-A)=HD:=by rw[<-hHl];exact Cf
  have e2:A2=A:=by omega
  cases last
  all_goals
   simp only[if_true,Ex,if_false,D5,EO];refine AH AW (BV k0 wj htk kN) hLm hOm AB AB AB AB ?_;refine⟨(j+1,false,?ga,g2,n+1000),h2,by dsimp only;omega,?_⟩
   rotate_left
   ·dsimp only
    simp only[Ex,if_false,D5,EO];rw[hA2,e2,hHD,hLDe,show j+1-A=j-A+1 by omega];exact AK
 ·rw[hb]at hs hO hLm
  rw[AG rfl]at hs hO;have hlow:=hlow hb;obtain⟨Y,hY⟩:∃Y,U.getD A ⟨[],0,[]⟩=Y:=⟨_,rfl⟩
  rw[hY]at hO hlow;have hLD2:(U.take A2).map AE.D=(U.take A).map AE.D++[.agg [str (sb Y.grain),i64 Y.mass,Cb false Y.shs]]:=by
   rw[hlow,Cs];rfl
  have hOm:(OR.map AE.D)[j]?=some (.agg [str (sb Y.grain),i64 Y.mass,Cb false Y.shs]):=by rw[A0,hO];rfl
  have e3:j+1-A2=j-A:=by omega
  obtain⟨HD,hHDe⟩:∃T,(U.reverse.take (j-A)).map AE.D=T:=⟨_,rfl⟩
  obtain⟨LD,hLDe⟩:∃T,(U.take A).map AE.D=T:=⟨_,rfl⟩
  rw[hHDe]at hHl⊢;rw[hLDe]at hLl hLD2⊢;have htk:LD.take A=LD:=by rw[<-hLl];exact Cf
  cases last
  all_goals
   simp only[if_true,Ex,if_false,D5,EO];refine AH AW (BV k0 wj htk kN) hLm hOm AB AB AB AB ?_;refine⟨(j+1,true,g1,?gb,n+1000),h2,by dsimp only;omega,?_⟩
   rotate_left
   ·dsimp only
    simp only[if_true,D5,EO];rw[hA2,e3,hLD2,hHDe,hs];exact AK
def R2 (l:List AE)(y:AE):Prop:=∃z∈l,y.grain=z.grain/\y.shs=z.shs
theorem m9 {l:List AE}:∀y∈Bl l,R2 l y:=by
 have:∀(l R A:List AE),(∀y∈R,R2 A y)->∀y∈l.foldl Ce R,R2 (A++l) y:=λl=>by
  induction l with
  |nil=>intro R A h y hy;rw[DB];exact h y hy
  |cons x l ih=>
   intro R A h y hy;rw[List.foldl_cons]at hy
   have:=ih (Ce R x) (A++[x]) (λz hz=>by
    unfold Ce at hz;split at hz
    ·rename_i w hw
     split at hz
     ·rcases List.mem_append.1 hz with hz|hz
      ·obtain⟨q,hq,e⟩:=h z ((List.dropLast_sublist R).subset hz)
       exact⟨q,HF _ hq,e⟩
      ·obtain rfl:=List.mem_singleton.1 hz
       obtain⟨q,hq,e⟩:=h w (List.mem_of_getLast? hw);exact⟨q,HF _ hq,e⟩
     ·rcases List.mem_append.1 hz with hz|hz
      ·obtain⟨q,hq,e⟩:=h z hz
       exact⟨q,HF _ hq,e⟩
      ·obtain rfl:=List.mem_singleton.1 hz
       exact⟨z,List.mem_append_right _ (List.mem_singleton.2 rfl),rfl,rfl⟩
    ·obtain rfl:=List.mem_singleton.1 hz
     exact⟨z,List.mem_append_right _ (List.mem_singleton.2 rfl),rfl,rfl⟩) y hy
   rw[Di]at this;exact this
 intro y hy
 have:=this l [] [] (λy hy=>by cases hy) y hy
 rwa [EO]at this
theorem pH {l:List AE}:∀y∈BX l,R2 l y:=λy hy=>by
 obtain⟨z,hz,rfl,_⟩:=UX y hy;exact⟨z,hz,rfl,rfl⟩
theorem TW {l:List AE}(h:∀x∈l,1<=x.mass):∀y∈Bl l,1<=y.mass:=by
 have:∀(l R:List AE),(∀x∈l,1<=x.mass)->(∀y∈R,1<=y.mass)->∀y∈l.foldl Ce R,1<=y.mass:=λl=>by
  induction l with
  |nil=>intro R _ h;exact h
  |cons x l ih=>
   intro R hl hR;rw[List.foldl_cons];refine ih _ (λy hy=>hl y (CQ _ hy)) λz hz=>?_
   have hx:=hl x (CM ..);unfold Ce at hz;split at hz
   ·rename_i w hw
    split at hz
    ·rcases List.mem_append.1 hz with hz|hz
     ·exact hR z ((List.dropLast_sublist R).subset hz)
     ·obtain rfl:=List.mem_singleton.1 hz
      have:=hR w (List.mem_of_getLast? hw)
      show 1<=w.mass+x.mass;omega
    ·rcases List.mem_append.1 hz with hz|hz
     ·exact hR z hz
     ·obtain rfl:=List.mem_singleton.1 hz;exact hx
   ·obtain rfl:=List.mem_singleton.1 hz;exact hx
 exact this l [] h λy hy=>by cases hy
theorem Vw {l:List AE}(h:∀x∈l,0<=x.mass){y:AE}(hy:y∈l):y.mass<=Aq l:=by
 obtain⟨A,B,rfl⟩:=Ey hy;rw[N9,show Aq (y::B)=y.mass+Aq B from rfl];have p1:=LI (l:=A) λz hz=>h z (HF _ hz)
 have p2:=LI (l:=B) λz hz=>h z (List.mem_append_right _ (CQ _ hz))
 omega
theorem Zm {x:BK}(h:Cu x=0):HL x=0/\E9 x.side (Bj x)=false:=by
 unfold Cu at h
 by_cases h1:HL x=0
 ·rw[AF (λq=>q h1)]at h
  by_cases h2:EZ x x.cells=0
  ·rw[AF (λq=>q h2)]at h
   refine⟨h1,?_⟩;cases hb:E9 x.side (Bj x)
   ·rfl
   ·rw[hb]at h;cases h
  ·rw[AG h2]at h;exact Ah h h2
 ·rw[AG h1]at h;exact Ah h h1
theorem mu {x:BK}(h:Cu x=0):Ma x:=by
 have h1:=(Zm h).1;rw[UH]at h1;split at h1
 ·cases h1
 rename_i hf;split at h1
 ·cases h1
 rename_i hr;unfold Kl at hr;unfold Ma;cases hm:BI (sb x.flow) F7
 ·rw[hm]at hf hr
  cases hu:BI (sb x.flow) Ik
  ·rw[hu]at hf;exact Ah rfl hf
  ·rw[hu]at hr
   simp only[Gl,Fq,Bool.false_or,Jl,GP,not_or]at hr;exact .inr (by omega)
 ·exact .inl rfl
theorem d6v {P Q:List AE}(hP:∀y∈P,1<=y.mass)(hQ:∀y∈Q,1<=y.mass):Bl (Bl P++Bl Q)=Bl (P++Q):=by
 have h0:∀L:List AE,(∀y∈L,1<=y.mass)->∀y∈L,0<=y.mass:=λL h y hy=>by have:=h y hy;omega
 refine uX (λy hy=>?_) (λy hy=>?_) ?_
 ·rcases List.mem_append.1 hy with h|h
  ·exact TW hP y h
  ·exact TW hQ y h
 ·rcases List.mem_append.1 hy with h|h
  ·exact hP y h
  ·exact hQ y h
 ·rw[KP,KP,bX (h0 P hP),bX (h0 Q hQ)]
theorem ZE:∀ {L:List AE},(∀y∈L,y.mass=1)->Aq L=(L.length:Int)
 | [],_=>rfl
 |a::L,h=>by
  rw[show Aq (a::L)=a.mass+Aq L from rfl,h a (CM ..),ZE λy hy=>h y (CQ _ hy),Bp];omega
theorem mG {c:List AE}:∀y∈BX c,y.mass=1:=λy hy=>by
 obtain⟨z,hz,rfl,_⟩:=UX y hy;rfl
theorem bM {c L:List AE}(hp:B3 c=0)(hL:∀y∈L,y∈BX c)(hl:L.length<=(BX c).length):(∀y∈Bl L,1<=y.mass/\y.mass<=1000000000/\y.shs.length<=1000000)/\Aq (Bl L)=(L.length:Int):=by
 have h1:∀y∈L,y.mass=1:=λy hy=>mG y (hL y hy)
 have hs:=ZE h1;have hc:=(OY hp).2.2;have hn:=Q1 (l:=c) λy hy=>by have:=((Fh hp).2.1 y hy).1;omega
 have h0:∀y∈Bl L,1<=y.mass:=TW λy hy=>by rw[h1 y hy];exact Int.le_refl _
 refine⟨λy hy=>⟨h0 y hy,?_,?_⟩,by rw[TX,hs]⟩
 ·have:=Vw (λz hz=>by have:=h0 z hz;omega) hy
  rw[TX,hs]at this;omega
 ·obtain⟨z,hz,_,e⟩:=m9 y hy
  obtain⟨w,hw,_,e2⟩:=pH z (hL z hz);rw[e,e2];exact((Fh hp).2.1 w hw).2.2
theorem Wy {x:BK}{c:List AE}{m:Nat}(hc:∀y∈c,1<=y.mass):(Bl (EC x c m)).length<=c.length:=by
 have h0:∀y∈c,0<=y.mass:=λy hy=>by have:=hc y hy;omega
 have e:=bx (l:=c) (low:=(GD x c m:Int)) (left:=(((BX c).length-m:Nat):Int)) h0 (by omega) (by omega);rw[Lx,Lx]at e;have hbl:∀(l:List AE) (a b:Int),(GM l a b).length=l.length:=λl=>by
  induction l with
  |nil=>intro a b;rfl
  |cons z l ih=>intro a b;show(GM l _ _).length+1=_;rw[ih];rfl
 have hbn:∀(l:List AE) (a b:Int),(∀y∈l,0<=y.mass)->0<=a->0<=b->∀y∈GM l a b,0<=y.mass:=λl=>by
  induction l with
  |nil=>intro a b _ _ _ y hy;cases hy
  |cons z l ih=>
   intro a b h ha hb y hy
   have:=h z (CM ..)
   rcases BF.1 hy with rfl|hy
   ·show 0<=min (z.mass-min z.mass a) b;omega
   ·exact ih _ _ (λw hw=>h w (CQ _ hw)) (by omega) (by omega) y hy
 have h2:=uZ (hbn c (GD x c m:Int) (((BX c).length-m:Nat):Int) h0 (by omega) (by omega));rw[e]at h2;show(Bl (((BX c).drop (GD x c m)).take ((BX c).length-m))).length<=_;rw[<-h2];have h3:=o5 (NW (GM c (GD x c m:Int) (((BX c).length-m:Nat):Int)));have h4:(NW (GM c (GD x c m:Int) (((BX c).length-m:Nat):Int))).length<=(GM c (GD x c m:Int) (((BX c).length-m:Nat):Int)).length:=List.length_filter_le ..;rw[hbl]at h4;omega
open Go.Sort
def Kg (x:BK):Bool:=x.cells.all Ga&&(decide (x.flow.length<=100)&&decide (x.cells.length<=20))
theorem mT (x:BK)(hl:x.cells.length<=9223372036854775807)(hs:∀c∈x.cells,c.length<=9223372036854775807/\∀y∈c,y.shs.length<=9223372036854775807):AJ C0 29 [x.D] (Ap (Kg x)):=by
 refine Ag.walk w1 wC rfl λF=>?_
 obtain⟨cs,hcs⟩:∃c,x.cells=c:=⟨_,rfl⟩
 have el:(((cs.map (Al false)).length:Nat):Int)=(cs.length:Int):=by rw[Ac]
 have hb:Kg x=(cs.all Ga&&(decide (x.flow.length<=100)&&decide (cs.length<=20))):=by rw[<-hcs];rfl
 rw[hb];unfold BK.D;rw[hcs]at hl hs⊢;refine AH AW el AB AB AB AB AB AB ?_;refine AC.loop (α:=Nat×Nat) (λp=>⟨[(1,.optr 0 0 5 0 0),(6,Eo false cs),(7,i64 (cs.length:Int)),(8,i64 (p.1:Int))],[⟨0,0,48,5,[.agg [str (sb x.flow),i64 x.core,i64 x.room,i64 x.side,Eo false cs]]⟩],p.2⟩) (λp=>cs.length-p.1) (λq=>q.1<=cs.length/\(cs.take q.1).all Ga=true) (0,_) ⟨BS _,rfl⟩ AK ?_;rintro⟨i,n⟩ F ⟨hi,ha⟩;dsimp only at hi ha⊢;rcases BA i cs.length with h2|h2
 rotate_left
 ·have e1:=Cg h2
  have:i=cs.length:=by omega
  subst this;rw[Cf]at ha;rw[ha,Fq];have hsz:=Cd x.flow;have d1:decide (x.flow.length<=100)=decide ((x.flow.length:Int)<=100):=C4.2 (by omega);have d2:decide (cs.length<=20)=decide ((cs.length:Int)<=20):=C4.2 (by omega);rw[d1,d2];obtain⟨q1,h1⟩:∃q,decide ((x.flow.length:Int)<=100)=q:=⟨_,rfl⟩
  rw[h1];cases q1
  all_goals
   refine AH AW (Dj e1 hsz el h1 kT kF) AB AB AB AB AB AB ?_;exact AL rfl AA.out
 have e1:=Ch h2;have wi:=CZ (i:=i) (by omega);obtain⟨c,hc⟩:=CL h2;have hm:(cs.map (Al false))[i]?=some (.sl false 3 (c.map AE.D)):=by rw[A0,hc];rfl
 obtain⟨hs1,hs2⟩:=hs c (Ax hc);have cS:=uT false c hs1 hs2;have htk:cs.take (i+1)=cs.take i++[c]:=by rw[DW,hc];rfl
 cases hq:Ga c
 ·rw[hq]at cS
  have hall:cs.all Ga=false:=by
   rw[List.all_eq_false];exact⟨c,Ax hc,by rw[hq];exact Bool.false_ne_true⟩
  rw[hall,Gl];refine AH AW (As e1 kT kF) hm cS AB AB AB AB ?_;exact AL rfl AA.out
 ·rw[hq]at cS
  refine AH AW (BV e1 wi kT kF) hm cS AB AB AB AB ?_;exact⟨(i+1,_),⟨h2,by dsimp only;rw[htk,Jm,ha,FX,hq];rfl⟩,by dsimp only;omega,AK⟩
theorem az {x:BK}(h:Kg x=true):x.cells.length<=20/\x.flow.length<=100/\∀c∈x.cells,(∀y∈c,y.lite/\y.modr)/\c.length<=80:=by
 unfold Kg at h;rw[BP,BP,decide_eq_true_iff,decide_eq_true_iff,CS]at h;obtain⟨h1,h2,h3⟩:=h;refine⟨h3,h2,λc hc=>?_⟩;obtain⟨g1,g2,_⟩:=oI (h1 c hc);exact⟨g1,g2⟩
def Kc (l:List AE)(n most:Int):Bool:=decide ((l.length:Int)<=n)&&decide (Aq l<=most)
def M6 (x:BK)(most:Int):Bool:=decide (x.cells.length<=4)&&(decide (Cu x=0)&&x.cells.all λc=>Kc c 6 most)
def O2 (x:BK):Bool:=Kg x&&(decide (Cu x≠0)||M6 x 60)
theorem uH (l:List AE)(n most:Int)(hl:l.length<=1000000)(hf:∀x∈l,x.modr)(hp:B3 l=0):AJ C0 128 [Al false l,i64 n,i64 most] (Ap (Kc l n most)):=by
 refine Ag.walk w1 rT rfl λF=>?_
 have el:(((l.map AE.D).length:Nat):Int)=(l.length:Int):=by rw[Ac]
 have cP:=eK false l hl hf;have cM:=Uv false l (Fh hp).2.2;rw[hp]at cP;have k0:(((0:Nat):Int)==0)=true:=rfl;unfold Kc;obtain⟨a,ha⟩:∃a,decide ((l.length:Int)<=n)=a:=⟨_,rfl⟩
 obtain⟨b,hb⟩:∃b,decide (Aq l<=most)=b:=⟨_,rfl⟩
 rw[ha,hb];cases a
 ·refine AH AW (As el ha k0) AB AB AB AB AB AB ?_
  exact AL rfl AA.out
 ·cases b
  ·refine AH AW (BV el ha hb k0) cP cM AB AB AB AB ?_
   exact AL rfl AA.out
  ·refine AH AW (BV el ha hb k0) cP cM AB AB AB AB ?_
   exact AL rfl AA.out
theorem wM (x:BK)(most:Int)(hl:x.cells.length<=1000000)(hc:∀c∈x.cells,c.length<=1000000/\∀y∈c,y.modr):AJ C0 72 [x.D,i64 most] (Ap (M6 x most)):=by
 refine Ag.walk w1 vP rfl λF=>?_
 have cB:=Tb x hl hc;have hE:M6 x most=(decide (x.cells.length<=4)&&(decide (Cu x=0)&&x.cells.all λc=>Kc c 6 most)):=rfl;have hcl:=@ML x;obtain⟨cs,hcs⟩:∃c,x.cells=c:=⟨_,rfl⟩
 have el:(((cs.map (Al false)).length:Nat):Int)=(cs.length:Int):=by rw[Ac]
 obtain⟨E,hEE⟩:∃E,Cu x=E:=⟨_,rfl⟩
 rw[hE];unfold BK.D at cB⊢;rw[hcs]at cB hcl hl hc⊢;rw[hEE]at cB hcl⊢
 by_cases h4:cs.length<=4
 rotate_left
 ·have k1:decide ((cs.length:Int)>4)=true:=AX (by omega)
  rw[Ad h4,Gl];refine AH AW (Ae el k1) AB AB AB AB AB AB ?_;exact AL rfl AA.out
 have k1:decide ((cs.length:Int)>4)=false:=Ad (by omega);rw[AX h4,Fq]
 by_cases h0:E=0
 rotate_left
 ·have k2:(E != 0)=true:=Hw h0
  rw[Ad h0,Gl];refine AH AW (As el k1 k2) cB AB AB AB AB AB ?_;exact AL rfl AA.out
 have k2:(E != 0)=false:=by rw[h0];rfl
 rw[AX h0,Fq];refine AH AW (As el k1 k2) cB AB AB AB AB AB ?_;refine AC.loop (α:=Nat×Nat) (λp=>⟨[(1,i64 most),(2,.optr 0 0 5 0 0),(5,i64 (p.1:Int))],[⟨0,0,48,5,[.agg [str (sb x.flow),i64 x.core,i64 x.room,i64 x.side,Eo false cs]]⟩],p.2⟩) (λp=>cs.length-p.1) (λq=>q.1<=cs.length/\((cs.take q.1).all λc=>Kc c 6 most)=true) (0,_) ⟨BS _,rfl⟩ AK ?_;rintro⟨i,n⟩ F ⟨hi,ha⟩;dsimp only at hi ha⊢;rcases BA i cs.length with h2|h2
 rotate_left
 ·have e1:=Cg h2
  have:i=cs.length:=by omega
  subst this;rw[Cf]at ha;rw[ha];refine AH AW (Ae e1 el) AB AB AB AB AB AB ?_;exact AL rfl AA.out
 have e1:=Ch h2;have wi:=CZ (i:=i) (by omega);obtain⟨c,hc'⟩:=CL h2;have hm:(cs.map (Al false))[i]?=some (.sl false 3 (c.map AE.D)):=by rw[A0,hc'];rfl
 have hmem:=Ax hc';have cF:=uH c 6 most (hc c hmem).1 (hc c hmem).2 (Io (hcl h0 c hmem)).1;have htk:cs.take (i+1)=cs.take i++[c]:=by rw[DW,hc'];rfl
 cases hq:Kc c 6 most
 ·rw[hq]at cF
  have hall:(cs.all λc=>Kc c 6 most)=false:=by
   rw[List.all_eq_false];exact⟨c,hmem,by rw[hq];exact Bool.false_ne_true⟩
  rw[hall];refine AH AW (CE e1 el kT kF kN) hm cF AB AB AB AB ?_;exact AL rfl AA.out
 ·rw[hq]at cF
  refine AH AW (Dj e1 el wi kT kF kN) hm cF AB AB AB AB ?_;exact⟨(i+1,_),⟨h2,by dsimp only;rw[htk,Jm,ha,FX,hq];rfl⟩,by dsimp only;omega,AK⟩
theorem uS (x:BK)(hl:x.cells.length<=9223372036854775807)(hs:∀c∈x.cells,c.length<=9223372036854775807/\∀y∈c,y.shs.length<=9223372036854775807):AJ C0 23 [x.D] (Ap (O2 x)):=by
 refine Ag.walk w1 vw rfl λF=>?_
 have cS:=mT x hl hs;have hk:=@az x;have cB:=Tb x;have cF:=wM x 60;have hE:O2 x=(Kg x&&(decide (Cu x≠0)||M6 x 60)):=rfl;have hx:∃a b c d e,x.D=.agg [a,b,c,d,e]:=⟨_,_,_,_,_,rfl⟩
 have px:AA x.D:=AI;have px2:AT x.D:=AI;obtain⟨a1,a2,a3,a4,a5,hx⟩:=hx;rw[hx]at cS cB cF px px2⊢;rw[hE];cases hsh:Kg x
 ·rw[hsh]at cS
  rw[Gl];refine AH AW kB cS AB AB AB AB AB ?_;exact AL rfl AA.out
 rw[hsh]at cS;rw[Fq];obtain⟨k1,k2,k3⟩:=hk hsh;have cB:=cB (by omega) λc q=>⟨by have:=(k3 c q).2;omega,λy h=>((k3 c q).1 y h).2⟩
 have cF:=cF (by omega) λc q=>⟨by have:=(k3 c q).2;omega,λy h=>((k3 c q).1 y h).2⟩
 obtain⟨E,hEE⟩:∃E,Cu x=E:=⟨_,rfl⟩
 rw[hEE]at cB⊢
 by_cases h0:E=0
 ·have e2:(E != 0)=false:=by rw[h0];rfl
  rw[Ad (λh=>h h0),Bool.false_or];refine AH AW e2 cS cB cF AB AB AB ?_;exact AL rfl AA.out
 ·have e2:(E != 0)=true:=Hw h0
  rw[AX h0,Bool.true_or];refine AH AW e2 cS cB AB AB AB AB ?_;exact AL rfl AA.out
structure bp (x:BK)(m:Int):Prop where
 n:x.cells.length<=4
 len:∀c∈x.cells,c.length<=6
 mass:∀c∈x.cells,Aq c<=m
 bin:Cu x=0
theorem pn {x:BK}{m:Int}(h:M6 x m=true):bp x m:=by
 unfold M6 at h;rw[BP,BP,decide_eq_true_iff,decide_eq_true_iff,CS]at h;obtain⟨h1,h2,h3⟩:=h;have h4:∀c∈x.cells,(c.length:Int)<=6/\Aq c<=m:=λc hc=>by
  have:=h3 c hc
  unfold Kc at this
  rwa [BP,decide_eq_true_iff,decide_eq_true_iff]at this
 exact⟨h1,λc hc=>by have:=(h4 c hc).1;omega,λc hc=>(h4 c hc).2,h2⟩
abbrev QU:Dr:=[(1,[0,1,2,3,4],[5,6]),(6,[0,1,2,3,4,5,6,7,8,9,10],[11,12])]
open Go.Proofs Go.RowKit
set_option maxRecDepth 20000
set_option maxHeartbeats 4000000
theorem T4 (x:BK):x.D=.agg [str (sb x.flow),i64 x.core,i64 x.room,i64 x.side,.sl false 1 (x.cells.map (Al false))]:=rfl
theorem TT {x:BK}{i:Nat}{c:List AE}(h:Cu x=0)(hc:x.cells[i]?=some c):(Bj x).getD i 0=Aq c:=by
 rw[(Mg h).1,Da,A0,hc];rfl
theorem pE {x:BK}{c:List AE}(h:EM x c=0):C9 (Bl c)=Aq c:=by
 have p:=Io h;have hn:=Fh p.1
 have:=XL hn.2.1 (by omega) (by omega)
 rw[J9 this.1,this.2.2]
theorem mV {x:BK}{i:Nat}{L:List AE}(h:Cu x=0):Bj (E7 x i L)=(Bj x).set i (C9 L):=by
 show List.map C9 ((x.cells.map Bl).set i L)=_;rw[List.map_set,List.map_map,(Mg h).1]
 congr 1
 exact NH λc hq=>pE (ML h c hq)
theorem pF {c L:List AE}(hp:B3 c=0)(hL:∀y∈L,y∈BX c)(hl:L.length<=(BX c).length)(hn:(Bl L).length<=1000000):C9 (Bl L)=(L.length:Int):=by
 obtain⟨h1,h2⟩:=bM hp hL hl;rw[J9 ⟨hn,λy hy=>by have:=h1 y hy;omega⟩,h2]
theorem mU {x:BK}{i:Nat}{c:List AE}{m:Nat}(h:Cu x=0)(hc:x.cells[i]?=some c)(hm:m<=(BX c).length):Bj (E7 x i (Bl (EC x c m)))=(Bj x).set i ((Bj x).getD i 0-m):=by
 have hce:=Io (ML h c (Ax hc));have hpn:=Fh hce.1;have hr:=Wy (x:=x) (c:=c) (m:=m) λy hy=>(hpn.2.1 y hy).1
 have hn:=Q1 (l:=c) λy hy=>by have:=(hpn.2.1 y hy).1;omega
 rw[mV h,pF hce.1 TF (by rw[N6 hm];omega) (by omega),N6 hm,TT h hc,<-hn]
 congr 1
 omega
theorem ug (x:BK)(i:Nat)(hi:i<x.cells.length)(h:Cu x=0):AJ C0 28 [x.D,i64 (i:Int)] (i64 (LQ x.room x.side (Bj x) i)):=by
 refine Ag.walk w1 wB rfl λF=>?_
 obtain⟨s1,s2,s3,s4⟩:=P7 h;have hll:(Bj x).length=x.cells.length:=Ac ..;have hE:=oo (ls:=Bj x) (room:=x.room) (side:=x.side) (c:=i) (by omega);have hv:∀v∈Bj x,0<=v/\v<=999999999/\v<=x.room:=(Mg h).2;have hlv:∀k:Nat,k<x.cells.length->AJ C0 33 [x.D,i64 (k:Int)] (i64 ((Bj x).getD k 0))/\0<=(Bj x).getD k 0/\(Bj x).getD k 0<=999999999/\(Bj x).getD k 0<=x.room:=λk hk=>by
  obtain⟨c,hc⟩:=CL hk;refine⟨?_,hv _ (Ax (KM (by omega)))⟩;rw[TT h hc];exact Qz x k c hc (Fh (Io (ML h c (Ax hc))).1).2.2 (by omega)
 rw[hll]at hE;have cA:=λu v=>be u v
 have el:(((x.cells.map (Al false)).length:Nat):Int)=(x.cells.length:Int):=by rw[Ac]
 obtain⟨N,hN⟩:∃n,x.cells.length=n:=⟨_,rfl⟩
 rw[hN]at hi hlv hE el s4;obtain⟨ls,hls⟩:∃l,Bj x=l:=⟨_,rfl⟩
 rw[hls]at hlv hE⊢;have pX:AA x.D:=AI;have cX:AT x.D:=AI;rw[T4]at hlv pX cX⊢;obtain⟨XD,hXD⟩:∃X,x.cells.map (Al false)=X:=⟨_,rfl⟩
 rw[hXD]at hlv el pX cX⊢;obtain⟨cLi,b1,b2,b3⟩:=hlv i hi;have u0:IntKind.i64.wrap (x.room-ls.getD i 0)=x.room-ls.getD i 0:=wI (by omega) (by omega);refine AH QU u0 cLi AB AB AB AB AB ?_;refine AC.loop (α:=Nat×Nat) (λp=>⟨[(1,i64 (i:Int)),(2,.optr 0 0 5 0 0),(5,i64 (I7 ls x.room x.side i p.1)),(6,i64 (p.1:Int))],[⟨0,0,48,5,[.agg [str (sb x.flow),i64 x.core,i64 x.room,i64 x.side,.sl false 1 XD]]⟩],p.2⟩) (λp=>N-p.1) (λq=>q.1<=N) (0,_) (BS _) AK ?_;rintro⟨k,n⟩ F hk;dsimp only at hk⊢;rcases BA k N with h2|h2
 rotate_left
 ·have e1:=Cg h2
  have:k=N:=by omega
  subst this;rw[hE];refine AH QU (Ae e1 el) AB AB AB AB AB AB ?_;exact AL rfl AA.out
 have e1:=Ch h2;have wi:=CZ (i:=k) (by omega);obtain⟨cLk,d1,d2,d3⟩:=hlv k h2;have hs:I7 ls x.room x.side i (k+1)=if k+1=i\/k=i+1 then min (I7 ls x.room x.side i k) (ls.getD k 0+x.side-ls.getD i 0)else I7 ls x.room x.side i k:=rfl
 obtain⟨S,hS⟩:∃S,I7 ls x.room x.side i k=S:=⟨_,rfl⟩
 rw[hS]at hs⊢;have ca:=cA (k:Int) (i:Int);rw[show max (IntKind.i64.wrap ((k:Int)-(i:Int))) (IntKind.i64.wrap ((i:Int)-(k:Int)))=max ((k:Int)-i) ((i:Int)-k) by rw[wI (by omega) (by omega),wI (by omega) (by omega)]]at ca
 by_cases hq:k+1=i\/k=i+1
 ·have q1:(max ((k:Int)-i) ((i:Int)-k)==1)=true:=by
   rw[show max ((k:Int)-i) ((i:Int)-k)=1 by omega];rfl
  rw[AG hq]at hs;have u1:IntKind.i64.wrap (ls.getD k 0+x.side)=ls.getD k 0+x.side:=wI (by omega) (by omega);have u2:IntKind.i64.wrap (ls.getD k 0+x.side-ls.getD i 0)=ls.getD k 0+x.side-ls.getD i 0:=wI (by omega) (by omega);refine AH QU (Dj e1 el q1 u1 u2 wi) ca cLk cLi AB AB AB ?_;refine⟨(k+1,n+1000),h2,by dsimp only;omega,?_⟩;dsimp only;rw[hs];exact AK
 ·have q1:(max ((k:Int)-i) ((i:Int)-k)==1)=false:=Bu.2 (by omega)
  rw[AF hq]at hs;refine AH QU (BV e1 el q1 wi) ca AB AB AB AB AB ?_;refine⟨(k+1,n+1000),h2,by dsimp only;omega,?_⟩;dsimp only;rw[hs];exact AK
theorem wO (x:BK)(i:Nat)(c:List AE)(hc:x.cells[i]?=some c)(h:Cu x=0)(hm:Aq c<=100000):AJ C0 27 [x.D,i64 (i:Int)] (i64 (G5 x.side (Bj x) i)):=by
 refine Ag.walk w1 wA rfl λF=>?_
 obtain⟨s1,s2,s3,s4⟩:=P7 h;have hll:(Bj x).length=x.cells.length:=Ac ..;have hcb:=ML h;have hce:=Io (hcb c (Ax hc));have hpn:=Fh hce.1;have hi:=(List.getElem?_eq_some_iff.1 hc).1;have hv:∀v∈Bj x,0<=v/\v<=1000000000:=λv hq=>by have:=(Mg h).2 v hq;omega
 have hst:=(Zm h).2;have hgi:=TT h hc;have hn:=Q1 (l:=c) λy hy=>by have:=(hpn.2.1 y hy).1;omega
 obtain⟨n0,hn0⟩:∃n,(BX c).length=n:=⟨_,rfl⟩
 rw[hn0]at hn;have cLv:=Qz x i c hc hpn.2.2 (by omega);rw[<-hn]at cLv;have hM1:=oS x.side (Bj x) i;have hM0:=oT (i:=i) ⟨s1,by omega⟩ hv (by omega) hst;have hset:=λ(m:Nat) (h:m<=n0)=>ZC (m:=(m:Int)) (i:=i) ⟨s1,by omega⟩ hv (by omega) hst ⟨by omega,by omega⟩
 have hmass:∀y∈c,0<=y.mass/\y.mass<=100000:=λy hy=>by
  have h0:∀z∈c,0<=z.mass:=λz hz=>by have:=(hpn.2.1 z hz).1;omega
  have:=Vw h0 hy
  exact⟨h0 y hy,by omega⟩
 have hN:∀d∈x.cells,AJ C0 40 [Al false d] (Al false (Bl d)):=λd hq=>by
  have:=Fh (Io (hcb d hq)).1
  exact Td false d (by omega) this.2.1
 have cD:=λ(m:Nat) (hq:m<=n0)=>wJ x i c hc (by omega) (by omega) hmass (λy hy=>(hpn.2.1 y hy).2.2) (mu h) (by omega) hN m (by omega)
 have cS:=λ(m:Nat) (hq:m<=n0)=>dm (E7 x i (Bl (EC x c m))) (by
  show((x.cells.map Bl).set _ _).length<=_;rw[DQ,Ac];omega) (λd hq2=>by
   rcases Rq hq2 with hd|hd
   ·obtain⟨e,he,rfl⟩:=List.mem_map.1 hd
    have pe:=Io (hcb e he)
    have:=XL (Fh pe.1).2.1 (by have:=(Fh pe.1).1;omega) (by omega)
    exact⟨this.1,this.2.1,by omega⟩
   ·rw[hd]
    obtain⟨g1,g2⟩:=bM (L:=EC x c m) hce.1 TF (by rw[N6 (by omega)];omega);have g3:=Wy (x:=x) (c:=c) (m:=m) λy hy=>(hpn.2.1 y hy).1
    have g4:=N6 (x:=x) (c:=c) (m:=m) (by omega);exact⟨⟨by omega,λy hy=>by have:=g1 y hy;omega⟩,by omega,by omega⟩) ⟨s1,s2⟩
 have hsf:∀m:Nat,m<=n0->(E9 x.side (Bj (E7 x i (Bl (EC x c m))))=false↔(m:Int)<=G5 x.side (Bj x) i):=λm hq=>by
  rw[mU h hc (by omega)];exact hset m hq
 have hdD:∀m:Nat,∃e,(E7 x i (Bl (EC x c m))).D=.agg [str (sb x.flow),i64 x.core,i64 x.room,i64 x.side,.sl false 1 e]/\AA (E7 x i (Bl (EC x c m))).D/\AT (E7 x i (Bl (EC x c m))).D:=λm=>⟨_,rfl,AI,AI⟩
 obtain⟨M,hM⟩:∃M,G5 x.side (Bj x) i=M:=⟨_,rfl⟩
 rw[hM]at hM1 hM0 hsf⊢;have pX:AA x.D:=AI;have cX:AT x.D:=AI;rw[T4]at cLv pX cX⊢;have cD:=λm hq=>(T4 x) ▸ cD m hq
 obtain⟨XD,hXD⟩:∃X,x.cells.map (Al false)=X:=⟨_,rfl⟩
 rw[hXD]at cLv cD pX cX⊢;refine AH AW kB cLv AB AB AB AB AB ?_;refine AC.loop (α:=Nat×Nat) (λp=>⟨[(1,i64 (i:Int)),(2,.optr 0 0 5 0 0),(5,i64 (p.1:Int))],[⟨0,0,48,5,[.agg [str (sb x.flow),i64 x.core,i64 x.room,i64 x.side,.sl false 1 XD]]⟩],p.2⟩) (λp=>p.1) (λq=>q.1<=n0/\M<=q.1) (n0,_) ⟨Ai _,by dsimp only;omega⟩ AK ?_;rintro⟨m,n⟩ F ⟨hm1,hm2⟩;dsimp only at hm1 hm2⊢
 by_cases h0:m=0
 ·subst h0
  have k0:decide (((0:Nat):Int)>0)=false:=rfl;refine AH AW k0 AB AB AB AB AB AB ?_;exact AL (by rw[show M=0 by omega]) AA.out
 have k0:decide ((m:Int)>0)=true:=AX (by omega);have wm:IntKind.i64.wrap ((m:Int)-1)=((m-1:Nat):Int):=by rw[wI (by omega) (by omega)];omega
 have cD:=cD m hm1;have cS:=cS m hm1;have hsf:=hsf m hm1;obtain⟨e,he,pe,ce⟩:=hdD m;rw[he]at cD cS pe ce;cases hst2:E9 x.side (Bj (E7 x i (Bl (EC x c m))))
 ·have hle:=hsf.1 hst2
  rw[show(E7 x i (Bl (EC x c m))).side=x.side from rfl,hst2]at cS;refine AH AW (As k0 kT kF) cD cS AB AB AB AB ?_;exact AL (by rw[show M=(m:Int) by omega]) AA.out
 ·have hle:¬(m:Int)<=M:=λq=>by rw[hsf.2 q]at hst2;cases hst2
  rw[show(E7 x i (Bl (EC x c m))).side=x.side from rfl,hst2]at cS;refine AH AW (BV k0 wm kT kF) cD cS AB AB AB AB ?_;exact⟨(m-1,n+1000),⟨by dsimp only;omega,by dsimp only;omega⟩,by dsimp only;omega,AK⟩
theorem xM {x:BK}(h:O2 x=true):Kg x=true/\(Cu x=0->bp x 60):=by
 unfold O2 at h;rw[BP,Jl,decide_eq_true_iff]at h;obtain⟨h1,h2⟩:=h;refine⟨h1,λh0=>?_⟩;rcases h2 with h2|h2
 ·exact Ah h0 h2
 ·exact pn h2
theorem uK (ha:AJ C0 10 [] (Ap true))(x:BK)(hl:x.cells.length<=9223372036854775807)(hs:∀c∈x.cells,c.length<=9223372036854775807/\∀y∈c,y.shs.length<=9223372036854775807)(i:Int):AJ C0 4 [x.D,i64 i] (Ap true):=by
 refine Ag.walk w1 x8 rfl λF=>?_
 have cS:=uS x hl hs;have hk:=@xM x;have hk2:=@az x;have cM:=wF x i;have cP:=tn x i;have cC:=oM x;have cRM:=wO x i.toNat;have cRS:=ug x i.toNat;have hz:=@Tx x i;have hM:Uy x i=if Eb x [i]≠0 then 0 else G5 x.side (Bj x) i.toNat:=rfl
 have hS:Ue x i=if Eb x [i]≠0 then 0 else LQ x.room x.side (Bj x) i.toNat:=rfl
 have hx:∃a b c d e,x.D=.agg [a,b,c,d,e]:=⟨_,_,_,_,_,rfl⟩
 have px:AA x.D:=AI;have px2:AT x.D:=AI;obtain⟨a1,a2,a3,a4,a5,hx⟩:=hx;rw[hx]at cS cM cP cC cRM cRS px px2⊢;cases hsh:O2 x
 ·rw[hsh]at cS
  refine AH AW kB cS ha AB AB AB AB ?_;exact AL rfl AA.out
 rw[hsh]at cS;obtain⟨q1,q2⟩:=hk hsh;obtain⟨k1,k2,k3⟩:=hk2 q1;have hfw:∀c∈x.cells,c.length<=1000000/\∀y∈c,y.few:=λc q=>⟨by have:=(k3 c q).2;omega,λy h=>((k3 c q).1 y h).1.1⟩
 have cM:=cM (by omega) hfw;have cP:=cP (by omega) hfw;have cC:=cC (by omega) (λc q=>⟨by have:=(k3 c q).2;omega,λy h=>((k3 c q).1 y h).2⟩) i;obtain⟨E,hE⟩:∃E,Eb x [i]=E:=⟨_,rfl⟩
 rw[hE]at cM cP cC hz hM hS;have n1:(E==E)=true:=beq_self_eq_true _
 by_cases h0:E=0
 rotate_left
 ·have e1:(E != 0)=true:=Hw h0
  rw[AG h0]at hM hS;rw[hM]at cM;rw[hS]at cP;have z0:((0:Int)==0)=true:=rfl;refine AH AW (CE e1 n1 z0 kT kF) cS cM cP cC ha AB ?_;exact AL rfl AA.out
 obtain⟨g1,g2,g3⟩:=hz h0;rw[AF (λq=>q h0)]at hM hS;subst h0;have e1:((0:Int) != 0)=false:=rfl;have z0:((0:Int)==0)=true:=rfl;have hi:i.toNat<x.cells.length:=by omega
 have ii:((i.toNat:Nat):Int)=i:=by omega
 obtain⟨c,hc⟩:=CL hi;have hsm:=(q2 g1).mass c (Ax hc);have cRM:=cRM c hc g1 (by omega);have cRS:=cRS hi g1;rw[ii]at cRM cRS;rw[hM]at cM;rw[hS]at cP;obtain⟨M,hMM⟩:∃M,G5 x.side (Bj x) i.toNat=M:=⟨_,rfl⟩
 obtain⟨S,hSS⟩:∃M,LQ x.room x.side (Bj x) i.toNat=M:=⟨_,rfl⟩
 rw[hMM]at cM cRM;rw[hSS]at cP cRS;have n2:(M==M)=true:=beq_self_eq_true _;have n3:(S==S)=true:=beq_self_eq_true _;refine AH AW (Dj e1 z0 n2 n3 kT kF) cS cM cP cC cRM cRS ?_;refine AH AW kB ha AB AB AB AB AB ?_;exact AL rfl AA.out
def tA:List UInt8:=[97]
def tB:List UInt8:=[98]
def El:List UInt8:=[119,104,101,97,116]
def MS:List UInt8:=[102,117,110,110,101,108]
def Cn (m:Int):AE:=⟨El,m,[⟨tA,[49]⟩]⟩
def C8 (m:Int):AE:=⟨El,m,[⟨tA,[49,47,50]⟩,⟨tB,[49,47,50]⟩]⟩
def E2 (x:AE):D:=.agg [str (sb x.grain),i64 x.mass,.sl true 2 (x.shs.map Au.D)]
def fT:D:=.agg [str (sb MS),i64 4,i64 30,i64 12,.sl true 1 [.sl true 3 [E2 (Cn 10),E2 (C8 6)],.sl true 3 [E2 (Cn 5)]]]
theorem vo:AJ C0 47 [] fT:=CD DT 400 40 (by kernel_rfl)
def Lo (d d':D):Prop:=∀(ρ:Lk) (O:Nat->Prop) (w:World) (v:Value),AV ρ O w d v->AV ρ O w d' v
theorem Lo.refl (d:D):Lo d d:=λ_ _ _ _ h=>h
theorem Lo.agg {ds ds':List D}(hl:ds.length=ds'.length)(h:∀(i:Nat) (d d':D),ds[i]?=some d->ds'[i]?=some d'->Lo d d'):Lo (.agg ds) (.agg ds'):=λρ O w v hv=>by
 cases hv with
 |agg hn ho hd=>
  refine .agg (hn.trans hl) ho λi d' hd'=>?_
  have hi:i<ds.length:=by rw[hl];exact(List.getElem?_eq_some_iff.1 hd').1
  exact h i _ d' (BE hi) hd' _ _ _ _ (hd i _ (BE hi))
theorem Lo.tup {ds ds':List D}(hl:ds.length=ds'.length)(h:∀(i:Nat) (d d':D),ds[i]?=some d->ds'[i]?=some d'->Lo d d'):Lo (.tup ds) (.tup ds'):=λρ O w v hv=>by
 cases hv with
 |tup hn hd=>
  refine .tup (hn.trans hl) λi d' hd'=>?_
  have hi:i<ds.length:=by rw[hl];exact(List.getElem?_eq_some_iff.1 hd').1
  exact h i _ d' (BE hi) hd' _ _ _ _ (hd i _ (BE hi))
def NZ (e e':D):Prop:=e'.cells.length=e.cells.length/\∀(j:Nat) (d d':D),e.cells[j]?=some d->e'.cells[j]?=some d'->Lo d d'
theorem Lo.sl {b:Bool}{sz:Nat}{es es':List D}(hl:es.length=es'.length)(hc:∀(i:Nat) (e e':D),es[i]?=some e->es'[i]?=some e'->NZ e e'):Lo (.sl b sz es) (.sl false sz es'):=λρ O w v hv=>by
 cases hv with
 |nil=>
  have:es'=[]:=List.length_eq_zero_iff.1 hl.symm
  subst this;exact .nil sz
 |emp a=>
  have:es'=[]:=List.length_eq_zero_iff.1 hl.symm
  subst this;exact .emp a
 |sl f hl' hc' hO hb hz hcell ho h=>
  have hx:∀(i:Nat) (e':D),es'[i]?=some e'->∃e,es[i]?=some e/\NZ e e':=λi e' he'=>by
   have hi:i<es.length:=by rw[hl];exact(List.getElem?_eq_some_iff.1 he').1
   exact⟨_,BE hi,hc i _ e' (BE hi) he'⟩
  refine .sl f (hl.symm.trans hl') hc' hO hb (λi e' he'=>?_) hcell ho λi e' j d' he' hd'=>?_
  ·obtain⟨e,he,h1,h2⟩:=hx i e' he'
   rw[h1];exact hz i e he
  ·obtain⟨e,he,h1,h2⟩:=hx i e' he'
   have hj:j<e.cells.length:=by rw[<-h1];exact(List.getElem?_eq_some_iff.1 hd').1
   exact h2 j _ d' (BE hj) hd' _ _ _ _ (h i e j _ he (BE hj))
def loosen:Nat->D->D
 | 0,d=>d
 |n+1,.agg ds=>.agg (ds.map (loosen n))
 |n+1,.tup ds=>.tup (ds.map (loosen n))
 |n+1,.sl _ sz es=>.sl false sz (es.map (loosen n))
 |_+1,d=>d
theorem T5 {f:D->D}(hf:∀d,Lo d (f d))(ds:List D)(i:Nat)(d d':D)(h:ds[i]?=some d)(h':(ds.map f)[i]?=some d'):Lo d d':=by
 rw[A0,h]at h';cases h';exact hf d
theorem XH:∀n:Nat,(∀d,Lo d (loosen n d))/\∀e,NZ e (loosen n e)
 | 0=>⟨λd=>.refl d,λe=>⟨rfl,λj d d' h h'=>by
   have:d=d':=by
    have:=h.symm.trans h'
    injection this
   subst this;exact .refl d⟩⟩
 |n+1=>by
  obtain⟨h1,h2⟩:=XH n;have hs:∀(es:List D) (i:Nat) (e e':D),es[i]?=some e->(es.map (loosen n))[i]?=some e'->NZ e e':=λes i e e' h h'=>by
   rw[A0,h]at h';cases h';exact h2 e
  have hL:∀d,Lo d (loosen (n+1) d):=λd=>by
   cases d with
   |agg ds=>exact .agg (by simp) (T5 h1 ds)
   |tup ds=>exact .tup (by simp) (T5 h1 ds)
   |sl b sz es=>exact .sl (by simp) (hs es)
   |_=>exact .refl _
  refine⟨hL,λe=>?_⟩;have one:e.cells=[e]->(loosen (n+1) e).cells=[loosen (n+1) e]->NZ e (loosen (n+1) e):=λa b=>by
   refine⟨by rw[a,b];rfl,λj d d' h h'=>?_⟩;rw[a]at h;rw[b]at h'
   match j with
   | 0=>cases h;cases h';exact hL e
   |j+1=>cases h
  cases e with
  |agg ds=>exact⟨by simp[loosen,D.cells],λj d d' h h'=>T5 h1 ds j d d' h h'⟩
  |_=>exact one rfl rfl
theorem AJ.loosen {C:BC}{f:Nat}{args:List D}{d:D}(h:AJ C f args d)(n:Nat):AJ C f args (loosen n d):=
 ⟨h.1,λX w vs a b c e g=>(h.2 X w vs a b c e g).mono λ_ _ ⟨v,d,h1,h2,h3,h4⟩=>⟨v,_,h1,h2,rfl,by subst h3;exact(XH n).1 _ _ _ _ _ h4⟩⟩
section
variable {C:BC} {F B:Ab} {ops:Array Oper} {rd:Option Nat}
theorem kL {K1:St->Prop}{Q:Exit->Act->World->Prop}{l2:List Nat}(h2:∀(s1:St) (ρ:Lk) (a:Act) (w:World),K1 s1->Bk C F ρ s1 a w->wpOps C.P ops Q l2 a w):∀(l:List Nat) (a:Act) (w:World),wpOps C.P ops (Kv C F K1) l a w->wpOps C.P ops Q (l++l2) a w:=by
 intro l
 induction l with
 |nil=>rintro a w ⟨_,s',ρ',hq,hs'⟩;exact h2 s' ρ' a w hq hs'
 |cons i l ih=>
  intro a w h;simp only[D5,wpOps]at h⊢;cases ho:ops[i]? with
  |none=>simp only[ho]at h⊢;exact ih a w h
  |some o=>
   simp only[ho]at h⊢;split
   ·rename_i hw
    rw[AG hw]at h;rcases h with h|⟨_,⟨a0,w0,h0⟩⟩
    ·refine .inl ?_
     unfold Oper.wp Oper.upon at h⊢;split<;>rename_i hr<;>simp only[hr]at h
     ·exact ih _ _ h
     ·exact ih _ _ h
     ·exact ih _ _ h
     ·refine Calls.mono h λe w'' he=>?_
      cases e with
      |returned v=>exact ih _ _ he
      |panicked c=>cases he.1
      |outgrown=>obtain⟨a0,w0,h0⟩:=he;cases h0.1
     ·exact Rows.mono h λ_ _ he=>ih _ _ he
     ·cases h.1
    ·cases h0.1
   ·rename_i hw
    rw[AF hw]at h;exact ih _ _ h
theorem yH {K:St->Prop}{os1 os2:List Oper}{s:St}(h:BH C F ops os1 s (λs1=>BH C F ops os2 s1 K)):BH C F ops (os1++os2) s K:=by
 intro hd l hl ρ a w hs;rw[Jm,BP]at hd;have hlen:l.length=os1.length+os2.length:=by
  have:=congrArg List.length hl
  simpa using this
 obtain⟨l1,l2,rfl,e1⟩:∃l1 l2,l=l1++l2/\l1.length=os1.length:=⟨l.take os1.length,l.drop os1.length,(Ev _ _).symm,by rw[Bb];omega⟩
 rw[Cs,Cs]at hl;obtain⟨h1,h2⟩:=List.append_inj hl (by simpa using e1);exact kL (λs1 ρ a w hk hs=>hk hd.2 l2 h2 ρ a w hs) l1 a w (h hd.1 l1 h1 ρ a w hs)
theorem yn {X:EV}{i:Nat}{s:St}{Q:Exit->Ab->St->Prop}(hX:DO C X)(hnd:EY ops.toList=true)(h:BH C F ops ((List.range ops.size).map λj=>ops.getD j default) s (Q .normal F)):AC C B rd F (.region i ops false) s Q:=by
 refine⟨λhB hd ρ a w hs=>wpIn_region ?_⟩;have hd:=KJ hB hd;have h1:=BH.run h (λj hj=>List.mem_range.1 hj) hd hs
 have:=FL (rd:=rd) (Q:=E6 C B Q) (l2:=[]) (λ_ _ _ h=>J8 hB (λ_ h=>h) h) (H3 hnd) _ a w h1
 rwa [DB]at this
def VK (C:BC)(F:Ab)(X:EV)(kb:Nat)(ops:Array Oper):List (List Nat×Nat)->List Nat->St->(St->Prop)->Prop
 | [],l,s,K=>Cy C X kb ops l s True λacc s=>acc/\K s
 |(l1,i)::r,l,s,K=>Cy C X kb ops l1 s True λacc s1=>acc/\∃d,(∀(os:List Oper) (K':St->Prop),BH C F ops os ⟨Ba s1.env (ops.getD i default).dst d,s1.H,s1.n+1⟩ K'->BH C F ops (ops.getD i default::os) s1 K')/\VK C F X kb ops r l ⟨Ba s1.env (ops.getD i default).dst d,s1.H,s1.n+1⟩ K
def PQ:List (List Nat×Nat)->List Nat->List Nat
 | [],l=>l
 |(l1,i)::r,l=>l1++i::PQ r l
theorem Y7 {X:EV}(hX:DO C X){kb:Nat}{K:St->Prop}:∀(r:List (List Nat×Nat)) (l:List Nat) (s:St),VK C F X kb ops r l s K->BH C F ops ((PQ r l).map λj=>ops.getD j default) s K
 | [],l,s,h=>(FM hX (λacc s h=>h) h).2
 |(l1,i)::r,l,s,h=>by
  show BH C F ops ((l1++i::PQ r l).map _) s K;rw[Cs,Ct];refine yH ?_;refine(FM (K':=λs1=>BH C F ops (ops.getD i default::(PQ r l).map λj=>ops.getD j default) s1 K) hX (λacc s1 h=>⟨h.1,?_⟩) h).2;obtain⟨d,h1,h2⟩:=h.2;exact h1 _ _ (Y7 hX r l _ h2)
theorem yo {X:EV}{i:Nat}{s:St}{Q:Exit->Ab->St->Prop}(hX:DO C X)(kb:Nat)(r:List (List Nat×Nat))(l:List Nat)(hl:List.range ops.size=PQ r l)(hnd:EY ops.toList=true)(h:VK C F X kb ops r l s (Q .normal F)):AC C B rd F (.region i ops false) s Q:=
 yn hX hnd (by rw[hl];exact Y7 hX r l s h)
def T2 (P:Program) (t:Nat):Prop:=∃(f1 f2:Field) (k1 k2:IntKind),P.underlying t=some (.struct #[f1,f2])/\P.stoodInHeld t=false/\P.eqGuardType P.depth t=false/\f1.name ≠ "_"/\f1.offset=0/\P.underlying f1.type=some (.int k1)/\f2.name ≠ "_"/\f2.offset=1/\P.underlying f2.type=some (.int k2)
theorem V7 {P:Program} {w:World} (d:Nat) {xs ys:Array Value} {f:Field} {fs:List Field} {i:Nat} {ka k:IntKind} {x y:Int} {b:Bool} (f1:f.name ≠ "_") (f2:f.offset=i) (f3:P.underlying f.type=some (.int k)) (hxa:xs[i]?=some (.int ka x)) (hya:ys[i]?=some (.int ka y))
  (ih:(Op.eqFields (d+1) xs ys fs).run P w=.ok b w):(Op.eqFields (d+1) xs ys (f::fs)).run P w=.ok (x==y&&b) w:=by
 have ag:(isAgg f.type).run P w=.ok false w:=by
  unfold isAgg;rw[run_bind,Ck f3];rfl
 have part1:(part f.type xs f.offset).run P w=.ok (.int ka x) w:=by
  unfold part;rw[run_bind,ag];dsimp only;rw[AF (by simp),f2];simp only[hxa];rfl
 have part2:(part f.type ys f.offset).run P w=.ok (.int ka y) w:=by
  unfold part;rw[run_bind,ag];dsimp only;rw[AF (by simp),f2];simp only[hya];rfl
 simp only[Op.eqFields];rw[AG f1,run_bind,part1];dsimp only;rw[run_bind,part2];dsimp only;rw[run_bind,run_equalIn_int w d f.type ka k x y f3];dsimp only;cases hb:x==y with
 |true=>simpa using ih
 |false=>rfl
theorem fG {o:Oper}{os:List Oper}{s:St}{K:St->Prop}{t tt:Nat}{x y:Operand}{a1 a2 b1 b2:Int}(hw:CC ops s.env o=some true)(ho:o.op=.binOp .neq t x y tt)(hT:T2 C.P t)(hx:BG s.env x=.agg [i64 a1,i64 a2])(hy:BG s.env y=.agg [i64 b1,i64 b2])
  (h:BH C F ops os ⟨Ba s.env o.dst (Ap (!(a1==b1&&(a2==b2&&true)))),s.H,s.n+1⟩ K):BH C F ops (o::os) s K:=
 BH.step hw (λρ a w hs=>by
  refine⟨_,ρ,w,.inl ?_,PY.pure hs (.prim _),λe he=>DE (hs.gen e he)⟩;have rx:=DF hs.env x;have ry:=DF hs.env y;rw[hx]at rx;rw[hy]at ry;unfold execOp;simp only[ho];generalize a.eval x=vx at rx⊢;generalize a.eval y=vy at ry⊢;cases rx with
  |agg n1 o1 r1=>
   cases ry with
   |agg n2 o2 r2=>
    rename_i xs ys;obtain⟨f1,f2,k1,k2,c1,c2,c3,c4,c5,c6,c7,c8,c9⟩:=hT;have at_:∀ {vs:Array Value} {u1 u2:Int},vs.size=[i64 u1,i64 u2].length->(∀(i:Nat) (d:D),[i64 u1,i64 u2][i]?=some d->AV ρ (AN F.X ρ s.H) w d (vs.getD i undef))->vs[0]?=some (.int .i64 u1)/\vs[1]?=some (.int .i64 u2):=λ{vs u1 u2} n r=>by
     have q0:=r 0 _ rfl;have q1:=r 1 _ rfl;have m0:0<vs.size:=by rw[n];exact Nat.zero_lt_succ _
     have m1:1<vs.size:=by rw[n];exact HK _
     rw[Az,Bn m0,IV]at q0;rw[Az,Bn m1,IV]at q1;rw[Bn m0,Bn m1];generalize vs[0]=z0 at q0;generalize vs[1]=z1 at q1;cases q0;cases q1;exact⟨rfl,rfl⟩
    obtain⟨x0,x1⟩:=at_ n1 r1;obtain⟨y0,y1⟩:=at_ n2 r2;have eqf:C.P.fieldsOf t = #[f1,f2]:=by unfold Program.fieldsOf;rw[c1]
    have run:(Op.equalIn 10000 t (.agg xs) (.agg ys)).run C.P w=.ok (a1==b1&&(a2==b2&&true)) w:=by
     rw[show(10000:Nat)=9998+1+1 from rfl,run_equalIn_struct w _ t xs ys (by rw[eqf];exact c1) c2,eqf];exact V7 9998 c4 c5 c6 x0 y0 (V7 9998 c7 c8 c9 x1 y1 rfl)
    have r3:(do eqGuard .neq t x y (.agg xs) (.agg ys);binOp .neq t (.agg xs) (.agg ys):Sem Value).run C.P w=.ok (.bool (!(a1==b1&&(a2==b2&&true)))) w:=by
     rw[run_bind,run_eqGuard_agg w .neq t x y xs ys c3];dsimp only;rw[run_neq_struct,run];rfl
    rw[run_bind,r3];rfl) h
end
def RZ (P:Program)(t:Nat):Bool:=match P.underlying t with
 |some (.int _)=>true
 |_=>false
theorem YV {P:Program}{t:Nat}(h:RZ P t=true):∃k,P.underlying t=some (.int k):=by
 unfold RZ at h;split at h
 ·rename_i k hk;exact⟨k,hk⟩
 ·cases h
def fe (P:Program):List Field->Bool
 | [f1,f2]=>(f1.name != "_")&&Nat.beq f1.offset 0&&RZ P f1.type&&(f2.name != "_")&&Nat.beq f2.offset 1&&RZ P f2.type
 |_=>false
def fY (P:Program)(t:Nat):Bool:=match P.underlying t with
 |some (.struct fs)=>!(P.stoodInHeld t) && !(P.eqGuardType P.depth t)&&fe P fs.toList
 |_=>false
theorem ul {P:Program}{t:Nat}(h:fY P t=true):T2 P t:=by
 unfold fY at h;split at h<;>try(cases h;done)
 rename_i fs hu;simp only[BP,Bi]at h;obtain⟨⟨h1,h2⟩,h3⟩:=h;obtain⟨l⟩:=fs
 match l,h3 with
 | [f1,f2],h3=>
  simp only[fe,BP,bne_iff_ne]at h3;obtain⟨⟨⟨⟨⟨g1,g2⟩,g3⟩,g4⟩,g5⟩,g6⟩:=h3;obtain⟨k1,e1⟩:=YV g3;obtain⟨k2,e2⟩:=YV g6;exact⟨f1,f2,k1,k2,hu,h1,h2,g1,B4 g2,e1,g4,B4 g5,e2⟩
theorem ZG:T2 C0.P 91:=ul (by kernel_rfl)
def lA:List AE:=[Cn 10,C8 6]
def lB:List AE:=[Cn 5]
def cA:D:=Al false lA
def cB:D:=Al false lB
def DY:D:=.agg [str (sb MS),i64 4,i64 30,i64 12,.sl false 1 [cA,cB]]
theorem xX:AJ C0 47 [] DY:=by
 have h:=vo.loosen 10
 rwa [show loosen 10 fT=DY from rfl]at h
theorem Yc {x:AE}(h:decide (x.grain.length<=1000)&&decide (x.shs.length<=1000)&&x.shs.all (λs=>decide (s.lot.length<=1000)&&decide (s.part.length<=40))=true):x.lite:=by
 simp only[BP,GP,CS]at h;obtain⟨⟨h1,h2⟩,h3⟩:=h;exact⟨⟨by omega,by omega,λs hs=>⟨by have:=(h3 s hs).1;omega,by have:=(h3 s hs).2;omega⟩⟩,h3⟩
theorem Q7:∀x∈lA,x.lite:=by
 intro x hx;simp only[lA,BF,DX,or_false]at hx;rcases hx with rfl|rfl<;>exact Yc rfl
theorem uR:∀x∈lB,x.lite:=by
 intro x hx;simp only[lB,BF,DX,or_false]at hx;subst hx;exact Yc rfl
theorem Q2:B3 lA=0:=by kernel_rfl
theorem ux:B3 lB=0:=by kernel_rfl
theorem pN:KX lA=[(tA,13),(tB,3)]:=by kernel_rfl
theorem U4:E8 (CF lA)=[(tA,13),(tB,3)]:=by rw[<-Xz];exact pN
theorem Y3:(CF lA).any (λp=>Dm p.2)=false:=by kernel_rfl
theorem pP:RR lA=0:=by
 unfold RR IC;rw[AF (by rw[Q2];exact λh=>h rfl),Y3];rfl
theorem pQ:RS lA=[(tA,13),(tB,3)]:=by
 unfold RS JU;rw[AF (by rw[Q2];exact λh=>h rfl),Y3,U4];rfl
def R8:List UInt8:=[49,51]
def t3:List UInt8:=[51]
def F8:List UInt8:=[49,51,47,49,54]
def GK:List UInt8:=[51,47,49,54]
def Kf (m:Int):AE:=⟨El,m,[⟨tA,F8⟩,⟨tB,GK⟩]⟩
theorem wX:Cm (tA,13)=Ea (tA,R8):=by unfold Cm Ea;rw[show BN 13=R8 by kernel_rfl]
theorem wY:Cm (tB,3)=Ea (tB,t3):=by unfold Cm Ea;rw[show BN 3=t3 by kernel_rfl]
theorem qS:AJ C0 36 [cA] (.tup [.sl false 2 [Ea (tA,R8),Ea (tB,t3)],i64 0]):=by
 have h:=wE false lA (by decide) Q7;rw[pP,pQ,Ct,Ct,List.map_nil,wX,wY]at h;exact h
theorem Rk:lA.map (Dp El)=lA:=rfl
theorem uv:HC lA=0:=by kernel_rfl
theorem we:[((tA,13):List UInt8×Rat),(tB,3)].any (λp=>Dm (p.2/(Aq lA:Rat)))=false:=by kernel_rfl
theorem wh:(CF lA).length=2:=by kernel_rfl
theorem bP:Gh lA=0:=by
 unfold Gh;rw[AF (by rw[uv];exact λh=>h rfl),AF (by rw[wh];decide),U4,we];rfl
theorem UZ:Ec lA=[⟨tA,F8⟩,⟨tB,GK⟩]:=by
 unfold Ec;rw[U4];kernel_rfl
theorem RQ:Aq lA=16:=by kernel_rfl
theorem uw:Ki lA=Kf 16:=by rw[Yv bP,UZ,RQ];rfl
theorem Y4:G6 lA El=0:=by kernel_rfl
theorem Y5:IE lA El=0:=by unfold IE;rw[Y4,Rk,bP];rfl
theorem pU:Lb lA El=Kf 16:=by unfold Lb;rw[Y4,Rk,uw];rfl
theorem qX:AJ C0 11 [cA,str (sb El)] (.tup [(Kf 16).D,i64 0]):=by
 have h:=dZ false lA El (by decide) Q7 (by decide);rw[Y5,pU]at h;exact h
theorem uu:Fl lA 15=⟨El,1,[⟨tA,F8⟩,⟨tB,GK⟩]⟩:=by
 unfold Fl;rw[RQ,show(CK lA 0).grain=El from rfl,Rk,UZ];rfl
theorem bO:G4 (Fl lA 15)=[(tA,mkRat 13 16),(tB,mkRat 3 16)]:=by rw[uu];kernel_rfl
theorem bN:[((tA,mkRat 13 16):List UInt8×Rat),(tB,mkRat 3 16)].any (λp=>Dm p.2)=false:=by kernel_rfl
theorem ut:IC (CF [Fl lA 15])=0:=by
 unfold IC;rw[(TR lA 15).1,bO,bN];rfl
theorem u6:CT lA=true:=by kernel_rfl
theorem Ua:Ix lA 15=0:=by
 unfold Ix;rw[Q2,AF (λh=>h rfl),AF (by decide),RQ,AF (by decide),u6,AF (λh=>by cases h),show(CK lA 0).grain=El from rfl,Y5,AF (λh=>h rfl),AF (by decide),ut]
theorem u9:Rh lA 15=Kf 15:=by
 unfold Rh;rw[Ua,AF (λh=>h rfl),show(CK lA 0).grain=El from rfl,Rk,UZ];rfl
theorem u7:Rg lA 15=[(tA,mkRat 13 16),(tB,mkRat 3 16)]:=by
 unfold Rg JU;rw[Ua,AF (λh=>h rfl),RQ,AF (by decide),(TR lA 15).2,(TR lA 15).1,bO,bN];rfl
theorem wZ:Cm (tA,mkRat 13 16)=Ea (tA,F8):=by unfold Cm Ea;rw[show BN (tA,mkRat 13 16).2=F8 by kernel_rfl]
theorem w9:Cm (tB,mkRat 3 16)=Ea (tB,GK):=by unfold Cm Ea;rw[show BN (tB,mkRat 3 16).2=GK by kernel_rfl]
theorem lR:AJ C0 12 [cA,i64 15] (.tup [(Kf 15).D,.sl false 2 [Ea (tA,F8),Ea (tB,GK)],i64 0]):=by
 have h:=o7 false lA 15 (by decide) Q7;rw[Ua,u9,u7,Ct,Ct,List.map_nil,wZ,w9]at h;exact h
theorem qV:AJ C0 37 [cA] (i64 0):=by
 have h:=M4 false lA (by decide) λx hx=>(Q7 x hx).1
 rw[Q2]at h;exact h
theorem qW:AJ C0 37 [cB] (i64 0):=by
 have h:=M4 false lB (by decide) λx hx=>(uR x hx).1
 rw[ux]at h;exact h
theorem qU:AJ C0 56 [str (sb tB)] (Ap true):=by
 have h:=Qb tB;rw[show DZ tB=true by kernel_rfl]at h;exact h
theorem xR (x:AE)(h:x.shs.length<=1000000)(m:Int):AJ C0 63 [x.D,i64 m] (x.w m).D:=b8 x m h
theorem UV {l:List AE}(h:l.all (λx=>decide (x.shs.length<=1000000))=true):∀x∈l,∀m,AJ C0 63 [x.D,i64 m] (x.w m).D:=λx hx m=>xR x (DA (CS.1 h x hx)) m
theorem TU {l:List AE}(h:l.all (λx=>decide (0<=x.mass)&&decide (x.mass<=1000000000))=true):∀x∈l,0<=x.mass/\x.mass<=1000000000:=λx hx=>by
 have:=CS.1 h x hx
 simpa using this
theorem zI:AJ C0 84 [Al false [C8 2]] (Al false [C8 2]):=CD DT 400 40 (by kernel_rfl)
theorem zJ:AJ C0 84 [Al false [Cn 1]] (Al false [Cn 1]):=CD DT 400 40 (by kernel_rfl)
theorem zK:AJ C0 84 [Al false [Cn 9,C8 4]] (Al false [Cn 9,C8 4]):=CD DT 400 40 (by kernel_rfl)
theorem cJ:AJ C0 59 [cA] (i64 16):=CD DT 400 40 (by kernel_rfl)
theorem nU:AJ C0 91 [cA,i64 2,Ap true] (Al false [C8 2]):=Yz false true lA 2 (by decide) (by decide) (TU rfl) (UV rfl) _ zI
theorem nV:AJ C0 91 [cA,i64 1,Ap false] (Al false [Cn 1]):=Yz false false lA 1 (by decide) (by decide) (TU rfl) (UV rfl) _ zJ
theorem qN:AJ C0 92 [cA,i64 1,i64 2] (Al false [Cn 9,C8 4]):=iB false lA 1 2 (by decide) (by decide) (by decide) 16 (by decide) (TU rfl) cJ (UV rfl) _ zK
theorem vg:AJ C0 142 [cA,str (sb tB)] (.sl false 2 [Ff (11,16)]):=by
 have h:=gM false lA tB (by decide) λx hx=>by
  simp only[lA,BF,DX,or_false]at hx;rcases hx with rfl|rfl<;>exact⟨by decide,by decide,by decide⟩
 rw[show Kt tB lA 0=[(11,16)] by kernel_rfl]at h;exact h
theorem qP:AJ C0 88 [.sl true 1 [Al false [C8 2],Al false [Cn 1]]] (Al false [C8 2,Cn 1]):=jB [[C8 2],[Cn 1]] (by simp) (by decide) (by decide)
def O6:List (Nat×List D×D):=[(37,[cA],i64 0),(37,[cB],i64 0),(56,[str (sb tB)],Ap true),
 (91,[cA,i64 2,Ap true],Al false [C8 2]),(91,[cA,i64 1,Ap false],Al false [Cn 1]),(92,[cA,i64 1,i64 2],Al false [Cn 9,C8 4]),
 (142,[cA,str (sb tB)],.sl false 2 [Ff (11,16)]),(88,[.sl true 1 [Al false [C8 2],Al false [Cn 1]]],Al false [C8 2,Cn 1])]
instance xn:AA cA:=by unfold cA;exact AI
instance yL:AA cB:=by unfold cB;exact AI
instance q_cA:AT cA:=by unfold cA;exact AI
instance q_cB:AT cB:=by unfold cB;exact AI
theorem ZH:∀e∈O6,AJ C0 e.1 e.2.1 e.2.2/\Ak e.2.1:=by
 intro e he;simp only[O6,BF,DX,or_false]at he;rcases he with rfl|rfl|rfl|rfl|rfl|rfl|rfl|rfl
 ·exact⟨qV,AI⟩
 ·exact⟨qW,AI⟩
 ·exact⟨qU,AI⟩
 ·exact⟨nU,AI⟩
 ·exact⟨nV,AI⟩
 ·exact⟨qN,AI⟩
 ·exact⟨vg,AI⟩
 ·exact⟨qP,AI⟩
noncomputable def X5:EV:=⟨PX,L6.get,NR.get,λ_=>false,Mx O6,R1,Kj⟩
theorem ED:FA C0 X5:=⟨VB,Rj,Jo,S3 O6 ZH,by kernel_rfl,bV,QX⟩
def fU:D:=.agg [str (sb MS),i64 4,i64 30,i64 12,.sl false 1 [Al false [Cn 9,C8 4],Al false [Cn 5]]]
theorem qQ:AJ C0 48 [DY,i64 0,i64 3] (.tup [fU,Al false [C8 2,Cn 1],i64 0]):=CD ED 400 40 (by kernel_rfl)
abbrev Ux (ls:List Int)(i:Int):D:=.clo (.func 131) [] [.pptr (.sl false 1 (BW ls)),.pptr (i64 i),.pptr DY]
abbrev uk (ls:List Int)(i:Int):D:=.clo (.func 78) [] [.pptr DY,.pptr (.sl false 1 (BW ls)),.pptr (i64 i)]
theorem kD:AJ C0 77 [.sl false 1 (BW [16,5]),i64 ((0:Nat):Int),Ux [16,5] ((0:Nat):Int)] (.sl false 1 [i64 23]):=CD ED 400 40 (by kernel_rfl)
theorem kE:AJ C0 77 [.sl false 1 (BW [16,5]),i64 ((1:Nat):Int),Ux [16,5] ((1:Nat):Int)] (.sl false 1 [i64 1]):=CD ED 400 40 (by kernel_rfl)
theorem kG:AJ C0 77 [.sl false 1 (BW [0,5]),i64 ((1:Nat):Int),Ux [0,5] ((1:Nat):Int)] (.sl false 1 [i64 17]):=CD ED 400 40 (by kernel_rfl)
theorem kH:AJ C0 77 [.sl false 1 (BW [16,5]),i64 ((1:Nat):Int),uk [16,5] ((1:Nat):Int)] (.sl false 1 [i64 23]):=CD ED 400 40 (by kernel_rfl)
theorem zA:AJ C0 76 [i64 16,.sl false 1 [i64 23]] (i64 16):=CD ED 400 40 (by kernel_rfl)
theorem zB:AJ C0 76 [i64 5,.sl false 1 [i64 1]] (i64 1):=CD ED 400 40 (by kernel_rfl)
theorem zC:AJ C0 76 [i64 5,.sl false 1 [i64 17]] (i64 5):=CD ED 400 40 (by kernel_rfl)
theorem zE:AJ C0 76 [i64 25,.sl false 1 [i64 23]] (i64 23):=CD ED 400 40 (by kernel_rfl)
instance d8b:AA DY:=by unfold DY;exact AI
instance d8e:AT DY:=by unfold DY;exact AI
theorem zF:AJ C0 74 [DY,.sl false 1 (BW [16,5]),i64 ((0:Nat):Int)] (i64 16):=RA DY ⟨_,_,_,_,_,rfl⟩ false _ 0 16 rfl _ 16 kD zA
theorem zG:AJ C0 74 [DY,.sl false 1 (BW [16,5]),i64 ((1:Nat):Int)] (i64 1):=RA DY ⟨_,_,_,_,_,rfl⟩ false _ 1 5 rfl _ 1 kE zB
theorem zH:AJ C0 74 [DY,.sl false 1 (BW [0,5]),i64 ((1:Nat):Int)] (i64 5):=RA DY ⟨_,_,_,_,_,rfl⟩ false _ 1 5 rfl _ 5 kG zC
theorem vf:AJ C0 75 [DY] (.sl false 1 (BW [16,5])):=CD ED 400 40 (by kernel_rfl)
theorem qO:AJ C0 73 [DY,.sl true 1 [i64 1]] (i64 0):=CD ED 400 40 (by kernel_rfl)
theorem ve:AJ C0 32 [DY] (i64 0):=CD ED 400 40 (by kernel_rfl)
theorem nT:AJ C0 25 [DY,i64 1] (.tup [i64 23,i64 0]):=Y9 DY _ _ _ _ 30 rfl _ 1 5 rfl _ 23 qO vf kH 25 rfl zE
def VC:List (Nat×List D×D):=(74,[DY,.sl false 1 (BW [16,5]),i64 1],i64 1)::O6
theorem ov:∀e∈VC,AJ C0 e.1 e.2.1 e.2.2/\Ak e.2.1:=by
 intro e he;rcases BF.1 he with rfl|he
 ·exact⟨zG,AI⟩
 ·exact ZH e he
noncomputable def fh:EV:=⟨PX,L6.get,NR.get,λ_=>false,Mx VC,R1,Kj⟩
theorem v6:FA C0 fh:=⟨VB,Rj,Jo,S3 VC ov,by kernel_rfl,bV,QX⟩
theorem qT:AJ C0 24 [DY,i64 1] (.tup [i64 1,i64 0]):=CD v6 400 40 (by kernel_rfl)
theorem nS:AJ C0 49 [DY,i64 0,str (sb tB)] (.tup [i64 2,i64 0]):=CD ED 400 40 (by kernel_rfl)
theorem qR:AJ C0 50 [DY,i64 0,str (sb tB)] (.tup [i64 8,i64 0]):=CD ED 400 40 (by kernel_rfl)
def fW (l:List Int):Int:=if l=[16,5]then 16 else 5
theorem nR:AJ C0 51 [DY] (.tup [.sl false 2 [Js (0,16),Js (1,5)],i64 0]):=by
 have h:=mj (str (sb MS)) (i64 4) (i64 30) (i64 12) false [cA,cB] [16,5] rfl (by simp) (by decide) (λi c m h1 h2=>by
  match i with
  | 0=>cases h1;cases h2;exact cJ
  | 1=>cases h1;cases h2;exact CD ED 400 40 (by kernel_rfl)
  |i+2=>cases h1) (λc hc=>by
  simp only[BF,DX,or_false]at hc;rcases hc with rfl|rfl
  ·exact⟨_,_,rfl,xn⟩
  ·exact⟨_,_,rfl,yL⟩) ve fW (λl=>l=[16,5]\/l=[0,5]\/l=[0,0]) (.inl rfl) (λl hl hn=>by
  rcases hl with rfl|rfl|rfl
  ·exact⟨zF,rfl,.inr (.inl rfl)⟩
  ·exact⟨zH,rfl,.inr (.inr rfl)⟩
  ·exact Ah rfl hn)
 rw[show Kq fW 257 [16,5] []=([(0,16),(1,5)],0) by kernel_rfl]at h;exact h
abbrev YI:Dr:=[(16,[0,1,2,3,4,5,6,7,8,9,10,11,12,13,14,15,16,17,18],[19,20,21])]
open Go.Proofs Go.RowKit Go.Sort
set_option maxRecDepth 20000
set_option maxHeartbeats 8000000
def yZ:D:=.sl true 2 [.agg [str (sb tA),str (sb F8)],.agg [str (sb tB),str (sb GK)]]
theorem xj (m:Int):AJ C0 52 [.sl false 2 [.agg [str (sb tA),str (sb F8)],.agg [str (sb tB),str (sb GK)]],yZ] (Ap true):=CD ED 400 40 (by kernel_rfl)
theorem uQ:AJ C0 22 [.sl false 2 [Ea (tA,F8),Ea (tB,GK)],.sl true 2 [Ea (tA,F8),Ea (tB,GK)]] (Ap true):=CD ED 400 40 (by kernel_rfl)
theorem xd:AJ C0 53 [i64 2,Ap true] (E2 (C8 2)):=CD ED 400 40 (by kernel_rfl)
theorem xe:AJ C0 53 [i64 1,Ap false] (E2 (Cn 1)):=CD ED 400 40 (by kernel_rfl)
theorem xf:AJ C0 53 [i64 9,Ap false] (E2 (Cn 9)):=CD ED 400 40 (by kernel_rfl)
theorem xg:AJ C0 53 [i64 4,Ap true] (E2 (C8 4)):=CD ED 400 40 (by kernel_rfl)
theorem xh:AJ C0 17 [Al false [C8 2,Cn 1],.sl true 3 [E2 (C8 2),E2 (Cn 1)]] (Ap true):=CD ED 400 40 (by kernel_rfl)
theorem xi:AJ C0 17 [Al false [Cn 9,C8 4],.sl true 3 [E2 (Cn 9),E2 (C8 4)]] (Ap true):=CD ED 400 40 (by kernel_rfl)
theorem qI:AJ C0 10 [] (Ap true):=by
 refine Ag.walk w1 bt rfl λF=>?_
 have cE:=xX;have cL:=qS;have cP:AJ C0 11 [cA,.prim (.string ⟨#[119,104,101,97,116]⟩)] (.tup [(Kf 16).D,i64 0]):=qX;have cD:=qQ;have cM:=qT;have cS:=nT;have cF:AJ C0 49 [DY,i64 0,.prim (.string ⟨#[98]⟩)] (.tup [i64 2,i64 0]):=nS;have cLa:AJ C0 50 [DY,i64 0,.prim (.string ⟨#[98]⟩)] (.tup [i64 8,i64 0]):=qR;have cEm:=nR;have cSh:=lR;have pA:AA cA:=AI;have pB:AA cB:=AI;have pX:AA DY:=AI;unfold DY at cE cD cM cS cF cLa cEm pX;have hA:∃T,cA=.sl false 3 T:=⟨_,rfl⟩
 have hB:∃T,cB=.sl false 3 T:=⟨_,rfl⟩
 obtain⟨TA,hA⟩:=hA;obtain⟨TB,hB⟩:=hB;rw[hA,hB]at cE cD cM cS cF cLa cEm pX;rw[hA]at cL cP cSh pA;rw[hB]at pB;have hm:([.sl false 3 TA,.sl false 3 TB]:List D)[0]?=some (.sl false 3 TA):=rfl;have dP:(Kf 16).D=.agg [str (sb El),i64 16,.sl false 2 [.agg [str (sb tA),str (sb F8)],.agg [str (sb tB),str (sb GK)]]]:=rfl;have dP2:(Kf 15).D=.agg [str (sb El),i64 15,.sl false 2 [.agg [str (sb tA),str (sb F8)],.agg [str (sb tB),str (sb GK)]]]:=rfl;rw[dP]at cP;rw[dP2]at cSh;unfold fU at cD;refine AH YI kB cE hm cL cP cD cM ?_;refine cI cS ?_;refine sR 700 ?_;refine cI cF ?_;refine sR 800 ?_;refine cI cLa ?_;refine sR 900 ?_;refine cI cEm ?_;refine sR 1000 ?_;refine Br kT hm ?_;refine AD kB ?_;refine cI cSh ?_;have z0:IntKind.i64.wrap (0+0)=0:=rfl;have n0:((0:Int) != 0)=false:=rfl;have n1:((1:Int) != 1)=false:=rfl;have n23:((23:Int) != 23)=false:=rfl;have n2:((2:Int) != 2)=false:=rfl;have n2':(((2:Nat):Int) != 2)=false:=rfl;have s0:([.agg [i64 0,i64 16],.agg [i64 1,i64 5]]:List D)[0]?=some (.agg [i64 0,i64 16]):=rfl;have s1:([.agg [i64 0,i64 16],.agg [i64 1,i64 5]]:List D)[1]?=some (.agg [i64 1,i64 5]):=rfl;have n8:((8:Int) != 8)=false:=rfl;obtain⟨C1,hC1⟩:∃d,Al false [Cn 9,C8 4]=d:=⟨_,rfl⟩
 obtain⟨O1,hO1⟩:∃d,Al false [C8 2,Cn 1]=d:=⟨_,rfl⟩
 rw[hC1,hO1];refine AC.weak ⟨[(2,.sl false 2 [.agg [str (sb tA),str (sb R8)],.agg [str (sb tB),str (sb t3)]]),(3,i64 0),(4,.optr 308 22 3 0 0),(5,i64 0),(6,.optr 406 31 5 0 0),(7,O1),(8,i64 0),(9,i64 1),(10,i64 0),(11,i64 23),(12,i64 0),(13,i64 2),(14,i64 0),(15,i64 8),(16,i64 0),(17,.sl false 2 [.agg [i64 0,i64 16],.agg [i64 1,i64 5]]),(18,i64 0),(19,.optr 1009 79 3 0 0),(20,.sl false 2 [.agg [str (sb tA),str (sb F8)],.agg [str (sb tB),str (sb GK)]]),(21,i64 0)],
  [⟨1009,79,27,3,[.agg [str (sb El),i64 15,.sl false 2 [.agg [str (sb tA),str (sb F8)],.agg [str (sb tB),str (sb GK)]]]]⟩,⟨406,31,48,5,[.agg [str (sb MS),i64 4,i64 30,i64 12,.sl false 1 [C1,Al false [Cn 5]]]]⟩,⟨308,22,27,3,[.agg [str (sb El),i64 16,.sl false 2 [.agg [str (sb tA),str (sb F8)],.agg [str (sb tB),str (sb GK)]]]]⟩],_⟩ AK ?_
 refine AC.seq ?_;refine AC.seq ?_;refine yo w1 1100 [([0,1,2,3,4,5,6,7,8,9,10,11,12,13,14,15,16,17,18,19,20,21,22,23,24,25,26,27,28,29,30,31,32,33,34,35,36,37,38,39,40,41,42,43],44),([45,46,47,48,49,50],51)] [52] rfl (by kernel_rfl) ?_;change Cy _ _ _ _ _ _ _ _;refine AD (CJ z0 n0 n1 n23 n2 n2' (As n8 kT kF)) ?_;refine AD (CJ z0 n0 n1 n23 n2 n2' (As n8 kT kF)) ?_;refine AD (CJ z0 n0 n1 n23 n2 n2' (As n8 kT kF)) ?_;refine AD (CJ z0 n0 n1 n23 n2 n2' (As n8 kT kF)) ?_;refine AD (CJ z0 n0 n1 n23 n2 n2' (As n8 kT kF)) ?_;refine AD (As n2' kT kF) ?_;refine Br kF s0 ?_;refine AD (As n2' kT kF) ?_;refine AD (As n2' kT kF) ?_;refine⟨Ap false,λos K' hk=>fG (a1:=0) (a2:=16) (b1:=0) (b2:=16) rfl rfl ZG rfl rfl hk,?_⟩;change Cy _ _ _ _ _ ⟨(124,Ap false)::_,_,_⟩ _ _;refine At ?_;refine AD (As n2' kT kF) ?_;refine AD (As n2' kT kF) ?_;refine Br kF s1 ?_;refine AD (As n2' kT kF) ?_;refine AD (As n2' kT kF) ?_;refine⟨Ap false,λos K' hk=>fG (a1:=1) (a2:=5) (b1:=1) (b2:=5) rfl rfl ZG rfl rfl hk,?_⟩;change Cy _ _ _ _ _ ⟨(131,Ap false)::_,_,_⟩ _ _;refine At ?_;refine AD (As n2' kT kF) ?_;refine AM ?_;refine Am ?_;refine AC.weak ⟨[(2,.sl false 2 [.agg [.prim (.string ⟨#[97]⟩),.prim (.string ⟨#[49,51]⟩)],.agg [.prim (.string ⟨#[98]⟩),.prim (.string ⟨#[51]⟩)]]),(4,.optr 308 22 3 0 0),(6,.optr 406 31 5 0 0),(7,O1),(19,.optr 1009 79 3 0 0),(20,.sl false 2 [.agg [.prim (.string ⟨#[97]⟩),.prim (.string ⟨#[49,51,47,49,54]⟩)],.agg [.prim (.string ⟨#[98]⟩),.prim (.string ⟨#[51,47,49,54]⟩)]])],
  [⟨1009,79,27,3,[.agg [str (sb El),i64 15,.sl false 2 [.agg [.prim (.string ⟨#[97]⟩),.prim (.string ⟨#[49,51,47,49,54]⟩)],.agg [.prim (.string ⟨#[98]⟩),.prim (.string ⟨#[51,47,49,54]⟩)]]]]⟩,⟨406,31,48,5,[.agg [str (sb MS),i64 4,i64 30,i64 12,.sl false 1 [C1,Al false [Cn 5]]]]⟩,⟨308,22,27,3,[.agg [str (sb El),i64 16,.sl false 2 [.agg [.prim (.string ⟨#[97]⟩),.prim (.string ⟨#[49,51,47,49,54]⟩)],.agg [.prim (.string ⟨#[98]⟩),.prim (.string ⟨#[51,47,49,54]⟩)]]]]⟩],_⟩ AK ?_
 have h1:AJ C0 52 [.sl false 2 [.agg [.prim (.string ⟨#[97]⟩),.prim (.string ⟨#[49,51,47,49,54]⟩)],.agg [.prim (.string ⟨#[98]⟩),.prim (.string ⟨#[51,47,49,54]⟩)]],.sl true 2 [.agg [.prim (.string ⟨#[97]⟩),.prim (.string ⟨#[49,51,47,49,54]⟩)],.agg [.prim (.string ⟨#[98]⟩),.prim (.string ⟨#[51,47,49,54]⟩)]]] (Ap true):=xj 0;have h2:AJ C0 22 [.sl false 2 [.agg [.prim (.string ⟨#[97]⟩),.prim (.string ⟨#[49,51,47,49,54]⟩)],.agg [.prim (.string ⟨#[98]⟩),.prim (.string ⟨#[51,47,49,54]⟩)]],.sl true 2 [.agg [.prim (.string ⟨#[97]⟩),.prim (.string ⟨#[49,51,47,49,54]⟩)],.agg [.prim (.string ⟨#[98]⟩),.prim (.string ⟨#[51,47,49,54]⟩)]]] (Ap true):=uQ;have e1:BI ⟨#[97]⟩ ⟨#[97]⟩=true:=Pq _;have e2:BI ⟨#[49,51]⟩ ⟨#[49,51]⟩=true:=Pq _;have e3:BI ⟨#[98]⟩ ⟨#[98]⟩=true:=Pq _;have e4:BI ⟨#[51]⟩ ⟨#[51]⟩=true:=Pq _;have x0:([.agg [.prim (.string ⟨#[97]⟩),.prim (.string ⟨#[49,51]⟩)],.agg [.prim (.string ⟨#[98]⟩),.prim (.string ⟨#[51]⟩)]]:List D)[0]?=some (.agg [.prim (.string ⟨#[97]⟩),.prim (.string ⟨#[49,51]⟩)]):=rfl;have x1:([.agg [.prim (.string ⟨#[97]⟩),.prim (.string ⟨#[49,51]⟩)],.agg [.prim (.string ⟨#[98]⟩),.prim (.string ⟨#[51]⟩)]]:List D)[1]?=some (.agg [.prim (.string ⟨#[98]⟩),.prim (.string ⟨#[51]⟩)]):=rfl;have b1:(!(true&&(true&&true)))=false:=rfl;have n16:((16:Int) != 16)=false:=rfl;have n15:((15:Int) != 15)=false:=rfl;have k1:=xd;have k2:=xe;have k3:=xf;have k4:=xg;have k5:=xh;have k6:=xi;have pA1:Ak [Al false [C8 2,Cn 1],.sl true 3 [E2 (C8 2),E2 (Cn 1)]]:=⟨λd hd=>by
  simp only[BF,DX,or_false]at hd;rcases hd with rfl|rfl
  ·exact(AI:AA (Al false [C8 2,Cn 1])).out
  ·exact Gz (n:=30) (by kernel_rfl)⟩
 have pA2:Ak [Al false [Cn 9,C8 4],.sl true 3 [E2 (Cn 9),E2 (C8 4)]]:=⟨λd hd=>by
  simp only[BF,DX,or_false]at hd;rcases hd with rfl|rfl
  ·exact(AI:AA (Al false [Cn 9,C8 4])).out
  ·exact Gz (n:=30) (by kernel_rfl)⟩
 rw[hO1]at k5 pA1;rw[hC1]at k6 pA2;obtain⟨u1,u2,u3,hu⟩:∃a b c,E2 (C8 2)=.agg [a,b,c]:=⟨_,_,_,rfl⟩
 obtain⟨v1,v2,v3,hv⟩:∃a b c,E2 (Cn 1)=.agg [a,b,c]:=⟨_,_,_,rfl⟩
 obtain⟨y1,y2,y3,hy⟩:∃a b c,E2 (Cn 9)=.agg [a,b,c]:=⟨_,_,_,rfl⟩
 obtain⟨z1,z2,z3,hz⟩:∃a b c,E2 (C8 4)=.agg [a,b,c]:=⟨_,_,_,rfl⟩
 rw[hu]at k1;rw[hv]at k2;rw[hy]at k3;rw[hz]at k4;rw[hu,hv]at k5 pA1;rw[hy,hz]at k6 pA2;obtain⟨C2,hC2⟩:∃d,Al false [Cn 5]=d:=⟨_,rfl⟩
 obtain⟨C1L,hC1L⟩:∃T,C1=.sl false 3 T:=⟨_,hC1.symm⟩
 rw[hC2,hC1L];rw[hC1L]at k6 pA2;have q0:([.sl false 3 C1L,C2]:List D)[0]?=some (.sl false 3 C1L):=rfl;have n2e:(((2:Nat):Int)==2)=true:=rfl;refine AH YI (CJ b1 n2' n16 n15 e1 e2 (BV e3 e4 kT kF)) x0 x1 h1 h2 AB AB ?_;refine BY.same _ (k1) AI ?_;refine BO ?_;refine AD (As n2e kT kF) ?_;refine BY.same _ (k2) AI ?_;refine BO ?_;refine AD (As n2e kT kF) ?_;refine BY.same _ k5 pA1 ?_;refine At ?_;refine AD (As n2e kT kF) ?_;refine AD (As n2e kT kF) ?_;refine AD (As n2e kT kF) ?_;refine Br kT q0 ?_;refine AD (As n2e kT kF) ?_;refine AD (As n2e kT kF) ?_;refine NV kT ?_;refine BY.same _ (k3) AI ?_;refine BO ?_;refine NV kT ?_;refine BY.same _ (k4) AI ?_;refine BO ?_;refine AD (As n2e kT kF) ?_;refine AD (As n2e kT kF) ?_;refine AD (As n2e kT kF) ?_;refine NV kT ?_;refine A9.same _ k6 pA2 ?_;refine At ?_;refine AD (As n2e kT kF) ?_;refine AD (As n2e kT kF) ?_;refine Aj ?_;exact AL rfl AA.out
end Go.Ide
