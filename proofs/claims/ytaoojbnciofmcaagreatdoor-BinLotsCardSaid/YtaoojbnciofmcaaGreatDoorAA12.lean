/- The layer of own lemmas and contracts, part 12. -/
import Derived.Test.YtaoojbnciofmcaaGreatDoorAA11
import Derived.Test.YtaoojbnciofmcaaGreatDoorAA9
import Derived.Test.YtaoojbnciofmcaaGreatDoorAA4
import Derived.Shelf.Spec.SlicesGrow
import Derived.Shelf.Lay
import Derived.Ground.Names8Prog
import Derived.Test.YtaoojbnciofmcaaGreatDoorAA7
import Derived.Laws.StructEq
set_option linter.unusedVariables false
set_option linter.unusedSimpArgs false
namespace Go.Ide
open Go.Proofs Go.RowKit Go.Sort
set_option maxRecDepth 20000
set_option maxHeartbeats 4000000
theorem o6 {g:List UInt8}(hg:g.length<=100000){l:List AE}(hf:∀x∈l,x.lite):∀x∈l.map (EG g),x.lite:=λx hx=>by
 obtain⟨y,hy,rfl⟩:=By.1 hx;obtain⟨⟨a1,a2,a3⟩,a4⟩:=hf y hy;exact⟨⟨hg,a2,a3⟩,a4⟩
theorem qc {l:List AE}(h:HK l=0):Ht l=0/\(CJ l).length<=64/\∀p∈F3 (CJ l),DF (p.2/(As l:Rat))=false:=by
 unfold HK at h;split at h
 ·rename_i h9;exact Af h h9
 ·split at h
  ·cases h
  ·split at h
   ·cases h
   ·rename_i h1 h2 h3
    refine⟨by omega,by omega,λp hp=>?_⟩
    have:=List.any_eq_false.1 ((Bool.not_eq_true _).mp h3) p hp
    exact(Bool.not_eq_true _).mp this
theorem Zx {l:List AE}(h:HK l=0):Lc l=⟨(Ca l 0).grain,As l,FK l⟩:=by
 unfold Lc;rw[AG (λq=>q h)]
theorem oy {l:List UInt8}(h:Cj l=0):l.length<=100000:=by
 obtain⟨-,h2,h3,-⟩:=Q7 h;have h4:(B6 l).length<=(B9 l).length+1:=by
  unfold B9 Bs;split
  ·simp;omega
  ·omega
 unfold B6 Be at*;rw[Bi]at h4;rw[Dp]at h3;omega
theorem qf {l:List AE}(hf:∀x∈l,x.lite)(h:HK l=0):(FK l).length<=64/\∀s∈FK l,s.lot.length<=1000/\s.part.length<=100000/\Cj s.part=0/\rk (Bd s.part) 600:=by
 obtain⟨h1,h2,h3⟩:=qc h;obtain⟨g1,g2,g3,g4,g5⟩:=Zw h1;obtain⟨hx,hK⟩:=Xt hf g3 g2;refine⟨by unfold FK;rw[Ag,(Ku _).length_eq];exact h2,λs hs=>?_⟩;unfold FK at hs;obtain⟨p,hp,rfl⟩:=By.1 hs;have hc:=oz (h3 p hp);refine⟨hK.all p.1 (List.mem_map_of_mem ((Ku _).mem_iff.1 hp)),?_,hc,Na hc⟩;exact oy hc
def GW (l:List AE)(left:Int):AE:=⟨(Ca l 0).grain,As l-left,FK (l.map (EG (Ca l 0).grain))⟩
def Jj (l:List AE)(left:Int):Nat:=if CG l≠0 then CG l else if left<1 then 3 else if As l<left then 13 else if Cm l=false then 16 else if Ix l (Ca l 0).grain≠0 then Ix l (Ca l 0).grain
 else if As l=left then 0 else II (CJ [GW l left])
def Su (l:List AE)(left:Int):AE:=if Jj l left≠0 then⟨[],0,[]⟩else⟨(Ca l 0).grain,left,FK (l.map (EG (Ca l 0).grain))⟩
def Ss (l:List AE)(left:Int):BW:=if Jj l left≠0 then[]else if As l=left then[]else Jd (CJ [GW l left])
theorem On {H:Hp}{a a' b b' c:D}(h1:Fz H [] a a')(h2:Fz H [] b b'):Fz H [] (.tup [a,b,c]) (.tup [a',b',c]):=.tup rfl λi d d' h h'=>by
 match i with
 | 0=>cases h;cases h';exact h1
 | 1=>cases h;cases h';exact h2
 | 2=>cases h;cases h';exact .refl _
 |n+3=>cases h
theorem ST (H:Hp):Fz H [] (.agg [str ⟨#[]⟩,i64 0,CS]) (⟨[],0,[]⟩:AE).D:=.agg rfl λi d d' h h'=>by
 match i with
 | 0=>cases h;cases h';exact .refl _
 | 1=>cases h;cases h';exact .refl _
 | 2=>cases h;cases h';exact .nil 2
 |n+3=>cases h
theorem qA (b:Bool)(l:List AE)(left:Int)(hl:l.length<=1000000)(hf:∀x∈l,x.lite):AK C0 26 [Am b l,i64 left] (.tup [(Su l left).D,.sl false 2 ((Ss l left).map Bu),i64 (Jj l left:Nat)]):=by
 refine AZ.walk w1 fO rfl λF=>?_
 have cP:=Nv b l (by omega) λx hx=>(hf x hx).1
 have hE:Jj l left=if CG l≠0 then CG l else if left<1 then 3 else if As l<left then 13 else if Cm l=false then 16 else if Ix l (Ca l 0).grain≠0 then Ix l (Ca l 0).grain
  else if As l=left then 0 else II (CJ [GW l left]):=rfl
 have hX:Su l left=if Jj l left≠0 then⟨[],0,[]⟩else⟨(Ca l 0).grain,left,FK (l.map (EG (Ca l 0).grain))⟩:=rfl
 have hL:Ss l left=if Jj l left≠0 then[]else if As l=left then[]else Jd (CJ [GW l left]):=rfl
 have cW1:=Gq (decide (left<1)) 3;obtain⟨E0,hE0⟩:∃e:Nat,(if CG l≠0 then CG l else if left<1 then 3 else 0)=e:=⟨_,rfl⟩
 have cF0:AK C0 31 [.sl true 1 [i64 (CG l:Nat),i64 (if decide (left<1)then 3 else 0)]] (i64 (E0:Nat)):=by
  have:=LA [(CG l:Int),if decide (left<1)then 3 else 0] (by simp)
  have he:D3 [(CG l:Int),if decide (left<1)then 3 else 0]=((E0:Nat):Int):=by
   rw[<-hE0]
   by_cases h1:CG l=0<;>by_cases h2:left<1<;>simp[D3,h1,h2]
  rw[he]at this;exact this
 rcases Nat.decEq E0 0 with g0|g0
 ·have e1:=GX g0
  have hE2:Jj l left=E0:=by
   rw[hE,<-hE0];split
   ·rfl
   ·rename_i h1
    rw[<-hE0,AG h1]at g0;split
    ·rfl
    ·rename_i h2;exact Af (AG h2) g0
  rw[hE2]at hX hL⊢;rw[AH g0]at hX hL;rw[hX,hL];refine AF AU e1 cP cW1 cF0 AB AB AB ?_;exact⟨_,On (ST _) (.nil 2),AA.out,rfl⟩
 have e1:=Gw g0;have hp0:CG l=0:=by
  apply DB;intro h;rw[AH h]at hE0;omega
 have hl1:¬left<1:=λh=>by
  rw[AG (λq=>q hp0),AH h]at hE0;omega
 rw[AG (λh=>h hp0),AG hl1]at hE;obtain⟨p1,p2,p3⟩:=Is hp0;have hsm:Ja l:=⟨by omega,λx hx=>by have:=L7 (p2 x hx);omega⟩
 have cT:=R2 b l hsm;have cG:=Xw b l hl;have cW2:=Gq (decide (As l<left)) 13;obtain⟨E1,hE1⟩:∃e:Nat,(if As l<left then 13 else if Cm l=false then 16 else 0)=e:=⟨_,rfl⟩
 have cF1:AK C0 31 [.sl true 1 [i64 (if decide (As l<left)then 13 else 0),i64 (if Cm l then 0 else 16:Nat)]] (i64 (E1:Nat)):=by
  have:=LA [if decide (As l<left)then 13 else 0,((if Cm l then 0 else 16:Nat):Int)] (by simp)
  have he:D3 [if decide (As l<left)then 13 else 0,((if Cm l then 0 else 16:Nat):Int)]=((E1:Nat):Int):=by
   rw[<-hE1]
   by_cases h1:As l<left<;>cases Cm l<;>simp[D3,h1]
  rw[he]at this;exact this
 rcases Nat.decEq E1 0 with g1|g1
 ·have e2:=GX g1
  have hE2:Jj l left=E1:=by
   rw[hE,<-hE1];split
   ·rfl
   ·rename_i h1
    rw[<-hE1,AG h1]at g1;split
    ·rfl
    ·rename_i h2;exact Af (AG h2) g1
  rw[hE2]at hX hL⊢;rw[AH g1]at hX hL;rw[hX,hL];refine AF AU e1 cP cW1 cF0 AB AB AB ?_;refine AF AU e2 cT cW2 cG cF1 AB AB ?_;exact⟨_,On (ST _) (.nil 2),AA.out,rfl⟩
 have e2:=Gw g1;have hs1:¬As l<left:=λh=>by
  rw[AH h]at hE1;omega
 have hs2:¬Cm l=false:=λh=>by
  rw[AG hs1,AH h]at hE1;omega
 rw[AG hs1,AG hs2]at hE;have hl0:0<l.length:=by
  rcases l with _|⟨y,l⟩
  ·exfalso;apply hs1
   show(0:Int)<left;omega
  ·simp
 obtain⟨x0,hx0⟩:∃x,l[0]?=some x:=⟨_,Bo hl0⟩
 have hm0:(l.map AE.D)[0]?=some (.agg [str (sb x0.grain),i64 x0.mass,.sl false 2 (x0.shs.map A0.D)]):=by rw[A8,hx0];rfl
 have hgr:(Ca l 0).grain=x0.grain:=by rw[GC hx0]
 have hg9:=(hf x0 (Ay hx0)).1.1;have cPo:=gt b l x0.grain hl hf hg9;rw[hgr]at hE hX;have hlt:GW l left=⟨x0.grain,As l-left,FK (l.map (EG x0.grain))⟩:=by unfold GW;rw[hgr]
 rw[hlt]at hE hL;obtain⟨PN,hPN⟩:∃n,Ix l x0.grain=n:=⟨_,rfl⟩
 rw[hPN]at hE cPo;rcases Nat.decEq PN 0 with g2|g2
 ·have e3:=GX g2
  rw[AH g2]at hE;rw[hE]at hX hL⊢;rw[AH g2]at hX hL;rw[hX,hL];obtain⟨Z,hZ⟩:∃Z,MS l x0.grain=Z:=⟨_,rfl⟩
  rw[hZ]at cPo;unfold AE.D D5 at cPo;obtain⟨ZS,hZS⟩:∃d,List.map A0.D Z.shs=d:=⟨_,rfl⟩
  have pZS:AA (.sl false 2 ZS):=by rw[<-hZS];exact AI
  rw[hZS]at cPo;refine AF AU e1 cP cW1 cF0 AB AB AB ?_;refine AF AU e2 cT cW2 cG cF1 AB AB ?_;refine AF AU e3 hm0 cPo AB AB AB AB ?_;exact⟨_,On (ST _) (.nil 2),AA.out,rfl⟩
 have e3:=Gw g2;rw[AG (λh=>h g2)]at hE;have hpe:Ho l x0.grain=0:=by
  apply DB;intro h
  have:Ix l x0.grain=Ho l x0.grain:=AH h
  omega
 have hmn:HK (l.map (EG x0.grain))=0:=by
  have:Ix l x0.grain=HK (l.map (EG x0.grain)):=AG (λh=>h hpe)
  omega
 have hpl:MS l x0.grain=⟨x0.grain,As l,FK (l.map (EG x0.grain))⟩:=by
  unfold MS;rw[AG (λh=>h hpe),Zx hmn]
  congr 1
  ·rw[GC (l:=l.map (EG x0.grain)) (x:=EG x0.grain x0) (by rw[A8,hx0];rfl)];rfl
  ·unfold As;rw[List.map_map];rfl
 obtain⟨m1,m2⟩:=qf (o6 hg9 hf) hmn;rw[hpl]at cPo;clear hpl hmn hpe hPN hlt;obtain⟨S,hS⟩:∃S,FK (l.map (EG x0.grain))=S:=⟨_,rfl⟩
 rw[hS]at cPo hE hX hL m1 m2;have ws:IntKind.i64.wrap (As l-left)=As l-left:=wI;unfold AE.D at cPo;dsimp only at cPo;unfold D5 at cPo;obtain⟨SD,hSD⟩:∃d,List.map A0.D S=d:=⟨_,rfl⟩
 have pSD:AA (.sl false 2 SD):=by rw[<-hSD];exact AI
 rw[hSD]at cPo
 by_cases hz:As l=left
 ·have e4:((As l-left)==0)=true:=by rw[EQ];omega
  rw[AH hz]at hE;rw[hE]at hX hL⊢;rw[AG (λh=>h rfl)]at hX hL;rw[AH hz]at hL;rw[hX,hL];unfold AE.D;dsimp only;unfold D5;rw[hSD];refine AF AU e1 cP cW1 cF0 AB AB AB ?_;refine AF AU e2 cT cW2 cG cF1 AB AB ?_;refine AF AU (Ar e3 ws e4) hm0 cPo AB AB AB AB ?_;exact⟨_,On (.refl _) (.nil 2),AA.out,rfl⟩
 have e4:((As l-left)==0)=false:=by rw[Br];omega
 rw[AG hz]at hE hL;have cO:=dA ⟨x0.grain,left,S⟩ (As l-left) (by dsimp only;omega);obtain⟨Y,hY⟩:∃Y:AE,(⟨x0.grain,As l-left,S⟩:AE)=Y:=⟨_,rfl⟩
 rw[hY]at cO hE hL;have hYo:∀x∈[Y],x.okW 602:=λx hx=>by
  rw[Eb]at hx;rw[hx,<-hY];exact⟨m1,by unfold Sm;dsimp only;omega,λs hs=>⟨by have:=(m2 s hs).1;omega,(m2 s hs).2.1,(m2 s hs).2.2.1,(m2 s hs).2.2.2⟩⟩
 have cLo:=dB 602 true [Y] (by simp) hYo (by omega) (by simp);have hKY:Hl (λk=>k.length<=1000) (64*[Y].length) (CJ [Y]):=Tm λx hx=>by
  rw[Eb]at hx;rw[hx,<-hY];exact⟨m1,λs hs=>(m2 s hs).1⟩
 change AZ C0 35 [.sl true 3 [.agg [str (sb Y.grain),i64 Y.mass,.sl false 2 (Y.shs.map A0.D)]]] _ at cLo;change AK C0 74 [.agg [str (sb x0.grain),i64 left,.sl false 2 (S.map A0.D)],i64 (As l-left)] (.agg [str (sb Y.grain),i64 Y.mass,.sl false 2 (Y.shs.map A0.D)])at cO;obtain⟨YS,hYS⟩:∃d,Y.shs.map A0.D=d:=⟨_,rfl⟩
 have pYS:AA (.sl false 2 YS):=by rw[<-hYS];exact AI
 rw[hSD,hYS]at cO;rw[hYS]at cLo;obtain⟨q,hq⟩:∃q,CJ [Y]=q:=⟨_,rfl⟩
 rw[hq]at cLo hKY hE hL;refine AF AU e1 cP cW1 cF0 AB AB AB ?_;refine AF AU e2 cT cW2 cG cF1 AB AB ?_;refine AF AU (Ar e3 ws e4) hm0 cPo cO AB AB AB ?_;refine A7.prop _ _ (Et.refl _) cLo AI ?_;rintro d ⟨m,rfl,hQ⟩;have cA:=ZC _ (by simp) q m hQ (BT hKY.len (by simp)) hKY.nd;have pM:AA (mapD m):=⟨hQ.mapD⟩
 unfold KJ at cA;obtain⟨M,hM⟩:∃M,mapD m=M:=⟨_,rfl⟩
 rw[hM]at cA pM⊢;rcases Nat.decEq (II q) 0 with g4|g4
 ·have e5:=GX g4
  rw[hE]at hX hL⊢;rw[AH g4]at hX hL;rw[hX,hL];refine AF AU e5 cA AB AB AB AB AB ?_;exact⟨_,On (ST _) (.nil 2),AA.out,rfl⟩
 have e5:=Gw g4;rw[hE]at hX hL⊢;rw[AG (λh=>h g4)]at hX hL;rw[hX,hL];unfold AE.D;dsimp only;unfold D5;rw[hSD];refine AF AU e5 cA AB AB AB AB AB ?_;exact⟨_,.refl _,AA.out,by rw[g4];rfl⟩
abbrev Rf:Dr:=[(4,[0,1,2,3,4,5,6,7,8],[9])]
open Go.Proofs Go.RowKit Go.Sort
set_option maxRecDepth 20000
set_option maxHeartbeats 4000000
def AE.modr (x:AE):Prop:=(x.shs.length<=15\/64<x.shs.length)/\x.lite
theorem nD (l:List UInt8):BI (sb l) (sb l)=true:=by rw[Ep];exact Au rfl
theorem Ys {x:AE}(h:x.modr)(hc:Ce x=0):x.okR:=by
 obtain⟨a,b,c,d⟩:=L7 hc;obtain⟨e,-⟩:=Rx h.2 hc;refine⟨?_,b,c,e.2.2⟩
 have:=e.1
 rcases h.1 with q|q<;>omega
def Dt (l:List AE):Int:=l.foldl (λa x=>IntKind.i64.wrap (a+x.mass)) 0
theorem T5 {l:List AE}{i:Nat}{x:AE}(h:l[i]?=some x):Dt (l.take (i+1))=IntKind.i64.wrap (Dt (l.take i)+x.mass):=by
 unfold Dt;rw[D8,h];simp
theorem Oi {l:List AE}(hs:Ja l):Dt l=As l:=by
 obtain⟨hl,hm⟩:=hs
 have:∀i,i<=l.length->Dt (l.take i)=As (l.take i):=λi=>by
  induction i with
  |zero=>exact λ_=>rfl
  |succ i ih=>
   intro hi;obtain⟨x,hx⟩:=CU (show i<l.length by omega);have hb:=Um (l:=l.take i) λy hy=>hm y (JA hy)
   have hxm:=hm x (Ay hx);rw[Bi,Fh (by omega)]at hb;rw[T5 hx,ih (by omega),T1 hx,wI]
 have:=this l.length (Al _)
 rwa [C6]at this
theorem vt (b:Bool)(l:List AE)(hl:l.length<=9223372036854775807):AK C0 91 [Am b l] (i64 (Dt l)):=by
 refine AZ.walk w1 xq rfl λF=>?_
 have el:(((l.map AE.D).length:Nat):Int)=(l.length:Int):=by rw[Ag]
 refine AF AU el AB AB AB AB AB AB ?_;refine AC.loop (α:=Nat×Nat) (λp=>⟨[(0,Am b l),(3,i64 (Dt (l.take p.1))),(4,i64 (p.1:Int))],[],p.2⟩) (λp=>l.length-p.1) (λp=>p.1<=l.length) (0,_) (BU _) AL ?_;rintro⟨i,m⟩ F hi;dsimp only at hi⊢;rcases BA i l.length with h2|h2
 rotate_left
 ·have e1:=Cb h2
  have:i=l.length:=by omega
  subst this;rw[C6];refine AF AU (Ab e1 el) AB AB AB AB AB AB ?_;exact AJ rfl AA.out
 have e1:=CZ h2;have wi:=Cc (i:=i) (by omega);obtain⟨x,hx⟩:=CU h2;have hm:(l.map AE.D)[i]?=some (.agg [str (sb x.grain),i64 x.mass,.sl false 2 (x.shs.map A0.D)]):=by rw[A8,hx];rfl
 have ws:=(T5 hx).symm;refine AF AU (CI e1 el wi ws kN) hm AB AB AB AB AB ?_;exact⟨(i+1,_),h2,by dsimp only;omega,AL⟩
theorem V9 (b:Bool)(l:List AE)(hs:Ja l):AK C0 91 [Am b l] (i64 (As l)):=by
 have h:=vt b l (by have:=hs.1;omega)
 rwa [Oi hs]at h
theorem rF (b:Bool)(l:List AE)(hl:l.length<=1000000):AK C0 45 [Am b l] (Ai (Cm l)):=by
 refine AZ.walk w1 y5 rfl λF=>?_
 have el:(((l.map AE.D).length:Nat):Int)=(l.length:Int):=by rw[Ag]
 refine AF Rf el AB AB AB AB AB AB ?_;refine AC.loop (α:=Nat×Nat) (λp=>⟨[(0,Am b l),(3,i64 (p.1:Int))],[],p.2⟩) (λp=>l.length-p.1)
  (λp=>1<=p.1/\(p.1<=l.length\/p.1=1)/\∀x∈l.take p.1,BI (sb x.grain) (sb (Ca l 0).grain)=true) (1,_) ⟨Al _,.inr rfl,λx h=>by
   rcases l with _|⟨y,l⟩
   ·simp at h
   ·have:x=y:=by simpa using h
    rw[this];exact nD _⟩ AL ?_
 rintro⟨i,m⟩ F ⟨hi1,hi,hs⟩;dsimp only at hi1 hi hs⊢;rcases BA i l.length with h2|h2
 rotate_left
 ·have e1:=Cb h2
  have hg:Cm l=true:=by
   unfold Cm;rw[CY];intro x hx;rw[Ch h2]at hs;exact hs x hx
  rw[hg];refine AF Rf (Ab e1 el) AB AB AB AB AB AB ?_;exact AJ rfl AA.out
 have e1:=CZ h2;have wi:=Cc (i:=i) (by omega);obtain⟨x,hx⟩:=CU h2;have hm:(l.map AE.D)[i]?=some (.agg [str (sb x.grain),i64 x.mass,.sl false 2 (x.shs.map A0.D)]):=by rw[A8,hx];rfl
 obtain⟨x0,hx0⟩:∃x,l[0]?=some x:=⟨_,Cf⟩
 have hm0:(l.map AE.D)[0]?=some (.agg [str (sb x0.grain),i64 x0.mass,.sl false 2 (x0.shs.map A0.D)]):=by rw[A8,hx0];rfl
 have hv0:=GC hx0;obtain⟨bG,hbG⟩:∃q,BI (sb x.grain) (sb x0.grain)=q:=⟨_,rfl⟩
 cases bG
 ·have hg:Cm l=false:=by
   unfold Cm;rw[List.all_eq_false];exact⟨x,Ay hx,by rw[hv0,hbG];decide⟩
  rw[hg];refine AF Rf (BS e1 el hbG kN) hm hm0 AB AB AB AB ?_;exact AJ rfl AA.out
 ·refine AF Rf (CI e1 el hbG wi kN) hm hm0 AB AB AB AB ?_
  exact⟨(i+1,_),⟨by dsimp only;omega,.inl h2,λy hy=>by
   dsimp only at hy;rw[D8,hx]at hy;rcases B0.1 hy with q|q
   ·exact hs y q
   ·have:y=x:=by simpa using q
    rw[this,hv0];exact hbG⟩,by dsimp only;omega,AL⟩
theorem iR (b:Bool)(l:List AE)(hl:l.length<=1000000)(hf:∀x∈l,x.modr):AK C0 44 [Am b l] (i64 (CG l:Nat)):=by
 refine AZ.walk w1 yZ rfl λF=>?_
 have el:(((l.map AE.D).length:Nat):Int)=(l.length:Int):=by rw[Ag]
 have hC:CG l=if 64<l.length then 5 else if D4 (λi=>Ce (Ca l i)) l.length≠0 then D4 (λi=>Ce (Ca l i)) l.length else if As l>999999999 then 4 else 0:=rfl
 by_cases h64:64<l.length
 ·rw[AH h64]at hC
  rw[hC];have q2:decide ((l.length:Int)>64)=true:=BV;refine AF AU (Ab el q2) AB AB AB AB AB AB ?_;exact AJ rfl AA.out
 rw[AG h64]at hC;have q2:decide ((l.length:Int)>64)=false:=Bc;refine AF AU (Ab el q2) AB AB AB AB AB AB ?_;refine AC.loop (α:=Nat×Nat) (λp=>⟨[(0,Am b l),(3,i64 (p.1:Int))],[],p.2⟩) (λp=>l.length-p.1) (λp=>p.1<=l.length/\∀j,j<p.1->Ce (Ca l j)=0) (0,_) ⟨BU _,λj h=>Af h (FN j)⟩ AL ?_;rintro⟨i,m⟩ F ⟨hi,hz⟩;dsimp only at hi hz⊢;rcases BA i l.length with h2|h2
 rotate_left
 ·have e1:=Cb h2
  have:i=l.length:=by omega
  subst this;rw[AG (λh=>h (M1 (f:=λi=>Ce (Ca l i)) hz))]at hC;have cT:=V9 b l (T7 h64 hz)
  by_cases h9:As l>999999999
  ·have e9:decide (As l>999999999)=true:=Au h9
   rw[AH h9]at hC;rw[hC];refine AF AU (Ar e1 el e9) cT AB AB AB AB AB ?_;exact AJ rfl AA.out
  ·have e9:decide (As l>999999999)=false:=Av h9
   rw[AG h9]at hC;rw[hC];refine AF AU (Ar e1 el e9) cT AB AB AB AB AB ?_;exact AJ rfl AA.out
 have e1:=CZ h2;have wi:=Cc (i:=i) (by omega);obtain⟨x,hx⟩:=CU h2;have hm:(l.map AE.D)[i]?=some (.agg [str (sb x.grain),i64 x.mass,.sl false 2 (x.shs.map A0.D)]):=by rw[A8,hx];rfl
 have hxm:=hf x (Ay hx);have cL:=d9a x hxm.1 hxm.2.1;unfold AE.D at cL;rcases Nat.decEq (Ce x) 0 with hc0|hc0
 ·have e3:=GX hc0
  have:=Ov (f:=λi=>Ce (Ca l i)) hz h2 (by rw[GC hx];exact hc0)
  rw[GC hx]at this;rw[this,AH hc0]at hC;rw[hC];refine AF AU (BS e1 el e3 kN) hm cL AB AB AB AB ?_;exact AJ rfl AA.out
 have e3:=Gw hc0;refine AF AU (CI e1 el e3 wi kN) hm cL AB AB AB AB ?_;exact⟨(i+1,_),⟨h2,λj hj=>by
  rcases Jl.1 hj with q|q
  ·exact hz j q
  ·rw[q,GC hx];exact hc0⟩,by dsimp only;omega,AL⟩
def Hn (x:AE):BW:=x.shs.map λs=>(s.lot,Bd s.part*(x.mass:Rat))
theorem YO {x:AE}(hn:(x.shs.map (·.lot)).Nodup):∀j,j<=x.shs.length->Gt x j []=(Hn x).take j
 | 0,_=>rfl
 |j+1,hj=>by
  obtain⟨s,hs⟩:∃s,x.shs[j]?=some s:=⟨_,Bo hj⟩
  rw[OR x j [] hs,YO hn j (by omega)];have hm:(Hn x)[j]?=some (s.lot,Bd s.part*(x.mass:Rat)):=by unfold Hn;rw[A8,hs];rfl
  have hnot:s.lot∉Cu ((Hn x).take j):=λh=>by
   obtain⟨z,hz,h2⟩:=By.1 h;obtain⟨i,hi⟩:=Lh.1 hz;have hij:i<j:=by
    have:=(BQ.1 hi).1
    rw[Bi]at this;omega
   rw[FP,AH hij]at hi;unfold Hn at hi;rw[A8]at hi;obtain⟨t,ht,rfl⟩:=Er.1 hi;have e1:(x.shs.map (·.lot))[i]?=some t.lot:=by rw[A8,ht];rfl
   have e2:(x.shs.map (·.lot))[j]?=some s.lot:=by rw[A8,hs];rfl
   have a1:=BQ.1 e1;have a2:=BQ.1 e2
   have:i=j:=(List.getElem_inj (h₀:=a1.1) (h₁:=a2.1) hn).1 (by rw[a1.2,a2.2];exact h2)
   omega
  have hl:Ew s.lot ((Hn x).take j)=none:=by
   cases h9:Ew s.lot ((Hn x).take j)with
   |none=>rfl
   |some o=>
    obtain⟨A,B,h3,-⟩:=Qp (v:=o) h9;exact Af (by rw[h3];simp[Cu]) hnot
  unfold KV;rw[hl];dsimp only;rw[(UB (v:=Bd s.part*(x.mass:Rat)) hl).2,D8,hm];rfl
theorem lh {x:AE}(hn:(x.shs.map (·.lot)).Nodup):CJ [x]=Hn x:=by
 show Gt x x.shs.length []=_;rw[YO hn _ (Al _),Ch];unfold Hn;rw[Ag];exact Al _
theorem rS {q:BW}(h:GQ q):F3 q=q:=(Te h.nd (.refl _) (Ku _) h.weak (RZ _)).symm
theorem pk (l:List AE):(FK l).Pairwise λa b=>ltStr a.lot b.lot=true:=by
 unfold FK;rw[List.pairwise_map,<-UI];exact UJ l
theorem U4 (l:List AE)(left:Int):CJ [GW l left]=Hn (GW l left)/\F3 (CJ [GW l left])=Hn (GW l left):=by
 have hp:(GW l left).shs.Pairwise λa b=>ltStr a.lot b.lot=true:=pk _
 have h1:=lh (x:=GW l left) (by
  rw[List.Nodup,List.pairwise_map];exact hp.imp λ{a b} h e=>by rw[e,swo_ltStr.irrefl]at h;cases h)
 refine⟨h1,?_⟩;rw[h1];refine rS ?_;unfold Hn;show List.Pairwise _ _;rw[List.pairwise_map];exact hp
theorem vS (b:Bool)(l:List AE)(hl:l.length<=9223372036854775807)(hs:∀x∈l,x.shs.length<=9223372036854775807):AK C0 52 [Am b l] (Ai (HF l)):=by
 refine AZ.walk w1 yc rfl λF=>?_
 have el:(((l.map AE.D).length:Nat):Int)=(l.length:Int):=by rw[Ag]
 refine AF AU el AB AB AB AB AB AB ?_;refine AC.loop (α:=Nat×Nat) (λp=>⟨[(0,Am b l),(7,Am b l),(8,i64 (l.length:Int)),(9,i64 (p.1:Int))],[],p.2⟩) (λp=>l.length-p.1) (λq=>q.1<=l.length/\(l.take q.1).all AE.shB=true) (0,_) ⟨BU _,rfl⟩ AL ?_;rintro⟨i,n⟩ F ⟨hi,ha⟩;dsimp only at hi ha⊢;rcases BA i l.length with h2|h2
 rotate_left
 ·have e1:=Cb h2
  have:i=l.length:=by omega
  subst this;rw[C6]at ha;obtain⟨q1,h1⟩:∃q,decide ((l.length:Int)<=8)=q:=⟨_,rfl⟩
  obtain⟨q2,h2'⟩:∃q,decide ((l.length:Int)>64)=q:=⟨_,rfl⟩
  obtain⟨q3,h3⟩:∃q,decide ((l.length:Int)<=80)=q:=⟨_,rfl⟩
  have hb:HF l=(q1||(q2&&q3)):=by
   unfold HF;rw[ha,<-h1,<-h2',<-h3,Gc]
   congr 1
   ·exact DA.2 (by omega)
   ·congr 1
    ·exact DA.2 (by omega)
    ·exact DA.2 (by omega)
  rw[hb];cases q1<;>cases q2<;>cases q3
  all_goals
   refine AF AU (Ci e1 el h1 h2' h3 kT kF) AB AB AB AB AB AB ?_;exact AJ rfl AA.out
 have e1:=CZ h2;have wi:=Cc (i:=i) (by omega);obtain⟨x,hx⟩:=CU h2;have hm:(l.map AE.D)[i]?=some (.agg [str (sb x.grain),i64 x.mass,.sl false 2 (x.shs.map A0.D)]):=by rw[A8,hx];rfl
 have hsx:=hs x (Ay hx);have ex:(((x.shs.map A0.D).length:Nat):Int)=(x.shs.length:Int):=by rw[Ag]
 have hsz:=Cd x.grain;obtain⟨p1,h1⟩:∃q,decide ((x.grain.length:Int)>100)=q:=⟨_,rfl⟩
 obtain⟨p2,h2'⟩:∃q,decide ((x.shs.length:Int)>8)=q:=⟨_,rfl⟩
 obtain⟨p3,h3⟩:∃q,decide ((x.shs.length:Int)<=64)=q:=⟨_,rfl⟩
 obtain⟨p4,h4⟩:∃q,decide ((x.shs.length:Int)>80)=q:=⟨_,rfl⟩
 have hb:x.shB=(!p1&&(!p2 || !p3) && !p4&&x.shs.all A0.shB):=by
  unfold AE.shB;rw[<-h1,<-h2',<-h3,<-h4]
  congr 1
  congr 1
  ·congr 1
   ·rw[<-decide_not];exact DA.2 (by omega)
   ·congr 1
    ·rw[<-decide_not];exact DA.2 (by omega)
    ·rw[<-decide_not];exact DA.2 (by omega)
  ·rw[<-decide_not];exact DA.2 (by omega)
 by_cases g:(!p1&&(!p2 || !p3) && !p4)=true
 rotate_left
 ·have hbf:x.shB=false:=by rw[hb];simp only[Bool.not_eq_true]at g;rw[g];rfl
  have hsf:HF l=false:=by unfold HF;rw[Ud hx hbf];rfl
  rw[hsf];cases p1<;>cases p2<;>cases p3<;>cases p4
  all_goals first
   |exact Af rfl g
   |skip
  all_goals
   refine AF AU (Ci e1 hsz ex h1 h2' h3 (BS h4 kN kT kF)) hm AB AB AB AB AB ?_;exact AJ rfl AA.out
 rw[g,Gc]at hb;cases p1<;>cases p2<;>cases p3<;>cases p4
 all_goals first
  |exact Af g (by decide)
  |skip
 all_goals
  refine AF AU (Ci e1 hsz ex h1 h2' h3 (BS h4 kN kT kF)) hm AB AB AB AB AB ?_;refine AC.loop (α:=Nat×Nat) (λp=>⟨[(0,Am b l),(7,Am b l),(8,i64 (l.length:Int)),(9,i64 (i:Int)),(36,.sl false 2 (x.shs.map A0.D)),(37,i64 (x.shs.length:Int)),(38,i64 (p.1:Int))],[],p.2⟩) (λp=>x.shs.length-p.1) (λq=>q.1<=x.shs.length/\(x.shs.take q.1).all A0.shB=true) (0,_) ⟨BU _,rfl⟩ AL ?_;clear h1 h2' h3 h4 g;rintro⟨j,n⟩ F ⟨hj,haj⟩;dsimp only at hj haj⊢;rcases BA j x.shs.length with g2|g2
  ·have e3:=CZ g2
   have wj:=Cc (i:=j) (by omega);obtain⟨y,hy⟩:=CU g2;have hmy:(x.shs.map A0.D)[j]?=some (.agg [str (sb y.lot),str (sb y.part)]):=by rw[A8,hy];rfl
   have hs1:=Cd y.lot;have hs2:=Cd y.part;obtain⟨r1,k1⟩:∃q,decide ((y.lot.length:Int)>100)=q:=⟨_,rfl⟩
   obtain⟨r2,k2⟩:∃q,decide ((y.part.length:Int)>14)=q:=⟨_,rfl⟩
   have hby:y.shB=(!r1 && !r2):=by
    unfold A0.shB;rw[<-k1,<-k2]
    congr 1
    ·rw[<-decide_not];exact DA.2 (by omega)
    ·rw[<-decide_not];exact DA.2 (by omega)
   have fin:y.shB=false->HF l=false:=λh=>by
    have:x.shB=false:=by rw[hb,Ud hy h]
    unfold HF;rw[Ud hx this];rfl
   cases r1
   ·cases r2
    ·refine AF AU (Ci e3 wj hs1 hs2 k1 k2 (Ar kN kT kF)) hmy AB AB AB AB AB ?_
     exact⟨(j+1,_),⟨g2,Yf hy haj hby⟩,by dsimp only;omega,AL⟩
    ·rw[fin hby]
     refine AF AU (Ci e3 wj hs1 hs2 k1 k2 (Ar kN kT kF)) hmy AB AB AB AB AB ?_;exact AJ rfl AA.out
   ·rw[fin hby]
    refine AF AU (Ci e3 wj hs1 hs2 k1 kN (Ab kT kF)) hmy AB AB AB AB AB ?_;exact AJ rfl AA.out
  ·have e3:=Cb g2
   have:j=x.shs.length:=by omega
   subst this;rw[C6]at haj;refine AF AU (Ab e3 wi) AB AB AB AB AB AB ?_;exact⟨(i+1,_),⟨h2,Yf hx ha (hb.trans haj)⟩,by dsimp only;omega,AL⟩
theorem rN {l:List AE}(h:HF l=true):(∀x∈l,x.lite/\x.modr)/\l.length<=80/\(l.length<=8\/64<l.length):=by
 unfold HF at h;simp only[Ba,JC,CY,G4]at h;obtain⟨h1,h2⟩:=h;refine⟨λx hx=>?_,by omega,by omega⟩;have hb:=h1 x hx;unfold AE.shB at hb;simp only[Ba,JC,CY,G4]at hb;obtain⟨⟨⟨b1,b2⟩,b3⟩,b4⟩:=hb;have hs:∀s∈x.shs,s.lot.length<=100/\s.part.length<=14:=λs hs=>by
  have:=b4 s hs
  unfold A0.shB at this;simpa using this
 have hl:x.lite:=⟨⟨by omega,by omega,λs q=>⟨by have:=(hs s q).1;omega,by have:=(hs s q).2;omega⟩⟩,λs q=>⟨by have:=(hs s q).1;omega,by have:=(hs s q).2;omega⟩⟩
 exact⟨hl,by omega,hl⟩
abbrev Zo:Dr:=[(6,[0,1,2,3,4,5,6,7,8,9,10,11,12],[13,14])]
open Go.Proofs Go.RowKit Go.Sort
set_option maxRecDepth 20000
set_option maxHeartbeats 4000000
theorem IB {l:List AE}(h:CG l=0):l.length<=64/\(∀x∈l,1<=x.mass/\x.mass<=1000000000/\x.shs.length<=1000000)/\Ja l:=by
 obtain⟨g1,g2,g3⟩:=Is h;have hx:∀x∈l,1<=x.mass/\x.mass<=1000000000/\x.shs.length<=1000000:=λx q=>by
  obtain⟨a,b,c,d⟩:=L7 (g2 x q)
  have:=(Qv d).2.1
  exact⟨by omega,by omega,by omega⟩
 exact⟨g1,hx,by omega,λx q=>by have:=hx x q;omega⟩
theorem zJ (b:Bool)(l:List AE)(hl:l.length<=8)(hx:∀x∈l,x.okR)(hq:(DS l).length<=1000000):AK C0 49 [Am b l] (.sl false 2 ((DS l).map Bu)):=by
 refine AZ.walk w1 y9 rfl λF=>?_
 have cM:=zI b l hl hx;obtain⟨q,hqq⟩:∃q,DS l=q:=⟨_,rfl⟩
 rw[hqq]at cM hq⊢;have el:(((q.map Bu).length:Nat):Int)=(q.length:Int):=by rw[Ag]
 refine sR 0 ?_;refine sR 100 ?_;refine sR 200 ?_;refine cI cM ?_;refine AC.seq ?_;refine sR 300 ?_;refine AC.ghost 613 71 2 [(4,.sl false 2 (q.map Bu)),(3,.osl 613 _ 2 0 0),(5,i64 ((0:Nat):Int))] ⟨.inl rfl,.inr ⟨rfl,rfl⟩,.inl rfl,trivial⟩ ?_;refine AC.block ?_;refine AC.loop (α:=Nat×Nat×Nat) (λp=>⟨[(4,.sl false 2 (q.map Bu)),(3,.osl 613 p.2.1 2 0 p.1),(5,i64 (p.1:Int))],[⟨613,p.2.1,71,2,(q.take p.1).map Bu⟩],p.2.2⟩) (λp=>q.length-p.1) (λr=>r.1<=q.length) (0,_,_) (BU _) AL ?_;rintro⟨i,g,n⟩ F hi;dsimp only at hi⊢;rcases BA i q.length with h2|h2
 rotate_left
 ·have k1:=Cb h2
  have:i=q.length:=by omega
  subst this;rw[C6];have hf:=IA (H:=[⟨613,g,71,2,q.map Bu⟩]) (Hf:=[]) (k:=613) (g:=g) (T:=71) (sz:=2) (l:=q.map Bu) rfl;rw[Ag]at hf;refine AF Zo (Ab el k1) AB AB AB AB AB AB ?_;exact⟨_,hf,AA.out,rfl⟩
 have k1:=CZ h2;have wi:=Cc (i:=i) (by omega);obtain⟨x,hx'⟩:=CU h2;have hm:(q.map Bu)[i]?=some (.agg [str (sb x.1),str (sb (An x.2))]):=by rw[A8,hx'];rfl
 have ht:(q.take (i+1)).map Bu=(q.take i).map Bu++[.agg [str (sb x.1),str (sb (An x.2))]]:=by
  rw[D8,hx',DK];rfl
 have htl:((q.take i).map Bu).length=i:=by rw[Ag,Bi];omega
 obtain⟨R,hR⟩:∃R,(q.take i).map Bu=R:=⟨_,rfl⟩
 rw[hR]at ht htl⊢;refine AF Zo (BS el k1 wi kN) hm AB AB AB AB AB ?_;refine⟨(i+1,n+1+1+1+1+15,n+1000),h2,by dsimp only;omega,?_⟩;dsimp only;rw[ht,Ch (show R.length<=i by omega)];exact AL
abbrev Rg:Dr:=[(4,[0,1,2,3,4,5,6,7,8,9,10,11,12,13,14],[15,16])]
open Go.Proofs Go.RowKit Go.Sort
set_option maxRecDepth 20000
set_option maxHeartbeats 4000000
structure BR where
 flow:List UInt8
 core:Int
 room:Int
 side:Int
 cells:List (List AE)
abbrev GY (b:Bool)(cs:List (List AE)):D:=.sl b 1 (cs.map (Am false))
def BR.D (x:BR):D:=.agg [str (sb x.flow),i64 x.core,i64 x.room,i64 x.side,GY false x.cells]
instance  (x:BR):AO x.D:=by unfold BR.D;exact AI
instance  (x:BR):AA x.D:=by unfold BR.D;exact AI
theorem fJ (b:Bool)(l:List AE)(hl:l.length<=9223372036854775807):AK C0 59 [Am b l] (i64 (Dt l)):=by
 refine AZ.walk w1 V1 rfl λF=>?_
 have el:(((l.map AE.D).length:Nat):Int)=(l.length:Int):=by rw[Ag]
 refine AF AU el AB AB AB AB AB AB ?_;refine AC.loop (α:=Nat×Nat) (λp=>⟨[(3,i64 (Dt (l.take p.1))),(6,Am b l),(7,i64 (l.length:Int)),(8,i64 (p.1:Int))],[],p.2⟩) (λp=>l.length-p.1) (λp=>p.1<=l.length) (0,_) (BU _) AL ?_;rintro⟨i,m⟩ F hi;dsimp only at hi⊢;rcases BA i l.length with h2|h2
 rotate_left
 ·have e1:=Cb h2
  have:i=l.length:=by omega
  subst this;rw[C6];refine AF AU e1 AB AB AB AB AB AB ?_;exact AJ rfl AA.out
 have e1:=CZ h2;have wi:=Cc (i:=i) (by omega);obtain⟨x,hx⟩:=CU h2;have hm:(l.map AE.D)[i]?=some (.agg [str (sb x.grain),i64 x.mass,.sl false 2 (x.shs.map A0.D)]):=by rw[A8,hx];rfl
 have wS:=(T5 hx).symm;refine AF AU (BS e1 wi @wS kN) hm AB AB AB AB AB ?_;exact⟨(i+1,_),h2,by dsimp only;omega,AL⟩
def EM (n lo hi:Int):Bool:=decide (n>=lo)&&decide (n<=hi)
theorem O5 (n lo hi:Int):AK C0 77 [i64 n,i64 lo,i64 hi] (Ai (EM n lo hi)):=by
 refine AZ.walk w1 gS rfl λF=>?_
 obtain⟨p,hp⟩:∃p,decide (n>=lo)=p:=⟨_,rfl⟩
 have hb:EM n lo hi=(p&&decide (n<=hi)):=by unfold EM;rw[hp]
 rw[hb];cases p
 ·refine AF AU (Ar hp kT kF) AB AB AB AB AB AB ?_
  exact AJ rfl AA.out
 ·refine AF AU (Ar hp kT kF) AB AB AB AB AB AB ?_
  exact AJ rfl AA.out
def IR (side:Int)(l:List Int):Bool:=(List.range (l.length-1)).any λi=>!EM (IntKind.i64.wrap (l.getD (i+1) 0-l.getD i 0)) (IntKind.i64.wrap (0-side)) side
theorem dS {side:Int}{l:List Int}{i:Nat}(h:i+1<l.length)(hb:EM (IntKind.i64.wrap (l.getD (i+1) 0-l.getD i 0)) (IntKind.i64.wrap (0-side)) side=false):IR side l=true:=by
 unfold IR;rw[List.any_eq_true];exact⟨i,List.mem_range.2 (by omega),by rw[hb];rfl⟩
theorem dT {side:Int}{l:List Int}(h:∀i,i+1<l.length->EM (IntKind.i64.wrap (l.getD (i+1) 0-l.getD i 0)) (IntKind.i64.wrap (0-side)) side=true):IR side l=false:=by
 unfold IR;rw[List.any_eq_false];intro i hi
 have:=List.mem_range.1 hi
 rw[h i (by omega)];decide
theorem sO (x:BR)(b:Bool)(l:List Int)(hl:l.length<=1000000):AK C0 67 [x.D,.sl b 1 (CW l)] (i64 (if IR x.side l then 17 else 0)):=by
 refine AZ.walk w1 gG rfl λF=>?_
 have el:((CW l).length:Int)=(l.length:Int):=by rw[Ag]
 have elN:(CW l).length=l.length:=Ag ..;unfold BR.D;obtain⟨cd,hcd⟩:∃d,GY false x.cells=d:=⟨_,rfl⟩
 have pcd:AA cd:=by rw[<-hcd];exact AI
 have ncd:KA cd=true:=by rw[<-hcd];rfl
 rw[hcd];refine AF Rg el AB AB AB AB AB AB ?_;refine AC.loop (α:=Nat×Nat) (λp=>⟨[(1,.sl b 1 (CW l)),(2,.optr 0 0 5 0 0),(5,i64 ((p.1+1:Nat):Int))],[⟨0,0,24,5,[.agg [str (sb x.flow),i64 x.core,i64 x.room,i64 x.side,cd]]⟩],p.2⟩) (λp=>l.length-p.1) (λp=>p.1<=l.length/\∀j,j<p.1->EM (IntKind.i64.wrap (l.getD (j+1) 0-l.getD j 0)) (IntKind.i64.wrap (0-x.side)) x.side=true) (0,_) ⟨BU _,λj h=>Af h (FN j)⟩ AL ?_;rintro⟨i,m⟩ F ⟨hi,ha⟩;dsimp only at hi ha⊢;rcases BA (i+1) l.length with h2|h2
 rotate_left
 ·have e1:=Cb h2
  rw[dT λj hj=>ha j (by omega)];refine AF Rg (Ab el e1) AB AB AB AB AB AB ?_;exact AJ rfl AA.out
 have e1:=CZ h2;have wi:=Cc (i:=i+1) (by omega);have w2:IntKind.i64.wrap (((i+1:Nat):Int)-1)=((i:Nat):Int):=by rw[wI];omega
 have hm1:=PV (l:=l) (i:=i+1) h2;have hm2:=PV (l:=l) (i:=i) (by omega);have cW:=O5 (IntKind.i64.wrap (l.getD (i+1) 0-l.getD i 0)) (IntKind.i64.wrap (0-x.side)) x.side;have hbad:=dS (side:=x.side) h2;obtain⟨u,hu⟩:∃u,l.getD (i+1) 0=u:=⟨_,rfl⟩
 obtain⟨v,hv⟩:∃u,l.getD i 0=u:=⟨_,rfl⟩
 have hgood:=λ(hq:EM (IntKind.i64.wrap (u-v)) (IntKind.i64.wrap (0-x.side)) x.side=true) (j:Nat) (hj:j<i+1)=>show EM (IntKind.i64.wrap (l.getD (j+1) 0-l.getD j 0)) (IntKind.i64.wrap (0-x.side)) x.side=true from by
  rcases BA j i with h|h
  ·exact ha j h
  ·have:j=i:=by omega
   subst this;rw[hu,hv];exact hq
 rw[hu]at hm1 cW hbad;rw[hv]at hm2 cW hbad;obtain⟨q,hq⟩:∃q,EM (IntKind.i64.wrap (u-v)) (IntKind.i64.wrap (0-x.side)) x.side=q:=⟨_,rfl⟩
 rw[hq]at cW hbad hgood;obtain⟨L,hL⟩:∃L,CW l=L:=⟨_,rfl⟩
 have pL:AA (.sl b 1 L):=by rw[<-hL];exact AI
 rw[hL]at hm1 hm2 el⊢;cases q
 ·rw[hbad rfl]
  refine AF Rg (CI el e1 w2 wi kN) hm1 hm2 cW AB AB AB ?_;exact AJ rfl AA.out
 ·refine AF Rg (CI el e1 w2 wi kN) hm1 hm2 cW AB AB AB ?_
  exact⟨(i+1,_),⟨by omega,hgood rfl⟩,by dsimp only;omega,AL⟩
def FA (x:BR):List Int:=x.cells.map Dt
theorem om (x:BR)(hl:x.cells.length<=1000000)(hc:∀c∈x.cells,c.length<=9223372036854775807):AK C0 68 [x.D] (.sl false 1 (CW (FA x))):=by
 refine AZ.walk w1 V2 rfl λF=>?_
 obtain⟨cs,hcs⟩:∃c,x.cells=c:=⟨_,rfl⟩
 have hlv:FA x=cs.map Dt:=by unfold FA;rw[hcs]
 rw[hlv];rw[hcs]at hl hc;have el:(((cs.map (Am false)).length:Nat):Int)=(cs.length:Int):=by rw[Ag]
 unfold BR.D;rw[hcs];refine sR 0 ?_;refine sR 100 ?_;refine AC.seq ?_;refine sZ 200 ?_;refine AW el ?_;refine AC.ghost 504 3 1 [(3,.osl 504 _ 1 0 0),(7,GY false cs),(8,i64 (cs.length:Int)),(9,i64 ((0:Nat):Int))] ⟨.inr ⟨rfl,rfl⟩,.inl rfl,.inl rfl,.inl rfl,trivial⟩ ?_;refine AC.block ?_;refine AC.loop (α:=Nat×Nat×Nat) (λp=>⟨[(3,.osl 504 p.2.1 1 0 p.1),(7,GY false cs),(8,i64 (cs.length:Int)),(9,i64 (p.1:Int))],[⟨504,p.2.1,3,1,CW ((cs.take p.1).map Dt)⟩],p.2.2⟩) (λp=>cs.length-p.1) (λq=>q.1<=cs.length) (0,_,_) (BU _) AL ?_;rintro⟨i,g,n⟩ F hi;dsimp only at hi⊢;rcases BA i cs.length with h2|h2
 rotate_left
 ·have e1:=Cb h2
  have:i=cs.length:=by omega
  subst this;rw[C6];have hf:=IA (H:=[⟨504,g,3,1,CW (cs.map Dt)⟩]) (Hf:=[]) (k:=504) (g:=g) (T:=3) (sz:=1) (l:=CW (cs.map Dt)) rfl;rw[Ag,Ag]at hf;refine AF AU e1 AB AB AB AB AB AB ?_;exact⟨_,hf,AA.out,rfl⟩
 have e1:=CZ h2;have wi:=Cc (i:=i) (by omega);obtain⟨c,hc'⟩:=CU h2;have hm:(cs.map (Am false))[i]?=some (.sl false 3 (c.map AE.D)):=by rw[A8,hc'];rfl
 have cT:=fJ false c (hc c (Ay hc'));have ht:CW ((cs.take (i+1)).map Dt)=CW ((cs.take i).map Dt)++[i64 (Dt c)]:=by
  rw[D8,hc',DK];unfold CW;rw[DK];rfl
 have htl:(CW ((cs.take i).map Dt)).length=i:=by rw[Ag,Ag,Bi];omega
 obtain⟨R,hR⟩:∃R,CW ((cs.take i).map Dt)=R:=⟨_,rfl⟩
 rw[hR]at ht htl⊢;refine AF AU (Ar e1 wi kN) hm cT AB AB AB AB ?_;refine⟨(i+1,n+1+1+1+1+1+1+1+1,n+1000),h2,by dsimp only;omega,?_⟩;dsimp only;rw[ht,Ch (show R.length<=i by omega)];exact AL
open Go.ChangeShapes Go.WideShapes
def BR.fit (x:BR):Prop:=x.cells.length<=maxLen/\∀c∈x.cells,c.length<=maxLen/\∀y∈c,y.shs.length<=maxLen
section
variable {H:Type} {enc:TypeId×Value->H} {W:World} {fuel:Nat} {cs:List Value} {x:DataW H×List MemPlace} {t:TypeId}
theorem oY (h:DataW.trod enc Tryz.prog W 0 (λ_=>true) true fuel 22 cs=some x):∃l:List (List AE),Du W cs [GY false l]/\(∀c∈l,c.length<=maxLen/\∀y∈c,y.shs.length<=maxLen)/\l.length<=maxLen:=
 Vy (g:=Am false) (ok:=λc=>c.length<=maxLen/\∀y∈c,y.shs.length<=maxLen) (e:=37) (sz:=1) (by kernel_rfl) (by kernel_rfl) (by decide) (λ_ _ _ h=>by
  obtain⟨l,h1,h2,h3⟩:=mL h;exact⟨l,h1,h3,h2⟩) h
theorem xG (h:DataW.trod enc Tryz.prog W 0 (λ_=>true) true fuel 24 cs=some x):∃s:BR,Du W cs s.D.cells/\s.fit:=by
 obtain⟨h1,n,h2⟩:=Vz (l:=[(9,0,1),(3,1,1),(3,2,1),(3,3,1),(22,4,1)]) (m:=5) (by kernel_rfl) (by kernel_rfl) h;obtain⟨y0,k0⟩:=h2 0 _ _ _ rfl;obtain⟨y1,k1⟩:=h2 1 _ _ _ rfl;obtain⟨y2,k2⟩:=h2 2 _ _ _ rfl;obtain⟨y3,k3⟩:=h2 3 _ _ _ rfl;obtain⟨y4,k4⟩:=h2 4 _ _ _ rfl;obtain⟨a0,r0,_⟩:=Qn k0;obtain⟨a1,r1⟩:=SM k1;obtain⟨a2,r2⟩:=SM k2;obtain⟨a3,r3⟩:=SM k3;obtain⟨a4,r4,hc,hl⟩:=oY k4;exact⟨⟨a0,a1,a2,a3,a4⟩,VV h1 (MM (b:=1) (c:=4) r0 (MM (b:=1) (c:=3) r1 (MM (b:=1) (c:=2) r2 (MM (b:=1) (c:=1) r3 r4)))),hl,hc⟩
end
abbrev Ur:Dr:=[(1,[0,1,2,3,4,5,6],[7]),(9,[0,1,2,3,4],[5,6])]
open Go.Proofs Go.RowKit
set_option maxRecDepth 20000
set_option maxHeartbeats 4000000
def MY:List AE->Int->Int->List AE
 | [],_,_=>[]
 |x::r,low,left=>x.w (min (x.mass-min x.mass low) left)::MY r (low-min x.mass low) (left-min (x.mass-min x.mass low) left)
structure Wm where
 o:List AE
 low:Int
 left:Int
 g:Nat
def KP (g1 g2:Nat)(p:Wm):Hp:=EC 905 p.g 52 3 (p.o.map AE.D)++[⟨200,g2,37,1,[EI 905 p.g 3 (p.o.map AE.D)]⟩,⟨106,g1,3,1,[i64 p.left]⟩,⟨0,0,3,1,[i64 p.low]⟩]
theorem Zh (g1 g2:Nat)(a b:Int)(g:Nat):KP g1 g2 ⟨[],a,b,g⟩=[⟨200,g2,37,1,[CS]⟩,⟨106,g1,3,1,[i64 b]⟩,⟨0,0,3,1,[i64 a]⟩]:=rfl
theorem Q6 (g1 g2:Nat)(z:AE)(o:List AE)(a b:Int)(g:Nat):KP g1 g2 ⟨z::o,a,b,g⟩=[⟨905,g,52,3,z.D::o.map AE.D⟩,⟨200,g2,37,1,[.osl 905 g 3 0 ((o.map AE.D).length+1)]⟩,⟨106,g1,3,1,[i64 b]⟩,⟨0,0,3,1,[i64 a]⟩]:=rfl
def PZ (L:List AE)(low left:Int)(k:Nat)(p:Wm):Prop:=p.o.length=k/\p.o++MY (L.drop k) p.low p.left=MY L low left/\0<=p.low/\p.low<=1000000000000/\0<=p.left/\p.left<=1000000000000000
theorem jv (b:Bool)(l:List AE)(low high:Int)(hl:l.length<=1000000)(h1:0<=low/\low<=1000000000000)(h2:0<=high/\high<=1000000000000)(t:Int)(ht:low+high<=t/\t<=1000000000000000)(hx:∀x∈l,0<=x.mass/\x.mass<=1000000000)
  (cT:AK C0 59 [Am b l] (i64 t))
  (ho:∀x∈l,∀m,AK C0 74 [x.D,i64 m] (x.w m).D) (R:D) [pR:AA R] (hN:AK C0 64 [Am false (MY l low (t-low-high))] R):
  AK C0 62 [Am b l,i64 low,i64 high] R:=by
 refine AZ.walk w1 gE rfl λF=>?_
 have cV:=Uc b false (l.map AE.D);have hT:∀x∈l.map AE.D,∃a c d,x=.agg [a,c,d]:=λx hx=>by
  obtain⟨y,-,rfl⟩:=By.1 hx;exact⟨_,_,_,rfl⟩
 have hoA:∀k,k<l.length->∃y,y∈l/\l[k]?=some y/\(l.map AE.D)[if false then(l.map AE.D).length-1-k else k]?=some y.D:=λk hk=>⟨_,List.getElem_mem hk,Bo hk,by
  show(l.map AE.D)[k]?=_;rw[A8,Bo hk];rfl⟩
 unfold Am at cT⊢;obtain⟨T,hTT⟩:∃T,l.map AE.D=T:=⟨_,rfl⟩
 have pT:AA (.sl b 3 T):=by rw[<-hTT];exact AI
 have hTl:T.length=l.length:=by rw[<-hTT,Ag]
 rw[hTT]at cV hT hoA cT⊢;have w1':IntKind.i64.wrap (t-low)=t-low:=wI;have w2:IntKind.i64.wrap (t-low-high)=t-low-high:=wI;obtain⟨e,he⟩:∃e,t-low-high=e:=⟨_,rfl⟩
 have w2':IntKind.i64.wrap (t-low-high)=e:=by rw[w2,he]
 rw[he]at hN;have he0:0<=e/\e<=1000000000000000:=by omega
 refine AF Ur (Ab w1' w2') cT cV AB AB AB AB ?_;have h0:PZ l low e 0 ⟨[],low,e,0⟩:=⟨rfl,rfl,h1.1,h1.2,he0.1,he0.2⟩
 refine AC.rangeFunc (fi:=150) (first:=[]) (captured:=[.pptr (.sl b 3 T),.pptr (Ai false)]) (Ψ:=λj _ H' _=>(j=none/\∃a,PZ l low e T.length a/\H'=KP 8 11 a)\/(j=some (.exit 0)/\False)) rfl
  (λds H n Φ=>∃k a x,PZ l low e k a/\k<T.length/\T[if false then T.length-1-k else k]?=some x/\ds=[x]/\H=KP 8 11 a/\Φ=λj H' _=>(j=none/\∃a',PZ l low e (k+1) a'/\Cw H' (KP 8 11 a') H' (KP 8 11 a'))\/(j=some (.exit 0)/\False)) ?_
  (λE l' R' hE hY=>V8 hE b false T hT (by omega) (λ_ a=>KP 8 11 a) (PZ l low e) (.exit 0) (λ_=>False) ⟨[],low,e,0⟩ h0 _ λk a x n hP hk hx=>hY _ _ _ _ ⟨k,a,x,hP,hk,hx,rfl,rfl,rfl⟩) ?_
 ·rintro l' ds H n Φ ⟨k,⟨o,lw,lf,g⟩,x,⟨p1,p2,p3,p4,p6,p7⟩,hk,hxT,rfl,rfl,rfl⟩
  dsimp only at p1 p2 p3 p4 p6 p7;obtain⟨y,hy1,hy2,hy3⟩:=hoA k (by omega);rw[hy3]at hxT;cases hxT;have hd:l.drop k=y::l.drop (k+1):=by
   have:=(BQ.1 hy2)
   rw[EN this.1,this.2]
  rw[hd]at p2;have hb:=hx y hy1;have cO:=ho y hy1 (min (y.mass-min y.mass lw) lf);have p5:(o++[y.w (min (y.mass-min y.mass lw) lf)])++MY (l.drop (k+1)) (lw-min y.mass lw) (lf-min (y.mass-min y.mass lw) lf)=MY l low e:=by
   rw[<-p2,EE];rfl
  have a1:IntKind.i64.wrap (lw-min y.mass lw)=lw-min y.mass lw:=wI;have a2:IntKind.i64.wrap (y.mass-min y.mass lw)=y.mass-min y.mass lw:=wI;have a3:IntKind.i64.wrap (lf-min (y.mass-min y.mass lw) lf)=lf-min (y.mass-min y.mass lw) lf:=wI;have q1:0<=lw-min y.mass lw/\lw-min y.mass lw<=1000000000000/\0<=lf-min (y.mass-min y.mass lw) lf/\lf-min (y.mass-min y.mass lw) lf<=1000000000000000:=by omega
  refine⟨rfl,λF=>?_⟩;unfold AE.w AE.D at cO;unfold AE.D;dsimp only at cO⊢;obtain⟨SD,hSD⟩:∃d,D5 false y.shs=d:=⟨_,rfl⟩
  have pS:AA SD:=by rw[<-hSD];exact AI
  rw[hSD]at cO⊢;rcases o with _|⟨z,o⟩
  ·rw[Zh]
   dsimp only[HG];refine Ao 400 ?_;refine AD kB ?_;refine⟨trivial,trivial,λF'=>?_⟩;refine AF Ur (Ar a1 a2 a3) cO AB AB AB AB AB ?_;refine .inl ⟨rfl,⟨[y.w (min (y.mass-min y.mass lw) lf)],lw-min y.mass lw,lf-min (y.mass-min y.mass lw) lf,n+1+1+1+1+1+1+1+1+1+1+1+1+1+1+1+1+1+1+1+1+1+1+7⟩,⟨by rw[<-p1];rfl,p5,q1⟩,?_⟩;rw[Q6,<-hSD];exact .keep (.drop (Hb _))
  ·have hol:o.length<=1000000:=by rw[Bq]at p1;omega
   rw[Q6];dsimp only[HG];obtain⟨O,hO⟩:∃O,o.map AE.D=O:=⟨_,rfl⟩
   obtain⟨zD,hzD⟩:∃O,z.D=O:=⟨_,rfl⟩
   have hOl:O.length=o.length:=by rw[<-hO,Ag]
   rw[hO,hzD];refine Ao 400 ?_;refine AD kB ?_;refine⟨trivial,trivial,λF'=>?_⟩;refine AF Ur (Ar a1 a2 a3) cO AB AB AB AB AB ?_;rw[show List.take (O.length+1) (zD::O)=zD::O from C6 (l:=zD::O)];refine .inl ⟨rfl,⟨z::o++[y.w (min (y.mass-min y.mass lw) lf)],lw-min y.mass lw,lf-min (y.mass-min y.mass lw) lf,n+1+1+1+1+1+1+1+1+1+1+1+1+1+1+1+1+1+1+1+1+1+1+7⟩,⟨by rw[<-p1];simp,p5,q1⟩,?_⟩;have hs:∀g' a b,KP 8 11 ⟨z::o++[y.w (min (y.mass-min y.mass lw) lf)],a,b,g'⟩=[⟨905,g',52,3,zD::O++[.agg [str (sb y.grain),i64 (min (y.mass-min y.mass lw) lf),SD]]⟩,⟨200,11,37,1,[.osl 905 g' 3 0 (O.length+1+1)]⟩,⟨106,8,3,1,[i64 b]⟩,⟨0,0,3,1,[i64 a]⟩]:=λg' a b=>by
    rw[E2,Q6,<-hO,<-hzD,<-hSD,DK];rw[Bp];rfl
   rw[hs];exact .keep (.drop (Hb _))
 ·rintro j d H' n' F' hE
  rcases hE with⟨rfl,⟨o,lw,lf,g⟩,⟨p1,p2,-⟩,rfl⟩|⟨-,h⟩
  rotate_left
  ·exact h.elim
  dsimp only at p2;rw[List.drop_eq_nil_of_le (by omega)]at p2;have ho2:o=MY l low e:=by rw[<-p2];exact(Dm o).symm
  rw[<-ho2]at hN;rcases o with _|⟨z,o⟩
  ·rw[Zh]
   change AC _ _ _ _ _ _ _;refine sR 1000 ?_;refine A7.pure [.sl false 3 []] _ ⟨.nil 3,trivial⟩ hN AI ?_;refine BO ?_;refine Ad ?_;exact AJ rfl pR.out
  ·have hR:=IA (H:=KP 8 11 ⟨z::o,lw,lf,g⟩) (Hf:=[]) (k:=905) (g:=g) (T:=52) (sz:=3) (l:=(z::o).map AE.D) rfl
   have hle:((z::o).map AE.D).length=(o.map AE.D).length+1:=rfl;rw[hle]at hR;rw[Q6]at hR⊢;change AC _ _ _ _ _ _ _;refine sR 1000 ?_;refine A7.own _ (Mk [] hN (.drop (.drop (.drop (.drop .nil)))) ⟨hR,trivial⟩ AI) ?_;rintro d H2 n2 ⟨rfl,rfl,rfl⟩;refine BO ?_;refine Ad ?_;exact AJ rfl pR.out
def Ev (lot:List UInt8)(x:AE):Bool:=x.shs.any λs=>BI (sb s.lot) (sb lot)
def CX (lot:List UInt8):List AE->Int->List (Int×Int)
 | [],_=>[]
 |x::r,n=>(if Ev lot x then[(n+1,n+x.mass)]else[])++CX lot r (n+x.mass)
def C8 (p:Int×Int):D:=.agg [i64 p.1,i64 p.2]
instance  (p:Int×Int):AO (C8 p):=by unfold C8;exact AI
instance  (p:Int×Int):AA (C8 p):=by unfold C8;exact AI
theorem za (lot:List UInt8)(s:A0):AK C0 133 [s.D,.pptr (str (sb lot))] (Ai (BI (sb s.lot) (sb lot))):=by
 refine AZ.walk w1 bz rfl λF=>?_
 unfold A0.D;refine AF AU kB AB AB AB AB AB AB ?_;exact AJ rfl AA.out
theorem yL (b:Bool)(l:List A0)(c:D)[pc:AA c](p:A0->Bool)(hl:l.length<=1000000)(hc:∀x∈l,AK C0 133 [x.D,c] (Ai (p x))):AK C0 181 [D5 b l,.clo (.func 133) [] [c]] (i64 (Ji p l)):=by
 refine AZ.walk w1 bR rfl λF=>?_
 have el:(((l.map A0.D).length:Nat):Int)=(l.length:Int):=by rw[Ag]
 refine AF AU el AB AB AB AB AB AB ?_;refine AC.loop (α:=Nat×Nat) (λp=>⟨[(0,D5 b l),(1,.clo (.func 133) [] [c]),(7,i64 l.length),(8,i64 (p.1:Int))],[],p.2⟩) (λp=>l.length-p.1) (λq=>q.1<=l.length/\∀(j:Nat) (x:A0),j<q.1->l[j]?=some x->p x=false) (0,_) ⟨BU _,λj x hj=>Af hj (FN j)⟩ AL ?_;rintro⟨i,n⟩ F ⟨hi,ha⟩;dsimp only at hi ha⊢;rcases BA i l.length with h2|h2
 rotate_left
 ·have e1:=Cb h2
  have:i=l.length:=by omega
  subst this;refine AF AU e1 AB AB AB AB AB AB ?_;exact AJ (by rw[Qx ha]) AA.out
 have e1:=CZ h2;have wi:=Cc (i:=i) (by omega);obtain⟨x,hx⟩:=CU h2;have hm:(l.map A0.D)[i]?=some (.agg [str (sb x.lot),str (sb x.part)]):=by rw[A8,hx];rfl
 have cn:=hc x (Ay hx);unfold A0.D at cn;cases hb:p x
 ·rw[hb]at cn
  refine AF AU (Ar e1 wi kN) hm cn AB AB AB AB ?_;refine⟨(i+1,_),⟨h2,λj z hj hjz=>?_⟩,by dsimp only;omega,AL⟩;rcases BA j i with h|h
  ·exact ha j z h hjz
  ·have:j=i:=by dsimp only at hj;omega
   subst this;rw[hx]at hjz;cases hjz;exact hb
 ·rw[hb]at cn
  refine AF AU (Ar e1 wi kN) hm cn AB AB AB AB ?_;exact AJ (by rw[Ri hx hb ha]) AA.out
theorem yF (b:Bool)(l:List A0)(c:D)[pc:AA c](p:A0->Bool)(hl:l.length<=1000000)(hc:∀x∈l,AK C0 133 [x.D,c] (Ai (p x))):AK C0 132 [D5 b l,.clo (.func 133) [] [c]] (Ai (l.any p)):=by
 refine AZ.walk w1 bx rfl λF=>?_
 have c1:=yL b l c p hl hc;have e1:=Rj p l;refine AF AU e1 c1 AB AB AB AB AB ?_;exact AJ rfl AA.out
structure Wo where
 o:List (Int×Int)
 n:Int
 g:Nat
def Km (lot:List UInt8)(g1 g2:Nat)(p:Wo):Hp:=EC 609 p.g 92 2 (p.o.map C8)++[⟨200,g2,3,1,[i64 p.n]⟩,⟨100,g1,90,1,[EI 609 p.g 2 (p.o.map C8)]⟩,⟨0,0,9,1,[str (sb lot)]⟩]
theorem aS (lot:List UInt8)(g1 g2:Nat)(n:Int)(g:Nat):Km lot g1 g2 ⟨[],n,g⟩=[⟨200,g2,3,1,[i64 n]⟩,⟨100,g1,90,1,[CS]⟩,⟨0,0,9,1,[str (sb lot)]⟩]:=rfl
theorem RL (lot:List UInt8)(g1 g2:Nat)(z:Int×Int)(o:List (Int×Int))(n:Int)(g:Nat):Km lot g1 g2 ⟨z::o,n,g⟩=[⟨609,g,92,2,C8 z::o.map C8⟩,⟨200,g2,3,1,[i64 n]⟩,⟨100,g1,90,1,[.osl 609 g 2 0 ((o.map C8).length+1)]⟩,⟨0,0,9,1,[str (sb lot)]⟩]:=rfl
def Pu (lot:List UInt8)(l:List AE)(k:Nat)(p:Wo):Prop:=p.o.length<=k/\p.o++CX lot (l.drop k) p.n=CX lot l 0/\0<=p.n/\p.n<=(k:Int)*1000000000
theorem TW (b:Bool)(l:List AE)(lot:List UInt8)(hl:l.length<=1000000)(hx:∀x∈l,0<=x.mass/\x.mass<=1000000000/\x.shs.length<=1000000):
  AK C0 86 [Am b l,str (sb lot)] (.sl false 2 ((CX lot l 0).map C8)):=by
 refine AZ.walk w1 g8 rfl λF=>?_
 have cV:=Uc b false (l.map AE.D);have hT:∀x∈l.map AE.D,∃a c d,x=.agg [a,c,d]:=λx hx=>by
  obtain⟨y,-,rfl⟩:=By.1 hx;exact⟨_,_,_,rfl⟩
 have hoA:∀k,k<l.length->∃y,y∈l/\l[k]?=some y/\(l.map AE.D)[if false then(l.map AE.D).length-1-k else k]?=some y.D:=λk hk=>⟨_,List.getElem_mem hk,Bo hk,by
  show(l.map AE.D)[k]?=_;rw[A8,Bo hk];rfl⟩
 unfold Am;obtain⟨T,hTT⟩:∃T,l.map AE.D=T:=⟨_,rfl⟩
 have pT:AA (.sl b 3 T):=by rw[<-hTT];exact AI
 have hTl:T.length=l.length:=by rw[<-hTT,Ag]
 rw[hTT]at cV hT hoA⊢;refine AF AU kB cV AB AB AB AB AB ?_;have h0:Pu lot l 0 ⟨[],0,0⟩:=⟨Al _,rfl,Int.le_refl _,Int.le_refl _⟩
 refine AC.rangeFunc (fi:=150) (first:=[]) (captured:=[.pptr (.sl b 3 T),.pptr (Ai false)]) (Ψ:=λj _ H' _=>(j=none/\∃a,Pu lot l T.length a/\H'=Km lot 2 3 a)\/(j=some (.exit 0)/\False)) rfl
  (λds H n Φ=>∃k a x,Pu lot l k a/\k<T.length/\T[if false then T.length-1-k else k]?=some x/\ds=[x]/\H=Km lot 2 3 a/\Φ=λj H' _=>(j=none/\∃a',Pu lot l (k+1) a'/\Cw H' (Km lot 2 3 a') H' (Km lot 2 3 a'))\/(j=some (.exit 0)/\False)) ?_
  (λE l' R' hE hY=>V8 hE b false T hT (by omega) (λ_ a=>Km lot 2 3 a) (Pu lot l) (.exit 0) (λ_=>False) ⟨[],0,0⟩ h0 _ λk a x n hP hk hx=>hY _ _ _ _ ⟨k,a,x,hP,hk,hx,rfl,rfl,rfl⟩) ?_
 ·rintro l' ds H n Φ ⟨k,⟨o,nn,g⟩,x,⟨p1,p2,p3,p4⟩,hk,hxT,rfl,rfl,rfl⟩
  dsimp only at p1 p2 p3 p4;obtain⟨y,hy1,hy2,hy3⟩:=hoA k (by omega);rw[hy3]at hxT;cases hxT;have hd:l.drop k=y::l.drop (k+1):=by
   have:=(BQ.1 hy2)
   rw[EN this.1,this.2]
  rw[hd]at p2;have hb:=hx y hy1;have cH:=yF false y.shs (.pptr (str (sb lot))) (λs=>BI (sb s.lot) (sb lot)) hb.2.2 λs _=>za lot s
  have hK:(y.shs.any λs=>BI (sb s.lot) (sb lot))=Ev lot y:=rfl;rw[hK]at cH;have p5:(o++(if Ev lot y then[(nn+1,nn+y.mass)]else[]))++CX lot (l.drop (k+1)) (nn+y.mass)=CX lot l 0:=by
   rw[<-p2,EE];rfl
  obtain⟨K,hKK⟩:∃K,Ev lot y=K:=⟨_,rfl⟩
  rw[hKK]at cH p5;have a1:IntKind.i64.wrap (nn+y.mass)=nn+y.mass:=wI;have a2:IntKind.i64.wrap (nn+1)=nn+1:=wI;have q1:0<=nn+y.mass/\nn+y.mass<=((k+1:Nat):Int)*1000000000:=by omega
  refine⟨rfl,λF=>?_⟩;unfold AE.D;unfold D5 at cH⊢;obtain⟨SD,hSD⟩:∃d,y.shs.map A0.D=d:=⟨_,rfl⟩
  have pS:AA (.sl false 2 SD):=by rw[<-hSD];exact AI
  rw[hSD]at cH⊢;rcases o with _|⟨z,o⟩
  ·rw[aS]
   dsimp only[HG];refine Ao 400 ?_;refine AD kB ?_;refine⟨trivial,trivial,λF'=>?_⟩;refine AF AU kB AB AB AB AB AB AB ?_;refine A7.own _ (Jk cH rfl (λi a d h1 h2=>by
    match i with
    | 0=>cases h1;cases h2;exact .refl _ _
    | 1=>cases h1;cases h2;exact .clo1 (.ptr rfl rfl rfl rfl)
    |n+2=>cases h1) AI (.prim _)) ?_
   rintro d H' n' ⟨rfl,rfl,rfl⟩;cases K
   ·refine AF AU (Ab a1 a2) AB AB AB AB AB AB ?_
    exact .inl ⟨rfl,⟨[],nn+y.mass,0⟩,⟨BU _,p5,q1⟩,.drop (Hb _)⟩
   ·refine AF AU (Ab a1 a2) AB AB AB AB AB AB ?_
    exact .inl ⟨rfl,⟨[(nn+1,nn+y.mass)],nn+y.mass,n+1+1+1+1+1+1+1+1+1+1+1+1+1+1+1⟩,⟨by simp,p5,q1⟩,.keep (.drop (Hb _))⟩
  ·have hol:o.length<=1000000:=by rw[Bq]at p1;omega
   rw[RL];dsimp only[HG];obtain⟨O,hO⟩:∃O,o.map C8=O:=⟨_,rfl⟩
   obtain⟨zD,hzD⟩:∃O,C8 z=O:=⟨_,rfl⟩
   have hOl:O.length=o.length:=by rw[<-hO,Ag]
   rw[hO,hzD];refine Ao 400 ?_;refine AD kB ?_;refine⟨trivial,trivial,λF'=>?_⟩;refine AF AU kB AB AB AB AB AB AB ?_;refine A7.own _ (Jk cH rfl (λi a d h1 h2=>by
    match i with
    | 0=>cases h1;cases h2;exact .refl _ _
    | 1=>cases h1;cases h2;exact .clo1 (.ptr rfl rfl rfl rfl)
    |n+2=>cases h1) AI (.prim _)) ?_
   rintro d H' n' ⟨rfl,rfl,rfl⟩;cases K
   ·refine AF AU (Ab a1 a2) AB AB AB AB AB AB ?_
    refine .inl ⟨rfl,⟨z::o,nn+y.mass,g⟩,⟨Nat.le_succ_of_le p1,by rw[<-p5,AG Bool.false_ne_true,Dm],q1⟩,?_⟩;rw[RL,hO,hzD];exact .drop (Hb _)
   ·refine AF AU (Ab a1 a2) AB AB AB AB AB AB ?_
    rw[show List.take (O.length+1) (zD::O)=zD::O from C6 (l:=zD::O)];refine .inl ⟨rfl,⟨z::o++[(nn+1,nn+y.mass)],nn+y.mass,n+1+1+1+1+1+1+1+1+1+1+1+1+1+1+1⟩,⟨by rw[Bp];exact Nat.succ_le_succ p1,p5,q1⟩,?_⟩;have hs:∀g' a,Km lot 2 3 ⟨z::o++[(nn+1,nn+y.mass)],a,g'⟩=[⟨609,g',92,2,zD::O++[.agg [i64 (nn+1),i64 (nn+y.mass)]]⟩,⟨200,3,3,1,[i64 a]⟩,⟨100,2,90,1,[.osl 609 g' 2 0 (O.length+1+1)]⟩,⟨0,0,9,1,[str (sb lot)]⟩]:=λg' a=>by
     rw[E2,RL,<-hO,<-hzD,DK];rw[Bp];rfl
    rw[hs];exact .keep (.drop (Hb _))
 ·rintro j d H' n' F' hE
  rcases hE with⟨rfl,⟨o,nn,g⟩,⟨p1,p2,-⟩,rfl⟩|⟨-,h⟩
  rotate_left
  ·exact h.elim
  dsimp only at p2;rw[List.drop_eq_nil_of_le (by omega)]at p2;have ho2:o=CX lot l 0:=by rw[<-p2];exact(Dm o).symm
  rw[<-ho2];rcases o with _|⟨z,o⟩
  ·rw[aS]
   change AC _ _ _ _ _ _ _;refine sR 800 ?_;refine Ad ?_;exact⟨_,.nil 2,AA.out,rfl⟩
  ·have hR:=IA (H:=Km lot 2 3 ⟨z::o,nn,g⟩) (Hf:=[]) (k:=609) (g:=g) (T:=92) (sz:=2) (l:=(z::o).map C8) rfl
   have hle:((z::o).map C8).length=(o.map C8).length+1:=rfl;rw[hle]at hR;rw[RL]at hR⊢;change AC _ _ _ _ _ _ _;refine sR 800 ?_;refine Ad ?_;exact⟨_,hR,AA.out,rfl⟩
abbrev MD:Dr:=[(2,[0,1,2,3,4,5,6,7,8,9,10,11,12,13,14,15,16,17,18,19,20,21,22,23,24,25,26,27,28,29,30,31,32],[33,34,35,36]),(8,[0,1,2,3,4,5,6,7],[8,9,10,11,12]),(12,[0,1,2],[3,4])]
open Go.Proofs Go.RowKit Go.Sort
set_option maxRecDepth 20000
set_option maxHeartbeats 4000000
def Fw:ByteArray:=⟨#[109,97,115,115]⟩
def JV:ByteArray:=⟨#[102,117,110,110,101,108]⟩
def Vp (x:BR):Bool:=(BI (sb x.flow) Fw&&(x.core==0))||(BI (sb x.flow) JV&&EM x.core 2 999999999)
def N0 (x:BR):Int:=if !BI (sb x.flow) Fw && !BI (sb x.flow) JV then 20 else 0
def Mi (x:BR):Int:=if !Vp x || !EM x.room 1 999999999 || !EM x.side 0 999999999 then 3 else 0
def H3 (x:BR):Int:=D3 [N0 x,Mi x,if(x.cells.length:Int)==0 then 2 else 0,if decide ((x.cells.length:Int)>8)then 5 else 0]
def FJ (x:BR)(c:List AE):Int:=D3 [(CG c:Int),((if Cm c then 0 else 16:Nat):Int),if decide (Dt c>x.room)then 14 else 0]
def FH (x:BR):List (List AE)->Int
 | []=>0
 |c::r=>if FJ x c≠0 then FJ x c else FH x r
def Cn (x:BR):Int:=if H3 x≠0 then H3 x else if FH x x.cells≠0 then FH x x.cells else if IR x.side (FA x)then 17 else 0
theorem af (x:BR)(hl:x.cells.length<=1000000)(hc:∀c∈x.cells,c.length<=1000000/\∀y∈c,y.few):AK C0 32 [x.D] (i64 (Cn x)):=by
 refine AZ.walk w1 fU rfl λF=>?_
 have cLv:=om x hl λc h=>by have:=(hc c h).1;omega
 have cSt:=sO x false (FA x) (by unfold FA;rw[Ag];exact hl);have cC1:=O5 x.core 2 999999999;have cC2:=O5 x.room 1 999999999;have cC3:=O5 x.side 0 999999999;have cF:=LA [N0 x,Mi x,if(x.cells.length:Int)==0 then 2 else 0,if decide ((x.cells.length:Int)>8)then 5 else 0] (by simp);have hF:D3 [N0 x,Mi x,if(x.cells.length:Int)==0 then 2 else 0,if decide ((x.cells.length:Int)>8)then 5 else 0]=H3 x:=rfl;rw[hF]at cF;have cW3:=Gq ((x.cells.length:Int)==0) 2;have cW4:=Gq (decide ((x.cells.length:Int)>8)) 5;obtain⟨cs,hcs⟩:∃c,x.cells=c:=⟨_,rfl⟩
 have el:(((cs.map (Am false)).length:Nat):Int)=(cs.length:Int):=by rw[Ag]
 obtain⟨H,hH⟩:∃h,H3 x=h:=⟨_,rfl⟩
 have hB:Cn x=if H≠0 then H else if FH x x.cells≠0 then FH x x.cells else if IR x.side (FA x)then 17 else 0:=by unfold Cn;rw[hH]
 obtain⟨K1,hK1⟩:∃h,N0 x=h:=⟨_,rfl⟩
 obtain⟨K2,hK2⟩:∃h,Mi x=h:=⟨_,rfl⟩
 obtain⟨CB,hCB⟩:∃h,Vp x=h:=⟨_,rfl⟩
 rw[hK1,hK2,hH]at cF;rw[hB];rw[hcs]at cF cW3 cW4 hl hc⊢;unfold BR.D at cLv cSt⊢;rw[hcs]at cLv cSt⊢;refine sR 0 ?_;refine D6 ⟨[(1,.optr 0 0 5 0 0),(3,Ai CB)],[⟨0,0,24,5,[.agg [str (sb x.flow),i64 x.core,i64 x.room,i64 x.side,GY false cs]]⟩],100⟩ ?_ ?_
 ·obtain⟨p1,h1⟩:∃q,BI (sb x.flow) ⟨#[109,97,115,115]⟩=q:=⟨_,rfl⟩
  obtain⟨p2,h2⟩:∃q,BI (sb x.flow) ⟨#[102,117,110,110,101,108]⟩=q:=⟨_,rfl⟩
  obtain⟨c0,h0⟩:∃q,(x.core==0)=q:=⟨_,rfl⟩
  have hb:CB=((p1&&c0)||(p2&&EM x.core 2 999999999)):=by rw[<-hCB,<-h1,<-h2,<-h0];rfl
  rw[hb];cases p1<;>cases p2<;>cases c0
  all_goals
   refine AF MD (CI h1 h2 h0 kT kF) cC1 AB AB AB AB AB ?_;exact⟨trivial,AL⟩
 refine D6 ⟨[(1,.optr 0 0 5 0 0),(4,i64 H)],[⟨0,0,24,5,[.agg [str (sb x.flow),i64 x.core,i64 x.room,i64 x.side,GY false cs]]⟩],1000⟩ ?_ ?_
 ·obtain⟨p1,h1⟩:∃q,BI (sb x.flow) ⟨#[109,97,115,115]⟩=q:=⟨_,rfl⟩
  obtain⟨p2,h2⟩:∃q,BI (sb x.flow) ⟨#[102,117,110,110,101,108]⟩=q:=⟨_,rfl⟩
  obtain⟨wr,hr⟩:∃q,EM x.room 1 999999999=q:=⟨_,rfl⟩
  obtain⟨ws,hw⟩:∃q,EM x.side 0 999999999=q:=⟨_,rfl⟩
  have e1:N0 x=if !p1 && !p2 then 20 else 0:=by rw[<-h1,<-h2];rfl
  have e2:Mi x=if !CB || !wr || !ws then 3 else 0:=by rw[<-hCB,<-hr,<-hw];rfl
  have cA:=Gq (!p1 && !p2) 20;have cB:=Gq (!CB || !wr || !ws) 3;rw[<-e1,hK1]at cA;rw[<-e2,hK2]at cB;rw[hr]at cC2;rw[hw]at cC3;clear e1 e2 hcs hK1 hK2 hCB hF cC1 cLv cSt hr hw;cases p1<;>cases p2<;>cases CB<;>cases wr
  all_goals
   refine AF MD (CI h1 h2 el kT kF) cA cC2 cC3 cB cW3 cW4 ?_;refine A7.same _ cF AI ?_;refine BO ?_;exact⟨trivial,AL⟩
 by_cases hH0:H=0
 rotate_left
 ·have e1:(H != 0)=true:=Hg hH0
  rw[AH hH0];refine AF MD e1 AB AB AB AB AB AB ?_;exact AJ rfl AA.out
 have e1:(H != 0)=false:=by rw[hH0];rfl
 rw[AG (λh=>h hH0)];clear cC1 cC2 cC3 cF cW3 cW4 hK1 hK2 hCB hF hB;refine AF MD (Ab e1 el) AB AB AB AB AB AB ?_;refine AC.loop (α:=Nat×Nat) (λp=>⟨[(1,.optr 0 0 5 0 0),(66,GY false cs),(67,i64 (cs.length:Int)),(68,i64 (p.1:Int))],[⟨0,0,24,5,[.agg [str (sb x.flow),i64 x.core,i64 x.room,i64 x.side,GY false cs]]⟩],p.2⟩) (λp=>cs.length-p.1) (λq=>q.1<=cs.length/\FH x (cs.drop q.1)=FH x cs) (0,_) ⟨BU _,rfl⟩ AL ?_;rintro⟨i,n⟩ F ⟨hi,hJ⟩;dsimp only at hi hJ⊢;rcases BA i cs.length with h2|h2
 rotate_left
 ·have k1:=Cb h2
  have:i=cs.length:=by omega
  subst this;rw[Jr]at hJ;rw[AG (λh=>h (by rw[<-hJ];rfl))];have pLv:AA (.sl false 1 (CW (FA x))):=AI;refine AF MD k1 cLv cSt AB AB AB AB ?_;exact AJ rfl AA.out
 have k1:=CZ h2;have wi:=Cc (i:=i) (by omega);obtain⟨c,hc'⟩:=CU h2;have hm:(cs.map (Am false))[i]?=some (.sl false 3 (c.map AE.D)):=by rw[A8,hc'];rfl
 obtain⟨hc1,hc2⟩:=hc c (Ay hc');have cP:=Nv false c (by omega) hc2;have cG:=Xw false c hc1;have cT:=fJ false c (by omega);have cW:=Gq (decide (Dt c>x.room)) 14;have cE:=LA [(CG c:Int),((if Cm c then 0 else 16:Nat):Int),if decide (Dt c>x.room)then 14 else 0] (by simp);have hE:D3 [(CG c:Int),((if Cm c then 0 else 16:Nat):Int),if decide (Dt c>x.room)then 14 else 0]=FJ x c:=rfl;rw[hE]at cE;have hd:cs.drop i=c::cs.drop (i+1):=by
  have:=BQ.1 hc'
  rw[EN this.1,this.2]
 rw[hd]at hJ;have hJ2:FH x cs=if FJ x c≠0 then FJ x c else FH x (cs.drop (i+1)):=hJ.symm
 obtain⟨E,hEE⟩:∃E,FJ x c=E:=⟨_,rfl⟩
 rw[hEE]at cE hJ2
 by_cases hE0:E=0
 ·have k2:(E != 0)=false:=by rw[hE0];rfl
  rw[AG (λh=>h hE0)]at hJ2;refine AF MD (BS k1 k2 wi kN) hm cP cG cT cW cE ?_;exact⟨(i+1,_),⟨h2,hJ2.symm⟩,by dsimp only;omega,AL⟩
 ·have k2:(E != 0)=true:=Hg hE0
  rw[AH hE0]at hJ2;rw[hJ2,AH hE0];refine AF MD (BS k1 k2 wi kN) hm cP cG cT cW cE ?_;exact AJ rfl AA.out
abbrev Rh:Dr:=[(4,[0,1,2,3,4,5,6,7,8,9],[10])]
open Go.Proofs Go.RowKit Go.Sort
set_option maxRecDepth 20000
set_option maxHeartbeats 4000000
theorem dJ (x:BR)(i:Nat)(c:List AE)(hc:x.cells[i]?=some c)(hs:Ja c)(hl:x.cells.length<=1000000):AK C0 46 [x.D,i64 (i:Int)] (i64 (As c)):=by
 refine AZ.walk w1 y6 rfl λF=>?_
 have cM:=V9 false c hs;have hi:=(BQ.1 hc).1;obtain⟨cs,hcs⟩:∃c,x.cells=c:=⟨_,rfl⟩
 unfold BR.D;rw[hcs]at hc hl hi⊢;have hm:(cs.map (Am false))[i]?=some (.sl false 3 (c.map AE.D)):=by rw[A8,hc];rfl
 have hml:(cs.map (Am false)).length=cs.length:=Ag ..;obtain⟨K,hK⟩:∃K,cs.map (Am false)=K:=⟨_,rfl⟩
 have pK:AA (.sl false 1 K):=by rw[<-hK];exact AI
 show AC _ _ _ _ _ ⟨Dg 0 [.agg [str (sb x.flow),i64 x.core,i64 x.room,i64 x.side,.sl false 1 (cs.map (Am false))],i64 (i:Int)],[],0⟩ _;rw[hK]at hm hml⊢;refine AF AU kN hm cM AB AB AB AB ?_;exact AJ rfl AA.out
theorem xE (u v:Int):AK C0 92 [i64 u,i64 v] (i64 (max (IntKind.i64.wrap (u-v)) (IntKind.i64.wrap (v-u)))):=by
 refine AZ.walk w1 xr rfl λF=>?_
 refine AF AU kB AB AB AB AB AB AB ?_;exact AJ rfl AA.out
theorem zK (x:BR)(hl:x.cells.length<=1000000)(hc:∀c∈x.cells,Ja c/\0<=As c/\As c<=999999999)(hside:0<=x.side/\x.side<=999999999):AK C0 47 [x.D] (Ai (!IR x.side (FA x))):=by
 refine AZ.walk w1 y7 rfl λF=>?_
 have hlvl:=λ(i:Nat) (c:List AE) (h:x.cells[i]?=some c)=>dJ x i c h (hc c (Ay h)).1 hl
 have hlv:∀(i:Nat) (c:List AE),x.cells[i]?=some c->(FA x).getD i 0=As c:=λi c h=>by
  unfold FA;rw[Do,A8,h];exact Oi (hc c (Ay h)).1
 have hlen:(FA x).length=x.cells.length:=by unfold FA;rw[Ag]
 obtain⟨cs,hcs⟩:∃c,x.cells=c:=⟨_,rfl⟩
 have el:(((cs.map (Am false)).length:Nat):Int)=(cs.length:Int):=by rw[Ag]
 unfold BR.D at hlvl⊢;rw[hcs]at hlvl hlv hlen hl hc⊢;refine AF Rh kB AB AB AB AB AB AB ?_;refine AC.loop (α:=Nat×Nat) (λp=>⟨[(1,.optr 0 0 5 0 0),(3,i64 ((p.1+1:Nat):Int))],[⟨0,0,24,5,[.agg [str (sb x.flow),i64 x.core,i64 x.room,i64 x.side,GY false cs]]⟩],p.2⟩) (λp=>cs.length-p.1) (λp=>p.1<=cs.length/\∀j,j<p.1->EM (IntKind.i64.wrap ((FA x).getD (j+1) 0-(FA x).getD j 0)) (IntKind.i64.wrap (0-x.side)) x.side=true) (0,_) ⟨BU _,λj h=>Af h (FN j)⟩ AL ?_;rintro⟨i,m⟩ F ⟨hi,ha⟩;dsimp only at hi ha⊢;rcases BA (i+1) cs.length with h2|h2
 rotate_left
 ·have e1:=Cb h2
  rw[dT (side:=x.side) (l:=FA x) λj hj=>ha j (by omega)];refine AF Rh (Ab el e1) AB AB AB AB AB AB ?_;exact AJ rfl AA.out
 have e1:=CZ h2;have wi:=Cc (i:=i+1) (by omega);have w2:IntKind.i64.wrap (((i+1:Nat):Int)-1)=((i:Nat):Int):=by rw[wI];omega
 obtain⟨c,hc1⟩:=CU (show i<cs.length by omega);obtain⟨d,hd1⟩:=CU h2;have c1:=hlvl i c hc1;have c2:=hlvl (i+1) d hd1;have v1:=hlv i c hc1;have v2:=hlv (i+1) d hd1;obtain⟨-,a1,a2⟩:=hc c (Ay hc1);obtain⟨-,b1,b2⟩:=hc d (Ay hd1);have c3:=xE (As c) (As d);have hbad:=dS (side:=x.side) (l:=FA x) (i:=i) (by omega);rw[v1,v2]at hbad;have q1:IntKind.i64.wrap (As c-As d)=As c-As d:=wI;have q2:IntKind.i64.wrap (As d-As c)=As d-As c:=wI;have q3:IntKind.i64.wrap (0-x.side)=0-x.side:=wI;rw[q1,q2]at c3
 by_cases hg:max (As c-As d) (As d-As c)>x.side
 ·have e2:decide (max (As c-As d) (As d-As c)>x.side)=true:=Au hg
  rw[hbad (by rw[q2,q3];unfold EM;rw[Bool.and_eq_false_iff,IT,IT];omega)];refine AF Rh (Ek el e1 e2 w2 wi kN) c1 c2 c3 AB AB AB ?_;exact AJ rfl AA.out
 ·have e2:decide (max (As c-As d) (As d-As c)>x.side)=false:=Av hg
  refine AF Rh (Ek el e1 e2 w2 wi kN) c1 c2 c3 AB AB AB ?_;refine⟨(i+1,_),⟨by omega,λj hj=>?_⟩,by dsimp only;omega,AL⟩;rcases BA j i with h|h
  ·exact ha j h
  ·have:j=i:=by dsimp only at hj;omega
   subst this;rw[v1,v2,q2,q3];unfold EM;rw[Ba,decide_eq_true_iff,decide_eq_true_iff];omega
theorem ZA {l:List UInt8}(h:BI (sb l) Fw=true):BI (sb l) JV=false:=by
 have h1:BI (sb l) (sb [109,97,115,115])=true:=h;rw[M8]at h1;rw[DJ h1];show BI (sb [109,97,115,115]) (sb [102,117,110,110,101,108])=false;rw[M8];decide
def LU (x:BR):Bool:=(BI (sb x.flow) Fw&&(x.core != 0))||(BI (sb x.flow) JV&&(decide (x.core<2)||decide (x.core>999999999)))||decide (x.room<1)||decide (x.room>999999999)||decide (x.side<0)||decide (x.side>999999999)
theorem vu {x:BR}(h:(!BI (sb x.flow) Fw && !BI (sb x.flow) JV)=false):Mi x=if LU x then 3 else 0:=by
 have hx:=@ZA x.flow;unfold Mi LU Vp EM;obtain⟨p1,h1⟩:∃q,BI (sb x.flow) Fw=q:=⟨_,rfl⟩
 obtain⟨p2,h2⟩:∃q,BI (sb x.flow) JV=q:=⟨_,rfl⟩
 rw[h1,h2]at h hx⊢;have e:(!(p1&&x.core==0||p2&&(decide (x.core>=2)&&decide (x.core<=999999999))) || !(decide (x.room>=1)&&decide (x.room<=999999999)) || !(decide (x.side>=0)&&decide (x.side<=999999999)))
   = (p1&&x.core != 0||p2&&(decide (x.core<2)||decide (x.core>999999999))||decide (x.room<1)||decide (x.room>999999999)||decide (x.side<0)||decide (x.side>999999999)):=by
  cases p1<;>cases p2
  ·cases h
  ·rw[F7];simp;omega
  ·rw[F7];simp;omega
  ·cases hx rfl
 rw[e]
theorem VR (x:BR):H3 x=if(!BI (sb x.flow) Fw && !BI (sb x.flow) JV)=true then 20 else if LU x=true then 3 else if x.cells.length=0 then 2 else if 8<x.cells.length then 5 else 0:=by
 unfold H3 N0;cases h:(!BI (sb x.flow) Fw && !BI (sb x.flow) JV)
 ·rw[vu h,AG Bool.false_ne_true,AG Bool.false_ne_true]
  cases LU x
  ·rw[AG Bool.false_ne_true,AG Bool.false_ne_true]
   by_cases h0:x.cells.length=0
   ·rw[AH h0,h0];rfl
   ·have:((x.cells.length:Int)==0)=false:=Br.2 (by omega)
    rw[AG h0,this]
    by_cases h8:8<x.cells.length
    ·rw[AH h8,show decide ((x.cells.length:Int)>8)=true from BV];rfl
    ·rw[AG h8,show decide ((x.cells.length:Int)>8)=false from Bc];rfl
  ·rfl
 ·rfl
theorem Ti {x:BR}:∀ {l:List (List AE)},FH x l=0->∀c∈l,FJ x c=0
 | [],_,c,h=>by cases h
 |d::r,h,c,hc=>by
  have h1:(if FJ x d≠0 then FJ x d else FH x r)=0:=h
  by_cases h0:FJ x d=0
  ·rw[AG (λq=>q h0)]at h1
   rcases Az.1 hc with rfl|h2
   ·exact h0
   ·exact Ti h1 c h2
  ·rw[AH h0]at h1;exact Af h1 h0
theorem Ra:∀ {l:List AE},(∀x∈l,0<=x.mass)->0<=As l
 | [],_=>Int.le_refl _
 |x::l,h=>by
  have h1:=h x (CO ..);have h2:=Ra λy hy=>h y (CT _ hy)
  have:As (x::l)=x.mass+As l:=by unfold As;rfl
  omega
theorem NP {x:BR}{c:List AE}(h:FJ x c=0):CG c=0/\Cm c=true/\Ja c/\0<=As c/\As c<=999999999/\As c<=x.room:=by
 have h1:(if(CG c:Int)≠0 then(CG c:Int)else if((if Cm c then 0 else 16:Nat):Int)≠0 then((if Cm c then 0 else 16:Nat):Int)else if(if decide (Dt c>x.room)then(14:Int)else 0)≠0 then(if decide (Dt c>x.room)then(14:Int)else 0)else 0)=0:=h
 by_cases hp:CG c=0
 rotate_left
 ·rw[DQ]at h1;omega
 rw[hp,AG (λq=>q rfl)]at h1;obtain⟨g1,g2,g3⟩:=IB hp;have g4:=(Is hp).2.2;have hT:=Oi g3;have g5:0<=As c:=Ra λy hy=>by have:=(g2 y hy).1;omega
 cases hg:Cm c
 ·rw[hg]at h1;cases h1
 rw[hg,AG (by decide)]at h1;refine⟨hp,rfl,g3,g5,g4,?_⟩;rw[hT]at h1
 by_cases hr:As c>x.room
 ·rw[Au hr]at h1;cases h1
 ·omega
theorem ox {x:BR}{c:List AE}(h:CG c≠0):FJ x c=(CG c:Int):=by
 show(if(CG c:Int)≠0 then _ else _)=_;rw[DQ]
theorem rl {x:BR}{c:List AE}(h:CG c=0)(hg:Cm c=false):FJ x c=16:=by
 show(if(CG c:Int)≠0 then _ else if((if Cm c then 0 else 16:Nat):Int)≠0 then((if Cm c then 0 else 16:Nat):Int)else _)=_;rw[h,hg];rfl
theorem nk {x:BR}{c:List AE}(h:CG c=0)(hg:Cm c=true)(hr:As c>x.room):FJ x c=14:=by
 have hT:=Oi (IB h).2.2;show(if(CG c:Int)≠0 then _ else if((if Cm c then 0 else 16:Nat):Int)≠0 then((if Cm c then 0 else 16:Nat):Int)else if(if decide (Dt c>x.room)then(14:Int)else 0)≠0 then(if decide (Dt c>x.room)then(14:Int)else 0)else 0)=_;rw[h,hg,hT,Au hr];rfl
theorem nl {x:BR}{c:List AE}(h:CG c=0)(hg:Cm c=true)(hr:¬As c>x.room):FJ x c=0:=by
 have hT:=Oi (IB h).2.2;show(if(CG c:Int)≠0 then _ else if((if Cm c then 0 else 16:Nat):Int)≠0 then((if Cm c then 0 else 16:Nat):Int)else if(if decide (Dt c>x.room)then(14:Int)else 0)≠0 then(if decide (Dt c>x.room)then(14:Int)else 0)else 0)=_;rw[h,hg,hT,Av hr];rfl
abbrev EU:Dr:=[(17,[0,1,2,3,4],[5])]
open Go.Proofs Go.RowKit Go.Sort
set_option maxRecDepth 20000
set_option maxHeartbeats 4000000
theorem RV (x:BR)(hl:x.cells.length<=1000000)(hc:∀c∈x.cells,c.length<=1000000/\∀y∈c,y.modr):AK C0 10 [x.D] (i64 (Cn x)):=by
 refine AZ.walk w1 xZ rfl λF=>?_
 have hB:Cn x=if H3 x≠0 then H3 x else if FH x x.cells≠0 then FH x x.cells else if IR x.side (FA x)then 17 else 0:=rfl
 have hH:=VR x;have hlvl:=λ(i:Nat) (c:List AE) (h:x.cells[i]?=some c) (hs:Ja c)=>dJ x i c h hs hl
 have hsafe:=λ(h1:∀c∈x.cells,FJ x c=0) (h2:0<=x.side/\x.side<=999999999)=>zK x hl (λc hq=>by
  obtain⟨-,-,g1,g2,g3,-⟩:=NP (h1 c hq);exact⟨g1,g2,g3⟩) h2
 obtain⟨p1,h1⟩:∃q,BI (sb x.flow) ⟨#[109,97,115,115]⟩=q:=⟨_,rfl⟩
 obtain⟨p2,h2⟩:∃q,BI (sb x.flow) ⟨#[102,117,110,110,101,108]⟩=q:=⟨_,rfl⟩
 have hex:p1=true->p2=false:=λq=>by rw[<-h2];exact ZA (h1.trans q)
 have hr:LU x=((p1&&(x.core != 0))||(p2&&(decide (x.core<2)||decide (x.core>999999999)))||decide (x.room<1)||decide (x.room>999999999)||decide (x.side<0)||decide (x.side>999999999)):=by rw[<-h1,<-h2];rfl
 rw[show BI (sb x.flow) Fw=p1 from h1,show BI (sb x.flow) JV=p2 from h2]at hH;obtain⟨R,hR⟩:∃r,LU x=r:=⟨_,rfl⟩
 rw[hR]at hH hr;have hside:R=false->0<=x.side/\x.side<=999999999:=λq=>by
  rw[q]at hr
  have:=hr.symm
  simp only[I8,IT]at this;omega
 obtain⟨cs,hcs⟩:∃c,x.cells=c:=⟨_,rfl⟩
 have el:(((cs.map (Am false)).length:Nat):Int)=(cs.length:Int):=by rw[Ag]
 unfold BR.D at hlvl hsafe⊢;rw[hcs]at hlvl hsafe hB hH hc hl⊢;refine sR 0 ?_;cases hk:(!p1 && !p2)
 rotate_left
 ·rw[AH hk]at hH
  rw[hH,AH (by decide)]at hB;rw[hB];have hp:p1=false/\p2=false:=by cases p1<;>cases p2<;>first|exact⟨rfl,rfl⟩|cases hk
  obtain⟨rfl,rfl⟩:=hp;refine AF EU (BS h1 h2 kT kF) AB AB AB AB AB AB ?_;exact AJ rfl AA.out
 rw[AG (by rw[hk];exact Bool.false_ne_true)]at hH;have hp:(p1=true/\p2=false)\/(p1=false/\p2=true):=by
  cases p1
  ·cases p2
   ·cases hk
   ·exact .inr ⟨rfl,rfl⟩
  ·exact .inl ⟨rfl,hex rfl⟩
 clear hex hk;refine D6 ⟨[(1,.optr 0 0 5 0 0)],[⟨0,0,24,5,[.agg [str (sb x.flow),i64 x.core,i64 x.room,i64 x.side,GY false cs]]⟩],100⟩ ?_ ?_
 ·rcases hp with⟨rfl,rfl⟩|⟨rfl,rfl⟩
  all_goals
   refine AF EU (BS h1 h2 kT kF) AB AB AB AB AB AB ?_;exact⟨trivial,AL⟩
 obtain⟨c0,e0⟩:∃q,(x.core != 0)=q:=⟨_,rfl⟩
 obtain⟨c1,e1⟩:∃q,decide (x.core<2)=q:=⟨_,rfl⟩
 obtain⟨c2,e2⟩:∃q,decide (x.core>999999999)=q:=⟨_,rfl⟩
 obtain⟨u1,r1⟩:∃q,decide (x.room<1)=q:=⟨_,rfl⟩
 obtain⟨u2,r2⟩:∃q,decide (x.room>999999999)=q:=⟨_,rfl⟩
 obtain⟨v1,s1⟩:∃q,decide (x.side<0)=q:=⟨_,rfl⟩
 obtain⟨v2,s2⟩:∃q,decide (x.side>999999999)=q:=⟨_,rfl⟩
 rw[e0,e1,e2,r1,r2,s1,s2]at hr;cases R
 rotate_left
 ·rw[AH rfl]at hH
  rw[hH,AH (by decide)]at hB;rw[hB];clear hlvl hsafe hB hH el;rcases hp with⟨rfl,rfl⟩|⟨rfl,rfl⟩
  ·cases c0
   rotate_left
   ·refine AF EU (Ci e0 e1 e2 r1 r2 s1 (CI s2 h1 h2 kT kF)) AB AB AB AB AB AB ?_
    exact AJ rfl AA.out
   cases u1
   rotate_left
   ·refine AF EU (Ci e0 e1 e2 r1 r2 s1 (CI s2 h1 h2 kT kF)) AB AB AB AB AB AB ?_
    exact AJ rfl AA.out
   cases u2
   rotate_left
   ·refine AF EU (Ci e0 e1 e2 r1 r2 s1 (CI s2 h1 h2 kT kF)) AB AB AB AB AB AB ?_
    exact AJ rfl AA.out
   cases v1
   rotate_left
   ·refine AF EU (Ci e0 e1 e2 r1 r2 s1 (CI s2 h1 h2 kT kF)) AB AB AB AB AB AB ?_
    exact AJ rfl AA.out
   cases v2
   rotate_left
   ·refine AF EU (Ci e0 e1 e2 r1 r2 s1 (CI s2 h1 h2 kT kF)) AB AB AB AB AB AB ?_
    exact AJ rfl AA.out
   cases hr
  ·cases c1
   rotate_left
   ·refine AF EU (Ci e0 e1 e2 r1 r2 s1 (CI s2 h1 h2 kT kF)) AB AB AB AB AB AB ?_
    exact AJ rfl AA.out
   cases c2
   rotate_left
   ·refine AF EU (Ci e0 e1 e2 r1 r2 s1 (CI s2 h1 h2 kT kF)) AB AB AB AB AB AB ?_
    exact AJ rfl AA.out
   cases u1
   rotate_left
   ·refine AF EU (Ci e0 e1 e2 r1 r2 s1 (CI s2 h1 h2 kT kF)) AB AB AB AB AB AB ?_
    exact AJ rfl AA.out
   cases u2
   rotate_left
   ·refine AF EU (Ci e0 e1 e2 r1 r2 s1 (CI s2 h1 h2 kT kF)) AB AB AB AB AB AB ?_
    exact AJ rfl AA.out
   cases v1
   rotate_left
   ·refine AF EU (Ci e0 e1 e2 r1 r2 s1 (CI s2 h1 h2 kT kF)) AB AB AB AB AB AB ?_
    exact AJ rfl AA.out
   cases v2
   rotate_left
   ·refine AF EU (Ci e0 e1 e2 r1 r2 s1 (CI s2 h1 h2 kT kF)) AB AB AB AB AB AB ?_
    exact AJ rfl AA.out
   cases hr
 rw[AG Bool.false_ne_true]at hH;have hsd:=hside rfl;refine D6 ⟨[(1,.optr 0 0 5 0 0)],[⟨0,0,24,5,[.agg [str (sb x.flow),i64 x.core,i64 x.room,i64 x.side,GY false cs]]⟩],1000⟩ ?_ ?_
 ·clear hlvl hsafe hB hH
  cases v2
  rotate_left
  ·simp at hr
  cases v1
  rotate_left
  ·simp at hr
  cases u2
  rotate_left
  ·simp at hr
  cases u1
  rotate_left
  ·simp at hr
  rcases hp with⟨rfl,rfl⟩|⟨rfl,rfl⟩
  ·cases c0
   rotate_left
   ·cases hr
   refine AF EU (Ci e0 e1 e2 r1 r2 s1 (CI s2 h1 h2 kT kF)) AB AB AB AB AB AB ?_;exact⟨trivial,AL⟩
  ·cases c1
   rotate_left
   ·cases hr
   cases c2
   rotate_left
   ·cases hr
   refine AF EU (Ci e0 e1 e2 r1 r2 s1 (CI s2 h1 h2 kT kF)) AB AB AB AB AB AB ?_;exact⟨trivial,AL⟩
 clear hr e0 e1 e2 r1 r2 s1 s2 hp h1 h2 hR
 by_cases h0:cs.length=0
 ·rw[AH h0]at hH
  rw[hH,AH (by decide)]at hB;rw[hB];have k0:((cs.length:Int)==0)=true:=by rw[h0];rfl
  refine AF EU (Ab el k0) AB AB AB AB AB AB ?_;exact AJ rfl AA.out
 rw[AG h0]at hH;have k0:((cs.length:Int)==0)=false:=Br.2 (by omega)
 by_cases h8:8<cs.length
 ·rw[AH h8]at hH
  rw[hH,AH (by decide)]at hB;rw[hB];have k8:decide ((cs.length:Int)>8)=true:=BV;refine AF EU (Ar el k0 k8) AB AB AB AB AB AB ?_;exact AJ rfl AA.out
 rw[AG h8]at hH;rw[hH,AG (λh=>h rfl)]at hB;rw[hB];have k8:decide ((cs.length:Int)>8)=false:=Bc;clear hB hH hside;refine AF EU (Ar el k0 k8) AB AB AB AB AB AB ?_;refine AC.loop (α:=Nat×Nat) (λp=>⟨[(1,.optr 0 0 5 0 0),(3,i64 (p.1:Int))],[⟨0,0,24,5,[.agg [str (sb x.flow),i64 x.core,i64 x.room,i64 x.side,GY false cs]]⟩],p.2⟩) (λp=>cs.length-p.1) (λq=>q.1<=cs.length/\FH x (cs.drop q.1)=FH x cs) (0,_) ⟨BU _,rfl⟩ AL ?_;rintro⟨i,n⟩ F ⟨hi,hJ⟩;dsimp only at hi hJ⊢;rcases BA i cs.length with h2|h2
 rotate_left
 ·have k1:=Cb h2
  have:i=cs.length:=by omega
  subst this;rw[Jr]at hJ;have hz:FH x cs=0:=hJ.symm;have cS:=hsafe (Ti hz) hsd;rw[AG (λh=>h hz)];cases hq:IR x.side (FA x)
  ·rw[hq]at cS
   rw[AG Bool.false_ne_true];refine AF EU (BS k1 el kT kF) cS AB AB AB AB AB ?_;exact AJ rfl AA.out
  ·rw[hq]at cS
   rw[AH rfl];refine AF EU (BS k1 el kT kF) cS AB AB AB AB AB ?_;exact AJ rfl AA.out
 have k1:=CZ h2;have wi:=Cc (i:=i) (by omega);obtain⟨c,hc'⟩:=CU h2;have hm:(cs.map (Am false))[i]?=some (.sl false 3 (c.map AE.D)):=by rw[A8,hc'];rfl
 obtain⟨hc1,hc2⟩:=hc c (Ay hc');have cP:=iR false c hc1 hc2;have cG:=rF false c hc1;have hd:cs.drop i=c::cs.drop (i+1):=by
  have:=BQ.1 hc'
  rw[EN this.1,this.2]
 rw[hd]at hJ;have hJ2:FH x cs=if FJ x c≠0 then FJ x c else FH x (cs.drop (i+1)):=hJ.symm
 by_cases hp:CG c=0
 rotate_left
 ·rw[ox hp,DQ]at hJ2
  have k2:(((CG c:Nat):Int) != 0)=true:=Hg (by omega);rw[AH (by rw[hJ2];omega),hJ2];refine AF EU (BS k1 el k2 kN) hm cP AB AB AB AB ?_;exact AJ rfl AA.out
 rw[hp]at cP;have k2:(((0:Nat):Int) != 0)=false:=rfl;have hsm:=(IB hp).2.2;have cL:=hlvl i c hc' hsm;cases hg:Cm c
 ·rw[hg]at cG
  rw[rl hp hg,AH (by decide)]at hJ2;rw[AH (by rw[hJ2];decide),hJ2];refine AF EU (Ek k1 el k2 kT kF kN) hm cP cG AB AB AB ?_;exact AJ rfl AA.out
 rw[hg]at cG
 by_cases hrm:As c>x.room
 ·have k3:decide (As c>x.room)=true:=Au hrm
  rw[nk hp hg hrm,AH (by decide)]at hJ2;rw[AH (by rw[hJ2];decide),hJ2];refine AF EU (Ci k1 el k2 k3 kT kF kN) hm cP cG cL AB AB ?_;exact AJ rfl AA.out
 ·have k3:decide (As c>x.room)=false:=Av hrm
  rw[nl hp hg hrm,AG (λh=>h rfl)]at hJ2;refine AF EU (Ci k1 el k2 k3 wi kT (Ab kF kN)) hm cP cG cL AB AB ?_;exact⟨(i+1,_),⟨h2,hJ2.symm⟩,by dsimp only;omega,AL⟩
def JF (x:BR)(i:Int):Bool:=EM i 0 ((x.cells.length:Int)-1)
theorem xT (x:BR)(hl:x.cells.length<=1000000)(i:Int):AK C0 109 [i64 i,.pptr x.D] (Ai (!JF x i)):=by
 refine AZ.walk w1 bc rfl λF=>?_
 have cW:=O5 i 0 ((x.cells.length:Int)-1);have hb:JF x i=EM i 0 ((x.cells.length:Int)-1):=rfl;have w2:IntKind.i64.wrap ((x.cells.length:Int)-1)=(x.cells.length:Int)-1:=wI;obtain⟨cs,hcs⟩:∃c,x.cells=c:=⟨_,rfl⟩
 have el:(((cs.map (Am false)).length:Nat):Int)=(cs.length:Int):=by rw[Ag]
 unfold BR.D;rw[hb];rw[hcs]at cW w2⊢;refine AF AU (Ab el w2) cW AB AB AB AB AB ?_;exact AJ rfl AA.out
theorem yK (b:Bool)(l:List Int)(c:D)[pc:AA c](p:Int->Bool)(hl:l.length<=1000000)(hc:∀x∈l,AK C0 109 [i64 x,c] (Ai (p x))):AK C0 149 [.sl b 1 (CW l),.clo (.func 109) [] [c]] (i64 (Ji p l)):=by
 refine AZ.walk w1 cZ rfl λF=>?_
 have el:(((CW l).length:Nat):Int)=(l.length:Int):=by rw[Ag]
 refine AF AU el AB AB AB AB AB AB ?_;refine AC.loop (α:=Nat×Nat) (λp=>⟨[(0,.sl b 1 (CW l)),(1,.clo (.func 109) [] [c]),(7,i64 l.length),(8,i64 (p.1:Int))],[],p.2⟩) (λp=>l.length-p.1) (λq=>q.1<=l.length/\∀(j:Nat) (x:Int),j<q.1->l[j]?=some x->p x=false) (0,_) ⟨BU _,λj x hj=>Af hj (FN j)⟩ AL ?_;rintro⟨i,n⟩ F ⟨hi,ha⟩;dsimp only at hi ha⊢;rcases BA i l.length with h2|h2
 rotate_left
 ·have e1:=Cb h2
  have:i=l.length:=by omega
  subst this;refine AF AU e1 AB AB AB AB AB AB ?_;exact AJ (by rw[Qx ha]) AA.out
 have e1:=CZ h2;have wi:=Cc (i:=i) (by omega);obtain⟨x,hx⟩:=CU h2;have hm:(CW l)[i]?=some (i64 x):=by rw[A8,hx];rfl
 have cn:=hc x (Ay hx);cases hb:p x
 ·rw[hb]at cn
  refine AF AU (Ar e1 wi kN) hm cn AB AB AB AB ?_;refine⟨(i+1,_),⟨h2,λj z hj hjz=>?_⟩,by dsimp only;omega,AL⟩;rcases BA j i with h|h
  ·exact ha j z h hjz
  ·have:j=i:=by dsimp only at hj;omega
   subst this;rw[hx]at hjz;cases hjz;exact hb
 ·rw[hb]at cn
  refine AF AU (Ar e1 wi kN) hm cn AB AB AB AB ?_;exact AJ (by rw[Ri hx hb ha]) AA.out
theorem yE (b:Bool)(l:List Int)(c:D)[pc:AA c](p:Int->Bool)(hl:l.length<=1000000)(hc:∀x∈l,AK C0 109 [i64 x,c] (Ai (p x))):AK C0 108 [.sl b 1 (CW l),.clo (.func 109) [] [c]] (Ai (l.any p)):=by
 refine AZ.walk w1 ba rfl λF=>?_
 have c1:=yK b l c p hl hc;have e1:=Rj p l;refine AF AU e1 c1 AB AB AB AB AB ?_;exact AJ rfl AA.out
def Ex (x:BR)(ns:List Int):Int:=if Cn x≠0 then Cn x else if ns.any (λi=>!JF x i)then 10 else 0
theorem gz (x:BR)(hl:x.cells.length<=1000000)(hc:∀c∈x.cells,c.length<=1000000/\∀y∈c,y.few)(ns:List Int)(hn:ns.length<=1000000):AK C0 58 [x.D,.sl true 1 (CW ns)] (i64 (Ex x ns)):=by
 refine AZ.walk w1 gC rfl λF=>?_
 have cB:=af x hl hc;have cH:=yE true ns (.pptr x.D) (λi=>!JF x i) hn λi _=>xT x hl i
 have cW:=Gq (ns.any λi=>!JF x i) 10;have hE:Ex x ns=if Cn x≠0 then Cn x else if ns.any (λi=>!JF x i)then 10 else 0:=rfl
 obtain⟨E,hEE⟩:∃E,Cn x=E:=⟨_,rfl⟩
 rw[hEE]at cB hE;have hx:∃a b c d e,x.D=.agg [a,b,c,d,e]:=⟨_,_,_,_,_,rfl⟩
 have px:AA x.D:=AI;have px2:AO x.D:=AI;obtain⟨a1,a2,a3,a4,a5,hx⟩:=hx;rw[hx]at cB cH px px2⊢;rw[hE]
 by_cases h0:E=0
 rotate_left
 ·have k2:(E != 0)=true:=Hg h0
  rw[AH h0];refine AF AU k2 cB AB AB AB AB AB ?_;exact AJ rfl AA.out
 have k2:(E != 0)=false:=by rw[h0];rfl
 rw[AG (λh=>h h0)];refine AF AU k2 cB AB AB AB AB AB ?_;refine A7.own _ (Jk cH rfl (λi a d h1 h2=>by
  match i with
  | 0=>cases h1;cases h2;exact .refl _ _
  | 1=>cases h1;cases h2;exact .clo1 (.ptr rfl rfl rfl rfl)
  |n+2=>cases h1) AI (.prim _)) ?_
 rintro d H' n' ⟨rfl,rfl,rfl⟩;refine AF AU k2 cW AB AB AB AB AB ?_;exact AJ rfl AA.out
theorem qY (x:BR)(hl:x.cells.length<=1000000)(hc:∀c∈x.cells,c.length<=1000000/\∀y∈c,y.modr)(i:Int):AK C0 12 [x.D,i64 i] (i64 (Ex x [i])):=by
 refine AZ.walk w1 x6 rfl λF=>?_
 have cB:=RV x hl hc;have hE:Ex x [i]=if Cn x≠0 then Cn x else if JF x i then 0 else 10:=by
  unfold Ex;cases h:JF x i
  ·simp[h]
  ·simp[h]
 obtain⟨E,hEE⟩:∃E,Cn x=E:=⟨_,rfl⟩
 rw[hEE]at cB hE;have hb:JF x i=EM i 0 ((x.cells.length:Int)-1):=rfl;obtain⟨cs,hcs⟩:∃c,x.cells=c:=⟨_,rfl⟩
 have el:(((cs.map (Am false)).length:Nat):Int)=(cs.length:Int):=by rw[Ag]
 rw[hE,hb];unfold BR.D at cB⊢;rw[hcs]at cB⊢
 by_cases h0:E=0
 rotate_left
 ·have k2:(E==0)=false:=Br.2 h0
  rw[AH h0];refine AF AU k2 cB AB AB AB AB AB ?_;exact AJ rfl AA.out
 have k2:(E==0)=true:=by rw[h0];rfl
 rw[AG (λh=>h h0)];unfold EM
 by_cases hi:i<0
 ·have k3:decide (i<0)=true:=Au hi
  rw[show decide (i>=0)=false from Bc,Hx,AG Bool.false_ne_true];refine AF AU (Ab k2 k3) cB AB AB AB AB AB ?_;exact AJ rfl AA.out
 have k3:decide (i<0)=false:=Av hi;rw[show decide (i>=0)=true from BV,Gc]
 by_cases hg:i>=(cs.length:Int)
 ·have k4:decide (i>=(cs.length:Int))=true:=Au hg
  rw[show decide (i<=(cs.length:Int)-1)=false from Bc,AG Bool.false_ne_true];refine AF AU (BS k2 k3 k4 el) cB AB AB AB AB AB ?_;exact AJ rfl AA.out
 ·have k4:decide (i>=(cs.length:Int))=false:=Av hg
  rw[show decide (i<=(cs.length:Int)-1)=true from BV,AH rfl];subst h0;refine AF AU (BS k2 k3 k4 el) cB AB AB AB AB AB ?_;exact AJ rfl AA.out
end Go.Ide
namespace Go.Proofs
open Go.Shelf Go.RowKit Go.Lib
open Tryz
def Tryz.growLay_ren:Go.Shelf.Ren:=⟨fun|4=>112|n=>n,fun|22=>37|25=>52|3=>3|4=>4|9=>9|20=>20|0=>0|n=>n,fun|n=>n⟩
theorem e0t:Go.Proofs.Lays8.n4 Tryz.prog Tryz.growLay_ren:={
 mixed:=by kernel_rfl
 f4:=⟨Tryz.f112.name,by decide,Ck func112⟩
 t0:=underlying0
 a0:=isAgg0
 z0:=sizeOf0
 v0:=zeroValue0
 t3:=underlying3
 a3:=isAgg3
 z3:=sizeOf3
 v3:=zeroValue3
 t4:=underlying4
 a4:=isAgg4
 z4:=sizeOf4
 v4:=zeroValue4
 t9:=underlying9
 a9:=isAgg9
 z9:=sizeOf9
 v9:=zeroValue9
 t20:=underlying20
 a20:=isAgg20
 z20:=sizeOf20
 v20:=zeroValue20
 t22:=underlying37
 a22:=isAgg37
 z22:=sizeOf37
 v22:=zeroValue37 }
end Go.Proofs
namespace Go.Ide
open Go.Proofs Go.RowKit Go.Lib
set_option maxRecDepth 20000
set_option maxHeartbeats 4000000
theorem Ki (K n:Nat)(h0:0<n)(hn:n<=1000000)(H:Hp)(m:Nat):Ct C0 112 [CS,i64 (n:Int)] H m (λd H' n'=>d=.osl K m 3 0 0/\H'=⟨K,m,52,3,[]⟩::H/\n'=m+1):=by
 refine⟨by obtain⟨fn,a1,a2,a3,-⟩:=bh;exact⟨fn,_,a1,a2,a3⟩,λF ρ w vs mm fr gn hsz rep=>?_⟩;obtain⟨v0,v1,rfl⟩:∃v0 v1,vs = #[v0,v1]:=by
  match vs,hsz with
  |⟨[a,b]⟩,_=>exact⟨a,b,rfl⟩
 have r0:AV ρ _ w CS v0:=rep 0 _ rfl;have r1:AV ρ _ w (i64 (n:Int)) v1:=rep 1 _ rfl;cases r0;cases r1;have hT:∃i,X1.tt 37=some i/\i.ti=.slice 52 3 48 (.agg #[.string ⟨#[]⟩,.int .i64 0,.slice none 0 0]):=⟨_,rfl,rfl⟩
 obtain⟨i,hi1,hi2⟩:=hT;obtain⟨-,⟨inf,k1,k2,k3,k4⟩,k5,k6⟩:=FC (w1.tt _ _ hi1) hi2;have hc:=Any8.slices_Grow_grow e0t inf _ k1 k4 (by rw[k2];decide) none 0 0 n [] w (Al _) (by omega) (by rw[k3];omega) (by omega) (by rw[k2];rfl) (λ_=>rfl) (λa h=>by cases h);refine Calls.mono hc ?_;rintro e w' ⟨rfl,rfl⟩;rw[show Tryz.growLay_ren.t 25=52 from rfl,BZ];have hge:n<=grownCap w n 0 52:=grownCap_ge ..;have hmx:grownCap w n 0 52<=maxLen:=grownCap_le_maxLen _ _ _ _ (by simp only[maxLen];omega);generalize grownCap w n 0 52=cap at hge hmx⊢;obtain⟨z,hz⟩:∃z,(Value.agg #[.string ⟨#[]⟩,.int .i64 0,.slice none 0 0])=z:=⟨_,rfl⟩
 rw[hz]at k5 k6⊢;generalize hcs' : #[]++Builtin.zeroCells z.cells (n-0)++Builtin.zeroCells z.cells (cap-n)=cs';have hsz':cs'.size=cap*3:=by
  rw[<-hcs',Jq,Jq,size_zeroCells,size_zeroCells,k5];simp only[Ka,HQ];omega
 have ho:DY ρ (AM F.X ρ H) w.drew ⟨K,m,52,3,[]⟩ cs':=by
  refine⟨by simp,λq d h=>by simp at h,λq v hv=>?_,λq d j c h=>by simp at h⟩;rw[<-hcs']at hv;rcases BA q (#[]++Builtin.zeroCells z.cells (n-0)).size with hq|hq
  ·rw[G6 hq,Array.empty_append]at hv
   exact QT k6 _ _ v hv
  ·rw[G5 hq]at hv
   exact QT k6 _ _ v hv
 obtain⟨m1,x1⟩:=mm.drew.alloc ⟨K,m,52,3,[]⟩ cs' (fr _ _ (Al _)) (λe' he' h=>Nat.ne_of_lt (gn e' he') h.2) ho;refine⟨_,_,_,_,_,rfl,⟨rfl,rfl,rfl⟩,m1,(BX.drew _ _ _).trans x1,λk g hg=>?_,λe he=>?_,?_⟩
 ·unfold Lk.put
  rw[AG λh=>by have:=h.2;dsimp only at this;omega];exact fr k g (by omega)
 ·rcases Az.1 he with rfl|he
  ·exact Hz _
  ·exact Dc (gn e he)
 ·exact P0 (b:=w.heap.size) (T:=52) (cs:=cs') (fz:=(0,0)) (Ei _ _ _ _) (by rw[Ed];exact AH rfl) (BU _) hsz'.symm hmx
theorem YJ {vs:List (List AE)}{i:Nat}{l:List AE}(h:vs[i]?=some l):(vs.take (i+1)).flatten=(vs.take i).flatten++l:=by
 rw[D8,h];simp
theorem Zf {vs:List (List AE)}(i:Nat):(vs.take i).flatten.length<=vs.flatten.length:=by
 have:vs.flatten=(vs.take i).flatten++(vs.drop i).flatten:=by rw[<-List.flatten_append,Fj]
 rw[this,Bp];omega
theorem lS (vs:List (List AE))(h0:vs.flatten≠[])(hl:vs.flatten.length<=1000000)(hv:vs.length<=1000000):AK C0 65 [.sl true 1 (vs.map (Am false))] (Am false vs.flatten):=by
 refine AZ.walk w1 gF rfl λF=>?_
 have el:(((vs.map (Am false)).length:Nat):Int)=(vs.length:Int):=by rw[Ag]
 have hpos:0<vs.flatten.length:=List.length_pos_iff.2 h0;have cG:=λm=>Ki 1302 vs.flatten.length hpos hl [] m
 refine AF AU el AB AB AB AB AB AB ?_;refine AC.loop (α:=Nat×Nat) (λp=>⟨[(0,.sl true 1 (vs.map (Am false))),(3,i64 ((vs.take p.1).flatten.length:Int)),(9,.sl true 1 (vs.map (Am false))),(10,i64 (vs.length:Int)),(11,i64 (p.1:Int))],[],p.2⟩) (λp=>vs.length-p.1) (λq=>q.1<=vs.length) (0,_) (BU _) AL ?_;rintro⟨i,n⟩ F hi;dsimp only at hi⊢;rcases BA i vs.length with h2|h2
 ·have e1:=CZ h2
  have wi:=Cc (i:=i) (by omega);obtain⟨x,hx⟩:=CU h2;have hm:(vs.map (Am false))[i]?=some (.sl false 3 (x.map AE.D)):=by rw[A8,hx];rfl
  have hs:=YJ hx;have hle:=Zf (vs:=vs) (i+1);have ex:(((x.map AE.D).length:Nat):Int)=(x.length:Int):=by rw[Ag]
  rw[hs,Bp]at hle;have w1':IntKind.i64.wrap (((vs.take i).flatten.length:Int)+(x.length:Int))=(((vs.take (i+1)).flatten.length:Nat):Int):=by
   rw[wI,hs,Bp];omega
  have g0:decide ((((vs.take (i+1)).flatten.length:Nat):Int)<0)=false:=Bc;refine AF AU (Ek e1 wi ex w1' g0 kN) hm AB AB AB AB AB ?_;exact⟨(i+1,_),h2,by dsimp only;omega,AL⟩
 have e1:=Cb h2
 have:i=vs.length:=by omega
 subst this;rw[C6];refine AF AU e1 AB AB AB AB AB AB ?_;refine A7.own _ (cG _) ?_;rintro d H' n' ⟨rfl,rfl,rfl⟩;refine AF AU el AB AB AB AB AB AB ?_;refine AC.loop (α:=Nat×Nat×Nat) (λp=>⟨[(6,.osl 1302 p.2.1 3 0 (vs.take p.1).flatten.length),(25,.sl true 1 (vs.map (Am false))),(26,i64 (vs.length:Int)),(27,i64 (p.1:Int))],[⟨1302,p.2.1,52,3,(vs.take p.1).flatten.map AE.D⟩],p.2.2⟩) (λp=>vs.length-p.1) (λq=>q.1<=vs.length) (0,n+1+1,_) (BU _) AL ?_;clear hi h2 e1;rintro⟨i,g,n⟩ F hi;dsimp only at hi⊢;rcases BA i vs.length with h2|h2
 ·have e1:=CZ h2
  have wi:=Cc (i:=i) (by omega);obtain⟨x,hx⟩:=CU h2;have hm:(vs.map (Am false))[i]?=some (.sl false 3 (x.map AE.D)):=by rw[A8,hx];rfl
  have hs:=YJ hx;have hle:=Zf (vs:=vs) (i+1);have hln:((vs.take i).flatten.map AE.D).length=(vs.take i).flatten.length:=Ag ..;have hlx:(x.map AE.D).length=x.length:=Ag ..;rw[hs,Bp]at hle;obtain⟨R,hR⟩:∃R,(vs.take i).flatten=R:=⟨_,rfl⟩
  obtain⟨X,hX⟩:∃X,x.map AE.D=X:=⟨_,rfl⟩
  have pX:AA (.sl false 3 X):=by rw[<-hX];exact AI
  rw[hR]at hs hle hln⊢;rw[hX]at hm hlx;obtain⟨RD,hRD⟩:∃X,R.map AE.D=X:=⟨_,rfl⟩
  rw[hRD]at hln⊢;refine AF AU (Ar e1 wi kN) hm AB AB AB AB AB ?_;refine⟨(i+1,n+1+1+1+1+1+1,n+1+1+1+1+1+1+1+1+1+1),h2,by dsimp only;omega,?_⟩;dsimp only;rw[hs,Bp,DK,hRD,hX,hlx];rw[Ch (show RD.length<=R.length by omega)];exact AL
 have e1:=Cb h2
 have:i=vs.length:=by omega
 subst this;rw[C6];have hR:=IA (H:=[⟨1302,g,52,3,vs.flatten.map AE.D⟩]) (Hf:=[]) (k:=1302) (g:=g) (T:=52) (sz:=3) (l:=vs.flatten.map AE.D) rfl;rw[Ag]at hR;refine AF AU e1 AB AB AB AB AB AB ?_;exact⟨_,hR,AA.out,rfl⟩
end Go.Ide
namespace Go.Ide
open Go.Proofs Go.RowKit
set_option maxRecDepth 20000
set_option maxHeartbeats 4000000
def BP (x:BR)(i:Int):List AE:=x.cells.getD i.toNat []
theorem O4 {x:BR}(h:Cn x=0):∀c∈x.cells,FJ x c=0:=by
 unfold Cn at h
 by_cases h1:H3 x=0
 ·rw[AG (λq=>q h1)]at h
  by_cases h2:FH x x.cells=0
  ·exact Ti h2
  ·rw[AH h2]at h;exact Af h h2
 ·rw[AH h1]at h;exact Af h h1
theorem R5 {x:BR}{i:Int}(h:Ex x [i]=0):Cn x=0/\0<=i/\i<(x.cells.length:Int):=by
 unfold Ex at h
 by_cases h1:Cn x=0
 ·rw[AG (λq=>q h1)]at h
  refine⟨h1,?_⟩;cases hb:JF x i
  ·simp[hb]at h
  ·unfold JF EM at hb
   rw[Ba,decide_eq_true_iff,decide_eq_true_iff]at hb;omega
 ·rw[AH h1]at h;exact Af h h1
structure fE (x:BR)(i:Int)(l:List AE):Prop where
 cel:∀c∈x.cells,FJ x c=0
 lt:i.toNat<x.cells.length
 ii:i=(i.toNat:Int)
 par:CG l=0
 at_:x.cells[i.toNat]?=some (BP x i)
 bin:Cn x=0
theorem oc (a b:List AE):As (a++b)=As a+As b:=by
 unfold As;rw[DK,List.sum_append]
theorem UH {x:BR}(h:Cn x=0):0<=x.side/\x.side<=999999999/\x.room<=999999999/\x.cells.length<=8:=by
 have h1:H3 x=0:=by
  unfold Cn at h
  by_cases h1:H3 x=0
  ·exact h1
  ·rw[AH h1]at h;exact Af h h1
 rw[VR]at h1;split at h1
 ·cases h1
 split at h1
 ·cases h1
 rename_i hr;split at h1
 ·cases h1
 split at h1
 ·cases h1
 rename_i hn;unfold LU at hr;simp only[JC,G4,not_or]at hr;obtain⟨⟨⟨⟨-,-⟩,h3⟩,h4⟩,h5⟩:=hr;omega
def BM (l:List AE):List AE:=l.flatMap λx=>List.replicate x.mass.toNat (x.w 1)
theorem wM:BM []=[]:=rfl
theorem Rm (x:AE)(l:List AE):BM (x::l)=List.replicate x.mass.toNat (x.w 1)++BM l:=rfl
theorem wK (a b:List AE):BM (a++b)=BM a++BM b:=List.flatMap_append
theorem wO (x:AE):BM [x]=List.replicate x.mass.toNat (x.w 1):=by rw[Rm,wM,Dm]
theorem PO:∀ {l:List AE},(∀x∈l,0<=x.mass)->((BM l).length:Int)=As l
 | [],_=>rfl
 |x::l,h=>by
  have h1:=h x (CO ..);have h2:=PO (l:=l) λy hy=>h y (CT _ hy)
  rw[Rm,Bp,HR,show As (x::l)=x.mass+As l from rfl];omega
theorem wJ {l:List AE}:∀y∈BM l,∃x∈l,y=x.w 1/\0<x.mass:=λy hy=>by
 unfold BM at hy;obtain⟨x,hx,h⟩:=List.mem_flatMap.1 hy;obtain⟨h1,h2⟩:=List.mem_replicate.1 h;exact⟨x,hx,h2,by omega⟩
theorem qg {l:List AE}{i:Nat}{x:AE}(h:l[i]?=some x):BM (l.take (i+1))=BM (l.take i)++List.replicate x.mass.toNat (x.w 1):=by
 rw[D8,h,wK];show _++BM [x]=_;rw[wO]
theorem RO:∀ {l:List AE},(∀x∈l,0<=x.mass/\x.mass<=100000)->(BM l).length<=l.length*100000
 | [],_=>Al _
 |x::l,h=>by
  have h1:=h x (CO ..);have h2:=RO (l:=l) λy hy=>h y (CT _ hy)
  rw[Rm,Bp,HR,Bq];omega
theorem xA (b:Bool)(l:List AE)(hl:l.length<=1000)(hx:∀x∈l,0<=x.mass/\x.mass<=100000):AK C0 97 [Am b l] (Am false (BM l)):=by
 refine AZ.walk w1 xz rfl λF=>?_
 have el:(((l.map AE.D).length:Nat):Int)=(l.length:Int):=by rw[Ag]
 refine AF AU el AB AB AB AB AB AB ?_;refine AC.ghost 1003 52 3 [(0,Am b l),(3,.osl 1003 _ 3 0 0),(4,i64 ((0:Nat):Int))] ⟨.inl rfl,.inr ⟨rfl,rfl⟩,.inl rfl,trivial⟩ ?_;refine AC.loop (α:=Nat×Nat×Nat) (λp=>⟨[(0,Am b l),(3,.osl 1003 p.2.1 3 0 (BM (l.take p.1)).length),(4,i64 (p.1:Int))],[⟨1003,p.2.1,52,3,(BM (l.take p.1)).map AE.D⟩],p.2.2⟩) (λp=>l.length-p.1) (λq=>q.1<=l.length) (0,_,_) (BU _) AL ?_;rintro⟨i,g,n⟩ F hi;dsimp only at hi⊢;rcases BA i l.length with h2|h2
 rotate_left
 ·have e1:=Cb h2
  have:i=l.length:=by omega
  subst this;rw[C6];have hf:=IA (H:=[⟨1003,g,52,3,(BM l).map AE.D⟩]) (Hf:=[]) (k:=1003) (g:=g) (T:=52) (sz:=3) (l:=(BM l).map AE.D) rfl;rw[Ag]at hf;refine AF AU (Ab e1 el) AB AB AB AB AB AB ?_;exact⟨_,hf,AA.out,rfl⟩
 have e1:=CZ h2;have wi:=Cc (i:=i) (by omega);obtain⟨x,hxi⟩:=CU h2;obtain⟨x1,x2⟩:=hx x (Ay hxi);have hm:(l.map AE.D)[i]?=some (.agg [str (sb x.grain),i64 x.mass,.sl false 2 (x.shs.map A0.D)]):=by rw[A8,hxi];rfl
 have hU:=qg hxi;have hb0:=RO (l:=l.take i) λy hy=>hx y (List.take_subset _ _ hy)
 rw[Bi]at hb0;obtain⟨R,hR⟩:∃R,BM (l.take i)=R:=⟨_,rfl⟩
 rw[hR]at hU hb0⊢;have hRl:R.length<=100000000:=by omega
 refine AF AU (Ab e1 el) AB AB AB AB AB AB ?_;refine AC.loop (α:=Nat×Nat×Nat) (λp=>⟨[(0,Am b l),(3,.osl 1003 p.2.1 3 0 (R++List.replicate p.1 (x.w 1)).length),(4,i64 (i:Int)),(5,i64 (p.1:Int))],[⟨1003,p.2.1,52,3,(R++List.replicate p.1 (x.w 1)).map AE.D⟩],p.2.2⟩) (λp=>x.mass.toNat-p.1) (λq=>q.1<=x.mass.toNat) (0,g,_) (BU _) (by rw[show R++List.replicate 0 (x.w 1)=R from Dm R];exact AL) ?_;rintro⟨k,g2,n2⟩ F hk;dsimp only at hk⊢;rcases BA k x.mass.toNat with h3|h3
 rotate_left
 ·have e2:decide ((k:Int)<x.mass)=false:=Bc
  have:k=x.mass.toNat:=by omega
  subst this;rw[<-hU];refine AF AU (Ar e2 wi kN) hm AB AB AB AB AB ?_;exact⟨(i+1,g2,n2+1000),h2,by dsimp only;omega,AL⟩
 have e2:decide ((k:Int)<x.mass)=true:=BV;have wk:=Cc (i:=k) (by omega);have hl2:(R++List.replicate k (x.w 1)).length=R.length+k:=by rw[Bp,HR]
 have hR2:(R++List.replicate (k+1) (x.w 1)).map AE.D=(R++List.replicate k (x.w 1)).map AE.D++[.agg [str (sb x.grain),i64 1,.sl false 2 (x.shs.map A0.D)]]:=by
  rw[List.replicate_succ',<-EE,DK];rfl
 have hl3:(R++List.replicate (k+1) (x.w 1)).length=R.length+k+1:=by rw[Bp,HR];omega
 obtain⟨RD,hRD⟩:∃T,(R++List.replicate k (x.w 1)).map AE.D=T:=⟨_,rfl⟩
 have hRDl:RD.length=R.length+k:=by rw[<-hRD,Ag,hl2]
 rw[hl2,hRD];rw[hRD]at hR2;have htk:RD.take (R.length+k)=RD:=by rw[<-hRDl];exact C6
 refine AF AU (BS e2 wk htk kN) hm AB AB AB AB AB ?_;refine⟨(k+1,?g,n2+1000),h3,by dsimp only;omega,?_⟩
 rotate_left
 ·dsimp only
  rw[hl3,hR2];exact AL
def CH (bot:Nat->Bool)(n:Nat):Nat->Nat
 | 0=>0
 |j+1=>CH bot n j+if bot (n-j)then 1 else 0
def Gx (bot:Nat->Bool)(U:List AE):Nat->List AE
 | 0=>[]
 |j+1=>Gx bot U j++[U.getD (if bot (U.length-j)then CH bot U.length j else CH bot U.length j+(U.length-j)-1) ⟨[],0,[]⟩]
def I1 (bot:Nat->Bool)(n:Nat):Nat->List Bool
 | 0=>[]
 |j+1=>I1 bot n j++[bot (n-j)]
theorem NQ (bot:Nat->Bool)(n j:Nat):CH bot n (j+1)=CH bot n j+if bot (n-j)then 1 else 0:=rfl
theorem Hi (bot:Nat->Bool)(n:Nat):∀j,CH bot n j<=j
 | 0=>Al _
 |j+1=>by have:=Hi bot n j;unfold CH;split<;>omega
theorem M7 (bot:Nat->Bool)(U:List AE):∀j,(Gx bot U j).length=j
 | 0=>rfl
 |j+1=>by unfold Gx;rw[Bp,M7 bot U j];rfl
theorem Yo (bot:Nat->Bool)(n:Nat):∀j,(I1 bot n j).length=j
 | 0=>rfl
 |j+1=>by unfold I1;rw[Bp,Yo bot n j];rfl
theorem py (bot:Nat->Bool)(U:List AE){j m:Nat}(h:j<m):(Gx bot U m)[j]?=some (U.getD (if bot (U.length-j)then CH bot U.length j else CH bot U.length j+(U.length-j)-1) ⟨[],0,[]⟩):=by
 induction m with
 |zero=>omega
 |succ m ih=>
  unfold Gx;rcases BA j m with h1|h1
  ·rw[GL (by rw[M7];exact h1),ih h1]
  ·have:j=m:=by omega
   subst this;rw[Ez (by rw[M7];omega),M7,Nat.sub_self];rfl
def Fc (bot:Nat->Bool)(U:List AE)(j:Nat):List AE:=(U.drop (CH bot U.length j)).take (U.length-j)
theorem UY (bot:Nat->Bool)(U:List AE)(j:Nat):(Fc bot U j).length=U.length-j:=by
 have:=Hi bot U.length j
 unfold Fc;rw[Bi,Dp];omega
theorem l8 (bot:Nat->Bool)(U:List AE):Fc bot U 0=U:=by
 unfold Fc;exact C6
theorem nU {bot:Nat->Bool}{U:List AE}{j:Nat}(_:j<U.length)(hb:bot (U.length-j)=true):Fc bot U (j+1)=(Fc bot U j).drop 1:=by
 unfold Fc;rw[NQ,AH hb,List.drop_take,List.drop_drop,show U.length-j-1=U.length-(j+1) by omega]
theorem l6 {bot:Nat->Bool}{U:List AE}{j:Nat}(h:j<U.length)(hb:bot (U.length-j)=false):Fc bot U (j+1)=(Fc bot U j).take (U.length-j-1):=by
 unfold Fc;rw[NQ,AG (by rw[hb];exact Bool.false_ne_true),List.take_take,show min (U.length-j-1) (U.length-j)=U.length-(j+1) by omega];rfl
theorem kX {bot:Nat->Bool}{U:List AE}{j:Nat}(h:j<U.length):(Fc bot U j)[0]?=some (U.getD (CH bot U.length j) ⟨[],0,[]⟩):=by
 have:=Hi bot U.length j
 unfold Fc;rw[List.getElem?_take_of_lt (by omega),G3,Dq,Cf,Do,Cf];rfl
theorem l7 {bot:Nat->Bool}{U:List AE}{j:Nat}(h:j<U.length):(Fc bot U j)[U.length-j-1]?=some (U.getD (CH bot U.length j+(U.length-j)-1) ⟨[],0,[]⟩):=by
 have:=Hi bot U.length j
 unfold Fc;rw[List.getElem?_take_of_lt (by omega),G3,Do,show CH bot U.length j+(U.length-j-1)=CH bot U.length j+(U.length-j)-1 by omega,Cf];rfl
theorem Yq {bot:Nat->Bool}{n:Nat}(hb:∀k,bot k=true):∀j,CH bot n j=j
 | 0=>rfl
 |j+1=>by rw[NQ,Yq hb j,AH (hb _)]
theorem Yp {bot:Nat->Bool}{n c:Nat}(hc:0<c)(hb:∀k,bot k=decide (k%c=0)):∀j,j<=n->CH bot n j=n/c-(n-j)/c
 | 0,_=>by show 0=n/c-(n-0)/c;rw[Nat.sub_zero,Nat.sub_self]
 |j+1,h=>by
  rw[NQ,Yp hc hb j (by omega),hb];have h1:(n-j)/c<=n/c:=Nat.div_le_div_right (by omega);have e:n-j=(n-(j+1))+1:=by omega
  have h2:=Nat.succ_div (a:=n-(j+1)) (b:=c);rw[show n-(j+1)+1=n-j by omega]at h2
  by_cases hd:c ∣ n-j
  ·rw[AH hd]at h2
   rw[AH (Au (Nat.mod_eq_zero_of_dvd hd))];omega
  ·rw[AG hd]at h2
   rw[AG (λq=>hd (Nat.dvd_of_mod_eq_zero (DJ q)))];omega
def Cp (x:BR)(k:Nat):Bool:=BI (sb x.flow) Fw||decide (k%x.core.toNat=0)
def Io (x:BR):Prop:=BI (sb x.flow) Fw=true\/2<=x.core/\x.core<=999999999
theorem nF {T:List D}:(T.drop (1:Int).toNat).take (T.length-(1:Int).toNat)=T.drop 1:=by
 rw[show(1:Int).toNat=1 from rfl,Ch (by rw[Dp];exact Al _)]
theorem qK (x:BR)(k:Nat)(hk:k<=1000000000)(hf:Io x):AK C0 98 [x.D,i64 (k:Int)] (Ai (Cp x k)):=by
 refine AZ.walk w1 yA rfl λF=>?_
 have hb:Cp x k=(BI (sb x.flow) Fw||decide (k%x.core.toNat=0)):=rfl;rw[hb];unfold Fw at hb⊢;unfold Io Fw at hf;unfold BR.D;cases hm:BI (sb x.flow) ⟨#[109,97,115,115]⟩
 rotate_left
 ·refine AF AU (Ar hm kT kF) AB AB AB AB AB AB ?_
  exact AJ rfl AA.out
 obtain⟨h2,h3⟩:2<=x.core/\x.core<=999999999:=by
  rcases hf with h|h
  ·rw[hm]at h;cases h
  ·exact h
 obtain⟨c,hc⟩:∃c:Nat,x.core=(c:Int):=⟨x.core.toNat,by omega⟩
 rw[hc]at h2 h3⊢;have q0:((c:Int)==0)=false:=Br.2 (by omega);have q1:((k:Int)).tmod (c:Int)=((k%c:Nat):Int):=rfl;have hlt:k%c<c:=B7 _ (by omega);have q3:IntKind.i64.wrap ((k%c:Nat):Int)=((k%c:Nat):Int):=wI;have q2:(((k%c:Nat):Int)==0)=decide (k%c=0):=by
  by_cases h:k%c=0
  ·rw[h];rfl
  ·rw[Av h];exact Br.2 (by omega)
 rw[Mo];refine AF AU (Ek hm q1 q3 q2 kT kF) AB AB AB AB AB AB ?_;exact AJ (by rw[Bool.false_or]) AA.out
theorem vr (x:BR)(i:Nat)(c:List AE)(hc:x.cells[i]?=some c)(hcl:x.cells.length<=1000000)(hl:c.length<=1000)(hx:∀y∈c,0<=y.mass/\y.mass<=100000)(hf:Io x):
  AK C0 51 [x.D,i64 (i:Int)] (.tup [Am false (Gx (Cp x) (BM c) (BM c).length),.sl false 1 ((I1 (Cp x) (BM c).length (BM c).length).map Ai)]):=by
 refine AZ.walk w1 yb rfl λF=>?_
 have cU:=xA false c hl hx;have hUl:=RO hx;have cB:=λk hk=>qK x k hk hf
 obtain⟨bot,hbot⟩:∃b,Cp x=b:=⟨_,rfl⟩
 rw[hbot]at cB⊢;obtain⟨U,hU⟩:∃U,BM c=U:=⟨_,rfl⟩
 rw[hU]at cU hUl⊢;have hat:(x.cells.map (Am false))[i]?=some (.sl false 3 (c.map AE.D)):=by rw[A8,hc];rfl
 have el:(((x.cells.map (Am false)).length:Nat):Int)=(x.cells.length:Int):=by rw[Ag]
 have hi:=(BQ.1 hc).1;have px:AA x.D:=AI;have px2:AO x.D:=AI;have hB0:x.D=.agg [str (sb x.flow),i64 x.core,i64 x.room,i64 x.side,.sl false 1 (x.cells.map (Am false))]:=rfl;rw[hB0]at cB px px2⊢;have fin:AA (.tup [Am false (Gx bot U U.length),.sl false 1 ((I1 bot U.length U.length).map Ai)]):=AI;refine AF AU (Ab el kN) hat cU AB AB AB AB ?_;refine AC.ghost 705 52 3 [(2,.optr 0 0 5 0 0),(6,Am false U),(7,.osl 705 _ 3 0 0),(8,CS)] ⟨.inl rfl,.inl rfl,.inr ⟨rfl,rfl⟩,.inl rfl,trivial⟩ ?_;refine AC.ghost 902 4 1 [(2,.optr 0 0 5 0 0),(6,Am false U),(7,.osl 705 _ 3 0 0),(8,.osl 902 _ 1 0 0)] ⟨.inl rfl,.inl rfl,.inl rfl,.inr ⟨rfl,rfl⟩,trivial⟩ ?_;refine AC.loop (α:=Nat×Bool×Nat×Nat×Nat) (λp=>⟨[(2,.optr 0 0 5 0 0),(6,Am false (Fc bot U p.1)),(7,.osl (if p.2.1 then 705 else 1007) p.2.2.1 3 0 p.1),(8,.osl (if p.2.1 then 902 else 1202) p.2.2.2.1 1 0 p.1)],
   [⟨if p.2.1 then 902 else 1202,p.2.2.2.1,4,1,(I1 bot U.length p.1).map Ai⟩,⟨if p.2.1 then 705 else 1007,p.2.2.1,52,3,(Gx bot U p.1).map AE.D⟩,⟨0,0,24,5,[.agg [str (sb x.flow),i64 x.core,i64 x.room,i64 x.side,.sl false 1 (x.cells.map (Am false))]]⟩],p.2.2.2.2⟩)
  (λp=>U.length-p.1) (λq=>q.1<=U.length) (0,true,_,_,_) (BU _) (by rw[l8];exact AL) ?_
 rintro⟨j,last,g1,g2,n⟩ F hj;dsimp only at hj⊢;have hoL:=M7 bot U j;have hlL:=Yo bot U.length j;rcases BA j U.length with h2|h2
 rotate_left
 ·have:j=U.length:=by omega
  subst this;have hll:((((Fc bot U U.length).map AE.D).length:Nat):Int)=0:=by rw[Ag,UY];omega
  have k0:decide ((0:Int)>0)=false:=rfl;cases last
  all_goals
   simp only[if_true,Gd,if_false];refine AF AU (Ab hll k0) AB AB AB AB AB AB ?_;exact⟨_,Hh (PD rfl rfl (by rw[Ag,hoL])) (PD rfl rfl (by rw[Ag,hlL])),fin.out,rfl⟩
 have hll:((((Fc bot U j).map AE.D).length:Nat):Int)=((U.length-j:Nat):Int):=by rw[Ag,UY]
 have k1:decide (((U.length-j:Nat):Int)>0)=true:=BV;have cb:=cB (U.length-j) (by omega);have hF:=kX (bot:=bot) h2;have hG:=l7 (bot:=bot) h2;have hlo:=@nU bot U j h2;have hhi:=@l6 bot U j h2;have hOn:Gx bot U (j+1)=Gx bot U j++[U.getD (if bot (U.length-j)then CH bot U.length j else CH bot U.length j+(U.length-j)-1) ⟨[],0,[]⟩]:=rfl;have hLn:I1 bot U.length (j+1)=I1 bot U.length j++[bot (U.length-j)]:=rfl;have hLl:=UY bot U j;obtain⟨L2,hL2⟩:∃L,Fc bot U (j+1)=L:=⟨_,rfl⟩
 rw[hL2]at hlo hhi;obtain⟨LF,hLF⟩:∃L,Fc bot U j=L:=⟨_,rfl⟩
 rw[hLF]at hll hF hG hlo hhi hLl⊢;have hlo':bot (U.length-j)=true->(LF.map AE.D).drop 1=L2.map AE.D:=λh=>by rw[hlo h,List.map_drop]
 have hhi':bot (U.length-j)=false->(LF.map AE.D).take (U.length-j-1)=L2.map AE.D:=λh=>by rw[hhi h,QF]
 have hFm:(LF.map AE.D)[0]?=some (U.getD (CH bot U.length j) ⟨[],0,[]⟩).D:=by rw[A8,hF];rfl
 have hGm:(LF.map AE.D)[U.length-j-1]?=some (U.getD (CH bot U.length j+(U.length-j)-1) ⟨[],0,[]⟩).D:=by rw[A8,hG];rfl
 obtain⟨LD,hLD⟩:∃T,LF.map AE.D=T:=⟨_,rfl⟩
 have pLD:AA (.sl false 3 LD):=by rw[<-hLD];exact AI
 have hLDl:LD.length=U.length-j:=by rw[<-hLD,Ag,hLl]
 have hlys:Am false LF=.sl false 3 LD:=by rw[<-hLD]
 rw[hLD]at hll hlo' hhi' hFm hGm;rw[hlys];have hOD:(Gx bot U (j+1)).map AE.D=(Gx bot U j).map AE.D++[(U.getD (if bot (U.length-j)then CH bot U.length j else CH bot U.length j+(U.length-j)-1) ⟨[],0,[]⟩).D]:=by rw[hOn,DK];rfl
 have hLoD:(I1 bot U.length (j+1)).map Ai=(I1 bot U.length j).map Ai++[Ai (bot (U.length-j))]:=by rw[hLn,DK];rfl
 obtain⟨OD,hODe⟩:∃T,(Gx bot U j).map AE.D=T:=⟨_,rfl⟩
 have hODl:OD.length=j:=by rw[<-hODe,Ag,hoL]
 obtain⟨BD,hBDe⟩:∃T,(I1 bot U.length j).map Ai=T:=⟨_,rfl⟩
 have hBDl:BD.length=j:=by rw[<-hBDe,Ag,hlL]
 rw[hODe]at hOD⊢;rw[hBDe]at hLoD⊢;have t1:OD.take j=OD:=by rw[<-hODl];exact C6
 have t2:BD.take j=BD:=by rw[<-hBDl];exact C6
 cases hb:bot (U.length-j)
 ·rw[hb]at cb hOD hLoD
  rw[AG (by decide)]at hOD;have hhi':=hhi' hb;have wn:IntKind.i64.wrap (((U.length-j:Nat):Int)-1)=((U.length-j-1:Nat):Int):=by rw[wI];omega
  obtain⟨Y,hY⟩:∃Y,U.getD (CH bot U.length j+(U.length-j)-1) ⟨[],0,[]⟩=Y:=⟨_,rfl⟩
  rw[hY]at hGm hOD;rw[show Y.D=.agg [str (sb Y.grain),i64 Y.mass,D5 false Y.shs]from rfl]at hGm hOD;cases last
  all_goals
   simp only[if_true,Gd,if_false];refine AF AU (Ci hll k1 wn kN Nat.sub_zero (@Fi D) (Ar hhi' t1 t2)) cb hGm AB AB AB AB ?_;refine⟨(j+1,false,?ga,?gb,n+1000),h2,by dsimp only;omega,?_⟩
   rotate_left 2
   ·dsimp only
    simp only[Gd,if_false];rw[hL2,hOD,hLoD];exact AL
 ·rw[hb]at cb hOD hLoD
  rw[AH rfl]at hOD;have hlo':=hlo' hb;obtain⟨Y,hY⟩:∃Y,U.getD (CH bot U.length j) ⟨[],0,[]⟩=Y:=⟨_,rfl⟩
  rw[hY]at hFm hOD;rw[show Y.D=.agg [str (sb Y.grain),i64 Y.mass,D5 false Y.shs]from rfl]at hFm hOD;have hs:(LD.drop (1:Int).toNat).take (LD.length-(1:Int).toNat)=L2.map AE.D:=by rw[nF];exact hlo'
  cases last
  all_goals
   simp only[if_true,Gd,if_false];refine AF AU (CI hll k1 hs t1 t2) cb hFm AB AB AB AB ?_;refine⟨(j+1,true,?gc,?gd,n+1000),h2,by dsimp only;omega,?_⟩
   rotate_left 2
   ·dsimp only
    simp only[if_true];rw[hL2,hOD,hLoD];exact AL
def IP (bot:Nat->Bool)(n j:Nat):Nat:=if bot (n-j)then CH bot n j else CH bot n j+(n-j)-1
theorem aN {bot:Nat->Bool}{n j:Nat}(h:j<n):IP bot n j<n:=by
 have:=Hi bot n j
 unfold IP;split<;>omega
theorem Y9 {q:Nat->Prop}{bot:Nat->Bool}{n:Nat}:∀m,m<=n->((∃t,t<m/\q (IP bot n t))↔(∃p,p<CH bot n m/\q p)\/(∃p,n-(m-CH bot n m)<=p/\p<n/\q p))
 | 0,_=>by
  constructor
  ·rintro⟨t,ht,_⟩;omega
  ·rintro(⟨p,hp,_⟩|⟨p,h1,h2,_⟩)
   ·exact Af hp (FN _)
   ·have h3:n-(0-CH bot n 0)=n:=by rw[Nat.zero_sub];rfl
    omega
 |m+1,h=>by
  have ih:=Y9 (q:=q) (bot:=bot) (n:=n) m (by omega);have hle:=Hi bot n m;rw[NQ];constructor
  ·rintro⟨t,ht,hq⟩
   by_cases e:t=m
   ·subst e
    unfold IP at hq
    by_cases hb:bot (n-t)=true
    ·rw[AH hb]at hq⊢;exact .inl ⟨_,by omega,hq⟩
    ·rw[AG hb]at hq⊢;exact .inr ⟨_,by omega,by omega,hq⟩
   ·rcases ih.1 ⟨t,by omega,hq⟩with⟨p,hp,hq⟩|⟨p,h1,h2,hq⟩
    ·exact .inl ⟨p,by split<;>omega,hq⟩
    ·exact .inr ⟨p,by split<;>omega,h2,hq⟩
  ·rintro(⟨p,hp,hq⟩|⟨p,h1,h2,hq⟩)
   ·by_cases hb:bot (n-m)=true
    ·rw[AH hb]at hp
     by_cases e:p=CH bot n m
     ·exact⟨m,by omega,by unfold IP;rw[AH hb,<-e];exact hq⟩
     ·obtain⟨t,ht,hq⟩:=ih.2 (.inl ⟨p,by omega,hq⟩)
      exact⟨t,by omega,hq⟩
    ·rw[AG hb]at hp
     obtain⟨t,ht,hq⟩:=ih.2 (.inl ⟨p,by omega,hq⟩);exact⟨t,by omega,hq⟩
   ·by_cases hb:bot (n-m)=true
    ·rw[AH hb]at h1
     obtain⟨t,ht,hq⟩:=ih.2 (.inr ⟨p,by omega,h2,hq⟩);exact⟨t,by omega,hq⟩
    ·rw[AG hb]at h1
     by_cases e:p=CH bot n m+(n-m)-1
     ·exact⟨m,by omega,by unfold IP;rw[AG hb,<-e];exact hq⟩
     ·obtain⟨t,ht,hq⟩:=ih.2 (.inr ⟨p,by omega,h2,hq⟩)
      exact⟨t,by omega,hq⟩
theorem UM {q:Nat->Prop}{bot:Nat->Bool}{n:Nat}:∀k m,m+k=n->((∃t,m<=t/\t<n/\q (IP bot n t))↔∃p,CH bot n m<=p/\p<n-(m-CH bot n m)/\q p)
 | 0,m,h=>by
  have hle:=Hi bot n m;constructor
  ·rintro⟨t,h1,h2,_⟩;omega
  ·rintro⟨p,h1,h2,_⟩;omega
 |k+1,m,h=>by
  have ih:=UM (q:=q) (bot:=bot) (n:=n) k (m+1) (by omega);have hle:=Hi bot n m;rw[NQ]at ih;constructor
  ·rintro⟨t,h1,h2,hq⟩
   by_cases e:t=m
   ·subst e
    unfold IP at hq
    by_cases hb:bot (n-t)=true
    ·rw[AH hb]at hq;exact⟨_,by omega,by omega,hq⟩
    ·rw[AG hb]at hq;exact⟨_,by omega,by omega,hq⟩
   ·obtain⟨p,g1,g2,hq⟩:=ih.1 ⟨t,by omega,h2,hq⟩
    refine⟨p,?_,?_,hq⟩
    ·split at g1<;>omega
    ·split at g2<;>omega
  ·rintro⟨p,h1,h2,hq⟩
   by_cases hb:bot (n-m)=true
   ·rw[AH hb]at ih
    by_cases e:p=CH bot n m
    ·exact⟨m,Al _,by omega,by unfold IP;rw[AH hb,<-e];exact hq⟩
    ·obtain⟨t,g1,g2,hq⟩:=ih.2 ⟨p,by omega,by omega,hq⟩
     exact⟨t,by omega,g2,hq⟩
   ·rw[AG hb]at ih
    by_cases e:p=CH bot n m+(n-m)-1
    ·exact⟨m,Al _,by omega,by unfold IP;rw[AG hb,<-e];exact hq⟩
    ·obtain⟨t,g1,g2,hq⟩:=ih.2 ⟨p,by omega,by omega,hq⟩
     exact⟨t,by omega,g2,hq⟩
def Dz (b:Nat->Bool):Nat->Nat×Nat
 | 0=>(0,0)
 |k+1=>if b k then(if(Dz b k).1=0 then k+1 else(Dz b k).1,k+1)else Dz b k
structure jD (b:Nat->Bool)(k f l:Nat):Prop where
 z:f=0↔∀t,t<k->b t=false
 zl:l=0↔f=0
 fk:f<=k
 lk:l<=k
 fb:f≠0->b (f-1)=true
 lb:l≠0->b (l-1)=true
 fm:∀t,t+1<f->b t=false
 lm:∀t,l<=t->t<k->b t=false
theorem PJ (b:Nat->Bool):∀k,jD b k (Dz b k).1 (Dz b k).2
 | 0=>⟨⟨λ_ t h=>Af h (FN _),λ_=>rfl⟩,Iff.rfl,Al _,Al _,λh=>Af rfl h,λh=>Af rfl h,λt h=>Af h (FN _),λt _ h=>Af h (FN _)⟩
 |k+1=>by
  have ih:=PJ b k;unfold Dz
  by_cases hb:b k=true
  ·rw[AH hb]
   by_cases h0:(Dz b k).1=0
   ·rw[AH h0]
    have hz:=ih.z.1 h0;exact⟨⟨λh=>Af h (Nat.succ_ne_zero _),λh=>by have:=h k (by omega);rw[hb]at this;cases this⟩,⟨λh=>Af h (Nat.succ_ne_zero _),λh=>Af h (Nat.succ_ne_zero _)⟩,Al _,Al _,λ_=>hb,λ_=>hb,λt h=>hz t (by dsimp only at h;omega),λt h1 h2=>by dsimp only at h1;omega⟩
   ·rw[AG h0]
    refine⟨⟨λh=>Af h h0,λh=>by have:=h k (by omega);rw[hb]at this;cases this⟩,⟨λh=>Af h (Nat.succ_ne_zero _),λh=>Af h h0⟩,by have:=ih.fk;dsimp only;omega,Al _,ih.fb,λ_=>hb,ih.fm,λt h1 h2=>by dsimp only at h1;omega⟩
  ·rw[AG hb]
   have hb':b k=false:=Bool.eq_false_iff.2 hb;refine⟨⟨λh t ht=>?_,λh=>ih.z.2 λt ht=>h t (by omega)⟩,ih.zl,by have:=ih.fk;omega,by have:=ih.lk;omega,ih.fb,ih.lb,ih.fm,λt h1 h2=>?_⟩
   ·by_cases e:t=k
    ·rw[e];exact hb'
    ·exact ih.z.1 h t (by omega)
   ·by_cases e:t=k
    ·rw[e];exact hb'
    ·exact ih.lm t h1 (by omega)
theorem yH (lot:List UInt8)(x:AE)(m:Int):Ev lot (x.w m)=Ev lot x:=rfl
theorem SO {lot:List UInt8}:∀ {c:List AE} {n:Int},(∀x∈c,1<=x.mass)->∀s∈CX lot c n,n+1<=s.1/\s.1<=s.2/\s.2<=n+As c
 | [],_,_,s,hs=>by cases hs
 |x::r,n,h,s,hs=>by
  have hx:=h x (CO ..);have hr:∀y∈r,1<=y.mass:=λy hy=>h y (CT _ hy)
  have hsum:As (x::r)=x.mass+As r:=rfl;have hun:=PO (l:=r) λy hy=>by have:=hr y hy;omega
  rcases B0.1 (show s∈(if Ev lot x then[(n+1,n+x.mass)]else[])++CX lot r (n+x.mass)from hs)with hs|hs
  ·split at hs
   ·rw[Eb]at hs
    rw[hs,hsum];dsimp only;omega
   ·cases hs
  ·have:=SO hr s hs
   rw[hsum];omega
theorem WC {lot:List UInt8}:∀ {c:List AE} {n:Int},(∀x∈c,1<=x.mass)->(CX lot c n).Pairwise λs t=>s.2<t.1
 | [],_,_=>List.Pairwise.nil
 |x::r,n,h=>by
  have hr:∀y∈r,1<=y.mass:=λy hy=>h y (CT _ hy)
  show((if Ev lot x then[(n+1,n+x.mass)]else[])++CX lot r (n+x.mass)).Pairwise _;split
  ·refine IV.2 ⟨List.pairwise_singleton ..,WC hr,λs hs t ht=>?_⟩
   rw[Eb]at hs
   have:=SO hr t ht
   rw[hs];dsimp only;omega
  ·exact WC hr
theorem gp {lot:List UInt8}{d:AE}:∀ {c:List AE} {n:Int},(∀x∈c,1<=x.mass)->∀p:Nat,p<(BM c).length->(Ev lot ((BM c).getD p d)=true↔∃s∈CX lot c n,s.1<=n+(p:Int)+1/\n+(p:Int)+1<=s.2)
 | [],_,_,p,hp=>Af hp (FN _)
 |x::r,n,h,p,hp=>by
  have hx:=h x (CO ..);have hr:∀y∈r,1<=y.mass:=λy hy=>h y (CT _ hy)
  rw[Rm]at hp⊢;rw[Bp,HR]at hp;have e:∀s,s∈CX lot (x::r) n↔(s∈(if Ev lot x then[(n+1,n+x.mass)]else[])\/s∈CX lot r (n+x.mass)):=λs=>B0
  by_cases hpx:p<x.mass.toNat
  ·rw[Do,GL (by rw[HR];exact hpx),List.getElem?_replicate,AH hpx,IZ,yH]
   constructor
   ·intro hl
    exact⟨(n+1,n+x.mass),(e _).2 (.inl (by rw[AH hl];exact Eb.2 rfl)),by dsimp only;omega,by dsimp only;omega⟩
   ·rintro⟨s,hs,h1,h2⟩
    rcases(e s).1 hs with hs|hs
    ·split at hs
     ·assumption
     ·cases hs
    ·have:=SO hr s hs;omega
  ·rw[Do,Ez (by rw[HR];omega),HR,<-Do]
   rw[gp (n:=n+x.mass) hr (p-x.mass.toNat) (by omega)];have hc:n+x.mass+((p-x.mass.toNat:Nat):Int)+1=n+(p:Int)+1:=by omega
   rw[hc];constructor
   ·rintro⟨s,hs,h1,h2⟩
    exact⟨s,(e s).2 (.inr hs),h1,h2⟩
   ·rintro⟨s,hs,h1,h2⟩
    rcases(e s).1 hs with hs|hs
    ·split at hs
     ·rw[Eb]at hs
      rw[hs]at h2;dsimp only at h2;omega
     ·cases hs
    ·exact⟨s,hs,h1,h2⟩
def LY (L:List (Int×Int)):Int×Int:=L.getD 0 (0,0)
def HJ (L:List (Int×Int)):Int×Int:=L.getD (L.length-1) (0,0)
def PI (L:List (Int×Int))(n low hi:Int):Bool:=decide (low>=(LY L).1)||decide (hi>n-(HJ L).2)
def MX (n low hi:Int)(s:Int×Int):Bool:=decide (max s.1 (low+1)<=min s.2 (n-hi))
def PY (L:List (Int×Int))(n low hi:Int):Bool:=!(L.any (MX n low hi))
structure Pl (L:List (Int×Int))(n:Nat):Prop where
 bnd:∀s∈L,1<=s.1/\s.1<=s.2/\s.2<=(n:Int)
 pw:L.Pairwise λs t=>s.2<t.1
theorem qM {L:List (Int×Int)}{n:Nat}(h:Pl L n)(hL:L≠[]):LY L∈L/\∀s∈L,(LY L).1<=s.1:=by
 obtain⟨hb,hp⟩:=h;cases L with
 |nil=>exact Af rfl hL
 |cons a R=>
  refine⟨CO ..,λs hs=>?_⟩;show a.1<=s.1;rcases Az.1 hs with rfl|hs
  ·exact Int.le_refl _
  ·have:=(Da.1 hp).1 s hs
   have:=hb a (CO ..)
   omega
theorem Zs {L:List (Int×Int)}{n:Nat}(h:Pl L n)(hL:L≠[]):HJ L∈L/\∀s∈L,s.2<=(HJ L).2:=by
 obtain⟨hb,hp⟩:=h;have e:L.dropLast++[L.getLast hL]=L:=List.dropLast_concat_getLast hL;obtain⟨R,hR⟩:∃R,L.dropLast=R:=⟨_,rfl⟩
 obtain⟨z,hz⟩:∃z,L.getLast hL=z:=⟨_,rfl⟩
 rw[hR,hz]at e;subst e;have hl:HJ (R++[z])=z:=by
  unfold HJ;rw[Bp,GM,IY,Do,Ez (Al _),Nat.sub_self];rfl
 rw[hl];refine⟨List.mem_append_right _ (Eb.2 rfl),λs hs=>?_⟩;rcases B0.1 hs with hs|hs
 ·have:=(IV.1 hp).2.2 s hs z (Eb.2 rfl)
  have:=hb z (List.mem_append_right _ (Eb.2 rfl))
  omega
 ·rw[Eb]at hs;rw[hs];exact Int.le_refl _
theorem kE {L:List (Int×Int)}{n low hi:Nat}{q:Nat->Prop}(h:Pl L n)(hL:L≠[])(hlow:low+hi<=n)(hq:∀p:Nat,p<n->(q p↔∃s∈L,s.1<=(p:Int)+1/\(p:Int)+1<=s.2)):
  PI L n low hi=true↔(∃p,p<low/\q p)\/(∃p,n-hi<=p/\p<n/\q p):=by
 obtain⟨f1,f2⟩:=qM h hL;obtain⟨l1,l2⟩:=Zs h hL;have bf:=h.bnd _ f1;have bl:=h.bnd _ l1;unfold PI;rw[JC,decide_eq_true_iff,decide_eq_true_iff];constructor
 ·rintro(g|g)
  ·exact .inl ⟨((LY L).1-1).toNat,by omega,(hq _ (by omega)).2 ⟨_,f1,by omega,by omega⟩⟩
  ·exact .inr ⟨((HJ L).2-1).toNat,by omega,by omega,(hq _ (by omega)).2 ⟨_,l1,by omega,by omega⟩⟩
 ·rintro(⟨p,g,hp⟩|⟨p,g1,g2,hp⟩)
  ·obtain⟨s,hs,h1,h2⟩:=(hq p (by omega)).1 hp
   have:=f2 s hs
   exact .inl (by omega)
  ·obtain⟨s,hs,h1,h2⟩:=(hq p g2).1 hp
   have:=l2 s hs
   exact .inr (by omega)
theorem mE {L:List (Int×Int)}{n low hi:Nat}{q:Nat->Prop}(h:Pl L n)(hlow:low+hi<=n)(hq:∀p:Nat,p<n->(q p↔∃s∈L,s.1<=(p:Int)+1/\(p:Int)+1<=s.2)):
  PY L n low hi=true↔¬ ∃p,low<=p/\p<n-hi/\q p:=by
 unfold PY;rw[Bl,List.any_eq_false];constructor
 ·rintro g ⟨p,h1,h2,hp⟩
  obtain⟨s,hs,h3,h4⟩:=(hq p (by omega)).1 hp;refine g s hs ?_;unfold MX;rw[decide_eq_true_iff];omega
 ·intro g s hs hl
  have hb:=h.bnd s hs;unfold MX at hl;rw[decide_eq_true_iff]at hl;refine g ⟨(max s.1 ((low:Int)+1)-1).toNat,by omega,by omega,(hq _ (by omega)).2 ⟨s,hs,by omega,by omega⟩⟩
theorem PC {lot:List UInt8}{c:List AE}(hc:∀x∈c,1<=x.mass):Pl (CX lot c 0) (BM c).length:=by
 have hn:=PO (l:=c) λx hx=>by have:=hc x hx;omega
 exact⟨λs hs=>by have:=SO hc s hs;omega,WC hc⟩
def El (bot:Nat->Bool)(lot:List UInt8)(c:List AE)(t:Nat):Bool:=Ev lot ((BM c).getD (IP bot (BM c).length t) ⟨[],0,[]⟩)
theorem TN {lot:List UInt8}{c:List AE}(hc:∀x∈c,1<=x.mass)(p:Nat)(hp:p<(BM c).length):Ev lot ((BM c).getD p ⟨[],0,[]⟩)=true↔∃s∈CX lot c 0,s.1<=(p:Int)+1/\(p:Int)+1<=s.2:=by
 have:=gp (lot:=lot) (d:=⟨[],0,[]⟩) (n:=0) hc p hp
 rw[Int.zero_add]at this;exact this
theorem Yt {bot:Nat->Bool}{lot:List UInt8}{c:List AE}(hc:∀x∈c,1<=x.mass):(Dz (El bot lot c) (BM c).length).1=0↔CX lot c 0=[]:=by
 have hf:=PJ (El bot lot c) (BM c).length;rw[hf.z];have hr:=UM (q:=λp=>Ev lot ((BM c).getD p ⟨[],0,[]⟩)=true) (bot:=bot) (n:=(BM c).length) (BM c).length 0 (by omega);have h0:CH bot (BM c).length 0=0:=rfl;have hS:=PC (lot:=lot) hc;constructor
 ·intro h
  cases hL:CX lot c 0 with
  |nil=>rfl
  |cons s R=>
   have hs:s∈CX lot c 0:=by rw[hL];exact CO ..
   have hb:=hS.bnd s hs;obtain⟨t,_,ht,hq⟩:=hr.2 ⟨(s.1-1).toNat,by omega,by omega,(TN hc _ (by omega)).2 ⟨s,hs,by omega,by omega⟩⟩
   have:=h t ht
   unfold El at this;rw[this]at hq;cases hq
 ·intro h t ht
  apply Bool.eq_false_iff.2;intro hq;obtain⟨s,hs,_⟩:=(TN hc _ (aN ht)).1 hq;rw[h]at hs;cases hs
theorem nN {bot:Nat->Bool}{lot:List UInt8}{c:List AE}(hc:∀x∈c,1<=x.mass)(hL:CX lot c 0≠[]):(Dz (El bot lot c) (BM c).length).1<=(BM c).length/\∀m,m<=(BM c).length->PI (CX lot c 0) ((BM c).length:Nat) (CH bot (BM c).length m:Nat) ((m-CH bot (BM c).length m:Nat))=decide ((Dz (El bot lot c) (BM c).length).1<=m):=by
 have hf:=PJ (El bot lot c) (BM c).length;have hS:=PC (lot:=lot) hc;refine⟨hf.fk,λm hm=>?_⟩;have hle:=Hi bot (BM c).length m;have h1:=kE (low:=CH bot (BM c).length m) (hi:=m-CH bot (BM c).length m) hS hL (by omega) (TN hc);rw[<-Y9 (q:=λp=>Ev lot ((BM c).getD p ⟨[],0,[]⟩)=true) (bot:=bot) m hm]at h1;have hn:(Dz (El bot lot c) (BM c).length).1≠0:=λq=>hL ((Yt hc).1 q)
 apply F7.2;rw[h1,decide_eq_true_iff];constructor
 ·rintro⟨t,ht,hq⟩
  apply DB;intro hlt
  have:=hf.fm t (by omega)
  unfold El at this;rw[this]at hq;cases hq
 ·intro h
  exact⟨_,by omega,hf.fb hn⟩
theorem qX {bot:Nat->Bool}{lot:List UInt8}{c:List AE}(hc:∀x∈c,1<=x.mass):(Dz (El bot lot c) (BM c).length).2<=(BM c).length/\∀m,m<=(BM c).length->PY (CX lot c 0) ((BM c).length:Nat) (CH bot (BM c).length m:Nat) ((m-CH bot (BM c).length m:Nat))=decide ((Dz (El bot lot c) (BM c).length).2<=m):=by
 have hf:=PJ (El bot lot c) (BM c).length;have hS:=PC (lot:=lot) hc;refine⟨hf.lk,λm hm=>?_⟩;have hle:=Hi bot (BM c).length m;have h1:=mE (low:=CH bot (BM c).length m) (hi:=m-CH bot (BM c).length m) hS (by omega) (TN hc);rw[<-UM (q:=λp=>Ev lot ((BM c).getD p ⟨[],0,[]⟩)=true) (bot:=bot) ((BM c).length-m) m (by omega)]at h1;apply F7.2;rw[h1,decide_eq_true_iff];constructor
 ·intro h
  apply DB;intro hlt;have hn:(Dz (El bot lot c) (BM c).length).2≠0:=by omega
  exact h ⟨_,by omega,by have:=hf.lk;omega,hf.lb hn⟩
 ·rintro h ⟨t,h2,h3,hq⟩
  have:=hf.lm t (by omega) h3
  unfold El at this;rw[this]at hq;cases hq
open Go.Sort
def LW (x:BR):Bool:=x.cells.all HF&&(decide (x.flow.length<=100)&&decide (x.cells.length<=20))
theorem n9 (x:BR)(hl:x.cells.length<=9223372036854775807)(hs:∀c∈x.cells,c.length<=9223372036854775807/\∀y∈c,y.shs.length<=9223372036854775807):AK C0 17 [x.D] (Ai (LW x)):=by
 refine AZ.walk w1 yQ rfl λF=>?_
 obtain⟨cs,hcs⟩:∃c,x.cells=c:=⟨_,rfl⟩
 have el:(((cs.map (Am false)).length:Nat):Int)=(cs.length:Int):=by rw[Ag]
 have hb:LW x=(cs.all HF&&(decide (x.flow.length<=100)&&decide (cs.length<=20))):=by rw[<-hcs];rfl
 rw[hb];unfold BR.D;rw[hcs]at hl hs⊢;refine AF AU el AB AB AB AB AB AB ?_;refine AC.loop (α:=Nat×Nat) (λp=>⟨[(1,.optr 0 0 5 0 0),(6,GY false cs),(7,i64 (cs.length:Int)),(8,i64 (p.1:Int))],[⟨0,0,24,5,[.agg [str (sb x.flow),i64 x.core,i64 x.room,i64 x.side,GY false cs]]⟩],p.2⟩) (λp=>cs.length-p.1) (λq=>q.1<=cs.length/\(cs.take q.1).all HF=true) (0,_) ⟨BU _,rfl⟩ AL ?_;rintro⟨i,n⟩ F ⟨hi,ha⟩;dsimp only at hi ha⊢;rcases BA i cs.length with h2|h2
 rotate_left
 ·have e1:=Cb h2
  have:i=cs.length:=by omega
  subst this;rw[C6]at ha;rw[ha,Gc];have hsz:=Cd x.flow;have d1:decide (x.flow.length<=100)=decide ((x.flow.length:Int)<=100):=DA.2 (by omega);have d2:decide (cs.length<=20)=decide ((cs.length:Int)<=20):=DA.2 (by omega);rw[d1,d2];obtain⟨q1,h1⟩:∃q,decide ((x.flow.length:Int)<=100)=q:=⟨_,rfl⟩
  rw[h1];cases q1
  all_goals
   refine AF AU (Ek e1 hsz el h1 kT kF) AB AB AB AB AB AB ?_;exact AJ rfl AA.out
 have e1:=CZ h2;have wi:=Cc (i:=i) (by omega);obtain⟨c,hc⟩:=CU h2;have hm:(cs.map (Am false))[i]?=some (.sl false 3 (c.map AE.D)):=by rw[A8,hc];rfl
 obtain⟨hs1,hs2⟩:=hs c (Ay hc);have cS:=vS false c hs1 hs2;have htk:cs.take (i+1)=cs.take i++[c]:=by rw[D8,hc];rfl
 cases hq:HF c
 ·rw[hq]at cS
  have hall:cs.all HF=false:=by
   rw[List.all_eq_false];exact⟨c,Ay hc,by rw[hq];exact Bool.false_ne_true⟩
  rw[hall,Hx];refine AF AU (Ar e1 kT kF) hm cS AB AB AB AB ?_;exact AJ rfl AA.out
 ·rw[hq]at cS
  refine AF AU (BS e1 wi kT kF) hm cS AB AB AB AB ?_;exact⟨(i+1,_),⟨h2,by dsimp only;rw[htk,KY,ha,GN,hq];rfl⟩,by dsimp only;omega,AL⟩
theorem dO {x:BR}(h:LW x=true):x.cells.length<=20/\x.flow.length<=100/\∀c∈x.cells,(∀y∈c,y.lite/\y.modr)/\c.length<=80:=by
 unfold LW at h;rw[Ba,Ba,decide_eq_true_iff,decide_eq_true_iff,CY]at h;obtain⟨h1,h2,h3⟩:=h;refine⟨h3,h2,λc hc=>?_⟩;obtain⟨g1,g2,_⟩:=rN (h1 c hc);exact⟨g1,g2⟩
def LQ (l:List AE)(n most:Int):Bool:=decide ((l.length:Int)<=n)&&decide (As l<=most)
def Nx (x:BR)(most:Int):Bool:=decide (x.cells.length<=4)&&(decide (Cn x=0)&&x.cells.all λc=>LQ c 6 most)
def Pp (x:BR):Bool:=LW x&&(decide (Cn x≠0)||Nx x 60)
theorem xJ (l:List AE)(n most:Int)(hl:l.length<=1000000)(hf:∀x∈l,x.modr)(hp:CG l=0):AK C0 53 [Am false l,i64 n,i64 most] (Ai (LQ l n most)):=by
 refine AZ.walk w1 yd rfl λF=>?_
 have el:(((l.map AE.D).length:Nat):Int)=(l.length:Int):=by rw[Ag]
 have cP:=iR false l hl hf;have cM:=V9 false l (IB hp).2.2;rw[hp]at cP;have k0:(((0:Nat):Int)==0)=true:=rfl;unfold LQ;obtain⟨a,ha⟩:∃a,decide ((l.length:Int)<=n)=a:=⟨_,rfl⟩
 obtain⟨b,hb⟩:∃b,decide (As l<=most)=b:=⟨_,rfl⟩
 rw[ha,hb];cases a
 ·refine AF AU (Ar el ha k0) AB AB AB AB AB AB ?_
  exact AJ rfl AA.out
 ·cases b
  ·refine AF AU (BS el ha hb k0) cP cM AB AB AB AB ?_
   exact AJ rfl AA.out
  ·refine AF AU (BS el ha hb k0) cP cM AB AB AB AB ?_
   exact AJ rfl AA.out
theorem zH (x:BR)(most:Int)(hl:x.cells.length<=1000000)(hc:∀c∈x.cells,c.length<=1000000/\∀y∈c,y.modr):AK C0 18 [x.D,i64 most] (Ai (Nx x most)):=by
 refine AZ.walk w1 yR rfl λF=>?_
 have cB:=RV x hl hc;have hE:Nx x most=(decide (x.cells.length<=4)&&(decide (Cn x=0)&&x.cells.all λc=>LQ c 6 most)):=rfl;have hcl:=@O4 x;obtain⟨cs,hcs⟩:∃c,x.cells=c:=⟨_,rfl⟩
 have el:(((cs.map (Am false)).length:Nat):Int)=(cs.length:Int):=by rw[Ag]
 obtain⟨E,hEE⟩:∃E,Cn x=E:=⟨_,rfl⟩
 rw[hE];unfold BR.D at cB⊢;rw[hcs]at cB hcl hl hc⊢;rw[hEE]at cB hcl⊢
 by_cases h4:cs.length<=4
 rotate_left
 ·have k1:decide ((cs.length:Int)>4)=true:=BV
  rw[Av h4,Hx];refine AF AU (Ab el k1) AB AB AB AB AB AB ?_;exact AJ rfl AA.out
 have k1:decide ((cs.length:Int)>4)=false:=Bc;rw[Au h4,Gc]
 by_cases h0:E=0
 rotate_left
 ·have k2:(E != 0)=true:=Hg h0
  rw[Av h0,Hx];refine AF AU (Ar el k1 k2) cB AB AB AB AB AB ?_;exact AJ rfl AA.out
 have k2:(E != 0)=false:=by rw[h0];rfl
 rw[Au h0,Gc];refine AF AU (Ar el k1 k2) cB AB AB AB AB AB ?_;refine AC.loop (α:=Nat×Nat) (λp=>⟨[(1,i64 most),(2,.optr 0 0 5 0 0),(5,i64 (p.1:Int))],[⟨0,0,24,5,[.agg [str (sb x.flow),i64 x.core,i64 x.room,i64 x.side,GY false cs]]⟩],p.2⟩) (λp=>cs.length-p.1) (λq=>q.1<=cs.length/\((cs.take q.1).all λc=>LQ c 6 most)=true) (0,_) ⟨BU _,rfl⟩ AL ?_;rintro⟨i,n⟩ F ⟨hi,ha⟩;dsimp only at hi ha⊢;rcases BA i cs.length with h2|h2
 rotate_left
 ·have e1:=Cb h2
  have:i=cs.length:=by omega
  subst this;rw[C6]at ha;rw[ha];refine AF AU (Ab e1 el) AB AB AB AB AB AB ?_;exact AJ rfl AA.out
 have e1:=CZ h2;have wi:=Cc (i:=i) (by omega);obtain⟨c,hc'⟩:=CU h2;have hm:(cs.map (Am false))[i]?=some (.sl false 3 (c.map AE.D)):=by rw[A8,hc'];rfl
 have hmem:=Ay hc';have cF:=xJ c 6 most (hc c hmem).1 (hc c hmem).2 (NP (hcl h0 c hmem)).1;have htk:cs.take (i+1)=cs.take i++[c]:=by rw[D8,hc'];rfl
 cases hq:LQ c 6 most
 ·rw[hq]at cF
  have hall:(cs.all λc=>LQ c 6 most)=false:=by
   rw[List.all_eq_false];exact⟨c,hmem,by rw[hq];exact Bool.false_ne_true⟩
  rw[hall];refine AF AU (CI e1 el kT kF kN) hm cF AB AB AB AB ?_;exact AJ rfl AA.out
 ·rw[hq]at cF
  refine AF AU (Ek e1 el wi kT kF kN) hm cF AB AB AB AB ?_;exact⟨(i+1,_),⟨h2,by dsimp only;rw[htk,KY,ha,GN,hq];rfl⟩,by dsimp only;omega,AL⟩
theorem vQ (x:BR)(hl:x.cells.length<=9223372036854775807)(hs:∀c∈x.cells,c.length<=9223372036854775807/\∀y∈c,y.shs.length<=9223372036854775807):AK C0 4 [x.D] (Ai (Pp x)):=by
 refine AZ.walk w1 zO rfl λF=>?_
 have cS:=n9 x hl hs;have hk:=@dO x;have cB:=RV x;have cF:=zH x 60;have hE:Pp x=(LW x&&(decide (Cn x≠0)||Nx x 60)):=rfl;have hx:∃a b c d e,x.D=.agg [a,b,c,d,e]:=⟨_,_,_,_,_,rfl⟩
 have px:AA x.D:=AI;have px2:AO x.D:=AI;obtain⟨a1,a2,a3,a4,a5,hx⟩:=hx;rw[hx]at cS cB cF px px2⊢;rw[hE];cases hsh:LW x
 ·rw[hsh]at cS
  rw[Hx];refine AF AU kB cS AB AB AB AB AB ?_;exact AJ rfl AA.out
 rw[hsh]at cS;rw[Gc];obtain⟨k1,k2,k3⟩:=hk hsh;have cB:=cB (by omega) λc q=>⟨by have:=(k3 c q).2;omega,λy h=>((k3 c q).1 y h).2⟩
 have cF:=cF (by omega) λc q=>⟨by have:=(k3 c q).2;omega,λy h=>((k3 c q).1 y h).2⟩
 obtain⟨E,hEE⟩:∃E,Cn x=E:=⟨_,rfl⟩
 rw[hEE]at cB⊢
 by_cases h0:E=0
 ·have e2:(E != 0)=false:=by rw[h0];rfl
  rw[Av (λh=>h h0),Bool.false_or];refine AF AU e2 cS cB cF AB AB AB ?_;exact AJ rfl AA.out
 ·have e2:(E != 0)=true:=Hg h0
  rw[Au h0,Bool.true_or];refine AF AU e2 cS cB AB AB AB AB ?_;exact AJ rfl AA.out
structure fF (x:BR)(m:Int):Prop where
 n:x.cells.length<=4
 len:∀c∈x.cells,c.length<=6
 mass:∀c∈x.cells,As c<=m
 bin:Cn x=0
theorem sA {x:BR}{m:Int}(h:Nx x m=true):fF x m:=by
 unfold Nx at h;rw[Ba,Ba,decide_eq_true_iff,decide_eq_true_iff,CY]at h;obtain⟨h1,h2,h3⟩:=h;have h4:∀c∈x.cells,(c.length:Int)<=6/\As c<=m:=λc hc=>by
  have:=h3 c hc
  unfold LQ at this
  rwa [Ba,decide_eq_true_iff,decide_eq_true_iff]at this
 exact⟨h1,λc hc=>by have:=(h4 c hc).1;omega,λc hc=>(h4 c hc).2,h2⟩
abbrev Zp:Dr:=[(3,[0,1,2,3,4,5,6,7,8,9],[10,11])]
open Go.Proofs Go.RowKit
set_option maxRecDepth 20000
set_option maxHeartbeats 4000000
theorem vR {x:BR}{n m:Nat}(hm:m<=n)(hf:BI (sb x.flow) Fw=false)(hc:2<=x.core):CH (Cp x) n m=n/x.core.toNat-(n-m)/x.core.toNat:=by
 refine Yp (by omega) (λk=>?_) m hm;unfold Cp;rw[hf,Bool.false_or]
theorem q8 {x:BR}{n m:Nat}(hf:BI (sb x.flow) Fw=true):CH (Cp x) n m=m:=by
 refine Yq (λk=>?_) m;unfold Cp;rw[hf,Bool.true_or]
theorem aM (x:BR)(n m:Nat)(hm:m<=n)(hn:n<=1000000000)(hf:Io x):AK C0 60 [x.D,i64 (n:Int),i64 (m:Int)] (i64 ((CH (Cp x) n m:Nat):Int)):=by
 refine AZ.walk w1 gD rfl λF=>?_
 have ho:=@vR x n m hm;have ho':=@q8 x n m;unfold Io at hf;obtain⟨A,hA⟩:∃A,CH (Cp x) n m=A:=⟨_,rfl⟩
 rw[hA]at ho ho'⊢;unfold Fw at ho ho' hf;unfold BR.D;cases hq:BI (sb x.flow) ⟨#[109,97,115,115]⟩
 rotate_left
 ·rw[ho' hq]
  refine AF Zp (Ar hq kT kF) AB AB AB AB AB AB ?_;exact AJ rfl AA.out
 obtain⟨h2,h3⟩:2<=x.core/\x.core<=999999999:=by
  rcases hf with h|h
  ·rw[hq]at h;cases h
  ·exact h
 have ho:=ho hq h2;obtain⟨c,hc⟩:∃c:Nat,x.core=(c:Int):=⟨x.core.toNat,by omega⟩
 rw[hc]at h2 h3 ho⊢;rw[Mo]at ho;have q0:((c:Int)==0)=false:=Br.2 (by omega);have e2:IntKind.i64.wrap ((n:Int)-(m:Int))=((n-m:Nat):Int):=by rw[wI];omega
 have l1:n/c<=n:=GJ _ _;have l2:(n-m)/c<=n-m:=GJ _ _;have l3:(n-m)/c<=n/c:=Nat.div_le_div_right (by omega);have q1:((n:Int)).tdiv (c:Int)=((n/c:Nat):Int):=rfl;have q2:(((n-m:Nat):Int)).tdiv (c:Int)=(((n-m)/c:Nat):Int):=rfl;obtain⟨D1,hD1⟩:∃q,n/c=q:=⟨_,rfl⟩
 obtain⟨D2,hD2⟩:∃q,(n-m)/c=q:=⟨_,rfl⟩
 rw[hD1]at l1 l3 q1 ho;rw[hD2]at l2 l3 q2 ho;clear hD1 hD2;have q3:IntKind.i64.wrap ((D1:Nat):Int)=(D1:Int):=wI;have q4:IntKind.i64.wrap ((D2:Nat):Int)=(D2:Int):=wI;have q5:IntKind.i64.wrap ((D1:Int)-(D2:Int))=(A:Int):=by rw[wI];omega
 refine AF Zp (Ci hq e2 q1 q2 q3 q4 (Ar q5 kT kF)) AB AB AB AB AB AB ?_;exact AJ rfl AA.out
theorem DO.cloN {H:Hp}{fn:Fn}{cs cs':List D}(hl:cs'.length=cs.length)(h:∀(i:Nat) (a b:D),cs[i]?=some a->cs'[i]?=some b->DO H a b):DO H (.clo fn [] cs) (.clo fn [] cs'):=λC F ρ w m hO hN v hv=>by
 cases hv with
 |clo hf hc h1 h2=>
  refine .clo hf (by rw[hl];exact hc) (λi d hd=>by simp at hd) λi d hd=>?_
  have hi:i<cs.length:=by rw[<-hl];exact(BQ.1 hd).1
  exact h i _ _ (Bo hi) hd C F ρ w m hO hN _ (h2 i _ (Bo hi))
theorem rF1 (b:Bool)(L:List (Int×Int))(n low hi:Int)(hL:L≠[])(hl:L.length<=1000000)(hb:0<=n/\n<=1000000000/\0<=(HJ L).2/\(HJ L).2<=1000000000):AK C0 40 [i64 n,i64 low,i64 hi,.sl b 2 (L.map C8)] (Ai (PI L n low hi)):=by
 refine AZ.walk w1 fg rfl λF=>?_
 have el:(((L.map C8).length:Nat):Int)=(L.length:Int):=by rw[Ag]
 have hpos:0<L.length:=List.length_pos_iff.2 hL;have hm0:(L.map C8)[0]?=some (.agg [i64 (LY L).1,i64 (LY L).2]):=by
  rw[A8];unfold LY;rw[Do,Bo hpos];rfl
 have hm1:(L.map C8)[L.length-1]?=some (.agg [i64 (HJ L).1,i64 (HJ L).2]):=by
  rw[A8];unfold HJ;rw[Do,Cf];rfl
 have wl:IntKind.i64.wrap ((L.length:Int)-1)=((L.length-1:Nat):Int):=(wI).trans (by omega);have wn:IntKind.i64.wrap (n-(HJ L).2)=n-(HJ L).2:=wI;unfold PI;obtain⟨f1,f2,hf⟩:∃a c,LY L=(a,c):=⟨_,_,rfl⟩
 obtain⟨l1,l2,hls⟩:∃a c,HJ L=(a,c):=⟨_,_,rfl⟩
 rw[hf]at hm0⊢;rw[hls]at hm1 wn⊢;dsimp only at hm0 hm1 wn⊢;obtain⟨N,hN⟩:∃N,L.length=N:=⟨_,rfl⟩
 rw[hN]at el hm1 wl hpos;obtain⟨LD,hLD⟩:∃T,L.map C8=T:=⟨_,rfl⟩
 have pLD:AA (.sl b 2 LD):=by rw[<-hLD];exact AI
 rw[hLD]at el hm0 hm1⊢;have hLDn:LD.length=N:=by omega
 by_cases h:low>=f1
 ·have k1:decide (low>=f1)=true:=Au h
  rw[k1,Bool.true_or];refine AF AU (CI k1 el wl wn kN) hm0 hm1 AB AB AB AB ?_;exact AJ rfl AA.out
 ·have k1:decide (low>=f1)=false:=Av h
  rw[k1,Bool.false_or];refine AF AU (CI k1 el wl wn kN) hm0 hm1 AB AB AB AB ?_;exact AJ rfl AA.out
theorem zg (n low hi:Int)(s:Int×Int)(hb:0<=n/\n<=1000000000/\0<=low/\low<=1000000000/\0<=hi/\hi<=1000000000):AK C0 43 [C8 s,.pptr (i64 low),.pptr (i64 n),.pptr (i64 hi)] (Ai (MX n low hi s)):=by
 refine AZ.walk w1 fo rfl λF=>?_
 have w1':IntKind.i64.wrap (low+1)=low+1:=wI;have w2':IntKind.i64.wrap (n-hi)=n-hi:=wI;unfold C8 MX;refine AF AU (Ab w1' w2') AB AB AB AB AB AB ?_;exact AJ rfl AA.out
theorem yq (b:Bool)(l:List (Int×Int))(c1 c2 c3:D)[p1:AA c1][p2:AA c2][p3:AA c3](p:Int×Int->Bool)(hl:l.length<=1000000)(hc:∀x∈l,AK C0 43 [C8 x,c1,c2,c3] (Ai (p x))):AK C0 89 [.sl b 2 (l.map C8),.clo (.func 43) [] [c1,c2,c3]] (i64 (Ji p l)):=by
 refine AZ.walk w1 ge rfl λF=>?_
 have el:(((l.map C8).length:Nat):Int)=(l.length:Int):=by rw[Ag]
 refine AF AU el AB AB AB AB AB AB ?_;refine AC.loop (α:=Nat×Nat) (λp=>⟨[(0,.sl b 2 (l.map C8)),(1,.clo (.func 43) [] [c1,c2,c3]),(7,i64 l.length),(8,i64 (p.1:Int))],[],p.2⟩) (λp=>l.length-p.1) (λq=>q.1<=l.length/\∀(j:Nat) (x:Int×Int),j<q.1->l[j]?=some x->p x=false) (0,_) ⟨BU _,λj x hj=>Af hj (FN j)⟩ AL ?_;rintro⟨i,n⟩ F ⟨hi,ha⟩;dsimp only at hi ha⊢;rcases BA i l.length with h2|h2
 rotate_left
 ·have e1:=Cb h2
  have:i=l.length:=by omega
  subst this;refine AF AU e1 AB AB AB AB AB AB ?_;exact AJ (by rw[Qx ha]) AA.out
 have e1:=CZ h2;have wi:=Cc (i:=i) (by omega);obtain⟨x,hx⟩:=CU h2;have hm:(l.map C8)[i]?=some (.agg [i64 x.1,i64 x.2]):=by rw[A8,hx];rfl
 have cn:=hc x (Ay hx);unfold C8 at cn;cases hb:p x
 ·rw[hb]at cn
  refine AF AU (Ar e1 wi kN) hm cn AB AB AB AB ?_;refine⟨(i+1,_),⟨h2,λj z hj hjz=>?_⟩,by dsimp only;omega,AL⟩;rcases BA j i with h|h
  ·exact ha j z h hjz
  ·have:j=i:=by dsimp only at hj;omega
   subst this;rw[hx]at hjz;cases hjz;exact hb
 ·rw[hb]at cn
  refine AF AU (Ar e1 wi kN) hm cn AB AB AB AB ?_;exact AJ (by rw[Ri hx hb ha]) AA.out
theorem yG (b:Bool)(l:List (Int×Int))(c1 c2 c3:D)[p1:AA c1][p2:AA c2][p3:AA c3](p:Int×Int->Bool)(hl:l.length<=1000000)(hc:∀x∈l,AK C0 43 [C8 x,c1,c2,c3] (Ai (p x))):AK C0 42 [.sl b 2 (l.map C8),.clo (.func 43) [] [c1,c2,c3]] (Ai (l.any p)):=by
 refine AZ.walk w1 fj rfl λF=>?_
 have c1':=yq b l c1 c2 c3 p hl hc;have e1:=Rj p l;refine AF AU e1 c1' AB AB AB AB AB ?_;exact AJ rfl AA.out
theorem rL1 (b:Bool)(L:List (Int×Int))(n low hi:Int)(hl:L.length<=1000000)(hb:0<=n/\n<=1000000000/\0<=low/\low<=1000000000/\0<=hi/\hi<=1000000000):AK C0 41 [i64 n,i64 low,i64 hi,.sl b 2 (L.map C8)] (Ai (PY L n low hi)):=by
 refine AZ.walk w1 fh rfl λF=>?_
 have cH:=yG b L (.pptr (i64 low)) (.pptr (i64 n)) (.pptr (i64 hi)) (MX n low hi) hl λs _=>zg n low hi s hb
 unfold PY;obtain⟨K,hK⟩:∃K,L.any (MX n low hi)=K:=⟨_,rfl⟩
 rw[hK]at cH⊢;obtain⟨LD,hLD⟩:∃T,L.map C8=T:=⟨_,rfl⟩
 have pLD:AA (.sl b 2 LD):=by rw[<-hLD];exact AI
 rw[hLD]at cH⊢;refine AF AU kB AB AB AB AB AB AB ?_;refine A7.own _ (Jk cH rfl (λi a d h1 h2=>by
  match i with
  | 0=>cases h1;cases h2;exact .refl _ _
  | 1=>
   cases h1;cases h2;refine .cloN rfl λi a b h1 h2=>?_
   match i with
   | 0=>cases h1;cases h2;exact .ptr rfl rfl rfl rfl
   | 1=>cases h1;cases h2;exact .ptr rfl rfl rfl rfl
   | 2=>cases h1;cases h2;exact .ptr rfl rfl rfl rfl
   |i+3=>cases h1
  |n+2=>cases h1) AI (.prim _)) ?_
 rintro d H' n' ⟨rfl,rfl,rfl⟩;refine AF AU kB AB AB AB AB AB AB ?_;exact AJ rfl AA.out
theorem zh (x:BR)(b:Bool)(LD:List D)(n m:Nat)(t:Bool)[pLD:AA (.sl b 2 LD)](hm:m<=n)(hn:n<=1000000000)(hf:Io x)(hc:AK C0 40 [i64 (n:Int),i64 ((CH (Cp x) n m:Nat):Int),i64 ((m-CH (Cp x) n m:Nat):Int),.sl b 2 LD] (Ai t)):
  AK C0 88 [i64 (m:Int),.pptr x.D,.pptr (i64 (n:Int)),.pptr (.clo (.func 40) [] []),.pptr (.sl b 2 LD)] (Ai t):=by
 refine AZ.walk w1 V4 rfl λF=>?_
 have cL:=aM x n m hm hn hf;have hle:=Hi (Cp x) n m;obtain⟨w,hw⟩:∃w,CH (Cp x) n m=w:=⟨_,rfl⟩
 rw[hw]at cL hc hle;have ws:IntKind.i64.wrap ((m:Int)-(w:Int))=((m-w:Nat):Int):=(wI).trans (by omega);have hx:∃a b c d e,x.D=.agg [a,b,c,d,e]:=⟨_,_,_,_,_,rfl⟩
 have px:AA x.D:=AI;have px2:AO x.D:=AI;obtain⟨a1,a2,a3,a4,a5,hx⟩:=hx;rw[hx]at cL px px2⊢;refine AF AU ws cL hc AB AB AB AB ?_;exact AJ rfl AA.out
theorem zi (x:BR)(b:Bool)(LD:List D)(n m:Nat)(t:Bool)[pLD:AA (.sl b 2 LD)](hm:m<=n)(hn:n<=1000000000)(hf:Io x)(hc:AK C0 41 [i64 (n:Int),i64 ((CH (Cp x) n m:Nat):Int),i64 ((m-CH (Cp x) n m:Nat):Int),.sl b 2 LD] (Ai t)):
  AK C0 88 [i64 (m:Int),.pptr x.D,.pptr (i64 (n:Int)),.pptr (.clo (.func 41) [] []),.pptr (.sl b 2 LD)] (Ai t):=by
 refine AZ.walk w1 V4 rfl λF=>?_
 have cL:=aM x n m hm hn hf;have hle:=Hi (Cp x) n m;obtain⟨w,hw⟩:∃w,CH (Cp x) n m=w:=⟨_,rfl⟩
 rw[hw]at cL hc hle;have ws:IntKind.i64.wrap ((m:Int)-(w:Int))=((m-w:Nat):Int):=(wI).trans (by omega);have hx:∃a b c d e,x.D=.agg [a,b,c,d,e]:=⟨_,_,_,_,_,rfl⟩
 have px:AA x.D:=AI;have px2:AO x.D:=AI;obtain⟨a1,a2,a3,a4,a5,hx⟩:=hx;rw[hx]at cL px px2⊢;refine AF AU ws cL hc AB AB AB AB ?_;exact AJ rfl AA.out
theorem aK (c1 c2 c3 c4:D)[p1:AA c1][p2:AA c2][p3:AA c3][p4:AA c4](n r:Nat)(hn:n<=1000000000)(hr:r<=n)(hc:∀m:Nat,m<n->AK C0 88 [i64 (m:Int),c1,c2,c3,c4] (Ai (decide (r<=m)))):
  AK C0 87 [i64 (n:Int),.clo (.func 88) [] [c1,c2,c3,c4]] (i64 (r:Int)):=by
 refine AZ.walk w1 g9 rfl λF=>?_
 refine AF AU kB AB AB AB AB AB AB ?_;refine AC.loop (α:=Nat×Nat×Nat) (λp=>⟨[(1,.clo (.func 88) [] [c1,c2,c3,c4]),(5,i64 (p.1:Int)),(6,i64 (p.2.1:Int))],[],p.2.2⟩) (λp=>p.2.1-p.1) (λq=>q.1<=r/\r<=q.2.1/\q.2.1<=n) (0,n,_) ⟨BU _,hr,Al _⟩ AL ?_;rintro⟨i,j,N⟩ F ⟨hi,hj,hjn⟩;dsimp only at hi hj hjn⊢;rcases BA i j with h2|h2
 rotate_left
 ·have e1:=Cb h2
  have:i=r:=by omega
  subst this;refine AF AU e1 AB AB AB AB AB AB ?_;exact AJ rfl AA.out
 have e1:=CZ h2;have q1:IntKind.i64.wrap ((i:Int)+(j:Int))=((i+j:Nat):Int):=(wI).trans (by omega);have q2:IntKind.u64.wrap ((i+j:Nat):Int)=((i+j:Nat):Int):=TS (by unfold BB;omega);have q3:LX .u64 ((i+j:Nat):Int) 1=(((i+j)/2:Nat):Int):=MT (i+j) 1 (by decide);have q4:IntKind.i64.wrap (((i+j)/2:Nat):Int)=(((i+j)/2:Nat):Int):=wI;obtain⟨h,hh⟩:∃h,(i+j)/2=h:=⟨_,rfl⟩
 rw[hh]at q3 q4;have cm:=hc h (by omega);have wh:=Cc (i:=h) (by omega)
 by_cases hrh:r<=h
 ·rw[Au hrh]at cm
  refine AF AU (Ci e1 q1 q2 q3 q4 wh (Ab kT kF)) cm AB AB AB AB AB ?_;exact⟨(i,h,_),⟨hi,hrh,by dsimp only;omega⟩,by dsimp only;omega,AL⟩
 ·rw[Av hrh]at cm
  refine AF AU (Ci e1 q1 q2 q3 q4 wh (Ab kT kF)) cm AB AB AB AB AB ?_;exact⟨(h+1,j,_),⟨by dsimp only;omega,hj,hjn⟩,by dsimp only;omega,AL⟩
def DN (k:List UInt8):BW->Option Rat
 | []=>none
 |p::l=>if p.1=k then some p.2 else DN k l
def It (ts Q:BW):BW:=ts.foldl (λacc t=>DG t.1 t.2 acc) Q
def Jf (l:List AE):BW:=l.flatMap λx=>x.shs.map λs=>(s.lot,Bd s.part*(x.mass:Rat))
theorem lJ (a b Q:BW):It (a++b) Q=It b (It a Q):=List.foldl_append
theorem mA (x:AE)(q:BW):HI x x.shs.length q=It (x.shs.map λs=>(s.lot,Bd s.part*(x.mass:Rat))) q:=by
 unfold HI It;rw[C6,List.foldl_map]
theorem Tn (l:List AE):DS l=It (Jf l) []:=by
 have:∀(l:List AE) (q:BW),l.foldl (λacc x=>HI x x.shs.length acc) q=It (Jf l) q:=λl=>by
  induction l with
  |nil=>intro q;rfl
  |cons x l ih=>
   intro q;rw[List.foldl_cons,ih,mA,<-lJ];rfl
 exact this l []
theorem Ua {k:List UInt8}:∀ {Q:BW},k∉Cu Q->DN k Q=none
 | [],_=>rfl
 |p::l,h=>by
  unfold DN;rw[AG (λe=>h (by rw[<-e];exact CO ..))];exact Ua λq=>h (CT _ q)
theorem gH {a b:List UInt8}(h:ltStr a b=true):a≠b:=λe=>by rw[e,swo_ltStr.irrefl]at h;cases h
theorem Ym {a:List UInt8}{r:Rat}{k:List UInt8}:∀ {Q:BW},GQ Q->DN k (DG a r Q)=if a=k then some ((DN a Q).getD 0+r)else DN k Q
 | [],_=>by
  unfold DG DN
  by_cases h:a=k
  ·rw[AH h,AH h]
   show some r=some (0+r);rw[Rat.zero_add]
  ·rw[AG h,AG h];rfl
 |p::l,hs=>by
  have hp:=Da.1 hs;unfold DG
  by_cases h1:ltStr p.1 a=true
  ·rw[AH h1]
   have hpa:p.1≠a:=gH h1;have e1:DN a (p::l)=DN a l:=by
    show(if p.1=a then some p.2 else DN a l)=_;rw[AG hpa]
   show(if p.1=k then some p.2 else DN k (DG a r l))=_;rw[Ym hp.2,e1]
   by_cases h2:a=k
   ·rw[AH h2,AH h2,AG (λe=>hpa (e.trans h2.symm))]
   ·rw[AG h2,AG h2];rfl
  ·rw[AG h1]
   by_cases h2:p.1=a
   ·rw[AH h2]
    show(if p.1=k then some (p.2+r)else DN k l)=if a=k then some ((if p.1=a then some p.2 else DN a l).getD 0+r)else if p.1=k then some p.2 else DN k l
    rw[AH h2,h2]
    by_cases h3:a=k
    ·rw[AH h3,AH h3];rfl
    ·rw[AG h3,AG h3,AG h3]
   ·rw[AG h2]
    have h3:ltStr a p.1=true:=by
     cases h9:ltStr a p.1 with
     |true=>rfl
     |false=>exact Af (Qe (by simpa using h1) h9) h2
    have hn:a∉Cu (p::l):=λq=>by
     rcases Az.1 q with q|q
     ·exact h2 q.symm
     ·obtain⟨z,hz,e⟩:=By.1 q
      have:=swo_ltStr.trans _ _ _ h3 (hp.1 z hz)
      rw[e,swo_ltStr.irrefl]at this;cases this
    rw[Ua hn];show(if a=k then some r else DN k (p::l))=_
    by_cases h4:a=k
    ·rw[AH h4,AH h4]
     show some r=some (0+r);rw[Rat.zero_add]
    ·rw[AG h4,AG h4]
def DM (k:List UInt8):BW->Rat
 | []=>0
 |t::ts=>if t.1=k then t.2+DM k ts else DM k ts
def GZ (k:List UInt8)(ts:BW):Bool:=ts.any λt=>decide (t.1=k)
theorem YD {k:List UInt8}:∀ {ts Q:BW},GQ Q->DN k (It ts Q)=if GZ k ts=true then some ((DN k Q).getD 0+DM k ts)else DN k Q
 | [],Q,_=>rfl
 |t::ts,Q,h=>by
  show DN k (It ts (DG t.1 t.2 Q))=_;rw[YD (Ux h),Ym h];show _=if(decide (t.1=k)||GZ k ts)=true then some ((DN k Q).getD 0+if t.1=k then t.2+DM k ts else DM k ts)else DN k Q
  by_cases h1:t.1=k
  ·rw[AH h1,AH h1,Au h1,Bool.true_or,AH rfl,h1]
   by_cases h2:GZ k ts=true
   ·rw[AH h2]
    show some ((DN k Q).getD 0+t.2+DM k ts)=_;rw[Rat.add_assoc]
   ·rw[AG h2]
    have:DM k ts=0:=by
     have:∀ts:BW,¬GZ k ts=true->DM k ts=0:=λts=>by
      induction ts with
      |nil=>intro _;rfl
      |cons a ts ih=>
       intro hq;unfold GZ at hq;rw[List.any_cons,JC,not_or,decide_eq_true_iff]at hq;unfold DM;rw[AG hq.1];exact ih hq.2
     exact this ts h2
    rw[this,Rat.add_zero]
  ·rw[AG h1,AG h1,Av h1,Bool.false_or]
def Mw (k:List UInt8)(x:AE):Rat:=DM k (x.shs.map λs=>(s.lot,Bd s.part))
def Lq (k:List UInt8):List AE->Rat
 | []=>0
 |x::l=>Mw k x*(x.mass:Rat)+Lq k l
def La (k:List UInt8)(x:AE):Bool:=x.shs.any λs=>decide (s.lot=k)
def Sj (k:List UInt8)(l:List AE):Bool:=l.any (La k)
theorem ZP (k:List UInt8):∀a b:BW,DM k (a++b)=DM k a+DM k b
 | [],b=>by rw[GK];show _=0+_;rw[Rat.zero_add]
 |t::a,b=>by
  show(if t.1=k then t.2+DM k (a++b)else DM k (a++b))=(if t.1=k then t.2+DM k a else DM k a)+DM k b;rw[ZP k a b];split
  ·rw[Rat.add_assoc]
  ·rfl
theorem nP (k:List UInt8)(a b:BW):GZ k (a++b)=(GZ k a||GZ k b):=List.any_append
theorem ZQ (k:List UInt8)(m:Rat):∀l:List A0,DM k (l.map λs=>(s.lot,Bd s.part*m))=DM k (l.map λs=>(s.lot,Bd s.part))*m
 | []=>by show(0:Rat)=0*m;rw[Rat.zero_mul]
 |s::l=>by
  show(if s.lot=k then Bd s.part*m+DM k (l.map λs=>(s.lot,Bd s.part*m))else DM k (l.map λs=>(s.lot,Bd s.part*m)))=(if s.lot=k then Bd s.part+DM k (l.map λs=>(s.lot,Bd s.part))else DM k (l.map λs=>(s.lot,Bd s.part)))*m;rw[ZQ k m l];split
  ·rw[Rat.add_mul]
  ·rfl
theorem ZR (k:List UInt8):∀l:List AE,DM k (Jf l)=Lq k l
 | []=>rfl
 |x::l=>by
  show DM k ((x.shs.map λs=>(s.lot,Bd s.part*(x.mass:Rat)))++Jf l)=_;rw[ZP,ZQ,ZR k l];rfl
theorem Yh (k:List UInt8):∀l:List AE,GZ k (Jf l)=Sj k l
 | []=>rfl
 |x::l=>by
  show GZ k ((x.shs.map λs=>(s.lot,Bd s.part*(x.mass:Rat)))++Jf l)=(La k x||Sj k l);rw[nP,Yh k l]
  congr 1
  unfold GZ La;rw[List.any_map];rfl
theorem YE (k:List UInt8)(l:List AE):DN k (DS l)=if Sj k l=true then some (Lq k l)else none:=by
 rw[Tn,YD List.Pairwise.nil,Yh,ZR];split
 ·show some ((0:Rat)+_)=_
  rw[Rat.zero_add]
 ·rfl
theorem js {l:List AE}(h:∀x∈l,0<=x.mass){y:AE}(hy:y∈l):y.mass<=As l:=by
 obtain⟨A,B,rfl⟩:=Ea hy;rw[oc,show As (y::B)=y.mass+As B from rfl];have p1:=Ra (l:=A) λz hz=>h z (Ke _ hz)
 have p2:=Ra (l:=B) λz hz=>h z (List.mem_append_right _ (CT _ hz))
 omega
theorem sM {x:BR}(h:Cn x=0):H3 x=0/\IR x.side (FA x)=false:=by
 unfold Cn at h
 by_cases h1:H3 x=0
 ·rw[AG (λq=>q h1)]at h
  by_cases h2:FH x x.cells=0
  ·rw[AG (λq=>q h2)]at h
   refine⟨h1,?_⟩;cases hb:IR x.side (FA x)
   ·rfl
   ·rw[hb]at h;cases h
  ·rw[AH h2]at h;exact Af h h2
 ·rw[AH h1]at h;exact Af h h1
theorem Uu {x:BR}(h:Cn x=0):Io x:=by
 have h1:=(sM h).1;rw[VR]at h1;split at h1
 ·cases h1
 rename_i hf;split at h1
 ·cases h1
 rename_i hr;unfold LU at hr;unfold Io;cases hm:BI (sb x.flow) Fw
 ·rw[hm]at hf hr
  cases hu:BI (sb x.flow) JV
  ·rw[hu]at hf;exact Af rfl hf
  ·rw[hu]at hr
   simp only[Hx,Gc,Bool.false_or,JC,G4,not_or]at hr;exact .inr (by omega)
 ·exact .inl rfl
theorem yx {x:BR}(h:Pp x=true):LW x=true/\(Cn x=0->fF x 60):=by
 unfold Pp at h;rw[Ba,JC,decide_eq_true_iff]at h;obtain⟨h1,h2⟩:=h;refine⟨h1,λh0=>?_⟩;rcases h2 with h2|h2
 ·exact Af h0 h2
 ·exact sA h2
theorem Yx {R:A0->A0->Prop}(ht:∀a b c,R a b->R b c->R a c):∀ {l:List A0},(∀i,i+1<l.length->R (Ds l i) (Ds l (i+1)))->l.Pairwise R
 | [],_=>List.Pairwise.nil
 | [a],_=>List.pairwise_singleton _ _
 |a::b::l,h=>by
  have h1:(b::l).Pairwise R:=Yx ht λi hi=>h (i+1) (by simp at hi⊢;omega)
  have hab:R a b:=h 0 (by simp);refine Da.2 ⟨λc hc=>?_,h1⟩;rcases Az.1 hc with rfl|hc
  ·exact hab
  ·exact ht a b c hab ((Da.1 h1).1 c hc)
theorem dQ {l:List A0}(h:Gn l=0):(l.Pairwise λs t=>ltStr s.lot t.lot=true)/\∀s∈l,Cj s.part=0/\0<Bd s.part:=by
 unfold Gn at h;split at h
 ·cases h
 split at h
 ·cases h
 split at h
 ·rename_i q;exact Af h q
 rename_i h0;have hall:=Om (Classical.not_not.1 h0);have hat:∀i,i<l.length->Cj (Ds l i).part=0/\0<Bd (Ds l i).part/\(0<i->LG (Ds l i).lot (Ds l (i-1)).lot=false):=λi hi=>by
  have:=hall i hi
  unfold Fo at this;split at this
  ·cases this
  split at this
  ·cases this
  rename_i ho;split at this
  ·rename_i q;exact Af this q
  rename_i hc;split at this
  ·cases this
  rename_i hs;refine⟨Classical.not_not.1 hc,?_,λh0=>?_⟩
  ·unfold GH at hs
   apply DB;intro hn;have h9:=Rat.num_nonneg.2 (show 0≤-(Bd (Ds l i).part) by grind);rw[Rat.neg_num]at h9;exact hs (by omega)
  ·cases hb:LG (Ds l i).lot (Ds l (i-1)).lot
   ·rfl
   ·exact Af ⟨h0,hb⟩ ho
 refine⟨Yx (R:=λs t=>ltStr s.lot t.lot=true) (λa b c=>swo_ltStr.trans a.lot b.lot c.lot) λi hi=>?_,λs hs=>?_⟩
 ·have:=(hat (i+1) hi).2.2 (by omega)
  rw[show i+1-1=i by omega]at this;unfold LG at this;rw[I8,ZM,M8,IT]at this;cases h9:ltStr (Ds l i).lot (Ds l (i+1)).lot with
  |true=>rfl
  |false=>exact Af (Qe this.1 h9) this.2
 ·obtain⟨i,hi,e⟩:=Mm hs
  have:=hat i hi
  have e2:Ds l i=s:=by
   unfold Ds;rw[Do,Bo hi,e];rfl
  rw[e2]at this;exact⟨this.1,this.2.1⟩
theorem U2 {x:AE}(h:Ce x=0):Gn x.shs=0:=by
 unfold Ce at h;split at h
 ·cases h
 split at h
 ·cases h
 exact h
theorem eJ {k:List UInt8}:∀ {l:List A0},(l.Pairwise λs t=>ltStr s.lot t.lot=true)->(∀s∈l,nb (Bd s.part) DC DC)->nb (DM k (l.map λs=>(s.lot,Bd s.part))) DC DC
 | [],_,_=>aI.mono (BU _) (by decide)
 |s::l,h,hb=>by
  have hp:=Da.1 h;show nb (if s.lot=k then Bd s.part+DM k (l.map λs=>(s.lot,Bd s.part))else DM k (l.map λs=>(s.lot,Bd s.part))) DC DC
  by_cases hk:s.lot=k
  ·rw[AH hk]
   have:∀L:List A0,(∀t∈L,t.lot≠k)->DM k (L.map λs=>(s.lot,Bd s.part))=0:=λL=>by
    induction L with
    |nil=>intro _;rfl
    |cons t L ih=>
     intro hq;show(if t.lot=k then _ else _)=_;rw[AG (hq t (CO ..))];exact ih λu hu=>hq u (CT _ hu)
   rw[this l λt ht e=>gH (hp.1 t ht) (hk.trans e.symm),Rat.add_zero];exact hb s (CO ..)
  ·rw[AG hk]
   exact eJ hp.2 λt ht=>hb t (CT _ ht)
theorem nh {S t:Rat}{i Q:Nat}(hS:nb S (i*Q*DC^i) (DC^i))(ht:nb t Q DC):nb (S+t) ((i+1)*Q*DC^(i+1)) (DC^(i+1)):=by
 refine(vU hS ht).mono ?_ (Nat.le_of_eq (CQ ..).symm);rw[CQ,Bv,Bv,JD,Bx (i*Q)];refine Nat.add_le_add_left ?_ _;refine Cr _ ?_;exact Nat.le_mul_of_pos_right _ (by decide)
def Kp:Nat:=DC*1000000000
theorem gm {k:List UInt8}:∀ {l:List AE},(∀x∈l,nb (Mw k x) DC DC/\0<=x.mass/\x.mass<=1000000000)->nb (Lq k l) (l.length*Kp*DC^l.length) (DC^l.length)
 | [],_=>aI.mono (BU _) (by decide)
 |x::l,h=>by
  have hx:=h x (CO ..);have ih:=gm (k:=k) (l:=l) λy hy=>h y (CT _ hy)
  show nb (Mw k x*(x.mass:Rat)+Lq k l) _ _;rw[Rat.add_comm];exact nh ih ((vX hx.1 (vW x.mass (n:=1000000000) (by omega))).mono (Al _) (by rw[EO];exact Al _))
theorem wG {r:Rat}{n:Nat}(hn:n<=12)(h:nb r (n*Kp*DC^n) (DC^n)):DF r=false:=by
 have h1:DC^n<=DC^12:=FO (by decide) hn;have h2:n*Kp*DC^n<=12*Kp*DC^12:=F9 (CP _ hn) h1;have h3:12*Kp*DC^12<Sf:=by decide
 have h4:DC^12<Sf:=by decide
 exact vV h (DH h2 h3) (DH h1 h4)
theorem VL {k:List UInt8}{v:Rat}:∀ {Q:BW},GQ Q->(k,v)∈Q->DN k Q=some v
 | [],_,h=>by cases h
 |p::l,hs,h=>by
  have hp:=Da.1 hs;unfold DN;rcases Az.1 h with rfl|h
  ·rw[AH rfl]
  ·rw[AG (λe=>by
    have:=hp.1 _ h
    rw[e,swo_ltStr.irrefl]at this;cases this)]
   exact VL hp.2 h
theorem Yn {l:List AE}(hp:CG l=0)(hn:l.length<=12)(hl:∀y∈l,y.lite):No l=0/\Np l=DS l/\∀p∈DS l,DF p.2=false/\nb p.2 (12*Kp*DC^12) (DC^12):=by
 have hpn:=IB hp;have hlay:=(Is hp).2.1;have hall:∀p∈DS l,DF p.2=false/\nb p.2 (12*Kp*DC^12) (DC^12):=λp h=>by
  have h1:=VL (UJ l) h;rw[YE]at h1;split at h1
  ·have hv:Lq p.1 l=p.2:=F8 h1
   have hb:=gm (k:=p.1) (l:=l) λx hx=>by
    have hs:=dQ (U2 (hlay x hx));exact⟨eJ hs.1 λs hs2=>aH (hs.2 s hs2).1 ((hl x hx).2 s hs2).2,by have:=(hpn.2.1 x hx).1;omega,(hpn.2.1 x hx).2.1⟩
   rw[hv]at hb;have h1:DC^l.length<=DC^12:=FO (by decide) hn;exact⟨wG hn hb,hb.mono (F9 (CP _ hn) h1) h1⟩
  ·cases h1
 have hperm:(DS l).Perm (CJ l):=by
  obtain⟨_,h2⟩:=Oo l l.length (Al _)
  rwa [C6]at h2
 have hany:(CJ l).any (λp=>DF p.2)=false:=by
  rw[List.any_eq_false];intro p h;rw[(hall p (hperm.mem_iff.2 h)).1];exact Bool.false_ne_true
 refine⟨?_,?_,hall⟩
 ·unfold No II
  rw[AG (λq=>q hp),hany];rfl
 ·unfold Np Jd
  rw[AG (λq=>q hp),hany,AG (by decide),UI]
theorem VA {x:BR}{k:Nat}(hk:k<x.cells.length):x.cells[k]?=some (BP x (k:Int)):=by
 unfold BP;rw[Mo,Do,Bo hk];rfl
theorem Tu:∀ {ts Q:BW},(It ts Q).length<=Q.length+ts.length
 | [],Q=>Al _
 |t::ts,Q=>by
  have h1:=Tu (ts:=ts) (Q:=DG t.1 t.2 Q);have h2:=UX (lot:=t.1) (r:=t.2) (l:=Q);show(It ts (DG t.1 t.2 Q)).length<=_;rw[Bq];omega
theorem zk {r:Rat}(h:nb r (12*Kp*DC^12) (DC^12)):rk r 60:=gM h (by decide) (by decide)
theorem UP:∀ {l:List AE},(∀x∈l,x.shs.length<=64)->(Jf l).length<=l.length*64
 | [],_=>Al _
 |x::l,h=>by
  have h1:=UP (l:=l) λy hy=>h y (CT _ hy)
  have h2:=h x (CO ..);show((x.shs.map _)++Jf l).length<=_;rw[Bp,Ag,Bq];omega
structure WF (l:List AE):Prop where
 par:CG l=0
 len:l.length<=12
 lite:∀y∈l,y.lite
theorem li {l:List AE}(h:WF l):(DS l).length<=1000:=by
 rw[Tn];have h1:=Tu (ts:=Jf l) (Q:=[]);have h2:=UP (l:=l) λx hx=>(Qv (U2 ((Is h.par).2.1 x hx))).2.1
 have:=h.len
 simp at h1;omega
instance  (f:Nat):AO (.clo (.func f) [] []):=⟨λc hc=>by
 have h:c=.clo (.func f) [] []:=by simpa[D.cells]using hc
 rw[h];exact(AI:AA (.clo (.func f) [] [])).out⟩
def Ey (x:BR)(i:Int)(lot:List UInt8):Int:=D3 [Ex x [i],if(!B4 lot)=true then 8 else 0]
def HX (x:BR)(i:Int)(lot:List UInt8):Int:=if Ey x i lot≠0 then Ey x i lot else if CX lot (BP x i) 0=[]then 7 else 0
def HY (x:BR)(i:Int)(lot:List UInt8):Nat×Nat:=Dz (El (Cp x) lot (BP x i)) (BM (BP x i)).length
def QI (x:BR)(i:Int)(lot:List UInt8):Int:=if HX x i lot≠0 then 0 else((HY x i lot).1:Int)
def QJ (x:BR)(i:Int)(lot:List UInt8):Int:=if HX x i lot≠0 then 0 else((HY x i lot).2:Int)
theorem Ul {x:BR}{i:Int}{lot:List UInt8}(h:Ey x i lot=0):Ex x [i]=0/\B4 lot=true:=by
 have e:Ey x i lot=if Ex x [i]≠0 then Ex x [i]else if(if(!B4 lot)=true then(8:Int)else 0)≠0 then(if(!B4 lot)=true then(8:Int)else 0)else 0:=rfl
 rw[e]at h
 by_cases h1:Ex x [i]=0
 ·refine⟨h1,?_⟩
  rw[AG (λq=>q h1)]at h;cases hn:B4 lot
  ·rw[hn]at h;cases h
  ·rfl
 ·rw[AH h1]at h;exact Af h h1
theorem psF (x:BR)(hl:x.cells.length<=1000000)(hf:∀c∈x.cells,c.length<=1000000/\∀y∈c,y.few)(i:Int)(lot:List UInt8):AK C0 39 [x.D,i64 i,str (sb lot),.clo (.func 40) [] []] (.tup [i64 (QI x i lot),i64 (HX x i lot)]):=by
 refine AZ.walk w1 V0 rfl λF=>?_
 have cC:=gz x hl hf [i] (by simp);have cN:=MF lot;have cW:=Gq (!B4 lot) 8;have cF1:=LA [Ex x [i],if(!B4 lot)=true then 8 else 0] (by simp);rw[show D3 [Ex x [i],if(!B4 lot)=true then 8 else 0]=Ey x i lot from rfl]at cF1;have hE:HX x i lot=if Ey x i lot≠0 then Ey x i lot else if CX lot (BP x i) 0=[]then 7 else 0:=rfl
 have hR:QI x i lot=if HX x i lot≠0 then 0 else((HY x i lot).1:Int):=rfl
 have h00:=@Ul x i lot;have hx:∃a b c d,x.D=.agg [a,b,c,d,.sl false 1 (x.cells.map (Am false))]:=⟨_,_,_,_,rfl⟩
 have px:AA x.D:=AI;have px2:AO x.D:=AI;obtain⟨a1,a2,a3,a4,hx⟩:=hx;have hS1:=λ(LD:List D) (n m:Nat) (t:Bool) (pLD:AA (.sl false 2 LD)) (hm:m<=n) (hn:n<=1000000000) (hf:Io x) hc=>@zh x false LD n m t pLD hm hn hf hc
 rw[hx]at cC px px2 hS1⊢;have hatX:∀(k:Nat) (c:List AE),x.cells[k]?=some c->(x.cells.map (Am false))[k]?=some (D.sl false 3 (c.map AE.D)):=λk c h=>by rw[A8,h];rfl
 have el:(((x.cells.map (Am false)).length:Nat):Int)=(x.cells.length:Int):=by rw[Ag]
 obtain⟨XD,hXD⟩:∃T,x.cells.map (Am false)=T:=⟨_,rfl⟩
 rw[hXD]at cC px px2 hS1 hatX el⊢
 by_cases h0:Ey x i lot=0
 rotate_left
 ·have k2:(Ey x i lot != 0)=true:=Hg h0
  rw[AH h0]at hE;rw[hE,AH h0]at hR;rw[hR,hE];refine AF AU k2 cC cN cW cF1 AB AB ?_;exact AJ rfl AA.out
 have k2:(Ey x i lot != 0)=false:=by rw[h0];rfl
 rw[AG (λq=>q h0)]at hE;obtain⟨g1,g2⟩:=h00 h0;obtain⟨v1,v2,v3⟩:=R5 g1;obtain⟨k,rfl⟩:∃k:Nat,i=(k:Int):=⟨i.toNat,by omega⟩
 have hkl:k<x.cells.length:=by omega
 have hat:=VA hkl;have hatD:=hatX k _ hat;have hmem:=Ay hat;have hce:=NP (O4 v1 _ hmem);have hpn:=IB hce.1;have hps:=(Is hce.1).2.2;have hpos:∀y∈BP x (k:Int),1<=y.mass:=λy hy=>(hpn.2.1 y hy).1
 have hnn:=PO (l:=BP x (k:Int)) λy hy=>by have:=hpos y hy;omega
 have hfl:=Uu v1;have cSt:=TW false (BP x (k:Int)) lot (by omega) λy hy=>⟨by have:=hpos y hy;omega,(hpn.2.1 y hy).2⟩
 have cT:=R2 false (BP x (k:Int)) hpn.2.2;rw[<-hnn]at cT;unfold Am at cSt cT;have pC:AA (.sl false 3 ((BP x (k:Int)).map AE.D)):=(AI:AA (Am false (BP x (k:Int))))
 have hstr:=PC (lot:=lot) hpos;have hlen:(CX lot (BP x (k:Int)) 0).length<=1000000:=by
  have:∀(c:List AE) (n:Int),(CX lot c n).length<=c.length:=λc=>by
   induction c with
   |nil=>intro n;exact Al _
   |cons y r ih=>
    intro n
    have:=ih (n+y.mass)
    show((if Ev lot y then[(n+1,n+y.mass)]else[])++CX lot r (n+y.mass)).length<=_;rw[Bp,Bq];split
    ·rw[GM];omega
    ·rw[HQ];omega
  have:=this (BP x (k:Int)) 0
  omega
 have hat0:=trivial;have eL:((((CX lot (BP x (k:Int)) 0).map C8).length:Nat):Int)=((CX lot (BP x (k:Int)) 0).length:Int):=by rw[Ag]
 have hN9:(BM (BP x (k:Int))).length<=999999999:=by omega
 have hsrN:HY x (k:Int) lot=Dz (El (Cp x) lot (BP x (k:Int))) (BM (BP x (k:Int))).length:=rfl;have hF1:=λ(m:Nat) (hm:m<=(BM (BP x (k:Int))).length) (hL:CX lot (BP x (k:Int)) 0≠[])=>rF1 false (CX lot (BP x (k:Int)) 0) ((BM (BP x (k:Int))).length:Nat) ((CH (Cp x) (BM (BP x (k:Int))).length m:Nat):Int) ((m-CH (Cp x) (BM (BP x (k:Int))).length m:Nat):Int) hL hlen (by have:=hstr.bnd _ (Zs hstr hL).1;omega)
 obtain⟨CD,hCD⟩:∃T,(BP x (k:Int)).map AE.D=T:=⟨_,rfl⟩
 rw[hCD]at cSt cT pC hatD
 by_cases hL:CX lot (BP x (k:Int)) 0=[]
 ·rw[AH hL]at hE
  rw[hE,AH (by decide)]at hR;rw[hR,hE];have k3:(((CX lot (BP x (k:Int)) 0).length:Int)==0)=true:=by rw[hL];rfl
  refine AF AU (BS k2 eL k3 kN) cC cN cW cF1 hatD cSt ?_;exact AJ rfl AA.out
 have k3:(((CX lot (BP x (k:Int)) 0).length:Int)==0)=false:=by
  have:=List.length_pos_iff.2 hL
  exact Br.2 (by omega)
 rw[AG hL]at hE;rw[hE,AG (λq=>q rfl),hsrN]at hR;rw[hR,hE];have hF1:=λm hm=>hF1 m hm hL
 obtain⟨hr1,hr2⟩:=nN (bot:=Cp x) (lot:=lot) hpos hL;obtain⟨r,hr⟩:∃r,(Dz (El (Cp x) lot (BP x (k:Int))) (BM (BP x (k:Int))).length).1=r:=⟨_,rfl⟩
 rw[hr]at hr1 hr2⊢;obtain⟨LD,hLD⟩:∃T,(CX lot (BP x (k:Int)) 0).map C8=T:=⟨_,rfl⟩
 have pLD:AA (.sl false 2 LD):=by rw[<-hLD];exact AI
 rw[hLD]at cSt eL hF1;obtain⟨N,hN⟩:∃N,(BM (BP x (k:Int))).length=N:=⟨_,rfl⟩
 rw[hN]at hr1 hr2 hN9 hF1 cT;have cSe:=aK (.pptr (.agg [a1,a2,a3,a4,.sl false 1 XD])) (.pptr (i64 (N:Int))) (.pptr (.clo (.func 40) [] [])) (.pptr (.sl false 2 LD)) N r (by omega) hr1 λm hm=>hS1 LD N m _ pLD (by omega) (by omega) hfl (by
  have:=hF1 m (by omega)
  rw[hr2 m (by omega)]at this;exact this)
 refine AF AU (BS k2 eL k3 kN) cC cN cW cF1 hatD cSt ?_;refine AF AU kB cT AB AB AB AB AB ?_;refine A7.own _ (Jk cSe rfl (λi a d h1 h2=>by
  match i with
  | 0=>cases h1;cases h2;exact .refl _ _
  | 1=>
   cases h1;cases h2;refine .cloN rfl λi a b h1 h2=>?_
   match i with
   | 0=>cases h1;cases h2;exact .ptr rfl rfl rfl rfl
   | 1=>cases h1;cases h2;exact .ptr rfl rfl rfl rfl
   | 2=>cases h1;cases h2;exact .ptr rfl rfl rfl rfl
   | 3=>cases h1;cases h2;exact .ptr rfl rfl rfl rfl
   |i+4=>cases h1
  |n+2=>cases h1) AI (.prim _)) ?_
 rintro d H' n' ⟨rfl,rfl,rfl⟩;refine AF AU kB AB AB AB AB AB AB ?_;exact AJ rfl AA.out
theorem wV (x:BR)(hl:x.cells.length<=1000000)(hf:∀c∈x.cells,c.length<=1000000/\∀y∈c,y.few)(i:Int)(lot:List UInt8):AK C0 7 [x.D,i64 i,str (sb lot)] (.tup [i64 (QI x i lot),i64 (HX x i lot)]):=by
 refine AZ.walk w1 iM rfl λF=>?_
 have cS:=psF x hl hf i lot;have hx:∃a b c d e,x.D=.agg [a,b,c,d,e]:=⟨_,_,_,_,_,rfl⟩
 have px:AA x.D:=AI;have px2:AO x.D:=AI;obtain⟨a1,a2,a3,a4,a5,hx⟩:=hx;rw[hx]at cS px px2⊢;refine AF AU kB cS AB AB AB AB AB ?_;exact AJ rfl AA.out
theorem psL (x:BR)(hl:x.cells.length<=1000000)(hf:∀c∈x.cells,c.length<=1000000/\∀y∈c,y.few)(i:Int)(lot:List UInt8):AK C0 39 [x.D,i64 i,str (sb lot),.clo (.func 41) [] []] (.tup [i64 (QJ x i lot),i64 (HX x i lot)]):=by
 refine AZ.walk w1 V0 rfl λF=>?_
 have cC:=gz x hl hf [i] (by simp);have cN:=MF lot;have cW:=Gq (!B4 lot) 8;have cF1:=LA [Ex x [i],if(!B4 lot)=true then 8 else 0] (by simp);rw[show D3 [Ex x [i],if(!B4 lot)=true then 8 else 0]=Ey x i lot from rfl]at cF1;have hE:HX x i lot=if Ey x i lot≠0 then Ey x i lot else if CX lot (BP x i) 0=[]then 7 else 0:=rfl
 have hR:QJ x i lot=if HX x i lot≠0 then 0 else((HY x i lot).2:Int):=rfl
 have h00:=@Ul x i lot;have hx:∃a b c d,x.D=.agg [a,b,c,d,.sl false 1 (x.cells.map (Am false))]:=⟨_,_,_,_,rfl⟩
 have px:AA x.D:=AI;have px2:AO x.D:=AI;obtain⟨a1,a2,a3,a4,hx⟩:=hx;have hS1:=λ(LD:List D) (n m:Nat) (t:Bool) (pLD:AA (.sl false 2 LD)) (hm:m<=n) (hn:n<=1000000000) (hf:Io x) hc=>@zi x false LD n m t pLD hm hn hf hc
 rw[hx]at cC px px2 hS1⊢;have hatX:∀(k:Nat) (c:List AE),x.cells[k]?=some c->(x.cells.map (Am false))[k]?=some (D.sl false 3 (c.map AE.D)):=λk c h=>by rw[A8,h];rfl
 have el:(((x.cells.map (Am false)).length:Nat):Int)=(x.cells.length:Int):=by rw[Ag]
 obtain⟨XD,hXD⟩:∃T,x.cells.map (Am false)=T:=⟨_,rfl⟩
 rw[hXD]at cC px px2 hS1 hatX el⊢
 by_cases h0:Ey x i lot=0
 rotate_left
 ·have k2:(Ey x i lot != 0)=true:=Hg h0
  rw[AH h0]at hE;rw[hE,AH h0]at hR;rw[hR,hE];refine AF AU k2 cC cN cW cF1 AB AB ?_;exact AJ rfl AA.out
 have k2:(Ey x i lot != 0)=false:=by rw[h0];rfl
 rw[AG (λq=>q h0)]at hE;obtain⟨g1,g2⟩:=h00 h0;obtain⟨v1,v2,v3⟩:=R5 g1;obtain⟨k,rfl⟩:∃k:Nat,i=(k:Int):=⟨i.toNat,by omega⟩
 have hkl:k<x.cells.length:=by omega
 have hat:=VA hkl;have hatD:=hatX k _ hat;have hmem:=Ay hat;have hce:=NP (O4 v1 _ hmem);have hpn:=IB hce.1;have hps:=(Is hce.1).2.2;have hpos:∀y∈BP x (k:Int),1<=y.mass:=λy hy=>(hpn.2.1 y hy).1
 have hnn:=PO (l:=BP x (k:Int)) λy hy=>by have:=hpos y hy;omega
 have hfl:=Uu v1;have cSt:=TW false (BP x (k:Int)) lot (by omega) λy hy=>⟨by have:=hpos y hy;omega,(hpn.2.1 y hy).2⟩
 have cT:=R2 false (BP x (k:Int)) hpn.2.2;rw[<-hnn]at cT;unfold Am at cSt cT;have pC:AA (.sl false 3 ((BP x (k:Int)).map AE.D)):=(AI:AA (Am false (BP x (k:Int))))
 have hstr:=PC (lot:=lot) hpos;have hlen:(CX lot (BP x (k:Int)) 0).length<=1000000:=by
  have:∀(c:List AE) (n:Int),(CX lot c n).length<=c.length:=λc=>by
   induction c with
   |nil=>intro n;exact Al _
   |cons y r ih=>
    intro n
    have:=ih (n+y.mass)
    show((if Ev lot y then[(n+1,n+y.mass)]else[])++CX lot r (n+y.mass)).length<=_;rw[Bp,Bq];split
    ·rw[GM];omega
    ·rw[HQ];omega
  have:=this (BP x (k:Int)) 0
  omega
 have hat0:=trivial;have eL:((((CX lot (BP x (k:Int)) 0).map C8).length:Nat):Int)=((CX lot (BP x (k:Int)) 0).length:Int):=by rw[Ag]
 have hN9:(BM (BP x (k:Int))).length<=999999999:=by omega
 have hsrN:HY x (k:Int) lot=Dz (El (Cp x) lot (BP x (k:Int))) (BM (BP x (k:Int))).length:=rfl;have hF1:=λ(m:Nat) (hm:m<=(BM (BP x (k:Int))).length) (hL:CX lot (BP x (k:Int)) 0≠[])=>rL1 false (CX lot (BP x (k:Int)) 0) ((BM (BP x (k:Int))).length:Nat) ((CH (Cp x) (BM (BP x (k:Int))).length m:Nat):Int) ((m-CH (Cp x) (BM (BP x (k:Int))).length m:Nat):Int) hlen (by have:=Hi (Cp x) (BM (BP x (k:Int))).length m;omega)
 obtain⟨CD,hCD⟩:∃T,(BP x (k:Int)).map AE.D=T:=⟨_,rfl⟩
 rw[hCD]at cSt cT pC hatD
 by_cases hL:CX lot (BP x (k:Int)) 0=[]
 ·rw[AH hL]at hE
  rw[hE,AH (by decide)]at hR;rw[hR,hE];have k3:(((CX lot (BP x (k:Int)) 0).length:Int)==0)=true:=by rw[hL];rfl
  refine AF AU (BS k2 eL k3 kN) cC cN cW cF1 hatD cSt ?_;exact AJ rfl AA.out
 have k3:(((CX lot (BP x (k:Int)) 0).length:Int)==0)=false:=by
  have:=List.length_pos_iff.2 hL
  exact Br.2 (by omega)
 rw[AG hL]at hE;rw[hE,AG (λq=>q rfl),hsrN]at hR;rw[hR,hE];have hF1:=λm hm=>hF1 m hm hL
 obtain⟨hr1,hr2⟩:=qX (bot:=Cp x) (lot:=lot) hpos;obtain⟨r,hr⟩:∃r,(Dz (El (Cp x) lot (BP x (k:Int))) (BM (BP x (k:Int))).length).2=r:=⟨_,rfl⟩
 rw[hr]at hr1 hr2⊢;obtain⟨LD,hLD⟩:∃T,(CX lot (BP x (k:Int)) 0).map C8=T:=⟨_,rfl⟩
 have pLD:AA (.sl false 2 LD):=by rw[<-hLD];exact AI
 rw[hLD]at cSt eL hF1;obtain⟨N,hN⟩:∃N,(BM (BP x (k:Int))).length=N:=⟨_,rfl⟩
 rw[hN]at hr1 hr2 hN9 hF1 cT;have cSe:=aK (.pptr (.agg [a1,a2,a3,a4,.sl false 1 XD])) (.pptr (i64 (N:Int))) (.pptr (.clo (.func 41) [] [])) (.pptr (.sl false 2 LD)) N r (by omega) hr1 λm hm=>hS1 LD N m _ pLD (by omega) (by omega) hfl (by
  have:=hF1 m (by omega)
  rw[hr2 m (by omega)]at this;exact this)
 refine AF AU (BS k2 eL k3 kN) cC cN cW cF1 hatD cSt ?_;refine AF AU kB cT AB AB AB AB AB ?_;refine A7.own _ (Jk cSe rfl (λi a d h1 h2=>by
  match i with
  | 0=>cases h1;cases h2;exact .refl _ _
  | 1=>
   cases h1;cases h2;refine .cloN rfl λi a b h1 h2=>?_
   match i with
   | 0=>cases h1;cases h2;exact .ptr rfl rfl rfl rfl
   | 1=>cases h1;cases h2;exact .ptr rfl rfl rfl rfl
   | 2=>cases h1;cases h2;exact .ptr rfl rfl rfl rfl
   | 3=>cases h1;cases h2;exact .ptr rfl rfl rfl rfl
   |i+4=>cases h1
  |n+2=>cases h1) AI (.prim _)) ?_
 rintro d H' n' ⟨rfl,rfl,rfl⟩;refine AF AU kB AB AB AB AB AB AB ?_;exact AJ rfl AA.out
theorem zB (x:BR)(hl:x.cells.length<=1000000)(hf:∀c∈x.cells,c.length<=1000000/\∀y∈c,y.few)(i:Int)(lot:List UInt8):AK C0 8 [x.D,i64 i,str (sb lot)] (.tup [i64 (QJ x i lot),i64 (HX x i lot)]):=by
 refine AZ.walk w1 iN rfl λF=>?_
 have cS:=psL x hl hf i lot;have hx:∃a b c d e,x.D=.agg [a,b,c,d,e]:=⟨_,_,_,_,_,rfl⟩
 have px:AA x.D:=AI;have px2:AO x.D:=AI;obtain⟨a1,a2,a3,a4,a5,hx⟩:=hx;rw[hx]at cS px px2⊢;refine AF AU kB cS AB AB AB AB AB ?_;exact AJ rfl AA.out
def HW (l:List AE)(lot:List UInt8):List UInt8:=match DN lot (DS l)with
 |some r=>An r
 |none=>[48]
theorem eI {k:List UInt8}:∀ {l:BW},(∀z∈l,(0:Rat)<z.2)->0<=DM k l/\(GZ k l=true->0<DM k l)
 | [],_=>⟨Rat.le_refl,λh=>by cases h⟩
 |a::l,h=>by
  have ih:=eI (k:=k) (l:=l) λz hz=>h z (CT _ hz)
  have ha:=h a (CO ..);unfold DM
  by_cases e:a.1=k
  ·rw[AH e]
   have h1:(0:Rat)<a.2+DM k l:=by
    have h2:=(Rat.add_le_add_left (c:=a.2)).2 ih.1;rw[Rat.add_zero]at h2;exact Rat.not_le.1 λh=>Rat.not_le.2 ha (Rat.le_trans h2 h)
   exact⟨Rat.le_of_lt h1,λ_=>h1⟩
  ·rw[AG e]
   refine⟨ih.1,λq=>ih.2 ?_⟩
   have:GZ k (a::l)=(decide (a.1=k)||GZ k l):=rfl
   rw[this,Av e,Bool.false_or]at q;exact q
theorem nO (lot:List UInt8)(x:AE):Ev lot x=La lot x:=by
 unfold Ev La
 congr 1
 funext s
 rw[M8]
theorem pv {u:AE}{lot:List UInt8}(h:Ce u=0)(hm:u.mass=1):BI (sb (HW [u] lot)) ⟨#[48]⟩ = !Ev lot u:=by
 rw[show(⟨#[48]⟩:ByteArray)=sb [48]from rfl,M8];have hl:=YE lot [u];have hL:Sj lot [u]=La lot u:=by
  show(La lot u||false)=_;rw[Bool.or_false]
 rw[hL]at hl;unfold HW;rw[nO];cases hx:La lot u
 ·rw[hx,AG (by decide)]at hl
  rw[hl];rfl
 ·rw[hx,AH rfl]at hl
  rw[hl];have hs:=dQ (U2 h);have ht:=eI (k:=lot) (l:=u.shs.map λs=>(s.lot,Bd s.part)) λz hz=>by
   obtain⟨s,hs2,rfl⟩:=By.1 hz;exact(hs.2 s hs2).2
  have hh:GZ lot (u.shs.map λs=>(s.lot,Bd s.part))=true:=by
   unfold GZ;rw[List.any_map];exact hx
  have hpos:=ht.2 hh;have htm:Lq lot [u]=Mw lot u:=by
   show Mw lot u*(u.mass:Rat)+0=_;rw[hm,Rat.add_zero];show Mw lot u*((1:Int):Rat)=_;rw[show((1:Int):Rat)=1 from rfl,Rat.mul_one]
  refine Av λe=>?_
  have h1:Bd (An (Lq lot [u]))=Bd [48]:=congrArg Bd e;rw[YV,htm]at h1;have h0:Bd [48]=0:=by decide +kernel
  rw[h0]at h1
  have:(0:Rat)<Mw lot u:=hpos
  rw[h1]at this;exact Af this (by decide)
theorem iz (b:Bool)(l:List AE)(hl:l.length<=8)(hx:∀x∈l,x.okR)(hq:(DS l).length<=1000000)(lot:List UInt8):AK C0 13 [Am b l,str (sb lot)] (str (sb (HW l lot))):=by
 refine AZ.walk w1 yM rfl λF=>?_
 have cL:=zJ b l hl hx hq;unfold HW;obtain⟨Q,hQ⟩:∃Q,DS l=Q:=⟨_,rfl⟩
 rw[hQ]at cL hq⊢;obtain⟨QD,hQD⟩:∃T,Q.map Bu=T:=⟨_,rfl⟩
 have pQD:AA (.sl false 2 QD):=by rw[<-hQD];exact AI
 have hQDl:QD.length=Q.length:=by rw[<-hQD,Ag]
 have el:((QD.length:Nat):Int)=(Q.length:Int):=by rw[hQDl]
 rw[hQD]at cL;refine AF AU kB cL AB AB AB AB AB ?_;refine AC.loop (α:=Nat×Nat) (λp=>⟨[(1,str (sb lot)),(5,.sl false 2 QD),(6,i64 (p.1:Int))],[],p.2⟩) (λp=>Q.length-p.1) (λq=>q.1<=Q.length/\DN lot (Q.drop q.1)=DN lot Q) (0,_) ⟨BU _,rfl⟩ AL ?_;rintro⟨i,n⟩ F ⟨hi,hJ⟩;dsimp only at hi hJ⊢;rcases BA i Q.length with h2|h2
 rotate_left
 ·have e1:=Cb h2
  rw[HP h2]at hJ;rw[<-hJ];refine AF AU (Ab e1 el) AB AB AB AB AB AB ?_;exact AJ rfl AA.out
 have e1:=CZ h2;have wi:=Cc (i:=i) (by omega);obtain⟨p,hp⟩:=CU h2;have hm:QD[i]?=some (.agg [str (sb p.1),str (sb (An p.2))]):=by rw[<-hQD,A8,hp];rfl
 have hd:Q.drop i=p::Q.drop (i+1):=by
  have:=BQ.1 hp
  rw[EN this.1,this.2]
 have hlk:DN lot (p::Q.drop (i+1))=if p.1=lot then some p.2 else DN lot (Q.drop (i+1)):=rfl
 have hse:=M8 p.1 lot;rw[hd,hlk]at hJ
 by_cases e:p.1=lot
 ·rw[Au e]at hse
  rw[AH e]at hJ;rw[<-hJ];refine AF AU (CI e1 el wi hse kN) hm AB AB AB AB AB ?_;exact AJ rfl AA.out
 ·rw[Av e]at hse
  rw[AG e]at hJ;refine AF AU (CI e1 el wi hse kN) hm AB AB AB AB AB ?_;exact⟨(i+1,_),⟨h2,hJ⟩,by dsimp only;omega,AL⟩
theorem wz (x:BR)(k:Nat)(lot:List UInt8)(hv:Cn x=0)(hc:x.cells[k]?=some (BP x (k:Int)))(h6:(BP x (k:Int)).length<=6)(hm:As (BP x (k:Int))<=100000)(hmo:∀y∈BP x (k:Int),y.modr):AK C0 16 [x.D,i64 (k:Int),str (sb lot)] (.tup [i64 ((HY x (k:Int) lot).1:Int),i64 ((HY x (k:Int) lot).2:Int)]):=by
 refine AZ.walk w1 yP rfl λF=>?_
 have hce:=NP (O4 hv _ (Ay hc));have hpn:=IB hce.1;have hlay:=(Is hce.1).2.1;obtain⟨s1,s2,s3,s4⟩:=UH hv;have hmass:∀y∈BP x (k:Int),0<=y.mass/\y.mass<=100000:=λy hy=>by
  have h0:∀z∈BP x (k:Int),0<=z.mass:=λz hz=>by have:=(hpn.2.1 z hz).1;omega
  have:=js h0 hy
  exact⟨h0 y hy,by omega⟩
 have cL:=vr x k _ hc (by omega) (by omega) hmass (Uu hv);have hU9:=RO hmass;have hun:∀u∈BM (BP x (k:Int)),Ce u=0/\u.mass=1/\u.okR/\u.shs.length<=64:=λu hu=>by
  obtain⟨z,hz,rfl,hz1⟩:=wJ u hu;have hg:=L7 (hlay z hz);have h1:Ce (z.w 1)=0:=by
   unfold Ce;rw[show(z.w 1).grain=z.grain from rfl,hg.1,AG (by decide),show(z.w 1).mass=1 from rfl,AG (by decide)];exact hg.2.2.2
  have h2:(z.w 1).modr:=hmo z hz;exact⟨h1,rfl,Ys h2 h1,(Qv hg.2.2.2).2.1⟩
 have hO:=λj (h:j<(BM (BP x (k:Int))).length)=>py (Cp x) (BM (BP x (k:Int))) h
 have hOl:=M7 (Cp x) (BM (BP x (k:Int))) (BM (BP x (k:Int))).length;have hS:HY x (k:Int) lot=Dz (El (Cp x) lot (BP x (k:Int))) (BM (BP x (k:Int))).length:=rfl;have hb:∀j,j<(BM (BP x (k:Int))).length->∃u,(Gx (Cp x) (BM (BP x (k:Int))) (BM (BP x (k:Int))).length)[j]?=some u/\u∈BM (BP x (k:Int))/\El (Cp x) lot (BP x (k:Int)) j=Ev lot u:=λj hj=>by
  refine⟨_,hO j hj,?_,rfl⟩;have hp:=aN (bot:=Cp x) hj;show(BM (BP x (k:Int))).getD (IP (Cp x) (BM (BP x (k:Int))).length j) _∈_;rw[Do,Bo hp];exact List.getElem_mem hp
 rw[hS];have pX:AA x.D:=AI;have cX:AO x.D:=AI;have hx:∃a b c d e,x.D=.agg [a,b,c,d,e]:=⟨_,_,_,_,_,rfl⟩
 obtain⟨a1,a2,a3,a4,a5,hx⟩:=hx;rw[hx]at cL pX cX⊢;obtain⟨bt,hbt⟩:∃b,El (Cp x) lot (BP x (k:Int))=b:=⟨_,rfl⟩
 rw[hbt]at hb⊢;obtain⟨N,hN⟩:∃N,(BM (BP x (k:Int))).length=N:=⟨_,rfl⟩
 rw[hN]at cL hU9 hb hOl⊢;obtain⟨O,hOe⟩:∃O,Gx (Cp x) (BM (BP x (k:Int))) N=O:=⟨_,rfl⟩
 rw[hOe]at cL hb hOl;unfold Am at cL;obtain⟨OD,hOD⟩:∃T,O.map AE.D=T:=⟨_,rfl⟩
 have pOD:AA (.sl false 3 OD):=by rw[<-hOD];exact(AI:AA (Am false O))
 have hODl:OD.length=N:=by rw[<-hOD,Ag,hOl]
 have el:((OD.length:Nat):Int)=(N:Int):=by rw[hODl]
 rw[hOD]at cL;refine AF AU kB cL AB AB AB AB AB ?_;refine AC.loop (α:=Nat×Nat) (λp=>⟨[(2,str (sb lot)),(8,i64 ((Dz bt p.1).1:Int)),(9,i64 ((Dz bt p.1).2:Int)),(10,.sl false 3 OD),(12,i64 (p.1:Int))],[],p.2⟩) (λp=>N-p.1) (λq=>q.1<=N) (0,_) (BU _) AL ?_;rintro⟨i,n⟩ F hi;dsimp only at hi⊢;rcases BA i N with h2|h2
 rotate_left
 ·have e1:=Cb h2
  have:i=N:=by omega
  subst this;refine AF AU (Ab e1 el) AB AB AB AB AB AB ?_;exact AJ rfl AA.out
 have e1:=CZ h2;have wi:=Cc (i:=i) (by omega);obtain⟨u,hu1,hu2,hu3⟩:=hb i h2;obtain⟨g1,g2,g3,g4⟩:=hun u hu2;have hz:=pv (lot:=lot) g1 g2;rw[<-hu3]at hz;have htl:(DS [u]).length<=1000000:=by
  rw[Tn];have h1:=Tu (ts:=Jf [u]) (Q:=[]);have h3:=UP (l:=[u]) λy hy=>by rw[Eb]at hy;rw[hy];exact g4
  simp at h1 h3;omega
 have cO:=iz false [u] (by simp) (λy hy=>by rw[Eb]at hy;rw[hy];exact g3) htl lot;have hlu:Am false [u]=.sl false 3 [.agg [str (sb u.grain),i64 u.mass,.sl false 2 (u.shs.map A0.D)]]:=rfl;have hmO:OD[i]?=some (.agg [str (sb u.grain),i64 u.mass,.sl false 2 (u.shs.map A0.D)]):=by rw[<-hOD,A8,hu1];rfl
 have puD:AA (.agg [str (sb u.grain),i64 u.mass,.sl false 2 (u.shs.map A0.D)]):=(AI:AA u.D)
 have puL:AA (.sl false 3 [.agg [str (sb u.grain),i64 u.mass,.sl false 2 (u.shs.map A0.D)]]):=(AI:AA (Am false [u]))
 rw[hlu]at cO;obtain⟨uD,huD⟩:∃d,D.agg [str (sb u.grain),i64 u.mass,.sl false 2 (u.shs.map A0.D)]=d:=⟨_,rfl⟩
 rw[huD]at hmO cO puD puL;have tk:List.take (i+1-i) (List.drop i OD)=[uD]:=by
  have h3:=BQ.1 hmO;rw[show i+1-i=1 by omega,EN h3.1,h3.2];rfl
 obtain⟨T0,hT0⟩:∃T,HW [u] lot=T:=⟨_,rfl⟩
 rw[hT0]at cO hz;have hst:Dz bt (i+1)=if bt i then(if(Dz bt i).1=0 then i+1 else(Dz bt i).1,i+1)else Dz bt i:=rfl
 cases hbi:bt i
 ·rw[hbi]at hz hst
  rw[AG (by decide)]at hst;have hz:BI (sb T0) ⟨#[48]⟩=true:=hz;refine AF AU (Ek e1 el wi tk hz kN) cO AB AB AB AB AB ?_;refine⟨(i+1,n+1000),h2,by dsimp only;omega,?_⟩;dsimp only;rw[hst];exact AL
 ·rw[hbi]at hz hst
  rw[AH rfl]at hst;have hz:BI (sb T0) ⟨#[48]⟩=false:=hz;obtain⟨f0,hf0⟩:∃f,(Dz bt i).1=f:=⟨_,rfl⟩
  rw[hf0]at hst⊢
  by_cases h3:f0=0
  ·have k3:((f0:Int)==0)=true:=by rw[h3];rfl
   rw[AH h3]at hst;refine AF AU (Ci e1 el wi tk hz k3 kN) cO AB AB AB AB AB ?_;refine⟨(i+1,n+1000),h2,by dsimp only;omega,?_⟩;dsimp only;rw[hst];exact AL
  ·have k3:((f0:Int)==0)=false:=Br.2 (by omega)
   rw[AG h3]at hst;refine AF AU (Ci e1 el wi tk hz k3 kN) cO AB AB AB AB AB ?_;refine⟨(i+1,n+1000),h2,by dsimp only;omega,?_⟩;dsimp only;rw[hst];exact AL
theorem VK {k:List UInt8}{v:Rat}:∀ {Q:BW},DN k Q=some v->(k,v)∈Q
 | [],h=>by cases h
 |p::Q,h=>by
  unfold DN at h
  by_cases e:p.1=k
  ·rw[AH e]at h
   cases h;rw[<-e];exact CO ..
  ·rw[AG e]at h
   exact CT _ (VK h)
theorem YC {k:List UInt8}:∀ {Q:BW},(∀r:Rat,Ew k Q=some r->(k,r)∈Q)/\(Ew k Q=none->∀r:Rat,(k,r)∉Q)
 | []=>⟨λr h=>(by cases h),λ_ r h=>(by cases h)⟩
 |p::Q=>by
  have ih:=YC (k:=k) (Q:=Q);unfold Ew
  by_cases e:k=p.1
  ·rw[AH e]
   refine⟨λr h=>?_,λh=>by cases h⟩;cases h;rw[e];exact CO ..
  ·rw[AG e]
   refine⟨λr h=>CT _ (ih.1 r h),λh r hr=>?_⟩;rcases Az.1 hr with hr|hr
   ·exact e (by rw[<-hr])
   ·exact ih.2 h r hr
theorem lg (l:List AE)(k:List UInt8):Ew k (CJ l)=DN k (DS l):=by
 have hperm:(DS l).Perm (CJ l):=by
  obtain⟨_,h2⟩:=Oo l l.length (Al _)
  rwa [C6]at h2
 obtain⟨m1,m2⟩:=YC (k:=k) (Q:=CJ l);cases h:Ew k (CJ l)with
 |none=>
  have hn:k∉Cu (DS l):=λq=>by
   obtain⟨p,hp,rfl⟩:=By.1 q;exact m2 h p.2 (hperm.mem_iff.1 hp)
  rw[Ua hn]
 |some r=>rw[VL (UJ l) (hperm.mem_iff.2 (m1 r h))]
def Ie (x:BR)(lot:List UInt8):Int:=D3 [Cn x,if(!B4 lot)=true then 8 else 0]
def JH (x:BR)(lot:List UInt8):List (List UInt8):=x.cells.map λc=>HW c lot
def tD (t:List UInt8):D:=str (sb t)
theorem Vg {x:BR}{lot:List UInt8}(h:Ie x lot=0):Cn x=0/\B4 lot=true:=by
 have e:Ie x lot=if Cn x≠0 then Cn x else if(if(!B4 lot)=true then(8:Int)else 0)≠0 then(if(!B4 lot)=true then(8:Int)else 0)else 0:=rfl
 rw[e]at h
 by_cases h1:Cn x=0
 ·refine⟨h1,?_⟩
  rw[AG (λq=>q h1)]at h;cases hn:B4 lot
  ·rw[hn]at h;cases h
  ·rfl
 ·rw[AH h1]at h;exact Af h h1
section
set_option allowUnsafeReducibility true in
attribute [local irreducible] JI
theorem wW (x:BR)(hl:x.cells.length<=1000000)(hf:∀c∈x.cells,c.length<=1000000/\∀y∈c,y.few)(lot:List UInt8)(hv:Ie x lot=0->∀c∈x.cells,WF c):AK C0 6 [x.D,str (sb lot)] (.tup [.sl false 1 ((if Ie x lot≠0 then[]else JH x lot).map tD),i64 (Ie x lot)]):=by
 refine AZ.walk w1 iL rfl λF=>?_
 have cB:=af x hl hf;have cN:=MF lot;have cW:=Gq (!B4 lot) 8;have cF1:=LA [Cn x,if(!B4 lot)=true then 8 else 0] (by simp);rw[show D3 [Cn x,if(!B4 lot)=true then 8 else 0]=Ie x lot from rfl]at cF1;have hok:=@Vg x lot;have el:(((x.cells.map (Am false)).length:Nat):Int)=(x.cells.length:Int):=by rw[Ag]
 have hxi:∀(i:Nat) (c:List AE),x.cells[i]?=some c->(x.cells.map (Am false))[i]?=some (D.sl false 3 (c.map AE.D)):=λi c h=>by rw[A8,h];rfl
 have pX:AA x.D:=AI;have cX:AO x.D:=AI;have hx:∃a b c d,x.D=.agg [a,b,c,d,.sl false 1 (x.cells.map (Am false))]:=⟨_,_,_,_,rfl⟩
 obtain⟨a1,a2,a3,a4,hx⟩:=hx;rw[hx]at cB pX cX⊢;obtain⟨XD,hXD⟩:∃T,x.cells.map (Am false)=T:=⟨_,rfl⟩
 rw[hXD]at cB pX cX el hxi⊢
 by_cases h0:Ie x lot=0
 rotate_left
 ·have k2:(Ie x lot != 0)=true:=Hg h0
  rw[AH h0];refine AF AU k2 cB cN cW cF1 AB AB ?_;exact⟨_,Hh (.nil 1) (.refl _),AA.out,rfl⟩
 have k2:(Ie x lot != 0)=false:=by rw[h0];rfl
 obtain⟨g1,g2⟩:=hok h0;have hv:=hv h0;rw[AG (λq=>q h0),h0];rw[h0]at cF1;have k20:((0:Int) != 0)=false:=rfl;have hNl:=(UH g1).2.2.2;obtain⟨TD,hTD⟩:∃T,(JH x lot).map tD=T:=⟨_,rfl⟩
 have hTDl:TD.length=x.cells.length:=by rw[<-hTD,Ag];exact Ag ..
 have hTDi:∀(i:Nat) (c:List AE),x.cells[i]?=some c->TD[i]?=some (str (sb (HW c lot))):=λi c h=>by
  rw[<-hTD];unfold JH;rw[A8,A8,h];rfl
 have pTD:AA (.sl false 1 TD):=by
  rw[<-hTD]
  have:∀t:List UInt8,AA (tD t):=λt=>by unfold tD;exact AI
  have h2:∀t:List UInt8,AO (tD t):=λt=>by unfold tD;exact AI
  exact AI
 rw[hTD];refine AF AU (Ab k20 el) cB cN cW cF1 AB AB ?_;refine AC.ghost 1304 38 1 [(1,str (sb lot)),(7,.osl 1304 _ 1 0 0),(24,.sl false 1 XD),(25,i64 (x.cells.length:Int)),(26,i64 ((0:Nat):Int))] ⟨.inl rfl,.inr ⟨rfl,rfl⟩,.inl rfl,.inl rfl,.inl rfl,trivial⟩ ?_;refine AC.loop (α:=Nat×Nat×Nat) (λp=>⟨[(1,str (sb lot)),(7,.osl 1304 p.2.1 1 0 p.1),(24,.sl false 1 XD),(25,i64 (x.cells.length:Int)),(26,i64 (p.1:Int))],[⟨1304,p.2.1,38,1,TD.take p.1⟩],p.2.2⟩) (λp=>x.cells.length-p.1) (λq=>q.1<=x.cells.length) (0,_,_) (BU _) AL ?_;rintro⟨i,g,n⟩ F hi;dsimp only at hi⊢;rcases BA i x.cells.length with h2|h2
 rotate_left
 ·have e1:=Cb h2
  have:i=x.cells.length:=by omega
  subst this;have htk:TD.take x.cells.length=TD:=by rw[<-hTDl];exact C6
  rw[htk];have hff:=IA (H:=[⟨1304,g,38,1,TD⟩]) (Hf:=[]) (k:=1304) (g:=g) (T:=38) (sz:=1) (l:=TD) rfl;rw[hTDl]at hff;refine AF AU e1 AB AB AB AB AB AB ?_;exact⟨_,Hh hff (.refl _),AA.out,rfl⟩
 have e1:=CZ h2;have wi:=Cc (i:=i) (by omega);obtain⟨c,hc⟩:=CU h2;have hF:=hv c (Ay hc);have hmX:=hxi i c hc;have hmT:=hTDi i c hc;have htk:(TD.take i).take i=TD.take i:=by rw[List.take_take,Nat.min_self]
 have htk1:TD.take (i+1)=TD.take i++[str (sb (HW c lot))]:=by rw[D8,hmT];rfl
 have hlj:(TD.take i).length=i:=by rw[Bi,hTDl];omega
 have hlay:=(Is hF.par).2.1;have cLo:=iA false c (by have:=hF.len;omega) λy hy=>(Rx (hF.lite y hy) (hlay y hy)).1
 have hfew:=(Yn hF.par hF.len hF.lite).2.2;have hls:=lg c lot;have hof:HW c lot=match DN lot (DS c)with|some r=>An r|none=>[48]:=rfl
 have pC:AA (.sl false 3 (c.map AE.D)):=(AI:AA (Am false c))
 unfold Am at cLo;obtain⟨CD,hCD⟩:∃T,c.map AE.D=T:=⟨_,rfl⟩
 rw[hCD]at cLo hmX pC;have c0:=d8x;have cT0:=SP (Rp 1 (by decide)) (by decide);have z0:An 0=[48]:=by rw[show(0:Rat)=((0:Int):Rat)from rfl,JW];decide +kernel
 rw[z0]at cT0;refine AF AU (Ab e1 kN) hmX AB AB AB AB AB ?_;refine A7.prop _ _ (Et.refl _) cLo AI ?_;rintro d ⟨m,rfl,hQ⟩;have pM:AA (mapD m):=⟨hQ.mapD⟩
 have hlm:=Tl (sb lot) m;rcases hQ.look lot with⟨h3,h4⟩|⟨r,y,h3,h4,h5⟩
 ·rw[h3]at hlm
  rw[hls]at h4;rw[h4]at hof;have hof:HW c lot=[48]:=hof;rw[hof]at htk1;refine BJ ?_;refine AD kB ?_;refine eX (lG (s:=sb lot) rfl rfl rfl hlm) ?_;dsimp only[Gh];refine BJ ?_;have pG0:AA (⟨AX 0,1⟩:GF).D:=AI;have pG1:AO (⟨AX 0,1⟩:GF).D:=AI;obtain⟨b1,b2,b3,b4,hG0⟩:∃a b c d,(⟨AX 0,1⟩:GF).D=.agg [a,b,c,d]:=⟨_,_,_,_,rfl⟩
  rw[hG0]at c0 cT0 pG0 pG1;refine AF AU (CI wi htk hlj kT kF) c0 cT0 AB AB AB AB ?_;refine⟨(i+1,?ga,n+1000),h2,by dsimp only;omega,?_⟩
  rotate_left
  ·dsimp only
   rw[htk1];exact AL
 ·rw[h3]at hlm
  rw[hls]at h4;rw[h4]at hof;have hof:HW c lot=An r:=hof;rw[hof]at htk1;have cLg:=Uz h5 (by decide);have cTx:=SP h5 (by decide);rw[(hfew (lot,r) (VK h4)).1]at cLg;refine BJ ?_;refine AD kB ?_;refine eX (nJ (s:=sb lot) rfl rfl rfl hlm) ?_;dsimp only[Gh];refine BJ ?_;refine AF AU (CI wi htk hlj kT kF) cLg cTx AB AB AB AB ?_;refine⟨(i+1,?gb,n+1000),h2,by dsimp only;omega,?_⟩
  rotate_left
  ·dsimp only
   rw[htk1];exact AL
end
theorem zE (b:Bool)(L:List (List UInt8))(hl:L.length<=1000000)(hc:∀t∈L,AK C0 50 [str (sb t)] (i64 0)):AK C0 14 [.sl b 1 (L.map tD)] (i64 0):=by
 refine AZ.walk w1 yN rfl λF=>?_
 have hi0:∀(i:Nat) (t:List UInt8),L[i]?=some t->(L.map tD)[i]?=some (str (sb t)):=λi t h=>by rw[A8,h];rfl
 obtain⟨TD,hTD⟩:∃T,L.map tD=T:=⟨_,rfl⟩
 have hTDl:TD.length=L.length:=by rw[<-hTD,Ag]
 have el:((TD.length:Nat):Int)=(L.length:Int):=by rw[hTDl]
 have pTD:AA (.sl b 1 TD):=by
  rw[<-hTD]
  have:∀t:List UInt8,AA (tD t):=λt=>by unfold tD;exact AI
  have h2:∀t:List UInt8,AO (tD t):=λt=>by unfold tD;exact AI
  exact AI
 rw[hTD]at hi0⊢;refine AF AU kB AB AB AB AB AB AB ?_;refine AC.loop (α:=Nat×Nat) (λp=>⟨[(0,.sl b 1 TD),(3,i64 (p.1:Int))],[],p.2⟩) (λp=>L.length-p.1) (λq=>q.1<=L.length) (0,_) (BU _) AL ?_;rintro⟨i,n⟩ F hi;dsimp only at hi⊢;rcases BA i L.length with h2|h2
 rotate_left
 ·have e1:=Cb h2
  refine AF AU (Ab e1 el) AB AB AB AB AB AB ?_;exact AJ rfl AA.out
 have e1:=CZ h2;have wi:=Cc (i:=i) (by omega);obtain⟨t,ht⟩:=CU h2;have hm:=hi0 i t ht;have cl:=hc t (Ay ht);have z0:((0:Int) != 0)=false:=rfl;refine AF AU (CI e1 el wi z0 kN) hm cl AB AB AB AB ?_;exact⟨(i+1,_),h2,by dsimp only;omega,AL⟩
theorem qP (ha:AK C0 5 [] (Ai true))(x:BR)(hl:x.cells.length<=9223372036854775807)(hs:∀c∈x.cells,c.length<=9223372036854775807/\∀y∈c,y.shs.length<=9223372036854775807)(i:Int)(lot:List UInt8):AK C0 3 [x.D,i64 i,str (sb lot)] (Ai true):=by
 refine AZ.walk w1 zN rfl λF=>?_
 have cS:=vQ x hl hs;have hk:=@yx x;have hk2:=@dO x;have cWh:=wW x;have cFi:=wV x;have cLa:=zB x;have cC:=RV x;have cCe:=qY x;have cRF:=wz x;have s2:=Cd lot;have hxi:∀(i:Nat) (c:List AE),x.cells[i]?=some c->(x.cells.map (Am false))[i]?=some (D.sl false 3 (c.map AE.D)):=λi c h=>by rw[A8,h];rfl
 have el:(((x.cells.map (Am false)).length:Nat):Int)=(x.cells.length:Int):=by rw[Ag]
 have pX:AA x.D:=AI;have cX:AO x.D:=AI;have hx:∃a b c d,x.D=.agg [a,b,c,d,.sl false 1 (x.cells.map (Am false))]:=⟨_,_,_,_,rfl⟩
 obtain⟨a1,a2,a3,a4,hx⟩:=hx;rw[hx]at cS cWh cFi cLa cC cCe cRF pX cX⊢;obtain⟨XD,hXD⟩:∃T,x.cells.map (Am false)=T:=⟨_,rfl⟩
 rw[hXD]at cS cWh cFi cLa cC cCe cRF pX cX el hxi⊢;cases hsh:Pp x
 ·rw[hsh]at cS
  refine AF AU kB cS ha AB AB AB AB ?_;exact AJ rfl AA.out
 rw[hsh]at cS
 by_cases hll:lot.length>100
 ·have k1:decide ((lot.length:Int)>100)=true:=BV
  refine AF AU (BS k1 s2 kT kF) cS ha AB AB AB AB ?_;exact AJ rfl AA.out
 have k1:decide ((lot.length:Int)>100)=false:=Bc;obtain⟨q1,q2⟩:=hk hsh;obtain⟨m1,m2,m3⟩:=hk2 q1;have hfw:∀c∈x.cells,c.length<=1000000/\∀y∈c,y.few:=λc q=>⟨by have:=(m3 c q).2;omega,λy h=>((m3 c q).1 y h).1.1⟩
 have hmd:∀c∈x.cells,c.length<=1000000/\∀y∈c,y.modr:=λc q=>⟨by have:=(m3 c q).2;omega,λy h=>((m3 c q).1 y h).2⟩
 have hFine:Cn x=0->∀c∈x.cells,WF c:=λh c hc=>⟨(NP (O4 h c hc)).1,by have:=(q2 h).len c hc;omega,λy hy=>((m3 c hc).1 y hy).1⟩
 have cWh:=cWh (by omega) hfw lot λh=>hFine (Vg h).1
 have cFi:=cFi (by omega) hfw i lot;have cLa:=cLa (by omega) hfw i lot;have cC:=cC (by omega) hmd;have cCe:=cCe (by omega) hmd i;have cNm:=yv lot (by omega);have hbn:(if B4 lot=true then(0:Int)else 8)=if(!B4 lot)=true then 8 else 0:=by cases B4 lot<;>rfl
 rw[hbn]at cNm;have cF1:=eA [Cn x,if(!B4 lot)=true then 8 else 0] (by simp);have cF2:=eA [Ex x [i],if(!B4 lot)=true then 8 else 0] (by simp);rw[show D3 [Cn x,if(!B4 lot)=true then 8 else 0]=Ie x lot from rfl]at cF1;rw[show D3 [Ex x [i],if(!B4 lot)=true then 8 else 0]=Ey x i lot from rfl]at cF2;have hWE:=@Vg x lot;have hE0:Ey x i lot=if Ex x [i]≠0 then Ex x [i]else if(if(!B4 lot)=true then(8:Int)else 0)≠0 then(if(!B4 lot)=true then(8:Int)else 0)else 0:=rfl
 have hSE:HX x i lot=if Ey x i lot≠0 then Ey x i lot else if CX lot (BP x i) 0=[]then 7 else 0:=rfl
 have hSF:QI x i lot=if HX x i lot≠0 then 0 else((HY x i lot).1:Int):=rfl
 have hSL:QJ x i lot=if HX x i lot≠0 then 0 else((HY x i lot).2:Int):=rfl
 have hSr:=@Ul x i lot;have z0:((0:Int)==0)=true:=rfl;have z1:((0:Int) != 0)=false:=rfl;have ws:IntKind.i64.wrap (0+0)=0:=rfl;obtain⟨WD,hWD⟩:∃T,(if Ie x lot≠0 then[]else JH x lot).map tD=T:=⟨_,rfl⟩
 have htD1:∀t:List UInt8,AA (tD t):=λt=>by unfold tD;exact AI
 have htD2:∀t:List UInt8,AO (tD t):=λt=>by unfold tD;exact AI
 have pWD:AA (.sl false 1 WD):=by rw[<-hWD];exact AI
 rw[hWD]at cWh;obtain⟨SF,hSFe⟩:∃T,QI x i lot=T:=⟨_,rfl⟩
 rw[hSFe]at cFi hSF;obtain⟨SL,hSLe⟩:∃T,QJ x i lot=T:=⟨_,rfl⟩
 rw[hSLe]at cLa hSL;obtain⟨SE,hSEe⟩:∃T,HX x i lot=T:=⟨_,rfl⟩
 rw[hSEe]at cFi cLa hSE hSF hSL;obtain⟨E0,hE0e⟩:∃T,Ey x i lot=T:=⟨_,rfl⟩
 rw[hE0e]at cF2 hSE hE0 hSr;obtain⟨WE,hWEe⟩:∃T,Ie x lot=T:=⟨_,rfl⟩
 rw[hWEe]at cWh cF1 hWE hWD;refine sR 0 ?_;refine D6 ⟨[(1,i64 i),(2,str (sb lot)),(3,.optr 0 0 5 0 0)],[⟨0,0,24,5,[.agg [a1,a2,a3,a4,.sl false 1 XD]]⟩],100⟩ ?_ ?_
 ·refine AF AU (BS k1 s2 kT kF) cS AB AB AB AB AB ?_
  exact⟨trivial,AL⟩
 refine D6 ⟨[(1,i64 i),(2,str (sb lot)),(3,.optr 0 0 5 0 0),(7,.sl false 1 WD),(8,i64 WE)],[⟨0,0,24,5,[.agg [a1,a2,a3,a4,.sl false 1 XD]]⟩],200⟩ ?_ ?_
 ·refine AF AU kB cWh AB AB AB AB AB ?_
  exact⟨trivial,AL⟩
 refine D6 ⟨[(1,i64 i),(2,str (sb lot)),(3,.optr 0 0 5 0 0),(7,.sl false 1 WD),(8,i64 WE),(9,i64 SF),(10,i64 SE)],[⟨0,0,24,5,[.agg [a1,a2,a3,a4,.sl false 1 XD]]⟩],300⟩ ?_ ?_
 ·refine AF AU kB cFi AB AB AB AB AB ?_
  exact⟨trivial,AL⟩
 refine D6 ⟨[(1,i64 i),(2,str (sb lot)),(3,.optr 0 0 5 0 0),(7,.sl false 1 WD),(8,i64 WE),(9,i64 SF),(10,i64 SE),(11,i64 SL),(12,i64 SE)],[⟨0,0,24,5,[.agg [a1,a2,a3,a4,.sl false 1 XD]]⟩],400⟩ ?_ ?_
 ·refine AF AU kB cLa AB AB AB AB AB ?_
  exact⟨trivial,AL⟩
 refine D6 ⟨[(1,i64 i),(2,str (sb lot)),(3,.optr 0 0 5 0 0),(7,.sl false 1 WD),(8,i64 WE),(9,i64 SF),(10,i64 SE),(11,i64 SL),(12,i64 SE),(13,i64 WE)],[⟨0,0,24,5,[.agg [a1,a2,a3,a4,.sl false 1 XD]]⟩],500⟩ ?_ ?_
 ·refine AF AU kB cC cNm cF1 AB AB AB ?_
  exact⟨trivial,AL⟩
 by_cases h0:WE=0
 rotate_left
 ·have k2:(WE != 0)=true:=Hg h0
  have n1:(WE==WE)=true:=beq_self_eq_true _;rw[AH h0]at hWD;have hW0:WD=[]:=by rw[<-hWD];rfl
  have ln:WD.length=0:=by rw[hW0];rfl
  have z2:(((0:Nat):Int)==0)=true:=rfl;have hE1:E0≠0:=λq=>h0 (by
   obtain⟨u1,u2⟩:=hSr q;have hb:=(R5 u1).1;rw[<-hWEe];show(if Cn x≠0 then Cn x else if(if(!B4 lot)=true then(8:Int)else 0)≠0 then(if(!B4 lot)=true then(8:Int)else 0)else 0)=0;rw[hb,u2];rfl)
  rw[AH hE1]at hSE;subst hSE;rw[AH hE1]at hSF hSL;subst hSF;subst hSL;have n2:(SE==SE)=true:=beq_self_eq_true _;refine AF AU (Ci k2 n1 n2 ln z0 z2 ws) cCe cNm cF2 ha AB AB ?_;exact AJ rfl AA.out
 have k2:(WE != 0)=false:=by rw[h0];rfl
 obtain⟨v1,v2⟩:=hWE h0;rw[AG (λq=>q h0)]at hWD;have hNl:=(UH v1).2.2.2;have hsm:=q2 v1;have hWDl:WD.length=x.cells.length:=by rw[<-hWD,Ag];exact Ag ..
 have hWDi:∀(i:Nat) (c:List AE),x.cells[i]?=some c->WD[i]?=some (str (sb (HW c lot))):=λi c h=>by
  rw[<-hWD];unfold JH;rw[A8,A8,h];rfl
 have hFin:=hFine v1;have cLR:=zE false (JH x lot) (by unfold JH;rw[Ag];omega) λt ht=>by
  obtain⟨c,hc,rfl⟩:=By.1 ht;have hF:=hFin c hc;have hfew:=(Yn hF.par hF.len hF.lite).2.2;have z0:An 0=[48]:=by rw[show(0:Rat)=((0:Int):Rat)from rfl,JW];decide +kernel
  unfold HW;split
  ·rename_i r hr
   have h3:=hfew _ (VK hr)
   have:=dH r 60 (zk h3.2) (by decide)
   rw[h3.1]at this;exact this
  ·have:=dH 0 1 (Rp 1 (by decide)).rk (by decide)
   unfold rR at this;rw[z0,show DF 0=false by decide +kernel]at this;exact this
 have cSR:=zL false false (JH x lot) (by unfold JH;rw[Ag];omega);have htx:QP false (JH x lot)=.sl false 1 ((JH x lot).map tD):=rfl;rw[htx]at cSR;rw[hWD]at cLR cSR;refine D6 ⟨[(1,i64 i),(2,str (sb lot)),(3,.optr 0 0 5 0 0),(7,.sl false 1 WD),(8,i64 WE),(9,i64 SF),(10,i64 SE),(11,i64 SL),(12,i64 SE)],[⟨0,0,24,5,[.agg [a1,a2,a3,a4,.sl false 1 XD]]⟩],600⟩ ?_ ?_
 ·refine AF AU k2 AB AB AB AB AB AB ?_
  exact⟨trivial,AL⟩
 refine AF AU el AB AB AB AB AB AB ?_;refine AC.ghost 1305 38 1 [(1,i64 i),(2,str (sb lot)),(3,.optr 0 0 5 0 0),(7,.sl false 1 WD),(8,i64 WE),(9,i64 SF),(10,i64 SE),(11,i64 SL),(12,i64 SE),(14,.osl 1305 _ 1 0 0),(91,.sl false 1 XD),(92,i64 (x.cells.length:Int)),(93,i64 ((0:Nat):Int))] ⟨.inl rfl,.inl rfl,.inl rfl,.inl rfl,.inl rfl,.inl rfl,.inl rfl,.inl rfl,.inl rfl,.inr ⟨rfl,rfl⟩,.inl rfl,.inl rfl,.inl rfl,trivial⟩ ?_;refine AC.loop (α:=Nat×Nat×Nat) (λp=>⟨[(1,i64 i),(2,str (sb lot)),(3,.optr 0 0 5 0 0),(7,.sl false 1 WD),(8,i64 WE),(9,i64 SF),(10,i64 SE),(11,i64 SL),(12,i64 SE),(14,.osl 1305 p.2.1 1 0 p.1),(91,.sl false 1 XD),(92,i64 (x.cells.length:Int)),(93,i64 (p.1:Int))],[⟨1305,p.2.1,38,1,WD.take p.1⟩,⟨0,0,24,5,[.agg [a1,a2,a3,a4,.sl false 1 XD]]⟩],p.2.2⟩) (λp=>x.cells.length-p.1) (λq=>q.1<=x.cells.length) (0,_,_) (BU _) AL ?_;rintro⟨j,g,n⟩ F hj;dsimp only at hj⊢;rcases BA j x.cells.length with h2|h2
 ·have e1:=CZ h2
  have wj:=Cc (i:=j) (by omega);obtain⟨c,hc⟩:=CU h2;have hmem:=Ay hc;have hF:=hFin c hmem;have hmX:=hxi j c hc;have hmT:=hWDi j c hc;have htk:(WD.take j).take j=WD.take j:=by rw[List.take_take,Nat.min_self]
  have htk1:WD.take (j+1)=WD.take j++[str (sb (HW c lot))]:=by rw[D8,hmT];rfl
  have hlj:(WD.take j).length=j:=by rw[Bi,hWDl];omega
  have hlay:=(Is hF.par).2.1;have cO:=iz false c (by have:=hsm.len c hmem;omega) (λy hy=>Ys ((m3 c hmem).1 y hy).2 (hlay y hy)) (by have:=li hF;omega) lot;unfold Am at cO;have pC:AA (.sl false 3 (c.map AE.D)):=(AI:AA (Am false c))
  obtain⟨CD,hCD⟩:∃T,c.map AE.D=T:=⟨_,rfl⟩
  rw[hCD]at cO hmX pC;refine AF AU (CI e1 wj htk hlj kN) hmX cO AB AB AB AB ?_;refine⟨(j+1,?ga,n+1000),h2,by dsimp only;omega,?_⟩
  rotate_left
  ·dsimp only
   rw[htk1];exact AL
 have e1:=Cb h2
 have:j=x.cells.length:=by omega
 subst this;have htk:WD.take x.cells.length=WD:=by rw[<-hWDl];exact C6
 rw[htk];refine AC.weak ⟨[(1,i64 i),(2,str (sb lot)),(3,.optr 0 0 5 0 0),(7,.sl false 1 WD),(8,i64 WE),(9,i64 SF),(10,i64 SE),(11,i64 SL),(12,i64 SE),(14,.sl false 1 WD),(92,i64 (x.cells.length:Int)),(93,i64 (x.cells.length:Int))],[⟨0,0,24,5,[.agg [a1,a2,a3,a4,.sl false 1 XD]]⟩],_⟩ (AL (b:=⟨.refl _,.refl _,.refl _,.refl _,.refl _,.refl _,.refl _,.refl _,.refl _,PD rfl rfl hWDl.symm,.refl _,.refl _,trivial⟩)) ?_;have n3:(SE==SE)=true:=beq_self_eq_true _;obtain⟨CE,hCE⟩:∃E,Ex x [i]=E:=⟨_,rfl⟩
 rw[hCE]at cCe hE0;have hnm:(if(!B4 lot)=true then(8:Int)else 0)=0:=by rw[v2];rfl
 rw[hnm,AG (c:=(0:Int)≠0) (λq=>q rfl)]at hE0;have k8:(WE != 0)=false:=k2
 by_cases hce:CE=0
 rotate_left
 ·have kc:(CE==0)=false:=Br.2 hce
  rw[AH hce]at hE0;subst hE0;rw[AH hce]at hSE;subst hSE;rw[AH hce]at hSF hSL;subst hSF;subst hSL;have nq:(SE==SE)=true:=beq_self_eq_true _;refine AF AU (Ci e1 z0 z1 k8 kc nq (Ab kT kF)) cLR cSR cCe ha AB AB ?_;exact AJ rfl AA.out
 have kc:(CE==0)=true:=by rw[hce];rfl
 rw[AG (λq=>q hce)]at hE0;subst hE0;rw[AG (λq=>q rfl)]at hSE;obtain⟨u1,u2,u3⟩:=R5 (x:=x) (i:=i) (by rw[hCE];exact hce);obtain⟨k,rfl⟩:∃k:Nat,i=(k:Int):=⟨i.toNat,by omega⟩
 have hat:=VA (x:=x) (k:=k) (by omega);have hmem:=Ay hat;have cR:=cRF k lot v1 hat (hsm.len _ hmem) (by have:=hsm.mass _ hmem;omega) λy hy=>((m3 _ hmem).1 y hy).2
 have hpos:∀y∈BP x (k:Int),1<=y.mass:=λy hy=>((IB (hFin _ hmem).par).2.1 y hy).1
 have hno:=Yt (bot:=Cp x) (lot:=lot) hpos;have hfl:=PJ (El (Cp x) lot (BP x (k:Int))) (BM (BP x (k:Int))).length;have hsn:HY x (k:Int) lot=Dz (El (Cp x) lot (BP x (k:Int))) (BM (BP x (k:Int))).length:=rfl;rw[<-hsn]at hno hfl;obtain⟨r1,hr1⟩:∃r,(HY x (k:Int) lot).1=r:=⟨_,rfl⟩
 obtain⟨r2,hr2⟩:∃r,(HY x (k:Int) lot).2=r:=⟨_,rfl⟩
 rw[hr1]at cR hno hSF hfl;rw[hr2]at cR hSL hfl;have n4:((r1:Int)==(r1:Int))=true:=beq_self_eq_true _;have n5:((r2:Int)==(r2:Int))=true:=beq_self_eq_true _
 by_cases hst:CX lot (BP x (k:Int)) 0=[]
 ·have hz1:=hno.2 hst
  have hz2:=hfl.zl.2 hz1;rw[AH hst]at hSE;subst hSE;rw[AH (by decide)]at hSF hSL;subst hSF;subst hSL;subst hz1;subst hz2;have z7:((7:Int)==7)=true:=rfl;have z8:(((0:Nat):Int)==0)=true:=rfl;have z9:((0:Int)==((0:Nat):Int))=true:=rfl;refine AF AU (Ci e1 z0 z1 k8 kc z7 (BS z8 z9 kT kF)) cLR cSR cCe cR ha AB ?_;exact AJ rfl AA.out
 ·have hz1:r1≠0:=λq=>hst (hno.1 q)
  have kz:((r1:Int)==0)=false:=Br.2 (by omega);rw[AG hst]at hSE;subst hSE;rw[AG (λq=>q rfl)]at hSF hSL;subst hSF;subst hSL;subst hce;refine AF AU (Ci e1 z0 z1 k8 kc kz (BS n4 n5 kT kF)) cLR cSR cCe cR ha AB ?_;exact AJ rfl AA.out
def tA:List UInt8:=[97]
def tB:List UInt8:=[98]
def FU:List UInt8:=[119,104,101,97,116]
def NG:List UInt8:=[102,117,110,110,101,108]
def C3 (m:Int):AE:=⟨FU,m,[⟨tA,[49]⟩]⟩
def DX (m:Int):AE:=⟨FU,m,[⟨tA,[49,47,50]⟩,⟨tB,[49,47,50]⟩]⟩
def Fm (x:AE):D:=.agg [str (sb x.grain),i64 x.mass,.sl true 2 (x.shs.map A0.D)]
def ip:D:=.agg [str (sb NG),i64 4,i64 30,i64 12,.sl true 1 [.sl true 3 [Fm (C3 10),Fm (DX 6)],.sl true 3 [Fm (C3 5)]]]
theorem xY:AK C0 19 [] ip:=CV Dv 400 40
def Lo (d d':D):Prop:=∀(ρ:Lk) (O:Nat->Prop) (w:World) (v:Value),AV ρ O w d v->AV ρ O w d' v
theorem Lo.refl (d:D):Lo d d:=λ_ _ _ _ h=>h
theorem Lo.agg {ds ds':List D}(hl:ds.length=ds'.length)(h:∀(i:Nat) (d d':D),ds[i]?=some d->ds'[i]?=some d'->Lo d d'):Lo (.agg ds) (.agg ds'):=λρ O w v hv=>by
 cases hv with
 |agg hn ho hd=>
  refine .agg (hn.trans hl) ho λi d' hd'=>?_
  have hi:i<ds.length:=by rw[hl];exact(BQ.1 hd').1
  exact h i _ d' (Bo hi) hd' _ _ _ _ (hd i _ (Bo hi))
theorem Lo.tup {ds ds':List D}(hl:ds.length=ds'.length)(h:∀(i:Nat) (d d':D),ds[i]?=some d->ds'[i]?=some d'->Lo d d'):Lo (.tup ds) (.tup ds'):=λρ O w v hv=>by
 cases hv with
 |tup hn hd=>
  refine .tup (hn.trans hl) λi d' hd'=>?_
  have hi:i<ds.length:=by rw[hl];exact(BQ.1 hd').1
  exact h i _ d' (Bo hi) hd' _ _ _ _ (hd i _ (Bo hi))
def OM (e e':D):Prop:=e'.cells.length=e.cells.length/\∀(j:Nat) (d d':D),e.cells[j]?=some d->e'.cells[j]?=some d'->Lo d d'
theorem Lo.sl {b:Bool}{sz:Nat}{es es':List D}(hl:es.length=es'.length)(hc:∀(i:Nat) (e e':D),es[i]?=some e->es'[i]?=some e'->OM e e'):Lo (.sl b sz es) (.sl false sz es'):=λρ O w v hv=>by
 cases hv with
 |nil=>
  have:es'=[]:=List.length_eq_zero_iff.1 hl.symm
  subst this;exact .nil sz
 |emp a=>
  have:es'=[]:=List.length_eq_zero_iff.1 hl.symm
  subst this;exact .emp a
 |sl f hl' hc' hO hb hz hcell ho h=>
  have hx:∀(i:Nat) (e':D),es'[i]?=some e'->∃e,es[i]?=some e/\OM e e':=λi e' he'=>by
   have hi:i<es.length:=by rw[hl];exact(BQ.1 he').1
   exact⟨_,Bo hi,hc i _ e' (Bo hi) he'⟩
  refine .sl f (hl.symm.trans hl') hc' hO hb (λi e' he'=>?_) hcell ho λi e' j d' he' hd'=>?_
  ·obtain⟨e,he,h1,h2⟩:=hx i e' he'
   rw[h1];exact hz i e he
  ·obtain⟨e,he,h1,h2⟩:=hx i e' he'
   have hj:j<e.cells.length:=by rw[<-h1];exact(BQ.1 hd').1
   exact h2 j _ d' (Bo hj) hd' _ _ _ _ (h i e j _ he (Bo hj))
def loosen:Nat->D->D
 | 0,d=>d
 |n+1,.agg ds=>.agg (ds.map (loosen n))
 |n+1,.tup ds=>.tup (ds.map (loosen n))
 |n+1,.sl _ sz es=>.sl false sz (es.map (loosen n))
 |_+1,d=>d
theorem VM {f:D->D}(hf:∀d,Lo d (f d))(ds:List D)(i:Nat)(d d':D)(h:ds[i]?=some d)(h':(ds.map f)[i]?=some d'):Lo d d':=by
 rw[A8,h]at h';cases h';exact hf d
theorem YF:∀n:Nat,(∀d,Lo d (loosen n d))/\∀e,OM e (loosen n e)
 | 0=>⟨λd=>.refl d,λe=>⟨rfl,λj d d' h h'=>by
   have:d=d':=by
    have:=h.symm.trans h'
    injection this
   subst this;exact .refl d⟩⟩
 |n+1=>by
  obtain⟨h1,h2⟩:=YF n;have hs:∀(es:List D) (i:Nat) (e e':D),es[i]?=some e->(es.map (loosen n))[i]?=some e'->OM e e':=λes i e e' h h'=>by
   rw[A8,h]at h';cases h';exact h2 e
  have hL:∀d,Lo d (loosen (n+1) d):=λd=>by
   cases d with
   |agg ds=>exact .agg (by simp) (VM h1 ds)
   |tup ds=>exact .tup (by simp) (VM h1 ds)
   |sl b sz es=>exact .sl (by simp) (hs es)
   |_=>exact .refl _
  refine⟨hL,λe=>?_⟩;have one:e.cells=[e]->(loosen (n+1) e).cells=[loosen (n+1) e]->OM e (loosen (n+1) e):=λa b=>by
   refine⟨by rw[a,b];rfl,λj d d' h h'=>?_⟩;rw[a]at h;rw[b]at h'
   match j with
   | 0=>cases h;cases h';exact hL e
   |j+1=>cases h
  cases e with
  |agg ds=>exact⟨by simp[loosen,D.cells],λj d d' h h'=>VM h1 ds j d d' h h'⟩
  |_=>exact one rfl rfl
theorem AK.loosen {C:A9}{f:Nat}{args:List D}{d:D}(h:AK C f args d)(n:Nat):AK C f args (loosen n d):=
 ⟨h.1,λX w vs a b c e g=>(h.2 X w vs a b c e g).mono λ_ _ ⟨v,d,h1,h2,h3,h4⟩=>⟨v,_,h1,h2,rfl,by subst h3;exact(YF n).1 _ _ _ _ _ h4⟩⟩
section
variable {C:A9} {F B:AY} {ops:Array Oper} {rd:Option Nat}
theorem mh {K1:St->Prop}{Q:Exit->Act->World->Prop}{l2:List Nat}(h2:∀(s1:St) (ρ:Lk) (a:Act) (w:World),K1 s1->Bn C F ρ s1 a w->wpOps C.P ops Q l2 a w):∀(l:List Nat) (a:Act) (w:World),wpOps C.P ops (Kn C F K1) l a w->wpOps C.P ops Q (l++l2) a w:=by
 intro l
 induction l with
 |nil=>rintro a w ⟨_,s',ρ',hq,hs'⟩;exact h2 s' ρ' a w hq hs'
 |cons i l ih=>
  intro a w h;simp only[E2,wpOps]at h⊢;cases ho:ops[i]? with
  |none=>simp only[ho]at h⊢;exact ih a w h
  |some o=>
   simp only[ho]at h⊢;split
   ·rename_i hw
    rw[AH hw]at h;rcases h with h|⟨_,⟨a0,w0,h0⟩⟩
    ·refine .inl ?_
     unfold Oper.wp Oper.upon at h⊢;split<;>rename_i hr<;>simp only[hr]at h
     ·exact ih _ _ h
     ·exact ih _ _ h
     ·exact ih _ _ h
     ·refine Calls.mono h λe w'' he=>?_
      cases e with
      |returned v=>exact ih _ _ he
      |panicked c=>cases he.1
      |outgrown=>obtain⟨a0,w0,h0⟩:=he;cases h0.1
     ·exact Rows.mono h λ_ _ he=>ih _ _ he
     ·cases h.1
    ·cases h0.1
   ·rename_i hw
    rw[AG hw]at h;exact ih _ _ h
theorem d9P {K:St->Prop}{os1 os2:List Oper}{s:St}(h:BH C F ops os1 s (λs1=>BH C F ops os2 s1 K)):BH C F ops (os1++os2) s K:=by
 intro hd l hl ρ a w hs;rw[KY,Ba]at hd;have hlen:l.length=os1.length+os2.length:=by
  have:=congrArg List.length hl
  simpa using this
 obtain⟨l1,l2,rfl,e1⟩:∃l1 l2,l=l1++l2/\l1.length=os1.length:=⟨l.take os1.length,l.drop os1.length,(Fj _ _).symm,by rw[Bi];omega⟩
 rw[DK,DK]at hl;obtain⟨h1,h2⟩:=List.append_inj hl (by simpa using e1);exact mh (λs1 ρ a w hk hs=>hk hd.2 l2 h2 ρ a w hs) l1 a w (h hd.1 l1 h1 ρ a w hs)
theorem e0e {X:EV}{i:Nat}{s:St}{Q:Exit->AY->St->Prop}(hX:Dd C X)(hnd:Ef ops.toList=true)(h:BH C F ops ((List.range ops.size).map λj=>ops.getD j default) s (Q .normal F)):AC C B rd F (.region i ops false) s Q:=by
 refine⟨λhB hd ρ a w hs=>wpIn_region ?_⟩;have hd:=J8 hB hd;have h1:=BH.run h (λj hj=>List.mem_range.1 hj) hd hs
 have:=GB (rd:=rd) (Q:=Fu C B Q) (l2:=[]) (λ_ _ _ h=>Jx hB (λ_ h=>h) h) (IE hnd) _ a w h1
 rwa [Dm]at this
def WP (C:A9)(F:AY)(X:EV)(kb:Nat)(ops:Array Oper):List (List Nat×Nat)->List Nat->St->(St->Prop)->Prop
 | [],l,s,K=>Cz C X kb ops l s True λacc s=>acc/\K s
 |(l1,i)::r,l,s,K=>Cz C X kb ops l1 s True λacc s1=>acc/\∃d,(∀(os:List Oper) (K':St->Prop),BH C F ops os ⟨Bf s1.env (ops.getD i default).dst d,s1.H,s1.n+1⟩ K'->BH C F ops (ops.getD i default::os) s1 K')/\WP C F X kb ops r l ⟨Bf s1.env (ops.getD i default).dst d,s1.H,s1.n+1⟩ K
def QG:List (List Nat×Nat)->List Nat->List Nat
 | [],l=>l
 |(l1,i)::r,l=>l1++i::QG r l
theorem aR {X:EV}(hX:Dd C X){kb:Nat}{K:St->Prop}:∀(r:List (List Nat×Nat)) (l:List Nat) (s:St),WP C F X kb ops r l s K->BH C F ops ((QG r l).map λj=>ops.getD j default) s K
 | [],l,s,h=>(Fs hX (λacc s h=>h) h).2
 |(l1,i)::r,l,s,h=>by
  show BH C F ops ((l1++i::QG r l).map _) s K;rw[DK,Cs];refine d9P ?_;refine(Fs (K':=λs1=>BH C F ops (ops.getD i default::(QG r l).map λj=>ops.getD j default) s1 K) hX (λacc s1 h=>⟨h.1,?_⟩) h).2;obtain⟨d,h1,h2⟩:=h.2;exact h1 _ _ (aR hX r l _ h2)
theorem e0f {X:EV}{i:Nat}{s:St}{Q:Exit->AY->St->Prop}(hX:Dd C X)(kb:Nat)(r:List (List Nat×Nat))(l:List Nat)(hl:List.range ops.size=QG r l)(hnd:Ef ops.toList=true)(h:WP C F X kb ops r l s (Q .normal F)):AC C B rd F (.region i ops false) s Q:=
 e0e hX hnd (by rw[hl];exact aR hX r l s h)
def T2 (P:Program) (t:Nat):Prop:=∃(f1 f2:Field) (k1 k2:IntKind),P.underlying t=some (.struct #[f1,f2])/\P.stoodInHeld t=false/\P.eqGuardType P.depth t=false/\f1.name ≠ "_"/\f1.offset=0/\P.underlying f1.type=some (.int k1)/\f2.name ≠ "_"/\f2.offset=1/\P.underlying f2.type=some (.int k2)
theorem W6 {P:Program} {w:World} (d:Nat) {xs ys:Array Value} {f:Field} {fs:List Field} {i:Nat} {ka k:IntKind} {x y:Int} {b:Bool} (f1:f.name ≠ "_") (f2:f.offset=i) (f3:P.underlying f.type=some (.int k)) (hxa:xs[i]?=some (.int ka x)) (hya:ys[i]?=some (.int ka y))
  (ih:(Op.eqFields (d+1) xs ys fs).run P w=.ok b w):(Op.eqFields (d+1) xs ys (f::fs)).run P w=.ok (x==y&&b) w:=by
 have ag:(isAgg f.type).run P w=.ok false w:=by
  unfold isAgg;rw[run_bind,Cy f3];rfl
 have part1:(part f.type xs f.offset).run P w=.ok (.int ka x) w:=by
  unfold part;rw[run_bind,ag];dsimp only;rw[AG (by simp),f2];simp only[hxa];rfl
 have part2:(part f.type ys f.offset).run P w=.ok (.int ka y) w:=by
  unfold part;rw[run_bind,ag];dsimp only;rw[AG (by simp),f2];simp only[hya];rfl
 simp only[Op.eqFields];rw[AH f1,run_bind,part1];dsimp only;rw[run_bind,part2];dsimp only;rw[run_bind,run_equalIn_int w d f.type ka k x y f3];dsimp only;cases hb:x==y with
 |true=>simpa using ih
 |false=>rfl
theorem i7 {o:Oper}{os:List Oper}{s:St}{K:St->Prop}{t tt:Nat}{x y:Operand}{a1 a2 b1 b2:Int}(hw:CN ops s.env o=some true)(ho:o.op=.binOp .neq t x y tt)(hT:T2 C.P t)(hx:BF s.env x=.agg [i64 a1,i64 a2])(hy:BF s.env y=.agg [i64 b1,i64 b2])
  (h:BH C F ops os ⟨Bf s.env o.dst (Ai (!(a1==b1&&(a2==b2&&true)))),s.H,s.n+1⟩ K):BH C F ops (o::os) s K:=
 BH.step hw (λρ a w hs=>by
  refine⟨_,ρ,w,.inl ?_,QQ.pure hs (.prim _),λe he=>Dc (hs.gen e he)⟩;have rx:=De hs.env x;have ry:=De hs.env y;rw[hx]at rx;rw[hy]at ry;unfold execOp;simp only[ho];generalize a.eval x=vx at rx⊢;generalize a.eval y=vy at ry⊢;cases rx with
  |agg n1 o1 r1=>
   cases ry with
   |agg n2 o2 r2=>
    rename_i xs ys;obtain⟨f1,f2,k1,k2,c1,c2,c3,c4,c5,c6,c7,c8,c9⟩:=hT;have at_:∀ {vs:Array Value} {u1 u2:Int},vs.size=[i64 u1,i64 u2].length->(∀(i:Nat) (d:D),[i64 u1,i64 u2][i]?=some d->AV ρ (AM F.X ρ s.H) w d (vs.getD i undef))->vs[0]?=some (.int .i64 u1)/\vs[1]?=some (.int .i64 u2):=λ{vs u1 u2} n r=>by
     have q0:=r 0 _ rfl;have q1:=r 1 _ rfl;have m0:0<vs.size:=by rw[n];exact Nat.zero_lt_succ _
     have m1:1<vs.size:=by rw[n];exact Hz _
     rw[At,B3 m0,IZ]at q0;rw[At,B3 m1,IZ]at q1;rw[B3 m0,B3 m1];generalize vs[0]=z0 at q0;generalize vs[1]=z1 at q1;cases q0;cases q1;exact⟨rfl,rfl⟩
    obtain⟨x0,x1⟩:=at_ n1 r1;obtain⟨y0,y1⟩:=at_ n2 r2;have eqf:C.P.fieldsOf t = #[f1,f2]:=by unfold Program.fieldsOf;rw[c1]
    have run:(Op.equalIn 10000 t (.agg xs) (.agg ys)).run C.P w=.ok (a1==b1&&(a2==b2&&true)) w:=by
     rw[show(10000:Nat)=9998+1+1 from rfl,run_equalIn_struct w _ t xs ys (by rw[eqf];exact c1) c2,eqf];exact W6 9998 c4 c5 c6 x0 y0 (W6 9998 c7 c8 c9 x1 y1 rfl)
    have r3:(do eqGuard .neq t x y (.agg xs) (.agg ys);binOp .neq t (.agg xs) (.agg ys):Sem Value).run C.P w=.ok (.bool (!(a1==b1&&(a2==b2&&true)))) w:=by
     rw[run_bind,run_eqGuard_agg w .neq t x y xs ys c3];dsimp only;rw[run_neq_struct,run];rfl
    rw[run_bind,r3];rfl) h
end
def Sl (P:Program)(t:Nat):Bool:=match P.underlying t with
 |some (.int _)=>true
 |_=>false
theorem Z6 {P:Program}{t:Nat}(h:Sl P t=true):∃k,P.underlying t=some (.int k):=by
 unfold Sl at h;split at h
 ·rename_i k hk;exact⟨k,hk⟩
 ·cases h
def jB (P:Program):List Field->Bool
 | [f1,f2]=>(f1.name != "_")&&Nat.beq f1.offset 0&&Sl P f1.type&&(f2.name != "_")&&Nat.beq f2.offset 1&&Sl P f2.type
 |_=>false
def jA (P:Program)(t:Nat):Bool:=match P.underlying t with
 |some (.struct fs)=>!(P.stoodInHeld t) && !(P.eqGuardType P.depth t)&&jB P fs.toList
 |_=>false
theorem wC {P:Program}{t:Nat}(h:jA P t=true):T2 P t:=by
 unfold jA at h;split at h<;>try(cases h;done)
 rename_i fs hu;simp only[Ba,Bl]at h;obtain⟨⟨h1,h2⟩,h3⟩:=h;obtain⟨l⟩:=fs
 match l,h3 with
 | [f1,f2],h3=>
  simp only[jB,Ba,bne_iff_ne]at h3;obtain⟨⟨⟨⟨⟨g1,g2⟩,g3⟩,g4⟩,g5⟩,g6⟩:=h3;obtain⟨k1,e1⟩:=Z6 g3;obtain⟨k2,e2⟩:=Z6 g6;exact⟨f1,f2,k1,k2,hu,h1,h2,g1,CA g2,e1,g4,CA g5,e2⟩
theorem aV:T2 C0.P 64:=wC (by kernel_rfl)
end Go.Ide
