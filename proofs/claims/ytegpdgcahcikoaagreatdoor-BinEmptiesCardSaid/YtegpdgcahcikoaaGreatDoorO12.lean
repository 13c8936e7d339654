/- The layer of own lemmas and contracts, part 12. -/
import Derived.Test.YtegpdgcahcikoaaGreatDoorO11
import Derived.Test.YtegpdgcahcikoaaGreatDoorO9
import Derived.Test.YtegpdgcahcikoaaGreatDoorO4
import Derived.Shelf.Spec.SlicesGrow
import Derived.Shelf.Lay
import Derived.Ground.Names8Prog
import Derived.Test.YtegpdgcahcikoaaGreatDoorO7
import Derived.Laws.StructEq
import Derived.Test.YtegpdgcahcikoaaGreatDoorO10
set_option linter.unusedVariables false
set_option linter.unusedSimpArgs false
namespace Go.Ide
open Go.Proofs Go.RowKit Go.Sort
set_option maxRecDepth 20000
set_option maxHeartbeats 4000000
theorem nH {g:List UInt8}(hg:g.length<=100000){l:List AD}(hf:∀x∈l,x.lite):∀x∈l.map (Dw g),x.lite:=λx hx=>by
 obtain⟨y,hy,rfl⟩:=List.mem_map.1 hx;obtain⟨⟨a1,a2,a3⟩,a4⟩:=hf y hy;exact⟨⟨hg,a2,a3⟩,a4⟩
theorem oI {l:List AD}(h:Gr l=0):HJ l=0/\(CJ l).length<=64/\∀p∈FQ (CJ l),Du (p.2/(Am l:Rat))=false:=by
 unfold Gr at h;split at h
 ·rename_i h9;exact Ad h h9
 ·split at h
  ·cases h
  ·split at h
   ·cases h
   ·rename_i h1 h2 h3
    refine⟨by omega,by omega,λp hp=>?_⟩
    have:=List.any_eq_false.1 ((Bool.not_eq_true _).mp h3) p hp
    exact(Bool.not_eq_true _).mp this
theorem ZB {l:List AD}(h:Gr l=0):Kv l=⟨(CI l 0).grain,Am l,Ej l⟩:=by
 unfold Kv;rw[AF (λq=>q h)]
theorem no {l:List UInt8}(h:CY l=0):l.length<=100000:=by
 obtain⟨-,h2,h3,-⟩:=QY h;have h4:(B1 l).length<=(B4 l).length+1:=by
  unfold B4 Bp;split
  ·simp;omega
  ·omega
 unfold B1 Ba at*;rw[Bd]at h4;rw[Dh]at h3;omega
theorem oJ {l:List AD}(hf:∀x∈l,x.lite)(h:Gr l=0):(Ej l).length<=64/\∀s∈Ej l,s.lot.length<=1000/\s.part.length<=100000/\CY s.part=0/\rk (CR s.part) 600:=by
 obtain⟨h1,h2,h3⟩:=oI h;obtain⟨g1,g2,g3,g4,g5⟩:=ZA h1;obtain⟨hx,hK⟩:=W1 hf g3 g2;refine⟨by unfold Ej;rw[Ac,(J7 _).length_eq];exact h2,λs hs=>?_⟩;unfold Ej at hs;obtain⟨p,hp,rfl⟩:=List.mem_map.1 hs;have hc:=nq (h3 p hp);refine⟨hK.all p.1 (List.mem_map_of_mem ((J7 _).mem_iff.1 hp)),?_,hc,Mr hc⟩;exact no hc
def Fv (l:List AD)(left:Int):AD:=⟨(CI l 0).grain,Am l-left,Ej (l.map (Dw (CI l 0).grain))⟩
def I7 (l:List AD)(left:Int):Nat:=if Bv l≠0 then Bv l else if left<1 then 3 else if Am l<left then 13 else if CM l=false then 16 else if IN l (CI l 0).grain≠0 then IN l (CI l 0).grain
 else if Am l=left then 0 else IQ (CJ [Fv l left])
def SH (l:List AD)(left:Int):AD:=if I7 l left≠0 then⟨[],0,[]⟩else⟨(CI l 0).grain,left,Ej (l.map (Dw (CI l 0).grain))⟩
def SG (l:List AD)(left:Int):B0:=if I7 l left≠0 then[]else if Am l=left then[]else JZ (CJ [Fv l left])
theorem OM {H:Hp}{a a' b b' c:D}(h1:Fz H [] a a')(h2:Fz H [] b b'):Fz H [] (.tup [a,b,c]) (.tup [a',b',c]):=.tup rfl λi d d' h h'=>by
 match i with
 | 0=>cases h;cases h';exact h1
 | 1=>cases h;cases h';exact h2
 | 2=>cases h;cases h';exact .refl _
 |n+3=>cases h
theorem Rt (H:Hp):Fz H [] (.agg [str ⟨#[]⟩,i64 0,CT]) (⟨[],0,[]⟩:AD).D:=.agg rfl λi d d' h h'=>by
 match i with
 | 0=>cases h;cases h';exact .refl _
 | 1=>cases h;cases h';exact .refl _
 | 2=>cases h;cases h';exact .nil 2
 |n+3=>cases h
theorem oU (b:Bool)(l:List AD)(left:Int)(hl:l.length<=1000000)(hf:∀x∈l,x.lite):AK C0 44 [Al b l,i64 left] (.tup [(SH l left).D,.sl false 2 ((SG l left).map Co),i64 (I7 l left:Nat)]):=by
 refine Ak.walk w1 dX rfl λF=>?_
 have cP:=NI b l (by omega) λx hx=>(hf x hx).1
 have hE:I7 l left=if Bv l≠0 then Bv l else if left<1 then 3 else if Am l<left then 13 else if CM l=false then 16 else if IN l (CI l 0).grain≠0 then IN l (CI l 0).grain
  else if Am l=left then 0 else IQ (CJ [Fv l left]):=rfl
 have hX:SH l left=if I7 l left≠0 then⟨[],0,[]⟩else⟨(CI l 0).grain,left,Ej (l.map (Dw (CI l 0).grain))⟩:=rfl
 have hL:SG l left=if I7 l left≠0 then[]else if Am l=left then[]else JZ (CJ [Fv l left]):=rfl
 have cW1:=IS (decide (left<1)) 3;obtain⟨E0,hE0⟩:∃e:Nat,(if Bv l≠0 then Bv l else if left<1 then 3 else 0)=e:=⟨_,rfl⟩
 have cF0:AK C0 54 [.sl true 1 [i64 (Bv l:Nat),i64 (if decide (left<1)then 3 else 0)]] (i64 (E0:Nat)):=by
  have:=Om [(Bv l:Int),if decide (left<1)then 3 else 0] (by simp)
  have he:Et [(Bv l:Int),if decide (left<1)then 3 else 0]=((E0:Nat):Int):=by
   rw[<-hE0]
   by_cases h1:Bv l=0<;>by_cases h2:left<1<;>simp[Et,h1,h2]
  rw[he]at this;exact this
 rcases Nat.decEq E0 0 with g0|g0
 ·have e1:=GQ g0
  have hE2:I7 l left=E0:=by
   rw[hE,<-hE0];split
   ·rfl
   ·rename_i h1
    rw[<-hE0,AF h1]at g0;split
    ·rfl
    ·rename_i h2;exact Ad (AF h2) g0
  rw[hE2]at hX hL⊢;rw[AG g0]at hX hL;rw[hX,hL];refine AH AZ e1 cP cW1 cF0 AB AB AB ?_;exact⟨_,OM (Rt _) (.nil 2),AA.out,rfl⟩
 have e1:=GR g0;have hp0:Bv l=0:=by
  apply Dc;intro h;rw[AG h]at hE0;omega
 have hl1:¬left<1:=λh=>by
  rw[AF (λq=>q hp0),AG h]at hE0;omega
 rw[AF (λh=>h hp0),AF hl1]at hE;obtain⟨p1,p2,p3⟩:=Lh hp0;have hsm:IJ l:=⟨by omega,λx hx=>by have:=ON (p2 x hx);omega⟩
 have cT:=Zu b l hsm;have cG:=Xd b l hl;have cW2:=IS (decide (Am l<left)) 13;obtain⟨E1,hE1⟩:∃e:Nat,(if Am l<left then 13 else if CM l=false then 16 else 0)=e:=⟨_,rfl⟩
 have cF1:AK C0 54 [.sl true 1 [i64 (if decide (Am l<left)then 13 else 0),i64 (if CM l then 0 else 16:Nat)]] (i64 (E1:Nat)):=by
  have:=Om [if decide (Am l<left)then 13 else 0,((if CM l then 0 else 16:Nat):Int)] (by simp)
  have he:Et [if decide (Am l<left)then 13 else 0,((if CM l then 0 else 16:Nat):Int)]=((E1:Nat):Int):=by
   rw[<-hE1]
   by_cases h1:Am l<left<;>cases CM l<;>simp[Et,h1]
  rw[he]at this;exact this
 rcases Nat.decEq E1 0 with g1|g1
 ·have e2:=GQ g1
  have hE2:I7 l left=E1:=by
   rw[hE,<-hE1];split
   ·rfl
   ·rename_i h1
    rw[<-hE1,AF h1]at g1;split
    ·rfl
    ·rename_i h2;exact Ad (AF h2) g1
  rw[hE2]at hX hL⊢;rw[AG g1]at hX hL;rw[hX,hL];refine AH AZ e1 cP cW1 cF0 AB AB AB ?_;refine AH AZ e2 cT cW2 cG cF1 AB AB ?_;exact⟨_,OM (Rt _) (.nil 2),AA.out,rfl⟩
 have e2:=GR g1;have hs1:¬Am l<left:=λh=>by
  rw[AG h]at hE1;omega
 have hs2:¬CM l=false:=λh=>by
  rw[AF hs1,AG h]at hE1;omega
 rw[AF hs1,AF hs2]at hE;have hl0:0<l.length:=by
  rcases l with _|⟨y,l⟩
  ·exfalso;apply hs1
   show(0:Int)<left;omega
  ·simp
 obtain⟨x0,hx0⟩:∃x,l[0]?=some x:=⟨_,A9 hl0⟩
 have hm0:(l.map AD.D)[0]?=some (.agg [str (sb x0.grain),i64 x0.mass,.sl false 2 (x0.shs.map Av.D)]):=by rw[A8,hx0];rfl
 have hgr:(CI l 0).grain=x0.grain:=by rw[Fc hx0]
 have hg9:=(hf x0 (Aw hx0)).1.1;have cPo:=fG b l x0.grain hl hf hg9;rw[hgr]at hE hX;have hlt:Fv l left=⟨x0.grain,Am l-left,Ej (l.map (Dw x0.grain))⟩:=by unfold Fv;rw[hgr]
 rw[hlt]at hE hL;obtain⟨PN,hPN⟩:∃n,IN l x0.grain=n:=⟨_,rfl⟩
 rw[hPN]at hE cPo;rcases Nat.decEq PN 0 with g2|g2
 ·have e3:=GQ g2
  rw[AG g2]at hE;rw[hE]at hX hL⊢;rw[AG g2]at hX hL;rw[hX,hL];obtain⟨Z,hZ⟩:∃Z,Lw l x0.grain=Z:=⟨_,rfl⟩
  rw[hZ]at cPo;unfold AD.D Ce at cPo;obtain⟨ZS,hZS⟩:∃d,List.map Av.D Z.shs=d:=⟨_,rfl⟩
  have pZS:AA (.sl false 2 ZS):=by rw[<-hZS];exact AI
  rw[hZS]at cPo;refine AH AZ e1 cP cW1 cF0 AB AB AB ?_;refine AH AZ e2 cT cW2 cG cF1 AB AB ?_;refine AH AZ e3 hm0 cPo AB AB AB AB ?_;exact⟨_,OM (Rt _) (.nil 2),AA.out,rfl⟩
 have e3:=GR g2;rw[AF (λh=>h g2)]at hE;have hpe:HG l x0.grain=0:=by
  apply Dc;intro h
  have:IN l x0.grain=HG l x0.grain:=AG h
  omega
 have hmn:Gr (l.map (Dw x0.grain))=0:=by
  have:IN l x0.grain=Gr (l.map (Dw x0.grain)):=AF (λh=>h hpe)
  omega
 have hpl:Lw l x0.grain=⟨x0.grain,Am l,Ej (l.map (Dw x0.grain))⟩:=by
  unfold Lw;rw[AF (λh=>h hpe),ZB hmn]
  congr 1
  ·rw[Fc (l:=l.map (Dw x0.grain)) (x:=Dw x0.grain x0) (by rw[A8,hx0];rfl)];rfl
  ·unfold Am;rw[List.map_map];rfl
 obtain⟨m1,m2⟩:=oJ (nH hg9 hf) hmn;rw[hpl]at cPo;clear hpl hmn hpe hPN hlt;obtain⟨S,hS⟩:∃S,Ej (l.map (Dw x0.grain))=S:=⟨_,rfl⟩
 rw[hS]at cPo hE hX hL m1 m2;have ws:IntKind.i64.wrap (Am l-left)=Am l-left:=wI (by omega) (by omega);unfold AD.D at cPo;dsimp only at cPo;unfold Ce at cPo;obtain⟨SD,hSD⟩:∃d,List.map Av.D S=d:=⟨_,rfl⟩
 have pSD:AA (.sl false 2 SD):=by rw[<-hSD];exact AI
 rw[hSD]at cPo
 by_cases hz:Am l=left
 ·have e4:((Am l-left)==0)=true:=by rw[EE];omega
  rw[AG hz]at hE;rw[hE]at hX hL⊢;rw[AF (λh=>h rfl)]at hX hL;rw[AG hz]at hL;rw[hX,hL];unfold AD.D;dsimp only;unfold Ce;rw[hSD];refine AH AZ e1 cP cW1 cF0 AB AB AB ?_;refine AH AZ e2 cT cW2 cG cF1 AB AB ?_;refine AH AZ (As e3 ws e4) hm0 cPo AB AB AB AB ?_;exact⟨_,OM (.refl _) (.nil 2),AA.out,rfl⟩
 have e4:((Am l-left)==0)=false:=by rw[Br];omega
 rw[AF hz]at hE hL;have cO:=bQ ⟨x0.grain,left,S⟩ (Am l-left) (by dsimp only;omega);obtain⟨Y,hY⟩:∃Y:AD,(⟨x0.grain,Am l-left,S⟩:AD)=Y:=⟨_,rfl⟩
 rw[hY]at cO hE hL;have hYo:∀x∈[Y],x.okW 602:=λx hx=>by
  rw[List.mem_singleton]at hx;rw[hx,<-hY];exact⟨m1,by unfold Sm;dsimp only;omega,λs hs=>⟨by have:=(m2 s hs).1;omega,(m2 s hs).2.1,(m2 s hs).2.2.1,(m2 s hs).2.2.2⟩⟩
 have cLo:=bR 602 true [Y] (by simp) hYo (by omega) (by simp);have hKY:HB (λk=>k.length<=1000) (64*[Y].length) (CJ [Y]):=S3 λx hx=>by
  rw[List.mem_singleton]at hx;rw[hx,<-hY];exact⟨m1,λs hs=>(m2 s hs).1⟩
 change Ak C0 70 [.sl true 3 [.agg [str (sb Y.grain),i64 Y.mass,.sl false 2 (Y.shs.map Av.D)]]] _ at cLo;change AK C0 94 [.agg [str (sb x0.grain),i64 left,.sl false 2 (S.map Av.D)],i64 (Am l-left)] (.agg [str (sb Y.grain),i64 Y.mass,.sl false 2 (Y.shs.map Av.D)])at cO;obtain⟨YS,hYS⟩:∃d,Y.shs.map Av.D=d:=⟨_,rfl⟩
 have pYS:AA (.sl false 2 YS):=by rw[<-hYS];exact AI
 rw[hSD,hYS]at cO;rw[hYS]at cLo;obtain⟨q,hq⟩:∃q,CJ [Y]=q:=⟨_,rfl⟩
 rw[hq]at cLo hKY hE hL;refine AH AZ e1 cP cW1 cF0 AB AB AB ?_;refine AH AZ e2 cT cW2 cG cF1 AB AB ?_;refine AH AZ (As e3 ws e4) hm0 cPo cO AB AB AB ?_;refine BE.prop _ _ (Ed.refl _) cLo AI ?_;rintro d ⟨m,rfl,hQ⟩;have cA:=YC _ (by simp) q m hQ (BX hKY.len (by simp)) hKY.nd;have pM:AA (mapD m):=⟨hQ.mapD⟩
 unfold JY at cA;obtain⟨M,hM⟩:∃M,mapD m=M:=⟨_,rfl⟩
 rw[hM]at cA pM⊢;rcases Nat.decEq (IQ q) 0 with g4|g4
 ·have e5:=GQ g4
  rw[hE]at hX hL⊢;rw[AG g4]at hX hL;rw[hX,hL];refine AH AZ e5 cA AB AB AB AB AB ?_;exact⟨_,OM (Rt _) (.nil 2),AA.out,rfl⟩
 have e5:=GR g4;rw[hE]at hX hL⊢;rw[AF (λh=>h g4)]at hX hL;rw[hX,hL];unfold AD.D;dsimp only;unfold Ce;rw[hSD];refine AH AZ e5 cA AB AB AB AB AB ?_;exact⟨_,.refl _,AA.out,by rw[g4];rfl⟩
abbrev Qq:Dr:=[(4,[0,1,2,3,4,5,6,7,8],[9])]
open Go.Proofs Go.RowKit Go.Sort
set_option maxRecDepth 20000
set_option maxHeartbeats 4000000
def AD.modr (x:AD):Prop:=(x.shs.length<=15\/64<x.shs.length)/\x.lite
theorem kw (l:List UInt8):BK (sb l) (sb l)=true:=by rw[Ex];exact AX rfl
def C7 (l:List AD):Int:=l.foldl (λa x=>IntKind.i64.wrap (a+x.mass)) 0
theorem TZ {l:List AD}{i:Nat}{x:AD}(h:l[i]?=some x):C7 (l.take (i+1))=IntKind.i64.wrap (C7 (l.take i)+x.mass):=by
 unfold C7;rw[Da,h];simp
theorem KG {l:List AD}(hs:IJ l):C7 l=Am l:=by
 obtain⟨hl,hm⟩:=hs
 have:∀i,i<=l.length->C7 (l.take i)=Am (l.take i):=λi=>by
  induction i with
  |zero=>exact λ_=>rfl
  |succ i ih=>
   intro hi;obtain⟨x,hx⟩:=CU (show i<l.length by omega);have hb:=UM (l:=l.take i) λy hy=>hm y (Fy hy)
   have hxm:=hm x (Aw hx);rw[Bd,FC (by omega)]at hb;rw[TZ hx,ih (by omega),TW hx,wI (by omega) (by omega)]
 have:=this l.length (Af _)
 rwa [Cf]at this
theorem uk (b:Bool)(l:List AD)(hl:l.length<=9223372036854775807):AK C0 19 [Al b l] (i64 (C7 l)):=by
 refine Ak.walk w1 wC rfl λF=>?_
 have el:(((l.map AD.D).length:Nat):Int)=(l.length:Int):=by rw[Ac]
 refine AH AZ el AB AB AB AB AB AB ?_;refine AC.loop (α:=Nat×Nat) (λp=>⟨[(0,Al b l),(3,i64 (C7 (l.take p.1))),(4,i64 (p.1:Int))],[],p.2⟩) (λp=>l.length-p.1) (λp=>p.1<=l.length) (0,_) (BU _) AJ ?_;rintro⟨i,m⟩ F hi;dsimp only at hi⊢;rcases BH i l.length with h2|h2
 rotate_left
 ·have e1:=Cj h2
  have:i=l.length:=by omega
  subst this;rw[Cf];refine AH AZ (Ah e1 el) AB AB AB AB AB AB ?_;exact AL rfl AA.out
 have e1:=Ck h2;have wi:=Cc (i:=i) (by omega);obtain⟨x,hx⟩:=CU h2;have hm:(l.map AD.D)[i]?=some (.agg [str (sb x.grain),i64 x.mass,.sl false 2 (x.shs.map Av.D)]):=by rw[A8,hx];rfl
 have ws:=(TZ hx).symm;refine AH AZ (CH e1 el wi ws kN) hm AB AB AB AB AB ?_;exact⟨(i+1,_),h2,by dsimp only;omega,AJ⟩
theorem VQ (b:Bool)(l:List AD)(hs:IJ l):AK C0 19 [Al b l] (i64 (Am l)):=by
 have h:=uk b l (by have:=hs.1;omega)
 rwa [KG hs]at h
theorem pn (b:Bool)(l:List AD)(hl:l.length<=1000000):AK C0 50 [Al b l] (Aq (CM l)):=by
 refine Ak.walk w1 xS rfl λF=>?_
 have el:(((l.map AD.D).length:Nat):Int)=(l.length:Int):=by rw[Ac]
 refine AH Qq el AB AB AB AB AB AB ?_;refine AC.loop (α:=Nat×Nat) (λp=>⟨[(0,Al b l),(3,i64 (p.1:Int))],[],p.2⟩) (λp=>l.length-p.1)
  (λp=>1<=p.1/\(p.1<=l.length\/p.1=1)/\∀x∈l.take p.1,BK (sb x.grain) (sb (CI l 0).grain)=true) (1,_) ⟨Af _,.inr rfl,λx h=>by
   rcases l with _|⟨y,l⟩
   ·simp at h
   ·have:x=y:=by simpa using h
    rw[this];exact kw _⟩ AJ ?_
 rintro⟨i,m⟩ F ⟨hi1,hi,hs⟩;dsimp only at hi1 hi hs⊢;rcases BH i l.length with h2|h2
 rotate_left
 ·have e1:=Cj h2
  have hg:CM l=true:=by
   unfold CM;rw[CQ];intro x hx;rw[B8 h2]at hs;exact hs x hx
  rw[hg];refine AH Qq (Ah e1 el) AB AB AB AB AB AB ?_;exact AL rfl AA.out
 have e1:=Ck h2;have wi:=Cc (i:=i) (by omega);obtain⟨x,hx⟩:=CU h2;have hm:(l.map AD.D)[i]?=some (.agg [str (sb x.grain),i64 x.mass,.sl false 2 (x.shs.map Av.D)]):=by rw[A8,hx];rfl
 obtain⟨x0,hx0⟩:∃x,l[0]?=some x:=⟨_,A9 (by omega)⟩
 have hm0:(l.map AD.D)[0]?=some (.agg [str (sb x0.grain),i64 x0.mass,.sl false 2 (x0.shs.map Av.D)]):=by rw[A8,hx0];rfl
 have hv0:=Fc hx0;obtain⟨bG,hbG⟩:∃q,BK (sb x.grain) (sb x0.grain)=q:=⟨_,rfl⟩
 cases bG
 ·have hg:CM l=false:=by
   unfold CM;rw[List.all_eq_false];exact⟨x,Aw hx,by rw[hv0,hbG];decide⟩
  rw[hg];refine AH Qq (BY e1 el hbG kN) hm hm0 AB AB AB AB ?_;exact AL rfl AA.out
 ·refine AH Qq (CH e1 el hbG wi kN) hm hm0 AB AB AB AB ?_
  exact⟨(i+1,_),⟨by dsimp only;omega,.inl h2,λy hy=>by
   dsimp only at hy;rw[Da,hx]at hy;rcases List.mem_append.1 hy with q|q
   ·exact hs y q
   ·have:y=x:=by simpa using q
    rw[this,hv0];exact hbG⟩,by dsimp only;omega,AJ⟩
theorem fe (b:Bool)(l:List AD)(hl:l.length<=1000000)(hf:∀x∈l,x.modr):AK C0 18 [Al b l] (i64 (Bv l:Nat)):=by
 refine Ak.walk w1 wB rfl λF=>?_
 have el:(((l.map AD.D).length:Nat):Int)=(l.length:Int):=by rw[Ac]
 have hC:Bv l=if 64<l.length then 5 else if Dm (λi=>CZ (CI l i)) l.length≠0 then Dm (λi=>CZ (CI l i)) l.length else if Am l>999999999 then 4 else 0:=rfl
 by_cases h64:64<l.length
 ·rw[AG h64]at hC
  rw[hC];have q2:decide ((l.length:Int)>64)=true:=AX (by omega);refine AH AZ (Ah el q2) AB AB AB AB AB AB ?_;exact AL rfl AA.out
 rw[AF h64]at hC;have q2:decide ((l.length:Int)>64)=false:=Ag (by omega);refine AH AZ (Ah el q2) AB AB AB AB AB AB ?_;refine AC.loop (α:=Nat×Nat) (λp=>⟨[(0,Al b l),(3,i64 (p.1:Int))],[],p.2⟩) (λp=>l.length-p.1) (λp=>p.1<=l.length/\∀j,j<p.1->CZ (CI l j)=0) (0,_) ⟨BU _,λj h=>Ad h (HR j)⟩ AJ ?_;rintro⟨i,m⟩ F ⟨hi,hz⟩;dsimp only at hi hz⊢;rcases BH i l.length with h2|h2
 rotate_left
 ·have e1:=Cj h2
  have:i=l.length:=by omega
  subst this;rw[AF (λh=>h (LC (f:=λi=>CZ (CI l i)) hz))]at hC;have cT:=VQ b l (TG h64 hz)
  by_cases h9:Am l>999999999
  ·have e9:decide (Am l>999999999)=true:=AX h9
   rw[AG h9]at hC;rw[hC];refine AH AZ (As e1 el e9) cT AB AB AB AB AB ?_;exact AL rfl AA.out
  ·have e9:decide (Am l>999999999)=false:=Ag h9
   rw[AF h9]at hC;rw[hC];refine AH AZ (As e1 el e9) cT AB AB AB AB AB ?_;exact AL rfl AA.out
 have e1:=Ck h2;have wi:=Cc (i:=i) (by omega);obtain⟨x,hx⟩:=CU h2;have hm:(l.map AD.D)[i]?=some (.agg [str (sb x.grain),i64 x.mass,.sl false 2 (x.shs.map Av.D)]):=by rw[A8,hx];rfl
 have hxm:=hf x (Aw hx);have cL:=yK x hxm.1 hxm.2.1;unfold AD.D at cL;rcases Nat.decEq (CZ x) 0 with hc0|hc0
 ·have e3:=GQ hc0
  have:=OU (f:=λi=>CZ (CI l i)) hz h2 (by rw[Fc hx];exact hc0)
  rw[Fc hx]at this;rw[this,AG hc0]at hC;rw[hC];refine AH AZ (BY e1 el e3 kN) hm cL AB AB AB AB ?_;exact AL rfl AA.out
 have e3:=GR hc0;refine AH AZ (CH e1 el e3 wi kN) hm cL AB AB AB AB ?_;exact⟨(i+1,_),⟨h2,λj hj=>by
  rcases Nat.lt_succ_iff_lt_or_eq.1 hj with q|q
  ·exact hz j q
  ·rw[q,Fc hx];exact hc0⟩,by dsimp only;omega,AJ⟩
def HE (x:AD):B0:=x.shs.map λs=>(s.lot,CR s.part*(x.mass:Rat))
theorem XH {x:AD}(hn:(x.shs.map (·.lot)).Nodup):∀j,j<=x.shs.length->GM x j []=(HE x).take j
 | 0,_=>rfl
 |j+1,hj=>by
  obtain⟨s,hs⟩:∃s,x.shs[j]?=some s:=⟨_,A9 hj⟩
  rw[Nx x j [] hs,XH hn j (by omega)];have hm:(HE x)[j]?=some (s.lot,CR s.part*(x.mass:Rat)):=by unfold HE;rw[A8,hs];rfl
  have hnot:s.lot∉Cs ((HE x).take j):=λh=>by
   obtain⟨z,hz,h2⟩:=List.mem_map.1 h;obtain⟨i,hi⟩:=List.mem_iff_getElem?.1 hz;have hij:i<j:=by
    have:=(List.getElem?_eq_some_iff.1 hi).1
    rw[Bd]at this;omega
   rw[El,AG hij]at hi;unfold HE at hi;rw[A8]at hi;obtain⟨t,ht,rfl⟩:=Option.map_eq_some_iff.1 hi;have e1:(x.shs.map (·.lot))[i]?=some t.lot:=by rw[A8,ht];rfl
   have e2:(x.shs.map (·.lot))[j]?=some s.lot:=by rw[A8,hs];rfl
   have a1:=List.getElem?_eq_some_iff.1 e1;have a2:=List.getElem?_eq_some_iff.1 e2
   have:i=j:=(List.getElem_inj (h₀:=a1.1) (h₁:=a2.1) hn).1 (by rw[a1.2,a2.2];exact h2)
   omega
  have hl:Fu s.lot ((HE x).take j)=none:=by
   cases h9:Fu s.lot ((HE x).take j)with
   |none=>rfl
   |some o=>
    obtain⟨A,B,h3,-⟩:=QJ (v:=o) h9;exact Ad (by rw[h3];simp[Cs]) hnot
  unfold Jk;rw[hl];dsimp only;rw[(TP (v:=CR s.part*(x.mass:Rat)) hl).2,Da,hm];rfl
theorem jz {x:AD}(hn:(x.shs.map (·.lot)).Nodup):CJ [x]=HE x:=by
 show GM x x.shs.length []=_;rw[XH hn _ (Af _),B8];unfold HE;rw[Ac];exact Af _
theorem qG {q:B0}(h:G3 q):FQ q=q:=(Sw h.nd (.refl _) (J7 _) h.weak (Qw _)).symm
theorem oK (l:List AD):(Ej l).Pairwise λa b=>ltStr a.lot b.lot=true:=by
 unfold Ej;rw[List.pairwise_map,<-X6];exact mI l
theorem UB (l:List AD)(left:Int):CJ [Fv l left]=HE (Fv l left)/\FQ (CJ [Fv l left])=HE (Fv l left):=by
 have hp:(Fv l left).shs.Pairwise λa b=>ltStr a.lot b.lot=true:=oK _
 have h1:=jz (x:=Fv l left) (by
  rw[List.Nodup,List.pairwise_map];exact hp.imp λ{a b} h e=>by rw[e,swo_ltStr.irrefl]at h;cases h)
 refine⟨h1,?_⟩;rw[h1];refine qG ?_;unfold HE;show List.Pairwise _ _;rw[List.pairwise_map];exact hp
theorem u7 (b:Bool)(l:List AD)(hl:l.length<=9223372036854775807)(hs:∀x∈l,x.shs.length<=9223372036854775807):AK C0 27 [Al b l] (Aq (Gl l)):=by
 refine Ak.walk w1 xJ rfl λF=>?_
 have el:(((l.map AD.D).length:Nat):Int)=(l.length:Int):=by rw[Ac]
 refine AH AZ el AB AB AB AB AB AB ?_;refine AC.loop (α:=Nat×Nat) (λp=>⟨[(0,Al b l),(7,Al b l),(8,i64 (l.length:Int)),(9,i64 (p.1:Int))],[],p.2⟩) (λp=>l.length-p.1) (λq=>q.1<=l.length/\(l.take q.1).all AD.shB=true) (0,_) ⟨BU _,rfl⟩ AJ ?_;rintro⟨i,n⟩ F ⟨hi,ha⟩;dsimp only at hi ha⊢;rcases BH i l.length with h2|h2
 rotate_left
 ·have e1:=Cj h2
  have:i=l.length:=by omega
  subst this;rw[Cf]at ha;obtain⟨q1,h1⟩:∃q,decide ((l.length:Int)<=8)=q:=⟨_,rfl⟩
  obtain⟨q2,h2'⟩:∃q,decide ((l.length:Int)>64)=q:=⟨_,rfl⟩
  obtain⟨q3,h3⟩:∃q,decide ((l.length:Int)<=80)=q:=⟨_,rfl⟩
  have hb:Gl l=(q1||(q2&&q3)):=by
   unfold Gl;rw[ha,<-h1,<-h2',<-h3,Gd]
   congr 1
   ·exact C8.2 (by omega)
   ·congr 1
    ·exact C8.2 (by omega)
    ·exact C8.2 (by omega)
  rw[hb];cases q1<;>cases q2<;>cases q3
  all_goals
   refine AH AZ (CO e1 el h1 h2' h3 kT kF) AB AB AB AB AB AB ?_;exact AL rfl AA.out
 have e1:=Ck h2;have wi:=Cc (i:=i) (by omega);obtain⟨x,hx⟩:=CU h2;have hm:(l.map AD.D)[i]?=some (.agg [str (sb x.grain),i64 x.mass,.sl false 2 (x.shs.map Av.D)]):=by rw[A8,hx];rfl
 have hsx:=hs x (Aw hx);have ex:(((x.shs.map Av.D).length:Nat):Int)=(x.shs.length:Int):=by rw[Ac]
 have hsz:=Cg x.grain;obtain⟨p1,h1⟩:∃q,decide ((x.grain.length:Int)>100)=q:=⟨_,rfl⟩
 obtain⟨p2,h2'⟩:∃q,decide ((x.shs.length:Int)>8)=q:=⟨_,rfl⟩
 obtain⟨p3,h3⟩:∃q,decide ((x.shs.length:Int)<=64)=q:=⟨_,rfl⟩
 obtain⟨p4,h4⟩:∃q,decide ((x.shs.length:Int)>80)=q:=⟨_,rfl⟩
 have hb:x.shB=(!p1&&(!p2 || !p3) && !p4&&x.shs.all Av.shB):=by
  unfold AD.shB;rw[<-h1,<-h2',<-h3,<-h4]
  congr 1
  congr 1
  ·congr 1
   ·rw[<-decide_not];exact C8.2 (by omega)
   ·congr 1
    ·rw[<-decide_not];exact C8.2 (by omega)
    ·rw[<-decide_not];exact C8.2 (by omega)
  ·rw[<-decide_not];exact C8.2 (by omega)
 by_cases g:(!p1&&(!p2 || !p3) && !p4)=true
 rotate_left
 ·have hbf:x.shB=false:=by rw[hb];simp only[Bool.not_eq_true]at g;rw[g];rfl
  have hsf:Gl l=false:=by unfold Gl;rw[T6 hx hbf];rfl
  rw[hsf];cases p1<;>cases p2<;>cases p3<;>cases p4
  all_goals first
   |exact Ad rfl g
   |skip
  all_goals
   refine AH AZ (CO e1 hsz ex h1 h2' h3 (BY h4 kN kT kF)) hm AB AB AB AB AB ?_;exact AL rfl AA.out
 rw[g,Gd]at hb;cases p1<;>cases p2<;>cases p3<;>cases p4
 all_goals first
  |exact Ad g (by decide)
  |skip
 all_goals
  refine AH AZ (CO e1 hsz ex h1 h2' h3 (BY h4 kN kT kF)) hm AB AB AB AB AB ?_;refine AC.loop (α:=Nat×Nat) (λp=>⟨[(0,Al b l),(7,Al b l),(8,i64 (l.length:Int)),(9,i64 (i:Int)),(36,.sl false 2 (x.shs.map Av.D)),(37,i64 (x.shs.length:Int)),(38,i64 (p.1:Int))],[],p.2⟩) (λp=>x.shs.length-p.1) (λq=>q.1<=x.shs.length/\(x.shs.take q.1).all Av.shB=true) (0,_) ⟨BU _,rfl⟩ AJ ?_;clear h1 h2' h3 h4 g;rintro⟨j,n⟩ F ⟨hj,haj⟩;dsimp only at hj haj⊢;rcases BH j x.shs.length with g2|g2
  ·have e3:=Ck g2
   have wj:=Cc (i:=j) (by omega);obtain⟨y,hy⟩:=CU g2;have hmy:(x.shs.map Av.D)[j]?=some (.agg [str (sb y.lot),str (sb y.part)]):=by rw[A8,hy];rfl
   have hs1:=Cg y.lot;have hs2:=Cg y.part;obtain⟨r1,k1⟩:∃q,decide ((y.lot.length:Int)>100)=q:=⟨_,rfl⟩
   obtain⟨r2,k2⟩:∃q,decide ((y.part.length:Int)>14)=q:=⟨_,rfl⟩
   have hby:y.shB=(!r1 && !r2):=by
    unfold Av.shB;rw[<-k1,<-k2]
    congr 1
    ·rw[<-decide_not];exact C8.2 (by omega)
    ·rw[<-decide_not];exact C8.2 (by omega)
   have fin:y.shB=false->Gl l=false:=λh=>by
    have:x.shB=false:=by rw[hb,T6 hy h]
    unfold Gl;rw[T6 hx this];rfl
   cases r1
   ·cases r2
    ·refine AH AZ (CO e3 wj hs1 hs2 k1 k2 (As kN kT kF)) hmy AB AB AB AB AB ?_
     exact⟨(j+1,_),⟨g2,Xo hy haj hby⟩,by dsimp only;omega,AJ⟩
    ·rw[fin hby]
     refine AH AZ (CO e3 wj hs1 hs2 k1 k2 (As kN kT kF)) hmy AB AB AB AB AB ?_;exact AL rfl AA.out
   ·rw[fin hby]
    refine AH AZ (CO e3 wj hs1 hs2 k1 kN (Ah kT kF)) hmy AB AB AB AB AB ?_;exact AL rfl AA.out
  ·have e3:=Cj g2
   have:j=x.shs.length:=by omega
   subst this;rw[Cf]at haj;refine AH AZ (Ah e3 wi) AB AB AB AB AB AB ?_;exact⟨(i+1,_),⟨h2,Xo hx ha (hb.trans haj)⟩,by dsimp only;omega,AJ⟩
theorem qC {l:List AD}(h:Gl l=true):(∀x∈l,x.lite/\x.modr)/\l.length<=80/\(l.length<=8\/64<l.length):=by
 unfold Gl at h;simp only[BR,Jr,CQ,Gc]at h;obtain⟨h1,h2⟩:=h;refine⟨λx hx=>?_,by omega,by omega⟩;have hb:=h1 x hx;unfold AD.shB at hb;simp only[BR,Jr,CQ,Gc]at hb;obtain⟨⟨⟨b1,b2⟩,b3⟩,b4⟩:=hb;have hs:∀s∈x.shs,s.lot.length<=100/\s.part.length<=14:=λs hs=>by
  have:=b4 s hs
  unfold Av.shB at this;simpa using this
 have hl:x.lite:=⟨⟨by omega,by omega,λs q=>⟨by have:=(hs s q).1;omega,by have:=(hs s q).2;omega⟩⟩,λs q=>⟨by have:=(hs s q).1;omega,by have:=(hs s q).2;omega⟩⟩
 exact⟨hl,by omega,hl⟩
theorem D9 {l:List AD}(h:Bv l=0):l.length<=64/\(∀x∈l,1<=x.mass/\x.mass<=1000000000/\x.shs.length<=1000000)/\IJ l:=by
 obtain⟨g1,g2,g3⟩:=Lh h;have hx:∀x∈l,1<=x.mass/\x.mass<=1000000000/\x.shs.length<=1000000:=λx q=>by
  obtain⟨a,b,c,d⟩:=ON (g2 x q)
  have:=(XU d).2.1
  exact⟨by omega,by omega,by omega⟩
 exact⟨g1,hx,by omega,λx q=>by have:=hx x q;omega⟩
abbrev Qs:Dr:=[(4,[0,1,2,3,4,5,6,7,8,9,10,11,12,13,14],[15,16])]
open Go.Proofs Go.RowKit Go.Sort
set_option maxRecDepth 20000
set_option maxHeartbeats 4000000
structure Az where
 flow:List UInt8
 core:Int
 room:Int
 side:Int
 cells:List (List AD)
abbrev Ez (b:Bool)(cs:List (List AD)):D:=.sl b 1 (cs.map (Al false))
def Az.D (x:Az):D:=.agg [str (sb x.flow),i64 x.core,i64 x.room,i64 x.side,Ez false x.cells]
instance  (x:Az):AT x.D:=by unfold Az.D;exact AI
instance  (x:Az):AA x.D:=by unfold Az.D;exact AI
theorem U7 (b:Bool)(l:List AD)(hl:l.length<=9223372036854775807):AK C0 57 [Al b l] (i64 (C7 l)):=by
 refine Ak.walk w1 VJ rfl λF=>?_
 have el:(((l.map AD.D).length:Nat):Int)=(l.length:Int):=by rw[Ac]
 refine AH AZ el AB AB AB AB AB AB ?_;refine AC.loop (α:=Nat×Nat) (λp=>⟨[(3,i64 (C7 (l.take p.1))),(6,Al b l),(7,i64 (l.length:Int)),(8,i64 (p.1:Int))],[],p.2⟩) (λp=>l.length-p.1) (λp=>p.1<=l.length) (0,_) (BU _) AJ ?_;rintro⟨i,m⟩ F hi;dsimp only at hi⊢;rcases BH i l.length with h2|h2
 rotate_left
 ·have e1:=Cj h2
  have:i=l.length:=by omega
  subst this;rw[Cf];refine AH AZ e1 AB AB AB AB AB AB ?_;exact AL rfl AA.out
 have e1:=Ck h2;have wi:=Cc (i:=i) (by omega);obtain⟨x,hx⟩:=CU h2;have hm:(l.map AD.D)[i]?=some (.agg [str (sb x.grain),i64 x.mass,.sl false 2 (x.shs.map Av.D)]):=by rw[A8,hx];rfl
 have wS:=(TZ hx).symm;refine AH AZ (BY e1 wi @wS kN) hm AB AB AB AB AB ?_;exact⟨(i+1,_),h2,by dsimp only;omega,AJ⟩
def C3 (n lo hi:Int):Bool:=decide (n>=lo)&&decide (n<=hi)
theorem Ob (n lo hi:Int):AK C0 95 [i64 n,i64 lo,i64 hi] (Aq (C3 n lo hi)):=by
 refine Ak.walk w1 eV rfl λF=>?_
 obtain⟨p,hp⟩:∃p,decide (n>=lo)=p:=⟨_,rfl⟩
 have hb:C3 n lo hi=(p&&decide (n<=hi)):=by unfold C3;rw[hp]
 rw[hb];cases p
 ·refine AH AZ (As hp kT kF) AB AB AB AB AB AB ?_
  exact AL rfl AA.out
 ·refine AH AZ (As hp kT kF) AB AB AB AB AB AB ?_
  exact AL rfl AA.out
def Ds (side:Int)(l:List Int):Bool:=(List.range (l.length-1)).any λi=>!C3 (IntKind.i64.wrap (l.getD (i+1) 0-l.getD i 0)) (IntKind.i64.wrap (0-side)) side
theorem Un {side:Int}{l:List Int}{i:Nat}(h:i+1<l.length)(hb:C3 (IntKind.i64.wrap (l.getD (i+1) 0-l.getD i 0)) (IntKind.i64.wrap (0-side)) side=false):Ds side l=true:=by
 unfold Ds;rw[List.any_eq_true];exact⟨i,List.mem_range.2 (by omega),by rw[hb];rfl⟩
theorem Uo {side:Int}{l:List Int}(h:∀i,i+1<l.length->C3 (IntKind.i64.wrap (l.getD (i+1) 0-l.getD i 0)) (IntKind.i64.wrap (0-side)) side=true):Ds side l=false:=by
 unfold Ds;rw[List.any_eq_false];intro i hi
 have:=List.mem_range.1 hi
 rw[h i (by omega)];decide
theorem qO (x:Az)(b:Bool)(l:List Int)(hl:l.length<=1000000):AK C0 65 [x.D,.sl b 1 (Bk l)] (i64 (if Ds x.side l then 17 else 0)):=by
 refine Ak.walk w1 du rfl λF=>?_
 have el:((Bk l).length:Int)=(l.length:Int):=by rw[Ac]
 have elN:(Bk l).length=l.length:=Ac ..;unfold Az.D;obtain⟨cd,hcd⟩:∃d,Ez false x.cells=d:=⟨_,rfl⟩
 have pcd:AA cd:=by rw[<-hcd];exact AI
 have ncd:JV cd=true:=by rw[<-hcd];rfl
 rw[hcd];refine AH Qs el AB AB AB AB AB AB ?_;refine AC.loop (α:=Nat×Nat) (λp=>⟨[(1,.sl b 1 (Bk l)),(2,.optr 0 0 5 0 0),(5,i64 ((p.1+1:Nat):Int))],[⟨0,0,24,5,[.agg [str (sb x.flow),i64 x.core,i64 x.room,i64 x.side,cd]]⟩],p.2⟩) (λp=>l.length-p.1) (λp=>p.1<=l.length/\∀j,j<p.1->C3 (IntKind.i64.wrap (l.getD (j+1) 0-l.getD j 0)) (IntKind.i64.wrap (0-x.side)) x.side=true) (0,_) ⟨BU _,λj h=>Ad h (HR j)⟩ AJ ?_;rintro⟨i,m⟩ F ⟨hi,ha⟩;dsimp only at hi ha⊢;rcases BH (i+1) l.length with h2|h2
 rotate_left
 ·have e1:=Cj h2
  rw[Uo λj hj=>ha j (by omega)];refine AH Qs (Ah el e1) AB AB AB AB AB AB ?_;exact AL rfl AA.out
 have e1:=Ck h2;have wi:=Cc (i:=i+1) (by omega);have w2:IntKind.i64.wrap (((i+1:Nat):Int)-1)=((i:Nat):Int):=by rw[wI (by omega) (by omega)];omega
 have hm1:=O8 (l:=l) (i:=i+1) h2;have hm2:=O8 (l:=l) (i:=i) (by omega);have cW:=Ob (IntKind.i64.wrap (l.getD (i+1) 0-l.getD i 0)) (IntKind.i64.wrap (0-x.side)) x.side;have hbad:=Un (side:=x.side) h2;obtain⟨u,hu⟩:∃u,l.getD (i+1) 0=u:=⟨_,rfl⟩
 obtain⟨v,hv⟩:∃u,l.getD i 0=u:=⟨_,rfl⟩
 have hgood:=λ(hq:C3 (IntKind.i64.wrap (u-v)) (IntKind.i64.wrap (0-x.side)) x.side=true) (j:Nat) (hj:j<i+1)=>show C3 (IntKind.i64.wrap (l.getD (j+1) 0-l.getD j 0)) (IntKind.i64.wrap (0-x.side)) x.side=true from by
  rcases BH j i with h|h
  ·exact ha j h
  ·have:j=i:=by omega
   subst this;rw[hu,hv];exact hq
 rw[hu]at hm1 cW hbad;rw[hv]at hm2 cW hbad;obtain⟨q,hq⟩:∃q,C3 (IntKind.i64.wrap (u-v)) (IntKind.i64.wrap (0-x.side)) x.side=q:=⟨_,rfl⟩
 rw[hq]at cW hbad hgood;obtain⟨L,hL⟩:∃L,Bk l=L:=⟨_,rfl⟩
 have pL:AA (.sl b 1 L):=by rw[<-hL];exact AI
 rw[hL]at hm1 hm2 el⊢;cases q
 ·rw[hbad rfl]
  refine AH Qs (CH el e1 w2 wi kN) hm1 hm2 cW AB AB AB ?_;exact AL rfl AA.out
 ·refine AH Qs (CH el e1 w2 wi kN) hm1 hm2 cW AB AB AB ?_
  exact⟨(i+1,_),⟨by omega,hgood rfl⟩,by dsimp only;omega,AJ⟩
def Au (x:Az):List Int:=x.cells.map C7
theorem n9 (x:Az)(hl:x.cells.length<=1000000)(hc:∀c∈x.cells,c.length<=9223372036854775807):AK C0 48 [x.D] (.sl false 1 (Bk (Au x))):=by
 refine Ak.walk w1 VI rfl λF=>?_
 obtain⟨cs,hcs⟩:∃c,x.cells=c:=⟨_,rfl⟩
 have hlv:Au x=cs.map C7:=by unfold Au;rw[hcs]
 rw[hlv];rw[hcs]at hl hc;have el:(((cs.map (Al false)).length:Nat):Int)=(cs.length:Int):=by rw[Ac]
 unfold Az.D;rw[hcs];refine sR 0 ?_;refine sR 100 ?_;refine AC.seq ?_;refine sZ 200 ?_;refine AU el ?_;refine AC.ghost 504 3 1 [(3,.osl 504 _ 1 0 0),(7,Ez false cs),(8,i64 (cs.length:Int)),(9,i64 ((0:Nat):Int))] ⟨.inr ⟨rfl,rfl⟩,.inl rfl,.inl rfl,.inl rfl,trivial⟩ ?_;refine AC.block ?_;refine AC.loop (α:=Nat×Nat×Nat) (λp=>⟨[(3,.osl 504 p.2.1 1 0 p.1),(7,Ez false cs),(8,i64 (cs.length:Int)),(9,i64 (p.1:Int))],[⟨504,p.2.1,3,1,Bk ((cs.take p.1).map C7)⟩],p.2.2⟩) (λp=>cs.length-p.1) (λq=>q.1<=cs.length) (0,_,_) (BU _) AJ ?_;rintro⟨i,g,n⟩ F hi;dsimp only at hi⊢;rcases BH i cs.length with h2|h2
 rotate_left
 ·have e1:=Cj h2
  have:i=cs.length:=by omega
  subst this;rw[Cf];have hf:=Gj (H:=[⟨504,g,3,1,Bk (cs.map C7)⟩]) (Hf:=[]) (k:=504) (g:=g) (T:=3) (sz:=1) (l:=Bk (cs.map C7)) rfl;rw[Ac,Ac]at hf;refine AH AZ e1 AB AB AB AB AB AB ?_;exact⟨_,hf,AA.out,rfl⟩
 have e1:=Ck h2;have wi:=Cc (i:=i) (by omega);obtain⟨c,hc'⟩:=CU h2;have hm:(cs.map (Al false))[i]?=some (.sl false 3 (c.map AD.D)):=by rw[A8,hc'];rfl
 have cT:=U7 false c (hc c (Aw hc'));have ht:Bk ((cs.take (i+1)).map C7)=Bk ((cs.take i).map C7)++[i64 (C7 c)]:=by
  rw[Da,hc',Cq];unfold Bk;rw[Cq];rfl
 have htl:(Bk ((cs.take i).map C7)).length=i:=by rw[Ac,Ac,Bd];omega
 obtain⟨R,hR⟩:∃R,Bk ((cs.take i).map C7)=R:=⟨_,rfl⟩
 rw[hR]at ht htl⊢;refine AH AZ (As e1 wi kN) hm cT AB AB AB AB ?_;refine⟨(i+1,n+1+1+1+1+1+1+1+1,n+1000),h2,by dsimp only;omega,?_⟩;dsimp only;rw[ht,B8 (show R.length<=i by omega)];exact AJ
open Go.ChangeShapes Go.WideShapes
def Az.fit (x:Az):Prop:=x.cells.length<=maxLen/\∀c∈x.cells,c.length<=maxLen/\∀y∈c,y.shs.length<=maxLen
section
variable {H:Type} {enc:TypeId×Value->H} {W:World} {fuel:Nat} {cs:List Value} {x:DataW H×List MemPlace} {t:TypeId}
theorem nC (h:DataW.trod enc Tryz.prog W 0 (λ_=>true) true fuel 22 cs=some x):∃l:List (List AD),Dl W cs [Ez false l]/\(∀c∈l,c.length<=maxLen/\∀y∈c,y.shs.length<=maxLen)/\l.length<=maxLen:=
 VO (g:=Al false) (ok:=λc=>c.length<=maxLen/\∀y∈c,y.shs.length<=maxLen) (e:=38) (sz:=1) (by kernel_rfl) (by kernel_rfl) (by decide) (λ_ _ _ h=>by
  obtain⟨l,h1,h2,h3⟩:=lH h;exact⟨l,h1,h3,h2⟩) h
theorem vT (h:DataW.trod enc Tryz.prog W 0 (λ_=>true) true fuel 24 cs=some x):∃s:Az,Dl W cs s.D.cells/\s.fit:=by
 obtain⟨h1,n,h2⟩:=VP (l:=[(9,0,1),(3,1,1),(3,2,1),(3,3,1),(22,4,1)]) (m:=5) (by kernel_rfl) (by kernel_rfl) h;obtain⟨y0,k0⟩:=h2 0 _ _ _ rfl;obtain⟨y1,k1⟩:=h2 1 _ _ _ rfl;obtain⟨y2,k2⟩:=h2 2 _ _ _ rfl;obtain⟨y3,k3⟩:=h2 3 _ _ _ rfl;obtain⟨y4,k4⟩:=h2 4 _ _ _ rfl;obtain⟨a0,r0,_⟩:=TN k0;obtain⟨a1,r1⟩:=RO k1;obtain⟨a2,r2⟩:=RO k2;obtain⟨a3,r3⟩:=RO k3;obtain⟨a4,r4,hc,hl⟩:=nC k4;exact⟨⟨a0,a1,a2,a3,a4⟩,Uy h1 (Lm (b:=1) (c:=4) r0 (Lm (b:=1) (c:=3) r1 (Lm (b:=1) (c:=2) r2 (Lm (b:=1) (c:=1) r3 r4)))),hl,hc⟩
end
abbrev Lb:Dr:=[(2,[0,1,2,3,4,5,6,7,8,9,10,11,12,13,14,15,16,17,18,19,20,21,22,23,24,25,26,27,28,29,30,31,32],[33,34,35,36]),(8,[0,1,2,3,4,5,6,7],[8,9,10,11,12]),(12,[0,1,2],[3,4])]
open Go.Proofs Go.RowKit Go.Sort
set_option maxRecDepth 20000
set_option maxHeartbeats 4000000
def GN:ByteArray:=⟨#[109,97,115,115]⟩
def Iu:ByteArray:=⟨#[102,117,110,110,101,108]⟩
def Rr (x:Az):Bool:=(BK (sb x.flow) GN&&(x.core==0))||(BK (sb x.flow) Iu&&C3 x.core 2 999999999)
def L7 (x:Az):Int:=if !BK (sb x.flow) GN && !BK (sb x.flow) Iu then 20 else 0
def Kt (x:Az):Int:=if !Rr x || !C3 x.room 1 999999999 || !C3 x.side 0 999999999 then 3 else 0
def F9 (x:Az):Int:=Et [L7 x,Kt x,if(x.cells.length:Int)==0 then 2 else 0,if decide ((x.cells.length:Int)>8)then 5 else 0]
def DC (x:Az)(c:List AD):Int:=Et [(Bv c:Int),((if CM c then 0 else 16:Nat):Int),if decide (C7 c>x.room)then 14 else 0]
def EQ (x:Az):List (List AD)->Int
 | []=>0
 |c::r=>if DC x c≠0 then DC x c else EQ x r
def CE (x:Az):Int:=if F9 x≠0 then F9 x else if EQ x x.cells≠0 then EQ x x.cells else if Ds x.side (Au x)then 17 else 0
theorem qx (x:Az)(hl:x.cells.length<=1000000)(hc:∀c∈x.cells,c.length<=1000000/\∀y∈c,y.few):AK C0 47 [x.D] (i64 (CE x)):=by
 refine Ak.walk w1 d5 rfl λF=>?_
 have cLv:=n9 x hl λc h=>by have:=(hc c h).1;omega
 have cSt:=qO x false (Au x) (by unfold Au;rw[Ac];exact hl);have cC1:=Ob x.core 2 999999999;have cC2:=Ob x.room 1 999999999;have cC3:=Ob x.side 0 999999999;have cF:=Om [L7 x,Kt x,if(x.cells.length:Int)==0 then 2 else 0,if decide ((x.cells.length:Int)>8)then 5 else 0] (by simp);have hF:Et [L7 x,Kt x,if(x.cells.length:Int)==0 then 2 else 0,if decide ((x.cells.length:Int)>8)then 5 else 0]=F9 x:=rfl;rw[hF]at cF;have cW3:=IS ((x.cells.length:Int)==0) 2;have cW4:=IS (decide ((x.cells.length:Int)>8)) 5;obtain⟨cs,hcs⟩:∃c,x.cells=c:=⟨_,rfl⟩
 have el:(((cs.map (Al false)).length:Nat):Int)=(cs.length:Int):=by rw[Ac]
 obtain⟨H,hH⟩:∃h,F9 x=h:=⟨_,rfl⟩
 have hB:CE x=if H≠0 then H else if EQ x x.cells≠0 then EQ x x.cells else if Ds x.side (Au x)then 17 else 0:=by unfold CE;rw[hH]
 obtain⟨K1,hK1⟩:∃h,L7 x=h:=⟨_,rfl⟩
 obtain⟨K2,hK2⟩:∃h,Kt x=h:=⟨_,rfl⟩
 obtain⟨CB,hCB⟩:∃h,Rr x=h:=⟨_,rfl⟩
 rw[hK1,hK2,hH]at cF;rw[hB];rw[hcs]at cF cW3 cW4 hl hc⊢;unfold Az.D at cLv cSt⊢;rw[hcs]at cLv cSt⊢;refine sR 0 ?_;refine EX ⟨[(1,.optr 0 0 5 0 0),(3,Aq CB)],[⟨0,0,24,5,[.agg [str (sb x.flow),i64 x.core,i64 x.room,i64 x.side,Ez false cs]]⟩],100⟩ ?_ ?_
 ·obtain⟨p1,h1⟩:∃q,BK (sb x.flow) ⟨#[109,97,115,115]⟩=q:=⟨_,rfl⟩
  obtain⟨p2,h2⟩:∃q,BK (sb x.flow) ⟨#[102,117,110,110,101,108]⟩=q:=⟨_,rfl⟩
  obtain⟨c0,h0⟩:∃q,(x.core==0)=q:=⟨_,rfl⟩
  have hb:CB=((p1&&c0)||(p2&&C3 x.core 2 999999999)):=by rw[<-hCB,<-h1,<-h2,<-h0];rfl
  rw[hb];cases p1<;>cases p2<;>cases c0
  all_goals
   refine AH Lb (CH h1 h2 h0 kT kF) cC1 AB AB AB AB AB ?_;exact⟨trivial,AJ⟩
 refine EX ⟨[(1,.optr 0 0 5 0 0),(4,i64 H)],[⟨0,0,24,5,[.agg [str (sb x.flow),i64 x.core,i64 x.room,i64 x.side,Ez false cs]]⟩],1000⟩ ?_ ?_
 ·obtain⟨p1,h1⟩:∃q,BK (sb x.flow) ⟨#[109,97,115,115]⟩=q:=⟨_,rfl⟩
  obtain⟨p2,h2⟩:∃q,BK (sb x.flow) ⟨#[102,117,110,110,101,108]⟩=q:=⟨_,rfl⟩
  obtain⟨wr,hr⟩:∃q,C3 x.room 1 999999999=q:=⟨_,rfl⟩
  obtain⟨ws,hw⟩:∃q,C3 x.side 0 999999999=q:=⟨_,rfl⟩
  have e1:L7 x=if !p1 && !p2 then 20 else 0:=by rw[<-h1,<-h2];rfl
  have e2:Kt x=if !CB || !wr || !ws then 3 else 0:=by rw[<-hCB,<-hr,<-hw];rfl
  have cA:=IS (!p1 && !p2) 20;have cB:=IS (!CB || !wr || !ws) 3;rw[<-e1,hK1]at cA;rw[<-e2,hK2]at cB;rw[hr]at cC2;rw[hw]at cC3;clear e1 e2 hcs hK1 hK2 hCB hF cC1 cLv cSt hr hw;cases p1<;>cases p2<;>cases CB<;>cases wr
  all_goals
   refine AH Lb (CH h1 h2 el kT kF) cA cC2 cC3 cB cW3 cW4 ?_;refine BE.same _ cF AI ?_;refine BP ?_;exact⟨trivial,AJ⟩
 by_cases hH0:H=0
 rotate_left
 ·have e1:(H != 0)=true:=KQ hH0
  rw[AG hH0];refine AH Lb e1 AB AB AB AB AB AB ?_;exact AL rfl AA.out
 have e1:(H != 0)=false:=by rw[hH0];rfl
 rw[AF (λh=>h hH0)];clear cC1 cC2 cC3 cF cW3 cW4 hK1 hK2 hCB hF hB;refine AH Lb (Ah e1 el) AB AB AB AB AB AB ?_;refine AC.loop (α:=Nat×Nat) (λp=>⟨[(1,.optr 0 0 5 0 0),(66,Ez false cs),(67,i64 (cs.length:Int)),(68,i64 (p.1:Int))],[⟨0,0,24,5,[.agg [str (sb x.flow),i64 x.core,i64 x.room,i64 x.side,Ez false cs]]⟩],p.2⟩) (λp=>cs.length-p.1) (λq=>q.1<=cs.length/\EQ x (cs.drop q.1)=EQ x cs) (0,_) ⟨BU _,rfl⟩ AJ ?_;rintro⟨i,n⟩ F ⟨hi,hJ⟩;dsimp only at hi hJ⊢;rcases BH i cs.length with h2|h2
 rotate_left
 ·have k1:=Cj h2
  have:i=cs.length:=by omega
  subst this;rw[JA]at hJ;rw[AF (λh=>h (by rw[<-hJ];rfl))];have pLv:AA (.sl false 1 (Bk (Au x))):=AI;refine AH Lb k1 cLv cSt AB AB AB AB ?_;exact AL rfl AA.out
 have k1:=Ck h2;have wi:=Cc (i:=i) (by omega);obtain⟨c,hc'⟩:=CU h2;have hm:(cs.map (Al false))[i]?=some (.sl false 3 (c.map AD.D)):=by rw[A8,hc'];rfl
 obtain⟨hc1,hc2⟩:=hc c (Aw hc');have cP:=NI false c (by omega) hc2;have cG:=Xd false c hc1;have cT:=U7 false c (by omega);have cW:=IS (decide (C7 c>x.room)) 14;have cE:=Om [(Bv c:Int),((if CM c then 0 else 16:Nat):Int),if decide (C7 c>x.room)then 14 else 0] (by simp);have hE:Et [(Bv c:Int),((if CM c then 0 else 16:Nat):Int),if decide (C7 c>x.room)then 14 else 0]=DC x c:=rfl;rw[hE]at cE;have hd:cs.drop i=c::cs.drop (i+1):=by
  have:=List.getElem?_eq_some_iff.1 hc'
  rw[ET this.1,this.2]
 rw[hd]at hJ;have hJ2:EQ x cs=if DC x c≠0 then DC x c else EQ x (cs.drop (i+1)):=hJ.symm
 obtain⟨E,hEE⟩:∃E,DC x c=E:=⟨_,rfl⟩
 rw[hEE]at cE hJ2
 by_cases hE0:E=0
 ·have k2:(E != 0)=false:=by rw[hE0];rfl
  rw[AF (λh=>h hE0)]at hJ2;refine AH Lb (BY k1 k2 wi kN) hm cP cG cT cW cE ?_;exact⟨(i+1,_),⟨h2,hJ2.symm⟩,by dsimp only;omega,AJ⟩
 ·have k2:(E != 0)=true:=KQ hE0
  rw[AG hE0]at hJ2;rw[hJ2,AG hE0];refine AH Lb (BY k1 k2 wi kN) hm cP cG cT cW cE ?_;exact AL rfl AA.out
abbrev Qt:Dr:=[(4,[0,1,2,3,4,5,6,7,8,9],[10])]
open Go.Proofs Go.RowKit Go.Sort
set_option maxRecDepth 20000
set_option maxHeartbeats 4000000
theorem Re (x:Az)(i:Nat)(c:List AD)(hc:x.cells[i]?=some c)(hs:IJ c)(hl:x.cells.length<=1000000):AK C0 17 [x.D,i64 (i:Int)] (i64 (Am c)):=by
 refine Ak.walk w1 wA rfl λF=>?_
 have cM:=VQ false c hs;have hi:=(List.getElem?_eq_some_iff.1 hc).1;obtain⟨cs,hcs⟩:∃c,x.cells=c:=⟨_,rfl⟩
 unfold Az.D;rw[hcs]at hc hl hi⊢;have hm:(cs.map (Al false))[i]?=some (.sl false 3 (c.map AD.D)):=by rw[A8,hc];rfl
 have hml:(cs.map (Al false)).length=cs.length:=Ac ..;obtain⟨K,hK⟩:∃K,cs.map (Al false)=K:=⟨_,rfl⟩
 have pK:AA (.sl false 1 K):=by rw[<-hK];exact AI
 show AC _ _ _ _ _ ⟨DN 0 [.agg [str (sb x.flow),i64 x.core,i64 x.room,i64 x.side,.sl false 1 (cs.map (Al false))],i64 (i:Int)],[],0⟩ _;rw[hK]at hm hml⊢;refine AH AZ kN hm cM AB AB AB AB ?_;exact AL rfl AA.out
theorem vR (u v:Int):AK C0 97 [i64 u,i64 v] (i64 (max (IntKind.i64.wrap (u-v)) (IntKind.i64.wrap (v-u)))):=by
 refine Ak.walk w1 wX rfl λF=>?_
 refine AH AZ kB AB AB AB AB AB AB ?_;exact AL rfl AA.out
theorem fB (x:Az)(hl:x.cells.length<=1000000)(hc:∀c∈x.cells,IJ c/\0<=Am c/\Am c<=999999999)(hside:0<=x.side/\x.side<=999999999):AK C0 51 [x.D] (Aq (!Ds x.side (Au x))):=by
 refine Ak.walk w1 xT rfl λF=>?_
 have hlvl:=λ(i:Nat) (c:List AD) (h:x.cells[i]?=some c)=>Re x i c h (hc c (Aw h)).1 hl
 have hlv:∀(i:Nat) (c:List AD),x.cells[i]?=some c->(Au x).getD i 0=Am c:=λi c h=>by
  unfold Au;rw[DR,A8,h];exact KG (hc c (Aw h)).1
 have hlen:(Au x).length=x.cells.length:=by unfold Au;rw[Ac]
 obtain⟨cs,hcs⟩:∃c,x.cells=c:=⟨_,rfl⟩
 have el:(((cs.map (Al false)).length:Nat):Int)=(cs.length:Int):=by rw[Ac]
 unfold Az.D at hlvl⊢;rw[hcs]at hlvl hlv hlen hl hc⊢;refine AH Qt kB AB AB AB AB AB AB ?_;refine AC.loop (α:=Nat×Nat) (λp=>⟨[(1,.optr 0 0 5 0 0),(3,i64 ((p.1+1:Nat):Int))],[⟨0,0,24,5,[.agg [str (sb x.flow),i64 x.core,i64 x.room,i64 x.side,Ez false cs]]⟩],p.2⟩) (λp=>cs.length-p.1) (λp=>p.1<=cs.length/\∀j,j<p.1->C3 (IntKind.i64.wrap ((Au x).getD (j+1) 0-(Au x).getD j 0)) (IntKind.i64.wrap (0-x.side)) x.side=true) (0,_) ⟨BU _,λj h=>Ad h (HR j)⟩ AJ ?_;rintro⟨i,m⟩ F ⟨hi,ha⟩;dsimp only at hi ha⊢;rcases BH (i+1) cs.length with h2|h2
 rotate_left
 ·have e1:=Cj h2
  rw[Uo (side:=x.side) (l:=Au x) λj hj=>ha j (by omega)];refine AH Qt (Ah el e1) AB AB AB AB AB AB ?_;exact AL rfl AA.out
 have e1:=Ck h2;have wi:=Cc (i:=i+1) (by omega);have w2:IntKind.i64.wrap (((i+1:Nat):Int)-1)=((i:Nat):Int):=by rw[wI (by omega) (by omega)];omega
 obtain⟨c,hc1⟩:=CU (show i<cs.length by omega);obtain⟨d,hd1⟩:=CU h2;have c1:=hlvl i c hc1;have c2:=hlvl (i+1) d hd1;have v1:=hlv i c hc1;have v2:=hlv (i+1) d hd1;obtain⟨-,a1,a2⟩:=hc c (Aw hc1);obtain⟨-,b1,b2⟩:=hc d (Aw hd1);have c3:=vR (Am c) (Am d);have hbad:=Un (side:=x.side) (l:=Au x) (i:=i) (by omega);rw[v1,v2]at hbad;have q1:IntKind.i64.wrap (Am c-Am d)=Am c-Am d:=wI (by omega) (by omega);have q2:IntKind.i64.wrap (Am d-Am c)=Am d-Am c:=wI (by omega) (by omega);have q3:IntKind.i64.wrap (0-x.side)=0-x.side:=wI (by omega) (by omega);rw[q1,q2]at c3
 by_cases hg:max (Am c-Am d) (Am d-Am c)>x.side
 ·have e2:decide (max (Am c-Am d) (Am d-Am c)>x.side)=true:=AX hg
  rw[hbad (by rw[q2,q3];unfold C3;rw[Bool.and_eq_false_iff,If,If];omega)];refine AH Qt (Dp el e1 e2 w2 wi kN) c1 c2 c3 AB AB AB ?_;exact AL rfl AA.out
 ·have e2:decide (max (Am c-Am d) (Am d-Am c)>x.side)=false:=Ag hg
  refine AH Qt (Dp el e1 e2 w2 wi kN) c1 c2 c3 AB AB AB ?_;refine⟨(i+1,_),⟨by omega,λj hj=>?_⟩,by dsimp only;omega,AJ⟩;rcases BH j i with h|h
  ·exact ha j h
  ·have:j=i:=by dsimp only at hj;omega
   subst this;rw[v1,v2,q2,q3];unfold C3;rw[BR,decide_eq_true_iff,decide_eq_true_iff];omega
theorem YR {l:List UInt8}(h:BK (sb l) GN=true):BK (sb l) Iu=false:=by
 have h1:BK (sb l) (sb [109,97,115,115])=true:=h;rw[LW]at h1;rw[DE h1];show BK (sb [109,97,115,115]) (sb [102,117,110,110,101,108])=false;rw[LW];decide
def Kq (x:Az):Bool:=(BK (sb x.flow) GN&&(x.core != 0))||(BK (sb x.flow) Iu&&(decide (x.core<2)||decide (x.core>999999999)))||decide (x.room<1)||decide (x.room>999999999)||decide (x.side<0)||decide (x.side>999999999)
theorem ul {x:Az}(h:(!BK (sb x.flow) GN && !BK (sb x.flow) Iu)=false):Kt x=if Kq x then 3 else 0:=by
 have hx:=@YR x.flow;unfold Kt Kq Rr C3;obtain⟨p1,h1⟩:∃q,BK (sb x.flow) GN=q:=⟨_,rfl⟩
 obtain⟨p2,h2⟩:∃q,BK (sb x.flow) Iu=q:=⟨_,rfl⟩
 rw[h1,h2]at h hx⊢;have e:(!(p1&&x.core==0||p2&&(decide (x.core>=2)&&decide (x.core<=999999999))) || !(decide (x.room>=1)&&decide (x.room<=999999999)) || !(decide (x.side>=0)&&decide (x.side<=999999999)))
   = (p1&&x.core != 0||p2&&(decide (x.core<2)||decide (x.core>999999999))||decide (x.room<1)||decide (x.room>999999999)||decide (x.side<0)||decide (x.side>999999999)):=by
  cases p1<;>cases p2
  ·cases h
  ·rw[Fk];simp;omega
  ·rw[Fk];simp;omega
  ·cases hx rfl
 rw[e]
theorem Rb (x:Az):F9 x=if(!BK (sb x.flow) GN && !BK (sb x.flow) Iu)=true then 20 else if Kq x=true then 3 else if x.cells.length=0 then 2 else if 8<x.cells.length then 5 else 0:=by
 unfold F9 L7;cases h:(!BK (sb x.flow) GN && !BK (sb x.flow) Iu)
 ·rw[ul h,AF Bool.false_ne_true,AF Bool.false_ne_true]
  cases Kq x
  ·rw[AF Bool.false_ne_true,AF Bool.false_ne_true]
   by_cases h0:x.cells.length=0
   ·rw[AG h0,h0];rfl
   ·have:((x.cells.length:Int)==0)=false:=Br.2 (by omega)
    rw[AF h0,this]
    by_cases h8:8<x.cells.length
    ·rw[AG h8,show decide ((x.cells.length:Int)>8)=true from AX (by omega)];rfl
    ·rw[AF h8,show decide ((x.cells.length:Int)>8)=false from Ag (by omega)];rfl
  ·rfl
 ·rfl
theorem S0 {x:Az}:∀ {l:List (List AD)},EQ x l=0->∀c∈l,DC x c=0
 | [],_,c,h=>by cases h
 |d::r,h,c,hc=>by
  have h1:(if DC x d≠0 then DC x d else EQ x r)=0:=h
  by_cases h0:DC x d=0
  ·rw[AF (λq=>q h0)]at h1
   rcases BG.1 hc with rfl|h2
   ·exact h0
   ·exact S0 h1 c h2
  ·rw[AG h0]at h1;exact Ad h1 h0
theorem Le:∀ {l:List AD},(∀x∈l,0<=x.mass)->0<=Am l
 | [],_=>Int.le_refl _
 |x::l,h=>by
  have h1:=h x (CG ..);have h2:=Le λy hy=>h y (CK _ hy)
  have:Am (x::l)=x.mass+Am l:=by unfold Am;rfl
  omega
theorem Fr {x:Az}{c:List AD}(h:DC x c=0):Bv c=0/\CM c=true/\IJ c/\0<=Am c/\Am c<=999999999/\Am c<=x.room:=by
 have h1:(if(Bv c:Int)≠0 then(Bv c:Int)else if((if CM c then 0 else 16:Nat):Int)≠0 then((if CM c then 0 else 16:Nat):Int)else if(if decide (C7 c>x.room)then(14:Int)else 0)≠0 then(if decide (C7 c>x.room)then(14:Int)else 0)else 0)=0:=h
 by_cases hp:Bv c=0
 rotate_left
 ·rw[AG (by omega)]at h1;omega
 rw[hp,AF (λq=>q rfl)]at h1;obtain⟨g1,g2,g3⟩:=D9 hp;have g4:=(Lh hp).2.2;have hT:=KG g3;have g5:0<=Am c:=Le λy hy=>by have:=(g2 y hy).1;omega
 cases hg:CM c
 ·rw[hg]at h1;cases h1
 rw[hg,AF (by decide)]at h1;refine⟨hp,rfl,g3,g5,g4,?_⟩;rw[hT]at h1
 by_cases hr:Am c>x.room
 ·rw[AX hr]at h1;cases h1
 ·omega
theorem nm {x:Az}{c:List AD}(h:Bv c≠0):DC x c=(Bv c:Int):=by
 show(if(Bv c:Int)≠0 then _ else _)=_;rw[AG (by omega)]
theorem q8 {x:Az}{c:List AD}(h:Bv c=0)(hg:CM c=false):DC x c=16:=by
 show(if(Bv c:Int)≠0 then _ else if((if CM c then 0 else 16:Nat):Int)≠0 then((if CM c then 0 else 16:Nat):Int)else _)=_;rw[h,hg];rfl
theorem l5 {x:Az}{c:List AD}(h:Bv c=0)(hg:CM c=true)(hr:Am c>x.room):DC x c=14:=by
 have hT:=KG (D9 h).2.2;show(if(Bv c:Int)≠0 then _ else if((if CM c then 0 else 16:Nat):Int)≠0 then((if CM c then 0 else 16:Nat):Int)else if(if decide (C7 c>x.room)then(14:Int)else 0)≠0 then(if decide (C7 c>x.room)then(14:Int)else 0)else 0)=_;rw[h,hg,hT,AX hr];rfl
theorem Xs {x:Az}{c:List AD}(h:Bv c=0)(hg:CM c=true)(hr:¬Am c>x.room):DC x c=0:=by
 have hT:=KG (D9 h).2.2;show(if(Bv c:Int)≠0 then _ else if((if CM c then 0 else 16:Nat):Int)≠0 then((if CM c then 0 else 16:Nat):Int)else if(if decide (C7 c>x.room)then(14:Int)else 0)≠0 then(if decide (C7 c>x.room)then(14:Int)else 0)else 0)=_;rw[h,hg,hT,Ag hr];rfl
abbrev D8:Dr:=[(17,[0,1,2,3,4],[5])]
open Go.Proofs Go.RowKit Go.Sort
set_option maxRecDepth 20000
set_option maxHeartbeats 4000000
theorem UJ (x:Az)(hl:x.cells.length<=1000000)(hc:∀c∈x.cells,c.length<=1000000/\∀y∈c,y.modr):AK C0 12 [x.D] (i64 (CE x)):=by
 refine Ak.walk w1 vt rfl λF=>?_
 have hB:CE x=if F9 x≠0 then F9 x else if EQ x x.cells≠0 then EQ x x.cells else if Ds x.side (Au x)then 17 else 0:=rfl
 have hH:=Rb x;have hlvl:=λ(i:Nat) (c:List AD) (h:x.cells[i]?=some c) (hs:IJ c)=>Re x i c h hs hl
 have hsafe:=λ(h1:∀c∈x.cells,DC x c=0) (h2:0<=x.side/\x.side<=999999999)=>fB x hl (λc hq=>by
  obtain⟨-,-,g1,g2,g3,-⟩:=Fr (h1 c hq);exact⟨g1,g2,g3⟩) h2
 obtain⟨p1,h1⟩:∃q,BK (sb x.flow) ⟨#[109,97,115,115]⟩=q:=⟨_,rfl⟩
 obtain⟨p2,h2⟩:∃q,BK (sb x.flow) ⟨#[102,117,110,110,101,108]⟩=q:=⟨_,rfl⟩
 have hex:p1=true->p2=false:=λq=>by rw[<-h2];exact YR (h1.trans q)
 have hr:Kq x=((p1&&(x.core != 0))||(p2&&(decide (x.core<2)||decide (x.core>999999999)))||decide (x.room<1)||decide (x.room>999999999)||decide (x.side<0)||decide (x.side>999999999)):=by rw[<-h1,<-h2];rfl
 rw[show BK (sb x.flow) GN=p1 from h1,show BK (sb x.flow) Iu=p2 from h2]at hH;obtain⟨R,hR⟩:∃r,Kq x=r:=⟨_,rfl⟩
 rw[hR]at hH hr;have hside:R=false->0<=x.side/\x.side<=999999999:=λq=>by
  rw[q]at hr
  have:=hr.symm
  simp only[JC,If]at this;omega
 obtain⟨cs,hcs⟩:∃c,x.cells=c:=⟨_,rfl⟩
 have el:(((cs.map (Al false)).length:Nat):Int)=(cs.length:Int):=by rw[Ac]
 unfold Az.D at hlvl hsafe⊢;rw[hcs]at hlvl hsafe hB hH hc hl⊢;refine sR 0 ?_;cases hk:(!p1 && !p2)
 rotate_left
 ·rw[AG hk]at hH
  rw[hH,AG (by decide)]at hB;rw[hB];have hp:p1=false/\p2=false:=by cases p1<;>cases p2<;>first|exact⟨rfl,rfl⟩|cases hk
  obtain⟨rfl,rfl⟩:=hp;refine AH D8 (BY h1 h2 kT kF) AB AB AB AB AB AB ?_;exact AL rfl AA.out
 rw[AF (by rw[hk];exact Bool.false_ne_true)]at hH;have hp:(p1=true/\p2=false)\/(p1=false/\p2=true):=by
  cases p1
  ·cases p2
   ·cases hk
   ·exact .inr ⟨rfl,rfl⟩
  ·exact .inl ⟨rfl,hex rfl⟩
 clear hex hk;refine EX ⟨[(1,.optr 0 0 5 0 0)],[⟨0,0,24,5,[.agg [str (sb x.flow),i64 x.core,i64 x.room,i64 x.side,Ez false cs]]⟩],100⟩ ?_ ?_
 ·rcases hp with⟨rfl,rfl⟩|⟨rfl,rfl⟩
  all_goals
   refine AH D8 (BY h1 h2 kT kF) AB AB AB AB AB AB ?_;exact⟨trivial,AJ⟩
 obtain⟨c0,e0⟩:∃q,(x.core != 0)=q:=⟨_,rfl⟩
 obtain⟨c1,e1⟩:∃q,decide (x.core<2)=q:=⟨_,rfl⟩
 obtain⟨c2,e2⟩:∃q,decide (x.core>999999999)=q:=⟨_,rfl⟩
 obtain⟨u1,r1⟩:∃q,decide (x.room<1)=q:=⟨_,rfl⟩
 obtain⟨u2,r2⟩:∃q,decide (x.room>999999999)=q:=⟨_,rfl⟩
 obtain⟨v1,s1⟩:∃q,decide (x.side<0)=q:=⟨_,rfl⟩
 obtain⟨v2,s2⟩:∃q,decide (x.side>999999999)=q:=⟨_,rfl⟩
 rw[e0,e1,e2,r1,r2,s1,s2]at hr;cases R
 rotate_left
 ·rw[AG rfl]at hH
  rw[hH,AG (by decide)]at hB;rw[hB];clear hlvl hsafe hB hH el;rcases hp with⟨rfl,rfl⟩|⟨rfl,rfl⟩
  ·cases c0
   rotate_left
   ·refine AH D8 (CO e0 e1 e2 r1 r2 s1 (CH s2 h1 h2 kT kF)) AB AB AB AB AB AB ?_
    exact AL rfl AA.out
   cases u1
   rotate_left
   ·refine AH D8 (CO e0 e1 e2 r1 r2 s1 (CH s2 h1 h2 kT kF)) AB AB AB AB AB AB ?_
    exact AL rfl AA.out
   cases u2
   rotate_left
   ·refine AH D8 (CO e0 e1 e2 r1 r2 s1 (CH s2 h1 h2 kT kF)) AB AB AB AB AB AB ?_
    exact AL rfl AA.out
   cases v1
   rotate_left
   ·refine AH D8 (CO e0 e1 e2 r1 r2 s1 (CH s2 h1 h2 kT kF)) AB AB AB AB AB AB ?_
    exact AL rfl AA.out
   cases v2
   rotate_left
   ·refine AH D8 (CO e0 e1 e2 r1 r2 s1 (CH s2 h1 h2 kT kF)) AB AB AB AB AB AB ?_
    exact AL rfl AA.out
   cases hr
  ·cases c1
   rotate_left
   ·refine AH D8 (CO e0 e1 e2 r1 r2 s1 (CH s2 h1 h2 kT kF)) AB AB AB AB AB AB ?_
    exact AL rfl AA.out
   cases c2
   rotate_left
   ·refine AH D8 (CO e0 e1 e2 r1 r2 s1 (CH s2 h1 h2 kT kF)) AB AB AB AB AB AB ?_
    exact AL rfl AA.out
   cases u1
   rotate_left
   ·refine AH D8 (CO e0 e1 e2 r1 r2 s1 (CH s2 h1 h2 kT kF)) AB AB AB AB AB AB ?_
    exact AL rfl AA.out
   cases u2
   rotate_left
   ·refine AH D8 (CO e0 e1 e2 r1 r2 s1 (CH s2 h1 h2 kT kF)) AB AB AB AB AB AB ?_
    exact AL rfl AA.out
   cases v1
   rotate_left
   ·refine AH D8 (CO e0 e1 e2 r1 r2 s1 (CH s2 h1 h2 kT kF)) AB AB AB AB AB AB ?_
    exact AL rfl AA.out
   cases v2
   rotate_left
   ·refine AH D8 (CO e0 e1 e2 r1 r2 s1 (CH s2 h1 h2 kT kF)) AB AB AB AB AB AB ?_
    exact AL rfl AA.out
   cases hr
 rw[AF Bool.false_ne_true]at hH;have hsd:=hside rfl;refine EX ⟨[(1,.optr 0 0 5 0 0)],[⟨0,0,24,5,[.agg [str (sb x.flow),i64 x.core,i64 x.room,i64 x.side,Ez false cs]]⟩],1000⟩ ?_ ?_
 ·clear hlvl hsafe hB hH
  cases v2
  rotate_left
  ·simp at hr
  cases v1
  rotate_left
  ·simp at hr
  cases u2
  rotate_left
  ·simp at hr
  cases u1
  rotate_left
  ·simp at hr
  rcases hp with⟨rfl,rfl⟩|⟨rfl,rfl⟩
  ·cases c0
   rotate_left
   ·cases hr
   refine AH D8 (CO e0 e1 e2 r1 r2 s1 (CH s2 h1 h2 kT kF)) AB AB AB AB AB AB ?_;exact⟨trivial,AJ⟩
  ·cases c1
   rotate_left
   ·cases hr
   cases c2
   rotate_left
   ·cases hr
   refine AH D8 (CO e0 e1 e2 r1 r2 s1 (CH s2 h1 h2 kT kF)) AB AB AB AB AB AB ?_;exact⟨trivial,AJ⟩
 clear hr e0 e1 e2 r1 r2 s1 s2 hp h1 h2 hR
 by_cases h0:cs.length=0
 ·rw[AG h0]at hH
  rw[hH,AG (by decide)]at hB;rw[hB];have k0:((cs.length:Int)==0)=true:=by rw[h0];rfl
  refine AH D8 (Ah el k0) AB AB AB AB AB AB ?_;exact AL rfl AA.out
 rw[AF h0]at hH;have k0:((cs.length:Int)==0)=false:=Br.2 (by omega)
 by_cases h8:8<cs.length
 ·rw[AG h8]at hH
  rw[hH,AG (by decide)]at hB;rw[hB];have k8:decide ((cs.length:Int)>8)=true:=AX (by omega);refine AH D8 (As el k0 k8) AB AB AB AB AB AB ?_;exact AL rfl AA.out
 rw[AF h8]at hH;rw[hH,AF (λh=>h rfl)]at hB;rw[hB];have k8:decide ((cs.length:Int)>8)=false:=Ag (by omega);clear hB hH hside;refine AH D8 (As el k0 k8) AB AB AB AB AB AB ?_;refine AC.loop (α:=Nat×Nat) (λp=>⟨[(1,.optr 0 0 5 0 0),(3,i64 (p.1:Int))],[⟨0,0,24,5,[.agg [str (sb x.flow),i64 x.core,i64 x.room,i64 x.side,Ez false cs]]⟩],p.2⟩) (λp=>cs.length-p.1) (λq=>q.1<=cs.length/\EQ x (cs.drop q.1)=EQ x cs) (0,_) ⟨BU _,rfl⟩ AJ ?_;rintro⟨i,n⟩ F ⟨hi,hJ⟩;dsimp only at hi hJ⊢;rcases BH i cs.length with h2|h2
 rotate_left
 ·have k1:=Cj h2
  have:i=cs.length:=by omega
  subst this;rw[JA]at hJ;have hz:EQ x cs=0:=hJ.symm;have cS:=hsafe (S0 hz) hsd;rw[AF (λh=>h hz)];cases hq:Ds x.side (Au x)
  ·rw[hq]at cS
   rw[AF Bool.false_ne_true];refine AH D8 (BY k1 el kT kF) cS AB AB AB AB AB ?_;exact AL rfl AA.out
  ·rw[hq]at cS
   rw[AG rfl];refine AH D8 (BY k1 el kT kF) cS AB AB AB AB AB ?_;exact AL rfl AA.out
 have k1:=Ck h2;have wi:=Cc (i:=i) (by omega);obtain⟨c,hc'⟩:=CU h2;have hm:(cs.map (Al false))[i]?=some (.sl false 3 (c.map AD.D)):=by rw[A8,hc'];rfl
 obtain⟨hc1,hc2⟩:=hc c (Aw hc');have cP:=fe false c hc1 hc2;have cG:=pn false c hc1;have hd:cs.drop i=c::cs.drop (i+1):=by
  have:=List.getElem?_eq_some_iff.1 hc'
  rw[ET this.1,this.2]
 rw[hd]at hJ;have hJ2:EQ x cs=if DC x c≠0 then DC x c else EQ x (cs.drop (i+1)):=hJ.symm
 by_cases hp:Bv c=0
 rotate_left
 ·rw[nm hp,AG (by omega)]at hJ2
  have k2:(((Bv c:Nat):Int) != 0)=true:=KQ (by omega);rw[AG (by rw[hJ2];omega),hJ2];refine AH D8 (BY k1 el k2 kN) hm cP AB AB AB AB ?_;exact AL rfl AA.out
 rw[hp]at cP;have k2:(((0:Nat):Int) != 0)=false:=rfl;have hsm:=(D9 hp).2.2;have cL:=hlvl i c hc' hsm;cases hg:CM c
 ·rw[hg]at cG
  rw[q8 hp hg,AG (by decide)]at hJ2;rw[AG (by rw[hJ2];decide),hJ2];refine AH D8 (Dp k1 el k2 kT kF kN) hm cP cG AB AB AB ?_;exact AL rfl AA.out
 rw[hg]at cG
 by_cases hrm:Am c>x.room
 ·have k3:decide (Am c>x.room)=true:=AX hrm
  rw[l5 hp hg hrm,AG (by decide)]at hJ2;rw[AG (by rw[hJ2];decide),hJ2];refine AH D8 (CO k1 el k2 k3 kT kF kN) hm cP cG cL AB AB ?_;exact AL rfl AA.out
 ·have k3:decide (Am c>x.room)=false:=Ag hrm
  rw[Xs hp hg hrm,AF (λh=>h rfl)]at hJ2;refine AH D8 (CO k1 el k2 k3 wi kT (Ah kF kN)) hm cP cG cL AB AB ?_;exact⟨(i+1,_),⟨h2,hJ2.symm⟩,by dsimp only;omega,AJ⟩
def Po (x:Az)(i:Int):Bool:=C3 i 0 ((x.cells.length:Int)-1)
def PF (x:Az)(ns:List Int):Int:=if CE x≠0 then CE x else if ns.any (λi=>!Po x i)then 10 else 0
def EK (x:Az)(i:Nat)(L:List AD):Az:=⟨x.flow,x.core,x.room,x.side,(x.cells.map BS).set i L⟩
theorem bu {H:Hp}{a b c d sD:D}{L:List D}(h:Fz H [] sD (.sl false 1 L)):Fz H [] (.agg [a,b,c,d,sD]) (.agg [a,b,c,d,.sl false 1 L]):=.agg rfl λi e e' h1 h2=>by
 match i with
 | 0=>cases h1;cases h2;exact .refl _
 | 1=>cases h1;cases h2;exact .refl _
 | 2=>cases h1;cases h2;exact .refl _
 | 3=>cases h1;cases h2;exact .refl _
 | 4=>cases h1;cases h2;exact h
 |n+5=>cases h1
abbrev KR:Dr:=[(7,[0,1,2,3,4],[5,6,7]),(8,[0,1,2,3,4,5,6,7,8],[9,10,11])]
open Go.Proofs Go.RowKit
set_option maxRecDepth 20000
set_option maxHeartbeats 4000000
def Sf (i k:Nat):Nat:=if k=i+1 then 705 else 809
def Vu (i k g:Nat):D:=if k=0 then CT else .osl (Sf i k) g 1 0 k
def Vv (i k g:Nat)(E:List D):Hp:=if k=0 then[]else[⟨Sf i k,g,38,1,E⟩]
theorem xw (x:Az)(i:Nat)(hi:i<x.cells.length)(hl:x.cells.length<=1000000)(hc:∀c∈x.cells,AK C0 21 [Al false c] (Al false (BS c)))(L:List AD)(hL:AK C0 21 [Al false L] (Al false (BS L))):AK C0 99 [x.D,i64 (i:Int),Al false L] (EK x i (BS L)).D:=by
 refine Ak.walk w1 wZ rfl λF=>?_
 obtain⟨cs,hcs⟩:∃c,x.cells=c:=⟨_,rfl⟩
 have hW:(EK x i (BS L)).D=.agg [str (sb x.flow),i64 x.core,i64 x.room,i64 x.side,.sl false 1 (((cs.map BS).set i (BS L)).map (Al false))]:=by rw[<-hcs];rfl
 have el:(((cs.map (Al false)).length:Nat):Int)=(cs.length:Int):=by rw[Ac]
 have pB:AA (EK x i (BS L)).D:=AI;rw[hW]at pB⊢;unfold Az.D;rw[hcs]at hi hl hc⊢;have hV:∀k c,cs[k]?=some c->(((cs.map BS).set i (BS L)).map (Al false))[k]?=some (if k=i then Al false (BS L)else Al false (BS c)):=λk c h=>by
  have hk:=(List.getElem?_eq_some_iff.1 h).1;rw[A8,List.getElem?_set,A8,h,Ac]
  by_cases hik:k=i
  ·subst hik;rw[AG rfl,AG hk,AG rfl];rfl
  ·rw[AF (λh=>hik h.symm),AF hik];rfl
 have hVl:(((cs.map BS).set i (BS L)).map (Al false)).length=cs.length:=by rw[Ac,DH,Ac]
 obtain⟨V,hVV⟩:∃V,((cs.map BS).set i (BS L)).map (Al false)=V:=⟨_,rfl⟩
 rw[hVV]at hV hVl pB⊢;refine AH KR (Ah el kN) AB AB AB AB AB AB ?_;refine AC.loop (α:=Nat×Nat×Nat) (λp=>⟨[(1,i64 (i:Int)),(2,Al false L),(3,.optr 0 0 5 0 0),(6,.optr 1 1 5 0 0),(7,.optr 101 3 5 0 0),(8,i64 (p.1:Int))],Vv i p.1 p.2.1 (V.take p.1)++[⟨101,3,24,5,[.agg [str (sb x.flow),i64 x.core,i64 x.room,i64 x.side,Vu i p.1 p.2.1]]⟩,⟨1,1,24,5,[.agg [.prim (.string ⟨#[]⟩),.prim (.int .i64 0),.prim (.int .i64 0),.prim (.int .i64 0),.prim (.slice none 0 0)]]⟩,⟨0,0,24,5,[.agg [str (sb x.flow),i64 x.core,i64 x.room,i64 x.side,Ez false cs]]⟩],p.2.2⟩) (λp=>cs.length-p.1) (λq=>q.1<=cs.length/\8<=q.2.2) (0,0,_) ⟨BU _,Af _⟩ AJ ?_;rintro⟨k,g,n⟩ F ⟨hk,hn⟩;dsimp only at hk hn⊢;rcases BH k cs.length with h2|h2
 rotate_left
 ·have k1:=Cj h2
  have:k=cs.length:=by omega
  subst this;unfold Vu Vv Sf;rw[AF (show ¬cs.length=0 by omega),AF (show ¬cs.length=0 by omega),B8 (show V.length<=cs.length by omega)]
  by_cases hK:cs.length=i+1
  ·rw[AG hK]
   have hR:=Gj (H:=[⟨705,g,38,1,V⟩,⟨101,3,24,5,[.agg [str (sb x.flow),i64 x.core,i64 x.room,i64 x.side,.osl 705 g 1 0 cs.length]]⟩,⟨1,1,24,5,[.agg [str (sb x.flow),i64 x.core,i64 x.room,i64 x.side,.osl 705 g 1 0 cs.length]]⟩,⟨0,0,24,5,[.agg [str (sb x.flow),i64 x.core,i64 x.room,i64 x.side,Ez false cs]]⟩]) (Hf:=[]) (k:=705) (g:=g) (T:=38) (sz:=1) (l:=V) rfl;rw[hVl]at hR;refine AH KR (Ah el k1) AB AB AB AB AB AB ?_;exact⟨_,bu hR,pB.out,rfl⟩
  ·rw[AF hK]
   have hR:=Gj (H:=[⟨809,g,38,1,V⟩,⟨101,3,24,5,[.agg [str (sb x.flow),i64 x.core,i64 x.room,i64 x.side,.osl 809 g 1 0 cs.length]]⟩,⟨1,1,24,5,[.agg [str (sb x.flow),i64 x.core,i64 x.room,i64 x.side,.osl 809 g 1 0 cs.length]]⟩,⟨0,0,24,5,[.agg [str (sb x.flow),i64 x.core,i64 x.room,i64 x.side,Ez false cs]]⟩]) (Hf:=[]) (k:=809) (g:=g) (T:=38) (sz:=1) (l:=V) rfl;rw[hVl]at hR;refine AH KR (Ah el k1) AB AB AB AB AB AB ?_;exact⟨_,bu hR,pB.out,rfl⟩
 have k1:=Ck h2;have wi:=Cc (i:=k) (by omega);obtain⟨c,hc'⟩:=CU h2;have hm:(cs.map (Al false))[k]?=some (.sl false 3 (c.map AD.D)):=by rw[A8,hc'];rfl
 have cN:=hc c (Aw hc');have hv:=hV k c hc';have hT:V.take (k+1)=V.take k++[if k=i then Al false (BS L)else Al false (BS c)]:=by rw[Da,hv];rfl
 have hEl:(V.take k).length=k:=by rw[Bd];omega
 have f1:∀l:List D,([]:List D)++l=l:=EZ;have f2:∀n,List.take n ([]:List D)=[]:=λn=>List.take_nil
 unfold Vu Vv Sf
 by_cases hki:k=i
 ·rw[AG hki]at hT
  have q1:((k:Int)==(i:Int))=true:=by rw[hki];exact beq_self_eq_true _
  by_cases hk0:k=0
  ·rw[AG hk0,AG hk0]
   rw[show V.take k=[]from by rw[hk0];rfl]at hT hEl;refine AH KR (CO k1 el q1 wi f1 f2 BV) hL AB AB AB AB AB ?_;subst hk0;refine⟨(0+1,n+1+1+1+1+1+1+1+1+8,n+1000),⟨h2,by dsimp only;omega⟩,by dsimp only;omega,?_⟩;dsimp only;rw[AF (show ¬ 0+1=0 by omega),AF (show ¬ 0+1=0 by omega),AG (show 0+1=i+1 by omega),hT];exact AJ
  ·rw[AF hk0,AF hk0,AF (show ¬k=i+1 by omega)]
   obtain⟨E,hE⟩:∃E,V.take k=E:=⟨_,rfl⟩
   rw[hE]at hT hEl⊢;have f3:List.take k E=E:=by rw[<-hEl];exact Cf
   refine AH KR (CH k1 el q1 wi f3) hL AB AB AB AB AB ?_;refine⟨(k+1,n+1+1+1+1+1+1+1+1+8,n+1000),⟨h2,by dsimp only;omega⟩,by dsimp only;omega,?_⟩;dsimp only;rw[AF (show ¬k+1=0 by omega),AF (show ¬k+1=0 by omega),AG (show k+1=i+1 by omega),hT];exact AJ
 ·rw[AF hki]at hT
  have q1:((k:Int)==(i:Int))=false:=Br.2 (by omega)
  by_cases hk0:k=0
  ·rw[AG hk0,AG hk0]
   rw[show V.take k=[]from by rw[hk0];rfl]at hT hEl;refine AH KR (CO k1 el q1 wi f1 f2 (Ah kN BV)) hm cN AB AB AB AB ?_;subst hk0;refine⟨(0+1,n+1+1+1+1+1+1+1+1+12,n+1000),⟨h2,by dsimp only;omega⟩,by dsimp only;omega,?_⟩;dsimp only;rw[AF (show ¬ 0+1=0 by omega),AF (show ¬ 0+1=0 by omega),AF (show ¬ 0+1=i+1 by omega),hT];exact AJ
  ·rw[AF hk0,AF hk0]
   obtain⟨E,hE⟩:∃E,V.take k=E:=⟨_,rfl⟩
   rw[hE]at hT hEl⊢;have f3:List.take k E=E:=by rw[<-hEl];exact Cf
   by_cases hK:k=i+1
   ·rw[AG hK]
    refine AH KR (Dp k1 el q1 wi f3 kN) hm cN AB AB AB AB ?_;refine⟨(k+1,n+1+1+1+1+1+1+1+1+12,n+1000),⟨h2,by dsimp only;omega⟩,by dsimp only;omega,?_⟩;dsimp only;rw[AF (show ¬k+1=0 by omega),AF (show ¬k+1=0 by omega),AF (show ¬k+1=i+1 by omega),hT];exact AJ
   ·rw[AF hK]
    refine AH KR (Dp k1 el q1 wi f3 kN) hm cN AB AB AB AB ?_;refine⟨(k+1,n+1+1+1+1+1+1+1+1+12,n+1000),⟨h2,by dsimp only;omega⟩,by dsimp only;omega,?_⟩;dsimp only;rw[AF (show ¬k+1=0 by omega),AF (show ¬k+1=0 by omega),AF (show ¬k+1=i+1 by omega),hT];exact AJ
end Go.Ide
namespace Go.Proofs
open Go.Shelf Go.RowKit Go.Lib
def Tryz.growLay_ren:Go.Shelf.Ren:=⟨fun|4=>104|n=>n,fun|22=>38|25=>80|3=>3|4=>4|9=>9|20=>20|0=>0|n=>n,fun|n=>n⟩
theorem zM:Go.Proofs.Lays8.n4 Tryz.prog Tryz.growLay_ren:={
 mixed:=by kernel_rfl
 f4:=⟨Tryz.f104.name,by decide,Tryz.func104.trans (congrArg some (by kernel_rfl))⟩
 t0:=Tryz.underlying0
 a0:=Tryz.isAgg0
 z0:=Tryz.sizeOf0
 v0:=Tryz.zeroValue0
 t3:=Tryz.underlying3
 a3:=Tryz.isAgg3
 z3:=Tryz.sizeOf3
 v3:=Tryz.zeroValue3
 t4:=Tryz.underlying4
 a4:=Tryz.isAgg4
 z4:=Tryz.sizeOf4
 v4:=Tryz.zeroValue4
 t9:=Tryz.underlying9
 a9:=Tryz.isAgg9
 z9:=Tryz.sizeOf9
 v9:=Tryz.zeroValue9
 t20:=Tryz.underlying20
 a20:=Tryz.isAgg20
 z20:=Tryz.sizeOf20
 v20:=Tryz.zeroValue20
 t22:=Tryz.underlying38
 a22:=Tryz.isAgg38
 z22:=Tryz.sizeOf38
 v22:=Tryz.zeroValue38 }
end Go.Proofs
namespace Go.Ide
open Go.Proofs Go.RowKit Go.Lib
set_option maxRecDepth 20000
set_option maxHeartbeats 4000000
theorem Jw (K n:Nat)(h0:0<n)(hn:n<=1000000)(H:Hp)(m:Nat):Cd C0 104 [CT,i64 (n:Int)] H m (λd H' n'=>d=.osl K m 3 0 0/\H'=⟨K,m,80,3,[]⟩::H/\n'=m+1):=by
 refine⟨by obtain⟨fn,a1,a2,a3,-⟩:=Z5;exact⟨fn,_,a1,a2,a3⟩,λF ρ w vs mm fr gn hsz rep=>?_⟩;obtain⟨v0,v1,rfl⟩:∃v0 v1,vs = #[v0,v1]:=by
  match vs,hsz with
  |⟨[a,b]⟩,_=>exact⟨a,b,rfl⟩
 have r0:AV ρ _ w CT v0:=rep 0 _ rfl;have r1:AV ρ _ w (i64 (n:Int)) v1:=rep 1 _ rfl;cases r0;cases r1;have hT:∃i,X1.tt 38=some i/\i.ti=.slice 80 3 48 (.agg #[.string ⟨#[]⟩,.int .i64 0,.slice none 0 0]):=⟨_,rfl,rfl⟩
 obtain⟨i,hi1,hi2⟩:=hT;obtain⟨-,⟨inf,k1,k2,k3,k4⟩,k5,k6⟩:=Eg (w1.tt _ _ hi1) hi2;have hc:=Any8.slices_Grow_grow zM inf _ k1 k4 (by rw[k2];decide) none 0 0 n [] w (Af _) (by omega) (by rw[k3];omega) (by omega) (by rw[k2];rfl) (λ_=>rfl) (λa h=>by cases h);refine Calls.mono hc ?_;rintro e w' ⟨rfl,rfl⟩;rw[show Tryz.growLay_ren.t 25=80 from rfl,BV];have hge:n<=grownCap w n 0 80:=grownCap_ge ..;have hmx:grownCap w n 0 80<=maxLen:=grownCap_le_maxLen _ _ _ _ (by simp only[maxLen];omega);generalize grownCap w n 0 80=cap at hge hmx⊢;obtain⟨z,hz⟩:∃z,(Value.agg #[.string ⟨#[]⟩,.int .i64 0,.slice none 0 0])=z:=⟨_,rfl⟩
 rw[hz]at k5 k6⊢;generalize hcs' : #[]++Builtin.zeroCells z.cells (n-0)++Builtin.zeroCells z.cells (cap-n)=cs';have hsz':cs'.size=cap*3:=by
  rw[<-hcs',I9,I9,size_zeroCells,size_zeroCells,k5];simp only[Jp,HN];omega
 have ho:DF ρ (AN F.X ρ H) w.drew ⟨K,m,80,3,[]⟩ cs':=by
  refine⟨by simp,λq d h=>by simp at h,λq v hv=>?_,λq d j c h=>by simp at h⟩;rw[<-hcs']at hv;rcases BH q (#[]++Builtin.zeroCells z.cells (n-0)).size with hq|hq
  ·rw[Ga hq,Array.empty_append]at hv
   exact P0 k6 _ _ v hv
  ·rw[GZ hq]at hv
   exact P0 k6 _ _ v hv
 obtain⟨m1,x1⟩:=mm.drew.alloc ⟨K,m,80,3,[]⟩ cs' (fr _ _ (Af _)) (λe' he' h=>Nat.ne_of_lt (gn e' he') h.2) ho;refine⟨_,_,_,_,_,rfl,⟨rfl,rfl,rfl⟩,m1,(BW.drew _ _ _).trans x1,λk g hg=>?_,λe he=>?_,?_⟩
 ·unfold Lk.put
  rw[AF λh=>by have:=h.2;dsimp only at this;omega];exact fr k g (by omega)
 ·rcases BG.1 he with rfl|he
  ·exact HQ _
  ·exact DJ (gn e he)
 ·exact PY (b:=w.heap.size) (T:=80) (cs:=cs') (fz:=(0,0)) (EN _ _ _ _) (by rw[EI];exact AG rfl) (BU _) hsz'.symm hmx
theorem XZ {vs:List (List AD)}{i:Nat}{l:List AD}(h:vs[i]?=some l):(vs.take (i+1)).flatten=(vs.take i).flatten++l:=by
 rw[Da,h];simp
theorem Yv {vs:List (List AD)}(i:Nat):(vs.take i).flatten.length<=vs.flatten.length:=by
 have:vs.flatten=(vs.take i).flatten++(vs.drop i).flatten:=by rw[<-List.flatten_append,E7]
 rw[this,Bc];omega
theorem jq (vs:List (List AD))(h0:vs.flatten≠[])(hl:vs.flatten.length<=1000000)(hv:vs.length<=1000000):AK C0 63 [.sl true 1 (vs.map (Al false))] (Al false vs.flatten):=by
 refine Ak.walk w1 dt rfl λF=>?_
 have el:(((vs.map (Al false)).length:Nat):Int)=(vs.length:Int):=by rw[Ac]
 have hpos:0<vs.flatten.length:=List.length_pos_iff.2 h0;have cG:=λm=>Jw 1302 vs.flatten.length hpos hl [] m
 refine AH AZ el AB AB AB AB AB AB ?_;refine AC.loop (α:=Nat×Nat) (λp=>⟨[(0,.sl true 1 (vs.map (Al false))),(3,i64 ((vs.take p.1).flatten.length:Int)),(9,.sl true 1 (vs.map (Al false))),(10,i64 (vs.length:Int)),(11,i64 (p.1:Int))],[],p.2⟩) (λp=>vs.length-p.1) (λq=>q.1<=vs.length) (0,_) (BU _) AJ ?_;rintro⟨i,n⟩ F hi;dsimp only at hi⊢;rcases BH i vs.length with h2|h2
 ·have e1:=Ck h2
  have wi:=Cc (i:=i) (by omega);obtain⟨x,hx⟩:=CU h2;have hm:(vs.map (Al false))[i]?=some (.sl false 3 (x.map AD.D)):=by rw[A8,hx];rfl
  have hs:=XZ hx;have hle:=Yv (vs:=vs) (i+1);have ex:(((x.map AD.D).length:Nat):Int)=(x.length:Int):=by rw[Ac]
  rw[hs,Bc]at hle;have w1':IntKind.i64.wrap (((vs.take i).flatten.length:Int)+(x.length:Int))=(((vs.take (i+1)).flatten.length:Nat):Int):=by
   rw[wI (by omega) (by omega),hs,Bc];omega
  have g0:decide ((((vs.take (i+1)).flatten.length:Nat):Int)<0)=false:=Ag (by omega);refine AH AZ (Dp e1 wi ex w1' g0 kN) hm AB AB AB AB AB ?_;exact⟨(i+1,_),h2,by dsimp only;omega,AJ⟩
 have e1:=Cj h2
 have:i=vs.length:=by omega
 subst this;rw[Cf];refine AH AZ e1 AB AB AB AB AB AB ?_;refine BE.own _ (cG _) ?_;rintro d H' n' ⟨rfl,rfl,rfl⟩;refine AH AZ el AB AB AB AB AB AB ?_;refine AC.loop (α:=Nat×Nat×Nat) (λp=>⟨[(6,.osl 1302 p.2.1 3 0 (vs.take p.1).flatten.length),(25,.sl true 1 (vs.map (Al false))),(26,i64 (vs.length:Int)),(27,i64 (p.1:Int))],[⟨1302,p.2.1,80,3,(vs.take p.1).flatten.map AD.D⟩],p.2.2⟩) (λp=>vs.length-p.1) (λq=>q.1<=vs.length) (0,n+1+1,_) (BU _) AJ ?_;clear hi h2 e1;rintro⟨i,g,n⟩ F hi;dsimp only at hi⊢;rcases BH i vs.length with h2|h2
 ·have e1:=Ck h2
  have wi:=Cc (i:=i) (by omega);obtain⟨x,hx⟩:=CU h2;have hm:(vs.map (Al false))[i]?=some (.sl false 3 (x.map AD.D)):=by rw[A8,hx];rfl
  have hs:=XZ hx;have hle:=Yv (vs:=vs) (i+1);have hln:((vs.take i).flatten.map AD.D).length=(vs.take i).flatten.length:=Ac ..;have hlx:(x.map AD.D).length=x.length:=Ac ..;rw[hs,Bc]at hle;obtain⟨R,hR⟩:∃R,(vs.take i).flatten=R:=⟨_,rfl⟩
  obtain⟨X,hX⟩:∃X,x.map AD.D=X:=⟨_,rfl⟩
  have pX:AA (.sl false 3 X):=by rw[<-hX];exact AI
  rw[hR]at hs hle hln⊢;rw[hX]at hm hlx;obtain⟨RD,hRD⟩:∃X,R.map AD.D=X:=⟨_,rfl⟩
  rw[hRD]at hln⊢;refine AH AZ (As e1 wi kN) hm AB AB AB AB AB ?_;refine⟨(i+1,n+1+1+1+1+1+1,n+1+1+1+1+1+1+1+1+1+1),h2,by dsimp only;omega,?_⟩;dsimp only;rw[hs,Bc,Cq,hRD,hX,hlx];rw[B8 (show RD.length<=R.length by omega)];exact AJ
 have e1:=Cj h2
 have:i=vs.length:=by omega
 subst this;rw[Cf];have hR:=Gj (H:=[⟨1302,g,80,3,vs.flatten.map AD.D⟩]) (Hf:=[]) (k:=1302) (g:=g) (T:=80) (sz:=3) (l:=vs.flatten.map AD.D) rfl;rw[Ac]at hR;refine AH AZ e1 AB AB AB AB AB AB ?_;exact⟨_,hR,AA.out,rfl⟩
end Go.Ide
namespace Go.Ide
abbrev Tx:Dr:=[(1,[0,1,2,3,4,5,6],[7]),(9,[0,1,2,3,4],[5,6])]
open Go.Proofs Go.RowKit
set_option maxRecDepth 20000
set_option maxHeartbeats 4000000
def GX:List AD->Int->Int->List AD
 | [],_,_=>[]
 |x::r,low,left=>x.w (min (x.mass-min x.mass low) left)::GX r (low-min x.mass low) (left-min (x.mass-min x.mass low) left)
structure Vy where
 o:List AD
 low:Int
 left:Int
 g:Nat
def Je (g1 g2:Nat)(p:Vy):Hp:=Dt 905 p.g 80 3 (p.o.map AD.D)++[⟨200,g2,38,1,[Dy 905 p.g 3 (p.o.map AD.D)]⟩,⟨106,g1,3,1,[i64 p.left]⟩,⟨0,0,3,1,[i64 p.low]⟩]
theorem Yo (g1 g2:Nat)(a b:Int)(g:Nat):Je g1 g2 ⟨[],a,b,g⟩=[⟨200,g2,38,1,[CT]⟩,⟨106,g1,3,1,[i64 b]⟩,⟨0,0,3,1,[i64 a]⟩]:=rfl
theorem QX (g1 g2:Nat)(z:AD)(o:List AD)(a b:Int)(g:Nat):Je g1 g2 ⟨z::o,a,b,g⟩=[⟨905,g,80,3,z.D::o.map AD.D⟩,⟨200,g2,38,1,[.osl 905 g 3 0 ((o.map AD.D).length+1)]⟩,⟨106,g1,3,1,[i64 b]⟩,⟨0,0,3,1,[i64 a]⟩]:=rfl
def PA (L:List AD)(low left:Int)(k:Nat)(p:Vy):Prop:=p.o.length=k/\p.o++GX (L.drop k) p.low p.left=GX L low left/\0<=p.low/\p.low<=1000000000000/\0<=p.left/\p.left<=1000000000000000
theorem jI (b:Bool)(l:List AD)(low high:Int)(hl:l.length<=1000000)(h1:0<=low/\low<=1000000000000)(h2:0<=high/\high<=1000000000000)(t:Int)(ht:low+high<=t/\t<=1000000000000000)(hx:∀x∈l,0<=x.mass/\x.mass<=1000000000)
  (cT:AK C0 57 [Al b l] (i64 t))
  (ho:∀x∈l,∀m,AK C0 94 [x.D,i64 m] (x.w m).D) (R:D) [pR:AA R] (hN:AK C0 62 [Al false (GX l low (t-low-high))] R):
  AK C0 60 [Al b l,i64 low,i64 high] R:=by
 refine Ak.walk w1 dq rfl λF=>?_
 have cV:=Ti b false (l.map AD.D);have hT:∀x∈l.map AD.D,∃a c d,x=.agg [a,c,d]:=λx hx=>by
  obtain⟨y,-,rfl⟩:=List.mem_map.1 hx;exact⟨_,_,_,rfl⟩
 have hoA:∀k,k<l.length->∃y,y∈l/\l[k]?=some y/\(l.map AD.D)[if false then(l.map AD.D).length-1-k else k]?=some y.D:=λk hk=>⟨_,List.getElem_mem hk,A9 hk,by
  show(l.map AD.D)[k]?=_;rw[A8,A9 hk];rfl⟩
 unfold Al at cT⊢;obtain⟨T,hTT⟩:∃T,l.map AD.D=T:=⟨_,rfl⟩
 have pT:AA (.sl b 3 T):=by rw[<-hTT];exact AI
 have hTl:T.length=l.length:=by rw[<-hTT,Ac]
 rw[hTT]at cV hT hoA cT⊢;have w1':IntKind.i64.wrap (t-low)=t-low:=wI (by omega) (by omega);have w2:IntKind.i64.wrap (t-low-high)=t-low-high:=wI (by omega) (by omega);obtain⟨e,he⟩:∃e,t-low-high=e:=⟨_,rfl⟩
 have w2':IntKind.i64.wrap (t-low-high)=e:=by rw[w2,he]
 rw[he]at hN;have he0:0<=e/\e<=1000000000000000:=by omega
 refine AH Tx (Ah w1' w2') cT cV AB AB AB AB ?_;have h0:PA l low e 0 ⟨[],low,e,0⟩:=⟨rfl,rfl,h1.1,h1.2,he0.1,he0.2⟩
 refine AC.rangeFunc (fi:=142) (first:=[]) (captured:=[.pptr (.sl b 3 T),.pptr (Aq false)]) (Ψ:=λj _ H' _=>(j=none/\∃a,PA l low e T.length a/\H'=Je 8 11 a)\/(j=some (.exit 0)/\False)) rfl
  (λds H n Φ=>∃k a x,PA l low e k a/\k<T.length/\T[if false then T.length-1-k else k]?=some x/\ds=[x]/\H=Je 8 11 a/\Φ=λj H' _=>(j=none/\∃a',PA l low e (k+1) a'/\Cm H' (Je 8 11 a') H' (Je 8 11 a'))\/(j=some (.exit 0)/\False)) ?_
  (λE l' R' hE hY=>VN hE b false T hT (by omega) (λ_ a=>Je 8 11 a) (PA l low e) (.exit 0) (λ_=>False) ⟨[],low,e,0⟩ h0 _ λk a x n hP hk hx=>hY _ _ _ _ ⟨k,a,x,hP,hk,hx,rfl,rfl,rfl⟩) ?_
 ·rintro l' ds H n Φ ⟨k,⟨o,lw,lf,g⟩,x,⟨p1,p2,p3,p4,p6,p7⟩,hk,hxT,rfl,rfl,rfl⟩
  dsimp only at p1 p2 p3 p4 p6 p7;obtain⟨y,hy1,hy2,hy3⟩:=hoA k (by omega);rw[hy3]at hxT;cases hxT;have hd:l.drop k=y::l.drop (k+1):=by
   have:=(List.getElem?_eq_some_iff.1 hy2)
   rw[ET this.1,this.2]
  rw[hd]at p2;have hb:=hx y hy1;have cO:=ho y hy1 (min (y.mass-min y.mass lw) lf);have p5:(o++[y.w (min (y.mass-min y.mass lw) lf)])++GX (l.drop (k+1)) (lw-min y.mass lw) (lf-min (y.mass-min y.mass lw) lf)=GX l low e:=by
   rw[<-p2,De];rfl
  have a1:IntKind.i64.wrap (lw-min y.mass lw)=lw-min y.mass lw:=wI (by omega) (by omega);have a2:IntKind.i64.wrap (y.mass-min y.mass lw)=y.mass-min y.mass lw:=wI (by omega) (by omega);have a3:IntKind.i64.wrap (lf-min (y.mass-min y.mass lw) lf)=lf-min (y.mass-min y.mass lw) lf:=wI (by omega) (by omega);have q1:0<=lw-min y.mass lw/\lw-min y.mass lw<=1000000000000/\0<=lf-min (y.mass-min y.mass lw) lf/\lf-min (y.mass-min y.mass lw) lf<=1000000000000000:=by omega
  refine⟨rfl,λF=>?_⟩;unfold AD.w AD.D at cO;unfold AD.D;dsimp only at cO⊢;obtain⟨SD,hSD⟩:∃d,Ce false y.shs=d:=⟨_,rfl⟩
  have pS:AA SD:=by rw[<-hSD];exact AI
  rw[hSD]at cO⊢;rcases o with _|⟨z,o⟩
  ·rw[Yo]
   dsimp only[Gp];refine Ao w1 400 (by kernel_rfl) ?_;refine AE kB ?_;refine⟨trivial,trivial,λF'=>?_⟩;refine AH Tx (As a1 a2 a3) cO AB AB AB AB AB ?_;refine .inl ⟨rfl,⟨[y.w (min (y.mass-min y.mass lw) lf)],lw-min y.mass lw,lf-min (y.mass-min y.mass lw) lf,n+1+1+1+1+1+1+1+1+1+1+1+1+1+1+1+1+1+1+1+1+1+1+7⟩,⟨by rw[<-p1];rfl,p5,q1⟩,?_⟩;rw[QX,<-hSD];exact .keep (.drop (G7 _))
  ·have hol:o.length<=1000000:=by rw[Bo]at p1;omega
   rw[QX];dsimp only[Gp];obtain⟨O,hO⟩:∃O,o.map AD.D=O:=⟨_,rfl⟩
   obtain⟨zD,hzD⟩:∃O,z.D=O:=⟨_,rfl⟩
   have hOl:O.length=o.length:=by rw[<-hO,Ac]
   rw[hO,hzD];refine Ao w1 400 (by kernel_rfl) ?_;refine AE kB ?_;refine⟨trivial,trivial,λF'=>?_⟩;refine AH Tx (As a1 a2 a3) cO AB AB AB AB AB ?_;rw[show List.take (O.length+1) (zD::O)=zD::O from Cf (l:=zD::O)];refine .inl ⟨rfl,⟨z::o++[y.w (min (y.mass-min y.mass lw) lf)],lw-min y.mass lw,lf-min (y.mass-min y.mass lw) lf,n+1+1+1+1+1+1+1+1+1+1+1+1+1+1+1+1+1+1+1+1+1+1+7⟩,⟨by rw[<-p1];simp,p5,q1⟩,?_⟩;have hs:∀g' a b,Je 8 11 ⟨z::o++[y.w (min (y.mass-min y.mass lw) lf)],a,b,g'⟩=[⟨905,g',80,3,zD::O++[.agg [str (sb y.grain),i64 (min (y.mass-min y.mass lw) lf),SD]]⟩,⟨200,11,38,1,[.osl 905 g' 3 0 (O.length+1+1)]⟩,⟨106,8,3,1,[i64 b]⟩,⟨0,0,3,1,[i64 a]⟩]:=λg' a b=>by
    rw[ED,QX,<-hO,<-hzD,<-hSD,Cq];rw[Bc];rfl
   rw[hs];exact .keep (.drop (G7 _))
 ·rintro j d H' n' F' hE
  rcases hE with⟨rfl,⟨o,lw,lf,g⟩,⟨p1,p2,-⟩,rfl⟩|⟨-,h⟩
  rotate_left
  ·exact h.elim
  dsimp only at p2;rw[List.drop_eq_nil_of_le (by omega)]at p2;have ho2:o=GX l low e:=by rw[<-p2];exact(C5 o).symm
  rw[<-ho2]at hN;rcases o with _|⟨z,o⟩
  ·rw[Yo]
   change AC _ _ _ _ _ _ _;refine sR 1000 ?_;refine BE.pure [.sl false 3 []] _ ⟨.nil 3,trivial⟩ hN AI ?_;refine BP ?_;refine Ai ?_;exact AL rfl pR.out
  ·have hR:=Gj (H:=Je 8 11 ⟨z::o,lw,lf,g⟩) (Hf:=[]) (k:=905) (g:=g) (T:=80) (sz:=3) (l:=(z::o).map AD.D) rfl
   have hle:((z::o).map AD.D).length=(o.map AD.D).length+1:=rfl;rw[hle]at hR;rw[QX]at hR⊢;change AC _ _ _ _ _ _ _;refine sR 1000 ?_;refine BE.own _ (NS [] hN (.drop (.drop (.drop (.drop .nil)))) ⟨hR,trivial⟩ AI) ?_;rintro d H2 n2 ⟨rfl,rfl,rfl⟩;refine BP ?_;refine Ai ?_;exact AL rfl pR.out
open Go.Proofs Go.RowKit
set_option maxRecDepth 20000
set_option maxHeartbeats 4000000
def Ra (lot:List UInt8)(x:AD):Bool:=x.shs.any λs=>BK (sb s.lot) (sb lot)
def K5 (lot:List UInt8):List AD->Int->List (Int×Int)
 | [],_=>[]
 |x::r,n=>(if Ra lot x then[(n+1,n+x.mass)]else[])++K5 lot r (n+x.mass)
def Fp (p:Int×Int):D:=.agg [i64 p.1,i64 p.2]
instance  (p:Int×Int):AT (Fp p):=by unfold Fp;exact AI
instance  (p:Int×Int):AA (Fp p):=by unfold Fp;exact AI
theorem yx (lot:List UInt8)(s:Av):AK C0 174 [s.D,.pptr (str (sb lot))] (Aq (BK (sb s.lot) (sb lot))):=by
 refine Ak.walk w1 aB rfl λF=>?_
 unfold Av.D;refine AH AZ kB AB AB AB AB AB AB ?_;exact AL rfl AA.out
theorem wz (b:Bool)(l:List Av)(c:D)[pc:AA c](p:Av->Bool)(hl:l.length<=1000000)(hc:∀x∈l,AK C0 174 [x.D,c] (Aq (p x))):AK C0 235 [Ce b l,.clo (.func 174) [] [c]] (i64 (Kn p l)):=by
 refine Ak.walk w1 b7 rfl λF=>?_
 have el:(((l.map Av.D).length:Nat):Int)=(l.length:Int):=by rw[Ac]
 refine AH AZ el AB AB AB AB AB AB ?_;refine AC.loop (α:=Nat×Nat) (λp=>⟨[(0,Ce b l),(1,.clo (.func 174) [] [c]),(7,i64 l.length),(8,i64 (p.1:Int))],[],p.2⟩) (λp=>l.length-p.1) (λq=>q.1<=l.length/\∀(j:Nat) (x:Av),j<q.1->l[j]?=some x->p x=false) (0,_) ⟨BU _,λj x hj=>Ad hj (HR j)⟩ AJ ?_;rintro⟨i,n⟩ F ⟨hi,ha⟩;dsimp only at hi ha⊢;rcases BH i l.length with h2|h2
 rotate_left
 ·have e1:=Cj h2
  have:i=l.length:=by omega
  subst this;refine AH AZ e1 AB AB AB AB AB AB ?_;exact AL (by rw[XY ha]) AA.out
 have e1:=Ck h2;have wi:=Cc (i:=i) (by omega);obtain⟨x,hx⟩:=CU h2;have hm:(l.map Av.D)[i]?=some (.agg [str (sb x.lot),str (sb x.part)]):=by rw[A8,hx];rfl
 have cn:=hc x (Aw hx);unfold Av.D at cn;cases hb:p x
 ·rw[hb]at cn
  refine AH AZ (As e1 wi kN) hm cn AB AB AB AB ?_;refine⟨(i+1,_),⟨h2,λj z hj hjz=>?_⟩,by dsimp only;omega,AJ⟩;rcases BH j i with h|h
  ·exact ha j z h hjz
  ·have:j=i:=by dsimp only at hj;omega
   subst this;rw[hx]at hjz;cases hjz;exact hb
 ·rw[hb]at cn
  refine AH AZ (As e1 wi kN) hm cn AB AB AB AB ?_;exact AL (by rw[Ys hx hb ha]) AA.out
theorem wh (b:Bool)(l:List Av)(c:D)[pc:AA c](p:Av->Bool)(hl:l.length<=1000000)(hc:∀x∈l,AK C0 174 [x.D,c] (Aq (p x))):AK C0 173 [Ce b l,.clo (.func 174) [] [c]] (Aq (l.any p)):=by
 refine Ak.walk w1 aA rfl λF=>?_
 have c1:=wz b l c p hl hc;have e1:=Yt p l;refine AH AZ e1 c1 AB AB AB AB AB ?_;exact AL rfl AA.out
structure V0 where
 o:List (Int×Int)
 n:Int
 g:Nat
def Jz (lot:List UInt8)(g1 g2:Nat)(p:V0):Hp:=Dt 609 p.g 129 2 (p.o.map Fp)++[⟨200,g2,3,1,[i64 p.n]⟩,⟨100,g1,127,1,[Dy 609 p.g 2 (p.o.map Fp)]⟩,⟨0,0,9,1,[str (sb lot)]⟩]
theorem ZW (lot:List UInt8)(g1 g2:Nat)(n:Int)(g:Nat):Jz lot g1 g2 ⟨[],n,g⟩=[⟨200,g2,3,1,[i64 n]⟩,⟨100,g1,127,1,[CT]⟩,⟨0,0,9,1,[str (sb lot)]⟩]:=rfl
theorem Ql (lot:List UInt8)(g1 g2:Nat)(z:Int×Int)(o:List (Int×Int))(n:Int)(g:Nat):Jz lot g1 g2 ⟨z::o,n,g⟩=[⟨609,g,129,2,Fp z::o.map Fp⟩,⟨200,g2,3,1,[i64 n]⟩,⟨100,g1,127,1,[.osl 609 g 2 0 ((o.map Fp).length+1)]⟩,⟨0,0,9,1,[str (sb lot)]⟩]:=rfl
def PT (lot:List UInt8)(l:List AD)(k:Nat)(p:V0):Prop:=p.o.length<=k/\p.o++K5 lot (l.drop k) p.n=K5 lot l 0/\0<=p.n/\p.n<=(k:Int)*1000000000
theorem iP (b:Bool)(l:List AD)(lot:List UInt8)(hl:l.length<=1000000)(hx:∀x∈l,0<=x.mass/\x.mass<=1000000000/\x.shs.length<=1000000):
  AK C0 126 [Al b l,str (sb lot)] (.sl false 2 ((K5 lot l 0).map Fp)):=by
 refine Ak.walk w1 ak rfl λF=>?_
 have cV:=Ti b false (l.map AD.D);have hT:∀x∈l.map AD.D,∃a c d,x=.agg [a,c,d]:=λx hx=>by
  obtain⟨y,-,rfl⟩:=List.mem_map.1 hx;exact⟨_,_,_,rfl⟩
 have hoA:∀k,k<l.length->∃y,y∈l/\l[k]?=some y/\(l.map AD.D)[if false then(l.map AD.D).length-1-k else k]?=some y.D:=λk hk=>⟨_,List.getElem_mem hk,A9 hk,by
  show(l.map AD.D)[k]?=_;rw[A8,A9 hk];rfl⟩
 unfold Al;obtain⟨T,hTT⟩:∃T,l.map AD.D=T:=⟨_,rfl⟩
 have pT:AA (.sl b 3 T):=by rw[<-hTT];exact AI
 have hTl:T.length=l.length:=by rw[<-hTT,Ac]
 rw[hTT]at cV hT hoA⊢;refine AH AZ kB cV AB AB AB AB AB ?_;have h0:PT lot l 0 ⟨[],0,0⟩:=⟨Af _,rfl,Int.le_refl _,Int.le_refl _⟩
 refine AC.rangeFunc (fi:=142) (first:=[]) (captured:=[.pptr (.sl b 3 T),.pptr (Aq false)]) (Ψ:=λj _ H' _=>(j=none/\∃a,PT lot l T.length a/\H'=Jz lot 2 3 a)\/(j=some (.exit 0)/\False)) rfl
  (λds H n Φ=>∃k a x,PT lot l k a/\k<T.length/\T[if false then T.length-1-k else k]?=some x/\ds=[x]/\H=Jz lot 2 3 a/\Φ=λj H' _=>(j=none/\∃a',PT lot l (k+1) a'/\Cm H' (Jz lot 2 3 a') H' (Jz lot 2 3 a'))\/(j=some (.exit 0)/\False)) ?_
  (λE l' R' hE hY=>VN hE b false T hT (by omega) (λ_ a=>Jz lot 2 3 a) (PT lot l) (.exit 0) (λ_=>False) ⟨[],0,0⟩ h0 _ λk a x n hP hk hx=>hY _ _ _ _ ⟨k,a,x,hP,hk,hx,rfl,rfl,rfl⟩) ?_
 ·rintro l' ds H n Φ ⟨k,⟨o,nn,g⟩,x,⟨p1,p2,p3,p4⟩,hk,hxT,rfl,rfl,rfl⟩
  dsimp only at p1 p2 p3 p4;obtain⟨y,hy1,hy2,hy3⟩:=hoA k (by omega);rw[hy3]at hxT;cases hxT;have hd:l.drop k=y::l.drop (k+1):=by
   have:=(List.getElem?_eq_some_iff.1 hy2)
   rw[ET this.1,this.2]
  rw[hd]at p2;have hb:=hx y hy1;have cH:=wh false y.shs (.pptr (str (sb lot))) (λs=>BK (sb s.lot) (sb lot)) hb.2.2 λs _=>yx lot s
  have hK:(y.shs.any λs=>BK (sb s.lot) (sb lot))=Ra lot y:=rfl;rw[hK]at cH;have p5:(o++(if Ra lot y then[(nn+1,nn+y.mass)]else[]))++K5 lot (l.drop (k+1)) (nn+y.mass)=K5 lot l 0:=by
   rw[<-p2,De];rfl
  obtain⟨K,hKK⟩:∃K,Ra lot y=K:=⟨_,rfl⟩
  rw[hKK]at cH p5;have a1:IntKind.i64.wrap (nn+y.mass)=nn+y.mass:=wI (by omega) (by omega);have a2:IntKind.i64.wrap (nn+1)=nn+1:=wI (by omega) (by omega);have q1:0<=nn+y.mass/\nn+y.mass<=((k+1:Nat):Int)*1000000000:=by omega
  refine⟨rfl,λF=>?_⟩;unfold AD.D;unfold Ce at cH⊢;obtain⟨SD,hSD⟩:∃d,y.shs.map Av.D=d:=⟨_,rfl⟩
  have pS:AA (.sl false 2 SD):=by rw[<-hSD];exact AI
  rw[hSD]at cH⊢;rcases o with _|⟨z,o⟩
  ·rw[ZW]
   dsimp only[Gp];refine Ao w1 400 (by kernel_rfl) ?_;refine AE kB ?_;refine⟨trivial,trivial,λF'=>?_⟩;refine AH AZ kB AB AB AB AB AB AB ?_;refine BE.own _ (NT cH rfl (λi a d h1 h2=>by
    match i with
    | 0=>cases h1;cases h2;exact .refl _ _
    | 1=>cases h1;cases h2;exact .clo1 (.ptr rfl rfl rfl rfl)
    |n+2=>cases h1) AI (.prim _)) ?_
   rintro d H' n' ⟨rfl,rfl,rfl⟩;cases K
   ·refine AH AZ (Ah a1 a2) AB AB AB AB AB AB ?_
    exact .inl ⟨rfl,⟨[],nn+y.mass,0⟩,⟨BU _,p5,q1⟩,.drop (G7 _)⟩
   ·refine AH AZ (Ah a1 a2) AB AB AB AB AB AB ?_
    exact .inl ⟨rfl,⟨[(nn+1,nn+y.mass)],nn+y.mass,n+1+1+1+1+1+1+1+1+1+1+1+1+1+1+1⟩,⟨by simp,p5,q1⟩,.keep (.drop (G7 _))⟩
  ·have hol:o.length<=1000000:=by rw[Bo]at p1;omega
   rw[Ql];dsimp only[Gp];obtain⟨O,hO⟩:∃O,o.map Fp=O:=⟨_,rfl⟩
   obtain⟨zD,hzD⟩:∃O,Fp z=O:=⟨_,rfl⟩
   have hOl:O.length=o.length:=by rw[<-hO,Ac]
   rw[hO,hzD];refine Ao w1 400 (by kernel_rfl) ?_;refine AE kB ?_;refine⟨trivial,trivial,λF'=>?_⟩;refine AH AZ kB AB AB AB AB AB AB ?_;refine BE.own _ (NT cH rfl (λi a d h1 h2=>by
    match i with
    | 0=>cases h1;cases h2;exact .refl _ _
    | 1=>cases h1;cases h2;exact .clo1 (.ptr rfl rfl rfl rfl)
    |n+2=>cases h1) AI (.prim _)) ?_
   rintro d H' n' ⟨rfl,rfl,rfl⟩;cases K
   ·refine AH AZ (Ah a1 a2) AB AB AB AB AB AB ?_
    refine .inl ⟨rfl,⟨z::o,nn+y.mass,g⟩,⟨Nat.le_succ_of_le p1,by rw[<-p5,AF Bool.false_ne_true,C5],q1⟩,?_⟩;rw[Ql,hO,hzD];exact .drop (G7 _)
   ·refine AH AZ (Ah a1 a2) AB AB AB AB AB AB ?_
    rw[show List.take (O.length+1) (zD::O)=zD::O from Cf (l:=zD::O)];refine .inl ⟨rfl,⟨z::o++[(nn+1,nn+y.mass)],nn+y.mass,n+1+1+1+1+1+1+1+1+1+1+1+1+1+1+1⟩,⟨by rw[Bc];exact Nat.succ_le_succ p1,p5,q1⟩,?_⟩;have hs:∀g' a,Jz lot 2 3 ⟨z::o++[(nn+1,nn+y.mass)],a,g'⟩=[⟨609,g',129,2,zD::O++[.agg [i64 (nn+1),i64 (nn+y.mass)]]⟩,⟨200,3,3,1,[i64 a]⟩,⟨100,2,127,1,[.osl 609 g' 2 0 (O.length+1+1)]⟩,⟨0,0,9,1,[str (sb lot)]⟩]:=λg' a=>by
     rw[ED,Ql,<-hO,<-hzD,Cq];rw[Bc];rfl
    rw[hs];exact .keep (.drop (G7 _))
 ·rintro j d H' n' F' hE
  rcases hE with⟨rfl,⟨o,nn,g⟩,⟨p1,p2,-⟩,rfl⟩|⟨-,h⟩
  rotate_left
  ·exact h.elim
  dsimp only at p2;rw[List.drop_eq_nil_of_le (by omega)]at p2;have ho2:o=K5 lot l 0:=by rw[<-p2];exact(C5 o).symm
  rw[<-ho2];rcases o with _|⟨z,o⟩
  ·rw[ZW]
   change AC _ _ _ _ _ _ _;refine sR 800 ?_;refine Ai ?_;exact⟨_,.nil 2,AA.out,rfl⟩
  ·have hR:=Gj (H:=Jz lot 2 3 ⟨z::o,nn,g⟩) (Hf:=[]) (k:=609) (g:=g) (T:=129) (sz:=2) (l:=(z::o).map Fp) rfl
   have hle:((z::o).map Fp).length=(o.map Fp).length+1:=rfl;rw[hle]at hR;rw[Ql]at hR⊢;change AC _ _ _ _ _ _ _;refine sR 800 ?_;refine Ai ?_;exact⟨_,hR,AA.out,rfl⟩
theorem Zj:∀(l:List AD) (m:Int),(Ec l m).length<=l.length
 | [],_=>Af _
 |x::r,m=>by
  show(if m-x.mass<=0 then[]else Ec r (m-x.mass)).length+1<=r.length+1;split
  ·simp
  ·have:=Zj r (m-x.mass);omega
theorem rp {a b:Int}(h:Et [a,b]=0):a=0/\b=0:=by
 have h1:(if a≠0 then a else if b≠0 then b else 0)=0:=h
 by_cases h0:a=0
 ·rw[AF (λq=>q h0)]at h1
  by_cases h2:b=0
  ·exact⟨h0,h2⟩
  ·rw[AG h2]at h1;exact Ad h1 h2
 ·rw[AG h0]at h1;exact Ad h1 h0
theorem mO (R:List AD)(x:AD):(Ci R x).length<=R.length+1:=by
 unfold Ci;split
 ·split
  ·rw[Bc,List.length_dropLast,Ek];omega
  ·rw[Bc];exact Af _
 ·simp
theorem OX (l:List AD):(BS l).length<=l.length:=by
 have:∀(l R:List AD),(l.foldl Ci R).length<=R.length+l.length:=λl=>by
  induction l with
  |nil=>exact λ_=>Af _
  |cons x l ih=>
   intro R;have h1:=ih (Ci R x);have h2:=mO R x;rw[List.foldl_cons,Bo];omega
 have:=this l []
 unfold BS;simpa using this
def DZ (x:Az)(i:Int):List AD:=x.cells.getD i.toNat []
theorem IC {x:Az}(h:CE x=0):∀c∈x.cells,DC x c=0:=by
 unfold CE at h
 by_cases h1:F9 x=0
 ·rw[AF (λq=>q h1)]at h
  by_cases h2:EQ x x.cells=0
  ·exact S0 h2
  ·rw[AG h2]at h;exact Ad h h2
 ·rw[AG h1]at h;exact Ad h h1
theorem qc {x:Az}{i:Int}(h:PF x [i]=0):CE x=0/\0<=i/\i<(x.cells.length:Int):=by
 unfold PF at h
 by_cases h1:CE x=0
 ·rw[AF (λq=>q h1)]at h
  refine⟨h1,?_⟩;cases hb:Po x i
  ·simp[hb]at h
  ·unfold Po C3 at hb
   rw[BR,decide_eq_true_iff,decide_eq_true_iff]at hb;omega
 ·rw[AG h1]at h;exact Ad h h1
structure dK (x:Az)(i:Int)(l:List AD):Prop where
 cel:∀c∈x.cells,DC x c=0
 lt:i.toNat<x.cells.length
 ii:i=(i.toNat:Int)
 par:Bv l=0
 at_:x.cells[i.toNat]?=some (DZ x i)
 bin:CE x=0
theorem di:∀ {l R:List AD} {k:Nat},SE k R->(∀x∈l,0<=x.mass/\x.mass<=1000000000/\x.shs.length<=1000000)->SE (k+l.length) (l.foldl Ci R)
 | [],_,_,h,_=>h
 |x::l,R,k,h,hx=>by
  have h1:=di (XJ h (hx x (CG ..))) λy hy=>hx y (CK _ hy)
  rw[List.foldl_cons,Bo,show k+(l.length+1)=k+1+l.length by omega];exact h1
theorem xh {l:List AD}(hx:∀x∈l,0<=x.mass/\x.mass<=1000000000/\x.shs.length<=1000000):(BS l).length<=l.length/\∀y∈BS l,0<=y.mass/\y.mass<=(l.length:Int)*1000000000/\y.shs.length<=1000000:=by
 have:=di (l:=l) (R:=[]) (k:=0) ⟨Af _,λy h=>by cases h⟩ hx
 rw[BV]at this;exact this
theorem OI (a b:List AD):Am (a++b)=Am a+Am b:=by
 unfold Am;rw[Cq,List.sum_append]
theorem mP (R:List AD)(x:AD):Am (Ci R x)=Am R+x.mass:=by
 unfold Ci;split
 ·rename_i y hy
  have hR:R=R.dropLast++[y]:=by
   have hne:R≠[]:=λh=>by rw[h]at hy;cases hy
   have:=List.getLast?_eq_some_getLast hne
   rw[this]at hy;cases hy;exact(List.dropLast_concat_getLast hne).symm
  split
  ·rw[OI]
   conv=>rhs;rw[hR,OI]
   unfold Am AD.w;simp;omega
  ·rw[OI];unfold Am;simp
 ·rename_i hy
  have:R=[]:=List.getLast?_eq_none_iff.1 hy
  rw[this];unfold Am;simp
theorem Ld (l:List AD):Am (BS l)=Am l:=by
 have:∀(l R:List AD),Am (l.foldl Ci R)=Am R+Am l:=λl=>by
  induction l with
  |nil=>intro R;unfold Am;simp
  |cons x l ih=>
   intro R;rw[List.foldl_cons,ih,mP];unfold Am;simp;omega
 have h:=this l [];rw[show Am ([]:List AD)=0 from rfl,Int.zero_add]at h;exact h
theorem XK {l:List AD}(h1:∀x∈l,1<=x.mass/\x.mass<=1000000000/\x.shs.length<=1000000)(h2:l.length<=1000000)(h3:Am l<=1000000000):IJ (BS l)/\0<=Am (BS l)/\Am (BS l)=Am l:=by
 have h0:∀x∈l,0<=x.mass/\x.mass<=1000000000/\x.shs.length<=1000000:=λx hx=>⟨by have:=(h1 x hx).1;omega,(h1 x hx).2⟩
 obtain⟨b1,b2⟩:=xh h0;have b3:=Ld l;refine⟨⟨by omega,λy hy=>?_⟩,?_,b3⟩
 ·have hy0:=(b2 y hy).1
  have:y.mass<=Am (BS l):=by
   obtain⟨A,B,hAB⟩:=FA hy;rw[hAB,OI,show Am (y::B)=y.mass+Am B from rfl];have p1:=Le (l:=A) λz hz=>(b2 z (by rw[hAB];exact HU _ hz)).1
   have p2:=Le (l:=B) λz hz=>(b2 z (by rw[hAB];exact List.mem_append_right _ (CK _ hz))).1
   omega
  omega
 ·exact Le λz hz=>(b2 z hz).1
theorem LN {x:Az}(h:CE x=0):0<=x.side/\x.side<=999999999/\x.room<=999999999/\x.cells.length<=8:=by
 have h1:F9 x=0:=by
  unfold CE at h
  by_cases h1:F9 x=0
  ·exact h1
  ·rw[AG h1]at h;exact Ad h h1
 rw[Rb]at h1;split at h1
 ·cases h1
 split at h1
 ·cases h1
 rename_i hr;split at h1
 ·cases h1
 split at h1
 ·cases h1
 rename_i hn;unfold Kq at hr;simp only[Jr,Gc,not_or]at hr;obtain⟨⟨⟨⟨-,-⟩,h3⟩,h4⟩,h5⟩:=hr;omega
theorem YM:∀ {S T:List Av},Fh S T=true↔S=T
 | [],[]=>by simp[Fh]
 | [],_::_=>by simp[Fh]
 |_::_,[]=>by simp[Fh]
 |s::S,t::T=>by
  show(GU s t&&Fh S T)=true↔_;rw[BR,YM (S:=S) (T:=T)];unfold GU;rw[BR,LW,LW,decide_eq_true_iff,decide_eq_true_iff];obtain⟨a,b⟩:=s;obtain⟨c,d⟩:=t;simp
theorem mE (x y:AD):Ft x y=true↔x.grain=y.grain/\x.shs=y.shs:=by
 unfold Ft;rw[BR,LW,decide_eq_true_iff,YM]
theorem yZ {x y:AD}(hg:x.grain=y.grain)(hs:x.shs=y.shs)(m:Int):x.w m=y.w m:=by unfold AD.w;rw[hg,hs]
theorem w_w (x:AD)(a b:Int):(x.w a).w b=x.w b:=rfl
theorem wG (x:AD):x.w x.mass=x:=rfl
theorem Mz {x y:AD}:Ft x y=true↔∀m,x.w m=y.w m:=by
 rw[mE];constructor
 ·rintro⟨a,b⟩ m;exact yZ a b m
 ·intro h
  have h0:=h 0;unfold AD.w at h0;injection h0 with a b c;exact⟨a,c⟩
def BQ (l:List AD):List AD:=l.flatMap λx=>List.replicate x.mass.toNat (x.w 1)
theorem Rg:BQ []=[]:=rfl
theorem Hi (x:AD)(l:List AD):BQ (x::l)=List.replicate x.mass.toNat (x.w 1)++BQ l:=rfl
theorem KT (a b:List AD):BQ (a++b)=BQ a++BQ b:=List.flatMap_append
theorem Ow (x:AD):BQ [x]=List.replicate x.mass.toNat (x.w 1):=by rw[Hi,Rg,C5]
theorem cr:∀l:List AD,BQ l.reverse=(BQ l).reverse
 | []=>rfl
 |x::l=>by rw[List.reverse_cons,KT,cr l,Ow,Hi,List.reverse_append,List.reverse_replicate]
theorem KU:∀ {l:List AD},(∀x∈l,0<=x.mass)->((BQ l).length:Int)=Am l
 | [],_=>rfl
 |x::l,h=>by
  have h1:=h x (CG ..);have h2:=KU (l:=l) λy hy=>h y (CK _ hy)
  rw[Hi,Bc,HT,show Am (x::l)=x.mass+Am l from rfl];omega
theorem Ov {l:List AD}:∀y∈BQ l,∃x∈l,y=x.w 1/\0<x.mass:=λy hy=>by
 unfold BQ at hy;obtain⟨x,hx,h⟩:=List.mem_flatMap.1 hy;obtain⟨h1,h2⟩:=List.mem_replicate.1 h;exact⟨x,hx,h2,by omega⟩
theorem oR {R:List AD}{x:AD}(hR:∀y∈R,0<=y.mass)(hx:0<=x.mass):BQ (Ci R x)=BQ R++BQ [x]:=by
 unfold Ci;split
 ·rename_i y hy
  have hR':R=R.dropLast++[y]:=by
   have hne:R≠[]:=λh=>by rw[h]at hy;cases hy
   have:=List.getLast?_eq_some_getLast hne
   rw[this]at hy;cases hy;exact(List.dropLast_concat_getLast hne).symm
  split
  ·rename_i hl
   have e:=Mz.1 hl 1;have hy0:=hR y (List.mem_of_getLast? hy)
   conv=>rhs;rw[hR']
   rw[KT,KT,Ow,Ow,Ow,De];show _++List.replicate (y.mass+x.mass).toNat (y.w 1)=_;rw[<-e,List.replicate_append_replicate,show(y.mass+x.mass).toNat=y.mass.toNat+x.mass.toNat by omega]
  ·rw[KT]
 ·rename_i hy
  rw[List.getLast?_eq_none_iff.1 hy];rfl
theorem oQ {R:List AD}{x:AD}(hR:∀y∈R,0<=y.mass)(hx:0<=x.mass):∀y∈Ci R x,0<=y.mass:=by
 unfold Ci;split
 ·rename_i z hz
  have hz0:=hR z (List.mem_of_getLast? hz);split
  ·intro y hy
   rcases List.mem_append.1 hy with h|h
   ·exact hR y ((List.dropLast_sublist R).subset h)
   ·obtain rfl:=List.mem_singleton.1 h
    show 0<=z.mass+x.mass;omega
  ·intro y hy
   rcases List.mem_append.1 hy with h|h
   ·exact hR y h
   ·obtain rfl:=List.mem_singleton.1 h;exact hx
 ·intro y hy
  obtain rfl:=List.mem_singleton.1 hy;exact hx
theorem bJ {l:List AD}(h:∀x∈l,0<=x.mass):BQ (BS l)=BQ l:=by
 have:∀(l R:List AD),(∀x∈l,0<=x.mass)->(∀y∈R,0<=y.mass)->BQ (l.foldl Ci R)=BQ R++BQ l:=λl=>by
  induction l with
  |nil=>intro R _ _;simp[Rg]
  |cons x l ih=>
   intro R hl hR;have hx:=hl x (CG ..);rw[List.foldl_cons,ih _ (λy hy=>hl y (CK _ hy)) (oQ hR hx),oR hR hx,De,<-KT];rfl
 exact this l [] h λy hy=>by cases hy
theorem dj:∀l:List AD,BQ (K4 l)=BQ l
 | []=>rfl
 |x::l=>by
  have ih:=dj l;unfold K4 at ih⊢;rw[List.filter_cons];split
  ·rw[Hi,Hi,ih]
  ·rename_i h
   have h0:x.mass=0:=by simpa using h
   rw[Hi,ih,h0];rfl
theorem kI (R:List AD)(x:AD)(m:Int):Ci (Ci R (x.w m)) (x.w 1)=Ci R (x.w (m+1)):=by
 have key:∀(A:List AD) (z:AD),Ft z (x.w 1)=true->Ci (A++[z]) (x.w 1)=A++[z.w (z.mass+1)]:=λA z hz=>by
  unfold Ci;rw[List.getLast?_append];show(if Ft z (x.w 1)=true then _ else _)=_;rw[AG hz,List.dropLast_concat];rfl
 have hlx:∀a b:Int,Ft (x.w a) (x.w b)=true:=λa b=>Mz.2 λm=>rfl
 cases hR:R.getLast? with
 |none=>
  have:R=[]:=List.getLast?_eq_none_iff.1 hR
  subst this;exact key [] (x.w m) (hlx _ _)
 |some y=>
  have e:∀a:Int,Ci R (x.w a)=if Ft y (x.w a)then R.dropLast++[y.w (y.mass+a)]else R++[x.w a]:=λa=>by
   unfold Ci;rw[hR];rfl
  have hb:∀a b:Int,Ft y (x.w a)=Ft y (x.w b):=λa b=>by
   rw[Fk,Mz,Mz];exact Iff.rfl
  rw[e m,e (m+1),hb m 1,hb (m+1) 1]
  by_cases h:Ft y (x.w 1)=true
  ·rw[AG h,AG h,key _ _ (Mz.2 λk=>(w_w y _ k).trans (Mz.1 h k))]
   show _++[y.w (y.mass+m+1)]=_;rw[Int.add_assoc]
  ·rw[AF h,AF h,key _ _ (hlx _ _)];rfl
theorem ZD (x:AD):∀(n:Nat) (R:List AD),(List.replicate (n+1) (x.w 1)).foldl Ci R=Ci R (x.w ((n:Int)+1))
 | 0,R=>rfl
 |n+1,R=>by
  rw[List.replicate_succ',List.foldl_append,ZD x n R];exact kI R x _
theorem Uk {l:List AD}(h:∀x∈l,1<=x.mass):BS (BQ l)=BS l:=by
 have:∀(l R:List AD),(∀x∈l,1<=x.mass)->(BQ l).foldl Ci R=l.foldl Ci R:=λl=>by
  induction l with
  |nil=>intro R _;rfl
  |cons x l ih=>
   intro R hl;have hx:=hl x (CG ..);rw[Hi,List.foldl_append,show x.mass.toNat=(x.mass.toNat-1)+1 by omega,ZD,List.foldl_cons,ih _ λy hy=>hl y (CK _ hy)];rw[show(((x.mass.toNat-1:Nat):Int)+1)=x.mass by omega,wG]
 exact this l [] h
theorem bI {l:List AD}(h:∀x∈l,0<=x.mass):BS (K4 l)=BS (BQ l):=by
 rw[<-dj l];refine(Uk λx hx=>?_).symm;unfold K4 at hx;obtain⟨h1,h2⟩:=List.mem_filter.1 hx
 have:=h x h1
 have:x.mass≠0:=by simpa using h2
 omega
theorem uc {a b:List AD}(ha:∀x∈a,1<=x.mass)(hb:∀x∈b,1<=x.mass)(h:BQ a=BQ b):BS a=BS b:=by rw[<-Uk ha,<-Uk hb,h]
theorem fF:∀ {l:List AD} {m:Int},(∀x∈l,0<=x.mass)->0<=m->BQ (Ec l m)=(BQ l).take m.toNat
 | [],m,_,_=>by rw[Rg,List.take_nil];rfl
 |x::r,m,h,hm=>by
  have h1:=h x (CG ..);have h2:∀y∈r,0<=y.mass:=λy hy=>h y (CK _ hy)
  show BQ (x.w (min x.mass m)::if m-x.mass<=0 then[]else Ec r (m-x.mass))=_;rw[Hi,Hi,List.take_append,List.take_replicate,HT];show List.replicate (min x.mass m).toNat (x.w 1)++_=_;rw[show(min x.mass m).toNat=min m.toNat x.mass.toNat by omega]
  by_cases hz:m-x.mass<=0
  ·rw[AG hz,show m.toNat-x.mass.toNat=0 by omega];rfl
  ·rw[AF hz,fF h2 (by omega),show m.toNat-x.mass.toNat=(m-x.mass).toNat by omega]
theorem dG:∀ {l:List AD} {low left:Int},(∀x∈l,0<=x.mass)->0<=low->0<=left->BQ (GX l low left)=((BQ l).drop low.toNat).take left.toNat
 | [],low,left,_,_,_=>by rw[Rg,List.drop_nil,List.take_nil];rfl
 |x::r,low,left,h,h0,h5=>by
  have h1:=h x (CG ..);have h2:∀y∈r,0<=y.mass:=λy hy=>h y (CK _ hy)
  show BQ (x.w (min (x.mass-min x.mass low) left)::GX r (low-min x.mass low) (left-min (x.mass-min x.mass low) left))=_;rw[Hi,Hi,dG h2 (by omega) (by omega),List.drop_append,List.drop_replicate,HT,List.take_append,List.take_replicate,HT];show List.replicate (min (x.mass-min x.mass low) left).toNat (x.w 1)++_=_;rw[show(min (x.mass-min x.mass low) left).toNat=min left.toNat (x.mass.toNat-low.toNat) by omega,show(low-min x.mass low).toNat=low.toNat-x.mass.toNat by omega,
   show(left-min (x.mass-min x.mass low) left).toNat=left.toNat-(x.mass.toNat-low.toNat) by omega]
theorem pI {l:List AD}{i:Nat}{x:AD}(h:l[i]?=some x):BQ (l.take (i+1))=BQ (l.take i)++List.replicate x.mass.toNat (x.w 1):=by
 rw[Da,h,KT];show _++BQ [x]=_;rw[Ow]
theorem Th:∀ {l:List AD},(∀x∈l,0<=x.mass/\x.mass<=100000)->(BQ l).length<=l.length*100000
 | [],_=>Af _
 |x::l,h=>by
  have h1:=h x (CG ..);have h2:=Th (l:=l) λy hy=>h y (CK _ hy)
  rw[Hi,Bc,HT,Bo];omega
theorem bT (b:Bool)(l:List AD)(hl:l.length<=1000)(hx:∀x∈l,0<=x.mass/\x.mass<=100000):AK C0 98 [Al b l] (Al false (BQ l)):=by
 refine Ak.walk w1 wY rfl λF=>?_
 have el:(((l.map AD.D).length:Nat):Int)=(l.length:Int):=by rw[Ac]
 refine AH AZ el AB AB AB AB AB AB ?_;refine AC.ghost 1003 80 3 [(0,Al b l),(3,.osl 1003 _ 3 0 0),(4,i64 ((0:Nat):Int))] ⟨.inl rfl,.inr ⟨rfl,rfl⟩,.inl rfl,trivial⟩ ?_;refine AC.loop (α:=Nat×Nat×Nat) (λp=>⟨[(0,Al b l),(3,.osl 1003 p.2.1 3 0 (BQ (l.take p.1)).length),(4,i64 (p.1:Int))],[⟨1003,p.2.1,80,3,(BQ (l.take p.1)).map AD.D⟩],p.2.2⟩) (λp=>l.length-p.1) (λq=>q.1<=l.length) (0,_,_) (BU _) AJ ?_;rintro⟨i,g,n⟩ F hi;dsimp only at hi⊢;rcases BH i l.length with h2|h2
 rotate_left
 ·have e1:=Cj h2
  have:i=l.length:=by omega
  subst this;rw[Cf];have hf:=Gj (H:=[⟨1003,g,80,3,(BQ l).map AD.D⟩]) (Hf:=[]) (k:=1003) (g:=g) (T:=80) (sz:=3) (l:=(BQ l).map AD.D) rfl;rw[Ac]at hf;refine AH AZ (Ah e1 el) AB AB AB AB AB AB ?_;exact⟨_,hf,AA.out,rfl⟩
 have e1:=Ck h2;have wi:=Cc (i:=i) (by omega);obtain⟨x,hxi⟩:=CU h2;obtain⟨x1,x2⟩:=hx x (Aw hxi);have hm:(l.map AD.D)[i]?=some (.agg [str (sb x.grain),i64 x.mass,.sl false 2 (x.shs.map Av.D)]):=by rw[A8,hxi];rfl
 have hU:=pI hxi;have hb0:=Th (l:=l.take i) λy hy=>hx y (List.take_subset _ _ hy)
 rw[Bd]at hb0;obtain⟨R,hR⟩:∃R,BQ (l.take i)=R:=⟨_,rfl⟩
 rw[hR]at hU hb0⊢;have hRl:R.length<=100000000:=by omega
 refine AH AZ (Ah e1 el) AB AB AB AB AB AB ?_;refine AC.loop (α:=Nat×Nat×Nat) (λp=>⟨[(0,Al b l),(3,.osl 1003 p.2.1 3 0 (R++List.replicate p.1 (x.w 1)).length),(4,i64 (i:Int)),(5,i64 (p.1:Int))],[⟨1003,p.2.1,80,3,(R++List.replicate p.1 (x.w 1)).map AD.D⟩],p.2.2⟩) (λp=>x.mass.toNat-p.1) (λq=>q.1<=x.mass.toNat) (0,g,_) (BU _) (by rw[show R++List.replicate 0 (x.w 1)=R from C5 R];exact AJ) ?_;rintro⟨k,g2,n2⟩ F hk;dsimp only at hk⊢;rcases BH k x.mass.toNat with h3|h3
 rotate_left
 ·have e2:decide ((k:Int)<x.mass)=false:=Ag (by omega)
  have:k=x.mass.toNat:=by omega
  subst this;rw[<-hU];refine AH AZ (As e2 wi kN) hm AB AB AB AB AB ?_;exact⟨(i+1,g2,n2+1000),h2,by dsimp only;omega,AJ⟩
 have e2:decide ((k:Int)<x.mass)=true:=AX (by omega);have wk:=Cc (i:=k) (by omega);have hl2:(R++List.replicate k (x.w 1)).length=R.length+k:=by rw[Bc,HT]
 have hR2:(R++List.replicate (k+1) (x.w 1)).map AD.D=(R++List.replicate k (x.w 1)).map AD.D++[.agg [str (sb x.grain),i64 1,.sl false 2 (x.shs.map Av.D)]]:=by
  rw[List.replicate_succ',<-De,Cq];rfl
 have hl3:(R++List.replicate (k+1) (x.w 1)).length=R.length+k+1:=by rw[Bc,HT];omega
 obtain⟨RD,hRD⟩:∃T,(R++List.replicate k (x.w 1)).map AD.D=T:=⟨_,rfl⟩
 have hRDl:RD.length=R.length+k:=by rw[<-hRD,Ac,hl2]
 rw[hl2,hRD];rw[hRD]at hR2;have htk:RD.take (R.length+k)=RD:=by rw[<-hRDl];exact Cf
 refine AH AZ (BY e2 wk htk kN) hm AB AB AB AB AB ?_;refine⟨(k+1,?g,n2+1000),h3,by dsimp only;omega,?_⟩
 rotate_left
 ·dsimp only
  rw[hl3,hR2];exact AJ
def CS (bot:Nat->Bool)(n:Nat):Nat->Nat
 | 0=>0
 |j+1=>CS bot n j+if bot (n-j)then 1 else 0
def Gs (bot:Nat->Bool)(U:List AD):Nat->List AD
 | 0=>[]
 |j+1=>Gs bot U j++[U.getD (if bot (U.length-j)then CS bot U.length j else CS bot U.length j+(U.length-j)-1) ⟨[],0,[]⟩]
def Gq (bot:Nat->Bool)(n:Nat):Nat->List Bool
 | 0=>[]
 |j+1=>Gq bot n j++[bot (n-j)]
theorem RJ (bot:Nat->Bool)(n j:Nat):CS bot n (j+1)=CS bot n j+if bot (n-j)then 1 else 0:=rfl
theorem JP (bot:Nat->Bool)(n:Nat):∀j,CS bot n j<=j
 | 0=>Af _
 |j+1=>by have:=JP bot n j;unfold CS;split<;>omega
theorem OQ (bot:Nat->Bool)(U:List AD):∀j,(Gs bot U j).length=j
 | 0=>rfl
 |j+1=>by unfold Gs;rw[Bc,OQ bot U j];rfl
theorem OO (bot:Nat->Bool)(n:Nat):∀j,(Gq bot n j).length=j
 | 0=>rfl
 |j+1=>by unfold Gq;rw[Bc,OO bot n j];rfl
theorem oT (bot:Nat->Bool)(U:List AD){j m:Nat}(h:j<m):(Gs bot U m)[j]?=some (U.getD (if bot (U.length-j)then CS bot U.length j else CS bot U.length j+(U.length-j)-1) ⟨[],0,[]⟩):=by
 induction m with
 |zero=>omega
 |succ m ih=>
  unfold Gs;rcases BH j m with h1|h1
  ·rw[Fj (by rw[OQ];exact h1),ih h1]
  ·have:j=m:=by omega
   subst this;rw[En (by rw[OQ];omega),OQ,Nat.sub_self];rfl
theorem ox (bot:Nat->Bool)(n:Nat){j m:Nat}(h:j<m):(Gq bot n m)[j]?=some (bot (n-j)):=by
 induction m with
 |zero=>omega
 |succ m ih=>
  unfold Gq;rcases BH j m with h1|h1
  ·rw[Fj (by rw[OO];exact h1),ih h1]
  ·have:j=m:=by omega
   subst this;rw[En (by rw[OO];omega),OO,Nat.sub_self];rfl
def E5 (bot:Nat->Bool)(U:List AD)(j:Nat):List AD:=(U.drop (CS bot U.length j)).take (U.length-j)
theorem Tl (bot:Nat->Bool)(U:List AD)(j:Nat):(E5 bot U j).length=U.length-j:=by
 have:=JP bot U.length j
 unfold E5;rw[Bd,Dh];omega
theorem kU (bot:Nat->Bool)(U:List AD):E5 bot U 0=U:=by
 unfold E5;exact Cf
theorem mA {bot:Nat->Bool}{U:List AD}{j:Nat}(_:j<U.length)(hb:bot (U.length-j)=true):E5 bot U (j+1)=(E5 bot U j).drop 1:=by
 unfold E5;rw[RJ,AG hb,List.drop_take,List.drop_drop,show U.length-j-1=U.length-(j+1) by omega]
theorem kR {bot:Nat->Bool}{U:List AD}{j:Nat}(h:j<U.length)(hb:bot (U.length-j)=false):E5 bot U (j+1)=(E5 bot U j).take (U.length-j-1):=by
 unfold E5;rw[RJ,AF (by rw[hb];exact Bool.false_ne_true),List.take_take,show min (U.length-j-1) (U.length-j)=U.length-(j+1) by omega];rfl
theorem jA {bot:Nat->Bool}{U:List AD}{j:Nat}(h:j<U.length):(E5 bot U j)[0]?=some (U.getD (CS bot U.length j) ⟨[],0,[]⟩):=by
 have:=JP bot U.length j
 unfold E5;rw[List.getElem?_take_of_lt (by omega),Gb,DW,A9 (by omega),DR,A9 (by omega)];rfl
theorem kS {bot:Nat->Bool}{U:List AD}{j:Nat}(h:j<U.length):(E5 bot U j)[U.length-j-1]?=some (U.getD (CS bot U.length j+(U.length-j)-1) ⟨[],0,[]⟩):=by
 have:=JP bot U.length j
 unfold E5;rw[List.getElem?_take_of_lt (by omega),Gb,DR,show CS bot U.length j+(U.length-j-1)=CS bot U.length j+(U.length-j)-1 by omega,A9 (by omega)];rfl
theorem uv {bot:Nat->Bool}{U:List AD}{j:Nat}(h:j<U.length)(hb:bot (U.length-j)=true):U.take (CS bot U.length (j+1))=U.take (CS bot U.length j)++[U.getD (CS bot U.length j) ⟨[],0,[]⟩]:=by
 have:=JP bot U.length j
 rw[RJ,AG hb,Da,DR,A9 (show CS bot U.length j<U.length by omega)];rfl
theorem pD {bot:Nat->Bool}{U:List AD}{j:Nat}(h:j<U.length)(hb:bot (U.length-j)=false):U.reverse.take (j+1-CS bot U.length (j+1))=U.reverse.take (j-CS bot U.length j)++[U.getD (CS bot U.length j+(U.length-j)-1) ⟨[],0,[]⟩]:=by
 have:=JP bot U.length j
 have e:CS bot U.length (j+1)=CS bot U.length j:=by show CS bot U.length j+_=_;rw[AF (by rw[hb];exact Bool.false_ne_true)];rfl
 rw[e,show j+1-CS bot U.length j=(j-CS bot U.length j)+1 by omega,Da,List.getElem?_reverse (by omega),DR,
  show U.length-1-(j-CS bot U.length j)=CS bot U.length j+(U.length-j)-1 by omega,A9 (show CS bot U.length j+(U.length-j)-1<U.length by omega)];rfl
def Ki (x:Az)(k:Nat):Bool:=BK (sb x.flow) GN||decide (k%x.core.toNat=0)
def Ml (x:Az):Prop:=BK (sb x.flow) GN=true\/2<=x.core/\x.core<=999999999
theorem lg {T:List D}:(T.drop (1:Int).toNat).take (T.length-(1:Int).toNat)=T.drop 1:=by
 rw[show(1:Int).toNat=1 from rfl,B8 (by rw[Dh];exact Af _)]
theorem pg (x:Az)(k:Nat)(hk:k<=1000000000)(hf:Ml x):AK C0 134 [x.D,i64 (k:Int)] (Aq (Ki x k)):=by
 refine Ak.walk w1 rH rfl λF=>?_
 have hb:Ki x k=(BK (sb x.flow) GN||decide (k%x.core.toNat=0)):=rfl;rw[hb];unfold GN at hb⊢;unfold Ml GN at hf;unfold Az.D;cases hm:BK (sb x.flow) ⟨#[109,97,115,115]⟩
 rotate_left
 ·refine AH AZ (As hm kT kF) AB AB AB AB AB AB ?_
  exact AL rfl AA.out
 obtain⟨h2,h3⟩:2<=x.core/\x.core<=999999999:=by
  rcases hf with h|h
  ·rw[hm]at h;cases h
  ·exact h
 obtain⟨c,hc⟩:∃c:Nat,x.core=(c:Int):=⟨x.core.toNat,by omega⟩
 rw[hc]at h2 h3⊢;have q0:((c:Int)==0)=false:=Br.2 (by omega);have q1:((k:Int)).tmod (c:Int)=((k%c:Nat):Int):=rfl;have hlt:k%c<c:=B3 _ (by omega);have q3:IntKind.i64.wrap ((k%c:Nat):Int)=((k%c:Nat):Int):=wI (by omega) (by omega);have q2:(((k%c:Nat):Int)==0)=decide (k%c=0):=by
  by_cases h:k%c=0
  ·rw[h];rfl
  ·rw[Ag h];exact Br.2 (by omega)
 rw[Ib];refine AH AZ (Dp hm q1 q3 q2 kT kF) AB AB AB AB AB AB ?_;exact AL (by rw[Bool.false_or]) AA.out
theorem v6 (x:Az)(i:Nat)(c:List AD)(hc:x.cells[i]?=some c)(hcl:x.cells.length<=1000000)(hl:c.length<=1000)(hx:∀y∈c,0<=y.mass/\y.mass<=100000)(hf:Ml x):
  AK C0 87 [x.D,i64 (i:Int)] (.tup [Al false (Gs (Ki x) (BQ c) (BQ c).length),.sl false 1 ((Gq (Ki x) (BQ c).length (BQ c).length).map Aq)]):=by
 refine Ak.walk w1 wT rfl λF=>?_
 have cU:=bT false c hl hx;have hUl:=Th hx;have cB:=λk hk=>pg x k hk hf
 obtain⟨bot,hbot⟩:∃b,Ki x=b:=⟨_,rfl⟩
 rw[hbot]at cB⊢;obtain⟨U,hU⟩:∃U,BQ c=U:=⟨_,rfl⟩
 rw[hU]at cU hUl⊢;have hat:(x.cells.map (Al false))[i]?=some (.sl false 3 (c.map AD.D)):=by rw[A8,hc];rfl
 have el:(((x.cells.map (Al false)).length:Nat):Int)=(x.cells.length:Int):=by rw[Ac]
 have hi:=(List.getElem?_eq_some_iff.1 hc).1;have px:AA x.D:=AI;have px2:AT x.D:=AI;have hB0:x.D=.agg [str (sb x.flow),i64 x.core,i64 x.room,i64 x.side,.sl false 1 (x.cells.map (Al false))]:=rfl;rw[hB0]at cB px px2⊢;have fin:AA (.tup [Al false (Gs bot U U.length),.sl false 1 ((Gq bot U.length U.length).map Aq)]):=AI;refine AH AZ (Ah el kN) hat cU AB AB AB AB ?_;refine AC.ghost 705 80 3 [(2,.optr 0 0 5 0 0),(6,Al false U),(7,.osl 705 _ 3 0 0),(8,CT)] ⟨.inl rfl,.inl rfl,.inr ⟨rfl,rfl⟩,.inl rfl,trivial⟩ ?_;refine AC.ghost 902 4 1 [(2,.optr 0 0 5 0 0),(6,Al false U),(7,.osl 705 _ 3 0 0),(8,.osl 902 _ 1 0 0)] ⟨.inl rfl,.inl rfl,.inl rfl,.inr ⟨rfl,rfl⟩,trivial⟩ ?_;refine AC.loop (α:=Nat×Bool×Nat×Nat×Nat) (λp=>⟨[(2,.optr 0 0 5 0 0),(6,Al false (E5 bot U p.1)),(7,.osl (if p.2.1 then 705 else 1007) p.2.2.1 3 0 p.1),(8,.osl (if p.2.1 then 902 else 1202) p.2.2.2.1 1 0 p.1)],
   [⟨if p.2.1 then 902 else 1202,p.2.2.2.1,4,1,(Gq bot U.length p.1).map Aq⟩,⟨if p.2.1 then 705 else 1007,p.2.2.1,80,3,(Gs bot U p.1).map AD.D⟩,⟨0,0,24,5,[.agg [str (sb x.flow),i64 x.core,i64 x.room,i64 x.side,.sl false 1 (x.cells.map (Al false))]]⟩],p.2.2.2.2⟩)
  (λp=>U.length-p.1) (λq=>q.1<=U.length) (0,true,_,_,_) (BU _) (by rw[kU];exact AJ) ?_
 rintro⟨j,last,g1,g2,n⟩ F hj;dsimp only at hj⊢;have hoL:=OQ bot U j;have hlL:=OO bot U.length j;rcases BH j U.length with h2|h2
 rotate_left
 ·have:j=U.length:=by omega
  subst this;have hll:((((E5 bot U U.length).map AD.D).length:Nat):Int)=0:=by rw[Ac,Tl];omega
  have k0:decide ((0:Int)>0)=false:=rfl;cases last
  all_goals
   simp only[if_true,E9,if_false];refine AH AZ (Ah hll k0) AB AB AB AB AB AB ?_;exact⟨_,GJ (KX rfl rfl (by rw[Ac,hoL])) (KX rfl rfl (by rw[Ac,hlL])),fin.out,rfl⟩
 have hll:((((E5 bot U j).map AD.D).length:Nat):Int)=((U.length-j:Nat):Int):=by rw[Ac,Tl]
 have k1:decide (((U.length-j:Nat):Int)>0)=true:=AX (by omega);have cb:=cB (U.length-j) (by omega);have hF:=jA (bot:=bot) h2;have hG:=kS (bot:=bot) h2;have hlo:=@mA bot U j h2;have hhi:=@kR bot U j h2;have hOn:Gs bot U (j+1)=Gs bot U j++[U.getD (if bot (U.length-j)then CS bot U.length j else CS bot U.length j+(U.length-j)-1) ⟨[],0,[]⟩]:=rfl;have hLn:Gq bot U.length (j+1)=Gq bot U.length j++[bot (U.length-j)]:=rfl;have hLl:=Tl bot U j;obtain⟨L2,hL2⟩:∃L,E5 bot U (j+1)=L:=⟨_,rfl⟩
 rw[hL2]at hlo hhi;obtain⟨LF,hLF⟩:∃L,E5 bot U j=L:=⟨_,rfl⟩
 rw[hLF]at hll hF hG hlo hhi hLl⊢;have hlo':bot (U.length-j)=true->(LF.map AD.D).drop 1=L2.map AD.D:=λh=>by rw[hlo h,List.map_drop]
 have hhi':bot (U.length-j)=false->(LF.map AD.D).take (U.length-j-1)=L2.map AD.D:=λh=>by rw[hhi h,NY]
 have hFm:(LF.map AD.D)[0]?=some (U.getD (CS bot U.length j) ⟨[],0,[]⟩).D:=by rw[A8,hF];rfl
 have hGm:(LF.map AD.D)[U.length-j-1]?=some (U.getD (CS bot U.length j+(U.length-j)-1) ⟨[],0,[]⟩).D:=by rw[A8,hG];rfl
 obtain⟨LD,hLD⟩:∃T,LF.map AD.D=T:=⟨_,rfl⟩
 have pLD:AA (.sl false 3 LD):=by rw[<-hLD];exact AI
 have hLDl:LD.length=U.length-j:=by rw[<-hLD,Ac,hLl]
 have hlys:Al false LF=.sl false 3 LD:=by rw[<-hLD]
 rw[hLD]at hll hlo' hhi' hFm hGm;rw[hlys];have hOD:(Gs bot U (j+1)).map AD.D=(Gs bot U j).map AD.D++[(U.getD (if bot (U.length-j)then CS bot U.length j else CS bot U.length j+(U.length-j)-1) ⟨[],0,[]⟩).D]:=by rw[hOn,Cq];rfl
 have hLoD:(Gq bot U.length (j+1)).map Aq=(Gq bot U.length j).map Aq++[Aq (bot (U.length-j))]:=by rw[hLn,Cq];rfl
 obtain⟨OD,hODe⟩:∃T,(Gs bot U j).map AD.D=T:=⟨_,rfl⟩
 have hODl:OD.length=j:=by rw[<-hODe,Ac,hoL]
 obtain⟨BD,hBDe⟩:∃T,(Gq bot U.length j).map Aq=T:=⟨_,rfl⟩
 have hBDl:BD.length=j:=by rw[<-hBDe,Ac,hlL]
 rw[hODe]at hOD⊢;rw[hBDe]at hLoD⊢;have t1:OD.take j=OD:=by rw[<-hODl];exact Cf
 have t2:BD.take j=BD:=by rw[<-hBDl];exact Cf
 cases hb:bot (U.length-j)
 ·rw[hb]at cb hOD hLoD
  rw[AF (by decide)]at hOD;have hhi':=hhi' hb;have wn:IntKind.i64.wrap (((U.length-j:Nat):Int)-1)=((U.length-j-1:Nat):Int):=by rw[wI (by omega) (by omega)];omega
  obtain⟨Y,hY⟩:∃Y,U.getD (CS bot U.length j+(U.length-j)-1) ⟨[],0,[]⟩=Y:=⟨_,rfl⟩
  rw[hY]at hGm hOD;rw[show Y.D=.agg [str (sb Y.grain),i64 Y.mass,Ce false Y.shs]from rfl]at hGm hOD;cases last
  all_goals
   simp only[if_true,E9,if_false];refine AH AZ (CO hll k1 wn kN Nat.sub_zero (@FW D) (As hhi' t1 t2)) cb hGm AB AB AB AB ?_;refine⟨(j+1,false,?ga,?gb,n+1000),h2,by dsimp only;omega,?_⟩
   rotate_left 2
   ·dsimp only
    simp only[E9,if_false];rw[hL2,hOD,hLoD];exact AJ
 ·rw[hb]at cb hOD hLoD
  rw[AG rfl]at hOD;have hlo':=hlo' hb;obtain⟨Y,hY⟩:∃Y,U.getD (CS bot U.length j) ⟨[],0,[]⟩=Y:=⟨_,rfl⟩
  rw[hY]at hFm hOD;rw[show Y.D=.agg [str (sb Y.grain),i64 Y.mass,Ce false Y.shs]from rfl]at hFm hOD;have hs:(LD.drop (1:Int).toNat).take (LD.length-(1:Int).toNat)=L2.map AD.D:=by rw[lg];exact hlo'
  cases last
  all_goals
   simp only[if_true,E9,if_false];refine AH AZ (CH hll k1 hs t1 t2) cb hFm AB AB AB AB ?_;refine⟨(j+1,true,?gc,?gd,n+1000),h2,by dsimp only;omega,?_⟩
   rotate_left 2
   ·dsimp only
    simp only[if_true];rw[hL2,hOD,hLoD];exact AJ
abbrev oA:Dr:=[(1,[0,1,2,3,4,5,6,7],[8,9])]
open Go.Proofs Go.RowKit
set_option maxRecDepth 20000
set_option maxHeartbeats 4000000
theorem qN (a:Int)(b:Bool)(l:List Int)(hl:l.length<=1000000):AK C0 91 [i64 a,.sl b 1 (Bk l)] (i64 (l.foldl min a)):=by
 refine Ak.walk w1 eM rfl λF=>?_
 have el:(((Bk l).length:Nat):Int)=(l.length:Int):=by rw[Ac]
 refine AH AZ el AB AB AB AB AB AB ?_;refine AC.loop (α:=Nat×Nat) (λp=>⟨[(0,i64 ((l.take p.1).foldl min a)),(7,.sl b 1 (Bk l)),(8,i64 (l.length:Int)),(9,i64 (p.1:Int))],[],p.2⟩) (λp=>l.length-p.1) (λq=>q.1<=l.length) (0,_) (BU _) AJ ?_;rintro⟨i,n⟩ F hi;dsimp only at hi⊢;rcases BH i l.length with h2|h2
 rotate_left
 ·have e1:=Cj h2
  have:i=l.length:=by omega
  subst this;rw[Cf];refine AH AZ e1 AB AB AB AB AB AB ?_;exact AL rfl AA.out
 have e1:=Ck h2;have wi:=Cc (i:=i) (by omega);obtain⟨x,hx⟩:=CU h2;have hm:(Bk l)[i]?=some (i64 x):=by rw[A8,hx];rfl
 have ht:(l.take (i+1)).foldl min a=min ((l.take i).foldl min a) x:=by rw[Da,hx,List.foldl_append];rfl
 obtain⟨R,hR⟩:∃R,(l.take i).foldl min a=R:=⟨_,rfl⟩
 rw[hR]at ht⊢;refine AH AZ (As e1 wi kN) hm AB AB AB AB AB ?_;refine⟨(i+1,n+1000),h2,by dsimp only;omega,?_⟩;dsimp only;rw[ht];exact AJ
def HK (ls:List Int)(i:Nat)(f:Int->Int):List Int:=if 1<=i then[f (ls.getD (i-1) 0)]else[]
def GS (ls:List Int)(i:Nat)(f:Int->Int):List Int:=HK ls i f++if i+1<ls.length then[f (ls.getD (i+1) 0)]else[]
def I5 (ls:List Int)(i:Nat)(f:Int->Int)(j:Nat):List Int:=if j=0 then[]else if j=1 then HK ls i f else GS ls i f
theorem Ta (ls:List Int)(i:Nat)(f:Int->Int):(HK ls i f).length<=1:=by unfold HK;split<;>simp
theorem KL {l:List Int}{i:Nat}(h:i<l.length):l[i]?=some (l.getD i 0):=by rw[DR,A9 h];rfl
theorem nW (b:Bool)(ls:List Int)(i:Nat)(f:Nat)(c1 c2 c3:D)[p1:AA c1][p2:AA c2][p3:AA c3](φ:Int->Int)(hl:ls.length<=1000000)(hi:i<ls.length)(hfe:f=96\/f=93)
  (hf:∀x∈ls,AK C0 f [i64 x,c1,c2,c3] (i64 (φ x))):AK C0 92 [.sl b 1 (Bk ls),i64 (i:Int),.clo (.func f) [] [c1,c2,c3]] (.sl false 1 (Bk (GS ls i φ))):=by
 refine Ak.walk w1 eO rfl λF=>?_
 have el:(((Bk ls).length:Nat):Int)=(ls.length:Int):=by rw[Ac]
 have wa:IntKind.i64.wrap ((i:Int)-1)=(i:Int)-1:=wI (by omega) (by omega);have wb:IntKind.i64.wrap ((i:Int)+1)=(i:Int)+1:=wI (by omega) (by omega);have wc:IntKind.i64.wrap ((ls.length:Int)-1)=(ls.length:Int)-1:=wI (by omega) (by omega);have cW:=λk=>Ob k 0 ((ls.length:Int)-1)
 refine AH AZ (Ah wa wb) AB AB AB AB AB AB ?_;refine AC.ghost 608 3 1 [(0,.sl b 1 (Bk ls)),(1,i64 (i:Int)),(2,.clo (.func f) [] [c1,c2,c3]),(7,.osl 608 _ 1 0 0),(14,.sl true 1 [i64 ((i:Int)-1),i64 ((i:Int)+1)]),(15,i64 2),(16,i64 ((0:Nat):Int))] ⟨.inl rfl,.inl rfl,.inl rfl,.inr ⟨rfl,rfl⟩,.inl rfl,.inl rfl,.inl rfl,trivial⟩ ?_;refine AC.loop (α:=Nat×Nat×Nat) (λp=>⟨[(0,.sl b 1 (Bk ls)),(1,i64 (i:Int)),(2,.clo (.func f) [] [c1,c2,c3]),(7,.osl 608 p.2.1 1 0 (I5 ls i φ p.1).length),(14,.sl true 1 [i64 ((i:Int)-1),i64 ((i:Int)+1)]),(15,i64 2),(16,i64 (p.1:Int))],[⟨608,p.2.1,3,1,Bk (I5 ls i φ p.1)⟩],p.2.2⟩) (λp=>2-p.1) (λq=>q.1<=2) (0,_,_) (BU _) AJ ?_;rintro⟨j,g,n⟩ F hj;dsimp only at hj⊢;rcases BH j 2 with h2|h2
 rotate_left
 ·have:j=2:=by omega
  subst this;have e1:decide (((2:Nat):Int)<2)=false:=rfl;have hf:=Gj (H:=[⟨608,g,3,1,Bk (I5 ls i φ 2)⟩]) (Hf:=[]) (k:=608) (g:=g) (T:=3) (sz:=1) (l:=Bk (I5 ls i φ 2)) rfl;rw[Ac]at hf;refine AH AZ e1 AB AB AB AB AB AB ?_;exact⟨_,hf,AA.out,rfl⟩
 obtain rfl|rfl:j=0\/j=1:=by omega
 ·have e1:decide (((0:Nat):Int)<2)=true:=rfl
  have wj:IntKind.i64.wrap (((0:Nat):Int)+1)=((1:Nat):Int):=rfl;have hm:[i64 ((i:Int)-1),i64 ((i:Int)+1)][0]?=some (i64 ((i:Int)-1)):=rfl;have cw:=cW ((i:Int)-1);obtain⟨P,hP⟩:∃P,P=([]:List Int):=⟨_,rfl⟩
  rw[show I5 ls i φ 0=P from hP.symm]
  by_cases h1:1<=i
  ·have hb:C3 ((i:Int)-1) 0 ((ls.length:Int)-1)=true:=by
    unfold C3;rw[BR,decide_eq_true_iff,decide_eq_true_iff];omega
   rw[hb]at cw;have hv:=KL (l:=ls) (i:=i-1) (by omega);have hd:(Bk ls)[((i:Int)-1).toNat]?=some (i64 (ls.getD (i-1) 0)):=by
    rw[show((i:Int)-1).toNat=i-1 by omega,A8,hv];rfl
   have cf:=hf _ (Aw hv);have hT:HK ls i φ=P++[φ (ls.getD (i-1) 0)]:=by rw[hP];unfold HK;rw[AG h1];rfl
   have hz0:0<=((i:Int)-1):=by omega
   have hlen:=Ta ls i φ;have hPl:P.length<=1:=by rw[hP];exact BU _
   have hPD:(Bk P).length=P.length:=Ac ..;obtain⟨PD,hPD2⟩:∃Q,Bk P=Q:=⟨_,rfl⟩
   rw[hPD2]at hPD⊢;have htk:PD.take P.length=PD:=by rw[<-hPD];exact Cf
   have hTD:Bk (HK ls i φ)=PD++[i64 (φ (ls.getD (i-1) 0))]:=by rw[hT];unfold Bk;rw[Cq,<-hPD2];rfl
   rcases hfe with rfl|rfl
   all_goals
    refine AH AZ (CH e1 wj wc el htk) hm cw hd cf AB AB ?_;refine⟨(0+1,?g,n+1000),by dsimp only;omega,by dsimp only;omega,?_⟩
    rotate_left
    ·dsimp only
     rw[show I5 ls i φ (0+1)=HK ls i φ from rfl,hTD,hT,Bc];exact AJ
  ·have hb:C3 ((i:Int)-1) 0 ((ls.length:Int)-1)=false:=by
    cases hq:C3 ((i:Int)-1) 0 ((ls.length:Int)-1)
    ·rfl
    ·unfold C3 at hq
     rw[BR,decide_eq_true_iff,decide_eq_true_iff]at hq;omega
   rw[hb]at cw;have hT:HK ls i φ=P:=by rw[hP];unfold HK;rw[AF h1]
   refine AH AZ (BY e1 wj wc el) hm cw AB AB AB AB ?_;refine⟨(0+1,g,n+1000),by dsimp only;omega,by dsimp only;omega,?_⟩;dsimp only;rw[show I5 ls i φ (0+1)=HK ls i φ from rfl,hT];exact AJ
 ·have e1:decide (((1:Nat):Int)<2)=true:=rfl
  have wj:IntKind.i64.wrap (((1:Nat):Int)+1)=((2:Nat):Int):=rfl;have hm:[i64 ((i:Int)-1),i64 ((i:Int)+1)][1]?=some (i64 ((i:Int)+1)):=rfl;have cw:=cW ((i:Int)+1);obtain⟨P,hP⟩:∃P,P=HK ls i φ:=⟨_,rfl⟩
  rw[show I5 ls i φ 1=P from hP.symm]
  by_cases h1:i+1<ls.length
  ·have hb:C3 ((i:Int)+1) 0 ((ls.length:Int)-1)=true:=by
    unfold C3;rw[BR,decide_eq_true_iff,decide_eq_true_iff];omega
   rw[hb]at cw;have hv:=KL (l:=ls) (i:=i+1) (by omega);have hd:(Bk ls)[((i:Int)+1).toNat]?=some (i64 (ls.getD (i+1) 0)):=by
    rw[show((i:Int)+1).toNat=i+1 by omega,A8,hv];rfl
   have cf:=hf _ (Aw hv);have hT:GS ls i φ=P++[φ (ls.getD (i+1) 0)]:=by rw[hP];unfold GS;rw[AG h1]
   have hz0:0<=((i:Int)+1):=by omega
   have hlen:=Ta ls i φ;have hPl:P.length<=1:=by rw[hP];exact hlen
   have hPD:(Bk P).length=P.length:=Ac ..;obtain⟨PD,hPD2⟩:∃Q,Bk P=Q:=⟨_,rfl⟩
   rw[hPD2]at hPD⊢;have htk:PD.take P.length=PD:=by rw[<-hPD];exact Cf
   have hTD:Bk (GS ls i φ)=PD++[i64 (φ (ls.getD (i+1) 0))]:=by rw[hT];unfold Bk;rw[Cq,<-hPD2];rfl
   rcases hfe with rfl|rfl
   all_goals
    refine AH AZ (CH e1 wj wc el htk) hm cw hd cf AB AB ?_;refine⟨(1+1,?g,n+1000),by dsimp only;omega,by dsimp only;omega,?_⟩
    rotate_left
    ·dsimp only
     rw[show I5 ls i φ (1+1)=GS ls i φ from rfl,hTD,hT,Bc];exact AJ
  ·have hb:C3 ((i:Int)+1) 0 ((ls.length:Int)-1)=false:=by
    cases hq:C3 ((i:Int)+1) 0 ((ls.length:Int)-1)
    ·rfl
    ·unfold C3 at hq
     rw[BR,decide_eq_true_iff,decide_eq_true_iff]at hq;omega
   rw[hb]at cw;have hT:GS ls i φ=P:=by rw[hP];unfold GS;rw[AF h1,C5]
   refine AH AZ (BY e1 wj wc el) hm cw AB AB AB AB ?_;refine⟨(1+1,g,n+1000),by dsimp only;omega,by dsimp only;omega,?_⟩;dsimp only;rw[show I5 ls i φ (1+1)=GS ls i φ from rfl,hT];exact AJ
theorem xE (x:Az)(b:Bool)(ls:List Int)(i:Nat)(v n:Int)(hv:ls[i]?=some v)(h1:0<=v/\v<=1000000000)(h2:0<=n/\n<=1000000000)(h3:0<=x.side/\x.side<=1000000000):
  AK C0 96 [i64 n,.pptr (.sl b 1 (Bk ls)),.pptr (i64 (i:Int)),.pptr x.D] (i64 (v-n+x.side)):=by
 refine Ak.walk w1 eW rfl λF=>?_
 have hm:(Bk ls)[i]?=some (i64 v):=by rw[A8,hv];rfl
 have u1:IntKind.i64.wrap (v-n)=v-n:=wI (by omega) (by omega);have u2:IntKind.i64.wrap (v-n+x.side)=v-n+x.side:=wI (by omega) (by omega);unfold Az.D;refine AH oA (As u1 u2 kN) hm AB AB AB AB AB ?_;exact AL rfl AA.out
theorem Oj {x:Az}(h:CE x=0):Au x=x.cells.map Am/\∀v∈Au x,0<=v/\v<=999999999/\v<=x.room:=by
 have hc:=IC h;have e:Au x=x.cells.map Am:=Nf λc hq=>KG (Fr (hc c hq)).2.2.1
 refine⟨e,λv hv=>?_⟩;rw[e]at hv;obtain⟨c,hq,rfl⟩:=List.mem_map.1 hv;obtain⟨-,-,-,a,b,d⟩:=Fr (hc c hq);exact⟨a,b,d⟩
def HF (side:Int)(ls:List Int)(i:Nat):Int:=(GS ls i λn=>ls.getD i 0-n+side).foldl min (ls.getD i 0)
theorem lY (ls:List Int)(i:Nat)(f:Int->Int):(GS ls i f).length<=2:=by
 unfold GS
 have:=Ta ls i f
 rw[Bc];split<;>simp<;>omega
theorem vh (x:Az)(b:Bool)(ls:List Int)(i:Nat)(hi:i<ls.length)(hl:ls.length<=1000000)(h1:∀v∈ls,0<=v/\v<=1000000000)(h3:0<=x.side/\x.side<=1000000000):AK C0 49 [x.D,.sl b 1 (Bk ls),i64 (i:Int)] (i64 (HF x.side ls i)):=by
 have hv:=KL hi;have cB:=nW b ls i 96 (.pptr (.sl b 1 (Bk ls))) (.pptr (i64 (i:Int))) (.pptr x.D) (λn=>ls.getD i 0-n+x.side) hl hi (.inl rfl) λn hn=>xE x b ls i _ n hv (h1 _ (Aw hv)) (h1 n hn) h3
 have cL:=qN (ls.getD i 0) false (GS ls i λn=>ls.getD i 0-n+x.side) (by have:=lY ls i λn=>ls.getD i 0-n+x.side;omega);exact RK x.D ⟨_,_,_,_,_,rfl⟩ b (Bk ls) i (ls.getD i 0) (by rw[A8,hv];rfl) _ _ cB cL
theorem ZX {side:Int}{l:List Int}(hs:0<=side/\side<=1000000000)(hl:∀v∈l,0<=v/\v<=1000000000):Ds side l=false↔∀k,k+1<l.length->l.getD (k+1) 0-l.getD k 0<=side/\l.getD k 0-l.getD (k+1) 0<=side:=by
 have hv:∀k,k<l.length->0<=l.getD k 0/\l.getD k 0<=1000000000:=λk hk=>hl _ (Aw (KL hk))
 have hw:∀k,k+1<l.length->(C3 (IntKind.i64.wrap (l.getD (k+1) 0-l.getD k 0)) (IntKind.i64.wrap (0-side)) side=true↔l.getD (k+1) 0-l.getD k 0<=side/\l.getD k 0-l.getD (k+1) 0<=side):=λk hk=>by
  have h1:=hv k (by omega);have h2:=hv (k+1) hk;rw[wI (by omega) (by omega),wI (by omega) (by omega)];unfold C3;rw[BR,decide_eq_true_iff,decide_eq_true_iff];omega
 constructor
 ·intro h k hk
  apply(hw k hk).1;cases hb:C3 (IntKind.i64.wrap (l.getD (k+1) 0-l.getD k 0)) (IntKind.i64.wrap (0-side)) side
  ·rw[Un hk hb]at h;cases h
  ·rfl
 ·intro h
  exact Uo λk hk=>(hw k hk).2 (h k hk)
theorem T5 {m : Int} : ∀ {L : List Int} {a : Int}, m <= L.foldl min a ↔ m <= a /\ ∀v ∈ L, m <= v
  | [], a => by simp
  |x :: L, a => by
    rw[List.foldl_cons, T5 (L := L)]
    constructor
    · rintro⟨h1, h2⟩
      exact⟨by omega, λv hv => (BG.1 hv).elim (λe=>by omega) (h2 v)⟩
    · rintro⟨h1, h2⟩
      have := h2 x (CG ..)
      exact⟨by omega, λv hv => h2 v (CK _ hv)⟩
theorem nX {ls:List Int}{i:Nat}{f:Int->Int}{m:Int}:(∀v∈GS ls i f,m<=v)↔(1<=i->m<=f (ls.getD (i-1) 0))/\(i+1<ls.length->m<=f (ls.getD (i+1) 0)):=by
 unfold GS HK;constructor
 ·intro h
  refine⟨λh1=>h _ (HU _ (by rw[AG h1];exact List.mem_singleton.2 rfl)),λh1=>h _ (List.mem_append_right _ (by rw[AG h1];exact List.mem_singleton.2 rfl))⟩
 ·rintro⟨h1,h2⟩ v hv
  rcases List.mem_append.1 hv with hv|hv
  ·by_cases hi:1<=i
   ·rw[AG hi]at hv
    obtain rfl:=List.mem_singleton.1 hv;exact h1 hi
   ·rw[AF hi]at hv;cases hv
  ·by_cases hi:i+1<ls.length
   ·rw[AG hi]at hv
    obtain rfl:=List.mem_singleton.1 hv;exact h2 hi
   ·rw[AF hi]at hv;cases hv
theorem MU {l:List Int}{i k:Nat}{v:Int}(hi:i<l.length):(l.set i v).getD k 0=if k=i then v else l.getD k 0:=by
 rw[DR,DR,List.getElem?_set]
 by_cases h:k=i
 ·subst h;rw[AG rfl,AG hi,AG rfl];rfl
 ·rw[AF (λq=>h q.symm),AF h]
theorem Qx {side:Int}{ls:List Int}{i:Nat}{m:Int}(hs:0<=side/\side<=1000000000)(hl:∀v∈ls,0<=v/\v<=1000000000)(hi:i<ls.length)(h0:Ds side ls=false)(hm:0<=m/\m<=ls.getD i 0):
  Ds side (ls.set i (ls.getD i 0-m))=false↔m<=HF side ls i:=by
 have hv:=hl _ (Aw (KL hi));have hl2:∀v∈ls.set i (ls.getD i 0-m),0<=v/\v<=1000000000:=λv hq=>by
  rcases NU hq with hq|hq
  ·exact hl v hq
  ·omega
 have h1:=(ZX hs hl).1 h0;rw[ZX hs hl2,DH];unfold HF;rw[T5,nX];constructor
 ·intro h
  refine⟨hm.2,λhi1=>?_,λhi1=>?_⟩
  ·have:=h (i-1) (by omega)
   rw[MU hi,MU hi,show i-1+1=i by omega,AG rfl,AF (by omega)]at this;omega
  ·have:=h i hi1
   rw[MU hi,MU hi,AG rfl,AF (by omega)]at this;omega
 ·rintro⟨g1,g2,g3⟩ k hk
  have h2:=h1 k hk;rw[MU hi,MU hi]
  by_cases c1:k+1=i
  ·rw[AG c1,AF (by omega)]
   have:=g2 (by omega)
   rw[show i-1=k by omega]at this;rw[c1]at h2;omega
  ·rw[AF c1]
   by_cases c2:k=i
   ·rw[AG c2]
    subst c2
    have:=g3 hk
    omega
   ·rw[AF c2];exact h2
theorem Q4 (side:Int)(ls:List Int)(i:Nat):HF side ls i<=ls.getD i 0:=(T5.1 (Int.le_refl _)).1
theorem ZC {side:Int}{ls:List Int}{i:Nat}(hs:0<=side/\side<=1000000000)(hl:∀v∈ls,0<=v/\v<=1000000000)(hi:i<ls.length)(h0:Ds side ls=false):0<=HF side ls i:=by
 have hv:=hl _ (Aw (KL hi));rw[<-Qx hs hl hi h0 ⟨Int.le_refl _,hv.1⟩,Int.sub_zero]
 have:ls.set i (ls.getD i 0)=ls:=by
  rw[DR,A9 hi];exact List.set_getElem_self _
 rw[this];exact h0
def E6 (x:Az)(c:List AD)(m:Nat):Nat:=CS (Ki x) (BQ c).length m
def DP (x:Az)(c:List AD)(m:Nat):List AD:=((BQ c).drop (E6 x c m)).take ((BQ c).length-m)
def Gn (x:Az)(c:List AD)(m:Nat):List AD:=(BQ c).reverse.take (m-E6 x c m)++(BQ c).take (E6 x c m)
theorem UC (x:Az)(c:List AD)(m:Nat):E6 x c m<=m:=JP _ _ _
theorem pH {c:List AD}(h:∀y∈c,y.shs.length<=1000000):∀y∈BQ c,1<=y.mass/\y.mass<=1000000000/\y.shs.length<=1000000:=λy hy=>by
 obtain⟨z,hz,rfl,_⟩:=Ov y hy;exact⟨Int.le_refl _,by show(1:Int)<=_;omega,h z hz⟩
theorem MX {x:Az}{c:List AD}{m:Nat}:∀y∈DP x c m,y∈BQ c:=λy hy=>Jn (Fy hy)
theorem Qb {x:Az}{c:List AD}{m:Nat}:∀y∈Gn x c m,y∈BQ c:=λy hy=>by
 rcases List.mem_append.1 hy with h|h
 ·exact List.mem_reverse.1 (Fy h)
 ·exact Fy h
theorem MW {x:Az}{c:List AD}{m:Nat}(h:m<=(BQ c).length):(DP x c m).length=(BQ c).length-m:=by
 have:=UC x c m
 unfold DP;rw[Bd,Dh];omega
theorem YQ {x:Az}{c:List AD}{m:Nat}(h:m<=(BQ c).length):(Gn x c m).length=m:=by
 have:=UC x c m
 unfold Gn;rw[Bc,Bd,Bd,List.length_reverse];omega
theorem fJ (x:Az)(i:Nat)(c:List AD)(hc:x.cells[i]?=some c)(hcl:x.cells.length<=1000000)(hl:c.length<=1000)(hx:∀y∈c,0<=y.mass/\y.mass<=100000)(hsh:∀y∈c,y.shs.length<=1000000)(hf:Ml x)
  (hu:(BQ c).length<=1000000) (hN:∀c∈x.cells,AK C0 21 [Al false c] (Al false (BS c))) (m:Nat) (hm:m<=(BQ c).length):
  AK C0 53 [x.D,i64 (i:Int),i64 (m:Int)] (.tup [(EK x i (BS (DP x c m))).D,Al false (BS (Gn x c m))]):=by
 refine Ak.walk w1 xV rfl λF=>?_
 have cL:=v6 x i c hc hcl hl hx hf;have cU:=bT false c hl hx;have hmU:=pH hsh;have hrl:=MW (x:=x) hm;have hfl:=YQ (x:=x) hm;have cN:=Qu false (DP x c m) (by omega) λy hy=>hmU y (MX y hy)
 have cN2:=Qu false (Gn x c m) (by omega) λy hy=>hmU y (Qb y hy)
 have hi:=(List.getElem?_eq_some_iff.1 hc).1;have cW:=xw x i hi hcl hN (DP x c m) cN;have hlo:=UC x c m;have hrD:DP x c m=((BQ c).drop (E6 x c m)).take ((BQ c).length-m):=rfl;have hfD:Gn x c m=(BQ c).reverse.take (m-E6 x c m)++(BQ c).take (E6 x c m):=rfl;have hlX:E6 x c m=CS (Ki x) (BQ c).length m:=rfl;have hat:(x.cells.map (Al false))[i]?=some (.sl false 3 (c.map AD.D)):=by rw[A8,hc];rfl
 have el:(((x.cells.map (Al false)).length:Nat):Int)=(x.cells.length:Int):=by rw[Ac]
 have hoD:(EK x i (BS (DP x c m))).D=.agg [str (sb x.flow),i64 x.core,i64 x.room,i64 x.side,.sl false 1 ((EK x i (BS (DP x c m))).cells.map (Al false))]:=rfl;have po:AA (.tup [(EK x i (BS (DP x c m))).D,Al false (BS (Gn x c m))]):=AI;rw[hoD]at cW po⊢;obtain⟨OC,hOC⟩:∃O,(EK x i (BS (DP x c m))).cells.map (Al false)=O:=⟨_,rfl⟩
 rw[hOC]at cW po⊢;obtain⟨U,hU⟩:∃U,BQ c=U:=⟨_,rfl⟩
 rw[hU]at cL cU hm hu hlX hrD hfD;obtain⟨bot,hbot⟩:∃b,Ki x=b:=⟨_,rfl⟩
 rw[hbot]at cL hlX;have px:AA x.D:=AI;have px2:AT x.D:=AI;have hB0:x.D=.agg [str (sb x.flow),i64 x.core,i64 x.room,i64 x.side,.sl false 1 (x.cells.map (Al false))]:=rfl;rw[hB0]at cL cW px px2⊢;obtain⟨XD,hXD⟩:∃T,x.cells.map (Al false)=T:=⟨_,rfl⟩
 rw[hXD]at cL cW px px2 hat el⊢;have hOat:=λj hj=>oT bot U (j:=j) (m:=U.length) hj
 have hLat:=λj hj=>ox bot U.length (j:=j) (m:=U.length) hj
 obtain⟨OR,hOR⟩:∃O,Gs bot U U.length=O:=⟨_,rfl⟩
 rw[hOR]at cL hOat;obtain⟨LO,hLO⟩:∃O,Gq bot U.length U.length=O:=⟨_,rfl⟩
 rw[hLO]at cL hLat;have pLO:AA (.sl false 1 (LO.map Aq)):=AI;refine AH AZ (Ah el kN) cL AB AB AB AB AB ?_;refine AC.ghost 806 80 3 [(1,i64 (i:Int)),(2,i64 (m:Int)),(3,.optr 0 0 5 0 0),(6,.optr 1 1 5 0 0),(8,Al false OR),(9,.sl false 1 (LO.map Aq)),(10,.osl 806 _ 3 0 0),(11,CT),(12,i64 ((0:Nat):Int))] ⟨.inl rfl,.inl rfl,.inl rfl,.inl rfl,.inl rfl,.inl rfl,.inr ⟨rfl,rfl⟩,.inl rfl,.inl rfl,trivial⟩ ?_;refine AC.ghost 706 80 3 [(1,i64 (i:Int)),(2,i64 (m:Int)),(3,.optr 0 0 5 0 0),(6,.optr 1 1 5 0 0),(8,Al false OR),(9,.sl false 1 (LO.map Aq)),(10,.osl 806 _ 3 0 0),(11,.osl 706 _ 3 0 0),(12,i64 ((0:Nat):Int))] ⟨.inl rfl,.inl rfl,.inl rfl,.inl rfl,.inl rfl,.inl rfl,.inl rfl,.inr ⟨rfl,rfl⟩,.inl rfl,trivial⟩ ?_;refine AC.loop (α:=Nat×Bool×Nat×Nat×Nat) (λp=>⟨[(1,i64 (i:Int)),(2,i64 (m:Int)),(3,.optr 0 0 5 0 0),(6,.optr 1 1 5 0 0),(8,Al false OR),(9,.sl false 1 (LO.map Aq)),(10,.osl 806 p.2.2.1 3 0 (p.1-CS bot U.length p.1)),(11,.osl 706 p.2.2.2.1 3 0 (CS bot U.length p.1)),(12,i64 (p.1:Int))],
   (if p.2.1 then[⟨706,p.2.2.2.1,80,3,(U.take (CS bot U.length p.1)).map AD.D⟩,⟨806,p.2.2.1,80,3,(U.reverse.take (p.1-CS bot U.length p.1)).map AD.D⟩]else[⟨806,p.2.2.1,80,3,(U.reverse.take (p.1-CS bot U.length p.1)).map AD.D⟩,⟨706,p.2.2.2.1,80,3,(U.take (CS bot U.length p.1)).map AD.D⟩]) ++
   [⟨1,1,24,5,[.agg [.prim (.string ⟨#[]⟩),.prim (.int .i64 0),.prim (.int .i64 0),.prim (.int .i64 0),.prim (.slice none 0 0)]]⟩,⟨0,0,24,5,[.agg [str (sb x.flow),i64 x.core,i64 x.room,i64 x.side,.sl false 1 XD]]⟩],p.2.2.2.2⟩)
  (λp=>m-p.1) (λq=>q.1<=m) (0,true,_,_,_) (BU _) (by exact AJ) ?_
 rintro⟨j,last,g1,g2,n⟩ F hj;dsimp only at hj⊢;have hlc:=JP bot U.length j;rcases BH j m with h2|h2
 rotate_left
 ·have:j=m:=by omega
  subst this;have k0:decide (((j:Nat):Int)<(j:Int))=false:=Ag (by omega);obtain⟨A,hA⟩:∃A,E6 x c j=A:=⟨_,rfl⟩
  rw[<-hlX,hA]at hlc⊢;rw[hA]at hrD hfD;have hHl:(U.reverse.take (j-A)).length=j-A:=by rw[Bd,List.length_reverse];omega
  have hLl:(U.take A).length=A:=by rw[Bd];omega
  refine AC.weak ⟨[(1,i64 (i:Int)),(2,i64 (j:Int)),(3,.optr 0 0 5 0 0),(6,.optr 1 1 5 0 0),(10,Al false (U.reverse.take (j-A))),(11,Al false (U.take A)),(12,i64 (j:Int))],[⟨1,1,24,5,[.agg [.prim (.string ⟨#[]⟩),.prim (.int .i64 0),.prim (.int .i64 0),.prim (.int .i64 0),.prim (.slice none 0 0)]]⟩,⟨0,0,24,5,[.agg [str (sb x.flow),i64 x.core,i64 x.room,i64 x.side,.sl false 1 XD]]⟩],n⟩ ?_ ?_
  ·cases last
   ·exact AJ (a:=.drop (.drop (.keep (.keep .nil)))) (b:=⟨.refl _,.refl _,.refl _,.refl _,KX rfl rfl (by rw[Ac,hHl]),KX rfl rfl (by rw[Ac,hLl]),.refl _,trivial⟩)
   ·exact AJ (a:=.drop (.drop (.keep (.keep .nil)))) (b:=⟨.refl _,.refl _,.refl _,.refl _,KX rfl rfl (by rw[Ac,hHl]),KX rfl rfl (by rw[Ac,hLl]),.refl _,trivial⟩)
  have eH:((((U.reverse.take (j-A)).map AD.D).length:Nat):Int)=((j-A:Nat):Int):=by rw[Ac,hHl]
  have eL:((((U.take A).map AD.D).length:Nat):Int)=(A:Int):=by rw[Ac,hLl]
  have eU:(((U.map AD.D).length:Nat):Int)=(U.length:Int):=by rw[Ac]
  have wS:IntKind.i64.wrap ((U.length:Int)-((j-A:Nat):Int))=((U.length-(j-A):Nat):Int):=by rw[wI (by omega) (by omega)];omega
  have hRD:((U.map AD.D).drop A).take (U.length-(j-A)-A)=(DP x c j).map AD.D:=by
   rw[hrD,<-List.map_drop,<-NY,show U.length-(j-A)-A=U.length-j by omega]
  have hFD:(Gn x c j).map AD.D=(U.reverse.take (j-A)).map AD.D++(U.take A).map AD.D:=by rw[hfD,Cq]
  unfold Al at cN2;rw[hFD]at cN2;have hs1:(0:Int)<=(A:Int)/\(A:Int)<=((U.length-(j-A):Nat):Int)/\((U.length-(j-A):Nat):Int)<=(U.length:Int):=by omega
  have pF1:AA (.sl false 3 ((U.reverse.take (j-A)).map AD.D)):=AI;have pF2:AA (.sl false 3 ((U.take A).map AD.D)):=AI;have pF3:AA (.sl false 3 ((U.reverse.take (j-A)).map AD.D++(U.take A).map AD.D)):=by rw[<-hFD];exact AI
  have hUDl:(U.map AD.D).length=U.length:=Ac ..;obtain⟨HD,hHD⟩:∃T,(U.reverse.take (j-A)).map AD.D=T:=⟨_,rfl⟩
  obtain⟨LD,hLD⟩:∃T,(U.take A).map AD.D=T:=⟨_,rfl⟩
  have hHDl:HD.length=j-A:=by rw[<-hHD,Ac,hHl]
  have hLDl:LD.length=A:=by rw[<-hLD,Ac,hLl]
  unfold Al at cU cW⊢;obtain⟨UD,hUD⟩:∃T,U.map AD.D=T:=⟨_,rfl⟩
  rw[hHD]at eH pF1 pF3 cN2⊢;rw[hLD]at eL pF2 pF3 cN2⊢;rw[hUD]at eU hRD cU hUDl;have f1:∀l:List D,([]:List D)++l=l:=EZ;have f2:∀n,List.take n ([]:List D)=[]:=λn=>List.take_nil
  refine AH AZ (Dp k0 el eH eL eU @wS) hat cU AB AB AB AB ?_;rw[Ib,Ib,hRD];refine BE.same _ cW AI ?_;refine AH AZ (As f1 f2 BV) AB AB AB AB AB AB ?_;rw[Cf];refine BE.own _ (NS [⟨1,1,24,5,[.agg [.prim (.string ⟨#[]⟩),.prim (.int .i64 0),.prim (.int .i64 0),.prim (.int .i64 0),.prim (.slice none 0 0)]]⟩,⟨0,0,24,5,[.agg [str (sb x.flow),i64 x.core,i64 x.room,i64 x.side,.sl false 1 XD]]⟩] cN2 (.drop (.keep (.keep .nil))) ⟨KX rfl rfl (by rw[Bc]),trivial⟩ AI) ?_;rintro d H2 n2 ⟨rfl,rfl,rfl⟩;refine AH AZ kB AB AB AB AB AB AB ?_;exact AL rfl po.out
 have h3:j<U.length:=by omega
 have k0:decide ((j:Int)<(m:Int))=true:=AX (by omega);have wj:=Cc (i:=j) (by omega);have hO:=hOat j h3;have hL:=hLat j h3;have hlow:=@uv bot U j h3;have hhigh:=@pD bot U j h3;have hs:=RJ bot U.length j;have hlc2:=JP bot U.length (j+1);obtain⟨A,hA⟩:∃A,CS bot U.length j=A:=⟨_,rfl⟩
 obtain⟨A2,hA2⟩:∃A,CS bot U.length (j+1)=A:=⟨_,rfl⟩
 rw[hA]at hs hlow hhigh hlc hO⊢;rw[hA2]at hs hlow hhigh hlc2;have hLm:(LO.map Aq)[j]?=some (Aq (bot (U.length-j))):=by rw[A8,hL];rfl
 have hHl:((U.reverse.take (j-A)).map AD.D).length=j-A:=by rw[Ac,Bd,List.length_reverse];omega
 have hLl:((U.take A).map AD.D).length=A:=by rw[Ac,Bd];omega
 cases hb:bot (U.length-j)
 ·rw[hb]at hs hO hLm
  rw[AF (by decide)]at hs hO;have hhigh:=hhigh hb;obtain⟨Y,hY⟩:∃Y,U.getD (A+(U.length-j)-1) ⟨[],0,[]⟩=Y:=⟨_,rfl⟩
  rw[hY]at hO hhigh;have hHD:(U.reverse.take (j+1-A)).map AD.D=(U.reverse.take (j-A)).map AD.D++[.agg [str (sb Y.grain),i64 Y.mass,Ce false Y.shs]]:=by
   rw[show j+1-A=j+1-A2 by omega,hhigh,Cq];rfl
  have hOm:(OR.map AD.D)[j]?=some (.agg [str (sb Y.grain),i64 Y.mass,Ce false Y.shs]):=by rw[A8,hO];rfl
  obtain⟨HD,hHDe⟩:∃T,(U.reverse.take (j-A)).map AD.D=T:=⟨_,rfl⟩
  obtain⟨LD,hLDe⟩:∃T,(U.take A).map AD.D=T:=⟨_,rfl⟩
  rw[hHDe]at hHl hHD⊢;rw[hLDe]at hLl⊢;have htk:HD.take (j-A)=HD:=by rw[<-hHl];exact Cf
  have e2:A2=A:=by omega
  cases last
  all_goals
   simp only[if_true,E9,if_false,ED,EZ];refine AH AZ (BY k0 wj htk kN) hLm hOm AB AB AB AB ?_;refine⟨(j+1,false,?ga,g2,n+1000),h2,by dsimp only;omega,?_⟩
   rotate_left
   ·dsimp only
    simp only[E9,if_false,ED,EZ];rw[hA2,e2,hHD,hLDe,show j+1-A=j-A+1 by omega];exact AJ
 ·rw[hb]at hs hO hLm
  rw[AG rfl]at hs hO;have hlow:=hlow hb;obtain⟨Y,hY⟩:∃Y,U.getD A ⟨[],0,[]⟩=Y:=⟨_,rfl⟩
  rw[hY]at hO hlow;have hLD2:(U.take A2).map AD.D=(U.take A).map AD.D++[.agg [str (sb Y.grain),i64 Y.mass,Ce false Y.shs]]:=by
   rw[hlow,Cq];rfl
  have hOm:(OR.map AD.D)[j]?=some (.agg [str (sb Y.grain),i64 Y.mass,Ce false Y.shs]):=by rw[A8,hO];rfl
  have e3:j+1-A2=j-A:=by omega
  obtain⟨HD,hHDe⟩:∃T,(U.reverse.take (j-A)).map AD.D=T:=⟨_,rfl⟩
  obtain⟨LD,hLDe⟩:∃T,(U.take A).map AD.D=T:=⟨_,rfl⟩
  rw[hHDe]at hHl⊢;rw[hLDe]at hLl hLD2⊢;have htk:LD.take A=LD:=by rw[<-hLl];exact Cf
  cases last
  all_goals
   simp only[if_true,E9,if_false,ED,EZ];refine AH AZ (BY k0 wj htk kN) hLm hOm AB AB AB AB ?_;refine⟨(j+1,true,g1,?gb,n+1000),h2,by dsimp only;omega,?_⟩
   rotate_left
   ·dsimp only
    simp only[if_true,ED,EZ];rw[hA2,e3,hLD2,hHDe,hs];exact AJ
def H7 (l:List AD)(y:AD):Prop:=∃z∈l,y.grain=z.grain/\y.shs=z.shs
theorem Qh {l:List AD}:∀y∈BS l,H7 l y:=by
 have:∀(l R A:List AD),(∀y∈R,H7 A y)->∀y∈l.foldl Ci R,H7 (A++l) y:=λl=>by
  induction l with
  |nil=>intro R A h y hy;rw[C5];exact h y hy
  |cons x l ih=>
   intro R A h y hy;rw[List.foldl_cons]at hy
   have:=ih (Ci R x) (A++[x]) (λz hz=>by
    unfold Ci at hz;split at hz
    ·rename_i w hw
     split at hz
     ·rcases List.mem_append.1 hz with hz|hz
      ·obtain⟨q,hq,e⟩:=h z ((List.dropLast_sublist R).subset hz)
       exact⟨q,HU _ hq,e⟩
      ·obtain rfl:=List.mem_singleton.1 hz
       obtain⟨q,hq,e⟩:=h w (List.mem_of_getLast? hw);exact⟨q,HU _ hq,e⟩
     ·rcases List.mem_append.1 hz with hz|hz
      ·obtain⟨q,hq,e⟩:=h z hz
       exact⟨q,HU _ hq,e⟩
      ·obtain rfl:=List.mem_singleton.1 hz
       exact⟨z,List.mem_append_right _ (List.mem_singleton.2 rfl),rfl,rfl⟩
    ·obtain rfl:=List.mem_singleton.1 hz
     exact⟨z,List.mem_append_right _ (List.mem_singleton.2 rfl),rfl,rfl⟩) y hy
   rw[De]at this;exact this
 intro y hy
 have:=this l [] [] (λy hy=>by cases hy) y hy
 rwa [EZ]at this
theorem T8 {l:List AD}:∀y∈BQ l,H7 l y:=λy hy=>by
 obtain⟨z,hz,rfl,_⟩:=Ov y hy;exact⟨z,hz,rfl,rfl⟩
theorem H7.trans {l L:List AD}{y:AD}(h:H7 L y)(hL:∀z∈L,H7 l z):H7 l y:=by
 obtain⟨z,hz,e1,e2⟩:=h;obtain⟨q,hq,e3,e4⟩:=hL z hz;exact⟨q,hq,e1.trans e3,e2.trans e4⟩
theorem Mg {l:List AD}(h:∀x∈l,1<=x.mass):∀y∈BS l,1<=y.mass:=by
 have:∀(l R:List AD),(∀x∈l,1<=x.mass)->(∀y∈R,1<=y.mass)->∀y∈l.foldl Ci R,1<=y.mass:=λl=>by
  induction l with
  |nil=>intro R _ h;exact h
  |cons x l ih=>
   intro R hl hR;rw[List.foldl_cons];refine ih _ (λy hy=>hl y (CK _ hy)) λz hz=>?_
   have hx:=hl x (CG ..);unfold Ci at hz;split at hz
   ·rename_i w hw
    split at hz
    ·rcases List.mem_append.1 hz with hz|hz
     ·exact hR z ((List.dropLast_sublist R).subset hz)
     ·obtain rfl:=List.mem_singleton.1 hz
      have:=hR w (List.mem_of_getLast? hw)
      show 1<=w.mass+x.mass;omega
    ·rcases List.mem_append.1 hz with hz|hz
     ·exact hR z hz
     ·obtain rfl:=List.mem_singleton.1 hz;exact hx
   ·obtain rfl:=List.mem_singleton.1 hz;exact hx
 exact this l [] h λy hy=>by cases hy
theorem P2 {l:List AD}(h:∀x∈l,0<=x.mass){y:AD}(hy:y∈l):y.mass<=Am l:=by
 obtain⟨A,B,rfl⟩:=FA hy;rw[OI,show Am (y::B)=y.mass+Am B from rfl];have p1:=Le (l:=A) λz hz=>h z (HU _ hz)
 have p2:=Le (l:=B) λz hz=>h z (List.mem_append_right _ (CK _ hz))
 omega
theorem ib {y z:AD}(h:CZ z=0)(e1:y.grain=z.grain)(e2:y.shs=z.shs)(hm:1<=y.mass/\y.mass<=999999999):CZ y=0:=by
 unfold CZ at h⊢;rw[e1,e2];split at h
 ·cases h
 ·split at h
  ·cases h
  ·rw[AF (by assumption),AF (by omega)];exact h
theorem YD {l L:List AD}(h:Bv l=0)(hk:∀y∈L,H7 l y)(hn:L.length<=64)(hm:∀y∈L,1<=y.mass)(hs:Am L<=999999999):Bv L=0:=by
 obtain⟨h1,h2,h3⟩:=Lh h;have h0:∀y∈L,0<=y.mass:=λy hy=>by have:=hm y hy;omega
 unfold Bv;rw[AF (by omega),LC (λj hj=>?_),AF (by decide),AF (by omega)];have hj2:CI L j∈L:=by
  unfold CI;rw[DR,A9 hj];exact List.getElem_mem hj
 obtain⟨z,hz,e1,e2⟩:=hk _ hj2
 have:=P2 h0 hj2
 exact ib (h2 z hz) e1 e2 ⟨hm _ hj2,by omega⟩
theorem jX {l:List AD}(h:CM l=true):∀x∈l,∀y∈l,x.grain=y.grain:=λx hx y hy=>by
 unfold CM at h;rw[CQ]at h;have h1:=h x hx;have h2:=h y hy;rw[LW,decide_eq_true_iff]at h1 h2;rw[h1,h2]
theorem ki {l:List AD}(h:∀x∈l,∀y∈l,x.grain=y.grain):CM l=true:=by
 unfold CM;rw[CQ];intro x hx;rw[LW,decide_eq_true_iff];refine h x hx _ ?_;unfold CI;cases l with
 |nil=>cases hx
 |cons a l=>exact CG ..
theorem nL {l L:List AD}(h:CM l=true)(hk:∀y∈L,H7 l y):CM L=true:=ki λx hx y hy=>by
 obtain⟨a,ha,e1,_⟩:=hk x hx;obtain⟨b,hb,e2,_⟩:=hk y hy;rw[e1,e2];exact jX h a ha b hb
theorem Xr {x:Az}{c L:List AD}(h:DC x c=0)(hk:∀y∈L,H7 c y)(hn:L.length<=64)(hm:∀y∈L,1<=y.mass)(hs:Am L<=Am c):DC x L=0:=by
 obtain⟨h1,h2,h3,h4,h5,h6⟩:=Fr h;exact Xs (YD h1 hk hn hm (by omega)) (nL h2 hk) (by omega)
theorem jn {x y:Az}(hr:y.room=x.room)(c:List AD):DC y c=DC x c:=by unfold DC;rw[hr]
theorem Xt {x:Az}:∀ {l:List (List AD)},(∀c∈l,DC x c=0)->EQ x l=0
 | [],_=>rfl
 |c::l,h=>by
  show(if DC x c≠0 then DC x c else EQ x l)=0;rw[AF (λq=>q (h c (CG ..)))];exact Xt λd hd=>h d (CK _ hd)
theorem uW {x y:Az}(h1:y.flow=x.flow)(h2:y.core=x.core)(h3:y.room=x.room)(h4:y.side=x.side)(h5:y.cells.length=x.cells.length):F9 y=F9 x:=by
 unfold F9 L7 Kt Rr;rw[h1,h2,h3,h4,h5]
theorem Mq {x:Az}(h:CE x=0):F9 x=0/\Ds x.side (Au x)=false:=by
 unfold CE at h
 by_cases h1:F9 x=0
 ·rw[AF (λq=>q h1)]at h
  by_cases h2:EQ x x.cells=0
  ·rw[AF (λq=>q h2)]at h
   refine⟨h1,?_⟩;cases hb:Ds x.side (Au x)
   ·rfl
   ·rw[hb]at h;cases h
  ·rw[AG h2]at h;exact Ad h h2
 ·rw[AG h1]at h;exact Ad h h1
theorem qL {x y:Az}(h:CE x=0)(h1:y.flow=x.flow)(h2:y.core=x.core)(h3:y.room=x.room)(h4:y.side=x.side)(h5:y.cells.length=x.cells.length)(hc:∀c∈y.cells,DC x c=0)(hs:Ds x.side (Au y)=false):CE y=0:=by
 unfold CE;rw[uW h1 h2 h3 h4 h5,(Mq h).1,AF (λq=>q rfl),Xt (λc hq=>(jn h3 c).trans (hc c hq)),AF (λq=>q rfl),h4,hs];rfl
theorem Yw {x:Az}(h:CE x=0):Ml x:=by
 have h1:=(Mq h).1;rw[Rb]at h1;split at h1
 ·cases h1
 rename_i hf;split at h1
 ·cases h1
 rename_i hr;unfold Kq at hr;unfold Ml;cases hm:BK (sb x.flow) GN
 ·rw[hm]at hf hr
  cases hu:BK (sb x.flow) Iu
  ·rw[hu]at hf;exact Ad rfl hf
  ·rw[hu]at hr
   simp only[HV,Gd,Bool.false_or,Jr,Gc,not_or]at hr;exact .inr (by omega)
 ·exact .inl rfl
theorem ZT {x:Az}{c:List AD}{m:Nat}(hc:∀y∈c,1<=y.mass)(hm:m<=(BQ c).length):(∀y∈BS (DP x c m),H7 c y)/\(∀y∈BS (DP x c m),1<=y.mass)/\Am (BS (DP x c m))=Am c-m:=by
 have hu:∀y∈DP x c m,1<=y.mass:=λy hy=>by
  obtain⟨z,hz,rfl,_⟩:=Ov y (MX y hy);exact Int.le_refl _
 refine⟨λy hy=>(Qh y hy).trans λz hz=>T8 z (MX z hz),Mg hu,?_⟩;have h0:∀y∈c,0<=y.mass:=λy hy=>by have:=hc y hy;omega
 rw[Ld,<-KU h0];have h1:Am (DP x c m)=((DP x c m).length:Int):=by
  have:∀L:List AD,(∀y∈L,y.mass=1)->Am L=(L.length:Int):=λL=>by
   induction L with
   |nil=>intro _;rfl
   |cons a L ih=>
    intro h;rw[show Am (a::L)=a.mass+Am L from rfl,h a (CG ..),ih λy hy=>h y (CK _ hy),Bo];omega
  exact this _ λy hy=>by
   obtain⟨z,hz,rfl,_⟩:=Ov y (MX y hy);rfl
 rw[h1,MW hm];omega
def Kf (x:Az)(i m:Int):Int:=Et [PF x [i],if decide (m<0)then 3 else 0]
def E2 (x:Az)(i m:Int):Az:=EK x i.toNat (BS (DP x (DZ x i) m.toNat))
def NJ (x:Az)(i m:Int):List AD:=BS (Gn x (DZ x i) m.toNat)
def U9 (x:Az)(i m:Int):Int:=if Ds x.side (Au (E2 x i m))then 17 else if 64<(NJ x i m).length then 5 else 0
def R5 (x:Az)(i m:Int):Int:=if Kf x i m≠0 then Kf x i m else if Am (DZ x i)<m then 13 else U9 x i m
theorem oS {P Q:List AD}(hP:∀y∈P,1<=y.mass)(hQ:∀y∈Q,1<=y.mass):BS (BS P++BS Q)=BS (P++Q):=by
 have h0:∀L:List AD,(∀y∈L,1<=y.mass)->∀y∈L,0<=y.mass:=λL h y hy=>by have:=h y hy;omega
 refine uc (λy hy=>?_) (λy hy=>?_) ?_
 ·rcases List.mem_append.1 hy with h|h
  ·exact Mg hP y h
  ·exact Mg hQ y h
 ·rcases List.mem_append.1 hy with h|h
  ·exact hP y h
  ·exact hQ y h
 ·rw[KT,KT,bJ (h0 P hP),bJ (h0 Q hQ)]
structure v7 (x:Az)(i m:Int)(c:List AD)(n k:Nat):Prop where
 cel:∀c∈x.cells,DC x c=0
 bin:CE x=0
 lt:i.toNat<x.cells.length
 ii:i=(i.toNat:Int)
 at_:x.cells[i.toNat]?=some c
 mm:m=(k:Int)
 nn:(n:Int)=Am c
 un:(BQ c).length=n
 par:Bv c=0
theorem Ue {x:Az}{i m:Int}(h:Kf x i m=0):v7 x i m (DZ x i) (BQ (DZ x i)).length m.toNat:=by
 obtain⟨h1,h2⟩:=rp h;obtain⟨g1,g2,g3⟩:=qc h1;have hlt:i.toNat<x.cells.length:=by omega
 have hat:x.cells[i.toNat]?=some (DZ x i):=by
  unfold DZ;rw[DR,A9 hlt];rfl
 have hp:=(Fr (IC g1 _ (Aw hat))).1;have hm:¬m<0:=λq=>by rw[AX q]at h2;cases h2
 exact⟨IC g1,g1,hlt,by omega,hat,by omega,KU λy hy=>by have:=((D9 hp).2.1 y hy).1;omega,rfl,hp⟩
theorem UN:∀ {L:List AD},(∀y∈L,y.mass=1)->Am L=(L.length:Int)
 | [],_=>rfl
 |a::L,h=>by
  rw[show Am (a::L)=a.mass+Am L from rfl,h a (CG ..),UN λy hy=>h y (CK _ hy),Bo];omega
theorem OJ {c:List AD}:∀y∈BQ c,y.mass=1:=λy hy=>by
 obtain⟨z,hz,rfl,_⟩:=Ov y hy;rfl
theorem cz {c L:List AD}(hp:Bv c=0)(hL:∀y∈L,y∈BQ c)(hl:L.length<=(BQ c).length):(∀y∈BS L,1<=y.mass/\y.mass<=1000000000/\y.shs.length<=1000000)/\Am (BS L)=(L.length:Int):=by
 have h1:∀y∈L,y.mass=1:=λy hy=>OJ y (hL y hy)
 have hs:=UN h1;have hc:=(Lh hp).2.2;have hn:=KU (l:=c) λy hy=>by have:=((D9 hp).2.1 y hy).1;omega
 have h0:∀y∈BS L,1<=y.mass:=Mg λy hy=>by rw[h1 y hy];exact Int.le_refl _
 refine⟨λy hy=>⟨h0 y hy,?_,?_⟩,by rw[Ld,hs]⟩
 ·have:=P2 (λz hz=>by have:=h0 z hz;omega) hy
  rw[Ld,hs]at this;omega
 ·obtain⟨z,hz,_,e⟩:=Qh y hy
  obtain⟨w,hw,_,e2⟩:=T8 z (hL z hz);rw[e,e2];exact((D9 hp).2.1 w hw).2.2
theorem WB {c:List AD}{k:Nat}(hc:∀y∈c,1<=y.mass):(BS ((BQ c).take k)).length<=c.length:=by
 have h0:∀y∈c,0<=y.mass:=λy hy=>by have:=hc y hy;omega
 have e:=fF (l:=c) (m:=(k:Int)) h0 (by omega);rw[Ib]at e;have h1:∀y∈Ec c (k:Int),0<=y.mass:=by
  have:∀(l:List AD) (m:Int),(∀y∈l,0<=y.mass)->0<=m->∀y∈Ec l m,0<=y.mass:=λl=>by
   induction l with
   |nil=>intro m _ _ y hy;cases hy
   |cons a l ih=>
    intro m h hm y hy
    have:=h a (CG ..)
    rcases BG.1 hy with rfl|hy
    ·show 0<=min a.mass m;omega
    ·split at hy
     ·cases hy
     ·exact ih _ (λz hz=>h z (CK _ hz)) (by omega) y hy
  exact this c _ h0 (by omega)
 have h2:=bI h1;rw[e]at h2;rw[<-h2];have h3:=OX (K4 (Ec c (k:Int)));have h4:(K4 (Ec c (k:Int))).length<=(Ec c (k:Int)).length:=List.length_filter_le ..;have h5:=Zj c (k:Int);omega
theorem gl {c:List AD}{k:Nat}(hc:∀y∈c,1<=y.mass):(BS ((BQ c).reverse.take k)).length<=c.length:=by
 rw[<-cr]
 have:=WB (c:=c.reverse) (k:=k) λy hy=>hc y (List.mem_reverse.1 hy)
 rwa [List.length_reverse]at this
theorem iX {P Q:List AD}(hP:∀y∈P,1<=y.mass)(hQ:∀y∈Q,1<=y.mass):(BS (P++Q)).length<=(BS P).length+(BS Q).length:=by
 rw[<-oS hP hQ,<-Bc];exact OX _
theorem jm {x:Az}{c:List AD}{m:Nat}(hc:∀y∈c,1<=y.mass):(BS (Gn x c m)).length<=c.length+c.length:=by
 have h1:∀y∈(BQ c).reverse.take (m-E6 x c m),1<=y.mass:=λy hy=>by
  rw[OJ y (List.mem_reverse.1 (Fy hy))];exact Int.le_refl _
 have h2:∀y∈(BQ c).take (E6 x c m),1<=y.mass:=λy hy=>by
  rw[OJ y (Fy hy)];exact Int.le_refl _
 have:=iX h1 h2
 have g1:=gl (k:=m-E6 x c m) hc;have g2:=WB (k:=E6 x c m) hc;unfold Gn;omega
theorem QT {x:Az}{c:List AD}{m:Nat}(hc:∀y∈c,1<=y.mass):(BS (DP x c m)).length<=c.length:=by
 have h0:∀y∈c,0<=y.mass:=λy hy=>by have:=hc y hy;omega
 have e:=dG (l:=c) (low:=(E6 x c m:Int)) (left:=(((BQ c).length-m:Nat):Int)) h0 (by omega) (by omega);rw[Ib,Ib]at e;have hbl:∀(l:List AD) (a b:Int),(GX l a b).length=l.length:=λl=>by
  induction l with
  |nil=>intro a b;rfl
  |cons z l ih=>intro a b;show(GX l _ _).length+1=_;rw[ih];rfl
 have hbn:∀(l:List AD) (a b:Int),(∀y∈l,0<=y.mass)->0<=a->0<=b->∀y∈GX l a b,0<=y.mass:=λl=>by
  induction l with
  |nil=>intro a b _ _ _ y hy;cases hy
  |cons z l ih=>
   intro a b h ha hb y hy
   have:=h z (CG ..)
   rcases BG.1 hy with rfl|hy
   ·show 0<=min (z.mass-min z.mass a) b;omega
   ·exact ih _ _ (λw hw=>h w (CK _ hw)) (by omega) (by omega) y hy
 have h2:=bI (hbn c (E6 x c m:Int) (((BQ c).length-m:Nat):Int) h0 (by omega) (by omega));rw[e]at h2;show(BS (((BQ c).drop (E6 x c m)).take ((BQ c).length-m))).length<=_;rw[<-h2];have h3:=OX (K4 (GX c (E6 x c m:Int) (((BQ c).length-m:Nat):Int)));have h4:(K4 (GX c (E6 x c m:Int) (((BQ c).length-m:Nat):Int))).length<=(GX c (E6 x c m:Int) (((BQ c).length-m:Nat):Int)).length:=List.length_filter_le ..;rw[hbl]at h4;omega
open Go.Sort
def Ks (x:Az):Bool:=x.cells.all Gl&&(decide (x.flow.length<=100)&&decide (x.cells.length<=20))
theorem mJ (x:Az)(hl:x.cells.length<=9223372036854775807)(hs:∀c∈x.cells,c.length<=9223372036854775807/\∀y∈c,y.shs.length<=9223372036854775807):AK C0 39 [x.D] (Aq (Ks x)):=by
 refine Ak.walk w1 xO rfl λF=>?_
 obtain⟨cs,hcs⟩:∃c,x.cells=c:=⟨_,rfl⟩
 have el:(((cs.map (Al false)).length:Nat):Int)=(cs.length:Int):=by rw[Ac]
 have hb:Ks x=(cs.all Gl&&(decide (x.flow.length<=100)&&decide (cs.length<=20))):=by rw[<-hcs];rfl
 rw[hb];unfold Az.D;rw[hcs]at hl hs⊢;refine AH AZ el AB AB AB AB AB AB ?_;refine AC.loop (α:=Nat×Nat) (λp=>⟨[(1,.optr 0 0 5 0 0),(6,Ez false cs),(7,i64 (cs.length:Int)),(8,i64 (p.1:Int))],[⟨0,0,24,5,[.agg [str (sb x.flow),i64 x.core,i64 x.room,i64 x.side,Ez false cs]]⟩],p.2⟩) (λp=>cs.length-p.1) (λq=>q.1<=cs.length/\(cs.take q.1).all Gl=true) (0,_) ⟨BU _,rfl⟩ AJ ?_;rintro⟨i,n⟩ F ⟨hi,ha⟩;dsimp only at hi ha⊢;rcases BH i cs.length with h2|h2
 rotate_left
 ·have e1:=Cj h2
  have:i=cs.length:=by omega
  subst this;rw[Cf]at ha;rw[ha,Gd];have hsz:=Cg x.flow;have d1:decide (x.flow.length<=100)=decide ((x.flow.length:Int)<=100):=C8.2 (by omega);have d2:decide (cs.length<=20)=decide ((cs.length:Int)<=20):=C8.2 (by omega);rw[d1,d2];obtain⟨q1,h1⟩:∃q,decide ((x.flow.length:Int)<=100)=q:=⟨_,rfl⟩
  rw[h1];cases q1
  all_goals
   refine AH AZ (Dp e1 hsz el h1 kT kF) AB AB AB AB AB AB ?_;exact AL rfl AA.out
 have e1:=Ck h2;have wi:=Cc (i:=i) (by omega);obtain⟨c,hc⟩:=CU h2;have hm:(cs.map (Al false))[i]?=some (.sl false 3 (c.map AD.D)):=by rw[A8,hc];rfl
 obtain⟨hs1,hs2⟩:=hs c (Aw hc);have cS:=u7 false c hs1 hs2;have htk:cs.take (i+1)=cs.take i++[c]:=by rw[Da,hc];rfl
 cases hq:Gl c
 ·rw[hq]at cS
  have hall:cs.all Gl=false:=by
   rw[List.all_eq_false];exact⟨c,Aw hc,by rw[hq];exact Bool.false_ne_true⟩
  rw[hall,HV];refine AH AZ (As e1 kT kF) hm cS AB AB AB AB ?_;exact AL rfl AA.out
 ·rw[hq]at cS
  refine AH AZ (BY e1 wi kT kF) hm cS AB AB AB AB ?_;exact⟨(i+1,_),⟨h2,by dsimp only;rw[htk,Js,ha,Fl,hq];rfl⟩,by dsimp only;omega,AJ⟩
theorem bZ {x:Az}(h:Ks x=true):x.cells.length<=20/\x.flow.length<=100/\∀c∈x.cells,(∀y∈c,y.lite/\y.modr)/\c.length<=80:=by
 unfold Ks at h;rw[BR,BR,decide_eq_true_iff,decide_eq_true_iff,CQ]at h;obtain⟨h1,h2,h3⟩:=h;refine⟨h3,h2,λc hc=>?_⟩;obtain⟨g1,g2,_⟩:=qC (h1 c hc);exact⟨g1,g2⟩
def Kl (l:List AD)(n most:Int):Bool:=decide ((l.length:Int)<=n)&&decide (Am l<=most)
def NL (x:Az)(most:Int):Bool:=decide (x.cells.length<=4)&&(decide (CE x=0)&&x.cells.all λc=>Kl c 6 most)
def PO (x:Az):Bool:=Ks x&&(decide (CE x≠0)||NL x 60)
theorem vX (l:List AD)(n most:Int)(hl:l.length<=1000000)(hf:∀x∈l,x.modr)(hp:Bv l=0):AK C0 88 [Al false l,i64 n,i64 most] (Aq (Kl l n most)):=by
 refine Ak.walk w1 wV rfl λF=>?_
 have el:(((l.map AD.D).length:Nat):Int)=(l.length:Int):=by rw[Ac]
 have cP:=fe false l hl hf;have cM:=VQ false l (D9 hp).2.2;rw[hp]at cP;have k0:(((0:Nat):Int)==0)=true:=rfl;unfold Kl;obtain⟨a,ha⟩:∃a,decide ((l.length:Int)<=n)=a:=⟨_,rfl⟩
 obtain⟨b,hb⟩:∃b,decide (Am l<=most)=b:=⟨_,rfl⟩
 rw[ha,hb];cases a
 ·refine AH AZ (As el ha k0) AB AB AB AB AB AB ?_
  exact AL rfl AA.out
 ·cases b
  ·refine AH AZ (BY el ha hb k0) cP cM AB AB AB AB ?_
   exact AL rfl AA.out
  ·refine AH AZ (BY el ha hb k0) cP cM AB AB AB AB ?_
   exact AL rfl AA.out
theorem xr (x:Az)(most:Int)(hl:x.cells.length<=1000000)(hc:∀c∈x.cells,c.length<=1000000/\∀y∈c,y.modr):AK C0 40 [x.D,i64 most] (Aq (NL x most)):=by
 refine Ak.walk w1 xP rfl λF=>?_
 have cB:=UJ x hl hc;have hE:NL x most=(decide (x.cells.length<=4)&&(decide (CE x=0)&&x.cells.all λc=>Kl c 6 most)):=rfl;have hcl:=@IC x;obtain⟨cs,hcs⟩:∃c,x.cells=c:=⟨_,rfl⟩
 have el:(((cs.map (Al false)).length:Nat):Int)=(cs.length:Int):=by rw[Ac]
 obtain⟨E,hEE⟩:∃E,CE x=E:=⟨_,rfl⟩
 rw[hE];unfold Az.D at cB⊢;rw[hcs]at cB hcl hl hc⊢;rw[hEE]at cB hcl⊢
 by_cases h4:cs.length<=4
 rotate_left
 ·have k1:decide ((cs.length:Int)>4)=true:=AX (by omega)
  rw[Ag h4,HV];refine AH AZ (Ah el k1) AB AB AB AB AB AB ?_;exact AL rfl AA.out
 have k1:decide ((cs.length:Int)>4)=false:=Ag (by omega);rw[AX h4,Gd]
 by_cases h0:E=0
 rotate_left
 ·have k2:(E != 0)=true:=KQ h0
  rw[Ag h0,HV];refine AH AZ (As el k1 k2) cB AB AB AB AB AB ?_;exact AL rfl AA.out
 have k2:(E != 0)=false:=by rw[h0];rfl
 rw[AX h0,Gd];refine AH AZ (As el k1 k2) cB AB AB AB AB AB ?_;refine AC.loop (α:=Nat×Nat) (λp=>⟨[(1,i64 most),(2,.optr 0 0 5 0 0),(5,i64 (p.1:Int))],[⟨0,0,24,5,[.agg [str (sb x.flow),i64 x.core,i64 x.room,i64 x.side,Ez false cs]]⟩],p.2⟩) (λp=>cs.length-p.1) (λq=>q.1<=cs.length/\((cs.take q.1).all λc=>Kl c 6 most)=true) (0,_) ⟨BU _,rfl⟩ AJ ?_;rintro⟨i,n⟩ F ⟨hi,ha⟩;dsimp only at hi ha⊢;rcases BH i cs.length with h2|h2
 rotate_left
 ·have e1:=Cj h2
  have:i=cs.length:=by omega
  subst this;rw[Cf]at ha;rw[ha];refine AH AZ (Ah e1 el) AB AB AB AB AB AB ?_;exact AL rfl AA.out
 have e1:=Ck h2;have wi:=Cc (i:=i) (by omega);obtain⟨c,hc'⟩:=CU h2;have hm:(cs.map (Al false))[i]?=some (.sl false 3 (c.map AD.D)):=by rw[A8,hc'];rfl
 have hmem:=Aw hc';have cF:=vX c 6 most (hc c hmem).1 (hc c hmem).2 (Fr (hcl h0 c hmem)).1;have htk:cs.take (i+1)=cs.take i++[c]:=by rw[Da,hc'];rfl
 cases hq:Kl c 6 most
 ·rw[hq]at cF
  have hall:(cs.all λc=>Kl c 6 most)=false:=by
   rw[List.all_eq_false];exact⟨c,hmem,by rw[hq];exact Bool.false_ne_true⟩
  rw[hall];refine AH AZ (CH e1 el kT kF kN) hm cF AB AB AB AB ?_;exact AL rfl AA.out
 ·rw[hq]at cF
  refine AH AZ (Dp e1 el wi kT kF kN) hm cF AB AB AB AB ?_;exact⟨(i+1,_),⟨h2,by dsimp only;rw[htk,Js,ha,Fl,hq];rfl⟩,by dsimp only;omega,AJ⟩
theorem u6 (x:Az)(hl:x.cells.length<=9223372036854775807)(hs:∀c∈x.cells,c.length<=9223372036854775807/\∀y∈c,y.shs.length<=9223372036854775807):AK C0 9 [x.D] (Aq (PO x)):=by
 refine Ak.walk w1 yi rfl λF=>?_
 have cS:=mJ x hl hs;have hk:=@bZ x;have cB:=UJ x;have cF:=xr x 60;have hE:PO x=(Ks x&&(decide (CE x≠0)||NL x 60)):=rfl;have hx:∃a b c d e,x.D=.agg [a,b,c,d,e]:=⟨_,_,_,_,_,rfl⟩
 have px:AA x.D:=AI;have px2:AT x.D:=AI;obtain⟨a1,a2,a3,a4,a5,hx⟩:=hx;rw[hx]at cS cB cF px px2⊢;rw[hE];cases hsh:Ks x
 ·rw[hsh]at cS
  rw[HV];refine AH AZ kB cS AB AB AB AB AB ?_;exact AL rfl AA.out
 rw[hsh]at cS;rw[Gd];obtain⟨k1,k2,k3⟩:=hk hsh;have cB:=cB (by omega) λc q=>⟨by have:=(k3 c q).2;omega,λy h=>((k3 c q).1 y h).2⟩
 have cF:=cF (by omega) λc q=>⟨by have:=(k3 c q).2;omega,λy h=>((k3 c q).1 y h).2⟩
 obtain⟨E,hEE⟩:∃E,CE x=E:=⟨_,rfl⟩
 rw[hEE]at cB⊢
 by_cases h0:E=0
 ·have e2:(E != 0)=false:=by rw[h0];rfl
  rw[Ag (λh=>h h0),Bool.false_or];refine AH AZ e2 cS cB cF AB AB AB ?_;exact AL rfl AA.out
 ·have e2:(E != 0)=true:=KQ h0
  rw[AX h0,Bool.true_or];refine AH AZ e2 cS cB AB AB AB AB ?_;exact AL rfl AA.out
structure dL (x:Az)(m:Int):Prop where
 n:x.cells.length<=4
 len:∀c∈x.cells,c.length<=6
 mass:∀c∈x.cells,Am c<=m
 bin:CE x=0
theorem rn {x:Az}{m:Int}(h:NL x m=true):dL x m:=by
 unfold NL at h;rw[BR,BR,decide_eq_true_iff,decide_eq_true_iff,CQ]at h;obtain⟨h1,h2,h3⟩:=h;have h4:∀c∈x.cells,(c.length:Int)<=6/\Am c<=m:=λc hc=>by
  have:=h3 c hc
  unfold Kl at this
  rwa [BR,decide_eq_true_iff,decide_eq_true_iff]at this
 exact⟨h1,λc hc=>by have:=(h4 c hc).1;omega,λc hc=>(h4 c hc).2,h2⟩
theorem UR (x:Az):x.D=.agg [str (sb x.flow),i64 x.core,i64 x.room,i64 x.side,.sl false 1 (x.cells.map (Al false))]:=rfl
theorem Me {x:Az}{i:Nat}{c:List AD}(h:CE x=0)(hc:x.cells[i]?=some c):(Au x).getD i 0=Am c:=by
 rw[(Oj h).1,DR,A8,hc];rfl
theorem pF {x:Az}{c:List AD}(h:DC x c=0):C7 (BS c)=Am c:=by
 have p:=Fr h;have hn:=D9 p.1
 have:=XK hn.2.1 (by omega) (by omega)
 rw[KG this.1,this.2.2]
theorem mK {x:Az}{i:Nat}{L:List AD}(h:CE x=0):Au (EK x i L)=(Au x).set i (C7 L):=by
 show List.map C7 ((x.cells.map BS).set i L)=_;rw[List.map_set,List.map_map,(Oj h).1]
 congr 1
 exact Nf λc hq=>pF (IC h c hq)
theorem pG {c L:List AD}(hp:Bv c=0)(hL:∀y∈L,y∈BQ c)(hl:L.length<=(BQ c).length)(hn:(BS L).length<=1000000):C7 (BS L)=(L.length:Int):=by
 obtain⟨h1,h2⟩:=cz hp hL hl;rw[KG ⟨hn,λy hy=>by have:=h1 y hy;omega⟩,h2]
theorem X7 {x:Az}{i:Nat}{c:List AD}{m:Nat}(h:CE x=0)(hc:x.cells[i]?=some c)(hm:m<=(BQ c).length):Au (EK x i (BS (DP x c m)))=(Au x).set i ((Au x).getD i 0-m):=by
 have hce:=Fr (IC h c (Aw hc));have hpn:=D9 hce.1;have hr:=QT (x:=x) (c:=c) (m:=m) λy hy=>(hpn.2.1 y hy).1
 have hn:=KU (l:=c) λy hy=>by have:=(hpn.2.1 y hy).1;omega
 rw[mK h,pG hce.1 MX (by rw[MW hm];omega) (by omega),MW hm,Me h hc,<-hn]
 congr 1
 omega
theorem xu (x:Az)(i:Nat)(c:List AD)(hc:x.cells[i]?=some c)(h:CE x=0)(hm:Am c<=100000):AK C0 52 [x.D,i64 (i:Int)] (i64 (HF x.side (Au x) i)):=by
 refine Ak.walk w1 xU rfl λF=>?_
 obtain⟨s1,s2,s3,s4⟩:=LN h;have hll:(Au x).length=x.cells.length:=Ac ..;have hcb:=IC h;have hce:=Fr (hcb c (Aw hc));have hpn:=D9 hce.1;have hi:=(List.getElem?_eq_some_iff.1 hc).1;have hv:∀v∈Au x,0<=v/\v<=1000000000:=λv hq=>by have:=(Oj h).2 v hq;omega
 have hst:=(Mq h).2;have hgi:=Me h hc;have hn:=KU (l:=c) λy hy=>by have:=(hpn.2.1 y hy).1;omega
 obtain⟨n0,hn0⟩:∃n,(BQ c).length=n:=⟨_,rfl⟩
 rw[hn0]at hn;have cLv:=Re x i c hc hpn.2.2 (by omega);rw[<-hn]at cLv;have hM1:=Q4 x.side (Au x) i;have hM0:=ZC (i:=i) ⟨s1,by omega⟩ hv (by omega) hst;have hset:=λ(m:Nat) (h:m<=n0)=>Qx (m:=(m:Int)) (i:=i) ⟨s1,by omega⟩ hv (by omega) hst ⟨by omega,by omega⟩
 have hmass:∀y∈c,0<=y.mass/\y.mass<=100000:=λy hy=>by
  have h0:∀z∈c,0<=z.mass:=λz hz=>by have:=(hpn.2.1 z hz).1;omega
  have:=P2 h0 hy
  exact⟨h0 y hy,by omega⟩
 have hN:∀d∈x.cells,AK C0 21 [Al false d] (Al false (BS d)):=λd hq=>by
  have:=D9 (Fr (hcb d hq)).1
  exact Qu false d (by omega) this.2.1
 have cD:=λ(m:Nat) (hq:m<=n0)=>fJ x i c hc (by omega) (by omega) hmass (λy hy=>(hpn.2.1 y hy).2.2) (Yw h) (by omega) hN m (by omega)
 have cS:=λ(m:Nat) (hq:m<=n0)=>fB (EK x i (BS (DP x c m))) (by
  show((x.cells.map BS).set _ _).length<=_;rw[DH,Ac];omega) (λd hq2=>by
   rcases NU hq2 with hd|hd
   ·obtain⟨e,he,rfl⟩:=List.mem_map.1 hd
    have pe:=Fr (hcb e he)
    have:=XK (D9 pe.1).2.1 (by have:=(D9 pe.1).1;omega) (by omega)
    exact⟨this.1,this.2.1,by omega⟩
   ·rw[hd]
    obtain⟨g1,g2⟩:=cz (L:=DP x c m) hce.1 MX (by rw[MW (by omega)];omega);have g3:=QT (x:=x) (c:=c) (m:=m) λy hy=>(hpn.2.1 y hy).1
    have g4:=MW (x:=x) (c:=c) (m:=m) (by omega);exact⟨⟨by omega,λy hy=>by have:=g1 y hy;omega⟩,by omega,by omega⟩) ⟨s1,s2⟩
 have hsf:∀m:Nat,m<=n0->(Ds x.side (Au (EK x i (BS (DP x c m))))=false↔(m:Int)<=HF x.side (Au x) i):=λm hq=>by
  rw[X7 h hc (by omega)];exact hset m hq
 have hdD:∀m:Nat,∃e,(EK x i (BS (DP x c m))).D=.agg [str (sb x.flow),i64 x.core,i64 x.room,i64 x.side,.sl false 1 e]/\AA (EK x i (BS (DP x c m))).D/\AT (EK x i (BS (DP x c m))).D:=λm=>⟨_,rfl,AI,AI⟩
 obtain⟨M,hM⟩:∃M,HF x.side (Au x) i=M:=⟨_,rfl⟩
 rw[hM]at hM1 hM0 hsf⊢;have pX:AA x.D:=AI;have cX:AT x.D:=AI;rw[UR]at cLv pX cX⊢;have cD:=λm hq=>(UR x) ▸ cD m hq
 obtain⟨XD,hXD⟩:∃X,x.cells.map (Al false)=X:=⟨_,rfl⟩
 rw[hXD]at cLv cD pX cX⊢;refine AH AZ kB cLv AB AB AB AB AB ?_;refine AC.loop (α:=Nat×Nat) (λp=>⟨[(1,i64 (i:Int)),(2,.optr 0 0 5 0 0),(5,i64 (p.1:Int))],[⟨0,0,24,5,[.agg [str (sb x.flow),i64 x.core,i64 x.room,i64 x.side,.sl false 1 XD]]⟩],p.2⟩) (λp=>p.1) (λq=>q.1<=n0/\M<=q.1) (n0,_) ⟨Af _,by dsimp only;omega⟩ AJ ?_;rintro⟨m,n⟩ F ⟨hm1,hm2⟩;dsimp only at hm1 hm2⊢
 by_cases h0:m=0
 ·subst h0
  have k0:decide (((0:Nat):Int)>0)=false:=rfl;refine AH AZ k0 AB AB AB AB AB AB ?_;exact AL (by rw[show M=0 by omega]) AA.out
 have k0:decide ((m:Int)>0)=true:=AX (by omega);have wm:IntKind.i64.wrap ((m:Int)-1)=((m-1:Nat):Int):=by rw[wI (by omega) (by omega)];omega
 have cD:=cD m hm1;have cS:=cS m hm1;have hsf:=hsf m hm1;obtain⟨e,he,pe,ce⟩:=hdD m;rw[he]at cD cS pe ce;cases hst2:Ds x.side (Au (EK x i (BS (DP x c m))))
 ·have hle:=hsf.1 hst2
  rw[show(EK x i (BS (DP x c m))).side=x.side from rfl,hst2]at cS;refine AH AZ (As k0 kT kF) cD cS AB AB AB AB ?_;exact AL (by rw[show M=(m:Int) by omega]) AA.out
 ·have hle:¬(m:Int)<=M:=λq=>by rw[hsf.2 q]at hst2;cases hst2
  rw[show(EK x i (BS (DP x c m))).side=x.side from rfl,hst2]at cS;refine AH AZ (BY k0 wm kT kF) cD cS AB AB AB AB ?_;exact⟨(m-1,n+1000),⟨by dsimp only;omega,by dsimp only;omega⟩,by dsimp only;omega,AJ⟩
theorem xC {x:Az}(h:PO x=true):Ks x=true/\(CE x=0->dL x 60):=by
 unfold PO at h;rw[BR,Jr,decide_eq_true_iff]at h;obtain⟨h1,h2⟩:=h;refine⟨h1,λh0=>?_⟩;rcases h2 with h2|h2
 ·exact Ad h0 h2
 ·exact rn h2
theorem Yg {x:Az}{i:Nat}{L:List AD}{P:List AD->Prop}(h1:∀c∈x.cells,P (BS c))(h2:P L):∀d∈(EK x i L).cells,P d:=λd hd=>by
 rcases NU hd with hd|hd
 ·obtain⟨e,he,rfl⟩:=List.mem_map.1 hd
  exact h1 e he
 ·rw[hd];exact h2
theorem Yh (x:Az)(i:Nat)(L:List AD):(EK x i L).cells.length=x.cells.length:=by
 show((x.cells.map BS).set _ _).length=_;rw[DH,Ac]
theorem nl {x:Az}{c:List AD}(h:DC x c=0):DC x (BS c)=0:=by
 have p:=Fr h;have hn:=D9 p.1
 have:=OX c
 exact Xr h Qh (by omega) (Mg λy hy=>(hn.2.1 y hy).1) (by rw[Ld];exact Int.le_refl _)
structure xd (x:Az)(i m:Int):Prop where
 bin:CE (E2 x i m)=0
 par:Bv (NJ x i m)=0
 one:Kf x i m=0
 mle:m<=Am (DZ x i)
 stp:Ds x.side (Au (E2 x i m))=false
 f64:¬ 64<(NJ x i m).length
theorem rf {x:Az}{i m:Int}(h1:Kf x i m=0)(h2:¬Am (DZ x i)<m)(h3:Ds x.side (Au (E2 x i m))=false):CE (E2 x i m)=0:=by
 have ok:=Ue h1;have hce:=ok.cel _ (Aw ok.at_);have hpn:=D9 ok.par;have hkn:m.toNat<=(BQ (DZ x i)).length:=by have:=ok.nn;have:=ok.mm;omega
 have hr:=ZT (x:=x) (c:=DZ x i) (m:=m.toNat) (λy hy=>(hpn.2.1 y hy).1) hkn;have hl:=QT (x:=x) (c:=DZ x i) (m:=m.toNat) λy hy=>(hpn.2.1 y hy).1
 refine qL ok.bin rfl rfl rfl rfl (Yh ..) (Yg (λc hc=>nl (ok.cel c hc)) ?_) h3;exact Xr hce hr.1 (by omega) hr.2.1 (by rw[hr.2.2];omega)
theorem mv {x:Az}{c:List AD}{m:Nat}(h:m<=(BQ c).length):Am (BS (Gn x c m))=m:=by
 rw[Ld,UN λy hy=>OJ y (Qb y hy),YQ h]
theorem vp {x:Az}{i m:Int}(h:R5 x i m=0):xd x i m:=by
 unfold R5 at h
 by_cases h1:Kf x i m=0
 ·rw[AF (λq=>q h1)]at h
  by_cases h2:Am (DZ x i)<m
  ·rw[AG h2]at h;cases h
  ·rw[AF h2]at h
   unfold U9 at h;have h3:Ds x.side (Au (E2 x i m))=false:=by
    cases hb:Ds x.side (Au (E2 x i m))
    ·rfl
    ·rw[hb,AG rfl]at h;cases h
   rw[h3,AF (by decide)]at h;have h4:¬ 64<(NJ x i m).length:=λq=>by rw[AG q]at h;cases h
   have ok:=Ue h1;have hpn:=D9 ok.par;have hps:=(Lh ok.par).2.2;have hkn:m.toNat<=(BQ (DZ x i)).length:=by have:=ok.nn;have:=ok.mm;omega
   refine⟨rf h1 h2 h3,YD ok.par (λy hy=>(Qh y hy).trans λz hz=>T8 z (Qb z hz)) (by omega) (Mg λy hy=>?_) ?_,h1,by omega,h3,h4⟩
   ·rw[OJ y (Qb y hy)];exact Int.le_refl _
   ·show Am (BS (Gn x (DZ x i) m.toNat))<=_
    rw[mv hkn]
    have:=ok.mm
    omega
 ·rw[AG h1]at h;exact Ad h h1
def Cw (side:Int)(l:List Int):Int:=HF side l (Bs l)
def R6 (x:Az):List (Nat×Int)×Int:=if CE x≠0 then([],CE x)else D5 (Cw x.side) 257 (Au x) []
structure K8 (side:Int)(N:Nat)(l:List Int):Prop where
 len:l.length=N
 bnd:∀v∈l,0<=v/\v<=1000000000
 stp:Ds side l=false
theorem dg {l:List Int}(h:0<l.length):Bs l<l.length:=Ol h _ (Af _)
theorem Tn {side:Int}{N:Nat}{l:List Int}(hs:0<=side/\side<=1000000000)(hN:0<N)(h:K8 side N l):0<=Cw side l/\Cw side l<=l.getD (Bs l) 0/\K8 side N (l.set (Bs l) (l.getD (Bs l) 0-Cw side l)):=by
 have hi:=dg (l:=l) (by rw[h.len];exact hN);have h1:=Q4 side l (Bs l);have h2:=ZC hs h.bnd hi h.stp;have hv:=h.bnd _ (Aw (KL hi));refine⟨h2,h1,by rw[DH,h.len],λv hq=>?_,(Qx hs h.bnd hi h.stp ⟨h2,h1⟩).2 (Int.le_refl _)⟩;rcases NU hq with hq|hq
 ·exact h.bnd v hq
 ·have:Cw side l=HF side l (Bs l):=rfl
  omega
inductive R2 (side:Int):List Int->List (Nat×Int)->Prop
 |nil {l:List Int} (h:l.getD (Bs l) 0=0):R2 side l []
 |cons {l:List Int} {S:List (Nat×Int)} (h1:l.getD (Bs l) 0≠0) (h2:Cw side l≠0) (h:R2 side (l.set (Bs l) (l.getD (Bs l) 0-Cw side l)) S):R2 side l ((Bs l,Cw side l)::S)
theorem YK {side:Int}{N:Nat}(hs:0<=side/\side<=1000000000)(hN:0<N):∀(k:Nat) (l:List Int) (out:List (Nat×Int)),K8 side N l->out.length<=256->(∃S,D5 (Cw side) k l out=(out++S,0)/\R2 side l S/\(out++S).length<=256)\/D5 (Cw side) k l out=([],19)\/(D5 (Cw side) k l out=([],7)/\∃l,K8 side N l/\l.getD (Bs l) 0≠0/\Cw side l=0)
 | 0,_,_,_,_=>.inr (.inl rfl)
 |k+1,l,out,h,ho=>by
  unfold D5
  by_cases h1:l.getD (Bs l) 0=0
  ·rw[AG h1]
   exact .inl ⟨[],by rw[C5],.nil h1,by rw[C5];exact ho⟩
  rw[AF h1]
  by_cases h2:Cw side l=0
  ·rw[AG h2]
   exact .inr (.inr ⟨rfl,l,h,h1,h2⟩)
  rw[AF h2]
  by_cases h3:out.length=256
  ·rw[AG h3]
   exact .inr (.inl rfl)
  rw[AF h3];have h4:=(Tn hs hN h).2.2;rcases YK hs hN k _ (out++[(Bs l,Cw side l)]) h4 (by rw[Bc,Ek];omega)with⟨S,e1,e2,e3⟩|e|e
  ·refine .inl ⟨(Bs l,Cw side l)::S,?_,.cons h1 h2 e2,?_⟩
   ·rw[e1,De];rfl
   ·rw[De]at e3;exact e3
  ·exact .inr (.inl e)
  ·exact .inr (.inr e)
theorem Oi {x:Az}(h:CE x=0):K8 x.side x.cells.length (Au x)/\0<x.cells.length/\x.cells.length<=8:=by
 have h1:=(Mq h).1;refine⟨⟨Ac ..,λv hv=>by have:=(Oj h).2 v hv;omega,(Mq h).2⟩,?_,(LN h).2.2.2⟩;rw[Rb]at h1;split at h1
 ·cases h1
 split at h1
 ·cases h1
 split at h1
 ·cases h1
 rename_i h0;omega
theorem vI (x:Az)(hl:x.cells.length<=1000000)(hc:∀c∈x.cells,c.length<=1000000/\∀y∈c,y.few):AK C0 11 [x.D] (.tup [.sl false 2 ((R6 x).1.map GA),i64 (R6 x).2]):=by
 have cB:=qx x hl hc;have hE:R6 x=if CE x≠0 then([],CE x)else D5 (Cw x.side) 257 (Au x) []:=rfl
 by_cases h0:CE x=0
 ·rw[AF (λq=>q h0)]at hE
  rw[hE];rw[h0]at cB;obtain⟨s1,s2,s3,s4⟩:=LN h0;obtain⟨hI,hN,_⟩:=Oi h0;have hcl:(x.cells.map (Al false)).length=x.cells.length:=Ac ..;refine Y6 (str (sb x.flow)) (i64 x.core) (i64 x.room) (i64 x.side) false (x.cells.map (Al false)) (Au x) (by rw[hcl];exact hI.len) (λq=>by rw[q]at hcl;simp at hcl;omega) (by omega) (λi c m h1 h2=>?_) (λc hq=>?_) cB (Cw x.side) (K8 x.side x.cells.length) hI λl hl2 h2=>?_
  ·rw[A8]at h1
   obtain⟨d,hd,rfl⟩:=Option.map_eq_some_iff.1 h1;have hw:=U7 false d (by have:=(hc d (Aw hd)).1;omega)
   have:m=C7 d:=by
    unfold Au at h2;rw[A8,hd]at h2;cases h2;rfl
   rw[this];exact hw
  ·obtain⟨d,_,rfl⟩:=List.mem_map.1 hq
   exact⟨false,d.map AD.D,rfl,AI⟩
  ·have hi:=dg (l:=l) (by rw[hl2.len];exact hN)
   obtain⟨g1,g2,g3⟩:=Tn ⟨s1,by omega⟩ hN hl2;have hv:=hl2.bnd _ (Aw (KL hi));exact⟨vh x false l (Bs l) hi (by rw[hl2.len];omega) hl2.bnd ⟨s1,by omega⟩,wI (by omega) (by omega),g3⟩
 ·rw[AG h0]at hE
  rw[hE];refine Ak.walk w1 VH rfl λF=>?_
  have k2:(CE x != 0)=true:=KQ h0;have hx:∃a b c d e,x.D=.agg [a,b,c,d,e]:=⟨_,_,_,_,_,rfl⟩
  have px:AA x.D:=AI;have px2:AT x.D:=AI;obtain⟨a1,a2,a3,a4,a5,hx⟩:=hx;rw[hx]at cB px px2⊢;obtain⟨E,hEE⟩:∃E,CE x=E:=⟨_,rfl⟩
  rw[hEE]at cB k2⊢;refine AH AZ k2 cB AB AB AB AB AB ?_;exact⟨_,GJ (.nil 2) (.refl _),AA.out,rfl⟩
def Az.wc (x:Az)(cs:List (List AD)):Az:=⟨x.flow,x.core,x.room,x.side,cs⟩
theorem y5 (x:Az)(cs:List (List AD)):(x.wc cs).D=.agg [str (sb x.flow),i64 x.core,i64 x.room,i64 x.side,.sl false 1 (cs.map (Al false))]:=rfl
theorem q9 {x:Az}{k:Nat}(h:CE x=0)(hk:k<x.cells.length):PF x [(k:Int)]=0:=by
 unfold PF;rw[AF (λq=>q h)]
 have:Po x (k:Int)=true:=by
  unfold Po C3;rw[BR,decide_eq_true_iff,decide_eq_true_iff];omega
 simp[this]
theorem Y5 {x:Az}{k:Nat}{m:Int}(h:CE x=0)(hk:k<x.cells.length)(hm:0<=m):Kf x (k:Int) m=0:=by
 unfold Kf;rw[q9 h hk,Ag (by omega)];rfl
theorem RR {x:Az}{k:Nat}(hk:k<x.cells.length):x.cells[k]?=some (DZ x (k:Int)):=by
 unfold DZ;rw[Ib,DR,A9 hk];rfl
theorem mi {x:Az}{k:Nat}{m:Int}(h:CE x=0)(hk:k<x.cells.length)(hl:∀c∈x.cells,c.length<=32)(hm:0<=m/\m<=HF x.side (Au x) k):
  R5 x (k:Int) m=0/\Au (E2 x (k:Int) m)=(Au x).set k ((Au x).getD k 0-m):=by
 obtain⟨s1,s2,s3,s4⟩:=LN h;have h1:=Y5 h hk hm.1;have hat:=RR hk;have hg:=Me h hat;have hml:=Q4 x.side (Au x) k;have hpn:=D9 (Fr (IC h _ (Aw hat))).1;have hn:=KU (l:=DZ x (k:Int)) λy hy=>by have:=(hpn.2.1 y hy).1;omega
 have hlv:Au (E2 x (k:Int) m)=(Au x).set k ((Au x).getD k 0-m):=by
  show Au (EK x ((k:Int).toNat) _)=_;rw[Ib,X7 h hat (by omega),show((m.toNat:Nat):Int)=m by omega]
 refine⟨?_,hlv⟩;have hi:k<(Au x).length:=by unfold Au;rw[Ac];exact hk
 have hst:Ds x.side (Au (E2 x (k:Int) m))=false:=by
  rw[hlv];exact(Qx ⟨s1,by omega⟩ (λv hv=>by have:=(Oj h).2 v hv;omega) hi (Mq h).2 ⟨hm.1,by omega⟩).2 hm.2
 have hfl:¬ 64<(NJ x (k:Int) m).length:=by
  have:=jm (x:=x) (c:=DZ x (k:Int)) (m:=m.toNat) λy hy=>(hpn.2.1 y hy).1
  have:=hl _ (Aw hat)
  unfold NJ;omega
 unfold R5;rw[AF (λq=>q h1),AF (by omega)];unfold U9;rw[hst,AF (by decide),AF hfl]
abbrev KS:Dr:=[(6,[0,1,2,3,4],[5,6])]
open Go.Proofs Go.RowKit
set_option maxRecDepth 20000
set_option maxHeartbeats 4000000
structure Px (x:Az)(R:List (Nat×Int)×Int)(cs:List (List AD))(out:List (Nat×Int)):Prop where
 bin:CE (x.wc cs)=0
 len:∀c∈cs,c.length<=6/\Am c<=60
 num:cs.length=x.cells.length
 res:D5 (Cw x.side) (257-out.length) (Au (x.wc cs)) out=R
 ol:out.length<=256
theorem YL {mf:List Int->Int}{k:Nat}{l:List Int}{out:List (Nat×Int)}(h:out.length<=256)(hk:k=257-out.length):D5 mf k l out=if l.getD (Bs l) 0=0 then(out,0)else if mf l=0 then([],7)else if out.length=256 then([],19)else D5 mf (257-(out.length+1)) (l.set (Bs l) (l.getD (Bs l) 0-mf l)) (out++[(Bs l,mf l)]):=by
 obtain⟨j,rfl⟩:∃j,k=j+1:=⟨k-1,by omega⟩
 rw[show 257-(out.length+1)=j by omega];rfl
theorem nI {x:Az}{R:List (Nat×Int)×Int}{cs:List (List AD)}{out:List (Nat×Int)}{m:Int}{k:Nat}(h:Px x R cs out)(hk:k<cs.length)(hkm:k=Bs (Au (x.wc cs)))(hm:m=Cw x.side (Au (x.wc cs)))(h0:(Au (x.wc cs)).getD k 0≠0)(hm0:m≠0)(ho:out.length≠256):
  1<=m/\Px x R (E2 (x.wc cs) (k:Int) m).cells (out++[(k,m)]):=by
 obtain⟨s1,s2,s3,s4⟩:=LN h.bin;obtain⟨hI,hN,_⟩:=Oi h.bin;have hside:(x.wc cs).side=x.side:=rfl;have hcells:(x.wc cs).cells=cs:=rfl;rw[hside]at s1 s2 hI;rw[hcells]at hI hN s4;obtain⟨g1,g2,g3⟩:=Tn ⟨s1,by omega⟩ hN hI;have hmm:m=HF x.side (Au (x.wc cs)) k:=by rw[hm,hkm];rfl
 obtain⟨z1,z2⟩:=mi (x:=x.wc cs) (k:=k) (m:=m) h.bin hk (λc hc=>by have:=(h.len c hc).1;omega) ⟨by omega,by rw[hmm];exact Int.le_refl _⟩;have hv:=vp z1;have h1:=Y5 (m:=m) h.bin hk (by omega);have hat:=RR (x:=x.wc cs) hk;have ok:=Ue h1;have hpn:=D9 ok.par;refine⟨by omega,hv.bin,?_,?_,?_,?_⟩
 ·refine Yg (P:=λc=>c.length<=6/\Am c<=60) (λc hc=>?_) ?_
  ·have:=h.len c hc
   have hl:=OX c;exact⟨by omega,by rw[Ld];exact this.2⟩
  ·have hl:=QT (x:=x.wc cs) (c:=DZ (x.wc cs) (k:Int)) (m:=m.toNat) λy hy=>(hpn.2.1 y hy).1
   have hmem:=h.len _ (Aw hat);have hr:=(ZT (x:=x.wc cs) (c:=DZ (x.wc cs) (k:Int)) (m:=m.toNat) (λy hy=>(hpn.2.1 y hy).1) (by have:=ok.nn;have:=hv.mle;have:=ok.mm;omega)).2.2;exact⟨by omega,by rw[hr];omega⟩
 ·rw[<-h.num];exact Yh ..
 ·rw[<-h.res,YL h.ol rfl]
  rw[<-hkm,AF h0,<-hm,AF hm0,AF ho,Bc,Ek];show D5 _ _ (Au (E2 (x.wc cs) (k:Int) m)) _=_;rw[z2]
 ·rw[Bc,Ek];have:=h.ol;omega
theorem vW (x:Az)(h:CE x=0)(hm:∀c∈x.cells,c.length<=6/\Am c<=60):AK C0 13 [x.D] (.tup [.sl false 2 ((D5 (Cw x.side) 257 (Au x) []).1.map GA),i64 (D5 (Cw x.side) 257 (Au x) []).2]):=by
 refine Ak.walk w1 vu rfl λF=>?_
 have hJ0:Px x (D5 (Cw x.side) 257 (Au x) []) x.cells []:=⟨h,hm,rfl,rfl,BU _⟩
 obtain⟨R,hR⟩:∃R,D5 (Cw x.side) 257 (Au x) []=R:=⟨_,rfl⟩
 rw[hR]at hJ0⊢;obtain⟨hI,hN0,hN8⟩:=Oi h;obtain⟨N,hN⟩:∃n,x.cells.length=n:=⟨_,rfl⟩
 rw[hN]at hN0 hN8;rw[UR];refine AH KS kB AB AB AB AB AB AB ?_;refine AC.ghost 1505 35 2 [(1,.optr 0 0 5 0 0),(4,.osl 1505 _ 2 0 0)] ⟨.inl rfl,.inr ⟨rfl,rfl⟩,trivial⟩ ?_;refine AC.loop (α:=List (List AD)×List (Nat×Int)×Nat×Nat) (λp=>⟨[(1,.optr 0 0 5 0 0),(4,.osl 1505 p.2.2.1 2 0 p.2.1.length)],[⟨1505,p.2.2.1,35,2,p.2.1.map GA⟩,⟨0,0,24,5,[.agg [str (sb x.flow),i64 x.core,i64 x.room,i64 x.side,.sl false 1 (p.1.map (Al false))]]⟩],p.2.2.2⟩) (λp=>257-p.2.1.length) (λq=>Px x R q.1 q.2.1) (x.cells,[],_,_) hJ0 AJ ?_;rintro⟨cs,out,g,n⟩ F hJ;dsimp only at hJ⊢;have hcl:=hJ.num;rw[hN]at hcl;have ecs:(((cs.map (Al false)).length:Nat):Int)=(cs.length:Int):=by rw[Ac]
 have hlv:∀j,j<cs.length->AK C0 17 [(x.wc cs).D,i64 (j:Int)] (i64 ((Au (x.wc cs)).getD j 0)):=λj hj=>by
  have hc:=RR (x:=x.wc cs) (k:=j) hj;rw[Me hJ.bin hc];exact Re (x.wc cs) j _ hc (D9 (Fr (IC hJ.bin _ (Aw hc))).1).2.2 (by show cs.length<=_;omega)
 have pXt:AA (x.wc cs).D:=AI;have cXt:AT (x.wc cs).D:=AI;have hll:(Au (x.wc cs)).length=cs.length:=Ac ..;have hlt:=λk hk=>Ol (l:=Au (x.wc cs)) (by rw[hll,hcl];exact hN0) k hk
 have hmx:FF (Au (x.wc cs)) cs.length=Bs (Au (x.wc cs)):=by unfold Bs;rw[hll]
 have hstep:=hJ.res;rw[YL hJ.ol rfl]at hstep;have hk:=hlt cs.length (by rw[hll];exact Af _);rw[hll,hmx]at hk;have hdr:=λm h1 h2 h3 h4=>nI (m:=m) (k:=Bs (Au (x.wc cs))) hJ hk rfl h1 h2 h3 h4
 have hat:=RR (x:=x.wc cs) hk;have hcell:=hJ.len _ (Aw hat);have hpn:=D9 (Fr (IC hJ.bin _ (Aw hat))).1;have hnn:=KU (l:=DZ (x.wc cs) ((Bs (Au (x.wc cs)):Nat):Int)) λy hy=>by have:=(hpn.2.1 y hy).1;omega
 have cM:=xu (x.wc cs) (Bs (Au (x.wc cs))) _ hat hJ.bin (by omega);have hmf:HF (x.wc cs).side (Au (x.wc cs)) (Bs (Au (x.wc cs)))=Cw x.side (Au (x.wc cs)):=rfl;rw[hmf]at cM;have hmle:=Q4 (x.wc cs).side (Au (x.wc cs)) (Bs (Au (x.wc cs)));rw[hmf,Me hJ.bin hat]at hmle;have hmass:∀y∈DZ (x.wc cs) ((Bs (Au (x.wc cs)):Nat):Int),0<=y.mass/\y.mass<=100000:=λy hy=>by
  have h0:∀z∈DZ (x.wc cs) ((Bs (Au (x.wc cs)):Nat):Int),0<=z.mass:=λz hz=>by have:=(hpn.2.1 z hz).1;omega
  have:=P2 h0 hy
  exact⟨h0 y hy,by omega⟩
 have hNo:∀d∈(x.wc cs).cells,AK C0 21 [Al false d] (Al false (BS d)):=λd hq=>by
  have:=D9 (Fr (IC hJ.bin d hq)).1
  exact Qu false d (by omega) this.2.1
 have cD:=fJ (x.wc cs) (Bs (Au (x.wc cs))) _ hat (by show cs.length<=_;omega) (by omega) hmass (λy hy=>(hpn.2.1 y hy).2.2) (Yw hJ.bin) (by omega) hNo (Cw x.side (Au (x.wc cs))).toNat;have hOD:EK (x.wc cs) (Bs (Au (x.wc cs))) (BS (DP (x.wc cs) (DZ (x.wc cs) ((Bs (Au (x.wc cs)):Nat):Int)) (Cw x.side (Au (x.wc cs))).toNat))=E2 (x.wc cs) ((Bs (Au (x.wc cs)):Nat):Int) (Cw x.side (Au (x.wc cs))):=by unfold E2;rw[Ib]
 rw[hOD]at cD;have hOO:(E2 (x.wc cs) ((Bs (Au (x.wc cs)):Nat):Int) (Cw x.side (Au (x.wc cs)))).D=.agg [str (sb x.flow),i64 x.core,i64 x.room,i64 x.side,.sl false 1 ((E2 (x.wc cs) ((Bs (Au (x.wc cs)):Nat):Int) (Cw x.side (Au (x.wc cs)))).cells.map (Al false))]:=rfl;have pO:AA (E2 (x.wc cs) ((Bs (Au (x.wc cs)):Nat):Int) (Cw x.side (Au (x.wc cs)))).D:=AI;have cO:AT (E2 (x.wc cs) ((Bs (Au (x.wc cs)):Nat):Int) (Cw x.side (Au (x.wc cs)))).D:=AI;rw[hOO]at cD pO cO;have hun0:(0:Int)<=Am (DZ (x.wc cs) ((Bs (Au (x.wc cs)):Nat):Int)):=by rw[<-hnn];omega
 obtain⟨OC,hOC⟩:∃O,(E2 (x.wc cs) ((Bs (Au (x.wc cs)):Nat):Int) (Cw x.side (Au (x.wc cs)))).cells=O:=⟨_,rfl⟩
 have hdr:=hdr (Cw x.side (Au (x.wc cs))) rfl;rw[hOC]at cD pO cO hdr;have hlk:=Me hJ.bin hat;have cLk:=hlv _ hk;obtain⟨m,hm⟩:∃m,Cw x.side (Au (x.wc cs))=m:=⟨_,rfl⟩
 rw[hm]at hstep cM hmle cD hdr;obtain⟨FL,hFL⟩:∃FL,Al false (BS (Gn (x.wc cs) (DZ (x.wc cs) ((Bs (Au (x.wc cs)):Nat):Int)) m.toNat))=FL:=⟨_,rfl⟩
 have pFL:AA FL:=by rw[<-hFL];exact AI
 rw[hFL]at cD;have hcD:=λh:0<=m=>cD (by omega)
 rw[y5]at hlv pXt cXt cM hcD cLk;obtain⟨OD,hOD2⟩:∃T,out.map GA=T:=⟨_,rfl⟩
 have hODl:OD.length=out.length:=by rw[<-hOD2,Ac]
 have pOD:AA (.sl false 2 OD):=by rw[<-hOD2];exact AI
 rw[hOD2];clear hnn hmass hNo hpn hcell cD;refine AH KS kB AB AB AB AB AB AB ?_;refine AC.loop (α:=Nat×Nat) (λp=>⟨[(1,.optr 0 0 5 0 0),(4,.osl 1505 g 2 0 out.length),(5,i64 ((FF (Au (x.wc cs)) p.1:Nat):Int)),(6,i64 (p.1:Int))],[⟨1505,g,35,2,OD⟩,⟨0,0,24,5,[.agg [str (sb x.flow),i64 x.core,i64 x.room,i64 x.side,.sl false 1 (cs.map (Al false))]]⟩],p.2⟩) (λp=>cs.length-p.1) (λq=>q.1<=cs.length) (0,_) (BU _) AJ ?_;rintro⟨i,n2⟩ F hi;dsimp only at hi⊢;rcases BH i cs.length with h3|h3
 rotate_left
 ·have e4:=Cj h3
  have:i=cs.length:=by omega
  subst this;rw[hmx]
  by_cases h0:(Au (x.wc cs)).getD (Bs (Au (x.wc cs))) 0=0
  ·have z0:((Au (x.wc cs)).getD (Bs (Au (x.wc cs))) 0==0)=true:=by rw[h0];rfl
   rw[AG h0]at hstep;rw[<-hstep,show(out,(0:Int)).1.map GA=OD from hOD2];refine AH KS (As e4 ecs z0) cLk AB AB AB AB AB ?_;exact⟨_,GJ (KX rfl rfl hODl.symm) (.refl _),AA.out,rfl⟩
  have z0:((Au (x.wc cs)).getD (Bs (Au (x.wc cs))) 0==0)=false:=Br.2 h0;rw[AF h0]at hstep
  by_cases h1:m=0
  ·have z1:(m==0)=true:=by rw[h1];rfl
   rw[AG h1]at hstep;rw[<-hstep];refine AH KS (BY e4 ecs z0 z1) cLk cM AB AB AB AB ?_;exact⟨_,GJ (.nil 2) (.refl _),AA.out,rfl⟩
  have z1:(m==0)=false:=Br.2 h1;rw[AF h1]at hstep
  by_cases h2:out.length=256
  ·have z2:((out.length:Int)==256)=true:=by rw[h2];rfl
   rw[AG h2]at hstep;rw[<-hstep];refine AH KS (CH e4 ecs z0 z1 z2) cLk cM AB AB AB AB ?_;exact⟨_,GJ (.nil 2) (.refl _),AA.out,rfl⟩
  have z2:((out.length:Int)==256)=false:=Br.2 (by omega);obtain⟨g1,hJ2⟩:=hdr h0 h1 h2;have cD:=hcD (by omega);rw[show((m.toNat:Nat):Int)=m by omega]at cD;have hol:=hJ.ol;have htk:OD.take out.length=OD:=by rw[<-hODl];exact Cf
  have hO2:(out++[(Bs (Au (x.wc cs)),m)]).map GA=OD++[.agg [i64 ((Bs (Au (x.wc cs)):Nat):Int),i64 m]]:=by rw[Cq,hOD2];rfl
  refine AH KS (Dp e4 ecs z0 z1 z2 htk) cLk cM cD AB AB AB ?_;refine⟨(OC,out++[(Bs (Au (x.wc cs)),m)],?ga,n2+1000),hJ2,by dsimp only;rw[Bc,Ek];omega,?_⟩
  rotate_left
  ·dsimp only
   rw[hO2,Bc,Ek];exact AJ
 have e4:=Ck h3;have wi:=Cc (i:=i) (by omega);have cLi:=hlv i h3;have hcc:=hlt i (by rw[hll];omega);rw[hll]at hcc;have cLc:=hlv _ hcc;have hms:FF (Au (x.wc cs)) (i+1)=if(Au (x.wc cs)).getD (FF (Au (x.wc cs)) i) 0<(Au (x.wc cs)).getD i 0 then i else FF (Au (x.wc cs)) i:=rfl
 by_cases hq:(Au (x.wc cs)).getD (FF (Au (x.wc cs)) i) 0<(Au (x.wc cs)).getD i 0
 ·have z3:decide ((Au (x.wc cs)).getD i 0>(Au (x.wc cs)).getD (FF (Au (x.wc cs)) i) 0)=true:=AX hq
  rw[AG hq]at hms;refine AH KS (BY e4 ecs z3 wi) cLi cLc AB AB AB AB ?_;refine⟨(i+1,n2+1000),h3,by dsimp only;omega,?_⟩;dsimp only;rw[hms];exact AJ
 ·have z3:decide ((Au (x.wc cs)).getD i 0>(Au (x.wc cs)).getD (FF (Au (x.wc cs)) i) 0)=false:=Ag hq
  rw[AF hq]at hms;refine AH KS (BY e4 ecs z3 wi) cLi cLc AB AB AB AB ?_;refine⟨(i+1,n2+1000),h3,by dsimp only;omega,?_⟩;dsimp only;rw[hms];exact AJ
section
variable {C:BC} {F B:Aa} {ops:Array Oper} {rd:Option Nat}
theorem lk {K1:St->Prop}{Q:Exit->Act->World->Prop}{l2:List Nat}(h2:∀(s1:St) (ρ:Lk) (a:Act) (w:World),K1 s1->Bl C F ρ s1 a w->wpOps C.P ops Q l2 a w):∀(l:List Nat) (a:Act) (w:World),wpOps C.P ops (K7 C F K1) l a w->wpOps C.P ops Q (l++l2) a w:=by
 intro l
 induction l with
 |nil=>rintro a w ⟨_,s',ρ',hq,hs'⟩;exact h2 s' ρ' a w hq hs'
 |cons i l ih=>
  intro a w h;simp only[ED,wpOps]at h⊢;cases ho:ops[i]? with
  |none=>simp only[ho]at h⊢;exact ih a w h
  |some o=>
   simp only[ho]at h⊢;split
   ·rename_i hw
    rw[AG hw]at h;rcases h with h|⟨_,⟨a0,w0,h0⟩⟩
    ·refine .inl ?_
     unfold Oper.wp Oper.upon at h⊢;split<;>rename_i hr<;>simp only[hr]at h
     ·exact ih _ _ h
     ·exact ih _ _ h
     ·exact ih _ _ h
     ·refine Calls.mono h λe w'' he=>?_
      cases e with
      |returned v=>exact ih _ _ he
      |panicked c=>cases he.1
      |outgrown=>obtain⟨a0,w0,h0⟩:=he;cases h0.1
     ·exact Rows.mono h λ_ _ he=>ih _ _ he
     ·cases h.1
    ·cases h0.1
   ·rename_i hw
    rw[AF hw]at h;exact ih _ _ h
theorem zW {K:St->Prop}{os1 os2:List Oper}{s:St}(h:BJ C F ops os1 s (λs1=>BJ C F ops os2 s1 K)):BJ C F ops (os1++os2) s K:=by
 intro hd l hl ρ a w hs;rw[Js,BR]at hd;have hlen:l.length=os1.length+os2.length:=by
  have:=congrArg List.length hl
  simpa using this
 obtain⟨l1,l2,rfl,e1⟩:∃l1 l2,l=l1++l2/\l1.length=os1.length:=⟨l.take os1.length,l.drop os1.length,(E7 _ _).symm,by rw[Bd];omega⟩
 rw[Cq,Cq]at hl;obtain⟨h1,h2⟩:=List.append_inj hl (by simpa using e1);exact lk (λs1 ρ a w hk hs=>hk hd.2 l2 h2 ρ a w hs) l1 a w (h hd.1 l1 h1 ρ a w hs)
theorem zH {X:EV}{i:Nat}{s:St}{Q:Exit->Aa->St->Prop}(hX:DK C X)(hnd:EW ops.toList=true)(h:BJ C F ops ((List.range ops.size).map λj=>ops.getD j default) s (Q .normal F)):AC C B rd F (.region i ops false) s Q:=by
 refine⟨λhB hd ρ a w hs=>wpIn_region ?_⟩;have hd:=Is hB hd;have h1:=BJ.run h (λj hj=>List.mem_range.1 hj) hd hs
 have:=FJ (rd:=rd) (Q:=Ew C B Q) (l2:=[]) (λ_ _ _ h=>JK hB (λ_ h=>h) h) (Hh hnd) _ a w h1
 rwa [C5]at this
def Ry (C:BC)(F:Aa)(X:EV)(kb:Nat)(ops:Array Oper):List (List Nat×Nat)->List Nat->St->(St->Prop)->Prop
 | [],l,s,K=>Cy C X kb ops l s True λacc s=>acc/\K s
 |(l1,i)::r,l,s,K=>Cy C X kb ops l1 s True λacc s1=>acc/\∃d,(∀(os:List Oper) (K':St->Prop),BJ C F ops os ⟨Bb s1.env (ops.getD i default).dst d,s1.H,s1.n+1⟩ K'->BJ C F ops (ops.getD i default::os) s1 K')/\Ry C F X kb ops r l ⟨Bb s1.env (ops.getD i default).dst d,s1.H,s1.n+1⟩ K
def Np:List (List Nat×Nat)->List Nat->List Nat
 | [],l=>l
 |(l1,i)::r,l=>l1++i::Np r l
theorem T9 {X:EV}(hX:DK C X){kb:Nat}{K:St->Prop}:∀(r:List (List Nat×Nat)) (l:List Nat) (s:St),Ry C F X kb ops r l s K->BJ C F ops ((Np r l).map λj=>ops.getD j default) s K
 | [],l,s,h=>(FZ hX (λacc s h=>h) h).2
 |(l1,i)::r,l,s,h=>by
  show BJ C F ops ((l1++i::Np r l).map _) s K;rw[Cq,Cu];refine zW ?_;refine(FZ (K':=λs1=>BJ C F ops (ops.getD i default::(Np r l).map λj=>ops.getD j default) s1 K) hX (λacc s1 h=>⟨h.1,?_⟩) h).2;obtain⟨d,h1,h2⟩:=h.2;exact h1 _ _ (T9 hX r l _ h2)
theorem zI {X:EV}{i:Nat}{s:St}{Q:Exit->Aa->St->Prop}(hX:DK C X)(kb:Nat)(r:List (List Nat×Nat))(l:List Nat)(hl:List.range ops.size=Np r l)(hnd:EW ops.toList=true)(h:Ry C F X kb ops r l s (Q .normal F)):AC C B rd F (.region i ops false) s Q:=
 zH hX hnd (by rw[hl];exact T9 hX r l s h)
def T2 (P:Program) (t:Nat):Prop:=∃(f1 f2:Field) (k1 k2:IntKind),P.underlying t=some (.struct #[f1,f2])/\P.stoodInHeld t=false/\P.eqGuardType P.depth t=false/\f1.name ≠ "_"/\f1.offset=0/\P.underlying f1.type=some (.int k1)/\f2.name ≠ "_"/\f2.offset=1/\P.underlying f2.type=some (.int k2)
theorem WT {P:Program} {w:World} (d:Nat) {xs ys:Array Value} {f:Field} {fs:List Field} {i:Nat} {ka k:IntKind} {x y:Int} {b:Bool} (f1:f.name ≠ "_") (f2:f.offset=i) (f3:P.underlying f.type=some (.int k)) (hxa:xs[i]?=some (.int ka x)) (hya:ys[i]?=some (.int ka y))
  (ih:(Op.eqFields (d+1) xs ys fs).run P w=.ok b w):(Op.eqFields (d+1) xs ys (f::fs)).run P w=.ok (x==y&&b) w:=by
 have ag:(isAgg f.type).run P w=.ok false w:=by
  unfold isAgg;rw[run_bind,Cn f3];rfl
 have part1:(part f.type xs f.offset).run P w=.ok (.int ka x) w:=by
  unfold part;rw[run_bind,ag];dsimp only;rw[AF (by simp),f2];simp only[hxa];rfl
 have part2:(part f.type ys f.offset).run P w=.ok (.int ka y) w:=by
  unfold part;rw[run_bind,ag];dsimp only;rw[AF (by simp),f2];simp only[hya];rfl
 simp only[Op.eqFields];rw[AG f1,run_bind,part1];dsimp only;rw[run_bind,part2];dsimp only;rw[run_bind,run_equalIn_int w d f.type ka k x y f3];dsimp only;cases hb:x==y with
 |true=>simpa using ih
 |false=>rfl
theorem Vj {o:Oper}{os:List Oper}{s:St}{K:St->Prop}{t tt:Nat}{x y:Operand}{a1 a2 b1 b2:Int}(hw:CD ops s.env o=some true)(ho:o.op=.binOp .neq t x y tt)(hT:T2 C.P t)(hx:BI s.env x=.agg [i64 a1,i64 a2])(hy:BI s.env y=.agg [i64 b1,i64 b2])
  (h:BJ C F ops os ⟨Bb s.env o.dst (Aq (!(a1==b1&&(a2==b2&&true)))),s.H,s.n+1⟩ K):BJ C F ops (o::os) s K:=
 BJ.step hw (λρ a w hs=>by
  refine⟨_,ρ,w,.inl ?_,Pv.pure hs (.prim _),λe he=>DJ (hs.gen e he)⟩;have rx:=DL hs.env x;have ry:=DL hs.env y;rw[hx]at rx;rw[hy]at ry;unfold execOp;simp only[ho];generalize a.eval x=vx at rx⊢;generalize a.eval y=vy at ry⊢;cases rx with
  |agg n1 o1 r1=>
   cases ry with
   |agg n2 o2 r2=>
    rename_i xs ys;obtain⟨f1,f2,k1,k2,c1,c2,c3,c4,c5,c6,c7,c8,c9⟩:=hT;have at_:∀ {vs:Array Value} {u1 u2:Int},vs.size=[i64 u1,i64 u2].length->(∀(i:Nat) (d:D),[i64 u1,i64 u2][i]?=some d->AV ρ (AN F.X ρ s.H) w d (vs.getD i undef))->vs[0]?=some (.int .i64 u1)/\vs[1]?=some (.int .i64 u2):=λ{vs u1 u2} n r=>by
     have q0:=r 0 _ rfl;have q1:=r 1 _ rfl;have m0:0<vs.size:=by rw[n];exact Nat.zero_lt_succ _
     have m1:1<vs.size:=by rw[n];exact HQ _
     rw[A7,Bn m0,Id]at q0;rw[A7,Bn m1,Id]at q1;rw[Bn m0,Bn m1];generalize vs[0]=z0 at q0;generalize vs[1]=z1 at q1;cases q0;cases q1;exact⟨rfl,rfl⟩
    obtain⟨x0,x1⟩:=at_ n1 r1;obtain⟨y0,y1⟩:=at_ n2 r2;have eqf:C.P.fieldsOf t = #[f1,f2]:=by unfold Program.fieldsOf;rw[c1]
    have run:(Op.equalIn 10000 t (.agg xs) (.agg ys)).run C.P w=.ok (a1==b1&&(a2==b2&&true)) w:=by
     rw[show(10000:Nat)=9998+1+1 from rfl,run_equalIn_struct w _ t xs ys (by rw[eqf];exact c1) c2,eqf];exact WT 9998 c4 c5 c6 x0 y0 (WT 9998 c7 c8 c9 x1 y1 rfl)
    have r3:(do eqGuard .neq t x y (.agg xs) (.agg ys);binOp .neq t (.agg xs) (.agg ys):Sem Value).run C.P w=.ok (.bool (!(a1==b1&&(a2==b2&&true)))) w:=by
     rw[run_bind,run_eqGuard_agg w .neq t x y xs ys c3];dsimp only;rw[run_neq_struct,run];rfl
    rw[run_bind,r3];rfl) h
end
def R9 (P:Program)(t:Nat):Bool:=match P.underlying t with
 |some (.int _)=>true
 |_=>false
theorem ZK {P:Program}{t:Nat}(h:R9 P t=true):∃k,P.underlying t=some (.int k):=by
 unfold R9 at h;split at h
 ·rename_i k hk;exact⟨k,hk⟩
 ·cases h
def gS (P:Program):List Field->Bool
 | [f1,f2]=>(f1.name != "_")&&Nat.beq f1.offset 0&&R9 P f1.type&&(f2.name != "_")&&Nat.beq f2.offset 1&&R9 P f2.type
 |_=>false
def gR (P:Program)(t:Nat):Bool:=match P.underlying t with
 |some (.struct fs)=>!(P.stoodInHeld t) && !(P.eqGuardType P.depth t)&&gS P fs.toList
 |_=>false
theorem us {P:Program}{t:Nat}(h:gR P t=true):T2 P t:=by
 unfold gR at h;split at h<;>try(cases h;done)
 rename_i fs hu;simp only[BR,Bj]at h;obtain⟨⟨h1,h2⟩,h3⟩:=h;obtain⟨l⟩:=fs
 match l,h3 with
 | [f1,f2],h3=>
  simp only[gS,BR,bne_iff_ne]at h3;obtain⟨⟨⟨⟨⟨g1,g2⟩,g3⟩,g4⟩,g5⟩,g6⟩:=h3;obtain⟨k1,e1⟩:=ZK g3;obtain⟨k2,e2⟩:=ZK g6;exact⟨f1,f2,k1,k2,hu,h1,h2,g1,B5 g2,e1,g4,B5 g5,e2⟩
theorem UO:T2 C0.P 35:=us (by kernel_rfl)
abbrev Ll:Dr:=[(13,[0,1,2,3,4,5,6,7],[8])]
open Go.Proofs Go.RowKit
set_option maxRecDepth 20000
set_option maxHeartbeats 4000000
section
variable {C:BC} {F B:Aa} {ops:Array Oper} {rd:Option Nat} {X:EV} {s:St} {Q:Exit->Aa->St->Prop}
theorem zG {i:Nat}(hX:DK C X)(kb:Nat)(pre:List Nat)(r:List (List Nat×Nat))(l:List Nat)(hc:(Hu ops pre (Np r l)&&EW ops.toList)=true)
  (h:EL C X kb ops s.H s.n pre s.env [] True λacc env N=>acc/\Ry C F X kb ops r l ⟨env,N++s.H,s.n+FN ops.toList⟩ (Q .normal F)):AC C B rd F (.region i ops true) s Q:=by
 have hsz:ops.size=FN ops.toList:=by rw[Q3,H4]
 rw[<-hsz]at h;simp only[BR]at hc;obtain⟨_,acc,env,N,h1,h2⟩:=N9 (F:=F) hX (λacc env N h=>h.1) h;refine⟨λhB hd ρ a w hs=>dR hX.mixed hc.1 h1 (λhlt ρ a w hs=>?_) (Is hB hd) ρ a w hs⟩;have h3:=(T9 hX r l _ h2.2).run hlt (Is hB hd) hs
 have:=FJ (rd:=rd) (Q:=Ew C B Q) (l2:=[]) (λ_ _ _ h=>JK hB (λ_ h=>h) h) (Hh hc.2) _ a w h3
 rwa [C5]at this
end
theorem o5 {side:Int}{N:Nat}(hs:0<=side/\side<=1000000000)(hN:0<N){l:List Int}(h:K8 side N l):(D5 (Cw side) 257 l []).1.length<=256:=by
 rcases YK hs hN 257 l [] h (by decide)with⟨S,e1,_,e3⟩|e|⟨e,_⟩
 ·rw[e1];exact e3
 ·rw[e];decide
 ·rw[e];decide
theorem uh (ha:AK C0 10 [] (Aq true))(x:Az)(hl:x.cells.length<=9223372036854775807)(hs:∀c∈x.cells,c.length<=9223372036854775807/\∀y∈c,y.shs.length<=9223372036854775807):AK C0 3 [x.D] (Aq true):=by
 refine Ak.walk w1 yh rfl λF=>?_
 have cS:=u6 x hl hs;have hk:=@xC x;have hk2:=@bZ x;have cE:=vI x;have cC:=UJ x;have cR:=vW x;have hE:R6 x=if CE x≠0 then([],CE x)else D5 (Cw x.side) 257 (Au x) []:=rfl
 have hR:=λh:CE x=0=>o5 (side:=x.side) (N:=x.cells.length) ⟨(LN h).1,by have:=(LN h).2.1;omega⟩ (Oi h).2.1 (Oi h).1
 have hx:∃a b c d e,x.D=.agg [a,b,c,d,e]:=⟨_,_,_,_,_,rfl⟩
 have px:AA x.D:=AI;have px2:AT x.D:=AI;obtain⟨a1,a2,a3,a4,a5,hx⟩:=hx;rw[hx]at cS cE cC cR px px2⊢;cases hsh:PO x
 ·rw[hsh]at cS
  refine AH Ll kB cS ha AB AB AB AB ?_;exact AL rfl AA.out
 rw[hsh]at cS;obtain⟨q1,q2⟩:=hk hsh;obtain⟨k1,k2,k3⟩:=hk2 q1;have cE:=cE (by omega) (λc q=>⟨by have:=(k3 c q).2;omega,λy h=>((k3 c q).1 y h).1.1⟩);have cC:=cC (by omega) (λc q=>⟨by have:=(k3 c q).2;omega,λy h=>((k3 c q).1 y h).2⟩)
 by_cases h0:CE x=0
 rotate_left
 ·rw[AG h0]at hE
  rw[hE]at cE;obtain⟨E,hEE⟩:∃E,CE x=E:=⟨_,rfl⟩
  rw[hEE]at cE cC h0;have z0:(E==0)=false:=Br.2 h0;have z1:(E != E)=false:=bne_self_eq_false _;have z2:(((0:Nat):Int) != ((0:Nat):Int))=false:=rfl;have z3:((0:Int) != ((0:Nat):Int))=false:=rfl;have z4:(((0:Nat):Int) != (0:Int))=false:=rfl;have z5:((0:Int) != (0:Int))=false:=rfl;have ln0:([]:List D).length=0:=rfl;refine AH Ll (CO z0 z1 z2 z3 z4 z5 (As ln0 kT kF)) cS cE cC AB AB AB ?_;refine AC.loop (α:=Nat) (λp=>⟨[(37,i64 0),(38,i64 0)],[],p⟩) (λ_=>0) (λ_=>True) _ AB AJ ?_;intro n F _;dsimp only;have e4:decide ((0:Int)<0)=false:=rfl;refine AH Ll e4 ha AB AB AB AB AB ?_;exact AL rfl AA.out
 rw[AF (λq=>q h0)]at hE;rw[hE]at cE;have cR:=cR h0 (λc hc=>⟨(q2 h0).len c hc,(q2 h0).mass c hc⟩);have hb:=hR h0;rw[h0]at cC;obtain⟨R,hRR⟩:∃R,D5 (Cw x.side) 257 (Au x) []=R:=⟨_,rfl⟩
 rw[hRR]at cE cR hb;obtain⟨S,e⟩:=R;dsimp only at cE cR hb;obtain⟨PD,hPD⟩:∃T,S.map GA=T:=⟨_,rfl⟩
 have hPDl:PD.length=S.length:=by rw[<-hPD,Ac]
 have pPD:AA (.sl false 2 PD):=by rw[<-hPD];exact AI
 rw[hPD]at cE cR;have el:((PD.length:Nat):Int)=(S.length:Int):=by rw[hPDl]
 have z0:((0:Int)==0)=true:=rfl;have z1:(e != e)=false:=bne_self_eq_false _;have z2:((S.length:Int) != (S.length:Int))=false:=bne_self_eq_false _;refine AH Ll (Dp z0 z1 z2 el kT kF) cS cE cC cR AB AB ?_;refine AC.loop (α:=Nat×Nat) (λp=>⟨[(3,.sl false 2 PD),(6,.sl false 2 PD),(37,i64 (S.length:Int)),(38,i64 (p.1:Int))],[],p.2⟩) (λp=>S.length-p.1) (λq=>q.1<=S.length) (0,_) (BU _) AJ ?_;rintro⟨i,n⟩ F hi;dsimp only at hi⊢;rcases BH i S.length with h2|h2
 rotate_left
 ·have e1:=Cj h2
  refine AH Ll e1 ha AB AB AB AB AB ?_;exact AL rfl AA.out
 have e1:=Ck h2;have wi:=Cc (i:=i) (by omega);obtain⟨p,hp⟩:=CU h2;have hm:PD[i]?=some (.agg [i64 (p.1:Int),i64 p.2]):=by rw[<-hPD,A8,hp];rfl
 have hq:(!(((p.1:Int)==(p.1:Int))&&((p.2==p.2)&&true)))=false:=by simp
 refine AH Ll kB AB AB AB AB AB AB ?_;rw[e1];refine fO ?_;refine An ?_;refine AC.seq ?_;refine AC.block ?_;refine sR 1200 ?_;refine AC.seq ?_;refine zG w1 1300 [0,1,2,3,4,5,6,7] [([],8)] [] (by kernel_rfl) ?_;refine At ?_;refine AE kN ?_;refine Bq kT hm ?_;refine AE kN ?_;refine Bq kT hm ?_;refine AE kN ?_;refine⟨⟨trivial,trivial⟩,trivial,Aq false,λos K' hk=>Vj (a1:=p.1) (a2:=p.2) (b1:=p.1) (b2:=p.2) rfl rfl UO rfl rfl (by rw[hq];exact hk),?_⟩;change Cy _ _ _ _ _ ⟨(49,Aq false)::_,_,_⟩ _ _;refine At ?_;refine AH Ll (Ah e1 wi) AB AB AB AB AB AB ?_;exact⟨(i+1,_),h2,by dsimp only;omega,AJ⟩
def tA:List UInt8:=[97]
def tB:List UInt8:=[98]
def Ev:List UInt8:=[119,104,101,97,116]
def Mi:List UInt8:=[102,117,110,110,101,108]
def Cp (m:Int):AD:=⟨Ev,m,[⟨tA,[49]⟩]⟩
def DD (m:Int):AD:=⟨Ev,m,[⟨tA,[49,47,50]⟩,⟨tB,[49,47,50]⟩]⟩
def FE (x:AD):D:=.agg [str (sb x.grain),i64 x.mass,.sl true 2 (x.shs.map Av.D)]
def gM:D:=.agg [str (sb Mi),i64 4,i64 30,i64 12,.sl true 1 [.sl true 3 [FE (Cp 10),FE (DD 6)],.sl true 3 [FE (Cp 5)]]]
theorem vr:AK C0 41 [] gM:=CF DY 400 40 (by kernel_rfl)
def Lo (d d':D):Prop:=∀(ρ:Lk) (O:Nat->Prop) (w:World) (v:Value),AV ρ O w d v->AV ρ O w d' v
theorem Lo.refl (d:D):Lo d d:=λ_ _ _ _ h=>h
theorem Lo.agg {ds ds':List D}(hl:ds.length=ds'.length)(h:∀(i:Nat) (d d':D),ds[i]?=some d->ds'[i]?=some d'->Lo d d'):Lo (.agg ds) (.agg ds'):=λρ O w v hv=>by
 cases hv with
 |agg hn ho hd=>
  refine .agg (hn.trans hl) ho λi d' hd'=>?_
  have hi:i<ds.length:=by rw[hl];exact(List.getElem?_eq_some_iff.1 hd').1
  exact h i _ d' (A9 hi) hd' _ _ _ _ (hd i _ (A9 hi))
theorem Lo.tup {ds ds':List D}(hl:ds.length=ds'.length)(h:∀(i:Nat) (d d':D),ds[i]?=some d->ds'[i]?=some d'->Lo d d'):Lo (.tup ds) (.tup ds'):=λρ O w v hv=>by
 cases hv with
 |tup hn hd=>
  refine .tup (hn.trans hl) λi d' hd'=>?_
  have hi:i<ds.length:=by rw[hl];exact(List.getElem?_eq_some_iff.1 hd').1
  exact h i _ d' (A9 hi) hd' _ _ _ _ (hd i _ (A9 hi))
def Ns (e e':D):Prop:=e'.cells.length=e.cells.length/\∀(j:Nat) (d d':D),e.cells[j]?=some d->e'.cells[j]?=some d'->Lo d d'
theorem Lo.sl {b:Bool}{sz:Nat}{es es':List D}(hl:es.length=es'.length)(hc:∀(i:Nat) (e e':D),es[i]?=some e->es'[i]?=some e'->Ns e e'):Lo (.sl b sz es) (.sl false sz es'):=λρ O w v hv=>by
 cases hv with
 |nil=>
  have:es'=[]:=List.length_eq_zero_iff.1 hl.symm
  subst this;exact .nil sz
 |emp a=>
  have:es'=[]:=List.length_eq_zero_iff.1 hl.symm
  subst this;exact .emp a
 |sl f hl' hc' hO hb hz hcell ho h=>
  have hx:∀(i:Nat) (e':D),es'[i]?=some e'->∃e,es[i]?=some e/\Ns e e':=λi e' he'=>by
   have hi:i<es.length:=by rw[hl];exact(List.getElem?_eq_some_iff.1 he').1
   exact⟨_,A9 hi,hc i _ e' (A9 hi) he'⟩
  refine .sl f (hl.symm.trans hl') hc' hO hb (λi e' he'=>?_) hcell ho λi e' j d' he' hd'=>?_
  ·obtain⟨e,he,h1,h2⟩:=hx i e' he'
   rw[h1];exact hz i e he
  ·obtain⟨e,he,h1,h2⟩:=hx i e' he'
   have hj:j<e.cells.length:=by rw[<-h1];exact(List.getElem?_eq_some_iff.1 hd').1
   exact h2 j _ d' (A9 hj) hd' _ _ _ _ (h i e j _ he (A9 hj))
def loosen:Nat->D->D
 | 0,d=>d
 |n+1,.agg ds=>.agg (ds.map (loosen n))
 |n+1,.tup ds=>.tup (ds.map (loosen n))
 |n+1,.sl _ sz es=>.sl false sz (es.map (loosen n))
 |_+1,d=>d
theorem Uh {f:D->D}(hf:∀d,Lo d (f d))(ds:List D)(i:Nat)(d d':D)(h:ds[i]?=some d)(h':(ds.map f)[i]?=some d'):Lo d d':=by
 rw[A8,h]at h';cases h';exact hf d
theorem XG:∀n:Nat,(∀d,Lo d (loosen n d))/\∀e,Ns e (loosen n e)
 | 0=>⟨λd=>.refl d,λe=>⟨rfl,λj d d' h h'=>by
   have:d=d':=by
    have:=h.symm.trans h'
    injection this
   subst this;exact .refl d⟩⟩
 |n+1=>by
  obtain⟨h1,h2⟩:=XG n;have hs:∀(es:List D) (i:Nat) (e e':D),es[i]?=some e->(es.map (loosen n))[i]?=some e'->Ns e e':=λes i e e' h h'=>by
   rw[A8,h]at h';cases h';exact h2 e
  have hL:∀d,Lo d (loosen (n+1) d):=λd=>by
   cases d with
   |agg ds=>exact .agg (by simp) (Uh h1 ds)
   |tup ds=>exact .tup (by simp) (Uh h1 ds)
   |sl b sz es=>exact .sl (by simp) (hs es)
   |_=>exact .refl _
  refine⟨hL,λe=>?_⟩;have one:e.cells=[e]->(loosen (n+1) e).cells=[loosen (n+1) e]->Ns e (loosen (n+1) e):=λa b=>by
   refine⟨by rw[a,b];rfl,λj d d' h h'=>?_⟩;rw[a]at h;rw[b]at h'
   match j with
   | 0=>cases h;cases h';exact hL e
   |j+1=>cases h
  cases e with
  |agg ds=>exact⟨by simp[loosen,D.cells],λj d d' h h'=>Uh h1 ds j d d' h h'⟩
  |_=>exact one rfl rfl
theorem AK.loosen {C:BC}{f:Nat}{args:List D}{d:D}(h:AK C f args d)(n:Nat):AK C f args (loosen n d):=
 ⟨h.1,λX w vs a b c e g=>(h.2 X w vs a b c e g).mono λ_ _ ⟨v,d,h1,h2,h3,h4⟩=>⟨v,_,h1,h2,rfl,by subst h3;exact(XG n).1 _ _ _ _ _ h4⟩⟩
def lA:List AD:=[Cp 10,DD 6]
def lB:List AD:=[Cp 5]
def cA:D:=Al false lA
def cB:D:=Al false lB
def Df:D:=.agg [str (sb Mi),i64 4,i64 30,i64 12,.sl false 1 [cA,cB]]
theorem yb:AK C0 41 [] Df:=by
 have h:=vr.loosen 10
 rwa [show loosen 10 gM=Df from rfl]at h
theorem ZR {x:AD}(h:decide (x.grain.length<=1000)&&decide (x.shs.length<=1000)&&x.shs.all (λs=>decide (s.lot.length<=1000)&&decide (s.part.length<=40))=true):x.lite:=by
 simp only[BR,Gc,CQ]at h;obtain⟨⟨h1,h2⟩,h3⟩:=h;exact⟨⟨by omega,by omega,λs hs=>⟨by have:=(h3 s hs).1;omega,by have:=(h3 s hs).2;omega⟩⟩,h3⟩
theorem Rc:∀x∈lA,x.lite:=by
 intro x hx;simp only[lA,BG,Db,or_false]at hx;rcases hx with rfl|rfl<;>exact ZR rfl
theorem u5:∀x∈lB,x.lite:=by
 intro x hx;simp only[lB,BG,Db,or_false]at hx;subst hx;exact ZR rfl
theorem Rh:Bv lA=0:=by kernel_rfl
theorem vC:Bv lB=0:=by kernel_rfl
theorem pN:Kb lA=[(tA,13),(tB,3)]:=by kernel_rfl
theorem VM:FQ (CJ lA)=[(tA,13),(tB,3)]:=by rw[<-X6];exact pN
theorem Zl:(CJ lA).any (λp=>Du p.2)=false:=by kernel_rfl
theorem pP:Rp lA=0:=by
 unfold Rp IQ;rw[AF (by rw[Rh];exact λh=>h rfl),Zl];rfl
theorem pQ:Rq lA=[(tA,13),(tB,3)]:=by
 unfold Rq JZ;rw[AF (by rw[Rh];exact λh=>h rfl),Zl,VM];rfl
def Sh:List UInt8:=[49,51]
def t3:List UInt8:=[51]
def GO:List UInt8:=[49,51,47,49,54]
def GV:List UInt8:=[51,47,49,54]
def Ku (m:Int):AD:=⟨Ev,m,[⟨tA,GO⟩,⟨tB,GV⟩]⟩
theorem yA:Co (tA,13)=Ei (tA,Sh):=by unfold Co Ei;rw[show BO 13=Sh by kernel_rfl]
theorem yB:Co (tB,3)=Ei (tB,t3):=by unfold Co Ei;rw[show BO 3=t3 by kernel_rfl]
theorem qU:AK C0 22 [cA] (.tup [.sl false 2 [Ei (tA,Sh),Ei (tB,t3)],i64 0]):=by
 have h:=xk false lA (by decide) Rc;rw[pP,pQ,Cu,Cu,List.map_nil,yA,yB]at h;exact h
theorem SL:lA.map (Dw Ev)=lA:=rfl
theorem vA:HJ lA=0:=by kernel_rfl
theorem yF:[((tA,13):List UInt8×Rat),(tB,3)].any (λp=>Du (p.2/(Am lA:Rat)))=false:=by kernel_rfl
theorem xb:(CJ lA).length=2:=by kernel_rfl
theorem dC:Gr lA=0:=by
 unfold Gr;rw[AF (by rw[vA];exact λh=>h rfl),AF (by rw[xb];decide),VM,yF];rfl
theorem U2:Ej lA=[⟨tA,GO⟩,⟨tB,GV⟩]:=by
 unfold Ej;rw[VM];kernel_rfl
theorem Rx:Am lA=16:=by kernel_rfl
theorem vB:Kv lA=Ku 16:=by rw[ZB dC,U2,Rx];rfl
theorem Zm:HG lA Ev=0:=by kernel_rfl
theorem Zn:IN lA Ev=0:=by unfold IN;rw[Zm,SL,dC];rfl
theorem pU:Lw lA Ev=Ku 16:=by unfold Lw;rw[Zm,SL,vB];rfl
theorem q6:AK C0 42 [cA,str (sb Ev)] (.tup [(Ku 16).D,i64 0]):=by
 have h:=fG false lA Ev (by decide) Rc (by decide);rw[Zn,pU]at h;exact h
theorem uz:Fv lA 15=⟨Ev,1,[⟨tA,GO⟩,⟨tB,GV⟩]⟩:=by
 unfold Fv;rw[Rx,show(CI lA 0).grain=Ev from rfl,SL,U2];rfl
theorem dB:HE (Fv lA 15)=[(tA,mkRat 13 16),(tB,mkRat 3 16)]:=by rw[uz];kernel_rfl
theorem dA:[((tA,mkRat 13 16):List UInt8×Rat),(tB,mkRat 3 16)].any (λp=>Du p.2)=false:=by kernel_rfl
theorem uy:IQ (CJ [Fv lA 15])=0:=by
 unfold IQ;rw[(UB lA 15).1,dB,dA];rfl
theorem vD:CM lA=true:=by kernel_rfl
theorem U3:I7 lA 15=0:=by
 unfold I7;rw[Rh,AF (λh=>h rfl),AF (by decide),Rx,AF (by decide),vD,AF (λh=>by cases h),show(CI lA 0).grain=Ev from rfl,Zn,AF (λh=>h rfl),AF (by decide),uy]
theorem wF:SH lA 15=Ku 15:=by
 unfold SH;rw[U3,AF (λh=>h rfl),show(CI lA 0).grain=Ev from rfl,SL,U2];rfl
theorem vE:SG lA 15=[(tA,mkRat 13 16),(tB,mkRat 3 16)]:=by
 unfold SG JZ;rw[U3,AF (λh=>h rfl),Rx,AF (by decide),(UB lA 15).2,(UB lA 15).1,dB,dA];rfl
theorem yC:Co (tA,mkRat 13 16)=Ei (tA,GO):=by unfold Co Ei;rw[show BO (tA,mkRat 13 16).2=GO by kernel_rfl]
theorem yE:Co (tB,mkRat 3 16)=Ei (tB,GV):=by unfold Co Ei;rw[show BO (tB,mkRat 3 16).2=GV by kernel_rfl]
theorem lZ:AK C0 44 [cA,i64 15] (.tup [(Ku 15).D,.sl false 2 [Ei (tA,GO),Ei (tB,GV)],i64 0]):=by
 have h:=oU false lA 15 (by decide) Rc;rw[U3,wF,vE,Cu,Cu,List.map_nil,yC,yE]at h;exact h
theorem qX:AK C0 68 [cA] (i64 0):=by
 have h:=NI false lA (by decide) λx hx=>(Rc x hx).1
 rw[Rh]at h;exact h
theorem qY:AK C0 68 [cB] (i64 0):=by
 have h:=NI false lB (by decide) λx hx=>(u5 x hx).1
 rw[vC]at h;exact h
theorem qW:AK C0 75 [str (sb tB)] (Aq true):=by
 have h:=Q8 tB;rw[show Dg tB=true by kernel_rfl]at h;exact h
theorem xj (x:AD)(h:x.shs.length<=1000000)(m:Int):AK C0 94 [x.D,i64 m] (x.w m).D:=bQ x m h
theorem Ut {l:List AD}(h:l.all (λx=>decide (x.shs.length<=1000000))=true):∀x∈l,∀m,AK C0 94 [x.D,i64 m] (x.w m).D:=λx hx m=>xj x (DE (CQ.1 h x hx)) m
theorem UE {l:List AD}(h:l.all (λx=>decide (0<=x.mass)&&decide (x.mass<=1000000000))=true):∀x∈l,0<=x.mass/\x.mass<=1000000000:=λx hx=>by
 have:=CQ.1 h x hx
 simpa using this
theorem zt:AK C0 62 [Al false [DD 2]] (Al false [DD 2]):=CF DY 400 40 (by kernel_rfl)
theorem zu:AK C0 62 [Al false [Cp 1]] (Al false [Cp 1]):=CF DY 400 40 (by kernel_rfl)
theorem zv:AK C0 62 [Al false [Cp 9,DD 4]] (Al false [Cp 9,DD 4]):=CF DY 400 40 (by kernel_rfl)
theorem dH:AK C0 57 [cA] (i64 16):=CF DY 400 40 (by kernel_rfl)
theorem ni:AK C0 105 [cA,i64 2,Aq true] (Al false [DD 2]):=Zg false true lA 2 (by decide) (by decide) (UE rfl) (Ut rfl) _ zt
theorem nj:AK C0 105 [cA,i64 1,Aq false] (Al false [Cp 1]):=Zg false false lA 1 (by decide) (by decide) (UE rfl) (Ut rfl) _ zu
theorem qP:AK C0 60 [cA,i64 1,i64 2] (Al false [Cp 9,DD 4]):=jI false lA 1 2 (by decide) (by decide) (by decide) 16 (by decide) (UE rfl) dH (Ut rfl) _ zv
theorem vm:AK C0 126 [cA,str (sb tB)] (.sl false 2 [Fp (11,16)]):=by
 have h:=iP false lA tB (by decide) λx hx=>by
  simp only[lA,BG,Db,or_false]at hx;rcases hx with rfl|rfl<;>exact⟨by decide,by decide,by decide⟩
 rw[show K5 tB lA 0=[(11,16)] by kernel_rfl]at h;exact h
theorem qR:AK C0 63 [.sl true 1 [Al false [DD 2],Al false [Cp 1]]] (Al false [DD 2,Cp 1]):=jq [[DD 2],[Cp 1]] (by simp) (by decide) (by decide)
end Go.Ide
