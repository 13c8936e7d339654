/- The layer of own lemmas and contracts, part 12. -/
import Derived.Test.YteeceibhhdapaaaGreatDoorW11
import Derived.Test.YteeceibhhdapaaaGreatDoorW9
import Derived.Test.YteeceibhhdapaaaGreatDoorW4
import Derived.Shelf.Spec.SlicesGrow
import Derived.Shelf.Lay
import Derived.Ground.Names8Prog
import Derived.Test.YteeceibhhdapaaaGreatDoorW7
import Derived.Laws.StructEq
import Derived.Test.YteeceibhhdapaaaGreatDoorW10
set_option linter.unusedVariables false
set_option linter.unusedSimpArgs false
namespace Go.Ide
open Go.Proofs Go.RowKit Go.Sort
set_option maxRecDepth 20000
set_option maxHeartbeats 4000000
def Dq (g:List UInt8)(x:AF):AF:=⟨g,x.mass,x.shs⟩
def G3 (l:List AF)(g:List UInt8):Nat:=if Bx l≠0 then Bx l else if Da g=false then 8 else if l.length=0 then 13 else 0
def ID (l:List AF)(g:List UInt8):Nat:=if G3 l g≠0 then G3 l g else Gc (l.map (Dq g))
def Lc (l:List AF)(g:List UInt8):AF:=if G3 l g≠0 then⟨[],0,[]⟩else Kj (l.map (Dq g))
theorem ma (g:List UInt8){l:List AF}{i:Nat}{x:AF}(hx:l[i]?=some x):
  (((l.take i).map (Dq g)++l.drop i).map AF.D).set i (.agg [str (sb g),i64 x.mass,.sl false 2 (x.shs.map Av.D)])=((l.take (i+1)).map (Dq g)++l.drop (i+1)).map AF.D:=by
 have hi:=(List.getElem?_eq_some_iff.1 hx).1;have hd:l.drop i=x::l.drop (i+1):=by
  rw[EI hi,(List.getElem?_eq_some_iff.1 hx).2]
 rw[Dh,hx,hd];simp only[Cv,Cc,Option.toList_some,List.map_nil,Do,ES,FM];rw[NH _ _ (by simp;omega)]
 have:i-(((l.take i).map (Dq g)).map AF.D).length=0:=by simp;omega
 rw[this];rfl
theorem bl (b:Bool)(l:List AF)(g:List UInt8)(hl:l.length<=1000000)(hf:∀x∈l,x.lite)(hg:g.length<=100000):AK C0 11 [Ae b l,str (sb g)] (.tup [(Lc l g).D,i64 (ID l g:Nat)]):=by
 refine Ak.walk w1 bJ rfl λF=>?_
 have el:(((l.map AF.D).length:Nat):Int)=(l.length:Int):=by rw[Am]
 have cP:=Lr b l (by omega) λx hx=>(hf x hx).1
 have cN:=QI g;have hN:ID l g=if G3 l g≠0 then G3 l g else Gc (l.map (Dq g)):=rfl
 have hL:Lc l g=if G3 l g≠0 then⟨[],0,[]⟩else Kj (l.map (Dq g)):=rfl
 have hE:G3 l g=if Bx l≠0 then Bx l else if Da g=false then 8 else if l.length=0 then 13 else 0:=rfl
 obtain⟨K,hK⟩:∃K,Da g=K:=⟨_,rfl⟩
 have cW1:=GY (!K) 8;have cW2:=GY ((l.length:Int)==0) 13;have cF:AK C0 54 [.sl true 1 [i64 (Bx l:Nat),i64 (if !K then 8 else 0),i64 (if(l.length:Int)==0 then 13 else 0)]] (i64 (G3 l g:Nat)):=by
  have:=KP [(Bx l:Int),if !K then 8 else 0,if(l.length:Int)==0 then 13 else 0] (by simp)
  have he:DP [(Bx l:Int),if !K then 8 else 0,if(l.length:Int)==0 then 13 else 0]=((G3 l g:Nat):Int):=by
   rw[hE,hK]
   by_cases h1:Bx l=0<;>cases K<;>by_cases h3:l.length=0<;>simp[DP,h1,h3]
  rw[he]at this;exact this
 rw[hK]at cN;rcases Nat.decEq (G3 l g) 0 with g0|g0
 ·have e1:=GJ g0
  rw[AH g0]at hN hL;rw[hN,hL];refine AI Af (Ac el e1) cP cN cW1 cW2 cF AB ?_;exact⟨_,N9 _ _,AA.out,rfl⟩
 have e1:=GK g0;rw[AG (λh=>h g0)]at hN hL;rw[hN,hL];have h0:l≠[]:=λh=>by
  rw[hE]at g0;split at g0
  ·rename_i h9;exact h9 g0
  ·split at g0
   ·cases g0
   ·split at g0
    ·cases g0
    ·rename_i h9;exact h9 (by rw[h];rfl)
 refine AI Af (Ac el e1) cP cN cW1 cW2 cF AB ?_;refine BF.own _ (jf b l hl h0 _ _) ?_;rintro d H' n' ⟨gk,rfl,rfl,rfl⟩;refine AI Af kB AB AB AB AB AB AB ?_;refine AC.loop (α:=Nat×Nat) (λp=>⟨[(1,str (sb g)),(4,.optr 0 0 3 0 0),(7,.osl 302 gk 3 0 l.length),(28,i64 (l.length:Int)),(29,i64 (p.1:Int))],[⟨302,gk,27,3,((l.take p.1).map (Dq g)++l.drop p.1).map AF.D⟩,⟨0,0,27,3,[.agg [.prim (.string ⟨#[]⟩),.prim (.int .i64 0),.prim (.slice none 0 0)]]⟩],p.2⟩) (λp=>l.length-p.1)
  (λp=>p.1<=l.length) (0,_) (BU _) AL ?_
 rintro⟨i,n⟩ F hi;dsimp only at hi⊢;rcases BG i l.length with h2|h2
 rotate_left
 ·have e1:=CW h2
  have:i=l.length:=by omega
  subst this;rw[C8,IP,DX];have hlr:(l.map (Dq g)).length=l.length:=Am ..;have hfr:∀x∈l.map (Dq g),x.lite:=λx hx=>by
   obtain⟨y,hy,rfl⟩:=List.mem_map.1 hx;obtain⟨⟨a1,a2,a3⟩,a4⟩:=hf y hy;exact⟨⟨hg,a2,a3⟩,a4⟩
  have cM:=vk false (l.map (Dq g)) (by rw[hlr];exact hl) hfr;obtain⟨R,hR⟩:∃R,l.map (Dq g)=R:=⟨_,rfl⟩
  rw[hR]at cM hlr⊢;obtain⟨Z,hZ⟩:∃Z:AF,Kj R=Z:=⟨_,rfl⟩
  rw[hZ]at cM⊢;refine AI Af e1 AB AB AB AB AB AB ?_;have hfz:Fz [⟨302,gk,27,3,R.map AF.D⟩,⟨0,0,27,3,[.agg [.prim (.string ⟨#[]⟩),.prim (.int .i64 0),.prim (.slice none 0 0)]]⟩] [⟨0,0,27,3,[.agg [.prim (.string ⟨#[]⟩),.prim (.int .i64 0),.prim (.slice none 0 0)]]⟩] (.osl 302 gk 3 0 l.length) (Ae false R):=by
   have:=FQ (H:=[⟨302,gk,27,3,R.map AF.D⟩,⟨0,0,27,3,[.agg [.prim (.string ⟨#[]⟩),.prim (.int .i64 0),.prim (.slice none 0 0)]]⟩]) (Hf:=[⟨0,0,27,3,[.agg [.prim (.string ⟨#[]⟩),.prim (.int .i64 0),.prim (.slice none 0 0)]]⟩]) (k:=302) (g:=gk) (T:=27) (sz:=3) (l:=R.map AF.D) rfl
   rwa [Am,hlr]at this
  refine BF.own _ (CO.give [⟨0,0,27,3,[.agg [.prim (.string ⟨#[]⟩),.prim (.int .i64 0),.prim (.slice none 0 0)]]⟩] cM (.drop (.keep .nil)) ⟨hfz,trivial⟩ AJ) ?_;rintro d H2 n2 ⟨rfl,rfl,rfl⟩;unfold AF.D;refine AI Af kB AB AB AB AB AB AB ?_;exact AN rfl AA.out
 have e1:=CX h2;have wi:=CY (i:=i) (by omega);obtain⟨x,hx⟩:=CG h2;obtain⟨es,hes⟩:∃es,((l.take i).map (Dq g)++l.drop i).map AF.D=es:=⟨_,rfl⟩
 rw[hes];have hm:es[i]?=some (.agg [str (sb x.grain),i64 x.mass,.sl false 2 (x.shs.map Av.D)]):=by
  rw[<-hes,A7,Ey (by simp;omega)];simp only[Am,Bf,E4 (Jr h2),Nat.sub_self,HH,DY,hx,I5];rfl
 refine sZ 600 ?_;refine AE e1 ?_;refine AC.seq ?_;refine AO ?_;refine Ap ?_;refine AC.seq ?_;refine AC.block ?_;refine sZ 700 ?_;refine AE kB ?_;refine Aq w1 800 (by kernel_rfl) ?_;refine AE (At kN BP hm) ?_;have hset:es.set i (.agg [str (sb g),i64 x.mass,.sl false 2 (x.shs.map Av.D)])=((l.take (i+1)).map (Dq g)++l.drop (i+1)).map AF.D:=by
  rw[<-hes];exact ma g hx
 rw[hset];refine AI Af wi AB AB AB AB AB AB ?_;exact⟨(i+1,_),h2,by dsimp only;omega,AL⟩
theorem lF {g:List UInt8}(hg:g.length<=100000){l:List AF}(hf:∀x∈l,x.lite):∀x∈l.map (Dq g),x.lite:=λx hx=>by
 obtain⟨y,hy,rfl⟩:=List.mem_map.1 hx;obtain⟨⟨a1,a2,a3⟩,a4⟩:=hf y hy;exact⟨⟨hg,a2,a3⟩,a4⟩
theorem nC {l:List AF}(h:Gc l=0):HA l=0/\(CH l).length<=64/\∀p∈FK (CH l),Dk (p.2/(An l:Rat))=false:=by
 unfold Gc at h;split at h
 ·rename_i h9;exact AZ h h9
 ·split at h
  ·cases h
  ·split at h
   ·cases h
   ·rename_i h1 h2 h3
    refine⟨by omega,by omega,λp hp=>?_⟩
    have:=List.any_eq_false.1 ((Bool.not_eq_true _).mp h3) p hp
    exact(Bool.not_eq_true _).mp this
theorem X8 {l:List AF}(h:Gc l=0):Kj l=⟨(CP l 0).grain,An l,Ef l⟩:=by
 unfold Kj;rw[AG (λq=>q h)]
theorem l5 {l:List UInt8}(h:Ca l=0):l.length<=100000:=by
 obtain⟨-,h2,h3,-⟩:=P7 h;have h4:(Bz l).length<=(B1 l).length+1:=by
  unfold B1 Bn;split
  ·simp;omega
  ·omega
 unfold Bz BY at*;rw[Bf]at h4;rw[Dz]at h3;omega
theorem nD {l:List AF}(hf:∀x∈l,x.lite)(h:Gc l=0):(Ef l).length<=64/\∀s∈Ef l,s.lot.length<=1000/\s.part.length<=100000/\Ca s.part=0/\rk (CR s.part) 600:=by
 obtain⟨h1,h2,h3⟩:=nC h;obtain⟨g1,g2,g3,g4,g5⟩:=X7 h1;obtain⟨hx,hK⟩:=V4 hf g3 g2;refine⟨by unfold Ef;rw[Am,(J7 _).length_eq];exact h2,λs hs=>?_⟩;unfold Ef at hs;obtain⟨p,hp,rfl⟩:=List.mem_map.1 hs;have hc:=l6 (h3 p hp);refine⟨hK.all p.1 (List.mem_map_of_mem ((J7 _).mem_iff.1 hp)),?_,hc,Mg hc⟩;exact l5 hc
def Fp (l:List AF)(left:Int):AF:=⟨(CP l 0).grain,An l-left,Ef (l.map (Dq (CP l 0).grain))⟩
def Iv (l:List AF)(left:Int):Nat:=if Bx l≠0 then Bx l else if left<1 then 3 else if An l<left then 13 else if CJ l=false then 16 else if ID l (CP l 0).grain≠0 then ID l (CP l 0).grain
 else if An l=left then 0 else IB (CH [Fp l left])
def RN (l:List AF)(left:Int):AF:=if Iv l left≠0 then⟨[],0,[]⟩else⟨(CP l 0).grain,left,Ef (l.map (Dq (CP l 0).grain))⟩
def RM (l:List AF)(left:Int):By:=if Iv l left≠0 then[]else if An l=left then[]else JZ (CH [Fp l left])
theorem Ns {H:Hp}{a a' b b' c:D}(h1:Fz H [] a a')(h2:Fz H [] b b'):Fz H [] (.tup [a,b,c]) (.tup [a',b',c]):=.tup rfl λi d d' h h'=>by
 match i with
 | 0=>cases h;cases h';exact h1
 | 1=>cases h;cases h';exact h2
 | 2=>cases h;cases h';exact .refl _
 |n+3=>cases h
theorem Q4 (H:Hp):Fz H [] (.agg [str ⟨#[]⟩,i64 0,CK]) (⟨[],0,[]⟩:AF).D:=.agg rfl λi d d' h h'=>by
 match i with
 | 0=>cases h;cases h';exact .refl _
 | 1=>cases h;cases h';exact .refl _
 | 2=>cases h;cases h';exact .nil 2
 |n+3=>cases h
theorem mT (b:Bool)(l:List AF)(left:Int)(hl:l.length<=1000000)(hf:∀x∈l,x.lite):AK C0 12 [Ae b l,i64 left] (.tup [(RN l left).D,.sl false 2 ((RM l left).map Ck),i64 (Iv l left:Nat)]):=by
 refine Ak.walk w1 bK rfl λF=>?_
 have cP:=Lr b l (by omega) λx hx=>(hf x hx).1
 have hE:Iv l left=if Bx l≠0 then Bx l else if left<1 then 3 else if An l<left then 13 else if CJ l=false then 16 else if ID l (CP l 0).grain≠0 then ID l (CP l 0).grain
  else if An l=left then 0 else IB (CH [Fp l left]):=rfl
 have hX:RN l left=if Iv l left≠0 then⟨[],0,[]⟩else⟨(CP l 0).grain,left,Ef (l.map (Dq (CP l 0).grain))⟩:=rfl
 have hL:RM l left=if Iv l left≠0 then[]else if An l=left then[]else JZ (CH [Fp l left]):=rfl
 have cW1:=GY (decide (left<1)) 3;obtain⟨E0,hE0⟩:∃e:Nat,(if Bx l≠0 then Bx l else if left<1 then 3 else 0)=e:=⟨_,rfl⟩
 have cF0:AK C0 54 [.sl true 1 [i64 (Bx l:Nat),i64 (if decide (left<1)then 3 else 0)]] (i64 (E0:Nat)):=by
  have:=KP [(Bx l:Int),if decide (left<1)then 3 else 0] (by simp)
  have he:DP [(Bx l:Int),if decide (left<1)then 3 else 0]=((E0:Nat):Int):=by
   rw[<-hE0]
   by_cases h1:Bx l=0<;>by_cases h2:left<1<;>simp[DP,h1,h2]
  rw[he]at this;exact this
 rcases Nat.decEq E0 0 with g0|g0
 ·have e1:=GJ g0
  have hE2:Iv l left=E0:=by
   rw[hE,<-hE0];split
   ·rfl
   ·rename_i h1
    rw[<-hE0,AG h1]at g0;split
    ·rfl
    ·rename_i h2;exact AZ (AG h2) g0
  rw[hE2]at hX hL⊢;rw[AH g0]at hX hL;rw[hX,hL];refine AI Af e1 cP cW1 cF0 AB AB AB ?_;exact⟨_,Ns (Q4 _) (.nil 2),AA.out,rfl⟩
 have e1:=GK g0;have hp0:Bx l=0:=by
  apply Cy;intro h;rw[AH h]at hE0;omega
 have hl1:¬left<1:=λh=>by
  rw[AG (λq=>q hp0),AH h]at hE0;omega
 rw[AG (λh=>h hp0),AG hl1]at hE;obtain⟨p1,p2,p3⟩:=KS hp0;have hsm:H7 l:=⟨by omega,λx hx=>by have:=Nt (p2 x hx);omega⟩
 have cT:=Yq b l hsm;have cG:=SW b l hl;have cW2:=GY (decide (An l<left)) 13;obtain⟨E1,hE1⟩:∃e:Nat,(if An l<left then 13 else if CJ l=false then 16 else 0)=e:=⟨_,rfl⟩
 have cF1:AK C0 54 [.sl true 1 [i64 (if decide (An l<left)then 13 else 0),i64 (if CJ l then 0 else 16:Nat)]] (i64 (E1:Nat)):=by
  have:=KP [if decide (An l<left)then 13 else 0,((if CJ l then 0 else 16:Nat):Int)] (by simp)
  have he:DP [if decide (An l<left)then 13 else 0,((if CJ l then 0 else 16:Nat):Int)]=((E1:Nat):Int):=by
   rw[<-hE1]
   by_cases h1:An l<left<;>cases CJ l<;>simp[DP,h1]
  rw[he]at this;exact this
 rcases Nat.decEq E1 0 with g1|g1
 ·have e2:=GJ g1
  have hE2:Iv l left=E1:=by
   rw[hE,<-hE1];split
   ·rfl
   ·rename_i h1
    rw[<-hE1,AG h1]at g1;split
    ·rfl
    ·rename_i h2;exact AZ (AG h2) g1
  rw[hE2]at hX hL⊢;rw[AH g1]at hX hL;rw[hX,hL];refine AI Af e1 cP cW1 cF0 AB AB AB ?_;refine AI Af e2 cT cW2 cG cF1 AB AB ?_;exact⟨_,Ns (Q4 _) (.nil 2),AA.out,rfl⟩
 have e2:=GK g1;have hs1:¬An l<left:=λh=>by
  rw[AH h]at hE1;omega
 have hs2:¬CJ l=false:=λh=>by
  rw[AG hs1,AH h]at hE1;omega
 rw[AG hs1,AG hs2]at hE;have hl0:0<l.length:=by
  rcases l with _|⟨y,l⟩
  ·exfalso;apply hs1
   show(0:Int)<left;omega
  ·simp
 obtain⟨x0,hx0⟩:∃x,l[0]?=some x:=⟨_,BI hl0⟩
 have hm0:(l.map AF.D)[0]?=some (.agg [str (sb x0.grain),i64 x0.mass,.sl false 2 (x0.shs.map Av.D)]):=by rw[A7,hx0];rfl
 have hgr:(CP l 0).grain=x0.grain:=by rw[FU hx0]
 have hg9:=(hf x0 (A0 hx0)).1.1;have cPo:=bl b l x0.grain hl hf hg9;rw[hgr]at hE hX;have hlt:Fp l left=⟨x0.grain,An l-left,Ef (l.map (Dq x0.grain))⟩:=by unfold Fp;rw[hgr]
 rw[hlt]at hE hL;obtain⟨PN,hPN⟩:∃n,ID l x0.grain=n:=⟨_,rfl⟩
 rw[hPN]at hE cPo;rcases Nat.decEq PN 0 with g2|g2
 ·have e3:=GJ g2
  rw[AH g2]at hE;rw[hE]at hX hL⊢;rw[AH g2]at hX hL;rw[hX,hL];obtain⟨Z,hZ⟩:∃Z,Lc l x0.grain=Z:=⟨_,rfl⟩
  rw[hZ]at cPo;unfold AF.D CT at cPo;obtain⟨ZS,hZS⟩:∃d,List.map Av.D Z.shs=d:=⟨_,rfl⟩
  have pZS:AA (.sl false 2 ZS):=by rw[<-hZS];exact AJ
  rw[hZS]at cPo;refine AI Af e1 cP cW1 cF0 AB AB AB ?_;refine AI Af e2 cT cW2 cG cF1 AB AB ?_;refine AI Af e3 hm0 cPo AB AB AB AB ?_;exact⟨_,Ns (Q4 _) (.nil 2),AA.out,rfl⟩
 have e3:=GK g2;rw[AG (λh=>h g2)]at hE;have hpe:G3 l x0.grain=0:=by
  apply Cy;intro h
  have:ID l x0.grain=G3 l x0.grain:=AH h
  omega
 have hmn:Gc (l.map (Dq x0.grain))=0:=by
  have:ID l x0.grain=Gc (l.map (Dq x0.grain)):=AG (λh=>h hpe)
  omega
 have hpl:Lc l x0.grain=⟨x0.grain,An l,Ef (l.map (Dq x0.grain))⟩:=by
  unfold Lc;rw[AG (λh=>h hpe),X8 hmn]
  congr 1
  ·rw[FU (l:=l.map (Dq x0.grain)) (x:=Dq x0.grain x0) (by rw[A7,hx0];rfl)];rfl
  ·unfold An;rw[List.map_map];rfl
 obtain⟨m1,m2⟩:=nD (lF hg9 hf) hmn;rw[hpl]at cPo;clear hpl hmn hpe hPN hlt;obtain⟨S,hS⟩:∃S,Ef (l.map (Dq x0.grain))=S:=⟨_,rfl⟩
 rw[hS]at cPo hE hX hL m1 m2;have ws:IntKind.i64.wrap (An l-left)=An l-left:=wI (by omega) (by omega);unfold AF.D at cPo;dsimp only at cPo;unfold CT at cPo;obtain⟨SD,hSD⟩:∃d,List.map Av.D S=d:=⟨_,rfl⟩
 have pSD:AA (.sl false 2 SD):=by rw[<-hSD];exact AJ
 rw[hSD]at cPo
 by_cases hz:An l=left
 ·have e4:((An l-left)==0)=true:=by rw[EA];omega
  rw[AH hz]at hE;rw[hE]at hX hL⊢;rw[AG (λh=>h rfl)]at hX hL;rw[AH hz]at hL;rw[hX,hL];unfold AF.D;dsimp only;unfold CT;rw[hSD];refine AI Af e1 cP cW1 cF0 AB AB AB ?_;refine AI Af e2 cT cW2 cG cF1 AB AB ?_;refine AI Af (At e3 ws e4) hm0 cPo AB AB AB AB ?_;exact⟨_,Ns (.refl _) (.nil 2),AA.out,rfl⟩
 have e4:((An l-left)==0)=false:=by rw[Bq];omega
 rw[AG hz]at hE hL;have cO:=Tv ⟨x0.grain,left,S⟩ (An l-left) (by dsimp only;omega);obtain⟨Y,hY⟩:∃Y:AF,(⟨x0.grain,An l-left,S⟩:AF)=Y:=⟨_,rfl⟩
 rw[hY]at cO hE hL;have hYo:∀x∈[Y],x.okW 602:=λx hx=>by
  rw[List.mem_singleton]at hx;rw[hx,<-hY];exact⟨m1,by unfold Sm;dsimp only;omega,λs hs=>⟨by have:=(m2 s hs).1;omega,(m2 s hs).2.1,(m2 s hs).2.2.1,(m2 s hs).2.2.2⟩⟩
 have cLo:=aD 602 true [Y] (by simp) hYo (by omega) (by simp);have hKY:G5 (λk=>k.length<=1000) (64*[Y].length) (CH [Y]):=R2 λx hx=>by
  rw[List.mem_singleton]at hx;rw[hx,<-hY];exact⟨m1,λs hs=>(m2 s hs).1⟩
 change Ak C0 62 [.sl true 3 [.agg [str (sb Y.grain),i64 Y.mass,.sl false 2 (Y.shs.map Av.D)]]] _ at cLo;change AK C0 63 [.agg [str (sb x0.grain),i64 left,.sl false 2 (S.map Av.D)],i64 (An l-left)] (.agg [str (sb Y.grain),i64 Y.mass,.sl false 2 (Y.shs.map Av.D)])at cO;obtain⟨YS,hYS⟩:∃d,Y.shs.map Av.D=d:=⟨_,rfl⟩
 have pYS:AA (.sl false 2 YS):=by rw[<-hYS];exact AJ
 rw[hSD,hYS]at cO;rw[hYS]at cLo;obtain⟨q,hq⟩:∃q,CH [Y]=q:=⟨_,rfl⟩
 rw[hq]at cLo hKY hE hL;refine AI Af e1 cP cW1 cF0 AB AB AB ?_;refine AI Af e2 cT cW2 cG cF1 AB AB ?_;refine AI Af (At e3 ws e4) hm0 cPo cO AB AB AB ?_;refine BF.prop _ _ (EY.refl _) cLo AJ ?_;rintro d ⟨m,rfl,hQ⟩;have cA:=W7 _ (by simp) q m hQ (BR hKY.len (by simp)) hKY.nd;have pM:AA (mapD m):=⟨hQ.mapD⟩
 unfold JY at cA;obtain⟨M,hM⟩:∃M,mapD m=M:=⟨_,rfl⟩
 rw[hM]at cA pM⊢;rcases Nat.decEq (IB q) 0 with g4|g4
 ·have e5:=GJ g4
  rw[hE]at hX hL⊢;rw[AH g4]at hX hL;rw[hX,hL];refine AI Af e5 cA AB AB AB AB AB ?_;exact⟨_,Ns (Q4 _) (.nil 2),AA.out,rfl⟩
 have e5:=GK g4;rw[hE]at hX hL⊢;rw[AG (λh=>h g4)]at hX hL;rw[hX,hL];unfold AF.D;dsimp only;unfold CT;rw[hSD];refine AI Af e5 cA AB AB AB AB AB ?_;exact⟨_,.refl _,AA.out,by rw[g4];rfl⟩
abbrev QM:Dr:=[(4,[0,1,2,3,4,5,6,7,8],[9])]
open Go.Proofs Go.RowKit Go.Sort
set_option maxRecDepth 20000
set_option maxHeartbeats 4000000
def AF.modr (x:AF):Prop:=(x.shs.length<=15\/64<x.shs.length)/\x.lite
theorem jF (l:List UInt8):BK (sb l) (sb l)=true:=by rw[Et];exact AY rfl
def Cx (l:List AF):Int:=l.foldl (λa x=>IntKind.i64.wrap (a+x.mass)) 0
theorem Sf {l:List AF}{i:Nat}{x:AF}(h:l[i]?=some x):Cx (l.take (i+1))=IntKind.i64.wrap (Cx (l.take i)+x.mass):=by
 unfold Cx;rw[Dh,h];simp
theorem Nw {l:List AF}(hs:H7 l):Cx l=An l:=by
 obtain⟨hl,hm⟩:=hs
 have:∀i,i<=l.length->Cx (l.take i)=An (l.take i):=λi=>by
  induction i with
  |zero=>exact λ_=>rfl
  |succ i ih=>
   intro hi;obtain⟨x,hx⟩:=CG (show i<l.length by omega);have hb:=TD (l:=l.take i) λy hy=>hm y (IT hy)
   have hxm:=hm x (A0 hx);rw[Bf,E4 (by omega)]at hb;rw[Sf hx,ih (by omega),SR hx,wI (by omega) (by omega)]
 have:=this l.length (Ai _)
 rwa [C8]at this
theorem sk (b:Bool)(l:List AF)(hl:l.length<=9223372036854775807):AK C0 19 [Ae b l] (i64 (Cx l)):=by
 refine Ak.walk w1 ub rfl λF=>?_
 have el:(((l.map AF.D).length:Nat):Int)=(l.length:Int):=by rw[Am]
 refine AI Af el AB AB AB AB AB AB ?_;refine AC.loop (α:=Nat×Nat) (λp=>⟨[(0,Ae b l),(3,i64 (Cx (l.take p.1))),(4,i64 (p.1:Int))],[],p.2⟩) (λp=>l.length-p.1) (λp=>p.1<=l.length) (0,_) (BU _) AL ?_;rintro⟨i,m⟩ F hi;dsimp only at hi⊢;rcases BG i l.length with h2|h2
 rotate_left
 ·have e1:=CW h2
  have:i=l.length:=by omega
  subst this;rw[C8];refine AI Af (Ac e1 el) AB AB AB AB AB AB ?_;exact AN rfl AA.out
 have e1:=CX h2;have wi:=CY (i:=i) (by omega);obtain⟨x,hx⟩:=CG h2;have hm:(l.map AF.D)[i]?=some (.agg [str (sb x.grain),i64 x.mass,.sl false 2 (x.shs.map Av.D)]):=by rw[A7,hx];rfl
 have ws:=(Sf hx).symm;refine AI Af (CM e1 el wi ws kN) hm AB AB AB AB AB ?_;exact⟨(i+1,_),h2,by dsimp only;omega,AL⟩
theorem Ub (b:Bool)(l:List AF)(hs:H7 l):AK C0 19 [Ae b l] (i64 (An l)):=by
 have h:=sk b l (by have:=hs.1;omega)
 rwa [Nw hs]at h
theorem Ya (b:Bool)(l:List AF)(hl:l.length<=1000000):AK C0 20 [Ae b l] (As (CJ l)):=by
 refine Ak.walk w1 uc rfl λF=>?_
 have el:(((l.map AF.D).length:Nat):Int)=(l.length:Int):=by rw[Am]
 refine AI QM el AB AB AB AB AB AB ?_;refine AC.loop (α:=Nat×Nat) (λp=>⟨[(0,Ae b l),(3,i64 (p.1:Int))],[],p.2⟩) (λp=>l.length-p.1)
  (λp=>1<=p.1/\(p.1<=l.length\/p.1=1)/\∀x∈l.take p.1,BK (sb x.grain) (sb (CP l 0).grain)=true) (1,_) ⟨Ai _,.inr rfl,λx h=>by
   rcases l with _|⟨y,l⟩
   ·simp at h
   ·have:x=y:=by simpa using h
    rw[this];exact jF _⟩ AL ?_
 rintro⟨i,m⟩ F ⟨hi1,hi,hs⟩;dsimp only at hi1 hi hs⊢;rcases BG i l.length with h2|h2
 rotate_left
 ·have e1:=CW h2
  have hg:CJ l=true:=by
   unfold CJ;rw[CQ];intro x hx;rw[B9 h2]at hs;exact hs x hx
  rw[hg];refine AI QM (Ac e1 el) AB AB AB AB AB AB ?_;exact AN rfl AA.out
 have e1:=CX h2;have wi:=CY (i:=i) (by omega);obtain⟨x,hx⟩:=CG h2;have hm:(l.map AF.D)[i]?=some (.agg [str (sb x.grain),i64 x.mass,.sl false 2 (x.shs.map Av.D)]):=by rw[A7,hx];rfl
 obtain⟨x0,hx0⟩:∃x,l[0]?=some x:=⟨_,BI (by omega)⟩
 have hm0:(l.map AF.D)[0]?=some (.agg [str (sb x0.grain),i64 x0.mass,.sl false 2 (x0.shs.map Av.D)]):=by rw[A7,hx0];rfl
 have hv0:=FU hx0;obtain⟨bG,hbG⟩:∃q,BK (sb x.grain) (sb x0.grain)=q:=⟨_,rfl⟩
 cases bG
 ·have hg:CJ l=false:=by
   unfold CJ;rw[List.all_eq_false];exact⟨x,A0 hx,by rw[hv0,hbG];decide⟩
  rw[hg];refine AI QM (BW e1 el hbG kN) hm hm0 AB AB AB AB ?_;exact AN rfl AA.out
 ·refine AI QM (CM e1 el hbG wi kN) hm hm0 AB AB AB AB ?_
  exact⟨(i+1,_),⟨by dsimp only;omega,.inl h2,λy hy=>by
   dsimp only at hy;rw[Dh,hx]at hy;rcases List.mem_append.1 hy with q|q
   ·exact hs y q
   ·have:y=x:=by simpa using q
    rw[this,hv0];exact hbG⟩,by dsimp only;omega,AL⟩
theorem cz (b:Bool)(l:List AF)(hl:l.length<=1000000)(hf:∀x∈l,x.modr):AK C0 14 [Ae b l] (i64 (Bx l:Nat)):=by
 refine Ak.walk w1 ua rfl λF=>?_
 have el:(((l.map AF.D).length:Nat):Int)=(l.length:Int):=by rw[Am]
 have hC:Bx l=if 64<l.length then 5 else if Df (λi=>Ci (CP l i)) l.length≠0 then Df (λi=>Ci (CP l i)) l.length else if An l>999999999 then 4 else 0:=rfl
 by_cases h64:64<l.length
 ·rw[AH h64]at hC
  rw[hC];have q2:decide ((l.length:Int)>64)=true:=AY (by omega);refine AI Af (Ac el q2) AB AB AB AB AB AB ?_;exact AN rfl AA.out
 rw[AG h64]at hC;have q2:decide ((l.length:Int)>64)=false:=Ah (by omega);refine AI Af (Ac el q2) AB AB AB AB AB AB ?_;refine AC.loop (α:=Nat×Nat) (λp=>⟨[(0,Ae b l),(3,i64 (p.1:Int))],[],p.2⟩) (λp=>l.length-p.1) (λp=>p.1<=l.length/\∀j,j<p.1->Ci (CP l j)=0) (0,_) ⟨BU _,λj h=>AZ h (GP j)⟩ AL ?_;rintro⟨i,m⟩ F ⟨hi,hz⟩;dsimp only at hi hz⊢;rcases BG i l.length with h2|h2
 rotate_left
 ·have e1:=CW h2
  have:i=l.length:=by omega
  subst this;rw[AG (λh=>h (ME (f:=λi=>Ci (CP l i)) hz))]at hC;have cT:=Ub b l (SE h64 hz)
  by_cases h9:An l>999999999
  ·have e9:decide (An l>999999999)=true:=AY h9
   rw[AH h9]at hC;rw[hC];refine AI Af (At e1 el e9) cT AB AB AB AB AB ?_;exact AN rfl AA.out
  ·have e9:decide (An l>999999999)=false:=Ah h9
   rw[AG h9]at hC;rw[hC];refine AI Af (At e1 el e9) cT AB AB AB AB AB ?_;exact AN rfl AA.out
 have e1:=CX h2;have wi:=CY (i:=i) (by omega);obtain⟨x,hx⟩:=CG h2;have hm:(l.map AF.D)[i]?=some (.agg [str (sb x.grain),i64 x.mass,.sl false 2 (x.shs.map Av.D)]):=by rw[A7,hx];rfl
 have hxm:=hf x (A0 hx);have cL:=vp x hxm.1 hxm.2.1;unfold AF.D at cL;rcases Nat.decEq (Ci x) 0 with hc0|hc0
 ·have e3:=GJ hc0
  have:=N8 (f:=λi=>Ci (CP l i)) hz h2 (by rw[FU hx];exact hc0)
  rw[FU hx]at this;rw[this,AH hc0]at hC;rw[hC];refine AI Af (BW e1 el e3 kN) hm cL AB AB AB AB ?_;exact AN rfl AA.out
 have e3:=GK hc0;refine AI Af (CM e1 el e3 wi kN) hm cL AB AB AB AB ?_;exact⟨(i+1,_),⟨h2,λj hj=>by
  rcases Nat.lt_succ_iff_lt_or_eq.1 hj with q|q
  ·exact hz j q
  ·rw[q,FU hx];exact hc0⟩,by dsimp only;omega,AL⟩
def G1 (x:AF):By:=x.shs.map λs=>(s.lot,CR s.part*(x.mass:Rat))
theorem Wi {x:AF}(hn:(x.shs.map (·.lot)).Nodup):∀j,j<=x.shs.length->GD x j []=(G1 x).take j
 | 0,_=>rfl
 |j+1,hj=>by
  obtain⟨s,hs⟩:∃s,x.shs[j]?=some s:=⟨_,BI hj⟩
  rw[NY x j [] hs,Wi hn j (by omega)];have hm:(G1 x)[j]?=some (s.lot,CR s.part*(x.mass:Rat)):=by unfold G1;rw[A7,hs];rfl
  have hnot:s.lot∉Co ((G1 x).take j):=λh=>by
   obtain⟨z,hz,h2⟩:=List.mem_map.1 h;obtain⟨i,hi⟩:=List.mem_iff_getElem?.1 hz;have hij:i<j:=by
    have:=(List.getElem?_eq_some_iff.1 hi).1
    rw[Bf]at this;omega
   rw[Ej,AH hij]at hi;unfold G1 at hi;rw[A7]at hi;obtain⟨t,ht,rfl⟩:=Option.map_eq_some_iff.1 hi;have e1:(x.shs.map (·.lot))[i]?=some t.lot:=by rw[A7,ht];rfl
   have e2:(x.shs.map (·.lot))[j]?=some s.lot:=by rw[A7,hs];rfl
   have a1:=List.getElem?_eq_some_iff.1 e1;have a2:=List.getElem?_eq_some_iff.1 e2
   have:i=j:=(List.getElem_inj (h₀:=a1.1) (h₁:=a2.1) hn).1 (by rw[a1.2,a2.2];exact h2)
   omega
  have hl:Fo s.lot ((G1 x).take j)=none:=by
   cases h9:Fo s.lot ((G1 x).take j)with
   |none=>rfl
   |some o=>
    obtain⟨A,B,h3,-⟩:=Pr (v:=o) h9;exact AZ (by rw[h3];simp[Co]) hnot
  unfold Ji;rw[hl];dsimp only;rw[(SK (v:=CR s.part*(x.mass:Rat)) hl).2,Dh,hm];rfl
theorem iT {x:AF}(hn:(x.shs.map (·.lot)).Nodup):CH [x]=G1 x:=by
 show GD x x.shs.length []=_;rw[Wi hn _ (Ai _),B9];unfold G1;rw[Am];exact Ai _
theorem ni {q:By}(h:Gp q):FK q=q:=(Rz h.nd (.refl _) (J7 _) h.weak (QS _)).symm
theorem nE (l:List AF):(Ef l).Pairwise λa b=>ltStr a.lot b.lot=true:=by
 unfold Ef;rw[List.pairwise_map,<-W2];exact kC l
theorem S3 (l:List AF)(left:Int):CH [Fp l left]=G1 (Fp l left)/\FK (CH [Fp l left])=G1 (Fp l left):=by
 have hp:(Fp l left).shs.Pairwise λa b=>ltStr a.lot b.lot=true:=nE _
 have h1:=iT (x:=Fp l left) (by
  rw[List.Nodup,List.pairwise_map];exact hp.imp λ{a b} h e=>by rw[e,swo_ltStr.irrefl]at h;cases h)
 refine⟨h1,?_⟩;rw[h1];refine ni ?_;unfold G1;show List.Pairwise _ _;rw[List.pairwise_map];exact hp
theorem ar (b:Bool)(l:List AF)(hl:l.length<=9223372036854775807)(hs:∀x∈l,x.shs.length<=9223372036854775807):AK C0 9 [Ae b l] (As (F8 l)):=by
 refine Ak.walk w1 wX rfl λF=>?_
 have el:(((l.map AF.D).length:Nat):Int)=(l.length:Int):=by rw[Am]
 refine AI Af el AB AB AB AB AB AB ?_;refine AC.loop (α:=Nat×Nat) (λp=>⟨[(0,Ae b l),(7,Ae b l),(8,i64 (l.length:Int)),(9,i64 (p.1:Int))],[],p.2⟩) (λp=>l.length-p.1) (λq=>q.1<=l.length/\(l.take q.1).all AF.shB=true) (0,_) ⟨BU _,rfl⟩ AL ?_;rintro⟨i,n⟩ F ⟨hi,ha⟩;dsimp only at hi ha⊢;rcases BG i l.length with h2|h2
 rotate_left
 ·have e1:=CW h2
  have:i=l.length:=by omega
  subst this;rw[C8]at ha;obtain⟨q1,h1⟩:∃q,decide ((l.length:Int)<=8)=q:=⟨_,rfl⟩
  obtain⟨q2,h2'⟩:∃q,decide ((l.length:Int)>64)=q:=⟨_,rfl⟩
  obtain⟨q3,h3⟩:∃q,decide ((l.length:Int)<=80)=q:=⟨_,rfl⟩
  have hb:F8 l=(q1||(q2&&q3)):=by
   unfold F8;rw[ha,<-h1,<-h2',<-h3,Hj]
   congr 1
   ·exact Cz.2 (by omega)
   ·congr 1
    ·exact Cz.2 (by omega)
    ·exact Cz.2 (by omega)
  rw[hb];cases q1<;>cases q2<;>cases q3
  all_goals
   refine AI Af (CF e1 el h1 h2' h3 kT kF) AB AB AB AB AB AB ?_;exact AN rfl AA.out
 have e1:=CX h2;have wi:=CY (i:=i) (by omega);obtain⟨x,hx⟩:=CG h2;have hm:(l.map AF.D)[i]?=some (.agg [str (sb x.grain),i64 x.mass,.sl false 2 (x.shs.map Av.D)]):=by rw[A7,hx];rfl
 have hsx:=hs x (A0 hx);have ex:(((x.shs.map Av.D).length:Nat):Int)=(x.shs.length:Int):=by rw[Am]
 have hsz:=Ce x.grain;obtain⟨p1,h1⟩:∃q,decide ((x.grain.length:Int)>100)=q:=⟨_,rfl⟩
 obtain⟨p2,h2'⟩:∃q,decide ((x.shs.length:Int)>8)=q:=⟨_,rfl⟩
 obtain⟨p3,h3⟩:∃q,decide ((x.shs.length:Int)<=64)=q:=⟨_,rfl⟩
 obtain⟨p4,h4⟩:∃q,decide ((x.shs.length:Int)>80)=q:=⟨_,rfl⟩
 have hb:x.shB=(!p1&&(!p2 || !p3) && !p4&&x.shs.all Av.shB):=by
  unfold AF.shB;rw[<-h1,<-h2',<-h3,<-h4]
  congr 1
  congr 1
  ·congr 1
   ·rw[<-decide_not];exact Cz.2 (by omega)
   ·congr 1
    ·rw[<-decide_not];exact Cz.2 (by omega)
    ·rw[<-decide_not];exact Cz.2 (by omega)
  ·rw[<-decide_not];exact Cz.2 (by omega)
 by_cases g:(!p1&&(!p2 || !p3) && !p4)=true
 rotate_left
 ·have hbf:x.shB=false:=by rw[hb];simp only[Bool.not_eq_true]at g;rw[g];rfl
  have hsf:F8 l=false:=by unfold F8;rw[S0 hx hbf];rfl
  rw[hsf];cases p1<;>cases p2<;>cases p3<;>cases p4
  all_goals first
   |exact AZ rfl g
   |skip
  all_goals
   refine AI Af (CF e1 hsz ex h1 h2' h3 (BW h4 kN kT kF)) hm AB AB AB AB AB ?_;exact AN rfl AA.out
 rw[g,Hj]at hb;cases p1<;>cases p2<;>cases p3<;>cases p4
 all_goals first
  |exact AZ g (by decide)
  |skip
 all_goals
  refine AI Af (CF e1 hsz ex h1 h2' h3 (BW h4 kN kT kF)) hm AB AB AB AB AB ?_;refine AC.loop (α:=Nat×Nat) (λp=>⟨[(0,Ae b l),(7,Ae b l),(8,i64 (l.length:Int)),(9,i64 (i:Int)),(36,.sl false 2 (x.shs.map Av.D)),(37,i64 (x.shs.length:Int)),(38,i64 (p.1:Int))],[],p.2⟩) (λp=>x.shs.length-p.1) (λq=>q.1<=x.shs.length/\(x.shs.take q.1).all Av.shB=true) (0,_) ⟨BU _,rfl⟩ AL ?_;clear h1 h2' h3 h4 g;rintro⟨j,n⟩ F ⟨hj,haj⟩;dsimp only at hj haj⊢;rcases BG j x.shs.length with g2|g2
  ·have e3:=CX g2
   have wj:=CY (i:=j) (by omega);obtain⟨y,hy⟩:=CG g2;have hmy:(x.shs.map Av.D)[j]?=some (.agg [str (sb y.lot),str (sb y.part)]):=by rw[A7,hy];rfl
   have hs1:=Ce y.lot;have hs2:=Ce y.part;obtain⟨r1,k1⟩:∃q,decide ((y.lot.length:Int)>100)=q:=⟨_,rfl⟩
   obtain⟨r2,k2⟩:∃q,decide ((y.part.length:Int)>14)=q:=⟨_,rfl⟩
   have hby:y.shB=(!r1 && !r2):=by
    unfold Av.shB;rw[<-k1,<-k2]
    congr 1
    ·rw[<-decide_not];exact Cz.2 (by omega)
    ·rw[<-decide_not];exact Cz.2 (by omega)
   have fin:y.shB=false->F8 l=false:=λh=>by
    have:x.shB=false:=by rw[hb,S0 hy h]
    unfold F8;rw[S0 hx this];rfl
   cases r1
   ·cases r2
    ·refine AI Af (CF e3 wj hs1 hs2 k1 k2 (At kN kT kF)) hmy AB AB AB AB AB ?_
     exact⟨(j+1,_),⟨g2,XA hy haj hby⟩,by dsimp only;omega,AL⟩
    ·rw[fin hby]
     refine AI Af (CF e3 wj hs1 hs2 k1 k2 (At kN kT kF)) hmy AB AB AB AB AB ?_;exact AN rfl AA.out
   ·rw[fin hby]
    refine AI Af (CF e3 wj hs1 hs2 k1 kN (Ac kT kF)) hmy AB AB AB AB AB ?_;exact AN rfl AA.out
  ·have e3:=CW g2
   have:j=x.shs.length:=by omega
   subst this;rw[C8]at haj;refine AI Af (Ac e3 wi) AB AB AB AB AB AB ?_;exact⟨(i+1,_),⟨h2,XA hx ha (hb.trans haj)⟩,by dsimp only;omega,AL⟩
theorem YR {l:List AF}(h:F8 l=true):(∀x∈l,x.lite/\x.modr)/\l.length<=80/\(l.length<=8\/64<l.length):=by
 unfold F8 at h;simp only[Ba,L1,CQ,Gk]at h;obtain⟨h1,h2⟩:=h;refine⟨λx hx=>?_,by omega,by omega⟩;have hb:=h1 x hx;unfold AF.shB at hb;simp only[Ba,L1,CQ,Gk]at hb;obtain⟨⟨⟨b1,b2⟩,b3⟩,b4⟩:=hb;have hs:∀s∈x.shs,s.lot.length<=100/\s.part.length<=14:=λs hs=>by
  have:=b4 s hs
  unfold Av.shB at this;simpa using this
 have hl:x.lite:=⟨⟨by omega,by omega,λs q=>⟨by have:=(hs s q).1;omega,by have:=(hs s q).2;omega⟩⟩,λs q=>⟨by have:=(hs s q).1;omega,by have:=(hs s q).2;omega⟩⟩
 exact⟨hl,by omega,hl⟩
theorem Fk {l:List AF}(h:Bx l=0):l.length<=64/\(∀x∈l,1<=x.mass/\x.mass<=1000000000/\x.shs.length<=1000000)/\H7 l:=by
 obtain⟨g1,g2,g3⟩:=KS h;have hx:∀x∈l,1<=x.mass/\x.mass<=1000000000/\x.shs.length<=1000000:=λx q=>by
  obtain⟨a,b,c,d⟩:=Nt (g2 x q)
  have:=(WH d).2.1
  exact⟨by omega,by omega,by omega⟩
 exact⟨g1,hx,by omega,λx q=>by have:=hx x q;omega⟩
abbrev QO:Dr:=[(4,[0,1,2,3,4,5,6,7,8,9,10,11,12,13,14],[15,16])]
open Go.Proofs Go.RowKit Go.Sort
set_option maxRecDepth 20000
set_option maxHeartbeats 4000000
structure BT where
 flow:List UInt8
 core:Int
 room:Int
 side:Int
 cells:List (List AF)
abbrev EN (b:Bool)(cs:List (List AF)):D:=.sl b 1 (cs.map (Ae false))
def BT.D (x:BT):D:=.agg [str (sb x.flow),i64 x.core,i64 x.room,i64 x.side,EN false x.cells]
instance  (x:BT):AW x.D:=by unfold BT.D;exact AJ
instance  (x:BT):AA x.D:=by unfold BT.D;exact AJ
theorem UN (b:Bool)(l:List AF)(hl:l.length<=9223372036854775807):AK C0 59 [Ae b l] (i64 (Cx l)):=by
 refine Ak.walk w1 UJ rfl λF=>?_
 have el:(((l.map AF.D).length:Nat):Int)=(l.length:Int):=by rw[Am]
 refine AI Af el AB AB AB AB AB AB ?_;refine AC.loop (α:=Nat×Nat) (λp=>⟨[(3,i64 (Cx (l.take p.1))),(6,Ae b l),(7,i64 (l.length:Int)),(8,i64 (p.1:Int))],[],p.2⟩) (λp=>l.length-p.1) (λp=>p.1<=l.length) (0,_) (BU _) AL ?_;rintro⟨i,m⟩ F hi;dsimp only at hi⊢;rcases BG i l.length with h2|h2
 rotate_left
 ·have e1:=CW h2
  have:i=l.length:=by omega
  subst this;rw[C8];refine AI Af e1 AB AB AB AB AB AB ?_;exact AN rfl AA.out
 have e1:=CX h2;have wi:=CY (i:=i) (by omega);obtain⟨x,hx⟩:=CG h2;have hm:(l.map AF.D)[i]?=some (.agg [str (sb x.grain),i64 x.mass,.sl false 2 (x.shs.map Av.D)]):=by rw[A7,hx];rfl
 have wS:=(Sf hx).symm;refine AI Af (BW e1 wi @wS kN) hm AB AB AB AB AB ?_;exact⟨(i+1,_),h2,by dsimp only;omega,AL⟩
def Dx (n lo hi:Int):Bool:=decide (n>=lo)&&decide (n<=hi)
theorem N0 (n lo hi:Int):AK C0 82 [i64 n,i64 lo,i64 hi] (As (Dx n lo hi)):=by
 refine Ak.walk w1 b7 rfl λF=>?_
 obtain⟨p,hp⟩:∃p,decide (n>=lo)=p:=⟨_,rfl⟩
 have hb:Dx n lo hi=(p&&decide (n<=hi)):=by unfold Dx;rw[hp]
 rw[hb];cases p
 ·refine AI Af (At hp kT kF) AB AB AB AB AB AB ?_
  exact AN rfl AA.out
 ·refine AI Af (At hp kT kF) AB AB AB AB AB AB ?_
  exact AN rfl AA.out
def FZ (side:Int)(l:List Int):Bool:=(List.range (l.length-1)).any λi=>!Dx (IntKind.i64.wrap (l.getD (i+1) 0-l.getD i 0)) (IntKind.i64.wrap (0-side)) side
theorem aM {side:Int}{l:List Int}{i:Nat}(h:i+1<l.length)(hb:Dx (IntKind.i64.wrap (l.getD (i+1) 0-l.getD i 0)) (IntKind.i64.wrap (0-side)) side=false):FZ side l=true:=by
 unfold FZ;rw[List.any_eq_true];exact⟨i,List.mem_range.2 (by omega),by rw[hb];rfl⟩
theorem aN {side:Int}{l:List Int}(h:∀i,i+1<l.length->Dx (IntKind.i64.wrap (l.getD (i+1) 0-l.getD i 0)) (IntKind.i64.wrap (0-side)) side=true):FZ side l=false:=by
 unfold FZ;rw[List.any_eq_false];intro i hi
 have:=List.mem_range.1 hi
 rw[h i (by omega)];decide
theorem Yp (x:BT)(b:Bool)(l:List Int)(hl:l.length<=1000000):AK C0 83 [x.D,.sl b 1 (CN l)] (i64 (if FZ x.side l then 17 else 0)):=by
 refine Ak.walk w1 b8 rfl λF=>?_
 have el:((CN l).length:Int)=(l.length:Int):=by rw[Am]
 have elN:(CN l).length=l.length:=Am ..;unfold BT.D;obtain⟨cd,hcd⟩:∃d,EN false x.cells=d:=⟨_,rfl⟩
 have pcd:AA cd:=by rw[<-hcd];exact AJ
 have ncd:JR cd=true:=by rw[<-hcd];rfl
 rw[hcd];refine AI QO el AB AB AB AB AB AB ?_;refine AC.loop (α:=Nat×Nat) (λp=>⟨[(1,.sl b 1 (CN l)),(2,.optr 0 0 5 0 0),(5,i64 ((p.1+1:Nat):Int))],[⟨0,0,48,5,[.agg [str (sb x.flow),i64 x.core,i64 x.room,i64 x.side,cd]]⟩],p.2⟩) (λp=>l.length-p.1) (λp=>p.1<=l.length/\∀j,j<p.1->Dx (IntKind.i64.wrap (l.getD (j+1) 0-l.getD j 0)) (IntKind.i64.wrap (0-x.side)) x.side=true) (0,_) ⟨BU _,λj h=>AZ h (GP j)⟩ AL ?_;rintro⟨i,m⟩ F ⟨hi,ha⟩;dsimp only at hi ha⊢;rcases BG (i+1) l.length with h2|h2
 rotate_left
 ·have e1:=CW h2
  rw[aN λj hj=>ha j (by omega)];refine AI QO (Ac el e1) AB AB AB AB AB AB ?_;exact AN rfl AA.out
 have e1:=CX h2;have wi:=CY (i:=i+1) (by omega);have w2:IntKind.i64.wrap (((i+1:Nat):Int)-1)=((i:Nat):Int):=by rw[wI (by omega) (by omega)];omega
 have hm1:=OU (l:=l) (i:=i+1) h2;have hm2:=OU (l:=l) (i:=i) (by omega);have cW:=N0 (IntKind.i64.wrap (l.getD (i+1) 0-l.getD i 0)) (IntKind.i64.wrap (0-x.side)) x.side;have hbad:=aM (side:=x.side) h2;obtain⟨u,hu⟩:∃u,l.getD (i+1) 0=u:=⟨_,rfl⟩
 obtain⟨v,hv⟩:∃u,l.getD i 0=u:=⟨_,rfl⟩
 have hgood:=λ(hq:Dx (IntKind.i64.wrap (u-v)) (IntKind.i64.wrap (0-x.side)) x.side=true) (j:Nat) (hj:j<i+1)=>show Dx (IntKind.i64.wrap (l.getD (j+1) 0-l.getD j 0)) (IntKind.i64.wrap (0-x.side)) x.side=true from by
  rcases BG j i with h|h
  ·exact ha j h
  ·have:j=i:=by omega
   subst this;rw[hu,hv];exact hq
 rw[hu]at hm1 cW hbad;rw[hv]at hm2 cW hbad;obtain⟨q,hq⟩:∃q,Dx (IntKind.i64.wrap (u-v)) (IntKind.i64.wrap (0-x.side)) x.side=q:=⟨_,rfl⟩
 rw[hq]at cW hbad hgood;obtain⟨L,hL⟩:∃L,CN l=L:=⟨_,rfl⟩
 have pL:AA (.sl b 1 L):=by rw[<-hL];exact AJ
 rw[hL]at hm1 hm2 el⊢;cases q
 ·rw[hbad rfl]
  refine AI QO (CM el e1 w2 wi kN) hm1 hm2 cW AB AB AB ?_;exact AN rfl AA.out
 ·refine AI QO (CM el e1 w2 wi kN) hm1 hm2 cW AB AB AB ?_
  exact⟨(i+1,_),⟨by omega,hgood rfl⟩,by dsimp only;omega,AL⟩
def De (x:BT):List Int:=x.cells.map Cx
theorem Xs (x:BT)(hl:x.cells.length<=1000000)(hc:∀c∈x.cells,c.length<=9223372036854775807):AK C0 75 [x.D] (.sl false 1 (CN (De x))):=by
 refine Ak.walk w1 UL rfl λF=>?_
 obtain⟨cs,hcs⟩:∃c,x.cells=c:=⟨_,rfl⟩
 have hlv:De x=cs.map Cx:=by unfold De;rw[hcs]
 rw[hlv];rw[hcs]at hl hc;have el:(((cs.map (Ae false)).length:Nat):Int)=(cs.length:Int):=by rw[Am]
 unfold BT.D;rw[hcs];refine sR 0 ?_;refine sR 100 ?_;refine AC.seq ?_;refine sZ 200 ?_;refine AV el ?_;refine AC.ghost 504 3 1 [(3,.osl 504 _ 1 0 0),(7,EN false cs),(8,i64 (cs.length:Int)),(9,i64 ((0:Nat):Int))] ⟨.inr ⟨rfl,rfl⟩,.inl rfl,.inl rfl,.inl rfl,trivial⟩ ?_;refine AC.block ?_;refine AC.loop (α:=Nat×Nat×Nat) (λp=>⟨[(3,.osl 504 p.2.1 1 0 p.1),(7,EN false cs),(8,i64 (cs.length:Int)),(9,i64 (p.1:Int))],[⟨504,p.2.1,3,1,CN ((cs.take p.1).map Cx)⟩],p.2.2⟩) (λp=>cs.length-p.1) (λq=>q.1<=cs.length) (0,_,_) (BU _) AL ?_;rintro⟨i,g,n⟩ F hi;dsimp only at hi⊢;rcases BG i cs.length with h2|h2
 rotate_left
 ·have e1:=CW h2
  have:i=cs.length:=by omega
  subst this;rw[C8];have hf:=FQ (H:=[⟨504,g,3,1,CN (cs.map Cx)⟩]) (Hf:=[]) (k:=504) (g:=g) (T:=3) (sz:=1) (l:=CN (cs.map Cx)) rfl;rw[Am,Am]at hf;refine AI Af e1 AB AB AB AB AB AB ?_;exact⟨_,hf,AA.out,rfl⟩
 have e1:=CX h2;have wi:=CY (i:=i) (by omega);obtain⟨c,hc'⟩:=CG h2;have hm:(cs.map (Ae false))[i]?=some (.sl false 3 (c.map AF.D)):=by rw[A7,hc'];rfl
 have cT:=UN false c (hc c (A0 hc'));have ht:CN ((cs.take (i+1)).map Cx)=CN ((cs.take i).map Cx)++[i64 (Cx c)]:=by
  rw[Dh,hc',Cv];unfold CN;rw[Cv];rfl
 have htl:(CN ((cs.take i).map Cx)).length=i:=by rw[Am,Am,Bf];omega
 obtain⟨R,hR⟩:∃R,CN ((cs.take i).map Cx)=R:=⟨_,rfl⟩
 rw[hR]at ht htl⊢;refine AI Af (At e1 wi kN) hm cT AB AB AB AB ?_;refine⟨(i+1,n+1+1+1+1+1+1+1+1,n+1000),h2,by dsimp only;omega,?_⟩;dsimp only;rw[ht,B9 (show R.length<=i by omega)];exact AL
open Go.ChangeShapes Go.WideShapes
def BT.fit (x:BT):Prop:=x.cells.length<=maxLen/\∀c∈x.cells,c.length<=maxLen/\∀y∈c,y.shs.length<=maxLen
section
variable {H:Type} {enc:TypeId×Value->H} {W:World} {fuel:Nat} {cs:List Value} {x:DataW H×List MemPlace} {t:TypeId}
theorem ky (h:DataW.trod enc Tryz.prog W 0 (λ_=>true) true fuel 46 cs=some x):∃l:List (List AF),DU W cs [EN false l]/\(∀c∈l,c.length<=maxLen/\∀y∈c,y.shs.length<=maxLen)/\l.length<=maxLen:=
 UT (g:=Ae false) (ok:=λc=>c.length<=maxLen/\∀y∈c,y.shs.length<=maxLen) (e:=22) (sz:=1) (by kernel_rfl) (by kernel_rfl) (by decide) (λ_ _ _ h=>by
  obtain⟨l,h1,h2,h3⟩:=Wt h;exact⟨l,h1,h3,h2⟩) h
theorem s8 (h:DataW.trod enc Tryz.prog W 0 (λ_=>true) true fuel 48 cs=some x):∃s:BT,DU W cs s.D.cells/\s.fit:=by
 obtain⟨h1,n,h2⟩:=UU (l:=[(9,0,1),(3,1,1),(3,2,1),(3,3,1),(46,4,1)]) (m:=5) (by kernel_rfl) (by kernel_rfl) h;obtain⟨y0,k0⟩:=h2 0 _ _ _ rfl;obtain⟨y1,k1⟩:=h2 1 _ _ _ rfl;obtain⟨y2,k2⟩:=h2 2 _ _ _ rfl;obtain⟨y3,k3⟩:=h2 3 _ _ _ rfl;obtain⟨y4,k4⟩:=h2 4 _ _ _ rfl;obtain⟨a0,r0,_⟩:=SH k0;obtain⟨a1,r1⟩:=Qr k1;obtain⟨a2,r2⟩:=Qr k2;obtain⟨a3,r3⟩:=Qr k3;obtain⟨a4,r4,hc,hl⟩:=ky k4;exact⟨⟨a0,a1,a2,a3,a4⟩,T7 h1 (LT (b:=1) (c:=4) r0 (LT (b:=1) (c:=3) r1 (LT (b:=1) (c:=2) r2 (LT (b:=1) (c:=1) r3 r4)))),hl,hc⟩
end
abbrev LO:Dr:=[(2,[0,1,2,3,4,5,6,7,8,9,10,11,12,13,14,15,16,17,18,19,20,21,22,23,24,25,26,27,28,29,30,31,32],[33,34,35,36]),(8,[0,1,2,3,4,5,6,7],[8,9,10,11,12]),(12,[0,1,2],[3,4])]
open Go.Proofs Go.RowKit Go.Sort
set_option maxRecDepth 20000
set_option maxHeartbeats 4000000
def Ja:ByteArray:=⟨#[109,97,115,115]⟩
def JM:ByteArray:=⟨#[102,117,110,110,101,108]⟩
def UF (x:BT):Bool:=(BK (sb x.flow) Ja&&(x.core==0))||(BK (sb x.flow) JM&&Dx x.core 2 999999999)
def M7 (x:BT):Int:=if !BK (sb x.flow) Ja && !BK (sb x.flow) JM then 20 else 0
def Lu (x:BT):Int:=if !UF x || !Dx x.room 1 999999999 || !Dx x.side 0 999999999 then 3 else 0
def IV (x:BT):Int:=DP [M7 x,Lu x,if(x.cells.length:Int)==0 then 2 else 0,if decide ((x.cells.length:Int)>8)then 5 else 0]
def Eh (x:BT)(c:List AF):Int:=DP [(Bx c:Int),((if CJ c then 0 else 16:Nat):Int),if decide (Cx c>x.room)then 14 else 0]
def Es (x:BT):List (List AF)->Int
 | []=>0
 |c::r=>if Eh x c≠0 then Eh x c else Es x r
def Eg (x:BT):Int:=if IV x≠0 then IV x else if Es x x.cells≠0 then Es x x.cells else if FZ x.side (De x)then 17 else 0
theorem o7 (x:BT)(hl:x.cells.length<=1000000)(hc:∀c∈x.cells,c.length<=1000000/\∀y∈c,y.few):AK C0 32 [x.D] (i64 (Eg x)):=by
 refine Ak.walk w1 bi rfl λF=>?_
 have cLv:=Xs x hl λc h=>by have:=(hc c h).1;omega
 have cSt:=Yp x false (De x) (by unfold De;rw[Am];exact hl);have cC1:=N0 x.core 2 999999999;have cC2:=N0 x.room 1 999999999;have cC3:=N0 x.side 0 999999999;have cF:=KP [M7 x,Lu x,if(x.cells.length:Int)==0 then 2 else 0,if decide ((x.cells.length:Int)>8)then 5 else 0] (by simp);have hF:DP [M7 x,Lu x,if(x.cells.length:Int)==0 then 2 else 0,if decide ((x.cells.length:Int)>8)then 5 else 0]=IV x:=rfl;rw[hF]at cF;have cW3:=GY ((x.cells.length:Int)==0) 2;have cW4:=GY (decide ((x.cells.length:Int)>8)) 5;obtain⟨cs,hcs⟩:∃c,x.cells=c:=⟨_,rfl⟩
 have el:(((cs.map (Ae false)).length:Nat):Int)=(cs.length:Int):=by rw[Am]
 obtain⟨H,hH⟩:∃h,IV x=h:=⟨_,rfl⟩
 have hB:Eg x=if H≠0 then H else if Es x x.cells≠0 then Es x x.cells else if FZ x.side (De x)then 17 else 0:=by unfold Eg;rw[hH]
 obtain⟨K1,hK1⟩:∃h,M7 x=h:=⟨_,rfl⟩
 obtain⟨K2,hK2⟩:∃h,Lu x=h:=⟨_,rfl⟩
 obtain⟨CB,hCB⟩:∃h,UF x=h:=⟨_,rfl⟩
 rw[hK1,hK2,hH]at cF;rw[hB];rw[hcs]at cF cW3 cW4 hl hc⊢;unfold BT.D at cLv cSt⊢;rw[hcs]at cLv cSt⊢;refine sR 0 ?_;refine Dg ⟨[(1,.optr 0 0 5 0 0),(3,As CB)],[⟨0,0,48,5,[.agg [str (sb x.flow),i64 x.core,i64 x.room,i64 x.side,EN false cs]]⟩],100⟩ ?_ ?_
 ·obtain⟨p1,h1⟩:∃q,BK (sb x.flow) ⟨#[109,97,115,115]⟩=q:=⟨_,rfl⟩
  obtain⟨p2,h2⟩:∃q,BK (sb x.flow) ⟨#[102,117,110,110,101,108]⟩=q:=⟨_,rfl⟩
  obtain⟨c0,h0⟩:∃q,(x.core==0)=q:=⟨_,rfl⟩
  have hb:CB=((p1&&c0)||(p2&&Dx x.core 2 999999999)):=by rw[<-hCB,<-h1,<-h2,<-h0];rfl
  rw[hb];cases p1<;>cases p2<;>cases c0
  all_goals
   refine AI LO (CM h1 h2 h0 kT kF) cC1 AB AB AB AB AB ?_;exact⟨trivial,AL⟩
 refine Dg ⟨[(1,.optr 0 0 5 0 0),(4,i64 H)],[⟨0,0,48,5,[.agg [str (sb x.flow),i64 x.core,i64 x.room,i64 x.side,EN false cs]]⟩],1000⟩ ?_ ?_
 ·obtain⟨p1,h1⟩:∃q,BK (sb x.flow) ⟨#[109,97,115,115]⟩=q:=⟨_,rfl⟩
  obtain⟨p2,h2⟩:∃q,BK (sb x.flow) ⟨#[102,117,110,110,101,108]⟩=q:=⟨_,rfl⟩
  obtain⟨wr,hr⟩:∃q,Dx x.room 1 999999999=q:=⟨_,rfl⟩
  obtain⟨ws,hw⟩:∃q,Dx x.side 0 999999999=q:=⟨_,rfl⟩
  have e1:M7 x=if !p1 && !p2 then 20 else 0:=by rw[<-h1,<-h2];rfl
  have e2:Lu x=if !CB || !wr || !ws then 3 else 0:=by rw[<-hCB,<-hr,<-hw];rfl
  have cA:=GY (!p1 && !p2) 20;have cB:=GY (!CB || !wr || !ws) 3;rw[<-e1,hK1]at cA;rw[<-e2,hK2]at cB;rw[hr]at cC2;rw[hw]at cC3;clear e1 e2 hcs hK1 hK2 hCB hF cC1 cLv cSt hr hw;cases p1<;>cases p2<;>cases CB<;>cases wr
  all_goals
   refine AI LO (CM h1 h2 el kT kF) cA cC2 cC3 cB cW3 cW4 ?_;refine BF.same _ cF AJ ?_;refine BO ?_;exact⟨trivial,AL⟩
 by_cases hH0:H=0
 rotate_left
 ·have e1:(H != 0)=true:=Ii hH0
  rw[AH hH0];refine AI LO e1 AB AB AB AB AB AB ?_;exact AN rfl AA.out
 have e1:(H != 0)=false:=by rw[hH0];rfl
 rw[AG (λh=>h hH0)];clear cC1 cC2 cC3 cF cW3 cW4 hK1 hK2 hCB hF hB;refine AI LO (Ac e1 el) AB AB AB AB AB AB ?_;refine AC.loop (α:=Nat×Nat) (λp=>⟨[(1,.optr 0 0 5 0 0),(66,EN false cs),(67,i64 (cs.length:Int)),(68,i64 (p.1:Int))],[⟨0,0,48,5,[.agg [str (sb x.flow),i64 x.core,i64 x.room,i64 x.side,EN false cs]]⟩],p.2⟩) (λp=>cs.length-p.1) (λq=>q.1<=cs.length/\Es x (cs.drop q.1)=Es x cs) (0,_) ⟨BU _,rfl⟩ AL ?_;rintro⟨i,n⟩ F ⟨hi,hJ⟩;dsimp only at hi hJ⊢;rcases BG i cs.length with h2|h2
 rotate_left
 ·have k1:=CW h2
  have:i=cs.length:=by omega
  subst this;rw[IP]at hJ;rw[AG (λh=>h (by rw[<-hJ];rfl))];have pLv:AA (.sl false 1 (CN (De x))):=AJ;refine AI LO k1 cLv cSt AB AB AB AB ?_;exact AN rfl AA.out
 have k1:=CX h2;have wi:=CY (i:=i) (by omega);obtain⟨c,hc'⟩:=CG h2;have hm:(cs.map (Ae false))[i]?=some (.sl false 3 (c.map AF.D)):=by rw[A7,hc'];rfl
 obtain⟨hc1,hc2⟩:=hc c (A0 hc');have cP:=Lr false c (by omega) hc2;have cG:=SW false c hc1;have cT:=UN false c (by omega);have cW:=GY (decide (Cx c>x.room)) 14;have cE:=KP [(Bx c:Int),((if CJ c then 0 else 16:Nat):Int),if decide (Cx c>x.room)then 14 else 0] (by simp);have hE:DP [(Bx c:Int),((if CJ c then 0 else 16:Nat):Int),if decide (Cx c>x.room)then 14 else 0]=Eh x c:=rfl;rw[hE]at cE;have hd:cs.drop i=c::cs.drop (i+1):=by
  have:=List.getElem?_eq_some_iff.1 hc'
  rw[EI this.1,this.2]
 rw[hd]at hJ;have hJ2:Es x cs=if Eh x c≠0 then Eh x c else Es x (cs.drop (i+1)):=hJ.symm
 obtain⟨E,hEE⟩:∃E,Eh x c=E:=⟨_,rfl⟩
 rw[hEE]at cE hJ2
 by_cases hE0:E=0
 ·have k2:(E != 0)=false:=by rw[hE0];rfl
  rw[AG (λh=>h hE0)]at hJ2;refine AI LO (BW k1 k2 wi kN) hm cP cG cT cW cE ?_;exact⟨(i+1,_),⟨h2,hJ2.symm⟩,by dsimp only;omega,AL⟩
 ·have k2:(E != 0)=true:=Ii hE0
  rw[AH hE0]at hJ2;rw[hJ2,AH hE0];refine AI LO (BW k1 k2 wi kN) hm cP cG cT cW cE ?_;exact AN rfl AA.out
abbrev QB:Dr:=[(4,[0,1,2,3,4,5,6,7,8,9],[10])]
open Go.Proofs Go.RowKit Go.Sort
set_option maxRecDepth 20000
set_option maxHeartbeats 4000000
theorem Tx (x:BT)(i:Nat)(c:List AF)(hc:x.cells[i]?=some c)(hs:H7 c)(hl:x.cells.length<=1000000):AK C0 33 [x.D,i64 (i:Int)] (i64 (An c)):=by
 refine Ak.walk w1 uj rfl λF=>?_
 have cM:=Ub false c hs;have hi:=(List.getElem?_eq_some_iff.1 hc).1;obtain⟨cs,hcs⟩:∃c,x.cells=c:=⟨_,rfl⟩
 unfold BT.D;rw[hcs]at hc hl hi⊢;have hm:(cs.map (Ae false))[i]?=some (.sl false 3 (c.map AF.D)):=by rw[A7,hc];rfl
 have hml:(cs.map (Ae false)).length=cs.length:=Am ..;obtain⟨K,hK⟩:∃K,cs.map (Ae false)=K:=⟨_,rfl⟩
 have pK:AA (.sl false 1 K):=by rw[<-hK];exact AJ
 show AC _ _ _ _ _ ⟨DJ 0 [.agg [str (sb x.flow),i64 x.core,i64 x.room,i64 x.side,.sl false 1 (cs.map (Ae false))],i64 (i:Int)],[],0⟩ _;rw[hK]at hm hml⊢;refine AI Af kN hm cM AB AB AB AB ?_;exact AN rfl AA.out
theorem s6 (u v:Int):AK C0 81 [i64 u,i64 v] (i64 (max (IntKind.i64.wrap (u-v)) (IntKind.i64.wrap (v-u)))):=by
 refine Ak.walk w1 uJ rfl λF=>?_
 refine AI Af kB AB AB AB AB AB AB ?_;exact AN rfl AA.out
theorem bq (x:BT)(hl:x.cells.length<=1000000)(hc:∀c∈x.cells,H7 c/\0<=An c/\An c<=999999999)(hside:0<=x.side/\x.side<=999999999):AK C0 80 [x.D] (As (!FZ x.side (De x))):=by
 refine Ak.walk w1 uI rfl λF=>?_
 have hlvl:=λ(i:Nat) (c:List AF) (h:x.cells[i]?=some c)=>Tx x i c h (hc c (A0 h)).1 hl
 have hlv:∀(i:Nat) (c:List AF),x.cells[i]?=some c->(De x).getD i 0=An c:=λi c h=>by
  unfold De;rw[Ei,A7,h];exact Nw (hc c (A0 h)).1
 have hlen:(De x).length=x.cells.length:=by unfold De;rw[Am]
 obtain⟨cs,hcs⟩:∃c,x.cells=c:=⟨_,rfl⟩
 have el:(((cs.map (Ae false)).length:Nat):Int)=(cs.length:Int):=by rw[Am]
 unfold BT.D at hlvl⊢;rw[hcs]at hlvl hlv hlen hl hc⊢;refine AI QB kB AB AB AB AB AB AB ?_;refine AC.loop (α:=Nat×Nat) (λp=>⟨[(1,.optr 0 0 5 0 0),(3,i64 ((p.1+1:Nat):Int))],[⟨0,0,48,5,[.agg [str (sb x.flow),i64 x.core,i64 x.room,i64 x.side,EN false cs]]⟩],p.2⟩) (λp=>cs.length-p.1) (λp=>p.1<=cs.length/\∀j,j<p.1->Dx (IntKind.i64.wrap ((De x).getD (j+1) 0-(De x).getD j 0)) (IntKind.i64.wrap (0-x.side)) x.side=true) (0,_) ⟨BU _,λj h=>AZ h (GP j)⟩ AL ?_;rintro⟨i,m⟩ F ⟨hi,ha⟩;dsimp only at hi ha⊢;rcases BG (i+1) cs.length with h2|h2
 rotate_left
 ·have e1:=CW h2
  rw[aN (side:=x.side) (l:=De x) λj hj=>ha j (by omega)];refine AI QB (Ac el e1) AB AB AB AB AB AB ?_;exact AN rfl AA.out
 have e1:=CX h2;have wi:=CY (i:=i+1) (by omega);have w2:IntKind.i64.wrap (((i+1:Nat):Int)-1)=((i:Nat):Int):=by rw[wI (by omega) (by omega)];omega
 obtain⟨c,hc1⟩:=CG (show i<cs.length by omega);obtain⟨d,hd1⟩:=CG h2;have c1:=hlvl i c hc1;have c2:=hlvl (i+1) d hd1;have v1:=hlv i c hc1;have v2:=hlv (i+1) d hd1;obtain⟨-,a1,a2⟩:=hc c (A0 hc1);obtain⟨-,b1,b2⟩:=hc d (A0 hd1);have c3:=s6 (An c) (An d);have hbad:=aM (side:=x.side) (l:=De x) (i:=i) (by omega);rw[v1,v2]at hbad;have q1:IntKind.i64.wrap (An c-An d)=An c-An d:=wI (by omega) (by omega);have q2:IntKind.i64.wrap (An d-An c)=An d-An c:=wI (by omega) (by omega);have q3:IntKind.i64.wrap (0-x.side)=0-x.side:=wI (by omega) (by omega);rw[q1,q2]at c3
 by_cases hg:max (An c-An d) (An d-An c)>x.side
 ·have e2:decide (max (An c-An d) (An d-An c)>x.side)=true:=AY hg
  rw[hbad (by rw[q2,q3];unfold Dx;rw[Bool.and_eq_false_iff,IR,IR];omega)];refine AI QB (D2 el e1 e2 w2 wi kN) c1 c2 c3 AB AB AB ?_;exact AN rfl AA.out
 ·have e2:decide (max (An c-An d) (An d-An c)>x.side)=false:=Ah hg
  refine AI QB (D2 el e1 e2 w2 wi kN) c1 c2 c3 AB AB AB ?_;refine⟨(i+1,_),⟨by omega,λj hj=>?_⟩,by dsimp only;omega,AL⟩;rcases BG j i with h|h
  ·exact ha j h
  ·have:j=i:=by dsimp only at hj;omega
   subst this;rw[v1,v2,q2,q3];unfold Dx;rw[Ba,decide_eq_true_iff,decide_eq_true_iff];omega
theorem Wx {l:List UInt8}(h:BK (sb l) Ja=true):BK (sb l) JM=false:=by
 have h1:BK (sb l) (sb [109,97,115,115])=true:=h;rw[Sv]at h1;rw[DA h1];show BK (sb [109,97,115,115]) (sb [102,117,110,110,101,108])=false;rw[Sv];decide
def Lw (x:BT):Bool:=(BK (sb x.flow) Ja&&(x.core != 0))||(BK (sb x.flow) JM&&(decide (x.core<2)||decide (x.core>999999999)))||decide (x.room<1)||decide (x.room>999999999)||decide (x.side<0)||decide (x.side>999999999)
theorem sn {x:BT}(h:(!BK (sb x.flow) Ja && !BK (sb x.flow) JM)=false):Lu x=if Lw x then 3 else 0:=by
 have hx:=@Wx x.flow;unfold Lu Lw UF Dx;obtain⟨p1,h1⟩:∃q,BK (sb x.flow) Ja=q:=⟨_,rfl⟩
 obtain⟨p2,h2⟩:∃q,BK (sb x.flow) JM=q:=⟨_,rfl⟩
 rw[h1,h2]at h hx⊢;have e:(!(p1&&x.core==0||p2&&(decide (x.core>=2)&&decide (x.core<=999999999))) || !(decide (x.room>=1)&&decide (x.room<=999999999)) || !(decide (x.side>=0)&&decide (x.side<=999999999)))
   = (p1&&x.core != 0||p2&&(decide (x.core<2)||decide (x.core>999999999))||decide (x.room<1)||decide (x.room>999999999)||decide (x.side<0)||decide (x.side>999999999)):=by
  cases p1<;>cases p2
  ·cases h
  ·rw[Fu];simp;omega
  ·rw[Fu];simp;omega
  ·cases hx rfl
 rw[e]
theorem an (x:BT):IV x=if(!BK (sb x.flow) Ja && !BK (sb x.flow) JM)=true then 20 else if Lw x=true then 3 else if x.cells.length=0 then 2 else if 8<x.cells.length then 5 else 0:=by
 unfold IV M7;cases h:(!BK (sb x.flow) Ja && !BK (sb x.flow) JM)
 ·rw[sn h,AG Bool.false_ne_true,AG Bool.false_ne_true]
  cases Lw x
  ·rw[AG Bool.false_ne_true,AG Bool.false_ne_true]
   by_cases h0:x.cells.length=0
   ·rw[AH h0,h0];rfl
   ·have:((x.cells.length:Int)==0)=false:=Bq.2 (by omega)
    rw[AG h0,this]
    by_cases h8:8<x.cells.length
    ·rw[AH h8,show decide ((x.cells.length:Int)>8)=true from AY (by omega)];rfl
    ·rw[AG h8,show decide ((x.cells.length:Int)>8)=false from Ah (by omega)];rfl
  ·rfl
 ·rfl
theorem SA {x:BT}:∀ {l:List (List AF)},Es x l=0->∀c∈l,Eh x c=0
 | [],_,c,h=>by cases h
 |d::r,h,c,hc=>by
  have h1:(if Eh x d≠0 then Eh x d else Es x r)=0:=h
  by_cases h0:Eh x d=0
  ·rw[AG (λq=>q h0)]at h1
   rcases BA.1 hc with rfl|h2
   ·exact h0
   ·exact SA h1 c h2
  ·rw[AH h0]at h1;exact AZ h1 h0
theorem KI:∀ {l:List AF},(∀x∈l,0<=x.mass)->0<=An l
 | [],_=>Int.le_refl _
 |x::l,h=>by
  have h1:=h x (Cg ..);have h2:=KI λy hy=>h y (Cn _ hy)
  have:An (x::l)=x.mass+An l:=by unfold An;rfl
  omega
theorem Mf {x:BT}{c:List AF}(h:Eh x c=0):Bx c=0/\CJ c=true/\H7 c/\0<=An c/\An c<=999999999/\An c<=x.room:=by
 have h1:(if(Bx c:Int)≠0 then(Bx c:Int)else if((if CJ c then 0 else 16:Nat):Int)≠0 then((if CJ c then 0 else 16:Nat):Int)else if(if decide (Cx c>x.room)then(14:Int)else 0)≠0 then(if decide (Cx c>x.room)then(14:Int)else 0)else 0)=0:=h
 by_cases hp:Bx c=0
 rotate_left
 ·rw[AH (by omega)]at h1;omega
 rw[hp,AG (λq=>q rfl)]at h1;obtain⟨g1,g2,g3⟩:=Fk hp;have g4:=(KS hp).2.2;have hT:=Nw g3;have g5:0<=An c:=KI λy hy=>by have:=(g2 y hy).1;omega
 cases hg:CJ c
 ·rw[hg]at h1;cases h1
 rw[hg,AG (by decide)]at h1;refine⟨hp,rfl,g3,g5,g4,?_⟩;rw[hT]at h1
 by_cases hr:An c>x.room
 ·rw[AY hr]at h1;cases h1
 ·omega
theorem lZ {x:BT}{c:List AF}(h:Bx c≠0):Eh x c=(Bx c:Int):=by
 show(if(Bx c:Int)≠0 then _ else _)=_;rw[AH (by omega)]
theorem oD {x:BT}{c:List AF}(h:Bx c=0)(hg:CJ c=false):Eh x c=16:=by
 show(if(Bx c:Int)≠0 then _ else if((if CJ c then 0 else 16:Nat):Int)≠0 then((if CJ c then 0 else 16:Nat):Int)else _)=_;rw[h,hg];rfl
theorem jc {x:BT}{c:List AF}(h:Bx c=0)(hg:CJ c=true)(hr:An c>x.room):Eh x c=14:=by
 have hT:=Nw (Fk h).2.2;show(if(Bx c:Int)≠0 then _ else if((if CJ c then 0 else 16:Nat):Int)≠0 then((if CJ c then 0 else 16:Nat):Int)else if(if decide (Cx c>x.room)then(14:Int)else 0)≠0 then(if decide (Cx c>x.room)then(14:Int)else 0)else 0)=_;rw[h,hg,hT,AY hr];rfl
theorem jd {x:BT}{c:List AF}(h:Bx c=0)(hg:CJ c=true)(hr:¬An c>x.room):Eh x c=0:=by
 have hT:=Nw (Fk h).2.2;show(if(Bx c:Int)≠0 then _ else if((if CJ c then 0 else 16:Nat):Int)≠0 then((if CJ c then 0 else 16:Nat):Int)else if(if decide (Cx c>x.room)then(14:Int)else 0)≠0 then(if decide (Cx c>x.room)then(14:Int)else 0)else 0)=_;rw[h,hg,hT,Ah hr];rfl
abbrev D5:Dr:=[(17,[0,1,2,3,4],[5])]
open Go.Proofs Go.RowKit Go.Sort
set_option maxRecDepth 20000
set_option maxHeartbeats 4000000
theorem m9 (x:BT)(hl:x.cells.length<=1000000)(hc:∀c∈x.cells,c.length<=1000000/\∀y∈c,y.modr):AK C0 30 [x.D] (i64 (Eg x)):=by
 refine Ak.walk w1 uh rfl λF=>?_
 have hB:Eg x=if IV x≠0 then IV x else if Es x x.cells≠0 then Es x x.cells else if FZ x.side (De x)then 17 else 0:=rfl
 have hH:=an x;have hlvl:=λ(i:Nat) (c:List AF) (h:x.cells[i]?=some c) (hs:H7 c)=>Tx x i c h hs hl
 have hsafe:=λ(h1:∀c∈x.cells,Eh x c=0) (h2:0<=x.side/\x.side<=999999999)=>bq x hl (λc hq=>by
  obtain⟨-,-,g1,g2,g3,-⟩:=Mf (h1 c hq);exact⟨g1,g2,g3⟩) h2
 obtain⟨p1,h1⟩:∃q,BK (sb x.flow) ⟨#[109,97,115,115]⟩=q:=⟨_,rfl⟩
 obtain⟨p2,h2⟩:∃q,BK (sb x.flow) ⟨#[102,117,110,110,101,108]⟩=q:=⟨_,rfl⟩
 have hex:p1=true->p2=false:=λq=>by rw[<-h2];exact Wx (h1.trans q)
 have hr:Lw x=((p1&&(x.core != 0))||(p2&&(decide (x.core<2)||decide (x.core>999999999)))||decide (x.room<1)||decide (x.room>999999999)||decide (x.side<0)||decide (x.side>999999999)):=by rw[<-h1,<-h2];rfl
 rw[show BK (sb x.flow) Ja=p1 from h1,show BK (sb x.flow) JM=p2 from h2]at hH;obtain⟨R,hR⟩:∃r,Lw x=r:=⟨_,rfl⟩
 rw[hR]at hH hr;have hside:R=false->0<=x.side/\x.side<=999999999:=λq=>by
  rw[q]at hr
  have:=hr.symm
  simp only[Ix,IR]at this;omega
 obtain⟨cs,hcs⟩:∃c,x.cells=c:=⟨_,rfl⟩
 have el:(((cs.map (Ae false)).length:Nat):Int)=(cs.length:Int):=by rw[Am]
 unfold BT.D at hlvl hsafe⊢;rw[hcs]at hlvl hsafe hB hH hc hl⊢;refine sR 0 ?_;cases hk:(!p1 && !p2)
 rotate_left
 ·rw[AH hk]at hH
  rw[hH,AH (by decide)]at hB;rw[hB];have hp:p1=false/\p2=false:=by cases p1<;>cases p2<;>first|exact⟨rfl,rfl⟩|cases hk
  obtain⟨rfl,rfl⟩:=hp;refine AI D5 (BW h1 h2 kT kF) AB AB AB AB AB AB ?_;exact AN rfl AA.out
 rw[AG (by rw[hk];exact Bool.false_ne_true)]at hH;have hp:(p1=true/\p2=false)\/(p1=false/\p2=true):=by
  cases p1
  ·cases p2
   ·cases hk
   ·exact .inr ⟨rfl,rfl⟩
  ·exact .inl ⟨rfl,hex rfl⟩
 clear hex hk;refine Dg ⟨[(1,.optr 0 0 5 0 0)],[⟨0,0,48,5,[.agg [str (sb x.flow),i64 x.core,i64 x.room,i64 x.side,EN false cs]]⟩],100⟩ ?_ ?_
 ·rcases hp with⟨rfl,rfl⟩|⟨rfl,rfl⟩
  all_goals
   refine AI D5 (BW h1 h2 kT kF) AB AB AB AB AB AB ?_;exact⟨trivial,AL⟩
 obtain⟨c0,e0⟩:∃q,(x.core != 0)=q:=⟨_,rfl⟩
 obtain⟨c1,e1⟩:∃q,decide (x.core<2)=q:=⟨_,rfl⟩
 obtain⟨c2,e2⟩:∃q,decide (x.core>999999999)=q:=⟨_,rfl⟩
 obtain⟨u1,r1⟩:∃q,decide (x.room<1)=q:=⟨_,rfl⟩
 obtain⟨u2,r2⟩:∃q,decide (x.room>999999999)=q:=⟨_,rfl⟩
 obtain⟨v1,s1⟩:∃q,decide (x.side<0)=q:=⟨_,rfl⟩
 obtain⟨v2,s2⟩:∃q,decide (x.side>999999999)=q:=⟨_,rfl⟩
 rw[e0,e1,e2,r1,r2,s1,s2]at hr;cases R
 rotate_left
 ·rw[AH rfl]at hH
  rw[hH,AH (by decide)]at hB;rw[hB];clear hlvl hsafe hB hH el;rcases hp with⟨rfl,rfl⟩|⟨rfl,rfl⟩
  ·cases c0
   rotate_left
   ·refine AI D5 (CF e0 e1 e2 r1 r2 s1 (CM s2 h1 h2 kT kF)) AB AB AB AB AB AB ?_
    exact AN rfl AA.out
   cases u1
   rotate_left
   ·refine AI D5 (CF e0 e1 e2 r1 r2 s1 (CM s2 h1 h2 kT kF)) AB AB AB AB AB AB ?_
    exact AN rfl AA.out
   cases u2
   rotate_left
   ·refine AI D5 (CF e0 e1 e2 r1 r2 s1 (CM s2 h1 h2 kT kF)) AB AB AB AB AB AB ?_
    exact AN rfl AA.out
   cases v1
   rotate_left
   ·refine AI D5 (CF e0 e1 e2 r1 r2 s1 (CM s2 h1 h2 kT kF)) AB AB AB AB AB AB ?_
    exact AN rfl AA.out
   cases v2
   rotate_left
   ·refine AI D5 (CF e0 e1 e2 r1 r2 s1 (CM s2 h1 h2 kT kF)) AB AB AB AB AB AB ?_
    exact AN rfl AA.out
   cases hr
  ·cases c1
   rotate_left
   ·refine AI D5 (CF e0 e1 e2 r1 r2 s1 (CM s2 h1 h2 kT kF)) AB AB AB AB AB AB ?_
    exact AN rfl AA.out
   cases c2
   rotate_left
   ·refine AI D5 (CF e0 e1 e2 r1 r2 s1 (CM s2 h1 h2 kT kF)) AB AB AB AB AB AB ?_
    exact AN rfl AA.out
   cases u1
   rotate_left
   ·refine AI D5 (CF e0 e1 e2 r1 r2 s1 (CM s2 h1 h2 kT kF)) AB AB AB AB AB AB ?_
    exact AN rfl AA.out
   cases u2
   rotate_left
   ·refine AI D5 (CF e0 e1 e2 r1 r2 s1 (CM s2 h1 h2 kT kF)) AB AB AB AB AB AB ?_
    exact AN rfl AA.out
   cases v1
   rotate_left
   ·refine AI D5 (CF e0 e1 e2 r1 r2 s1 (CM s2 h1 h2 kT kF)) AB AB AB AB AB AB ?_
    exact AN rfl AA.out
   cases v2
   rotate_left
   ·refine AI D5 (CF e0 e1 e2 r1 r2 s1 (CM s2 h1 h2 kT kF)) AB AB AB AB AB AB ?_
    exact AN rfl AA.out
   cases hr
 rw[AG Bool.false_ne_true]at hH;have hsd:=hside rfl;refine Dg ⟨[(1,.optr 0 0 5 0 0)],[⟨0,0,48,5,[.agg [str (sb x.flow),i64 x.core,i64 x.room,i64 x.side,EN false cs]]⟩],1000⟩ ?_ ?_
 ·clear hlvl hsafe hB hH
  cases v2
  rotate_left
  ·simp at hr
  cases v1
  rotate_left
  ·simp at hr
  cases u2
  rotate_left
  ·simp at hr
  cases u1
  rotate_left
  ·simp at hr
  rcases hp with⟨rfl,rfl⟩|⟨rfl,rfl⟩
  ·cases c0
   rotate_left
   ·cases hr
   refine AI D5 (CF e0 e1 e2 r1 r2 s1 (CM s2 h1 h2 kT kF)) AB AB AB AB AB AB ?_;exact⟨trivial,AL⟩
  ·cases c1
   rotate_left
   ·cases hr
   cases c2
   rotate_left
   ·cases hr
   refine AI D5 (CF e0 e1 e2 r1 r2 s1 (CM s2 h1 h2 kT kF)) AB AB AB AB AB AB ?_;exact⟨trivial,AL⟩
 clear hr e0 e1 e2 r1 r2 s1 s2 hp h1 h2 hR
 by_cases h0:cs.length=0
 ·rw[AH h0]at hH
  rw[hH,AH (by decide)]at hB;rw[hB];have k0:((cs.length:Int)==0)=true:=by rw[h0];rfl
  refine AI D5 (Ac el k0) AB AB AB AB AB AB ?_;exact AN rfl AA.out
 rw[AG h0]at hH;have k0:((cs.length:Int)==0)=false:=Bq.2 (by omega)
 by_cases h8:8<cs.length
 ·rw[AH h8]at hH
  rw[hH,AH (by decide)]at hB;rw[hB];have k8:decide ((cs.length:Int)>8)=true:=AY (by omega);refine AI D5 (At el k0 k8) AB AB AB AB AB AB ?_;exact AN rfl AA.out
 rw[AG h8]at hH;rw[hH,AG (λh=>h rfl)]at hB;rw[hB];have k8:decide ((cs.length:Int)>8)=false:=Ah (by omega);clear hB hH hside;refine AI D5 (At el k0 k8) AB AB AB AB AB AB ?_;refine AC.loop (α:=Nat×Nat) (λp=>⟨[(1,.optr 0 0 5 0 0),(3,i64 (p.1:Int))],[⟨0,0,48,5,[.agg [str (sb x.flow),i64 x.core,i64 x.room,i64 x.side,EN false cs]]⟩],p.2⟩) (λp=>cs.length-p.1) (λq=>q.1<=cs.length/\Es x (cs.drop q.1)=Es x cs) (0,_) ⟨BU _,rfl⟩ AL ?_;rintro⟨i,n⟩ F ⟨hi,hJ⟩;dsimp only at hi hJ⊢;rcases BG i cs.length with h2|h2
 rotate_left
 ·have k1:=CW h2
  have:i=cs.length:=by omega
  subst this;rw[IP]at hJ;have hz:Es x cs=0:=hJ.symm;have cS:=hsafe (SA hz) hsd;rw[AG (λh=>h hz)];cases hq:FZ x.side (De x)
  ·rw[hq]at cS
   rw[AG Bool.false_ne_true];refine AI D5 (BW k1 el kT kF) cS AB AB AB AB AB ?_;exact AN rfl AA.out
  ·rw[hq]at cS
   rw[AH rfl];refine AI D5 (BW k1 el kT kF) cS AB AB AB AB AB ?_;exact AN rfl AA.out
 have k1:=CX h2;have wi:=CY (i:=i) (by omega);obtain⟨c,hc'⟩:=CG h2;have hm:(cs.map (Ae false))[i]?=some (.sl false 3 (c.map AF.D)):=by rw[A7,hc'];rfl
 obtain⟨hc1,hc2⟩:=hc c (A0 hc');have cP:=cz false c hc1 hc2;have cG:=Ya false c hc1;have hd:cs.drop i=c::cs.drop (i+1):=by
  have:=List.getElem?_eq_some_iff.1 hc'
  rw[EI this.1,this.2]
 rw[hd]at hJ;have hJ2:Es x cs=if Eh x c≠0 then Eh x c else Es x (cs.drop (i+1)):=hJ.symm
 by_cases hp:Bx c=0
 rotate_left
 ·rw[lZ hp,AH (by omega)]at hJ2
  have k2:(((Bx c:Nat):Int) != 0)=true:=Ii (by omega);rw[AH (by rw[hJ2];omega),hJ2];refine AI D5 (BW k1 el k2 kN) hm cP AB AB AB AB ?_;exact AN rfl AA.out
 rw[hp]at cP;have k2:(((0:Nat):Int) != 0)=false:=rfl;have hsm:=(Fk hp).2.2;have cL:=hlvl i c hc' hsm;cases hg:CJ c
 ·rw[hg]at cG
  rw[oD hp hg,AH (by decide)]at hJ2;rw[AH (by rw[hJ2];decide),hJ2];refine AI D5 (D2 k1 el k2 kT kF kN) hm cP cG AB AB AB ?_;exact AN rfl AA.out
 rw[hg]at cG
 by_cases hrm:An c>x.room
 ·have k3:decide (An c>x.room)=true:=AY hrm
  rw[jc hp hg hrm,AH (by decide)]at hJ2;rw[AH (by rw[hJ2];decide),hJ2];refine AI D5 (CF k1 el k2 k3 kT kF kN) hm cP cG cL AB AB ?_;exact AN rfl AA.out
 ·have k3:decide (An c>x.room)=false:=Ah hrm
  rw[jd hp hg hrm,AG (λh=>h rfl)]at hJ2;refine AI D5 (CF k1 el k2 k3 wi kT (Ac kF kN)) hm cP cG cL AB AB ?_;exact⟨(i+1,_),⟨h2,hJ2.symm⟩,by dsimp only;omega,AL⟩
def IW (x:BT)(i:Int):Bool:=Dx i 0 ((x.cells.length:Int)-1)
theorem uX (x:BT)(hl:x.cells.length<=1000000)(i:Int):AK C0 130 [i64 i,.pptr x.D] (As (!IW x i)):=by
 refine Ak.walk w1 Zj rfl λF=>?_
 have cW:=N0 i 0 ((x.cells.length:Int)-1);have hb:IW x i=Dx i 0 ((x.cells.length:Int)-1):=rfl;have w2:IntKind.i64.wrap ((x.cells.length:Int)-1)=(x.cells.length:Int)-1:=wI (by omega) (by omega);obtain⟨cs,hcs⟩:∃c,x.cells=c:=⟨_,rfl⟩
 have el:(((cs.map (Ae false)).length:Nat):Int)=(cs.length:Int):=by rw[Am]
 unfold BT.D;rw[hb];rw[hcs]at cW w2⊢;refine AI Af (Ac el w2) cW AB AB AB AB AB ?_;exact AN rfl AA.out
theorem vE (b:Bool)(l:List Int)(c:D)[pc:AA c](p:Int->Bool)(hl:l.length<=1000000)(hc:∀x∈l,AK C0 130 [i64 x,c] (As (p x))):AK C0 179 [.sl b 1 (CN l),.clo (.func 130) [] [c]] (i64 (Jj p l)):=by
 refine Ak.walk w1 Zz rfl λF=>?_
 have el:(((CN l).length:Nat):Int)=(l.length:Int):=by rw[Am]
 refine AI Af el AB AB AB AB AB AB ?_;refine AC.loop (α:=Nat×Nat) (λp=>⟨[(0,.sl b 1 (CN l)),(1,.clo (.func 130) [] [c]),(7,i64 l.length),(8,i64 (p.1:Int))],[],p.2⟩) (λp=>l.length-p.1) (λq=>q.1<=l.length/\∀(j:Nat) (x:Int),j<q.1->l[j]?=some x->p x=false) (0,_) ⟨BU _,λj x hj=>AZ hj (GP j)⟩ AL ?_;rintro⟨i,n⟩ F ⟨hi,ha⟩;dsimp only at hi ha⊢;rcases BG i l.length with h2|h2
 rotate_left
 ·have e1:=CW h2
  have:i=l.length:=by omega
  subst this;refine AI Af e1 AB AB AB AB AB AB ?_;exact AN (by rw[SU ha]) AA.out
 have e1:=CX h2;have wi:=CY (i:=i) (by omega);obtain⟨x,hx⟩:=CG h2;have hm:(CN l)[i]?=some (i64 x):=by rw[A7,hx];rfl
 have cn:=hc x (A0 hx);cases hb:p x
 ·rw[hb]at cn
  refine AI Af (At e1 wi kN) hm cn AB AB AB AB ?_;refine⟨(i+1,_),⟨h2,λj z hj hjz=>?_⟩,by dsimp only;omega,AL⟩;rcases BG j i with h|h
  ·exact ha j z h hjz
  ·have:j=i:=by dsimp only at hj;omega
   subst this;rw[hx]at hjz;cases hjz;exact hb
 ·rw[hb]at cn
  refine AI Af (At e1 wi kN) hm cn AB AB AB AB ?_;exact AN (by rw[TQ hx hb ha]) AA.out
theorem uT (b:Bool)(l:List Int)(c:D)[pc:AA c](p:Int->Bool)(hl:l.length<=1000000)(hc:∀x∈l,AK C0 130 [i64 x,c] (As (p x))):AK C0 129 [.sl b 1 (CN l),.clo (.func 130) [] [c]] (As (l.any p)):=by
 refine Ak.walk w1 Zi rfl λF=>?_
 have c1:=vE b l c p hl hc;have e1:=TR p l;refine AI Af e1 c1 AB AB AB AB AB ?_;exact AN rfl AA.out
def Ha (x:BT)(ns:List Int):Int:=if Eg x≠0 then Eg x else if ns.any (λi=>!IW x i)then 10 else 0
theorem vN (x:BT)(hl:x.cells.length<=1000000)(hc:∀c∈x.cells,c.length<=1000000/\∀y∈c,y.few)(ns:List Int)(hn:ns.length<=1000000):AK C0 73 [x.D,.sl true 1 (CN ns)] (i64 (Ha x ns)):=by
 refine Ak.walk w1 b5 rfl λF=>?_
 have cB:=o7 x hl hc;have cH:=uT true ns (.pptr x.D) (λi=>!IW x i) hn λi _=>uX x hl i
 have cW:=GY (ns.any λi=>!IW x i) 10;have hE:Ha x ns=if Eg x≠0 then Eg x else if ns.any (λi=>!IW x i)then 10 else 0:=rfl
 obtain⟨E,hEE⟩:∃E,Eg x=E:=⟨_,rfl⟩
 rw[hEE]at cB hE;have hx:∃a b c d e,x.D=.agg [a,b,c,d,e]:=⟨_,_,_,_,_,rfl⟩
 have px:AA x.D:=AJ;have px2:AW x.D:=AJ;obtain⟨a1,a2,a3,a4,a5,hx⟩:=hx;rw[hx]at cB cH px px2⊢;rw[hE]
 by_cases h0:E=0
 rotate_left
 ·have k2:(E != 0)=true:=Ii h0
  rw[AH h0];refine AI Af k2 cB AB AB AB AB AB ?_;exact AN rfl AA.out
 have k2:(E != 0)=false:=by rw[h0];rfl
 rw[AG (λh=>h h0)];refine AI Af k2 cB AB AB AB AB AB ?_;refine BF.own _ (L0 cH rfl (λi a d h1 h2=>by
  match i with
  | 0=>cases h1;cases h2;exact .refl _ _
  | 1=>cases h1;cases h2;exact .clo1 (.ptr rfl rfl rfl rfl)
  |n+2=>cases h1) AJ (.prim _)) ?_
 rintro d H' n' ⟨rfl,rfl,rfl⟩;refine AI Af k2 cW AB AB AB AB AB ?_;exact AN rfl AA.out
theorem mz (x:BT)(hl:x.cells.length<=1000000)(hc:∀c∈x.cells,c.length<=1000000/\∀y∈c,y.modr)(i:Int):AK C0 26 [x.D,i64 i] (i64 (Ha x [i])):=by
 refine Ak.walk w1 uf rfl λF=>?_
 have cB:=m9 x hl hc;have hE:Ha x [i]=if Eg x≠0 then Eg x else if IW x i then 0 else 10:=by
  unfold Ha;cases h:IW x i
  ·simp[h]
  ·simp[h]
 obtain⟨E,hEE⟩:∃E,Eg x=E:=⟨_,rfl⟩
 rw[hEE]at cB hE;have hb:IW x i=Dx i 0 ((x.cells.length:Int)-1):=rfl;obtain⟨cs,hcs⟩:∃c,x.cells=c:=⟨_,rfl⟩
 have el:(((cs.map (Ae false)).length:Nat):Int)=(cs.length:Int):=by rw[Am]
 rw[hE,hb];unfold BT.D at cB⊢;rw[hcs]at cB⊢
 by_cases h0:E=0
 rotate_left
 ·have k2:(E==0)=false:=Bq.2 h0
  rw[AH h0];refine AI Af k2 cB AB AB AB AB AB ?_;exact AN rfl AA.out
 have k2:(E==0)=true:=by rw[h0];rfl
 rw[AG (λh=>h h0)];unfold Dx
 by_cases hi:i<0
 ·have k3:decide (i<0)=true:=AY hi
  rw[show decide (i>=0)=false from Ah (by omega),I1,AG Bool.false_ne_true];refine AI Af (Ac k2 k3) cB AB AB AB AB AB ?_;exact AN rfl AA.out
 have k3:decide (i<0)=false:=Ah hi;rw[show decide (i>=0)=true from AY (by omega),Hj]
 by_cases hg:i>=(cs.length:Int)
 ·have k4:decide (i>=(cs.length:Int))=true:=AY hg
  rw[show decide (i<=(cs.length:Int)-1)=false from Ah (by omega),AG Bool.false_ne_true];refine AI Af (BW k2 k3 k4 el) cB AB AB AB AB AB ?_;exact AN rfl AA.out
 ·have k4:decide (i>=(cs.length:Int))=false:=Ah hg
  rw[show decide (i<=(cs.length:Int)-1)=true from AY (by omega),AH rfl];subst h0;refine AI Af (BW k2 k3 k4 el) cB AB AB AB AB AB ?_;exact AN rfl AA.out
def Jb (x:BT)(i:Nat)(L:List AF):BT:=⟨x.flow,x.core,x.room,x.side,(x.cells.map Bl).set i L⟩
def G9 (l:List (List AF))(k:Nat):List D:=(l.take k).map (λc=>Ae false (Bl c))++List.replicate (l.length-k) CK
theorem nS {l:List (List AF)}{k:Nat}{c:List AF}(h:l[k]?=some c):(G9 l k).set k (Ae false (Bl c))=G9 l (k+1):=by
 have hk:=(List.getElem?_eq_some_iff.1 h).1;unfold G9;rw[NH _ _ (by rw[Am,Bf];omega)];rw[Am,Bf,show k-min k l.length=0 by omega,Dh,h,Cv];rw[show l.length-k=(l.length-(k+1))+1 by omega,List.replicate_succ,List.set_cons_zero];rw[show List.map (λc=>Ae false (Bl c)) (some c).toList=[Ae false (Bl c)]from rfl,Do];rfl
theorem nR (l:List (List AF))(k:Nat)(hk:k<=l.length):(G9 l k).length=l.length:=by
 unfold G9;rw[Bk,Am,Bf,L3];omega
theorem nQ (l:List (List AF)):G9 l l.length=(l.map Bl).map (Ae false):=by
 unfold G9;rw[C8,Nat.sub_self,List.map_map];exact DX _
theorem tn {l:List (List AF)}{k:Nat}(h:k<l.length):(G9 l k)[k]?=some CK:=by
 unfold G9;rw[Ey (by rw[Am,Bf];omega),Am,Bf,show k-min k l.length=0 by omega,show l.length-k=(l.length-(k+1))+1 by omega,List.replicate_succ];rfl
theorem In {H:Hp}{a b c d sD:D}{L:List D}(h:Fz H [] sD (.sl false 1 L)):Fz H [] (.agg [a,b,c,d,sD]) (.agg [a,b,c,d,.sl false 1 L]):=.agg rfl λi e e' h1 h2=>by
 match i with
 | 0=>cases h1;cases h2;exact .refl _
 | 1=>cases h1;cases h2;exact .refl _
 | 2=>cases h1;cases h2;exact .refl _
 | 3=>cases h1;cases h2;exact .refl _
 | 4=>cases h1;cases h2;exact h
 |n+5=>cases h1
theorem vP (x:BT)(i:Nat)(hi:i<x.cells.length)(hl:x.cells.length<=1000000)(hc:∀c∈x.cells,AK C0 84 [Ae false c] (Ae false (Bl c)))(L:List AF):AK C0 89 [x.D,i64 (i:Int),Ae false L] (Jb x i L).D:=by
 refine Ak.walk w1 bc rfl λF=>?_
 obtain⟨cs,hcs⟩:∃c,x.cells=c:=⟨_,rfl⟩
 have hW:(Jb x i L).D=.agg [str (sb x.flow),i64 x.core,i64 x.room,i64 x.side,.sl false 1 (((cs.map Bl).map (Ae false)).set i (Ae false L))]:=by
  rw[<-hcs,<-List.map_set];rfl
 have el:(((cs.map (Ae false)).length:Nat):Int)=(cs.length:Int):=by rw[Am]
 have pB:AA (Jb x i L).D:=AJ;rw[hW]at pB⊢;unfold BT.D;rw[hcs]at hi hl hc⊢;have e0:decide ((cs.length:Int)<0)=false:=Ah (by omega);refine AI Af (At el e0 kN) AB AB AB AB AB AB ?_;rw[show List.replicate cs.length (D.prim (Value.slice none 0 0))=G9 cs 0 from by unfold G9;simp];refine AC.loop (α:=Nat×Nat) (λp=>⟨[(1,i64 (i:Int)),(2,Ae false L),(3,.optr 0 0 5 0 0),(6,.optr 1 1 5 0 0),(7,.osl 103 5 1 0 cs.length),(15,EN false cs),(16,i64 (cs.length:Int)),(17,i64 (p.1:Int))],[⟨103,5,22,1,G9 cs p.1⟩,⟨1,1,48,5,[.agg [.prim (.string ⟨#[]⟩),.prim (.int .i64 0),.prim (.int .i64 0),.prim (.int .i64 0),.prim (.slice none 0 0)]]⟩,⟨0,0,48,5,[.agg [str (sb x.flow),i64 x.core,i64 x.room,i64 x.side,EN false cs]]⟩],p.2⟩) (λp=>cs.length-p.1) (λq=>q.1<=cs.length/\11<=q.2) (0,_) ⟨BU _,Ai _⟩ AL ?_;rintro⟨k,n⟩ F ⟨hk,hn⟩;dsimp only at hk hn⊢;have hlw:=nR cs k hk;rcases BG k cs.length with h2|h2
 rotate_left
 ·have k1:=CW h2
  have:k=cs.length:=by omega
  subst this;rw[nQ]at hlw⊢;obtain⟨W,hWW⟩:∃W,(cs.map Bl).map (Ae false)=W:=⟨_,rfl⟩
  obtain⟨ci,hci⟩:=CG hi;have hwi:W[i]?=some (.sl false 3 ((Bl ci).map AF.D)):=by rw[<-hWW,A7,A7,hci];rfl
  rw[hWW]at hlw pB⊢;refine AI Af (BW k1 hwi kN BP) AB AB AB AB AB AB ?_;have hR:=FQ (H:=[⟨103,5,22,1,W.set i (Ae false L)⟩,⟨1,1,48,5,[.agg [str (sb x.flow),i64 x.core,i64 x.room,i64 x.side,.osl 103 5 1 0 cs.length]]⟩,⟨0,0,48,5,[.agg [str (sb x.flow),i64 x.core,i64 x.room,i64 x.side,.osl 103 5 1 0 cs.length]]⟩]) (Hf:=[]) (k:=103) (g:=5) (T:=22) (sz:=1) (l:=W.set i (Ae false L)) rfl;rw[C9,hlw]at hR;exact⟨_,In hR,pB.out,rfl⟩
 have k1:=CX h2;have wi:=CY (i:=k) (by omega);obtain⟨c,hc'⟩:=CG h2;have hm:(cs.map (Ae false))[k]?=some (.sl false 3 (c.map AF.D)):=by rw[A7,hc'];rfl
 have cN:=hc c (A0 hc');have hset:=nS hc';have hat:=tn h2;obtain⟨es,hes⟩:∃e,G9 cs k=e:=⟨_,rfl⟩
 rw[hes]at hlw hset hat⊢;refine AI Af (CM k1 wi hat kN BP) hm cN AB AB AB AB ?_;refine⟨(k+1,n+1000),⟨h2,by dsimp only;omega⟩,by dsimp only;omega,?_⟩;dsimp only;rw[<-hset];exact AL
abbrev KM:Dr:=[(7,[0,1,2,3,4],[5,6,7]),(8,[0,1,2,3,4,5,6,7,8],[9,10,11])]
open Go.Proofs Go.RowKit
set_option maxRecDepth 20000
set_option maxHeartbeats 4000000
def Rn (i k:Nat):Nat:=if k=i+1 then 705 else 809
def U7 (i k g:Nat):D:=if k=0 then CK else .osl (Rn i k) g 1 0 k
def U8 (i k g:Nat)(E:List D):Hp:=if k=0 then[]else[⟨Rn i k,g,22,1,E⟩]
theorem uq (x:BT)(i:Nat)(hi:i<x.cells.length)(hl:x.cells.length<=1000000)(hc:∀c∈x.cells,AK C0 40 [Ae false c] (Ae false (Bl c)))(L:List AF)(hL:AK C0 40 [Ae false L] (Ae false (Bl L))):AK C0 90 [x.D,i64 (i:Int),Ae false L] (Jb x i (Bl L)).D:=by
 refine Ak.walk w1 uK rfl λF=>?_
 obtain⟨cs,hcs⟩:∃c,x.cells=c:=⟨_,rfl⟩
 have hW:(Jb x i (Bl L)).D=.agg [str (sb x.flow),i64 x.core,i64 x.room,i64 x.side,.sl false 1 (((cs.map Bl).set i (Bl L)).map (Ae false))]:=by rw[<-hcs];rfl
 have el:(((cs.map (Ae false)).length:Nat):Int)=(cs.length:Int):=by rw[Am]
 have pB:AA (Jb x i (Bl L)).D:=AJ;rw[hW]at pB⊢;unfold BT.D;rw[hcs]at hi hl hc⊢;have hV:∀k c,cs[k]?=some c->(((cs.map Bl).set i (Bl L)).map (Ae false))[k]?=some (if k=i then Ae false (Bl L)else Ae false (Bl c)):=λk c h=>by
  have hk:=(List.getElem?_eq_some_iff.1 h).1;rw[A7,List.getElem?_set,A7,h,Am]
  by_cases hik:k=i
  ·subst hik;rw[AH rfl,AH hk,AH rfl];rfl
  ·rw[AG (λh=>hik h.symm),AG hik];rfl
 have hVl:(((cs.map Bl).set i (Bl L)).map (Ae false)).length=cs.length:=by rw[Am,C9,Am]
 obtain⟨V,hVV⟩:∃V,((cs.map Bl).set i (Bl L)).map (Ae false)=V:=⟨_,rfl⟩
 rw[hVV]at hV hVl pB⊢;refine AI KM (Ac el kN) AB AB AB AB AB AB ?_;refine AC.loop (α:=Nat×Nat×Nat) (λp=>⟨[(1,i64 (i:Int)),(2,Ae false L),(3,.optr 0 0 5 0 0),(6,.optr 1 1 5 0 0),(7,.optr 101 3 5 0 0),(8,i64 (p.1:Int))],U8 i p.1 p.2.1 (V.take p.1)++[⟨101,3,48,5,[.agg [str (sb x.flow),i64 x.core,i64 x.room,i64 x.side,U7 i p.1 p.2.1]]⟩,⟨1,1,48,5,[.agg [.prim (.string ⟨#[]⟩),.prim (.int .i64 0),.prim (.int .i64 0),.prim (.int .i64 0),.prim (.slice none 0 0)]]⟩,⟨0,0,48,5,[.agg [str (sb x.flow),i64 x.core,i64 x.room,i64 x.side,EN false cs]]⟩],p.2.2⟩) (λp=>cs.length-p.1) (λq=>q.1<=cs.length/\8<=q.2.2) (0,0,_) ⟨BU _,Ai _⟩ AL ?_;rintro⟨k,g,n⟩ F ⟨hk,hn⟩;dsimp only at hk hn⊢;rcases BG k cs.length with h2|h2
 rotate_left
 ·have k1:=CW h2
  have:k=cs.length:=by omega
  subst this;unfold U7 U8 Rn;rw[AG (show ¬cs.length=0 by omega),AG (show ¬cs.length=0 by omega),B9 (show V.length<=cs.length by omega)]
  by_cases hK:cs.length=i+1
  ·rw[AH hK]
   have hR:=FQ (H:=[⟨705,g,22,1,V⟩,⟨101,3,48,5,[.agg [str (sb x.flow),i64 x.core,i64 x.room,i64 x.side,.osl 705 g 1 0 cs.length]]⟩,⟨1,1,48,5,[.agg [str (sb x.flow),i64 x.core,i64 x.room,i64 x.side,.osl 705 g 1 0 cs.length]]⟩,⟨0,0,48,5,[.agg [str (sb x.flow),i64 x.core,i64 x.room,i64 x.side,EN false cs]]⟩]) (Hf:=[]) (k:=705) (g:=g) (T:=22) (sz:=1) (l:=V) rfl;rw[hVl]at hR;refine AI KM (Ac el k1) AB AB AB AB AB AB ?_;exact⟨_,In hR,pB.out,rfl⟩
  ·rw[AG hK]
   have hR:=FQ (H:=[⟨809,g,22,1,V⟩,⟨101,3,48,5,[.agg [str (sb x.flow),i64 x.core,i64 x.room,i64 x.side,.osl 809 g 1 0 cs.length]]⟩,⟨1,1,48,5,[.agg [str (sb x.flow),i64 x.core,i64 x.room,i64 x.side,.osl 809 g 1 0 cs.length]]⟩,⟨0,0,48,5,[.agg [str (sb x.flow),i64 x.core,i64 x.room,i64 x.side,EN false cs]]⟩]) (Hf:=[]) (k:=809) (g:=g) (T:=22) (sz:=1) (l:=V) rfl;rw[hVl]at hR;refine AI KM (Ac el k1) AB AB AB AB AB AB ?_;exact⟨_,In hR,pB.out,rfl⟩
 have k1:=CX h2;have wi:=CY (i:=k) (by omega);obtain⟨c,hc'⟩:=CG h2;have hm:(cs.map (Ae false))[k]?=some (.sl false 3 (c.map AF.D)):=by rw[A7,hc'];rfl
 have cN:=hc c (A0 hc');have hv:=hV k c hc';have hT:V.take (k+1)=V.take k++[if k=i then Ae false (Bl L)else Ae false (Bl c)]:=by rw[Dh,hv];rfl
 have hEl:(V.take k).length=k:=by rw[Bf];omega
 have f1:∀l:List D,([]:List D)++l=l:=FM;have f2:∀n,List.take n ([]:List D)=[]:=λn=>List.take_nil
 unfold U7 U8 Rn
 by_cases hki:k=i
 ·rw[AH hki]at hT
  have q1:((k:Int)==(i:Int))=true:=by rw[hki];exact beq_self_eq_true _
  by_cases hk0:k=0
  ·rw[AH hk0,AH hk0]
   rw[show V.take k=[]from by rw[hk0];rfl]at hT hEl;refine AI KM (CF k1 el q1 wi f1 f2 BP) hL AB AB AB AB AB ?_;subst hk0;refine⟨(0+1,n+1+1+1+1+1+1+1+1+8,n+1000),⟨h2,by dsimp only;omega⟩,by dsimp only;omega,?_⟩;dsimp only;rw[AG (show ¬ 0+1=0 by omega),AG (show ¬ 0+1=0 by omega),AH (show 0+1=i+1 by omega),hT];exact AL
  ·rw[AG hk0,AG hk0,AG (show ¬k=i+1 by omega)]
   obtain⟨E,hE⟩:∃E,V.take k=E:=⟨_,rfl⟩
   rw[hE]at hT hEl⊢;have f3:List.take k E=E:=by rw[<-hEl];exact C8
   refine AI KM (CM k1 el q1 wi f3) hL AB AB AB AB AB ?_;refine⟨(k+1,n+1+1+1+1+1+1+1+1+8,n+1000),⟨h2,by dsimp only;omega⟩,by dsimp only;omega,?_⟩;dsimp only;rw[AG (show ¬k+1=0 by omega),AG (show ¬k+1=0 by omega),AH (show k+1=i+1 by omega),hT];exact AL
 ·rw[AG hki]at hT
  have q1:((k:Int)==(i:Int))=false:=Bq.2 (by omega)
  by_cases hk0:k=0
  ·rw[AH hk0,AH hk0]
   rw[show V.take k=[]from by rw[hk0];rfl]at hT hEl;refine AI KM (CF k1 el q1 wi f1 f2 (Ac kN BP)) hm cN AB AB AB AB ?_;subst hk0;refine⟨(0+1,n+1+1+1+1+1+1+1+1+12,n+1000),⟨h2,by dsimp only;omega⟩,by dsimp only;omega,?_⟩;dsimp only;rw[AG (show ¬ 0+1=0 by omega),AG (show ¬ 0+1=0 by omega),AG (show ¬ 0+1=i+1 by omega),hT];exact AL
  ·rw[AG hk0,AG hk0]
   obtain⟨E,hE⟩:∃E,V.take k=E:=⟨_,rfl⟩
   rw[hE]at hT hEl⊢;have f3:List.take k E=E:=by rw[<-hEl];exact C8
   by_cases hK:k=i+1
   ·rw[AH hK]
    refine AI KM (D2 k1 el q1 wi f3 kN) hm cN AB AB AB AB ?_;refine⟨(k+1,n+1+1+1+1+1+1+1+1+12,n+1000),⟨h2,by dsimp only;omega⟩,by dsimp only;omega,?_⟩;dsimp only;rw[AG (show ¬k+1=0 by omega),AG (show ¬k+1=0 by omega),AG (show ¬k+1=i+1 by omega),hT];exact AL
   ·rw[AG hK]
    refine AI KM (D2 k1 el q1 wi f3 kN) hm cN AB AB AB AB ?_;refine⟨(k+1,n+1+1+1+1+1+1+1+1+12,n+1000),⟨h2,by dsimp only;omega⟩,by dsimp only;omega,?_⟩;dsimp only;rw[AG (show ¬k+1=0 by omega),AG (show ¬k+1=0 by omega),AG (show ¬k+1=i+1 by omega),hT];exact AL
end Go.Ide
namespace Go.Proofs
open Go.Shelf Go.RowKit Go.Lib
def Tryz.growLay_ren:Go.Shelf.Ren:=⟨fun|4=>140|n=>n,fun|22=>22|25=>27|3=>3|4=>4|9=>9|20=>20|0=>0|n=>n,fun|n=>n⟩
theorem dU:Go.Proofs.Lays8.n4 Tryz.prog Tryz.growLay_ren:={
 mixed:=by kernel_rfl
 f4:=⟨Tryz.f140.name,by decide,Tryz.func140.trans (congrArg some (by kernel_rfl))⟩
 t0:=Tryz.underlying0
 a0:=Tryz.isAgg0
 z0:=Tryz.sizeOf0
 v0:=Tryz.zeroValue0
 t3:=Tryz.underlying3
 a3:=Tryz.isAgg3
 z3:=Tryz.sizeOf3
 v3:=Tryz.zeroValue3
 t4:=Tryz.underlying4
 a4:=Tryz.isAgg4
 z4:=Tryz.sizeOf4
 v4:=Tryz.zeroValue4
 t9:=Tryz.underlying9
 a9:=Tryz.isAgg9
 z9:=Tryz.sizeOf9
 v9:=Tryz.zeroValue9
 t20:=Tryz.underlying20
 a20:=Tryz.isAgg20
 z20:=Tryz.sizeOf20
 v20:=Tryz.zeroValue20
 t22:=Tryz.underlying22
 a22:=Tryz.isAgg22
 z22:=Tryz.sizeOf22
 v22:=Tryz.zeroValue22 }
end Go.Proofs
namespace Go.Ide
open Go.Proofs Go.RowKit Go.Lib
set_option maxRecDepth 20000
set_option maxHeartbeats 4000000
theorem Jv (K n:Nat)(h0:0<n)(hn:n<=1000000)(H:Hp)(m:Nat):CO C0 140 [CK,i64 (n:Int)] H m (λd H' n'=>d=.osl K m 3 0 0/\H'=⟨K,m,27,3,[]⟩::H/\n'=m+1):=by
 refine⟨by obtain⟨fn,a1,a2,a3,-⟩:=Tb;exact⟨fn,_,a1,a2,a3⟩,λF ρ w vs mm fr gn hsz rep=>?_⟩;obtain⟨v0,v1,rfl⟩:∃v0 v1,vs = #[v0,v1]:=by
  match vs,hsz with
  |⟨[a,b]⟩,_=>exact⟨a,b,rfl⟩
 have r0:AU ρ _ w CK v0:=rep 0 _ rfl;have r1:AU ρ _ w (i64 (n:Int)) v1:=rep 1 _ rfl;cases r0;cases r1;have hT:∃i,X1.tt 22=some i/\i.ti=.slice 27 3 48 (.agg #[.string ⟨#[]⟩,.int .i64 0,.slice none 0 0]):=⟨_,rfl,rfl⟩
 obtain⟨i,hi1,hi2⟩:=hT;obtain⟨-,⟨inf,k1,k2,k3,k4⟩,k5,k6⟩:=EZ (w1.tt _ _ hi1) hi2;have hc:=Any8.slices_Grow_grow dU inf _ k1 k4 (by rw[k2];decide) none 0 0 n [] w (Ai _) (by omega) (by rw[k3];omega) (by omega) (by rw[k2];rfl) (λ_=>rfl) (λa h=>by cases h);refine Calls.mono hc ?_;rintro e w' ⟨rfl,rfl⟩;rw[show Tryz.growLay_ren.t 25=27 from rfl,BP];have hge:n<=grownCap w n 0 27:=grownCap_ge ..;have hmx:grownCap w n 0 27<=maxLen:=grownCap_le_maxLen _ _ _ _ (by simp only[maxLen];omega);generalize grownCap w n 0 27=cap at hge hmx⊢;obtain⟨z,hz⟩:∃z,(Value.agg #[.string ⟨#[]⟩,.int .i64 0,.slice none 0 0])=z:=⟨_,rfl⟩
 rw[hz]at k5 k6⊢;generalize hcs' : #[]++Builtin.zeroCells z.cells (n-0)++Builtin.zeroCells z.cells (cap-n)=cs';have hsz':cs'.size=cap*3:=by
  rw[<-hcs',I4,I4,size_zeroCells,size_zeroCells,k5];simp only[Jn,Gg];omega
 have ho:DB ρ (AM F.X ρ H) w.drew ⟨K,m,27,3,[]⟩ cs':=by
  refine⟨by simp,λq d h=>by simp at h,λq v hv=>?_,λq d j c h=>by simp at h⟩;rw[<-hcs']at hv;rcases BG q (#[]++Builtin.zeroCells z.cells (n-0)).size with hq|hq
  ·rw[GN hq,Array.empty_append]at hv
   exact PP k6 _ _ v hv
  ·rw[GM hq]at hv
   exact PP k6 _ _ v hv
 obtain⟨m1,x1⟩:=mm.drew.alloc ⟨K,m,27,3,[]⟩ cs' (fr _ _ (Ai _)) (λe' he' h=>Nat.ne_of_lt (gn e' he') h.2) ho;refine⟨_,_,_,_,_,rfl,⟨rfl,rfl,rfl⟩,m1,(BQ.drew _ _ _).trans x1,λk g hg=>?_,λe he=>?_,?_⟩
 ·unfold Lk.put
  rw[AG λh=>by have:=h.2;dsimp only at this;omega];exact fr k g (by omega)
 ·rcases BA.1 he with rfl|he
  ·exact HF _
  ·exact DE (gn e he)
 ·exact Ow (b:=w.heap.size) (T:=27) (cs:=cs') (fz:=(0,0)) (EH _ _ _ _) (by rw[ED];exact AH rfl) (BU _) hsz'.symm hmx
theorem WL {vs:List (List AF)}{i:Nat}{l:List AF}(h:vs[i]?=some l):(vs.take (i+1)).flatten=(vs.take i).flatten++l:=by
 rw[Dh,h];simp
theorem Xq {vs:List (List AF)}(i:Nat):(vs.take i).flatten.length<=vs.flatten.length:=by
 have:vs.flatten=(vs.take i).flatten++(vs.drop i).flatten:=by rw[<-List.flatten_append,Ez]
 rw[this,Bk];omega
theorem WI (vs:List (List AF))(h0:vs.flatten≠[])(hl:vs.flatten.length<=1000000)(hv:vs.length<=1000000):AK C0 88 [.sl true 1 (vs.map (Ae false))] (Ae false vs.flatten):=by
 refine Ak.walk w1 UV rfl λF=>?_
 have el:(((vs.map (Ae false)).length:Nat):Int)=(vs.length:Int):=by rw[Am]
 have hpos:0<vs.flatten.length:=List.length_pos_iff.2 h0;have cG:=λm=>Jv 1302 vs.flatten.length hpos hl [] m
 refine AI Af el AB AB AB AB AB AB ?_;refine AC.loop (α:=Nat×Nat) (λp=>⟨[(0,.sl true 1 (vs.map (Ae false))),(3,i64 ((vs.take p.1).flatten.length:Int)),(9,.sl true 1 (vs.map (Ae false))),(10,i64 (vs.length:Int)),(11,i64 (p.1:Int))],[],p.2⟩) (λp=>vs.length-p.1) (λq=>q.1<=vs.length) (0,_) (BU _) AL ?_;rintro⟨i,n⟩ F hi;dsimp only at hi⊢;rcases BG i vs.length with h2|h2
 ·have e1:=CX h2
  have wi:=CY (i:=i) (by omega);obtain⟨x,hx⟩:=CG h2;have hm:(vs.map (Ae false))[i]?=some (.sl false 3 (x.map AF.D)):=by rw[A7,hx];rfl
  have hs:=WL hx;have hle:=Xq (vs:=vs) (i+1);have ex:(((x.map AF.D).length:Nat):Int)=(x.length:Int):=by rw[Am]
  rw[hs,Bk]at hle;have w1':IntKind.i64.wrap (((vs.take i).flatten.length:Int)+(x.length:Int))=(((vs.take (i+1)).flatten.length:Nat):Int):=by
   rw[wI (by omega) (by omega),hs,Bk];omega
  have g0:decide ((((vs.take (i+1)).flatten.length:Nat):Int)<0)=false:=Ah (by omega);refine AI Af (D2 e1 wi ex w1' g0 kN) hm AB AB AB AB AB ?_;exact⟨(i+1,_),h2,by dsimp only;omega,AL⟩
 have e1:=CW h2
 have:i=vs.length:=by omega
 subst this;rw[C8];refine AI Af e1 AB AB AB AB AB AB ?_;refine BF.own _ (cG _) ?_;rintro d H' n' ⟨rfl,rfl,rfl⟩;refine AI Af el AB AB AB AB AB AB ?_;refine AC.loop (α:=Nat×Nat×Nat) (λp=>⟨[(6,.osl 1302 p.2.1 3 0 (vs.take p.1).flatten.length),(25,.sl true 1 (vs.map (Ae false))),(26,i64 (vs.length:Int)),(27,i64 (p.1:Int))],[⟨1302,p.2.1,27,3,(vs.take p.1).flatten.map AF.D⟩],p.2.2⟩) (λp=>vs.length-p.1) (λq=>q.1<=vs.length) (0,n+1+1,_) (BU _) AL ?_;clear hi h2 e1;rintro⟨i,g,n⟩ F hi;dsimp only at hi⊢;rcases BG i vs.length with h2|h2
 ·have e1:=CX h2
  have wi:=CY (i:=i) (by omega);obtain⟨x,hx⟩:=CG h2;have hm:(vs.map (Ae false))[i]?=some (.sl false 3 (x.map AF.D)):=by rw[A7,hx];rfl
  have hs:=WL hx;have hle:=Xq (vs:=vs) (i+1);have hln:((vs.take i).flatten.map AF.D).length=(vs.take i).flatten.length:=Am ..;have hlx:(x.map AF.D).length=x.length:=Am ..;rw[hs,Bk]at hle;obtain⟨R,hR⟩:∃R,(vs.take i).flatten=R:=⟨_,rfl⟩
  obtain⟨X,hX⟩:∃X,x.map AF.D=X:=⟨_,rfl⟩
  have pX:AA (.sl false 3 X):=by rw[<-hX];exact AJ
  rw[hR]at hs hle hln⊢;rw[hX]at hm hlx;obtain⟨RD,hRD⟩:∃X,R.map AF.D=X:=⟨_,rfl⟩
  rw[hRD]at hln⊢;refine AI Af (At e1 wi kN) hm AB AB AB AB AB ?_;refine⟨(i+1,n+1+1+1+1+1+1,n+1+1+1+1+1+1+1+1+1+1),h2,by dsimp only;omega,?_⟩;dsimp only;rw[hs,Bk,Cv,hRD,hX,hlx];rw[B9 (show RD.length<=R.length by omega)];exact AL
 have e1:=CW h2
 have:i=vs.length:=by omega
 subst this;rw[C8];have hR:=FQ (H:=[⟨1302,g,27,3,vs.flatten.map AF.D⟩]) (Hf:=[]) (k:=1302) (g:=g) (T:=27) (sz:=3) (l:=vs.flatten.map AF.D) rfl;rw[Am]at hR;refine AI Af e1 AB AB AB AB AB AB ?_;exact⟨_,hR,AA.out,rfl⟩
end Go.Ide
namespace Go.Ide
open Go.Proofs Go.RowKit Go.Lib
set_option maxRecDepth 20000
set_option maxHeartbeats 4000000
theorem mj:AK C0 140 [CK,i64 0] CK:=by
 refine⟨by obtain⟨fn,a1,a2,a3,-⟩:=Tb;exact⟨fn,_,a1,a2,a3⟩,λX w vs _ _ _ hsz rep=>?_⟩;obtain⟨v0,v1,rfl⟩:∃v0 v1,vs = #[v0,v1]:=by
  match vs,hsz with
  |⟨[a,b]⟩,_=>exact⟨a,b,rfl⟩
 have r0:AU nol _ w CK v0:=rep 0 _ rfl;have r1:AU nol _ w (i64 0) v1:=rep 1 _ rfl;cases r0;cases r1;refine(Any8.slices_Grow_room dU none 0 0 0 w (Ai _) (by omega) (by omega) (Ai _)).mono ?_;rintro e w' ⟨rfl,rfl⟩;exact⟨_,_,rfl,.refl _ _,rfl,.prim _⟩
theorem fv (vs:List (List AF))(h0:∀x∈vs,x=[])(hv:vs.length<=1000000):AK C0 88 [.sl true 1 (vs.map (Ae false))] (Ae false []):=by
 refine Ak.walk w1 UV rfl λF=>?_
 have el:(((vs.map (Ae false)).length:Nat):Int)=(vs.length:Int):=by rw[Am]
 have cG:=mj;refine AI Af el AB AB AB AB AB AB ?_;refine AC.loop (α:=Nat×Nat) (λp=>⟨[(0,.sl true 1 (vs.map (Ae false))),(3,i64 0),(9,.sl true 1 (vs.map (Ae false))),(10,i64 (vs.length:Int)),(11,i64 (p.1:Int))],[],p.2⟩) (λp=>vs.length-p.1) (λq=>q.1<=vs.length) (0,_) (BU _) AL ?_;rintro⟨i,n⟩ F hi;dsimp only at hi⊢;rcases BG i vs.length with h2|h2
 ·have e1:=CX h2
  have wi:=CY (i:=i) (by omega);obtain⟨x,hx⟩:=CG h2;have hx0:=h0 x (A0 hx);subst hx0;have hm:(vs.map (Ae false))[i]?=some (.sl false 3 []):=by rw[A7,hx];rfl
  have ln0:([]:List D).length=0:=rfl;have w1':IntKind.i64.wrap (0+((0:Nat):Int))=0:=rfl;have g0:decide ((0:Int)<0)=false:=rfl;refine AI Af (D2 e1 wi ln0 w1' g0 kN) hm AB AB AB AB AB ?_;exact⟨(i+1,_),h2,by dsimp only;omega,AL⟩
 have e1:=CW h2
 have:i=vs.length:=by omega
 subst this;refine AI Af (Ac el e1) cG AB AB AB AB AB ?_;refine AC.ghost 1302 27 3 [(6,.osl 1302 _ 3 0 0),(25,.sl true 1 (vs.map (Ae false))),(26,i64 (vs.length:Int)),(27,i64 ((0:Nat):Int))] ⟨.inr ⟨rfl,rfl⟩,.inl rfl,.inl rfl,.inl rfl,trivial⟩ ?_;refine AC.loop (α:=Nat×Nat×Nat) (λp=>⟨[(6,.osl 1302 p.2.1 3 0 0),(25,.sl true 1 (vs.map (Ae false))),(26,i64 (vs.length:Int)),(27,i64 (p.1:Int))],[⟨1302,p.2.1,27,3,[]⟩],p.2.2⟩) (λp=>vs.length-p.1) (λq=>q.1<=vs.length) (0,_,_) (BU _) AL ?_;clear hi h2 e1;rintro⟨i,g,n⟩ F hi;dsimp only at hi⊢;rcases BG i vs.length with h2|h2
 ·have e1:=CX h2
  have wi:=CY (i:=i) (by omega);obtain⟨x,hx⟩:=CG h2;have hx0:=h0 x (A0 hx);subst hx0;have hm:(vs.map (Ae false))[i]?=some (.sl false 3 []):=by rw[A7,hx];rfl
  refine AI Af (At e1 wi kN) hm AB AB AB AB AB ?_;exact⟨(i+1,n+1+1+1+1+1+1,n+1+1+1+1+1+1+1+1+1+1),h2,by dsimp only;omega,AL⟩
 have e1:=CW h2;have hR:=FQ (H:=[⟨1302,g,27,3,[]⟩]) (Hf:=[]) (k:=1302) (g:=g) (T:=27) (sz:=3) (l:=[]) rfl;refine AI Af e1 AB AB AB AB AB AB ?_;exact⟨_,hR,AA.out,rfl⟩
theorem ji (vs:List (List AF))(hl:vs.flatten.length<=1000000)(hv:vs.length<=1000000):AK C0 88 [.sl true 1 (vs.map (Ae false))] (Ae false vs.flatten):=by
 by_cases h:vs.flatten=[]
 ·rw[h]
  exact fv vs (λx hx=>ET (Nat.le_zero.1 (by
   have:=(List.sublist_flatten_of_mem hx).length_le
   rwa [h]at this))) hv
 ·exact WI vs h hl hv
abbrev TM:Dr:=[(1,[0,1,2,3,4,5,6],[7]),(9,[0,1,2,3,4],[5,6])]
open Go.Proofs Go.RowKit
set_option maxRecDepth 20000
set_option maxHeartbeats 4000000
def Lh:List AF->Int->Int->List AF
 | [],_,_=>[]
 |x::r,low,left=>x.w (min (x.mass-min x.mass low) left)::Lh r (low-min x.mass low) (left-min (x.mass-min x.mass low) left)
structure VB where
 o:List AF
 low:Int
 left:Int
 g:Nat
def Je (g1 g2:Nat)(p:VB):Hp:=Dj 905 p.g 27 3 (p.o.map AF.D)++[⟨200,g2,22,1,[Dt 905 p.g 3 (p.o.map AF.D)]⟩,⟨106,g1,3,1,[i64 p.left]⟩,⟨0,0,3,1,[i64 p.low]⟩]
theorem Xu (g1 g2:Nat)(a b:Int)(g:Nat):Je g1 g2 ⟨[],a,b,g⟩=[⟨200,g2,22,1,[CK]⟩,⟨106,g1,3,1,[i64 b]⟩,⟨0,0,3,1,[i64 a]⟩]:=rfl
theorem P6 (g1 g2:Nat)(z:AF)(o:List AF)(a b:Int)(g:Nat):Je g1 g2 ⟨z::o,a,b,g⟩=[⟨905,g,27,3,z.D::o.map AF.D⟩,⟨200,g2,22,1,[.osl 905 g 3 0 ((o.map AF.D).length+1)]⟩,⟨106,g1,3,1,[i64 b]⟩,⟨0,0,3,1,[i64 a]⟩]:=rfl
def OY (L:List AF)(low left:Int)(k:Nat)(p:VB):Prop:=p.o.length=k/\p.o++Lh (L.drop k) p.low p.left=Lh L low left/\0<=p.low/\p.low<=1000000000000/\0<=p.left/\p.left<=1000000000000000
theorem fj (b:Bool)(l:List AF)(low high:Int)(hl:l.length<=1000000)(h1:0<=low/\low<=1000000000000)(h2:0<=high/\high<=1000000000000)(t:Int)(ht:low+high<=t/\t<=1000000000000000)(hx:∀x∈l,0<=x.mass/\x.mass<=1000000000)
  (cT:AK C0 59 [Ae b l] (i64 t))
  (ho:∀x∈l,∀m,AK C0 63 [x.D,i64 m] (x.w m).D) (R:D) [pR:AA R] (hN:AK C0 84 [Ae false (Lh l low (t-low-high))] R):
  AK C0 92 [Ae b l,i64 low,i64 high] R:=by
 refine Ak.walk w1 bh rfl λF=>?_
 have cV:=Sz b false (l.map AF.D);have hT:∀x∈l.map AF.D,∃a c d,x=.agg [a,c,d]:=λx hx=>by
  obtain⟨y,-,rfl⟩:=List.mem_map.1 hx;exact⟨_,_,_,rfl⟩
 have hoA:∀k,k<l.length->∃y,y∈l/\l[k]?=some y/\(l.map AF.D)[if false then(l.map AF.D).length-1-k else k]?=some y.D:=λk hk=>⟨_,List.getElem_mem hk,BI hk,by
  show(l.map AF.D)[k]?=_;rw[A7,BI hk];rfl⟩
 unfold Ae at cT⊢;obtain⟨T,hTT⟩:∃T,l.map AF.D=T:=⟨_,rfl⟩
 have pT:AA (.sl b 3 T):=by rw[<-hTT];exact AJ
 have hTl:T.length=l.length:=by rw[<-hTT,Am]
 rw[hTT]at cV hT hoA cT⊢;have w1':IntKind.i64.wrap (t-low)=t-low:=wI (by omega) (by omega);have w2:IntKind.i64.wrap (t-low-high)=t-low-high:=wI (by omega) (by omega);obtain⟨e,he⟩:∃e,t-low-high=e:=⟨_,rfl⟩
 have w2':IntKind.i64.wrap (t-low-high)=e:=by rw[w2,he]
 rw[he]at hN;have he0:0<=e/\e<=1000000000000000:=by omega
 refine AI TM (Ac w1' w2') cT cV AB AB AB AB ?_;have h0:OY l low e 0 ⟨[],low,e,0⟩:=⟨rfl,rfl,h1.1,h1.2,he0.1,he0.2⟩
 refine AC.rangeFunc (fi:=185) (first:=[]) (captured:=[.pptr (.sl b 3 T),.pptr (As false)]) (Ψ:=λj _ H' _=>(j=none/\∃a,OY l low e T.length a/\H'=Je 8 11 a)\/(j=some (.exit 0)/\False)) rfl
  (λds H n Φ=>∃k a x,OY l low e k a/\k<T.length/\T[if false then T.length-1-k else k]?=some x/\ds=[x]/\H=Je 8 11 a/\Φ=λj H' _=>(j=none/\∃a',OY l low e (k+1) a'/\Cb H' (Je 8 11 a') H' (Je 8 11 a'))\/(j=some (.exit 0)/\False)) ?_
  (λE l' R' hE hY=>Ua hE b false T hT (by omega) (λ_ a=>Je 8 11 a) (OY l low e) (.exit 0) (λ_=>False) ⟨[],low,e,0⟩ h0 _ λk a x n hP hk hx=>hY _ _ _ _ ⟨k,a,x,hP,hk,hx,rfl,rfl,rfl⟩) ?_
 ·rintro l' ds H n Φ ⟨k,⟨o,lw,lf,g⟩,x,⟨p1,p2,p3,p4,p6,p7⟩,hk,hxT,rfl,rfl,rfl⟩
  dsimp only at p1 p2 p3 p4 p6 p7;obtain⟨y,hy1,hy2,hy3⟩:=hoA k (by omega);rw[hy3]at hxT;cases hxT;have hd:l.drop k=y::l.drop (k+1):=by
   have:=(List.getElem?_eq_some_iff.1 hy2)
   rw[EI this.1,this.2]
  rw[hd]at p2;have hb:=hx y hy1;have cO:=ho y hy1 (min (y.mass-min y.mass lw) lf);have p5:(o++[y.w (min (y.mass-min y.mass lw) lf)])++Lh (l.drop (k+1)) (lw-min y.mass lw) (lf-min (y.mass-min y.mass lw) lf)=Lh l low e:=by
   rw[<-p2,Do];rfl
  have a1:IntKind.i64.wrap (lw-min y.mass lw)=lw-min y.mass lw:=wI (by omega) (by omega);have a2:IntKind.i64.wrap (y.mass-min y.mass lw)=y.mass-min y.mass lw:=wI (by omega) (by omega);have a3:IntKind.i64.wrap (lf-min (y.mass-min y.mass lw) lf)=lf-min (y.mass-min y.mass lw) lf:=wI (by omega) (by omega);have q1:0<=lw-min y.mass lw/\lw-min y.mass lw<=1000000000000/\0<=lf-min (y.mass-min y.mass lw) lf/\lf-min (y.mass-min y.mass lw) lf<=1000000000000000:=by omega
  refine⟨rfl,λF=>?_⟩;unfold AF.w AF.D at cO;unfold AF.D;dsimp only at cO⊢;obtain⟨SD,hSD⟩:∃d,CT false y.shs=d:=⟨_,rfl⟩
  have pS:AA SD:=by rw[<-hSD];exact AJ
  rw[hSD]at cO⊢;rcases o with _|⟨z,o⟩
  ·rw[Xu]
   dsimp only[Ga];refine Aq w1 400 (by kernel_rfl) ?_;refine AE kB ?_;refine⟨trivial,trivial,λF'=>?_⟩;refine AI TM (At a1 a2 a3) cO AB AB AB AB AB ?_;refine .inl ⟨rfl,⟨[y.w (min (y.mass-min y.mass lw) lf)],lw-min y.mass lw,lf-min (y.mass-min y.mass lw) lf,n+1+1+1+1+1+1+1+1+1+1+1+1+1+1+1+1+1+1+1+1+1+1+7⟩,⟨by rw[<-p1];rfl,p5,q1⟩,?_⟩;rw[P6,<-hSD];exact .keep (.drop (Gt _))
  ·have hol:o.length<=1000000:=by rw[Bo]at p1;omega
   rw[P6];dsimp only[Ga];obtain⟨O,hO⟩:∃O,o.map AF.D=O:=⟨_,rfl⟩
   obtain⟨zD,hzD⟩:∃O,z.D=O:=⟨_,rfl⟩
   have hOl:O.length=o.length:=by rw[<-hO,Am]
   rw[hO,hzD];refine Aq w1 400 (by kernel_rfl) ?_;refine AE kB ?_;refine⟨trivial,trivial,λF'=>?_⟩;refine AI TM (At a1 a2 a3) cO AB AB AB AB AB ?_;rw[show List.take (O.length+1) (zD::O)=zD::O from C8 (l:=zD::O)];refine .inl ⟨rfl,⟨z::o++[y.w (min (y.mass-min y.mass lw) lf)],lw-min y.mass lw,lf-min (y.mass-min y.mass lw) lf,n+1+1+1+1+1+1+1+1+1+1+1+1+1+1+1+1+1+1+1+1+1+1+7⟩,⟨by rw[<-p1];simp,p5,q1⟩,?_⟩;have hs:∀g' a b,Je 8 11 ⟨z::o++[y.w (min (y.mass-min y.mass lw) lf)],a,b,g'⟩=[⟨905,g',27,3,zD::O++[.agg [str (sb y.grain),i64 (min (y.mass-min y.mass lw) lf),SD]]⟩,⟨200,11,22,1,[.osl 905 g' 3 0 (O.length+1+1)]⟩,⟨106,8,3,1,[i64 b]⟩,⟨0,0,3,1,[i64 a]⟩]:=λg' a b=>by
    rw[ES,P6,<-hO,<-hzD,<-hSD,Cv];rw[Bk];rfl
   rw[hs];exact .keep (.drop (Gt _))
 ·rintro j d H' n' F' hE
  rcases hE with⟨rfl,⟨o,lw,lf,g⟩,⟨p1,p2,-⟩,rfl⟩|⟨-,h⟩
  rotate_left
  ·exact h.elim
  dsimp only at p2;rw[List.drop_eq_nil_of_le (by omega)]at p2;have ho2:o=Lh l low e:=by rw[<-p2];exact(DX o).symm
  rw[<-ho2]at hN;rcases o with _|⟨z,o⟩
  ·rw[Xu]
   change AC _ _ _ _ _ _ _;refine sR 1000 ?_;refine BF.pure [.sl false 3 []] _ ⟨.nil 3,trivial⟩ hN AJ ?_;refine BO ?_;refine Al ?_;exact AN rfl pR.out
  ·have hR:=FQ (H:=Je 8 11 ⟨z::o,lw,lf,g⟩) (Hf:=[]) (k:=905) (g:=g) (T:=27) (sz:=3) (l:=(z::o).map AF.D) rfl
   have hle:((z::o).map AF.D).length=(o.map AF.D).length+1:=rfl;rw[hle]at hR;rw[P6]at hR⊢;change AC _ _ _ _ _ _ _;refine sR 1000 ?_;refine BF.own _ (CO.give [] hN (.drop (.drop (.drop (.drop .nil)))) ⟨hR,trivial⟩ AJ) ?_;rintro d H2 n2 ⟨rfl,rfl,rfl⟩;refine BO ?_;refine Al ?_;exact AN rfl pR.out
def Qe (lot:List UInt8)(x:AF):Bool:=x.shs.any λs=>BK (sb s.lot) (sb lot)
def Kw (lot:List UInt8):List AF->Int->List (Int×Int)
 | [],_=>[]
 |x::r,n=>(if Qe lot x then[(n+1,n+x.mass)]else[])++Kw lot r (n+x.mass)
def Fi (p:Int×Int):D:=.agg [i64 p.1,i64 p.2]
instance  (p:Int×Int):AW (Fi p):=by unfold Fi;exact AJ
instance  (p:Int×Int):AA (Fi p):=by unfold Fi;exact AJ
theorem vf (lot:List UInt8)(s:Av):AK C0 187 [s.D,.pptr (str (sb lot))] (As (BK (sb s.lot) (sb lot))):=by
 refine Ak.walk w1 ZF rfl λF=>?_
 unfold Av.D;refine AI Af kB AB AB AB AB AB AB ?_;exact AN rfl AA.out
theorem vF (b:Bool)(l:List Av)(c:D)[pc:AA c](p:Av->Bool)(hl:l.length<=1000000)(hc:∀x∈l,AK C0 187 [x.D,c] (As (p x))):AK C0 233 [CT b l,.clo (.func 187) [] [c]] (i64 (Jj p l)):=by
 refine Ak.walk w1 Zb rfl λF=>?_
 have el:(((l.map Av.D).length:Nat):Int)=(l.length:Int):=by rw[Am]
 refine AI Af el AB AB AB AB AB AB ?_;refine AC.loop (α:=Nat×Nat) (λp=>⟨[(0,CT b l),(1,.clo (.func 187) [] [c]),(7,i64 l.length),(8,i64 (p.1:Int))],[],p.2⟩) (λp=>l.length-p.1) (λq=>q.1<=l.length/\∀(j:Nat) (x:Av),j<q.1->l[j]?=some x->p x=false) (0,_) ⟨BU _,λj x hj=>AZ hj (GP j)⟩ AL ?_;rintro⟨i,n⟩ F ⟨hi,ha⟩;dsimp only at hi ha⊢;rcases BG i l.length with h2|h2
 rotate_left
 ·have e1:=CW h2
  have:i=l.length:=by omega
  subst this;refine AI Af e1 AB AB AB AB AB AB ?_;exact AN (by rw[SU ha]) AA.out
 have e1:=CX h2;have wi:=CY (i:=i) (by omega);obtain⟨x,hx⟩:=CG h2;have hm:(l.map Av.D)[i]?=some (.agg [str (sb x.lot),str (sb x.part)]):=by rw[A7,hx];rfl
 have cn:=hc x (A0 hx);unfold Av.D at cn;cases hb:p x
 ·rw[hb]at cn
  refine AI Af (At e1 wi kN) hm cn AB AB AB AB ?_;refine⟨(i+1,_),⟨h2,λj z hj hjz=>?_⟩,by dsimp only;omega,AL⟩;rcases BG j i with h|h
  ·exact ha j z h hjz
  ·have:j=i:=by dsimp only at hj;omega
   subst this;rw[hx]at hjz;cases hjz;exact hb
 ·rw[hb]at cn
  refine AI Af (At e1 wi kN) hm cn AB AB AB AB ?_;exact AN (by rw[TQ hx hb ha]) AA.out
theorem vB (b:Bool)(l:List Av)(c:D)[pc:AA c](p:Av->Bool)(hl:l.length<=1000000)(hc:∀x∈l,AK C0 187 [x.D,c] (As (p x))):AK C0 186 [CT b l,.clo (.func 187) [] [c]] (As (l.any p)):=by
 refine Ak.walk w1 Z6 rfl λF=>?_
 have c1:=vF b l c p hl hc;have e1:=TR p l;refine AI Af e1 c1 AB AB AB AB AB ?_;exact AN rfl AA.out
structure VD where
 o:List (Int×Int)
 n:Int
 g:Nat
def Jy (lot:List UInt8)(g1 g2:Nat)(p:VD):Hp:=Dj 609 p.g 132 2 (p.o.map Fi)++[⟨200,g2,3,1,[i64 p.n]⟩,⟨100,g1,130,1,[Dt 609 p.g 2 (p.o.map Fi)]⟩,⟨0,0,9,1,[str (sb lot)]⟩]
theorem YT (lot:List UInt8)(g1 g2:Nat)(n:Int)(g:Nat):Jy lot g1 g2 ⟨[],n,g⟩=[⟨200,g2,3,1,[i64 n]⟩,⟨100,g1,130,1,[CK]⟩,⟨0,0,9,1,[str (sb lot)]⟩]:=rfl
theorem P2 (lot:List UInt8)(g1 g2:Nat)(z:Int×Int)(o:List (Int×Int))(n:Int)(g:Nat):Jy lot g1 g2 ⟨z::o,n,g⟩=[⟨609,g,132,2,Fi z::o.map Fi⟩,⟨200,g2,3,1,[i64 n]⟩,⟨100,g1,130,1,[.osl 609 g 2 0 ((o.map Fi).length+1)]⟩,⟨0,0,9,1,[str (sb lot)]⟩]:=rfl
def Oo (lot:List UInt8)(l:List AF)(k:Nat)(p:VD):Prop:=p.o.length<=k/\p.o++Kw lot (l.drop k) p.n=Kw lot l 0/\0<=p.n/\p.n<=(k:Int)*1000000000
theorem eW (b:Bool)(l:List AF)(lot:List UInt8)(hl:l.length<=1000000)(hx:∀x∈l,0<=x.mass/\x.mass<=1000000000/\x.shs.length<=1000000):
  AK C0 142 [Ae b l,str (sb lot)] (.sl false 2 ((Kw lot l 0).map Fi)):=by
 refine Ak.walk w1 Zn rfl λF=>?_
 have cV:=Sz b false (l.map AF.D);have hT:∀x∈l.map AF.D,∃a c d,x=.agg [a,c,d]:=λx hx=>by
  obtain⟨y,-,rfl⟩:=List.mem_map.1 hx;exact⟨_,_,_,rfl⟩
 have hoA:∀k,k<l.length->∃y,y∈l/\l[k]?=some y/\(l.map AF.D)[if false then(l.map AF.D).length-1-k else k]?=some y.D:=λk hk=>⟨_,List.getElem_mem hk,BI hk,by
  show(l.map AF.D)[k]?=_;rw[A7,BI hk];rfl⟩
 unfold Ae;obtain⟨T,hTT⟩:∃T,l.map AF.D=T:=⟨_,rfl⟩
 have pT:AA (.sl b 3 T):=by rw[<-hTT];exact AJ
 have hTl:T.length=l.length:=by rw[<-hTT,Am]
 rw[hTT]at cV hT hoA⊢;refine AI Af kB cV AB AB AB AB AB ?_;have h0:Oo lot l 0 ⟨[],0,0⟩:=⟨Ai _,rfl,Int.le_refl _,Int.le_refl _⟩
 refine AC.rangeFunc (fi:=185) (first:=[]) (captured:=[.pptr (.sl b 3 T),.pptr (As false)]) (Ψ:=λj _ H' _=>(j=none/\∃a,Oo lot l T.length a/\H'=Jy lot 2 3 a)\/(j=some (.exit 0)/\False)) rfl
  (λds H n Φ=>∃k a x,Oo lot l k a/\k<T.length/\T[if false then T.length-1-k else k]?=some x/\ds=[x]/\H=Jy lot 2 3 a/\Φ=λj H' _=>(j=none/\∃a',Oo lot l (k+1) a'/\Cb H' (Jy lot 2 3 a') H' (Jy lot 2 3 a'))\/(j=some (.exit 0)/\False)) ?_
  (λE l' R' hE hY=>Ua hE b false T hT (by omega) (λ_ a=>Jy lot 2 3 a) (Oo lot l) (.exit 0) (λ_=>False) ⟨[],0,0⟩ h0 _ λk a x n hP hk hx=>hY _ _ _ _ ⟨k,a,x,hP,hk,hx,rfl,rfl,rfl⟩) ?_
 ·rintro l' ds H n Φ ⟨k,⟨o,nn,g⟩,x,⟨p1,p2,p3,p4⟩,hk,hxT,rfl,rfl,rfl⟩
  dsimp only at p1 p2 p3 p4;obtain⟨y,hy1,hy2,hy3⟩:=hoA k (by omega);rw[hy3]at hxT;cases hxT;have hd:l.drop k=y::l.drop (k+1):=by
   have:=(List.getElem?_eq_some_iff.1 hy2)
   rw[EI this.1,this.2]
  rw[hd]at p2;have hb:=hx y hy1;have cH:=vB false y.shs (.pptr (str (sb lot))) (λs=>BK (sb s.lot) (sb lot)) hb.2.2 λs _=>vf lot s
  have hK:(y.shs.any λs=>BK (sb s.lot) (sb lot))=Qe lot y:=rfl;rw[hK]at cH;have p5:(o++(if Qe lot y then[(nn+1,nn+y.mass)]else[]))++Kw lot (l.drop (k+1)) (nn+y.mass)=Kw lot l 0:=by
   rw[<-p2,Do];rfl
  obtain⟨K,hKK⟩:∃K,Qe lot y=K:=⟨_,rfl⟩
  rw[hKK]at cH p5;have a1:IntKind.i64.wrap (nn+y.mass)=nn+y.mass:=wI (by omega) (by omega);have a2:IntKind.i64.wrap (nn+1)=nn+1:=wI (by omega) (by omega);have q1:0<=nn+y.mass/\nn+y.mass<=((k+1:Nat):Int)*1000000000:=by omega
  refine⟨rfl,λF=>?_⟩;unfold AF.D;unfold CT at cH⊢;obtain⟨SD,hSD⟩:∃d,y.shs.map Av.D=d:=⟨_,rfl⟩
  have pS:AA (.sl false 2 SD):=by rw[<-hSD];exact AJ
  rw[hSD]at cH⊢;rcases o with _|⟨z,o⟩
  ·rw[YT]
   dsimp only[Ga];refine Aq w1 400 (by kernel_rfl) ?_;refine AE kB ?_;refine⟨trivial,trivial,λF'=>?_⟩;refine AI Af kB AB AB AB AB AB AB ?_;refine BF.own _ (L0 cH rfl (λi a d h1 h2=>by
    match i with
    | 0=>cases h1;cases h2;exact .refl _ _
    | 1=>cases h1;cases h2;exact .clo1 (.ptr rfl rfl rfl rfl)
    |n+2=>cases h1) AJ (.prim _)) ?_
   rintro d H' n' ⟨rfl,rfl,rfl⟩;cases K
   ·refine AI Af (Ac a1 a2) AB AB AB AB AB AB ?_
    exact .inl ⟨rfl,⟨[],nn+y.mass,0⟩,⟨BU _,p5,q1⟩,.drop (Gt _)⟩
   ·refine AI Af (Ac a1 a2) AB AB AB AB AB AB ?_
    exact .inl ⟨rfl,⟨[(nn+1,nn+y.mass)],nn+y.mass,n+1+1+1+1+1+1+1+1+1+1+1+1+1+1+1⟩,⟨by simp,p5,q1⟩,.keep (.drop (Gt _))⟩
  ·have hol:o.length<=1000000:=by rw[Bo]at p1;omega
   rw[P2];dsimp only[Ga];obtain⟨O,hO⟩:∃O,o.map Fi=O:=⟨_,rfl⟩
   obtain⟨zD,hzD⟩:∃O,Fi z=O:=⟨_,rfl⟩
   have hOl:O.length=o.length:=by rw[<-hO,Am]
   rw[hO,hzD];refine Aq w1 400 (by kernel_rfl) ?_;refine AE kB ?_;refine⟨trivial,trivial,λF'=>?_⟩;refine AI Af kB AB AB AB AB AB AB ?_;refine BF.own _ (L0 cH rfl (λi a d h1 h2=>by
    match i with
    | 0=>cases h1;cases h2;exact .refl _ _
    | 1=>cases h1;cases h2;exact .clo1 (.ptr rfl rfl rfl rfl)
    |n+2=>cases h1) AJ (.prim _)) ?_
   rintro d H' n' ⟨rfl,rfl,rfl⟩;cases K
   ·refine AI Af (Ac a1 a2) AB AB AB AB AB AB ?_
    refine .inl ⟨rfl,⟨z::o,nn+y.mass,g⟩,⟨Nat.le_succ_of_le p1,by rw[<-p5,AG Bool.false_ne_true,DX],q1⟩,?_⟩;rw[P2,hO,hzD];exact .drop (Gt _)
   ·refine AI Af (Ac a1 a2) AB AB AB AB AB AB ?_
    rw[show List.take (O.length+1) (zD::O)=zD::O from C8 (l:=zD::O)];refine .inl ⟨rfl,⟨z::o++[(nn+1,nn+y.mass)],nn+y.mass,n+1+1+1+1+1+1+1+1+1+1+1+1+1+1+1⟩,⟨by rw[Bk];exact Nat.succ_le_succ p1,p5,q1⟩,?_⟩;have hs:∀g' a,Jy lot 2 3 ⟨z::o++[(nn+1,nn+y.mass)],a,g'⟩=[⟨609,g',132,2,zD::O++[.agg [i64 (nn+1),i64 (nn+y.mass)]]⟩,⟨200,3,3,1,[i64 a]⟩,⟨100,2,130,1,[.osl 609 g' 2 0 (O.length+1+1)]⟩,⟨0,0,9,1,[str (sb lot)]⟩]:=λg' a=>by
     rw[ES,P2,<-hO,<-hzD,Cv];rw[Bk];rfl
    rw[hs];exact .keep (.drop (Gt _))
 ·rintro j d H' n' F' hE
  rcases hE with⟨rfl,⟨o,nn,g⟩,⟨p1,p2,-⟩,rfl⟩|⟨-,h⟩
  rotate_left
  ·exact h.elim
  dsimp only at p2;rw[List.drop_eq_nil_of_le (by omega)]at p2;have ho2:o=Kw lot l 0:=by rw[<-p2];exact(DX o).symm
  rw[<-ho2];rcases o with _|⟨z,o⟩
  ·rw[YT]
   change AC _ _ _ _ _ _ _;refine sR 800 ?_;refine Al ?_;exact⟨_,.nil 2,AA.out,rfl⟩
  ·have hR:=FQ (H:=Jy lot 2 3 ⟨z::o,nn,g⟩) (Hf:=[]) (k:=609) (g:=g) (T:=132) (sz:=2) (l:=(z::o).map Fi) rfl
   have hle:((z::o).map Fi).length=(o.map Fi).length+1:=rfl;rw[hle]at hR;rw[P2]at hR⊢;change AC _ _ _ _ _ _ _;refine sR 800 ?_;refine Al ?_;exact⟨_,hR,AA.out,rfl⟩
theorem oP {a b:Int}(h:DP [a,b]=0):a=0/\b=0:=by
 have h1:(if a≠0 then a else if b≠0 then b else 0)=0:=h
 by_cases h0:a=0
 ·rw[AG (λq=>q h0)]at h1
  by_cases h2:b=0
  ·exact⟨h0,h2⟩
  ·rw[AH h2]at h1;exact AZ h1 h2
 ·rw[AH h0]at h1;exact AZ h1 h0
theorem kJ (R:List AF)(x:AF):(EG R x).length<=R.length+1:=by
 unfold EG;split
 ·split
  ·rw[Bk,List.length_dropLast,GQ];omega
  ·rw[Bk];exact Ai _
 ·simp
theorem X9 (l:List AF):(Bl l).length<=l.length:=by
 have:∀(l R:List AF),(l.foldl EG R).length<=R.length+l.length:=λl=>by
  induction l with
  |nil=>exact λ_=>Ai _
  |cons x l ih=>
   intro R;have h1:=ih (EG R x);have h2:=kJ R x;rw[List.foldl_cons,Bo];omega
 have:=this l []
 unfold Bl;simpa using this
abbrev Hx:Dr:=[(5,[0,1,2,3,4,5],[6,7,8,9,10]),(8,[0,1,2,3,4,5],[6]),(9,[0,1,2,3,4,5,6,7,8,9,10],[11,12,13,14])]
open Go.Proofs Go.RowKit
set_option maxRecDepth 20000
set_option maxHeartbeats 4000000
def Jc:BT:=⟨[],0,0,0,[]⟩
def BV (x:BT)(i:Int):List AF:=x.cells.getD i.toNat []
def C7 (x:BT)(i:Int)(l:List AF):BT:=Jb x i.toNat (Bl (BV x i++l))
def Fm (x:BT)(i:Int)(l:List AF):Int:=DP [Ha x [i],(Bx l:Int)]
def GZ (x:BT)(i:Int)(l:List AF):Int:=DP [((if CJ (BV x i++l)then 0 else 16:Nat):Int),if decide (Cx (BV x i++l)>x.room)then 14 else 0]
def Iq (x:BT)(i:Int)(l:List AF):Int:=DP [if FZ x.side (De (C7 x i l))then 17 else 0,if decide (((Bl (BV x i++l)).length:Int)>64)then 5 else 0]
def Ev (x:BT)(i:Int)(l:List AF):Int:=if Fm x i l≠0 then Fm x i l else if GZ x i l≠0 then GZ x i l else Iq x i l
def Gb (x:BT)(i:Int)(l:List AF):BT:=if Ev x i l≠0 then Jc else C7 x i l
theorem mH {x:BT}(h:Eg x=0):∀c∈x.cells,Eh x c=0:=by
 unfold Eg at h
 by_cases h1:IV x=0
 ·rw[AG (λq=>q h1)]at h
  by_cases h2:Es x x.cells=0
  ·exact SA h2
  ·rw[AH h2]at h;exact AZ h h2
 ·rw[AH h1]at h;exact AZ h h1
theorem oE {x:BT}{i:Int}(h:Ha x [i]=0):Eg x=0/\0<=i/\i<(x.cells.length:Int):=by
 unfold Ha at h
 by_cases h1:Eg x=0
 ·rw[AG (λq=>q h1)]at h
  refine⟨h1,?_⟩;cases hb:IW x i
  ·simp[hb]at h
  ·unfold IW Dx at hb
   rw[Ba,decide_eq_true_iff,decide_eq_true_iff]at hb;omega
 ·rw[AH h1]at h;exact AZ h h1
structure KX (x:BT)(i:Int)(l:List AF):Prop where
 cel:∀c∈x.cells,Eh x c=0
 lt:i.toNat<x.cells.length
 ii:i=(i.toNat:Int)
 par:Bx l=0
 at_:x.cells[i.toNat]?=some (BV x i)
 bin:Eg x=0
theorem TZ {x:BT}{i:Int}{l:List AF}(h:Fm x i l=0):KX x i l:=by
 obtain⟨h1,h2⟩:=oP h;obtain⟨g1,g2,g3⟩:=oE h1;have hlt:i.toNat<x.cells.length:=by omega
 refine⟨mH g1,hlt,by omega,by omega,?_,g1⟩;unfold BV;rw[Ei,BI hlt];rfl
theorem KX.pc {x:BT}{i:Int}{l:List AF}(h:KX x i l):Bx (BV x i)=0:=(Mf (h.cel _ (A0 h.at_))).1
theorem KX.all {x:BT}{i:Int}{l:List AF}(h:KX x i l):∀y∈BV x i++l,1<=y.mass/\y.mass<=1000000000/\y.shs.length<=1000000:=λy hy=>by
 rcases List.mem_append.1 hy with k|k
 ·exact(Fk h.pc).2.1 y k
 ·exact(Fk h.par).2.1 y k
theorem KX.len {x:BT}{i:Int}{l:List AF}(h:KX x i l):(BV x i).length<=64/\l.length<=64:=⟨(Fk h.pc).1,(Fk h.par).1⟩
theorem vL (x:BT)(hl:x.cells.length<=1000000)(hc:∀c∈x.cells,c.length<=1000000/\∀y∈c,y.few)(i:Int)(l:List AF)(hll:l.length<=1000000)(hfl:∀y∈l,y.few):AK C0 41 [x.D,i64 i,Ae false l] (.tup [(Gb x i l).D,i64 (Ev x i l)]):=by
 refine Ak.walk w1 bP rfl λF=>?_
 have cC:=vN x hl hc [i] (by simp);have cP:=Lr false l (by omega) hfl;have cF1:=KP [Ha x [i],(Bx l:Int)] (by simp);rw[show DP [Ha x [i],(Bx l:Int)]=Fm x i l from rfl]at cF1;have hE:Ev x i l=if Fm x i l≠0 then Fm x i l else if GZ x i l≠0 then GZ x i l else Iq x i l:=rfl
 have hB:Gb x i l=if Ev x i l≠0 then Jc else C7 x i l:=rfl
 have hz:Jc.D=.agg [str (sb []),i64 0,i64 0,i64 0,.sl false 1 []]:=rfl;have pz:AA (.tup [Jc.D,i64 (Ev x i l)]):=AJ;rw[hz]at pz
 by_cases h0:Fm x i l=0
 rotate_left
 ·have k2:(Fm x i l != 0)=true:=Ii h0
  rw[AH h0]at hE;rw[hE,AH h0]at hB;rw[hE]at pz;rw[hB,hE,hz];unfold BT.D at cC⊢;refine AI Hx k2 cC cP cF1 AB AB AB ?_;exact⟨_,FS (In (.nil 1)) (.refl _),pz.out,rfl⟩
 have k2:(Fm x i l != 0)=false:=by rw[h0];rfl
 rw[AG (λh=>h h0)]at hE;have ok:=TZ h0;obtain⟨ln1,ln2⟩:=ok.len;have hall:=ok.all;have hlA:(BV x i++l).length<=128:=by rw[Bk];omega
 have cCC:=ji [BV x i,l] (by rw[show[BV x i,l].flatten=BV x i++l by simp];omega) (by simp);rw[show[BV x i,l].flatten=BV x i++l by simp]at cCC;have cG:=SW false (BV x i++l) (by omega);have cT:=UN false (BV x i++l) (by omega);have cW1:=GY (decide (Cx (BV x i++l)>x.room)) 14;have cF2:=KP [((if CJ (BV x i++l)then 0 else 16:Nat):Int),if decide (Cx (BV x i++l)>x.room)then 14 else 0] (by simp);rw[show DP [((if CJ (BV x i++l)then 0 else 16:Nat):Int),if decide (Cx (BV x i++l)>x.room)then 14 else 0]=GZ x i l from rfl]at cF2;have hat:(x.cells.map (Ae false))[i.toNat]?=some (.sl false 3 ((BV x i).map AF.D)):=by rw[A7,ok.at_];rfl
 have hi0:0<=i:=by have:=ok.ii;omega
 have hil:i<(x.cells.length:Int):=by have:=ok.ii;have:=ok.lt;omega
 have el:(((x.cells.map (Ae false)).length:Nat):Int)=(x.cells.length:Int):=by rw[Am]
 by_cases h1:GZ x i l=0
 rotate_left
 ·have k3:(GZ x i l != 0)=true:=Ii h1
  rw[AH h1]at hE;rw[hE,AH h1]at hB;rw[hE]at pz;rw[hB,hE,hz];unfold BT.D at cC⊢;refine AI Hx (Ac k2 el) cC cP cF1 hat cCC AB ?_;refine AI Hx (Ac k3 el) cG cT cW1 cF2 AB AB ?_;exact⟨_,FS (In (.nil 1)) (.refl _),pz.out,rfl⟩
 have k3:(GZ x i l != 0)=false:=by rw[h1];rfl
 rw[AG (λh=>h h1)]at hE;have cN:=Wj false (BV x i++l) (by omega) hall;have cWi:=vP x i.toNat ok.lt hl (λc hq=>Wj false c (hc c hq).1 (Fk (Mf (ok.cel c hq)).1).2.1) (Bl (BV x i++l));rw[<-ok.ii,show Jb x i.toNat (Bl (BV x i++l))=C7 x i l from rfl]at cWi;have hol:(C7 x i l).cells.length=x.cells.length:=by
  show((x.cells.map Bl).set _ _).length=_;rw[C9,Am]
 have hoc:∀c∈(C7 x i l).cells,c.length<=1000000:=λc hq=>by
  rcases O4 hq with h|h
  ·obtain⟨d,h1,rfl⟩:=List.mem_map.1 h
   have:=X9 d
   have:=(hc d h1).1
   omega
  ·rw[h];have:=X9 (BV x i++l);omega
 have cLv:=Xs (C7 x i l) (by omega) λc h=>by have:=hoc c h;omega
 have cSt:=Yp x false (De (C7 x i l)) (by unfold De;rw[Am];omega);have hat2:((C7 x i l).cells.map (Ae false))[i.toNat]?=some (.sl false 3 ((Bl (BV x i++l)).map AF.D)):=by
  rw[A7];show Option.map _ (((x.cells.map Bl).set i.toNat (Bl (BV x i++l)))[i.toNat]?)=_;rw[O8 (by rw[Am];exact ok.lt)];rfl
 have el2:((((Bl (BV x i++l)).map AF.D).length:Nat):Int)=((Bl (BV x i++l)).length:Int):=by rw[Am]
 have cW2:=GY (decide (((Bl (BV x i++l)).length:Int)>64)) 5;have cF3:=KP [if FZ x.side (De (C7 x i l))then 17 else 0,if decide (((Bl (BV x i++l)).length:Int)>64)then 5 else 0] (by simp);rw[show DP [if FZ x.side (De (C7 x i l))then 17 else 0,if decide (((Bl (BV x i++l)).length:Int)>64)then 5 else 0]=Iq x i l from rfl]at cF3;have hoD:(C7 x i l).D=.agg [str (sb x.flow),i64 x.core,i64 x.room,i64 x.side,.sl false 1 ((C7 x i l).cells.map (Ae false))]:=rfl;have po:AA (.tup [(C7 x i l).D,i64 (Ev x i l)]):=AJ;have GT:AA (C7 x i l).D:=AJ;have polen:((((C7 x i l).cells.map (Ae false)).length:Nat):Int)=(x.cells.length:Int):=by rw[Am,hol]
 rw[hoD]at cWi cLv po GT;obtain⟨OD,hOD⟩:∃O,(C7 x i l).cells.map (Ae false)=O:=⟨_,rfl⟩
 rw[hOD]at cWi cLv po GT hat2 polen hoD
 by_cases h2:Iq x i l=0
 rotate_left
 ·have k4:(Iq x i l != 0)=true:=Ii h2
  rw[hE,AH h2]at hB;rw[hE]at pz;rw[hB,hE,hz];unfold BT.D at cC cWi cSt⊢;refine AI Hx (Ac k2 el) cC cP cF1 hat cCC AB ?_;refine AI Hx (Ac k3 el) cG cT cW1 cF2 AB AB ?_;refine AI Hx (At k4 el el2) cN cWi cLv cSt hat2 AB ?_;refine AI Hx (At k4 el el2) cW2 cF3 AB AB AB AB ?_;exact⟨_,FS (In (.nil 1)) (.refl _),pz.out,rfl⟩
 ·have k4:(Iq x i l != 0)=false:=by rw[h2];rfl
  rw[hE,AG (λh=>h h2)]at hB;rw[hE,h2]at po;rw[hB,hE,h2,hoD];unfold BT.D at cC cWi cSt⊢;refine AI Hx (Ac k2 el) cC cP cF1 hat cCC AB ?_;refine AI Hx (Ac k3 el) cG cT cW1 cF2 AB AB ?_;refine AI Hx (At k4 el el2) cN cWi cLv cSt hat2 AB ?_;refine AI Hx (At k4 el el2) cW2 cF3 AB AB AB AB ?_;exact AN rfl po.out
theorem bw:∀ {l R:List AF} {k:Nat},NA k R->(∀x∈l,0<=x.mass/\x.mass<=1000000000/\x.shs.length<=1000000)->NA (k+l.length) (l.foldl EG R)
 | [],_,_,h,_=>h
 |x::l,R,k,h,hx=>by
  have h1:=bw (Sd h (hx x (Cg ..))) λy hy=>hx y (Cn _ hy)
  rw[List.foldl_cons,Bo,show k+(l.length+1)=k+1+l.length by omega];exact h1
theorem UP {l:List AF}(hx:∀x∈l,0<=x.mass/\x.mass<=1000000000/\x.shs.length<=1000000):(Bl l).length<=l.length/\∀y∈Bl l,0<=y.mass/\y.mass<=(l.length:Int)*1000000000/\y.shs.length<=1000000:=by
 have:=bw (l:=l) (R:=[]) (k:=0) ⟨Ai _,λy h=>by cases h⟩ hx
 rw[BP]at this;exact this
theorem ML (a b:List AF):An (a++b)=An a+An b:=by
 unfold An;rw[Cv,List.sum_append]
theorem kK (R:List AF)(x:AF):An (EG R x)=An R+x.mass:=by
 unfold EG;split
 ·rename_i y hy
  have hR:R=R.dropLast++[y]:=by
   have hne:R≠[]:=λh=>by rw[h]at hy;cases hy
   have:=List.getLast?_eq_some_getLast hne
   rw[this]at hy;cases hy;exact(List.dropLast_concat_getLast hne).symm
  split
  ·rw[ML]
   conv=>rhs;rw[hR,ML]
   unfold An AF.w;simp;omega
  ·rw[ML];unfold An;simp
 ·rename_i hy
  have:R=[]:=List.getLast?_eq_none_iff.1 hy
  rw[this];unfold An;simp
theorem mQ (l:List AF):An (Bl l)=An l:=by
 have:∀(l R:List AF),An (l.foldl EG R)=An R+An l:=λl=>by
  induction l with
  |nil=>intro R;unfold An;simp
  |cons x l ih=>
   intro R;rw[List.foldl_cons,ih,kK];unfold An;simp;omega
 have h:=this l [];rw[show An ([]:List AF)=0 from rfl,Int.zero_add]at h;exact h
theorem nu {l:List AF}(h:∀x∈l,0<=x.mass)(hs:An l<=1000000000000000000):Cx l=An l:=by
 have:∀(l:List AF) (a:Int),0<=a->(∀x∈l,0<=x.mass)->a+An l<=1000000000000000000->l.foldl (λa x=>IntKind.i64.wrap (a+x.mass)) a=a+An l:=λl=>by
  induction l with
  |nil=>intro a _ _ _;unfold An;simp
  |cons x l ih=>
   intro a ha hx hs;have h1:=hx x (Cg ..);have h2:=KI λy hy=>hx y (Cn _ hy)
   have h3:An (x::l)=x.mass+An l:=by unfold An;rfl
   rw[h3]at hs⊢;rw[List.foldl_cons,wI (by omega) (by omega),ih _ (by omega) (λy hy=>hx y (Cn _ hy)) (by omega)];omega
 have h1:=this l 0 (Int.le_refl _) h (by omega);rw[Int.zero_add]at h1;exact h1
abbrev JK:Dr:=[(3,[0,1,2,3,4,5,6,7],[8]),(5,[0,1,2,3,4,5,6,7,8,9,10,11,12],[13])]
abbrev TP:Dr:=[(6,[0,1,2,3,4,5,6,7,8,9],[10,11])]
open Go.Proofs Go.RowKit
set_option maxRecDepth 20000
set_option maxHeartbeats 4000000
def Ug (E2 E8 E10:Au)(i:Nat):Option Au:=match i with
 | 8=>some E2
 | 10=>some E8
 | 11=>some E10
 |_=>none
def Ot (i:Nat):Option Nat:=match i with
 | 2=>some 8
 | 8=>some 10
 | 10=>some 11
 |_=>none
theorem jm {ops:Array Oper}{d0 d1 d2 d3 d4 d5 d6 d7 d8 d9 d10 d11 d12:D}{E2 E8 E10 E11 E12:Au}(h1:DR ops 8 2)(h2:DR ops 10 8)(h3:DR ops 11 10):
  Md ops (Kk ops [(0,d0,none),(1,d1,none),(2,d2,some E2),(3,d3,none),(4,d4,none),(5,d5,none),(6,d6,none),(7,d7,none),(8,d8,some E8),(9,d9,none),(10,d10,some E10),(11,d11,some E11),(12,d12,some E12)]) (Ug E2 E8 E10) Ot:=by
 constructor
 ·intro r hr e he
  simp only[Kk,Cc,List.map_nil,BA,DM,or_false]at hr;rcases hr with rfl|rfl|rfl|rfl|rfl|rfl|rfl|rfl|rfl|rfl|rfl|rfl|rfl<;>dsimp only[Ug]at he<;>first
   |(cases he;done)
   |(cases he;exact⟨⟨2,ops.getD 2 default,d2,some _⟩,by simp[Kk],rfl,rfl⟩)
   |(cases he;exact⟨⟨8,ops.getD 8 default,d8,some _⟩,by simp[Kk],rfl,rfl⟩)
   |(cases he;exact⟨⟨10,ops.getD 10 default,d10,some _⟩,by simp[Kk],rfl,rfl⟩)
 ·intro r hr j hj
  simp only[Kk,Cc,List.map_nil,BA,DM,or_false]at hr;rcases hr with rfl|rfl|rfl|rfl|rfl|rfl|rfl|rfl|rfl|rfl|rfl|rfl|rfl<;>dsimp only[Ot]at hj<;>first
   |(cases hj;done)
   |(cases hj;exact⟨by simp[Kk],rfl,by assumption⟩)
 ·intro r hr r' hr' j hj hj'
  have key:∀i k:Nat,Ot i=some k->(i=2/\k=8)\/(i=8/\k=10)\/(i=10/\k=11):=λi k h=>by
   unfold Ot at h;split at h<;>first|(cases h;simp;done)|cases h
  rcases key _ _ hj with⟨a,b⟩|⟨a,b⟩|⟨a,b⟩<;>rcases key _ _ hj' with⟨c,d⟩|⟨c,d⟩|⟨c,d⟩<;>omega
theorem kt {x:BT}{i:Int}{l:List AF}(h:KX x i l):GZ x i l=if CJ (BV x i++l)=false then 16 else if An (BV x i)+An l>x.room then 14 else 0:=by
 have ga:=(KS h.pc).2.2;have gb:=(KS h.par).2.2;have hS:An (BV x i++l)=An (BV x i)+An l:=ML _ _;have ht:=nu (l:=BV x i++l) (λy hy=>by have:=(h.all y hy).1;omega) (by omega);unfold GZ;rw[ht,hS];cases CJ (BV x i++l)
 ·rfl
 ·by_cases hr:An (BV x i)+An l>x.room
  ·show DP [((0:Nat):Int),if decide (An (BV x i)+An l>x.room)=true then(14:Int)else 0]=(if An (BV x i)+An l>x.room then(14:Int)else 0)
   rw[AH hr,AY hr];rfl
  ·show DP [((0:Nat):Int),if decide (An (BV x i)+An l>x.room)=true then(14:Int)else 0]=(if An (BV x i)+An l>x.room then(14:Int)else 0)
   rw[AG hr,Ah hr];rfl
theorem ku {x:BT}{i:Int}{l:List AF}:Iq x i l=if FZ x.side (De (C7 x i l))then 17 else if 64<(Bl (BV x i++l)).length then 5 else 0:=by
 unfold Iq;cases FZ x.side (De (C7 x i l))
 ·by_cases hr:64<(Bl (BV x i++l)).length
  ·rw[AH hr,AY (show((Bl (BV x i++l)).length:Int)>64 by omega)];rfl
  ·rw[AG hr,Ah (show ¬((Bl (BV x i++l)).length:Int)>64 by omega)];rfl
 ·rfl
theorem Wm {l:List AF}(h1:∀x∈l,1<=x.mass/\x.mass<=1000000000/\x.shs.length<=1000000)(h2:l.length<=1000000)(h3:An l<=1000000000):H7 (Bl l)/\0<=An (Bl l)/\An (Bl l)=An l:=by
 have h0:∀x∈l,0<=x.mass/\x.mass<=1000000000/\x.shs.length<=1000000:=λx hx=>⟨by have:=(h1 x hx).1;omega,(h1 x hx).2⟩
 obtain⟨b1,b2⟩:=UP h0;have b3:=mQ l;refine⟨⟨by omega,λy hy=>?_⟩,?_,b3⟩
 ·have hy0:=(b2 y hy).1
  have:y.mass<=An (Bl l):=by
   obtain⟨A,B,hAB⟩:=D9 hy;rw[hAB,ML,show An (y::B)=y.mass+An B from rfl];have p1:=KI (l:=A) λz hz=>(b2 z (by rw[hAB];exact Jq _ hz)).1
   have p2:=KI (l:=B) λz hz=>(b2 z (by rw[hAB];exact List.mem_append_right _ (Cn _ hz))).1
   omega
  omega
 ·exact KI λz hz=>(b2 z hz).1
theorem ja {x:BT}(h:Eg x=0):0<=x.side/\x.side<=999999999/\x.room<=999999999/\x.cells.length<=8:=by
 have h1:IV x=0:=by
  unfold Eg at h
  by_cases h1:IV x=0
  ·exact h1
  ·rw[AH h1]at h;exact AZ h h1
 rw[an]at h1;split at h1
 ·cases h1
 split at h1
 ·cases h1
 rename_i hr;split at h1
 ·cases h1
 split at h1
 ·cases h1
 rename_i hn;unfold Lw at hr;simp only[L1,Gk,not_or]at hr;obtain⟨⟨⟨⟨-,-⟩,h3⟩,h4⟩,h5⟩:=hr;omega
theorem vS (x:BT)(i:Int)(l:List AF)(h0:Fm x i l=0)(hc:∀c∈x.cells,c.length<=1000000):AK C0 42 [x.D,i64 i,Ae false l] (.tup [(Gb x i l).D,i64 (Ev x i l)]):=by
 refine Ak.walk w1 un rfl λF=>?_
 have ok:=TZ h0;obtain⟨s1,s2,s3,s4⟩:=ja ok.bin;have hE:Ev x i l=if GZ x i l≠0 then GZ x i l else Iq x i l:=AG (λh=>h h0)
 have hB:Gb x i l=if Ev x i l≠0 then Jc else C7 x i l:=rfl
 have hz:Jc.D=.agg [str (sb []),i64 0,i64 0,i64 0,.sl false 1 []]:=rfl;have pz:AA (.tup [Jc.D,i64 (Ev x i l)]):=AJ;rw[hz]at pz;obtain⟨ln1,ln2⟩:=ok.len;have hall:=ok.all;have ga:=(KS ok.pc).2.2;have gb:=(KS ok.par).2.2;have hlA:(BV x i++l).length<=128:=by rw[Bk];omega
 have hat:(x.cells.map (Ae false))[i.toNat]?=some (.sl false 3 ((BV x i).map AF.D)):=by rw[A7,ok.at_];rfl
 have hi0:0<=i:=by have:=ok.ii;omega
 have hil:i<(x.cells.length:Int):=by have:=ok.ii;have:=ok.lt;omega
 have cG:=Ya false (BV x i++l) (by omega);have cLv:=Tx x i.toNat (BV x i) ok.at_ (Fk ok.pc).2.2 (by omega);rw[<-ok.ii]at cLv;have cMl:=Ub false l (Fk ok.par).2.2;have hALn:((BV x i).map AF.D).length=(BV x i).length:=Am ..;have hBLn:(l.map AF.D).length=l.length:=Am ..;have hAB:(BV x i).map AF.D++l.map AF.D=(BV x i++l).map AF.D:=Cv.symm;have hE2:=kt ok;have hE3:=@ku x i l;unfold Ae at cG;rw[<-hAB]at cG;obtain⟨AD,hAD⟩:∃T,(BV x i).map AF.D=T:=⟨_,rfl⟩
 have pAD:AA (.sl false 3 AD):=by rw[<-hAD];exact AJ
 obtain⟨BD,hBD⟩:∃T,l.map AF.D=T:=⟨_,rfl⟩
 have pBD:AA (.sl false 3 BD):=by rw[<-hBD];exact AJ
 unfold Ae at cMl⊢;rw[hAD]at hALn hAB hat cG;rw[hBD]at hBLn hAB cG cMl⊢;have f1:∀l:List D,([]:List D)++l=l:=FM;have f2:∀n,List.take n ([]:List D)=[]:=λn=>List.take_nil
 have hB0:x.D=.agg [str (sb x.flow),i64 x.core,i64 x.room,i64 x.side,.sl false 1 (x.cells.map (Ae false))]:=rfl;rw[hB0]at cLv⊢;have hN:∀c∈x.cells,AK C0 40 [Ae false c] (Ae false (Bl c)):=λc hq=>YO false c (hc c hq) (Fk (Mf (ok.cel c hq)).1).2.1
 have cN:=YO false (BV x i++l) (by omega) hall;have cW:=uq x i.toNat ok.lt (by omega) hN (BV x i++l) cN;rw[<-ok.ii,show Jb x i.toNat (Bl (BV x i++l))=C7 x i l from rfl]at cW;unfold Ae at cW;rw[<-hAB]at cW;have hoD:(C7 x i l).D=.agg [str (sb x.flow),i64 x.core,i64 x.room,i64 x.side,.sl false 1 ((C7 x i l).cells.map (Ae false))]:=rfl;have hol:(C7 x i l).cells.length=x.cells.length:=by
  show((x.cells.map Bl).set _ _).length=_;rw[C9,Am]
 have hS:An (BV x i++l)=An (BV x i)+An l:=ML _ _;have wS:IntKind.i64.wrap (An (BV x i)+An l)=An (BV x i)+An l:=by
  have g1:=KI (l:=BV x i) λy hy=>by have:=((Fk ok.pc).2.1 y hy).1;omega
  have g2:=KI (l:=l) λy hy=>by have:=((Fk ok.par).2.1 y hy).1;omega
  exact wI (by omega) (by omega)
 have hsf:An (BV x i)+An l<=x.room->AK C0 80 [(C7 x i l).D] (As (!FZ x.side (De (C7 x i l)))):=λhr=>by
  refine bq (C7 x i l) (by omega) (λc hq=>?_) ⟨s1,s2⟩;rcases O4 hq with hq|hq
  ·obtain⟨d,hd,rfl⟩:=List.mem_map.1 hq
   have pd:=Mf (ok.cel d hd)
   have:=Wm (Fk pd.1).2.1 (hc d hd) (by omega)
   exact⟨this.1,this.2.1,by omega⟩
  ·rw[hq]
   have:=Wm hall (by omega) (by omega)
   exact⟨this.1,this.2.1,by omega⟩
 have hat2:((C7 x i l).cells.map (Ae false))[i.toNat]?=some (.sl false 3 ((Bl (BV x i++l)).map AF.D)):=by
  rw[A7];show Option.map _ (((x.cells.map Bl).set i.toNat (Bl (BV x i++l)))[i.toNat]?)=_;rw[O8 (by rw[Am];exact ok.lt)];rfl
 have el2:((((Bl (BV x i++l)).map AF.D).length:Nat):Int)=((Bl (BV x i++l)).length:Int):=by rw[Am]
 have po:AA (.tup [(C7 x i l).D,i64 (Ev x i l)]):=AJ;have GT:AA (C7 x i l).D:=AJ;rw[hoD]at cW po GT hsf;obtain⟨OD,hOD⟩:∃O,(C7 x i l).cells.map (Ae false)=O:=⟨_,rfl⟩
 rw[hOD]at cW po GT hat2 hoD hsf;obtain⟨XD,hXD⟩:∃X,x.cells.map (Ae false)=X:=⟨_,rfl⟩
 have pX:AA (.sl false 1 XD):=by rw[<-hXD];exact AJ
 have cX:AW (.agg [str (sb x.flow),i64 x.core,i64 x.room,i64 x.side,.sl false 1 XD]):=by rw[<-hXD];exact(AJ:AW x.D)
 rw[hB0,hXD]at cW;rw[hXD]at cLv hat⊢;have pAB:AA (.sl false 3 (AD++BD)):=by rw[hAB];exact AJ
 cases hsg:CJ (BV x i++l)
 ·rw[hsg,AH rfl]at hE2
  rw[hE2,AH (by decide)]at hE;rw[hE,AH (by decide)]at hB;rw[hE]at pz;rw[hB,hE,hz];rw[hsg]at cG;refine AI JK (At f1 f2 BP) hat AB AB AB AB AB ?_;rw[C8];have hR:=FQ (H:=[⟨108,11,27,3,AD++BD⟩,⟨1,1,48,5,[.agg [.prim (.string ⟨#[]⟩),.prim (.int .i64 0),.prim (.int .i64 0),.prim (.int .i64 0),.prim (.slice none 0 0)]]⟩,⟨0,0,48,5,[.agg [str (sb x.flow),i64 x.core,i64 x.room,i64 x.side,.sl false 1 XD]]⟩]) (Hf:=[⟨1,1,48,5,[.agg [.prim (.string ⟨#[]⟩),.prim (.int .i64 0),.prim (.int .i64 0),.prim (.int .i64 0),.prim (.slice none 0 0)]]⟩,⟨0,0,48,5,[.agg [str (sb x.flow),i64 x.core,i64 x.room,i64 x.side,.sl false 1 XD]]⟩]) (k:=108) (g:=11) (T:=27) (sz:=3) (l:=AD++BD) rfl;rw[Bk]at hR;refine BF.own _ (CO.give _ cG (.drop (.keep (.keep .nil))) ⟨hR,trivial⟩ AJ) ?_;rintro d H2 n2 ⟨rfl,rfl,rfl⟩;refine AI JK kB AB AB AB AB AB AB ?_;exact⟨_,FS (In (.nil 1)) (.refl _),pz.out,rfl⟩
 rw[hsg]at cG;rw[hsg,AG (by decide)]at hE2;refine sR 0 ?_;refine Dg ⟨[(1,i64 i),(2,.sl false 3 BD),(3,.optr 0 0 5 0 0),(6,.optr 1 1 5 0 0)],[⟨1,1,48,5,[.agg [.prim (.string ⟨#[]⟩),.prim (.int .i64 0),.prim (.int .i64 0),.prim (.int .i64 0),.prim (.slice none 0 0)]]⟩,⟨0,0,48,5,[.agg [str (sb x.flow),i64 x.core,i64 x.room,i64 x.side,.sl false 1 XD]]⟩],50⟩ ?_ ?_
 ·have hkk:True:=trivial
  refine AI JK (At f1 f2 BP) hat AB AB AB AB AB ?_;rw[C8];have hR:=FQ (H:=[⟨108,11,27,3,AD++BD⟩,⟨1,1,48,5,[.agg [.prim (.string ⟨#[]⟩),.prim (.int .i64 0),.prim (.int .i64 0),.prim (.int .i64 0),.prim (.slice none 0 0)]]⟩,⟨0,0,48,5,[.agg [str (sb x.flow),i64 x.core,i64 x.room,i64 x.side,.sl false 1 XD]]⟩]) (Hf:=[⟨1,1,48,5,[.agg [.prim (.string ⟨#[]⟩),.prim (.int .i64 0),.prim (.int .i64 0),.prim (.int .i64 0),.prim (.slice none 0 0)]]⟩,⟨0,0,48,5,[.agg [str (sb x.flow),i64 x.core,i64 x.room,i64 x.side,.sl false 1 XD]]⟩]) (k:=108) (g:=11) (T:=27) (sz:=3) (l:=AD++BD) rfl;rw[Bk]at hR;refine BF.own _ (CO.give _ cG (.drop (.keep (.keep .nil))) ⟨hR,trivial⟩ AJ) ?_;rintro d H2 n2 ⟨rfl,rfl,rfl⟩;refine AI JK kB AB AB AB AB AB AB ?_;exact⟨trivial,AL⟩
 by_cases hr:An (BV x i)+An l>x.room
 ·have k3:decide (An (BV x i)+An l>x.room)=true:=AY hr
  rw[AH hr]at hE2;rw[hE2,AH (by decide)]at hE;rw[hE,AH (by decide)]at hB;rw[hE]at pz;rw[hB,hE,hz];refine AI JK (Ac @wS k3) cLv cMl AB AB AB AB ?_;exact⟨_,FS (In (.nil 1)) (.refl _),pz.out,rfl⟩
 have k3:decide (An (BV x i)+An l>x.room)=false:=Ah hr;rw[AG hr]at hE2;rw[hE2,AG (λh=>h rfl)]at hE;have hsf:=hsf (by omega);refine Dg ⟨[(1,i64 i),(2,.sl false 3 BD),(3,.optr 0 0 5 0 0),(6,.optr 1 1 5 0 0)],[⟨1,1,48,5,[.agg [.prim (.string ⟨#[]⟩),.prim (.int .i64 0),.prim (.int .i64 0),.prim (.int .i64 0),.prim (.slice none 0 0)]]⟩,⟨0,0,48,5,[.agg [str (sb x.flow),i64 x.core,i64 x.room,i64 x.side,.sl false 1 XD]]⟩],100⟩ ?_ ?_
 ·refine AI JK (Ac @wS k3) cLv cMl AB AB AB AB ?_
  exact⟨trivial,AL⟩
 have hAl:AD.length<=64:=by omega
 have hBl:BD.length<=64:=by omega
 have q1:[].take 0++AD=AD:=rfl;have q2:(AD).take (0+AD.length)=AD:=by rw[BP,C8]
 refine AC.seq ?_;refine xX w1 500 [0,1,2,3,4,5,6,7,8,9,10,11,12] [13] (use:=Ot) (con:=Ug ⟨502,102,27,3,[]⟩ ⟨508,108,27,3,[].take 0++AD⟩ ⟨510,110,27,3,([].take 0++AD).take (0+AD.length)++BD⟩)
  (rs:=Kk _ [(0,.agg [str (sb x.flow),i64 x.core,i64 x.room,i64 x.side,.sl false 1 XD],none),(1,i64 i,none),(2,.osl 502 102 3 0 0,some ⟨502,102,27,3,[]⟩),(3,.optr 0 0 5 0 4,none),(4,.sl false 1 XD,none),(5,i64 i,none),(6,.pptr (.sl false 3 AD),none),(7,.sl false 3 AD,none),(8,.osl 508 108 3 0 (0+AD.length),some ⟨508,108,27,3,[].take 0++AD⟩),(9,.sl false 3 BD,none),(10,.osl 510 110 3 0 (0+AD.length+BD.length),some ⟨510,110,27,3,([].take 0++AD).take (0+AD.length)++BD⟩),(11,.agg [str (sb x.flow),i64 x.core,i64 x.room,i64 x.side,.sl false 1 OD],some ⟨511,111,27,3,[]⟩),(12,.optr 512 112 5 0 0,some ⟨512,112,48,5,[.agg [.prim (.string ⟨#[]⟩),.prim (.int .i64 0),.prim (.int .i64 0),.prim (.int .i64 0),.prim (.slice none 0 0)]]⟩)])
  (N:=[⟨511,111,27,3,[]⟩,⟨512,112,48,5,[.agg [.prim (.string ⟨#[]⟩),.prim (.int .i64 0),.prim (.int .i64 0),.prim (.int .i64 0),.prim (.slice none 0 0)]]⟩])
  (by kernel_rfl) rfl (jm (Su (l:=[0,1,2,3,4,5,6,7,8,9,10,11,12]) (by kernel_rfl)) (Su (l:=[0,1,2,3,4,5,6,7,8,9,10,11,12]) (by kernel_rfl)) (Su (l:=[0,1,2,3,4,5,6,7,8,9,10,11,12]) (by kernel_rfl))) (Oa.at ?_) (List.Perm.refl _) ?_
 ·refine And.intro (And.intro rfl (Or.inl (And.intro rfl (B3.l' 500 w1.tt rfl rfl (by exact B6))))) ?_
  refine And.intro (And.intro rfl (Or.inl (And.intro rfl (B3.p w1.tt rfl rfl AB)))) ?_;refine And.intro (And.intro rfl (Or.inl (And.intro rfl (B3.l' 502 w1.tt rfl rfl AB)))) ?_;refine And.intro (And.intro rfl (Or.inl (And.intro rfl (B3.p w1.tt rfl rfl AB)))) ?_;refine And.intro (And.intro rfl (Or.inl (And.intro rfl (B3.l' 504 w1.tt rfl rfl (by exact B6))))) ?_;refine And.intro (And.intro rfl (Or.inl (And.intro rfl (B3.p w1.tt rfl rfl AB)))) ?_;refine And.intro (And.intro rfl (Or.inl (And.intro rfl (B3.idx w1.tt rfl rfl rfl rfl rfl rfl hi0 hat)))) ?_;refine And.intro (And.intro rfl (Or.inl (And.intro rfl (B3.l' 507 w1.tt rfl rfl (by exact B6))))) ?_;refine And.intro (And.intro rfl (Or.inr ⟨_,_,rfl,rfl,KL.app 508 w1.tt rfl rfl ⟨rfl,rfl,rfl,rfl,rfl,Ai _,by show(0+AD.length)*48<=140737488355328;omega,by decide,by decide⟩⟩)) ?_;refine And.intro (And.intro rfl (Or.inl (And.intro rfl (B3.p w1.tt rfl rfl AB)))) ?_;refine And.intro (And.intro rfl (Or.inr ⟨_,_,rfl,rfl,KL.app 510 w1.tt rfl rfl ⟨rfl,rfl,rfl,rfl,rfl,by show 0+AD.length<=([]++AD).length;rw[FM];omega,by show(0+AD.length+BD.length)*48<=140737488355328;omega,by decide,by decide⟩⟩)) ?_;refine And.intro (And.intro rfl (Or.inr ⟨_,_,rfl,rfl,KL.give 511 27 3 (ds':=[.agg [str (sb x.flow),i64 x.core,i64 x.room,i64 x.side,.sl false 1 XD],i64 i,.sl false 3 (AD++BD)]) rfl rfl rfl rfl rfl (λj a b h1 h2=>?_) cW AJ⟩)) ?_
  ·match j with
   | 0=>cases h1;cases h2;exact I8.refl _
   | 1=>cases h1;cases h2;exact I8.refl _
   | 2=>
    cases h1;cases h2
    have:=I8.osl (C:=C0) (F:=F) (e:=⟨510,110,27,3,([].take 0++AD).take (0+AD.length)++BD⟩) (len:=0+AD.length+BD.length) (by
     show(((([]:List D).take 0++AD).take (0+AD.length))++BD).length=_;rw[q1,q2,Bk,BP])
    rw[q1,q2]at this⊢;exact this
   |j+3=>cases h1
  refine And.intro (And.intro rfl (Or.inl (And.intro rfl (B3.l' 512 w1.tt rfl rfl AB)))) ?_;exact AB
 change Cq _ _ _ _ _ ⟨(8,.optr 512 112 5 0 0)::(42,.agg [str (sb x.flow),i64 x.core,i64 x.room,i64 x.side,.sl false 1 OD])::(41,.osl 510 110 3 0 (0+AD.length+BD.length))::(40,.sl false 3 BD)::(39,.osl 508 108 3 0 (0+AD.length))::(38,.sl false 3 AD)::(37,.pptr (.sl false 3 AD))::(36,i64 i)::(35,.sl false 1 XD)::(34,.optr 0 0 5 0 4)::(33,.osl 502 102 3 0 0)::(32,i64 i)::(31,.agg [str (sb x.flow),i64 x.core,i64 x.room,i64 x.side,.sl false 1 XD])::_,_,_⟩ _ _;refine AE kB ?_
 by_cases hst:FZ x.side (De (C7 x i l))=true
 ·rw[hst]at hsf
  rw[hst,AH rfl]at hE3;rw[hE3]at hE;rw[hE,AH (by decide)]at hB;rw[hE]at pz;rw[hB,hE,hz];refine AI JK kB hsf AB AB AB AB AB ?_;exact⟨_,FS (In (.nil 1)) (.refl _),pz.out,rfl⟩
 rw[Bool.not_eq_true]at hst;rw[hst]at hsf;rw[hst,AG (by decide)]at hE3
 by_cases h64:64<(Bl (BV x i++l)).length
 ·have k4:decide (((Bl (BV x i++l)).length:Int)>64)=true:=AY (by omega)
  rw[AH h64]at hE3;rw[hE3]at hE;rw[hE,AH (by decide)]at hB;rw[hE]at pz;rw[hB,hE,hz];refine AI JK (BW k4 el2 kT kF) hsf hat2 AB AB AB AB ?_;exact⟨_,FS (In (.nil 1)) (.refl _),pz.out,rfl⟩
 ·have k4:decide (((Bl (BV x i++l)).length:Int)>64)=false:=Ah (by omega)
  rw[AG h64]at hE3;rw[hE3]at hE;rw[hE,AG (λh=>h rfl)]at hB;rw[hE]at po;rw[hB,hE,hoD];refine AI JK (BW k4 el2 kT kF) hsf hat2 AB AB AB AB ?_;exact AN rfl po.out
theorem lI (x:BT)(hl:x.cells.length<=1000000)(hc:∀c∈x.cells,c.length<=1000000/\∀y∈c,y.shs.length<=1000000):AK C0 43 [x.D,x.D] (As true):=by
 refine Ak.walk w1 uo rfl λF=>?_
 obtain⟨cs,hcs⟩:∃c,x.cells=c:=⟨_,rfl⟩
 have el:(((cs.map (Ae false)).length:Nat):Int)=(cs.length:Int):=by rw[Am]
 have q0:BK (sb x.flow) (sb x.flow)=true:=by rw[Sv];exact AY rfl
 have q1:(x.core != x.core)=false:=bne_self_eq_false _;have q2:(x.room != x.room)=false:=bne_self_eq_false _;have q3:(x.side != x.side)=false:=bne_self_eq_false _;have q4:((cs.length:Int) != (cs.length:Int))=false:=bne_self_eq_false _;unfold BT.D;rw[hcs]at hl hc⊢;refine AI TP (CF el q0 q1 q2 q3 q4 (Ac kT kF)) AB AB AB AB AB AB ?_;refine AC.loop (α:=Nat×Nat) (λp=>⟨[(2,.optr 0 0 5 0 0),(3,.optr 1 1 5 0 0),(5,i64 (p.1:Int))],[⟨1,1,48,5,[.agg [str (sb x.flow),i64 x.core,i64 x.room,i64 x.side,EN false cs]]⟩,⟨0,0,48,5,[.agg [str (sb x.flow),i64 x.core,i64 x.room,i64 x.side,EN false cs]]⟩],p.2⟩) (λp=>cs.length-p.1) (λq=>q.1<=cs.length) (0,_) (BU _) AL ?_;rintro⟨i,n⟩ F hi;dsimp only at hi⊢;rcases BG i cs.length with h2|h2
 rotate_left
 ·have e1:=CW h2
  have:i=cs.length:=by omega
  subst this;refine AI TP (Ac e1 el) AB AB AB AB AB AB ?_;exact AN rfl AA.out
 have e1:=CX h2;have wi:=CY (i:=i) (by omega);obtain⟨c,hc'⟩:=CG h2;have hm:(cs.map (Ae false))[i]?=some (.sl false 3 (c.map AF.D)):=by rw[A7,hc'];rfl
 have cc:=hc c (A0 hc');have cS:=nZ false false c cc.1 cc.2;refine AI TP (D2 e1 el wi kT kF kN) hm cS AB AB AB AB ?_;exact⟨(i+1,_),h2,by dsimp only;omega,AL⟩
open Go.Sort
def On (x:BT):Bool:=x.cells.all F8&&(decide (x.flow.length<=100)&&decide (x.cells.length<=20))
theorem kD (x:BT)(hl:x.cells.length<=9223372036854775807)(hs:∀c∈x.cells,c.length<=9223372036854775807/\∀y∈c,y.shs.length<=9223372036854775807):AK C0 29 [x.D] (As (On x)):=by
 refine Ak.walk w1 ug rfl λF=>?_
 obtain⟨cs,hcs⟩:∃c,x.cells=c:=⟨_,rfl⟩
 have el:(((cs.map (Ae false)).length:Nat):Int)=(cs.length:Int):=by rw[Am]
 have hb:On x=(cs.all F8&&(decide (x.flow.length<=100)&&decide (cs.length<=20))):=by rw[<-hcs];rfl
 rw[hb];unfold BT.D;rw[hcs]at hl hs⊢;refine AI Af el AB AB AB AB AB AB ?_;refine AC.loop (α:=Nat×Nat) (λp=>⟨[(1,.optr 0 0 5 0 0),(6,EN false cs),(7,i64 (cs.length:Int)),(8,i64 (p.1:Int))],[⟨0,0,48,5,[.agg [str (sb x.flow),i64 x.core,i64 x.room,i64 x.side,EN false cs]]⟩],p.2⟩) (λp=>cs.length-p.1) (λq=>q.1<=cs.length/\(cs.take q.1).all F8=true) (0,_) ⟨BU _,rfl⟩ AL ?_;rintro⟨i,n⟩ F ⟨hi,ha⟩;dsimp only at hi ha⊢;rcases BG i cs.length with h2|h2
 rotate_left
 ·have e1:=CW h2
  have:i=cs.length:=by omega
  subst this;rw[C8]at ha;rw[ha,Hj];have hsz:=Ce x.flow;have d1:decide (x.flow.length<=100)=decide ((x.flow.length:Int)<=100):=Cz.2 (by omega);have d2:decide (cs.length<=20)=decide ((cs.length:Int)<=20):=Cz.2 (by omega);rw[d1,d2];obtain⟨q1,h1⟩:∃q,decide ((x.flow.length:Int)<=100)=q:=⟨_,rfl⟩
  rw[h1];cases q1
  all_goals
   refine AI Af (D2 e1 hsz el h1 kT kF) AB AB AB AB AB AB ?_;exact AN rfl AA.out
 have e1:=CX h2;have wi:=CY (i:=i) (by omega);obtain⟨c,hc⟩:=CG h2;have hm:(cs.map (Ae false))[i]?=some (.sl false 3 (c.map AF.D)):=by rw[A7,hc];rfl
 obtain⟨hs1,hs2⟩:=hs c (A0 hc);have cS:=ar false c hs1 hs2;have htk:cs.take (i+1)=cs.take i++[c]:=by rw[Dh,hc];rfl
 cases hq:F8 c
 ·rw[hq]at cS
  have hall:cs.all F8=false:=by
   rw[List.all_eq_false];exact⟨c,A0 hc,by rw[hq];exact Bool.false_ne_true⟩
  rw[hall,I1];refine AI Af (At e1 kT kF) hm cS AB AB AB AB ?_;exact AN rfl AA.out
 ·rw[hq]at cS
  refine AI Af (BW e1 wi kT kF) hm cS AB AB AB AB ?_;exact⟨(i+1,_),⟨h2,by dsimp only;rw[htk,Ks,ha,Fs,hq];rfl⟩,by dsimp only;omega,AL⟩
theorem tT {x:BT}(h:On x=true):x.cells.length<=20/\x.flow.length<=100/\∀c∈x.cells,(∀y∈c,y.lite/\y.modr)/\c.length<=80:=by
 unfold On at h;rw[Ba,Ba,decide_eq_true_iff,decide_eq_true_iff,CQ]at h;obtain⟨h1,h2,h3⟩:=h;refine⟨h3,h2,λc hc=>?_⟩;obtain⟨g1,g2,_⟩:=YR (h1 c hc);exact⟨g1,g2⟩
theorem mh {H Hf r r':Hp}{k g T sz:Nat}{a b c d s s':D}(h:Fz H Hf s s')(hr:Cb H Hf r r'):Cb H Hf (⟨k,g,T,sz,[.agg [a,b,c,d,s]]⟩::r) (⟨k,g,T,sz,[.agg [a,b,c,d,s']]⟩::r'):=by
 refine Cb.turn (e:=⟨k,g,T,sz,[.agg [a,b,c,d,s]]⟩) rfl (λj e e' q1 q2=>?_) (λj e e' q f f' q1 q2 q3 q4=>?_) hr
 ·match j with
  | 0=>cases q1;cases q2;rfl
  |j+1=>cases q1
 ·match j with
  | 0=>
   cases q1;cases q2
   match q with
   | 0=>cases q3;cases q4;exact .refl _
   | 1=>cases q3;cases q4;exact .refl _
   | 2=>cases q3;cases q4;exact .refl _
   | 3=>cases q3;cases q4;exact .refl _
   | 4=>cases q3;cases q4;exact h
   |q+5=>cases q3
  |j+1=>cases q1
theorem gE {x:BT}{i:Int}{l:List AF}(hx:x.cells.length<=20/\∀c∈x.cells,c.length<=80):(Gb x i l).cells.length<=20/\(Ev x i l=0->∀c∈(Gb x i l).cells,c.length<=1000/\∀y∈c,y.shs.length<=1000000):=by
 unfold Gb
 by_cases h:Ev x i l=0
 ·rw[AG (λq=>q h)]
  have h1:Fm x i l=0:=by
   unfold Ev at h
   by_cases h1:Fm x i l=0
   ·exact h1
   ·rw[AH h1]at h;exact AZ h h1
  have ok:=TZ h1;refine⟨?_,λ_ c hq=>?_⟩
  ·show((x.cells.map Bl).set _ _).length<=_
   rw[C9,Am];exact hx.1
  ·rcases O4 hq with hq|hq
   ·obtain⟨d,hd,rfl⟩:=List.mem_map.1 hq
    have h0:∀y∈d,0<=y.mass/\y.mass<=1000000000/\y.shs.length<=1000000:=λy hy=>by
     have:=(Fk (Mf (ok.cel d hd)).1).2.1 y hy
     exact⟨by omega,this.2⟩
    obtain⟨b1,b2⟩:=UP h0
    have:=hx.2 d hd
    exact⟨by omega,λy hy=>(b2 y hy).2.2⟩
   ·rw[hq]
    have h0:∀y∈BV x i++l,0<=y.mass/\y.mass<=1000000000/\y.shs.length<=1000000:=λy hy=>by
     have:=ok.all y hy
     exact⟨by omega,this.2⟩
    obtain⟨b1,b2⟩:=UP h0;obtain⟨l1,l2⟩:=ok.len;exact⟨by rw[Bk]at b1;omega,λy hy=>(b2 y hy).2.2⟩
 ·rw[AH h]
  exact⟨by decide,λq=>AZ q h⟩
theorem sr (ha:AK C0 10 [] (As true))(x:BT)(hl:x.cells.length<=9223372036854775807)(hs:∀c∈x.cells,c.length<=9223372036854775807/\∀y∈c,y.shs.length<=9223372036854775807)(i:Int)(l:List AF)(hll:l.length<=9223372036854775807)(hsl:∀y∈l,y.shs.length<=9223372036854775807):AK C0 7 [x.D,i64 i,Ae false l] (As true):=by
 refine Ak.walk w1 wW rfl λF=>?_
 have cS:=kD x hl hs;have cSh:=ar false l hll hsl;have hk:=@tT x;have hk2:=@YR l;have cF:=vL x;have cC:=mz x;have cRF:=vS x i l;have cR:=cz false l;have hsm:=@gE x i l;have hE:Ev x i l=if Fm x i l≠0 then Fm x i l else if GZ x i l≠0 then GZ x i l else Iq x i l:=rfl
 have hB:Gb x i l=if Ev x i l≠0 then Jc else C7 x i l:=rfl
 have cF1:=tF [Ha x [i],(Bx l:Int)] (by simp);rw[show DP [Ha x [i],(Bx l:Int)]=Fm x i l from rfl]at cF1;have cSB:=lI (Gb x i l);have hz:Jc.D=.agg [str (sb []),i64 0,i64 0,i64 0,.sl false 1 []]:=rfl;have hx:∃a b c d e,x.D=.agg [a,b,c,d,e]:=⟨_,_,_,_,_,rfl⟩
 have px:AA x.D:=AJ;have px2:AW x.D:=AJ;obtain⟨a1,a2,a3,a4,a5,hx⟩:=hx;rw[hx]at cS cF cC cRF px px2⊢;have ho:∃a b c d e,(Gb x i l).D=.agg [a,b,c,d,.sl false 1 e]:=⟨_,_,_,_,_,rfl⟩
 have po:AA (Gb x i l).D:=AJ;have po2:AW (Gb x i l).D:=AJ;cases hsh:On x
 ·rw[hsh]at cS
  refine AI Af kB cS ha AB AB AB AB ?_;exact AN rfl AA.out
 cases hsh2:F8 l
 ·rw[hsh]at cS
  rw[hsh2]at cSh;refine AI Af kB cS cSh ha AB AB AB ?_;exact AN rfl AA.out
 rw[hsh]at cS;rw[hsh2]at cSh;obtain⟨k1,k2,k3⟩:=hk hsh;obtain⟨m1,m2,m3⟩:=hk2 hsh2;have cF:=cF (by omega) (λc q=>⟨by have:=(k3 c q).2;omega,λy h=>((k3 c q).1 y h).1.1⟩) i l (by omega) λy h=>(m1 y h).1.1
 have cC:=cC (by omega) (λc q=>⟨by have:=(k3 c q).2;omega,λy h=>((k3 c q).1 y h).2⟩) i;have cRF:=λh=>cRF h λc q=>by have:=(k3 c q).2;omega
 have cR:=cR (by omega) λy h=>(m1 y h).2
 have hsm:=hsm ⟨k1,λc q=>(k3 c q).2⟩;have cSB:=cSB (by omega) λc hq=>by
  by_cases h:Ev x i l=0
  ·have:=hsm.2 h c hq;exact⟨by omega,this.2⟩
  ·unfold Gb at hq;rw[AH h]at hq;cases hq
 have hb0:Ev x i l≠0->∃e,e=[]/\(Gb x i l).D=.agg [str (sb []),i64 0,i64 0,i64 0,.sl false 1 e]:=λh=>⟨[],rfl,by rw[hB,AH h];exact hz⟩
 obtain⟨o1,o2,o3,o4,o5,ho⟩:=ho;rw[ho]at cF cRF cSB po po2 hb0;obtain⟨E,hEE⟩:∃E,Ev x i l=E:=⟨_,rfl⟩
 obtain⟨E1,hEE1⟩:∃E,Fm x i l=E:=⟨_,rfl⟩
 rw[hEE]at cF cRF hE hB hb0;rw[hEE1]at cRF cF1 hE;have n1:(E==E)=true:=beq_self_eq_true _;refine sR 0 ?_;refine Dg ⟨[(1,i64 i),(2,Ae false l),(3,.optr 0 0 5 0 0)],[⟨0,0,48,5,[.agg [a1,a2,a3,a4,a5]]⟩],100⟩ ?_ ?_
 ·refine AI Af kB cS cSh AB AB AB AB ?_
  exact⟨trivial,AL⟩
 refine Dg ⟨[(1,i64 i),(2,Ae false l),(3,.optr 0 0 5 0 0),(7,.optr 307 107 5 0 0),(8,i64 E)],[⟨307,107,48,5,[.agg [o1,o2,o3,o4,.sl false 1 o5]]⟩,⟨0,0,48,5,[.agg [a1,a2,a3,a4,a5]]⟩],200⟩ ?_ ?_
 ·refine AI Af kB cF AB AB AB AB AB ?_
  exact⟨trivial,AL⟩
 refine Dg ⟨[(1,i64 i),(2,Ae false l),(3,.optr 0 0 5 0 0),(7,.optr 307 107 5 0 0),(8,i64 E),(9,i64 E1)],[⟨307,107,48,5,[.agg [o1,o2,o3,o4,.sl false 1 o5]]⟩,⟨0,0,48,5,[.agg [a1,a2,a3,a4,a5]]⟩],300⟩ ?_ ?_
 ·refine AI Af kB cC cR cF1 AB AB AB ?_
  exact⟨trivial,AL⟩
 refine sR 500 ?_;refine Dg ⟨[(7,.optr 307 107 5 0 0),(8,i64 E),(9,i64 E),(10,.optr 500 300 5 0 0)],[⟨500,300,48,5,[.agg [o1,o2,o3,o4,.sl false 1 o5]]⟩,⟨307,107,48,5,[.agg [o1,o2,o3,o4,.sl false 1 o5]]⟩,⟨0,0,48,5,[.agg [a1,a2,a3,a4,a5]]⟩],400⟩ ?_ ?_
 ·by_cases h1:E1=0
  ·have q0:(E1==0)=true:=by rw[h1];rfl
   have cRF:=cRF h1;refine AI Af q0 cRF AB AB AB AB AB ?_;exact⟨trivial,AL⟩
  ·have q0:(E1==0)=false:=Bq.2 h1
   rw[AH h1]at hE;subst hE;obtain⟨e,rfl,he⟩:=hb0 h1;simp only[D.agg.injEq,Ek,D.sl.injEq,true_and,and_true]at he;obtain⟨rfl,rfl,rfl,rfl,rfl⟩:=he;refine AI Af q0 AB AB AB AB AB AB ?_;exact⟨trivial,AL (a:=mh (.nil 1) (.keep (.keep .nil)))⟩
 refine AI Af n1 cSB ha AB AB AB AB ?_;exact AN rfl AA.out
def tA:List UInt8:=[97]
def tB:List UInt8:=[98]
def Er:List UInt8:=[119,104,101,97,116]
def MR:List UInt8:=[102,117,110,110,101,108]
def Cm (m:Int):AF:=⟨Er,m,[⟨tA,[49]⟩]⟩
def C6 (m:Int):AF:=⟨Er,m,[⟨tA,[49,47,50]⟩,⟨tB,[49,47,50]⟩]⟩
def E6 (x:AF):D:=.agg [str (sb x.grain),i64 x.mass,.sl true 2 (x.shs.map Av.D)]
def dZ:D:=.agg [str (sb MR),i64 4,i64 30,i64 12,.sl true 1 [.sl true 3 [E6 (Cm 10),E6 (C6 6)],.sl true 3 [E6 (Cm 5)]]]
theorem u7:AK C0 47 [] dZ:=CE DV 400 40 (by kernel_rfl)
def Lo (d d':D):Prop:=∀(ρ:Lk) (O:Nat->Prop) (w:World) (v:Value),AU ρ O w d v->AU ρ O w d' v
theorem Lo.refl (d:D):Lo d d:=λ_ _ _ _ h=>h
theorem Lo.agg {ds ds':List D}(hl:ds.length=ds'.length)(h:∀(i:Nat) (d d':D),ds[i]?=some d->ds'[i]?=some d'->Lo d d'):Lo (.agg ds) (.agg ds'):=λρ O w v hv=>by
 cases hv with
 |agg hn ho hd=>
  refine .agg (hn.trans hl) ho λi d' hd'=>?_
  have hi:i<ds.length:=by rw[hl];exact(List.getElem?_eq_some_iff.1 hd').1
  exact h i _ d' (BI hi) hd' _ _ _ _ (hd i _ (BI hi))
theorem Lo.tup {ds ds':List D}(hl:ds.length=ds'.length)(h:∀(i:Nat) (d d':D),ds[i]?=some d->ds'[i]?=some d'->Lo d d'):Lo (.tup ds) (.tup ds'):=λρ O w v hv=>by
 cases hv with
 |tup hn hd=>
  refine .tup (hn.trans hl) λi d' hd'=>?_
  have hi:i<ds.length:=by rw[hl];exact(List.getElem?_eq_some_iff.1 hd').1
  exact h i _ d' (BI hi) hd' _ _ _ _ (hd i _ (BI hi))
def NT (e e':D):Prop:=e'.cells.length=e.cells.length/\∀(j:Nat) (d d':D),e.cells[j]?=some d->e'.cells[j]?=some d'->Lo d d'
theorem Lo.sl {b:Bool}{sz:Nat}{es es':List D}(hl:es.length=es'.length)(hc:∀(i:Nat) (e e':D),es[i]?=some e->es'[i]?=some e'->NT e e'):Lo (.sl b sz es) (.sl false sz es'):=λρ O w v hv=>by
 cases hv with
 |nil=>
  have:es'=[]:=List.length_eq_zero_iff.1 hl.symm
  subst this;exact .nil sz
 |emp a=>
  have:es'=[]:=List.length_eq_zero_iff.1 hl.symm
  subst this;exact .emp a
 |sl f hl' hc' hO hb hz hcell ho h=>
  have hx:∀(i:Nat) (e':D),es'[i]?=some e'->∃e,es[i]?=some e/\NT e e':=λi e' he'=>by
   have hi:i<es.length:=by rw[hl];exact(List.getElem?_eq_some_iff.1 he').1
   exact⟨_,BI hi,hc i _ e' (BI hi) he'⟩
  refine .sl f (hl.symm.trans hl') hc' hO hb (λi e' he'=>?_) hcell ho λi e' j d' he' hd'=>?_
  ·obtain⟨e,he,h1,h2⟩:=hx i e' he'
   rw[h1];exact hz i e he
  ·obtain⟨e,he,h1,h2⟩:=hx i e' he'
   have hj:j<e.cells.length:=by rw[<-h1];exact(List.getElem?_eq_some_iff.1 hd').1
   exact h2 j _ d' (BI hj) hd' _ _ _ _ (h i e j _ he (BI hj))
def loosen:Nat->D->D
 | 0,d=>d
 |n+1,.agg ds=>.agg (ds.map (loosen n))
 |n+1,.tup ds=>.tup (ds.map (loosen n))
 |n+1,.sl _ sz es=>.sl false sz (es.map (loosen n))
 |_+1,d=>d
theorem Tw {f:D->D}(hf:∀d,Lo d (f d))(ds:List D)(i:Nat)(d d':D)(h:ds[i]?=some d)(h':(ds.map f)[i]?=some d'):Lo d d':=by
 rw[A7,h]at h';cases h';exact hf d
theorem Wh:∀n:Nat,(∀d,Lo d (loosen n d))/\∀e,NT e (loosen n e)
 | 0=>⟨λd=>.refl d,λe=>⟨rfl,λj d d' h h'=>by
   have:d=d':=by
    have:=h.symm.trans h'
    injection this
   subst this;exact .refl d⟩⟩
 |n+1=>by
  obtain⟨h1,h2⟩:=Wh n;have hs:∀(es:List D) (i:Nat) (e e':D),es[i]?=some e->(es.map (loosen n))[i]?=some e'->NT e e':=λes i e e' h h'=>by
   rw[A7,h]at h';cases h';exact h2 e
  have hL:∀d,Lo d (loosen (n+1) d):=λd=>by
   cases d with
   |agg ds=>exact .agg (by simp) (Tw h1 ds)
   |tup ds=>exact .tup (by simp) (Tw h1 ds)
   |sl b sz es=>exact .sl (by simp) (hs es)
   |_=>exact .refl _
  refine⟨hL,λe=>?_⟩;have one:e.cells=[e]->(loosen (n+1) e).cells=[loosen (n+1) e]->NT e (loosen (n+1) e):=λa b=>by
   refine⟨by rw[a,b];rfl,λj d d' h h'=>?_⟩;rw[a]at h;rw[b]at h'
   match j with
   | 0=>cases h;cases h';exact hL e
   |j+1=>cases h
  cases e with
  |agg ds=>exact⟨by simp[loosen,D.cells],λj d d' h h'=>Tw h1 ds j d d' h h'⟩
  |_=>exact one rfl rfl
theorem AK.loosen {C:A8}{f:Nat}{args:List D}{d:D}(h:AK C f args d)(n:Nat):AK C f args (loosen n d):=
 ⟨h.1,λX w vs a b c e g=>(h.2 X w vs a b c e g).mono λ_ _ ⟨v,d,h1,h2,h3,h4⟩=>⟨v,_,h1,h2,rfl,by subst h3;exact(Wh n).1 _ _ _ _ _ h4⟩⟩
section
variable {C:A8} {F B:Ab} {ops:Array Oper} {rd:Option Nat}
theorem jq {K1:St->Prop}{Q:Exit->Act->World->Prop}{l2:List Nat}(h2:∀(s1:St) (ρ:Lk) (a:Act) (w:World),K1 s1->Bj C F ρ s1 a w->wpOps C.P ops Q l2 a w):∀(l:List Nat) (a:Act) (w:World),wpOps C.P ops (Jz C F K1) l a w->wpOps C.P ops Q (l++l2) a w:=by
 intro l
 induction l with
 |nil=>rintro a w ⟨_,s',ρ',hq,hs'⟩;exact h2 s' ρ' a w hq hs'
 |cons i l ih=>
  intro a w h;simp only[ES,wpOps]at h⊢;cases ho:ops[i]? with
  |none=>simp only[ho]at h⊢;exact ih a w h
  |some o=>
   simp only[ho]at h⊢;split
   ·rename_i hw
    rw[AH hw]at h;rcases h with h|⟨_,⟨a0,w0,h0⟩⟩
    ·refine .inl ?_
     unfold Oper.wp Oper.upon at h⊢;split<;>rename_i hr<;>simp only[hr]at h
     ·exact ih _ _ h
     ·exact ih _ _ h
     ·exact ih _ _ h
     ·refine Calls.mono h λe w'' he=>?_
      cases e with
      |returned v=>exact ih _ _ he
      |panicked c=>cases he.1
      |outgrown=>obtain⟨a0,w0,h0⟩:=he;cases h0.1
     ·exact Rows.mono h λ_ _ he=>ih _ _ he
     ·cases h.1
    ·cases h0.1
   ·rename_i hw
    rw[AG hw]at h;exact ih _ _ h
theorem we {K:St->Prop}{os1 os2:List Oper}{s:St}(h:BH C F ops os1 s (λs1=>BH C F ops os2 s1 K)):BH C F ops (os1++os2) s K:=by
 intro hd l hl ρ a w hs;rw[Ks,Ba]at hd;have hlen:l.length=os1.length+os2.length:=by
  have:=congrArg List.length hl
  simpa using this
 obtain⟨l1,l2,rfl,e1⟩:∃l1 l2,l=l1++l2/\l1.length=os1.length:=⟨l.take os1.length,l.drop os1.length,(Ez _ _).symm,by rw[Bf];omega⟩
 rw[Cv,Cv]at hl;obtain⟨h1,h2⟩:=List.append_inj hl (by simpa using e1);exact jq (λs1 ρ a w hk hs=>hk hd.2 l2 h2 ρ a w hs) l1 a w (h hd.1 l1 h1 ρ a w hs)
theorem xE {X:EV}{i:Nat}{s:St}{Q:Exit->Ab->St->Prop}(hX:DF C X)(hnd:ER ops.toList=true)(h:BH C F ops ((List.range ops.size).map λj=>ops.getD j default) s (Q .normal F)):AC C B rd F (.region i ops false) s Q:=by
 refine⟨λhB hd ρ a w hs=>wpIn_region ?_⟩;have hd:=JL hB hd;have h1:=BH.run h (λj hj=>List.mem_range.1 hj) hd hs
 have:=FT (rd:=rd) (Q:=FD C B Q) (l2:=[]) (λ_ _ _ h=>JD hB (λ_ h=>h) h) (HR hnd) _ a w h1
 rwa [DX]at this
def Um (C:A8)(F:Ab)(X:EV)(kb:Nat)(ops:Array Oper):List (List Nat×Nat)->List Nat->St->(St->Prop)->Prop
 | [],l,s,K=>Cq C X kb ops l s True λacc s=>acc/\K s
 |(l1,i)::r,l,s,K=>Cq C X kb ops l1 s True λacc s1=>acc/\∃d,(∀(os:List Oper) (K':St->Prop),BH C F ops os ⟨BZ s1.env (ops.getD i default).dst d,s1.H,s1.n+1⟩ K'->BH C F ops (ops.getD i default::os) s1 K')/\Um C F X kb ops r l ⟨BZ s1.env (ops.getD i default).dst d,s1.H,s1.n+1⟩ K
def PC:List (List Nat×Nat)->List Nat->List Nat
 | [],l=>l
 |(l1,i)::r,l=>l1++i::PC r l
theorem Yn {X:EV}(hX:DF C X){kb:Nat}{K:St->Prop}:∀(r:List (List Nat×Nat)) (l:List Nat) (s:St),Um C F X kb ops r l s K->BH C F ops ((PC r l).map λj=>ops.getD j default) s K
 | [],l,s,h=>(FB hX (λacc s h=>h) h).2
 |(l1,i)::r,l,s,h=>by
  show BH C F ops ((l1++i::PC r l).map _) s K;rw[Cv,Cc];refine we ?_;refine(FB (K':=λs1=>BH C F ops (ops.getD i default::(PC r l).map λj=>ops.getD j default) s1 K) hX (λacc s1 h=>⟨h.1,?_⟩) h).2;obtain⟨d,h1,h2⟩:=h.2;exact h1 _ _ (Yn hX r l _ h2)
theorem xF {X:EV}{i:Nat}{s:St}{Q:Exit->Ab->St->Prop}(hX:DF C X)(kb:Nat)(r:List (List Nat×Nat))(l:List Nat)(hl:List.range ops.size=PC r l)(hnd:ER ops.toList=true)(h:Um C F X kb ops r l s (Q .normal F)):AC C B rd F (.region i ops false) s Q:=
 xE hX hnd (by rw[hl];exact Yn hX r l s h)
def T2 (P:Program) (t:Nat):Prop:=∃(f1 f2:Field) (k1 k2:IntKind),P.underlying t=some (.struct #[f1,f2])/\P.stoodInHeld t=false/\P.eqGuardType P.depth t=false/\f1.name ≠ "_"/\f1.offset=0/\P.underlying f1.type=some (.int k1)/\f2.name ≠ "_"/\f2.offset=1/\P.underlying f2.type=some (.int k2)
theorem Vd {P:Program} {w:World} (d:Nat) {xs ys:Array Value} {f:Field} {fs:List Field} {i:Nat} {ka k:IntKind} {x y:Int} {b:Bool} (f1:f.name ≠ "_") (f2:f.offset=i) (f3:P.underlying f.type=some (.int k)) (hxa:xs[i]?=some (.int ka x)) (hya:ys[i]?=some (.int ka y))
  (ih:(Op.eqFields (d+1) xs ys fs).run P w=.ok b w):(Op.eqFields (d+1) xs ys (f::fs)).run P w=.ok (x==y&&b) w:=by
 have ag:(isAgg f.type).run P w=.ok false w:=by
  unfold isAgg;rw[run_bind,Cj f3];rfl
 have part1:(part f.type xs f.offset).run P w=.ok (.int ka x) w:=by
  unfold part;rw[run_bind,ag];dsimp only;rw[AG (by simp),f2];simp only[hxa];rfl
 have part2:(part f.type ys f.offset).run P w=.ok (.int ka y) w:=by
  unfold part;rw[run_bind,ag];dsimp only;rw[AG (by simp),f2];simp only[hya];rfl
 simp only[Op.eqFields];rw[AH f1,run_bind,part1];dsimp only;rw[run_bind,part2];dsimp only;rw[run_bind,run_equalIn_int w d f.type ka k x y f3];dsimp only;cases hb:x==y with
 |true=>simpa using ih
 |false=>rfl
theorem dK {o:Oper}{os:List Oper}{s:St}{K:St->Prop}{t tt:Nat}{x y:Operand}{a1 a2 b1 b2:Int}(hw:CD ops s.env o=some true)(ho:o.op=.binOp .neq t x y tt)(hT:T2 C.P t)(hx:BE s.env x=.agg [i64 a1,i64 a2])(hy:BE s.env y=.agg [i64 b1,i64 b2])
  (h:BH C F ops os ⟨BZ s.env o.dst (As (!(a1==b1&&(a2==b2&&true)))),s.H,s.n+1⟩ K):BH C F ops (o::os) s K:=
 BH.step hw (λρ a w hs=>by
  refine⟨_,ρ,w,.inl ?_,PJ.pure hs (.prim _),λe he=>DE (hs.gen e he)⟩;have rx:=DG hs.env x;have ry:=DG hs.env y;rw[hx]at rx;rw[hy]at ry;unfold execOp;simp only[ho];generalize a.eval x=vx at rx⊢;generalize a.eval y=vy at ry⊢;cases rx with
  |agg n1 o1 r1=>
   cases ry with
   |agg n2 o2 r2=>
    rename_i xs ys;obtain⟨f1,f2,k1,k2,c1,c2,c3,c4,c5,c6,c7,c8,c9⟩:=hT;have at_:∀ {vs:Array Value} {u1 u2:Int},vs.size=[i64 u1,i64 u2].length->(∀(i:Nat) (d:D),[i64 u1,i64 u2][i]?=some d->AU ρ (AM F.X ρ s.H) w d (vs.getD i undef))->vs[0]?=some (.int .i64 u1)/\vs[1]?=some (.int .i64 u2):=λ{vs u1 u2} n r=>by
     have q0:=r 0 _ rfl;have q1:=r 1 _ rfl;have m0:0<vs.size:=by rw[n];exact Nat.zero_lt_succ _
     have m1:1<vs.size:=by rw[n];exact HF _
     rw[Ax,Bc m0,IQ]at q0;rw[Ax,Bc m1,IQ]at q1;rw[Bc m0,Bc m1];generalize vs[0]=z0 at q0;generalize vs[1]=z1 at q1;cases q0;cases q1;exact⟨rfl,rfl⟩
    obtain⟨x0,x1⟩:=at_ n1 r1;obtain⟨y0,y1⟩:=at_ n2 r2;have eqf:C.P.fieldsOf t = #[f1,f2]:=by unfold Program.fieldsOf;rw[c1]
    have run:(Op.equalIn 10000 t (.agg xs) (.agg ys)).run C.P w=.ok (a1==b1&&(a2==b2&&true)) w:=by
     rw[show(10000:Nat)=9998+1+1 from rfl,run_equalIn_struct w _ t xs ys (by rw[eqf];exact c1) c2,eqf];exact Vd 9998 c4 c5 c6 x0 y0 (Vd 9998 c7 c8 c9 x1 y1 rfl)
    have r3:(do eqGuard .neq t x y (.agg xs) (.agg ys);binOp .neq t (.agg xs) (.agg ys):Sem Value).run C.P w=.ok (.bool (!(a1==b1&&(a2==b2&&true)))) w:=by
     rw[run_bind,run_eqGuard_agg w .neq t x y xs ys c3];dsimp only;rw[run_neq_struct,run];rfl
    rw[run_bind,r3];rfl) h
end
def RH (P:Program)(t:Nat):Bool:=match P.underlying t with
 |some (.int _)=>true
 |_=>false
theorem YG {P:Program}{t:Nat}(h:RH P t=true):∃k,P.underlying t=some (.int k):=by
 unfold RH at h;split at h
 ·rename_i k hk;exact⟨k,hk⟩
 ·cases h
def dj (P:Program):List Field->Bool
 | [f1,f2]=>(f1.name != "_")&&Nat.beq f1.offset 0&&RH P f1.type&&(f2.name != "_")&&Nat.beq f2.offset 1&&RH P f2.type
 |_=>false
def di (P:Program)(t:Nat):Bool:=match P.underlying t with
 |some (.struct fs)=>!(P.stoodInHeld t) && !(P.eqGuardType P.depth t)&&dj P fs.toList
 |_=>false
theorem tX {P:Program}{t:Nat}(h:di P t=true):T2 P t:=by
 unfold di at h;split at h<;>try(cases h;done)
 rename_i fs hu;simp only[Ba,Bi]at h;obtain⟨⟨h1,h2⟩,h3⟩:=h;obtain⟨l⟩:=fs
 match l,h3 with
 | [f1,f2],h3=>
  simp only[dj,Ba,bne_iff_ne]at h3;obtain⟨⟨⟨⟨⟨g1,g2⟩,g3⟩,g4⟩,g5⟩,g6⟩:=h3;obtain⟨k1,e1⟩:=YG g3;obtain⟨k2,e2⟩:=YG g6;exact⟨f1,f2,k1,k2,hu,h1,h2,g1,B4 g2,e1,g4,B4 g5,e2⟩
theorem Yc:T2 C0.P 91:=tX (by kernel_rfl)
def lA:List AF:=[Cm 10,C6 6]
def lB:List AF:=[Cm 5]
def cA:D:=Ae false lA
def cB:D:=Ae false lB
def DZ:D:=.agg [str (sb MR),i64 4,i64 30,i64 12,.sl false 1 [cA,cB]]
theorem wM:AK C0 47 [] DZ:=by
 have h:=u7.loosen 10
 rwa [show loosen 10 dZ=DZ from rfl]at h
theorem YN {x:AF}(h:decide (x.grain.length<=1000)&&decide (x.shs.length<=1000)&&x.shs.all (λs=>decide (s.lot.length<=1000)&&decide (s.part.length<=40))=true):x.lite:=by
 simp only[Ba,Gk,CQ]at h;obtain⟨⟨h1,h2⟩,h3⟩:=h;exact⟨⟨by omega,by omega,λs hs=>⟨by have:=(h3 s hs).1;omega,by have:=(h3 s hs).2;omega⟩⟩,h3⟩
theorem Qf:∀x∈lA,x.lite:=by
 intro x hx;simp only[lA,BA,DM,or_false]at hx;rcases hx with rfl|rfl<;>exact YN rfl
theorem tG:∀x∈lB,x.lite:=by
 intro x hx;simp only[lB,BA,DM,or_false]at hx;subst hx;exact YN rfl
theorem Qt:Bx lA=0:=by kernel_rfl
theorem tg:Bx lB=0:=by kernel_rfl
theorem nH:Ka lA=[(tA,13),(tB,3)]:=by kernel_rfl
theorem UZ:FK (CH lA)=[(tA,13),(tB,3)]:=by rw[<-W2];exact nH
theorem Yi:(CH lA).any (λp=>Dk p.2)=false:=by kernel_rfl
theorem nI:Q1 lA=0:=by
 unfold Q1 IB;rw[AG (by rw[Qt];exact λh=>h rfl),Yi];rfl
theorem nJ:Q2 lA=[(tA,13),(tB,3)]:=by
 unfold Q2 JZ;rw[AG (by rw[Qt];exact λh=>h rfl),Yi,UZ];rfl
def Rp:List UInt8:=[49,51]
def t3:List UInt8:=[51]
def F9:List UInt8:=[49,51,47,49,54]
def GG:List UInt8:=[51,47,49,54]
def Ki (m:Int):AF:=⟨Er,m,[⟨tA,F9⟩,⟨tB,GG⟩]⟩
theorem uu:Ck (tA,13)=Ee (tA,Rp):=by unfold Ck Ee;rw[show BN 13=Rp by kernel_rfl]
theorem uv:Ck (tB,3)=Ee (tB,t3):=by unfold Ck Ee;rw[show BN 3=t3 by kernel_rfl]
theorem ol:AK C0 36 [cA] (.tup [.sl false 2 [Ee (tA,Rp),Ee (tB,t3)],i64 0]):=by
 have h:=vM false lA (by decide) Qf;rw[nI,nJ,Cc,Cc,List.map_nil,uu,uv]at h;exact h
theorem RQ:lA.map (Dq Er)=lA:=rfl
theorem td:HA lA=0:=by kernel_rfl
theorem uy:[((tA,13):List UInt8×Rat),(tB,3)].any (λp=>Dk (p.2/(An lA:Rat)))=false:=by kernel_rfl
theorem uz:(CH lA).length=2:=by kernel_rfl
theorem ax:Gc lA=0:=by
 unfold Gc;rw[AG (by rw[td];exact λh=>h rfl),AG (by rw[uz];decide),UZ,uy];rfl
theorem T9:Ef lA=[⟨tA,F9⟩,⟨tB,GG⟩]:=by
 unfold Ef;rw[UZ];kernel_rfl
theorem Q8:An lA=16:=by kernel_rfl
theorem tf:Kj lA=Ki 16:=by rw[X8 ax,T9,Q8];rfl
theorem Yj:G3 lA Er=0:=by kernel_rfl
theorem Yk:ID lA Er=0:=by unfold ID;rw[Yj,RQ,ax];rfl
theorem nK:Lc lA Er=Ki 16:=by unfold Lc;rw[Yj,RQ,tf];rfl
theorem oB:AK C0 11 [cA,str (sb Er)] (.tup [(Ki 16).D,i64 0]):=by
 have h:=bl false lA Er (by decide) Qf (by decide);rw[Yk,nK]at h;exact h
theorem tc:Fp lA 15=⟨Er,1,[⟨tA,F9⟩,⟨tB,GG⟩]⟩:=by
 unfold Fp;rw[Q8,show(CP lA 0).grain=Er from rfl,RQ,T9];rfl
theorem aw:G1 (Fp lA 15)=[(tA,mkRat 13 16),(tB,mkRat 3 16)]:=by rw[tc];kernel_rfl
theorem aU:[((tA,mkRat 13 16):List UInt8×Rat),(tB,mkRat 3 16)].any (λp=>Dk p.2)=false:=by kernel_rfl
theorem t8:IB (CH [Fp lA 15])=0:=by
 unfold IB;rw[(S3 lA 15).1,aw,aU];rfl
theorem th:CJ lA=true:=by kernel_rfl
theorem UA:Iv lA 15=0:=by
 unfold Iv;rw[Qt,AG (λh=>h rfl),AG (by decide),Q8,AG (by decide),th,AG (λh=>by cases h),show(CP lA 0).grain=Er from rfl,Yk,AG (λh=>h rfl),AG (by decide),t8]
theorem tk:RN lA 15=Ki 15:=by
 unfold RN;rw[UA,AG (λh=>h rfl),show(CP lA 0).grain=Er from rfl,RQ,T9];rfl
theorem tj:RM lA 15=[(tA,mkRat 13 16),(tB,mkRat 3 16)]:=by
 unfold RM JZ;rw[UA,AG (λh=>h rfl),Q8,AG (by decide),(S3 lA 15).2,(S3 lA 15).1,aw,aU];rfl
theorem uw:Ck (tA,mkRat 13 16)=Ee (tA,F9):=by unfold Ck Ee;rw[show BN (tA,mkRat 13 16).2=F9 by kernel_rfl]
theorem ux:Ck (tB,mkRat 3 16)=Ee (tB,GG):=by unfold Ck Ee;rw[show BN (tB,mkRat 3 16).2=GG by kernel_rfl]
theorem jb:AK C0 12 [cA,i64 15] (.tup [(Ki 15).D,.sl false 2 [Ee (tA,F9),Ee (tB,GG)],i64 0]):=by
 have h:=mT false lA 15 (by decide) Qf;rw[UA,tk,tj,Cc,Cc,List.map_nil,uw,ux]at h;exact h
theorem nz:AK C0 37 [cA] (i64 0):=by
 have h:=Lr false lA (by decide) λx hx=>(Qf x hx).1
 rw[Qt]at h;exact h
theorem oA:AK C0 37 [cB] (i64 0):=by
 have h:=Lr false lB (by decide) λx hx=>(tG x hx).1
 rw[tg]at h;exact h
theorem oo:AK C0 56 [str (sb tB)] (As true):=by
 have h:=QI tB;rw[show Da tB=true by kernel_rfl]at h;exact h
theorem vK (x:AF)(h:x.shs.length<=1000000)(m:Int):AK C0 63 [x.D,i64 m] (x.w m).D:=Tv x m h
theorem T1 {l:List AF}(h:l.all (λx=>decide (x.shs.length<=1000000))=true):∀x∈l,∀m,AK C0 63 [x.D,i64 m] (x.w m).D:=λx hx m=>vK x (DA (CQ.1 h x hx)) m
theorem S4 {l:List AF}(h:l.all (λx=>decide (0<=x.mass)&&decide (x.mass<=1000000000))=true):∀x∈l,0<=x.mass/\x.mass<=1000000000:=λx hx=>by
 have:=CQ.1 h x hx
 simpa using this
theorem xn:AK C0 84 [Ae false [C6 2]] (Ae false [C6 2]):=CE DV 400 40 (by kernel_rfl)
theorem xq:AK C0 84 [Ae false [Cm 1]] (Ae false [Cm 1]):=CE DV 400 40 (by kernel_rfl)
theorem xr:AK C0 84 [Ae false [Cm 9,C6 4]] (Ae false [Cm 9,C6 4]):=CE DV 400 40 (by kernel_rfl)
theorem bA:AK C0 59 [cA] (i64 16):=CE DV 400 40 (by kernel_rfl)
theorem lW:AK C0 91 [cA,i64 2,As true] (Ae false [C6 2]):=Ye false true lA 2 (by decide) (by decide) (S4 rfl) (T1 rfl) _ xn
theorem lX:AK C0 91 [cA,i64 1,As false] (Ae false [Cm 1]):=Ye false false lA 1 (by decide) (by decide) (S4 rfl) (T1 rfl) _ xq
theorem oa:AK C0 92 [cA,i64 1,i64 2] (Ae false [Cm 9,C6 4]):=fj false lA 1 2 (by decide) (by decide) (by decide) 16 (by decide) (S4 rfl) bA (T1 rfl) _ xr
theorem uW:AK C0 142 [cA,str (sb tB)] (.sl false 2 [Fi (11,16)]):=by
 have h:=eW false lA tB (by decide) λx hx=>by
  simp only[lA,BA,DM,or_false]at hx;rcases hx with rfl|rfl<;>exact⟨by decide,by decide,by decide⟩
 rw[show Kw tB lA 0=[(11,16)] by kernel_rfl]at h;exact h
theorem oc:AK C0 88 [.sl true 1 [Ae false [C6 2],Ae false [Cm 1]]] (Ae false [C6 2,Cm 1]):=WI [[C6 2],[Cm 1]] (by simp) (by decide) (by decide)
def Oq:List (Nat×List D×D):=[(37,[cA],i64 0),(37,[cB],i64 0),(56,[str (sb tB)],As true),
 (91,[cA,i64 2,As true],Ae false [C6 2]),(91,[cA,i64 1,As false],Ae false [Cm 1]),(92,[cA,i64 1,i64 2],Ae false [Cm 9,C6 4]),
 (142,[cA,str (sb tB)],.sl false 2 [Fi (11,16)]),(88,[.sl true 1 [Ae false [C6 2],Ae false [Cm 1]]],Ae false [C6 2,Cm 1])]
instance vh:AA cA:=by unfold cA;exact AJ
instance vj:AA cB:=by unfold cB;exact AJ
instance q_cA:AW cA:=by unfold cA;exact AJ
instance q_cB:AW cB:=by unfold cB;exact AJ
theorem Yd:∀e∈Oq,AK C0 e.1 e.2.1 e.2.2/\Aj e.2.1:=by
 intro e he;simp only[Oq,BA,DM,or_false]at he;rcases he with rfl|rfl|rfl|rfl|rfl|rfl|rfl|rfl
 ·exact⟨nz,AJ⟩
 ·exact⟨oA,AJ⟩
 ·exact⟨oo,AJ⟩
 ·exact⟨lW,AJ⟩
 ·exact⟨lX,AJ⟩
 ·exact⟨oa,AJ⟩
 ·exact⟨uW,AJ⟩
 ·exact⟨oc,AJ⟩
noncomputable def X5:EV:=⟨PI,MB.get,NN.get,λ_=>false,Mv Oq,Rj,Kl⟩
theorem EF:FF C0 X5:=⟨Ui,RP,Ju,Sj Oq Yd,by kernel_rfl,av,QF⟩
def dc:D:=.agg [str (sb MR),i64 4,i64 30,i64 12,.sl false 1 [Ae false [Cm 9,C6 4],Ae false [Cm 5]]]
theorem oe:AK C0 48 [DZ,i64 0,i64 3] (.tup [dc,Ae false [C6 2,Cm 1],i64 0]):=CE EF 400 40 (by kernel_rfl)
abbrev UY (ls:List Int)(i:Int):D:=.clo (.func 131) [] [.pptr (.sl false 1 (CN ls)),.pptr (i64 i),.pptr DZ]
abbrev tW (ls:List Int)(i:Int):D:=.clo (.func 78) [] [.pptr DZ,.pptr (.sl false 1 (CN ls)),.pptr (i64 i)]
theorem jV:AK C0 77 [.sl false 1 (CN [16,5]),i64 ((0:Nat):Int),UY [16,5] ((0:Nat):Int)] (.sl false 1 [i64 23]):=CE EF 400 40 (by kernel_rfl)
theorem jW:AK C0 77 [.sl false 1 (CN [16,5]),i64 ((1:Nat):Int),UY [16,5] ((1:Nat):Int)] (.sl false 1 [i64 1]):=CE EF 400 40 (by kernel_rfl)
theorem jX:AK C0 77 [.sl false 1 (CN [0,5]),i64 ((1:Nat):Int),UY [0,5] ((1:Nat):Int)] (.sl false 1 [i64 17]):=CE EF 400 40 (by kernel_rfl)
theorem jY:AK C0 77 [.sl false 1 (CN [16,5]),i64 ((1:Nat):Int),tW [16,5] ((1:Nat):Int)] (.sl false 1 [i64 23]):=CE EF 400 40 (by kernel_rfl)
theorem xf:AK C0 76 [i64 16,.sl false 1 [i64 23]] (i64 16):=CE EF 400 40 (by kernel_rfl)
theorem xg:AK C0 76 [i64 5,.sl false 1 [i64 1]] (i64 1):=CE EF 400 40 (by kernel_rfl)
theorem xh:AK C0 76 [i64 5,.sl false 1 [i64 17]] (i64 5):=CE EF 400 40 (by kernel_rfl)
theorem xi:AK C0 76 [i64 25,.sl false 1 [i64 23]] (i64 23):=CE EF 400 40 (by kernel_rfl)
instance d6O:AA DZ:=by unfold DZ;exact AJ
instance d6R:AW DZ:=by unfold DZ;exact AJ
theorem xj:AK C0 74 [DZ,.sl false 1 (CN [16,5]),i64 ((0:Nat):Int)] (i64 16):=Tp DZ ⟨_,_,_,_,_,rfl⟩ false _ 0 16 rfl _ 16 jV xf
theorem xk:AK C0 74 [DZ,.sl false 1 (CN [16,5]),i64 ((1:Nat):Int)] (i64 1):=Tp DZ ⟨_,_,_,_,_,rfl⟩ false _ 1 5 rfl _ 1 jW xg
theorem xm:AK C0 74 [DZ,.sl false 1 (CN [0,5]),i64 ((1:Nat):Int)] (i64 5):=Tp DZ ⟨_,_,_,_,_,rfl⟩ false _ 1 5 rfl _ 5 jX xh
theorem uV:AK C0 75 [DZ] (.sl false 1 (CN [16,5])):=CE EF 400 40 (by kernel_rfl)
theorem ob:AK C0 73 [DZ,.sl true 1 [i64 1]] (i64 0):=CE EF 400 40 (by kernel_rfl)
theorem uU:AK C0 32 [DZ] (i64 0):=CE EF 400 40 (by kernel_rfl)
theorem mL:AK C0 25 [DZ,i64 1] (.tup [i64 23,i64 0]):=nh DZ _ _ _ _ 30 rfl _ 1 5 rfl _ 23 ob uV jY 25 rfl xi
def Uj:List (Nat×List D×D):=(74,[DZ,.sl false 1 (CN [16,5]),i64 1],i64 1)::Oq
theorem nl:∀e∈Uj,AK C0 e.1 e.2.1 e.2.2/\Aj e.2.1:=by
 intro e he;rcases BA.1 he with rfl|he
 ·exact⟨xk,AJ⟩
 ·exact Yd e he
noncomputable def dt:EV:=⟨PI,MB.get,NN.get,λ_=>false,Mv Uj,Rj,Kl⟩
theorem tQ:FF C0 dt:=⟨Ui,RP,Ju,Sj Uj nl,by kernel_rfl,av,QF⟩
theorem om:AK C0 24 [DZ,i64 1] (.tup [i64 1,i64 0]):=CE tQ 400 40 (by kernel_rfl)
theorem mK:AK C0 49 [DZ,i64 0,str (sb tB)] (.tup [i64 2,i64 0]):=CE EF 400 40 (by kernel_rfl)
theorem og:AK C0 50 [DZ,i64 0,str (sb tB)] (.tup [i64 8,i64 0]):=CE EF 400 40 (by kernel_rfl)
def dg (l:List Int):Int:=if l=[16,5]then 16 else 5
theorem mJ:AK C0 51 [DZ] (.tup [.sl false 2 [GT (0,16),GT (1,5)],i64 0]):=by
 have h:=lh (str (sb MR)) (i64 4) (i64 30) (i64 12) false [cA,cB] [16,5] rfl (by simp) (by decide) (λi c m h1 h2=>by
  match i with
  | 0=>cases h1;cases h2;exact bA
  | 1=>cases h1;cases h2;exact CE EF 400 40 (by kernel_rfl)
  |i+2=>cases h1) (λc hc=>by
  simp only[BA,DM,or_false]at hc;rcases hc with rfl|rfl
  ·exact⟨_,_,rfl,vh⟩
  ·exact⟨_,_,rfl,vj⟩) uU dg (λl=>l=[16,5]\/l=[0,5]\/l=[0,0]) (.inl rfl) (λl hl hn=>by
  rcases hl with rfl|rfl|rfl
  ·exact⟨xj,rfl,.inr (.inl rfl)⟩
  ·exact⟨xm,rfl,.inr (.inr rfl)⟩
  ·exact AZ rfl hn)
 rw[show Kt dg 257 [16,5] []=([(0,16),(1,5)],0) by kernel_rfl]at h;exact h
abbrev X0:Dr:=[(16,[0,1,2,3,4,5,6,7,8,9,10,11,12,13,14,15,16,17,18],[19,20,21])]
open Go.Proofs Go.RowKit Go.Sort
set_option maxRecDepth 20000
set_option maxHeartbeats 8000000
def xL:D:=.sl true 2 [.agg [str (sb tA),str (sb F9)],.agg [str (sb tB),str (sb GG)]]
theorem ve (m:Int):AK C0 52 [.sl false 2 [.agg [str (sb tA),str (sb F9)],.agg [str (sb tB),str (sb GG)]],xL] (As true):=CE EF 400 40 (by kernel_rfl)
theorem tE:AK C0 22 [.sl false 2 [Ee (tA,F9),Ee (tB,GG)],.sl true 2 [Ee (tA,F9),Ee (tB,GG)]] (As true):=CE EF 400 40 (by kernel_rfl)
theorem vX:AK C0 53 [i64 2,As true] (E6 (C6 2)):=CE EF 400 40 (by kernel_rfl)
theorem vY:AK C0 53 [i64 1,As false] (E6 (Cm 1)):=CE EF 400 40 (by kernel_rfl)
theorem vZ:AK C0 53 [i64 9,As false] (E6 (Cm 9)):=CE EF 400 40 (by kernel_rfl)
theorem v6:AK C0 53 [i64 4,As true] (E6 (C6 4)):=CE EF 400 40 (by kernel_rfl)
theorem v7:AK C0 17 [Ae false [C6 2,Cm 1],.sl true 3 [E6 (C6 2),E6 (Cm 1)]] (As true):=CE EF 400 40 (by kernel_rfl)
theorem v8:AK C0 17 [Ae false [Cm 9,C6 4],.sl true 3 [E6 (Cm 9),E6 (C6 4)]] (As true):=CE EF 400 40 (by kernel_rfl)
theorem o6:AK C0 10 [] (As true):=by
 refine Ak.walk w1 bD rfl λF=>?_
 have cE:=wM;have cL:=ol;have cP:AK C0 11 [cA,.prim (.string ⟨#[119,104,101,97,116]⟩)] (.tup [(Ki 16).D,i64 0]):=oB;have cD:=oe;have cM:=om;have cS:=mL;have cF:AK C0 49 [DZ,i64 0,.prim (.string ⟨#[98]⟩)] (.tup [i64 2,i64 0]):=mK;have cLa:AK C0 50 [DZ,i64 0,.prim (.string ⟨#[98]⟩)] (.tup [i64 8,i64 0]):=og;have cEm:=mJ;have cSh:=jb;have pA:AA cA:=AJ;have pB:AA cB:=AJ;have pX:AA DZ:=AJ;unfold DZ at cE cD cM cS cF cLa cEm pX;have hA:∃T,cA=.sl false 3 T:=⟨_,rfl⟩
 have hB:∃T,cB=.sl false 3 T:=⟨_,rfl⟩
 obtain⟨TA,hA⟩:=hA;obtain⟨TB,hB⟩:=hB;rw[hA,hB]at cE cD cM cS cF cLa cEm pX;rw[hA]at cL cP cSh pA;rw[hB]at pB;have hm:([.sl false 3 TA,.sl false 3 TB]:List D)[0]?=some (.sl false 3 TA):=rfl;have dP:(Ki 16).D=.agg [str (sb Er),i64 16,.sl false 2 [.agg [str (sb tA),str (sb F9)],.agg [str (sb tB),str (sb GG)]]]:=rfl;have dP2:(Ki 15).D=.agg [str (sb Er),i64 15,.sl false 2 [.agg [str (sb tA),str (sb F9)],.agg [str (sb tB),str (sb GG)]]]:=rfl;rw[dP]at cP;rw[dP2]at cSh;unfold dc at cD;refine AI X0 kB cE hm cL cP cD cM ?_;refine cI cS ?_;refine sR 700 ?_;refine cI cF ?_;refine sR 800 ?_;refine cI cLa ?_;refine sR 900 ?_;refine cI cEm ?_;refine sR 1000 ?_;refine Br kT hm ?_;refine AE kB ?_;refine cI cSh ?_;have z0:IntKind.i64.wrap (0+0)=0:=rfl;have n0:((0:Int) != 0)=false:=rfl;have n1:((1:Int) != 1)=false:=rfl;have n23:((23:Int) != 23)=false:=rfl;have n2:((2:Int) != 2)=false:=rfl;have n2':(((2:Nat):Int) != 2)=false:=rfl;have s0:([.agg [i64 0,i64 16],.agg [i64 1,i64 5]]:List D)[0]?=some (.agg [i64 0,i64 16]):=rfl;have s1:([.agg [i64 0,i64 16],.agg [i64 1,i64 5]]:List D)[1]?=some (.agg [i64 1,i64 5]):=rfl;have n8:((8:Int) != 8)=false:=rfl;obtain⟨C1,hC1⟩:∃d,Ae false [Cm 9,C6 4]=d:=⟨_,rfl⟩
 obtain⟨O1,hO1⟩:∃d,Ae false [C6 2,Cm 1]=d:=⟨_,rfl⟩
 rw[hC1,hO1];refine AC.weak ⟨[(2,.sl false 2 [.agg [str (sb tA),str (sb Rp)],.agg [str (sb tB),str (sb t3)]]),(3,i64 0),(4,.optr 308 22 3 0 0),(5,i64 0),(6,.optr 406 31 5 0 0),(7,O1),(8,i64 0),(9,i64 1),(10,i64 0),(11,i64 23),(12,i64 0),(13,i64 2),(14,i64 0),(15,i64 8),(16,i64 0),(17,.sl false 2 [.agg [i64 0,i64 16],.agg [i64 1,i64 5]]),(18,i64 0),(19,.optr 1009 79 3 0 0),(20,.sl false 2 [.agg [str (sb tA),str (sb F9)],.agg [str (sb tB),str (sb GG)]]),(21,i64 0)],
  [⟨1009,79,27,3,[.agg [str (sb Er),i64 15,.sl false 2 [.agg [str (sb tA),str (sb F9)],.agg [str (sb tB),str (sb GG)]]]]⟩,⟨406,31,48,5,[.agg [str (sb MR),i64 4,i64 30,i64 12,.sl false 1 [C1,Ae false [Cm 5]]]]⟩,⟨308,22,27,3,[.agg [str (sb Er),i64 16,.sl false 2 [.agg [str (sb tA),str (sb F9)],.agg [str (sb tB),str (sb GG)]]]]⟩],_⟩ AL ?_
 refine AC.seq ?_;refine AC.seq ?_;refine xF w1 1100 [([0,1,2,3,4,5,6,7,8,9,10,11,12,13,14,15,16,17,18,19,20,21,22,23,24,25,26,27,28,29,30,31,32,33,34,35,36,37,38,39,40,41,42,43],44),([45,46,47,48,49,50],51)] [52] rfl (by kernel_rfl) ?_;change Cq _ _ _ _ _ _ _ _;refine AE (CF z0 n0 n1 n23 n2 n2' (At n8 kT kF)) ?_;refine AE (CF z0 n0 n1 n23 n2 n2' (At n8 kT kF)) ?_;refine AE (CF z0 n0 n1 n23 n2 n2' (At n8 kT kF)) ?_;refine AE (CF z0 n0 n1 n23 n2 n2' (At n8 kT kF)) ?_;refine AE (CF z0 n0 n1 n23 n2 n2' (At n8 kT kF)) ?_;refine AE (At n2' kT kF) ?_;refine Br kF s0 ?_;refine AE (At n2' kT kF) ?_;refine AE (At n2' kT kF) ?_;refine⟨As false,λos K' hk=>dK (a1:=0) (a2:=16) (b1:=0) (b2:=16) rfl rfl Yc rfl rfl hk,?_⟩;change Cq _ _ _ _ _ ⟨(124,As false)::_,_,_⟩ _ _;refine Aw ?_;refine AE (At n2' kT kF) ?_;refine AE (At n2' kT kF) ?_;refine Br kF s1 ?_;refine AE (At n2' kT kF) ?_;refine AE (At n2' kT kF) ?_;refine⟨As false,λos K' hk=>dK (a1:=1) (a2:=5) (b1:=1) (b2:=5) rfl rfl Yc rfl rfl hk,?_⟩;change Cq _ _ _ _ _ ⟨(131,As false)::_,_,_⟩ _ _;refine Aw ?_;refine AE (At n2' kT kF) ?_;refine AO ?_;refine Ap ?_;refine AC.weak ⟨[(2,.sl false 2 [.agg [.prim (.string ⟨#[97]⟩),.prim (.string ⟨#[49,51]⟩)],.agg [.prim (.string ⟨#[98]⟩),.prim (.string ⟨#[51]⟩)]]),(4,.optr 308 22 3 0 0),(6,.optr 406 31 5 0 0),(7,O1),(19,.optr 1009 79 3 0 0),(20,.sl false 2 [.agg [.prim (.string ⟨#[97]⟩),.prim (.string ⟨#[49,51,47,49,54]⟩)],.agg [.prim (.string ⟨#[98]⟩),.prim (.string ⟨#[51,47,49,54]⟩)]])],
  [⟨1009,79,27,3,[.agg [str (sb Er),i64 15,.sl false 2 [.agg [.prim (.string ⟨#[97]⟩),.prim (.string ⟨#[49,51,47,49,54]⟩)],.agg [.prim (.string ⟨#[98]⟩),.prim (.string ⟨#[51,47,49,54]⟩)]]]]⟩,⟨406,31,48,5,[.agg [str (sb MR),i64 4,i64 30,i64 12,.sl false 1 [C1,Ae false [Cm 5]]]]⟩,⟨308,22,27,3,[.agg [str (sb Er),i64 16,.sl false 2 [.agg [.prim (.string ⟨#[97]⟩),.prim (.string ⟨#[49,51,47,49,54]⟩)],.agg [.prim (.string ⟨#[98]⟩),.prim (.string ⟨#[51,47,49,54]⟩)]]]]⟩],_⟩ AL ?_
 have h1:AK C0 52 [.sl false 2 [.agg [.prim (.string ⟨#[97]⟩),.prim (.string ⟨#[49,51,47,49,54]⟩)],.agg [.prim (.string ⟨#[98]⟩),.prim (.string ⟨#[51,47,49,54]⟩)]],.sl true 2 [.agg [.prim (.string ⟨#[97]⟩),.prim (.string ⟨#[49,51,47,49,54]⟩)],.agg [.prim (.string ⟨#[98]⟩),.prim (.string ⟨#[51,47,49,54]⟩)]]] (As true):=ve 0;have h2:AK C0 22 [.sl false 2 [.agg [.prim (.string ⟨#[97]⟩),.prim (.string ⟨#[49,51,47,49,54]⟩)],.agg [.prim (.string ⟨#[98]⟩),.prim (.string ⟨#[51,47,49,54]⟩)]],.sl true 2 [.agg [.prim (.string ⟨#[97]⟩),.prim (.string ⟨#[49,51,47,49,54]⟩)],.agg [.prim (.string ⟨#[98]⟩),.prim (.string ⟨#[51,47,49,54]⟩)]]] (As true):=tE;have e1:BK ⟨#[97]⟩ ⟨#[97]⟩=true:=LA _;have e2:BK ⟨#[49,51]⟩ ⟨#[49,51]⟩=true:=LA _;have e3:BK ⟨#[98]⟩ ⟨#[98]⟩=true:=LA _;have e4:BK ⟨#[51]⟩ ⟨#[51]⟩=true:=LA _;have x0:([.agg [.prim (.string ⟨#[97]⟩),.prim (.string ⟨#[49,51]⟩)],.agg [.prim (.string ⟨#[98]⟩),.prim (.string ⟨#[51]⟩)]]:List D)[0]?=some (.agg [.prim (.string ⟨#[97]⟩),.prim (.string ⟨#[49,51]⟩)]):=rfl;have x1:([.agg [.prim (.string ⟨#[97]⟩),.prim (.string ⟨#[49,51]⟩)],.agg [.prim (.string ⟨#[98]⟩),.prim (.string ⟨#[51]⟩)]]:List D)[1]?=some (.agg [.prim (.string ⟨#[98]⟩),.prim (.string ⟨#[51]⟩)]):=rfl;have b1:(!(true&&(true&&true)))=false:=rfl;have n16:((16:Int) != 16)=false:=rfl;have n15:((15:Int) != 15)=false:=rfl;have k1:=vX;have k2:=vY;have k3:=vZ;have k4:=v6;have k5:=v7;have k6:=v8;have pA1:Aj [Ae false [C6 2,Cm 1],.sl true 3 [E6 (C6 2),E6 (Cm 1)]]:=⟨λd hd=>by
  simp only[BA,DM,or_false]at hd;rcases hd with rfl|rfl
  ·exact(AJ:AA (Ae false [C6 2,Cm 1])).out
  ·exact Gw (n:=30) (by kernel_rfl)⟩
 have pA2:Aj [Ae false [Cm 9,C6 4],.sl true 3 [E6 (Cm 9),E6 (C6 4)]]:=⟨λd hd=>by
  simp only[BA,DM,or_false]at hd;rcases hd with rfl|rfl
  ·exact(AJ:AA (Ae false [Cm 9,C6 4])).out
  ·exact Gw (n:=30) (by kernel_rfl)⟩
 rw[hO1]at k5 pA1;rw[hC1]at k6 pA2;obtain⟨u1,u2,u3,hu⟩:∃a b c,E6 (C6 2)=.agg [a,b,c]:=⟨_,_,_,rfl⟩
 obtain⟨v1,v2,v3,hv⟩:∃a b c,E6 (Cm 1)=.agg [a,b,c]:=⟨_,_,_,rfl⟩
 obtain⟨y1,y2,y3,hy⟩:∃a b c,E6 (Cm 9)=.agg [a,b,c]:=⟨_,_,_,rfl⟩
 obtain⟨z1,z2,z3,hz⟩:∃a b c,E6 (C6 4)=.agg [a,b,c]:=⟨_,_,_,rfl⟩
 rw[hu]at k1;rw[hv]at k2;rw[hy]at k3;rw[hz]at k4;rw[hu,hv]at k5 pA1;rw[hy,hz]at k6 pA2;obtain⟨C2,hC2⟩:∃d,Ae false [Cm 5]=d:=⟨_,rfl⟩
 obtain⟨C1L,hC1L⟩:∃T,C1=.sl false 3 T:=⟨_,hC1.symm⟩
 rw[hC2,hC1L];rw[hC1L]at k6 pA2;have q0:([.sl false 3 C1L,C2]:List D)[0]?=some (.sl false 3 C1L):=rfl;have n2e:(((2:Nat):Int)==2)=true:=rfl;refine AI X0 (CF b1 n2' n16 n15 e1 e2 (BW e3 e4 kT kF)) x0 x1 h1 h2 AB AB ?_;refine BX.same _ (k1) AJ ?_;refine BO ?_;refine AE (At n2e kT kF) ?_;refine BX.same _ (k2) AJ ?_;refine BO ?_;refine AE (At n2e kT kF) ?_;refine BX.same _ k5 pA1 ?_;refine Aw ?_;refine AE (At n2e kT kF) ?_;refine AE (At n2e kT kF) ?_;refine AE (At n2e kT kF) ?_;refine Br kT q0 ?_;refine AE (At n2e kT kF) ?_;refine AE (At n2e kT kF) ?_;refine NR kT ?_;refine BX.same _ (k3) AJ ?_;refine BO ?_;refine NR kT ?_;refine BX.same _ (k4) AJ ?_;refine BO ?_;refine AE (At n2e kT kF) ?_;refine AE (At n2e kT kF) ?_;refine AE (At n2e kT kF) ?_;refine NR kT ?_;refine BF.same _ k6 pA2 ?_;refine Aw ?_;refine AE (At n2e kT kF) ?_;refine AE (At n2e kT kF) ?_;refine Al ?_;exact AN rfl AA.out
end Go.Ide
