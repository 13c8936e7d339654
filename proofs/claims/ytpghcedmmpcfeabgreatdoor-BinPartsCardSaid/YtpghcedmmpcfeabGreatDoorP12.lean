/- The layer of own lemmas and contracts, part 12. -/
import Derived.Test.YtpghcedmmpcfeabGreatDoorP11
import Derived.Test.YtpghcedmmpcfeabGreatDoorP8
import Derived.Test.YtpghcedmmpcfeabGreatDoorP4
import Derived.Shelf.Spec.SlicesGrow
import Derived.Shelf.Lay
import Derived.Ground.Names8Prog
import Derived.Test.YtpghcedmmpcfeabGreatDoorP9
set_option linter.unusedVariables false
set_option linter.unusedSimpArgs false
namespace Go.Ide
open Go.Proofs Go.RowKit Go.Sort
set_option maxRecDepth 20000
set_option maxHeartbeats 4000000
def ES (g:List UInt8)(x:AE):AE:=⟨g,x.mass,x.shs⟩
def Hw (l:List AE)(g:List UInt8):Nat:=if Bk l≠0 then Bk l else if EB g=false then 8 else if l.length=0 then 13 else 0
def JE (l:List AE)(g:List UInt8):Nat:=if Hw l g≠0 then Hw l g else HX (l.map (ES g))
def Mw (l:List AE)(g:List UInt8):AE:=if Hw l g≠0 then⟨[],0,[]⟩else Lq (l.map (ES g))
theorem s6 (g:List UInt8){l:List AE}{i:Nat}{x:AE}(hx:l[i]?=some x):
  (((l.take i).map (ES g)++l.drop i).map AE.D).set i (.agg [str (sb g),i64 x.mass,.sl false 2 (x.shs.map Au.D)])=((l.take (i+1)).map (ES g)++l.drop (i+1)).map AE.D:=by
 have hi:=(BT.1 hx).1;have hd:l.drop i=x::l.drop (i+1):=by
  rw[E5 hi,(BT.1 hx).2]
 rw[D8,hx,hd];simp only[DN,Ci,Option.toList_some,List.map_nil,Dh,E7,FE];rw[Oa _ _ (by simp;omega)]
 have:i-(((l.take i).map (ES g)).map AE.D).length=0:=by simp;omega
 rw[this];rfl
theorem j8 (b:Bool)(l:List AE)(g:List UInt8)(hl:l.length<=1000000)(hf:∀x∈l,x.lite)(hg:g.length<=100000):AK C0 18 [Aj b l,str (sb g)] (.tup [(Mw l g).D,i64 (JE l g:Nat)]):=by
 refine Af.walk w1 iG rfl λF=>?_
 have el:(((l.map AE.D).length:Nat):Int)=(l.length:Int):=by rw[Ai]
 have cP:=Lj b l (by omega) λx hx=>(hf x hx).1
 have cN:=Rz g;have hN:JE l g=if Hw l g≠0 then Hw l g else HX (l.map (ES g)):=rfl
 have hL:Mw l g=if Hw l g≠0 then⟨[],0,[]⟩else Lq (l.map (ES g)):=rfl
 have hE:Hw l g=if Bk l≠0 then Bk l else if EB g=false then 8 else if l.length=0 then 13 else 0:=rfl
 obtain⟨K,hK⟩:∃K,EB g=K:=⟨_,rfl⟩
 have cW1:=Hz (!K) 8;have cW2:=Hz ((l.length:Int)==0) 13;have cF:AK C0 27 [.sl true 1 [i64 (Bk l:Nat),i64 (if !K then 8 else 0),i64 (if(l.length:Int)==0 then 13 else 0)]] (i64 (Hw l g:Nat)):=by
  have:=LT [(Bk l:Int),if !K then 8 else 0,if(l.length:Int)==0 then 13 else 0] (by simp)
  have he:Eo [(Bk l:Int),if !K then 8 else 0,if(l.length:Int)==0 then 13 else 0]=((Hw l g:Nat):Int):=by
   rw[hE,hK]
   by_cases h1:Bk l=0<;>cases K<;>by_cases h3:l.length=0<;>simp[Eo,h1,h3]
  rw[he]at this;exact this
 rw[hK]at cN;rcases Nat.decEq (Hw l g) 0 with g0|g0
 ·have e1:=G9 g0
  rw[AH g0]at hN hL;rw[hN,hL];refine AI AZ (Ad el e1) cP cN cW1 cW2 cF AB ?_;exact⟨_,PY _ _,AA.out,rfl⟩
 have e1:=HA g0;rw[AG (λh=>h g0)]at hN hL;rw[hN,hL];have h0:l≠[]:=λh=>by
  rw[hE]at g0;split at g0
  ·rename_i h9;exact h9 g0
  ·split at g0
   ·cases g0
   ·split at g0
    ·cases g0
    ·rename_i h9;exact h9 (by rw[h];rfl)
 refine AI AZ (Ad el e1) cP cN cW1 cW2 cF AB ?_;refine BF.own _ (oo b l hl h0 _ _) ?_;rintro d H' n' ⟨gk,rfl,rfl,rfl⟩;refine AI AZ kB AB AB AB AB AB AB ?_;refine AC.loop (α:=Nat×Nat) (λp=>⟨[(1,str (sb g)),(4,.optr 0 0 3 0 0),(7,.osl 302 gk 3 0 l.length),(28,i64 (l.length:Int)),(29,i64 (p.1:Int))],[⟨302,gk,51,3,((l.take p.1).map (ES g)++l.drop p.1).map AE.D⟩,⟨0,0,51,3,[.agg [.prim (.string ⟨#[]⟩),.prim (.int .i64 0),.prim (.slice none 0 0)]]⟩],p.2⟩) (λp=>l.length-p.1)
  (λp=>p.1<=l.length) (0,_) (BX _) AL ?_
 rintro⟨i,n⟩ F hi;dsimp only at hi⊢;rcases BG i l.length with h2|h2
 rotate_left
 ·have e1:=Cf h2
  have:i=l.length:=by omega
  subst this;rw[DJ,Jx,Du];have hlr:(l.map (ES g)).length=l.length:=Ai ..;have hfr:∀x∈l.map (ES g),x.lite:=λx hx=>by
   obtain⟨y,hy,rfl⟩:=Bx.1 hx;obtain⟨⟨a1,a2,a3⟩,a4⟩:=hf y hy;exact⟨⟨hg,a2,a3⟩,a4⟩
  have cM:=e0L false (l.map (ES g)) (by rw[hlr];exact hl) hfr;obtain⟨R,hR⟩:∃R,l.map (ES g)=R:=⟨_,rfl⟩
  rw[hR]at cM hlr⊢;obtain⟨Z,hZ⟩:∃Z:AE,Lq R=Z:=⟨_,rfl⟩
  rw[hZ]at cM⊢;refine AI AZ e1 AB AB AB AB AB AB ?_;have hfz:Fz [⟨302,gk,51,3,R.map AE.D⟩,⟨0,0,51,3,[.agg [.prim (.string ⟨#[]⟩),.prim (.int .i64 0),.prim (.slice none 0 0)]]⟩] [⟨0,0,51,3,[.agg [.prim (.string ⟨#[]⟩),.prim (.int .i64 0),.prim (.slice none 0 0)]]⟩] (.osl 302 gk 3 0 l.length) (Aj false R):=by
   have:=HQ (H:=[⟨302,gk,51,3,R.map AE.D⟩,⟨0,0,51,3,[.agg [.prim (.string ⟨#[]⟩),.prim (.int .i64 0),.prim (.slice none 0 0)]]⟩]) (Hf:=[⟨0,0,51,3,[.agg [.prim (.string ⟨#[]⟩),.prim (.int .i64 0),.prim (.slice none 0 0)]]⟩]) (k:=302) (g:=gk) (T:=51) (sz:=3) (l:=R.map AE.D) rfl
   rwa [Ai,hlr]at this
  refine BF.own _ (QU [⟨0,0,51,3,[.agg [.prim (.string ⟨#[]⟩),.prim (.int .i64 0),.prim (.slice none 0 0)]]⟩] cM (.drop (.keep .nil)) ⟨hfz,trivial⟩ AJ) ?_;rintro d H2 n2 ⟨rfl,rfl,rfl⟩;unfold AE.D;refine AI AZ kB AB AB AB AB AB AB ?_;exact AM rfl AA.out
 have e1:=Cd h2;have wi:=Cj (i:=i) (by omega);obtain⟨x,hx⟩:=CQ h2;obtain⟨es,hes⟩:∃es,((l.take i).map (ES g)++l.drop i).map AE.D=es:=⟨_,rfl⟩
 rw[hes];have hm:es[i]?=some (.agg [str (sb x.grain),i64 x.mass,.sl false 2 (x.shs.map Au.D)]):=by
  rw[<-hes,BC,Fq (by simp;omega)];simp only[Ai,Bc,Fv (Ju h2),Nat.sub_self,IC,D9,hx,Jy];rfl
 refine sZ 600 ?_;refine AF e1 ?_;refine AC.seq ?_;refine AO ?_;refine Am ?_;refine AC.seq ?_;refine AC.block ?_;refine sZ 700 ?_;refine AF kB ?_;refine Aq 800 ?_;refine AF (Ar kN BW hm) ?_;have hset:es.set i (.agg [str (sb g),i64 x.mass,.sl false 2 (x.shs.map Au.D)])=((l.take (i+1)).map (ES g)++l.drop (i+1)).map AE.D:=by
  rw[<-hes];exact s6 g hx
 rw[hset];refine AI AZ wi AB AB AB AB AB AB ?_;exact⟨(i+1,_),h2,by dsimp only;omega,AL⟩
theorem qP {g:List UInt8}(hg:g.length<=100000){l:List AE}(hf:∀x∈l,x.lite):∀x∈l.map (ES g),x.lite:=λx hx=>by
 obtain⟨y,hy,rfl⟩:=Bx.1 hx;obtain⟨⟨a1,a2,a3⟩,a4⟩:=hf y hy;exact⟨⟨hg,a2,a3⟩,a4⟩
theorem tD {l:List AE}(h:HX l=0):IA l=0/\(CR l).length<=64/\∀p∈GD (CR l),DH (p.2/(Ab l:Rat))=false:=by
 unfold HX at h;split at h
 ·rename_i h9;exact Ak h h9
 ·split at h
  ·cases h
  ·split at h
   ·cases h
   ·rename_i h1 h2 h3
    refine⟨by omega,by omega,λp hp=>?_⟩
    have:=List.any_eq_false.1 ((Bool.not_eq_true _).mp h3) p hp
    exact(Bool.not_eq_true _).mp this
theorem bi {l:List AE}(h:HX l=0):Lq l=⟨(CV l 0).grain,Ab l,FS l⟩:=by
 unfold Lq;rw[AG (λq=>q h)]
theorem sG {l:List UInt8}(h:Ck l=0):l.length<=100000:=by
 obtain⟨-,h2,h3,-⟩:=RX h;have h4:(CD l).length<=(CF l).length+1:=by
  unfold CF Bw;split
  ·simp;omega
  ·omega
 unfold CD Bh at*;rw[Bc]at h4;rw[Dv]at h3;omega
theorem tE {l:List AE}(hf:∀x∈l,x.lite)(h:HX l=0):(FS l).length<=64/\∀s∈FS l,s.lot.length<=1000/\s.part.length<=100000/\Ck s.part=0/\rk (Bv s.part) 600:=by
 obtain⟨h1,h2,h3⟩:=tD h;obtain⟨g1,g2,g3,g4,g5⟩:=bh h1;obtain⟨hx,hK⟩:=Ye hf g3 g2;refine⟨by unfold FS;rw[Ai,(LB _).length_eq];exact h2,λs hs=>?_⟩;unfold FS at hs;obtain⟨p,hp,rfl⟩:=Bx.1 hs;have hc:=ae (h3 p hp);refine⟨hK.all p.1 (List.mem_map_of_mem ((LB _).mem_iff.1 hp)),?_,hc,Nk hc⟩;exact sG hc
def Ga (l:List AE)(left:Int):AE:=⟨(CV l 0).grain,Ab l-left,FS (l.map (ES (CV l 0).grain))⟩
def Jr (l:List AE)(left:Int):Nat:=if Bk l≠0 then Bk l else if left<1 then 3 else if Ab l<left then 13 else if CX l=false then 16 else if JE l (CV l 0).grain≠0 then JE l (CV l 0).grain
 else if Ab l=left then 0 else Ia (CR [Ga l left])
def TD (l:List AE)(left:Int):AE:=if Jr l left≠0 then⟨[],0,[]⟩else⟨(CV l 0).grain,left,FS (l.map (ES (CV l 0).grain))⟩
def TC (l:List AE)(left:Int):BR:=if Jr l left≠0 then[]else if Ab l=left then[]else Jm (CR [Ga l left])
theorem NW {H:Hp}{a a' b b' c:D}(h1:Fz H [] a a')(h2:Fz H [] b b'):Fz H [] (.tup [a,b,c]) (.tup [a',b',c]):=.tup rfl λi d d' h h'=>by
 match i with
 | 0=>cases h;cases h';exact h1
 | 1=>cases h;cases h';exact h2
 | 2=>cases h;cases h';exact .refl _
 |n+3=>cases h
theorem Ss (H:Hp):Fz H [] (.agg [str ⟨#[]⟩,i64 0,Cb]) (⟨[],0,[]⟩:AE).D:=.agg rfl λi d d' h h'=>by
 match i with
 | 0=>cases h;cases h';exact .refl _
 | 1=>cases h;cases h';exact .refl _
 | 2=>cases h;cases h';exact .nil 2
 |n+3=>cases h
theorem sO (b:Bool)(l:List AE)(left:Int)(hl:l.length<=1000000)(hf:∀x∈l,x.lite):AK C0 24 [Aj b l,i64 left] (.tup [(TD l left).D,.sl false 2 ((TC l left).map Bo),i64 (Jr l left:Nat)]):=by
 refine Af.walk w1 iK rfl λF=>?_
 have cP:=Lj b l (by omega) λx hx=>(hf x hx).1
 have hE:Jr l left=if Bk l≠0 then Bk l else if left<1 then 3 else if Ab l<left then 13 else if CX l=false then 16 else if JE l (CV l 0).grain≠0 then JE l (CV l 0).grain
  else if Ab l=left then 0 else Ia (CR [Ga l left]):=rfl
 have hX:TD l left=if Jr l left≠0 then⟨[],0,[]⟩else⟨(CV l 0).grain,left,FS (l.map (ES (CV l 0).grain))⟩:=rfl
 have hL:TC l left=if Jr l left≠0 then[]else if Ab l=left then[]else Jm (CR [Ga l left]):=rfl
 have cW1:=Hz (decide (left<1)) 3;obtain⟨E0,hE0⟩:∃e:Nat,(if Bk l≠0 then Bk l else if left<1 then 3 else 0)=e:=⟨_,rfl⟩
 have cF0:AK C0 27 [.sl true 1 [i64 (Bk l:Nat),i64 (if decide (left<1)then 3 else 0)]] (i64 (E0:Nat)):=by
  have:=LT [(Bk l:Int),if decide (left<1)then 3 else 0] (by simp)
  have he:Eo [(Bk l:Int),if decide (left<1)then 3 else 0]=((E0:Nat):Int):=by
   rw[<-hE0]
   by_cases h1:Bk l=0<;>by_cases h2:left<1<;>simp[Eo,h1,h2]
  rw[he]at this;exact this
 rcases Nat.decEq E0 0 with g0|g0
 ·have e1:=G9 g0
  have hE2:Jr l left=E0:=by
   rw[hE,<-hE0];split
   ·rfl
   ·rename_i h1
    rw[<-hE0,AG h1]at g0;split
    ·rfl
    ·rename_i h2;exact Ak (AG h2) g0
  rw[hE2]at hX hL⊢;rw[AH g0]at hX hL;rw[hX,hL];refine AI AZ e1 cP cW1 cF0 AB AB AB ?_;exact⟨_,NW (Ss _) (.nil 2),AA.out,rfl⟩
 have e1:=HA g0;have hp0:Bk l=0:=by
  apply DF;intro h;rw[AH h]at hE0;omega
 have hl1:¬left<1:=λh=>by
  rw[AG (λq=>q hp0),AH h]at hE0;omega
 rw[AG (λh=>h hp0),AG hl1]at hE;obtain⟨p1,p2,p3⟩:=IX hp0;have hsm:JA l:=⟨by omega,λx hx=>by have:=PF (p2 x hx);omega⟩
 have cT:=dj b l hsm;have cG:=ZB b l hl;have cW2:=Hz (decide (Ab l<left)) 13;obtain⟨E1,hE1⟩:∃e:Nat,(if Ab l<left then 13 else if CX l=false then 16 else 0)=e:=⟨_,rfl⟩
 have cF1:AK C0 27 [.sl true 1 [i64 (if decide (Ab l<left)then 13 else 0),i64 (if CX l then 0 else 16:Nat)]] (i64 (E1:Nat)):=by
  have:=LT [if decide (Ab l<left)then 13 else 0,((if CX l then 0 else 16:Nat):Int)] (by simp)
  have he:Eo [if decide (Ab l<left)then 13 else 0,((if CX l then 0 else 16:Nat):Int)]=((E1:Nat):Int):=by
   rw[<-hE1]
   by_cases h1:Ab l<left<;>cases CX l<;>simp[Eo,h1]
  rw[he]at this;exact this
 rcases Nat.decEq E1 0 with g1|g1
 ·have e2:=G9 g1
  have hE2:Jr l left=E1:=by
   rw[hE,<-hE1];split
   ·rfl
   ·rename_i h1
    rw[<-hE1,AG h1]at g1;split
    ·rfl
    ·rename_i h2;exact Ak (AG h2) g1
  rw[hE2]at hX hL⊢;rw[AH g1]at hX hL;rw[hX,hL];refine AI AZ e1 cP cW1 cF0 AB AB AB ?_;refine AI AZ e2 cT cW2 cG cF1 AB AB ?_;exact⟨_,NW (Ss _) (.nil 2),AA.out,rfl⟩
 have e2:=HA g1;have hs1:¬Ab l<left:=λh=>by
  rw[AH h]at hE1;omega
 have hs2:¬CX l=false:=λh=>by
  rw[AG hs1,AH h]at hE1;omega
 rw[AG hs1,AG hs2]at hE;have hl0:0<l.length:=by
  rcases l with _|⟨y,l⟩
  ·exfalso;apply hs1
   show(0:Int)<left;omega
  ·simp
 obtain⟨x0,hx0⟩:∃x,l[0]?=some x:=⟨_,By hl0⟩
 have hm0:(l.map AE.D)[0]?=some (.agg [str (sb x0.grain),i64 x0.mass,.sl false 2 (x0.shs.map Au.D)]):=by rw[BC,hx0];rfl
 have hgr:(CV l 0).grain=x0.grain:=by rw[GK hx0]
 have hg9:=(hf x0 (Av hx0)).1.1;have cPo:=j8 b l x0.grain hl hf hg9;rw[hgr]at hE hX;have hlt:Ga l left=⟨x0.grain,Ab l-left,FS (l.map (ES x0.grain))⟩:=by unfold Ga;rw[hgr]
 rw[hlt]at hE hL;obtain⟨PN,hPN⟩:∃n,JE l x0.grain=n:=⟨_,rfl⟩
 rw[hPN]at hE cPo;rcases Nat.decEq PN 0 with g2|g2
 ·have e3:=G9 g2
  rw[AH g2]at hE;rw[hE]at hX hL⊢;rw[AH g2]at hX hL;rw[hX,hL];obtain⟨Z,hZ⟩:∃Z,Mw l x0.grain=Z:=⟨_,rfl⟩
  rw[hZ]at cPo;unfold AE.D C9 at cPo;obtain⟨ZS,hZS⟩:∃d,List.map Au.D Z.shs=d:=⟨_,rfl⟩
  have pZS:AA (.sl false 2 ZS):=by rw[<-hZS];exact AJ
  rw[hZS]at cPo;refine AI AZ e1 cP cW1 cF0 AB AB AB ?_;refine AI AZ e2 cT cW2 cG cF1 AB AB ?_;refine AI AZ e3 hm0 cPo AB AB AB AB ?_;exact⟨_,NW (Ss _) (.nil 2),AA.out,rfl⟩
 have e3:=HA g2;rw[AG (λh=>h g2)]at hE;have hpe:Hw l x0.grain=0:=by
  apply DF;intro h
  have:JE l x0.grain=Hw l x0.grain:=AH h
  omega
 have hmn:HX (l.map (ES x0.grain))=0:=by
  have:JE l x0.grain=HX (l.map (ES x0.grain)):=AG (λh=>h hpe)
  omega
 have hpl:Mw l x0.grain=⟨x0.grain,Ab l,FS (l.map (ES x0.grain))⟩:=by
  unfold Mw;rw[AG (λh=>h hpe),bi hmn]
  congr 1
  ·rw[GK (l:=l.map (ES x0.grain)) (x:=ES x0.grain x0) (by rw[BC,hx0];rfl)];rfl
  ·unfold Ab;rw[List.map_map];rfl
 obtain⟨m1,m2⟩:=tE (qP hg9 hf) hmn;rw[hpl]at cPo;clear hpl hmn hpe hPN hlt;obtain⟨S,hS⟩:∃S,FS (l.map (ES x0.grain))=S:=⟨_,rfl⟩
 rw[hS]at cPo hE hX hL m1 m2;have ws:IntKind.i64.wrap (Ab l-left)=Ab l-left:=wI;unfold AE.D at cPo;dsimp only at cPo;unfold C9 at cPo;obtain⟨SD,hSD⟩:∃d,List.map Au.D S=d:=⟨_,rfl⟩
 have pSD:AA (.sl false 2 SD):=by rw[<-hSD];exact AJ
 rw[hSD]at cPo
 by_cases hz:Ab l=left
 ·have e4:((Ab l-left)==0)=true:=by rw[El];omega
  rw[AH hz]at hE;rw[hE]at hX hL⊢;rw[AG (λh=>h rfl)]at hX hL;rw[AH hz]at hL;rw[hX,hL];unfold AE.D;dsimp only;unfold C9;rw[hSD];refine AI AZ e1 cP cW1 cF0 AB AB AB ?_;refine AI AZ e2 cT cW2 cG cF1 AB AB ?_;refine AI AZ (Ar e3 ws e4) hm0 cPo AB AB AB AB ?_;exact⟨_,NW (.refl _) (.nil 2),AA.out,rfl⟩
 have e4:((Ab l-left)==0)=false:=by rw[B5];omega
 rw[AG hz]at hE hL;have cO:=Pk ⟨x0.grain,left,S⟩ (Ab l-left) (by dsimp only;omega);obtain⟨Y,hY⟩:∃Y:AE,(⟨x0.grain,Ab l-left,S⟩:AE)=Y:=⟨_,rfl⟩
 rw[hY]at cO hE hL;have hYo:∀x∈[Y],x.okW 602:=λx hx=>by
  rw[D4]at hx;rw[hx,<-hY];exact⟨m1,by unfold Sm;dsimp only;omega,λs hs=>⟨by have:=(m2 s hs).1;omega,(m2 s hs).2.1,(m2 s hs).2.2.1,(m2 s hs).2.2.2⟩⟩
 have cLo:=ge 602 true [Y] (by simp) hYo (by omega) (by simp);have hKY:Hy (λk=>k.length<=1000) (64*[Y].length) (CR [Y]):=UA λx hx=>by
  rw[D4]at hx;rw[hx,<-hY];exact⟨m1,λs hs=>(m2 s hs).1⟩
 change Af C0 42 [.sl true 3 [.agg [str (sb Y.grain),i64 Y.mass,.sl false 2 (Y.shs.map Au.D)]]] _ at cLo;change AK C0 64 [.agg [str (sb x0.grain),i64 left,.sl false 2 (S.map Au.D)],i64 (Ab l-left)] (.agg [str (sb Y.grain),i64 Y.mass,.sl false 2 (Y.shs.map Au.D)])at cO;obtain⟨YS,hYS⟩:∃d,Y.shs.map Au.D=d:=⟨_,rfl⟩
 have pYS:AA (.sl false 2 YS):=by rw[<-hYS];exact AJ
 rw[hSD,hYS]at cO;rw[hYS]at cLo;obtain⟨q,hq⟩:∃q,CR [Y]=q:=⟨_,rfl⟩
 rw[hq]at cLo hKY hE hL;refine AI AZ e1 cP cW1 cF0 AB AB AB ?_;refine AI AZ e2 cT cW2 cG cF1 AB AB ?_;refine AI AZ (Ar e3 ws e4) hm0 cPo cO AB AB AB ?_;refine BF.prop _ _ (FK.refl _) cLo AJ ?_;rintro d ⟨m,rfl,hQ⟩;have cA:=aL _ (by simp) q m hQ (BU hKY.len (by simp)) hKY.nd;have pM:AA (mapD m):=⟨hQ.mapD⟩
 unfold KU at cA;obtain⟨M,hM⟩:∃M,mapD m=M:=⟨_,rfl⟩
 rw[hM]at cA pM⊢;rcases Nat.decEq (Ia q) 0 with g4|g4
 ·have e5:=G9 g4
  rw[hE]at hX hL⊢;rw[AH g4]at hX hL;rw[hX,hL];refine AI AZ e5 cA AB AB AB AB AB ?_;exact⟨_,NW (Ss _) (.nil 2),AA.out,rfl⟩
 have e5:=HA g4;rw[hE]at hX hL⊢;rw[AG (λh=>h g4)]at hX hL;rw[hX,hL];unfold AE.D;dsimp only;unfold C9;rw[hSD];refine AI AZ e5 cA AB AB AB AB AB ?_;exact⟨_,.refl _,AA.out,by rw[g4];rfl⟩
abbrev Rk:Dr:=[(4,[0,1,2,3,4,5,6,7,8],[9])]
open Go.Proofs Go.RowKit Go.Sort
set_option maxRecDepth 20000
set_option maxHeartbeats 4000000
def AE.modr (x:AE):Prop:=(x.shs.length<=15\/64<x.shs.length)/\x.lite
theorem oO (l:List UInt8):BE (sb l) (sb l)=true:=by rw[FC];exact Ax rfl
def Db (l:List AE):Int:=l.foldl (λa x=>IntKind.i64.wrap (a+x.mass)) 0
theorem Uh {l:List AE}{i:Nat}{x:AE}(h:l[i]?=some x):Db (l.take (i+1))=IntKind.i64.wrap (Db (l.take i)+x.mass):=by
 unfold Db;rw[D8,h];simp
theorem Ix {l:List AE}(hs:JA l):Db l=Ab l:=by
 obtain⟨hl,hm⟩:=hs
 have:∀i,i<=l.length->Db (l.take i)=Ab (l.take i):=λi=>by
  induction i with
  |zero=>exact λ_=>rfl
  |succ i ih=>
   intro hi;obtain⟨x,hx⟩:=CQ (show i<l.length by omega);have hb:=Vg (l:=l.take i) λy hy=>hm y (E8 hy)
   have hxm:=hm x (Av hx);rw[Bc,Fv (by omega)]at hb;rw[Uh hx,ih (by omega),Ue hx,wI]
 have:=this l.length (An _)
 rwa [DJ]at this
theorem yy (b:Bool)(l:List AE)(hl:l.length<=9223372036854775807):AK C0 16 [Aj b l] (i64 (Db l)):=by
 refine Af.walk w1 zz rfl λF=>?_
 have el:(((l.map AE.D).length:Nat):Int)=(l.length:Int):=by rw[Ai]
 refine AI AZ el AB AB AB AB AB AB ?_;refine AC.loop (α:=Nat×Nat) (λp=>⟨[(0,Aj b l),(3,i64 (Db (l.take p.1))),(4,i64 (p.1:Int))],[],p.2⟩) (λp=>l.length-p.1) (λp=>p.1<=l.length) (0,_) (BX _) AL ?_;rintro⟨i,m⟩ F hi;dsimp only at hi⊢;rcases BG i l.length with h2|h2
 rotate_left
 ·have e1:=Cf h2
  have:i=l.length:=by omega
  subst this;rw[DJ];refine AI AZ (Ad e1 el) AB AB AB AB AB AB ?_;exact AM rfl AA.out
 have e1:=Cd h2;have wi:=Cj (i:=i) (by omega);obtain⟨x,hx⟩:=CQ h2;have hm:(l.map AE.D)[i]?=some (.agg [str (sb x.grain),i64 x.mass,.sl false 2 (x.shs.map Au.D)]):=by rw[BC,hx];rfl
 have ws:=(Uh hx).symm;refine AI AZ (CT e1 el wi ws kN) hm AB AB AB AB AB ?_;exact⟨(i+1,_),h2,by dsimp only;omega,AL⟩
theorem Wm (b:Bool)(l:List AE)(hs:JA l):AK C0 16 [Aj b l] (i64 (Ab l)):=by
 have h:=yy b l (by have:=hs.1;omega)
 rwa [Ix hs]at h
theorem se (b:Bool)(l:List AE)(hl:l.length<=1000000):AK C0 88 [Aj b l] (Ap (CX l)):=by
 refine Af.walk w1 zb rfl λF=>?_
 have el:(((l.map AE.D).length:Nat):Int)=(l.length:Int):=by rw[Ai]
 refine AI Rk el AB AB AB AB AB AB ?_;refine AC.loop (α:=Nat×Nat) (λp=>⟨[(0,Aj b l),(3,i64 (p.1:Int))],[],p.2⟩) (λp=>l.length-p.1)
  (λp=>1<=p.1/\(p.1<=l.length\/p.1=1)/\∀x∈l.take p.1,BE (sb x.grain) (sb (CV l 0).grain)=true) (1,_) ⟨An _,.inr rfl,λx h=>by
   rcases l with _|⟨y,l⟩
   ·simp at h
   ·have:x=y:=by simpa using h
    rw[this];exact oO _⟩ AL ?_
 rintro⟨i,m⟩ F ⟨hi1,hi,hs⟩;dsimp only at hi1 hi hs⊢;rcases BG i l.length with h2|h2
 rotate_left
 ·have e1:=Cf h2
  have hg:CX l=true:=by
   unfold CX;rw[CW];intro x hx;rw[Co h2]at hs;exact hs x hx
  rw[hg];refine AI Rk (Ad e1 el) AB AB AB AB AB AB ?_;exact AM rfl AA.out
 have e1:=Cd h2;have wi:=Cj (i:=i) (by omega);obtain⟨x,hx⟩:=CQ h2;have hm:(l.map AE.D)[i]?=some (.agg [str (sb x.grain),i64 x.mass,.sl false 2 (x.shs.map Au.D)]):=by rw[BC,hx];rfl
 obtain⟨x0,hx0⟩:∃x,l[0]?=some x:=⟨_,Ct⟩
 have hm0:(l.map AE.D)[0]?=some (.agg [str (sb x0.grain),i64 x0.mass,.sl false 2 (x0.shs.map Au.D)]):=by rw[BC,hx0];rfl
 have hv0:=GK hx0;obtain⟨bG,hbG⟩:∃q,BE (sb x.grain) (sb x0.grain)=q:=⟨_,rfl⟩
 cases bG
 ·have hg:CX l=false:=by
   unfold CX;rw[List.all_eq_false];exact⟨x,Av hx,by rw[hv0,hbG];decide⟩
  rw[hg];refine AI Rk (Bd e1 el hbG kN) hm hm0 AB AB AB AB ?_;exact AM rfl AA.out
 ·refine AI Rk (CT e1 el hbG wi kN) hm hm0 AB AB AB AB ?_
  exact⟨(i+1,_),⟨by dsimp only;omega,.inl h2,λy hy=>by
   dsimp only at hy;rw[D8,hx]at hy;rcases Bl.1 hy with q|q
   ·exact hs y q
   ·have:y=x:=by simpa using q
    rw[this,hv0];exact hbG⟩,by dsimp only;omega,AL⟩
theorem jt (b:Bool)(l:List AE)(hl:l.length<=1000000)(hf:∀x∈l,x.modr):AK C0 87 [Aj b l] (i64 (Bk l:Nat)):=by
 refine Af.walk w1 za rfl λF=>?_
 have el:(((l.map AE.D).length:Nat):Int)=(l.length:Int):=by rw[Ai]
 have hC:Bk l=if 64<l.length then 5 else if EJ (λi=>Cn (CV l i)) l.length≠0 then EJ (λi=>Cn (CV l i)) l.length else if Ab l>999999999 then 4 else 0:=rfl
 by_cases h64:64<l.length
 ·rw[AH h64]at hC
  rw[hC];have q2:decide ((l.length:Int)>64)=true:=Ba;refine AI AZ (Ad el q2) AB AB AB AB AB AB ?_;exact AM rfl AA.out
 rw[AG h64]at hC;have q2:decide ((l.length:Int)>64)=false:=Bg;refine AI AZ (Ad el q2) AB AB AB AB AB AB ?_;refine AC.loop (α:=Nat×Nat) (λp=>⟨[(0,Aj b l),(3,i64 (p.1:Int))],[],p.2⟩) (λp=>l.length-p.1) (λp=>p.1<=l.length/\∀j,j<p.1->Cn (CV l j)=0) (0,_) ⟨BX _,λj h=>Ak h (Hg j)⟩ AL ?_;rintro⟨i,m⟩ F ⟨hi,hz⟩;dsimp only at hi hz⊢;rcases BG i l.length with h2|h2
 rotate_left
 ·have e1:=Cf h2
  have:i=l.length:=by omega
  subst this;rw[AG (λh=>h (MN (f:=λi=>Cn (CV l i)) hz))]at hC;have cT:=Wm b l (UH h64 hz)
  by_cases h9:Ab l>999999999
  ·have e9:decide (Ab l>999999999)=true:=Ax h9
   rw[AH h9]at hC;rw[hC];refine AI AZ (Ar e1 el e9) cT AB AB AB AB AB ?_;exact AM rfl AA.out
  ·have e9:decide (Ab l>999999999)=false:=Ay h9
   rw[AG h9]at hC;rw[hC];refine AI AZ (Ar e1 el e9) cT AB AB AB AB AB ?_;exact AM rfl AA.out
 have e1:=Cd h2;have wi:=Cj (i:=i) (by omega);obtain⟨x,hx⟩:=CQ h2;have hm:(l.map AE.D)[i]?=some (.agg [str (sb x.grain),i64 x.mass,.sl false 2 (x.shs.map Au.D)]):=by rw[BC,hx];rfl
 have hxm:=hf x (Av hx);have cL:=e0Q x hxm.1 hxm.2.1;unfold AE.D at cL;rcases Nat.decEq (Cn x) 0 with hc0|hc0
 ·have e3:=G9 hc0
  have:=PX (f:=λi=>Cn (CV l i)) hz h2 (by rw[GK hx];exact hc0)
  rw[GK hx]at this;rw[this,AH hc0]at hC;rw[hC];refine AI AZ (Bd e1 el e3 kN) hm cL AB AB AB AB ?_;exact AM rfl AA.out
 have e3:=HA hc0;refine AI AZ (CT e1 el e3 wi kN) hm cL AB AB AB AB ?_;exact⟨(i+1,_),⟨h2,λj hj=>by
  rcases Kq.1 hj with q|q
  ·exact hz j q
  ·rw[q,GK hx];exact hc0⟩,by dsimp only;omega,AL⟩
def H4 (x:AE):BR:=x.shs.map λs=>(s.lot,Bv s.part*(x.mass:Rat))
theorem ZN {x:AE}(hn:(x.shs.map (·.lot)).Nodup):∀j,j<=x.shs.length->G6 x j []=(H4 x).take j
 | 0,_=>rfl
 |j+1,hj=>by
  obtain⟨s,hs⟩:∃s,x.shs[j]?=some s:=⟨_,By hj⟩
  rw[Oz x j [] hs,ZN hn j (by omega)];have hm:(H4 x)[j]?=some (s.lot,Bv s.part*(x.mass:Rat)):=by unfold H4;rw[BC,hs];rfl
  have hnot:s.lot∉Cv ((H4 x).take j):=λh=>by
   obtain⟨z,hz,h2⟩:=Bx.1 h;obtain⟨i,hi⟩:=Lz.1 hz;have hij:i<j:=by
    have:=(BT.1 hi).1
    rw[Bc]at this;omega
   rw[FW,AH hij]at hi;unfold H4 at hi;rw[BC]at hi;obtain⟨t,ht,rfl⟩:=E6.1 hi;have e1:(x.shs.map (·.lot))[i]?=some t.lot:=by rw[BC,ht];rfl
   have e2:(x.shs.map (·.lot))[j]?=some s.lot:=by rw[BC,hs];rfl
   have a1:=BT.1 e1;have a2:=BT.1 e2
   have:i=j:=(List.getElem_inj (h₀:=a1.1) (h₁:=a2.1) hn).1 (by rw[a1.2,a2.2];exact h2)
   omega
  have hl:GZ s.lot ((H4 x).take j)=none:=by
   cases h9:GZ s.lot ((H4 x).take j)with
   |none=>rfl
   |some o=>
    obtain⟨A,B,h3,-⟩:=RL (v:=o) h9;exact Ak (by rw[h3];simp[Cv]) hnot
  unfold Kj;rw[hl];dsimp only;rw[(UM (v:=Bv s.part*(x.mass:Rat)) hl).2,D8,hm];rfl
theorem oE {x:AE}(hn:(x.shs.map (·.lot)).Nodup):CR [x]=H4 x:=by
 show G6 x x.shs.length []=_;rw[ZN hn _ (An _),Co];unfold H4;rw[Ai];exact An _
theorem tc {q:BR}(h:EF q):GD q=q:=(Tx h.nd (.refl _) (LB _) h.weak (R3 _)).symm
theorem tF (l:List AE):(FS l).Pairwise λa b=>ltStr a.lot b.lot=true:=by
 unfold FS;rw[List.pairwise_map,<-Ut];exact MZ l
theorem VK (l:List AE)(left:Int):CR [Ga l left]=H4 (Ga l left)/\GD (CR [Ga l left])=H4 (Ga l left):=by
 have hp:(Ga l left).shs.Pairwise λa b=>ltStr a.lot b.lot=true:=tF _
 have h1:=oE (x:=Ga l left) (by
  rw[List.Nodup,List.pairwise_map];exact hp.imp λ{a b} h e=>by rw[e,swo_ltStr.irrefl]at h;cases h)
 refine⟨h1,?_⟩;rw[h1];refine tc ?_;unfold H4;show List.Pairwise _ _;rw[List.pairwise_map];exact hp
theorem yQ (b:Bool)(l:List AE)(hl:l.length<=9223372036854775807)(hs:∀x∈l,x.shs.length<=9223372036854775807):AK C0 47 [Aj b l] (Ap (HT l)):=by
 refine Af.walk w1 d8j rfl λF=>?_
 have el:(((l.map AE.D).length:Nat):Int)=(l.length:Int):=by rw[Ai]
 refine AI AZ el AB AB AB AB AB AB ?_;refine AC.loop (α:=Nat×Nat) (λp=>⟨[(0,Aj b l),(7,Aj b l),(8,i64 (l.length:Int)),(9,i64 (p.1:Int))],[],p.2⟩) (λp=>l.length-p.1) (λq=>q.1<=l.length/\(l.take q.1).all AE.shB=true) (0,_) ⟨BX _,rfl⟩ AL ?_;rintro⟨i,n⟩ F ⟨hi,ha⟩;dsimp only at hi ha⊢;rcases BG i l.length with h2|h2
 rotate_left
 ·have e1:=Cf h2
  have:i=l.length:=by omega
  subst this;rw[DJ]at ha;obtain⟨q1,h1⟩:∃q,decide ((l.length:Int)<=8)=q:=⟨_,rfl⟩
  obtain⟨q2,h2'⟩:∃q,decide ((l.length:Int)>64)=q:=⟨_,rfl⟩
  obtain⟨q3,h3⟩:∃q,decide ((l.length:Int)<=80)=q:=⟨_,rfl⟩
  have hb:HT l=(q1||(q2&&q3)):=by
   unfold HT;rw[ha,<-h1,<-h2',<-h3,HF]
   congr 1
   ·exact DQ.2 (by omega)
   ·congr 1
    ·exact DQ.2 (by omega)
    ·exact DQ.2 (by omega)
  rw[hb];cases q1<;>cases q2<;>cases q3
  all_goals
   refine AI AZ (CY e1 el h1 h2' h3 kT kF) AB AB AB AB AB AB ?_;exact AM rfl AA.out
 have e1:=Cd h2;have wi:=Cj (i:=i) (by omega);obtain⟨x,hx⟩:=CQ h2;have hm:(l.map AE.D)[i]?=some (.agg [str (sb x.grain),i64 x.mass,.sl false 2 (x.shs.map Au.D)]):=by rw[BC,hx];rfl
 have hsx:=hs x (Av hx);have ex:(((x.shs.map Au.D).length:Nat):Int)=(x.shs.length:Int):=by rw[Ai]
 have hsz:=Cx x.grain;obtain⟨p1,h1⟩:∃q,decide ((x.grain.length:Int)>100)=q:=⟨_,rfl⟩
 obtain⟨p2,h2'⟩:∃q,decide ((x.shs.length:Int)>8)=q:=⟨_,rfl⟩
 obtain⟨p3,h3⟩:∃q,decide ((x.shs.length:Int)<=64)=q:=⟨_,rfl⟩
 obtain⟨p4,h4⟩:∃q,decide ((x.shs.length:Int)>80)=q:=⟨_,rfl⟩
 have hb:x.shB=(!p1&&(!p2 || !p3) && !p4&&x.shs.all Au.shB):=by
  unfold AE.shB;rw[<-h1,<-h2',<-h3,<-h4]
  congr 1
  congr 1
  ·congr 1
   ·rw[<-decide_not];exact DQ.2 (by omega)
   ·congr 1
    ·rw[<-decide_not];exact DQ.2 (by omega)
    ·rw[<-decide_not];exact DQ.2 (by omega)
  ·rw[<-decide_not];exact DQ.2 (by omega)
 by_cases g:(!p1&&(!p2 || !p3) && !p4)=true
 rotate_left
 ·have hbf:x.shB=false:=by rw[hb];simp only[Bool.not_eq_true]at g;rw[g];rfl
  have hsf:HT l=false:=by unfold HT;rw[VL hx hbf];rfl
  rw[hsf];cases p1<;>cases p2<;>cases p3<;>cases p4
  all_goals first
   |exact Ak rfl g
   |skip
  all_goals
   refine AI AZ (CY e1 hsz ex h1 h2' h3 (Bd h4 kN kT kF)) hm AB AB AB AB AB ?_;exact AM rfl AA.out
 rw[g,HF]at hb;cases p1<;>cases p2<;>cases p3<;>cases p4
 all_goals first
  |exact Ak g (by decide)
  |skip
 all_goals
  refine AI AZ (CY e1 hsz ex h1 h2' h3 (Bd h4 kN kT kF)) hm AB AB AB AB AB ?_;refine AC.loop (α:=Nat×Nat) (λp=>⟨[(0,Aj b l),(7,Aj b l),(8,i64 (l.length:Int)),(9,i64 (i:Int)),(36,.sl false 2 (x.shs.map Au.D)),(37,i64 (x.shs.length:Int)),(38,i64 (p.1:Int))],[],p.2⟩) (λp=>x.shs.length-p.1) (λq=>q.1<=x.shs.length/\(x.shs.take q.1).all Au.shB=true) (0,_) ⟨BX _,rfl⟩ AL ?_;clear h1 h2' h3 h4 g;rintro⟨j,n⟩ F ⟨hj,haj⟩;dsimp only at hj haj⊢;rcases BG j x.shs.length with g2|g2
  ·have e3:=Cd g2
   have wj:=Cj (i:=j) (by omega);obtain⟨y,hy⟩:=CQ g2;have hmy:(x.shs.map Au.D)[j]?=some (.agg [str (sb y.lot),str (sb y.part)]):=by rw[BC,hy];rfl
   have hs1:=Cx y.lot;have hs2:=Cx y.part;obtain⟨r1,k1⟩:∃q,decide ((y.lot.length:Int)>100)=q:=⟨_,rfl⟩
   obtain⟨r2,k2⟩:∃q,decide ((y.part.length:Int)>14)=q:=⟨_,rfl⟩
   have hby:y.shB=(!r1 && !r2):=by
    unfold Au.shB;rw[<-k1,<-k2]
    congr 1
    ·rw[<-decide_not];exact DQ.2 (by omega)
    ·rw[<-decide_not];exact DQ.2 (by omega)
   have fin:y.shB=false->HT l=false:=λh=>by
    have:x.shB=false:=by rw[hb,VL hy h]
    unfold HT;rw[VL hx this];rfl
   cases r1
   ·cases r2
    ·refine AI AZ (CY e3 wj hs1 hs2 k1 k2 (Ar kN kT kF)) hmy AB AB AB AB AB ?_
     exact⟨(j+1,_),⟨g2,ZV hy haj hby⟩,by dsimp only;omega,AL⟩
    ·rw[fin hby]
     refine AI AZ (CY e3 wj hs1 hs2 k1 k2 (Ar kN kT kF)) hmy AB AB AB AB AB ?_;exact AM rfl AA.out
   ·rw[fin hby]
    refine AI AZ (CY e3 wj hs1 hs2 k1 kN (Ad kT kF)) hmy AB AB AB AB AB ?_;exact AM rfl AA.out
  ·have e3:=Cf g2
   have:j=x.shs.length:=by omega
   subst this;rw[DJ]at haj;refine AI AZ (Ad e3 wi) AB AB AB AB AB AB ?_;exact⟨(i+1,_),⟨h2,ZV hx ha (hb.trans haj)⟩,by dsimp only;omega,AL⟩
theorem so {l:List AE}(h:HT l=true):(∀x∈l,x.lite/\x.modr)/\l.length<=80/\(l.length<=8\/64<l.length):=by
 unfold HT at h;simp only[BY,Kx,CW,Gi]at h;obtain⟨h1,h2⟩:=h;refine⟨λx hx=>?_,by omega,by omega⟩;have hb:=h1 x hx;unfold AE.shB at hb;simp only[BY,Kx,CW,Gi]at hb;obtain⟨⟨⟨b1,b2⟩,b3⟩,b4⟩:=hb;have hs:∀s∈x.shs,s.lot.length<=100/\s.part.length<=14:=λs hs=>by
  have:=b4 s hs
  unfold Au.shB at this;simpa using this
 have hl:x.lite:=⟨⟨by omega,by omega,λs q=>⟨by have:=(hs s q).1;omega,by have:=(hs s q).2;omega⟩⟩,λs q=>⟨by have:=(hs s q).1;omega,by have:=(hs s q).2;omega⟩⟩
 exact⟨hl,by omega,hl⟩
theorem Dz {l:List AE}(h:Bk l=0):l.length<=64/\(∀x∈l,1<=x.mass/\x.mass<=1000000000/\x.shs.length<=1000000)/\JA l:=by
 obtain⟨g1,g2,g3⟩:=IX h;have hx:∀x∈l,1<=x.mass/\x.mass<=1000000000/\x.shs.length<=1000000:=λx q=>by
  obtain⟨a,b,c,d⟩:=PF (g2 x q)
  have:=(UC d).2.1
  exact⟨by omega,by omega,by omega⟩
 exact⟨g1,hx,by omega,λx q=>by have:=hx x q;omega⟩
abbrev Rl:Dr:=[(4,[0,1,2,3,4,5,6,7,8,9,10,11,12,13,14],[15,16])]
open Go.Proofs Go.RowKit Go.Sort
set_option maxRecDepth 20000
set_option maxHeartbeats 4000000
structure As where
 flow:List UInt8
 core:Int
 room:Int
 side:Int
 cells:List (List AE)
abbrev FQ (b:Bool)(cs:List (List AE)):D:=.sl b 1 (cs.map (Aj false))
def As.D (x:As):D:=.agg [str (sb x.flow),i64 x.core,i64 x.room,i64 x.side,FQ false x.cells]
instance  (x:As):AW x.D:=by unfold As.D;exact AJ
instance  (x:As):AA x.D:=by unfold As.D;exact AJ
theorem Pw (b:Bool)(l:List AE)(hl:l.length<=9223372036854775807):AK C0 30 [Aj b l] (i64 (Db l)):=by
 refine Af.walk w1 WZ rfl λF=>?_
 have el:(((l.map AE.D).length:Nat):Int)=(l.length:Int):=by rw[Ai]
 refine AI AZ el AB AB AB AB AB AB ?_;refine AC.loop (α:=Nat×Nat) (λp=>⟨[(3,i64 (Db (l.take p.1))),(6,Aj b l),(7,i64 (l.length:Int)),(8,i64 (p.1:Int))],[],p.2⟩) (λp=>l.length-p.1) (λp=>p.1<=l.length) (0,_) (BX _) AL ?_;rintro⟨i,m⟩ F hi;dsimp only at hi⊢;rcases BG i l.length with h2|h2
 rotate_left
 ·have e1:=Cf h2
  have:i=l.length:=by omega
  subst this;rw[DJ];refine AI AZ e1 AB AB AB AB AB AB ?_;exact AM rfl AA.out
 have e1:=Cd h2;have wi:=Cj (i:=i) (by omega);obtain⟨x,hx⟩:=CQ h2;have hm:(l.map AE.D)[i]?=some (.agg [str (sb x.grain),i64 x.mass,.sl false 2 (x.shs.map Au.D)]):=by rw[BC,hx];rfl
 have wS:=(Uh hx).symm;refine AI AZ (Bd e1 wi @wS kN) hm AB AB AB AB AB ?_;exact⟨(i+1,_),h2,by dsimp only;omega,AL⟩
def EH (n lo hi:Int):Bool:=decide (n>=lo)&&decide (n<=hi)
theorem PP (n lo hi:Int):AK C0 67 [i64 n,i64 lo,i64 hi] (Ap (EH n lo hi)):=by
 refine Af.walk w1 ij rfl λF=>?_
 obtain⟨p,hp⟩:∃p,decide (n>=lo)=p:=⟨_,rfl⟩
 have hb:EH n lo hi=(p&&decide (n<=hi)):=by unfold EH;rw[hp]
 rw[hb];cases p
 ·refine AI AZ (Ar hp kT kF) AB AB AB AB AB AB ?_
  exact AM rfl AA.out
 ·refine AI AZ (Ar hp kT kF) AB AB AB AB AB AB ?_
  exact AM rfl AA.out
def EG (side:Int)(l:List Int):Bool:=(List.range (l.length-1)).any λi=>!EH (IntKind.i64.wrap (l.getD (i+1) 0-l.getD i 0)) (IntKind.i64.wrap (0-side)) side
theorem WH {side:Int}{l:List Int}{i:Nat}(h:i+1<l.length)(hb:EH (IntKind.i64.wrap (l.getD (i+1) 0-l.getD i 0)) (IntKind.i64.wrap (0-side)) side=false):EG side l=true:=by
 unfold EG;rw[List.any_eq_true];exact⟨i,List.mem_range.2 (by omega),by rw[hb];rfl⟩
theorem WI {side:Int}{l:List Int}(h:∀i,i+1<l.length->EH (IntKind.i64.wrap (l.getD (i+1) 0-l.getD i 0)) (IntKind.i64.wrap (0-side)) side=true):EG side l=false:=by
 unfold EG;rw[List.any_eq_false];intro i hi
 have:=List.mem_range.1 hi
 rw[h i (by omega)];decide
theorem di (x:As)(b:Bool)(l:List Int)(hl:l.length<=1000000):AK C0 38 [x.D,.sl b 1 (Ca l)] (i64 (if EG x.side l then 17 else 0)):=by
 refine Af.walk w1 iQ rfl λF=>?_
 have el:((Ca l).length:Int)=(l.length:Int):=by rw[Ai]
 have elN:(Ca l).length=l.length:=Ai ..;unfold As.D;obtain⟨cd,hcd⟩:∃d,FQ false x.cells=d:=⟨_,rfl⟩
 have pcd:AA cd:=by rw[<-hcd];exact AJ
 have ncd:KO cd=true:=by rw[<-hcd];rfl
 rw[hcd];refine AI Rl el AB AB AB AB AB AB ?_;refine AC.loop (α:=Nat×Nat) (λp=>⟨[(1,.sl b 1 (Ca l)),(2,.optr 0 0 5 0 0),(5,i64 ((p.1+1:Nat):Int))],[⟨0,0,24,5,[.agg [str (sb x.flow),i64 x.core,i64 x.room,i64 x.side,cd]]⟩],p.2⟩) (λp=>l.length-p.1) (λp=>p.1<=l.length/\∀j,j<p.1->EH (IntKind.i64.wrap (l.getD (j+1) 0-l.getD j 0)) (IntKind.i64.wrap (0-x.side)) x.side=true) (0,_) ⟨BX _,λj h=>Ak h (Hg j)⟩ AL ?_;rintro⟨i,m⟩ F ⟨hi,ha⟩;dsimp only at hi ha⊢;rcases BG (i+1) l.length with h2|h2
 rotate_left
 ·have e1:=Cf h2
  rw[WI λj hj=>ha j (by omega)];refine AI Rl (Ad el e1) AB AB AB AB AB AB ?_;exact AM rfl AA.out
 have e1:=Cd h2;have wi:=Cj (i:=i+1) (by omega);have w2:IntKind.i64.wrap (((i+1:Nat):Int)-1)=((i:Nat):Int):=by rw[wI];omega
 have hm1:=Pz (l:=l) (i:=i+1) h2;have hm2:=Pz (l:=l) (i:=i) (by omega);have cW:=PP (IntKind.i64.wrap (l.getD (i+1) 0-l.getD i 0)) (IntKind.i64.wrap (0-x.side)) x.side;have hbad:=WH (side:=x.side) h2;obtain⟨u,hu⟩:∃u,l.getD (i+1) 0=u:=⟨_,rfl⟩
 obtain⟨v,hv⟩:∃u,l.getD i 0=u:=⟨_,rfl⟩
 have hgood:=λ(hq:EH (IntKind.i64.wrap (u-v)) (IntKind.i64.wrap (0-x.side)) x.side=true) (j:Nat) (hj:j<i+1)=>show EH (IntKind.i64.wrap (l.getD (j+1) 0-l.getD j 0)) (IntKind.i64.wrap (0-x.side)) x.side=true from by
  rcases BG j i with h|h
  ·exact ha j h
  ·have:j=i:=by omega
   subst this;rw[hu,hv];exact hq
 rw[hu]at hm1 cW hbad;rw[hv]at hm2 cW hbad;obtain⟨q,hq⟩:∃q,EH (IntKind.i64.wrap (u-v)) (IntKind.i64.wrap (0-x.side)) x.side=q:=⟨_,rfl⟩
 rw[hq]at cW hbad hgood;obtain⟨L,hL⟩:∃L,Ca l=L:=⟨_,rfl⟩
 have pL:AA (.sl b 1 L):=by rw[<-hL];exact AJ
 rw[hL]at hm1 hm2 el⊢;cases q
 ·rw[hbad rfl]
  refine AI Rl (CT el e1 w2 wi kN) hm1 hm2 cW AB AB AB ?_;exact AM rfl AA.out
 ·refine AI Rl (CT el e1 w2 wi kN) hm1 hm2 cW AB AB AB ?_
  exact⟨(i+1,_),⟨by omega,hgood rfl⟩,by dsimp only;omega,AL⟩
def CN (x:As):List Int:=x.cells.map Db
theorem av (x:As)(hl:x.cells.length<=1000000)(hc:∀c∈x.cells,c.length<=9223372036854775807):AK C0 39 [x.D] (.sl false 1 (Ca (CN x))):=by
 refine Af.walk w1 Wb rfl λF=>?_
 obtain⟨cs,hcs⟩:∃c,x.cells=c:=⟨_,rfl⟩
 have hlv:CN x=cs.map Db:=by unfold CN;rw[hcs]
 rw[hlv];rw[hcs]at hl hc;have el:(((cs.map (Aj false)).length:Nat):Int)=(cs.length:Int):=by rw[Ai]
 unfold As.D;rw[hcs];refine sR 0 ?_;refine sR 100 ?_;refine AC.seq ?_;refine sZ 200 ?_;refine AV el ?_;refine AC.ghost 504 3 1 [(3,.osl 504 _ 1 0 0),(7,FQ false cs),(8,i64 (cs.length:Int)),(9,i64 ((0:Nat):Int))] ⟨.inr ⟨rfl,rfl⟩,.inl rfl,.inl rfl,.inl rfl,trivial⟩ ?_;refine AC.block ?_;refine AC.loop (α:=Nat×Nat×Nat) (λp=>⟨[(3,.osl 504 p.2.1 1 0 p.1),(7,FQ false cs),(8,i64 (cs.length:Int)),(9,i64 (p.1:Int))],[⟨504,p.2.1,3,1,Ca ((cs.take p.1).map Db)⟩],p.2.2⟩) (λp=>cs.length-p.1) (λq=>q.1<=cs.length) (0,_,_) (BX _) AL ?_;rintro⟨i,g,n⟩ F hi;dsimp only at hi⊢;rcases BG i cs.length with h2|h2
 rotate_left
 ·have e1:=Cf h2
  have:i=cs.length:=by omega
  subst this;rw[DJ];have hf:=HQ (H:=[⟨504,g,3,1,Ca (cs.map Db)⟩]) (Hf:=[]) (k:=504) (g:=g) (T:=3) (sz:=1) (l:=Ca (cs.map Db)) rfl;rw[Ai,Ai]at hf;refine AI AZ e1 AB AB AB AB AB AB ?_;exact⟨_,hf,AA.out,rfl⟩
 have e1:=Cd h2;have wi:=Cj (i:=i) (by omega);obtain⟨c,hc'⟩:=CQ h2;have hm:(cs.map (Aj false))[i]?=some (.sl false 3 (c.map AE.D)):=by rw[BC,hc'];rfl
 have cT:=Pw false c (hc c (Av hc'));have ht:Ca ((cs.take (i+1)).map Db)=Ca ((cs.take i).map Db)++[i64 (Db c)]:=by
  rw[D8,hc',DN];unfold Ca;rw[DN];rfl
 have htl:(Ca ((cs.take i).map Db)).length=i:=by rw[Ai,Ai,Bc];omega
 obtain⟨R,hR⟩:∃R,Ca ((cs.take i).map Db)=R:=⟨_,rfl⟩
 rw[hR]at ht htl⊢;refine AI AZ (Ar e1 wi kN) hm cT AB AB AB AB ?_;refine⟨(i+1,n+1+1+1+1+1+1+1+1,n+1000),h2,by dsimp only;omega,?_⟩;dsimp only;rw[ht,Co (show R.length<=i by omega)];exact AL
open Go.ChangeShapes Go.WideShapes
def As.fit (x:As):Prop:=x.cells.length<=maxLen/\∀c∈x.cells,c.length<=maxLen/\∀y∈c,y.shs.length<=maxLen
section
variable {H:Type} {enc:TypeId×Value->H} {W:World} {fuel:Nat} {cs:List Value} {x:DataW H×List MemPlace} {t:TypeId}
theorem qL (h:DataW.trod enc Tryz.prog W 0 (λ_=>true) true fuel 22 cs=some x):∃l:List (List AE),ED W cs [FQ false l]/\(∀c∈l,c.length<=maxLen/\∀y∈c,y.shs.length<=maxLen)/\l.length<=maxLen:=
 Wl (g:=Aj false) (ok:=λc=>c.length<=maxLen/\∀y∈c,y.shs.length<=maxLen) (e:=31) (sz:=1) (by kernel_rfl) (by kernel_rfl) (by decide) (λ_ _ _ h=>by
  obtain⟨l,h1,h2,h3⟩:=oA h;exact⟨l,h1,h3,h2⟩) h
theorem yp (h:DataW.trod enc Tryz.prog W 0 (λ_=>true) true fuel 24 cs=some x):∃s:As,ED W cs s.D.cells/\s.fit:=by
 obtain⟨h1,n,h2⟩:=So (l:=[(9,0,1),(3,1,1),(3,2,1),(3,3,1),(22,4,1)]) (m:=5) (by kernel_rfl) (by kernel_rfl) h;obtain⟨y0,k0⟩:=h2 0 _ _ _ rfl;obtain⟨y1,k1⟩:=h2 1 _ _ _ rfl;obtain⟨y2,k2⟩:=h2 2 _ _ _ rfl;obtain⟨y3,k3⟩:=h2 3 _ _ _ rfl;obtain⟨y4,k4⟩:=h2 4 _ _ _ rfl;obtain⟨a0,r0,_⟩:=UK k0;obtain⟨a1,r1⟩:=Mi k1;obtain⟨a2,r2⟩:=Mi k2;obtain⟨a3,r3⟩:=Mi k3;obtain⟨a4,r4,hc,hl⟩:=qL k4;exact⟨⟨a0,a1,a2,a3,a4⟩,Sf h1 (KP (b:=1) (c:=4) r0 (KP (b:=1) (c:=3) r1 (KP (b:=1) (c:=2) r2 (KP (b:=1) (c:=1) r3 r4)))),hl,hc⟩
end
structure W1 where
 f:Int
 t:Int
 m:Int
def W1.D (x:W1):D:=.agg [i64 x.f,i64 x.t,i64 x.m]
section
variable {H:Type} {enc:TypeId×Value->H} {W:World} {fuel:Nat} {cs:List Value} {x:DataW H×List MemPlace} {t:TypeId}
theorem oC (h:DataW.trod enc Tryz.prog W 0 (λ_=>true) true fuel 26 cs=some x):∃s:W1,ED W cs s.D.cells/\True:=by
 obtain⟨h1,n,h2⟩:=So (l:=[(3,0,1),(3,1,1),(3,2,1)]) (m:=3) (by kernel_rfl) (by kernel_rfl) h;obtain⟨y0,k0⟩:=h2 0 _ _ _ rfl;obtain⟨y1,k1⟩:=h2 1 _ _ _ rfl;obtain⟨y2,k2⟩:=h2 2 _ _ _ rfl;obtain⟨a0,r0⟩:=Mi k0;obtain⟨a1,r1⟩:=Mi k1;obtain⟨a2,r2⟩:=Mi k2;exact⟨⟨a0,a1,a2⟩,Sf h1 (KP (b:=1) (c:=2) r0 (KP (b:=1) (c:=1) r1 r2)),trivial⟩
end
abbrev Md:Dr:=[(2,[0,1,2,3,4,5,6,7,8,9,10,11,12,13,14,15,16,17,18,19,20,21,22,23,24,25,26,27,28,29,30,31,32],[33,34,35,36]),(8,[0,1,2,3,4,5,6,7],[8,9,10,11,12]),(12,[0,1,2],[3,4])]
open Go.Proofs Go.RowKit Go.Sort
set_option maxRecDepth 20000
set_option maxHeartbeats 4000000
def E3:ByteArray:=⟨#[109,97,115,115]⟩
def IP:ByteArray:=⟨#[102,117,110,110,101,108]⟩
def Sj (x:As):Bool:=(BE (sb x.flow) E3&&(x.core==0))||(BE (sb x.flow) IP&&EH x.core 2 999999999)
def M3 (x:As):Int:=if !BE (sb x.flow) E3 && !BE (sb x.flow) IP then 20 else 0
def Ll (x:As):Int:=if !Sj x || !EH x.room 1 999999999 || !EH x.side 0 999999999 then 3 else 0
def Gq (x:As):Int:=Eo [M3 x,Ll x,if(x.cells.length:Int)==0 then 2 else 0,if decide ((x.cells.length:Int)>8)then 5 else 0]
def DY (x:As)(c:List AE):Int:=Eo [(Bk c:Int),((if CX c then 0 else 16:Nat):Int),if decide (Db c>x.room)then 14 else 0]
def Ez (x:As):List (List AE)->Int
 | []=>0
 |c::r=>if DY x c≠0 then DY x c else Ez x r
def Cw (x:As):Int:=if Gq x≠0 then Gq x else if Ez x x.cells≠0 then Ez x x.cells else if EG x.side (CN x)then 17 else 0
theorem u9 (x:As)(hl:x.cells.length<=1000000)(hc:∀c∈x.cells,c.length<=1000000/\∀y∈c,y.few):AK C0 62 [x.D] (i64 (Cw x)):=by
 refine Af.walk w1 i7 rfl λF=>?_
 have cLv:=av x hl λc h=>by have:=(hc c h).1;omega
 have cSt:=di x false (CN x) (by unfold CN;rw[Ai];exact hl);have cC1:=PP x.core 2 999999999;have cC2:=PP x.room 1 999999999;have cC3:=PP x.side 0 999999999;have cF:=LT [M3 x,Ll x,if(x.cells.length:Int)==0 then 2 else 0,if decide ((x.cells.length:Int)>8)then 5 else 0] (by simp);have hF:Eo [M3 x,Ll x,if(x.cells.length:Int)==0 then 2 else 0,if decide ((x.cells.length:Int)>8)then 5 else 0]=Gq x:=rfl;rw[hF]at cF;have cW3:=Hz ((x.cells.length:Int)==0) 2;have cW4:=Hz (decide ((x.cells.length:Int)>8)) 5;obtain⟨cs,hcs⟩:∃c,x.cells=c:=⟨_,rfl⟩
 have el:(((cs.map (Aj false)).length:Nat):Int)=(cs.length:Int):=by rw[Ai]
 obtain⟨H,hH⟩:∃h,Gq x=h:=⟨_,rfl⟩
 have hB:Cw x=if H≠0 then H else if Ez x x.cells≠0 then Ez x x.cells else if EG x.side (CN x)then 17 else 0:=by unfold Cw;rw[hH]
 obtain⟨K1,hK1⟩:∃h,M3 x=h:=⟨_,rfl⟩
 obtain⟨K2,hK2⟩:∃h,Ll x=h:=⟨_,rfl⟩
 obtain⟨CB,hCB⟩:∃h,Sj x=h:=⟨_,rfl⟩
 rw[hK1,hK2,hH]at cF;rw[hB];rw[hcs]at cF cW3 cW4 hl hc⊢;unfold As.D at cLv cSt⊢;rw[hcs]at cLv cSt⊢;refine sR 0 ?_;refine EK ⟨[(1,.optr 0 0 5 0 0),(3,Ap CB)],[⟨0,0,24,5,[.agg [str (sb x.flow),i64 x.core,i64 x.room,i64 x.side,FQ false cs]]⟩],100⟩ ?_ ?_
 ·obtain⟨p1,h1⟩:∃q,BE (sb x.flow) ⟨#[109,97,115,115]⟩=q:=⟨_,rfl⟩
  obtain⟨p2,h2⟩:∃q,BE (sb x.flow) ⟨#[102,117,110,110,101,108]⟩=q:=⟨_,rfl⟩
  obtain⟨c0,h0⟩:∃q,(x.core==0)=q:=⟨_,rfl⟩
  have hb:CB=((p1&&c0)||(p2&&EH x.core 2 999999999)):=by rw[<-hCB,<-h1,<-h2,<-h0];rfl
  rw[hb];cases p1<;>cases p2<;>cases c0
  all_goals
   refine AI Md (CT h1 h2 h0 kT kF) cC1 AB AB AB AB AB ?_;exact⟨trivial,AL⟩
 refine EK ⟨[(1,.optr 0 0 5 0 0),(4,i64 H)],[⟨0,0,24,5,[.agg [str (sb x.flow),i64 x.core,i64 x.room,i64 x.side,FQ false cs]]⟩],1000⟩ ?_ ?_
 ·obtain⟨p1,h1⟩:∃q,BE (sb x.flow) ⟨#[109,97,115,115]⟩=q:=⟨_,rfl⟩
  obtain⟨p2,h2⟩:∃q,BE (sb x.flow) ⟨#[102,117,110,110,101,108]⟩=q:=⟨_,rfl⟩
  obtain⟨wr,hr⟩:∃q,EH x.room 1 999999999=q:=⟨_,rfl⟩
  obtain⟨ws,hw⟩:∃q,EH x.side 0 999999999=q:=⟨_,rfl⟩
  have e1:M3 x=if !p1 && !p2 then 20 else 0:=by rw[<-h1,<-h2];rfl
  have e2:Ll x=if !CB || !wr || !ws then 3 else 0:=by rw[<-hCB,<-hr,<-hw];rfl
  have cA:=Hz (!p1 && !p2) 20;have cB:=Hz (!CB || !wr || !ws) 3;rw[<-e1,hK1]at cA;rw[<-e2,hK2]at cB;rw[hr]at cC2;rw[hw]at cC3;clear e1 e2 hcs hK1 hK2 hCB hF cC1 cLv cSt hr hw;cases p1<;>cases p2<;>cases CB<;>cases wr
  all_goals
   refine AI Md (CT h1 h2 el kT kF) cA cC2 cC3 cB cW3 cW4 ?_;refine BF.same _ cF AJ ?_;refine BS ?_;exact⟨trivial,AL⟩
 by_cases hH0:H=0
 rotate_left
 ·have e1:(H != 0)=true:=Jd hH0
  rw[AH hH0];refine AI Md e1 AB AB AB AB AB AB ?_;exact AM rfl AA.out
 have e1:(H != 0)=false:=by rw[hH0];rfl
 rw[AG (λh=>h hH0)];clear cC1 cC2 cC3 cF cW3 cW4 hK1 hK2 hCB hF hB;refine AI Md (Ad e1 el) AB AB AB AB AB AB ?_;refine AC.loop (α:=Nat×Nat) (λp=>⟨[(1,.optr 0 0 5 0 0),(66,FQ false cs),(67,i64 (cs.length:Int)),(68,i64 (p.1:Int))],[⟨0,0,24,5,[.agg [str (sb x.flow),i64 x.core,i64 x.room,i64 x.side,FQ false cs]]⟩],p.2⟩) (λp=>cs.length-p.1) (λq=>q.1<=cs.length/\Ez x (cs.drop q.1)=Ez x cs) (0,_) ⟨BX _,rfl⟩ AL ?_;rintro⟨i,n⟩ F ⟨hi,hJ⟩;dsimp only at hi hJ⊢;rcases BG i cs.length with h2|h2
 rotate_left
 ·have k1:=Cf h2
  have:i=cs.length:=by omega
  subst this;rw[Jx]at hJ;rw[AG (λh=>h (by rw[<-hJ];rfl))];have pLv:AA (.sl false 1 (Ca (CN x))):=AJ;refine AI Md k1 cLv cSt AB AB AB AB ?_;exact AM rfl AA.out
 have k1:=Cd h2;have wi:=Cj (i:=i) (by omega);obtain⟨c,hc'⟩:=CQ h2;have hm:(cs.map (Aj false))[i]?=some (.sl false 3 (c.map AE.D)):=by rw[BC,hc'];rfl
 obtain⟨hc1,hc2⟩:=hc c (Av hc');have cP:=Lj false c (by omega) hc2;have cG:=ZB false c hc1;have cT:=Pw false c (by omega);have cW:=Hz (decide (Db c>x.room)) 14;have cE:=LT [(Bk c:Int),((if CX c then 0 else 16:Nat):Int),if decide (Db c>x.room)then 14 else 0] (by simp);have hE:Eo [(Bk c:Int),((if CX c then 0 else 16:Nat):Int),if decide (Db c>x.room)then 14 else 0]=DY x c:=rfl;rw[hE]at cE;have hd:cs.drop i=c::cs.drop (i+1):=by
  have:=BT.1 hc'
  rw[E5 this.1,this.2]
 rw[hd]at hJ;have hJ2:Ez x cs=if DY x c≠0 then DY x c else Ez x (cs.drop (i+1)):=hJ.symm
 obtain⟨E,hEE⟩:∃E,DY x c=E:=⟨_,rfl⟩
 rw[hEE]at cE hJ2
 by_cases hE0:E=0
 ·have k2:(E != 0)=false:=by rw[hE0];rfl
  rw[AG (λh=>h hE0)]at hJ2;refine AI Md (Bd k1 k2 wi kN) hm cP cG cT cW cE ?_;exact⟨(i+1,_),⟨h2,hJ2.symm⟩,by dsimp only;omega,AL⟩
 ·have k2:(E != 0)=true:=Jd hE0
  rw[AH hE0]at hJ2;rw[hJ2,AH hE0];refine AI Md (Bd k1 k2 wi kN) hm cP cG cT cW cE ?_;exact AM rfl AA.out
abbrev Rm:Dr:=[(4,[0,1,2,3,4,5,6,7,8,9],[10])]
open Go.Proofs Go.RowKit Go.Sort
set_option maxRecDepth 20000
set_option maxHeartbeats 4000000
theorem WO (x:As)(i:Nat)(c:List AE)(hc:x.cells[i]?=some c)(hs:JA c)(hl:x.cells.length<=1000000):AK C0 5 [x.D,i64 (i:Int)] (i64 (Ab c)):=by
 refine Af.walk w1 e0t rfl λF=>?_
 have cM:=Wm false c hs;have hi:=(BT.1 hc).1;obtain⟨cs,hcs⟩:∃c,x.cells=c:=⟨_,rfl⟩
 unfold As.D;rw[hcs]at hc hl hi⊢;have hm:(cs.map (Aj false))[i]?=some (.sl false 3 (c.map AE.D)):=by rw[BC,hc];rfl
 have hml:(cs.map (Aj false)).length=cs.length:=Ai ..;obtain⟨K,hK⟩:∃K,cs.map (Aj false)=K:=⟨_,rfl⟩
 have pK:AA (.sl false 1 K):=by rw[<-hK];exact AJ
 show AC _ _ _ _ _ ⟨Dp 0 [.agg [str (sb x.flow),i64 x.core,i64 x.room,i64 x.side,.sl false 1 (cs.map (Aj false))],i64 (i:Int)],[],0⟩ _;rw[hK]at hm hml⊢;refine AI AZ kN hm cM AB AB AB AB ?_;exact AM rfl AA.out
theorem yo (u v:Int):AK C0 130 [i64 u,i64 v] (i64 (max (IntKind.i64.wrap (u-v)) (IntKind.i64.wrap (v-u)))):=by
 refine Af.walk w1 vZ rfl λF=>?_
 refine AI AZ kB AB AB AB AB AB AB ?_;exact AM rfl AA.out
theorem d9n (x:As)(hl:x.cells.length<=1000000)(hc:∀c∈x.cells,JA c/\0<=Ab c/\Ab c<=999999999)(hside:0<=x.side/\x.side<=999999999):AK C0 89 [x.D] (Ap (!EG x.side (CN x))):=by
 refine Af.walk w1 zc rfl λF=>?_
 have hlvl:=λ(i:Nat) (c:List AE) (h:x.cells[i]?=some c)=>WO x i c h (hc c (Av h)).1 hl
 have hlv:∀(i:Nat) (c:List AE),x.cells[i]?=some c->(CN x).getD i 0=Ab c:=λi c h=>by
  unfold CN;rw[EM,BC,h];exact Ix (hc c (Av h)).1
 have hlen:(CN x).length=x.cells.length:=by unfold CN;rw[Ai]
 obtain⟨cs,hcs⟩:∃c,x.cells=c:=⟨_,rfl⟩
 have el:(((cs.map (Aj false)).length:Nat):Int)=(cs.length:Int):=by rw[Ai]
 unfold As.D at hlvl⊢;rw[hcs]at hlvl hlv hlen hl hc⊢;refine AI Rm kB AB AB AB AB AB AB ?_;refine AC.loop (α:=Nat×Nat) (λp=>⟨[(1,.optr 0 0 5 0 0),(3,i64 ((p.1+1:Nat):Int))],[⟨0,0,24,5,[.agg [str (sb x.flow),i64 x.core,i64 x.room,i64 x.side,FQ false cs]]⟩],p.2⟩) (λp=>cs.length-p.1) (λp=>p.1<=cs.length/\∀j,j<p.1->EH (IntKind.i64.wrap ((CN x).getD (j+1) 0-(CN x).getD j 0)) (IntKind.i64.wrap (0-x.side)) x.side=true) (0,_) ⟨BX _,λj h=>Ak h (Hg j)⟩ AL ?_;rintro⟨i,m⟩ F ⟨hi,ha⟩;dsimp only at hi ha⊢;rcases BG (i+1) cs.length with h2|h2
 rotate_left
 ·have e1:=Cf h2
  rw[WI (side:=x.side) (l:=CN x) λj hj=>ha j (by omega)];refine AI Rm (Ad el e1) AB AB AB AB AB AB ?_;exact AM rfl AA.out
 have e1:=Cd h2;have wi:=Cj (i:=i+1) (by omega);have w2:IntKind.i64.wrap (((i+1:Nat):Int)-1)=((i:Nat):Int):=by rw[wI];omega
 obtain⟨c,hc1⟩:=CQ (show i<cs.length by omega);obtain⟨d,hd1⟩:=CQ h2;have c1:=hlvl i c hc1;have c2:=hlvl (i+1) d hd1;have v1:=hlv i c hc1;have v2:=hlv (i+1) d hd1;obtain⟨-,a1,a2⟩:=hc c (Av hc1);obtain⟨-,b1,b2⟩:=hc d (Av hd1);have c3:=yo (Ab c) (Ab d);have hbad:=WH (side:=x.side) (l:=CN x) (i:=i) (by omega);rw[v1,v2]at hbad;have q1:IntKind.i64.wrap (Ab c-Ab d)=Ab c-Ab d:=wI;have q2:IntKind.i64.wrap (Ab d-Ab c)=Ab d-Ab c:=wI;have q3:IntKind.i64.wrap (0-x.side)=0-x.side:=wI;rw[q1,q2]at c3
 by_cases hg:max (Ab c-Ab d) (Ab d-Ab c)>x.side
 ·have e2:decide (max (Ab c-Ab d) (Ab d-Ab c)>x.side)=true:=Ax hg
  rw[hbad (by rw[q2,q3];unfold EH;rw[Bool.and_eq_false_iff,Hc,Hc];omega)];refine AI Rm (ER el e1 e2 w2 wi kN) c1 c2 c3 AB AB AB ?_;exact AM rfl AA.out
 ·have e2:decide (max (Ab c-Ab d) (Ab d-Ab c)>x.side)=false:=Ay hg
  refine AI Rm (ER el e1 e2 w2 wi kN) c1 c2 c3 AB AB AB ?_;refine⟨(i+1,_),⟨by omega,λj hj=>?_⟩,by dsimp only;omega,AL⟩;rcases BG j i with h|h
  ·exact ha j h
  ·have:j=i:=by dsimp only at hj;omega
   subst this;rw[v1,v2,q2,q3];unfold EH;rw[BY,decide_eq_true_iff,decide_eq_true_iff];omega
theorem aA {l:List UInt8}(h:BE (sb l) E3=true):BE (sb l) IP=false:=by
 have h1:BE (sb l) (sb [109,97,115,115])=true:=h;rw[KF]at h1;rw[DP h1];show BE (sb [109,97,115,115]) (sb [102,117,110,110,101,108])=false;rw[KF];decide
def Lt (x:As):Bool:=(BE (sb x.flow) E3&&(x.core != 0))||(BE (sb x.flow) IP&&(decide (x.core<2)||decide (x.core>999999999)))||decide (x.room<1)||decide (x.room>999999999)||decide (x.side<0)||decide (x.side>999999999)
theorem yz {x:As}(h:(!BE (sb x.flow) E3 && !BE (sb x.flow) IP)=false):Ll x=if Lt x then 3 else 0:=by
 have hx:=@aA x.flow;unfold Ll Lt Sj EH;obtain⟨p1,h1⟩:∃q,BE (sb x.flow) E3=q:=⟨_,rfl⟩
 obtain⟨p2,h2⟩:∃q,BE (sb x.flow) IP=q:=⟨_,rfl⟩
 rw[h1,h2]at h hx⊢;have e:(!(p1&&x.core==0||p2&&(decide (x.core>=2)&&decide (x.core<=999999999))) || !(decide (x.room>=1)&&decide (x.room<=999999999)) || !(decide (x.side>=0)&&decide (x.side<=999999999)))
   = (p1&&x.core != 0||p2&&(decide (x.core<2)||decide (x.core>999999999))||decide (x.room<1)||decide (x.room>999999999)||decide (x.side<0)||decide (x.side>999999999)):=by
  cases p1<;>cases p2
  ·cases h
  ·rw[Ft];simp;omega
  ·rw[Ft];simp;omega
  ·cases hx rfl
 rw[e]
theorem SG (x:As):Gq x=if(!BE (sb x.flow) E3 && !BE (sb x.flow) IP)=true then 20 else if Lt x=true then 3 else if x.cells.length=0 then 2 else if 8<x.cells.length then 5 else 0:=by
 unfold Gq M3;cases h:(!BE (sb x.flow) E3 && !BE (sb x.flow) IP)
 ·rw[yz h,AG Bool.false_ne_true,AG Bool.false_ne_true]
  cases Lt x
  ·rw[AG Bool.false_ne_true,AG Bool.false_ne_true]
   by_cases h0:x.cells.length=0
   ·rw[AH h0,h0];rfl
   ·have:((x.cells.length:Int)==0)=false:=B5.2 (by omega)
    rw[AG h0,this]
    by_cases h8:8<x.cells.length
    ·rw[AH h8,show decide ((x.cells.length:Int)>8)=true from Ba];rfl
    ·rw[AG h8,show decide ((x.cells.length:Int)>8)=false from Bg];rfl
  ·rfl
 ·rfl
theorem T7 {x:As}:∀ {l:List (List AE)},Ez x l=0->∀c∈l,DY x c=0
 | [],_,c,h=>by cases h
 |d::r,h,c,hc=>by
  have h1:(if DY x d≠0 then DY x d else Ez x r)=0:=h
  by_cases h0:DY x d=0
  ·rw[AG (λq=>q h0)]at h1
   rcases A8.1 hc with rfl|h2
   ·exact h0
   ·exact T7 h1 c h2
  ·rw[AH h0]at h1;exact Ak h1 h0
theorem KI:∀ {l:List AE},(∀x∈l,0<=x.mass)->0<=Ab l
 | [],_=>Int.le_refl _
 |x::l,h=>by
  have h1:=h x (B3 ..);have h2:=KI λy hy=>h y (CA _ hy)
  have:Ab (x::l)=x.mass+Ab l:=by unfold Ab;rfl
  omega
theorem Gz {x:As}{c:List AE}(h:DY x c=0):Bk c=0/\CX c=true/\JA c/\0<=Ab c/\Ab c<=999999999/\Ab c<=x.room:=by
 have h1:(if(Bk c:Int)≠0 then(Bk c:Int)else if((if CX c then 0 else 16:Nat):Int)≠0 then((if CX c then 0 else 16:Nat):Int)else if(if decide (Db c>x.room)then(14:Int)else 0)≠0 then(if decide (Db c>x.room)then(14:Int)else 0)else 0)=0:=h
 by_cases hp:Bk c=0
 rotate_left
 ·rw[DU]at h1;omega
 rw[hp,AG (λq=>q rfl)]at h1;obtain⟨g1,g2,g3⟩:=Dz hp;have g4:=(IX hp).2.2;have hT:=Ix g3;have g5:0<=Ab c:=KI λy hy=>by have:=(g2 y hy).1;omega
 cases hg:CX c
 ·rw[hg]at h1;cases h1
 rw[hg,AG (by decide)]at h1;refine⟨hp,rfl,g3,g5,g4,?_⟩;rw[hT]at h1
 by_cases hr:Ab c>x.room
 ·rw[Ax hr]at h1;cases h1
 ·omega
theorem sF {x:As}{c:List AE}(h:Bk c≠0):DY x c=(Bk c:Int):=by
 show(if(Bk c:Int)≠0 then _ else _)=_;rw[DU]
theorem uF {x:As}{c:List AE}(h:Bk c=0)(hg:CX c=false):DY x c=16:=by
 show(if(Bk c:Int)≠0 then _ else if((if CX c then 0 else 16:Nat):Int)≠0 then((if CX c then 0 else 16:Nat):Int)else _)=_;rw[h,hg];rfl
theorem ol {x:As}{c:List AE}(h:Bk c=0)(hg:CX c=true)(hr:Ab c>x.room):DY x c=14:=by
 have hT:=Ix (Dz h).2.2;show(if(Bk c:Int)≠0 then _ else if((if CX c then 0 else 16:Nat):Int)≠0 then((if CX c then 0 else 16:Nat):Int)else if(if decide (Db c>x.room)then(14:Int)else 0)≠0 then(if decide (Db c>x.room)then(14:Int)else 0)else 0)=_;rw[h,hg,hT,Ax hr];rfl
theorem Za {x:As}{c:List AE}(h:Bk c=0)(hg:CX c=true)(hr:¬Ab c>x.room):DY x c=0:=by
 have hT:=Ix (Dz h).2.2;show(if(Bk c:Int)≠0 then _ else if((if CX c then 0 else 16:Nat):Int)≠0 then((if CX c then 0 else 16:Nat):Int)else if(if decide (Db c>x.room)then(14:Int)else 0)≠0 then(if decide (Db c>x.room)then(14:Int)else 0)else 0)=_;rw[h,hg,hT,Ay hr];rfl
abbrev Ef:Dr:=[(17,[0,1,2,3,4],[5])]
open Go.Proofs Go.RowKit Go.Sort
set_option maxRecDepth 20000
set_option maxHeartbeats 4000000
theorem s5 (x:As)(hl:x.cells.length<=1000000)(hc:∀c∈x.cells,c.length<=1000000/\∀y∈c,y.modr):AK C0 48 [x.D] (i64 (Cw x)):=by
 refine Af.walk w1 d8k rfl λF=>?_
 have hB:Cw x=if Gq x≠0 then Gq x else if Ez x x.cells≠0 then Ez x x.cells else if EG x.side (CN x)then 17 else 0:=rfl
 have hH:=SG x;have hlvl:=λ(i:Nat) (c:List AE) (h:x.cells[i]?=some c) (hs:JA c)=>WO x i c h hs hl
 have hsafe:=λ(h1:∀c∈x.cells,DY x c=0) (h2:0<=x.side/\x.side<=999999999)=>d9n x hl (λc hq=>by
  obtain⟨-,-,g1,g2,g3,-⟩:=Gz (h1 c hq);exact⟨g1,g2,g3⟩) h2
 obtain⟨p1,h1⟩:∃q,BE (sb x.flow) ⟨#[109,97,115,115]⟩=q:=⟨_,rfl⟩
 obtain⟨p2,h2⟩:∃q,BE (sb x.flow) ⟨#[102,117,110,110,101,108]⟩=q:=⟨_,rfl⟩
 have hex:p1=true->p2=false:=λq=>by rw[<-h2];exact aA (h1.trans q)
 have hr:Lt x=((p1&&(x.core != 0))||(p2&&(decide (x.core<2)||decide (x.core>999999999)))||decide (x.room<1)||decide (x.room>999999999)||decide (x.side<0)||decide (x.side>999999999)):=by rw[<-h1,<-h2];rfl
 rw[show BE (sb x.flow) E3=p1 from h1,show BE (sb x.flow) IP=p2 from h2]at hH;obtain⟨R,hR⟩:∃r,Lt x=r:=⟨_,rfl⟩
 rw[hR]at hH hr;have hside:R=false->0<=x.side/\x.side<=999999999:=λq=>by
  rw[q]at hr
  have:=hr.symm
  simp only[Hd,Hc]at this;omega
 obtain⟨cs,hcs⟩:∃c,x.cells=c:=⟨_,rfl⟩
 have el:(((cs.map (Aj false)).length:Nat):Int)=(cs.length:Int):=by rw[Ai]
 unfold As.D at hlvl hsafe⊢;rw[hcs]at hlvl hsafe hB hH hc hl⊢;refine sR 0 ?_;cases hk:(!p1 && !p2)
 rotate_left
 ·rw[AH hk]at hH
  rw[hH,AH (by decide)]at hB;rw[hB];have hp:p1=false/\p2=false:=by cases p1<;>cases p2<;>first|exact⟨rfl,rfl⟩|cases hk
  obtain⟨rfl,rfl⟩:=hp;refine AI Ef (Bd h1 h2 kT kF) AB AB AB AB AB AB ?_;exact AM rfl AA.out
 rw[AG (by rw[hk];exact Bool.false_ne_true)]at hH;have hp:(p1=true/\p2=false)\/(p1=false/\p2=true):=by
  cases p1
  ·cases p2
   ·cases hk
   ·exact .inr ⟨rfl,rfl⟩
  ·exact .inl ⟨rfl,hex rfl⟩
 clear hex hk;refine EK ⟨[(1,.optr 0 0 5 0 0)],[⟨0,0,24,5,[.agg [str (sb x.flow),i64 x.core,i64 x.room,i64 x.side,FQ false cs]]⟩],100⟩ ?_ ?_
 ·rcases hp with⟨rfl,rfl⟩|⟨rfl,rfl⟩
  all_goals
   refine AI Ef (Bd h1 h2 kT kF) AB AB AB AB AB AB ?_;exact⟨trivial,AL⟩
 obtain⟨c0,e0⟩:∃q,(x.core != 0)=q:=⟨_,rfl⟩
 obtain⟨c1,e1⟩:∃q,decide (x.core<2)=q:=⟨_,rfl⟩
 obtain⟨c2,e2⟩:∃q,decide (x.core>999999999)=q:=⟨_,rfl⟩
 obtain⟨u1,r1⟩:∃q,decide (x.room<1)=q:=⟨_,rfl⟩
 obtain⟨u2,r2⟩:∃q,decide (x.room>999999999)=q:=⟨_,rfl⟩
 obtain⟨v1,s1⟩:∃q,decide (x.side<0)=q:=⟨_,rfl⟩
 obtain⟨v2,s2⟩:∃q,decide (x.side>999999999)=q:=⟨_,rfl⟩
 rw[e0,e1,e2,r1,r2,s1,s2]at hr;cases R
 rotate_left
 ·rw[AH rfl]at hH
  rw[hH,AH (by decide)]at hB;rw[hB];clear hlvl hsafe hB hH el;rcases hp with⟨rfl,rfl⟩|⟨rfl,rfl⟩
  ·cases c0
   rotate_left
   ·refine AI Ef (CY e0 e1 e2 r1 r2 s1 (CT s2 h1 h2 kT kF)) AB AB AB AB AB AB ?_
    exact AM rfl AA.out
   cases u1
   rotate_left
   ·refine AI Ef (CY e0 e1 e2 r1 r2 s1 (CT s2 h1 h2 kT kF)) AB AB AB AB AB AB ?_
    exact AM rfl AA.out
   cases u2
   rotate_left
   ·refine AI Ef (CY e0 e1 e2 r1 r2 s1 (CT s2 h1 h2 kT kF)) AB AB AB AB AB AB ?_
    exact AM rfl AA.out
   cases v1
   rotate_left
   ·refine AI Ef (CY e0 e1 e2 r1 r2 s1 (CT s2 h1 h2 kT kF)) AB AB AB AB AB AB ?_
    exact AM rfl AA.out
   cases v2
   rotate_left
   ·refine AI Ef (CY e0 e1 e2 r1 r2 s1 (CT s2 h1 h2 kT kF)) AB AB AB AB AB AB ?_
    exact AM rfl AA.out
   cases hr
  ·cases c1
   rotate_left
   ·refine AI Ef (CY e0 e1 e2 r1 r2 s1 (CT s2 h1 h2 kT kF)) AB AB AB AB AB AB ?_
    exact AM rfl AA.out
   cases c2
   rotate_left
   ·refine AI Ef (CY e0 e1 e2 r1 r2 s1 (CT s2 h1 h2 kT kF)) AB AB AB AB AB AB ?_
    exact AM rfl AA.out
   cases u1
   rotate_left
   ·refine AI Ef (CY e0 e1 e2 r1 r2 s1 (CT s2 h1 h2 kT kF)) AB AB AB AB AB AB ?_
    exact AM rfl AA.out
   cases u2
   rotate_left
   ·refine AI Ef (CY e0 e1 e2 r1 r2 s1 (CT s2 h1 h2 kT kF)) AB AB AB AB AB AB ?_
    exact AM rfl AA.out
   cases v1
   rotate_left
   ·refine AI Ef (CY e0 e1 e2 r1 r2 s1 (CT s2 h1 h2 kT kF)) AB AB AB AB AB AB ?_
    exact AM rfl AA.out
   cases v2
   rotate_left
   ·refine AI Ef (CY e0 e1 e2 r1 r2 s1 (CT s2 h1 h2 kT kF)) AB AB AB AB AB AB ?_
    exact AM rfl AA.out
   cases hr
 rw[AG Bool.false_ne_true]at hH;have hsd:=hside rfl;refine EK ⟨[(1,.optr 0 0 5 0 0)],[⟨0,0,24,5,[.agg [str (sb x.flow),i64 x.core,i64 x.room,i64 x.side,FQ false cs]]⟩],1000⟩ ?_ ?_
 ·clear hlvl hsafe hB hH
  cases v2
  rotate_left
  ·simp at hr
  cases v1
  rotate_left
  ·simp at hr
  cases u2
  rotate_left
  ·simp at hr
  cases u1
  rotate_left
  ·simp at hr
  rcases hp with⟨rfl,rfl⟩|⟨rfl,rfl⟩
  ·cases c0
   rotate_left
   ·cases hr
   refine AI Ef (CY e0 e1 e2 r1 r2 s1 (CT s2 h1 h2 kT kF)) AB AB AB AB AB AB ?_;exact⟨trivial,AL⟩
  ·cases c1
   rotate_left
   ·cases hr
   cases c2
   rotate_left
   ·cases hr
   refine AI Ef (CY e0 e1 e2 r1 r2 s1 (CT s2 h1 h2 kT kF)) AB AB AB AB AB AB ?_;exact⟨trivial,AL⟩
 clear hr e0 e1 e2 r1 r2 s1 s2 hp h1 h2 hR
 by_cases h0:cs.length=0
 ·rw[AH h0]at hH
  rw[hH,AH (by decide)]at hB;rw[hB];have k0:((cs.length:Int)==0)=true:=by rw[h0];rfl
  refine AI Ef (Ad el k0) AB AB AB AB AB AB ?_;exact AM rfl AA.out
 rw[AG h0]at hH;have k0:((cs.length:Int)==0)=false:=B5.2 (by omega)
 by_cases h8:8<cs.length
 ·rw[AH h8]at hH
  rw[hH,AH (by decide)]at hB;rw[hB];have k8:decide ((cs.length:Int)>8)=true:=Ba;refine AI Ef (Ar el k0 k8) AB AB AB AB AB AB ?_;exact AM rfl AA.out
 rw[AG h8]at hH;rw[hH,AG (λh=>h rfl)]at hB;rw[hB];have k8:decide ((cs.length:Int)>8)=false:=Bg;clear hB hH hside;refine AI Ef (Ar el k0 k8) AB AB AB AB AB AB ?_;refine AC.loop (α:=Nat×Nat) (λp=>⟨[(1,.optr 0 0 5 0 0),(3,i64 (p.1:Int))],[⟨0,0,24,5,[.agg [str (sb x.flow),i64 x.core,i64 x.room,i64 x.side,FQ false cs]]⟩],p.2⟩) (λp=>cs.length-p.1) (λq=>q.1<=cs.length/\Ez x (cs.drop q.1)=Ez x cs) (0,_) ⟨BX _,rfl⟩ AL ?_;rintro⟨i,n⟩ F ⟨hi,hJ⟩;dsimp only at hi hJ⊢;rcases BG i cs.length with h2|h2
 rotate_left
 ·have k1:=Cf h2
  have:i=cs.length:=by omega
  subst this;rw[Jx]at hJ;have hz:Ez x cs=0:=hJ.symm;have cS:=hsafe (T7 hz) hsd;rw[AG (λh=>h hz)];cases hq:EG x.side (CN x)
  ·rw[hq]at cS
   rw[AG Bool.false_ne_true];refine AI Ef (Bd k1 el kT kF) cS AB AB AB AB AB ?_;exact AM rfl AA.out
  ·rw[hq]at cS
   rw[AH rfl];refine AI Ef (Bd k1 el kT kF) cS AB AB AB AB AB ?_;exact AM rfl AA.out
 have k1:=Cd h2;have wi:=Cj (i:=i) (by omega);obtain⟨c,hc'⟩:=CQ h2;have hm:(cs.map (Aj false))[i]?=some (.sl false 3 (c.map AE.D)):=by rw[BC,hc'];rfl
 obtain⟨hc1,hc2⟩:=hc c (Av hc');have cP:=jt false c hc1 hc2;have cG:=se false c hc1;have hd:cs.drop i=c::cs.drop (i+1):=by
  have:=BT.1 hc'
  rw[E5 this.1,this.2]
 rw[hd]at hJ;have hJ2:Ez x cs=if DY x c≠0 then DY x c else Ez x (cs.drop (i+1)):=hJ.symm
 by_cases hp:Bk c=0
 rotate_left
 ·rw[sF hp,DU]at hJ2
  have k2:(((Bk c:Nat):Int) != 0)=true:=Jd (by omega);rw[AH (by rw[hJ2];omega),hJ2];refine AI Ef (Bd k1 el k2 kN) hm cP AB AB AB AB ?_;exact AM rfl AA.out
 rw[hp]at cP;have k2:(((0:Nat):Int) != 0)=false:=rfl;have hsm:=(Dz hp).2.2;have cL:=hlvl i c hc' hsm;cases hg:CX c
 ·rw[hg]at cG
  rw[uF hp hg,AH (by decide)]at hJ2;rw[AH (by rw[hJ2];decide),hJ2];refine AI Ef (ER k1 el k2 kT kF kN) hm cP cG AB AB AB ?_;exact AM rfl AA.out
 rw[hg]at cG
 by_cases hrm:Ab c>x.room
 ·have k3:decide (Ab c>x.room)=true:=Ax hrm
  rw[ol hp hg hrm,AH (by decide)]at hJ2;rw[AH (by rw[hJ2];decide),hJ2];refine AI Ef (CY k1 el k2 k3 kT kF kN) hm cP cG cL AB AB ?_;exact AM rfl AA.out
 ·have k3:decide (Ab c>x.room)=false:=Ay hrm
  rw[Za hp hg hrm,AG (λh=>h rfl)]at hJ2;refine AI Ef (CY k1 el k2 k3 wi kT (Ad kF kN)) hm cP cG cL AB AB ?_;exact⟨(i+1,_),⟨h2,hJ2.symm⟩,by dsimp only;omega,AL⟩
def Jz (x:As)(i:Int):Bool:=EH i 0 ((x.cells.length:Int)-1)
theorem zL (x:As)(hl:x.cells.length<=1000000)(i:Int):AK C0 66 [i64 i,.pptr x.D] (Ap (!Jz x i)):=by
 refine Af.walk w1 ig rfl λF=>?_
 have cW:=PP i 0 ((x.cells.length:Int)-1);have hb:Jz x i=EH i 0 ((x.cells.length:Int)-1):=rfl;have w2:IntKind.i64.wrap ((x.cells.length:Int)-1)=(x.cells.length:Int)-1:=wI;obtain⟨cs,hcs⟩:∃c,x.cells=c:=⟨_,rfl⟩
 have el:(((cs.map (Aj false)).length:Nat):Int)=(cs.length:Int):=by rw[Ai]
 unfold As.D;rw[hb];rw[hcs]at cW w2⊢;refine AI AZ (Ad el w2) cW AB AB AB AB AB ?_;exact AM rfl AA.out
theorem zn (b:Bool)(l:List Int)(c:D)[pc:AA c](p:Int->Bool)(hl:l.length<=1000000)(hc:∀x∈l,AK C0 66 [i64 x,c] (Ap (p x))):AK C0 103 [.sl b 1 (Ca l),.clo (.func 66) [] [c]] (i64 (Kl p l)):=by
 refine Af.walk w1 dL rfl λF=>?_
 have el:(((Ca l).length:Nat):Int)=(l.length:Int):=by rw[Ai]
 refine AI AZ el AB AB AB AB AB AB ?_;refine AC.loop (α:=Nat×Nat) (λp=>⟨[(0,.sl b 1 (Ca l)),(1,.clo (.func 66) [] [c]),(7,i64 l.length),(8,i64 (p.1:Int))],[],p.2⟩) (λp=>l.length-p.1) (λq=>q.1<=l.length/\∀(j:Nat) (x:Int),j<q.1->l[j]?=some x->p x=false) (0,_) ⟨BX _,λj x hj=>Ak hj (Hg j)⟩ AL ?_;rintro⟨i,n⟩ F ⟨hi,ha⟩;dsimp only at hi ha⊢;rcases BG i l.length with h2|h2
 rotate_left
 ·have e1:=Cf h2
  have:i=l.length:=by omega
  subst this;refine AI AZ e1 AB AB AB AB AB AB ?_;exact AM (by rw[UP ha]) AA.out
 have e1:=Cd h2;have wi:=Cj (i:=i) (by omega);obtain⟨x,hx⟩:=CQ h2;have hm:(Ca l)[i]?=some (i64 x):=by rw[BC,hx];rfl
 have cn:=hc x (Av hx);cases hb:p x
 ·rw[hb]at cn
  refine AI AZ (Ar e1 wi kN) hm cn AB AB AB AB ?_;refine⟨(i+1,_),⟨h2,λj z hj hjz=>?_⟩,by dsimp only;omega,AL⟩;rcases BG j i with h|h
  ·exact ha j z h hjz
  ·have:j=i:=by dsimp only at hj;omega
   subst this;rw[hx]at hjz;cases hjz;exact hb
 ·rw[hb]at cn
  refine AI AZ (Ar e1 wi kN) hm cn AB AB AB AB ?_;exact AM (by rw[VA hx hb ha]) AA.out
theorem zj (b:Bool)(l:List Int)(c:D)[pc:AA c](p:Int->Bool)(hl:l.length<=1000000)(hc:∀x∈l,AK C0 66 [i64 x,c] (Ap (p x))):AK C0 65 [.sl b 1 (Ca l),.clo (.func 66) [] [c]] (Ap (l.any p)):=by
 refine Af.walk w1 ic rfl λF=>?_
 have c1:=zn b l c p hl hc;have e1:=VB p l;refine AI AZ e1 c1 AB AB AB AB AB ?_;exact AM rfl AA.out
def Kf (x:As)(ns:List Int):Int:=if Cw x≠0 then Cw x else if ns.any (λi=>!Jz x i)then 10 else 0
theorem d9b (x:As)(hl:x.cells.length<=1000000)(hc:∀c∈x.cells,c.length<=1000000/\∀y∈c,y.few)(ns:List Int)(hn:ns.length<=1000000):AK C0 28 [x.D,.sl true 1 (Ca ns)] (i64 (Kf x ns)):=by
 refine Af.walk w1 iz rfl λF=>?_
 have cB:=u9 x hl hc;have cH:=zj true ns (.pptr x.D) (λi=>!Jz x i) hn λi _=>zL x hl i
 have cW:=Hz (ns.any λi=>!Jz x i) 10;have hE:Kf x ns=if Cw x≠0 then Cw x else if ns.any (λi=>!Jz x i)then 10 else 0:=rfl
 obtain⟨E,hEE⟩:∃E,Cw x=E:=⟨_,rfl⟩
 rw[hEE]at cB hE;have hx:∃a b c d e,x.D=.agg [a,b,c,d,e]:=⟨_,_,_,_,_,rfl⟩
 have px:AA x.D:=AJ;have px2:AW x.D:=AJ;obtain⟨a1,a2,a3,a4,a5,hx⟩:=hx;rw[hx]at cB cH px px2⊢;rw[hE]
 by_cases h0:E=0
 rotate_left
 ·have k2:(E != 0)=true:=Jd h0
  rw[AH h0];refine AI AZ k2 cB AB AB AB AB AB ?_;exact AM rfl AA.out
 have k2:(E != 0)=false:=by rw[h0];rfl
 rw[AG (λh=>h h0)];refine AI AZ k2 cB AB AB AB AB AB ?_;refine BF.own _ (Lv cH rfl (λi a d h1 h2=>by
  match i with
  | 0=>cases h1;cases h2;exact .refl _ _
  | 1=>cases h1;cases h2;exact .clo1 (.ptr rfl rfl rfl rfl)
  |n+2=>cases h1) AJ (.prim _)) ?_
 rintro d H' n' ⟨rfl,rfl,rfl⟩;refine AI AZ k2 cW AB AB AB AB AB ?_;exact AM rfl AA.out
def D6 (x:As)(i:Nat)(L:List AE):As:=⟨x.flow,x.core,x.room,x.side,(x.cells.map A9).set i L⟩
def H8 (l:List (List AE))(k:Nat):List D:=(l.take k).map (λc=>Aj false (A9 c))++List.replicate (l.length-k) Cb
theorem tW {l:List (List AE)}{k:Nat}{c:List AE}(h:l[k]?=some c):(H8 l k).set k (Aj false (A9 c))=H8 l (k+1):=by
 have hk:=(BT.1 h).1;unfold H8;rw[Oa _ _ (by rw[Ai,Bc];omega)];rw[Ai,Bc,show k-min k l.length=0 by omega,D8,h,DN];rw[show l.length-k=(l.length-(k+1))+1 by omega,List.replicate_succ,List.set_cons_zero];rw[show List.map (λc=>Aj false (A9 c)) (some c).toList=[Aj false (A9 c)]from rfl,Dh];rfl
theorem tV (l:List (List AE))(k:Nat)(hk:k<=l.length):(H8 l k).length=l.length:=by
 unfold H8;rw[Be,Ai,Bc,JN];omega
theorem tU (l:List (List AE)):H8 l l.length=(l.map A9).map (Aj false):=by
 unfold H8;rw[DJ,Nat.sub_self,List.map_map];exact Du _
theorem zW {l:List (List AE)}{k:Nat}(h:k<l.length):(H8 l k)[k]?=some Cb:=by
 unfold H8;rw[Fq (by rw[Ai,Bc];omega),Ai,Bc,show k-min k l.length=0 by omega,show l.length-k=(l.length-(k+1))+1 by omega,List.replicate_succ];rfl
theorem SC {H:Hp}{a b c d sD:D}{L:List D}(h:Fz H [] sD (.sl false 1 L)):Fz H [] (.agg [a,b,c,d,sD]) (.agg [a,b,c,d,.sl false 1 L]):=.agg rfl λi e e' h1 h2=>by
 match i with
 | 0=>cases h1;cases h2;exact .refl _
 | 1=>cases h1;cases h2;exact .refl _
 | 2=>cases h1;cases h2;exact .refl _
 | 3=>cases h1;cases h2;exact .refl _
 | 4=>cases h1;cases h2;exact h
 |n+5=>cases h1
theorem d9d (x:As)(i:Nat)(hi:i<x.cells.length)(hl:x.cells.length<=1000000)(hc:∀c∈x.cells,AK C0 35 [Aj false c] (Aj false (A9 c)))(L:List AE):AK C0 32 [x.D,i64 (i:Int),Aj false L] (D6 x i L).D:=by
 refine Af.walk w1 jC rfl λF=>?_
 obtain⟨cs,hcs⟩:∃c,x.cells=c:=⟨_,rfl⟩
 have hW:(D6 x i L).D=.agg [str (sb x.flow),i64 x.core,i64 x.room,i64 x.side,.sl false 1 (((cs.map A9).map (Aj false)).set i (Aj false L))]:=by
  rw[<-hcs,<-List.map_set];rfl
 have el:(((cs.map (Aj false)).length:Nat):Int)=(cs.length:Int):=by rw[Ai]
 have pB:AA (D6 x i L).D:=AJ;rw[hW]at pB⊢;unfold As.D;rw[hcs]at hi hl hc⊢;have e0:decide ((cs.length:Int)<0)=false:=Bg;refine AI AZ (Ar el e0 kN) AB AB AB AB AB AB ?_;rw[show List.replicate cs.length (D.prim (Value.slice none 0 0))=H8 cs 0 from by unfold H8;simp];refine AC.loop (α:=Nat×Nat) (λp=>⟨[(1,i64 (i:Int)),(2,Aj false L),(3,.optr 0 0 5 0 0),(6,.optr 1 1 5 0 0),(7,.osl 103 5 1 0 cs.length),(15,FQ false cs),(16,i64 (cs.length:Int)),(17,i64 (p.1:Int))],[⟨103,5,31,1,H8 cs p.1⟩,⟨1,1,24,5,[.agg [.prim (.string ⟨#[]⟩),.prim (.int .i64 0),.prim (.int .i64 0),.prim (.int .i64 0),.prim (.slice none 0 0)]]⟩,⟨0,0,24,5,[.agg [str (sb x.flow),i64 x.core,i64 x.room,i64 x.side,FQ false cs]]⟩],p.2⟩) (λp=>cs.length-p.1) (λq=>q.1<=cs.length/\11<=q.2) (0,_) ⟨BX _,An _⟩ AL ?_;rintro⟨k,n⟩ F ⟨hk,hn⟩;dsimp only at hk hn⊢;have hlw:=tV cs k hk;rcases BG k cs.length with h2|h2
 rotate_left
 ·have k1:=Cf h2
  have:k=cs.length:=by omega
  subst this;rw[tU]at hlw⊢;obtain⟨W,hWW⟩:∃W,(cs.map A9).map (Aj false)=W:=⟨_,rfl⟩
  obtain⟨ci,hci⟩:=CQ hi;have hwi:W[i]?=some (.sl false 3 ((A9 ci).map AE.D)):=by rw[<-hWW,BC,BC,hci];rfl
  rw[hWW]at hlw pB⊢;refine AI AZ (Bd k1 hwi kN BW) AB AB AB AB AB AB ?_;have hR:=HQ (H:=[⟨103,5,31,1,W.set i (Aj false L)⟩,⟨1,1,24,5,[.agg [str (sb x.flow),i64 x.core,i64 x.room,i64 x.side,.osl 103 5 1 0 cs.length]]⟩,⟨0,0,24,5,[.agg [str (sb x.flow),i64 x.core,i64 x.room,i64 x.side,.osl 103 5 1 0 cs.length]]⟩]) (Hf:=[]) (k:=103) (g:=5) (T:=31) (sz:=1) (l:=W.set i (Aj false L)) rfl;rw[Dj,hlw]at hR;exact⟨_,SC hR,pB.out,rfl⟩
 have k1:=Cd h2;have wi:=Cj (i:=k) (by omega);obtain⟨c,hc'⟩:=CQ h2;have hm:(cs.map (Aj false))[k]?=some (.sl false 3 (c.map AE.D)):=by rw[BC,hc'];rfl
 have cN:=hc c (Av hc');have hset:=tW hc';have hat:=zW h2;obtain⟨es,hes⟩:∃e,H8 cs k=e:=⟨_,rfl⟩
 rw[hes]at hlw hset hat⊢;refine AI AZ (CT k1 wi hat kN BW) hm cN AB AB AB AB ?_;refine⟨(k+1,n+1000),⟨h2,by dsimp only;omega⟩,by dsimp only;omega,?_⟩;dsimp only;rw[<-hset];exact AL
end Go.Ide
namespace Go.Proofs
open Go.Shelf Go.RowKit Go.Lib
open Tryz
def Tryz.growLay_ren:Go.Shelf.Ren:=⟨fun|4=>70|n=>n,fun|22=>31|25=>51|3=>3|4=>4|9=>9|20=>20|0=>0|n=>n,fun|n=>n⟩
theorem kL:Go.Proofs.Lays8.n4 Tryz.prog Tryz.growLay_ren:={
 mixed:=by kernel_rfl
 f4:=⟨Tryz.f70.name,by decide,Cm func70⟩
 t0:=underlying0
 a0:=isAgg0
 z0:=sizeOf0
 v0:=zeroValue0
 t3:=underlying3
 a3:=isAgg3
 z3:=sizeOf3
 v3:=zeroValue3
 t4:=underlying4
 a4:=isAgg4
 z4:=sizeOf4
 v4:=zeroValue4
 t9:=underlying9
 a9:=isAgg9
 z9:=sizeOf9
 v9:=zeroValue9
 t20:=underlying20
 a20:=isAgg20
 z20:=sizeOf20
 v20:=zeroValue20
 t22:=underlying31
 a22:=isAgg31
 z22:=sizeOf31
 v22:=zeroValue31 }
end Go.Proofs
namespace Go.Ide
open Go.Proofs Go.RowKit Go.Lib
set_option maxRecDepth 20000
set_option maxHeartbeats 4000000
theorem K3 (K n:Nat)(h0:0<n)(hn:n<=1000000)(H:Hp)(m:Nat):Cu C0 70 [Cb,i64 (n:Int)] H m (λd H' n'=>d=.osl K m 3 0 0/\H'=⟨K,m,51,3,[]⟩::H/\n'=m+1):=by
 refine⟨by obtain⟨fn,a1,a2,a3,-⟩:=Wc;exact⟨fn,_,a1,a2,a3⟩,λF ρ w vs mm fr gn hsz rep=>?_⟩;obtain⟨v0,v1,rfl⟩:∃v0 v1,vs = #[v0,v1]:=by
  match vs,hsz with
  |⟨[a,b]⟩,_=>exact⟨a,b,rfl⟩
 have r0:AU ρ _ w Cb v0:=rep 0 _ rfl;have r1:AU ρ _ w (i64 (n:Int)) v1:=rep 1 _ rfl;cases r0;cases r1;have hT:∃i,X1.tt 31=some i/\i.ti=.slice 51 3 48 (.agg #[.string ⟨#[]⟩,.int .i64 0,.slice none 0 0]):=⟨_,rfl,rfl⟩
 obtain⟨i,hi1,hi2⟩:=hT;obtain⟨-,⟨inf,k1,k2,k3,k4⟩,k5,k6⟩:=FL (w1.tt _ _ hi1) hi2;have hc:=Any8.slices_Grow_grow kL inf _ k1 k4 (by rw[k2];decide) none 0 0 n [] w (An _) (by omega) (by rw[k3];omega) (by omega) (by rw[k2];rfl) (λ_=>rfl) (λa h=>by cases h);refine Calls.mono hc ?_;rintro e w' ⟨rfl,rfl⟩;rw[show Tryz.growLay_ren.t 25=51 from rfl,BW];have hge:n<=grownCap w n 0 51:=grownCap_ge ..;have hmx:grownCap w n 0 51<=maxLen:=grownCap_le_maxLen _ _ _ _ (by simp only[maxLen];omega);generalize grownCap w n 0 51=cap at hge hmx⊢;obtain⟨z,hz⟩:∃z,(Value.agg #[.string ⟨#[]⟩,.int .i64 0,.slice none 0 0])=z:=⟨_,rfl⟩
 rw[hz]at k5 k6⊢;generalize hcs' : #[]++Builtin.zeroCells z.cells (n-0)++Builtin.zeroCells z.cells (cap-n)=cs';have hsz':cs'.size=cap*3:=by
  rw[<-hcs',Jw,Jw,size_zeroCells,size_zeroCells,k5];simp only[Kr,IH];omega
 have ho:De ρ (AN F.X ρ H) w.drew ⟨K,m,51,3,[]⟩ cs':=by
  refine⟨by simp,λq d h=>by simp at h,λq v hv=>?_,λq d j c h=>by simp at h⟩;rw[<-hcs']at hv;rcases BG q (#[]++Builtin.zeroCells z.cells (n-0)).size with hq|hq
  ·rw[HH hq,Array.empty_append]at hv
   exact Qr k6 _ _ v hv
  ·rw[HG hq]at hv
   exact Qr k6 _ _ v hv
 obtain⟨m1,x1⟩:=mm.drew.alloc ⟨K,m,51,3,[]⟩ cs' (fr _ _ (An _)) (λe' he' h=>Nat.ne_of_lt (gn e' he') h.2) ho;refine⟨_,_,_,_,_,rfl,⟨rfl,rfl,rfl⟩,m1,(BZ.drew _ _ _).trans x1,λk g hg=>?_,λe he=>?_,?_⟩
 ·unfold Lk.put
  rw[AG λh=>by have:=h.2;dsimp only at this;omega];exact fr k g (by omega)
 ·rcases A8.1 he with rfl|he
  ·exact IF _
  ·exact Di (gn e he)
 ·exact QT (b:=w.heap.size) (T:=51) (cs:=cs') (fz:=(0,0)) (Ev _ _ _ _) (by rw[En];exact AH rfl) (BX _) hsz'.symm hmx
theorem Ys {vs:List (List AE)}{i:Nat}{l:List AE}(h:vs[i]?=some l):(vs.take (i+1)).flatten=(vs.take i).flatten++l:=by
 rw[D8,h];simp
theorem bT {vs:List (List AE)}(i:Nat):(vs.take i).flatten.length<=vs.flatten.length:=by
 have:vs.flatten=(vs.take i).flatten++(vs.drop i).flatten:=by rw[<-List.flatten_append,FF]
 rw[this,Be];omega
theorem Yp (vs:List (List AE))(h0:vs.flatten≠[])(hl:vs.flatten.length<=1000000)(hv:vs.length<=1000000):AK C0 36 [.sl true 1 (vs.map (Aj false))] (Aj false vs.flatten):=by
 refine Af.walk w1 Wa rfl λF=>?_
 have el:(((vs.map (Aj false)).length:Nat):Int)=(vs.length:Int):=by rw[Ai]
 have hpos:0<vs.flatten.length:=List.length_pos_iff.2 h0;have cG:=λm=>K3 1302 vs.flatten.length hpos hl [] m
 refine AI AZ el AB AB AB AB AB AB ?_;refine AC.loop (α:=Nat×Nat) (λp=>⟨[(0,.sl true 1 (vs.map (Aj false))),(3,i64 ((vs.take p.1).flatten.length:Int)),(9,.sl true 1 (vs.map (Aj false))),(10,i64 (vs.length:Int)),(11,i64 (p.1:Int))],[],p.2⟩) (λp=>vs.length-p.1) (λq=>q.1<=vs.length) (0,_) (BX _) AL ?_;rintro⟨i,n⟩ F hi;dsimp only at hi⊢;rcases BG i vs.length with h2|h2
 ·have e1:=Cd h2
  have wi:=Cj (i:=i) (by omega);obtain⟨x,hx⟩:=CQ h2;have hm:(vs.map (Aj false))[i]?=some (.sl false 3 (x.map AE.D)):=by rw[BC,hx];rfl
  have hs:=Ys hx;have hle:=bT (vs:=vs) (i+1);have ex:(((x.map AE.D).length:Nat):Int)=(x.length:Int):=by rw[Ai]
  rw[hs,Be]at hle;have w1':IntKind.i64.wrap (((vs.take i).flatten.length:Int)+(x.length:Int))=(((vs.take (i+1)).flatten.length:Nat):Int):=by
   rw[wI,hs,Be];omega
  have g0:decide ((((vs.take (i+1)).flatten.length:Nat):Int)<0)=false:=Bg;refine AI AZ (ER e1 wi ex w1' g0 kN) hm AB AB AB AB AB ?_;exact⟨(i+1,_),h2,by dsimp only;omega,AL⟩
 have e1:=Cf h2
 have:i=vs.length:=by omega
 subst this;rw[DJ];refine AI AZ e1 AB AB AB AB AB AB ?_;refine BF.own _ (cG _) ?_;rintro d H' n' ⟨rfl,rfl,rfl⟩;refine AI AZ el AB AB AB AB AB AB ?_;refine AC.loop (α:=Nat×Nat×Nat) (λp=>⟨[(6,.osl 1302 p.2.1 3 0 (vs.take p.1).flatten.length),(25,.sl true 1 (vs.map (Aj false))),(26,i64 (vs.length:Int)),(27,i64 (p.1:Int))],[⟨1302,p.2.1,51,3,(vs.take p.1).flatten.map AE.D⟩],p.2.2⟩) (λp=>vs.length-p.1) (λq=>q.1<=vs.length) (0,n+1+1,_) (BX _) AL ?_;clear hi h2 e1;rintro⟨i,g,n⟩ F hi;dsimp only at hi⊢;rcases BG i vs.length with h2|h2
 ·have e1:=Cd h2
  have wi:=Cj (i:=i) (by omega);obtain⟨x,hx⟩:=CQ h2;have hm:(vs.map (Aj false))[i]?=some (.sl false 3 (x.map AE.D)):=by rw[BC,hx];rfl
  have hs:=Ys hx;have hle:=bT (vs:=vs) (i+1);have hln:((vs.take i).flatten.map AE.D).length=(vs.take i).flatten.length:=Ai ..;have hlx:(x.map AE.D).length=x.length:=Ai ..;rw[hs,Be]at hle;obtain⟨R,hR⟩:∃R,(vs.take i).flatten=R:=⟨_,rfl⟩
  obtain⟨X,hX⟩:∃X,x.map AE.D=X:=⟨_,rfl⟩
  have pX:AA (.sl false 3 X):=by rw[<-hX];exact AJ
  rw[hR]at hs hle hln⊢;rw[hX]at hm hlx;obtain⟨RD,hRD⟩:∃X,R.map AE.D=X:=⟨_,rfl⟩
  rw[hRD]at hln⊢;refine AI AZ (Ar e1 wi kN) hm AB AB AB AB AB ?_;refine⟨(i+1,n+1+1+1+1+1+1,n+1+1+1+1+1+1+1+1+1+1),h2,by dsimp only;omega,?_⟩;dsimp only;rw[hs,Be,DN,hRD,hX,hlx];rw[Co (show RD.length<=R.length by omega)];exact AL
 have e1:=Cf h2
 have:i=vs.length:=by omega
 subst this;rw[DJ];have hR:=HQ (H:=[⟨1302,g,51,3,vs.flatten.map AE.D⟩]) (Hf:=[]) (k:=1302) (g:=g) (T:=51) (sz:=3) (l:=vs.flatten.map AE.D) rfl;rw[Ai]at hR;refine AI AZ e1 AB AB AB AB AB AB ?_;exact⟨_,hR,AA.out,rfl⟩
end Go.Ide
namespace Go.Ide
open Go.Proofs Go.RowKit Go.Lib
set_option maxRecDepth 20000
set_option maxHeartbeats 4000000
theorem r9:AK C0 70 [Cb,i64 0] Cb:=by
 refine⟨by obtain⟨fn,a1,a2,a3,-⟩:=Wc;exact⟨fn,_,a1,a2,a3⟩,λX w vs _ _ _ hsz rep=>?_⟩;obtain⟨v0,v1,rfl⟩:∃v0 v1,vs = #[v0,v1]:=by
  match vs,hsz with
  |⟨[a,b]⟩,_=>exact⟨a,b,rfl⟩
 have r0:AU nol _ w Cb v0:=rep 0 _ rfl;have r1:AU nol _ w (i64 0) v1:=rep 1 _ rfl;cases r0;cases r1;refine(Any8.slices_Grow_room kL none 0 0 0 w (An _) (by omega) (by omega) (An _)).mono ?_;rintro e w' ⟨rfl,rfl⟩;exact⟨_,_,rfl,.refl _ _,rfl,.prim _⟩
theorem mE (vs:List (List AE))(h0:∀x∈vs,x=[])(hv:vs.length<=1000000):AK C0 36 [.sl true 1 (vs.map (Aj false))] (Aj false []):=by
 refine Af.walk w1 Wa rfl λF=>?_
 have el:(((vs.map (Aj false)).length:Nat):Int)=(vs.length:Int):=by rw[Ai]
 have cG:=r9;refine AI AZ el AB AB AB AB AB AB ?_;refine AC.loop (α:=Nat×Nat) (λp=>⟨[(0,.sl true 1 (vs.map (Aj false))),(3,i64 0),(9,.sl true 1 (vs.map (Aj false))),(10,i64 (vs.length:Int)),(11,i64 (p.1:Int))],[],p.2⟩) (λp=>vs.length-p.1) (λq=>q.1<=vs.length) (0,_) (BX _) AL ?_;rintro⟨i,n⟩ F hi;dsimp only at hi⊢;rcases BG i vs.length with h2|h2
 ·have e1:=Cd h2
  have wi:=Cj (i:=i) (by omega);obtain⟨x,hx⟩:=CQ h2;have hx0:=h0 x (Av hx);subst hx0;have hm:(vs.map (Aj false))[i]?=some (.sl false 3 []):=by rw[BC,hx];rfl
  have ln0:([]:List D).length=0:=rfl;have w1':IntKind.i64.wrap (0+((0:Nat):Int))=0:=rfl;have g0:decide ((0:Int)<0)=false:=rfl;refine AI AZ (ER e1 wi ln0 w1' g0 kN) hm AB AB AB AB AB ?_;exact⟨(i+1,_),h2,by dsimp only;omega,AL⟩
 have e1:=Cf h2
 have:i=vs.length:=by omega
 subst this;refine AI AZ (Ad el e1) cG AB AB AB AB AB ?_;refine AC.ghost 1302 51 3 [(6,.osl 1302 _ 3 0 0),(25,.sl true 1 (vs.map (Aj false))),(26,i64 (vs.length:Int)),(27,i64 ((0:Nat):Int))] ⟨.inr ⟨rfl,rfl⟩,.inl rfl,.inl rfl,.inl rfl,trivial⟩ ?_;refine AC.loop (α:=Nat×Nat×Nat) (λp=>⟨[(6,.osl 1302 p.2.1 3 0 0),(25,.sl true 1 (vs.map (Aj false))),(26,i64 (vs.length:Int)),(27,i64 (p.1:Int))],[⟨1302,p.2.1,51,3,[]⟩],p.2.2⟩) (λp=>vs.length-p.1) (λq=>q.1<=vs.length) (0,_,_) (BX _) AL ?_;clear hi h2 e1;rintro⟨i,g,n⟩ F hi;dsimp only at hi⊢;rcases BG i vs.length with h2|h2
 ·have e1:=Cd h2
  have wi:=Cj (i:=i) (by omega);obtain⟨x,hx⟩:=CQ h2;have hx0:=h0 x (Av hx);subst hx0;have hm:(vs.map (Aj false))[i]?=some (.sl false 3 []):=by rw[BC,hx];rfl
  refine AI AZ (Ar e1 wi kN) hm AB AB AB AB AB ?_;exact⟨(i+1,n+1+1+1+1+1+1,n+1+1+1+1+1+1+1+1+1+1),h2,by dsimp only;omega,AL⟩
 have e1:=Cf h2;have hR:=HQ (H:=[⟨1302,g,51,3,[]⟩]) (Hf:=[]) (k:=1302) (g:=g) (T:=51) (sz:=3) (l:=[]) rfl;refine AI AZ e1 AB AB AB AB AB AB ?_;exact⟨_,hR,AA.out,rfl⟩
theorem Zu (vs:List (List AE))(hl:vs.flatten.length<=1000000)(hv:vs.length<=1000000):AK C0 36 [.sl true 1 (vs.map (Aj false))] (Aj false vs.flatten):=by
 by_cases h:vs.flatten=[]
 ·rw[h]
  exact mE vs (λx hx=>FT (Nat.le_zero.1 (by
   have:=(List.sublist_flatten_of_mem hx).length_le
   rwa [h]at this))) hv
 ·exact Yp vs h hl hv
def QA:List AE->Int->List AE
 | [],_=>[]
 |x::r,m=>x.w (min m x.mass)::QA r (m-min m x.mass)
abbrev U4:Dr:=[(1,[0,1,2,3,4,5,6],[7]),(9,[0,1,2,3,4],[5,6])]
open Go.Proofs Go.RowKit
set_option maxRecDepth 20000
set_option maxHeartbeats 4000000
def Fp:List AE->Int->Int->List AE
 | [],_,_=>[]
 |x::r,low,left=>x.w (min (x.mass-min x.mass low) left)::Fp r (low-min x.mass low) (left-min (x.mass-min x.mass low) left)
structure XZ where
 o:List AE
 low:Int
 left:Int
 g:Nat
def Ke (g1 g2:Nat)(p:XZ):Hp:=EI 905 p.g 51 3 (p.o.map AE.D)++[⟨200,g2,31,1,[EO 905 p.g 3 (p.o.map AE.D)]⟩,⟨106,g1,3,1,[i64 p.left]⟩,⟨0,0,3,1,[i64 p.low]⟩]
theorem ax (g1 g2:Nat)(a b:Int)(g:Nat):Ke g1 g2 ⟨[],a,b,g⟩=[⟨200,g2,31,1,[Cb]⟩,⟨106,g1,3,1,[i64 b]⟩,⟨0,0,3,1,[i64 a]⟩]:=rfl
theorem RW (g1 g2:Nat)(z:AE)(o:List AE)(a b:Int)(g:Nat):Ke g1 g2 ⟨z::o,a,b,g⟩=[⟨905,g,51,3,z.D::o.map AE.D⟩,⟨200,g2,31,1,[.osl 905 g 3 0 ((o.map AE.D).length+1)]⟩,⟨106,g1,3,1,[i64 b]⟩,⟨0,0,3,1,[i64 a]⟩]:=rfl
def Py (L:List AE)(low left:Int)(k:Nat)(p:XZ):Prop:=p.o.length=k/\p.o++Fp (L.drop k) p.low p.left=Fp L low left/\0<=p.low/\p.low<=1000000000000/\0<=p.left/\p.left<=1000000000000000
theorem YG (b:Bool)(l:List AE)(low high:Int)(hl:l.length<=1000000)(h1:0<=low/\low<=1000000000000)(h2:0<=high/\high<=1000000000000)(t:Int)(ht:low+high<=t/\t<=1000000000000000)(hx:∀x∈l,0<=x.mass/\x.mass<=1000000000)
  (cT:AK C0 30 [Aj b l] (i64 t))
  (ho:∀x∈l,∀m,AK C0 64 [x.D,i64 m] (x.w m).D) (R:D) [pR:AA R] (hN:AK C0 35 [Aj false (Fp l low (t-low-high))] R):
  AK C0 33 [Aj b l,i64 low,i64 high] R:=by
 refine Af.walk w1 jD rfl λF=>?_
 have cV:=Ur b false (l.map AE.D);have hT:∀x∈l.map AE.D,∃a c d,x=.agg [a,c,d]:=λx hx=>by
  obtain⟨y,-,rfl⟩:=Bx.1 hx;exact⟨_,_,_,rfl⟩
 have hoA:∀k,k<l.length->∃y,y∈l/\l[k]?=some y/\(l.map AE.D)[if false then(l.map AE.D).length-1-k else k]?=some y.D:=λk hk=>⟨_,List.getElem_mem hk,By hk,by
  show(l.map AE.D)[k]?=_;rw[BC,By hk];rfl⟩
 unfold Aj at cT⊢;obtain⟨T,hTT⟩:∃T,l.map AE.D=T:=⟨_,rfl⟩
 have pT:AA (.sl b 3 T):=by rw[<-hTT];exact AJ
 have hTl:T.length=l.length:=by rw[<-hTT,Ai]
 rw[hTT]at cV hT hoA cT⊢;have w1':IntKind.i64.wrap (t-low)=t-low:=wI;have w2:IntKind.i64.wrap (t-low-high)=t-low-high:=wI;obtain⟨e,he⟩:∃e,t-low-high=e:=⟨_,rfl⟩
 have w2':IntKind.i64.wrap (t-low-high)=e:=by rw[w2,he]
 rw[he]at hN;have he0:0<=e/\e<=1000000000000000:=by omega
 refine AI U4 (Ad w1' w2') cT cV AB AB AB AB ?_;have h0:Py l low e 0 ⟨[],low,e,0⟩:=⟨rfl,rfl,h1.1,h1.2,he0.1,he0.2⟩
 refine AC.rangeFunc (fi:=104) (first:=[]) (captured:=[.pptr (.sl b 3 T),.pptr (Ap false)]) (Ψ:=λj _ H' _=>(j=none/\∃a,Py l low e T.length a/\H'=Ke 8 11 a)\/(j=some (.exit 0)/\False)) rfl
  (λds H n Φ=>∃k a x,Py l low e k a/\k<T.length/\T[if false then T.length-1-k else k]?=some x/\ds=[x]/\H=Ke 8 11 a/\Φ=λj H' _=>(j=none/\∃a',Py l low e (k+1) a'/\Cz H' (Ke 8 11 a') H' (Ke 8 11 a'))\/(j=some (.exit 0)/\False)) ?_
  (λE l' R' hE hY=>Wy hE b false T hT (by omega) (λ_ a=>Ke 8 11 a) (Py l low e) (.exit 0) (λ_=>False) ⟨[],low,e,0⟩ h0 _ λk a x n hP hk hx=>hY _ _ _ _ ⟨k,a,x,hP,hk,hx,rfl,rfl,rfl⟩) ?_
 ·rintro l' ds H n Φ ⟨k,⟨o,lw,lf,g⟩,x,⟨p1,p2,p3,p4,p6,p7⟩,hk,hxT,rfl,rfl,rfl⟩
  dsimp only at p1 p2 p3 p4 p6 p7;obtain⟨y,hy1,hy2,hy3⟩:=hoA k (by omega);rw[hy3]at hxT;cases hxT;have hd:l.drop k=y::l.drop (k+1):=by
   have:=(BT.1 hy2)
   rw[E5 this.1,this.2]
  rw[hd]at p2;have hb:=hx y hy1;have cO:=ho y hy1 (min (y.mass-min y.mass lw) lf);have p5:(o++[y.w (min (y.mass-min y.mass lw) lf)])++Fp (l.drop (k+1)) (lw-min y.mass lw) (lf-min (y.mass-min y.mass lw) lf)=Fp l low e:=by
   rw[<-p2,Dh];rfl
  have a1:IntKind.i64.wrap (lw-min y.mass lw)=lw-min y.mass lw:=wI;have a2:IntKind.i64.wrap (y.mass-min y.mass lw)=y.mass-min y.mass lw:=wI;have a3:IntKind.i64.wrap (lf-min (y.mass-min y.mass lw) lf)=lf-min (y.mass-min y.mass lw) lf:=wI;have q1:0<=lw-min y.mass lw/\lw-min y.mass lw<=1000000000000/\0<=lf-min (y.mass-min y.mass lw) lf/\lf-min (y.mass-min y.mass lw) lf<=1000000000000000:=by omega
  refine⟨rfl,λF=>?_⟩;unfold AE.w AE.D at cO;unfold AE.D;dsimp only at cO⊢;obtain⟨SD,hSD⟩:∃d,C9 false y.shs=d:=⟨_,rfl⟩
  have pS:AA SD:=by rw[<-hSD];exact AJ
  rw[hSD]at cO⊢;rcases o with _|⟨z,o⟩
  ·rw[ax]
   dsimp only[HV];refine Aq 400 ?_;refine AF kB ?_;refine⟨trivial,trivial,λF'=>?_⟩;refine AI U4 (Ar a1 a2 a3) cO AB AB AB AB AB ?_;refine .inl ⟨rfl,⟨[y.w (min (y.mass-min y.mass lw) lf)],lw-min y.mass lw,lf-min (y.mass-min y.mass lw) lf,n+1+1+1+1+1+1+1+1+1+1+1+1+1+1+1+1+1+1+1+1+1+1+7⟩,⟨by rw[<-p1];rfl,p5,q1⟩,?_⟩;rw[RW,<-hSD];exact .keep (.drop (Hs _))
  ·have hol:o.length<=1000000:=by rw[Br]at p1;omega
   rw[RW];dsimp only[HV];obtain⟨O,hO⟩:∃O,o.map AE.D=O:=⟨_,rfl⟩
   obtain⟨zD,hzD⟩:∃O,z.D=O:=⟨_,rfl⟩
   have hOl:O.length=o.length:=by rw[<-hO,Ai]
   rw[hO,hzD];refine Aq 400 ?_;refine AF kB ?_;refine⟨trivial,trivial,λF'=>?_⟩;refine AI U4 (Ar a1 a2 a3) cO AB AB AB AB AB ?_;rw[show List.take (O.length+1) (zD::O)=zD::O from DJ (l:=zD::O)];refine .inl ⟨rfl,⟨z::o++[y.w (min (y.mass-min y.mass lw) lf)],lw-min y.mass lw,lf-min (y.mass-min y.mass lw) lf,n+1+1+1+1+1+1+1+1+1+1+1+1+1+1+1+1+1+1+1+1+1+1+7⟩,⟨by rw[<-p1];simp,p5,q1⟩,?_⟩;have hs:∀g' a b,Ke 8 11 ⟨z::o++[y.w (min (y.mass-min y.mass lw) lf)],a,b,g'⟩=[⟨905,g',51,3,zD::O++[.agg [str (sb y.grain),i64 (min (y.mass-min y.mass lw) lf),SD]]⟩,⟨200,11,31,1,[.osl 905 g' 3 0 (O.length+1+1)]⟩,⟨106,8,3,1,[i64 b]⟩,⟨0,0,3,1,[i64 a]⟩]:=λg' a b=>by
    rw[E7,RW,<-hO,<-hzD,<-hSD,DN];rw[Be];rfl
   rw[hs];exact .keep (.drop (Hs _))
 ·rintro j d H' n' F' hE
  rcases hE with⟨rfl,⟨o,lw,lf,g⟩,⟨p1,p2,-⟩,rfl⟩|⟨-,h⟩
  rotate_left
  ·exact h.elim
  dsimp only at p2;rw[List.drop_eq_nil_of_le (by omega)]at p2;have ho2:o=Fp l low e:=by rw[<-p2];exact(Du o).symm
  rw[<-ho2]at hN;rcases o with _|⟨z,o⟩
  ·rw[ax]
   change AC _ _ _ _ _ _ _;refine sR 1000 ?_;refine BF.pure [.sl false 3 []] _ ⟨.nil 3,trivial⟩ hN AJ ?_;refine BS ?_;refine Ag ?_;exact AM rfl pR.out
  ·have hR:=HQ (H:=Ke 8 11 ⟨z::o,lw,lf,g⟩) (Hf:=[]) (k:=905) (g:=g) (T:=51) (sz:=3) (l:=(z::o).map AE.D) rfl
   have hle:((z::o).map AE.D).length=(o.map AE.D).length+1:=rfl;rw[hle]at hR;rw[RW]at hR⊢;change AC _ _ _ _ _ _ _;refine sR 1000 ?_;refine BF.own _ (QU [] hN (.drop (.drop (.drop (.drop .nil)))) ⟨hR,trivial⟩ AJ) ?_;rintro d H2 n2 ⟨rfl,rfl,rfl⟩;refine BS ?_;refine Ag ?_;exact AM rfl pR.out
def SF (lot:List UInt8)(x:AE):Bool:=x.shs.any λs=>BE (sb s.lot) (sb lot)
def MA (lot:List UInt8):List AE->Int->List (Int×Int)
 | [],_=>[]
 |x::r,n=>(if SF lot x then[(n+1,n+x.mass)]else[])++MA lot r (n+x.mass)
def GV (p:Int×Int):D:=.agg [i64 p.1,i64 p.2]
instance  (p:Int×Int):AW (GV p):=by unfold GV;exact AJ
instance  (p:Int×Int):AA (GV p):=by unfold GV;exact AJ
theorem e0G (lot:List UInt8)(s:Au):AK C0 137 [s.D,.pptr (str (sb lot))] (Ap (BE (sb s.lot) (sb lot))):=by
 refine Af.walk w1 fH rfl λF=>?_
 unfold Au.D;refine AI AZ kB AB AB AB AB AB AB ?_;exact AM rfl AA.out
theorem zp (b:Bool)(l:List Au)(c:D)[pc:AA c](p:Au->Bool)(hl:l.length<=1000000)(hc:∀x∈l,AK C0 137 [x.D,c] (Ap (p x))):AK C0 193 [C9 b l,.clo (.func 137) [] [c]] (i64 (Kl p l)):=by
 refine Af.walk w1 dq rfl λF=>?_
 have el:(((l.map Au.D).length:Nat):Int)=(l.length:Int):=by rw[Ai]
 refine AI AZ el AB AB AB AB AB AB ?_;refine AC.loop (α:=Nat×Nat) (λp=>⟨[(0,C9 b l),(1,.clo (.func 137) [] [c]),(7,i64 l.length),(8,i64 (p.1:Int))],[],p.2⟩) (λp=>l.length-p.1) (λq=>q.1<=l.length/\∀(j:Nat) (x:Au),j<q.1->l[j]?=some x->p x=false) (0,_) ⟨BX _,λj x hj=>Ak hj (Hg j)⟩ AL ?_;rintro⟨i,n⟩ F ⟨hi,ha⟩;dsimp only at hi ha⊢;rcases BG i l.length with h2|h2
 rotate_left
 ·have e1:=Cf h2
  have:i=l.length:=by omega
  subst this;refine AI AZ e1 AB AB AB AB AB AB ?_;exact AM (by rw[UP ha]) AA.out
 have e1:=Cd h2;have wi:=Cj (i:=i) (by omega);obtain⟨x,hx⟩:=CQ h2;have hm:(l.map Au.D)[i]?=some (.agg [str (sb x.lot),str (sb x.part)]):=by rw[BC,hx];rfl
 have cn:=hc x (Av hx);unfold Au.D at cn;cases hb:p x
 ·rw[hb]at cn
  refine AI AZ (Ar e1 wi kN) hm cn AB AB AB AB ?_;refine⟨(i+1,_),⟨h2,λj z hj hjz=>?_⟩,by dsimp only;omega,AL⟩;rcases BG j i with h|h
  ·exact ha j z h hjz
  ·have:j=i:=by dsimp only at hj;omega
   subst this;rw[hx]at hjz;cases hjz;exact hb
 ·rw[hb]at cn
  refine AI AZ (Ar e1 wi kN) hm cn AB AB AB AB ?_;exact AM (by rw[VA hx hb ha]) AA.out
theorem zk (b:Bool)(l:List Au)(c:D)[pc:AA c](p:Au->Bool)(hl:l.length<=1000000)(hc:∀x∈l,AK C0 137 [x.D,c] (Ap (p x))):AK C0 136 [C9 b l,.clo (.func 137) [] [c]] (Ap (l.any p)):=by
 refine Af.walk w1 fG rfl λF=>?_
 have c1:=zp b l c p hl hc;have e1:=VB p l;refine AI AZ e1 c1 AB AB AB AB AB ?_;exact AM rfl AA.out
structure Xb where
 o:List (Int×Int)
 n:Int
 g:Nat
def K6 (lot:List UInt8)(g1 g2:Nat)(p:Xb):Hp:=EI 609 p.g 105 2 (p.o.map GV)++[⟨200,g2,3,1,[i64 p.n]⟩,⟨100,g1,103,1,[EO 609 p.g 2 (p.o.map GV)]⟩,⟨0,0,9,1,[str (sb lot)]⟩]
theorem bo (lot:List UInt8)(g1 g2:Nat)(n:Int)(g:Nat):K6 lot g1 g2 ⟨[],n,g⟩=[⟨200,g2,3,1,[i64 n]⟩,⟨100,g1,103,1,[Cb]⟩,⟨0,0,9,1,[str (sb lot)]⟩]:=rfl
theorem RR (lot:List UInt8)(g1 g2:Nat)(z:Int×Int)(o:List (Int×Int))(n:Int)(g:Nat):K6 lot g1 g2 ⟨z::o,n,g⟩=[⟨609,g,105,2,GV z::o.map GV⟩,⟨200,g2,3,1,[i64 n]⟩,⟨100,g1,103,1,[.osl 609 g 2 0 ((o.map GV).length+1)]⟩,⟨0,0,9,1,[str (sb lot)]⟩]:=rfl
def QO (lot:List UInt8)(l:List AE)(k:Nat)(p:Xb):Prop:=p.o.length<=k/\p.o++MA lot (l.drop k) p.n=MA lot l 0/\0<=p.n/\p.n<=(k:Int)*1000000000
theorem lE (b:Bool)(l:List AE)(lot:List UInt8)(hl:l.length<=1000000)(hx:∀x∈l,0<=x.mass/\x.mass<=1000000000/\x.shs.length<=1000000):
  AK C0 96 [Aj b l,str (sb lot)] (.sl false 2 ((MA lot l 0).map GV)):=by
 refine Af.walk w1 jV rfl λF=>?_
 have cV:=Ur b false (l.map AE.D);have hT:∀x∈l.map AE.D,∃a c d,x=.agg [a,c,d]:=λx hx=>by
  obtain⟨y,-,rfl⟩:=Bx.1 hx;exact⟨_,_,_,rfl⟩
 have hoA:∀k,k<l.length->∃y,y∈l/\l[k]?=some y/\(l.map AE.D)[if false then(l.map AE.D).length-1-k else k]?=some y.D:=λk hk=>⟨_,List.getElem_mem hk,By hk,by
  show(l.map AE.D)[k]?=_;rw[BC,By hk];rfl⟩
 unfold Aj;obtain⟨T,hTT⟩:∃T,l.map AE.D=T:=⟨_,rfl⟩
 have pT:AA (.sl b 3 T):=by rw[<-hTT];exact AJ
 have hTl:T.length=l.length:=by rw[<-hTT,Ai]
 rw[hTT]at cV hT hoA⊢;refine AI AZ kB cV AB AB AB AB AB ?_;have h0:QO lot l 0 ⟨[],0,0⟩:=⟨An _,rfl,Int.le_refl _,Int.le_refl _⟩
 refine AC.rangeFunc (fi:=104) (first:=[]) (captured:=[.pptr (.sl b 3 T),.pptr (Ap false)]) (Ψ:=λj _ H' _=>(j=none/\∃a,QO lot l T.length a/\H'=K6 lot 2 3 a)\/(j=some (.exit 0)/\False)) rfl
  (λds H n Φ=>∃k a x,QO lot l k a/\k<T.length/\T[if false then T.length-1-k else k]?=some x/\ds=[x]/\H=K6 lot 2 3 a/\Φ=λj H' _=>(j=none/\∃a',QO lot l (k+1) a'/\Cz H' (K6 lot 2 3 a') H' (K6 lot 2 3 a'))\/(j=some (.exit 0)/\False)) ?_
  (λE l' R' hE hY=>Wy hE b false T hT (by omega) (λ_ a=>K6 lot 2 3 a) (QO lot l) (.exit 0) (λ_=>False) ⟨[],0,0⟩ h0 _ λk a x n hP hk hx=>hY _ _ _ _ ⟨k,a,x,hP,hk,hx,rfl,rfl,rfl⟩) ?_
 ·rintro l' ds H n Φ ⟨k,⟨o,nn,g⟩,x,⟨p1,p2,p3,p4⟩,hk,hxT,rfl,rfl,rfl⟩
  dsimp only at p1 p2 p3 p4;obtain⟨y,hy1,hy2,hy3⟩:=hoA k (by omega);rw[hy3]at hxT;cases hxT;have hd:l.drop k=y::l.drop (k+1):=by
   have:=(BT.1 hy2)
   rw[E5 this.1,this.2]
  rw[hd]at p2;have hb:=hx y hy1;have cH:=zk false y.shs (.pptr (str (sb lot))) (λs=>BE (sb s.lot) (sb lot)) hb.2.2 λs _=>e0G lot s
  have hK:(y.shs.any λs=>BE (sb s.lot) (sb lot))=SF lot y:=rfl;rw[hK]at cH;have p5:(o++(if SF lot y then[(nn+1,nn+y.mass)]else[]))++MA lot (l.drop (k+1)) (nn+y.mass)=MA lot l 0:=by
   rw[<-p2,Dh];rfl
  obtain⟨K,hKK⟩:∃K,SF lot y=K:=⟨_,rfl⟩
  rw[hKK]at cH p5;have a1:IntKind.i64.wrap (nn+y.mass)=nn+y.mass:=wI;have a2:IntKind.i64.wrap (nn+1)=nn+1:=wI;have q1:0<=nn+y.mass/\nn+y.mass<=((k+1:Nat):Int)*1000000000:=by omega
  refine⟨rfl,λF=>?_⟩;unfold AE.D;unfold C9 at cH⊢;obtain⟨SD,hSD⟩:∃d,y.shs.map Au.D=d:=⟨_,rfl⟩
  have pS:AA (.sl false 2 SD):=by rw[<-hSD];exact AJ
  rw[hSD]at cH⊢;rcases o with _|⟨z,o⟩
  ·rw[bo]
   dsimp only[HV];refine Aq 400 ?_;refine AF kB ?_;refine⟨trivial,trivial,λF'=>?_⟩;refine AI AZ kB AB AB AB AB AB AB ?_;refine BF.own _ (Lv cH rfl (λi a d h1 h2=>by
    match i with
    | 0=>cases h1;cases h2;exact .refl _ _
    | 1=>cases h1;cases h2;exact .clo1 (.ptr rfl rfl rfl rfl)
    |n+2=>cases h1) AJ (.prim _)) ?_
   rintro d H' n' ⟨rfl,rfl,rfl⟩;cases K
   ·refine AI AZ (Ad a1 a2) AB AB AB AB AB AB ?_
    exact .inl ⟨rfl,⟨[],nn+y.mass,0⟩,⟨BX _,p5,q1⟩,.drop (Hs _)⟩
   ·refine AI AZ (Ad a1 a2) AB AB AB AB AB AB ?_
    exact .inl ⟨rfl,⟨[(nn+1,nn+y.mass)],nn+y.mass,n+1+1+1+1+1+1+1+1+1+1+1+1+1+1+1⟩,⟨by simp,p5,q1⟩,.keep (.drop (Hs _))⟩
  ·have hol:o.length<=1000000:=by rw[Br]at p1;omega
   rw[RR];dsimp only[HV];obtain⟨O,hO⟩:∃O,o.map GV=O:=⟨_,rfl⟩
   obtain⟨zD,hzD⟩:∃O,GV z=O:=⟨_,rfl⟩
   have hOl:O.length=o.length:=by rw[<-hO,Ai]
   rw[hO,hzD];refine Aq 400 ?_;refine AF kB ?_;refine⟨trivial,trivial,λF'=>?_⟩;refine AI AZ kB AB AB AB AB AB AB ?_;refine BF.own _ (Lv cH rfl (λi a d h1 h2=>by
    match i with
    | 0=>cases h1;cases h2;exact .refl _ _
    | 1=>cases h1;cases h2;exact .clo1 (.ptr rfl rfl rfl rfl)
    |n+2=>cases h1) AJ (.prim _)) ?_
   rintro d H' n' ⟨rfl,rfl,rfl⟩;cases K
   ·refine AI AZ (Ad a1 a2) AB AB AB AB AB AB ?_
    refine .inl ⟨rfl,⟨z::o,nn+y.mass,g⟩,⟨Nat.le_succ_of_le p1,by rw[<-p5,AG Bool.false_ne_true,Du],q1⟩,?_⟩;rw[RR,hO,hzD];exact .drop (Hs _)
   ·refine AI AZ (Ad a1 a2) AB AB AB AB AB AB ?_
    rw[show List.take (O.length+1) (zD::O)=zD::O from DJ (l:=zD::O)];refine .inl ⟨rfl,⟨z::o++[(nn+1,nn+y.mass)],nn+y.mass,n+1+1+1+1+1+1+1+1+1+1+1+1+1+1+1⟩,⟨by rw[Be];exact Nat.succ_le_succ p1,p5,q1⟩,?_⟩;have hs:∀g' a,K6 lot 2 3 ⟨z::o++[(nn+1,nn+y.mass)],a,g'⟩=[⟨609,g',105,2,zD::O++[.agg [i64 (nn+1),i64 (nn+y.mass)]]⟩,⟨200,3,3,1,[i64 a]⟩,⟨100,2,103,1,[.osl 609 g' 2 0 (O.length+1+1)]⟩,⟨0,0,9,1,[str (sb lot)]⟩]:=λg' a=>by
     rw[E7,RR,<-hO,<-hzD,DN];rw[Be];rfl
    rw[hs];exact .keep (.drop (Hs _))
 ·rintro j d H' n' F' hE
  rcases hE with⟨rfl,⟨o,nn,g⟩,⟨p1,p2,-⟩,rfl⟩|⟨-,h⟩
  rotate_left
  ·exact h.elim
  dsimp only at p2;rw[List.drop_eq_nil_of_le (by omega)]at p2;have ho2:o=MA lot l 0:=by rw[<-p2];exact(Du o).symm
  rw[<-ho2];rcases o with _|⟨z,o⟩
  ·rw[bo]
   change AC _ _ _ _ _ _ _;refine sR 800 ?_;refine Ag ?_;exact⟨_,.nil 2,AA.out,rfl⟩
  ·have hR:=HQ (H:=K6 lot 2 3 ⟨z::o,nn,g⟩) (Hf:=[]) (k:=609) (g:=g) (T:=105) (sz:=2) (l:=(z::o).map GV) rfl
   have hle:((z::o).map GV).length=(o.map GV).length+1:=rfl;rw[hle]at hR;rw[RR]at hR⊢;change AC _ _ _ _ _ _ _;refine sR 800 ?_;refine Ag ?_;exact⟨_,hR,AA.out,rfl⟩
theorem qE {x:AE}{l:List AE}(h:x.mass=0):Dk (x::l)=Dk l:=by
 unfold Dk;rw[List.filter_cons,AG (by rw[h];decide)]
theorem qD {x:AE}{l r:List AE}(h:Dk l=Dk r):Dk (x::l)=Dk (x::r):=by
 unfold Dk at h⊢;rw[List.filter_cons,List.filter_cons,h]
theorem Zv:∀ {l:List AE},(∀x∈l,0<=x.mass)->Dk (QA l 0)=[]
 | [],_=>rfl
 |x::r,h=>by
  have h1:=h x (B3 ..);show Dk (x.w (min 0 x.mass)::QA r (0-min 0 x.mass))=[];rw[show min 0 x.mass=0 by omega,qE rfl];exact Zv λy hy=>h y (CA _ hy)
theorem yW:∀ {l:List AE} {m:Int},(∀x∈l,0<=x.mass)->0<=m->Dk (Ec l m)=Dk (QA l m)
 | [],_,_,_=>rfl
 |x::r,m,h,hm=>by
  have h1:=h x (B3 ..);have h2:∀y∈r,0<=y.mass:=λy hy=>h y (CA _ hy)
  show Dk (x.w (min x.mass m)::if m-x.mass<=0 then[]else Ec r (m-x.mass))=Dk (x.w (min m x.mass)::QA r (m-min m x.mass));rw[show min x.mass m=min m x.mass by omega];refine qD ?_
  by_cases hz:m-x.mass<=0
  ·rw[AH hz,show m-min m x.mass=0 by omega,Zv h2];rfl
  ·rw[AG hz,show m-min m x.mass=m-x.mass by omega]
   exact yW h2 (by omega)
theorem WK:∀ {l:List AE} {m:Int},(∀x∈l,0<=x.mass/\x.mass<=1000000000/\x.shs.length<=1000000)->0<=m->∀y∈Ec l m,0<=y.mass/\y.mass<=1000000000/\y.shs.length<=1000000
 | [],_,_,_,y,hy=>by cases hy
 |x::r,m,h,hm,y,hy=>by
  obtain⟨h1,h2,h3⟩:=h x (B3 ..);rcases A8.1 hy with rfl|h4
  ·exact⟨by show 0<=min x.mass m;omega,by show min x.mass m<=_;omega,h3⟩
  ·split at h4
   ·cases h4
   ·exact WK (λz hz=>h z (CA _ hz)) (by omega) y h4
theorem VR:∀(l:List AE) (m:Int),(Ec l m).length<=l.length
 | [],_=>An _
 |x::r,m=>by
  show(if m-x.mass<=0 then[]else Ec r (m-x.mass)).length+1<=r.length+1;split
  ·simp
  ·have:=VR r (m-x.mass);omega
theorem dH {a b:Int}(h:Eo [a,b]=0):a=0/\b=0:=by
 have h1:(if a≠0 then a else if b≠0 then b else 0)=0:=h
 by_cases h0:a=0
 ·rw[AG (λq=>q h0)]at h1
  by_cases h2:b=0
  ·exact⟨h0,h2⟩
  ·rw[AH h2]at h1;exact Ak h1 h2
 ·rw[AH h0]at h1;exact Ak h1 h0
theorem gc (l:List AE)(hl:l.length<=1000000):AK C0 34 [Aj false l] (.tup [Aj false (if 64<l.length then[]else l),i64 (if 64<l.length then 5 else 0)]):=by
 refine Af.walk w1 iN rfl λF=>?_
 have el:(((l.map AE.D).length:Nat):Int)=(l.length:Int):=by rw[Ai]
 by_cases h:64<l.length
 ·rw[AH h,AH h]
  have k:decide ((l.length:Int)>64)=true:=Ba;refine AI AZ (Ad el k) AB AB AB AB AB AB ?_;exact⟨_,Hn (.nil 3) (.refl _),AA.out,rfl⟩
 ·rw[AG h,AG h]
  have k:decide ((l.length:Int)>64)=false:=Bg;refine AI AZ (Ad el k) AB AB AB AB AB AB ?_;exact AM rfl AA.out
def L9 (a b:List AE):Int:=Eo [(Bk a:Int),(Bk b:Int)]
def Oi (a b:List AE):Int:=if L9 a b≠0 then L9 a b else if Ab a+Ab b>999999999 then 4 else if 64<(A9 (a++b)).length then 5 else 0
def Td (a b:List AE):List AE:=if Oi a b≠0 then[]else A9 (a++b)
theorem qA (R:List AE)(x:AE):(C7 R x).length<=R.length+1:=by
 unfold C7;split
 ·split
  ·rw[Be,List.length_dropLast,HJ];omega
  ·rw[Be];exact An _
 ·simp
theorem Mf (l:List AE):(A9 l).length<=l.length:=by
 have:∀(l R:List AE),(l.foldl C7 R).length<=R.length+l.length:=λl=>by
  induction l with
  |nil=>exact λ_=>An _
  |cons x l ih=>
   intro R;have h1:=ih (C7 R x);have h2:=qA R x;rw[List.foldl_cons,Br];omega
 have:=this l []
 unfold A9;simpa using this
theorem d9a (a b:List AE)(hla:a.length<=1000000)(hlb:b.length<=1000000)(hfa:∀x∈a,x.few)(hfb:∀x∈b,x.few):AK C0 12 [Aj false a,Aj false b] (.tup [Aj false (Td a b),i64 (Oi a b)]):=by
 refine Af.walk w1 iI rfl λF=>?_
 have cA:=Lj false a (by omega) hfa;have cB:=Lj false b (by omega) hfb;have cF:=LT [(Bk a:Int),(Bk b:Int)] (by simp);have hE:Oi a b=if L9 a b≠0 then L9 a b else if Ab a+Ab b>999999999 then 4 else if 64<(A9 (a++b)).length then 5 else 0:=rfl
 have hL:Td a b=if Oi a b≠0 then[]else A9 (a++b):=rfl
 have hz:=@dH (Bk a:Int) (Bk b:Int);have hJ:L9 a b=Eo [(Bk a:Int),(Bk b:Int)]:=rfl;rw[<-hJ]at cF hz;obtain⟨E,hE0⟩:∃E,L9 a b=E:=⟨_,rfl⟩
 rw[hE0]at cF hE hz
 by_cases h0:E=0
 rotate_left
 ·have k2:(E != 0)=true:=Jd h0
  rw[AH h0]at hE;rw[hE,AH h0]at hL;rw[hL,hE];refine AI AZ k2 cA cB cF AB AB AB ?_;exact⟨_,Hn (.nil 3) (.refl _),AA.out,rfl⟩
 have k2:(E != 0)=false:=by rw[h0];rfl
 rw[AG (λh=>h h0)]at hE;obtain⟨z1,z2⟩:=hz h0;have hpa:Bk a=0:=by omega
 have hpb:Bk b=0:=by omega
 obtain⟨g1,g2,g3⟩:=Dz hpa;obtain⟨f1,f2,f3⟩:=Dz hpb;have g4:=(IX hpa).2.2;have f4:=(IX hpb).2.2;have g5:0<=Ab a:=KI λy hy=>by have:=(g2 y hy).1;omega
 have f5:0<=Ab b:=KI λy hy=>by have:=(f2 y hy).1;omega
 have tA:=Pw false a (by omega);have tB:=Pw false b (by omega);rw[Ix g3]at tA;rw[Ix f3]at tB;have wS:IntKind.i64.wrap (Ab a+Ab b)=Ab a+Ab b:=wI
 by_cases hbig:Ab a+Ab b>999999999
 ·have k3:decide (Ab a+Ab b>999999999)=true:=Ax hbig
  rw[AH hbig]at hE;rw[hE,AH (by decide)]at hL;rw[hL,hE];refine AI AZ (Ar k2 @wS k3) cA cB cF tA tB AB ?_;exact⟨_,Hn (.nil 3) (.refl _),AA.out,rfl⟩
 have k3:decide (Ab a+Ab b>999999999)=false:=Ay hbig;rw[AG hbig]at hE;have hfl:[a,b].flatten=a++b:=by simp
 have cC:=Zu [a,b] (by rw[hfl,Be];omega) (by simp);rw[hfl]at cC;have cN:=UG false (a++b) (by rw[Be];omega) λx hx=>by
  rcases Bl.1 hx with h|h
  ·exact g2 x h
  ·exact f2 x h
 have hln:=Mf (a++b);rw[Be]at hln;have cW:=gc (A9 (a++b)) (by omega);have hLL:Td a b=if 64<(A9 (a++b)).length then[]else A9 (a++b):=by
  rw[hL,hE]
  by_cases h:64<(A9 (a++b)).length
  ·rw[AH h,AH h,AH (by decide)]
  ·rw[AG h,AG h,AG (λh=>h rfl)]
 rw[<-hLL,<-hE]at cW;refine AI AZ (Ar k2 @wS k3) cA cB cF tA tB AB ?_;refine AI AZ (Ar k2 @wS k3) cC cN cW AB AB AB ?_;exact AM rfl AA.out
def Sw:As:=⟨[],0,0,0,[]⟩
def Bz (x:As)(i:Int):List AE:=x.cells.getD i.toNat []
theorem I5 {x:As}(h:Cw x=0):∀c∈x.cells,DY x c=0:=by
 unfold Cw at h
 by_cases h1:Gq x=0
 ·rw[AG (λq=>q h1)]at h
  by_cases h2:Ez x x.cells=0
  ·exact T7 h2
  ·rw[AH h2]at h;exact Ak h h2
 ·rw[AH h1]at h;exact Ak h h1
theorem uH {x:As}{i:Int}(h:Kf x [i]=0):Cw x=0/\0<=i/\i<(x.cells.length:Int):=by
 unfold Kf at h
 by_cases h1:Cw x=0
 ·rw[AG (λq=>q h1)]at h
  refine⟨h1,?_⟩;cases hb:Jz x i
  ·simp[hb]at h
  ·unfold Jz EH at hb
   rw[BY,decide_eq_true_iff,decide_eq_true_iff]at hb;omega
 ·rw[AH h1]at h;exact Ak h h1
structure gt (x:As)(i:Int)(l:List AE):Prop where
 cel:∀c∈x.cells,DY x c=0
 lt:i.toNat<x.cells.length
 ii:i=(i.toNat:Int)
 par:Bk l=0
 at_:x.cells[i.toNat]?=some (Bz x i)
 bin:Cw x=0
theorem jI:∀ {l R:List AE} {k:Nat},OS k R->(∀x∈l,0<=x.mass/\x.mass<=1000000000/\x.shs.length<=1000000)->OS (k+l.length) (l.foldl C7 R)
 | [],_,_,h,_=>h
 |x::l,R,k,h,hx=>by
  have h1:=jI (ZO h (hx x (B3 ..))) λy hy=>hx y (CA _ hy)
  rw[List.foldl_cons,Br,show k+(l.length+1)=k+1+l.length by omega];exact h1
theorem zv {l:List AE}(hx:∀x∈l,0<=x.mass/\x.mass<=1000000000/\x.shs.length<=1000000):(A9 l).length<=l.length/\∀y∈A9 l,0<=y.mass/\y.mass<=(l.length:Int)*1000000000/\y.shs.length<=1000000:=by
 have:=jI (l:=l) (R:=[]) (k:=0) ⟨An _,λy h=>by cases h⟩ hx
 rw[BW]at this;exact this
theorem PI (a b:List AE):Ab (a++b)=Ab a+Ab b:=by
 unfold Ab;rw[DN,List.sum_append]
theorem qC (R:List AE)(x:AE):Ab (C7 R x)=Ab R+x.mass:=by
 unfold C7;split
 ·rename_i y hy
  have hR:R=R.dropLast++[y]:=by
   have hne:R≠[]:=λh=>by rw[h]at hy;cases hy
   have:=List.getLast?_eq_some_getLast hne
   rw[this]at hy;cases hy;exact(List.dropLast_concat_getLast hne).symm
  split
  ·rw[PI]
   conv=>rhs;rw[hR,PI]
   unfold Ab AE.w;simp;omega
  ·rw[PI];unfold Ab;simp
 ·rename_i hy
  have:R=[]:=List.getLast?_eq_none_iff.1 hy
  rw[this];unfold Ab;simp
theorem NY (l:List AE):Ab (A9 l)=Ab l:=by
 have:∀(l R:List AE),Ab (l.foldl C7 R)=Ab R+Ab l:=λl=>by
  induction l with
  |nil=>intro R;unfold Ab;simp
  |cons x l ih=>
   intro R;rw[List.foldl_cons,ih,qC];unfold Ab;simp;omega
 have h:=this l [];rw[show Ab ([]:List AE)=0 from rfl,Int.zero_add]at h;exact h
abbrev Vm:Dr:=[(6,[0,1,2,3,4,5,6,7,8,9],[10,11])]
open Go.Proofs Go.RowKit
set_option maxRecDepth 20000
set_option maxHeartbeats 4000000
theorem oM {l:List AE}(h1:∀x∈l,1<=x.mass/\x.mass<=1000000000/\x.shs.length<=1000000)(h2:l.length<=1000000)(h3:Ab l<=1000000000):JA (A9 l)/\0<=Ab (A9 l)/\Ab (A9 l)=Ab l:=by
 have h0:∀x∈l,0<=x.mass/\x.mass<=1000000000/\x.shs.length<=1000000:=λx hx=>⟨by have:=(h1 x hx).1;omega,(h1 x hx).2⟩
 obtain⟨b1,b2⟩:=zv h0;have b3:=NY l;refine⟨⟨by omega,λy hy=>?_⟩,?_,b3⟩
 ·have hy0:=(b2 y hy).1
  have:y.mass<=Ab (A9 l):=by
   obtain⟨A,B,hAB⟩:=EY hy;rw[hAB,PI,show Ab (y::B)=y.mass+Ab B from rfl];have p1:=KI (l:=A) λz hz=>(b2 z (by rw[hAB];exact HK _ hz)).1
   have p2:=KI (l:=B) λz hz=>(b2 z (by rw[hAB];exact List.mem_append_right _ (CA _ hz))).1
   omega
  omega
 ·exact KI λz hz=>(b2 z hz).1
theorem ZW {x:As}(h:Cw x=0):0<=x.side/\x.side<=999999999/\x.room<=999999999/\x.cells.length<=8:=by
 have h1:Gq x=0:=by
  unfold Cw at h
  by_cases h1:Gq x=0
  ·exact h1
  ·rw[AH h1]at h;exact Ak h h1
 rw[SG]at h1;split at h1
 ·cases h1
 split at h1
 ·cases h1
 rename_i hr;split at h1
 ·cases h1
 split at h1
 ·cases h1
 rename_i hn;unfold Lt at hr;simp only[Kx,Gi,not_or]at hr;obtain⟨⟨⟨⟨-,-⟩,h3⟩,h4⟩,h5⟩:=hr;omega
theorem qS (x:As)(hl:x.cells.length<=1000000)(hc:∀c∈x.cells,c.length<=1000000/\∀y∈c,y.shs.length<=1000000):AK C0 8 [x.D,x.D] (Ap true):=by
 refine Af.walk w1 e0u rfl λF=>?_
 obtain⟨cs,hcs⟩:∃c,x.cells=c:=⟨_,rfl⟩
 have el:(((cs.map (Aj false)).length:Nat):Int)=(cs.length:Int):=by rw[Ai]
 have q0:BE (sb x.flow) (sb x.flow)=true:=by rw[KF];exact Ax rfl
 have q1:(x.core != x.core)=false:=bne_self_eq_false _;have q2:(x.room != x.room)=false:=bne_self_eq_false _;have q3:(x.side != x.side)=false:=bne_self_eq_false _;have q4:((cs.length:Int) != (cs.length:Int))=false:=bne_self_eq_false _;unfold As.D;rw[hcs]at hl hc⊢;refine AI Vm (CY el q0 q1 q2 q3 q4 (Ad kT kF)) AB AB AB AB AB AB ?_;refine AC.loop (α:=Nat×Nat) (λp=>⟨[(2,.optr 0 0 5 0 0),(3,.optr 1 1 5 0 0),(5,i64 (p.1:Int))],[⟨1,1,24,5,[.agg [str (sb x.flow),i64 x.core,i64 x.room,i64 x.side,FQ false cs]]⟩,⟨0,0,24,5,[.agg [str (sb x.flow),i64 x.core,i64 x.room,i64 x.side,FQ false cs]]⟩],p.2⟩) (λp=>cs.length-p.1) (λq=>q.1<=cs.length) (0,_) (BX _) AL ?_;rintro⟨i,n⟩ F hi;dsimp only at hi⊢;rcases BG i cs.length with h2|h2
 rotate_left
 ·have e1:=Cf h2
  have:i=cs.length:=by omega
  subst this;refine AI Vm (Ad e1 el) AB AB AB AB AB AB ?_;exact AM rfl AA.out
 have e1:=Cd h2;have wi:=Cj (i:=i) (by omega);obtain⟨c,hc'⟩:=CQ h2;have hm:(cs.map (Aj false))[i]?=some (.sl false 3 (c.map AE.D)):=by rw[BC,hc'];rfl
 have cc:=hc c (Av hc');have cS:=cU false false c cc.1 cc.2;refine AI Vm (ER e1 el wi kT kF kN) hm cS AB AB AB AB ?_;exact⟨(i+1,_),h2,by dsimp only;omega,AL⟩
theorem Z5:∀ {S T:List Au},Ge S T=true↔S=T
 | [],[]=>by simp[Ge]
 | [],_::_=>by simp[Ge]
 |_::_,[]=>by simp[Ge]
 |s::S,t::T=>by
  show(Ih s t&&Ge S T)=true↔_;rw[BY,Z5 (S:=S) (T:=T)];unfold Ih;rw[BY,KF,KF,decide_eq_true_iff,decide_eq_true_iff];obtain⟨a,b⟩:=s;obtain⟨c,d⟩:=t;simp
theorem qg (x y:AE):GY x y=true↔x.grain=y.grain/\x.shs=y.shs:=by
 unfold GY;rw[BY,KF,decide_eq_true_iff,Z5]
theorem e1i {x y:AE}(hg:x.grain=y.grain)(hs:x.shs=y.shs)(m:Int):x.w m=y.w m:=by unfold AE.w;rw[hg,hs]
theorem w_w (x:AE)(a b:Int):(x.w a).w b=x.w b:=rfl
theorem zU (x:AE):x.w x.mass=x:=rfl
theorem No {x y:AE}:GY x y=true↔∀m,x.w m=y.w m:=by
 rw[qg];constructor
 ·rintro⟨a,b⟩ m;exact e1i a b m
 ·intro h
  have h0:=h 0;unfold AE.w at h0;injection h0 with a b c;exact⟨a,c⟩
def BK (l:List AE):List AE:=l.flatMap λx=>List.replicate x.mass.toNat (x.w 1)
theorem SV:BK []=[]:=rfl
theorem Ho (x:AE)(l:List AE):BK (x::l)=List.replicate x.mass.toNat (x.w 1)++BK l:=rfl
theorem Mn (a b:List AE):BK (a++b)=BK a++BK b:=List.flatMap_append
theorem SW (x:AE):BK [x]=List.replicate x.mass.toNat (x.w 1):=by rw[Ho,SV,Du]
theorem WL:∀l:List AE,BK l.reverse=(BK l).reverse
 | []=>rfl
 |x::l=>by rw[List.reverse_cons,Mn,WL l,SW,Ho,List.reverse_append,List.reverse_replicate]
theorem Mo:∀ {l:List AE},(∀x∈l,0<=x.mass)->((BK l).length:Int)=Ab l
 | [],_=>rfl
 |x::l,h=>by
  have h1:=h x (B3 ..);have h2:=Mo (l:=l) λy hy=>h y (CA _ hy)
  rw[Ho,Be,JN,show Ab (x::l)=x.mass+Ab l from rfl];omega
theorem Pp {l:List AE}:∀y∈BK l,∃x∈l,y=x.w 1/\0<x.mass:=λy hy=>by
 unfold BK at hy;obtain⟨x,hx,h⟩:=List.mem_flatMap.1 hy;obtain⟨h1,h2⟩:=List.mem_replicate.1 h;exact⟨x,hx,h2,by omega⟩
theorem tL {R:List AE}{x:AE}(hR:∀y∈R,0<=y.mass)(hx:0<=x.mass):BK (C7 R x)=BK R++BK [x]:=by
 unfold C7;split
 ·rename_i y hy
  have hR':R=R.dropLast++[y]:=by
   have hne:R≠[]:=λh=>by rw[h]at hy;cases hy
   have:=List.getLast?_eq_some_getLast hne
   rw[this]at hy;cases hy;exact(List.dropLast_concat_getLast hne).symm
  split
  ·rename_i hl
   have e:=No.1 hl 1;have hy0:=hR y (List.mem_of_getLast? hy)
   conv=>rhs;rw[hR']
   rw[Mn,Mn,SW,SW,SW,Dh];show _++List.replicate (y.mass+x.mass).toNat (y.w 1)=_;rw[<-e,List.replicate_append_replicate,show(y.mass+x.mass).toNat=y.mass.toNat+x.mass.toNat by omega]
  ·rw[Mn]
 ·rename_i hy
  rw[List.getLast?_eq_none_iff.1 hy];rfl
theorem tK {R:List AE}{x:AE}(hR:∀y∈R,0<=y.mass)(hx:0<=x.mass):∀y∈C7 R x,0<=y.mass:=by
 unfold C7;split
 ·rename_i z hz
  have hz0:=hR z (List.mem_of_getLast? hz);split
  ·intro y hy
   rcases Bl.1 hy with h|h
   ·exact hR y ((List.dropLast_sublist R).subset h)
   ·obtain rfl:=D4.1 h
    show 0<=z.mass+x.mass;omega
  ·intro y hy
   rcases Bl.1 hy with h|h
   ·exact hR y h
   ·obtain rfl:=D4.1 h;exact hx
 ·intro y hy
  obtain rfl:=D4.1 hy;exact hx
theorem Pj {l:List AE}(h:∀x∈l,0<=x.mass):BK (A9 l)=BK l:=by
 have:∀(l R:List AE),(∀x∈l,0<=x.mass)->(∀y∈R,0<=y.mass)->BK (l.foldl C7 R)=BK R++BK l:=λl=>by
  induction l with
  |nil=>intro R _ _;simp[SV]
  |cons x l ih=>
   intro R hl hR;have hx:=hl x (B3 ..);rw[List.foldl_cons,ih _ (λy hy=>hl y (CA _ hy)) (tK hR hx),tL hR hx,Dh,<-Mn];rfl
 exact this l [] h λy hy=>by cases hy
theorem jJ:∀l:List AE,BK (Dk l)=BK l
 | []=>rfl
 |x::l=>by
  have ih:=jJ l;unfold Dk at ih⊢;rw[List.filter_cons];split
  ·rw[Ho,Ho,ih]
  ·rename_i h
   have h0:x.mass=0:=by simpa using h
   rw[Ho,ih,h0];rfl
theorem oK (R:List AE)(x:AE)(m:Int):C7 (C7 R (x.w m)) (x.w 1)=C7 R (x.w (m+1)):=by
 have key:∀(A:List AE) (z:AE),GY z (x.w 1)=true->C7 (A++[z]) (x.w 1)=A++[z.w (z.mass+1)]:=λA z hz=>by
  unfold C7;rw[List.getLast?_append];show(if GY z (x.w 1)=true then _ else _)=_;rw[AH hz,List.dropLast_concat];rfl
 have hlx:∀a b:Int,GY (x.w a) (x.w b)=true:=λa b=>No.2 λm=>rfl
 cases hR:R.getLast? with
 |none=>
  have:R=[]:=List.getLast?_eq_none_iff.1 hR
  subst this;exact key [] (x.w m) (hlx _ _)
 |some y=>
  have e:∀a:Int,C7 R (x.w a)=if GY y (x.w a)then R.dropLast++[y.w (y.mass+a)]else R++[x.w a]:=λa=>by
   unfold C7;rw[hR];rfl
  have hb:∀a b:Int,GY y (x.w a)=GY y (x.w b):=λa b=>by
   rw[Ft,No,No];exact Iff.rfl
  rw[e m,e (m+1),hb m 1,hb (m+1) 1]
  by_cases h:GY y (x.w 1)=true
  ·rw[AH h,AH h,key _ _ (No.2 λk=>(w_w y _ k).trans (No.1 h k))]
   show _++[y.w (y.mass+m+1)]=_;rw[Int.add_assoc]
  ·rw[AG h,AG h,key _ _ (hlx _ _)];rfl
theorem bn (x:AE):∀(n:Nat) (R:List AE),(List.replicate (n+1) (x.w 1)).foldl C7 R=C7 R (x.w ((n:Int)+1))
 | 0,R=>rfl
 |n+1,R=>by
  rw[List.replicate_succ',List.foldl_append,bn x n R];exact oK R x _
theorem Pi {l:List AE}(h:∀x∈l,1<=x.mass):A9 (BK l)=A9 l:=by
 have:∀(l R:List AE),(∀x∈l,1<=x.mass)->(BK l).foldl C7 R=l.foldl C7 R:=λl=>by
  induction l with
  |nil=>intro R _;rfl
  |cons x l ih=>
   intro R hl;have hx:=hl x (B3 ..);rw[Ho,List.foldl_append,show x.mass.toNat=(x.mass.toNat-1)+1 by omega,bn,List.foldl_cons,ih _ λy hy=>hl y (CA _ hy)];rw[show(((x.mass.toNat-1:Nat):Int)+1)=x.mass by omega,zU]
 exact this l [] h
theorem SL {l:List AE}(h:∀x∈l,0<=x.mass):A9 (Dk l)=A9 (BK l):=by
 rw[<-jJ l];refine(Pi λx hx=>?_).symm;unfold Dk at hx;obtain⟨h1,h2⟩:=List.mem_filter.1 hx
 have:=h x h1
 have:x.mass≠0:=by simpa using h2
 omega
theorem xv {a b:List AE}(ha:∀x∈a,1<=x.mass)(hb:∀x∈b,1<=x.mass)(h:BK a=BK b):A9 a=A9 b:=by rw[<-Pi ha,<-Pi hb,h]
theorem Ww:∀ {l:List AE} {m:Int},(∀x∈l,0<=x.mass)->0<=m->BK (Ec l m)=(BK l).take m.toNat
 | [],m,_,_=>by rw[SV,List.take_nil];rfl
 |x::r,m,h,hm=>by
  have h1:=h x (B3 ..);have h2:∀y∈r,0<=y.mass:=λy hy=>h y (CA _ hy)
  show BK (x.w (min x.mass m)::if m-x.mass<=0 then[]else Ec r (m-x.mass))=_;rw[Ho,Ho,List.take_append,List.take_replicate,JN];show List.replicate (min x.mass m).toNat (x.w 1)++_=_;rw[show(min x.mass m).toNat=min m.toNat x.mass.toNat by omega]
  by_cases hz:m-x.mass<=0
  ·rw[AH hz,show m.toNat-x.mass.toNat=0 by omega];rfl
  ·rw[AG hz,Ww h2 (by omega),show m.toNat-x.mass.toNat=(m-x.mass).toNat by omega]
theorem Wg:∀ {l:List AE} {low left:Int},(∀x∈l,0<=x.mass)->0<=low->0<=left->BK (Fp l low left)=((BK l).drop low.toNat).take left.toNat
 | [],low,left,_,_,_=>by rw[SV,List.drop_nil,List.take_nil];rfl
 |x::r,low,left,h,h0,h5=>by
  have h1:=h x (B3 ..);have h2:∀y∈r,0<=y.mass:=λy hy=>h y (CA _ hy)
  show BK (x.w (min (x.mass-min x.mass low) left)::Fp r (low-min x.mass low) (left-min (x.mass-min x.mass low) left))=_;rw[Ho,Ho,Wg h2 (by omega) (by omega),List.drop_append,List.drop_replicate,JN,List.take_append,List.take_replicate,JN];show List.replicate (min (x.mass-min x.mass low) left).toNat (x.w 1)++_=_;rw[show(min (x.mass-min x.mass low) left).toNat=min left.toNat (x.mass.toNat-low.toNat) by omega,show(low-min x.mass low).toNat=low.toNat-x.mass.toNat by omega,
   show(left-min (x.mass-min x.mass low) left).toNat=left.toNat-(x.mass.toNat-low.toNat) by omega]
open Go.Sort
def Cs (k:List UInt8):BR->Option Rat
 | []=>none
 |p::l=>if p.1=k then some p.2 else Cs k l
def Es (ts Q:BR):BR:=ts.foldl (λacc t=>DZ t.1 t.2 acc) Q
def Kb (l:List AE):BR:=l.flatMap λx=>x.shs.map λs=>(s.lot,Bv s.part*(x.mass:Rat))
theorem Yt (a b Q:BR):Es (a++b) Q=Es b (Es a Q):=List.foldl_append
theorem nX (x:AE)(q:BR):Jq x x.shs.length q=Es (x.shs.map λs=>(s.lot,Bv s.part*(x.mass:Rat))) q:=by
 unfold Jq Es;rw[DJ,List.foldl_map]
theorem Yc (l:List AE):DB l=Es (Kb l) []:=by
 have:∀(l:List AE) (q:BR),l.foldl (λacc x=>Jq x x.shs.length acc) q=Es (Kb l) q:=λl=>by
  induction l with
  |nil=>intro q;rfl
  |cons x l ih=>
   intro q;rw[List.foldl_cons,ih,nX,<-Yt];rfl
 exact this l []
theorem aB {ts:BR}:∀ {Q:BR},EF Q->EF (Es ts Q):=by
 induction ts with
 |nil=>intro Q h;exact h
 |cons t ts ih=>intro Q h;exact ih (Rp h)
theorem NR {k:List UInt8}:∀ {Q:BR},k∉Cv Q->Cs k Q=none
 | [],_=>rfl
 |p::l,h=>by
  unfold Cs;rw[AG (λe=>h (by rw[<-e];exact B3 ..))];exact NR λq=>h (CA _ q)
theorem jX {a b:List UInt8}(h:ltStr a b=true):a≠b:=λe=>by rw[e,swo_ltStr.irrefl]at h;cases h
theorem Zm {a:List UInt8}{r:Rat}{k:List UInt8}:∀ {Q:BR},EF Q->Cs k (DZ a r Q)=if a=k then some ((Cs a Q).getD 0+r)else Cs k Q
 | [],_=>by
  unfold DZ Cs
  by_cases h:a=k
  ·rw[AH h,AH h]
   show some r=some (0+r);rw[Rat.zero_add]
  ·rw[AG h,AG h];rfl
 |p::l,hs=>by
  have hp:=DR.1 hs;unfold DZ
  by_cases h1:ltStr p.1 a=true
  ·rw[AH h1]
   have hpa:p.1≠a:=jX h1;have e1:Cs a (p::l)=Cs a l:=by
    show(if p.1=a then some p.2 else Cs a l)=_;rw[AG hpa]
   show(if p.1=k then some p.2 else Cs k (DZ a r l))=_;rw[Zm hp.2,e1]
   by_cases h2:a=k
   ·rw[AH h2,AH h2,AG (λe=>hpa (e.trans h2.symm))]
   ·rw[AG h2,AG h2];rfl
  ·rw[AG h1]
   by_cases h2:p.1=a
   ·rw[AH h2]
    show(if p.1=k then some (p.2+r)else Cs k l)=if a=k then some ((if p.1=a then some p.2 else Cs a l).getD 0+r)else if p.1=k then some p.2 else Cs k l
    rw[AH h2,h2]
    by_cases h3:a=k
    ·rw[AH h3,AH h3];rfl
    ·rw[AG h3,AG h3,AG h3]
   ·rw[AG h2]
    have h3:ltStr a p.1=true:=by
     cases h9:ltStr a p.1 with
     |true=>rfl
     |false=>exact Ak (Qy (by simpa using h1) h9) h2
    have hn:a∉Cv (p::l):=λq=>by
     rcases A8.1 q with q|q
     ·exact h2 q.symm
     ·obtain⟨z,hz,e⟩:=Bx.1 q
      have:=swo_ltStr.trans _ _ _ h3 (hp.1 z hz)
      rw[e,swo_ltStr.irrefl]at this;cases this
    rw[NR hn];show(if a=k then some r else Cs k (p::l))=_
    by_cases h4:a=k
    ·rw[AH h4,AH h4]
     show some r=some (0+r);rw[Rat.zero_add]
    ·rw[AG h4,AG h4]
def DL (k:List UInt8):BR->Rat
 | []=>0
 |t::ts=>if t.1=k then t.2+DL k ts else DL k ts
def H9 (k:List UInt8)(ts:BR):Bool:=ts.any λt=>decide (t.1=k)
theorem RF {k:List UInt8}:∀ {ts Q:BR},EF Q->Cs k (Es ts Q)=if H9 k ts=true then some ((Cs k Q).getD 0+DL k ts)else Cs k Q
 | [],Q,_=>rfl
 |t::ts,Q,h=>by
  show Cs k (Es ts (DZ t.1 t.2 Q))=_;rw[RF (Rp h),Zm h];show _=if(decide (t.1=k)||H9 k ts)=true then some ((Cs k Q).getD 0+if t.1=k then t.2+DL k ts else DL k ts)else Cs k Q
  by_cases h1:t.1=k
  ·rw[AH h1,AH h1,Ax h1,Bool.true_or,AH rfl,h1]
   by_cases h2:H9 k ts=true
   ·rw[AH h2]
    show some ((Cs k Q).getD 0+t.2+DL k ts)=_;rw[Rat.add_assoc]
   ·rw[AG h2]
    have:DL k ts=0:=by
     have:∀ts:BR,¬H9 k ts=true->DL k ts=0:=λts=>by
      induction ts with
      |nil=>intro _;rfl
      |cons a ts ih=>
       intro hq;unfold H9 at hq;rw[List.any_cons,Kx,not_or,decide_eq_true_iff]at hq;unfold DL;rw[AG hq.1];exact ih hq.2
     exact this ts h2
    rw[this,Rat.add_zero]
  ·rw[AG h1,AG h1,Ay h1,Bool.false_or]
theorem Oy {k:List UInt8}:∀ {Q:BR},EF Q->(H9 k Q=(Cs k Q).isSome/\DL k Q=(Cs k Q).getD 0)
 | [],_=>⟨rfl,rfl⟩
 |p::l,h=>by
  have hp:=DR.1 h;obtain⟨i1,i2⟩:=Oy (k:=k) hp.2;show(decide (p.1=k)||H9 k l)=(if p.1=k then some p.2 else Cs k l).isSome/\(if p.1=k then p.2+DL k l else DL k l)=(if p.1=k then some p.2 else Cs k l).getD 0
  by_cases h1:p.1=k
  ·rw[AH h1,AH h1,Ax h1,Bool.true_or]
   refine⟨rfl,?_⟩
   have:Cs k l=none:=NR λq=>by
    obtain⟨z,hz,e⟩:=Bx.1 q
    have:=hp.1 z hz
    rw[h1,e,swo_ltStr.irrefl]at this;cases this
   rw[i2,this];show p.2+0=p.2;rw[Rat.add_zero]
  ·rw[AG h1,AG h1,Ay h1,Bool.false_or]
   exact⟨i1,i2⟩
theorem Zl:∀ {A B:BR},EF A->EF B->(∀k,Cs k A=Cs k B)->A=B
 | [],[],_,_,_=>rfl
 | [],b::B,_,_,h=>by
  have:=h b.1
  unfold Cs at this;rw[AH rfl]at this;cases this
 |a::A,[],_,_,h=>by
  have:=h a.1
  unfold Cs at this;rw[AH rfl]at this;cases this
 |a::A,b::B,hA,hB,h=>by
  have pA:=DR.1 hA;have pB:=DR.1 hB;have la:∀k,Cs k (a::A)=if a.1=k then some a.2 else Cs k A:=λ_=>rfl
  have lb:∀k,Cs k (b::B)=if b.1=k then some b.2 else Cs k B:=λ_=>rfl
  have mem:∀ {Q:BR} {k:List UInt8} {v:Rat},Cs k Q=some v->k∈Cv Q:=λ{Q k v} hq=>by
   apply DF;intro hn;rw[NR hn]at hq;cases hq
  have hk:a.1=b.1:=by
   apply DF;intro hne;have h1:=h a.1;rw[la,lb,AH rfl,AG (λe=>hne e.symm)]at h1;have h2:=h b.1;rw[la,lb,AH rfl,AG hne]at h2;obtain⟨z,hz,e⟩:=Bx.1 (mem h1.symm);obtain⟨y,hy,e2⟩:=Bx.1 (mem h2);have q1:=pB.1 z hz;have q2:=pA.1 y hy;rw[e]at q1;rw[e2]at q2
   have:=swo_ltStr.trans _ _ _ q1 q2
   rw[swo_ltStr.irrefl]at this;cases this
  have hv:a.2=b.2:=by
   have h1:=h a.1;rw[la,lb,AH rfl,AH hk.symm]at h1;exact FY h1
  have hab:a=b:=Prod.ext hk hv;rw[hab,Zl pA.2 pB.2 λk=>?_];have h1:=h k;rw[la,lb]at h1
  by_cases e:a.1=k
  ·have n1:Cs k A=none:=NR λq=>by
    obtain⟨z,hz,e3⟩:=Bx.1 q
    have:=pA.1 z hz
    rw[e,e3,swo_ltStr.irrefl]at this;cases this
   have n2:Cs k B=none:=NR λq=>by
    obtain⟨z,hz,e3⟩:=Bx.1 q
    have:=pB.1 z hz
    rw[<-hk,e,e3,swo_ltStr.irrefl]at this;cases this
   rw[n1,n2]
  ·rw[AG e,AG (λq=>e (hk.trans q))]at h1
   exact h1
def Gr (k:List UInt8)(x:AE):Rat:=DL k (x.shs.map λs=>(s.lot,Bv s.part))
def Dd (k:List UInt8):List AE->Rat
 | []=>0
 |x::l=>Gr k x*(x.mass:Rat)+Dd k l
def S3 (k:List UInt8)(x:AE):Bool:=x.shs.any λs=>decide (s.lot=k)
def Gf (k:List UInt8)(l:List AE):Bool:=l.any (S3 k)
theorem RS (k:List UInt8):∀a b:BR,DL k (a++b)=DL k a+DL k b
 | [],b=>by rw[FE];show _=0+_;rw[Rat.zero_add]
 |t::a,b=>by
  show(if t.1=k then t.2+DL k (a++b)else DL k (a++b))=(if t.1=k then t.2+DL k a else DL k a)+DL k b;rw[RS k a b];split
  ·rw[Rat.add_assoc]
  ·rfl
theorem Ze (k:List UInt8)(a b:BR):H9 k (a++b)=(H9 k a||H9 k b):=List.any_append
theorem aC (k:List UInt8)(m:Rat):∀l:List Au,DL k (l.map λs=>(s.lot,Bv s.part*m))=DL k (l.map λs=>(s.lot,Bv s.part))*m
 | []=>by show(0:Rat)=0*m;rw[Rat.zero_mul]
 |s::l=>by
  show(if s.lot=k then Bv s.part*m+DL k (l.map λs=>(s.lot,Bv s.part*m))else DL k (l.map λs=>(s.lot,Bv s.part*m)))=(if s.lot=k then Bv s.part+DL k (l.map λs=>(s.lot,Bv s.part))else DL k (l.map λs=>(s.lot,Bv s.part)))*m;rw[aC k m l];split
  ·rw[Rat.add_mul]
  ·rfl
theorem aD (k:List UInt8):∀l:List AE,DL k (Kb l)=Dd k l
 | []=>rfl
 |x::l=>by
  show DL k ((x.shs.map λs=>(s.lot,Bv s.part*(x.mass:Rat)))++Kb l)=_;rw[RS,aC,aD k l];rfl
theorem Zf (k:List UInt8):∀l:List AE,H9 k (Kb l)=Gf k l
 | []=>rfl
 |x::l=>by
  show H9 k ((x.shs.map λs=>(s.lot,Bv s.part*(x.mass:Rat)))++Kb l)=(S3 k x||Gf k l);rw[Ze,Zf k l]
  congr 1
  unfold H9 S3;rw[List.any_map];rfl
theorem UX (k:List UInt8)(l:List AE):Cs k (DB l)=if Gf k l=true then some (Dd k l)else none:=by
 rw[Yc,RF List.Pairwise.nil,Zf,aD];split
 ·show some ((0:Rat)+_)=_
  rw[Rat.zero_add]
 ·rfl
theorem VS (k:List UInt8):∀a b:List AE,Dd k (a++b)=Dd k a+Dd k b
 | [],b=>by rw[FE];show _=0+_;rw[Rat.zero_add]
 |x::a,b=>by
  show Gr k x*(x.mass:Rat)+Dd k (a++b)=Gr k x*(x.mass:Rat)+Dd k a+Dd k b;rw[VS k a b,Rat.add_assoc]
theorem bv (k:List UInt8)(x:AE):∀n:Nat,Dd k (List.replicate n (x.w 1))=Gr k x*((n:Int):Rat)
 | 0=>by show(0:Rat)=Gr k x*((0:Int):Rat);rw[show((0:Int):Rat)=0 from rfl,Rat.mul_zero]
 |n+1=>by
  rw[List.replicate_succ];show Gr k x*((1:Int):Rat)+Dd k (List.replicate n (x.w 1))=_;rw[bv k x n,<-Rat.mul_add,<-Rat.intCast_add,show(1:Int)+(n:Int)=((n+1:Nat):Int) by omega]
theorem SU (k:List UInt8):∀ {l:List AE},(∀x∈l,0<=x.mass)->Dd k (BK l)=Dd k l
 | [],_=>rfl
 |x::l,h=>by
  have hx:=h x (B3 ..);rw[Ho,VS,bv,SU k λy hy=>h y (CA _ hy),Int.toNat_of_nonneg hx];rfl
theorem VH (k:List UInt8){l:List AE}(h:∀x∈l,1<=x.mass):Gf k (BK l)=Gf k l:=by
 rw[Ft];unfold Gf;rw[List.any_eq_true,List.any_eq_true];constructor
 ·rintro⟨y,hy,e⟩
  obtain⟨z,hz,rfl,_⟩:=Pp y hy;exact⟨z,hz,e⟩
 ·rintro⟨y,hy,e⟩
  refine⟨y.w 1,?_,e⟩;unfold BK;exact List.mem_flatMap.2 ⟨y,hy,List.mem_replicate.2 ⟨by have:=h y hy;omega,rfl⟩⟩
theorem rE (k:List UInt8){a b:List AE}(h:a.Perm b):Dd k a=Dd k b:=by
 induction h with
 |nil=>rfl
 |cons x _ ih=>show _+_=_+_;rw[ih]
 |swap x y l=>
  show Gr k y*(y.mass:Rat)+(Gr k x*(x.mass:Rat)+Dd k l)=Gr k x*(x.mass:Rat)+(Gr k y*(y.mass:Rat)+Dd k l);rw[<-Rat.add_assoc,<-Rat.add_assoc,Rat.add_comm (Gr k y*(y.mass:Rat))]
 |trans _ _ i1 i2=>exact i1.trans i2
theorem nV (k:List UInt8){a b:List AE}(h:a.Perm b):Gf k a=Gf k b:=by
 rw[Ft];unfold Gf;rw[List.any_eq_true,List.any_eq_true];exact⟨λ⟨y,hy,e⟩=>⟨y,h.mem_iff.1 hy,e⟩,λ⟨y,hy,e⟩=>⟨y,h.mem_iff.2 hy,e⟩⟩
theorem ql {c A B:List AE}(hc:∀x∈c,1<=x.mass)(hA:∀x∈A,1<=x.mass)(hB:∀x∈B,1<=x.mass)(h:(BK A++BK B).Perm (BK c)):Es (DB A++DB B) []=DB c:=by
 have n0:∀ {l:List AE},(∀x∈l,1<=x.mass)->∀x∈l,0<=x.mass:=λh x hx=>by have:=h x hx;omega
 refine Zl (aB List.Pairwise.nil) (MZ c) λk=>?_
 have e1:=Oy (k:=k) (MZ A);have e2:=Oy (k:=k) (MZ B);rw[UX]at e1 e2;have ht:Dd k c=Dd k A+Dd k B:=by
  rw[<-SU k (n0 hc),<-rE k h,VS,SU k (n0 hA),SU k (n0 hB)]
 have hh:Gf k c=(Gf k A||Gf k B):=by
  rw[<-VH k hc,<-nV k h,<-VH k hA,<-VH k hB];exact List.any_append
 have hz:∀ {l:List AE},Gf k l=false->Dd k l=0:=λ{l}=>by
  induction l with
  |nil=>intro _;rfl
  |cons x l ih=>
   intro hq;have hq':(S3 k x||Gf k l)=false:=hq;rw[Hd]at hq';show Gr k x*(x.mass:Rat)+Dd k l=0;have hw:Gr k x=0:=by
    unfold Gr
    have:∀L:List Au,(L.any λs=>decide (s.lot=k))=false->DL k (L.map λs=>(s.lot,Bv s.part))=0:=λL=>by
     induction L with
     |nil=>intro _;rfl
     |cons s L ih2=>
      intro hs;rw[List.any_cons,Hd,Hc]at hs;show(if s.lot=k then _ else _)=_;rw[AG hs.1];exact ih2 hs.2
    exact this x.shs hq'.1
   rw[hw,ih hq'.2,Rat.zero_mul,Rat.zero_add]
 rw[RF List.Pairwise.nil,Ze,RS,e1.1,e1.2,e2.1,e2.2,UX,ht,hh];cases ha:Gf k A<;>cases hb:Gf k B
 ·rfl
 ·rw[hz ha]
  show some ((0:Rat)+(0+Dd k B))=some (0+Dd k B);rw[Rat.zero_add]
 ·rw[hz hb]
  show some ((0:Rat)+(Dd k A+0))=some (Dd k A+0);rw[Rat.zero_add]
 ·show some ((0:Rat)+(Dd k A+Dd k B))=some (Dd k A+Dd k B)
  rw[Rat.zero_add]
def GO (bot:Nat->Bool)(n:Nat):Nat->Nat
 | 0=>0
 |j+1=>GO bot n j+if bot (n-j)then 1 else 0
theorem SK (bot:Nat->Bool)(n j:Nat):GO bot n (j+1)=GO bot n j+if bot (n-j)then 1 else 0:=rfl
theorem b9 (bot:Nat->Bool)(n:Nat):∀j,GO bot n j<=j
 | 0=>An _
 |j+1=>by have:=b9 bot n j;unfold GO;split<;>omega
theorem Zp {bot:Nat->Bool}{n:Nat}(hb:∀k,bot k=true):∀j,GO bot n j=j
 | 0=>rfl
 |j+1=>by rw[SK,Zp hb j,AH (hb _)]
theorem Zo {bot:Nat->Bool}{n c:Nat}(hc:0<c)(hb:∀k,bot k=decide (k%c=0)):∀j,j<=n->GO bot n j=n/c-(n-j)/c
 | 0,_=>by show 0=n/c-(n-0)/c;rw[Nat.sub_zero,Nat.sub_self]
 |j+1,h=>by
  rw[SK,Zo hc hb j (by omega),hb];have h1:(n-j)/c<=n/c:=Nat.div_le_div_right (by omega);have e:n-j=(n-(j+1))+1:=by omega
  have h2:=Nat.succ_div (a:=n-(j+1)) (b:=c);rw[show n-(j+1)+1=n-j by omega]at h2
  by_cases hd:c ∣ n-j
  ·rw[AH hd]at h2
   rw[AH (Ax (Nat.mod_eq_zero_of_dvd hd))];omega
  ·rw[AG hd]at h2
   rw[AG (λq=>hd (Nat.dvd_of_mod_eq_zero (DP q)))];omega
def Ki (x:As)(k:Nat):Bool:=BE (sb x.flow) E3||decide (k%x.core.toNat=0)
def R4 (x:As):Prop:=BE (sb x.flow) E3=true\/2<=x.core/\x.core<=999999999
abbrev al:Dr:=[(3,[0,1,2,3,4,5,6,7,8,9],[10,11])]
open Go.Proofs Go.RowKit
set_option maxRecDepth 20000
set_option maxHeartbeats 4000000
theorem yP {x:As}{n m:Nat}(hm:m<=n)(hf:BE (sb x.flow) E3=false)(hc:2<=x.core):GO (Ki x) n m=n/x.core.toNat-(n-m)/x.core.toNat:=by
 refine Zo (by omega) (λk=>?_) m hm;unfold Ki;rw[hf,Bool.false_or]
theorem ba {x:As}{n m:Nat}(hf:BE (sb x.flow) E3=true):GO (Ki x) n m=m:=by
 refine Zp (λk=>?_) m;unfold Ki;rw[hf,Bool.true_or]
def Qn (bk:Bool)(l:List AE):List AE:=if bk then(BK l).reverse else BK l
theorem y5 (bk:Bool)(l:List AE):BK (Gg bk l)=Qn bk l:=by
 unfold Gg Qn;cases bk
 ·rfl
 ·exact WL l
theorem sT (x:As)(n m:Nat)(hm:m<=n)(hn:n<=1000000000)(hf:R4 x):AK C0 31 [x.D,i64 (n:Int),i64 (m:Int)] (i64 ((GO (Ki x) n m:Nat):Int)):=by
 refine Af.walk w1 jB rfl λF=>?_
 have ho:=@yP x n m hm;have ho':=@ba x n m;unfold R4 at hf;obtain⟨A,hA⟩:∃A,GO (Ki x) n m=A:=⟨_,rfl⟩
 rw[hA]at ho ho'⊢;unfold E3 at ho ho' hf;unfold As.D;cases hq:BE (sb x.flow) ⟨#[109,97,115,115]⟩
 rotate_left
 ·rw[ho' hq]
  refine AI al (Ar hq kT kF) AB AB AB AB AB AB ?_;exact AM rfl AA.out
 obtain⟨h2,h3⟩:2<=x.core/\x.core<=999999999:=by
  rcases hf with h|h
  ·rw[hq]at h;cases h
  ·exact h
 have ho:=ho hq h2;obtain⟨c,hc⟩:∃c:Nat,x.core=(c:Int):=⟨x.core.toNat,by omega⟩
 rw[hc]at h2 h3 ho⊢;rw[Gk]at ho;have q0:((c:Int)==0)=false:=B5.2 (by omega);have e2:IntKind.i64.wrap ((n:Int)-(m:Int))=((n-m:Nat):Int):=by rw[wI];omega
 have l1:n/c<=n:=GP _ _;have l2:(n-m)/c<=n-m:=GP _ _;have l3:(n-m)/c<=n/c:=Nat.div_le_div_right (by omega);have q1:((n:Int)).tdiv (c:Int)=((n/c:Nat):Int):=rfl;have q2:(((n-m:Nat):Int)).tdiv (c:Int)=(((n-m)/c:Nat):Int):=rfl;obtain⟨D1,hD1⟩:∃q,n/c=q:=⟨_,rfl⟩
 obtain⟨D2,hD2⟩:∃q,(n-m)/c=q:=⟨_,rfl⟩
 rw[hD1]at l1 l3 q1 ho;rw[hD2]at l2 l3 q2 ho;clear hD1 hD2;have q3:IntKind.i64.wrap ((D1:Nat):Int)=(D1:Int):=wI;have q4:IntKind.i64.wrap ((D2:Nat):Int)=(D2:Int):=wI;have q5:IntKind.i64.wrap ((D1:Int)-(D2:Int))=(A:Int):=by rw[wI];omega
 refine AI al (CY hq e2 q1 q2 q3 q4 (Ar q5 kT kF)) AB AB AB AB AB AB ?_;exact AM rfl AA.out
theorem j9 (b bk:Bool)(l:List AE)(m:Nat)(hl:l.length<=1000000)(hm:m<=1000000000)(hx:∀x∈l,0<=x.mass/\x.mass<=1000000000/\x.shs.length<=1000000):AK C0 37 [Aj b l,i64 (m:Int),Ap bk] (Aj false (A9 ((Qn bk l).take m))):=by
 refine Af.walk w1 iP rfl λF=>?_
 have hxo:∀x∈Gg bk l,0<=x.mass/\x.mass<=1000000000/\x.shs.length<=1000000:=λx q=>hx x (by
  unfold Gg at q;cases bk
  ·exact q
  ·exact List.mem_reverse.1 q)
 have hol:(Gg bk l).length=l.length:=by
  unfold Gg;cases bk
  ·rfl
  ·exact List.length_reverse
 have ho:∀x∈l,∀m,AK C0 64 [x.D,i64 m] (x.w m).D:=λx q m=>Pk x m (hx x q).2.2
 have cA:=Vi b bk l (m:Int) hl ⟨by omega,by omega⟩ (λx q=>⟨(hx x q).1,(hx x q).2.1⟩) ho _ (Uv false (Ec (Gg bk l) (m:Int)) (by
  have:=VR (Gg bk l) (m:Int)
  omega) (WK hxo (by omega)))
 rw[SL λx q=>(WK hxo (by omega) x q).1,Ww (λx q=>(hxo x q).1) (by omega),y5,Gk]at cA
 by_cases h0:m=0
 ·subst h0
  have k1:(((0:Nat):Int)==0)=true:=rfl;refine AI AZ k1 AB AB AB AB AB AB ?_;rw[Lx];exact⟨_,.nil 3,AA.out,rfl⟩
 ·have k1:((m:Int)==0)=false:=B5.2 (by omega)
  refine AI AZ k1 cA AB AB AB AB AB ?_;exact AM rfl AA.out
def jg (ls:List Int)(i:Nat)(f:Int->Int):List Int:=if 1<=i then[f (ls.getD (i-1) 0)]else[]
def W3 (ls:List Int)(i:Nat)(f:Int->Int):List Int:=jg ls i f++if i+1<ls.length then[f (ls.getD (i+1) 0)]else[]
theorem Pa {l:List Int}{i:Nat}(h:i<l.length):l[i]?=some (l.getD i 0):=by rw[EM,By h];rfl
theorem Pr {x:As}(h:Cw x=0):CN x=x.cells.map Ab/\∀v∈CN x,0<=v/\v<=999999999/\v<=x.room:=by
 have hc:=I5 h;have e:CN x=x.cells.map Ab:=L3 λc hq=>Ix (Gz (hc c hq)).2.2.1
 refine⟨e,λv hv=>?_⟩;rw[e]at hv;obtain⟨c,hq,rfl⟩:=Bx.1 hv;obtain⟨-,-,-,a,b,d⟩:=Gz (hc c hq);exact⟨a,b,d⟩
def Wq (side:Int)(ls:List Int)(i:Nat):Int:=(W3 ls i λn=>ls.getD i 0-n+side).foldl min (ls.getD i 0)
theorem Vf {side:Int}{l:List Int}(hs:0<=side/\side<=1000000000)(hl:∀v∈l,0<=v/\v<=1000000000):EG side l=false↔∀k,k+1<l.length->l.getD (k+1) 0-l.getD k 0<=side/\l.getD k 0-l.getD (k+1) 0<=side:=by
 have hv:∀k,k<l.length->0<=l.getD k 0/\l.getD k 0<=1000000000:=λk hk=>hl _ (Av (Pa hk))
 have hw:∀k,k+1<l.length->(EH (IntKind.i64.wrap (l.getD (k+1) 0-l.getD k 0)) (IntKind.i64.wrap (0-side)) side=true↔l.getD (k+1) 0-l.getD k 0<=side/\l.getD k 0-l.getD (k+1) 0<=side):=λk hk=>by
  have h1:=hv k (by omega);have h2:=hv (k+1) hk;rw[wI,wI];unfold EH;rw[BY,decide_eq_true_iff,decide_eq_true_iff];omega
 constructor
 ·intro h k hk
  apply(hw k hk).1;cases hb:EH (IntKind.i64.wrap (l.getD (k+1) 0-l.getD k 0)) (IntKind.i64.wrap (0-side)) side
  ·rw[WH hk hb]at h;cases h
  ·rfl
 ·intro h
  exact WI λk hk=>(hw k hk).2 (h k hk)
theorem bK {m:Int}:∀ {L:List Int} {a:Int},m<=L.foldl min a↔m<=a/\∀v∈L,m<=v
 | [],a=>by simp
 |x::L,a=>by
  rw[List.foldl_cons,bK (L:=L)];constructor
  ·rintro⟨h1,h2⟩
   exact⟨by omega,λv hv=>(A8.1 hv).elim (λe=>by omega) (h2 v)⟩
  ·rintro⟨h1,h2⟩
   have:=h2 x (B3 ..)
   exact⟨by omega,λv hv=>h2 v (CA _ hv)⟩
theorem ro {ls:List Int}{i:Nat}{f:Int->Int}{m:Int}:(∀v∈W3 ls i f,m<=v)↔(1<=i->m<=f (ls.getD (i-1) 0))/\(i+1<ls.length->m<=f (ls.getD (i+1) 0)):=by
 unfold W3 jg;constructor
 ·intro h
  refine⟨λh1=>h _ (HK _ (by rw[AH h1];exact D4.2 rfl)),λh1=>h _ (List.mem_append_right _ (by rw[AH h1];exact D4.2 rfl))⟩
 ·rintro⟨h1,h2⟩ v hv
  rcases Bl.1 hv with hv|hv
  ·by_cases hi:1<=i
   ·rw[AH hi]at hv
    obtain rfl:=D4.1 hv;exact h1 hi
   ·rw[AG hi]at hv;cases hv
  ·by_cases hi:i+1<ls.length
   ·rw[AH hi]at hv
    obtain rfl:=D4.1 hv;exact h2 hi
   ·rw[AG hi]at hv;cases hv
theorem NX {l:List Int}{i k:Nat}{v:Int}(hi:i<l.length):(l.set i v).getD k 0=if k=i then v else l.getD k 0:=by
 rw[EM,EM,List.getElem?_set]
 by_cases h:k=i
 ·subst h;rw[AH rfl,AH hi,AH rfl];rfl
 ·rw[AG (λq=>h q.symm),AG h]
theorem tg {side:Int}{ls:List Int}{i:Nat}{m:Int}(hs:0<=side/\side<=1000000000)(hl:∀v∈ls,0<=v/\v<=1000000000)(hi:i<ls.length)(h0:EG side ls=false)(hm:0<=m/\m<=ls.getD i 0):
  EG side (ls.set i (ls.getD i 0-m))=false↔m<=Wq side ls i:=by
 have hv:=hl _ (Av (Pa hi));have hl2:∀v∈ls.set i (ls.getD i 0-m),0<=v/\v<=1000000000:=λv hq=>by
  rcases OZ hq with hq|hq
  ·exact hl v hq
  ·omega
 have h1:=(Vf hs hl).1 h0;rw[Vf hs hl2,Dj];unfold Wq;rw[bK,ro];constructor
 ·intro h
  refine⟨hm.2,λhi1=>?_,λhi1=>?_⟩
  ·have:=h (i-1) (by omega)
   rw[NX hi,NX hi,show i-1+1=i by omega,AH rfl,CI]at this;omega
  ·have:=h i hi1
   rw[NX hi,NX hi,AH rfl,CI]at this;omega
 ·rintro⟨g1,g2,g3⟩ k hk
  have h2:=h1 k hk;rw[NX hi,NX hi]
  by_cases c1:k+1=i
  ·rw[AH c1,CI]
   have:=g2 (by omega)
   rw[show i-1=k by omega]at this;rw[c1]at h2;omega
  ·rw[AG c1]
   by_cases c2:k=i
   ·rw[AH c2]
    subst c2
    have:=g3 hk
    omega
   ·rw[AG c2];exact h2
def DD (x:As)(c:List AE)(m:Nat):Nat:=GO (Ki x) (BK c).length m
def Cc (x:As)(c:List AE)(m:Nat):List AE:=((BK c).drop (DD x c m)).take ((BK c).length-m)
def DK (x:As)(c:List AE)(m:Nat):List AE:=(BK c).reverse.take (m-DD x c m)++(BK c).take (DD x c m)
theorem PS (x:As)(c:List AE)(m:Nat):DD x c m<=m:=b9 _ _ _
theorem NT {x:As}{c:List AE}{m:Nat}:∀y∈Cc x c m,y∈BK c:=λy hy=>Kv (E8 hy)
theorem LH {x:As}{c:List AE}{m:Nat}:∀y∈DK x c m,y∈BK c:=λy hy=>by
 rcases Bl.1 hy with h|h
 ·exact List.mem_reverse.1 (E8 h)
 ·exact E8 h
theorem NS {x:As}{c:List AE}{m:Nat}(h:m<=(BK c).length):(Cc x c m).length=(BK c).length-m:=by
 have:=PS x c m
 unfold Cc;rw[Bc,Dv];omega
theorem qX {x:As}{c:List AE}{m:Nat}(h:m<=(BK c).length):(DK x c m).length=m:=by
 have:=PS x c m
 unfold DK;rw[Be,Bc,Bc,List.length_reverse];omega
def GT (l:List AE)(y:AE):Prop:=∃z∈l,y.grain=z.grain/\y.shs=z.shs
theorem Ma {l:List AE}:∀y∈A9 l,GT l y:=by
 have:∀(l R A:List AE),(∀y∈R,GT A y)->∀y∈l.foldl C7 R,GT (A++l) y:=λl=>by
  induction l with
  |nil=>intro R A h y hy;rw[Du];exact h y hy
  |cons x l ih=>
   intro R A h y hy;rw[List.foldl_cons]at hy
   have:=ih (C7 R x) (A++[x]) (λz hz=>by
    unfold C7 at hz;split at hz
    ·rename_i w hw
     split at hz
     ·rcases Bl.1 hz with hz|hz
      ·obtain⟨q,hq,e⟩:=h z ((List.dropLast_sublist R).subset hz)
       exact⟨q,HK _ hq,e⟩
      ·obtain rfl:=D4.1 hz
       obtain⟨q,hq,e⟩:=h w (List.mem_of_getLast? hw);exact⟨q,HK _ hq,e⟩
     ·rcases Bl.1 hz with hz|hz
      ·obtain⟨q,hq,e⟩:=h z hz
       exact⟨q,HK _ hq,e⟩
      ·obtain rfl:=D4.1 hz
       exact⟨z,List.mem_append_right _ (D4.2 rfl),rfl,rfl⟩
    ·obtain rfl:=D4.1 hz
     exact⟨z,List.mem_append_right _ (D4.2 rfl),rfl,rfl⟩) y hy
   rw[Dh]at this;exact this
 intro y hy
 have:=this l [] [] (λy hy=>by cases hy) y hy
 rwa [FE]at this
theorem Pc {l:List AE}:∀y∈BK l,GT l y:=λy hy=>by
 obtain⟨z,hz,rfl,_⟩:=Pp y hy;exact⟨z,hz,rfl,rfl⟩
theorem GT.trans {l L:List AE}{y:AE}(h:GT L y)(hL:∀z∈L,GT l z):GT l y:=by
 obtain⟨z,hz,e1,e2⟩:=h;obtain⟨q,hq,e3,e4⟩:=hL z hz;exact⟨q,hq,e1.trans e3,e2.trans e4⟩
theorem Jf {l:List AE}(h:∀x∈l,1<=x.mass):∀y∈A9 l,1<=y.mass:=by
 have:∀(l R:List AE),(∀x∈l,1<=x.mass)->(∀y∈R,1<=y.mass)->∀y∈l.foldl C7 R,1<=y.mass:=λl=>by
  induction l with
  |nil=>intro R _ h;exact h
  |cons x l ih=>
   intro R hl hR;rw[List.foldl_cons];refine ih _ (λy hy=>hl y (CA _ hy)) λz hz=>?_
   have hx:=hl x (B3 ..);unfold C7 at hz;split at hz
   ·rename_i w hw
    split at hz
    ·rcases Bl.1 hz with hz|hz
     ·exact hR z ((List.dropLast_sublist R).subset hz)
     ·obtain rfl:=D4.1 hz
      have:=hR w (List.mem_of_getLast? hw)
      show 1<=w.mass+x.mass;omega
    ·rcases Bl.1 hz with hz|hz
     ·exact hR z hz
     ·obtain rfl:=D4.1 hz;exact hx
   ·obtain rfl:=D4.1 hz;exact hx
 exact this l [] h λy hy=>by cases hy
theorem Xx {l:List AE}(h:∀x∈l,0<=x.mass){y:AE}(hy:y∈l):y.mass<=Ab l:=by
 obtain⟨A,B,rfl⟩:=EY hy;rw[PI,show Ab (y::B)=y.mass+Ab B from rfl];have p1:=KI (l:=A) λz hz=>h z (HK _ hz)
 have p2:=KI (l:=B) λz hz=>h z (List.mem_append_right _ (CA _ hz))
 omega
theorem mA {y z:AE}(h:Cn z=0)(e1:y.grain=z.grain)(e2:y.shs=z.shs)(hm:1<=y.mass/\y.mass<=999999999):Cn y=0:=by
 unfold Cn at h⊢;rw[e1,e2];split at h
 ·cases h
 ·split at h
  ·cases h
  ·rw[AG (by assumption),CI];exact h
theorem aM {l L:List AE}(h:Bk l=0)(hk:∀y∈L,GT l y)(hn:L.length<=64)(hm:∀y∈L,1<=y.mass)(hs:Ab L<=999999999):Bk L=0:=by
 obtain⟨h1,h2,h3⟩:=IX h;have h0:∀y∈L,0<=y.mass:=λy hy=>by have:=hm y hy;omega
 unfold Bk;rw[CI,MN (λj hj=>?_),AG (by decide),CI];have hj2:CV L j∈L:=by
  unfold CV;rw[EM,By hj];exact List.getElem_mem hj
 obtain⟨z,hz,e1,e2⟩:=hk _ hj2
 have:=Xx h0 hj2
 exact mA (h2 z hz) e1 e2 ⟨hm _ hj2,by omega⟩
theorem mM {l:List AE}(h:CX l=true):∀x∈l,∀y∈l,x.grain=y.grain:=λx hx y hy=>by
 unfold CX at h;rw[CW]at h;have h1:=h x hx;have h2:=h y hy;rw[KF,decide_eq_true_iff]at h1 h2;rw[h1,h2]
theorem o4 {l:List AE}(h:∀x∈l,∀y∈l,x.grain=y.grain):CX l=true:=by
 unfold CX;rw[CW];intro x hx;rw[KF,decide_eq_true_iff];refine h x hx _ ?_;unfold CV;cases l with
 |nil=>cases hx
 |cons a l=>exact B3 ..
theorem qr {l L:List AE}(h:CX l=true)(hk:∀y∈L,GT l y):CX L=true:=o4 λx hx y hy=>by
 obtain⟨a,ha,e1,_⟩:=hk x hx;obtain⟨b,hb,e2,_⟩:=hk y hy;rw[e1,e2];exact mM h a ha b hb
theorem ZZ {x:As}{c L:List AE}(h:DY x c=0)(hk:∀y∈L,GT c y)(hn:L.length<=64)(hm:∀y∈L,1<=y.mass)(hs:Ab L<=Ab c):DY x L=0:=by
 obtain⟨h1,h2,h3,h4,h5,h6⟩:=Gz h;exact Za (aM h1 hk hn hm (by omega)) (qr h2 hk) (by omega)
theorem nO {x y:As}(hr:y.room=x.room)(c:List AE):DY y c=DY x c:=by unfold DY;rw[hr]
theorem Zb {x:As}:∀ {l:List (List AE)},(∀c∈l,DY x c=0)->Ez x l=0
 | [],_=>rfl
 |c::l,h=>by
  show(if DY x c≠0 then DY x c else Ez x l)=0;rw[AG (λq=>q (h c (B3 ..)))];exact Zb λd hd=>h d (CA _ hd)
theorem yK {x y:As}(h1:y.flow=x.flow)(h2:y.core=x.core)(h3:y.room=x.room)(h4:y.side=x.side)(h5:y.cells.length=x.cells.length):Gq y=Gq x:=by
 unfold Gq M3 Ll Sj;rw[h1,h2,h3,h4,h5]
theorem R8 {x:As}(h:Cw x=0):Gq x=0/\EG x.side (CN x)=false:=by
 unfold Cw at h
 by_cases h1:Gq x=0
 ·rw[AG (λq=>q h1)]at h
  by_cases h2:Ez x x.cells=0
  ·rw[AG (λq=>q h2)]at h
   refine⟨h1,?_⟩;cases hb:EG x.side (CN x)
   ·rfl
   ·rw[hb]at h;cases h
  ·rw[AH h2]at h;exact Ak h h2
 ·rw[AH h1]at h;exact Ak h h1
theorem uc {x y:As}(h:Cw x=0)(h1:y.flow=x.flow)(h2:y.core=x.core)(h3:y.room=x.room)(h4:y.side=x.side)(h5:y.cells.length=x.cells.length)(hc:∀c∈y.cells,DY x c=0)(hs:EG x.side (CN y)=false):Cw y=0:=by
 unfold Cw;rw[yK h1 h2 h3 h4 h5,(R8 h).1,AG (λq=>q rfl),Zb (λc hq=>(nO h3 c).trans (hc c hq)),AG (λq=>q rfl),h4,hs];rfl
theorem rV {x:As}(h:Cw x=0):R4 x:=by
 have h1:=(R8 h).1;rw[SG]at h1;split at h1
 ·cases h1
 rename_i hf;split at h1
 ·cases h1
 rename_i hr;unfold Lt at hr;unfold R4;cases hm:BE (sb x.flow) E3
 ·rw[hm]at hf hr
  cases hu:BE (sb x.flow) IP
  ·rw[hu]at hf;exact Ak rfl hf
  ·rw[hu]at hr
   simp only[ID,HF,Bool.false_or,Kx,Gi,not_or]at hr;exact .inr (by omega)
 ·exact .inl rfl
theorem Vd {x:As}{c:List AE}{m:Nat}(hc:∀y∈c,1<=y.mass)(hm:m<=(BK c).length):(∀y∈A9 (Cc x c m),GT c y)/\(∀y∈A9 (Cc x c m),1<=y.mass)/\Ab (A9 (Cc x c m))=Ab c-m:=by
 have hu:∀y∈Cc x c m,1<=y.mass:=λy hy=>by
  obtain⟨z,hz,rfl,_⟩:=Pp y (NT y hy);exact Int.le_refl _
 refine⟨λy hy=>(Ma y hy).trans λz hz=>Pc z (NT z hz),Jf hu,?_⟩;have h0:∀y∈c,0<=y.mass:=λy hy=>by have:=hc y hy;omega
 rw[NY,<-Mo h0];have h1:Ab (Cc x c m)=((Cc x c m).length:Int):=by
  have:∀L:List AE,(∀y∈L,y.mass=1)->Ab L=(L.length:Int):=λL=>by
   induction L with
   |nil=>intro _;rfl
   |cons a L ih=>
    intro h;rw[show Ab (a::L)=a.mass+Ab L from rfl,h a (B3 ..),ih λy hy=>h y (CA _ hy),Br];omega
  exact this _ λy hy=>by
   obtain⟨z,hz,rfl,_⟩:=Pp y (NT y hy);rfl
 rw[h1,NS hm];omega
def HU (x:As)(i m:Int):Int:=Eo [Kf x [i],if decide (m<0)then 3 else 0]
def BV (x:As)(i m:Int):As:=D6 x i.toNat (A9 (Cc x (Bz x i) m.toNat))
def B1 (x:As)(i m:Int):List AE:=A9 (DK x (Bz x i) m.toNat)
def KW (x:As)(i m:Int):Int:=if EG x.side (CN (BV x i m))then 17 else if 64<(B1 x i m).length then 5 else 0
def Fi (x:As)(i m:Int):Int:=if HU x i m≠0 then HU x i m else if Ab (Bz x i)<m then 13 else KW x i m
def W5 (x:As)(i m:Int):As:=if Fi x i m≠0 then Sw else BV x i m
def W6 (x:As)(i m:Int):List AE:=if Fi x i m≠0 then[]else B1 x i m
theorem VY {P Q:List AE}(hP:∀y∈P,1<=y.mass)(hQ:∀y∈Q,1<=y.mass):A9 (A9 P++A9 Q)=A9 (P++Q):=by
 have h0:∀L:List AE,(∀y∈L,1<=y.mass)->∀y∈L,0<=y.mass:=λL h y hy=>by have:=h y hy;omega
 refine xv (λy hy=>?_) (λy hy=>?_) ?_
 ·rcases Bl.1 hy with h|h
  ·exact Jf hP y h
  ·exact Jf hQ y h
 ·rcases Bl.1 hy with h|h
  ·exact hP y h
  ·exact hQ y h
 ·rw[Mn,Mn,Pj (h0 P hP),Pj (h0 Q hQ)]
structure zY (x:As)(i m:Int)(c:List AE)(n k:Nat):Prop where
 cel:∀c∈x.cells,DY x c=0
 bin:Cw x=0
 lt:i.toNat<x.cells.length
 ii:i=(i.toNat:Int)
 at_:x.cells[i.toNat]?=some c
 mm:m=(k:Int)
 nn:(n:Int)=Ab c
 un:(BK c).length=n
 par:Bk c=0
theorem KM {x:As}{i m:Int}(h:HU x i m=0):zY x i m (Bz x i) (BK (Bz x i)).length m.toNat:=by
 obtain⟨h1,h2⟩:=dH h;obtain⟨g1,g2,g3⟩:=uH h1;have hlt:i.toNat<x.cells.length:=by omega
 have hat:x.cells[i.toNat]?=some (Bz x i):=by
  unfold Bz;rw[EM,By hlt];rfl
 have hp:=(Gz (I5 g1 _ (Av hat))).1;have hm:¬m<0:=λq=>by rw[Ax q]at h2;cases h2
 exact⟨I5 g1,g1,hlt,by omega,hat,by omega,Mo λy hy=>by have:=((Dz hp).2.1 y hy).1;omega,rfl,hp⟩
theorem Vh:∀ {L:List AE},(∀y∈L,y.mass=1)->Ab L=(L.length:Int)
 | [],_=>rfl
 |a::L,h=>by
  rw[show Ab (a::L)=a.mass+Ab L from rfl,h a (B3 ..),Vh λy hy=>h y (CA _ hy),Br];omega
theorem IV {c:List AE}:∀y∈BK c,y.mass=1:=λy hy=>by
 obtain⟨z,hz,rfl,_⟩:=Pp y hy;rfl
theorem WM {c L:List AE}(hp:Bk c=0)(hL:∀y∈L,y∈BK c)(hl:L.length<=(BK c).length):(∀y∈A9 L,1<=y.mass/\y.mass<=1000000000/\y.shs.length<=1000000)/\Ab (A9 L)=(L.length:Int):=by
 have h1:∀y∈L,y.mass=1:=λy hy=>IV y (hL y hy)
 have hs:=Vh h1;have hc:=(IX hp).2.2;have hn:=Mo (l:=c) λy hy=>by have:=((Dz hp).2.1 y hy).1;omega
 have h0:∀y∈A9 L,1<=y.mass:=Jf λy hy=>by rw[h1 y hy];exact Int.le_refl _
 refine⟨λy hy=>⟨h0 y hy,?_,?_⟩,by rw[NY,hs]⟩
 ·have:=Xx (λz hz=>by have:=h0 z hz;omega) hy
  rw[NY,hs]at this;omega
 ·obtain⟨z,hz,_,e⟩:=Ma y hy
  obtain⟨w,hw,_,e2⟩:=Pc z (hL z hz);rw[e,e2];exact((Dz hp).2.1 w hw).2.2
theorem Ts {c:List AE}{k:Nat}(hc:∀y∈c,1<=y.mass):(A9 ((BK c).take k)).length<=c.length:=by
 have h0:∀y∈c,0<=y.mass:=λy hy=>by have:=hc y hy;omega
 have e:=Ww (l:=c) (m:=(k:Int)) h0 (by omega);rw[Gk]at e;have h1:∀y∈Ec c (k:Int),0<=y.mass:=by
  have:∀(l:List AE) (m:Int),(∀y∈l,0<=y.mass)->0<=m->∀y∈Ec l m,0<=y.mass:=λl=>by
   induction l with
   |nil=>intro m _ _ y hy;cases hy
   |cons a l ih=>
    intro m h hm y hy
    have:=h a (B3 ..)
    rcases A8.1 hy with rfl|hy
    ·show 0<=min a.mass m;omega
    ·split at hy
     ·cases hy
     ·exact ih _ (λz hz=>h z (CA _ hz)) (by omega) y hy
  exact this c _ h0 (by omega)
 have h2:=SL h1;rw[e]at h2;rw[<-h2];have h3:=Mf (Dk (Ec c (k:Int)));have h4:(Dk (Ec c (k:Int))).length<=(Ec c (k:Int)).length:=List.length_filter_le ..;have h5:=VR c (k:Int);omega
theorem Xe {c:List AE}{k:Nat}(hc:∀y∈c,1<=y.mass):(A9 ((BK c).reverse.take k)).length<=c.length:=by
 rw[<-WL]
 have:=Ts (c:=c.reverse) (k:=k) λy hy=>hc y (List.mem_reverse.1 hy)
 rwa [List.length_reverse]at this
theorem lh {P Q:List AE}(hP:∀y∈P,1<=y.mass)(hQ:∀y∈Q,1<=y.mass):(A9 (P++Q)).length<=(A9 P).length+(A9 Q).length:=by
 rw[<-VY hP hQ,<-Be];exact Mf _
theorem UQ {x:As}{c:List AE}{m:Nat}(hc:∀y∈c,1<=y.mass):(A9 (DK x c m)).length<=c.length+c.length:=by
 have h1:∀y∈(BK c).reverse.take (m-DD x c m),1<=y.mass:=λy hy=>by
  rw[IV y (List.mem_reverse.1 (E8 hy))];exact Int.le_refl _
 have h2:∀y∈(BK c).take (DD x c m),1<=y.mass:=λy hy=>by
  rw[IV y (E8 hy)];exact Int.le_refl _
 have:=lh h1 h2
 have g1:=Xe (k:=m-DD x c m) hc;have g2:=Ts (k:=DD x c m) hc;unfold DK;omega
theorem NP {x:As}{c:List AE}{m:Nat}(hc:∀y∈c,1<=y.mass):(A9 (Cc x c m)).length<=c.length:=by
 have h0:∀y∈c,0<=y.mass:=λy hy=>by have:=hc y hy;omega
 have e:=Wg (l:=c) (low:=(DD x c m:Int)) (left:=(((BK c).length-m:Nat):Int)) h0 (by omega) (by omega);rw[Gk,Gk]at e;have hbl:∀(l:List AE) (a b:Int),(Fp l a b).length=l.length:=λl=>by
  induction l with
  |nil=>intro a b;rfl
  |cons z l ih=>intro a b;show(Fp l _ _).length+1=_;rw[ih];rfl
 have hbn:∀(l:List AE) (a b:Int),(∀y∈l,0<=y.mass)->0<=a->0<=b->∀y∈Fp l a b,0<=y.mass:=λl=>by
  induction l with
  |nil=>intro a b _ _ _ y hy;cases hy
  |cons z l ih=>
   intro a b h ha hb y hy
   have:=h z (B3 ..)
   rcases A8.1 hy with rfl|hy
   ·show 0<=min (z.mass-min z.mass a) b;omega
   ·exact ih _ _ (λw hw=>h w (CA _ hw)) (by omega) (by omega) y hy
 have h2:=SL (hbn c (DD x c m:Int) (((BK c).length-m:Nat):Int) h0 (by omega) (by omega));rw[e]at h2;show(A9 (((BK c).drop (DD x c m)).take ((BK c).length-m))).length<=_;rw[<-h2];have h3:=Mf (Dk (Fp c (DD x c m:Int) (((BK c).length-m:Nat):Int)));have h4:(Dk (Fp c (DD x c m:Int) (((BK c).length-m:Nat):Int))).length<=(Fp c (DD x c m:Int) (((BK c).length-m:Nat):Int)).length:=List.length_filter_le ..;rw[hbl]at h4;omega
abbrev Ji:Dr:=[(9,[0,1,2,3,4,5,6,7,8,9],[10]),(11,[0,1,2,3,4],[5,6,7])]
open Go.Proofs Go.RowKit
set_option maxRecDepth 20000
set_option maxHeartbeats 4000000
theorem Uo {H:Hp}{a a' b b' c:D}(h1:Fz H [] a a')(h2:Fz H [] b b'):Fz H [] (.tup [a,b,c]) (.tup [a',b',c]):=NW h1 h2
theorem jL (x:As)(hl:x.cells.length<=1000000)(hc:∀c∈x.cells,c.length<=1000000/\∀y∈c,y.few)(i m:Int):AK C0 7 [x.D,i64 i,i64 m] (.tup [(W5 x i m).D,Aj false (W6 x i m),i64 (Fi x i m)]):=by
 refine Af.walk w1 jo rfl λF=>?_
 have cC:=d9b x hl hc [i] (by simp);have cW:=Hz (decide (m<0)) 3;have cF1:=LT [Kf x [i],if decide (m<0)then 3 else 0] (by simp);rw[show Eo [Kf x [i],if decide (m<0)then 3 else 0]=HU x i m from rfl]at cF1;have hE:Fi x i m=if HU x i m≠0 then HU x i m else if Ab (Bz x i)<m then 13 else KW x i m:=rfl
 have hB:W5 x i m=if Fi x i m≠0 then Sw else BV x i m:=rfl
 have hL:W6 x i m=if Fi x i m≠0 then[]else B1 x i m:=rfl
 have hz:Sw.D=.agg [str (sb []),i64 0,i64 0,i64 0,.sl false 1 []]:=rfl;have pz:AA (.tup [Sw.D,Aj false [],i64 (Fi x i m)]):=AJ;rw[hz]at pz
 by_cases h0:HU x i m=0
 rotate_left
 ·have k2:(HU x i m != 0)=true:=Jd h0
  rw[AH h0]at hE;rw[hE,AH h0]at hB hL;rw[hE]at pz;rw[hB,hL,hE,hz];unfold As.D at cC⊢;refine AI Ji k2 cC cW cF1 AB AB AB ?_;exact⟨_,Uo (SC (.nil 1)) (.nil 3),pz.out,rfl⟩
 have k2:(HU x i m != 0)=false:=by rw[h0];rfl
 rw[AG (λh=>h h0)]at hE;have ok:=KM h0;obtain⟨c,hcc⟩:∃c,Bz x i=c:=⟨_,rfl⟩
 obtain⟨k,hk⟩:∃k,m.toNat=k:=⟨_,rfl⟩
 obtain⟨n,hn⟩:∃n,(BK c).length=n:=⟨_,rfl⟩
 have hO:BV x i m=D6 x i.toNat (A9 (Cc x c k)):=by unfold BV;rw[hcc,hk]
 have hF:B1 x i m=A9 (DK x c k):=by unfold B1;rw[hcc,hk]
 have hE3:KW x i m=if EG x.side (CN (BV x i m))then 17 else if 64<(B1 x i m).length then 5 else 0:=rfl
 rw[hcc]at hE ok;rw[hk,hn]at ok;have hpn:=Dz ok.par;have hps:=(IX ok.par).2.2;have hmem:=Av ok.at_;have cT:=Pw false c (by omega);rw[Ix hpn.2.2,<-ok.nn]at cT;have hat:(x.cells.map (Aj false))[i.toNat]?=some (.sl false 3 (c.map AE.D)):=by rw[BC,ok.at_];rfl
 have hi0:0<=i:=by have:=ok.ii;omega
 have hil:i<(x.cells.length:Int):=by have:=ok.ii;have:=ok.lt;omega
 have el:(((x.cells.map (Aj false)).length:Nat):Int)=(x.cells.length:Int):=by rw[Ai]
 have hmk:=ok.mm
 by_cases h1:Ab c<m
 ·have k3:decide ((n:Int)<m)=true:=Ax (by rw[ok.nn];exact h1)
  rw[AH h1]at hE;rw[hE,AH (by decide)]at hB hL;rw[hE]at pz;rw[hB,hL,hE,hz];unfold As.D at cC⊢;refine AI Ji (Ar k2 el k3) cC cW cF1 hat cT AB ?_;exact⟨_,Uo (SC (.nil 1)) (.nil 3),pz.out,rfl⟩
 have k3:decide ((n:Int)<m)=false:=Ay (by rw[ok.nn];exact h1);rw[AG h1]at hE;have hkn:k<=n:=by have:=ok.nn;omega
 have hnB:n<=1000000000:=by have:=ok.nn;omega
 have cLo:=sT x n k hkn hnB (rV ok.bin);have hlX:DD x c k=GO (Ki x) n k:=by unfold DD;rw[hn]
 rw[<-hlX]at cLo;have hA:=PS x c k;have hxc:∀y∈c,0<=y.mass/\y.mass<=1000000000/\y.shs.length<=1000000:=λy hy=>⟨by have:=(hpn.2.1 y hy).1;omega,(hpn.2.1 y hy).2⟩
 have hown:∀y∈c,∀m,AK C0 64 [y.D,i64 m] (y.w m).D:=λy q m=>Pk y m (hxc y q).2.2
 have hrD:Cc x c k=((BK c).drop (DD x c k)).take (n-k):=by unfold Cc;rw[hn]
 have hfD:DK x c k=(BK c).reverse.take (k-DD x c k)++(BK c).take (DD x c k):=rfl;obtain⟨A,hAe⟩:∃A,DD x c k=A:=⟨_,rfl⟩
 rw[hAe]at cLo hA hrD hfD;have hbl:∀(l:List AE) (a b:Int),(Fp l a b).length=l.length:=λl=>by
  induction l with
  |nil=>intro a b;rfl
  |cons z l ih=>intro a b;show(Fp l _ _).length+1=_;rw[ih];rfl
 have hbn:∀(l:List AE) (a b:Int),(∀y∈l,0<=y.mass/\y.mass<=1000000000/\y.shs.length<=1000000)->0<=a->0<=b->∀y∈Fp l a b,0<=y.mass/\y.mass<=1000000000/\y.shs.length<=1000000:=λl=>by
  induction l with
  |nil=>intro a b _ _ _ y hy;cases hy
  |cons z l ih=>
   intro a b h ha hb y hy
   have:=h z (B3 ..)
   rcases A8.1 hy with rfl|hy
   ·refine⟨?_,?_,this.2.2⟩
    ·show 0<=min (z.mass-min z.mass a) b;omega
    ·show min (z.mass-min z.mass a) b<=_;omega
   ·exact ih _ _ (λw hw=>h w (CA _ hw)) (by omega) (by omega) y hy
 have cBt:=YG false c (A:Int) ((k-A:Nat):Int) (by omega) ⟨by omega,by omega⟩ ⟨by omega,by omega⟩ (n:Int) ⟨by omega,by omega⟩ (λy q=>⟨(hxc y q).1,(hxc y q).2.1⟩) cT hown (Aj false (A9 (Cc x c k))) (by
  have h3:=Uv false (Fp c (A:Int) ((n:Int)-A-((k-A:Nat):Int))) (by rw[hbl];omega) (hbn c _ _ hxc (by omega) (by omega));rw[SL λy hy=>(hbn c _ _ hxc (by omega) (by omega) y hy).1,Wg (λy hy=>(hxc y hy).1) (by omega) (by omega),Gk,show((n:Int)-A-((k-A:Nat):Int)).toNat=n-k by omega,<-hrD]at h3;exact h3)
 have wA:IntKind.i64.wrap (m-(A:Int))=((k-A:Nat):Int):=by rw[wI];omega
 have cWi:=d9d x i.toNat ok.lt hl (λc hq=>UG false c (hc c hq).1 (Dz (Gz (ok.cel c hq)).1).2.1) (A9 (Cc x c k));rw[<-ok.ii,<-hO]at cWi;have cP1:=j9 false true c (k-A) (by omega) (by omega) hxc;have cP2:=j9 false false c A (by omega) (by omega) hxc;rw[show Qn true c=(BK c).reverse from rfl]at cP1;rw[show Qn false c=BK c from rfl]at cP2;have u1:=WM (L:=(BK c).reverse.take (k-A)) ok.par (λy hy=>List.mem_reverse.1 (E8 hy)) (by rw[Bc,List.length_reverse];omega);have u2:=WM (L:=(BK c).take A) ok.par (λy hy=>E8 hy) (by rw[Bc];omega);have g1:=Xe (c:=c) (k:=k-A) λy hy=>(hpn.2.1 y hy).1
 have g2:=Ts (c:=c) (k:=A) λy hy=>(hpn.2.1 y hy).1
 have v1:∀y∈(BK c).reverse.take (k-A),1<=y.mass:=λy hy=>by
  rw[IV y (List.mem_reverse.1 (E8 hy))];exact Int.le_refl _
 have v2:∀y∈(BK c).take A,1<=y.mass:=λy hy=>by
  rw[IV y (E8 hy)];exact Int.le_refl _
 have hFn:=VY v1 v2;rw[<-hfD,<-hF]at hFn;obtain⟨P,hP⟩:∃P,A9 ((BK c).reverse.take (k-A))=P:=⟨_,rfl⟩
 obtain⟨Q,hQ⟩:∃Q,A9 ((BK c).take A)=Q:=⟨_,rfl⟩
 rw[hP]at cP1 u1 g1 hFn;rw[hQ]at cP2 u2 g2 hFn;have cCC:=Zu [P,Q] (by rw[show[P,Q].flatten=P++Q by simp,Be];omega) (by simp);rw[show[P,Q].flatten=P++Q by simp]at cCC;have cN:=UG false (P++Q) (by rw[Be];omega) λy hy=>by
  rcases Bl.1 hy with h|h
  ·exact u1.1 y h
  ·exact u2.1 y h
 rw[hFn]at cN;have hFl:(B1 x i m).length<=1000000:=by
  rw[<-hFn]
  have:=Mf (P++Q)
  rw[Be]at this;omega
 have cCr:=gc (B1 x i m) hFl;have hol:(BV x i m).cells.length=x.cells.length:=by
  rw[hO];show((x.cells.map A9).set _ _).length=_;rw[Dj,Ai]
 have hoc:∀c∈(BV x i m).cells,c.length<=1000000:=λd hq=>by
  rw[hO]at hq;rcases OZ hq with h|h
  ·obtain⟨e,h1,rfl⟩:=Bx.1 h
   have:=Mf e
   have:=(hc e h1).1
   omega
  ·rw[h]
   have:=NP (x:=x) (c:=c) (m:=k) λy hy=>(hpn.2.1 y hy).1
   omega
 have cLv:=av (BV x i m) (by omega) λc h=>by have:=hoc c h;omega
 have cSt:=di x false (CN (BV x i m)) (by unfold CN;rw[Ai];omega);have cF3:=LT [if EG x.side (CN (BV x i m))then 17 else 0,if 64<(B1 x i m).length then 5 else 0] (by simp);have hE3':Eo [if EG x.side (CN (BV x i m))then 17 else 0,if 64<(B1 x i m).length then 5 else 0]=KW x i m:=by
  rw[hE3];cases EG x.side (CN (BV x i m))
  ·by_cases h:64<(B1 x i m).length
   ·rw[AH h];rfl
   ·rw[AG h];rfl
  ·rfl
 rw[hE3']at cF3;have hoD:(BV x i m).D=.agg [str (sb x.flow),i64 x.core,i64 x.room,i64 x.side,.sl false 1 ((BV x i m).cells.map (Aj false))]:=by rw[hO];rfl
 have po:AA (.tup [(BV x i m).D,Aj false (B1 x i m),i64 (Fi x i m)]):=AJ;have It:AA (BV x i m).D:=AJ;rw[hoD]at cWi cLv po It;obtain⟨OD,hOD⟩:∃O,(BV x i m).cells.map (Aj false)=O:=⟨_,rfl⟩
 rw[hOD]at cWi cLv po It hoD;subst hmk
 by_cases h2:KW x i (k:Int)=0
 rotate_left
 ·have k4:(KW x i (k:Int) != 0)=true:=Jd h2
  rw[hE,AH h2]at hB hL;rw[hE]at pz;rw[hB,hL,hE,hz];unfold As.D at cC cWi cSt cLo⊢;refine AI Ji (Bd k2 el k3 wA) cC cW cF1 hat cT cLo ?_;refine AI Ji (Ad wA k4) cBt cWi AB AB AB AB ?_;refine AI Ji wA cP1 cP2 cCC cN cCr AB ?_;refine AI Ji k4 cLv cSt cF3 AB AB AB ?_;exact⟨_,Uo (SC (.nil 1)) (.nil 3),pz.out,rfl⟩
 ·have k4:(KW x i (k:Int) != 0)=false:=by rw[h2];rfl
  have h64:¬ 64<(B1 x i (k:Int)).length:=λh=>by
   rw[hE3,AH h]at h2;split at h2<;>cases h2
  rw[hE,AG (λh=>h h2)]at hB hL;rw[hE,h2]at po;rw[AG h64]at cCr;rw[hB,hL,hE,h2,hoD];unfold As.D at cC cWi cSt cLo⊢;refine AI Ji (Bd k2 el k3 wA) cC cW cF1 hat cT cLo ?_;refine AI Ji (Ad wA k4) cBt cWi AB AB AB AB ?_;refine AI Ji wA cP1 cP2 cCC cN cCr AB ?_;refine AI Ji k4 cLv cSt cF3 AB AB AB ?_;exact AM rfl po.out
def Lm (x:As):Bool:=x.cells.all HT&&(decide (x.flow.length<=100)&&decide (x.cells.length<=20))
theorem qm (x:As)(hl:x.cells.length<=9223372036854775807)(hs:∀c∈x.cells,c.length<=9223372036854775807/\∀y∈c,y.shs.length<=9223372036854775807):AK C0 14 [x.D] (Ap (Lm x)):=by
 refine Af.walk w1 zT rfl λF=>?_
 obtain⟨cs,hcs⟩:∃c,x.cells=c:=⟨_,rfl⟩
 have el:(((cs.map (Aj false)).length:Nat):Int)=(cs.length:Int):=by rw[Ai]
 have hb:Lm x=(cs.all HT&&(decide (x.flow.length<=100)&&decide (cs.length<=20))):=by rw[<-hcs];rfl
 rw[hb];unfold As.D;rw[hcs]at hl hs⊢;refine AI AZ el AB AB AB AB AB AB ?_;refine AC.loop (α:=Nat×Nat) (λp=>⟨[(1,.optr 0 0 5 0 0),(6,FQ false cs),(7,i64 (cs.length:Int)),(8,i64 (p.1:Int))],[⟨0,0,24,5,[.agg [str (sb x.flow),i64 x.core,i64 x.room,i64 x.side,FQ false cs]]⟩],p.2⟩) (λp=>cs.length-p.1) (λq=>q.1<=cs.length/\(cs.take q.1).all HT=true) (0,_) ⟨BX _,rfl⟩ AL ?_;rintro⟨i,n⟩ F ⟨hi,ha⟩;dsimp only at hi ha⊢;rcases BG i cs.length with h2|h2
 rotate_left
 ·have e1:=Cf h2
  have:i=cs.length:=by omega
  subst this;rw[DJ]at ha;rw[ha,HF];have hsz:=Cx x.flow;have d1:decide (x.flow.length<=100)=decide ((x.flow.length:Int)<=100):=DQ.2 (by omega);have d2:decide (cs.length<=20)=decide ((cs.length:Int)<=20):=DQ.2 (by omega);rw[d1,d2];obtain⟨q1,h1⟩:∃q,decide ((x.flow.length:Int)<=100)=q:=⟨_,rfl⟩
  rw[h1];cases q1
  all_goals
   refine AI AZ (ER e1 hsz el h1 kT kF) AB AB AB AB AB AB ?_;exact AM rfl AA.out
 have e1:=Cd h2;have wi:=Cj (i:=i) (by omega);obtain⟨c,hc⟩:=CQ h2;have hm:(cs.map (Aj false))[i]?=some (.sl false 3 (c.map AE.D)):=by rw[BC,hc];rfl
 obtain⟨hs1,hs2⟩:=hs c (Av hc);have cS:=yQ false c hs1 hs2;have htk:cs.take (i+1)=cs.take i++[c]:=by rw[D8,hc];rfl
 cases hq:HT c
 ·rw[hq]at cS
  have hall:cs.all HT=false:=by
   rw[List.all_eq_false];exact⟨c,Av hc,by rw[hq];exact Bool.false_ne_true⟩
  rw[hall,ID];refine AI AZ (Ar e1 kT kF) hm cS AB AB AB AB ?_;exact AM rfl AA.out
 ·rw[hq]at cS
  refine AI AZ (Bd e1 wi kT kF) hm cS AB AB AB AB ?_;exact⟨(i+1,_),⟨h2,by dsimp only;rw[htk,Ky,ha,GR,hq];rfl⟩,by dsimp only;omega,AL⟩
theorem gA {x:As}(h:Lm x=true):x.cells.length<=20/\x.flow.length<=100/\∀c∈x.cells,(∀y∈c,y.lite/\y.modr)/\c.length<=80:=by
 unfold Lm at h;rw[BY,BY,decide_eq_true_iff,decide_eq_true_iff,CW]at h;obtain⟨h1,h2,h3⟩:=h;refine⟨h3,h2,λc hc=>?_⟩;obtain⟨g1,g2,_⟩:=so (h1 c hc);exact⟨g1,g2⟩
def Lh (l:List AE)(n most:Int):Bool:=decide ((l.length:Int)<=n)&&decide (Ab l<=most)
def ON (x:As)(most:Int):Bool:=decide (x.cells.length<=4)&&(decide (Cw x=0)&&x.cells.all λc=>Lh c 6 most)
def QJ (x:As):Bool:=Lm x&&ON x 999999999
theorem yu (l:List AE)(n most:Int)(hl:l.length<=1000000)(hf:∀x∈l,x.modr)(hp:Bk l=0):AK C0 49 [Aj false l,i64 n,i64 most] (Ap (Lh l n most)):=by
 refine Af.walk w1 d8l rfl λF=>?_
 have el:(((l.map AE.D).length:Nat):Int)=(l.length:Int):=by rw[Ai]
 have cP:=jt false l hl hf;have cM:=Wm false l (Dz hp).2.2;rw[hp]at cP;have k0:(((0:Nat):Int)==0)=true:=rfl;unfold Lh;obtain⟨a,ha⟩:∃a,decide ((l.length:Int)<=n)=a:=⟨_,rfl⟩
 obtain⟨b,hb⟩:∃b,decide (Ab l<=most)=b:=⟨_,rfl⟩
 rw[ha,hb];cases a
 ·refine AI AZ (Ar el ha k0) AB AB AB AB AB AB ?_
  exact AM rfl AA.out
 ·cases b
  ·refine AI AZ (Bd el ha hb k0) cP cM AB AB AB AB ?_
   exact AM rfl AA.out
  ·refine AI AZ (Bd el ha hb k0) cP cM AB AB AB AB ?_
   exact AM rfl AA.out
theorem d9k (x:As)(most:Int)(hl:x.cells.length<=1000000)(hc:∀c∈x.cells,c.length<=1000000/\∀y∈c,y.modr):AK C0 15 [x.D,i64 most] (Ap (ON x most)):=by
 refine Af.walk w1 zy rfl λF=>?_
 have cB:=s5 x hl hc;have hE:ON x most=(decide (x.cells.length<=4)&&(decide (Cw x=0)&&x.cells.all λc=>Lh c 6 most)):=rfl;have hcl:=@I5 x;obtain⟨cs,hcs⟩:∃c,x.cells=c:=⟨_,rfl⟩
 have el:(((cs.map (Aj false)).length:Nat):Int)=(cs.length:Int):=by rw[Ai]
 obtain⟨E,hEE⟩:∃E,Cw x=E:=⟨_,rfl⟩
 rw[hE];unfold As.D at cB⊢;rw[hcs]at cB hcl hl hc⊢;rw[hEE]at cB hcl⊢
 by_cases h4:cs.length<=4
 rotate_left
 ·have k1:decide ((cs.length:Int)>4)=true:=Ba
  rw[Ay h4,ID];refine AI AZ (Ad el k1) AB AB AB AB AB AB ?_;exact AM rfl AA.out
 have k1:decide ((cs.length:Int)>4)=false:=Bg;rw[Ax h4,HF]
 by_cases h0:E=0
 rotate_left
 ·have k2:(E != 0)=true:=Jd h0
  rw[Ay h0,ID];refine AI AZ (Ar el k1 k2) cB AB AB AB AB AB ?_;exact AM rfl AA.out
 have k2:(E != 0)=false:=by rw[h0];rfl
 rw[Ax h0,HF];refine AI AZ (Ar el k1 k2) cB AB AB AB AB AB ?_;refine AC.loop (α:=Nat×Nat) (λp=>⟨[(1,i64 most),(2,.optr 0 0 5 0 0),(5,i64 (p.1:Int))],[⟨0,0,24,5,[.agg [str (sb x.flow),i64 x.core,i64 x.room,i64 x.side,FQ false cs]]⟩],p.2⟩) (λp=>cs.length-p.1) (λq=>q.1<=cs.length/\((cs.take q.1).all λc=>Lh c 6 most)=true) (0,_) ⟨BX _,rfl⟩ AL ?_;rintro⟨i,n⟩ F ⟨hi,ha⟩;dsimp only at hi ha⊢;rcases BG i cs.length with h2|h2
 rotate_left
 ·have e1:=Cf h2
  have:i=cs.length:=by omega
  subst this;rw[DJ]at ha;rw[ha];refine AI AZ (Ad e1 el) AB AB AB AB AB AB ?_;exact AM rfl AA.out
 have e1:=Cd h2;have wi:=Cj (i:=i) (by omega);obtain⟨c,hc'⟩:=CQ h2;have hm:(cs.map (Aj false))[i]?=some (.sl false 3 (c.map AE.D)):=by rw[BC,hc'];rfl
 have hmem:=Av hc';have cF:=yu c 6 most (hc c hmem).1 (hc c hmem).2 (Gz (hcl h0 c hmem)).1;have htk:cs.take (i+1)=cs.take i++[c]:=by rw[D8,hc'];rfl
 cases hq:Lh c 6 most
 ·rw[hq]at cF
  have hall:(cs.all λc=>Lh c 6 most)=false:=by
   rw[List.all_eq_false];exact⟨c,hmem,by rw[hq];exact Bool.false_ne_true⟩
  rw[hall];refine AI AZ (CT e1 el kT kF kN) hm cF AB AB AB AB ?_;exact AM rfl AA.out
 ·rw[hq]at cF
  refine AI AZ (ER e1 el wi kT kF kN) hm cF AB AB AB AB ?_;exact⟨(i+1,_),⟨h2,by dsimp only;rw[htk,Ky,ha,GR,hq];rfl⟩,by dsimp only;omega,AL⟩
structure iD (x:As)(m:Int):Prop where
 n:x.cells.length<=4
 len:∀c∈x.cells,c.length<=6
 mass:∀c∈x.cells,Ab c<=m
 bin:Cw x=0
theorem uS {x:As}{m:Int}(h:ON x m=true):iD x m:=by
 unfold ON at h;rw[BY,BY,decide_eq_true_iff,decide_eq_true_iff,CW]at h;obtain⟨h1,h2,h3⟩:=h;have h4:∀c∈x.cells,(c.length:Int)<=6/\Ab c<=m:=λc hc=>by
  have:=h3 c hc
  unfold Lh at this
  rwa [BY,decide_eq_true_iff,decide_eq_true_iff]at this
 exact⟨h1,λc hc=>by have:=(h4 c hc).1;omega,λc hc=>(h4 c hc).2,h2⟩
theorem ub (x:As):x.D=.agg [str (sb x.flow),i64 x.core,i64 x.room,i64 x.side,.sl false 1 (x.cells.map (Aj false))]:=rfl
theorem VU {x:As}{i:Nat}{c:List AE}(h:Cw x=0)(hc:x.cells[i]?=some c):(CN x).getD i 0=Ab c:=by
 rw[(Pr h).1,EM,BC,hc];rfl
theorem tu {x:As}{c:List AE}(h:DY x c=0):Db (A9 c)=Ab c:=by
 have p:=Gz h;have hn:=Dz p.1
 have:=oM hn.2.1 (by omega) (by omega)
 rw[Ix this.1,this.2.2]
theorem qo {x:As}{i:Nat}{L:List AE}(h:Cw x=0):CN (D6 x i L)=(CN x).set i (Db L):=by
 show List.map Db ((x.cells.map A9).set i L)=_;rw[List.map_set,List.map_map,(Pr h).1]
 congr 1
 exact L3 λc hq=>tu (I5 h c hq)
theorem tv {c L:List AE}(hp:Bk c=0)(hL:∀y∈L,y∈BK c)(hl:L.length<=(BK c).length)(hn:(A9 L).length<=1000000):Db (A9 L)=(L.length:Int):=by
 obtain⟨h1,h2⟩:=WM hp hL hl;rw[Ix ⟨hn,λy hy=>by have:=h1 y hy;omega⟩,h2]
theorem Zq {x:As}{i:Nat}{c:List AE}{m:Nat}(h:Cw x=0)(hc:x.cells[i]?=some c)(hm:m<=(BK c).length):CN (D6 x i (A9 (Cc x c m)))=(CN x).set i ((CN x).getD i 0-m):=by
 have hce:=Gz (I5 h c (Av hc));have hpn:=Dz hce.1;have hr:=NP (x:=x) (c:=c) (m:=m) λy hy=>(hpn.2.1 y hy).1
 have hn:=Mo (l:=c) λy hy=>by have:=(hpn.2.1 y hy).1;omega
 rw[qo h,tv hce.1 NT (by rw[NS hm];omega) (by omega),NS hm,VU h hc,<-hn]
 congr 1
 omega
theorem zR {l:List AE}{y:AE}(h:GT l y)(hf:∀z∈l,z.few):y.few:=by
 obtain⟨z,hz,e1,e2⟩:=h
 have:=hf z hz
 unfold AE.few at this⊢;rw[e1,e2];exact this
theorem Vq {l:List AE}{y:AE}(h:GT l y)(hf:∀z∈l,z.lite):y.lite:=by
 have h1:=zR h λz hz=>(hf z hz).1
 obtain⟨z,hz,e1,e2⟩:=h
 have:=(hf z hz).2
 refine⟨h1,?_⟩;rw[e2];exact this
theorem gT {l:List AE}{y:AE}(h:GT l y)(hf:∀z∈l,z.modr):y.modr:=by
 have h1:=Vq h λz hz=>(hf z hz).2
 obtain⟨z,hz,e1,e2⟩:=h
 have:=(hf z hz).1
 refine⟨?_,h1⟩;rw[e2];exact this
theorem aI {x:As}{i:Nat}{L:List AE}{P:List AE->Prop}(h1:∀c∈x.cells,P (A9 c))(h2:P L):∀d∈(D6 x i L).cells,P d:=λd hd=>by
 rcases OZ hd with hd|hd
 ·obtain⟨e,he,rfl⟩:=Bx.1 hd
  exact h1 e he
 ·rw[hd];exact h2
theorem PJ (x:As)(i:Nat)(L:List AE):(D6 x i L).cells.length=x.cells.length:=by
 show((x.cells.map A9).set _ _).length=_;rw[Dj,Ai]
theorem sE {x:As}{c:List AE}(h:DY x c=0):DY x (A9 c)=0:=by
 have p:=Gz h;have hn:=Dz p.1
 have:=Mf c
 exact ZZ h Ma (by omega) (Jf λy hy=>(hn.2.1 y hy).1) (by rw[NY];exact Int.le_refl _)
structure e0a (x:As)(i m:Int):Prop where
 bin:Cw (BV x i m)=0
 par:Bk (B1 x i m)=0
 one:HU x i m=0
 mle:m<=Ab (Bz x i)
 stp:EG x.side (CN (BV x i m))=false
 f64:¬ 64<(B1 x i m).length
theorem uM {x:As}{i m:Int}(h1:HU x i m=0)(h2:¬Ab (Bz x i)<m)(h3:EG x.side (CN (BV x i m))=false):Cw (BV x i m)=0:=by
 have ok:=KM h1;have hce:=ok.cel _ (Av ok.at_);have hpn:=Dz ok.par;have hkn:m.toNat<=(BK (Bz x i)).length:=by have:=ok.nn;have:=ok.mm;omega
 have hr:=Vd (x:=x) (c:=Bz x i) (m:=m.toNat) (λy hy=>(hpn.2.1 y hy).1) hkn;have hl:=NP (x:=x) (c:=Bz x i) (m:=m.toNat) λy hy=>(hpn.2.1 y hy).1
 refine uc ok.bin rfl rfl rfl rfl (PJ ..) (aI (λc hc=>sE (ok.cel c hc)) ?_) h3;exact ZZ hce hr.1 (by omega) hr.2.1 (by rw[hr.2.2];omega)
theorem Um {x:As}{c:List AE}{m:Nat}(h:m<=(BK c).length):Ab (A9 (DK x c m))=m:=by
 rw[NY,Vh λy hy=>IV y (LH y hy),qX h]
theorem Ps {x:As}{i m:Int}(h:Fi x i m=0):e0a x i m:=by
 unfold Fi at h
 by_cases h1:HU x i m=0
 ·rw[AG (λq=>q h1)]at h
  by_cases h2:Ab (Bz x i)<m
  ·rw[AH h2]at h;cases h
  ·rw[AG h2]at h
   unfold KW at h;have h3:EG x.side (CN (BV x i m))=false:=by
    cases hb:EG x.side (CN (BV x i m))
    ·rfl
    ·rw[hb,AH rfl]at h;cases h
   rw[h3,AG (by decide)]at h;have h4:¬ 64<(B1 x i m).length:=λq=>by rw[AH q]at h;cases h
   have ok:=KM h1;have hpn:=Dz ok.par;have hps:=(IX ok.par).2.2;have hkn:m.toNat<=(BK (Bz x i)).length:=by have:=ok.nn;have:=ok.mm;omega
   refine⟨uM h1 h2 h3,aM ok.par (λy hy=>(Ma y hy).trans λz hz=>Pc z (LH z hz)) (by omega) (Jf λy hy=>?_) ?_,h1,by omega,h3,h4⟩
   ·rw[IV y (LH y hy)];exact Int.le_refl _
   ·show Ab (A9 (DK x (Bz x i) m.toNat))<=_
    rw[Um hkn]
    have:=ok.mm
    omega
 ·rw[AH h1]at h;exact Ak h h1
theorem zO {x:As}{i m:Int}(h:x.cells[i.toNat]?=some (Bz x i)):(∀c∈(BV x i m).cells,∃d∈x.cells,∀y∈c,GT d y)/\∀y∈B1 x i m,GT (Bz x i) y:=
 ⟨aI (λc hc=>⟨c,hc,Ma⟩) ⟨_,Av h,λy hy=>(Ma y hy).trans λz hz=>Pc z (NT z hz)⟩,
  λy hy=>(Ma y hy).trans λz hz=>Pc z (LH z hz)⟩
theorem Zc {R:Au->Au->Prop}(ht:∀a b c,R a b->R b c->R a c):∀ {l:List Au},(∀i,i+1<l.length->R (D5 l i) (D5 l (i+1)))->l.Pairwise R
 | [],_=>List.Pairwise.nil
 | [a],_=>List.pairwise_singleton _ _
 |a::b::l,h=>by
  have h1:(b::l).Pairwise R:=Zc ht λi hi=>h (i+1) (by simp at hi⊢;omega)
  have hab:R a b:=h 0 (by simp);refine DR.2 ⟨λc hc=>?_,h1⟩;rcases A8.1 hc with rfl|hc
  ·exact hab
  ·exact ht a b c hab ((DR.1 h1).1 c hc)
theorem zB {l:List Au}(h:G1 l=0):(l.Pairwise λs t=>ltStr s.lot t.lot=true)/\∀s∈l,Ck s.part=0/\0<Bv s.part:=by
 unfold G1 at h;split at h
 ·cases h
 split at h
 ·cases h
 split at h
 ·rename_i q;exact Ak h q
 rename_i h0;have hall:=PE (Classical.not_not.1 h0);have hat:∀i,i<l.length->Ck (D5 l i).part=0/\0<Bv (D5 l i).part/\(0<i->Ld (D5 l i).lot (D5 l (i-1)).lot=false):=λi hi=>by
  have:=hall i hi
  unfold Fy at this;split at this
  ·cases this
  split at this
  ·cases this
  rename_i ho;split at this
  ·rename_i q;exact Ak this q
  rename_i hc;split at this
  ·cases this
  rename_i hs;refine⟨Classical.not_not.1 hc,?_,λh0=>?_⟩
  ·unfold HC at hs
   apply DF;intro hn;have h9:=Rat.num_nonneg.2 (show 0≤-(Bv (D5 l i).part) by grind);rw[Rat.neg_num]at h9;exact hs (by omega)
  ·cases hb:Ld (D5 l i).lot (D5 l (i-1)).lot
   ·rfl
   ·exact Ak ⟨h0,hb⟩ ho
 refine⟨Zc (R:=λs t=>ltStr s.lot t.lot=true) (λa b c=>swo_ltStr.trans a.lot b.lot c.lot) λi hi=>?_,λs hs=>?_⟩
 ·have:=(hat (i+1) hi).2.2 (by omega)
  rw[show i+1-1=i by omega]at this;unfold Ld at this;rw[Hd,aY,KF,Hc]at this;cases h9:ltStr (D5 l i).lot (D5 l (i+1)).lot with
  |true=>rfl
  |false=>exact Ak (Qy this.1 h9) this.2
 ·obtain⟨i,hi,e⟩:=ND hs
  have:=hat i hi
  have e2:D5 l i=s:=by
   unfold D5;rw[EM,By hi,e];rfl
  rw[e2]at this;exact⟨this.1,this.2.1⟩
theorem bJ {x:AE}(h:Cn x=0):G1 x.shs=0:=by
 unfold Cn at h;split at h
 ·cases h
 split at h
 ·cases h
 exact h
theorem gH {k:List UInt8}:∀ {l:List Au},(l.Pairwise λs t=>ltStr s.lot t.lot=true)->(∀s∈l,nb (Bv s.part) Cg Cg)->nb (DL k (l.map λs=>(s.lot,Bv s.part))) Cg Cg
 | [],_,_=>VX.mono (BX _) (by decide)
 |s::l,h,hb=>by
  have hp:=DR.1 h;show nb (if s.lot=k then Bv s.part+DL k (l.map λs=>(s.lot,Bv s.part))else DL k (l.map λs=>(s.lot,Bv s.part))) Cg Cg
  by_cases hk:s.lot=k
  ·rw[AH hk]
   have:∀L:List Au,(∀t∈L,t.lot≠k)->DL k (L.map λs=>(s.lot,Bv s.part))=0:=λL=>by
    induction L with
    |nil=>intro _;rfl
    |cons t L ih=>
     intro hq;show(if t.lot=k then _ else _)=_;rw[AG (hq t (B3 ..))];exact ih λu hu=>hq u (CA _ hu)
   rw[this l λt ht e=>jX (hp.1 t ht) (hk.trans e.symm),Rat.add_zero];exact hb s (B3 ..)
  ·rw[AG hk]
   exact gH hp.2 λt ht=>hb t (CA _ ht)
theorem pv {S t:Rat}{i Q:Nat}(hS:nb S (i*Q*Cg^i) (Cg^i))(ht:nb t Q Cg):nb (S+t) ((i+1)*Q*Cg^(i+1)) (Cg^(i+1)):=by
 refine(gV hS ht).mono ?_ (Nat.le_of_eq (CU ..).symm);rw[CU,B0,B0,JO,B7 (i*Q)];refine Nat.add_le_add_left ?_ _;refine Cr _ ?_;exact Nat.le_mul_of_pos_right _ (by decide)
def IL:Nat:=Cg*1000000000
theorem j0 {k:List UInt8}:∀ {l:List AE},(∀x∈l,nb (Gr k x) Cg Cg/\0<=x.mass/\x.mass<=1000000000)->nb (Dd k l) (l.length*IL*Cg^l.length) (Cg^l.length)
 | [],_=>VX.mono (BX _) (by decide)
 |x::l,h=>by
  have hx:=h x (B3 ..);have ih:=j0 (k:=k) (l:=l) λy hy=>h y (CA _ hy)
  show nb (Gr k x*(x.mass:Rat)+Dd k l) _ _;rw[Rat.add_comm];exact pv ih ((xq hx.1 (xn x.mass (n:=1000000000) (by omega))).mono (An _) (by rw[Ea];exact An _))
theorem yX {r:Rat}{n:Nat}(hn:n<=12)(h:nb r (n*IL*Cg^n) (Cg^n)):DH r=false:=by
 have h1:Cg^n<=Cg^12:=FU (by decide) hn;have h2:n*IL*Cg^n<=12*IL*Cg^12:=GG (CS _ hn) h1;have h3:12*IL*Cg^12<Sz:=by decide
 have h4:Cg^12<Sz:=by decide
 exact xm h (Dc h2 h3) (Dc h1 h4)
theorem Vr {k:List UInt8}{v:Rat}:∀ {Q:BR},EF Q->(k,v)∈Q->Cs k Q=some v
 | [],_,h=>by cases h
 |p::l,hs,h=>by
  have hp:=DR.1 hs;unfold Cs;rcases A8.1 h with rfl|h
  ·rw[AH rfl]
  ·rw[AG (λe=>by
    have:=hp.1 _ h
    rw[e,swo_ltStr.irrefl]at this;cases this)]
   exact Vr hp.2 h
theorem Uu {l:List AE}(hp:Bk l=0)(hn:l.length<=12)(hl:∀y∈l,y.lite):OF l=0/\OG l=DB l/\∀p∈DB l,DH p.2=false/\nb p.2 (12*IL*Cg^12) (Cg^12):=by
 have hpn:=Dz hp;have hlay:=(IX hp).2.1;have hall:∀p∈DB l,DH p.2=false/\nb p.2 (12*IL*Cg^12) (Cg^12):=λp h=>by
  have h1:=Vr (MZ l) h;rw[UX]at h1;split at h1
  ·have hv:Dd p.1 l=p.2:=FY h1
   have hb:=j0 (k:=p.1) (l:=l) λx hx=>by
    have hs:=zB (bJ (hlay x hx));exact⟨gH hs.1 λs hs2=>bl (hs.2 s hs2).1 ((hl x hx).2 s hs2).2,by have:=(hpn.2.1 x hx).1;omega,(hpn.2.1 x hx).2.1⟩
   rw[hv]at hb;have h1:Cg^l.length<=Cg^12:=FU (by decide) hn;exact⟨yX hn hb,hb.mono (GG (CS _ hn) h1) h1⟩
  ·cases h1
 have hperm:(DB l).Perm (CR l):=by
  obtain⟨_,h2⟩:=Rc l l.length (An _)
  rwa [DJ]at h2
 have hany:(CR l).any (λp=>DH p.2)=false:=by
  rw[List.any_eq_false];intro p h;rw[(hall p (hperm.mem_iff.2 h)).1];exact Bool.false_ne_true
 refine⟨?_,?_,hall⟩
 ·unfold OF Ia
  rw[AG (λq=>q hp),hany];rfl
 ·unfold OG Jm
  rw[AG (λq=>q hp),hany,AG (by decide),Ut]
theorem UD {x:As}{c:List AE}{m:Nat}(hm:m<=(BK c).length):(DK x c m++Cc x c m).Perm (BK c):=by
 have ha:=PS x c m;unfold DK Cc;generalize DD x c m=a at*;generalize BK c=U at*;have e1:U=U.take a++((U.drop a).take (U.length-m)++U.drop (U.length-(m-a))):=by
  have:(U.drop a).drop (U.length-m)=U.drop (U.length-(m-a)):=by rw[List.drop_drop,show a+(U.length-m)=U.length-(m-a) by omega]
  rw[<-this,FF,FF]
 have e2:U.reverse.take (m-a)=(U.drop (U.length-(m-a))).reverse:=by rw[List.take_reverse]
 rw[e2]
 conv=>rhs;rw[e1]
 refine((List.Perm.append_right _ (List.Perm.append_right _ (List.reverse_perm _))).trans ?_);rw[Dh];refine List.perm_append_comm.trans ?_;rw[Dh]
theorem uG {x:As}{k:Nat}(h:Cw x=0)(hk:k<x.cells.length):Kf x [(k:Int)]=0:=by
 unfold Kf;rw[AG (λq=>q h)]
 have:Jz x (k:Int)=true:=by
  unfold Jz EH;rw[BY,decide_eq_true_iff,decide_eq_true_iff];omega
 simp[this]
theorem sL {x:As}{k:Nat}{m:Int}(h:Cw x=0)(hk:k<x.cells.length)(hm:0<=m):HU x (k:Int) m=0:=by
 unfold HU;rw[uG h hk,Bg];rfl
theorem Mj {x:As}{k:Nat}(hk:k<x.cells.length):x.cells[k]?=some (Bz x (k:Int)):=by
 unfold Bz;rw[Gk,EM,By hk];rfl
theorem j6 {L:List AE}(h:∀y∈L,y.mass=1):BK L=L:=by
 induction L with
 |nil=>rfl
 |cons x L ih=>
  have hx:=h x (B3 ..);rw[Ho,ih λy hy=>h y (CA _ hy),hx];show x.w 1::L=_;rw[<-hx];rfl
def As.fr (x:As):As:=⟨x.flow,x.core,x.room,999999999,x.cells⟩
theorem tf {l:List Int}(hl:∀v∈l,0<=v/\v<=999999999):EG 999999999 l=false:=by
 refine(Vf ⟨by omega,by omega⟩ λv hv=>by have:=hl v hv;omega).2 λk hk=>?_
 have h1:=hl _ (Av (Pa (l:=l) (i:=k) (by omega)));have h2:=hl _ (Av (Pa hk));omega
theorem UE {x:As}{c:List AE}{m:Nat}(hf:BE (sb x.flow) E3=true):DD x c m=m:=ba hf
theorem Zn (bot:Nat->Bool)(n a:Nat):∀b,GO bot n (a+b)=GO bot n a+GO bot (n-a) b
 | 0=>rfl
 |b+1=>by
  rw[<-Ew,SK,SK,Zn bot n a b,Nat.sub_sub,Ew]
theorem PU {x:As}{c:List AE}{m:Nat}:BK (A9 (Cc x c m))=Cc x c m:=by
 have h1:∀y∈Cc x c m,y.mass=1:=λy hy=>IV y (NT y hy)
 rw[Pj λy hy=>by rw[h1 y hy];omega,j6 h1]
theorem VE {x:As}{c:List AE}{m:Nat}:BK (A9 (DK x c m))=DK x c m:=by
 have h1:∀y∈DK x c m,y.mass=1:=λy hy=>IV y (LH y hy)
 rw[Pj λy hy=>by rw[h1 y hy];omega,j6 h1]
theorem aT {x:As}{k:Nat}{L c:List AE}{m1 m2:Nat}(h:m1+m2<=(BK c).length):Cc (D6 x k L) (A9 (Cc x c m1)) m2=Cc x c (m1+m2)/\DD x c (m1+m2)=DD x c m1+DD (D6 x k L) (A9 (Cc x c m1)) m2:=by
 have hn:=NS (x:=x) (c:=c) (m:=m1) (by omega);have hl:DD (D6 x k L) (A9 (Cc x c m1)) m2=GO (Ki x) ((BK c).length-m1) m2:=by
  unfold DD;rw[PU,hn];rfl
 have hlo:DD x c (m1+m2)=DD x c m1+DD (D6 x k L) (A9 (Cc x c m1)) m2:=by
  rw[hl];exact Zn _ _ _ _
 refine⟨?_,hlo⟩;have h2:=PS (D6 x k L) (A9 (Cc x c m1)) m2;show((BK (A9 (Cc x c m1))).drop (DD (D6 x k L) (A9 (Cc x c m1)) m2)).take ((BK (A9 (Cc x c m1))).length-m2)=((BK c).drop (DD x c (m1+m2))).take ((BK c).length-(m1+m2));rw[PU,hn,hlo];generalize DD (D6 x k L) (A9 (Cc x c m1)) m2=a2 at*;unfold Cc;generalize DD x c m1=a1;generalize BK c=U at*;rw[List.drop_take,List.drop_drop,List.take_take,show min (U.length-m1-m2) (U.length-m1-a2)=U.length-(m1+m2) by omega]
theorem qY {x:As}{k:Nat}{L c:List AE}{m1 m2:Nat}(h:m1+m2<=(BK c).length):(DK x c m1++DK (D6 x k L) (A9 (Cc x c m1)) m2).Perm (DK x c (m1+m2)):=by
 have hn:=NS (x:=x) (c:=c) (m:=m1) (by omega);have p1:=UD (x:=x) (c:=c) (m:=m1) (by omega);have p2:=UD (x:=D6 x k L) (c:=A9 (Cc x c m1)) (m:=m2) (by rw[PU];omega);have p3:=UD (x:=x) (c:=c) (m:=m1+m2) h;rw[PU,(aT (k:=k) (L:=L) h).1]at p2;have p4:(DK x c m1++(DK (D6 x k L) (A9 (Cc x c m1)) m2++Cc x c (m1+m2))).Perm (BK c):=(List.Perm.append_left _ p2).trans p1;rw[<-Dh]at p4;exact(List.perm_append_right_iff _).1 (p4.trans p3.symm)
theorem kn {x:As}{k:Nat}{L c:List AE}{m1 m2:Nat}(h:m1+m2<=(BK c).length)(hf:BE (sb x.flow) E3=true):DK x c m1++DK (D6 x k L) (A9 (Cc x c m1)) m2=DK x c (m1+m2):=by
 have e1:DD x c m1=m1:=UE hf;have e2:DD (D6 x k L) (A9 (Cc x c m1)) m2=m2:=UE hf;have e3:DD x c (m1+m2)=m1+m2:=UE hf;have hn:=NS (x:=x) (c:=c) (m:=m1) (by omega);have hr:Cc x c m1=(BK c).drop m1:=by
  unfold Cc;rw[e1,Co (by rw[Dv];exact An _)]
 unfold DK;rw[e1,e2,e3,PU,hr,Nat.sub_self,Nat.sub_self,Nat.sub_self];simp only[Lx,FE];rw[List.take_add]
theorem tM {l:List AE}(h:∀x∈l,1<=x.mass):A9 (A9 l)=A9 l:=by
 rw[<-Pi (Jf h),Pj λy hy=>by have:=h y hy;omega,Pi h]
theorem rK {x:As}{k:Nat}{A B:List AE}(h:∀c∈x.cells,∀y∈c,1<=y.mass):D6 (D6 x k A) k B=D6 x k B:=by
 have:((((x.cells.map A9).set k A).map A9).set k B)=(x.cells.map A9).set k B:=by
  rw[List.map_set,List.set_set,List.map_map]
  congr 1
  exact L3 λc hc=>tM (h c hc)
 show(⟨x.flow,x.core,x.room,x.side,(((x.cells.map A9).set k A).map A9).set k B⟩:As)=⟨x.flow,x.core,x.room,x.side,(x.cells.map A9).set k B⟩;rw[this]
theorem Vn {x:As}{k:Nat}{m:Int}(h:Cw x=0)(hs:x.side=999999999)(hk:k<x.cells.length)(hl:(Bz x (k:Int)).length<=32)(hm:0<=m/\m<=Ab (Bz x (k:Int))):Fi x (k:Int) m=0:=by
 have h1:=sL h hk hm.1;have hat:=Mj hk;have ok:=KM h1;have hpn:=Dz ok.par;have hnn:=Mo (l:=Bz x (k:Int)) λy hy=>by have:=(hpn.2.1 y hy).1;omega
 have hlv:CN (BV x (k:Int) m)=(CN x).set k ((CN x).getD k 0-m):=by
  show CN (D6 x ((k:Int).toNat) _)=_;rw[Gk,Zq h hat (by omega),show((m.toNat:Nat):Int)=m by omega]
 have hg:=VU h hat;have hst:EG x.side (CN (BV x (k:Int) m))=false:=by
  rw[hlv,hs];refine tf λv hv=>?_
  rcases OZ hv with hv|hv
  ·have:=(Pr h).2 v hv;omega
  ·have:=(Pr h).2 _ (Av (Pa (l:=CN x) (i:=k) (by unfold CN;rw[Ai];exact hk)))
   omega
 have hfl:¬ 64<(B1 x (k:Int) m).length:=by
  have:=UQ (x:=x) (c:=Bz x (k:Int)) (m:=m.toNat) λy hy=>(hpn.2.1 y hy).1
  unfold B1;omega
 unfold Fi;rw[AG (λq=>q h1),CI];unfold KW;rw[hst,AG (by decide),AG hfl]
theorem Rn {x:As}{k:Nat}{m:Int}(hk:k<x.cells.length):Bz (BV x (k:Int) m) (k:Int)=A9 (Cc x (Bz x (k:Int)) m.toNat):=by
 have:(BV x (k:Int) m).cells[k]?=some (A9 (Cc x (Bz x (k:Int)) m.toNat)):=by
  show((x.cells.map A9).set ((k:Int).toNat) _)[k]?=_;rw[Gk,TU (by rw[Ai];exact hk)]
 have h2:=Mj (x:=BV x (k:Int) m) (k:=k) (by rw[show(BV x (k:Int) m).cells.length=x.cells.length from PJ ..];exact hk);rw[this]at h2;exact(FY h2).symm
structure je (x:As)(k:Nat)(m m1:Int):Prop where
 e:Fi x (k:Int) m=0
 e1:Fi x (k:Int) m1=0
 e2:Fi (BV x (k:Int) m1) (k:Int) (m-m1)=0
 b:BV (BV x (k:Int) m1) (k:Int) (m-m1)=BV x (k:Int) m
 lots:Es (DB (B1 x (k:Int) m1)++DB (B1 (BV x (k:Int) m1) (k:Int) (m-m1))) []=DB (B1 x (k:Int) m)
 jn:BE (sb x.flow) E3=true->A9 (B1 x (k:Int) m1++B1 (BV x (k:Int) m1) (k:Int) (m-m1))=B1 x (k:Int) m
theorem sP {x:As}{k:Nat}{m m1:Int}(h:Cw x=0)(hs:x.side=999999999)(hk:k<x.cells.length)(hl:∀c∈x.cells,c.length<=6)(hm:0<=m1/\m1<=m/\m<=Ab (Bz x (k:Int))):je x k m m1:=by
 have hat:=Mj hk;have hl6:=hl _ (Av hat);have e:=Vn (m:=m) h hs hk (by omega) ⟨by omega,hm.2.2⟩;have e1:=Vn (m:=m1) h hs hk (by omega) ⟨hm.1,by omega⟩;have v1:=Ps e1;have ok:=KM v1.one;have hpn:=Dz ok.par;have hpos:∀y∈Bz x (k:Int),1<=y.mass:=λy hy=>(hpn.2.1 y hy).1
 have hnn:=Mo (l:=Bz x (k:Int)) λy hy=>by have:=hpos y hy;omega
 have hk1:k<(BV x (k:Int) m1).cells.length:=by rw[show(BV x (k:Int) m1).cells.length=x.cells.length from PJ ..];exact hk
 have hc1:=Rn (x:=x) (k:=k) (m:=m1) hk;have hsum:=(Vd (x:=x) (c:=Bz x (k:Int)) (m:=m1.toNat) hpos (by omega)).2.2;have hlen1:=NP (x:=x) (c:=Bz x (k:Int)) (m:=m1.toNat) hpos;have e2:=Vn (x:=BV x (k:Int) m1) (k:=k) (m:=m-m1) v1.bin hs hk1 (by rw[hc1];omega) ⟨by omega,by rw[hc1,hsum];omega⟩;have hmm:m1.toNat+(m-m1).toNat=m.toNat:=by omega
 have hmn:m1.toNat+(m-m1).toNat<=(BK (Bz x (k:Int))).length:=by omega
 have hO1:BV x (k:Int) m1=D6 x k (A9 (Cc x (Bz x (k:Int)) m1.toNat)):=by unfold BV;rw[Gk]
 have hr2:=(aT (x:=x) (k:=k) (L:=A9 (Cc x (Bz x (k:Int)) m1.toNat)) hmn).1;have hall:∀c∈x.cells,∀y∈c,1<=y.mass:=λc hc y hy=>((Dz (Gz (I5 h c hc)).1).2.1 y hy).1
 have u1:∀y∈DK x (Bz x (k:Int)) m1.toNat,1<=y.mass:=λy hy=>by rw[IV y (LH y hy)];exact Int.le_refl _
 have u2:∀y∈DK (BV x (k:Int) m1) (Bz (BV x (k:Int) m1) (k:Int)) (m-m1).toNat,1<=y.mass:=λy hy=>by rw[IV y (LH y hy)];exact Int.le_refl _
 have u3:∀y∈DK x (Bz x (k:Int)) m.toNat,1<=y.mass:=λy hy=>by rw[IV y (LH y hy)];exact Int.le_refl _
 refine⟨e,e1,e2,?_,?_,λhf=>?_⟩
 ·show D6 (BV x (k:Int) m1) ((k:Int).toNat) (A9 (Cc (BV x (k:Int) m1) (Bz (BV x (k:Int) m1) (k:Int)) (m-m1).toNat))=D6 x ((k:Int).toNat) (A9 (Cc x (Bz x (k:Int)) m.toNat))
  rw[hc1,hO1,hr2,hmm,Gk];exact rK hall
 ·refine ql (Jf u3) (Jf u1) (Jf u2) ?_
  show(BK (A9 (DK x (Bz x (k:Int)) m1.toNat))++BK (A9 (DK (BV x (k:Int) m1) (Bz (BV x (k:Int) m1) (k:Int)) (m-m1).toNat))).Perm (BK (A9 (DK x (Bz x (k:Int)) m.toNat)));rw[VE,VE,VE,hc1,hO1,<-hmm];exact qY hmn
 ·show A9 (A9 (DK x (Bz x (k:Int)) m1.toNat)++A9 (DK (BV x (k:Int) m1) (Bz (BV x (k:Int) m1) (k:Int)) (m-m1).toNat))=A9 (DK x (Bz x (k:Int)) m.toNat)
  rw[VY u1 u2,hc1,hO1,<-hmm,kn hmn hf]
theorem e0F (x:As)(hl:x.cells.length<=9223372036854775807)(hs:∀c∈x.cells,c.length<=9223372036854775807/\∀y∈c,y.shs.length<=9223372036854775807):AK C0 4 [x.D] (Ap (QJ x)):=by
 refine Af.walk w1 e0s rfl λF=>?_
 have cS:=qm x hl hs;have hk:=@gA x;have cF:=d9k x 999999999;have hE:QJ x=(Lm x&&ON x 999999999):=rfl;have hx:∃a b c d e,x.D=.agg [a,b,c,d,e]:=⟨_,_,_,_,_,rfl⟩
 have px:AA x.D:=AJ;have px2:AW x.D:=AJ;obtain⟨a1,a2,a3,a4,a5,hx⟩:=hx;rw[hx]at cS cF px px2⊢;rw[hE];cases hsh:Lm x
 ·rw[hsh]at cS
  rw[ID];refine AI AZ kB cS AB AB AB AB AB ?_;exact AM rfl AA.out
 rw[hsh]at cS;rw[HF];obtain⟨k1,k2,k3⟩:=hk hsh;have cF:=cF (by omega) λc q=>⟨by have:=(k3 c q).2;omega,λy h=>((k3 c q).1 y h).2⟩
 refine AI AZ kB cS cF AB AB AB AB ?_;exact AM rfl AA.out
structure Wz (x:As):Prop where
 sm:iD x 999999999
 few:∀c∈x.cells,∀y∈c,y.lite/\y.modr
 shr:Lm x=true
theorem xk {x:As}(h:QJ x=true):Wz x:=by
 unfold QJ at h;rw[BY]at h;obtain⟨k1,k2,k3⟩:=gA h.1;exact⟨uS h.2,λc hc=>(k3 c hc).1,h.1⟩
theorem U8 {x:As}{i m:Int}(h:Fi x i m=0):W5 x i m=BV x i m:=AG λq=>q h
theorem U9 {x:As}{i m:Int}(h:Fi x i m=0):W6 x i m=B1 x i m:=AG λq=>q h
theorem b6 {A:BR}(h:EF A)(k:Nat):EF (A.take k):=h.sublist (List.take_sublist k A)
theorem Wn {p:List UInt8}{N D:Nat}(hD:1<=D):∀ {Q:BR},(∀z∈Q,nb z.2 N D)->nb ((Cs p Q).getD 0) N D
 | [],_=>VX.mono (BX _) hD
 |a::Q,h=>by
  unfold Cs
  by_cases e:a.1=p
  ·rw[AH e];exact h a (B3 ..)
  ·rw[AG e];exact Wn hD λz hz=>h z (CA _ hz)
theorem rX {A B:BR}{N D:Nat}(hD:1<=D)(hA:EF A)(hB:EF B)(hn:∀z∈A++B,nb z.2 N D)(k:Nat):∀z∈Es ((A++B).take k) [],nb z.2 (N*D+N*D) (D*D):=λz hz=>by
 have h1:=Vr (aB List.Pairwise.nil) hz;rw[RF List.Pairwise.nil]at h1;split at h1
 ·have e:(0:Rat)+DL z.1 ((A++B).take k)=z.2:=FY h1
  rw[Rat.zero_add,List.take_append,RS,(Oy (b6 hA k)).2,(Oy (b6 hB _)).2]at e;rw[<-e];exact gV (Wn hD λy hy=>hn y (HK _ (E8 hy))) (Wn hD λy hy=>hn y (List.mem_append_right _ (E8 hy)))
 ·cases h1
theorem UR:∀ {ts Q:BR},(Es ts Q).length<=Q.length+ts.length
 | [],Q=>An _
 |t::ts,Q=>by
  have h1:=UR (ts:=ts) (Q:=DZ t.1 t.2 Q);have h2:=Zg (lot:=t.1) (r:=t.2) (l:=Q);show(Es ts (DZ t.1 t.2 Q)).length<=_;rw[Br];omega
theorem d9l {r:Rat}(h:nb r (12*IL*Cg^12*Cg^12+12*IL*Cg^12*Cg^12) (Cg^12*Cg^12)):rk r 60:=Wt h (by decide) (by decide)
theorem e0P {r:Rat}(h:nb r (12*IL*Cg^12) (Cg^12)):rk r 60:=Wt h (by decide) (by decide)
theorem yN (b1 b2:Bool)(A B:BR)(hA:EF A)(hB:EF B)(hl:A.length<=1000/\B.length<=1000)(hn:∀z∈A++B,DH z.2=false/\nb z.2 (12*IL*Cg^12) (Cg^12))(ht:∀z∈A++B,(A0 z.2).length<=100000):
  AK C0 11 [.sl b1 2 (A.map Bo),.sl b2 2 (B.map Bo)] (.sl false 2 ((Es (A++B) []).map Bo)):=by
 refine Af.walk w1 zS rfl λF=>?_
 have hAl:(A.map Bo).length=A.length:=Ai ..;have hBl:(B.map Bo).length=B.length:=Ai ..;have hAB:A.map Bo++B.map Bo=(A++B).map Bo:=DN.symm;have hfn:=rX (by decide) hA hB λz hz=>(hn z hz).2
 have hlen:(A++B).length<=2000:=by rw[Be];omega
 obtain⟨W,hW⟩:∃W,A++B=W:=⟨_,rfl⟩
 rw[hW]at hAB hn ht hfn hlen⊢;have hWl:W.length=A.length+B.length:=by rw[<-hW,Be]
 have hfl:∀k,(Es (W.take k) []).length<=2000:=λk=>by
  have:=UR (ts:=W.take k) (Q:=[])
  rw[Bc]at this;simp at this;omega
 obtain⟨AD,hAD⟩:∃T,A.map Bo=T:=⟨_,rfl⟩
 have pAD:AA (.sl b1 2 AD):=by rw[<-hAD];exact AJ
 obtain⟨BD,hBD⟩:∃T,B.map Bo=T:=⟨_,rfl⟩
 have pBD:AA (.sl b2 2 BD):=by rw[<-hBD];exact AJ
 rw[hAD]at hAl hAB⊢;rw[hBD]at hBl hAB⊢;have f1:∀l:List D,([]:List D)++l=l:=FE;have f2:∀n,List.take n ([]:List D)=[]:=λn=>List.take_nil
 refine AI AZ (Ar f1 f2 BW) AB AB AB AB AB AB ?_;have hWD:AD++BD=W.map Bo:=hAB;obtain⟨WD,hWD2⟩:∃T,W.map Bo=T:=⟨_,rfl⟩
 have hWDl:WD.length=AD.length+BD.length:=by rw[<-hWD2,<-hWD,Be]
 have hWDn:WD.length=W.length:=by rw[<-hWD2,Ai]
 have pWD:AA (.sl false 2 WD):=by rw[<-hWD2];exact AJ
 have tk0:AD.take AD.length=AD:=DJ;rw[tk0,hWD,hWD2];have hx0:((AD.length:Int)+(BD.length:Int))=(W.length:Int):=by omega
 have hx1:(((AD.length+BD.length:Nat):Int))=(W.length:Int):=by omega
 have hx2:AD.length+BD.length=W.length:=by omega
 try rw[hx1]
 try rw[hx0]
 refine AC.loop (α:=Nat×Nat) (λp=>⟨[(5,.sl false 2 ((Es (W.take p.1) []).map Bo)),(15,.sl false 2 WD),(16,i64 (W.length:Int)),(17,i64 (p.1:Int))],[],p.2⟩) (λp=>W.length-p.1) (λq=>q.1<=W.length) (0,_) (BX _) (AL (b:=⟨.nil 2,V3 rfl rfl hWDl.symm,.refl _,.refl _,trivial⟩)) ?_;rintro⟨i,n⟩ F hi;dsimp only at hi⊢;rcases BG i W.length with h2|h2
 rotate_left
 ·have e1:=Cf h2
  have:i=W.length:=by omega
  subst this;rw[DJ];have hFl0:=hfl W.length;rw[DJ]at hFl0;obtain⟨Fl,hFl⟩:∃T,Es W []=T:=⟨_,rfl⟩
  rw[hFl]at hFl0⊢;obtain⟨FD,hFD⟩:∃T,Fl.map Bo=T:=⟨_,rfl⟩
  have hFDl:FD.length=Fl.length:=by rw[<-hFD,Ai]
  have pFD:AA (.sl false 2 FD):=by rw[<-hFD];exact AJ
  have el:((FD.length:Nat):Int)=(Fl.length:Int):=by rw[hFDl]
  have hF0:FD.take 0=[]:=rfl;rw[hFD];refine AI AZ (Ad e1 el) AB AB AB AB AB AB ?_;refine AC.ghost 1307 70 2 [(8,.osl 1307 _ 2 0 0),(32,.sl false 2 FD),(33,i64 (Fl.length:Int)),(34,i64 ((0:Nat):Int))] ⟨.inr ⟨rfl,rfl⟩,.inl rfl,.inl rfl,.inl rfl,trivial⟩ ?_;refine AC.loop (α:=Nat×Nat×Nat) (λp=>⟨[(8,.osl 1307 p.2.1 2 0 p.1),(32,.sl false 2 FD),(33,i64 (Fl.length:Int)),(34,i64 (p.1:Int))],[⟨1307,p.2.1,70,2,FD.take p.1⟩],p.2.2⟩) (λp=>Fl.length-p.1) (λq=>q.1<=Fl.length) (0,_,_) (BX _) AL ?_;rintro⟨j,g,n2⟩ F hj;dsimp only at hj⊢;rcases BG j Fl.length with h3|h3
  rotate_left
  ·have e2:=Cf h3
   have:j=Fl.length:=by omega
   subst this;have htk:FD.take Fl.length=FD:=by rw[<-hFDl];exact DJ
   rw[htk];have hf:=HQ (H:=[⟨1307,g,70,2,FD⟩]) (Hf:=[]) (k:=1307) (g:=g) (T:=70) (sz:=2) (l:=FD) rfl;rw[hFDl]at hf;refine AI AZ e2 AB AB AB AB AB AB ?_;exact⟨_,hf,AA.out,rfl⟩
  have e2:=Cd h3;have wj:=Cj (i:=j) (by omega);obtain⟨p,hp⟩:=CQ h3;have hm:FD[j]?=some (.agg [str (sb p.1),str (sb (A0 p.2))]):=by rw[<-hFD,BC,hp];rfl
  have htk:(FD.take j).take j=FD.take j:=by rw[List.take_take,Nat.min_self]
  have htk1:FD.take (j+1)=FD.take j++[.agg [str (sb p.1),str (sb (A0 p.2))]]:=by rw[D8,hm];rfl
  have hlj:(FD.take j).length=j:=by rw[Bc,hFDl];omega
  refine AI AZ (CT e2 wj htk hlj kN) hm AB AB AB AB AB ?_;refine⟨(j+1,?ga,n2+1000),h3,by dsimp only;omega,?_⟩
  rotate_left
  ·dsimp only
   rw[htk1];exact AL
 have e1:=Cd h2;have wi:=Cj (i:=i) (by omega);obtain⟨p,hp⟩:=CQ h2;have hpm:=Av hp;have hm:WD[i]?=some (.agg [str (sb p.1),str (sb (A0 p.2))]):=by rw[<-hWD2,BC,hp];rfl
 have cC:=gh (A0 p.2) (ht p hpm);rw[ae (hn p hpm).1]at cC;have z0:(((0:Nat):Int) != 0)=false:=rfl;have z1:((0:Int) != 0)=false:=rfl;have hs:Es (W.take (i+1)) []=DZ p.1 p.2 (Es (W.take i) []):=by
  rw[D8,hp,Yt];rfl
 have hfi:=hfn i;have hli:=hfl i;obtain⟨Q,hQ⟩:∃Q,Es (W.take i) []=Q:=⟨_,rfl⟩
 rw[hQ]at hs hfi hli⊢;have cP:=e0Z Q p.1 p.2 60 (by omega) (λz hz=>d9l (hfi z hz)) (e0P (hn p hpm).2) (by decide);rw[<-hs]at cP;unfold rR at cP;refine AI AZ (CT e1 wi z0 z1 kN) hm cC cP AB AB AB ?_;exact⟨(i+1,_),h2,by dsimp only;omega,AL⟩
theorem au (x:As):∃a b c d e,x.D=.agg [a,b,c,d,.sl false 1 e]:=⟨_,_,_,_,_,rfl⟩
theorem rH {r:Rat}(h:DH r=false):(A0 r).length<=1300:=by
 unfold DH at h;simp only[Hd,Hc]at h;have h1:(Lib.itoa r.num).length<=(Lib.decDigits r.num.natAbs).length+1:=by
  have:=MY r.num
  have h2:=congrArg List.length this.2;unfold Bw at h2;split at h2
  ·rw[Dv]at h2;omega
  ·omega
 unfold A0;split
 ·omega
 ·rw[Be,Br];omega
theorem ab:∀ {l:List AE},(∀x∈l,x.shs.length<=64)->(Kb l).length<=l.length*64
 | [],_=>An _
 |x::l,h=>by
  have h1:=ab (l:=l) λy hy=>h y (CA _ hy)
  have h2:=h x (B3 ..);show((x.shs.map _)++Kb l).length<=_;rw[Be,Ai,Br];omega
structure JH (l:List AE):Prop where
 par:Bk l=0
 len:l.length<=12
 lite:∀y∈l,y.lite
theorem UY {l:List AE}(h:JH l):(DB l).length<=1000:=by
 rw[Yc];have h1:=UR (ts:=Kb l) (Q:=[]);have h2:=ab (l:=l) λx hx=>(UC (bJ ((IX h.par).2.1 x hx))).2.1
 have:=h.len
 simp at h1;omega
theorem Wo {l:List AE}(h:JH l):AK C0 9 [Aj false l] (.tup [.sl false 2 ((DB l).map Bo),i64 0]):=by
 have h1:=j7 false l (by have:=h.len;omega) h.lite;obtain⟨h2,h3,_⟩:=Uu h.par h.len h.lite;rw[h2,h3]at h1;exact h1
theorem e0d {A B:List AE}(hA:JH A)(hB:JH B):AK C0 11 [.sl false 2 ((DB A).map Bo),.sl false 2 ((DB B).map Bo)] (.sl false 2 ((Es (DB A++DB B) []).map Bo)):=by
 have h:∀z∈DB A++DB B,DH z.2=false/\nb z.2 (12*IL*Cg^12) (Cg^12):=λz hz=>by
  rcases Bl.1 hz with q|q
  ·exact(Uu hA.par hA.len hA.lite).2.2 z q
  ·exact(Uu hB.par hB.len hB.lite).2.2 z q
 exact yN false false _ _ (MZ A) (MZ B) ⟨UY hA,UY hB⟩ h λz hz=>by have:=rH (h z hz).1;omega
theorem d9o {l:List AE}(h:JH l):AK C0 10 [.sl false 2 ((DB l).map Bo),.sl false 2 ((DB l).map Bo)] (Ap true):=by
 have h1:=zu false false ((DB l).map λp=>(p.1,A0 p.2)) (by rw[Ai];have:=UY h;omega);rw[List.map_map]at h1;exact h1
theorem Ui {x:As}{i m:Int}(h:Fi x i m=0)(hc:∀c∈x.cells,∀y∈c,y.lite/\y.modr):(∀c∈(BV x i m).cells,∀y∈c,y.lite/\y.modr)/\∀y∈B1 x i m,y.lite/\y.modr:=by
 have v:=Ps h;have ok:=KM v.one;have hk:=zO (x:=x) (i:=i) (m:=m) ok.at_;have hm:=Av ok.at_;refine⟨λc hq=>?_,λy hy=>⟨Vq (hk.2 y hy) λz hz=>(hc _ hm z hz).1,gT (hk.2 y hy) λz hz=>(hc _ hm z hz).2⟩⟩;obtain⟨e,he,hke⟩:=hk.1 c hq;exact λy hy=>⟨Vq (hke y hy) λz hz=>(hc e he z hz).1,gT (hke y hy) λz hz=>(hc e he z hz).2⟩
structure zZ (x:As)(k:Nat)(m:Int):Prop where
 le:m<=Wq x.side (CN x) k
 bin:Cw (BV x (k:Int) m)=0
 flow:JH (B1 x (k:Int) m)
 fsum:Ab (B1 x (k:Int) m)=m
 rest:JH (Bz (BV x (k:Int) m) (k:Int))
 rsum:Ab (Bz (BV x (k:Int) m) (k:Int))=Ab (Bz x (k:Int))-m
 cel:JH (Bz x (k:Int))
 oth:∀i c,i≠k->x.cells[i]?=some c->(BV x (k:Int) m).cells[i]?=some (A9 c)
theorem Zi {x:As}{k:Nat}{m:Int}(hv:Wz x)(hk:k<x.cells.length)(hm:0<=m)(h:Fi x (k:Int) m=0):zZ x k m:=by
 have v:=Ps h;have ok:=KM v.one;have hat:=Mj hk;have hmem:=Av hat;have hpn:=Dz ok.par;have hnn:=ok.nn;have hmm:=ok.mm;have hmle:=v.mle;have hl6:=hv.sm.len _ hmem;have hpos:∀y∈Bz x (k:Int),1<=y.mass:=λy hy=>(hpn.2.1 y hy).1
 have hf2:=Ui h hv.few;obtain⟨s1,s2,s3,s4⟩:=ZW hv.sm.bin;have hkO:k<(BV x (k:Int) m).cells.length:=by rw[show(BV x (k:Int) m).cells.length=x.cells.length from PJ ..];exact hk
 have hatO:=Mj hkO;have hmO:=Av hatO;have hrl:=NP (x:=x) (c:=Bz x (k:Int)) (m:=m.toNat) hpos;have hfl:=UQ (x:=x) (c:=Bz x (k:Int)) (m:=m.toNat) hpos;have hrs:=(Vd (x:=x) (c:=Bz x (k:Int)) (m:=m.toNat) hpos (by omega)).2.2;have hi:k<(CN x).length:=by unfold CN;rw[Ai];exact hk
 refine⟨?_,v.bin,⟨v.par,by unfold B1;omega,λy hy=>(hf2.2 y hy).1⟩,?_,⟨(Gz (I5 v.bin _ hmO)).1,by rw[Rn hk];omega,λy hy=>(hf2.1 _ hmO y hy).1⟩,by rw[Rn hk,hrs];omega,⟨ok.par,by omega,λy hy=>(hv.few _ hmem y hy).1⟩,λi c hik hc=>?_⟩
 ·refine(tg (m:=m) ⟨s1,by omega⟩ (λv hv2=>by have:=(Pr hv.sm.bin).2 v hv2;omega) hi (R8 hv.sm.bin).2 ⟨hm,by rw[VU hv.sm.bin hat];omega⟩).1 ?_
  have:=v.stp
  rwa [show CN (BV x (k:Int) m)=(CN x).set k ((CN x).getD k 0-m) by
   show CN (D6 x ((k:Int).toNat) _)=_;rw[Gk,Zq hv.sm.bin hat (by omega),show((m.toNat:Nat):Int)=m by omega]]at this
 ·show Ab (A9 (DK x (Bz x (k:Int)) m.toNat))=m
  rw[Um (by omega)];omega
 ·show((x.cells.map A9).set ((k:Int).toNat) _)[i]?=_
  rw[Gk,Il (λq=>hik q.symm),BC,hc];rfl
abbrev HR:Dr:=[(2,[0,1,2,3,4,5,6,7,8,9,10,11,12,13,14,15,16,17,18,19,20,21,22,23,24,25,26,27],[28,29])]
open Go.Proofs Go.RowKit Go.Sort
set_option maxRecDepth 20000
set_option maxHeartbeats 4000000
theorem yY {c:Int}(h:(Lit.int .u32 c).wf=true):0<=c/\c<4294967296:=by
 simp only[Lit.wf,BY,Gi]at h;have h1:IntKind.u32.min=0:=by kernel_rfl
 have h2:IntKind.u32.max=4294967295:=by kernel_rfl
 rw[h1,h2]at h;omega
theorem tC {x:As}(h:Cw x=0)(hf:BE (sb x.flow) IP=false):BE (sb x.flow) E3=true:=by
 have h1:=(R8 h).1;rw[SG]at h1;cases hm:BE (sb x.flow) E3
 ·rw[hm,hf]at h1
  have h2:(20:Int)=0:=h1;cases h2
 ·rfl
structure tZ (x:As)(k:Nat)(m m1:Int):Prop where
 p:je x k m m1
 bin:Cw (BV x (k:Int) m)=0
 f0:JH (B1 x (k:Int) m)
 f1:JH (B1 x (k:Int) m1)
 f2:JH (B1 (BV x (k:Int) m1) (k:Int) (m-m1))
 s1:Ab (B1 x (k:Int) m1)=m1
 s2:Ab (B1 (BV x (k:Int) m1) (k:Int) (m-m1))=m-m1
 few:(BV x (k:Int) m1).cells.length<=1000000/\∀c∈(BV x (k:Int) m1).cells,c.length<=1000000/\∀y∈c,y.few
theorem li {x:As}{k:Nat}{m m1:Int}(hv:Wz x)(hs:x.side=999999999)(hk:k<x.cells.length)(hm:0<=m1/\m1<=m/\m<=Ab (Bz x (k:Int))):tZ x k m m1:=by
 have P:=sP hv.sm.bin hs hk hv.sm.len hm;have Y0:=Zi hv hk (by omega) P.e;have Y1:=Zi hv hk hm.1 P.e1;have v1:=Ps P.e1;have v2:=Ps P.e2;have ok1:=KM v1.one;have ok2:=KM v2.one;have hn1:=ok2.nn;have hn2:=ok2.mm;have hn3:=v2.mle;have hpn1:=Dz ok1.par;have hpn2:=Dz ok2.par;have hl6:=hv.sm.len _ (Av (Mj hk));have hd1:=Ui P.e1 hv.few;have hd2:=Ui P.e2 hd1.1;have hr:=NP (x:=x) (c:=Bz x (k:Int)) (m:=m1.toNat) λy hy=>(hpn1.2.1 y hy).1
 have hf:=UQ (x:=BV x (k:Int) m1) (c:=Bz (BV x (k:Int) m1) (k:Int)) (m:=(m-m1).toNat) λy hy=>(hpn2.2.1 y hy).1
 have hn4:=hv.sm.n;refine⟨P,Y0.bin,Y0.flow,Y1.flow,⟨v2.par,?_,λy hy=>(hd2.2 y hy).1⟩,Y1.fsum,?_,by rw[show(BV x (k:Int) m1).cells.length=x.cells.length from PJ ..];omega,λc hc=>⟨?_,λy hy=>(hd1.1 c hc y hy).1.1⟩⟩
 ·unfold B1
  rw[Rn hk]at hf⊢;omega
 ·show Ab (A9 (DK (BV x (k:Int) m1) (Bz (BV x (k:Int) m1) (k:Int)) (m-m1).toNat))=m-m1
  rw[Um (by omega)];omega
 ·have:=(Dz (Gz (I5 v1.bin c hc)).1).1
  omega
theorem r7 (ha:AK C0 6 [] (Ap true))(x:As)(hl:x.cells.length<=9223372036854775807)(hs:∀c∈x.cells,c.length<=9223372036854775807/\∀y∈c,y.shs.length<=9223372036854775807)(f t m p:Int)(hp:0<=p/\p<4294967296):AK C0 3 [x.D,.agg [i64 f,i64 t,i64 m],.prim (.int .u32 p)] (Ap true):=by
 refine Af.walk w1 e0r rfl λF=>?_
 have cS:=e0F x.fr hl hs;have hk:=@xk x.fr;have cD:=jL x.fr;have cLv:=λk c h1 h2 h3=>WO x.fr k c h1 h2 h3
 have el:(((x.cells.map (Aj false)).length:Nat):Int)=(x.cells.length:Int):=by rw[Ai]
 have hcells:x.fr.cells=x.cells:=rfl;have hflow:x.fr.flow=x.flow:=rfl;have hside:x.fr.side=999999999:=rfl;have hYD:x.fr.D=.agg [str (sb x.flow),i64 x.core,i64 x.room,i64 999999999,.sl false 1 (x.cells.map (Aj false))]:=rfl;have pX:AA x.D:=AJ;have cX:AW x.D:=AJ;have pY:AA x.fr.D:=AJ;have cY:AW x.fr.D:=AJ;rw[ub]at pX cX⊢;rw[hYD]at cS cD cLv pY cY;obtain⟨XD,hXD⟩:∃X,x.cells.map (Aj false)=X:=⟨_,rfl⟩
 rw[hXD]at cS cD cLv pX cX pY cY el⊢;obtain⟨Y,hY⟩:∃Y,x.fr=Y:=⟨_,rfl⟩
 rw[hY]at cS hk cD cLv hcells hflow hside;rw[<-hflow]at cS cD cLv pX cX pY cY⊢;rw[<-hcells]at el;clear hYD hXD hY hl hs;cases hsh:QJ Y
 ·rw[hsh]at cS
  refine AI HR kB cS ha AB AB AB AB ?_;exact AM rfl AA.out
 rw[hsh]at cS
 by_cases g1:f<0
 ·have k1:decide (f<0)=true:=Ax g1
  refine AI HR (Ar k1 kT kF) cS ha AB AB AB AB ?_;exact AM rfl AA.out
 have k1:decide (f<0)=false:=Ay g1
 by_cases g2:f>=(Y.cells.length:Int)
 ·have k2:decide (f>=(Y.cells.length:Int))=true:=Ax g2
  refine AI HR (CT k1 k2 el kT kF) cS ha AB AB AB AB ?_;exact AM rfl AA.out
 have k2:decide (f>=(Y.cells.length:Int))=false:=Ay g2
 by_cases g3:m<0
 ·have k3:decide (m<0)=true:=Ax g3
  refine AI HR (ER k1 k2 k3 el kT kF) cS ha AB AB AB AB ?_;exact AM rfl AA.out
 have k3:decide (m<0)=false:=Ay g3;have hv:=hk hsh;obtain⟨k,rfl⟩:∃k:Nat,f=(k:Int):=⟨f.toNat,by omega⟩
 have hkl:k<Y.cells.length:=by omega
 have hn4:=hv.sm.n;have hat:=Mj hkl;have cL:=cLv k _ hat (Dz (Gz (I5 hv.sm.bin _ (Av hat))).1).2.2 (by omega);have hS9:=hv.sm.mass _ (Av hat)
 by_cases g4:m>Ab (Bz Y (k:Int))
 ·have k4:decide (m>Ab (Bz Y (k:Int)))=true:=Ax g4
  refine AI HR (CY k1 k2 k3 k4 el kT kF) cS cL ha AB AB AB ?_;exact AM rfl AA.out
 have k4:decide (m>Ab (Bz Y (k:Int)))=false:=Ay g4;have hfw:∀c∈Y.cells,c.length<=1000000/\∀y∈c,y.few:=λc hc=>⟨by have:=hv.sm.len c hc;omega,λy hy=>(hv.few c hc y hy).1.1⟩
 obtain⟨m1,hm1⟩:∃q,p.tmod (m+1)=q:=⟨_,rfl⟩
 have hr1:0<=m1:=by rw[<-hm1];exact Int.tmod_nonneg _ hp.1
 have hr2:m1<m+1:=by rw[<-hm1];exact Int.tmod_lt_of_pos p (by omega)
 have V:=li (m:=m) (m1:=m1) hv hside hkl ⟨hr1,by omega,by omega⟩;have cD0:=cD (by omega) hfw (k:Int) m;have cD1:=cD (by omega) hfw (k:Int) m1;have cD2:=jL (BV Y (k:Int) m1) V.few.1 V.few.2 (k:Int) (m-m1);rw[U8 V.p.e,U9 V.p.e,V.p.e]at cD0;rw[U8 V.p.e1,U9 V.p.e1,V.p.e1]at cD1;rw[U8 V.p.e2,U9 V.p.e2,V.p.e2,V.p.b]at cD2;have sB:AK C0 8 [(BV Y (k:Int) m).D,(BV Y (k:Int) m).D] (Ap true):=qS _ (by have:=(ZW V.bin).2.2.2;omega) λc hc=>by
  have:=Dz (Gz (I5 V.bin c hc)).1
  exact⟨by omega,λz hz=>(this.2.1 z hz).2.2⟩
 have cG0:=Wo V.f0;have cG1:=Wo V.f1;have cG2:=Wo V.f2;have cA:=e0d V.f1 V.f2;rw[V.p.lots]at cA;have cSm:=d9o V.f0;have cJ:=d9a (B1 Y (k:Int) m1) (B1 (BV Y (k:Int) m1) (k:Int) (m-m1)) (by have:=V.f1.len;omega) (by have:=V.f2.len;omega) (λy hy=>(V.f1.lite y hy).1) (λy hy=>(V.f2.lite y hy).1);have hjE:BE (sb Y.flow) E3=true->Oi (B1 Y (k:Int) m1) (B1 (BV Y (k:Int) m1) (k:Int) (m-m1))=0/\A9 (B1 Y (k:Int) m1++B1 (BV Y (k:Int) m1) (k:Int) (m-m1))=B1 Y (k:Int) m:=λhf=>by
  have h1:=V.p.jn hf;have h2:L9 (B1 Y (k:Int) m1) (B1 (BV Y (k:Int) m1) (k:Int) (m-m1))=0:=by unfold L9;rw[V.f1.par,V.f2.par];rfl
  refine⟨?_,h1⟩;unfold Oi;rw[h2,AG (λq=>q rfl),V.s1,V.s2,CI,h1,AG (by have:=V.f0.len;omega)]
 have cS0:=cU false false (B1 Y (k:Int) m) (by have:=V.f0.len;omega) λy hy=>((Dz V.f0.par).2.1 y hy).2.2
 have hMo:=@tC Y hv.sm.bin;unfold Aj at cD0 cD1 cD2 cG0 cG1 cG2 cS0 cJ;have pL0:AA (.sl false 3 ((B1 Y (k:Int) m).map AE.D)):=(AJ:AA (Aj false (B1 Y (k:Int) m)))
 have pL1:AA (.sl false 3 ((B1 Y (k:Int) m1).map AE.D)):=(AJ:AA (Aj false (B1 Y (k:Int) m1)))
 have pL2:AA (.sl false 3 ((B1 (BV Y (k:Int) m1) (k:Int) (m-m1)).map AE.D)):=(AJ:AA (Aj false (B1 (BV Y (k:Int) m1) (k:Int) (m-m1))))
 have p0:AA (BV Y (k:Int) m).D:=AJ;have c0:AW (BV Y (k:Int) m).D:=AJ;have p1:AA (BV Y (k:Int) m1).D:=AJ;have c1:AW (BV Y (k:Int) m1).D:=AJ;obtain⟨d1,d2,d3,d4,d5,hd⟩:=au (BV Y (k:Int) m);obtain⟨e1,e2,e3,e4,e5,he⟩:=au (BV Y (k:Int) m1);rw[hd]at cD0 cD2 sB p0 c0;rw[he]at cD1 cD2 p1 c1;have p3:AA (.sl false 2 ((DB (B1 Y (k:Int) m)).map Bo)):=AJ;have p4:AA (.sl false 2 ((DB (B1 Y (k:Int) m1)).map Bo)):=AJ;have p5:AA (.sl false 2 ((DB (B1 (BV Y (k:Int) m1) (k:Int) (m-m1))).map Bo)):=AJ;have cJ2:BE (sb Y.flow) E3=true->AK C0 12 [.sl false 3 ((B1 Y (k:Int) m1).map AE.D),.sl false 3 ((B1 (BV Y (k:Int) m1) (k:Int) (m-m1)).map AE.D)] (.tup [.sl false 3 ((B1 Y (k:Int) m).map AE.D),i64 0]):=λhf=>by
  obtain⟨h1,h2⟩:=hjE hf;unfold Td at cJ;rw[h1,AG (λq=>q rfl),h2]at cJ;exact cJ
 clear cJ hjE;generalize(DB (B1 Y (k:Int) m)).map Bo=P0 at cG0 cA cSm p3;generalize(DB (B1 Y (k:Int) m1)).map Bo=P1 at cG1 cA p4;generalize(DB (B1 (BV Y (k:Int) m1) (k:Int) (m-m1))).map Bo=P2 at cG2 cA p5;generalize(B1 (BV Y (k:Int) m1) (k:Int) (m-m1)).map AE.D=L2 at cD2 cG2 cJ2 pL2;generalize(B1 Y (k:Int) m1).map AE.D=L1 at cD1 cG1 cJ2 pL1;generalize(B1 Y (k:Int) m).map AE.D=L0 at cD0 cG0 cS0 cJ2 pL0;have wp:IntKind.i64.wrap p=p:=wI;have wm:IntKind.i64.wrap (m+1)=m+1:=wI;have wd:IntKind.i64.wrap (m-m1)=m-m1:=wI;have ws:IntKind.i64.wrap (0+0)=0:=rfl;have z0:((0:Int) != 0)=false:=rfl;have z1:((0:Int)==0)=true:=rfl;refine sR 0 ?_;refine sR 100 ?_;refine EK ⟨[(2,.prim (.int .u32 p)),(3,.optr 0 0 5 0 0),(4,.optr 1 1 3 0 0)],[⟨1,1,26,3,[.agg [i64 (k:Int),i64 t,i64 m]]⟩,⟨0,0,24,5,[.agg [str (sb Y.flow),i64 x.core,i64 x.room,i64 999999999,.sl false 1 XD]]⟩],100⟩ ?_ ?_
 ·refine AI HR (CY k1 k2 k3 k4 el kT kF) cS cL AB AB AB AB ?_
  exact⟨trivial,AL⟩
 refine EK ⟨[(3,.optr 0 0 5 0 0),(4,.optr 1 1 3 0 0),(7,i64 m1)],[⟨1,1,26,3,[.agg [i64 (k:Int),i64 t,i64 m]]⟩,⟨0,0,24,5,[.agg [str (sb Y.flow),i64 x.core,i64 x.room,i64 999999999,.sl false 1 XD]]⟩],200⟩ ?_ ?_
 ·refine AI HR (Ar wp wm hm1) AB AB AB AB AB AB ?_
  exact⟨trivial,AL⟩
 refine EK ⟨[(3,.optr 0 0 5 0 0),(4,.optr 1 1 3 0 0),(7,i64 m1),(8,.optr 510 210 5 0 0),(9,.sl false 3 L0),(10,i64 0)],[⟨510,210,24,5,[.agg [d1,d2,d3,d4,.sl false 1 d5]]⟩,⟨1,1,26,3,[.agg [i64 (k:Int),i64 t,i64 m]]⟩,⟨0,0,24,5,[.agg [str (sb Y.flow),i64 x.core,i64 x.room,i64 999999999,.sl false 1 XD]]⟩],300⟩ ?_ ?_
 ·refine AI HR kB cD0 AB AB AB AB AB ?_
  exact⟨trivial,AL⟩
 refine EK ⟨[(3,.optr 0 0 5 0 0),(4,.optr 1 1 3 0 0),(7,i64 m1),(8,.optr 510 210 5 0 0),(9,.sl false 3 L0),(10,i64 0),(11,.optr 609 309 5 0 0),(12,.sl false 3 L1),(13,i64 0)],[⟨609,309,24,5,[.agg [e1,e2,e3,e4,.sl false 1 e5]]⟩,⟨510,210,24,5,[.agg [d1,d2,d3,d4,.sl false 1 d5]]⟩,⟨1,1,26,3,[.agg [i64 (k:Int),i64 t,i64 m]]⟩,⟨0,0,24,5,[.agg [str (sb Y.flow),i64 x.core,i64 x.room,i64 999999999,.sl false 1 XD]]⟩],400⟩ ?_ ?_
 ·refine AI HR kB cD1 AB AB AB AB AB ?_
  exact⟨trivial,AL⟩
 refine EK ⟨[(3,.optr 0 0 5 0 0),(8,.optr 510 210 5 0 0),(9,.sl false 3 L0),(10,i64 0),(12,.sl false 3 L1),(13,i64 0),(14,.optr 712 412 5 0 0),(15,.sl false 3 L2),(16,i64 0)],[⟨712,412,24,5,[.agg [d1,d2,d3,d4,.sl false 1 d5]]⟩,⟨510,210,24,5,[.agg [d1,d2,d3,d4,.sl false 1 d5]]⟩,⟨0,0,24,5,[.agg [str (sb Y.flow),i64 x.core,i64 x.room,i64 999999999,.sl false 1 XD]]⟩],500⟩ ?_ ?_
 ·refine AI HR wd cD2 AB AB AB AB AB ?_
  exact⟨trivial,AL⟩
 refine EK ⟨[(3,.optr 0 0 5 0 0),(9,.sl false 3 L0),(12,.sl false 3 L1),(15,.sl false 3 L2)],[⟨0,0,24,5,[.agg [str (sb Y.flow),i64 x.core,i64 x.room,i64 999999999,.sl false 1 XD]]⟩],600⟩ ?_ ?_
 ·refine AI HR (Bd ws z0 kT kF) sB AB AB AB AB AB ?_
  exact⟨trivial,AL⟩
 unfold IP at hMo;cases hfu:BE (sb Y.flow) ⟨#[102,117,110,110,101,108]⟩
 ·have cJ:=cJ2 (hMo hfu)
  refine AI HR (ER ws z0 z1 hfu kT kF) cG0 cG1 cG2 cA cSm cJ ?_;refine AI HR kB cS0 ha AB AB AB AB ?_;exact AM rfl AA.out
 ·refine AI HR (ER ws z0 z1 hfu kT kF) cG0 cG1 cG2 cA cSm ha ?_
  exact AM rfl AA.out
def tA:List UInt8:=[97]
def tB:List UInt8:=[98]
def Fg:List UInt8:=[119,104,101,97,116]
def Na:List UInt8:=[102,117,110,110,101,108]
def C6 (m:Int):AE:=⟨Fg,m,[⟨tA,[49]⟩]⟩
def Da (m:Int):AE:=⟨Fg,m,[⟨tA,[49,47,50]⟩,⟨tB,[49,47,50]⟩]⟩
def Fx (x:AE):D:=.agg [str (sb x.grain),i64 x.mass,.sl true 2 (x.shs.map Au.D)]
def kQ:D:=.agg [str (sb Na),i64 4,i64 30,i64 12,.sl true 1 [.sl true 3 [Fx (C6 10),Fx (Da 6)],.sl true 3 [Fx (C6 5)]]]
theorem zQ:AK C0 17 [] kQ:=CZ D7 400 40
end Go.Ide
