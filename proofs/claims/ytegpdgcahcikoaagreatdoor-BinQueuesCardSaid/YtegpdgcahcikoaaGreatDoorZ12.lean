/- The layer of own lemmas and contracts, part 12. -/
import Derived.Test.YtegpdgcahcikoaaGreatDoorZ11
import Derived.Test.YtegpdgcahcikoaaGreatDoorZ9
import Derived.Test.YtegpdgcahcikoaaGreatDoorZ4
import Derived.Shelf.Spec.SlicesGrow
import Derived.Shelf.Lay
import Derived.Ground.Names8Prog
import Derived.Test.YtegpdgcahcikoaaGreatDoorZ7
import Derived.Laws.StructEq
import Derived.Test.YtegpdgcahcikoaaGreatDoorZ10
set_option linter.unusedVariables false
set_option linter.unusedSimpArgs false
namespace Go.Ide
open Go.Proofs Go.RowKit Go.Sort
set_option maxRecDepth 20000
set_option maxHeartbeats 4000000
def Dx (g:List UInt8)(x:AD):AD:=⟨g,x.mass,x.shs⟩
def HO (l:List AD)(g:List UInt8):Nat:=if Be l≠0 then Be l else if Dg g=false then 8 else if l.length=0 then 13 else 0
def Ig (l:List AD)(g:List UInt8):Nat:=if HO l g≠0 then HO l g else Gz (l.map (Dx g))
def L9 (l:List AD)(g:List UInt8):AD:=if HO l g≠0 then⟨[],0,[]⟩else LH (l.map (Dx g))
theorem ow (g:List UInt8){l:List AD}{i:Nat}{x:AD}(hx:l[i]?=some x):
  (((l.take i).map (Dx g)++l.drop i).map AD.D).set i (.agg [str (sb g),i64 x.mass,.sl false 2 (x.shs.map Av.D)])=((l.take (i+1)).map (Dx g)++l.drop (i+1)).map AD.D:=by
 have hi:=(List.getElem?_eq_some_iff.1 hx).1;have hd:l.drop i=x::l.drop (i+1):=by
  rw[EU hi,(List.getElem?_eq_some_iff.1 hx).2]
 rw[Dp,hx,hd];simp only[DG,Ct,Option.toList_some,List.map_nil,Di,Em,F6];rw[Nm _ _ (by simp;omega)]
 have:i-(((l.take i).map (Dx g)).map AD.D).length=0:=by simp;omega
 rw[this];rfl
theorem gA (b:Bool)(l:List AD)(g:List UInt8)(hl:l.length<=1000000)(hf:∀x∈l,x.lite)(hg:g.length<=100000):AJ C0 42 [AY b l,str (sb g)] (.tup [(L9 l g).D,i64 (Ig l g:Nat)]):=by
 refine Aj.walk w1 eW rfl λF=>?_
 have el:(((l.map AD.D).length:Nat):Int)=(l.length:Int):=by rw[Am]
 have cP:=MK b l (by omega) λx hx=>(hf x hx).1
 have cN:=Qu g;have hN:Ig l g=if HO l g≠0 then HO l g else Gz (l.map (Dx g)):=rfl
 have hL:L9 l g=if HO l g≠0 then⟨[],0,[]⟩else LH (l.map (Dx g)):=rfl
 have hE:HO l g=if Be l≠0 then Be l else if Dg g=false then 8 else if l.length=0 then 13 else 0:=rfl
 obtain⟨K,hK⟩:∃K,Dg g=K:=⟨_,rfl⟩
 have cW1:=GQ (!K) 8;have cW2:=GQ ((l.length:Int)==0) 13;have cF:AJ C0 54 [.sl true 1 [i64 (Be l:Nat),i64 (if !K then 8 else 0),i64 (if(l.length:Int)==0 then 13 else 0)]] (i64 (HO l g:Nat)):=by
  have:=JI [(Be l:Int),if !K then 8 else 0,if(l.length:Int)==0 then 13 else 0] (by simp)
  have he:DX [(Be l:Int),if !K then 8 else 0,if(l.length:Int)==0 then 13 else 0]=((HO l g:Nat):Int):=by
   rw[hE,hK]
   by_cases h1:Be l=0<;>cases K<;>by_cases h3:l.length=0<;>simp[DX,h1,h3]
  rw[he]at this;exact this
 rw[hK]at cN;rcases Nat.decEq (HO l g) 0 with g0|g0
 ·have e1:=GX g0
  rw[AH g0]at hN hL;rw[hN,hL];refine AG Ag (Ad el e1) cP cN cW1 cW2 cF AB ?_;exact⟨_,Of _ _,AA.out,rfl⟩
 have e1:=GY g0;rw[AF (λh=>h g0)]at hN hL;rw[hN,hL];have h0:l≠[]:=λh=>by
  rw[hE]at g0;split at g0
  ·rename_i h9;exact h9 g0
  ·split at g0
   ·cases g0
   ·split at g0
    ·cases g0
    ·rename_i h9;exact h9 (by rw[h];rfl)
 refine AG Ag (Ad el e1) cP cN cW1 cW2 cF AB ?_;refine BE.own _ (mg b l hl h0 _ _) ?_;rintro d H' n' ⟨gk,rfl,rfl,rfl⟩;refine AG Ag kB AB AB AB AB AB AB ?_;refine AC.loop (α:=Nat×Nat) (λp=>⟨[(1,str (sb g)),(4,.optr 0 0 3 0 0),(7,.osl 302 gk 3 0 l.length),(28,i64 (l.length:Int)),(29,i64 (p.1:Int))],[⟨302,gk,80,3,((l.take p.1).map (Dx g)++l.drop p.1).map AD.D⟩,⟨0,0,80,3,[.agg [.prim (.string ⟨#[]⟩),.prim (.int .i64 0),.prim (.slice none 0 0)]]⟩],p.2⟩) (λp=>l.length-p.1)
  (λp=>p.1<=l.length) (0,_) (BX _) AL ?_
 rintro⟨i,n⟩ F hi;dsimp only at hi⊢;rcases BI i l.length with h2|h2
 rotate_left
 ·have e1:=Cd h2
  have:i=l.length:=by omega
  subst this;rw[DV,JX,DE];have hlr:(l.map (Dx g)).length=l.length:=Am ..;have hfr:∀x∈l.map (Dx g),x.lite:=λx hx=>by
   obtain⟨y,hy,rfl⟩:=List.mem_map.1 hx;obtain⟨⟨a1,a2,a3⟩,a4⟩:=hf y hy;exact⟨⟨hg,a2,a3⟩,a4⟩
  have cM:=yX false (l.map (Dx g)) (by rw[hlr];exact hl) hfr;obtain⟨R,hR⟩:∃R,l.map (Dx g)=R:=⟨_,rfl⟩
  rw[hR]at cM hlr⊢;obtain⟨Z,hZ⟩:∃Z:AD,LH R=Z:=⟨_,rfl⟩
  rw[hZ]at cM⊢;refine AG Ag e1 AB AB AB AB AB AB ?_;have hfz:Fz [⟨302,gk,80,3,R.map AD.D⟩,⟨0,0,80,3,[.agg [.prim (.string ⟨#[]⟩),.prim (.int .i64 0),.prim (.slice none 0 0)]]⟩] [⟨0,0,80,3,[.agg [.prim (.string ⟨#[]⟩),.prim (.int .i64 0),.prim (.slice none 0 0)]]⟩] (.osl 302 gk 3 0 l.length) (AY false R):=by
   have:=HI (H:=[⟨302,gk,80,3,R.map AD.D⟩,⟨0,0,80,3,[.agg [.prim (.string ⟨#[]⟩),.prim (.int .i64 0),.prim (.slice none 0 0)]]⟩]) (Hf:=[⟨0,0,80,3,[.agg [.prim (.string ⟨#[]⟩),.prim (.int .i64 0),.prim (.slice none 0 0)]]⟩]) (k:=302) (g:=gk) (T:=80) (sz:=3) (l:=R.map AD.D) rfl
   rwa [Am,hlr]at this
  refine BE.own _ (Pf [⟨0,0,80,3,[.agg [.prim (.string ⟨#[]⟩),.prim (.int .i64 0),.prim (.slice none 0 0)]]⟩] cM (.drop (.keep .nil)) ⟨hfz,trivial⟩ AI) ?_;rintro d H2 n2 ⟨rfl,rfl,rfl⟩;unfold AD.D;refine AG Ag kB AB AB AB AB AB AB ?_;exact AK rfl AA.out
 have e1:=Ce h2;have wi:=Cf (i:=i) (by omega);obtain⟨x,hx⟩:=CK h2;obtain⟨es,hes⟩:∃es,((l.take i).map (Dx g)++l.drop i).map AD.D=es:=⟨_,rfl⟩
 rw[hes];have hm:es[i]?=some (.agg [str (sb x.grain),i64 x.mass,.sl false 2 (x.shs.map Av.D)]):=by
  rw[<-hes,A7,E7 (by simp;omega)];simp only[Am,Bb,FC (KL h2),Nat.sub_self,Hc,De,hx,JY];rfl
 refine sZ 600 ?_;refine AE e1 ?_;refine AC.seq ?_;refine AM ?_;refine Ao ?_;refine AC.seq ?_;refine AC.block ?_;refine sZ 700 ?_;refine AE kB ?_;refine Ap w1 800 (by kernel_rfl) ?_;refine AE (At kN BV hm) ?_;have hset:es.set i (.agg [str (sb g),i64 x.mass,.sl false 2 (x.shs.map Av.D)])=((l.take (i+1)).map (Dx g)++l.drop (i+1)).map AD.D:=by
  rw[<-hes];exact ow g hx
 rw[hset];refine AG Ag wi AB AB AB AB AB AB ?_;exact⟨(i+1,_),h2,by dsimp only;omega,AL⟩
theorem nC {g:List UInt8}(hg:g.length<=100000){l:List AD}(hf:∀x∈l,x.lite):∀x∈l.map (Dx g),x.lite:=λx hx=>by
 obtain⟨y,hy,rfl⟩:=List.mem_map.1 hx;obtain⟨⟨a1,a2,a3⟩,a4⟩:=hf y hy;exact⟨⟨hg,a2,a3⟩,a4⟩
theorem oS {l:List AD}(h:Gz l=0):HW l=0/\(CL l).length<=64/\∀p∈FU (CL l),Du (p.2/(AT l:Rat))=false:=by
 unfold Gz at h;split at h
 ·rename_i h9;exact Ae h h9
 ·split at h
  ·cases h
  ·split at h
   ·cases h
   ·rename_i h1 h2 h3
    refine⟨by omega,by omega,λp hp=>?_⟩
    have:=List.any_eq_false.1 ((Bool.not_eq_true _).mp h3) p hp
    exact(Bool.not_eq_true _).mp this
theorem Zp {l:List AD}(h:Gz l=0):LH l=⟨(CI l 0).grain,AT l,El l⟩:=by
 unfold LH;rw[AF (λq=>q h)]
theorem o6 {l:List UInt8}(h:Cb l=0):l.length<=100000:=by
 obtain⟨-,h2,h3,-⟩:=Qb h;have h4:(B1 l).length<=(B3 l).length+1:=by
  unfold B3 Bo;split
  ·simp;omega
  ·omega
 unfold B1 BY at*;rw[Bb]at h4;rw[Dv]at h3;omega
theorem oT {l:List AD}(hf:∀x∈l,x.lite)(h:Gz l=0):(El l).length<=64/\∀s∈El l,s.lot.length<=1000/\s.part.length<=100000/\Cb s.part=0/\rk (CT s.part) 600:=by
 obtain⟨h1,h2,h3⟩:=oS h;obtain⟨g1,g2,g3,g4,g5⟩:=Zo h1;obtain⟨hx,hK⟩:=Wz hf g3 g2;refine⟨by unfold El;rw[Am,(Ka _).length_eq];exact h2,λs hs=>?_⟩;unfold El at hs;obtain⟨p,hp,rfl⟩:=List.mem_map.1 hs;have hc:=o7 (h3 p hp);refine⟨hK.all p.1 (List.mem_map_of_mem ((Ka _).mem_iff.1 hp)),?_,hc,NE hc⟩;exact o6 hc
def Fx (l:List AD)(left:Int):AD:=⟨(CI l 0).grain,AT l-left,El (l.map (Dx (CI l 0).grain))⟩
def JR (l:List AD)(left:Int):Nat:=if Be l≠0 then Be l else if left<1 then 3 else if AT l<left then 13 else if B7 l=false then 16 else if Ig l (CI l 0).grain≠0 then Ig l (CI l 0).grain
 else if AT l=left then 0 else Id (CL [Fx l left])
def SF (l:List AD)(left:Int):AD:=if JR l left≠0 then⟨[],0,[]⟩else⟨(CI l 0).grain,left,El (l.map (Dx (CI l 0).grain))⟩
def SE (l:List AD)(left:Int):B0:=if JR l left≠0 then[]else if AT l=left then[]else Jy (CL [Fx l left])
theorem Ml {H:Hp}{a a' b b' c:D}(h1:Fz H [] a a')(h2:Fz H [] b b'):Fz H [] (.tup [a,b,c]) (.tup [a',b',c]):=.tup rfl λi d d' h h'=>by
 match i with
 | 0=>cases h;cases h';exact h1
 | 1=>cases h;cases h';exact h2
 | 2=>cases h;cases h';exact .refl _
 |n+3=>cases h
theorem Rp (H:Hp):Fz H [] (.agg [str ⟨#[]⟩,i64 0,CR]) (⟨[],0,[]⟩:AD).D:=.agg rfl λi d d' h h'=>by
 match i with
 | 0=>cases h;cases h';exact .refl _
 | 1=>cases h;cases h';exact .refl _
 | 2=>cases h;cases h';exact .nil 2
 |n+3=>cases h
theorem qF (b:Bool)(l:List AD)(left:Int)(hl:l.length<=1000000)(hf:∀x∈l,x.lite):AJ C0 44 [AY b l,i64 left] (.tup [(SF l left).D,.sl false 2 ((SE l left).map Cn),i64 (JR l left:Nat)]):=by
 refine Aj.walk w1 fB rfl λF=>?_
 have cP:=MK b l (by omega) λx hx=>(hf x hx).1
 have hE:JR l left=if Be l≠0 then Be l else if left<1 then 3 else if AT l<left then 13 else if B7 l=false then 16 else if Ig l (CI l 0).grain≠0 then Ig l (CI l 0).grain
  else if AT l=left then 0 else Id (CL [Fx l left]):=rfl
 have hX:SF l left=if JR l left≠0 then⟨[],0,[]⟩else⟨(CI l 0).grain,left,El (l.map (Dx (CI l 0).grain))⟩:=rfl
 have hL:SE l left=if JR l left≠0 then[]else if AT l=left then[]else Jy (CL [Fx l left]):=rfl
 have cW1:=GQ (decide (left<1)) 3;obtain⟨E0,hE0⟩:∃e:Nat,(if Be l≠0 then Be l else if left<1 then 3 else 0)=e:=⟨_,rfl⟩
 have cF0:AJ C0 54 [.sl true 1 [i64 (Be l:Nat),i64 (if decide (left<1)then 3 else 0)]] (i64 (E0:Nat)):=by
  have:=JI [(Be l:Int),if decide (left<1)then 3 else 0] (by simp)
  have he:DX [(Be l:Int),if decide (left<1)then 3 else 0]=((E0:Nat):Int):=by
   rw[<-hE0]
   by_cases h1:Be l=0<;>by_cases h2:left<1<;>simp[DX,h1,h2]
  rw[he]at this;exact this
 rcases Nat.decEq E0 0 with g0|g0
 ·have e1:=GX g0
  have hE2:JR l left=E0:=by
   rw[hE,<-hE0];split
   ·rfl
   ·rename_i h1
    rw[<-hE0,AF h1]at g0;split
    ·rfl
    ·rename_i h2;exact Ae (AF h2) g0
  rw[hE2]at hX hL⊢;rw[AH g0]at hX hL;rw[hX,hL];refine AG Ag e1 cP cW1 cF0 AB AB AB ?_;exact⟨_,Ml (Rp _) (.nil 2),AA.out,rfl⟩
 have e1:=GY g0;have hp0:Be l=0:=by
  apply Dd;intro h;rw[AH h]at hE0;omega
 have hl1:¬left<1:=λh=>by
  rw[AF (λq=>q hp0),AH h]at hE0;omega
 rw[AF (λh=>h hp0),AF hl1]at hE;obtain⟨p1,p2,p3⟩:=GP hp0;have hsm:Ia l:=⟨by omega,λx hx=>by have:=OZ (p2 x hx);omega⟩
 have cT:=ai b l hsm;have cG:=S9 b l hl;have cW2:=GQ (decide (AT l<left)) 13;obtain⟨E1,hE1⟩:∃e:Nat,(if AT l<left then 13 else if B7 l=false then 16 else 0)=e:=⟨_,rfl⟩
 have cF1:AJ C0 54 [.sl true 1 [i64 (if decide (AT l<left)then 13 else 0),i64 (if B7 l then 0 else 16:Nat)]] (i64 (E1:Nat)):=by
  have:=JI [if decide (AT l<left)then 13 else 0,((if B7 l then 0 else 16:Nat):Int)] (by simp)
  have he:DX [if decide (AT l<left)then 13 else 0,((if B7 l then 0 else 16:Nat):Int)]=((E1:Nat):Int):=by
   rw[<-hE1]
   by_cases h1:AT l<left<;>cases B7 l<;>simp[DX,h1]
  rw[he]at this;exact this
 rcases Nat.decEq E1 0 with g1|g1
 ·have e2:=GX g1
  have hE2:JR l left=E1:=by
   rw[hE,<-hE1];split
   ·rfl
   ·rename_i h1
    rw[<-hE1,AF h1]at g1;split
    ·rfl
    ·rename_i h2;exact Ae (AF h2) g1
  rw[hE2]at hX hL⊢;rw[AH g1]at hX hL;rw[hX,hL];refine AG Ag e1 cP cW1 cF0 AB AB AB ?_;refine AG Ag e2 cT cW2 cG cF1 AB AB ?_;exact⟨_,Ml (Rp _) (.nil 2),AA.out,rfl⟩
 have e2:=GY g1;have hs1:¬AT l<left:=λh=>by
  rw[AH h]at hE1;omega
 have hs2:¬B7 l=false:=λh=>by
  rw[AF hs1,AH h]at hE1;omega
 rw[AF hs1,AF hs2]at hE;have hl0:0<l.length:=by
  rcases l with _|⟨y,l⟩
  ·exfalso;apply hs1
   show(0:Int)<left;omega
  ·simp
 obtain⟨x0,hx0⟩:∃x,l[0]?=some x:=⟨_,BG hl0⟩
 have hm0:(l.map AD.D)[0]?=some (.agg [str (sb x0.grain),i64 x0.mass,.sl false 2 (x0.shs.map Av.D)]):=by rw[A7,hx0];rfl
 have hgr:(CI l 0).grain=x0.grain:=by rw[Fg hx0]
 have hg9:=(hf x0 (Aw hx0)).1.1;have cPo:=gA b l x0.grain hl hf hg9;rw[hgr]at hE hX;have hlt:Fx l left=⟨x0.grain,AT l-left,El (l.map (Dx x0.grain))⟩:=by unfold Fx;rw[hgr]
 rw[hlt]at hE hL;obtain⟨PN,hPN⟩:∃n,Ig l x0.grain=n:=⟨_,rfl⟩
 rw[hPN]at hE cPo;rcases Nat.decEq PN 0 with g2|g2
 ·have e3:=GX g2
  rw[AH g2]at hE;rw[hE]at hX hL⊢;rw[AH g2]at hX hL;rw[hX,hL];obtain⟨Z,hZ⟩:∃Z,L9 l x0.grain=Z:=⟨_,rfl⟩
  rw[hZ]at cPo;unfold AD.D CX at cPo;obtain⟨ZS,hZS⟩:∃d,List.map Av.D Z.shs=d:=⟨_,rfl⟩
  have pZS:AA (.sl false 2 ZS):=by rw[<-hZS];exact AI
  rw[hZS]at cPo;refine AG Ag e1 cP cW1 cF0 AB AB AB ?_;refine AG Ag e2 cT cW2 cG cF1 AB AB ?_;refine AG Ag e3 hm0 cPo AB AB AB AB ?_;exact⟨_,Ml (Rp _) (.nil 2),AA.out,rfl⟩
 have e3:=GY g2;rw[AF (λh=>h g2)]at hE;have hpe:HO l x0.grain=0:=by
  apply Dd;intro h
  have:Ig l x0.grain=HO l x0.grain:=AH h
  omega
 have hmn:Gz (l.map (Dx x0.grain))=0:=by
  have:Ig l x0.grain=Gz (l.map (Dx x0.grain)):=AF (λh=>h hpe)
  omega
 have hpl:L9 l x0.grain=⟨x0.grain,AT l,El (l.map (Dx x0.grain))⟩:=by
  unfold L9;rw[AF (λh=>h hpe),Zp hmn]
  congr 1
  ·rw[Fg (l:=l.map (Dx x0.grain)) (x:=Dx x0.grain x0) (by rw[A7,hx0];rfl)];rfl
  ·unfold AT;rw[List.map_map];rfl
 obtain⟨m1,m2⟩:=oT (nC hg9 hf) hmn;rw[hpl]at cPo;clear hpl hmn hpe hPN hlt;obtain⟨S,hS⟩:∃S,El (l.map (Dx x0.grain))=S:=⟨_,rfl⟩
 rw[hS]at cPo hE hX hL m1 m2;have ws:IntKind.i64.wrap (AT l-left)=AT l-left:=wI (by omega) (by omega);unfold AD.D at cPo;dsimp only at cPo;unfold CX at cPo;obtain⟨SD,hSD⟩:∃d,List.map Av.D S=d:=⟨_,rfl⟩
 have pSD:AA (.sl false 2 SD):=by rw[<-hSD];exact AI
 rw[hSD]at cPo
 by_cases hz:AT l=left
 ·have e4:((AT l-left)==0)=true:=by rw[EH];omega
  rw[AH hz]at hE;rw[hE]at hX hL⊢;rw[AF (λh=>h rfl)]at hX hL;rw[AH hz]at hL;rw[hX,hL];unfold AD.D;dsimp only;unfold CX;rw[hSD];refine AG Ag e1 cP cW1 cF0 AB AB AB ?_;refine AG Ag e2 cT cW2 cG cF1 AB AB ?_;refine AG Ag (At e3 ws e4) hm0 cPo AB AB AB AB ?_;exact⟨_,Ml (.refl _) (.nil 2),AA.out,rfl⟩
 have e4:((AT l-left)==0)=false:=by rw[Bu];omega
 rw[AF hz]at hE hL;have cO:=Oz ⟨x0.grain,left,S⟩ (AT l-left) (by dsimp only;omega);obtain⟨Y,hY⟩:∃Y:AD,(⟨x0.grain,AT l-left,S⟩:AD)=Y:=⟨_,rfl⟩
 rw[hY]at cO hE hL;have hYo:∀x∈[Y],x.okW 602:=λx hx=>by
  rw[List.mem_singleton]at hx;rw[hx,<-hY];exact⟨m1,by unfold Sm;dsimp only;omega,λs hs=>⟨by have:=(m2 s hs).1;omega,(m2 s hs).2.1,(m2 s hs).2.2.1,(m2 s hs).2.2.2⟩⟩
 have cLo:=dT 602 true [Y] (by simp) hYo (by omega) (by simp);have hKY:HL (λk=>k.length<=1000) (64*[Y].length) (CL [Y]):=S2 λx hx=>by
  rw[List.mem_singleton]at hx;rw[hx,<-hY];exact⟨m1,λs hs=>(m2 s hs).1⟩
 change Aj C0 70 [.sl true 3 [.agg [str (sb Y.grain),i64 Y.mass,.sl false 2 (Y.shs.map Av.D)]]] _ at cLo;change AJ C0 94 [.agg [str (sb x0.grain),i64 left,.sl false 2 (S.map Av.D)],i64 (AT l-left)] (.agg [str (sb Y.grain),i64 Y.mass,.sl false 2 (Y.shs.map Av.D)])at cO;obtain⟨YS,hYS⟩:∃d,Y.shs.map Av.D=d:=⟨_,rfl⟩
 have pYS:AA (.sl false 2 YS):=by rw[<-hYS];exact AI
 rw[hSD,hYS]at cO;rw[hYS]at cLo;obtain⟨q,hq⟩:∃q,CL [Y]=q:=⟨_,rfl⟩
 rw[hq]at cLo hKY hE hL;refine AG Ag e1 cP cW1 cF0 AB AB AB ?_;refine AG Ag e2 cT cW2 cG cF1 AB AB ?_;refine AG Ag (At e3 ws e4) hm0 cPo cO AB AB AB ?_;refine BE.prop _ _ (Ee.refl _) cLo AI ?_;rintro d ⟨m,rfl,hQ⟩;have cA:=Yt _ (by simp) q m hQ (BR hKY.len (by simp)) hKY.nd;have pM:AA (mapD m):=⟨hQ.mapD⟩
 unfold Jx at cA;obtain⟨M,hM⟩:∃M,mapD m=M:=⟨_,rfl⟩
 rw[hM]at cA pM⊢;rcases Nat.decEq (Id q) 0 with g4|g4
 ·have e5:=GX g4
  rw[hE]at hX hL⊢;rw[AH g4]at hX hL;rw[hX,hL];refine AG Ag e5 cA AB AB AB AB AB ?_;exact⟨_,Ml (Rp _) (.nil 2),AA.out,rfl⟩
 have e5:=GY g4;rw[hE]at hX hL⊢;rw[AF (λh=>h g4)]at hX hL;rw[hX,hL];unfold AD.D;dsimp only;unfold CX;rw[hSD];refine AG Ag e5 cA AB AB AB AB AB ?_;exact⟨_,.refl _,AA.out,by rw[g4];rfl⟩
abbrev Q3:Dr:=[(4,[0,1,2,3,4,5,6,7,8],[9])]
open Go.Proofs Go.RowKit Go.Sort
set_option maxRecDepth 20000
set_option maxHeartbeats 4000000
def AD.modr (x:AD):Prop:=(x.shs.length<=15\/64<x.shs.length)/\x.lite
theorem ly (l:List UInt8):BF (sb l) (sb l)=true:=by rw[E2];exact AZ rfl
def Cs (l:List AD):Int:=l.foldl (λa x=>IntKind.i64.wrap (a+x.mass)) 0
theorem TQ {l:List AD}{i:Nat}{x:AD}(h:l[i]?=some x):Cs (l.take (i+1))=IntKind.i64.wrap (Cs (l.take i)+x.mass):=by
 unfold Cs;rw[Dp,h];simp
theorem Ji {l:List AD}(hs:Ia l):Cs l=AT l:=by
 obtain⟨hl,hm⟩:=hs
 have:∀i,i<=l.length->Cs (l.take i)=AT (l.take i):=λi=>by
  induction i with
  |zero=>exact λ_=>rfl
  |succ i ih=>
   intro hi;obtain⟨x,hx⟩:=CK (show i<l.length by omega);have hb:=UE (l:=l.take i) λy hy=>hm y (FX hy)
   have hxm:=hm x (Aw hx);rw[Bb,FC (by omega)]at hb;rw[TQ hx,ih (by omega),TN hx,wI (by omega) (by omega)]
 have:=this l.length (Ai _)
 rwa [DV]at this
theorem vK (b:Bool)(l:List AD)(hl:l.length<=9223372036854775807):AJ C0 19 [AY b l] (i64 (Cs l)):=by
 refine Aj.walk w1 x5 rfl λF=>?_
 have el:(((l.map AD.D).length:Nat):Int)=(l.length:Int):=by rw[Am]
 refine AG Ag el AB AB AB AB AB AB ?_;refine AC.loop (α:=Nat×Nat) (λp=>⟨[(0,AY b l),(3,i64 (Cs (l.take p.1))),(4,i64 (p.1:Int))],[],p.2⟩) (λp=>l.length-p.1) (λp=>p.1<=l.length) (0,_) (BX _) AL ?_;rintro⟨i,m⟩ F hi;dsimp only at hi⊢;rcases BI i l.length with h2|h2
 rotate_left
 ·have e1:=Cd h2
  have:i=l.length:=by omega
  subst this;rw[DV];refine AG Ag (Ad e1 el) AB AB AB AB AB AB ?_;exact AK rfl AA.out
 have e1:=Ce h2;have wi:=Cf (i:=i) (by omega);obtain⟨x,hx⟩:=CK h2;have hm:(l.map AD.D)[i]?=some (.agg [str (sb x.grain),i64 x.mass,.sl false 2 (x.shs.map Av.D)]):=by rw[A7,hx];rfl
 have ws:=(TQ hx).symm;refine AG Ag (CO e1 el wi ws kN) hm AB AB AB AB AB ?_;exact⟨(i+1,_),h2,by dsimp only;omega,AL⟩
theorem PE (b:Bool)(l:List AD)(hs:Ia l):AJ C0 19 [AY b l] (i64 (AT l)):=by
 have h:=vK b l (by have:=hs.1;omega)
 rwa [Ji hs]at h
theorem pF (b:Bool)(l:List AD)(hl:l.length<=1000000):AJ C0 50 [AY b l] (As (B7 l)):=by
 refine Aj.walk w1 wV rfl λF=>?_
 have el:(((l.map AD.D).length:Nat):Int)=(l.length:Int):=by rw[Am]
 refine AG Q3 el AB AB AB AB AB AB ?_;refine AC.loop (α:=Nat×Nat) (λp=>⟨[(0,AY b l),(3,i64 (p.1:Int))],[],p.2⟩) (λp=>l.length-p.1)
  (λp=>1<=p.1/\(p.1<=l.length\/p.1=1)/\∀x∈l.take p.1,BF (sb x.grain) (sb (CI l 0).grain)=true) (1,_) ⟨Ai _,.inr rfl,λx h=>by
   rcases l with _|⟨y,l⟩
   ·simp at h
   ·have:x=y:=by simpa using h
    rw[this];exact ly _⟩ AL ?_
 rintro⟨i,m⟩ F ⟨hi1,hi,hs⟩;dsimp only at hi1 hi hs⊢;rcases BI i l.length with h2|h2
 rotate_left
 ·have e1:=Cd h2
  have hg:B7 l=true:=by
   unfold B7;rw[CS];intro x hx;rw[CE h2]at hs;exact hs x hx
  rw[hg];refine AG Q3 (Ad e1 el) AB AB AB AB AB AB ?_;exact AK rfl AA.out
 have e1:=Ce h2;have wi:=Cf (i:=i) (by omega);obtain⟨x,hx⟩:=CK h2;have hm:(l.map AD.D)[i]?=some (.agg [str (sb x.grain),i64 x.mass,.sl false 2 (x.shs.map Av.D)]):=by rw[A7,hx];rfl
 obtain⟨x0,hx0⟩:∃x,l[0]?=some x:=⟨_,BG (by omega)⟩
 have hm0:(l.map AD.D)[0]?=some (.agg [str (sb x0.grain),i64 x0.mass,.sl false 2 (x0.shs.map Av.D)]):=by rw[A7,hx0];rfl
 have hv0:=Fg hx0;obtain⟨bG,hbG⟩:∃q,BF (sb x.grain) (sb x0.grain)=q:=⟨_,rfl⟩
 cases bG
 ·have hg:B7 l=false:=by
   unfold B7;rw[List.all_eq_false];exact⟨x,Aw hx,by rw[hv0,hbG];decide⟩
  rw[hg];refine AG Q3 (BZ e1 el hbG kN) hm hm0 AB AB AB AB ?_;exact AK rfl AA.out
 ·refine AG Q3 (CO e1 el hbG wi kN) hm hm0 AB AB AB AB ?_
  exact⟨(i+1,_),⟨by dsimp only;omega,.inl h2,λy hy=>by
   dsimp only at hy;rw[Dp,hx]at hy;rcases List.mem_append.1 hy with q|q
   ·exact hs y q
   ·have:y=x:=by simpa using q
    rw[this,hv0];exact hbG⟩,by dsimp only;omega,AL⟩
theorem gP (b:Bool)(l:List AD)(hl:l.length<=1000000)(hf:∀x∈l,x.modr):AJ C0 18 [AY b l] (i64 (Be l:Nat)):=by
 refine Aj.walk w1 xZ rfl λF=>?_
 have el:(((l.map AD.D).length:Nat):Int)=(l.length:Int):=by rw[Am]
 have hC:Be l=if 64<l.length then 5 else if Dm (λi=>Ca (CI l i)) l.length≠0 then Dm (λi=>Ca (CI l i)) l.length else if AT l>999999999 then 4 else 0:=rfl
 by_cases h64:64<l.length
 ·rw[AH h64]at hC
  rw[hC];have q2:decide ((l.length:Int)>64)=true:=AZ (by omega);refine AG Ag (Ad el q2) AB AB AB AB AB AB ?_;exact AK rfl AA.out
 rw[AF h64]at hC;have q2:decide ((l.length:Int)>64)=false:=Ah (by omega);refine AG Ag (Ad el q2) AB AB AB AB AB AB ?_;refine AC.loop (α:=Nat×Nat) (λp=>⟨[(0,AY b l),(3,i64 (p.1:Int))],[],p.2⟩) (λp=>l.length-p.1) (λp=>p.1<=l.length/\∀j,j<p.1->Ca (CI l j)=0) (0,_) ⟨BX _,λj h=>Ae h (G6 j)⟩ AL ?_;rintro⟨i,m⟩ F ⟨hi,hz⟩;dsimp only at hi hz⊢;rcases BI i l.length with h2|h2
 rotate_left
 ·have e1:=Cd h2
  have:i=l.length:=by omega
  subst this;rw[AF (λh=>h (KY (f:=λi=>Ca (CI l i)) hz))]at hC;have cT:=PE b l (TW h64 hz)
  by_cases h9:AT l>999999999
  ·have e9:decide (AT l>999999999)=true:=AZ h9
   rw[AH h9]at hC;rw[hC];refine AG Ag (At e1 el e9) cT AB AB AB AB AB ?_;exact AK rfl AA.out
  ·have e9:decide (AT l>999999999)=false:=Ah h9
   rw[AF h9]at hC;rw[hC];refine AG Ag (At e1 el e9) cT AB AB AB AB AB ?_;exact AK rfl AA.out
 have e1:=Ce h2;have wi:=Cf (i:=i) (by omega);obtain⟨x,hx⟩:=CK h2;have hm:(l.map AD.D)[i]?=some (.agg [str (sb x.grain),i64 x.mass,.sl false 2 (x.shs.map Av.D)]):=by rw[A7,hx];rfl
 have hxm:=hf x (Aw hx);have cL:=y5 x hxm.1 hxm.2.1;unfold AD.D at cL;rcases Nat.decEq (Ca x) 0 with hc0|hc0
 ·have e3:=GX hc0
  have:=Oe (f:=λi=>Ca (CI l i)) hz h2 (by rw[Fg hx];exact hc0)
  rw[Fg hx]at this;rw[this,AH hc0]at hC;rw[hC];refine AG Ag (BZ e1 el e3 kN) hm cL AB AB AB AB ?_;exact AK rfl AA.out
 have e3:=GY hc0;refine AG Ag (CO e1 el e3 wi kN) hm cL AB AB AB AB ?_;exact⟨(i+1,_),⟨h2,λj hj=>by
  rcases Nat.lt_succ_iff_lt_or_eq.1 hj with q|q
  ·exact hz j q
  ·rw[q,Fg hx];exact hc0⟩,by dsimp only;omega,AL⟩
def HN (x:AD):B0:=x.shs.map λs=>(s.lot,CT s.part*(x.mass:Rat))
theorem Xu {x:AD}(hn:(x.shs.map (·.lot)).Nodup):∀j,j<=x.shs.length->GU x j []=(HN x).take j
 | 0,_=>rfl
 |j+1,hj=>by
  obtain⟨s,hs⟩:∃s,x.shs[j]?=some s:=⟨_,BG hj⟩
  rw[OI x j [] hs,Xu hn j (by omega)];have hm:(HN x)[j]?=some (s.lot,CT s.part*(x.mass:Rat)):=by unfold HN;rw[A7,hs];rfl
  have hnot:s.lot∉Cq ((HN x).take j):=λh=>by
   obtain⟨z,hz,h2⟩:=List.mem_map.1 h;obtain⟨i,hi⟩:=List.mem_iff_getElem?.1 hz;have hij:i<j:=by
    have:=(List.getElem?_eq_some_iff.1 hi).1
    rw[Bb]at this;omega
   rw[Eo,AH hij]at hi;unfold HN at hi;rw[A7]at hi;obtain⟨t,ht,rfl⟩:=Option.map_eq_some_iff.1 hi;have e1:(x.shs.map (·.lot))[i]?=some t.lot:=by rw[A7,ht];rfl
   have e2:(x.shs.map (·.lot))[j]?=some s.lot:=by rw[A7,hs];rfl
   have a1:=List.getElem?_eq_some_iff.1 e1;have a2:=List.getElem?_eq_some_iff.1 e2
   have:i=j:=(List.getElem_inj (h₀:=a1.1) (h₁:=a2.1) hn).1 (by rw[a1.2,a2.2];exact h2)
   omega
  have hl:Fw s.lot ((HN x).take j)=none:=by
   cases h9:Fw s.lot ((HN x).take j)with
   |none=>rfl
   |some o=>
    obtain⟨A,B,h3,-⟩:=QO (v:=o) h9;exact Ae (by rw[h3];simp[Cq]) hnot
  unfold KE;rw[hl];dsimp only;rw[(Tc (v:=CT s.part*(x.mass:Rat)) hl).2,Dp,hm];rfl
theorem kX {x:AD}(hn:(x.shs.map (·.lot)).Nodup):CL [x]=HN x:=by
 show GU x x.shs.length []=_;rw[Xu hn _ (Ai _),CE];unfold HN;rw[Am];exact Ai _
theorem pW {q:B0}(h:HA q):FU q=q:=(S0 h.nd (.refl _) (Ka _) h.weak (Qy _)).symm
theorem oU (l:List AD):(El l).Pairwise λa b=>ltStr a.lot b.lot=true:=by
 unfold El;rw[List.pairwise_map,<-YL];exact nW l
theorem UZ (l:List AD)(left:Int):CL [Fx l left]=HN (Fx l left)/\FU (CL [Fx l left])=HN (Fx l left):=by
 have hp:(Fx l left).shs.Pairwise λa b=>ltStr a.lot b.lot=true:=oU _
 have h1:=kX (x:=Fx l left) (by
  rw[List.Nodup,List.pairwise_map];exact hp.imp λ{a b} h e=>by rw[e,swo_ltStr.irrefl]at h;cases h)
 refine⟨h1,?_⟩;rw[h1];refine pW ?_;unfold HN;show List.Pairwise _ _;rw[List.pairwise_map];exact hp
theorem Ui (b:Bool)(l:List AD)(hl:l.length<=9223372036854775807)(hs:∀x∈l,x.shs.length<=9223372036854775807):AJ C0 27 [AY b l] (As (Fu l)):=by
 refine Aj.walk w1 x9 rfl λF=>?_
 have el:(((l.map AD.D).length:Nat):Int)=(l.length:Int):=by rw[Am]
 refine AG Ag el AB AB AB AB AB AB ?_;refine AC.loop (α:=Nat×Nat) (λp=>⟨[(0,AY b l),(7,AY b l),(8,i64 (l.length:Int)),(9,i64 (p.1:Int))],[],p.2⟩) (λp=>l.length-p.1) (λq=>q.1<=l.length/\(l.take q.1).all AD.shB=true) (0,_) ⟨BX _,rfl⟩ AL ?_;rintro⟨i,n⟩ F ⟨hi,ha⟩;dsimp only at hi ha⊢;rcases BI i l.length with h2|h2
 rotate_left
 ·have e1:=Cd h2
  have:i=l.length:=by omega
  subst this;rw[DV]at ha;obtain⟨q1,h1⟩:∃q,decide ((l.length:Int)<=8)=q:=⟨_,rfl⟩
  obtain⟨q2,h2'⟩:∃q,decide ((l.length:Int)>64)=q:=⟨_,rfl⟩
  obtain⟨q3,h3⟩:∃q,decide ((l.length:Int)<=80)=q:=⟨_,rfl⟩
  have hb:Fu l=(q1||(q2&&q3)):=by
   unfold Fu;rw[ha,<-h1,<-h2',<-h3,Gi]
   congr 1
   ·exact C5.2 (by omega)
   ·congr 1
    ·exact C5.2 (by omega)
    ·exact C5.2 (by omega)
  rw[hb];cases q1<;>cases q2<;>cases q3
  all_goals
   refine AG Ag (CJ e1 el h1 h2' h3 kT kF) AB AB AB AB AB AB ?_;exact AK rfl AA.out
 have e1:=Ce h2;have wi:=Cf (i:=i) (by omega);obtain⟨x,hx⟩:=CK h2;have hm:(l.map AD.D)[i]?=some (.agg [str (sb x.grain),i64 x.mass,.sl false 2 (x.shs.map Av.D)]):=by rw[A7,hx];rfl
 have hsx:=hs x (Aw hx);have ex:(((x.shs.map Av.D).length:Nat):Int)=(x.shs.length:Int):=by rw[Am]
 have hsz:=Ci x.grain;obtain⟨p1,h1⟩:∃q,decide ((x.grain.length:Int)>100)=q:=⟨_,rfl⟩
 obtain⟨p2,h2'⟩:∃q,decide ((x.shs.length:Int)>8)=q:=⟨_,rfl⟩
 obtain⟨p3,h3⟩:∃q,decide ((x.shs.length:Int)<=64)=q:=⟨_,rfl⟩
 obtain⟨p4,h4⟩:∃q,decide ((x.shs.length:Int)>80)=q:=⟨_,rfl⟩
 have hb:x.shB=(!p1&&(!p2 || !p3) && !p4&&x.shs.all Av.shB):=by
  unfold AD.shB;rw[<-h1,<-h2',<-h3,<-h4]
  congr 1
  congr 1
  ·congr 1
   ·rw[<-decide_not];exact C5.2 (by omega)
   ·congr 1
    ·rw[<-decide_not];exact C5.2 (by omega)
    ·rw[<-decide_not];exact C5.2 (by omega)
  ·rw[<-decide_not];exact C5.2 (by omega)
 by_cases g:(!p1&&(!p2 || !p3) && !p4)=true
 rotate_left
 ·have hbf:x.shB=false:=by rw[hb];simp only[Bool.not_eq_true]at g;rw[g];rfl
  have hsf:Fu l=false:=by unfold Fu;rw[Ty hx hbf];rfl
  rw[hsf];cases p1<;>cases p2<;>cases p3<;>cases p4
  all_goals first
   |exact Ae rfl g
   |skip
  all_goals
   refine AG Ag (CJ e1 hsz ex h1 h2' h3 (BZ h4 kN kT kF)) hm AB AB AB AB AB ?_;exact AK rfl AA.out
 rw[g,Gi]at hb;cases p1<;>cases p2<;>cases p3<;>cases p4
 all_goals first
  |exact Ae g (by decide)
  |skip
 all_goals
  refine AG Ag (CJ e1 hsz ex h1 h2' h3 (BZ h4 kN kT kF)) hm AB AB AB AB AB ?_;refine AC.loop (α:=Nat×Nat) (λp=>⟨[(0,AY b l),(7,AY b l),(8,i64 (l.length:Int)),(9,i64 (i:Int)),(36,.sl false 2 (x.shs.map Av.D)),(37,i64 (x.shs.length:Int)),(38,i64 (p.1:Int))],[],p.2⟩) (λp=>x.shs.length-p.1) (λq=>q.1<=x.shs.length/\(x.shs.take q.1).all Av.shB=true) (0,_) ⟨BX _,rfl⟩ AL ?_;clear h1 h2' h3 h4 g;rintro⟨j,n⟩ F ⟨hj,haj⟩;dsimp only at hj haj⊢;rcases BI j x.shs.length with g2|g2
  ·have e3:=Ce g2
   have wj:=Cf (i:=j) (by omega);obtain⟨y,hy⟩:=CK g2;have hmy:(x.shs.map Av.D)[j]?=some (.agg [str (sb y.lot),str (sb y.part)]):=by rw[A7,hy];rfl
   have hs1:=Ci y.lot;have hs2:=Ci y.part;obtain⟨r1,k1⟩:∃q,decide ((y.lot.length:Int)>100)=q:=⟨_,rfl⟩
   obtain⟨r2,k2⟩:∃q,decide ((y.part.length:Int)>14)=q:=⟨_,rfl⟩
   have hby:y.shB=(!r1 && !r2):=by
    unfold Av.shB;rw[<-k1,<-k2]
    congr 1
    ·rw[<-decide_not];exact C5.2 (by omega)
    ·rw[<-decide_not];exact C5.2 (by omega)
   have fin:y.shB=false->Fu l=false:=λh=>by
    have:x.shB=false:=by rw[hb,Ty hy h]
    unfold Fu;rw[Ty hx this];rfl
   cases r1
   ·cases r2
    ·refine AG Ag (CJ e3 wj hs1 hs2 k1 k2 (At kN kT kF)) hmy AB AB AB AB AB ?_
     exact⟨(j+1,_),⟨g2,YP hy haj hby⟩,by dsimp only;omega,AL⟩
    ·rw[fin hby]
     refine AG Ag (CJ e3 wj hs1 hs2 k1 k2 (At kN kT kF)) hmy AB AB AB AB AB ?_;exact AK rfl AA.out
   ·rw[fin hby]
    refine AG Ag (CJ e3 wj hs1 hs2 k1 kN (Ad kT kF)) hmy AB AB AB AB AB ?_;exact AK rfl AA.out
  ·have e3:=Cd g2
   have:j=x.shs.length:=by omega
   subst this;rw[DV]at haj;refine AG Ag (Ad e3 wi) AB AB AB AB AB AB ?_;exact⟨(i+1,_),⟨h2,YP hx ha (hb.trans haj)⟩,by dsimp only;omega,AL⟩
theorem UC {l:List AD}(h:Fu l=true):(∀x∈l,x.lite/\x.modr)/\l.length<=80/\(l.length<=8\/64<l.length):=by
 unfold Fu at h;simp only[BQ,KN,CS,F8]at h;obtain⟨h1,h2⟩:=h;refine⟨λx hx=>?_,by omega,by omega⟩;have hb:=h1 x hx;unfold AD.shB at hb;simp only[BQ,KN,CS,F8]at hb;obtain⟨⟨⟨b1,b2⟩,b3⟩,b4⟩:=hb;have hs:∀s∈x.shs,s.lot.length<=100/\s.part.length<=14:=λs hs=>by
  have:=b4 s hs
  unfold Av.shB at this;simpa using this
 have hl:x.lite:=⟨⟨by omega,by omega,λs q=>⟨by have:=(hs s q).1;omega,by have:=(hs s q).2;omega⟩⟩,λs q=>⟨by have:=(hs s q).1;omega,by have:=(hs s q).2;omega⟩⟩
 exact⟨hl,by omega,hl⟩
theorem DS {l:List AD}(h:Be l=0):l.length<=64/\(∀x∈l,1<=x.mass/\x.mass<=1000000000/\x.shs.length<=1000000)/\Ia l:=by
 obtain⟨g1,g2,g3⟩:=GP h;have hx:∀x∈l,1<=x.mass/\x.mass<=1000000000/\x.shs.length<=1000000:=λx q=>by
  obtain⟨a,b,c,d⟩:=OZ (g2 x q)
  have:=(XX d).2.1
  exact⟨by omega,by omega,by omega⟩
 exact⟨g1,hx,by omega,λx q=>by have:=hx x q;omega⟩
abbrev Q5:Dr:=[(4,[0,1,2,3,4,5,6,7,8,9,10,11,12,13,14],[15,16])]
open Go.Proofs Go.RowKit Go.Sort
set_option maxRecDepth 20000
set_option maxHeartbeats 4000000
structure Ar where
 flow:List UInt8
 core:Int
 room:Int
 side:Int
 cells:List (List AD)
abbrev FM (b:Bool)(cs:List (List AD)):D:=.sl b 1 (cs.map (AY false))
def Ar.D (x:Ar):D:=.agg [str (sb x.flow),i64 x.core,i64 x.room,i64 x.side,FM false x.cells]
instance  (x:Ar):AU x.D:=by unfold Ar.D;exact AI
instance  (x:Ar):AA x.D:=by unfold Ar.D;exact AI
theorem Rt (b:Bool)(l:List AD)(hl:l.length<=9223372036854775807):AJ C0 57 [AY b l] (i64 (Cs l)):=by
 refine Aj.walk w1 VR rfl λF=>?_
 have el:(((l.map AD.D).length:Nat):Int)=(l.length:Int):=by rw[Am]
 refine AG Ag el AB AB AB AB AB AB ?_;refine AC.loop (α:=Nat×Nat) (λp=>⟨[(3,i64 (Cs (l.take p.1))),(6,AY b l),(7,i64 (l.length:Int)),(8,i64 (p.1:Int))],[],p.2⟩) (λp=>l.length-p.1) (λp=>p.1<=l.length) (0,_) (BX _) AL ?_;rintro⟨i,m⟩ F hi;dsimp only at hi⊢;rcases BI i l.length with h2|h2
 rotate_left
 ·have e1:=Cd h2
  have:i=l.length:=by omega
  subst this;rw[DV];refine AG Ag e1 AB AB AB AB AB AB ?_;exact AK rfl AA.out
 have e1:=Ce h2;have wi:=Cf (i:=i) (by omega);obtain⟨x,hx⟩:=CK h2;have hm:(l.map AD.D)[i]?=some (.agg [str (sb x.grain),i64 x.mass,.sl false 2 (x.shs.map Av.D)]):=by rw[A7,hx];rfl
 have wS:=(TQ hx).symm;refine AG Ag (BZ e1 wi @wS kN) hm AB AB AB AB AB ?_;exact⟨(i+1,_),h2,by dsimp only;omega,AL⟩
def Do (n lo hi:Int):Bool:=decide (n>=lo)&&decide (n<=hi)
theorem Oa (n lo hi:Int):AJ C0 95 [i64 n,i64 lo,i64 hi] (As (Do n lo hi)):=by
 refine Aj.walk w1 eU rfl λF=>?_
 obtain⟨p,hp⟩:∃p,decide (n>=lo)=p:=⟨_,rfl⟩
 have hb:Do n lo hi=(p&&decide (n<=hi)):=by unfold Do;rw[hp]
 rw[hb];cases p
 ·refine AG Ag (At hp kT kF) AB AB AB AB AB AB ?_
  exact AK rfl AA.out
 ·refine AG Ag (At hp kT kF) AB AB AB AB AB AB ?_
  exact AK rfl AA.out
def C4 (side:Int)(l:List Int):Bool:=(List.range (l.length-1)).any λi=>!Do (IntKind.i64.wrap (l.getD (i+1) 0-l.getD i 0)) (IntKind.i64.wrap (0-side)) side
theorem VM {side:Int}{l:List Int}{i:Nat}(h:i+1<l.length)(hb:Do (IntKind.i64.wrap (l.getD (i+1) 0-l.getD i 0)) (IntKind.i64.wrap (0-side)) side=false):C4 side l=true:=by
 unfold C4;rw[List.any_eq_true];exact⟨i,List.mem_range.2 (by omega),by rw[hb];rfl⟩
theorem VN {side:Int}{l:List Int}(h:∀i,i+1<l.length->Do (IntKind.i64.wrap (l.getD (i+1) 0-l.getD i 0)) (IntKind.i64.wrap (0-side)) side=true):C4 side l=false:=by
 unfold C4;rw[List.any_eq_false];intro i hi
 have:=List.mem_range.1 hi
 rw[h i (by omega)];decide
theorem Uf (x:Ar)(b:Bool)(l:List Int)(hl:l.length<=1000000):AJ C0 65 [x.D,.sl b 1 (CP l)] (i64 (if C4 x.side l then 17 else 0)):=by
 refine Aj.walk w1 fS rfl λF=>?_
 have el:((CP l).length:Int)=(l.length:Int):=by rw[Am]
 have elN:(CP l).length=l.length:=Am ..;unfold Ar.D;obtain⟨cd,hcd⟩:∃d,FM false x.cells=d:=⟨_,rfl⟩
 have pcd:AA cd:=by rw[<-hcd];exact AI
 have ncd:Jm cd=true:=by rw[<-hcd];rfl
 rw[hcd];refine AG Q5 el AB AB AB AB AB AB ?_;refine AC.loop (α:=Nat×Nat) (λp=>⟨[(1,.sl b 1 (CP l)),(2,.optr 0 0 5 0 0),(5,i64 ((p.1+1:Nat):Int))],[⟨0,0,24,5,[.agg [str (sb x.flow),i64 x.core,i64 x.room,i64 x.side,cd]]⟩],p.2⟩) (λp=>l.length-p.1) (λp=>p.1<=l.length/\∀j,j<p.1->Do (IntKind.i64.wrap (l.getD (j+1) 0-l.getD j 0)) (IntKind.i64.wrap (0-x.side)) x.side=true) (0,_) ⟨BX _,λj h=>Ae h (G6 j)⟩ AL ?_;rintro⟨i,m⟩ F ⟨hi,ha⟩;dsimp only at hi ha⊢;rcases BI (i+1) l.length with h2|h2
 rotate_left
 ·have e1:=Cd h2
  rw[VN λj hj=>ha j (by omega)];refine AG Q5 (Ad el e1) AB AB AB AB AB AB ?_;exact AK rfl AA.out
 have e1:=Ce h2;have wi:=Cf (i:=i+1) (by omega);have w2:IntKind.i64.wrap (((i+1:Nat):Int)-1)=((i:Nat):Int):=by rw[wI (by omega) (by omega)];omega
 have hm1:=O9 (l:=l) (i:=i+1) h2;have hm2:=O9 (l:=l) (i:=i) (by omega);have cW:=Oa (IntKind.i64.wrap (l.getD (i+1) 0-l.getD i 0)) (IntKind.i64.wrap (0-x.side)) x.side;have hbad:=VM (side:=x.side) h2;obtain⟨u,hu⟩:∃u,l.getD (i+1) 0=u:=⟨_,rfl⟩
 obtain⟨v,hv⟩:∃u,l.getD i 0=u:=⟨_,rfl⟩
 have hgood:=λ(hq:Do (IntKind.i64.wrap (u-v)) (IntKind.i64.wrap (0-x.side)) x.side=true) (j:Nat) (hj:j<i+1)=>show Do (IntKind.i64.wrap (l.getD (j+1) 0-l.getD j 0)) (IntKind.i64.wrap (0-x.side)) x.side=true from by
  rcases BI j i with h|h
  ·exact ha j h
  ·have:j=i:=by omega
   subst this;rw[hu,hv];exact hq
 rw[hu]at hm1 cW hbad;rw[hv]at hm2 cW hbad;obtain⟨q,hq⟩:∃q,Do (IntKind.i64.wrap (u-v)) (IntKind.i64.wrap (0-x.side)) x.side=q:=⟨_,rfl⟩
 rw[hq]at cW hbad hgood;obtain⟨L,hL⟩:∃L,CP l=L:=⟨_,rfl⟩
 have pL:AA (.sl b 1 L):=by rw[<-hL];exact AI
 rw[hL]at hm1 hm2 el⊢;cases q
 ·rw[hbad rfl]
  refine AG Q5 (CO el e1 w2 wi kN) hm1 hm2 cW AB AB AB ?_;exact AK rfl AA.out
 ·refine AG Q5 (CO el e1 w2 wi kN) hm1 hm2 cW AB AB AB ?_
  exact⟨(i+1,_),⟨by omega,hgood rfl⟩,by dsimp only;omega,AL⟩
def B5 (x:Ar):List Int:=x.cells.map Cs
theorem Tz (x:Ar)(hl:x.cells.length<=1000000)(hc:∀c∈x.cells,c.length<=9223372036854775807):AJ C0 48 [x.D] (.sl false 1 (CP (B5 x))):=by
 refine Aj.walk w1 VQ rfl λF=>?_
 obtain⟨cs,hcs⟩:∃c,x.cells=c:=⟨_,rfl⟩
 have hlv:B5 x=cs.map Cs:=by unfold B5;rw[hcs]
 rw[hlv];rw[hcs]at hl hc;have el:(((cs.map (AY false)).length:Nat):Int)=(cs.length:Int):=by rw[Am]
 unfold Ar.D;rw[hcs];refine sR 0 ?_;refine sR 100 ?_;refine AC.seq ?_;refine sZ 200 ?_;refine AV el ?_;refine AC.ghost 504 3 1 [(3,.osl 504 _ 1 0 0),(7,FM false cs),(8,i64 (cs.length:Int)),(9,i64 ((0:Nat):Int))] ⟨.inr ⟨rfl,rfl⟩,.inl rfl,.inl rfl,.inl rfl,trivial⟩ ?_;refine AC.block ?_;refine AC.loop (α:=Nat×Nat×Nat) (λp=>⟨[(3,.osl 504 p.2.1 1 0 p.1),(7,FM false cs),(8,i64 (cs.length:Int)),(9,i64 (p.1:Int))],[⟨504,p.2.1,3,1,CP ((cs.take p.1).map Cs)⟩],p.2.2⟩) (λp=>cs.length-p.1) (λq=>q.1<=cs.length) (0,_,_) (BX _) AL ?_;rintro⟨i,g,n⟩ F hi;dsimp only at hi⊢;rcases BI i cs.length with h2|h2
 rotate_left
 ·have e1:=Cd h2
  have:i=cs.length:=by omega
  subst this;rw[DV];have hf:=HI (H:=[⟨504,g,3,1,CP (cs.map Cs)⟩]) (Hf:=[]) (k:=504) (g:=g) (T:=3) (sz:=1) (l:=CP (cs.map Cs)) rfl;rw[Am,Am]at hf;refine AG Ag e1 AB AB AB AB AB AB ?_;exact⟨_,hf,AA.out,rfl⟩
 have e1:=Ce h2;have wi:=Cf (i:=i) (by omega);obtain⟨c,hc'⟩:=CK h2;have hm:(cs.map (AY false))[i]?=some (.sl false 3 (c.map AD.D)):=by rw[A7,hc'];rfl
 have cT:=Rt false c (hc c (Aw hc'));have ht:CP ((cs.take (i+1)).map Cs)=CP ((cs.take i).map Cs)++[i64 (Cs c)]:=by
  rw[Dp,hc',DG];unfold CP;rw[DG];rfl
 have htl:(CP ((cs.take i).map Cs)).length=i:=by rw[Am,Am,Bb];omega
 obtain⟨R,hR⟩:∃R,CP ((cs.take i).map Cs)=R:=⟨_,rfl⟩
 rw[hR]at ht htl⊢;refine AG Ag (At e1 wi kN) hm cT AB AB AB AB ?_;refine⟨(i+1,n+1+1+1+1+1+1+1+1,n+1000),h2,by dsimp only;omega,?_⟩;dsimp only;rw[ht,CE (show R.length<=i by omega)];exact AL
open Go.ChangeShapes Go.WideShapes
def Ar.fit (x:Ar):Prop:=x.cells.length<=maxLen/\∀c∈x.cells,c.length<=maxLen/\∀y∈c,y.shs.length<=maxLen
section
variable {H:Type} {enc:TypeId×Value->H} {W:World} {fuel:Nat} {cs:List Value} {x:DataW H×List MemPlace} {t:TypeId}
theorem my (h:DataW.trod enc Tryz.prog W 0 (λ_=>true) true fuel 22 cs=some x):∃l:List (List AD),DZ W cs [FM false l]/\(∀c∈l,c.length<=maxLen/\∀y∈c,y.shs.length<=maxLen)/\l.length<=maxLen:=
 Va (g:=AY false) (ok:=λc=>c.length<=maxLen/\∀y∈c,y.shs.length<=maxLen) (e:=38) (sz:=1) (by kernel_rfl) (by kernel_rfl) (by decide) (λ_ _ _ h=>by
  obtain⟨l,h1,h2,h3⟩:=TZ h;exact⟨l,h1,h3,h2⟩) h
theorem vE (h:DataW.trod enc Tryz.prog W 0 (λ_=>true) true fuel 24 cs=some x):∃s:Ar,DZ W cs s.D.cells/\s.fit:=by
 obtain⟨h1,n,h2⟩:=Vb (l:=[(9,0,1),(3,1,1),(3,2,1),(3,3,1),(22,4,1)]) (m:=5) (by kernel_rfl) (by kernel_rfl) h;obtain⟨y0,k0⟩:=h2 0 _ _ _ rfl;obtain⟨y1,k1⟩:=h2 1 _ _ _ rfl;obtain⟨y2,k2⟩:=h2 2 _ _ _ rfl;obtain⟨y3,k3⟩:=h2 3 _ _ _ rfl;obtain⟨y4,k4⟩:=h2 4 _ _ _ rfl;obtain⟨a0,r0,_⟩:=Ta k0;obtain⟨a1,r1⟩:=Rm k1;obtain⟨a2,r2⟩:=Rm k2;obtain⟨a3,r3⟩:=Rm k3;obtain⟨a4,r4,hc,hl⟩:=my k4;exact⟨⟨a0,a1,a2,a3,a4⟩,U2 h1 (L5 (b:=1) (c:=4) r0 (L5 (b:=1) (c:=3) r1 (L5 (b:=1) (c:=2) r2 (L5 (b:=1) (c:=1) r3 r4)))),hl,hc⟩
end
abbrev Lw:Dr:=[(2,[0,1,2,3,4,5,6,7,8,9,10,11,12,13,14,15,16,17,18,19,20,21,22,23,24,25,26,27,28,29,30,31,32],[33,34,35,36]),(8,[0,1,2,3,4,5,6,7],[8,9,10,11,12]),(12,[0,1,2],[3,4])]
open Go.Proofs Go.RowKit Go.Sort
set_option maxRecDepth 20000
set_option maxHeartbeats 4000000
def Ez:ByteArray:=⟨#[109,97,115,115]⟩
def IT:ByteArray:=⟨#[102,117,110,110,101,108]⟩
def Rv (x:Ar):Bool:=(BF (sb x.flow) Ez&&(x.core==0))||(BF (sb x.flow) IT&&Do x.core 2 999999999)
def ML (x:Ar):Int:=if !BF (sb x.flow) Ez && !BF (sb x.flow) IT then 20 else 0
def LE (x:Ar):Int:=if !Rv x || !Do x.room 1 999999999 || !Do x.side 0 999999999 then 3 else 0
def Fo (x:Ar):Int:=DX [ML x,LE x,if(x.cells.length:Int)==0 then 2 else 0,if decide ((x.cells.length:Int)>8)then 5 else 0]
def Cy (x:Ar)(c:List AD):Int:=DX [(Be c:Int),((if B7 c then 0 else 16:Nat):Int),if decide (Cs c>x.room)then 14 else 0]
def ES (x:Ar):List (List AD)->Int
 | []=>0
 |c::r=>if Cy x c≠0 then Cy x c else ES x r
def Ch (x:Ar):Int:=if Fo x≠0 then Fo x else if ES x x.cells≠0 then ES x x.cells else if C4 x.side (B5 x)then 17 else 0
theorem qY (x:Ar)(hl:x.cells.length<=1000000)(hc:∀c∈x.cells,c.length<=1000000/\∀y∈c,y.few):AJ C0 47 [x.D] (i64 (Ch x)):=by
 refine Aj.walk w1 fC rfl λF=>?_
 have cLv:=Tz x hl λc h=>by have:=(hc c h).1;omega
 have cSt:=Uf x false (B5 x) (by unfold B5;rw[Am];exact hl);have cC1:=Oa x.core 2 999999999;have cC2:=Oa x.room 1 999999999;have cC3:=Oa x.side 0 999999999;have cF:=JI [ML x,LE x,if(x.cells.length:Int)==0 then 2 else 0,if decide ((x.cells.length:Int)>8)then 5 else 0] (by simp);have hF:DX [ML x,LE x,if(x.cells.length:Int)==0 then 2 else 0,if decide ((x.cells.length:Int)>8)then 5 else 0]=Fo x:=rfl;rw[hF]at cF;have cW3:=GQ ((x.cells.length:Int)==0) 2;have cW4:=GQ (decide ((x.cells.length:Int)>8)) 5;obtain⟨cs,hcs⟩:∃c,x.cells=c:=⟨_,rfl⟩
 have el:(((cs.map (AY false)).length:Nat):Int)=(cs.length:Int):=by rw[Am]
 obtain⟨H,hH⟩:∃h,Fo x=h:=⟨_,rfl⟩
 have hB:Ch x=if H≠0 then H else if ES x x.cells≠0 then ES x x.cells else if C4 x.side (B5 x)then 17 else 0:=by unfold Ch;rw[hH]
 obtain⟨K1,hK1⟩:∃h,ML x=h:=⟨_,rfl⟩
 obtain⟨K2,hK2⟩:∃h,LE x=h:=⟨_,rfl⟩
 obtain⟨CB,hCB⟩:∃h,Rv x=h:=⟨_,rfl⟩
 rw[hK1,hK2,hH]at cF;rw[hB];rw[hcs]at cF cW3 cW4 hl hc⊢;unfold Ar.D at cLv cSt⊢;rw[hcs]at cLv cSt⊢;refine sR 0 ?_;refine DU ⟨[(1,.optr 0 0 5 0 0),(3,As CB)],[⟨0,0,24,5,[.agg [str (sb x.flow),i64 x.core,i64 x.room,i64 x.side,FM false cs]]⟩],100⟩ ?_ ?_
 ·obtain⟨p1,h1⟩:∃q,BF (sb x.flow) ⟨#[109,97,115,115]⟩=q:=⟨_,rfl⟩
  obtain⟨p2,h2⟩:∃q,BF (sb x.flow) ⟨#[102,117,110,110,101,108]⟩=q:=⟨_,rfl⟩
  obtain⟨c0,h0⟩:∃q,(x.core==0)=q:=⟨_,rfl⟩
  have hb:CB=((p1&&c0)||(p2&&Do x.core 2 999999999)):=by rw[<-hCB,<-h1,<-h2,<-h0];rfl
  rw[hb];cases p1<;>cases p2<;>cases c0
  all_goals
   refine AG Lw (CO h1 h2 h0 kT kF) cC1 AB AB AB AB AB ?_;exact⟨trivial,AL⟩
 refine DU ⟨[(1,.optr 0 0 5 0 0),(4,i64 H)],[⟨0,0,24,5,[.agg [str (sb x.flow),i64 x.core,i64 x.room,i64 x.side,FM false cs]]⟩],1000⟩ ?_ ?_
 ·obtain⟨p1,h1⟩:∃q,BF (sb x.flow) ⟨#[109,97,115,115]⟩=q:=⟨_,rfl⟩
  obtain⟨p2,h2⟩:∃q,BF (sb x.flow) ⟨#[102,117,110,110,101,108]⟩=q:=⟨_,rfl⟩
  obtain⟨wr,hr⟩:∃q,Do x.room 1 999999999=q:=⟨_,rfl⟩
  obtain⟨ws,hw⟩:∃q,Do x.side 0 999999999=q:=⟨_,rfl⟩
  have e1:ML x=if !p1 && !p2 then 20 else 0:=by rw[<-h1,<-h2];rfl
  have e2:LE x=if !CB || !wr || !ws then 3 else 0:=by rw[<-hCB,<-hr,<-hw];rfl
  have cA:=GQ (!p1 && !p2) 20;have cB:=GQ (!CB || !wr || !ws) 3;rw[<-e1,hK1]at cA;rw[<-e2,hK2]at cB;rw[hr]at cC2;rw[hw]at cC3;clear e1 e2 hcs hK1 hK2 hCB hF cC1 cLv cSt hr hw;cases p1<;>cases p2<;>cases CB<;>cases wr
  all_goals
   refine AG Lw (CO h1 h2 el kT kF) cA cC2 cC3 cB cW3 cW4 ?_;refine BE.same _ cF AI ?_;refine BP ?_;exact⟨trivial,AL⟩
 by_cases hH0:H=0
 rotate_left
 ·have e1:(H != 0)=true:=Gs hH0
  rw[AH hH0];refine AG Lw e1 AB AB AB AB AB AB ?_;exact AK rfl AA.out
 have e1:(H != 0)=false:=by rw[hH0];rfl
 rw[AF (λh=>h hH0)];clear cC1 cC2 cC3 cF cW3 cW4 hK1 hK2 hCB hF hB;refine AG Lw (Ad e1 el) AB AB AB AB AB AB ?_;refine AC.loop (α:=Nat×Nat) (λp=>⟨[(1,.optr 0 0 5 0 0),(66,FM false cs),(67,i64 (cs.length:Int)),(68,i64 (p.1:Int))],[⟨0,0,24,5,[.agg [str (sb x.flow),i64 x.core,i64 x.room,i64 x.side,FM false cs]]⟩],p.2⟩) (λp=>cs.length-p.1) (λq=>q.1<=cs.length/\ES x (cs.drop q.1)=ES x cs) (0,_) ⟨BX _,rfl⟩ AL ?_;rintro⟨i,n⟩ F ⟨hi,hJ⟩;dsimp only at hi hJ⊢;rcases BI i cs.length with h2|h2
 rotate_left
 ·have k1:=Cd h2
  have:i=cs.length:=by omega
  subst this;rw[JX]at hJ;rw[AF (λh=>h (by rw[<-hJ];rfl))];have pLv:AA (.sl false 1 (CP (B5 x))):=AI;refine AG Lw k1 cLv cSt AB AB AB AB ?_;exact AK rfl AA.out
 have k1:=Ce h2;have wi:=Cf (i:=i) (by omega);obtain⟨c,hc'⟩:=CK h2;have hm:(cs.map (AY false))[i]?=some (.sl false 3 (c.map AD.D)):=by rw[A7,hc'];rfl
 obtain⟨hc1,hc2⟩:=hc c (Aw hc');have cP:=MK false c (by omega) hc2;have cG:=S9 false c hc1;have cT:=Rt false c (by omega);have cW:=GQ (decide (Cs c>x.room)) 14;have cE:=JI [(Be c:Int),((if B7 c then 0 else 16:Nat):Int),if decide (Cs c>x.room)then 14 else 0] (by simp);have hE:DX [(Be c:Int),((if B7 c then 0 else 16:Nat):Int),if decide (Cs c>x.room)then 14 else 0]=Cy x c:=rfl;rw[hE]at cE;have hd:cs.drop i=c::cs.drop (i+1):=by
  have:=List.getElem?_eq_some_iff.1 hc'
  rw[EU this.1,this.2]
 rw[hd]at hJ;have hJ2:ES x cs=if Cy x c≠0 then Cy x c else ES x (cs.drop (i+1)):=hJ.symm
 obtain⟨E,hEE⟩:∃E,Cy x c=E:=⟨_,rfl⟩
 rw[hEE]at cE hJ2
 by_cases hE0:E=0
 ·have k2:(E != 0)=false:=by rw[hE0];rfl
  rw[AF (λh=>h hE0)]at hJ2;refine AG Lw (BZ k1 k2 wi kN) hm cP cG cT cW cE ?_;exact⟨(i+1,_),⟨h2,hJ2.symm⟩,by dsimp only;omega,AL⟩
 ·have k2:(E != 0)=true:=Gs hE0
  rw[AH hE0]at hJ2;rw[hJ2,AH hE0];refine AG Lw (BZ k1 k2 wi kN) hm cP cG cT cW cE ?_;exact AK rfl AA.out
abbrev Q6:Dr:=[(4,[0,1,2,3,4,5,6,7,8,9],[10])]
open Go.Proofs Go.RowKit Go.Sort
set_option maxRecDepth 20000
set_option maxHeartbeats 4000000
theorem U3 (x:Ar)(i:Nat)(c:List AD)(hc:x.cells[i]?=some c)(hs:Ia c)(hl:x.cells.length<=1000000):AJ C0 17 [x.D,i64 (i:Int)] (i64 (AT c)):=by
 refine Aj.walk w1 xY rfl λF=>?_
 have cM:=PE false c hs;have hi:=(List.getElem?_eq_some_iff.1 hc).1;obtain⟨cs,hcs⟩:∃c,x.cells=c:=⟨_,rfl⟩
 unfold Ar.D;rw[hcs]at hc hl hi⊢;have hm:(cs.map (AY false))[i]?=some (.sl false 3 (c.map AD.D)):=by rw[A7,hc];rfl
 have hml:(cs.map (AY false)).length=cs.length:=Am ..;obtain⟨K,hK⟩:∃K,cs.map (AY false)=K:=⟨_,rfl⟩
 have pK:AA (.sl false 1 K):=by rw[<-hK];exact AI
 show AC _ _ _ _ _ ⟨DM 0 [.agg [str (sb x.flow),i64 x.core,i64 x.room,i64 x.side,.sl false 1 (cs.map (AY false))],i64 (i:Int)],[],0⟩ _;rw[hK]at hm hml⊢;refine AG Ag kN hm cM AB AB AB AB ?_;exact AK rfl AA.out
theorem vC (u v:Int):AJ C0 97 [i64 u,i64 v] (i64 (max (IntKind.i64.wrap (u-v)) (IntKind.i64.wrap (v-u)))):=by
 refine Aj.walk w1 xG rfl λF=>?_
 refine AG Ag kB AB AB AB AB AB AB ?_;exact AK rfl AA.out
theorem yH (x:Ar)(hl:x.cells.length<=1000000)(hc:∀c∈x.cells,Ia c/\0<=AT c/\AT c<=999999999)(hside:0<=x.side/\x.side<=999999999):AJ C0 51 [x.D] (As (!C4 x.side (B5 x))):=by
 refine Aj.walk w1 wW rfl λF=>?_
 have hlvl:=λ(i:Nat) (c:List AD) (h:x.cells[i]?=some c)=>U3 x i c h (hc c (Aw h)).1 hl
 have hlv:∀(i:Nat) (c:List AD),x.cells[i]?=some c->(B5 x).getD i 0=AT c:=λi c h=>by
  unfold B5;rw[Dw,A7,h];exact Ji (hc c (Aw h)).1
 have hlen:(B5 x).length=x.cells.length:=by unfold B5;rw[Am]
 obtain⟨cs,hcs⟩:∃c,x.cells=c:=⟨_,rfl⟩
 have el:(((cs.map (AY false)).length:Nat):Int)=(cs.length:Int):=by rw[Am]
 unfold Ar.D at hlvl⊢;rw[hcs]at hlvl hlv hlen hl hc⊢;refine AG Q6 kB AB AB AB AB AB AB ?_;refine AC.loop (α:=Nat×Nat) (λp=>⟨[(1,.optr 0 0 5 0 0),(3,i64 ((p.1+1:Nat):Int))],[⟨0,0,24,5,[.agg [str (sb x.flow),i64 x.core,i64 x.room,i64 x.side,FM false cs]]⟩],p.2⟩) (λp=>cs.length-p.1) (λp=>p.1<=cs.length/\∀j,j<p.1->Do (IntKind.i64.wrap ((B5 x).getD (j+1) 0-(B5 x).getD j 0)) (IntKind.i64.wrap (0-x.side)) x.side=true) (0,_) ⟨BX _,λj h=>Ae h (G6 j)⟩ AL ?_;rintro⟨i,m⟩ F ⟨hi,ha⟩;dsimp only at hi ha⊢;rcases BI (i+1) cs.length with h2|h2
 rotate_left
 ·have e1:=Cd h2
  rw[VN (side:=x.side) (l:=B5 x) λj hj=>ha j (by omega)];refine AG Q6 (Ad el e1) AB AB AB AB AB AB ?_;exact AK rfl AA.out
 have e1:=Ce h2;have wi:=Cf (i:=i+1) (by omega);have w2:IntKind.i64.wrap (((i+1:Nat):Int)-1)=((i:Nat):Int):=by rw[wI (by omega) (by omega)];omega
 obtain⟨c,hc1⟩:=CK (show i<cs.length by omega);obtain⟨d,hd1⟩:=CK h2;have c1:=hlvl i c hc1;have c2:=hlvl (i+1) d hd1;have v1:=hlv i c hc1;have v2:=hlv (i+1) d hd1;obtain⟨-,a1,a2⟩:=hc c (Aw hc1);obtain⟨-,b1,b2⟩:=hc d (Aw hd1);have c3:=vC (AT c) (AT d);have hbad:=VM (side:=x.side) (l:=B5 x) (i:=i) (by omega);rw[v1,v2]at hbad;have q1:IntKind.i64.wrap (AT c-AT d)=AT c-AT d:=wI (by omega) (by omega);have q2:IntKind.i64.wrap (AT d-AT c)=AT d-AT c:=wI (by omega) (by omega);have q3:IntKind.i64.wrap (0-x.side)=0-x.side:=wI (by omega) (by omega);rw[q1,q2]at c3
 by_cases hg:max (AT c-AT d) (AT d-AT c)>x.side
 ·have e2:decide (max (AT c-AT d) (AT d-AT c)>x.side)=true:=AZ hg
  rw[hbad (by rw[q2,q3];unfold Do;rw[Bool.and_eq_false_iff,Is,Is];omega)];refine AG Q6 (EQ el e1 e2 w2 wi kN) c1 c2 c3 AB AB AB ?_;exact AK rfl AA.out
 ·have e2:decide (max (AT c-AT d) (AT d-AT c)>x.side)=false:=Ah hg
  refine AG Q6 (EQ el e1 e2 w2 wi kN) c1 c2 c3 AB AB AB ?_;refine⟨(i+1,_),⟨by omega,λj hj=>?_⟩,by dsimp only;omega,AL⟩;rcases BI j i with h|h
  ·exact ha j h
  ·have:j=i:=by dsimp only at hj;omega
   subst this;rw[v1,v2,q2,q3];unfold Do;rw[BQ,decide_eq_true_iff,decide_eq_true_iff];omega
theorem YG {l:List UInt8}(h:BF (sb l) Ez=true):BF (sb l) IT=false:=by
 have h1:BF (sb l) (sb [109,97,115,115])=true:=h;rw[Lr]at h1;rw[C6 h1];show BF (sb [109,97,115,115]) (sb [102,117,110,110,101,108])=false;rw[Lr];decide
def IA (x:Ar):Bool:=(BF (sb x.flow) Ez&&(x.core != 0))||(BF (sb x.flow) IT&&(decide (x.core<2)||decide (x.core>999999999)))||decide (x.room<1)||decide (x.room>999999999)||decide (x.side<0)||decide (x.side>999999999)
theorem vL {x:Ar}(h:(!BF (sb x.flow) Ez && !BF (sb x.flow) IT)=false):LE x=if IA x then 3 else 0:=by
 have hx:=@YG x.flow;unfold LE IA Rv Do;obtain⟨p1,h1⟩:∃q,BF (sb x.flow) Ez=q:=⟨_,rfl⟩
 obtain⟨p2,h2⟩:∃q,BF (sb x.flow) IT=q:=⟨_,rfl⟩
 rw[h1,h2]at h hx⊢;have e:(!(p1&&x.core==0||p2&&(decide (x.core>=2)&&decide (x.core<=999999999))) || !(decide (x.room>=1)&&decide (x.room<=999999999)) || !(decide (x.side>=0)&&decide (x.side<=999999999)))
   = (p1&&x.core != 0||p2&&(decide (x.core<2)||decide (x.core>999999999))||decide (x.room<1)||decide (x.room>999999999)||decide (x.side<0)||decide (x.side>999999999)):=by
  cases p1<;>cases p2
  ·cases h
  ·rw[Fm];simp;omega
  ·rw[Fm];simp;omega
  ·cases hx rfl
 rw[e]
theorem Ou (x:Ar):Fo x=if(!BF (sb x.flow) Ez && !BF (sb x.flow) IT)=true then 20 else if IA x=true then 3 else if x.cells.length=0 then 2 else if 8<x.cells.length then 5 else 0:=by
 unfold Fo ML;cases h:(!BF (sb x.flow) Ez && !BF (sb x.flow) IT)
 ·rw[vL h,AF Bool.false_ne_true,AF Bool.false_ne_true]
  cases IA x
  ·rw[AF Bool.false_ne_true,AF Bool.false_ne_true]
   by_cases h0:x.cells.length=0
   ·rw[AH h0,h0];rfl
   ·have:((x.cells.length:Int)==0)=false:=Bu.2 (by omega)
    rw[AF h0,this]
    by_cases h8:8<x.cells.length
    ·rw[AH h8,show decide ((x.cells.length:Int)>8)=true from AZ (by omega)];rfl
    ·rw[AF h8,show decide ((x.cells.length:Int)>8)=false from Ah (by omega)];rfl
  ·rfl
 ·rfl
theorem Sx {x:Ar}:∀ {l:List (List AD)},ES x l=0->∀c∈l,Cy x c=0
 | [],_,c,h=>by cases h
 |d::r,h,c,hc=>by
  have h1:(if Cy x d≠0 then Cy x d else ES x r)=0:=h
  by_cases h0:Cy x d=0
  ·rw[AF (λq=>q h0)]at h1
   rcases BA.1 hc with rfl|h2
   ·exact h0
   ·exact Sx h1 c h2
  ·rw[AH h0]at h1;exact Ae h1 h0
theorem Ks:∀ {l:List AD},(∀x∈l,0<=x.mass)->0<=AT l
 | [],_=>Int.le_refl _
 |x::l,h=>by
  have h1:=h x (CA ..);have h2:=Ks λy hy=>h y (CF _ hy)
  have:AT (x::l)=x.mass+AT l:=by unfold AT;rfl
  omega
theorem GN {x:Ar}{c:List AD}(h:Cy x c=0):Be c=0/\B7 c=true/\Ia c/\0<=AT c/\AT c<=999999999/\AT c<=x.room:=by
 have h1:(if(Be c:Int)≠0 then(Be c:Int)else if((if B7 c then 0 else 16:Nat):Int)≠0 then((if B7 c then 0 else 16:Nat):Int)else if(if decide (Cs c>x.room)then(14:Int)else 0)≠0 then(if decide (Cs c>x.room)then(14:Int)else 0)else 0)=0:=h
 by_cases hp:Be c=0
 rotate_left
 ·rw[AH (by omega)]at h1;omega
 rw[hp,AF (λq=>q rfl)]at h1;obtain⟨g1,g2,g3⟩:=DS hp;have g4:=(GP hp).2.2;have hT:=Ji g3;have g5:0<=AT c:=Ks λy hy=>by have:=(g2 y hy).1;omega
 cases hg:B7 c
 ·rw[hg]at h1;cases h1
 rw[hg,AF (by decide)]at h1;refine⟨hp,rfl,g3,g5,g4,?_⟩;rw[hT]at h1
 by_cases hr:AT c>x.room
 ·rw[AZ hr]at h1;cases h1
 ·omega
theorem o5 {x:Ar}{c:List AD}(h:Be c≠0):Cy x c=(Be c:Int):=by
 show(if(Be c:Int)≠0 then _ else _)=_;rw[AH (by omega)]
theorem rq {x:Ar}{c:List AD}(h:Be c=0)(hg:B7 c=false):Cy x c=16:=by
 show(if(Be c:Int)≠0 then _ else if((if B7 c then 0 else 16:Nat):Int)≠0 then((if B7 c then 0 else 16:Nat):Int)else _)=_;rw[h,hg];rfl
theorem mc {x:Ar}{c:List AD}(h:Be c=0)(hg:B7 c=true)(hr:AT c>x.room):Cy x c=14:=by
 have hT:=Ji (DS h).2.2;show(if(Be c:Int)≠0 then _ else if((if B7 c then 0 else 16:Nat):Int)≠0 then((if B7 c then 0 else 16:Nat):Int)else if(if decide (Cs c>x.room)then(14:Int)else 0)≠0 then(if decide (Cs c>x.room)then(14:Int)else 0)else 0)=_;rw[h,hg,hT,AZ hr];rfl
theorem To {x:Ar}{c:List AD}(h:Be c=0)(hg:B7 c=true)(hr:¬AT c>x.room):Cy x c=0:=by
 have hT:=Ji (DS h).2.2;show(if(Be c:Int)≠0 then _ else if((if B7 c then 0 else 16:Nat):Int)≠0 then((if B7 c then 0 else 16:Nat):Int)else if(if decide (Cs c>x.room)then(14:Int)else 0)≠0 then(if decide (Cs c>x.room)then(14:Int)else 0)else 0)=_;rw[h,hg,hT,Ah hr];rfl
abbrev EC:Dr:=[(17,[0,1,2,3,4],[5])]
open Go.Proofs Go.RowKit Go.Sort
set_option maxRecDepth 20000
set_option maxHeartbeats 4000000
theorem ov (x:Ar)(hl:x.cells.length<=1000000)(hc:∀c∈x.cells,c.length<=1000000/\∀y∈c,y.modr):AJ C0 12 [x.D] (i64 (Ch x)):=by
 refine Aj.walk w1 xV rfl λF=>?_
 have hB:Ch x=if Fo x≠0 then Fo x else if ES x x.cells≠0 then ES x x.cells else if C4 x.side (B5 x)then 17 else 0:=rfl
 have hH:=Ou x;have hlvl:=λ(i:Nat) (c:List AD) (h:x.cells[i]?=some c) (hs:Ia c)=>U3 x i c h hs hl
 have hsafe:=λ(h1:∀c∈x.cells,Cy x c=0) (h2:0<=x.side/\x.side<=999999999)=>yH x hl (λc hq=>by
  obtain⟨-,-,g1,g2,g3,-⟩:=GN (h1 c hq);exact⟨g1,g2,g3⟩) h2
 obtain⟨p1,h1⟩:∃q,BF (sb x.flow) ⟨#[109,97,115,115]⟩=q:=⟨_,rfl⟩
 obtain⟨p2,h2⟩:∃q,BF (sb x.flow) ⟨#[102,117,110,110,101,108]⟩=q:=⟨_,rfl⟩
 have hex:p1=true->p2=false:=λq=>by rw[<-h2];exact YG (h1.trans q)
 have hr:IA x=((p1&&(x.core != 0))||(p2&&(decide (x.core<2)||decide (x.core>999999999)))||decide (x.room<1)||decide (x.room>999999999)||decide (x.side<0)||decide (x.side>999999999)):=by rw[<-h1,<-h2];rfl
 rw[show BF (sb x.flow) Ez=p1 from h1,show BF (sb x.flow) IT=p2 from h2]at hH;obtain⟨R,hR⟩:∃r,IA x=r:=⟨_,rfl⟩
 rw[hR]at hH hr;have hside:R=false->0<=x.side/\x.side<=999999999:=λq=>by
  rw[q]at hr
  have:=hr.symm
  simp only[JT,Is]at this;omega
 obtain⟨cs,hcs⟩:∃c,x.cells=c:=⟨_,rfl⟩
 have el:(((cs.map (AY false)).length:Nat):Int)=(cs.length:Int):=by rw[Am]
 unfold Ar.D at hlvl hsafe⊢;rw[hcs]at hlvl hsafe hB hH hc hl⊢;refine sR 0 ?_;cases hk:(!p1 && !p2)
 rotate_left
 ·rw[AH hk]at hH
  rw[hH,AH (by decide)]at hB;rw[hB];have hp:p1=false/\p2=false:=by cases p1<;>cases p2<;>first|exact⟨rfl,rfl⟩|cases hk
  obtain⟨rfl,rfl⟩:=hp;refine AG EC (BZ h1 h2 kT kF) AB AB AB AB AB AB ?_;exact AK rfl AA.out
 rw[AF (by rw[hk];exact Bool.false_ne_true)]at hH;have hp:(p1=true/\p2=false)\/(p1=false/\p2=true):=by
  cases p1
  ·cases p2
   ·cases hk
   ·exact .inr ⟨rfl,rfl⟩
  ·exact .inl ⟨rfl,hex rfl⟩
 clear hex hk;refine DU ⟨[(1,.optr 0 0 5 0 0)],[⟨0,0,24,5,[.agg [str (sb x.flow),i64 x.core,i64 x.room,i64 x.side,FM false cs]]⟩],100⟩ ?_ ?_
 ·rcases hp with⟨rfl,rfl⟩|⟨rfl,rfl⟩
  all_goals
   refine AG EC (BZ h1 h2 kT kF) AB AB AB AB AB AB ?_;exact⟨trivial,AL⟩
 obtain⟨c0,e0⟩:∃q,(x.core != 0)=q:=⟨_,rfl⟩
 obtain⟨c1,e1⟩:∃q,decide (x.core<2)=q:=⟨_,rfl⟩
 obtain⟨c2,e2⟩:∃q,decide (x.core>999999999)=q:=⟨_,rfl⟩
 obtain⟨u1,r1⟩:∃q,decide (x.room<1)=q:=⟨_,rfl⟩
 obtain⟨u2,r2⟩:∃q,decide (x.room>999999999)=q:=⟨_,rfl⟩
 obtain⟨v1,s1⟩:∃q,decide (x.side<0)=q:=⟨_,rfl⟩
 obtain⟨v2,s2⟩:∃q,decide (x.side>999999999)=q:=⟨_,rfl⟩
 rw[e0,e1,e2,r1,r2,s1,s2]at hr;cases R
 rotate_left
 ·rw[AH rfl]at hH
  rw[hH,AH (by decide)]at hB;rw[hB];clear hlvl hsafe hB hH el;rcases hp with⟨rfl,rfl⟩|⟨rfl,rfl⟩
  ·cases c0
   rotate_left
   ·refine AG EC (CJ e0 e1 e2 r1 r2 s1 (CO s2 h1 h2 kT kF)) AB AB AB AB AB AB ?_
    exact AK rfl AA.out
   cases u1
   rotate_left
   ·refine AG EC (CJ e0 e1 e2 r1 r2 s1 (CO s2 h1 h2 kT kF)) AB AB AB AB AB AB ?_
    exact AK rfl AA.out
   cases u2
   rotate_left
   ·refine AG EC (CJ e0 e1 e2 r1 r2 s1 (CO s2 h1 h2 kT kF)) AB AB AB AB AB AB ?_
    exact AK rfl AA.out
   cases v1
   rotate_left
   ·refine AG EC (CJ e0 e1 e2 r1 r2 s1 (CO s2 h1 h2 kT kF)) AB AB AB AB AB AB ?_
    exact AK rfl AA.out
   cases v2
   rotate_left
   ·refine AG EC (CJ e0 e1 e2 r1 r2 s1 (CO s2 h1 h2 kT kF)) AB AB AB AB AB AB ?_
    exact AK rfl AA.out
   cases hr
  ·cases c1
   rotate_left
   ·refine AG EC (CJ e0 e1 e2 r1 r2 s1 (CO s2 h1 h2 kT kF)) AB AB AB AB AB AB ?_
    exact AK rfl AA.out
   cases c2
   rotate_left
   ·refine AG EC (CJ e0 e1 e2 r1 r2 s1 (CO s2 h1 h2 kT kF)) AB AB AB AB AB AB ?_
    exact AK rfl AA.out
   cases u1
   rotate_left
   ·refine AG EC (CJ e0 e1 e2 r1 r2 s1 (CO s2 h1 h2 kT kF)) AB AB AB AB AB AB ?_
    exact AK rfl AA.out
   cases u2
   rotate_left
   ·refine AG EC (CJ e0 e1 e2 r1 r2 s1 (CO s2 h1 h2 kT kF)) AB AB AB AB AB AB ?_
    exact AK rfl AA.out
   cases v1
   rotate_left
   ·refine AG EC (CJ e0 e1 e2 r1 r2 s1 (CO s2 h1 h2 kT kF)) AB AB AB AB AB AB ?_
    exact AK rfl AA.out
   cases v2
   rotate_left
   ·refine AG EC (CJ e0 e1 e2 r1 r2 s1 (CO s2 h1 h2 kT kF)) AB AB AB AB AB AB ?_
    exact AK rfl AA.out
   cases hr
 rw[AF Bool.false_ne_true]at hH;have hsd:=hside rfl;refine DU ⟨[(1,.optr 0 0 5 0 0)],[⟨0,0,24,5,[.agg [str (sb x.flow),i64 x.core,i64 x.room,i64 x.side,FM false cs]]⟩],1000⟩ ?_ ?_
 ·clear hlvl hsafe hB hH
  cases v2
  rotate_left
  ·simp at hr
  cases v1
  rotate_left
  ·simp at hr
  cases u2
  rotate_left
  ·simp at hr
  cases u1
  rotate_left
  ·simp at hr
  rcases hp with⟨rfl,rfl⟩|⟨rfl,rfl⟩
  ·cases c0
   rotate_left
   ·cases hr
   refine AG EC (CJ e0 e1 e2 r1 r2 s1 (CO s2 h1 h2 kT kF)) AB AB AB AB AB AB ?_;exact⟨trivial,AL⟩
  ·cases c1
   rotate_left
   ·cases hr
   cases c2
   rotate_left
   ·cases hr
   refine AG EC (CJ e0 e1 e2 r1 r2 s1 (CO s2 h1 h2 kT kF)) AB AB AB AB AB AB ?_;exact⟨trivial,AL⟩
 clear hr e0 e1 e2 r1 r2 s1 s2 hp h1 h2 hR
 by_cases h0:cs.length=0
 ·rw[AH h0]at hH
  rw[hH,AH (by decide)]at hB;rw[hB];have k0:((cs.length:Int)==0)=true:=by rw[h0];rfl
  refine AG EC (Ad el k0) AB AB AB AB AB AB ?_;exact AK rfl AA.out
 rw[AF h0]at hH;have k0:((cs.length:Int)==0)=false:=Bu.2 (by omega)
 by_cases h8:8<cs.length
 ·rw[AH h8]at hH
  rw[hH,AH (by decide)]at hB;rw[hB];have k8:decide ((cs.length:Int)>8)=true:=AZ (by omega);refine AG EC (At el k0 k8) AB AB AB AB AB AB ?_;exact AK rfl AA.out
 rw[AF h8]at hH;rw[hH,AF (λh=>h rfl)]at hB;rw[hB];have k8:decide ((cs.length:Int)>8)=false:=Ah (by omega);clear hB hH hside;refine AG EC (At el k0 k8) AB AB AB AB AB AB ?_;refine AC.loop (α:=Nat×Nat) (λp=>⟨[(1,.optr 0 0 5 0 0),(3,i64 (p.1:Int))],[⟨0,0,24,5,[.agg [str (sb x.flow),i64 x.core,i64 x.room,i64 x.side,FM false cs]]⟩],p.2⟩) (λp=>cs.length-p.1) (λq=>q.1<=cs.length/\ES x (cs.drop q.1)=ES x cs) (0,_) ⟨BX _,rfl⟩ AL ?_;rintro⟨i,n⟩ F ⟨hi,hJ⟩;dsimp only at hi hJ⊢;rcases BI i cs.length with h2|h2
 rotate_left
 ·have k1:=Cd h2
  have:i=cs.length:=by omega
  subst this;rw[JX]at hJ;have hz:ES x cs=0:=hJ.symm;have cS:=hsafe (Sx hz) hsd;rw[AF (λh=>h hz)];cases hq:C4 x.side (B5 x)
  ·rw[hq]at cS
   rw[AF Bool.false_ne_true];refine AG EC (BZ k1 el kT kF) cS AB AB AB AB AB ?_;exact AK rfl AA.out
  ·rw[hq]at cS
   rw[AH rfl];refine AG EC (BZ k1 el kT kF) cS AB AB AB AB AB ?_;exact AK rfl AA.out
 have k1:=Ce h2;have wi:=Cf (i:=i) (by omega);obtain⟨c,hc'⟩:=CK h2;have hm:(cs.map (AY false))[i]?=some (.sl false 3 (c.map AD.D)):=by rw[A7,hc'];rfl
 obtain⟨hc1,hc2⟩:=hc c (Aw hc');have cP:=gP false c hc1 hc2;have cG:=pF false c hc1;have hd:cs.drop i=c::cs.drop (i+1):=by
  have:=List.getElem?_eq_some_iff.1 hc'
  rw[EU this.1,this.2]
 rw[hd]at hJ;have hJ2:ES x cs=if Cy x c≠0 then Cy x c else ES x (cs.drop (i+1)):=hJ.symm
 by_cases hp:Be c=0
 rotate_left
 ·rw[o5 hp,AH (by omega)]at hJ2
  have k2:(((Be c:Nat):Int) != 0)=true:=Gs (by omega);rw[AH (by rw[hJ2];omega),hJ2];refine AG EC (BZ k1 el k2 kN) hm cP AB AB AB AB ?_;exact AK rfl AA.out
 rw[hp]at cP;have k2:(((0:Nat):Int) != 0)=false:=rfl;have hsm:=(DS hp).2.2;have cL:=hlvl i c hc' hsm;cases hg:B7 c
 ·rw[hg]at cG
  rw[rq hp hg,AH (by decide)]at hJ2;rw[AH (by rw[hJ2];decide),hJ2];refine AG EC (EQ k1 el k2 kT kF kN) hm cP cG AB AB AB ?_;exact AK rfl AA.out
 rw[hg]at cG
 by_cases hrm:AT c>x.room
 ·have k3:decide (AT c>x.room)=true:=AZ hrm
  rw[mc hp hg hrm,AH (by decide)]at hJ2;rw[AH (by rw[hJ2];decide),hJ2];refine AG EC (CJ k1 el k2 k3 kT kF kN) hm cP cG cL AB AB ?_;exact AK rfl AA.out
 ·have k3:decide (AT c>x.room)=false:=Ah hrm
  rw[To hp hg hrm,AF (λh=>h rfl)]at hJ2;refine AG EC (CJ k1 el k2 k3 wi kT (Ad kF kN)) hm cP cG cL AB AB ?_;exact⟨(i+1,_),⟨h2,hJ2.symm⟩,by dsimp only;omega,AL⟩
def JZ (x:Ar)(i:Int):Bool:=Do i 0 ((x.cells.length:Int)-1)
theorem xN (x:Ar)(hl:x.cells.length<=1000000)(i:Int):AJ C0 101 [i64 i,.pptr x.D] (As (!JZ x i)):=by
 refine Aj.walk w1 ay rfl λF=>?_
 have cW:=Oa i 0 ((x.cells.length:Int)-1);have hb:JZ x i=Do i 0 ((x.cells.length:Int)-1):=rfl;have w2:IntKind.i64.wrap ((x.cells.length:Int)-1)=(x.cells.length:Int)-1:=wI (by omega) (by omega);obtain⟨cs,hcs⟩:∃c,x.cells=c:=⟨_,rfl⟩
 have el:(((cs.map (AY false)).length:Nat):Int)=(cs.length:Int):=by rw[Am]
 unfold Ar.D;rw[hb];rw[hcs]at cW w2⊢;refine AG Ag (Ad el w2) cW AB AB AB AB AB ?_;exact AK rfl AA.out
theorem xq (b:Bool)(l:List Int)(c:D)[pc:AA c](p:Int->Bool)(hl:l.length<=1000000)(hc:∀x∈l,AJ C0 101 [i64 x,c] (As (p x))):AJ C0 141 [.sl b 1 (CP l),.clo (.func 101) [] [c]] (i64 (J7 p l)):=by
 refine Aj.walk w1 aT rfl λF=>?_
 have el:(((CP l).length:Nat):Int)=(l.length:Int):=by rw[Am]
 refine AG Ag el AB AB AB AB AB AB ?_;refine AC.loop (α:=Nat×Nat) (λp=>⟨[(0,.sl b 1 (CP l)),(1,.clo (.func 101) [] [c]),(7,i64 l.length),(8,i64 (p.1:Int))],[],p.2⟩) (λp=>l.length-p.1) (λq=>q.1<=l.length/\∀(j:Nat) (x:Int),j<q.1->l[j]?=some x->p x=false) (0,_) ⟨BX _,λj x hj=>Ae hj (G6 j)⟩ AL ?_;rintro⟨i,n⟩ F ⟨hi,ha⟩;dsimp only at hi ha⊢;rcases BI i l.length with h2|h2
 rotate_left
 ·have e1:=Cd h2
  have:i=l.length:=by omega
  subst this;refine AG Ag e1 AB AB AB AB AB AB ?_;exact AK (by rw[S7 ha]) AA.out
 have e1:=Ce h2;have wi:=Cf (i:=i) (by omega);obtain⟨x,hx⟩:=CK h2;have hm:(CP l)[i]?=some (i64 x):=by rw[A7,hx];rfl
 have cn:=hc x (Aw hx);cases hb:p x
 ·rw[hb]at cn
  refine AG Ag (At e1 wi kN) hm cn AB AB AB AB ?_;refine⟨(i+1,_),⟨h2,λj z hj hjz=>?_⟩,by dsimp only;omega,AL⟩;rcases BI j i with h|h
  ·exact ha j z h hjz
  ·have:j=i:=by dsimp only at hj;omega
   subst this;rw[hx]at hjz;cases hjz;exact hb
 ·rw[hb]at cn
  refine AG Ag (At e1 wi kN) hm cn AB AB AB AB ?_;exact AK (by rw[UR hx hb ha]) AA.out
theorem xJ (b:Bool)(l:List Int)(c:D)[pc:AA c](p:Int->Bool)(hl:l.length<=1000000)(hc:∀x∈l,AJ C0 101 [i64 x,c] (As (p x))):AJ C0 100 [.sl b 1 (CP l),.clo (.func 101) [] [c]] (As (l.any p)):=by
 refine Aj.walk w1 ax rfl λF=>?_
 have c1:=xq b l c p hl hc;have e1:=US p l;refine AG Ag e1 c1 AB AB AB AB AB ?_;exact AK rfl AA.out
def H6 (x:Ar)(ns:List Int):Int:=if Ch x≠0 then Ch x else if ns.any (λi=>!JZ x i)then 10 else 0
theorem fT (x:Ar)(hl:x.cells.length<=1000000)(hc:∀c∈x.cells,c.length<=1000000/\∀y∈c,y.few)(ns:List Int)(hn:ns.length<=1000000):AJ C0 55 [x.D,.sl true 1 (CP ns)] (i64 (H6 x ns)):=by
 refine Aj.walk w1 fG rfl λF=>?_
 have cB:=qY x hl hc;have cH:=xJ true ns (.pptr x.D) (λi=>!JZ x i) hn λi _=>xN x hl i
 have cW:=GQ (ns.any λi=>!JZ x i) 10;have hE:H6 x ns=if Ch x≠0 then Ch x else if ns.any (λi=>!JZ x i)then 10 else 0:=rfl
 obtain⟨E,hEE⟩:∃E,Ch x=E:=⟨_,rfl⟩
 rw[hEE]at cB hE;have hx:∃a b c d e,x.D=.agg [a,b,c,d,e]:=⟨_,_,_,_,_,rfl⟩
 have px:AA x.D:=AI;have px2:AU x.D:=AI;obtain⟨a1,a2,a3,a4,a5,hx⟩:=hx;rw[hx]at cB cH px px2⊢;rw[hE]
 by_cases h0:E=0
 rotate_left
 ·have k2:(E != 0)=true:=Gs h0
  rw[AH h0];refine AG Ag k2 cB AB AB AB AB AB ?_;exact AK rfl AA.out
 have k2:(E != 0)=false:=by rw[h0];rfl
 rw[AF (λh=>h h0)];refine AG Ag k2 cB AB AB AB AB AB ?_;refine BE.own _ (MT cH rfl (λi a d h1 h2=>by
  match i with
  | 0=>cases h1;cases h2;exact .refl _ _
  | 1=>cases h1;cases h2;exact .clo1 (.ptr rfl rfl rfl rfl)
  |n+2=>cases h1) AI (.prim _)) ?_
 rintro d H' n' ⟨rfl,rfl,rfl⟩;refine AG Ag k2 cW AB AB AB AB AB ?_;exact AK rfl AA.out
def HQ (x:Ar)(i:Nat)(L:List AD):Ar:=⟨x.flow,x.core,x.room,x.side,(x.cells.map A8).set i L⟩
def HU (l:List (List AD))(k:Nat):List D:=(l.take k).map (λc=>AY false (A8 c))++List.replicate (l.length-k) CR
theorem qz {l:List (List AD)}{k:Nat}{c:List AD}(h:l[k]?=some c):(HU l k).set k (AY false (A8 c))=HU l (k+1):=by
 have hk:=(List.getElem?_eq_some_iff.1 h).1;unfold HU;rw[Nm _ _ (by rw[Am,Bb];omega)];rw[Am,Bb,show k-min k l.length=0 by omega,Dp,h,DG];rw[show l.length-k=(l.length-(k+1))+1 by omega,List.replicate_succ,List.set_cons_zero];rw[show List.map (λc=>AY false (A8 c)) (some c).toList=[AY false (A8 c)]from rfl,Di];rfl
theorem qx (l:List (List AD))(k:Nat)(hk:k<=l.length):(HU l k).length=l.length:=by
 unfold HU;rw[Bk,Am,Bb,Iu];omega
theorem qu (l:List (List AD)):HU l l.length=(l.map A8).map (AY false):=by
 unfold HU;rw[DV,Nat.sub_self,List.map_map];exact DE _
theorem wK {l:List (List AD)}{k:Nat}(h:k<l.length):(HU l k)[k]?=some CR:=by
 unfold HU;rw[E7 (by rw[Am,Bb];omega),Am,Bb,show k-min k l.length=0 by omega,show l.length-k=(l.length-(k+1))+1 by omega,List.replicate_succ];rfl
theorem L0 {H:Hp}{a b c d sD:D}{L:List D}(h:Fz H [] sD (.sl false 1 L)):Fz H [] (.agg [a,b,c,d,sD]) (.agg [a,b,c,d,.sl false 1 L]):=.agg rfl λi e e' h1 h2=>by
 match i with
 | 0=>cases h1;cases h2;exact .refl _
 | 1=>cases h1;cases h2;exact .refl _
 | 2=>cases h1;cases h2;exact .refl _
 | 3=>cases h1;cases h2;exact .refl _
 | 4=>cases h1;cases h2;exact h
 |n+5=>cases h1
theorem fV (x:Ar)(i:Nat)(hi:i<x.cells.length)(hl:x.cells.length<=1000000)(hc:∀c∈x.cells,AJ C0 62 [AY false c] (AY false (A8 c)))(L:List AD):AJ C0 59 [x.D,i64 (i:Int),AY false L] (HQ x i L).D:=by
 refine Aj.walk w1 fK rfl λF=>?_
 obtain⟨cs,hcs⟩:∃c,x.cells=c:=⟨_,rfl⟩
 have hW:(HQ x i L).D=.agg [str (sb x.flow),i64 x.core,i64 x.room,i64 x.side,.sl false 1 (((cs.map A8).map (AY false)).set i (AY false L))]:=by
  rw[<-hcs,<-List.map_set];rfl
 have el:(((cs.map (AY false)).length:Nat):Int)=(cs.length:Int):=by rw[Am]
 have pB:AA (HQ x i L).D:=AI;rw[hW]at pB⊢;unfold Ar.D;rw[hcs]at hi hl hc⊢;have e0:decide ((cs.length:Int)<0)=false:=Ah (by omega);refine AG Ag (At el e0 kN) AB AB AB AB AB AB ?_;rw[show List.replicate cs.length (D.prim (Value.slice none 0 0))=HU cs 0 from by unfold HU;simp];refine AC.loop (α:=Nat×Nat) (λp=>⟨[(1,i64 (i:Int)),(2,AY false L),(3,.optr 0 0 5 0 0),(6,.optr 1 1 5 0 0),(7,.osl 103 5 1 0 cs.length),(15,FM false cs),(16,i64 (cs.length:Int)),(17,i64 (p.1:Int))],[⟨103,5,38,1,HU cs p.1⟩,⟨1,1,24,5,[.agg [.prim (.string ⟨#[]⟩),.prim (.int .i64 0),.prim (.int .i64 0),.prim (.int .i64 0),.prim (.slice none 0 0)]]⟩,⟨0,0,24,5,[.agg [str (sb x.flow),i64 x.core,i64 x.room,i64 x.side,FM false cs]]⟩],p.2⟩) (λp=>cs.length-p.1) (λq=>q.1<=cs.length/\11<=q.2) (0,_) ⟨BX _,Ai _⟩ AL ?_;rintro⟨k,n⟩ F ⟨hk,hn⟩;dsimp only at hk hn⊢;have hlw:=qx cs k hk;rcases BI k cs.length with h2|h2
 rotate_left
 ·have k1:=Cd h2
  have:k=cs.length:=by omega
  subst this;rw[qu]at hlw⊢;obtain⟨W,hWW⟩:∃W,(cs.map A8).map (AY false)=W:=⟨_,rfl⟩
  obtain⟨ci,hci⟩:=CK hi;have hwi:W[i]?=some (.sl false 3 ((A8 ci).map AD.D)):=by rw[<-hWW,A7,A7,hci];rfl
  rw[hWW]at hlw pB⊢;refine AG Ag (BZ k1 hwi kN BV) AB AB AB AB AB AB ?_;have hR:=HI (H:=[⟨103,5,38,1,W.set i (AY false L)⟩,⟨1,1,24,5,[.agg [str (sb x.flow),i64 x.core,i64 x.room,i64 x.side,.osl 103 5 1 0 cs.length]]⟩,⟨0,0,24,5,[.agg [str (sb x.flow),i64 x.core,i64 x.room,i64 x.side,.osl 103 5 1 0 cs.length]]⟩]) (Hf:=[]) (k:=103) (g:=5) (T:=38) (sz:=1) (l:=W.set i (AY false L)) rfl;rw[DF,hlw]at hR;exact⟨_,L0 hR,pB.out,rfl⟩
 have k1:=Ce h2;have wi:=Cf (i:=k) (by omega);obtain⟨c,hc'⟩:=CK h2;have hm:(cs.map (AY false))[k]?=some (.sl false 3 (c.map AD.D)):=by rw[A7,hc'];rfl
 have cN:=hc c (Aw hc');have hset:=qz hc';have hat:=wK h2;obtain⟨es,hes⟩:∃e,HU cs k=e:=⟨_,rfl⟩
 rw[hes]at hlw hset hat⊢;refine AG Ag (CO k1 wi hat kN BV) hm cN AB AB AB AB ?_;refine⟨(k+1,n+1000),⟨h2,by dsimp only;omega⟩,by dsimp only;omega,?_⟩;dsimp only;rw[<-hset];exact AL
end Go.Ide
namespace Go.Proofs
open Go.Shelf Go.RowKit Go.Lib
def Tryz.growLay_ren:Go.Shelf.Ren:=⟨fun|4=>104|n=>n,fun|22=>38|25=>80|3=>3|4=>4|9=>9|20=>20|0=>0|n=>n,fun|n=>n⟩
theorem gj:Go.Proofs.Lays8.n4 Tryz.prog Tryz.growLay_ren:={
 mixed:=by kernel_rfl
 f4:=⟨Tryz.f104.name,by decide,Tryz.func104.trans (congrArg some (by kernel_rfl))⟩
 t0:=Tryz.underlying0
 a0:=Tryz.isAgg0
 z0:=Tryz.sizeOf0
 v0:=Tryz.zeroValue0
 t3:=Tryz.underlying3
 a3:=Tryz.isAgg3
 z3:=Tryz.sizeOf3
 v3:=Tryz.zeroValue3
 t4:=Tryz.underlying4
 a4:=Tryz.isAgg4
 z4:=Tryz.sizeOf4
 v4:=Tryz.zeroValue4
 t9:=Tryz.underlying9
 a9:=Tryz.isAgg9
 z9:=Tryz.sizeOf9
 v9:=Tryz.zeroValue9
 t20:=Tryz.underlying20
 a20:=Tryz.isAgg20
 z20:=Tryz.sizeOf20
 v20:=Tryz.zeroValue20
 t22:=Tryz.underlying38
 a22:=Tryz.isAgg38
 z22:=Tryz.sizeOf38
 v22:=Tryz.zeroValue38 }
end Go.Proofs
namespace Go.Ide
open Go.Proofs Go.RowKit Go.Lib
set_option maxRecDepth 20000
set_option maxHeartbeats 4000000
theorem KR (K n:Nat)(h0:0<n)(hn:n<=1000000)(H:Hp)(m:Nat):Cg C0 104 [CR,i64 (n:Int)] H m (λd H' n'=>d=.osl K m 3 0 0/\H'=⟨K,m,80,3,[]⟩::H/\n'=m+1):=by
 refine⟨by obtain⟨fn,a1,a2,a3,-⟩:=Ul;exact⟨fn,_,a1,a2,a3⟩,λF ρ w vs mm fr gn hsz rep=>?_⟩;obtain⟨v0,v1,rfl⟩:∃v0 v1,vs = #[v0,v1]:=by
  match vs,hsz with
  |⟨[a,b]⟩,_=>exact⟨a,b,rfl⟩
 have r0:AW ρ _ w CR v0:=rep 0 _ rfl;have r1:AW ρ _ w (i64 (n:Int)) v1:=rep 1 _ rfl;cases r0;cases r1;have hT:∃i,X1.tt 38=some i/\i.ti=.slice 80 3 48 (.agg #[.string ⟨#[]⟩,.int .i64 0,.slice none 0 0]):=⟨_,rfl,rfl⟩
 obtain⟨i,hi1,hi2⟩:=hT;obtain⟨-,⟨inf,k1,k2,k3,k4⟩,k5,k6⟩:=Ef (w1.tt _ _ hi1) hi2;have hc:=Any8.slices_Grow_grow gj inf _ k1 k4 (by rw[k2];decide) none 0 0 n [] w (Ai _) (by omega) (by rw[k3];omega) (by omega) (by rw[k2];rfl) (λ_=>rfl) (λa h=>by cases h);refine Calls.mono hc ?_;rintro e w' ⟨rfl,rfl⟩;rw[show Tryz.growLay_ren.t 25=80 from rfl,BV];have hge:n<=grownCap w n 0 80:=grownCap_ge ..;have hmx:grownCap w n 0 80<=maxLen:=grownCap_le_maxLen _ _ _ _ (by simp only[maxLen];omega);generalize grownCap w n 0 80=cap at hge hmx⊢;obtain⟨z,hz⟩:∃z,(Value.agg #[.string ⟨#[]⟩,.int .i64 0,.slice none 0 0])=z:=⟨_,rfl⟩
 rw[hz]at k5 k6⊢;generalize hcs' : #[]++Builtin.zeroCells z.cells (n-0)++Builtin.zeroCells z.cells (cap-n)=cs';have hsz':cs'.size=cap*3:=by
  rw[<-hcs',JW,JW,size_zeroCells,size_zeroCells,k5];simp only[KH,G5];omega
 have ho:DB ρ (AN F.X ρ H) w.drew ⟨K,m,80,3,[]⟩ cs':=by
  refine⟨by simp,λq d h=>by simp at h,λq v hv=>?_,λq d j c h=>by simp at h⟩;rw[<-hcs']at hv;rcases BI q (#[]++Builtin.zeroCells z.cells (n-0)).size with hq|hq
  ·rw[Gg hq,Array.empty_append]at hv
   exact P6 k6 _ _ v hv
  ·rw[Gf hq]at hv
   exact P6 k6 _ _ v hv
 obtain⟨m1,x1⟩:=mm.drew.alloc ⟨K,m,80,3,[]⟩ cs' (fr _ _ (Ai _)) (λe' he' h=>Nat.ne_of_lt (gn e' he') h.2) ho;refine⟨_,_,_,_,_,rfl,⟨rfl,rfl,rfl⟩,m1,(BT.drew _ _ _).trans x1,λk g hg=>?_,λe he=>?_,?_⟩
 ·unfold Lk.put
  rw[AF λh=>by have:=h.2;dsimp only at this;omega];exact fr k g (by omega)
 ·rcases BA.1 he with rfl|he
  ·exact Ha _
  ·exact DD (gn e he)
 ·exact Pe (b:=w.heap.size) (T:=80) (cs:=cs') (fz:=(0,0)) (EO _ _ _ _) (by rw[EK];exact AH rfl) (BX _) hsz'.symm hmx
theorem Xc {vs:List (List AD)}{i:Nat}{l:List AD}(h:vs[i]?=some l):(vs.take (i+1)).flatten=(vs.take i).flatten++l:=by
 rw[Dp,h];simp
theorem Zb {vs:List (List AD)}(i:Nat):(vs.take i).flatten.length<=vs.flatten.length:=by
 have:vs.flatten=(vs.take i).flatten++(vs.drop i).flatten:=by rw[<-List.flatten_append,E8]
 rw[this,Bk];omega
theorem XY (vs:List (List AD))(h0:vs.flatten≠[])(hl:vs.flatten.length<=1000000)(hv:vs.length<=1000000):AJ C0 63 [.sl true 1 (vs.map (AY false))] (AY false vs.flatten):=by
 refine Aj.walk w1 VS rfl λF=>?_
 have el:(((vs.map (AY false)).length:Nat):Int)=(vs.length:Int):=by rw[Am]
 have hpos:0<vs.flatten.length:=List.length_pos_iff.2 h0;have cG:=λm=>KR 1302 vs.flatten.length hpos hl [] m
 refine AG Ag el AB AB AB AB AB AB ?_;refine AC.loop (α:=Nat×Nat) (λp=>⟨[(0,.sl true 1 (vs.map (AY false))),(3,i64 ((vs.take p.1).flatten.length:Int)),(9,.sl true 1 (vs.map (AY false))),(10,i64 (vs.length:Int)),(11,i64 (p.1:Int))],[],p.2⟩) (λp=>vs.length-p.1) (λq=>q.1<=vs.length) (0,_) (BX _) AL ?_;rintro⟨i,n⟩ F hi;dsimp only at hi⊢;rcases BI i vs.length with h2|h2
 ·have e1:=Ce h2
  have wi:=Cf (i:=i) (by omega);obtain⟨x,hx⟩:=CK h2;have hm:(vs.map (AY false))[i]?=some (.sl false 3 (x.map AD.D)):=by rw[A7,hx];rfl
  have hs:=Xc hx;have hle:=Zb (vs:=vs) (i+1);have ex:(((x.map AD.D).length:Nat):Int)=(x.length:Int):=by rw[Am]
  rw[hs,Bk]at hle;have w1':IntKind.i64.wrap (((vs.take i).flatten.length:Int)+(x.length:Int))=(((vs.take (i+1)).flatten.length:Nat):Int):=by
   rw[wI (by omega) (by omega),hs,Bk];omega
  have g0:decide ((((vs.take (i+1)).flatten.length:Nat):Int)<0)=false:=Ah (by omega);refine AG Ag (EQ e1 wi ex w1' g0 kN) hm AB AB AB AB AB ?_;exact⟨(i+1,_),h2,by dsimp only;omega,AL⟩
 have e1:=Cd h2
 have:i=vs.length:=by omega
 subst this;rw[DV];refine AG Ag e1 AB AB AB AB AB AB ?_;refine BE.own _ (cG _) ?_;rintro d H' n' ⟨rfl,rfl,rfl⟩;refine AG Ag el AB AB AB AB AB AB ?_;refine AC.loop (α:=Nat×Nat×Nat) (λp=>⟨[(6,.osl 1302 p.2.1 3 0 (vs.take p.1).flatten.length),(25,.sl true 1 (vs.map (AY false))),(26,i64 (vs.length:Int)),(27,i64 (p.1:Int))],[⟨1302,p.2.1,80,3,(vs.take p.1).flatten.map AD.D⟩],p.2.2⟩) (λp=>vs.length-p.1) (λq=>q.1<=vs.length) (0,n+1+1,_) (BX _) AL ?_;clear hi h2 e1;rintro⟨i,g,n⟩ F hi;dsimp only at hi⊢;rcases BI i vs.length with h2|h2
 ·have e1:=Ce h2
  have wi:=Cf (i:=i) (by omega);obtain⟨x,hx⟩:=CK h2;have hm:(vs.map (AY false))[i]?=some (.sl false 3 (x.map AD.D)):=by rw[A7,hx];rfl
  have hs:=Xc hx;have hle:=Zb (vs:=vs) (i+1);have hln:((vs.take i).flatten.map AD.D).length=(vs.take i).flatten.length:=Am ..;have hlx:(x.map AD.D).length=x.length:=Am ..;rw[hs,Bk]at hle;obtain⟨R,hR⟩:∃R,(vs.take i).flatten=R:=⟨_,rfl⟩
  obtain⟨X,hX⟩:∃X,x.map AD.D=X:=⟨_,rfl⟩
  have pX:AA (.sl false 3 X):=by rw[<-hX];exact AI
  rw[hR]at hs hle hln⊢;rw[hX]at hm hlx;obtain⟨RD,hRD⟩:∃X,R.map AD.D=X:=⟨_,rfl⟩
  rw[hRD]at hln⊢;refine AG Ag (At e1 wi kN) hm AB AB AB AB AB ?_;refine⟨(i+1,n+1+1+1+1+1+1,n+1+1+1+1+1+1+1+1+1+1),h2,by dsimp only;omega,?_⟩;dsimp only;rw[hs,Bk,DG,hRD,hX,hlx];rw[CE (show RD.length<=R.length by omega)];exact AL
 have e1:=Cd h2
 have:i=vs.length:=by omega
 subst this;rw[DV];have hR:=HI (H:=[⟨1302,g,80,3,vs.flatten.map AD.D⟩]) (Hf:=[]) (k:=1302) (g:=g) (T:=80) (sz:=3) (l:=vs.flatten.map AD.D) rfl;rw[Am]at hR;refine AG Ag e1 AB AB AB AB AB AB ?_;exact⟨_,hR,AA.out,rfl⟩
end Go.Ide
namespace Go.Ide
open Go.Proofs Go.RowKit Go.Lib
set_option maxRecDepth 20000
set_option maxHeartbeats 4000000
theorem oI:AJ C0 104 [CR,i64 0] CR:=by
 refine⟨by obtain⟨fn,a1,a2,a3,-⟩:=Ul;exact⟨fn,_,a1,a2,a3⟩,λX w vs _ _ _ hsz rep=>?_⟩;obtain⟨v0,v1,rfl⟩:∃v0 v1,vs = #[v0,v1]:=by
  match vs,hsz with
  |⟨[a,b]⟩,_=>exact⟨a,b,rfl⟩
 have r0:AW nol _ w CR v0:=rep 0 _ rfl;have r1:AW nol _ w (i64 0) v1:=rep 1 _ rfl;cases r0;cases r1;refine(Any8.slices_Grow_room gj none 0 0 0 w (Ai _) (by omega) (by omega) (Ai _)).mono ?_;rintro e w' ⟨rfl,rfl⟩;exact⟨_,_,rfl,.refl _ _,rfl,.prim _⟩
theorem jR (vs:List (List AD))(h0:∀x∈vs,x=[])(hv:vs.length<=1000000):AJ C0 63 [.sl true 1 (vs.map (AY false))] (AY false []):=by
 refine Aj.walk w1 VS rfl λF=>?_
 have el:(((vs.map (AY false)).length:Nat):Int)=(vs.length:Int):=by rw[Am]
 have cG:=oI;refine AG Ag el AB AB AB AB AB AB ?_;refine AC.loop (α:=Nat×Nat) (λp=>⟨[(0,.sl true 1 (vs.map (AY false))),(3,i64 0),(9,.sl true 1 (vs.map (AY false))),(10,i64 (vs.length:Int)),(11,i64 (p.1:Int))],[],p.2⟩) (λp=>vs.length-p.1) (λq=>q.1<=vs.length) (0,_) (BX _) AL ?_;rintro⟨i,n⟩ F hi;dsimp only at hi⊢;rcases BI i vs.length with h2|h2
 ·have e1:=Ce h2
  have wi:=Cf (i:=i) (by omega);obtain⟨x,hx⟩:=CK h2;have hx0:=h0 x (Aw hx);subst hx0;have hm:(vs.map (AY false))[i]?=some (.sl false 3 []):=by rw[A7,hx];rfl
  have ln0:([]:List D).length=0:=rfl;have w1':IntKind.i64.wrap (0+((0:Nat):Int))=0:=rfl;have g0:decide ((0:Int)<0)=false:=rfl;refine AG Ag (EQ e1 wi ln0 w1' g0 kN) hm AB AB AB AB AB ?_;exact⟨(i+1,_),h2,by dsimp only;omega,AL⟩
 have e1:=Cd h2
 have:i=vs.length:=by omega
 subst this;refine AG Ag (Ad el e1) cG AB AB AB AB AB ?_;refine AC.ghost 1302 80 3 [(6,.osl 1302 _ 3 0 0),(25,.sl true 1 (vs.map (AY false))),(26,i64 (vs.length:Int)),(27,i64 ((0:Nat):Int))] ⟨.inr ⟨rfl,rfl⟩,.inl rfl,.inl rfl,.inl rfl,trivial⟩ ?_;refine AC.loop (α:=Nat×Nat×Nat) (λp=>⟨[(6,.osl 1302 p.2.1 3 0 0),(25,.sl true 1 (vs.map (AY false))),(26,i64 (vs.length:Int)),(27,i64 (p.1:Int))],[⟨1302,p.2.1,80,3,[]⟩],p.2.2⟩) (λp=>vs.length-p.1) (λq=>q.1<=vs.length) (0,_,_) (BX _) AL ?_;clear hi h2 e1;rintro⟨i,g,n⟩ F hi;dsimp only at hi⊢;rcases BI i vs.length with h2|h2
 ·have e1:=Ce h2
  have wi:=Cf (i:=i) (by omega);obtain⟨x,hx⟩:=CK h2;have hx0:=h0 x (Aw hx);subst hx0;have hm:(vs.map (AY false))[i]?=some (.sl false 3 []):=by rw[A7,hx];rfl
  refine AG Ag (At e1 wi kN) hm AB AB AB AB AB ?_;exact⟨(i+1,n+1+1+1+1+1+1,n+1+1+1+1+1+1+1+1+1+1),h2,by dsimp only;omega,AL⟩
 have e1:=Cd h2;have hR:=HI (H:=[⟨1302,g,80,3,[]⟩]) (Hf:=[]) (k:=1302) (g:=g) (T:=80) (sz:=3) (l:=[]) rfl;refine AG Ag e1 AB AB AB AB AB AB ?_;exact⟨_,hR,AA.out,rfl⟩
theorem YW (vs:List (List AD))(hl:vs.flatten.length<=1000000)(hv:vs.length<=1000000):AJ C0 63 [.sl true 1 (vs.map (AY false))] (AY false vs.flatten):=by
 by_cases h:vs.flatten=[]
 ·rw[h]
  exact jR vs (λx hx=>En (Nat.le_zero.1 (by
   have:=(List.sublist_flatten_of_mem hx).length_le
   rwa [h]at this))) hv
 ·exact XY vs h hl hv
def PQ:List AD->Int->List AD
 | [],_=>[]
 |x::r,m=>x.w (min m x.mass)::PQ r (m-min m x.mass)
abbrev UM:Dr:=[(1,[0,1,2,3,4,5,6],[7]),(9,[0,1,2,3,4],[5,6])]
open Go.Proofs Go.RowKit
set_option maxRecDepth 20000
set_option maxHeartbeats 4000000
def E6:List AD->Int->Int->List AD
 | [],_,_=>[]
 |x::r,low,left=>x.w (min (x.mass-min x.mass low) left)::E6 r (low-min x.mass low) (left-min (x.mass-min x.mass low) left)
structure WH where
 o:List AD
 low:Int
 left:Int
 g:Nat
def J6 (g1 g2:Nat)(p:WH):Hp:=Dt 905 p.g 80 3 (p.o.map AD.D)++[⟨200,g2,38,1,[D3 905 p.g 3 (p.o.map AD.D)]⟩,⟨106,g1,3,1,[i64 p.left]⟩,⟨0,0,3,1,[i64 p.low]⟩]
theorem ZL (g1 g2:Nat)(a b:Int)(g:Nat):J6 g1 g2 ⟨[],a,b,g⟩=[⟨200,g2,38,1,[CR]⟩,⟨106,g1,3,1,[i64 b]⟩,⟨0,0,3,1,[i64 a]⟩]:=rfl
theorem Qa (g1 g2:Nat)(z:AD)(o:List AD)(a b:Int)(g:Nat):J6 g1 g2 ⟨z::o,a,b,g⟩=[⟨905,g,80,3,z.D::o.map AD.D⟩,⟨200,g2,38,1,[.osl 905 g 3 0 ((o.map AD.D).length+1)]⟩,⟨106,g1,3,1,[i64 b]⟩,⟨0,0,3,1,[i64 a]⟩]:=rfl
def PD (L:List AD)(low left:Int)(k:Nat)(p:WH):Prop:=p.o.length=k/\p.o++E6 (L.drop k) p.low p.left=E6 L low left/\0<=p.low/\p.low<=1000000000000/\0<=p.left/\p.left<=1000000000000000
theorem W9 (b:Bool)(l:List AD)(low high:Int)(hl:l.length<=1000000)(h1:0<=low/\low<=1000000000000)(h2:0<=high/\high<=1000000000000)(t:Int)(ht:low+high<=t/\t<=1000000000000000)(hx:∀x∈l,0<=x.mass/\x.mass<=1000000000)
  (cT:AJ C0 57 [AY b l] (i64 t))
  (ho:∀x∈l,∀m,AJ C0 94 [x.D,i64 m] (x.w m).D) (R:D) [pR:AA R] (hN:AJ C0 62 [AY false (E6 l low (t-low-high))] R):
  AJ C0 60 [AY b l,i64 low,i64 high] R:=by
 refine Aj.walk w1 fL rfl λF=>?_
 have cV:=Tx b false (l.map AD.D);have hT:∀x∈l.map AD.D,∃a c d,x=.agg [a,c,d]:=λx hx=>by
  obtain⟨y,-,rfl⟩:=List.mem_map.1 hx;exact⟨_,_,_,rfl⟩
 have hoA:∀k,k<l.length->∃y,y∈l/\l[k]?=some y/\(l.map AD.D)[if false then(l.map AD.D).length-1-k else k]?=some y.D:=λk hk=>⟨_,List.getElem_mem hk,BG hk,by
  show(l.map AD.D)[k]?=_;rw[A7,BG hk];rfl⟩
 unfold AY at cT⊢;obtain⟨T,hTT⟩:∃T,l.map AD.D=T:=⟨_,rfl⟩
 have pT:AA (.sl b 3 T):=by rw[<-hTT];exact AI
 have hTl:T.length=l.length:=by rw[<-hTT,Am]
 rw[hTT]at cV hT hoA cT⊢;have w1':IntKind.i64.wrap (t-low)=t-low:=wI (by omega) (by omega);have w2:IntKind.i64.wrap (t-low-high)=t-low-high:=wI (by omega) (by omega);obtain⟨e,he⟩:∃e,t-low-high=e:=⟨_,rfl⟩
 have w2':IntKind.i64.wrap (t-low-high)=e:=by rw[w2,he]
 rw[he]at hN;have he0:0<=e/\e<=1000000000000000:=by omega
 refine AG UM (Ad w1' w2') cT cV AB AB AB AB ?_;have h0:PD l low e 0 ⟨[],low,e,0⟩:=⟨rfl,rfl,h1.1,h1.2,he0.1,he0.2⟩
 refine AC.rangeFunc (fi:=142) (first:=[]) (captured:=[.pptr (.sl b 3 T),.pptr (As false)]) (Ψ:=λj _ H' _=>(j=none/\∃a,PD l low e T.length a/\H'=J6 8 11 a)\/(j=some (.exit 0)/\False)) rfl
  (λds H n Φ=>∃k a x,PD l low e k a/\k<T.length/\T[if false then T.length-1-k else k]?=some x/\ds=[x]/\H=J6 8 11 a/\Φ=λj H' _=>(j=none/\∃a',PD l low e (k+1) a'/\Ck H' (J6 8 11 a') H' (J6 8 11 a'))\/(j=some (.exit 0)/\False)) ?_
  (λE l' R' hE hY=>Vk hE b false T hT (by omega) (λ_ a=>J6 8 11 a) (PD l low e) (.exit 0) (λ_=>False) ⟨[],low,e,0⟩ h0 _ λk a x n hP hk hx=>hY _ _ _ _ ⟨k,a,x,hP,hk,hx,rfl,rfl,rfl⟩) ?_
 ·rintro l' ds H n Φ ⟨k,⟨o,lw,lf,g⟩,x,⟨p1,p2,p3,p4,p6,p7⟩,hk,hxT,rfl,rfl,rfl⟩
  dsimp only at p1 p2 p3 p4 p6 p7;obtain⟨y,hy1,hy2,hy3⟩:=hoA k (by omega);rw[hy3]at hxT;cases hxT;have hd:l.drop k=y::l.drop (k+1):=by
   have:=(List.getElem?_eq_some_iff.1 hy2)
   rw[EU this.1,this.2]
  rw[hd]at p2;have hb:=hx y hy1;have cO:=ho y hy1 (min (y.mass-min y.mass lw) lf);have p5:(o++[y.w (min (y.mass-min y.mass lw) lf)])++E6 (l.drop (k+1)) (lw-min y.mass lw) (lf-min (y.mass-min y.mass lw) lf)=E6 l low e:=by
   rw[<-p2,Di];rfl
  have a1:IntKind.i64.wrap (lw-min y.mass lw)=lw-min y.mass lw:=wI (by omega) (by omega);have a2:IntKind.i64.wrap (y.mass-min y.mass lw)=y.mass-min y.mass lw:=wI (by omega) (by omega);have a3:IntKind.i64.wrap (lf-min (y.mass-min y.mass lw) lf)=lf-min (y.mass-min y.mass lw) lf:=wI (by omega) (by omega);have q1:0<=lw-min y.mass lw/\lw-min y.mass lw<=1000000000000/\0<=lf-min (y.mass-min y.mass lw) lf/\lf-min (y.mass-min y.mass lw) lf<=1000000000000000:=by omega
  refine⟨rfl,λF=>?_⟩;unfold AD.w AD.D at cO;unfold AD.D;dsimp only at cO⊢;obtain⟨SD,hSD⟩:∃d,CX false y.shs=d:=⟨_,rfl⟩
  have pS:AA SD:=by rw[<-hSD];exact AI
  rw[hSD]at cO⊢;rcases o with _|⟨z,o⟩
  ·rw[ZL]
   dsimp only[Gw];refine Ap w1 400 (by kernel_rfl) ?_;refine AE kB ?_;refine⟨trivial,trivial,λF'=>?_⟩;refine AG UM (At a1 a2 a3) cO AB AB AB AB AB ?_;refine .inl ⟨rfl,⟨[y.w (min (y.mass-min y.mass lw) lf)],lw-min y.mass lw,lf-min (y.mass-min y.mass lw) lf,n+1+1+1+1+1+1+1+1+1+1+1+1+1+1+1+1+1+1+1+1+1+1+7⟩,⟨by rw[<-p1];rfl,p5,q1⟩,?_⟩;rw[Qa,<-hSD];exact .keep (.drop (HF _))
  ·have hol:o.length<=1000000:=by rw[Bp]at p1;omega
   rw[Qa];dsimp only[Gw];obtain⟨O,hO⟩:∃O,o.map AD.D=O:=⟨_,rfl⟩
   obtain⟨zD,hzD⟩:∃O,z.D=O:=⟨_,rfl⟩
   have hOl:O.length=o.length:=by rw[<-hO,Am]
   rw[hO,hzD];refine Ap w1 400 (by kernel_rfl) ?_;refine AE kB ?_;refine⟨trivial,trivial,λF'=>?_⟩;refine AG UM (At a1 a2 a3) cO AB AB AB AB AB ?_;rw[show List.take (O.length+1) (zD::O)=zD::O from DV (l:=zD::O)];refine .inl ⟨rfl,⟨z::o++[y.w (min (y.mass-min y.mass lw) lf)],lw-min y.mass lw,lf-min (y.mass-min y.mass lw) lf,n+1+1+1+1+1+1+1+1+1+1+1+1+1+1+1+1+1+1+1+1+1+1+7⟩,⟨by rw[<-p1];simp,p5,q1⟩,?_⟩;have hs:∀g' a b,J6 8 11 ⟨z::o++[y.w (min (y.mass-min y.mass lw) lf)],a,b,g'⟩=[⟨905,g',80,3,zD::O++[.agg [str (sb y.grain),i64 (min (y.mass-min y.mass lw) lf),SD]]⟩,⟨200,11,38,1,[.osl 905 g' 3 0 (O.length+1+1)]⟩,⟨106,8,3,1,[i64 b]⟩,⟨0,0,3,1,[i64 a]⟩]:=λg' a b=>by
    rw[Em,Qa,<-hO,<-hzD,<-hSD,DG];rw[Bk];rfl
   rw[hs];exact .keep (.drop (HF _))
 ·rintro j d H' n' F' hE
  rcases hE with⟨rfl,⟨o,lw,lf,g⟩,⟨p1,p2,-⟩,rfl⟩|⟨-,h⟩
  rotate_left
  ·exact h.elim
  dsimp only at p2;rw[List.drop_eq_nil_of_le (by omega)]at p2;have ho2:o=E6 l low e:=by rw[<-p2];exact(DE o).symm
  rw[<-ho2]at hN;rcases o with _|⟨z,o⟩
  ·rw[ZL]
   change AC _ _ _ _ _ _ _;refine sR 1000 ?_;refine BE.pure [.sl false 3 []] _ ⟨.nil 3,trivial⟩ hN AI ?_;refine BP ?_;refine Ak ?_;exact AK rfl pR.out
  ·have hR:=HI (H:=J6 8 11 ⟨z::o,lw,lf,g⟩) (Hf:=[]) (k:=905) (g:=g) (T:=80) (sz:=3) (l:=(z::o).map AD.D) rfl
   have hle:((z::o).map AD.D).length=(o.map AD.D).length+1:=rfl;rw[hle]at hR;rw[Qa]at hR⊢;change AC _ _ _ _ _ _ _;refine sR 1000 ?_;refine BE.own _ (Pf [] hN (.drop (.drop (.drop (.drop .nil)))) ⟨hR,trivial⟩ AI) ?_;rintro d H2 n2 ⟨rfl,rfl,rfl⟩;refine BP ?_;refine Ak ?_;exact AK rfl pR.out
def RQ (lot:List UInt8)(x:AD):Bool:=x.shs.any λs=>BF (sb s.lot) (sb lot)
def LU (lot:List UInt8):List AD->Int->List (Int×Int)
 | [],_=>[]
 |x::r,n=>(if RQ lot x then[(n+1,n+x.mass)]else[])++LU lot r (n+x.mass)
def Fs (p:Int×Int):D:=.agg [i64 p.1,i64 p.2]
instance  (p:Int×Int):AU (Fs p):=by unfold Fs;exact AI
instance  (p:Int×Int):AA (Fs p):=by unfold Fs;exact AI
theorem yT (lot:List UInt8)(s:Av):AJ C0 174 [s.D,.pptr (str (sb lot))] (As (BF (sb s.lot) (sb lot))):=by
 refine Aj.walk w1 bj rfl λF=>?_
 unfold Av.D;refine AG Ag kB AB AB AB AB AB AB ?_;exact AK rfl AA.out
theorem xr (b:Bool)(l:List Av)(c:D)[pc:AA c](p:Av->Bool)(hl:l.length<=1000000)(hc:∀x∈l,AJ C0 174 [x.D,c] (As (p x))):AJ C0 235 [CX b l,.clo (.func 174) [] [c]] (i64 (J7 p l)):=by
 refine Aj.walk w1 bF rfl λF=>?_
 have el:(((l.map Av.D).length:Nat):Int)=(l.length:Int):=by rw[Am]
 refine AG Ag el AB AB AB AB AB AB ?_;refine AC.loop (α:=Nat×Nat) (λp=>⟨[(0,CX b l),(1,.clo (.func 174) [] [c]),(7,i64 l.length),(8,i64 (p.1:Int))],[],p.2⟩) (λp=>l.length-p.1) (λq=>q.1<=l.length/\∀(j:Nat) (x:Av),j<q.1->l[j]?=some x->p x=false) (0,_) ⟨BX _,λj x hj=>Ae hj (G6 j)⟩ AL ?_;rintro⟨i,n⟩ F ⟨hi,ha⟩;dsimp only at hi ha⊢;rcases BI i l.length with h2|h2
 rotate_left
 ·have e1:=Cd h2
  have:i=l.length:=by omega
  subst this;refine AG Ag e1 AB AB AB AB AB AB ?_;exact AK (by rw[S7 ha]) AA.out
 have e1:=Ce h2;have wi:=Cf (i:=i) (by omega);obtain⟨x,hx⟩:=CK h2;have hm:(l.map Av.D)[i]?=some (.agg [str (sb x.lot),str (sb x.part)]):=by rw[A7,hx];rfl
 have cn:=hc x (Aw hx);unfold Av.D at cn;cases hb:p x
 ·rw[hb]at cn
  refine AG Ag (At e1 wi kN) hm cn AB AB AB AB ?_;refine⟨(i+1,_),⟨h2,λj z hj hjz=>?_⟩,by dsimp only;omega,AL⟩;rcases BI j i with h|h
  ·exact ha j z h hjz
  ·have:j=i:=by dsimp only at hj;omega
   subst this;rw[hx]at hjz;cases hjz;exact hb
 ·rw[hb]at cn
  refine AG Ag (At e1 wi kN) hm cn AB AB AB AB ?_;exact AK (by rw[UR hx hb ha]) AA.out
theorem xk (b:Bool)(l:List Av)(c:D)[pc:AA c](p:Av->Bool)(hl:l.length<=1000000)(hc:∀x∈l,AJ C0 174 [x.D,c] (As (p x))):AJ C0 173 [CX b l,.clo (.func 174) [] [c]] (As (l.any p)):=by
 refine Aj.walk w1 bi rfl λF=>?_
 have c1:=xr b l c p hl hc;have e1:=US p l;refine AG Ag e1 c1 AB AB AB AB AB ?_;exact AK rfl AA.out
structure WJ where
 o:List (Int×Int)
 n:Int
 g:Nat
def KU (lot:List UInt8)(g1 g2:Nat)(p:WJ):Hp:=Dt 609 p.g 129 2 (p.o.map Fs)++[⟨200,g2,3,1,[i64 p.n]⟩,⟨100,g1,127,1,[D3 609 p.g 2 (p.o.map Fs)]⟩,⟨0,0,9,1,[str (sb lot)]⟩]
theorem Z6 (lot:List UInt8)(g1 g2:Nat)(n:Int)(g:Nat):KU lot g1 g2 ⟨[],n,g⟩=[⟨200,g2,3,1,[i64 n]⟩,⟨100,g1,127,1,[CR]⟩,⟨0,0,9,1,[str (sb lot)]⟩]:=rfl
theorem Qo (lot:List UInt8)(g1 g2:Nat)(z:Int×Int)(o:List (Int×Int))(n:Int)(g:Nat):KU lot g1 g2 ⟨z::o,n,g⟩=[⟨609,g,129,2,Fs z::o.map Fs⟩,⟨200,g2,3,1,[i64 n]⟩,⟨100,g1,127,1,[.osl 609 g 2 0 ((o.map Fs).length+1)]⟩,⟨0,0,9,1,[str (sb lot)]⟩]:=rfl
def Pa (lot:List UInt8)(l:List AD)(k:Nat)(p:WJ):Prop:=p.o.length<=k/\p.o++LU lot (l.drop k) p.n=LU lot l 0/\0<=p.n/\p.n<=(k:Int)*1000000000
theorem ic (b:Bool)(l:List AD)(lot:List UInt8)(hl:l.length<=1000000)(hx:∀x∈l,0<=x.mass/\x.mass<=1000000000/\x.shs.length<=1000000):
  AJ C0 126 [AY b l,str (sb lot)] (.sl false 2 ((LU lot l 0).map Fs)):=by
 refine Aj.walk w1 aN rfl λF=>?_
 have cV:=Tx b false (l.map AD.D);have hT:∀x∈l.map AD.D,∃a c d,x=.agg [a,c,d]:=λx hx=>by
  obtain⟨y,-,rfl⟩:=List.mem_map.1 hx;exact⟨_,_,_,rfl⟩
 have hoA:∀k,k<l.length->∃y,y∈l/\l[k]?=some y/\(l.map AD.D)[if false then(l.map AD.D).length-1-k else k]?=some y.D:=λk hk=>⟨_,List.getElem_mem hk,BG hk,by
  show(l.map AD.D)[k]?=_;rw[A7,BG hk];rfl⟩
 unfold AY;obtain⟨T,hTT⟩:∃T,l.map AD.D=T:=⟨_,rfl⟩
 have pT:AA (.sl b 3 T):=by rw[<-hTT];exact AI
 have hTl:T.length=l.length:=by rw[<-hTT,Am]
 rw[hTT]at cV hT hoA⊢;refine AG Ag kB cV AB AB AB AB AB ?_;have h0:Pa lot l 0 ⟨[],0,0⟩:=⟨Ai _,rfl,Int.le_refl _,Int.le_refl _⟩
 refine AC.rangeFunc (fi:=142) (first:=[]) (captured:=[.pptr (.sl b 3 T),.pptr (As false)]) (Ψ:=λj _ H' _=>(j=none/\∃a,Pa lot l T.length a/\H'=KU lot 2 3 a)\/(j=some (.exit 0)/\False)) rfl
  (λds H n Φ=>∃k a x,Pa lot l k a/\k<T.length/\T[if false then T.length-1-k else k]?=some x/\ds=[x]/\H=KU lot 2 3 a/\Φ=λj H' _=>(j=none/\∃a',Pa lot l (k+1) a'/\Ck H' (KU lot 2 3 a') H' (KU lot 2 3 a'))\/(j=some (.exit 0)/\False)) ?_
  (λE l' R' hE hY=>Vk hE b false T hT (by omega) (λ_ a=>KU lot 2 3 a) (Pa lot l) (.exit 0) (λ_=>False) ⟨[],0,0⟩ h0 _ λk a x n hP hk hx=>hY _ _ _ _ ⟨k,a,x,hP,hk,hx,rfl,rfl,rfl⟩) ?_
 ·rintro l' ds H n Φ ⟨k,⟨o,nn,g⟩,x,⟨p1,p2,p3,p4⟩,hk,hxT,rfl,rfl,rfl⟩
  dsimp only at p1 p2 p3 p4;obtain⟨y,hy1,hy2,hy3⟩:=hoA k (by omega);rw[hy3]at hxT;cases hxT;have hd:l.drop k=y::l.drop (k+1):=by
   have:=(List.getElem?_eq_some_iff.1 hy2)
   rw[EU this.1,this.2]
  rw[hd]at p2;have hb:=hx y hy1;have cH:=xk false y.shs (.pptr (str (sb lot))) (λs=>BF (sb s.lot) (sb lot)) hb.2.2 λs _=>yT lot s
  have hK:(y.shs.any λs=>BF (sb s.lot) (sb lot))=RQ lot y:=rfl;rw[hK]at cH;have p5:(o++(if RQ lot y then[(nn+1,nn+y.mass)]else[]))++LU lot (l.drop (k+1)) (nn+y.mass)=LU lot l 0:=by
   rw[<-p2,Di];rfl
  obtain⟨K,hKK⟩:∃K,RQ lot y=K:=⟨_,rfl⟩
  rw[hKK]at cH p5;have a1:IntKind.i64.wrap (nn+y.mass)=nn+y.mass:=wI (by omega) (by omega);have a2:IntKind.i64.wrap (nn+1)=nn+1:=wI (by omega) (by omega);have q1:0<=nn+y.mass/\nn+y.mass<=((k+1:Nat):Int)*1000000000:=by omega
  refine⟨rfl,λF=>?_⟩;unfold AD.D;unfold CX at cH⊢;obtain⟨SD,hSD⟩:∃d,y.shs.map Av.D=d:=⟨_,rfl⟩
  have pS:AA (.sl false 2 SD):=by rw[<-hSD];exact AI
  rw[hSD]at cH⊢;rcases o with _|⟨z,o⟩
  ·rw[Z6]
   dsimp only[Gw];refine Ap w1 400 (by kernel_rfl) ?_;refine AE kB ?_;refine⟨trivial,trivial,λF'=>?_⟩;refine AG Ag kB AB AB AB AB AB AB ?_;refine BE.own _ (MT cH rfl (λi a d h1 h2=>by
    match i with
    | 0=>cases h1;cases h2;exact .refl _ _
    | 1=>cases h1;cases h2;exact .clo1 (.ptr rfl rfl rfl rfl)
    |n+2=>cases h1) AI (.prim _)) ?_
   rintro d H' n' ⟨rfl,rfl,rfl⟩;cases K
   ·refine AG Ag (Ad a1 a2) AB AB AB AB AB AB ?_
    exact .inl ⟨rfl,⟨[],nn+y.mass,0⟩,⟨BX _,p5,q1⟩,.drop (HF _)⟩
   ·refine AG Ag (Ad a1 a2) AB AB AB AB AB AB ?_
    exact .inl ⟨rfl,⟨[(nn+1,nn+y.mass)],nn+y.mass,n+1+1+1+1+1+1+1+1+1+1+1+1+1+1+1⟩,⟨by simp,p5,q1⟩,.keep (.drop (HF _))⟩
  ·have hol:o.length<=1000000:=by rw[Bp]at p1;omega
   rw[Qo];dsimp only[Gw];obtain⟨O,hO⟩:∃O,o.map Fs=O:=⟨_,rfl⟩
   obtain⟨zD,hzD⟩:∃O,Fs z=O:=⟨_,rfl⟩
   have hOl:O.length=o.length:=by rw[<-hO,Am]
   rw[hO,hzD];refine Ap w1 400 (by kernel_rfl) ?_;refine AE kB ?_;refine⟨trivial,trivial,λF'=>?_⟩;refine AG Ag kB AB AB AB AB AB AB ?_;refine BE.own _ (MT cH rfl (λi a d h1 h2=>by
    match i with
    | 0=>cases h1;cases h2;exact .refl _ _
    | 1=>cases h1;cases h2;exact .clo1 (.ptr rfl rfl rfl rfl)
    |n+2=>cases h1) AI (.prim _)) ?_
   rintro d H' n' ⟨rfl,rfl,rfl⟩;cases K
   ·refine AG Ag (Ad a1 a2) AB AB AB AB AB AB ?_
    refine .inl ⟨rfl,⟨z::o,nn+y.mass,g⟩,⟨Nat.le_succ_of_le p1,by rw[<-p5,AF Bool.false_ne_true,DE],q1⟩,?_⟩;rw[Qo,hO,hzD];exact .drop (HF _)
   ·refine AG Ag (Ad a1 a2) AB AB AB AB AB AB ?_
    rw[show List.take (O.length+1) (zD::O)=zD::O from DV (l:=zD::O)];refine .inl ⟨rfl,⟨z::o++[(nn+1,nn+y.mass)],nn+y.mass,n+1+1+1+1+1+1+1+1+1+1+1+1+1+1+1⟩,⟨by rw[Bk];exact Nat.succ_le_succ p1,p5,q1⟩,?_⟩;have hs:∀g' a,KU lot 2 3 ⟨z::o++[(nn+1,nn+y.mass)],a,g'⟩=[⟨609,g',129,2,zD::O++[.agg [i64 (nn+1),i64 (nn+y.mass)]]⟩,⟨200,3,3,1,[i64 a]⟩,⟨100,2,127,1,[.osl 609 g' 2 0 (O.length+1+1)]⟩,⟨0,0,9,1,[str (sb lot)]⟩]:=λg' a=>by
     rw[Em,Qo,<-hO,<-hzD,DG];rw[Bk];rfl
    rw[hs];exact .keep (.drop (HF _))
 ·rintro j d H' n' F' hE
  rcases hE with⟨rfl,⟨o,nn,g⟩,⟨p1,p2,-⟩,rfl⟩|⟨-,h⟩
  rotate_left
  ·exact h.elim
  dsimp only at p2;rw[List.drop_eq_nil_of_le (by omega)]at p2;have ho2:o=LU lot l 0:=by rw[<-p2];exact(DE o).symm
  rw[<-ho2];rcases o with _|⟨z,o⟩
  ·rw[Z6]
   change AC _ _ _ _ _ _ _;refine sR 800 ?_;refine Ak ?_;exact⟨_,.nil 2,AA.out,rfl⟩
  ·have hR:=HI (H:=KU lot 2 3 ⟨z::o,nn,g⟩) (Hf:=[]) (k:=609) (g:=g) (T:=129) (sz:=2) (l:=(z::o).map Fs) rfl
   have hle:((z::o).map Fs).length=(o.map Fs).length+1:=rfl;rw[hle]at hR;rw[Qo]at hR⊢;change AC _ _ _ _ _ _ _;refine sR 800 ?_;refine Ak ?_;exact⟨_,hR,AA.out,rfl⟩
theorem nl {x:AD}{l:List AD}(h:x.mass=0):DH (x::l)=DH l:=by
 unfold DH;rw[List.filter_cons,AF (by rw[h];decide)]
theorem nk {x:AD}{l r:List AD}(h:DH l=DH r):DH (x::l)=DH (x::r):=by
 unfold DH at h⊢;rw[List.filter_cons,List.filter_cons,h]
theorem YX:∀ {l:List AD},(∀x∈l,0<=x.mass)->DH (PQ l 0)=[]
 | [],_=>rfl
 |x::r,h=>by
  have h1:=h x (CA ..);show DH (x.w (min 0 x.mass)::PQ r (0-min 0 x.mass))=[];rw[show min 0 x.mass=0 by omega,nl rfl];exact YX λy hy=>h y (CF _ hy)
theorem vp:∀ {l:List AD} {m:Int},(∀x∈l,0<=x.mass)->0<=m->DH (D9 l m)=DH (PQ l m)
 | [],_,_,_=>rfl
 |x::r,m,h,hm=>by
  have h1:=h x (CA ..);have h2:∀y∈r,0<=y.mass:=λy hy=>h y (CF _ hy)
  show DH (x.w (min x.mass m)::if m-x.mass<=0 then[]else D9 r (m-x.mass))=DH (x.w (min m x.mass)::PQ r (m-min m x.mass));rw[show min x.mass m=min m x.mass by omega];refine nk ?_
  by_cases hz:m-x.mass<=0
  ·rw[AH hz,show m-min m x.mass=0 by omega,YX h2];rfl
  ·rw[AF hz,show m-min m x.mass=m-x.mass by omega]
   exact vp h2 (by omega)
theorem VC:∀ {l:List AD} {m:Int},(∀x∈l,0<=x.mass/\x.mass<=1000000000/\x.shs.length<=1000000)->0<=m->∀y∈D9 l m,0<=y.mass/\y.mass<=1000000000/\y.shs.length<=1000000
 | [],_,_,_,y,hy=>by cases hy
 |x::r,m,h,hm,y,hy=>by
  obtain⟨h1,h2,h3⟩:=h x (CA ..);rcases BA.1 hy with rfl|h4
  ·exact⟨by show 0<=min x.mass m;omega,by show min x.mass m<=_;omega,h3⟩
  ·split at h4
   ·cases h4
   ·exact VC (λz hz=>h z (CF _ hz)) (by omega) y h4
theorem UJ:∀(l:List AD) (m:Int),(D9 l m).length<=l.length
 | [],_=>Ai _
 |x::r,m=>by
  show(if m-x.mass<=0 then[]else D9 r (m-x.mass)).length+1<=r.length+1;split
  ·simp
  ·have:=UJ r (m-x.mass);omega
theorem aw {a b:Int}(h:DX [a,b]=0):a=0/\b=0:=by
 have h1:(if a≠0 then a else if b≠0 then b else 0)=0:=h
 by_cases h0:a=0
 ·rw[AF (λq=>q h0)]at h1
  by_cases h2:b=0
  ·exact⟨h0,h2⟩
  ·rw[AH h2]at h1;exact Ae h1 h2
 ·rw[AH h0]at h1;exact Ae h1 h0
theorem ut (l:List AD)(hl:l.length<=1000000):AJ C0 61 [AY false l] (.tup [AY false (if 64<l.length then[]else l),i64 (if 64<l.length then 5 else 0)]):=by
 refine Aj.walk w1 fN rfl λF=>?_
 have el:(((l.map AD.D).length:Nat):Int)=(l.length:Int):=by rw[Am]
 by_cases h:64<l.length
 ·rw[AH h,AH h]
  have k:decide ((l.length:Int)>64)=true:=AZ (by omega);refine AG Ag (Ad el k) AB AB AB AB AB AB ?_;exact⟨_,Gt (.nil 3) (.refl _),AA.out,rfl⟩
 ·rw[AF h,AF h]
  have k:decide ((l.length:Int)>64)=false:=Ah (by omega);refine AG Ag (Ad el k) AB AB AB AB AB AB ?_;exact AK rfl AA.out
theorem nh (R:List AD)(x:AD):(CW R x).length<=R.length+1:=by
 unfold CW;split
 ·split
  ·rw[Bk,List.length_dropLast,Gj];omega
  ·rw[Bk];exact Ai _
 ·simp
theorem HJ (l:List AD):(A8 l).length<=l.length:=by
 have:∀(l R:List AD),(l.foldl CW R).length<=R.length+l.length:=λl=>by
  induction l with
  |nil=>exact λ_=>Ai _
  |cons x l ih=>
   intro R;have h1:=ih (CW R x);have h2:=nh R x;rw[List.foldl_cons,Bp];omega
 have:=this l []
 unfold A8;simpa using this
abbrev IR:Dr:=[(5,[0,1,2,3,4,5],[6,7,8,9,10]),(8,[0,1,2,3,4,5],[6]),(9,[0,1,2,3,4,5,6,7,8,9,10],[11,12,13,14])]
open Go.Proofs Go.RowKit
set_option maxRecDepth 20000
set_option maxHeartbeats 4000000
def J4:Ar:=⟨[],0,0,0,[]⟩
def Bg (x:Ar)(i:Int):List AD:=x.cells.getD i.toNat []
def BW (x:Ar)(i:Int)(l:List AD):Ar:=HQ x i.toNat (A8 (Bg x i++l))
def JM (x:Ar)(i:Int)(l:List AD):Int:=DX [H6 x [i],(Be l:Int)]
def Ib (x:Ar)(i:Int)(l:List AD):Int:=DX [((if B7 (Bg x i++l)then 0 else 16:Nat):Int),if decide (Cs (Bg x i++l)>x.room)then 14 else 0]
def Kx (x:Ar)(i:Int)(l:List AD):Int:=DX [if C4 x.side (B5 (BW x i l))then 17 else 0,if decide (((A8 (Bg x i++l)).length:Int)>64)then 5 else 0]
def Gd (x:Ar)(i:Int)(l:List AD):Int:=if JM x i l≠0 then JM x i l else if Ib x i l≠0 then Ib x i l else Kx x i l
def Ea (x:Ar)(i:Int)(l:List AD):Ar:=if Gd x i l≠0 then J4 else BW x i l
theorem Hm {x:Ar}(h:Ch x=0):∀c∈x.cells,Cy x c=0:=by
 unfold Ch at h
 by_cases h1:Fo x=0
 ·rw[AF (λq=>q h1)]at h
  by_cases h2:ES x x.cells=0
  ·exact Sx h2
  ·rw[AH h2]at h;exact Ae h h2
 ·rw[AH h1]at h;exact Ae h h1
theorem aj {x:Ar}{i:Int}(h:H6 x [i]=0):Ch x=0/\0<=i/\i<(x.cells.length:Int):=by
 unfold H6 at h
 by_cases h1:Ch x=0
 ·rw[AF (λq=>q h1)]at h
  refine⟨h1,?_⟩;cases hb:JZ x i
  ·simp[hb]at h
  ·unfold JZ Do at hb
   rw[BQ,decide_eq_true_iff,decide_eq_true_iff]at hb;omega
 ·rw[AH h1]at h;exact Ae h h1
structure K0 (x:Ar)(i:Int)(l:List AD):Prop where
 cel:∀c∈x.cells,Cy x c=0
 lt:i.toNat<x.cells.length
 ii:i=(i.toNat:Int)
 par:Be l=0
 at_:x.cells[i.toNat]?=some (Bg x i)
 bin:Ch x=0
theorem av {x:Ar}{i:Int}{l:List AD}(h:JM x i l=0):K0 x i l:=by
 obtain⟨h1,h2⟩:=aw h;obtain⟨g1,g2,g3⟩:=aj h1;have hlt:i.toNat<x.cells.length:=by omega
 refine⟨Hm g1,hlt,by omega,by omega,?_,g1⟩;unfold Bg;rw[Dw,BG hlt];rfl
theorem K0.pc {x:Ar}{i:Int}{l:List AD}(h:K0 x i l):Be (Bg x i)=0:=(GN (h.cel _ (Aw h.at_))).1
theorem K0.all {x:Ar}{i:Int}{l:List AD}(h:K0 x i l):∀y∈Bg x i++l,1<=y.mass/\y.mass<=1000000000/\y.shs.length<=1000000:=λy hy=>by
 rcases List.mem_append.1 hy with k|k
 ·exact(DS h.pc).2.1 y k
 ·exact(DS h.par).2.1 y k
theorem K0.len {x:Ar}{i:Int}{l:List AD}(h:K0 x i l):(Bg x i).length<=64/\l.length<=64:=⟨(DS h.pc).1,(DS h.par).1⟩
theorem fv (x:Ar)(hl:x.cells.length<=1000000)(hc:∀c∈x.cells,c.length<=1000000/\∀y∈c,y.few)(i:Int)(l:List AD)(hll:l.length<=1000000)(hfl:∀y∈l,y.few):AJ C0 28 [x.D,i64 i,AY false l] (.tup [(Ea x i l).D,i64 (Gd x i l)]):=by
 refine Aj.walk w1 eC rfl λF=>?_
 have cC:=fT x hl hc [i] (by simp);have cP:=MK false l (by omega) hfl;have cF1:=JI [H6 x [i],(Be l:Int)] (by simp);rw[show DX [H6 x [i],(Be l:Int)]=JM x i l from rfl]at cF1;have hE:Gd x i l=if JM x i l≠0 then JM x i l else if Ib x i l≠0 then Ib x i l else Kx x i l:=rfl
 have hB:Ea x i l=if Gd x i l≠0 then J4 else BW x i l:=rfl
 have hz:J4.D=.agg [str (sb []),i64 0,i64 0,i64 0,.sl false 1 []]:=rfl;have pz:AA (.tup [J4.D,i64 (Gd x i l)]):=AI;rw[hz]at pz
 by_cases h0:JM x i l=0
 rotate_left
 ·have k2:(JM x i l != 0)=true:=Gs h0
  rw[AH h0]at hE;rw[hE,AH h0]at hB;rw[hE]at pz;rw[hB,hE,hz];unfold Ar.D at cC⊢;refine AG IR k2 cC cP cF1 AB AB AB ?_;exact⟨_,Gt (L0 (.nil 1)) (.refl _),pz.out,rfl⟩
 have k2:(JM x i l != 0)=false:=by rw[h0];rfl
 rw[AF (λh=>h h0)]at hE;have ok:=av h0;obtain⟨ln1,ln2⟩:=ok.len;have hall:=ok.all;have hlA:(Bg x i++l).length<=128:=by rw[Bk];omega
 have cCC:=YW [Bg x i,l] (by rw[show[Bg x i,l].flatten=Bg x i++l by simp];omega) (by simp);rw[show[Bg x i,l].flatten=Bg x i++l by simp]at cCC;have cG:=S9 false (Bg x i++l) (by omega);have cT:=Rt false (Bg x i++l) (by omega);have cW1:=GQ (decide (Cs (Bg x i++l)>x.room)) 14;have cF2:=JI [((if B7 (Bg x i++l)then 0 else 16:Nat):Int),if decide (Cs (Bg x i++l)>x.room)then 14 else 0] (by simp);rw[show DX [((if B7 (Bg x i++l)then 0 else 16:Nat):Int),if decide (Cs (Bg x i++l)>x.room)then 14 else 0]=Ib x i l from rfl]at cF2;have hat:(x.cells.map (AY false))[i.toNat]?=some (.sl false 3 ((Bg x i).map AD.D)):=by rw[A7,ok.at_];rfl
 have hi0:0<=i:=by have:=ok.ii;omega
 have hil:i<(x.cells.length:Int):=by have:=ok.ii;have:=ok.lt;omega
 have el:(((x.cells.map (AY false)).length:Nat):Int)=(x.cells.length:Int):=by rw[Am]
 by_cases h1:Ib x i l=0
 rotate_left
 ·have k3:(Ib x i l != 0)=true:=Gs h1
  rw[AH h1]at hE;rw[hE,AH h1]at hB;rw[hE]at pz;rw[hB,hE,hz];unfold Ar.D at cC⊢;refine AG IR (Ad k2 el) cC cP cF1 hat cCC AB ?_;refine AG IR (Ad k3 el) cG cT cW1 cF2 AB AB ?_;exact⟨_,Gt (L0 (.nil 1)) (.refl _),pz.out,rfl⟩
 have k3:(Ib x i l != 0)=false:=by rw[h1];rfl
 rw[AF (λh=>h h1)]at hE;have cN:=QJ false (Bg x i++l) (by omega) hall;have cWi:=fV x i.toNat ok.lt hl (λc hq=>QJ false c (hc c hq).1 (DS (GN (ok.cel c hq)).1).2.1) (A8 (Bg x i++l));rw[<-ok.ii,show HQ x i.toNat (A8 (Bg x i++l))=BW x i l from rfl]at cWi;have hol:(BW x i l).cells.length=x.cells.length:=by
  show((x.cells.map A8).set _ _).length=_;rw[DF,Am]
 have hoc:∀c∈(BW x i l).cells,c.length<=1000000:=λc hq=>by
  rcases Nj hq with h|h
  ·obtain⟨d,h1,rfl⟩:=List.mem_map.1 h
   have:=HJ d
   have:=(hc d h1).1
   omega
  ·rw[h];have:=HJ (Bg x i++l);omega
 have cLv:=Tz (BW x i l) (by omega) λc h=>by have:=hoc c h;omega
 have cSt:=Uf x false (B5 (BW x i l)) (by unfold B5;rw[Am];omega);have hat2:((BW x i l).cells.map (AY false))[i.toNat]?=some (.sl false 3 ((A8 (Bg x i++l)).map AD.D)):=by
  rw[A7];show Option.map _ (((x.cells.map A8).set i.toNat (A8 (Bg x i++l)))[i.toNat]?)=_;rw[Nl (by rw[Am];exact ok.lt)];rfl
 have el2:((((A8 (Bg x i++l)).map AD.D).length:Nat):Int)=((A8 (Bg x i++l)).length:Int):=by rw[Am]
 have cW2:=GQ (decide (((A8 (Bg x i++l)).length:Int)>64)) 5;have cF3:=JI [if C4 x.side (B5 (BW x i l))then 17 else 0,if decide (((A8 (Bg x i++l)).length:Int)>64)then 5 else 0] (by simp);rw[show DX [if C4 x.side (B5 (BW x i l))then 17 else 0,if decide (((A8 (Bg x i++l)).length:Int)>64)then 5 else 0]=Kx x i l from rfl]at cF3;have hoD:(BW x i l).D=.agg [str (sb x.flow),i64 x.core,i64 x.room,i64 x.side,.sl false 1 ((BW x i l).cells.map (AY false))]:=rfl;have po:AA (.tup [(BW x i l).D,i64 (Gd x i l)]):=AI;have Gn:AA (BW x i l).D:=AI;have polen:((((BW x i l).cells.map (AY false)).length:Nat):Int)=(x.cells.length:Int):=by rw[Am,hol]
 rw[hoD]at cWi cLv po Gn;obtain⟨OD,hOD⟩:∃O,(BW x i l).cells.map (AY false)=O:=⟨_,rfl⟩
 rw[hOD]at cWi cLv po Gn hat2 polen hoD
 by_cases h2:Kx x i l=0
 rotate_left
 ·have k4:(Kx x i l != 0)=true:=Gs h2
  rw[hE,AH h2]at hB;rw[hE]at pz;rw[hB,hE,hz];unfold Ar.D at cC cWi cSt⊢;refine AG IR (Ad k2 el) cC cP cF1 hat cCC AB ?_;refine AG IR (Ad k3 el) cG cT cW1 cF2 AB AB ?_;refine AG IR (At k4 el el2) cN cWi cLv cSt hat2 AB ?_;refine AG IR (At k4 el el2) cW2 cF3 AB AB AB AB ?_;exact⟨_,Gt (L0 (.nil 1)) (.refl _),pz.out,rfl⟩
 ·have k4:(Kx x i l != 0)=false:=by rw[h2];rfl
  rw[hE,AF (λh=>h h2)]at hB;rw[hE,h2]at po;rw[hB,hE,h2,hoD];unfold Ar.D at cC cWi cSt⊢;refine AG IR (Ad k2 el) cC cP cF1 hat cCC AB ?_;refine AG IR (Ad k3 el) cG cT cW1 cF2 AB AB ?_;refine AG IR (At k4 el el2) cN cWi cLv cSt hat2 AB ?_;refine AG IR (At k4 el el2) cW2 cF3 AB AB AB AB ?_;exact AK rfl po.out
theorem fj:∀ {l R:List AD} {k:Nat},NY k R->(∀x∈l,0<=x.mass/\x.mass<=1000000000/\x.shs.length<=1000000)->NY (k+l.length) (l.foldl CW R)
 | [],_,_,h,_=>h
 |x::l,R,k,h,hx=>by
  have h1:=fj (TV h (hx x (CA ..))) λy hy=>hx y (CF _ hy)
  rw[List.foldl_cons,Bp,show k+(l.length+1)=k+1+l.length by omega];exact h1
theorem fk {l:List AD}(hx:∀x∈l,0<=x.mass/\x.mass<=1000000000/\x.shs.length<=1000000):(A8 l).length<=l.length/\∀y∈A8 l,0<=y.mass/\y.mass<=(l.length:Int)*1000000000/\y.shs.length<=1000000:=by
 have:=fj (l:=l) (R:=[]) (k:=0) ⟨Ai _,λy h=>by cases h⟩ hx
 rw[BV]at this;exact this
theorem Kh (a b:List AD):AT (a++b)=AT a+AT b:=by
 unfold AT;rw[DG,List.sum_append]
theorem ni (R:List AD)(x:AD):AT (CW R x)=AT R+x.mass:=by
 unfold CW;split
 ·rename_i y hy
  have hR:R=R.dropLast++[y]:=by
   have hne:R≠[]:=λh=>by rw[h]at hy;cases hy
   have:=List.getLast?_eq_some_getLast hne
   rw[this]at hy;cases hy;exact(List.dropLast_concat_getLast hne).symm
  split
  ·rw[Kh]
   conv=>rhs;rw[hR,Kh]
   unfold AT AD.w;simp;omega
  ·rw[Kh];unfold AT;simp
 ·rename_i hy
  have:R=[]:=List.getLast?_eq_none_iff.1 hy
  rw[this];unfold AT;simp
theorem Kp (l:List AD):AT (A8 l)=AT l:=by
 have:∀(l R:List AD),AT (l.foldl CW R)=AT R+AT l:=λl=>by
  induction l with
  |nil=>intro R;unfold AT;simp
  |cons x l ih=>
   intro R;rw[List.foldl_cons,ih,ni];unfold AT;simp;omega
 have h:=this l [];rw[show AT ([]:List AD)=0 from rfl,Int.zero_add]at h;exact h
theorem qc {l:List AD}(h:∀x∈l,0<=x.mass)(hs:AT l<=1000000000000000000):Cs l=AT l:=by
 have:∀(l:List AD) (a:Int),0<=a->(∀x∈l,0<=x.mass)->a+AT l<=1000000000000000000->l.foldl (λa x=>IntKind.i64.wrap (a+x.mass)) a=a+AT l:=λl=>by
  induction l with
  |nil=>intro a _ _ _;unfold AT;simp
  |cons x l ih=>
   intro a ha hx hs;have h1:=hx x (CA ..);have h2:=Ks λy hy=>hx y (CF _ hy)
   have h3:AT (x::l)=x.mass+AT l:=by unfold AT;rfl
   rw[h3]at hs⊢;rw[List.foldl_cons,wI (by omega) (by omega),ih _ (by omega) (λy hy=>hx y (CF _ hy)) (by omega)];omega
 have h1:=this l 0 (Int.le_refl _) h (by omega);rw[Int.zero_add]at h1;exact h1
theorem mS {x:Ar}{i:Int}{l:List AD}(h:K0 x i l):Ib x i l=if B7 (Bg x i++l)=false then 16 else if AT (Bg x i)+AT l>x.room then 14 else 0:=by
 have ga:=(GP h.pc).2.2;have gb:=(GP h.par).2.2;have hS:AT (Bg x i++l)=AT (Bg x i)+AT l:=Kh _ _;have ht:=qc (l:=Bg x i++l) (λy hy=>by have:=(h.all y hy).1;omega) (by omega);unfold Ib;rw[ht,hS];cases B7 (Bg x i++l)
 ·rfl
 ·by_cases hr:AT (Bg x i)+AT l>x.room
  ·show DX [((0:Nat):Int),if decide (AT (Bg x i)+AT l>x.room)=true then(14:Int)else 0]=(if AT (Bg x i)+AT l>x.room then(14:Int)else 0)
   rw[AH hr,AZ hr];rfl
  ·show DX [((0:Nat):Int),if decide (AT (Bg x i)+AT l>x.room)=true then(14:Int)else 0]=(if AT (Bg x i)+AT l>x.room then(14:Int)else 0)
   rw[AF hr,Ah hr];rfl
theorem mT {x:Ar}{i:Int}{l:List AD}:Kx x i l=if C4 x.side (B5 (BW x i l))then 17 else if 64<(A8 (Bg x i++l)).length then 5 else 0:=by
 unfold Kx;cases C4 x.side (B5 (BW x i l))
 ·by_cases hr:64<(A8 (Bg x i++l)).length
  ·rw[AH hr,AZ (show((A8 (Bg x i++l)).length:Int)>64 by omega)];rfl
  ·rw[AF hr,Ah (show ¬((A8 (Bg x i++l)).length:Int)>64 by omega)];rfl
 ·rfl
theorem lT {l:List AD}(h1:∀x∈l,1<=x.mass/\x.mass<=1000000000/\x.shs.length<=1000000)(h2:l.length<=1000000)(h3:AT l<=1000000000):Ia (A8 l)/\0<=AT (A8 l)/\AT (A8 l)=AT l:=by
 have h0:∀x∈l,0<=x.mass/\x.mass<=1000000000/\x.shs.length<=1000000:=λx hx=>⟨by have:=(h1 x hx).1;omega,(h1 x hx).2⟩
 obtain⟨b1,b2⟩:=fk h0;have b3:=Kp l;refine⟨⟨by omega,λy hy=>?_⟩,?_,b3⟩
 ·have hy0:=(b2 y hy).1
  have:y.mass<=AT (A8 l):=by
   obtain⟨A,B,hAB⟩:=FA hy;rw[hAB,Kh,show AT (y::B)=y.mass+AT B from rfl];have p1:=Ks (l:=A) λz hz=>(b2 z (by rw[hAB];exact IF _ hz)).1
   have p2:=Ks (l:=B) λz hz=>(b2 z (by rw[hAB];exact List.mem_append_right _ (CF _ hz))).1
   omega
  omega
 ·exact Ks λz hz=>(b2 z hz).1
theorem YQ {x:Ar}(h:Ch x=0):0<=x.side/\x.side<=999999999/\x.room<=999999999/\x.cells.length<=8:=by
 have h1:Fo x=0:=by
  unfold Ch at h
  by_cases h1:Fo x=0
  ·exact h1
  ·rw[AH h1]at h;exact Ae h h1
 rw[Ou]at h1;split at h1
 ·cases h1
 split at h1
 ·cases h1
 rename_i hr;split at h1
 ·cases h1
 split at h1
 ·cases h1
 rename_i hn;unfold IA at hr;simp only[KN,F8,not_or]at hr;obtain⟨⟨⟨⟨-,-⟩,h3⟩,h4⟩,h5⟩:=hr;omega
theorem YC:∀ {S T:List Av},FO S T=true↔S=T
 | [],[]=>by simp[FO]
 | [],_::_=>by simp[FO]
 |_::_,[]=>by simp[FO]
 |s::S,t::T=>by
  show(Ga s t&&FO S T)=true↔_;rw[BQ,YC (S:=S) (T:=T)];unfold Ga;rw[BQ,Lr,Lr,decide_eq_true_iff,decide_eq_true_iff];obtain⟨a,b⟩:=s;obtain⟨c,d⟩:=t;simp
theorem nT (x y:AD):Ej x y=true↔x.grain=y.grain/\x.shs=y.shs:=by
 unfold Ej;rw[BQ,Lr,decide_eq_true_iff,YC]
theorem zY {x y:AD}(hg:x.grain=y.grain)(hs:x.shs=y.shs)(m:Int):x.w m=y.w m:=by unfold AD.w;rw[hg,hs]
theorem w_w (x:AD)(a b:Int):(x.w a).w b=x.w b:=rfl
theorem wH (x:AD):x.w x.mass=x:=rfl
theorem NH {x y:AD}:Ej x y=true↔∀m,x.w m=y.w m:=by
 rw[nT];constructor
 ·rintro⟨a,b⟩ m;exact zY a b m
 ·intro h
  have h0:=h 0;unfold AD.w at h0;injection h0 with a b c;exact⟨a,c⟩
def BL (l:List AD):List AD:=l.flatMap λx=>List.replicate x.mass.toNat (x.w 1)
theorem Ra:BL []=[]:=rfl
theorem Hn (x:AD)(l:List AD):BL (x::l)=List.replicate x.mass.toNat (x.w 1)++BL l:=rfl
theorem Ku (a b:List AD):BL (a++b)=BL a++BL b:=List.flatMap_append
theorem Rb (x:AD):BL [x]=List.replicate x.mass.toNat (x.w 1):=by rw[Hn,Ra,DE]
theorem VD:∀l:List AD,BL l.reverse=(BL l).reverse
 | []=>rfl
 |x::l=>by rw[List.reverse_cons,Ku,VD l,Rb,Hn,List.reverse_append,List.reverse_replicate]
theorem Jp:∀ {l:List AD},(∀x∈l,0<=x.mass)->((BL l).length:Int)=AT l
 | [],_=>rfl
 |x::l,h=>by
  have h1:=h x (CA ..);have h2:=Jp (l:=l) λy hy=>h y (CF _ hy)
  rw[Hn,Bk,Iu,show AT (x::l)=x.mass+AT l from rfl];omega
theorem RZ {l:List AD}:∀y∈BL l,∃x∈l,y=x.w 1/\0<x.mass:=λy hy=>by
 unfold BL at hy;obtain⟨x,hx,h⟩:=List.mem_flatMap.1 hy;obtain⟨h1,h2⟩:=List.mem_replicate.1 h;exact⟨x,hx,h2,by omega⟩
theorem qA {R:List AD}{x:AD}(hR:∀y∈R,0<=y.mass)(hx:0<=x.mass):BL (CW R x)=BL R++BL [x]:=by
 unfold CW;split
 ·rename_i y hy
  have hR':R=R.dropLast++[y]:=by
   have hne:R≠[]:=λh=>by rw[h]at hy;cases hy
   have:=List.getLast?_eq_some_getLast hne
   rw[this]at hy;cases hy;exact(List.dropLast_concat_getLast hne).symm
  split
  ·rename_i hl
   have e:=NH.1 hl 1;have hy0:=hR y (List.mem_of_getLast? hy)
   conv=>rhs;rw[hR']
   rw[Ku,Ku,Rb,Rb,Rb,Di];show _++List.replicate (y.mass+x.mass).toNat (y.w 1)=_;rw[<-e,List.replicate_append_replicate,show(y.mass+x.mass).toNat=y.mass.toNat+x.mass.toNat by omega]
  ·rw[Ku]
 ·rename_i hy
  rw[List.getLast?_eq_none_iff.1 hy];rfl
theorem py {R:List AD}{x:AD}(hR:∀y∈R,0<=y.mass)(hx:0<=x.mass):∀y∈CW R x,0<=y.mass:=by
 unfold CW;split
 ·rename_i z hz
  have hz0:=hR z (List.mem_of_getLast? hz);split
  ·intro y hy
   rcases List.mem_append.1 hy with h|h
   ·exact hR y ((List.dropLast_sublist R).subset h)
   ·obtain rfl:=List.mem_singleton.1 h
    show 0<=z.mass+x.mass;omega
  ·intro y hy
   rcases List.mem_append.1 hy with h|h
   ·exact hR y h
   ·obtain rfl:=List.mem_singleton.1 h;exact hx
 ·intro y hy
  obtain rfl:=List.mem_singleton.1 hy;exact hx
theorem Ri {l:List AD}(h:∀x∈l,0<=x.mass):BL (A8 l)=BL l:=by
 have:∀(l R:List AD),(∀x∈l,0<=x.mass)->(∀y∈R,0<=y.mass)->BL (l.foldl CW R)=BL R++BL l:=λl=>by
  induction l with
  |nil=>intro R _ _;simp[Ra]
  |cons x l ih=>
   intro R hl hR;have hx:=hl x (CA ..);rw[List.foldl_cons,ih _ (λy hy=>hl y (CF _ hy)) (py hR hx),qA hR hx,Di,<-Ku];rfl
 exact this l [] h λy hy=>by cases hy
theorem fo:∀l:List AD,BL (DH l)=BL l
 | []=>rfl
 |x::l=>by
  have ih:=fo l;unfold DH at ih⊢;rw[List.filter_cons];split
  ·rw[Hn,Hn,ih]
  ·rename_i h
   have h0:x.mass=0:=by simpa using h
   rw[Hn,ih,h0];rfl
theorem lS (R:List AD)(x:AD)(m:Int):CW (CW R (x.w m)) (x.w 1)=CW R (x.w (m+1)):=by
 have key:∀(A:List AD) (z:AD),Ej z (x.w 1)=true->CW (A++[z]) (x.w 1)=A++[z.w (z.mass+1)]:=λA z hz=>by
  unfold CW;rw[List.getLast?_append];show(if Ej z (x.w 1)=true then _ else _)=_;rw[AH hz,List.dropLast_concat];rfl
 have hlx:∀a b:Int,Ej (x.w a) (x.w b)=true:=λa b=>NH.2 λm=>rfl
 cases hR:R.getLast? with
 |none=>
  have:R=[]:=List.getLast?_eq_none_iff.1 hR
  subst this;exact key [] (x.w m) (hlx _ _)
 |some y=>
  have e:∀a:Int,CW R (x.w a)=if Ej y (x.w a)then R.dropLast++[y.w (y.mass+a)]else R++[x.w a]:=λa=>by
   unfold CW;rw[hR];rfl
  have hb:∀a b:Int,Ej y (x.w a)=Ej y (x.w b):=λa b=>by
   rw[Fm,NH,NH];exact Iff.rfl
  rw[e m,e (m+1),hb m 1,hb (m+1) 1]
  by_cases h:Ej y (x.w 1)=true
  ·rw[AH h,AH h,key _ _ (NH.2 λk=>(w_w y _ k).trans (NH.1 h k))]
   show _++[y.w (y.mass+m+1)]=_;rw[Int.add_assoc]
  ·rw[AF h,AF h,key _ _ (hlx _ _)];rfl
theorem Zq (x:AD):∀(n:Nat) (R:List AD),(List.replicate (n+1) (x.w 1)).foldl CW R=CW R (x.w ((n:Int)+1))
 | 0,R=>rfl
 |n+1,R=>by
  rw[List.replicate_succ',List.foldl_append,Zq x n R];exact lS R x _
theorem M4 {l:List AD}(h:∀x∈l,1<=x.mass):A8 (BL l)=A8 l:=by
 have:∀(l R:List AD),(∀x∈l,1<=x.mass)->(BL l).foldl CW R=l.foldl CW R:=λl=>by
  induction l with
  |nil=>intro R _;rfl
  |cons x l ih=>
   intro R hl;have hx:=hl x (CA ..);rw[Hn,List.foldl_append,show x.mass.toNat=(x.mass.toNat-1)+1 by omega,Zq,List.foldl_cons,ih _ λy hy=>hl y (CF _ hy)];rw[show(((x.mass.toNat-1:Nat):Int)+1)=x.mass by omega,wH]
 exact this l [] h
theorem Rh {l:List AD}(h:∀x∈l,0<=x.mass):A8 (DH l)=A8 (BL l):=by
 rw[<-fo l];refine(M4 λx hx=>?_).symm;unfold DH at hx;obtain⟨h1,h2⟩:=List.mem_filter.1 hx
 have:=h x h1
 have:x.mass≠0:=by simpa using h2
 omega
theorem vS {a b:List AD}(ha:∀x∈a,1<=x.mass)(hb:∀x∈b,1<=x.mass)(h:BL a=BL b):A8 a=A8 b:=by rw[<-M4 ha,<-M4 hb,h]
theorem Vi:∀ {l:List AD} {m:Int},(∀x∈l,0<=x.mass)->0<=m->BL (D9 l m)=(BL l).take m.toNat
 | [],m,_,_=>by rw[Ra,List.take_nil];rfl
 |x::r,m,h,hm=>by
  have h1:=h x (CA ..);have h2:∀y∈r,0<=y.mass:=λy hy=>h y (CF _ hy)
  show BL (x.w (min x.mass m)::if m-x.mass<=0 then[]else D9 r (m-x.mass))=_;rw[Hn,Hn,List.take_append,List.take_replicate,Iu];show List.replicate (min x.mass m).toNat (x.w 1)++_=_;rw[show(min x.mass m).toNat=min m.toNat x.mass.toNat by omega]
  by_cases hz:m-x.mass<=0
  ·rw[AH hz,show m.toNat-x.mass.toNat=0 by omega];rfl
  ·rw[AF hz,Vi h2 (by omega),show m.toNat-x.mass.toNat=(m-x.mass).toNat by omega]
theorem VP:∀ {l:List AD} {low left:Int},(∀x∈l,0<=x.mass)->0<=low->0<=left->BL (E6 l low left)=((BL l).drop low.toNat).take left.toNat
 | [],low,left,_,_,_=>by rw[Ra,List.drop_nil,List.take_nil];rfl
 |x::r,low,left,h,h0,h5=>by
  have h1:=h x (CA ..);have h2:∀y∈r,0<=y.mass:=λy hy=>h y (CF _ hy)
  show BL (x.w (min (x.mass-min x.mass low) left)::E6 r (low-min x.mass low) (left-min (x.mass-min x.mass low) left))=_;rw[Hn,Hn,VP h2 (by omega) (by omega),List.drop_append,List.drop_replicate,Iu,List.take_append,List.take_replicate,Iu];show List.replicate (min (x.mass-min x.mass low) left).toNat (x.w 1)++_=_;rw[show(min (x.mass-min x.mass low) left).toNat=min left.toNat (x.mass.toNat-low.toNat) by omega,show(low-min x.mass low).toNat=low.toNat-x.mass.toNat by omega,
   show(left-min (x.mass-min x.mass low) left).toNat=left.toNat-(x.mass.toNat-low.toNat) by omega]
def HV (bot:Nat->Bool)(n:Nat):Nat->Nat
 | 0=>0
 |j+1=>HV bot n j+if bot (n-j)then 1 else 0
theorem dG (bot:Nat->Bool)(n j:Nat):HV bot n (j+1)=HV bot n j+if bot (n-j)then 1 else 0:=rfl
theorem ZX (bot:Nat->Bool)(n:Nat):∀j,HV bot n j<=j
 | 0=>Ai _
 |j+1=>by have:=ZX bot n j;unfold HV;split<;>omega
theorem Yo {bot:Nat->Bool}{n:Nat}(hb:∀k,bot k=true):∀j,HV bot n j=j
 | 0=>rfl
 |j+1=>by rw[dG,Yo hb j,AH (hb _)]
theorem YM {bot:Nat->Bool}{n c:Nat}(hc:0<c)(hb:∀k,bot k=decide (k%c=0)):∀j,j<=n->HV bot n j=n/c-(n-j)/c
 | 0,_=>by show 0=n/c-(n-0)/c;rw[Nat.sub_zero,Nat.sub_self]
 |j+1,h=>by
  rw[dG,YM hc hb j (by omega),hb];have h1:(n-j)/c<=n/c:=Nat.div_le_div_right (by omega);have e:n-j=(n-(j+1))+1:=by omega
  have h2:=Nat.succ_div (a:=n-(j+1)) (b:=c);rw[show n-(j+1)+1=n-j by omega]at h2
  by_cases hd:c ∣ n-j
  ·rw[AH hd]at h2
   rw[AH (AZ (Nat.mod_eq_zero_of_dvd hd))];omega
  ·rw[AF hd]at h2
   rw[AF (λq=>hd (Nat.dvd_of_mod_eq_zero (C6 q)))];omega
def K9 (x:Ar)(k:Nat):Bool:=BF (sb x.flow) Ez||decide (k%x.core.toNat=0)
def RT (x:Ar):Prop:=BF (sb x.flow) Ez=true\/2<=x.core/\x.core<=999999999
abbrev ZB:Dr:=[(3,[0,1,2,3,4,5,6,7,8,9],[10,11])]
open Go.Proofs Go.RowKit
set_option maxRecDepth 20000
set_option maxHeartbeats 4000000
theorem uf {x:Ar}{n m:Nat}(hm:m<=n)(hf:BF (sb x.flow) Ez=false)(hc:2<=x.core):HV (K9 x) n m=n/x.core.toNat-(n-m)/x.core.toNat:=by
 refine YM (by omega) (λk=>?_) m hm;unfold K9;rw[hf,Bool.false_or]
theorem ZY {x:Ar}{n m:Nat}(hf:BF (sb x.flow) Ez=true):HV (K9 x) n m=m:=by
 refine Yo (λk=>?_) m;unfold K9;rw[hf,Bool.true_or]
def P1 (bk:Bool)(l:List AD):List AD:=if bk then(BL l).reverse else BL l
theorem vr (bk:Bool)(l:List AD):BL (F5 bk l)=P1 bk l:=by
 unfold F5 P1;cases bk
 ·rfl
 ·exact VD l
theorem qJ (x:Ar)(n m:Nat)(hm:m<=n)(hn:n<=1000000000)(hf:RT x):AJ C0 58 [x.D,i64 (n:Int),i64 (m:Int)] (i64 ((HV (K9 x) n m:Nat):Int)):=by
 refine Aj.walk w1 fJ rfl λF=>?_
 have ho:=@uf x n m hm;have ho':=@ZY x n m;unfold RT at hf;obtain⟨A,hA⟩:∃A,HV (K9 x) n m=A:=⟨_,rfl⟩
 rw[hA]at ho ho'⊢;unfold Ez at ho ho' hf;unfold Ar.D;cases hq:BF (sb x.flow) ⟨#[109,97,115,115]⟩
 rotate_left
 ·rw[ho' hq]
  refine AG ZB (At hq kT kF) AB AB AB AB AB AB ?_;exact AK rfl AA.out
 obtain⟨h2,h3⟩:2<=x.core/\x.core<=999999999:=by
  rcases hf with h|h
  ·rw[hq]at h;cases h
  ·exact h
 have ho:=ho hq h2;obtain⟨c,hc⟩:∃c:Nat,x.core=(c:Int):=⟨x.core.toNat,by omega⟩
 rw[hc]at h2 h3 ho⊢;rw[Gk]at ho;have q0:((c:Int)==0)=false:=Bu.2 (by omega);have e2:IntKind.i64.wrap ((n:Int)-(m:Int))=((n-m:Nat):Int):=by rw[wI (by omega) (by omega)];omega
 have l1:n/c<=n:=GA _ _;have l2:(n-m)/c<=n-m:=GA _ _;have l3:(n-m)/c<=n/c:=Nat.div_le_div_right (by omega);have q1:((n:Int)).tdiv (c:Int)=((n/c:Nat):Int):=rfl;have q2:(((n-m:Nat):Int)).tdiv (c:Int)=(((n-m)/c:Nat):Int):=rfl;obtain⟨D1,hD1⟩:∃q,n/c=q:=⟨_,rfl⟩
 obtain⟨D2,hD2⟩:∃q,(n-m)/c=q:=⟨_,rfl⟩
 rw[hD1]at l1 l3 q1 ho;rw[hD2]at l2 l3 q2 ho;clear hD1 hD2;have q3:IntKind.i64.wrap ((D1:Nat):Int)=(D1:Int):=wI (by omega) (by omega);have q4:IntKind.i64.wrap ((D2:Nat):Int)=(D2:Int):=wI (by omega) (by omega);have q5:IntKind.i64.wrap ((D1:Int)-(D2:Int))=(A:Int):=by rw[wI (by omega) (by omega)];omega
 refine AG ZB (CJ hq e2 q1 q2 q3 q4 (At q5 kT kF)) AB AB AB AB AB AB ?_;exact AK rfl AA.out
theorem fU (b bk:Bool)(l:List AD)(m:Nat)(hl:l.length<=1000000)(hm:m<=1000000000)(hx:∀x∈l,0<=x.mass/\x.mass<=1000000000/\x.shs.length<=1000000):AJ C0 64 [AY b l,i64 (m:Int),As bk] (AY false (A8 ((P1 bk l).take m))):=by
 refine Aj.walk w1 fQ rfl λF=>?_
 have hxo:∀x∈F5 bk l,0<=x.mass/\x.mass<=1000000000/\x.shs.length<=1000000:=λx q=>hx x (by
  unfold F5 at q;cases bk
  ·exact q
  ·exact List.mem_reverse.1 q)
 have hol:(F5 bk l).length=l.length:=by
  unfold F5;cases bk
  ·rfl
  ·exact List.length_reverse
 have ho:∀x∈l,∀m,AJ C0 94 [x.D,i64 m] (x.w m).D:=λx q m=>Oz x m (hx x q).2.2
 have cA:=UG b bk l (m:Int) hl ⟨by omega,by omega⟩ (λx q=>⟨(hx x q).1,(hx x q).2.1⟩) ho _ (Tf false (D9 (F5 bk l) (m:Int)) (by
  have:=UJ (F5 bk l) (m:Int)
  omega) (VC hxo (by omega)))
 rw[Rh λx q=>(VC hxo (by omega) x q).1,Vi (λx q=>(hxo x q).1) (by omega),vr,Gk]at cA
 by_cases h0:m=0
 ·subst h0
  have k1:(((0:Nat):Int)==0)=true:=rfl;refine AG Ag k1 AB AB AB AB AB AB ?_;rw[LN];exact⟨_,.nil 3,AA.out,rfl⟩
 ·have k1:((m:Int)==0)=false:=Bu.2 (by omega)
  refine AG Ag k1 cA AB AB AB AB AB ?_;exact AK rfl AA.out
theorem Q8 {l:List Int}{i:Nat}(h:i<l.length):l[i]?=some (l.getD i 0):=by rw[Dw,BG h];rfl
theorem M2 {x:Ar}(h:Ch x=0):B5 x=x.cells.map AT/\∀v∈B5 x,0<=v/\v<=999999999/\v<=x.room:=by
 have hc:=Hm h;have e:B5 x=x.cells.map AT:=Nq λc hq=>Ji (GN (hc c hq)).2.2.1
 refine⟨e,λv hv=>?_⟩;rw[e]at hv;obtain⟨c,hq,rfl⟩:=List.mem_map.1 hv;obtain⟨-,-,-,a,b,d⟩:=GN (hc c hq);exact⟨a,b,d⟩
theorem p9 {side:Int}{l:List Int}(hs:0<=side/\side<=1000000000)(hl:∀v∈l,0<=v/\v<=1000000000):C4 side l=false↔∀k,k+1<l.length->l.getD (k+1) 0-l.getD k 0<=side/\l.getD k 0-l.getD (k+1) 0<=side:=by
 have hv:∀k,k<l.length->0<=l.getD k 0/\l.getD k 0<=1000000000:=λk hk=>hl _ (Aw (Q8 hk))
 have hw:∀k,k+1<l.length->(Do (IntKind.i64.wrap (l.getD (k+1) 0-l.getD k 0)) (IntKind.i64.wrap (0-side)) side=true↔l.getD (k+1) 0-l.getD k 0<=side/\l.getD k 0-l.getD (k+1) 0<=side):=λk hk=>by
  have h1:=hv k (by omega);have h2:=hv (k+1) hk;rw[wI (by omega) (by omega),wI (by omega) (by omega)];unfold Do;rw[BQ,decide_eq_true_iff,decide_eq_true_iff];omega
 constructor
 ·intro h k hk
  apply(hw k hk).1;cases hb:Do (IntKind.i64.wrap (l.getD (k+1) 0-l.getD k 0)) (IntKind.i64.wrap (0-side)) side
  ·rw[VM hk hb]at h;cases h
  ·rfl
 ·intro h
  exact VN λk hk=>(hw k hk).2 (h k hk)
def FQ (x:Ar)(c:List AD)(m:Nat):Nat:=HV (K9 x) (BL c).length m
def Ey (x:Ar)(c:List AD)(m:Nat):List AD:=((BL c).drop (FQ x c m)).take ((BL c).length-m)
def JN (x:Ar)(c:List AD)(m:Nat):List AD:=(BL c).reverse.take (m-FQ x c m)++(BL c).take (FQ x c m)
theorem T4 (x:Ar)(c:List AD)(m:Nat):FQ x c m<=m:=ZX _ _ _
theorem OS {x:Ar}{c:List AD}{m:Nat}:∀y∈Ey x c m,y∈BL c:=λy hy=>KK (FX hy)
theorem Qf {x:Ar}{c:List AD}{m:Nat}:∀y∈JN x c m,y∈BL c:=λy hy=>by
 rcases List.mem_append.1 hy with h|h
 ·exact List.mem_reverse.1 (FX h)
 ·exact FX h
theorem Tk {x:Ar}{c:List AD}{m:Nat}(h:m<=(BL c).length):(Ey x c m).length=(BL c).length-m:=by
 have:=T4 x c m
 unfold Ey;rw[Bb,Dv];omega
theorem mU {x:Ar}{c:List AD}{m:Nat}(h:m<=(BL c).length):(JN x c m).length=m:=by
 have:=T4 x c m
 unfold JN;rw[Bk,Bb,Bb,List.length_reverse];omega
def GE (l:List AD)(y:AD):Prop:=∃z∈l,y.grain=z.grain/\y.shs=z.shs
theorem IP {l:List AD}:∀y∈A8 l,GE l y:=by
 have:∀(l R A:List AD),(∀y∈R,GE A y)->∀y∈l.foldl CW R,GE (A++l) y:=λl=>by
  induction l with
  |nil=>intro R A h y hy;rw[DE];exact h y hy
  |cons x l ih=>
   intro R A h y hy;rw[List.foldl_cons]at hy
   have:=ih (CW R x) (A++[x]) (λz hz=>by
    unfold CW at hz;split at hz
    ·rename_i w hw
     split at hz
     ·rcases List.mem_append.1 hz with hz|hz
      ·obtain⟨q,hq,e⟩:=h z ((List.dropLast_sublist R).subset hz)
       exact⟨q,IF _ hq,e⟩
      ·obtain rfl:=List.mem_singleton.1 hz
       obtain⟨q,hq,e⟩:=h w (List.mem_of_getLast? hw);exact⟨q,IF _ hq,e⟩
     ·rcases List.mem_append.1 hz with hz|hz
      ·obtain⟨q,hq,e⟩:=h z hz
       exact⟨q,IF _ hq,e⟩
      ·obtain rfl:=List.mem_singleton.1 hz
       exact⟨z,List.mem_append_right _ (List.mem_singleton.2 rfl),rfl,rfl⟩
    ·obtain rfl:=List.mem_singleton.1 hz
     exact⟨z,List.mem_append_right _ (List.mem_singleton.2 rfl),rfl,rfl⟩) y hy
   rw[Di]at this;exact this
 intro y hy
 have:=this l [] [] (λy hy=>by cases hy) y hy
 rwa [F6]at this
theorem Om {l:List AD}:∀y∈BL l,GE l y:=λy hy=>by
 obtain⟨z,hz,rfl,_⟩:=RZ y hy;exact⟨z,hz,rfl,rfl⟩
theorem GE.trans {l L:List AD}{y:AD}(h:GE L y)(hL:∀z∈L,GE l z):GE l y:=by
 obtain⟨z,hz,e1,e2⟩:=h;obtain⟨q,hq,e3,e4⟩:=hL z hz;exact⟨q,hq,e1.trans e3,e2.trans e4⟩
theorem Ly {l:List AD}(h:∀x∈l,1<=x.mass):∀y∈A8 l,1<=y.mass:=by
 have:∀(l R:List AD),(∀x∈l,1<=x.mass)->(∀y∈R,1<=y.mass)->∀y∈l.foldl CW R,1<=y.mass:=λl=>by
  induction l with
  |nil=>intro R _ h;exact h
  |cons x l ih=>
   intro R hl hR;rw[List.foldl_cons];refine ih _ (λy hy=>hl y (CF _ hy)) λz hz=>?_
   have hx:=hl x (CA ..);unfold CW at hz;split at hz
   ·rename_i w hw
    split at hz
    ·rcases List.mem_append.1 hz with hz|hz
     ·exact hR z ((List.dropLast_sublist R).subset hz)
     ·obtain rfl:=List.mem_singleton.1 hz
      have:=hR w (List.mem_of_getLast? hw)
      show 1<=w.mass+x.mass;omega
    ·rcases List.mem_append.1 hz with hz|hz
     ·exact hR z hz
     ·obtain rfl:=List.mem_singleton.1 hz;exact hx
   ·obtain rfl:=List.mem_singleton.1 hz;exact hx
 exact this l [] h λy hy=>by cases hy
theorem Sq {l:List AD}(h:∀x∈l,0<=x.mass){y:AD}(hy:y∈l):y.mass<=AT l:=by
 obtain⟨A,B,rfl⟩:=FA hy;rw[Kh,show AT (y::B)=y.mass+AT B from rfl];have p1:=Ks (l:=A) λz hz=>h z (IF _ hz)
 have p2:=Ks (l:=B) λz hz=>h z (List.mem_append_right _ (CF _ hz))
 omega
theorem XB {y z:AD}(h:Ca z=0)(e1:y.grain=z.grain)(e2:y.shs=z.shs)(hm:1<=y.mass/\y.mass<=999999999):Ca y=0:=by
 unfold Ca at h⊢;rw[e1,e2];split at h
 ·cases h
 ·split at h
  ·cases h
  ·rw[AF (by assumption),AF (by omega)];exact h
theorem Yu {l L:List AD}(h:Be l=0)(hk:∀y∈L,GE l y)(hn:L.length<=64)(hm:∀y∈L,1<=y.mass)(hs:AT L<=999999999):Be L=0:=by
 obtain⟨h1,h2,h3⟩:=GP h;have h0:∀y∈L,0<=y.mass:=λy hy=>by have:=hm y hy;omega
 unfold Be;rw[AF (by omega),KY (λj hj=>?_),AF (by decide),AF (by omega)];have hj2:CI L j∈L:=by
  unfold CI;rw[Dw,BG hj];exact List.getElem_mem hj
 obtain⟨z,hz,e1,e2⟩:=hk _ hj2
 have:=Sq h0 hj2
 exact XB (h2 z hz) e1 e2 ⟨hm _ hj2,by omega⟩
theorem jW {l:List AD}(h:B7 l=true):∀x∈l,∀y∈l,x.grain=y.grain:=λx hx y hy=>by
 unfold B7 at h;rw[CS]at h;have h1:=h x hx;have h2:=h y hy;rw[Lr,decide_eq_true_iff]at h1 h2;rw[h1,h2]
theorem l7 {l:List AD}(h:∀x∈l,∀y∈l,x.grain=y.grain):B7 l=true:=by
 unfold B7;rw[CS];intro x hx;rw[Lr,decide_eq_true_iff];refine h x hx _ ?_;unfold CI;cases l with
 |nil=>cases hx
 |cons a l=>exact CA ..
theorem Y1 {l L:List AD}(h:B7 l=true)(hk:∀y∈L,GE l y):B7 L=true:=l7 λx hx y hy=>by
 obtain⟨a,ha,e1,_⟩:=hk x hx;obtain⟨b,hb,e2,_⟩:=hk y hy;rw[e1,e2];exact jW h a ha b hb
theorem YU {x:Ar}{c L:List AD}(h:Cy x c=0)(hk:∀y∈L,GE c y)(hn:L.length<=64)(hm:∀y∈L,1<=y.mass)(hs:AT L<=AT c):Cy x L=0:=by
 obtain⟨h1,h2,h3,h4,h5,h6⟩:=GN h;exact To (Yu h1 hk hn hm (by omega)) (Y1 h2 hk) (by omega)
theorem Xk {x y:Ar}(hr:y.room=x.room)(c:List AD):Cy y c=Cy x c:=by unfold Cy;rw[hr]
theorem Tp {x:Ar}:∀ {l:List (List AD)},(∀c∈l,Cy x c=0)->ES x l=0
 | [],_=>rfl
 |c::l,h=>by
  show(if Cy x c≠0 then Cy x c else ES x l)=0;rw[AF (λq=>q (h c (CA ..)))];exact Tp λd hd=>h d (CF _ hd)
theorem ub {x y:Ar}(h1:y.flow=x.flow)(h2:y.core=x.core)(h3:y.room=x.room)(h4:y.side=x.side)(h5:y.cells.length=x.cells.length):Fo y=Fo x:=by
 unfold Fo ML LE Rv;rw[h1,h2,h3,h4,h5]
theorem Ox {x:Ar}(h:Ch x=0):Fo x=0/\C4 x.side (B5 x)=false:=by
 unfold Ch at h
 by_cases h1:Fo x=0
 ·rw[AF (λq=>q h1)]at h
  by_cases h2:ES x x.cells=0
  ·rw[AF (λq=>q h2)]at h
   refine⟨h1,?_⟩;cases hb:C4 x.side (B5 x)
   ·rfl
   ·rw[hb]at h;cases h
  ·rw[AH h2]at h;exact Ae h h2
 ·rw[AH h1]at h;exact Ae h h1
theorem ae {x y:Ar}(h:Ch x=0)(h1:y.flow=x.flow)(h2:y.core=x.core)(h3:y.room=x.room)(h4:y.side=x.side)(h5:y.cells.length=x.cells.length)(hc:∀c∈y.cells,Cy x c=0)(hs:C4 x.side (B5 y)=false):Ch y=0:=by
 unfold Ch;rw[ub h1 h2 h3 h4 h5,(Ox h).1,AF (λq=>q rfl),Tp (λc hq=>(Xk h3 c).trans (hc c hq)),AF (λq=>q rfl),h4,hs];rfl
theorem ot {x:Ar}(h:Ch x=0):RT x:=by
 have h1:=(Ox h).1;rw[Ou]at h1;split at h1
 ·cases h1
 rename_i hf;split at h1
 ·cases h1
 rename_i hr;unfold IA at hr;unfold RT;cases hm:BF (sb x.flow) Ez
 ·rw[hm]at hf hr
  cases hu:BF (sb x.flow) IT
  ·rw[hu]at hf;exact Ae rfl hf
  ·rw[hu]at hr
   simp only[HX,Gi,Bool.false_or,KN,F8,not_or]at hr;exact .inr (by omega)
 ·exact .inl rfl
theorem oz {x:Ar}{c:List AD}{m:Nat}(hc:∀y∈c,1<=y.mass)(hm:m<=(BL c).length):(∀y∈A8 (Ey x c m),GE c y)/\(∀y∈A8 (Ey x c m),1<=y.mass)/\AT (A8 (Ey x c m))=AT c-m:=by
 have hu:∀y∈Ey x c m,1<=y.mass:=λy hy=>by
  obtain⟨z,hz,rfl,_⟩:=RZ y (OS y hy);exact Int.le_refl _
 refine⟨λy hy=>(IP y hy).trans λz hz=>Om z (OS z hz),Ly hu,?_⟩;have h0:∀y∈c,0<=y.mass:=λy hy=>by have:=hc y hy;omega
 rw[Kp,<-Jp h0];have h1:AT (Ey x c m)=((Ey x c m).length:Int):=by
  have:∀L:List AD,(∀y∈L,y.mass=1)->AT L=(L.length:Int):=λL=>by
   induction L with
   |nil=>intro _;rfl
   |cons a L ih=>
    intro h;rw[show AT (a::L)=a.mass+AT L from rfl,h a (CA ..),ih λy hy=>h y (CF _ hy),Bp];omega
  exact this _ λy hy=>by
   obtain⟨z,hz,rfl,_⟩:=RZ y (OS y hy);rfl
 rw[h1,Tk hm];omega
def GR (x:Ar)(i m:Int):Int:=DX [H6 x [i],if decide (m<0)then 3 else 0]
def Bq (x:Ar)(i m:Int):Ar:=HQ x i.toNat (A8 (Ey x (Bg x i) m.toNat))
def EF (x:Ar)(i m:Int):List AD:=A8 (JN x (Bg x i) m.toNat)
def J3 (x:Ar)(i m:Int):Int:=if C4 x.side (B5 (Bq x i m))then 17 else if 64<(EF x i m).length then 5 else 0
def FN (x:Ar)(i m:Int):Int:=if GR x i m≠0 then GR x i m else if AT (Bg x i)<m then 13 else J3 x i m
def Vn (x:Ar)(i m:Int):Ar:=if FN x i m≠0 then J4 else Bq x i m
def Vo (x:Ar)(i m:Int):List AD:=if FN x i m≠0 then[]else EF x i m
theorem qC {P Q:List AD}(hP:∀y∈P,1<=y.mass)(hQ:∀y∈Q,1<=y.mass):A8 (A8 P++A8 Q)=A8 (P++Q):=by
 have h0:∀L:List AD,(∀y∈L,1<=y.mass)->∀y∈L,0<=y.mass:=λL h y hy=>by have:=h y hy;omega
 refine vS (λy hy=>?_) (λy hy=>?_) ?_
 ·rcases List.mem_append.1 hy with h|h
  ·exact Ly hP y h
  ·exact Ly hQ y h
 ·rcases List.mem_append.1 hy with h|h
  ·exact hP y h
  ·exact hQ y h
 ·rw[Ku,Ku,Ri (h0 P hP),Ri (h0 Q hQ)]
structure v6 (x:Ar)(i m:Int)(c:List AD)(n k:Nat):Prop where
 cel:∀c∈x.cells,Cy x c=0
 bin:Ch x=0
 lt:i.toNat<x.cells.length
 ii:i=(i.toNat:Int)
 at_:x.cells[i.toNat]?=some c
 mm:m=(k:Int)
 nn:(n:Int)=AT c
 un:(BL c).length=n
 par:Be c=0
theorem Ot {x:Ar}{i m:Int}(h:GR x i m=0):v6 x i m (Bg x i) (BL (Bg x i)).length m.toNat:=by
 obtain⟨h1,h2⟩:=aw h;obtain⟨g1,g2,g3⟩:=aj h1;have hlt:i.toNat<x.cells.length:=by omega
 have hat:x.cells[i.toNat]?=some (Bg x i):=by
  unfold Bg;rw[Dw,BG hlt];rfl
 have hp:=(GN (Hm g1 _ (Aw hat))).1;have hm:¬m<0:=λq=>by rw[AZ q]at h2;cases h2
 exact⟨Hm g1,g1,hlt,by omega,hat,by omega,Jp λy hy=>by have:=((DS hp).2.1 y hy).1;omega,rfl,hp⟩
theorem UF:∀ {L:List AD},(∀y∈L,y.mass=1)->AT L=(L.length:Int)
 | [],_=>rfl
 |a::L,h=>by
  rw[show AT (a::L)=a.mass+AT L from rfl,h a (CA ..),UF λy hy=>h y (CF _ hy),Bp];omega
theorem Mn {c:List AD}:∀y∈BL c,y.mass=1:=λy hy=>by
 obtain⟨z,hz,rfl,_⟩:=RZ y hy;rfl
theorem VE {c L:List AD}(hp:Be c=0)(hL:∀y∈L,y∈BL c)(hl:L.length<=(BL c).length):(∀y∈A8 L,1<=y.mass/\y.mass<=1000000000/\y.shs.length<=1000000)/\AT (A8 L)=(L.length:Int):=by
 have h1:∀y∈L,y.mass=1:=λy hy=>Mn y (hL y hy)
 have hs:=UF h1;have hc:=(GP hp).2.2;have hn:=Jp (l:=c) λy hy=>by have:=((DS hp).2.1 y hy).1;omega
 have h0:∀y∈A8 L,1<=y.mass:=Ly λy hy=>by rw[h1 y hy];exact Int.le_refl _
 refine⟨λy hy=>⟨h0 y hy,?_,?_⟩,by rw[Kp,hs]⟩
 ·have:=Sq (λz hz=>by have:=h0 z hz;omega) hy
  rw[Kp,hs]at this;omega
 ·obtain⟨z,hz,_,e⟩:=IP y hy
  obtain⟨w,hw,_,e2⟩:=Om z (hL z hz);rw[e,e2];exact((DS hp).2.1 w hw).2.2
theorem WS {c:List AD}{k:Nat}(hc:∀y∈c,1<=y.mass):(A8 ((BL c).take k)).length<=c.length:=by
 have h0:∀y∈c,0<=y.mass:=λy hy=>by have:=hc y hy;omega
 have e:=Vi (l:=c) (m:=(k:Int)) h0 (by omega);rw[Gk]at e;have h1:∀y∈D9 c (k:Int),0<=y.mass:=by
  have:∀(l:List AD) (m:Int),(∀y∈l,0<=y.mass)->0<=m->∀y∈D9 l m,0<=y.mass:=λl=>by
   induction l with
   |nil=>intro m _ _ y hy;cases hy
   |cons a l ih=>
    intro m h hm y hy
    have:=h a (CA ..)
    rcases BA.1 hy with rfl|hy
    ·show 0<=min a.mass m;omega
    ·split at hy
     ·cases hy
     ·exact ih _ (λz hz=>h z (CF _ hz)) (by omega) y hy
  exact this c _ h0 (by omega)
 have h2:=Rh h1;rw[e]at h2;rw[<-h2];have h3:=HJ (DH (D9 c (k:Int)));have h4:(DH (D9 c (k:Int))).length<=(D9 c (k:Int)).length:=List.length_filter_le ..;have h5:=UJ c (k:Int);omega
theorem iP {c:List AD}{k:Nat}(hc:∀y∈c,1<=y.mass):(A8 ((BL c).reverse.take k)).length<=c.length:=by
 rw[<-VD]
 have:=WS (c:=c.reverse) (k:=k) λy hy=>hc y (List.mem_reverse.1 hy)
 rwa [List.length_reverse]at this
theorem QM {x:Ar}{c:List AD}{m:Nat}(hc:∀y∈c,1<=y.mass):(A8 (Ey x c m)).length<=c.length:=by
 have h0:∀y∈c,0<=y.mass:=λy hy=>by have:=hc y hy;omega
 have e:=VP (l:=c) (low:=(FQ x c m:Int)) (left:=(((BL c).length-m:Nat):Int)) h0 (by omega) (by omega);rw[Gk,Gk]at e;have hbl:∀(l:List AD) (a b:Int),(E6 l a b).length=l.length:=λl=>by
  induction l with
  |nil=>intro a b;rfl
  |cons z l ih=>intro a b;show(E6 l _ _).length+1=_;rw[ih];rfl
 have hbn:∀(l:List AD) (a b:Int),(∀y∈l,0<=y.mass)->0<=a->0<=b->∀y∈E6 l a b,0<=y.mass:=λl=>by
  induction l with
  |nil=>intro a b _ _ _ y hy;cases hy
  |cons z l ih=>
   intro a b h ha hb y hy
   have:=h z (CA ..)
   rcases BA.1 hy with rfl|hy
   ·show 0<=min (z.mass-min z.mass a) b;omega
   ·exact ih _ _ (λw hw=>h w (CF _ hw)) (by omega) (by omega) y hy
 have h2:=Rh (hbn c (FQ x c m:Int) (((BL c).length-m:Nat):Int) h0 (by omega) (by omega));rw[e]at h2;show(A8 (((BL c).drop (FQ x c m)).take ((BL c).length-m))).length<=_;rw[<-h2];have h3:=HJ (DH (E6 c (FQ x c m:Int) (((BL c).length-m:Nat):Int)));have h4:(DH (E6 c (FQ x c m:Int) (((BL c).length-m:Nat):Int))).length<=(E6 c (FQ x c m:Int) (((BL c).length-m:Nat):Int)).length:=List.length_filter_le ..;rw[hbl]at h4;omega
abbrev JE:Dr:=[(9,[0,1,2,3,4,5,6,7,8,9],[10]),(11,[0,1,2,3,4],[5,6,7])]
open Go.Proofs Go.RowKit
set_option maxRecDepth 20000
set_option maxHeartbeats 4000000
theorem Tw {H:Hp}{a a' b b' c:D}(h1:Fz H [] a a')(h2:Fz H [] b b'):Fz H [] (.tup [a,b,c]) (.tup [a',b',c]):=Ml h1 h2
theorem Vg (x:Ar)(hl:x.cells.length<=1000000)(hc:∀c∈x.cells,c.length<=1000000/\∀y∈c,y.few)(i m:Int):AJ C0 15 [x.D,i64 i,i64 m] (.tup [(Vn x i m).D,AY false (Vo x i m),i64 (FN x i m)]):=by
 refine Aj.walk w1 eB rfl λF=>?_
 have cC:=fT x hl hc [i] (by simp);have cW:=GQ (decide (m<0)) 3;have cF1:=JI [H6 x [i],if decide (m<0)then 3 else 0] (by simp);rw[show DX [H6 x [i],if decide (m<0)then 3 else 0]=GR x i m from rfl]at cF1;have hE:FN x i m=if GR x i m≠0 then GR x i m else if AT (Bg x i)<m then 13 else J3 x i m:=rfl
 have hB:Vn x i m=if FN x i m≠0 then J4 else Bq x i m:=rfl
 have hL:Vo x i m=if FN x i m≠0 then[]else EF x i m:=rfl
 have hz:J4.D=.agg [str (sb []),i64 0,i64 0,i64 0,.sl false 1 []]:=rfl;have pz:AA (.tup [J4.D,AY false [],i64 (FN x i m)]):=AI;rw[hz]at pz
 by_cases h0:GR x i m=0
 rotate_left
 ·have k2:(GR x i m != 0)=true:=Gs h0
  rw[AH h0]at hE;rw[hE,AH h0]at hB hL;rw[hE]at pz;rw[hB,hL,hE,hz];unfold Ar.D at cC⊢;refine AG JE k2 cC cW cF1 AB AB AB ?_;exact⟨_,Tw (L0 (.nil 1)) (.nil 3),pz.out,rfl⟩
 have k2:(GR x i m != 0)=false:=by rw[h0];rfl
 rw[AF (λh=>h h0)]at hE;have ok:=Ot h0;obtain⟨c,hcc⟩:∃c,Bg x i=c:=⟨_,rfl⟩
 obtain⟨k,hk⟩:∃k,m.toNat=k:=⟨_,rfl⟩
 obtain⟨n,hn⟩:∃n,(BL c).length=n:=⟨_,rfl⟩
 have hO:Bq x i m=HQ x i.toNat (A8 (Ey x c k)):=by unfold Bq;rw[hcc,hk]
 have hF:EF x i m=A8 (JN x c k):=by unfold EF;rw[hcc,hk]
 have hE3:J3 x i m=if C4 x.side (B5 (Bq x i m))then 17 else if 64<(EF x i m).length then 5 else 0:=rfl
 rw[hcc]at hE ok;rw[hk,hn]at ok;have hpn:=DS ok.par;have hps:=(GP ok.par).2.2;have hmem:=Aw ok.at_;have cT:=Rt false c (by omega);rw[Ji hpn.2.2,<-ok.nn]at cT;have hat:(x.cells.map (AY false))[i.toNat]?=some (.sl false 3 (c.map AD.D)):=by rw[A7,ok.at_];rfl
 have hi0:0<=i:=by have:=ok.ii;omega
 have hil:i<(x.cells.length:Int):=by have:=ok.ii;have:=ok.lt;omega
 have el:(((x.cells.map (AY false)).length:Nat):Int)=(x.cells.length:Int):=by rw[Am]
 have hmk:=ok.mm
 by_cases h1:AT c<m
 ·have k3:decide ((n:Int)<m)=true:=AZ (by rw[ok.nn];exact h1)
  rw[AH h1]at hE;rw[hE,AH (by decide)]at hB hL;rw[hE]at pz;rw[hB,hL,hE,hz];unfold Ar.D at cC⊢;refine AG JE (At k2 el k3) cC cW cF1 hat cT AB ?_;exact⟨_,Tw (L0 (.nil 1)) (.nil 3),pz.out,rfl⟩
 have k3:decide ((n:Int)<m)=false:=Ah (by rw[ok.nn];exact h1);rw[AF h1]at hE;have hkn:k<=n:=by have:=ok.nn;omega
 have hnB:n<=1000000000:=by have:=ok.nn;omega
 have cLo:=qJ x n k hkn hnB (ot ok.bin);have hlX:FQ x c k=HV (K9 x) n k:=by unfold FQ;rw[hn]
 rw[<-hlX]at cLo;have hA:=T4 x c k;have hxc:∀y∈c,0<=y.mass/\y.mass<=1000000000/\y.shs.length<=1000000:=λy hy=>⟨by have:=(hpn.2.1 y hy).1;omega,(hpn.2.1 y hy).2⟩
 have hown:∀y∈c,∀m,AJ C0 94 [y.D,i64 m] (y.w m).D:=λy q m=>Oz y m (hxc y q).2.2
 have hrD:Ey x c k=((BL c).drop (FQ x c k)).take (n-k):=by unfold Ey;rw[hn]
 have hfD:JN x c k=(BL c).reverse.take (k-FQ x c k)++(BL c).take (FQ x c k):=rfl;obtain⟨A,hAe⟩:∃A,FQ x c k=A:=⟨_,rfl⟩
 rw[hAe]at cLo hA hrD hfD;have hbl:∀(l:List AD) (a b:Int),(E6 l a b).length=l.length:=λl=>by
  induction l with
  |nil=>intro a b;rfl
  |cons z l ih=>intro a b;show(E6 l _ _).length+1=_;rw[ih];rfl
 have hbn:∀(l:List AD) (a b:Int),(∀y∈l,0<=y.mass/\y.mass<=1000000000/\y.shs.length<=1000000)->0<=a->0<=b->∀y∈E6 l a b,0<=y.mass/\y.mass<=1000000000/\y.shs.length<=1000000:=λl=>by
  induction l with
  |nil=>intro a b _ _ _ y hy;cases hy
  |cons z l ih=>
   intro a b h ha hb y hy
   have:=h z (CA ..)
   rcases BA.1 hy with rfl|hy
   ·refine⟨?_,?_,this.2.2⟩
    ·show 0<=min (z.mass-min z.mass a) b;omega
    ·show min (z.mass-min z.mass a) b<=_;omega
   ·exact ih _ _ (λw hw=>h w (CF _ hw)) (by omega) (by omega) y hy
 have cBt:=W9 false c (A:Int) ((k-A:Nat):Int) (by omega) ⟨by omega,by omega⟩ ⟨by omega,by omega⟩ (n:Int) ⟨by omega,by omega⟩ (λy q=>⟨(hxc y q).1,(hxc y q).2.1⟩) cT hown (AY false (A8 (Ey x c k))) (by
  have h3:=Tf false (E6 c (A:Int) ((n:Int)-A-((k-A:Nat):Int))) (by rw[hbl];omega) (hbn c _ _ hxc (by omega) (by omega));rw[Rh λy hy=>(hbn c _ _ hxc (by omega) (by omega) y hy).1,VP (λy hy=>(hxc y hy).1) (by omega) (by omega),Gk,show((n:Int)-A-((k-A:Nat):Int)).toNat=n-k by omega,<-hrD]at h3;exact h3)
 have wA:IntKind.i64.wrap (m-(A:Int))=((k-A:Nat):Int):=by rw[wI (by omega) (by omega)];omega
 have cWi:=fV x i.toNat ok.lt hl (λc hq=>QJ false c (hc c hq).1 (DS (GN (ok.cel c hq)).1).2.1) (A8 (Ey x c k));rw[<-ok.ii,<-hO]at cWi;have cP1:=fU false true c (k-A) (by omega) (by omega) hxc;have cP2:=fU false false c A (by omega) (by omega) hxc;rw[show P1 true c=(BL c).reverse from rfl]at cP1;rw[show P1 false c=BL c from rfl]at cP2;have u1:=VE (L:=(BL c).reverse.take (k-A)) ok.par (λy hy=>List.mem_reverse.1 (FX hy)) (by rw[Bb,List.length_reverse];omega);have u2:=VE (L:=(BL c).take A) ok.par (λy hy=>FX hy) (by rw[Bb];omega);have g1:=iP (c:=c) (k:=k-A) λy hy=>(hpn.2.1 y hy).1
 have g2:=WS (c:=c) (k:=A) λy hy=>(hpn.2.1 y hy).1
 have v1:∀y∈(BL c).reverse.take (k-A),1<=y.mass:=λy hy=>by
  rw[Mn y (List.mem_reverse.1 (FX hy))];exact Int.le_refl _
 have v2:∀y∈(BL c).take A,1<=y.mass:=λy hy=>by
  rw[Mn y (FX hy)];exact Int.le_refl _
 have hFn:=qC v1 v2;rw[<-hfD,<-hF]at hFn;obtain⟨P,hP⟩:∃P,A8 ((BL c).reverse.take (k-A))=P:=⟨_,rfl⟩
 obtain⟨Q,hQ⟩:∃Q,A8 ((BL c).take A)=Q:=⟨_,rfl⟩
 rw[hP]at cP1 u1 g1 hFn;rw[hQ]at cP2 u2 g2 hFn;have cCC:=YW [P,Q] (by rw[show[P,Q].flatten=P++Q by simp,Bk];omega) (by simp);rw[show[P,Q].flatten=P++Q by simp]at cCC;have cN:=QJ false (P++Q) (by rw[Bk];omega) λy hy=>by
  rcases List.mem_append.1 hy with h|h
  ·exact u1.1 y h
  ·exact u2.1 y h
 rw[hFn]at cN;have hFl:(EF x i m).length<=1000000:=by
  rw[<-hFn]
  have:=HJ (P++Q)
  rw[Bk]at this;omega
 have cCr:=ut (EF x i m) hFl;have hol:(Bq x i m).cells.length=x.cells.length:=by
  rw[hO];show((x.cells.map A8).set _ _).length=_;rw[DF,Am]
 have hoc:∀c∈(Bq x i m).cells,c.length<=1000000:=λd hq=>by
  rw[hO]at hq;rcases Nj hq with h|h
  ·obtain⟨e,h1,rfl⟩:=List.mem_map.1 h
   have:=HJ e
   have:=(hc e h1).1
   omega
  ·rw[h]
   have:=QM (x:=x) (c:=c) (m:=k) λy hy=>(hpn.2.1 y hy).1
   omega
 have cLv:=Tz (Bq x i m) (by omega) λc h=>by have:=hoc c h;omega
 have cSt:=Uf x false (B5 (Bq x i m)) (by unfold B5;rw[Am];omega);have cF3:=JI [if C4 x.side (B5 (Bq x i m))then 17 else 0,if 64<(EF x i m).length then 5 else 0] (by simp);have hE3':DX [if C4 x.side (B5 (Bq x i m))then 17 else 0,if 64<(EF x i m).length then 5 else 0]=J3 x i m:=by
  rw[hE3];cases C4 x.side (B5 (Bq x i m))
  ·by_cases h:64<(EF x i m).length
   ·rw[AH h];rfl
   ·rw[AF h];rfl
  ·rfl
 rw[hE3']at cF3;have hoD:(Bq x i m).D=.agg [str (sb x.flow),i64 x.core,i64 x.room,i64 x.side,.sl false 1 ((Bq x i m).cells.map (AY false))]:=by rw[hO];rfl
 have po:AA (.tup [(Bq x i m).D,AY false (EF x i m),i64 (FN x i m)]):=AI;have Gn:AA (Bq x i m).D:=AI;rw[hoD]at cWi cLv po Gn;obtain⟨OD,hOD⟩:∃O,(Bq x i m).cells.map (AY false)=O:=⟨_,rfl⟩
 rw[hOD]at cWi cLv po Gn hoD;subst hmk
 by_cases h2:J3 x i (k:Int)=0
 rotate_left
 ·have k4:(J3 x i (k:Int) != 0)=true:=Gs h2
  rw[hE,AH h2]at hB hL;rw[hE]at pz;rw[hB,hL,hE,hz];unfold Ar.D at cC cWi cSt cLo⊢;refine AG JE (BZ k2 el k3 wA) cC cW cF1 hat cT cLo ?_;refine AG JE (Ad wA k4) cBt cWi AB AB AB AB ?_;refine AG JE wA cP1 cP2 cCC cN cCr AB ?_;refine AG JE k4 cLv cSt cF3 AB AB AB ?_;exact⟨_,Tw (L0 (.nil 1)) (.nil 3),pz.out,rfl⟩
 ·have k4:(J3 x i (k:Int) != 0)=false:=by rw[h2];rfl
  have h64:¬ 64<(EF x i (k:Int)).length:=λh=>by
   rw[hE3,AH h]at h2;split at h2<;>cases h2
  rw[hE,AF (λh=>h h2)]at hB hL;rw[hE,h2]at po;rw[AF h64]at cCr;rw[hB,hL,hE,h2,hoD];unfold Ar.D at cC cWi cSt cLo⊢;refine AG JE (BZ k2 el k3 wA) cC cW cF1 hat cT cLo ?_;refine AG JE (Ad wA k4) cBt cWi AB AB AB AB ?_;refine AG JE wA cP1 cP2 cCC cN cCr AB ?_;refine AG JE k4 cLv cSt cF3 AB AB AB ?_;exact AK rfl po.out
open Go.Sort
def LK (x:Ar):Bool:=x.cells.all Fu&&(decide (x.flow.length<=100)&&decide (x.cells.length<=20))
theorem nX (x:Ar)(hl:x.cells.length<=9223372036854775807)(hs:∀c∈x.cells,c.length<=9223372036854775807/\∀y∈c,y.shs.length<=9223372036854775807):AJ C0 39 [x.D] (As (LK x)):=by
 refine Aj.walk w1 wO rfl λF=>?_
 obtain⟨cs,hcs⟩:∃c,x.cells=c:=⟨_,rfl⟩
 have el:(((cs.map (AY false)).length:Nat):Int)=(cs.length:Int):=by rw[Am]
 have hb:LK x=(cs.all Fu&&(decide (x.flow.length<=100)&&decide (cs.length<=20))):=by rw[<-hcs];rfl
 rw[hb];unfold Ar.D;rw[hcs]at hl hs⊢;refine AG Ag el AB AB AB AB AB AB ?_;refine AC.loop (α:=Nat×Nat) (λp=>⟨[(1,.optr 0 0 5 0 0),(6,FM false cs),(7,i64 (cs.length:Int)),(8,i64 (p.1:Int))],[⟨0,0,24,5,[.agg [str (sb x.flow),i64 x.core,i64 x.room,i64 x.side,FM false cs]]⟩],p.2⟩) (λp=>cs.length-p.1) (λq=>q.1<=cs.length/\(cs.take q.1).all Fu=true) (0,_) ⟨BX _,rfl⟩ AL ?_;rintro⟨i,n⟩ F ⟨hi,ha⟩;dsimp only at hi ha⊢;rcases BI i cs.length with h2|h2
 rotate_left
 ·have e1:=Cd h2
  have:i=cs.length:=by omega
  subst this;rw[DV]at ha;rw[ha,Gi];have hsz:=Ci x.flow;have d1:decide (x.flow.length<=100)=decide ((x.flow.length:Int)<=100):=C5.2 (by omega);have d2:decide (cs.length<=20)=decide ((cs.length:Int)<=20):=C5.2 (by omega);rw[d1,d2];obtain⟨q1,h1⟩:∃q,decide ((x.flow.length:Int)<=100)=q:=⟨_,rfl⟩
  rw[h1];cases q1
  all_goals
   refine AG Ag (EQ e1 hsz el h1 kT kF) AB AB AB AB AB AB ?_;exact AK rfl AA.out
 have e1:=Ce h2;have wi:=Cf (i:=i) (by omega);obtain⟨c,hc⟩:=CK h2;have hm:(cs.map (AY false))[i]?=some (.sl false 3 (c.map AD.D)):=by rw[A7,hc];rfl
 obtain⟨hs1,hs2⟩:=hs c (Aw hc);have cS:=Ui false c hs1 hs2;have htk:cs.take (i+1)=cs.take i++[c]:=by rw[Dp,hc];rfl
 cases hq:Fu c
 ·rw[hq]at cS
  have hall:cs.all Fu=false:=by
   rw[List.all_eq_false];exact⟨c,Aw hc,by rw[hq];exact Bool.false_ne_true⟩
  rw[hall,HX];refine AG Ag (At e1 kT kF) hm cS AB AB AB AB ?_;exact AK rfl AA.out
 ·rw[hq]at cS
  refine AG Ag (BZ e1 wi kT kF) hm cS AB AB AB AB ?_;exact⟨(i+1,_),⟨h2,by dsimp only;rw[htk,KO,ha,Fl,hq];rfl⟩,by dsimp only;omega,AL⟩
theorem d7 {x:Ar}(h:LK x=true):x.cells.length<=20/\x.flow.length<=100/\∀c∈x.cells,(∀y∈c,y.lite/\y.modr)/\c.length<=80:=by
 unfold LK at h;rw[BQ,BQ,decide_eq_true_iff,decide_eq_true_iff,CS]at h;obtain⟨h1,h2,h3⟩:=h;refine⟨h3,h2,λc hc=>?_⟩;obtain⟨g1,g2,_⟩:=UC (h1 c hc);exact⟨g1,g2⟩
def LC (l:List AD)(n most:Int):Bool:=decide ((l.length:Int)<=n)&&decide (AT l<=most)
def NT (x:Ar)(most:Int):Bool:=decide (x.cells.length<=4)&&(decide (Ch x=0)&&x.cells.all λc=>LC c 6 most)
def PV (x:Ar):Bool:=LK x&&NT x 999999999
theorem vH (l:List AD)(n most:Int)(hl:l.length<=1000000)(hf:∀x∈l,x.modr)(hp:Be l=0):AJ C0 88 [AY false l,i64 n,i64 most] (As (LC l n most)):=by
 refine Aj.walk w1 xA rfl λF=>?_
 have el:(((l.map AD.D).length:Nat):Int)=(l.length:Int):=by rw[Am]
 have cP:=gP false l hl hf;have cM:=PE false l (DS hp).2.2;rw[hp]at cP;have k0:(((0:Nat):Int)==0)=true:=rfl;unfold LC;obtain⟨a,ha⟩:∃a,decide ((l.length:Int)<=n)=a:=⟨_,rfl⟩
 obtain⟨b,hb⟩:∃b,decide (AT l<=most)=b:=⟨_,rfl⟩
 rw[ha,hb];cases a
 ·refine AG Ag (At el ha k0) AB AB AB AB AB AB ?_
  exact AK rfl AA.out
 ·cases b
  ·refine AG Ag (BZ el ha hb k0) cP cM AB AB AB AB ?_
   exact AK rfl AA.out
  ·refine AG Ag (BZ el ha hb k0) cP cM AB AB AB AB ?_
   exact AK rfl AA.out
theorem yF (x:Ar)(most:Int)(hl:x.cells.length<=1000000)(hc:∀c∈x.cells,c.length<=1000000/\∀y∈c,y.modr):AJ C0 40 [x.D,i64 most] (As (NT x most)):=by
 refine Aj.walk w1 wQ rfl λF=>?_
 have cB:=ov x hl hc;have hE:NT x most=(decide (x.cells.length<=4)&&(decide (Ch x=0)&&x.cells.all λc=>LC c 6 most)):=rfl;have hcl:=@Hm x;obtain⟨cs,hcs⟩:∃c,x.cells=c:=⟨_,rfl⟩
 have el:(((cs.map (AY false)).length:Nat):Int)=(cs.length:Int):=by rw[Am]
 obtain⟨E,hEE⟩:∃E,Ch x=E:=⟨_,rfl⟩
 rw[hE];unfold Ar.D at cB⊢;rw[hcs]at cB hcl hl hc⊢;rw[hEE]at cB hcl⊢
 by_cases h4:cs.length<=4
 rotate_left
 ·have k1:decide ((cs.length:Int)>4)=true:=AZ (by omega)
  rw[Ah h4,HX];refine AG Ag (Ad el k1) AB AB AB AB AB AB ?_;exact AK rfl AA.out
 have k1:decide ((cs.length:Int)>4)=false:=Ah (by omega);rw[AZ h4,Gi]
 by_cases h0:E=0
 rotate_left
 ·have k2:(E != 0)=true:=Gs h0
  rw[Ah h0,HX];refine AG Ag (At el k1 k2) cB AB AB AB AB AB ?_;exact AK rfl AA.out
 have k2:(E != 0)=false:=by rw[h0];rfl
 rw[AZ h0,Gi];refine AG Ag (At el k1 k2) cB AB AB AB AB AB ?_;refine AC.loop (α:=Nat×Nat) (λp=>⟨[(1,i64 most),(2,.optr 0 0 5 0 0),(5,i64 (p.1:Int))],[⟨0,0,24,5,[.agg [str (sb x.flow),i64 x.core,i64 x.room,i64 x.side,FM false cs]]⟩],p.2⟩) (λp=>cs.length-p.1) (λq=>q.1<=cs.length/\((cs.take q.1).all λc=>LC c 6 most)=true) (0,_) ⟨BX _,rfl⟩ AL ?_;rintro⟨i,n⟩ F ⟨hi,ha⟩;dsimp only at hi ha⊢;rcases BI i cs.length with h2|h2
 rotate_left
 ·have e1:=Cd h2
  have:i=cs.length:=by omega
  subst this;rw[DV]at ha;rw[ha];refine AG Ag (Ad e1 el) AB AB AB AB AB AB ?_;exact AK rfl AA.out
 have e1:=Ce h2;have wi:=Cf (i:=i) (by omega);obtain⟨c,hc'⟩:=CK h2;have hm:(cs.map (AY false))[i]?=some (.sl false 3 (c.map AD.D)):=by rw[A7,hc'];rfl
 have hmem:=Aw hc';have cF:=vH c 6 most (hc c hmem).1 (hc c hmem).2 (GN (hcl h0 c hmem)).1;have htk:cs.take (i+1)=cs.take i++[c]:=by rw[Dp,hc'];rfl
 cases hq:LC c 6 most
 ·rw[hq]at cF
  have hall:(cs.all λc=>LC c 6 most)=false:=by
   rw[List.all_eq_false];exact⟨c,hmem,by rw[hq];exact Bool.false_ne_true⟩
  rw[hall];refine AG Ag (CO e1 el kT kF kN) hm cF AB AB AB AB ?_;exact AK rfl AA.out
 ·rw[hq]at cF
  refine AG Ag (EQ e1 el wi kT kF kN) hm cF AB AB AB AB ?_;exact⟨(i+1,_),⟨h2,by dsimp only;rw[htk,KO,ha,Fl,hq];rfl⟩,by dsimp only;omega,AL⟩
structure dh (x:Ar)(m:Int):Prop where
 n:x.cells.length<=4
 len:∀c∈x.cells,c.length<=6
 mass:∀c∈x.cells,AT c<=m
 bin:Ch x=0
theorem rG {x:Ar}{m:Int}(h:NT x m=true):dh x m:=by
 unfold NT at h;rw[BQ,BQ,decide_eq_true_iff,decide_eq_true_iff,CS]at h;obtain⟨h1,h2,h3⟩:=h;have h4:∀c∈x.cells,(c.length:Int)<=6/\AT c<=m:=λc hc=>by
  have:=h3 c hc
  unfold LC at this
  rwa [BQ,decide_eq_true_iff,decide_eq_true_iff]at this
 exact⟨h1,λc hc=>by have:=(h4 c hc).1;omega,λc hc=>(h4 c hc).2,h2⟩
theorem r6 (x:Ar):x.D=.agg [str (sb x.flow),i64 x.core,i64 x.room,i64 x.side,.sl false 1 (x.cells.map (AY false))]:=rfl
theorem Zl {x:Ar}{i:Nat}{c:List AD}(h:Ch x=0)(hc:x.cells[i]?=some c):(B5 x).getD i 0=AT c:=by
 rw[(M2 h).1,Dw,A7,hc];rfl
theorem qf {x:Ar}{c:List AD}(h:Cy x c=0):Cs (A8 c)=AT c:=by
 have p:=GN h;have hn:=DS p.1
 have:=lT hn.2.1 (by omega) (by omega)
 rw[Ji this.1,this.2.2]
theorem nZ {x:Ar}{i:Nat}{L:List AD}(h:Ch x=0):B5 (HQ x i L)=(B5 x).set i (Cs L):=by
 show List.map Cs ((x.cells.map A8).set i L)=_;rw[List.map_set,List.map_map,(M2 h).1]
 congr 1
 exact Nq λc hq=>qf (Hm h c hq)
theorem qg {c L:List AD}(hp:Be c=0)(hL:∀y∈L,y∈BL c)(hl:L.length<=(BL c).length)(hn:(A8 L).length<=1000000):Cs (A8 L)=(L.length:Int):=by
 obtain⟨h1,h2⟩:=VE hp hL hl;rw[Ji ⟨hn,λy hy=>by have:=h1 y hy;omega⟩,h2]
theorem nY {x:Ar}{i:Nat}{c:List AD}{m:Nat}(h:Ch x=0)(hc:x.cells[i]?=some c)(hm:m<=(BL c).length):B5 (HQ x i (A8 (Ey x c m)))=(B5 x).set i ((B5 x).getD i 0-m):=by
 have hce:=GN (Hm h c (Aw hc));have hpn:=DS hce.1;have hr:=QM (x:=x) (c:=c) (m:=m) λy hy=>(hpn.2.1 y hy).1
 have hn:=Jp (l:=c) λy hy=>by have:=(hpn.2.1 y hy).1;omega
 rw[nZ h,qg hce.1 OS (by rw[Tk hm];omega) (by omega),Tk hm,Zl h hc,<-hn]
 congr 1
 omega
theorem xU {l:List AD}{y:AD}(h:GE l y)(hf:∀z∈l,z.few):y.few:=by
 obtain⟨z,hz,e1,e2⟩:=h
 have:=hf z hz
 unfold AD.few at this⊢;rw[e1,e2];exact this
theorem Ug {l:List AD}{y:AD}(h:GE l y)(hf:∀z∈l,z.lite):y.lite:=by
 have h1:=xU h λz hz=>(hf z hz).1
 obtain⟨z,hz,e1,e2⟩:=h
 have:=(hf z hz).2
 refine⟨h1,?_⟩;rw[e2];exact this
theorem OU {x:Ar}{i:Nat}{L:List AD}{P:List AD->Prop}(h1:∀c∈x.cells,P (A8 c))(h2:P L):∀d∈(HQ x i L).cells,P d:=λd hd=>by
 rcases Nj hd with hd|hd
 ·obtain⟨e,he,rfl⟩:=List.mem_map.1 hd
  exact h1 e he
 ·rw[hd];exact h2
theorem Jk (x:Ar)(i:Nat)(L:List AD):(HQ x i L).cells.length=x.cells.length:=by
 show((x.cells.map A8).set _ _).length=_;rw[DF,Am]
theorem ZM {x:Ar}{c:List AD}(h:Cy x c=0):Cy x (A8 c)=0:=by
 have p:=GN h;have hn:=DS p.1
 have:=HJ c
 exact YU h IP (by omega) (Ly λy hy=>(hn.2.1 y hy).1) (by rw[Kp];exact Int.le_refl _)
structure yd (x:Ar)(i m:Int):Prop where
 bin:Ch (Bq x i m)=0
 par:Be (EF x i m)=0
 one:GR x i m=0
 mle:m<=AT (Bg x i)
 stp:C4 x.side (B5 (Bq x i m))=false
 f64:¬ 64<(EF x i m).length
theorem sB {x:Ar}{i m:Int}(h1:GR x i m=0)(h2:¬AT (Bg x i)<m)(h3:C4 x.side (B5 (Bq x i m))=false):Ch (Bq x i m)=0:=by
 have ok:=Ot h1;have hce:=ok.cel _ (Aw ok.at_);have hpn:=DS ok.par;have hkn:m.toNat<=(BL (Bg x i)).length:=by have:=ok.nn;have:=ok.mm;omega
 have hr:=oz (x:=x) (c:=Bg x i) (m:=m.toNat) (λy hy=>(hpn.2.1 y hy).1) hkn;have hl:=QM (x:=x) (c:=Bg x i) (m:=m.toNat) λy hy=>(hpn.2.1 y hy).1
 refine ae ok.bin rfl rfl rfl rfl (Jk ..) (OU (λc hc=>ZM (ok.cel c hc)) ?_) h3;exact YU hce hr.1 (by omega) hr.2.1 (by rw[hr.2.2];omega)
theorem mV {x:Ar}{c:List AD}{m:Nat}(h:m<=(BL c).length):AT (A8 (JN x c m))=m:=by
 rw[Kp,UF λy hy=>Mn y (Qf y hy),mU h]
theorem xR {x:Ar}{i m:Int}(h:FN x i m=0):yd x i m:=by
 unfold FN at h
 by_cases h1:GR x i m=0
 ·rw[AF (λq=>q h1)]at h
  by_cases h2:AT (Bg x i)<m
  ·rw[AH h2]at h;cases h
  ·rw[AF h2]at h
   unfold J3 at h;have h3:C4 x.side (B5 (Bq x i m))=false:=by
    cases hb:C4 x.side (B5 (Bq x i m))
    ·rfl
    ·rw[hb,AH rfl]at h;cases h
   rw[h3,AF (by decide)]at h;have h4:¬ 64<(EF x i m).length:=λq=>by rw[AH q]at h;cases h
   have ok:=Ot h1;have hpn:=DS ok.par;have hps:=(GP ok.par).2.2;have hkn:m.toNat<=(BL (Bg x i)).length:=by have:=ok.nn;have:=ok.mm;omega
   refine⟨sB h1 h2 h3,Yu ok.par (λy hy=>(IP y hy).trans λz hz=>Om z (Qf z hz)) (by omega) (Ly λy hy=>?_) ?_,h1,by omega,h3,h4⟩
   ·rw[Mn y (Qf y hy)];exact Int.le_refl _
   ·show AT (A8 (JN x (Bg x i) m.toNat))<=_
    rw[mV hkn]
    have:=ok.mm
    omega
 ·rw[AH h1]at h;exact Ae h h1
theorem xQ {x:Ar}{i m:Int}(h:x.cells[i.toNat]?=some (Bg x i)):(∀c∈(Bq x i m).cells,∃d∈x.cells,∀y∈c,GE d y)/\∀y∈EF x i m,GE (Bg x i) y:=
 ⟨OU (λc hc=>⟨c,hc,IP⟩) ⟨_,Aw h,λy hy=>(IP y hy).trans λz hz=>Om z (OS z hz)⟩,
  λy hy=>(IP y hy).trans λz hz=>Om z (Qf z hz)⟩
theorem oc {x:Ar}{i m:Int}(h:GR x i m=0):∀c∈(Bq x i m).cells,∃d∈x.cells,c.length<=d.length:=by
 have ok:=Ot h;exact OU (λc hc=>⟨c,hc,HJ c⟩) ⟨_,Aw ok.at_,QM λy hy=>((DS ok.par).2.1 y hy).1⟩
structure iH (side:Int)(N:Nat)(l:List Int):Prop where
 len:l.length=N
 bnd:∀v∈l,0<=v/\v<=1000000000
 stp:C4 side l=false
theorem vN {x:Ar}(h:Ch x=0):iH x.side x.cells.length (B5 x)/\0<x.cells.length/\x.cells.length<=8:=by
 have h1:=(Ox h).1;refine⟨⟨Am ..,λv hv=>by have:=(M2 h).2 v hv;omega,(Ox h).2⟩,?_,(YQ h).2.2.2⟩;rw[Ou]at h1;split at h1
 ·cases h1
 split at h1
 ·cases h1
 split at h1
 ·cases h1
 rename_i h0;omega
theorem rr {x:Ar}{k:Nat}(h:Ch x=0)(hk:k<x.cells.length):H6 x [(k:Int)]=0:=by
 unfold H6;rw[AF (λq=>q h)]
 have:JZ x (k:Int)=true:=by
  unfold JZ Do;rw[BQ,decide_eq_true_iff,decide_eq_true_iff];omega
 simp[this]
theorem ZC {x:Ar}{k:Nat}{m:Int}(h:Ch x=0)(hk:k<x.cells.length)(hm:0<=m):GR x (k:Int) m=0:=by
 unfold GR;rw[rr h hk,Ah (by omega)];rfl
theorem RH {x:Ar}{k:Nat}(hk:k<x.cells.length):x.cells[k]?=some (Bg x (k:Int)):=by
 unfold Bg;rw[Gk,Dw,BG hk];rfl
theorem yS (x:Ar)(hl:x.cells.length<=9223372036854775807)(hs:∀c∈x.cells,c.length<=9223372036854775807/\∀y∈c,y.shs.length<=9223372036854775807):AJ C0 14 [x.D] (As (PV x)):=by
 refine Aj.walk w1 xW rfl λF=>?_
 have cS:=nX x hl hs;have hk:=@d7 x;have cF:=yF x 999999999;have hE:PV x=(LK x&&NT x 999999999):=rfl;have hx:∃a b c d e,x.D=.agg [a,b,c,d,e]:=⟨_,_,_,_,_,rfl⟩
 have px:AA x.D:=AI;have px2:AU x.D:=AI;obtain⟨a1,a2,a3,a4,a5,hx⟩:=hx;rw[hx]at cS cF px px2⊢;rw[hE];cases hsh:LK x
 ·rw[hsh]at cS
  rw[HX];refine AG Ag kB cS AB AB AB AB AB ?_;exact AK rfl AA.out
 rw[hsh]at cS;rw[Gi];obtain⟨k1,k2,k3⟩:=hk hsh;have cF:=cF (by omega) λc q=>⟨by have:=(k3 c q).2;omega,λy h=>((k3 c q).1 y h).2⟩
 refine AG Ag kB cS cF AB AB AB AB ?_;exact AK rfl AA.out
structure yf (x:Ar):Prop where
 sm:dh x 999999999
 few:∀c∈x.cells,∀y∈c,y.lite/\y.modr
 shr:LK x=true
theorem vP {x:Ar}(h:PV x=true):yf x:=by
 unfold PV at h;rw[BQ]at h;obtain⟨k1,k2,k3⟩:=d7 h.1;exact⟨rG h.2,λc hc=>(k3 c hc).1,h.1⟩
theorem UP {x:Ar}{i m:Int}(h:FN x i m=0):Vn x i m=Bq x i m:=AF λq=>q h
theorem UQ {x:Ar}{i m:Int}(h:FN x i m=0):Vo x i m=EF x i m:=AF λq=>q h
theorem xc {L:List AD}(h:∀y∈L,y.mass=1):BL L=L:=by
 induction L with
 |nil=>rfl
 |cons x L ih=>
  have hx:=h x (CA ..);rw[Hn,ih λy hy=>h y (CF _ hy),hx];show x.w 1::L=_;rw[<-hx];rfl
theorem qG {L:List AD}(hk:∀y∈L,∃z,Ca z=0/\y.grain=z.grain/\y.shs=z.shs)(hn:L.length<=64)(hm:∀y∈L,1<=y.mass)(hs:AT L<=999999999):Be L=0:=by
 have h0:∀y∈L,0<=y.mass:=λy hy=>by have:=hm y hy;omega
 unfold Be;rw[AF (by omega),KY (λj hj=>?_),AF (by decide),AF (by omega)];have hj2:CI L j∈L:=by
  unfold CI;rw[Dw,BG hj];exact List.getElem_mem hj
 obtain⟨z,hz,e1,e2⟩:=hk _ hj2
 have:=Sq h0 hj2
 exact XB hz e1 e2 ⟨hm _ hj2,by omega⟩
def Ar.fr (x:Ar):Ar:=⟨x.flow,x.core,x.room,999999999,x.cells⟩
theorem Z7 {l:List Int}(hl:∀v∈l,0<=v/\v<=999999999):C4 999999999 l=false:=by
 refine(p9 ⟨by omega,by omega⟩ λv hv=>by have:=hl v hv;omega).2 λk hk=>?_
 have h1:=hl _ (Aw (Q8 (l:=l) (i:=k) (by omega)));have h2:=hl _ (Aw (Q8 hk));omega
theorem r7 {x:Ar}(h:Ch x=0):Ch x.fr=0:=by
 have h1:Fo x.fr=0:=by
  have h0:=(Ox h).1;rw[Ou]at h0⊢;have hr:IA x.fr=true->IA x=true:=λhq=>by
   unfold IA at hq⊢;show _=true;simp only[KN,F8]at hq⊢;have e1:x.fr.flow=x.flow:=rfl;have e2:x.fr.core=x.core:=rfl;have e3:x.fr.room=x.room:=rfl;have e4:x.fr.side=999999999:=rfl;rw[e1,e2,e3,e4]at hq;rcases hq with((((hq|hq)|hq)|hq)|hq)|hq
   ·exact .inl (.inl (.inl (.inl (.inl hq))))
   ·exact .inl (.inl (.inl (.inl (.inr hq))))
   ·exact .inl (.inl (.inl (.inr hq)))
   ·exact .inl (.inl (.inr hq))
   ·omega
   ·omega
  show(if(!BF (sb x.flow) Ez && !BF (sb x.flow) IT)=true then(20:Int)else if IA x.fr=true then 3 else if x.cells.length=0 then 2 else if 8<x.cells.length then 5 else 0)=0;split at h0
  ·cases h0
  ·rw[AF (by assumption)]
   split at h0
   ·cases h0
   ·rename_i hn
    rw[AF (λq=>hn (hr q))];exact h0
 unfold Ch;rw[h1,AF (λq=>q rfl),Tp (x:=x.fr) (l:=x.fr.cells) (λc hq=>(Xk (x:=x) rfl c).trans (Hm h c hq)),AF (λq=>q rfl)];show(if C4 999999999 (B5 x)=true then(17:Int)else 0)=0;rw[Z7 λv hv=>by have:=(M2 h).2 v hv;omega];rfl
theorem kY {x:Ar}{c:List AD}{m:Nat}(hf:BF (sb x.flow) Ez=true):FQ x c m=m:=ZY hf
structure PM (x:Ar):Prop where
 bin:Ch x=0
 flow:BF (sb x.flow) Ez=true
 side:x.side=999999999
theorem Qd {x:Ar}{k:Nat}{c A B:List AD}(h:PM x)(hc:x.cells[k]?=some c)(hu:BL c=A++B)(hA:(A8 A).length<=64):
  FN x (k:Int) (A.length:Int)=0/\EF x (k:Int) (A.length:Int)=A8 A/\(Bq x (k:Int) (A.length:Int)).cells[k]?=some (A8 B)/\BL (A8 B)=B/\PM (Bq x (k:Int) (A.length:Int)):=by
 have hk:=(List.getElem?_eq_some_iff.1 hc).1;have hat:=RH hk;have hcc:Bg x (k:Int)=c:=by rw[hat]at hc;cases hc;rfl
 have h1:=ZC (k:=k) (m:=(A.length:Int)) h.bin hk (by omega);have ok:=Ot h1;have hpn:=DS ok.par;rw[hcc]at ok hpn;have hn:(BL c).length=A.length+B.length:=by rw[hu,Bk]
 have hnn:=Jp (l:=c) λy hy=>by have:=(hpn.2.1 y hy).1;omega
 have hlx:FQ x c A.length=A.length:=kY h.flow;have hF:JN x c A.length=A:=by
  unfold JN;rw[hlx,Nat.sub_self,LN,F6,hu,List.take_left]
 have hR:Ey x c A.length=B:=by
  unfold Ey;rw[hlx,hn,hu,List.drop_left,show A.length+B.length-A.length=B.length by omega,DV]
 have hFe:EF x (k:Int) (A.length:Int)=A8 A:=by
  unfold EF;rw[hcc,Gk,hF]
 have hB1:∀y∈B,y.mass=1:=λy hy=>Mn (c:=c) y (by rw[hu];exact List.mem_append_right _ hy)
 have hlv:B5 (Bq x (k:Int) (A.length:Int))=(B5 x).set k ((B5 x).getD k 0-A.length):=by
  show B5 (HQ x ((k:Int).toNat) _)=_;rw[Gk,hcc,Gk,nY h.bin hc (by omega)]
 have hst:C4 x.side (B5 (Bq x (k:Int) (A.length:Int)))=false:=by
  rw[hlv,h.side];refine Z7 λv hv=>?_
  rcases Nj hv with hv|hv
  ·have:=(M2 h.bin).2 v hv;omega
  ·have hg:=Zl h.bin hc
   have:=(M2 h.bin).2 _ (Aw (Q8 (l:=B5 x) (i:=k) (by unfold B5;rw[Am];exact hk)))
   omega
 have hE:FN x (k:Int) (A.length:Int)=0:=by
  unfold FN;rw[AF (λq=>q h1),hcc,AF (by omega)];unfold J3;rw[hst,AF (by decide),hFe,AF (by omega)]
 refine⟨hE,hFe,?_,?_,(xR hE).bin,h.flow,h.side⟩
 ·show((x.cells.map A8).set ((k:Int).toNat) _)[k]?=_
  rw[Gk,hcc,Gk,hR,Nl (by rw[Am];exact hk)]
 ·rw[Ri λy hy=>by rw[hB1 y hy];omega,xc hB1]
theorem OX {x:Ar}{k:Nat}{l c:List AD}(h:PM x)(hc:x.cells[k]?=some c)(hE:Gd x (k:Int) l=0):
  PM (BW x (k:Int) l)/\(BW x (k:Int) l).cells[k]?=some (A8 (c++l))/\Ea x (k:Int) l=BW x (k:Int) l/\Be l=0/\BL (A8 (c++l))=BL c++BL l/\(A8 (c++l)).length<=c.length+l.length:=by
 have hk:=(List.getElem?_eq_some_iff.1 hc).1;have hB:Ea x (k:Int) l=BW x (k:Int) l:=by unfold Ea;rw[AF (λq=>q hE)]
 have hcc:Bg x (k:Int)=c:=by have:=RH hk;rw[this]at hc;cases hc;rfl
 unfold Gd at hE
 by_cases h1:JM x (k:Int) l=0
 rotate_left
 ·rw[AH h1]at hE;exact Ae hE h1
 rw[AF (λq=>q h1)]at hE
 by_cases h2:Ib x (k:Int) l=0
 rotate_left
 ·rw[AH h2]at hE;exact Ae hE h2
 rw[AF (λq=>q h2),mT]at hE;have ok:=av h1;rw[mS ok,hcc]at h2;rw[hcc]at hE;have hpc:=ok.pc;have hall:=ok.all;rw[hcc]at hpc hall;have hst:C4 x.side (B5 (BW x (k:Int) l))=false:=by
  cases hb:C4 x.side (B5 (BW x (k:Int) l))
  ·rfl
  ·rw[hb,AH rfl]at hE;cases hE
 rw[hst,AF (by decide)]at hE;have h64:¬ 64<(A8 (c++l)).length:=λq=>by rw[AH q]at hE;cases hE
 have hsg:B7 (c++l)=true:=by
  cases hb:B7 (c++l)
  ·rw[hb,AH rfl]at h2;cases h2
  ·rfl
 rw[hsg,AF (by decide)]at h2;have hrm:¬AT c+AT l>x.room:=λq=>by rw[AH q]at h2;cases h2
 have hside:=YQ h.bin;have hpos:∀y∈c++l,1<=y.mass:=λy hy=>(hall y hy).1
 have hcel:Cy x (A8 (c++l))=0:=by
  refine To (qG (λy hy=>?_) (by omega) (Ly hpos) ?_) (Y1 hsg IP) ?_
  ·obtain⟨z,hz,e⟩:=IP y hy
   rcases List.mem_append.1 hz with hz|hz
   ·exact⟨z,(GP hpc).2.1 z hz,e⟩
   ·exact⟨z,(GP ok.par).2.1 z hz,e⟩
  ·rw[Kp,Kh];omega
  ·rw[Kp,Kh];exact hrm
 have e:BW x (k:Int) l=HQ x k (A8 (c++l)):=by unfold BW;rw[hcc,Gk]
 refine⟨⟨?_,h.flow,h.side⟩,?_,hB,ok.par,?_,?_⟩
 ·refine ae h.bin rfl rfl rfl rfl (Jk ..) (λd hd=>?_) hst
  rw[e]at hd;exact OU (P:=λd=>Cy x d=0) (λc hc=>ZM (Hm h.bin c hc)) hcel d hd
 ·rw[e]
  show((x.cells.map A8).set k _)[k]?=_;rw[Nl (by rw[Am];exact hk)]
 ·rw[Ri λy hy=>by have:=hpos y hy;omega,Ku]
 ·have:=HJ (c++l)
  rw[Bk]at this;exact this
structure Hz (x:Ar):Prop where
 fr:PM x
 n:x.cells.length<=8
 ok:∀c∈x.cells,c.length<=1000/\∀y∈c,y.lite
theorem Hz.few {x:Ar}(h:Hz x):∀c∈x.cells,c.length<=1000000/\∀y∈c,y.few:=λc hc=>⟨by have:=(h.ok c hc).1;omega,λy hy=>((h.ok c hc).2 y hy).1⟩
theorem TT {x:Ar}{l c:List AD}(h:Hz x)(hc:x.cells[0]?=some c)(hE:Gd x 0 l=0)(hl:∀y∈l,y.lite)(hn:c.length+l.length<=1000):Hz (BW x 0 l):=by
 have hf:=OX (k:=0) h.fr hc hE;have hcc:Bg x 0=c:=by have:=RH (x:=x) (k:=0) (List.getElem?_eq_some_iff.1 hc).1;rw[show((0:Nat):Int)=0 from rfl]at this;rw[this]at hc;cases hc;rfl
 refine⟨hf.1,by rw[show(BW x 0 l).cells.length=x.cells.length from Jk ..];exact h.n,?_⟩;refine OU (P:=λc=>c.length<=1000/\∀y∈c,y.lite) (λd hd=>?_) ?_
 ·have:=h.ok d hd
  exact⟨BR (HJ d) this.1,λy hy=>Ug (IP y hy) this.2⟩
 ·rw[hcc]
  refine⟨by have:=hf.2.2.2.2.2;omega,λy hy=>Ug (IP y hy) λz hz=>?_⟩;rcases List.mem_append.1 hz with hz|hz
  ·exact(h.ok c (Aw hc)).2 z hz
  ·exact hl z hz
theorem Xv {x:Ar}{c A B:List AD}(h:Hz x)(hc:x.cells[0]?=some c)(hu:BL c=A++B)(hA:(A8 A).length<=64):Hz (Bq x 0 (A.length:Int)):=by
 have hd:=Qd (k:=0) h.fr hc hu hA;have hk:=(List.getElem?_eq_some_iff.1 hc).1;have h1:=ZC (k:=0) (m:=(A.length:Int)) h.fr.bin hk (by omega);have hkk:=xQ (x:=x) (i:=((0:Nat):Int)) (m:=(A.length:Int)) (RH hk);refine⟨hd.2.2.2.2,by rw[show(Bq x 0 (A.length:Int)).cells.length=x.cells.length from Jk ..];exact h.n,λd hq=>?_⟩;obtain⟨e,he,hle⟩:=oc h1 d hq;obtain⟨g,hg,hke⟩:=hkk.1 d hq;exact⟨BR hle (h.ok e he).1,λy hy=>Ug (hke y hy) (h.ok g hg).2⟩
structure iI (x:Ar)(c0 p q:List AD):Prop where
 n1:Hz (BW x 0 p)
 n2:Hz (BW (BW x 0 p) 0 q)
 b1:Ea x 0 p=BW x 0 p
 b2:Ea (BW x 0 p) 0 q=BW (BW x 0 p) 0 q
 e3:FN (BW (BW x 0 p) 0 q) 0 (AT c0)=0
 l3:EF (BW (BW x 0 p) 0 q) 0 (AT c0)=A8 c0
 n3:Hz (Bq (BW (BW x 0 p) 0 q) 0 (AT c0))
 e4:FN (Bq (BW (BW x 0 p) 0 q) 0 (AT c0)) 0 (AT p)=0
 l4:EF (Bq (BW (BW x 0 p) 0 q) 0 (AT c0)) 0 (AT p)=A8 p
 n4:Hz (Bq (Bq (BW (BW x 0 p) 0 q) 0 (AT c0)) 0 (AT p))
 e5:FN (Bq (Bq (BW (BW x 0 p) 0 q) 0 (AT c0)) 0 (AT p)) 0 (AT q)=0
 l5:EF (Bq (Bq (BW (BW x 0 p) 0 q) 0 (AT c0)) 0 (AT p)) 0 (AT q)=A8 q
 c5:(Bq (Bq (Bq (BW (BW x 0 p) 0 q) 0 (AT c0)) 0 (AT p)) 0 (AT q)).cells[0]?=some []
 pp:Be p=0
 pq:Be q=0
theorem que {x:Ar}{c0 p q:List AD}(h:Hz x)(hc:x.cells[0]?=some c0)(h6:c0.length<=6)(hp8:p.length<=8\/64<p.length)(hq8:q.length<=8\/64<q.length)(hp:∀y∈p,y.lite)(hq:∀y∈q,y.lite)(h1:Gd x 0 p=0)(h2:Gd (BW x 0 p) 0 q=0):iI x c0 p q:=by
 obtain⟨a1,a2,a3,a4,a5,a6⟩:=OX (k:=0) h.fr hc h1;have p64:=(GP a4).1;have n1:=TT h hc h1 hp (by omega);obtain⟨b1,b2,b3,b4,b5,b6⟩:=OX (k:=0) n1.fr a2 h2;have q64:=(GP b4).1;have n2:=TT n1 a2 h2 hq (by omega);have hm0:∀y∈c0,1<=y.mass:=λy hy=>((DS (GN (Hm h.fr.bin c0 (Aw hc))).1).2.1 y hy).1
 have hmp:∀y∈p,1<=y.mass:=λy hy=>((DS a4).2.1 y hy).1
 have hmq:∀y∈q,1<=y.mass:=λy hy=>((DS b4).2.1 y hy).1
 have l0:((BL c0).length:Int)=AT c0:=Jp λy hy=>by have:=hm0 y hy;omega
 have lp:((BL p).length:Int)=AT p:=Jp λy hy=>by have:=hmp y hy;omega
 have lq:((BL q).length:Int)=AT q:=Jp λy hy=>by have:=hmq y hy;omega
 have hu:BL (A8 (A8 (c0++p)++q))=BL c0++(BL p++BL q):=by rw[b5,a5,Di]
 have g0:=M4 hm0;have gp:=M4 hmp;have gq:=M4 hmq;have w0:(A8 (BL c0)).length<=64:=by rw[g0];have:=HJ c0;omega
 have wp:(A8 (BL p)).length<=64:=by rw[gp];have:=HJ p;omega
 have wq:(A8 (BL q)).length<=64:=by rw[gq];have:=HJ q;omega
 have n3:=Xv n2 b2 hu w0;obtain⟨d1,d2,d3,d4,d5⟩:=Qd (k:=0) n2.fr b2 hu w0;have n4:=Xv n3 d3 d4 wp;obtain⟨e1,e2,e3,e4,e5⟩:=Qd (k:=0) n3.fr d3 d4 wp;have e4':BL (A8 (BL q))=BL q++[]:=by rw[DE];exact e4
 obtain⟨f1,f2,f3,f4,f5⟩:=Qd (k:=0) n4.fr e3 e4' wq;rw[l0]at d1 d2 d3 n3;rw[l0,lp]at e1 e2 n4;rw[l0,lp,lq]at f1 f2 f3;exact⟨n1,n2,a3,b3,d1,by rw[<-g0];exact d2,n3,e1,by rw[<-gp];exact e2,n4,f1,by rw[<-gq];exact f2,f3,a4,b4⟩
abbrev Ff:Dr:=[(10,[0,1,2,3,4,5,6,7,8,9,10],[11]),(11,[0,1,2,3,4,5,6,7,8,9,10],[11]),(12,[0,1,2,3,4,5,6,7,8,9,10],[11])]
open Go.Proofs Go.RowKit
set_option maxRecDepth 20000
set_option maxHeartbeats 4000000
theorem Q0 (x:Ar):∃a b c d e,x.D=.agg [a,b,c,d,.sl false 1 e]:=⟨_,_,_,_,_,rfl⟩
theorem u5 (ha:AJ C0 10 [] (As true))(x:Ar)(hl:x.cells.length<=9223372036854775807)(hs:∀c∈x.cells,c.length<=9223372036854775807/\∀y∈c,y.shs.length<=9223372036854775807)(p q:List AD)(hlp:p.length<=9223372036854775807)(hsp:∀y∈p,y.shs.length<=9223372036854775807)(hlq:q.length<=9223372036854775807)(hsq:∀y∈q,y.shs.length<=9223372036854775807):AJ C0 7 [x.D,AY false p,AY false q] (As true):=by
 refine Aj.walk w1 yy rfl λF=>?_
 have cM:=yS x hl hs;have cp:=Ui false p hlp hsp;have cq:=Ui false q hlq hsq;have hk:=@vP x;have hkp:=@UC p;have hkq:=@UC q;have pX:AA x.D:=AI;have cX:AU x.D:=AI;have pY:AA x.fr.D:=AI;have cY:AU x.fr.D:=AI;have cF1:=fv x.fr;have cLv:=U3 x.fr 0;have hcells:x.fr.cells=x.cells:=rfl;have hYD:x.fr.D=.agg [str (sb x.flow),i64 x.core,i64 x.room,i64 999999999,.sl false 1 (x.cells.map (AY false))]:=rfl;have eX:(((x.cells.map (AY false)).length:Nat):Int)=(x.cells.length:Int):=by rw[Am]
 have hat0:∀c,x.cells[0]?=some c->(x.cells.map (AY false))[0]?=some (.sl false 3 (c.map AD.D)):=λc h=>by rw[A7,h];rfl
 rw[r6]at cM pX cX⊢;rw[hYD]at cF1 cLv pY cY;obtain⟨XD,hXD⟩:∃X,x.cells.map (AY false)=X:=⟨_,rfl⟩
 rw[hXD]at cM pX cX cF1 cLv pY cY eX hat0⊢;unfold Ez at*;cases hsh:PV x
 ·rw[hsh]at cM
  refine AG Ff kB cM ha AB AB AB AB ?_;exact AK rfl AA.out
 rw[hsh]at cM;cases hsp2:Fu p
 ·rw[hsp2]at cp
  refine AG Ff kB cM cp ha AB AB AB ?_;exact AK rfl AA.out
 rw[hsp2]at cp;cases hsq2:Fu q
 ·rw[hsq2]at cq
  refine AG Ff kB cM cp cq ha AB AB ?_;exact AK rfl AA.out
 rw[hsq2]at cq;cases hf:BF (sb x.flow) ⟨#[109,97,115,115]⟩
 ·refine AG Ff (At hf kT kF) cM cp cq ha AB AB ?_
  exact AK rfl AA.out
 have hv:=hk hsh;obtain⟨hp1,hp2,hp3⟩:=hkp hsp2;obtain⟨hq1,hq2,hq3⟩:=hkq hsq2;have hN:=(vN hv.sm.bin).2.1;have hN4:=hv.sm.n;have hni:Hz x.fr:=⟨⟨r7 hv.sm.bin,hf,rfl⟩,by rw[hcells];omega,λc hc=>⟨by have:=hv.sm.len c hc;omega,λy hy=>(hv.few c hc y hy).1⟩⟩
 obtain⟨c0,hc0⟩:=CK (l:=x.cells) (i:=0) hN;have hm0:=Aw hc0;have cF1:=cF1 (by rw[hcells];omega) (λc hc=>⟨by have:=hv.sm.len c hc;omega,λy hy=>(hv.few c hc y hy).1.1⟩) 0 p (by omega) λy hy=>(hp1 y hy).1.1
 have hp0:=DS (GN (Hm hv.sm.bin c0 hm0)).1;have cLv:=cLv c0 hc0 hp0.2.2 (by rw[hcells];omega);have hat:=hat0 c0 hc0;have hz:J4.D=.agg [str (sb []),i64 0,i64 0,i64 0,.sl false 1 []]:=rfl;refine sR 0 ?_;refine DU ⟨[(1,AY false p),(2,AY false q),(3,.optr 0 0 5 0 0)],[⟨0,0,24,5,[.agg [str (sb x.flow),i64 x.core,i64 x.room,i64 x.side,.sl false 1 XD]]⟩],100⟩ ?_ ?_
 ·refine AG Ff (At hf kT kF) cM cp cq AB AB AB ?_
  exact⟨trivial,AL⟩
 refine DU ⟨[(1,AY false p),(2,AY false q),(3,.optr 0 0 5 0 0)],[⟨0,0,24,5,[.agg [str (sb x.flow),i64 x.core,i64 x.room,i64 999999999,.sl false 1 XD]]⟩],200⟩ ?_ ?_
 ·refine AG Ff kB AB AB AB AB AB AB ?_
  exact⟨trivial,AL⟩
 have sp:=λh:Be p=0=>DS h
 obtain⟨b1,b2,b3,b4,b5,hb⟩:=Q0 (Ea x.fr 0 p);have pB:AA (Ea x.fr 0 p).D:=AI;have cB:AU (Ea x.fr 0 p).D:=AI;rw[hb]at cF1 pB cB
 by_cases e1:Gd x.fr 0 p=0
 rotate_left
 ·have k1:(Gd x.fr 0 p != 0)=true:=Gs e1
  refine AG Ff k1 cF1 ha AB AB AB AB ?_;exact AK rfl AA.out
 rw[e1]at cF1;have z0:((0:Int) != 0)=false:=rfl;have n1:=TT hni hc0 e1 (λy hy=>(hp1 y hy).1) (by have:=(GP (OX (k:=0) hni.fr hc0 e1).2.2.2.1).1;have:=hv.sm.len c0 hm0;omega);have hfb:Ea x.fr 0 p=BW x.fr 0 p:=(OX (k:=0) hni.fr hc0 e1).2.2.1;have cF2:=fv (BW x.fr 0 p) (by have:=n1.n;omega) n1.few 0 q (by omega) λy hy=>(hq1 y hy).1.1
 rw[<-hfb,hb]at cF2;obtain⟨d1,d2,d3,d4,d5,hd⟩:=Q0 (Ea (Ea x.fr 0 p) 0 q);have pD:AA (Ea (Ea x.fr 0 p) 0 q).D:=AI;have cD:AU (Ea (Ea x.fr 0 p) 0 q).D:=AI;rw[hd]at cF2 pD cD;refine DU ⟨[(1,AY false p),(2,AY false q),(3,.optr 0 0 5 0 0),(7,.optr 406 206 5 0 0),(8,i64 0)],[⟨406,206,24,5,[.agg [b1,b2,b3,b4,.sl false 1 b5]]⟩,⟨0,0,24,5,[.agg [str (sb x.flow),i64 x.core,i64 x.room,i64 999999999,.sl false 1 XD]]⟩],300⟩ ?_ ?_
 ·refine AG Ff z0 cF1 AB AB AB AB AB ?_
  exact⟨trivial,AL⟩
 refine DU ⟨[(1,AY false p),(2,AY false q),(3,.optr 0 0 5 0 0),(7,.optr 406 206 5 0 0)],[⟨406,206,24,5,[.agg [b1,b2,b3,b4,.sl false 1 b5]]⟩,⟨0,0,24,5,[.agg [str (sb x.flow),i64 x.core,i64 x.room,i64 999999999,.sl false 1 XD]]⟩],400⟩ ?_ ?_
 ·refine AG Ff z0 AB AB AB AB AB AB ?_
  exact⟨trivial,AL⟩
 by_cases e2:Gd (Ea x.fr 0 p) 0 q=0
 rotate_left
 ·have k1:(Gd (Ea x.fr 0 p) 0 q != 0)=true:=Gs e2
  refine AG Ff k1 cF2 ha AB AB AB AB ?_;exact AK rfl AA.out
 rw[e2]at cF2;rw[hfb]at e2;have Q:=que hni hc0 (hv.sm.len c0 hm0) hp3 hq3 (λy hy=>(hp1 y hy).1) (λy hy=>(hq1 y hy).1) e1 e2;refine DU ⟨[(1,AY false p),(2,AY false q),(3,.optr 0 0 5 0 0),(9,.optr 706 406 5 0 0),(10,i64 0)],[⟨706,406,24,5,[.agg [d1,d2,d3,d4,.sl false 1 d5]]⟩,⟨0,0,24,5,[.agg [str (sb x.flow),i64 x.core,i64 x.room,i64 999999999,.sl false 1 XD]]⟩],500⟩ ?_ ?_
 ·refine AG Ff z0 cF2 AB AB AB AB AB ?_
  exact⟨trivial,AL⟩
 refine DU ⟨[(1,AY false p),(2,AY false q),(3,.optr 0 0 5 0 0),(9,.optr 706 406 5 0 0)],[⟨706,406,24,5,[.agg [d1,d2,d3,d4,.sl false 1 d5]]⟩,⟨0,0,24,5,[.agg [str (sb x.flow),i64 x.core,i64 x.room,i64 999999999,.sl false 1 XD]]⟩],600⟩ ?_ ?_
 ·refine AG Ff z0 AB AB AB AB AB AB ?_
  exact⟨trivial,AL⟩
 have hfb2:Ea (Ea x.fr 0 p) 0 q=BW (BW x.fr 0 p) 0 q:=by rw[hfb];exact Q.b2
 rw[hfb2]at hd;have c3:=Vg (BW (BW x.fr 0 p) 0 q) (by have:=Q.n2.n;omega) Q.n2.few 0 (AT c0);have c4:=Vg (Bq (BW (BW x.fr 0 p) 0 q) 0 (AT c0)) (by have:=Q.n3.n;omega) Q.n3.few 0 (AT p);have c5:=Vg (Bq (Bq (BW (BW x.fr 0 p) 0 q) 0 (AT c0)) 0 (AT p)) (by have:=Q.n4.n;omega) Q.n4.few 0 (AT q);rw[Q.e3,UP Q.e3,UQ Q.e3,Q.l3]at c3;rw[Q.e4,UP Q.e4,UQ Q.e4,Q.l4]at c4;rw[Q.e5,UP Q.e5,UQ Q.e5,Q.l5]at c5;have hN5:(Bq (Bq (Bq (BW (BW x.fr 0 p) 0 q) 0 (AT c0)) 0 (AT p)) 0 (AT q)).cells.length=x.cells.length:=(Jk ..).trans ((Jk ..).trans ((Jk ..).trans ((Jk ..).trans ((Jk ..).trans rfl))));have hat5:((Bq (Bq (Bq (BW (BW x.fr 0 p) 0 q) 0 (AT c0)) 0 (AT p)) 0 (AT q)).cells.map (AY false))[0]?=some (.sl false 3 []):=by rw[A7,Q.c5];rfl
 obtain⟨f1,f2,f3,f4,f5,hf3⟩:=Q0 (Bq (BW (BW x.fr 0 p) 0 q) 0 (AT c0));have pf:AA (Bq (BW (BW x.fr 0 p) 0 q) 0 (AT c0)).D:=AI;have cf:AU (Bq (BW (BW x.fr 0 p) 0 q) 0 (AT c0)).D:=AI;obtain⟨g1,g2,g3,g4,g5,hg⟩:=Q0 (Bq (Bq (BW (BW x.fr 0 p) 0 q) 0 (AT c0)) 0 (AT p));have pg:AA (Bq (Bq (BW (BW x.fr 0 p) 0 q) 0 (AT c0)) 0 (AT p)).D:=AI;have cg:AU (Bq (Bq (BW (BW x.fr 0 p) 0 q) 0 (AT c0)) 0 (AT p)).D:=AI;obtain⟨H5,hH5⟩:∃H,Bq (Bq (Bq (BW (BW x.fr 0 p) 0 q) 0 (AT c0)) 0 (AT p)) 0 (AT q)=H:=⟨_,rfl⟩
 have ph:AA H5.D:=AI;have ch:AU H5.D:=AI;rw[hH5]at c5 hN5 hat5;have hh:H5.D=.agg [str (sb H5.flow),i64 H5.core,i64 H5.room,i64 H5.side,.sl false 1 (H5.cells.map (AY false))]:=rfl;have e5:(((H5.cells.map (AY false)).length:Nat):Int)=(x.cells.length:Int):=by rw[Am,hN5]
 rw[hd,hf3]at c3;rw[hf3,hg]at c4;rw[hg,hh]at c5;rw[hf3]at pf cf;rw[hg]at pg cg;rw[hh]at ph ch;obtain⟨HD,hHD⟩:∃T,H5.cells.map (AY false)=T:=⟨_,rfl⟩
 rw[hHD]at c5 hat5 e5 ph ch;have hpp:=DS Q.pp;have hpq:=DS Q.pq;have cMp:=PE false p hpp.2.2;have cMq:=PE false q hpq.2.2;have cN0:=UB false c0 (by omega) hp0.2.1;have cNp:=UB false p (by omega) hpp.2.1;have cNq:=UB false q (by omega) hpq.2.1;have sm:=λ(l:List AD) (h:Be l=0)=>by
  have hpl:=DS h;obtain⟨g1,g2⟩:=fk (l:=l) λy hy=>⟨by have:=(hpl.2.1 y hy).1;omega,(hpl.2.1 y hy).2⟩
  exact pN false false (A8 l) (by omega) λy hy=>(g2 y hy).2.2
 have cS0:=sm c0 (GN (Hm hv.sm.bin c0 hm0)).1;have cSp:=sm p Q.pp;have cSq:=sm q Q.pq;refine DU ⟨[(1,AY false p),(2,AY false q),(3,.optr 0 0 5 0 0),(11,.optr 1008 608 5 0 0),(12,AY false (A8 c0)),(13,i64 0)],[⟨1008,608,24,5,[.agg [f1,f2,f3,f4,.sl false 1 f5]]⟩,⟨0,0,24,5,[.agg [str (sb x.flow),i64 x.core,i64 x.room,i64 999999999,.sl false 1 XD]]⟩],700⟩ ?_ ?_
 ·refine V5 w1 1000 [0,1,2,3,4,5,6,7,8,9,10] [11] 9 8 [4,2,1,0,3,5,8] (by kernel_rfl) (by kernel_rfl) ?_
  refine An ?_
  repeat(first|(refine EX rfl rfl rfl rfl ?_;first|refine DW (λ_ _=>rfl) ?_|refine Gv rfl rfl rfl (by(try dsimp only);(try simp only[]);exact rfl) ?_)|(refine JB rfl rfl rfl ?_;first|refine I9 (λ_ _=>rfl) ?_|refine JG rfl rfl rfl (by(try dsimp only);(try simp only[]);exact rfl) ?_)|(refine JA rfl rfl rfl rfl ?_;refine DW (λ_ _=>rfl) ?_))
  try refine I4 ?_
  refine An ?_
  try simp only[]
  refine EX rfl rfl rfl rfl ?_;refine An ?_;refine And.intro (by exact Bx) ?_;refine An ?_;refine BU.same _ cLv AI ?_;refine An ?_
  repeat(first|(refine EX rfl rfl rfl rfl ?_;first|refine DW (λ_ _=>rfl) ?_|refine Gv rfl rfl rfl (by(try dsimp only);(try simp only[]);exact rfl) ?_)|(refine JB rfl rfl rfl ?_;first|refine I9 (λ_ _=>rfl) ?_|refine JG rfl rfl rfl (by(try dsimp only);(try simp only[]);exact rfl) ?_)|(refine JA rfl rfl rfl rfl ?_;refine DW (λ_ _=>rfl) ?_))
  try refine I4 ?_
  refine An ?_
  try simp only[]
  refine EX rfl rfl rfl rfl ?_;refine An ?_;refine And.intro (by exact Bx) ?_;refine An ?_;refine BU.same _ c3 AI ?_;refine An ?_
  repeat(first|(refine EX rfl rfl rfl rfl ?_;first|refine DW (λ_ _=>rfl) ?_|refine Gv rfl rfl rfl (by(try dsimp only);(try simp only[]);exact rfl) ?_)|(refine JB rfl rfl rfl ?_;first|refine I9 (λ_ _=>rfl) ?_|refine JG rfl rfl rfl (by(try dsimp only);(try simp only[]);exact rfl) ?_)|(refine JA rfl rfl rfl rfl ?_;refine DW (λ_ _=>rfl) ?_))
  try refine I4 ?_
  refine An ?_
  try simp only[]
  refine And.intro ⟨trivial,.inl AB⟩ ?_;refine AG Ff kB AB AB AB AB AB AB ?_;exact⟨trivial,AL⟩
 refine DU ⟨[(1,AY false p),(2,AY false q),(3,.optr 0 0 5 0 0),(14,.optr 1108 708 5 0 0),(12,AY false (A8 c0)),(13,i64 0),(15,AY false (A8 p)),(16,i64 0)],[⟨1108,708,24,5,[.agg [g1,g2,g3,g4,.sl false 1 g5]]⟩,⟨0,0,24,5,[.agg [str (sb x.flow),i64 x.core,i64 x.room,i64 999999999,.sl false 1 XD]]⟩],800⟩ ?_ ?_
 ·refine V5 w1 1100 [0,1,2,3,4,5,6,7,8,9,10] [11] 9 8 [4,2,1,0,3,5,8] (by kernel_rfl) (by kernel_rfl) ?_
  refine An ?_
  repeat(first|(refine EX rfl rfl rfl rfl ?_;first|refine DW (λ_ _=>rfl) ?_|refine Gv rfl rfl rfl (by(try dsimp only);(try simp only[]);exact rfl) ?_)|(refine JB rfl rfl rfl ?_;first|refine I9 (λ_ _=>rfl) ?_|refine JG rfl rfl rfl (by(try dsimp only);(try simp only[]);exact rfl) ?_)|(refine JA rfl rfl rfl rfl ?_;refine DW (λ_ _=>rfl) ?_))
  try refine I4 ?_
  refine An ?_
  try simp only[]
  refine EX rfl rfl rfl rfl ?_;refine An ?_;refine And.intro (by exact Bx) ?_;refine An ?_;refine BU.same _ cMp AI ?_;refine An ?_
  repeat(first|(refine EX rfl rfl rfl rfl ?_;first|refine DW (λ_ _=>rfl) ?_|refine Gv rfl rfl rfl (by(try dsimp only);(try simp only[]);exact rfl) ?_)|(refine JB rfl rfl rfl ?_;first|refine I9 (λ_ _=>rfl) ?_|refine JG rfl rfl rfl (by(try dsimp only);(try simp only[]);exact rfl) ?_)|(refine JA rfl rfl rfl rfl ?_;refine DW (λ_ _=>rfl) ?_))
  try refine I4 ?_
  refine An ?_
  try simp only[]
  refine EX rfl rfl rfl rfl ?_;refine An ?_;refine And.intro (by exact Bx) ?_;refine An ?_;refine BU.same _ c4 AI ?_;refine An ?_
  repeat(first|(refine EX rfl rfl rfl rfl ?_;first|refine DW (λ_ _=>rfl) ?_|refine Gv rfl rfl rfl (by(try dsimp only);(try simp only[]);exact rfl) ?_)|(refine JB rfl rfl rfl ?_;first|refine I9 (λ_ _=>rfl) ?_|refine JG rfl rfl rfl (by(try dsimp only);(try simp only[]);exact rfl) ?_)|(refine JA rfl rfl rfl rfl ?_;refine DW (λ_ _=>rfl) ?_))
  try refine I4 ?_
  refine An ?_
  try simp only[]
  refine And.intro ⟨trivial,.inl AB⟩ ?_;refine AG Ff kB AB AB AB AB AB AB ?_;exact⟨trivial,AL⟩
 refine DU ⟨[(1,AY false p),(2,AY false q),(3,.optr 0 0 5 0 0),(17,.optr 1208 808 5 0 0),(12,AY false (A8 c0)),(13,i64 0),(15,AY false (A8 p)),(16,i64 0),(18,AY false (A8 q)),(19,i64 0)],[⟨1208,808,24,5,[.agg [str (sb H5.flow),i64 H5.core,i64 H5.room,i64 H5.side,.sl false 1 HD]]⟩,⟨0,0,24,5,[.agg [str (sb x.flow),i64 x.core,i64 x.room,i64 999999999,.sl false 1 XD]]⟩],900⟩ ?_ ?_
 ·refine V5 w1 1200 [0,1,2,3,4,5,6,7,8,9,10] [11] 9 8 [4,2,1,0,3,5,8] (by kernel_rfl) (by kernel_rfl) ?_
  refine An ?_
  repeat(first|(refine EX rfl rfl rfl rfl ?_;first|refine DW (λ_ _=>rfl) ?_|refine Gv rfl rfl rfl (by(try dsimp only);(try simp only[]);exact rfl) ?_)|(refine JB rfl rfl rfl ?_;first|refine I9 (λ_ _=>rfl) ?_|refine JG rfl rfl rfl (by(try dsimp only);(try simp only[]);exact rfl) ?_)|(refine JA rfl rfl rfl rfl ?_;refine DW (λ_ _=>rfl) ?_))
  try refine I4 ?_
  refine An ?_
  try simp only[]
  refine EX rfl rfl rfl rfl ?_;refine An ?_;refine And.intro (by exact Bx) ?_;refine An ?_;refine BU.same _ cMq AI ?_;refine An ?_
  repeat(first|(refine EX rfl rfl rfl rfl ?_;first|refine DW (λ_ _=>rfl) ?_|refine Gv rfl rfl rfl (by(try dsimp only);(try simp only[]);exact rfl) ?_)|(refine JB rfl rfl rfl ?_;first|refine I9 (λ_ _=>rfl) ?_|refine JG rfl rfl rfl (by(try dsimp only);(try simp only[]);exact rfl) ?_)|(refine JA rfl rfl rfl rfl ?_;refine DW (λ_ _=>rfl) ?_))
  try refine I4 ?_
  refine An ?_
  try simp only[]
  refine EX rfl rfl rfl rfl ?_;refine An ?_;refine And.intro (by exact Bx) ?_;refine An ?_;refine BU.same _ c5 AI ?_;refine An ?_
  repeat(first|(refine EX rfl rfl rfl rfl ?_;first|refine DW (λ_ _=>rfl) ?_|refine Gv rfl rfl rfl (by(try dsimp only);(try simp only[]);exact rfl) ?_)|(refine JB rfl rfl rfl ?_;first|refine I9 (λ_ _=>rfl) ?_|refine JG rfl rfl rfl (by(try dsimp only);(try simp only[]);exact rfl) ?_)|(refine JA rfl rfl rfl rfl ?_;refine DW (λ_ _=>rfl) ?_))
  try refine I4 ?_
  refine An ?_
  try simp only[]
  refine And.intro ⟨trivial,.inl AB⟩ ?_;refine AG Ff kB AB AB AB AB AB AB ?_;exact⟨trivial,AL⟩
 have w0:IntKind.i64.wrap (0+0)=0:=rfl;have m1:((x.cells.length:Int)==(x.cells.length:Int))=true:=beq_self_eq_true _;have ln0:([]:List D).length=0:=rfl;have z1:(((0:Nat):Int)==0)=true:=rfl;refine AG Ff (BZ w0 z0 kT kF) hat cN0 cS0 cNp cSp cNq ?_;refine AG Ff (CJ e5 eX m1 ln0 z1 kT kF) cSq hat5 ha AB AB AB ?_;exact AK rfl AA.out
def tA:List UInt8:=[97]
def tB:List UInt8:=[98]
def Ex:List UInt8:=[119,104,101,97,116]
def Mw:List UInt8:=[102,117,110,110,101,108]
def Co (m:Int):AD:=⟨Ex,m,[⟨tA,[49]⟩]⟩
def DA (m:Int):AD:=⟨Ex,m,[⟨tA,[49,47,50]⟩,⟨tB,[49,47,50]⟩]⟩
def FE (x:AD):D:=.agg [str (sb x.grain),i64 x.mass,.sl true 2 (x.shs.map Av.D)]
def gx:D:=.agg [str (sb Mw),i64 4,i64 30,i64 12,.sl true 1 [.sl true 3 [FE (Co 10),FE (DA 6)],.sl true 3 [FE (Co 5)]]]
theorem xT:AJ C0 41 [] gx:=CH Da 400 40 (by kernel_rfl)
def Lo (d d':D):Prop:=∀(ρ:Lk) (O:Nat->Prop) (w:World) (v:Value),AW ρ O w d v->AW ρ O w d' v
theorem Lo.refl (d:D):Lo d d:=λ_ _ _ _ h=>h
theorem Lo.agg {ds ds':List D}(hl:ds.length=ds'.length)(h:∀(i:Nat) (d d':D),ds[i]?=some d->ds'[i]?=some d'->Lo d d'):Lo (.agg ds) (.agg ds'):=λρ O w v hv=>by
 cases hv with
 |agg hn ho hd=>
  refine .agg (hn.trans hl) ho λi d' hd'=>?_
  have hi:i<ds.length:=by rw[hl];exact(List.getElem?_eq_some_iff.1 hd').1
  exact h i _ d' (BG hi) hd' _ _ _ _ (hd i _ (BG hi))
theorem Lo.tup {ds ds':List D}(hl:ds.length=ds'.length)(h:∀(i:Nat) (d d':D),ds[i]?=some d->ds'[i]?=some d'->Lo d d'):Lo (.tup ds) (.tup ds'):=λρ O w v hv=>by
 cases hv with
 |tup hn hd=>
  refine .tup (hn.trans hl) λi d' hd'=>?_
  have hi:i<ds.length:=by rw[hl];exact(List.getElem?_eq_some_iff.1 hd').1
  exact h i _ d' (BG hi) hd' _ _ _ _ (hd i _ (BG hi))
def N4 (e e':D):Prop:=e'.cells.length=e.cells.length/\∀(j:Nat) (d d':D),e.cells[j]?=some d->e'.cells[j]?=some d'->Lo d d'
theorem Lo.sl {b:Bool}{sz:Nat}{es es':List D}(hl:es.length=es'.length)(hc:∀(i:Nat) (e e':D),es[i]?=some e->es'[i]?=some e'->N4 e e'):Lo (.sl b sz es) (.sl false sz es'):=λρ O w v hv=>by
 cases hv with
 |nil=>
  have:es'=[]:=List.length_eq_zero_iff.1 hl.symm
  subst this;exact .nil sz
 |emp a=>
  have:es'=[]:=List.length_eq_zero_iff.1 hl.symm
  subst this;exact .emp a
 |sl f hl' hc' hO hb hz hcell ho h=>
  have hx:∀(i:Nat) (e':D),es'[i]?=some e'->∃e,es[i]?=some e/\N4 e e':=λi e' he'=>by
   have hi:i<es.length:=by rw[hl];exact(List.getElem?_eq_some_iff.1 he').1
   exact⟨_,BG hi,hc i _ e' (BG hi) he'⟩
  refine .sl f (hl.symm.trans hl') hc' hO hb (λi e' he'=>?_) hcell ho λi e' j d' he' hd'=>?_
  ·obtain⟨e,he,h1,h2⟩:=hx i e' he'
   rw[h1];exact hz i e he
  ·obtain⟨e,he,h1,h2⟩:=hx i e' he'
   have hj:j<e.cells.length:=by rw[<-h1];exact(List.getElem?_eq_some_iff.1 hd').1
   exact h2 j _ d' (BG hj) hd' _ _ _ _ (h i e j _ he (BG hj))
def loosen:Nat->D->D
 | 0,d=>d
 |n+1,.agg ds=>.agg (ds.map (loosen n))
 |n+1,.tup ds=>.tup (ds.map (loosen n))
 |n+1,.sl _ sz es=>.sl false sz (es.map (loosen n))
 |_+1,d=>d
theorem Uh {f:D->D}(hf:∀d,Lo d (f d))(ds:List D)(i:Nat)(d d':D)(h:ds[i]?=some d)(h':(ds.map f)[i]?=some d'):Lo d d':=by
 rw[A7,h]at h';cases h';exact hf d
theorem Xt:∀n:Nat,(∀d,Lo d (loosen n d))/\∀e,N4 e (loosen n e)
 | 0=>⟨λd=>.refl d,λe=>⟨rfl,λj d d' h h'=>by
   have:d=d':=by
    have:=h.symm.trans h'
    injection this
   subst this;exact .refl d⟩⟩
 |n+1=>by
  obtain⟨h1,h2⟩:=Xt n;have hs:∀(es:List D) (i:Nat) (e e':D),es[i]?=some e->(es.map (loosen n))[i]?=some e'->N4 e e':=λes i e e' h h'=>by
   rw[A7,h]at h';cases h';exact h2 e
  have hL:∀d,Lo d (loosen (n+1) d):=λd=>by
   cases d with
   |agg ds=>exact .agg (by simp) (Uh h1 ds)
   |tup ds=>exact .tup (by simp) (Uh h1 ds)
   |sl b sz es=>exact .sl (by simp) (hs es)
   |_=>exact .refl _
  refine⟨hL,λe=>?_⟩;have one:e.cells=[e]->(loosen (n+1) e).cells=[loosen (n+1) e]->N4 e (loosen (n+1) e):=λa b=>by
   refine⟨by rw[a,b];rfl,λj d d' h h'=>?_⟩;rw[a]at h;rw[b]at h'
   match j with
   | 0=>cases h;cases h';exact hL e
   |j+1=>cases h
  cases e with
  |agg ds=>exact⟨by simp[loosen,D.cells],λj d d' h h'=>Uh h1 ds j d d' h h'⟩
  |_=>exact one rfl rfl
theorem AJ.loosen {C:BD}{f:Nat}{args:List D}{d:D}(h:AJ C f args d)(n:Nat):AJ C f args (loosen n d):=
 ⟨h.1,λX w vs a b c e g=>(h.2 X w vs a b c e g).mono λ_ _ ⟨v,d,h1,h2,h3,h4⟩=>⟨v,_,h1,h2,rfl,by subst h3;exact(Xt n).1 _ _ _ _ _ h4⟩⟩
section
variable {C:BD} {F B:Ac} {ops:Array Oper} {rd:Option Nat}
theorem lY {K1:St->Prop}{Q:Exit->Act->World->Prop}{l2:List Nat}(h2:∀(s1:St) (ρ:Lk) (a:Act) (w:World),K1 s1->Bl C F ρ s1 a w->wpOps C.P ops Q l2 a w):∀(l:List Nat) (a:Act) (w:World),wpOps C.P ops (LW C F K1) l a w->wpOps C.P ops Q (l++l2) a w:=by
 intro l
 induction l with
 |nil=>rintro a w ⟨_,s',ρ',hq,hs'⟩;exact h2 s' ρ' a w hq hs'
 |cons i l ih=>
  intro a w h;simp only[Em,wpOps]at h⊢;cases ho:ops[i]? with
  |none=>simp only[ho]at h⊢;exact ih a w h
  |some o=>
   simp only[ho]at h⊢;split
   ·rename_i hw
    rw[AH hw]at h;rcases h with h|⟨_,⟨a0,w0,h0⟩⟩
    ·refine .inl ?_
     unfold Oper.wp Oper.upon at h⊢;split<;>rename_i hr<;>simp only[hr]at h
     ·exact ih _ _ h
     ·exact ih _ _ h
     ·exact ih _ _ h
     ·refine Calls.mono h λe w'' he=>?_
      cases e with
      |returned v=>exact ih _ _ he
      |panicked c=>cases he.1
      |outgrown=>obtain⟨a0,w0,h0⟩:=he;cases h0.1
     ·exact Rows.mono h λ_ _ he=>ih _ _ he
     ·cases h.1
    ·cases h0.1
   ·rename_i hw
    rw[AF hw]at h;exact ih _ _ h
theorem zF {K:St->Prop}{os1 os2:List Oper}{s:St}(h:BJ C F ops os1 s (λs1=>BJ C F ops os2 s1 K)):BJ C F ops (os1++os2) s K:=by
 intro hd l hl ρ a w hs;rw[KO,BQ]at hd;have hlen:l.length=os1.length+os2.length:=by
  have:=congrArg List.length hl
  simpa using this
 obtain⟨l1,l2,rfl,e1⟩:∃l1 l2,l=l1++l2/\l1.length=os1.length:=⟨l.take os1.length,l.drop os1.length,(E8 _ _).symm,by rw[Bb];omega⟩
 rw[DG,DG]at hl;obtain⟨h1,h2⟩:=List.append_inj hl (by simpa using e1);exact lY (λs1 ρ a w hk hs=>hk hd.2 l2 h2 ρ a w hs) l1 a w (h hd.1 l1 h1 ρ a w hs)
theorem zN {X:EV}{i:Nat}{s:St}{Q:Exit->Ac->St->Prop}(hX:DJ C X)(hnd:EZ ops.toList=true)(h:BJ C F ops ((List.range ops.size).map λj=>ops.getD j default) s (Q .normal F)):AC C B rd F (.region i ops false) s Q:=by
 refine⟨λhB hd ρ a w hs=>wpIn_region ?_⟩;have hd:=Km hB hd;have h1:=BJ.run h (λj hj=>List.mem_range.1 hj) hd hs
 have:=Fd (rd:=rd) (Q:=FJ C B Q) (l2:=[]) (λ_ _ _ h=>Kg hB (λ_ h=>h) h) (IN hnd) _ a w h1
 rwa [DE]at this
def Vu (C:BD)(F:Ac)(X:EV)(kb:Nat)(ops:Array Oper):List (List Nat×Nat)->List Nat->St->(St->Prop)->Prop
 | [],l,s,K=>Cw C X kb ops l s True λacc s=>acc/\K s
 |(l1,i)::r,l,s,K=>Cw C X kb ops l1 s True λacc s1=>acc/\∃d,(∀(os:List Oper) (K':St->Prop),BJ C F ops os ⟨Ba s1.env (ops.getD i default).dst d,s1.H,s1.n+1⟩ K'->BJ C F ops (ops.getD i default::os) s1 K')/\Vu C F X kb ops r l ⟨Ba s1.env (ops.getD i default).dst d,s1.H,s1.n+1⟩ K
def Pu:List (List Nat×Nat)->List Nat->List Nat
 | [],l=>l
 |(l1,i)::r,l=>l1++i::Pu r l
theorem Z1 {X:EV}(hX:DJ C X){kb:Nat}{K:St->Prop}:∀(r:List (List Nat×Nat)) (l:List Nat) (s:St),Vu C F X kb ops r l s K->BJ C F ops ((Pu r l).map λj=>ops.getD j default) s K
 | [],l,s,h=>(Eu hX (λacc s h=>h) h).2
 |(l1,i)::r,l,s,h=>by
  show BJ C F ops ((l1++i::Pu r l).map _) s K;rw[DG,Ct];refine zF ?_;refine(Eu (K':=λs1=>BJ C F ops (ops.getD i default::(Pu r l).map λj=>ops.getD j default) s1 K) hX (λacc s1 h=>⟨h.1,?_⟩) h).2;obtain⟨d,h1,h2⟩:=h.2;exact h1 _ _ (Z1 hX r l _ h2)
theorem zO {X:EV}{i:Nat}{s:St}{Q:Exit->Ac->St->Prop}(hX:DJ C X)(kb:Nat)(r:List (List Nat×Nat))(l:List Nat)(hl:List.range ops.size=Pu r l)(hnd:EZ ops.toList=true)(h:Vu C F X kb ops r l s (Q .normal F)):AC C B rd F (.region i ops false) s Q:=
 zN hX hnd (by rw[hl];exact Z1 hX r l s h)
def T2 (P:Program) (t:Nat):Prop:=∃(f1 f2:Field) (k1 k2:IntKind),P.underlying t=some (.struct #[f1,f2])/\P.stoodInHeld t=false/\P.eqGuardType P.depth t=false/\f1.name ≠ "_"/\f1.offset=0/\P.underlying f1.type=some (.int k1)/\f2.name ≠ "_"/\f2.offset=1/\P.underlying f2.type=some (.int k2)
theorem We {P:Program} {w:World} (d:Nat) {xs ys:Array Value} {f:Field} {fs:List Field} {i:Nat} {ka k:IntKind} {x y:Int} {b:Bool} (f1:f.name ≠ "_") (f2:f.offset=i) (f3:P.underlying f.type=some (.int k)) (hxa:xs[i]?=some (.int ka x)) (hya:ys[i]?=some (.int ka y))
  (ih:(Op.eqFields (d+1) xs ys fs).run P w=.ok b w):(Op.eqFields (d+1) xs ys (f::fs)).run P w=.ok (x==y&&b) w:=by
 have ag:(isAgg f.type).run P w=.ok false w:=by
  unfold isAgg;rw[run_bind,Cm f3];rfl
 have part1:(part f.type xs f.offset).run P w=.ok (.int ka x) w:=by
  unfold part;rw[run_bind,ag];dsimp only;rw[AF (by simp),f2];simp only[hxa];rfl
 have part2:(part f.type ys f.offset).run P w=.ok (.int ka y) w:=by
  unfold part;rw[run_bind,ag];dsimp only;rw[AF (by simp),f2];simp only[hya];rfl
 simp only[Op.eqFields];rw[AH f1,run_bind,part1];dsimp only;rw[run_bind,part2];dsimp only;rw[run_bind,run_equalIn_int w d f.type ka k x y f3];dsimp only;cases hb:x==y with
 |true=>simpa using ih
 |false=>rfl
theorem gY {o:Oper}{os:List Oper}{s:St}{K:St->Prop}{t tt:Nat}{x y:Operand}{a1 a2 b1 b2:Int}(hw:CG ops s.env o=some true)(ho:o.op=.binOp .neq t x y tt)(hT:T2 C.P t)(hx:BH s.env x=.agg [i64 a1,i64 a2])(hy:BH s.env y=.agg [i64 b1,i64 b2])
  (h:BJ C F ops os ⟨Ba s.env o.dst (As (!(a1==b1&&(a2==b2&&true)))),s.H,s.n+1⟩ K):BJ C F ops (o::os) s K:=
 BJ.step hw (λρ a w hs=>by
  refine⟨_,ρ,w,.inl ?_,P2.pure hs (.prim _),λe he=>DD (hs.gen e he)⟩;have rx:=DK hs.env x;have ry:=DK hs.env y;rw[hx]at rx;rw[hy]at ry;unfold execOp;simp only[ho];generalize a.eval x=vx at rx⊢;generalize a.eval y=vy at ry⊢;cases rx with
  |agg n1 o1 r1=>
   cases ry with
   |agg n2 o2 r2=>
    rename_i xs ys;obtain⟨f1,f2,k1,k2,c1,c2,c3,c4,c5,c6,c7,c8,c9⟩:=hT;have at_:∀ {vs:Array Value} {u1 u2:Int},vs.size=[i64 u1,i64 u2].length->(∀(i:Nat) (d:D),[i64 u1,i64 u2][i]?=some d->AW ρ (AN F.X ρ s.H) w d (vs.getD i undef))->vs[0]?=some (.int .i64 u1)/\vs[1]?=some (.int .i64 u2):=λ{vs u1 u2} n r=>by
     have q0:=r 0 _ rfl;have q1:=r 1 _ rfl;have m0:0<vs.size:=by rw[n];exact Nat.zero_lt_succ _
     have m1:1<vs.size:=by rw[n];exact Ha _
     rw[A0,Bn m0,Iv]at q0;rw[A0,Bn m1,Iv]at q1;rw[Bn m0,Bn m1];generalize vs[0]=z0 at q0;generalize vs[1]=z1 at q1;cases q0;cases q1;exact⟨rfl,rfl⟩
    obtain⟨x0,x1⟩:=at_ n1 r1;obtain⟨y0,y1⟩:=at_ n2 r2;have eqf:C.P.fieldsOf t = #[f1,f2]:=by unfold Program.fieldsOf;rw[c1]
    have run:(Op.equalIn 10000 t (.agg xs) (.agg ys)).run C.P w=.ok (a1==b1&&(a2==b2&&true)) w:=by
     rw[show(10000:Nat)=9998+1+1 from rfl,run_equalIn_struct w _ t xs ys (by rw[eqf];exact c1) c2,eqf];exact We 9998 c4 c5 c6 x0 y0 (We 9998 c7 c8 c9 x1 y1 rfl)
    have r3:(do eqGuard .neq t x y (.agg xs) (.agg ys);binOp .neq t (.agg xs) (.agg ys):Sem Value).run C.P w=.ok (.bool (!(a1==b1&&(a2==b2&&true)))) w:=by
     rw[run_bind,run_eqGuard_agg w .neq t x y xs ys c3];dsimp only;rw[run_neq_struct,run];rfl
    rw[run_bind,r3];rfl) h
end
def R8 (P:Program)(t:Nat):Bool:=match P.underlying t with
 |some (.int _)=>true
 |_=>false
theorem ZO {P:Program}{t:Nat}(h:R8 P t=true):∃k,P.underlying t=some (.int k):=by
 unfold R8 at h;split at h
 ·rename_i k hk;exact⟨k,hk⟩
 ·cases h
def iE (P:Program):List Field->Bool
 | [f1,f2]=>(f1.name != "_")&&Nat.beq f1.offset 0&&R8 P f1.type&&(f2.name != "_")&&Nat.beq f2.offset 1&&R8 P f2.type
 |_=>false
def iD (P:Program)(t:Nat):Bool:=match P.underlying t with
 |some (.struct fs)=>!(P.stoodInHeld t) && !(P.eqGuardType P.depth t)&&iE P fs.toList
 |_=>false
theorem vk {P:Program}{t:Nat}(h:iD P t=true):T2 P t:=by
 unfold iD at h;split at h<;>try(cases h;done)
 rename_i fs hu;simp only[BQ,Bi]at h;obtain⟨⟨h1,h2⟩,h3⟩:=h;obtain⟨l⟩:=fs
 match l,h3 with
 | [f1,f2],h3=>
  simp only[iE,BQ,bne_iff_ne]at h3;obtain⟨⟨⟨⟨⟨g1,g2⟩,g3⟩,g4⟩,g5⟩,g6⟩:=h3;obtain⟨k1,e1⟩:=ZO g3;obtain⟨k2,e2⟩:=ZO g6;exact⟨f1,f2,k1,k2,hu,h1,h2,g1,B6 g2,e1,g4,B6 g5,e2⟩
theorem Zs:T2 C0.P 35:=vk (by kernel_rfl)
def lA:List AD:=[Co 10,DA 6]
def lB:List AD:=[Co 5]
def cA:D:=AY false lA
def cB:D:=AY false lB
def Df:D:=.agg [str (sb Mw),i64 4,i64 30,i64 12,.sl false 1 [cA,cB]]
theorem yp:AJ C0 41 [] Df:=by
 have h:=xT.loosen 10
 rwa [show loosen 10 gx=Df from rfl]at h
theorem ZW {x:AD}(h:decide (x.grain.length<=1000)&&decide (x.shs.length<=1000)&&x.shs.all (λs=>decide (s.lot.length<=1000)&&decide (s.part.length<=40))=true):x.lite:=by
 simp only[BQ,F8,CS]at h;obtain⟨⟨h1,h2⟩,h3⟩:=h;exact⟨⟨by omega,by omega,λs hs=>⟨by have:=(h3 s hs).1;omega,by have:=(h3 s hs).2;omega⟩⟩,h3⟩
theorem RR:∀x∈lA,x.lite:=by
 intro x hx;simp only[lA,BA,Dc,or_false]at hx;rcases hx with rfl|rfl<;>exact ZW rfl
theorem ue:∀x∈lB,x.lite:=by
 intro x hx;simp only[lB,BA,Dc,or_false]at hx;subst hx;exact ZW rfl
theorem Rc:Be lA=0:=by kernel_rfl
theorem wC:Be lB=0:=by kernel_rfl
theorem qi:K7 lA=[(tA,13),(tB,3)]:=by kernel_rfl
theorem Vj:FU (CL lA)=[(tA,13),(tB,3)]:=by rw[<-YL];exact qi
theorem Zx:(CL lA).any (λp=>Du p.2)=false:=by kernel_rfl
theorem qj:R0 lA=0:=by
 unfold R0 Id;rw[AF (by rw[Rc];exact λh=>h rfl),Zx];rfl
theorem ql:R1 lA=[(tA,13),(tB,3)]:=by
 unfold R1 Jy;rw[AF (by rw[Rc];exact λh=>h rfl),Zx,Vj];rfl
def Sf:List UInt8:=[49,51]
def t3:List UInt8:=[51]
def GV:List UInt8:=[49,51,47,49,54]
def Gb:List UInt8:=[51,47,49,54]
def LF (m:Int):AD:=⟨Ex,m,[⟨tA,GV⟩,⟨tB,Gb⟩]⟩
theorem xd:Cn (tA,13)=Ek (tA,Sf):=by unfold Cn Ek;rw[show BO 13=Sf by kernel_rfl]
theorem xe:Cn (tB,3)=Ek (tB,t3):=by unfold Cn Ek;rw[show BO 3=t3 by kernel_rfl]
theorem ri:AJ C0 22 [cA] (.tup [.sl false 2 [Ek (tA,Sf),Ek (tB,t3)],i64 0]):=by
 have h:=yA false lA (by decide) RR;rw[qj,ql,Ct,Ct,List.map_nil,xd,xe]at h;exact h
theorem SJ:lA.map (Dx Ex)=lA:=rfl
theorem vz:HW lA=0:=by kernel_rfl
theorem xh:[((tA,13):List UInt8×Rat),(tB,3)].any (λp=>Du (p.2/(AT lA:Rat)))=false:=by kernel_rfl
theorem xi:(CL lA).length=2:=by kernel_rfl
theorem dC:Gz lA=0:=by
 unfold Gz;rw[AF (by rw[vz];exact λh=>h rfl),AF (by rw[xi];decide),Vj,xh];rfl
theorem VF:El lA=[⟨tA,GV⟩,⟨tB,Gb⟩]:=by
 unfold El;rw[Vj];kernel_rfl
theorem Rz:AT lA=16:=by kernel_rfl
theorem wB:LH lA=LF 16:=by rw[Zp dC,VF,Rz];rfl
theorem Zy:HO lA Ex=0:=by kernel_rfl
theorem Zz:Ig lA Ex=0:=by unfold Ig;rw[Zy,SJ,dC];rfl
theorem qm:L9 lA Ex=LF 16:=by unfold L9;rw[Zy,SJ,wB];rfl
theorem ro:AJ C0 42 [cA,str (sb Ex)] (.tup [(LF 16).D,i64 0]):=by
 have h:=gA false lA Ex (by decide) RR (by decide);rw[Zz,qm]at h;exact h
theorem vw:Fx lA 15=⟨Ex,1,[⟨tA,GV⟩,⟨tB,Gb⟩]⟩:=by
 unfold Fx;rw[Rz,show(CI lA 0).grain=Ex from rfl,SJ,VF];rfl
theorem dB:HN (Fx lA 15)=[(tA,mkRat 13 16),(tB,mkRat 3 16)]:=by rw[vw];kernel_rfl
theorem dA:[((tA,mkRat 13 16):List UInt8×Rat),(tB,mkRat 3 16)].any (λp=>Du p.2)=false:=by kernel_rfl
theorem vu:Id (CL [Fx lA 15])=0:=by
 unfold Id;rw[(UZ lA 15).1,dB,dA];rfl
theorem wE:B7 lA=true:=by kernel_rfl
theorem VG:JR lA 15=0:=by
 unfold JR;rw[Rc,AF (λh=>h rfl),AF (by decide),Rz,AF (by decide),wE,AF (λh=>by cases h),show(CI lA 0).grain=Ex from rfl,Zz,AF (λh=>h rfl),AF (by decide),vu]
theorem wG:SF lA 15=LF 15:=by
 unfold SF;rw[VG,AF (λh=>h rfl),show(CI lA 0).grain=Ex from rfl,SJ,VF];rfl
theorem wF:SE lA 15=[(tA,mkRat 13 16),(tB,mkRat 3 16)]:=by
 unfold SE Jy;rw[VG,AF (λh=>h rfl),Rz,AF (by decide),(UZ lA 15).2,(UZ lA 15).1,dB,dA];rfl
theorem xf:Cn (tA,mkRat 13 16)=Ek (tA,GV):=by unfold Cn Ek;rw[show BO (tA,mkRat 13 16).2=GV by kernel_rfl]
theorem xg:Cn (tB,mkRat 3 16)=Ek (tB,Gb):=by unfold Cn Ek;rw[show BO (tB,mkRat 3 16).2=Gb by kernel_rfl]
theorem mb:AJ C0 44 [cA,i64 15] (.tup [(LF 15).D,.sl false 2 [Ek (tA,GV),Ek (tB,Gb)],i64 0]):=by
 have h:=qF false lA 15 (by decide) RR;rw[VG,wG,wF,Ct,Ct,List.map_nil,xf,xg]at h;exact h
theorem rm:AJ C0 68 [cA] (i64 0):=by
 have h:=MK false lA (by decide) λx hx=>(RR x hx).1
 rw[Rc]at h;exact h
theorem rn:AJ C0 68 [cB] (i64 0):=by
 have h:=MK false lB (by decide) λx hx=>(ue x hx).1
 rw[wC]at h;exact h
theorem rl:AJ C0 75 [str (sb tB)] (As true):=by
 have h:=Qu tB;rw[show Dg tB=true by kernel_rfl]at h;exact h
theorem xz (x:AD)(h:x.shs.length<=1000000)(m:Int):AJ C0 94 [x.D,i64 m] (x.w m).D:=Oz x m h
theorem Uv {l:List AD}(h:l.all (λx=>decide (x.shs.length<=1000000))=true):∀x∈l,∀m,AJ C0 94 [x.D,i64 m] (x.w m).D:=λx hx m=>xz x (C6 (CS.1 h x hx)) m
theorem T5 {l:List AD}(h:l.all (λx=>decide (0<=x.mass)&&decide (x.mass<=1000000000))=true):∀x∈l,0<=x.mass/\x.mass<=1000000000:=λx hx=>by
 have:=CS.1 h x hx
 simpa using this
theorem n_1:AJ C0 62 [AY false [DA 2]] (AY false [DA 2]):=CH Da 400 40 (by kernel_rfl)
theorem n_2:AJ C0 62 [AY false [Co 1]] (AY false [Co 1]):=CH Da 400 40 (by kernel_rfl)
theorem n_3:AJ C0 62 [AY false [Co 9,DA 4]] (AY false [Co 9,DA 4]):=CH Da 400 40 (by kernel_rfl)
theorem du:AJ C0 57 [cA] (i64 16):=CH Da 400 40 (by kernel_rfl)
theorem oY:AJ C0 105 [cA,i64 2,As true] (AY false [DA 2]):=UG false true lA 2 (by decide) (by decide) (T5 rfl) (Uv rfl) _ n_1
theorem oZ:AJ C0 105 [cA,i64 1,As false] (AY false [Co 1]):=UG false false lA 1 (by decide) (by decide) (T5 rfl) (Uv rfl) _ n_2
theorem r9:AJ C0 60 [cA,i64 1,i64 2] (AY false [Co 9,DA 4]):=W9 false lA 1 2 (by decide) (by decide) (by decide) 16 (by decide) (T5 rfl) du (Uv rfl) _ n_3
theorem xM:AJ C0 126 [cA,str (sb tB)] (.sl false 2 [Fs (11,16)]):=by
 have h:=ic false lA tB (by decide) λx hx=>by
  simp only[lA,BA,Dc,or_false]at hx;rcases hx with rfl|rfl<;>exact⟨by decide,by decide,by decide⟩
 rw[show LU tB lA 0=[(11,16)] by kernel_rfl]at h;exact h
theorem re:AJ C0 63 [.sl true 1 [AY false [DA 2],AY false [Co 1]]] (AY false [DA 2,Co 1]):=XY [[DA 2],[Co 1]] (by simp) (by decide) (by decide)
end Go.Ide
