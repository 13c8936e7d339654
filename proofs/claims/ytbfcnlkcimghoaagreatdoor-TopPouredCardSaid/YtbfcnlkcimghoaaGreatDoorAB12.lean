/- The layer of own lemmas and contracts, part 12. -/
import Derived.Test.YtbfcnlkcimghoaaGreatDoorAB11
import Derived.Test.YtbfcnlkcimghoaaGreatDoorAB4
import Derived.Shelf.Spec.SlicesGrow
import Derived.Shelf.Lay
import Derived.Ground.Names8Prog
import Derived.Test.YtbfcnlkcimghoaaGreatDoorAB9
import Derived.Test.YtbfcnlkcimghoaaGreatDoorAB7
import Derived.Test.YtbfcnlkcimghoaaGreatDoorAB10
set_option linter.unusedVariables false
set_option linter.unusedSimpArgs false
namespace Go.Ide
open Go.Proofs Go.RowKit
set_option maxRecDepth 20000
set_option maxHeartbeats 4000000
def Qn (x:Bp)(i:Nat)(L:List AE):Bp:=⟨x.flow,x.core,x.room,x.side,(x.cells.map BS).set i L⟩
def IP (l:List (List AE))(k:Nat):List D:=(l.take k).map (λc=>Au false (BS c))++List.replicate (l.length-k) CS
theorem vZ {l:List (List AE)}{k:Nat}{c:List AE}(h:l[k]?=some c):(IP l k).set k (Au false (BS c))=IP l (k+1):=by
 have hk:=(BR.1 h).1;unfold IP;rw[PG _ _ (by rw[Al,Be];omega)];rw[Al,Be,show k-min k l.length=0 by omega,FV,h,Du];rw[show l.length-k=(l.length-(k+1))+1 by omega,List.replicate_succ,List.set_cons_zero];rw[show List.map (λc=>Au false (BS c)) (some c).toList=[Au false (BS c)]from rfl,DO];rfl
theorem vY (l:List (List AE))(k:Nat)(hk:k<=l.length):(IP l k).length=l.length:=by
 unfold IP;rw[Bz,Al,Be,Is];omega
theorem uh (l:List (List AE)):IP l l.length=(l.map BS).map (Au false):=by
 unfold IP;rw[DH,Nat.sub_self,List.map_map];exact Dh _
theorem d7R {l:List (List AE)}{k:Nat}(h:k<l.length):(IP l k)[k]?=some CS:=by
 unfold IP;rw[Ek (by rw[Al,Be];omega),Al,Be,show k-min k l.length=0 by omega,show l.length-k=(l.length-(k+1))+1 by omega,List.replicate_succ];rfl
theorem S6 {H:Hp}{a b c d sD:D}{L:List D}(h:Fz H [] sD (.sl false 1 L)):Fz H [] (.agg [a,b,c,d,sD]) (.agg [a,b,c,d,.sl false 1 L]):=.agg rfl λi e e' h1 h2=>by
 match i with
 | 0=>cases h1;cases h2;exact .refl _
 | 1=>cases h1;cases h2;exact .refl _
 | 2=>cases h1;cases h2;exact .refl _
 | 3=>cases h1;cases h2;exact .refl _
 | 4=>cases h1;cases h2;exact h
 |n+5=>cases h1
theorem e0k (x:Bp)(i:Nat)(hi:i<x.cells.length)(hl:x.cells.length<=1000000)(hc:∀c∈x.cells,AI C0 35 [Au false c] (Au false (BS c)))(L:List AE):AI C0 32 [x.D,i64 (i:Int),Au false L] (Qn x i L).D:=by
 refine Ac.walk w1 d8U rfl λF=>?_
 obtain⟨cs,hcs⟩:∃c,x.cells=c:=⟨_,rfl⟩
 have hW:(Qn x i L).D=.agg [str (sb x.flow),i64 x.core,i64 x.room,i64 x.side,.sl false 1 (((cs.map BS).map (Au false)).set i (Au false L))]:=by
  rw[<-hcs,<-List.map_set];rfl
 have el:(((cs.map (Au false)).length:Nat):Int)=(cs.length:Int):=by rw[Al]
 have pB:AA (Qn x i L).D:=AJ;rw[hW]at pB⊢;unfold Bp.D;rw[hcs]at hi hl hc⊢;have e0:decide ((cs.length:Int)<0)=false:=BY;refine AR Aq (BG el e0 kN) AB AB AB AB AB AB ?_;rw[show List.replicate cs.length (D.prim (Value.slice none 0 0))=IP cs 0 from by unfold IP;simp];refine AC.loop (α:=Nat×Nat) (λp=>⟨[(1,i64 (i:Int)),(2,Au false L),(3,.optr 0 0 5 0 0),(6,.optr 1 1 5 0 0),(7,.osl 103 5 1 0 cs.length),(15,KC false cs),(16,i64 (cs.length:Int)),(17,i64 (p.1:Int))],[⟨103,5,22,1,IP cs p.1⟩,⟨1,1,37,5,[.agg [.prim (.string ⟨#[]⟩),.prim (.int .i64 0),.prim (.int .i64 0),.prim (.int .i64 0),.prim (.slice none 0 0)]]⟩,⟨0,0,37,5,[.agg [str (sb x.flow),i64 x.core,i64 x.room,i64 x.side,KC false cs]]⟩],p.2⟩) (λp=>cs.length-p.1) (λq=>q.1<=cs.length/\11<=q.2) (0,_) ⟨Bg _,Am _⟩ AN ?_;rintro⟨k,n⟩ F ⟨hk,hn⟩;dsimp only at hk hn⊢;have hlw:=vY cs k hk;rcases BL k cs.length with h2|h2
 rotate_left
 ·have k1:=Cx h2
  have:k=cs.length:=by omega
  subst this;rw[uh]at hlw⊢;obtain⟨W,hWW⟩:∃W,(cs.map BS).map (Au false)=W:=⟨_,rfl⟩
  obtain⟨ci,hci⟩:=CV hi;have hwi:W[i]?=some (.sl false 3 ((BS ci).map AE.D)):=by rw[<-hWW,BT,BT,hci];rfl
  rw[hWW]at hlw pB⊢;refine AR Aq (Bo k1 hwi kN BX) AB AB AB AB AB AB ?_;have hR:=H6 (H:=[⟨103,5,22,1,W.set i (Au false L)⟩,⟨1,1,37,5,[.agg [str (sb x.flow),i64 x.core,i64 x.room,i64 x.side,.osl 103 5 1 0 cs.length]]⟩,⟨0,0,37,5,[.agg [str (sb x.flow),i64 x.core,i64 x.room,i64 x.side,.osl 103 5 1 0 cs.length]]⟩]) (Hf:=[]) (k:=103) (g:=5) (T:=22) (sz:=1) (l:=W.set i (Au false L)) rfl;rw[Dt,hlw]at hR;exact⟨_,S6 hR,pB.out,rfl⟩
 have k1:=Cs h2;have wi:=Cz (i:=k) (by omega);obtain⟨c,hc'⟩:=CV h2;have hm:(cs.map (Au false))[k]?=some (.sl false 3 (c.map AE.D)):=by rw[BT,hc'];rfl
 have cN:=hc c (A8 hc');have hset:=vZ hc';have hat:=d7R h2;obtain⟨es,hes⟩:∃e,IP cs k=e:=⟨_,rfl⟩
 rw[hes]at hlw hset hat⊢;refine AR Aq (Cw k1 wi hat kN BX) hm cN AB AB AB AB ?_;refine⟨(k+1,n+1000),⟨h2,by dsimp only;omega⟩,by dsimp only;omega,?_⟩;dsimp only;rw[<-hset];exact AN
end Go.Ide
namespace Go.Proofs
open Go.Shelf Go.RowKit Go.Lib
open Tryz
def Tryz.growLay_ren:Go.Shelf.Ren:=⟨fun|4=>81|n=>n,fun|22=>22|25=>28|3=>3|4=>4|9=>9|20=>20|0=>0|n=>n,fun|n=>n⟩
theorem mE:Go.Proofs.Lays8.n4 Tryz.prog Tryz.growLay_ren:={
 mixed:=by kernel_rfl
 f4:=⟨Tryz.f81.name,by decide,EG func81⟩
 t0:=underlying0
 a0:=isAgg0
 z0:=sizeOf0
 v0:=zeroValue0
 t3:=underlying3
 a3:=isAgg3
 z3:=sizeOf3
 v3:=zeroValue3
 t4:=underlying4
 a4:=isAgg4
 z4:=sizeOf4
 v4:=zeroValue4
 t9:=underlying9
 a9:=isAgg9
 z9:=sizeOf9
 v9:=zeroValue9
 t20:=underlying20
 a20:=isAgg20
 z20:=sizeOf20
 v20:=zeroValue20
 t22:=underlying22
 a22:=isAgg22
 z22:=sizeOf22
 v22:=zeroValue22 }
end Go.Proofs
namespace Go.Ide
open Go.Proofs Go.RowKit Go.Lib
set_option maxRecDepth 20000
set_option maxHeartbeats 4000000
theorem LL (K n:Nat)(h0:0<n)(hn:n<=1000000)(H:Hp)(m:Nat):C4 C0 81 [CS,i64 (n:Int)] H m (λd H' n'=>d=.osl K m 3 0 0/\H'=⟨K,m,28,3,[]⟩::H/\n'=m+1):=by
 refine⟨by obtain⟨fn,a1,a2,a3,-⟩:=jo;exact⟨fn,_,a1,a2,a3⟩,λF ρ w vs mm fr gn hsz rep=>?_⟩;obtain⟨v0,v1,rfl⟩:∃v0 v1,vs = #[v0,v1]:=by
  match vs,hsz with
  |⟨[a,b]⟩,_=>exact⟨a,b,rfl⟩
 have r0:AV ρ _ w CS v0:=rep 0 _ rfl;have r1:AV ρ _ w (i64 (n:Int)) v1:=rep 1 _ rfl;cases r0;cases r1;have hT:∃i,X1.tt 22=some i/\i.ti=.slice 28 3 48 (.agg #[.string ⟨#[]⟩,.int .i64 0,.slice none 0 0]):=⟨_,rfl,rfl⟩
 obtain⟨i,hi1,hi2⟩:=hT;obtain⟨-,⟨inf,k1,k2,k3,k4⟩,k5,k6⟩:=Ew (w1.tt _ _ hi1) hi2;have hc:=Any8.slices_Grow_grow mE inf _ k1 k4 (by rw[k2];decide) none 0 0 n [] w (Am _) (by omega) (by rw[k3];omega) (by omega) (by rw[k2];rfl) (λ_=>rfl) (λa h=>by cases h);refine Calls.mono hc ?_;rintro e w' ⟨rfl,rfl⟩;rw[show Tryz.growLay_ren.t 25=28 from rfl,BX];have hge:n<=grownCap w n 0 28:=grownCap_ge ..;have hmx:grownCap w n 0 28<=maxLen:=grownCap_le_maxLen _ _ _ _ (by simp only[maxLen];omega);generalize grownCap w n 0 28=cap at hge hmx⊢;obtain⟨z,hz⟩:∃z,(Value.agg #[.string ⟨#[]⟩,.int .i64 0,.slice none 0 0])=z:=⟨_,rfl⟩
 rw[hz]at k5 k6⊢;generalize hcs' : #[]++Builtin.zeroCells z.cells (n-0)++Builtin.zeroCells z.cells (cap-n)=cs';have hsz':cs'.size=cap*3:=by
  rw[<-hcs',KG,KG,size_zeroCells,size_zeroCells,k5];simp only[YR,Ir];omega
 have ho:DS ρ (AL F.X ρ H) w.drew ⟨K,m,28,3,[]⟩ cs':=by
  refine⟨by simp,λq d h=>by simp at h,λq v hv=>?_,λq d j c h=>by simp at h⟩;rw[<-hcs']at hv;rcases BL q (#[]++Builtin.zeroCells z.cells (n-0)).size with hq|hq
  ·rw[HO hq,Array.empty_append]at hv
   exact Ra k6 _ _ v hv
  ·rw[HN hq]at hv
   exact Ra k6 _ _ v hv
 obtain⟨m1,x1⟩:=mm.drew.alloc ⟨K,m,28,3,[]⟩ cs' (fr _ _ (Am _)) (λe' he' h=>Nat.ne_of_lt (gn e' he') h.2) ho;refine⟨_,_,_,_,_,rfl,⟨rfl,rfl,rfl⟩,m1,(BW.drew _ _ _).trans x1,λk g hg=>?_,λe he=>?_,?_⟩
 ·unfold Lk.put
  rw[AG λh=>by have:=h.2;dsimp only at this;omega];exact fr k g (by omega)
 ·rcases Aw.1 he with rfl|he
  ·exact IU _
  ·exact DP (gn e he)
 ·exact RE (b:=w.heap.size) (T:=28) (cs:=cs') (fz:=(0,0)) (Ej _ _ _ _) (by rw[EJ];exact AH rfl) (Bg _) hsz'.symm hmx
theorem aD {vs:List (List AE)}{i:Nat}{l:List AE}(h:vs[i]?=some l):(vs.take (i+1)).flatten=(vs.take i).flatten++l:=by
 rw[FV,h];simp
theorem dO {vs:List (List AE)}(i:Nat):(vs.take i).flatten.length<=vs.flatten.length:=by
 have:vs.flatten=(vs.take i).flatten++(vs.drop i).flatten:=by rw[<-List.flatten_append,GL]
 rw[this,Bz];omega
theorem o9 (vs:List (List AE))(h0:vs.flatten≠[])(hl:vs.flatten.length<=1000000)(hv:vs.length<=1000000):AI C0 36 [.sl true 1 (vs.map (Au false))] (Au false vs.flatten):=by
 refine Ac.walk w1 jx rfl λF=>?_
 have el:(((vs.map (Au false)).length:Nat):Int)=(vs.length:Int):=by rw[Al]
 have hpos:0<vs.flatten.length:=List.length_pos_iff.2 h0;have cG:=λm=>LL 1302 vs.flatten.length hpos hl [] m
 refine AR Aq el AB AB AB AB AB AB ?_;refine AC.loop (α:=Nat×Nat) (λp=>⟨[(0,.sl true 1 (vs.map (Au false))),(3,i64 ((vs.take p.1).flatten.length:Int)),(9,.sl true 1 (vs.map (Au false))),(10,i64 (vs.length:Int)),(11,i64 (p.1:Int))],[],p.2⟩) (λp=>vs.length-p.1) (λq=>q.1<=vs.length) (0,_) (Bg _) AN ?_;rintro⟨i,n⟩ F hi;dsimp only at hi⊢;rcases BL i vs.length with h2|h2
 ·have e1:=Cs h2
  have wi:=Cz (i:=i) (by omega);obtain⟨x,hx⟩:=CV h2;have hm:(vs.map (Au false))[i]?=some (.sl false 3 (x.map AE.D)):=by rw[BT,hx];rfl
  have hs:=aD hx;have hle:=dO (vs:=vs) (i+1);have ex:(((x.map AE.D).length:Nat):Int)=(x.length:Int):=by rw[Al]
  rw[hs,Bz]at hle;have w1':IntKind.i64.wrap (((vs.take i).flatten.length:Int)+(x.length:Int))=(((vs.take (i+1)).flatten.length:Nat):Int):=by
   rw[wI,hs,Bz];omega
  have g0:decide ((((vs.take (i+1)).flatten.length:Nat):Int)<0)=false:=BY;refine AR Aq (Fd e1 wi ex w1' g0 kN) hm AB AB AB AB AB ?_;exact⟨(i+1,_),h2,by dsimp only;omega,AN⟩
 have e1:=Cx h2
 have:i=vs.length:=by omega
 subst this;rw[DH];refine AR Aq e1 AB AB AB AB AB AB ?_;refine BI.own _ (cG _) ?_;rintro d H' n' ⟨rfl,rfl,rfl⟩;refine AR Aq el AB AB AB AB AB AB ?_;refine AC.loop (α:=Nat×Nat×Nat) (λp=>⟨[(6,.osl 1302 p.2.1 3 0 (vs.take p.1).flatten.length),(25,.sl true 1 (vs.map (Au false))),(26,i64 (vs.length:Int)),(27,i64 (p.1:Int))],[⟨1302,p.2.1,28,3,(vs.take p.1).flatten.map AE.D⟩],p.2.2⟩) (λp=>vs.length-p.1) (λq=>q.1<=vs.length) (0,n+1+1,_) (Bg _) AN ?_;clear hi h2 e1;rintro⟨i,g,n⟩ F hi;dsimp only at hi⊢;rcases BL i vs.length with h2|h2
 ·have e1:=Cs h2
  have wi:=Cz (i:=i) (by omega);obtain⟨x,hx⟩:=CV h2;have hm:(vs.map (Au false))[i]?=some (.sl false 3 (x.map AE.D)):=by rw[BT,hx];rfl
  have hs:=aD hx;have hle:=dO (vs:=vs) (i+1);have hln:((vs.take i).flatten.map AE.D).length=(vs.take i).flatten.length:=Al ..;have hlx:(x.map AE.D).length=x.length:=Al ..;rw[hs,Bz]at hle;obtain⟨R,hR⟩:∃R,(vs.take i).flatten=R:=⟨_,rfl⟩
  obtain⟨X,hX⟩:∃X,x.map AE.D=X:=⟨_,rfl⟩
  have pX:AA (.sl false 3 X):=by rw[<-hX];exact AJ
  rw[hR]at hs hle hln⊢;rw[hX]at hm hlx;obtain⟨RD,hRD⟩:∃X,R.map AE.D=X:=⟨_,rfl⟩
  rw[hRD]at hln⊢;refine AR Aq (BG e1 wi kN) hm AB AB AB AB AB ?_;refine⟨(i+1,n+1+1+1+1+1+1,n+1+1+1+1+1+1+1+1+1+1),h2,by dsimp only;omega,?_⟩;dsimp only;rw[hs,Bz,Du,hRD,hX,hlx];rw[Ci (show RD.length<=R.length by omega)];exact AN
 have e1:=Cx h2
 have:i=vs.length:=by omega
 subst this;rw[DH];have hR:=H6 (H:=[⟨1302,g,28,3,vs.flatten.map AE.D⟩]) (Hf:=[]) (k:=1302) (g:=g) (T:=28) (sz:=3) (l:=vs.flatten.map AE.D) rfl;rw[Al]at hR;refine AR Aq e1 AB AB AB AB AB AB ?_;exact⟨_,hR,AA.out,rfl⟩
end Go.Ide
namespace Go.Ide
open Go.Proofs Go.RowKit Go.Lib
set_option maxRecDepth 20000
set_option maxHeartbeats 4000000
theorem uM:AI C0 81 [CS,i64 0] CS:=by
 refine⟨by obtain⟨fn,a1,a2,a3,-⟩:=jo;exact⟨fn,_,a1,a2,a3⟩,λX w vs _ _ _ hsz rep=>?_⟩;obtain⟨v0,v1,rfl⟩:∃v0 v1,vs = #[v0,v1]:=by
  match vs,hsz with
  |⟨[a,b]⟩,_=>exact⟨a,b,rfl⟩
 have r0:AV nol _ w CS v0:=rep 0 _ rfl;have r1:AV nol _ w (i64 0) v1:=rep 1 _ rfl;cases r0;cases r1;refine(Any8.slices_Grow_room mE none 0 0 0 w (Am _) (by omega) (by omega) (Am _)).mono ?_;rintro e w' ⟨rfl,rfl⟩;exact⟨_,_,rfl,.refl _ _,rfl,.prim _⟩
theorem oJ (vs:List (List AE))(h0:∀x∈vs,x=[])(hv:vs.length<=1000000):AI C0 36 [.sl true 1 (vs.map (Au false))] (Au false []):=by
 refine Ac.walk w1 jx rfl λF=>?_
 have el:(((vs.map (Au false)).length:Nat):Int)=(vs.length:Int):=by rw[Al]
 have cG:=uM;refine AR Aq el AB AB AB AB AB AB ?_;refine AC.loop (α:=Nat×Nat) (λp=>⟨[(0,.sl true 1 (vs.map (Au false))),(3,i64 0),(9,.sl true 1 (vs.map (Au false))),(10,i64 (vs.length:Int)),(11,i64 (p.1:Int))],[],p.2⟩) (λp=>vs.length-p.1) (λq=>q.1<=vs.length) (0,_) (Bg _) AN ?_;rintro⟨i,n⟩ F hi;dsimp only at hi⊢;rcases BL i vs.length with h2|h2
 ·have e1:=Cs h2
  have wi:=Cz (i:=i) (by omega);obtain⟨x,hx⟩:=CV h2;have hx0:=h0 x (A8 hx);subst hx0;have hm:(vs.map (Au false))[i]?=some (.sl false 3 []):=by rw[BT,hx];rfl
  have ln0:([]:List D).length=0:=rfl;have w1':IntKind.i64.wrap (0+((0:Nat):Int))=0:=rfl;have g0:decide ((0:Int)<0)=false:=rfl;refine AR Aq (Fd e1 wi ln0 w1' g0 kN) hm AB AB AB AB AB ?_;exact⟨(i+1,_),h2,by dsimp only;omega,AN⟩
 have e1:=Cx h2
 have:i=vs.length:=by omega
 subst this;refine AR Aq (Ae el e1) cG AB AB AB AB AB ?_;refine AC.ghost 1302 28 3 [(6,.osl 1302 _ 3 0 0),(25,.sl true 1 (vs.map (Au false))),(26,i64 (vs.length:Int)),(27,i64 ((0:Nat):Int))] ⟨.inr ⟨rfl,rfl⟩,.inl rfl,.inl rfl,.inl rfl,trivial⟩ ?_;refine AC.loop (α:=Nat×Nat×Nat) (λp=>⟨[(6,.osl 1302 p.2.1 3 0 0),(25,.sl true 1 (vs.map (Au false))),(26,i64 (vs.length:Int)),(27,i64 (p.1:Int))],[⟨1302,p.2.1,28,3,[]⟩],p.2.2⟩) (λp=>vs.length-p.1) (λq=>q.1<=vs.length) (0,_,_) (Bg _) AN ?_;clear hi h2 e1;rintro⟨i,g,n⟩ F hi;dsimp only at hi⊢;rcases BL i vs.length with h2|h2
 ·have e1:=Cs h2
  have wi:=Cz (i:=i) (by omega);obtain⟨x,hx⟩:=CV h2;have hx0:=h0 x (A8 hx);subst hx0;have hm:(vs.map (Au false))[i]?=some (.sl false 3 []):=by rw[BT,hx];rfl
  refine AR Aq (BG e1 wi kN) hm AB AB AB AB AB ?_;exact⟨(i+1,n+1+1+1+1+1+1,n+1+1+1+1+1+1+1+1+1+1),h2,by dsimp only;omega,AN⟩
 have e1:=Cx h2;have hR:=H6 (H:=[⟨1302,g,28,3,[]⟩]) (Hf:=[]) (k:=1302) (g:=g) (T:=28) (sz:=3) (l:=[]) rfl;refine AR Aq e1 AB AB AB AB AB AB ?_;exact⟨_,hR,AA.out,rfl⟩
theorem bC (vs:List (List AE))(hl:vs.flatten.length<=1000000)(hv:vs.length<=1000000):AI C0 36 [.sl true 1 (vs.map (Au false))] (Au false vs.flatten):=by
 by_cases h:vs.flatten=[]
 ·rw[h]
  exact oJ vs (λx hx=>FU (Nat.le_zero.1 (by
   have:=(List.sublist_flatten_of_mem hx).length_le
   rwa [h]at this))) hv
 ·exact o9 vs h hl hv
def Qq:List AE->Int->List AE
 | [],_=>[]
 |x::r,m=>x.w (min m x.mass)::Qq r (m-min m x.mass)
abbrev WN:Dr:=[(1,[0,1,2,3,4,5,6],[7]),(9,[0,1,2,3,4],[5,6])]
open Go.Proofs Go.RowKit
set_option maxRecDepth 20000
set_option maxHeartbeats 4000000
def Fo:List AE->Int->Int->List AE
 | [],_,_=>[]
 |x::r,low,left=>x.w (min (x.mass-min x.mass low) left)::Fo r (low-min x.mass low) (left-min (x.mass-min x.mass low) left)
structure Yo where
 o:List AE
 low:Int
 left:Int
 g:Nat
def Kx (g1 g2:Nat)(p:Yo):Hp:=EN 905 p.g 28 3 (p.o.map AE.D)++[⟨200,g2,22,1,[E2 905 p.g 3 (p.o.map AE.D)]⟩,⟨106,g1,3,1,[i64 p.left]⟩,⟨0,0,3,1,[i64 p.low]⟩]
theorem ce (g1 g2:Nat)(a b:Int)(g:Nat):Kx g1 g2 ⟨[],a,b,g⟩=[⟨200,g2,22,1,[CS]⟩,⟨106,g1,3,1,[i64 b]⟩,⟨0,0,3,1,[i64 a]⟩]:=rfl
theorem SO (g1 g2:Nat)(z:AE)(o:List AE)(a b:Int)(g:Nat):Kx g1 g2 ⟨z::o,a,b,g⟩=[⟨905,g,28,3,z.D::o.map AE.D⟩,⟨200,g2,22,1,[.osl 905 g 3 0 ((o.map AE.D).length+1)]⟩,⟨106,g1,3,1,[i64 b]⟩,⟨0,0,3,1,[i64 a]⟩]:=rfl
def Qc (L:List AE)(low left:Int)(k:Nat)(p:Yo):Prop:=p.o.length=k/\p.o++Fo (L.drop k) p.low p.left=Fo L low left/\0<=p.low/\p.low<=1000000000000/\0<=p.left/\p.left<=1000000000000000
theorem nf (b:Bool)(l:List AE)(low high:Int)(hl:l.length<=1000000)(h1:0<=low/\low<=1000000000000)(h2:0<=high/\high<=1000000000000)(t:Int)(ht:low+high<=t/\t<=1000000000000000)(hx:∀x∈l,0<=x.mass/\x.mass<=1000000000)
  (cT:AI C0 30 [Au b l] (i64 t))
  (ho:∀x∈l,∀m,AI C0 79 [x.D,i64 m] (x.w m).D) (R:D) [pR:AA R] (hN:AI C0 35 [Au false (Fo l low (t-low-high))] R):
  AI C0 33 [Au b l,i64 low,i64 high] R:=by
 refine Ac.walk w1 d8V rfl λF=>?_
 have cV:=bj b false (l.map AE.D);have hT:∀x∈l.map AE.D,∃a c d,x=.agg [a,c,d]:=λx hx=>by
  obtain⟨y,-,rfl⟩:=CL.1 hx;exact⟨_,_,_,rfl⟩
 have hoA:∀k,k<l.length->∃y,y∈l/\l[k]?=some y/\(l.map AE.D)[if false then(l.map AE.D).length-1-k else k]?=some y.D:=λk hk=>⟨_,List.getElem_mem hk,B4 hk,by
  show(l.map AE.D)[k]?=_;rw[BT,B4 hk];rfl⟩
 unfold Au at cT⊢;obtain⟨T,hTT⟩:∃T,l.map AE.D=T:=⟨_,rfl⟩
 have pT:AA (.sl b 3 T):=by rw[<-hTT];exact AJ
 have hTl:T.length=l.length:=by rw[<-hTT,Al]
 rw[hTT]at cV hT hoA cT⊢;have w1':IntKind.i64.wrap (t-low)=t-low:=wI;have w2:IntKind.i64.wrap (t-low-high)=t-low-high:=wI;obtain⟨e,he⟩:∃e,t-low-high=e:=⟨_,rfl⟩
 have w2':IntKind.i64.wrap (t-low-high)=e:=by rw[w2,he]
 rw[he]at hN;have he0:0<=e/\e<=1000000000000000:=by omega
 refine AR WN (Ae w1' w2') cT cV AB AB AB AB ?_;have h0:Qc l low e 0 ⟨[],low,e,0⟩:=⟨rfl,rfl,h1.1,h1.2,he0.1,he0.2⟩
 refine AC.rangeFunc (fi:=126) (first:=[]) (captured:=[.pptr (.sl b 3 T),.pptr (Av false)]) (Ψ:=λj _ H' _=>(j=none/\∃a,Qc l low e T.length a/\H'=Kx 8 11 a)\/(j=some (.exit 0)/\False)) rfl
  (λds H n Φ=>∃k a x,Qc l low e k a/\k<T.length/\T[if false then T.length-1-k else k]?=some x/\ds=[x]/\H=Kx 8 11 a/\Φ=λj H' _=>(j=none/\∃a',Qc l low e (k+1) a'/\C2 H' (Kx 8 11 a') H' (Kx 8 11 a'))\/(j=some (.exit 0)/\False)) ?_
  (λE l' R' hE hY=>kf hE b false T hT (by omega) (λ_ a=>Kx 8 11 a) (Qc l low e) (.exit 0) (λ_=>False) ⟨[],low,e,0⟩ h0 _ λk a x n hP hk hx=>hY _ _ _ _ ⟨k,a,x,hP,hk,hx,rfl,rfl,rfl⟩) ?_
 ·rintro l' ds H n Φ ⟨k,⟨o,lw,lf,g⟩,x,⟨p1,p2,p3,p4,p6,p7⟩,hk,hxT,rfl,rfl,rfl⟩
  dsimp only at p1 p2 p3 p4 p6 p7;obtain⟨y,hy1,hy2,hy3⟩:=hoA k (by omega);rw[hy3]at hxT;cases hxT;have hd:l.drop k=y::l.drop (k+1):=by
   have:=(BR.1 hy2)
   rw[E3 this.1,this.2]
  rw[hd]at p2;have hb:=hx y hy1;have cO:=ho y hy1 (min (y.mass-min y.mass lw) lf);have p5:(o++[y.w (min (y.mass-min y.mass lw) lf)])++Fo (l.drop (k+1)) (lw-min y.mass lw) (lf-min (y.mass-min y.mass lw) lf)=Fo l low e:=by
   rw[<-p2,DO];rfl
  have a1:IntKind.i64.wrap (lw-min y.mass lw)=lw-min y.mass lw:=wI;have a2:IntKind.i64.wrap (y.mass-min y.mass lw)=y.mass-min y.mass lw:=wI;have a3:IntKind.i64.wrap (lf-min (y.mass-min y.mass lw) lf)=lf-min (y.mass-min y.mass lw) lf:=wI;have q1:0<=lw-min y.mass lw/\lw-min y.mass lw<=1000000000000/\0<=lf-min (y.mass-min y.mass lw) lf/\lf-min (y.mass-min y.mass lw) lf<=1000000000000000:=by omega
  refine⟨rfl,λF=>?_⟩;unfold AE.w AE.D at cO;unfold AE.D;dsimp only at cO⊢;obtain⟨SD,hSD⟩:∃d,Dq false y.shs=d:=⟨_,rfl⟩
  have pS:AA SD:=by rw[<-hSD];exact AJ
  rw[hSD]at cO⊢;rcases o with _|⟨z,o⟩
  ·rw[ce]
   dsimp only[Il];refine An 400 ?_;refine AF kB ?_;refine⟨trivial,trivial,λF'=>?_⟩;refine AR WN (BG a1 a2 a3) cO AB AB AB AB AB ?_;refine .inl ⟨rfl,⟨[y.w (min (y.mass-min y.mass lw) lf)],lw-min y.mass lw,lf-min (y.mass-min y.mass lw) lf,n+1+1+1+1+1+1+1+1+1+1+1+1+1+1+1+1+1+1+1+1+1+1+7⟩,⟨by rw[<-p1];rfl,p5,q1⟩,?_⟩;rw[SO,<-hSD];exact .keep (.drop (Kf _))
  ·have hol:o.length<=1000000:=by rw[By]at p1;omega
   rw[SO];dsimp only[Il];obtain⟨O,hO⟩:∃O,o.map AE.D=O:=⟨_,rfl⟩
   obtain⟨zD,hzD⟩:∃O,z.D=O:=⟨_,rfl⟩
   have hOl:O.length=o.length:=by rw[<-hO,Al]
   rw[hO,hzD];refine An 400 ?_;refine AF kB ?_;refine⟨trivial,trivial,λF'=>?_⟩;refine AR WN (BG a1 a2 a3) cO AB AB AB AB AB ?_;rw[show List.take (O.length+1) (zD::O)=zD::O from DH (l:=zD::O)];refine .inl ⟨rfl,⟨z::o++[y.w (min (y.mass-min y.mass lw) lf)],lw-min y.mass lw,lf-min (y.mass-min y.mass lw) lf,n+1+1+1+1+1+1+1+1+1+1+1+1+1+1+1+1+1+1+1+1+1+1+7⟩,⟨by rw[<-p1];simp,p5,q1⟩,?_⟩;have hs:∀g' a b,Kx 8 11 ⟨z::o++[y.w (min (y.mass-min y.mass lw) lf)],a,b,g'⟩=[⟨905,g',28,3,zD::O++[.agg [str (sb y.grain),i64 (min (y.mass-min y.mass lw) lf),SD]]⟩,⟨200,11,22,1,[.osl 905 g' 3 0 (O.length+1+1)]⟩,⟨106,8,3,1,[i64 b]⟩,⟨0,0,3,1,[i64 a]⟩]:=λg' a b=>by
    rw[Gr,SO,<-hO,<-hzD,<-hSD,Du];rw[Bz];rfl
   rw[hs];exact .keep (.drop (Kf _))
 ·rintro j d H' n' F' hE
  rcases hE with⟨rfl,⟨o,lw,lf,g⟩,⟨p1,p2,-⟩,rfl⟩|⟨-,h⟩
  rotate_left
  ·exact h.elim
  dsimp only at p2;rw[List.drop_eq_nil_of_le (by omega)]at p2;have ho2:o=Fo l low e:=by rw[<-p2];exact(Dh o).symm
  rw[<-ho2]at hN;rcases o with _|⟨z,o⟩
  ·rw[ce]
   change AC _ _ _ _ _ _ _;refine sR 1000 ?_;refine BI.pure [.sl false 3 []] _ ⟨.nil 3,trivial⟩ hN AJ ?_;refine Bb ?_;refine AX ?_;exact AM rfl pR.out
  ·have hR:=H6 (H:=Kx 8 11 ⟨z::o,lw,lf,g⟩) (Hf:=[]) (k:=905) (g:=g) (T:=28) (sz:=3) (l:=(z::o).map AE.D) rfl
   have hle:((z::o).map AE.D).length=(o.map AE.D).length+1:=rfl;rw[hle]at hR;rw[SO]at hR⊢;change AC _ _ _ _ _ _ _;refine sR 1000 ?_;refine BI.own _ (LB [] hN (.drop (.drop (.drop (.drop .nil)))) ⟨hR,trivial⟩ AJ) ?_;rintro d H2 n2 ⟨rfl,rfl,rfl⟩;refine Bb ?_;refine AX ?_;exact AM rfl pR.out
theorem sk {x:AE}{l:List AE}(h:x.mass=0):Db (x::l)=Db l:=by
 unfold Db;rw[List.filter_cons,AG (by rw[h];decide)]
theorem sj {x:AE}{l r:List AE}(h:Db l=Db r):Db (x::l)=Db (x::r):=by
 unfold Db at h⊢;rw[List.filter_cons,List.filter_cons,h]
theorem bD:∀ {l:List AE},(∀x∈l,0<=x.mass)->Db (Qq l 0)=[]
 | [],_=>rfl
 |x::r,h=>by
  have h1:=h x (CF ..);show Db (x.w (min 0 x.mass)::Qq r (0-min 0 x.mass))=[];rw[show min 0 x.mass=0 by omega,sk rfl];exact bD λy hy=>h y (B6 _ hy)
theorem d7B:∀ {l:List AE} {m:Int},(∀x∈l,0<=x.mass)->0<=m->Db (EY l m)=Db (Qq l m)
 | [],_,_,_=>rfl
 |x::r,m,h,hm=>by
  have h1:=h x (CF ..);have h2:∀y∈r,0<=y.mass:=λy hy=>h y (B6 _ hy)
  show Db (x.w (min x.mass m)::if m-x.mass<=0 then[]else EY r (m-x.mass))=Db (x.w (min m x.mass)::Qq r (m-min m x.mass));rw[show min x.mass m=min m x.mass by omega];refine sj ?_
  by_cases hz:m-x.mass<=0
  ·rw[AH hz,show m-min m x.mass=0 by omega,bD h2];rfl
  ·rw[AG hz,show m-min m x.mass=m-x.mass by omega]
   exact d7B h2 (by omega)
theorem XN:∀ {l:List AE} {m:Int},(∀x∈l,0<=x.mass/\x.mass<=1000000000/\x.shs.length<=1000000)->0<=m->∀y∈EY l m,0<=y.mass/\y.mass<=1000000000/\y.shs.length<=1000000
 | [],_,_,_,y,hy=>by cases hy
 |x::r,m,h,hm,y,hy=>by
  obtain⟨h1,h2,h3⟩:=h x (CF ..);rcases Aw.1 hy with rfl|h4
  ·exact⟨by show 0<=min x.mass m;omega,by show min x.mass m<=_;omega,h3⟩
  ·split at h4
   ·cases h4
   ·exact XN (λz hz=>h z (B6 _ hz)) (by omega) y h4
theorem WI:∀(l:List AE) (m:Int),(EY l m).length<=l.length
 | [],_=>Am _
 |x::r,m=>by
  show(if m-x.mass<=0 then[]else EY r (m-x.mass)).length+1<=r.length+1;split
  ·simp
  ·have:=WI r (m-x.mass);omega
theorem iA {a b:Int}(h:En [a,b]=0):a=0/\b=0:=by
 have h1:(if a≠0 then a else if b≠0 then b else 0)=0:=h
 by_cases h0:a=0
 ·rw[AG (λq=>q h0)]at h1
  by_cases h2:b=0
  ·exact⟨h0,h2⟩
  ·rw[AH h2]at h1;exact Ah h1 h2
 ·rw[AH h0]at h1;exact Ah h1 h0
theorem iW (l:List AE)(hl:l.length<=1000000):AI C0 34 [Au false l] (.tup [Au false (if 64<l.length then[]else l),i64 (if 64<l.length then 5 else 0)]):=by
 refine Ac.walk w1 d8W rfl λF=>?_
 have el:(((l.map AE.D).length:Nat):Int)=(l.length:Int):=by rw[Al]
 by_cases h:64<l.length
 ·rw[AH h,AH h]
  have k:decide ((l.length:Int)>64)=true:=BV;refine AR Aq (Ae el k) AB AB AB AB AB AB ?_;exact⟨_,QC (.nil 3) (.refl _),AA.out,rfl⟩
 ·rw[AG h,AG h]
  have k:decide ((l.length:Int)>64)=false:=BY;refine AR Aq (Ae el k) AB AB AB AB AB AB ?_;exact AM rfl AA.out
def Nw (a b:List AE):Int:=En [(CR a:Int),(CR b:Int)]
def PP (a b:List AE):Int:=if Nw a b≠0 then Nw a b else if Ak a+Ak b>999999999 then 4 else if 64<(BS (a++b)).length then 5 else 0
def RR (a b:List AE):List AE:=if PP a b≠0 then[]else BS (a++b)
theorem se (R:List AE)(x:AE):(Cv R x).length<=R.length+1:=by
 unfold Cv;split
 ·split
  ·rw[Bz,List.length_dropLast,Ho];omega
  ·rw[Bz];exact Am _
 ·simp
theorem Kj (l:List AE):(BS l).length<=l.length:=by
 have:∀(l R:List AE),(l.foldl Cv R).length<=R.length+l.length:=λl=>by
  induction l with
  |nil=>exact λ_=>Am _
  |cons x l ih=>
   intro R;have h1:=ih (Cv R x);have h2:=se R x;rw[List.foldl_cons,By];omega
 have:=this l []
 unfold BS;simpa using this
theorem e0h (a b:List AE)(hla:a.length<=1000000)(hlb:b.length<=1000000)(hfa:∀x∈a,x.few)(hfb:∀x∈b,x.few):AI C0 9 [Au false a,Au false b] (.tup [Au false (RR a b),i64 (PP a b)]):=by
 refine Ac.walk w1 e1Z rfl λF=>?_
 have cA:=Ts false a (by omega) hfa;have cB:=Ts false b (by omega) hfb;have cF:=OU [(CR a:Int),(CR b:Int)] (by simp);have hE:PP a b=if Nw a b≠0 then Nw a b else if Ak a+Ak b>999999999 then 4 else if 64<(BS (a++b)).length then 5 else 0:=rfl
 have hL:RR a b=if PP a b≠0 then[]else BS (a++b):=rfl
 have hz:=@iA (CR a:Int) (CR b:Int);have hJ:Nw a b=En [(CR a:Int),(CR b:Int)]:=rfl;rw[<-hJ]at cF hz;obtain⟨E,hE0⟩:∃E,Nw a b=E:=⟨_,rfl⟩
 rw[hE0]at cF hE hz
 by_cases h0:E=0
 rotate_left
 ·have k2:(E != 0)=true:=Kk h0
  rw[AH h0]at hE;rw[hE,AH h0]at hL;rw[hL,hE];refine AR Aq k2 cA cB cF AB AB AB ?_;exact⟨_,QC (.nil 3) (.refl _),AA.out,rfl⟩
 have k2:(E != 0)=false:=by rw[h0];rfl
 rw[AG (λh=>h h0)]at hE;obtain⟨z1,z2⟩:=hz h0;have hpa:CR a=0:=by omega
 have hpb:CR b=0:=by omega
 obtain⟨g1,g2,g3⟩:=HY hpa;obtain⟨f1,f2,f3⟩:=HY hpb;have g4:=(IC hpa).2.2;have f4:=(IC hpb).2.2;have g5:0<=Ak a:=M9 λy hy=>by have:=(g2 y hy).1;omega
 have f5:0<=Ak b:=M9 λy hy=>by have:=(f2 y hy).1;omega
 have tA:=QW false a (by omega);have tB:=QW false b (by omega);rw[Pz g3]at tA;rw[Pz f3]at tB;have wS:IntKind.i64.wrap (Ak a+Ak b)=Ak a+Ak b:=wI
 by_cases hbig:Ak a+Ak b>999999999
 ·have k3:decide (Ak a+Ak b>999999999)=true:=Ax hbig
  rw[AH hbig]at hE;rw[hE,AH (by decide)]at hL;rw[hL,hE];refine AR Aq (BG k2 @wS k3) cA cB cF tA tB AB ?_;exact⟨_,QC (.nil 3) (.refl _),AA.out,rfl⟩
 have k3:decide (Ak a+Ak b>999999999)=false:=Az hbig;rw[AG hbig]at hE;have hfl:[a,b].flatten=a++b:=by simp
 have cC:=bC [a,b] (by rw[hfl,Bz];omega) (by simp);rw[hfl]at cC;have cN:=VG false (a++b) (by rw[Bz];omega) λx hx=>by
  rcases Bs.1 hx with h|h
  ·exact g2 x h
  ·exact f2 x h
 have hln:=Kj (a++b);rw[Bz]at hln;have cW:=iW (BS (a++b)) (by omega);have hLL:RR a b=if 64<(BS (a++b)).length then[]else BS (a++b):=by
  rw[hL,hE]
  by_cases h:64<(BS (a++b)).length
  ·rw[AH h,AH h,AH (by decide)]
  ·rw[AG h,AG h,AG (λh=>h rfl)]
 rw[<-hLL,<-hE]at cW;refine AR Aq (BG k2 @wS k3) cA cB cF tA tB AB ?_;refine AR Aq (BG k2 @wS k3) cC cN cW AB AB AB ?_;exact AM rfl AA.out
def Ti:Bp:=⟨[],0,0,0,[]⟩
def In (x:Bp)(i:Int):List AE:=x.cells.getD i.toNat []
theorem cX {x:Bp}(h:FD x=0):∀c∈x.cells,GY x c=0:=by
 unfold FD at h
 by_cases h1:Jb x=0
 ·rw[AG (λq=>q h1)]at h
  by_cases h2:Hb x x.cells=0
  ·exact ZL h2
  ·rw[AH h2]at h;exact Ah h h2
 ·rw[AH h1]at h;exact Ah h h1
theorem vO {x:Bp}{i:Int}(h:K4 x [i]=0):FD x=0/\0<=i/\i<(x.cells.length:Int):=by
 unfold K4 at h
 by_cases h1:FD x=0
 ·rw[AG (λq=>q h1)]at h
  refine⟨h1,?_⟩;cases hb:KP x i
  ·simp[hb]at h
  ·unfold KP Eu at hb
   rw[BM,decide_eq_true_iff,decide_eq_true_iff]at hb;omega
 ·rw[AH h1]at h;exact Ah h h1
structure j7 (x:Bp)(i:Int)(l:List AE):Prop where
 cel:∀c∈x.cells,GY x c=0
 lt:i.toNat<x.cells.length
 ii:i=(i.toNat:Int)
 par:CR l=0
 at_:x.cells[i.toNat]?=some (In x i)
 bin:FD x=0
theorem SF (a b:List AE):Ak (a++b)=Ak a+Ak b:=by
 unfold Ak;rw[Du,List.sum_append]
theorem sf (R:List AE)(x:AE):Ak (Cv R x)=Ak R+x.mass:=by
 unfold Cv;split
 ·rename_i y hy
  have hR:R=R.dropLast++[y]:=by
   have hne:R≠[]:=λh=>by rw[h]at hy;cases hy
   have:=List.getLast?_eq_some_getLast hne
   rw[this]at hy;cases hy;exact(List.dropLast_concat_getLast hne).symm
  split
  ·rw[SF]
   conv=>rhs;rw[hR,SF]
   unfold Ak AE.w;simp;omega
  ·rw[SF];unfold Ak;simp
 ·rename_i hy
  have:R=[]:=List.getLast?_eq_none_iff.1 hy
  rw[this];unfold Ak;simp
theorem Lj (l:List AE):Ak (BS l)=Ak l:=by
 have:∀(l R:List AE),Ak (l.foldl Cv R)=Ak R+Ak l:=λl=>by
  induction l with
  |nil=>intro R;unfold Ak;simp
  |cons x l ih=>
   intro R;rw[List.foldl_cons,ih,sf];unfold Ak;simp;omega
 have h:=this l [];rw[show Ak ([]:List AE)=0 from rfl,Int.zero_add]at h;exact h
theorem u7 {l:List AE}(h:∀x∈l,0<=x.mass)(hs:Ak l<=1000000000000000000):D5 l=Ak l:=by
 have:∀(l:List AE) (a:Int),0<=a->(∀x∈l,0<=x.mass)->a+Ak l<=1000000000000000000->l.foldl (λa x=>IntKind.i64.wrap (a+x.mass)) a=a+Ak l:=λl=>by
  induction l with
  |nil=>intro a _ _ _;unfold Ak;simp
  |cons x l ih=>
   intro a ha hx hs;have h1:=hx x (CF ..);have h2:=M9 λy hy=>hx y (B6 _ hy)
   have h3:Ak (x::l)=x.mass+Ak l:=by unfold Ak;rfl
   rw[h3]at hs⊢;rw[List.foldl_cons,wI,ih _ (by omega) (λy hy=>hx y (B6 _ hy)) (by omega)];omega
 have h1:=this l 0 (Int.le_refl _) h (by omega);rw[Int.zero_add]at h1;exact h1
theorem bQ:∀ {S T:List A0},Gm S T=true↔S=T
 | [],[]=>by simp[Gm]
 | [],_::_=>by simp[Gm]
 |_::_,[]=>by simp[Gm]
 |s::S,t::T=>by
  show(Ip s t&&Gm S T)=true↔_;rw[BM,bQ (S:=S) (T:=T)];unfold Ip;rw[BM,Mu,Mu,decide_eq_true_iff,decide_eq_true_iff];obtain⟨a,b⟩:=s;obtain⟨c,d⟩:=t;simp
theorem sU (x y:AE):Gi x y=true↔x.grain=y.grain/\x.shs=y.shs:=by
 unfold Gi;rw[BM,Mu,decide_eq_true_iff,bQ]
theorem e2C {x y:AE}(hg:x.grain=y.grain)(hs:x.shs=y.shs)(m:Int):x.w m=y.w m:=by unfold AE.w;rw[hg,hs]
theorem w_w (x:AE)(a b:Int):(x.w a).w b=x.w b:=rfl
theorem d7O (x:AE):x.w x.mass=x:=rfl
theorem Og {x y:AE}:Gi x y=true↔∀m,x.w m=y.w m:=by
 rw[sU];constructor
 ·rintro⟨a,b⟩ m;exact e2C a b m
 ·intro h
  have h0:=h 0;unfold AE.w at h0;injection h0 with a b c;exact⟨a,c⟩
def Bj (l:List AE):List AE:=l.flatMap λx=>List.replicate x.mass.toNat (x.w 1)
theorem QS:Bj []=[]:=rfl
theorem IB (x:AE)(l:List AE):Bj (x::l)=List.replicate x.mass.toNat (x.w 1)++Bj l:=rfl
theorem Jy (a b:List AE):Bj (a++b)=Bj a++Bj b:=List.flatMap_append
theorem TG (x:AE):Bj [x]=List.replicate x.mass.toNat (x.w 1):=by rw[IB,QS,Dh]
theorem XS:∀l:List AE,Bj l.reverse=(Bj l).reverse
 | []=>rfl
 |x::l=>by rw[List.reverse_cons,Jy,XS l,TG,IB,List.reverse_append,List.reverse_replicate]
theorem XR:∀ {l:List AE},(∀x∈l,0<=x.mass)->((Bj l).length:Int)=Ak l
 | [],_=>rfl
 |x::l,h=>by
  have h1:=h x (CF ..);have h2:=XR (l:=l) λy hy=>h y (B6 _ hy)
  rw[IB,Bz,Is,show Ak (x::l)=x.mass+Ak l from rfl];omega
theorem XQ {l:List AE}:∀y∈Bj l,∃x∈l,y=x.w 1/\0<x.mass:=λy hy=>by
 unfold Bj at hy;obtain⟨x,hx,h⟩:=List.mem_flatMap.1 hy;obtain⟨h1,h2⟩:=List.mem_replicate.1 h;exact⟨x,hx,h2,by omega⟩
theorem tu {R:List AE}{x:AE}(hR:∀y∈R,0<=y.mass)(hx:0<=x.mass):Bj (Cv R x)=Bj R++Bj [x]:=by
 unfold Cv;split
 ·rename_i y hy
  have hR':R=R.dropLast++[y]:=by
   have hne:R≠[]:=λh=>by rw[h]at hy;cases hy
   have:=List.getLast?_eq_some_getLast hne
   rw[this]at hy;cases hy;exact(List.dropLast_concat_getLast hne).symm
  split
  ·rename_i hl
   have e:=Og.1 hl 1;have hy0:=hR y (List.mem_of_getLast? hy)
   conv=>rhs;rw[hR']
   rw[Jy,Jy,TG,TG,TG,DO];show _++List.replicate (y.mass+x.mass).toNat (y.w 1)=_;rw[<-e,List.replicate_append_replicate,show(y.mass+x.mass).toNat=y.mass.toNat+x.mass.toNat by omega]
  ·rw[Jy]
 ·rename_i hy
  rw[List.getLast?_eq_none_iff.1 hy];rfl
theorem tq {R:List AE}{x:AE}(hR:∀y∈R,0<=y.mass)(hx:0<=x.mass):∀y∈Cv R x,0<=y.mass:=by
 unfold Cv;split
 ·rename_i z hz
  have hz0:=hR z (List.mem_of_getLast? hz);split
  ·intro y hy
   rcases Bs.1 hy with h|h
   ·exact hR y ((List.dropLast_sublist R).subset h)
   ·obtain rfl:=DG.1 h
    show 0<=z.mass+x.mass;omega
  ·intro y hy
   rcases Bs.1 hy with h|h
   ·exact hR y h
   ·obtain rfl:=DG.1 h;exact hx
 ·intro y hy
  obtain rfl:=DG.1 hy;exact hx
theorem TQ {l:List AE}(h:∀x∈l,0<=x.mass):Bj (BS l)=Bj l:=by
 have:∀(l R:List AE),(∀x∈l,0<=x.mass)->(∀y∈R,0<=y.mass)->Bj (l.foldl Cv R)=Bj R++Bj l:=λl=>by
  induction l with
  |nil=>intro R _ _;simp[QS]
  |cons x l ih=>
   intro R hl hR;have hx:=hl x (CF ..);rw[List.foldl_cons,ih _ (λy hy=>hl y (B6 _ hy)) (tq hR hx),tu hR hx,DO,<-Jy];rfl
 exact this l [] h λy hy=>by cases hy
theorem kY:∀l:List AE,Bj (Db l)=Bj l
 | []=>rfl
 |x::l=>by
  have ih:=kY l;unfold Db at ih⊢;rw[List.filter_cons];split
  ·rw[IB,IB,ih]
  ·rename_i h
   have h0:x.mass=0:=by simpa using h
   rw[IB,ih,h0];rfl
theorem ph (R:List AE)(x:AE)(m:Int):Cv (Cv R (x.w m)) (x.w 1)=Cv R (x.w (m+1)):=by
 have key:∀(A:List AE) (z:AE),Gi z (x.w 1)=true->Cv (A++[z]) (x.w 1)=A++[z.w (z.mass+1)]:=λA z hz=>by
  unfold Cv;rw[List.getLast?_append];show(if Gi z (x.w 1)=true then _ else _)=_;rw[AH hz,List.dropLast_concat];rfl
 have hlx:∀a b:Int,Gi (x.w a) (x.w b)=true:=λa b=>Og.2 λm=>rfl
 cases hR:R.getLast? with
 |none=>
  have:R=[]:=List.getLast?_eq_none_iff.1 hR
  subst this;exact key [] (x.w m) (hlx _ _)
 |some y=>
  have e:∀a:Int,Cv R (x.w a)=if Gi y (x.w a)then R.dropLast++[y.w (y.mass+a)]else R++[x.w a]:=λa=>by
   unfold Cv;rw[hR];rfl
  have hb:∀a b:Int,Gi y (x.w a)=Gi y (x.w b):=λa b=>by
   rw[E6,Og,Og];exact Iff.rfl
  rw[e m,e (m+1),hb m 1,hb (m+1) 1]
  by_cases h:Gi y (x.w 1)=true
  ·rw[AH h,AH h,key _ _ (Og.2 λk=>(w_w y _ k).trans (Og.1 h k))]
   show _++[y.w (y.mass+m+1)]=_;rw[Int.add_assoc]
  ·rw[AG h,AG h,key _ _ (hlx _ _)];rfl
theorem fF (x:AE):∀(n:Nat) (R:List AE),(List.replicate (n+1) (x.w 1)).foldl Cv R=Cv R (x.w ((n:Int)+1))
 | 0,R=>rfl
 |n+1,R=>by
  rw[List.replicate_succ',List.foldl_append,fF x n R];exact ph R x _
theorem TP {l:List AE}(h:∀x∈l,1<=x.mass):BS (Bj l)=BS l:=by
 have:∀(l R:List AE),(∀x∈l,1<=x.mass)->(Bj l).foldl Cv R=l.foldl Cv R:=λl=>by
  induction l with
  |nil=>intro R _;rfl
  |cons x l ih=>
   intro R hl;have hx:=hl x (CF ..);rw[IB,List.foldl_append,show x.mass.toNat=(x.mass.toNat-1)+1 by omega,fF,List.foldl_cons,ih _ λy hy=>hl y (B6 _ hy)];rw[show(((x.mass.toNat-1:Nat):Int)+1)=x.mass by omega,d7O]
 exact this l [] h
theorem TO {l:List AE}(h:∀x∈l,0<=x.mass):BS (Db l)=BS (Bj l):=by
 rw[<-kY l];refine(TP λx hx=>?_).symm;unfold Db at hx;obtain⟨h1,h2⟩:=List.mem_filter.1 hx
 have:=h x h1
 have:x.mass≠0:=by simpa using h2
 omega
theorem d6u {a b:List AE}(ha:∀x∈a,1<=x.mass)(hb:∀x∈b,1<=x.mass)(h:Bj a=Bj b):BS a=BS b:=by rw[<-TP ha,<-TP hb,h]
theorem Xu:∀ {l:List AE} {m:Int},(∀x∈l,0<=x.mass)->0<=m->Bj (EY l m)=(Bj l).take m.toNat
 | [],m,_,_=>by rw[QS,List.take_nil];rfl
 |x::r,m,h,hm=>by
  have h1:=h x (CF ..);have h2:∀y∈r,0<=y.mass:=λy hy=>h y (B6 _ hy)
  show Bj (x.w (min x.mass m)::if m-x.mass<=0 then[]else EY r (m-x.mass))=_;rw[IB,IB,List.take_append,List.take_replicate,Is];show List.replicate (min x.mass m).toNat (x.w 1)++_=_;rw[show(min x.mass m).toNat=min m.toNat x.mass.toNat by omega]
  by_cases hz:m-x.mass<=0
  ·rw[AH hz,show m.toNat-x.mass.toNat=0 by omega];rfl
  ·rw[AG hz,Xu h2 (by omega),show m.toNat-x.mass.toNat=(m-x.mass).toNat by omega]
theorem Xc:∀ {l:List AE} {low left:Int},(∀x∈l,0<=x.mass)->0<=low->0<=left->Bj (Fo l low left)=((Bj l).drop low.toNat).take left.toNat
 | [],low,left,_,_,_=>by rw[QS,List.drop_nil,List.take_nil];rfl
 |x::r,low,left,h,h0,h5=>by
  have h1:=h x (CF ..);have h2:∀y∈r,0<=y.mass:=λy hy=>h y (B6 _ hy)
  show Bj (x.w (min (x.mass-min x.mass low) left)::Fo r (low-min x.mass low) (left-min (x.mass-min x.mass low) left))=_;rw[IB,IB,Xc h2 (by omega) (by omega),List.drop_append,List.drop_replicate,Is,List.take_append,List.take_replicate,Is];show List.replicate (min (x.mass-min x.mass low) left).toNat (x.w 1)++_=_;rw[show(min (x.mass-min x.mass low) left).toNat=min left.toNat (x.mass.toNat-low.toNat) by omega,show(low-min x.mass low).toNat=low.toNat-x.mass.toNat by omega,
   show(left-min (x.mass-min x.mass low) left).toNat=left.toNat-(x.mass.toNat-low.toNat) by omega]
open Go.Sort
def DB (k:List UInt8):Bf->Option Rat
 | []=>none
 |p::l=>if p.1=k then some p.2 else DB k l
def JH (ts Q:Bf):Bf:=ts.foldl (λacc t=>DC t.1 t.2 acc) Q
def J9 (l:List AE):Bf:=l.flatMap λx=>x.shs.map λs=>(s.lot,Bc s.part*(x.mass:Rat))
theorem ow (a b Q:Bf):JH (a++b) Q=JH b (JH a Q):=List.foldl_append
theorem pu (x:AE)(q:Bf):Hd x x.shs.length q=JH (x.shs.map λs=>(s.lot,Bc s.part*(x.mass:Rat))) q:=by
 unfold Hd JH;rw[DH,List.foldl_map]
theorem U6 (l:List AE):DX l=JH (J9 l) []:=by
 have:∀(l:List AE) (q:Bf),l.foldl (λacc x=>Hd x x.shs.length acc) q=JH (J9 l) q:=λl=>by
  induction l with
  |nil=>intro q;rfl
  |cons x l ih=>
   intro q;rw[List.foldl_cons,ih,pu,<-ow];rfl
 exact this l []
theorem Pv {k:List UInt8}:∀ {Q:Bf},k∉Cr Q->DB k Q=none
 | [],_=>rfl
 |p::l,h=>by
  unfold DB;rw[AG (λe=>h (by rw[<-e];exact CF ..))];exact Pv λq=>h (B6 _ q)
theorem kS {a b:List UInt8}(h:ltStr a b=true):a≠b:=λe=>by rw[e,swo_ltStr.irrefl]at h;cases h
theorem am {a:List UInt8}{r:Rat}{k:List UInt8}:∀ {Q:Bf},GO Q->DB k (DC a r Q)=if a=k then some ((DB a Q).getD 0+r)else DB k Q
 | [],_=>by
  unfold DC DB
  by_cases h:a=k
  ·rw[AH h,AH h]
   show some r=some (0+r);rw[Rat.zero_add]
  ·rw[AG h,AG h];rfl
 |p::l,hs=>by
  have hp:=DN.1 hs;unfold DC
  by_cases h1:ltStr p.1 a=true
  ·rw[AH h1]
   have hpa:p.1≠a:=kS h1;have e1:DB a (p::l)=DB a l:=by
    show(if p.1=a then some p.2 else DB a l)=_;rw[AG hpa]
   show(if p.1=k then some p.2 else DB k (DC a r l))=_;rw[am hp.2,e1]
   by_cases h2:a=k
   ·rw[AH h2,AH h2,AG (λe=>hpa (e.trans h2.symm))]
   ·rw[AG h2,AG h2];rfl
  ·rw[AG h1]
   by_cases h2:p.1=a
   ·rw[AH h2]
    show(if p.1=k then some (p.2+r)else DB k l)=if a=k then some ((if p.1=a then some p.2 else DB a l).getD 0+r)else if p.1=k then some p.2 else DB k l
    rw[AH h2,h2]
    by_cases h3:a=k
    ·rw[AH h3,AH h3];rfl
    ·rw[AG h3,AG h3,AG h3]
   ·rw[AG h2]
    have h3:ltStr a p.1=true:=by
     cases h9:ltStr a p.1 with
     |true=>rfl
     |false=>exact Ah (Rl (by simpa using h1) h9) h2
    have hn:a∉Cr (p::l):=λq=>by
     rcases Aw.1 q with q|q
     ·exact h2 q.symm
     ·obtain⟨z,hz,e⟩:=CL.1 q
      have:=swo_ltStr.trans _ _ _ h3 (hp.1 z hz)
      rw[e,swo_ltStr.irrefl]at this;cases this
    rw[Pv hn];show(if a=k then some r else DB k (p::l))=_
    by_cases h4:a=k
    ·rw[AH h4,AH h4]
     show some r=some (0+r);rw[Rat.zero_add]
    ·rw[AG h4,AG h4]
def Dl (k:List UInt8):Bf->Rat
 | []=>0
 |t::ts=>if t.1=k then t.2+Dl k ts else Dl k ts
def JN (k:List UInt8)(ts:Bf):Bool:=ts.any λt=>decide (t.1=k)
theorem Z7 {k:List UInt8}:∀ {ts Q:Bf},GO Q->DB k (JH ts Q)=if JN k ts=true then some ((DB k Q).getD 0+Dl k ts)else DB k Q
 | [],Q,_=>rfl
 |t::ts,Q,h=>by
  show DB k (JH ts (DC t.1 t.2 Q))=_;rw[Z7 (WW h),am h];show _=if(decide (t.1=k)||JN k ts)=true then some ((DB k Q).getD 0+if t.1=k then t.2+Dl k ts else Dl k ts)else DB k Q
  by_cases h1:t.1=k
  ·rw[AH h1,AH h1,Ax h1,Bool.true_or,AH rfl,h1]
   by_cases h2:JN k ts=true
   ·rw[AH h2]
    show some ((DB k Q).getD 0+t.2+Dl k ts)=_;rw[Rat.add_assoc]
   ·rw[AG h2]
    have:Dl k ts=0:=by
     have:∀ts:Bf,¬JN k ts=true->Dl k ts=0:=λts=>by
      induction ts with
      |nil=>intro _;rfl
      |cons a ts ih=>
       intro hq;unfold JN at hq;rw[List.any_cons,Ma,not_or,decide_eq_true_iff]at hq;unfold Dl;rw[AG hq.1];exact ih hq.2
     exact this ts h2
    rw[this,Rat.add_zero]
  ·rw[AG h1,AG h1,Az h1,Bool.false_or]
theorem al:∀ {A B:Bf},GO A->GO B->(∀k,DB k A=DB k B)->A=B
 | [],[],_,_,_=>rfl
 | [],b::B,_,_,h=>by
  have:=h b.1
  unfold DB at this;rw[AH rfl]at this;cases this
 |a::A,[],_,_,h=>by
  have:=h a.1
  unfold DB at this;rw[AH rfl]at this;cases this
 |a::A,b::B,hA,hB,h=>by
  have pA:=DN.1 hA;have pB:=DN.1 hB;have la:∀k,DB k (a::A)=if a.1=k then some a.2 else DB k A:=λ_=>rfl
  have lb:∀k,DB k (b::B)=if b.1=k then some b.2 else DB k B:=λ_=>rfl
  have mem:∀ {Q:Bf} {k:List UInt8} {v:Rat},DB k Q=some v->k∈Cr Q:=λ{Q k v} hq=>by
   apply DA;intro hn;rw[Pv hn]at hq;cases hq
  have hk:a.1=b.1:=by
   apply DA;intro hne;have h1:=h a.1;rw[la,lb,AH rfl,AG (λe=>hne e.symm)]at h1;have h2:=h b.1;rw[la,lb,AH rfl,AG hne]at h2;obtain⟨z,hz,e⟩:=CL.1 (mem h1.symm);obtain⟨y,hy,e2⟩:=CL.1 (mem h2);have q1:=pB.1 z hz;have q2:=pA.1 y hy;rw[e]at q1;rw[e2]at q2
   have:=swo_ltStr.trans _ _ _ q1 q2
   rw[swo_ltStr.irrefl]at this;cases this
  have hv:a.2=b.2:=by
   have h1:=h a.1;rw[la,lb,AH rfl,AH hk.symm]at h1;exact GJ h1
  have hab:a=b:=Prod.ext hk hv;rw[hab,al pA.2 pB.2 λk=>?_];have h1:=h k;rw[la,lb]at h1
  by_cases e:a.1=k
  ·have n1:DB k A=none:=Pv λq=>by
    obtain⟨z,hz,e3⟩:=CL.1 q
    have:=pA.1 z hz
    rw[e,e3,swo_ltStr.irrefl]at this;cases this
   have n2:DB k B=none:=Pv λq=>by
    obtain⟨z,hz,e3⟩:=CL.1 q
    have:=pB.1 z hz
    rw[<-hk,e,e3,swo_ltStr.irrefl]at this;cases this
   rw[n1,n2]
  ·rw[AG e,AG (λq=>e (hk.trans q))]at h1
   exact h1
def IX (k:List UInt8)(x:AE):Rat:=Dl k (x.shs.map λs=>(s.lot,Bc s.part))
def Ff (k:List UInt8):List AE->Rat
 | []=>0
 |x::l=>IX k x*(x.mass:Rat)+Ff k l
def X5 (k:List UInt8)(x:AE):Bool:=x.shs.any λs=>decide (s.lot=k)
def Kz (k:List UInt8)(l:List AE):Bool:=l.any (X5 k)
theorem bb (k:List UInt8):∀a b:Bf,Dl k (a++b)=Dl k a+Dl k b
 | [],b=>by rw[E7];show _=0+_;rw[Rat.zero_add]
 |t::a,b=>by
  show(if t.1=k then t.2+Dl k (a++b)else Dl k (a++b))=(if t.1=k then t.2+Dl k a else Dl k a)+Dl k b;rw[bb k a b];split
  ·rw[Rat.add_assoc]
  ·rfl
theorem rO (k:List UInt8)(a b:Bf):JN k (a++b)=(JN k a||JN k b):=List.any_append
theorem bc (k:List UInt8)(m:Rat):∀l:List A0,Dl k (l.map λs=>(s.lot,Bc s.part*m))=Dl k (l.map λs=>(s.lot,Bc s.part))*m
 | []=>by show(0:Rat)=0*m;rw[Rat.zero_mul]
 |s::l=>by
  show(if s.lot=k then Bc s.part*m+Dl k (l.map λs=>(s.lot,Bc s.part*m))else Dl k (l.map λs=>(s.lot,Bc s.part*m)))=(if s.lot=k then Bc s.part+Dl k (l.map λs=>(s.lot,Bc s.part))else Dl k (l.map λs=>(s.lot,Bc s.part)))*m;rw[bc k m l];split
  ·rw[Rat.add_mul]
  ·rfl
theorem be (k:List UInt8):∀l:List AE,Dl k (J9 l)=Ff k l
 | []=>rfl
 |x::l=>by
  show Dl k ((x.shs.map λs=>(s.lot,Bc s.part*(x.mass:Rat)))++J9 l)=_;rw[bb,bc,be k l];rfl
theorem af (k:List UInt8):∀l:List AE,JN k (J9 l)=Kz k l
 | []=>rfl
 |x::l=>by
  show JN k ((x.shs.map λs=>(s.lot,Bc s.part*(x.mass:Rat)))++J9 l)=(X5 k x||Kz k l);rw[rO,af k l]
  congr 1
  unfold JN X5;rw[List.any_map];rfl
theorem VE (k:List UInt8)(l:List AE):DB k (DX l)=if Kz k l=true then some (Ff k l)else none:=by
 rw[U6,Z7 List.Pairwise.nil,af,be];split
 ·show some ((0:Rat)+_)=_
  rw[Rat.zero_add]
 ·rfl
theorem fU (k:List UInt8):∀a b:List AE,Ff k (a++b)=Ff k a+Ff k b
 | [],b=>by rw[E7];show _=0+_;rw[Rat.zero_add]
 |x::a,b=>by
  show IX k x*(x.mass:Rat)+Ff k (a++b)=IX k x*(x.mass:Rat)+Ff k a+Ff k b;rw[fU k a b,Rat.add_assoc]
theorem fV (k:List UInt8)(x:AE):∀n:Nat,Ff k (List.replicate n (x.w 1))=IX k x*((n:Int):Rat)
 | 0=>by show(0:Rat)=IX k x*((0:Int):Rat);rw[show((0:Int):Rat)=0 from rfl,Rat.mul_zero]
 |n+1=>by
  rw[List.replicate_succ];show IX k x*((1:Int):Rat)+Ff k (List.replicate n (x.w 1))=_;rw[fV k x n,<-Rat.mul_add,<-Rat.intCast_add,show(1:Int)+(n:Int)=((n+1:Nat):Int) by omega]
theorem XO (k:List UInt8):∀ {l:List AE},(∀x∈l,0<=x.mass)->Ff k (Bj l)=Ff k l
 | [],_=>rfl
 |x::l,h=>by
  have hx:=h x (CF ..);rw[IB,fU,fV,XO k λy hy=>h y (B6 _ hy),Int.toNat_of_nonneg hx];rfl
theorem eC (k:List UInt8){l:List AE}(h:∀x∈l,1<=x.mass):Kz k (Bj l)=Kz k l:=by
 rw[E6];unfold Kz;rw[List.any_eq_true,List.any_eq_true];constructor
 ·rintro⟨y,hy,e⟩
  obtain⟨z,hz,rfl,_⟩:=XQ y hy;exact⟨z,hz,e⟩
 ·rintro⟨y,hy,e⟩
  refine⟨y.w 1,?_,e⟩;unfold Bj;exact List.mem_flatMap.2 ⟨y,hy,List.mem_replicate.2 ⟨by have:=h y hy;omega,rfl⟩⟩
theorem sM (k:List UInt8){a b:List AE}(h:a.Perm b):Ff k a=Ff k b:=by
 induction h with
 |nil=>rfl
 |cons x _ ih=>show _+_=_+_;rw[ih]
 |swap x y l=>
  show IX k y*(y.mass:Rat)+(IX k x*(x.mass:Rat)+Ff k l)=IX k x*(x.mass:Rat)+(IX k y*(y.mass:Rat)+Ff k l);rw[<-Rat.add_assoc,<-Rat.add_assoc,Rat.add_comm (IX k y*(y.mass:Rat))]
 |trans _ _ i1 i2=>exact i1.trans i2
theorem pq (k:List UInt8){a b:List AE}(h:a.Perm b):Kz k a=Kz k b:=by
 rw[E6];unfold Kz;rw[List.any_eq_true,List.any_eq_true];exact⟨λ⟨y,hy,e⟩=>⟨y,h.mem_iff.1 hy,e⟩,λ⟨y,hy,e⟩=>⟨y,h.mem_iff.2 hy,e⟩⟩
def IK (bot:Nat->Bool)(n:Nat):Nat->Nat
 | 0=>0
 |j+1=>IK bot n j+if bot (n-j)then 1 else 0
theorem iM (bot:Nat->Bool)(n j:Nat):IK bot n (j+1)=IK bot n j+if bot (n-j)then 1 else 0:=rfl
theorem dc (bot:Nat->Bool)(n:Nat):∀j,IK bot n j<=j
 | 0=>Am _
 |j+1=>by have:=dc bot n j;unfold IK;split<;>omega
theorem aq {bot:Nat->Bool}{n:Nat}(hb:∀k,bot k=true):∀j,IK bot n j=j
 | 0=>rfl
 |j+1=>by rw[iM,aq hb j,AH (hb _)]
theorem ap {bot:Nat->Bool}{n c:Nat}(hc:0<c)(hb:∀k,bot k=decide (k%c=0)):∀j,j<=n->IK bot n j=n/c-(n-j)/c
 | 0,_=>by show 0=n/c-(n-0)/c;rw[Nat.sub_zero,Nat.sub_self]
 |j+1,h=>by
  rw[iM,ap hc hb j (by omega),hb];have h1:(n-j)/c<=n/c:=Nat.div_le_div_right (by omega);have e:n-j=(n-(j+1))+1:=by omega
  have h2:=Nat.succ_div (a:=n-(j+1)) (b:=c);rw[show n-(j+1)+1=n-j by omega]at h2
  by_cases hd:c ∣ n-j
  ·rw[AH hd]at h2
   rw[AH (Ax (Nat.mod_eq_zero_of_dvd hd))];omega
  ·rw[AG hd]at h2
   rw[AG (λq=>hd (Nat.dvd_of_mod_eq_zero (DQ q)))];omega
def MB (x:Bp)(k:Nat):Bool:=BU (sb x.flow) G9||decide (k%x.core.toNat=0)
def Sx (x:Bp):Prop:=BU (sb x.flow) G9=true\/2<=x.core/\x.core<=999999999
abbrev dR:Dr:=[(3,[0,1,2,3,4,5,6,7,8,9],[10,11])]
open Go.Proofs Go.RowKit
set_option maxRecDepth 20000
set_option maxHeartbeats 4000000
theorem d6h {x:Bp}{n m:Nat}(hm:m<=n)(hf:BU (sb x.flow) G9=false)(hc:2<=x.core):IK (MB x) n m=n/x.core.toNat-(n-m)/x.core.toNat:=by
 refine ap (by omega) (λk=>?_) m hm;unfold MB;rw[hf,Bool.false_or]
theorem t7 {x:Bp}{n m:Nat}(hf:BU (sb x.flow) G9=true):IK (MB x) n m=m:=by
 refine aq (λk=>?_) m;unfold MB;rw[hf,Bool.true_or]
def RY (bk:Bool)(l:List AE):List AE:=if bk then(Bj l).reverse else Bj l
theorem d7K (bk:Bool)(l:List AE):Bj (Gn bk l)=RY bk l:=by
 unfold Gn RY;cases bk
 ·rfl
 ·exact XS l
theorem ul (x:Bp)(n m:Nat)(hm:m<=n)(hn:n<=1000000000)(hf:Sx x):AI C0 31 [x.D,i64 (n:Int),i64 (m:Int)] (i64 ((IK (MB x) n m:Nat):Int)):=by
 refine Ac.walk w1 d8T rfl λF=>?_
 have ho:=@d6h x n m hm;have ho':=@t7 x n m;unfold Sx at hf;obtain⟨A,hA⟩:∃A,IK (MB x) n m=A:=⟨_,rfl⟩
 rw[hA]at ho ho'⊢;unfold G9 at ho ho' hf;unfold Bp.D;cases hq:BU (sb x.flow) ⟨#[109,97,115,115]⟩
 rotate_left
 ·rw[ho' hq]
  refine AR dR (BG hq kT kF) AB AB AB AB AB AB ?_;exact AM rfl AA.out
 obtain⟨h2,h3⟩:2<=x.core/\x.core<=999999999:=by
  rcases hf with h|h
  ·rw[hq]at h;cases h
  ·exact h
 have ho:=ho hq h2;obtain⟨c,hc⟩:∃c:Nat,x.core=(c:Int):=⟨x.core.toNat,by omega⟩
 rw[hc]at h2 h3 ho⊢;rw[Iv]at ho;have q0:((c:Int)==0)=false:=B8.2 (by omega);have e2:IntKind.i64.wrap ((n:Int)-(m:Int))=((n-m:Nat):Int):=by rw[wI];omega
 have l1:n/c<=n:=GH _ _;have l2:(n-m)/c<=n-m:=GH _ _;have l3:(n-m)/c<=n/c:=Nat.div_le_div_right (by omega);have q1:((n:Int)).tdiv (c:Int)=((n/c:Nat):Int):=rfl;have q2:(((n-m:Nat):Int)).tdiv (c:Int)=(((n-m)/c:Nat):Int):=rfl;obtain⟨D1,hD1⟩:∃q,n/c=q:=⟨_,rfl⟩
 obtain⟨D2,hD2⟩:∃q,(n-m)/c=q:=⟨_,rfl⟩
 rw[hD1]at l1 l3 q1 ho;rw[hD2]at l2 l3 q2 ho;clear hD1 hD2;have q3:IntKind.i64.wrap ((D1:Nat):Int)=(D1:Int):=wI;have q4:IntKind.i64.wrap ((D2:Nat):Int)=(D2:Int):=wI;have q5:IntKind.i64.wrap ((D1:Int)-(D2:Int))=(A:Int):=by rw[wI];omega
 refine AR dR (D7 hq e2 q1 q2 q3 q4 (BG q5 kT kF)) AB AB AB AB AB AB ?_;exact AM rfl AA.out
theorem kM (b bk:Bool)(l:List AE)(m:Nat)(hl:l.length<=1000000)(hm:m<=1000000000)(hx:∀x∈l,0<=x.mass/\x.mass<=1000000000/\x.shs.length<=1000000):AI C0 37 [Au b l,i64 (m:Int),Av bk] (Au false (BS ((RY bk l).take m))):=by
 refine Ac.walk w1 d8Y rfl λF=>?_
 have hxo:∀x∈Gn bk l,0<=x.mass/\x.mass<=1000000000/\x.shs.length<=1000000:=λx q=>hx x (by
  unfold Gn at q;cases bk
  ·exact q
  ·exact List.mem_reverse.1 q)
 have hol:(Gn bk l).length=l.length:=by
  unfold Gn;cases bk
  ·rfl
  ·exact List.length_reverse
 have ho:∀x∈l,∀m,AI C0 79 [x.D,i64 m] (x.w m).D:=λx q m=>XK x m (hx x q).2.2
 have cA:=uV b bk l (m:Int) hl ⟨by omega,by omega⟩ (λx q=>⟨(hx x q).1,(hx x q).2.1⟩) ho _ (Vz false (EY (Gn bk l) (m:Int)) (by
  have:=WI (Gn bk l) (m:Int)
  omega) (XN hxo (by omega)))
 rw[TO λx q=>(XN hxo (by omega) x q).1,Xu (λx q=>(hxo x q).1) (by omega),d7K,Iv]at cA
 by_cases h0:m=0
 ·subst h0
  have k1:(((0:Nat):Int)==0)=true:=rfl;refine AR Aq k1 AB AB AB AB AB AB ?_;rw[LJ];exact⟨_,.nil 3,AA.out,rfl⟩
 ·have k1:((m:Int)==0)=false:=B8.2 (by omega)
  refine AR Aq k1 cA AB AB AB AB AB ?_;exact AM rfl AA.out
def GU (x:Bp)(c:List AE)(m:Nat):Nat:=IK (MB x) (Bj c).length m
def Kr (x:Bp)(c:List AE)(m:Nat):List AE:=((Bj c).drop (GU x c m)).take ((Bj c).length-m)
def Qe (x:Bp)(c:List AE)(m:Nat):List AE:=(Bj c).reverse.take (m-GU x c m)++(Bj c).take (GU x c m)
theorem de (x:Bp)(c:List AE)(m:Nat):GU x c m<=m:=dc _ _ _
def RT (l:List AE)(y:AE):Prop:=∃z∈l,y.grain=z.grain/\y.shs=z.shs
theorem R6 {l:List AE}:∀y∈BS l,RT l y:=by
 have:∀(l R A:List AE),(∀y∈R,RT A y)->∀y∈l.foldl Cv R,RT (A++l) y:=λl=>by
  induction l with
  |nil=>intro R A h y hy;rw[Dh];exact h y hy
  |cons x l ih=>
   intro R A h y hy;rw[List.foldl_cons]at hy
   have:=ih (Cv R x) (A++[x]) (λz hz=>by
    unfold Cv at hz;split at hz
    ·rename_i w hw
     split at hz
     ·rcases Bs.1 hz with hz|hz
      ·obtain⟨q,hq,e⟩:=h z ((List.dropLast_sublist R).subset hz)
       exact⟨q,IS _ hq,e⟩
      ·obtain rfl:=DG.1 hz
       obtain⟨q,hq,e⟩:=h w (List.mem_of_getLast? hw);exact⟨q,IS _ hq,e⟩
     ·rcases Bs.1 hz with hz|hz
      ·obtain⟨q,hq,e⟩:=h z hz
       exact⟨q,IS _ hq,e⟩
      ·obtain rfl:=DG.1 hz
       exact⟨z,List.mem_append_right _ (DG.2 rfl),rfl,rfl⟩
    ·obtain rfl:=DG.1 hz
     exact⟨z,List.mem_append_right _ (DG.2 rfl),rfl,rfl⟩) y hy
   rw[DO]at this;exact this
 intro y hy
 have:=this l [] [] (λy hy=>by cases hy) y hy
 rwa [E7]at this
theorem ua {l:List AE}:∀y∈Bj l,RT l y:=λy hy=>by
 obtain⟨z,hz,rfl,_⟩:=XQ y hy;exact⟨z,hz,rfl,rfl⟩
theorem M8 {l:List AE}(h:∀x∈l,1<=x.mass):∀y∈BS l,1<=y.mass:=by
 have:∀(l R:List AE),(∀x∈l,1<=x.mass)->(∀y∈R,1<=y.mass)->∀y∈l.foldl Cv R,1<=y.mass:=λl=>by
  induction l with
  |nil=>intro R _ h;exact h
  |cons x l ih=>
   intro R hl hR;rw[List.foldl_cons];refine ih _ (λy hy=>hl y (B6 _ hy)) λz hz=>?_
   have hx:=hl x (CF ..);unfold Cv at hz;split at hz
   ·rename_i w hw
    split at hz
    ·rcases Bs.1 hz with hz|hz
     ·exact hR z ((List.dropLast_sublist R).subset hz)
     ·obtain rfl:=DG.1 hz
      have:=hR w (List.mem_of_getLast? hw)
      show 1<=w.mass+x.mass;omega
    ·rcases Bs.1 hz with hz|hz
     ·exact hR z hz
     ·obtain rfl:=DG.1 hz;exact hx
   ·obtain rfl:=DG.1 hz;exact hx
 exact this l [] h λy hy=>by cases hy
theorem Y5 {l:List AE}(h:∀x∈l,0<=x.mass){y:AE}(hy:y∈l):y.mass<=Ak l:=by
 obtain⟨A,B,rfl⟩:=El hy;rw[SF,show Ak (y::B)=y.mass+Ak B from rfl];have p1:=M9 (l:=A) λz hz=>h z (IS _ hz)
 have p2:=M9 (l:=B) λz hz=>h z (List.mem_append_right _ (B6 _ hz))
 omega
theorem oI {y z:AE}(h:Bw z=0)(e1:y.grain=z.grain)(e2:y.shs=z.shs)(hm:1<=y.mass/\y.mass<=999999999):Bw y=0:=by
 unfold Bw at h⊢;rw[e1,e2];split at h
 ·cases h
 ·split at h
  ·cases h
  ·rw[AG (by assumption),B3];exact h
theorem V3 {l L:List AE}(h:CR l=0)(hk:∀y∈L,RT l y)(hn:L.length<=64)(hm:∀y∈L,1<=y.mass)(hs:Ak L<=999999999):CR L=0:=by
 obtain⟨h1,h2,h3⟩:=IC h;have h0:∀y∈L,0<=y.mass:=λy hy=>by have:=hm y hy;omega
 unfold CR;rw[B3,IZ (λj hj=>?_),AG (by decide),B3];have hj2:CU L j∈L:=by
  unfold CU;rw[FY,B4 hj];exact List.getElem_mem hj
 obtain⟨z,hz,e1,e2⟩:=hk _ hj2
 have:=Y5 h0 hj2
 exact oI (h2 z hz) e1 e2 ⟨hm _ hj2,by omega⟩
theorem vJ {x:Bp}(h:FD x=0):Jb x=0/\HD x.side (Fu x)=false:=by
 unfold FD at h
 by_cases h1:Jb x=0
 ·rw[AG (λq=>q h1)]at h
  by_cases h2:Hb x x.cells=0
  ·rw[AG (λq=>q h2)]at h
   refine⟨h1,?_⟩;cases hb:HD x.side (Fu x)
   ·rfl
   ·rw[hb]at h;cases h
  ·rw[AH h2]at h;exact Ah h h2
 ·rw[AH h1]at h;exact Ah h h1
theorem uE {x:Bp}(h:FD x=0):Sx x:=by
 have h1:=(vJ h).1;rw[zQ]at h1;split at h1
 ·cases h1
 rename_i hf;split at h1
 ·cases h1
 rename_i hr;unfold Q5 at hr;unfold Sx;cases hm:BU (sb x.flow) G9
 ·rw[hm]at hf hr
  cases hu:BU (sb x.flow) Js
  ·rw[hu]at hf;exact Ah rfl hf
  ·rw[hu]at hr
   simp only[JV,Hs,Bool.false_or,Ma,HL,not_or]at hr;exact .inr (by omega)
 ·exact .inl rfl
def Ii (x:Bp)(i m:Int):Int:=En [K4 x [i],if decide (m<0)then 3 else 0]
def FE (x:Bp)(i m:Int):Bp:=Qn x i.toNat (BS (Kr x (In x i) m.toNat))
def HG (x:Bp)(i m:Int):List AE:=BS (Qe x (In x i) m.toNat)
def L3 (x:Bp)(i m:Int):Int:=if HD x.side (Fu (FE x i m))then 17 else if 64<(HG x i m).length then 5 else 0
def JL (x:Bp)(i m:Int):Int:=if Ii x i m≠0 then Ii x i m else if Ak (In x i)<m then 13 else L3 x i m
def MC (x:Bp)(i m:Int):Bp:=if JL x i m≠0 then Ti else FE x i m
def Tv (x:Bp)(i m:Int):List AE:=if JL x i m≠0 then[]else HG x i m
theorem fE {P Q:List AE}(hP:∀y∈P,1<=y.mass)(hQ:∀y∈Q,1<=y.mass):BS (BS P++BS Q)=BS (P++Q):=by
 have h0:∀L:List AE,(∀y∈L,1<=y.mass)->∀y∈L,0<=y.mass:=λL h y hy=>by have:=h y hy;omega
 refine d6u (λy hy=>?_) (λy hy=>?_) ?_
 ·rcases Bs.1 hy with h|h
  ·exact M8 hP y h
  ·exact M8 hQ y h
 ·rcases Bs.1 hy with h|h
  ·exact hP y h
  ·exact hQ y h
 ·rw[Jy,Jy,TQ (h0 P hP),TQ (h0 Q hQ)]
structure d8o (x:Bp)(i m:Int)(c:List AE)(n k:Nat):Prop where
 cel:∀c∈x.cells,GY x c=0
 bin:FD x=0
 lt:i.toNat<x.cells.length
 ii:i=(i.toNat:Int)
 at_:x.cells[i.toNat]?=some c
 mm:m=(k:Int)
 nn:(n:Int)=Ak c
 un:(Bj c).length=n
 par:CR c=0
theorem vX {x:Bp}{i m:Int}(h:Ii x i m=0):d8o x i m (In x i) (Bj (In x i)).length m.toNat:=by
 obtain⟨h1,h2⟩:=iA h;obtain⟨g1,g2,g3⟩:=vO h1;have hlt:i.toNat<x.cells.length:=by omega
 have hat:x.cells[i.toNat]?=some (In x i):=by
  unfold In;rw[FY,B4 hlt];rfl
 have hp:=(gf (cX g1 _ (A8 hat))).1;have hm:¬m<0:=λq=>by rw[Ax q]at h2;cases h2
 exact⟨cX g1,g1,hlt,by omega,hat,by omega,XR λy hy=>by have:=((HY hp).2.1 y hy).1;omega,rfl,hp⟩
theorem fh:∀ {L:List AE},(∀y∈L,y.mass=1)->Ak L=(L.length:Int)
 | [],_=>rfl
 |a::L,h=>by
  rw[show Ak (a::L)=a.mass+Ak L from rfl,h a (CF ..),fh λy hy=>h y (B6 _ hy),By];omega
theorem Vo {c:List AE}:∀y∈Bj c,y.mass=1:=λy hy=>by
 obtain⟨z,hz,rfl,_⟩:=XQ y hy;rfl
theorem jT {c L:List AE}(hp:CR c=0)(hL:∀y∈L,y∈Bj c)(hl:L.length<=(Bj c).length):(∀y∈BS L,1<=y.mass/\y.mass<=1000000000/\y.shs.length<=1000000)/\Ak (BS L)=(L.length:Int):=by
 have h1:∀y∈L,y.mass=1:=λy hy=>Vo y (hL y hy)
 have hs:=fh h1;have hc:=(IC hp).2.2;have hn:=XR (l:=c) λy hy=>by have:=((HY hp).2.1 y hy).1;omega
 have h0:∀y∈BS L,1<=y.mass:=M8 λy hy=>by rw[h1 y hy];exact Int.le_refl _
 refine⟨λy hy=>⟨h0 y hy,?_,?_⟩,by rw[Lj,hs]⟩
 ·have:=Y5 (λz hz=>by have:=h0 z hz;omega) hy
  rw[Lj,hs]at this;omega
 ·obtain⟨z,hz,_,e⟩:=R6 y hy
  obtain⟨w,hw,_,e2⟩:=ua z (hL z hz);rw[e,e2];exact((HY hp).2.1 w hw).2.2
theorem Yx {c:List AE}{k:Nat}(hc:∀y∈c,1<=y.mass):(BS ((Bj c).take k)).length<=c.length:=by
 have h0:∀y∈c,0<=y.mass:=λy hy=>by have:=hc y hy;omega
 have e:=Xu (l:=c) (m:=(k:Int)) h0 (by omega);rw[Iv]at e;have h1:∀y∈EY c (k:Int),0<=y.mass:=by
  have:∀(l:List AE) (m:Int),(∀y∈l,0<=y.mass)->0<=m->∀y∈EY l m,0<=y.mass:=λl=>by
   induction l with
   |nil=>intro m _ _ y hy;cases hy
   |cons a l ih=>
    intro m h hm y hy
    have:=h a (CF ..)
    rcases Aw.1 hy with rfl|hy
    ·show 0<=min a.mass m;omega
    ·split at hy
     ·cases hy
     ·exact ih _ (λz hz=>h z (B6 _ hz)) (by omega) y hy
  exact this c _ h0 (by omega)
 have h2:=TO h1;rw[e]at h2;rw[<-h2];have h3:=Kj (Db (EY c (k:Int)));have h4:(Db (EY c (k:Int))).length<=(EY c (k:Int)).length:=List.length_filter_le ..;have h5:=WI c (k:Int);omega
theorem mq {c:List AE}{k:Nat}(hc:∀y∈c,1<=y.mass):(BS ((Bj c).reverse.take k)).length<=c.length:=by
 rw[<-XS]
 have:=Yx (c:=c.reverse) (k:=k) λy hy=>hc y (List.mem_reverse.1 hy)
 rwa [List.length_reverse]at this
theorem qL {x:Bp}{c:List AE}{m:Nat}(hc:∀y∈c,1<=y.mass):(BS (Kr x c m)).length<=c.length:=by
 have h0:∀y∈c,0<=y.mass:=λy hy=>by have:=hc y hy;omega
 have e:=Xc (l:=c) (low:=(GU x c m:Int)) (left:=(((Bj c).length-m:Nat):Int)) h0 (by omega) (by omega);rw[Iv,Iv]at e;have hbl:∀(l:List AE) (a b:Int),(Fo l a b).length=l.length:=λl=>by
  induction l with
  |nil=>intro a b;rfl
  |cons z l ih=>intro a b;show(Fo l _ _).length+1=_;rw[ih];rfl
 have hbn:∀(l:List AE) (a b:Int),(∀y∈l,0<=y.mass)->0<=a->0<=b->∀y∈Fo l a b,0<=y.mass:=λl=>by
  induction l with
  |nil=>intro a b _ _ _ y hy;cases hy
  |cons z l ih=>
   intro a b h ha hb y hy
   have:=h z (CF ..)
   rcases Aw.1 hy with rfl|hy
   ·show 0<=min (z.mass-min z.mass a) b;omega
   ·exact ih _ _ (λw hw=>h w (B6 _ hw)) (by omega) (by omega) y hy
 have h2:=TO (hbn c (GU x c m:Int) (((Bj c).length-m:Nat):Int) h0 (by omega) (by omega));rw[e]at h2;show(BS (((Bj c).drop (GU x c m)).take ((Bj c).length-m))).length<=_;rw[<-h2];have h3:=Kj (Db (Fo c (GU x c m:Int) (((Bj c).length-m:Nat):Int)));have h4:(Db (Fo c (GU x c m:Int) (((Bj c).length-m:Nat):Int))).length<=(Fo c (GU x c m:Int) (((Bj c).length-m:Nat):Int)).length:=List.length_filter_le ..;rw[hbl]at h4;omega
abbrev Jt:Dr:=[(9,[0,1,2,3,4,5,6,7,8,9],[10]),(11,[0,1,2,3,4],[5,6,7])]
open Go.Proofs Go.RowKit
set_option maxRecDepth 20000
set_option maxHeartbeats 4000000
theorem Vs {H:Hp}{a a' b b' c:D}(h1:Fz H [] a a')(h2:Fz H [] b b'):Fz H [] (.tup [a,b,c]) (.tup [a',b',c]):=rM h1 h2
theorem e0g (x:Bp)(hl:x.cells.length<=1000000)(hc:∀c∈x.cells,c.length<=1000000/\∀y∈c,y.few)(i m:Int):AI C0 7 [x.D,i64 i,i64 m] (.tup [(MC x i m).D,Au false (Tv x i m),i64 (JL x i m)]):=by
 refine Ac.walk w1 e1X rfl λF=>?_
 have cC:=e0i x hl hc [i] (by simp);have cW:=JG (decide (m<0)) 3;have cF1:=OU [K4 x [i],if decide (m<0)then 3 else 0] (by simp);rw[show En [K4 x [i],if decide (m<0)then 3 else 0]=Ii x i m from rfl]at cF1;have hE:JL x i m=if Ii x i m≠0 then Ii x i m else if Ak (In x i)<m then 13 else L3 x i m:=rfl
 have hB:MC x i m=if JL x i m≠0 then Ti else FE x i m:=rfl
 have hL:Tv x i m=if JL x i m≠0 then[]else HG x i m:=rfl
 have hz:Ti.D=.agg [str (sb []),i64 0,i64 0,i64 0,.sl false 1 []]:=rfl;have pz:AA (.tup [Ti.D,Au false [],i64 (JL x i m)]):=AJ;rw[hz]at pz
 by_cases h0:Ii x i m=0
 rotate_left
 ·have k2:(Ii x i m != 0)=true:=Kk h0
  rw[AH h0]at hE;rw[hE,AH h0]at hB hL;rw[hE]at pz;rw[hB,hL,hE,hz];unfold Bp.D at cC⊢;refine AR Jt k2 cC cW cF1 AB AB AB ?_;exact⟨_,Vs (S6 (.nil 1)) (.nil 3),pz.out,rfl⟩
 have k2:(Ii x i m != 0)=false:=by rw[h0];rfl
 rw[AG (λh=>h h0)]at hE;have ok:=vX h0;obtain⟨c,hcc⟩:∃c,In x i=c:=⟨_,rfl⟩
 obtain⟨k,hk⟩:∃k,m.toNat=k:=⟨_,rfl⟩
 obtain⟨n,hn⟩:∃n,(Bj c).length=n:=⟨_,rfl⟩
 have hO:FE x i m=Qn x i.toNat (BS (Kr x c k)):=by unfold FE;rw[hcc,hk]
 have hF:HG x i m=BS (Qe x c k):=by unfold HG;rw[hcc,hk]
 have hE3:L3 x i m=if HD x.side (Fu (FE x i m))then 17 else if 64<(HG x i m).length then 5 else 0:=rfl
 rw[hcc]at hE ok;rw[hk,hn]at ok;have hpn:=HY ok.par;have hps:=(IC ok.par).2.2;have hmem:=A8 ok.at_;have cT:=QW false c (by omega);rw[Pz hpn.2.2,<-ok.nn]at cT;have hat:(x.cells.map (Au false))[i.toNat]?=some (.sl false 3 (c.map AE.D)):=by rw[BT,ok.at_];rfl
 have hi0:0<=i:=by have:=ok.ii;omega
 have hil:i<(x.cells.length:Int):=by have:=ok.ii;have:=ok.lt;omega
 have el:(((x.cells.map (Au false)).length:Nat):Int)=(x.cells.length:Int):=by rw[Al]
 have hmk:=ok.mm
 by_cases h1:Ak c<m
 ·have k3:decide ((n:Int)<m)=true:=Ax (by rw[ok.nn];exact h1)
  rw[AH h1]at hE;rw[hE,AH (by decide)]at hB hL;rw[hE]at pz;rw[hB,hL,hE,hz];unfold Bp.D at cC⊢;refine AR Jt (BG k2 el k3) cC cW cF1 hat cT AB ?_;exact⟨_,Vs (S6 (.nil 1)) (.nil 3),pz.out,rfl⟩
 have k3:decide ((n:Int)<m)=false:=Az (by rw[ok.nn];exact h1);rw[AG h1]at hE;have hkn:k<=n:=by have:=ok.nn;omega
 have hnB:n<=1000000000:=by have:=ok.nn;omega
 have cLo:=ul x n k hkn hnB (uE ok.bin);have hlX:GU x c k=IK (MB x) n k:=by unfold GU;rw[hn]
 rw[<-hlX]at cLo;have hA:=de x c k;have hxc:∀y∈c,0<=y.mass/\y.mass<=1000000000/\y.shs.length<=1000000:=λy hy=>⟨by have:=(hpn.2.1 y hy).1;omega,(hpn.2.1 y hy).2⟩
 have hown:∀y∈c,∀m,AI C0 79 [y.D,i64 m] (y.w m).D:=λy q m=>XK y m (hxc y q).2.2
 have hrD:Kr x c k=((Bj c).drop (GU x c k)).take (n-k):=by unfold Kr;rw[hn]
 have hfD:Qe x c k=(Bj c).reverse.take (k-GU x c k)++(Bj c).take (GU x c k):=rfl;obtain⟨A,hAe⟩:∃A,GU x c k=A:=⟨_,rfl⟩
 rw[hAe]at cLo hA hrD hfD;have hbl:∀(l:List AE) (a b:Int),(Fo l a b).length=l.length:=λl=>by
  induction l with
  |nil=>intro a b;rfl
  |cons z l ih=>intro a b;show(Fo l _ _).length+1=_;rw[ih];rfl
 have hbn:∀(l:List AE) (a b:Int),(∀y∈l,0<=y.mass/\y.mass<=1000000000/\y.shs.length<=1000000)->0<=a->0<=b->∀y∈Fo l a b,0<=y.mass/\y.mass<=1000000000/\y.shs.length<=1000000:=λl=>by
  induction l with
  |nil=>intro a b _ _ _ y hy;cases hy
  |cons z l ih=>
   intro a b h ha hb y hy
   have:=h z (CF ..)
   rcases Aw.1 hy with rfl|hy
   ·refine⟨?_,?_,this.2.2⟩
    ·show 0<=min (z.mass-min z.mass a) b;omega
    ·show min (z.mass-min z.mass a) b<=_;omega
   ·exact ih _ _ (λw hw=>h w (B6 _ hw)) (by omega) (by omega) y hy
 have cBt:=nf false c (A:Int) ((k-A:Nat):Int) (by omega) ⟨by omega,by omega⟩ ⟨by omega,by omega⟩ (n:Int) ⟨by omega,by omega⟩ (λy q=>⟨(hxc y q).1,(hxc y q).2.1⟩) cT hown (Au false (BS (Kr x c k))) (by
  have h3:=Vz false (Fo c (A:Int) ((n:Int)-A-((k-A:Nat):Int))) (by rw[hbl];omega) (hbn c _ _ hxc (by omega) (by omega));rw[TO λy hy=>(hbn c _ _ hxc (by omega) (by omega) y hy).1,Xc (λy hy=>(hxc y hy).1) (by omega) (by omega),Iv,show((n:Int)-A-((k-A:Nat):Int)).toNat=n-k by omega,<-hrD]at h3;exact h3)
 have wA:IntKind.i64.wrap (m-(A:Int))=((k-A:Nat):Int):=by rw[wI];omega
 have cWi:=e0k x i.toNat ok.lt hl (λc hq=>VG false c (hc c hq).1 (HY (gf (ok.cel c hq)).1).2.1) (BS (Kr x c k));rw[<-ok.ii,<-hO]at cWi;have cP1:=kM false true c (k-A) (by omega) (by omega) hxc;have cP2:=kM false false c A (by omega) (by omega) hxc;rw[show RY true c=(Bj c).reverse from rfl]at cP1;rw[show RY false c=Bj c from rfl]at cP2;have u1:=jT (L:=(Bj c).reverse.take (k-A)) ok.par (λy hy=>List.mem_reverse.1 (HK hy)) (by rw[Be,List.length_reverse];omega);have u2:=jT (L:=(Bj c).take A) ok.par (λy hy=>HK hy) (by rw[Be];omega);have g1:=mq (c:=c) (k:=k-A) λy hy=>(hpn.2.1 y hy).1
 have g2:=Yx (c:=c) (k:=A) λy hy=>(hpn.2.1 y hy).1
 have v1:∀y∈(Bj c).reverse.take (k-A),1<=y.mass:=λy hy=>by
  rw[Vo y (List.mem_reverse.1 (HK hy))];exact Int.le_refl _
 have v2:∀y∈(Bj c).take A,1<=y.mass:=λy hy=>by
  rw[Vo y (HK hy)];exact Int.le_refl _
 have hFn:=fE v1 v2;rw[<-hfD,<-hF]at hFn;obtain⟨P,hP⟩:∃P,BS ((Bj c).reverse.take (k-A))=P:=⟨_,rfl⟩
 obtain⟨Q,hQ⟩:∃Q,BS ((Bj c).take A)=Q:=⟨_,rfl⟩
 rw[hP]at cP1 u1 g1 hFn;rw[hQ]at cP2 u2 g2 hFn;have cCC:=bC [P,Q] (by rw[show[P,Q].flatten=P++Q by simp,Bz];omega) (by simp);rw[show[P,Q].flatten=P++Q by simp]at cCC;have cN:=VG false (P++Q) (by rw[Bz];omega) λy hy=>by
  rcases Bs.1 hy with h|h
  ·exact u1.1 y h
  ·exact u2.1 y h
 rw[hFn]at cN;have hFl:(HG x i m).length<=1000000:=by
  rw[<-hFn]
  have:=Kj (P++Q)
  rw[Bz]at this;omega
 have cCr:=iW (HG x i m) hFl;have hol:(FE x i m).cells.length=x.cells.length:=by
  rw[hO];show((x.cells.map BS).set _ _).length=_;rw[Dt,Al]
 have hoc:∀c∈(FE x i m).cells,c.length<=1000000:=λd hq=>by
  rw[hO]at hq;rcases YO hq with h|h
  ·obtain⟨e,h1,rfl⟩:=CL.1 h
   have:=Kj e
   have:=(hc e h1).1
   omega
  ·rw[h]
   have:=qL (x:=x) (c:=c) (m:=k) λy hy=>(hpn.2.1 y hy).1
   omega
 have cLv:=cY (FE x i m) (by omega) λc h=>by have:=hoc c h;omega
 have cSt:=ge x false (Fu (FE x i m)) (by unfold Fu;rw[Al];omega);have cF3:=OU [if HD x.side (Fu (FE x i m))then 17 else 0,if 64<(HG x i m).length then 5 else 0] (by simp);have hE3':En [if HD x.side (Fu (FE x i m))then 17 else 0,if 64<(HG x i m).length then 5 else 0]=L3 x i m:=by
  rw[hE3];cases HD x.side (Fu (FE x i m))
  ·by_cases h:64<(HG x i m).length
   ·rw[AH h];rfl
   ·rw[AG h];rfl
  ·rfl
 rw[hE3']at cF3;have hoD:(FE x i m).D=.agg [str (sb x.flow),i64 x.core,i64 x.room,i64 x.side,.sl false 1 ((FE x i m).cells.map (Au false))]:=by rw[hO];rfl
 have po:AA (.tup [(FE x i m).D,Au false (HG x i m),i64 (JL x i m)]):=AJ;have Nx:AA (FE x i m).D:=AJ;rw[hoD]at cWi cLv po Nx;obtain⟨OD,hOD⟩:∃O,(FE x i m).cells.map (Au false)=O:=⟨_,rfl⟩
 rw[hOD]at cWi cLv po Nx hoD;subst hmk
 by_cases h2:L3 x i (k:Int)=0
 rotate_left
 ·have k4:(L3 x i (k:Int) != 0)=true:=Kk h2
  rw[hE,AH h2]at hB hL;rw[hE]at pz;rw[hB,hL,hE,hz];unfold Bp.D at cC cWi cSt cLo⊢;refine AR Jt (Bo k2 el k3 wA) cC cW cF1 hat cT cLo ?_;refine AR Jt (Ae wA k4) cBt cWi AB AB AB AB ?_;refine AR Jt wA cP1 cP2 cCC cN cCr AB ?_;refine AR Jt k4 cLv cSt cF3 AB AB AB ?_;exact⟨_,Vs (S6 (.nil 1)) (.nil 3),pz.out,rfl⟩
 ·have k4:(L3 x i (k:Int) != 0)=false:=by rw[h2];rfl
  have h64:¬ 64<(HG x i (k:Int)).length:=λh=>by
   rw[hE3,AH h]at h2;split at h2<;>cases h2
  rw[hE,AG (λh=>h h2)]at hB hL;rw[hE,h2]at po;rw[AG h64]at cCr;rw[hB,hL,hE,h2,hoD];unfold Bp.D at cC cWi cSt cLo⊢;refine AR Jt (Bo k2 el k3 wA) cC cW cF1 hat cT cLo ?_;refine AR Jt (Ae wA k4) cBt cWi AB AB AB AB ?_;refine AR Jt wA cP1 cP2 cCC cN cCr AB ?_;refine AR Jt k4 cLv cSt cF3 AB AB AB ?_;exact AM rfl po.out
theorem ay {R:A0->A0->Prop}(ht:∀a b c,R a b->R b c->R a c):∀ {l:List A0},(∀i,i+1<l.length->R (Dp l i) (Dp l (i+1)))->l.Pairwise R
 | [],_=>List.Pairwise.nil
 | [a],_=>List.pairwise_singleton _ _
 |a::b::l,h=>by
  have h1:(b::l).Pairwise R:=ay ht λi hi=>h (i+1) (by simp at hi⊢;omega)
  have hab:R a b:=h 0 (by simp);refine DN.2 ⟨λc hc=>?_,h1⟩;rcases Aw.1 hc with rfl|hc
  ·exact hab
  ·exact ht a b c hab ((DN.1 h1).1 c hc)
theorem d7p {l:List A0}(h:G7 l=0):(l.Pairwise λs t=>ltStr s.lot t.lot=true)/\∀s∈l,chk s.part=0/\0<Bc s.part:=by
 unfold G7 at h;split at h
 ·cases h
 split at h
 ·cases h
 split at h
 ·rename_i q;exact Ah h q
 rename_i h0;have hall:=Pt (Classical.not_not.1 h0);have hat:∀i,i<l.length->chk (Dp l i).part=0/\0<Bc (Dp l i).part/\(0<i->Ly (Dp l i).lot (Dp l (i-1)).lot=false):=λi hi=>by
  have:=hall i hi
  unfold Fv at this;split at this
  ·cases this
  split at this
  ·cases this
  rename_i ho;split at this
  ·rename_i q;exact Ah this q
  rename_i hc;split at this
  ·cases this
  rename_i hs;refine⟨Classical.not_not.1 hc,?_,λh0=>?_⟩
  ·unfold Ga at hs
   apply DA;intro hn;have h9:=Rat.num_nonneg.2 (show 0≤-(Bc (Dp l i).part) by grind);rw[Rat.neg_num]at h9;exact hs (by omega)
  ·cases hb:Ly (Dp l i).lot (Dp l (i-1)).lot
   ·rfl
   ·exact Ah ⟨h0,hb⟩ ho
 refine⟨ay (R:=λs t=>ltStr s.lot t.lot=true) (λa b c=>swo_ltStr.trans a.lot b.lot c.lot) λi hi=>?_,λs hs=>?_⟩
 ·have:=(hat (i+1) hi).2.2 (by omega)
  rw[show i+1-1=i by omega]at this;unfold Ly at this;rw[LH,bX,Mu,PF]at this;cases h9:ltStr (Dp l i).lot (Dp l (i+1)).lot with
  |true=>rfl
  |false=>exact Ah (Rl this.1 h9) this.2
 ·obtain⟨i,hi,e⟩:=No hs
  have:=hat i hi
  have e2:Dp l i=s:=by
   unfold Dp;rw[FY,B4 hi,e];rfl
  rw[e2]at this;exact⟨this.1,this.2.1⟩
theorem tZ {x:AE}(h:Bw x=0):G7 x.shs=0:=by
 unfold Bw at h;split at h
 ·cases h
 split at h
 ·cases h
 exact h
theorem jP {k:List UInt8}:∀ {l:List A0},(l.Pairwise λs t=>ltStr s.lot t.lot=true)->(∀s∈l,nb (Bc s.part) DF DF)->nb (Dl k (l.map λs=>(s.lot,Bc s.part))) DF DF
 | [],_,_=>dq.mono (Bg _) (by decide)
 |s::l,h,hb=>by
  have hp:=DN.1 h;show nb (if s.lot=k then Bc s.part+Dl k (l.map λs=>(s.lot,Bc s.part))else Dl k (l.map λs=>(s.lot,Bc s.part))) DF DF
  by_cases hk:s.lot=k
  ·rw[AH hk]
   have:∀L:List A0,(∀t∈L,t.lot≠k)->Dl k (L.map λs=>(s.lot,Bc s.part))=0:=λL=>by
    induction L with
    |nil=>intro _;rfl
    |cons t L ih=>
     intro hq;show(if t.lot=k then _ else _)=_;rw[AG (hq t (CF ..))];exact ih λu hu=>hq u (B6 _ hu)
   rw[this l λt ht e=>kS (hp.1 t ht) (hk.trans e.symm),Rat.add_zero];exact hb s (CF ..)
  ·rw[AG hk]
   exact jP hp.2 λt ht=>hb t (B6 _ ht)
theorem s8 {S t:Rat}{i Q:Nat}(hS:nb S (i*Q*DF^i) (DF^i))(ht:nb t Q DF):nb (S+t) ((i+1)*Q*DF^(i+1)) (DF^(i+1)):=by
 refine(d6p hS ht).mono ?_ (Nat.le_of_eq (CT ..).symm);rw[CT,B1,B1,IT,CE (i*Q)];refine Nat.add_le_add_left ?_ _;refine Cj _ ?_;exact Nat.le_mul_of_pos_right _ (by decide)
def Mf:Nat:=DF*1000000000
theorem kZ {k:List UInt8}:∀ {l:List AE},(∀x∈l,nb (IX k x) DF DF/\0<=x.mass/\x.mass<=1000000000)->nb (Ff k l) (l.length*Mf*DF^l.length) (DF^l.length)
 | [],_=>dq.mono (Bg _) (by decide)
 |x::l,h=>by
  have hx:=h x (CF ..);have ih:=kZ (k:=k) (l:=l) λy hy=>h y (B6 _ hy)
  show nb (IX k x*(x.mass:Rat)+Ff k l) _ _;rw[Rat.add_comm];exact s8 ih ((iQ hx.1 (iP x.mass (n:=1000000000) (by omega))).mono (Am _) (by rw[EQ];exact Am _))
theorem d7C {r:Rat}{n:Nat}(hn:n<=12)(h:nb r (n*Mf*DF^n) (DF^n)):Et r=false:=by
 have h1:DF^n<=DF^12:=Fc (by decide) hn;have h2:n*Mf*DF^n<=12*Mf*DF^12:=GK (CQ _ hn) h1;have h3:12*Mf*DF^12<Tn:=by decide
 have h4:DF^12<Tn:=by decide
 exact iO h (DD h2 h3) (DD h1 h4)
theorem iK {k:List UInt8}{v:Rat}:∀ {Q:Bf},GO Q->(k,v)∈Q->DB k Q=some v
 | [],_,h=>by cases h
 |p::l,hs,h=>by
  have hp:=DN.1 hs;unfold DB;rcases Aw.1 h with rfl|h
  ·rw[AH rfl]
  ·rw[AG (λe=>by
    have:=hp.1 _ h
    rw[e,swo_ltStr.irrefl]at this;cases this)]
   exact iK hp.2 h
theorem sY {l:List AE}(hp:CR l=0)(hn:l.length<=12)(hl:∀y∈l,y.lite):kQ l=0/\kR l=DX l/\∀p∈DX l,Et p.2=false/\nb p.2 (12*Mf*DF^12) (DF^12):=by
 have hpn:=HY hp;have hlay:=(IC hp).2.1;have hall:∀p∈DX l,Et p.2=false/\nb p.2 (12*Mf*DF^12) (DF^12):=λp h=>by
  have h1:=iK (Vx l) h;rw[VE]at h1;split at h1
  ·have hv:Ff p.1 l=p.2:=GJ h1
   have hb:=kZ (k:=p.1) (l:=l) λx hx=>by
    have hs:=d7p (tZ (hlay x hx));exact⟨jP hs.1 λs hs2=>dn (hs.2 s hs2).1 ((hl x hx).2 s hs2).2,by have:=(hpn.2.1 x hx).1;omega,(hpn.2.1 x hx).2.1⟩
   rw[hv]at hb;have h1:DF^l.length<=DF^12:=Fc (by decide) hn;exact⟨d7C hn hb,hb.mono (GK (CQ _ hn) h1) h1⟩
  ·cases h1
 have hperm:(DX l).Perm (DW l):=by
  obtain⟨_,h2⟩:=SV l l.length (Am _)
  rwa [DH]at h2
 have hany:(DW l).any (λp=>Et p.2)=false:=by
  rw[List.any_eq_false];intro p h;rw[(hall p (hperm.mem_iff.2 h)).1];exact Bool.false_ne_true
 refine⟨?_,?_,hall⟩
 ·unfold kQ jX
  rw[AG (λq=>q hp),hany];rfl
 ·unfold kR jY
  rw[AG (λq=>q hp),hany,AG (by decide),Pw]
theorem vN {x:Bp}{k:Nat}(h:FD x=0)(hk:k<x.cells.length):K4 x [(k:Int)]=0:=by
 unfold K4;rw[AG (λq=>q h)]
 have:KP x (k:Int)=true:=by
  unfold KP Eu;rw[BM,decide_eq_true_iff,decide_eq_true_iff];omega
 simp[this]
theorem tJ {x:Bp}{k:Nat}{m:Int}(h:FD x=0)(hk:k<x.cells.length)(hm:0<=m):Ii x (k:Int) m=0:=by
 unfold Ii;rw[vN h hk,BY];rfl
abbrev M4:Dr:=[(11,[0,1,2,3,4,5,6,7,8,9,10,11,12,13],[14,15])]
open Go.Proofs Go.RowKit
set_option maxRecDepth 20000
set_option maxHeartbeats 4000000
def B7:List AE->List Int->List AE
 |x::l,m::ms=>if 0<m then⟨x.grain,m,x.shs⟩::B7 l ms else B7 l ms
 |_,_=>[]
theorem Vd:∀ {l:List AE} {ms:List Int} {i:Nat} {x:AE} {m:Int},l[i]?=some x->ms[i]?=some m->B7 (l.take (i+1)) (ms.take (i+1))=B7 (l.take i) (ms.take i)++if 0<m then[⟨x.grain,m,x.shs⟩]else[]
 |a::l,b::ms,0,x,m,h1,h2=>by
  simp only[RG,BO]at h1 h2;subst h1 h2;simp only[List.take_succ_cons,LJ,B7,E7]
 |a::l,b::ms,i+1,x,m,h1,h2=>by
  simp only[Iq]at h1 h2
  have:=Vd h1 h2
  rw[List.take_succ_cons,List.take_succ_cons,List.take_succ_cons,List.take_succ_cons];simp only[B7];rw[this];split<;>rfl
 | [],_,_,_,_,h1,_=>by simp at h1
 |_::_,[],_,_,_,_,h2=>by simp at h2
theorem SK:∀ {l:List AE} {ms:List Int} {y:AE},y∈B7 l ms->∃(x:AE) (m:Int) (i:Nat),l[i]?=some x/\ms[i]?=some m/\0<m/\y=⟨x.grain,m,x.shs⟩
 |x::l,m::ms,y,h=>by
  simp only[B7]at h;split at h
  ·rename_i hm
   rcases Aw.1 h with rfl|h
   ·exact⟨x,m,0,rfl,rfl,hm,rfl⟩
   ·obtain⟨x',m',i,h1,h2,h3⟩:=SK h
    exact⟨x',m',i+1,h1,h2,h3⟩
  ·obtain⟨x',m',i,h1,h2,h3⟩:=SK h
   exact⟨x',m',i+1,h1,h2,h3⟩
 | [],_,_,h=>by simp[B7]at h
 |_::_,[],_,h=>by simp[B7]at h
theorem Mv:∀(l:List AE) (ms:List Int),(B7 l ms).length<=l.length
 |x::l,m::ms=>by
  simp only[B7]
  have:=Mv l ms
  split<;>simp<;>omega
 | [],_=>by simp[B7]
 |_::_,[]=>by simp[B7]
theorem kg (b:Bool)(e:Int):AI C0 45 [Av b,i64 e] (i64 (if b then e else 0)):=by
 refine Ac.walk w1 jk rfl λF=>?_
 cases b
 ·refine AR Aq kB AB AB AB AB AB AB ?_
  exact AM rfl AA.out
 ·refine AR Aq kB AB AB AB AB AB AB ?_
  exact AM rfl AA.out
theorem d7T (v:List Int)(hl:v.length<=1000):AI C0 44 [.sl true 1 (v.map λe=>i64 e)] (i64 (En v)):=by
 refine Ac.walk w1 ji rfl λF=>?_
 have el:(((v.map λe=>i64 e).length:Nat):Int)=(v.length:Int):=by rw[Al]
 refine AR Aq el AB AB AB AB AB AB ?_;refine AC.loop (α:=Nat×Nat) (λp=>⟨[(5,.sl true 1 (v.map λe=>i64 e)),(6,i64 (v.length:Int)),(7,i64 (p.1:Int))],[],p.2⟩) (λp=>v.length-p.1) (λp=>p.1<=v.length/\∀(j:Nat) (e:Int),j<p.1->v[j]?=some e->e=0) (0,_) ⟨Bg _,λj e h=>Ah h (HR j)⟩ AN ?_;rintro⟨i,m⟩ F ⟨hi,ha⟩;dsimp only at hi ha⊢;rcases BL i v.length with h2|h2
 rotate_left
 ·have e1:=Cx h2
  have:i=v.length:=by omega
  subst this;have hd:En v=0:=by rw[Rc ha,KH];rfl
  rw[hd];refine AR Aq e1 AB AB AB AB AB AB ?_;exact AM rfl AA.out
 have e1:=Cs h2;have wi:=Cz (i:=i) (by omega);obtain⟨l,hl'⟩:=CV h2;have hm:(v.map λe=>i64 e)[i]?=some (i64 l):=by rw[BT,hl'];rfl
 by_cases g:l=0
 ·have e5:(l != 0)=false:=by rw[g];rfl
  refine AR Aq (Bo e1 wi e5 kN) hm AB AB AB AB AB ?_;exact⟨(i+1,_),⟨h2,λj e hj he=>by
   rcases IQ.1 hj with q|q
   ·exact ha j e q he
   ·subst q;rw[hl']at he;cases he;exact g⟩,by dsimp only;omega,AN⟩
 ·have e5:(l != 0)=true:=Kk g
  have hd:En v=l:=by
   rw[Rc ha,E3 h2];rw[B4 h2]at hl';rw[GJ hl'];exact AH g
  rw[hd];refine AR Aq (Bo e1 wi e5 kN) hm AB AB AB AB AB ?_;exact AM rfl AA.out
theorem e0K (b:Bool)(v:List AE)(hl:v.length<=1000000)(hf:∀x∈v,x.few):AI C0 46 [Au b v,.clo (.func 47) [] []] (i64 (DZ (λi=>Bw (CU v i)) v.length:Nat)):=by
 refine Ac.walk w1 jl rfl λF=>?_
 have el:(((v.map AE.D).length:Nat):Int)=(v.length:Int):=by rw[Al]
 refine AR Aq el AB AB AB AB AB AB ?_;refine AC.loop (α:=Nat×Nat) (λp=>⟨[(1,.clo (.func 47) [] []),(8,Au b v),(9,i64 (v.length:Int)),(10,i64 (p.1:Int))],[],p.2⟩) (λp=>v.length-p.1)
  (λp=>p.1<=v.length/\∀j,j<p.1->Bw (CU v j)=0) (0,_) ⟨Bg _,λj h=>Ah h (HR j)⟩ AN ?_
 rintro⟨i,m⟩ F ⟨hi,hz⟩;dsimp only at hi hz⊢;rcases BL i v.length with h2|h2
 ·have e1:=Cs h2
  have wi:=Cz (i:=i) (by omega);obtain⟨x,hx⟩:=CV h2;have hm:(v.map AE.D)[i]?=some (.agg [str (sb x.grain),i64 x.mass,.sl false 2 (x.shs.map A0.D)]):=by rw[BT,hx];rfl
  have cL:=YF x (hf x (A8 hx));unfold AE.D at cL;rcases Nat.decEq (Bw x) 0 with hc0|hc0
  ·have e3:=IM hc0
   have hE:=OM (f:=λi=>Bw (CU v i)) hz h2 (by rw[FS hx];exact hc0);rw[FS hx]at hE;rw[hE];refine AR Aq (BG e1 e3 kN) hm cL AB AB AB AB ?_;exact AM rfl AA.out
  ·have e3:=Im hc0
   refine AR Aq (Bo e1 e3 wi kN) hm cL AB AB AB AB ?_;exact⟨(i+1,_),⟨h2,λj hj=>by
    rcases IQ.1 hj with q|q
    ·exact hz j q
    ·rw[q,FS hx];exact hc0⟩,by dsimp only;omega,AN⟩
 ·have e1:=Cx h2
  have:i=v.length:=by omega
  subst this;rw[IZ (f:=λi=>Bw (CU v i)) hz];refine AR Aq e1 AB AB AB AB AB AB ?_;exact AM rfl AA.out
theorem kL (b b2:Bool)(l:List AE)(ms:List Int)(hl:ms.length=l.length)(h1:1<=l.length)(h16:l.length<=16)(hf:∀x∈l,x.lite)(hc:∀x∈l,Bw x=0)
  (hm:∀(i:Nat) (x:AE) (m:Int),l[i]?=some x->ms[i]?=some m->0<=m/\m<=x.mass) (hu:B7 l ms≠[]):AI C0 11 [Au b l,.sl b2 1 (ms.map λm=>i64 m)] (.tup [(mixL (B7 l ms)).D,i64 (mixN (B7 l ms):Nat)]):=by
 refine Ac.walk w1 je rfl λF=>?_
 have el:(((l.map AE.D).length:Nat):Int)=(l.length:Int):=by rw[Al]
 have em:(((ms.map λm=>i64 m).length:Nat):Int)=(l.length:Int):=by rw[Al,hl]
 have hz:DZ (λi=>Bw (CU l i)) l.length=0:=IZ (f:=λi=>Bw (CU l i)) λj hj=>by
  obtain⟨x,hx⟩:=CV hj;show Bw (CU l j)=0;rw[FS hx];exact hc x (A8 hx)
 have cE:=e0K b l (by omega) λx hx=>(hf x hx).1
 rw[hz]at cE;have cW1:AI C0 45 [Av false,i64 2] (i64 0):=kg false 2;have cW2:AI C0 45 [Av false,i64 5] (i64 0):=kg false 5;have cF:AI C0 44 [.sl true 1 [i64 0,i64 0,i64 ((0:Nat):Int)]] (i64 0):=d7T [0,0,((0:Nat):Int)] (by simp);have e0:((l.length:Int)==0)=false:=B8.2 (by omega);have e1:((l.length:Int) != (l.length:Int))=false:=by simp
 have e2:decide ((l.length:Int)>16)=false:=BY;have e7:((0:Int) != 0)=false:=rfl;refine AR M4 (Fd el em e0 e1 e2 e7) cW1 cW2 cE cF AB AB ?_;refine AC.loop (α:=Nat×Nat×Nat) (λp=>⟨[(0,Au b l),(4,.optr 0 0 3 0 0),(7,E2 1114 p.2.1 3 ((B7 (l.take p.1) (ms.take p.1)).map AE.D)),(33,.sl b2 1 (ms.map λm=>i64 m)),(34,i64 (l.length:Int)),(35,i64 (p.1:Int))],EN 1114 p.2.1 28 3 ((B7 (l.take p.1) (ms.take p.1)).map AE.D)++[⟨0,0,28,3,[.agg [.prim (.string ⟨#[]⟩),.prim (.int .i64 0),.prim (.slice none 0 0)]]⟩],p.2.2⟩) (λp=>l.length-p.1)
  (λp=>p.1<=l.length) (0,0,_) (Bg _) AN ?_
 rintro⟨i,g,n⟩ F hi;dsimp only at hi⊢;rcases BL i l.length with h2|h2
 rotate_left
 ·have e3:=Cx h2
  have:i=l.length:=by omega
  subst this;rw[DH,show ms.take l.length=ms by rw[<-hl];exact DH];have hlu:=Mv l ms;have cM:=lZ false (B7 l ms) (by omega) λy hy=>by
   obtain⟨x,m,i,a1,-,-,rfl⟩:=SK hy;obtain⟨⟨q1,q2,q3⟩,q4⟩:=hf x (A8 a1);exact⟨⟨q1,q2,q3⟩,q4⟩
  obtain⟨U,hU⟩:∃U,B7 l ms=U:=⟨_,rfl⟩
  rw[hU]at cM hlu hu⊢;rcases U with _|⟨z,o⟩
  ·exact Ah rfl hu
  rw[CX];obtain⟨O,hO⟩:∃O,o.map AE.D=O:=⟨_,rfl⟩
  obtain⟨zD,hzD⟩:∃O,z.D=O:=⟨_,rfl⟩
  rw[hO,hzD,Gy,Gz];have e8:(((O.length+1:Nat):Int)==0)=false:=B8.2 (by omega);refine AR M4 (Ae e3 e8) AB AB AB AB AB AB ?_;have hlr:(O.length+1)=(z::o).length:=by rw[<-hO];simp
  rw[<-hO,<-hzD];have hfz:Fz [⟨1114,g,28,3,(z::o).map AE.D⟩,⟨0,0,28,3,[.agg [.prim (.string ⟨#[]⟩),.prim (.int .i64 0),.prim (.slice none 0 0)]]⟩] [⟨0,0,28,3,[.agg [.prim (.string ⟨#[]⟩),.prim (.int .i64 0),.prim (.slice none 0 0)]]⟩] (.osl 1114 g 3 0 ((z::o).map AE.D).length) (Au false (z::o)):=
   H6 (H:=[⟨1114,g,28,3,(z::o).map AE.D⟩,⟨0,0,28,3,[.agg [.prim (.string ⟨#[]⟩),.prim (.int .i64 0),.prim (.slice none 0 0)]]⟩]) (Hf:=[⟨0,0,28,3,[.agg [.prim (.string ⟨#[]⟩),.prim (.int .i64 0),.prim (.slice none 0 0)]]⟩]) (k:=1114) (g:=g) (T:=28) (sz:=3) (l:=(z::o).map AE.D) rfl
  obtain⟨Z,hZ⟩:∃Z:AE,mixL (z::o)=Z:=⟨_,rfl⟩
  rw[hZ]at cM⊢;refine BI.own _ (LB [⟨0,0,28,3,[.agg [.prim (.string ⟨#[]⟩),.prim (.int .i64 0),.prim (.slice none 0 0)]]⟩] cM (.drop (.keep .nil)) ⟨hfz,trivial⟩ AJ) ?_;rintro d H2 n2 ⟨rfl,rfl,rfl⟩;unfold AE.D;refine AR M4 kB AB AB AB AB AB AB ?_;exact AM rfl AA.out
 have e3:=Cs h2;have wi:=Cz (i:=i) (by omega);obtain⟨x,hx⟩:=CV h2;obtain⟨m,hmi⟩:∃m,ms[i]?=some m:=CV (by omega);obtain⟨hm0,hm1⟩:=hm i x m hx hmi;have hU:=Vd hx hmi;have hml:(l.map AE.D)[i]?=some (.agg [str (sb x.grain),i64 x.mass,.sl false 2 (x.shs.map A0.D)]):=by rw[BT,hx];rfl
 have hmm:(ms.map λm=>i64 m)[i]?=some (i64 m):=by rw[BT,hmi];rfl
 have e4:decide (m<0)=false:=BY;have e5:decide (m>x.mass)=false:=BY
 by_cases hp:0<m
 ·have e6:decide (m>0)=true:=Ax hp
  rw[AH hp]at hU;obtain⟨U,hUU⟩:∃U,B7 (l.take i) (ms.take i)=U:=⟨_,rfl⟩
  rw[hUU]at hU⊢;rcases U with _|⟨z,o⟩
  ·rw[List.map_nil,Kc,show EN 1114 g 28 3 []=[]from rfl,E7]
   refine AR M4 (D7 el em e3 e4 e5 e6 (Ae wi kN)) hml hmm AB AB AB AB ?_;refine⟨(i+1,n+35,?m),h2,by dsimp only;omega,?_⟩
   rotate_left
   ·dsimp only
    rw[hU,E7,CX,List.map_nil,Gy,Gz];exact AN
  ·rw[CX]
   obtain⟨O,hO⟩:∃O,o.map AE.D=O:=⟨_,rfl⟩
   obtain⟨zD,hzD⟩:∃O,z.D=O:=⟨_,rfl⟩
   rw[hO,hzD,Gy,Gz];have hOl:O.length<=100:=by
    have h9:=Mv (l.take i) (ms.take i);rw[hUU,By,Be]at h9;rw[<-hO,Al];omega
   have htk:List.take (O.length+1) (zD::O)=zD::O:=DH (l:=zD::O);refine AR M4 (D7 el em e3 e4 e5 e6 (Ae wi kN)) hml hmm AB AB AB AB ?_;rw[htk];refine AR M4 (D7 el em e3 e4 e5 e6 (Ae wi kN)) hml hmm AB AB AB AB ?_;refine⟨(i+1,n+35,?m),h2,by dsimp only;omega,?_⟩
   rotate_left
   ·dsimp only
    rw[show(B7 (l.take (i+1)) (ms.take (i+1))).map AE.D=zD::(O++[.agg [str (sb x.grain),i64 m,.sl false 2 (x.shs.map A0.D)]]) by rw[hU,Du,CX,hO,hzD];rfl,Gy,Gz,Bz];exact AN
 ·have e6:decide (m>0)=false:=Az hp
  rw[AG hp,Dh]at hU;rw[<-hU];refine AR M4 (D7 el em e3 e4 e5 e6 (Ae wi kN)) hml hmm AB AB AB AB ?_;refine⟨(i+1,g,?m),h2,by dsimp only;omega,?_⟩
  rotate_left
  ·dsimp only
   exact AN
def CP (x:AE)(m:Int):List AE:=if 0<m then[x.w m]else[]
theorem Zy {x:AE}{m:Int}:∀y∈CP x m,1<=y.mass:=λy hy=>by
 unfold CP at hy;split at hy
 ·rename_i h
  rw[DG]at hy;subst hy;show 1<=m;omega
 ·cases hy
theorem Vu (x:AE){m:Int}(h:0<=m):Bj (CP x m)=List.replicate m.toNat (x.w 1):=by
 unfold CP;split
 ·show List.replicate m.toNat ((x.w m).w 1)++[]=_
  rw[Dh];rfl
 ·have:m=0:=by omega
  subst this;rfl
theorem Zx (x:AE){m:Int}(h:0<=m):BS (List.replicate m.toNat (x.w 1))=CP x m:=by
 rw[<-Vu x h,TP Zy];unfold CP;split<;>rfl
def C8 (i:Int)(x:AE):Bp:=⟨[102,117,110,110,101,108],2+i,x.mass,0,[[x]]⟩
theorem d6b (x:AE):Bj [x]=List.replicate x.mass.toNat (x.w 1):=by
 show List.replicate x.mass.toNat (x.w 1)++[]=_;rw[Dh]
theorem oS {b:Bp}{x:AE}{m:Int}(h0:0<=m)(h1:m<=x.mass):Qe b [x] m.toNat=List.replicate m.toNat (x.w 1)/\Kr b [x] m.toNat=List.replicate (x.mass-m).toNat (x.w 1):=by
 have ha:=de b [x] m.toNat;unfold Qe Kr;rw[d6b];have hl:(List.replicate x.mass.toNat (x.w 1)).length=x.mass.toNat:=Is;rw[List.reverse_replicate,List.take_replicate,List.take_replicate,List.drop_replicate,List.take_replicate,List.replicate_append_replicate,hl];generalize GU b [x] m.toNat=a at*;constructor
 ·congr 1;omega
 ·congr 1;omega
theorem Xi {x:AE}(h:Bw x=0){m:Int}(h0:0<m)(h1:m<=x.mass):Bw (x.w m)=0:=by
 obtain⟨a,b,c,d⟩:=HZ h;unfold Bw AE.w;dsimp only;rw[AG (by rw[a];decide),B3];exact d
theorem fJ {x:AE}(h:Bw x=0):CR [x]=0:=by
 obtain⟨a,b,c,d⟩:=HZ h;have hz:DZ (λi=>Bw (CU [x] i)) 1=0:=IZ (f:=λi=>Bw (CU [x] i)) λj hj=>by
  have:j=0:=by omega
  subst this;exact h
 unfold CR;rw[Ho,AG (show ¬ 64<1 by decide),AG (λq=>q hz),AG (by show ¬(x.mass+0>999999999);omega)]
theorem V4 {x:AE}(h:Bw x=0){m:Int}(h1:m<=x.mass):CR (CP x m)=0:=by
 unfold CP;split
 ·rename_i h0
  exact fJ (Xi h h0 h1)
 ·rfl
theorem sq {x:AE}(h:Bw x=0){i:Int}(hi:0<=i/\i<=100):FD (C8 i x)=0:=by
 obtain⟨a,b,c,d⟩:=HZ h;have w:∀a lo hi:Int,lo<=a->a<=hi->Eu a lo hi=true:=λa lo hi h1 h2=>by
  unfold Eu;simp[h1,h2]
 have e1:Jb (C8 i x)=0:=by
  have k1:BU (sb (C8 i x).flow) G9=false:=by kernel_rfl
  have k2:BU (sb (C8 i x).flow) Js=true:=by kernel_rfl
  have k3:QY (C8 i x)=true:=by
   unfold QY;rw[k1,k2,w (C8 i x).core 2 999999999 (show 2<=2+i by omega) (show 2+i<=999999999 by omega)];rfl
  unfold Jb Ng MK;rw[k1,k2,k3,w (C8 i x).room 1 999999999 (show 1<=x.mass by omega) (show x.mass<=999999999 by omega),w (C8 i x).side 0 999999999 (show(0:Int)<=0 by omega) (show(0:Int)<=999999999 by omega)];rfl
 have e2:GY (C8 i x) [x]=0:=by
  have k1:Eb [x]=true:=by
   unfold Eb;rw[Ft,List.all_nil,Bool.and_true];exact VW _
  have k2:D5 [x]=x.mass:=by
   have:=u7 (l:=[x]) (λy hy=>by rw[DG]at hy;subst hy;omega) (by show x.mass+0<=_;omega)
   rw[this];show x.mass+0=_;omega
  unfold GY;rw[fJ h,k1,k2,Az (show ¬x.mass>(C8 i x).room from λq=>by change x.mass>x.mass at q;omega)];rfl
 have e3:Hb (C8 i x) (C8 i x).cells=0:=by
  show(if GY (C8 i x) [x]≠0 then _ else 0)=0;rw[e2];rfl
 unfold FD;rw[AG (λq=>q e1),AG (λq=>q e3)];rfl
theorem e1Q {x:AE}(h:Bw x=0){i m:Int}(hi:0<=i/\i<=100)(h0:0<=m)(h1:m<=x.mass):JL (C8 i x) 0 m=0/\Tv (C8 i x) 0 m=CP x m/\(MC (C8 i x) 0 m).cells=[CP x (x.mass-m)]:=by
 obtain⟨hf,hr⟩:=oS (b:=C8 i x) h0 h1;have hc:In (C8 i x) 0=[x]:=rfl;have e1:Ii (C8 i x) 0 m=0:=tJ (k:=0) (sq h hi) (show 0<1 by decide) h0;have eF:HG (C8 i x) 0 m=CP x m:=by
  unfold HG;rw[hc,hf,Zx x h0]
 have eO:(FE (C8 i x) 0 m).cells=[CP x (x.mass-m)]:=by
  unfold FE;rw[hc,hr,Zx x (by omega)];rfl
 have e3:JL (C8 i x) 0 m=0:=by
  unfold JL;rw[AG (λq=>q e1),hc,AG (by show ¬(x.mass+0<m);omega)];unfold L3;have e4:HD (C8 i x).side (Fu (FE (C8 i x) 0 m))=false:=by
   unfold Fu;rw[eO];rfl
  have e5:¬ 64<(CP x m).length:=by
   unfold CP;split
   ·show ¬ 64<1;decide
   ·show ¬ 64<0;decide
  rw[e4,eF,AG (by decide),AG e5]
 refine⟨e3,?_,?_⟩
 ·unfold Tv
  rw[AG (λq=>q e3),eF]
 ·unfold MC
  rw[AG (λq=>q e3),eO]
theorem VP:∀ {ts Q:Bf},(JH ts Q).length<=Q.length+ts.length
 | [],Q=>Am _
 |t::ts,Q=>by
  have h1:=VP (ts:=ts) (Q:=DC t.1 t.2 Q);have h2:=Vt (lot:=t.1) (r:=t.2) (l:=Q);show(JH ts (DC t.1 t.2 Q)).length<=_;rw[By];omega
structure kt (l:List AE):Prop where
 par:CR l=0
 len:l.length<=12
 lite:∀y∈l,y.lite
theorem Z8 {a b:List AE}(ha:∀x∈a,1<=x.mass)(hb:∀x∈b,1<=x.mass)(h:(Bj a).Perm (Bj b)):DX a=DX b:=by
 refine al (Vx a) (Vx b) λk=>?_
 have p:∀ {l:List AE},(∀x∈l,1<=x.mass)->∀x∈l,0<=x.mass:=λh x hx=>by have:=h x hx;omega
 rw[VE,VE,<-eC k ha,<-eC k hb,<-XO k (p ha),<-XO k (p hb),pq k h,sM k h]
theorem aF (x:AE)(m:Int)(l:List AE)(ms:List Int):B7 (x::l) (m::ms)=CP x m++B7 l ms:=by
 simp only[B7,CP];split<;>rfl
def EM:List AE->List Int->List AE
 |x::l,m::ms=>CP x (x.mass-m)++EM l ms
 |_,_=>[]
def Fg:List AE->List Int->Prop
 |x::l,m::ms=>0<=m/\m<=x.mass/\Fg l ms
 | [],[]=>True
 |_,_=>False
theorem bh:∀ {l:List AE} {ms:List Int},Fg l ms->(Bj (B7 l ms)++Bj (EM l ms)).Perm (Bj l)
 | [],[],_=>by simp[B7,EM,QS]
 |x::l,m::ms,h=>by
  obtain⟨h1,h2,h3⟩:=h;have ih:=bh h3;rw[aF];simp only[EM];rw[Jy,Jy,IB,Vu x h1,Vu x (by omega),show x.mass.toNat=m.toNat+(x.mass-m).toNat by omega,<-List.replicate_append_replicate,DO,DO];refine List.Perm.append_left _ ?_;refine List.Perm.trans ?_ (List.Perm.append_left _ ih);rw[<-DO,<-DO];exact List.perm_append_comm.append_right _
 | [],_::_,h=>h.elim
 |_::_,[],h=>h.elim
structure Gd (g:List UInt8)(l:List AE):Prop where
 fine:kt l
 ne:l≠[]
 gr:∀y∈l,y.grain=g
 shs:∀y∈l,y.shs.length<=4
theorem VZ:∀ {l:List AE},(∀x∈l,x.shs.length<=4)->(J9 l).length<=l.length*4
 | [],_=>Am _
 |x::l,h=>by
  have h1:=VZ (l:=l) λy hy=>h y (B6 _ hy)
  have h2:=h x (CF ..);show((x.shs.map _)++J9 l).length<=_;rw[Bz,Al,By];omega
theorem Gd.pos {g:List UInt8}{l:List AE}(h:Gd g l):∀x∈l,1<=x.mass:=λx hx=>((HY h.fine.par).2.1 x hx).1
theorem Gd.head {g:List UInt8}{l:List AE}(h:Gd g l):(CU l 0).grain=g:=by
 cases l with
 |nil=>exact Ah rfl h.ne
 |cons x l=>exact h.gr x (CF ..)
theorem Gd.mixN {g:List UInt8}{l:List AE}(h:Gd g l):mixN l=0:=by
 obtain⟨p1,p2,p3⟩:=IC h.fine.par;have hz:DZ (λi=>Bw (CU l i)) l.length=0:=IZ (f:=λi=>Bw (CU l i)) λj hj=>by
  obtain⟨x,hx⟩:=CV hj;show Bw (CU l j)=0;rw[FS hx];exact p2 x (A8 hx)
 have hs:Eb l=true:=by
  unfold Eb;rw[Cc];intro x hx;rw[h.head,h.gr x hx];exact VW _
 have hE:Hi l=0:=by
  unfold Hi;rw[AG (λq=>h.ne (FU q)),B3,AG (λq=>q hz),AG (λq=>by rw[hs]at q;cases q),B3]
 have hperm:(DX l).Perm (DW l):=by rw[Pw];exact Pl _
 have hlen:(DW l).length<=64:=by
  rw[<-hperm.length_eq,U6];have h1:=VP (ts:=J9 l) (Q:=[]);have h2:=VZ h.shs
  have:=h.fine.len
  simp at h1;omega
 have hall:=(sY h.fine.par h.fine.len h.fine.lite).2.2;have hpos:=SG p2;have hl0:0<l.length:=List.length_pos_iff.2 h.ne;have hbig:(Hh (DW l)).any (λp=>Et (p.2/(Ak l:Rat)))=false:=by
  rw[<-Pw,List.any_eq_false];intro p hp;have h1:=(hall p hp).2;have h0:(Ak l:Rat)≠0:=λq=>by
   have:=Rat.intCast_inj.1 (q.trans Rat.intCast_zero.symm)
   omega
  have h2:=d6q h1 (iP (Ak l) (n:=1000000000) (by omega)) h0;rw[iO h2 (by decide) (by decide)];exact Bool.false_ne_true
 unfold Go.Ide.mixN;rw[AG (λq=>q hE),B3,hbig];rfl
theorem Gd.mixL {g:List UInt8}{l:List AE}(h:Gd g l):mixL l=⟨g,Ak l,(DX l).map λp=>⟨p.1,Ao (p.2/(Ak l:Rat))⟩⟩:=by
 rw[di h.mixN,h.head];unfold MG;rw[<-Pw]
theorem Gd.nrm {g:List UInt8}{l:List AE}(h:Gd g l):Gd g (BS l):=by
 have hl:=Kj l;have hn:=h.fine.len;have hk:=R6 (l:=l);obtain⟨p1,p2,p3⟩:=IC h.fine.par;refine⟨⟨V3 h.fine.par hk (by omega) (M8 h.pos) (by rw[Lj];exact p3),by omega,λy hy=>?_⟩,λq=>?_,λy hy=>?_,λy hy=>?_⟩
 ·obtain⟨z,hz,e1,e2⟩:=hk y hy
  obtain⟨⟨a,b,c⟩,d⟩:=h.fine.lite z hz;exact⟨⟨by rw[e1];exact a,by rw[e2];exact b,by rw[e2];exact c⟩,by rw[e2];exact d⟩
 ·have h1:=Lj l
  rw[q]at h1;have h2:=SG p2;have h3:0<l.length:=List.length_pos_iff.2 h.ne
  have:Ak []=0:=rfl
  omega
 ·obtain⟨z,hz,e1,-⟩:=hk y hy
  rw[e1];exact h.gr z hz
 ·obtain⟨z,hz,-,e2⟩:=hk y hy
  rw[e2];exact h.shs z hz
theorem td {g:List UInt8}{l:List AE}(h:Gd g l):mixL (BS l)=mixL l:=by
 rw[h.nrm.mixL,h.mixL,Lj,Z8 (M8 h.pos) h.pos (by rw[TQ λx hx=>by have:=h.pos x hx;omega])]
theorem zr {l:List AE}(h1:l.length<=64)(h2:∀x∈l,Bw x=0)(h3:Ak l<=999999999):CR l=0:=by
 have hz:DZ (λi=>Bw (CU l i)) l.length=0:=IZ (f:=λi=>Bw (CU l i)) λj hj=>by
  obtain⟨x,hx⟩:=CV hj;show Bw (CU l j)=0;rw[FS hx];exact h2 x (A8 hx)
 unfold CR;rw[B3,AG (λq=>q hz),B3]
theorem Fg.at {l:List AE}{ms:List Int}:Fg l ms->∀ {i:Nat} {x:AE} {m:Int},l[i]?=some x->ms[i]?=some m->0<=m/\m<=x.mass:=by
 induction l generalizing ms with
 |nil=>intro _ i x m h;simp at h
 |cons a l ih=>
  intro h i x m h1 h2;cases ms with
  |nil=>simp at h2
  |cons b ms=>
   obtain⟨k1,k2,k3⟩:=h;cases i with
   |zero=>cases h1;cases h2;exact⟨k1,k2⟩
   |succ i=>exact ih k3 (by simpa using h1) (by simpa using h2)
theorem Fg.take {l:List AE}{ms:List Int}:Fg l ms->∀i,Fg (l.take i) (ms.take i):=by
 induction l generalizing ms with
 |nil=>
  intro h i;cases ms with
  |nil=>simp;trivial
  |cons=>exact h.elim
 |cons a l ih=>
  intro h i;cases ms with
  |nil=>exact h.elim
  |cons b ms=>
   obtain⟨k1,k2,k3⟩:=h;cases i with
   |zero=>trivial
   |succ i=>exact⟨k1,k2,ih k3 i⟩
theorem Mw:∀ {l:List AE} {ms:List Int},Fg l ms->Ak (B7 l ms)=ms.sum/\Ak (EM l ms)=Ak l-ms.sum/\ms.sum<=Ak l/\0<=ms.sum
 | [],[],_=>⟨rfl,rfl,by simp[Ak],by simp⟩
 |x::l,m::ms,h=>by
  obtain⟨h1,h2,h3⟩:=h;obtain⟨i1,i2,i3,i4⟩:=Mw h3;have ho:∀k:Int,0<=k->Ak (CP x k)=k:=λk hk=>by
   unfold CP;split
   ·show k+0=k;omega
   ·show(0:Int)=k;omega
  have ha:∀a b:List AE,Ak (a++b)=Ak a+Ak b:=λa b=>by simp[Ak]
  have hc:Ak (x::l)=x.mass+Ak l:=rfl;rw[aF];simp only[EM,List.sum_cons];rw[ha,ha,ho m h1,ho _ (by omega),i1,i2,hc];omega
 | [],_::_,h=>h.elim
 |_::_,[],h=>h.elim
theorem Zq:∀ {l:List AE} {ms:List Int} {i:Nat} {x:AE} {m:Int},l[i]?=some x->ms[i]?=some m->EM (l.take (i+1)) (ms.take (i+1))=EM (l.take i) (ms.take i)++CP x (x.mass-m)
 |a::l,b::ms,0,x,m,h1,h2=>by
  cases h1;cases h2;simp[EM]
 |a::l,b::ms,i+1,x,m,h1,h2=>by
  simp only[Iq]at h1 h2
  have:=Zq h1 h2
  rw[List.take_succ_cons,List.take_succ_cons,List.take_succ_cons,List.take_succ_cons];simp only[EM];rw[this,DO]
 | [],_,_,_,_,h1,_=>by simp at h1
 |_::_,[],_,_,_,_,h2=>by simp at h2
theorem Rz:∀ {l:List AE} {ms:List Int} {y:AE},Fg l ms->y∈EM l ms->∃(x:AE) (m:Int),x∈l/\0<m/\m<=x.mass/\y=x.w m
 |x::l,m::ms,y,hm,h=>by
  obtain⟨h1,h2,h3⟩:=hm;simp only[EM]at h;rcases Bs.1 h with h|h
  ·unfold CP at h
   split at h
   ·rw[DG]at h
    exact⟨x,x.mass-m,CF ..,by assumption,by omega,h⟩
   ·cases h
  ·obtain⟨x',m',k1,k2⟩:=Rz h3 h
   exact⟨x',m',B6 _ k1,k2⟩
 | [],_,_,_,h=>by simp[EM]at h
 |_::_,[],_,_,h=>by simp[EM]at h
theorem VK:∀(l:List AE) (ms:List Int),(EM l ms).length<=l.length
 |x::l,m::ms=>by
  have:=VK l ms
  simp only[EM,CP];split<;>simp<;>omega
 | [],_=>by simp[EM]
 |_::_,[]=>by simp[EM]
structure II (g:List UInt8)(l:List AE):Prop where
 len:l.length<=4
 chk:∀x∈l,Bw x=0
 lite:∀x∈l,x.lite
 gr:∀x∈l,x.grain=g
 shs:∀x∈l,x.shs.length<=4
 mass:∀x∈l,x.mass<=1000000
theorem II.sum {g:List UInt8}{l:List AE}(h:II g l):Ak l<=4000000:=by
 have:∀l:List AE,(∀x∈l,x.mass<=1000000)->Ak l<=l.length*1000000:=λl=>by
  induction l with
  |nil=>intro _;simp[Ak]
  |cons x l ih=>
   intro h;have h1:=h x (CF ..);have h2:=ih λy hy=>h y (B6 _ hy)
   show x.mass+Ak l<=_;rw[By];omega
 have h1:=this l h.mass
 have:=h.len
 omega
theorem II.take {g:List UInt8}{l:List AE}(h:II g l)(i:Nat):II g (l.take i):=
 have s:=List.take_subset i l
 ⟨by rw[Be];have:=h.len;omega,λx hx=>h.chk x (s hx),λx hx=>h.lite x (s hx),λx hx=>h.gr x (s hx),λx hx=>h.shs x (s hx),λx hx=>h.mass x (s hx)⟩
theorem TJ {x:AE}(h:x.lite)(m:Int):(x.w m).lite:=⟨⟨h.1.1,h.1.2.1,h.1.2.2⟩,h.2⟩
theorem QI {l:List AE}{ms:List Int}(hm:Fg l ms){y:AE}(h:y∈B7 l ms):∃(x:AE) (m:Int),x∈l/\0<m/\m<=x.mass/\y=x.w m:=by
 obtain⟨x,m,i,h1,h2,h3,rfl⟩:=SK h;exact⟨x,m,A8 h1,h3,(hm.at h1 h2).2,rfl⟩
theorem II.used {g:List UInt8}{l:List AE}(h:II g l){ms:List Int}(hm:Fg l ms):kt (B7 l ms):=by
 have hl:=Mv l ms;have h4:=h.len;refine⟨zr (by omega) (λy hy=>?_) ?_,by omega,λy hy=>?_⟩
 ·obtain⟨x,m,k1,k2,k3,rfl⟩:=QI hm hy
  exact Xi (h.chk x k1) k2 k3
 ·obtain⟨u1,-,u3,-⟩:=Mw hm
  have:=h.sum
  omega
 ·obtain⟨x,m,k1,k2,k3,rfl⟩:=QI hm hy
  exact TJ (h.lite x k1) m
theorem II.gd {g:List UInt8}{l:List AE}(h:II g l){ms:List Int}(hm:Fg l ms)(hs:ms.sum≠0):Gd g (B7 l ms):=by
 refine⟨h.used hm,λq=>?_,λy hy=>?_,λy hy=>?_⟩
 ·have:=(Mw hm).1
  rw[q]at this;exact hs (by rw[<-this];rfl)
 ·obtain⟨x,m,k1,-,-,rfl⟩:=QI hm hy
  exact h.gr x k1
 ·obtain⟨x,m,k1,-,-,rfl⟩:=QI hm hy
  exact h.shs x k1
def To (l:List UInt8):Rat:=if((Bc l).num:Rat).num<0 then -((Bc l).num:Rat)else((Bc l).num:Rat)
def Ow (l:List UInt8):Bool:=decide (l.length<=10)&&(decide (chk l=0)&&(decide ((Ao (To l)).length<=4)&&decide ((Ao (((Bc l).den:Int):Rat)).length<=4)))
theorem e0p (l:List UInt8)(hl:l.length<=9223372036854775807):AI C0 6 [str (sb l),i64 4] (Av (Ow l)):=by
 refine Ac.walk w1 e1W rfl λF=>?_
 have hsz:=Cd l;have cC:=eW l hl;have a1:IntKind.i64.wrap (2*4)=8:=rfl;have a2:IntKind.i64.wrap (8+2)=10:=rfl;have hB:Ow l=(decide (l.length<=10)&&(decide (chk l=0)&&(decide ((Ao (To l)).length<=4)&&decide ((Ao (((Bc l).den:Int):Rat)).length<=4)))):=rfl;obtain⟨S,hS⟩:∃S,sb l=S:=⟨_,rfl⟩
 rw[hS]at hsz cC⊢
 by_cases h1:l.length<=10
 rotate_left
 ·have e1:decide ((l.length:Int)<=10)=false:=BY
  rw[Az h1,JV]at hB;rw[hB];refine AR Aq (Bo hsz a1 a2 e1) AB AB AB AB AB AB ?_;exact AM rfl AA.out
 have e1:decide ((l.length:Int)<=10)=true:=BV;rw[Ax h1,Hs]at hB
 by_cases h2:chk l=0
 rotate_left
 ·have e2:((chk l:Int)==0)=false:=B8.2 (by omega)
  rw[Az h2,JV]at hB;rw[hB];refine AR Aq (Cw hsz a1 a2 e1 e2) cC AB AB AB AB AB ?_;exact AM rfl AA.out
 have e2:((chk l:Int)==0)=true:=by rw[h2];rfl
 rw[Ax h2,Hs]at hB;have hR:str S=rR (Bc l):=by
  unfold rR;rw[(Ml h2).2.2.1,hS]
 have hrk:=OV h2;have ht:HE (Bc l):=NA hrk (by decide);have ht2:HE ((Bc l).num:Rat):=NA (k:=600) ⟨by rw[Rat.num_intCast];exact hrk.1,by rw[Rat.den_intCast];exact Cf (by kernel_rfl)⟩ (by decide);have cN:=e0c (Bc l) ht;have cD:=d8D (Bc l) ht;have cA:=d8w ((Bc l).num:Rat) ht2;have hA:To l=if((Bc l).num:Rat).num<0 then -((Bc l).num:Rat)else((Bc l).num:Rat):=rfl
 rw[<-hA]at cA;rw[<-hR]at cN cD;obtain⟨A,hAA⟩:∃A,To l=A:=⟨_,rfl⟩
 obtain⟨B,hBB⟩:∃B:Rat,(((Bc l).den:Int):Rat)=B:=⟨_,rfl⟩
 obtain⟨N,hNN⟩:∃B:Rat,((Bc l).num:Rat)=B:=⟨_,rfl⟩
 rw[hAA,hBB]at hB;rw[hNN]at cN cA;rw[hAA]at cA;rw[hBB]at cD;have h5:=Cd (Ao A);have h6:=Cd (Ao B);unfold rR at cN cD cA
 by_cases h3:(Ao A).length<=4
 rotate_left
 ·have e3:decide (((Ao A).length:Int)<=4)=false:=BY
  rw[Az h3,JV]at hB;rw[hB];refine AR Aq (D7 hsz h5 a1 a2 e1 e2 e3) cC cN cA AB AB AB ?_;exact AM rfl AA.out
 have e3:decide (((Ao A).length:Int)<=4)=true:=BV;rw[Ax h3,Hs]at hB;have e4:decide (((Ao B).length:Int)<=4)=decide ((Ao B).length<=4):=ED.2 (by omega);rw[hB];refine AR Aq (D7 hsz h5 h6 a1 a2 e1 (BG e2 e3 e4)) cC cN cA cD AB AB ?_;exact AM rfl AA.out
theorem bv (x:AE)(hl:x.shs.length<=1000000):AI C0 12 [x.D,x.D] (Av true):=by
 refine Ac.walk w1 j8 rfl λF=>?_
 have cS:=aR false false x.shs hl;have e1:=VW x.grain;have e2:(x.mass==x.mass)=true:=by simp
 unfold AE.D;obtain⟨SD,hSD⟩:∃d,Dq false x.shs=d:=⟨_,rfl⟩
 have pS:AA SD:=by rw[<-hSD];exact AJ
 rw[hSD]at cS⊢;refine AR Aq (Ae e1 e2) cS AB AB AB AB AB ?_;exact AM rfl AA.out
def Lo (d d':D):Prop:=∀(ρ:Lk) (O:Nat->Prop) (w:World) (v:Value),AV ρ O w d v->AV ρ O w d' v
theorem Lo.refl (d:D):Lo d d:=λ_ _ _ _ h=>h
theorem Lo.agg {ds ds':List D}(hl:ds.length=ds'.length)(h:∀(i:Nat) (d d':D),ds[i]?=some d->ds'[i]?=some d'->Lo d d'):Lo (.agg ds) (.agg ds'):=λρ O w v hv=>by
 cases hv with
 |agg hn ho hd=>
  refine .agg (hn.trans hl) ho λi d' hd'=>?_
  have hi:i<ds.length:=by rw[hl];exact(BR.1 hd').1
  exact h i _ d' (B4 hi) hd' _ _ _ _ (hd i _ (B4 hi))
theorem Lo.tup {ds ds':List D}(hl:ds.length=ds'.length)(h:∀(i:Nat) (d d':D),ds[i]?=some d->ds'[i]?=some d'->Lo d d'):Lo (.tup ds) (.tup ds'):=λρ O w v hv=>by
 cases hv with
 |tup hn hd=>
  refine .tup (hn.trans hl) λi d' hd'=>?_
  have hi:i<ds.length:=by rw[hl];exact(BR.1 hd').1
  exact h i _ d' (B4 hi) hd' _ _ _ _ (hd i _ (B4 hi))
def PT (e e':D):Prop:=e'.cells.length=e.cells.length/\∀(j:Nat) (d d':D),e.cells[j]?=some d->e'.cells[j]?=some d'->Lo d d'
theorem Lo.sl {b:Bool}{sz:Nat}{es es':List D}(hl:es.length=es'.length)(hc:∀(i:Nat) (e e':D),es[i]?=some e->es'[i]?=some e'->PT e e'):Lo (.sl b sz es) (.sl false sz es'):=λρ O w v hv=>by
 cases hv with
 |nil=>
  have:es'=[]:=List.length_eq_zero_iff.1 hl.symm
  subst this;exact .nil sz
 |emp a=>
  have:es'=[]:=List.length_eq_zero_iff.1 hl.symm
  subst this;exact .emp a
 |sl f hl' hc' hO hb hz hcell ho h=>
  have hx:∀(i:Nat) (e':D),es'[i]?=some e'->∃e,es[i]?=some e/\PT e e':=λi e' he'=>by
   have hi:i<es.length:=by rw[hl];exact(BR.1 he').1
   exact⟨_,B4 hi,hc i _ e' (B4 hi) he'⟩
  refine .sl f (hl.symm.trans hl') hc' hO hb (λi e' he'=>?_) hcell ho λi e' j d' he' hd'=>?_
  ·obtain⟨e,he,h1,h2⟩:=hx i e' he'
   rw[h1];exact hz i e he
  ·obtain⟨e,he,h1,h2⟩:=hx i e' he'
   have hj:j<e.cells.length:=by rw[<-h1];exact(BR.1 hd').1
   exact h2 j _ d' (B4 hj) hd' _ _ _ _ (h i e j _ he (B4 hj))
def loosen:Nat->D->D
 | 0,d=>d
 |n+1,.agg ds=>.agg (ds.map (loosen n))
 |n+1,.tup ds=>.tup (ds.map (loosen n))
 |n+1,.sl _ sz es=>.sl false sz (es.map (loosen n))
 |_+1,d=>d
theorem W3 {f:D->D}(hf:∀d,Lo d (f d))(ds:List D)(i:Nat)(d d':D)(h:ds[i]?=some d)(h':(ds.map f)[i]?=some d'):Lo d d':=by
 rw[BT,h]at h';cases h';exact hf d
theorem VF:∀n:Nat,(∀d,Lo d (loosen n d))/\∀e,PT e (loosen n e)
 | 0=>⟨λd=>.refl d,λe=>⟨rfl,λj d d' h h'=>by
   have:d=d':=by
    have:=h.symm.trans h'
    injection this
   subst this;exact .refl d⟩⟩
 |n+1=>by
  obtain⟨h1,h2⟩:=VF n;have hs:∀(es:List D) (i:Nat) (e e':D),es[i]?=some e->(es.map (loosen n))[i]?=some e'->PT e e':=λes i e e' h h'=>by
   rw[BT,h]at h';cases h';exact h2 e
  have hL:∀d,Lo d (loosen (n+1) d):=λd=>by
   cases d with
   |agg ds=>exact .agg (by simp) (W3 h1 ds)
   |tup ds=>exact .tup (by simp) (W3 h1 ds)
   |sl b sz es=>exact .sl (by simp) (hs es)
   |_=>exact .refl _
  refine⟨hL,λe=>?_⟩;have one:e.cells=[e]->(loosen (n+1) e).cells=[loosen (n+1) e]->PT e (loosen (n+1) e):=λa b=>by
   refine⟨by rw[a,b];rfl,λj d d' h h'=>?_⟩;rw[a]at h;rw[b]at h'
   match j with
   | 0=>cases h;cases h';exact hL e
   |j+1=>cases h
  cases e with
  |agg ds=>exact⟨by simp[loosen,D.cells],λj d d' h h'=>W3 h1 ds j d d' h h'⟩
  |_=>exact one rfl rfl
theorem AI.loosen {C:BH}{f:Nat}{args:List D}{d:D}(h:AI C f args d)(n:Nat):AI C f args (loosen n d):=
 ⟨h.1,λX w vs a b c e g=>(h.2 X w vs a b c e g).mono λ_ _ ⟨v,d,h1,h2,h3,h4⟩=>⟨v,_,h1,h2,rfl,by subst h3;exact(VF n).1 _ _ _ _ _ h4⟩⟩
def Ky (g:List UInt8)(x:AE):Prop:=x.shs.length<=4/\Bw x=0/\x.grain=g/\x.mass<=1000000/\∀s∈x.shs,Ow s.part=true
theorem dm {l:List UInt8}(h:Dk l=true):l.length<=24:=by
 unfold Dk at h;simp only[BM,HL]at h;exact h.2.2
theorem Pr {g:List UInt8}{x:AE}(h:Ky g x):x.lite:=by
 obtain⟨h1,h2,-,-,h5⟩:=h;obtain⟨a,-,-,d⟩:=HZ h2;have hs:=(VN d).2.2;have ha:=dm a;have hp:∀s∈x.shs,s.lot.length<=24/\s.part.length<=10:=λs q=>by
  refine⟨dm (hs s q).1,?_⟩
  have:=h5 s q
  unfold Ow at this;simp only[BM,HL]at this;exact this.1
 exact⟨⟨by omega,by omega,λs q=>⟨by have:=(hp s q).1;omega,by have:=(hp s q).2;omega⟩⟩,λs q=>⟨by have:=(hp s q).1;omega,by have:=(hp s q).2;omega⟩⟩
theorem tY {g:List UInt8}{l:List AE}(h:∀x∈l,Ky g x)(hl:l.length<=4):II g l:=
 ⟨hl,λx q=>(h x q).2.1,λx q=>Pr (h x q),λx q=>(h x q).2.2.1,λx q=>(h x q).1,λx q=>(h x q).2.2.2.1⟩
theorem e0I {x:AE}(h:x.lite):∀m,∀y∈CP x m,y.few:=λm y hy=>by
 unfold CP at hy;split at hy
 ·rw[DG]at hy
  subst hy;exact(TJ h m).1
 ·cases hy
theorem oY {g:List UInt8}{x:AE}(h:Ky g x){i m:Int}(hi:0<=i/\i<=100)(h0:0<=m)(h1:m<=x.mass):AI C0 7 [(C8 i x).D,i64 0,i64 m] (.tup [(⟨(C8 i x).flow,2+i,x.mass,0,[CP x (x.mass-m)]⟩:Bp).D,Au false (CP x m),i64 0]):=by
 obtain⟨d1,d2,d3⟩:=e1Q h.2.1 hi h0 h1;have hc:=e0g (C8 i x) (show 1<=1000000 by decide) (λc hc=>by
  rw[show(C8 i x).cells=[[x]]from rfl,DG]at hc;subst hc;exact⟨show 1<=1000000 by decide,λy hy=>by rw[DG]at hy;subst hy;exact(Pr h).1⟩) 0 m
 have hB:MC (C8 i x) 0 m=⟨(C8 i x).flow,2+i,x.mass,0,[CP x (x.mass-m)]⟩:=by
  have:MC (C8 i x) 0 m=⟨(C8 i x).flow,(C8 i x).core,(C8 i x).room,(C8 i x).side,(MC (C8 i x) 0 m).cells⟩:=by
   unfold MC;rw[AG (λq=>q d1)];rfl
  rw[this,d3];rfl
 rw[d1,d2,hB]at hc;exact hc
theorem e3K {C:BH}{f:Nat}{args:List D}{d:D}(n:Nat)(h:AI C f (args.map (Go.Ide.loosen n)) d):AI C f args d:=
 ⟨h.1,λX w vs a b c e g=>h.2 X w vs a b c (by simpa using e) λi x hx=>by
  rw[BT]at hx;obtain⟨y,hy,rfl⟩:=Gc.1 hx;exact(VF n).1 _ _ _ _ _ (g i y hy)⟩
theorem nh {g:List UInt8}{x:AE}(h:Ky g x){i m:Int}(hi:0<=i/\i<=100)(h0:0<=m)(h1:m<=x.mass):AI C0 7 [.agg [.prim (.string ⟨#[102,117,110,110,101,108]⟩),i64 (2+i),i64 x.mass,i64 0,.sl true 1 [.sl true 3 [.agg [str (sb x.grain),i64 x.mass,.sl false 2 (x.shs.map A0.D)]]]],i64 0,i64 m]
  (.tup [.agg [.prim (.string ⟨#[102,117,110,110,101,108]⟩),i64 (2+i),i64 x.mass,i64 0,.sl false 1 [Au false (CP x (x.mass-m))]],Au false (CP x m),i64 0]):=e3K 3 (oY h hi h0 h1)
theorem Fg.len {l:List AE}{ms:List Int}:Fg l ms->ms.length=l.length:=by
 induction l generalizing ms with
 |nil=>cases ms with
  |nil=>exact λ_=>rfl
  |cons=>exact λh=>h.elim
 |cons a l ih=>cases ms with
  |nil=>exact λh=>h.elim
  |cons b ms=>exact λh=>by rw[By,By,ih h.2.2]
theorem Rv {x:AE}(h:x.lite)(hs:x.shs.length<=4):x.modr:=⟨.inl (by omega),h⟩
theorem bo {g:List UInt8}{x:AE}(h:Ky g x)(m:Int):∀y∈CP x m,y.modr:=λy hy=>by
 unfold CP at hy;split at hy
 ·rw[DG]at hy
  subst hy;exact Rv (TJ (Pr h) m) h.1
 ·cases hy
theorem WB (x:AE)(m:Int):(CP x m).length<=1:=by unfold CP;split<;>simp
theorem bq {g:List UInt8}{l:List AE}(h:II g l){ms:List Int}(hm:Fg l ms):CR (BS (B7 l ms))=0/\(∀y∈BS (B7 l ms),y.modr)/\(BS (B7 l ms)).length<=4:=by
 have hF:=h.used hm;have hul:=Mv l ms;have h4:=h.len;have hpos:∀y∈B7 l ms,1<=y.mass:=λy hy=>((HY hF.par).2.1 y hy).1
 have hk:=R6 (l:=B7 l ms);have hnl:=Kj (B7 l ms);refine⟨V3 hF.par hk (by omega) (M8 hpos) (by rw[Lj];exact(IC hF.par).2.2),λy hy=>?_,by omega⟩;obtain⟨z,hz,e1,e2⟩:=hk y hy;obtain⟨x,m,k1,-,-,rfl⟩:=QI hm hz;obtain⟨⟨a,b,c⟩,d⟩:=h.lite x k1;have hs:=h.shs x k1;have e1:y.grain=x.grain:=e1;have e2:y.shs=x.shs:=e2;exact Rv ⟨⟨by rw[e1];exact a,by rw[e2];exact b,by rw[e2];exact c⟩,by rw[e2];exact d⟩ (by rw[e2];exact hs)
theorem tW {g:List UInt8}{l:List AE}(h:II g l){ms:List Int}(hm:Fg l ms){x:AE}(hx:Ky g x){m:Int}(h0:0<=m)(h1:m<=x.mass)(hl:l.length<=3):
  CR (BS (B7 l ms))=0/\AI C0 9 [Au false (BS (B7 l ms)),Au false (CP x m)] (.tup [Au false (BS (B7 l ms++CP x m)),i64 0]):=by
 have hF:=h.used hm;have hul:=Mv l ms;have hpos:∀y∈B7 l ms,1<=y.mass:=λy hy=>((HY hF.par).2.1 y hy).1
 have hk:=R6 (l:=B7 l ms);have hnl:=Kj (B7 l ms);obtain⟨p1,p2,p3⟩:=IC hF.par;have hP:CR (BS (B7 l ms))=0:=V3 hF.par hk (by omega) (M8 hpos) (by rw[Lj];exact p3);have hQ:=V4 (x:=x) hx.2.1 h1;have hfA:∀y∈BS (B7 l ms),y.few:=λy hy=>by
  obtain⟨z,hz,e1,e2⟩:=hk y hy;obtain⟨⟨a,b,c⟩,-⟩:=hF.lite z hz;exact⟨by rw[e1];exact a,by rw[e2];exact b,by rw[e2];exact c⟩
 have hol:(CP x m).length<=1:=by unfold CP;split<;>simp
 have hj:=e0h (BS (B7 l ms)) (CP x m) (by omega) (by omega) hfA (e0I (Pr hx) m);have hsum:Ak (BS (B7 l ms))+Ak (CP x m)<=999999999:=by
  obtain⟨u1,-,u3,-⟩:=Mw hm
  have:=h.sum
  have ho:Ak (CP x m)=m:=by
   unfold CP;split
   ·show m+0=m;omega
   ·show(0:Int)=m;omega
  have:=hx.2.2.2.1
  rw[Lj,u1,ho];omega
 have hlen:=Kj (BS (B7 l ms)++CP x m);rw[Bz]at hlen;have hE:PP (BS (B7 l ms)) (CP x m)=0:=by
  unfold PP Nw;rw[hP,hQ];rw[AG (by show ¬(En [((0:Nat):Int),((0:Nat):Int)]≠0);exact λq=>q rfl),B3,B3]
 have hL:RR (BS (B7 l ms)) (CP x m)=BS (B7 l ms++CP x m):=by
  unfold RR;rw[AG (λq=>q hE)]
  have:=fE (P:=B7 l ms) (Q:=CP x m) hpos Zy
  rw[show BS (CP x m)=CP x m by unfold CP;split<;>rfl]at this;exact this
 rw[hE,hL]at hj;exact⟨hP,hj⟩
theorem an {l:List AE}(h:∀x∈l,x.shs.length<=4)(hl:l.length<=8):(DX l).length<=32:=by
 have h1:=VP (ts:=J9 l) (Q:=[]);have h2:=VZ h;rw[U6];simp at h1;omega
structure d8s (g:List UInt8)(l:List AE)(M:List Int)(U R:List AE):Prop where
 pn:On (BS U) g=0
 pl:Om (BS U) g=mixL U
 lit:∀x∈BS U,x.lite
 len:(BS U).length<=4
 ne:BS U≠[]
 une:U≠[]
 mn:mixN U=0
 ms:(mixL U).mass=M.sum
 sl:(mixL U).shs.length<=32
 rs:Ak R=Ak l-M.sum
 rm:NJ R
 rl:R.length<=4
 ok:∀x∈BS U++R,x.okR
 okl:∀x∈l,x.okR
 lots:DX (BS U++R)=DX l
 ll:(DX l).length<=32
theorem nl {g:List UInt8}{l:List AE}{M:List Int}(h:II g l)(hm:Fg l M)(hs:M.sum≠0)(h0:l.length≠0):d8s g l M (B7 l M) (EM l M):=by
 have hG:=h.gd hm hs;have hA:=hG.nrm;obtain⟨u1,u2,u3,u4⟩:=Mw hm;obtain⟨p1,p2,p3⟩:=bq h hm;have hgn:Dk g=true:=by
  obtain⟨x,hx⟩:∃x,x∈l:=List.exists_mem_of_length_pos (by omega)
  have:=(HZ (h.chk x hx)).1
  rwa [h.gr x hx]at this
 have hE:ID (BS (B7 l M)) g=0:=by
  unfold ID;rw[AG (λq=>q p1),AG (by rw[hgn];decide),AG (λq=>hA.ne (FU q))]
 have hre:(BS (B7 l M)).map (GM g)=BS (B7 l M):=by
  have:∀L:List AE,(∀y∈L,y.grain=g)->L.map (GM g)=L:=λL=>by
   induction L with
   |nil=>intro _;rfl
   |cons y L ih=>
    intro hy;rw[CX,ih λz hz=>hy z (B6 _ hz)]
    have:=hy y (CF ..)
    unfold GM;rw[<-this]
  exact this _ hA.gr
 have hnn:∀x∈l,1<=x.mass:=λx hx=>(HZ (h.chk x hx)).2.1
 have hrp:∀y∈EM l M,1<=y.mass:=λy hy=>by
  obtain⟨x,m,-,k2,-,rfl⟩:=Rz hm hy;show 1<=m;omega
 have hlen:=h.len;have hrl:=VK l M;have hokl:∀x∈l,x.okR:=λx hx=>Vy (Rv (h.lite x hx) (h.shs x hx)) (h.chk x hx)
 refine⟨?_,?_,λx hx=>(p2 x hx).2,p3,hA.ne,hG.ne,hG.mixN,?_,?_,u2,⟨by omega,λy hy=>?_⟩,by omega,λx hx=>?_,hokl,?_,an h.shs (by omega)⟩
 ·unfold On
  rw[AG (λq=>q hE),hre];exact hA.mixN
 ·unfold Om
  rw[AG (λq=>q hE),hre];exact td hG
 ·rw[hG.mixL];exact u1
 ·rw[hG.mixL]
  show((DX (B7 l M)).map _).length<=32;rw[Al]
  have:=Mv l M
  exact an hG.shs (by omega)
 ·obtain⟨x,m,k1,k2,k3,rfl⟩:=Rz hm hy
  have:=h.mass x k1
  show m.natAbs<=_;omega
 ·rcases Bs.1 hx with hx|hx
  ·exact Vy (p2 x hx) ((IC p1).2.1 x hx)
  ·obtain⟨z,m,k1,k2,k3,rfl⟩:=Rz hm hx
   exact Vy (Rv (TJ (h.lite z k1) m) (h.shs z k1)) (Xi (h.chk z k1) k2 k3)
 ·refine Z8 (λx hx=>?_) hnn ?_
  ·rcases Bs.1 hx with hx|hx
   ·exact hA.pos x hx
   ·exact hrp x hx
  ·rw[Jy,TQ λx hx=>by have:=hG.pos x hx;omega]
   exact bh hm
theorem vG (q:Bf):q.map GC=(q.map λp=>(⟨p.1,Ao p.2⟩:A0)).map A0.D:=by
 rw[List.map_map];rfl
def kI (f:Nat)(p q:Q2):Option D:=match Nat.beq f 151 with
 |true=>MM (Xk p q) (lE p q).D
 |false=>match Nat.beq f 85 with
  |true=>MM (Xv p q) (l5 p q).D
  |false=>match Nat.beq f 86 with
   |true=>MM (Xw p q) (O4 p q).D
   |false=>match Nat.beq f 198 with
    |true=>MM (kD p q) (i64 (D6 (p.n*q.d) (q.n*p.d)))
    |false=>match Nat.beq f 64 with
     |true=>MM (kG p q (HH q)) (KQ (p.n*(HH q).n) (p.d*(HH q).d)).D
     |false=>none
def kH (f:Nat)(p:Q2):Option D:=match Nat.beq f 61 with
 |true=>some (i64 (max (-1) (min 1 p.n)))
 |false=>match Nat.beq f 101 with
  |true=>MM (Cq p.n) (O9 p).D
  |false=>match Nat.beq f 116 with
   |true=>MM (Yh p.n&&Cq p.n&&Cq p.d) (HH p).D
   |false=>none
def YE (f:Nat)(ds:List D):Option D:=match ds with
 | [x,y]=>match QE x with
  |some p=>match QE y with
   |some q=>kI f p q
   |none=>none
  |none=>none
 | [x]=>match Nat.beq f 60 with
  |true=>match x with
   | .prim (.int .i64 z)=>some (Cy z 1)
   |_=>none
  |false=>match QE x with
   |some p=>kH f p
   |none=>none
 |_=>none
theorem zx (p q:Q2):AU [p.D,q.D]:=AJ
theorem ui {f:Nat}{ds:List D}{d:D}(h:YE f ds=some d):AI C0 f ds d/\AU ds:=by
 unfold YE at h;split at h<;>try(cases h;done)
 ·split at h<;>try(cases h;done)
  rename_i p hp;split at h<;>try(cases h;done)
  rename_i q hq;obtain rfl:=Wf hp;obtain rfl:=Wf hq;refine⟨?_,zx p q⟩;unfold kI at h;split at h
  ·rename_i hf
   obtain rfl:=Bi hf;obtain⟨hb,rfl⟩:=M6 h;exact vV hb
  split at h
  ·rename_i hf
   obtain rfl:=Bi hf;obtain⟨hb,rfl⟩:=M6 h;exact zw hb
  split at h
  ·rename_i hf
   obtain rfl:=Bi hf;obtain⟨hb,rfl⟩:=M6 h;exact d7v hb
  split at h
  ·rename_i hf
   obtain rfl:=Bi hf;obtain⟨hb,rfl⟩:=M6 h;simp only[kD,BM]at hb;obtain⟨⟨⟨⟨⟨b1,b2⟩,b3⟩,b4⟩,b5⟩,b6⟩:=hb;exact uA p q (Cn b1) (Cn b2) (Cn b3) (Cn b4) (Cn b5) (Cn b6)
  split at h<;>try(cases h;done)
  rename_i hf;obtain rfl:=Bi hf;obtain⟨hb,rfl⟩:=M6 h;simp only[kG,BM]at hb;obtain⟨⟨⟨⟨⟨⟨⟨⟨⟨⟨b1,b2⟩,b3⟩,b4⟩,b5⟩,b6⟩,b7⟩,b8⟩,b9⟩,b10⟩,b11⟩:=hb;exact uB p q (iS b1) (Lv b2) (Lv b3) (Cn b4) (Cn b5) (Cn b6) (Cn b7) (Cn b8) (Cn b9) (Cn b10) (Cn b11)
 ·split at h
  ·rename_i hf
   obtain rfl:=Bi hf;split at h<;>try(cases h;done)
   cases h;exact⟨lI _,AJ⟩
  split at h<;>try(cases h;done)
  rename_i p hp;obtain rfl:=Wf hp;refine⟨?_,AJ⟩;unfold kH at h;split at h
  ·rename_i hf
   obtain rfl:=Bi hf;cases h;exact rK p
  split at h
  ·rename_i hf
   obtain rfl:=Bi hf;obtain⟨hb,rfl⟩:=M6 h;exact dQ p (Cn hb)
  split at h<;>try(cases h;done)
  rename_i hf;obtain rfl:=Bi hf;obtain⟨hb,rfl⟩:=M6 h;simp only[BM]at hb;exact dL p (iS hb.1.1) (Cn hb.1.2) (Cn hb.2)
def Ol (t:List (Nat×List D×D))(f:Nat)(ds:List D):Option D:=match YE f ds with
 |some d=>some d
 |none=>Qd t f ds
theorem R8 {t:List (Nat×List D×D)}(ht:∀e∈t,AI C0 e.1 e.2.1 e.2.2/\AU e.2.1)(f:Nat)(ds:List D)(d:D)(h:Ol t f ds=some d):AI C0 f ds d/\AU ds:=by
 unfold Ol at h;split at h
 ·rename_i hf;cases h;exact ui hf
 ·exact ae t ht _ _ _ h
theorem fk:∀e∈([]:List (Nat×List D×D)),AI C0 e.1 e.2.1 e.2.2/\AU e.2.1:=λ_ h=>by cases h
theorem C3 {f:Nat}{ds:List D}{d:D}{t:List (Nat×List D×D)}(h:AI C0 f ds d)(hp:AU ds)(ht:∀e∈t,AI C0 e.1 e.2.1 e.2.2/\AU e.2.1):∀e∈(f,ds,d)::t,AI C0 e.1 e.2.1 e.2.2/\AU e.2.1:=λe he=>by
 rcases Aw.1 he with rfl|he
 ·exact⟨h,hp⟩
 ·exact ht e he
theorem C5 {ds:List D}(h:GV (Gl 30) ds=true):AU ds:=⟨λx hx=>F5 (G4 h x hx)⟩
def UV (f:Nat):Bool:=Nat.beq f 150||Nat.beq f 51||Nat.beq f 105||Nat.beq f (1000000+184)||Nat.beq f (2000000+154)||Nat.beq f (2000000+155)||Nat.beq f (2000000+159)||Nat.beq f (2000000+199)
theorem L2 (l:List UInt8)(hl:Nat.ble l.length 100000=true:=by kernel_rfl)(h:chk l=0:=by kernel_rfl):AI C0 139 [str (sb l)] (i64 0):=by
 have:=bA l (Cf hl)
 rw[h]at this;exact this
theorem Lq (l:List UInt8)(d:D)(hl:Nat.ble l.length 100000=true:=by kernel_rfl)(h:chk l=0:=by kernel_rfl)(k:(Ij l).D=d:=by kernel_rfl):AI C0 84 [str (sb l)] d:=by
 rw[<-k];exact S4 (Cf hl) h
theorem TC (a b:Nat)(l:List UInt8)(h:(Nat.ble a 1000000&&Nat.ble b 1000000)=true:=by kernel_rfl)(k:Tg a b=l:=by kernel_rfl):AI C0 106 [Cy a b] (str (sb l)):=by
 simp only[BM]at h;have h1:=Cf h.1;have h2:=Cf h.2;rw[<-k];exact u5 a b (by omega) (by omega) (by omega) (by omega)
theorem dc0:AI C0 139 [.prim (.string ⟨#[50]⟩)] (i64 0):=L2 [50]
theorem df0:AI C0 84 [.prim (.string ⟨#[50]⟩)] (Cy 2 1):=Lq [50] _
theorem dc1:AI C0 139 [.prim (.string ⟨#[49]⟩)] (i64 0):=L2 [49]
theorem df1:AI C0 84 [.prim (.string ⟨#[49]⟩)] (Cy 1 1):=Lq [49] _
theorem dc2:AI C0 139 [.prim (.string ⟨#[49,50]⟩)] (i64 0):=L2 [49,50]
theorem df2:AI C0 84 [.prim (.string ⟨#[49,50]⟩)] (Cy 12 1):=Lq [49,50] _
theorem dc3:AI C0 139 [.prim (.string ⟨#[49,54]⟩)] (i64 0):=L2 [49,54]
theorem df3:AI C0 84 [.prim (.string ⟨#[49,54]⟩)] (Cy 16 1):=Lq [49,54] _
theorem dc4:AI C0 139 [.prim (.string ⟨#[49,52]⟩)] (i64 0):=L2 [49,52]
theorem df4:AI C0 84 [.prim (.string ⟨#[49,52]⟩)] (Cy 14 1):=Lq [49,52] _
theorem dc5:AI C0 139 [.prim (.string ⟨#[53,48]⟩)] (i64 0):=L2 [53,48]
theorem df5:AI C0 84 [.prim (.string ⟨#[53,48]⟩)] (Cy 50 1):=Lq [53,48] _
theorem dc6:AI C0 139 [.prim (.string ⟨#[49,51]⟩)] (i64 0):=L2 [49,51]
theorem df6:AI C0 84 [.prim (.string ⟨#[49,51]⟩)] (Cy 13 1):=Lq [49,51] _
theorem dc7:AI C0 139 [.prim (.string ⟨#[48]⟩)] (i64 0):=L2 [48]
theorem df7:AI C0 84 [.prim (.string ⟨#[48]⟩)] (Cy 0 1):=Lq [48] _
theorem dt0:AI C0 106 [Cy 50 1] (.prim (.string ⟨#[53,48]⟩)):=TC 50 1 [53,48]
theorem dt1:AI C0 106 [Cy 3 2] (.prim (.string ⟨#[51,47,50]⟩)):=TC 3 2 [51,47,50]
theorem dt2:AI C0 106 [Cy 1 4] (.prim (.string ⟨#[49,47,52]⟩)):=TC 1 4 [49,47,52]
theorem dt3:AI C0 106 [Cy 14 1] (.prim (.string ⟨#[49,52]⟩)):=TC 14 1 [49,52]
def T5:List (Nat×List D×D):=[(139,[.prim (.string ⟨#[50]⟩)],i64 0),
 (84,[.prim (.string ⟨#[50]⟩)],Cy 2 1),
 (139,[.prim (.string ⟨#[49]⟩)],i64 0),
 (84,[.prim (.string ⟨#[49]⟩)],Cy 1 1),
 (139,[.prim (.string ⟨#[49,50]⟩)],i64 0),
 (84,[.prim (.string ⟨#[49,50]⟩)],Cy 12 1),
 (139,[.prim (.string ⟨#[49,54]⟩)],i64 0),
 (84,[.prim (.string ⟨#[49,54]⟩)],Cy 16 1),
 (139,[.prim (.string ⟨#[49,52]⟩)],i64 0),
 (84,[.prim (.string ⟨#[49,52]⟩)],Cy 14 1),
 (139,[.prim (.string ⟨#[53,48]⟩)],i64 0),
 (84,[.prim (.string ⟨#[53,48]⟩)],Cy 50 1),
 (139,[.prim (.string ⟨#[49,51]⟩)],i64 0),
 (84,[.prim (.string ⟨#[49,51]⟩)],Cy 13 1),
 (139,[.prim (.string ⟨#[48]⟩)],i64 0),
 (84,[.prim (.string ⟨#[48]⟩)],Cy 0 1),
 (106,[Cy 50 1],.prim (.string ⟨#[53,48]⟩)),
 (106,[Cy 3 2],.prim (.string ⟨#[51,47,50]⟩)),
 (106,[Cy 1 4],.prim (.string ⟨#[49,47,52]⟩)),
 (106,[Cy 14 1],.prim (.string ⟨#[49,52]⟩))]
theorem WH:∀e∈T5,AI C0 e.1 e.2.1 e.2.2/\AU e.2.1:=C3 dc0 (C5 (by kernel_rfl)) (C3 df0 (C5 (by kernel_rfl)) (C3 dc1 (C5 (by kernel_rfl)) (C3 df1 (C5 (by kernel_rfl)) (C3 dc2 (C5 (by kernel_rfl)) (C3 df2 (C5 (by kernel_rfl)) (C3 dc3 (C5 (by kernel_rfl)) (C3 df3 (C5 (by kernel_rfl)) (C3 dc4 (C5 (by kernel_rfl)) (C3 df4 (C5 (by kernel_rfl)) (C3 dc5 (C5 (by kernel_rfl)) (C3 df5 (C5 (by kernel_rfl)) (C3 dc6 (C5 (by kernel_rfl)) (C3 df6 (C5 (by kernel_rfl)) (C3 dc7 (C5 (by kernel_rfl)) (C3 df7 (C5 (by kernel_rfl)) (C3 dt0 (C5 (by kernel_rfl)) (C3 dt1 (C5 (by kernel_rfl)) (C3 dt2 (C5 (by kernel_rfl)) (C3 dt3 (C5 (by kernel_rfl)) (fk))))))))))))))))))))
noncomputable def X8:EV:=⟨N0,LN.get,Mc.get,UV,Ol T5,PQ,KE⟩
theorem O3:FC C0 X8:=⟨Q6,KF,IV,R8 WH,by kernel_rfl,TN,OO⟩
def T3:D:=.sl true 3 [.agg [i64 100,.prim (.string ⟨#[50]⟩),.sl true 2 [.agg [.prim (.string ⟨#[49,50]⟩),.prim (.string ⟨#[49,50]⟩)]]],.agg [i64 100,.prim (.string ⟨#[49]⟩),.sl true 2 [.agg [.prim (.string ⟨#[49,54]⟩),.prim (.string ⟨#[49,54]⟩)]]]]
def lY:D:=.agg [i64 100,.sl true 1 [.prim (.string ⟨#[]⟩)],.sl true 1 [.prim (.string ⟨#[49,52]⟩)]]
def l9:D:=.tup [.sl false 1 [.prim (.string ⟨#[53,48]⟩),.prim (.string ⟨#[53,48]⟩)],.agg [.prim (.string ⟨#[51,47,50]⟩),.sl false 1 [.prim (.string ⟨#[49,47,52]⟩)],.sl false 1 [.prim (.string ⟨#[48]⟩)]],i64 0]
theorem tF:AI C0 16 [T3,lY] l9:=DR O3 1000 40
theorem ob:AI C0 17 [T3,.sl true 1 [.prim (.string ⟨#[53,48]⟩),.prim (.string ⟨#[53,48]⟩)]] (.tup [.sl false 2 [.agg [.prim (.string ⟨#[49,52]⟩),.prim (.string ⟨#[49,52]⟩)]],i64 0]):=DR O3 1000 40
def JK:D:=.agg [.prim (.string ⟨#[109,111,105,115,116,117,114,101]⟩),.prim (.string ⟨#[48]⟩),.prim (.string ⟨#[100,111,119,110]⟩),.prim (.string ⟨#[49]⟩)]
def UY:D:=.agg [.prim (.string ⟨#[111,110,101]⟩),.sl true 1 [.prim (.string ⟨#[]⟩)],.sl true 1 [.prim (.string ⟨#[49,51]⟩)]]
def UZ:D:=.agg [.prim (.string ⟨#[116,119,111]⟩),.sl true 1 [.prim (.string ⟨#[]⟩)],.sl true 1 [.prim (.string ⟨#[49,52]⟩)]]
def Hm:D:=.agg [.sl true 4 [JK],.sl true 3 [UY,UZ]]
def lk:List (Nat×List D×D):=(304,[],W1)::(41,[.prim (.string ⟨#[109,111,105,115,116,117,114,101]⟩)],Av true)::(41,[.prim (.string ⟨#[111,110,101]⟩)],Av true)::(41,[.prim (.string ⟨#[116,119,111]⟩)],Av true)::T5
theorem uS:∀e∈lk,AI C0 e.1 e.2.1 e.2.2/\AU e.2.1:=C3 sQ (C5 (by kernel_rfl)) (C3 (Ru ⟨#[109,111,105,115,116,117,114,101]⟩) (C5 (by kernel_rfl)) (C3 (Ru ⟨#[111,110,101]⟩) (C5 (by kernel_rfl)) (C3 (Ru ⟨#[116,119,111]⟩) (C5 (by kernel_rfl)) WH)))
noncomputable def m5:EV:=⟨N0,LN.get,Mc.get,UV,Ol lk,PQ,KE⟩
theorem Ta:FC C0 m5:=⟨Q6,KF,IV,R8 uS,by kernel_rfl,TN,OO⟩
theorem e2j:AI C0 252 [JK] (i64 0):=DR Ta 1000 40
theorem e0l:AI C0 250 [.sl true 4 [],.clo (.func 251) [] [.pptr JK]] (Av false):=DR Ta 1000 40
theorem e0m:AI C0 253 [Hm,i64 0] (i64 0):=DR Ta 1000 40
theorem e0o:AI C0 253 [Hm,i64 1] (i64 0):=DR Ta 1000 40
theorem qO:CI Hm:=F5 (n:=30) (by kernel_rfl)
instance:AA Hm:=⟨qO⟩
instance:AA JK:=⟨F5 (n:=30) (by kernel_rfl)⟩
instance:Ap JK:=by unfold JK;exact AJ
theorem r9:AI C0 209 [Hm] (.clo (.func 247) [] [.pptr Hm]):=by
 refine mI w1 gW rfl λF=>?_
 refine fR 0 ?_;refine fR 100 ?_;refine AX ?_;exact⟨_,.clo1 (.ptr rfl rfl rfl rfl),F5 (n:=30) (by kernel_rfl),rfl⟩
theorem rT {E:FT}{l:Nat}{R:LR}(hE:FT.ok E)(H0:Hp)(n0:Nat)(hY:m8 E l R):NC C0 E 247 [.clo (.yield l) [] [],.pptr (.agg [.sl true 4 [JK],.sl true 3 [UY,UZ]])] l R H0 n0
  (λj d H' n'=>j=none/\H'=H0):=by
 refine NC.walk w1 hE im rfl λB F hR=>?_
 refine AC.seq ?_;refine AC.seq ?_;refine mM w1 0 [0,1,2,3,4,5,6,7,8,9,10,11,12] [] 13 [14] (cj [(14,[13,0,12,11,10,5,4,3,2,1,9,8,7,6]),(13,[0,12,11,10,5,4,3,2,1,9,8,7,6]),(12,[11,10,5,4,3,2,1,9,8,7,6]),(11,[5,10,4,3,2,1,9,8,7,6]),(10,[9,5,8,7,6,4,3,2,1]),(9,[8,7,6]),(8,[7,6]),(7,[6]),(6,[]),(5,[4,3,2,1]),(4,[3,2,1]),(3,[2,1]),(2,[1]),(1,[]),(0,[])] (by kernel_rfl)) hR ?_;refine A9 ?_;refine BN.same _ (QJ _ 2) AJ ?_;refine A9 ?_;refine BN.same _ (QJ _ 5) AJ ?_;refine A9 ?_;refine BN.same _ (WT) AJ ?_;refine A9 ?_;refine⟨rfl,_,hY _ _,?_,λc H n h=>Ah h.1 (by simp)⟩;rintro H' n1 ⟨_,rfl⟩;refine A9 ?_;refine AK ?_;refine Ag ?_;refine AC.seq ?_;refine fR 100 ?_;refine AC.block ?_;refine HJ (α:=Nat×Nat) (λp=>⟨[(0,.clo (.yield l) [] []),(1,.pptr (.agg [.sl true 4 [JK],.sl true 3 [UY,UZ]])),(23,.sl true 4 [JK]),(24,i64 1),(25,i64 p.1)],H',p.2⟩) (λp=>1-p.1)
  (λp F=>J4 C0 E B F l R/\p.1<=1) (0,_) ⟨hR,Bg _⟩ AN ?_
 clear hR;rintro⟨i,m⟩ F ⟨hR,h1⟩;dsimp only at h1 hR⊢;refine fR 200 ?_;refine AC.seq ?_;refine AK ?_;have hi:i=0\/i=1:=by omega
 have a3:IntKind.i64.wrap ((i:Int)+1)=((i+1:Nat):Int):=wI;rcases hi with rfl|rfl
 ·refine Ag ?_
  refine AC.seq ?_;refine AC.block ?_;refine fR 300 ?_;refine⟨⟨rfl,by omega⟩,_,rfl,?_⟩;refine BA ?_
  try dsimp only[D.cells,spot]
  refine A9 ?_;refine fR 400 ?_;refine BI.own _ (Q7 e0l rfl (e2a (Dw.refl _ _) (.clo1 (.ptr rfl rfl rfl rfl))) AJ (.prim _)) ?_;rintro d H2 n2 ⟨rfl,rfl,rfl⟩;refine A9 ?_;refine AC.seq ?_;refine RC w1 500 [0,1,2,3,4,5,6] 7 [8] rfl (by kernel_rfl) hR ?_;refine A9 ?_;refine BI.same _ e2j (inferInstanceAs (AU [JK])) ?_;refine A9 ?_;refine dI (QJ _ 9) ?_;refine BI.same _ WT AJ ?_;refine A7 (by exact Bu) ?_;refine BA ?_;refine⟨rfl,_,hY _ _,?_,λc H n h=>Ah h.1 (by simp)⟩;rintro H2 n2 ⟨_,rfl⟩;refine A7 (by exact Bu) ?_;refine BA ?_;refine AK ?_;refine Ag ?_;refine An 600 ?_;refine HS a3 ?_;exact⟨(1,_),⟨hR,(by dsimp only;omega)⟩,(by dsimp only;omega),AN⟩
 ·refine CM ?_
  refine AC.seq ?_;refine AC.seq ?_;refine mM w1 700 [0,1,2,3,4,5,6,7,8,9,10,11,12] [] 13 [14] (cj [(14,[13,0,12,11,10,5,4,3,2,1,9,8,7,6]),(13,[0,12,11,10,5,4,3,2,1,9,8,7,6]),(12,[11,10,5,4,3,2,1,9,8,7,6]),(11,[5,10,4,3,2,1,9,8,7,6]),(10,[9,5,8,7,6,4,3,2,1]),(9,[8,7,6]),(8,[7,6]),(7,[6]),(6,[]),(5,[4,3,2,1]),(4,[3,2,1]),(3,[2,1]),(2,[1]),(1,[]),(0,[])] (by kernel_rfl)) hR ?_;refine A9 ?_;refine BN.same _ (QJ _ 2) AJ ?_;refine A9 ?_;refine BN.same _ (QJ _ 5) AJ ?_;refine A9 ?_;refine BN.same _ (WT) AJ ?_;refine A9 ?_;refine⟨rfl,_,hY _ _,?_,λc H n h=>Ah h.1 (by simp)⟩;rintro H2 n2 ⟨_,rfl⟩;refine A7 (by exact Bu) ?_;refine BA ?_;refine AK ?_;refine Ag ?_;refine fR 800 ?_;refine AC.block ?_;refine HJ (α:=Nat×Nat) (λp=>⟨[(0,.clo (.yield l) [] []),(1,.pptr (.agg [.sl true 4 [JK],.sl true 3 [UY,UZ]])),(63,i64 2),(64,i64 p.1)],H2,p.2⟩) (λp=>2-p.1)
   (λp F=>J4 C0 E B F l R/\p.1<=2) (0,_) ⟨hR,Bg _⟩ AN ?_
  clear hR a3 h1;rintro⟨i,m⟩ F ⟨hR,h1⟩;dsimp only at h1 hR⊢;refine fR 900 ?_;refine AC.seq ?_;refine AK ?_;have hi:i=0\/i=1\/i=2:=by omega
  have a3:IntKind.i64.wrap ((i:Int)+1)=((i+1:Nat):Int):=wI;rcases hi with rfl|rfl|rfl
  ·refine Ag ?_
   refine AC.seq ?_;refine AC.block ?_;refine fR 1000 ?_;refine AC.seq ?_;refine RC w1 1100 [0,1,2,3] 4 [5] rfl (by kernel_rfl) hR ?_;refine A9 ?_;refine BI.same _ e0m (inferInstanceAs (AU [Hm,i64 0])) ?_;refine A7 (by exact Bu) ?_;refine BA ?_;refine⟨rfl,_,hY _ _,?_,λc H n h=>Ah h.1 (by simp)⟩;rintro H2 n2 ⟨_,rfl⟩;refine A7 (by exact Bu) ?_;refine BA ?_;refine AK ?_;refine Ag ?_;refine An 1200 ?_;refine HS a3 ?_;exact⟨(1,_),⟨hR,(by dsimp only;omega)⟩,(by dsimp only;omega),AN⟩
  ·refine Ag ?_
   refine AC.seq ?_;refine AC.block ?_;refine fR 1000 ?_;refine AC.seq ?_;refine RC w1 1100 [0,1,2,3] 4 [5] rfl (by kernel_rfl) hR ?_;refine A9 ?_;refine BI.same _ e0o (inferInstanceAs (AU [Hm,i64 1])) ?_;refine A7 (by exact Bu) ?_;refine BA ?_;refine⟨rfl,_,hY _ _,?_,λc H n h=>Ah h.1 (by simp)⟩;rintro H2 n2 ⟨_,rfl⟩;refine A7 (by exact Bu) ?_;refine BA ?_;refine AK ?_;refine Ag ?_;refine An 1200 ?_;refine HS a3 ?_;exact⟨(2,_),⟨hR,(by dsimp only;omega)⟩,(by dsimp only;omega),AN⟩
  ·refine CM ?_
   exact⟨none,hR.stat,trivial,rfl,rfl⟩
theorem tC:AI C0 165 [Hm] (i64 0):=by
 refine Ac.walk w1 gD rfl λF=>?_
 refine fR 0 ?_;refine AC.seq ?_;refine fR 100 ?_;refine BI.same _ r9 (inferInstanceAs (AU [Hm])) ?_;refine A9 ?_;refine AC.block ?_;refine AC.rangeFunc (fi:=247) (first:=[]) (captured:=[.pptr Hm]) (Ψ:=λj d H' n'=>j=none/\H'=_) rfl (λds H n Φ=>ds=[i64 0]/\Φ=λj H' n'=>j=none/\H'=H) ?_ (λE l R hE hY=>rT hE _ _ (λH n=>hY _ _ _ _ ⟨rfl,rfl⟩)) ?_
 ·rintro l ds H n Φ ⟨rfl,rfl⟩
  refine⟨rfl,λF=>?_⟩;refine fI 200 ?_;refine⟨rfl,rfl,λF'=>?_⟩;refine AC.block ?_;refine fR 300 ?_;refine AK ?_;refine Ag ?_;exact⟨rfl,rfl⟩
 ·rintro j d H' n' F' ⟨rfl,rfl⟩
  dsimp only[lG];refine fR 500 ?_;refine AX ?_;exact AM rfl AA.out
def lx:List (Nat×List D×D):=(165,[Hm],i64 0)::T5
theorem uT:∀e∈lx,AI C0 e.1 e.2.1 e.2.2/\AU e.2.1:=C3 tC (C5 (by kernel_rfl)) WH
noncomputable def m6:EV:=⟨N0,LN.get,Mc.get,UV,Ol lx,PQ,KE⟩
theorem d8u:FC C0 m6:=⟨Q6,KF,IV,R8 uT,by kernel_rfl,TN,OO⟩
theorem vS:AI C0 18 [Hm,.sl false 2 [.agg [.prim (.string ⟨#[49,52]⟩),.prim (.string ⟨#[49,52]⟩)]]] (.tup [i64 1,i64 0]):=DR d8u 1000 40
def Jc:List UInt8:=[119,104,101,97,116]
def EH (c:UInt8)(m:Int):AE:=⟨Jc,m,[⟨[c],[49]⟩]⟩
def Iy:AE:=⟨Jc,10,[⟨[97],[49,47,50]⟩,⟨[98],[49,47,50]⟩]⟩
def Ge:List AE:=[EH 97 5,EH 98 5]
theorem ar (c:UInt8)(m:Int):(EH c m).lite:=⟨⟨show Jc.length<=100000 by decide,by show 1<=_;omega,λs hs=>by
 simp only[EH,DG]at hs;subst hs;exact⟨by simp,by simp⟩⟩,λs hs=>by
 simp only[EH,DG]at hs;subst hs;exact⟨by simp,by simp⟩⟩
theorem R7 (c:UInt8)(m:Int)(h:AI C0 19 [.prim (.string ⟨#[c]⟩),i64 m] (.agg [str (sb Jc),i64 m,.sl true 2 [.agg [.prim (.string ⟨#[c]⟩),.prim (.string ⟨#[49]⟩)]]])):AI C0 19 [.prim (.string ⟨#[c]⟩),i64 m] (EH c m).D:=by
 have:=h.loosen 10
 exact this
theorem o1:AI C0 19 [.prim (.string ⟨#[97]⟩),i64 10] (EH 97 10).D:=R7 97 10 (DR O3 100 10)
theorem o2:AI C0 19 [.prim (.string ⟨#[98]⟩),i64 20] (EH 98 20).D:=R7 98 20 (DR O3 100 10)
theorem o3:AI C0 19 [.prim (.string ⟨#[97]⟩),i64 5] (EH 97 5).D:=R7 97 5 (DR O3 100 10)
theorem o4:AI C0 19 [.prim (.string ⟨#[98]⟩),i64 5] (EH 98 5).D:=R7 98 5 (DR O3 100 10)
theorem d7G:DX Ge=[([97],5),([98],5)]:=by kernel_rfl
theorem ke:Hh (DW Ge)=[([97],5),([98],5)]:=by rw[<-Pw];exact d7G
theorem d7H:Hi Ge=0:=by kernel_rfl
theorem e0H:Ak Ge=10:=by kernel_rfl
theorem e0F:[(([97],5):List UInt8×Rat),([98],5)].any (λp=>Et (p.2/(Ak Ge:Rat)))=false:=by kernel_rfl
theorem e0G:(DW Ge).length=2:=by kernel_rfl
theorem XP:mixN Ge=0:=by
 unfold mixN;rw[AG (by rw[d7H];exact λh=>h rfl),AG (by rw[e0G];decide),ke,e0F];rfl
theorem jS:mixL Ge=Iy:=by
 rw[di XP,e0H];unfold MG;rw[ke,show[(([97],5):List UInt8×Rat),([98],5)].map (λp=>(⟨p.1,Ao (p.2/(Ak Ge:Rat))⟩:A0))=Iy.shs by kernel_rfl];rfl
theorem vQ:AI C0 10 [.sl true 3 [(EH 97 5).D,(EH 98 5).D],str (sb Jc)] (.tup [Iy.D,i64 0]):=by
 have h:=kK true Ge Jc (by decide) (λx hx=>by
  simp only[Ge,Aw,Ds,or_false]at hx;rcases hx with rfl|rfl<;>exact ar _ _) (by decide)
 have he:ID Ge Jc=0:=by kernel_rfl
 have hr:Ge.map (GM Jc)=Ge:=rfl;rw[show On Ge Jc=0 by unfold On;rw[he,hr,XP];rfl,show Om Ge Jc=Iy by unfold Om;rw[he,hr,jS];rfl]at h;exact h
theorem vR:AI C0 11 [.sl true 3 [(EH 97 10).D,(EH 98 20).D],.sl true 1 [i64 5,i64 5]] (.tup [Iy.D,i64 0]):=by
 have hu:B7 [EH 97 10,EH 98 20] [5,5]=Ge:=by kernel_rfl
 have h:=kL true true [EH 97 10,EH 98 20] [5,5] rfl (by decide) (by decide) (λx hx=>by
  simp only[Aw,Ds,or_false]at hx;rcases hx with rfl|rfl<;>exact ar _ _) (λx hx=>by
  simp only[Aw,Ds,or_false]at hx;rcases hx with rfl|rfl<;>kernel_rfl) (λi x m h1 h2=>by
  match i with
  | 0=>cases h1;cases h2;exact⟨by decide,by decide⟩
  | 1=>cases h1;cases h2;exact⟨by decide,by decide⟩
  |n+2=>cases h1) (by rw[hu];exact λh=>by cases h)
 rw[hu,XP,jS]at h;exact h
theorem d8C:AI C0 20 [.sl false 1 [.prim (.string ⟨#[53,48]⟩),.prim (.string ⟨#[53,48]⟩)],.sl true 1 [.prim (.string ⟨#[53,48]⟩),.prim (.string ⟨#[53,48]⟩)]] (Av true):=e0y false true [[53,48],[53,48]] (by decide)
theorem d8B:AI C0 12 [Iy.D,Iy.D] (Av true):=bv Iy (by decide)
def RV:List (Nat×List D×D):=[(16,[T3,lY],l9),
 (17,[T3,.sl true 1 [.prim (.string ⟨#[53,48]⟩),.prim (.string ⟨#[53,48]⟩)]],.tup [.sl false 2 [.agg [.prim (.string ⟨#[49,52]⟩),.prim (.string ⟨#[49,52]⟩)]],i64 0]),
 (18,[Hm,.sl false 2 [.agg [.prim (.string ⟨#[49,52]⟩),.prim (.string ⟨#[49,52]⟩)]]],.tup [i64 1,i64 0]),
 (19,[.prim (.string ⟨#[97]⟩),i64 10],(EH 97 10).D),
 (19,[.prim (.string ⟨#[98]⟩),i64 20],(EH 98 20).D),
 (19,[.prim (.string ⟨#[97]⟩),i64 5],(EH 97 5).D),
 (19,[.prim (.string ⟨#[98]⟩),i64 5],(EH 98 5).D),
 (11,[.sl true 3 [(EH 97 10).D,(EH 98 20).D],.sl true 1 [i64 5,i64 5]],.tup [Iy.D,i64 0]),
 (10,[.sl true 3 [(EH 97 5).D,(EH 98 5).D],str (sb Jc)],.tup [Iy.D,i64 0]),
 (20,[.sl false 1 [.prim (.string ⟨#[53,48]⟩),.prim (.string ⟨#[53,48]⟩)],.sl true 1 [.prim (.string ⟨#[53,48]⟩),.prim (.string ⟨#[53,48]⟩)]],Av true),
 (12,[Iy.D,Iy.D],Av true)]
theorem uU:∀e∈RV,AI C0 e.1 e.2.1 e.2.2/\AU e.2.1:=C3 tF (C5 (by kernel_rfl)) (C3 ob (C5 (by kernel_rfl)) (C3 vS (C5 (by kernel_rfl)) (C3 o1 (C5 (by kernel_rfl)) (C3 o2 (C5 (by kernel_rfl)) (C3 o3 (C5 (by kernel_rfl)) (C3 o4 (C5 (by kernel_rfl)) (C3 vR (C5 (by kernel_rfl)) (C3 vQ (C5 (by kernel_rfl)) (C3 d8C (C5 (by kernel_rfl)) (C3 d8B (C5 (by kernel_rfl)) (fk)))))))))))
noncomputable def m7:EV:=⟨N0,LN.get,Mc.get,UV,Ol RV,PQ,KE⟩
theorem d8v:FC C0 m7:=⟨Q6,KF,IV,R8 uU,by kernel_rfl,TN,OO⟩
theorem tG:AI C0 4 [] (Av true):=DR d8v 1000 40
abbrev F8:Dr:=[(8,[0,1,2,3,4,5,6,7,8,9,10,11,12,13,14,15],[16,17,18,19,20,21,22]),(16,[0,1,2,3,4,5,6,7],[8,9]),(28,[0,1,2,3,4,5,6,7,8,9,10,11,12],[13])]
open Go.Proofs Go.RowKit Go.Sort
set_option maxRecDepth 20000
set_option maxHeartbeats 8000000
abbrev Q3 (z:Int):D:=.prim (.int .u16 z)
def FL:List AE->List Int->List Int
 |x::l,z::w=>z.tmod (x.mass+1)::FL l w
 |_,_=>[]
theorem ba:∀ {l:List AE} {W:List Int} {i:Nat} {x:AE} {z:Int},l[i]?=some x->W[i]?=some z->FL (l.take (i+1)) (W.take (i+1))=FL (l.take i) (W.take i)++[z.tmod (x.mass+1)]
 |a::l,b::W,0,x,m,h1,h2=>by
  cases h1;cases h2;simp[FL]
 |a::l,b::W,i+1,x,m,h1,h2=>by
  simp only[Iq]at h1 h2
  have:=ba h1 h2
  rw[List.take_succ_cons,List.take_succ_cons,List.take_succ_cons,List.take_succ_cons];simp only[FL];rw[this];rfl
 | [],_,_,_,_,h1,_=>by simp at h1
 |_::_,[],_,_,_,_,h2=>by simp at h2
theorem fT:∀(l:List AE) (W:List Int),(FL l W).length<=l.length
 |x::l,z::w=>by
  have:=fT l w
  simp only[FL,By];omega
 | [],_=>by simp[FL]
 |_::_,[]=>by simp[FL]
theorem WJ:∀ {l:List AE} {W:List Int},(∀x∈l,0<=x.mass)->(∀z∈W,0<=z)->l.length<=W.length->Fg l (FL l W)
 | [],_,_,_,_=>by simp[FL,Fg]
 |x::l,z::W,h1,h2,h3=>by
  have a1:=h1 x (CF ..);have a2:=h2 z (CF ..);refine⟨Int.tmod_nonneg _ a2,?_,WJ (λy hy=>h1 y (B6 _ hy)) (λy hy=>h2 y (B6 _ hy)) (by simpa using h3)⟩
  have:=Int.tmod_lt_of_pos z (show 0<x.mass+1 by omega)
  omega
 |_::_,[],_,_,h=>by simp at h
theorem jO:∀ {l:List AE},(∀x∈l,0<=x.mass/\x.mass<=1000000)->0<=Ak l/\Ak l<=l.length*1000000
 | [],_=>by simp[Ak]
 |x::l,h=>by
  have h1:=h x (CF ..);have h2:=jO (l:=l) λy hy=>h y (B6 _ hy)
  have:Ak (x::l)=x.mass+Ak l:=rfl
  rw[By];omega
theorem zO (l:List AE)(W:List Int)(hl:l.length<=9223372036854775807)(hW:W.length<=9223372036854775807)(hw:∀z∈W,0<=z/\z<65536)
  (hx:∀x∈l,x.grain.length<=9223372036854775807/\x.shs.length<=9223372036854775807/\∀s∈x.shs,s.lot.length<=9223372036854775807/\s.part.length<=9223372036854775807):
  AI C0 3 [Au false l,.sl false 1 (W.map Q3)] (Av true):=by
 refine Ac.walk w1 e1T rfl λF=>?_
 have cDl:=tG;have el:(((l.map AE.D).length:Nat):Int)=(l.length:Int):=by rw[Al]
 have em:(((W.map Q3).length:Nat):Int)=(W.length:Int):=by rw[Al]
 by_cases h0:l.length=0
 ·have e1:((l.length:Int)==0)=true:=by rw[h0];rfl
  refine AR F8 (Ae el e1) cDl AB AB AB AB AB ?_;exact AM rfl AA.out
 have e1:((l.length:Int)==0)=false:=B8.2 (by omega)
 by_cases h4:4<l.length
 ·have e2:decide ((l.length:Int)>4)=true:=BV
  refine AR F8 (BG el e1 e2) cDl AB AB AB AB AB ?_;exact AM rfl AA.out
 have e2:decide ((l.length:Int)>4)=false:=BY
 by_cases h5:W.length<l.length
 ·have e3:decide ((W.length:Int)<(l.length:Int))=true:=BV
  refine AR F8 (Cw el em e1 e2 e3) cDl AB AB AB AB AB ?_;exact AM rfl AA.out
 have e3:decide ((W.length:Int)<(l.length:Int))=false:=BY;refine AR F8 (Cw el em e1 e2 e3) cDl AB AB AB AB AB ?_;obtain⟨x0,hx0⟩:∃x,l[0]?=some x:=CV (by omega);have hm0:(l.map AE.D)[0]?=some (.agg [str (sb x0.grain),i64 x0.mass,.sl false 2 (x0.shs.map A0.D)]):=by rw[BT,hx0];rfl
 refine AC.loop (α:=Nat×Nat×Nat) (λp=>⟨[(0,Au false l),(1,.sl false 1 (W.map Q3)),(5,E2 1703 p.2.1 1 ((FL (l.take p.1) (W.take p.1)).map λm=>i64 m)),(6,i64 (FL (l.take p.1) (W.take p.1)).sum),(7,i64 (Ak (l.take p.1))),(42,Au false l),(43,i64 (l.length:Int)),(44,i64 (p.1:Int))],EN 1703 p.2.1 3 1 ((FL (l.take p.1) (W.take p.1)).map λm=>i64 m),p.2.2⟩) (λp=>l.length-p.1)
  (λp=>p.1<=l.length/\∀(j:Nat) (x:AE),j<p.1->l[j]?=some x->Ky x0.grain x) (0,0,_) ⟨Bg _,λj x h=>Ah h (HR j)⟩ AN ?_
 rintro⟨i,g,n⟩ F ⟨hi,hC⟩;dsimp only at hi hC⊢;rcases BL i l.length with h2|h2
 rotate_left
 ·have e4:=Cx h2
  have:i=l.length:=by omega
  subst this;rw[DH];have hCl:∀x∈l,Ky x0.grain x:=λx hx=>by
   obtain⟨j,hj⟩:=MU.1 hx;exact hC j x (BR.1 hj).1 hj
  have hL4:=tY hCl (by omega);have hM:=WJ (l:=l) (W:=W.take l.length) (λy hy=>by have:=(HZ (hCl y hy).2.1).2.1;omega) (λz hz=>(hw z (List.take_subset _ _ hz)).1) (by rw[Be];omega);have hus:=Mw hM;have hml:=hM.len;have hsl:=hL4.sum;obtain⟨M,hMM⟩:∃M,FL l (W.take l.length)=M:=⟨_,rfl⟩
  rw[hMM]at hM hus hml⊢;obtain⟨u1,u2,u3,u4⟩:=hus;rcases M with _|⟨m0,ML⟩
  ·rw[Ir]at hml;omega
  obtain⟨M,hMc⟩:∃M,m0::ML=M:=⟨_,rfl⟩
  rw[CX,Gy,Gz];obtain⟨O,hO⟩:∃O,ML.map (λm=>i64 m)=O:=⟨_,rfl⟩
  have hMO:i64 m0::O=M.map λm=>i64 m:=by rw[<-hMc,<-hO];rfl
  have hOl:O.length+1=l.length:=by rw[<-hO,Al,<-hml,By]
  rw[hO,hMO,hOl];rw[hMc]at hM u1 u2 u3 u4 hml⊢
  by_cases hs0:M.sum=0
  ·have e9:(M.sum==0)=true:=by rw[hs0];rfl
   refine AR F8 (Ae e4 e9) cDl AB AB AB AB AB ?_;exact AM rfl AA.out
  have e9:(M.sum==0)=false:=B8.2 hs0;refine AR F8 (BG el e4 e9) cDl AB AB AB AB AB ?_;refine AC.ghost 3505 28 3 [(0,Au false l),(5,.osl 1703 g 1 0 l.length),(6,i64 M.sum),(7,i64 (Ak l)),(13,CS),(14,.osl 3505 _ 3 0 0),(110,Au false l),(111,i64 (l.length:Int)),(112,i64 ((0:Nat):Int))] ⟨.inl rfl,.inl rfl,.inl rfl,.inl rfl,.inl rfl,.inr ⟨rfl,rfl⟩,.inl rfl,.inl rfl,.inl rfl,trivial⟩ ?_;refine AC.loop (α:=Nat×Nat×Nat) (λp=>⟨[(0,Au false l),(5,.osl 1703 g 1 0 l.length),(6,i64 M.sum),(7,i64 (Ak l)),(13,Au false (BS (B7 (l.take p.1) (M.take p.1)))),(14,.osl 3505 p.2.1 3 0 ((EM (l.take p.1) (M.take p.1)).map AE.D).length),(110,Au false l),(111,i64 (l.length:Int)),(112,i64 (p.1:Int))],[⟨3505,p.2.1,28,3,(EM (l.take p.1) (M.take p.1)).map AE.D⟩,⟨1703,g,3,1,M.map λm=>i64 m⟩],p.2.2⟩) (λp=>l.length-p.1)
   (λp=>p.1<=l.length) (0,_,_) (Bg _) (AN (b:=by(repeat'(first|exact AB|exact Fz.refl _|exact Fz.nil 3|refine A7 ?_ ?_)))) ?_
  rintro⟨i,g2,n⟩ F hi;dsimp only at hi⊢;rcases BL i l.length with h2|h2
  rotate_left
  ·have e4:=Cx h2
   have:i=l.length:=by omega
   subst this;rw[DH,show M.take l.length=M by rw[<-hml];exact DH];have P:=nl hL4 hM hs0 h0;have cPr:=kL false false l M hml (by omega) (by omega) hL4.lite hL4.chk (λi x m a b=>hM.at a b) P.une;have hlg:x0.grain.length<=100000:=(Pr (hCl x0 (A8 hx0))).1.1;obtain⟨U,hU⟩:∃U,B7 l M=U:=⟨_,rfl⟩
   obtain⟨R,hR⟩:∃R,EM l M=R:=⟨_,rfl⟩
   rw[hU,hR]at P;rw[hU]at cPr;rw[hU,hR];have cPl:=kK false (BS U) x0.grain (by have:=P.len;omega) P.lit hlg;have cS:=bv (mixL U) (by have:=P.sl;omega);have cMs:=kn false R P.rm;have cA:=km false (BS U++R) (by rw[Bz];have:=P.len;have:=P.rl;omega) P.ok;have cL:=km false l (by omega) P.okl;have cSS:=aR false false ((DX l).map λp=>⟨p.1,Ao p.2⟩) (by rw[Al];have:=P.ll;omega);rw[P.lots]at cA;rw[vG]at cA cL;rw[P.pn,P.pl]at cPl;rw[P.mn]at cPr;rw[P.rs]at cMs;obtain⟨Z,hZ⟩:∃Z:AE,mixL U=Z:=⟨_,rfl⟩
   have hZm:=P.ms;rw[hZ]at cPl cPr cS hZm;have eZ:Z.D=.agg [str (sb Z.grain),i64 M.sum,.sl false 2 (Z.shs.map A0.D)]:=by rw[<-hZm];rfl
   rw[eZ]at cPl cPr cS;obtain⟨S,hS⟩:∃S:List A0,(DX l).map (λp=>(⟨p.1,Ao p.2⟩:A0))=S:=⟨_,rfl⟩
   rw[hS]at cA cL cSS;have hf5:Fz [⟨3505,g2,28,3,R.map AE.D⟩,⟨1703,g,3,1,M.map λm=>i64 m⟩] [] (.osl 1703 g 1 0 l.length) (.sl false 1 (M.map λm=>i64 m)):=by
    have:=H6 (H:=[⟨3505,g2,28,3,R.map AE.D⟩,⟨1703,g,3,1,M.map λm=>i64 m⟩]) (Hf:=[]) (k:=1703) (g:=g) (T:=3) (sz:=1) (l:=M.map λm=>i64 m) rfl
    rwa [Al,hml]at this
   have hf14:Fz [⟨3505,g2,28,3,R.map AE.D⟩,⟨1703,g,3,1,M.map λm=>i64 m⟩] [] (.osl 3505 g2 3 0 (R.map AE.D).length) (Au false R):=H6 rfl;refine AC.weak ⟨[(0,Au false l),(5,.sl false 1 (M.map λm=>i64 m)),(6,i64 M.sum),(7,i64 (Ak l)),(13,Au false (BS U)),(14,Au false R),(110,Au false l),(111,i64 (l.length:Int)),(112,i64 (l.length:Int))],[],n⟩ (AN (b:=by(repeat'(first|exact AB|exact Fz.refl _|exact hf5|exact hf14|refine A7 ?_ ?_)))) ?_;have e0w:IntKind.i64.wrap (((0:Nat):Int)+((0:Nat):Int))=0:=by kernel_rfl
   have e0b:((0:Int) != 0)=false:=rfl;have e5:(M.sum != M.sum)=false:=bne_self_eq_false _;have a1:IntKind.i64.wrap (Ak l-M.sum)=Ak l-M.sum:=wI;have e6:(Ak l-M.sum != Ak l-M.sum)=false:=bne_self_eq_false _;have hAl:(List.map AE.D (BS U)).length<=4:=by rw[Al];exact P.len
   have hRl:(List.map AE.D R).length<=4:=by rw[Al];exact P.rl
   have hqq:(List.take 0 ([]:List D)++List.map AE.D (BS U)).length=(List.map AE.D (BS U)).length:=rfl;have hes:List.take (0+(List.map AE.D (BS U)).length) (List.take 0 []++List.map AE.D (BS U))++List.map AE.D R=List.map AE.D (BS U++R):=by
    rw[List.take_nil,E7,BX,DH,Du]
   have hle:0+(List.map AE.D (BS U)).length+(List.map AE.D R).length=(List.map AE.D (BS U++R)).length:=by
    rw[Du,Bz,BX]
   refine AR F8 (D7 el e4 e0w e0b e5 a1 (Ae e6 kN)) hm0 cPl cPr cS cMs AB ?_;rw[hes,hle];have hll:(List.map AE.D (BS U++R)).length<=8:=by rw[<-hle];omega
   refine BI.own _ (LB _ cA (.drop (.keep (.keep .nil))) ?hv AJ) ?_
   ·exact⟨H6 rfl,trivial⟩
   rintro d H2 n2 ⟨rfl,rfl,rfl⟩;refine AR F8 el cL cSS cDl AB AB AB ?_;exact AM rfl AA.out
  have e4:=Cs h2;have wi:=Cz (i:=i) (by omega);obtain⟨x,hxi⟩:=CV h2;obtain⟨m,hmi⟩:∃m,M[i]?=some m:=CV (by omega);obtain⟨hm0',hm1'⟩:=hM.at hxi hmi;have hcx:=hCl x (A8 hxi);have hm:(l.map AE.D)[i]?=some (.agg [str (sb x.grain),i64 x.mass,.sl false 2 (x.shs.map A0.D)]):=by rw[BT,hxi];rfl
  have hmM:(M.map λm=>i64 m)[i]?=some (i64 m):=by rw[BT,hmi];rfl
  have a2:IntKind.i64.wrap (2+(i:Int))=2+(i:Int):=wI;have cDr:=nh hcx (i:=(i:Int)) ⟨by omega,by omega⟩ hm0' hm1';have cP1:=YK false (CP x m) (by have:=WB x m;omega) (bo hcx m);rw[V4 hcx.2.1 hm1']at cP1;have cP2:=YK false (CP x (x.mass-m)) (by have:=WB x (x.mass-m);omega) (bo hcx _);rw[V4 hcx.2.1 (by omega)]at cP2;obtain⟨-,cJ⟩:=tW (hL4.take i) (hM.take i) hcx hm0' hm1' (by rw[Be];omega);have hU:B7 (l.take (i+1)) (M.take (i+1))=B7 (l.take i) (M.take i)++CP x m:=Vd hxi hmi;have hR:=Zq hxi hmi;obtain⟨hp3,hp4,hp5⟩:=bq (hL4.take (i+1)) (hM.take (i+1));have cP3:=YK false _ (by omega) hp4;rw[hp3]at cP3;rw[<-hU]at cJ;have e0n:(((0:Nat):Int) != 0)=false:=rfl;have e0z:((0:Int) != 0)=false:=rfl;obtain⟨AD,hAD⟩:∃A,Au false (BS (B7 (l.take i) (M.take i)))=A:=⟨_,rfl⟩
  obtain⟨ND,hND⟩:∃A,Au false (BS (B7 (l.take (i+1)) (M.take (i+1))))=A:=⟨_,rfl⟩
  obtain⟨BD,hBD⟩:∃A,Au false (CP x m)=A:=⟨_,rfl⟩
  have pA:AA AD:=by rw[<-hAD];exact AJ
  have pN:AA ND:=by rw[<-hND];exact AJ
  have pB:AA BD:=by rw[<-hBD];exact AJ
  rw[hAD,hBD,hND]at cJ;rw[hBD]at cDr cP1;rw[hND]at cP3;rw[hAD];obtain⟨QL,hQL⟩:∃A,(CP x (x.mass-m)).map AE.D=A:=⟨_,rfl⟩
  have hQD:Au false (CP x (x.mass-m))=.sl false 3 QL:=by rw[<-hQL]
  have pQ:AA (.sl false 3 QL):=by rw[<-hQD];exact AJ
  have hQi:[D.sl false 3 QL][0]?=some (.sl false 3 QL):=rfl;rw[hQD]at cDr cP2;have hQl:QL.length<=1:=by rw[<-hQL,Al];exact WB _ _
  have hRl:=VK (l.take i) (M.take i);rw[Be]at hRl;obtain⟨RD,hRD⟩:∃R,(EM (l.take i) (M.take i)).map AE.D=R:=⟨_,rfl⟩
  have hRDl:RD.length<=4:=by rw[<-hRD,Al];omega
  have hR2:RD++QL=(EM (l.take (i+1)) (M.take (i+1))).map AE.D:=by rw[hR,Du,hRD,hQL]
  have hRt:RD.take RD.length=RD:=DH;rw[hRD];refine sZ 2500 ?_;refine AF e4 ?_;refine AC.seq ?_;refine AK ?_;refine Ag ?_;refine AC.seq ?_;refine AC.block ?_;refine sZ 2600 ?_;refine AF kB ?_;refine CN kT hm ?_;refine AF kN ?_;refine sZ 2700 ?_;refine AF a2 ?_;refine AC.weak ⟨[(0,Au false l),(5,.osl 1703 g 1 0 l.length),(6,i64 M.sum),(7,i64 (Ak l)),(13,AD),(14,.osl 3505 g2 3 0 RD.length),(110,Au false l),(111,i64 (l.length:Int)),(112,i64 (i:Int)),(15,i64 (i:Int)),(17,.optr 2708 (n+15) 5 0 0)],[⟨2708,n+15,37,5,[.agg [.prim (.string ⟨#[102,117,110,110,101,108]⟩),i64 (2+(i:Int)),i64 x.mass,i64 0,.sl true 1 [.sl true 3 [.agg [str (sb x.grain),i64 x.mass,.sl false 2 (x.shs.map A0.D)]]]]]⟩,⟨3505,g2,28,3,RD⟩,⟨1703,g,3,1,M.map λm=>i64 m⟩],n+100⟩ AN ?_;refine AC.seq ?_;refine e3s w1 2800 [0,1,2,3,4,5,6,7,8,9,10,11,12] [13] 11 10 [6,4,3,2,1,0,5,7,10] (by kernel_rfl) (by kernel_rfl) ?_;refine BA ?_
  repeat(first|(refine Jn rfl rfl rfl rfl ?_;first|refine G6 (λ_ _=>rfl) ?_|refine Lw rfl rfl rfl (by(try dsimp only);(try simp only[]);exact rfl) ?_)|(refine Vf rfl rfl rfl ?_;first|refine Vq (λ_ _=>rfl) ?_|refine WL rfl rfl rfl (by(try dsimp only);(try simp only[]);exact rfl) ?_)|(refine Ve rfl rfl rfl rfl ?_;refine G6 (λ_ _=>rfl) ?_))
  try refine Ut ?_
  refine BA ?_
  try simp only[]
  refine Jn rfl rfl rfl rfl ?_;refine BA ?_;refine Lw (d:=i64 m) rfl rfl rfl (by rw[BX,Iv];exact hmM) ?_;refine BA ?_;refine Jn rfl rfl rfl rfl ?_;refine BA ?_;refine A7 (by exact Bu) ?_;refine BA ?_;refine BN.same _ cDr AJ ?_;refine BA ?_
  repeat(first|(refine Jn rfl rfl rfl rfl ?_;first|refine G6 (λ_ _=>rfl) ?_|refine Lw rfl rfl rfl (by(try dsimp only);(try simp only[]);exact rfl) ?_)|(refine Vf rfl rfl rfl ?_;first|refine Vq (λ_ _=>rfl) ?_|refine WL rfl rfl rfl (by(try dsimp only);(try simp only[]);exact rfl) ?_)|(refine Ve rfl rfl rfl rfl ?_;refine G6 (λ_ _=>rfl) ?_))
  try refine Ut ?_
  refine BA ?_
  try simp only[]
  refine A7 ⟨trivial,.inl AB⟩ ?_;have e1n:(((1:Nat):Int) != 1)=false:=rfl;refine AR F8 (Fd e0n e0z e1n hRt wi kN) hQi cP1 cP2 cJ cP3 AB ?_;refine⟨(i+1,?mz,n+200),h2,by dsimp only;omega,?_⟩
  rotate_left
  ·dsimp only
   rw[<-hR2,hND,Bz];exact AN
 have e4:=Cs h2;have wi:=Cz (i:=i) (by omega);obtain⟨x,hxi⟩:=CV h2;have hm:(l.map AE.D)[i]?=some (.agg [str (sb x.grain),i64 x.mass,.sl false 2 (x.shs.map A0.D)]):=by rw[BT,hxi];rfl
 obtain⟨q1,q2,q3⟩:=hx x (A8 hxi);have esh:(((x.shs.map A0.D).length:Nat):Int)=(x.shs.length:Int):=by rw[Al]
 obtain⟨TD,hTD⟩:∃T,E2 1703 g 1 ((FL (l.take i) (W.take i)).map λm=>i64 m)=T:=⟨_,rfl⟩
 obtain⟨TH,hTH⟩:∃T,EN 1703 g 3 1 ((FL (l.take i) (W.take i)).map λm=>i64 m)=T:=⟨_,rfl⟩
 by_cases k1:4<x.shs.length
 ·have e5:decide ((x.shs.length:Int)>4)=true:=BV
  rw[hTD,hTH];refine AR F8 (Bo e4 esh e5 kN) hm hm0 cDl AB AB AB ?_;exact AM rfl AA.out
 have e5:decide ((x.shs.length:Int)>4)=false:=BY;have cL:=kj x (.inl (by omega)) ⟨q1,q2,q3⟩;unfold AE.D at cL
 by_cases k2:Bw x=0
 rotate_left
 ·have e6:=IM k2
  rw[hTD,hTH];refine AR F8 (Cw e4 esh e5 e6 kN) hm hm0 cDl cL AB AB ?_;exact AM rfl AA.out
 have e6:=Im k2;have hst:BU (sb x.grain) (sb x0.grain)=decide (x.grain=x0.grain):=by rw[Mu]
 by_cases k3:x.grain=x0.grain
 rotate_left
 ·rw[Az k3]at hst
  rw[hTD,hTH];refine AR F8 (Fd e4 esh e5 e6 hst kN) hm hm0 cDl cL AB AB ?_;exact AM rfl AA.out
 rw[Ax k3]at hst
 by_cases k4:x.mass>1000000
 ·have e7:decide (x.mass>1000000)=true:=Ax k4
  rw[hTD,hTH];refine AR F8 (D7 e4 esh e5 e6 hst e7 kN) hm hm0 cDl cL AB AB ?_;exact AM rfl AA.out
 have e7:decide (x.mass>1000000)=false:=Az k4;rw[hTD,hTH];refine AR F8 (D7 e4 esh e5 e6 hst e7 kN) hm hm0 cDl cL AB AB ?_;refine AC.loop (α:=Nat×Nat) (λp=>⟨[(0,Au false l),(1,.sl false 1 (W.map Q3)),(5,TD),(6,i64 (FL (l.take i) (W.take i)).sum),(7,i64 (Ak (l.take i))),(8,i64 (i:Int)),(9,.optr 703 (n+1+1+1+1) 3 0 0),(42,Au false l),(43,i64 (l.length:Int)),(44,i64 (i:Int)),(74,.sl false 2 (x.shs.map A0.D)),(75,i64 (x.shs.length:Int)),(76,i64 (p.1:Int))],⟨703,n+1+1+1+1,28,3,[.agg [str (sb x.grain),i64 x.mass,.sl false 2 (x.shs.map A0.D)]]⟩::TH,p.2⟩) (λp=>x.shs.length-p.1)
  (λp=>p.1<=x.shs.length/\∀(j:Nat) (s:A0),j<p.1->x.shs[j]?=some s->Ow s.part=true) (0,_) ⟨Bg _,λj s h=>Ah h (HR j)⟩ AN ?_
 rintro⟨k,n2⟩ F ⟨hk,hF⟩;dsimp only at hk hF⊢;rcases BL k x.shs.length with h3|h3
 rotate_left
 ·have e8:=Cx h3
  have:k=x.shs.length:=by omega
  subst this;obtain⟨z,hz⟩:∃z,W[i]?=some z:=CV (by omega);obtain⟨z0,z1⟩:=hw z (A8 hz);have hmz:(W.map Q3)[i]?=some (.prim (.int .u16 z)):=by rw[BT,hz];rfl
  obtain⟨-,g1,g2,-⟩:=HZ k2;have az:IntKind.i64.wrap z=z:=wI;have a1:IntKind.i64.wrap (x.mass+1)=x.mass+1:=wI;have hb:∀y∈l.take i,0<=y.mass/\y.mass<=1000000:=λy hy=>by
   obtain⟨j,hj⟩:=MU.1 hy;rw[FH]at hj;split at hj
   ·rename_i hji
    obtain⟨-,c2,-,c4,-⟩:=hC j y hji hj;exact⟨by have:=(HZ c2).2.1;omega,c4⟩
   ·cases hj
  have hS:=Mw (WJ (l:=l.take i) (W:=W.take i) (λy hy=>(hb y hy).1) (λy hy=>(hw y (List.take_subset _ _ hy)).1) (by rw[Be,Be];omega));have hS2:=jO hb;rw[Be]at hS2;have hT:=ba hxi hz;have hT2:=R4 hxi;have hr0:0<=z.tmod (x.mass+1):=Int.tmod_nonneg _ z0;have hr1:z.tmod (x.mass+1)<=x.mass:=by
   have:=Int.tmod_lt_of_pos z (show 0<x.mass+1 by omega)
   omega
  have hTl:=fT (l.take i) (W.take i);obtain⟨r,hr⟩:∃r,z.tmod (x.mass+1)=r:=⟨_,rfl⟩
  obtain⟨ML,hML⟩:∃M,FL (l.take i) (W.take i)=M:=⟨_,rfl⟩
  rw[hr]at hr0 hr1 hT;rw[hML]at hT hS hTD hTH hTl⊢;have a2:IntKind.i64.wrap (ML.sum+r)=ML.sum+r:=wI;have a3:IntKind.i64.wrap (Ak (l.take i)+x.mass)=Ak (l.take i)+x.mass:=wI;have hne:x.mass+1≠0:=by omega
  rw[<-hTD,<-hTH];have hsum:(FL (l.take (i+1)) (W.take (i+1))).sum=ML.sum+r:=by rw[hT];simp
  have hCn:∀(j:Nat) (y:AE),j<i+1->l[j]?=some y->Ky x0.grain y:=λj y hj hy=>by
   rcases IQ.1 hj with q|q
   ·exact hC j y q hy
   ·rw[q,hxi]at hy
    cases hy;refine⟨by omega,k2,k3,by omega,λs hs=>?_⟩;obtain⟨jj,hjj⟩:=MU.1 hs;exact hF jj s (BR.1 hjj).1 hjj
  rcases ML with _|⟨m0,ML⟩
  ·rw[List.map_nil,Kc,show EN 1703 g 3 1 []=[]from rfl]
   refine AR F8 (D7 e8 az a1 a2 a3 wi (Ae hr kN)) hmz AB AB AB AB AB ?_;refine⟨(i+1,n2+16,?ma),⟨h2,hCn⟩,by dsimp only;omega,?_⟩
   rotate_left
   ·dsimp only
    rw[hsum,hT2,hT,E7,CX,List.map_nil,Gy,Gz];exact AN
  ·rw[CX]
   obtain⟨O,hO⟩:∃O,ML.map (λm=>i64 m)=O:=⟨_,rfl⟩
   rw[hO,Gy,Gz];have hOl:O.length<=100:=by
    rw[By,Be]at hTl;rw[<-hO,Al];omega
   have htk:List.take (O.length+1) (i64 m0::O)=i64 m0::O:=DH (l:=i64 m0::O);refine AR F8 (D7 e8 az a1 a2 a3 wi (BG hr htk kN)) hmz AB AB AB AB AB ?_;refine⟨(i+1,n2+16,?mb),⟨h2,hCn⟩,by dsimp only;omega,?_⟩
   rotate_left
   ·dsimp only
    rw[hsum,hT2,show(FL (l.take (i+1)) (W.take (i+1))).map (λm=>i64 m)=i64 m0::(O++[i64 r]) by rw[hT,Du,CX,hO];rfl,Gy,Gz,Bz];exact AN
 have e8:=Cs h3;have wk:=Cz (i:=k) (by omega);obtain⟨s,hs⟩:=CV h3;have hms:(x.shs.map A0.D)[k]?=some (.agg [str (sb s.lot),str (sb s.part)]):=by rw[BT,hs];rfl
 have cF:=e0p s.part (q3 s (A8 hs)).2;obtain⟨fb,hfb⟩:∃b,Ow s.part=b:=⟨_,rfl⟩
 rw[hfb]at cF;cases fb
 ·refine AR F8 (Ae e8 kN) hms cDl cF AB AB AB ?_
  exact AM rfl AA.out
 refine AR F8 (BG e8 wk kN) hms cDl cF AB AB AB ?_;exact⟨(k+1,_),⟨h3,λj s' hj hs'=>by
  rcases IQ.1 hj with q|q
  ·exact hF j s' q hs'
  ·rw[q,hs]at hs';cases hs';exact hfb⟩,by dsimp only;omega,AN⟩
end Go.Ide
