/- The layer of own lemmas and contracts, part 13. -/
import Derived.Test.YtmpdcldckjeklabGreatDoorAD12
import Derived.Test.YtmpdcldckjeklabGreatDoorAD11
set_option linter.unusedVariables false
set_option linter.unusedSimpArgs false
namespace Go.Ide
abbrev Lw:Dr:=[(1,[0,1,2,3,4,5,6,7,8,9,10],[11,12])]
open Go.Proofs Go.RowKit
set_option maxRecDepth 20000
set_option maxHeartbeats 4000000
theorem R2 (e:Bs):Lib.join (B4 e) [32]=BI e:=rfl
theorem D7.itoaS {e:Bs}(v:D7 e):Aa C0 57 [i64 e.num] (AR (Lib.itoa e.num))/\Aa C0 57 [i64 e.day] (AR (Lib.itoa e.day)):=by
 have h1:=v.hn;have h2:=v.hd;have h3:=v.hn1;have h4:=v.hd1;exact⟨KQ _ (by omega) (by omega),KQ _ (by omega) (by omega)⟩
theorem IB (a b:List UInt8):sb a++sb b=sb (a++b):=by
 apply ByteArray.ext;simp[sb,ByteArray.data_append]
theorem Wc (e:Bs)(v:D7 e)(a b:Bool):Aa C0 27 [Bc a b e] (AR (CE e)):=by
 refine A0.walk w1 dW rfl λF=>?_
 obtain⟨c1,c2⟩:=v.itoaS;have hlen:=v.len;have hpl:(BI e).length<=400:=by
  have:(CE e).length=(BI e).length+(1+(Lib.itoa (Bb (BI e):Nat)).length):=by unfold CE;simp;omega
  omega
 have cS:=Rh (BI e) (by omega);have ks:=Ih e.kind;rw[v.hk]at ks;obtain⟨k1,k2,k3⟩:=ks;have hna:=v.ha;obtain⟨y,ys,hys⟩:∃y ys,e.names=y::ys:=by
  cases hn:e.names with
  |nil=>rw[hn]at hna;simp at hna;omega
  |cons y ys=>exact⟨y,ys,rfl⟩
 have hyl:ys.length+1=v.a:=by rw[hys]at hna;exact hna
 have hmb:=v.hb;dsimp only at k1 k2 k3;have hp:AG (ys.map AR):=Ao;have hpm:AG (e.masses.map BR):=Ao;have hml:(e.masses.map BR).length=e.masses.length:=Bi ..;have hnl:(ys.map AR).length=ys.length:=Bi ..;unfold Bc;rw[hys,BP];refine sR 0 ?_;refine AN.seq ?_;refine fU w1 100 [0,1,2,3,4,5,6,7,8,9,10] [11,12] [0,1,2,3,4,5,6,7] [9,10] 8 false (by kernel_rfl) rfl rfl rfl rfl rfl rfl rfl ?_;refine FX ?_;refine CT.same _ c1 Ao ?_;refine FX ?_;refine CT.same _ c2 Ao ?_;refine FX ?_;refine⟨by exact Bv,_,⟨rfl,by exact Bv,rfl,by decide,by decide⟩,?_⟩;refine FX ?_;refine AT Lw hml AA AA AA AA AA AA ?_;obtain⟨W0,hW0⟩:∃W0,Lib.itoa e.num::Lib.itoa e.day::e.kind::y::ys=W0:=⟨_,rfl⟩
 have hwl:W0.length=v.a+3:=by rw[<-hW0];simp;omega
 refine AN.loop (α:=Nat×Bool×Nat×Nat) (λp=>⟨[(1,.optr 0 0 5 0 0),(2,AR []),(3,.osl (cond p.2.1 504 111) p.2.2.1 1 0 ((W0++(e.masses.take p.1).map Lib.itoa).map AR).length),(20,.sl b 1 (e.masses.map BR)),(21,i64 (e.masses.length:Nat)),(22,i64 (p.1:Nat))],
  [⟨cond p.2.1 504 111,p.2.2.1,9,1,(W0++(e.masses.take p.1).map Lib.itoa).map AR⟩],p.2.2.2⟩) (λp=>e.masses.length-p.1) (λp=>p.1<=e.masses.length) (0,false,15,21) (Cv _) ?_ ?_
 ·dsimp only[cond]
  rw[Jd,List.map_nil,Ds,<-hW0];dsimp only[List.map_cons,List.length_cons,List.take];rw[show 3+((ys.map AR).length+1)=(ys.map AR).length+1+1+1+1 by omega];exact Ap
 rintro⟨i,q,g7,n1⟩ F h1;dsimp only at h1⊢;have hWl:((W0++(e.masses.take i).map Lib.itoa).map AR).length=v.a+3+i:=by simp;omega
 rcases Ar i e.masses.length with h2|h2
 ·obtain⟨x,hx⟩:∃x,e.masses[i]?=some x:=⟨e.masses[i],BK h2⟩
  have hx':(e.masses.map BR)[i]?=some (i64 x):=by rw[BW,hx];rfl
  have hsn:(W0++(e.masses.take (i+1)).map Lib.itoa).map AR=(W0++(e.masses.take i).map Lib.itoa).map AR++[AR (Lib.itoa x)]:=by
   rw[Fr,hx];simp
  obtain⟨WL,hWL⟩:∃WL,(W0++(e.masses.take i).map Lib.itoa).map AR=WL:=⟨_,rfl⟩
  rw[hWL]at hWl hsn⊢;have hxb:=v.hM x (Bf hx);have cI:=KQ x (by omega) (by omega);have t1:decide (((i:Nat):Int)<((e.masses.length:Nat):Int))=true:=BB;have wc:=wS (n:=i) (by omega);have htk:WL.take WL.length=WL:=EJ (Ah _);have hle:(WL++[AR (Lib.itoa x)]).length=WL.length+1:=by simp
  have hi2:((i:Nat):Int)<(((e.masses.map BR).length:Nat):Int):=by rw[hml];omega
  cases q
  ·dsimp only[cond]
   refine AT Lw (Cp t1 wc htk) hx' cI AA AA AA AA ?_;exact⟨(i+1,true,_,_),by dsimp only;omega,by dsimp only;omega,(by dsimp only[cond];rw[hsn,hle];exact Ap)⟩
  ·dsimp only[cond]
   refine AT Lw (Cp t1 wc htk) hx' cI AA AA AA AA ?_;exact⟨(i+1,true,_,_),by dsimp only;omega,by dsimp only;omega,(by dsimp only[cond];rw[hsn,hle];exact Ap)⟩
 ·have hi:i=e.masses.length:=by omega
  subst hi;have t1:decide (((e.masses.length:Nat):Int)<((e.masses.length:Nat):Int))=false:=Au;have hWE:W0++(e.masses.take e.masses.length).map Lib.itoa=B4 e:=by
   rw[EJ (Ah _),<-hW0];unfold B4;rw[hys];rfl
  rw[hWE]at hWl⊢;have hel:((B4 e).map AR).length=(B4 e).length:=Bi ..;have cJ:=Wq (B4 e) [32] false (by unfold B4;simp) (by rw[<-hel,hWl];omega) (by show(BI e).length<=_;omega);refine AN.weak ⟨[(2,AR []),(3,.sl false 1 ((B4 e).map AR)),(21,i64 (e.masses.length:Nat)),(22,i64 (e.masses.length:Nat))],[],n1⟩ ⟨.drop .nil,⟨.refl _,Ix _ g7 _ 1 _ [],.refl _,.refl _,trivial⟩,Ah _⟩ ?_;rw[R2]at cJ;have hpe:AG ((B4 e).map AR):=Ao;have hsz1:(sb (BI e)).size<=400:=by rw[Ch];omega
  have hs32:(⟨#[32]⟩:ByteArray).size=1:=rfl;have he1:sb (BI e)++(⟨#[32]⟩:ByteArray)=sb (BI e++[32]):=IB _ [32];have hs2:(sb (BI e++[32])).size<=401:=by rw[Ch,Co];simp;omega
  have hs3:(sb (Lib.itoa (Bb (BI e):Nat))).size<=9:=by
   rw[Ch];exact(F6 (n:=Bb (BI e)) (by have:=HD (BI e);omega)).2.2.1
  have he2:sb (BI e++[32])++sb (Lib.itoa (Bb (BI e):Nat))=sb (CE e):=by
   rw[IB,C6];rfl
  refine AT Lw (Cp t1 he1 he2) cJ cS AA AA AA AA ?_;exact Ak rfl AB.out
def Oz (e:Bs):List UInt8:=if Df e=0 then CE e else[]
theorem Ul (e:Bs)(a b:Bool)(h1:e.names.length<=100000)(h2:e.masses.length<=100000):Aa C0 7 [Bc a b e] (.tup [AR (Oz e),i64 (Df e:Nat)]):=by
 refine A0.walk w1 eb rfl λF=>?_
 have cC:=Ng a b e h1 h2;unfold Oz
 by_cases h:Df e=0
 ·obtain⟨v⟩:=Ri h
  have cT:=Wc e v a b;rw[h]at cC⊢;have t1:((((0:Nat):Int)) != 0)=false:=rfl;rw[AQ rfl];unfold Bc at cC cT⊢;have hpn:AG (e.names.map AR):=Ao;have hpm:AG (e.masses.map BR):=Ao;refine AT Ad t1 cC cT AA AA AA AA ?_;exact Ak rfl AB.out
 ·have t1:(((Df e:Nat):Int) != 0)=true:=by rw[bne_iff_ne];omega
  rw[AP h];generalize Df e=c at*;unfold Bc at cC⊢;have hpn:AG (e.names.map AR):=Ao;have hpm:AG (e.masses.map BR):=Ao;refine AT Ad t1 cC AA AA AA AA AA ?_;exact Ak rfl AB.out
open Go.Proofs Go.RowKit
set_option maxRecDepth 20000
set_option maxHeartbeats 4000000
theorem RM (sep:List UInt8):∀(l:List (List UInt8)) (x:List UInt8),Lib.joinTail sep (l++[x])=Lib.joinTail sep l++(sep++x)
 | [],x=>by simp[Lib.joinTail]
 |y::l,x=>by
  have:=RM sep l x
  simp only[Ft,Lib.joinTail]at this⊢;simp[this]
theorem VI (sep:List UInt8)(l:List (List UInt8))(x:List UInt8)(h:l≠[]):Lib.join (l++[x]) sep=Lib.join l sep++(sep++x):=by
 cases l with
 |nil=>exact AY rfl h
 |cons y l=>rw[Ft,Lib.join_cons,Lib.join_cons,RM,C6]
theorem RL (sep:List UInt8)(l:List (List UInt8))(i:Nat):(Lib.join (l.take i) sep).length<=(Lib.join l sep).length:=by
 cases l with
 |nil=>simp
 |cons y l=>cases i with
  |zero=>simp[Lib.join_nil]
  |succ i=>
   rw[List.take_succ_cons,Lib.join_cons,Lib.join_cons,Co,Co]
   have:∀(l:List (List UInt8)) (i:Nat),(Lib.joinTail sep (l.take i)).length<=(Lib.joinTail sep l).length:=λl=>by
    induction l with
    |nil=>intro i;simp
    |cons z l ih=>intro i;cases i with
     |zero=>simp[Lib.joinTail]
     |succ i=>
      have h:=ih i;have e:∀r:List (List UInt8),(Lib.joinTail sep (z::r)).length=(sep++z).length+(Lib.joinTail sep r).length:=λr=>by simp[Lib.joinTail];omega
      rw[List.take_succ_cons,e,e];omega
   have:=this l i
   omega
theorem VJ (l:List (List UInt8))(sep:List UInt8)(nn:Bool)(hl:l.length<=100000)(hj:(Lib.join l sep).length<=100000)(hs:sep.length<=1000):Aa C0 75 [.sl nn 1 (l.map AR),AR sep] (AR (Lib.join l sep)):=by
 refine A0.walk w1 dD rfl λF=>?_
 have hn:(l.map AR).length=l.length:=Bi ..;have hp:AG (l.map AR):=Ao;refine AT Ad kB AA AA AA AA AA AA ?_;refine AN.loop (α:=Nat×Nat) (λp=>⟨[(0,.sl nn 1 (l.map AR)),(1,AR sep),(4,AR []),(5,AR (Lib.join (l.take p.1) sep)),(6,i64 (p.1:Nat))],[],p.2⟩) (λp=>l.length-p.1) (λp=>p.1<=l.length) (0,_) (Cv _) Ap ?_;rintro⟨i,n1⟩ F h1;dsimp only at h1⊢;have hjl:=RL sep l i;rcases Ar i l.length with h2|h2
 ·obtain⟨x,hx⟩:∃x,l[i]?=some x:=⟨l[i],BK h2⟩
  have hx':=Is hx;have t1:decide (((i:Nat):Int)<((l.length:Nat):Int))=true:=BB;have wc:=wS (n:=i) (by omega);have hi2:((i:Nat):Int)<(((l.map AR).length:Nat):Int):=by rw[hn];omega
  have hjs:=RL sep l (i+1);have htk:l.take (i+1)=l.take i++[x]:=by rw[Fr,hx];rfl
  obtain⟨J,hJ⟩:∃J,Lib.join (l.take i) sep=J:=⟨_,rfl⟩
  rw[hJ]at hjl⊢;rcases Ar 0 i with h3|h3
  ·have t2:decide (((i:Nat):Int)>0)=true:=BB
   have hnx:Lib.join (l.take (i+1)) sep=(J++sep)++x:=by
    rw[htk,VI _ _ _ (by
     intro h
     have:=congrArg List.length h
     rw[Jb]at this;simp only[GJ]at this;omega),hJ,C6]
   rw[hnx,Co]at hjs;have e1:=IB J sep;have e2:=IB (J++sep) x;have z1:=Ch J;have z2:=Ch sep;have z3:=Ch (J++sep);have z4:=Ch x;rw[Co]at z3 hjs;refine AT Ad (Gy hn t1 t2 e1 e2 wc) hx' AA AA AA AA AA ?_;exact⟨(i+1,_),by dsimp only;omega,by dsimp only;omega,(by dsimp only;rw[hnx];exact Ap)⟩
  ·have hi0:i=0:=by omega
   subst hi0;have t2:decide (((0:Nat):Int)>0)=false:=rfl;have hJ0:J=[]:=by rw[<-hJ];rfl
   subst hJ0;have hnx:Lib.join (l.take (0+1)) sep=x:=by rw[htk];exact Lib.join_one ..
   rw[hnx]at hjs;have e1:sb []++sb x=sb x:=by rw[IB];rfl
   have z1:=Ch [];have z4:=Ch x;have z5:(sb []).size=0:=rfl;refine AT Ad (FV hn t1 t2 e1 wc) hx' AA AA AA AA AA ?_;exact⟨(0+1,_),by dsimp only;omega,by dsimp only;omega,(by dsimp only;rw[hnx];exact Ap)⟩
 ·have hi:i=l.length:=by omega
  subst hi;have t1:decide (((l.length:Nat):Int)<((l.length:Nat):Int))=false:=Au;rw[EJ (Ah _)];refine AT Ad (Bn hn t1) AA AA AA AA AA AA ?_;exact Ak rfl AB.out
end Go.Ide
