/- The layer of own lemmas and contracts, part 14. -/
import Derived.Test.YtmpdcldckjeklabGreatDoorAD9
import Derived.Test.YtmpdcldckjeklabGreatDoorAD13
import Derived.Test.YtmpdcldckjeklabGreatDoorAD8
set_option linter.unusedVariables false
set_option linter.unusedSimpArgs false
namespace Go.Ide
abbrev Lx:Dr:=[(1,[0,1,2,3,4,5,6,7],[8,9])]
abbrev Wg:Dr:=[(1,[0,1,2,3,4,5,6],[7,8])]
open Go.Proofs Go.RowKit
set_option maxRecDepth 20000
set_option maxHeartbeats 4000000
theorem D7.rints {e:Bs}(v:D7 e):Aa C0 40 [i64 e.num] (AR (Lib.itoa e.num))/\Aa C0 40 [i64 e.day] (AR (Lib.itoa e.day)):=by
 have h1:=v.hn;have h2:=v.hd;have h3:=v.hn1;have h4:=v.hd1;exact⟨by rw[h1];exact LT _ (by omega),by rw[h2];exact LT _ (by omega)⟩
theorem VC {z:Int}(h:0<=z/\z<=999999999):Aa C0 40 [i64 z] (AR (Lib.itoa z)):=by
 obtain⟨n,rfl⟩:∃n:Nat,z=(n:Int):=⟨z.toNat,by omega⟩
 exact LT n (by omega)
theorem WG (e:Bs)(v:D7 e)(a b:Bool):Aa C0 39 [Bc a b e] (AR (BI e)):=by
 refine A0.walk w1 dZ rfl λF=>?_
 obtain⟨c1,c2⟩:=v.rints;have hlen:=v.len;have hpl:(BI e).length<=400:=by
  have:(CE e).length=(BI e).length+(1+(Lib.itoa (Bb (BI e):Nat)).length):=by unfold CE;simp;omega
  omega
 have ks:=Ih e.kind;rw[v.hk]at ks;obtain⟨k1,k2,k3⟩:=ks;have hna:=v.ha;obtain⟨y,ys,hys⟩:∃y ys,e.names=y::ys:=by
  cases hn:e.names with
  |nil=>rw[hn]at hna;simp at hna;omega
  |cons y ys=>exact⟨y,ys,rfl⟩
 have hyl:ys.length+1=v.a:=by rw[hys]at hna;exact hna
 have hmb:=v.hb;dsimp only at k1 k2 k3;have hp:AG (ys.map AR):=Ao;have hpm:AG (e.masses.map BR):=Ao;have hml:(e.masses.map BR).length=e.masses.length:=Bi ..;have hnl:(ys.map AR).length=ys.length:=Bi ..;unfold Bc;rw[hys,BP];refine sR 0 ?_;refine AN.seq ?_;refine fV w1 100 [0,1,2,3,4,5,6,7] [9] 8 false (by kernel_rfl) rfl rfl rfl rfl rfl rfl ?_;refine FX ?_;refine CT.same _ c1 Ao ?_;refine FX ?_;refine CT.same _ c2 Ao ?_;refine FX ?_;refine⟨by exact Bv,_,⟨rfl,by exact Bv,rfl,by decide,by decide⟩,?_⟩;refine FX ?_;refine AT Lx hml AA AA AA AA AA AA ?_;obtain⟨W0,hW0⟩:∃W0,Lib.itoa e.num::Lib.itoa e.day::e.kind::y::ys=W0:=⟨_,rfl⟩
 have hwl:W0.length=v.a+3:=by rw[<-hW0];simp;omega
 refine AN.loop (α:=Nat×Bool×Nat×Nat) (λp=>⟨[(1,.optr 0 0 5 0 0),(2,AR []),(3,.osl (cond p.2.1 608 203) p.2.2.1 1 0 ((W0++(e.masses.take p.1).map Lib.itoa).map AR).length),(4,i64 (p.1:Nat))],
  [⟨cond p.2.1 608 203,p.2.2.1,9,1,(W0++(e.masses.take p.1).map Lib.itoa).map AR⟩,⟨0,0,25,5,[.agg [i64 e.num,i64 e.day,AR e.kind,.sl a 1 (AR y::ys.map AR),.sl b 1 (e.masses.map BR)]]⟩],p.2.2.2⟩) (λp=>e.masses.length-p.1) (λp=>p.1<=e.masses.length) (0,false,17,20) (Cv _) ?_ ?_
 ·dsimp only[cond]
  rw[Jd,List.map_nil,Ds,<-hW0];dsimp only[List.map_cons,List.length_cons,List.take];rw[show 3+((ys.map AR).length+1)=(ys.map AR).length+1+1+1+1 by omega];exact Ap
 rintro⟨i,q,g7,n1⟩ F h1;dsimp only at h1⊢;have hWl:((W0++(e.masses.take i).map Lib.itoa).map AR).length=v.a+3+i:=by simp;omega
 rcases Ar i e.masses.length with h2|h2
 ·obtain⟨x,hx⟩:∃x,e.masses[i]?=some x:=⟨e.masses[i],BK h2⟩
  have hx':(e.masses.map BR)[i]?=some (i64 x):=by rw[BW,hx];rfl
  have hsn:(W0++(e.masses.take (i+1)).map Lib.itoa).map AR=(W0++(e.masses.take i).map Lib.itoa).map AR++[AR (Lib.itoa x)]:=by
   rw[Fr,hx];simp
  obtain⟨WL,hWL⟩:∃WL,(W0++(e.masses.take i).map Lib.itoa).map AR=WL:=⟨_,rfl⟩
  rw[hWL]at hWl hsn⊢;have cI:=VC (v.hM x (Bf hx));have t1:decide (((i:Nat):Int)<((e.masses.length:Nat):Int))=true:=BB;have wc:=wS (n:=i) (by omega);have htk:WL.take WL.length=WL:=EJ (Ah _);have hle:(WL++[AR (Lib.itoa x)]).length=WL.length+1:=by simp
  have hi2:((i:Nat):Int)<(((e.masses.map BR).length:Nat):Int):=by rw[hml];omega
  cases q
  ·dsimp only[cond]
   refine AT Lx (Ea hml t1 wc htk) hx' cI AA AA AA AA ?_;exact⟨(i+1,true,_,_),by dsimp only;omega,by dsimp only;omega,(by dsimp only[cond];rw[hsn,hle];exact Ap)⟩
  ·dsimp only[cond]
   refine AT Lx (Ea hml t1 wc htk) hx' cI AA AA AA AA ?_;exact⟨(i+1,true,_,_),by dsimp only;omega,by dsimp only;omega,(by dsimp only[cond];rw[hsn,hle];exact Ap)⟩
 ·have hi:i=e.masses.length:=by omega
  subst hi;have t1:decide (((e.masses.length:Nat):Int)<((e.masses.length:Nat):Int))=false:=Au;have hWE:W0++(e.masses.take e.masses.length).map Lib.itoa=B4 e:=by
   rw[EJ (Ah _),<-hW0];unfold B4;rw[hys];rfl
  rw[hWE]at hWl⊢;have hel:((B4 e).map AR).length=(B4 e).length:=Bi ..;have cJ:=VJ (B4 e) [32] false (by rw[<-hel,hWl];omega) (by show(BI e).length<=_;omega) (by decide);refine AN.weak ⟨[(1,.optr 0 0 5 0 0),(2,AR []),(3,.sl false 1 ((B4 e).map AR)),(4,i64 (e.masses.length:Nat))],[⟨0,0,25,5,[.agg [i64 e.num,i64 e.day,AR e.kind,.sl a 1 (AR y::ys.map AR),.sl b 1 (e.masses.map BR)]]⟩],n1⟩ ⟨.drop (.keep .nil),⟨.refl _,.refl _,?_,.refl _,trivial⟩,Ah _⟩ ?_
  ·cases q
   ·exact OF (T:=9) rfl rfl rfl
   ·exact OF (T:=9) rfl rfl rfl
  rw[R2]at cJ;have hpe:AG ((B4 e).map AR):=Ao;refine AT Lx (Bn hml t1) cJ AA AA AA AA AA ?_;exact Ak rfl AB.out
theorem Ur (e:Bs)(v:D7 e)(a b:Bool):Aa C0 10 [Bc a b e] (AR (CE e)):=by
 refine A0.walk w1 bw rfl λF=>?_
 have cP:=WG e v a b;have hlen:=v.len;have hpl:(BI e).length<=400:=by
  have:(CE e).length=(BI e).length+(1+(Lib.itoa (Bb (BI e):Nat)).length):=by unfold CE;simp;omega
  omega
 have hck:=HD (BI e);have cS:=WY (BI e) (by omega);have cI:=LT (Bb (BI e)) (by omega);unfold Bc at cP⊢;have hpn:AG (e.names.map AR):=Ao;have hpm:AG (e.masses.map BR):=Ao;have hs32:(⟨#[32]⟩:ByteArray).size=1:=rfl;have hsz1:(sb (BI e)).size<=400:=by rw[Ch];omega
 have he1:sb (BI e)++(⟨#[32]⟩:ByteArray)=sb (BI e++[32]):=IB _ [32];have hs2:(sb (BI e++[32])).size<=401:=by rw[Ch,Co];simp;omega
 have hs3:(sb (Lib.itoa (Bb (BI e):Nat))).size<=9:=by
  rw[Ch];exact(F6 (n:=Bb (BI e)) (by omega)).2.2.1
 have he2:sb (BI e++[32])++sb (Lib.itoa (Bb (BI e):Nat))=sb (CE e):=by
  rw[IB,C6];rfl
 refine AT Wg (Bn he1 he2) cP cS cI AA AA AA ?_;exact Ak rfl AB.out
abbrev OA:Dr:=[(6,[0,1,2,3,4,5,6,7],[8])]
abbrev KN:Dr:=[(6,[0,1,2,3,4,5,6,7,8,9,10,11,12,13,14,15,16,17,18,19,20,21,22,23,24,25,26,27,28,29,30,31,32,33,34,35,36,37,38,39,40,41,42,43,44,45,46,47,48,49,50,51,52,53,54,55,56,57,58,59,60,61,62],[63,64,65]),(11,[0,1,2,3,4,5,6,7,8,9,10,11,12,13,14,15],[16])]
open Go.Proofs Go.RowKit
set_option maxRecDepth 20000
set_option maxHeartbeats 4000000
theorem Ut (a b:Bool)(l:List Int)(hl:l.length<=100000):Aa C0 20 [.sl a 1 (l.map BR),.sl b 1 (l.map BR)] (Am true):=by
 refine A0.walk w1 SI rfl λF=>?_
 have hn:(l.map BR).length=l.length:=Bi ..;have hp:AG (l.map BR):=Ao;have t0:(((l.length:Nat):Int) != ((l.length:Nat):Int))=false:=bne_self_eq_false _;refine AT OA (Bn hn t0) AA AA AA AA AA AA ?_;refine AN.loop (α:=Nat×Nat) (λp=>⟨[(0,.sl a 1 (l.map BR)),(1,.sl b 1 (l.map BR)),(4,Am false),(5,i64 (p.1:Nat))],[],p.2⟩) (λp=>l.length-p.1) (λp=>p.1<=l.length) (0,_) (Cv _) Ap ?_;rintro⟨i,n1⟩ F h1;dsimp only at h1⊢;rcases Ar i l.length with h2|h2
 ·obtain⟨x,hx⟩:∃x,l[i]?=some x:=⟨l[i],BK h2⟩
  have t1:decide (((i:Nat):Int)<((l.length:Nat):Int))=true:=BB;have hx':(l.map BR)[i]?=some (i64 x):=by rw[BW,hx];rfl
  have wc:=wS (n:=i) (by omega);have t2:(x != x)=false:=bne_self_eq_false _;have hi2:((i:Nat):Int)<(((l.map BR).length:Nat):Int):=by rw[hn];omega
  refine AT OA (Ea hn t1 t2 wc) hx' AA AA AA AA AA ?_;exact⟨(i+1,_),by dsimp only;omega,by dsimp only;omega,Ap⟩
 ·have hi:i=l.length:=by omega
  subst hi;have t1:decide (((l.length:Nat):Int)<((l.length:Nat):Int))=false:=Au;refine AT OA (Bn hn t1) AA AA AA AA AA AA ?_;exact Ak rfl AB.out
theorem Us (a b:Bool)(L:List Bs)(hl:L.length<=100000)(hL:∀e∈L,e.names.length<=100000/\e.masses.length<=100000):Aa C0 11 [.sl a 5 (L.map (Bc false false)),.sl b 5 (L.map (Bc false false))] (Am true):=by
 refine A0.walk w1 bx rfl λF=>?_
 have hn:(L.map (Bc false false)).length=L.length:=Bi ..;have hp:AG (L.map (Bc false false)):=Ao;have t0:(((L.length:Nat):Int) != ((L.length:Nat):Int))=false:=bne_self_eq_false _;refine AT KN (Bn hn t0) AA AA AA AA AA AA ?_;refine AN.loop (α:=Nat×Nat) (λp=>⟨[(0,.sl a 5 (L.map (Bc false false))),(1,.sl b 5 (L.map (Bc false false))),(4,Am false),(5,i64 (p.1:Nat))],[],p.2⟩) (λp=>L.length-p.1) (λp=>p.1<=L.length) (0,_) (Cv _) Ap ?_;rintro⟨i,n1⟩ F h1;dsimp only at h1⊢;rcases Ar i L.length with h2|h2
 ·obtain⟨x,hx⟩:∃x,L[i]?=some x:=⟨L[i],BK h2⟩
  have t1:decide (((i:Nat):Int)<((L.length:Nat):Int))=true:=BB;obtain⟨h3,h4⟩:=hL x (Bf hx);obtain⟨num,day,kind,names,masses⟩:=x;dsimp only at h3 h4;have hx':(L.map (Bc false false))[i]?=some (.agg [i64 num,i64 day,AR kind,.sl false 1 (names.map AR),.sl false 1 (masses.map BR)]):=by rw[BW,hx];rfl
  have wc:=wS (n:=i) (by omega);have hi2:((i:Nat):Int)<(((L.map (Bc false false)).length:Nat):Int):=by rw[hn];omega
  have q1:(num != num)=false:=bne_self_eq_false _;have q2:(day != day)=false:=bne_self_eq_false _;have q3:BD (sb kind) (sb kind)=true:=by rw[CV];exact BX rfl
  have hnn:(names.map AR).length=names.length:=Bi ..;have hpn:AG (names.map AR):=Ao;have hpm:AG (masses.map BR):=Ao;have q4:(((names.length:Nat):Int) != ((names.length:Nat):Int))=false:=bne_self_eq_false _;have cI:=Ut false false masses h4;refine AT KN (Eu hn t1 q1 q2 q3 kT (Cp kF hnn q4)) hx' cI AA AA AA AA ?_;refine AN.loop (α:=Nat×Nat) (λp=>⟨[(0,.sl a 5 (L.map (Bc false false))),(1,.sl b 5 (L.map (Bc false false))),(4,Am false),(5,i64 (i:Nat)),(6,i64 (p.1:Nat))],[],p.2⟩) (λp=>names.length-p.1) (λp=>p.1<=names.length) (0,_) (Cv _) Ap ?_;clear q1 q2 q3 q4 t0 cI;rintro⟨j,n2⟩ F h5;dsimp only at h5⊢;rcases Ar j names.length with h6|h6
  ·obtain⟨y,hy⟩:∃y,names[j]?=some y:=⟨names[j],BK h6⟩
   have hy':=Is hy;have t2:decide (((j:Nat):Int)<((names.length:Nat):Int))=true:=BB;have q3:BD (sb y) (sb y)=true:=by rw[CV];exact BX rfl
   have wj:=wS (n:=j) (by omega);have hj2:((j:Nat):Int)<(((names.map AR).length:Nat):Int):=by rw[hnn];omega
   refine AT KN (Gy hn hnn t2 q3 kT wj) hx' hy' AA AA AA AA ?_;exact⟨(j+1,_),by dsimp only;omega,by dsimp only;omega,Ap⟩
  ·have hj:j=names.length:=by omega
   subst hj;have t2:decide (((names.length:Nat):Int)<((names.length:Nat):Int))=false:=Au;refine AT KN (Ea hn hnn t2 wc) hx' AA AA AA AA AA ?_;exact⟨(i+1,_),by dsimp only;omega,by dsimp only;omega,Ap⟩
 ·have hi:i=L.length:=by omega
  subst hi;have t1:decide (((L.length:Nat):Int)<((L.length:Nat):Int))=false:=Au;refine AT KN (Bn hn t1) AA AA AA AA AA AA ?_;exact Ak rfl AB.out
end Go.Ide
