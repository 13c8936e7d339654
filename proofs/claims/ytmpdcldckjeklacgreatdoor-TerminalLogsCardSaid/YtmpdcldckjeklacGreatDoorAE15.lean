/- The layer of own lemmas and contracts, part 15. -/
import Derived.Test.YtmpdcldckjeklacGreatDoorAE13
import Derived.Test.YtmpdcldckjeklacGreatDoorAE11
import Derived.Test.YtmpdcldckjeklacGreatDoorAE8
set_option linter.unusedVariables false
set_option linter.unusedSimpArgs false
namespace Go.Ide
open Go.Proofs Go.RowKit
set_option maxRecDepth 20000
set_option maxHeartbeats 4000000
theorem R6 (sep:List UInt8):∀(l:List (List UInt8)) (x:List UInt8),Lib.joinTail sep (l++[x])=Lib.joinTail sep l++(sep++x)
 | [],x=>by simp[Lib.joinTail]
 |y::l,x=>by
  have:=R6 sep l x
  simp only[Fv,Lib.joinTail]at this⊢;simp[this]
theorem V2 (sep:List UInt8)(l:List (List UInt8))(x:List UInt8)(h:l≠[]):Lib.join (l++[x]) sep=Lib.join l sep++(sep++x):=by
 cases l with
 |nil=>exact AW rfl h
 |cons y l=>rw[Fv,Lib.join_cons,Lib.join_cons,R6,Cr]
theorem R5 (sep:List UInt8)(l:List (List UInt8))(i:Nat):(Lib.join (l.take i) sep).length<=(Lib.join l sep).length:=by
 cases l with
 |nil=>simp
 |cons y l=>cases i with
  |zero=>simp[Lib.join_nil]
  |succ i=>
   rw[List.take_succ_cons,Lib.join_cons,Lib.join_cons,B9,B9]
   have:∀(l:List (List UInt8)) (i:Nat),(Lib.joinTail sep (l.take i)).length<=(Lib.joinTail sep l).length:=λl=>by
    induction l with
    |nil=>intro i;simp
    |cons z l ih=>intro i;cases i with
     |zero=>simp[Lib.joinTail]
     |succ i=>
      have h:=ih i;have e:∀r:List (List UInt8),(Lib.joinTail sep (z::r)).length=(sep++z).length+(Lib.joinTail sep r).length:=λr=>by simp[Lib.joinTail];omega
      rw[List.take_succ_cons,e,e];omega
   have:=this l i
   omega
theorem V3 (l:List (List UInt8))(sep:List UInt8)(nn:Bool)(hl:l.length<=100000)(hj:(Lib.join l sep).length<=100000)(hs:sep.length<=1000):Aa C0 108 [.sl nn 1 (l.map AH),AH sep] (AH (Lib.join l sep)):=by
 refine Ax.walk w1 Xx rfl λF=>?_
 have hn:(l.map AH).length=l.length:=BP ..;have hp:AC (l.map AH):=An;refine AJ AU kB AA AA AA AA AA AA ?_;refine AO.loop (α:=Nat×Nat) (λp=>⟨[(0,.sl nn 1 (l.map AH)),(1,AH sep),(4,AH []),(5,AH (Lib.join (l.take p.1) sep)),(6,i64 (p.1:Nat))],[],p.2⟩) (λp=>l.length-p.1) (λp=>p.1<=l.length) (0,_) (Bu _) Al ?_;rintro⟨i,n1⟩ F h1;dsimp only at h1⊢;have hjl:=R5 sep l i;rcases Aq i l.length with h2|h2
 ·obtain⟨x,hx⟩:∃x,l[i]?=some x:=⟨l[i],BI h2⟩
  have hx':=HY hx;have t1:decide (((i:Nat):Int)<((l.length:Nat):Int))=true:=Av;have wc:=wS (n:=i) (by omega);have hi2:((i:Nat):Int)<(((l.map AH).length:Nat):Int):=by rw[hn];omega
  have hjs:=R5 sep l (i+1);have htk:l.take (i+1)=l.take i++[x]:=by rw[EG,hx];rfl
  obtain⟨J,hJ⟩:∃J,Lib.join (l.take i) sep=J:=⟨_,rfl⟩
  rw[hJ]at hjl⊢;rcases Aq 0 i with h3|h3
  ·have t2:decide (((i:Nat):Int)>0)=true:=Av
   have hnx:Lib.join (l.take (i+1)) sep=(J++sep)++x:=by
    rw[htk,V2 _ _ _ (by
     intro h
     have:=congrArg List.length h
     rw[Ds]at this;simp only[Gl]at this;omega),hJ,Cr]
   rw[hnx,B9]at hjs;have e1:=GG J sep;have e2:=GG (J++sep) x;have z1:=Bl J;have z2:=Bl sep;have z3:=Bl (J++sep);have z4:=Bl x;rw[B9]at z3 hjs;refine AJ AU (D7 hn t1 t2 e1 e2 wc) hx' AA AA AA AA AA ?_;exact⟨(i+1,_),by dsimp only;omega,by dsimp only;omega,(by dsimp only;rw[hnx];exact Al)⟩
  ·have hi0:i=0:=by omega
   subst hi0;have t2:decide (((0:Nat):Int)>0)=false:=rfl;have hJ0:J=[]:=by rw[<-hJ];rfl
   subst hJ0;have hnx:Lib.join (l.take (0+1)) sep=x:=by rw[htk];exact Lib.join_one ..
   rw[hnx]at hjs;have e1:sb []++sb x=sb x:=by rw[GG];rfl
   have z1:=Bl [];have z4:=Bl x;have z5:(sb []).size=0:=rfl;refine AJ AU (CW hn t1 t2 e1 wc) hx' AA AA AA AA AA ?_;exact⟨(0+1,_),by dsimp only;omega,by dsimp only;omega,(by dsimp only;rw[hnx];exact Al)⟩
 ·have hi:i=l.length:=by omega
  subst hi;have t1:decide (((l.length:Nat):Int)<((l.length:Nat):Int))=false:=Ap;rw[C3 (Ad _)];refine AJ AU (BJ hn t1) AA AA AA AA AA AA ?_;exact Ac rfl AB.out
abbrev MH:Dr:=[(1,[0,1,2,3,4,5,6,7],[8,9])]
abbrev XN:Dr:=[(1,[0,1,2,3,4,5,6],[7,8])]
open Go.Proofs Go.RowKit
set_option maxRecDepth 20000
set_option maxHeartbeats 4000000
theorem Ev.rints {e:BV}(v:Ev e):Aa C0 63 [i64 e.num] (AH (Lib.itoa e.num))/\Aa C0 63 [i64 e.day] (AH (Lib.itoa e.day)):=by
 have h1:=v.hn;have h2:=v.hd;have h3:=v.hn1;have h4:=v.hd1;exact⟨by rw[h1];exact Lw _ (by omega),by rw[h2];exact Lw _ (by omega)⟩
theorem Vy {z:Int}(h:0<=z/\z<=999999999):Aa C0 63 [i64 z] (AH (Lib.itoa z)):=by
 obtain⟨n,rfl⟩:∃n:Nat,z=(n:Int):=⟨z.toNat,by omega⟩
 exact Lw n (by omega)
theorem W4 (e:BV)(v:Ev e)(a b:Bool):Aa C0 62 [As a b e] (AH (Be e)):=by
 refine Ax.walk w1 eM rfl λF=>?_
 obtain⟨c1,c2⟩:=v.rints;have hlen:=v.len;have hpl:(Be e).length<=400:=by
  have:(Bn e).length=(Be e).length+(1+(Lib.itoa (Bs (Be e):Nat)).length):=by unfold Bn;simp;omega
  omega
 have ks:=JB e.kind;rw[v.hk]at ks;obtain⟨k1,k2,k3⟩:=ks;have hna:=v.ha;obtain⟨y,ys,hys⟩:∃y ys,e.names=y::ys:=by
  cases hn:e.names with
  |nil=>rw[hn]at hna;simp at hna;omega
  |cons y ys=>exact⟨y,ys,rfl⟩
 have hyl:ys.length+1=v.a:=by rw[hys]at hna;exact hna
 have hmb:=v.hb;dsimp only at k1 k2 k3;have hp:AC (ys.map AH):=An;have hpm:AC (e.masses.map BQ):=An;have hml:(e.masses.map BQ).length=e.masses.length:=BP ..;have hnl:(ys.map AH).length=ys.length:=BP ..;unfold As;rw[hys,BY];refine sR 0 ?_;refine AO.seq ?_;refine iD w1 100 [0,1,2,3,4,5,6,7] [9] 8 false (by kernel_rfl) rfl rfl rfl rfl rfl rfl ?_;refine F5 ?_;refine CX.same _ c1 An ?_;refine F5 ?_;refine CX.same _ c2 An ?_;refine F5 ?_;refine⟨by exact Bz,_,⟨rfl,by exact Bz,rfl,by decide,by decide⟩,?_⟩;refine F5 ?_;refine AJ MH hml AA AA AA AA AA AA ?_;obtain⟨W0,hW0⟩:∃W0,Lib.itoa e.num::Lib.itoa e.day::e.kind::y::ys=W0:=⟨_,rfl⟩
 have hwl:W0.length=v.a+3:=by rw[<-hW0];simp;omega
 refine AO.loop (α:=Nat×Bool×Nat×Nat) (λp=>⟨[(1,.optr 0 0 5 0 0),(2,AH []),(3,.osl (cond p.2.1 608 203) p.2.2.1 1 0 ((W0++(e.masses.take p.1).map Lib.itoa).map AH).length),(4,i64 (p.1:Nat))],
  [⟨cond p.2.1 608 203,p.2.2.1,9,1,(W0++(e.masses.take p.1).map Lib.itoa).map AH⟩,⟨0,0,25,5,[.agg [i64 e.num,i64 e.day,AH e.kind,.sl a 1 (AH y::ys.map AH),.sl b 1 (e.masses.map BQ)]]⟩],p.2.2.2⟩) (λp=>e.masses.length-p.1) (λp=>p.1<=e.masses.length) (0,false,17,20) (Bu _) ?_ ?_
 ·dsimp only[cond]
  rw[Jz,List.map_nil,Dd,<-hW0];dsimp only[List.map_cons,List.length_cons,List.take];rw[show 3+((ys.map AH).length+1)=(ys.map AH).length+1+1+1+1 by omega];exact Al
 rintro⟨i,q,g7,n1⟩ F h1;dsimp only at h1⊢;have hWl:((W0++(e.masses.take i).map Lib.itoa).map AH).length=v.a+3+i:=by simp;omega
 rcases Aq i e.masses.length with h2|h2
 ·obtain⟨x,hx⟩:∃x,e.masses[i]?=some x:=⟨e.masses[i],BI h2⟩
  have hx':(e.masses.map BQ)[i]?=some (i64 x):=by rw[Bf,hx];rfl
  have hsn:(W0++(e.masses.take (i+1)).map Lib.itoa).map AH=(W0++(e.masses.take i).map Lib.itoa).map AH++[AH (Lib.itoa x)]:=by
   rw[EG,hx];simp
  obtain⟨WL,hWL⟩:∃WL,(W0++(e.masses.take i).map Lib.itoa).map AH=WL:=⟨_,rfl⟩
  rw[hWL]at hWl hsn⊢;have cI:=Vy (v.hM x (Bh hx));have t1:decide (((i:Nat):Int)<((e.masses.length:Nat):Int))=true:=Av;have wc:=wS (n:=i) (by omega);have htk:WL.take WL.length=WL:=C3 (Ad _);have hle:(WL++[AH (Lib.itoa x)]).length=WL.length+1:=by simp
  have hi2:((i:Nat):Int)<(((e.masses.map BQ).length:Nat):Int):=by rw[hml];omega
  cases q
  ·dsimp only[cond]
   refine AJ MH (Cs hml t1 wc htk) hx' cI AA AA AA AA ?_;exact⟨(i+1,true,_,_),by dsimp only;omega,by dsimp only;omega,(by dsimp only[cond];rw[hsn,hle];exact Al)⟩
  ·dsimp only[cond]
   refine AJ MH (Cs hml t1 wc htk) hx' cI AA AA AA AA ?_;exact⟨(i+1,true,_,_),by dsimp only;omega,by dsimp only;omega,(by dsimp only[cond];rw[hsn,hle];exact Al)⟩
 ·have hi:i=e.masses.length:=by omega
  subst hi;have t1:decide (((e.masses.length:Nat):Int)<((e.masses.length:Nat):Int))=false:=Ap;have hWE:W0++(e.masses.take e.masses.length).map Lib.itoa=CV e:=by
   rw[C3 (Ad _),<-hW0];unfold CV;rw[hys];rfl
  rw[hWE]at hWl⊢;have hel:((CV e).map AH).length=(CV e).length:=BP ..;have cJ:=V3 (CV e) [32] false (by rw[<-hel,hWl];omega) (by show(Be e).length<=_;omega) (by decide);refine AO.weak ⟨[(1,.optr 0 0 5 0 0),(2,AH []),(3,.sl false 1 ((CV e).map AH)),(4,i64 (e.masses.length:Nat))],[⟨0,0,25,5,[.agg [i64 e.num,i64 e.day,AH e.kind,.sl a 1 (AH y::ys.map AH),.sl b 1 (e.masses.map BQ)]]⟩],n1⟩ ⟨.drop (.keep .nil),⟨.refl _,.refl _,?_,.refl _,trivial⟩,Ad _⟩ ?_
  ·cases q
   ·exact IW (T:=9) rfl rfl rfl
   ·exact IW (T:=9) rfl rfl rfl
  rw[Ss]at cJ;have hpe:AC ((CV e).map AH):=An;refine AJ MH (BJ hml t1) cJ AA AA AA AA AA ?_;exact Ac rfl AB.out
theorem VM (e:BV)(v:Ev e)(a b:Bool):Aa C0 30 [As a b e] (AH (Bn e)):=by
 refine Ax.walk w1 eu rfl λF=>?_
 have cP:=W4 e v a b;have hlen:=v.len;have hpl:(Be e).length<=400:=by
  have:(Bn e).length=(Be e).length+(1+(Lib.itoa (Bs (Be e):Nat)).length):=by unfold Bn;simp;omega
  omega
 have hck:=Ib (Be e);have cS:=R0 (Be e) (by omega);have cI:=Lw (Bs (Be e)) (by omega);unfold As at cP⊢;have hpn:AC (e.names.map AH):=An;have hpm:AC (e.masses.map BQ):=An;have hs32:(⟨#[32]⟩:ByteArray).size=1:=rfl;have hsz1:(sb (Be e)).size<=400:=by rw[Bl];omega
 have he1:sb (Be e)++(⟨#[32]⟩:ByteArray)=sb (Be e++[32]):=GG _ [32];have hs2:(sb (Be e++[32])).size<=401:=by rw[Bl,B9];simp;omega
 have hs3:(sb (Lib.itoa (Bs (Be e):Nat))).size<=9:=by
  rw[Bl];exact(IS (n:=Bs (Be e)) (by omega)).2.2.1
 have he2:sb (Be e++[32])++sb (Lib.itoa (Bs (Be e):Nat))=sb (Bn e):=by
  rw[GG,Cr];rfl
 refine AJ XN (BJ he1 he2) cP cS cI AA AA AA ?_;exact Ac rfl AB.out
abbrev Oa:Dr:=[(6,[0,1,2,3,4,5,6,7],[8])]
abbrev Kx:Dr:=[(6,[0,1,2,3,4,5,6,7,8,9,10,11,12,13,14,15,16,17,18,19,20,21,22,23,24,25,26,27,28,29,30,31,32,33,34,35,36,37,38,39,40,41,42,43,44,45,46,47,48,49,50,51,52,53,54,55,56,57,58,59,60,61,62],[63,64,65]),(11,[0,1,2,3,4,5,6,7,8,9,10,11,12,13,14,15],[16])]
open Go.Proofs Go.RowKit
set_option maxRecDepth 20000
set_option maxHeartbeats 4000000
theorem VO (a b:Bool)(l:List Int)(hl:l.length<=100000):Aa C0 19 [.sl a 1 (l.map BQ),.sl b 1 (l.map BQ)] (Ai true):=by
 refine Ax.walk w1 TA rfl λF=>?_
 have hn:(l.map BQ).length=l.length:=BP ..;have hp:AC (l.map BQ):=An;have t0:(((l.length:Nat):Int) != ((l.length:Nat):Int))=false:=bne_self_eq_false _;refine AJ Oa (BJ hn t0) AA AA AA AA AA AA ?_;refine AO.loop (α:=Nat×Nat) (λp=>⟨[(0,.sl a 1 (l.map BQ)),(1,.sl b 1 (l.map BQ)),(4,Ai false),(5,i64 (p.1:Nat))],[],p.2⟩) (λp=>l.length-p.1) (λp=>p.1<=l.length) (0,_) (Bu _) Al ?_;rintro⟨i,n1⟩ F h1;dsimp only at h1⊢;rcases Aq i l.length with h2|h2
 ·obtain⟨x,hx⟩:∃x,l[i]?=some x:=⟨l[i],BI h2⟩
  have t1:decide (((i:Nat):Int)<((l.length:Nat):Int))=true:=Av;have hx':(l.map BQ)[i]?=some (i64 x):=by rw[Bf,hx];rfl
  have wc:=wS (n:=i) (by omega);have t2:(x != x)=false:=bne_self_eq_false _;have hi2:((i:Nat):Int)<(((l.map BQ).length:Nat):Int):=by rw[hn];omega
  refine AJ Oa (Cs hn t1 t2 wc) hx' AA AA AA AA AA ?_;exact⟨(i+1,_),by dsimp only;omega,by dsimp only;omega,Al⟩
 ·have hi:i=l.length:=by omega
  subst hi;have t1:decide (((l.length:Nat):Int)<((l.length:Nat):Int))=false:=Ap;refine AJ Oa (BJ hn t1) AA AA AA AA AA AA ?_;exact Ac rfl AB.out
theorem VN (a b:Bool)(L:List BV)(hl:L.length<=100000)(hL:∀e∈L,e.names.length<=100000/\e.masses.length<=100000):Aa C0 8 [.sl a 5 (L.map (As false false)),.sl b 5 (L.map (As false false))] (Ai true):=by
 refine Ax.walk w1 gS rfl λF=>?_
 have hn:(L.map (As false false)).length=L.length:=BP ..;have hp:AC (L.map (As false false)):=An;have t0:(((L.length:Nat):Int) != ((L.length:Nat):Int))=false:=bne_self_eq_false _;refine AJ Kx (BJ hn t0) AA AA AA AA AA AA ?_;refine AO.loop (α:=Nat×Nat) (λp=>⟨[(0,.sl a 5 (L.map (As false false))),(1,.sl b 5 (L.map (As false false))),(4,Ai false),(5,i64 (p.1:Nat))],[],p.2⟩) (λp=>L.length-p.1) (λp=>p.1<=L.length) (0,_) (Bu _) Al ?_;rintro⟨i,n1⟩ F h1;dsimp only at h1⊢;rcases Aq i L.length with h2|h2
 ·obtain⟨x,hx⟩:∃x,L[i]?=some x:=⟨L[i],BI h2⟩
  have t1:decide (((i:Nat):Int)<((L.length:Nat):Int))=true:=Av;obtain⟨h3,h4⟩:=hL x (Bh hx);obtain⟨num,day,kind,names,masses⟩:=x;dsimp only at h3 h4;have hx':(L.map (As false false))[i]?=some (.agg [i64 num,i64 day,AH kind,.sl false 1 (names.map AH),.sl false 1 (masses.map BQ)]):=by rw[Bf,hx];rfl
  have wc:=wS (n:=i) (by omega);have hi2:((i:Nat):Int)<(((L.map (As false false)).length:Nat):Int):=by rw[hn];omega
  have q1:(num != num)=false:=bne_self_eq_false _;have q2:(day != day)=false:=bne_self_eq_false _;have q3:BL (sb kind) (sb kind)=true:=by rw[Ce];exact BW rfl
  have hnn:(names.map AH).length=names.length:=BP ..;have hpn:AC (names.map AH):=An;have hpm:AC (masses.map BQ):=An;have q4:(((names.length:Nat):Int) != ((names.length:Nat):Int))=false:=bne_self_eq_false _;have cI:=VO false false masses h4;refine AJ Kx (CL hn t1 q1 q2 q3 kT (CK kF hnn q4)) hx' cI AA AA AA AA ?_;refine AO.loop (α:=Nat×Nat) (λp=>⟨[(0,.sl a 5 (L.map (As false false))),(1,.sl b 5 (L.map (As false false))),(4,Ai false),(5,i64 (i:Nat)),(6,i64 (p.1:Nat))],[],p.2⟩) (λp=>names.length-p.1) (λp=>p.1<=names.length) (0,_) (Bu _) Al ?_;clear q1 q2 q3 q4 t0 cI;rintro⟨j,n2⟩ F h5;dsimp only at h5⊢;rcases Aq j names.length with h6|h6
  ·obtain⟨y,hy⟩:∃y,names[j]?=some y:=⟨names[j],BI h6⟩
   have hy':=HY hy;have t2:decide (((j:Nat):Int)<((names.length:Nat):Int))=true:=Av;have q3:BL (sb y) (sb y)=true:=by rw[Ce];exact BW rfl
   have wj:=wS (n:=j) (by omega);have hj2:((j:Nat):Int)<(((names.map AH).length:Nat):Int):=by rw[hnn];omega
   refine AJ Kx (D7 hn hnn t2 q3 kT wj) hx' hy' AA AA AA AA ?_;exact⟨(j+1,_),by dsimp only;omega,by dsimp only;omega,Al⟩
  ·have hj:j=names.length:=by omega
   subst hj;have t2:decide (((names.length:Nat):Int)<((names.length:Nat):Int))=false:=Ap;refine AJ Kx (Cs hn hnn t2 wc) hx' AA AA AA AA AA ?_;exact⟨(i+1,_),by dsimp only;omega,by dsimp only;omega,Al⟩
 ·have hi:i=L.length:=by omega
  subst hi;have t1:decide (((L.length:Nat):Int)<((L.length:Nat):Int))=false:=Ap;refine AJ Kx (BJ hn t1) AA AA AA AA AA AA ?_;exact Ac rfl AB.out
end Go.Ide
