/- The layer of own lemmas and contracts, part 8. -/
import Derived.Test.YtbfcnlkcimghoaaGreatDoorAB7
import Derived.Lib.Bytealg
import Derived.Test.YtbfcnlkcimghoaaGreatDoorAB4
set_option linter.unusedVariables false
set_option linter.unusedSimpArgs false
namespace Go.Ide
open Go.Proofs Go.RowKit
set_option maxRecDepth 20000
set_option maxHeartbeats 2000000
def K8 (x:GF):GF:=⟨AY (-x.n.z),x.d⟩
theorem tl {a:Rat}{x:GF}(h:Hu a x):Hu (-a) (K8 x):=⟨Ch _,by rw[Rat.neg_num,<-h.2.1];rfl,by rw[Rat.neg_den,<-h.2.2];rfl⟩
theorem tk {a:Rat}{x:GF}{k:Nat}(h:FR a x k):FR (-a) (K8 x) k:=⟨tl h.is,d7g h.rk⟩
theorem ww {a:Rat}{x:GF}{k:Nat}(h:FR a x k)(hk:k<1000000):AI C0 101 [x.D] (K8 x).D:=by
 refine Ac.walk w1 Wg rfl λF=>?_
 have cn:=Oi x.n h.is.1 (h.fn hk);have hp1:AA x.n.w:=AJ;have hp3:AA (AY (x.d:Int)).w:=AJ;have hp5:AA (AY (-x.n.z)).w:=AJ;unfold K8;dsimp only[GI.D,GF.D]at*;refine fR 0 ?_;refine AC.seq ?_;refine B0 100 [0,1,2,3,4] [5,6] ?_;refine A9 ?_;refine BN.same _ (cn) AJ ?_;refine A9 ?_;refine AX ?_;exact AM rfl AA.out
def li (x y:GF):GF:=JJ x (K8 y)
theorem V6 {a b:Rat}{x y:GF}{i j:Nat}(hx:FR a x i)(hy:FR b y j):FR (a+b) (JJ x y) (i+j+1):=⟨tQ hx.is hy.is,XC hx.rk hy.rk⟩
theorem e1a {a b:Rat}{x y:GF}{i j:Nat}(hx:FR a x i)(hy:FR b y j)(hk:i+j<300000):AI C0 151 [x.D,y.D] (li x y).D:=by
 refine Ac.walk w1 Wp rfl λF=>?_
 have c1:=ww hy (by omega);have c2:=Sy hx (tk hy) hk;have p1:AA x.n.w:=AJ;have p2:AA y.n.w:=AJ;have p3:AA (AY (x.d:Int)).w:=AJ;have p4:AA (AY (y.d:Int)).w:=AJ;have p5:AA (K8 y).n.w:=AJ;have p6:AA (AY ((K8 y).d:Int)).w:=AJ;have p7:AA (JJ x (K8 y)).n.w:=AJ;have p8:AA (AY ((JJ x (K8 y)).d:Int)).w:=AJ;unfold li;dsimp only[GI.D,GF.D]at*;refine fR 0 ?_;refine AC.seq ?_;refine B0 100 [0,1,2] [3,4] ?_;refine A9 ?_;refine BN.same _ (c1) AJ ?_;refine A9 ?_;refine dI c2 ?_;refine AX ?_;exact AM rfl AA.out
def K7 (x y:GF):GF:=JE (AY (x.n.z*y.n.z)) (x.d*y.d)
theorem tf {a b:Rat}{x y:GF}(hx:Hu a x)(hy:Hu b y):Hu (a*b) (K7 x y):=by
 obtain⟨x1,x2,x3⟩:=hx;obtain⟨y1,y2,y3⟩:=hy;rw[Rat.mul_def,Rat.normalize_eq_mkRat,<-x2,<-x3,<-y2,<-y3]
 have:=SW (AY (x.n.z*y.n.z)) (x.d*y.d) (Ch _) (HQ (by rw[x3];exact a.den_pos) (by rw[y3];exact b.den_pos))
 rw[D8]at this;exact this
theorem dj {a b:Rat}{x y:GF}{i j:Nat}(hx:FR a x i)(hy:FR b y j):FR (a*b) (K7 x y) (i+j):=⟨tf hx.is hy.is,i8 hx.rk hy.rk⟩
theorem iB {a b:Rat}{x y:GF}{i j:Nat}(hx:FR a x i)(hy:FR b y j)(hk:i+j<300000):AI C0 85 [x.D,y.D] (K7 x y).D:=by
 refine Ac.walk w1 Xp rfl λF=>?_
 have l1:=hx.ln;have l2:=hy.ln;have l3:=hx.ld;have l4:=hy.ld;have dp:=HQ hx.dpos hy.dpos;have z1:=LS x.n.z y.n.z;have z4:=Mn x.d y.d;have m1:=kW x.n y.n hx.is.1 hy.is.1 (by omega) (by omega);have m3:=X9 x.d y.d (by omega) (by omega);have mk:=au (AY (x.n.z*y.n.z)) (x.d*y.d) (Ch _) dp (by show(Ad (x.n.z*y.n.z).natAbs).length<1000000;omega) (by omega);have p1:AA x.n.w:=AJ;have p2:AA y.n.w:=AJ;have p3:AA (AY (x.d:Int)).w:=AJ;have p4:AA (AY (y.d:Int)).w:=AJ;have p5:AA (AY (x.n.z*y.n.z)).w:=AJ;have p6:AA (AY ((x.d*y.d:Nat):Int)).w:=AJ;have p7:AA (JE (AY (x.n.z*y.n.z)) (x.d*y.d)).n.w:=AJ;have p8:AA (AY ((JE (AY (x.n.z*y.n.z)) (x.d*y.d)).d:Int)).w:=AJ;unfold K7;clear l1 l2 l3 l4 dp z1 z4 hx hy;dsimp only[GI.D,GF.D]at*;refine fR 0 ?_;refine AC.seq ?_;refine B0 100 [0,1,2,3,4,5,6,7,8] [9,10,11] ?_;refine A9 ?_;refine BN.same _ (m1) AJ ?_;refine A9 ?_;refine dI m3 ?_;refine dI mk ?_;refine AX ?_;exact AM rfl AA.out
def K3 (x:GF):GF:=L8 (AY (x.d:Int)) x.n
theorem tU {a:Rat}{x:GF}(hx:Hu a x)(h0:a≠0):Hu a⁻¹ (K3 x):=by
 obtain⟨x1,x2,x3⟩:=hx;have hn:x.n.z≠0:=by
  rw[x2];intro h;exact h0 (Rat.num_eq_zero.1 h)
 rw[Rat.inv_def,<-x2,<-x3];exact s5 (AY (x.d:Int)) x.n (Ch _) hn
theorem d7f {a:Rat}{k:Nat}(h:rk a k)(h0:a≠0):rk a⁻¹ k:=by
 rw[Rat.inv_def];obtain⟨h1,h2⟩:=h;have hn:a.num≠0:=λh=>h0 (Rat.num_eq_zero.1 h)
 rcases Int.lt_or_gt_of_ne hn with h|h
 ·obtain⟨m,hm⟩:∃m,a.num=Int.negSucc m:=by
   cases hy:a.num with
   |ofNat n=>rw[hy]at h;simp at h;omega
   |negSucc k=>exact⟨k,rfl⟩
  rw[hm]at h1⊢;exact Sf (n:=-(a.den:Int)) (d:=m+1) (by omega) (by rw[LG,Do];exact h2) h1
 ·obtain⟨m,hm⟩:∃m:Nat,a.num=(m:Int):=⟨a.num.natAbs,by omega⟩
  rw[hm]at h1 h⊢;rw[Rat.divInt_ofNat,<-Rat.normalize_eq_mkRat (by omega)];exact Sf _ (by rw[Do];exact h2) (by rw[Do]at h1;exact h1)
theorem eL {a:Rat}{x:GF}{k:Nat}(h:FR a x k)(h0:a≠0):FR a⁻¹ (K3 x) k:=⟨tU h.is h0,d7f h.rk h0⟩
theorem wh {a:Rat}{x:GF}{k:Nat}(h:FR a x k)(h0:a≠0)(hk:k<1000000):AI C0 116 [x.D] (K3 x).D:=by
 refine Ac.walk w1 Wl rfl λF=>?_
 have l3:=h.ld;have hn:x.n.z≠0:=by
  rw[h.is.2.1];intro h;exact h0 (Rat.num_eq_zero.1 h)
 have mk:=iN (AY (x.d:Int)) x.n (Ch _) h.is.1 hn (I7 (by omega)) (h.fn hk);have p1:AA x.n.w:=AJ;have p3:AA (AY (x.d:Int)).w:=AJ;have p7:AA (L8 (AY (x.d:Int)) x.n).n.w:=AJ;have p8:AA (AY ((L8 (AY (x.d:Int)) x.n).d:Int)).w:=AJ;unfold K3;dsimp only[GI.D,GF.D]at*;refine fR 0 ?_;refine fR 100 ?_;refine dI mk ?_;refine AX ?_;exact AM rfl AA.out
def Tu (x y:GF):GF:=K7 x (K3 y)
theorem tI {a b:Rat}{x y:GF}{i j:Nat}(hx:FR a x i)(hy:FR b y j)(h0:b≠0):FR (a/b) (Tu x y) (i+j):=by
 rw[Rat.div_def];exact dj hx (eL hy h0)
theorem we {a b:Rat}{x y:GF}{i j:Nat}(hx:FR a x i)(hy:FR b y j)(h0:b≠0)(hk:i+j<300000):AI C0 64 [x.D,y.D] (Tu x y).D:=by
 refine Ac.walk w1 Xo rfl λF=>?_
 have c1:=wh hy h0 (by omega);have c2:=iB hx (eL hy h0) hk;have p1:AA x.n.w:=AJ;have p2:AA y.n.w:=AJ;have p3:AA (AY (x.d:Int)).w:=AJ;have p4:AA (AY (y.d:Int)).w:=AJ;have p5:AA (K3 y).n.w:=AJ;have p6:AA (AY ((K3 y).d:Int)).w:=AJ;have p7:AA (K7 x (K3 y)).n.w:=AJ;have p8:AA (AY ((K7 x (K3 y)).d:Int)).w:=AJ;unfold Tu;dsimp only[GI.D,GF.D]at*;refine fR 0 ?_;refine AC.seq ?_;refine B0 100 [0,1,2] [3,4] ?_;refine A9 ?_;refine BN.same _ (c1) AJ ?_;refine A9 ?_;refine dI c2 ?_;refine AX ?_;exact AM rfl AA.out
def NV (a b:Rat):Int:=if a<b then -1 else if b<a then 1 else 0
theorem vP (a b:Rat):D6 (a.num*b.den) (b.num*a.den)=NV a b:=by
 unfold D6 NV;simp only[Rat.lt_iff]
theorem w9 {a b:Rat}{x y:GF}{i j:Nat}(hx:FR a x i)(hy:FR b y j)(hk:i+j<300000):AI C0 198 [x.D,y.D] (i64 (NV a b)):=by
 refine Ac.walk w1 Wv rfl λF=>?_
 have l1:=hx.ln;have l2:=hy.ln;have l3:=hx.ld;have l4:=hy.ld;have m1:=Qz x.n y.d hx.is.1 (by omega) (by omega);have m2:=Qz y.n x.d hy.is.1 (by omega) (by omega);have z1:=LS x.n.z y.d;have z2:=LS y.n.z x.d;rw[Do]at z1 z2;have cm:=d8z (AY (x.n.z*y.d)) (AY (y.n.z*x.d)) (Ch _) (Ch _) (by show(Ad (x.n.z*y.d).natAbs).length<1000000;omega) (by show(Ad (y.n.z*x.d).natAbs).length<1000000;omega);have e:D6 (AY (x.n.z*y.d)).z (AY (y.n.z*x.d)).z=NV a b:=by
  rw[D8,D8,<-vP,hx.is.2.1,hx.is.2.2,hy.is.2.1,hy.is.2.2]
 rw[e]at cm;have p1:AA x.n.w:=AJ;have p2:AA y.n.w:=AJ;have p3:AA (AY (x.d:Int)).w:=AJ;have p4:AA (AY (y.d:Int)).w:=AJ;have p5:AA (AY (x.n.z*y.d)).w:=AJ;have p6:AA (AY (y.n.z*x.d)).w:=AJ;clear l1 l2 l3 l4 z1 z2 e hx hy;dsimp only[GI.D,GF.D]at*;refine fR 0 ?_;refine AC.seq ?_;refine B0 100 [0,1,2,3,4,5,6,7,8] [9,10,11] ?_;refine A9 ?_;refine BN.same _ (m1) AJ ?_;refine A9 ?_;refine dI m2 ?_;refine dI cm ?_;refine AX ?_;exact AM rfl AA.out
def Ga (a:Rat):Int:=max (-1) (min 1 a.num)
theorem dw {a:Rat}{x:GF}(hx:Hu a x):AI C0 61 [x.D] (i64 (Ga a)):=by
 refine Ac.walk w1 Xn rfl λF=>?_
 have cg:=OX x.n hx.1;rw[hx.2.1]at cg;have p1:AA x.n.w:=AJ;have p3:AA (AY (x.d:Int)).w:=AJ;unfold Ga;dsimp only[GI.D,GF.D]at*;refine fR 0 ?_;refine fR 100 ?_;refine dI cg ?_;refine AX ?_;exact AM rfl AA.out
abbrev sb (l:List UInt8):ByteArray:=⟨l.toArray⟩
theorem Cd (l:List UInt8):(sb l).size=l.length:=by simp[ByteArray.size]
theorem Ex (l:List UInt8)(i j:Nat):(sb l).extract i j=sb ((l.take j).drop i):=by
 apply ByteArray.ext;rw[ByteArray.data_extract];simp[List.drop_take]
theorem fC (l:List UInt8):(sb l).toList=l:=by
 rw[ByteArray.toList_eq]
theorem E1 (l m:List UInt8):BU (sb l) (sb m)=decide (l=m):=by
 unfold BU;rw[fC,fC,E6,EW,decide_eq_true_iff]
def Dg (l:List UInt8):Bool:=match l with
 | []=>false
 |c::_=>c==45
def B5 (l:List UInt8):List UInt8:=if Dg l then l.drop 1 else l
def BK (l:List UInt8):Nat:=(l.takeWhile (· != 47)).length
theorem KZ (l:List UInt8):BK l<=l.length:=by
 unfold BK;exact(List.takeWhile_sublist _).length_le
theorem my (l:List UInt8):Lib.indexByte l 47=if BK l<l.length then(BK l:Int)else -1:=by
 induction l with
 |nil=>rfl
 |cons c l ih=>
  unfold Lib.indexByte
  by_cases h:c=47
  ·subst h
   simp[BK]
  ·have e1:BK (c::l)=BK l+1:=by
    unfold BK;rw[PJ,AH (by simpa using h),By]
   have hb:(c==47)=false:=by simpa using h
   rw[hb,ih,e1,By]
   by_cases h2:BK l<l.length
   ·have h3:BK l+1<l.length+1:=by omega
    have h4:(((BK l:Nat):Int) == -1)=false:=B8.2 (by omega);simp only[h2,h3,h4,if_true,Iu,if_false];omega
   ·have h3:¬BK l+1<l.length+1:=by omega
    simp only[h2,h3,Iu,if_false];rfl
theorem Zf (l:List UInt8)(hl:l.length<=1000000000):AI C0 215 [str (sb l),str (sb [45])] (Av (Dg l)):=by
 refine Ac.walk w1 gY rfl λF=>?_
 have hsz:=Cd l;have hs1:=Cd [45];refine sR 0 ?_;refine AC.seq ?_;cases l with
 |nil=>
  have e1:decide (((sb []).size:Int)>=((sb [45]).size:Int))=false:=rfl;refine An 100 ?_;refine AW e1 ?_;refine AF e1 ?_;refine AF e1 ?_;refine AX ?_;exact AM rfl AA.out
 |cons c l=>
  have e1:decide (((sb (c::l)).size:Int)>=((sb [45]).size:Int))=true:=Ax (by rw[hsz,hs1];simp only[By,Ir];omega);have e2:(sb (c::l)).extract 0 ((((sb [45]).size:Nat):Int)).toNat=sb [c]:=by rw[Ex];rfl
  have e3:BU (sb [c]) (sb [45])=Dg (c::l):=by
   rw[E1,Dg,E6,decide_eq_true_iff,EW];simp
  have h0:(0:Int)<=((sb [45]).size:Int):=by omega
  have h1:((sb [45]).size:Int)<=((sb (c::l)).size:Int):=by rw[hsz,hs1];simp only[By,Ir];omega
  refine An 100 ?_;refine AW e1 ?_;refine AF (BG e1 e2 e3) ?_;refine AF (BG e1 e2 e3) ?_;refine AX ?_;exact AM rfl AA.out
theorem mv (l:List UInt8)(hl:l.length<=1000000000):AI C0 179 [str (sb l),str (sb [45])] (Av (Dg l)):=by
 refine Ac.walk w1 gG rfl λF=>?_
 have c1:=Zf l hl;generalize sb l=s at*;generalize Dg l=b at*;refine fR 0 ?_;refine fR 100 ?_;refine dI c1 ?_;refine AX ?_;exact AM rfl AA.out
theorem nU (l:List UInt8)(hl:l.length<=1000000000):AI C0 216 [str (sb l),str (sb [45])] (str (sb (B5 l))):=by
 refine Ac.walk w1 gZ rfl λF=>?_
 have c1:=Zf l hl;have hsz:=Cd l;unfold B5;refine sR 0 ?_;refine AC.seq ?_;refine sR 100 ?_;refine cI c1 ?_;rcases hb:Dg l with _|_
 ·rw[AG (by simp)]
  refine AK ?_;refine Ag ?_;refine sR 300 ?_;refine AX ?_;exact AM rfl AA.out
 ·rw[AH rfl]
  have h1:(0:Int)<=((sb [45]).size:Int):=by omega
  have h2:((sb [45]).size:Int)<=((sb l).size:Int):=by
   rw[hsz];show(1:Int)<=_;cases l with
   |nil=>cases hb
   |cons c l=>simp only[By];omega
  have e2:(sb l).extract (((sb [45]).size:Nat):Int).toNat (sb l).size=sb (l.drop 1):=by
   rw[Ex,hsz,Ci (Am _)];rfl
  refine AK ?_;refine sZ 200 ?_;refine AW e2 ?_;refine AX ?_;exact AM rfl AA.out
theorem Ug (l:List UInt8)(hl:l.length<=1000000000):AI C0 180 [str (sb l),str (sb [45])] (str (sb (B5 l))):=by
 refine Ac.walk w1 gH rfl λF=>?_
 have c1:=nU l hl;generalize sb l=s at*;generalize sb (B5 l)=t at*;refine fR 0 ?_;refine fR 100 ?_;refine dI c1 ?_;refine AX ?_;exact AM rfl AA.out
theorem oR (l:List UInt8):AI C0 256 [str (sb l),.prim (.int .u8 47)] (i64 (if BK l<l.length then(BK l:Int)else -1)):=by
 refine Ac.walk w1 ip rfl λF=>?_
 have e1:firstIdx (sb l) (((47:Int)).toNat.toUInt8)=(if BK l<l.length then(BK l:Int)else -1):=by
  rw[Lib.firstIdx_eq];exact my l
 generalize(if BK l<l.length then(BK l:Int)else -1)=r at*;refine fR 0 ?_;refine AC.seq ?_;refine An 100 ?_;refine AW e1 ?_;refine AX ?_;exact AM rfl AA.out
theorem rP (l:List UInt8)(hl:l.length<=1000000000):AI C0 214 [str (sb l),str (sb [47])] (i64 (if BK l<l.length then(BK l:Int)else -1)):=by
 refine Ac.walk w1 gX rfl λF=>?_
 have c1:=oR l;have eS:=E1 [47] l;have hr:[47]=l->(if BK l<l.length then(BK l:Int)else -1)=0:=λh=>by subst h;rfl
 generalize(if BK l<l.length then(BK l:Int)else -1)=r at*;have e0:(((sb [47]).size:Int)==0)=false:=rfl;have e1:(((sb [47]).size:Int)==1)=true:=rfl;have hx:(((sb [47]).data.toList.getD ((0:Int)).toNat 0).toNat:Int)=47:=rfl;refine sR 0 ?_;refine sR 100 ?_;refine AC.seq ?_;refine AC.block ?_
 by_cases h:[47]=l
 ·rw[Ax h]at eS
  have hr:=hr h;subst hr;refine sZ 200 ?_;refine AW e0 ?_;refine AF (BG e0 kF eS) ?_;refine AF (BG e0 kF eS) ?_;refine AK ?_;refine sR 300 ?_;refine AX ?_;exact AM rfl AA.out
 ·rw[Az h]at eS
  refine sZ 200 ?_;refine AW e0 ?_;refine AF (BG e0 kF eS) ?_;refine AF (BG e0 kF eS) ?_;refine AK ?_;refine sZ 400 ?_;refine AW e1 ?_;refine AK ?_;refine sZ 500 ?_;refine AW hx ?_;refine cI c1 ?_;refine AX ?_;exact AM rfl AA.out
theorem e1P (l:List UInt8)(hl:l.length<=1000000000):AI C0 178 [str (sb l),str (sb [47])] (.tup [str (sb (l.take (BK l))),str (sb (l.drop (BK l+1))),Av (decide (BK l<l.length))]):=by
 refine Ac.walk w1 gF rfl λF=>?_
 have c1:=rP l hl;have hsz:=Cd l;have hle:=KZ l;refine sR 0 ?_
 by_cases h:BK l<l.length
 ·rw[AH h]at c1
  have e1:decide (((BK l:Nat):Int)>=0)=true:=BV;have e2:(sb l).extract 0 (((BK l:Nat):Int)).toNat=sb (l.take (BK l)):=by rw[Ex];rfl
  have w3:IntKind.i64.wrap (((BK l:Nat):Int)+((sb [47]).size:Int))=((BK l+1:Nat):Int):=by
   show IntKind.i64.wrap (((BK l:Nat):Int)+1)=_;rw[wI];omega
  have e3:(sb l).extract (((BK l+1:Nat):Int)).toNat (sb l).size=sb (l.drop (BK l+1)):=by
   rw[Ex,hsz,Ci (Am _)];rfl
  rw[Ax h];refine AC.seq ?_;refine sR 100 ?_;refine cI c1 ?_;refine sZ 200 ?_;refine AW e1 ?_;refine AK ?_;refine AC.seq ?_;refine B0 300 [0,1,2,3,4,5,6,7,8,9] [10,11] ?_;refine AF (BG w3 e2 e3) ?_;refine AX ?_;exact AM rfl AA.out
 ·rw[AG h]at c1
  have hk:BK l=l.length:=by omega
  have e1:decide (((-1:Int))>=0)=false:=rfl;rw[Az h,hk,Ci (Am _),IR (by omega)];refine AC.seq ?_;refine sR 100 ?_;refine cI c1 ?_;refine sZ 200 ?_;refine AW e1 ?_;refine AK ?_;refine Ag ?_;refine sR 400 ?_;refine AX ?_;exact AM rfl AA.out
theorem gi (l:List UInt8)(hl:l.length<=1000000000):AI C0 130 [str (sb l),str (sb [47])] (.tup [str (sb (l.take (BK l))),str (sb (l.drop (BK l+1))),Av (decide (BK l<l.length))]):=by
 refine Ac.walk w1 iF rfl λF=>?_
 have c1:=e1P l hl;generalize sb l=s at*;generalize sb (l.take (BK l))=t at*;generalize sb (l.drop (BK l+1))=u at*;generalize decide (BK l<l.length)=b at*;refine fR 0 ?_;refine fR 100 ?_;refine dI c1 ?_;refine AX ?_;exact AM rfl AA.out
theorem uz (a b:Nat)(ha:a<=9223372036854775807)(hb:b<=9223372036854775807):AI C0 142 [i64 a,i64 b] (i64 (Nat.gcd a b:Nat)):=by
 refine Ac.walk w1 wG rfl λF=>?_
 refine fR 0 ?_;refine AC.seq ?_;refine AC.block ?_;refine AC.loop (α:=Nat×Nat×Nat) (λp=>⟨[(0,i64 p.1),(1,i64 p.2.1)],[],p.2.2⟩) (λp=>p.2.1) (λp=>Nat.gcd p.1 p.2.1=Nat.gcd a b/\p.1<=9223372036854775807/\p.2.1<=9223372036854775807) (a,b,_) ⟨rfl,ha,hb⟩ AN ?_;rintro⟨x,y,n⟩ F ⟨h1,h2,h3⟩;dsimp only at h1 h2 h3⊢;refine AC.seq ?_;refine fR 100 ?_;refine AK ?_
 (refine Bn (λhy=>?_) (λhy=>?_))<;>(try simp only[BZ,Bl]at hy)<;>(try simp only[hy])
 ·have hy':(y:Int)>0:=by simpa using hy
  refine Ag ?_;refine AC.block ?_;refine B0 200 [0,1,2,3,4] [5] ?_;refine A9 ?_
  have:(x:Int).tmod y=((x%y:Nat):Int):=rfl
  rw[this];refine⟨(y,x%y,_),⟨?_,h3,?_⟩,?_,AN⟩
  ·rw[<-h1,MZ x y,Nat.gcd_rec y x,MZ]
  ·have:=CJ x (show y>0 by omega);dsimp only;omega
  ·exact CJ x (show y>0 by omega)
 ·have hy':y=0:=by simp at hy;omega
  subst hy';refine CM ?_;refine fR 300 ?_;refine AX ?_;refine AM ?_ AA.out;rw[<-h1,Nat.gcd_zero_right]
def Nj (least:Nat)(l:List UInt8):List UInt8:=List.replicate (least-l.length) 48++l
def Fj (least m:Nat)(s:List UInt8):List UInt8:=Nj least (if m=0 then s else Lib.decDigits m++s)
theorem ZD (least m:Nat)(s:List UInt8)(h:0<m\/s.length<least):Fj least (m/10) (UInt8.ofNat (48+m%10)::s)=Fj least m s:=by
 unfold Fj
 by_cases h0:m=0
 ·subst h0
  have hl:s.length<least:=h.resolve_left (by omega);rw[DJ,AH rfl];unfold Nj;obtain⟨k,hk⟩:∃k,least-s.length=k+1:=⟨least-s.length-1,by omega⟩
  rw[hk,show least-(UInt8.ofNat (48+0%10)::s).length=k from by simp;omega,List.replicate_succ'];simp
 ·rw[AG h0]
  by_cases h1:m<10
  ·rw[DJ]
   have:Lib.decDigits m=[UInt8.ofNat (48+m)]:=by unfold Lib.decDigits;rw[dif_pos h1]
   rw[this,show m%10=m from by omega];rfl
  ·rw[B3]
   have:Lib.decDigits m=Lib.decDigits (m/10)++[UInt8.ofNat (48+m%10)]:=by rw[Lib.decDigits];rw[dif_neg h1]
   rw[this,DO];rfl
theorem rn (k:Nat)(hk:k<10):(⟨#[48,49,50,51,52,53,54,55,56,57]⟩:ByteArray).extract k (k+1)=⟨([UInt8.ofNat (48+k)]:List UInt8).toArray⟩:=by
 match k,hk with
 | 0,_=>rfl
 | 1,_=>rfl
 | 2,_=>rfl
 | 3,_=>rfl
 | 4,_=>rfl
 | 5,_=>rfl
 | 6,_=>rfl
 | 7,_=>rfl
 | 8,_=>rfl
 | 9,_=>rfl
theorem Rj (a least:Nat)(ha:a+least<=9223372036854775807):AI C0 143 [i64 a,i64 least] (str ⟨(Fj least a []).toArray⟩):=by
 refine Ac.walk w1 wH rfl λF=>?_
 refine fR 0 ?_;refine fR 100 ?_;refine AC.seq ?_;refine AC.block ?_;refine AC.loop (α:=Nat×List UInt8×Nat) (λp=>⟨[(0,i64 p.1),(1,i64 least),(5,str ⟨p.2.1.toArray⟩)],[],p.2.2⟩) (λp=>p.1+(least-p.2.1.length))
  (λp=>Fj least p.1 p.2.1=Fj least a []/\p.1+p.2.1.length<=a+least) (a,[],_) ⟨rfl,by simp⟩ AN ?_
 rintro⟨m,s,n⟩ F ⟨h1,h2⟩;dsimp only at h1 h2⊢;have hsz:=M2 s;refine AC.seq ?_;refine Fp ⟨[(0,i64 m),(1,i64 least),(5,str ⟨s.toArray⟩),(13,Av (decide ((m:Int)>0)||decide ((s.length:Int)<least)))],[],n+30⟩ (An 200 ?_) ?_
 ·repeat'(first|(refine A7 (by exact Bu) ?_;refine BA ?_)|((refine Bn (λhb=>?_) (λhb=>?_))<;>(try simp only[BZ,Bl]at hb)<;>(try simp only[hb])<;>(refine BA ?_)))
  all_goals exact AN
 refine AK ?_
 (refine Bn (λhc=>?_) (λhc=>?_))<;>(try simp only[BZ,Bl]at hc)<;>(try simp only[hc])
 ·have hc:0<m\/s.length<least:=by
   simp at hc;omega
  refine Ag ?_;refine AC.block ?_;refine AC.seq ?_;have hm:(m:Int).tmod 10=((m%10:Nat):Int):=rfl;have e2:IntKind.i64.wrap (((m%10:Nat):Int)+1)=((m%10+1:Nat):Int):=wI;have hd:=rn (m%10) (by omega);have hs1:(⟨([UInt8.ofNat (48+m%10)]:List UInt8).toArray⟩:ByteArray).size=1:=rfl;have hlen:s.length+1<=9223372036854775807:=by omega
  have hs10:(⟨#[48,49,50,51,52,53,54,55,56,57]⟩:ByteArray).size=10:=rfl;refine An 300 ?_;refine HS (Bo hm e2 kN hd) ?_;refine fI 400 ?_;have hm4:(m:Int).tdiv 10=((m/10:Nat):Int):=rfl;have hm5:m/10<=9223372036854775807:=by omega
  rw[hm4,wN hm5,Ig,Gr,E7];refine⟨(m/10,UInt8.ofNat (48+m%10)::s,_),⟨(ZD least m s hc).trans h1,?_⟩,?_,AN⟩
  ·simp only[By];omega
  ·simp only[By];omega
 ·have hc:m=0/\least<=s.length:=by
   simp at hc;omega
  obtain⟨rfl,hl⟩:=hc;refine CM ?_;refine fR 500 ?_;refine AX ?_;refine AM ?_ AA.out;rw[<-h1];unfold Fj Nj;rw[AH rfl,Nat.sub_eq_zero_of_le hl];rfl
theorem cz (a:Nat):Fj 1 a []=Lib.decDigits a:=by
 unfold Fj Nj
 by_cases h:a=0
 ·subst h
  have:Lib.decDigits 0=[48]:=by unfold Lib.decDigits;rw[dif_pos (by decide)];rfl
  rw[AH rfl,this];rfl
 ·rw[AG h,Dh]
  have:(Lib.decDigits a).length≠0:=by
   unfold Lib.decDigits;split<;>simp
  rw[show 1-(Lib.decDigits a).length=0 from by omega];rfl
theorem QJ (b:Bool)(e:Int):AI C0 249 [Av b,i64 e] (i64 (if b then e else 0)):=by
 refine Ac.walk w1 io rfl λF=>?_
 refine fR 0 ?_;refine AC.seq ?_;refine fR 100 ?_;cases b
 ·refine AK ?_
  refine Ag ?_;refine fR 300 ?_;refine AX ?_;exact AM rfl AA.out
 ·refine AK ?_
  refine fR 200 ?_;refine AX ?_;exact AM rfl AA.out
def E2 (K g sz:Nat):List D->D
 | []=>CS
 |_::l=>.osl K g sz 0 (l.length+1)
def EN (K g T sz:Nat):List D->Hp
 | []=>[]
 |x::l=>[⟨K,g,T,sz,x::l⟩]
theorem Kc (K g sz:Nat):E2 K g sz []=CS:=rfl
theorem Gy (K g sz:Nat)(x:D)(l:List D):E2 K g sz (x::l)=.osl K g sz 0 (l.length+1):=rfl
theorem Mz (K g T sz:Nat):EN K g T sz []=[]:=rfl
theorem Gz (K g T sz:Nat)(x:D)(l:List D):EN K g T sz (x::l)=[⟨K,g,T,sz,x::l⟩]:=rfl
theorem R1 (K g sz:Nat)(x y:D)(l:List D):E2 K g sz (x::l++[y])=.osl K g sz 0 (l.length+1+1):=by simp[E2]
theorem W7 (K g T sz:Nat)(l:List D):Fz (EN K g T sz l) [] (E2 K g sz l) (.sl false sz l):=by
 cases l with
 |nil=>exact .nil sz
 |cons x l=>
  refine .osl (e:=⟨K,g,T,sz,x::l⟩) (by simp[EN,Hp.get]) rfl rfl rfl (by simp) (by simp) (λj d d' h1 h2=>?_) λj d d' q c c' h1 h2 h3 h4=>?_
  ·rw[BX]at h1;rw[h1]at h2;cases h2;rfl
  ·rw[BX]at h1;rw[h1]at h2;cases h2;rw[h3]at h4;cases h4;exact Fz.refl _
def spot (a b c d:Nat):D:=.agg [i64 (a/Nat.gcd a b:Nat),CS,i64 (b/Nat.gcd a b:Nat),CS,i64 (c/Nat.gcd c d:Nat),CS,i64 (d/Nat.gcd c d:Nat),CS]
instance  (a b c d:Nat):Ap (spot a b c d):=by unfold spot;exact AJ
instance  {α:Type}(f:α->List D)(l:List α)[h:∀x,Bk (f x)]:Bk (l.flatMap f):=⟨λe he=>by
 obtain⟨x,_,hx⟩:=List.mem_flatMap.1 he;exact(h x).out e hx⟩
theorem QC {H Hf:Hp}{a a' b b':D}(h1:Fz H Hf a a')(h2:Fz H Hf b b'):Fz H Hf (.tup [a,b]) (.tup [a',b']):=.tup rfl λi d d' hd hd'=>by
 match i with
 | 0=>simp at hd hd';subst hd;subst hd';exact h1
 | 1=>simp at hd hd';subst hd;subst hd';exact h2
 |n+2=>simp at hd
set_option allowUnsafeReducibility true in
attribute [local irreducible] BU
inductive Kd where
 |line|zig|grid|quin
def Kd.most:Kd->Int
 | .line | .zig=>64
 | .grid=>8
 | .quin=>5
def Ct (b:Nat):Bool:=((decide (97<=b)&&decide (b<=122))||(decide (65<=b)&&decide (b<=90)))||(decide (48<=b)&&decide (b<=57))||b==45||b==95||b==46
def Dk (l:List UInt8):Bool:=l.all (λb=>Ct b.toNat)&&(decide (1<=l.length)&&decide (l.length<=24))
theorem lO (s:ByteArray)(p:Nat)(hp:p<s.size):s.data.toList[p]?=some (s.get! p):=by
 have hp':p<s.data.size:=hp;rw[MT,CW hp']
 congr 1
 show _=s.data[p]!;rw[getElem!_pos s.data p hp']
theorem cr (s:ByteArray)(p:Nat)(h:(s.get! p).toNat<128):Utf8.decode s p=((s.get! p).toNat,1):=by
 unfold Utf8.decode;exact AH h
theorem rf (s:ByteArray)(p:Nat)(h:¬(s.get! p).toNat<128):128<=(Utf8.decode s p).1:=by
 unfold Utf8.decode;dsimp only;simp only[Dm];rw[AG h];have hv:128<=Utf8.runeError:=by decide
 repeat' split
 all_goals first|exact hv|(rename_i h1;simp only[ge_iff_le,BM,HL]at h1;dsimp only;omega)
theorem Ru (s:ByteArray):AI C0 41 [str s] (Av (Dk s.data.toList)):=by
 refine Ac.walk w1 jz rfl λB=>?_
 have hsz:s.data.toList.length=s.size:=JT;refine fR 0 ?_;refine AC.seq ?_;refine AC.seq ?_;refine e3p w1 100 [0] 1 rfl (by kernel_rfl) rfl ?_;refine A9 ?_;intro F hF;refine BA ?_;refine AC.block ?_;refine HJ (α:=Nat×Nat) (λp=>⟨[(0,str s),(7,.optr 101 2 0 0 0)],[],p.2⟩) (λp=>s.size-p.1) (λp F=>OP C0 B F 101 2 s p.1/\p.1<=s.size/\(s.data.toList.take p.1).all (λb=>Ct b.toNat)=true) (0,3) ⟨hF,Bg _,rfl⟩ AN ?_;rintro⟨p,n⟩ F ⟨hIt,hp,hall⟩;dsimp only at hIt hp hall⊢;refine AC.seq ?_;refine e3n w1 200 0 [1] rfl (by kernel_rfl) s p ?_;refine A7 hIt (A7 (λhlt F hIt=>?_) (λhge=>?_))
 ·refine A9 ?_
  generalize hc:(Utf8.decode s p).1=c;refine AC.seq ?_;refine AK ?_;refine Ag ?_;refine AC.block ?_;refine fR 300 ?_;refine Fp ⟨[(0,str s),(7,.optr 101 2 0 0 0),(4,.prim (.int .i32 c)),(5,Av ((decide ((c:Int)>=97)&&decide ((c:Int)<=122))||(decide ((c:Int)>=65)&&decide ((c:Int)<=90))))],[],n+30⟩ (An 400 ?_) ?_
  ·repeat'(first|(refine A7 (by exact Bu) ?_;refine BA ?_)|((refine Bn (λhb=>?_) (λhb=>?_))<;>(try simp only[BZ,Bl]at hb)<;>(try simp only[hb])<;>(refine BA ?_)))
   all_goals exact AN
  generalize hL:((decide ((c:Int)>=97)&&decide ((c:Int)<=122))||(decide ((c:Int)>=65)&&decide ((c:Int)<=90)))=L;refine Fp ⟨[(0,str s),(7,.optr 101 2 0 0 0),(47,Av ((((!L && !(decide ((c:Int)>=48)&&decide ((c:Int)<=57)))&&((c:Int) != 45))&&((c:Int) != 95))&&((c:Int) != 46)))],[],n+60⟩ (An 500 ?_) ?_
  ·repeat'(first|(refine A7 (by exact Bu) ?_;refine BA ?_)|((refine Bn (λhb=>?_) (λhb=>?_))<;>(try simp only[BZ,Bl]at hb)<;>(try simp only[hb])<;>(refine BA ?_)))
   all_goals exact AN
  have hbad:((((!L && !(decide ((c:Int)>=48)&&decide ((c:Int)<=57)))&&((c:Int) != 45))&&((c:Int) != 95))&&((c:Int) != 46)) = !(Ct c):=by
   subst hL;rw[E6];simp only[Ct,BM,BZ,LH,Bool.and_eq_false_iff,PF,bne_iff_ne,ne_eq,B8];omega
  rw[hbad];refine AK ?_
  (refine Bn (λhb=>?_) (λhb=>?_))<;>(try simp only[BZ,Bl]at hb)<;>(try simp only[hb])
  ·have hbf:Ct c=false:=by simpa using hb
   refine fR 600 ?_;refine AX ?_;refine AM ?_ AA.out;have hb8:Ct (s.get! p).toNat=false:=by
    by_cases hlow:(s.get! p).toNat<128
    ·rw[cr s p hlow]at hc
     rw[show(s.get! p).toNat=c from hc];exact hbf
    ·unfold Ct;simp;omega
   have:Dk s.data.toList=false:=by
    unfold Dk
    have:s.data.toList.all (λb=>Ct b.toNat)=false:=by
     rw[List.all_eq_false];exact⟨_,A8 (lO s p hlt),by rw[hb8];simp⟩
    rw[this];rfl
   rw[this]
  ·have hbt:Ct c=true:=by simpa using hb
   have hclt:c<128:=by
    unfold Ct at hbt;simp only[Ma,BM,HL,EW]at hbt;omega
   have hlow:(s.get! p).toNat<128:=by
    apply DA;intro h
    have:=rf s p h
    omega
   rw[cr s p hlow]at hc hIt;refine Ag ?_;refine⟨(p+1,n+60),⟨hIt,hlt,?_⟩,by dsimp only;omega,AN⟩;rw[FV,lO s p hlt,RJ,hall];simp;rw[show(s.get! p).toNat=c from hc];exact hbt
 ·have hpe:p=s.size:=by omega
  refine A9 ?_;refine AC.seq ?_;refine AK ?_;refine CM ?_;refine Fp ⟨[(2,Av (decide (1<=(s.size:Int))&&decide ((s.size:Int)<=24)))],[],n+60⟩ (An 700 ?_) ?_
  ·repeat'(first|(refine A7 (by exact Bu) ?_;refine BA ?_)|((refine Bn (λhb=>?_) (λhb=>?_))<;>(try simp only[BZ,Bl]at hb)<;>(try simp only[hb])<;>(refine BA ?_)))
   all_goals exact AN
  refine AX ?_;refine AM ?_ AA.out;have hall':s.data.toList.all (λb=>Ct b.toNat)=true:=by rw[<-hall,hpe,<-hsz,DH]
  unfold Dk;rw[hall',Hs,hsz];have e:(decide (1<=(s.size:Int))&&decide ((s.size:Int)<=24))=(decide (1<=s.size)&&decide (s.size<=24)):=by
   rw[E6];simp only[BM,HL];omega
  rw[<-e]
def Xe:Value->Value->Bool
 | .int .i64 a,.int .i64 b=>a==b
 | .string a,.string b=>a.data.toList==b.data.toList
 | .bool a,.bool b=>a==b
 | .slice none 0 0,.slice none 0 0=>true
 |_,_=>false
theorem qt {a b:Value}(h:Xe a b=true):a=b:=by
 unfold Xe at h;split at h
 ·rw[eq_of_beq h]
 ·rename_i a b
  have:=eq_of_beq h
  congr 1
  exact ByteArray.ext (Array.toList_inj.1 this)
 ·rw[eq_of_beq h]
 ·rfl
 ·cases h
def Mb (f:D->D->Bool):List D->List D->Bool
 | [],[]=>true
 |a::l,b::m=>f a b&&Mb f l m
 |_,_=>false
theorem TE {f:D->D->Bool}(hf:∀a b,f a b=true->a=b):∀ {l m:List D},Mb f l m=true->l=m
 | [],[],_=>rfl
 |a::l,b::m,h=>by
  simp only[Mb,BM]at h;rw[hf a b h.1,TE hf h.2]
 | [],_::_,h=>by simp[Mb]at h
 |_::_,[],h=>by simp[Mb]at h
def PM:Nat->D->D->Bool
 | 0,_,_=>false
 |n+1,a,b=>match a,b with
  | .prim a,.prim b=>Xe a b
  | .agg l,.agg m=>Mb (PM n) l m
  | .sl x y l,.sl x' y' m=>(x==x')&&Nat.beq y y'&&Mb (PM n) l m
  |_,_=>false
theorem Wy:∀(n:Nat) (a b:D),PM n a b=true->a=b
 | 0,_,_,h=>by simp[PM]at h
 |n+1,a,b,h=>by
  unfold PM at h;split at h
  ·rw[qt h]
  ·rw[TE (Wy n) h]
  ·simp only[BM]at h
   rw[eq_of_beq h.1.1,Bi h.1.2,TE (Wy n) h.2]
  ·cases h
def dig:Nat->Nat->List UInt8
 | 0,_=>[]
 |k+1,u=>match Nat.blt u 10 with
  |true=>[UInt8.ofNat (48+u)]
  |false=>dig k (u/10)++[UInt8.ofNat (48+u%10)]
def PQ (t:Nat)(name:String):Option Nat:=match Nat.beq t 111 with
 |true=>match decide (name = "Cmp")with
  |true=>some 198
  |false=>none
 |false=>none
theorem TN (t:Nat)(name:String)(f:Nat)(h:PQ t name=some f)(v:Value)(w:World):(method (C0.P.types.size+Made.depth) t v name).run C0.P w=.ok (f,v) w:=by
 unfold PQ at h;split at h<;>try(cases h;done)
 rename_i ht;split at h<;>try(cases h;done)
 rename_i hn;obtain rfl:=Bi ht;obtain rfl:=DQ hn;cases h
 kernel_rfl
def e2z:Ai:=⟨.arr 256 1 false,256,256,true,.agg (Array.replicate 256 (.bool false))⟩
noncomputable def N0 (t:Nat):Option Ai:=match Nat.beq t 377 with
 |true=>some e2z
 |false=>RW.get t
theorem Q6:CY C0.P N0:=λt i h=>by
 unfold N0 at h;split at h
 ·rename_i ht
  obtain rfl:=Bi ht;cases h
  kernel_rfl
 ·exact KR t i h
def Bv (c:UInt8):Bool:=Nat.ble 48 c.toNat&&Nat.ble c.toNat 57
def IL:D:=.agg ((List.range 256).map λi=>Av (Nat.ble 48 i&&Nat.ble i 57))
abbrev Uc:List UInt8:=[48,49,50,51,52,53,54,55,56,57]
noncomputable def X4:EV:=⟨N0,LN.get,Mc.get,λ_=>false,λ_ _=>none,λ_ _=>none,KE⟩
theorem X3:FC C0 X4:=⟨Q6,KF,IV,λ_ _ _ h=>by simp[X4]at h,by kernel_rfl,λ_ _ _ h=>by simp[X4]at h,OO⟩
theorem w4:Di C0 X4:=X3.w
theorem ni:AI C0 294 [str (sb Uc)] (.tup [IL,Av true]):=Q8 X3 1000 40 (by kernel_rfl)
def YI (o:Option D)(b:Bool):Bool:=match o with
 |some (.prim (.bool c))=>c==b
 |_=>false
theorem qI {o:Option D}{b:Bool}(h:YI o b=true):o=some (Av b):=by
 unfold YI at h;split at h
 ·rw[EW]at h;subst h;rfl
 ·cases h
theorem nB:((List.range 256).all λc=>YI ((Gu X4 1000 40).1 308 [.pptr IL,.prim (.int .u8 (c:Nat))]) (Nat.ble 48 c&&Nat.ble c 57))=true:=by kernel_rfl
theorem ZC (c:UInt8):AI C0 308 [.pptr IL,.prim (.int .u8 (c.toNat:Nat))] (Av (Bv c)):=by
 refine Q8 X3 1000 40 ?_;have h:=Cc.1 nB c.toNat (List.mem_range.2 c.toNat_lt);exact qI h
instance:Ap IL:=⟨λc hc=>by
 change c∈(List.range 256).map (λi=>Av (Nat.ble 48 i&&Nat.ble i 57))at hc;obtain⟨i,_,rfl⟩:=CL.1 hc;exact .prim _⟩
def HA (l:List UInt8):List UInt8:=(l.reverse.dropWhile Bv).reverse
theorem oE (m:List UInt8)(c:UInt8):HA (m++[c])=if Bv c then HA m else m++[c]:=by
 unfold HA;rw[List.reverse_append,List.reverse_singleton,List.singleton_append,PI];split
 ·rfl
 ·rw[List.reverse_cons,List.reverse_reverse]
theorem sN (l:List UInt8):((HA l).dropWhile Bv=[])↔l.all Bv=true:=by
 constructor
 ·intro h
  have h1:∀m:List UInt8,m.dropWhile Bv=[]->m.all Bv=true:=λm=>by
   induction m with
   |nil=>intro _;rfl
   |cons c m ih=>
    intro hm;rw[PI]at hm;split at hm
    ·rename_i hc
     rw[Ft,hc,ih hm];rfl
    ·cases hm
  have h2:(l.reverse.dropWhile Bv).all Bv=true:=by
   have:=h1 _ h
   unfold HA at this
   rwa [List.all_reverse]at this
  have h3:∀m:List UInt8,(m.dropWhile Bv).all Bv=true->m.all Bv=true:=λm=>by
   induction m with
   |nil=>intro _;rfl
   |cons c m ih=>
    intro hm;rw[PI]at hm;split at hm
    ·rename_i hc
     rw[Ft,hc,ih hm];rfl
    ·exact hm
  have:=h3 _ h2
  rwa [List.all_reverse]at this
 ·intro h
  have h1:∀m:List UInt8,m.all Bv=true->m.dropWhile Bv=[]:=λm=>by
   induction m with
   |nil=>intro _;rfl
   |cons c m ih=>
    intro hm;rw[Ft,BM]at hm;rw[PI,AH hm.1];exact ih hm.2
  have hx:=h1 l.reverse (by rw[List.all_reverse];exact h);unfold HA;rw[hx];rfl
theorem nT (l:List UInt8)(hl:l.length<=1000000000):AI C0 295 [str (sb l),.pptr IL] (str (sb (l.dropWhile Bv))):=by
 refine Ac.walk w1 iv rfl λF=>?_
 have hps:Ap IL:=AJ;have hcc:=ZC;generalize IL=sd at*;refine sR 0 ?_;refine AC.seq ?_;refine AC.block ?_;refine AC.loop (α:=List UInt8×Nat) (λp=>⟨[(0,str (sb p.1)),(1,.pptr sd)],[],p.2⟩) (λp=>p.1.length) (λp=>p.1.dropWhile Bv=l.dropWhile Bv/\p.1.length<=l.length) (l,_) ⟨rfl,Am _⟩ AN ?_;rintro⟨m,n⟩ F ⟨h1,h2⟩;dsimp only at h1 h2⊢;refine AC.seq ?_;refine AC.seq ?_;cases m with
 |nil=>
  have e1:decide (((sb []).size:Int)>0)=false:=rfl;refine LC w1 100 (by kernel_rfl) ?_;refine AW e1 ?_;refine AK ?_;refine CM ?_;refine sR 400 ?_;refine AX ?_;exact AM (by rw[<-h1];rfl) AA.out
 |cons c m=>
  have hsz:=Cd (c::m);have e1:decide (((sb (c::m)).size:Int)>0)=true:=Ax (by rw[hsz,By];omega);have hx:(((sb (c::m)).data.toList.getD ((0:Int)).toNat 0).toNat:Int)=(c.toNat:Int):=rfl;have b1:(0:Int)<((sb (c::m)).size:Int):=by rw[hsz,By];omega
  have b2:(1:Int)<=((sb (c::m)).size:Int):=by omega
  have e3:(sb (c::m)).extract ((1:Int)).toNat (sb (c::m)).size=sb m:=by
   rw[Ex,hsz,Ci (Am _)];rfl
  have cc:=hcc c;refine LC w1 100 (by kernel_rfl) ?_;refine AW e1 ?_;refine AK ?_;refine Ag ?_;refine AC.block ?_;refine AC.seq ?_;refine sZ 200 ?_;refine AW hx ?_;refine cI cc ?_;rcases hb:Bv c with _|_
  ·refine AK ?_
   refine CM ?_;refine sR 400 ?_;refine AX ?_;refine AM ?_ AA.out;rw[<-h1,PI,AG (by rw[hb];simp)]
  ·refine AK ?_
   refine Ag ?_;refine LC w1 300 (by kernel_rfl) ?_;refine AW e3 ?_;refine⟨(m,_),⟨?_,?_⟩,?_,AN⟩
   ·rw[<-h1,PI,AH hb]
   ·rw[By]at h2;dsimp only;omega
   ·show m.length<m.length+1;omega
theorem nO (l:List UInt8)(hl:l.length<=1000000000):AI C0 296 [str (sb l),.pptr IL] (str (sb (HA l))):=by
 refine Ac.walk w1 iz rfl λF=>?_
 have hps:Ap IL:=AJ;have hcc:=ZC;generalize IL=sd at*;refine sR 0 ?_;refine AC.seq ?_;refine AC.block ?_;refine AC.loop (α:=List UInt8×Nat) (λp=>⟨[(0,str (sb p.1)),(1,.pptr sd)],[],p.2⟩) (λp=>p.1.length) (λp=>HA p.1=HA l/\p.1.length<=l.length) (l,_) ⟨rfl,Am _⟩ AN ?_;rintro⟨m,n⟩ F ⟨h1,h2⟩;dsimp only at h1 h2⊢;refine AC.seq ?_;refine AC.seq ?_;rcases UM m with rfl|⟨m,c,rfl⟩
 ·have e1:decide (((sb []).size:Int)>0)=false:=rfl
  refine LC w1 100 (by kernel_rfl) ?_;refine AW e1 ?_;refine AK ?_;refine CM ?_;refine sR 400 ?_;refine AX ?_;exact AM (by rw[<-h1];rfl) AA.out
 ·rw[UL]at h1 h2⊢
  have hsz:=Cd (m++[c]);rw[Bz,Ho]at hsz h2;have e1:decide (((sb (m++[c])).size:Int)>0)=true:=Ax (by rw[hsz];omega);have wk1:IntKind.i64.wrap (((sb (m++[c])).size:Int)-1)=(m.length:Int):=by rw[hsz,wI];omega
  have hx:(((sb (m++[c])).data.toList.getD (((m.length:Nat):Int)).toNat 0).toNat:Int)=(c.toNat:Int):=by
   show(((m++[c]).getD m.length 0).toNat:Int)=_;simp
  have b1:((m.length:Nat):Int)<((sb (m++[c])).size:Int):=by rw[hsz];omega
  have e3:(sb (m++[c])).extract 0 (((m.length:Nat):Int)).toNat=sb m:=by
   rw[Ex];simp
  have cc:=hcc c;have ht:=oE m c;refine LC w1 100 (by kernel_rfl) ?_;refine AW e1 ?_;refine AK ?_;refine Ag ?_;refine AC.block ?_;refine AC.seq ?_;refine sZ 200 ?_;refine AW (Ae wk1 hx) ?_;refine cI cc ?_;rcases hb:Bv c with _|_
  ·rw[AG (by rw[hb];simp)]at ht
   refine AK ?_;refine CM ?_;refine sR 400 ?_;refine AX ?_;exact AM (by rw[<-h1,ht]) AA.out
  ·rw[AH hb]at ht
   refine AK ?_;refine Ag ?_;refine LC w1 300 (by kernel_rfl) ?_;refine AW (Ae wk1 e3) ?_;refine⟨(m,_),⟨by rw[<-h1,ht],by dsimp only;omega⟩,?_,AN⟩;dsimp only;rw[Bz,Ho];omega
namespace TrimW
theorem w1:Di C0 X4:=w4
theorem trim_ok (l:List UInt8)(hl:l.length<=1000000000):AI C0 272 [str (sb l),str (sb Uc)] (str (sb ((HA l).dropWhile Bv))):=by
 refine Ac.walk w1 iu rfl λF=>?_
 have cm:=ni;have c1:=nO l hl;have hlr:(HA l).length<=1000000000:=by
  unfold HA;rw[List.length_reverse];exact BP (List.dropWhile_sublist _).length_le (by rw[List.length_reverse];exact hl)
 have c2:=nT (HA l) hlr;have hps:Ap IL:=AJ;have eS:=E1 l [];have e2:(((sb Uc).size:Int)==1)=false:=rfl;have e4:BU (sb Uc) (sb [])=false:=by rw[E1];exact Az (by simp)
 have hfit:Eg true 256 IL:=by
  have h:((List.range 256).map λi=>Av (Nat.ble 48 i&&Nat.ble i 57)).length=256:=by rw[Al,List.length_range]
  have:=Eg.agg (ds:=(List.range 256).map λi=>Av (Nat.ble 48 i&&Nat.ble i 57))
  rw[h]at this;exact this
 refine sR 0 ?_
 by_cases h0:l=[]
 ·subst h0
  have eS':BU (sb []) (sb [])=true:=by rw[E1];exact Ax rfl
  refine AC.seq ?_;refine sZ 100 ?_;refine AW eS' ?_;refine AF (Ae eS' kT) ?_;refine AK ?_;refine sR 200 ?_;refine AX ?_;exact AM rfl AA.out
 ·rw[Az h0]at eS
  refine AC.seq ?_;refine sZ 100 ?_;refine AW eS ?_;refine AF (BG eS e4 kF) ?_;refine AF (BG eS e4 kF) ?_;refine AK ?_;refine Ag ?_;refine AC.seq ?_;refine sZ 300 ?_;refine AW e2 ?_;refine AF e2 ?_;refine AF e2 ?_;refine AK ?_;refine Ag ?_;refine AC.seq ?_;refine sR 500 ?_;refine BI.same _ cm AJ ?_;refine BA ?_;generalize IL=sd at*
  repeat(refine Ea rfl rfl ?_;refine I9 (λ_ _=>rfl) ?_)
  refine Pb (A7 (by repeat'(first|exact hfit|refine A7 ?_ ?_|exact Bu)) ?_);refine BA ?_;refine sR 600 ?_;refine AK ?_;refine sR 700 ?_;refine BI.own _ (Q7 c1 rfl ?_ AJ (D9.prim _)) ?_
  ·intro i x y hx hy
   match i with
   | 0=>simp at hx hy;subst hx;subst hy;exact Dw.refl _ _
   | 1=>simp at hx hy;subst hx;subst hy;exact Dw.ptr rfl rfl rfl rfl
   |i+2=>simp at hx
  rintro d H' n' ⟨rfl,rfl,rfl⟩;refine Bb ?_;refine BI.own _ (Q7 c2 rfl ?_ AJ (D9.prim _)) ?_
  ·intro i x y hx hy
   match i with
   | 0=>simp at hx hy;subst hx;subst hy;exact Dw.refl _ _
   | 1=>simp at hx hy;subst hx;subst hy;exact Dw.ptr rfl rfl rfl rfl
   |i+2=>simp at hx
  rintro d H' n' ⟨rfl,rfl,rfl⟩;refine Bb ?_;refine AX ?_;exact AM rfl AA.out
end TrimW
def Hn (a:Nat)(l:List UInt8):Nat:=l.foldl (λa c=>a*10+(c.toNat-48)) a
def dv (l:List UInt8):Nat:=Hn 0 l
theorem gl (l:List UInt8):∀a,Hn a l=a*10^l.length+dv l:=by
 induction l with
 |nil=>intro a;simp[Hn,dv]
 |cons c l ih=>
  intro a;have h1:∀b,Hn b (c::l)=Hn (b*10+(c.toNat-48)) l:=λb=>rfl
  have h2:dv (c::l)=Hn (0*10+(c.toNat-48)) l:=rfl;rw[h1,h2,ih,ih (0*10+(c.toNat-48)),By,CT];rw[B1,HP,BX,CE,Bd 10];omega
theorem Pe (l m:List UInt8):dv (l++m)=dv l*10^m.length+dv m:=by
 have:dv (l++m)=Hn (dv l) m:=by unfold dv Hn;rw[List.foldl_append]
 rw[this,gl]
theorem nL (l:List UInt8):∀a,l.all Bv=true->Lib.decFrom a l=some (Hn a l):=by
 induction l with
 |nil=>intro a _;rfl
 |cons c l ih=>
  intro a h;rw[Ft,BM]at h;have hd:Lib.digitVal c=some (c.toNat-48):=by
   have h1:=h.1;unfold Bv at h1;rw[BM]at h1;unfold Lib.digitVal;rw[AH ⟨Cf h1.1,Cf h1.2⟩]
  rw[Lib.decFrom,hd];exact ih _ h.2
theorem Mi {c:UInt8}(h:Bv c=true):48<=c.toNat/\c.toNat<=57:=by
 unfold Bv at h;rw[BM]at h;exact⟨Cf h.1,Cf h.2⟩
theorem rY {l:List UInt8}(h0:l≠[])(h:l.all Bv=true):Lib.atoi l=some (dv l:Int):=by
 cases l with
 |nil=>exact Ah rfl h0
 |cons c l=>
  have hc:Bv c=true:=by rw[Ft,BM]at h;exact h.1
  obtain⟨c1,c2⟩:=Mi hc;have e1:(c==45)=false:=by
   rw[B8];intro hh;subst hh;simp at c1
  have e2:(c==43)=false:=by
   rw[B8];intro hh;subst hh;simp at c1
  unfold Lib.atoi;dsimp only;rw[e1,e2];simp only[Iu,if_false];unfold Lib.decNat;simp only[List.isEmpty_cons,Iu,if_false];rw[nL _ _ h];rfl
theorem G8 (l:List UInt8)(h:l.all Bv=true):dv l<10^l.length:=by
 induction l with
 |nil=>decide
 |cons c l ih=>
  rw[Ft,BM]at h;have h1:dv (c::l)=Hn (0*10+(c.toNat-48)) l:=rfl;have h2:=ih h.2;obtain⟨c1,c2⟩:=Mi h.1;rw[h1,gl,HP,BX,By,CT,Bd _ 10];have h3:(c.toNat-48)*10^l.length<=9*10^l.length:=CQ _ (by omega);omega
def YJ (o:Option D)(z:Int):Bool:=match o with
 |some (.agg [.prim (.int .i64 a),.prim (.slice none 0 0)])=>a==z
 |_=>false
theorem qJ {o:Option D}{z:Int}(h:YJ o z=true):o=some (CG z):=by
 unfold YJ at h;split at h
 ·rw[EW]at h;subst h;rfl
 ·cases h
theorem um:((List.range 19).all λk=>YJ ((Gu X1 1000 60).1 182 [CG 10,i64 (k:Nat)]) ((10^k:Nat):Int))=true:=by kernel_rfl
theorem zu (k:Nat)(h:k<19):AI C0 182 [CG 10,i64 k] (CG ((10^k:Nat):Int)):=by
 refine Q8 Eh 1000 60 ?_;exact qJ (Cc.1 um k (List.mem_range.2 h))
theorem Xt {n:Nat}(h:n<9223372036854775808):CG (n:Int)=(AY (n:Int)).D:=by
 rw[Km ⟨by omega,by omega⟩];rfl
theorem e1F (a b:Nat)(ha:(Ad a).length<1000000)(hb:(Ad b).length<1000000):AI C0 135 [(AY (a:Int)).D,(AY (b:Int)).D] (AY ((a+b:Nat):Int)).D:=by
 have:=Qb (AY (a:Int)) (AY (b:Int)) (Ch _) (Ch _) (I7 ha) (I7 hb)
 have e:Ei (AY (a:Int)) (AY (b:Int))=AY ((a+b:Nat):Int):=by
  have h1:=OT (AY (a:Int)) (AY (b:Int));rw[D8,D8]at h1;rw[QX (OL _ _) (by rw[h1];omega),h1]
  congr 1
 rw[e]at this;exact this
theorem OB {n k:Nat}(h:n<10^k):(Ad n).length<=k:=Hx (Cb h (PK (by decide) k))
def rv (l:List UInt8):Int:=if Dg l then -(dv (B5 l):Int)else dv (B5 l)
theorem uo (k:Nat)(h:k<19):AI C0 182 [CG 10,i64 k] (AY ((10^k:Nat):Int)).D:=by
 have:=zu k h
 have h2:10^k<9223372036854775808:=DD (Fc (by decide) (show k<=18 by omega)) (by decide)
 rwa [Xt h2]at this
theorem d6y (n:Nat)(h:n<9223372036854775808):AI C0 114 [i64 n] (AY (n:Int)).D:=by
 have:=Qk (n:Int)
 rwa [Xt h]at this
theorem Se (l:List UInt8)(hd:(B5 l).all Bv=true)(hl:l.length<=100000):AI C0 131 [str (sb l)] (AY (rv l)).D:=by
 refine Ac.walk w1 fp rfl λF=>?_
 have c1:=mv l (by omega);have c2:=Ug l (by omega);have hml:(B5 l).length<=100000:=by
  unfold B5;split
  ·rw[D4];omega
  ·exact hl
 unfold rv;generalize hm0:B5 l=m0 at*;generalize Dg l=ng at*;generalize sb l=sl at*;have ez:CG 0=(AY ((0:Nat):Int)).D:=Xt (by decide);have hpm:∀n:Nat,AA (AY (n:Int)).w:=λn=>AJ
 refine sR 0 ?_;refine sR 100 ?_;refine cI c1 ?_;refine sR 200 ?_;refine cI c2 ?_;refine sR 300 ?_;refine C9 (α:=Nat) (λn=>⟨[(2,.optr 0 0 2 0 0),(3,Av ng),(4,.optr 301 8 2 0 0)],[⟨301,8,109,2,[(AY (dv m0:Int)).D]⟩,⟨0,0,109,2,[CG 0]⟩],n⟩) (λ_=>True) ?_ ?_
 ·refine AC.block ?_
  refine HJ (α:=List UInt8×Nat×Nat) (λp=>⟨[(0,str (sb p.1)),(2,.optr 0 0 2 0 0),(3,Av ng),(4,.optr 301 8 2 0 0)],[⟨301,8,109,2,[(AY (p.2.1:Int)).D]⟩,⟨0,0,109,2,[CG 0]⟩],p.2.2⟩) (λp=>p.1.length)
   (λp F'=>F'=F/\p.1.all Bv=true/\p.1.length<=m0.length/\p.2.1<10^(m0.length-p.1.length)/\dv m0=p.2.1*10^p.1.length+dv p.1) (m0,0,20) ⟨rfl,hd,Am _,by simp,by simp⟩ (by rw[<-ez];exact AN) ?_
  rintro⟨m,A,n⟩ F' ⟨rfl,h1,h2,h3,h4⟩;dsimp only at h1 h2 h3 h4⊢;refine AC.seq ?_;refine AC.seq ?_
  by_cases hm:m=[]
  ·subst hm
   have e1:decide (((sb []).size:Int)>0)=false:=rfl;have hA:dv m0=A:=by simpa[dv,Hn]using h4
   rw[hA];refine An 400 ?_;refine AW e1 ?_;refine AK ?_;refine CM ?_;exact⟨rfl,_,trivial,AN⟩
  ·have hm1:0<m.length:=List.length_pos_iff.2 hm
   have hsz:=Cd m;obtain⟨k,hk⟩:∃k,k=min 18 m.length:=⟨_,rfl⟩
   have e1:decide (((sb m).size:Int)>0)=true:=Ax (by rw[hsz];omega);have ek:min (18:Int) ((sb m).size:Int)=(k:Int):=by rw[hsz];omega
   have b1:(k:Int)<=((sb m).size:Int):=by rw[hsz];omega
   have e22:(sb m).extract 0 ((k:Int)).toNat=sb (m.take k):=by rw[Ex];rfl
   have e36:(sb m).extract ((k:Int)).toNat (sb m).size=sb (m.drop k):=by
    rw[Ex,hsz,Ci (Am _)];rfl
   have htk:(m.take k).all Bv=true:=Cc.2 λc hc=>Cc.1 h1 c (HK hc)
   have hdk:(m.drop k).all Bv=true:=Cc.2 λc hc=>Cc.1 h1 c (MV hc)
   have hlk:(m.take k).length=k:=by rw[Be];omega
   have hv:=G8 _ htk;rw[hlk]at hv;have h18:10^k<=10^18:=Fc (by decide) (by omega);have ca:=so (sb (m.take k)) (dv (m.take k):Int) (by rw[Cd,hlk];omega) (rY (by intro h;change m.take k=[]at h;rw[h]at hlk;simp at hlk;omega) htk);have hval:dv m=dv (m.take k)*10^(m.drop k).length+dv (m.drop k):=by
    conv=>lhs;rw[<-GL k m]
    exact Pe _ _
   generalize dv (m.take k)=v at*;have hAl:(Ad A).length<=100000:=BP (OB h3) (by omega);have h10:(Ad (10^k)).length<=19:=OB (k:=19) (Nat.pow_lt_pow_right (by decide) (by omega));have hmul:=Mn A (10^k);have cp:=uo k (by omega);have c3:=X9 A (10^k) (by omega) (by omega);have cv:=d6y v (by omega);have hvl:(Ad v).length<=19:=OB (k:=19) (Cb hv (Fc (by decide) (by omega)));have c4:=e1F (A*10^k) v (by omega) (by omega);refine An 400 ?_;refine AW e1 ?_;refine AK ?_;refine Ag ?_;refine AC.block ?_;refine sZ 500 ?_;refine AW ek ?_;refine sZ 600 ?_;refine AW e22 ?_;refine cI ca ?_;refine AC.seq ?_;refine B0 700 [0,1,2,3,4,5] [6,7,8] ?_;refine Bb ?_;refine BN.same _ (Qk 10) AJ ?_;refine Bb ?_;refine BN.same _ (cp) AJ ?_;refine Bb ?_;refine BN.same _ (c3) AJ ?_;refine Bb ?_;refine cI cv ?_;refine cI c4 ?_;refine An 800 ?_;refine AW e36 ?_;refine⟨(m.drop k,A*10^k+v,_),⟨trivial,hdk,?_,?_,?_⟩,?_,AN⟩
   ·dsimp only;rw[D4];omega
   ·dsimp only
    rw[D4,show m0.length-(m.length-k)=(m0.length-m.length)+k by omega,Gt];have h5:(A+1)*10^k<=10^(m0.length-m.length)*10^k:=CQ _ h3;rw[B1]at h5;omega
   ·dsimp only
    rw[h4,hval,D4];have h6:10^m.length=10^k*10^(m.length-k):=by rw[<-Gt];congr 1;omega
    rw[h6,B1,CE];omega
   ·dsimp only;rw[D4];omega
 rintro n -;have hAl:(Ad (dv m0)).length<=100000:=BP (OB (G8 _ hd)) hml;have cn:=Oi (AY (dv m0:Int)) (Ch _) (I7 (by omega));rw[D8]at cn;have hpn:AA (AY (-(dv m0:Int))).w:=AJ;refine AC.seq ?_;refine sR 900 ?_;cases ng with
 |true=>
  rw[AH rfl];refine AK ?_;refine sR 1000 ?_;refine cI cn ?_;refine AX ?_;exact AM rfl AA.out
 |false=>
  rw[AG (by simp)];refine AK ?_;refine Ag ?_;refine sR 1100 ?_;refine AX ?_;exact AM rfl AA.out
def NW (l:List UInt8):Bool:=!decide (l=[])&&l.all Bv
def De (l:List UInt8):Bool:=NW l&&(decide (l=[48]) || !decide (l.head? = some 48))
def CK (l:List UInt8):List UInt8:=l.take (BK l)
def Bh (l:List UInt8):List UInt8:=l.drop (BK l+1)
def Cu (l:List UInt8):Bool:=decide (BK l<l.length)
def CO (l:List UInt8):List UInt8:=B5 (CK l)
def Le (l:List UInt8):Bool:=!De (CO l)||decide (CK l=[45,48])||(Cu l&&(!De (Bh l)||decide (Bh l=[48])||decide (Bh l=[49])))
def chk (l:List UInt8):Nat:=if Le l then 1 else if 600<(CO l).length\/600<(Bh l).length then 4
 else if Cu l=true/\Nat.gcd (dv (CO l)) (dv (Bh l))≠1 then 1 else 0
theorem LY {l:List UInt8}(h:De l=true):l≠[]/\l.all Bv=true:=by
 unfold De NW at h;rw[BM,BM]at h;exact⟨by have:=h.1.1;simpa using this,h.1.2⟩
theorem Uy {l:List UInt8}(h:l.all Bv=true):Dg l=false:=by
 cases l with
 |nil=>rfl
 |cons c l=>
  rw[Ft,BM]at h;obtain⟨c1,c2⟩:=Mi h.1;show(c==45)=false;rw[B8];intro hh;subst hh;simp at c1
theorem LT {l:List UInt8}(h:l.all Bv=true):B5 l=l:=by unfold B5;rw[Uy h];rfl
theorem OW {l:List UInt8}(h:l.all Bv=true):rv l=(dv l:Int):=by
 unfold rv;rw[Uy h,LT h];rfl
theorem oc (l:List UInt8)(hl:l.length<=1000000000):AI C0 235 [str (sb l)] (Av (NW l)):=by
 refine Ac.walk w1 ig rfl λF=>?_
 have ct:=TrimW.trim_ok l hl;have eS:=E1 l [];have eT:=E1 ((HA l).dropWhile Bv) [];have hall:decide ((HA l).dropWhile Bv=[])=l.all Bv:=by
  rw[E6,decide_eq_true_iff];exact sN l
 rw[hall]at eT;unfold NW;rw[<-eS];generalize hb:BU (sb l) (sb [])=b at*;refine sR 0 ?_;refine AC.seq ?_;cases b with
 |true=>
  have e1:(!BU (sb l) (sb []))=false:=by rw[hb];rfl
  refine An 100 ?_;refine AW e1 ?_;refine AF e1 ?_;refine AX ?_;exact AM rfl AA.out
 |false=>
  have e1:(!BU (sb l) (sb []))=true:=by rw[hb];rfl
  refine An 100 ?_;refine AW e1 ?_;refine AF e1 ?_;refine Ya e1 ?_;refine BI.same _ ct AJ ?_;refine AF (Ae e1 eT) ?_;refine AX ?_;exact AM rfl AA.out
theorem br (l:List UInt8)(hl:l.length<=1000000000):AI C0 196 [str (sb l)] (Av (De l)):=by
 refine Ac.walk w1 gR rfl λF=>?_
 have cd:=oc l hl;have e0:=E1 l [48];unfold De;refine sR 0 ?_;refine sR 100 ?_;refine cI cd ?_;rcases hd:NW l with _|_
 ·refine AF (Ae kT Iu) ?_
  refine AF (Ae kT Iu) ?_;refine AX ?_;exact AM rfl AA.out
 ·obtain⟨c,m,rfl⟩:∃c m,l=c::m:=by
   cases l with
   |nil=>cases hd
   |cons c m=>exact⟨c,m,rfl⟩
  have hsz:=Cd (c::m);rw[By]at hsz;have hx:(((sb (c::m)).data.toList.getD ((0:Int)).toNat 0).toNat:Int)=(c.toNat:Int):=rfl;have b0:(0:Int)<((sb (c::m)).size:Int):=by rw[hsz];omega
  by_cases h0:(c::m)=[48]
  ·rw[Ax h0]at e0⊢
   refine AF e0 ?_;refine AF (Ae e0 kT) ?_;refine AF (Ae e0 kT) ?_;refine AX ?_;exact AM rfl AA.out
  ·rw[Az h0]at e0⊢
   have e1:((c.toNat:Int) != 48) = !decide (c=48):=by
    rw[E6];simp only[bne_iff_ne,ne_eq,BZ,PF];constructor
    ·intro h hc;subst hc;exact h rfl
    ·intro h hc
     apply h
     have:c.toNat=48:=by omega
     exact UInt8.toNat_inj.1 this
   refine AF e0 ?_;refine AF (Bo e0 kF hx e1) ?_;refine AF (Bo e0 kF hx e1) ?_;refine AX ?_;exact AM (by simp) AA.out
theorem uP (n:Nat):AI C0 197 [(AY (n:Int)).D] (.tup [i64 (AY (n:Int)).s,Av (decide (Sm (n:Int)))]):=by
 refine Ac.walk w1 gS rfl λF=>?_
 by_cases hs:Sm (n:Int)
 ·obtain⟨a1,a2⟩:=Tz hs
  dsimp only[GI.D];rw[a1,a2,Ax hs];refine sR 0 ?_;refine AC.seq ?_;refine B0 100 [0,1,2,3,4,5] [6] ?_;refine Bb ?_;refine AX ?_;exact AM rfl AA.out
 ·obtain⟨a1,a2,a3⟩:=X7 hs
  dsimp only[GI.D];rw[a1,a2,Az hs];generalize(Ad n).map AS=l at*;refine sR 0 ?_;refine AC.seq ?_;refine B0 100 [0,1,2,3,4,5] [6] ?_;refine AW (BG (@ne_eq (List D)) a3 E5) ?_;refine AX ?_;exact AM rfl AA.out
def Ij (l:List UInt8):GF:=⟨AY (rv (CK l)),if Cu l then dv (Bh l)else 1⟩
theorem uG (l:List UInt8)(hl:l.length<=100000)(h1:(CO l).all Bv=true)(h2:Cu l=true->(Bh l).all Bv=true):AI C0 84 [str (sb l)] (Ij l).D:=by
 refine Ac.walk w1 jq rfl λF=>?_
 have cc:=gi l (by omega);have r1:=Se (CK l) h1 (by unfold CK;rw[Be];omega);have hpw:AA (AY (rv (CK l))).w:=AJ;unfold Ij;change AI C0 _ _ (.tup [str (sb (CK l)),str (sb (Bh l)),Av (Cu l)])at cc;rcases hs:Cu l with _|_
 ·rw[hs]at cc
  have wg:=fX (AY (rv (CK l)));have hp1:AA (AY ((1:Nat):Int)).w:=AJ;rw[AG (by simp)];dsimp only[GI.D,GF.D]at*;refine sR 0 ?_;refine sR 100 ?_;refine cI cc ?_;refine AC.seq ?_;refine sR 200 ?_;refine AK ?_;refine sR 300 ?_;refine cI r1 ?_;refine cI wg ?_;refine AX ?_;exact AM rfl AA.out
 ·rw[hs]at cc
  have hd:=h2 hs;have r2:=Se (Bh l) (by rw[LT hd];exact hd) (by unfold Bh;rw[D4];omega);rw[OW hd]at r2;have hp1:AA (AY (dv (Bh l):Int)).w:=AJ;rw[AH rfl];dsimp only[GI.D,GF.D]at*;refine sR 0 ?_;refine sR 100 ?_;refine cI cc ?_;refine AC.seq ?_;refine sR 200 ?_;refine AK ?_;refine Ag ?_;refine sR 400 ?_;refine cI r1 ?_;refine cI r2 ?_;refine AX ?_;exact AM rfl AA.out
set_option maxHeartbeats 4000000
theorem d6s (g:Nat):((g:Int) != 1)=decide (g≠1):=by
 rw[E6,bne_iff_ne,decide_eq_true_iff];omega
theorem bA (l:List UInt8)(hl:l.length<=100000):AI C0 139 [str (sb l)] (i64 (chk l)):=by
 refine Ac.walk w1 fv rfl λF=>?_
 have cc:=gi l (by omega);change AI C0 _ _ (.tup [str (sb (CK l)),str (sb (Bh l)),Av (Cu l)])at cc;have hnl:(CK l).length<=100000:=by unfold CK;rw[Be];omega
 have hdl:(Bh l).length<=100000:=by unfold Bh;rw[D4];omega
 have hsl:(CO l).length<=100000:=by
  unfold CO B5;split
  ·rw[D4];omega
  ·exact hnl
 have ct:=Ug (CK l) (by omega);change AI C0 _ _ (str (sb (CO l)))at ct;have p1:=br (CO l) (by omega);have p2:=br (Bh l) (by omega);have en:=E1 (CK l) [45,48];have e0:=E1 (Bh l) [48];have e1:=E1 (Bh l) [49];have z1:=Cd (CO l);have z2:=Cd (Bh l);have hbf:∃b,b=Le l:=⟨_,rfl⟩
 obtain⟨bf,hbf⟩:=hbf;unfold chk;rw[<-hbf];unfold Le at hbf;refine sR 0 ?_;refine sR 100 ?_;refine cI cc ?_;refine sR 200 ?_;refine cI ct ?_;refine AC.seq ?_;refine C9 (α:=Nat) (λn=>⟨[(4,str (sb (Bh l))),(5,Av (Cu l)),(6,str (sb (CO l))),(39,Av bf)],[],n⟩) (λ_=>True) ?_ ?_
 ·refine rI 300 ?_
  refine cI p1 ?_;rcases hp:De (CO l)with _|_
  ·rw[hp]at hbf
   have hb:bf=true:=by rw[hbf];rfl
   subst hb;simp only[UH];refine AF kT ?_;refine AF kT ?_;exact⟨trivial,_,trivial,AN⟩
  ·rw[hp]at hbf
   simp only[RM]
   by_cases hn:CK l=[45,48]
   ·rw[Ax hn]at en hbf
    have hb:bf=true:=by rw[hbf];rfl
    subst hb;refine AF (Ae kF en) ?_;refine AF (BG kF kT en) ?_;exact⟨trivial,_,trivial,AN⟩
   ·rw[Az hn]at en hbf
    rcases hs:Cu l with _|_
    ·rw[hs]at hbf
     have hb:bf=false:=by rw[hbf];rfl
     subst hb;refine AF (Ae kF en) ?_;refine AF (Bo kF kT en hs) ?_;refine AF (Bo kF kT en hs) ?_;exact⟨trivial,_,trivial,AN⟩
    ·rw[hs]at hbf
     refine AF (Ae kF en) ?_;refine AF (BG kF en hs) ?_;refine Ya hs ?_;refine BI.same _ p2 AJ ?_;refine BA ?_;rcases hq:De (Bh l)with _|_
     ·rw[hq]at hbf
      have hb:bf=true:=by rw[hbf];rfl
      subst hb;refine AF (BG kF kT hq) ?_;refine AF (BG kF kT hq) ?_;refine AF (BG kF kT hq) ?_;exact⟨trivial,_,trivial,AN⟩
     ·rw[hq]at hbf
      refine AF hq ?_;simp only[RM];refine AF kF ?_
      by_cases h0:Bh l=[48]
      ·rw[Ax h0]at e0 hbf
       have hb:bf=true:=by rw[hbf];rfl
       subst hb;simp only[e0,imp_self];refine AF kT ?_;refine I4 rfl rfl rfl (by simp only[UH]) (by simp) (I9 (λ_ _=>rfl) ?_);refine AF kF ?_;exact⟨trivial,_,trivial,AN⟩
      ·rw[Az h0]at e0 hbf
       simp only[e0];refine AF kF ?_
       by_cases h1:Bh l=[49]
       ·rw[Ax h1]at e1 hbf
        have hb:bf=true:=by rw[hbf];rfl
        subst hb;simp only[e1];exact⟨trivial,_,trivial,AN⟩
       ·rw[Az h1]at e1 hbf
        have hb:bf=false:=by rw[hbf];rfl
        subst hb;simp only[e1];exact⟨trivial,_,trivial,AN⟩
 rintro n -;cases bf with
 |true=>
  rw[AH rfl];refine AK ?_;refine sR 400 ?_;refine AX ?_;exact AM rfl AA.out
 |false=>
  rw[AG (by simp)];have hbf:=hbf.symm;simp only[LH,Bl,Bool.and_eq_false_iff]at hbf;obtain⟨⟨hp,hn⟩,hd⟩:=hbf;refine AK ?_;refine Ag ?_;have hsd:=(LY hp).2;refine AC.seq ?_;refine C9 (α:=Nat) (λn=>⟨[(4,str (sb (Bh l))),(5,Av (Cu l)),(6,str (sb (CO l))),(47,Av (decide (600<(CO l).length\/600<(Bh l).length)))],[],n⟩) (λ_=>True) ?_ ?_
  ·by_cases hA:600<(CO l).length
   ·have ea:decide (((sb (CO l)).size:Int)>600)=true:=Ax (by rw[z1];omega)
    have eb:decide (600<(CO l).length\/600<(Bh l).length)=true:=Ax (Or.inl hA);rw[eb];refine An 500 ?_;refine AW ea ?_;refine AF kT ?_;exact⟨trivial,_,trivial,AN⟩
   ·have ea:decide (((sb (CO l)).size:Int)>600)=false:=Az (by rw[z1];omega)
    have eb:decide (((sb (Bh l)).size:Int)>600)=decide (600<(CO l).length\/600<(Bh l).length):=by
     rw[ED,z2];omega
    refine An 500 ?_;refine AW ea ?_;refine AF kF ?_;simp only[eb];exact⟨trivial,_,trivial,AN⟩
  rintro n -
  by_cases hL:600<(CO l).length\/600<(Bh l).length
  ·rw[Ax hL,AH hL]
   refine AK ?_;refine sR 600 ?_;refine AX ?_;exact AM rfl AA.out
  ·rw[Az hL,AG hL]
   refine AK ?_;refine Ag ?_;refine AC.seq ?_;refine sR 700 ?_;rcases hs:Cu l with _|_
   ·rw[AG (by simp)]
    refine AK ?_;refine Ag ?_;refine sR 1100 ?_;refine AX ?_;exact AM rfl AA.out
   ·rw[hs]at hd
    have hd':=hd.resolve_left (by simp);have hdd:=(LY hd'.1.1).2;have r1:=Se (CO l) (by rw[LT hsd];exact hsd) hsl;have r2:=Se (Bh l) (by rw[LT hdd];exact hdd) hdl;rw[OW hsd]at r1;rw[OW hdd]at r2;have l1:(Ad (dv (CO l))).length<=100000:=BP (OB (G8 _ hsd)) hsl;have l2:(Ad (dv (Bh l))).length<=100000:=BP (OB (G8 _ hdd)) hdl;have cg:=jw (AY (dv (CO l):Int)) (AY (dv (Bh l):Int)) (Ch _) (Ch _) (I7 (by omega)) (I7 (by omega));rw[D8,D8,Do,Do]at cg;have cs:=uP (Nat.gcd (dv (CO l)) (dv (Bh l)));obtain⟨g,hg0⟩:∃g,g=Nat.gcd (dv (CO l)) (dv (Bh l)):=⟨_,rfl⟩
    rw[<-hg0]at cg cs;simp only[<-hg0];have hpa:AA (AY (dv (CO l):Int)).w:=AJ;have hpb:AA (AY (dv (Bh l):Int)).w:=AJ;have hpg:AA (AY (g:Int)).w:=AJ;dsimp only[GI.D]at r1 r2 cg cs;refine AK ?_;refine sR 800 ?_;refine cI r1 ?_;refine cI r2 ?_;refine cI cg ?_;refine cI cs ?_;refine C9 (α:=Nat) (λn=>⟨[(63,Av (decide (g≠1)))],[],n⟩) (λ_=>True) ?_ ?_
    ·by_cases hg:Sm (g:Int)
     ·obtain⟨a1,a2⟩:=Tz hg
      have eg:=d6s g;rw[a1,Ax hg];refine rI 900 ?_;simp only[RM];refine AF kF ?_;simp only[eg];exact⟨trivial,_,trivial,AN⟩
     ·have eg:decide (g≠1)=true:=Ax λh=>hg (by rw[h];exact⟨by decide,by decide⟩)
      rw[eg,Az hg];refine rI 900 ?_;simp only[UH];refine AF kT ?_;exact⟨trivial,_,trivial,AN⟩
    rintro n -
    by_cases hg:g=1
    ·rw[Az (λh=>h hg),AG (λh=>h.2 hg)]
     refine AK ?_;refine Ag ?_;refine sR 1100 ?_;refine AX ?_;exact AM rfl AA.out
    ·rw[Ax hg,AH ⟨trivial,hg⟩]
     refine AK ?_;refine sR 1000 ?_;refine AX ?_;exact AM rfl AA.out
abbrev RB:Nat:=1000000000
def Aa (n:Nat):List Nat:=if _h:n=0 then[]else(n%RB)::Aa (n/RB)
termination_by n
decreasing_by exact It (ER _h) (by decide)
def AQ:List Nat->Nat
 | []=>0
 |a::l=>a+RB*AQ l
def Rd (l:List Nat):Prop:=∀a∈l,a<RB
theorem HU:Aa 0=[]:=by unfold Aa;rfl
theorem Jk {n:Nat}(h:n≠0):Aa n=(n%RB)::Aa (n/RB):=by rw[Aa,dif_neg h]
theorem FM (n:Nat):Rd (Aa n):=by
 induction n using Nat.strongRecOn with
 |ind n ih=>
  by_cases h:n=0
  ·subst h;rw[HU];intro a ha;cases ha
  ·rw[Jk h]
   intro a ha;rcases Aw.1 ha with rfl|ha
   ·exact CJ _ (by decide)
   ·exact ih _ (It (ER h) (by decide)) a ha
theorem EZ (n:Nat):AQ (Aa n)=n:=by
 induction n using Nat.strongRecOn with
 |ind n ih=>
  by_cases h:n=0
  ·subst h;rw[HU];rfl
  ·rw[Jk h,AQ,ih _ (It (ER h) (by decide))]
   exact FX n RB
theorem KW (l m:List Nat):AQ (l++m)=AQ l+RB^l.length*AQ m:=by
 induction l with
 |nil=>simp[AQ]
 |cons a l ih=>
  simp only[Gr,AQ,ih,By,CT,BQ];rw[Bd (RB^l.length) RB,CE,FG]
theorem Rd.tail {a:Nat}{l:List Nat}(h:Rd (a::l)):Rd l:=λb hb=>h b (B6 _ hb)
theorem Rd.head {a:Nat}{l:List Nat}(h:Rd (a::l)):a<RB:=h a CF
theorem Rd.append {l m:List Nat}(h:Rd l)(k:Rd m):Rd (l++m):=λa ha=>(Bs.1 ha).elim (h a) (k a)
theorem Rd.take {l:List Nat}(h:Rd l)(n:Nat):Rd (l.take n):=λa ha=>h a (HK ha)
theorem G3:∀ {l:List Nat},Rd l->AQ l<RB^l.length
 | [],_=>by simp[AQ]
 |a::l,h=>by
  have h1:=G3 h.tail;have h2:=h.head;rw[AQ,By,CT]
  calc a+RB*AQ l<RB+RB*AQ l:=by omega
   _=RB*(AQ l+1):=by rw[BQ,EQ,MY]
   _<=RB*RB^l.length:=Cj _ h1
   _=_:=Bd _ _
theorem Y8:∀ {l:List Nat},Rd l->(∀a∈l.getLast?,a≠0)->Aa (AQ l)=l
 | [],_,_=>HU
 | [a],h,hl=>by
  have ha:a≠0:=hl a (by simp);have hb:=h.head;rw[show AQ [a]=a from by simp[AQ],Jk ha,GG hb,Iw hb,HU]
 |a::b::l,h,hl=>by
  have ih:=Y8 h.tail (λx hx=>hl x (by simpa using hx));have hb:=h.head;have hv:AQ (b::l)≠0:=by
   intro h0;rw[h0,HU]at ih;cases ih
  have e1:AQ (a::b::l)%RB=a:=by rw[AQ,UJ,GG hb]
  have e2:AQ (a::b::l)/RB=AQ (b::l):=by
   rw[AQ,UE _ _ (by decide),Iw hb,BX]
  have hne:AQ (a::b::l)≠0:=by
   intro h0;rw[h0]at e2;exact hv (by rw[<-e2];rfl)
  rw[Jk hne,e1,e2,ih]
theorem Y0:∀(k:Nat),AQ (List.replicate k 0)=0
 | 0=>rfl
 |k+1=>by rw[List.replicate_succ,AQ,Y0 k,FJ]
theorem Ji (b:Nat):∀a,b<=a->(Aa b).length<=(Aa a).length:=by
 induction b using Nat.strongRecOn with
 |ind b ih=>
  intro a h
  by_cases hb:b=0
  ·subst hb;rw[HU];exact Bg _
  ·rw[Jk hb,Jk (n:=a) (by omega),By,By]
   exact Nat.succ_le_succ (ih _ (It (ER hb) (by decide)) _ (Nat.div_le_div_right h))
theorem Yr {a b:Nat}(h:(Aa a).length<(Aa b).length):a<b:=by
 rcases BL a b with h1|h1
 ·exact h1
 ·have:=Ji b a h1;omega
theorem Ph {l:List Nat}{k a:Nat}(h:l[k]?=some a):AQ l=AQ (l.take k)+RB^k*(a+RB*AQ (l.drop (k+1))):=by
 have hk:k<l.length:=(BR.1 h).1
 conv=>lhs;rw[<-GL k l]
 rw[KW,Be,FW (by omega)]
 have:l.drop k=a::l.drop (k+1):=by
  rw[E3 hk]
  congr 1
  exact(BR.1 h).2
 rw[this,AQ]
theorem Yy {l m:List Nat}{k a b:Nat}(hl:Rd l)(ha:l[k]?=some a)(hb:m[k]?=some b)(hd:l.drop (k+1)=m.drop (k+1))(hab:a<b):AQ l<AQ m:=by
 have hk:k<l.length:=(BR.1 ha).1;rw[Ph ha,Ph hb,hd];have h1:=G3 (hl.take k);rw[Be,FW (by omega)]at h1;generalize AQ (m.drop (k+1))=r;have h2:RB^k*(a+RB*r)+RB^k<=RB^k*(b+RB*r):=by
  rw[<-Nat.mul_succ];exact Cj _ (by omega)
 omega
theorem Hy {l:List Nat}{i a:Nat}(hi:l.length=i):AQ (l++[a])=AQ l+RB^i*a:=by rw[KW,hi];simp[AQ]
theorem Rd.set {l:List Nat}(h:Rd l){i a:Nat}(ha:a<RB):Rd (l.set i a):=λb hb=>by
 rcases YO hb with h1|rfl
 ·exact h b h1
 ·exact ha
theorem Us (n:Nat):Rd (List.replicate n 0):=λa ha=>by rw[RF ha];decide
theorem PZ:∀ {l:List Nat} {k o d:Nat},l[k]?=some o->AQ (l.set k d)+RB^k*o=AQ l+RB^k*d
 |a::l,0,o,d,h=>by
  simp only[RG,BO]at h;subst h;simp only[List.set_cons_zero,AQ,Nq,IT];omega
 |a::l,k+1,o,d,h=>by
  simp only[Iq]at h;have ih:=PZ (d:=d) h;simp only[List.set_cons_succ,AQ];have h1:RB^(k+1)*o=RB*(RB^k*o):=by rw[CT,Bd (RB^k) RB,CE]
  have h2:RB^(k+1)*d=RB*(RB^k*d):=by rw[CT,Bd (RB^k) RB,CE]
  have h3:RB*AQ (l.set k d)+RB*(RB^k*o)=RB*AQ l+RB*(RB^k*d):=by rw[<-BQ,<-BQ,ih]
  omega
theorem LP {n k:Nat}(h:n<RB^k):(Aa n).length<=k:=by
 induction k generalizing n with
 |zero=>
  have:n=0:=by simpa using h
  subst this;rw[HU];exact Am _
 |succ k ih=>
  by_cases h0:n=0
  ·subst h0;rw[HU];exact Bg _
  ·rw[Jk h0,By]
   exact Nat.succ_le_succ (ih (Fs (by rw[Bd,<-CT];exact h)))
theorem Jl (n:Nat):n<RB^(Aa n).length:=by
 have:=G3 (FM n)
 rwa [EZ]at this
theorem Y6 (a b:Nat):(Aa (a+b)).length<=max (Aa a).length (Aa b).length+1:=by
 refine LP ?_;have h1:=Jl a;have h2:=Jl b;have m1:RB^(Aa a).length<=RB^max (Aa a).length (Aa b).length:=Fc (by decide) (Nat.le_max_left _ _);have m2:RB^(Aa b).length<=RB^max (Aa a).length (Aa b).length:=Fc (by decide) (Nat.le_max_right _ _);rw[CT];generalize RB^max (Aa a).length (Aa b).length=q at*;unfold RB;omega
theorem Y7 (a b:Nat):(Aa (a-b)).length<=(Aa a).length:=Ji _ _ (Nat.sub_le _ _)
theorem Uo (a b:Nat):(Aa (a*b)).length<=(Aa a).length+(Aa b).length:=by
 refine LP ?_;rw[Gt];exact Nat.mul_lt_mul'' (Jl a) (Jl b)
theorem Rf {n:Nat}(h0:n≠0)(h:n<RB):Aa n=[n]:=by
 rw[Jk h0,GG h,Iw h,HU]
theorem W8 {l:List Nat}{k a:Nat}(hl:l.length=k+1)(ha:l[k]?=some a):AQ l=AQ (l.take k)+RB^k*a:=by
 rw[Ph ha,IR (by omega)];simp[AQ]
theorem d6X {l:List Nat}{k a b:Nat}(hl:l.length=k+2)(ha:l[k]?=some a)(hb:l[k+1]?=some b):AQ l=AQ (l.take k)+RB^k*(a+RB*b):=by
 rw[Ph ha]
 have:l.drop (k+1)=[b]:=by
  rw[E3 (by omega),IR (by omega)]
  congr 1
  exact(BR.1 hb).2
 rw[this];simp[AQ]
theorem d6Y {l:List Nat}{k a b c:Nat}(hl:l.length=k+3)(ha:l[k]?=some a)(hb:l[k+1]?=some b)(hc:l[k+2]?=some c):AQ l=AQ (l.take k)+RB^k*(a+RB*(b+RB*c)):=by
 rw[Ph ha];have h1:=W8 (l:=l.drop (k+1)) (k:=1) (a:=c) (by rw[D4];omega) (by rw[Gb,FG];exact hc);have h2:(l.drop (k+1)).take 1=[b]:=by
  rw[E3 (by omega)];simp only[List.take_succ_cons,LJ]
  congr 1
  exact(BR.1 hb).2
 rw[h1,h2];simp[AQ]
structure L0 (P v:List Nat)(m p0 p1 p2 v2 v1:Nat):Prop where
 lP:P.length=m+3
 lv:v.length=m+2
 wP:Rd P
 wv:Rd v
 h0:P[m]?=some p0
 h1:P[m+1]?=some p1
 h2:P[m+2]?=some p2
 g2:v[m]?=some v2
 g1:v[m+1]?=some v1
 top:0<v1
 less:AQ P<AQ v*RB
namespace L0
variable {P v:List Nat} {m p0 p1 p2 v2 v1:Nat} (S:L0 P v m p0 p1 p2 v2 v1)
include S
theorem valP:AQ P=AQ (P.take m)+RB^m*(p0+RB*(p1+RB*p2)):=d6Y S.lP S.h0 S.h1 S.h2
theorem valv:AQ v=AQ (v.take m)+RB^m*(v2+RB*v1):=d6X S.lv S.g2 S.g1
theorem lowP:AQ (P.take m)<RB^m:=by
 have:=G3 (S.wP.take m)
 rwa [Be,FW (by have:=S.lP;omega)]at this
theorem lowv:AQ (v.take m)<RB^m:=by
 have:=G3 (S.wv.take m)
 rwa [Be,FW (by have:=S.lv;omega)]at this
theorem p0l:p0<RB:=S.wP _ (A8 S.h0)
theorem p1l:p1<RB:=S.wP _ (A8 S.h1)
theorem p2l:p2<RB:=S.wP _ (A8 S.h2)
theorem v1l:v1<RB:=S.wv _ (A8 S.g1)
theorem v2l:v2<RB:=S.wv _ (A8 S.g2)
theorem below3:AQ P<(p0+RB*(p1+RB*p2)+1)*RB^m:=by
 rw[S.valP,B1,IT,Bd (RB^m)]
 have:=S.lowP
 omega
theorem below2:AQ P<(p1+RB*p2+1)*RB^(m+1):=by
 have h:=S.below3;have h1:=S.p0l;generalize p1+RB*p2=t at*;have h2:(p0+RB*t+1)*RB^m<=(RB*(t+1))*RB^m:=CQ _ (by rw[BQ RB t 1];omega);have h3:(t+1)*RB^(m+1)=(RB*(t+1))*RB^m:=by rw[CT,Bd (RB^m) RB,<-CE,Bd (t+1) RB]
 omega
theorem abovev:v1*RB^(m+1)<=AQ v:=by
 rw[S.valv,CT,BQ]
 have:v1*(RB^m*RB)=RB^m*(RB*v1):=by rw[Bd v1,CE]
 omega
theorem abovev2:(v2+RB*v1)*RB^m<=AQ v:=by
 rw[S.valv,Bd];omega
theorem pos:0<AQ v:=Cb (HQ S.top (Nat.pow_pos (by decide))) S.abovev
theorem p2v1:p2<=v1:=by
 rcases BL v1 p2 with h|h
 ·exfalso
  have e1:RB^(m+2)*p2<=AQ P:=by
   rw[S.valP,BQ,BQ,BQ]
   have:RB^(m+2)*p2=RB^m*(RB*(RB*p2)):=by rw[CT,CT,CE,CE]
   omega
  have e2:AQ v<RB^(m+1)*(v1+1):=by
   have h1:=S.lowv;have h2:=S.v2l;have e3:RB^(m+1)*(v1+1)=RB^m*(RB*v1+RB):=by rw[CT,CE,BQ,EQ]
   have e4:RB^m*(v2+RB*v1+1)<=RB^m*(RB*v1+RB):=Cj _ (by omega);rw[BQ _ _ 1,EQ]at e4;rw[S.valv,e3];omega
  have e5:RB^(m+1)*(v1+1)*RB=RB^(m+2)*(v1+1):=by rw[Nat.mul_right_comm,<-CT]
  have e6:RB^(m+2)*(v1+1)<=RB^(m+2)*p2:=Cj _ h;have e7:(AQ v)*RB<=RB^(m+1)*(v1+1)*RB:=CQ _ (KO e2)
  have:=S.less
  omega
 ·exact h
end L0
theorem mc {A P v:List Nat}{q i z x d b c b' c' lo:Nat}(hz:A[i]?=some z)(hx:v[i]?=some x)(hI:AQ A+q*AQ (v.take i)=AQ P+RB^i*(c+b))
  (h1:lo+RB*c'=q*x+c) (h2:d+lo+b=z+RB*b'):AQ (A.set i d)+q*AQ (v.take (i+1))=AQ P+RB^(i+1)*(c'+b'):=by
 have hs:=PZ (d:=d) hz;have hi:i<v.length:=(BR.1 hx).1;rw[F6 hx,Hy (i:=i) (by rw[Be];omega),BQ,JX q,CT,CE];have e:RB^i*(d+q*x+(c+b))=RB^i*(z+RB*(c'+b')):=by congr 1;rw[BQ RB];omega
 rw[BQ,BQ,BQ (RB^i) z]at e;omega
theorem m9 {A P v:List Nat}{i z x c:Nat}(hz:A[i]?=some z)(hx:v[i]?=some x)(hI:AQ A+RB^i*c=AQ P+AQ (v.take i)):
  AQ (A.set i ((z+x+c)%RB))+RB^(i+1)*((z+x+c)/RB)=AQ P+AQ (v.take (i+1)):=by
 have hs:=PZ (d:=(z+x+c)%RB) hz;have hi:i<v.length:=(BR.1 hx).1;rw[F6 hx,Hy (i:=i) (by rw[Be];omega),CT,CE];have e:RB^i*((z+x+c)%RB+RB*((z+x+c)/RB))=RB^i*(z+x+c):=by rw[FX]
 rw[BQ,BQ,BQ (RB^i) z]at e;omega
theorem nP {n k:Nat}(h1:RB^k<=n)(h2:n<RB^(k+1)):(Aa n).length=k+1:=by
 have h3:=LP h2;have h4:=DD h1 (Jl n);have h5:=(Nat.pow_lt_pow_iff_right (show 1<RB by decide)).1 h4;omega
theorem Rg:∀(n:Nat) {k a:Nat},(Aa n).length=k+1->(Aa n)[k]?=some a->a≠0:=λn=>by
 induction n using Nat.strongRecOn with
 |ind n ih=>
  intro k a h1 h2
  by_cases h0:n=0
  ·subst h0;rw[HU]at h1;cases h1
  ·rw[Jk h0]at h1 h2
   rw[By]at h1;have h3:=Nat.succ.inj h1;cases k with
   |zero=>
    have h4:Aa (n/RB)=[]:=FU h3;have h5:n/RB=0:=by rw[<-EZ (n/RB),h4];rfl
    have h6:=FX n RB;rw[h5]at h6;simp at h2;intro h7;subst h7;rw[h2]at h6;omega
   |succ k=>
    rw[Iq]at h2;exact ih _ (It (ER h0) (by decide)) h3 h2
theorem Ur {n k:Nat}(h:(Aa n).length=k+1):RB^k<=n:=by
 obtain⟨a,ha⟩:=Ca (l:=Aa n) (i:=k) (by omega);have h1:=Rg n h ha;have h2:=W8 h ha;rw[EZ]at h2;have h3:=Cj (RB^k) (show 1<=a by omega);omega
theorem Rn {l:List Nat}{j a:Nat}(h:l[j]?=some a):AQ (l.drop j)=a+RB*AQ (l.drop (j+1)):=by
 have hj:j<l.length:=(BR.1 h).1;rw[E3 hj,(BR.1 h).2];rfl
theorem nM {a q:List Nat}{j x b rest:Nat}(hb:0<b)(hx:a[j]?=some x)(hj:j<q.length)(hI:AQ (q.drop (j+1))*b+rest=AQ (a.drop (j+1))):
  AQ ((q.set j ((rest*RB+x)/b)).drop j)*b+(rest*RB+x)%b=AQ (a.drop j)/\(rest*RB+x)%b<b:=by
 refine⟨?_,CJ _ hb⟩;rw[SB hj,Rn hx,<-hI,AQ];have e:=Fq (rest*RB+x) b;rw[B1,BQ RB,CE RB,Bd RB rest,Bd _ b];omega
structure Na (X:Nat)(v U q:List Nat)(lu lq k:Nat):Prop where
 lU:U.length=lu
 lQ:q.length=lq
 wU:Rd U
 wq:Rd q
 val:RB^k*AQ (q.drop k)*AQ v+AQ U=X
 less:AQ (U.drop k)<AQ v
theorem no {X:Nat}{v U q:List Nat}{lu lq j m:Nat}(I:Na X v U q lu lq (j+1))(hv:v.length=m+2)(wv:Rd v)(v1 v2:Nat)(h2:v[m]?=some v2)(h1:v[m+1]?=some v1)(ht:0<v1)(hj:j+(m+3)<=lu):
  ∃p0 p1 p2,L0 ((U.drop j).take (m+3)) v m p0 p1 p2 v2 v1/\AQ (U.drop (j+(m+3)))=0/\AQ ((U.drop j).take (m+3))=AQ (U.drop j):=by
 obtain⟨lU,lQ,wU,wq,val,less⟩:=I;obtain⟨x,hx⟩:=Ca (l:=U) (i:=j) (by omega);have hxl:=wU x (A8 hx);have e1:=Rn hx;have hlt:AQ (U.drop j)<AQ v*RB:=by
  have:RB*(AQ (U.drop (j+1))+1)<=RB*AQ v:=Cj _ less
  rw[BQ,Bd RB (AQ v)]at this;omega
 have hPl:((U.drop j).take (m+3)).length=m+3:=by rw[Be,D4];omega
 have e2:AQ (U.drop j)=AQ ((U.drop j).take (m+3))+RB^(m+3)*AQ (U.drop (j+(m+3))):=by
  conv=>lhs;rw[<-GL (m+3) (U.drop j)]
  rw[KW,hPl,List.drop_drop]
 have hvl:=G3 wv;rw[hv]at hvl;have hz:AQ (U.drop (j+(m+3)))=0:=by
  rcases EC (AQ (U.drop (j+(m+3))))with h|h
  ·exact h
  ·exfalso
   have e3:RB^(m+3)*1<=RB^(m+3)*AQ (U.drop (j+(m+3))):=Cj _ h;have e4:AQ v*RB<=RB^(m+2)*RB:=CQ _ (KO hvl);have e5:RB^(m+2)*RB=RB^(m+3):=(CT RB (m+2)).symm;rw[e5]at e4;omega
 rw[hz,FJ,Dm]at e2;obtain⟨p0,h0⟩:=Ca (l:=(U.drop j).take (m+3)) (i:=m) (by omega);obtain⟨p1,h3⟩:=Ca (l:=(U.drop j).take (m+3)) (i:=m+1) (by omega);obtain⟨p2,h4⟩:=Ca (l:=(U.drop j).take (m+3)) (i:=m+2) (by omega);exact⟨p0,p1,p2,⟨hPl,hv,λa ha=>wU a (MV (HK ha)),wv,h0,h3,h4,h2,h1,ht,by rw[<-e2];exact hlt⟩,hz,e2.symm⟩
theorem nm {X:Nat}{v U q P':List Nat}{lu lq j m:Nat}(I:Na X v U q lu lq (j+1))(hv:0<AQ v)(hj:j+(m+3)<=lu)(hjq:j<lq)(hz:AQ (U.drop (j+(m+3)))=0)(hP:AQ ((U.drop j).take (m+3))=AQ (U.drop j))
  (h1:P'.length=m+3) (h2:Rd P') (h3:AQ P'=AQ ((U.drop j).take (m+3))%AQ v) (hd:AQ ((U.drop j).take (m+3))/AQ v<RB):
  Na X v (U.take j++(P'++U.drop (j+(m+3)))) (q.set j (AQ ((U.drop j).take (m+3))/AQ v)) lu lq j:=by
 obtain⟨lU,lQ,wU,wq,val,less⟩:=I;have hA:(U.take j).length=j:=by rw[Be];omega
 have e0:AQ U=AQ (U.take j)+RB^j*AQ (U.drop j):=by
  conv=>lhs;rw[<-GL j U]
  rw[KW,hA]
 have e1:AQ (P'++U.drop (j+(m+3)))=AQ P':=by rw[KW,hz,FJ,Dm]
 refine⟨?_,by rw[Dt];exact lQ,?_,wq.set hd,?_,?_⟩
 ·rw[Bz,Bz,hA,h1,D4];omega
 ·exact Rd.append (wU.take j) (Rd.append h2 λa ha=>wU a (MV ha))
 ·rw[SB (by omega),AQ,KW,hA,e1,h3,hP]
  rw[e0]at val;have e2:=Fq (AQ (U.drop j)) (AQ v);have e3:RB^(j+1)*AQ (q.drop (j+1))*AQ v=RB^j*(RB*AQ (q.drop (j+1))*AQ v):=by
   rw[CT,CE,CE,CE]
  rw[e3]at val;have e4:RB^j*AQ (U.drop j)=RB^j*(AQ v*(AQ (U.drop j)/AQ v))+RB^j*(AQ (U.drop j)%AQ v):=by
   rw[<-BQ,e2]
  rw[CE,B1,BQ,Bd (AQ (U.drop j)/AQ v)];omega
 ·rw[List.drop_left' hA,e1,h3]
  exact CJ _ hv
set_option maxHeartbeats 2000000
abbrev Ab (n:Nat):D:=i64 (n:Int)
def rL (l:List Nat):D:=.sl false 1 (l.map Ab)
def rD (n:Nat):D:=rL (Aa n)
theorem P6 (l:List Nat):CI (rL l):=.sl λe he d hd=>by
 obtain⟨a,_,rfl⟩:=CL.1 he;simp only[D.cells,Aw,Ds,or_false]at hd;subst hd;exact .prim _
instance  (l:List Nat):AA (rL l):=⟨P6 l⟩
instance  (n:Nat):AA (rD n):=⟨P6 _⟩
theorem EB {l:List Nat}{i a:Nat}(h:l[i]?=some a):(l.map Ab)[i]?=some (Ab a):=by rw[BT,h];rfl
theorem Oh {l:List Nat}{i a:Nat}:(l.map Ab).set i (Ab a)=(l.set i a).map Ab:=List.map_set.symm
theorem d8E (c:Nat):((c:Int)==0)=decide (c=0):=by rw[E6,EW,decide_eq_true_iff];omega
theorem WD (m:List Nat):AQ (m++[0])=AQ m:=by rw[Hy rfl];simp
theorem eV {m:List Nat}{c:Nat}(h:Rd (m++[c]))(hc:c≠0):Aa (AQ (m++[c]))=m++[c]:=Y8 h λa ha=>by
 rw[List.getLast?_append]at ha;simp at ha;rw[<-ha];exact hc
theorem NK (l:List Nat)(h:Rd l)(hlen:l.length<4000000000):AI C0 174 [rL l] (rD (AQ l)):=by
 refine Ac.walk w1 gE rfl λF=>?_
 unfold rL;refine sR 0 ?_;refine AC.seq ?_;refine AC.block ?_;refine AC.loop (α:=List Nat×Nat) (λp=>⟨[(0,.sl false 1 (p.1.map Ab))],[],p.2⟩) (λp=>p.1.length)
  (λp=>AQ p.1=AQ l/\Rd p.1/\p.1.length<=l.length) (l,_) ⟨rfl,h,Am _⟩ AN ?_
 rintro⟨m,n⟩ F ⟨h1,h2,h3⟩;dsimp only at h1 h2 h3⊢;refine AC.seq ?_;refine AC.seq ?_;rcases UM m with rfl|⟨m,c,rfl⟩
 ·have e1:decide (((0:Nat):Int)>0)=false:=rfl
  refine An 100 ?_;refine AW e1 ?_;refine AF e1 ?_;refine AK ?_;refine CM ?_;refine sR 300 ?_;refine AX ?_;refine AM (d0:=rL []) ?_ AA.out;rw[<-h1];unfold rD;rw[show AQ []=0 from rfl,HU]
 ·rw[UL]at h1 h2 h3⊢
  have el:((((m++[c]).map Ab).length:Nat):Int)=((m.length+1:Nat):Int):=by rw[Al,Bz];rfl
  rw[Bz,Ho]at h3;have e1:decide (((m.length+1:Nat):Int)>0)=true:=BV;have wk:IntKind.i64.wrap (((m.length+1:Nat):Int)-1)=(m.length:Int):=by rw[wI];omega
  have wraw:IntKind.i64.wrap (((((m++[c]).map Ab).length:Nat):Int)-1)=(m.length:Int):=by rw[el,wk]
  have hx:((m++[c]).map Ab)[m.length]?=some (Ab c):=EB (by simp);have ec:=d8E c;refine An 100 ?_;refine AW (Ae el e1) ?_;refine AF (Cw e1 wraw el wk kN) ?_;refine CN e1 hx ?_;refine AF (Cw e1 wraw el wk ec) ?_
  by_cases hc:c=0
  ·rw[Ax hc]
   subst hc;have e4:List.take (m.length-0) (List.drop 0 ((m++[0]).map Ab))=m.map Ab:=by simp
   have e5:List.take m.length ((m++[0]).map Ab)=m.map Ab:=by simp
   rw[WD]at h1;refine AK ?_;refine Ag ?_;refine AC.block ?_;refine An 200 ?_;refine AW (Cw el wk wraw kN e4) ?_;exact⟨(m,_),⟨h1,λa ha=>h2 a (IS _ ha),by dsimp only;omega⟩,by dsimp only;rw[Bz,Ho];omega,AN⟩
  ·rw[Az hc]
   refine AK ?_;refine CM ?_;refine sR 300 ?_;refine AX ?_;refine AM (d0:=rL (m++[c])) ?_ AA.out;unfold rD;rw[<-h1,eV h2 hc]
theorem WA (l:List Nat)(i:Nat)(hlen:l.length<4000000000)(hi:i<4000000000):AI C0 212 [rL l,Ab i] (Ab (l.getD i 0)):=by
 refine Ac.walk w1 xR rfl λF=>?_
 unfold rL;have el:(((l.map Ab).length:Nat):Int)=(l.length:Int):=by rw[Al]
 refine sR 0 ?_;refine AC.seq ?_;refine AC.seq ?_
 by_cases h:i<l.length
 ·have e1:decide ((i:Int)<(l.length:Int))=true:=BV
  obtain⟨a,ha⟩:=Ca h;have hx:=EB ha;have eg:l.getD i 0=a:=by rw[FY,ha];rfl
  rw[eg];refine An 100 ?_;refine AW (Ae el e1) ?_;refine AK ?_;refine sZ 200 ?_;refine AF kN ?_;refine CN kT hx ?_;refine AF kN ?_;refine AX ?_;exact AM rfl AA.out
 ·have e1:decide ((i:Int)<(l.length:Int))=false:=BY
  have eg:l.getD i 0=0:=by rw[FY,D3 (by omega)];rfl
  rw[eg];refine An 100 ?_;refine AW (Ae el e1) ?_;refine AK ?_;refine Ag ?_;refine sR 300 ?_;refine AX ?_;exact AM rfl AA.out
theorem Tb (a b:Nat)(ha:(Aa a).length<4000000000)(hb:(Aa b).length<4000000000):AI C0 171 [rD a,rD b] (i64 (D6 a b)):=by
 refine Ac.walk w1 xw rfl λF=>?_
 have hwa:=FM a;have hwb:=FM b;have va:=EZ a;have vb:=EZ b;have hlt:=@Yr a b;have hgt:=@Yr b a;unfold rD rL D6;generalize Aa a=la at*;generalize Aa b=lb at*;have ea:(((la.map Ab).length:Nat):Int)=(la.length:Int):=by rw[Al]
 have eb:(((lb.map Ab).length:Nat):Int)=(lb.length:Int):=by rw[Al]
 refine sR 0 ?_;refine AC.seq ?_;refine sZ 100 ?_;refine AW (Ae ea eb) ?_;refine AK ?_
 (refine Bn (λh10=>?_) (λh10=>?_))<;>(try simp only[BZ,Bl]at h10)<;>(try simp only[h10])
 ·have hne:la.length≠lb.length:=by
   have:(la.length:Int)≠lb.length:=by simpa using h10
   omega
  refine AC.seq ?_;refine sZ 200 ?_;refine AW (Ae ea eb) ?_;refine AK ?_
  (refine Bn (λh15=>?_) (λh15=>?_))<;>(try simp only[BZ,Bl]at h15)<;>(try simp only[h15])
  ·have h1:la.length<lb.length:=by
    have:(la.length:Int)<lb.length:=by simpa using h15
    omega
   rw[AH (by have:=hlt h1;omega)];refine sR 300 ?_;refine AX ?_;exact AM rfl AA.out
  ·have h1:lb.length<la.length:=by
    have:¬(la.length:Int)<lb.length:=by simpa using h15
    omega
   have h2:=hgt h1;rw[B3,DJ];refine Ag ?_;refine sR 400 ?_;refine AX ?_;exact AM rfl AA.out
 ·have hl:la.length=lb.length:=by
   have:(la.length:Int)=lb.length:=by simpa using h10
   omega
  clear hlt hgt;refine Ag ?_;refine AC.seq ?_;refine sZ 500 ?_;refine AW ea ?_;refine AC.block ?_;have w0:IntKind.i64.wrap ((la.length:Int)-1)=(la.length:Int)-1:=wI;rw[w0];refine AC.loop (α:=Nat×Nat) (λp=>⟨[(0,.sl false 1 (la.map Ab)),(1,.sl false 1 (lb.map Ab)),(5,i64 ((p.1:Int)-1))],[],p.2⟩) (λp=>p.1)
   (λp=>p.1<=la.length/\la.drop p.1=lb.drop p.1) (la.length,_) ⟨Am _,by rw[KH,hl,KH]⟩ AN ?_
  rintro⟨k,m⟩ F ⟨h1,h2⟩;dsimp only at h1 h2⊢;refine AC.seq ?_;refine sR 600 ?_;refine AK ?_
  (refine Bn (λh20=>?_) (λh20=>?_))<;>(try simp only[BZ,Bl]at h20)<;>(try simp only[h20])
  ·obtain⟨j,rfl⟩:∃j,k=j+1:=⟨k-1,by
    have:(k:Int)-1>=0:=by simpa using h20
    omega⟩
   have wj:((j+1:Nat):Int)-1=(j:Int):=by omega
   obtain⟨x,hx⟩:∃x,la[j]?=some x:=⟨la[j],Ce⟩
   obtain⟨y,hy⟩:∃y,lb[j]?=some y:=⟨lb[j],Ce⟩
   have hx':=EB hx;have hy':=EB hy;rw[wj];refine Ag ?_;refine AC.seq ?_;refine AC.block ?_;refine AC.seq ?_;refine AC.seq ?_;refine B0 800 [0,1,2,3,4,5,6,7] [8] ?_;refine AF kN ?_;refine CN kT hx' ?_;refine AF kN ?_;refine CN kT hy' ?_;refine AF kN ?_;refine AF kN ?_;refine AK ?_
   (refine Bn (λh31=>?_) (λh31=>?_))<;>(try simp only[BZ,Bl]at h31)<;>(try simp only[h31])
   ·have hxy:x<y:=by
     have:=DQ h31
     omega
    have:=Yy hwa hx hy h2 hxy
    rw[DJ];refine sR 900 ?_;refine AX ?_;exact AM rfl AA.out
   ·have hxy0:¬x<y:=by
     have:=Da h31
     omega
    refine Ag ?_;refine AC.seq ?_;refine B0 1000 [0,1,2,3,4,5,6,7] [8] ?_;refine AF kN ?_;refine CN kT hx' ?_;refine AF kN ?_;refine CN kT hy' ?_;refine AF kN ?_;refine AF kN ?_;refine AK ?_
    (refine Bn (λh40=>?_) (λh40=>?_))<;>(try simp only[BZ,Bl]at h40)<;>(try simp only[h40])
    ·have hxy:y<x:=by
      have:=DQ h40
      omega
     have:=Yy hwb hy hx h2.symm hxy
     rw[B3,DJ];refine sR 1100 ?_;refine AX ?_;exact AM rfl AA.out
    ·have hxy:x=y:=by
      have:=Da h40
      omega
     subst hxy;have w5:IntKind.i64.wrap ((j:Int)-1)=(j:Int)-1:=wI;refine Ag ?_;refine An 700 ?_;refine AW w5 ?_;have hj:=(BR.1 hx)
     have hj':=(BR.1 hy)
     refine⟨(j,_),⟨by dsimp only;omega,?_⟩,by dsimp only;omega,AN⟩;dsimp only;rw[E3 hj.1,E3 hj'.1,hj.2,hj'.2,h2]
  ·have hk:k=0:=by
    have:¬((k:Int)-1>=0):=by simpa using h20
    omega
   subst hk;have hab:a=b:=by
    rw[<-va,<-vb]
    have:la=lb:=by simpa using h2
    rw[this]
   subst hab;rw[B3,B3];refine CM ?_;refine sR 1200 ?_;refine AX ?_;exact AM rfl AA.out
theorem Uq (l:List Nat)(i:Nat):AQ (l.take (i+1))=AQ (l.take i)+RB^i*l.getD i 0:=by
 by_cases h:i<l.length
 ·obtain⟨a,ha⟩:=Ca h
  rw[F6 ha,Hy (i:=i) (by rw[Be];omega),FY,ha];rfl
 ·rw[Gx,Gx,FY,D3 (by omega)]
  simp
theorem VJ {l:List Nat}(h:Rd l)(i:Nat):l.getD i 0<RB:=by
 by_cases hi:i<l.length
 ·obtain⟨a,ha⟩:=Ca hi
  rw[FY,ha];exact h a (A8 ha)
 ·rw[FY,D3 (by omega)];decide
theorem aO (l:List Nat)(i:Nat):AQ (l.take i)<=AQ l:=by
 conv=>rhs;rw[<-GL i l]
 rw[KW];exact Nat.le_add_right _ _
theorem Zp {a i:Nat}(h:i<(Aa a).length):RB^i<=a:=by
 obtain⟨k,hk⟩:∃k,(Aa a).length=k+1:=⟨(Aa a).length-1,by omega⟩
 exact BP (Fc (by decide) (by omega)) (Ur hk)
structure QN (a b:Nat)(i c:Nat)(out:List Nat):Prop where
 len:out.length=i
 wd:Rd out
 c1:c<=1
 val:AQ out+RB^i*c=AQ ((Aa a).take i)+AQ ((Aa b).take i)
 can:i=0\/RB^(i-1)<=a+b
theorem rX {a b i c:Nat}{out:List Nat}(I:QN a b i c out)(h:i<(Aa a).length\/i<(Aa b).length\/0<c):
  QN a b (i+1) (((Aa a).getD i 0+(Aa b).getD i 0+c)/RB) (out++[((Aa a).getD i 0+(Aa b).getD i 0+c)%RB])/\(Aa a).getD i 0+(Aa b).getD i 0+c<2*RB:=by
 obtain⟨len,wd,c1,val,can⟩:=I;have h1:=VJ (FM a) i;have h2:=VJ (FM b) i;have hs:(Aa a).getD i 0+(Aa b).getD i 0+c<2*RB:=by omega
 have e1:=Uq (Aa a) i;have e2:=Uq (Aa b) i;have ta:=aO (Aa a) i;have tb:=aO (Aa b) i;rw[EZ]at ta tb;refine⟨⟨by rw[Bz,len];rfl,Rd.append wd λx hx=>?_,?_,?_,.inr ?_⟩,hs⟩
 ·simp only[Aw,Ds,or_false]at hx
  subst hx;exact CJ _ (by decide)
 ·exact PL (Fs (by rw[Bd];exact hs))
 ·rw[Hy len,e1,e2,CT,CE]
  have e:=FX ((Aa a).getD i 0+(Aa b).getD i 0+c) RB;generalize(Aa a).getD i 0=p at*;generalize(Aa b).getD i 0=q at*;have e3:RB^i*((p+q+c)%RB+RB*((p+q+c)/RB))=RB^i*(p+q+c):=by rw[e]
  rw[BQ,BQ,BQ (RB^i) p]at e3;omega
 ·rw[JW]
  rcases h with h|h|h
  ·have:=Zp h;omega
  ·have:=Zp h;omega
  ·have hc:c=1:=by omega
   subst hc;rw[EQ]at val;omega
theorem rW {a b i:Nat}{out:List Nat}(I:QN a b i 0 out)(h1:¬i<(Aa a).length)(h2:¬i<(Aa b).length):out=Aa (a+b):=by
 obtain⟨len,wd,c1,val,can⟩:=I;rw[Gx,Gx,EZ,EZ,FJ,Dm]at val;rcases UM out with rfl|⟨m,c,rfl⟩
 ·rw[<-val];unfold Aa;rfl
 ·rw[UL]at*
  rw[Bz,Ho]at len;have hc:c≠0:=by
   intro hc;subst hc;rcases can with h|h
   ·omega
   ·rw[WD]at val
    have:=G3 (l:=m) λx hx=>wd x (IS _ hx)
    rw[show i-1=m.length by omega]at h;omega
  rw[<-val,eV wd hc]
theorem d8x (a b:Nat)(ha:(Aa a).length<1000000)(hb:(Aa b).length<1000000):AI C0 170 [rD a,rD b] (rD (a+b)):=by
 refine Ac.walk w1 xv rfl λF=>?_
 have hT:Fz [] [] (rD a) (rD a):=.refl _;change AC C0 F none F _ ⟨Dd 0 [.sl false 1 ((Aa a).map Ab),.sl false 1 ((Aa b).map Ab)],[],0⟩ _;have ea:((((Aa a).map Ab).length:Nat):Int)=((Aa a).length:Int):=by rw[Al]
 have eb:((((Aa b).map Ab).length:Nat):Int)=((Aa b).length:Int):=by rw[Al]
 have I0:QN a b 0 0 []:=⟨rfl,(λx hx=>Ah hx Ds),Bg _,by simp[AQ],.inl rfl⟩
 refine sR 0 ?_;refine sR 100 ?_;refine sR 200 ?_;refine AC.seq ?_;refine sR 300 ?_;refine AC.block ?_;refine AC.loop (α:=Nat×Nat×List Nat×List D×Nat×Nat) (λp=>⟨[(0,.sl false 1 ((Aa a).map Ab)),(1,.sl false 1 ((Aa b).map Ab)),(5,E2 704 p.2.2.2.2.1 1 p.2.2.2.1),(6,Ab p.2.1),(7,Ab p.1)],EN 704 p.2.2.2.2.1 3 1 p.2.2.2.1,p.2.2.2.2.2⟩)
  (λp=>(max (Aa a).length (Aa b).length-p.1)*2+p.2.1) (λp=>QN a b p.1 p.2.1 p.2.2.1/\p.2.2.2.1=p.2.2.1.map Ab/\p.1<=max (Aa a).length (Aa b).length+1) (0,0,[],[],0,_) ⟨I0,rfl,Bg _⟩ AN ?_
 rintro⟨i,c,out,L,g,n⟩ F ⟨I,hL,hi⟩;dsimp only at I hL hi⊢;have c1:=I.c1;have hol:=I.len;refine AC.seq ?_;refine C9 (α:=Nat) (λn=>⟨[(0,.sl false 1 ((Aa a).map Ab)),(1,.sl false 1 ((Aa b).map Ab)),(5,E2 704 g 1 L),(6,Ab c),(7,Ab i),(22,Av (decide (i<(Aa a).length\/i<(Aa b).length\/0<c)))],EN 704 g 3 1 L,n⟩) (λ_=>True) ?_ ?_
 ·generalize E2 704 g 1 L=od at*
  generalize EN 704 g 3 1 L=oh at*
  by_cases h1:i<(Aa a).length
  ·have e1:decide ((i:Int)<((Aa a).length:Int))=true:=BV
   have e:decide (i<(Aa a).length\/i<(Aa b).length\/0<c)=true:=Ax (.inl h1);rw[e];refine An 400 ?_;refine AW (Ae ea e1) ?_;refine AF kT ?_;refine AF kT ?_;exact⟨trivial,_,trivial,AN⟩
  ·have e1:decide ((i:Int)<((Aa a).length:Int))=false:=BY
   by_cases h2:i<(Aa b).length
   ·have e2:decide ((i:Int)<((Aa b).length:Int))=true:=BV
    have e:decide (i<(Aa a).length\/i<(Aa b).length\/0<c)=true:=Ax (.inr (.inl h2));rw[e];refine An 400 ?_;refine AW (Ae ea e1) ?_;refine AF kF ?_;simp only[eb,e2];refine AF kT ?_;exact⟨trivial,_,trivial,AN⟩
   ·have e2:decide ((i:Int)<((Aa b).length:Int))=false:=BY
    have e:decide ((c:Int)>0)=decide (i<(Aa a).length\/i<(Aa b).length\/0<c):=by rw[ED];omega
    rw[<-e];refine An 400 ?_;refine AW (Ae ea e1) ?_;refine AF kF ?_;simp only[eb,e2];refine AF kF ?_;exact⟨trivial,_,trivial,AN⟩
 rintro n2 -
 by_cases h:i<(Aa a).length\/i<(Aa b).length\/0<c
 ·obtain⟨J,hs⟩:=rX I h
  have d1:=WA (Aa a) i (by omega) (by omega);have d2:=WA (Aa b) i (by omega) (by omega);unfold rL at d1 d2;have hmu:∀c',c'<=1->(max (Aa a).length (Aa b).length<=i->c'=0)->(max (Aa a).length (Aa b).length-(i+1))*2+c'<(max (Aa a).length (Aa b).length-i)*2+c:=λc' h1 h2=>by
   rcases BL i (max (Aa a).length (Aa b).length)with h3|h3
   ·omega
   ·have:=h2 h3;omega
  have hmu2:max (Aa a).length (Aa b).length<=i->((Aa a).getD i 0+(Aa b).getD i 0+c)/RB=0:=λh3=>by
   rw[FY,D3 (by omega),FY,D3 (by omega)];show(0+0+c)/1000000000=0;omega
  have hbnd:i<max (Aa a).length (Aa b).length+1:=by
   rcases h with h|h|h
   ·omega
   ·omega
   ·rcases BL i (max (Aa a).length (Aa b).length+1)with h3|h3
    ·exact h3
    ·exfalso
     obtain⟨len,wd,_,val,_⟩:=I;have hc:c=1:=by omega
     subst hc;rw[Gx,Gx,EZ,EZ,EQ]at val;have l1:=Jl a;have l2:=Jl b;have m1:RB^(Aa a).length<=RB^max (Aa a).length (Aa b).length:=Fc (by decide) (Nat.le_max_left _ _);have m2:RB^(Aa b).length<=RB^max (Aa a).length (Aa b).length:=Fc (by decide) (Nat.le_max_right _ _);have m3:RB^(max (Aa a).length (Aa b).length+1)<=RB^i:=Fc (by decide) h3;rw[CT]at m3;generalize RB^max (Aa a).length (Aa b).length=Q at*;change Q*1000000000<=_ at m3;omega
  have hmu3:=hmu _ J.c1 hmu2;rw[Ax h];generalize hp:(Aa a).getD i 0=p at*;generalize hq:(Aa b).getD i 0=q at*;have k1:IntKind.i64.wrap ((p:Int)+(q:Int))=((p+q:Nat):Int):=by rw[wI (by omega) (by unfold RB at hs;omega)];omega
  have k2:IntKind.i64.wrap (((p+q:Nat):Int)+(c:Int))=((p+q+c:Nat):Int):=by rw[wI (by omega) (by unfold RB at hs;omega)];omega
  have k3:((p+q+c:Nat):Int).tmod 1000000000=(((p+q+c)%RB:Nat):Int):=rfl;have k4:IntKind.i64.wrap (((p+q+c:Nat):Int).tdiv 1000000000)=(((p+q+c)/RB:Nat):Int):=by
   show IntKind.i64.wrap ((((p+q+c)/1000000000:Nat)):Int)=_;exact wN (by unfold RB at hs;omega)
  have wi:IntKind.i64.wrap ((i:Int)+1)=((i+1:Nat):Int):=wI;generalize(p+q+c)%RB=d at*;generalize(p+q+c)/RB=c' at*;have hlo:L.length<=1000001:=by rw[hL,Al];omega
  have hmo:L++[Ab d]=(out++[d]).map Ab:=by rw[hL,Du];rfl
  clear hmu hmu2 ea eb hL I;refine AK ?_;refine Ag ?_;refine AC.seq ?_;refine AC.block ?_;refine sR 600 ?_;refine cI d1 ?_;refine cI d2 ?_;simp only[k1,k2];refine AC.seq ?_;rcases L with _|⟨x,L⟩
  all_goals
   (try simp only[By]at hlo)
   dsimp only[Kc,Mz,Gy,Gz];refine An 700 ?_;refine AW k3 ?_;refine An 800 ?_;refine AW k4 ?_;refine An 500 ?_;refine AW wi ?_
  ·exact⟨(i+1,c',out++[d],[]++[Ab d],_,_),⟨J,hmo,hbnd⟩,hmu3,AN⟩
  ·have htk:List.take (L.length+1) (x::L)=x::L:=by simp
   rw[htk];refine⟨(i+1,c',out++[d],x::L++[Ab d],_,_),⟨J,hmo,hbnd⟩,hmu3,by(dsimp only;rw[R1];exact AN)⟩
 ·rw[Az h]
  have hc:c=0:=by omega
  subst hc;have hout:=rW I (by omega) (by omega);refine AK ?_;refine CM ?_;refine sR 900 ?_;refine AX ?_;refine⟨_,W7 _ _ _ _ _,?_,?_⟩
  ·rw[hL];exact P6 _
  ·rw[hL,hout];rfl
set_option maxHeartbeats 4000000
theorem d7P {env:As}{t K g T n:Nat}{l:List D}(he:env.get t=E2 K g 1 l:=by exact rfl):Wk ⟨env,EN K g T 1 l,n⟩ ⟨[(t,.sl false 1 l)],[],n⟩:=by
 refine⟨?_,⟨?_,trivial⟩,Am _⟩
 ·cases l with
  |nil=>exact .nil
  |cons x l=>exact .drop .nil
 ·dsimp only
  rw[he];exact W7 _ _ _ _ _
theorem uf {env:As}{t K g n N:Nat}{z:List Nat}{T:Nat}(hl:z.length=N)(he:env.get t=.osl K g 1 0 N:=by exact rfl):Wk ⟨env,[⟨K,g,T,1,z.map Ab⟩],n⟩ ⟨[(t,.sl false 1 (z.map Ab))],[],n⟩:=by
 subst hl;refine⟨.drop .nil,⟨?_,trivial⟩,Am _⟩;dsimp only;rw[he]
 have:=S7 K g T 1 (z.map Ab)
 rwa [Al]at this
theorem nQ {a v c:Nat}(ha:a<RB)(hv:v<RB)(hc:c<=1):∃d c',d<RB/\c'<=1/\d+v+c=a+RB*c'/\((c'=0/\(a:Int)-v-c=d)\/(c'=1/\(a:Int)-v-c<0/\(a:Int)-v-c+1000000000=d)):=by
 unfold RB at ha hv⊢
 by_cases h:a<v+c
 ·exact⟨a+1000000000-v-c,1,by omega,by omega,by omega,.inr ⟨rfl,by omega,by omega⟩⟩
 ·exact⟨a-v-c,0,by omega,by omega,by omega,.inl ⟨rfl,by omega⟩⟩
theorem kr (a b:Nat)(hab:b<=a)(ha:(Aa a).length<1000000):AI C0 172 [rD a,rD b] (rD (a-b)):=by
 refine Ac.walk w1 xy rfl λF=>?_
 change AC C0 F none F _ ⟨Dd 0 [.sl false 1 ((Aa a).map Ab),.sl false 1 ((Aa b).map Ab)],[],0⟩ _;have hlb:=Ji b a hab;have va:=EZ a;have vb:=EZ b;have wx:=FM a;have wy:=FM b;generalize Aa a=x at*;generalize Aa b=y at*;have ea:(((x.map Ab).length:Nat):Int)=(x.length:Int):=by rw[Al]
 refine sR 0 ?_;refine sR 100 ?_;refine sR 200 ?_;refine AC.seq ?_;refine sR 300 ?_;refine AC.block ?_;refine AC.loop (α:=Nat×Nat×List Nat×List D×Nat×Nat) (λp=>⟨[(0,.sl false 1 (x.map Ab)),(1,.sl false 1 (y.map Ab)),(5,E2 1103 p.2.2.2.2.1 1 p.2.2.2.1),(6,Ab p.2.1),(7,Ab p.1)],EN 1103 p.2.2.2.2.1 3 1 p.2.2.2.1,p.2.2.2.2.2⟩)
  (λp=>x.length-p.1) (λp=>p.1<=x.length/\p.2.1<=1/\p.2.2.1.length=p.1/\Rd p.2.2.1/\AQ p.2.2.1+AQ (y.take p.1)=AQ (x.take p.1)+RB^p.1*p.2.1/\p.2.2.2.1=p.2.2.1.map Ab) (0,0,[],[],0,_) ⟨Bg _,Bg _,rfl,(λx hx=>Ah hx Ds),by simp[AQ],rfl⟩ AN ?_
 rintro⟨i,c,out,L,g,n⟩ F ⟨hi,hc,hol,how,hI,hL⟩;dsimp only at hi hc hol how hI hL⊢;refine AC.seq ?_;refine AC.seq ?_
 by_cases h:i<x.length
 ·have e1:decide ((i:Int)<(x.length:Int))=true:=BV
  obtain⟨p,hp⟩:=Ca h;have hx:=EB hp;have hpl:=wx p (A8 hp);have d2:=WA y i (by omega) (by omega);unfold rL at d2;have hql:=VJ wy i;have ty:=Uq y i;have tx:AQ (x.take (i+1))=AQ (x.take i)+RB^i*p:=by rw[F6 hp,Hy (i:=i) (by rw[Be];omega)]
  generalize y.getD i 0=q at*;obtain⟨d,c',hd,hc',hdig,hcase⟩:=nQ hpl hql hc;have k1:IntKind.i64.wrap ((p:Int)-(q:Int))=(p:Int)-q:=wI (by unfold RB at*;omega) (by unfold RB at*;omega);have k2:IntKind.i64.wrap ((p:Int)-q-(c:Int))=(p:Int)-q-c:=wI (by unfold RB at*;omega) (by unfold RB at*;omega);have wi:IntKind.i64.wrap ((i:Int)+1)=((i+1:Nat):Int):=wI;have hlo:L.length<=1000001:=by rw[hL,Al];omega
  have hmo:L++[Ab d]=(out++[d]).map Ab:=by rw[hL,Du];rfl
  have hvn:AQ (out++[d])+AQ (y.take (i+1))=AQ (x.take (i+1))+RB^(i+1)*c':=by
   rw[Hy hol,ty,tx,CT,CE];have e3:RB^i*(d+q+c)=RB^i*(p+RB*c'):=by rw[hdig]
   rw[BQ,BQ,BQ (RB^i) p]at e3;omega
  have how':Rd (out++[d]):=Rd.append how λx hx=>by
   simp only[Aw,Ds,or_false]at hx;subst hx;exact hd
  have hol':(out++[d]).length=i+1:=by rw[Bz,hol];rfl
  clear hI hL how;refine An 400 ?_;refine AW (Ae ea e1) ?_;refine AK ?_;refine Ag ?_;refine AC.seq ?_;refine AC.block ?_;refine AC.seq ?_;refine B0 600 [0,1,2,3,4,5,6,7,8] [9,10] ?_;refine AF kN ?_;refine CN kT hx ?_;refine AF kN ?_;refine BN.same _ d2 AJ ?_;refine AF (Ae k1 k2) ?_;refine sR 700 ?_;refine C9 (α:=Nat) (λn=>⟨[(0,.sl false 1 (x.map Ab)),(1,.sl false 1 (y.map Ab)),(5,E2 1103 g 1 L),(6,Ab c'),(7,Ab i),(8,Ab d)],EN 1103 g 3 1 L,n⟩) (λ_=>True) ?_ ?_
  ·generalize E2 1103 g 1 L=od at*
   generalize EN 1103 g 3 1 L=oh at*;refine AC.seq ?_;rcases hcase with⟨rfl,h2⟩|⟨rfl,h2,h3⟩
   ·have e2:decide ((p:Int)-q-c<0)=false:=BY
    rw[h2]at e2;rw[h2];refine An 800 ?_;refine AW e2 ?_;refine AK ?_;refine Ag ?_;exact⟨rfl,_,trivial,AN⟩
   ·have e2:decide ((p:Int)-q-c<0)=true:=Ax h2
    have k3:IntKind.i64.wrap ((p:Int)-q-c+1000000000)=(d:Int):=by rw[h3];exact wI (by unfold RB at*;omega) (by unfold RB at*;omega)
    refine An 800 ?_;refine AW e2 ?_;refine AK ?_;refine sZ 900 ?_;refine AW k3 ?_;refine rI 1000 ?_;exact⟨rfl,_,trivial,AN⟩
  rintro n3 -;rcases L with _|⟨x0,L⟩
  all_goals
   (try simp only[By]at hlo)
   dsimp only[Kc,Mz,Gy,Gz];refine rI 1100 ?_;refine An 500 ?_;refine AW wi ?_
  ·exact⟨(i+1,c',out++[d],[]++[Ab d],_,_),⟨h,hc',hol',how',hvn,hmo⟩,by dsimp only;omega,AN⟩
  ·have htk:List.take (L.length+1) (x0::L)=x0::L:=by simp
   rw[htk];refine⟨(i+1,c',out++[d],x0::L++[Ab d],_,_),⟨h,hc',hol',how',hvn,hmo⟩,by dsimp only;omega,by(dsimp only;rw[R1];exact AN)⟩
 ·have e1:decide ((i:Int)<(x.length:Int))=false:=BY
  have hix:i=x.length:=by omega
  subst hix;rw[Gx,Gx,va,vb]at hI;have hlt:=G3 how;rw[hol]at hlt;have hxl:=G3 wx;rw[va]at hxl;have hov:AQ out=a-b:=by
   rcases EC c with h|h
   ·subst h;rw[FJ]at hI;omega
   ·have:c=1:=by omega
    subst this;rw[EQ]at hI;omega
  refine An 400 ?_;refine AW (Ae ea e1) ?_;refine AK ?_;refine CM ?_;refine AC.weak ⟨[(5,.sl false 1 L)],[],_⟩ d7P ?_;rw[hL];refine sR 1200 ?_;refine BI.same _ (NK out how (by omega)) AJ ?_;refine Bb ?_;refine AX ?_;exact AM (by rw[hov]) AA.out
theorem Xj (a b:Nat)(hla:(Aa a).length<1000000)(hlb:(Aa b).length<1000000):AI C0 146 [rD a,rD b] (rD (a*b)):=by
 refine Ac.walk w1 wK rfl λF=>?_
 change AC C0 F none F _ ⟨Dd 0 [.sl false 1 ((Aa a).map Ab),.sl false 1 ((Aa b).map Ab)],[],0⟩ _;have va:=EZ a;have vb:=EZ b;have ha:=FM a;have hb:=FM b;generalize Aa a=x at*;generalize Aa b=y at*;subst va;subst vb;have ea:(((x.map Ab).length:Nat):Int)=(x.length:Int):=by rw[Al]
 have eb:(((y.map Ab).length:Nat):Int)=(y.length:Int):=by rw[Al]
 have wl:IntKind.i64.wrap ((x.length:Int)+(y.length:Int))=((x.length+y.length:Nat):Int):=by rw[wI];omega
 have r3:List.replicate (x.length+y.length) (ofV (.int .i64 0))=(List.replicate (x.length+y.length) 0).map Ab:=by rw[LD];rfl
 refine sR 0 ?_;refine sZ 100 ?_;refine AW (Bo ea eb wl kN) ?_;refine AC.seq ?_;refine sR 200 ?_;refine AC.block ?_;refine AC.loop (α:=Nat×List Nat×Nat) (λp=>⟨[(0,.sl false 1 (x.map Ab)),(1,.sl false 1 (y.map Ab)),(5,.osl 105 6 1 0 (x.length+y.length)),(6,i64 p.1)],[⟨105,6,3,1,p.2.1.map Ab⟩],p.2.2⟩) (λp=>x.length-p.1)
  (λp=>p.1<=x.length/\p.2.1.length=x.length+y.length/\Rd p.2.1/\AQ p.2.1=AQ (x.take p.1)*AQ y/\∀k,p.1+y.length<=k->∀d,p.2.1[k]?=some d->d=0) (0,List.replicate (x.length+y.length) 0,_)
  ⟨Bg _,by simp,Us _,by simp[AQ,Y0],λk _ d hd=>RF (A8 hd)⟩ (by rw[<-r3];exact AN) ?_
 rintro⟨i,o,m⟩ F ⟨h1,h2,h3,h4,h5⟩;dsimp only at h1 h2 h3 h4 h5⊢;refine AC.seq ?_;refine AC.seq ?_
 by_cases hi:i<x.length
 ·have e1:decide ((i:Int)<(x.length:Int))=true:=BV
  obtain⟨p,hp⟩:=Ca hi;have hp':=EB hp;have hpl:p<RB:=ha p (A8 hp);have wi:IntKind.i64.wrap ((i:Int)+1)=((i+1:Nat):Int):=wI;have hax:AQ (x.take (i+1))=AQ (x.take i)+RB^i*p:=by rw[F6 hp,Hy (i:=i) (by rw[Be];omega)]
  refine An 300 ?_;refine AW (Ae ea e1) ?_;refine AK ?_;refine Ag ?_;refine AC.seq ?_;refine AC.block ?_;refine sR 500 ?_;refine AC.seq ?_;refine sR 600 ?_;refine AC.block ?_;refine AC.loop (α:=Nat×Nat×List Nat×Nat) (λq=>⟨[(0,.sl false 1 (x.map Ab)),(1,.sl false 1 (y.map Ab)),(5,.osl 105 6 1 0 (x.length+y.length)),(6,i64 i),(7,Ab q.2.1),(8,i64 q.1)],[⟨105,6,3,1,q.2.2.1.map Ab⟩],q.2.2.2⟩) (λq=>y.length-q.1)
   (λq=>q.1<=y.length/\q.2.1<RB/\q.2.2.1.length=x.length+y.length/\Rd q.2.2.1/\AQ q.2.2.1+RB^(i+q.1)*q.2.1=AQ (x.take i)*AQ y+RB^i*p*AQ (y.take q.1)/\∀k,i+y.length<=k->∀d,q.2.2.1[k]?=some d->d=0) (0,0,o,_)
   ⟨Bg _,(show 0<RB by decide),h2,h3,by simp[AQ,h4],h5⟩ AN ?_
  rintro⟨j,c,q,m2⟩ F ⟨g1,g2,g3,g4,g5,g6⟩;dsimp only at g1 g2 g3 g4 g5 g6⊢;clear h2 h3 h4 h5 r3 wl;refine AC.seq ?_;refine AC.seq ?_
  by_cases hj:j<y.length
  ·have e2:decide ((j:Int)<(y.length:Int))=true:=BV
   obtain⟨r,hr⟩:=Ca hj;have hr':=EB hr;have hrl:r<RB:=hb r (A8 hr);obtain⟨z,hz⟩:=Ca (l:=q) (i:=i+j) (by omega);have hz':=EB hz;have hzl:z<RB:=g4 z (A8 hz);have wj:IntKind.i64.wrap ((j:Int)+1)=((j+1:Nat):Int):=wI;have wij:IntKind.i64.wrap ((i:Int)+(j:Int))=((i+j:Nat):Int):=by rw[wI];omega
   have hbx:AQ (y.take (j+1))=AQ (y.take j)+RB^j*r:=by rw[F6 hr,Hy (i:=j) (by rw[Be];omega)]
   have hpr:p*r<=999999999*999999999:=GK (by unfold RB at hpl;omega) (by unfold RB at hrl;omega);have k0:IntKind.i64.wrap ((p:Int)*(r:Int))=((p*r:Nat):Int):=by rw[<-FF,wI]
   have k1:IntKind.i64.wrap ((z:Int)+((p*r:Nat):Int))=((z+p*r:Nat):Int):=by rw[wI (by omega) (by unfold RB at*;omega)];omega
   have k2:IntKind.i64.wrap (((z+p*r:Nat):Int)+(c:Int))=((z+p*r+c:Nat):Int):=by rw[wI (by omega) (by unfold RB at*;omega)];omega
   have hs:=PZ (d:=(z+p*r+c)%RB) hz;have e:=FX (z+p*r+c) RB;have hq:(z+p*r+c)/RB<RB:=Fs (by unfold RB at*;omega);have hd:(z+p*r+c)%RB<RB:=CJ _ (by decide);have k3:((z+p*r+c:Nat):Int).tmod 1000000000=(((z+p*r+c)%RB:Nat):Int):=rfl;have k4:IntKind.i64.wrap (((z+p*r+c:Nat):Int).tdiv 1000000000)=(((z+p*r+c)/RB:Nat):Int):=by
    show IntKind.i64.wrap ((((z+p*r+c)/1000000000:Nat)):Int)=_;exact wN (by change(z+p*r+c)/RB<=_;unfold RB at hq⊢;omega)
   have hval:AQ (q.set (i+j) ((z+p*r+c)%RB))+RB^(i+(j+1))*((z+p*r+c)/RB)=AQ (x.take i)*AQ y+RB^i*p*AQ (y.take (j+1)):=by
    rw[hbx,BQ,<-FG (AQ (x.take i)*AQ y),<-g5];have h6:RB^(i+j)*((z+p*r+c)%RB)+RB^(i+(j+1))*((z+p*r+c)/RB)=RB^i*p*(RB^j*r)+RB^(i+j)*z+RB^(i+j)*c:=by
     have:RB^i*p*(RB^j*r)=RB^(i+j)*(p*r):=by
      rw[Gt,CE,CE,JX p]
     rw[this,<-FG i j 1,CT,CE,<-BQ,<-BQ,<-BQ,e]
     congr 1;omega
    omega
   generalize(z+p*r+c)%RB=d at*;generalize(z+p*r+c)/RB=c' at*;clear hs e g5 hax hbx;refine An 700 ?_;refine AW (Ae eb e2) ?_;refine AK ?_;refine Ag ?_;refine AC.seq ?_;refine AC.block ?_;refine AC.seq ?_;refine B0 900 [0,1,2,3,4,5,6,7,8,9,10,11,12,13,14,15,16] [17,18] ?_;refine AF (Bo wij kN BX hz') ?_;refine CN kT hp' ?_;refine AF (Bo wij kN BX hz') ?_;refine CN kT hr' ?_;refine AF (BG k0 k1 k2) ?_;refine sZ 1000 ?_;refine AF (Cw wij kN BX hz' k3) ?_;rw[Oh];refine An 1100 ?_;refine AW k4 ?_;refine An 800 ?_;refine AW wj ?_;refine⟨(j+1,c',q.set (i+j) d,_),⟨hj,hq,by dsimp only;rw[Dt];exact g3,g4.set hd,hval,λk hk d hd=>?_⟩,by dsimp only;omega,AN⟩;dsimp only at hk hd;rw[JR (by omega)]at hd;exact g6 k hk d hd
  ·have e2:decide ((j:Int)<(y.length:Int))=false:=BY
   have hj:j=y.length:=by omega
   subst hj;obtain⟨z,hz⟩:=Ca (l:=q) (i:=i+y.length) (by omega);have hz0:z=0:=g6 _ (Am _) _ hz;subst hz0;have hz':=EB hz;have wij:IntKind.i64.wrap ((i:Int)+(y.length:Int))=((i+y.length:Nat):Int):=by rw[wI];omega
   have wij0:IntKind.i64.wrap ((i:Int)+(((y.map Ab).length:Nat):Int))=((i+y.length:Nat):Int):=by rw[eb];exact wij
   have k1:IntKind.i64.wrap (((0:Nat):Int)+(c:Int))=(c:Int):=by rw[wI (by omega) (by unfold RB at*;omega)];omega
   have hs:=PZ (d:=c) hz;rw[Ci (Am _)]at g5;have hval:AQ (q.set (i+y.length) c)=AQ (x.take (i+1))*AQ y:=by
    rw[hax,B1];omega
   clear hs g5 hax;refine An 700 ?_;refine AW (Ae eb e2) ?_;refine AK ?_;refine CM ?_;refine An 1200 ?_;refine AF (Fd eb wij kN BX hz' k1) ?_;rw[Oh];refine An 400 ?_;refine AW wi ?_;refine⟨(i+1,q.set (i+y.length) c,_),⟨hi,by dsimp only;rw[Dt];exact g3,g4.set g2,hval,λk hk d hd=>?_⟩,by dsimp only;omega,AN⟩;dsimp only at hk hd;rw[JR (by omega)]at hd;exact g6 k (by omega) d hd
 ·have e1:decide ((i:Int)<(x.length:Int))=false:=BY
  have hi:i=x.length:=by omega
  subst hi;rw[Ci (Am _)]at h4;refine An 300 ?_;refine AW (Ae ea e1) ?_;refine AK ?_;refine CM ?_;refine AC.weak ⟨[(5,.sl false 1 (o.map Ab))],[],_⟩ (uf h2) ?_;refine sR 1300 ?_;refine BI.same _ (NK o h3 (by omega)) AJ ?_;refine Bb ?_;refine AX ?_;exact AM (by rw[h4]) AA.out
theorem Qp (a b:Nat)(h:a/b<=9223372036854775807):IntKind.i64.wrap ((a:Int).tdiv (b:Int))=((a/b:Nat):Int):=by
 rw[<-Int.ofNat_tdiv];exact wN h
theorem Th (a b:Nat):(a:Int).tmod (b:Int)=((a%b:Nat):Int):=(Int.ofNat_tmod a b).symm
theorem sP {env:As}{t K g n N t2:Nat}{z:List Nat}{T:Nat}{d2:D}(hl:z.length=N)(he:env.get t=.osl K g 1 0 N:=by exact rfl)(h2:env.get t2=d2:=by exact rfl):Wk ⟨env,[⟨K,g,T,1,z.map Ab⟩],n⟩ ⟨[(t,.sl false 1 (z.map Ab)),(t2,d2)],[],n⟩:=by
 subst hl;refine⟨.drop .nil,⟨?_,?_,trivial⟩,Am _⟩
 ·dsimp only
  rw[he]
  have:=S7 K g T 1 (z.map Ab)
  rwa [Al]at this
 ·dsimp only
  rw[h2];exact .refl _
theorem sB {r p d:Nat}(h:r*RB+p<d*RB)(hd:d<RB):IntKind.i64.wrap ((r:Int)*1000000000)=((r*RB:Nat):Int)/\IntKind.i64.wrap (((r*RB:Nat):Int)+(p:Int))=((r*RB+p:Nat):Int):=by
 unfold RB at*;refine⟨?_,?_⟩
 ·rw[wI];omega
 ·rw[wI];omega
theorem ZW (a d:Nat)(hd:0<d)(hdl:d<RB)(hl:(Aa a).length<1000000):AI C0 173 [rD a,Ab d] (.tup [rD (a/d),Ab (a%d)]):=by
 refine Ac.walk w1 xz rfl λF=>?_
 change AC C0 F none F _ ⟨Dd 0 [.sl false 1 ((Aa a).map Ab),Ab d],[],0⟩ _;have va:=EZ a;have wa:=FM a;generalize Aa a=x at*;have ea:(((x.map Ab).length:Nat):Int)=(x.length:Int):=by rw[Al]
 have wl:IntKind.i64.wrap ((x.length:Int)-1)=(x.length:Int)-1:=wI;have r3:List.replicate x.length (ofV (.int .i64 0))=(List.replicate x.length 0).map Ab:=by rw[LD];rfl
 have d0:¬(d:Int)=0:=by omega
 refine sR 0 ?_;refine sZ 100 ?_;refine AW (Ae ea kN) ?_;refine sR 200 ?_;refine AC.seq ?_;refine sZ 300 ?_;refine AW (Ae ea wl) ?_;refine AC.block ?_;refine AC.loop (α:=Nat×Nat×List Nat×Nat) (λp=>⟨[(0,.sl false 1 (x.map Ab)),(1,Ab d),(6,.osl 102 4 1 0 x.length),(7,Ab p.2.1),(8,i64 ((p.1:Int)-1))],[⟨102,4,3,1,p.2.2.1.map Ab⟩],p.2.2.2⟩) (λp=>p.1)
  (λp=>p.1<=x.length/\p.2.1<d/\p.2.2.1.length=x.length/\Rd p.2.2.1/\AQ (p.2.2.1.drop p.1)*d+p.2.1=AQ (x.drop p.1)) (x.length,0,List.replicate x.length 0,_)
  ⟨Am _,hd,by simp,Us _,by simp[AQ]⟩ (by rw[<-r3];exact AN) ?_
 rintro⟨k,r,q,m⟩ F ⟨h1,h2,h3,h4,h5⟩;dsimp only at h1 h2 h3 h4 h5⊢;clear ea wl r3;refine AC.seq ?_;refine sR 400 ?_;refine AK ?_
 (refine Bn (λh20=>?_) (λh20=>?_))<;>(try simp only[BZ,Bl]at h20)<;>(try simp only[h20])
 ·obtain⟨j,rfl⟩:∃j,k=j+1:=⟨k-1,by
   have:=DQ h20
   omega⟩
  have wj:((j+1:Nat):Int)-1=(j:Int):=by omega
  obtain⟨p,hp⟩:=Ca (l:=x) (i:=j) (by omega);obtain⟨z,hz⟩:=Ca (l:=q) (i:=j) (by omega);have hp':=EB hp;have hz':=EB hz;have hpl:=wa p (A8 hp);obtain⟨J1,J2⟩:=nM hd hp (by omega) h5;have hsb:r*RB+p<d*RB:=by
   have:(r+1)*RB<=d*RB:=CQ _ h2
   rw[B1]at this;omega
  have hql:(r*RB+p)/d<RB:=Fs hsb;obtain⟨k1,k2⟩:=sB hsb hdl;have k3:=Qp (r*RB+p) d (BP (KO hql) (by decide));have k4:=Th (r*RB+p) d;have wi:IntKind.i64.wrap ((j:Int)-1)=(j:Int)-1:=wI;generalize(r*RB+p)/d=e at*;generalize(r*RB+p)%d=r' at*;rw[wj];refine Ag ?_;refine AC.seq ?_;refine AC.block ?_;refine sZ 600 ?_;refine AF kN ?_;refine CN kT hp' ?_;refine AF (Ae k1 k2) ?_;refine sZ 700 ?_;refine AF (Bo kN BX hz' k3) ?_;rw[Oh];refine An 800 ?_;refine AW k4 ?_;refine An 500 ?_;refine AW wi ?_;exact⟨(j,r',q.set j e,_),⟨by dsimp only;omega,J2,by dsimp only;rw[Dt];exact h3,h4.set hql,J1⟩,by dsimp only;omega,AN⟩
 ·have hk:k=0:=by
   have:=Da h20
   omega
  subst hk;rw[Fr,Fr,va]at h5;obtain⟨q1,q2⟩:=Ry h5 h2;refine CM ?_;refine AC.weak ⟨[(6,.sl false 1 (q.map Ab)),(7,Ab r)],[],_⟩ (sP h3) ?_;refine sR 900 ?_;refine BI.same _ (NK q h4 (by omega)) AJ ?_;refine Bb ?_;refine AX ?_;exact AM (by rw[q1,q2]) AA.out
structure Ko (U V n2 v1 p1 q r:Nat):Prop where
 eq:q*v1+r=n2
 up:U<(q+1)*V
 cap:n2<=v1*RB+p1
 p1l:p1<RB
namespace Ko
variable {U V n2 v1 p1 q r:Nat} (G:Ko U V n2 v1 p1 q r)
include G
theorem small (h:RB<=r):q<RB:=by
 rcases BL q RB with h1|h1
 ·exact h1
 ·exfalso
  have h2:=CQ v1 h1;have h3:=G.eq;have h4:=G.cap;have h5:=G.p1l;rw[Bd RB v1]at h2;omega
theorem qle (hv:0<v1):q<=2*RB:=by
 rcases BL (2*RB) q with h1|h1
 ·exfalso
  have h2:=CQ v1 h1;have h3:=G.eq;have h4:=G.cap;have h5:=G.p1l;have h6:RB*1<=RB*v1:=Cj _ hv;rw[Nat.succ_mul,CE,Bd RB v1]at h2;rw[Bd RB v1]at h6;omega
 ·exact h1
end Ko
section
variable {P v:List Nat} {m p0 p1 p2 v2 v1:Nat} (S:L0 P v m p0 p1 p2 v2 v1)
include S
theorem mu:Ko (AQ P) (AQ v) (p1+RB*p2) v1 p1 ((p2*RB+p1)/v1) ((p2*RB+p1)%v1):=by
 have c0:p2*RB+p1=p1+RB*p2:=by rw[Bd,MY]
 rw[c0];have e:=Fq (p1+RB*p2) v1;have l:=CJ (p1+RB*p2) S.top;have c1:=Bd v1 ((p1+RB*p2)/v1);refine⟨by omega,ZG S.below2 S.abovev ?_,?_,S.p1l⟩
 ·rw[B1];omega
 ·have:=Cj RB S.p2v1
  rw[Bd v1];omega
theorem nX {q r:Nat}(G:Ko (AQ P) (AQ v) (p1+RB*p2) v1 p1 q r)(h:RB<=q\/r*RB+p0<q*v2):0<q/\Ko (AQ P) (AQ v) (p1+RB*p2) v1 p1 (q-1) (r+v1):=by
 obtain⟨e,u,cp,pl⟩:=G;have hq:0<q:=by
  rcases h with h|h
  ·unfold RB at h;omega
  ·rcases EC q with h0|h0
   ·subst h0;omega
   ·exact h0
 obtain⟨k,rfl⟩:∃k,q=k+1:=⟨q-1,by omega⟩
 refine⟨hq,⟨?_,?_,cp,pl⟩⟩
 ·rw[JW,<-e,B1];omega
 ·rw[JW]
  rcases h with h|h
  ·have h1:AQ v*RB<=(k+1)*AQ v:=by rw[Bd];exact CQ _ h
   have:=S.less
   omega
  ·have e2:(k+1)*(v2+RB*v1)=(k+1)*v2+RB*((k+1)*v1):=by rw[BQ,JX]
   refine Ze S.below3 S.abovev2 ?_;rw[e2,<-e,BQ RB,Bd RB r];omega
theorem ZH {q r:Nat}(G:Ko (AQ P) (AQ v) (p1+RB*p2) v1 p1 q r)(h:RB<=r\/(q<RB/\q*v2<=r*RB+p0)):q<RB/\q*AQ v<=AQ P+AQ v:=by
 have hqB:q<RB:=by
  rcases h with h|h
  ·exact G.small h
  ·exact h.1
 obtain⟨e,u,cp,pl⟩:=G;have h5:=S.v2l;have hq:q*v2<=r*RB+p0:=by
  rcases h with h|h
  ·have h2:q*v2<=RB*RB:=GK (by omega) (by omega)
   have h3:RB*RB<=r*RB:=CQ _ h;omega
  ·exact h.2
 have e2:q*(v2+RB*v1)=q*v2+RB*(q*v1):=by rw[BQ,JX]
 refine⟨hqB,Zt (n3:=p0+RB*(p1+RB*p2)) (D:=v2+RB*v1) (P:=RB^m) (B:=RB) (v:=AQ (v.take m)) ?_ ?_ S.lowv ?_ (by omega) ?_⟩
 ·rw[S.valP,Bd];omega
 ·rw[S.valv,Bd];omega
 ·rw[e2,<-e,BQ RB,Bd RB r]
  omega
 ·have:=S.top
  have h1:=Cj RB (show 1<=v1 from this);omega
end
theorem YM {H:Hp}{d0 d:D}(h:Fz H [] d0 d):Dw H d0 d:=λ_ _ _ _ m hO hN _ hv=>h.rep m hO (λe he b hb _=>hN e he b hb) hv
theorem e3I {C:BH}{f:Nat}{ds ds':List D}{Φ:D->Prop}{H:Hp}{n:Nat}(hc:Ac C f ds' Φ)(hl:ds'.length=ds.length)(hv:∀(i:Nat) (a b:D),ds[i]?=some a->ds'[i]?=some b->Dw H a b)
  (hp:AU ds') (hflat:∀d,Φ d->D9 d):C4 C f ds H n (λd' H' n'=>Φ d'/\H'=H/\n'=n+1):=by
 refine⟨hc.1,λF ρ w vs m hfr hg hvs hr=>?_⟩;have hH:C2 H [] H []:=by
  generalize H=H0
  have:∀H1:Hp,C2 H0 [] H1 []:=λH1=>by
   induction H1 with
   |nil=>exact .nil
   |cons e r ih=>exact .drop ih
  exact this H0
 obtain⟨m',hO,hN⟩:=hH.mem m;refine(hc.2 (AL F.X ρ []) w vs m.g (BP m.gn m.size) (λb hb=>m'.own_lt hb) (by omega) λi x hx=>?_).mono ?_
 ·have hi:i<ds'.length:=(BR.1 hx).1
  have hd0:ds[i]?=some ds[i]:=Ce;exact hp.out x (A8 hx) _ _ _ _ _ (hv i _ x hd0 hx C F ρ w m hO (λe he b hb=>hN e he b hb rfl) _ (hr i _ hd0))
 ·rintro e w' ⟨v,d',rfl,hb,hd',rep⟩
  have x:BW ρ (AL F.X ρ H) w ρ (AL F.X ρ H) w':=⟨hb.size,λ_ _ _ h=>h,λb hb' hO=>⟨hO,hb.block b hb'⟩,λb cs T fz hh=>⟨cs,_,by
   rw[hb.block b (DE.1 hh).1];exact hh,rfl⟩⟩
  exact⟨v,_,H,n+1,ρ,rfl,⟨hd',rfl,rfl⟩,m.same x hb.os hb.tape hb.output hb.block,x,λk g hg'=>hfr k g (by omega),λe he=>DP (hg e he),hflat _ hd' _ _ _ _ _ _ _ rep⟩
def aa (P v:List Nat)(d:D):Prop:=∃q,d=Ab q/\q<RB/\AQ P<(q+1)*AQ v/\q*AQ v<=AQ P+AQ v
theorem qW {p2 p1 v1:Nat}(h1:p1<RB)(h2:p2<RB):IntKind.i64.wrap ((p2:Int)*1000000000)=((p2*RB:Nat):Int)/\IntKind.i64.wrap (((p2*RB:Nat):Int)+(p1:Int))=((p2*RB+p1:Nat):Int) /\
  IntKind.i64.wrap (((p2*RB+p1:Nat):Int).tdiv (v1:Int))=(((p2*RB+p1)/v1:Nat):Int):=by
 have h3:=GH (p2*RB+p1) v1;unfold RB at*;refine⟨?_,?_,?_⟩
 ·rw[wI];omega
 ·rw[wI];omega
 ·exact Qp _ _ (by omega)
theorem oW {t r v2 p0:Nat}(ht:t<RB)(hr:r<RB)(h2:v2<RB)(h0:p0<RB):IntKind.i64.wrap ((t:Int)*(v2:Int))=((t*v2:Nat):Int)/\IntKind.i64.wrap ((r:Int)*1000000000)=((r*RB:Nat):Int) /\
  IntKind.i64.wrap (((r*RB:Nat):Int)+(p0:Int))=((r*RB+p0:Nat):Int):=by
 have h3:t*v2<=999999999*999999999:=GK (by unfold RB at ht;omega) (by unfold RB at h2;omega);unfold RB at*;refine⟨?_,?_,?_⟩
 ·rw[<-FF,wI]
 ·rw[wI];omega
 ·rw[wI];omega
theorem uX {t v2 r p0:Nat}(h:t<RB):decide (((t*v2:Nat):Int)>((r*RB+p0:Nat):Int))=decide (RB<=t\/r*RB+p0<t*v2):=
 ED.2 ⟨λh1=>.inr (Int.ofNat_lt.1 h1),λh1=>Int.ofNat_lt.2 (h1.resolve_left (Nat.not_le.2 h))⟩
theorem uZ {t v2 r p0:Nat}(h:¬(RB<=t\/r*RB+p0<t*v2)):t<RB/\t*v2<=r*RB+p0:=⟨Nat.lt_of_not_le λh1=>h (.inl h1),Nat.le_of_not_lt λh1=>h (.inr h1)⟩
theorem u6 {P v:List Nat}{m p0 p1 p2 v2 v1:Nat}(S:L0 P v m p0 p1 p2 v2 v1):∃a1 T q0 r0:Nat,IntKind.i64.wrap ((p2:Int)*1000000000)=(a1:Int)/\IntKind.i64.wrap ((a1:Int)+(p1:Int))=(T:Int) /\
  IntKind.i64.wrap ((T:Int).tdiv (v1:Int))=(q0:Int)/\(T:Int).tmod (v1:Int)=(r0:Int)/\Ko (AQ P) (AQ v) (p1+RB*p2) v1 p1 q0 r0/\r0<RB:=by
 obtain⟨k1,k2,k3⟩:=qW (v1:=v1) S.p1l S.p2l;exact⟨_,_,_,_,k1,k2,k3,Th _ v1,mu S,Gs (CJ _ S.top) S.v1l⟩
theorem sW {t r v2 p0:Nat}(ht:t<RB)(hr:r<RB)(h2:v2<RB)(h0:p0<RB):∃a1 a2 a3:Nat,IntKind.i64.wrap ((t:Int)*(v2:Int))=(a3:Int)/\IntKind.i64.wrap ((r:Int)*1000000000)=(a1:Int) /\
  IntKind.i64.wrap ((a1:Int)+(p0:Int))=(a2:Int)/\decide ((a3:Int)>(a2:Int))=decide (RB<=t\/r*RB+p0<t*v2):=by
 obtain⟨q1,q2,q3⟩:=oW ht hr h2 h0;exact⟨_,_,_,q1,q2,q3,uX ht⟩
theorem uN (U v:List Nat)(j m p0 p1 p2 v2 v1:Nat)(S:L0 ((U.drop j).take (m+3)) v m p0 p1 p2 v2 v1)(hj:j+(m+3)<=U.length)(hU:U.length<4000000):Ac C0 175 [rL U,rL v,Ab j] (aa ((U.drop j).take (m+3)) v):=by
 refine Ac.walk w1 yA rfl λF=>?_
 unfold rL;have hg:∀ {k p:Nat},((U.drop j).take (m+3))[k]?=some p->U[j+k]?=some p:=λ{k p} h=>by
  rw[FH]at h;split at h
  ·rwa [Gb]at h
  ·cases h
 have u0:=EB (hg S.h0);have u1:=EB (hg S.h1);have u2:=EB (hg S.h2);have y1:=EB S.g1;have y2:=EB S.g2;have l0:=S.p0l;have l1:=S.p1l;have l2:=S.p2l;have lv1:=S.v1l;have lv2:=S.v2l;have ev:(((v.map Ab).length:Nat):Int)=((m+2:Nat):Int):=by rw[Al,S.lv]
 have eu:(((U.map Ab).length:Nat):Int)=(U.length:Int):=by rw[Al]
 have w0:IntKind.i64.wrap ((j:Int)+((m+2:Nat):Int))=((j+(m+2):Nat):Int):=by rw[wI];omega
 have wa:IntKind.i64.wrap (((j+(m+2):Nat):Int)-1)=((j+(m+1):Nat):Int):=by rw[wI];omega
 have wb:IntKind.i64.wrap (((j+(m+2):Nat):Int)-2)=((j+m:Nat):Int):=by rw[wI];omega
 have wc:IntKind.i64.wrap (((m+2:Nat):Int)-1)=((m+1:Nat):Int):=by rw[wI];omega
 have wd:IntKind.i64.wrap (((m+2:Nat):Int)-2)=(m:Int):=by rw[wI];omega
 have ra:IntKind.i64.wrap (IntKind.i64.wrap ((j:Int)+((m+2:Nat):Int))-1)=((j+(m+1):Nat):Int):=by rw[w0,wa]
 have rb:IntKind.i64.wrap (IntKind.i64.wrap ((j:Int)+((m+2:Nat):Int))-2)=((j+m:Nat):Int):=by rw[w0,wb]
 obtain⟨a1,T,q0,r0,k1,k2,k3,k4,G0,hr0⟩:=u6 S;have v0:¬(v1:Int)=0:=by have:=S.top;omega
 have hvl:=S.lv;refine sR 0 ?_;refine sZ 100 ?_;refine AW ev ?_;refine AC.seq ?_;refine B0 200 [0,1,2,3,4,5,6,7,8,9,10,11,12,13] [14,15] ?_;refine AF (Bo w0 wa ra kN) ?_;refine CN kT u2 ?_;refine AF (Bo w0 wa ra kN) ?_;refine CN kT u1 ?_;refine AF (Fd w0 wa ra kN k1 k2) ?_;refine AC.seq ?_;refine B0 300 [0,1,2,3,4,5,6,7,8,9,10,11,12,13,14] [15] ?_;refine AF (Ae wc kN) ?_;refine CN kT y1 ?_;refine AF (Ae wc kN) ?_;refine CN kT y1 ?_;refine AF (Bo wc kN k3 k4) ?_;refine C9 (α:=Nat×Nat) (λp=>⟨[(9,Ab p.1)],[],p.2⟩) (λp=>p.1<RB/\AQ ((U.drop j).take (m+3))<(p.1+1)*AQ v/\p.1*AQ v<=AQ ((U.drop j).take (m+3))+AQ v) ?_ ?_
 ·refine AC.block ?_
  refine HJ (α:=Nat×Nat×Nat) (λp=>⟨[(0,.sl false 1 (U.map Ab)),(1,.sl false 1 (v.map Ab)),(2,Ab j),(7,i64 ((m+2:Nat):Int)),(9,Ab p.1),(10,Ab p.2.1)],[],p.2.2⟩) (λp=>p.1)
   (λp F'=>F'=F/\Ko (AQ ((U.drop j).take (m+3))) (AQ v) (p1+RB*p2) v1 p1 p.1 p.2.1/\p.2.1<RB) (q0,r0,_) ⟨rfl,G0,hr0⟩ AN ?_
  rintro⟨t,r,n⟩ F' ⟨rfl,G,hr⟩;dsimp only at G hr⊢;clear G0 hr0 k1 k2 k3 k4 u1 u2 ra wa;have htl:=G.qle S.top;obtain⟨b,hb⟩:∃b,b=decide (RB<=t\/r*RB+p0<t*v2):=⟨_,rfl⟩
  refine AC.seq ?_;refine C9 (α:=Nat) (λn=>⟨[(0,.sl false 1 (U.map Ab)),(1,.sl false 1 (v.map Ab)),(2,Ab j),(7,i64 ((m+2:Nat):Int)),(9,Ab t),(10,Ab r),(63,Av b)],[],n⟩) (λ_=>True) ?_ ?_
  ·rcases BL t RB with h|h
   ·have e1:decide ((t:Int)>=1000000000)=false:=Az (by unfold RB at h;omega)
    obtain⟨a1,a2,a3,q1,q2,q3,q4⟩:=sW h hr lv2 l0;rw[<-hb]at q4;clear hb;rw[<-q4];refine B0 400 [0,1,2,3,4,5,6,7,8,9,10,11,12,13,14,15,16,17,18,19] [20,21] ?_;refine AF e1 ?_;refine AF (BG kF wd kN) ?_;refine CN kF y2 ?_;refine AF (Cw kF w0 wb rb kN) ?_;refine CN kF u0 ?_;refine AF (Bo kF q1 q2 q3) ?_;refine AF kF ?_;exact⟨trivial,_,trivial,AN⟩
   ·have e1:decide ((t:Int)>=1000000000)=true:=Ax (by unfold RB at h;omega)
    have e2:b=true:=hb.trans (Ax (.inl h));subst e2;refine B0 400 [0,1,2,3,4,5,6,7,8,9,10,11,12,13,14,15,16,17,18,19] [20,21] ?_;refine AF e1 ?_;refine AF kT ?_;refine AF kT ?_;exact⟨trivial,_,trivial,AN⟩
  rintro n2 -;cases b with
  |true=>
   have hc:=DQ hb.symm;obtain⟨t0,G2⟩:=nX S G hc;have j1:IntKind.i64.wrap ((t:Int)-1)=((t-1:Nat):Int):=by rw[wI (by omega) (by unfold RB at htl;omega)];omega
   have j2:IntKind.i64.wrap ((r:Int)+(v1:Int))=((r+v1:Nat):Int):=by rw[wI (by omega) (by unfold RB at hr lv1;omega)];omega
   clear hc hb;refine AK ?_;refine Ag ?_;refine AC.block ?_;refine sZ 500 ?_;refine AW j1 ?_;refine sZ 600 ?_;refine AF (Ae wc kN) ?_;refine CN kT y1 ?_;refine AF j2 ?_;refine AC.seq ?_;rcases BL (r+v1) RB with h|h
   ·have e3:decide (((r+v1:Nat):Int)>=1000000000)=false:=Az (by unfold RB at h;omega)
    refine An 700 ?_;refine AW e3 ?_;refine AK ?_;refine Ag ?_;exact⟨(t-1,r+v1,_),⟨rfl,G2,h⟩,by dsimp only;omega,AN⟩
   ·have e3:decide (((r+v1:Nat):Int)>=1000000000)=true:=Ax (by unfold RB at h;omega)
    obtain⟨g1,g2⟩:=ZH S G2 (.inl h);refine An 700 ?_;refine AW e3 ?_;refine AK ?_;refine sR 800 ?_;refine AX ?_;exact⟨_,.refl _,AA.out,t-1,rfl,g1,G2.up,g2⟩
  |false=>
   have hc:=Da hb.symm;obtain⟨g1,g2⟩:=ZH S G (.inr (uZ hc));clear hc hb;refine AK ?_;refine CM ?_;exact⟨rfl,⟨t,_⟩,⟨g1,G.up,g2⟩,AN⟩
 rintro⟨q,n⟩ ⟨g1,g2,g3⟩;dsimp only at g1 g2 g3⊢;refine sR 900 ?_;refine AX ?_;exact⟨_,.refl _,AA.out,q,rfl,g1,g2,g3⟩
def QZ (k g k' n:Nat)(env:As):As->Prop
 | []=>True
 |(t,d)::r=>(d=env.get t\/∃sz i len,env.get t=.osl k g sz i len/\d=.osl k' n sz i len)/\QZ k g k' n env r
theorem QZ.get {k g k' n:Nat}{env:As}:∀ {env':As},QZ k g k' n env env'->∀t,env'.get t=.any\/env'.get t=env.get t\/∃sz i len,env.get t=.osl k g sz i len/\env'.get t=.osl k' n sz i len
 | [],_,t=>.inl rfl
 |(t0,d)::r,h,t=>by
  simp only[As.get];cases hb:Nat.beq t0 t with
  |true=>
   obtain rfl:=Bi hb;rcases h.1 with h1|h1
   ·exact .inr (.inl h1)
   ·exact .inr (.inr h1)
  |false=>exact QZ.get h.2 t
section
variable {C:BH} {B F:AZ} {rd:Option Nat} {Q:Exit->AZ->St->Prop}
theorem e3u {c:Code}{env:As}{k g k' T sz n:Nat}{es:List D}(env':As)(he:QZ k g k' n env env')(h:AC C B rd F c ⟨env',[⟨k',n,T,sz,es⟩],n+1⟩ Q):AC C B rd F c ⟨env,[⟨k,g,T,sz,es⟩],n⟩ Q:=by
 refine⟨λhB hd ρ a w hs=>?_⟩;obtain⟨ρ',hl,hk,hf⟩:∃ρ':Lk,(∀k1 g1 b,ρ k1 g1=some b->ρ' k1 g1=some b)/\ρ' k' n=ρ k g/\Jz ρ' (n+1):=by
  cases hb:ρ k g with
  |none=>exact⟨ρ,λ_ _ _ h=>h,hs.fresh _ _ (Am _),λk1 g1 h=>hs.fresh _ _ (Nat.le_of_succ_le h)⟩
  |some b=>exact⟨ρ.put k' n b,λk1 g1 b1 h1=>PD (hs.fresh _ _ (Am _)) h1,Ej _ _ _ _,λk1 g1 h1=>by
    unfold Lk.put;split
    ·rename_i hh;omega
    ·exact hs.fresh _ _ (Nat.le_of_succ_le h1)⟩
 have hO:AL F.X ρ' [⟨k',n,T,sz,es⟩]=AL F.X ρ [⟨k,g,T,sz,es⟩]:=funext λb=>propext (by simp[AL,hk])
 have x:BW ρ (AL F.X ρ [⟨k,g,T,sz,es⟩]) w ρ' (AL F.X ρ' [⟨k',n,T,sz,es⟩]) w:=⟨Am _,hl,λb _ hb=>⟨by rw[hO];exact hb,rfl⟩,λ_ cs _ _ h=>⟨cs,_,h,rfl⟩⟩
 refine h.out hB hd ρ' a w ⟨⟨⟨λe he'=>?_,by simp,λe he' b hb=>?_⟩,hs.mem.os,hs.mem.tape,hs.mem.output,hs.mem.size,hs.mem.blk,hs.mem.xlt,hs.mem.g0,hs.mem.gn,hs.mem.gw,λk1 g1 b h1=>hl _ _ _ (hs.mem.lnk _ _ _ h1),hs.mem.shp⟩,hf,λe he'=>?_,λt=>?_,hs.nt,hs.dfr⟩
 ·simp only[Aw,Ds,or_false]at he'
  subst he';rcases hs.mem.hok.ent ⟨k,g,T,sz,es⟩ (by simp)with⟨h1,h2⟩|⟨b,cs,h1,h2,h3⟩
  ·exact .inl ⟨h1,by rw[show ρ' k' n=ρ k g from hk];exact h2⟩
  ·refine .inr ⟨b,cs,hk.trans h1,h2,?_⟩
   have h4:=h3.mono x;exact⟨h4.len,h4.siz,h4.one,h4.rep⟩
 ·simp only[Aw,Ds,or_false]at he'
  subst he';exact hs.mem.hok.own ⟨k,g,T,sz,es⟩ (by simp) b (hk.symm.trans hb)
 ·simp only[Aw,Ds,or_false]at he'
  subst he';exact IU _
 ·have h0:=(hs.env t).mono x
  rcases he.get t with h1|h1|⟨sz',i,len,h1,h2⟩
  ·show AV _ _ _ (env'.get t) _
   rw[h1];exact .any _
  ·show AV _ _ _ (env'.get t) _
   rw[h1];exact h0
  ·show AV _ _ _ (env'.get t) _
   rw[h2];have h5:=hs.env t;change AV _ _ _ (env.get t) _ at h5;rw[h1]at h5;generalize a.tmps.getD t undef=v at*;cases h5 with
   |onil=>exact .onil _ _ _
   |osl hr hb hc hs' hm=>exact .osl (hk.trans hr) hb hc hs' hm
end
theorem e2k {b m y:Nat}(hl:(Aa b).length=m+1)(hy:(Aa b)[m]?=some y):∃f,f=1000000000/(y+1)/\0<f/\f<RB/\(Aa (b*f)).length=m+1:=by
 have hy0:=Rg b hl hy;have hyl:y<RB:=FM b y (A8 hy);have hf0:0<1000000000/(y+1):=Nat.div_pos (by unfold RB at hyl;omega) (by omega);have hf1:1000000000/(y+1)<RB:=It (by decide) (by omega);have hm:=Nat.div_mul_le_self 1000000000 (y+1);refine⟨_,rfl,hf0,hf1,?_⟩;generalize 1000000000/(y+1)=f at*;refine nP ?_ ?_
 ·exact BP (Ur hl) (Nat.le_mul_of_pos_right _ hf0)
 ·have h2:=W8 hl hy
  have h3:=G3 ((FM b).take m);rw[Be,hl,FW (by omega)]at h3;rw[EZ]at h2;have h4:b<RB^m*(y+1):=by rw[BQ,EQ];omega
  have h5:b*f<RB^m*(y+1)*f:=UG h4 hf0;have h6:RB^m*(y+1)*f=RB^m*(f*(y+1)):=by rw[CE,Bd (y+1)]
  have h7:RB^m*(f*(y+1))<=RB^m*RB:=Cj _ hm;rw[CT];omega
theorem nz {a b f:Nat}{U v:List Nat}{k lu lq:Nat}(hf:0<f)(hU:AQ U=a*f)(hv:AQ v=b*f)(wU:Rd U)(lU:U.length=lu){q:List Nat}(hq:q=List.replicate lq 0)(hk:lq<=k)
  (hab:a<RB^k*b):Na (a*f) v U q lu lq k:=by
 subst hq;refine⟨lU,Is,wU,Us _,?_,?_⟩
 ·rw[IR (by rw[Is];exact hk)]
  rw[show AQ []=0 from rfl,FJ,HP,BX,hU]
 ·rcases BL (AQ (U.drop k)) (AQ v)with h|h
  ·exact h
  ·exfalso
   have e0:AQ U=AQ (U.take k)+RB^(U.take k).length*AQ (U.drop k):=by
    conv=>lhs;rw[<-GL k U]
    rw[KW]
   have h3:a*f<RB^k*b*f:=UG hab hf;rw[CE,<-hv]at h3;rcases BL U.length k with hl|hl
   ·rw[IR (by omega)]at h
    rw[show AQ []=0 from rfl]at h;rw[Nat.le_zero.1 h,FJ]at h3;omega
   ·rw[Be,FW hl]at e0
    have:=Cj (RB^k) h
    omega
theorem qE {a b f:Nat}{v U q:List Nat}{lu lq:Nat}(hf:0<f)(I:Na (a*f) v U q lu lq 0)(hv:AQ v=b*f):AQ q=a/b/\AQ U=a%b*f:=by
 obtain⟨lU,lQ,wU,wq,val,less⟩:=I;simp only[Nq,IT,Fr]at val less;obtain⟨h1,h2⟩:=Ry val less;rw[hv,RN _ _ hf]at h1;rw[hv,RO]at h2;exact⟨h1,h2⟩
theorem vA {P V q N Pn c z W:Nat}(hI:N+q*V=Pn+W*c)(hP:P=Pn+W*z)(hc:c<=z)(hup:P<(q+1)*V):P/V=q/\P%V=N+W*(z-c):=by
 have e:W*z=W*c+W*(z-c):=by rw[<-BQ];congr 1;omega
 exact VU (N:=N+W*(z-c)) (by omega) hup
theorem vB {P V q N Pn N2 c c2 z W:Nat}(hI:N+q*V=Pn+W*c)(hP:P=Pn+W*z)(hz:z<c)(hN:N<W)(hdn:q*V<=P+V)(hN2:N2+W*c2=N+V)(hc2:c2<=1)(hN2l:N2<W)(hVW:V<W):
  0<q/\P/V=q-1/\P%V=N2/\(z:Int)-c+c2=0:=by
 obtain⟨e,rfl⟩:∃e,c=z+1+e:=⟨c-z-1,by omega⟩
 have h1:W*(z+1+e)=W*z+W+W*e:=by rw[BQ,BQ,EQ]
 have he:e=0:=by
  rcases EC e with h|h
  ·exact h
  ·have:=Cj W h
   omega
 subst he;rw[FJ]at h1;obtain⟨a1,a2,a3⟩:=aW (U:=P) (V:=V) (q:=q) (N:=N) (N3:=N2) (T:=W) (c:=c2) (by omega) hN hdn hN2 hc2 hN2l;refine⟨a1,a2,a3,?_⟩
 have:c2=1:=by
  rcases EC c2 with h|h
  ·exfalso
   subst h;rcases EC q with h0|h0
   ·subst h0;omega
   ·obtain⟨k,rfl⟩:∃k,q=k+1:=⟨q-1,by omega⟩
    rw[B1,IT]at hI hdn;omega
  ·omega
 subst this;omega
def blk (A N:List Nat)(top:Int)(Z:List Nat):List D:=A.map Ab++(N.map Ab++(i64 top::Z.map Ab))
theorem gc {A N Z:List Nat}{top:Int}{i z:Nat}(h:N[i]?=some z):(blk A N top Z)[A.length+i]?=some (Ab z):=by
 have hi:i<N.length:=(BR.1 h).1;unfold blk;rw[Ek (by rw[Al];omega),Al,MX,FZ (by rw[Al];exact hi)];exact EB h
theorem cZ {A N Z:List Nat}{top:Int}{i d:Nat}(h:i<N.length):(blk A N top Z).set (A.length+i) (Ab d)=blk A (N.set i d) top Z:=by
 unfold blk;rw[PG _ _ (by rw[Al];omega),Al,MX,List.set_append_left _ _ (by rw[Al];exact h),Oh]
theorem V8 {A N Z:List Nat}{top:Int}{n:Nat}(h:N.length=n):(blk A N top Z)[A.length+n]?=some (i64 top):=by
 unfold blk;rw[Ek (by rw[Al];omega),Al,MX,Ek (by rw[Al];omega),Al,h,Nat.sub_self];rfl
theorem aw {A N Z:List Nat}{top t:Int}{n:Nat}(h:N.length=n):(blk A N top Z).set (A.length+n) (i64 t)=blk A N t Z:=by
 unfold blk;rw[PG _ _ (by rw[Al];omega),Al,MX,PG _ _ (by rw[Al];omega),Al,h,Nat.sub_self];rfl
theorem V7 {A N Z:List Nat}{t:Nat}:blk A N (t:Int) Z=(A++((N++[t])++Z)).map Ab:=by
 unfold blk;simp[Du]
theorem sF {t x c z:Nat}(ht:t<RB)(hx:x<RB)(hc:c<=RB)(hz:z<RB):∃p lo hi x' d c':Nat,IntKind.i64.wrap ((t:Int)*(x:Int))=(p:Int)/\IntKind.i64.wrap ((p:Int)+(c:Int))=(x':Int)/\((x':Int)).tmod 1000000000=(lo:Int) /\
  IntKind.i64.wrap (((x':Int)).tdiv 1000000000)=(hi:Int)/\IntKind.i64.wrap ((z:Int)-(lo:Int))=(z:Int)-lo/\d<RB/\c'<=RB/\d+t*x+c=z+RB*c' /\
  ((c'=hi/\(z:Int)-lo=d)\/(c'=hi+1/\(z:Int)-lo<0/\IntKind.i64.wrap ((z:Int)-lo+1000000000)=d/\IntKind.i64.wrap ((hi:Int)+1)=((hi+1:Nat):Int))):=by
 have h3:t*x<=999999999*999999999:=GK (by unfold RB at ht;omega) (by unfold RB at hx;omega);have e:=FX (t*x+c) 1000000000;have l:=CJ (t*x+c) (show 1000000000>0 by decide);have k0:IntKind.i64.wrap ((t:Int)*(x:Int))=((t*x:Nat):Int):=by rw[<-FF,wI]
 unfold RB at*;have k1:IntKind.i64.wrap (((t*x:Nat):Int)+(c:Int))=((t*x+c:Nat):Int):=by rw[wI];omega
 have k2:((t*x+c:Nat):Int).tmod 1000000000=(((t*x+c)%1000000000:Nat):Int):=Th _ 1000000000;have k3:IntKind.i64.wrap (((t*x+c:Nat):Int).tdiv 1000000000)=(((t*x+c)/1000000000:Nat):Int):=Qp _ 1000000000 (by omega);generalize t*x=p at*;generalize(p+c)%1000000000=lo at*;generalize(p+c)/1000000000=hi at*;rcases BL z lo with h|h
 ·exact⟨_,_,_,_,z+1000000000-lo,hi+1,k0,k1,k2,k3,wI,by omega,by omega,by omega,.inr ⟨rfl,by omega,by rw[wI];omega,by rw[wI];omega⟩⟩
 ·exact⟨_,_,_,_,z-lo,hi,k0,k1,k2,k3,wI,by omega,by omega,by omega,.inl ⟨rfl,by omega⟩⟩
theorem sA {z x c:Nat}(hz:z<RB)(hx:x<RB)(hc:c<=1):∃p s d c':Nat,IntKind.i64.wrap ((z:Int)+(x:Int))=(p:Int)/\IntKind.i64.wrap ((p:Int)+(c:Int))=(s:Int)/\((s:Int)).tmod 1000000000=(d:Int) /\
  IntKind.i64.wrap (((s:Int)).tdiv 1000000000)=(c':Int)/\d<RB/\c'<=1/\d=(z+x+c)%RB/\c'=(z+x+c)/RB:=by
 have e:=FX (z+x+c) 1000000000;have l:=CJ (z+x+c) (show 1000000000>0 by decide);unfold RB at*;have k0:IntKind.i64.wrap ((z:Int)+(x:Int))=((z+x:Nat):Int):=by rw[wI];omega
 have k1:IntKind.i64.wrap (((z+x:Nat):Int)+(c:Int))=((z+x+c:Nat):Int):=by rw[wI];omega
 have k2:((z+x+c:Nat):Int).tmod 1000000000=(((z+x+c)%1000000000:Nat):Int):=Th _ 1000000000;have k3:IntKind.i64.wrap (((z+x+c:Nat):Int).tdiv 1000000000)=(((z+x+c)/1000000000:Nat):Int):=Qp _ 1000000000 (by omega);exact⟨_,_,_,_,k0,k1,k2,k3,l,by omega,rfl,rfl⟩
set_option maxHeartbeats 2000000
theorem uq:rD 0=.sl false 1 []:=by unfold rD;rw[HU];rfl
theorem WU {H:Hp}{K g T:Nat}{l:List Nat}{N:Nat}(hl:l.length=N)(he:Hp.get H K=some ⟨K,g,T,1,l.map Ab⟩:=by exact rfl):Fz H [] (.osl K g 1 0 N) (.sl false 1 (l.map Ab)):=by
 subst hl;have key:∀(j:Nat) (d d':D),(l.map Ab)[0+j]?=some d->(l.map Ab)[j]?=some d'->d=d':=λj d d' h1 h2=>by
  rw[BX]at h1;rw[h1]at h2;exact GJ h2
 refine .osl (e:=⟨K,g,T,1,l.map Ab⟩) he rfl rfl rfl (by simp) (by simp) (λj d d' h1 h2=>by rw[key j d d' h1 h2]) λj d d' q c c' h1 h2 h3 h4=>?_
 rw[key j d d' h1 h2]at h3;rw[h3]at h4;cases h4;exact Fz.refl _
theorem qG (a b:Nat)(hab:a<b)(ha:(Aa a).length<1000000)(hb:(Aa b).length<1000000):AI C0 123 [rD a,rD b] (.tup [rD (a/b),rD (a%b)]):=by
 rw[Iw hab,GG hab,uq];refine Ac.walk w1 Wm rfl λF=>?_
 have cc:=Tb a b (by omega) (by omega);have e1:=cq hab;refine sR 0 ?_;refine AC.seq ?_;refine sR 100 ?_;refine cI cc ?_;rw[e1];refine AK ?_;refine sR 200 ?_;refine AX ?_;exact⟨_,jG (.nil 1) (.refl _),bt (.sl λe he=>by cases he) (P6 _),rfl⟩
theorem sC (a b:Nat)(hab:b<=a)(ha:(Aa a).length<1000000)(hb:(Aa b).length=1)(hb0:b≠0):AI C0 123 [rD a,rD b] (.tup [rD (a/b),rD (a%b)]):=by
 have cc:=Tb a b (by omega) (by omega);have e1:=SZ hab;have hbl:b<RB:=by
  have:=Jl b
  rw[hb,Nat.pow_one]at this;exact this
 have hlb:(Aa b)[0]?=some b:=by rw[Rf hb0 hbl];rfl
 have hb':=EB hlb;have cd:=ZW a b (ER hb0) hbl ha;have e3:(((((Aa b).map Ab).length:Nat):Int)==1)=true:=by rw[Al,hb];rfl
 have hml:a%b<RB:=Gs (CJ _ (ER hb0)) hbl;have hv:AQ [a%b]=a%b:=by simp[AQ]
 refine Ac.walk w1 Wm rfl λF=>?_
 generalize a/b=q at*;generalize a%b=r at*;unfold rD rL at cc cd⊢;change AC C0 F none F _ _ (TY X1.tt _ (· = .tup [rD q,rD r]));generalize Aa a=la at*;generalize Aa b=lb at*;refine sR 0 ?_;refine AC.seq ?_;refine sR 100 ?_;refine cI cc ?_;rw[e1];refine AK ?_;refine Ag ?_;refine AC.seq ?_;refine sZ 300 ?_;refine AW e3 ?_;refine AK ?_;refine sZ 400 ?_;refine AF kN ?_;refine CN kT hb' ?_;refine AF kN ?_;refine BI.same _ cd AJ ?_;refine Bb ?_;refine sR 500 ?_;have hrl:Rd [r]:=λa ha=>by
  simp only[Aw,Ds,or_false]at ha;subst ha;exact hml
 refine BI.pure [rL [r]] _ ⟨.nn true 1 _,trivial⟩ (NK [r] hrl (by simp)) AJ ?_;refine Bb ?_;refine AX ?_;exact AM (by rw[hv];rfl) AA.out
theorem e1D {H:Hp}{d1 d2 d3 e1 e2 e3:D}(h1:Dw H d1 e1)(h2:Dw H d2 e2)(h3:Dw H d3 e3):∀(i:Nat) (a b:D),[d1,d2,d3][i]?=some a->[e1,e2,e3][i]?=some b->Dw H a b
 | 0,_,_,ha,hb=>by cases ha;cases hb;exact h1
 | 1,_,_,ha,hb=>by cases ha;cases hb;exact h2
 | 2,_,_,ha,hb=>by cases ha;cases hb;exact h3
 |_+3,_,_,ha,_=>by cases ha
theorem oO {P v:List Nat}(d:D)(h:aa P v d):D9 d:=by
 obtain⟨q,rfl,_⟩:=h;exact D9.prim _
theorem vC {v N Pn:List Nat}{t i c z x:Nat}(hz:N[i]?=some z)(hx:v[i]?=some x)(ht:t<RB)(hxl:x<RB)(hc:c<=RB)(hzl:z<RB)(hI:AQ N+t*AQ (v.take i)=AQ Pn+RB^i*c):
  ∃(p x' lo hi d c':Nat) (e:Int),IntKind.i64.wrap ((t:Int)*(x:Int))=(p:Int)/\IntKind.i64.wrap ((p:Int)+(c:Int))=(x':Int)/\((x':Int)).tmod 1000000000=(lo:Int) /\
  IntKind.i64.wrap (((x':Int)).tdiv 1000000000)=(hi:Int)/\IntKind.i64.wrap ((z:Int)-(lo:Int))=e/\d<RB/\c'<=RB/\AQ (N.set i d)+t*AQ (v.take (i+1))=AQ Pn+RB^(i+1)*c' /\
  ((decide (e<0)=false/\e=(d:Int)/\hi=c')\/(decide (e<0)=true/\IntKind.i64.wrap (e+1000000000)=(d:Int)/\IntKind.i64.wrap ((hi:Int)+1)=(c':Int))):=by
 obtain⟨p,lo,hi,x',d,c',k1,k2,k3,k4,k5,k6,k7,k8,k9⟩:=sF ht hxl hc hzl;have J:=mc (b:=0) (c':=0) (lo:=t*x+c) (b':=c') (d:=d) (A:=N) (P:=Pn) (v:=v) (q:=t) hz hx hI rfl (by rw[<-k8];exact FG d (t*x) c ▸ rfl);refine⟨p,x',lo,hi,d,c',_,k1,k2,k3,k4,k5,k6,k7,by rw[J,BX],?_⟩;rcases k9 with⟨h1,h2⟩|⟨h1,h2,h3,h4⟩
 ·exact .inl ⟨Az (by rw[h2];exact Int.not_lt.2 (Int.natCast_nonneg d)),h2,h1.symm⟩
 ·exact .inr ⟨Ax h2,h3,by rw[h1];exact h4⟩
theorem ut {v N Nb:List Nat}{i c z x:Nat}(hz:N[i]?=some z)(hx:v[i]?=some x)(hxl:x<RB)(hc:c<=1)(hzl:z<RB)(hI:AQ N+RB^i*c=AQ Nb+AQ (v.take i)):
  ∃(p s d c':Nat),IntKind.i64.wrap ((z:Int)+(x:Int))=(p:Int)/\IntKind.i64.wrap ((p:Int)+(c:Int))=(s:Int)/\((s:Int)).tmod 1000000000=(d:Int) /\
  IntKind.i64.wrap (((s:Int)).tdiv 1000000000)=(c':Int)/\d<RB/\c'<=1/\AQ (N.set i d)+RB^(i+1)*c'=AQ Nb+AQ (v.take (i+1)):=by
 obtain⟨p,s,d,c',k1,k2,k3,k4,k5,k6,rfl,rfl⟩:=sA hzl hxl hc;exact⟨p,s,_,_,k1,k2,k3,k4,k5,k6,m9 hz hx hI⟩
theorem nr {U:List Nat}{k:Nat}(h:AQ U<RB^k)(hk:k<=U.length):AQ (U.take k)=AQ U:=by
 have e:AQ U=AQ (U.take k)+RB^k*AQ (U.drop k):=by
  conv=>lhs;rw[<-GL k U]
  rw[KW,Be,FW hk]
 rcases EC (AQ (U.drop k))with h0|h0
 ·rw[h0,FJ,Dm]at e;exact e.symm
 ·exfalso
  have:=Cj (RB^k) h0
  omega
theorem nq {P v:List Nat}{m p0 p1 p2 v2 v1:Nat}(S:L0 P v m p0 p1 p2 v2 v1):∃Pn,P=Pn++[p2]/\Pn.length=m+2/\Rd Pn/\AQ P=AQ Pn+RB^(m+2)*p2:=by
 have hl:=S.lP;have e:P=P.take (m+2)++[p2]:=by
  rw[<-F6 S.h2,Gx]
 have hn:(P.take (m+2)).length=m+2:=by rw[Be];omega
 refine⟨P.take (m+2),e,hn,S.wP.take _,?_⟩
 conv=>lhs;rw[e]
 rw[Hy hn]
theorem jK {P N:List Nat}{m z V:Nat}(hl:N.length=m+2)(hN:Rd N)(hz:z<RB)(hv:AQ N+RB^(m+2)*z=AQ P%V):(N++[z]).length=m+3/\Rd (N++[z])/\AQ (N++[z])=AQ P%V:=by
 refine⟨by rw[Bz,hl];rfl,Rd.append hN λa ha=>?_,by rw[Hy hl,hv]⟩;simp only[Aw,Ds,or_false]at ha;subst ha;exact hz
set_option maxHeartbeats 4000000
theorem qH (a b m:Nat)(hab:b<=a)(ha:(Aa a).length<1000000)(hb:(Aa b).length=m+2):AI C0 123 [rD a,rD b] (.tup [rD (a/b),rD (a%b)]):=by
 have hlen:=Ji b a hab;have cc:=Tb a b (by omega) (by omega);have e1:=SZ hab;obtain⟨y,hy⟩:=Ca (l:=Aa b) (i:=m+1) (by omega);have yl:y<RB:=FM b y (A8 hy);obtain⟨f,ef,f0,fl,hvl⟩:=e2k hb hy;have wf:IntKind.i64.wrap ((1000000000:Int).tdiv ((y+1:Nat):Int))=(f:Int):=by
  rw[ef];exact Qp 1000000000 (y+1) (BP (GH _ _) (by decide))
 have wy:IntKind.i64.wrap ((y:Int)+1)=((y+1:Nat):Int):=wI (by omega) (by unfold RB at yl;omega);have lf:Aa f=[f]:=Rf (Nat.pos_iff_ne_zero.1 f0) fl;have cv:=Xj b f (by omega) (by rw[lf];exact(by decide:1<1000000));have cu:=Xj a f (by omega) (by rw[lf];exact(by decide:1<1000000));have hu1:=Uo a f;have hu2:=Ji a (a*f) (Nat.le_mul_of_pos_right _ f0);rw[lf]at hu1;change _<=_+1 at hu1;obtain⟨v,hv⟩:∃v,v=Aa (b*f):=⟨_,rfl⟩
 have wv:Rd v:=by rw[hv];exact FM _
 have vv:AQ v=b*f:=by rw[hv];exact EZ _
 rw[<-hv]at hvl;obtain⟨U0,hU0⟩:∃U0,U0=Aa (a*f):=⟨_,rfl⟩
 have wU0:Rd U0:=by rw[hU0];exact FM _
 have vU0:AQ U0=a*f:=by rw[hU0];exact EZ _
 rw[<-hU0]at hu1 hu2;obtain⟨v1,h1⟩:=Ca (l:=v) (i:=m+1) (by omega);obtain⟨v2,h2⟩:=Ca (l:=v) (i:=m) (by omega);have v10:v1≠0:=Rg (b*f) (by rw[<-hv];exact hvl) (by rw[<-hv];exact h1);have b0:0<b:=by
  refine ER λh=>?_
  subst h;rw[HU]at hb;cases hb
 have vpos:0<AQ v:=by rw[vv];exact HQ b0 f0
 have hup:=Jl a;have hbge:=Ur hb;unfold rD rL at cc cv cu;rw[lf,<-hv]at cv;rw[lf,<-hU0]at cu;refine Ac.walk w1 Wm rfl λF=>?_
 change AC C0 F none F _ ⟨Dd 0 [.sl false 1 ((Aa a).map Ab),.sl false 1 ((Aa b).map Ab)],[],0⟩ _;generalize Aa a=la at*;generalize Aa b=lb at*;obtain⟨lq,hlq⟩:∃lq,la.length=lq+(m+2):=⟨la.length-(m+2),by omega⟩
 have hy':=EB hy;have e3:((((lb.map Ab).length:Nat):Int)==1)=false:=by rw[Al,hb];exact B8.2 (by omega)
 have elb:(((lb.map Ab).length:Nat):Int)=((m+2:Nat):Int):=by rw[Al,hb]
 have wlb0:IntKind.i64.wrap (((m+2:Nat):Int)-1)=((m+1:Nat):Int):=by rw[wI];omega
 have wlb:IntKind.i64.wrap ((((lb.map Ab).length:Nat):Int)-1)=((m+1:Nat):Int):=by rw[elb];exact wlb0
 have ea:(((la.map Ab).length:Nat):Int)=(la.length:Int):=by rw[Al]
 have ev:(((v.map Ab).length:Nat):Int)=((m+2:Nat):Int):=by rw[Al,hvl]
 have eu:(((U0.map Ab).length:Nat):Int)=(U0.length:Int):=by rw[Al]
 have wa1:IntKind.i64.wrap ((la.length:Int)+1)=((la.length+1:Nat):Int):=wI;have wq0:IntKind.i64.wrap (((la.length+1:Nat):Int)-((m+2:Nat):Int))=((lq+1:Nat):Int):=by rw[wI];omega
 have wq1:IntKind.i64.wrap (((lq+1:Nat):Int)-1)=((lq+1:Nat):Int)-1:=wI;have wraw:IntKind.i64.wrap (IntKind.i64.wrap (((la.length+1:Nat):Int)-((m+2:Nat):Int))-1)=((lq+1:Nat):Int)-1:=by rw[wq0,wq1]
 have r3:List.replicate (lq+1) (ofV (.int .i64 0))=(List.replicate (lq+1) 0).map Ab:=by rw[LD];rfl
 refine sR 0 ?_;refine AC.seq ?_;refine sR 100 ?_;refine cI cc ?_;rw[e1];refine AK ?_;refine Ag ?_;refine AC.seq ?_;refine sZ 300 ?_;refine AW e3 ?_;refine AK ?_;refine Ag ?_;refine sZ 600 ?_;refine AF (Bo wlb elb wlb0 kN) ?_;refine CN kT hy' ?_;refine AF (BG wy wf kN) ?_;refine sR 700 ?_;refine BI.pure [rL lb,rL [f]] _ ⟨.refl _,.nn true 1 _,trivial⟩ cv AJ ?_;refine Bb ?_;refine sZ 800 ?_;refine AW ev ?_;clear cc e1 e3 elb wlb wlb0 hy' yl hy wy wf hb;refine C9 (α:=Nat×Nat) (λp=>⟨[(0,.sl false 1 (la.map Ab)),(8,.sl true 1 [Ab f]),(9,.sl false 1 (v.map Ab)),(10,i64 ((m+2:Nat):Int)),(11,.osl 904 p.1 1 0 U0.length)],[⟨904,p.1,3,1,U0.map Ab⟩],p.2⟩) (λ_=>True) ?_ ?_
 ·refine rI 900 ?_
  refine BI.pure [rL la,rL [f]] _ ⟨.refl _,.nn true 1 _,trivial⟩ cu AJ ?_;refine Bb ?_;exact⟨rfl,⟨_,_⟩,trivial,AN⟩
 rintro⟨g,n2⟩ -;dsimp only;refine C9 (α:=Nat×Nat×List Nat×Nat) (λp=>⟨[(0,.sl false 1 (la.map Ab)),(8,.sl true 1 [Ab f]),(9,.sl false 1 (v.map Ab)),(10,i64 ((m+2:Nat):Int)),(11,.osl p.1 p.2.1 1 0 (la.length+1))],[⟨p.1,p.2.1,3,1,p.2.2.1.map Ab⟩],p.2.2.2⟩) (λp=>p.2.2.1.length=la.length+1/\Rd p.2.2.1/\AQ p.2.2.1=a*f) ?_ ?_
 ·refine AC.block ?_
  rcases Nat.eq_or_lt_of_le hu1 with hl|hl
  ·have eN:decide (((la.length+1:Nat):Int)<((la.length+1:Nat):Int))=false:=BY
   rw[hl];refine HJ (α:=Nat) (λn=>⟨[(0,.sl false 1 (la.map Ab)),(8,.sl true 1 [Ab f]),(9,.sl false 1 (v.map Ab)),(10,i64 ((m+2:Nat):Int)),(11,.osl 904 g 1 0 (la.length+1))],[⟨904,g,3,1,U0.map Ab⟩],n⟩) (λ_=>0) (λ_ F'=>F'=F) n2 rfl AN ?_;rintro n3 F' rfl;refine AC.seq ?_;refine sZ 1000 ?_;refine AW (BG ea wa1 eN) ?_;refine AK ?_;refine CM ?_;exact⟨rfl,⟨904,g,U0,_⟩,⟨hl,wU0,vU0⟩,AN⟩
  ·have hl2:U0.length=la.length:=by omega
   have eN:decide (((la.length+1:Nat):Int)<((la.length+1:Nat):Int))=false:=BY;have eY:decide ((la.length:Int)<((la.length+1:Nat):Int))=true:=BV;have hap:List.take la.length (U0.map Ab)++[D.prim (Value.int IntKind.i64 0)]=(U0++[0]).map Ab:=by
    rw[Ci (by rw[Al];omega),Du];rfl
   rw[hl2];refine HJ (α:=Bool×Nat×Nat) (λp=>match p with
    |(false,_,n)=>⟨[(0,.sl false 1 (la.map Ab)),(8,.sl true 1 [Ab f]),(9,.sl false 1 (v.map Ab)),(10,i64 ((m+2:Nat):Int)),(11,.osl 904 g 1 0 la.length)],[⟨904,g,3,1,U0.map Ab⟩],n⟩
    |(true,g1,n)=>⟨[(0,.sl false 1 (la.map Ab)),(8,.sl true 1 [Ab f]),(9,.sl false 1 (v.map Ab)),(10,i64 ((m+2:Nat):Int)),(11,.osl 1102 g1 1 0 (la.length+1))],[⟨1102,g1,3,1,(U0++[0]).map Ab⟩],n⟩) (λp=>cond p.1 0 1) (λ_ F'=>F'=F) (false,0,n2) rfl AN ?_
   rintro⟨_|_,g1,n3⟩ F' rfl
   ·dsimp only
    refine AC.seq ?_;refine sZ 1000 ?_;refine AW (BG ea wa1 eY) ?_;refine AK ?_;refine Ag ?_;refine AC.block ?_;refine rI 1100 ?_;refine⟨(true,n3+8,n3+10),rfl,(by decide:(0:Nat)<1),?_⟩;dsimp only;rw[hap];exact AN
   ·dsimp only
    refine AC.seq ?_;refine sZ 1000 ?_;refine AW (BG ea wa1 eN) ?_;refine AK ?_;refine CM ?_;refine⟨rfl,⟨1102,g1,U0++[0],_⟩,⟨by rw[Bz,hl2];rfl,Rd.append wU0 λa ha=>?_,by rw[WD];exact vU0⟩,AN⟩;simp only[Aw,Ds,or_false]at ha;subst ha;decide
 rintro⟨K,gK,U1,n3⟩ ⟨lU1,wU1,vU1⟩;dsimp only at lU1 wU1 vU1⊢;refine e3u [(8,.sl true 1 [Ab f]),(9,.sl false 1 (v.map Ab)),(10,i64 ((m+2:Nat):Int)),(11,.osl 1102 n3 1 0 (la.length+1))] ⟨.inl rfl,.inl rfl,.inl rfl,.inr ⟨_,_,_,rfl,rfl⟩,trivial⟩ ?_;clear cu hU0 vU0 wU0 hu1 hu2 cv;refine C9 (α:=Nat×Nat) (λp=>⟨[(8,.sl true 1 [Ab f]),(9,.sl false 1 (v.map Ab)),(10,i64 ((m+2:Nat):Int)),(11,.osl 1102 n3 1 0 (la.length+1)),(12,.osl 1204 p.1 1 0 (lq+1))],[⟨1204,p.1,3,1,(List.replicate (lq+1) 0).map Ab⟩,⟨1102,n3,3,1,U1.map Ab⟩],p.2⟩) (λ_=>True) ?_ ?_
 ·refine An 1200 ?_
  refine AW (BG wq0 kN r3) ?_;exact⟨trivial,⟨_,_⟩,trivial,by rw[<-r3];exact AN⟩
 rintro⟨g,n2⟩ -;dsimp only;have I0:Na (a*f) v U1 (List.replicate (lq+1) 0) (la.length+1) (lq+1) (lq+1):=by
  refine nz f0 vU1 vv wU1 lU1 rfl (Am _) ?_
  have:RB^(lq+1)*RB^(m+1)<=RB^(lq+1)*b:=Cj _ hbge
  rw[<-Gt,show lq+1+(m+1)=la.length by omega]at this;omega
 clear hup hbge;refine AC.seq ?_;refine sZ 1300 ?_;refine AW wraw ?_;refine AC.block ?_;refine AC.loop (α:=Nat×List Nat×List Nat×Nat) (λp=>⟨[(8,.sl true 1 [Ab f]),(9,.sl false 1 (v.map Ab)),(10,i64 ((m+2:Nat):Int)),(11,.osl 1102 n3 1 0 (la.length+1)),(12,.osl 1204 g 1 0 (lq+1)),(13,i64 ((p.1:Int)-1))],[⟨1204,g,3,1,p.2.2.1.map Ab⟩,⟨1102,n3,3,1,p.2.1.map Ab⟩],p.2.2.2⟩) (λp=>p.1)
  (λp=>p.1<=lq+1/\Na (a*f) v p.2.1 p.2.2.1 (la.length+1) (lq+1) p.1) (lq+1,U1,List.replicate (lq+1) 0,_) ⟨Am _,I0⟩ AN ?_
 rintro⟨k,u,q,n4⟩ F ⟨hk,I⟩;dsimp only at hk I⊢;clear I0 wq0 wq1 wraw r3 ea eu wU1 vU1 lU1;refine AC.seq ?_;refine sR 1400 ?_;refine AK ?_
 (refine Bn (λh20=>?_) (λh20=>?_))<;>(try simp only[BZ,Bl]at h20)<;>(try simp only[h20])
 ·obtain⟨j,rfl⟩:∃j,k=j+1:=⟨k-1,by
   have:(k:Int)-1>=0:=by simpa using h20
   omega⟩
  have wj:((j+1:Nat):Int)-1=(j:Int):=by omega
  obtain⟨p0,p1,p2,SI,hz,hP⟩:=no I hvl wv v1 v2 h2 h1 (ER v10) (by omega);have lu:=I.lU;have cg:=uN u v j m p0 p1 p2 v2 v1 SI (by omega) (by omega);rw[wj];refine Ag ?_;refine AC.seq ?_;refine AC.block ?_;refine sR 1600 ?_;refine BI.own _ (e3I cg rfl (e1D (YM (WU lu)) (YM (.refl _)) (YM (.refl _))) AJ oO) ?_;rintro d H' n5 ⟨⟨t,rfl,ht1,ht2,ht3⟩,rfl,rfl⟩;refine Bb ?_;obtain⟨Pn,eP,lPn,wPn,vPn⟩:=nq SI;have hA:(u.take j).length=j:=by rw[Be];omega
  have p2l:=SI.p2l;have hdl:AQ ((u.drop j).take (m+3))/AQ v<RB:=Fs SI.less;have hU:u.map Ab=blk (u.take j) Pn (p2:Int) (u.drop (j+(m+3))):=by rw[V7,<-eP,<-lC]
  have J:=λP' h1 h2 h3=>nm (P':=P') I vpos (by omega) (by omega) hz hP h1 h2 h3 hdl
  obtain⟨zq,hzq⟩:=Ca (l:=q) (i:=j) (by rw[I.lQ];omega);have hzq':=EB hzq;have wi':IntKind.i64.wrap ((j:Int)-1)=(j:Int)-1:=wI;have wjn:IntKind.i64.wrap ((j:Int)+((m+2:Nat):Int))=((j+(m+2):Nat):Int):=by rw[wI];omega
  have hVW:=G3 wv;rw[show v.length=m+2 from hvl]at hVW;rw[hU];clear hU cg hP hz SI eP h20 wj I h1 h2 v10;generalize(u.drop j).take (m+3)=P at*;generalize u.take j=A at*;generalize u.drop (j+(m+3))=Z at*;refine sR 1700 ?_;refine AC.seq ?_;refine sR 1800 ?_;refine AC.block ?_;refine AC.loop (α:=Nat×Nat×List Nat×Nat) (λp=>⟨[(8,.sl true 1 [Ab f]),(9,.sl false 1 (v.map Ab)),(10,i64 ((m+2:Nat):Int)),(11,.osl 1102 n3 1 0 (la.length+1)),(12,.osl 1204 g 1 0 (lq+1)),(13,i64 (j:Int)),(14,Ab t),(15,Ab p.2.1),(16,i64 p.1)],[⟨1204,g,3,1,q.map Ab⟩,⟨1102,n3,3,1,blk A p.2.2.1 (p2:Int) Z⟩],p.2.2.2⟩) (λp=>m+2-p.1)
   (λp=>p.1<=m+2/\p.2.1<=RB/\p.2.2.1.length=m+2/\Rd p.2.2.1/\AQ p.2.2.1+t*AQ (v.take p.1)=AQ Pn+RB^p.1*p.2.1) (0,0,Pn,_) ⟨Bg _,Bg _,lPn,wPn,by simp[AQ]⟩ AN ?_
  rintro⟨i,c,N,n6⟩ F ⟨hi,hc,hNl,hNw,hI⟩;dsimp only at hi hc hNl hNw hI⊢;refine AC.seq ?_;refine sR 1900 ?_;refine AK ?_
  (refine Bn (λhlt=>?_) (λhlt=>?_))<;>(try simp only[BZ,Bl]at hlt)<;>(try simp only[hlt])
  ·have hi2:i<m+2:=by
    have:=DQ hlt
    omega
   obtain⟨x,hx⟩:=Ca (l:=v) (i:=i) (by omega);have hx':=EB hx;have hxl:x<RB:=wv x (A8 hx);obtain⟨z,hz⟩:=Ca (l:=N) (i:=i) (by omega);have hzl:=hNw z (A8 hz);have hz':=gc (A:=A) (Z:=Z) (top:=(p2:Int)) hz;rw[hA]at hz';obtain⟨p,x',lo,hi',d,c',e,k1,k2,k3,k4,k5,dl,cl,hI',hb⟩:=vC hz hx ht1 hxl hc hzl hI;have hset:(blk A N (p2:Int) Z).set (j+i) (Ab d)=blk A (N.set i d) (p2:Int) Z:=by
    have:=cZ (A:=A) (Z:=Z) (top:=(p2:Int)) (i:=i) (d:=d) (N:=N) (by omega)
    rwa [hA]at this
   have wij:IntKind.i64.wrap ((i:Int)+(j:Int))=((j+i:Nat):Int):=by rw[wI];omega
   have wi:IntKind.i64.wrap ((i:Int)+1)=((i+1:Nat):Int):=wI;clear hI J hVW vPn ht2 ht3 hdl;refine Ag ?_;refine AC.seq ?_;refine AC.block ?_;refine sZ 2100 ?_;refine AF kN ?_;refine CN kT hx' ?_;refine AF (BG kN k1 k2) ?_;refine sZ 2200 ?_;refine AF (Fd wij kN BX hz' k3 k5) ?_;refine sZ 2300 ?_;refine AW k4 ?_;rcases hb with⟨b1,b2,b3⟩|⟨b1,b2,b3⟩
   ·refine AC.seq ?_
    refine sZ 2400 ?_;refine AW b1 ?_;refine AK ?_;refine Ag ?_;subst b2 b3;refine An 2700 ?_;refine AF (Bo wij kN BX hz') ?_;rw[hset];refine An 2000 ?_;refine AW wi ?_;exact⟨(i+1,hi',N.set i d,_),⟨hi2,cl,by dsimp only;rw[Dt];exact hNl,hNw.set dl,hI'⟩,by dsimp only;omega,AN⟩
   ·refine AC.seq ?_
    refine sZ 2400 ?_;refine AW b1 ?_;refine AK ?_;refine sZ 2500 ?_;refine AW b2 ?_;refine An 2600 ?_;refine AW b3 ?_;refine An 2700 ?_;refine AF (Bo wij kN BX hz') ?_;rw[hset];refine An 2000 ?_;refine AW wi ?_;exact⟨(i+1,c',N.set i d,_),⟨hi2,cl,by dsimp only;rw[Dt];exact hNl,hNw.set dl,hI'⟩,by dsimp only;omega,AN⟩
  ·have hi2:i=m+2:=by
    have:=Da hlt
    omega
   subst hi2;rw[Gx]at hI;have hNlt:=G3 hNw;rw[hNl]at hNlt;have htop:=V8 (A:=A) (Z:=Z) (top:=(p2:Int)) hNl;have hstop:=aw (A:=A) (Z:=Z) (top:=(p2:Int)) (t:=(p2:Int)-(c:Int)) hNl;have htop2:=V8 (A:=A) (Z:=Z) (top:=(p2:Int)-(c:Int)) hNl;rw[hA]at htop hstop htop2;have p2l9:p2<1000000000:=p2l;have hc9:c<=1000000000:=hc;have wzc:IntKind.i64.wrap ((p2:Int)-(c:Int))=(p2:Int)-(c:Int):=wI;refine CM ?_;refine sZ 2800 ?_;refine AF (Cw wjn kN BX htop wzc) ?_;rw[hstop];rcases BL p2 c with h|h
   ·have e29:decide ((p2:Int)-(c:Int)<0)=true:=BV
    have ht9:t<1000000000:=ht1;have wt:IntKind.i64.wrap ((t:Int)-1)=(t:Int)-1:=wI;refine AC.seq ?_;refine sZ 2900 ?_;refine AF (Cw wjn kN BX htop2 e29) ?_;refine AK ?_;refine sZ 3000 ?_;refine AW wt ?_;refine sR 3100 ?_;refine AC.seq ?_;refine sR 3200 ?_;refine AC.block ?_;refine AC.loop (α:=Nat×Nat×List Nat×Nat) (λp=>⟨[(8,.sl true 1 [Ab f]),(9,.sl false 1 (v.map Ab)),(10,i64 ((m+2:Nat):Int)),(11,.osl 1102 n3 1 0 (la.length+1)),(12,.osl 1204 g 1 0 (lq+1)),(13,i64 (j:Int)),(14,i64 ((t:Int)-1)),(19,Ab p.2.1),(20,i64 p.1)],[⟨1204,g,3,1,q.map Ab⟩,⟨1102,n3,3,1,blk A p.2.2.1 ((p2:Int)-(c:Int)) Z⟩],p.2.2.2⟩) (λp=>m+2-p.1)
     (λp=>p.1<=m+2/\p.2.1<=1/\p.2.2.1.length=m+2/\Rd p.2.2.1/\AQ p.2.2.1+RB^p.1*p.2.1=AQ N+AQ (v.take p.1)) (0,0,N,_) ⟨Bg _,Bg _,hNl,hNw,by simp[AQ]⟩ AN ?_
    rintro⟨i,c2,N2,n7⟩ F ⟨hi,hc2,hNl2,hNw2,hI2⟩;dsimp only at hi hc2 hNl2 hNw2 hI2⊢;clear htop hstop;refine AC.seq ?_;refine sR 3300 ?_;refine AK ?_
    (refine Bn (λhlt2=>?_) (λhlt2=>?_))<;>(try simp only[BZ,Bl]at hlt2)<;>(try simp only[hlt2])
    ·have hi2:i<m+2:=by
      have:=DQ hlt2
      omega
     obtain⟨x,hx⟩:=Ca (l:=v) (i:=i) (by omega);have hx':=EB hx;have hxl:x<RB:=wv x (A8 hx);obtain⟨z,hz⟩:=Ca (l:=N2) (i:=i) (by omega);have hzl:=hNw2 z (A8 hz);have hz':=gc (A:=A) (Z:=Z) (top:=(p2:Int)-(c:Int)) hz;rw[hA]at hz';obtain⟨p,s,d,c',k1,k2,k3,k4,dl,cl,hI'⟩:=ut hz hx hxl hc2 hzl hI2;have hset:(blk A N2 ((p2:Int)-(c:Int)) Z).set (j+i) (Ab d)=blk A (N2.set i d) ((p2:Int)-(c:Int)) Z:=by
      have:=cZ (A:=A) (Z:=Z) (top:=(p2:Int)-(c:Int)) (i:=i) (d:=d) (N:=N2) (by omega)
      rwa [hA]at this
     have wij:IntKind.i64.wrap ((i:Int)+(j:Int))=((j+i:Nat):Int):=by rw[wI];omega
     have wi:IntKind.i64.wrap ((i:Int)+1)=((i+1:Nat):Int):=wI;clear hI2 hI J hVW vPn ht2 ht3 hdl;refine Ag ?_;refine AC.seq ?_;refine AC.block ?_;refine AC.seq ?_;refine B0 3500 [0,1,2,3,4,5,6,7,8,9,10,11] [12,13] ?_;refine AF (Bo wij kN BX hz') ?_;refine CN kT hx' ?_;refine AF (BG kN k1 k2) ?_;refine sZ 3600 ?_;refine AF (Cw wij kN BX hz' k3) ?_;rw[hset];refine An 3700 ?_;refine AW k4 ?_;refine An 3400 ?_;refine AW wi ?_;exact⟨(i+1,c',N2.set i d,_),⟨hi2,cl,by dsimp only;rw[Dt];exact hNl2,hNw2.set dl,hI'⟩,by dsimp only;omega,AN⟩
    ·have hi2:i=m+2:=by
      have:=Da hlt2
      omega
     subst hi2;rw[Gx]at hI2;have hNlt2:=G3 hNw2;rw[hNl2]at hNlt2;obtain⟨t0,g1,g2,g3⟩:=vB hI vPn h hNlt ht3 hI2 hc2 hNlt2 hVW;have htop3:=V8 (A:=A) (Z:=Z) (top:=(p2:Int)-(c:Int)) hNl2;have hstop3:=aw (A:=A) (Z:=Z) (top:=(p2:Int)-(c:Int)) (t:=((0:Nat):Int)) hNl2;rw[hA]at htop3 hstop3;have wfin:IntKind.i64.wrap ((p2:Int)-(c:Int)+(c2:Int))=((0:Nat):Int):=by rw[g3];rfl
     have et:(t:Int)-1=((t-1:Nat):Int):=by omega
     obtain⟨f1,f2,f3⟩:=jK (P:=P) (V:=AQ v) hNl2 hNw2 (z:=0) (by decide) (by rw[FJ,Dm];exact g2.symm);have J1:=J _ f1 f2 f3;rw[g1]at J1;refine CM ?_;refine An 3800 ?_;refine AF (Cw wjn kN BX htop3 wfin) ?_;rw[hstop3,V7,et];refine An 3900 ?_;refine AF (BG kN BX hzq') ?_;rw[Oh];refine An 1500 ?_;refine AW wi' ?_;exact⟨(j,A++((N2++[0])++Z),q.set j (t-1),_),⟨by dsimp only;omega,J1⟩,by dsimp only;omega,AN⟩
   ·have e29:decide ((p2:Int)-(c:Int)<0)=false:=BY
    obtain⟨g1,g2⟩:=vA hI vPn h ht2;have ezc:(p2:Int)-(c:Int)=((p2-c:Nat):Int):=by omega
    obtain⟨f1,f2,f3⟩:=jK hNl hNw (z:=p2-c) (by omega) g2.symm;have J1:=J _ f1 f2 f3;rw[g1]at J1;refine AC.seq ?_;refine sZ 2900 ?_;refine AF (Cw wjn kN BX htop2 e29) ?_;refine AK ?_;refine Ag ?_;rw[ezc,V7];refine An 3900 ?_;refine AF (BG kN BX hzq') ?_;rw[Oh];refine An 1500 ?_;refine AW wi' ?_;exact⟨(j,A++((N++[p2-c])++Z),q.set j t,_),⟨by dsimp only;omega,J1⟩,by dsimp only;omega,AN⟩
 ·have hk:k=0:=by
   have:¬((k:Int)-1>=0):=by simpa using h20
   omega
  subst hk;obtain⟨q1,q2⟩:=qE f0 I vv;have wu:=I.wU;have wqq:=I.wq;have lu:=I.lU;have lqq:=I.lQ;have hlt:AQ u<RB^(m+2):=by
   have:=I.less
   rw[Fr]at this;have h:=G3 wv;rw[show v.length=m+2 from hvl]at h;omega
  have hta:=nr hlt (by omega);have hll:=LP hlt;rw[q2]at hll hta;have ed:a%b*f/f=a%b:=Nat.mul_div_cancel _ f0;have cd:=ZW (a%b*f) f f0 fl (by omega);rw[ed]at cd;clear I;refine CM ?_;refine AC.weak ⟨[(8,.sl true 1 [Ab f]),(10,i64 ((m+2:Nat):Int)),(11,.sl false 1 (u.map Ab)),(12,.sl false 1 (q.map Ab))],[],_⟩ ⟨.drop (.drop .nil),⟨.refl _,.refl _,WU lu,WU lqq,trivial⟩,Am _⟩ ?_;have e5:List.take (m+2) (u.map Ab)=(u.take (m+2)).map Ab:=by
   rw[List.map_take]
  have eu2:(u.map Ab).length=la.length+1:=by rw[Al];omega
  have ct:=NK (u.take (m+2)) (wu.take _) (by rw[Be];omega);rw[hta]at ct;refine AC.seq ?_;refine B0 4000 [0,1,2,3,4,5,6,7,8,9,10,11] [12] ?_;refine AF (Bo kN Nat.sub_zero (@Fr D) e5) ?_;refine BN.same _ ct AJ ?_;have hf0:([Ab f]:List D)[0]?=some (Ab f):=rfl;refine AF kN ?_;refine CN kT hf0 ?_;refine AF kN ?_;refine BN.same _ cd AJ ?_;refine AF kN ?_;refine sR 4100 ?_;refine BI.same _ (NK q wqq (by omega)) AJ ?_;refine Bb ?_;refine AX ?_;exact AM (by rw[q1]) AA.out
theorem YH (a b:Nat)(hb:b≠0)(ha:(Aa a).length<1000000)(hbl:(Aa b).length<1000000):AI C0 123 [rD a,rD b] (.tup [rD (a/b),rD (a%b)]):=by
 rcases BL a b with h|h
 ·exact qG a b h ha hbl
 ·rcases hl:(Aa b).length with _|m
  ·have:=Jl b
   rw[hl]at this;simp at this;exact Ah this hb
  ·rcases m with _|m
   ·exact sC a b h ha hl hb
   ·exact qH a b m h ha hl
abbrev rZ (z:Int):D:=.agg [Av (decide (z<0)),rD z.natAbs]
def sg (neg:Bool)(n:Nat):Int:=if neg then -(n:Int)else n
theorem sV {n:Nat}:0<(Aa n).length↔n≠0:=by
 constructor
 ·rintro h rfl
  rw[HU]at h;cases h
 ·intro h
  rw[Jk h,By];exact Nat.succ_pos _
theorem Z4 (n:Nat):decide (((((Aa n).map Ab).length:Nat):Int)>0)=decide (n≠0):=by
 have:=@sV n
 rw[Al];exact ED.2 ⟨λh=>this.1 (by omega),λh=>by have:=this.2 h;omega⟩
theorem e0q (neg:Bool)(n:Nat):rZ (sg neg n)=.agg [Av (neg&&decide (n≠0)),rD n]:=by
 unfold rZ sg;cases neg
 ·simp only[Iu,if_false,JV,Do]
  rw[BY]
 ·simp only[if_true,Hs,LG,Do]
  congr 3
  exact ED.2 (by omega)
theorem TF (z:Int):sg (decide (z<0)) z.natAbs=z:=by
 unfold sg
 by_cases h:z<0
 ·rw[Ax h,AH rfl];omega
 ·rw[Az h,AG (by decide)];omega
theorem XL (b:Bool)(n:Nat):CI (.agg [Av b,.sl false 1 ((Aa n).map Ab)]):=.agg λd hd=>by
 simp only[Aw,Ds,or_false]at hd;rcases hd with rfl|rfl
 ·exact .prim _
 ·exact P6 _
def Gp (z:Int):Prop:=(Aa z.natAbs).length<1000000
instance  (b:Bool)(n:Nat):AA (.agg [Av b,rD n]):=⟨XL b n⟩
theorem bB (a b:Nat)(fa:(Aa a).length<1000000)(fb:(Aa b).length<1000000):AI C0 73 [rD a,rD b] (rD (Nat.gcd a b)):=by
 refine Ac.walk w1 d9x rfl λF=>?_
 change AC C0 F none F _ ⟨Dd 0 [.sl false 1 ((Aa a).map Ab),.sl false 1 ((Aa b).map Ab)],[],0⟩ _;refine sR 0 ?_;refine AC.seq ?_;refine AC.block ?_;refine AC.loop (α:=Nat×Nat×Nat) (λp=>⟨[(0,.sl false 1 ((Aa p.1).map Ab)),(1,.sl false 1 ((Aa p.2.1).map Ab))],[],p.2.2⟩) (λp=>p.2.1)
  (λp=>Nat.gcd p.1 p.2.1=Nat.gcd a b/\(Aa p.1).length<1000000/\(Aa p.2.1).length<1000000) (a,b,_) ⟨rfl,fa,fb⟩ AN ?_
 rintro⟨x,y,n⟩ F ⟨h1,h2,h3⟩;dsimp only at h1 h2 h3⊢;have et:=Z4 y;refine AC.seq ?_;refine sZ 100 ?_;refine AW et ?_
 by_cases hy:y=0
 ·rw[Az (by simpa using hy)]
  subst hy;refine AK ?_;refine CM ?_;refine sR 400 ?_;refine AX ?_;refine AM (d0:=rD x) ?_ AA.out;rw[<-h1,Nat.gcd_zero_right]
 ·rw[Ax hy]
  have cd:=YH x y hy h2 h3;refine AK ?_;refine Ag ?_;refine AC.block ?_;refine sR 200 ?_;refine cI cd ?_;refine rI 300 ?_;refine⟨(y,x%y,_),⟨?_,h3,?_⟩,CJ x (by omega),AN⟩
  ·dsimp only
   rw[<-h1,MZ x y,Nat.gcd_rec y x,MZ]
  ·exact DD (Ji _ _ (Nat.mod_le x y)) h2
theorem SE (neg:Bool)(l:List Nat)(h:Rd l)(hl:l.length<1000000000):AI C0 145 [Av neg,rL l] (rZ (sg neg (AQ l))):=by
 refine Ac.walk w1 gB rfl λF=>?_
 rw[e0q];have ct:=NK l h (by omega);generalize AQ l=n at*;have et:=Z4 n;unfold rD at ct⊢;unfold rL at ct⊢;refine sR 0 ?_;refine sR 100 ?_;refine cI ct ?_;refine AC.seq ?_;cases neg
 ·refine An 200 ?_
  refine AF et ?_;refine AX ?_;exact AM (by simp) (XL _ n)
 ·refine An 200 ?_
  refine AF et ?_;refine AX ?_;exact AM (by simp) (XL _ n)
theorem Ms (neg:Bool)(n:Nat)(h:(Aa n).length<1000000000):AI C0 145 [Av neg,rD n] (rZ (sg neg n)):=by
 have:=SE neg (Aa n) (FM n) h
 rwa [EZ]at this
theorem dh (z:Int)(h:Gp z):AI C0 144 [rZ z] (rZ (-z)):=by
 have cs:=Ms (!decide (z<0)) z.natAbs (Gs h (by decide));have e:rZ (sg (!decide (z<0)) z.natAbs)=rZ (-z):=by
  congr 1
  unfold sg
  by_cases hz:z<0
  ·rw[Ax hz];simp;omega
  ·rw[Az hz];simp;omega
 rw[e]at cs;refine Ac.walk w1 wJ rfl λF=>?_
 refine sR 0 ?_;refine sR 100 ?_;refine cI cs ?_;refine AX ?_;exact AM rfl AA.out
theorem QG (x y:Int)(hx:Gp x)(hy:Gp y):AI C0 94 [rZ x,rZ y] (rZ (x*y)):=by
 have cm:=Xj x.natAbs y.natAbs hx hy;have hl:(Aa (x.natAbs*y.natAbs)).length<1000000000:=DD (Uo _ _) (by unfold Gp at hx hy;omega);have cs:=λb=>Ms b (x.natAbs*y.natAbs) hl
 have e:sg (decide (x<0) != decide (y<0)) (x.natAbs*y.natAbs)=x*y:=by
  conv=>rhs;rw[<-TF x,<-TF y]
  generalize decide (x<0)=a;generalize decide (y<0)=b;unfold sg;cases a<;>cases b<;>simp[Int.neg_mul,Int.mul_neg]
 rw[<-e];refine Ac.walk w1 d9J rfl λF=>?_
 refine sR 0 ?_;refine AC.seq ?_;refine B0 100 [0,1,2,3,4,5,6,7,8,9] [10,11] ?_;refine AF kN ?_;refine BN.same _ cm AJ ?_;refine AF kN ?_;refine BI.same _ (cs _) AJ ?_;refine Bb ?_;refine AX ?_;exact AM rfl AA.out
theorem r6 {a b:Nat}(h:b<=a):decide (D6 (a:Int) (b:Int)>=0)=true:=Ax (by unfold D6;split<;>(try split)<;>omega)
theorem r7 {a b:Nat}(h:a<b):decide (D6 (a:Int) (b:Int)>=0)=false:=Az (by unfold D6;split<;>(try split)<;>omega)
theorem zt (x y:Int)(hx:Gp x)(hy:Gp y):AI C0 120 [rZ x,rZ y] (rZ (x+y)):=by
 refine Ac.walk w1 vo rfl λF=>?_
 unfold Gp at hx hy;cases hs:(decide (x<0)==decide (y<0))
 ·have hs':decide (x<0)≠decide (y<0):=by simpa using hs
  have hs2:(x<0/\¬y<0)\/(¬x<0/\y<0):=by
   by_cases h1:x<0<;>by_cases h2:y<0<;>simp_all
  have cc:=Tb x.natAbs y.natAbs (by omega) (by omega);refine sR 0 ?_;refine AC.seq ?_;refine sZ 100 ?_;refine AW hs ?_;refine AK ?_;refine Ag ?_;refine AC.seq ?_;refine sR 300 ?_;refine cI cc ?_;rcases BL x.natAbs y.natAbs with h|h
  ·have cb:=kr y.natAbs x.natAbs (KO h) hy
   have cs:=Ms (decide (y<0)) (y.natAbs-x.natAbs) (DD (Y7 _ _) (by omega));have e:sg (decide (y<0)) (y.natAbs-x.natAbs)=x+y:=by
    unfold sg
    by_cases hy0:y<0
    ·rw[Ax hy0,AH rfl];omega
    ·rw[Az hy0,AG (by decide)];omega
   rw[e]at cs;rw[r7 h];refine AK ?_;refine Ag ?_;refine AC.seq ?_;refine B0 500 [0,1,2,3,4,5,6] [7,8] ?_;refine AF kN ?_;refine BN.same _ cb AJ ?_;refine AF kN ?_;refine BI.same _ cs AJ ?_;refine Bb ?_;refine AX ?_;exact AM rfl AA.out
  ·have cb:=kr x.natAbs y.natAbs h hx
   have cs:=Ms (decide (x<0)) (x.natAbs-y.natAbs) (DD (Y7 _ _) (by omega));have e:sg (decide (x<0)) (x.natAbs-y.natAbs)=x+y:=by
    unfold sg
    by_cases hx0:x<0
    ·rw[Ax hx0,AH rfl];omega
    ·rw[Az hx0,AG (by decide)];omega
   rw[e]at cs;rw[r6 h];refine AK ?_;refine AC.seq ?_;refine B0 400 [0,1,2,3,4,5,6] [7,8] ?_;refine AF kN ?_;refine BN.same _ cb AJ ?_;refine AF kN ?_;refine BI.same _ cs AJ ?_;refine Bb ?_;refine AX ?_;exact AM rfl AA.out
 ·have hs':decide (x<0)=decide (y<0):=by simpa using hs
  have ca:=d8x x.natAbs y.natAbs hx hy;have cs:=Ms (decide (x<0)) (x.natAbs+y.natAbs) (DD (Y6 _ _) (by omega));have e:sg (decide (x<0)) (x.natAbs+y.natAbs)=x+y:=by
   unfold sg
   by_cases hx0:x<0
   ·have hy0:y<0:=DQ (hs'.symm.trans (Ax hx0))
    rw[Ax hx0,AH rfl];omega
   ·have hy0:¬y<0:=Da (hs'.symm.trans (Az hx0))
    rw[Az hx0,AG (by decide)];omega
  rw[e]at cs;refine sR 0 ?_;refine AC.seq ?_;refine sZ 100 ?_;refine AW hs ?_;refine AK ?_;refine AC.seq ?_;refine B0 200 [0,1,2,3,4,5,6] [7,8] ?_;refine AF kN ?_;refine BN.same _ ca AJ ?_;refine AF kN ?_;refine BI.same _ cs AJ ?_;refine Bb ?_;refine AX ?_;exact AM rfl AA.out
theorem nK (k m:Nat):Fj (k+1) m []=Fj k (m/10) []++[UInt8.ofNat (48+m%10)]:=by
 rw[<-ZD (k+1) m [] (.inr (Nat.succ_pos k))];unfold Fj Nj
 by_cases h:m/10=0
 ·rw[AH h,AH h];simp
 ·rw[AG h,AG h]
  rw[Dh,Bz,Ho,Nat.add_sub_add_right,DO]
theorem V9:∀(k hi d:Nat),hi≠0->d<10^k->Lib.decDigits (hi*10^k+d)=Lib.decDigits hi++Fj k d []
 | 0,hi,d,_,hd=>by
  have h0:d=0:=by simpa using hd
  subst h0;rw[Nq,EQ,Dm];simp[Fj,Nj]
 |k+1,hi,d,hh,hd=>by
  have e1:hi*10^(k+1)=10*(hi*10^k):=by rw[CT,<-CE,Bd]
  have h1:1<=10^k:=Nat.pow_pos (by decide);have h2:1<=hi*10^k:=HQ (ER hh) h1;have h3:¬hi*10^(k+1)+d<10:=by omega
  have h4:d/10<10^k:=by rw[CT]at hd;omega
  rw[nK,<-DO,<-V9 k hi (d/10) hh h4];rw[Lib.decDigits,dif_neg h3,e1]
  congr 2
  ·omega
  ·congr 1;omega
theorem vT (hi d:Nat)(h:hi≠0)(hd:d<RB):Lib.decDigits (d+RB*hi)=Lib.decDigits hi++Fj 9 d []:=by
 have:=V9 9 hi d h (Cb hd (by decide))
 rw[<-this]
 congr 1
 rw[Bd,MY]
theorem P8 {l:List Nat}(h:Rd l):(Lib.decDigits (AQ l)).length<=9*l.length+1:=by
 have h1:=G3 h;have e:RB^l.length=10^(9*l.length):=by rw[Nat.pow_mul]
 rw[e]at h1;refine KV _ _ (Gs h1 ?_);exact Nat.pow_lt_pow_right (by decide) (IU _)
theorem eU (neg:Bool)(n:Nat)(h:neg=true->n≠0):Lib.itoa (sg neg n)=if neg then 45::Lib.decDigits n else Lib.decDigits n:=by
 unfold Lib.itoa sg;cases neg
 ·simp only[Iu,if_false]
  rw[B3];rfl
 ·have:=h rfl
  simp only[if_true];rw[DJ,LG];rfl
theorem d7A (neg:Bool)(n:Nat)(h:neg=true->n≠0)(hl:(Aa n).length<1000000):AI C0 95 [.agg [Av neg,rD n]] (str (sb (Lib.itoa (sg neg n)))):=by
 refine Ac.walk w1 d9K rfl λF=>?_
 rw[eU neg n h];change AC C0 F none F _ ⟨Dd 0 [.agg [Av neg,.sl false 1 ((Aa n).map Ab)]],[],0⟩ _;have vn:=EZ n;have wn:=FM n;have tp:=λk a=>Rg n (k:=k) (a:=a)
 generalize Aa n=l at*;subst vn;rcases hc:l.length with _|m
 ·have e0:l=[]:=FU hc
  subst e0;have hn:neg=false:=by cases neg;rfl;exact Ah rfl (h rfl)
  subst hn;have e1:Lib.decDigits (AQ [])=[48]:=by unfold Lib.decDigits AQ;rw[dif_pos (by decide)];rfl
  rw[AG (by decide),e1];refine sR 0 ?_;refine AC.seq ?_;refine sR 100 ?_;refine AK ?_;refine sR 200 ?_;refine AX ?_;exact AM rfl AA.out
 ·obtain⟨y,hy⟩:=Ca (l:=l) (i:=m) (by omega)
  have yl:=wn y (A8 hy);have y0:=tp m y hc hy;have hy':=EB hy;have el:(((l.map Ab).length:Nat):Int)=((m+1:Nat):Int):=by rw[Al,hc]
  have et:(((m+1:Nat):Int)==0)=false:=B8.2 (by omega);have w0:IntKind.i64.wrap (((m+1:Nat):Int)-1)=(m:Int):=by rw[wI];omega
  have w2:IntKind.i64.wrap (((m+1:Nat):Int)-2)=(m:Int)-1:=by rw[wI];omega
  have cd:=Rj y 1 (by unfold RB at yl;omega);rw[cz]at cd;have wr0:IntKind.i64.wrap ((((l.map Ab).length:Nat):Int)-1)=(m:Int):=by rw[el,w0]
  have ed:l.drop m=[y]:=by
   rw[E3 (by omega),IR (by omega)];rw[Ce]at hy;rw[GJ hy]
  refine sR 0 ?_;refine AC.seq ?_;refine sZ 100 ?_;refine AW (Ae el et) ?_;refine AK ?_;refine Ag ?_;refine sZ 300 ?_;refine AF (Bo el w0 wr0 kN) ?_;refine CN kT hy' ?_;refine AF kN ?_;refine BI.same _ cd AJ ?_;refine Bb ?_;have ev:AQ (l.drop m)=y:=by rw[ed];simp[AQ]
  refine AC.seq ?_;refine sZ 400 ?_;refine AW (Ae el w2) ?_;refine AC.block ?_;refine AC.loop (α:=Nat×Nat) (λp=>⟨[(1,.optr 0 0 2 0 0),(3,str (sb (Lib.decDigits (AQ (l.drop p.1))))),(4,i64 ((p.1:Int)-1))],[⟨0,0,145,2,[.agg [Av neg,.sl false 1 (l.map Ab)]]⟩],p.2⟩) (λp=>p.1)
   (λp=>p.1<=m/\AQ (l.drop p.1)≠0) (m,_) ⟨Am _,by dsimp only;rw[ev];exact y0⟩ (by dsimp only;rw[ev];exact AN) ?_
  rintro⟨k,n1⟩ F ⟨h1,h2⟩;dsimp only at h1 h2⊢;clear cd;refine AC.seq ?_;refine sR 500 ?_;refine AK ?_
  (refine Bn (λh20=>?_) (λh20=>?_))<;>(try simp only[BZ,Bl]at h20)<;>(try simp only[h20])
  ·obtain⟨j,rfl⟩:∃j,k=j+1:=⟨k-1,by
    have:(k:Int)-1>=0:=by simpa using h20
    omega⟩
   have wj:((j+1:Nat):Int)-1=(j:Int):=by omega
   obtain⟨d,hd⟩:=Ca (l:=l) (i:=j) (by omega);have hd':=EB hd;have dl:=wn d (A8 hd);have c9:=Rj d 9 (by unfold RB at dl;omega);have eD:Lib.decDigits (AQ (l.drop (j+1)))++Fj 9 d []=Lib.decDigits (AQ (l.drop j)):=by rw[Rn hd,vT _ _ h2 dl]
   have hlen:=P8 (l:=l.drop j) λa ha=>wn a (MV ha)
   rw[<-eD,Bz,D4]at hlen;have h3:AQ (l.drop j)≠0:=by
    rw[Rn hd]
    have:0<RB*AQ (l.drop (j+1)):=HQ (by decide) (ER h2)
    omega
   have z1:=Cd (Lib.decDigits (AQ (l.drop (j+1))));have z2:=M2 (Fj 9 d []);have wi:IntKind.i64.wrap ((j:Int)-1)=(j:Int)-1:=wI;rw[wj];refine Ag ?_;refine AC.seq ?_;refine AC.block ?_;refine An 700 ?_;refine AF kN ?_;refine CN kT hd' ?_;refine AF kN ?_;refine BI.same _ c9 AJ ?_;refine Bb ?_;rw[Ig,eD];refine An 600 ?_;refine AW wi ?_;exact⟨(j,_),⟨by dsimp only;omega,h3⟩,by dsimp only;omega,AN⟩
  ·have hk:k=0:=by
    have:¬((k:Int)-1>=0):=by simpa using h20
    omega
   subst hk;rw[Fr]at h2⊢;have hlen:=P8 wn;have z1:=Cd (Lib.decDigits (AQ l));have z2:(⟨#[45]⟩:ByteArray).size=1:=rfl;refine CM ?_;refine AC.seq ?_;refine AC.seq ?_;cases neg
   ·refine rI 800 ?_
    refine AK ?_;refine Ag ?_;rw[AG (by decide)];refine sR 1000 ?_;refine AX ?_;exact AM rfl AA.out
   ·refine rI 800 ?_
    refine AK ?_;rw[AH rfl];refine sR 900 ?_;refine AX ?_;refine AM ?_ AA.out;show str ((⟨([45]:List UInt8).toArray⟩:ByteArray)++⟨(Lib.decDigits (AQ l)).toArray⟩)=_;rw[Ig];rfl
theorem Xb (z:Int)(h:Gp z):AI C0 95 [rZ z] (str (sb (Lib.itoa z))):=by
 have:=d7A (decide (z<0)) z.natAbs (λh=>by have:=DQ h;omega) h
 rwa [TF]at this
theorem LB {C:BH}{f:Nat}{ds ds':List D}{Φ:D->Prop}{H:Hp}{n:Nat}(Hf:Hp)(hc:Ac C f ds' Φ)(hH:C2 H Hf H Hf)(hv:Fw H Hf ds ds')
  (hp:AU ds'):C4 C f ds H n (λd' H' n'=>Φ d'/\H'=Hf/\n'=n+1):=by
 refine⟨hc.1,λF ρ w vs m hfr hg hvs hr=>?_⟩;obtain⟨m',hO,hN⟩:=hH.mem m;obtain⟨l1,l2⟩:=hv.spec;refine(hc.2 (AL F.X ρ Hf) w vs m.g (BP m.gn m.size) (λb hb=>m'.own_lt hb) (by omega) λi x hx=>?_).mono ?_
 ·have hi:i<ds'.length:=(BR.1 hx).1
  have hd0:ds[i]?=some ds[i]:=Ce;exact hp.out x (A8 hx) _ _ _ _ _ ((l2 i _ x hd0 hx).rep m hO hN (hr i _ hd0))
 ·rintro e w' ⟨v,d',rfl,hb,hd',rep⟩
  have hb2:∀(b:Nat) (cs:Array Value) (T:Nat) (fz:Nat×Nat),w.heap[b]?=some (.cells cs T fz)->∃(cs':Array Value) (fz':Nat×Nat),w'.heap[b]?=some (.cells cs' T fz')/\cs'.size=cs.size:=λb cs T fz hh=>⟨cs,_,by
   rw[hb.block b (DE.1 hh).1];exact hh,rfl⟩
  have x:BW ρ (AL F.X ρ H) w ρ (AL F.X ρ Hf) w':=⟨hb.size,λ_ _ _ h=>h,λb hb' hO2=>⟨λh=>hO2 (hO b h),hb.block b hb'⟩,hb2⟩
  have x':BW ρ (AL F.X ρ Hf) w ρ (AL F.X ρ Hf) w':=⟨hb.size,λ_ _ _ h=>h,λb hb' hO2=>⟨hO2,hb.block b hb'⟩,hb2⟩
  refine⟨v,_,Hf,n+1,ρ,rfl,⟨hd',rfl,rfl⟩,m'.same x' hb.os hb.tape hb.output hb.block,x,λk g hg'=>hfr k g (by omega),λe he=>?_,rep.mono ⟨Am _,λ_ _ _ h=>(by cases h),λb _ hO2=>⟨hO2,rfl⟩,λb cs T fz h=>⟨cs,_,h,rfl⟩⟩⟩;obtain⟨e',h1,h2,h3,_⟩:=hH.names e he
  have:=hg e' h1
  omega
theorem oB {l:List UInt8}{i:Nat}{c:UInt8}(hc:l[i]?=some c)(hi:i<=BK l):(((c.toNat:Nat):Int)==47)=decide (i=BK l):=by
 have e1:(((c.toNat:Nat):Int)==47)=(c==47):=by
  rw[E6,EW,EW,<-UInt8.toNat_inj];exact⟨λh=>(show c.toNat=47 by omega),λh=>by rw[h];rfl⟩
 rw[e1];unfold BK at hi⊢;clear e1
 induction l generalizing i with
 |nil=>cases hc
 |cons a l ih=>
  rw[PJ]at hi⊢;cases i with
  |zero=>
   cases hc
   by_cases h:c=47
   ·subst h;rfl
   ·have h1:(c != 47)=true:=by simpa using h
    have h2:(c==47)=false:=by simpa using h
    rw[AH h1,h2,By,BY]
  |succ i=>
   by_cases h:a=47
   ·subst h
    exact Ah hi (by simp)
   ·have h1:(a != 47)=true:=by simpa using h
    rw[AH h1,By]at hi⊢;rw[ih hc (by omega)];exact ED.2 (by omega)
theorem Sl (l:List UInt8)(h:l.all Bv=true)(hl:l.length<=18):AI C0 141 [str (sb l)] (i64 (dv l:Int)):=by
 refine Ac.walk w1 wF rfl λF=>?_
 have hsz:=Cd l;refine sR 0 ?_;refine sR 100 ?_;refine AC.seq ?_;refine sR 200 ?_;refine AC.block ?_;refine AC.loop (α:=Nat×Nat) (λp=>⟨[(0,str (sb l)),(3,i64 (dv (l.take p.1):Int)),(4,i64 (p.1:Int))],[],p.2⟩) (λp=>l.length-p.1) (λp=>p.1<=l.length) (0,_) (Bg _) AN ?_;rintro⟨i,n⟩ F hi;dsimp only at hi⊢;refine AC.seq ?_;refine sZ 300 ?_;refine AW hsz ?_;refine AK ?_
 (refine Bn (λhlt=>?_) (λhlt=>?_))<;>(try simp only[BZ,Bl]at hlt)<;>(try simp only[hlt])
 ·have hi2:i<l.length:=by
   have:=DQ hlt
   omega
  obtain⟨c,hc⟩:∃c,l[i]?=some c:=⟨l[i],B4 hi2⟩
  have hcd:Bv c=true:=Cc.1 h c (A8 hc);obtain⟨c1,c2⟩:=Mi hcd;have hg:(sb l).data.toList.getD i 0=c:=by
   show(l.toArray.toList).getD i 0=c;simp[hc]
  have hdl:dv (l.take i)<10^17:=by
   have:=G8 (l.take i) (Cc.2 λa ha=>Cc.1 h a (HK ha))
   rw[Be,FW hi]at this;exact Cb this (Fc (by decide) (by omega))
  have hnx:dv (l.take (i+1))=dv (l.take i)*10+(c.toNat-48):=by
   rw[FV,hc];show dv (l.take i++[c])=_;rw[Pe];simp[dv,Hn]
  have k1:IntKind.i64.wrap (10*(dv (l.take i):Int))=((10*dv (l.take i):Nat):Int):=by rw[wI];omega
  have k2:IntKind.i64.wrap ((c.toNat:Nat):Int)=((c.toNat:Nat):Int):=wI;have k3:IntKind.i64.wrap (((10*dv (l.take i):Nat):Int)+((c.toNat:Nat):Int))=((10*dv (l.take i)+c.toNat:Nat):Int):=by rw[wI];omega
  have k4:IntKind.i64.wrap (((10*dv (l.take i)+c.toNat:Nat):Int)-48)=((dv (l.take (i+1)):Nat):Int):=by rw[hnx,wI];omega
  have wi:IntKind.i64.wrap ((i:Int)+1)=((i+1:Nat):Int):=wI;refine Ag ?_;refine AC.seq ?_;refine AC.block ?_;refine An 500 ?_;refine AW (Fd kN hg k1 k2 k3 k4) ?_;refine An 400 ?_;refine AW wi ?_;exact⟨(i+1,_),hi2,by dsimp only;omega,AN⟩
 ·have hi2:i=l.length:=by
   have:=Da hlt
   omega
  subst hi2;rw[Ci (Am _)];refine CM ?_;refine sR 600 ?_;refine AX ?_;exact AM rfl AA.out
theorem bW (l:List UInt8)(hl:l.length<=9223372036854775807):AI C0 70 [str (sb l)] (i64 (BK l:Int)):=by
 refine Ac.walk w1 d9u rfl λF=>?_
 have hsz:=Cd l;refine sR 0 ?_;refine AC.seq ?_;refine sR 100 ?_;refine AC.block ?_;refine AC.loop (α:=Nat×Nat) (λp=>⟨[(0,str (sb l)),(3,i64 (p.1:Int))],[],p.2⟩) (λp=>l.length-p.1) (λp=>p.1<=BK l) (0,_) (Bg _) AN ?_;rintro⟨i,n⟩ F hi;dsimp only at hi⊢;have hsl:=KZ l;refine AC.seq ?_;refine sZ 200 ?_;refine AW hsz ?_;refine AK ?_
 (refine Bn (λhlt=>?_) (λhlt=>?_))<;>(try simp only[BZ,Bl]at hlt)<;>(try simp only[hlt])
 ·have hi2:i<l.length:=by
   have:=DQ hlt
   omega
  obtain⟨c,hc⟩:∃c,l[i]?=some c:=⟨l[i],B4 hi2⟩
  have hg:(sb l).data.toList.getD i 0=c:=by
   show(l.toArray.toList).getD i 0=c;simp[hc]
  have wi:IntKind.i64.wrap ((i:Int)+1)=((i+1:Nat):Int):=wI;have ht:(((c.toNat:Nat):Int)==47)=decide (i=BK l):=oB hc hi;refine Ag ?_;refine AC.seq ?_;refine AC.block ?_;refine sZ 400 ?_;refine AW (BG kN hg ht) ?_
  by_cases he:i=BK l
  ·rw[Ax he]
   refine AK ?_;refine sR 500 ?_;refine AX ?_;exact AM (by rw[he]) AA.out
  ·rw[Az he]
   refine AK ?_;refine Ag ?_;refine An 300 ?_;refine AW wi ?_;exact⟨(i+1,_),by dsimp only;omega,by dsimp only;omega,AN⟩
 ·have hi2:i=l.length:=by
   have:=Da hlt
   omega
  refine CM ?_;refine sZ 600 ?_;refine AW hsz ?_;refine AX ?_;exact AM (by congr 3;omega) AA.out
theorem Sh (l:List UInt8)(hl:l.length<=1000000000):AI C0 70 [str (sb l)] (i64 (BK l:Int)):=bW l (BP hl (by decide))
theorem Vr {H Hf:Hp}{K g T:Nat}{l:List Nat}{N:Nat}(hl:l.length=N)(he:Hp.get H K=some ⟨K,g,T,1,l.map Ab⟩:=by exact rfl)(hn:Hp.get Hf K=none:=by exact rfl):Fz H Hf (.osl K g 1 0 N) (.sl false 1 (l.map Ab)):=by
 subst hl;have key:∀(j:Nat) (d d':D),(l.map Ab)[0+j]?=some d->(l.map Ab)[j]?=some d'->d=d':=λj d d' h1 h2=>by
  rw[BX]at h1;rw[h1]at h2;exact GJ h2
 refine .osl (e:=⟨K,g,T,1,l.map Ab⟩) he hn rfl rfl (by simp) (by simp) (λj d d' h1 h2=>by rw[key j d d' h1 h2]) λj d d' q c c' h1 h2 h3 h4=>?_
 rw[key j d d' h1 h2]at h3;rw[h3]at h4;cases h4;exact Fz.refl _
theorem SX (c:UInt8)(l:List UInt8):(((c.toNat:Nat):Int)==45)=Dg (c::l):=by
 show _=(c==45);rw[E6,EW,EW,<-UInt8.toNat_inj];exact⟨λh=>(show c.toNat=45 by omega),λh=>by rw[h];rfl⟩
abbrev Ot:Af:=⟨0,0,145,2,[.agg [Av false,CS]]⟩
theorem wT {x:List UInt8}(h:9<x.length):dv x=dv (x.take (x.length-9))*RB+dv (x.drop (x.length-9)):=by
 conv=>lhs;rw[<-GL (x.length-9) x,Pe,D4,show x.length-(x.length-9)=9 by omega]
theorem zv (A B t n v:Nat):(A*B+t)*B^n+v=A*B^(n+1)+(v+B^n*t):=by
 rw[B1,CE,CT,Bd B,Bd t];omega
theorem Zn {x x0:List UInt8}{w:List Nat}(h9:9<x.length)(g1:x.all Bv=true)(g2:x.length+w.length*9=x0.length)(g3:Rd w)(g4:dv x0=dv x*RB^w.length+AQ w):
  (x.take (x.length-9)).all Bv=true/\(x.take (x.length-9)).length+(w++[dv (x.drop (x.length-9))]).length*9=x0.length/\Rd (w++[dv (x.drop (x.length-9))]) /\
  dv x0=dv (x.take (x.length-9))*RB^(w++[dv (x.drop (x.length-9))]).length+AQ (w++[dv (x.drop (x.length-9))]):=by
 refine⟨Cc.2 λa ha=>Cc.1 g1 a (HK ha),?_,Rd.append g3 λa ha=>?_,?_⟩
 ·rw[Be,Bz,Ho];omega
 ·simp only[Aw,Ds,or_false]at ha
  subst ha
  have:=G8 (x.drop (x.length-9)) (Cc.2 λa ha=>Cc.1 g1 a (MV ha))
  rwa [D4,show x.length-(x.length-9)=9 by omega]at this
 ·rw[g4,wT h9,Hy rfl,Bz,Ho]
  exact zv _ _ _ _ _
theorem qQ {x x0:List UInt8}{w:List Nat}(h9:x.length<=9)(g1:x.all Bv=true)(g3:Rd w)(g4:dv x0=dv x*RB^w.length+AQ w):Rd (w++[dv x])/\AQ (w++[dv x])=dv x0:=by
 refine⟨Rd.append g3 λa ha=>?_,?_⟩
 ·simp only[Aw,Ds,or_false]at ha
  subst ha;exact Cb (G8 x g1) (Fc (by decide) h9)
 ·rw[g4,Hy rfl,Bd,MY]
theorem dE {w:List Nat}{a:Nat}:List.take w.length (w.map Ab)++[i64 (a:Int)]=(w++[a]).map Ab:=by
 rw[Ci (by rw[Al];exact Am _),Du];rfl
theorem fL (l:List UInt8)(hd:(B5 l).all Bv=true)(hl:l.length<=1000000):AI C0 122 [str (sb l)] (rZ (rv l)):=by
 have er:rv l=sg (Dg l) (dv (B5 l)):=rfl;rw[er];refine Ac.walk w1 vq rfl λF=>?_
 have hsz:=Cd l;have hdl:(B5 l).length<=l.length:=by
  unfold B5;split
  ·rw[D4];omega
  ·exact Am _
 refine sR 0 ?_;refine C9 (α:=Nat) (λn=>⟨[(0,str (sb l)),(2,.optr 0 0 2 0 0),(3,Av (Dg l))],[Ot],n⟩) (λ_=>True) ?_ ?_
 ·cases l with
  |nil=>
   have e0:(sb []).size=0:=rfl;have e1:decide (((0:Nat):Int)>0)=false:=rfl;refine An 100 ?_;refine AF (Ae e0 e1) ?_;refine AF (Ae kF e1) ?_;exact⟨trivial,_,trivial,AN⟩
  |cons c l=>
   have hpos:(sb (c::l)).size=l.length+1:=hsz;have e0:decide (((sb (c::l)).size:Int)>0)=true:=BV;have e1:((((c::l).getD (Int.toNat 0) 0).toNat:Int)==45)=Dg (c::l):=SX c l;refine An 100 ?_;refine AF e0 ?_;refine AF (BG kT e0 e1) ?_;exact⟨trivial,_,trivial,AN⟩
 rintro n0 -;refine C9 (α:=Nat) (λn=>⟨[(0,str (sb (B5 l))),(2,.optr 0 0 2 0 0),(3,Av (Dg l))],[Ot],n⟩) (λ_=>True) ?_ ?_
 ·refine sR 200 ?_
  cases hb:Dg l
  ·have ed:B5 l=l:=by unfold B5;rw[hb];rfl
   rw[ed];refine AK ?_;refine Ag ?_;exact⟨rfl,_,trivial,AN⟩
  ·have ed:B5 l=l.drop 1:=by unfold B5;rw[hb];rfl
   have hl0:1<=l.length:=by
    cases l with
    |nil=>cases hb
    |cons c l=>rw[By];omega
   have ee:(sb l).extract (Int.toNat 1) l.length=sb (B5 l):=by
    rw[Ex,Ci (Am _),ed];rfl
   refine AK ?_;refine An 300 ?_;refine AF (Ae hsz kN) ?_;rw[ee];exact⟨trivial,_,trivial,AN⟩
 rintro n1 -;generalize Dg l=neg at*;generalize B5 l=x0 at*;clear er hsz;have hx0:x0.length<=1000000:=BP hdl hl;clear hdl hl l;refine sR 400 ?_;refine AC.seq ?_;refine AC.block ?_;refine AC.loop (α:=Bool×List UInt8×List Nat×Nat×Nat) (λp=>match p with
  |(false,x,_,_,n)=>⟨[(0,str (sb x)),(2,.optr 0 0 2 0 0),(3,Av neg),(4,CS)],[Ot],n⟩
  |(true,x,w,g,n)=>⟨[(0,str (sb x)),(2,.optr 0 0 2 0 0),(3,Av neg),(4,.osl 608 g 1 0 w.length)],[⟨608,g,3,1,w.map Ab⟩,Ot],n⟩) (λp=>p.2.1.length)
  (λp=>p.2.1.all Bv=true/\p.2.1.length+p.2.2.1.length*9=x0.length/\Rd p.2.2.1/\dv x0=dv p.2.1*RB^p.2.2.1.length+AQ p.2.2.1/\(p.1=false->p.2.2.1=[]))
  (false,x0,[],0,_) ⟨hd,rfl,(λa ha=>by cases ha),by simp[AQ],λ_=>rfl⟩ AN ?_
 rintro⟨t,x,w,g,n2⟩ F ⟨g1,g2,g3,g4,g5⟩;dsimp only at g1 g2 g3 g4 g5;have hsz:=Cd x
 by_cases h9:9<x.length
 ·have ht:decide ((x.length:Int)>9)=true:=BV
  have cv:=Sl (x.drop (x.length-9)) (Cc.2 λa ha=>Cc.1 g1 a (MV ha)) (by rw[D4];omega);have wk:IntKind.i64.wrap ((x.length:Int)-9)=((x.length-9:Nat):Int):=by rw[wI];omega
  have wr:IntKind.i64.wrap (((sb x).size:Int)-9)=((x.length-9:Nat):Int):=by rw[hsz,wk]
  have e1:(sb x).extract (x.length-9) x.length=sb (x.drop (x.length-9)):=by rw[Ex,Ci (Am _)]
  have e2:(sb x).extract 0 (x.length-9)=sb (x.take (x.length-9)):=by rw[Ex,Fr]
  cases t
  ·dsimp only
   obtain rfl:=g5 rfl;refine AC.seq ?_;refine sZ 500 ?_;refine AW (Ae hsz ht) ?_;refine AK ?_;refine Ag ?_;refine AC.block ?_;refine sZ 600 ?_;refine AF (Cw hsz wk wr kN e1) ?_;refine BI.same _ cv AJ ?_;refine Bb ?_;have J:=Zn h9 g1 g2 g3 g4;rw[E7]at J;refine An 700 ?_;refine AF (Bo hsz wk wr kN) ?_;refine AF e2 ?_;exact⟨(true,x.take (x.length-9),[dv (x.drop (x.length-9))],n2+11,_),⟨J.1,J.2.1,J.2.2.1,J.2.2.2,λh=>by cases h⟩,by dsimp only;rw[Be];omega,AN⟩
  ·dsimp only
   clear g5;have J:=Zn h9 g1 g2 g3 g4;have ew:(w.map Ab).length=w.length:=Al _;have el:w.length+1=(w++[dv (x.drop (x.length-9))]).length:=by rw[Bz];rfl
   refine AC.seq ?_;refine sZ 500 ?_;refine AW (Ae hsz ht) ?_;refine AK ?_;refine Ag ?_;refine AC.block ?_;refine sZ 600 ?_;refine AF (Cw hsz wk wr kN e1) ?_;refine BI.same _ cv AJ ?_;refine Bb ?_;rw[dE,el];refine An 700 ?_;refine AF (Bo hsz wk wr kN) ?_;refine AF e2 ?_;exact⟨(true,x.take (x.length-9),w++[dv (x.drop (x.length-9))],n2+11,_),⟨J.1,J.2.1,J.2.2.1,J.2.2.2,λh=>by cases h⟩,by dsimp only;rw[Be];omega,AN⟩
 ·have ht:decide ((x.length:Int)>9)=false:=BY
  have cv:=Sl x g1 (by omega);obtain⟨r1,r2⟩:=qQ (by omega) g1 g3 g4;have cs:=SE neg (w++[dv x]) r1 (by rw[Bz,Ho];omega);rw[r2]at cs;cases t
  ·dsimp only
   obtain rfl:=g5 rfl;refine AC.seq ?_;refine sZ 500 ?_;refine AW (Ae hsz ht) ?_;refine AK ?_;refine CM ?_;refine sR 800 ?_;refine BI.same _ cv AJ ?_;refine Bb ?_;refine BI.own _ (LB [Ot] cs (.drop (.keep .nil)) ⟨.refl _,Vr rfl,trivial⟩ AJ) ?_;rintro d H' n' ⟨rfl,rfl,rfl⟩;refine Bb ?_;refine AX ?_;exact AM rfl AA.out
  ·dsimp only
   clear g5;have ew:(w.map Ab).length=w.length:=Al _;have el:w.length+1=(w++[dv x]).length:=by rw[Bz];rfl
   refine AC.seq ?_;refine sZ 500 ?_;refine AW (Ae hsz ht) ?_;refine AK ?_;refine CM ?_;refine sR 800 ?_;refine BI.same _ cv AJ ?_;refine Bb ?_;rw[dE,el];refine BI.own _ (LB [Ot] cs (.drop (.keep .nil)) ⟨.refl _,Vr rfl,trivial⟩ AJ) ?_;rintro d H' n' ⟨rfl,rfl,rfl⟩;refine Bb ?_;refine AX ?_;exact AM rfl AA.out
def Yc (o:Option D):Bool:=match o with
 |some (.agg [.prim (.bool false),.sl false 1 [.prim (.int .i64 1)]])=>true
 |_=>false
theorem rS {o:Option D}(h:Yc o=true):o=some (rZ 1):=by
 have h1:Aa 1=[1]:=Rf (by decide) (by decide);unfold Yc at h;split at h
 ·show _=some (D.agg [Av (decide ((1:Int)<0)),rL (Aa 1)])
  rw[h1];rfl
 ·cases h
theorem og:Yc ((Gu X1 1000 60).1 96 [i64 1])=true:=by kernel_rfl
theorem qY:AI C0 96 [i64 1] (rZ 1):=Q8 Eh 1000 60 (rS og)
def Q0 (l:List UInt8):Int:=rv (CK l)
def Qr (l:List UInt8):Int:=if Cu l then rv (Bh l)else 1
instance  (x y:Int):AA (.tup [rZ x,rZ y]):=⟨.tup λd hd=>by
 simp only[Aw,Ds,or_false]at hd;rcases hd with rfl|rfl
 ·exact AA.out
 ·exact AA.out⟩
theorem P5 (l:List UInt8)(hn:(B5 (CK l)).all Bv=true)(hd:(B5 (Bh l)).all Bv=true)(hl:l.length<=1000000):AI C0 72 [str (sb l)] (.tup [rZ (Q0 l),rZ (Qr l)]):=by
 refine Ac.walk w1 d9w rfl λF=>?_
 have hsz:=Cd l;have cs:=Sh l (by omega);have hsl:=KZ l;have c1:=fL (CK l) hn (by unfold CK;rw[Be];omega);have c2:=fL (Bh l) hd (by unfold Bh;rw[D4];omega);have cw:=qY;unfold Q0 Qr;refine sR 0 ?_;refine sR 100 ?_;refine sR 200 ?_;refine cI cs ?_;cases hh:Cu l
 ·have he:BK l=l.length:=by
   unfold Cu at hh
   have:=Da hh
   omega
  have e0:(((BK l:Nat):Int)==(l.length:Int))=true:=EW.2 (by omega);have en:CK l=l:=by unfold CK;rw[he,Ci (Am _)]
  rw[en]at c1⊢;refine AC.seq ?_;refine sZ 300 ?_;refine AW (Ae hsz e0) ?_;refine AK ?_;refine sR 400 ?_;refine cI c1 ?_;refine BI.same _ cw AJ ?_;refine Bb ?_;refine AX ?_;exact AM rfl AA.out
 ·have he:BK l<l.length:=DQ hh
  have e0:(((BK l:Nat):Int)==(l.length:Int))=false:=B8.2 (by omega);have x1:(sb l).extract 0 (BK l)=sb (CK l):=by rw[Ex,Fr];rfl
  have x2:(sb l).extract (BK l+1) l.length=sb (Bh l):=by rw[Ex,Ci (Am _)];rfl
  have wk:IntKind.i64.wrap (((BK l:Nat):Int)+1)=((BK l+1:Nat):Int):=wI;refine AC.seq ?_;refine sZ 300 ?_;refine AW (Ae hsz e0) ?_;refine AK ?_;refine Ag ?_;refine AC.seq ?_;refine B0 500 [0,1,2,3,4,5,6,7] [8,9,10] ?_;refine AF (Cw hsz wk kN x1 x2) ?_;refine BN.same _ c1 AJ ?_;refine AF (Cw hsz wk kN x1 x2) ?_;refine BI.same _ c2 AJ ?_;refine Bb ?_;refine AX ?_;exact AM rfl AA.out
def Ao (r:Rat):List UInt8:=if r.den=1 then Lib.itoa r.num else Lib.itoa r.num++47::Lib.decDigits r.den
def qZ (x y:Int):Rat:=mkRat (if y<0 then -x else x) y.natAbs
theorem V5 {x:Int}{d:Nat}(hd:d≠0):(mkRat x d).num=sg (decide (x<0)) (x.natAbs/Nat.gcd x.natAbs d)/\(mkRat x d).den=d/Nat.gcd x.natAbs d:=by
 rw[mkRat,dif_neg hd,Rat.normalize_eq];refine⟨?_,rfl⟩;dsimp only;have hg:0<Nat.gcd x.natAbs d:=Nl _ (ER hd);obtain⟨p,hp⟩:=Nat.gcd_dvd_left x.natAbs d;have e1:x.natAbs/Nat.gcd x.natAbs d=p:=by
  refine Nat.div_eq_of_eq_mul_right hg hp
 have e2:x=(Nat.gcd x.natAbs d:Int)*sg (decide (x<0)) p:=by
  have h0:(x.natAbs:Int)=(Nat.gcd x.natAbs d:Int)*(p:Int):=by rw[<-FF,<-hp]
  unfold sg
  by_cases hx:x<0
  ·rw[Ax hx,AH rfl,Int.mul_neg,<-h0];omega
  ·rw[Az hx,AG (by decide),<-h0];omega
 rw[e1]
 conv=>lhs;arg 1;rw[e2]
 rw[Int.mul_ediv_cancel_left _ (by omega)]
theorem bp (q:Nat):((((((Aa q).map Ab).length:Nat):Int)==1)=true/\∃a,(Aa q)[0]?=some a/\(((a:Nat):Int)==1)=decide (q=1))\/((((((Aa q).map Ab).length:Nat):Int)==1)=false/\q≠1):=by
 rw[Al]
 by_cases h:(Aa q).length=1
 ·refine .inl ⟨EW.2 (by omega),?_⟩
  obtain⟨a,ha⟩:=Ca (l:=Aa q) (i:=0) (by omega);refine⟨a,ha,?_⟩;have e:Aa q=[a]:=by
   obtain⟨b,hb⟩:=List.length_eq_one_iff.1 h;rw[hb]at ha⊢;cases ha;rfl
  have e2:q=a:=by rw[<-EZ q,e];simp[AQ]
  rw[e2];rw[E6,EW,decide_eq_true_iff];omega
 ·refine .inr ⟨B8.2 (by omega),λhq=>h ?_⟩
  rw[hq,Rf (by decide) (by decide)];rfl
theorem Zc (x y:Int)(hy0:y≠0)(hx:Gp x)(hy:Gp y):AI C0 93 [rZ x,rZ y] (str (sb (Ao (qZ x y)))):=by
 refine Ac.walk w1 d9I rfl λF=>?_
 unfold qZ;refine sR 0 ?_;refine C9 (α:=Nat) (λn=>⟨[(2,.optr 0 0 2 0 0),(3,.optr 1 1 2 0 0)],[⟨1,1,145,2,[.agg [Av false,rD y.natAbs]]⟩,⟨0,0,145,2,[rZ (if y<0 then -x else x)]⟩],n⟩) (λ_=>True) ?_ ?_
 ·by_cases h:y<0
  ·have cx:=dh x hx
   have cy:=dh y hy;have e1:rZ (-y)=.agg [Av false,rD y.natAbs]:=by
    show D.agg [Av (decide (-y<0)),rD (-y).natAbs]=_;rw[BY,LG]
   rw[e1]at cy;rw[AH h];refine sZ 100 ?_;refine AW (Ax h) ?_;refine AK ?_;refine B0 200 [0,1,2] [3,4,5] ?_;refine AF kN ?_;refine BN.same _ cx AJ ?_;refine AF kN ?_;refine BI.same _ cy AJ ?_;refine Bb ?_;exact⟨trivial,_,trivial,AN⟩
  ·have e1:rZ y=.agg [Av false,rD y.natAbs]:=by
    show D.agg [Av (decide (y<0)),rD y.natAbs]=_;rw[Az h]
   rw[AG h];refine sZ 100 ?_;refine AW (Az h) ?_;refine AK ?_;refine Ag ?_;refine⟨rfl,5,trivial,?_⟩;rw[<-e1];exact AN
 rintro n0 -;obtain⟨z,hz⟩:∃z,z=(if y<0 then -x else x):=⟨_,rfl⟩
 have hza:z.natAbs=x.natAbs:=by rw[hz];split<;>omega
 obtain⟨d,hd⟩:∃d,d=y.natAbs:=⟨_,rfl⟩
 have hd0:d≠0:=by omega
 unfold Gp at hx hy;rw[<-hza]at hx;rw[<-hd]at hy;rw[<-hz,<-hd];clear hz hza hd hy0;clear x y;have cg:=bB z.natAbs d hx hy;obtain⟨qn,qd⟩:=V5 (x:=z) hd0;have hg:0<Nat.gcd z.natAbs d:=Nl _ (ER hd0);have hgl:(Aa (Nat.gcd z.natAbs d)).length<1000000:=DD (Ji _ _ (RI _ (ER hd0))) hy;have c4:=YH z.natAbs (Nat.gcd z.natAbs d) (by omega) hx hgl;have c5:AI C0 123 [rD d,rD (Nat.gcd z.natAbs d)] (.tup [.sl false 1 ((Aa (d/Nat.gcd z.natAbs d)).map Ab),rD (d%Nat.gcd z.natAbs d)]):=YH d (Nat.gcd z.natAbs d) (by omega) hy hgl;have hpl:(Aa (z.natAbs/Nat.gcd z.natAbs d)).length<1000000:=DD (Ji _ _ (GH _ _)) hx;have hql:(Aa (d/Nat.gcd z.natAbs d)).length<1000000:=DD (Ji _ _ (GH _ _)) hy;have etx:Ao (mkRat z d)=if d/Nat.gcd z.natAbs d=1 then Lib.itoa (sg (decide (z<0)) (z.natAbs/Nat.gcd z.natAbs d))else Lib.itoa (sg (decide (z<0)) (z.natAbs/Nat.gcd z.natAbs d))++47::Lib.decDigits (d/Nat.gcd z.natAbs d):=by
  unfold Ao;rw[qn,qd]
 rw[etx];clear etx qn qd hg hgl;generalize z.natAbs/Nat.gcd z.natAbs d=p at*;generalize d/Nat.gcd z.natAbs d=q at*;generalize z.natAbs%Nat.gcd z.natAbs d=r1 at*;generalize d%Nat.gcd z.natAbs d=r2 at*;generalize Nat.gcd z.natAbs d=gg at*;have c6:=Ms (decide (z<0)) p (by omega);have hab:(sg (decide (z<0)) p).natAbs=p:=by unfold sg;split<;>omega
 have c7:=Xb (sg (decide (z<0)) p) (by unfold Gp;rw[hab];exact hpl);have c8:=Ms false q (by omega);have c9:=Xb (sg false q) (by unfold Gp;show(Aa q).length<1000000;exact hql);have e9:Lib.itoa (sg false q)=Lib.decDigits q:=by rw[eU false q (by simp)];rfl
 rw[e9]at c9;have l1:=P8 (FM p);rw[EZ]at l1;have l2:=P8 (FM q);rw[EZ]at l2;have l3:(Lib.itoa (sg (decide (z<0)) p)).length<=(Lib.decDigits p).length+1:=by
  unfold Lib.itoa;split
  ·rw[hab,By];exact Am _
  ·rw[show(sg (decide (z<0)) p).toNat=p by omega];omega
 generalize sg (decide (z<0)) p=pz at*;have s1:=Cd (Lib.itoa pz);have s2:=Cd (Lib.decDigits q);have s3:(⟨#[47]⟩:ByteArray).size=1:=rfl;have s4:(sb (Lib.itoa pz)++(⟨#[47]⟩:ByteArray)).size=(sb (Lib.itoa pz)).size+(⟨#[47]⟩:ByteArray).size:=ByteArray.size_append;generalize Lib.itoa pz=t1 at*;generalize Lib.decDigits q=t2 at*;refine sR 300 ?_;refine cI cg ?_;refine sR 400 ?_;refine cI c4 ?_;refine sR 500 ?_;refine cI c5 ?_;refine sR 600 ?_;refine cI c6 ?_;refine cI c7 ?_;have ht:=bp q;rcases ht with⟨h1,a,ha,h2⟩|⟨h1,h2⟩
 ·have ha':=EB ha
  refine AC.seq ?_;refine sZ 700 ?_;refine AF h1 ?_;refine CN kT ha' ?_;refine AF (Ae h1 h2) ?_
  by_cases hq:q=1
  ·rw[Ax hq,AH hq]
   refine AK ?_;refine sR 800 ?_;refine AX ?_;exact AM rfl AA.out
  ·rw[Az hq,AG hq]
   refine AK ?_;refine Ag ?_;refine sR 900 ?_;refine BI.same _ c8 AJ ?_;refine Bb ?_;refine BI.same _ c9 AJ ?_;refine Bb ?_;refine AX ?_;refine AM ?_ AA.out;show str ((⟨t1.toArray⟩++⟨([47]:List UInt8).toArray⟩:ByteArray)++⟨t2.toArray⟩)=_;rw[Ig,Ig,DO];rfl
 ·rw[AG h2]
  refine AC.seq ?_;refine sZ 700 ?_;refine AW h1 ?_;refine AF kF ?_;refine AK ?_;refine Ag ?_;refine sR 900 ?_;refine BI.same _ c8 AJ ?_;refine Bb ?_;refine BI.same _ c9 AJ ?_;refine Bb ?_;refine AX ?_;refine AM ?_ AA.out;show str ((⟨t1.toArray⟩++⟨([47]:List UInt8).toArray⟩:ByteArray)++⟨t2.toArray⟩)=_;rw[Ig,Ig,DO];rfl
set_option maxHeartbeats 2000000
theorem Vh (k:Nat)(h:k<10):(UInt8.ofNat (48+k)).toNat=48+k:=by
 rw[UInt8.toNat_ofNat'];omega
theorem GQ:∀n:Nat,(Lib.decDigits n).all Bv=true/\dv (Lib.decDigits n)=n/\(Lib.decDigits n)≠[]:=λn=>by
 induction n using Nat.strongRecOn with
 |_ n ih=>
  have one:∀k,k<10->Bv (UInt8.ofNat (48+k))=true:=λk hk=>by
   unfold Bv;rw[Vh k hk,BM];exact⟨Nat.ble_eq_true_of_le (by omega),Nat.ble_eq_true_of_le (by omega)⟩
  have vone:∀k,k<10->dv [UInt8.ofNat (48+k)]=k:=λk hk=>by
   show 0*10+((UInt8.ofNat (48+k)).toNat-48)=k;rw[Vh k hk];omega
  rw[Lib.decDigits];split
  ·rename_i h
   exact⟨by rw[Ft,one n h];rfl,vone n h,by simp⟩
  ·rename_i h
   obtain⟨h1,h2,h3⟩:=ih (n/10) (by omega);refine⟨by rw[RJ,h1,Ft,one _ (CJ _ (by decide))];rfl,?_,by simp⟩;rw[Pe,h2,vone _ (CJ _ (by decide)),Ho];omega
theorem vW {c:UInt8}(h:Bv c=true):c≠47/\c≠45:=by
 obtain⟨h1,h2⟩:=Mi h;exact⟨λhh=>by subst hh;simp at h1,λhh=>by subst hh;simp at h1⟩
theorem Pu (z:Int):Dg (Lib.itoa z)=decide (z<0)/\B5 (Lib.itoa z)=Lib.decDigits z.natAbs:=by
 unfold Lib.itoa
 by_cases h:z<0
 ·rw[AH h,Ax h]
  exact⟨rfl,rfl⟩
 ·rw[AG h,Az h,show z.toNat=z.natAbs by omega]
  have h1:=Uy (GQ z.natAbs).1;exact⟨h1,LT (GQ z.natAbs).1⟩
theorem fB (z:Int):rv (Lib.itoa z)=z:=by
 unfold rv;rw[(Pu z).1,(Pu z).2,(GQ z.natAbs).2.1]
 by_cases h:z<0
 ·rw[Ax h,AH rfl];omega
 ·rw[Az h,AG (by decide)];omega
theorem Yu (z:Int):∀c∈Lib.itoa z,(c != 47)=true:=λc hc=>by
 have hd:∀n,∀c∈Lib.decDigits n,(c != 47)=true:=λn c h=>by
  have:=(vW (Cc.1 (GQ n).1 c h)).1
  simpa using this
 unfold Lib.itoa at hc;split at hc
 ·rcases Aw.1 hc with rfl|h
  ·rfl
  ·exact hd _ c h
 ·exact hd _ c hc
theorem Uf {p:UInt8->Bool}:∀ {l:List UInt8} (m:List UInt8),(∀c∈l,p c=true)->(l++m).takeWhile p=l++m.takeWhile p
 | [],_,_=>rfl
 |a::l,m,h=>by
  rw[Gr,PJ,AH (h a CF),Uf m λc hc=>h c (B6 _ hc)];rfl
theorem Po (r:Rat):BK (Ao r)=(Lib.itoa r.num).length:=by
 unfold BK Ao;split
 ·have:=Uf (p:=(· != 47)) [] (Yu r.num)
  rw[Dh]at this;rw[this];simp
 ·rw[Uf (p:=(· != 47)) _ (Yu r.num)]
  simp
theorem QH (r:Rat):CK (Ao r)=Lib.itoa r.num:=by
 unfold CK;rw[Po];unfold Ao;split
 ·exact Ci (Am _)
 ·exact List.take_left' rfl
theorem OJ (r:Rat):Bh (Ao r)=if r.den=1 then[]else Lib.decDigits r.den:=by
 unfold Bh;rw[Po];unfold Ao;split
 ·exact IR (Nat.le_succ _)
 ·rw[List.drop_append]
  rw[IR (Nat.le_succ _),MX];rfl
theorem Sj (r:Rat):Cu (Ao r) = !decide (r.den=1):=by
 unfold Cu;rw[Po];unfold Ao
 by_cases h:r.den=1
 ·rw[AH h,Ax h,BY];rfl
 ·rw[AG h,Az h,Bz,By,BV];rfl
theorem Vn (r:Rat):Q0 (Ao r)=r.num:=by unfold Q0;rw[QH,fB]
theorem bi (r:Rat):Qr (Ao r)=r.den:=by
 unfold Qr;rw[Sj,OJ]
 by_cases h:r.den=1
 ·rw[Ax h,h];rfl
 ·rw[Az h,AG h,AH (show(!false)=true from rfl),OW (GQ _).1,(GQ _).2.1]
theorem SJ (r:Rat):(B5 (CK (Ao r))).all Bv=true:=by rw[QH,(Pu _).2];exact(GQ _).1
theorem SH (r:Rat):(B5 (Bh (Ao r))).all Bv=true:=by
 rw[OJ];split
 ·rfl
 ·rw[LT (GQ _).1];exact(GQ _).1
theorem eM (z:Int):Lib.itoa z≠[]:=by
 unfold Lib.itoa;split
 ·simp
 ·exact(GQ _).2.2
theorem jR (r:Rat):Ao r≠[]:=by
 unfold Ao;split
 ·exact eM _
 ·simp
theorem fW (r:Rat):Dg (Ao r)=decide (r.num<0):=by
 rw[<-(Pu r.num).1];unfold Ao;split
 ·rfl
 ·have:=eM r.num
  cases h:Lib.itoa r.num with
  |nil=>exact Ah h this
  |cons c l=>rfl
theorem sO (r:Rat):decide (Ao r=[48])=decide (r.num=0):=by
 refine ED.2 ⟨λh=>?_,λh=>?_⟩
 ·have h1:=Vn r
  rw[h]at h1;rw[<-h1];decide
 ·have:r.den=1:=by
   have:=r.reduced
   rw[h]at this;simpa using this
  unfold Ao;rw[AH this,h];show Lib.decDigits 0=[48];rw[Lib.decDigits,dif_pos (by decide)];rfl
abbrev rR (r:Rat):D:=str (sb (Ao r))
def HE (r:Rat):Prop:=(Ao r).length<=1000000
theorem XW (r:Rat)(hl:HE r):AI C0 68 [rR r] (i64 (Ga r)):=by
 refine Ac.walk w1 d9s rfl λF=>?_
 have hsz:=Cd (Ao r);unfold HE at hl;have ez:=E1 (Ao r) [48];rw[sO]at ez;have en:=fW r;refine sR 0 ?_;refine AC.seq ?_;refine AC.seq ?_;have ez2:BU (sb (Ao r)) ⟨#[48]⟩=decide (r.num=0):=ez;have hne:=jR r;refine An 100 ?_;refine AW ez2 ?_
 by_cases h0:r.num=0
 ·rw[Ax h0]
  refine AK ?_;refine sR 200 ?_;refine AX ?_;exact AM (by unfold Ga;rw[h0];rfl) AA.out
 ·rw[Az h0]
  have hpos:0<(Ao r).length:=List.length_pos_iff.2 hne;have e0:decide (((sb (Ao r)).size:Int)>0)=true:=BV;have e1:((((Ao r).getD (Int.toNat 0) 0).toNat:Int)==45)=decide (r.num<0):=by
   rw[<-en];cases ht:Ao r with
   |nil=>exact Ah ht hne
   |cons c l=>exact SX c l
  refine AK ?_;refine Ag ?_;refine AC.seq ?_;refine sZ 300 ?_;refine AF e0 ?_;refine AF (BG kT e0 e1) ?_
  by_cases hn:r.num<0
  ·rw[Ax hn]
   refine AK ?_;refine sR 400 ?_;refine AX ?_;exact AM (by unfold Ga;congr 3;omega) AA.out
  ·rw[Az hn]
   refine AK ?_;refine Ag ?_;refine sR 500 ?_;refine AX ?_;exact AM (by unfold Ga;congr 3;omega) AA.out
theorem Sk (z:Int):Ao (z:Rat)=Lib.itoa z:=by
 unfold Ao;rw[AH (Rat.den_intCast z),Rat.num_intCast]
theorem e0c (r:Rat)(hl:HE r):AI C0 25 [rR r] (rR (r.num:Rat)):=by
 refine Ac.walk w1 d8Q rfl λF=>?_
 have hsz:=Cd (Ao r);unfold HE at hl;have cs:=Sh (Ao r) (by omega);have hle:=KZ (Ao r);have e1:(sb (Ao r)).extract 0 (BK (Ao r))=sb (Ao (r.num:Rat)):=by rw[Ex,Fr,Sk,<-QH];rfl
 refine sR 0 ?_;refine sR 100 ?_;refine cI cs ?_;simp only[Iv,e1];refine AX ?_;exact AM rfl AA.out
theorem d8D (r:Rat)(hl:HE r):AI C0 26 [rR r] (rR ((r.den:Int):Rat)):=by
 refine Ac.walk w1 d8R rfl λF=>?_
 have hsz:=Cd (Ao r);unfold HE at hl;have cs:=Sh (Ao r) (by omega);have hh:=Sj r;have hle:=KZ (Ao r);unfold Cu at hh;have ed:=OJ r;unfold Bh at ed;refine sR 0 ?_;refine sR 100 ?_;refine cI cs ?_;refine AC.seq ?_;refine AC.seq ?_
 by_cases h:r.den=1
 ·rw[Ax h]at hh
  have hge:=Da (p:=BK (Ao r)<(Ao r).length) hh;have et:(((BK (Ao r):Nat):Int)==((Ao r).length:Int))=true:=EW.2 (by omega);refine An 200 ?_;refine AW (Ae hsz et) ?_;refine AK ?_;refine sR 300 ?_;refine AX ?_;refine AM ?_ AA.out;show _=str (sb (Ao ((r.den:Int):Rat)));rw[Sk,h];show _=str (sb (Lib.decDigits 1));rw[Lib.decDigits,dif_pos (by decide)];rfl
 ·rw[Az h]at hh
  have hge:=DQ (p:=BK (Ao r)<(Ao r).length) hh;have et:(((BK (Ao r):Nat):Int)==((Ao r).length:Int))=false:=B8.2 (by omega);have wk:IntKind.i64.wrap (((BK (Ao r):Nat):Int)+1)=((BK (Ao r)+1:Nat):Int):=wI;have e1:(sb (Ao r)).extract (BK (Ao r)+1) (Ao r).length=sb (Ao ((r.den:Int):Rat)):=by
   rw[AG h]at ed;rw[Ex,Ci (Am _),ed,Sk];rfl
  refine An 200 ?_;refine AW (Ae hsz et) ?_;refine AK ?_;refine Ag ?_;refine sZ 400 ?_;refine AF (BG hsz wk kN) ?_;refine AF e1 ?_;refine AX ?_;exact AM rfl AA.out
theorem WK {r:Rat}(h:r.num<0):(Ao r).drop 1=Ao (-r)/\(Ao (-r)).length+1=(Ao r).length:=by
 have e:Lib.itoa r.num=45::Lib.itoa (-r.num):=by
  unfold Lib.itoa;rw[AH h,B3,show(-r.num).toNat=r.num.natAbs by omega]
 have e2:Ao r=45::Ao (-r):=by
  unfold Ao;rw[Rat.neg_den,Rat.neg_num,e];split<;>rfl
 rw[e2];exact⟨rfl,rfl⟩
theorem vD (r:Rat):decide (Ga r<0)=decide (r.num<0):=ED.2 (by unfold Ga;omega)
theorem d8w (r:Rat)(hl:HE r):AI C0 24 [rR r] (rR (if r.num<0 then -r else r)):=by
 refine Ac.walk w1 d8P rfl λF=>?_
 have hsz:=Cd (Ao r);have cs:=XW r hl;unfold HE at hl;have e1:=vD r;refine sR 0 ?_;refine AC.seq ?_;refine sR 100 ?_;refine cI cs ?_;rw[e1]
 by_cases h:r.num<0
 ·obtain⟨t1,t2⟩:=WK h
  have ee:(sb (Ao r)).extract (Int.toNat 1) (Ao r).length=sb (Ao (-r)):=by
   rw[Ex,Ci (Am _),<-t1];rfl
  rw[Ax h,AH h];refine AK ?_;refine sZ 200 ?_;refine AF (Ae hsz kN) ?_;rw[ee];refine AX ?_;exact AM rfl AA.out
 ·rw[Az h,AG h]
  refine AK ?_;refine Ag ?_;refine sR 300 ?_;refine AX ?_;exact AM rfl AA.out
def DY (r:Rat):Rat:=if r.num<0 then -r else r
theorem SM (r:Rat):(DY r).num=r.num.natAbs/\(DY r).den=r.den:=by
 unfold DY;split
 ·rw[Rat.neg_num,Rat.neg_den];exact⟨by omega,rfl⟩
 ·exact⟨by omega,rfl⟩
def qk (r:Rat):Bool:=!decide (20<(Ao r).length) && !(decide (9<BK (Ao (DY r)))||decide (10<(Ao (DY r)).length-BK (Ao (DY r))))
theorem rV (r:Rat):(Ao (DY r)).length<=(Ao r).length:=by
 unfold DY;split
 ·rename_i h
  have:=(WK h).2
  omega
 ·exact Am _
theorem U9 (r:Rat):Lib.itoa (DY r).num=Lib.decDigits r.num.natAbs:=by
 rw[(SM r).1];unfold Lib.itoa;rw[B3];rfl
theorem Px {r:Rat}(h:qk r=true):r.num.natAbs<10^9/\r.den<10^9:=by
 unfold qk at h;simp only[BM,BZ,LH,PF]at h;obtain⟨h1,h2,h3⟩:=h;have hs:=Po (DY r);rw[U9]at hs;have hd:=OJ (DY r);rw[(SM r).2]at hd;have hdl:(Bh (Ao (DY r))).length=(Ao (DY r)).length-(BK (Ao (DY r))+1):=by unfold Bh;rw[D4]
 have d1:=G8 _ (GQ r.num.natAbs).1;have d2:=G8 _ (GQ r.den).1;rw[(GQ _).2.1]at d1 d2;refine⟨Cb d1 (Fc (by decide) (by omega)),?_⟩
 by_cases h1:r.den=1
 ·rw[h1];decide
 ·rw[AG h1]at hd
  rw[hd]at hdl;exact Cb d2 (Fc (by decide) (by omega))
theorem Sw (r:Rat)(hl:HE r):AI C0 91 [rR r] (.tup [i64 (if qk r then r.num else 0),i64 (if qk r then(r.den:Int)else 0),Av (qk r)]):=by
 refine Ac.walk w1 d9G rfl λF=>?_
 have hsz:=Cd (Ao r);unfold HE at hl;have hne:=jR r;have hpos:0<(Ao r).length:=List.length_pos_iff.2 hne;refine sR 0 ?_;refine sR 100 ?_;refine AC.seq ?_;refine AC.seq ?_
 by_cases h20:20<(Ao r).length
 ·have e2:decide (((Ao r).length:Int)>20)=true:=BV
  have eq:qk r=false:=by unfold qk;rw[Ax h20];rfl
  rw[eq];refine An 200 ?_;refine AW (Ae hsz e2) ?_;refine AK ?_;refine sR 300 ?_;refine AX ?_;exact AM rfl AA.out
 ·have e2:decide (((Ao r).length:Int)>20)=false:=BY
  have eq:qk r = !(decide (9<BK (Ao (DY r)))||decide (10<(Ao (DY r)).length-BK (Ao (DY r)))):=by unfold qk;rw[Az h20];rfl
  have en:=fW r;refine An 200 ?_;refine AW (Ae hsz e2) ?_;refine AK ?_;refine Ag ?_;refine C9 (α:=Nat) (λn=>⟨[(5,rR r),(6,Av (decide (r.num<0)))],[],n⟩) (λ_=>True) ?_ ?_
  ·have e0:decide (((sb (Ao r)).size:Int)>0)=true:=BV
   have e1:((((Ao r).getD (Int.toNat 0) 0).toNat:Int)==45)=decide (r.num<0):=by
    rw[<-en];cases ht:Ao r with
    |nil=>exact Ah ht hne
    |cons c l=>exact SX c l
   refine An 400 ?_;refine AF e0 ?_;refine AF (BG kT e0 e1) ?_;exact⟨trivial,_,trivial,AN⟩
  rintro n0 -;refine C9 (α:=Nat) (λn=>⟨[(5,rR (DY r)),(6,Av (decide (r.num<0)))],[],n⟩) (λ_=>True) ?_ ?_
  ·refine sR 500 ?_
   by_cases h:r.num<0
   ·obtain⟨t1,t2⟩:=WK h
    have ea:DY r = -r:=by unfold DY;rw[AH h]
    have ee:(sb (Ao r)).extract (Int.toNat 1) (Ao r).length=sb (Ao (DY r)):=by
     rw[ea,Ex,Ci (Am _),<-t1];rfl
    rw[Ax h];refine AK ?_;refine An 600 ?_;refine AF (Ae hsz kN) ?_;rw[ee];exact⟨trivial,_,trivial,AN⟩
   ·have ea:DY r=r:=by unfold DY;rw[AG h]
    rw[Az h,ea];refine AK ?_;refine Ag ?_;exact⟨rfl,_,trivial,AN⟩
  rintro n1 -;have hal:=rV r;have hsa:=Po (DY r);rw[U9]at hsa;have hn:=QH (DY r);rw[U9]at hn;have hd:=OJ (DY r);rw[(SM r).2]at hd;have hh:=Sj (DY r);rw[(SM r).2]at hh;unfold Cu at hh;have hle:=KZ (Ao (DY r));have cs:=Sh (Ao (DY r)) (by omega);have hszA:=Cd (Ao (DY r));clear hsz hne hpos e2 en;generalize hT:Ao (DY r)=T at*;have eR:rR (DY r)=str (sb T):=by rw[<-hT]
  rw[eR];clear hT eR;refine sR 700 ?_;refine cI cs ?_;have w8:IntKind.i64.wrap ((T.length:Int)-(BK T:Int))=((T.length-BK T:Nat):Int):=by rw[wI];omega
  have eb:decide (((T.length-BK T:Nat):Int)>10)=decide (10<T.length-BK T):=ED.2 (by omega)
  by_cases h9:9<BK T
  ·have e8:decide ((BK T:Int)>9)=true:=BV
   rw[Ax h9]at eq;have eq2:qk r=false:=eq;rw[eq2];refine AC.seq ?_;refine sZ 800 ?_;refine AW e8 ?_;refine AF kT ?_;refine AK ?_;refine sR 900 ?_;refine AX ?_;exact AM rfl AA.out
  have e8:decide ((BK T:Int)>9)=false:=BY;rw[Az h9]at eq
  by_cases h10:10<T.length-BK T
  ·rw[Ax h10]at eq eb
   have eq2:qk r=false:=eq;rw[eq2];refine AC.seq ?_;refine sZ 800 ?_;refine AW e8 ?_;refine AF (Bo kF hszA w8 eb) ?_;refine AK ?_;refine sR 900 ?_;refine AX ?_;exact AM rfl AA.out
  rw[Az h10]at eq eb;have eq2:qk r=true:=eq;rw[eq2];refine AC.seq ?_;refine sZ 800 ?_;refine AW e8 ?_;refine AF (Bo kF hszA w8 eb) ?_;refine AK ?_;refine Ag ?_;have hd1:=GQ r.num.natAbs;have hd2:=GQ r.den;have c1:=Sl (Lib.decDigits r.num.natAbs) hd1.1 (by omega);rw[hd1.2.1]at c1;have e10:(sb T).extract 0 (BK T)=sb (Lib.decDigits r.num.natAbs):=by
   rw[Ex,Fr,<-hn];rfl
  refine sZ 1000 ?_;refine AF (Ae hszA kN) ?_;refine AF e10 ?_;refine BI.same _ c1 AJ ?_;refine Bb ?_;refine C9 (α:=Nat) (λn=>⟨[(6,Av (decide (r.num<0))),(8,i64 (r.num.natAbs:Int)),(9,i64 (r.den:Int))],[],n⟩) (λ_=>True) ?_ ?_
  ·by_cases hden:r.den=1
   ·rw[Ax hden]at hh
    have e11:decide ((BK T:Int)<(T.length:Int))=false:=Az (by have:=Da (p:=BK T<T.length) hh;omega);rw[hden];refine sZ 1100 ?_;refine AW (Ae hszA e11) ?_;refine AK ?_;refine Ag ?_;exact⟨rfl,_,trivial,AN⟩
   ·rw[Az hden]at hh
    rw[AG hden]at hd;have hlt:=DQ (p:=BK T<T.length) hh;have e11:decide ((BK T:Int)<(T.length:Int))=true:=BV;have wk:IntKind.i64.wrap (((BK T:Nat):Int)+1)=((BK T+1:Nat):Int):=wI;have e12:(sb T).extract (BK T+1) T.length=sb (Lib.decDigits r.den):=by
     rw[Ex,Ci (Am _),<-hd];rfl
    have hdl:(Lib.decDigits r.den).length<=18:=by
     rw[<-hd];unfold Bh;rw[D4];omega
    have c2:=Sl (Lib.decDigits r.den) hd2.1 hdl;rw[hd2.2.1]at c2;refine sZ 1100 ?_;refine AW (Ae hszA e11) ?_;refine AK ?_;refine An 1200 ?_;refine AF (BG hszA wk kN) ?_;refine AF e12 ?_;refine BI.same _ c2 AJ ?_;refine Bb ?_;exact⟨trivial,_,trivial,AN⟩
  rintro n2 -;obtain⟨b1,b2⟩:=Px eq2;refine C9 (α:=Nat) (λn=>⟨[(8,i64 r.num),(9,i64 (r.den:Int))],[],n⟩) (λ_=>True) ?_ ?_
  ·refine sR 1300 ?_
   by_cases h:r.num<0
   ·have wn:IntKind.i64.wrap (0-(r.num.natAbs:Int))=r.num:=by rw[wI];omega
    rw[Ax h];refine AK ?_;refine An 1400 ?_;refine AW wn ?_;exact⟨trivial,_,trivial,AN⟩
   ·have en:(r.num.natAbs:Int)=r.num:=by omega
    rw[Az h,en];refine AK ?_;refine Ag ?_;exact⟨rfl,_,trivial,AN⟩
  rintro n3 -;refine sR 1500 ?_;refine AX ?_;exact AM rfl AA.out
theorem qc (b:Bool)(n:Nat):(sg b n).natAbs=n:=by unfold sg;split<;>omega
theorem ko (z:Int)(d:Nat)(hz:z.natAbs<=4000000000000000000)(hd0:0<d)(hd:d<=4000000000000000000):AI C0 92 [i64 z,i64 (d:Int)] (rR (mkRat z d)):=by
 refine Ac.walk w1 d9H rfl λF=>?_
 have hg:0<Nat.gcd z.natAbs d:=Nl _ hd0;have hgl:Nat.gcd z.natAbs d<=d:=RI _ hd0;obtain⟨qn,qd⟩:=V5 (x:=z) (d:=d) (by omega);have etx:Ao (mkRat z d)=if d/Nat.gcd z.natAbs d=1 then Lib.itoa (mkRat z d).num else Lib.itoa (mkRat z d).num++47::Lib.decDigits (d/Nat.gcd z.natAbs d):=by
  unfold Ao;rw[qd]
 have q1:z.tdiv (Nat.gcd z.natAbs d:Nat)=(mkRat z d).num:=by
  rw[qn];obtain⟨p,hp⟩:=Nat.gcd_dvd_left z.natAbs d;have e1:z.natAbs/Nat.gcd z.natAbs d=p:=Nat.div_eq_of_eq_mul_right hg hp;have e2:z=(Nat.gcd z.natAbs d:Int)*sg (decide (z<0)) p:=by
   have h0:(z.natAbs:Int)=(Nat.gcd z.natAbs d:Int)*(p:Int):=by rw[<-FF,<-hp]
   unfold sg
   by_cases hx:z<0
   ·rw[Ax hx,AH rfl,Int.mul_neg,<-h0];omega
   ·rw[Az hx,AG (by decide),<-h0];omega
  rw[e1]
  conv=>lhs;arg 1;rw[e2]
  rw[Int.mul_tdiv_cancel_left _ (by omega)]
 have q2:(d:Int).tdiv (Nat.gcd z.natAbs d:Nat)=((d/Nat.gcd z.natAbs d:Nat):Int):=rfl;have q5:(mkRat z d).num.natAbs<=4000000000000000000:=by
  rw[qn];rw[qc];exact BP (GH _ _) hz
 have q4:d/Nat.gcd z.natAbs d<=4000000000000000000:=BP (GH _ _) hd;have hx:0<d/Nat.gcd z.natAbs d:=Nat.div_pos hgl hg;have ert:rR (mkRat z d)=str (sb (if d/Nat.gcd z.natAbs d=1 then Lib.itoa (mkRat z d).num else Lib.itoa (mkRat z d).num++47::Lib.decDigits (d/Nat.gcd z.natAbs d))):=by rw[<-etx]
 rw[ert];clear etx ert qn qd;generalize(mkRat z d).num=pz at*;refine fR 0 ?_;refine Fp ⟨[(0,i64 z),(1,i64 d),(4,str ⟨#[]⟩)],[],50⟩ ?_ ?_
 ·refine AC.seq ?_
  have l1:(decide (z < -4000000000000000000))=false:=by apply Az;omega
  have l2:(decide (z>4000000000000000000))=false:=by apply Az;omega
  have l3:(decide ((d:Int) < -4000000000000000000))=false:=by apply Az;omega
  have l4:(decide ((d:Int)>4000000000000000000))=false:=by apply Az;omega
  refine An 100 ?_
  repeat'(first|(refine A7 (by exact Bu) ?_;(refine BA ?_);(try simp only[J5,Oq,l1,l2,l3,l4]))|((refine Bn (λhb=>?_) (λhb=>?_))<;>(try simp only[BZ,Bl]at hb)<;>(try simp only[hb])<;>(refine BA ?_)))
  refine AK ?_;refine Ag ?_;exact A7 (by trivial) (AN)
 refine Fp ⟨[(0,i64 z),(1,i64 d),(4,str ⟨#[]⟩)],[],100⟩ ?_ ?_
 ·refine fR 300 ?_
  refine AK ?_;have e27:(decide ((d:Int)<0))=false:=by simp
  rw[e27];refine Ag ?_;exact A7 (by trivial) (AN)
 refine AC.seq ?_;have m1:max z (IntKind.i64.wrap (0-z))=(z.natAbs:Int):=by rw[wI];omega
 refine An 500 ?_;refine HS m1 ?_;refine dI (uz z.natAbs d (by omega) (by omega)) ?_;refine AC.seq ?_;refine B0 600 [0,1,2,3,4,5,6] [7] ?_;refine A9 ?_;have w1p:IntKind.i64.wrap pz=pz:=wI;rw[q1,q2,w1p,wN (BP q4 (by decide))];clear q1 q2 hg hgl;generalize d/Nat.gcd z.natAbs d=y at*;refine fR 700 ?_;have c1:=Rj pz.natAbs 1 (by omega);have c2:=Rj y 1 (by omega);rw[cz]at c1 c2;have s1:=KV 18 pz.natAbs (DD q5 (by decide));have s2:=KV 18 y (DD q4 (by decide));have z1:=M2 (Lib.decDigits pz.natAbs);have z2:=M2 (Lib.decDigits y);have m1:max pz (IntKind.i64.wrap (0-pz))=(pz.natAbs:Int):=by rw[wI];omega
 refine C9 (α:=Nat) (λn=>⟨[(0,i64 pz),(1,i64 (y:Int)),(4,str ⟨#[]⟩),(6,str (sb (if pz<0 then[45]else[])))],[],n⟩) (λ_=>True) ?_ ?_
 ·refine fR 800 ?_
  by_cases h:pz<0
  ·rw[Ax h,AH h]
   refine AK ?_;refine fI 900 ?_;exact⟨rfl,_,trivial,AN⟩
  ·rw[Az h,AG h]
   refine AK ?_;refine Ag ?_;exact⟨rfl,_,trivial,AN⟩
 rintro n0 -;have ei:(if pz<0 then[45]else[])++Lib.decDigits pz.natAbs=Lib.itoa pz:=by
  unfold Lib.itoa;split
  ·rfl
  ·rw[show pz.toNat=pz.natAbs by omega];rfl
 have z3:=Cd (if pz<0 then[45]else[]);have z4:(if pz<0 then[45]else[]:List UInt8).length<=1:=by split<;>simp
 have z5:(Lib.itoa pz).length<=20:=by rw[<-ei,Bz];omega
 refine sZ 1000 ?_;refine HS m1 ?_;refine dI c1 ?_;rw[Ig,ei];have z6:=M2 (Lib.itoa pz);generalize Lib.itoa pz=t1 at*;clear ei z3 z4;refine C9 (α:=Nat) (λn=>⟨[(6,str (sb (if y=1 then t1 else t1++47::Lib.decDigits y)))],[],n⟩) (λ_=>True) ?_ ?_
 ·refine fR 1100 ?_
  by_cases hy:y=1
  ·rw[AH hy]
   have e54:(decide ((y:Int)>1))=false:=by apply Az;omega
   rw[e54];refine AK ?_;refine Ag ?_;exact⟨rfl,_,trivial,AN⟩
  ·rw[AG hy]
   have e54:(decide ((y:Int)>1))=true:=by apply Ax;omega
   have s3:(⟨#[47]⟩:ByteArray).size=1:=rfl;have sc:((⟨t1.toArray⟩:ByteArray)++(⟨#[47]⟩:ByteArray)).size=(⟨t1.toArray⟩:ByteArray).size+(⟨#[47]⟩:ByteArray).size:=ByteArray.size_append;rw[e54];refine AK ?_;refine fI 1200 ?_;refine dI c2 ?_;have e47:(⟨#[47]⟩:ByteArray)=⟨([47]:List UInt8).toArray⟩:=rfl;rw[e47,Ig,Ig,DO,Gr,E7];exact⟨rfl,_,trivial,AN⟩
 rintro n1 -;refine fR 1300 ?_;refine AX ?_;exact AM rfl AA.out
end Go.Ide
