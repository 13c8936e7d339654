/- The layer of own lemmas and contracts, part 9. -/
import Derived.Test.YtbfcnlkcimghoaaGreatDoorAB8
import Derived.Test.YtbfcnlkcimghoaaGreatDoorAB7
import Derived.Test.YtbfcnlkcimghoaaGreatDoorAB4
set_option linter.unusedVariables false
set_option linter.unusedSimpArgs false
namespace Go.Ide
open Go.Proofs Go.RowKit
set_option maxRecDepth 20000
set_option maxHeartbeats 2000000
theorem WZ {n k:Nat}(h:(Ad n).length<=k):(Aa n).length<=3*k:=by
 refine LP (Cb (Kg n) ?_);rw[Nat.pow_mul];exact BP (Fc (by decide) h) (PK (by decide) k)
theorem Od {n k:Nat}(h:(Ad n).length<=k):(Lib.decDigits n).length<=27*k+1:=by
 have h1:=P8 (FM n);rw[EZ]at h1
 have:=WZ h
 omega
theorem tV {z:Int}{k:Nat}(h:(Ad z.natAbs).length<=k):(Lib.itoa z).length<=27*k+2:=by
 have:=Od h
 unfold Lib.itoa;split
 ·rw[By];omega
 ·rw[show z.toNat=z.natAbs by omega];omega
theorem NA {r:Rat}{k:Nat}(h:rk r k)(hk:k<=10000):HE r:=by
 have h1:=tV h.1;have h2:=Od h.2;unfold HE Ao;split
 ·omega
 ·rw[Bz,By];omega
def LZ (x:Int)(p:Nat):Prop:=(Aa x.natAbs).length<=p
theorem LZ.mul {x y:Int}{p q:Nat}(hx:LZ x p)(hy:LZ y q):LZ (x*y) (p+q):=by
 unfold LZ at*;rw[KJ]
 have:=Uo x.natAbs y.natAbs
 omega
theorem LZ.add {x y:Int}{p q:Nat}(hx:LZ x p)(hy:LZ y q):LZ (x+y) (p+q+1):=by
 unfold LZ at*;have h1:=Ji (x+y).natAbs (x.natAbs+y.natAbs) (Int.natAbs_add_le x y);have h2:=Y6 x.natAbs y.natAbs;omega
theorem LZ.few {x:Int}{p:Nat}(h:LZ x p)(hp:p<1000000):Gp x:=DD h hp
theorem LZ.num {r:Rat}{k:Nat}(h:rk r k):LZ r.num (3*k):=WZ h.1
theorem LZ.den {r:Rat}{k:Nat}(h:rk r k):LZ (r.den:Int) (3*k):=WZ h.2
theorem zz (a b:Rat):qZ (a.num*b.den+b.num*a.den) ((a.den:Int)*b.den)=a+b:=by
 unfold qZ;have h:¬((a.den:Int)*b.den<0):=by
  rw[<-FF];omega
 rw[AG h,<-FF,Do,Rat.add_def',]
theorem d6V (a b:Rat):qZ (a.num*b.num) ((a.den:Int)*b.den)=a*b:=by
 unfold qZ;have h:¬((a.den:Int)*b.den<0):=by
  rw[<-FF];omega
 rw[AG h,<-FF,Do,Rat.mul_def']
theorem Pk {x y:Int}(hx:x.natAbs<10^9)(hy:y.natAbs<10^9):(x*y).natAbs<10^18:=by
 rw[KJ];exact Cb (Nat.mul_lt_mul'' hx hy) (by decide)
theorem YG (a b:Rat)(i j:Nat)(ha:rk a i)(hb:rk b j)(hij:i+j<=10000):AI C0 69 [rR a,rR b] (rR (a+b)):=by
 refine Ac.walk w1 d9t rfl λF=>?_
 have ta:=NA ha (by omega);have tb:=NA hb (by omega);have qa:=Sw a ta;have qb:=Sw b tb
 by_cases hq:qk a=true/\qk b=true
 ·obtain⟨h1,h2⟩:=hq
  obtain⟨n1,d1⟩:=Px h1;obtain⟨n2,d2⟩:=Px h2;rw[h1,AH rfl,AH rfl]at qa;rw[h2,AH rfl,AH rfl]at qb;have p1:=Pk n1 (y:=(b.den:Int)) (by omega);have p2:=Pk n2 (y:=(a.den:Int)) (by omega);have p3:=Pk (x:=(a.den:Int)) (y:=(b.den:Int)) (by omega) (by omega);have m1:IntKind.i64.wrap (a.num*(b.den:Int))=a.num*b.den:=wI;have m2:IntKind.i64.wrap (b.num*(a.den:Int))=b.num*a.den:=wI;have m3:IntKind.i64.wrap (a.num*(b.den:Int)+b.num*(a.den:Int))=a.num*b.den+b.num*a.den:=wI;have m4:IntKind.i64.wrap ((a.den:Int)*(b.den:Int))=((a.den*b.den:Nat):Int):=by rw[wI,FF]
  have p4:a.den*b.den<10^18:=by rw[<-FF,Do]at p3;exact p3
  have cf:=ko (a.num*b.den+b.num*a.den) (a.den*b.den) (by omega) (HQ a.den_pos b.den_pos) (by omega);rw[<-Rat.add_def']at cf;refine sR 0 ?_;refine sR 100 ?_;refine cI qa ?_;refine sR 200 ?_;refine cI qb ?_;refine AC.seq ?_;refine sZ 300 ?_;refine AF kT ?_;refine AK ?_;refine sZ 400 ?_;refine AW (Bo m1 m2 m3 m4) ?_;refine cI cf ?_;refine AX ?_;exact AM rfl AA.out
 ·refine sR 0 ?_
  refine sR 100 ?_;refine cI qa ?_;refine sR 200 ?_;refine cI qb ?_;refine C9 (α:=Nat) (λn=>⟨[(0,rR a),(1,rR b)],[],n⟩) (λ_=>True) ?_ ?_
  ·cases h1:qk a
   ·refine sZ 300 ?_
    refine AF h1 ?_;refine AF kF ?_;refine AK ?_;refine Ag ?_;exact⟨rfl,_,trivial,AN⟩
   ·have h2:qk b=false:=by
     cases h2:qk b
     ·rfl
     ·exact Ah ⟨h1,h2⟩ hq
    rw[h2];refine sZ 300 ?_;refine AF h1 ?_;refine AF kT ?_;refine AK ?_;refine Ag ?_;exact⟨rfl,_,trivial,AN⟩
  rintro n0 -;clear qa qb hq;have pa:=P5 (Ao a) (SJ a) (SH a) ta;have pb:=P5 (Ao b) (SJ b) (SH b) tb;rw[Vn,bi]at pa pb;have lan:=LZ.num ha;have lad:=LZ.den ha;have lbn:=LZ.num hb;have lbd:=LZ.den hb;have da:=a.den_pos;have db:=b.den_pos;have c1:=QG a.num b.den (lan.few (by omega)) (lbd.few (by omega));have c2:=QG b.num a.den (lbn.few (by omega)) (lad.few (by omega));have c3:=zt (a.num*b.den) (b.num*a.den) ((lan.mul lbd).few (by omega)) ((lbn.mul lad).few (by omega));have c4:=QG (a.den:Int) b.den (lad.few (by omega)) (lbd.few (by omega));have c5:=Zc (a.num*b.den+b.num*a.den) ((a.den:Int)*b.den) (by rw[<-FF];have:=HQ da db;omega) (((lan.mul lbd).add (lbn.mul lad)).few (by omega)) ((lad.mul lbd).few (by omega));rw[zz]at c5;refine sR 500 ?_;refine cI pa ?_;refine sR 600 ?_;refine cI pb ?_;refine AC.seq ?_;refine B0 700 [0,1,2,3,4,5,6,7,8] [9,10,11] ?_;refine AF kN ?_
  first|refine BN.same _ c1 AJ ?_|refine BI.same _ c1 AJ ?_
  refine AF kN ?_
  first|refine BN.same _ c2 AJ ?_|refine BI.same _ c2 AJ ?_
  refine AF kN ?_
  first|refine BN.same _ c3 AJ ?_|refine BI.same _ c3 AJ ?_
  refine AF kN ?_
  first|refine BN.same _ c4 AJ ?_|refine BI.same _ c4 AJ ?_
  refine AF kN ?_
  first|refine BN.same _ c5 AJ ?_|refine BI.same _ c5 AJ ?_
  refine AF kN ?_;refine AX ?_;exact AM rfl AA.out
theorem e2m (a b:Rat)(i j:Nat)(ha:rk a i)(hb:rk b j)(hij:i+j<=10000):AI C0 49 [rR a,rR b] (rR (a*b)):=by
 refine Ac.walk w1 d9c rfl λF=>?_
 have ta:=NA ha (by omega);have tb:=NA hb (by omega);have qa:=Sw a ta;have qb:=Sw b tb
 by_cases hq:qk a=true/\qk b=true
 ·obtain⟨h1,h2⟩:=hq
  obtain⟨n1,d1⟩:=Px h1;obtain⟨n2,d2⟩:=Px h2;rw[h1,AH rfl,AH rfl]at qa;rw[h2,AH rfl,AH rfl]at qb;have p1:=Pk n1 (y:=b.num) n2;have p3:=Pk (x:=(a.den:Int)) (y:=(b.den:Int)) (by omega) (by omega);have m1:IntKind.i64.wrap (a.num*b.num)=a.num*b.num:=wI;have m4:IntKind.i64.wrap ((a.den:Int)*(b.den:Int))=((a.den*b.den:Nat):Int):=by rw[wI,FF]
  have p4:a.den*b.den<10^18:=by rw[<-FF,Do]at p3;exact p3
  have cf:=ko (a.num*b.num) (a.den*b.den) (by omega) (HQ a.den_pos b.den_pos) (by omega);rw[<-Rat.mul_def']at cf;refine sR 0 ?_;refine sR 100 ?_;refine cI qa ?_;refine sR 200 ?_;refine cI qb ?_;refine AC.seq ?_;refine sZ 300 ?_;refine AF kT ?_;refine AK ?_;refine sZ 400 ?_;refine AW (Ae m1 m4) ?_;refine cI cf ?_;refine AX ?_;exact AM rfl AA.out
 ·refine sR 0 ?_
  refine sR 100 ?_;refine cI qa ?_;refine sR 200 ?_;refine cI qb ?_;refine C9 (α:=Nat) (λn=>⟨[(0,rR a),(1,rR b)],[],n⟩) (λ_=>True) ?_ ?_
  ·cases h1:qk a
   ·refine sZ 300 ?_
    refine AF h1 ?_;refine AF kF ?_;refine AK ?_;refine Ag ?_;exact⟨rfl,_,trivial,AN⟩
   ·have h2:qk b=false:=by
     cases h2:qk b
     ·rfl
     ·exact Ah ⟨h1,h2⟩ hq
    rw[h2];refine sZ 300 ?_;refine AF h1 ?_;refine AF kT ?_;refine AK ?_;refine Ag ?_;exact⟨rfl,_,trivial,AN⟩
  rintro n0 -;clear qa qb hq;have pa:=P5 (Ao a) (SJ a) (SH a) ta;have pb:=P5 (Ao b) (SJ b) (SH b) tb;rw[Vn,bi]at pa pb;have lan:=LZ.num ha;have lad:=LZ.den ha;have lbn:=LZ.num hb;have lbd:=LZ.den hb;have da:=a.den_pos;have db:=b.den_pos;have c1:=QG a.num b.num (lan.few (by omega)) (lbn.few (by omega));have c4:=QG (a.den:Int) b.den (lad.few (by omega)) (lbd.few (by omega));have c5:=Zc (a.num*b.num) ((a.den:Int)*b.den) (by rw[<-FF];have:=HQ da db;omega) ((lan.mul lbn).few (by omega)) ((lad.mul lbd).few (by omega));rw[d6V]at c5;refine sR 500 ?_;refine cI pa ?_;refine sR 600 ?_;refine cI pb ?_;refine AC.seq ?_;refine B0 700 [0,1,2,3,4] [5,6,7] ?_;refine AF kN ?_
  first|refine BN.same _ c1 AJ ?_|refine BI.same _ c1 AJ ?_
  refine AF kN ?_
  first|refine BN.same _ c4 AJ ?_|refine BI.same _ c4 AJ ?_
  refine AF kN ?_
  first|refine BN.same _ c5 AJ ?_|refine BI.same _ c5 AJ ?_
  refine AF kN ?_;refine AX ?_;exact AM rfl AA.out
theorem rQ (c:UInt8):Bv c=(!decide ((c.toNat:Int)<48) && !decide ((c.toNat:Int)>57)):=by
 unfold Bv;rw[E6,BM,BM];simp only[BZ,PF,Nat.ble_eq];omega
theorem nA {l:List UInt8}{i:Nat}{c:UInt8}(hc:l[i]?=some c)(h:(l.take i).all Bv=true):(l.take (i+1)).all Bv=Bv c:=by
 rw[FV,hc,RJ,h];simp
theorem vF {l:List UInt8}{i:Nat}{c:UInt8}(hc:l[i]?=some c)(h:Bv c=false):l.all Bv=false:=by
 cases ha:l.all Bv
 ·rfl
 ·have:=Cc.1 ha c (A8 hc)
  rw[h]at this;cases this
theorem oe (l:List UInt8)(hl:l.length<=9223372036854775807):AI C0 121 [str (sb l)] (Av (l.all Bv)):=by
 refine Ac.walk w1 vp rfl λF=>?_
 have hsz:=Cd l;refine sR 0 ?_;refine AC.seq ?_;refine sR 100 ?_;refine AC.block ?_;refine AC.loop (α:=Nat×Nat) (λp=>⟨[(0,str (sb l)),(3,i64 (p.1:Int))],[],p.2⟩) (λp=>l.length-p.1) (λp=>p.1<=l.length/\(l.take p.1).all Bv=true) (0,_) ⟨Bg _,rfl⟩ AN ?_;rintro⟨i,n⟩ F ⟨hi,ha⟩;dsimp only at hi ha⊢;refine AC.seq ?_;refine sZ 200 ?_;refine AW hsz ?_;refine AK ?_
 (refine Bn (λhlt=>?_) (λhlt=>?_))<;>(try simp only[BZ,Bl]at hlt)<;>(try simp only[hlt])
 ·have hi2:i<l.length:=by
   have:=DQ hlt
   omega
  obtain⟨c,hc⟩:∃c,l[i]?=some c:=⟨l[i],B4 hi2⟩
  have hg:l.getD i 0=c:=by simp[hc]
  have wi:IntKind.i64.wrap ((i:Int)+1)=((i+1:Nat):Int):=wI;have hid:=rQ c;have hat:=nA hc ha;have hno:=vF hc;refine Ag ?_;refine AC.seq ?_;refine AC.block ?_;refine sZ 400 ?_;refine AW (Ae kN hg) ?_
  by_cases c1:(c.toNat:Int)<48
  ·rw[Ax c1]at hid
   have e4:=Ax c1;simp only[e4];refine AF kT ?_;refine AK ?_;refine sR 500 ?_;refine AX ?_;exact AM (by rw[hno hid]) AA.out
  ·rw[Az c1]at hid
   have e4:=Az c1;simp only[e4];refine AF (BG kF kN hg) ?_
   by_cases c2:(c.toNat:Int)>57
   ·rw[Ax c2]at hid⊢
    refine AK ?_;refine sR 500 ?_;refine AX ?_;exact AM (by rw[hno hid]) AA.out
   ·rw[Az c2]at hid⊢
    refine AK ?_;refine Ag ?_;refine An 300 ?_;refine AW wi ?_;exact⟨(i+1,_),⟨hi2,hat.trans hid⟩,by dsimp only;omega,AN⟩
 ·have hi2:i=l.length:=by
   have:=Da hlt
   omega
  subst hi2;rw[Ci (Am _)]at ha;refine CM ?_;refine sR 600 ?_;refine AX ?_;exact AM (by rw[ha]) AA.out
theorem pt (c:UInt8):(((c.toNat:Nat):Int)==48)=decide (c=48):=by
 rw[E6,EW,decide_eq_true_iff,<-UInt8.toNat_inj];exact⟨λh=>(show c.toNat=48 by omega),λh=>by rw[h];rfl⟩
theorem du (l:List UInt8)(hl:l.length<=9223372036854775807):AI C0 71 [str (sb l)] (Av (De l)):=by
 refine Ac.walk w1 d9v rfl λF=>?_
 have hsz:=Cd l;have cd:=oe l hl;refine sR 0 ?_;refine AC.seq ?_;refine AC.seq ?_
 match l,hl,hsz,cd with
 | [],_,hsz,_=>
  have e1:((((sb []).size:Nat):Int)==0)=true:=rfl;refine An 100 ?_;refine AW e1 ?_;refine AF kT ?_;refine AK ?_;refine sR 200 ?_;refine AX ?_;exact AM rfl AA.out
 | [c],hl,hsz,cd=>
  have e1:((((sb [c]).size:Nat):Int)==0)=false:=rfl;have e2:decide ((((sb [c]).size:Nat):Int)>1)=false:=rfl;have ep:De [c]=[c].all Bv:=by
   unfold De NW
   by_cases h:c=48
   ·subst h;rfl
   ·simp[h]
  rw[ep];refine An 100 ?_;refine AW e1 ?_;refine AF kF ?_;simp only[e2];refine AF kF ?_;refine AK ?_;refine Ag ?_;refine sR 300 ?_;refine cI cd ?_;refine AX ?_;exact AM rfl AA.out
 |c::d::l,hl,hsz,cd=>
  have hs2:(sb (c::d::l)).size=l.length+2:=hsz;have e1:((((sb (c::d::l)).size:Nat):Int)==0)=false:=B8.2 (by omega);have e2:decide ((((sb (c::d::l)).size:Nat):Int)>1)=true:=BV;have e3:((((c::d::l).getD (Int.toNat 0) 0).toNat:Int)==48)=decide (c=48):=pt c;have ep:De (c::d::l)=if c=48 then false else(c::d::l).all Bv:=by
   unfold De NW
   by_cases h:c=48
   ·subst h;simp
   ·simp[h]
  rw[ep];refine An 100 ?_;refine AW e1 ?_;refine AF (Ae kF e2) ?_;refine AF (Bo kT e2 e3 kF) ?_
  by_cases h:c=48
  ·rw[Ax h,AH h]
   refine AK ?_;refine sR 200 ?_;refine AX ?_;exact AM rfl AA.out
  ·rw[Az h,AG h]
   refine AK ?_;refine Ag ?_;refine sR 300 ?_;refine cI cd ?_;refine AX ?_;exact AM rfl AA.out
def Et (r:Rat):Bool:=decide (600<(Lib.decDigits r.num.natAbs).length)||decide (600<(Lib.decDigits r.den).length)
theorem qh (l:List UInt8):BK l=(CK l).length:=by
 have:=KZ l
 unfold CK;rw[Be];omega
theorem Uz (l:List UInt8):CK (B5 l)=CO l/\Bh (B5 l)=Bh l/\Cu (B5 l)=Cu l/\decide (CK l=[45,48])=(Dg l&&decide (CO l=[48])):=by
 cases hb:Dg l
 ·have ed:B5 l=l:=by unfold B5;rw[hb];rfl
  have en:Dg (CK l)=false:=by
   unfold CK;cases l with
   |nil=>rfl
   |cons c l=>
    cases hk:BK (c::l)with
    |zero=>rfl
    |succ k=>exact hb
  have es:CO l=CK l:=by unfold CO B5;rw[en];rfl
  rw[ed,es];refine⟨rfl,rfl,rfl,?_⟩;rw[JV];refine Az λh=>?_
  rw[h]at en;cases en
 ·cases l with
  |nil=>cases hb
  |cons c m=>
   have hc:c=45:=by simpa[Dg]using hb
   subst hc;have ed:B5 (45::m)=m:=rfl;have e1:BK (45::m)=BK m+1:=by
    unfold BK;rw[PJ,AH (by decide),By]
   have e2:CK (45::m)=45::CK m:=by unfold CK;rw[e1,List.take_succ_cons]
   have e3:Bh (45::m)=Bh m:=by unfold Bh;rw[e1,UF]
   have e4:Cu (45::m)=Cu m:=by unfold Cu;rw[e1,By];exact ED.2 (by omega)
   have e5:CO (45::m)=CK m:=by unfold CO;rw[e2];rfl
   rw[ed,e2,e3,e4,e5];refine⟨rfl,rfl,rfl,?_⟩;rw[Hs];exact ED.2 (by simp)
theorem Uw (l:List UInt8):Le l=((!De (CO l)||(Dg l&&decide (CO l=[48])))||(Cu l&&(!De (Bh l)||decide (Bh l=[48])||decide (Bh l=[49])))):=by
 unfold Le;rw[(Uz l).2.2.2]
theorem ry {l:List UInt8}(h:De l=true):l≠[]:=(LY h).1
theorem iR {l:List UInt8}(h:0<l.length):(((l.getD (Int.toNat 0) 0).toNat:Int)==45)=Dg l:=by
 cases l with
 |nil=>cases h
 |cons c l=>exact SX c l
theorem eW (l:List UInt8)(hl:l.length<=9223372036854775807):AI C0 23 [str (sb l)] (i64 (chk l)):=by
 refine Ac.walk w1 d8O rfl λF=>?_
 have hsz:=Cd l;obtain⟨p1,p2,p3,-⟩:=Uz l;have hdl:(B5 l).length<=l.length:=by
  unfold B5;split
  ·rw[D4];omega
  ·exact Am _
 have hbf:=Uw l;have hchk1:(!De (CO l)||(Dg l&&decide (CO l=[48])))=true->chk l=1:=λh=>by
  unfold chk;rw[hbf,h,Bool.true_or,AH rfl]
 have hchk2:(Cu l&&(!De (Bh l)||decide (Bh l=[48])||decide (Bh l=[49])))=true->chk l=1:=λh=>by
  unfold chk;rw[hbf,h,Bool.or_true,AH rfl]
 have hne:De (CO l)=true->0<l.length:=λh=>by
  cases l with
  |nil=>exact Ah rfl (ry h)
  |cons c l=>rw[By];omega
 refine sR 0 ?_;refine sR 100 ?_;refine C9 (α:=Nat) (λn=>⟨[(0,str (sb l)),(3,str (sb (B5 l)))],[],n⟩) (λ_=>True) ?_ ?_
 ·rcases EC l.length with h0|h0
  ·have e0:l=[]:=FU h0
   have e1:decide (((sb []).size:Int)>0)=false:=rfl;have ed:B5 l=l:=by rw[e0];rfl
   rw[ed,e0];refine sZ 200 ?_;refine AW e1 ?_;refine AF kF ?_;refine AK ?_;refine Ag ?_;exact⟨rfl,_,trivial,AN⟩
  ·have e0:decide (((sb l).size:Int)>0)=true:=BV
   have e1:=iR h0;refine sZ 200 ?_;refine AF e0 ?_;refine AF (BG kT e0 e1) ?_;cases hb:Dg l
   ·have ed:B5 l=l:=by unfold B5;rw[hb];rfl
    rw[ed];refine AK ?_;refine Ag ?_;exact⟨rfl,_,trivial,AN⟩
   ·have ed:B5 l=l.drop 1:=by unfold B5;rw[hb];rfl
    have ee:(sb l).extract (Int.toNat 1) l.length=sb (B5 l):=by
     rw[Ex,Ci (Am _),ed];rfl
    refine AK ?_;refine An 300 ?_;refine AF (Ae hsz kN) ?_;rw[ee];exact⟨trivial,_,trivial,AN⟩
 rintro n0 -;have cs:=bW (B5 l) (by omega);have hle:=KZ (B5 l);have hszS:=Cd (B5 l);have hhs:Cu l=decide (BK (B5 l)<(B5 l).length):=p3.symm;have e10:(sb (B5 l)).extract 0 (BK (B5 l))=sb (CO l):=by rw[<-p1,Ex,Fr];rfl
 have e11:(sb (B5 l)).extract (BK (B5 l)+1) (B5 l).length=sb (Bh l):=by rw[<-p2,Ex,Ci (Am _)];rfl
 have hNl:BK (B5 l)=(CO l).length:=by rw[<-p1];exact qh _
 have hDl:(Bh l).length=(B5 l).length-(BK (B5 l)+1):=by rw[<-p2];unfold Bh;rw[D4]
 have pp:=λh1 h2 h3=>P5 (B5 l) h1 h2 h3
 unfold Q0 Qr at pp;rw[p1,p2,p3]at pp;have edef:chk l=if Le l then 1 else if 600<(CO l).length\/600<(Bh l).length then 4 else if Cu l=true/\Nat.gcd (dv (CO l)) (dv (Bh l))≠1 then 1 else 0:=rfl
 rw[hbf]at edef;generalize hN:CO l=Nn at*;generalize hD:Bh l=Dn at*;generalize hH:Cu l=hv at*;generalize hK:chk l=KnV at*;generalize B5 l=Sn at*;generalize BK Sn=k at*;clear p1 p2 p3 hbf hN hD hH hK;have cf:=du Nn (by omega);have cf2:=du Dn (by omega);have q0:=E1 Nn [48];have q1:=E1 Dn [48];have q2:=E1 Dn [49];refine sR 400 ?_;refine cI cs ?_;refine C9 (α:=Nat) (λn=>⟨[(0,str (sb l)),(3,str (sb Sn)),(4,i64 (k:Int))],[],n⟩) (λ_=>(!De Nn||(Dg l&&decide (Nn=[48])))=false) ?_ ?_
 ·refine sZ 500 ?_
  refine AF (Ae hszS kN) ?_;refine AF e10 ?_;cases hp:De Nn
  ·rw[hp]at cf
   refine BI.same _ cf AJ ?_;refine Bb ?_;simp only[UH];refine AF kT ?_;refine AK ?_;refine sR 600 ?_;refine AX ?_;exact AM (by rw[hchk1 (by rw[hp];rfl)];rfl) AA.out
  ·rw[hp]at cf
   have hl0:=hne hp;have e1:=iR hl0;refine BI.same _ cf AJ ?_;refine Bb ?_;simp only[RM];refine AF (BG kF hsz e1) ?_;have q0':BU (sb Nn) ⟨#[48]⟩=decide (Nn=[48]):=q0;cases hb:Dg l
   ·refine AF kF ?_
    refine AK ?_;refine Ag ?_;exact⟨rfl,_,rfl,AN⟩
   ·refine AF (Bo kT kF hszS kN) ?_
    refine AF (Bo kT kF e10 q0') ?_
    by_cases h0:Nn=[48]
    ·rw[Ax h0]
     refine AK ?_;refine sR 600 ?_;refine AX ?_;exact AM (by rw[hchk1 (by simp[hp,hb,h0])];rfl) AA.out
    ·rw[Az h0]
     refine AK ?_;refine Ag ?_;exact⟨rfl,_,by simp,AN⟩
 rintro n1 hb1;clear hchk1 hne cf q0;refine C9 (α:=Nat) (λn=>⟨[(0,str (sb l)),(3,str (sb Sn)),(4,i64 (k:Int))],[],n⟩) (λ_=>(hv&&(!De Dn||decide (Dn=[48])||decide (Dn=[49])))=false) ?_ ?_
 ·cases hv
  ·have e40:decide ((k:Int)<(Sn.length:Int))=false:=Az (by have:=Da hhs.symm;omega)
   refine sZ 700 ?_;refine AW (Ae hszS e40) ?_;refine AF kF ?_;refine AK ?_;refine Ag ?_;exact⟨rfl,_,rfl,AN⟩
  ·have hkl:=DQ hhs.symm
   have e40:decide ((k:Int)<(Sn.length:Int))=true:=BV;have wk:IntKind.i64.wrap ((k:Int)+1)=((k+1:Nat):Int):=wI;have q1':BU (sb Dn) ⟨#[48]⟩=decide (Dn=[48]):=q1;have q2':BU (sb Dn) ⟨#[49]⟩=decide (Dn=[49]):=q2;refine sZ 700 ?_;refine AW (Ae hszS e40) ?_;refine AF (Bo kT wk hszS kN) ?_;simp only[e11];refine Ya kT ?_;cases hp:De Dn
   ·rw[hp]at cf2
    refine BI.same _ cf2 AJ ?_;refine AF kB ?_;refine AF kT ?_;refine AK ?_;refine sR 800 ?_;refine AX ?_;exact AM (by rw[hchk2 (by simp[hp])];rfl) AA.out
   ·rw[hp]at cf2
    have e12:(sb Sn).extract (IntKind.i64.wrap ((k:Int)+1)).toNat (sb Sn).size=sb Dn:=by rw[wk,hszS,Iv];exact e11
    refine BI.same _ cf2 AJ ?_;refine AF kB ?_;simp only[e12,q1']
    by_cases h48:Dn=[48]
    ·rw[Ax h48]
     refine AF kT ?_;refine AK ?_;refine sR 800 ?_;refine AX ?_;exact AM (by rw[hchk2 (by simp[h48])];rfl) AA.out
    ·rw[Az h48]
     refine AF kB ?_;simp only[e12,q2']
     by_cases h49:Dn=[49]
     ·rw[Ax h49]
      refine AK ?_;refine sR 800 ?_;refine AX ?_;exact AM (by rw[hchk2 (by simp[h49])];rfl) AA.out
     ·rw[Az h49]
      refine AK ?_;refine Ag ?_;exact⟨rfl,_,by simp,AN⟩
 rintro n2 hb2;clear hchk2 cf2 q1 q2 e10 e11 hsz;have hpN:De Nn=true:=by
  cases h:De Nn
  ·rw[h]at hb1;simp at hb1
  ·rfl
 have hpD:hv=true->De Dn=true:=λh0=>by
  cases h:De Dn
  ·rw[h,h0]at hb2;simp at hb2
  ·rfl
 rw[hb1,hb2]at edef;rw[AG (by decide)]at edef;have wl1:IntKind.i64.wrap ((Sn.length:Int)-(k:Int))=(Sn.length:Int)-(k:Int):=wI;have wl2:IntKind.i64.wrap ((Sn.length:Int)-(k:Int)-1)=(Sn.length:Int)-(k:Int)-1:=wI;have e91:decide ((Sn.length:Int)-(k:Int)-1>600)=decide (600<Dn.length):=ED.2 (by omega);refine C9 (α:=Nat) (λn=>⟨[(3,str (sb Sn)),(4,i64 (k:Int))],[],n⟩) (λ_=>Nn.length<=600/\Dn.length<=600) ?_ ?_
 ·by_cases g1:600<k
  ·have e9:decide ((k:Int)>600)=true:=BV
   rw[AH (.inl (by omega))]at edef;refine sZ 900 ?_;refine AW e9 ?_;refine AF kT ?_;refine AK ?_;refine sR 1000 ?_;refine AX ?_;exact AM (by rw[edef];rfl) AA.out
  ·have e9:decide ((k:Int)>600)=false:=BY
   refine sZ 900 ?_;refine AW e9 ?_;refine AF (Cw kF hszS wl1 wl2 e91) ?_
   by_cases g2:600<Dn.length
   ·rw[AH (.inr g2)]at edef
    rw[Ax g2];refine AK ?_;refine sR 1000 ?_;refine AX ?_;exact AM (by rw[edef];rfl) AA.out
   ·rw[Az g2]
    refine AK ?_;refine Ag ?_;exact⟨rfl,_,⟨by omega,by omega⟩,AN⟩
 rintro n3 ⟨g1,g2⟩;rw[B3]at edef;clear e91 wl1 wl2 hb1 hb2;obtain⟨-,dN⟩:=LY hpN;refine C9 (α:=Nat) (λn=>⟨[],[],n⟩) (λ_=>KnV=0) ?_ ?_
 ·cases hv
  ·have e40:decide ((k:Int)<(Sn.length:Int))=false:=Az (by have:=Da hhs.symm;omega)
   rw[AG (by simp)]at edef;refine sZ 1100 ?_;refine AW (Ae hszS e40) ?_;refine AK ?_;refine Ag ?_;exact⟨rfl,_,edef,AN⟩
  ·have hkl:=DQ hhs.symm
   have e40:decide ((k:Int)<(Sn.length:Int))=true:=BV;obtain⟨-,dD⟩:=LY (hpD rfl);have pa:=pp (by rw[LT dN];exact dN) (by rw[LT dD];exact dD) (by omega);rw[AH rfl,OW dN,OW dD]at pa;have lN:(Aa (dv Nn)).length<1000000:=DD (LP (Cb (G8 Nn dN) (PK (by decide) Nn.length))) (by omega);have lD:(Aa (dv Dn)).length<1000000:=DD (LP (Cb (G8 Dn dD) (PK (by decide) Dn.length))) (by omega);have cg:AI C0 73 [rD ((dv Nn:Int)).natAbs,rD ((dv Dn:Int)).natAbs] (.sl false 1 ((Aa (Nat.gcd (dv Nn) (dv Dn))).map Ab)):=bB (dv Nn) (dv Dn) lN lD;have ht:=bp (Nat.gcd (dv Nn) (dv Dn));have ed1:Nat.gcd (dv Nn) (dv Dn)≠1->KnV=1:=λh=>by rw[AH ⟨rfl,h⟩]at edef;exact edef
   have ed0:Nat.gcd (dv Nn) (dv Dn)=1->KnV=0:=λh=>by rw[AG (λhh=>hh.2 h)]at edef;exact edef
   clear edef;generalize Nat.gcd (dv Nn) (dv Dn)=gg at*;refine sZ 1100 ?_;refine AW (Ae hszS e40) ?_;refine AK ?_;refine sR 1200 ?_;refine cI pa ?_;refine sR 1300 ?_;refine cI cg ?_;rcases ht with⟨t1,a,ha,t2⟩|⟨t1,t2⟩
   ·have ha':=EB ha
    have t1n:((((Aa gg).map Ab).length:Int) != 1)=false:=by unfold bne;rw[t1];rfl
    have t2n:((a:Int) != 1) = !decide (gg=1):=by unfold bne;rw[t2]
    refine sZ 1400 ?_;refine AW t1n ?_;refine AF kF ?_;refine CN kF ha' ?_;refine AF (Ae kF t2n) ?_
    by_cases hg1:gg=1
    ·rw[Ax hg1]
     refine AK ?_;refine Ag ?_;exact⟨rfl,_,ed0 hg1,AN⟩
    ·rw[Az hg1]
     refine AK ?_;refine sR 1500 ?_;refine AX ?_;exact AM (by rw[ed1 hg1];rfl) AA.out
   ·have edf:=ed1 t2
    have t1n:((((Aa gg).map Ab).length:Int) != 1)=true:=by unfold bne;rw[t1];rfl
    refine sZ 1400 ?_;refine AW t1n ?_;refine AF kT ?_;refine AK ?_;refine sR 1500 ?_;refine AX ?_;exact AM (by rw[edf];rfl) AA.out
 rintro n4 h0;refine sR 1600 ?_;refine AX ?_;exact AM (by rw[h0];rfl) AA.out
theorem ri {n k:Nat}(hn:n≠0)(hk:k<10):Lib.decDigits (n*10+k)=Lib.decDigits n++[UInt8.ofNat (48+k)]:=by
 rw[Lib.decDigits,dif_neg (by omega)]
 congr 2
 ·omega
 ·congr 2;omega
theorem bF {c:UInt8}(h:Bv c=true):UInt8.ofNat (48+(c.toNat-48))=c:=by
 obtain⟨h1,h2⟩:=Mi h;rw[<-UInt8.toNat_inj,Vh _ (by omega)];omega
theorem tK (l:List UInt8)(c:UInt8):dv (l++[c])=dv l*10+(c.toNat-48):=by
 rw[Pe];simp[dv,Hn]
theorem vU:∀(n:Nat) (l:List UInt8),l.length=n->l≠[]->l.all Bv=true->l.head? ≠ some 48->dv l≠0/\Lib.decDigits (dv l)=l:=λn=>by
 induction n with
 |zero=>intro l h0 h1;exact Ah (FU h0) h1
 |succ n ih=>
  intro l h0 h1 h2 h3;rcases UM l with rfl|⟨m,c,rfl⟩
  ·exact Ah rfl h1
  ·rw[UL]at h0 h1 h2 h3⊢
   rw[RJ,BM]at h2;have hc:Bv c=true:=by simpa using h2.2
   obtain⟨c1,c2⟩:=Mi hc;rw[tK]
   by_cases hm:m=[]
   ·subst hm
    have hc48:c≠48:=λh=>h3 (by rw[h];rfl)
    have hcn:c.toNat≠48:=λh=>hc48 (UInt8.toNat_inj.1 h)
    have e0:dv []*10+(c.toNat-48)=c.toNat-48:=by simp[dv,Hn]
    rw[e0];refine⟨by omega,?_⟩;rw[Lib.decDigits,dif_pos (by omega),bF hc];rfl
   ·have hh:m.head? ≠ some 48:=by
     cases m with
     |nil=>exact Ah rfl hm
     |cons a m=>exact h3
    obtain⟨i1,i2⟩:=ih m (by rw[Bz,Ho]at h0;omega) hm h2.1 hh;refine⟨by omega,?_⟩;rw[ri i1 (by omega),i2,bF hc]
theorem VI {l:List UInt8}(h:De l=true):Lib.decDigits (dv l)=l/\(l≠[48]->dv l≠0):=by
 obtain⟨h1,h2⟩:=LY h
 by_cases h0:l=[48]
 ·subst h0
  refine⟨?_,λhh=>Ah rfl hh⟩;show Lib.decDigits 0=[48];rw[Lib.decDigits,dif_pos (by decide)];rfl
 ·have h3:l.head? ≠ some 48:=by
   unfold De at h;rw[BM,Az h0,Bool.false_or]at h
   have:=h.2
   simpa using this
  obtain⟨a,b⟩:=vU _ l rfl h1 h2 h3;exact⟨b,λ_=>a⟩
theorem bV:∀ {l:List UInt8},BK l<l.length->l.drop (BK l)=47::l.drop (BK l+1)
 | [],h=>by cases h
 |c::l,h=>by
  by_cases hc:c=47
  ·subst hc;rfl
  ·have e1:BK (c::l)=BK l+1:=by
    unfold BK;rw[PJ,AH (by simpa using hc),By]
   rw[e1,By]at h;rw[e1,UF,UF];exact bV (by omega)
def Hk (l:List UInt8):Nat:=if Cu l then dv (Bh l)else 1
def Bc (l:List UInt8):Rat:=mkRat (rv (CK l)) (Hk l)
theorem pZ {n:Int}{d:Nat}(hd:d≠0)(h:Nat.gcd n.natAbs d=1):(mkRat n d).num=n/\(mkRat n d).den=d:=by
 obtain⟨q1,q2⟩:=V5 (x:=n) hd;rw[h,Nat.div_one]at q1 q2;rw[TF]at q1;exact⟨q1,q2⟩
theorem Vg {l:List UInt8}(h:chk l=0):Le l=false/\(CO l).length<=600/\(Bh l).length<=600/\(Cu l=true->Nat.gcd (dv (CO l)) (dv (Bh l))=1):=by
 unfold chk at h;cases hb:Le l
 ·rw[hb,AG (by decide)]at h
  split at h
  ·cases h
  ·rename_i h1
   split at h
   ·cases h
   ·rename_i h2
    refine⟨rfl,by omega,by omega,λh3=>?_⟩;rcases Nat.decEq (Nat.gcd (dv (CO l)) (dv (Bh l))) 1 with h4|h4
    ·exact Ah ⟨h3,h4⟩ h2
    ·exact h4
 ·rw[hb,AH rfl]at h;cases h
theorem Ml {l:List UInt8}(h:chk l=0):(Bc l).num=rv (CK l)/\(Bc l).den=Hk l/\Ao (Bc l)=l/\(rv (CK l)).natAbs=dv (CO l):=by
 obtain⟨h1,h2,h3,h4⟩:=Vg h;rw[Uw]at h1;simp only[LH]at h1;obtain⟨⟨b1,b2⟩,b3⟩:=h1;have p1:De (CO l)=true:=by simpa using b1
 obtain⟨d1,d2⟩:=VI p1;have hab:(rv (CK l)).natAbs=dv (CO l):=by
  show(rv (CK l)).natAbs=dv (B5 (CK l));unfold rv;split<;>omega
 have hdd:Cu l=true->De (Bh l)=true/\Bh l≠[48]/\Bh l≠[49]:=λhs=>by
  rw[hs,Hs]at b3;simp only[LH]at b3;exact⟨by simpa using b3.1.1,Da b3.1.2,Da b3.2⟩
 have hd0:Hk l≠0:=by
  unfold Hk;cases hs:Cu l
  ·simp
  ·obtain⟨e1,e2,e3⟩:=hdd hs
   simpa using(VI e1).2 e2
 have hg:Nat.gcd (rv (CK l)).natAbs (Hk l)=1:=by
  rw[hab];unfold Hk;cases hs:Cu l
  ·simp
  ·simpa using h4 hs
 obtain⟨m1,m2⟩:=pZ hd0 hg;refine⟨m1,m2,?_,hab⟩;have hi:Lib.itoa (rv (CK l))=CK l:=by
  cases hb:Dg (CK l)
  ·have e1:CO l=CK l:=by unfold CO B5;rw[hb];rfl
   rw[e1]at d1;have e2:rv (CK l)=(dv (CK l):Int):=by unfold rv B5;rw[hb];rfl
   rw[e2];unfold Lib.itoa;rw[B3];exact d1
  ·obtain⟨m,hm⟩:∃m,CK l=45::m:=by
    cases hn:CK l with
    |nil=>rw[hn]at hb;cases hb
    |cons c m=>
     rw[hn]at hb;exact⟨m,by rw[show c=45 by simpa[Dg]using hb]⟩
   have e1:CO l=m:=by unfold CO;rw[hm];rfl
   have hne:CO l≠[48]:=λh=>by
    have:=(Uz l).2.2.2
    rw[b2,hm]at this;have h2:=Da this;rw[e1]at h;exact h2 (by rw[h])
   have hpos:=d2 hne;rw[e1]at d1 hpos;have e2:rv (CK l) = -(dv m:Int):=by rw[hm];rfl
   rw[e2];unfold Lib.itoa;rw[DJ,LG,Do,d1,hm]
 unfold Ao;rw[show(Bc l).num=rv (CK l)from m1,show(Bc l).den=Hk l from m2,hi];have hle:=KZ l;cases hs:Cu l
 ·have e1:Hk l=1:=by unfold Hk;rw[hs];rfl
  have e2:=Da (p:=BK l<l.length) hs;rw[AH e1];unfold CK;exact Gx
 ·obtain⟨e1,e2,e3⟩:=hdd hs
  have e4:Hk l=dv (Bh l):=by unfold Hk;rw[hs];rfl
  have e5:=(VI e1).1;have e6:dv (Bh l)≠1:=λh=>by
   rw[h,Lib.decDigits,dif_pos (by decide)]at e5;exact e3 e5.symm
  rw[e4,AG e6,e5];unfold CK Bh;rw[<-bV (DQ hs),GL]
theorem Re {l:List UInt8}(h:chk l=0):(CO l).all Bv=true/\(Cu l=true->(Bh l).all Bv=true):=by
 obtain⟨h1,-,-,-⟩:=Vg h;rw[Uw]at h1;simp only[LH]at h1;obtain⟨⟨b1,-⟩,b3⟩:=h1;refine⟨(LY (by simpa using b1)).2,λhs=>?_⟩;rw[hs,Hs]at b3;simp only[LH]at b3;exact(LY (by simpa using b3.1.1)).2
theorem OV {l:List UInt8}(h:chk l=0):rk (Bc l) 600:=by
 obtain⟨m1,m2,-,m4⟩:=Ml h;obtain⟨-,h2,h3,-⟩:=Vg h;obtain⟨p1,p2⟩:=Re h;have hb:∀k,(10:Nat)^k<=BB^k:=λk=>PK (by decide) k
 refine⟨?_,?_⟩
 ·rw[m1,m4]
  exact BP (Hx (Cb (G8 _ p1) (hb _))) h2
 ·rw[m2]
  unfold Hk;cases hs:Cu l
  ·exact BP (Hx (n:=1) (k:=1) (by decide)) (by decide)
  ·exact BP (Hx (Cb (G8 _ (p2 hs)) (hb _))) h3
theorem Wc {l:List UInt8}(h:chk l=0):FR (Bc l) (Ij l) 600:=by
 obtain⟨m1,m2,-,-⟩:=Ml h;refine⟨⟨Ch _,?_,?_⟩,OV h⟩
 ·show(AY (rv (CK l))).z=_
  rw[D8,m1]
 ·show(if Cu l then dv (Bh l)else 1)=_
  rw[m2];rfl
theorem S4 {l:List UInt8}(hl:l.length<=100000)(h:chk l=0):AI C0 84 [str (sb l)] (Ij l).D:=uG l hl (Re h).1 (Re h).2
structure A0 where
 lot:List UInt8
 part:List UInt8
def A0.D (s:A0):D:=.agg [str (sb s.lot),str (sb s.part)]
instance e2x (s:A0):Ap s.D:=by unfold A0.D;exact AJ
instance e2y (s:A0):AA s.D:=by unfold A0.D;exact AJ
abbrev Dq (b:Bool)(l:List A0):D:=.sl b 2 (l.map A0.D)
def A0.few (s:A0):Prop:=s.lot.length<=100000/\s.part.length<=100000
def Dp (l:List A0)(k:Nat):A0:=l.getD k ⟨[],[]⟩
theorem Kp {l:List A0}{k:Nat}{s:A0}(h:l[k]?=some s):Dp l k=s:=by unfold Dp;rw[FY,h];rfl
structure AE where
 grain:List UInt8
 mass:Int
 shs:List A0
def AE.D (x:AE):D:=.agg [str (sb x.grain),i64 x.mass,Dq false x.shs]
instance e1g (x:AE):Ap x.D:=by unfold AE.D;exact AJ
instance e1h (x:AE):AA x.D:=by unfold AE.D;exact AJ
abbrev Au (b:Bool)(l:List AE):D:=.sl b 3 (l.map AE.D)
theorem Tx (z:Int)(h:Sm z):AI C0 60 [i64 z] (⟨AY z,1⟩:GF).D:=by
 have e:(⟨AY z,1⟩:GF).D=Cy z 1:=by
  unfold GF.D;rw[W5,Km h];rfl
 rw[e];exact lI z
theorem tT {n:GI}{k:Nat}(h:n.wf)(hk:1<=k)(hl:(Ad n.z.natAbs).length<=k):FR (n.z:Rat) ⟨n,1⟩ k:=by
 refine⟨⟨h,(Rat.num_intCast _).symm,(Rat.den_intCast _).symm⟩,?_⟩;unfold rk;rw[Rat.num_intCast,Rat.den_intCast];exact⟨hl,BP (Hx (n:=1) (k:=1) (by decide)) hk⟩
theorem Sq {z:Int}(h:z.natAbs<18446744073709551616):FR (z:Rat) ⟨AY z,1⟩ 1:=by
 have:=tT (n:=AY z) (k:=1) (Ch _) (Am _) (by rw[D8];exact Hx (k:=1) (by unfold BB;omega))
 rwa [D8]at this
open Go.ChangeShapes Go.WideShapes
def Ua (P:Program)(t:Nat):Option (List (Nat×Nat×Nat)):=match P.underlying t with
 |some (.struct fs)=>some (fs.toList.map λf=>(f.type,f.offset,P.cellsOf f.type))
 |_=>none
section
variable {H:Type} {enc:TypeId×Value->H} {W:World} {fuel:Nat} {cs:List Value} {x:DataW H×List MemPlace} {t:TypeId}
theorem kh {l:List (Nat×Nat×Nat)}{m:Nat}(hs:Ua Tryz.prog t=some l)(hm:Tryz.prog.cellsOf t=m)(h:DataW.trod enc Tryz.prog W 0 (λ_=>true) true fuel t cs=some x):
  cs.length=m/\∃n,∀(i u off k:Nat),l[i]?=some (u,off,k)->∃y,DataW.trod enc Tryz.prog W 0 (λ_=>true) true n u ((cs.drop off).take k)=some y:=by
 unfold Ua at hs;split at hs
 ·rename_i fs hu
  obtain⟨h1,n,h2⟩:=qA hu h;refine⟨h1.trans hm,n,λi u off k hl=>?_⟩;obtain rfl:=GJ hs;rw[BT]at hl;obtain⟨f,hf,he⟩:=Gc.1 hl;cases he;exact h2 i f (by rw[<-MT];exact hf)
 ·cases hs
theorem XA {a b c:Nat}{p q:List D}(h:EA W ((cs.drop a).take b) p)(k:EA W ((cs.drop (a+b)).take c) q):EA W ((cs.drop a).take (b+c)) (p++q):=by
 rw[List.take_add,List.drop_drop];exact h.append k
theorem iY {n:Nat}{p:List D}(hn:cs.length=n)(h:EA W ((cs.drop 0).take n) p):EA W cs p:=by
 rw[Fr,<-hn,DH]at h;exact h
theorem d7a (h:DataW.trod enc Tryz.prog W 0 (λ_=>true) true fuel 30 cs=some x):∃l:List UInt8,EA W cs (str (sb l)).cells/\l.length<=maxLen:=i7 (by kernel_rfl) h
theorem aP (h:DataW.trod enc Tryz.prog W 0 (λ_=>true) true fuel 9 cs=some x):∃l:List UInt8,EA W cs [str (sb l)]/\l.length<=maxLen:=i7 (by kernel_rfl) h
theorem d6Z (h:DataW.trod enc Tryz.prog W 0 (λ_=>true) true fuel 3 cs=some x):∃z:Int,EA W cs [i64 z]:=by
 obtain⟨z,_,_,h⟩:=iZ (by kernel_rfl) h;exact⟨z,h⟩
end
theorem kp {P:Program}{W:World}{t e base:Nat}{v:Value}(hu:P.underlying t=some (.slice e))(h:Value.okWide P W .any base t v):∃a l c,v=.slice a l c:=by
 unfold Value.okWide at h;rw[hu]at h;dsimp only at h;unfold Cell.okWide at h;rw[hu]at h;cases v<;>first|exact⟨_,_,_,rfl⟩|(dsimp only at h;unfold Cell.ok at h;rw[hu]at h;exact h.elim)
theorem EA.val1 {W:World}{v:Value}{d:D}(h:EA W [v] [d]):AV nol (λ_=>False) W d v:=(h.cell 0 v d rfl rfl).2
def Te (s:A0):Prop:=s.lot.length<=maxLen/\s.part.length<=maxLen
def W2 (x:AE):Prop:=x.grain.length<=maxLen/\x.shs.length<=maxLen/\∀s∈x.shs,Te s
theorem d7F {c:Int}(h:(Lit.int .u16 c).wf=true):0<=c/\c<65536:=by
 simp only[Lit.wf,BM,HL]at h;have h1:IntKind.u16.min=0:=by kernel_rfl
 have h2:IntKind.u16.max=65535:=by kernel_rfl
 rw[h1,h2]at h;omega
section
variable {H:Type} {enc:TypeId×Value->H} {W:World} {fuel:Nat} {cs:List Value} {x:DataW H×List MemPlace} {t:TypeId}
theorem qD (h:DataW.trod enc Tryz.prog W 0 (λ_=>true) true fuel 32 cs=some x):∃s:A0,EA W cs s.D.cells/\Te s:=by
 obtain⟨h1,n,h2⟩:=kh (l:=[(9,0,1),(30,1,1)]) (m:=2) (by kernel_rfl) (by kernel_rfl) h;obtain⟨y0,k0⟩:=h2 0 _ _ _ rfl;obtain⟨y1,k1⟩:=h2 1 _ _ _ rfl;obtain⟨a0,r0,l0⟩:=aP k0;obtain⟨a1,r1,l1⟩:=d7a k1;exact⟨⟨a0,a1⟩,iY h1 (XA (b:=1) (c:=1) r0 r1),l0,l1⟩
theorem nv (h:DataW.trod enc Tryz.prog W 0 (λ_=>true) true fuel 26 cs=some x):∃l:List A0,EA W cs [Dq false l]/\(∀a∈l,Te a)/\l.length<=maxLen:=
 Xx (g:=A0.D) (ok:=Te) (e:=32) (sz:=2) (by kernel_rfl) (by kernel_rfl) (by decide) (λ_ _ _ h=>qD h) h
theorem qC (h:DataW.trod enc Tryz.prog W 0 (λ_=>true) true fuel 28 cs=some x):∃s:AE,EA W cs s.D.cells/\W2 s:=by
 obtain⟨h1,n,h2⟩:=kh (l:=[(9,0,1),(3,1,1),(26,2,1)]) (m:=3) (by kernel_rfl) (by kernel_rfl) h;obtain⟨y0,k0⟩:=h2 0 _ _ _ rfl;obtain⟨y1,k1⟩:=h2 1 _ _ _ rfl;obtain⟨y2,k2⟩:=h2 2 _ _ _ rfl;obtain⟨a0,r0,l0⟩:=aP k0;obtain⟨a1,r1⟩:=d6Z k1;obtain⟨a2,r2,hs,hl⟩:=nv k2;exact⟨⟨a0,a1,a2⟩,iY h1 (XA (b:=1) (c:=2) r0 (XA (b:=1) (c:=1) r1 r2)),l0,hl,hs⟩
theorem nu (h:DataW.trod enc Tryz.prog W 0 (λ_=>true) true fuel 22 cs=some x):∃l:List AE,EA W cs [Au false l]/\(∀a∈l,W2 a)/\l.length<=maxLen:=
 Xx (g:=AE.D) (ok:=W2) (e:=28) (sz:=3) (by kernel_rfl) (by kernel_rfl) (by decide) (λ_ _ _ h=>qC h) h
theorem uu (h:DataW.trod enc Tryz.prog W 0 (λ_=>true) true fuel 23 cs=some x):∃l:List Int,EA W cs [.sl false 1 (l.map λz=>.prim (.int .u16 z))]/\(∀a∈l,0<=a/\a<65536)/\l.length<=maxLen:=
 Xx (g:=λz=>.prim (.int .u16 z)) (ok:=λa=>0<=a/\a<65536) (e:=34) (by kernel_rfl) (by kernel_rfl) (by decide) (λ_ _ _ h=>by
  obtain⟨z,_,hw,r⟩:=iZ (k:=.u16) (by kernel_rfl) h;exact⟨z,r,d7F hw⟩) h
end
theorem qM (c:Nat):(97<=c/\c<=122)\/(122<c)\/(65<=c/\c<=90)\/((91<=c/\c<=96)/\c≠95)\/(c=95)\/(58<=c/\c<=64)\/(48<=c/\c<=57)\/(c<48/\c≠45/\c≠46)\/(c=45)\/(c=46):=by omega
theorem ib (l:List UInt8)(hl:l.length<=9223372036854775807):AI C0 21 [str (sb l)] (Av (Dk l)):=by
 refine Ac.walk w1 d8M rfl λF=>?_
 have hsz:=Cd l;refine sR 0 ?_;refine C9 (α:=Nat) (λn=>⟨[(0,str (sb l))],[],n⟩) (λ_=>1<=l.length/\l.length<=24) ?_ ?_
 ·by_cases h1:l.length<1
  ·have e1:decide ((l.length:Int)<1)=true:=BV
   refine sZ 100 ?_;refine AW (Ae hsz e1) ?_;refine AF kT ?_;refine AK ?_;refine sR 200 ?_;refine AX ?_;exact AM (by unfold Dk;rw[Az (show ¬ 1<=l.length by omega)];simp) AA.out
  ·have e1:decide ((l.length:Int)<1)=false:=BY
   have e2:decide ((l.length:Int)>24)=decide (24<l.length):=ED.2 (by omega);refine sZ 100 ?_;refine AW (Ae hsz e1) ?_;refine AF (BG kF hsz e2) ?_
   by_cases h2:24<l.length
   ·rw[Ax h2]
    refine AK ?_;refine sR 200 ?_;refine AX ?_;exact AM (by unfold Dk;rw[Az (show ¬l.length<=24 by omega)];simp) AA.out
   ·rw[Az h2]
    refine AK ?_;refine Ag ?_;exact⟨rfl,_,⟨by omega,by omega⟩,AN⟩
 rintro n0 ⟨l1,l2⟩;refine AC.seq ?_;refine sR 300 ?_;refine AC.block ?_;refine AC.loop (α:=Nat×Nat) (λp=>⟨[(0,str (sb l)),(3,i64 (p.1:Int))],[],p.2⟩) (λp=>l.length-p.1) (λp=>p.1<=l.length/\(l.take p.1).all (λb=>Ct b.toNat)=true) (0,_) ⟨Bg _,rfl⟩ AN ?_;rintro⟨i,n⟩ F ⟨hi,ha⟩;dsimp only at hi ha⊢;refine AC.seq ?_;refine sZ 400 ?_;refine AW hsz ?_;refine AK ?_
 (refine Bn (λhlt=>?_) (λhlt=>?_))<;>(try simp only[BZ,Bl]at hlt)<;>(try simp only[hlt])
 ·have hi2:i<l.length:=by
   have:=DQ hlt
   omega
  obtain⟨c,hc⟩:∃c,l[i]?=some c:=⟨l[i],B4 hi2⟩
  have hg:l.getD i 0=c:=by simp[hc]
  have wi:IntKind.i64.wrap ((i:Int)+1)=((i+1:Nat):Int):=wI;refine Ag ?_;refine AC.seq ?_;refine AC.block ?_;refine sZ 600 ?_;refine AW (Ae kN hg) ?_;have hcl:Ct c.toNat=false->Dk l=false:=λh=>by
   unfold Dk;cases hall:l.all (λb=>Ct b.toNat)
   ·rfl
   ·have:=Cc.1 hall c (A8 hc)
    rw[h]at this;cases this
  have hsn:Ct c.toNat=true->(l.take (i+1)).all (λb=>Ct b.toNat)=true:=λh=>by
   rw[FV,hc,RJ,ha];simpa using h
  have hc9:c.toNat<256:=c.toNat_lt;generalize c.toNat=c at*;refine C9 (α:=Nat) (λn=>⟨[(0,str (sb l)),(3,i64 (i:Int)),(56,Av (!Ct c))],[],n⟩) (λ_=>True) ?_ ?_
  ·clear hcl hsn
   rcases qM c with h|h|h|h|h|h|h|h|h|h
   ·skip
    have f1:decide ((c:Int)>=97)=true:=BV;have f2:decide ((c:Int)<=122)=true:=BV;have f3:decide ((c:Int)>=65)=true:=BV;have f4:decide ((c:Int)<=90)=false:=BY;have f5:decide ((c:Int)>=48)=true:=BV;have f6:decide ((c:Int)<=57)=false:=BY;have f7:((c:Int)==45)=false:=B8.2 (by omega);have f8:((c:Int)==95)=false:=B8.2 (by omega);have f9:((c:Int)==46)=false:=B8.2 (by omega);have hnb:Ct c=true:=by
     unfold Ct;simp;omega
    rw[hnb];refine An 700 ?_
    iterate 9
     refine AF kB ?_
     try simp only[f1,f2,f3,f4,f5,f6,f7,f8,f9]
    exact⟨by first|exact AB|rfl|simp,_,trivial,AN⟩
   ·skip
    have f1:decide ((c:Int)>=97)=true:=BV;have f2:decide ((c:Int)<=122)=false:=BY;have f3:decide ((c:Int)>=65)=true:=BV;have f4:decide ((c:Int)<=90)=false:=BY;have f5:decide ((c:Int)>=48)=true:=BV;have f6:decide ((c:Int)<=57)=false:=BY;have f7:((c:Int)==45)=false:=B8.2 (by omega);have f8:((c:Int)==95)=false:=B8.2 (by omega);have f9:((c:Int)==46)=false:=B8.2 (by omega);have hnb:Ct c=false:=by
     unfold Ct;simp;omega
    rw[hnb];refine An 700 ?_
    iterate 9
     refine AF kB ?_
     try simp only[f1,f2,f3,f4,f5,f6,f7,f8,f9]
    exact⟨by first|exact AB|rfl|simp,_,trivial,AN⟩
   ·skip
    have f1:decide ((c:Int)>=97)=false:=BY;have f2:decide ((c:Int)<=122)=true:=BV;have f3:decide ((c:Int)>=65)=true:=BV;have f4:decide ((c:Int)<=90)=true:=BV;have f5:decide ((c:Int)>=48)=true:=BV;have f6:decide ((c:Int)<=57)=false:=BY;have f7:((c:Int)==45)=false:=B8.2 (by omega);have f8:((c:Int)==95)=false:=B8.2 (by omega);have f9:((c:Int)==46)=false:=B8.2 (by omega);have hnb:Ct c=true:=by
     unfold Ct;simp;omega
    rw[hnb];refine An 700 ?_
    iterate 9
     refine AF kB ?_
     try simp only[f1,f2,f3,f4,f5,f6,f7,f8,f9]
    exact⟨by first|exact AB|rfl|simp,_,trivial,AN⟩
   ·skip
    have f1:decide ((c:Int)>=97)=false:=BY;have f2:decide ((c:Int)<=122)=true:=BV;have f3:decide ((c:Int)>=65)=true:=BV;have f4:decide ((c:Int)<=90)=false:=BY;have f5:decide ((c:Int)>=48)=true:=BV;have f6:decide ((c:Int)<=57)=false:=BY;have f7:((c:Int)==45)=false:=B8.2 (by omega);have f8:((c:Int)==95)=false:=B8.2 (by omega);have f9:((c:Int)==46)=false:=B8.2 (by omega);have hnb:Ct c=false:=by
     unfold Ct;simp;omega
    rw[hnb];refine An 700 ?_
    iterate 9
     refine AF kB ?_
     try simp only[f1,f2,f3,f4,f5,f6,f7,f8,f9]
    exact⟨by first|exact AB|rfl|simp,_,trivial,AN⟩
   ·skip
    have f1:decide ((c:Int)>=97)=false:=BY;have f2:decide ((c:Int)<=122)=true:=BV;have f3:decide ((c:Int)>=65)=true:=BV;have f4:decide ((c:Int)<=90)=false:=BY;have f5:decide ((c:Int)>=48)=true:=BV;have f6:decide ((c:Int)<=57)=false:=BY;have f7:((c:Int)==45)=false:=B8.2 (by omega);have f8:((c:Int)==95)=true:=EW.2 (by omega);have f9:((c:Int)==46)=false:=B8.2 (by omega);have hnb:Ct c=true:=by
     unfold Ct;simp;omega
    rw[hnb];refine An 700 ?_
    iterate 9
     refine AF kB ?_
     try simp only[f1,f2,f3,f4,f5,f6,f7,f8,f9]
    exact⟨by first|exact AB|rfl|simp,_,trivial,AN⟩
   ·skip
    have f1:decide ((c:Int)>=97)=false:=BY;have f2:decide ((c:Int)<=122)=true:=BV;have f3:decide ((c:Int)>=65)=false:=BY;have f4:decide ((c:Int)<=90)=true:=BV;have f5:decide ((c:Int)>=48)=true:=BV;have f6:decide ((c:Int)<=57)=false:=BY;have f7:((c:Int)==45)=false:=B8.2 (by omega);have f8:((c:Int)==95)=false:=B8.2 (by omega);have f9:((c:Int)==46)=false:=B8.2 (by omega);have hnb:Ct c=false:=by
     unfold Ct;simp;omega
    rw[hnb];refine An 700 ?_
    iterate 9
     refine AF kB ?_
     try simp only[f1,f2,f3,f4,f5,f6,f7,f8,f9]
    exact⟨by first|exact AB|rfl|simp,_,trivial,AN⟩
   ·skip
    have f1:decide ((c:Int)>=97)=false:=BY;have f2:decide ((c:Int)<=122)=true:=BV;have f3:decide ((c:Int)>=65)=false:=BY;have f4:decide ((c:Int)<=90)=true:=BV;have f5:decide ((c:Int)>=48)=true:=BV;have f6:decide ((c:Int)<=57)=true:=BV;have f7:((c:Int)==45)=false:=B8.2 (by omega);have f8:((c:Int)==95)=false:=B8.2 (by omega);have f9:((c:Int)==46)=false:=B8.2 (by omega);have hnb:Ct c=true:=by
     unfold Ct;simp;omega
    rw[hnb];refine An 700 ?_
    iterate 9
     refine AF kB ?_
     try simp only[f1,f2,f3,f4,f5,f6,f7,f8,f9]
    exact⟨by first|exact AB|rfl|simp,_,trivial,AN⟩
   ·skip
    have f1:decide ((c:Int)>=97)=false:=BY;have f2:decide ((c:Int)<=122)=true:=BV;have f3:decide ((c:Int)>=65)=false:=BY;have f4:decide ((c:Int)<=90)=true:=BV;have f5:decide ((c:Int)>=48)=false:=BY;have f6:decide ((c:Int)<=57)=true:=BV;have f7:((c:Int)==45)=false:=B8.2 (by omega);have f8:((c:Int)==95)=false:=B8.2 (by omega);have f9:((c:Int)==46)=false:=B8.2 (by omega);have hnb:Ct c=false:=by
     unfold Ct;simp;omega
    rw[hnb];refine An 700 ?_
    iterate 9
     refine AF kB ?_
     try simp only[f1,f2,f3,f4,f5,f6,f7,f8,f9]
    exact⟨by first|exact AB|rfl|simp,_,trivial,AN⟩
   ·skip
    have f1:decide ((c:Int)>=97)=false:=BY;have f2:decide ((c:Int)<=122)=true:=BV;have f3:decide ((c:Int)>=65)=false:=BY;have f4:decide ((c:Int)<=90)=true:=BV;have f5:decide ((c:Int)>=48)=false:=BY;have f6:decide ((c:Int)<=57)=true:=BV;have f7:((c:Int)==45)=true:=EW.2 (by omega);have f8:((c:Int)==95)=false:=B8.2 (by omega);have f9:((c:Int)==46)=false:=B8.2 (by omega);have hnb:Ct c=true:=by
     unfold Ct;simp;omega
    rw[hnb];refine An 700 ?_
    iterate 9
     refine AF kB ?_
     try simp only[f1,f2,f3,f4,f5,f6,f7,f8,f9]
    exact⟨by first|exact AB|rfl|simp,_,trivial,AN⟩
   ·skip
    have f1:decide ((c:Int)>=97)=false:=BY;have f2:decide ((c:Int)<=122)=true:=BV;have f3:decide ((c:Int)>=65)=false:=BY;have f4:decide ((c:Int)<=90)=true:=BV;have f5:decide ((c:Int)>=48)=false:=BY;have f6:decide ((c:Int)<=57)=true:=BV;have f7:((c:Int)==45)=false:=B8.2 (by omega);have f8:((c:Int)==95)=false:=B8.2 (by omega);have f9:((c:Int)==46)=true:=EW.2 (by omega);have hnb:Ct c=true:=by
     unfold Ct;simp;omega
    rw[hnb];refine An 700 ?_
    iterate 9
     refine AF kB ?_
     try simp only[f1,f2,f3,f4,f5,f6,f7,f8,f9]
    exact⟨by first|exact AB|rfl|simp,_,trivial,AN⟩
  rintro n1 -;cases hb:Ct c
  ·refine AK ?_
   refine sR 800 ?_;refine AX ?_;exact AM (by rw[hcl hb]) AA.out
  ·refine AK ?_
   refine Ag ?_;refine An 500 ?_;refine AW wi ?_;exact⟨(i+1,_),⟨hi2,hsn hb⟩,by dsimp only;omega,AN⟩
 ·have hi2:i=l.length:=by
   have:=Da hlt
   omega
  subst hi2;rw[Ci (Am _)]at ha;refine CM ?_;refine sR 900 ?_;refine AX ?_;exact AM (by unfold Dk;rw[ha,Ax l1,Ax l2];rfl) AA.out
def En:List Int->Int
 | []=>0
 |e::r=>if e≠0 then e else En r
theorem Rc {v:List Int}{i:Nat}(h:∀(j:Nat) (e:Int),j<i->v[j]?=some e->e=0):En v=En (v.drop i):=by
 induction i generalizing v with
 |zero=>rfl
 |succ i ih=>
  cases v with
  |nil=>rfl
  |cons l r=>
   have h0:=h 0 l (Nat.succ_pos i) rfl;rw[UF];show(if l≠0 then l else En r)=_;rw[AG (λhh=>hh h0)];exact ih λj m hj hm=>h (j+1) m (by omega) hm
theorem Kk {a:Int}(h:a≠0):(a != 0)=true:=by
 have:(a==0)=false:=B8.2 h
 unfold bne;rw[this];rfl
theorem ck {l:List UInt8}(h:chk l=0):HE (Bc l):=NA (OV h) (by decide)
theorem Mu (a b:List UInt8):BU (sb a) (sb b)=decide (a=b):=by
 unfold BU
 by_cases h:a=b
 ·subst h;simp
 ·rw[Az h]
  apply B8.2;intro hh;apply h;simpa[sb]using hh
def DZ (f:Nat->Nat):Nat->Nat
 | 0=>0
 |n+1=>if DZ f n≠0 then DZ f n else f n
theorem IZ {f:Nat->Nat}{n:Nat}(h:∀j,j<n->f j=0):DZ f n=0:=by
 induction n with
 |zero=>rfl
 |succ n ih=>
  have:=ih λj hj=>h j (by omega)
  unfold DZ;rw[AG (λhh=>hh this)];exact h n (by omega)
theorem OM {f:Nat->Nat}{i n:Nat}(h:∀j,j<i->f j=0)(hi:i<n)(h0:f i≠0):DZ f n=f i:=by
 induction n with
 |zero=>omega
 |succ n ih=>
  unfold DZ;rcases BL i n with hlt|hge
  ·have:=ih hlt
   rw[AH (by rw[this];exact h0),this]
  ·have:i=n:=by omega
   subst this;rw[AG (λhh=>hh (IZ h))]
theorem Pt {f:Nat->Nat}{n:Nat}(h:DZ f n=0):∀j,j<n->f j=0:=by
 induction n with
 |zero=>intro j hj;omega
 |succ n ih=>
  unfold DZ at h
  by_cases h0:DZ f n=0
  ·rw[AG (λhh=>hh h0)]at h
   intro j hj;rcases BL j n with hl|hg
   ·exact ih h0 j hl
   ·have:j=n:=by omega
    subst this;exact h
  ·rw[AH h0]at h
   exact Ah h h0
structure NZ where
 name:List UInt8
 least:List (List UInt8)
 most:List (List UInt8)
 deriving Inhabited
def NZ.D (g:NZ):D:=.agg [str (sb g.name),.sl false 1 (g.least.map λl=>str (sb l)),.sl false 1 (g.most.map λl=>str (sb l))]
instance  (g:NZ):Ap g.D:=by unfold NZ.D;exact AJ
instance  (g:NZ):AA g.D:=by unfold NZ.D;exact AJ
def lv (l:List (List UInt8))(k:Nat):List UInt8:=l.getD k []
def vI (gs:List NZ)(i k:Nat):Option (List UInt8×List UInt8):=if i=0 then none else some (lv (gs.getD (i-1) default).least k,lv (gs.getD (i-1) default).most k)
theorem mh {α:Type}{l:List α}{p:α->Bool}{i:Nat}(h:∀(j:Nat) (x:α),j<i->l[j]?=some x->p x=false):(l.take i).any p=false:=by
 rw[List.any_eq_false];intro x hx;obtain⟨j,hj,e⟩:=List.mem_iff_getElem.1 hx;have hj2:j<i:=by rw[Be]at hj;omega
 have:l[j]?=some x:=by
  rw[<-e,List.getElem_take];exact B4 _
 rw[h j x hj2 this];simp
def MF {α:Type}(p:α->Bool)(l:List α):Int:=if l.any p then(l.findIdx p:Int)else -1
theorem dJ {α:Type}{p:α->Bool}{l:List α}{i:Nat}{x:α}(hx:l[i]?=some x)(h:p x=true)(ha:∀(j:Nat) (y:α),j<i->l[j]?=some y->p y=false):MF p l=i:=by
 unfold MF;obtain⟨hi,e⟩:=BR.1 hx;rw[AH (List.any_eq_true.2 ⟨x,A8 hx,h⟩)]
 have:l.findIdx p=i:=(List.findIdx_eq hi).2 ⟨by rw[e];exact h,λj hj=>ha j _ hj (B4 _)⟩
 rw[this]
theorem aC {α:Type}{p:α->Bool}{l:List α}(ha:∀(j:Nat) (y:α),j<l.length->l[j]?=some y->p y=false):MF p l = -1:=by
 unfold MF
 have:=mh (l:=l) (p:=p) (i:=l.length) ha
 rw[DH]at this;rw[this];rfl
theorem dK {α:Type}(p:α->Bool)(l:List α):decide (MF p l>=0)=l.any p:=by
 unfold MF;cases l.any p
 ·rfl
 ·exact Ax (by simp)
end Go.Ide
