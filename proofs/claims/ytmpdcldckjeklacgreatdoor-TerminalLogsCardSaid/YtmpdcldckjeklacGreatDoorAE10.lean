/- The layer of own lemmas and contracts, part 10. -/
import Derived.Test.YtmpdcldckjeklacGreatDoorAE9
import Derived.Test.YtmpdcldckjeklacGreatDoorAE7
set_option linter.unusedVariables false
set_option linter.unusedSimpArgs false
namespace Go.Ide
open Go.Proofs Go.RowKit
set_option maxRecDepth 20000
set_option maxHeartbeats 4000000
def Fm (c:UInt8)(acc l:List UInt8):List (List UInt8):=match A8 c l with
 |w::ws=>(acc++w)::ws
 | []=>[acc]
theorem VP (c:UInt8)(acc:List UInt8):Fm c acc []=[acc]:=by
 show[acc++[]]=_;rw[Dd]
theorem P9 (c:UInt8)(l:List UInt8):Fm c [] l=A8 c l:=by
 unfold Fm
 have:=KS c l
 split
 ·rename_i w ws h;rw[h];rfl
 ·rename_i h;exact AW h this
theorem VQ (c:UInt8)(acc l:List UInt8):Fm c acc (c::l)=acc::Fm c [] l:=by
 rw[P9];unfold Fm;rw[JH,AM rfl];show(acc++[])::A8 c l=_;rw[Dd]
theorem Uv {c b:UInt8}(h:b≠c)(acc l:List UInt8):Fm c acc (b::l)=Fm c (acc++[b]) l:=by
 unfold Fm;rw[JH,AN h]
 have:=KS c l
 split
 ·rename_i w ws h1
  split at h1
  ·rename_i w' ws' h2
   cases h1
   first|(rw[h2];simp)|simp
  ·rename_i h2;exact AW h2 this
 ·rename_i h1
  split at h1<;>cases h1
theorem Ud {l:List UInt8}{s i:Nat}{b:UInt8}(h:l[i]?=some b)(hs:s<=i):(l.take (i+1)).drop s=(l.take i).drop s++[b]:=by
 have hi:=(Ay.1 h).1;rw[EG,h,List.drop_append_of_le_length (by rw[Ds];omega)];rfl
theorem P8 {l:List UInt8}{i:Nat}{b:UInt8}(h:l[i]?=some b):l.drop i=b::l.drop (i+1):=by
 obtain⟨hi,rfl⟩:=Ay.1 h;exact List.drop_eq_getElem_cons hi
theorem Qx (c:UInt8)(l:List UInt8)(hl:l.length<=100000):Aa C0 26 [AH l,.prim (.int .u8 (c.toNat:Nat))] (.sl false 1 ((A8 c l).map AH)):=by
 refine Ax.walk w1 ep rfl λF=>?_
 have hsz:=Bl l;refine AJ AU kB AA AA AA AA AA AA ?_;refine AO.loop (α:=List (List UInt8)×Nat×Nat×Nat×Nat) (λp=>⟨[(0,AH l),(1,.prim (.int .u8 (c.toNat:Nat))),(4,BA),(5,FU 706 p.2.2.2.1 1 (p.1.map AH)),(6,i64 (p.2.1:Nat)),(7,i64 (p.2.2.1:Nat))],FV 706 p.2.2.2.1 9 1 (p.1.map AH),p.2.2.2.2⟩) (λp=>l.length-p.2.2.1)
  (λp=>p.2.1<=p.2.2.1/\p.2.2.1<=l.length/\A8 c l=p.1++Fm c ((l.take p.2.2.1).drop p.2.1) (l.drop p.2.2.1)) ([],0,0,0,_) ⟨Ad _,Bu _,(P9 c l).symm⟩ Al ?_
 rintro⟨out,s,i,g7,n1⟩ F ⟨h1,h2,h3⟩;dsimp only at h1 h2 h3⊢;obtain⟨TL,hTL⟩:∃TL,out.map AH=TL:=⟨_,rfl⟩
 rw[hTL];have ex:(sb l).extract s i=sb ((l.take i).drop s):=by rw[GD]
 rcases Aq i l.length with h4|h4
 ·obtain⟨b,hb⟩:∃b,l[i]?=some b:=⟨l[i],BI h4⟩
  have t1:decide (((i:Nat):Int)<((l.length:Nat):Int))=true:=Av;have hx:=MW hb;have wc:=wS (n:=i) (by omega);have hi2:((i:Nat):Int)<((sb l).size:Int):=by rw[hsz];omega
  have hi3:((s:Nat):Int)<=((i:Nat):Int):=by omega
  by_cases hbc:b=c
  ·have t2:(((b.toNat:Nat):Int)==((c.toNat:Nat):Int))=true:=by rw[hbc];exact beq_self_eq_true _
   obtain⟨o2,ho2⟩:∃o2,out++[(l.take i).drop s]=o2:=⟨_,rfl⟩
   have hsn:o2.map AH=TL++[AH ((l.take i).drop s)]:=by rw[<-ho2,EH,hTL];rfl
   have h5:A8 c l=o2++Fm c ((l.take (i+1)).drop (i+1)) (l.drop (i+1)):=by
    rw[h3,P8 hb,hbc,VQ,Pm (l:=l.take (i+1)) (by rw[Ds];omega),<-ho2,Cr];rfl
   rcases TL with _|⟨z,TL⟩
   ·dsimp only[DS,DT]
    refine AJ AU (CL hsz t1 kN hx t2 ex wc) AA AA AA AA AA AA ?_;exact⟨(o2,i+1,i+1,_,_),⟨Ad _,h4,h5⟩,by dsimp only;omega,(by dsimp only;rw[hsn];exact Al)⟩
   ·dsimp only[C4,C5]
    have htk:List.take (TL.length+1) (z::TL)=z::TL:=by simp
    have hTl:TL.length+1=out.length:=by rw[<-BP (f:=AH),hTL];rfl
    have hol:out.length<=200000:=by
     have:=GW c l
     have hcl:l.count c<=l.length:=List.count_le_length;rw[h3,B9]at this;omega
    refine AJ AU (CL hsz t1 kN hx t2 ex (BJ wc htk)) AA AA AA AA AA AA ?_;exact⟨(o2,i+1,i+1,_,_),⟨Ad _,h4,h5⟩,by dsimp only;omega,(by dsimp only;rw[hsn,JF];exact Al)⟩
  ·have t2:(((b.toNat:Nat):Int)==((c.toNat:Nat):Int))=false:=by
    rw[Bi];intro h;apply hbc;exact UInt8.toNat_inj.1 (by omega)
   have h5:A8 c l=out++Fm c ((l.take (i+1)).drop s) (l.drop (i+1)):=by
    rw[h3,P8 hb,Uv hbc,Ud hb h1]
   refine AJ AU (D7 hsz t1 kN hx t2 wc) AA AA AA AA AA AA ?_;exact⟨(out,s,i+1,g7,_),⟨by dsimp only;omega,h4,h5⟩,by dsimp only;omega,(by dsimp only;rw[hTL];exact Al)⟩
 ·have hi:i=l.length:=by omega
  subst hi;have t1:decide (((l.length:Nat):Int)<((l.length:Nat):Int))=false:=Ap;rw[Pm (Ad _),VP]at h3;have hi3:((s:Nat):Int)<=((sb l).size:Int):=by rw[hsz];omega
  have hsn:(A8 c l).map AH=TL++[AH ((l.take l.length).drop s)]:=by rw[h3,EH,hTL];rfl
  rw[hsn];have hpp:AC (TL++[AH ((l.take l.length).drop s)]):=by rw[<-hsn];exact An
  have hpp':BX (.sl false 1 (TL++[AH ((l.take l.length).drop s)])):=AB.out;rcases TL with _|⟨z,TL⟩
  ·dsimp only[DS,DT]
   refine AJ AU (Cs hsz t1 kN ex) AA AA AA AA AA AA ?_;exact⟨_,Fk _ _ _ _ [AH ((l.take l.length).drop s)] _,AB.out,rfl⟩
  ·dsimp only[C4,C5]
   have htk:List.take (TL.length+1) (z::TL)=z::TL:=by simp
   have hTl:TL.length+1=out.length:=by rw[<-BP (f:=AH),hTL];rfl
   have hol:out.length<=200000:=by
    have:=GW c l
    have hcl:l.count c<=l.length:=List.count_le_length;rw[h3,B9]at this;omega
   refine AJ AU (CW hsz t1 kN ex htk) AA AA AA AA AA AA ?_;have hfz:=λK g=>Fk K g 9 1 (z::(TL++[AH ((l.take l.length).drop s)])) []
   rw[CD,B9,HI]at hfz;exact⟨_,hfz _ _,hpp',rfl⟩
theorem V1 (l:List UInt8)(hl:l.length<=100000):Aa C0 55 [AH l] (.tup [.sl false 1 ((if(A8 32 l).contains []then[]else A8 32 l).map AH),Ai (!(A8 32 l).contains [])]):=by
 refine Ax.walk w1 eF rfl λF=>?_
 have cS:=Qx 32 l hl;have hlen:=GW 32 l;have hcl:l.count 32<=l.length:=List.count_le_length;obtain⟨ws,hws⟩:∃ws,A8 32 l=ws:=⟨_,rfl⟩
 rw[hws]at cS hlen⊢;have hn:(ws.map AH).length=ws.length:=BP ..;have hp:AC (ws.map AH):=An;refine AJ AU kB cS AA AA AA AA AA ?_;refine AO.loop (α:=Nat×Nat) (λp=>⟨[(2,BA),(3,Ai false),(4,.sl false 1 (ws.map AH)),(5,i64 (p.1:Nat))],[],p.2⟩) (λp=>ws.length-p.1) (λp=>p.1<=ws.length/\(ws.take p.1).contains []=false) (0,_) ⟨Bu _,rfl⟩ Al ?_;clear cS;rintro⟨i,n1⟩ F ⟨h1,h0⟩;dsimp only at h1 h0⊢;rcases Aq i ws.length with h2|h2
 ·obtain⟨x,hx⟩:∃x,ws[i]?=some x:=⟨ws[i],BI h2⟩
  have t1:decide (((i:Nat):Int)<((ws.length:Nat):Int))=true:=Av;have hx':=HY hx;have eS:=Ce x [];have wc:=wS (n:=i) (by omega)
  by_cases hsx:x=[]
  ·rw[BW hsx]at eS
   have e1:=Rt (s:=[]) (hsx ▸ hx);refine AJ AU (CK hn t1 eS) hx' AA AA AA AA AA ?_;rw[e1];exact⟨_,B7 (.nil 1) (.refl _),AB.out,rfl⟩
  ·rw[B4 hsx]at eS
   have h3:=Qn (s:=[]) hx h0 (λe=>hsx e.symm);refine AJ AU (Cs hn t1 eS wc) hx' AA AA AA AA AA ?_;exact⟨(i+1,_),⟨by dsimp only;omega,h3⟩,by dsimp only;omega,Al⟩
 ·have hi:i=ws.length:=by omega
  subst hi;have t1:decide (((ws.length:Nat):Int)<((ws.length:Nat):Int))=false:=Ap;rw[C3 (Ad _)]at h0;rw[h0];refine AJ AU (BJ hn t1) AA AA AA AA AA AA ?_;exact Ac rfl AB.out
theorem R0 (l:List UInt8)(hl:l.length<=100000):Aa C0 57 [AH l] (i64 (Bs l:Nat)):=by
 refine Ax.walk w1 eH rfl λF=>?_
 have hsz:=Bl l;refine AJ AU kB AA AA AA AA AA AA ?_;refine AO.loop (α:=Nat×Nat) (λp=>⟨[(0,AH l),(2,i64 0),(3,i64 (Bs (l.take p.1):Nat)),(4,i64 (p.1:Nat))],[],p.2⟩) (λp=>l.length-p.1) (λp=>p.1<=l.length) (0,_) (Bu _) Al ?_;rintro⟨i,n1⟩ F h1;dsimp only at h1⊢;rcases Aq i l.length with h2|h2
 ·obtain⟨b,hb⟩:∃b,l[i]?=some b:=⟨l[i],BI h2⟩
  have t1:decide (((i:Nat):Int)<((l.length:Nat):Int))=true:=Av;have hx:=MW hb;have hbl:=PV b;have hc:=Ib (l.take i);have ht:=RP hb;have wc:=wS (n:=i) (by omega);have hi2:((i:Nat):Int)<((sb l).size:Int):=by rw[hsz];omega
  generalize Bs (l.take i)=q at*;obtain⟨q2,hq2⟩:∃q,Bs (l.take (i+1))=q:=⟨_,rfl⟩
  rw[hq2]at ht;have hst:=Rs hc hbl;rw[<-ht]at hst;refine AJ AU (D7 hsz t1 kN hx wc hst) AA AA AA AA AA AA ?_;exact⟨(i+1,_),by dsimp only;omega,by dsimp only;omega,(by dsimp only;rw[hq2];exact Al)⟩
 ·have hi:i=l.length:=by omega
  subst hi;have t1:decide (((l.length:Nat):Int)<((l.length:Nat):Int))=false:=Ap;rw[C3 (Ad _)];generalize Bs l=q at*;refine AJ AU (BJ hsz t1) AA AA AA AA AA AA ?_;exact Ac rfl AB.out
theorem dt {n:Nat}(h:n<256):IntKind.u8.wrap (n:Int)=(n:Int):=by
 have e1:(2:Int)^IntKind.u8.bits=256:=rfl;unfold IntKind.wrap;simp only[e1];have e3:IntKind.u8.signed=false:=rfl;rw[e3];simp only[ib,LS,if_false];omega
theorem Xb {l:List UInt8}{i:Nat}{b:UInt8}(h:l[i]?=some b):dv (l.take (i+1))=dv (l.take i)*10+(b.toNat-48):=by
 rw[EG,h];unfold dv Ff;rw[Option.toList_some,List.foldl_append];rfl
theorem MR (l:List UInt8)(hl:l.length<=100000):Aa C0 56 [AH l] (.tup [i64 (Bg l:Nat),Ai (BH l)]):=by
 refine Ax.walk w1 eG rfl λF=>?_
 have hsz:=Bl l;have hch:(((sb l).data.toList.getD ((0:Int)).toNat 0).toNat:Int)=((l.headD 0).toNat:Int):=by
  show((l.getD 0 0).toNat:Int)=_;cases l<;>rfl
 rcases Aq l.length 1 with h1|h1
 ·have t1:decide (((l.length:Nat):Int)<1)=true:=Av
  have hI:BH l=false:=by unfold BH;rw[B4 (show ¬ 1<=l.length by omega)];simp
  refine AJ AU (BJ hsz t1) AA AA AA AA AA AA ?_;refine Ac ?_ AB.out;unfold Bg;rw[hI];rfl
 have t1:decide (((l.length:Nat):Int)<1)=false:=Ap;rcases Aq 9 l.length with h9|h9
 ·have t2:decide (((l.length:Nat):Int)>9)=true:=Av
  have hI:BH l=false:=by unfold BH;rw[B4 (show ¬l.length<=9 by omega)];simp
  refine AJ AU (CK hsz t1 t2) AA AA AA AA AA AA ?_;refine Ac ?_ AB.out;unfold Bg;rw[hI];rfl
 have t2:decide (((l.length:Nat):Int)>9)=false:=Ap;have hb0:(0:Int)<((sb l).size:Int):=by rw[hsz];omega
 have key:(decide (2<=l.length)&&(l.headD 0==48))=true\/(decide (2<=l.length)&&(l.headD 0==48))=false:=by cases(decide (2<=l.length)&&(l.headD 0==48))<;>simp
 rcases key with h3|h3
 ·have hI:BH l=false:=by unfold BH;rw[h3];simp
  rw[Ag,FE,Fd]at h3;have t3:decide (((l.length:Nat):Int)>1)=true:=Av;have t4:((((l.headD 0).toNat:Int))==48)=true:=by rw[h3.2];rfl
  refine AJ AU (D7 hsz t1 t2 t3 hch t4) AA AA AA AA AA AA ?_;refine Ac ?_ AB.out;unfold Bg;rw[hI];rfl
 have hI:BH l=l.all Bb:=by unfold BH;rw[h3,BW h1,BW h9];simp
 refine sZ 0 ?_;refine Ca kB ?_;refine Pi (α:=Nat) (λn=>⟨[(0,AH l),(2,i64 0),(3,Ai false)],[],n⟩) (λ_=>True) ?_ ?_
 ·rcases Aq 1 l.length with h5|h5
  ·have t3:decide (((l.length:Nat):Int)>1)=true:=Av
   have t4:((((l.headD 0).toNat:Int))==48)=false:=by
    rw[BW (show 2<=l.length from h5),LX,Bi]at h3;rw[Bi];intro h;apply h3
    have:(l.headD 0).toNat=48:=by omega
    exact UInt8.toNat_inj.1 this
   refine AJ AU (D7 hsz t1 t2 t3 hch t4) AA AA AA AA AA AA ?_;exact⟨trivial,_,trivial,Al⟩
  ·have t3:decide (((l.length:Nat):Int)>1)=false:=Ap
   refine AJ AU (Cs hsz t1 t2 t3) AA AA AA AA AA AA ?_;exact⟨trivial,_,trivial,Al⟩
 rintro n0 -;clear hch h3 t1 t2;refine AJ AU kB AA AA AA AA AA AA ?_;refine AO.loop (α:=Nat×Nat) (λp=>⟨[(0,AH l),(2,i64 0),(3,Ai false),(4,i64 (dv (l.take p.1):Nat)),(5,i64 (p.1:Nat))],[],p.2⟩) (λp=>l.length-p.1) (λp=>p.1<=l.length/\(l.take p.1).all Bb=true) (0,_) ⟨Bu _,rfl⟩ Al ?_;rintro⟨i,n1⟩ F ⟨h1',h2⟩;dsimp only at h1' h2⊢;rcases Aq i l.length with h4|h4
 ·obtain⟨b,hb⟩:∃b,l[i]?=some b:=⟨l[i],BI h4⟩
  have t1:decide (((i:Nat):Int)<((l.length:Nat):Int))=true:=Av;have hx:=MW hb;have hbl:=PV b;have wc:=wS (n:=i) (by omega);have hi2:((i:Nat):Int)<((sb l).size:Int):=by rw[hsz];omega
  have hsn:(l.take (i+1)).all Bb=Bb b:=by rw[EG,hb,H8,h2];simp
  have hdl:=d3 _ h2;have hp9:(10:Nat)^(l.take i).length<=10^9:=Nat.pow_le_pow_right (by decide) (by rw[Ds];omega);have hp9':(10:Nat)^9=1000000000:=by decide
  have hds:=Xb hb;have hmem:b∈l:=Bh hb;rcases Aq b.toNat 48 with h5|h5
  ·have hbad:BH l=false:=by
    rw[hI,Bool.eq_false_iff];intro h
    have:=(IL (CF.1 h b hmem)).1;omega
   have t2:decide (((b.toNat:Nat):Int)<48)=true:=Av;refine AJ AU (CW hsz t1 kN hx t2) AA AA AA AA AA AA ?_;refine Ac ?_ AB.out;unfold Bg;rw[hbad];rfl
  have t2:decide (((b.toNat:Nat):Int)<48)=false:=Ap;rcases Aq 57 b.toNat with h6|h6
  ·have hbad:BH l=false:=by
    rw[hI,Bool.eq_false_iff];intro h
    have:=(IL (CF.1 h b hmem)).2;omega
   have t3:decide (((b.toNat:Nat):Int)>57)=true:=Av;refine AJ AU (D7 hsz t1 kN hx t2 t3) AA AA AA AA AA AA ?_;refine Ac ?_ AB.out;unfold Bg;rw[hbad];rfl
  have t3:decide (((b.toNat:Nat):Int)>57)=false:=Ap;have hdig:Bb b=true:=by
   unfold Bb;rw[Ag];exact⟨Nat.ble_eq_true_of_le h5,Nat.ble_eq_true_of_le h6⟩
  rw[hdig]at hsn;have w1':IntKind.u8.wrap (((b.toNat:Nat):Int)-48)=((b.toNat-48:Nat):Int):=by
   rw[show((b.toNat:Nat):Int)-48=((b.toNat-48:Nat):Int) by omega];exact dt (by omega)
  have w2':IntKind.i64.wrap ((b.toNat-48:Nat):Int)=((b.toNat-48:Nat):Int):=wN (by omega);have w3':IntKind.i64.wrap (10*((dv (l.take i):Nat):Int))=((10*dv (l.take i):Nat):Int):=by rw[wI];omega
  have w4':IntKind.i64.wrap (((10*dv (l.take i):Nat):Int)+((b.toNat-48:Nat):Int))=((dv (l.take (i+1)):Nat):Int):=by rw[hds,wI];omega
  refine AJ AU (CL hsz t1 kN hx t2 t3 (CW w1' w2' w3' w4' wc)) AA AA AA AA AA AA ?_;exact⟨(i+1,_),⟨by dsimp only;omega,hsn⟩,by dsimp only;omega,Al⟩
 ·have hi:i=l.length:=by omega
  subst hi;have t1:decide (((l.length:Nat):Int)<((l.length:Nat):Int))=false:=Ap;rw[C3 (Ad _)]at h2⊢;rw[h2]at hI;refine AJ AU (BJ hsz t1) AA AA AA AA AA AA ?_;refine Ac ?_ AB.out;unfold Bg;rw[hI];rfl
def Hi (o:Option (Nat×Nat)):D:=match o with
 |some p=>.tup [i64 (p.1:Nat),i64 (p.2:Nat)]
 |none=>.tup [i64 (-1),i64 0]
instance  (o:Option (Nat×Nat)):AB (Hi o):=by unfold Hi;split<;>exact An
theorem Vf (k:List UInt8)(e0:¬k=[98,105,110])(e1:¬k=[97,114,114,105,118,101])(e2:¬k=[115,116,111,114,101])(e3:¬k=[109,111,118,101])(e4:¬k=[100,114,121])(e5:¬k=[115,104,105,112])(e6:¬k=[98,108,101,110,100])(e7:¬k=[108,111,97,100])(e8:¬k=[99,108,111,115,101])(e9:¬k=[105,115,115,117,101])(e10:¬k=[99,97,110,99,101,108]):Aa C0 60 [AH k] (.tup [i64 (-1),i64 0]):=by
 refine Ax.walk w1 TS rfl λF=>?_
 have q0:BL (sb k) (sb [98,105,110])=false:=by rw[Ce];exact B4 e0
 have q1:BL (sb k) (sb [97,114,114,105,118,101])=false:=by rw[Ce];exact B4 e1
 have q2:BL (sb k) (sb [115,116,111,114,101])=false:=by rw[Ce];exact B4 e2
 have q3:BL (sb k) (sb [109,111,118,101])=false:=by rw[Ce];exact B4 e3
 have q4:BL (sb k) (sb [100,114,121])=false:=by rw[Ce];exact B4 e4
 have q5:BL (sb k) (sb [115,104,105,112])=false:=by rw[Ce];exact B4 e5
 have q6:BL (sb k) (sb [98,108,101,110,100])=false:=by rw[Ce];exact B4 e6
 have q7:BL (sb k) (sb [108,111,97,100])=false:=by rw[Ce];exact B4 e7
 have q8:BL (sb k) (sb [99,108,111,115,101])=false:=by rw[Ce];exact B4 e8
 have q9:BL (sb k) (sb [105,115,115,117,101])=false:=by rw[Ce];exact B4 e9
 have q10:BL (sb k) (sb [99,97,110,99,101,108])=false:=by rw[Ce];exact B4 e10
 refine AJ AU (CL q0 q1 q2 q3 q4 q5 (CW q6 q7 q8 q9 q10)) AA AA AA AA AA AA ?_;exact Ac rfl AB.out
theorem Rm (k:List UInt8):Aa C0 60 [AH k] (Hi (En k)):=by
 refine Ly (P:=λk o=>Aa C0 60 [AH k] (Hi o)) k (Fy Fp 100 10) (Fy Fp 100 10) (Fy Fp 100 10) (Fy Fp 100 10) (Fy Fp 100 10) (Fy Fp 100 10) (Fy Fp 100 10) (Fy Fp 100 10) (Fy Fp 100 10) (Fy Fp 100 10) (Fy Fp 100 10) ?_;intro e0 e1 e2 e3 e4 e5 e6 e7 e8 e9 e10;exact Vf k e0 e1 e2 e3 e4 e5 e6 e7 e8 e9 e10
set_option maxHeartbeats 2000000
theorem Vz (c:Nat):(97<=c/\c<=122)\/(122<c)\/(65<=c/\c<=90)\/((91<=c/\c<=96)/\c≠95)\/(c=95)\/(58<=c/\c<=64)\/(48<=c/\c<=57)\/(c<48/\c≠45/\c≠46)\/(c=45)\/(c=46):=by omega
theorem dB (l:List UInt8)(hl:l.length<=9223372036854775807):Aa C0 61 [str (sb l)] (Ai (Dm l)):=by
 refine Ax.walk w1 eL rfl λF=>?_
 have hsz:=Bl l;refine sR 0 ?_;refine Pi (α:=Nat) (λn=>⟨[(0,str (sb l))],[],n⟩) (λ_=>1<=l.length/\l.length<=24) ?_ ?_
 ·by_cases h1:l.length<1
  ·have e1:decide ((l.length:Int)<1)=true:=Av
   refine sZ 100 ?_;refine EK (BJ hsz e1) ?_;refine Ca kT ?_;refine Cy ?_;refine sR 200 ?_;refine FH ?_;exact Ac (by unfold Dm;rw[B4 (show ¬ 1<=l.length by omega)];simp) AB.out
  ·have e1:decide ((l.length:Int)<1)=false:=Ap
   have e2:decide ((l.length:Int)>24)=decide (24<l.length):=decide_eq_decide.2 (by omega);refine sZ 100 ?_;refine EK (BJ hsz e1) ?_;refine Ca (CK kF hsz e2) ?_
   by_cases h2:24<l.length
   ·rw[BW h2]
    refine Cy ?_;refine sR 200 ?_;refine FH ?_;exact Ac (by unfold Dm;rw[B4 (show ¬l.length<=24 by omega)];simp) AB.out
   ·rw[B4 h2]
    refine Cy ?_;refine Fh ?_;exact⟨rfl,_,⟨by omega,by omega⟩,Al⟩
 rintro n0 ⟨l1,l2⟩;refine AO.seq ?_;refine sR 300 ?_;refine AO.block ?_;refine AO.loop (α:=Nat×Nat) (λp=>⟨[(0,str (sb l)),(3,i64 (p.1:Int))],[],p.2⟩) (λp=>l.length-p.1) (λp=>p.1<=l.length/\(l.take p.1).all (λb=>Bv b.toNat)=true) (0,_) ⟨Bu _,rfl⟩ Al ?_;rintro⟨i,n⟩ F ⟨hi,ha⟩;dsimp only at hi ha⊢;refine AO.seq ?_;refine sZ 400 ?_;refine EK hsz ?_;refine Cy ?_
 (refine Iv (λhlt=>?_) (λhlt=>?_))<;>(try simp only[Ec,I0]at hlt)<;>(try simp only[hlt])
 ·have hi2:i<l.length:=by
   have:=of_decide_eq_true hlt
   omega
  obtain⟨c,hc⟩:∃c,l[i]?=some c:=⟨l[i],BI hi2⟩
  have hg:l.getD i 0=c:=by simp[hc]
  have wi:IntKind.i64.wrap ((i:Int)+1)=((i+1:Nat):Int):=wI;refine Fh ?_;refine AO.seq ?_;refine AO.block ?_;refine sZ 600 ?_;refine EK (BJ kN hg) ?_;have hcl:Bv c.toNat=false->Dm l=false:=λh=>by
   unfold Dm;cases hall:l.all (λb=>Bv b.toNat)
   ·rfl
   ·have:=CF.1 hall c (Bh hc)
    rw[h]at this;cases this
  have hsn:Bv c.toNat=true->(l.take (i+1)).all (λb=>Bv b.toNat)=true:=λh=>by
   rw[EG,hc,H8,ha];simpa using h
  have hc9:c.toNat<256:=c.toNat_lt;generalize c.toNat=c at*;refine Pi (α:=Nat) (λn=>⟨[(0,str (sb l)),(3,i64 (i:Int)),(56,Ai (!Bv c))],[],n⟩) (λ_=>True) ?_ ?_
  ·clear hcl hsn
   rcases Vz c with h|h|h|h|h|h|h|h|h|h
   ·skip
    have f1:decide ((c:Int)>=97)=true:=Av;have f2:decide ((c:Int)<=122)=true:=Av;have f3:decide ((c:Int)>=65)=true:=Av;have f4:decide ((c:Int)<=90)=false:=Ap;have f5:decide ((c:Int)>=48)=true:=Av;have f6:decide ((c:Int)<=57)=false:=Ap;have f7:((c:Int)==45)=false:=Bi.2 (by omega);have f8:((c:Int)==95)=false:=Bi.2 (by omega);have f9:((c:Int)==46)=false:=Bi.2 (by omega);have hnb:Bv c=true:=by
     unfold Bv;simp;omega
    rw[hnb];refine DJ 700 ?_
    iterate 9
     refine Ca kB ?_
     try simp only[f1,f2,f3,f4,f5,f6,f7,f8,f9]
    exact⟨by first|exact AA|rfl|simp,_,trivial,Al⟩
   ·skip
    have f1:decide ((c:Int)>=97)=true:=Av;have f2:decide ((c:Int)<=122)=false:=Ap;have f3:decide ((c:Int)>=65)=true:=Av;have f4:decide ((c:Int)<=90)=false:=Ap;have f5:decide ((c:Int)>=48)=true:=Av;have f6:decide ((c:Int)<=57)=false:=Ap;have f7:((c:Int)==45)=false:=Bi.2 (by omega);have f8:((c:Int)==95)=false:=Bi.2 (by omega);have f9:((c:Int)==46)=false:=Bi.2 (by omega);have hnb:Bv c=false:=by
     unfold Bv;simp;omega
    rw[hnb];refine DJ 700 ?_
    iterate 9
     refine Ca kB ?_
     try simp only[f1,f2,f3,f4,f5,f6,f7,f8,f9]
    exact⟨by first|exact AA|rfl|simp,_,trivial,Al⟩
   ·skip
    have f1:decide ((c:Int)>=97)=false:=Ap;have f2:decide ((c:Int)<=122)=true:=Av;have f3:decide ((c:Int)>=65)=true:=Av;have f4:decide ((c:Int)<=90)=true:=Av;have f5:decide ((c:Int)>=48)=true:=Av;have f6:decide ((c:Int)<=57)=false:=Ap;have f7:((c:Int)==45)=false:=Bi.2 (by omega);have f8:((c:Int)==95)=false:=Bi.2 (by omega);have f9:((c:Int)==46)=false:=Bi.2 (by omega);have hnb:Bv c=true:=by
     unfold Bv;simp;omega
    rw[hnb];refine DJ 700 ?_
    iterate 9
     refine Ca kB ?_
     try simp only[f1,f2,f3,f4,f5,f6,f7,f8,f9]
    exact⟨by first|exact AA|rfl|simp,_,trivial,Al⟩
   ·skip
    have f1:decide ((c:Int)>=97)=false:=Ap;have f2:decide ((c:Int)<=122)=true:=Av;have f3:decide ((c:Int)>=65)=true:=Av;have f4:decide ((c:Int)<=90)=false:=Ap;have f5:decide ((c:Int)>=48)=true:=Av;have f6:decide ((c:Int)<=57)=false:=Ap;have f7:((c:Int)==45)=false:=Bi.2 (by omega);have f8:((c:Int)==95)=false:=Bi.2 (by omega);have f9:((c:Int)==46)=false:=Bi.2 (by omega);have hnb:Bv c=false:=by
     unfold Bv;simp;omega
    rw[hnb];refine DJ 700 ?_
    iterate 9
     refine Ca kB ?_
     try simp only[f1,f2,f3,f4,f5,f6,f7,f8,f9]
    exact⟨by first|exact AA|rfl|simp,_,trivial,Al⟩
   ·skip
    have f1:decide ((c:Int)>=97)=false:=Ap;have f2:decide ((c:Int)<=122)=true:=Av;have f3:decide ((c:Int)>=65)=true:=Av;have f4:decide ((c:Int)<=90)=false:=Ap;have f5:decide ((c:Int)>=48)=true:=Av;have f6:decide ((c:Int)<=57)=false:=Ap;have f7:((c:Int)==45)=false:=Bi.2 (by omega);have f8:((c:Int)==95)=true:=Fd.2 (by omega);have f9:((c:Int)==46)=false:=Bi.2 (by omega);have hnb:Bv c=true:=by
     unfold Bv;simp;omega
    rw[hnb];refine DJ 700 ?_
    iterate 9
     refine Ca kB ?_
     try simp only[f1,f2,f3,f4,f5,f6,f7,f8,f9]
    exact⟨by first|exact AA|rfl|simp,_,trivial,Al⟩
   ·skip
    have f1:decide ((c:Int)>=97)=false:=Ap;have f2:decide ((c:Int)<=122)=true:=Av;have f3:decide ((c:Int)>=65)=false:=Ap;have f4:decide ((c:Int)<=90)=true:=Av;have f5:decide ((c:Int)>=48)=true:=Av;have f6:decide ((c:Int)<=57)=false:=Ap;have f7:((c:Int)==45)=false:=Bi.2 (by omega);have f8:((c:Int)==95)=false:=Bi.2 (by omega);have f9:((c:Int)==46)=false:=Bi.2 (by omega);have hnb:Bv c=false:=by
     unfold Bv;simp;omega
    rw[hnb];refine DJ 700 ?_
    iterate 9
     refine Ca kB ?_
     try simp only[f1,f2,f3,f4,f5,f6,f7,f8,f9]
    exact⟨by first|exact AA|rfl|simp,_,trivial,Al⟩
   ·skip
    have f1:decide ((c:Int)>=97)=false:=Ap;have f2:decide ((c:Int)<=122)=true:=Av;have f3:decide ((c:Int)>=65)=false:=Ap;have f4:decide ((c:Int)<=90)=true:=Av;have f5:decide ((c:Int)>=48)=true:=Av;have f6:decide ((c:Int)<=57)=true:=Av;have f7:((c:Int)==45)=false:=Bi.2 (by omega);have f8:((c:Int)==95)=false:=Bi.2 (by omega);have f9:((c:Int)==46)=false:=Bi.2 (by omega);have hnb:Bv c=true:=by
     unfold Bv;simp;omega
    rw[hnb];refine DJ 700 ?_
    iterate 9
     refine Ca kB ?_
     try simp only[f1,f2,f3,f4,f5,f6,f7,f8,f9]
    exact⟨by first|exact AA|rfl|simp,_,trivial,Al⟩
   ·skip
    have f1:decide ((c:Int)>=97)=false:=Ap;have f2:decide ((c:Int)<=122)=true:=Av;have f3:decide ((c:Int)>=65)=false:=Ap;have f4:decide ((c:Int)<=90)=true:=Av;have f5:decide ((c:Int)>=48)=false:=Ap;have f6:decide ((c:Int)<=57)=true:=Av;have f7:((c:Int)==45)=false:=Bi.2 (by omega);have f8:((c:Int)==95)=false:=Bi.2 (by omega);have f9:((c:Int)==46)=false:=Bi.2 (by omega);have hnb:Bv c=false:=by
     unfold Bv;simp;omega
    rw[hnb];refine DJ 700 ?_
    iterate 9
     refine Ca kB ?_
     try simp only[f1,f2,f3,f4,f5,f6,f7,f8,f9]
    exact⟨by first|exact AA|rfl|simp,_,trivial,Al⟩
   ·skip
    have f1:decide ((c:Int)>=97)=false:=Ap;have f2:decide ((c:Int)<=122)=true:=Av;have f3:decide ((c:Int)>=65)=false:=Ap;have f4:decide ((c:Int)<=90)=true:=Av;have f5:decide ((c:Int)>=48)=false:=Ap;have f6:decide ((c:Int)<=57)=true:=Av;have f7:((c:Int)==45)=true:=Fd.2 (by omega);have f8:((c:Int)==95)=false:=Bi.2 (by omega);have f9:((c:Int)==46)=false:=Bi.2 (by omega);have hnb:Bv c=true:=by
     unfold Bv;simp;omega
    rw[hnb];refine DJ 700 ?_
    iterate 9
     refine Ca kB ?_
     try simp only[f1,f2,f3,f4,f5,f6,f7,f8,f9]
    exact⟨by first|exact AA|rfl|simp,_,trivial,Al⟩
   ·skip
    have f1:decide ((c:Int)>=97)=false:=Ap;have f2:decide ((c:Int)<=122)=true:=Av;have f3:decide ((c:Int)>=65)=false:=Ap;have f4:decide ((c:Int)<=90)=true:=Av;have f5:decide ((c:Int)>=48)=false:=Ap;have f6:decide ((c:Int)<=57)=true:=Av;have f7:((c:Int)==45)=false:=Bi.2 (by omega);have f8:((c:Int)==95)=false:=Bi.2 (by omega);have f9:((c:Int)==46)=true:=Fd.2 (by omega);have hnb:Bv c=true:=by
     unfold Bv;simp;omega
    rw[hnb];refine DJ 700 ?_
    iterate 9
     refine Ca kB ?_
     try simp only[f1,f2,f3,f4,f5,f6,f7,f8,f9]
    exact⟨by first|exact AA|rfl|simp,_,trivial,Al⟩
  rintro n1 -;cases hb:Bv c
  ·refine Cy ?_
   refine sR 800 ?_;refine FH ?_;exact Ac (by rw[hcl hb]) AB.out
  ·refine Cy ?_
   refine Fh ?_;refine DJ 500 ?_;refine EK wi ?_;exact⟨(i+1,_),⟨hi2,hsn hb⟩,by dsimp only;omega,Al⟩
 ·have hi2:i=l.length:=by
   have:=of_decide_eq_false hlt
   omega
  subst hi2;rw[C3 (Ad _)]at ha;refine IA ?_;refine sR 900 ?_;refine FH ?_;exact Ac (by unfold Dm;rw[ha,BW l1,BW l2];rfl) AB.out
theorem fH (l:List UInt8)(hl:l.length<=1000000):Aa C0 61 [str (sb l)] (Ai (Dm l)):=dB l (Az hl (by decide))
end Go.Ide
