/- The layer of own lemmas and contracts, part 9. -/
import Derived.Test.YtmpdcldckjeklaaGreatDoorAC8
import Derived.Test.YtmpdcldckjeklaaGreatDoorAC7
set_option linter.unusedVariables false
set_option linter.unusedSimpArgs false
namespace Go.Ide
open Go.Proofs Go.RowKit
set_option maxRecDepth 20000
set_option maxHeartbeats 4000000
def FL (c:UInt8)(acc l:List UInt8):List (List UInt8):=match A9 c l with
 |w::ws=>(acc++w)::ws
 | []=>[acc]
theorem UX (c:UInt8)(acc:List UInt8):FL c acc []=[acc]:=by
 show[acc++[]]=_;rw[Ek]
theorem Pn (c:UInt8)(l:List UInt8):FL c [] l=A9 c l:=by
 unfold FL
 have:=LJ c l
 split
 ·rename_i w ws h;rw[h];rfl
 ·rename_i h;exact AY h this
theorem UY (c:UInt8)(acc l:List UInt8):FL c acc (c::l)=acc::FL c [] l:=by
 rw[Pn];unfold FL;rw[LI,AL rfl];show(acc++[])::A9 c l=_;rw[Ek]
theorem Td {c b:UInt8}(h:b≠c)(acc l:List UInt8):FL c acc (b::l)=FL c (acc++[b]) l:=by
 unfold FL;rw[LI,AM h]
 have:=LJ c l
 split
 ·rename_i w ws h1
  split at h1
  ·rename_i w' ws' h2
   cases h1
   first|(rw[h2];simp)|simp
  ·rename_i h2;exact AY h2 this
 ·rename_i h1
  split at h1<;>cases h1
theorem TW {l:List UInt8}{s i:Nat}{b:UInt8}(h:l[i]?=some b)(hs:s<=i):(l.take (i+1)).drop s=(l.take i).drop s++[b]:=by
 have hi:=(Au.1 h).1;rw[E8,h,List.drop_append_of_le_length (by rw[EQ];omega)];rfl
theorem PU {l:List UInt8}{i:Nat}{b:UInt8}(h:l[i]?=some b):l.drop i=b::l.drop (i+1):=by
 obtain⟨hi,rfl⟩:=Au.1 h;exact List.drop_eq_getElem_cons hi
theorem Uk (c:UInt8)(l:List UInt8)(hl:l.length<=100000):Af C0 59 [AR l,.prim (.int .u8 (c.toNat:Nat))] (.sl false 1 ((A9 c l).map AR)):=by
 refine BN.walk w1 bK rfl λF=>?_
 have hsz:=EI l;refine AS Ah kB AA AA AA AA AA AA ?_;refine AQ.loop (α:=List (List UInt8)×Nat×Nat×Nat×Nat) (λp=>⟨[(0,AR l),(1,.prim (.int .u8 (c.toNat:Nat))),(4,BC),(5,GG 706 p.2.2.2.1 1 (p.1.map AR)),(6,i64 (p.2.1:Nat)),(7,i64 (p.2.2.1:Nat))],GH 706 p.2.2.2.1 9 1 (p.1.map AR),p.2.2.2.2⟩) (λp=>l.length-p.2.2.1)
  (λp=>p.2.1<=p.2.2.1/\p.2.2.1<=l.length/\A9 c l=p.1++FL c ((l.take p.2.2.1).drop p.2.1) (l.drop p.2.2.1)) ([],0,0,0,_) ⟨Ag _,CJ _,(Pn c l).symm⟩ As ?_
 rintro⟨out,s,i,g7,n1⟩ F ⟨h1,h2,h3⟩;dsimp only at h1 h2 h3⊢;obtain⟨TL,hTL⟩:∃TL,out.map AR=TL:=⟨_,rfl⟩
 rw[hTL];have ex:(sb l).extract s i=sb ((l.take i).drop s):=by rw[H9]
 rcases Ao i l.length with h4|h4
 ·obtain⟨b,hb⟩:∃b,l[i]?=some b:=⟨l[i],BM h4⟩
  have t1:decide (((i:Nat):Int)<((l.length:Nat):Int))=true:=Ay;have hx:=Lm hb;have wc:=wS (n:=i) (by omega);have hi2:((i:Nat):Int)<((sb l).size:Int):=by rw[hsz];omega
  have hi3:((s:Nat):Int)<=((i:Nat):Int):=by omega
  by_cases hbc:b=c
  ·have t2:(((b.toNat:Nat):Int)==((c.toNat:Nat):Int))=true:=by rw[hbc];exact beq_self_eq_true _
   obtain⟨o2,ho2⟩:∃o2,out++[(l.take i).drop s]=o2:=⟨_,rfl⟩
   have hsn:o2.map AR=TL++[AR ((l.take i).drop s)]:=by rw[<-ho2,ER,hTL];rfl
   have h5:A9 c l=o2++FL c ((l.take (i+1)).drop (i+1)) (l.drop (i+1)):=by
    rw[h3,PU hb,hbc,UY,List.drop_of_length_le (l:=l.take (i+1)) (by rw[EQ];omega),<-ho2,Dm];rfl
   rcases TL with _|⟨z,TL⟩
   ·dsimp only[F7,F8]
    refine AS Ah (Db hsz t1 kN hx t2 ex wc) AA AA AA AA AA AA ?_;exact⟨(o2,i+1,i+1,_,_),⟨Ag _,h4,h5⟩,by dsimp only;omega,(by dsimp only;rw[hsn];exact As)⟩
   ·dsimp only[FH,FJ]
    have htk:List.take (TL.length+1) (z::TL)=z::TL:=by simp
    have hTl:TL.length+1=out.length:=by rw[<-Bq (f:=AR),hTL];rfl
    have hol:out.length<=200000:=by
     have:=G4 c l
     have hcl:l.count c<=l.length:=List.count_le_length;rw[h3,Dk]at this;omega
    refine AS Ah (Db hsz t1 kN hx t2 ex (Be wc htk)) AA AA AA AA AA AA ?_;exact⟨(o2,i+1,i+1,_,_),⟨Ag _,h4,h5⟩,by dsimp only;omega,(by dsimp only;rw[hsn,LM];exact As)⟩
  ·have t2:(((b.toNat:Nat):Int)==((c.toNat:Nat):Int))=false:=by
    rw[Bn];intro h;apply hbc;exact UInt8.toNat_inj.1 (by omega)
   have h5:A9 c l=out++FL c ((l.take (i+1)).drop s) (l.drop (i+1)):=by
    rw[h3,PU hb,Td hbc,TW hb h1]
   refine AS Ah (GQ hsz t1 kN hx t2 wc) AA AA AA AA AA AA ?_;exact⟨(out,s,i+1,g7,_),⟨by dsimp only;omega,h4,h5⟩,by dsimp only;omega,(by dsimp only;rw[hTL];exact As)⟩
 ·have hi:i=l.length:=by omega
  subst hi;have t1:decide (((l.length:Nat):Int)<((l.length:Nat):Int))=false:=Ap;rw[List.drop_of_length_le (Ag _),UX]at h3;have hi3:((s:Nat):Int)<=((sb l).size:Int):=by rw[hsz];omega
  have hsn:(A9 c l).map AR=TL++[AR ((l.take l.length).drop s)]:=by rw[h3,ER,hTL];rfl
  rw[hsn];have hpp:AT (TL++[AR ((l.take l.length).drop s)]):=by rw[<-hsn];exact A7
  have hpp':BS (.sl false 1 (TL++[AR ((l.take l.length).drop s)])):=AB.out;rcases TL with _|⟨z,TL⟩
  ·dsimp only[F7,F8]
   refine AS Ah (Dz hsz t1 kN ex) AA AA AA AA AA AA ?_;exact⟨_,H6 _ _ _ _ [AR ((l.take l.length).drop s)] _,AB.out,rfl⟩
  ·dsimp only[FH,FJ]
   have htk:List.take (TL.length+1) (z::TL)=z::TL:=by simp
   have hTl:TL.length+1=out.length:=by rw[<-Bq (f:=AR),hTL];rfl
   have hol:out.length<=200000:=by
    have:=G4 c l
    have hcl:l.count c<=l.length:=List.count_le_length;rw[h3,Dk]at this;omega
   refine AS Ah (Da hsz t1 kN ex htk) AA AA AA AA AA AA ?_;have hfz:=λK g=>H6 K g 9 1 (z::(TL++[AR ((l.take l.length).drop s)])) []
   rw[CY,Dk,Gs]at hfz;exact⟨_,hfz _ _,hpp',rfl⟩
theorem Um (l:List UInt8)(hl:l.length<=100000):Af C0 27 [AR l] (.tup [.sl false 1 ((if(A9 32 l).contains []then[]else A9 32 l).map AR),Al (!(A9 32 l).contains [])]):=by
 refine BN.walk w1 bq rfl λF=>?_
 have cS:=Uk 32 l hl;have hlen:=G4 32 l;have hcl:l.count 32<=l.length:=List.count_le_length;obtain⟨ws,hws⟩:∃ws,A9 32 l=ws:=⟨_,rfl⟩
 rw[hws]at cS hlen⊢;have hn:(ws.map AR).length=ws.length:=Bq ..;have hp:AT (ws.map AR):=A7;refine AS Ah kB cS AA AA AA AA AA ?_;refine AQ.loop (α:=Nat×Nat) (λp=>⟨[(2,BC),(3,Al false),(4,.sl false 1 (ws.map AR)),(5,i64 (p.1:Nat))],[],p.2⟩) (λp=>ws.length-p.1) (λp=>p.1<=ws.length/\(ws.take p.1).contains []=false) (0,_) ⟨CJ _,rfl⟩ As ?_;clear cS;rintro⟨i,n1⟩ F ⟨h1,h0⟩;dsimp only at h1 h0⊢;rcases Ao i ws.length with h2|h2
 ·obtain⟨x,hx⟩:∃x,ws[i]?=some x:=⟨ws[i],BM h2⟩
  have t1:decide (((i:Nat):Int)<((ws.length:Nat):Int))=true:=Ay;have hx':=Iz hx;have eS:=CW x [];have wc:=wS (n:=i) (by omega)
  by_cases hsx:x=[]
  ·rw[BZ hsx]at eS
   have e1:=Qo (s:=[]) (hsx ▸ hx);refine AS Ah (Cx hn t1 eS) hx' AA AA AA AA AA ?_;rw[e1];exact⟨_,Bp (.nil 1) (.refl _),AB.out,rfl⟩
  ·rw[CB hsx]at eS
   have h3:=Po (s:=[]) hx h0 (λe=>hsx e.symm);refine AS Ah (Dz hn t1 eS wc) hx' AA AA AA AA AA ?_;exact⟨(i+1,_),⟨by dsimp only;omega,h3⟩,by dsimp only;omega,As⟩
 ·have hi:i=ws.length:=by omega
  subst hi;have t1:decide (((ws.length:Nat):Int)<((ws.length:Nat):Int))=false:=Ap;rw[E9 (Ag _)]at h0;rw[h0];refine AS Ah (Be hn t1) AA AA AA AA AA AA ?_;exact An rfl AB.out
theorem WL (l:List UInt8)(hl:l.length<=100000):Af C0 29 [AR l] (i64 (Ck l:Nat)):=by
 refine BN.walk w1 bs rfl λF=>?_
 have hsz:=EI l;refine AS Ah kB AA AA AA AA AA AA ?_;refine AQ.loop (α:=Nat×Nat) (λp=>⟨[(0,AR l),(2,i64 0),(3,i64 (Ck (l.take p.1):Nat)),(4,i64 (p.1:Nat))],[],p.2⟩) (λp=>l.length-p.1) (λp=>p.1<=l.length) (0,_) (CJ _) As ?_;rintro⟨i,n1⟩ F h1;dsimp only at h1⊢;rcases Ao i l.length with h2|h2
 ·obtain⟨b,hb⟩:∃b,l[i]?=some b:=⟨l[i],BM h2⟩
  have t1:decide (((i:Nat):Int)<((l.length:Nat):Int))=true:=Ay;have hx:=Lm hb;have hbl:=Ol b;have hc:=OI (l.take i);have ht:=QL hb;have wc:=wS (n:=i) (by omega);have hi2:((i:Nat):Int)<((sb l).size:Int):=by rw[hsz];omega
  generalize Ck (l.take i)=q at*;obtain⟨q2,hq2⟩:∃q,Ck (l.take (i+1))=q:=⟨_,rfl⟩
  rw[hq2]at ht;have hst:=Qn hc hbl;rw[<-ht]at hst;refine AS Ah (GQ hsz t1 kN hx wc hst) AA AA AA AA AA AA ?_;exact⟨(i+1,_),by dsimp only;omega,by dsimp only;omega,(by dsimp only;rw[hq2];exact As)⟩
 ·have hi:i=l.length:=by omega
  subst hi;have t1:decide (((l.length:Nat):Int)<((l.length:Nat):Int))=false:=Ap;rw[E9 (Ag _)];generalize Ck l=q at*;refine AS Ah (Be hsz t1) AA AA AA AA AA AA ?_;exact An rfl AB.out
theorem bA {n:Nat}(h:n<256):IntKind.u8.wrap (n:Int)=(n:Int):=by
 have e1:(2:Int)^IntKind.u8.bits=256:=rfl;unfold IntKind.wrap;simp only[e1];have e3:IntKind.u8.signed=false:=rfl;rw[e3];simp only[eh,K1,if_false];omega
theorem V5 {l:List UInt8}{i:Nat}{b:UInt8}(h:l[i]?=some b):dv (l.take (i+1))=dv (l.take i)*10+(b.toNat-48):=by
 rw[E8,h];unfold dv FB;rw[Option.toList_some,List.foldl_append];rfl
theorem Lx (l:List UInt8)(hl:l.length<=100000):Af C0 28 [AR l] (.tup [i64 (BY l:Nat),Al (BG l)]):=by
 refine BN.walk w1 br rfl λF=>?_
 have hsz:=EI l;have hch:(((sb l).data.toList.getD ((0:Int)).toNat 0).toNat:Int)=((l.headD 0).toNat:Int):=by
  show((l.getD 0 0).toNat:Int)=_;cases l<;>rfl
 rcases Ao l.length 1 with h1|h1
 ·have t1:decide (((l.length:Nat):Int)<1)=true:=Ay
  have hI:BG l=false:=by unfold BG;rw[CB (show ¬ 1<=l.length by omega)];simp
  refine AS Ah (Be hsz t1) AA AA AA AA AA AA ?_;refine An ?_ AB.out;unfold BY;rw[hI];rfl
 have t1:decide (((l.length:Nat):Int)<1)=false:=Ap;rcases Ao 9 l.length with h9|h9
 ·have t2:decide (((l.length:Nat):Int)>9)=true:=Ay
  have hI:BG l=false:=by unfold BG;rw[CB (show ¬l.length<=9 by omega)];simp
  refine AS Ah (Cx hsz t1 t2) AA AA AA AA AA AA ?_;refine An ?_ AB.out;unfold BY;rw[hI];rfl
 have t2:decide (((l.length:Nat):Int)>9)=false:=Ap;have hb0:(0:Int)<((sb l).size:Int):=by rw[hsz];omega
 have key:(decide (2<=l.length)&&(l.headD 0==48))=true\/(decide (2<=l.length)&&(l.headD 0==48))=false:=by cases(decide (2<=l.length)&&(l.headD 0==48))<;>simp
 rcases key with h3|h3
 ·have hI:BG l=false:=by unfold BG;rw[h3];simp
  rw[Ad,FR,GO]at h3;have t3:decide (((l.length:Nat):Int)>1)=true:=Ay;have t4:((((l.headD 0).toNat:Int))==48)=true:=by rw[h3.2];rfl
  refine AS Ah (GQ hsz t1 t2 t3 hch t4) AA AA AA AA AA AA ?_;refine An ?_ AB.out;unfold BY;rw[hI];rfl
 have hI:BG l=l.all BR:=by unfold BG;rw[h3,BZ h1,BZ h9];simp
 refine sZ 0 ?_;refine CM kB ?_;refine O4 (α:=Nat) (λn=>⟨[(0,AR l),(2,i64 0),(3,Al false)],[],n⟩) (λ_=>True) ?_ ?_
 ·rcases Ao 1 l.length with h5|h5
  ·have t3:decide (((l.length:Nat):Int)>1)=true:=Ay
   have t4:((((l.headD 0).toNat:Int))==48)=false:=by
    rw[BZ (show 2<=l.length from h5),Kz,Bn]at h3;rw[Bn];intro h;apply h3
    have:(l.headD 0).toNat=48:=by omega
    exact UInt8.toNat_inj.1 this
   refine AS Ah (GQ hsz t1 t2 t3 hch t4) AA AA AA AA AA AA ?_;exact⟨trivial,_,trivial,As⟩
  ·have t3:decide (((l.length:Nat):Int)>1)=false:=Ap
   refine AS Ah (Dz hsz t1 t2 t3) AA AA AA AA AA AA ?_;exact⟨trivial,_,trivial,As⟩
 rintro n0 -;clear hch h3 t1 t2;refine AS Ah kB AA AA AA AA AA AA ?_;refine AQ.loop (α:=Nat×Nat) (λp=>⟨[(0,AR l),(2,i64 0),(3,Al false),(4,i64 (dv (l.take p.1):Nat)),(5,i64 (p.1:Nat))],[],p.2⟩) (λp=>l.length-p.1) (λp=>p.1<=l.length/\(l.take p.1).all BR=true) (0,_) ⟨CJ _,rfl⟩ As ?_;rintro⟨i,n1⟩ F ⟨h1',h2⟩;dsimp only at h1' h2⊢;rcases Ao i l.length with h4|h4
 ·obtain⟨b,hb⟩:∃b,l[i]?=some b:=⟨l[i],BM h4⟩
  have t1:decide (((i:Nat):Int)<((l.length:Nat):Int))=true:=Ay;have hx:=Lm hb;have hbl:=Ol b;have wc:=wS (n:=i) (by omega);have hi2:((i:Nat):Int)<((sb l).size:Int):=by rw[hsz];omega
  have hsn:(l.take (i+1)).all BR=BR b:=by rw[E8,hb,IZ,h2];simp
  have hdl:=ah _ h2;have hp9:(10:Nat)^(l.take i).length<=10^9:=Nat.pow_le_pow_right (by decide) (by rw[EQ];omega);have hp9':(10:Nat)^9=1000000000:=by decide
  have hds:=V5 hb;have hmem:b∈l:=Bc hb;rcases Ao b.toNat 48 with h5|h5
  ·have hbad:BG l=false:=by
    rw[hI,Bool.eq_false_iff];intro h
    have:=(Im (CK.1 h b hmem)).1;omega
   have t2:decide (((b.toNat:Nat):Int)<48)=true:=Ay;refine AS Ah (Da hsz t1 kN hx t2) AA AA AA AA AA AA ?_;refine An ?_ AB.out;unfold BY;rw[hbad];rfl
  have t2:decide (((b.toNat:Nat):Int)<48)=false:=Ap;rcases Ao 57 b.toNat with h6|h6
  ·have hbad:BG l=false:=by
    rw[hI,Bool.eq_false_iff];intro h
    have:=(Im (CK.1 h b hmem)).2;omega
   have t3:decide (((b.toNat:Nat):Int)>57)=true:=Ay;refine AS Ah (GQ hsz t1 kN hx t2 t3) AA AA AA AA AA AA ?_;refine An ?_ AB.out;unfold BY;rw[hbad];rfl
  have t3:decide (((b.toNat:Nat):Int)>57)=false:=Ap;have hdig:BR b=true:=by
   unfold BR;rw[Ad];exact⟨Nat.ble_eq_true_of_le h5,Nat.ble_eq_true_of_le h6⟩
  rw[hdig]at hsn;have w1':IntKind.u8.wrap (((b.toNat:Nat):Int)-48)=((b.toNat-48:Nat):Int):=by
   rw[show((b.toNat:Nat):Int)-48=((b.toNat-48:Nat):Int) by omega];exact bA (by omega)
  have w2':IntKind.i64.wrap ((b.toNat-48:Nat):Int)=((b.toNat-48:Nat):Int):=wN (by omega);have w3':IntKind.i64.wrap (10*((dv (l.take i):Nat):Int))=((10*dv (l.take i):Nat):Int):=by rw[wI];omega
  have w4':IntKind.i64.wrap (((10*dv (l.take i):Nat):Int)+((b.toNat-48:Nat):Int))=((dv (l.take (i+1)):Nat):Int):=by rw[hds,wI];omega
  refine AS Ah (Db hsz t1 kN hx t2 t3 (Da w1' w2' w3' w4' wc)) AA AA AA AA AA AA ?_;exact⟨(i+1,_),⟨by dsimp only;omega,hsn⟩,by dsimp only;omega,As⟩
 ·have hi:i=l.length:=by omega
  subst hi;have t1:decide (((l.length:Nat):Int)<((l.length:Nat):Int))=false:=Ap;rw[E9 (Ag _)]at h2⊢;rw[h2]at hI;refine AS Ah (Be hsz t1) AA AA AA AA AA AA ?_;refine An ?_ AB.out;unfold BY;rw[hI];rfl
def HO (o:Option (Nat×Nat)):D:=match o with
 |some p=>.tup [i64 (p.1:Nat),i64 (p.2:Nat)]
 |none=>.tup [i64 (-1),i64 0]
instance  (o:Option (Nat×Nat)):AB (HO o):=by unfold HO;split<;>exact A7
theorem Uq (k:List UInt8)(e0:¬k=[98,105,110])(e1:¬k=[97,114,114,105,118,101])(e2:¬k=[115,116,111,114,101])(e3:¬k=[109,111,118,101])(e4:¬k=[100,114,121])(e5:¬k=[115,104,105,112])(e6:¬k=[98,108,101,110,100])(e7:¬k=[108,111,97,100])(e8:¬k=[99,108,111,115,101])(e9:¬k=[105,115,115,117,101])(e10:¬k=[99,97,110,99,101,108]):Af C0 60 [AR k] (.tup [i64 (-1),i64 0]):=by
 refine BN.walk w1 R9 rfl λF=>?_
 have q0:BH (sb k) (sb [98,105,110])=false:=by rw[CW];exact CB e0
 have q1:BH (sb k) (sb [97,114,114,105,118,101])=false:=by rw[CW];exact CB e1
 have q2:BH (sb k) (sb [115,116,111,114,101])=false:=by rw[CW];exact CB e2
 have q3:BH (sb k) (sb [109,111,118,101])=false:=by rw[CW];exact CB e3
 have q4:BH (sb k) (sb [100,114,121])=false:=by rw[CW];exact CB e4
 have q5:BH (sb k) (sb [115,104,105,112])=false:=by rw[CW];exact CB e5
 have q6:BH (sb k) (sb [98,108,101,110,100])=false:=by rw[CW];exact CB e6
 have q7:BH (sb k) (sb [108,111,97,100])=false:=by rw[CW];exact CB e7
 have q8:BH (sb k) (sb [99,108,111,115,101])=false:=by rw[CW];exact CB e8
 have q9:BH (sb k) (sb [105,115,115,117,101])=false:=by rw[CW];exact CB e9
 have q10:BH (sb k) (sb [99,97,110,99,101,108])=false:=by rw[CW];exact CB e10
 refine AS Ah (Db q0 q1 q2 q3 q4 q5 (Da q6 q7 q8 q9 q10)) AA AA AA AA AA AA ?_;exact An rfl AB.out
theorem Q8 (k:List UInt8):Af C0 60 [AR k] (HO (Ey k)):=by
 refine NR (P:=λk o=>Af C0 60 [AR k] (HO o)) k (FV FN 100 10) (FV FN 100 10) (FV FN 100 10) (FV FN 100 10) (FV FN 100 10) (FV FN 100 10) (FV FN 100 10) (FV FN 100 10) (FV FN 100 10) (FV FN 100 10) (FV FN 100 10) ?_;intro e0 e1 e2 e3 e4 e5 e6 e7 e8 e9 e10;exact Uq k e0 e1 e2 e3 e4 e5 e6 e7 e8 e9 e10
set_option maxHeartbeats 2000000
theorem Uj (c:Nat):(97<=c/\c<=122)\/(122<c)\/(65<=c/\c<=90)\/((91<=c/\c<=96)/\c≠95)\/(c=95)\/(58<=c/\c<=64)\/(48<=c/\c<=57)\/(c<48/\c≠45/\c≠46)\/(c=45)\/(c=46):=by omega
theorem an (l:List UInt8)(hl:l.length<=9223372036854775807):Af C0 61 [str (sb l)] (Al (Dp l)):=by
 refine BN.walk w1 bL rfl λF=>?_
 have hsz:=EI l;refine sR 0 ?_;refine O4 (α:=Nat) (λn=>⟨[(0,str (sb l))],[],n⟩) (λ_=>1<=l.length/\l.length<=24) ?_ ?_
 ·by_cases h1:l.length<1
  ·have e1:decide ((l.length:Int)<1)=true:=Ay
   refine sZ 100 ?_;refine D0 (Be hsz e1) ?_;refine CM kT ?_;refine Cm ?_;refine sR 200 ?_;refine FD ?_;exact An (by unfold Dp;rw[CB (show ¬ 1<=l.length by omega)];simp) AB.out
  ·have e1:decide ((l.length:Int)<1)=false:=Ap
   have e2:decide ((l.length:Int)>24)=decide (24<l.length):=decide_eq_decide.2 (by omega);refine sZ 100 ?_;refine D0 (Be hsz e1) ?_;refine CM (Cx kF hsz e2) ?_
   by_cases h2:24<l.length
   ·rw[BZ h2]
    refine Cm ?_;refine sR 200 ?_;refine FD ?_;exact An (by unfold Dp;rw[CB (show ¬l.length<=24 by omega)];simp) AB.out
   ·rw[CB h2]
    refine Cm ?_;refine FW ?_;exact⟨rfl,_,⟨by omega,by omega⟩,As⟩
 rintro n0 ⟨l1,l2⟩;refine AQ.seq ?_;refine sR 300 ?_;refine AQ.block ?_;refine AQ.loop (α:=Nat×Nat) (λp=>⟨[(0,str (sb l)),(3,i64 (p.1:Int))],[],p.2⟩) (λp=>l.length-p.1) (λp=>p.1<=l.length/\(l.take p.1).all (λb=>Bg b.toNat)=true) (0,_) ⟨CJ _,rfl⟩ As ?_;rintro⟨i,n⟩ F ⟨hi,ha⟩;dsimp only at hi ha⊢;refine AQ.seq ?_;refine sZ 400 ?_;refine D0 hsz ?_;refine Cm ?_
 (refine Kp (λhlt=>?_) (λhlt=>?_))<;>(try simp only[El,K2]at hlt)<;>(try simp only[hlt])
 ·have hi2:i<l.length:=by
   have:=of_decide_eq_true hlt
   omega
  obtain⟨c,hc⟩:∃c,l[i]?=some c:=⟨l[i],BM hi2⟩
  have hg:l.getD i 0=c:=by simp[hc]
  have wi:IntKind.i64.wrap ((i:Int)+1)=((i+1:Nat):Int):=wI;refine FW ?_;refine AQ.seq ?_;refine AQ.block ?_;refine sZ 600 ?_;refine D0 (Be kN hg) ?_;have hcl:Bg c.toNat=false->Dp l=false:=λh=>by
   unfold Dp;cases hall:l.all (λb=>Bg b.toNat)
   ·rfl
   ·have:=CK.1 hall c (Bc hc)
    rw[h]at this;cases this
  have hsn:Bg c.toNat=true->(l.take (i+1)).all (λb=>Bg b.toNat)=true:=λh=>by
   rw[E8,hc,IZ,ha];simpa using h
  have hc9:c.toNat<256:=c.toNat_lt;generalize c.toNat=c at*;refine O4 (α:=Nat) (λn=>⟨[(0,str (sb l)),(3,i64 (i:Int)),(56,Al (!Bg c))],[],n⟩) (λ_=>True) ?_ ?_
  ·clear hcl hsn
   rcases Uj c with h|h|h|h|h|h|h|h|h|h
   ·skip
    have f1:decide ((c:Int)>=97)=true:=Ay;have f2:decide ((c:Int)<=122)=true:=Ay;have f3:decide ((c:Int)>=65)=true:=Ay;have f4:decide ((c:Int)<=90)=false:=Ap;have f5:decide ((c:Int)>=48)=true:=Ay;have f6:decide ((c:Int)<=57)=false:=Ap;have f7:((c:Int)==45)=false:=Bn.2 (by omega);have f8:((c:Int)==95)=false:=Bn.2 (by omega);have f9:((c:Int)==46)=false:=Bn.2 (by omega);have hnb:Bg c=true:=by
     unfold Bg;simp;omega
    rw[hnb];refine DM 700 ?_
    iterate 9
     refine CM kB ?_
     try simp only[f1,f2,f3,f4,f5,f6,f7,f8,f9]
    exact⟨by first|exact AA|rfl|simp,_,trivial,As⟩
   ·skip
    have f1:decide ((c:Int)>=97)=true:=Ay;have f2:decide ((c:Int)<=122)=false:=Ap;have f3:decide ((c:Int)>=65)=true:=Ay;have f4:decide ((c:Int)<=90)=false:=Ap;have f5:decide ((c:Int)>=48)=true:=Ay;have f6:decide ((c:Int)<=57)=false:=Ap;have f7:((c:Int)==45)=false:=Bn.2 (by omega);have f8:((c:Int)==95)=false:=Bn.2 (by omega);have f9:((c:Int)==46)=false:=Bn.2 (by omega);have hnb:Bg c=false:=by
     unfold Bg;simp;omega
    rw[hnb];refine DM 700 ?_
    iterate 9
     refine CM kB ?_
     try simp only[f1,f2,f3,f4,f5,f6,f7,f8,f9]
    exact⟨by first|exact AA|rfl|simp,_,trivial,As⟩
   ·skip
    have f1:decide ((c:Int)>=97)=false:=Ap;have f2:decide ((c:Int)<=122)=true:=Ay;have f3:decide ((c:Int)>=65)=true:=Ay;have f4:decide ((c:Int)<=90)=true:=Ay;have f5:decide ((c:Int)>=48)=true:=Ay;have f6:decide ((c:Int)<=57)=false:=Ap;have f7:((c:Int)==45)=false:=Bn.2 (by omega);have f8:((c:Int)==95)=false:=Bn.2 (by omega);have f9:((c:Int)==46)=false:=Bn.2 (by omega);have hnb:Bg c=true:=by
     unfold Bg;simp;omega
    rw[hnb];refine DM 700 ?_
    iterate 9
     refine CM kB ?_
     try simp only[f1,f2,f3,f4,f5,f6,f7,f8,f9]
    exact⟨by first|exact AA|rfl|simp,_,trivial,As⟩
   ·skip
    have f1:decide ((c:Int)>=97)=false:=Ap;have f2:decide ((c:Int)<=122)=true:=Ay;have f3:decide ((c:Int)>=65)=true:=Ay;have f4:decide ((c:Int)<=90)=false:=Ap;have f5:decide ((c:Int)>=48)=true:=Ay;have f6:decide ((c:Int)<=57)=false:=Ap;have f7:((c:Int)==45)=false:=Bn.2 (by omega);have f8:((c:Int)==95)=false:=Bn.2 (by omega);have f9:((c:Int)==46)=false:=Bn.2 (by omega);have hnb:Bg c=false:=by
     unfold Bg;simp;omega
    rw[hnb];refine DM 700 ?_
    iterate 9
     refine CM kB ?_
     try simp only[f1,f2,f3,f4,f5,f6,f7,f8,f9]
    exact⟨by first|exact AA|rfl|simp,_,trivial,As⟩
   ·skip
    have f1:decide ((c:Int)>=97)=false:=Ap;have f2:decide ((c:Int)<=122)=true:=Ay;have f3:decide ((c:Int)>=65)=true:=Ay;have f4:decide ((c:Int)<=90)=false:=Ap;have f5:decide ((c:Int)>=48)=true:=Ay;have f6:decide ((c:Int)<=57)=false:=Ap;have f7:((c:Int)==45)=false:=Bn.2 (by omega);have f8:((c:Int)==95)=true:=GO.2 (by omega);have f9:((c:Int)==46)=false:=Bn.2 (by omega);have hnb:Bg c=true:=by
     unfold Bg;simp;omega
    rw[hnb];refine DM 700 ?_
    iterate 9
     refine CM kB ?_
     try simp only[f1,f2,f3,f4,f5,f6,f7,f8,f9]
    exact⟨by first|exact AA|rfl|simp,_,trivial,As⟩
   ·skip
    have f1:decide ((c:Int)>=97)=false:=Ap;have f2:decide ((c:Int)<=122)=true:=Ay;have f3:decide ((c:Int)>=65)=false:=Ap;have f4:decide ((c:Int)<=90)=true:=Ay;have f5:decide ((c:Int)>=48)=true:=Ay;have f6:decide ((c:Int)<=57)=false:=Ap;have f7:((c:Int)==45)=false:=Bn.2 (by omega);have f8:((c:Int)==95)=false:=Bn.2 (by omega);have f9:((c:Int)==46)=false:=Bn.2 (by omega);have hnb:Bg c=false:=by
     unfold Bg;simp;omega
    rw[hnb];refine DM 700 ?_
    iterate 9
     refine CM kB ?_
     try simp only[f1,f2,f3,f4,f5,f6,f7,f8,f9]
    exact⟨by first|exact AA|rfl|simp,_,trivial,As⟩
   ·skip
    have f1:decide ((c:Int)>=97)=false:=Ap;have f2:decide ((c:Int)<=122)=true:=Ay;have f3:decide ((c:Int)>=65)=false:=Ap;have f4:decide ((c:Int)<=90)=true:=Ay;have f5:decide ((c:Int)>=48)=true:=Ay;have f6:decide ((c:Int)<=57)=true:=Ay;have f7:((c:Int)==45)=false:=Bn.2 (by omega);have f8:((c:Int)==95)=false:=Bn.2 (by omega);have f9:((c:Int)==46)=false:=Bn.2 (by omega);have hnb:Bg c=true:=by
     unfold Bg;simp;omega
    rw[hnb];refine DM 700 ?_
    iterate 9
     refine CM kB ?_
     try simp only[f1,f2,f3,f4,f5,f6,f7,f8,f9]
    exact⟨by first|exact AA|rfl|simp,_,trivial,As⟩
   ·skip
    have f1:decide ((c:Int)>=97)=false:=Ap;have f2:decide ((c:Int)<=122)=true:=Ay;have f3:decide ((c:Int)>=65)=false:=Ap;have f4:decide ((c:Int)<=90)=true:=Ay;have f5:decide ((c:Int)>=48)=false:=Ap;have f6:decide ((c:Int)<=57)=true:=Ay;have f7:((c:Int)==45)=false:=Bn.2 (by omega);have f8:((c:Int)==95)=false:=Bn.2 (by omega);have f9:((c:Int)==46)=false:=Bn.2 (by omega);have hnb:Bg c=false:=by
     unfold Bg;simp;omega
    rw[hnb];refine DM 700 ?_
    iterate 9
     refine CM kB ?_
     try simp only[f1,f2,f3,f4,f5,f6,f7,f8,f9]
    exact⟨by first|exact AA|rfl|simp,_,trivial,As⟩
   ·skip
    have f1:decide ((c:Int)>=97)=false:=Ap;have f2:decide ((c:Int)<=122)=true:=Ay;have f3:decide ((c:Int)>=65)=false:=Ap;have f4:decide ((c:Int)<=90)=true:=Ay;have f5:decide ((c:Int)>=48)=false:=Ap;have f6:decide ((c:Int)<=57)=true:=Ay;have f7:((c:Int)==45)=true:=GO.2 (by omega);have f8:((c:Int)==95)=false:=Bn.2 (by omega);have f9:((c:Int)==46)=false:=Bn.2 (by omega);have hnb:Bg c=true:=by
     unfold Bg;simp;omega
    rw[hnb];refine DM 700 ?_
    iterate 9
     refine CM kB ?_
     try simp only[f1,f2,f3,f4,f5,f6,f7,f8,f9]
    exact⟨by first|exact AA|rfl|simp,_,trivial,As⟩
   ·skip
    have f1:decide ((c:Int)>=97)=false:=Ap;have f2:decide ((c:Int)<=122)=true:=Ay;have f3:decide ((c:Int)>=65)=false:=Ap;have f4:decide ((c:Int)<=90)=true:=Ay;have f5:decide ((c:Int)>=48)=false:=Ap;have f6:decide ((c:Int)<=57)=true:=Ay;have f7:((c:Int)==45)=false:=Bn.2 (by omega);have f8:((c:Int)==95)=false:=Bn.2 (by omega);have f9:((c:Int)==46)=true:=GO.2 (by omega);have hnb:Bg c=true:=by
     unfold Bg;simp;omega
    rw[hnb];refine DM 700 ?_
    iterate 9
     refine CM kB ?_
     try simp only[f1,f2,f3,f4,f5,f6,f7,f8,f9]
    exact⟨by first|exact AA|rfl|simp,_,trivial,As⟩
  rintro n1 -;cases hb:Bg c
  ·refine Cm ?_
   refine sR 800 ?_;refine FD ?_;exact An (by rw[hcl hb]) AB.out
  ·refine Cm ?_
   refine FW ?_;refine DM 500 ?_;refine D0 wi ?_;exact⟨(i+1,_),⟨hi2,hsn hb⟩,by dsimp only;omega,As⟩
 ·have hi2:i=l.length:=by
   have:=of_decide_eq_false hlt
   omega
  subst hi2;rw[E9 (Ag _)]at ha;refine Id ?_;refine sR 900 ?_;refine FD ?_;exact An (by unfold Dp;rw[ha,BZ l1,BZ l2];rfl) AB.out
theorem cU (l:List UInt8)(hl:l.length<=1000000):Af C0 61 [str (sb l)] (Al (Dp l)):=an l (Ar hl (by decide))
end Go.Ide
