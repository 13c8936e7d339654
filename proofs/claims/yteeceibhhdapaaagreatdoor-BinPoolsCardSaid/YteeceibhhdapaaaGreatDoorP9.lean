/- The layer of own lemmas and contracts, part 9. -/
import Derived.Test.YteeceibhhdapaaaGreatDoorP8
import Derived.Test.YteeceibhhdapaaaGreatDoorP7
import Derived.Test.YteeceibhhdapaaaGreatDoorP3
set_option linter.unusedVariables false
set_option linter.unusedSimpArgs false
namespace Go.Ide
open Go.Proofs Go.RowKit
set_option maxRecDepth 20000
set_option maxHeartbeats 2000000
theorem iJ (l:List UInt8):BD l=(Bw l).length:=by
 have:=Ik l
 unfold Bw;rw[BX];omega
theorem Ra (l:List UInt8):Bw (Bk l)=By l/\BT (Bk l)=BT l/\Cj (Bk l)=Cj l/\decide (Bw l=[45,48])=(DA l&&decide (By l=[48])):=by
 cases hb:DA l
 ·have ed:Bk l=l:=by unfold Bk;rw[hb];rfl
  have en:DA (Bw l)=false:=by
   unfold Bw;cases l with
   |nil=>rfl
   |cons c l=>
    cases hk:BD (c::l)with
    |zero=>rfl
    |succ k=>exact hb
  have es:By l=Bw l:=by unfold By Bk;rw[en];rfl
  rw[ed,es];refine⟨rfl,rfl,rfl,?_⟩;rw[LM];refine Af λh=>?_
  rw[h]at en;cases en
 ·cases l with
  |nil=>cases hb
  |cons c m=>
   have hc:c=45:=by simpa[DA]using hb
   subst hc;have ed:Bk (45::m)=m:=rfl;have e1:BD (45::m)=BD m+1:=by
    unfold BD;rw[Ml,AF (by decide),Bl]
   have e2:Bw (45::m)=45::Bw m:=by unfold Bw;rw[e1,List.take_succ_cons]
   have e3:BT (45::m)=BT m:=by unfold BT;rw[e1,Q7]
   have e4:Cj (45::m)=Cj m:=by unfold Cj;rw[e1,Bl];exact Cr.2 (by omega)
   have e5:By (45::m)=Bw m:=by unfold By;rw[e2];rfl
   rw[ed,e2,e3,e4,e5];refine⟨rfl,rfl,rfl,?_⟩;rw[If];exact Cr.2 (by simp)
theorem Oy (l:List UInt8):Iu l=((!Cv (By l)||(DA l&&decide (By l=[48])))||(Cj l&&(!Cv (BT l)||decide (BT l=[48])||decide (BT l=[49])))):=by
 unfold Iu;rw[(Ra l).2.2.2]
theorem je {l:List UInt8}(h:Cv l=true):l≠[]:=(Jf h).1
theorem ZA {l:List UInt8}(h:0<l.length):(((l.getD (Int.toNat 0) 0).toNat:Int)==45)=DA l:=by
 cases l with
 |nil=>cases h
 |cons c l=>exact PV c l
theorem qt (l:List UInt8)(hl:l.length<=100000):AK C0 165 [str (sb l)] (i64 (CS l)):=by
 refine Ai.walk w1 oN rfl λF=>?_
 have hsz:=CN l;obtain⟨p1,p2,p3,-⟩:=Ra l;have hdl:(Bk l).length<=l.length:=by
  unfold Bk;split
  ·rw[DY];omega
  ·exact Ag _
 have hbf:=Oy l;have hchk1:(!Cv (By l)||(DA l&&decide (By l=[48])))=true->CS l=1:=λh=>by
  unfold CS;rw[hbf,h,Bool.true_or,AF rfl]
 have hchk2:(Cj l&&(!Cv (BT l)||decide (BT l=[48])||decide (BT l=[49])))=true->CS l=1:=λh=>by
  unfold CS;rw[hbf,h,Bool.or_true,AF rfl]
 have hne:Cv (By l)=true->0<l.length:=λh=>by
  cases l with
  |nil=>exact AY rfl (je h)
  |cons c l=>rw[Bl];omega
 refine sR 0 ?_;refine sR 100 ?_;refine Cp (α:=Nat) (λn=>⟨[(0,str (sb l)),(3,str (sb (Bk l)))],[],n⟩) (λ_=>True) ?_ ?_
 ·rcases Di l.length with h0|h0
  ·have e0:l=[]:=FW h0
   have e1:decide (((sb []).size:Int)>0)=false:=rfl;have ed:Bk l=l:=by rw[e0];rfl
   rw[ed,e0];refine sZ 200 ?_;refine AT e1 ?_;refine AD kF ?_;refine AL ?_;refine Aj ?_;exact⟨rfl,_,trivial,AI⟩
  ·have e0:decide (((sb l).size:Int)>0)=true:=AX (by omega)
   have e1:=ZA h0;refine sZ 200 ?_;refine AD e0 ?_;refine AD (At kT e0 e1) ?_;cases hb:DA l
   ·have ed:Bk l=l:=by unfold Bk;rw[hb];rfl
    rw[ed];refine AL ?_;refine Aj ?_;exact⟨rfl,_,trivial,AI⟩
   ·have ed:Bk l=l.drop 1:=by unfold Bk;rw[hb];rfl
    have ee:(sb l).extract (Int.toNat 1) l.length=sb (Bk l):=by
     rw[EH,B1 (Ag _),ed];rfl
    refine AL ?_;refine An w1 300 (by kernel_rfl) ?_;refine AD (Ac hsz kN) ?_;rw[ee];exact⟨trivial,_,trivial,AI⟩
 rintro n0 -;have cs:=NT (Bk l) (by omega);have hle:=Ik (Bk l);have hszS:=CN (Bk l);have hhs:Cj l=decide (BD (Bk l)<(Bk l).length):=p3.symm;have e10:(sb (Bk l)).extract 0 (BD (Bk l))=sb (By l):=by rw[<-p1,EH,FL];rfl
 have e11:(sb (Bk l)).extract (BD (Bk l)+1) (Bk l).length=sb (BT l):=by rw[<-p2,EH,B1 (Ag _)];rfl
 have hNl:BD (Bk l)=(By l).length:=by rw[<-p1];exact iJ _
 have hDl:(BT l).length=(Bk l).length-(BD (Bk l)+1):=by rw[<-p2];unfold BT;rw[DY]
 have pp:=λh1 h2=>Ln (Bk l) h1 h2 (by omega)
 unfold OK OG at pp;rw[p1,p2,p3]at pp;have edef:CS l=if Iu l then 1 else if 600<(By l).length\/600<(BT l).length then 4 else if Cj l=true/\Nat.gcd (dv (By l)) (dv (BT l))≠1 then 1 else 0:=rfl
 rw[hbf]at edef;generalize hN:By l=Nn at*;generalize hD:BT l=Dn at*;generalize hH:Cj l=hv at*;generalize hK:CS l=KnV at*;generalize Bk l=Sn at*;generalize BD Sn=k at*;clear p1 p2 p3 hbf hN hD hH hK;have cf:=Zo Nn (by omega);have cf2:=Zo Dn (by omega);have q0:=EN Nn [48];have q1:=EN Dn [48];have q2:=EN Dn [49];refine sR 400 ?_;refine cI cs ?_;refine Cp (α:=Nat) (λn=>⟨[(0,str (sb l)),(3,str (sb Sn)),(4,i64 (k:Int))],[],n⟩) (λ_=>(!Cv Nn||(DA l&&decide (Nn=[48])))=false) ?_ ?_
 ·refine sZ 500 ?_
  refine AD (Ac hszS kN) ?_;refine AD e10 ?_;cases hp:Cv Nn
  ·rw[hp]at cf
   refine Az.same _ cf AH ?_;refine BL ?_;simp only[RA];refine AD kT ?_;refine AL ?_;refine sR 600 ?_;refine Ab ?_;exact AO (by rw[hchk1 (by rw[hp];rfl)];rfl) AA.out
  ·rw[hp]at cf
   have hl0:=hne hp;have e1:=ZA hl0;refine Az.same _ cf AH ?_;refine BL ?_;simp only[Oa];refine AD (At kF hsz e1) ?_;have q0':Bj (sb Nn) ⟨#[48]⟩=decide (Nn=[48]):=q0;cases hb:DA l
   ·refine AD kF ?_
    refine AL ?_;refine Aj ?_;exact⟨rfl,_,rfl,AI⟩
   ·refine AD (BV kT kF hszS kN) ?_
    refine AD (BV kT kF e10 q0') ?_
    by_cases h0:Nn=[48]
    ·rw[AX h0]
     refine AL ?_;refine sR 600 ?_;refine Ab ?_;exact AO (by rw[hchk1 (by simp[hp,hb,h0])];rfl) AA.out
    ·rw[Af h0]
     refine AL ?_;refine Aj ?_;exact⟨rfl,_,by simp,AI⟩
 rintro n1 hb1;clear hchk1 hne cf q0;refine Cp (α:=Nat) (λn=>⟨[(0,str (sb l)),(3,str (sb Sn)),(4,i64 (k:Int))],[],n⟩) (λ_=>(hv&&(!Cv Dn||decide (Dn=[48])||decide (Dn=[49])))=false) ?_ ?_
 ·cases hv
  ·have e40:decide ((k:Int)<(Sn.length:Int))=false:=Af (by have:=C5 hhs.symm;omega)
   refine sZ 700 ?_;refine AT (Ac hszS e40) ?_;refine AD kF ?_;refine AL ?_;refine Aj ?_;exact⟨rfl,_,rfl,AI⟩
  ·have hkl:=Cz hhs.symm
   have e40:decide ((k:Int)<(Sn.length:Int))=true:=AX (by omega);have wk:IntKind.i64.wrap ((k:Int)+1)=((k+1:Nat):Int):=wI (by omega) (by omega);have q1':Bj (sb Dn) ⟨#[48]⟩=decide (Dn=[48]):=q1;have q2':Bj (sb Dn) ⟨#[49]⟩=decide (Dn=[49]):=q2;refine sZ 700 ?_;refine AT (Ac hszS e40) ?_;refine AD (BV kT wk hszS kN) ?_;simp only[e11];refine LU kT ?_;cases hp:Cv Dn
   ·rw[hp]at cf2
    refine Az.same _ cf2 AH ?_;refine AD kB ?_;refine AD kT ?_;refine AL ?_;refine sR 800 ?_;refine Ab ?_;exact AO (by rw[hchk2 (by simp[hp])];rfl) AA.out
   ·rw[hp]at cf2
    have e12:(sb Sn).extract (IntKind.i64.wrap ((k:Int)+1)).toNat (sb Sn).size=sb Dn:=by rw[wk,hszS,Q8];exact e11
    refine Az.same _ cf2 AH ?_;refine AD kB ?_;simp only[e12,q1']
    by_cases h48:Dn=[48]
    ·rw[AX h48]
     refine AD kT ?_;refine AL ?_;refine sR 800 ?_;refine Ab ?_;exact AO (by rw[hchk2 (by simp[h48])];rfl) AA.out
    ·rw[Af h48]
     refine AD kB ?_;simp only[e12,q2']
     by_cases h49:Dn=[49]
     ·rw[AX h49]
      refine AL ?_;refine sR 800 ?_;refine Ab ?_;exact AO (by rw[hchk2 (by simp[h49])];rfl) AA.out
     ·rw[Af h49]
      refine AL ?_;refine Aj ?_;exact⟨rfl,_,by simp,AI⟩
 rintro n2 hb2;clear hchk2 cf2 q1 q2 e10 e11 hsz;have hpN:Cv Nn=true:=by
  cases h:Cv Nn
  ·rw[h]at hb1;simp at hb1
  ·rfl
 have hpD:hv=true->Cv Dn=true:=λh0=>by
  cases h:Cv Dn
  ·rw[h,h0]at hb2;simp at hb2
  ·rfl
 rw[hb1,hb2]at edef;rw[AE (by decide)]at edef;have wl1:IntKind.i64.wrap ((Sn.length:Int)-(k:Int))=(Sn.length:Int)-(k:Int):=wI (by omega) (by omega);have wl2:IntKind.i64.wrap ((Sn.length:Int)-(k:Int)-1)=(Sn.length:Int)-(k:Int)-1:=wI (by omega) (by omega);have e91:decide ((Sn.length:Int)-(k:Int)-1>600)=decide (600<Dn.length):=Cr.2 (by omega);refine Cp (α:=Nat) (λn=>⟨[(3,str (sb Sn)),(4,i64 (k:Int))],[],n⟩) (λ_=>Nn.length<=600/\Dn.length<=600) ?_ ?_
 ·by_cases g1:600<k
  ·have e9:decide ((k:Int)>600)=true:=AX (by omega)
   rw[AF (.inl (by omega))]at edef;refine sZ 900 ?_;refine AT e9 ?_;refine AD kT ?_;refine AL ?_;refine sR 1000 ?_;refine Ab ?_;exact AO (by rw[edef];rfl) AA.out
  ·have e9:decide ((k:Int)>600)=false:=Af (by omega)
   refine sZ 900 ?_;refine AT e9 ?_;refine AD (Ck kF hszS wl1 wl2 e91) ?_
   by_cases g2:600<Dn.length
   ·rw[AF (.inr g2)]at edef
    rw[AX g2];refine AL ?_;refine sR 1000 ?_;refine Ab ?_;exact AO (by rw[edef];rfl) AA.out
   ·rw[Af g2]
    refine AL ?_;refine Aj ?_;exact⟨rfl,_,⟨by omega,by omega⟩,AI⟩
 rintro n3 ⟨g1,g2⟩;rw[AE (by omega)]at edef;clear e91 wl1 wl2 hb1 hb2;obtain⟨-,dN⟩:=Jf hpN;refine Cp (α:=Nat) (λn=>⟨[],[],n⟩) (λ_=>KnV=0) ?_ ?_
 ·cases hv
  ·have e40:decide ((k:Int)<(Sn.length:Int))=false:=Af (by have:=C5 hhs.symm;omega)
   rw[AE (by simp)]at edef;refine sZ 1100 ?_;refine AT (Ac hszS e40) ?_;refine AL ?_;refine Aj ?_;exact⟨rfl,_,edef,AI⟩
  ·have hkl:=Cz hhs.symm
   have e40:decide ((k:Int)<(Sn.length:Int))=true:=AX (by omega);obtain⟨-,dD⟩:=Jf (hpD rfl);have pa:=pp (by rw[Jc dN];exact dN) (by rw[Jc dD];exact dD);rw[AF rfl,L1 dN,L1 dD]at pa;have lN:(AW (dv Nn)).length<1000000:=DF (Je (CP (F8 Nn dN) (Mm (by decide) Nn.length))) (by omega);have lD:(AW (dv Dn)).length<1000000:=DF (Je (CP (F8 Dn dD) (Mm (by decide) Dn.length))) (by omega);have cg:AK C0 175 [rD ((dv Nn:Int)).natAbs,rD ((dv Dn:Int)).natAbs] (.sl false 1 ((AW (Nat.gcd (dv Nn) (dv Dn))).map Aa)):=WG (dv Nn) (dv Dn) lN lD;have ht:=WP (Nat.gcd (dv Nn) (dv Dn));have ed1:Nat.gcd (dv Nn) (dv Dn)≠1->KnV=1:=λh=>by rw[AF ⟨rfl,h⟩]at edef;exact edef
   have ed0:Nat.gcd (dv Nn) (dv Dn)=1->KnV=0:=λh=>by rw[AE (λhh=>hh.2 h)]at edef;exact edef
   clear edef;generalize Nat.gcd (dv Nn) (dv Dn)=gg at*;refine sZ 1100 ?_;refine AT (Ac hszS e40) ?_;refine AL ?_;refine sR 1200 ?_;refine cI pa ?_;refine sR 1300 ?_;refine cI cg ?_;rcases ht with⟨t1,a,ha,t2⟩|⟨t1,t2⟩
   ·have ha':=Dg ha
    have t1n:((((AW gg).map Aa).length:Int) != 1)=false:=by unfold bne;rw[t1];rfl
    have t2n:((a:Int) != 1) = !decide (gg=1):=by unfold bne;rw[t2]
    refine sZ 1400 ?_;refine AT t1n ?_;refine AD kF ?_;refine Bo kF ha' ?_;refine AD (Ac kF t2n) ?_
    by_cases hg1:gg=1
    ·rw[AX hg1]
     refine AL ?_;refine Aj ?_;exact⟨rfl,_,ed0 hg1,AI⟩
    ·rw[Af hg1]
     refine AL ?_;refine sR 1500 ?_;refine Ab ?_;exact AO (by rw[ed1 hg1];rfl) AA.out
   ·have edf:=ed1 t2
    have t1n:((((AW gg).map Aa).length:Int) != 1)=true:=by unfold bne;rw[t1];rfl
    refine sZ 1400 ?_;refine AT t1n ?_;refine AD kT ?_;refine AL ?_;refine sR 1500 ?_;refine Ab ?_;exact AO (by rw[edf];rfl) AA.out
 rintro n4 h0;refine sR 1600 ?_;refine Ab ?_;exact AO (by rw[h0];rfl) AA.out
theorem iV {n k:Nat}(hn:n≠0)(hk:k<10):Lib.decDigits (n*10+k)=Lib.decDigits n++[UInt8.ofNat (48+k)]:=by
 rw[Lib.decDigits,dif_neg (by omega)]
 congr 2
 ·omega
 ·congr 2;omega
theorem WI {c:UInt8}(h:Ba c=true):UInt8.ofNat (48+(c.toNat-48))=c:=by
 obtain⟨h1,h2⟩:=Ke h;rw[<-UInt8.toNat_inj,Pk _ (by omega)];omega
theorem kM (l:List UInt8)(c:UInt8):dv (l++[c])=dv l*10+(c.toNat-48):=by
 rw[NF];simp[dv,Gd]
theorem nM:∀(n:Nat) (l:List UInt8),l.length=n->l≠[]->l.all Ba=true->l.head? ≠ some 48->dv l≠0/\Lib.decDigits (dv l)=l:=λn=>by
 induction n with
 |zero=>intro l h0 h1;exact AY (FW h0) h1
 |succ n ih=>
  intro l h0 h1 h2 h3;rcases Q3 l with rfl|⟨m,c,rfl⟩
  ·exact AY rfl h1
  ·rw[Q1]at h0 h1 h2 h3⊢
   rw[LS,BZ]at h2;have hc:Ba c=true:=by simpa using h2.2
   obtain⟨c1,c2⟩:=Ke hc;rw[kM]
   by_cases hm:m=[]
   ·subst hm
    have hc48:c≠48:=λh=>h3 (by rw[h];rfl)
    have hcn:c.toNat≠48:=λh=>hc48 (UInt8.toNat_inj.1 h)
    have e0:dv []*10+(c.toNat-48)=c.toNat-48:=by simp[dv,Gd]
    rw[e0];refine⟨by omega,?_⟩;rw[Lib.decDigits,dif_pos (by omega),WI hc];rfl
   ·have hh:m.head? ≠ some 48:=by
     cases m with
     |nil=>exact AY rfl hm
     |cons a m=>exact h3
    obtain⟨i1,i2⟩:=ih m (by rw[B3,Ga]at h0;omega) hm h2.1 hh;refine⟨by omega,?_⟩;rw[iV i1 (by omega),i2,WI hc]
theorem Ro {l:List UInt8}(h:Cv l=true):Lib.decDigits (dv l)=l/\(l≠[48]->dv l≠0):=by
 obtain⟨h1,h2⟩:=Jf h
 by_cases h0:l=[48]
 ·subst h0
  refine⟨?_,λhh=>AY rfl hh⟩;show Lib.decDigits 0=[48];rw[Lib.decDigits,dif_pos (by decide)];rfl
 ·have h3:l.head? ≠ some 48:=by
   unfold Cv at h;rw[BZ,Af h0,Bool.false_or]at h
   have:=h.2
   simpa using this
  obtain⟨a,b⟩:=nM _ l rfl h1 h2 h3;exact⟨b,λ_=>a⟩
theorem Wc:∀ {l:List UInt8},BD l<l.length->l.drop (BD l)=47::l.drop (BD l+1)
 | [],h=>by cases h
 |c::l,h=>by
  by_cases hc:c=47
  ·subst hc;rfl
  ·have e1:BD (c::l)=BD l+1:=by
    unfold BD;rw[Ml,AF (by simpa using hc),Bl]
   rw[e1,Bl]at h;rw[e1,Q7,Q7];exact Wc (by omega)
def GU (l:List UInt8):Nat:=if Cj l then dv (BT l)else 1
def CA (l:List UInt8):Rat:=mkRat (rv (Bw l)) (GU l)
theorem gh {n:Int}{d:Nat}(hd:d≠0)(h:Nat.gcd n.natAbs d=1):(mkRat n d).num=n/\(mkRat n d).den=d:=by
 obtain⟨q1,q2⟩:=SA (x:=n) hd;rw[h,Nat.div_one]at q1 q2;rw[QF]at q1;exact⟨q1,q2⟩
theorem Pj {l:List UInt8}(h:CS l=0):Iu l=false/\(By l).length<=600/\(BT l).length<=600/\(Cj l=true->Nat.gcd (dv (By l)) (dv (BT l))=1):=by
 unfold CS at h;cases hb:Iu l
 ·rw[hb,AE (by decide)]at h
  split at h
  ·cases h
  ·rename_i h1
   split at h
   ·cases h
   ·rename_i h2
    refine⟨rfl,by omega,by omega,λh3=>?_⟩;rcases Nat.decEq (Nat.gcd (dv (By l)) (dv (BT l))) 1 with h4|h4
    ·exact AY ⟨h3,h4⟩ h2
    ·exact h4
 ·rw[hb,AF rfl]at h;cases h
theorem Ka {l:List UInt8}(h:CS l=0):(CA l).num=rv (Bw l)/\(CA l).den=GU l/\Al (CA l)=l/\(rv (Bw l)).natAbs=dv (By l):=by
 obtain⟨h1,h2,h3,h4⟩:=Pj h;rw[Oy]at h1;simp only[JO]at h1;obtain⟨⟨b1,b2⟩,b3⟩:=h1;have p1:Cv (By l)=true:=by simpa using b1
 obtain⟨d1,d2⟩:=Ro p1;have hab:(rv (Bw l)).natAbs=dv (By l):=by
  show(rv (Bw l)).natAbs=dv (Bk (Bw l));unfold rv;split<;>omega
 have hdd:Cj l=true->Cv (BT l)=true/\BT l≠[48]/\BT l≠[49]:=λhs=>by
  rw[hs,If]at b3;simp only[JO]at b3;exact⟨by simpa using b3.1.1,C5 b3.1.2,C5 b3.2⟩
 have hd0:GU l≠0:=by
  unfold GU;cases hs:Cj l
  ·simp
  ·obtain⟨e1,e2,e3⟩:=hdd hs
   simpa using(Ro e1).2 e2
 have hg:Nat.gcd (rv (Bw l)).natAbs (GU l)=1:=by
  rw[hab];unfold GU;cases hs:Cj l
  ·simp
  ·simpa using h4 hs
 obtain⟨m1,m2⟩:=gh hd0 hg;refine⟨m1,m2,?_,hab⟩;have hi:Lib.itoa (rv (Bw l))=Bw l:=by
  cases hb:DA (Bw l)
  ·have e1:By l=Bw l:=by unfold By Bk;rw[hb];rfl
   rw[e1]at d1;have e2:rv (Bw l)=(dv (Bw l):Int):=by unfold rv Bk;rw[hb];rfl
   rw[e2];unfold Lib.itoa;rw[AE (by omega)];exact d1
  ·obtain⟨m,hm⟩:∃m,Bw l=45::m:=by
    cases hn:Bw l with
    |nil=>rw[hn]at hb;cases hb
    |cons c m=>
     rw[hn]at hb;exact⟨m,by rw[show c=45 by simpa[DA]using hb]⟩
   have e1:By l=m:=by unfold By;rw[hm];rfl
   have hne:By l≠[48]:=λh=>by
    have:=(Ra l).2.2.2
    rw[b2,hm]at this;have h2:=C5 this;rw[e1]at h;exact h2 (by rw[h])
   have hpos:=d2 hne;rw[e1]at d1 hpos;have e2:rv (Bw l) = -(dv m:Int):=by rw[hm];rfl
   rw[e2];unfold Lib.itoa;rw[AF (by omega),LN,Dh,d1,hm]
 unfold Al;rw[show(CA l).num=rv (Bw l)from m1,show(CA l).den=GU l from m2,hi];have hle:=Ik l;cases hs:Cj l
 ·have e1:GU l=1:=by unfold GU;rw[hs];rfl
  have e2:=C5 (p:=BD l<l.length) hs;rw[AF e1];unfold Bw;exact B1 (by omega)
 ·obtain⟨e1,e2,e3⟩:=hdd hs
  have e4:GU l=dv (BT l):=by unfold GU;rw[hs];rfl
  have e5:=(Ro e1).1;have e6:dv (BT l)≠1:=λh=>by
   rw[h,Lib.decDigits,dif_pos (by decide)]at e5;exact e3 e5.symm
  rw[e4,AE e6,e5];unfold Bw BT;rw[<-Wc (Cz hs),Er]
theorem Ov {l:List UInt8}(h:CS l=0):(By l).all Ba=true/\(Cj l=true->(BT l).all Ba=true):=by
 obtain⟨h1,-,-,-⟩:=Pj h;rw[Oy]at h1;simp only[JO]at h1;obtain⟨⟨b1,-⟩,b3⟩:=h1;refine⟨(Jf (by simpa using b1)).2,λhs=>?_⟩;rw[hs,If]at b3;simp only[JO]at b3;exact(Jf (by simpa using b3.1.1)).2
theorem L8 {l:List UInt8}(h:CS l=0):rk (CA l) 600:=by
 obtain⟨m1,m2,-,m4⟩:=Ka h;obtain⟨-,h2,h3,-⟩:=Pj h;obtain⟨p1,p2⟩:=Ov h;have hb:∀k,(10:Nat)^k<=BB^k:=λk=>Mm (by decide) k
 refine⟨?_,?_⟩
 ·rw[m1,m4]
  exact BO (GN (CP (F8 _ p1) (hb _))) h2
 ·rw[m2]
  unfold GU;cases hs:Cj l
  ·exact BO (GN (n:=1) (k:=1) (by decide)) (by decide)
  ·exact BO (GN (CP (F8 _ (p2 hs)) (hb _))) h3
theorem QB {l:List UInt8}(h:CS l=0):FR (CA l) (F9 l) 600:=by
 obtain⟨m1,m2,-,-⟩:=Ka h;refine⟨⟨CY _,?_,?_⟩,L8 h⟩
 ·show(AV (rv (Bw l))).z=_
  rw[De,m1]
 ·show(if Cj l then dv (BT l)else 1)=_
  rw[m2];rfl
theorem QP {l:List UInt8}(hl:l.length<=100000)(h:CS l=0):AK C0 103 [str (sb l)] (F9 l).D:=lF l hl (Ov h).1 (Ov h).2
structure Au where
 lot:List UInt8
 part:List UInt8
def Au.D (s:Au):D:=.agg [str (sb s.lot),str (sb s.part)]
instance d5X (s:Au):Ak s.D:=by unfold Au.D;exact AH
instance d5Y (s:Au):AA s.D:=by unfold Au.D;exact AH
abbrev CT (b:Bool)(l:List Au):D:=.sl b 2 (l.map Au.D)
def Au.few (s:Au):Prop:=s.lot.length<=100000/\s.part.length<=100000
def FZ (l:List Au)(k:Nat):Au:=l.getD k ⟨[],[]⟩
theorem I4 {l:List Au}{k:Nat}{s:Au}(h:l[k]?=some s):FZ l k=s:=by unfold FZ;rw[FH,h];rfl
structure AG where
 grain:List UInt8
 mass:Int
 shs:List Au
def AG.D (x:AG):D:=.agg [str (sb x.grain),i64 x.mass,CT false x.shs]
instance d4S (x:AG):Ak x.D:=by unfold AG.D;exact AH
instance d4T (x:AG):AA x.D:=by unfold AG.D;exact AH
abbrev A0 (b:Bool)(l:List AG):D:=.sl b 3 (l.map AG.D)
theorem OC (z:Int)(h:Sm z):AK C0 105 [i64 z] (⟨AV z,1⟩:GF).D:=by
 have e:(⟨AV z,1⟩:GF).D=LX z 1:=by
  unfold GF.D;rw[TM,I1 h];rfl
 rw[e];exact ui z
theorem lL {n:GI}{k:Nat}(h:n.wf)(hk:1<=k)(hl:(Ae n.z.natAbs).length<=k):FR (n.z:Rat) ⟨n,1⟩ k:=by
 refine⟨⟨h,(Rat.num_intCast _).symm,(Rat.den_intCast _).symm⟩,?_⟩;unfold rk;rw[Rat.num_intCast,Rat.den_intCast];exact⟨hl,BO (GN (n:=1) (k:=1) (by decide)) hk⟩
theorem NZ {z:Int}(h:z.natAbs<18446744073709551616):FR (z:Rat) ⟨AV z,1⟩ 1:=by
 have:=lL (n:=AV z) (k:=1) (CY _) (Ag _) (by rw[De];exact GN (k:=1) (by unfold BB;omega))
 rwa [De]at this
open Go.ChangeShapes Go.WideShapes
def ba (P:Program)(t:Nat):Option (List (Nat×Nat×Nat)):=match P.underlying t with
 |some (.struct fs)=>some (fs.toList.map λf=>(f.type,f.offset,P.cellsOf f.type))
 |_=>none
section
variable {H:Type} {enc:TypeId×Value->H} {W:World} {fuel:Nat} {cs:List Value} {x:DataW H×List MemPlace} {t:TypeId}
theorem ae {l:List (Nat×Nat×Nat)}{m:Nat}(hs:ba Tryz.prog t=some l)(hm:Tryz.prog.cellsOf t=m)(h:DataW.trod enc Tryz.prog W 0 (λ_=>true) true fuel t cs=some x):
  cs.length=m/\∃n,∀(i u off k:Nat),l[i]?=some (u,off,k)->∃y,DataW.trod enc Tryz.prog W 0 (λ_=>true) true n u ((cs.drop off).take k)=some y:=by
 unfold ba at hs;split at hs
 ·rename_i fs hu
  obtain⟨h1,n,h2⟩:=gU hu h;refine⟨h1.trans hm,n,λi u off k hl=>?_⟩;obtain rfl:=FX hs;rw[BH]at hl;obtain⟨f,hf,he⟩:=Option.map_eq_some_iff.1 hl;cases he;exact h2 i f (by rw[<-KN];exact hf)
 ·cases hs
theorem TH {a b c:Nat}{p q:List D}(h:Dl W ((cs.drop a).take b) p)(k:Dl W ((cs.drop (a+b)).take c) q):Dl W ((cs.drop a).take (b+c)) (p++q):=by
 rw[List.take_add,List.drop_drop];exact h.append k
theorem ZJ {n:Nat}{p:List D}(hn:cs.length=n)(h:Dl W ((cs.drop 0).take n) p):Dl W cs p:=by
 rw[FL,<-hn,DL]at h;exact h
theorem qz (h:DataW.trod enc Tryz.prog W 0 (λ_=>true) true fuel 80 cs=some x):∃l:List UInt8,Dl W cs (str (sb l)).cells/\l.length<=maxLen:=ZK (by kernel_rfl) h
theorem Rq (h:DataW.trod enc Tryz.prog W 0 (λ_=>true) true fuel 9 cs=some x):∃l:List UInt8,Dl W cs [str (sb l)]/\l.length<=maxLen:=ZK (by kernel_rfl) h
theorem qu (h:DataW.trod enc Tryz.prog W 0 (λ_=>true) true fuel 3 cs=some x):∃z:Int,Dl W cs [i64 z]:=by
 obtain⟨z,_,_,h⟩:=qx (by kernel_rfl) h;exact⟨z,h⟩
theorem jm (h:DataW.trod enc Tryz.prog W 0 (λ_=>true) true fuel 82 cs=some x):∃s:Au,Dl W cs s.D.cells/\True:=by
 obtain⟨h1,n,h2⟩:=ae (l:=[(9,0,1),(80,1,1)]) (m:=2) (by kernel_rfl) (by kernel_rfl) h;obtain⟨y0,k0⟩:=h2 0 _ _ _ rfl;obtain⟨y1,k1⟩:=h2 1 _ _ _ rfl;obtain⟨a0,r0,_⟩:=Rq k0;obtain⟨a1,r1,_⟩:=qz k1;exact⟨⟨a0,a1⟩,ZJ h1 (TH (b:=1) (c:=1) r0 r1),trivial⟩
theorem gW (h:DataW.trod enc Tryz.prog W 0 (λ_=>true) true fuel 25 cs=some x):∃l:List Au,Dl W cs [CT false l]/\(∀a∈l,True)/\l.length<=maxLen:=
 ad (g:=Au.D) (ok:=λ_=>True) (e:=82) (sz:=2) (by kernel_rfl) (by kernel_rfl) (by decide) (λ_ _ _ h=>jm h) h
theorem jl (h:DataW.trod enc Tryz.prog W 0 (λ_=>true) true fuel 27 cs=some x):∃s:AG,Dl W cs s.D.cells/\s.shs.length<=maxLen:=by
 obtain⟨h1,n,h2⟩:=ae (l:=[(9,0,1),(3,1,1),(25,2,1)]) (m:=3) (by kernel_rfl) (by kernel_rfl) h;obtain⟨y0,k0⟩:=h2 0 _ _ _ rfl;obtain⟨y1,k1⟩:=h2 1 _ _ _ rfl;obtain⟨y2,k2⟩:=h2 2 _ _ _ rfl;obtain⟨a0,r0,_⟩:=Rq k0;obtain⟨a1,r1⟩:=qu k1;obtain⟨a2,r2,_,hl⟩:=gW k2;exact⟨⟨a0,a1,a2⟩,ZJ h1 (TH (b:=1) (c:=2) r0 (TH (b:=1) (c:=1) r1 r2)),hl⟩
theorem gV (h:DataW.trod enc Tryz.prog W 0 (λ_=>true) true fuel 22 cs=some x):∃l:List AG,Dl W cs [A0 false l]/\(∀a∈l,a.shs.length<=maxLen)/\l.length<=maxLen:=
 ad (g:=AG.D) (ok:=λs=>s.shs.length<=maxLen) (e:=27) (sz:=3) (by kernel_rfl) (by kernel_rfl) (by decide) (λ_ _ _ h=>jl h) h
end
theorem uB {P:Program}{W:World}{t e base:Nat}{v:Value}(hu:P.underlying t=some (.slice e))(h:Value.okWide P W .any base t v):∃a l c,v=.slice a l c:=by
 unfold Value.okWide at h;rw[hu]at h;dsimp only at h;unfold Cell.okWide at h;rw[hu]at h;cases v<;>first|exact⟨_,_,_,rfl⟩|(dsimp only at h;unfold Cell.ok at h;rw[hu]at h;exact h.elim)
theorem Dl.val1 {W:World}{v:Value}{d:D}(h:Dl W [v] [d]):AU nol (λ_=>False) W d v:=(h.cell 0 v d rfl rfl).2
theorem iD (c:Nat):(97<=c/\c<=122)\/(122<c)\/(65<=c/\c<=90)\/((91<=c/\c<=96)/\c≠95)\/(c=95)\/(58<=c/\c<=64)\/(48<=c/\c<=57)\/(c<48/\c≠45/\c≠46)\/(c=45)\/(c=46):=by omega
theorem Tl (l:List UInt8)(hl:l.length<=1000000):AK C0 65 [str (sb l)] (Aq (Co l)):=by
 refine Ai.walk w1 tW rfl λF=>?_
 have hsz:=CN l;refine sR 0 ?_;refine Cp (α:=Nat) (λn=>⟨[(0,str (sb l))],[],n⟩) (λ_=>1<=l.length/\l.length<=24) ?_ ?_
 ·by_cases h1:l.length<1
  ·have e1:decide ((l.length:Int)<1)=true:=AX (by omega)
   refine sZ 100 ?_;refine AT (Ac hsz e1) ?_;refine AD kT ?_;refine AL ?_;refine sR 200 ?_;refine Ab ?_;exact AO (by unfold Co;rw[Af (show ¬ 1<=l.length by omega)];simp) AA.out
  ·have e1:decide ((l.length:Int)<1)=false:=Af (by omega)
   have e2:decide ((l.length:Int)>24)=decide (24<l.length):=Cr.2 (by omega);refine sZ 100 ?_;refine AT (Ac hsz e1) ?_;refine AD (At kF hsz e2) ?_
   by_cases h2:24<l.length
   ·rw[AX h2]
    refine AL ?_;refine sR 200 ?_;refine Ab ?_;exact AO (by unfold Co;rw[Af (show ¬l.length<=24 by omega)];simp) AA.out
   ·rw[Af h2]
    refine AL ?_;refine Aj ?_;exact⟨rfl,_,⟨by omega,by omega⟩,AI⟩
 rintro n0 ⟨l1,l2⟩;refine AC.seq ?_;refine sR 300 ?_;refine AC.block ?_;refine AC.loop (α:=Nat×Nat) (λp=>⟨[(0,str (sb l)),(3,i64 (p.1:Int))],[],p.2⟩) (λp=>l.length-p.1) (λp=>p.1<=l.length/\(l.take p.1).all (λb=>Ch b.toNat)=true) (0,_) ⟨BR _,rfl⟩ AI ?_;rintro⟨i,n⟩ F ⟨hi,ha⟩;dsimp only at hi ha⊢;refine AC.seq ?_;refine sZ 400 ?_;refine AT hsz ?_;refine AL ?_
 (refine Br (λhlt=>?_) (λhlt=>?_))<;>(try simp only[Bf,Bp]at hlt)<;>(try simp only[hlt])
 ·have hi2:i<l.length:=by
   have:=Cz hlt
   omega
  obtain⟨c,hc⟩:∃c,l[i]?=some c:=⟨l[i],BF hi2⟩
  have hg:l.getD i 0=c:=by simp[hc]
  have wi:IntKind.i64.wrap ((i:Int)+1)=((i+1:Nat):Int):=wI (by omega) (by omega);refine Aj ?_;refine AC.seq ?_;refine AC.block ?_;refine sZ 600 ?_;refine AT (Ac kN hg) ?_;have hcl:Ch c.toNat=false->Co l=false:=λh=>by
   unfold Co;cases hall:l.all (λb=>Ch b.toNat)
   ·rfl
   ·have:=CI.1 hall c (A8 hc)
    rw[h]at this;cases this
  have hsn:Ch c.toNat=true->(l.take (i+1)).all (λb=>Ch b.toNat)=true:=λh=>by
   rw[Dv,hc,LS,ha];simpa using h
  have hc9:c.toNat<256:=c.toNat_lt;generalize c.toNat=c at*;refine Cp (α:=Nat) (λn=>⟨[(0,str (sb l)),(3,i64 (i:Int)),(56,Aq (!Ch c))],[],n⟩) (λ_=>True) ?_ ?_
  ·clear hcl hsn
   rcases iD c with h|h|h|h|h|h|h|h|h|h
   ·skip
    have f1:decide ((c:Int)>=97)=true:=AX (by omega);have f2:decide ((c:Int)<=122)=true:=AX (by omega);have f3:decide ((c:Int)>=65)=true:=AX (by omega);have f4:decide ((c:Int)<=90)=false:=Af (by omega);have f5:decide ((c:Int)>=48)=true:=AX (by omega);have f6:decide ((c:Int)<=57)=false:=Af (by omega);have f7:((c:Int)==45)=false:=B6.2 (by omega);have f8:((c:Int)==95)=false:=B6.2 (by omega);have f9:((c:Int)==46)=false:=B6.2 (by omega);have hnb:Ch c=true:=by
     unfold Ch;simp;omega
    rw[hnb];refine An w1 700 (by kernel_rfl) ?_;refine AD kB ?_
    try simp only[f1,f2,f3,f4,f5,f6,f7,f8,f9]
    refine AD kB ?_
    try simp only[f1,f2,f3,f4,f5,f6,f7,f8,f9]
    refine AD kB ?_
    try simp only[f1,f2,f3,f4,f5,f6,f7,f8,f9]
    refine AD kB ?_
    try simp only[f1,f2,f3,f4,f5,f6,f7,f8,f9]
    refine AD kB ?_
    try simp only[f1,f2,f3,f4,f5,f6,f7,f8,f9]
    refine AD kB ?_
    try simp only[f1,f2,f3,f4,f5,f6,f7,f8,f9]
    refine AD kB ?_
    try simp only[f1,f2,f3,f4,f5,f6,f7,f8,f9]
    refine AD kB ?_
    try simp only[f1,f2,f3,f4,f5,f6,f7,f8,f9]
    refine AD kB ?_
    try simp only[f1,f2,f3,f4,f5,f6,f7,f8,f9]
    exact⟨by first|exact AB|rfl|simp,_,trivial,AI⟩
   ·skip
    have f1:decide ((c:Int)>=97)=true:=AX (by omega);have f2:decide ((c:Int)<=122)=false:=Af (by omega);have f3:decide ((c:Int)>=65)=true:=AX (by omega);have f4:decide ((c:Int)<=90)=false:=Af (by omega);have f5:decide ((c:Int)>=48)=true:=AX (by omega);have f6:decide ((c:Int)<=57)=false:=Af (by omega);have f7:((c:Int)==45)=false:=B6.2 (by omega);have f8:((c:Int)==95)=false:=B6.2 (by omega);have f9:((c:Int)==46)=false:=B6.2 (by omega);have hnb:Ch c=false:=by
     unfold Ch;simp;omega
    rw[hnb];refine An w1 700 (by kernel_rfl) ?_;refine AD kB ?_
    try simp only[f1,f2,f3,f4,f5,f6,f7,f8,f9]
    refine AD kB ?_
    try simp only[f1,f2,f3,f4,f5,f6,f7,f8,f9]
    refine AD kB ?_
    try simp only[f1,f2,f3,f4,f5,f6,f7,f8,f9]
    refine AD kB ?_
    try simp only[f1,f2,f3,f4,f5,f6,f7,f8,f9]
    refine AD kB ?_
    try simp only[f1,f2,f3,f4,f5,f6,f7,f8,f9]
    refine AD kB ?_
    try simp only[f1,f2,f3,f4,f5,f6,f7,f8,f9]
    refine AD kB ?_
    try simp only[f1,f2,f3,f4,f5,f6,f7,f8,f9]
    refine AD kB ?_
    try simp only[f1,f2,f3,f4,f5,f6,f7,f8,f9]
    refine AD kB ?_
    try simp only[f1,f2,f3,f4,f5,f6,f7,f8,f9]
    exact⟨by first|exact AB|rfl|simp,_,trivial,AI⟩
   ·skip
    have f1:decide ((c:Int)>=97)=false:=Af (by omega);have f2:decide ((c:Int)<=122)=true:=AX (by omega);have f3:decide ((c:Int)>=65)=true:=AX (by omega);have f4:decide ((c:Int)<=90)=true:=AX (by omega);have f5:decide ((c:Int)>=48)=true:=AX (by omega);have f6:decide ((c:Int)<=57)=false:=Af (by omega);have f7:((c:Int)==45)=false:=B6.2 (by omega);have f8:((c:Int)==95)=false:=B6.2 (by omega);have f9:((c:Int)==46)=false:=B6.2 (by omega);have hnb:Ch c=true:=by
     unfold Ch;simp;omega
    rw[hnb];refine An w1 700 (by kernel_rfl) ?_;refine AD kB ?_
    try simp only[f1,f2,f3,f4,f5,f6,f7,f8,f9]
    refine AD kB ?_
    try simp only[f1,f2,f3,f4,f5,f6,f7,f8,f9]
    refine AD kB ?_
    try simp only[f1,f2,f3,f4,f5,f6,f7,f8,f9]
    refine AD kB ?_
    try simp only[f1,f2,f3,f4,f5,f6,f7,f8,f9]
    refine AD kB ?_
    try simp only[f1,f2,f3,f4,f5,f6,f7,f8,f9]
    refine AD kB ?_
    try simp only[f1,f2,f3,f4,f5,f6,f7,f8,f9]
    refine AD kB ?_
    try simp only[f1,f2,f3,f4,f5,f6,f7,f8,f9]
    refine AD kB ?_
    try simp only[f1,f2,f3,f4,f5,f6,f7,f8,f9]
    refine AD kB ?_
    try simp only[f1,f2,f3,f4,f5,f6,f7,f8,f9]
    exact⟨by first|exact AB|rfl|simp,_,trivial,AI⟩
   ·skip
    have f1:decide ((c:Int)>=97)=false:=Af (by omega);have f2:decide ((c:Int)<=122)=true:=AX (by omega);have f3:decide ((c:Int)>=65)=true:=AX (by omega);have f4:decide ((c:Int)<=90)=false:=Af (by omega);have f5:decide ((c:Int)>=48)=true:=AX (by omega);have f6:decide ((c:Int)<=57)=false:=Af (by omega);have f7:((c:Int)==45)=false:=B6.2 (by omega);have f8:((c:Int)==95)=false:=B6.2 (by omega);have f9:((c:Int)==46)=false:=B6.2 (by omega);have hnb:Ch c=false:=by
     unfold Ch;simp;omega
    rw[hnb];refine An w1 700 (by kernel_rfl) ?_;refine AD kB ?_
    try simp only[f1,f2,f3,f4,f5,f6,f7,f8,f9]
    refine AD kB ?_
    try simp only[f1,f2,f3,f4,f5,f6,f7,f8,f9]
    refine AD kB ?_
    try simp only[f1,f2,f3,f4,f5,f6,f7,f8,f9]
    refine AD kB ?_
    try simp only[f1,f2,f3,f4,f5,f6,f7,f8,f9]
    refine AD kB ?_
    try simp only[f1,f2,f3,f4,f5,f6,f7,f8,f9]
    refine AD kB ?_
    try simp only[f1,f2,f3,f4,f5,f6,f7,f8,f9]
    refine AD kB ?_
    try simp only[f1,f2,f3,f4,f5,f6,f7,f8,f9]
    refine AD kB ?_
    try simp only[f1,f2,f3,f4,f5,f6,f7,f8,f9]
    refine AD kB ?_
    try simp only[f1,f2,f3,f4,f5,f6,f7,f8,f9]
    exact⟨by first|exact AB|rfl|simp,_,trivial,AI⟩
   ·skip
    have f1:decide ((c:Int)>=97)=false:=Af (by omega);have f2:decide ((c:Int)<=122)=true:=AX (by omega);have f3:decide ((c:Int)>=65)=true:=AX (by omega);have f4:decide ((c:Int)<=90)=false:=Af (by omega);have f5:decide ((c:Int)>=48)=true:=AX (by omega);have f6:decide ((c:Int)<=57)=false:=Af (by omega);have f7:((c:Int)==45)=false:=B6.2 (by omega);have f8:((c:Int)==95)=true:=Dw.2 (by omega);have f9:((c:Int)==46)=false:=B6.2 (by omega);have hnb:Ch c=true:=by
     unfold Ch;simp;omega
    rw[hnb];refine An w1 700 (by kernel_rfl) ?_;refine AD kB ?_
    try simp only[f1,f2,f3,f4,f5,f6,f7,f8,f9]
    refine AD kB ?_
    try simp only[f1,f2,f3,f4,f5,f6,f7,f8,f9]
    refine AD kB ?_
    try simp only[f1,f2,f3,f4,f5,f6,f7,f8,f9]
    refine AD kB ?_
    try simp only[f1,f2,f3,f4,f5,f6,f7,f8,f9]
    refine AD kB ?_
    try simp only[f1,f2,f3,f4,f5,f6,f7,f8,f9]
    refine AD kB ?_
    try simp only[f1,f2,f3,f4,f5,f6,f7,f8,f9]
    refine AD kB ?_
    try simp only[f1,f2,f3,f4,f5,f6,f7,f8,f9]
    refine AD kB ?_
    try simp only[f1,f2,f3,f4,f5,f6,f7,f8,f9]
    refine AD kB ?_
    try simp only[f1,f2,f3,f4,f5,f6,f7,f8,f9]
    exact⟨by first|exact AB|rfl|simp,_,trivial,AI⟩
   ·skip
    have f1:decide ((c:Int)>=97)=false:=Af (by omega);have f2:decide ((c:Int)<=122)=true:=AX (by omega);have f3:decide ((c:Int)>=65)=false:=Af (by omega);have f4:decide ((c:Int)<=90)=true:=AX (by omega);have f5:decide ((c:Int)>=48)=true:=AX (by omega);have f6:decide ((c:Int)<=57)=false:=Af (by omega);have f7:((c:Int)==45)=false:=B6.2 (by omega);have f8:((c:Int)==95)=false:=B6.2 (by omega);have f9:((c:Int)==46)=false:=B6.2 (by omega);have hnb:Ch c=false:=by
     unfold Ch;simp;omega
    rw[hnb];refine An w1 700 (by kernel_rfl) ?_;refine AD kB ?_
    try simp only[f1,f2,f3,f4,f5,f6,f7,f8,f9]
    refine AD kB ?_
    try simp only[f1,f2,f3,f4,f5,f6,f7,f8,f9]
    refine AD kB ?_
    try simp only[f1,f2,f3,f4,f5,f6,f7,f8,f9]
    refine AD kB ?_
    try simp only[f1,f2,f3,f4,f5,f6,f7,f8,f9]
    refine AD kB ?_
    try simp only[f1,f2,f3,f4,f5,f6,f7,f8,f9]
    refine AD kB ?_
    try simp only[f1,f2,f3,f4,f5,f6,f7,f8,f9]
    refine AD kB ?_
    try simp only[f1,f2,f3,f4,f5,f6,f7,f8,f9]
    refine AD kB ?_
    try simp only[f1,f2,f3,f4,f5,f6,f7,f8,f9]
    refine AD kB ?_
    try simp only[f1,f2,f3,f4,f5,f6,f7,f8,f9]
    exact⟨by first|exact AB|rfl|simp,_,trivial,AI⟩
   ·skip
    have f1:decide ((c:Int)>=97)=false:=Af (by omega);have f2:decide ((c:Int)<=122)=true:=AX (by omega);have f3:decide ((c:Int)>=65)=false:=Af (by omega);have f4:decide ((c:Int)<=90)=true:=AX (by omega);have f5:decide ((c:Int)>=48)=true:=AX (by omega);have f6:decide ((c:Int)<=57)=true:=AX (by omega);have f7:((c:Int)==45)=false:=B6.2 (by omega);have f8:((c:Int)==95)=false:=B6.2 (by omega);have f9:((c:Int)==46)=false:=B6.2 (by omega);have hnb:Ch c=true:=by
     unfold Ch;simp;omega
    rw[hnb];refine An w1 700 (by kernel_rfl) ?_;refine AD kB ?_
    try simp only[f1,f2,f3,f4,f5,f6,f7,f8,f9]
    refine AD kB ?_
    try simp only[f1,f2,f3,f4,f5,f6,f7,f8,f9]
    refine AD kB ?_
    try simp only[f1,f2,f3,f4,f5,f6,f7,f8,f9]
    refine AD kB ?_
    try simp only[f1,f2,f3,f4,f5,f6,f7,f8,f9]
    refine AD kB ?_
    try simp only[f1,f2,f3,f4,f5,f6,f7,f8,f9]
    refine AD kB ?_
    try simp only[f1,f2,f3,f4,f5,f6,f7,f8,f9]
    refine AD kB ?_
    try simp only[f1,f2,f3,f4,f5,f6,f7,f8,f9]
    refine AD kB ?_
    try simp only[f1,f2,f3,f4,f5,f6,f7,f8,f9]
    refine AD kB ?_
    try simp only[f1,f2,f3,f4,f5,f6,f7,f8,f9]
    exact⟨by first|exact AB|rfl|simp,_,trivial,AI⟩
   ·skip
    have f1:decide ((c:Int)>=97)=false:=Af (by omega);have f2:decide ((c:Int)<=122)=true:=AX (by omega);have f3:decide ((c:Int)>=65)=false:=Af (by omega);have f4:decide ((c:Int)<=90)=true:=AX (by omega);have f5:decide ((c:Int)>=48)=false:=Af (by omega);have f6:decide ((c:Int)<=57)=true:=AX (by omega);have f7:((c:Int)==45)=false:=B6.2 (by omega);have f8:((c:Int)==95)=false:=B6.2 (by omega);have f9:((c:Int)==46)=false:=B6.2 (by omega);have hnb:Ch c=false:=by
     unfold Ch;simp;omega
    rw[hnb];refine An w1 700 (by kernel_rfl) ?_;refine AD kB ?_
    try simp only[f1,f2,f3,f4,f5,f6,f7,f8,f9]
    refine AD kB ?_
    try simp only[f1,f2,f3,f4,f5,f6,f7,f8,f9]
    refine AD kB ?_
    try simp only[f1,f2,f3,f4,f5,f6,f7,f8,f9]
    refine AD kB ?_
    try simp only[f1,f2,f3,f4,f5,f6,f7,f8,f9]
    refine AD kB ?_
    try simp only[f1,f2,f3,f4,f5,f6,f7,f8,f9]
    refine AD kB ?_
    try simp only[f1,f2,f3,f4,f5,f6,f7,f8,f9]
    refine AD kB ?_
    try simp only[f1,f2,f3,f4,f5,f6,f7,f8,f9]
    refine AD kB ?_
    try simp only[f1,f2,f3,f4,f5,f6,f7,f8,f9]
    refine AD kB ?_
    try simp only[f1,f2,f3,f4,f5,f6,f7,f8,f9]
    exact⟨by first|exact AB|rfl|simp,_,trivial,AI⟩
   ·skip
    have f1:decide ((c:Int)>=97)=false:=Af (by omega);have f2:decide ((c:Int)<=122)=true:=AX (by omega);have f3:decide ((c:Int)>=65)=false:=Af (by omega);have f4:decide ((c:Int)<=90)=true:=AX (by omega);have f5:decide ((c:Int)>=48)=false:=Af (by omega);have f6:decide ((c:Int)<=57)=true:=AX (by omega);have f7:((c:Int)==45)=true:=Dw.2 (by omega);have f8:((c:Int)==95)=false:=B6.2 (by omega);have f9:((c:Int)==46)=false:=B6.2 (by omega);have hnb:Ch c=true:=by
     unfold Ch;simp;omega
    rw[hnb];refine An w1 700 (by kernel_rfl) ?_;refine AD kB ?_
    try simp only[f1,f2,f3,f4,f5,f6,f7,f8,f9]
    refine AD kB ?_
    try simp only[f1,f2,f3,f4,f5,f6,f7,f8,f9]
    refine AD kB ?_
    try simp only[f1,f2,f3,f4,f5,f6,f7,f8,f9]
    refine AD kB ?_
    try simp only[f1,f2,f3,f4,f5,f6,f7,f8,f9]
    refine AD kB ?_
    try simp only[f1,f2,f3,f4,f5,f6,f7,f8,f9]
    refine AD kB ?_
    try simp only[f1,f2,f3,f4,f5,f6,f7,f8,f9]
    refine AD kB ?_
    try simp only[f1,f2,f3,f4,f5,f6,f7,f8,f9]
    refine AD kB ?_
    try simp only[f1,f2,f3,f4,f5,f6,f7,f8,f9]
    refine AD kB ?_
    try simp only[f1,f2,f3,f4,f5,f6,f7,f8,f9]
    exact⟨by first|exact AB|rfl|simp,_,trivial,AI⟩
   ·skip
    have f1:decide ((c:Int)>=97)=false:=Af (by omega);have f2:decide ((c:Int)<=122)=true:=AX (by omega);have f3:decide ((c:Int)>=65)=false:=Af (by omega);have f4:decide ((c:Int)<=90)=true:=AX (by omega);have f5:decide ((c:Int)>=48)=false:=Af (by omega);have f6:decide ((c:Int)<=57)=true:=AX (by omega);have f7:((c:Int)==45)=false:=B6.2 (by omega);have f8:((c:Int)==95)=false:=B6.2 (by omega);have f9:((c:Int)==46)=true:=Dw.2 (by omega);have hnb:Ch c=true:=by
     unfold Ch;simp;omega
    rw[hnb];refine An w1 700 (by kernel_rfl) ?_;refine AD kB ?_
    try simp only[f1,f2,f3,f4,f5,f6,f7,f8,f9]
    refine AD kB ?_
    try simp only[f1,f2,f3,f4,f5,f6,f7,f8,f9]
    refine AD kB ?_
    try simp only[f1,f2,f3,f4,f5,f6,f7,f8,f9]
    refine AD kB ?_
    try simp only[f1,f2,f3,f4,f5,f6,f7,f8,f9]
    refine AD kB ?_
    try simp only[f1,f2,f3,f4,f5,f6,f7,f8,f9]
    refine AD kB ?_
    try simp only[f1,f2,f3,f4,f5,f6,f7,f8,f9]
    refine AD kB ?_
    try simp only[f1,f2,f3,f4,f5,f6,f7,f8,f9]
    refine AD kB ?_
    try simp only[f1,f2,f3,f4,f5,f6,f7,f8,f9]
    refine AD kB ?_
    try simp only[f1,f2,f3,f4,f5,f6,f7,f8,f9]
    exact⟨by first|exact AB|rfl|simp,_,trivial,AI⟩
  rintro n1 -;cases hb:Ch c
  ·refine AL ?_
   refine sR 800 ?_;refine Ab ?_;exact AO (by rw[hcl hb]) AA.out
  ·refine AL ?_
   refine Aj ?_;refine An w1 500 (by kernel_rfl) ?_;refine AT wi ?_;exact⟨(i+1,_),⟨hi2,hsn hb⟩,by dsimp only;omega,AI⟩
 ·have hi2:i=l.length:=by
   have:=C5 hlt
   omega
  subst hi2;rw[B1 (Ag _)]at ha;refine B7 ?_;refine sR 900 ?_;refine Ab ?_;exact AO (by unfold Co;rw[ha,AX l1,AX l2];rfl) AA.out
def Ec:List Int->Int
 | []=>0
 |e::r=>if e≠0 then e else Ec r
theorem Ou {v:List Int}{i:Nat}(h:∀(j:Nat) (e:Int),j<i->v[j]?=some e->e=0):Ec v=Ec (v.drop i):=by
 induction i generalizing v with
 |zero=>rfl
 |succ i ih=>
  cases v with
  |nil=>rfl
  |cons l r=>
   have h0:=h 0 l (Nat.succ_pos i) rfl;rw[Q7];show(if l≠0 then l else Ec r)=_;rw[AE (λhh=>hh h0)];exact ih λj m hj hm=>h (j+1) m (by omega) hm
theorem SS {a:Int}(h:a≠0):(a != 0)=true:=by
 have:(a==0)=false:=B6.2 h
 unfold bne;rw[this];rfl
theorem Wu {l:List UInt8}(h:CS l=0):GV (CA l):=Ks (L8 h) (by decide)
def DP (f:Nat->Nat):Nat->Nat
 | 0=>0
 |n+1=>if DP f n≠0 then DP f n else f n
theorem Kl {f:Nat->Nat}{n:Nat}(h:∀j,j<n->f j=0):DP f n=0:=by
 induction n with
 |zero=>rfl
 |succ n ih=>
  have:=ih λj hj=>h j (by omega)
  unfold DP;rw[AE (λhh=>hh this)];exact h n (by omega)
theorem Ll {f:Nat->Nat}{i n:Nat}(h:∀j,j<i->f j=0)(hi:i<n)(h0:f i≠0):DP f n=f i:=by
 induction n with
 |zero=>omega
 |succ n ih=>
  unfold DP;rcases BI i n with hlt|hge
  ·have:=ih hlt
   rw[AF (by rw[this];exact h0),this]
  ·have:i=n:=by omega
   subst this;rw[AE (λhh=>hh (Kl h))]
theorem PR {f:Nat->Nat}{n:Nat}(h:DP f n=0):∀j,j<n->f j=0:=by
 induction n with
 |zero=>intro j hj;omega
 |succ n ih=>
  unfold DP at h
  by_cases h0:DP f n=0
  ·rw[AE (λhh=>hh h0)]at h
   intro j hj;rcases BI j n with hl|hg
   ·exact ih h0 j hl
   ·have:j=n:=by omega
    subst this;exact h
  ·rw[AF h0]at h
   exact AY h h0
structure LD where
 name:List UInt8
 least:List (List UInt8)
 most:List (List UInt8)
 deriving Inhabited
def LD.D (g:LD):D:=.agg [str (sb g.name),.sl false 1 (g.least.map λl=>str (sb l)),.sl false 1 (g.most.map λl=>str (sb l))]
instance  (g:LD):Ak g.D:=by unfold LD.D;exact AH
instance  (g:LD):AA g.D:=by unfold LD.D;exact AH
def lv (l:List (List UInt8))(k:Nat):List UInt8:=l.getD k []
def mr (gs:List LD)(i k:Nat):Option (List UInt8×List UInt8):=if i=0 then none else some (lv (gs.getD (i-1) default).least k,lv (gs.getD (i-1) default).most k)
theorem bv {α:Type}{l:List α}{p:α->Bool}{i:Nat}(h:∀(j:Nat) (x:α),j<i->l[j]?=some x->p x=false):(l.take i).any p=false:=by
 rw[List.any_eq_false];intro x hx;obtain⟨j,hj,e⟩:=List.mem_iff_getElem.1 hx;have hj2:j<i:=by rw[BX]at hj;omega
 have:l[j]?=some x:=by
  rw[<-e,List.getElem_take];exact BF _
 rw[h j x hj2 this];simp
def KC {α:Type}(p:α->Bool)(l:List α):Int:=if l.any p then(l.findIdx p:Int)else -1
theorem XP {α:Type}{p:α->Bool}{l:List α}{i:Nat}{x:α}(hx:l[i]?=some x)(h:p x=true)(ha:∀(j:Nat) (y:α),j<i->l[j]?=some y->p y=false):KC p l=i:=by
 unfold KC;obtain⟨hi,e⟩:=List.getElem?_eq_some_iff.1 hx;rw[AF (List.any_eq_true.2 ⟨x,A8 hx,h⟩)]
 have:l.findIdx p=i:=(List.findIdx_eq hi).2 ⟨by rw[e];exact h,λj hj=>ha j _ hj (BF _)⟩
 rw[this]
theorem Vv {α:Type}{p:α->Bool}{l:List α}(ha:∀(j:Nat) (y:α),j<l.length->l[j]?=some y->p y=false):KC p l = -1:=by
 unfold KC
 have:=bv (l:=l) (p:=p) (i:=l.length) ha
 rw[DL]at this;rw[this];rfl
theorem XQ {α:Type}(p:α->Bool)(l:List α):decide (KC p l>=0)=l.any p:=by
 unfold KC;cases l.any p
 ·rfl
 ·exact AX (by simp)
end Go.Ide
