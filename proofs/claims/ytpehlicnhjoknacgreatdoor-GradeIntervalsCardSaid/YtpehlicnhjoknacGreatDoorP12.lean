/- The layer of own lemmas and contracts, part 12. -/
import Derived.Test.YtpehlicnhjoknacGreatDoorP11
import Derived.Test.YtpehlicnhjoknacGreatDoorP6
import Derived.Test.YtpehlicnhjoknacGreatDoorP10
import Derived.Test.YtpehlicnhjoknacGreatDoorP3
set_option linter.unusedVariables false
set_option linter.unusedSimpArgs false
namespace Go.Ide
open Go.Proofs Go.RowKit
set_option maxRecDepth 20000
set_option maxHeartbeats 2000000
theorem c2s (c:UInt8):a0C c=(!decide ((c.toNat:Int)<48) && !decide ((c.toNat:Int)>57)):=by
 unfold a0C;rw [e1D,e0f,e0f];simp only [e0a,e2k,Nat.ble_eq];omega
theorem b3v {l:List UInt8}{i:Nat}{c:UInt8}(hc:l[i]? = some c)(h:(l.take i).all a0C=true):(l.take (i+1)).all a0C=a0C c:=by
 rw [e1F,hc,e2F,h];simp
theorem d1S {l:List UInt8}{i:Nat}{c:UInt8}(hc:l[i]? = some c)(h:a0C c=false):l.all a0C=false:=by
 cases ha:l.all a0C
 ·rfl
 ·have:=e0B.1 ha c (d9V hc)
  rw [h] at this;cases this
theorem c3H (l:List UInt8)(hl:l.length<=1000000000):a0b C0 186 [str (sb l)] (boo (l.all a0C)):=by
 refine a0c.walk w1 d3m rfl fun F=>?_
 have hsz:=a0x l;refine sR 0 ?_;refine OkS.seq ?_;refine sR 100 ?_;refine OkS.block ?_;refine OkS.loop (α:=Nat × Nat) (fun p=>⟨[(0,str (sb l)),(3,i64 (p.1:Int))],[],p.2⟩) (fun p=>l.length - p.1) (fun p=>p.1<=l.length/\(l.take p.1).all a0C=true) (0,_) ⟨e0y _,rfl⟩ wkI ?_;rintro ⟨i,n⟩ F ⟨hi,ha⟩;dsimp only at hi ha ⊢;refine OkS.seq ?_;refine sZ 200 ?_;refine nwI hsz ?_;refine ifI ?_
 (refine brI (fun hlt=>?_) (fun hlt=>?_))<;>(try simp only [e0a,e0c] at hlt)<;>(try simp only [hlt])
 ·have hi2:i<l.length:=by
   have:=e0p hlt
   omega
  obtain ⟨c,hc⟩:∃ c,l[i]? = some c:=⟨l[i],d9W hi2⟩
  have hg:l.getD i 0=c:=by simp [hc]
  have wi:IntKind.i64.wrap ((i:Int)+1)=((i+1:Nat):Int):=wI (by omega) (by omega);have hid:=c2s c;have hat:=b3v hc ha;have hno:=d1S hc;refine skI ?_;refine OkS.seq ?_;refine OkS.block ?_;refine sZ 400 ?_;refine nwI (ff2 kN hg) ?_
  by_cases c1:(c.toNat:Int)<48
  ·rw [d9S c1] at hid
   have e4:=d9S c1;simp only [e4];refine gwI kT ?_;refine ifI ?_;refine sR 500 ?_;refine rtI ?_;exact a0a (by rw [hno hid]) IsPure.out
  ·rw [d9U c1] at hid
   have e4:=d9U c1;simp only [e4];refine gwI (ff3 kF kN hg) ?_
   by_cases c2:(c.toNat:Int)>57
   ·rw [d9S c2] at hid ⊢
    refine ifI ?_;refine sR 500 ?_;refine rtI ?_;exact a0a (by rw [hno hid]) IsPure.out
   ·rw [d9U c2] at hid ⊢
    refine ifI ?_;refine skI ?_;refine d9l w1 300 (by kernel_rfl) ?_;refine nwI wi ?_;exact ⟨(i+1,_),⟨hi2,hat.trans hid⟩,by dsimp only;omega,wkI⟩
 ·have hi2:i=l.length:=by
   have:=e0i hlt
   omega
  subst hi2;rw [e0k (d9Z _)] at ha;refine exI ?_;refine sR 600 ?_;refine rtI ?_;exact a0a (by rw [ha]) IsPure.out
theorem b8W (c : UInt8) : (((c.toNat : Nat) : Int) == 48) = decide (c = 48) := by
  rw [e1D, e1L, decide_eq_true_iff, <- UInt8.toNat_inj]
  exact ⟨fun h => by have : c.toNat = 48 := by omega
                     exact this, fun h => by rw [h]; rfl⟩
theorem c4W (l:List UInt8)(hl:l.length<=1000000000):a0b C0 120 [str (sb l)] (boo (a1n l)):=by
 refine a0c.walk w1 d3N rfl fun F=>?_
 have hsz:=a0x l;have cd:=c3H l hl;refine sR 0 ?_;refine OkS.seq ?_;refine OkS.seq ?_
 match l,hl,hsz,cd with
 | [],_,hsz,_ =>
  have e1:((((sb []).size:Nat):Int)==0)=true:=rfl;refine d9l w1 100 (by kernel_rfl) ?_;refine nwI e1 ?_;refine gwI kT ?_;refine ifI ?_;refine sR 200 ?_;refine rtI ?_;exact a0a rfl IsPure.out
 | [c],hl,hsz,cd =>
  have e1:((((sb [c]).size:Nat):Int)==0)=false:=rfl;have e2:decide ((((sb [c]).size:Nat):Int)>1)=false:=rfl;have ep:a1n [c]=[c].all a0C:=by
   unfold a1n c5d
   by_cases h:c=48
   ·subst h;rfl
   ·simp [h]
  rw [ep];refine d9l w1 100 (by kernel_rfl) ?_;refine nwI e1 ?_;refine gwI kF ?_;simp only [e2];refine gwI kF ?_;refine ifI ?_;refine skI ?_;refine sR 300 ?_;refine cI cd ?_;refine rtI ?_;exact a0a rfl IsPure.out
 | c::d::l,hl,hsz,cd =>
  have hs2:(sb (c::d::l)).size=l.length+2:=hsz;have e1:((((sb (c::d::l)).size:Nat):Int)==0)=false:=e0g.2 (by omega);have e2:decide ((((sb (c::d::l)).size:Nat):Int)>1)=true:=d9S (by omega);have e3:((((c::d::l).getD (Int.toNat 0) 0).toNat:Int)==48)=decide (c=48):=b8W c;have ep:a1n (c::d::l)=if c=48 then false else (c::d::l).all a0C:=by
   unfold a1n c5d
   by_cases h:c=48
   ·subst h;simp
   ·simp [h]
  rw [ep];refine d9l w1 100 (by kernel_rfl) ?_;refine nwI e1 ?_;refine gwI (ff2 kF e2) ?_;refine gwI (ff4 kT e2 e3 kF) ?_
  by_cases h:c=48
  ·rw [d9S h,d9P h]
   refine ifI ?_;refine sR 200 ?_;refine rtI ?_;exact a0a rfl IsPure.out
  ·rw [d9U h,d9Q h]
   refine ifI ?_;refine skI ?_;refine sR 300 ?_;refine cI cd ?_;refine rtI ?_;exact a0a rfl IsPure.out
def d2B (r:Rat):Bool:=decide (600<(Lib.decDigits r.num.natAbs).length)||decide (600<(Lib.decDigits r.den).length)
theorem b8D (l:List UInt8):a0f l=(a2u l).length:=by
 have:=a2K l
 unfold a2u;rw [e0n];omega
theorem a6Y (l:List UInt8):a2u (a0n l)=a0N l/\a1I (a0n l)=a1I l/\a4J (a0n l)=a4J l/\decide (a2u l=[45,48])=(a2g l&&decide (a0N l=[48])):=by
 cases hb:a2g l
 ·have ed:a0n l=l:=by unfold a0n;rw [hb];rfl
  have en:a2g (a2u l)=false:=by
   unfold a2u;cases l with
   | nil=>rfl
   | cons c l =>
    cases hk:a0f (c::l) with
    | zero=>rfl
    | succ k=>exact hb
  have es:a0N l=a2u l:=by unfold a0N a0n;rw [en];rfl
  rw [ed,es];refine ⟨rfl,rfl,rfl,?_⟩;rw [e2r];refine d9U fun h=>?_
  rw [h] at en;cases en
 ·cases l with
  | nil=>cases hb
  | cons c m =>
   have hc:c=45:=by simpa [a2g] using hb
   subst hc;have ed:a0n (45::m)=m:=rfl;have e1:a0f (45::m)=a0f m+1:=by
    unfold a0f;rw [e3d,d9P (by decide),d9Y]
   have e2:a2u (45::m)=45::a2u m:=by unfold a2u;rw [e1,List.take_succ_cons]
   have e3:a1I (45::m)=a1I m:=by unfold a1I;rw [e1,e2J]
   have e4:a4J (45::m)=a4J m:=by unfold a4J;rw [e1,d9Y];exact e0O.2 (by omega)
   have e5:a0N (45::m)=a2u m:=by unfold a0N;rw [e2];rfl
   rw [ed,e2,e3,e4,e5];refine ⟨rfl,rfl,rfl,?_⟩;rw [e1J];exact e0O.2 (by simp)
theorem a5E (l:List UInt8):a4k l=((!a1n (a0N l)||(a2g l&&decide (a0N l=[48])))||(a4J l&&(!a1n (a1I l)||decide (a1I l=[48])||decide (a1I l=[49])))):=by
 unfold a4k;rw [(a6Y l).2.2.2]
theorem c3T {l:List UInt8}(h:a1n l=true):l≠[]:=(a2T h).1
theorem c5y {l:List UInt8}(h:0<l.length):(((l.getD (Int.toNat 0) 0).toNat:Int)==45)=a2g l:=by
 cases l with
 | nil=>cases h
 | cons c l=>exact a8i c l
theorem b0z (l:List UInt8)(hl:l.length<=100000):a0b C0 56 [str (sb l)] (i64 (chk l)):=by
 refine a0c.walk w1 d5j rfl fun F=>?_
 have hsz:=a0x l;obtain ⟨p1,p2,p3,-⟩:=a6Y l;have hdl:(a0n l).length<=l.length:=by
  unfold a0n;split
  ·rw [e1a];omega
  ·exact d9Z _
 have hbf:=a5E l;have hchk1:(!a1n (a0N l)||(a2g l&&decide (a0N l=[48])))=true->chk l=1:=fun h=>by
  unfold chk;rw [hbf,h,Bool.true_or,d9P rfl]
 have hchk2:(a4J l&&(!a1n (a1I l)||decide (a1I l=[48])||decide (a1I l=[49])))=true->chk l=1:=fun h=>by
  unfold chk;rw [hbf,h,Bool.or_true,d9P rfl]
 have hne:a1n (a0N l)=true->0<l.length:=fun h=>by
  cases l with
  | nil=>exact d9R rfl (c3T h)
  | cons c l=>rw [d9Y];omega
 refine sR 0 ?_;refine sR 100 ?_;refine d9A (α:=Nat) (fun n=>⟨[(0,str (sb l)),(3,str (sb (a0n l)))],[],n⟩) (fun _=>True) ?_ ?_
 ·rcases e0N l.length with h0|h0
  ·have e0:l=[]:=e0R h0
   have e1:decide (((sb []).size:Int)>0)=false:=rfl;have ed:a0n l=l:=by rw [e0];rfl
   rw [ed,e0];refine sZ 200 ?_;refine nwI e1 ?_;refine gwI kF ?_;refine ifI ?_;refine skI ?_;exact ⟨rfl,_,trivial,wkI⟩
  ·have e0:decide (((sb l).size:Int)>0)=true:=d9S (by omega)
   have e1:=c5y h0;refine sZ 200 ?_;refine gwI e0 ?_;refine gwI (ff3 kT e0 e1) ?_;cases hb:a2g l
   ·have ed:a0n l=l:=by unfold a0n;rw [hb];rfl
    rw [ed];refine ifI ?_;refine skI ?_;exact ⟨rfl,_,trivial,wkI⟩
   ·have ed:a0n l=l.drop 1:=by unfold a0n;rw [hb];rfl
    have ee:(sb l).extract (Int.toNat 1) l.length=sb (a0n l):=by
     rw [a2r,e0k (d9Z _),ed];rfl
    refine ifI ?_;refine d9l w1 300 (by kernel_rfl) ?_;refine gwI (ff2 hsz kN) ?_;rw [ee];exact ⟨trivial,_,trivial,wkI⟩
 rintro n0 -;have cs:=b5n (a0n l) (by omega);have hle:=a2K (a0n l);have hszS:=a0x (a0n l);have hhs:a4J l=decide (a0f (a0n l)<(a0n l).length):=p3.symm;have e10:(sb (a0n l)).extract 0 (a0f (a0n l))=sb (a0N l):=by rw [<- p1,a2r,e1C];rfl
 have e11:(sb (a0n l)).extract (a0f (a0n l)+1) (a0n l).length=sb (a1I l):=by rw [<- p2,a2r,e0k (d9Z _)];rfl
 have hNl:a0f (a0n l)=(a0N l).length:=by rw [<- p1];exact b8D _
 have hDl:(a1I l).length=(a0n l).length - (a0f (a0n l)+1):=by rw [<- p2];unfold a1I;rw [e1a]
 have pp:=fun h1 h2=>b0a (a0n l) h1 h2 (by omega)
 unfold c9a d1u at pp;rw [p1,p2,p3] at pp;have edef:chk l=if a4k l then 1 else if 600<(a0N l).length\/600<(a1I l).length then 4 else if a4J l=true/\Nat.gcd (dv (a0N l)) (dv (a1I l))≠1 then 1 else 0:=rfl
 rw [hbf] at edef;generalize hN:a0N l=Nn at *;generalize hD:a1I l=Dn at *;generalize hH:a4J l=hv at *;generalize hK:chk l=Kn at *;generalize a0n l=Sn at *;generalize a0f Sn=k at *;clear p1 p2 p3 hbf hN hD hH hK;have cf:=c4W Nn (by omega);have cf2:=c4W Dn (by omega);have q0:=a5N Nn [48];have q1:=a5N Dn [48];have q2:=a5N Dn [49];refine sR 400 ?_;refine cI cs ?_;refine d9A (α:=Nat) (fun n=>⟨[(0,str (sb l)),(3,str (sb Sn)),(4,i64 (k:Int))],[],n⟩) (fun _=>(!a1n Nn||(a2g l&&decide (Nn=[48])))=false) ?_ ?_
 ·refine sZ 500 ?_
  refine gwI (ff2 hszS kN) ?_;refine gwI e10 ?_;cases hp:a1n Nn
  ·rw [hp] at cf
   refine a0j.same _ cf d9O ?_;refine stI ?_;simp only [e0S];refine gwI kT ?_;refine ifI ?_;refine sR 600 ?_;refine rtI ?_;exact a0a (by rw [hchk1 (by rw [hp];rfl)];rfl) IsPure.out
  ·rw [hp] at cf
   have hl0:=hne hp;have e1:=c5y hl0;refine a0j.same _ cf d9O ?_;refine stI ?_;simp only [e0V];refine gwI (ff3 kF hsz e1) ?_;have q0':a1z (sb Nn) ⟨#[48]⟩=decide (Nn=[48]):=q0;cases hb:a2g l
   ·refine gwI kF ?_
    refine ifI ?_;refine skI ?_;exact ⟨rfl,_,rfl,wkI⟩
   ·refine gwI (ff4 kT kF hszS kN) ?_
    refine gwI (ff4 kT kF e10 q0') ?_
    by_cases h0:Nn=[48]
    ·rw [d9S h0]
     refine ifI ?_;refine sR 600 ?_;refine rtI ?_;exact a0a (by rw [hchk1 (by simp [hp,hb,h0])];rfl) IsPure.out
    ·rw [d9U h0]
     refine ifI ?_;refine skI ?_;exact ⟨rfl,_,by simp,wkI⟩
 rintro n1 hb1;clear hchk1 hne cf q0;refine d9A (α:=Nat) (fun n=>⟨[(0,str (sb l)),(3,str (sb Sn)),(4,i64 (k:Int))],[],n⟩) (fun _=>(hv&&(!a1n Dn||decide (Dn=[48])||decide (Dn=[49])))=false) ?_ ?_
 ·cases hv
  ·have e40:decide ((k:Int)<(Sn.length:Int))=false:=d9U (by have:=e0i hhs.symm;omega)
   refine sZ 700 ?_;refine nwI (ff2 hszS e40) ?_;refine gwI kF ?_;refine ifI ?_;refine skI ?_;exact ⟨rfl,_,rfl,wkI⟩
  ·have hkl:=e0p hhs.symm
   have e40:decide ((k:Int)<(Sn.length:Int))=true:=d9S (by omega);have wk:IntKind.i64.wrap ((k:Int)+1)=((k+1:Nat):Int):=wI (by omega) (by omega);have q1':a1z (sb Dn) ⟨#[48]⟩=decide (Dn=[48]):=q1;have q2':a1z (sb Dn) ⟨#[49]⟩=decide (Dn=[49]):=q2;refine sZ 700 ?_;refine nwI (ff2 hszS e40) ?_;refine gwI (ff4 kT wk hszS kN) ?_;simp only [e11];refine gcI kT ?_;cases hp:a1n Dn
   ·rw [hp] at cf2
    refine a0j.same _ cf2 d9O ?_;refine gwI kB ?_;refine gwI kT ?_;refine ifI ?_;refine sR 800 ?_;refine rtI ?_;exact a0a (by rw [hchk2 (by simp [hp])];rfl) IsPure.out
   ·rw [hp] at cf2
    have e12:(sb Sn).extract (IntKind.i64.wrap ((k:Int)+1)).toNat (sb Sn).size=sb Dn:=by rw [wk,hszS,e2j];exact e11
    refine a0j.same _ cf2 d9O ?_;refine gwI kB ?_;simp only [e12,q1']
    by_cases h48:Dn=[48]
    ·rw [d9S h48]
     refine gwI kT ?_;refine ifI ?_;refine sR 800 ?_;refine rtI ?_;exact a0a (by rw [hchk2 (by simp [h48])];rfl) IsPure.out
    ·rw [d9U h48]
     refine gwI kB ?_;simp only [e12,q2']
     by_cases h49:Dn=[49]
     ·rw [d9S h49]
      refine ifI ?_;refine sR 800 ?_;refine rtI ?_;exact a0a (by rw [hchk2 (by simp [h49])];rfl) IsPure.out
     ·rw [d9U h49]
      refine ifI ?_;refine skI ?_;exact ⟨rfl,_,by simp,wkI⟩
 rintro n2 hb2;clear hchk2 cf2 q1 q2 e10 e11 hsz;have hpN:a1n Nn=true:=by
  cases h:a1n Nn
  ·rw [h] at hb1;simp at hb1
  ·rfl
 have hpD:hv=true->a1n Dn=true:=fun h0=>by
  cases h:a1n Dn
  ·rw [h,h0] at hb2;simp at hb2
  ·rfl
 rw [hb1,hb2] at edef;rw [d9Q (by decide)] at edef;have wl1:IntKind.i64.wrap ((Sn.length:Int) - (k:Int))=(Sn.length:Int) - (k:Int):=wI (by omega) (by omega);have wl2:IntKind.i64.wrap ((Sn.length:Int) - (k:Int) - 1)=(Sn.length:Int) - (k:Int) - 1:=wI (by omega) (by omega);have e91:decide ((Sn.length:Int) - (k:Int) - 1>600)=decide (600<Dn.length):=e0O.2 (by omega);refine d9A (α:=Nat) (fun n=>⟨[(3,str (sb Sn)),(4,i64 (k:Int))],[],n⟩) (fun _=>Nn.length<=600/\Dn.length<=600) ?_ ?_
 ·by_cases g1:600<k
  ·have e9:decide ((k:Int)>600)=true:=d9S (by omega)
   rw [d9P (.inl (by omega))] at edef;refine sZ 900 ?_;refine nwI e9 ?_;refine gwI kT ?_;refine ifI ?_;refine sR 1000 ?_;refine rtI ?_;exact a0a (by rw [edef];rfl) IsPure.out
  ·have e9:decide ((k:Int)>600)=false:=d9U (by omega)
   refine sZ 900 ?_;refine nwI e9 ?_;refine gwI (ff5 kF hszS wl1 wl2 e91) ?_
   by_cases g2:600<Dn.length
   ·rw [d9P (.inr g2)] at edef
    rw [d9S g2];refine ifI ?_;refine sR 1000 ?_;refine rtI ?_;exact a0a (by rw [edef];rfl) IsPure.out
   ·rw [d9U g2]
    refine ifI ?_;refine skI ?_;exact ⟨rfl,_,⟨by omega,by omega⟩,wkI⟩
 rintro n3 ⟨g1,g2⟩;rw [d9Q (by omega)] at edef;clear e91 wl1 wl2 hb1 hb2;obtain ⟨-,dN⟩:=a2T hpN;refine d9A (α:=Nat) (fun n=>⟨[],[],n⟩) (fun _=>Kn=0) ?_ ?_
 ·cases hv
  ·have e40:decide ((k:Int)<(Sn.length:Int))=false:=d9U (by have:=e0i hhs.symm;omega)
   rw [d9Q (by simp)] at edef;refine sZ 1100 ?_;refine nwI (ff2 hszS e40) ?_;refine ifI ?_;refine skI ?_;exact ⟨rfl,_,edef,wkI⟩
  ·have hkl:=e0p hhs.symm
   have e40:decide ((k:Int)<(Sn.length:Int))=true:=d9S (by omega);obtain ⟨-,dD⟩:=a2T (hpD rfl);have pa:=pp (by rw [a2a dN];exact dN) (by rw [a2a dD];exact dD);rw [d9P rfl,b0L dN,b0L dD] at pa;have lN:(a0s (dv Nn)).length<1000000:=e0I (a1E (e0E (a6a Nn dN) (e3e (by decide) Nn.length))) (by omega);have lD:(a0s (dv Dn)).length<1000000:=e0I (a1E (e0E (a6a Dn dD) (e3e (by decide) Dn.length))) (by omega);have cg:a0b C0 108 [rD ((dv Nn:Int)).natAbs,rD ((dv Dn:Int)).natAbs] (.sl false 1 ((a0s (Nat.gcd (dv Nn) (dv Dn))).map a0t)):=b6w (dv Nn) (dv Dn) lN lD;have ht:=b6e (Nat.gcd (dv Nn) (dv Dn));have ed1:Nat.gcd (dv Nn) (dv Dn)≠1->Kn=1:=fun h=>by rw [d9P ⟨rfl,h⟩] at edef;exact edef
   have ed0:Nat.gcd (dv Nn) (dv Dn)=1->Kn=0:=fun h=>by rw [d9Q (fun hh=>hh.2 h)] at edef;exact edef
   clear edef;generalize Nat.gcd (dv Nn) (dv Dn)=gg at *;refine sZ 1100 ?_;refine nwI (ff2 hszS e40) ?_;refine ifI ?_;refine sR 1200 ?_;refine cI pa ?_;refine sR 1300 ?_;refine cI cg ?_;rcases ht with ⟨t1,a,ha,t2⟩|⟨t1,t2⟩
   ·have ha':=a7J ha
    have t1n:((((a0s gg).map a0t).length:Int) != 1)=false:=by unfold bne;rw [t1];rfl
    have t2n:((a:Int) != 1) = !decide (gg=1):=by unfold bne;rw [t2]
    refine sZ 1400 ?_;refine nwI t1n ?_;refine gwI kF ?_;refine ixI kF ha' ?_;refine gwI (ff2 kF t2n) ?_
    by_cases hg1:gg=1
    ·rw [d9S hg1]
     refine ifI ?_;refine skI ?_;exact ⟨rfl,_,ed0 hg1,wkI⟩
    ·rw [d9U hg1]
     refine ifI ?_;refine sR 1500 ?_;refine rtI ?_;exact a0a (by rw [ed1 hg1];rfl) IsPure.out
   ·have edf:=ed1 t2
    have t1n:((((a0s gg).map a0t).length:Int) != 1)=true:=by unfold bne;rw [t1];rfl
    refine sZ 1400 ?_;refine nwI t1n ?_;refine gwI kT ?_;refine ifI ?_;refine sR 1500 ?_;refine rtI ?_;exact a0a (by rw [edf];rfl) IsPure.out
 rintro n4 h0;refine sR 1600 ?_;refine rtI ?_;exact a0a (by rw [h0];rfl) IsPure.out
theorem c3j {n k:Nat}(hn:n≠0)(hk:k<10):Lib.decDigits (n*10+k)=Lib.decDigits n++[UInt8.ofNat (48+k)]:=by
 rw [Lib.decDigits,dif_neg (by omega)]
 congr 2
 ·omega
 ·congr 2;omega
theorem b6F {c:UInt8}(h:a0C c=true):UInt8.ofNat (48+(c.toNat - 48))=c:=by
 obtain ⟨h1,h2⟩:=a2J h;rw [<- UInt8.toNat_inj,a8j _ (by omega)];omega
theorem c7y (l:List UInt8)(c:UInt8):dv (l++[c])=dv l*10+(c.toNat - 48):=by
 rw [a5m];simp [dv,dvF]
theorem d3g:∀ (n:Nat) (l:List UInt8),l.length=n->l≠[]->l.all a0C=true->l.head? ≠ some 48->dv l≠0/\Lib.decDigits (dv l)=l:=fun n=>by
 induction n with
 | zero=>intro l h0 h1;exact d9R (e0R h0) h1
 | succ n ih =>
  intro l h0 h1 h2 h3;rcases e3k l with rfl|⟨m,c,rfl⟩
  ·exact d9R rfl h1
  ·rw [e3l] at h0 h1 h2 h3 ⊢
   rw [e2F,e0f] at h2;have hc:a0C c=true:=by simpa using h2.2
   obtain ⟨c1,c2⟩:=a2J hc;rw [c7y]
   by_cases hm:m=[]
   ·subst hm
    have hc48:c≠48:=fun h=>h3 (by rw [h];rfl)
    have hcn:c.toNat≠48:=fun h=>hc48 (UInt8.toNat_inj.1 h)
    have e0:dv []*10+(c.toNat - 48)=c.toNat - 48:=by simp [dv,dvF]
    rw [e0];refine ⟨by omega,?_⟩;rw [Lib.decDigits,dif_pos (by omega),b6F hc];rfl
   ·have hh:m.head? ≠ some 48:=by
     cases m with
     | nil=>exact d9R rfl hm
     | cons a m=>exact h3
    obtain ⟨i1,i2⟩:=ih m (by rw [e0x,e1u] at h0;omega) hm h2.1 hh;refine ⟨by omega,?_⟩;rw [c3j i1 (by omega),i2,b6F hc]
theorem a8E {l:List UInt8}(h:a1n l=true):Lib.decDigits (dv l)=l/\(l≠[48]->dv l≠0):=by
 obtain ⟨h1,h2⟩:=a2T h
 by_cases h0:l=[48]
 ·subst h0
  refine ⟨?_,fun hh=>d9R rfl hh⟩;show Lib.decDigits 0=[48];rw [Lib.decDigits,dif_pos (by decide)];rfl
 ·have h3:l.head? ≠ some 48:=by
   unfold a1n at h;rw [e0f,d9U h0,Bool.false_or] at h
   have:=h.2
   simpa using this
  obtain ⟨a,b⟩:=d3g _ l rfl h1 h2 h3;exact ⟨b,fun _=>a⟩
theorem b5q:∀ {l:List UInt8},a0f l<l.length->l.drop (a0f l)=47::l.drop (a0f l+1)
 | [],h=>by cases h
 | c::l,h=>by
  by_cases hc:c=47
  ·subst hc;rfl
  ·have e1:a0f (c::l)=a0f l+1:=by
    unfold a0f;rw [e3d,d9P (by simpa using hc),d9Y]
   rw [e1,d9Y] at h;rw [e1,e2J,e2J];exact b5q (by omega)
def b6z (l:List UInt8):Nat:=if a4J l then dv (a1I l) else 1
def a0d (l:List UInt8):Rat:=mkRat (rv (a2u l)) (b6z l)
theorem b8i {n:Int}{d:Nat}(hd:d≠0)(h:Nat.gcd n.natAbs d=1):(mkRat n d).num=n/\(mkRat n d).den=d:=by
 obtain ⟨q1,q2⟩:=b1D (x:=n) hd;rw [h,Nat.div_one] at q1 q2;rw [b5u] at q1;exact ⟨q1,q2⟩
theorem b1x {l:List UInt8}(h:chk l=0):a4k l=false/\(a0N l).length<=600/\(a1I l).length<=600/\(a4J l=true->Nat.gcd (dv (a0N l)) (dv (a1I l))=1):=by
 unfold chk at h;cases hb:a4k l
 ·rw [hb,d9Q (by decide)] at h
  split at h
  ·cases h
  ·rename_i h1
   split at h
   ·cases h
   ·rename_i h2
    refine ⟨rfl,by omega,by omega,fun h3=>?_⟩;rcases Nat.decEq (Nat.gcd (dv (a0N l)) (dv (a1I l))) 1 with h4|h4
    ·exact d9R ⟨h3,h4⟩ h2
    ·exact h4
 ·rw [hb,d9P rfl] at h;cases h
theorem a2y {l:List UInt8}(h:chk l=0):(a0d l).num=rv (a2u l)/\(a0d l).den=b6z l/\txt (a0d l)=l/\(rv (a2u l)).natAbs=dv (a0N l):=by
 obtain ⟨h1,h2,h3,h4⟩:=b1x h;rw [a5E] at h1;simp only [e2b] at h1;obtain ⟨⟨b1,b2⟩,b3⟩:=h1;have p1:a1n (a0N l)=true:=by simpa using b1
 obtain ⟨d1,d2⟩:=a8E p1;have hab:(rv (a2u l)).natAbs=dv (a0N l):=by
  show (rv (a2u l)).natAbs=dv (a0n (a2u l));unfold rv;split<;>omega
 have hdd:a4J l=true->a1n (a1I l)=true/\a1I l≠[48]/\a1I l≠[49]:=fun hs=>by
  rw [hs,e1J] at b3;simp only [e2b] at b3;exact ⟨by simpa using b3.1.1,e0i b3.1.2,e0i b3.2⟩
 have hd0:b6z l≠0:=by
  unfold b6z;cases hs:a4J l
  ·simp
  ·obtain ⟨e1,e2,e3⟩:=hdd hs
   simpa using (a8E e1).2 e2
 have hg:Nat.gcd (rv (a2u l)).natAbs (b6z l)=1:=by
  rw [hab];unfold b6z;cases hs:a4J l
  ·simp
  ·simpa using h4 hs
 obtain ⟨m1,m2⟩:=b8i hd0 hg;refine ⟨m1,m2,?_,hab⟩;have hi:Lib.itoa (rv (a2u l))=a2u l:=by
  cases hb:a2g (a2u l)
  ·have e1:a0N l=a2u l:=by unfold a0N a0n;rw [hb];rfl
   rw [e1] at d1;have e2:rv (a2u l)=(dv (a2u l):Int):=by unfold rv a0n;rw [hb];rfl
   rw [e2];unfold Lib.itoa;rw [d9Q (by omega)];exact d1
  ·obtain ⟨m,hm⟩:∃ m,a2u l=45::m:=by
    cases hn:a2u l with
    | nil=>rw [hn] at hb;cases hb
    | cons c m =>
     rw [hn] at hb;exact ⟨m,by rw [show c=45 by simpa [a2g] using hb]⟩
   have e1:a0N l=m:=by unfold a0N;rw [hm];rfl
   have hne:a0N l≠[48]:=fun h=>by
    have:=(a6Y l).2.2.2
    rw [b2,hm] at this;have h2:=e0i this;rw [e1] at h;exact h2 (by rw [h])
   have hpos:=d2 hne;rw [e1] at d1 hpos;have e2:rv (a2u l) = -(dv m:Int):=by rw [hm];rfl
   rw [e2];unfold Lib.itoa;rw [d9P (by omega),e3f,e1d,d1,hm]
 unfold txt;rw [show (a0d l).num=rv (a2u l) from m1,show (a0d l).den=b6z l from m2,hi];have hle:=a2K l;cases hs:a4J l
 ·have e1:b6z l=1:=by unfold b6z;rw [hs];rfl
  have e2:=e0i (p:=a0f l<l.length) hs;rw [d9P e1];unfold a2u;exact e0k (by omega)
 ·obtain ⟨e1,e2,e3⟩:=hdd hs
  have e4:b6z l=dv (a1I l):=by unfold b6z;rw [hs];rfl
  have e5:=(a8E e1).1;have e6:dv (a1I l)≠1:=fun h=>by
   rw [h,Lib.decDigits,dif_pos (by decide)] at e5;exact e3 e5.symm
  rw [e4,d9Q e6,e5];unfold a2u a1I;rw [<- b5q (e0p hs),e1j]
theorem a4q {l:List UInt8}(h:chk l=0):(a0N l).all a0C=true/\(a4J l=true->(a1I l).all a0C=true):=by
 obtain ⟨h1,-,-,-⟩:=b1x h;rw [a5E] at h1;simp only [e2b] at h1;obtain ⟨⟨b1,-⟩,b3⟩:=h1;refine ⟨(a2T (by simpa using b1)).2,fun hs=>?_⟩;rw [hs,e1J] at b3;simp only [e2b] at b3;exact (a2T (by simpa using b3.1.1)).2
theorem b0p {l:List UInt8}(h:chk l=0):rk (a0d l) 600:=by
 obtain ⟨m1,m2,-,m4⟩:=a2y h;obtain ⟨-,h2,h3,-⟩:=b1x h;obtain ⟨p1,p2⟩:=a4q h;have hb:∀ k,(10:Nat)^k<=BB^k:=fun k=>e3e (by decide) k
 refine ⟨?_,?_⟩
 ·rw [m1,m4]
  exact e0A (a1f (e0E (a6a _ p1) (hb _))) h2
 ·rw [m2]
  unfold b6z;cases hs:a4J l
  ·exact e0A (a1f (n:=1) (k:=1) (by decide)) (by decide)
  ·exact e0A (a1f (e0E (a6a _ (p2 hs)) (hb _))) h3
theorem a3F {l:List UInt8}(h:chk l=0):FR (a0d l) (a0q l) 600:=by
 obtain ⟨m1,m2,-,-⟩:=a2y h;refine ⟨⟨a1k _,?_,?_⟩,b0p h⟩
 ·show (mkG (rv (a2u l))).z=_
  rw [a3L,m1]
 ·show (if a4J l then dv (a1I l) else 1)=_
  rw [m2];rfl
theorem a9j {l:List UInt8}(hl:l.length<=100000)(h:chk l=0):a0b C0 75 [str (sb l)] (a0q l).D:=c7j l hl (a4q h).1 (a4q h).2
def b1o (lo hi:List UInt8):Nat:=if chk lo≠0 then chk lo else if chk hi≠0 then chk hi else if a1e (a0d lo) (a0d hi)>0 then 11 else 0
def a2X:List (List UInt8)->Nat
 | []=>0
 | l::r=>if chk l≠0 then chk l else a2X r
theorem a6g {v:List (List UInt8)}{i:Nat}(h:∀ (j:Nat) (l:List UInt8),j<i->v[j]? = some l->chk l=0):a2X v=a2X (v.drop i):=by
 induction i generalizing v with
 | zero=>rfl
 | succ i ih =>
  cases v with
  | nil=>rfl
  | cons l r =>
   have h0:=h 0 l (Nat.succ_pos i) rfl;rw [e2J];show (if chk l≠0 then chk l else a2X r)=_;rw [d9Q (fun hh=>hh h0)];exact ih fun j m hj hm=>h (j+1) m (by omega) hm
theorem d6x (lo hi:List UInt8)(h1:lo.length<=100000)(h2:hi.length<=100000):a0b C0 18 [.agg [str (sb lo),str (sb hi)]] (i64 (b1o lo hi)):=by
 refine a0c.walk w1 d5z rfl fun F=>?_
 have c1:=b0z lo h1;have c2:=b0z hi h2;unfold b1o;refine sR 0 ?_;refine sR 100 ?_;refine cI c1 ?_
 by_cases g1:chk lo=0
 ·have e8:(((chk lo:Nat):Int)==0)=true:=by rw [g1];rfl
  rw [d9Q (fun h=>h g1)];refine d9A (α:=Nat) (fun n=>⟨[(1,.optr 0 0 2 0 0),(3,i64 (chk hi:Int))],[⟨0,0,40,2,[.agg [str (sb lo),str (sb hi)]]⟩],n⟩) (fun _=>True) ?_ ?_
  ·refine sZ 200 ?_
   refine nwI e8 ?_;refine ifI ?_;refine rI 300 ?_;refine cI c2 ?_;exact ⟨rfl,_,trivial,wkI⟩
  rintro n0 -
  by_cases g2:chk hi=0
  ·have e9:(((chk hi:Nat):Int)==0)=true:=by rw [g2];rfl
   have cc:=d6P (a0d lo) (a0d hi) 600 600 (b0p g1) (b0p g2) (by decide);rw [d9Q (fun h=>h g2)];unfold rR at cc;rw [(a2y g1).2.2.1,(a2y g2).2.2.1] at cc;refine OkS.seq ?_;refine sZ 400 ?_;refine nwI e9 ?_;refine gwI kT ?_;refine gcI kT ?_;refine a0j.same _ cc d9O ?_;refine gwI kT ?_
   by_cases g3:a1e (a0d lo) (a0d hi)>0
   ·rw [d9S g3,d9P g3]
    refine ifI ?_;refine sR 500 ?_;refine rtI ?_;exact a0a rfl IsPure.out
   ·rw [d9U g3,d9Q g3]
    refine ifI ?_;refine skI ?_;refine sR 600 ?_;refine rtI ?_;exact a0a (by rw [g2]) IsPure.out
  ·have e9:(((chk hi:Nat):Int)==0)=false:=e0g.2 (by omega)
   rw [d9P g2];refine OkS.seq ?_;refine sZ 400 ?_;refine nwI e9 ?_;refine gwI kF ?_;refine ifI ?_;refine skI ?_;refine sR 600 ?_;refine rtI ?_;exact a0a rfl IsPure.out
 ·have e8:(((chk lo:Nat):Int)==0)=false:=e0g.2 (by omega)
  rw [d9P g1];refine OkS.seq ?_;refine sZ 200 ?_;refine nwI e8 ?_;refine ifI ?_;refine skI ?_;refine OkS.seq ?_;refine sZ 400 ?_;refine nwI e8 ?_;refine gwI kF ?_;refine ifI ?_;refine skI ?_;refine sR 600 ?_;refine rtI ?_;exact a0a rfl IsPure.out
theorem d7N (v:List (List UInt8))(hv:∀ l∈v,l.length<=100000)(hl:v.length<=1000000):a0b C0 131 [.sl false 1 (v.map fun l=>str (sb l))] (i64 (a2X v)):=by
 refine a0c.walk w1 d1N rfl fun F=>?_
 have el:(((v.map fun l=>str (sb l)).length:Nat):Int)=(v.length:Int):=by rw [d9X]
 refine sR 0 ?_;refine OkS.seq ?_;refine sR 100 ?_;refine OkS.block ?_;refine OkS.loop (α:=Nat × Nat) (fun p=>⟨[(0,.sl false 1 (v.map fun l=>str (sb l))),(3,i64 (p.1:Int))],[],p.2⟩) (fun p=>v.length - p.1) (fun p=>p.1<=v.length/\∀ (j:Nat) (l:List UInt8),j<p.1->v[j]? = some l->chk l=0) (0,_) ⟨e0y _,fun j l hj=>d9R hj (e1i j)⟩ wkI ?_;rintro ⟨i,n⟩ F ⟨hi,ha⟩;dsimp only at hi ha ⊢;refine OkS.seq ?_;refine sZ 200 ?_;refine nwI el ?_;refine ifI ?_
 (refine brI (fun hlt=>?_) (fun hlt=>?_))<;>(try simp only [e0a,e0c] at hlt)<;>(try simp only [hlt])
 ·have hi2:i<v.length:=by
   have:=e0p hlt
   omega
  obtain ⟨l,hl'⟩:∃ l,v[i]? = some l:=⟨v[i],d9W hi2⟩
  have hm:(v.map fun l=>str (sb l))[i]? = some (str (sb l)):=by rw [e0l,hl'];rfl
  have cl:=b0z l (hv l (d9V hl'));have hd:a2X v=a2X (v.drop i):=a6g ha;have hdd:v.drop i=l::v.drop (i+1):=by
   rw [e0P hi2];rw [d9W hi2] at hl';rw [e2e hl']
  have wi:IntKind.i64.wrap ((i:Int)+1)=((i+1:Nat):Int):=wI (by omega) (by omega);refine skI ?_;refine OkS.seq ?_;refine OkS.block ?_;refine sZ 400 ?_;refine gwI kN ?_;refine ixI kT hm ?_;refine gwI kN ?_;refine a0j.same _ cl d9O ?_;refine stI ?_
  by_cases g:chk l=0
  ·have e5:(((chk l:Nat):Int) != 0)=false:=by rw [g];rfl
   refine sZ 500 ?_;refine nwI e5 ?_;refine ifI ?_;refine skI ?_;refine d9l w1 300 (by kernel_rfl) ?_;refine nwI wi ?_;refine ⟨(i+1,_),⟨hi2,fun j m hj hjm=>?_⟩,by dsimp only;omega,wkI⟩;rcases e0j j i with h|h
   ·exact ha j m h hjm
   ·have:j=i:=by dsimp only at hj;omega
    subst this;rw [hl'] at hjm;cases hjm;exact g
  ·have e5:(((chk l:Nat):Int) != 0)=true:=by
    have:(((chk l:Nat):Int)==0)=false:=e0g.2 (by omega)
    unfold bne;rw [this];rfl
   refine sZ 500 ?_;refine nwI e5 ?_;refine ifI ?_;refine sR 600 ?_;refine rtI ?_;refine a0a ?_ IsPure.out;rw [hd,hdd];show _=i64 ((if chk l≠0 then chk l else a2X (v.drop (i+1)):Nat):Int);rw [d9P g]
 ·have hi2:i=v.length:=by
   have:=e0i hlt
   omega
  subst hi2;refine exI ?_;refine sR 700 ?_;refine rtI ?_;refine a0a ?_ IsPure.out;rw [a6g ha,e1p (d9Z _)];rfl
theorem c1Q (c:Nat):(97<=c/\c<=122)\/(122<c)\/(65<=c/\c<=90)\/((91<=c/\c<=96)/\c≠95)\/(c=95)\/(58<=c/\c<=64)\/(48<=c/\c<=57)\/(c<48/\c≠45/\c≠46)\/(c=45)\/(c=46):=by omega
theorem d2J (l:List UInt8)(hl:l.length<=1000000):a0b C0 125 [str (sb l)] (boo (a1A l)):=by
 refine a0c.walk w1 c9O rfl fun F=>?_
 have hsz:=a0x l;refine sR 0 ?_;refine d9A (α:=Nat) (fun n=>⟨[(0,str (sb l))],[],n⟩) (fun _=>1<=l.length/\l.length<=24) ?_ ?_
 ·by_cases h1:l.length<1
  ·have e1:decide ((l.length:Int)<1)=true:=d9S (by omega)
   refine sZ 100 ?_;refine nwI (ff2 hsz e1) ?_;refine gwI kT ?_;refine ifI ?_;refine sR 200 ?_;refine rtI ?_;exact a0a (by unfold a1A;rw [d9U (show ¬ 1<=l.length by omega)];simp) IsPure.out
  ·have e1:decide ((l.length:Int)<1)=false:=d9U (by omega)
   have e2:decide ((l.length:Int)>24)=decide (24<l.length):=e0O.2 (by omega);refine sZ 100 ?_;refine nwI (ff2 hsz e1) ?_;refine gwI (ff3 kF hsz e2) ?_
   by_cases h2:24<l.length
   ·rw [d9S h2]
    refine ifI ?_;refine sR 200 ?_;refine rtI ?_;exact a0a (by unfold a1A;rw [d9U (show ¬ l.length<=24 by omega)];simp) IsPure.out
   ·rw [d9U h2]
    refine ifI ?_;refine skI ?_;exact ⟨rfl,_,⟨by omega,by omega⟩,wkI⟩
 rintro n0 ⟨l1,l2⟩;refine OkS.seq ?_;refine sR 300 ?_;refine OkS.block ?_;refine OkS.loop (α:=Nat × Nat) (fun p=>⟨[(0,str (sb l)),(3,i64 (p.1:Int))],[],p.2⟩) (fun p=>l.length - p.1) (fun p=>p.1<=l.length/\(l.take p.1).all (fun b=>a1K b.toNat)=true) (0,_) ⟨e0y _,rfl⟩ wkI ?_;rintro ⟨i,n⟩ F ⟨hi,ha⟩;dsimp only at hi ha ⊢;refine OkS.seq ?_;refine sZ 400 ?_;refine nwI hsz ?_;refine ifI ?_
 (refine brI (fun hlt=>?_) (fun hlt=>?_))<;>(try simp only [e0a,e0c] at hlt)<;>(try simp only [hlt])
 ·have hi2:i<l.length:=by
   have:=e0p hlt
   omega
  obtain ⟨c,hc⟩:∃ c,l[i]? = some c:=⟨l[i],d9W hi2⟩
  have hg:l.getD i 0=c:=by simp [hc]
  have wi:IntKind.i64.wrap ((i:Int)+1)=((i+1:Nat):Int):=wI (by omega) (by omega);refine skI ?_;refine OkS.seq ?_;refine OkS.block ?_;refine sZ 600 ?_;refine nwI (ff2 kN hg) ?_;have hcl:a1K c.toNat=false->a1A l=false:=fun h=>by
   unfold a1A;cases hall:l.all (fun b=>a1K b.toNat)
   ·rfl
   ·have:=e0B.1 hall c (d9V hc)
    rw [h] at this;cases this
  have hsn:a1K c.toNat=true->(l.take (i+1)).all (fun b=>a1K b.toNat)=true:=fun h=>by
   rw [e1F,hc,e2F,ha];simpa using h
  have hc9:c.toNat<256:=c.toNat_lt;generalize c.toNat=c at *;refine d9A (α:=Nat) (fun n=>⟨[(0,str (sb l)),(3,i64 (i:Int)),(56,boo (!a1K c))],[],n⟩) (fun _=>True) ?_ ?_
  ·clear hcl hsn
   rcases c1Q c with h|h|h|h|h|h|h|h|h|h
   ·skip
    have f1:decide ((c:Int)>=97)=true:=d9S (by omega);have f2:decide ((c:Int)<=122)=true:=d9S (by omega);have f3:decide ((c:Int)>=65)=true:=d9S (by omega);have f4:decide ((c:Int)<=90)=false:=d9U (by omega);have f5:decide ((c:Int)>=48)=true:=d9S (by omega);have f6:decide ((c:Int)<=57)=false:=d9U (by omega);have f7:((c:Int)==45)=false:=e0g.2 (by omega);have f8:((c:Int)==95)=false:=e0g.2 (by omega);have f9:((c:Int)==46)=false:=e0g.2 (by omega);have hnb:a1K c=true:=by
     unfold a1K;simp;omega
    rw [hnb];refine d9l w1 700 (by kernel_rfl) ?_;refine gwI kB ?_
    try simp only [f1,f2,f3,f4,f5,f6,f7,f8,f9]
    refine gwI kB ?_
    try simp only [f1,f2,f3,f4,f5,f6,f7,f8,f9]
    refine gwI kB ?_
    try simp only [f1,f2,f3,f4,f5,f6,f7,f8,f9]
    refine gwI kB ?_
    try simp only [f1,f2,f3,f4,f5,f6,f7,f8,f9]
    refine gwI kB ?_
    try simp only [f1,f2,f3,f4,f5,f6,f7,f8,f9]
    refine gwI kB ?_
    try simp only [f1,f2,f3,f4,f5,f6,f7,f8,f9]
    refine gwI kB ?_
    try simp only [f1,f2,f3,f4,f5,f6,f7,f8,f9]
    refine gwI kB ?_
    try simp only [f1,f2,f3,f4,f5,f6,f7,f8,f9]
    refine gwI kB ?_
    try simp only [f1,f2,f3,f4,f5,f6,f7,f8,f9]
    exact ⟨by first|exact d9N|rfl|simp,_,trivial,wkI⟩
   ·skip
    have f1:decide ((c:Int)>=97)=true:=d9S (by omega);have f2:decide ((c:Int)<=122)=false:=d9U (by omega);have f3:decide ((c:Int)>=65)=true:=d9S (by omega);have f4:decide ((c:Int)<=90)=false:=d9U (by omega);have f5:decide ((c:Int)>=48)=true:=d9S (by omega);have f6:decide ((c:Int)<=57)=false:=d9U (by omega);have f7:((c:Int)==45)=false:=e0g.2 (by omega);have f8:((c:Int)==95)=false:=e0g.2 (by omega);have f9:((c:Int)==46)=false:=e0g.2 (by omega);have hnb:a1K c=false:=by
     unfold a1K;simp;omega
    rw [hnb];refine d9l w1 700 (by kernel_rfl) ?_;refine gwI kB ?_
    try simp only [f1,f2,f3,f4,f5,f6,f7,f8,f9]
    refine gwI kB ?_
    try simp only [f1,f2,f3,f4,f5,f6,f7,f8,f9]
    refine gwI kB ?_
    try simp only [f1,f2,f3,f4,f5,f6,f7,f8,f9]
    refine gwI kB ?_
    try simp only [f1,f2,f3,f4,f5,f6,f7,f8,f9]
    refine gwI kB ?_
    try simp only [f1,f2,f3,f4,f5,f6,f7,f8,f9]
    refine gwI kB ?_
    try simp only [f1,f2,f3,f4,f5,f6,f7,f8,f9]
    refine gwI kB ?_
    try simp only [f1,f2,f3,f4,f5,f6,f7,f8,f9]
    refine gwI kB ?_
    try simp only [f1,f2,f3,f4,f5,f6,f7,f8,f9]
    refine gwI kB ?_
    try simp only [f1,f2,f3,f4,f5,f6,f7,f8,f9]
    exact ⟨by first|exact d9N|rfl|simp,_,trivial,wkI⟩
   ·skip
    have f1:decide ((c:Int)>=97)=false:=d9U (by omega);have f2:decide ((c:Int)<=122)=true:=d9S (by omega);have f3:decide ((c:Int)>=65)=true:=d9S (by omega);have f4:decide ((c:Int)<=90)=true:=d9S (by omega);have f5:decide ((c:Int)>=48)=true:=d9S (by omega);have f6:decide ((c:Int)<=57)=false:=d9U (by omega);have f7:((c:Int)==45)=false:=e0g.2 (by omega);have f8:((c:Int)==95)=false:=e0g.2 (by omega);have f9:((c:Int)==46)=false:=e0g.2 (by omega);have hnb:a1K c=true:=by
     unfold a1K;simp;omega
    rw [hnb];refine d9l w1 700 (by kernel_rfl) ?_;refine gwI kB ?_
    try simp only [f1,f2,f3,f4,f5,f6,f7,f8,f9]
    refine gwI kB ?_
    try simp only [f1,f2,f3,f4,f5,f6,f7,f8,f9]
    refine gwI kB ?_
    try simp only [f1,f2,f3,f4,f5,f6,f7,f8,f9]
    refine gwI kB ?_
    try simp only [f1,f2,f3,f4,f5,f6,f7,f8,f9]
    refine gwI kB ?_
    try simp only [f1,f2,f3,f4,f5,f6,f7,f8,f9]
    refine gwI kB ?_
    try simp only [f1,f2,f3,f4,f5,f6,f7,f8,f9]
    refine gwI kB ?_
    try simp only [f1,f2,f3,f4,f5,f6,f7,f8,f9]
    refine gwI kB ?_
    try simp only [f1,f2,f3,f4,f5,f6,f7,f8,f9]
    refine gwI kB ?_
    try simp only [f1,f2,f3,f4,f5,f6,f7,f8,f9]
    exact ⟨by first|exact d9N|rfl|simp,_,trivial,wkI⟩
   ·skip
    have f1:decide ((c:Int)>=97)=false:=d9U (by omega);have f2:decide ((c:Int)<=122)=true:=d9S (by omega);have f3:decide ((c:Int)>=65)=true:=d9S (by omega);have f4:decide ((c:Int)<=90)=false:=d9U (by omega);have f5:decide ((c:Int)>=48)=true:=d9S (by omega);have f6:decide ((c:Int)<=57)=false:=d9U (by omega);have f7:((c:Int)==45)=false:=e0g.2 (by omega);have f8:((c:Int)==95)=false:=e0g.2 (by omega);have f9:((c:Int)==46)=false:=e0g.2 (by omega);have hnb:a1K c=false:=by
     unfold a1K;simp;omega
    rw [hnb];refine d9l w1 700 (by kernel_rfl) ?_;refine gwI kB ?_
    try simp only [f1,f2,f3,f4,f5,f6,f7,f8,f9]
    refine gwI kB ?_
    try simp only [f1,f2,f3,f4,f5,f6,f7,f8,f9]
    refine gwI kB ?_
    try simp only [f1,f2,f3,f4,f5,f6,f7,f8,f9]
    refine gwI kB ?_
    try simp only [f1,f2,f3,f4,f5,f6,f7,f8,f9]
    refine gwI kB ?_
    try simp only [f1,f2,f3,f4,f5,f6,f7,f8,f9]
    refine gwI kB ?_
    try simp only [f1,f2,f3,f4,f5,f6,f7,f8,f9]
    refine gwI kB ?_
    try simp only [f1,f2,f3,f4,f5,f6,f7,f8,f9]
    refine gwI kB ?_
    try simp only [f1,f2,f3,f4,f5,f6,f7,f8,f9]
    refine gwI kB ?_
    try simp only [f1,f2,f3,f4,f5,f6,f7,f8,f9]
    exact ⟨by first|exact d9N|rfl|simp,_,trivial,wkI⟩
   ·skip
    have f1:decide ((c:Int)>=97)=false:=d9U (by omega);have f2:decide ((c:Int)<=122)=true:=d9S (by omega);have f3:decide ((c:Int)>=65)=true:=d9S (by omega);have f4:decide ((c:Int)<=90)=false:=d9U (by omega);have f5:decide ((c:Int)>=48)=true:=d9S (by omega);have f6:decide ((c:Int)<=57)=false:=d9U (by omega);have f7:((c:Int)==45)=false:=e0g.2 (by omega);have f8:((c:Int)==95)=true:=e1L.2 (by omega);have f9:((c:Int)==46)=false:=e0g.2 (by omega);have hnb:a1K c=true:=by
     unfold a1K;simp;omega
    rw [hnb];refine d9l w1 700 (by kernel_rfl) ?_;refine gwI kB ?_
    try simp only [f1,f2,f3,f4,f5,f6,f7,f8,f9]
    refine gwI kB ?_
    try simp only [f1,f2,f3,f4,f5,f6,f7,f8,f9]
    refine gwI kB ?_
    try simp only [f1,f2,f3,f4,f5,f6,f7,f8,f9]
    refine gwI kB ?_
    try simp only [f1,f2,f3,f4,f5,f6,f7,f8,f9]
    refine gwI kB ?_
    try simp only [f1,f2,f3,f4,f5,f6,f7,f8,f9]
    refine gwI kB ?_
    try simp only [f1,f2,f3,f4,f5,f6,f7,f8,f9]
    refine gwI kB ?_
    try simp only [f1,f2,f3,f4,f5,f6,f7,f8,f9]
    refine gwI kB ?_
    try simp only [f1,f2,f3,f4,f5,f6,f7,f8,f9]
    refine gwI kB ?_
    try simp only [f1,f2,f3,f4,f5,f6,f7,f8,f9]
    exact ⟨by first|exact d9N|rfl|simp,_,trivial,wkI⟩
   ·skip
    have f1:decide ((c:Int)>=97)=false:=d9U (by omega);have f2:decide ((c:Int)<=122)=true:=d9S (by omega);have f3:decide ((c:Int)>=65)=false:=d9U (by omega);have f4:decide ((c:Int)<=90)=true:=d9S (by omega);have f5:decide ((c:Int)>=48)=true:=d9S (by omega);have f6:decide ((c:Int)<=57)=false:=d9U (by omega);have f7:((c:Int)==45)=false:=e0g.2 (by omega);have f8:((c:Int)==95)=false:=e0g.2 (by omega);have f9:((c:Int)==46)=false:=e0g.2 (by omega);have hnb:a1K c=false:=by
     unfold a1K;simp;omega
    rw [hnb];refine d9l w1 700 (by kernel_rfl) ?_;refine gwI kB ?_
    try simp only [f1,f2,f3,f4,f5,f6,f7,f8,f9]
    refine gwI kB ?_
    try simp only [f1,f2,f3,f4,f5,f6,f7,f8,f9]
    refine gwI kB ?_
    try simp only [f1,f2,f3,f4,f5,f6,f7,f8,f9]
    refine gwI kB ?_
    try simp only [f1,f2,f3,f4,f5,f6,f7,f8,f9]
    refine gwI kB ?_
    try simp only [f1,f2,f3,f4,f5,f6,f7,f8,f9]
    refine gwI kB ?_
    try simp only [f1,f2,f3,f4,f5,f6,f7,f8,f9]
    refine gwI kB ?_
    try simp only [f1,f2,f3,f4,f5,f6,f7,f8,f9]
    refine gwI kB ?_
    try simp only [f1,f2,f3,f4,f5,f6,f7,f8,f9]
    refine gwI kB ?_
    try simp only [f1,f2,f3,f4,f5,f6,f7,f8,f9]
    exact ⟨by first|exact d9N|rfl|simp,_,trivial,wkI⟩
   ·skip
    have f1:decide ((c:Int)>=97)=false:=d9U (by omega);have f2:decide ((c:Int)<=122)=true:=d9S (by omega);have f3:decide ((c:Int)>=65)=false:=d9U (by omega);have f4:decide ((c:Int)<=90)=true:=d9S (by omega);have f5:decide ((c:Int)>=48)=true:=d9S (by omega);have f6:decide ((c:Int)<=57)=true:=d9S (by omega);have f7:((c:Int)==45)=false:=e0g.2 (by omega);have f8:((c:Int)==95)=false:=e0g.2 (by omega);have f9:((c:Int)==46)=false:=e0g.2 (by omega);have hnb:a1K c=true:=by
     unfold a1K;simp;omega
    rw [hnb];refine d9l w1 700 (by kernel_rfl) ?_;refine gwI kB ?_
    try simp only [f1,f2,f3,f4,f5,f6,f7,f8,f9]
    refine gwI kB ?_
    try simp only [f1,f2,f3,f4,f5,f6,f7,f8,f9]
    refine gwI kB ?_
    try simp only [f1,f2,f3,f4,f5,f6,f7,f8,f9]
    refine gwI kB ?_
    try simp only [f1,f2,f3,f4,f5,f6,f7,f8,f9]
    refine gwI kB ?_
    try simp only [f1,f2,f3,f4,f5,f6,f7,f8,f9]
    refine gwI kB ?_
    try simp only [f1,f2,f3,f4,f5,f6,f7,f8,f9]
    refine gwI kB ?_
    try simp only [f1,f2,f3,f4,f5,f6,f7,f8,f9]
    refine gwI kB ?_
    try simp only [f1,f2,f3,f4,f5,f6,f7,f8,f9]
    refine gwI kB ?_
    try simp only [f1,f2,f3,f4,f5,f6,f7,f8,f9]
    exact ⟨by first|exact d9N|rfl|simp,_,trivial,wkI⟩
   ·skip
    have f1:decide ((c:Int)>=97)=false:=d9U (by omega);have f2:decide ((c:Int)<=122)=true:=d9S (by omega);have f3:decide ((c:Int)>=65)=false:=d9U (by omega);have f4:decide ((c:Int)<=90)=true:=d9S (by omega);have f5:decide ((c:Int)>=48)=false:=d9U (by omega);have f6:decide ((c:Int)<=57)=true:=d9S (by omega);have f7:((c:Int)==45)=false:=e0g.2 (by omega);have f8:((c:Int)==95)=false:=e0g.2 (by omega);have f9:((c:Int)==46)=false:=e0g.2 (by omega);have hnb:a1K c=false:=by
     unfold a1K;simp;omega
    rw [hnb];refine d9l w1 700 (by kernel_rfl) ?_;refine gwI kB ?_
    try simp only [f1,f2,f3,f4,f5,f6,f7,f8,f9]
    refine gwI kB ?_
    try simp only [f1,f2,f3,f4,f5,f6,f7,f8,f9]
    refine gwI kB ?_
    try simp only [f1,f2,f3,f4,f5,f6,f7,f8,f9]
    refine gwI kB ?_
    try simp only [f1,f2,f3,f4,f5,f6,f7,f8,f9]
    refine gwI kB ?_
    try simp only [f1,f2,f3,f4,f5,f6,f7,f8,f9]
    refine gwI kB ?_
    try simp only [f1,f2,f3,f4,f5,f6,f7,f8,f9]
    refine gwI kB ?_
    try simp only [f1,f2,f3,f4,f5,f6,f7,f8,f9]
    refine gwI kB ?_
    try simp only [f1,f2,f3,f4,f5,f6,f7,f8,f9]
    refine gwI kB ?_
    try simp only [f1,f2,f3,f4,f5,f6,f7,f8,f9]
    exact ⟨by first|exact d9N|rfl|simp,_,trivial,wkI⟩
   ·skip
    have f1:decide ((c:Int)>=97)=false:=d9U (by omega);have f2:decide ((c:Int)<=122)=true:=d9S (by omega);have f3:decide ((c:Int)>=65)=false:=d9U (by omega);have f4:decide ((c:Int)<=90)=true:=d9S (by omega);have f5:decide ((c:Int)>=48)=false:=d9U (by omega);have f6:decide ((c:Int)<=57)=true:=d9S (by omega);have f7:((c:Int)==45)=true:=e1L.2 (by omega);have f8:((c:Int)==95)=false:=e0g.2 (by omega);have f9:((c:Int)==46)=false:=e0g.2 (by omega);have hnb:a1K c=true:=by
     unfold a1K;simp;omega
    rw [hnb];refine d9l w1 700 (by kernel_rfl) ?_;refine gwI kB ?_
    try simp only [f1,f2,f3,f4,f5,f6,f7,f8,f9]
    refine gwI kB ?_
    try simp only [f1,f2,f3,f4,f5,f6,f7,f8,f9]
    refine gwI kB ?_
    try simp only [f1,f2,f3,f4,f5,f6,f7,f8,f9]
    refine gwI kB ?_
    try simp only [f1,f2,f3,f4,f5,f6,f7,f8,f9]
    refine gwI kB ?_
    try simp only [f1,f2,f3,f4,f5,f6,f7,f8,f9]
    refine gwI kB ?_
    try simp only [f1,f2,f3,f4,f5,f6,f7,f8,f9]
    refine gwI kB ?_
    try simp only [f1,f2,f3,f4,f5,f6,f7,f8,f9]
    refine gwI kB ?_
    try simp only [f1,f2,f3,f4,f5,f6,f7,f8,f9]
    refine gwI kB ?_
    try simp only [f1,f2,f3,f4,f5,f6,f7,f8,f9]
    exact ⟨by first|exact d9N|rfl|simp,_,trivial,wkI⟩
   ·skip
    have f1:decide ((c:Int)>=97)=false:=d9U (by omega);have f2:decide ((c:Int)<=122)=true:=d9S (by omega);have f3:decide ((c:Int)>=65)=false:=d9U (by omega);have f4:decide ((c:Int)<=90)=true:=d9S (by omega);have f5:decide ((c:Int)>=48)=false:=d9U (by omega);have f6:decide ((c:Int)<=57)=true:=d9S (by omega);have f7:((c:Int)==45)=false:=e0g.2 (by omega);have f8:((c:Int)==95)=false:=e0g.2 (by omega);have f9:((c:Int)==46)=true:=e1L.2 (by omega);have hnb:a1K c=true:=by
     unfold a1K;simp;omega
    rw [hnb];refine d9l w1 700 (by kernel_rfl) ?_;refine gwI kB ?_
    try simp only [f1,f2,f3,f4,f5,f6,f7,f8,f9]
    refine gwI kB ?_
    try simp only [f1,f2,f3,f4,f5,f6,f7,f8,f9]
    refine gwI kB ?_
    try simp only [f1,f2,f3,f4,f5,f6,f7,f8,f9]
    refine gwI kB ?_
    try simp only [f1,f2,f3,f4,f5,f6,f7,f8,f9]
    refine gwI kB ?_
    try simp only [f1,f2,f3,f4,f5,f6,f7,f8,f9]
    refine gwI kB ?_
    try simp only [f1,f2,f3,f4,f5,f6,f7,f8,f9]
    refine gwI kB ?_
    try simp only [f1,f2,f3,f4,f5,f6,f7,f8,f9]
    refine gwI kB ?_
    try simp only [f1,f2,f3,f4,f5,f6,f7,f8,f9]
    refine gwI kB ?_
    try simp only [f1,f2,f3,f4,f5,f6,f7,f8,f9]
    exact ⟨by first|exact d9N|rfl|simp,_,trivial,wkI⟩
  rintro n1 -;cases hb:a1K c
  ·refine ifI ?_
   refine sR 800 ?_;refine rtI ?_;exact a0a (by rw [hcl hb]) IsPure.out
  ·refine ifI ?_
   refine skI ?_;refine d9l w1 500 (by kernel_rfl) ?_;refine nwI wi ?_;exact ⟨(i+1,_),⟨hi2,hsn hb⟩,by dsimp only;omega,wkI⟩
 ·have hi2:i=l.length:=by
   have:=e0i hlt
   omega
  subst hi2;rw [e0k (d9Z _)] at ha;refine exI ?_;refine sR 900 ?_;refine rtI ?_;exact a0a (by unfold a1A;rw [ha,d9S l1,d9S l2];rfl) IsPure.out
def a2O:List Int->Int
 | []=>0
 | e::r=>if e≠0 then e else a2O r
theorem a8I {v:List Int}{i:Nat}(h:∀ (j:Nat) (e:Int),j<i->v[j]? = some e->e=0):a2O v=a2O (v.drop i):=by
 induction i generalizing v with
 | zero=>rfl
 | succ i ih =>
  cases v with
  | nil=>rfl
  | cons l r =>
   have h0:=h 0 l (Nat.succ_pos i) rfl;rw [e2J];show (if l≠0 then l else a2O r)=_;rw [d9Q (fun hh=>hh h0)];exact ih fun j m hj hm=>h (j+1) m (by omega) hm
theorem a3I {a:Int}(h:a≠0):(a != 0)=true:=by
 have:(a==0)=false:=e0g.2 h
 unfold bne;rw [this];rfl
theorem a8N (v:List Int)(hl:v.length<=1000):a0b C0 51 [.sl true 1 (v.map fun e=>i64 e)] (i64 (a2O v)):=by
 refine a0c.walk w1 d3k rfl fun F=>?_
 have el:(((v.map fun e=>i64 e).length:Nat):Int)=(v.length:Int):=by rw [d9X]
 refine sR 0 ?_;refine OkS.seq ?_;refine sZ 100 ?_;refine nwI el ?_;refine OkS.block ?_;refine OkS.loop (α:=Nat × Nat) (fun p=>⟨[(5,.sl true 1 (v.map fun e=>i64 e)),(6,i64 v.length),(7,i64 (p.1:Int))],[],p.2⟩) (fun p=>v.length - p.1) (fun p=>p.1<=v.length/\∀ (j:Nat) (e:Int),j<p.1->v[j]? = some e->e=0) (0,_) ⟨e0y _,fun j l hj=>d9R hj (e1i j)⟩ wkI ?_;rintro ⟨i,n⟩ F ⟨hi,ha⟩;dsimp only at hi ha ⊢;refine sR 200 ?_;refine OkS.seq ?_;refine ifI ?_
 (refine brI (fun hlt=>?_) (fun hlt=>?_))<;>(try simp only [e0a,e0c] at hlt)<;>(try simp only [hlt])
 ·have hi2:i<v.length:=by
   have:=e0p hlt
   omega
  obtain ⟨l,hl'⟩:∃ l,v[i]? = some l:=⟨v[i],d9W hi2⟩
  have hm:(v.map fun e=>i64 e)[i]? = some (i64 l):=by rw [e0l,hl'];rfl
  have hd:a2O v=a2O (v.drop i):=a8I ha;have hdd:v.drop i=l::v.drop (i+1):=by
   rw [e0P hi2];rw [d9W hi2] at hl';rw [e2e hl']
  have wi:IntKind.i64.wrap ((i:Int)+1)=((i+1:Nat):Int):=wI (by omega) (by omega);refine skI ?_;refine OkS.seq ?_;refine OkS.block ?_;refine sZ 300 ?_;refine gwI kN ?_;refine ixI kT hm ?_;refine gwI kN ?_
  by_cases g:l=0
  ·have e5:(l != 0)=false:=by rw [g];rfl
   refine sZ 400 ?_;refine nwI e5 ?_;refine ifI ?_;refine skI ?_;refine d9l w1 600 (by kernel_rfl) ?_;refine nwI wi ?_;refine ⟨(i+1,_),⟨hi2,fun j m hj hjm=>?_⟩,by dsimp only;omega,wkI⟩;rcases e0j j i with h|h
   ·exact ha j m h hjm
   ·have:j=i:=by dsimp only at hj;omega
    subst this;rw [hl'] at hjm;cases hjm;exact g
  ·have e5:(l != 0)=true:=a3I g
   refine sZ 400 ?_;refine nwI e5 ?_;refine ifI ?_;refine sR 500 ?_;refine rtI ?_;refine a0a ?_ IsPure.out;rw [hd,hdd];show _=i64 (if l≠0 then l else a2O (v.drop (i+1)));rw [d9P g]
 ·have hi2:i=v.length:=by
   have:=e0i hlt
   omega
  subst hi2;refine exI ?_;refine sR 700 ?_;refine rtI ?_;refine a0a ?_ IsPure.out;rw [a8I ha,e1p (d9Z _)];rfl
def a8A (s:ByteArray):Bool:=a1z s ⟨#[100,111,119,110]⟩||(a1z s ⟨#[117,112]⟩||(a1z s ⟨#[104,97,108,102,45,117,112]⟩||a1z s ⟨#[104,97,108,102,45,101,118,101,110]⟩))
def a3P (k st:List UInt8):Nat:=if a8A (sb k) then (if chk st≠0 then chk st else if a8Y (a0d st)<=0 then 3 else 0) else 20
theorem c8p {l:List UInt8}(h:chk l=0):c2W (a0d l):=a6i (b0p h) (by decide)
theorem c0A {l:List UInt8}(h:chk l=0):a0b C0 121 [str (sb l)] (i64 (a8Y (a0d l))):=by
 have:=b8Y (a0d l) (c8p h)
 unfold rR at this;rw [(a2y h).2.2.1] at this;exact this
theorem a5q {a b:List UInt8}(ha:chk a=0)(hb:chk b=0):a0b C0 57 [str (sb a),str (sb b)] (i64 (a1e (a0d a) (a0d b))):=by
 have cc:=d6P (a0d a) (a0d b) 600 600 (b0p ha) (b0p hb) (by decide);unfold rR at cc;rw [(a2y ha).2.2.1,(a2y hb).2.2.1] at cc;exact cc
theorem d6k (k st:List UInt8)(h1:st.length<=100000):a0b C0 126 [.agg [str (sb k),str (sb st)]] (i64 (a3P k st)):=by
 refine a0c.walk w1 d2G rfl fun F=>?_
 have c1:=b0z st h1;refine sR 0 ?_;refine d9A (α:=Nat) (fun n=>⟨[(1,.optr 0 0 2 0 0)],[⟨0,0,70,2,[.agg [str (sb k),str (sb st)]]⟩],n⟩) (fun _=>a8A (sb k)=true) ?_ ?_
 ·unfold a3P a8A
  obtain ⟨b1,e1⟩:∃ b,a1z (sb k) ⟨#[100,111,119,110]⟩=b:=⟨_,rfl⟩
  obtain ⟨b2,e2⟩:∃ b,a1z (sb k) ⟨#[117,112]⟩=b:=⟨_,rfl⟩
  obtain ⟨b3,e3⟩:∃ b,a1z (sb k) ⟨#[104,97,108,102,45,117,112]⟩=b:=⟨_,rfl⟩
  obtain ⟨b4,e4⟩:∃ b,a1z (sb k) ⟨#[104,97,108,102,45,101,118,101,110]⟩=b:=⟨_,rfl⟩
  rw [e1,e2,e3,e4];refine OkS.seq ?_;cases b1
  ·cases b2
   ·cases b3
    ·cases b4
     ·refine d9l w1 100 (by kernel_rfl) ?_
      refine nwI (ff6 e1 e2 e3 e4 kT kF) ?_;refine gwI (ff6 e1 e2 e3 e4 kT kF) ?_;refine gwI (ff6 e1 e2 e3 e4 kT kF) ?_;refine gwI (ff6 e1 e2 e3 e4 kT kF) ?_;refine ifI ?_;refine sR 200 ?_;refine rtI ?_;exact a0a rfl IsPure.out
     ·refine d9l w1 100 (by kernel_rfl) ?_
      refine nwI (ff6 e1 e2 e3 e4 kT kF) ?_;refine gwI (ff6 e1 e2 e3 e4 kT kF) ?_;refine gwI (ff6 e1 e2 e3 e4 kT kF) ?_;refine gwI (ff6 e1 e2 e3 e4 kT kF) ?_;refine ifI ?_;refine skI ?_;exact ⟨rfl,_,rfl,wkI⟩
    ·refine d9l w1 100 (by kernel_rfl) ?_
     refine nwI (ff6 e1 e2 e3 e4 kT kF) ?_;refine gwI (ff6 e1 e2 e3 e4 kT kF) ?_;refine gwI (ff6 e1 e2 e3 e4 kT kF) ?_;refine gwI (ff6 e1 e2 e3 e4 kT kF) ?_;refine ifI ?_;refine skI ?_;exact ⟨rfl,_,rfl,wkI⟩
   ·refine d9l w1 100 (by kernel_rfl) ?_
    refine nwI (ff6 e1 e2 e3 e4 kT kF) ?_;refine gwI (ff6 e1 e2 e3 e4 kT kF) ?_;refine gwI (ff6 e1 e2 e3 e4 kT kF) ?_;refine gwI (ff6 e1 e2 e3 e4 kT kF) ?_;refine ifI ?_;refine skI ?_;exact ⟨rfl,_,rfl,wkI⟩
  ·refine d9l w1 100 (by kernel_rfl) ?_
   refine nwI (ff6 e1 e2 e3 e4 kT kF) ?_;refine gwI (ff6 e1 e2 e3 e4 kT kF) ?_;refine gwI (ff6 e1 e2 e3 e4 kT kF) ?_;refine gwI (ff6 e1 e2 e3 e4 kT kF) ?_;refine ifI ?_;refine skI ?_;exact ⟨rfl,_,rfl,wkI⟩
 rintro n0 hk;unfold a3P;rw [d9P hk];refine sR 300 ?_;refine cI c1 ?_
 by_cases g1:chk st=0
 ·have e8:(((chk st:Nat):Int)==0)=true:=by rw [g1];rfl
  have cs:=c0A g1;rw [d9Q (fun h=>h g1)];refine OkS.seq ?_;refine sZ 400 ?_;refine nwI e8 ?_;refine gwI kT ?_;refine gcI kT ?_;refine a0j.same _ cs d9O ?_;refine gwI kT ?_
  by_cases g3:a8Y (a0d st)<=0
  ·rw [d9S g3,d9P g3]
   refine ifI ?_;refine sR 500 ?_;refine rtI ?_;exact a0a rfl IsPure.out
  ·rw [d9U g3,d9Q g3]
   refine ifI ?_;refine skI ?_;refine sR 600 ?_;refine rtI ?_;exact a0a (by rw [g1]) IsPure.out
 ·have e8:(((chk st:Nat):Int)==0)=false:=e0g.2 (by omega)
  rw [d9P g1];refine OkS.seq ?_;refine sZ 400 ?_;refine nwI e8 ?_;refine gwI kF ?_;refine ifI ?_;refine skI ?_;refine sR 600 ?_;refine rtI ?_;exact a0a rfl IsPure.out
structure a1N where
 name:List UInt8
 tol:List UInt8
 kind:List UInt8
 step:List UInt8
 deriving Inhabited
def a1N.D (f:a1N):D:=.agg [str (sb f.name),str (sb f.tol),str (sb f.kind),str (sb f.step)]
def a1N.few (f:a1N):Prop:=f.name.length<=100000/\f.tol.length<=100000/\f.kind.length<=100000/\f.step.length<=100000
instance  (f:a1N):CellsPure f.D:=by unfold a1N.D;exact d9O
instance  (f:a1N):IsPure f.D:=by unfold a1N.D;exact d9O
def a1m (f:a1N):Nat:=if a1A f.name then (if chk f.tol≠0 then chk f.tol else if a8Y (a0d f.tol)<0 then 3 else a3P f.kind f.step) else 8
theorem c7r (f:a1N)(hf:f.few):a0b C0 60 [f.D] (i64 (a1m f)):=by
 refine a0c.walk w1 d6s rfl fun F=>?_
 have cn:=d2J f.name (by have:=hf.1;omega);have c1:=b0z f.tol hf.2.1;have cr:=d6k f.kind f.step hf.2.2.2;unfold a1N.D a1m;refine sR 0 ?_;refine OkS.seq ?_;refine sR 100 ?_;refine cI cn ?_;cases hn:a1A f.name
 ·rw [d9Q (by decide)]
  refine ifI ?_;refine sR 200 ?_;refine rtI ?_;exact a0a rfl IsPure.out
 rw [d9P rfl];refine ifI ?_;refine skI ?_;refine sR 300 ?_;refine cI c1 ?_
 by_cases g1:chk f.tol=0
 ·have e8:(((chk f.tol:Nat):Int)==0)=true:=by rw [g1];rfl
  have cs:=c0A g1;rw [d9Q (fun h=>h g1)];refine OkS.seq ?_;refine sZ 400 ?_;refine nwI e8 ?_;refine gwI kT ?_;refine gcI kT ?_;refine a0j.same _ cs d9O ?_;refine gwI kT ?_
  by_cases g3:a8Y (a0d f.tol)<0
  ·rw [d9S g3,d9P g3]
   refine ifI ?_;refine rI 500 ?_;refine OkS.seq ?_;refine sR 600 ?_;refine ifI ?_;refine skI ?_;refine sR 800 ?_;refine rtI ?_;exact a0a rfl IsPure.out
  ·rw [d9U g3,d9Q g3]
   refine ifI ?_;refine skI ?_;refine OkS.seq ?_;refine sZ 600 ?_;refine nwI e8 ?_;refine ifI ?_;refine rI 700 ?_;refine cI cr ?_;refine sR 800 ?_;refine rtI ?_;exact a0a rfl IsPure.out
 ·have e8:(((chk f.tol:Nat):Int)==0)=false:=e0g.2 (by omega)
  rw [d9P g1];refine OkS.seq ?_;refine sZ 400 ?_;refine nwI e8 ?_;refine gwI kF ?_;refine ifI ?_;refine skI ?_;refine OkS.seq ?_;refine sZ 600 ?_;refine nwI e8 ?_;refine ifI ?_;refine skI ?_;refine sR 800 ?_;refine rtI ?_;exact a0a rfl IsPure.out
theorem a6r (a b:List UInt8):a1z (sb a) (sb b)=decide (a=b):=by
 unfold a1z
 by_cases h:a=b
 ·subst h;simp
 ·rw [d9U h]
  apply e0g.2;intro hh;apply h;simpa [sb] using hh
theorem a1l (l:List UInt8):a1z (sb l) ⟨#[]⟩=decide (l=[]):=a6r l []
def a2z (l:List UInt8):Nat:=if l=[] then 0 else chk l
theorem a1g {l:List UInt8}(h:a2z l=0)(h0:l≠[]):chk l=0:=by
 unfold a2z at h;rw [d9Q h0] at h;exact h
def a7T (a b c d:List UInt8):Bool :=
 (decide (a=[])||(!decide (c=[]) && !decide (a1e (a0d c) (a0d a)<0)))&&(decide (b=[])||(!decide (d=[])&&decide (a1e (a0d d) (a0d b)<=0)))
theorem c5Y (l:List UInt8)(h:l.length<=100000):a0b C0 127 [str (sb l)] (i64 (a2z l)):=by
 refine a0c.walk w1 d0U rfl fun F=>?_
 have c1:=b0z l h;have e1:=a1l l;unfold a2z;refine sR 0 ?_;refine OkS.seq ?_
 by_cases g:l=[]
 ·rw [d9S g] at e1
  rw [d9P g];refine sZ 100 ?_;refine nwI (ff3 e1 kT kF) ?_;refine ifI ?_;refine sR 200 ?_;refine rtI ?_;exact a0a rfl IsPure.out
 ·rw [d9U g] at e1
  rw [d9Q g];refine sZ 100 ?_;refine nwI (ff3 e1 kT kF) ?_;refine ifI ?_;refine skI ?_;refine sR 300 ?_;refine cI c1 ?_;refine rtI ?_;exact a0a rfl IsPure.out
theorem b9U (a b c d:List UInt8)(ha:a2z a=0)(hb:a2z b=0)(hc:a2z c=0)(hd:a2z d=0) :
  a0b C0 128 [str (sb a),str (sb b),str (sb c),str (sb d)] (boo (a7T a b c d)):=by
 refine a0c.walk w1 d0I rfl fun F=>?_
 have ea:=a1l a;have eb:=a1l b;have ec:=a1l c;have ed:=a1l d;refine sR 0 ?_;refine d9A (α:=Nat) (fun n=>⟨[(0,str (sb a)),(1,str (sb b)),(2,str (sb c)),(3,str (sb d))],[],n⟩) (fun _=>(decide (a=[])||(!decide (c=[]) && !decide (a1e (a0d c) (a0d a)<0)))=true) ?_ ?_
 ·unfold a7T
  by_cases ga:a=[]
  ·rw [d9S ga] at ea ⊢
   refine sZ 100 ?_;refine nwI (ff4 ea eb kT kF) ?_;refine gwI kB ?_
   try simp only [ec,ed,e0V,e0S]
   refine ifI ?_;refine skI ?_;exact ⟨rfl,_,rfl,wkI⟩
  rw [d9U ga] at ea ⊢
  by_cases gc:c=[]
  ·rw [d9S gc] at ec ⊢
   refine sZ 100 ?_;refine nwI (ff4 ea eb kT kF) ?_;refine gwI kB ?_
   try simp only [ec,ed,e0V,e0S]
   refine gwI kB ?_
   try simp only [ec,ed,e0V,e0S]
   refine ifI ?_;refine sR 200 ?_;refine rtI ?_;exact a0a rfl IsPure.out
  rw [d9U gc] at ec ⊢;have cc:=a5q (a1g hc gc) (a1g ha ga);refine sZ 100 ?_;refine nwI (ff4 ea eb kT kF) ?_;refine gwI kB ?_
  try simp only [ec,ed,e0V,e0S]
  refine gwI kB ?_;refine gcI kB ?_;refine a0j.same _ cc d9O ?_;refine gwI kB ?_
  try simp only [ec,ed,e0V,e0S]
  by_cases g3:a1e (a0d c) (a0d a)<0
  ·rw [d9S g3]
   refine ifI ?_;refine sR 200 ?_;refine rtI ?_;exact a0a rfl IsPure.out
  ·rw [d9U g3]
   refine ifI ?_;refine skI ?_;exact ⟨rfl,_,rfl,wkI⟩
 rintro n0 h1;unfold a7T;rw [h1]
 by_cases gb:b=[]
 ·rw [d9S gb] at eb ⊢
  refine sZ 300 ?_;refine nwI (ff4 ea eb kT kF) ?_;refine gwI kB ?_
  try simp only [ec,ed,e0V,e0S]
  refine rtI ?_;exact a0a rfl IsPure.out
 rw [d9U gb] at eb ⊢
 by_cases gd:d=[]
 ·rw [d9S gd] at ed ⊢
  refine sZ 300 ?_;refine nwI (ff4 ea eb kT kF) ?_;refine gwI kB ?_
  try simp only [ec,ed,e0V,e0S]
  refine gwI kB ?_
  try simp only [ec,ed,e0V,e0S]
  refine rtI ?_;exact a0a rfl IsPure.out
 rw [d9U gd] at ed ⊢;have cc:=a5q (a1g hd gd) (a1g hb gb);refine sZ 300 ?_;refine nwI (ff4 ea eb kT kF) ?_;refine gwI kB ?_
 try simp only [ec,ed,e0V,e0S]
 refine gwI kB ?_;refine gcI kB ?_;refine a0j.same _ cc d9O ?_;refine gwI kB ?_
 try simp only [ec,ed,e0V,e0S]
 refine rtI ?_;exact a0a rfl IsPure.out
def a9b (f:Nat->Nat):Nat->Nat
 | 0=>0
 | n+1=>if a9b f n≠0 then a9b f n else f n
theorem a3h {f:Nat->Nat}{n:Nat}(h:∀ j,j<n->f j=0):a9b f n=0:=by
 induction n with
 | zero=>rfl
 | succ n ih =>
  have:=ih fun j hj=>h j (by omega)
  unfold a9b;rw [d9Q (fun hh=>hh this)];exact h n (by omega)
theorem a7s {f:Nat->Nat}{i n:Nat}(h:∀ j,j<i->f j=0)(hi:i<n)(h0:f i≠0):a9b f n=f i:=by
 induction n with
 | zero=>omega
 | succ n ih =>
  unfold a9b;rcases e0j i n with hlt|hge
  ·have:=ih hlt
   rw [d9P (by rw [this];exact h0),this]
  ·have:i=n:=by omega
   subst this;rw [d9Q (fun hh=>hh (a3h h))]
theorem a8f {f:Nat->Nat}{n:Nat}(h:a9b f n=0):∀ j,j<n->f j=0:=by
 induction n with
 | zero=>intro j hj;omega
 | succ n ih =>
  unfold a9b at h
  by_cases h0:a9b f n=0
  ·rw [d9Q (fun hh=>hh h0)] at h
   intro j hj;rcases e0j j n with hl|hg
   ·exact ih h0 j hl
   ·have:j=n:=by omega
    subst this;exact h
  ·rw [d9P h0] at h
   exact d9R h h0
structure a0M where
 name:List UInt8
 least:List (List UInt8)
 most:List (List UInt8)
 deriving Inhabited
def a0M.D (g:a0M):D:=.agg [str (sb g.name),.sl false 1 (g.least.map fun l=>str (sb l)),.sl false 1 (g.most.map fun l=>str (sb l))]
instance  (g:a0M):CellsPure g.D:=by unfold a0M.D;exact d9O
instance  (g:a0M):IsPure g.D:=by unfold a0M.D;exact d9O
def a0M.few (g:a0M):Prop:=g.name.length<=100000/\g.least.length<=100000/\g.most.length<=100000/\(∀ l∈g.least,l.length<=100000)/\(∀ l∈g.most,l.length<=100000)
structure a0Y where
 fs:List a1N
 gs:List a0M
def a0Y.D (s:a0Y):D:=.agg [.sl false 4 (s.fs.map a1N.D),.sl false 3 (s.gs.map a0M.D)]
instance  (s:a0Y):CellsPure s.D:=by unfold a0Y.D;exact d9O
instance  (s:a0Y):IsPure s.D:=by unfold a0Y.D;exact d9O
def a0Y.few (s:a0Y):Prop:=s.fs.length<=100000/\s.gs.length<=100000/\(∀ f∈s.fs,f.few)/\(∀ g∈s.gs,g.few)
def a1r (a b:List UInt8)(p:Option (List UInt8 × List UInt8)):Nat :=
 if a2z a≠0 then a2z a else if a2z b≠0 then a2z b else if a≠[]/\b≠[]/\a1e (a0d a) (a0d b)>0 then 3 else match p with
  | none=>0
  | some (c,d)=>if a7T a b c d then 0 else 11
def lv (l:List (List UInt8))(k:Nat):List UInt8:=l.getD k []
def a1Y (gs:List a0M)(i k:Nat):Option (List UInt8 × List UInt8):=if i=0 then none else some (lv (gs.getD (i - 1) default).least k,lv (gs.getD (i - 1) default).most k)
def a0E (n:Nat)(gs:List a0M)(i:Nat):Nat :=
 let g:=gs.getD i default
 if a1A g.name then
  (if (gs.take i).any (fun x=>decide (x.name=g.name)) then 9
  else if g.least.length=n/\g.most.length=n then a9b (fun k=>a1r (lv g.least k) (lv g.most k) (a1Y gs i k)) n
  else 2)
 else 8
def a2k (fs:List a1N)(i:Nat):Nat :=
 if a1m (fs.getD i default)≠0 then a1m (fs.getD i default) else if (fs.take i).any (fun x=>decide (x.name=(fs.getD i default).name)) then 9 else 0
def b2q (n:Nat):Nat:=if n=0 then 2 else if n>8 then 5 else 0
def b3h (n:Nat):Nat:=if n=0 then 2 else if n>16 then 5 else 0
def a0l (s:a0Y):Nat :=
 if b2q s.fs.length≠0 then b2q s.fs.length
 else if a9b (a2k s.fs) s.fs.length≠0 then a9b (a2k s.fs) s.fs.length
 else if b3h s.gs.length≠0 then b3h s.gs.length
 else a9b (a0E s.fs.length s.gs) s.gs.length
def gOk (n:Nat)(g:a0M):Prop:=g.least.length=n/\g.most.length=n/\∀ k,k<n->a2z (lv g.least k)=0/\a2z (lv g.most k)=0
theorem b9y {a b:List UInt8}{p:Option (List UInt8 × List UInt8)}(h:a1r a b p=0):a2z a=0/\a2z b=0:=by
 unfold a1r at h
 by_cases ha:a2z a=0
 ·rw [d9Q (fun hh=>hh ha)] at h
  by_cases hb:a2z b=0
  ·exact ⟨ha,hb⟩
  ·rw [d9P hb] at h
   exact d9R h hb
 ·rw [d9P ha] at h
  exact d9R h ha
theorem a6b {n:Nat}{gs:List a0M}{i:Nat}(h:a0E n gs i=0):gOk n (gs.getD i default):=by
 unfold a0E at h;dsimp only at h;split at h
 ·split at h
  ·cases h
  ·split at h
   ·rename_i hh
    exact ⟨hh.1,hh.2,fun k hk=>b9y (a8f h k hk)⟩
   ·cases h
 ·cases h
theorem b0c {l:List (List UInt8)}{k:Nat}(h:k<l.length):l[k]? = some (lv l k):=by
 unfold lv;rw [e0q,d9W h];rfl
theorem a1V {l:List (List UInt8)}{k:Nat}(h:k<l.length):(l.map fun x=>str (sb x))[k]? = some (str (sb (lv l k))):=by
 rw [e0l,b0c h];rfl
theorem a6P {l:List (List UInt8)}{k:Nat}(h:k<l.length)(hf:∀ x∈l,x.length<=100000):(lv l k).length<=100000:=hf _ (d9V (b0c h))
theorem a3r {gs:List a0M}{i:Nat}(h:i<gs.length):gs[i]? = some (gs.getD i default):=by
 rw [e0q,d9W h];rfl
theorem b6m {gs:List a0M}{i:Nat}(h:i<gs.length):(gs.map a0M.D)[i]? = some (.agg [str (sb (gs.getD i default).name),.sl false 1 ((gs.getD i default).least.map fun l=>str (sb l)),.sl false 1 ((gs.getD i default).most.map fun l=>str (sb l))]):=by
 rw [e0l,a3r h];rfl
theorem a9k {fs:List a1N}{i:Nat}(h:i<fs.length):fs[i]? = some (fs.getD i default):=by
 rw [e0q,d9W h];rfl
theorem c0C {fs:List a1N}{i:Nat}(h:i<fs.length):(fs.map a1N.D)[i]? = some (.agg [str (sb (fs.getD i default).name),str (sb (fs.getD i default).tol),str (sb (fs.getD i default).kind),str (sb (fs.getD i default).step)]):=by
 rw [e0l,a9k h];rfl
theorem b1C {α:Type}{l:List α}{p:α->Bool}{i:Nat}(h:∀ (j:Nat) (x:α),j<i->l[j]? = some x->p x=false):(l.take i).any p=false:=by
 rw [List.any_eq_false];intro x hx;obtain ⟨j,hj,e⟩:=List.mem_iff_getElem.1 hx;have hj2:j<i:=by rw [e0n] at hj;omega
 have:l[j]? = some x:=by
  rw [<- e,List.getElem_take];exact d9W _
 rw [h j x hj2 this];simp
theorem a6R {α:Type}{l:List α}{p:α->Bool}{i j:Nat}{x:α}(hj:j<i)(hx:l[j]? = some x)(h:p x=true):(l.take i).any p=true:=by
 rw [List.any_eq_true];refine ⟨x,?_,h⟩;exact d9V (i:=j) (by rw [e1m,d9P hj,hx])
theorem b2E (s:ByteArray):(a8A s=true->∃ f,a6L s (mpK a4A) (mpV a4A)=some (some (.agg [.clo (.func f) [] []])))/\(a8A s=false->a6L s (mpK a4A) (mpV a4A)=some none):=by
 unfold a8A;simp only [a4A,mpK,mpV,a6L];cases a1z s ⟨#[100,111,119,110]⟩<;>cases a1z s ⟨#[117,112]⟩<;>cases a1z s ⟨#[104,97,108,102,45,117,112]⟩<;>cases a1z s ⟨#[104,97,108,102,45,101,118,101,110]⟩<;>simp
section
attribute [local irreducible] wpQ
theorem c6K (k st:List UInt8)(h1:st.length<=100000):a0b C0 149 [.agg [str (sb k),str (sb st)]] (i64 (a3P k st)):=by
 refine a0c.walk w1 c4c rfl fun F=>?_
 have dk:a0b C0 204 [] (.mp (mpK a4A) (mpV a4A)):=b2i;have dp:IsPure (D.mp (mpK a4A) (mpV a4A)):=⟨a1b (n:=20) (by kernel_rfl)⟩
 have c1:=a8e st h1;unfold a3P;refine fR 0 ?_;cases hk:a8A (sb k)
 ·have hlk:=(b2E (sb k)).2 hk
  refine OkS.seq ?_;refine OkS.seq ?_;refine d9v w1 100 [0,1,2,3,4,5,6,7,8] [9] 8 7 [4,3,2,1,0,5,7] (by kernel_rfl) (by kernel_rfl) ?_;refine nxI ?_;refine a0r.same _ dk d9O ?_;refine c5l (c0Z (s:=sb k) (a:=9) (b:=288) (z:=.agg #[.nilFunc]) (by kernel_rfl) rfl rfl hlk) ?_;dsimp only [okD];refine nxI ?_;refine nxI ?_;refine fR 200 ?_;refine ifI ?_;refine fR 300 ?_;refine rtI ?_;exact a0a rfl IsPure.out
 obtain ⟨fn,hlk⟩:=(b2E (sb k)).1 hk;rw [d9P rfl];refine OkS.seq ?_;refine OkS.seq ?_;refine d9v w1 100 [0,1,2,3,4,5,6,7,8] [9] 8 7 [4,3,2,1,0,5,7] (by kernel_rfl) (by kernel_rfl) ?_;refine nxI ?_;refine a0r.same _ dk d9O ?_;refine c5l (c3q (s:=sb k) (a:=9) (b:=288) (z:=.agg #[.nilFunc]) (by kernel_rfl) rfl rfl hlk) ?_;dsimp only [okD];refine nxI ?_;refine nxI ?_;refine fR 200 ?_;refine ifI ?_;refine skI ?_;refine OkS.seq ?_;refine fR 400 ?_;refine dI c1 ?_
 by_cases g1:chk st=0
 ·have e8:(((chk st:Nat):Int) != 0)=false:=by rw [g1];rfl
  have cf:=a9j h1 g1;have cs:=b9e (a3F g1).is;have cp:IsPure (a0q st).D:=d9O;rw [d9Q (fun h=>h g1)];refine fR 500 ?_;rw [e8];refine ifI ?_;refine skI ?_;refine OkS.seq ?_;refine fR 700 ?_;refine dI cf ?_;refine dI cs ?_
  by_cases g3:a8Y (a0d st)<=0
  ·rw [d9S g3,d9P g3]
   refine ifI ?_;refine fR 800 ?_;refine rtI ?_;exact a0a rfl IsPure.out
  ·rw [d9U g3,d9Q g3]
   refine ifI ?_;refine skI ?_;refine fR 900 ?_;refine rtI ?_;exact a0a rfl IsPure.out
 ·have e8:(((chk st:Nat):Int) != 0)=true:=a3I (by omega)
  rw [d9P g1];refine fR 500 ?_;rw [e8];refine ifI ?_;refine fR 600 ?_;refine rtI ?_;exact a0a rfl IsPure.out
end
theorem b8C (f:a1N)(hf:f.few):a0b C0 81 [f.D] (i64 (a1m f)):=by
 refine a0c.walk w1 d3H rfl fun F=>?_
 have cn:a0b C0 148 [str (sb f.name)] (boo (a1A f.name)):=a6n (sb f.name);have c1:=a8e f.tol hf.2.1;have cr:=c6K f.kind f.step hf.2.2.2;unfold a1N.D a1m;refine fR 0 ?_;refine OkS.seq ?_;refine fR 100 ?_;refine dI cn ?_;cases hn:a1A f.name
 ·rw [d9Q (by decide)]
  refine ifI ?_;refine fR 200 ?_;refine rtI ?_;exact a0a rfl IsPure.out
 rw [d9P rfl];refine ifI ?_;refine skI ?_;refine OkS.seq ?_;refine fR 300 ?_;refine dI c1 ?_
 by_cases g1:chk f.tol=0
 ·have e8:(((chk f.tol:Nat):Int) != 0)=false:=by rw [g1];rfl
  have cf:=a9j hf.2.1 g1;have cs:=b9e (a3F g1).is;have cw:=a1O (decide (a8Y (a0d f.tol)<0)) 3;have c2:a0b C0 51 [.sl true 1 [i64 (if decide (a8Y (a0d f.tol)<0) then 3 else 0),i64 (a3P f.kind f.step)]] (i64 (a2O [if decide (a8Y (a0d f.tol)<0) then 3 else 0,(a3P f.kind f.step:Int)])):=a8N [if decide (a8Y (a0d f.tol)<0) then 3 else 0,(a3P f.kind f.step:Int)] (by simp);have cp:IsPure (a0q f.tol).D:=d9O;rw [d9Q (fun h=>h g1)];refine fR 400 ?_;rw [e8];refine ifI ?_;refine skI ?_;refine OkS.seq ?_;refine d9n w1 600 [0,1,2,3,4,5,6,7] [8,9,10,11] (by kernel_rfl) ?_;refine nxI ?_;refine a0r.same _ (cf) d9O ?_;refine nxI ?_;refine a0r.same _ (cs) d9O ?_;refine nxI ?_;refine a0r.same _ (cw) d9O ?_;refine nxI ?_;refine dI cr ?_;refine dI c2 ?_;refine rtI ?_;refine a0a ?_ IsPure.out;unfold a2O a2O a2O
  by_cases g3:a8Y (a0d f.tol)<0
  ·simp [g3]
  ·by_cases g4:a3P f.kind f.step=0
   ·simp [g3,g4]
   ·simp [g3,g4]
 ·have e8:(((chk f.tol:Nat):Int) != 0)=true:=a3I (by omega)
  rw [d9P g1];refine fR 400 ?_;rw [e8];refine ifI ?_;refine fR 500 ?_;refine rtI ?_;exact a0a rfl IsPure.out
def c6f {α:Type}(p:α->Bool)(l:List α):Int:=if l.any p then (l.findIdx p:Int) else -1
theorem c1E {α:Type}{p:α->Bool}{l:List α}{i:Nat}{x:α}(hx:l[i]? = some x)(h:p x=true)(ha:∀ (j:Nat) (y:α),j<i->l[j]? = some y->p y=false):c6f p l=i:=by
 unfold c6f;obtain ⟨hi,e⟩:=List.getElem?_eq_some_iff.1 hx;rw [d9P (List.any_eq_true.2 ⟨x,d9V hx,h⟩)]
 have:l.findIdx p=i:=(List.findIdx_eq hi).2 ⟨by rw [e];exact h,fun j hj=>ha j _ hj (d9W _)⟩
 rw [this]
theorem b3a {α:Type}{p:α->Bool}{l:List α}(ha:∀ (j:Nat) (y:α),j<l.length->l[j]? = some y->p y=false):c6f p l = -1:=by
 unfold c6f
 have:=b1C (l:=l) (p:=p) (i:=l.length) ha
 rw [e1S] at this;rw [this];rfl
theorem c1q {α:Type}(p:α->Bool)(l:List α):decide (c6f p l>=0)=l.any p:=by
 unfold c6f;cases l.any p
 ·rfl
 ·exact d9S (by simp)
def b1E (y x:a0M):Bool:=decide (x.name=y.name)
def a7X (y x:a1N):Bool:=decide (x.name=y.name)
theorem d5E (x y:a0M):a0b C0 283 [x.D,.pptr y.D] (boo (b1E y x)):=by
 refine a0c.walk w1 c4v rfl fun F=>?_
 have e1:=a6r x.name y.name;unfold a0M.D b1E;refine sR 0 ?_;refine sZ 100 ?_;refine nwI e1 ?_;refine rtI ?_;exact a0a rfl IsPure.out
theorem d5O (x y:a1N):a0b C0 245 [x.D,.pptr y.D] (boo (a7X y x)):=by
 refine a0c.walk w1 c5u rfl fun F=>?_
 have e1:=a6r x.name y.name;unfold a1N.D a7X;refine sR 0 ?_;refine sZ 100 ?_;refine nwI e1 ?_;refine rtI ?_;exact a0a rfl IsPure.out
theorem d7D (l:List a0M)(y:a0M)(hl:l.length<=1000000):a0b C0 304 [.sl false 3 (l.map a0M.D),.clo (.func 283) [] [.pptr y.D]] (i64 (c6f (b1E y) l)):=by
 refine a0c.walk w1 c4r rfl fun F=>?_
 have el:(((l.map a0M.D).length:Nat):Int)=(l.length:Int):=by rw [d9X]
 refine sR 0 ?_;refine OkS.seq ?_;refine sZ 100 ?_;refine nwI el ?_;refine OkS.block ?_;refine OkS.loop (α:=Nat × Nat) (fun p=>⟨[(0,.sl false 3 (l.map a0M.D)),(1,.clo (.func 283) [] [.pptr y.D]),(7,i64 l.length),(8,i64 (p.1:Int))],[],p.2⟩) (fun p=>l.length - p.1) (fun p=>p.1<=l.length/\∀ (j:Nat) (x:a0M),j<p.1->l[j]? = some x->b1E y x=false) (0,_) ⟨e0y _,fun j x hj=>d9R hj (e1i j)⟩ wkI ?_;rintro ⟨i,n⟩ F ⟨hi,ha⟩;dsimp only at hi ha ⊢;refine sR 200 ?_;refine OkS.seq ?_;refine ifI ?_
 (refine brI (fun hlt=>?_) (fun hlt=>?_))<;>(try simp only [e0a,e0c] at hlt)<;>(try simp only [hlt])
 ·have hi2:i<l.length:=by
   have:=e0p hlt
   omega
  obtain ⟨x,hx⟩:∃ x,l[i]? = some x:=⟨l[i],d9W hi2⟩
  have hm:(l.map a0M.D)[i]? = some x.D:=by rw [e0l,hx];rfl
  have cn:=d5E x y;have wi:IntKind.i64.wrap ((i:Int)+1)=((i+1:Nat):Int):=wI (by omega) (by omega);unfold a0M.D at hm;unfold a0M.D at cn;refine skI ?_;refine OkS.seq ?_;refine OkS.block ?_;refine sR 300 ?_;refine sZ 400 ?_;refine gwI kN ?_;refine ixI kT hm ?_;refine gwI kN ?_;refine a0j.same _ cn d9O ?_;refine stI ?_;cases hb:b1E y x
  ·refine ifI ?_
   refine skI ?_;refine d9l w1 600 (by kernel_rfl) ?_;refine nwI wi ?_;refine ⟨(i+1,_),⟨hi2,fun j z hj hjz=>?_⟩,by dsimp only;omega,wkI⟩;rcases e0j j i with h|h
   ·exact ha j z h hjz
   ·have:j=i:=by dsimp only at hj;omega
    subst this;rw [hx] at hjz;cases hjz;exact hb
  ·refine ifI ?_
   refine sR 500 ?_;refine rtI ?_;exact a0a (by rw [c1E hx hb ha]) IsPure.out
 ·have hi2:i=l.length:=by
   have:=e0i hlt
   omega
  subst hi2;refine exI ?_;refine sR 700 ?_;refine rtI ?_;exact a0a (by rw [b3a ha]) IsPure.out
theorem d8l (l:List a1N)(y:a1N)(hl:l.length<=1000000):a0b C0 281 [.sl false 4 (l.map a1N.D),.clo (.func 245) [] [.pptr y.D]] (i64 (c6f (a7X y) l)):=by
 refine a0c.walk w1 c5g rfl fun F=>?_
 have el:(((l.map a1N.D).length:Nat):Int)=(l.length:Int):=by rw [d9X]
 refine sR 0 ?_;refine OkS.seq ?_;refine sZ 100 ?_;refine nwI el ?_;refine OkS.block ?_;refine OkS.loop (α:=Nat × Nat) (fun p=>⟨[(0,.sl false 4 (l.map a1N.D)),(1,.clo (.func 245) [] [.pptr y.D]),(7,i64 l.length),(8,i64 (p.1:Int))],[],p.2⟩) (fun p=>l.length - p.1) (fun p=>p.1<=l.length/\∀ (j:Nat) (x:a1N),j<p.1->l[j]? = some x->a7X y x=false) (0,_) ⟨e0y _,fun j x hj=>d9R hj (e1i j)⟩ wkI ?_;rintro ⟨i,n⟩ F ⟨hi,ha⟩;dsimp only at hi ha ⊢;refine sR 200 ?_;refine OkS.seq ?_;refine ifI ?_
 (refine brI (fun hlt=>?_) (fun hlt=>?_))<;>(try simp only [e0a,e0c] at hlt)<;>(try simp only [hlt])
 ·have hi2:i<l.length:=by
   have:=e0p hlt
   omega
  obtain ⟨x,hx⟩:∃ x,l[i]? = some x:=⟨l[i],d9W hi2⟩
  have hm:(l.map a1N.D)[i]? = some x.D:=by rw [e0l,hx];rfl
  have cn:=d5O x y;have wi:IntKind.i64.wrap ((i:Int)+1)=((i+1:Nat):Int):=wI (by omega) (by omega);unfold a1N.D at hm;unfold a1N.D at cn;refine skI ?_;refine OkS.seq ?_;refine OkS.block ?_;refine sR 300 ?_;refine sZ 400 ?_;refine gwI kN ?_;refine ixI kT hm ?_;refine gwI kN ?_;refine a0j.same _ cn d9O ?_;refine stI ?_;cases hb:a7X y x
  ·refine ifI ?_
   refine skI ?_;refine d9l w1 600 (by kernel_rfl) ?_;refine nwI wi ?_;refine ⟨(i+1,_),⟨hi2,fun j z hj hjz=>?_⟩,by dsimp only;omega,wkI⟩;rcases e0j j i with h|h
   ·exact ha j z h hjz
   ·have:j=i:=by dsimp only at hj;omega
    subst this;rw [hx] at hjz;cases hjz;exact hb
  ·refine ifI ?_
   refine sR 500 ?_;refine rtI ?_;exact a0a (by rw [c1E hx hb ha]) IsPure.out
 ·have hi2:i=l.length:=by
   have:=e0i hlt
   omega
  subst hi2;refine exI ?_;refine sR 700 ?_;refine rtI ?_;exact a0a (by rw [b3a ha]) IsPure.out
theorem d8r (l:List a0M)(y:a0M)(hl:l.length<=1000000):a0b C0 282 [.sl false 3 (l.map a0M.D),.clo (.func 283) [] [.pptr y.D]] (boo (l.any (b1E y))):=by
 refine a0c.walk w1 c5M rfl fun F=>?_
 have c1:=d7D l y hl;have e1:=c1q (b1E y) l;refine sR 0 ?_;refine sR 100 ?_;refine cI c1 ?_
 try rw [e1]
 refine rtI ?_;exact a0a (by first|rfl|(rw [<- e1])) IsPure.out
theorem d7A (l:List a1N)(y:a1N)(hl:l.length<=1000000):a0b C0 244 [.sl false 4 (l.map a1N.D),.clo (.func 245) [] [.pptr y.D]] (boo (l.any (a7X y))):=by
 refine a0c.walk w1 c4y rfl fun F=>?_
 have c1:=d8l l y hl;have e1:=c1q (a7X y) l;refine sR 0 ?_;refine sR 100 ?_;refine cI c1 ?_
 try rw [e1]
 refine rtI ?_;exact a0a (by first|rfl|(rw [<- e1])) IsPure.out
set_option maxHeartbeats 4000000
def a5C (l:List UInt8):GF:=if l=[] then ⟨mkG 0,0⟩ else a0q l
abbrev c8T (l:List UInt8):List D:=[boo (decide (l=[])),i64 (a5C l).n.s,(a5C l).n.w,i64 (mkG ((a5C l).d:Int)).s,(mkG ((a5C l).d:Int)).w]
abbrev c7s (p q:Bool)(a b:List UInt8):List D:=[boo p,i64 (a5C a).n.s,(a5C a).n.w,i64 (mkG ((a5C a).d:Int)).s,(mkG ((a5C a).d:Int)).w,boo q,i64 (a5C b).n.s,(a5C b).n.w,i64 (mkG ((a5C b).d:Int)).s,(mkG ((a5C b).d:Int)).w]
theorem a7f {l:List UInt8}(h:a2z l=0)(h0:l≠[]):FR (a0d l) (a5C l) 600:=by
 unfold a5C;rw [d9Q h0];exact a3F (a1g h h0)
theorem b5s {a b:List UInt8}(ha:a2z a=0)(hb:a2z b=0)(ga:a≠[])(gb:b≠[]):a0b C0 117 [(a5C a).D,(a5C b).D] (i64 (a1e (a0d a) (a0d b))) :=
 b0t (a7f ha ga) (a7f hb gb) (by decide)
instance  (l:List UInt8):IsPure (.agg (c8T l)):=d9O
theorem b0J (l:List UInt8)(hl:l.length<=100000)(h:a2z l=0):a0b C0 173 [str (sb l)] (.agg (c8T l)):=by
 refine a0c.walk w1 c5N rfl fun F=>?_
 have e1:=a1l l;refine sR 0 ?_;refine OkS.seq ?_
 by_cases g:l=[]
 ·rw [d9S g] at e1
  unfold c8T a5C;rw [d9P g,d9S g];refine sZ 100 ?_;refine nwI e1 ?_;refine ifI ?_;refine sR 200 ?_;refine rtI ?_;exact a0a rfl IsPure.out
 ·have cf:a0b C0 75 [str (sb l)] (a5C l).D:=by
   unfold a5C;rw [d9Q g];exact a9j hl (a1g h g)
  rw [d9U g] at e1;unfold c8T;rw [d9U g];have cp:IsPure (a5C l).D:=d9O;dsimp only [GF.D] at cf cp;refine sZ 100 ?_;refine nwI e1 ?_;refine ifI ?_;refine skI ?_;refine sR 300 ?_;refine cI cf ?_;refine rtI ?_;exact a0a rfl IsPure.out
def c2h:Option a0M->D
 | none=>.prim (.pointer none)
 | some g=>.pptr g.D
instance  (p:Option a0M):IsPure (c2h p):=by
 cases p<;>unfold c2h<;>exact d9O
def c2d (p:Option a0M)(k:Nat):Option (List UInt8 × List UInt8):=p.map fun g=>(lv g.least k,lv g.most k)
theorem b5T (a b:Rat):decide (a1e a b>0)=decide (a1e b a<0):=e0O.2 (by
 unfold a1e
 by_cases h1:a<b
 ·have h2:¬ b<a:=by grind
  rw [d9P h1,d9Q h2,d9P h1];decide
 ·by_cases h2:b<a
  ·rw [d9Q h1,d9P h2,d9P h2];decide
  ·rw [d9Q h1,d9Q h2,d9Q h2,d9Q h1])
theorem d1U (a b:Rat):(!decide (a1e a b<0))=decide (a1e b a<=0):=by
 rw [<- b5T]
 by_cases h:a1e b a>0
 ·rw [d9S h,d9U (by omega)];rfl
 ·rw [d9U h,d9S (by omega)];rfl
theorem c7l (g:a0M)(k:Nat)(p:Option a0M)(hg:g.few)(k1:k<g.least.length)(k2:k<g.most.length)
  (hp:∀ y,p=some y->y.few/\k<y.least.length/\k<y.most.length/\a2z (lv y.least k)=0/\a2z (lv y.most k)=0) :
  a0b C0 284 [g.D,i64 (k:Int),c2h p] (i64 (a1r (lv g.least k) (lv g.most k) (c2d p k))):=by
 refine a0c.walk w1 c5p rfl fun F=>?_
 have m1:=a1V k1;have m2:=a1V k2;have f1:=a6P k1 hg.2.2.2.1;have f2:=a6P k2 hg.2.2.2.2;obtain ⟨a,ea⟩:∃ a,lv g.least k=a:=⟨_,rfl⟩
 obtain ⟨b,eb⟩:∃ b,lv g.most k=b:=⟨_,rfl⟩
 rw [ea] at m1 f1 ⊢;rw [eb] at m2 f2 ⊢;unfold a0M.D;refine sR 0 ?_;refine OkS.seq ?_;refine d9n w1 100 [0,1,2,3,4,5,6,7,8,9,10] [11] (by kernel_rfl) ?_;refine gwI kN ?_;refine ixI kT m1 ?_;refine gwI kN ?_;refine ixI kT m2 ?_;refine gwI kN ?_;refine d9A (α:=Nat) (fun n=>⟨[(1,i64 (k:Int)),(2,c2h p),(7,str (sb a)),(8,str (sb b))],[],n⟩) (fun _=>a2z a=0/\a2z b=0) ?_ ?_
 ·refine sR 200 ?_
  refine OkS.block ?_;refine d9k (α:=Nat × Nat) (fun q=>⟨[(1,i64 (k:Int)),(2,c2h p),(7,str (sb a)),(8,str (sb b)),(26,.sl true 1 [str (sb a),str (sb b)]),(27,i64 2),(28,i64 (q.1:Int))],[],q.2⟩) (fun q=>2 - q.1) (fun q F'=>F'=F/\q.1<=2/\∀ j,j<q.1->a2z (lv [a,b] j)=0) (0,_) ⟨rfl,e0y _,fun j hj=>d9R hj (e1i j)⟩ wkI ?_;rintro ⟨i,n⟩ F' ⟨rfl,hi,ha⟩;dsimp only at hi ha ⊢;refine sR 300 ?_;refine OkS.seq ?_;refine ifI ?_
  (refine brI (fun hlt=>?_) (fun hlt=>?_))<;>(try simp only [e0a,e0c] at hlt)<;>(try simp only [hlt])
  ·have hi2:i<2:=by
    have:=e0p hlt
    omega
   have hm:[str (sb a),str (sb b)][i]? = some (str (sb (lv [a,b] i))):=a1V (l:=[a,b]) hi2;have wi:IntKind.i64.wrap ((i:Int)+1)=((i+1:Nat):Int):=wI (by omega) (by omega);have hx:(lv [a,b] i).length<=100000:=a6P (l:=[a,b]) hi2 (fun x hx=>by
    simp only [e0m,e0M,or_false] at hx;rcases hx with rfl|rfl
    ·exact f1
    ·exact f2)
   have hret:a2z (lv [a,b] i)≠0->a1r a b (c2d p k)=a2z (lv [a,b] i):=fun h=>by
    have hc:i=0\/i=1:=by omega
    unfold a1r;rcases hc with rfl|rfl
    ·exact d9P h
    ·have h0:a2z a=0:=ha 0 (by omega)
     rw [d9Q (fun hh=>hh h0)];exact d9P h
   obtain ⟨x,ex⟩:∃ x,lv [a,b] i=x:=⟨_,rfl⟩
   have hnext:a2z x=0->∀ j,j<i+1->a2z (lv [a,b] j)=0:=fun h j hj=>by
    rcases e0j j i with h2|h2
    ·exact ha j h2
    ·have:j=i:=by omega
     rw [this,ex];exact h
   rw [ex] at hm hx hret;have c1:=a8e x hx;have e1:=a1l x;refine skI ?_;refine OkS.seq ?_;refine OkS.block ?_;refine sZ 400 ?_;refine gwI kN ?_;refine ixI kT hm ?_;refine gwI kN ?_
   by_cases g0:x=[]
   ·have l0:a2z x=0:=by unfold a2z;rw [d9P g0]
    rw [d9S g0] at e1;refine sZ 500 ?_;refine nwI (ff2 e1 kT) ?_;refine ifI ?_;refine skI ?_;refine d9l w1 900 (by kernel_rfl) ?_;refine nwI wi ?_;exact ⟨(i+1,_),⟨trivial,hi2,hnext l0⟩,by dsimp only;omega,wkI⟩
   ·have l0:a2z x=chk x:=by unfold a2z;rw [d9Q g0]
    rw [d9U g0] at e1;refine sZ 500 ?_;refine nwI (ff2 e1 kF) ?_;refine ifI ?_;refine sR 600 ?_;refine cI c1 ?_
    by_cases g:chk x=0
    ·have e5:(((chk x:Nat):Int) != 0)=false:=by rw [g];rfl
     refine sZ 700 ?_;refine nwI e5 ?_;refine ifI ?_;refine skI ?_;refine d9l w1 900 (by kernel_rfl) ?_;refine nwI wi ?_;exact ⟨(i+1,_),⟨trivial,hi2,hnext (by rw [l0];exact g)⟩,by dsimp only;omega,wkI⟩
    ·have e5:(((chk x:Nat):Int) != 0)=true:=a3I (by omega)
     refine sZ 700 ?_;refine nwI e5 ?_;refine ifI ?_;refine sR 800 ?_;refine rtI ?_;exact a0a (by rw [hret (by rw [l0];exact g),l0]) IsPure.out
  ·have hi2:i=2:=by
    have:=e0i hlt
    omega
   subst hi2;refine exI ?_;exact ⟨rfl,_,⟨ha 0 (by omega),ha 1 (by omega)⟩,wkI⟩
 rintro n0 ⟨la,lb⟩;have ra:=b0J a f1 la;have rb:=b0J b f2 lb;obtain ⟨qa,hqa⟩:∃ q,decide (a=[])=q:=⟨_,rfl⟩
 obtain ⟨qb,hqb⟩:∃ q,decide (b=[])=q:=⟨_,rfl⟩
 dsimp only [c8T] at ra rb;rw [hqa] at ra;rw [hqb] at rb;refine sR 1000 ?_;refine cI ra ?_;refine cI rb ?_;refine d9A (α:=Nat × Nat) (fun q=>⟨[(1,i64 (k:Int)),(2,c2h p),(12,.optr 1005 q.1 10 0 0)],[⟨1005,q.1,123,10,[.agg (c7s qa qb a b)]⟩],q.2⟩) (fun _=>¬ (a≠[]/\b≠[]/\a1e (a0d a) (a0d b)>0)) ?_ ?_
 ·cases qa
  rotate_left
  ·refine sZ 1100 ?_
   refine nwI kB ?_;refine gwI kB ?_;refine gwI kB ?_;refine ifI ?_;refine skI ?_;exact ⟨rfl,(_,_),fun h=>h.1 (e0p hqa),wkI⟩
  have ga:=e0i hqa;cases qb
  rotate_left
  ·refine sZ 1100 ?_
   refine nwI kB ?_;refine gwI kB ?_;refine gwI kB ?_;refine ifI ?_;refine skI ?_;exact ⟨rfl,(_,_),fun h=>h.2.1 (e0p hqb),wkI⟩
  have gb:=e0i hqb;have cc:=b5s la lb ga gb;refine sZ 1100 ?_;refine nwI kB ?_;refine gwI kB ?_;refine gwI kB ?_;refine gcI kB ?_;refine a0j.same _ cc d9O ?_;refine gwI kB ?_
  by_cases g3:a1e (a0d a) (a0d b)>0
  ·rw [d9S g3]
   refine ifI ?_;refine sR 1200 ?_;refine rtI ?_;refine a0a ?_ IsPure.out;unfold a1r;rw [d9Q (fun h=>h la),d9Q (fun h=>h lb),d9P ⟨ga,gb,g3⟩];rfl
  ·rw [d9U g3]
   refine ifI ?_;refine skI ?_;exact ⟨rfl,(_,_),fun h=>g3 h.2.2,wkI⟩
 rintro ⟨h0,n1⟩ hcmp;have hck:a1r a b (c2d p k)=match c2d p k with|none=>0|some (c,d)=>if a7T a b c d then 0 else 11:=by
  unfold a1r;rw [d9Q (fun h=>h la),d9Q (fun h=>h lb),d9Q hcmp]
  all_goals (cases c2d p k<;>rfl)
 rw [hck];cases p with
 | none =>
  dsimp only [c2h,c2d,Option.map];refine OkS.seq ?_;refine sR 1300 ?_;refine ifI ?_;refine sR 1400 ?_;refine rtI ?_;exact a0a rfl IsPure.out
 | some y =>
  obtain ⟨yf,y1,y2,lc,ld⟩:=hp y rfl;have m3:=a1V y1;have m4:=a1V y2;have f3:=a6P y1 yf.2.2.2.1;have f4:=a6P y2 yf.2.2.2.2;dsimp only [c2h,c2d,Option.map];obtain ⟨c,ec⟩:∃ c,lv y.least k=c:=⟨_,rfl⟩
  obtain ⟨d,ed⟩:∃ d,lv y.most k=d:=⟨_,rfl⟩
  rw [ec] at m3 f3 lc ⊢;rw [ed] at m4 f4 ld ⊢;have rc:=b0J c f3 lc;have rd:=b0J d f4 ld;obtain ⟨qc,hqc⟩:∃ q,decide (c=[])=q:=⟨_,rfl⟩
  obtain ⟨qd,hqd⟩:∃ q,decide (d=[])=q:=⟨_,rfl⟩
  have hord:a7T a b c d=((qa||(!qc && !decide (a1e (a0d a) (a0d c)>0)))&&(qb||(!qd && !decide (a1e (a0d b) (a0d d)<0)))):=by
   unfold a7T;rw [hqa,hqb,hqc,hqd,b5T (a0d a) (a0d c),d1U (a0d b) (a0d d)]
  dsimp only [c8T] at rc rd;rw [hqc] at rc;rw [hqd] at rd;unfold a0M.D;refine OkS.seq ?_;refine sR 1300 ?_;refine ifI ?_;refine skI ?_;refine OkS.seq ?_;refine d9n w1 1500 [0,1,2,3,4,5,6,7,8,9,10,11,12,13,14,15,16,17] [18] (by kernel_rfl) ?_;refine gwI kN ?_;refine ixI kT m3 ?_;refine gwI kN ?_;refine a0r.same _ rc d9O ?_;refine gwI kN ?_;refine ixI kT m4 ?_;refine gwI kN ?_;refine a0r.same _ rd d9O ?_;refine gwI kN ?_;refine OkS.seq ?_;cases qa
  rotate_left
  ·skip
   cases qb
   rotate_left
   ·refine sZ 1600 ?_
    refine nwI kB ?_;refine gwI kB ?_;refine gwI kB ?_;refine ifI ?_;refine skI ?_;refine sR 1800 ?_;refine rtI ?_;exact a0a (by rw [hord];simp []) IsPure.out
   have gb:=e0i hqb;cases qd
   rotate_left
   ·refine sZ 1600 ?_
    refine nwI kB ?_;refine gwI kB ?_;refine gwI kB ?_;refine gwI kB ?_;refine ifI ?_;refine sR 1700 ?_;refine rtI ?_;exact a0a (by rw [hord];simp []) IsPure.out
   have gd:=e0i hqd;have cc2:=b5s lb ld gb gd;refine sZ 1600 ?_;refine nwI kB ?_;refine gwI kB ?_;refine gwI kB ?_;refine gwI kB ?_;refine gcI kB ?_;refine a0j.same _ cc2 d9O ?_;refine gwI kB ?_;refine gwI kB ?_
   by_cases g4:a1e (a0d b) (a0d d)<0
   ·rw [d9S g4]
    refine ifI ?_;refine sR 1700 ?_;refine rtI ?_;exact a0a (by rw [hord];simp [g4]) IsPure.out
   ·rw [d9U g4]
    refine ifI ?_;refine skI ?_;refine sR 1800 ?_;refine rtI ?_;exact a0a (by rw [hord];simp [g4]) IsPure.out
  have ga:=e0i hqa;cases qc
  rotate_left
  ·refine sZ 1600 ?_
   refine nwI kB ?_;refine gwI kB ?_;refine gwI kB ?_;refine ifI ?_;refine sR 1700 ?_;refine rtI ?_;exact a0a (by rw [hord];simp) IsPure.out
  have gc:=e0i hqc;have cc:=b5s la lc ga gc;refine sZ 1600 ?_;refine nwI kB ?_;refine gwI kB ?_;refine gwI kB ?_;refine gcI kB ?_;refine a0j.same _ cc d9O ?_;refine gwI kB ?_
  by_cases g3:a1e (a0d a) (a0d c)>0
  ·rw [d9S g3]
   refine gwI kB ?_;refine gwI kB ?_;refine ifI ?_;refine sR 1700 ?_;refine rtI ?_;exact a0a (by rw [hord];simp [g3]) IsPure.out
  ·rw [d9U g3]
   cases qb
   rotate_left
   ·skip
    refine gwI kB ?_;refine gwI kB ?_;refine ifI ?_;refine skI ?_;refine sR 1800 ?_;refine rtI ?_;exact a0a (by rw [hord];simp [g3]) IsPure.out
   have gb:=e0i hqb;cases qd
   rotate_left
   ·skip
    refine gwI kB ?_;refine gwI kB ?_;refine gwI kB ?_;refine ifI ?_;refine sR 1700 ?_;refine rtI ?_;exact a0a (by rw [hord];simp [g3]) IsPure.out
   have gd:=e0i hqd;have cc2:=b5s lb ld gb gd;refine gwI kB ?_;refine gwI kB ?_;refine gwI kB ?_;refine gcI kB ?_;refine a0j.same _ cc2 d9O ?_;refine gwI kB ?_;refine gwI kB ?_
   by_cases g4:a1e (a0d b) (a0d d)<0
   ·rw [d9S g4]
    refine ifI ?_;refine sR 1700 ?_;refine rtI ?_;exact a0a (by rw [hord];simp [g3,g4]) IsPure.out
   ·rw [d9U g4]
    refine ifI ?_;refine skI ?_;refine sR 1800 ?_;refine rtI ?_;exact a0a (by rw [hord];simp [g3,g4]) IsPure.out
theorem c1U (l:List a0M)(g:a0M):l.any (b1E g)=l.any (fun x=>decide (x.name=g.name)):=rfl
def b1F (gs:List a0M)(i:Nat):Option a0M:=if i=0 then none else some (gs.getD (i - 1) default)
theorem b4c (gs:List a0M)(i k:Nat):c2d (b1F gs i) k=a1Y gs i k:=by
 unfold c2d b1F a1Y
 by_cases h:i=0
 ·rw [d9P h,d9P h];rfl
 ·rw [d9Q h,d9Q h];rfl
theorem c9H (s:a0Y)(i:Nat)(hs:s.few)(hi:i<s.gs.length)(hp:0<i->gOk s.fs.length (s.gs.getD (i - 1) default)) :
  a0b C0 246 [s.D,i64 (i:Int)] (i64 (a0E s.fs.length s.gs i)):=by
 refine a0c.walk w1 c5s rfl fun F=>?_
 have hm:=b6m hi;have hgf:=hs.2.2.2 _ (d9V (a3r hi));have hmp:0<i->(s.gs.map a0M.D)[i - 1]? = some (s.gs.getD (i - 1) default).D:=fun h=>by
  rw [e0l,a3r (by omega)];rfl
 have hpf:0<i->(s.gs.getD (i - 1) default).few:=fun h=>hs.2.2.2 _ (d9V (a3r (by omega)))
 have hpre:∀ k,c2d (b1F s.gs i) k=a1Y s.gs i k:=b4c s.gs i;have hprev:∀ y,b1F s.gs i=some y->y=s.gs.getD (i - 1) default/\0<i:=fun y h=>by
  unfold b1F at h
  by_cases h0:i=0
  ·rw [d9P h0] at h;cases h
  ·rw [d9Q h0] at h;cases h;exact ⟨rfl,by omega⟩
 have el1:(((s.fs.map a1N.D).length:Nat):Int)=(s.fs.length:Int):=by rw [d9X]
 have ls:=hs.1;have lg:=hs.2.1;have hcg:∀ g,s.gs.getD i default=g->a0E s.fs.length s.gs i=if a1A g.name then
  (if (s.gs.take i).any (fun x=>decide (x.name=g.name)) then 9
  else if g.least.length=s.fs.length/\g.most.length=s.fs.length then a9b (fun k=>a1r (lv g.least k) (lv g.most k) (a1Y s.gs i k)) s.fs.length
  else 2)
 else 8:=fun g h=>by unfold a0E;rw [h]
 obtain ⟨g,hg⟩:∃ g,s.gs.getD i default=g:=⟨_,rfl⟩
 rw [hcg g hg];rw [hg] at hm hgf;have cn:a0b C0 148 [str (sb g.name)] (boo (a1A g.name)):=a6n (sb g.name);have ca:a0b C0 282 [.sl false 3 ((s.gs.map a0M.D).take i),.clo (.func 283) [] [.pptr g.D]] (boo ((s.gs.take i).any (b1E g))):=by
  have:=d8r (s.gs.take i) g (by rw [e0n];omega)
  rw [e3b] at this;exact this
 rw [c1U] at ca;obtain ⟨n,hn⟩:∃ n,s.fs.length=n:=⟨_,rfl⟩
 rw [hn] at el1 hp ls ⊢;obtain ⟨fsD,hfsD⟩:∃ x,s.fs.map a1N.D=x:=⟨_,rfl⟩
 obtain ⟨gsD,hgsD⟩:∃ x,s.gs.map a0M.D=x:=⟨_,rfl⟩
 have pf:IsPure (.sl false 4 fsD):=by rw [<- hfsD];exact d9O
 have pg:IsPure (.sl false 3 gsD):=by rw [<- hgsD];exact d9O
 have pgt:IsPure (.sl false 3 (gsD.take i)):=by
  rw [<- hgsD,<- e3b];exact d9O
 have gl:gsD.length=s.gs.length:=by rw [<- hgsD,d9X]
 unfold a0Y.D;rw [hfsD,hgsD];rw [hfsD] at el1;rw [hgsD] at hm hmp ca;unfold a0M.D at ca;refine sR 0 ?_;refine sZ 100 ?_;refine gwI kN ?_;refine ixI kT hm ?_;refine gwI kN ?_;refine OkS.seq ?_;refine sR 200 ?_;refine cI cn ?_;cases hnm:a1A g.name
 ·rw [d9Q (by decide)]
  refine ifI ?_;refine sR 300 ?_;refine rtI ?_;exact a0a rfl IsPure.out
 rw [d9P rfl];refine ifI ?_;refine skI ?_;refine OkS.seq ?_;refine sZ 400 ?_;refine gwI kN ?_;simp only [Nat.sub_zero,e1C];refine a0j.own _ (d9F ca rfl (d3V (FzS.refl _ _) (.clo1 (.ptr rfl rfl rfl rfl))) d9O (.prim _)) ?_;rintro d H2 n2 ⟨rfl,rfl,rfl⟩;refine stI ?_;cases hany:(s.gs.take i).any (fun x=>decide (x.name=g.name))
 rotate_left
 ·rw [d9P rfl]
  refine ifI ?_;refine sR 500 ?_;refine rtI ?_;exact a0a rfl IsPure.out
 rw [d9Q (by decide)];refine ifI ?_;refine skI ?_;have el2:(((g.least.map fun l=>str (sb l)).length:Nat):Int)=(g.least.length:Int):=by rw [d9X]
 have el3:(((g.most.map fun l=>str (sb l)).length:Nat):Int)=(g.most.length:Int):=by rw [d9X]
 by_cases h1:g.least.length=n
 rotate_left
 ·have e3:(((g.least.length:Nat):Int) != ((n:Nat):Int))=true:=by
   have:(((g.least.length:Nat):Int)==((n:Nat):Int))=false:=e0g.2 (by omega)
   unfold bne;rw [this];rfl
  rw [d9Q (fun h=>h1 h.1)];refine OkS.seq ?_;refine sZ 600 ?_;refine nwI (ff5 el1 el2 e3 kT kF) ?_;refine gwI kB ?_;refine ifI ?_;refine sR 700 ?_;refine rtI ?_;exact a0a rfl IsPure.out
 have e3:(((g.least.length:Nat):Int) != ((n:Nat):Int))=false:=by rw [h1];simp
 by_cases h2:g.most.length=n
 rotate_left
 ·have e4:(((g.most.length:Nat):Int) != ((n:Nat):Int))=true:=by
   have:(((g.most.length:Nat):Int)==((n:Nat):Int))=false:=e0g.2 (by omega)
   unfold bne;rw [this];rfl
  rw [d9Q (fun h=>h2 h.2)];refine OkS.seq ?_;refine sZ 600 ?_;refine nwI (ff5 el1 el2 e3 kT kF) ?_;refine gwI kB ?_;simp only [el1,el3,e4];refine ifI ?_;refine sR 700 ?_;refine rtI ?_;exact a0a rfl IsPure.out
 have e4:(((g.most.length:Nat):Int) != ((n:Nat):Int))=false:=by rw [h2];simp
 rw [d9P ⟨h1,h2⟩];refine OkS.seq ?_;refine sZ 600 ?_;refine nwI (ff5 el1 el2 e3 kT kF) ?_;refine gwI kB ?_;simp only [el1,el3,e4];refine ifI ?_;refine skI ?_;refine sR 800 ?_;obtain ⟨P,hP⟩:∃ P,c2h (b1F s.gs i)=P:=⟨_,rfl⟩
 have pP:IsPure P:=by rw [<- hP];exact d9O
 refine d9A (α:=Nat) (fun m=>⟨[(2,.optr 0 0 2 0 0),(5,.optr 105 7 3 0 0),(6,P)],[⟨105,7,67,3,[.agg [str (sb g.name),.sl false 1 (g.least.map fun l=>str (sb l)),.sl false 1 (g.most.map fun l=>str (sb l))]]⟩,⟨0,0,25,2,[.agg [.sl false 4 fsD,.sl false 3 gsD]]⟩],m⟩) (fun _=>True) ?_ ?_
 ·by_cases h0:i=0
  ·have e5:decide ((i:Int)>0)=false:=d9U (by omega)
   have:P=.prim (.pointer none):=by rw [<- hP];unfold b1F;rw [d9P h0];rfl
   subst this;refine sZ 900 ?_;refine nwI e5 ?_;refine ifI ?_;refine skI ?_;exact ⟨rfl,_,trivial,wkI⟩
  ·have e5:decide ((i:Int)>0)=true:=d9S (by omega)
   have:P=.pptr (s.gs.getD (i - 1) default).D:=by rw [<- hP];unfold b1F;rw [d9Q h0];rfl
   subst this;have ws:IntKind.i64.wrap ((i:Int) - 1)=((i - 1:Nat):Int):=by
    rw [show (i:Int) - 1=((i - 1:Nat):Int) by omega];exact wI (by omega) (by omega)
   have hm1:=hmp (by omega);refine sZ 900 ?_;refine nwI e5 ?_;refine ifI ?_;refine d9l w1 1000 (by kernel_rfl) ?_;refine gwI (ff2 ws kN) ?_
   try simp only [ws]
   refine ixI kT hm1 ?_;refine gwI (ff2 ws kN) ?_;exact ⟨trivial,_,trivial,wkI⟩
 rintro n3 -;refine OkS.seq ?_;refine sZ 1100 ?_;refine nwI el1 ?_;refine OkS.block ?_;refine OkS.loop (α:=Nat × Nat) (fun q=>⟨[(5,.optr 105 7 3 0 0),(6,P),(49,i64 (n:Int)),(50,i64 (q.1:Int))],[⟨105,7,67,3,[.agg [str (sb g.name),.sl false 1 (g.least.map fun l=>str (sb l)),.sl false 1 (g.most.map fun l=>str (sb l))]]⟩],q.2⟩) (fun q=>n - q.1) (fun q=>q.1<=n/\∀ j,j<q.1->a1r (lv g.least j) (lv g.most j) (a1Y s.gs i j)=0) (0,_) ⟨e0y _,fun j hj=>d9R hj (e1i j)⟩ wkI ?_;rintro ⟨k,m⟩ F ⟨hk,ha⟩;dsimp only at hk ha ⊢;refine sR 1200 ?_;refine OkS.seq ?_;refine ifI ?_
 (refine brI (fun hlt=>?_) (fun hlt=>?_))<;>(try simp only [e0a,e0c] at hlt)<;>(try simp only [hlt])
 ·have hk2:k<n:=by
   have:=e0p hlt
   omega
  have wi:IntKind.i64.wrap ((k:Int)+1)=((k+1:Nat):Int):=wI (by omega) (by omega);have cl:=c7l g k (b1F s.gs i) hgf (by omega) (by omega) (fun y hy=>by
   obtain ⟨rfl,hi0⟩:=hprev y hy;obtain ⟨q1,q2,q3⟩:=hp hi0
   have:=q3 k hk2
   exact ⟨hpf hi0,by omega,by omega,this.1,this.2⟩)
  rw [hP,hpre k] at cl;unfold a0M.D at cl;obtain ⟨c,hc⟩:∃ c,a1r (lv g.least k) (lv g.most k) (a1Y s.gs i k)=c:=⟨_,rfl⟩
  rw [hc] at cl;refine skI ?_;refine OkS.seq ?_;refine OkS.block ?_;refine sR 1300 ?_;refine sR 1400 ?_;refine cI cl ?_
  by_cases g1:c=0
  ·have e5:(((c:Nat):Int) != 0)=false:=by rw [g1];rfl
   refine sZ 1500 ?_;refine nwI e5 ?_;refine ifI ?_;refine skI ?_;refine d9l w1 1700 (by kernel_rfl) ?_;refine nwI wi ?_;refine ⟨(k+1,_),⟨hk2,fun j hj=>?_⟩,by dsimp only;omega,wkI⟩;rcases e0j j k with h|h
   ·exact ha j h
   ·have:j=k:=by dsimp only at hj;omega
    rw [this,hc];exact g1
  ·have e5:(((c:Nat):Int) != 0)=true:=a3I (by omega)
   refine sZ 1500 ?_;refine nwI e5 ?_;refine ifI ?_;refine sR 1600 ?_;refine rtI ?_;refine a0a ?_ IsPure.out;rw [a7s (f:=fun k=>a1r (lv g.least k) (lv g.most k) (a1Y s.gs i k)) ha hk2 (by show a1r (lv g.least k) (lv g.most k) (a1Y s.gs i k)≠0;rw [hc];exact g1)]
   try dsimp only
   rw [hc]
 ·have hk2:k=n:=by
   have:=e0i hlt
   omega
  subst hk2;refine exI ?_;refine sR 1800 ?_;refine rtI ?_;exact a0a (by rw [a3h ha];rfl) IsPure.out
def d6V (N:Hp):Prop:=N=[]\/∃ g es,N=[⟨303,g,72,4,es⟩]
def d4i (e:Int)(Ha Hb:Hp)(j:Option Code)(H':Hp):Prop:=(e=0->j=none/\H'=Ha)/\(e≠0->j=some .ret/\H'=Hb)
theorem b7L (n:Nat):a2O [if ((n:Int)==0) then 2 else 0,if decide ((n:Int)>8) then 5 else 0]=((b2q n:Nat):Int):=by
 unfold b2q
 by_cases h:n=0
 ·subst h;decide
 ·have e1:((n:Int)==0)=false:=e0g.2 (by omega)
  rw [e1,d9Q h]
  by_cases h2:n>8
  ·have e2:decide ((n:Int)>8)=true:=d9S (by omega)
   rw [e2,d9P h2];rfl
  ·have e2:decide ((n:Int)>8)=false:=d9U (by omega)
   rw [e2,d9Q h2];rfl
theorem b7K (n:Nat):a2O [if ((n:Int)==0) then 2 else 0,if decide ((n:Int)>16) then 5 else 0]=((b3h n:Nat):Int):=by
 unfold b3h
 by_cases h:n=0
 ·subst h;decide
 ·have e1:((n:Int)==0)=false:=e0g.2 (by omega)
  rw [e1,d9Q h]
  by_cases h2:n>16
  ·have e2:decide ((n:Int)>16)=true:=d9S (by omega)
   rw [e2,d9P h2];rfl
  ·have e2:decide ((n:Int)>16)=false:=d9U (by omega)
   rw [e2,d9Q h2];rfl
theorem b3M (fs:List a1N)(i:Nat):a2O [(a1m (fs.getD i default):Int),if (fs.take i).any (a7X (fs.getD i default)) then 9 else 0]=((a2k fs i:Nat):Int):=by
 unfold a2k
 have:(fs.take i).any (a7X (fs.getD i default))=(fs.take i).any (fun x=>decide (x.name=(fs.getD i default).name)):=rfl
 rw [this]
 by_cases h:a1m (fs.getD i default)=0
 ·rw [h]
  cases (fs.take i).any (fun x=>decide (x.name=(fs.getD i default).name))<;>simp [a2O]
 ·rw [d9P h]
  show (if (a1m (fs.getD i default):Int)≠0 then _ else _)=_;rw [d9P (by omega)]
theorem d3s {E:a3d}{l:Nat}{R:LR}(hE:a3d.ok E)(s:a0Y)(hs:s.few)(H0:Hp)(H1:Int->Hp)(n0:Nat)
  (hY:∀ (e:Int) (N:Hp) (n:Nat),d6V N->b0F C0 E l R [i64 e] (N++H0) n (fun j H' n'=>d4i e (N++H0) (N++H1 e) j H')) :
  a6o C0 E 243 [.clo (.yield l) [] [],.pptr s.D] l R H0 n0 (fun j d H' n'=>d4i (a0l s:Int) H0 (H1 (a0l s:Int)) j H'):=by
 refine a6o.walk w1 hE b9X rfl fun B F hR=>?_
 have hsc:a0l s=if b2q s.fs.length≠0 then b2q s.fs.length
  else if a9b (a2k s.fs) s.fs.length≠0 then a9b (a2k s.fs) s.fs.length
  else if b3h s.gs.length≠0 then b3h s.gs.length
  else a9b (a0E s.fs.length s.gs) s.gs.length:=rfl
 have hpg:∀ i,i<s.gs.length->(∀ j,j<i->a0E s.fs.length s.gs j=0)->a0b C0 246 [s.D,i64 (i:Int)] (i64 (a0E s.fs.length s.gs i)):=fun i hi ha=>c9H s i hs hi (fun h=>a6b (ha (i - 1) (by omega)))
 have fl:(s.fs.map a1N.D).length=s.fs.length:=d9X _;have gl:(s.gs.map a0M.D).length=s.gs.length:=d9X _;have ls:=hs.1;have lg:=hs.2.1;have hmf:∀ i,i<s.fs.length->(s.fs.map a1N.D)[((i:Nat):Int).toNat]? = some (.agg [str (sb (s.fs.getD i default).name),str (sb (s.fs.getD i default).tol),str (sb (s.fs.getD i default).kind),str (sb (s.fs.getD i default).step)]):=fun i hi=>by
  rw [e2j];exact c0C hi
 have hcf:∀ i,i<s.fs.length->a0b C0 81 [.agg [str (sb (s.fs.getD i default).name),str (sb (s.fs.getD i default).tol),str (sb (s.fs.getD i default).kind),str (sb (s.fs.getD i default).step)]] (i64 (a1m (s.fs.getD i default))):=fun i hi=>b8C _ (hs.2.2.1 _ (d9V (a9k hi)))
 have hca:∀ i,i<s.fs.length->a0b C0 244 [.sl false 4 ((s.fs.map a1N.D).take i),.clo (.func 245) [] [.pptr (.agg [str (sb (s.fs.getD i default).name),str (sb (s.fs.getD i default).tol),str (sb (s.fs.getD i default).kind),str (sb (s.fs.getD i default).step)])]] (boo ((s.fs.take i).any (a7X (s.fs.getD i default)))):=fun i hi=>by
  have:=d7A (s.fs.take i) (s.fs.getD i default) (by rw [e0n];omega)
  rw [e3b] at this;exact this
 have hc2:∀ i,a0b C0 51 [.sl true 1 [i64 (a1m (s.fs.getD i default)),i64 (if (s.fs.take i).any (a7X (s.fs.getD i default)) then 9 else 0)]] (i64 (a2k s.fs i)):=fun i=>by
  have:=a8N [(a1m (s.fs.getD i default):Int),if (s.fs.take i).any (a7X (s.fs.getD i default)) then 9 else 0] (by simp)
  rw [b3M] at this;exact this
 have c0:a0b C0 51 [.sl true 1 [i64 (if (((s.fs.map a1N.D).length:Int)==0) then 2 else 0),i64 (if decide (((s.fs.map a1N.D).length:Int)>8) then 5 else 0)]] (i64 (b2q s.fs.length)):=by
  have:=a8N [if (((s.fs.map a1N.D).length:Int)==0) then 2 else 0,if decide (((s.fs.map a1N.D).length:Int)>8) then 5 else 0] (by simp)
  rw [b7L,fl] at this;rw [fl];exact this
 have c7:a0b C0 51 [.sl true 1 [i64 (if (((s.gs.map a0M.D).length:Int)==0) then 2 else 0),i64 (if decide (((s.gs.map a0M.D).length:Int)>16) then 5 else 0)]] (i64 (b3h s.gs.length)):=by
  have:=a8N [if (((s.gs.map a0M.D).length:Int)==0) then 2 else 0,if decide (((s.gs.map a0M.D).length:Int)>16) then 5 else 0] (by simp)
  rw [b7K,gl] at this;rw [gl];exact this
 obtain ⟨v,hv⟩:∃ v,a0l s=v:=⟨_,rfl⟩
 rw [hv] at hsc ⊢;unfold a0Y.D at hpg;unfold a0Y.D;obtain ⟨fsD,hfsD⟩:∃ x,s.fs.map a1N.D=x:=⟨_,rfl⟩
 obtain ⟨gsD,hgsD⟩:∃ x,s.gs.map a0M.D=x:=⟨_,rfl⟩
 have pf:IsPure (.sl false 4 fsD):=by rw [<- hfsD];exact d9O
 have pg:IsPure (.sl false 3 gsD):=by rw [<- hgsD];exact d9O
 have pft:∀ i,IsPure (.sl false 4 (fsD.take i)):=fun i=>by
  rw [<- hfsD,<- e3b];exact d9O
 have pp:IsPure (.pptr (.agg [.sl false 4 fsD,.sl false 3 gsD])):=by
  rw [<- hfsD,<- hgsD];exact d9O
 rw [hfsD] at fl hmf hca c0 hpg ⊢;rw [hgsD] at gl c7 hpg ⊢;refine OkS.seq ?_;refine OkS.seq ?_;refine d9p w1 0 [0,1,2,3,4,5,6,7,8,9,10,11,12] [] 13 [14] (b1O [(14,[13,0,12,11,10,5,4,3,2,1,9,8,7,6]),(13,[0,12,11,10,5,4,3,2,1,9,8,7,6]),(12,[11,10,5,4,3,2,1,9,8,7,6]),(11,[5,10,4,3,2,1,9,8,7,6]),(10,[9,5,8,7,6,4,3,2,1]),(9,[8,7,6]),(8,[7,6]),(7,[6]),(6,[]),(5,[4,3,2,1]),(4,[3,2,1]),(3,[2,1]),(2,[1]),(1,[]),(0,[])] (by kernel_rfl)) hR ?_;refine nxI ?_;refine a0r.same _ (a1O _ 2) d9O ?_;refine nxI ?_;refine a0r.same _ (a1O _ 5) d9O ?_;refine nxI ?_;refine a0r.same _ (c0) d9O ?_;refine nxI ?_;refine ⟨rfl,_,hY _ [] _ (.inl rfl),?_,?_⟩
 rotate_left
 ·rintro c H' n1 hO F2 hst
  have hne:((b2q s.fs.length:Nat):Int)≠0:=fun h=>by have:=(hO.1 h).1;cases this
  obtain ⟨hc,rfl⟩:=hO.2 hne;cases hc;have hv2:v=b2q s.fs.length:=by rw [hsc,d9P (by omega)]
  rw [<- hv2] at hne ⊢;refine nxI ?_;refine ifI ?_;refine OkS.weak ⟨[],H1 ((v:Nat):Int),_⟩ wkI ?_;refine OkS.ret ?_;exact ⟨_,hst,trivial,⟨fun h=>d9R h hne,fun _=>⟨rfl,rfl⟩⟩⟩
 rintro H' n1 hO;have hz:b2q s.fs.length=0:=e0w fun h=>by have:=(hO.2 (by omega)).1;cases this
 obtain ⟨_,hh⟩:=hO.1 (by omega);rw [hh];rw [d9Q (fun h=>h hz)] at hsc;dsimp only [List.nil_append];refine nxI ?_;refine ifI ?_;refine skI ?_;refine OkS.seq ?_;refine fR 100 ?_;refine OkS.block ?_;rw [fl];refine d9k (α:=Nat × Nat) (fun p=>⟨[(0,.clo (.yield l) [] []),(1,.pptr (.agg [.sl false 4 fsD,.sl false 3 gsD])),(23,.sl false 4 fsD),(24,i64 (s.fs.length:Int)),(25,i64 (p.1:Int))],H0,p.2⟩) (fun p=>s.fs.length - p.1)
  (fun p F=>a7Y C0 E B F l R/\p.1<=s.fs.length/\∀ j,j<p.1->a2k s.fs j=0) (0,_) ⟨hR,e0y _,fun j hj=>d9R hj (e1i j)⟩ wkI ?_
 clear hR;rintro ⟨i,m⟩ F ⟨hR,hi,ha⟩;dsimp only at hi hR ha ⊢;refine fR 200 ?_;refine OkS.seq ?_;refine ifI ?_
 (refine brI (fun hlt=>?_) (fun hlt=>?_))<;>(try simp only [e0a,e0c] at hlt)<;>(try simp only [hlt])
 ·have hi2:i<s.fs.length:=by
   have:=e0p hlt
   omega
  have hi3:i<fsD.length:=by omega
  have hm:=hmf i hi2;have cf:=hcf i hi2;have ca:=hca i hi2;have c2:=hc2 i;obtain ⟨e,he⟩:∃ e,a2k s.fs i=e:=⟨_,rfl⟩
  rw [he] at c2;have hve:e≠0->v=e:=fun h=>by
   have:=a7s (f:=a2k s.fs) ha hi2 (by rw [he];exact h)
   rw [he] at this;rw [this,d9P h] at hsc;exact hsc
  have wi:IntKind.i64.wrap ((i:Int)+1)=((i+1:Nat):Int):=wI (by omega) (by omega);refine skI ?_;refine OkS.seq ?_;refine OkS.block ?_;refine fR 300 ?_;refine ⟨⟨rfl,by omega⟩,_,hm,?_⟩;refine dsI ?_
  try dsimp only [D.cells,spot]
  refine nxI ?_;refine fR 400 ?_;simp only [e2j,Nat.sub_zero,e1C];refine a0j.own _ (d9F ca rfl (d3V (FzS.refl _ _) (.clo1 (.ptr rfl rfl rfl rfl))) d9O (.prim _)) ?_;rintro d H2 n2 ⟨rfl,rfl,rfl⟩;refine nxI ?_;refine OkS.seq ?_;refine d9w w1 500 [0,1,2,3,4,5,6] 7 [8] rfl (by kernel_rfl) hR ?_;refine nxI ?_;refine a0j.same _ cf d9O ?_;refine nxI ?_;refine dI (a1O _ 9) ?_;refine dI c2 ?_;refine ⟨rfl,_,hY _ [_] _ (.inr ⟨_,_,rfl⟩),?_,?_⟩
  rotate_left
  ·rintro c H' n1 hO F2 hst
   have hne:((e:Nat):Int)≠0:=fun h=>by have:=(hO.1 h).1;cases this
   obtain ⟨hc,rfl⟩:=hO.2 hne;cases hc;have hv2:v=e:=hve (by omega);subst hv2;refine nxI ?_;refine ifI ?_;refine OkS.weak ⟨[],H1 ((v:Nat):Int),_⟩ wkI ?_;refine OkS.ret ?_;exact ⟨_,hst,trivial,⟨fun h=>d9R h hne,fun _=>⟨rfl,rfl⟩⟩⟩
  rintro H' n1 hO;have hz:e=0:=e0w fun h=>by have:=(hO.2 (by omega)).1;cases this
  obtain ⟨_,hh⟩:=hO.1 (by omega);rw [hh];refine nxI ?_;refine ifI ?_;refine skI ?_;refine d9l w1 600 (by kernel_rfl) ?_;refine mwI wi ?_;refine ⟨(i+1,_),⟨hR,hi2,fun j hj=>?_⟩,(by dsimp only;omega),wkI⟩;rcases e0j j i with h|h
  ·exact ha j h
  ·have:j=i:=by dsimp only at hj;omega
   rw [this,he];exact hz
 have hi2:i=s.fs.length:=by
  have:=e0i hlt
  omega
 subst hi2;rw [a3h ha,d9Q (by decide)] at hsc;refine exI ?_;refine OkS.seq ?_;refine OkS.seq ?_;refine d9p w1 700 [0,1,2,3,4,5,6,7,8,9,10,11,12] [] 13 [14] (b1O [(14,[13,0,12,11,10,5,4,3,2,1,9,8,7,6]),(13,[0,12,11,10,5,4,3,2,1,9,8,7,6]),(12,[11,10,5,4,3,2,1,9,8,7,6]),(11,[5,10,4,3,2,1,9,8,7,6]),(10,[9,5,8,7,6,4,3,2,1]),(9,[8,7,6]),(8,[7,6]),(7,[6]),(6,[]),(5,[4,3,2,1]),(4,[3,2,1]),(3,[2,1]),(2,[1]),(1,[]),(0,[])] (by kernel_rfl)) hR ?_;refine nxI ?_;refine a0r.same _ (a1O _ 2) d9O ?_;refine nxI ?_;refine a0r.same _ (a1O _ 5) d9O ?_;refine nxI ?_;refine a0r.same _ (c7) d9O ?_;refine nxI ?_;refine ⟨rfl,_,hY _ [] _ (.inl rfl),?_,?_⟩
 rotate_left
 ·rintro c H' n1 hO F2 hst
  have hne:((b3h s.gs.length:Nat):Int)≠0:=fun h=>by have:=(hO.1 h).1;cases this
  obtain ⟨hc,rfl⟩:=hO.2 hne;cases hc;have hv2:v=b3h s.gs.length:=by rw [hsc,d9P (by omega)]
  rw [<- hv2] at hne ⊢;refine nxI ?_;refine ifI ?_;refine OkS.weak ⟨[],H1 ((v:Nat):Int),_⟩ wkI ?_;refine OkS.ret ?_;exact ⟨_,hst,trivial,⟨fun h=>d9R h hne,fun _=>⟨rfl,rfl⟩⟩⟩
 rintro H' n1 hO;have hz:b3h s.gs.length=0:=e0w fun h=>by have:=(hO.2 (by omega)).1;cases this
 obtain ⟨_,hh⟩:=hO.1 (by omega);rw [hh];rw [d9Q (fun h=>h hz)] at hsc;dsimp only [List.nil_append];refine nxI ?_;refine ifI ?_;refine skI ?_;refine fR 800 ?_;refine OkS.block ?_;rw [gl];refine d9k (α:=Nat × Nat) (fun p=>⟨[(0,.clo (.yield l) [] []),(1,.pptr (.agg [.sl false 4 fsD,.sl false 3 gsD])),(63,i64 (s.gs.length:Int)),(64,i64 (p.1:Int))],H0,p.2⟩) (fun p=>s.gs.length - p.1)
  (fun p F=>a7Y C0 E B F l R/\p.1<=s.gs.length/\∀ j,j<p.1->a0E s.fs.length s.gs j=0) (0,_) ⟨hR,e0y _,fun j hj=>d9R hj (e1i j)⟩ wkI ?_
 clear hR ha;rintro ⟨i,m⟩ F ⟨hR,hi,ha⟩;dsimp only at hi hR ha ⊢;refine fR 900 ?_;refine OkS.seq ?_;refine ifI ?_
 (refine brI (fun hlt=>?_) (fun hlt=>?_))<;>(try simp only [e0a,e0c] at hlt)<;>(try simp only [hlt])
 ·have hi2:i<s.gs.length:=by
   have:=e0p hlt
   omega
  have cg:=hpg i hi2 ha;obtain ⟨e,he⟩:∃ e,a0E s.fs.length s.gs i=e:=⟨_,rfl⟩
  rw [he] at cg;have hve:e≠0->v=e:=fun h=>by
   have:=a7s (f:=a0E s.fs.length s.gs) ha hi2 (by rw [he];exact h)
   rw [he] at this;rw [this] at hsc;exact hsc
  have wi:IntKind.i64.wrap ((i:Int)+1)=((i+1:Nat):Int):=wI (by omega) (by omega);refine skI ?_;refine OkS.seq ?_;refine OkS.block ?_;refine fR 1000 ?_;refine OkS.seq ?_;refine d9w w1 1100 [0,1,2,3] 4 [5] rfl (by kernel_rfl) hR ?_;refine nxI ?_;refine a0j.same _ cg d9O ?_;refine nxI ?_;refine ⟨rfl,_,hY _ [] _ (.inl rfl),?_,?_⟩
  rotate_left
  ·rintro c H' n1 hO F2 hst
   have hne:((e:Nat):Int)≠0:=fun h=>by have:=(hO.1 h).1;cases this
   obtain ⟨hc,rfl⟩:=hO.2 hne;cases hc;have hv2:v=e:=hve (by omega);subst hv2;refine nxI ?_;refine ifI ?_;refine OkS.weak ⟨[],H1 ((v:Nat):Int),_⟩ wkI ?_;refine OkS.ret ?_;exact ⟨_,hst,trivial,⟨fun h=>d9R h hne,fun _=>⟨rfl,rfl⟩⟩⟩
  rintro H' n1 hO;have hz:e=0:=e0w fun h=>by have:=(hO.2 (by omega)).1;cases this
  obtain ⟨_,hh⟩:=hO.1 (by omega);rw [hh];dsimp only [List.nil_append];refine nxI ?_;refine ifI ?_;refine skI ?_;refine d9l w1 1200 (by kernel_rfl) ?_;refine mwI wi ?_;refine ⟨(i+1,_),⟨hR,hi2,fun j hj=>?_⟩,(by dsimp only;omega),wkI⟩;rcases e0j j i with h|h
  ·exact ha j h
  ·have:j=i:=by dsimp only at hj;omega
   rw [this,he];exact hz
 have hi2:i=s.gs.length:=by
  have:=e0i hlt
  omega
 subst hi2;rw [a3h ha] at hsc;refine exI ?_;exact ⟨none,hR.stat,trivial,⟨fun _=>⟨rfl,rfl⟩,fun h=>d9R hsc (by omega)⟩⟩
theorem c8x (s:a0Y):a0b C0 215 [s.D] (.clo (.func 243) [] [.pptr s.D]):=by
 refine d9I w1 c0z rfl fun F=>?_
 have hp:a2v (.clo (.func 243) [] [.pptr s.D]):=(d9O:IsPure (.clo (.func 243) [] [.pptr s.D])).out;unfold a0Y.D at hp ⊢;refine fR 0 ?_;refine fR 100 ?_;refine rtI ?_;exact ⟨_,.clo1 (.ptr rfl rfl rfl rfl),hp,rfl⟩
abbrev b4o (e:Int):Ent:=⟨1,1,32,1,[i64 e]⟩
abbrev d5X (s:a0Y):Ent:=⟨0,0,25,2,[s.D]⟩
theorem d7U (s:a0Y)(hs:s.few):a0b C0 172 [s.D] (i64 (a0l s)):=by
 refine a0c.walk w1 c1a rfl fun F=>?_
 have cc:=c8x s;have hit:=fun {E:a3d} {l:Nat} {R:LR} (hE:a3d.ok E) (n0:Nat)=>d3s (E:=E) (l:=l) (R:=R) hE s hs [b4o 0,d5X s] (fun e=>[b4o e,d5X s]) n0
 obtain ⟨c,hc⟩:∃ c,a0l s=c:=⟨_,rfl⟩
 rw [hc];unfold d5X at hit;rw [hc] at hit;have pS:IsPure s.D:=d9O;have sD:∃ a b,s.D=.agg [a,b]:=⟨_,_,rfl⟩
 obtain ⟨d,hd⟩:∃ d,s.D=d:=⟨_,rfl⟩
 rw [hd] at cc hit pS sD ⊢;obtain ⟨a,b,rfl⟩:=sD;clear hd;refine sR 0 ?_;refine OkS.seq ?_;refine sR 100 ?_;refine cI cc ?_;refine OkS.block ?_;refine OkS.rangeFunc (fi:=243) (first:=[]) (captured:=[.pptr (.agg [a,b])]) (Ψ:=fun j d H' n'=>d4i (c:Int) [b4o 0,⟨0,0,25,2,[.agg [a,b]]⟩] [b4o c,⟨0,0,25,2,[.agg [a,b]]⟩] j H') rfl
  (fun ds H n Φ=>∃ e N,d6V N/\ds=[i64 e]/\H=N++[b4o 0,⟨0,0,25,2,[.agg [a,b]]⟩]/\Φ=fun j H' n'=>d4i e (N++[b4o 0,⟨0,0,25,2,[.agg [a,b]]⟩]) (N++[b4o e,⟨0,0,25,2,[.agg [a,b]]⟩]) j H') ?_
  (fun E l R hE hY=>hit hE _ (fun e N n hN=>hY _ _ _ _ ⟨e,N,hN,rfl,rfl,rfl⟩)) ?_
 ·rintro l ds H n Φ ⟨e,N,hN,rfl,rfl,rfl⟩
  refine ⟨rfl,fun F=>?_⟩;refine d9l w1 200 (by kernel_rfl) ?_;refine stI ?_;refine ⟨rfl,rfl,fun F'=>?_⟩;refine OkS.block ?_
  by_cases he:e=0
  ·subst he
   refine sR 300 ?_;refine ifI ?_;refine skI ?_;exact ⟨fun _=>⟨rfl,rfl⟩,fun h=>d9R rfl h⟩
  ·have e1:(e != 0)=true:=a3I he
   rcases hN with rfl|⟨g,es,rfl⟩
   ·dsimp only [List.nil_append]
    refine sZ 300 ?_;refine nwI e1 ?_;refine ifI ?_;refine sR 400 ?_;refine OkS.ret ?_;exact ⟨fun h=>d9R h he,fun _=>⟨rfl,rfl⟩⟩
   ·dsimp only [List.cons_append,List.nil_append]
    refine sZ 300 ?_;refine nwI e1 ?_;refine ifI ?_;refine sR 400 ?_;refine OkS.ret ?_;exact ⟨fun h=>d9R h he,fun _=>⟨rfl,rfl⟩⟩
 ·rintro j d H' n' F' hO
  by_cases h:(c:Int)=0
  ·obtain ⟨rfl,rfl⟩:=hO.1 h
   dsimp only [c9d];refine sR 500 ?_;refine rtI ?_;exact a0a (by rw [show c=0 by omega];rfl) IsPure.out
  ·obtain ⟨rfl,rfl⟩:=hO.2 h
   dsimp only [c9d];refine And.intro sdI ?_;refine dsI ?_;exact a0a rfl IsPure.out
def a4G (a b:List UInt8):Nat:=if a2z a≠0 then a2z a else a2z b
def a3w (a b:List UInt8):Nat:=if a4G a b=0/\a≠[]/\b≠[]/\a1e (a0d a) (a0d b)>0 then 3 else a4G a b
theorem a7b {a b:List UInt8}(h:a4G a b=0):a2z a=0/\a2z b=0:=by
 unfold a4G at h
 by_cases g:a2z a=0
 ·rw [d9Q (fun k=>k g)] at h;exact ⟨g,h⟩
 ·rw [d9P g] at h;exact d9R h g
theorem a7a {a b:List UInt8}(h:a3w a b=0):a4G a b=0:=by
 unfold a3w at h;split at h
 ·cases h
 ·exact h
theorem b9E {a b:List UInt8}{p:Option (List UInt8 × List UInt8)}(h:a3w a b≠0):a1r a b p=a3w a b:=by
 unfold a1r;unfold a3w a4G at h ⊢
 by_cases g:a2z a=0
 ·simp only [g,ne_eq,not_true_eq_false,if_false] at h ⊢
  by_cases g2:a2z b=0
  ·simp only [g2,not_true_eq_false,if_false,true_and] at h ⊢
   by_cases g3:a≠[]/\b≠[]/\a1e (a0d a) (a0d b)>0
   ·rw [d9P g3,d9P g3]
   ·rw [d9Q g3] at h;exact d9R rfl h
  ·simp only [g2,e1c,if_true,false_and,if_false]
 ·simp only [g,ne_eq,e1c,if_true,false_and,if_false]
theorem c2x {a b:List UInt8}{p:Option (List UInt8 × List UInt8)}(h:a3w a b=0):a1r a b p=match p with
  | none=>0
  | some (c,d)=>if a7T a b c d then 0 else 11:=by
 obtain ⟨h1,h2⟩:=a7b (a7a h);unfold a1r;rw [d9Q (fun k=>k h1),d9Q (fun k=>k h2)]
 have:¬ (a≠[]/\b≠[]/\a1e (a0d a) (a0d b)>0):=fun g=>by
  unfold a3w at h;rw [d9P ⟨a7a (by unfold a3w;exact h),g⟩] at h;cases h
 rw [d9Q this]
 all_goals (cases p<;>rfl)
theorem b6v {α:Type}{l:List α}{p:α->Bool}{k:Nat}{x:α}(hx:l[k]? = some x)(h:(l.take k).any p=false)(hp:p x=false):(l.take (k+1)).any p=false:=by
 rw [e1F,hx,List.any_append,h];simp [hp]
theorem d0l (s:a0Y)(i:Nat)(hs:s.few)(hi:i<s.gs.length)(hp:0<i->gOk s.fs.length (s.gs.getD (i - 1) default)) :
  a0b C0 61 [s.D,i64 (i:Int)] (i64 (a0E s.fs.length s.gs i)):=by
 refine a0c.walk w1 d4P rfl fun F=>?_
 have hm:=b6m hi;have hgm:∀ k,k<s.gs.length->(s.gs.map a0M.D)[k]? = some (.agg [str (sb (s.gs.getD k default).name),.sl false 1 ((s.gs.getD k default).least.map fun l=>str (sb l)),.sl false 1 ((s.gs.getD k default).most.map fun l=>str (sb l))]):=fun k hk=>b6m hk
 have hgs:∀ k,k<s.gs.length->s.gs[k]? = some (s.gs.getD k default):=fun k hk=>a3r hk
 have hgf:=hs.2.2.2 _ (d9V (a3r hi));have hpf:0<i->(s.gs.getD (i - 1) default).few:=fun h=>hs.2.2.2 _ (d9V (a3r (by omega)))
 have el1:(((s.fs.map a1N.D).length:Nat):Int)=(s.fs.length:Int):=by rw [d9X]
 have ls:=hs.1;have lg:=hs.2.1;have hcg:∀ g,s.gs.getD i default=g->a0E s.fs.length s.gs i=if a1A g.name then
  (if (s.gs.take i).any (fun x=>decide (x.name=g.name)) then 9
  else if g.least.length=s.fs.length/\g.most.length=s.fs.length then a9b (fun k=>a1r (lv g.least k) (lv g.most k) (a1Y s.gs i k)) s.fs.length
  else 2)
 else 8:=fun g h=>by unfold a0E;rw [h]
 obtain ⟨g,hg⟩:∃ g,s.gs.getD i default=g:=⟨_,rfl⟩
 rw [hcg g hg];rw [hg] at hm hgf;have cn:a0b C0 125 [str (sb g.name)] (boo (a1A g.name)):=d2J g.name (by have:=hgf.1;omega);obtain ⟨n,hn⟩:∃ n,s.fs.length=n:=⟨_,rfl⟩
 rw [hn] at el1 hp ls ⊢;obtain ⟨fsD,hfsD⟩:∃ x,s.fs.map a1N.D=x:=⟨_,rfl⟩
 obtain ⟨gsD,hgsD⟩:∃ x,s.gs.map a0M.D=x:=⟨_,rfl⟩
 have pf:IsPure (.sl false 4 fsD):=by rw [<- hfsD];exact d9O
 have pg:IsPure (.sl false 3 gsD):=by rw [<- hgsD];exact d9O
 have gl:gsD.length=s.gs.length:=by rw [<- hgsD,d9X]
 unfold a0Y.D;rw [hfsD,hgsD];rw [hfsD] at el1;rw [hgsD] at hm hgm;refine sR 0 ?_;refine sZ 100 ?_;refine gwI kN ?_;refine ixI kT hm ?_;refine gwI kN ?_;refine OkS.seq ?_;refine sR 200 ?_;refine cI cn ?_;cases hnm:a1A g.name
 ·rw [d9Q (by decide)]
  refine ifI ?_;refine sR 300 ?_;refine rtI ?_;exact a0a rfl IsPure.out
 rw [d9P rfl];refine ifI ?_;refine skI ?_;refine OkS.seq ?_;refine sR 400 ?_;refine OkS.block ?_;refine OkS.loop (α:=Nat × Nat) (fun q=>⟨[(1,i64 (i:Int)),(2,.optr 0 0 2 0 0),(5,.optr 105 7 3 0 0),(6,i64 (q.1:Int))],[⟨105,7,67,3,[.agg [str (sb g.name),.sl false 1 (g.least.map fun l=>str (sb l)),.sl false 1 (g.most.map fun l=>str (sb l))]]⟩,⟨0,0,25,2,[.agg [.sl false 4 fsD,.sl false 3 gsD]]⟩],q.2⟩) (fun q=>i - q.1) (fun q=>q.1<=i/\(s.gs.take q.1).any (fun x=>decide (x.name=g.name))=false) (0,_) ⟨e0y _,rfl⟩ wkI ?_;rintro ⟨k,m⟩ F ⟨hk,ha⟩;dsimp only at hk ha ⊢;refine OkS.seq ?_;refine sR 500 ?_;refine ifI ?_
 (refine brI (fun hlt=>?_) (fun hlt=>?_))<;>(try simp only [e0a,e0c] at hlt)<;>(try simp only [hlt])
 ·have hk2:k<i:=by
   have:=e0p hlt
   omega
  have hmk:=hgm k (by omega);have hsk:=hgs k (by omega);have wi:IntKind.i64.wrap ((k:Int)+1)=((k+1:Nat):Int):=wI (by omega) (by omega);obtain ⟨y,hy⟩:∃ y,s.gs.getD k default=y:=⟨_,rfl⟩
  rw [hy] at hmk hsk;have es:=a6r y.name g.name;refine skI ?_;refine OkS.seq ?_;refine OkS.block ?_;refine OkS.seq ?_;refine d9n w1 700 [0,1,2,3,4,5,6,7] [8] (by kernel_rfl) ?_;refine gwI kN ?_;refine ixI kT hmk ?_;refine gwI kN ?_
  by_cases hn2:y.name=g.name
  ·rw [d9S hn2] at es
   have hany:(s.gs.take i).any (fun x=>decide (x.name=g.name))=true:=a6R hk2 hsk (d9S hn2);rw [d9P hany]
   try simp only [es]
   refine ifI ?_;refine sR 800 ?_;refine rtI ?_;exact a0a rfl IsPure.out
  ·rw [d9U hn2] at es
   try simp only [es]
   refine ifI ?_;refine skI ?_;refine d9l w1 600 (by kernel_rfl) ?_;refine nwI wi ?_;exact ⟨(k+1,_),⟨hk2,b6v hsk ha (d9U hn2)⟩,by dsimp only;omega,wkI⟩
 have hk2:k=i:=by
  have:=e0i hlt
  omega
 subst hk2;rw [d9Q (by rw [ha];decide)];refine exI ?_;have el2:(((g.least.map fun l=>str (sb l)).length:Nat):Int)=(g.least.length:Int):=by rw [d9X]
 have el3:(((g.most.map fun l=>str (sb l)).length:Nat):Int)=(g.most.length:Int):=by rw [d9X]
 by_cases h1:g.least.length=n
 rotate_left
 ·have e3:(((g.least.length:Nat):Int) != ((n:Nat):Int))=true:=by
   have:(((g.least.length:Nat):Int)==((n:Nat):Int))=false:=e0g.2 (by omega)
   unfold bne;rw [this];rfl
  rw [d9Q (fun h=>h1 h.1)];refine OkS.seq ?_;refine sZ 900 ?_;refine nwI (ff5 el1 el2 e3 kT kF) ?_;refine gwI kB ?_;refine ifI ?_;refine sR 1000 ?_;refine rtI ?_;exact a0a rfl IsPure.out
 have e3:(((g.least.length:Nat):Int) != ((n:Nat):Int))=false:=by rw [h1];simp
 by_cases h2:g.most.length=n
 rotate_left
 ·have e4:(((g.most.length:Nat):Int) != ((n:Nat):Int))=true:=by
   have:(((g.most.length:Nat):Int)==((n:Nat):Int))=false:=e0g.2 (by omega)
   unfold bne;rw [this];rfl
  rw [d9Q (fun h=>h2 h.2)];refine OkS.seq ?_;refine sZ 900 ?_;refine nwI (ff5 el1 el2 e3 kT kF) ?_;refine gwI kB ?_;simp only [el1,el3,e4];refine ifI ?_;refine sR 1000 ?_;refine rtI ?_;exact a0a rfl IsPure.out
 have e4:(((g.most.length:Nat):Int) != ((n:Nat):Int))=false:=by rw [h2];simp
 rw [d9P ⟨h1,h2⟩];refine OkS.seq ?_;refine sZ 900 ?_;refine nwI (ff5 el1 el2 e3 kT kF) ?_;refine gwI kB ?_;simp only [el1,el3,e4];refine ifI ?_;refine skI ?_;refine OkS.seq ?_;refine sR 1100 ?_;refine OkS.block ?_;refine OkS.loop (α:=Nat × Nat) (fun q=>⟨[(1,i64 (k:Int)),(2,.optr 0 0 2 0 0),(5,.optr 105 7 3 0 0),(7,i64 (q.1:Int))],[⟨105,7,67,3,[.agg [str (sb g.name),.sl false 1 (g.least.map fun l=>str (sb l)),.sl false 1 (g.most.map fun l=>str (sb l))]]⟩,⟨0,0,25,2,[.agg [.sl false 4 fsD,.sl false 3 gsD]]⟩],q.2⟩) (fun q=>n - q.1) (fun q=>q.1<=n/\∀ j,j<q.1->a1r (lv g.least j) (lv g.most j) (a1Y s.gs k j)=0) (0,_) ⟨e0y _,fun j hj=>d9R hj (e1i j)⟩ wkI ?_;clear ha;rintro ⟨j,m⟩ F ⟨hj,ha⟩;dsimp only at hj ha ⊢;refine OkS.seq ?_;refine sZ 1200 ?_;refine nwI el1 ?_;refine ifI ?_
 (refine brI (fun hlt=>?_) (fun hlt=>?_))<;>(try simp only [e0a,e0c] at hlt)<;>(try simp only [hlt])
 rotate_left
 ·have hj2:j=n:=by
   have:=e0i hlt
   omega
  subst hj2;refine exI ?_;refine sR 2300 ?_;refine rtI ?_;exact a0a (by rw [a3h ha];rfl) IsPure.out
 have hj2:j<n:=by
  have:=e0p hlt
  omega
 have wi:IntKind.i64.wrap ((j:Int)+1)=((j+1:Nat):Int):=wI (by omega) (by omega);have m1:=a1V (l:=g.least) (k:=j) (by omega);have m2:=a1V (l:=g.most) (k:=j) (by omega);have f1:=a6P (l:=g.least) (k:=j) (by omega) hgf.2.2.2.1;have f2:=a6P (l:=g.most) (k:=j) (by omega) hgf.2.2.2.2;have hfst:a1r (lv g.least j) (lv g.most j) (a1Y s.gs k j)≠0->a9b (fun j=>a1r (lv g.least j) (lv g.most j) (a1Y s.gs k j)) n=a1r (lv g.least j) (lv g.most j) (a1Y s.gs k j):=fun h=>a7s (f:=fun j=>a1r (lv g.least j) (lv g.most j) (a1Y s.gs k j)) ha hj2 h
 have hnext:a1r (lv g.least j) (lv g.most j) (a1Y s.gs k j)=0->∀ x,x<j+1->a1r (lv g.least x) (lv g.most x) (a1Y s.gs k x)=0:=fun h x hx=>by
  rcases e0j x j with hx2|hx2
  ·exact ha x hx2
  ·have:x=j:=by omega
   rw [this];exact h
 obtain ⟨a,ea⟩:∃ a,lv g.least j=a:=⟨_,rfl⟩
 obtain ⟨b,eb⟩:∃ b,lv g.most j=b:=⟨_,rfl⟩
 rw [ea] at m1 f1;rw [eb] at m2 f2;rw [ea,eb] at hfst hnext;have sa:=a1l a;have sb':=a1l b;have ca:=c5Y a f1;have cb:=c5Y b f2;obtain ⟨P,hP⟩:∃ P,a1Y s.gs k j=P:=⟨_,rfl⟩
 rw [hP] at hfst hnext;refine skI ?_;refine OkS.seq ?_;refine OkS.block ?_;refine sZ 1400 ?_;refine gwI kN ?_;refine ixI kT m1 ?_;refine gwI kN ?_;refine cI ca ?_;refine d9A (α:=Nat) (fun m=>⟨[(1,i64 (k:Int)),(2,.optr 0 0 2 0 0),(5,.optr 105 7 3 0 0),(7,i64 (j:Int)),(8,i64 ((a4G a b:Nat):Int))],[⟨105,7,67,3,[.agg [str (sb g.name),.sl false 1 (g.least.map fun l=>str (sb l)),.sl false 1 (g.most.map fun l=>str (sb l))]]⟩,⟨0,0,25,2,[.agg [.sl false 4 fsD,.sl false 3 gsD]]⟩],m⟩) (fun _=>True) ?_ ?_
 ·by_cases g1:a2z a=0
  ·have e5:(((a2z a:Nat):Int)==0)=true:=by rw [g1];rfl
   have e6:a4G a b=a2z b:=by unfold a4G;rw [d9Q (fun h=>h g1)]
   rw [e6];refine sZ 1500 ?_;refine nwI e5 ?_;refine ifI ?_;refine d9l w1 1600 (by kernel_rfl) ?_;refine gwI kN ?_;refine ixI kT m2 ?_;refine gwI kN ?_;refine cI cb ?_;exact ⟨by trivial,_,trivial,wkI⟩
  ·have e5:(((a2z a:Nat):Int)==0)=false:=e0g.2 (by omega)
   have e6:a4G a b=a2z a:=by unfold a4G;rw [d9P g1]
   rw [e6];refine sZ 1500 ?_;refine nwI e5 ?_;refine ifI ?_;refine skI ?_;exact ⟨rfl,_,trivial,wkI⟩
 rintro m2' -;refine d9A (α:=Nat) (fun m=>⟨[(1,i64 (k:Int)),(2,.optr 0 0 2 0 0),(5,.optr 105 7 3 0 0),(7,i64 (j:Int)),(8,i64 ((a3w a b:Nat):Int))],[⟨105,7,67,3,[.agg [str (sb g.name),.sl false 1 (g.least.map fun l=>str (sb l)),.sl false 1 (g.most.map fun l=>str (sb l))]]⟩,⟨0,0,25,2,[.agg [.sl false 4 fsD,.sl false 3 gsD]]⟩],m⟩) (fun _=>True) ?_ ?_
 ·by_cases g1:a4G a b=0
  rotate_left
  ·have e5:(((a4G a b:Nat):Int)==0)=false:=e0g.2 (by omega)
   have e6:a3w a b=a4G a b:=by unfold a3w;rw [d9Q (fun h=>g1 h.1)]
   rw [e6];refine OkS.seq ?_;refine d9n w1 1700 [0,1,2,3,4,5,6,7,8,9,10,11,12,13,14,15,16,17,18,19,20,21,22,23,24,25,26,27,28] [29,30,31] (by kernel_rfl) ?_;refine nwI (ff3 e5 kT kF) ?_
   try simp only [e0u]
   refine gwI kB ?_
   try simp only [e0u]
   refine gwI kB ?_
   try simp only [e0u]
   refine gwI kB ?_
   try simp only [e0u]
   refine gwI kB ?_
   try simp only [e0u]
   refine ifI ?_;refine skI ?_;exact ⟨rfl,_,trivial,wkI⟩
  have e5:(((a4G a b:Nat):Int)==0)=true:=by rw [g1];rfl
  obtain ⟨la,lb⟩:=a7b g1
  by_cases ga:a=[]
  ·have e6:a3w a b=a4G a b:=by unfold a3w;rw [d9Q (fun h=>h.2.1 ga)]
   rw [e6];rw [d9S ga] at sa;refine OkS.seq ?_;refine d9n w1 1700 [0,1,2,3,4,5,6,7,8,9,10,11,12,13,14,15,16,17,18,19,20,21,22,23,24,25,26,27,28] [29,30,31] (by kernel_rfl) ?_;refine nwI (ff3 e5 kT kF) ?_
   try simp only [e0u]
   refine gwI kB ?_
   try simp only [e0u]
   refine ixI kT m1 ?_;refine gwI kB ?_
   try simp only [e0u]
   try simp only [sa,e0V,e0S]
   refine gwI kB ?_
   try simp only [e0u]
   refine gwI kB ?_
   try simp only [e0u]
   refine gwI kB ?_
   try simp only [e0u]
   refine gwI kB ?_
   try simp only [e0u]
   refine ifI ?_;refine skI ?_;exact ⟨rfl,_,trivial,wkI⟩
  rw [d9U ga] at sa
  by_cases gb:b=[]
  ·have e6:a3w a b=a4G a b:=by unfold a3w;rw [d9Q (fun h=>h.2.2.1 gb)]
   rw [e6];rw [d9S gb] at sb';refine OkS.seq ?_;refine d9n w1 1700 [0,1,2,3,4,5,6,7,8,9,10,11,12,13,14,15,16,17,18,19,20,21,22,23,24,25,26,27,28] [29,30,31] (by kernel_rfl) ?_;refine nwI (ff3 e5 kT kF) ?_
   try simp only [e0u]
   refine gwI kB ?_
   try simp only [e0u]
   refine ixI kT m1 ?_;refine gwI kB ?_
   try simp only [e0u]
   try simp only [sa,e0V,e0S]
   refine gwI kB ?_
   try simp only [e0u]
   refine ixI kT m2 ?_;refine gwI kB ?_
   try simp only [e0u]
   try simp only [sb',e0V,e0S]
   refine gwI kB ?_
   try simp only [e0u]
   refine gwI kB ?_
   try simp only [e0u]
   refine gwI kB ?_
   try simp only [e0u]
   refine gwI kB ?_
   try simp only [e0u]
   refine ifI ?_;refine skI ?_;exact ⟨rfl,_,trivial,wkI⟩
  rw [d9U gb] at sb';have cc:=a5q (a1g la ga) (a1g lb gb);refine OkS.seq ?_;refine d9n w1 1700 [0,1,2,3,4,5,6,7,8,9,10,11,12,13,14,15,16,17,18,19,20,21,22,23,24,25,26,27,28] [29,30,31] (by kernel_rfl) ?_;refine nwI (ff3 e5 kT kF) ?_
  try simp only [e0u]
  refine gwI kB ?_
  try simp only [e0u]
  refine ixI kT m1 ?_;refine gwI kB ?_
  try simp only [e0u]
  try simp only [sa,e0V,e0S]
  refine gwI kB ?_
  try simp only [e0u]
  refine ixI kT m2 ?_;refine gwI kB ?_
  try simp only [e0u]
  try simp only [sb',e0V,e0S]
  refine gwI kB ?_
  try simp only [e0u]
  refine ixI kT m1 ?_;refine gwI kB ?_
  try simp only [e0u]
  refine ixI kT m2 ?_;refine gwI kB ?_
  try simp only [e0u]
  refine gcI kB ?_;refine a0j.same _ cc d9O ?_;refine gwI kB ?_
  by_cases g4:a1e (a0d a) (a0d b)>0
  ·have e6:a3w a b=3:=by unfold a3w;rw [d9P ⟨g1,ga,gb,g4⟩]
   rw [e6];rw [d9S g4];refine ifI ?_;refine rI 1800 ?_;exact ⟨by trivial,_,trivial,wkI⟩
  ·have e6:a3w a b=a4G a b:=by unfold a3w;rw [d9Q (fun h=>g4 h.2.2.2)]
   rw [e6];rw [d9U g4];refine ifI ?_;refine skI ?_;exact ⟨rfl,_,trivial,wkI⟩
 rintro m3 -;refine d9A (α:=Nat) (fun m=>⟨[(1,i64 (k:Int)),(2,.optr 0 0 2 0 0),(5,.optr 105 7 3 0 0),(7,i64 (j:Int)),(8,i64 ((a1r a b P:Nat):Int))],[⟨105,7,67,3,[.agg [str (sb g.name),.sl false 1 (g.least.map fun l=>str (sb l)),.sl false 1 (g.most.map fun l=>str (sb l))]]⟩,⟨0,0,25,2,[.agg [.sl false 4 fsD,.sl false 3 gsD]]⟩],m⟩) (fun _=>True) ?_ ?_
 ·by_cases g1:a3w a b=0
  rotate_left
  ·have e5:(((a3w a b:Nat):Int)==0)=false:=e0g.2 (by omega)
   rw [b9E g1];refine OkS.seq ?_;refine d9n w1 1900 [0,1,2,3,4,5,6,7,8,9,10,11,12,13,14,15,16,17,18,19,20,21,22,23,24,25,26,27,28,29,30,31,32,33,34,35,36] [37,38,39] (by kernel_rfl) ?_;refine nwI (ff3 e5 kT kF) ?_
   try simp only [e0u]
   refine gwI kB ?_
   try simp only [e0u]
   refine gwI kB ?_
   try simp only [e0u]
   refine gwI kB ?_
   try simp only [e0u]
   refine gwI kB ?_
   try simp only [e0u]
   refine ifI ?_;refine skI ?_;exact ⟨rfl,_,trivial,wkI⟩
  have e5:(((a3w a b:Nat):Int)==0)=true:=by rw [g1];rfl
  obtain ⟨la,lb⟩:=a7b (a7a g1);rw [c2x g1]
  by_cases hk0:k=0
  ·have e7:decide ((k:Int)>0)=false:=d9U (by omega)
   have:P=none:=by rw [<- hP];unfold a1Y;rw [d9P hk0]
   subst this;dsimp only;refine OkS.seq ?_;refine d9n w1 1900 [0,1,2,3,4,5,6,7,8,9,10,11,12,13,14,15,16,17,18,19,20,21,22,23,24,25,26,27,28,29,30,31,32,33,34,35,36] [37,38,39] (by kernel_rfl) ?_;refine nwI (ff3 e5 kT kF) ?_
   try simp only [e0u]
   refine gwI kB ?_
   try simp only [e0u]
   try simp only [e7,e0V,e0S]
   refine gwI kB ?_
   try simp only [e0u]
   refine gwI kB ?_
   try simp only [e0u]
   refine gwI kB ?_
   try simp only [e0u]
   refine gwI kB ?_
   try simp only [e0u]
   refine ifI ?_;refine skI ?_;exact ⟨rfl,_,trivial,wkI⟩
  have e7:decide ((k:Int)>0)=true:=d9S (by omega);have ws:IntKind.i64.wrap ((k:Int) - 1)=((k - 1:Nat):Int):=by
   rw [show (k:Int) - 1=((k - 1:Nat):Int) by omega];exact wI (by omega) (by omega)
  have hm1:=hgm (k - 1) (by omega);obtain ⟨q1,q2,q3⟩:=hp (by omega);obtain ⟨q4,q5⟩:=q3 j hj2;obtain ⟨z,hz⟩:∃ z,s.gs.getD (k - 1) default=z:=⟨_,rfl⟩
  rw [hz] at hm1 q1 q2 q4 q5;have m3:=a1V (l:=z.least) (k:=j) (by omega);have m4:=a1V (l:=z.most) (k:=j) (by omega);have hPz:P=some (lv z.least j,lv z.most j):=by rw [<- hP];unfold a1Y;rw [d9Q hk0,hz]
  subst hPz;obtain ⟨c,ec⟩:∃ c,lv z.least j=c:=⟨_,rfl⟩
  obtain ⟨d,ed⟩:∃ d,lv z.most j=d:=⟨_,rfl⟩
  rw [ec] at m3 q4 ⊢;rw [ed] at m4 q5 ⊢;dsimp only;have co:=b9U a b c d la lb q4 q5;refine OkS.seq ?_;refine d9n w1 1900 [0,1,2,3,4,5,6,7,8,9,10,11,12,13,14,15,16,17,18,19,20,21,22,23,24,25,26,27,28,29,30,31,32,33,34,35,36] [37,38,39] (by kernel_rfl) ?_;refine nwI (ff3 e5 kT kF) ?_
  try simp only [e0u]
  refine gwI kB ?_
  try simp only [e0u]
  try simp only [e7,e0V,e0S]
  refine gwI kB ?_
  try simp only [e0u]
  refine ixI kT m1 ?_;refine gwI kB ?_
  try simp only [e0u]
  refine ixI kT m2 ?_;refine gwI kB ?_
  try simp only [e0u]
  try simp only [ws]
  refine ixI kT hm1 ?_;refine gwI kB ?_
  try simp only [e0u]
  refine ixI kT m3 ?_;refine gwI kB ?_
  try simp only [e0u]
  try simp only [ws]
  refine ixI kT hm1 ?_;refine gwI kB ?_
  try simp only [e0u]
  refine ixI kT m4 ?_;refine gwI kB ?_
  try simp only [e0u]
  refine gcI kB ?_;refine a0j.same _ co d9O ?_;refine gwI kB ?_;cases a7T a b c d
  ·refine ifI ?_
   refine rI 2000 ?_;exact ⟨by trivial,_,trivial,wkI⟩
  ·refine ifI ?_
   refine skI ?_;rw [g1];exact ⟨rfl,_,trivial,wkI⟩
 rintro m4 -
 by_cases g1:a1r a b P=0
 ·have e5:(((a1r a b P:Nat):Int) != 0)=false:=by rw [g1];rfl
  refine sZ 2100 ?_;refine nwI e5 ?_;refine ifI ?_;refine skI ?_;refine d9l w1 1300 (by kernel_rfl) ?_;refine nwI wi ?_;exact ⟨(j+1,_),⟨hj2,hnext g1⟩,by dsimp only;omega,wkI⟩
 ·have e5:(((a1r a b P:Nat):Int) != 0)=true:=a3I (by omega)
  refine sZ 2100 ?_;refine nwI e5 ?_;refine ifI ?_;refine sR 2200 ?_;refine rtI ?_;exact a0a (by rw [hfst g1]) IsPure.out
theorem c9I {α:Type}{l:List α}{p:α->Bool}{k i:Nat}{x:α}(hx:l[k]? = some x)(hk:k<i)(h:p x=true):(l.take i).any p=true:=a6R hk hx h
theorem d8u (s:a0Y)(hs:s.few):a0b C0 20 [s.D] (i64 (a0l s)):=by
 refine a0c.walk w1 d4u rfl fun F=>?_
 have hsc:a0l s=if b2q s.fs.length≠0 then b2q s.fs.length
  else if a9b (a2k s.fs) s.fs.length≠0 then a9b (a2k s.fs) s.fs.length
  else if b3h s.gs.length≠0 then b3h s.gs.length
  else a9b (a0E s.fs.length s.gs) s.gs.length:=rfl
 have hpg:∀ i,i<s.gs.length->(∀ j,j<i->a0E s.fs.length s.gs j=0)->a0b C0 61 [s.D,i64 (i:Int)] (i64 (a0E s.fs.length s.gs i)):=fun i hi ha=>d0l s i hs hi (fun h=>a6b (ha (i - 1) (by omega)))
 have fl:(((s.fs.map a1N.D).length:Nat):Int)=(s.fs.length:Int):=by rw [d9X]
 have gl:(((s.gs.map a0M.D).length:Nat):Int)=(s.gs.length:Int):=by rw [d9X]
 have ls:=hs.1;have lg:=hs.2.1;have hmf:∀ i,i<s.fs.length->(s.fs.map a1N.D)[i]? = some (.agg [str (sb (s.fs.getD i default).name),str (sb (s.fs.getD i default).tol),str (sb (s.fs.getD i default).kind),str (sb (s.fs.getD i default).step)]):=fun i hi=>c0C hi
 have hcf:∀ i,i<s.fs.length->a0b C0 60 [.agg [str (sb (s.fs.getD i default).name),str (sb (s.fs.getD i default).tol),str (sb (s.fs.getD i default).kind),str (sb (s.fs.getD i default).step)]] (i64 (a1m (s.fs.getD i default))):=fun i hi=>c7r _ (hs.2.2.1 _ (d9V (a9k hi)))
 have hfs:∀ k,k<s.fs.length->s.fs[k]? = some (s.fs.getD k default):=fun k hk=>a9k hk
 obtain ⟨v,hv⟩:∃ v,a0l s=v:=⟨_,rfl⟩
 rw [hv] at hsc ⊢;unfold a0Y.D at hpg ⊢;obtain ⟨fsD,hfsD⟩:∃ x,s.fs.map a1N.D=x:=⟨_,rfl⟩
 obtain ⟨gsD,hgsD⟩:∃ x,s.gs.map a0M.D=x:=⟨_,rfl⟩
 have pf:IsPure (.sl false 4 fsD):=by rw [<- hfsD];exact d9O
 have pg:IsPure (.sl false 3 gsD):=by rw [<- hgsD];exact d9O
 rw [hfsD] at fl hmf hpg ⊢;rw [hgsD] at gl hpg ⊢;have lf2:fsD.length=s.fs.length:=by omega
 obtain ⟨n,hn⟩:∃ n,s.fs.length=n:=⟨_,rfl⟩
 obtain ⟨m,hm⟩:∃ m,s.gs.length=m:=⟨_,rfl⟩
 rw [hn] at hsc hpg fl ls hmf hcf hfs;rw [hm] at hsc hpg gl lg;refine sR 0 ?_;refine OkS.seq ?_
 by_cases n0:n=0
 ·have e1:((n:Int)==0)=true:=by rw [n0];rfl
  have hv2:v=2:=by rw [hsc,n0];rfl
  rw [hv2];refine sZ 100 ?_;refine nwI (ff2 fl e1) ?_;refine ifI ?_;refine sR 200 ?_;refine rtI ?_;exact a0a rfl IsPure.out
 have e1:((n:Int)==0)=false:=e0g.2 (by omega);refine sZ 100 ?_;refine nwI (ff2 fl e1) ?_;refine ifI ?_;refine skI ?_;refine OkS.seq ?_
 by_cases n8:n>8
 ·have e2:decide ((n:Int)>8)=true:=d9S (by omega)
  have hv2:v=5:=by rw [hsc];unfold b2q;rw [d9Q n0,d9P n8];rfl
  rw [hv2];refine sZ 300 ?_;refine nwI (ff2 fl e2) ?_;refine ifI ?_;refine sR 400 ?_;refine rtI ?_;exact a0a rfl IsPure.out
 have e2:decide ((n:Int)>8)=false:=d9U (by omega);have hc0:b2q n=0:=by unfold b2q;rw [d9Q n0,d9Q n8]
 rw [d9Q (fun h=>h hc0)] at hsc;refine sZ 300 ?_;refine nwI (ff2 fl e2) ?_;refine ifI ?_;refine skI ?_;refine OkS.seq ?_;refine sR 500 ?_;refine OkS.block ?_;refine OkS.loop (α:=Nat × Nat) (fun q=>⟨[(1,.optr 0 0 2 0 0),(3,i64 (q.1:Int))],[⟨0,0,25,2,[.agg [.sl false 4 fsD,.sl false 3 gsD]]⟩],q.2⟩) (fun q=>n - q.1) (fun q=>q.1<=n/\∀ j,j<q.1->a2k s.fs j=0) (0,_) ⟨e0y _,fun j hj=>d9R hj (e1i j)⟩ wkI ?_;rintro ⟨i,c⟩ F ⟨hi,ha⟩;dsimp only at hi ha ⊢;refine OkS.seq ?_;refine sZ 600 ?_;refine nwI fl ?_;refine ifI ?_
 (refine brI (fun hlt=>?_) (fun hlt=>?_))<;>(try simp only [e0a,e0c] at hlt)<;>(try simp only [hlt])
 ·have hi2:i<n:=by
   have:=e0p hlt
   omega
  have hmi:=hmf i hi2;have cf:=hcf i hi2;have wi:IntKind.i64.wrap ((i:Int)+1)=((i+1:Nat):Int):=wI (by omega) (by omega);have hfst:a2k s.fs i≠0->v=a2k s.fs i:=fun h=>by
   have h2:=a7s (f:=a2k s.fs) ha hi2 h;rw [hsc,d9P (by rw [h2];exact h),h2]
  have hnext:a2k s.fs i=0->∀ x,x<i+1->a2k s.fs x=0:=fun h x hx=>by
   rcases e0j x i with hx2|hx2
   ·exact ha x hx2
   ·have:x=i:=by omega
    rw [this];exact h
  have hfac:a2k s.fs i=if a1m (s.fs.getD i default)≠0 then a1m (s.fs.getD i default) else if (s.fs.take i).any (fun x=>decide (x.name=(s.fs.getD i default).name)) then 9 else 0:=rfl
  obtain ⟨f,hf⟩:∃ f,s.fs.getD i default=f:=⟨_,rfl⟩
  rw [hf] at hmi cf hfac;obtain ⟨e0,he0⟩:∃ e0,a1m f=e0:=⟨_,rfl⟩
  rw [he0] at cf hfac;obtain ⟨r,hr⟩:∃ r,a2k s.fs i=r:=⟨_,rfl⟩
  rw [hr] at hfst hnext hfac;refine skI ?_;refine OkS.seq ?_;refine OkS.block ?_;refine sZ 800 ?_;refine gwI kN ?_;refine ixI kT hmi ?_;refine gwI kN ?_;refine a0j.same _ cf d9O ?_;refine stI ?_;refine d9A (α:=Nat) (fun c=>⟨[(1,.optr 0 0 2 0 0),(3,i64 (i:Int)),(4,i64 (r:Int))],[⟨0,0,25,2,[.agg [.sl false 4 fsD,.sl false 3 gsD]]⟩],c⟩) (fun _=>True) ?_ ?_
  ·refine sR 900 ?_
   refine OkS.block ?_;refine d9k (α:=Nat × Nat × Nat) (fun q=>⟨[(1,.optr 0 0 2 0 0),(3,i64 (i:Int)),(4,i64 (q.2.1:Int)),(5,i64 (q.1:Int))],[⟨0,0,25,2,[.agg [.sl false 4 fsD,.sl false 3 gsD]]⟩],q.2.2⟩) (fun q=>i - q.1)
    (fun q F'=>F'=F/\q.1<=i/\((q.2.1=e0/\(s.fs.take q.1).any (fun x=>decide (x.name=f.name))=false)\/(e0=0/\q.2.1=9/\(s.fs.take i).any (fun x=>decide (x.name=f.name))=true))) (0,e0,_) ⟨rfl,e0y _,.inl ⟨rfl,rfl⟩⟩ wkI ?_
   rintro ⟨k,e,c⟩ F' ⟨rfl,hk,hJ⟩;dsimp only at hk hJ ⊢;refine OkS.seq ?_
   by_cases hki:k<i
   rotate_left
   ·have h1:decide ((k:Int)<(i:Int))=false:=d9U (by omega)
    have hk3:k=i:=by omega
    have hre:r=e:=by
     rcases hJ with ⟨h2,h3⟩|⟨h2,h3,h4⟩
     ·rw [hfac,<- hk3,h3,h2]
      by_cases h5:e0=0
      ·rw [d9Q (fun h=>h h5),h5];rfl
      ·rw [d9P h5]
     ·rw [hfac,d9Q (fun h=>h h2),h4,h3];rfl
    rw [hre];refine sZ 1000 ?_;refine nwI (ff3 h1 kT kF) ?_
    try simp only [e0u]
    refine gwI kB ?_;refine ifI ?_;refine exI ?_;exact ⟨rfl,_,trivial,wkI⟩
   have h1:decide ((k:Int)<(i:Int))=true:=d9S (by omega)
   by_cases hez:e=0
   rotate_left
   ·have h2:((e:Int)==0)=false:=e0g.2 (by omega)
    have hre:r=e:=by
     rcases hJ with ⟨h2,h3⟩|⟨h2,h3,h4⟩
     ·rw [hfac,d9P (by omega),h2]
     ·rw [hfac,d9Q (fun h=>h h2),h4,h3];rfl
    rw [hre];refine sZ 1000 ?_;refine nwI (ff3 h1 kT kF) ?_
    try simp only [e0u]
    refine gwI kB ?_
    try simp only [h2]
    refine ifI ?_;refine exI ?_;exact ⟨rfl,_,trivial,wkI⟩
   have h2:((e:Int)==0)=true:=by rw [hez];rfl
   obtain ⟨h3,h4⟩:e=e0/\(s.fs.take k).any (fun x=>decide (x.name=f.name))=false:=by
    rcases hJ with h|⟨_,h,_⟩
    ·exact h
    ·omega
   have hmk:=hmf k (by omega);have hsk:=hfs k (by omega);have wk:IntKind.i64.wrap ((k:Int)+1)=((k+1:Nat):Int):=wI (by omega) (by omega);obtain ⟨y,hy⟩:∃ y,s.fs.getD k default=y:=⟨_,rfl⟩
   rw [hy] at hmk hsk;have es:=a6r y.name f.name;refine sZ 1000 ?_;refine nwI (ff3 h1 kT kF) ?_
   try simp only [e0u]
   refine gwI kB ?_
   try simp only [h2]
   refine ifI ?_;refine skI ?_;refine OkS.seq ?_;refine OkS.block ?_;refine OkS.seq ?_;refine d9n w1 1200 [0,1,2,3,4,5,6,7,8,9,10,11] [12] (by kernel_rfl) ?_;refine gwI kN ?_;refine ixI kT hmk ?_;refine gwI kN ?_;refine ixI kT hmi ?_;refine gwI kN ?_
   by_cases hn2:y.name=f.name
   ·rw [d9S hn2] at es
    try simp only [es]
    refine ifI ?_;refine rI 1300 ?_;refine d9l w1 1100 (by kernel_rfl) ?_;refine nwI wk ?_;exact ⟨(k+1,9,_),⟨by trivial,hki,.inr ⟨by omega,rfl,c9I hsk hki (d9S hn2)⟩⟩,by dsimp only;omega,wkI⟩
   ·rw [d9U hn2] at es
    try simp only [es]
    refine ifI ?_;refine skI ?_;refine d9l w1 1100 (by kernel_rfl) ?_;refine nwI wk ?_;exact ⟨(k+1,e,_),⟨by trivial,hki,.inl ⟨h3,b6v hsk h4 (d9U hn2)⟩⟩,by dsimp only;omega,wkI⟩
  rintro c2 -
  by_cases g1:r=0
  ·have e5:((r:Int) != 0)=false:=by rw [g1];rfl
   refine sZ 1400 ?_;refine nwI e5 ?_;refine ifI ?_;refine skI ?_;refine d9l w1 700 (by kernel_rfl) ?_;refine nwI wi ?_;exact ⟨(i+1,_),⟨hi2,hnext g1⟩,by dsimp only;omega,wkI⟩
  ·have e5:((r:Int) != 0)=true:=a3I (by omega)
   refine sZ 1400 ?_;refine nwI e5 ?_;refine ifI ?_;refine sR 1500 ?_;refine rtI ?_;exact a0a (by rw [hfst g1]) IsPure.out
 have hi2:i=n:=by
  have:=e0i hlt
  omega
 subst hi2;rw [d9Q (fun h=>h (a3h ha))] at hsc;clear ha;refine exI ?_;refine OkS.seq ?_
 by_cases m0:m=0
 ·have e3:((m:Int)==0)=true:=by rw [m0];rfl
  have hv2:v=2:=by rw [hsc,m0];rfl
  rw [hv2];refine sZ 1600 ?_;refine nwI (ff2 gl e3) ?_;refine ifI ?_;refine sR 1700 ?_;refine rtI ?_;exact a0a rfl IsPure.out
 have e3:((m:Int)==0)=false:=e0g.2 (by omega);refine sZ 1600 ?_;refine nwI (ff2 gl e3) ?_;refine ifI ?_;refine skI ?_;refine OkS.seq ?_
 by_cases m16:m>16
 ·have e4:decide ((m:Int)>16)=true:=d9S (by omega)
  have hv2:v=5:=by rw [hsc];unfold b3h;rw [d9Q m0,d9P m16];rfl
  rw [hv2];refine sZ 1800 ?_;refine nwI (ff2 gl e4) ?_;refine ifI ?_;refine sR 1900 ?_;refine rtI ?_;exact a0a rfl IsPure.out
 have e4:decide ((m:Int)>16)=false:=d9U (by omega);have hc1:b3h m=0:=by unfold b3h;rw [d9Q m0,d9Q m16]
 rw [d9Q (fun h=>h hc1)] at hsc;refine sZ 1800 ?_;refine nwI (ff2 gl e4) ?_;refine ifI ?_;refine skI ?_;refine OkS.seq ?_;refine sR 2000 ?_;refine OkS.block ?_;refine OkS.loop (α:=Nat × Nat) (fun q=>⟨[(1,.optr 0 0 2 0 0),(6,i64 (q.1:Int))],[⟨0,0,25,2,[.agg [.sl false 4 fsD,.sl false 3 gsD]]⟩],q.2⟩) (fun q=>m - q.1) (fun q=>q.1<=m/\∀ j,j<q.1->a0E i s.gs j=0) (0,_) ⟨e0y _,fun j hj=>d9R hj (e1i j)⟩ wkI ?_;rintro ⟨g,c⟩ F ⟨hg,ha⟩;dsimp only at hg ha ⊢;refine OkS.seq ?_;refine sZ 2100 ?_;refine nwI gl ?_;refine ifI ?_
 (refine brI (fun hlt2=>?_) (fun hlt2=>?_))<;>(try simp only [e0a,e0c] at hlt2)<;>(try simp only [hlt2])
 ·have hg2:g<m:=by
   have:=e0p hlt2
   omega
  have cg:=hpg g hg2 ha;have wi:IntKind.i64.wrap ((g:Int)+1)=((g+1:Nat):Int):=wI (by omega) (by omega);have hfst:a0E i s.gs g≠0->v=a0E i s.gs g:=fun h=>by
   rw [hsc];exact a7s (f:=a0E i s.gs) ha hg2 h
  have hnext:a0E i s.gs g=0->∀ x,x<g+1->a0E i s.gs x=0:=fun h x hx=>by
   rcases e0j x g with hx2|hx2
   ·exact ha x hx2
   ·have:x=g:=by omega
    rw [this];exact h
  obtain ⟨r,hr⟩:∃ r,a0E i s.gs g=r:=⟨_,rfl⟩
  rw [hr] at cg hfst hnext;refine skI ?_;refine OkS.seq ?_;refine OkS.block ?_;refine sR 2300 ?_;refine a0j.same _ cg d9O ?_;refine stI ?_
  by_cases g1:r=0
  ·have e5:((r:Int) != 0)=false:=by rw [g1];rfl
   refine sZ 2400 ?_;refine nwI e5 ?_;refine ifI ?_;refine skI ?_;refine d9l w1 2200 (by kernel_rfl) ?_;refine nwI wi ?_;exact ⟨(g+1,_),⟨hg2,hnext g1⟩,by dsimp only;omega,wkI⟩
  ·have e5:((r:Int) != 0)=true:=a3I (by omega)
   refine sZ 2400 ?_;refine nwI e5 ?_;refine ifI ?_;refine sR 2500 ?_;refine rtI ?_;exact a0a (by rw [hfst g1]) IsPure.out
 have hg2:g=m:=by
  have:=e0i hlt2
  omega
 subst hg2;refine exI ?_;refine sR 2600 ?_;refine rtI ?_;exact a0a (by rw [hsc,a3h ha];rfl) IsPure.out
def b5v (v:List (List UInt8)):Bool:=v.all fun l=>decide (l.length<=40)
def a6N (f:a1N):Bool:=decide (f.name.length<=100)&&decide (f.kind.length<=100)&&decide (f.tol.length<=40)&&decide (f.step.length<=40)
def a7H (g:a0M):Bool:=decide (g.name.length<=100)&&decide (g.least.length<=20)&&decide (g.most.length<=20)&&b5v g.least&&b5v g.most
def a7R (s:a0Y):Bool:=decide (s.fs.length<=12)&&decide (s.gs.length<=20)&&s.fs.all a6N&&s.gs.all a7H
theorem a9q {v:List (List UInt8)}(h:b5v v=true):∀ l∈v,l.length<=40:=fun l hl=>e0p (e0B.1 h l hl)
theorem c1J {s:a0Y}(h:a7R s=true):s.few:=by
 simp only [a7R,e0f,e0Q,e0B] at h;obtain ⟨⟨⟨h1,h2⟩,h3⟩,h4⟩:=h;refine ⟨by omega,by omega,fun f hf=>?_,fun g hg=>?_⟩
 ·have:=h3 f hf
  simp only [a6N,e0f,e0Q] at this;obtain ⟨⟨⟨q1,q2⟩,q3⟩,q4⟩:=this;exact ⟨by omega,by omega,by omega,by omega⟩
 ·have:=h4 g hg
  simp only [a7H,e0f,e0Q] at this;obtain ⟨⟨⟨⟨q1,q2⟩,q3⟩,q4⟩,q5⟩:=this;exact ⟨by omega,by omega,by omega,fun l hl=>by have:=a9q q4 l hl;omega,fun l hl=>by have:=a9q q5 l hl;omega⟩
theorem a8c {α:Type}{l:List α}{p:α->Bool}{k:Nat}{x:α}(hx:l[k]? = some x)(h:(l.take k).all p=true)(hp:p x=true):(l.take (k+1)).all p=true:=by
 rw [e1F,hx,e2F,h];simp [hp]
theorem a4l {α:Type}{l:List α}{p:α->Bool}{k:Nat}{x:α}(hx:l[k]? = some x)(hp:p x=false):l.all p=false:=by
 cases h:l.all p
 ·rfl
 ·rw [e0B.1 h x (d9V hx)] at hp;exact hp
theorem b3m {a b:Nat}:decide ((a:Int)>(b:Int)) = !decide (a<=b):=by
 by_cases h:a<=b
 ·rw [d9U (by omega),d9S h];rfl
 ·rw [d9S (by omega),d9U h];rfl
theorem c2R (b:Bool)(v:List (List UInt8))(hl:v.length<=9223372036854775807):a0b C0 29 [.sl b 1 (v.map fun l=>str (sb l))] (boo (b5v v)):=by
 refine a0c.walk w1 d4q rfl fun F=>?_
 have el:(((v.map fun l=>str (sb l)).length:Nat):Int)=(v.length:Int):=by rw [d9X]
 refine sR 0 ?_;refine OkS.seq ?_;refine sZ 100 ?_;refine nwI el ?_;refine OkS.block ?_;refine OkS.loop (α:=Nat × Nat) (fun p=>⟨[(5,.sl b 1 (v.map fun l=>str (sb l))),(6,i64 v.length),(7,i64 (p.1:Int))],[],p.2⟩) (fun p=>v.length - p.1) (fun p=>p.1<=v.length/\(v.take p.1).all (fun l=>decide (l.length<=40))=true) (0,_) ⟨e0y _,rfl⟩ wkI ?_;rintro ⟨i,n⟩ F ⟨hi,ha⟩;dsimp only at hi ha ⊢;refine sR 200 ?_;refine OkS.seq ?_;refine ifI ?_
 (refine brI (fun hlt=>?_) (fun hlt=>?_))<;>(try simp only [e0a,e0c] at hlt)<;>(try simp only [hlt])
 ·have hi2:i<v.length:=by
   have:=e0p hlt
   omega
  have hm:=a1V hi2;have hx:=b0c hi2;have wi:IntKind.i64.wrap ((i:Int)+1)=((i+1:Nat):Int):=wI (by omega) (by omega);obtain ⟨l,hl'⟩:∃ l,lv v i=l:=⟨_,rfl⟩
  rw [hl'] at hm hx;have hsz:=a0x l;refine skI ?_;refine OkS.seq ?_;refine OkS.block ?_;refine sZ 300 ?_;refine gwI kN ?_;refine ixI kT hm ?_;refine gwI kN ?_
  by_cases g:l.length<=40
  ·have e5:decide ((l.length:Int)>40)=false:=d9U (by omega)
   refine sZ 400 ?_;refine nwI (ff2 hsz e5) ?_;refine ifI ?_;refine skI ?_;refine d9l w1 600 (by kernel_rfl) ?_;refine nwI wi ?_;exact ⟨(i+1,_),⟨hi2,a8c hx ha (d9S g)⟩,by dsimp only;omega,wkI⟩
  ·have e5:decide ((l.length:Int)>40)=true:=d9S (by omega)
   refine sZ 400 ?_;refine nwI (ff2 hsz e5) ?_;refine ifI ?_;refine sR 500 ?_;refine rtI ?_;exact a0a (by unfold b5v;rw [a4l hx (d9U g)]) IsPure.out
 have hi2:i=v.length:=by
  have:=e0i hlt
  omega
 subst hi2;refine exI ?_;refine sR 700 ?_;refine rtI ?_;exact a0a (by unfold b5v;rw [e1S] at ha;rw [ha]) IsPure.out
theorem c7G (f:a1N):a0b C0 28 [f.D] (boo (a6N f)):=by
 refine a0c.walk w1 d5u rfl fun F=>?_
 have cf:=c2R true [f.tol,f.step] (by simp);have hr:a6N f=(decide (f.name.length<=100)&&(decide (f.kind.length<=100)&&b5v [f.tol,f.step])):=by
  unfold a6N b5v;simp only [e1I,List.all_nil,Bool.and_true,Bool.and_assoc]
 rw [hr];have z1:=a0x f.name;have z2:=a0x f.kind;dsimp only [List.map] at cf;unfold a1N.D;obtain ⟨q,hq⟩:∃ q,b5v [f.tol,f.step]=q:=⟨_,rfl⟩
 rw [hq] at cf ⊢;have d1:decide ((f.name.length:Int)<=100)=decide (f.name.length<=100):=e0O.2 (by omega);have d2:decide ((f.kind.length:Int)<=100)=decide (f.kind.length<=100):=e0O.2 (by omega);refine sR 0 ?_
 by_cases g1:f.name.length<=100
 rotate_left
 ·rw [d9U g1] at d1 ⊢
  refine sZ 100 ?_;refine nwI (ff2 z1 d1) ?_;refine gwI kB ?_
  try simp only [e0u]
  refine gwI kB ?_
  try simp only [e0u]
  refine gwI kB ?_;refine rtI ?_;exact a0a rfl IsPure.out
 rw [d9S g1] at d1 ⊢
 by_cases g2:f.kind.length<=100
 rotate_left
 ·rw [d9U g2] at d2 ⊢
  refine sZ 100 ?_;refine nwI (ff2 z1 d1) ?_;refine gwI kB ?_
  try simp only [z2,d2,e0u]
  refine gwI kB ?_
  try simp only [e0u]
  refine gwI kB ?_;refine rtI ?_;exact a0a rfl IsPure.out
 rw [d9S g2] at d2 ⊢;refine sZ 100 ?_;refine nwI (ff2 z1 d1) ?_;refine gwI kB ?_
 try simp only [z2,d2,e0u]
 refine gwI kB ?_
 try simp only [e0u]
 refine gcI kB ?_;refine a0j.same _ cf d9O ?_;refine gwI kB ?_
 try simp only [e0u]
 refine rtI ?_;exact a0a rfl IsPure.out
def a0Y.fit (s:a0Y):Prop:=s.fs.length<=9223372036854775807/\s.gs.length<=9223372036854775807/\∀ g∈s.gs,g.least.length<=9223372036854775807/\g.most.length<=9223372036854775807
theorem c7H (s:a0Y)(hs:s.fit):a0b C0 5 [s.D] (boo (a7R s)):=by
 refine a0c.walk w1 d7P rfl fun F=>?_
 have fl:(((s.fs.map a1N.D).length:Nat):Int)=(s.fs.length:Int):=by rw [d9X]
 have gl:(((s.gs.map a0M.D).length:Nat):Int)=(s.gs.length:Int):=by rw [d9X]
 obtain ⟨ls,lg,lx⟩:=hs;have hmf:∀ i,i<s.fs.length->(s.fs.map a1N.D)[i]? = some (.agg [str (sb (s.fs.getD i default).name),str (sb (s.fs.getD i default).tol),str (sb (s.fs.getD i default).kind),str (sb (s.fs.getD i default).step)]):=fun i hi=>c0C hi
 have hfs:∀ k,k<s.fs.length->s.fs[k]? = some (s.fs.getD k default):=fun k hk=>a9k hk
 have hmg:∀ k,k<s.gs.length->(s.gs.map a0M.D)[k]? = some (.agg [str (sb (s.gs.getD k default).name),.sl false 1 ((s.gs.getD k default).least.map fun l=>str (sb l)),.sl false 1 ((s.gs.getD k default).most.map fun l=>str (sb l))]):=fun k hk=>b6m hk
 have hgs:∀ k,k<s.gs.length->s.gs[k]? = some (s.gs.getD k default):=fun k hk=>a3r hk
 have hL:a7R s=(decide (s.fs.length<=12)&&(decide (s.gs.length<=20)&&(s.fs.all a6N&&s.gs.all a7H))):=by
  unfold a7R;simp only [Bool.and_assoc]
 rw [hL];unfold a0Y.D;obtain ⟨fsD,hfsD⟩:∃ x,s.fs.map a1N.D=x:=⟨_,rfl⟩
 obtain ⟨gsD,hgsD⟩:∃ x,s.gs.map a0M.D=x:=⟨_,rfl⟩
 have pf:IsPure (.sl false 4 fsD):=by rw [<- hfsD];exact d9O
 have pg:IsPure (.sl false 3 gsD):=by rw [<- hgsD];exact d9O
 rw [hfsD] at fl hmf ⊢;rw [hgsD] at gl hmg ⊢;obtain ⟨n,hn⟩:∃ n,s.fs.length=n:=⟨_,rfl⟩
 obtain ⟨m,hm⟩:∃ m,s.gs.length=m:=⟨_,rfl⟩
 have hnl:=hn;have hml:=hm;rw [hn] at fl ls hmf hfs ⊢;rw [hm] at gl lg hmg hgs ⊢;have d1:decide ((n:Int)>12) = !decide (n<=12):=b3m (b:=12);have d2:decide ((m:Int)>20) = !decide (m<=20):=b3m (b:=20);refine sR 0 ?_;refine OkS.seq ?_
 by_cases g1:n<=12
 rotate_left
 ·rw [d9U g1] at d1 ⊢
  refine sZ 100 ?_;refine nwI (ff3 fl d1 kF) ?_;refine gwI kB ?_
  try simp only [e0u]
  refine gwI kB ?_;refine ifI ?_;refine sR 200 ?_;refine rtI ?_;exact a0a rfl IsPure.out
 rw [d9S g1] at d1 ⊢
 by_cases g2:m<=20
 rotate_left
 ·rw [d9U g2] at d2 ⊢
  refine sZ 100 ?_;refine nwI (ff3 fl d1 kT) ?_;refine gwI kB ?_
  try simp only [gl,d2,e0S,e0u]
  refine ifI ?_;refine sR 200 ?_;refine rtI ?_;exact a0a rfl IsPure.out
 rw [d9S g2] at d2 ⊢;refine sZ 100 ?_;refine nwI (ff3 fl d1 kT) ?_;refine gwI kB ?_
 try simp only [gl,d2,e0V,e0u]
 refine ifI ?_;refine skI ?_;rw [e1J,e1J];refine OkS.seq ?_;refine sZ 300 ?_;refine nwI fl ?_;refine OkS.block ?_;refine OkS.loop (α:=Nat × Nat) (fun q=>⟨[(1,.optr 0 0 2 0 0),(18,.sl false 4 fsD),(19,i64 (n:Int)),(20,i64 (q.1:Int))],[⟨0,0,25,2,[.agg [.sl false 4 fsD,.sl false 3 gsD]]⟩],q.2⟩) (fun q=>n - q.1) (fun q=>q.1<=n/\(s.fs.take q.1).all a6N=true) (0,_) ⟨e0y _,rfl⟩ wkI ?_;rintro ⟨i,c⟩ F ⟨hi,ha⟩;dsimp only at hi ha ⊢;refine sR 400 ?_;refine OkS.seq ?_;refine ifI ?_
 (refine brI (fun hlt=>?_) (fun hlt=>?_))<;>(try simp only [e0a,e0c] at hlt)<;>(try simp only [hlt])
 ·have hi2:i<n:=by
   have:=e0p hlt
   omega
  have hmi:=hmf i hi2;have hsi:=hfs i hi2;have wi:IntKind.i64.wrap ((i:Int)+1)=((i+1:Nat):Int):=wI (by omega) (by omega);obtain ⟨f,hf⟩:∃ f,s.fs.getD i default=f:=⟨_,rfl⟩
  rw [hf] at hmi hsi;have cp:=c7G f;unfold a1N.D at cp;refine skI ?_;refine OkS.seq ?_;refine OkS.block ?_;refine sZ 500 ?_;refine gwI kN ?_;refine ixI kT hmi ?_;refine gwI kN ?_;cases hp:a6N f
  ·rw [hp] at cp
   refine sR 600 ?_;refine cI cp ?_;refine ifI ?_;refine sR 700 ?_;refine rtI ?_;exact a0a (by rw [a4l hsi hp];rfl) IsPure.out
  ·rw [hp] at cp
   refine sR 600 ?_;refine cI cp ?_;refine ifI ?_;refine skI ?_;refine d9l w1 800 (by kernel_rfl) ?_;refine nwI wi ?_;exact ⟨(i+1,_),⟨hi2,a8c hsi ha hp⟩,by dsimp only;omega,wkI⟩
 have hi2:i=n:=by
  have:=e0i hlt
  omega
 subst hi2;rw [show s.fs.all a6N=true by rw [<- ha,<- hnl,e1S],e1J];clear ha;refine exI ?_;refine OkS.seq ?_;refine sZ 900 ?_;refine nwI gl ?_;refine OkS.block ?_;refine OkS.loop (α:=Nat × Nat) (fun q=>⟨[(29,.sl false 3 gsD),(30,i64 (m:Int)),(31,i64 (q.1:Int))],[],q.2⟩) (fun q=>m - q.1) (fun q=>q.1<=m/\(s.gs.take q.1).all a7H=true) (0,_) ⟨e0y _,rfl⟩ wkI ?_;rintro ⟨k,c⟩ F ⟨hk,ha⟩;dsimp only at hk ha ⊢;refine sR 1000 ?_;refine OkS.seq ?_;refine ifI ?_
 (refine brI (fun hlt2=>?_) (fun hlt2=>?_))<;>(try simp only [e0a,e0c] at hlt2)<;>(try simp only [hlt2])
 ·have hk2:k<m:=by
   have:=e0p hlt2
   omega
  have hmk:=hmg k hk2;have hsk:=hgs k hk2;have lk:=lx _ (d9V hsk);have wi:IntKind.i64.wrap ((k:Int)+1)=((k+1:Nat):Int):=wI (by omega) (by omega);obtain ⟨g,hg⟩:∃ g,s.gs.getD k default=g:=⟨_,rfl⟩
  rw [hg] at hmk hsk lk;have c1:=c2R false g.least lk.1;have c2:=c2R false g.most lk.2;have hG:a7H g=(decide (g.name.length<=100)&&(decide (g.least.length<=20)&&(decide (g.most.length<=20)&&(b5v g.least&&b5v g.most)))):=by
   unfold a7H;simp only [Bool.and_assoc]
  have z1:=a0x g.name;have z2:(((g.least.map fun l=>str (sb l)).length:Nat):Int)=(g.least.length:Int):=by rw [d9X]
  have z3:(((g.most.map fun l=>str (sb l)).length:Nat):Int)=(g.most.length:Int):=by rw [d9X]
  have y1:decide ((g.name.length:Int)>100) = !decide (g.name.length<=100):=b3m (b:=100);have y2:decide ((g.least.length:Int)>20) = !decide (g.least.length<=20):=b3m (b:=20);have y3:decide ((g.most.length:Int)>20) = !decide (g.most.length<=20):=b3m (b:=20);obtain ⟨b1,hb1⟩:∃ b,decide (g.name.length<=100)=b:=⟨_,rfl⟩
  obtain ⟨b2,hb2⟩:∃ b,decide (g.least.length<=20)=b:=⟨_,rfl⟩
  obtain ⟨b3,hb3⟩:∃ b,decide (g.most.length<=20)=b:=⟨_,rfl⟩
  obtain ⟨b4,hb4⟩:∃ b,b5v g.least=b:=⟨_,rfl⟩
  obtain ⟨b5,hb5⟩:∃ b,b5v g.most=b:=⟨_,rfl⟩
  rw [hb1] at y1 hG;rw [hb2] at y2 hG;rw [hb3] at y3 hG;rw [hb4] at c1 hG;rw [hb5] at c2 hG;refine skI ?_;refine OkS.seq ?_;refine OkS.block ?_;refine sZ 1100 ?_;refine gwI kN ?_;refine ixI kT hmk ?_;refine gwI kN ?_;cases b1
  ·refine sZ 1200 ?_
   refine nwI (ff4 z1 y1 kT kF) ?_;refine gwI kB ?_
   try simp only [e0u]
   refine gwI kB ?_
   try simp only [e0u]
   refine gwI kB ?_
   try simp only [e0u]
   refine gwI kB ?_;refine ifI ?_;refine sR 1300 ?_;refine rtI ?_;exact a0a (by rw [a4l hsk hG]) IsPure.out
  cases b2
  ·refine sZ 1200 ?_
   refine nwI (ff4 z1 y1 kT kF) ?_;refine gwI kB ?_
   try simp only [z2,y2,e0V,e0S,e0u]
   refine gwI kB ?_
   try simp only [e0u]
   refine gwI kB ?_
   try simp only [e0u]
   refine gwI kB ?_;refine ifI ?_;refine sR 1300 ?_;refine rtI ?_;exact a0a (by rw [a4l hsk hG]) IsPure.out
  cases b3
  ·refine sZ 1200 ?_
   refine nwI (ff4 z1 y1 kT kF) ?_;refine gwI kB ?_
   try simp only [z2,y2,e0V,e0S,e0u]
   refine gwI kB ?_
   try simp only [z3,y3,e0V,e0S,e0u]
   refine gwI kB ?_
   try simp only [e0u]
   refine gwI kB ?_;refine ifI ?_;refine sR 1300 ?_;refine rtI ?_;exact a0a (by rw [a4l hsk hG]) IsPure.out
  cases b4
  ·refine sZ 1200 ?_
   refine nwI (ff4 z1 y1 kT kF) ?_;refine gwI kB ?_
   try simp only [z2,y2,e0V,e0S,e0u]
   refine gwI kB ?_
   try simp only [z3,y3,e0V,e0S,e0u]
   refine gwI kB ?_;refine gcI kB ?_;refine a0j.same _ c1 d9O ?_;refine gwI kB ?_
   try simp only [e0u]
   refine gwI kB ?_;refine ifI ?_;refine sR 1300 ?_;refine rtI ?_;exact a0a (by rw [a4l hsk hG]) IsPure.out
  cases b5
  ·refine sZ 1200 ?_
   refine nwI (ff4 z1 y1 kT kF) ?_;refine gwI kB ?_
   try simp only [z2,y2,e0V,e0S,e0u]
   refine gwI kB ?_
   try simp only [z3,y3,e0V,e0S,e0u]
   refine gwI kB ?_;refine gcI kB ?_;refine a0j.same _ c1 d9O ?_;refine gwI kB ?_
   try simp only [e0u]
   refine gwI kB ?_;refine gcI kB ?_;refine a0j.same _ c2 d9O ?_;refine gwI kB ?_
   try simp only [e0u]
   refine ifI ?_;refine sR 1300 ?_;refine rtI ?_;exact a0a (by rw [a4l hsk hG]) IsPure.out
  refine sZ 1200 ?_;refine nwI (ff4 z1 y1 kT kF) ?_;refine gwI kB ?_
  try simp only [z2,y2,e0V,e0S,e0u]
  refine gwI kB ?_
  try simp only [z3,y3,e0V,e0S,e0u]
  refine gwI kB ?_;refine gcI kB ?_;refine a0j.same _ c1 d9O ?_;refine gwI kB ?_
  try simp only [e0u]
  refine gwI kB ?_;refine gcI kB ?_;refine a0j.same _ c2 d9O ?_;refine gwI kB ?_
  try simp only [e0u]
  refine ifI ?_;refine skI ?_;refine d9l w1 1400 (by kernel_rfl) ?_;refine nwI wi ?_;exact ⟨(k+1,_),⟨hk2,a8c hsk ha hG⟩,by dsimp only;omega,wkI⟩
 have hk2:k=m:=by
  have:=e0i hlt2
  omega
 subst hk2;rw [show s.gs.all a7H=true by rw [<- ha,<- hml,e1S]];refine exI ?_;refine sR 1500 ?_;refine rtI ?_;exact a0a rfl IsPure.out
open Go.ChangeShapes Go.WideShapes
def stF (P:Program)(t:Nat):Option (List (Nat × Nat × Nat)):=match P.underlying t with
 | some (.struct fs)=>some (fs.toList.map fun f=>(f.type,f.offset,P.cellsOf f.type))
 | _=>none
section
variable {H:Type} {enc:TypeId × Value->H} {W:World} {fuel:Nat} {cs:List Value} {x:DataW H × List MemPlace} {t:TypeId}
theorem b4Q {l:List (Nat × Nat × Nat)}{m:Nat}(hs:stF Tryz.prog t=some l)(hm:Tryz.prog.cellsOf t=m)(h:DataW.trod enc Tryz.prog W 0 (fun _=>true) true fuel t cs=some x) :
  cs.length=m/\∃ n,∀ (i u off k:Nat),l[i]? = some (u,off,k)->∃ y,DataW.trod enc Tryz.prog W 0 (fun _=>true) true n u ((cs.drop off).take k)=some y:=by
 unfold stF at hs;split at hs
 ·rename_i fs hu
  obtain ⟨h1,n,h2⟩:=b8n hu h;refine ⟨h1.trans hm,n,fun i u off k hl=>?_⟩;obtain rfl:=e2e hs;rw [e0l] at hl;obtain ⟨f,hf,he⟩:=Option.map_eq_some_iff.1 hl;cases he;exact h2 i f (by rw [<- e1U];exact hf)
 ·cases hs
theorem a4D {a b c:Nat}{p q:List D}(h:a5Y W ((cs.drop a).take b) p)(k:a5Y W ((cs.drop (a+b)).take c) q):a5Y W ((cs.drop a).take (b+c)) (p++q):=by
 rw [List.take_add,List.drop_drop];exact h.append k
theorem a9n {n:Nat}{p:List D}(hn:cs.length=n)(h:a5Y W ((cs.drop 0).take n) p):a5Y W cs p:=by
 rw [e1C,<- hn,e1S] at h;exact h
theorem a9s (h:DataW.trod enc Tryz.prog W 0 (fun _=>true) true fuel 38 cs=some x):∃ l:List UInt8,a5Y W cs (str (sb l)).cells/\l.length<=maxLen:=c6o (by kernel_rfl) h
theorem a8H (h:DataW.trod enc Tryz.prog W 0 (fun _=>true) true fuel 9 cs=some x):∃ l:List UInt8,a5Y W cs [str (sb l)]/\l.length<=maxLen:=c6o (by kernel_rfl) h
theorem b4d (h:DataW.trod enc Tryz.prog W 0 (fun _=>true) true fuel 37 cs=some x):∃ l:List (List UInt8),a5Y W cs [.sl false 1 (l.map fun l=>str (sb l))]/\(∀ a∈l,a.length<=maxLen)/\l.length<=maxLen :=
 b9R (g:=fun l:List UInt8=>str (sb l)) (ok:=fun l=>l.length<=maxLen) (e:=38) (by kernel_rfl) (by kernel_rfl) (by decide) (fun _ _ _ h=>a9s h) h
theorem b8l (h:DataW.trod enc Tryz.prog W 0 (fun _=>true) true fuel 72 cs=some x):∃ f:a1N,a5Y W cs f.D.cells/\True:=by
 obtain ⟨h1,n,h2⟩:=b4Q (l:=[(9,0,1),(38,1,1),(70,2,2)]) (m:=4) (by kernel_rfl) (by kernel_rfl) h;obtain ⟨y0,k0⟩:=h2 0 _ _ _ rfl;obtain ⟨y1,k1⟩:=h2 1 _ _ _ rfl;obtain ⟨y2,k2⟩:=h2 2 _ _ _ rfl;obtain ⟨a0,r0,_⟩:=a8H k0;obtain ⟨a1,r1,_⟩:=a9s k1;obtain ⟨h3,n',h4⟩:=b4Q (l:=[(9,0,1),(38,1,1)]) (m:=2) (by kernel_rfl) (by kernel_rfl) k2;obtain ⟨z0,j0⟩:=h4 0 _ _ _ rfl;obtain ⟨z1,j1⟩:=h4 1 _ _ _ rfl;obtain ⟨b0,s0,_⟩:=a8H j0;obtain ⟨b1,s1,_⟩:=a9s j1;exact ⟨⟨a0,a1,b0,b1⟩,a9n h1 (a4D (b:=1) (c:=3) r0 (a4D (b:=1) (c:=2) r1 (a9n h3 (a4D (b:=1) (c:=1) s0 s1)))),trivial⟩
def d6R (g:a0M):Prop:=g.least.length<=maxLen/\g.most.length<=maxLen
theorem c2O (h:DataW.trod enc Tryz.prog W 0 (fun _=>true) true fuel 67 cs=some x):∃ g:a0M,a5Y W cs g.D.cells/\d6R g:=by
 obtain ⟨h1,n,h2⟩:=b4Q (l:=[(9,0,1),(37,1,1),(37,2,1)]) (m:=3) (by kernel_rfl) (by kernel_rfl) h;obtain ⟨y0,k0⟩:=h2 0 _ _ _ rfl;obtain ⟨y1,k1⟩:=h2 1 _ _ _ rfl;obtain ⟨y2,k2⟩:=h2 2 _ _ _ rfl;obtain ⟨a0,r0,_⟩:=a8H k0;obtain ⟨a1,r1,_,l1⟩:=b4d k1;obtain ⟨a2,r2,_,l2⟩:=b4d k2;exact ⟨⟨a0,a1,a2⟩,a9n h1 (a4D (b:=1) (c:=2) r0 (a4D (b:=1) (c:=1) r1 r2)),l1,l2⟩
theorem b8g (h:DataW.trod enc Tryz.prog W 0 (fun _=>true) true fuel 25 cs=some x):∃ s:a0Y,a5Y W cs s.D.cells/\s.fit:=by
 obtain ⟨h1,n,h2⟩:=b4Q (l:=[(22,0,1),(23,1,1)]) (m:=2) (by kernel_rfl) (by kernel_rfl) h;obtain ⟨y0,k0⟩:=h2 0 _ _ _ rfl;obtain ⟨y1,k1⟩:=h2 1 _ _ _ rfl;obtain ⟨a0,r0,_,l0⟩:=b9R (g:=a1N.D) (ok:=fun _=>True) (e:=72) (sz:=4) (by kernel_rfl) (by kernel_rfl) (by decide) (fun _ _ _ h=>b8l h) k0;obtain ⟨a1,r1,g1,l1⟩:=b9R (g:=a0M.D) (ok:=d6R) (e:=67) (sz:=3) (by kernel_rfl) (by kernel_rfl) (by decide) (fun _ _ _ h=>c2O h) k1;have hM:maxLen<=9223372036854775807:=by decide
 exact ⟨⟨a0,a1⟩,a9n h1 (a4D (b:=1) (c:=1) r0 r1),by dsimp only;omega,by dsimp only;omega,fun g hg=>⟨e0A (g1 g hg).1 hM,e0A (g1 g hg).2 hM⟩⟩
end
def a3i (a b:List UInt8):D:=.agg (c7s (decide (a=[])) (decide (b=[])) a b)
instance  (a b:List UInt8):CellsPure (a3i a b):=by unfold a3i;exact d9O
instance  (a b:List UInt8):IsPure (a3i a b):=by unfold a3i;exact d9O
def a2h (a b:List UInt8)(x:Rat):Bool:=(decide (a=[])||decide (a1e x (a0d a)>=0))&&(decide (b=[])||decide (a1e x (a0d b)<=0))
theorem c2z (a b:List UInt8)(x:Rat)(y:GF)(hx:FR x y 600)(ha:a2z a=0)(hb:a2z b=0):a0b C0 69 [a3i a b,y.D] (boo (a2h a b x)):=by
 refine a0c.walk w1 d0O rfl fun F=>?_
 obtain ⟨qa,ga⟩:∃ q,decide (a=[])=q:=⟨_,rfl⟩
 obtain ⟨qb,gb⟩:∃ q,decide (b=[])=q:=⟨_,rfl⟩
 obtain ⟨p,hp⟩:∃ q,decide (a1e x (a0d a)>=0)=q:=⟨_,rfl⟩
 obtain ⟨q,hq⟩:∃ q,decide (a1e x (a0d b)<=0)=q:=⟨_,rfl⟩
 have c1:qa=false->a0b C0 117 [y.D,(a5C a).D] (i64 (a1e x (a0d a))):=fun h=>b0t hx (a7f ha (e0i (ga.trans h))) (by decide)
 have c2:qb=false->a0b C0 117 [y.D,(a5C b).D] (i64 (a1e x (a0d b))):=fun h=>b0t hx (a7f hb (e0i (gb.trans h))) (by decide)
 have hw:a2h a b x=((qa||p)&&(qb||q)):=by unfold a2h;rw [ga,gb,hp,hq]
 unfold a3i;rw [hw,ga,gb];clear hw ga gb;cases qa<;>cases qb<;>cases p<;>cases q
 all_goals
  refine goI dr0 (ff2 hp hq) c1 c2 d9N d9N d9N d9N ?_;exact a0a rfl IsPure.out
abbrev a8n:Dr:=[(4,[0,1,2,3,4],[5])]
open Go.Proofs Go.RowKit
set_option maxRecDepth 20000
set_option maxHeartbeats 4000000
theorem ltT {i n:Nat}(h:i<n):decide ((i:Int)<(n:Int))=true:=d9S (by omega)
theorem ltF {i n:Nat}(h:n<=i):decide ((i:Int)<(n:Int))=false:=d9U (by omega)
theorem wiI {i:Nat}(h:i<9223372036854775807):IntKind.i64.wrap ((i:Int)+1)=((i+1:Nat):Int):=wI (by omega) (by omega)
abbrev LP:=List UInt8 × List UInt8
def pv (r:List LP)(k:Nat):LP:=r.getD k ([],[])
def a6H (r:List LP):D:=.sl false 10 (r.map fun p=>a3i p.1 p.2)
instance  (r:List LP):CellsPure (a6H r):=by unfold a6H;exact d9O
instance  (r:List LP):IsPure (a6H r):=by unfold a6H;exact d9O
abbrev b2c (n:Nat)(G:List (List LP)):D:=.agg [i64 (n:Int),.sl false 1 (G.map a6H)]
structure a6q (n:Nat)(G:List (List LP)):Prop where
 num:n<=1000
 len:G.length<=1000
 row:∀ r∈G,r.length=n/\∀ p∈r,a2z p.1=0/\a2z p.2=0
def a0Q (G:List (List LP))(k:Nat)(x:Rat):Nat:=G.findIdx fun r=>a2h (pv r k).1 (pv r k).2 x
theorem a5x {α:Type}{p:α->Bool}{l:List α}{i:Nat}{x:α}(hx:l[i]? = some x)(h:p x=true)(ha:∀ (j:Nat) (y:α),j<i->l[j]? = some y->p y=false):l.findIdx p=i:=by
 obtain ⟨hi,e⟩:=List.getElem?_eq_some_iff.1 hx;exact (List.findIdx_eq hi).2 ⟨by rw [e];exact h,fun j hj=>ha j _ hj (d9W _)⟩
theorem a3E {α:Type}{p:α->Bool}{l:List α}(ha:∀ (j:Nat) (y:α),j<l.length->l[j]? = some y->p y=false):l.findIdx p=l.length :=
 List.findIdx_eq_length.2 fun x hx=>by
  obtain ⟨j,hj,e⟩:=e1V hx;exact ha j x hj (by rw [d9W hj,e])
theorem a0J {α:Type}{l:List α}{i:Nat}(h:i<l.length):∃ x,l[i]? = some x:=⟨l[i],d9W h⟩
theorem a2F {α:Type}{l:List α}{Q:α->Prop}{i:Nat}{x:α}(hx:l[i]? = some x)(ha:∀ (j:Nat) (y:α),j<i->l[j]? = some y->Q y)(h:Q x):∀ (j:Nat) (y:α),j<i+1->l[j]? = some y->Q y:=fun j y hj hy=>by
 rcases e0j j i with h1|h1
 ·exact ha j y h1 hy
 ·have:j=i:=by omega
  subst this;rw [hx] at hy;cases hy;exact h
theorem c1t {r:List LP}{k:Nat}(h:k<r.length):r[k]? = some (pv r k):=by
 unfold pv;rw [e0q,d9W h];rfl
theorem c0c (n:Nat)(G:List (List LP))(hG:a6q n G)(k:Nat)(hk:k<n)(x:Rat)(y:GF)(hx:FR x y 600):a0b C0 134 [b2c n G,i64 (k:Int),y.D] (i64 (a0Q G k x:Nat)):=by
 refine a0c.walk w1 c5e rfl fun F=>?_
 have el:(((G.map a6H).length:Nat):Int)=(G.length:Int):=by rw [d9X]
 have hn:=hG.len;refine goI a8n el d9N d9N d9N d9N d9N d9N ?_;refine OkS.loop (α:=Nat × Nat) (fun p=>⟨[(1,i64 (k:Int)),(3,.optr 0 0 2 0 0),(5,.optr 1 1 4 0 0),(10,.sl false 1 (G.map a6H)),(11,i64 (G.length:Int)),(12,i64 (p.1:Int))],[⟨1,1,116,4,[y.D]⟩,⟨0,0,96,2,[.agg [i64 (n:Int),.sl false 1 (G.map a6H)]]⟩],p.2⟩) (fun p=>G.length - p.1) (fun p=>p.1<=G.length/\∀ (j:Nat) (r:List LP),j<p.1->G[j]? = some r->a2h (pv r k).1 (pv r k).2 x=false) (0,_) ⟨e0y _,fun j r hj=>d9R hj (e1i j)⟩ wkI ?_;rintro ⟨i,m⟩ F ⟨hi,ha⟩;dsimp only at hi ha ⊢;rcases e0j i G.length with h2|h2
 ·have e0:=ltT h2
  have wi:=wiI (i:=i) (by omega);obtain ⟨r,hr⟩:=a0J h2;have hm:(G.map a6H)[i]? = some (a6H r):=by rw [e0l,hr];rfl
  obtain ⟨hl,hE⟩:=hG.row r (d9V hr);have hp:=c1t (r:=r) (k:=k) (by omega);have hE2:=hE _ (d9V hp);have hm2:(r.map fun p=>a3i p.1 p.2)[k]? = some (a3i (pv r k).1 (pv r k).2):=by rw [e0l,hp];rfl
  have c:=c2z (pv r k).1 (pv r k).2 x y hx hE2.1 hE2.2;obtain ⟨b,hb⟩:∃ b,a2h (pv r k).1 (pv r k).2 x=b:=⟨_,rfl⟩
  rw [hb] at c;cases b
  ·refine goI a8n (ff2 e0 wi) hm hm2 c d9N d9N d9N ?_
   exact ⟨(i+1,_),⟨h2,a2F hr ha hb⟩,by dsimp only;omega,wkI⟩
  ·refine goI a8n e0 hm hm2 c d9N d9N d9N ?_
   exact a0a (by unfold a0Q;rw [a5x hr hb ha]) IsPure.out
 ·have e0:=ltF h2
  have:i=G.length:=by omega
  subst this;refine goI a8n (ff2 e0 el) d9N d9N d9N d9N d9N d9N ?_;exact a0a (by unfold a0Q;rw [a3E ha]) IsPure.out
abbrev txD (b:Bool)(v:List (List UInt8)):D:=.sl b 1 (v.map fun l=>str (sb l))
def frD (v:List (List UInt8)):D:=.sl false 4 (v.map fun l=>(a0q l).D)
instance  (l:List UInt8):CellsPure (a0q l).D:=by unfold GF.D;exact d9O
instance  (v:List (List UInt8)):CellsPure (frD v):=by unfold frD;exact d9O
instance  (v:List (List UInt8)):IsPure (frD v):=by unfold frD;exact d9O
theorem a9x {v:List (List UInt8)}(h:a2X v=0):∀ l∈v,chk l=0:=by
 induction v with
 | nil=>intro l hl;cases hl
 | cons a r ih =>
  have h':(if chk a≠0 then chk a else a2X r)=0:=h
  by_cases g:chk a=0
  ·rw [d9Q (fun k=>k g)] at h'
   intro l hl;rcases e0m.1 hl with rfl|h2
   ·exact g
   ·exact ih h' l h2
  ·rw [d9P g] at h';exact d9R h' g
theorem b7N {v:List (List UInt8)}(ha:∀ (j:Nat) (y:List UInt8),j<v.length->v[j]? = some y->chk y=0):a2X v=0:=by
 rw [a6g (i:=v.length) ha,e2P];rfl
theorem b9I {v:List (List UInt8)}{i:Nat}{l:List UInt8}(h:v[i]? = some l):lv v i=l:=by
 unfold lv;rw [e0q,h];rfl
def b1u (n:Nat)(v:List (List UInt8)):Nat:=if v.length=n then a2X v else 2
theorem d5i {a b:Nat}(h:a≠b):(((a:Nat):Int) != (b:Int))=true:=by
 have:(((a:Nat):Int)==(b:Int))=false:=e0g.2 (by omega)
 unfold bne;rw [this];rfl
theorem d4c {a b:Nat}(h:a=b):(((a:Nat):Int) != (b:Int))=false:=by subst h;simp
theorem b1R {a:Nat}(h:a≠0):(((a:Nat):Int) != 0)=true:=a3I (by omega)
theorem b2s {a:Nat}(h:a=0):(((a:Nat):Int) != 0)=false:=by subst h;rfl
theorem d3L {a:Nat}(h:a≠0):(((a:Nat):Int)==0)=false:=e0g.2 (by omega)
theorem c7O {a:Nat}(h:a=0):(((a:Nat):Int)==0)=true:=by subst h;rfl
def Few (v:List (List UInt8)):Prop:=v.length<=100000/\∀ l∈v,l.length<=100000
def a8z (f:Nat->Nat):Nat->Nat
 | 0=>0
 | k+1=>max (a8z f k) (f k)
def a7A (G:List (List LP))(v:List (List UInt8)):Nat:=a8z (fun k=>a0Q G k (a0d (lv v k))) v.length
theorem a4f (G:List (List LP))(k:Nat)(x:Rat):a0Q G k x<=G.length:=List.findIdx_le_length
theorem b5X {f:Nat->Nat}{B:Nat}(h:∀ k,f k<=B):∀ k,a8z f k<=B
 | 0=>e0y _
 | k+1=>Nat.max_le.2 ⟨b5X h k,h k⟩
theorem b6l (G:List (List LP))(v:List (List UInt8)):a7A G v<=G.length:=b5X (fun k=>a4f G k _) _
theorem a4x {H Hf:Hp}{K g T sz:Nat}{l:List D}(h:l=[]\/Hp.get H K=some ⟨K,g,T,sz,l⟩)(hf:Hp.get Hf K=none):Fz H Hf (a6l K g sz l) (.sl false sz l):=by
 cases l with
 | nil=>exact .nil sz
 | cons x l =>
  rcases h with h|h
  ·cases h
  refine .osl (e:=⟨K,g,T,sz,x::l⟩) h hf rfl rfl (by simp) (by simp) (fun j d d' h1 h2=>?_) fun j d d' q c c' h1 h2 h3 h4=>?_
  ·rw [e0v] at h1;rw [h1] at h2;cases h2;rfl
  ·rw [e0v] at h1;rw [h1] at h2;cases h2;rw [h3] at h4;cases h4;exact Fz.refl _
theorem b4N {H Hf r r':Hp}{K g T sz:Nat}{l:List D}(h:FzH H Hf r r'):FzH H Hf (a5b K g T sz l++r) r':=by
 cases l with
 | nil=>exact h
 | cons x l=>exact .drop h
theorem b1X {K g T sz:Nat}{l:List D}{H:Hp}:l=[]\/Hp.get (a5b K g T sz l++H) K=some ⟨K,g,T,sz,l⟩:=by
 cases l with
 | nil=>exact .inl rfl
 | cons x l=>right;simp [a5b,Hp.get]
theorem b5I {K k g T sz:Nat}{l:List D}(h:Nat.beq K k=false):Hp.get (a5b K g T sz l) k=none:=by
 cases l with
 | nil=>rfl
 | cons x l=>simp [a5b,Hp.get,h]
def a0e (s:a0Y):List (List LP):=s.gs.map fun g=>g.least.zip g.most
def b4l (s:a0Y):Prop:=s.fs.length<=8/\s.gs.length<=16/\∀ g∈s.gs,gOk s.fs.length g
theorem c1k {g:a0M}{n k:Nat}(h:gOk n g)(hk:k<n):(g.least.zip g.most)[k]? = some (lv g.least k,lv g.most k):=by
 rw [List.getElem?_zip_eq_some];exact ⟨b0c (by rw [h.1];exact hk),b0c (by rw [h.2.1];exact hk)⟩
theorem b1y {g:a0M}{n:Nat}(h:gOk n g):(g.least.zip g.most).length=n:=by rw [List.length_zip,h.1,h.2.1];exact Nat.min_self n
theorem a5h {s:a0Y}(h:b4l s):a6q s.fs.length (a0e s):=by
 refine ⟨by have:=h.1;omega,by unfold a0e;rw [d9X];have:=h.2.1;omega,fun r hr=>?_⟩;obtain ⟨g,hg,rfl⟩:=List.mem_map.1 hr;have hk:=h.2.2 g hg;refine ⟨b1y hk,fun p hp=>?_⟩;obtain ⟨k,hk1,e⟩:=e1V hp;rw [b1y hk] at hk1
 have:=c1k hk hk1
 rw [d9W (by rw [b1y hk];exact hk1),e] at this;cases this;exact hk.2.2 k hk1
theorem a0H {s:a0Y}(h:a0l s=0):b4l s:=by
 unfold a0l at h
 by_cases h1:b2q s.fs.length=0
 ·rw [d9Q (fun k=>k h1)] at h
  by_cases h2:a9b (a2k s.fs) s.fs.length=0
  ·rw [d9Q (fun k=>k h2)] at h
   by_cases h3:b3h s.gs.length=0
   ·rw [d9Q (fun k=>k h3)] at h
    refine ⟨?_,?_,fun g hg=>?_⟩
    ·unfold b2q at h1
     by_cases q:s.fs.length=0
     ·omega
     ·rw [d9Q q] at h1
      by_cases q2:s.fs.length>8
      ·rw [d9P q2] at h1;cases h1
      ·omega
    ·unfold b3h at h3
     by_cases q:s.gs.length=0
     ·omega
     ·rw [d9Q q] at h3
      by_cases q2:s.gs.length>16
      ·rw [d9P q2] at h3;cases h3
      ·omega
    ·obtain ⟨i,hi,e⟩:=e1V hg
     have:=a6b (a8f h i hi)
     rw [e0q,d9W hi,e] at this;exact this
   ·rw [d9P h3] at h;exact d9R h h3
  ·rw [d9P h2] at h;exact d9R h h2
 ·rw [d9P h1] at h;exact d9R h h1
def a6y (s:a0Y):D:=if a0l s=0 then b2c s.fs.length (a0e s) else .agg [i64 0,a1R]
instance  (s:a0Y):IsPure (a6y s):=by unfold a6y;split<;>exact d9O
abbrev a4T:Dr:=[(12,[0,1,2,3,4,5,6,7,8,9,10,11,12,13,14],[15,16])]
open Go.Proofs Go.RowKit
set_option maxRecDepth 20000
set_option maxHeartbeats 4000000
theorem c6F (s:a0Y)(hs:s.few):a0b C0 99 [s.D] (.tup [a6y s,i64 (a0l s:Nat)]):=by
 refine a0c.walk w1 d0y rfl fun F=>?_
 have c1:=d7U s hs;have el1:(((s.fs.map a1N.D).length:Nat):Int)=(s.fs.length:Int):=by rw [d9X]
 have el2:(((s.gs.map a0M.D).length:Nat):Int)=(s.gs.length:Int):=by rw [d9X]
 unfold a0Y.D at c1 ⊢;rcases Nat.decEq (a0l s) 0 with h0|h0
 ·have e0:=b1R h0
  have hd:a6y s=.agg [i64 0,a1R]:=d9Q h0;rw [hd];refine goI a4T e0 c1 d9N d9N d9N d9N d9N ?_;exact a0a rfl IsPure.out
 have e0:=b2s h0;have hd:a6y s=b2c s.fs.length (a0e s):=d9P h0;have hok:=a0H h0;have hG:=a5h hok;rw [hd];rw [h0] at c1 e0 ⊢;obtain ⟨h8,h16,hgo⟩:=hok;obtain ⟨gsD,hgsD⟩:∃ x,s.gs.map a0M.D=x:=⟨_,rfl⟩
 obtain ⟨fsD,hfsD⟩:∃ x,s.fs.map a1N.D=x:=⟨_,rfl⟩
 obtain ⟨n,hn⟩:∃ n,s.fs.length=n:=⟨_,rfl⟩
 obtain ⟨N,hN⟩:∃ n,s.gs.length=n:=⟨_,rfl⟩
 have hrows:∀ i g,s.gs[i]? = some g->(a0e s).take (i+1)=(a0e s).take i++[g.least.zip g.most]:=fun i g h=>by
  rw [e1F]
  congr 1
  unfold a0e;rw [e0l,h];rfl
 have hgl:(a0e s).length=N:=by unfold a0e;rw [d9X,hN]
 have hfew:=hs.2.2.2;rw [hgsD,hN] at el2;rw [hfsD,hn] at el1;rw [hn] at hgo h8 ⊢;rw [hN] at h16;rw [hgsD,hfsD] at c1 ⊢;have pf:IsPure (.sl false 4 fsD):=by rw [<- hfsD];exact d9O
 have pg:IsPure (.sl false 3 gsD):=by rw [<- hgsD];exact d9O
 generalize hR0:a0e s=G at *;refine goI a4T (ff3 e0 el1 el2) c1 d9N d9N d9N d9N d9N ?_;refine OkS.loop (α:=Nat × List D × Nat × Nat) (fun p=>⟨[(1,.optr 0 0 2 0 0),(2,.optr 1 1 2 0 0),(5,.optr 404 12 2 0 0),(21,.sl false 3 gsD),(22,i64 (N:Int)),(23,i64 (p.1:Int))],
   [⟨404,12,96,2,[.agg [i64 (n:Int),a6l 1404 p.2.2.1 1 p.2.1]]⟩,⟨1,1,96,2,[.agg [i64 0,a1R]]⟩,⟨0,0,25,2,[.agg [.sl false 4 fsD,.sl false 3 gsD]]⟩]++a5b 1404 p.2.2.1 124 1 p.2.1,p.2.2.2⟩) (fun p=>N - p.1)
  (fun p=>p.1<=N/\p.2.1=(G.take p.1).map a6H) (0,[],0,_) ⟨e0y _,rfl⟩ wkI ?_
 rintro ⟨i,R,g2,m⟩ F ⟨hi,hR⟩;dsimp only at hi hR ⊢;rcases e0j i N with h2|h2
 rotate_left
 ·have e1:=ltF h2
  have:i=N:=by omega
  subst this;have hRG:R=G.map a6H:=by rw [hR,<- hgl,e1S]
  refine goI a4T e1 d9N d9N d9N d9N d9N d9N ?_;refine ⟨.tup [b2c n G,i64 0],.tup rfl fun j d d' h1 h2=>?_,IsPure.out,rfl⟩;rcases j with _|_|j
  ·cases h1;cases h2
   refine .agg rfl fun j d d' h1 h2=>?_
   rcases j with _|_|j
   ·cases h1;cases h2;exact .refl _
   ·cases h1;cases h2
    rw [<- hRG];exact a4x (by cases R with|nil=>exact .inl rfl|cons x l=>right;rfl) rfl
   ·simp at h1
  ·cases h1;cases h2;exact .refl _
  ·simp at h1
 have e1:=ltT h2;have wi:=wiI (i:=i) (by omega);obtain ⟨g,hg⟩:∃ g,s.gs[i]? = some g:=a0J (by omega);have hm:gsD[i]? = some (.agg [str (sb g.name),.sl false 1 (g.least.map fun l=>str (sb l)),.sl false 1 (g.most.map fun l=>str (sb l))]):=by rw [<- hgsD,e0l,hg];rfl
 have hgk:=hgo g (d9V hg);have hgf:=hfew g (d9V hg);have hrow:=hrows i g hg;obtain ⟨A,hA⟩:∃ A,a6l 1404 g2 1 R=A:=⟨_,rfl⟩
 obtain ⟨HH,hHH⟩:∃ A,a5b 1404 g2 124 1 R=A:=⟨_,rfl⟩
 have hget:∀ k,Nat.beq 1404 k=false->Hp.get HH k=none:=fun k hk=>by rw [<- hHH];exact b5I hk
 obtain ⟨P,hP⟩:∃ P,g.least.zip g.most=P:=⟨_,rfl⟩
 have hPl:P.length=n:=by rw [<- hP];exact b1y hgk
 rw [hP] at hrow;rw [hA,hHH];refine goI a4T (ff2 e1 el1) hm d9N d9N d9N d9N d9N ?_;have hzip:∀ k,k<n->P[k]? = some (lv g.least k,lv g.most k):=fun k hk=>by rw [<- hP];exact c1k hgk hk
 refine OkS.loop (α:=Nat × List D × Nat × Nat × Nat) (fun p=>⟨[(1,.optr 0 0 2 0 0),(2,.optr 1 1 2 0 0),(5,.optr 404 12 2 0 0),(7,.optr 702 p.2.2.2.1 3 0 0),(8,a6l 1215 p.2.2.1 10 p.2.1),(21,.sl false 3 gsD),(22,i64 (N:Int)),(23,i64 (i:Int)),(29,i64 (n:Int)),(30,i64 (p.1:Int))],
   a5b 1215 p.2.2.1 123 10 p.2.1++([⟨702,p.2.2.2.1,67,3,[.agg [str (sb g.name),.sl false 1 (g.least.map fun l=>str (sb l)),.sl false 1 (g.most.map fun l=>str (sb l))]]⟩,⟨404,12,96,2,[.agg [i64 (n:Int),A]]⟩,⟨1,1,96,2,[.agg [i64 0,a1R]]⟩,⟨0,0,25,2,[.agg [.sl false 4 fsD,.sl false 3 gsD]]⟩]++HH),p.2.2.2.2⟩) (fun p=>n - p.1)
  (fun p=>p.1<=n/\p.2.1=(P.take p.1).map fun p=>a3i p.1 p.2) (0,[],0,_,_) ⟨e0y _,rfl⟩ wkI ?_
 rintro ⟨k,L,g3,g4,m3⟩ F ⟨hk,hL⟩;dsimp only at hk hL ⊢;rcases e0j k n with h3|h3
 ·have e2:=ltT h3
  have wk:=wiI (i:=k) (by omega);have m1:=a1V (l:=g.least) (k:=k) (by rw [hgk.1];exact h3);have m2:=a1V (l:=g.most) (k:=k) (by rw [hgk.2.1];exact h3);have f1:=a6P (l:=g.least) (k:=k) (by rw [hgk.1];exact h3) hgf.2.2.2.1;have f2:=a6P (l:=g.most) (k:=k) (by rw [hgk.2.1];exact h3) hgf.2.2.2.2;have hE:=hgk.2.2 k h3;have hz:=hzip k h3;have hsn:(P.take (k+1)).map (fun p=>a3i p.1 p.2)=L++[a3i (lv g.least k) (lv g.most k)]:=by rw [hL,e1F,hz,e1w];rfl
  have hLl:L.length=k:=by rw [hL,d9X,e0n];omega
  have ca:=b0J _ f1 hE.1;have cb:=b0J _ f2 hE.2;have hLle:L.length<=8:=by omega
  clear hL;rcases L with _|⟨x,l⟩
  all_goals
   (try simp only [d9Y] at hLle)
   dsimp only [a2o,a2l,a1c,a1d]
  ·refine goI a4T (ff3 e2 wk kN) m1 m2 ca cb d9N d9N ?_
   exact ⟨(k+1,[a3i (lv g.least k) (lv g.most k)],_,_,_),⟨h3,hsn.symm⟩,by dsimp only;omega,wkI⟩
  ·have htk:List.take (l.length+1) (x::l)=x::l:=by simp
   refine goI a4T (ff4 e2 wk htk kN) m1 m2 ca cb d9N d9N ?_;exact ⟨(k+1,x::l++[a3i (lv g.least k) (lv g.most k)],_,_,_),⟨h3,hsn.symm⟩,by dsimp only;omega,by (dsimp only;rw [a2i];exact wkI)⟩
 have e2:=ltF h3
 have:k=n:=by omega
 subst this;have hLr:L=P.map fun p=>a3i p.1 p.2:=by rw [hL,<- hPl,e1S]
 refine sZ 1000 ?_;refine nwI e2 ?_;refine OkS.seq ?_;refine ifI ?_;refine exI ?_;refine OkS.weak ⟨[(1,.optr 0 0 2 0 0),(2,.optr 1 1 2 0 0),(5,.optr 404 12 2 0 0),(8,.sl false 10 (P.map fun p=>a3i p.1 p.2)),(21,.sl false 3 gsD),(22,i64 (N:Int)),(23,i64 (i:Int))],
   [⟨404,12,96,2,[.agg [i64 (k:Int),A]]⟩,⟨1,1,96,2,[.agg [i64 0,a1R]]⟩,⟨0,0,25,2,[.agg [.sl false 4 fsD,.sl false 3 gsD]]⟩]++HH,_⟩ ⟨?_,?_,d9Z _⟩ ?_
 ·exact b4N (.drop (.keep (.keep (.keep (a4u _)))))
 ·refine ⟨.refl _,.refl _,.refl _,?_,.refl _,.refl _,.refl _,trivial⟩
  rw [<- hLr];exact a4x b1X (hget _ rfl)
 clear hL hLr;have hsn:(G.take (i+1)).map a6H=R++[a6H P]:=by rw [hrow,e1w,<- hR];rfl
 have hsr:a6H P=.sl false 10 (P.map fun p=>a3i p.1 p.2):=rfl;rw [hsr] at hsn;have hRl:R.length<=16:=by rw [hR,d9X,e0n];omega
 have pP:IsPure (a6H P):=d9O;rw [hsr] at pP;obtain ⟨PD,hPD⟩:∃ r,(P.map fun p=>a3i p.1 p.2)=r:=⟨_,rfl⟩
 rw [hPD] at pP ⊢;rw [hPD] at hsn;clear hR;rcases R with _|⟨x,l⟩
 ·subst hA hHH
  dsimp only [a2o,a2l,List.append_nil];refine rI 1400 ?_;refine OkS.perm (List.perm_append_comm (l₁:=[_]) (l₂:=[_,_,_])) ?_;refine goI a4T wi d9N d9N d9N d9N d9N d9N ?_;exact ⟨(i+1,[.sl false 10 PD],_,_),⟨h2,hsn.symm⟩,by dsimp only;omega,wkI⟩
 ·subst hA hHH
  have htk:List.take (l.length+1) (x::l)=x::l:=by simp
  simp only [d9Y] at hRl;dsimp only [a1c,a1d];refine d9l w1 1400 (by kernel_rfl) ?_;refine nwI htk ?_;refine OkS.perm (List.perm_append_comm (l₁:=[_]) (l₂:=[_,_,_])) ?_;refine goI a4T wi d9N d9N d9N d9N d9N d9N ?_;exact ⟨(i+1,x::l++[.sl false 10 PD],_,_),⟨h2,hsn.symm⟩,by dsimp only;omega,by (dsimp only;rw [a2i];exact wkI)⟩
def unk (g:Int)(n:Nat):Nat:=if g<0\/(n:Int)<=g then 10 else 0
theorem a6T {g:Int}{n:Nat}(h:unk g n=0):∃ k:Nat,g=k/\k<n:=by
 unfold unk at h
 by_cases g1:g<0\/(n:Int)<=g
 ·rw [d9P g1] at h;cases h
 ·exact ⟨g.toNat,by omega,by omega⟩
theorem d4m {g:Int}{n:Nat}(h:g<0):unk g n=10:=d9P (.inl h)
theorem d4g {g:Int}{n:Nat}(h:(n:Int)<=g):unk g n=10:=d9P (.inr h)
theorem d4e {g:Int}{n:Nat}(h:¬ g<0)(k:¬ (n:Int)<=g):unk g n=0:=d9Q fun q=>q.elim h k
theorem b7h (n:Nat)(G:List (List LP))(g:Int):a0b C0 52 [b2c n G,i64 g] (i64 (unk g G.length:Nat)):=by
 refine a0c.walk w1 d3B rfl fun F=>?_
 have el:(((G.map a6H).length:Nat):Int)=(G.length:Int):=by rw [d9X]
 by_cases h1:g<0
 ·have e1:decide (g<0)=true:=d9S h1
  refine goI dr0 e1 (a1O true 10) d9N d9N d9N d9N d9N ?_;rw [d4m h1];exact a0a rfl IsPure.out
 ·have e1:decide (g<0)=false:=d9U h1
  by_cases h2:(G.length:Int)<=g
  ·have e2:decide (g>=(G.length:Int))=true:=d9S h2
   refine goI dr0 (ff3 e1 e2 el) (a1O true 10) d9N d9N d9N d9N d9N ?_;rw [d4g h2];exact a0a rfl IsPure.out
  ·have e2:decide (g>=(G.length:Int))=false:=d9U h2
   refine goI dr0 (ff3 e1 e2 el) (a1O false 10) d9N d9N d9N d9N d9N ?_;rw [d4e h1 h2];exact a0a rfl IsPure.out
theorem b5i (n:Nat)(G:List (List LP))(g:Int):a0b C0 53 [b2c n G,i64 g] (i64 (unk g n:Nat)):=by
 refine a0c.walk w1 d0L rfl fun F=>?_
 by_cases h1:g<0
 ·have e1:decide (g<0)=true:=d9S h1
  refine goI dr0 e1 (a1O true 10) d9N d9N d9N d9N d9N ?_;rw [d4m h1];exact a0a rfl IsPure.out
 ·have e1:decide (g<0)=false:=d9U h1
  by_cases h2:(n:Int)<=g
  ·have e2:decide (g>=(n:Int))=true:=d9S h2
   refine goI dr0 (ff2 e1 e2) (a1O true 10) d9N d9N d9N d9N d9N ?_;rw [d4g h2];exact a0a rfl IsPure.out
  ·have e2:decide (g>=(n:Int))=false:=d9U h2
   refine goI dr0 (ff2 e1 e2) (a1O false 10) d9N d9N d9N d9N d9N ?_;rw [d4e h1 h2];exact a0a rfl IsPure.out
theorem a6K (s:a0Y):∃ x y,a6y s=.agg [i64 x,y]:=by
 unfold a6y;split
 ·exact ⟨_,_,rfl⟩
 ·exact ⟨_,_,rfl⟩
theorem a1h (s:a0Y):(a0e s).length=s.gs.length:=d9X ..
def c2m (e w n:Nat):Nat:=if e=0 then (if w=n then 7 else 0) else e
def c3s (e w n:Nat):Nat:=if e=0 then (if w=n then 0 else w) else 0
theorem a6c {H Hf:Hp}{a a' b:D}(h:Fz H Hf a a'):Fz H Hf (.tup [a,b]) (.tup [a',b]):=.tup rfl fun i d d' h1 h2=>by
 rcases i with _|_|i
 ·cases h1;cases h2;exact h
 ·cases h1;cases h2;exact .refl _
 ·simp at h1
def a4g (G:List (List LP))(g:Nat):List LP:=G.getD g []
theorem b7x {G:List (List LP)}{g:Nat}(h:g<G.length):G[g]? = some (a4g G g):=by
 unfold a4g;rw [e0q,d9W h];rfl
def d5n (G:List (List LP))(g k:Nat)(x:Rat):Bool:=a2h (pv (a4g G g) k).1 (pv (a4g G g) k).2 x
abbrev a0S (l:List Nat):List D:=l.map fun (k:Nat)=>i64 (k:Int)
abbrev a8t:Dr:=[(4,[0,1,2,3,4,5],[6,7])]
open Go.Proofs Go.RowKit
set_option maxRecDepth 20000
set_option maxHeartbeats 4000000
def inG (g:a0M)(k:Nat)(x:Rat):Bool:=a2h (lv g.least k) (lv g.most k) x
def a4Q (g:a0M)(v:List (List UInt8)):Bool:=(List.range v.length).all fun k=>inG g k (a0d (lv v k))
def a7B (gs:List a0M)(v:List (List UInt8)):Nat:=gs.findIdx fun g=>a4Q g v
def a4O (gs:List a0M)(k:Nat)(x:Rat):Nat:=gs.findIdx fun g=>inG g k x
theorem d5o (s:a0Y)(b:Bool)(v:List (List UInt8))(hf:Few v)(hr:v.length<=1000000->a0b C0 131 [txD b v] (i64 (a2X v:Nat))):a0b C0 63 [s.D,txD b v] (i64 (b1u s.fs.length v:Nat)):=by
 refine a0c.walk w1 d6l rfl fun F=>?_
 have el:(((v.map fun l=>str (sb l)).length:Nat):Int)=(v.length:Int):=by rw [d9X]
 have el1:(((s.fs.map a1N.D).length:Nat):Int)=(s.fs.length:Int):=by rw [d9X]
 have c:=hr (by have:=hf.1;omega);unfold a0Y.D b1u
 by_cases h:v.length=s.fs.length
 ·have e0:=d4c h
  rw [d9P h];refine goI dr0 (ff3 el el1 e0) c d9N d9N d9N d9N d9N ?_;exact a0a rfl IsPure.out
 ·have e0:=d5i h
  rw [d9Q h];refine goI dr0 (ff3 el el1 e0) d9N d9N d9N d9N d9N d9N ?_;exact a0a rfl IsPure.out
theorem b8I (g:a0M)(k:Nat)(l:List UInt8)(n:Nat)(hg:gOk n g)(hk:k<n)(hl:chk l=0):a0b C0 188 [g.D,i64 (k:Int),str (sb l)] (boo (inG g k (a0d l))):=by
 refine a0c.walk w1 d3q rfl fun F=>?_
 have m1:=a1V (l:=g.least) (k:=k) (by rw [hg.1];exact hk);have m2:=a1V (l:=g.most) (k:=k) (by rw [hg.2.1];exact hk);have hE:=hg.2.2 k hk;have hi:inG g k (a0d l)=a2h (lv g.least k) (lv g.most k) (a0d l):=rfl;rw [hi];obtain ⟨a,ea⟩:∃ a,lv g.least k=a:=⟨_,rfl⟩
 obtain ⟨b,eb⟩:∃ a,lv g.most k=a:=⟨_,rfl⟩
 rw [ea,eb] at hE;rw [ea] at m1 ⊢;rw [eb] at m2 ⊢;have sa:=a1l a;have sb':=a1l b;obtain ⟨qa,ga⟩:∃ q,decide (a=[])=q:=⟨_,rfl⟩
 obtain ⟨qb,gb⟩:∃ q,decide (b=[])=q:=⟨_,rfl⟩
 obtain ⟨p,hp⟩:∃ q,decide (a1e (a0d l) (a0d a)>=0)=q:=⟨_,rfl⟩
 obtain ⟨q,hq⟩:∃ q,decide (a1e (a0d l) (a0d b)<=0)=q:=⟨_,rfl⟩
 have c1:qa=false->a0b C0 57 [str (sb l),str (sb a)] (i64 (a1e (a0d l) (a0d a))):=fun h=>a5q hl (a1g hE.1 (e0i (ga.trans h)))
 have c2:qb=false->a0b C0 57 [str (sb l),str (sb b)] (i64 (a1e (a0d l) (a0d b))):=fun h=>a5q hl (a1g hE.2 (e0i (gb.trans h)))
 have hw:a2h a b (a0d l)=((qa||p)&&(qb||q)):=by unfold a2h;rw [ga,gb,hp,hq]
 rw [ga] at sa;rw [gb] at sb';unfold a0M.D;rw [hw];clear hw ga gb hi ea eb;cases qa<;>cases qb<;>cases p<;>cases q
 all_goals
  refine goI dr0 (ff5 hp hq sa sb' kN) m1 m2 c1 c2 d9N d9N ?_;exact a0a rfl IsPure.out
theorem b2K {f:Nat->Bool}{n k:Nat}(hk:k<n)(h:f k=false):(List.range n).all f=false:=a4l (k:=k) (x:=k) (by rw [e1G hk]) h
theorem d2Y (g:a0M)(b:Bool)(v:List (List UInt8))(n:Nat)(hg:gOk n g)(hn:v.length=n)(h8:n<=1000)(hc:a2X v=0):a0b C0 132 [g.D,txD b v] (boo (a4Q g v)):=by
 refine a0c.walk w1 d0h rfl fun F=>?_
 have el:(((v.map fun l=>str (sb l)).length:Nat):Int)=(v.length:Int):=by rw [d9X]
 have hcz:=a9x hc;obtain ⟨w,hw⟩:∃ w,a4Q g v=w:=⟨_,rfl⟩
 have cw:=fun k (l:List UInt8) (hk:k<n) (hl:chk l=0)=>b8I g k l n hg hk hl
 have hgD:∃ x y z,g.D=.agg [x,y,z]:=⟨_,_,_,rfl⟩
 have pg:IsPure g.D:=d9O;obtain ⟨gD,hgd⟩:∃ d,g.D=d:=⟨_,rfl⟩
 rw [hgd] at cw hgD pg ⊢;obtain ⟨x,y,z,rfl⟩:=hgD;refine goI a8t el d9N d9N d9N d9N d9N d9N ?_;refine OkS.loop (α:=Nat × Nat) (fun p=>⟨[(1,txD b v),(2,.optr 0 0 3 0 0),(5,i64 (p.1:Int))],[⟨0,0,67,3,[.agg [x,y,z]]⟩],p.2⟩) (fun p=>v.length - p.1) (fun p=>p.1<=v.length/\((List.range p.1).all fun k=>inG g k (a0d (lv v k)))=true) (0,_) ⟨e0y _,rfl⟩ wkI ?_;rintro ⟨i,m⟩ F ⟨hi,ha⟩;dsimp only at hi ha ⊢;rcases e0j i v.length with h2|h2
 ·have e1:=ltT h2
  have wi:=wiI (i:=i) (by omega);obtain ⟨l,hl2⟩:=a0J h2;have hm:(v.map fun l=>str (sb l))[i]? = some (str (sb l)):=by rw [e0l,hl2];rfl
  have c:=cw i l (by omega) (hcz l (d9V hl2));obtain ⟨r,hr⟩:∃ r,inG g i (a0d l)=r:=⟨_,rfl⟩
  rw [hr] at c;cases r
  ·have:a4Q g v=false:=b2K h2 (by rw [b9I hl2];exact hr)
   rw [this];refine goI a8t (ff3 e1 el kN) hm c d9N d9N d9N d9N ?_;exact a0a rfl IsPure.out
  ·refine goI a8t (ff4 e1 el wi kN) hm c d9N d9N d9N d9N ?_
   refine ⟨(i+1,_),⟨h2,?_⟩,by dsimp only;omega,wkI⟩;dsimp only;rw [List.range_succ,e2F,ha];simp [b9I hl2,hr]
 ·have e1:=ltF h2
  have:i=v.length:=by omega
  subst this
  have:a4Q g v=true:=ha
  rw [this];refine goI a8t (ff2 e1 el) d9N d9N d9N d9N d9N d9N ?_;exact a0a rfl IsPure.out
theorem c1i (s:a0Y)(hs:b4l s)(b:Bool)(v:List (List UInt8))(hn:v.length=s.fs.length)(hc:a2X v=0):a0b C0 65 [s.D,txD b v] (i64 (a7B s.gs v:Nat)):=by
 refine a0c.walk w1 d6u rfl fun F=>?_
 have el:(((s.gs.map a0M.D).length:Nat):Int)=(s.gs.length:Int):=by rw [d9X]
 have h16:=hs.2.1;unfold a0Y.D;refine goI dr0 el d9N d9N d9N d9N d9N d9N ?_;refine OkS.loop (α:=Nat × Nat) (fun p=>⟨[(1,txD b v),(2,.optr 0 0 2 0 0),(5,i64 (p.1:Int))],[⟨0,0,25,2,[.agg [.sl false 4 (s.fs.map a1N.D),.sl false 3 (s.gs.map a0M.D)]]⟩],p.2⟩) (fun p=>s.gs.length - p.1) (fun p=>p.1<=s.gs.length/\∀ (j:Nat) (g:a0M),j<p.1->s.gs[j]? = some g->a4Q g v=false) (0,_) ⟨e0y _,fun j r hj=>d9R hj (e1i j)⟩ wkI ?_;rintro ⟨i,m⟩ F ⟨hi,ha⟩;dsimp only at hi ha ⊢;rcases e0j i s.gs.length with h2|h2
 ·have e1:=ltT h2
  have wi:=wiI (i:=i) (by omega);obtain ⟨g,hg⟩:=a0J h2;have hm:(s.gs.map a0M.D)[i]? = some g.D:=by rw [e0l,hg];rfl
  have c:=d2Y g b v s.fs.length (hs.2.2 g (d9V hg)) hn (by have:=hs.1;omega) hc;unfold a0M.D at hm c;obtain ⟨r,hr⟩:∃ r,a4Q g v=r:=⟨_,rfl⟩
  rw [hr] at c;cases r
  ·refine goI dr0 (ff4 e1 el wi kN) hm c d9N d9N d9N d9N ?_
   exact ⟨(i+1,_),⟨h2,a2F hg ha hr⟩,by dsimp only;omega,wkI⟩
  ·refine goI dr0 (ff3 e1 el kN) hm c d9N d9N d9N d9N ?_
   exact a0a (by unfold a7B;rw [a5x hg hr ha]) IsPure.out
 ·have e1:=ltF h2
  have:i=s.gs.length:=by omega
  subst this;refine goI dr0 (ff2 e1 el) d9N d9N d9N d9N d9N d9N ?_;exact a0a (by unfold a7B;rw [a3E ha]) IsPure.out
theorem c7u (s:a0Y)(hs:b4l s)(k:Nat)(hk:k<s.fs.length)(l:List UInt8)(hl:chk l=0):a0b C0 130 [s.D,i64 (k:Int),str (sb l)] (i64 (a4O s.gs k (a0d l):Nat)):=by
 refine a0c.walk w1 d0F rfl fun F=>?_
 have el:(((s.gs.map a0M.D).length:Nat):Int)=(s.gs.length:Int):=by rw [d9X]
 have h16:=hs.2.1;unfold a0Y.D;refine goI dr0 el d9N d9N d9N d9N d9N d9N ?_;refine OkS.loop (α:=Nat × Nat) (fun p=>⟨[(1,i64 (k:Int)),(2,str (sb l)),(3,.optr 0 0 2 0 0),(7,i64 (p.1:Int))],[⟨0,0,25,2,[.agg [.sl false 4 (s.fs.map a1N.D),.sl false 3 (s.gs.map a0M.D)]]⟩],p.2⟩) (fun p=>s.gs.length - p.1) (fun p=>p.1<=s.gs.length/\∀ (j:Nat) (g:a0M),j<p.1->s.gs[j]? = some g->inG g k (a0d l)=false) (0,_) ⟨e0y _,fun j r hj=>d9R hj (e1i j)⟩ wkI ?_;rintro ⟨i,m⟩ F ⟨hi,ha⟩;dsimp only at hi ha ⊢;rcases e0j i s.gs.length with h2|h2
 ·have e1:=ltT h2
  have wi:=wiI (i:=i) (by omega);obtain ⟨g,hg⟩:=a0J h2;have hm:(s.gs.map a0M.D)[i]? = some g.D:=by rw [e0l,hg];rfl
  have c:=b8I g k l s.fs.length (hs.2.2 g (d9V hg)) hk hl;unfold a0M.D at hm c;obtain ⟨r,hr⟩:∃ r,inG g k (a0d l)=r:=⟨_,rfl⟩
  rw [hr] at c;cases r
  ·refine goI dr0 (ff4 e1 el wi kN) hm c d9N d9N d9N d9N ?_
   exact ⟨(i+1,_),⟨h2,a2F hg ha hr⟩,by dsimp only;omega,wkI⟩
  ·refine goI dr0 (ff3 e1 el kN) hm c d9N d9N d9N d9N ?_
   exact a0a (by unfold a4O;rw [a5x hg hr ha]) IsPure.out
 ·have e1:=ltF h2
  have:i=s.gs.length:=by omega
  subst this;refine goI dr0 (ff2 e1 el) d9N d9N d9N d9N d9N d9N ?_;exact a0a (by unfold a4O;rw [a3E ha]) IsPure.out
abbrev b4f:Dr:=[(6,[0,1,2,3,4,5,6,7],[8])]
open Go.Proofs Go.RowKit
set_option maxRecDepth 20000
set_option maxHeartbeats 4000000
theorem b1K (a b:Bool)(l:List Nat)(hl:l.length<=100000):a0b C0 22 [.sl a 1 (a0S l),.sl b 1 (a0S l)] (boo true):=by
 refine a0c.walk w1 d2b rfl fun F=>?_
 have el:(((a0S l).length:Nat):Int)=(l.length:Int):=by rw [d9X]
 have e0:((l.length:Int) != (l.length:Int))=false:=by simp
 obtain ⟨L,hL⟩:∃ L,a0S l=L:=⟨_,rfl⟩
 have pL:IsPure (.sl a 1 L):=by rw [<- hL];exact d9O
 have pL2:IsPure (.sl b 1 L):=by rw [<- hL];exact d9O
 have hat:∀ i,i<l.length->∃ z:Nat,L[i]? = some (i64 (z:Int)):=fun i hi=>by
  obtain ⟨z,hz⟩:=a0J hi;exact ⟨z,by rw [<- hL,e0l,hz];rfl⟩
 rw [hL] at el ⊢;refine goI b4f (ff2 el e0) d9N d9N d9N d9N d9N d9N ?_;refine OkS.loop (α:=Nat × Nat) (fun p=>⟨[(0,.sl a 1 L),(1,.sl b 1 L),(5,i64 (p.1:Int))],[],p.2⟩) (fun p=>l.length - p.1) (fun p=>p.1<=l.length) (0,_) (e0y _) wkI ?_;rintro ⟨i,m⟩ F hi;dsimp only at hi ⊢;rcases e0j i l.length with h2|h2
 ·have e1:=ltT h2
  have wi:=wiI (i:=i) (by omega);obtain ⟨z,hm⟩:=hat i h2;have e2:((z:Int) != (z:Int))=false:=by simp
  refine goI b4f (ff5 e1 e2 el wi kN) hm d9N d9N d9N d9N d9N ?_;exact ⟨(i+1,_),h2,by dsimp only;omega,wkI⟩
 ·have e1:=ltF h2
  refine goI b4f (ff2 e1 el) d9N d9N d9N d9N d9N d9N ?_;exact a0a rfl IsPure.out
theorem a7n (g:Int)(n:Nat):a0b C0 24 [i64 g,i64 (n:Int)] (i64 (unk g n:Nat)):=by
 refine a0c.walk w1 d5s rfl fun F=>?_
 by_cases h1:g<0
 ·have e1:decide (g<0)=true:=d9S h1
  rw [d4m h1];refine goI dr0 e1 d9N d9N d9N d9N d9N d9N ?_;exact a0a rfl IsPure.out
 ·have e1:decide (g<0)=false:=d9U h1
  by_cases h2:(n:Int)<=g
  ·have e2:decide (g>=(n:Int))=true:=d9S h2
   rw [d4g h2];refine goI dr0 (ff2 e1 e2) d9N d9N d9N d9N d9N d9N ?_;exact a0a rfl IsPure.out
  ·have e2:decide (g>=(n:Int))=false:=d9U h2
   rw [d4e h1 h2];refine goI dr0 (ff2 e1 e2) d9N d9N d9N d9N d9N d9N ?_;exact a0a rfl IsPure.out
def b0j (a b:Nat):Nat:=if a=0 then b else a
theorem d1V (a b:Nat):a0b C0 26 [.sl true 1 [i64 (a:Int),i64 (b:Int)]] (i64 (b0j a b:Nat)):=by
 refine a0c.walk w1 d4O rfl fun F=>?_
 refine goI dr0 kB d9N d9N d9N d9N d9N d9N ?_;refine OkS.loop (α:=Nat × Nat) (fun p=>⟨[(5,.sl true 1 [i64 (a:Int),i64 (b:Int)]),(6,i64 2),(7,i64 (p.1:Int))],[],p.2⟩) (fun p=>2 - p.1) (fun p=>p.1<=2/\(1<=p.1->a=0)/\(2<=p.1->b=0)) (0,_) ⟨e0y _,fun h=>d9R h (Nat.not_succ_le_zero 0),fun h=>d9R h (Nat.not_succ_le_zero 1)⟩ wkI ?_;rintro ⟨i,m⟩ F ⟨hi,ha,hb⟩;dsimp only at hi ha hb ⊢;have hcases:i=0\/i=1\/i=2:=by omega
 rcases hcases with rfl|rfl|rfl
 ·have e1:decide (((0:Nat):Int)<2)=true:=by decide
  have wi:IntKind.i64.wrap (((0:Nat):Int)+1)=((1:Nat):Int):=by decide
  have hm:[i64 (a:Int),i64 (b:Int)][0]? = some (i64 (a:Int)):=rfl;rcases Nat.decEq a 0 with h|h
  ·have e2:=b1R h
   refine goI dr0 (ff3 e1 e2 kN) hm d9N d9N d9N d9N d9N ?_;exact a0a (by unfold b0j;rw [d9Q h]) IsPure.out
  ·have e2:=b2s h
   refine goI dr0 (ff4 e1 e2 wi kN) hm d9N d9N d9N d9N d9N ?_;exact ⟨(1,_),⟨by dsimp only;omega,fun _=>h,fun h=>d9R h (by dsimp only;omega)⟩,by dsimp only;omega,wkI⟩
 ·have e1:decide (((1:Nat):Int)<2)=true:=by decide
  have wi:IntKind.i64.wrap (((1:Nat):Int)+1)=((2:Nat):Int):=by decide
  have hm:[i64 (a:Int),i64 (b:Int)][1]? = some (i64 (b:Int)):=rfl;have h0:=ha (by decide);rcases Nat.decEq b 0 with h|h
  ·have e2:=b1R h
   refine goI dr0 (ff3 e1 e2 kN) hm d9N d9N d9N d9N d9N ?_;exact a0a (by unfold b0j;rw [d9P h0]) IsPure.out
  ·have e2:=b2s h
   refine goI dr0 (ff4 e1 e2 wi kN) hm d9N d9N d9N d9N d9N ?_;exact ⟨(2,_),⟨by dsimp only;omega,fun _=>h0,fun _=>h⟩,by dsimp only;omega,wkI⟩
 ·have e1:decide (((2:Nat):Int)<2)=false:=by decide
  have h0:=ha (by decide);have h1:=hb (by decide);refine goI dr0 e1 d9N d9N d9N d9N d9N d9N ?_;exact a0a (by unfold b0j;rw [d9P h0,h1];rfl) IsPure.out
theorem c3I (e w w' n:Nat)(h:e=0->w'=w):a0b C0 23 [i64 (c3s e w n:Nat),i64 (c2m e w n:Nat),i64 (e:Int),i64 (w':Int),i64 (n:Int)] (boo true):=by
 refine a0c.walk w1 d4E rfl fun F=>?_
 have z0:((0:Int)==0)=true:=rfl;have z1:((0:Int) != 0)=false:=rfl;have z2:((7:Int)==7)=true:=rfl;have z3:((7:Int) != 0)=true:=rfl;unfold c3s c2m;rcases Nat.decEq e 0 with h0|h0
 ·have e0:=b1R h0
  have e1:=d3L h0;have e2:((e:Int)==(e:Int))=true:=beq_self_eq_true _;rw [d9Q h0,d9Q h0];have zz:(((0:Nat):Int)==0)=true:=rfl;refine goI dr0 (ff7 e0 e1 e2 z0 z1 z2 (ff2 z3 zz)) d9N d9N d9N d9N d9N d9N ?_;exact a0a rfl IsPure.out
 obtain rfl:=h h0;subst h0;rw [d9P rfl,d9P rfl];have zz:(((0:Nat):Int)==0)=true:=rfl;have z5:(((0:Nat):Int) != 0)=false:=rfl;have z6:(((0:Nat):Int)==((0:Nat):Int))=true:=rfl;have z7:(((7:Nat):Int)==7)=true:=rfl
 by_cases h1:w'=n
 ·have e3:((w':Int)==(n:Int))=true:=by rw [h1];exact beq_self_eq_true _
  rw [d9P h1,d9P h1];refine goI dr0 (ff7 e3 z0 z1 z2 z3 zz z7) d9N d9N d9N d9N d9N d9N ?_;exact a0a rfl IsPure.out
 ·have e3:((w':Int)==(n:Int))=false:=e0g.2 (by omega)
  have e4:((w':Int)==(w':Int))=true:=beq_self_eq_true _;rw [d9Q h1,d9Q h1];refine goI dr0 (ff7 e3 e4 z0 z1 zz z5 z6) d9N d9N d9N d9N d9N d9N ?_;exact a0a rfl IsPure.out
theorem b5W {g:a0M}{n k:Nat}(h:gOk n g)(hk:k<n):pv (g.least.zip g.most) k=(lv g.least k,lv g.most k):=by
 unfold pv;rw [e0q,c1k h hk];rfl
theorem a8O {s:a0Y}{i:Nat}(hi:i<s.gs.length):a4g (a0e s) i=(s.gs.getD i default).least.zip (s.gs.getD i default).most:=by
 unfold a4g a0e;rw [e0q,e0l,a3r hi];rfl
theorem c2U {s:a0Y}(hs:b4l s){i:Nat}(hi:i<s.gs.length):gOk s.fs.length (s.gs.getD i default):=hs.2.2 _ (d9V (a3r hi))
theorem c8g {s:a0Y}(hs:b4l s){i k:Nat}(hi:i<s.gs.length)(hk:k<s.fs.length)(x:Rat):d5n (a0e s) i k x=inG (s.gs.getD i default) k x:=by
 unfold d5n inG;rw [a8O hi,b5W (c2U hs hi) hk]
theorem b1S {α:Type}{l:List α}{p q:α->Bool}(h:∀ x∈l,p x=q x):l.findIdx p=l.findIdx q:=by
 induction l with
 | nil=>rfl
 | cons a r ih =>
  rw [List.findIdx_cons,List.findIdx_cons,h a e1x,ih fun x hx=>h x (e0X _ hx)]
theorem a4a {s:a0Y}(hs:b4l s){k:Nat}(hk:k<s.fs.length)(x:Rat):a0Q (a0e s) k x=a4O s.gs k x:=by
 unfold a0Q a4O a0e;rw [List.findIdx_map];exact b1S fun g hg=>by
  show a2h _ _ _=inG g k x;unfold inG;rw [b5W (hs.2.2 g hg) hk]
theorem b7k {a b c d:List UInt8}(h:a7T a b c d=true){x:Rat}(hw:a2h c d x=true):a2h a b x=true:=by
 unfold a7T at h;unfold a2h at hw ⊢;simp only [e0f,e2E,e0Q,e0a,e2k] at h hw ⊢;obtain ⟨h1,h2⟩:=h;obtain ⟨w1,w2⟩:=hw;unfold a1e at *;refine ⟨?_,?_⟩
 ·rcases h1 with h1|⟨h1,h3⟩
  ·exact .inl h1
  ·rcases w1 with w1|w1
   ·exact d9R w1 h1
   ·right
    split at h3<;>split at w1<;>split<;>grind
 ·rcases h2 with h2|⟨h2,h3⟩
  ·exact .inl h2
  ·rcases w2 with w2|w2
   ·exact d9R w2 h2
   ·right
    split at h3<;>split at w2<;>split<;>grind
theorem b3L {n:Nat}{gs:List a0M}{i:Nat}(h:a0E n gs i=0):∀ k,k<n->a1r (lv (gs.getD i default).least k) (lv (gs.getD i default).most k) (a1Y gs i k)=0:=by
 unfold a0E at h;dsimp only at h;split at h
 ·split at h
  ·cases h
  ·split at h
   ·exact a8f h
   ·cases h
 ·cases h
theorem b2H {s:a0Y}(h:a0l s=0):∀ i,i<s.gs.length->a0E s.fs.length s.gs i=0:=by
 unfold a0l at h;split at h
 ·rename_i h1;exact d9R h h1
 ·split at h
  ·rename_i h1;exact d9R h h1
  ·split at h
   ·rename_i h1;exact d9R h h1
   ·exact a8f h
theorem c6H {s:a0Y}(h:a0l s=0){i k:Nat}(hi:i+1<s.gs.length)(hk:k<s.fs.length){x:Rat}(hx:inG (s.gs.getD i default) k x=true):inG (s.gs.getD (i+1) default) k x=true:=by
 have h1:=b3L (b2H h (i+1) hi) k hk;unfold inG at hx ⊢;unfold a1Y at h1;rw [d9Q (by omega),e2o] at h1;have h2:a7T (lv (s.gs.getD (i+1) default).least k) (lv (s.gs.getD (i+1) default).most k) (lv (s.gs.getD i default).least k) (lv (s.gs.getD i default).most k)=true:=by
  unfold a1r at h1;split at h1
  ·rename_i q;exact d9R h1 q
  ·split at h1
   ·rename_i q;exact d9R h1 q
   ·split at h1
    ·cases h1
    ·dsimp only at h1
     split at h1
     ·assumption
     ·cases h1
 exact b7k h2 hx
theorem c3O {s : a0Y} (h : a0l s = 0) {i j k : Nat} (hij : i <= j) (hj : j < s.gs.length) (hk : k < s.fs.length) {x : Rat} (hx : inG (s.gs.getD i default) k x = true) : inG (s.gs.getD j default) k x = true := by
  induction j with
  | zero => have : i = 0 := by omega
            subst this; exact hx
  | succ j ih =>
    rcases e0j i (j + 1) with h1 | h1
    · exact c6H h hj hk (ih (by omega) (by omega))
    · have : i = j + 1 := by omega
      subst this; exact hx
theorem b4k {s:a0Y}(h:a0l s=0){g k:Nat}(hg:g<s.gs.length)(hk:k<s.fs.length)(x:Rat):a4O s.gs k x<=g↔inG (s.gs.getD g default) k x=true:=by
 constructor
 ·intro hle
  have hlt:a4O s.gs k x<s.gs.length:=by omega
  have hp:inG (s.gs[a4O s.gs k x]'hlt) k x=true:=List.findIdx_getElem (w:=hlt);have e:s.gs.getD (a4O s.gs k x) default=s.gs[a4O s.gs k x]'hlt:=by rw [e0q,d9W hlt];rfl
  exact c3O h hle hg hk (by rw [e];exact hp)
 ·intro hi
  have e:s.gs.getD g default=s.gs[g]'hg:=by rw [e0q,d9W hg];rfl
  rw [e] at hi;exact Nat.le_of_not_lt fun hlt=>by
   have:=List.not_of_lt_findIdx (xs:=s.gs) (p:=fun g=>inG g k x) hlt
   exact d9R hi (by simpa using this)
theorem a6O {f:Nat->Nat}{g:Nat}:∀ n,a8z f n<=g↔∀ k,k<n->f k<=g
 | 0=>⟨fun _ k hk=>d9R hk (e1i k),fun _=>e0y _⟩
 | n+1=>by
  show max (a8z f n) (f n)<=g↔_;rw [Nat.max_le,a6O n];exact ⟨fun ⟨h1,h2⟩ k hk=>by
   rcases e0j k n with h|h
   ·exact h1 k h
   ·have:k=n:=by omega
    subst this;exact h2,fun h=>⟨fun k hk=>h k (by omega),h n (by omega)⟩⟩
theorem b7c {g:a0M}{v:List (List UInt8)}:a4Q g v=true↔∀ k,k<v.length->inG g k (a0d (lv v k))=true:=by
 unfold a4Q;rw [e0B];exact ⟨fun h k hk=>h k (List.mem_range.2 hk),fun h k hk=>h k (List.mem_range.1 hk)⟩
theorem c8Z {s:a0Y}(h:a0l s=0){g:Nat}(hg:g<s.gs.length){v:List (List UInt8)}(hv:v.length=s.fs.length):a7A (a0e s) v<=g↔a4Q (s.gs.getD g default) v=true:=by
 unfold a7A;rw [a6O,b7c];have hok:=a0H h;exact ⟨fun q k hk=>(b4k h hg (by omega) _).1 (by have:=q k hk;rwa [a4a hok (by omega)] at this),fun q k hk=>by
  rw [a4a hok (by omega)];exact (b4k h hg (by omega) _).2 (q k hk)⟩
theorem c1V {s:a0Y}(h:a0l s=0){v:List (List UInt8)}(hv:v.length=s.fs.length):a7B s.gs v=a7A (a0e s) v:=by
 have hle:=b6l (a0e s) v;rw [a1h] at hle;have key:∀ (j:Nat) (g:a0M),s.gs[j]? = some g->(a4Q g v=true↔a7A (a0e s) v<=j):=fun j g hg=>by
  have hj:j<s.gs.length:=(List.getElem?_eq_some_iff.1 hg).1;rw [c8Z h hj hv];have e:s.gs.getD j default=g:=by rw [e0q,hg];rfl
  rw [e]
 unfold a7B;rcases e0j (a7A (a0e s) v) s.gs.length with h1|h1
 ·obtain ⟨g,hg⟩:=a0J h1
  exact a5x hg ((key _ _ hg).2 (d9Z _)) fun j y hj hy=>Bool.eq_false_iff.2 fun q=>d9R ((key _ _ hy).1 q) (by omega)
 ·rw [a3E fun j y hj hy=>Bool.eq_false_iff.2 fun q=>d9R ((key _ _ hy).1 q) (by omega)]
  omega
set_option maxHeartbeats 8000000
structure a9U where
 fac:Int
 step:List UInt8
 price:List UInt8
def a9U.D (r:a9U):D:=.agg [i64 r.fac,str (sb r.step),str (sb r.price)]
instance  (r:a9U):CellsPure r.D:=by unfold a9U.D;exact d9O
instance  (r:a9U):IsPure r.D:=by unfold a9U.D;exact d9O
structure c2I where
 grade:Int
 factor:Int
 vals:List (List UInt8)
 rates:List a9U
def c2I.D (x:c2I):D:=.agg [i64 x.grade,i64 x.factor,txD false x.vals,.sl false 3 (x.rates.map a9U.D)]
instance  (x:c2I):IsPure x.D:=by unfold c2I.D;exact d9O
def c2I.fit (x:c2I):Prop:=x.vals.length<=9223372036854775807/\x.rates.length<=9223372036854775807
section
variable {H:Type} {enc:TypeId × Value->H} {W:World} {fuel:Nat} {cs:List Value} {x:DataW H × List MemPlace} {t:TypeId}
theorem c0B (h:DataW.trod enc Tryz.prog W 0 (fun _=>true) true fuel 3 cs=some x):∃ z:Int,a5Y W cs [i64 z]:=by
 obtain ⟨z,_,_,h⟩:=d3d (by kernel_rfl) h;exact ⟨z,h⟩
theorem c8o (h:DataW.trod enc Tryz.prog W 0 (fun _=>true) true fuel 81 cs=some x):∃ r:a9U,a5Y W cs r.D.cells/\True:=by
 obtain ⟨h1,n,h2⟩:=b4Q (l:=[(3,0,1),(38,1,1),(38,2,1)]) (m:=3) (by kernel_rfl) (by kernel_rfl) h;obtain ⟨y0,k0⟩:=h2 0 _ _ _ rfl;obtain ⟨y1,k1⟩:=h2 1 _ _ _ rfl;obtain ⟨y2,k2⟩:=h2 2 _ _ _ rfl;obtain ⟨a0,r0⟩:=c0B k0;obtain ⟨a1,r1,_⟩:=a9s k1;obtain ⟨a2,r2,_⟩:=a9s k2;exact ⟨⟨a0,a1,a2⟩,a9n h1 (a4D (b:=1) (c:=2) r0 (a4D (b:=1) (c:=1) r1 r2)),trivial⟩
theorem d3z (h:DataW.trod enc Tryz.prog W 0 (fun _=>true) true fuel 54 cs=some x):∃ a:c2I,a5Y W cs a.D.cells/\a.fit:=by
 obtain ⟨h1,n,h2⟩:=b4Q (l:=[(3,0,1),(3,1,1),(37,2,1),(52,3,1)]) (m:=4) (by kernel_rfl) (by kernel_rfl) h;obtain ⟨y0,k0⟩:=h2 0 _ _ _ rfl;obtain ⟨y1,k1⟩:=h2 1 _ _ _ rfl;obtain ⟨y2,k2⟩:=h2 2 _ _ _ rfl;obtain ⟨y3,k3⟩:=h2 3 _ _ _ rfl;obtain ⟨a0,r0⟩:=c0B k0;obtain ⟨a1,r1⟩:=c0B k1;obtain ⟨a2,r2,_,l2⟩:=b4d k2;obtain ⟨a3,r3,_,l3⟩:=b9R (g:=a9U.D) (ok:=fun _=>True) (e:=81) (sz:=3) (by kernel_rfl) (by kernel_rfl) (by decide) (fun _ _ _ h=>c8o h) k3;have hM:maxLen<=9223372036854775807:=by decide
 exact ⟨⟨a0,a1,a2,a3⟩,a9n h1 (a4D (b:=1) (c:=3) r0 (a4D (b:=1) (c:=2) r1 (a4D (b:=1) (c:=1) r2 r3))),by dsimp only;omega,by dsimp only;omega⟩
end
theorem d4L {P:Program}{W:World}{t e base:Nat}{v:Value}(hu:P.underlying t=some (.slice e))(h:Value.okWide P W .any base t v):∃ a l c,v=.slice a l c:=by
 unfold Value.okWide at h;rw [hu] at h;dsimp only at h;unfold Cell.okWide at h;rw [hu] at h;cases v<;>first|exact ⟨_,_,_,rfl⟩|(dsimp only at h;unfold Cell.ok at h;rw [hu] at h;exact h.elim)
theorem a5Y.val1 {W:World}{v:Value}{d:D}(h:a5Y W [v] [d]):Rep nol (fun _=>False) W d v:=(h.cell 0 v d rfl rfl).2
set_option maxHeartbeats 4000000
def nb (r:Rat)(n d:Nat):Prop:=r.num.natAbs<=n/\r.den<=d
theorem c1N {n:Int}{d N D:Nat}(hd:d≠0)(h1:n.natAbs<=N)(h2:d<=D):nb (Rat.normalize n d hd) N D:=by
 rw [Rat.normalize_eq];exact ⟨e0A (Int.natAbs_ediv_le_natAbs _ _) h1,e0A (e1H _ _) h2⟩
theorem c5L {a b:Rat}{n d m e:Nat}(ha:nb a n d)(hb:nb b m e):nb (a+b) (n*e+m*d) (d*e):=by
 rw [Rat.add_def];refine c1N _ (e0A (Int.natAbs_add_le _ _) ?_) (e1Q ha.2 hb.2);rw [e2y,e2y,e1d,e1d];exact Nat.add_le_add (e1Q ha.1 hb.2) (e1Q hb.1 ha.2)
theorem c8V {a b:Rat}{n d m e:Nat}(ha:nb a n d)(hb:nb b m e):nb (a*b) (n*m) (d*e):=by
 rw [Rat.mul_def];exact c1N _ (by rw [e2y];exact e1Q ha.1 hb.1) (e1Q ha.2 hb.2)
def d6W:Nat:=(10^100)^6
theorem d1Q {r:Rat}{n d:Nat}(h:nb r n d)(h1:n<d6W)(h2:d<d6W):d2B r=false:=by
 unfold d2B;have key:∀ a b k m,a*b=k+1->m<(10^a)^b->(Lib.decDigits m).length<=k+1:=fun a b k m hk h=>a2c k m (by rw [<- hk,Nat.pow_mul];exact h)
 have l1:=key 100 6 599 r.num.natAbs rfl (e0I h.1 h1);have l2:=key 100 6 599 r.den rfl (e0I h.2 h2);rw [d9U (by omega),d9U (by omega)];rfl
def E40:Nat:=10^40
theorem a9H {l:List UInt8}(h:chk l=0)(hl:l.length<=40):nb (a0d l) E40 E40:=by
 obtain ⟨m1,m2,m3,m4⟩:=a2y h;obtain ⟨p1,p2⟩:=a4q h;have hs1:(a0N l).length<=40:=by
  have:(a0N l).length<=l.length:=by
   unfold a0N;have a1:(a0n (a2u l)).length<=(a2u l).length:=by unfold a0n;split<;>simp
   have a2:(a2u l).length<=l.length:=by unfold a2u;rw [e0n];omega
   omega
  omega
 have hb:∀ k,k<=40->(10:Nat)^k<=E40:=fun k hk=>e1l (by decide) hk
 refine ⟨?_,?_⟩
 ·rw [m1,m4]
  exact e0A (e3i (a6a _ p1)) (hb _ hs1)
 ·rw [m2]
  unfold b6z;cases hs:a4J l
  ·exact (by decide:1<=E40)
  ·have hs2:(a1I l).length<=40:=by
    have:(a1I l).length<=l.length:=by unfold a1I;simp
    omega
   exact e0A (e3i (a6a _ (p2 hs))) (hb _ hs2)
theorem d2E {r:Rat}{n d k:Nat}(h:nb r n d)(h1:n<BB^k)(h2:d<BB^k):rk r k :=
 ⟨a1f (e0I h.1 h1),a1f (e0I h.2 h2)⟩
theorem rk3 {l:List UInt8}(h:chk l=0)(hl:l.length<=40):rk (a0d l) 3:=d2E (a9H h hl) (by decide) (by decide)
end Go.Ide
