/- The layer of own lemmas and contracts, part 12. -/
import Derived.Test.YtpehlicnhjoknacGreatDoorP11
import Derived.Test.YtpehlicnhjoknacGreatDoorP6
import Derived.Test.YtpehlicnhjoknacGreatDoorP10
import Derived.Test.YtpehlicnhjoknacGreatDoorP3
import Derived.Shelf.RegionOpenPlain
import Derived.Lib.Builder
import Derived.Lib.UnsafeStr
import Derived.Lib.Strings
import Derived.Lib.Slices
import Derived.Lib.Walk
import Derived.Laws.Externs
import Derived.KernelRfl
import Derived.WalkKit
set_option linter.unusedVariables false
set_option linter.unusedSimpArgs false
namespace Go.Ide
open Go.Proofs Go.RowKit
set_option maxRecDepth 20000
set_option maxHeartbeats 2000000
theorem c2I (c:UInt8):a0D c=(!decide ((c.toNat:Int)<48) && !decide ((c.toNat:Int)>57)):=by
 unfold a0D;rw [e1j,d9B,d9B];simp only [d9w,e1H,Nat.ble_eq];omega
theorem b2h {l:List UInt8}{i:Nat}{c:UInt8}(hc:l[i]? = some c)(h:(l.take i).all a0D=true):(l.take (i+1)).all a0D=a0D c:=by
 rw [e0Z,hc,e2I,h];simp
theorem c8V {l:List UInt8}{i:Nat}{c:UInt8}(hc:l[i]? = some c)(h:a0D c=false):l.all a0D=false:=by
 cases ha:l.all a0D
 ·rfl
 ·have:=d9W.1 ha c (d9r hc)
  rw [h] at this;cases this
theorem c2o (l:List UInt8)(hl:l.length<=1000000000):a0b C0 186 [str (sb l)] (boo (l.all a0D)):=by
 refine a0c.walk w1 d0p rfl fun F=>?_
 have hsz:=a0x l;refine sR 0 ?_;refine OkS.seq ?_;refine sR 100 ?_;refine OkS.block ?_;refine OkS.loop (α:=Nat × Nat) (fun p=>⟨[(0,str (sb l)),(3,i64 (p.1:Int))],[],p.2⟩) (fun p=>l.length - p.1) (fun p=>p.1<=l.length/\(l.take p.1).all a0D=true) (0,_) ⟨d9U _,rfl⟩ wkI ?_;rintro ⟨i,n⟩ F ⟨hi,ha⟩;dsimp only at hi ha ⊢;refine OkS.seq ?_;refine sZ 200 ?_;refine nwI hsz ?_;refine ifI ?_
 (refine brI (fun hlt=>?_) (fun hlt=>?_))<;>(try simp only [d9w,d9x] at hlt)<;>(try simp only [hlt])
 ·have hi2:i<l.length:=by
   have:=d9N hlt
   omega
  obtain ⟨c,hc⟩:∃ c,l[i]? = some c:=⟨l[i],d9t hi2⟩
  have hg:l.getD i 0=c:=by simp [hc]
  have wi:IntKind.i64.wrap ((i:Int)+1)=((i+1:Nat):Int):=wI (by omega) (by omega);have hid:=c2I c;have hat:=b2h hc ha;have hno:=c8V hc;refine skI ?_;refine OkS.seq ?_;refine OkS.block ?_;refine sZ 400 ?_;refine nwI (ff2 kN hg) ?_
  by_cases c1:(c.toNat:Int)<48
  ·rw [d9q c1] at hid
   have e4:=d9q c1;simp only [e4];refine gwI kT ?_;refine ifI ?_;refine sR 500 ?_;refine rtI ?_;exact a0a (by rw [hno hid]) IsPure.out
  ·rw [d9p c1] at hid
   have e4:=d9p c1;simp only [e4];refine gwI (ff3 kF kN hg) ?_
   by_cases c2:(c.toNat:Int)>57
   ·rw [d9q c2] at hid ⊢
    refine ifI ?_;refine sR 500 ?_;refine rtI ?_;exact a0a (by rw [hno hid]) IsPure.out
   ·rw [d9p c2] at hid ⊢
    refine ifI ?_;refine skI ?_;refine d8I w1 300 (by kernel_rfl) ?_;refine nwI wi ?_;exact ⟨(i+1,_),⟨hi2,hat.trans hid⟩,by dsimp only;omega,wkI⟩
 ·have hi2:i=l.length:=by
   have:=d9I hlt
   omega
  subst hi2;rw [d9G (d9y _)] at ha;refine exI ?_;refine sR 600 ?_;refine rtI ?_;exact a0a (by rw [ha]) IsPure.out
theorem b9F (c : UInt8) : (((c.toNat : Nat) : Int) == 48) = decide (c = 48) := by
  rw [e1j, e1i, decide_eq_true_iff, <- UInt8.toNat_inj]
  exact ⟨fun h => by have : c.toNat = 48 := by omega
                     exact this, fun h => by rw [h]; rfl⟩
theorem c5p (l:List UInt8)(hl:l.length<=1000000000):a0b C0 120 [str (sb l)] (boo (a1f l)):=by
 refine a0c.walk w1 c9K rfl fun F=>?_
 have hsz:=a0x l;have cd:=c2o l hl;refine sR 0 ?_;refine OkS.seq ?_;refine OkS.seq ?_
 match l,hl,hsz,cd with
 | [],_,hsz,_ =>
  have e1:((((sb []).size:Nat):Int)==0)=true:=rfl;refine d8I w1 100 (by kernel_rfl) ?_;refine nwI e1 ?_;refine gwI kT ?_;refine ifI ?_;refine sR 200 ?_;refine rtI ?_;exact a0a rfl IsPure.out
 | [c],hl,hsz,cd =>
  have e1:((((sb [c]).size:Nat):Int)==0)=false:=rfl;have e2:decide ((((sb [c]).size:Nat):Int)>1)=false:=rfl;have ep:a1f [c]=[c].all a0D:=by
   unfold a1f c3T
   by_cases h:c=48
   ·subst h;rfl
   ·simp [h]
  rw [ep];refine d8I w1 100 (by kernel_rfl) ?_;refine nwI e1 ?_;refine gwI kF ?_;simp only [e2];refine gwI kF ?_;refine ifI ?_;refine skI ?_;refine sR 300 ?_;refine cI cd ?_;refine rtI ?_;exact a0a rfl IsPure.out
 | c::d::l,hl,hsz,cd =>
  have hs2:(sb (c::d::l)).size=l.length+2:=hsz;have e1:((((sb (c::d::l)).size:Nat):Int)==0)=false:=d9D.2 (by omega);have e2:decide ((((sb (c::d::l)).size:Nat):Int)>1)=true:=d9q (by omega);have e3:((((c::d::l).getD (Int.toNat 0) 0).toNat:Int)==48)=decide (c=48):=b9F c;have ep:a1f (c::d::l)=if c=48 then false else (c::d::l).all a0D:=by
   unfold a1f c3T
   by_cases h:c=48
   ·subst h;simp
   ·simp [h]
  rw [ep];refine d8I w1 100 (by kernel_rfl) ?_;refine nwI e1 ?_;refine gwI (ff2 kF e2) ?_;refine gwI (ff4 kT e2 e3 kF) ?_
  by_cases h:c=48
  ·rw [d9q h,d9l h]
   refine ifI ?_;refine sR 200 ?_;refine rtI ?_;exact a0a rfl IsPure.out
  ·rw [d9p h,d9m h]
   refine ifI ?_;refine skI ?_;refine sR 300 ?_;refine cI cd ?_;refine rtI ?_;exact a0a rfl IsPure.out
def c8Z (r:Rat):Bool:=decide (600<(Lib.decDigits r.num.natAbs).length)||decide (600<(Lib.decDigits r.den).length)
theorem c1j (l:List UInt8):a0f l=(a2q l).length:=by
 have:=a2L l
 unfold a2q;rw [d9J];omega
theorem a6X (l:List UInt8):a2q (a0l l)=a0Q l/\a1I (a0l l)=a1I l/\a4D (a0l l)=a4D l/\decide (a2q l=[45,48])=(a2i l&&decide (a0Q l=[48])):=by
 cases hb:a2i l
 ·have ed:a0l l=l:=by unfold a0l;rw [hb];rfl
  have en:a2i (a2q l)=false:=by
   unfold a2q;cases l with
   | nil=>rfl
   | cons c l =>
    cases hk:a0f (c::l) with
    | zero=>rfl
    | succ k=>exact hb
  have es:a0Q l=a2q l:=by unfold a0Q a0l;rw [en];rfl
  rw [ed,es];refine ⟨rfl,rfl,rfl,?_⟩;rw [e1o];refine d9p fun h=>?_
  rw [h] at en;cases en
 ·cases l with
  | nil=>cases hb
  | cons c m =>
   have hc:c=45:=by simpa [a2i] using hb
   subst hc;have ed:a0l (45::m)=m:=rfl;have e1:a0f (45::m)=a0f m+1:=by
    unfold a0f;rw [e2D,d9l (by decide),d9u]
   have e2:a2q (45::m)=45::a2q m:=by unfold a2q;rw [e1,List.take_succ_cons]
   have e3:a1I (45::m)=a1I m:=by unfold a1I;rw [e1,e2f]
   have e4:a4D (45::m)=a4D m:=by unfold a4D;rw [e1,d9u];exact e0C.2 (by omega)
   have e5:a0Q (45::m)=a2q m:=by unfold a0Q;rw [e2];rfl
   rw [ed,e2,e3,e4,e5];refine ⟨rfl,rfl,rfl,?_⟩;rw [e1b];exact e0C.2 (by simp)
theorem a5h (l:List UInt8):a4j l=((!a1f (a0Q l)||(a2i l&&decide (a0Q l=[48])))||(a4D l&&(!a1f (a1I l)||decide (a1I l=[48])||decide (a1I l=[49])))):=by
 unfold a4j;rw [(a6X l).2.2.2]
theorem c3e {l:List UInt8}(h:a1f l=true):l≠[]:=(a2V h).1
theorem c5B {l:List UInt8}(h:0<l.length):(((l.getD (Int.toNat 0) 0).toNat:Int)==45)=a2i l:=by
 cases l with
 | nil=>cases h
 | cons c l=>exact a8e c l
theorem b3u (l:List UInt8)(hl:l.length<=100000):a0b C0 56 [str (sb l)] (i64 (chk l)):=by
 refine a0c.walk w1 d4J rfl fun F=>?_
 have hsz:=a0x l;obtain ⟨p1,p2,p3,-⟩:=a6X l;have hdl:(a0l l).length<=l.length:=by
  unfold a0l;split
  ·rw [e0x];omega
  ·exact d9y _
 have hbf:=a5h l;have hchk1:(!a1f (a0Q l)||(a2i l&&decide (a0Q l=[48])))=true->chk l=1:=fun h=>by
  unfold chk;rw [hbf,h,Bool.true_or,d9l rfl]
 have hchk2:(a4D l&&(!a1f (a1I l)||decide (a1I l=[48])||decide (a1I l=[49])))=true->chk l=1:=fun h=>by
  unfold chk;rw [hbf,h,Bool.or_true,d9l rfl]
 have hne:a1f (a0Q l)=true->0<l.length:=fun h=>by
  cases l with
  | nil=>exact d9n rfl (c3e h)
  | cons c l=>rw [d9u];omega
 refine sR 0 ?_;refine sR 100 ?_;refine d8X (α:=Nat) (fun n=>⟨[(0,str (sb l)),(3,str (sb (a0l l)))],[],n⟩) (fun _=>True) ?_ ?_
 ·rcases e0m l.length with h0|h0
  ·have e0:l=[]:=e0d h0
   have e1:decide (((sb []).size:Int)>0)=false:=rfl;have ed:a0l l=l:=by rw [e0];rfl
   rw [ed,e0];refine sZ 200 ?_;refine nwI e1 ?_;refine gwI kF ?_;refine ifI ?_;refine skI ?_;exact ⟨rfl,_,trivial,wkI⟩
  ·have e0:decide (((sb l).size:Int)>0)=true:=d9q (by omega)
   have e1:=c5B h0;refine sZ 200 ?_;refine gwI e0 ?_;refine gwI (ff3 kT e0 e1) ?_;cases hb:a2i l
   ·have ed:a0l l=l:=by unfold a0l;rw [hb];rfl
    rw [ed];refine ifI ?_;refine skI ?_;exact ⟨rfl,_,trivial,wkI⟩
   ·have ed:a0l l=l.drop 1:=by unfold a0l;rw [hb];rfl
    have ee:(sb l).extract (Int.toNat 1) l.length=sb (a0l l):=by
     rw [a2r,d9G (d9y _),ed];rfl
    refine ifI ?_;refine d8I w1 300 (by kernel_rfl) ?_;refine gwI (ff2 hsz kN) ?_;rw [ee];exact ⟨trivial,_,trivial,wkI⟩
 rintro n0 -;have cs:=b4R (a0l l) (by omega);have hle:=a2L (a0l l);have hszS:=a0x (a0l l);have hhs:a4D l=decide (a0f (a0l l)<(a0l l).length):=p3.symm;have e10:(sb (a0l l)).extract 0 (a0f (a0l l))=sb (a0Q l):=by rw [<- p1,a2r,e1c];rfl
 have e11:(sb (a0l l)).extract (a0f (a0l l)+1) (a0l l).length=sb (a1I l):=by rw [<- p2,a2r,d9G (d9y _)];rfl
 have hNl:a0f (a0l l)=(a0Q l).length:=by rw [<- p1];exact c1j _
 have hDl:(a1I l).length=(a0l l).length - (a0f (a0l l)+1):=by rw [<- p2];unfold a1I;rw [e0x]
 have pp:=fun h1 h2=>a9f (a0l l) h1 h2 (by omega)
 unfold d2L c9l at pp;rw [p1,p2,p3] at pp;have edef:chk l=if a4j l then 1 else if 600<(a0Q l).length\/600<(a1I l).length then 4 else if a4D l=true/\Nat.gcd (dv (a0Q l)) (dv (a1I l))≠1 then 1 else 0:=rfl
 rw [hbf] at edef;generalize hN:a0Q l=Nn at *;generalize hD:a1I l=Dn at *;generalize hH:a4D l=hv at *;generalize hK:chk l=Kn at *;generalize a0l l=Sn at *;generalize a0f Sn=k at *;clear p1 p2 p3 hbf hN hD hH hK;have cf:=c5p Nn (by omega);have cf2:=c5p Dn (by omega);have q0:=a5Z Nn [48];have q1:=a5Z Dn [48];have q2:=a5Z Dn [49];refine sR 400 ?_;refine cI cs ?_;refine d8X (α:=Nat) (fun n=>⟨[(0,str (sb l)),(3,str (sb Sn)),(4,i64 (k:Int))],[],n⟩) (fun _=>(!a1f Nn||(a2i l&&decide (Nn=[48])))=false) ?_ ?_
 ·refine sZ 500 ?_
  refine gwI (ff2 hszS kN) ?_;refine gwI e10 ?_;cases hp:a1f Nn
  ·rw [hp] at cf
   refine a0j.same _ cf d9k ?_;refine stI ?_;simp only [e0o];refine gwI kT ?_;refine ifI ?_;refine sR 600 ?_;refine rtI ?_;exact a0a (by rw [hchk1 (by rw [hp];rfl)];rfl) IsPure.out
  ·rw [hp] at cf
   have hl0:=hne hp;have e1:=c5B hl0;refine a0j.same _ cf d9k ?_;refine stI ?_;simp only [e0s];refine gwI (ff3 kF hsz e1) ?_;have q0':a1G (sb Nn) ⟨#[48]⟩=decide (Nn=[48]):=q0;cases hb:a2i l
   ·refine gwI kF ?_
    refine ifI ?_;refine skI ?_;exact ⟨rfl,_,rfl,wkI⟩
   ·refine gwI (ff4 kT kF hszS kN) ?_
    refine gwI (ff4 kT kF e10 q0') ?_
    by_cases h0:Nn=[48]
    ·rw [d9q h0]
     refine ifI ?_;refine sR 600 ?_;refine rtI ?_;exact a0a (by rw [hchk1 (by simp [hp,hb,h0])];rfl) IsPure.out
    ·rw [d9p h0]
     refine ifI ?_;refine skI ?_;exact ⟨rfl,_,by simp,wkI⟩
 rintro n1 hb1;clear hchk1 hne cf q0;refine d8X (α:=Nat) (fun n=>⟨[(0,str (sb l)),(3,str (sb Sn)),(4,i64 (k:Int))],[],n⟩) (fun _=>(hv&&(!a1f Dn||decide (Dn=[48])||decide (Dn=[49])))=false) ?_ ?_
 ·cases hv
  ·have e40:decide ((k:Int)<(Sn.length:Int))=false:=d9p (by have:=d9I hhs.symm;omega)
   refine sZ 700 ?_;refine nwI (ff2 hszS e40) ?_;refine gwI kF ?_;refine ifI ?_;refine skI ?_;exact ⟨rfl,_,rfl,wkI⟩
  ·have hkl:=d9N hhs.symm
   have e40:decide ((k:Int)<(Sn.length:Int))=true:=d9q (by omega);have wk:IntKind.i64.wrap ((k:Int)+1)=((k+1:Nat):Int):=wI (by omega) (by omega);have q1':a1G (sb Dn) ⟨#[48]⟩=decide (Dn=[48]):=q1;have q2':a1G (sb Dn) ⟨#[49]⟩=decide (Dn=[49]):=q2;refine sZ 700 ?_;refine nwI (ff2 hszS e40) ?_;refine gwI (ff4 kT wk hszS kN) ?_;simp only [e11];refine gcI kT ?_;cases hp:a1f Dn
   ·rw [hp] at cf2
    refine a0j.same _ cf2 d9k ?_;refine gwI kB ?_;refine gwI kT ?_;refine ifI ?_;refine sR 800 ?_;refine rtI ?_;exact a0a (by rw [hchk2 (by simp [hp])];rfl) IsPure.out
   ·rw [hp] at cf2
    have e12:(sb Sn).extract (IntKind.i64.wrap ((k:Int)+1)).toNat (sb Sn).size=sb Dn:=by rw [wk,hszS,e1W];exact e11
    refine a0j.same _ cf2 d9k ?_;refine gwI kB ?_;simp only [e12,q1']
    by_cases h48:Dn=[48]
    ·rw [d9q h48]
     refine gwI kT ?_;refine ifI ?_;refine sR 800 ?_;refine rtI ?_;exact a0a (by rw [hchk2 (by simp [h48])];rfl) IsPure.out
    ·rw [d9p h48]
     refine gwI kB ?_;simp only [e12,q2']
     by_cases h49:Dn=[49]
     ·rw [d9q h49]
      refine ifI ?_;refine sR 800 ?_;refine rtI ?_;exact a0a (by rw [hchk2 (by simp [h49])];rfl) IsPure.out
     ·rw [d9p h49]
      refine ifI ?_;refine skI ?_;exact ⟨rfl,_,by simp,wkI⟩
 rintro n2 hb2;clear hchk2 cf2 q1 q2 e10 e11 hsz;have hpN:a1f Nn=true:=by
  cases h:a1f Nn
  ·rw [h] at hb1;simp at hb1
  ·rfl
 have hpD:hv=true->a1f Dn=true:=fun h0=>by
  cases h:a1f Dn
  ·rw [h,h0] at hb2;simp at hb2
  ·rfl
 rw [hb1,hb2] at edef;rw [d9m (by decide)] at edef;have wl1:IntKind.i64.wrap ((Sn.length:Int) - (k:Int))=(Sn.length:Int) - (k:Int):=wI (by omega) (by omega);have wl2:IntKind.i64.wrap ((Sn.length:Int) - (k:Int) - 1)=(Sn.length:Int) - (k:Int) - 1:=wI (by omega) (by omega);have e91:decide ((Sn.length:Int) - (k:Int) - 1>600)=decide (600<Dn.length):=e0C.2 (by omega);refine d8X (α:=Nat) (fun n=>⟨[(3,str (sb Sn)),(4,i64 (k:Int))],[],n⟩) (fun _=>Nn.length<=600/\Dn.length<=600) ?_ ?_
 ·by_cases g1:600<k
  ·have e9:decide ((k:Int)>600)=true:=d9q (by omega)
   rw [d9l (.inl (by omega))] at edef;refine sZ 900 ?_;refine nwI e9 ?_;refine gwI kT ?_;refine ifI ?_;refine sR 1000 ?_;refine rtI ?_;exact a0a (by rw [edef];rfl) IsPure.out
  ·have e9:decide ((k:Int)>600)=false:=d9p (by omega)
   refine sZ 900 ?_;refine nwI e9 ?_;refine gwI (ff5 kF hszS wl1 wl2 e91) ?_
   by_cases g2:600<Dn.length
   ·rw [d9l (.inr g2)] at edef
    rw [d9q g2];refine ifI ?_;refine sR 1000 ?_;refine rtI ?_;exact a0a (by rw [edef];rfl) IsPure.out
   ·rw [d9p g2]
    refine ifI ?_;refine skI ?_;exact ⟨rfl,_,⟨by omega,by omega⟩,wkI⟩
 rintro n3 ⟨g1,g2⟩;rw [d9m (by omega)] at edef;clear e91 wl1 wl2 hb1 hb2;obtain ⟨-,dN⟩:=a2V hpN;refine d8X (α:=Nat) (fun n=>⟨[],[],n⟩) (fun _=>Kn=0) ?_ ?_
 ·cases hv
  ·have e40:decide ((k:Int)<(Sn.length:Int))=false:=d9p (by have:=d9I hhs.symm;omega)
   rw [d9m (by simp)] at edef;refine sZ 1100 ?_;refine nwI (ff2 hszS e40) ?_;refine ifI ?_;refine skI ?_;exact ⟨rfl,_,edef,wkI⟩
  ·have hkl:=d9N hhs.symm
   have e40:decide ((k:Int)<(Sn.length:Int))=true:=d9q (by omega);obtain ⟨-,dD⟩:=a2V (hpD rfl);have pa:=pp (by rw [a1U dN];exact dN) (by rw [a1U dD];exact dD);rw [d9l rfl,b0T dN,b0T dD] at pa;have lN:(a0r (dv Nn)).length<1000000:=e0f (a1x (e0a (a5R Nn dN) (e2F (by decide) Nn.length))) (by omega);have lD:(a0r (dv Dn)).length<1000000:=e0f (a1x (e0a (a5R Dn dD) (e2F (by decide) Dn.length))) (by omega);have cg:a0b C0 108 [rD ((dv Nn:Int)).natAbs,rD ((dv Dn:Int)).natAbs] (.sl false 1 ((a0r (Nat.gcd (dv Nn) (dv Dn))).map a0t)):=b5n (dv Nn) (dv Dn) lN lD;have ht:=b5Z (Nat.gcd (dv Nn) (dv Dn));have ed1:Nat.gcd (dv Nn) (dv Dn)≠1->Kn=1:=fun h=>by rw [d9l ⟨rfl,h⟩] at edef;exact edef
   have ed0:Nat.gcd (dv Nn) (dv Dn)=1->Kn=0:=fun h=>by rw [d9m (fun hh=>hh.2 h)] at edef;exact edef
   clear edef;generalize Nat.gcd (dv Nn) (dv Dn)=gg at *;refine sZ 1100 ?_;refine nwI (ff2 hszS e40) ?_;refine ifI ?_;refine sR 1200 ?_;refine cI pa ?_;refine sR 1300 ?_;refine cI cg ?_;rcases ht with ⟨t1,a,ha,t2⟩|⟨t1,t2⟩
   ·have ha':=a7F ha
    have t1n:((((a0r gg).map a0t).length:Int) != 1)=false:=by unfold bne;rw [t1];rfl
    have t2n:((a:Int) != 1) = !decide (gg=1):=by unfold bne;rw [t2]
    refine sZ 1400 ?_;refine nwI t1n ?_;refine gwI kF ?_;refine ixI kF ha' ?_;refine gwI (ff2 kF t2n) ?_
    by_cases hg1:gg=1
    ·rw [d9q hg1]
     refine ifI ?_;refine skI ?_;exact ⟨rfl,_,ed0 hg1,wkI⟩
    ·rw [d9p hg1]
     refine ifI ?_;refine sR 1500 ?_;refine rtI ?_;exact a0a (by rw [ed1 hg1];rfl) IsPure.out
   ·have edf:=ed1 t2
    have t1n:((((a0r gg).map a0t).length:Int) != 1)=true:=by unfold bne;rw [t1];rfl
    refine sZ 1400 ?_;refine nwI t1n ?_;refine gwI kT ?_;refine ifI ?_;refine sR 1500 ?_;refine rtI ?_;exact a0a (by rw [edf];rfl) IsPure.out
 rintro n4 h0;refine sR 1600 ?_;refine rtI ?_;exact a0a (by rw [h0];rfl) IsPure.out
theorem c2m {n k:Nat}(hn:n≠0)(hk:k<10):Lib.decDigits (n*10+k)=Lib.decDigits n++[UInt8.ofNat (48+k)]:=by
 rw [Lib.decDigits,dif_neg (by omega)]
 congr 2
 ·omega
 ·congr 2;omega
theorem b5p {c:UInt8}(h:a0D c=true):UInt8.ofNat (48+(c.toNat - 48))=c:=by
 obtain ⟨h1,h2⟩:=a2G h;rw [<- UInt8.toNat_inj,a7V _ (by omega)];omega
theorem c6F (l:List UInt8)(c:UInt8):dv (l++[c])=dv l*10+(c.toNat - 48):=by
 rw [a4Q];simp [dv,dvF]
theorem c9k:∀ (n:Nat) (l:List UInt8),l.length=n->l≠[]->l.all a0D=true->l.head? ≠ some 48->dv l≠0/\Lib.decDigits (dv l)=l:=fun n=>by
 induction n with
 | zero=>intro l h0 h1;exact d9n (e0d h0) h1
 | succ n ih =>
  intro l h0 h1 h2 h3;rcases e1O l with rfl|⟨m,c,rfl⟩
  ·exact d9n rfl h1
  ·rw [e1N] at h0 h1 h2 h3 ⊢
   rw [e2I,d9B] at h2;have hc:a0D c=true:=by simpa using h2.2
   obtain ⟨c1,c2⟩:=a2G hc;rw [c6F]
   by_cases hm:m=[]
   ·subst hm
    have hc48:c≠48:=fun h=>h3 (by rw [h];rfl)
    have hcn:c.toNat≠48:=fun h=>hc48 (UInt8.toNat_inj.1 h)
    have e0:dv []*10+(c.toNat - 48)=c.toNat - 48:=by simp [dv,dvF]
    rw [e0];refine ⟨by omega,?_⟩;rw [Lib.decDigits,dif_pos (by omega),b5p hc];rfl
   ·have hh:m.head? ≠ some 48:=by
     cases m with
     | nil=>exact d9n rfl hm
     | cons a m=>exact h3
    obtain ⟨i1,i2⟩:=ih m (by rw [d9Z,e1a] at h0;omega) hm h2.1 hh;refine ⟨by omega,?_⟩;rw [c2m i1 (by omega),i2,b5p hc]
theorem a9g {l:List UInt8}(h:a1f l=true):Lib.decDigits (dv l)=l/\(l≠[48]->dv l≠0):=by
 obtain ⟨h1,h2⟩:=a2V h
 by_cases h0:l=[48]
 ·subst h0
  refine ⟨?_,fun hh=>d9n rfl hh⟩;show Lib.decDigits 0=[48];rw [Lib.decDigits,dif_pos (by decide)];rfl
 ·have h3:l.head? ≠ some 48:=by
   unfold a1f at h;rw [d9B,d9p h0,Bool.false_or] at h
   have:=h.2
   simpa using this
  obtain ⟨a,b⟩:=c9k _ l rfl h1 h2 h3;exact ⟨b,fun _=>a⟩
theorem b6p:∀ {l:List UInt8},a0f l<l.length->l.drop (a0f l)=47::l.drop (a0f l+1)
 | [],h=>by cases h
 | c::l,h=>by
  by_cases hc:c=47
  ·subst hc;rfl
  ·have e1:a0f (c::l)=a0f l+1:=by
    unfold a0f;rw [e2D,d9l (by simpa using hc),d9u]
   rw [e1,d9u] at h;rw [e1,e2f,e2f];exact b6p (by omega)
def b6g (l:List UInt8):Nat:=if a4D l then dv (a1I l) else 1
def a0e (l:List UInt8):Rat:=mkRat (rv (a2q l)) (b6g l)
theorem c0a {n:Int}{d:Nat}(hd:d≠0)(h:Nat.gcd n.natAbs d=1):(mkRat n d).num=n/\(mkRat n d).den=d:=by
 obtain ⟨q1,q2⟩:=b1K (x:=n) hd;rw [h,Nat.div_one] at q1 q2;rw [b6m] at q1;exact ⟨q1,q2⟩
theorem b1j {l:List UInt8}(h:chk l=0):a4j l=false/\(a0Q l).length<=600/\(a1I l).length<=600/\(a4D l=true->Nat.gcd (dv (a0Q l)) (dv (a1I l))=1):=by
 unfold chk at h;cases hb:a4j l
 ·rw [hb,d9m (by decide)] at h
  split at h
  ·cases h
  ·rename_i h1
   split at h
   ·cases h
   ·rename_i h2
    refine ⟨rfl,by omega,by omega,fun h3=>?_⟩;rcases Nat.decEq (Nat.gcd (dv (a0Q l)) (dv (a1I l))) 1 with h4|h4
    ·exact d9n ⟨h3,h4⟩ h2
    ·exact h4
 ·rw [hb,d9l rfl] at h;cases h
theorem a2u {l:List UInt8}(h:chk l=0):(a0e l).num=rv (a2q l)/\(a0e l).den=b6g l/\txt (a0e l)=l/\(rv (a2q l)).natAbs=dv (a0Q l):=by
 obtain ⟨h1,h2,h3,h4⟩:=b1j h;rw [a5h] at h1;simp only [e1C] at h1;obtain ⟨⟨b1,b2⟩,b3⟩:=h1;have p1:a1f (a0Q l)=true:=by simpa using b1
 obtain ⟨d1,d2⟩:=a9g p1;have hab:(rv (a2q l)).natAbs=dv (a0Q l):=by
  show (rv (a2q l)).natAbs=dv (a0l (a2q l));unfold rv;split<;>omega
 have hdd:a4D l=true->a1f (a1I l)=true/\a1I l≠[48]/\a1I l≠[49]:=fun hs=>by
  rw [hs,e1b] at b3;simp only [e1C] at b3;exact ⟨by simpa using b3.1.1,d9I b3.1.2,d9I b3.2⟩
 have hd0:b6g l≠0:=by
  unfold b6g;cases hs:a4D l
  ·simp
  ·obtain ⟨e1,e2,e3⟩:=hdd hs
   simpa using (a9g e1).2 e2
 have hg:Nat.gcd (rv (a2q l)).natAbs (b6g l)=1:=by
  rw [hab];unfold b6g;cases hs:a4D l
  ·simp
  ·simpa using h4 hs
 obtain ⟨m1,m2⟩:=c0a hd0 hg;refine ⟨m1,m2,?_,hab⟩;have hi:Lib.itoa (rv (a2q l))=a2q l:=by
  cases hb:a2i (a2q l)
  ·have e1:a0Q l=a2q l:=by unfold a0Q a0l;rw [hb];rfl
   rw [e1] at d1;have e2:rv (a2q l)=(dv (a2q l):Int):=by unfold rv a0l;rw [hb];rfl
   rw [e2];unfold Lib.itoa;rw [d9m (by omega)];exact d1
  ·obtain ⟨m,hm⟩:∃ m,a2q l=45::m:=by
    cases hn:a2q l with
    | nil=>rw [hn] at hb;cases hb
    | cons c m =>
     rw [hn] at hb;exact ⟨m,by rw [show c=45 by simpa [a2i] using hb]⟩
   have e1:a0Q l=m:=by unfold a0Q;rw [hm];rfl
   have hne:a0Q l≠[48]:=fun h=>by
    have:=(a6X l).2.2.2
    rw [b2,hm] at this;have h2:=d9I this;rw [e1] at h;exact h2 (by rw [h])
   have hpos:=d2 hne;rw [e1] at d1 hpos;have e2:rv (a2q l) = -(dv m:Int):=by rw [hm];rfl
   rw [e2];unfold Lib.itoa;rw [d9l (by omega),e2G,e0B,d1,hm]
 unfold txt;rw [show (a0e l).num=rv (a2q l) from m1,show (a0e l).den=b6g l from m2,hi];have hle:=a2L l;cases hs:a4D l
 ·have e1:b6g l=1:=by unfold b6g;rw [hs];rfl
  have e2:=d9I (p:=a0f l<l.length) hs;rw [d9l e1];unfold a2q;exact d9G (by omega)
 ·obtain ⟨e1,e2,e3⟩:=hdd hs
  have e4:b6g l=dv (a1I l):=by unfold b6g;rw [hs];rfl
  have e5:=(a9g e1).1;have e6:dv (a1I l)≠1:=fun h=>by
   rw [h,Lib.decDigits,dif_pos (by decide)] at e5;exact e3 e5.symm
  rw [e4,d9m e6,e5];unfold a2q a1I;rw [<- b6p (d9N hs),e0H]
theorem a4q {l:List UInt8}(h:chk l=0):(a0Q l).all a0D=true/\(a4D l=true->(a1I l).all a0D=true):=by
 obtain ⟨h1,-,-,-⟩:=b1j h;rw [a5h] at h1;simp only [e1C] at h1;obtain ⟨⟨b1,-⟩,b3⟩:=h1;refine ⟨(a2V (by simpa using b1)).2,fun hs=>?_⟩;rw [hs,e1b] at b3;simp only [e1C] at b3;exact (a2V (by simpa using b3.1.1)).2
theorem b0j {l:List UInt8}(h:chk l=0):rk (a0e l) 600:=by
 obtain ⟨m1,m2,-,m4⟩:=a2u h;obtain ⟨-,h2,h3,-⟩:=b1j h;obtain ⟨p1,p2⟩:=a4q h;have hb:∀ k,(10:Nat)^k<=BB^k:=fun k=>e2F (by decide) k
 refine ⟨?_,?_⟩
 ·rw [m1,m4]
  exact d9V (a1b (e0a (a5R _ p1) (hb _))) h2
 ·rw [m2]
  unfold b6g;cases hs:a4D l
  ·exact d9V (a1b (n:=1) (k:=1) (by decide)) (by decide)
  ·exact d9V (a1b (e0a (a5R _ (p2 hs)) (hb _))) h3
theorem a3H {l:List UInt8}(h:chk l=0):FR (a0e l) (a0p l) 600:=by
 obtain ⟨m1,m2,-,-⟩:=a2u h;refine ⟨⟨a1d _,?_,?_⟩,b0j h⟩
 ·show (mkG (rv (a2q l))).z=_
  rw [a3U,m1]
 ·show (if a4D l then dv (a1I l) else 1)=_
  rw [m2];rfl
theorem a7u {l:List UInt8}(hl:l.length<=100000)(h:chk l=0):a0b C0 75 [str (sb l)] (a0p l).D:=c6U l hl (a4q h).1 (a4q h).2
def a6T (lo hi:List UInt8):Nat:=if chk lo≠0 then chk lo else if chk hi≠0 then chk hi else if a1H (a0e lo) (a0e hi)>0 then 11 else 0
def a3s:List (List UInt8)->Nat
 | []=>0
 | l::r=>if chk l≠0 then chk l else a3s r
theorem a8v {v:List (List UInt8)}{i:Nat}(h:∀ (j:Nat) (l:List UInt8),j<i->v[j]? = some l->chk l=0):a3s v=a3s (v.drop i):=by
 induction i generalizing v with
 | zero=>rfl
 | succ i ih =>
  cases v with
  | nil=>rfl
  | cons l r =>
   have h0:=h 0 l (Nat.succ_pos i) rfl;rw [e2f];show (if chk l≠0 then chk l else a3s r)=_;rw [d9m (fun hh=>hh h0)];exact ih fun j m hj hm=>h (j+1) m (by omega) hm
theorem d3m (lo hi:List UInt8)(h1:lo.length<=100000)(h2:hi.length<=100000):a0b C0 18 [.agg [str (sb lo),str (sb hi)]] (i64 (a6T lo hi)):=by
 refine a0c.walk w1 d4l rfl fun F=>?_
 have c1:=b3u lo h1;have c2:=b3u hi h2;unfold a6T;refine sR 0 ?_;refine sR 100 ?_;refine cI c1 ?_
 by_cases g1:chk lo=0
 ·have e8:(((chk lo:Nat):Int)==0)=true:=by rw [g1];rfl
  rw [d9m (fun h=>h g1)];refine d8X (α:=Nat) (fun n=>⟨[(1,.optr 0 0 2 0 0),(3,i64 (chk hi:Int))],[⟨0,0,40,2,[.agg [str (sb lo),str (sb hi)]]⟩],n⟩) (fun _=>True) ?_ ?_
  ·refine sZ 200 ?_
   refine nwI e8 ?_;refine ifI ?_;refine rI 300 ?_;refine cI c2 ?_;exact ⟨rfl,_,trivial,wkI⟩
  rintro n0 -
  by_cases g2:chk hi=0
  ·have e9:(((chk hi:Nat):Int)==0)=true:=by rw [g2];rfl
   have cc:=d6r (a0e lo) (a0e hi) 600 600 (b0j g1) (b0j g2) (by decide);rw [d9m (fun h=>h g2)];unfold rR at cc;rw [(a2u g1).2.2.1,(a2u g2).2.2.1] at cc;refine OkS.seq ?_;refine sZ 400 ?_;refine nwI e9 ?_;refine gwI kT ?_;refine gcI kT ?_;refine a0j.same _ cc d9k ?_;refine gwI kT ?_
   by_cases g3:a1H (a0e lo) (a0e hi)>0
   ·rw [d9q g3,d9l g3]
    refine ifI ?_;refine sR 500 ?_;refine rtI ?_;exact a0a rfl IsPure.out
   ·rw [d9p g3,d9m g3]
    refine ifI ?_;refine skI ?_;refine sR 600 ?_;refine rtI ?_;exact a0a (by rw [g2]) IsPure.out
  ·have e9:(((chk hi:Nat):Int)==0)=false:=d9D.2 (by omega)
   rw [d9l g2];refine OkS.seq ?_;refine sZ 400 ?_;refine nwI e9 ?_;refine gwI kF ?_;refine ifI ?_;refine skI ?_;refine sR 600 ?_;refine rtI ?_;exact a0a rfl IsPure.out
 ·have e8:(((chk lo:Nat):Int)==0)=false:=d9D.2 (by omega)
  rw [d9l g1];refine OkS.seq ?_;refine sZ 200 ?_;refine nwI e8 ?_;refine ifI ?_;refine skI ?_;refine OkS.seq ?_;refine sZ 400 ?_;refine nwI e8 ?_;refine gwI kF ?_;refine ifI ?_;refine skI ?_;refine sR 600 ?_;refine rtI ?_;exact a0a rfl IsPure.out
theorem c0W (c:Nat):(97<=c/\c<=122)\/(122<c)\/(65<=c/\c<=90)\/((91<=c/\c<=96)/\c≠95)\/(c=95)\/(58<=c/\c<=64)\/(48<=c/\c<=57)\/(c<48/\c≠45/\c≠46)\/(c=45)\/(c=46):=by omega
theorem d3k (l:List UInt8)(hl:l.length<=1000000):a0b C0 125 [str (sb l)] (boo (a1q l)):=by
 refine a0c.walk w1 c9N rfl fun F=>?_
 have hsz:=a0x l;refine sR 0 ?_;refine d8X (α:=Nat) (fun n=>⟨[(0,str (sb l))],[],n⟩) (fun _=>1<=l.length/\l.length<=24) ?_ ?_
 ·by_cases h1:l.length<1
  ·have e1:decide ((l.length:Int)<1)=true:=d9q (by omega)
   refine sZ 100 ?_;refine nwI (ff2 hsz e1) ?_;refine gwI kT ?_;refine ifI ?_;refine sR 200 ?_;refine rtI ?_;exact a0a (by unfold a1q;rw [d9p (show ¬ 1<=l.length by omega)];simp) IsPure.out
  ·have e1:decide ((l.length:Int)<1)=false:=d9p (by omega)
   have e2:decide ((l.length:Int)>24)=decide (24<l.length):=e0C.2 (by omega);refine sZ 100 ?_;refine nwI (ff2 hsz e1) ?_;refine gwI (ff3 kF hsz e2) ?_
   by_cases h2:24<l.length
   ·rw [d9q h2]
    refine ifI ?_;refine sR 200 ?_;refine rtI ?_;exact a0a (by unfold a1q;rw [d9p (show ¬ l.length<=24 by omega)];simp) IsPure.out
   ·rw [d9p h2]
    refine ifI ?_;refine skI ?_;exact ⟨rfl,_,⟨by omega,by omega⟩,wkI⟩
 rintro n0 ⟨l1,l2⟩;refine OkS.seq ?_;refine sR 300 ?_;refine OkS.block ?_;refine OkS.loop (α:=Nat × Nat) (fun p=>⟨[(0,str (sb l)),(3,i64 (p.1:Int))],[],p.2⟩) (fun p=>l.length - p.1) (fun p=>p.1<=l.length/\(l.take p.1).all (fun b=>a1M b.toNat)=true) (0,_) ⟨d9U _,rfl⟩ wkI ?_;rintro ⟨i,n⟩ F ⟨hi,ha⟩;dsimp only at hi ha ⊢;refine OkS.seq ?_;refine sZ 400 ?_;refine nwI hsz ?_;refine ifI ?_
 (refine brI (fun hlt=>?_) (fun hlt=>?_))<;>(try simp only [d9w,d9x] at hlt)<;>(try simp only [hlt])
 ·have hi2:i<l.length:=by
   have:=d9N hlt
   omega
  obtain ⟨c,hc⟩:∃ c,l[i]? = some c:=⟨l[i],d9t hi2⟩
  have hg:l.getD i 0=c:=by simp [hc]
  have wi:IntKind.i64.wrap ((i:Int)+1)=((i+1:Nat):Int):=wI (by omega) (by omega);refine skI ?_;refine OkS.seq ?_;refine OkS.block ?_;refine sZ 600 ?_;refine nwI (ff2 kN hg) ?_;have hcl:a1M c.toNat=false->a1q l=false:=fun h=>by
   unfold a1q;cases hall:l.all (fun b=>a1M b.toNat)
   ·rfl
   ·have:=d9W.1 hall c (d9r hc)
    rw [h] at this;cases this
  have hsn:a1M c.toNat=true->(l.take (i+1)).all (fun b=>a1M b.toNat)=true:=fun h=>by
   rw [e0Z,hc,e2I,ha];simpa using h
  have hc9:c.toNat<256:=c.toNat_lt;generalize c.toNat=c at *;refine d8X (α:=Nat) (fun n=>⟨[(0,str (sb l)),(3,i64 (i:Int)),(56,boo (!a1M c))],[],n⟩) (fun _=>True) ?_ ?_
  ·clear hcl hsn
   rcases c0W c with h|h|h|h|h|h|h|h|h|h
   ·skip
    have f1:decide ((c:Int)>=97)=true:=d9q (by omega);have f2:decide ((c:Int)<=122)=true:=d9q (by omega);have f3:decide ((c:Int)>=65)=true:=d9q (by omega);have f4:decide ((c:Int)<=90)=false:=d9p (by omega);have f5:decide ((c:Int)>=48)=true:=d9q (by omega);have f6:decide ((c:Int)<=57)=false:=d9p (by omega);have f7:((c:Int)==45)=false:=d9D.2 (by omega);have f8:((c:Int)==95)=false:=d9D.2 (by omega);have f9:((c:Int)==46)=false:=d9D.2 (by omega);have hnb:a1M c=true:=by
     unfold a1M;simp;omega
    rw [hnb];refine d8I w1 700 (by kernel_rfl) ?_;refine gwI kB ?_
    try simp only [f1,f2,f3,f4,f5,f6,f7,f8,f9]
    refine gwI kB ?_
    try simp only [f1,f2,f3,f4,f5,f6,f7,f8,f9]
    refine gwI kB ?_
    try simp only [f1,f2,f3,f4,f5,f6,f7,f8,f9]
    refine gwI kB ?_
    try simp only [f1,f2,f3,f4,f5,f6,f7,f8,f9]
    refine gwI kB ?_
    try simp only [f1,f2,f3,f4,f5,f6,f7,f8,f9]
    refine gwI kB ?_
    try simp only [f1,f2,f3,f4,f5,f6,f7,f8,f9]
    refine gwI kB ?_
    try simp only [f1,f2,f3,f4,f5,f6,f7,f8,f9]
    refine gwI kB ?_
    try simp only [f1,f2,f3,f4,f5,f6,f7,f8,f9]
    refine gwI kB ?_
    try simp only [f1,f2,f3,f4,f5,f6,f7,f8,f9]
    exact ⟨by first|exact d9j|rfl|simp,_,trivial,wkI⟩
   ·skip
    have f1:decide ((c:Int)>=97)=true:=d9q (by omega);have f2:decide ((c:Int)<=122)=false:=d9p (by omega);have f3:decide ((c:Int)>=65)=true:=d9q (by omega);have f4:decide ((c:Int)<=90)=false:=d9p (by omega);have f5:decide ((c:Int)>=48)=true:=d9q (by omega);have f6:decide ((c:Int)<=57)=false:=d9p (by omega);have f7:((c:Int)==45)=false:=d9D.2 (by omega);have f8:((c:Int)==95)=false:=d9D.2 (by omega);have f9:((c:Int)==46)=false:=d9D.2 (by omega);have hnb:a1M c=false:=by
     unfold a1M;simp;omega
    rw [hnb];refine d8I w1 700 (by kernel_rfl) ?_;refine gwI kB ?_
    try simp only [f1,f2,f3,f4,f5,f6,f7,f8,f9]
    refine gwI kB ?_
    try simp only [f1,f2,f3,f4,f5,f6,f7,f8,f9]
    refine gwI kB ?_
    try simp only [f1,f2,f3,f4,f5,f6,f7,f8,f9]
    refine gwI kB ?_
    try simp only [f1,f2,f3,f4,f5,f6,f7,f8,f9]
    refine gwI kB ?_
    try simp only [f1,f2,f3,f4,f5,f6,f7,f8,f9]
    refine gwI kB ?_
    try simp only [f1,f2,f3,f4,f5,f6,f7,f8,f9]
    refine gwI kB ?_
    try simp only [f1,f2,f3,f4,f5,f6,f7,f8,f9]
    refine gwI kB ?_
    try simp only [f1,f2,f3,f4,f5,f6,f7,f8,f9]
    refine gwI kB ?_
    try simp only [f1,f2,f3,f4,f5,f6,f7,f8,f9]
    exact ⟨by first|exact d9j|rfl|simp,_,trivial,wkI⟩
   ·skip
    have f1:decide ((c:Int)>=97)=false:=d9p (by omega);have f2:decide ((c:Int)<=122)=true:=d9q (by omega);have f3:decide ((c:Int)>=65)=true:=d9q (by omega);have f4:decide ((c:Int)<=90)=true:=d9q (by omega);have f5:decide ((c:Int)>=48)=true:=d9q (by omega);have f6:decide ((c:Int)<=57)=false:=d9p (by omega);have f7:((c:Int)==45)=false:=d9D.2 (by omega);have f8:((c:Int)==95)=false:=d9D.2 (by omega);have f9:((c:Int)==46)=false:=d9D.2 (by omega);have hnb:a1M c=true:=by
     unfold a1M;simp;omega
    rw [hnb];refine d8I w1 700 (by kernel_rfl) ?_;refine gwI kB ?_
    try simp only [f1,f2,f3,f4,f5,f6,f7,f8,f9]
    refine gwI kB ?_
    try simp only [f1,f2,f3,f4,f5,f6,f7,f8,f9]
    refine gwI kB ?_
    try simp only [f1,f2,f3,f4,f5,f6,f7,f8,f9]
    refine gwI kB ?_
    try simp only [f1,f2,f3,f4,f5,f6,f7,f8,f9]
    refine gwI kB ?_
    try simp only [f1,f2,f3,f4,f5,f6,f7,f8,f9]
    refine gwI kB ?_
    try simp only [f1,f2,f3,f4,f5,f6,f7,f8,f9]
    refine gwI kB ?_
    try simp only [f1,f2,f3,f4,f5,f6,f7,f8,f9]
    refine gwI kB ?_
    try simp only [f1,f2,f3,f4,f5,f6,f7,f8,f9]
    refine gwI kB ?_
    try simp only [f1,f2,f3,f4,f5,f6,f7,f8,f9]
    exact ⟨by first|exact d9j|rfl|simp,_,trivial,wkI⟩
   ·skip
    have f1:decide ((c:Int)>=97)=false:=d9p (by omega);have f2:decide ((c:Int)<=122)=true:=d9q (by omega);have f3:decide ((c:Int)>=65)=true:=d9q (by omega);have f4:decide ((c:Int)<=90)=false:=d9p (by omega);have f5:decide ((c:Int)>=48)=true:=d9q (by omega);have f6:decide ((c:Int)<=57)=false:=d9p (by omega);have f7:((c:Int)==45)=false:=d9D.2 (by omega);have f8:((c:Int)==95)=false:=d9D.2 (by omega);have f9:((c:Int)==46)=false:=d9D.2 (by omega);have hnb:a1M c=false:=by
     unfold a1M;simp;omega
    rw [hnb];refine d8I w1 700 (by kernel_rfl) ?_;refine gwI kB ?_
    try simp only [f1,f2,f3,f4,f5,f6,f7,f8,f9]
    refine gwI kB ?_
    try simp only [f1,f2,f3,f4,f5,f6,f7,f8,f9]
    refine gwI kB ?_
    try simp only [f1,f2,f3,f4,f5,f6,f7,f8,f9]
    refine gwI kB ?_
    try simp only [f1,f2,f3,f4,f5,f6,f7,f8,f9]
    refine gwI kB ?_
    try simp only [f1,f2,f3,f4,f5,f6,f7,f8,f9]
    refine gwI kB ?_
    try simp only [f1,f2,f3,f4,f5,f6,f7,f8,f9]
    refine gwI kB ?_
    try simp only [f1,f2,f3,f4,f5,f6,f7,f8,f9]
    refine gwI kB ?_
    try simp only [f1,f2,f3,f4,f5,f6,f7,f8,f9]
    refine gwI kB ?_
    try simp only [f1,f2,f3,f4,f5,f6,f7,f8,f9]
    exact ⟨by first|exact d9j|rfl|simp,_,trivial,wkI⟩
   ·skip
    have f1:decide ((c:Int)>=97)=false:=d9p (by omega);have f2:decide ((c:Int)<=122)=true:=d9q (by omega);have f3:decide ((c:Int)>=65)=true:=d9q (by omega);have f4:decide ((c:Int)<=90)=false:=d9p (by omega);have f5:decide ((c:Int)>=48)=true:=d9q (by omega);have f6:decide ((c:Int)<=57)=false:=d9p (by omega);have f7:((c:Int)==45)=false:=d9D.2 (by omega);have f8:((c:Int)==95)=true:=e1i.2 (by omega);have f9:((c:Int)==46)=false:=d9D.2 (by omega);have hnb:a1M c=true:=by
     unfold a1M;simp;omega
    rw [hnb];refine d8I w1 700 (by kernel_rfl) ?_;refine gwI kB ?_
    try simp only [f1,f2,f3,f4,f5,f6,f7,f8,f9]
    refine gwI kB ?_
    try simp only [f1,f2,f3,f4,f5,f6,f7,f8,f9]
    refine gwI kB ?_
    try simp only [f1,f2,f3,f4,f5,f6,f7,f8,f9]
    refine gwI kB ?_
    try simp only [f1,f2,f3,f4,f5,f6,f7,f8,f9]
    refine gwI kB ?_
    try simp only [f1,f2,f3,f4,f5,f6,f7,f8,f9]
    refine gwI kB ?_
    try simp only [f1,f2,f3,f4,f5,f6,f7,f8,f9]
    refine gwI kB ?_
    try simp only [f1,f2,f3,f4,f5,f6,f7,f8,f9]
    refine gwI kB ?_
    try simp only [f1,f2,f3,f4,f5,f6,f7,f8,f9]
    refine gwI kB ?_
    try simp only [f1,f2,f3,f4,f5,f6,f7,f8,f9]
    exact ⟨by first|exact d9j|rfl|simp,_,trivial,wkI⟩
   ·skip
    have f1:decide ((c:Int)>=97)=false:=d9p (by omega);have f2:decide ((c:Int)<=122)=true:=d9q (by omega);have f3:decide ((c:Int)>=65)=false:=d9p (by omega);have f4:decide ((c:Int)<=90)=true:=d9q (by omega);have f5:decide ((c:Int)>=48)=true:=d9q (by omega);have f6:decide ((c:Int)<=57)=false:=d9p (by omega);have f7:((c:Int)==45)=false:=d9D.2 (by omega);have f8:((c:Int)==95)=false:=d9D.2 (by omega);have f9:((c:Int)==46)=false:=d9D.2 (by omega);have hnb:a1M c=false:=by
     unfold a1M;simp;omega
    rw [hnb];refine d8I w1 700 (by kernel_rfl) ?_;refine gwI kB ?_
    try simp only [f1,f2,f3,f4,f5,f6,f7,f8,f9]
    refine gwI kB ?_
    try simp only [f1,f2,f3,f4,f5,f6,f7,f8,f9]
    refine gwI kB ?_
    try simp only [f1,f2,f3,f4,f5,f6,f7,f8,f9]
    refine gwI kB ?_
    try simp only [f1,f2,f3,f4,f5,f6,f7,f8,f9]
    refine gwI kB ?_
    try simp only [f1,f2,f3,f4,f5,f6,f7,f8,f9]
    refine gwI kB ?_
    try simp only [f1,f2,f3,f4,f5,f6,f7,f8,f9]
    refine gwI kB ?_
    try simp only [f1,f2,f3,f4,f5,f6,f7,f8,f9]
    refine gwI kB ?_
    try simp only [f1,f2,f3,f4,f5,f6,f7,f8,f9]
    refine gwI kB ?_
    try simp only [f1,f2,f3,f4,f5,f6,f7,f8,f9]
    exact ⟨by first|exact d9j|rfl|simp,_,trivial,wkI⟩
   ·skip
    have f1:decide ((c:Int)>=97)=false:=d9p (by omega);have f2:decide ((c:Int)<=122)=true:=d9q (by omega);have f3:decide ((c:Int)>=65)=false:=d9p (by omega);have f4:decide ((c:Int)<=90)=true:=d9q (by omega);have f5:decide ((c:Int)>=48)=true:=d9q (by omega);have f6:decide ((c:Int)<=57)=true:=d9q (by omega);have f7:((c:Int)==45)=false:=d9D.2 (by omega);have f8:((c:Int)==95)=false:=d9D.2 (by omega);have f9:((c:Int)==46)=false:=d9D.2 (by omega);have hnb:a1M c=true:=by
     unfold a1M;simp;omega
    rw [hnb];refine d8I w1 700 (by kernel_rfl) ?_;refine gwI kB ?_
    try simp only [f1,f2,f3,f4,f5,f6,f7,f8,f9]
    refine gwI kB ?_
    try simp only [f1,f2,f3,f4,f5,f6,f7,f8,f9]
    refine gwI kB ?_
    try simp only [f1,f2,f3,f4,f5,f6,f7,f8,f9]
    refine gwI kB ?_
    try simp only [f1,f2,f3,f4,f5,f6,f7,f8,f9]
    refine gwI kB ?_
    try simp only [f1,f2,f3,f4,f5,f6,f7,f8,f9]
    refine gwI kB ?_
    try simp only [f1,f2,f3,f4,f5,f6,f7,f8,f9]
    refine gwI kB ?_
    try simp only [f1,f2,f3,f4,f5,f6,f7,f8,f9]
    refine gwI kB ?_
    try simp only [f1,f2,f3,f4,f5,f6,f7,f8,f9]
    refine gwI kB ?_
    try simp only [f1,f2,f3,f4,f5,f6,f7,f8,f9]
    exact ⟨by first|exact d9j|rfl|simp,_,trivial,wkI⟩
   ·skip
    have f1:decide ((c:Int)>=97)=false:=d9p (by omega);have f2:decide ((c:Int)<=122)=true:=d9q (by omega);have f3:decide ((c:Int)>=65)=false:=d9p (by omega);have f4:decide ((c:Int)<=90)=true:=d9q (by omega);have f5:decide ((c:Int)>=48)=false:=d9p (by omega);have f6:decide ((c:Int)<=57)=true:=d9q (by omega);have f7:((c:Int)==45)=false:=d9D.2 (by omega);have f8:((c:Int)==95)=false:=d9D.2 (by omega);have f9:((c:Int)==46)=false:=d9D.2 (by omega);have hnb:a1M c=false:=by
     unfold a1M;simp;omega
    rw [hnb];refine d8I w1 700 (by kernel_rfl) ?_;refine gwI kB ?_
    try simp only [f1,f2,f3,f4,f5,f6,f7,f8,f9]
    refine gwI kB ?_
    try simp only [f1,f2,f3,f4,f5,f6,f7,f8,f9]
    refine gwI kB ?_
    try simp only [f1,f2,f3,f4,f5,f6,f7,f8,f9]
    refine gwI kB ?_
    try simp only [f1,f2,f3,f4,f5,f6,f7,f8,f9]
    refine gwI kB ?_
    try simp only [f1,f2,f3,f4,f5,f6,f7,f8,f9]
    refine gwI kB ?_
    try simp only [f1,f2,f3,f4,f5,f6,f7,f8,f9]
    refine gwI kB ?_
    try simp only [f1,f2,f3,f4,f5,f6,f7,f8,f9]
    refine gwI kB ?_
    try simp only [f1,f2,f3,f4,f5,f6,f7,f8,f9]
    refine gwI kB ?_
    try simp only [f1,f2,f3,f4,f5,f6,f7,f8,f9]
    exact ⟨by first|exact d9j|rfl|simp,_,trivial,wkI⟩
   ·skip
    have f1:decide ((c:Int)>=97)=false:=d9p (by omega);have f2:decide ((c:Int)<=122)=true:=d9q (by omega);have f3:decide ((c:Int)>=65)=false:=d9p (by omega);have f4:decide ((c:Int)<=90)=true:=d9q (by omega);have f5:decide ((c:Int)>=48)=false:=d9p (by omega);have f6:decide ((c:Int)<=57)=true:=d9q (by omega);have f7:((c:Int)==45)=true:=e1i.2 (by omega);have f8:((c:Int)==95)=false:=d9D.2 (by omega);have f9:((c:Int)==46)=false:=d9D.2 (by omega);have hnb:a1M c=true:=by
     unfold a1M;simp;omega
    rw [hnb];refine d8I w1 700 (by kernel_rfl) ?_;refine gwI kB ?_
    try simp only [f1,f2,f3,f4,f5,f6,f7,f8,f9]
    refine gwI kB ?_
    try simp only [f1,f2,f3,f4,f5,f6,f7,f8,f9]
    refine gwI kB ?_
    try simp only [f1,f2,f3,f4,f5,f6,f7,f8,f9]
    refine gwI kB ?_
    try simp only [f1,f2,f3,f4,f5,f6,f7,f8,f9]
    refine gwI kB ?_
    try simp only [f1,f2,f3,f4,f5,f6,f7,f8,f9]
    refine gwI kB ?_
    try simp only [f1,f2,f3,f4,f5,f6,f7,f8,f9]
    refine gwI kB ?_
    try simp only [f1,f2,f3,f4,f5,f6,f7,f8,f9]
    refine gwI kB ?_
    try simp only [f1,f2,f3,f4,f5,f6,f7,f8,f9]
    refine gwI kB ?_
    try simp only [f1,f2,f3,f4,f5,f6,f7,f8,f9]
    exact ⟨by first|exact d9j|rfl|simp,_,trivial,wkI⟩
   ·skip
    have f1:decide ((c:Int)>=97)=false:=d9p (by omega);have f2:decide ((c:Int)<=122)=true:=d9q (by omega);have f3:decide ((c:Int)>=65)=false:=d9p (by omega);have f4:decide ((c:Int)<=90)=true:=d9q (by omega);have f5:decide ((c:Int)>=48)=false:=d9p (by omega);have f6:decide ((c:Int)<=57)=true:=d9q (by omega);have f7:((c:Int)==45)=false:=d9D.2 (by omega);have f8:((c:Int)==95)=false:=d9D.2 (by omega);have f9:((c:Int)==46)=true:=e1i.2 (by omega);have hnb:a1M c=true:=by
     unfold a1M;simp;omega
    rw [hnb];refine d8I w1 700 (by kernel_rfl) ?_;refine gwI kB ?_
    try simp only [f1,f2,f3,f4,f5,f6,f7,f8,f9]
    refine gwI kB ?_
    try simp only [f1,f2,f3,f4,f5,f6,f7,f8,f9]
    refine gwI kB ?_
    try simp only [f1,f2,f3,f4,f5,f6,f7,f8,f9]
    refine gwI kB ?_
    try simp only [f1,f2,f3,f4,f5,f6,f7,f8,f9]
    refine gwI kB ?_
    try simp only [f1,f2,f3,f4,f5,f6,f7,f8,f9]
    refine gwI kB ?_
    try simp only [f1,f2,f3,f4,f5,f6,f7,f8,f9]
    refine gwI kB ?_
    try simp only [f1,f2,f3,f4,f5,f6,f7,f8,f9]
    refine gwI kB ?_
    try simp only [f1,f2,f3,f4,f5,f6,f7,f8,f9]
    refine gwI kB ?_
    try simp only [f1,f2,f3,f4,f5,f6,f7,f8,f9]
    exact ⟨by first|exact d9j|rfl|simp,_,trivial,wkI⟩
  rintro n1 -;cases hb:a1M c
  ·refine ifI ?_
   refine sR 800 ?_;refine rtI ?_;exact a0a (by rw [hcl hb]) IsPure.out
  ·refine ifI ?_
   refine skI ?_;refine d8I w1 500 (by kernel_rfl) ?_;refine nwI wi ?_;exact ⟨(i+1,_),⟨hi2,hsn hb⟩,by dsimp only;omega,wkI⟩
 ·have hi2:i=l.length:=by
   have:=d9I hlt
   omega
  subst hi2;rw [d9G (d9y _)] at ha;refine exI ?_;refine sR 900 ?_;refine rtI ?_;exact a0a (by unfold a1q;rw [ha,d9q l1,d9q l2];rfl) IsPure.out
def a2U:List Int->Int
 | []=>0
 | e::r=>if e≠0 then e else a2U r
theorem a8I {v:List Int}{i:Nat}(h:∀ (j:Nat) (e:Int),j<i->v[j]? = some e->e=0):a2U v=a2U (v.drop i):=by
 induction i generalizing v with
 | zero=>rfl
 | succ i ih =>
  cases v with
  | nil=>rfl
  | cons l r =>
   have h0:=h 0 l (Nat.succ_pos i) rfl;rw [e2f];show (if l≠0 then l else a2U r)=_;rw [d9m (fun hh=>hh h0)];exact ih fun j m hj hm=>h (j+1) m (by omega) hm
theorem a3O {a:Int}(h:a≠0):(a != 0)=true:=by
 have:(a==0)=false:=d9D.2 h
 unfold bne;rw [this];rfl
theorem a8J (v:List Int)(hl:v.length<=1000):a0b C0 51 [.sl true 1 (v.map fun e=>i64 e)] (i64 (a2U v)):=by
 refine a0c.walk w1 d1T rfl fun F=>?_
 have el:(((v.map fun e=>i64 e).length:Nat):Int)=(v.length:Int):=by rw [d9s]
 refine sR 0 ?_;refine OkS.seq ?_;refine sZ 100 ?_;refine nwI el ?_;refine OkS.block ?_;refine OkS.loop (α:=Nat × Nat) (fun p=>⟨[(5,.sl true 1 (v.map fun e=>i64 e)),(6,i64 v.length),(7,i64 (p.1:Int))],[],p.2⟩) (fun p=>v.length - p.1) (fun p=>p.1<=v.length/\∀ (j:Nat) (e:Int),j<p.1->v[j]? = some e->e=0) (0,_) ⟨d9U _,fun j l hj=>d9n hj (e0L j)⟩ wkI ?_;rintro ⟨i,n⟩ F ⟨hi,ha⟩;dsimp only at hi ha ⊢;refine sR 200 ?_;refine OkS.seq ?_;refine ifI ?_
 (refine brI (fun hlt=>?_) (fun hlt=>?_))<;>(try simp only [d9w,d9x] at hlt)<;>(try simp only [hlt])
 ·have hi2:i<v.length:=by
   have:=d9N hlt
   omega
  obtain ⟨l,hl'⟩:∃ l,v[i]? = some l:=⟨v[i],d9t hi2⟩
  have hm:(v.map fun e=>i64 e)[i]? = some (i64 l):=by rw [d9E,hl'];rfl
  have hd:a2U v=a2U (v.drop i):=a8I ha;have hdd:v.drop i=l::v.drop (i+1):=by
   rw [e0n hi2];rw [d9t hi2] at hl';rw [e1K hl']
  have wi:IntKind.i64.wrap ((i:Int)+1)=((i+1:Nat):Int):=wI (by omega) (by omega);refine skI ?_;refine OkS.seq ?_;refine OkS.block ?_;refine sZ 300 ?_;refine gwI kN ?_;refine ixI kT hm ?_;refine gwI kN ?_
  by_cases g:l=0
  ·have e5:(l != 0)=false:=by rw [g];rfl
   refine sZ 400 ?_;refine nwI e5 ?_;refine ifI ?_;refine skI ?_;refine d8I w1 600 (by kernel_rfl) ?_;refine nwI wi ?_;refine ⟨(i+1,_),⟨hi2,fun j m hj hjm=>?_⟩,by dsimp only;omega,wkI⟩;rcases d9H j i with h|h
   ·exact ha j m h hjm
   ·have:j=i:=by dsimp only at hj;omega
    subst this;rw [hl'] at hjm;cases hjm;exact g
  ·have e5:(l != 0)=true:=a3O g
   refine sZ 400 ?_;refine nwI e5 ?_;refine ifI ?_;refine sR 500 ?_;refine rtI ?_;refine a0a ?_ IsPure.out;rw [hd,hdd];show _=i64 (if l≠0 then l else a2U (v.drop (i+1)));rw [d9l g]
 ·have hi2:i=v.length:=by
   have:=d9I hlt
   omega
  subst hi2;refine exI ?_;refine sR 700 ?_;refine rtI ?_;refine a0a ?_ IsPure.out;rw [a8I ha,e0R (d9y _)];rfl
def a8V (s:ByteArray):Bool:=a1G s ⟨#[100,111,119,110]⟩||(a1G s ⟨#[117,112]⟩||(a1G s ⟨#[104,97,108,102,45,117,112]⟩||a1G s ⟨#[104,97,108,102,45,101,118,101,110]⟩))
def a3P (k st:List UInt8):Nat:=if a8V (sb k) then (if chk st≠0 then chk st else if a9y (a0e st)<=0 then 3 else 0) else 20
theorem c6v {l:List UInt8}(h:chk l=0):c3C (a0e l):=a6a (b0j h) (by decide)
theorem c0X {l:List UInt8}(h:chk l=0):a0b C0 121 [str (sb l)] (i64 (a9y (a0e l))):=by
 have:=c1i (a0e l) (c6v h)
 unfold rR at this;rw [(a2u h).2.2.1] at this;exact this
theorem c0I {a b:List UInt8}(ha:chk a=0)(hb:chk b=0):a0b C0 57 [str (sb a),str (sb b)] (i64 (a1H (a0e a) (a0e b))):=by
 have cc:=d6r (a0e a) (a0e b) 600 600 (b0j ha) (b0j hb) (by decide);unfold rR at cc;rw [(a2u ha).2.2.1,(a2u hb).2.2.1] at cc;exact cc
theorem d5O (k st:List UInt8)(h1:st.length<=100000):a0b C0 126 [.agg [str (sb k),str (sb st)]] (i64 (a3P k st)):=by
 refine a0c.walk w1 c9O rfl fun F=>?_
 have c1:=b3u st h1;refine sR 0 ?_;refine d8X (α:=Nat) (fun n=>⟨[(1,.optr 0 0 2 0 0)],[⟨0,0,70,2,[.agg [str (sb k),str (sb st)]]⟩],n⟩) (fun _=>a8V (sb k)=true) ?_ ?_
 ·unfold a3P a8V
  obtain ⟨b1,e1⟩:∃ b,a1G (sb k) ⟨#[100,111,119,110]⟩=b:=⟨_,rfl⟩
  obtain ⟨b2,e2⟩:∃ b,a1G (sb k) ⟨#[117,112]⟩=b:=⟨_,rfl⟩
  obtain ⟨b3,e3⟩:∃ b,a1G (sb k) ⟨#[104,97,108,102,45,117,112]⟩=b:=⟨_,rfl⟩
  obtain ⟨b4,e4⟩:∃ b,a1G (sb k) ⟨#[104,97,108,102,45,101,118,101,110]⟩=b:=⟨_,rfl⟩
  rw [e1,e2,e3,e4];refine OkS.seq ?_;cases b1
  ·cases b2
   ·cases b3
    ·cases b4
     ·refine d8I w1 100 (by kernel_rfl) ?_
      refine nwI (ff6 e1 e2 e3 e4 kT kF) ?_;refine gwI (ff6 e1 e2 e3 e4 kT kF) ?_;refine gwI (ff6 e1 e2 e3 e4 kT kF) ?_;refine gwI (ff6 e1 e2 e3 e4 kT kF) ?_;refine ifI ?_;refine sR 200 ?_;refine rtI ?_;exact a0a rfl IsPure.out
     ·refine d8I w1 100 (by kernel_rfl) ?_
      refine nwI (ff6 e1 e2 e3 e4 kT kF) ?_;refine gwI (ff6 e1 e2 e3 e4 kT kF) ?_;refine gwI (ff6 e1 e2 e3 e4 kT kF) ?_;refine gwI (ff6 e1 e2 e3 e4 kT kF) ?_;refine ifI ?_;refine skI ?_;exact ⟨rfl,_,rfl,wkI⟩
    ·refine d8I w1 100 (by kernel_rfl) ?_
     refine nwI (ff6 e1 e2 e3 e4 kT kF) ?_;refine gwI (ff6 e1 e2 e3 e4 kT kF) ?_;refine gwI (ff6 e1 e2 e3 e4 kT kF) ?_;refine gwI (ff6 e1 e2 e3 e4 kT kF) ?_;refine ifI ?_;refine skI ?_;exact ⟨rfl,_,rfl,wkI⟩
   ·refine d8I w1 100 (by kernel_rfl) ?_
    refine nwI (ff6 e1 e2 e3 e4 kT kF) ?_;refine gwI (ff6 e1 e2 e3 e4 kT kF) ?_;refine gwI (ff6 e1 e2 e3 e4 kT kF) ?_;refine gwI (ff6 e1 e2 e3 e4 kT kF) ?_;refine ifI ?_;refine skI ?_;exact ⟨rfl,_,rfl,wkI⟩
  ·refine d8I w1 100 (by kernel_rfl) ?_
   refine nwI (ff6 e1 e2 e3 e4 kT kF) ?_;refine gwI (ff6 e1 e2 e3 e4 kT kF) ?_;refine gwI (ff6 e1 e2 e3 e4 kT kF) ?_;refine gwI (ff6 e1 e2 e3 e4 kT kF) ?_;refine ifI ?_;refine skI ?_;exact ⟨rfl,_,rfl,wkI⟩
 rintro n0 hk;unfold a3P;rw [d9l hk];refine sR 300 ?_;refine cI c1 ?_
 by_cases g1:chk st=0
 ·have e8:(((chk st:Nat):Int)==0)=true:=by rw [g1];rfl
  have cs:=c0X g1;rw [d9m (fun h=>h g1)];refine OkS.seq ?_;refine sZ 400 ?_;refine nwI e8 ?_;refine gwI kT ?_;refine gcI kT ?_;refine a0j.same _ cs d9k ?_;refine gwI kT ?_
  by_cases g3:a9y (a0e st)<=0
  ·rw [d9q g3,d9l g3]
   refine ifI ?_;refine sR 500 ?_;refine rtI ?_;exact a0a rfl IsPure.out
  ·rw [d9p g3,d9m g3]
   refine ifI ?_;refine skI ?_;refine sR 600 ?_;refine rtI ?_;exact a0a (by rw [g1]) IsPure.out
 ·have e8:(((chk st:Nat):Int)==0)=false:=d9D.2 (by omega)
  rw [d9l g1];refine OkS.seq ?_;refine sZ 400 ?_;refine nwI e8 ?_;refine gwI kF ?_;refine ifI ?_;refine skI ?_;refine sR 600 ?_;refine rtI ?_;exact a0a rfl IsPure.out
structure a1S where
 name:List UInt8
 tol:List UInt8
 kind:List UInt8
 step:List UInt8
 deriving Inhabited
def a1S.D (f:a1S):D:=.agg [str (sb f.name),str (sb f.tol),str (sb f.kind),str (sb f.step)]
def a1S.few (f:a1S):Prop:=f.name.length<=100000/\f.tol.length<=100000/\f.kind.length<=100000/\f.step.length<=100000
instance  (f:a1S):CellsPure f.D:=by unfold a1S.D;exact d9k
instance  (f:a1S):IsPure f.D:=by unfold a1S.D;exact d9k
def a1e (f:a1S):Nat:=if a1q f.name then (if chk f.tol≠0 then chk f.tol else if a9y (a0e f.tol)<0 then 3 else a3P f.kind f.step) else 8
theorem c7O (f:a1S)(hf:f.few):a0b C0 60 [f.D] (i64 (a1e f)):=by
 refine a0c.walk w1 d4M rfl fun F=>?_
 have cn:=d3k f.name (by have:=hf.1;omega);have c1:=b3u f.tol hf.2.1;have cr:=d5O f.kind f.step hf.2.2.2;unfold a1S.D a1e;refine sR 0 ?_;refine OkS.seq ?_;refine sR 100 ?_;refine cI cn ?_;cases hn:a1q f.name
 ·rw [d9m (by decide)]
  refine ifI ?_;refine sR 200 ?_;refine rtI ?_;exact a0a rfl IsPure.out
 rw [d9l rfl];refine ifI ?_;refine skI ?_;refine sR 300 ?_;refine cI c1 ?_
 by_cases g1:chk f.tol=0
 ·have e8:(((chk f.tol:Nat):Int)==0)=true:=by rw [g1];rfl
  have cs:=c0X g1;rw [d9m (fun h=>h g1)];refine OkS.seq ?_;refine sZ 400 ?_;refine nwI e8 ?_;refine gwI kT ?_;refine gcI kT ?_;refine a0j.same _ cs d9k ?_;refine gwI kT ?_
  by_cases g3:a9y (a0e f.tol)<0
  ·rw [d9q g3,d9l g3]
   refine ifI ?_;refine rI 500 ?_;refine OkS.seq ?_;refine sR 600 ?_;refine ifI ?_;refine skI ?_;refine sR 800 ?_;refine rtI ?_;exact a0a rfl IsPure.out
  ·rw [d9p g3,d9m g3]
   refine ifI ?_;refine skI ?_;refine OkS.seq ?_;refine sZ 600 ?_;refine nwI e8 ?_;refine ifI ?_;refine rI 700 ?_;refine cI cr ?_;refine sR 800 ?_;refine rtI ?_;exact a0a rfl IsPure.out
 ·have e8:(((chk f.tol:Nat):Int)==0)=false:=d9D.2 (by omega)
  rw [d9l g1];refine OkS.seq ?_;refine sZ 400 ?_;refine nwI e8 ?_;refine gwI kF ?_;refine ifI ?_;refine skI ?_;refine OkS.seq ?_;refine sZ 600 ?_;refine nwI e8 ?_;refine ifI ?_;refine skI ?_;refine sR 800 ?_;refine rtI ?_;exact a0a rfl IsPure.out
theorem a6I (a b:List UInt8):a1G (sb a) (sb b)=decide (a=b):=by
 unfold a1G
 by_cases h:a=b
 ·subst h;simp
 ·rw [d9p h]
  apply d9D.2;intro hh;apply h;simpa [sb] using hh
theorem a2A (l:List UInt8):a1G (sb l) ⟨#[]⟩=decide (l=[]):=a6I l []
def a2x (l:List UInt8):Nat:=if l=[] then 0 else chk l
theorem a2O {l:List UInt8}(h:a2x l=0)(h0:l≠[]):chk l=0:=by
 unfold a2x at h;rw [d9m h0] at h;exact h
def a7O (a b c d:List UInt8):Bool :=
 (decide (a=[])||(!decide (c=[]) && !decide (a1H (a0e c) (a0e a)<0)))&&(decide (b=[])||(!decide (d=[])&&decide (a1H (a0e d) (a0e b)<=0)))
theorem c5O (l:List UInt8)(h:l.length<=100000):a0b C0 127 [str (sb l)] (i64 (a2x l)):=by
 refine a0c.walk w1 c9P rfl fun F=>?_
 have c1:=b3u l h;have e1:=a2A l;unfold a2x;refine sR 0 ?_;refine OkS.seq ?_
 by_cases g:l=[]
 ·rw [d9q g] at e1
  rw [d9l g];refine sZ 100 ?_;refine nwI (ff3 e1 kT kF) ?_;refine ifI ?_;refine sR 200 ?_;refine rtI ?_;exact a0a rfl IsPure.out
 ·rw [d9p g] at e1
  rw [d9m g];refine sZ 100 ?_;refine nwI (ff3 e1 kT kF) ?_;refine ifI ?_;refine skI ?_;refine sR 300 ?_;refine cI c1 ?_;refine rtI ?_;exact a0a rfl IsPure.out
theorem c0J (a b c d:List UInt8)(ha:a2x a=0)(hb:a2x b=0)(hc:a2x c=0)(hd:a2x d=0) :
  a0b C0 128 [str (sb a),str (sb b),str (sb c),str (sb d)] (boo (a7O a b c d)):=by
 refine a0c.walk w1 c9Q rfl fun F=>?_
 have ea:=a2A a;have eb:=a2A b;have ec:=a2A c;have ed:=a2A d;refine sR 0 ?_;refine d8X (α:=Nat) (fun n=>⟨[(0,str (sb a)),(1,str (sb b)),(2,str (sb c)),(3,str (sb d))],[],n⟩) (fun _=>(decide (a=[])||(!decide (c=[]) && !decide (a1H (a0e c) (a0e a)<0)))=true) ?_ ?_
 ·unfold a7O
  by_cases ga:a=[]
  ·rw [d9q ga] at ea ⊢
   refine sZ 100 ?_;refine nwI (ff4 ea eb kT kF) ?_;refine gwI kB ?_
   try simp only [ec,ed,e0s,e0o]
   refine ifI ?_;refine skI ?_;exact ⟨rfl,_,rfl,wkI⟩
  rw [d9p ga] at ea ⊢
  by_cases gc:c=[]
  ·rw [d9q gc] at ec ⊢
   refine sZ 100 ?_;refine nwI (ff4 ea eb kT kF) ?_;refine gwI kB ?_
   try simp only [ec,ed,e0s,e0o]
   refine gwI kB ?_
   try simp only [ec,ed,e0s,e0o]
   refine ifI ?_;refine sR 200 ?_;refine rtI ?_;exact a0a rfl IsPure.out
  rw [d9p gc] at ec ⊢;have cc:=c0I (a2O hc gc) (a2O ha ga);refine sZ 100 ?_;refine nwI (ff4 ea eb kT kF) ?_;refine gwI kB ?_
  try simp only [ec,ed,e0s,e0o]
  refine gwI kB ?_;refine gcI kB ?_;refine a0j.same _ cc d9k ?_;refine gwI kB ?_
  try simp only [ec,ed,e0s,e0o]
  by_cases g3:a1H (a0e c) (a0e a)<0
  ·rw [d9q g3]
   refine ifI ?_;refine sR 200 ?_;refine rtI ?_;exact a0a rfl IsPure.out
  ·rw [d9p g3]
   refine ifI ?_;refine skI ?_;exact ⟨rfl,_,rfl,wkI⟩
 rintro n0 h1;unfold a7O;rw [h1]
 by_cases gb:b=[]
 ·rw [d9q gb] at eb ⊢
  refine sZ 300 ?_;refine nwI (ff4 ea eb kT kF) ?_;refine gwI kB ?_
  try simp only [ec,ed,e0s,e0o]
  refine rtI ?_;exact a0a rfl IsPure.out
 rw [d9p gb] at eb ⊢
 by_cases gd:d=[]
 ·rw [d9q gd] at ed ⊢
  refine sZ 300 ?_;refine nwI (ff4 ea eb kT kF) ?_;refine gwI kB ?_
  try simp only [ec,ed,e0s,e0o]
  refine gwI kB ?_
  try simp only [ec,ed,e0s,e0o]
  refine rtI ?_;exact a0a rfl IsPure.out
 rw [d9p gd] at ed ⊢;have cc:=c0I (a2O hd gd) (a2O hb gb);refine sZ 300 ?_;refine nwI (ff4 ea eb kT kF) ?_;refine gwI kB ?_
 try simp only [ec,ed,e0s,e0o]
 refine gwI kB ?_;refine gcI kB ?_;refine a0j.same _ cc d9k ?_;refine gwI kB ?_
 try simp only [ec,ed,e0s,e0o]
 refine rtI ?_;exact a0a rfl IsPure.out
def a8L (f:Nat->Nat):Nat->Nat
 | 0=>0
 | n+1=>if a8L f n≠0 then a8L f n else f n
theorem a3t {f:Nat->Nat}{n:Nat}(h:∀ j,j<n->f j=0):a8L f n=0:=by
 induction n with
 | zero=>rfl
 | succ n ih =>
  have:=ih fun j hj=>h j (by omega)
  unfold a8L;rw [d9m (fun hh=>hh this)];exact h n (by omega)
theorem a6Z {f:Nat->Nat}{i n:Nat}(h:∀ j,j<i->f j=0)(hi:i<n)(h0:f i≠0):a8L f n=f i:=by
 induction n with
 | zero=>omega
 | succ n ih =>
  unfold a8L;rcases d9H i n with hlt|hge
  ·have:=ih hlt
   rw [d9l (by rw [this];exact h0),this]
  ·have:i=n:=by omega
   subst this;rw [d9m (fun hh=>hh (a3t h))]
theorem a7Z {f:Nat->Nat}{n:Nat}(h:a8L f n=0):∀ j,j<n->f j=0:=by
 induction n with
 | zero=>intro j hj;omega
 | succ n ih =>
  unfold a8L at h
  by_cases h0:a8L f n=0
  ·rw [d9m (fun hh=>hh h0)] at h
   intro j hj;rcases d9H j n with hl|hg
   ·exact ih h0 j hl
   ·have:j=n:=by omega
    subst this;exact h
  ·rw [d9l h0] at h
   exact d9n h h0
structure a1p where
 name:List UInt8
 least:List (List UInt8)
 most:List (List UInt8)
 deriving Inhabited
def a1p.D (g:a1p):D:=.agg [str (sb g.name),.sl false 1 (g.least.map fun l=>str (sb l)),.sl false 1 (g.most.map fun l=>str (sb l))]
instance  (g:a1p):CellsPure g.D:=by unfold a1p.D;exact d9k
instance  (g:a1p):IsPure g.D:=by unfold a1p.D;exact d9k
def a1p.few (g:a1p):Prop:=g.name.length<=100000/\g.least.length<=100000/\g.most.length<=100000/\(∀ l∈g.least,l.length<=100000)/\(∀ l∈g.most,l.length<=100000)
structure a1c where
 fs:List a1S
 gs:List a1p
def a1c.D (s:a1c):D:=.agg [.sl false 4 (s.fs.map a1S.D),.sl false 3 (s.gs.map a1p.D)]
instance  (s:a1c):CellsPure s.D:=by unfold a1c.D;exact d9k
instance  (s:a1c):IsPure s.D:=by unfold a1c.D;exact d9k
def a1c.few (s:a1c):Prop:=s.fs.length<=100000/\s.gs.length<=100000/\(∀ f∈s.fs,f.few)/\(∀ g∈s.gs,g.few)
def a1j (a b:List UInt8)(p:Option (List UInt8 × List UInt8)):Nat :=
 if a2x a≠0 then a2x a else if a2x b≠0 then a2x b else if a≠[]/\b≠[]/\a1H (a0e a) (a0e b)>0 then 3 else match p with
  | none=>0
  | some (c,d)=>if a7O a b c d then 0 else 11
def lv (l:List (List UInt8))(k:Nat):List UInt8:=l.getD k []
def a1T (gs:List a1p)(i k:Nat):Option (List UInt8 × List UInt8):=if i=0 then none else some (lv (gs.getD (i - 1) default).least k,lv (gs.getD (i - 1) default).most k)
def a0F (n:Nat)(gs:List a1p)(i:Nat):Nat :=
 let g:=gs.getD i default
 if a1q g.name then
  (if (gs.take i).any (fun x=>decide (x.name=g.name)) then 9
  else if g.least.length=n/\g.most.length=n then a8L (fun k=>a1j (lv g.least k) (lv g.most k) (a1T gs i k)) n
  else 2)
 else 8
def a2h (fs:List a1S)(i:Nat):Nat :=
 if a1e (fs.getD i default)≠0 then a1e (fs.getD i default) else if (fs.take i).any (fun x=>decide (x.name=(fs.getD i default).name)) then 9 else 0
def b2b (n:Nat):Nat:=if n=0 then 2 else if n>8 then 5 else 0
def b2r (n:Nat):Nat:=if n=0 then 2 else if n>16 then 5 else 0
def a0o (s:a1c):Nat :=
 if b2b s.fs.length≠0 then b2b s.fs.length
 else if a8L (a2h s.fs) s.fs.length≠0 then a8L (a2h s.fs) s.fs.length
 else if b2r s.gs.length≠0 then b2r s.gs.length
 else a8L (a0F s.fs.length s.gs) s.gs.length
def gOk (n:Nat)(g:a1p):Prop:=g.least.length=n/\g.most.length=n/\∀ k,k<n->a2x (lv g.least k)=0/\a2x (lv g.most k)=0
theorem b8r {a b:List UInt8}{p:Option (List UInt8 × List UInt8)}(h:a1j a b p=0):a2x a=0/\a2x b=0:=by
 unfold a1j at h
 by_cases ha:a2x a=0
 ·rw [d9m (fun hh=>hh ha)] at h
  by_cases hb:a2x b=0
  ·exact ⟨ha,hb⟩
  ·rw [d9l hb] at h
   exact d9n h hb
 ·rw [d9l ha] at h
  exact d9n h ha
theorem a5Q {n:Nat}{gs:List a1p}{i:Nat}(h:a0F n gs i=0):gOk n (gs.getD i default):=by
 unfold a0F at h;dsimp only at h;split at h
 ·split at h
  ·cases h
  ·split at h
   ·rename_i hh
    exact ⟨hh.1,hh.2,fun k hk=>b8r (a7Z h k hk)⟩
   ·cases h
 ·cases h
theorem a9a {l:List (List UInt8)}{k:Nat}(h:k<l.length):l[k]? = some (lv l k):=by
 unfold lv;rw [d9T,d9t h];rfl
theorem a4B {l:List (List UInt8)}{k:Nat}(h:k<l.length):(l.map fun x=>str (sb x))[k]? = some (str (sb (lv l k))):=by
 rw [d9E,a9a h];rfl
theorem a6z {l:List (List UInt8)}{k:Nat}(h:k<l.length)(hf:∀ x∈l,x.length<=100000):(lv l k).length<=100000:=hf _ (d9r (a9a h))
theorem a3S {gs:List a1p}{i:Nat}(h:i<gs.length):gs[i]? = some (gs.getD i default):=by
 rw [d9T,d9t h];rfl
theorem b5J {gs:List a1p}{i:Nat}(h:i<gs.length):(gs.map a1p.D)[i]? = some (.agg [str (sb (gs.getD i default).name),.sl false 1 ((gs.getD i default).least.map fun l=>str (sb l)),.sl false 1 ((gs.getD i default).most.map fun l=>str (sb l))]):=by
 rw [d9E,a3S h];rfl
theorem a8M {fs:List a1S}{i:Nat}(h:i<fs.length):fs[i]? = some (fs.getD i default):=by
 rw [d9T,d9t h];rfl
theorem b9x {fs:List a1S}{i:Nat}(h:i<fs.length):(fs.map a1S.D)[i]? = some (.agg [str (sb (fs.getD i default).name),str (sb (fs.getD i default).tol),str (sb (fs.getD i default).kind),str (sb (fs.getD i default).step)]):=by
 rw [d9E,a8M h];rfl
theorem b1h {α:Type}{l:List α}{p:α->Bool}{i:Nat}(h:∀ (j:Nat) (x:α),j<i->l[j]? = some x->p x=false):(l.take i).any p=false:=by
 rw [List.any_eq_false];intro x hx;obtain ⟨j,hj,e⟩:=List.mem_iff_getElem.1 hx;have hj2:j<i:=by rw [d9J] at hj;omega
 have:l[j]? = some x:=by
  rw [<- e,List.getElem_take];exact d9t _
 rw [h j x hj2 this];simp
theorem a6i {α:Type}{l:List α}{p:α->Bool}{i j:Nat}{x:α}(hj:j<i)(hx:l[j]? = some x)(h:p x=true):(l.take i).any p=true:=by
 rw [List.any_eq_true];refine ⟨x,?_,h⟩;exact d9r (i:=j) (by rw [e0K,d9l hj,hx])
theorem b3f (s:ByteArray):(a8V s=true->∃ f,a6y s (mpK a4A) (mpV a4A)=some (some (.agg [.clo (.func f) [] []])))/\(a8V s=false->a6y s (mpK a4A) (mpV a4A)=some none):=by
 unfold a8V;simp only [a4A,mpK,mpV,a6y];cases a1G s ⟨#[100,111,119,110]⟩<;>cases a1G s ⟨#[117,112]⟩<;>cases a1G s ⟨#[104,97,108,102,45,117,112]⟩<;>cases a1G s ⟨#[104,97,108,102,45,101,118,101,110]⟩<;>simp
section
attribute [local irreducible] wpQ
theorem c7U (k st:List UInt8)(h1:st.length<=100000):a0b C0 149 [.agg [str (sb k),str (sb st)]] (i64 (a3P k st)):=by
 refine a0c.walk w1 c4r rfl fun F=>?_
 have dk:a0b C0 204 [] (.mp (mpK a4A) (mpV a4A)):=b1z;have dp:IsPure (D.mp (mpK a4A) (mpV a4A)):=⟨a1a (n:=20) (by kernel_rfl)⟩
 have c1:=a6m st h1;unfold a3P;refine fR 0 ?_;cases hk:a8V (sb k)
 ·have hlk:=(b3f (sb k)).2 hk
  refine OkS.seq ?_;refine OkS.seq ?_;refine d8S w1 100 [0,1,2,3,4,5,6,7,8] [9] 8 7 [4,3,2,1,0,5,7] (by kernel_rfl) (by kernel_rfl) ?_;refine nxI ?_;refine a0q.same _ dk d9k ?_;refine c6g (b8V (s:=sb k) (a:=9) (b:=288) (z:=.agg #[.nilFunc]) (by kernel_rfl) rfl rfl hlk) ?_;dsimp only [okD];refine nxI ?_;refine nxI ?_;refine fR 200 ?_;refine ifI ?_;refine fR 300 ?_;refine rtI ?_;exact a0a rfl IsPure.out
 obtain ⟨fn,hlk⟩:=(b3f (sb k)).1 hk;rw [d9l rfl];refine OkS.seq ?_;refine OkS.seq ?_;refine d8S w1 100 [0,1,2,3,4,5,6,7,8] [9] 8 7 [4,3,2,1,0,5,7] (by kernel_rfl) (by kernel_rfl) ?_;refine nxI ?_;refine a0q.same _ dk d9k ?_;refine c6g (c2w (s:=sb k) (a:=9) (b:=288) (z:=.agg #[.nilFunc]) (by kernel_rfl) rfl rfl hlk) ?_;dsimp only [okD];refine nxI ?_;refine nxI ?_;refine fR 200 ?_;refine ifI ?_;refine skI ?_;refine OkS.seq ?_;refine fR 400 ?_;refine dI c1 ?_
 by_cases g1:chk st=0
 ·have e8:(((chk st:Nat):Int) != 0)=false:=by rw [g1];rfl
  have cf:=a7u h1 g1;have cs:=b9w (a3H g1).is;have cp:IsPure (a0p st).D:=d9k;rw [d9m (fun h=>h g1)];refine fR 500 ?_;rw [e8];refine ifI ?_;refine skI ?_;refine OkS.seq ?_;refine fR 700 ?_;refine dI cf ?_;refine dI cs ?_
  by_cases g3:a9y (a0e st)<=0
  ·rw [d9q g3,d9l g3]
   refine ifI ?_;refine fR 800 ?_;refine rtI ?_;exact a0a rfl IsPure.out
  ·rw [d9p g3,d9m g3]
   refine ifI ?_;refine skI ?_;refine fR 900 ?_;refine rtI ?_;exact a0a rfl IsPure.out
 ·have e8:(((chk st:Nat):Int) != 0)=true:=a3O (by omega)
  rw [d9l g1];refine fR 500 ?_;rw [e8];refine ifI ?_;refine fR 600 ?_;refine rtI ?_;exact a0a rfl IsPure.out
end
theorem b8Z (f:a1S)(hf:f.few):a0b C0 81 [f.D] (i64 (a1e f)):=by
 refine a0c.walk w1 d2g rfl fun F=>?_
 have cn:a0b C0 148 [str (sb f.name)] (boo (a1q f.name)):=a6t (sb f.name);have c1:=a6m f.tol hf.2.1;have cr:=c7U f.kind f.step hf.2.2.2;unfold a1S.D a1e;refine fR 0 ?_;refine OkS.seq ?_;refine fR 100 ?_;refine dI cn ?_;cases hn:a1q f.name
 ·rw [d9m (by decide)]
  refine ifI ?_;refine fR 200 ?_;refine rtI ?_;exact a0a rfl IsPure.out
 rw [d9l rfl];refine ifI ?_;refine skI ?_;refine OkS.seq ?_;refine fR 300 ?_;refine dI c1 ?_
 by_cases g1:chk f.tol=0
 ·have e8:(((chk f.tol:Nat):Int) != 0)=false:=by rw [g1];rfl
  have cf:=a7u hf.2.1 g1;have cs:=b9w (a3H g1).is;have cw:=a1O (decide (a9y (a0e f.tol)<0)) 3;have c2:a0b C0 51 [.sl true 1 [i64 (if decide (a9y (a0e f.tol)<0) then 3 else 0),i64 (a3P f.kind f.step)]] (i64 (a2U [if decide (a9y (a0e f.tol)<0) then 3 else 0,(a3P f.kind f.step:Int)])):=a8J [if decide (a9y (a0e f.tol)<0) then 3 else 0,(a3P f.kind f.step:Int)] (by simp);have cp:IsPure (a0p f.tol).D:=d9k;rw [d9m (fun h=>h g1)];refine fR 400 ?_;rw [e8];refine ifI ?_;refine skI ?_;refine OkS.seq ?_;refine d8K w1 600 [0,1,2,3,4,5,6,7] [8,9,10,11] (by kernel_rfl) ?_;refine nxI ?_;refine a0q.same _ (cf) d9k ?_;refine nxI ?_;refine a0q.same _ (cs) d9k ?_;refine nxI ?_;refine a0q.same _ (cw) d9k ?_;refine nxI ?_;refine dI cr ?_;refine dI c2 ?_;refine rtI ?_;refine a0a ?_ IsPure.out;unfold a2U a2U a2U
  by_cases g3:a9y (a0e f.tol)<0
  ·simp [g3]
  ·by_cases g4:a3P f.kind f.step=0
   ·simp [g3,g4]
   ·simp [g3,g4]
 ·have e8:(((chk f.tol:Nat):Int) != 0)=true:=a3O (by omega)
  rw [d9l g1];refine fR 400 ?_;rw [e8];refine ifI ?_;refine fR 500 ?_;refine rtI ?_;exact a0a rfl IsPure.out
def c4b {α:Type}(p:α->Bool)(l:List α):Int:=if l.any p then (l.findIdx p:Int) else -1
theorem b9e {α:Type}{p:α->Bool}{l:List α}{i:Nat}{x:α}(hx:l[i]? = some x)(h:p x=true)(ha:∀ (j:Nat) (y:α),j<i->l[j]? = some y->p y=false):c4b p l=i:=by
 unfold c4b;obtain ⟨hi,e⟩:=List.getElem?_eq_some_iff.1 hx;rw [d9l (List.any_eq_true.2 ⟨x,d9r hx,h⟩)]
 have:l.findIdx p=i:=(List.findIdx_eq hi).2 ⟨by rw [e];exact h,fun j hj=>ha j _ hj (d9t _)⟩
 rw [this]
theorem b2D {α:Type}{p:α->Bool}{l:List α}(ha:∀ (j:Nat) (y:α),j<l.length->l[j]? = some y->p y=false):c4b p l = -1:=by
 unfold c4b
 have:=b1h (l:=l) (p:=p) (i:=l.length) ha
 rw [e0S] at this;rw [this];rfl
theorem b9f {α:Type}(p:α->Bool)(l:List α):decide (c4b p l>=0)=l.any p:=by
 unfold c4b;cases l.any p
 ·rfl
 ·exact d9q (by simp)
def b1O (y x:a1p):Bool:=decide (x.name=y.name)
def a7Q (y x:a1S):Bool:=decide (x.name=y.name)
theorem d5s (x y:a1p):a0b C0 283 [x.D,.pptr y.D] (boo (b1O y x)):=by
 refine a0c.walk w1 c5m rfl fun F=>?_
 have e1:=a6I x.name y.name;unfold a1p.D b1O;refine sR 0 ?_;refine sZ 100 ?_;refine nwI e1 ?_;refine rtI ?_;exact a0a rfl IsPure.out
theorem d5r (x y:a1S):a0b C0 245 [x.D,.pptr y.D] (boo (a7Q y x)):=by
 refine a0c.walk w1 c5e rfl fun F=>?_
 have e1:=a6I x.name y.name;unfold a1S.D a7Q;refine sR 0 ?_;refine sZ 100 ?_;refine nwI e1 ?_;refine rtI ?_;exact a0a rfl IsPure.out
theorem d7i (l:List a1p)(y:a1p)(hl:l.length<=1000000):a0b C0 304 [.sl false 3 (l.map a1p.D),.clo (.func 283) [] [.pptr y.D]] (i64 (c4b (b1O y) l)):=by
 refine a0c.walk w1 c5o rfl fun F=>?_
 have el:(((l.map a1p.D).length:Nat):Int)=(l.length:Int):=by rw [d9s]
 refine sR 0 ?_;refine OkS.seq ?_;refine sZ 100 ?_;refine nwI el ?_;refine OkS.block ?_;refine OkS.loop (α:=Nat × Nat) (fun p=>⟨[(0,.sl false 3 (l.map a1p.D)),(1,.clo (.func 283) [] [.pptr y.D]),(7,i64 l.length),(8,i64 (p.1:Int))],[],p.2⟩) (fun p=>l.length - p.1) (fun p=>p.1<=l.length/\∀ (j:Nat) (x:a1p),j<p.1->l[j]? = some x->b1O y x=false) (0,_) ⟨d9U _,fun j x hj=>d9n hj (e0L j)⟩ wkI ?_;rintro ⟨i,n⟩ F ⟨hi,ha⟩;dsimp only at hi ha ⊢;refine sR 200 ?_;refine OkS.seq ?_;refine ifI ?_
 (refine brI (fun hlt=>?_) (fun hlt=>?_))<;>(try simp only [d9w,d9x] at hlt)<;>(try simp only [hlt])
 ·have hi2:i<l.length:=by
   have:=d9N hlt
   omega
  obtain ⟨x,hx⟩:∃ x,l[i]? = some x:=⟨l[i],d9t hi2⟩
  have hm:(l.map a1p.D)[i]? = some x.D:=by rw [d9E,hx];rfl
  have cn:=d5s x y;have wi:IntKind.i64.wrap ((i:Int)+1)=((i+1:Nat):Int):=wI (by omega) (by omega);unfold a1p.D at hm;unfold a1p.D at cn;refine skI ?_;refine OkS.seq ?_;refine OkS.block ?_;refine sR 300 ?_;refine sZ 400 ?_;refine gwI kN ?_;refine ixI kT hm ?_;refine gwI kN ?_;refine a0j.same _ cn d9k ?_;refine stI ?_;cases hb:b1O y x
  ·refine ifI ?_
   refine skI ?_;refine d8I w1 600 (by kernel_rfl) ?_;refine nwI wi ?_;refine ⟨(i+1,_),⟨hi2,fun j z hj hjz=>?_⟩,by dsimp only;omega,wkI⟩;rcases d9H j i with h|h
   ·exact ha j z h hjz
   ·have:j=i:=by dsimp only at hj;omega
    subst this;rw [hx] at hjz;cases hjz;exact hb
  ·refine ifI ?_
   refine sR 500 ?_;refine rtI ?_;exact a0a (by rw [b9e hx hb ha]) IsPure.out
 ·have hi2:i=l.length:=by
   have:=d9I hlt
   omega
  subst hi2;refine exI ?_;refine sR 700 ?_;refine rtI ?_;exact a0a (by rw [b2D ha]) IsPure.out
theorem d7h (l:List a1S)(y:a1S)(hl:l.length<=1000000):a0b C0 281 [.sl false 4 (l.map a1S.D),.clo (.func 245) [] [.pptr y.D]] (i64 (c4b (a7Q y) l)):=by
 refine a0c.walk w1 c5k rfl fun F=>?_
 have el:(((l.map a1S.D).length:Nat):Int)=(l.length:Int):=by rw [d9s]
 refine sR 0 ?_;refine OkS.seq ?_;refine sZ 100 ?_;refine nwI el ?_;refine OkS.block ?_;refine OkS.loop (α:=Nat × Nat) (fun p=>⟨[(0,.sl false 4 (l.map a1S.D)),(1,.clo (.func 245) [] [.pptr y.D]),(7,i64 l.length),(8,i64 (p.1:Int))],[],p.2⟩) (fun p=>l.length - p.1) (fun p=>p.1<=l.length/\∀ (j:Nat) (x:a1S),j<p.1->l[j]? = some x->a7Q y x=false) (0,_) ⟨d9U _,fun j x hj=>d9n hj (e0L j)⟩ wkI ?_;rintro ⟨i,n⟩ F ⟨hi,ha⟩;dsimp only at hi ha ⊢;refine sR 200 ?_;refine OkS.seq ?_;refine ifI ?_
 (refine brI (fun hlt=>?_) (fun hlt=>?_))<;>(try simp only [d9w,d9x] at hlt)<;>(try simp only [hlt])
 ·have hi2:i<l.length:=by
   have:=d9N hlt
   omega
  obtain ⟨x,hx⟩:∃ x,l[i]? = some x:=⟨l[i],d9t hi2⟩
  have hm:(l.map a1S.D)[i]? = some x.D:=by rw [d9E,hx];rfl
  have cn:=d5r x y;have wi:IntKind.i64.wrap ((i:Int)+1)=((i+1:Nat):Int):=wI (by omega) (by omega);unfold a1S.D at hm;unfold a1S.D at cn;refine skI ?_;refine OkS.seq ?_;refine OkS.block ?_;refine sR 300 ?_;refine sZ 400 ?_;refine gwI kN ?_;refine ixI kT hm ?_;refine gwI kN ?_;refine a0j.same _ cn d9k ?_;refine stI ?_;cases hb:a7Q y x
  ·refine ifI ?_
   refine skI ?_;refine d8I w1 600 (by kernel_rfl) ?_;refine nwI wi ?_;refine ⟨(i+1,_),⟨hi2,fun j z hj hjz=>?_⟩,by dsimp only;omega,wkI⟩;rcases d9H j i with h|h
   ·exact ha j z h hjz
   ·have:j=i:=by dsimp only at hj;omega
    subst this;rw [hx] at hjz;cases hjz;exact hb
  ·refine ifI ?_
   refine sR 500 ?_;refine rtI ?_;exact a0a (by rw [b9e hx hb ha]) IsPure.out
 ·have hi2:i=l.length:=by
   have:=d9I hlt
   omega
  subst hi2;refine exI ?_;refine sR 700 ?_;refine rtI ?_;exact a0a (by rw [b2D ha]) IsPure.out
theorem d7e (l:List a1p)(y:a1p)(hl:l.length<=1000000):a0b C0 282 [.sl false 3 (l.map a1p.D),.clo (.func 283) [] [.pptr y.D]] (boo (l.any (b1O y))):=by
 refine a0c.walk w1 c5l rfl fun F=>?_
 have c1:=d7i l y hl;have e1:=b9f (b1O y) l;refine sR 0 ?_;refine sR 100 ?_;refine cI c1 ?_
 try rw [e1]
 refine rtI ?_;exact a0a (by first|rfl|(rw [<- e1])) IsPure.out
theorem d7d (l:List a1S)(y:a1S)(hl:l.length<=1000000):a0b C0 244 [.sl false 4 (l.map a1S.D),.clo (.func 245) [] [.pptr y.D]] (boo (l.any (a7Q y))):=by
 refine a0c.walk w1 c5d rfl fun F=>?_
 have c1:=d7h l y hl;have e1:=b9f (a7Q y) l;refine sR 0 ?_;refine sR 100 ?_;refine cI c1 ?_
 try rw [e1]
 refine rtI ?_;exact a0a (by first|rfl|(rw [<- e1])) IsPure.out
set_option maxHeartbeats 4000000
def a5o (l:List UInt8):GF:=if l=[] then ⟨mkG 0,0⟩ else a0p l
abbrev c8E (l:List UInt8):List D:=[boo (decide (l=[])),i64 (a5o l).n.s,(a5o l).n.w,i64 (mkG ((a5o l).d:Int)).s,(mkG ((a5o l).d:Int)).w]
abbrev c7j (p q:Bool)(a b:List UInt8):List D:=[boo p,i64 (a5o a).n.s,(a5o a).n.w,i64 (mkG ((a5o a).d:Int)).s,(mkG ((a5o a).d:Int)).w,boo q,i64 (a5o b).n.s,(a5o b).n.w,i64 (mkG ((a5o b).d:Int)).s,(mkG ((a5o b).d:Int)).w]
theorem a7e {l:List UInt8}(h:a2x l=0)(h0:l≠[]):FR (a0e l) (a5o l) 600:=by
 unfold a5o;rw [d9m h0];exact a3H (a2O h h0)
theorem b5M {a b:List UInt8}(ha:a2x a=0)(hb:a2x b=0)(ga:a≠[])(gb:b≠[]):a0b C0 117 [(a5o a).D,(a5o b).D] (i64 (a1H (a0e a) (a0e b))) :=
 b0r (a7e ha ga) (a7e hb gb) (by decide)
instance  (l:List UInt8):IsPure (.agg (c8E l)):=d9k
theorem b0P (l:List UInt8)(hl:l.length<=100000)(h:a2x l=0):a0b C0 173 [str (sb l)] (.agg (c8E l)):=by
 refine a0c.walk w1 c4y rfl fun F=>?_
 have e1:=a2A l;refine sR 0 ?_;refine OkS.seq ?_
 by_cases g:l=[]
 ·rw [d9q g] at e1
  unfold c8E a5o;rw [d9l g,d9q g];refine sZ 100 ?_;refine nwI e1 ?_;refine ifI ?_;refine sR 200 ?_;refine rtI ?_;exact a0a rfl IsPure.out
 ·have cf:a0b C0 75 [str (sb l)] (a5o l).D:=by
   unfold a5o;rw [d9m g];exact a7u hl (a2O h g)
  rw [d9p g] at e1;unfold c8E;rw [d9p g];have cp:IsPure (a5o l).D:=d9k;dsimp only [GF.D] at cf cp;refine sZ 100 ?_;refine nwI e1 ?_;refine ifI ?_;refine skI ?_;refine sR 300 ?_;refine cI cf ?_;refine rtI ?_;exact a0a rfl IsPure.out
def c3g:Option a1p->D
 | none=>.prim (.pointer none)
 | some g=>.pptr g.D
instance  (p:Option a1p):IsPure (c3g p):=by
 cases p<;>unfold c3g<;>exact d9k
def c1Q (p:Option a1p)(k:Nat):Option (List UInt8 × List UInt8):=p.map fun g=>(lv g.least k,lv g.most k)
theorem c3R (a b:Rat):decide (a1H a b>0)=decide (a1H b a<0):=e0C.2 (by
 unfold a1H
 by_cases h1:a<b
 ·have h2:¬ b<a:=by grind
  rw [d9l h1,d9m h2,d9l h1];decide
 ·by_cases h2:b<a
  ·rw [d9m h1,d9l h2,d9l h2];decide
  ·rw [d9m h1,d9m h2,d9m h2,d9m h1])
theorem c9h (a b:Rat):(!decide (a1H a b<0))=decide (a1H b a<=0):=by
 rw [<- c3R]
 by_cases h:a1H b a>0
 ·rw [d9q h,d9p (by omega)];rfl
 ·rw [d9p h,d9q (by omega)];rfl
theorem c7k (g:a1p)(k:Nat)(p:Option a1p)(hg:g.few)(k1:k<g.least.length)(k2:k<g.most.length)
  (hp:∀ y,p=some y->y.few/\k<y.least.length/\k<y.most.length/\a2x (lv y.least k)=0/\a2x (lv y.most k)=0) :
  a0b C0 284 [g.D,i64 (k:Int),c3g p] (i64 (a1j (lv g.least k) (lv g.most k) (c1Q p k))):=by
 refine a0c.walk w1 c5n rfl fun F=>?_
 have m1:=a4B k1;have m2:=a4B k2;have f1:=a6z k1 hg.2.2.2.1;have f2:=a6z k2 hg.2.2.2.2;obtain ⟨a,ea⟩:∃ a,lv g.least k=a:=⟨_,rfl⟩
 obtain ⟨b,eb⟩:∃ b,lv g.most k=b:=⟨_,rfl⟩
 rw [ea] at m1 f1 ⊢;rw [eb] at m2 f2 ⊢;unfold a1p.D;refine sR 0 ?_;refine OkS.seq ?_;refine d8K w1 100 [0,1,2,3,4,5,6,7,8,9,10] [11] (by kernel_rfl) ?_;refine gwI kN ?_;refine ixI kT m1 ?_;refine gwI kN ?_;refine ixI kT m2 ?_;refine gwI kN ?_;refine d8X (α:=Nat) (fun n=>⟨[(1,i64 (k:Int)),(2,c3g p),(7,str (sb a)),(8,str (sb b))],[],n⟩) (fun _=>a2x a=0/\a2x b=0) ?_ ?_
 ·refine sR 200 ?_
  refine OkS.block ?_;refine d8H (α:=Nat × Nat) (fun q=>⟨[(1,i64 (k:Int)),(2,c3g p),(7,str (sb a)),(8,str (sb b)),(26,.sl true 1 [str (sb a),str (sb b)]),(27,i64 2),(28,i64 (q.1:Int))],[],q.2⟩) (fun q=>2 - q.1) (fun q F'=>F'=F/\q.1<=2/\∀ j,j<q.1->a2x (lv [a,b] j)=0) (0,_) ⟨rfl,d9U _,fun j hj=>d9n hj (e0L j)⟩ wkI ?_;rintro ⟨i,n⟩ F' ⟨rfl,hi,ha⟩;dsimp only at hi ha ⊢;refine sR 300 ?_;refine OkS.seq ?_;refine ifI ?_
  (refine brI (fun hlt=>?_) (fun hlt=>?_))<;>(try simp only [d9w,d9x] at hlt)<;>(try simp only [hlt])
  ·have hi2:i<2:=by
    have:=d9N hlt
    omega
   have hm:[str (sb a),str (sb b)][i]? = some (str (sb (lv [a,b] i))):=a4B (l:=[a,b]) hi2;have wi:IntKind.i64.wrap ((i:Int)+1)=((i+1:Nat):Int):=wI (by omega) (by omega);have hx:(lv [a,b] i).length<=100000:=a6z (l:=[a,b]) hi2 (fun x hx=>by
    simp only [d9F,e0j,or_false] at hx;rcases hx with rfl|rfl
    ·exact f1
    ·exact f2)
   have hret:a2x (lv [a,b] i)≠0->a1j a b (c1Q p k)=a2x (lv [a,b] i):=fun h=>by
    have hc:i=0\/i=1:=by omega
    unfold a1j;rcases hc with rfl|rfl
    ·exact d9l h
    ·have h0:a2x a=0:=ha 0 (by omega)
     rw [d9m (fun hh=>hh h0)];exact d9l h
   obtain ⟨x,ex⟩:∃ x,lv [a,b] i=x:=⟨_,rfl⟩
   have hnext:a2x x=0->∀ j,j<i+1->a2x (lv [a,b] j)=0:=fun h j hj=>by
    rcases d9H j i with h2|h2
    ·exact ha j h2
    ·have:j=i:=by omega
     rw [this,ex];exact h
   rw [ex] at hm hx hret;have c1:=a6m x hx;have e1:=a2A x;refine skI ?_;refine OkS.seq ?_;refine OkS.block ?_;refine sZ 400 ?_;refine gwI kN ?_;refine ixI kT hm ?_;refine gwI kN ?_
   by_cases g0:x=[]
   ·have l0:a2x x=0:=by unfold a2x;rw [d9l g0]
    rw [d9q g0] at e1;refine sZ 500 ?_;refine nwI (ff2 e1 kT) ?_;refine ifI ?_;refine skI ?_;refine d8I w1 900 (by kernel_rfl) ?_;refine nwI wi ?_;exact ⟨(i+1,_),⟨trivial,hi2,hnext l0⟩,by dsimp only;omega,wkI⟩
   ·have l0:a2x x=chk x:=by unfold a2x;rw [d9m g0]
    rw [d9p g0] at e1;refine sZ 500 ?_;refine nwI (ff2 e1 kF) ?_;refine ifI ?_;refine sR 600 ?_;refine cI c1 ?_
    by_cases g:chk x=0
    ·have e5:(((chk x:Nat):Int) != 0)=false:=by rw [g];rfl
     refine sZ 700 ?_;refine nwI e5 ?_;refine ifI ?_;refine skI ?_;refine d8I w1 900 (by kernel_rfl) ?_;refine nwI wi ?_;exact ⟨(i+1,_),⟨trivial,hi2,hnext (by rw [l0];exact g)⟩,by dsimp only;omega,wkI⟩
    ·have e5:(((chk x:Nat):Int) != 0)=true:=a3O (by omega)
     refine sZ 700 ?_;refine nwI e5 ?_;refine ifI ?_;refine sR 800 ?_;refine rtI ?_;exact a0a (by rw [hret (by rw [l0];exact g),l0]) IsPure.out
  ·have hi2:i=2:=by
    have:=d9I hlt
    omega
   subst hi2;refine exI ?_;exact ⟨rfl,_,⟨ha 0 (by omega),ha 1 (by omega)⟩,wkI⟩
 rintro n0 ⟨la,lb⟩;have ra:=b0P a f1 la;have rb:=b0P b f2 lb;obtain ⟨qa,hqa⟩:∃ q,decide (a=[])=q:=⟨_,rfl⟩
 obtain ⟨qb,hqb⟩:∃ q,decide (b=[])=q:=⟨_,rfl⟩
 dsimp only [c8E] at ra rb;rw [hqa] at ra;rw [hqb] at rb;refine sR 1000 ?_;refine cI ra ?_;refine cI rb ?_;refine d8X (α:=Nat × Nat) (fun q=>⟨[(1,i64 (k:Int)),(2,c3g p),(12,.optr 1005 q.1 10 0 0)],[⟨1005,q.1,123,10,[.agg (c7j qa qb a b)]⟩],q.2⟩) (fun _=>¬ (a≠[]/\b≠[]/\a1H (a0e a) (a0e b)>0)) ?_ ?_
 ·cases qa
  rotate_left
  ·refine sZ 1100 ?_
   refine nwI kB ?_;refine gwI kB ?_;refine gwI kB ?_;refine ifI ?_;refine skI ?_;exact ⟨rfl,(_,_),fun h=>h.1 (d9N hqa),wkI⟩
  have ga:=d9I hqa;cases qb
  rotate_left
  ·refine sZ 1100 ?_
   refine nwI kB ?_;refine gwI kB ?_;refine gwI kB ?_;refine ifI ?_;refine skI ?_;exact ⟨rfl,(_,_),fun h=>h.2.1 (d9N hqb),wkI⟩
  have gb:=d9I hqb;have cc:=b5M la lb ga gb;refine sZ 1100 ?_;refine nwI kB ?_;refine gwI kB ?_;refine gwI kB ?_;refine gcI kB ?_;refine a0j.same _ cc d9k ?_;refine gwI kB ?_
  by_cases g3:a1H (a0e a) (a0e b)>0
  ·rw [d9q g3]
   refine ifI ?_;refine sR 1200 ?_;refine rtI ?_;refine a0a ?_ IsPure.out;unfold a1j;rw [d9m (fun h=>h la),d9m (fun h=>h lb),d9l ⟨ga,gb,g3⟩];rfl
  ·rw [d9p g3]
   refine ifI ?_;refine skI ?_;exact ⟨rfl,(_,_),fun h=>g3 h.2.2,wkI⟩
 rintro ⟨h0,n1⟩ hcmp;have hck:a1j a b (c1Q p k)=match c1Q p k with|none=>0|some (c,d)=>if a7O a b c d then 0 else 11:=by
  unfold a1j;rw [d9m (fun h=>h la),d9m (fun h=>h lb),d9m hcmp]
  all_goals (cases c1Q p k<;>rfl)
 rw [hck];cases p with
 | none =>
  dsimp only [c3g,c1Q,Option.map];refine OkS.seq ?_;refine sR 1300 ?_;refine ifI ?_;refine sR 1400 ?_;refine rtI ?_;exact a0a rfl IsPure.out
 | some y =>
  obtain ⟨yf,y1,y2,lc,ld⟩:=hp y rfl;have m3:=a4B y1;have m4:=a4B y2;have f3:=a6z y1 yf.2.2.2.1;have f4:=a6z y2 yf.2.2.2.2;dsimp only [c3g,c1Q,Option.map];obtain ⟨c,ec⟩:∃ c,lv y.least k=c:=⟨_,rfl⟩
  obtain ⟨d,ed⟩:∃ d,lv y.most k=d:=⟨_,rfl⟩
  rw [ec] at m3 f3 lc ⊢;rw [ed] at m4 f4 ld ⊢;have rc:=b0P c f3 lc;have rd:=b0P d f4 ld;obtain ⟨qc,hqc⟩:∃ q,decide (c=[])=q:=⟨_,rfl⟩
  obtain ⟨qd,hqd⟩:∃ q,decide (d=[])=q:=⟨_,rfl⟩
  have hord:a7O a b c d=((qa||(!qc && !decide (a1H (a0e a) (a0e c)>0)))&&(qb||(!qd && !decide (a1H (a0e b) (a0e d)<0)))):=by
   unfold a7O;rw [hqa,hqb,hqc,hqd,c3R (a0e a) (a0e c),c9h (a0e b) (a0e d)]
  dsimp only [c8E] at rc rd;rw [hqc] at rc;rw [hqd] at rd;unfold a1p.D;refine OkS.seq ?_;refine sR 1300 ?_;refine ifI ?_;refine skI ?_;refine OkS.seq ?_;refine d8K w1 1500 [0,1,2,3,4,5,6,7,8,9,10,11,12,13,14,15,16,17] [18] (by kernel_rfl) ?_;refine gwI kN ?_;refine ixI kT m3 ?_;refine gwI kN ?_;refine a0q.same _ rc d9k ?_;refine gwI kN ?_;refine ixI kT m4 ?_;refine gwI kN ?_;refine a0q.same _ rd d9k ?_;refine gwI kN ?_;refine OkS.seq ?_;cases qa
  rotate_left
  ·skip
   cases qb
   rotate_left
   ·refine sZ 1600 ?_
    refine nwI kB ?_;refine gwI kB ?_;refine gwI kB ?_;refine ifI ?_;refine skI ?_;refine sR 1800 ?_;refine rtI ?_;exact a0a (by rw [hord];simp []) IsPure.out
   have gb:=d9I hqb;cases qd
   rotate_left
   ·refine sZ 1600 ?_
    refine nwI kB ?_;refine gwI kB ?_;refine gwI kB ?_;refine gwI kB ?_;refine ifI ?_;refine sR 1700 ?_;refine rtI ?_;exact a0a (by rw [hord];simp []) IsPure.out
   have gd:=d9I hqd;have cc2:=b5M lb ld gb gd;refine sZ 1600 ?_;refine nwI kB ?_;refine gwI kB ?_;refine gwI kB ?_;refine gwI kB ?_;refine gcI kB ?_;refine a0j.same _ cc2 d9k ?_;refine gwI kB ?_;refine gwI kB ?_
   by_cases g4:a1H (a0e b) (a0e d)<0
   ·rw [d9q g4]
    refine ifI ?_;refine sR 1700 ?_;refine rtI ?_;exact a0a (by rw [hord];simp [g4]) IsPure.out
   ·rw [d9p g4]
    refine ifI ?_;refine skI ?_;refine sR 1800 ?_;refine rtI ?_;exact a0a (by rw [hord];simp [g4]) IsPure.out
  have ga:=d9I hqa;cases qc
  rotate_left
  ·refine sZ 1600 ?_
   refine nwI kB ?_;refine gwI kB ?_;refine gwI kB ?_;refine ifI ?_;refine sR 1700 ?_;refine rtI ?_;exact a0a (by rw [hord];simp) IsPure.out
  have gc:=d9I hqc;have cc:=b5M la lc ga gc;refine sZ 1600 ?_;refine nwI kB ?_;refine gwI kB ?_;refine gwI kB ?_;refine gcI kB ?_;refine a0j.same _ cc d9k ?_;refine gwI kB ?_
  by_cases g3:a1H (a0e a) (a0e c)>0
  ·rw [d9q g3]
   refine gwI kB ?_;refine gwI kB ?_;refine ifI ?_;refine sR 1700 ?_;refine rtI ?_;exact a0a (by rw [hord];simp [g3]) IsPure.out
  ·rw [d9p g3]
   cases qb
   rotate_left
   ·skip
    refine gwI kB ?_;refine gwI kB ?_;refine ifI ?_;refine skI ?_;refine sR 1800 ?_;refine rtI ?_;exact a0a (by rw [hord];simp [g3]) IsPure.out
   have gb:=d9I hqb;cases qd
   rotate_left
   ·skip
    refine gwI kB ?_;refine gwI kB ?_;refine gwI kB ?_;refine ifI ?_;refine sR 1700 ?_;refine rtI ?_;exact a0a (by rw [hord];simp [g3]) IsPure.out
   have gd:=d9I hqd;have cc2:=b5M lb ld gb gd;refine gwI kB ?_;refine gwI kB ?_;refine gwI kB ?_;refine gcI kB ?_;refine a0j.same _ cc2 d9k ?_;refine gwI kB ?_;refine gwI kB ?_
   by_cases g4:a1H (a0e b) (a0e d)<0
   ·rw [d9q g4]
    refine ifI ?_;refine sR 1700 ?_;refine rtI ?_;exact a0a (by rw [hord];simp [g3,g4]) IsPure.out
   ·rw [d9p g4]
    refine ifI ?_;refine skI ?_;refine sR 1800 ?_;refine rtI ?_;exact a0a (by rw [hord];simp [g3,g4]) IsPure.out
theorem b7Z (l:List a1p)(g:a1p):l.any (b1O g)=l.any (fun x=>decide (x.name=g.name)):=rfl
def b1I (gs:List a1p)(i:Nat):Option a1p:=if i=0 then none else some (gs.getD (i - 1) default)
theorem b4I (gs:List a1p)(i k:Nat):c1Q (b1I gs i) k=a1T gs i k:=by
 unfold c1Q b1I a1T
 by_cases h:i=0
 ·rw [d9l h,d9l h];rfl
 ·rw [d9m h,d9m h];rfl
theorem d2V (s:a1c)(i:Nat)(hs:s.few)(hi:i<s.gs.length)(hp:0<i->gOk s.fs.length (s.gs.getD (i - 1) default)) :
  a0b C0 246 [s.D,i64 (i:Int)] (i64 (a0F s.fs.length s.gs i)):=by
 refine a0c.walk w1 c5f rfl fun F=>?_
 have hm:=b5J hi;have hgf:=hs.2.2.2 _ (d9r (a3S hi));have hmp:0<i->(s.gs.map a1p.D)[i - 1]? = some (s.gs.getD (i - 1) default).D:=fun h=>by
  rw [d9E,a3S (by omega)];rfl
 have hpf:0<i->(s.gs.getD (i - 1) default).few:=fun h=>hs.2.2.2 _ (d9r (a3S (by omega)))
 have hpre:∀ k,c1Q (b1I s.gs i) k=a1T s.gs i k:=b4I s.gs i;have hprev:∀ y,b1I s.gs i=some y->y=s.gs.getD (i - 1) default/\0<i:=fun y h=>by
  unfold b1I at h
  by_cases h0:i=0
  ·rw [d9l h0] at h;cases h
  ·rw [d9m h0] at h;cases h;exact ⟨rfl,by omega⟩
 have el1:(((s.fs.map a1S.D).length:Nat):Int)=(s.fs.length:Int):=by rw [d9s]
 have ls:=hs.1;have lg:=hs.2.1;have hcg:∀ g,s.gs.getD i default=g->a0F s.fs.length s.gs i=if a1q g.name then
  (if (s.gs.take i).any (fun x=>decide (x.name=g.name)) then 9
  else if g.least.length=s.fs.length/\g.most.length=s.fs.length then a8L (fun k=>a1j (lv g.least k) (lv g.most k) (a1T s.gs i k)) s.fs.length
  else 2)
 else 8:=fun g h=>by unfold a0F;rw [h]
 obtain ⟨g,hg⟩:∃ g,s.gs.getD i default=g:=⟨_,rfl⟩
 rw [hcg g hg];rw [hg] at hm hgf;have cn:a0b C0 148 [str (sb g.name)] (boo (a1q g.name)):=a6t (sb g.name);have ca:a0b C0 282 [.sl false 3 ((s.gs.map a1p.D).take i),.clo (.func 283) [] [.pptr g.D]] (boo ((s.gs.take i).any (b1O g))):=by
  have:=d7e (s.gs.take i) g (by rw [d9J];omega)
  rw [e2C] at this;exact this
 rw [b7Z] at ca;obtain ⟨n,hn⟩:∃ n,s.fs.length=n:=⟨_,rfl⟩
 rw [hn] at el1 hp ls ⊢;obtain ⟨fsD,hfsD⟩:∃ x,s.fs.map a1S.D=x:=⟨_,rfl⟩
 obtain ⟨gsD,hgsD⟩:∃ x,s.gs.map a1p.D=x:=⟨_,rfl⟩
 have pf:IsPure (.sl false 4 fsD):=by rw [<- hfsD];exact d9k
 have pg:IsPure (.sl false 3 gsD):=by rw [<- hgsD];exact d9k
 have pgt:IsPure (.sl false 3 (gsD.take i)):=by
  rw [<- hgsD,<- e2C];exact d9k
 have gl:gsD.length=s.gs.length:=by rw [<- hgsD,d9s]
 unfold a1c.D;rw [hfsD,hgsD];rw [hfsD] at el1;rw [hgsD] at hm hmp ca;unfold a1p.D at ca;refine sR 0 ?_;refine sZ 100 ?_;refine gwI kN ?_;refine ixI kT hm ?_;refine gwI kN ?_;refine OkS.seq ?_;refine sR 200 ?_;refine cI cn ?_;cases hnm:a1q g.name
 ·rw [d9m (by decide)]
  refine ifI ?_;refine sR 300 ?_;refine rtI ?_;exact a0a rfl IsPure.out
 rw [d9l rfl];refine ifI ?_;refine skI ?_;refine OkS.seq ?_;refine sZ 400 ?_;refine gwI kN ?_;simp only [Nat.sub_zero,e1c];refine a0j.own _ (d9h ca rfl (d3I (FzS.refl _ _) (.clo1 (.ptr rfl rfl rfl rfl))) d9k (.prim _)) ?_;rintro d H2 n2 ⟨rfl,rfl,rfl⟩;refine stI ?_;cases hany:(s.gs.take i).any (fun x=>decide (x.name=g.name))
 rotate_left
 ·rw [d9l rfl]
  refine ifI ?_;refine sR 500 ?_;refine rtI ?_;exact a0a rfl IsPure.out
 rw [d9m (by decide)];refine ifI ?_;refine skI ?_;have el2:(((g.least.map fun l=>str (sb l)).length:Nat):Int)=(g.least.length:Int):=by rw [d9s]
 have el3:(((g.most.map fun l=>str (sb l)).length:Nat):Int)=(g.most.length:Int):=by rw [d9s]
 by_cases h1:g.least.length=n
 rotate_left
 ·have e3:(((g.least.length:Nat):Int) != ((n:Nat):Int))=true:=by
   have:(((g.least.length:Nat):Int)==((n:Nat):Int))=false:=d9D.2 (by omega)
   unfold bne;rw [this];rfl
  rw [d9m (fun h=>h1 h.1)];refine OkS.seq ?_;refine sZ 600 ?_;refine nwI (ff5 el1 el2 e3 kT kF) ?_;refine gwI kB ?_;refine ifI ?_;refine sR 700 ?_;refine rtI ?_;exact a0a rfl IsPure.out
 have e3:(((g.least.length:Nat):Int) != ((n:Nat):Int))=false:=by rw [h1];simp
 by_cases h2:g.most.length=n
 rotate_left
 ·have e4:(((g.most.length:Nat):Int) != ((n:Nat):Int))=true:=by
   have:(((g.most.length:Nat):Int)==((n:Nat):Int))=false:=d9D.2 (by omega)
   unfold bne;rw [this];rfl
  rw [d9m (fun h=>h2 h.2)];refine OkS.seq ?_;refine sZ 600 ?_;refine nwI (ff5 el1 el2 e3 kT kF) ?_;refine gwI kB ?_;simp only [el1,el3,e4];refine ifI ?_;refine sR 700 ?_;refine rtI ?_;exact a0a rfl IsPure.out
 have e4:(((g.most.length:Nat):Int) != ((n:Nat):Int))=false:=by rw [h2];simp
 rw [d9l ⟨h1,h2⟩];refine OkS.seq ?_;refine sZ 600 ?_;refine nwI (ff5 el1 el2 e3 kT kF) ?_;refine gwI kB ?_;simp only [el1,el3,e4];refine ifI ?_;refine skI ?_;refine sR 800 ?_;obtain ⟨P,hP⟩:∃ P,c3g (b1I s.gs i)=P:=⟨_,rfl⟩
 have pP:IsPure P:=by rw [<- hP];exact d9k
 refine d8X (α:=Nat) (fun m=>⟨[(2,.optr 0 0 2 0 0),(5,.optr 105 7 3 0 0),(6,P)],[⟨105,7,67,3,[.agg [str (sb g.name),.sl false 1 (g.least.map fun l=>str (sb l)),.sl false 1 (g.most.map fun l=>str (sb l))]]⟩,⟨0,0,25,2,[.agg [.sl false 4 fsD,.sl false 3 gsD]]⟩],m⟩) (fun _=>True) ?_ ?_
 ·by_cases h0:i=0
  ·have e5:decide ((i:Int)>0)=false:=d9p (by omega)
   have:P=.prim (.pointer none):=by rw [<- hP];unfold b1I;rw [d9l h0];rfl
   subst this;refine sZ 900 ?_;refine nwI e5 ?_;refine ifI ?_;refine skI ?_;exact ⟨rfl,_,trivial,wkI⟩
  ·have e5:decide ((i:Int)>0)=true:=d9q (by omega)
   have:P=.pptr (s.gs.getD (i - 1) default).D:=by rw [<- hP];unfold b1I;rw [d9m h0];rfl
   subst this;have ws:IntKind.i64.wrap ((i:Int) - 1)=((i - 1:Nat):Int):=by
    rw [show (i:Int) - 1=((i - 1:Nat):Int) by omega];exact wI (by omega) (by omega)
   have hm1:=hmp (by omega);refine sZ 900 ?_;refine nwI e5 ?_;refine ifI ?_;refine d8I w1 1000 (by kernel_rfl) ?_;refine gwI (ff2 ws kN) ?_
   try simp only [ws]
   refine ixI kT hm1 ?_;refine gwI (ff2 ws kN) ?_;exact ⟨trivial,_,trivial,wkI⟩
 rintro n3 -;refine OkS.seq ?_;refine sZ 1100 ?_;refine nwI el1 ?_;refine OkS.block ?_;refine OkS.loop (α:=Nat × Nat) (fun q=>⟨[(5,.optr 105 7 3 0 0),(6,P),(49,i64 (n:Int)),(50,i64 (q.1:Int))],[⟨105,7,67,3,[.agg [str (sb g.name),.sl false 1 (g.least.map fun l=>str (sb l)),.sl false 1 (g.most.map fun l=>str (sb l))]]⟩],q.2⟩) (fun q=>n - q.1) (fun q=>q.1<=n/\∀ j,j<q.1->a1j (lv g.least j) (lv g.most j) (a1T s.gs i j)=0) (0,_) ⟨d9U _,fun j hj=>d9n hj (e0L j)⟩ wkI ?_;rintro ⟨k,m⟩ F ⟨hk,ha⟩;dsimp only at hk ha ⊢;refine sR 1200 ?_;refine OkS.seq ?_;refine ifI ?_
 (refine brI (fun hlt=>?_) (fun hlt=>?_))<;>(try simp only [d9w,d9x] at hlt)<;>(try simp only [hlt])
 ·have hk2:k<n:=by
   have:=d9N hlt
   omega
  have wi:IntKind.i64.wrap ((k:Int)+1)=((k+1:Nat):Int):=wI (by omega) (by omega);have cl:=c7k g k (b1I s.gs i) hgf (by omega) (by omega) (fun y hy=>by
   obtain ⟨rfl,hi0⟩:=hprev y hy;obtain ⟨q1,q2,q3⟩:=hp hi0
   have:=q3 k hk2
   exact ⟨hpf hi0,by omega,by omega,this.1,this.2⟩)
  rw [hP,hpre k] at cl;unfold a1p.D at cl;obtain ⟨c,hc⟩:∃ c,a1j (lv g.least k) (lv g.most k) (a1T s.gs i k)=c:=⟨_,rfl⟩
  rw [hc] at cl;refine skI ?_;refine OkS.seq ?_;refine OkS.block ?_;refine sR 1300 ?_;refine sR 1400 ?_;refine cI cl ?_
  by_cases g1:c=0
  ·have e5:(((c:Nat):Int) != 0)=false:=by rw [g1];rfl
   refine sZ 1500 ?_;refine nwI e5 ?_;refine ifI ?_;refine skI ?_;refine d8I w1 1700 (by kernel_rfl) ?_;refine nwI wi ?_;refine ⟨(k+1,_),⟨hk2,fun j hj=>?_⟩,by dsimp only;omega,wkI⟩;rcases d9H j k with h|h
   ·exact ha j h
   ·have:j=k:=by dsimp only at hj;omega
    rw [this,hc];exact g1
  ·have e5:(((c:Nat):Int) != 0)=true:=a3O (by omega)
   refine sZ 1500 ?_;refine nwI e5 ?_;refine ifI ?_;refine sR 1600 ?_;refine rtI ?_;refine a0a ?_ IsPure.out;rw [a6Z (f:=fun k=>a1j (lv g.least k) (lv g.most k) (a1T s.gs i k)) ha hk2 (by show a1j (lv g.least k) (lv g.most k) (a1T s.gs i k)≠0;rw [hc];exact g1)]
   try dsimp only
   rw [hc]
 ·have hk2:k=n:=by
   have:=d9I hlt
   omega
  subst hk2;refine exI ?_;refine sR 1800 ?_;refine rtI ?_;exact a0a (by rw [a3t ha];rfl) IsPure.out
def d5Z (N:Hp):Prop:=N=[]\/∃ g es,N=[⟨303,g,72,4,es⟩]
def d3C (e:Int)(Ha Hb:Hp)(j:Option Code)(H':Hp):Prop:=(e=0->j=none/\H'=Ha)/\(e≠0->j=some .ret/\H'=Hb)
theorem b6G (n:Nat):a2U [if ((n:Int)==0) then 2 else 0,if decide ((n:Int)>8) then 5 else 0]=((b2b n:Nat):Int):=by
 unfold b2b
 by_cases h:n=0
 ·subst h;decide
 ·have e1:((n:Int)==0)=false:=d9D.2 (by omega)
  rw [e1,d9m h]
  by_cases h2:n>8
  ·have e2:decide ((n:Int)>8)=true:=d9q (by omega)
   rw [e2,d9l h2];rfl
  ·have e2:decide ((n:Int)>8)=false:=d9p (by omega)
   rw [e2,d9m h2];rfl
theorem b6H (n:Nat):a2U [if ((n:Int)==0) then 2 else 0,if decide ((n:Int)>16) then 5 else 0]=((b2r n:Nat):Int):=by
 unfold b2r
 by_cases h:n=0
 ·subst h;decide
 ·have e1:((n:Int)==0)=false:=d9D.2 (by omega)
  rw [e1,d9m h]
  by_cases h2:n>16
  ·have e2:decide ((n:Int)>16)=true:=d9q (by omega)
   rw [e2,d9l h2];rfl
  ·have e2:decide ((n:Int)>16)=false:=d9p (by omega)
   rw [e2,d9m h2];rfl
theorem b2n (fs:List a1S)(i:Nat):a2U [(a1e (fs.getD i default):Int),if (fs.take i).any (a7Q (fs.getD i default)) then 9 else 0]=((a2h fs i:Nat):Int):=by
 unfold a2h
 have:(fs.take i).any (a7Q (fs.getD i default))=(fs.take i).any (fun x=>decide (x.name=(fs.getD i default).name)):=rfl
 rw [this]
 by_cases h:a1e (fs.getD i default)=0
 ·rw [h]
  cases (fs.take i).any (fun x=>decide (x.name=(fs.getD i default).name))<;>simp [a2U]
 ·rw [d9l h]
  show (if (a1e (fs.getD i default):Int)≠0 then _ else _)=_;rw [d9l (by omega)]
theorem d2y {E:a3a}{l:Nat}{R:LR}(hE:a3a.ok E)(s:a1c)(hs:s.few)(H0:Hp)(H1:Int->Hp)(n0:Nat)
  (hY:∀ (e:Int) (N:Hp) (n:Nat),d5Z N->b0b C0 E l R [i64 e] (N++H0) n (fun j H' n'=>d3C e (N++H0) (N++H1 e) j H')) :
  a6f C0 E 243 [.clo (.yield l) [] [],.pptr s.D] l R H0 n0 (fun j d H' n'=>d3C (a0o s:Int) H0 (H1 (a0o s:Int)) j H'):=by
 refine a6f.walk w1 hE b9v rfl fun B F hR=>?_
 have hsc:a0o s=if b2b s.fs.length≠0 then b2b s.fs.length
  else if a8L (a2h s.fs) s.fs.length≠0 then a8L (a2h s.fs) s.fs.length
  else if b2r s.gs.length≠0 then b2r s.gs.length
  else a8L (a0F s.fs.length s.gs) s.gs.length:=rfl
 have hpg:∀ i,i<s.gs.length->(∀ j,j<i->a0F s.fs.length s.gs j=0)->a0b C0 246 [s.D,i64 (i:Int)] (i64 (a0F s.fs.length s.gs i)):=fun i hi ha=>d2V s i hs hi (fun h=>a5Q (ha (i - 1) (by omega)))
 have fl:(s.fs.map a1S.D).length=s.fs.length:=d9s _;have gl:(s.gs.map a1p.D).length=s.gs.length:=d9s _;have ls:=hs.1;have lg:=hs.2.1;have hmf:∀ i,i<s.fs.length->(s.fs.map a1S.D)[((i:Nat):Int).toNat]? = some (.agg [str (sb (s.fs.getD i default).name),str (sb (s.fs.getD i default).tol),str (sb (s.fs.getD i default).kind),str (sb (s.fs.getD i default).step)]):=fun i hi=>by
  rw [e1W];exact b9x hi
 have hcf:∀ i,i<s.fs.length->a0b C0 81 [.agg [str (sb (s.fs.getD i default).name),str (sb (s.fs.getD i default).tol),str (sb (s.fs.getD i default).kind),str (sb (s.fs.getD i default).step)]] (i64 (a1e (s.fs.getD i default))):=fun i hi=>b8Z _ (hs.2.2.1 _ (d9r (a8M hi)))
 have hca:∀ i,i<s.fs.length->a0b C0 244 [.sl false 4 ((s.fs.map a1S.D).take i),.clo (.func 245) [] [.pptr (.agg [str (sb (s.fs.getD i default).name),str (sb (s.fs.getD i default).tol),str (sb (s.fs.getD i default).kind),str (sb (s.fs.getD i default).step)])]] (boo ((s.fs.take i).any (a7Q (s.fs.getD i default)))):=fun i hi=>by
  have:=d7d (s.fs.take i) (s.fs.getD i default) (by rw [d9J];omega)
  rw [e2C] at this;exact this
 have hc2:∀ i,a0b C0 51 [.sl true 1 [i64 (a1e (s.fs.getD i default)),i64 (if (s.fs.take i).any (a7Q (s.fs.getD i default)) then 9 else 0)]] (i64 (a2h s.fs i)):=fun i=>by
  have:=a8J [(a1e (s.fs.getD i default):Int),if (s.fs.take i).any (a7Q (s.fs.getD i default)) then 9 else 0] (by simp)
  rw [b2n] at this;exact this
 have c0:a0b C0 51 [.sl true 1 [i64 (if (((s.fs.map a1S.D).length:Int)==0) then 2 else 0),i64 (if decide (((s.fs.map a1S.D).length:Int)>8) then 5 else 0)]] (i64 (b2b s.fs.length)):=by
  have:=a8J [if (((s.fs.map a1S.D).length:Int)==0) then 2 else 0,if decide (((s.fs.map a1S.D).length:Int)>8) then 5 else 0] (by simp)
  rw [b6G,fl] at this;rw [fl];exact this
 have c7:a0b C0 51 [.sl true 1 [i64 (if (((s.gs.map a1p.D).length:Int)==0) then 2 else 0),i64 (if decide (((s.gs.map a1p.D).length:Int)>16) then 5 else 0)]] (i64 (b2r s.gs.length)):=by
  have:=a8J [if (((s.gs.map a1p.D).length:Int)==0) then 2 else 0,if decide (((s.gs.map a1p.D).length:Int)>16) then 5 else 0] (by simp)
  rw [b6H,gl] at this;rw [gl];exact this
 obtain ⟨v,hv⟩:∃ v,a0o s=v:=⟨_,rfl⟩
 rw [hv] at hsc ⊢;unfold a1c.D at hpg;unfold a1c.D;obtain ⟨fsD,hfsD⟩:∃ x,s.fs.map a1S.D=x:=⟨_,rfl⟩
 obtain ⟨gsD,hgsD⟩:∃ x,s.gs.map a1p.D=x:=⟨_,rfl⟩
 have pf:IsPure (.sl false 4 fsD):=by rw [<- hfsD];exact d9k
 have pg:IsPure (.sl false 3 gsD):=by rw [<- hgsD];exact d9k
 have pft:∀ i,IsPure (.sl false 4 (fsD.take i)):=fun i=>by
  rw [<- hfsD,<- e2C];exact d9k
 have pp:IsPure (.pptr (.agg [.sl false 4 fsD,.sl false 3 gsD])):=by
  rw [<- hfsD,<- hgsD];exact d9k
 rw [hfsD] at fl hmf hca c0 hpg ⊢;rw [hgsD] at gl c7 hpg ⊢;refine OkS.seq ?_;refine OkS.seq ?_;refine d8M w1 0 [0,1,2,3,4,5,6,7,8,9,10,11,12] [] 13 [14] (b1i [(14,[13,0,12,11,10,5,4,3,2,1,9,8,7,6]),(13,[0,12,11,10,5,4,3,2,1,9,8,7,6]),(12,[11,10,5,4,3,2,1,9,8,7,6]),(11,[5,10,4,3,2,1,9,8,7,6]),(10,[9,5,8,7,6,4,3,2,1]),(9,[8,7,6]),(8,[7,6]),(7,[6]),(6,[]),(5,[4,3,2,1]),(4,[3,2,1]),(3,[2,1]),(2,[1]),(1,[]),(0,[])] (by kernel_rfl)) hR ?_;refine nxI ?_;refine a0q.same _ (a1O _ 2) d9k ?_;refine nxI ?_;refine a0q.same _ (a1O _ 5) d9k ?_;refine nxI ?_;refine a0q.same _ (c0) d9k ?_;refine nxI ?_;refine ⟨rfl,_,hY _ [] _ (.inl rfl),?_,?_⟩
 rotate_left
 ·rintro c H' n1 hO F2 hst
  have hne:((b2b s.fs.length:Nat):Int)≠0:=fun h=>by have:=(hO.1 h).1;cases this
  obtain ⟨hc,rfl⟩:=hO.2 hne;cases hc;have hv2:v=b2b s.fs.length:=by rw [hsc,d9l (by omega)]
  rw [<- hv2] at hne ⊢;refine nxI ?_;refine ifI ?_;refine OkS.weak ⟨[],H1 ((v:Nat):Int),_⟩ wkI ?_;refine OkS.ret ?_;exact ⟨_,hst,trivial,⟨fun h=>d9n h hne,fun _=>⟨rfl,rfl⟩⟩⟩
 rintro H' n1 hO;have hz:b2b s.fs.length=0:=d9L fun h=>by have:=(hO.2 (by omega)).1;cases this
 obtain ⟨_,hh⟩:=hO.1 (by omega);rw [hh];rw [d9m (fun h=>h hz)] at hsc;dsimp only [List.nil_append];refine nxI ?_;refine ifI ?_;refine skI ?_;refine OkS.seq ?_;refine fR 100 ?_;refine OkS.block ?_;rw [fl];refine d8H (α:=Nat × Nat) (fun p=>⟨[(0,.clo (.yield l) [] []),(1,.pptr (.agg [.sl false 4 fsD,.sl false 3 gsD])),(23,.sl false 4 fsD),(24,i64 (s.fs.length:Int)),(25,i64 (p.1:Int))],H0,p.2⟩) (fun p=>s.fs.length - p.1)
  (fun p F=>a7L C0 E B F l R/\p.1<=s.fs.length/\∀ j,j<p.1->a2h s.fs j=0) (0,_) ⟨hR,d9U _,fun j hj=>d9n hj (e0L j)⟩ wkI ?_
 clear hR;rintro ⟨i,m⟩ F ⟨hR,hi,ha⟩;dsimp only at hi hR ha ⊢;refine fR 200 ?_;refine OkS.seq ?_;refine ifI ?_
 (refine brI (fun hlt=>?_) (fun hlt=>?_))<;>(try simp only [d9w,d9x] at hlt)<;>(try simp only [hlt])
 ·have hi2:i<s.fs.length:=by
   have:=d9N hlt
   omega
  have hi3:i<fsD.length:=by omega
  have hm:=hmf i hi2;have cf:=hcf i hi2;have ca:=hca i hi2;have c2:=hc2 i;obtain ⟨e,he⟩:∃ e,a2h s.fs i=e:=⟨_,rfl⟩
  rw [he] at c2;have hve:e≠0->v=e:=fun h=>by
   have:=a6Z (f:=a2h s.fs) ha hi2 (by rw [he];exact h)
   rw [he] at this;rw [this,d9l h] at hsc;exact hsc
  have wi:IntKind.i64.wrap ((i:Int)+1)=((i+1:Nat):Int):=wI (by omega) (by omega);refine skI ?_;refine OkS.seq ?_;refine OkS.block ?_;refine fR 300 ?_;refine ⟨⟨rfl,by omega⟩,_,hm,?_⟩;refine dsI ?_
  try dsimp only [D.cells,spot]
  refine nxI ?_;refine fR 400 ?_;simp only [e1W,Nat.sub_zero,e1c];refine a0j.own _ (d9h ca rfl (d3I (FzS.refl _ _) (.clo1 (.ptr rfl rfl rfl rfl))) d9k (.prim _)) ?_;rintro d H2 n2 ⟨rfl,rfl,rfl⟩;refine nxI ?_;refine OkS.seq ?_;refine d8T w1 500 [0,1,2,3,4,5,6] 7 [8] rfl (by kernel_rfl) hR ?_;refine nxI ?_;refine a0j.same _ cf d9k ?_;refine nxI ?_;refine dI (a1O _ 9) ?_;refine dI c2 ?_;refine ⟨rfl,_,hY _ [_] _ (.inr ⟨_,_,rfl⟩),?_,?_⟩
  rotate_left
  ·rintro c H' n1 hO F2 hst
   have hne:((e:Nat):Int)≠0:=fun h=>by have:=(hO.1 h).1;cases this
   obtain ⟨hc,rfl⟩:=hO.2 hne;cases hc;have hv2:v=e:=hve (by omega);subst hv2;refine nxI ?_;refine ifI ?_;refine OkS.weak ⟨[],H1 ((v:Nat):Int),_⟩ wkI ?_;refine OkS.ret ?_;exact ⟨_,hst,trivial,⟨fun h=>d9n h hne,fun _=>⟨rfl,rfl⟩⟩⟩
  rintro H' n1 hO;have hz:e=0:=d9L fun h=>by have:=(hO.2 (by omega)).1;cases this
  obtain ⟨_,hh⟩:=hO.1 (by omega);rw [hh];refine nxI ?_;refine ifI ?_;refine skI ?_;refine d8I w1 600 (by kernel_rfl) ?_;refine mwI wi ?_;refine ⟨(i+1,_),⟨hR,hi2,fun j hj=>?_⟩,(by dsimp only;omega),wkI⟩;rcases d9H j i with h|h
  ·exact ha j h
  ·have:j=i:=by dsimp only at hj;omega
   rw [this,he];exact hz
 have hi2:i=s.fs.length:=by
  have:=d9I hlt
  omega
 subst hi2;rw [a3t ha,d9m (by decide)] at hsc;refine exI ?_;refine OkS.seq ?_;refine OkS.seq ?_;refine d8M w1 700 [0,1,2,3,4,5,6,7,8,9,10,11,12] [] 13 [14] (b1i [(14,[13,0,12,11,10,5,4,3,2,1,9,8,7,6]),(13,[0,12,11,10,5,4,3,2,1,9,8,7,6]),(12,[11,10,5,4,3,2,1,9,8,7,6]),(11,[5,10,4,3,2,1,9,8,7,6]),(10,[9,5,8,7,6,4,3,2,1]),(9,[8,7,6]),(8,[7,6]),(7,[6]),(6,[]),(5,[4,3,2,1]),(4,[3,2,1]),(3,[2,1]),(2,[1]),(1,[]),(0,[])] (by kernel_rfl)) hR ?_;refine nxI ?_;refine a0q.same _ (a1O _ 2) d9k ?_;refine nxI ?_;refine a0q.same _ (a1O _ 5) d9k ?_;refine nxI ?_;refine a0q.same _ (c7) d9k ?_;refine nxI ?_;refine ⟨rfl,_,hY _ [] _ (.inl rfl),?_,?_⟩
 rotate_left
 ·rintro c H' n1 hO F2 hst
  have hne:((b2r s.gs.length:Nat):Int)≠0:=fun h=>by have:=(hO.1 h).1;cases this
  obtain ⟨hc,rfl⟩:=hO.2 hne;cases hc;have hv2:v=b2r s.gs.length:=by rw [hsc,d9l (by omega)]
  rw [<- hv2] at hne ⊢;refine nxI ?_;refine ifI ?_;refine OkS.weak ⟨[],H1 ((v:Nat):Int),_⟩ wkI ?_;refine OkS.ret ?_;exact ⟨_,hst,trivial,⟨fun h=>d9n h hne,fun _=>⟨rfl,rfl⟩⟩⟩
 rintro H' n1 hO;have hz:b2r s.gs.length=0:=d9L fun h=>by have:=(hO.2 (by omega)).1;cases this
 obtain ⟨_,hh⟩:=hO.1 (by omega);rw [hh];rw [d9m (fun h=>h hz)] at hsc;dsimp only [List.nil_append];refine nxI ?_;refine ifI ?_;refine skI ?_;refine fR 800 ?_;refine OkS.block ?_;rw [gl];refine d8H (α:=Nat × Nat) (fun p=>⟨[(0,.clo (.yield l) [] []),(1,.pptr (.agg [.sl false 4 fsD,.sl false 3 gsD])),(63,i64 (s.gs.length:Int)),(64,i64 (p.1:Int))],H0,p.2⟩) (fun p=>s.gs.length - p.1)
  (fun p F=>a7L C0 E B F l R/\p.1<=s.gs.length/\∀ j,j<p.1->a0F s.fs.length s.gs j=0) (0,_) ⟨hR,d9U _,fun j hj=>d9n hj (e0L j)⟩ wkI ?_
 clear hR ha;rintro ⟨i,m⟩ F ⟨hR,hi,ha⟩;dsimp only at hi hR ha ⊢;refine fR 900 ?_;refine OkS.seq ?_;refine ifI ?_
 (refine brI (fun hlt=>?_) (fun hlt=>?_))<;>(try simp only [d9w,d9x] at hlt)<;>(try simp only [hlt])
 ·have hi2:i<s.gs.length:=by
   have:=d9N hlt
   omega
  have cg:=hpg i hi2 ha;obtain ⟨e,he⟩:∃ e,a0F s.fs.length s.gs i=e:=⟨_,rfl⟩
  rw [he] at cg;have hve:e≠0->v=e:=fun h=>by
   have:=a6Z (f:=a0F s.fs.length s.gs) ha hi2 (by rw [he];exact h)
   rw [he] at this;rw [this] at hsc;exact hsc
  have wi:IntKind.i64.wrap ((i:Int)+1)=((i+1:Nat):Int):=wI (by omega) (by omega);refine skI ?_;refine OkS.seq ?_;refine OkS.block ?_;refine fR 1000 ?_;refine OkS.seq ?_;refine d8T w1 1100 [0,1,2,3] 4 [5] rfl (by kernel_rfl) hR ?_;refine nxI ?_;refine a0j.same _ cg d9k ?_;refine nxI ?_;refine ⟨rfl,_,hY _ [] _ (.inl rfl),?_,?_⟩
  rotate_left
  ·rintro c H' n1 hO F2 hst
   have hne:((e:Nat):Int)≠0:=fun h=>by have:=(hO.1 h).1;cases this
   obtain ⟨hc,rfl⟩:=hO.2 hne;cases hc;have hv2:v=e:=hve (by omega);subst hv2;refine nxI ?_;refine ifI ?_;refine OkS.weak ⟨[],H1 ((v:Nat):Int),_⟩ wkI ?_;refine OkS.ret ?_;exact ⟨_,hst,trivial,⟨fun h=>d9n h hne,fun _=>⟨rfl,rfl⟩⟩⟩
  rintro H' n1 hO;have hz:e=0:=d9L fun h=>by have:=(hO.2 (by omega)).1;cases this
  obtain ⟨_,hh⟩:=hO.1 (by omega);rw [hh];dsimp only [List.nil_append];refine nxI ?_;refine ifI ?_;refine skI ?_;refine d8I w1 1200 (by kernel_rfl) ?_;refine mwI wi ?_;refine ⟨(i+1,_),⟨hR,hi2,fun j hj=>?_⟩,(by dsimp only;omega),wkI⟩;rcases d9H j i with h|h
  ·exact ha j h
  ·have:j=i:=by dsimp only at hj;omega
   rw [this,he];exact hz
 have hi2:i=s.gs.length:=by
  have:=d9I hlt
  omega
 subst hi2;rw [a3t ha] at hsc;refine exI ?_;exact ⟨none,hR.stat,trivial,⟨fun _=>⟨rfl,rfl⟩,fun h=>d9n hsc (by omega)⟩⟩
theorem c6z (s:a1c):a0b C0 215 [s.D] (.clo (.func 243) [] [.pptr s.D]):=by
 refine d9c w1 b9u rfl fun F=>?_
 have hp:a2n (.clo (.func 243) [] [.pptr s.D]):=(d9k:IsPure (.clo (.func 243) [] [.pptr s.D])).out;unfold a1c.D at hp ⊢;refine fR 0 ?_;refine fR 100 ?_;refine rtI ?_;exact ⟨_,.clo1 (.ptr rfl rfl rfl rfl),hp,rfl⟩
abbrev b4e (e:Int):Ent:=⟨1,1,32,1,[i64 e]⟩
abbrev d4a (s:a1c):Ent:=⟨0,0,25,2,[s.D]⟩
theorem d7l (s:a1c)(hs:s.few):a0b C0 172 [s.D] (i64 (a0o s)):=by
 refine a0c.walk w1 b9p rfl fun F=>?_
 have cc:=c6z s;have hit:=fun {E:a3a} {l:Nat} {R:LR} (hE:a3a.ok E) (n0:Nat)=>d2y (E:=E) (l:=l) (R:=R) hE s hs [b4e 0,d4a s] (fun e=>[b4e e,d4a s]) n0
 obtain ⟨c,hc⟩:∃ c,a0o s=c:=⟨_,rfl⟩
 rw [hc];unfold d4a at hit;rw [hc] at hit;have pS:IsPure s.D:=d9k;have sD:∃ a b,s.D=.agg [a,b]:=⟨_,_,rfl⟩
 obtain ⟨d,hd⟩:∃ d,s.D=d:=⟨_,rfl⟩
 rw [hd] at cc hit pS sD ⊢;obtain ⟨a,b,rfl⟩:=sD;clear hd;refine sR 0 ?_;refine OkS.seq ?_;refine sR 100 ?_;refine cI cc ?_;refine OkS.block ?_;refine OkS.rangeFunc (fi:=243) (first:=[]) (captured:=[.pptr (.agg [a,b])]) (Ψ:=fun j d H' n'=>d3C (c:Int) [b4e 0,⟨0,0,25,2,[.agg [a,b]]⟩] [b4e c,⟨0,0,25,2,[.agg [a,b]]⟩] j H') rfl
  (fun ds H n Φ=>∃ e N,d5Z N/\ds=[i64 e]/\H=N++[b4e 0,⟨0,0,25,2,[.agg [a,b]]⟩]/\Φ=fun j H' n'=>d3C e (N++[b4e 0,⟨0,0,25,2,[.agg [a,b]]⟩]) (N++[b4e e,⟨0,0,25,2,[.agg [a,b]]⟩]) j H') ?_
  (fun E l R hE hY=>hit hE _ (fun e N n hN=>hY _ _ _ _ ⟨e,N,hN,rfl,rfl,rfl⟩)) ?_
 ·rintro l ds H n Φ ⟨e,N,hN,rfl,rfl,rfl⟩
  refine ⟨rfl,fun F=>?_⟩;refine d8I w1 200 (by kernel_rfl) ?_;refine stI ?_;refine ⟨rfl,rfl,fun F'=>?_⟩;refine OkS.block ?_
  by_cases he:e=0
  ·subst he
   refine sR 300 ?_;refine ifI ?_;refine skI ?_;exact ⟨fun _=>⟨rfl,rfl⟩,fun h=>d9n rfl h⟩
  ·have e1:(e != 0)=true:=a3O he
   rcases hN with rfl|⟨g,es,rfl⟩
   ·dsimp only [List.nil_append]
    refine sZ 300 ?_;refine nwI e1 ?_;refine ifI ?_;refine sR 400 ?_;refine OkS.ret ?_;exact ⟨fun h=>d9n h he,fun _=>⟨rfl,rfl⟩⟩
   ·dsimp only [List.cons_append,List.nil_append]
    refine sZ 300 ?_;refine nwI e1 ?_;refine ifI ?_;refine sR 400 ?_;refine OkS.ret ?_;exact ⟨fun h=>d9n h he,fun _=>⟨rfl,rfl⟩⟩
 ·rintro j d H' n' F' hO
  by_cases h:(c:Int)=0
  ·obtain ⟨rfl,rfl⟩:=hO.1 h
   dsimp only [c9p];refine sR 500 ?_;refine rtI ?_;exact a0a (by rw [show c=0 by omega];rfl) IsPure.out
  ·obtain ⟨rfl,rfl⟩:=hO.2 h
   dsimp only [c9p];refine And.intro sdI ?_;refine dsI ?_;exact a0a rfl IsPure.out
def a4F (a b:List UInt8):Nat:=if a2x a≠0 then a2x a else a2x b
def a3D (a b:List UInt8):Nat:=if a4F a b=0/\a≠[]/\b≠[]/\a1H (a0e a) (a0e b)>0 then 3 else a4F a b
theorem a7c {a b:List UInt8}(h:a4F a b=0):a2x a=0/\a2x b=0:=by
 unfold a4F at h
 by_cases g:a2x a=0
 ·rw [d9m (fun k=>k g)] at h;exact ⟨g,h⟩
 ·rw [d9l g] at h;exact d9n h g
theorem a7d {a b:List UInt8}(h:a3D a b=0):a4F a b=0:=by
 unfold a3D at h;split at h
 ·cases h
 ·exact h
theorem b8q {a b:List UInt8}{p:Option (List UInt8 × List UInt8)}(h:a3D a b≠0):a1j a b p=a3D a b:=by
 unfold a1j;unfold a3D a4F at h ⊢
 by_cases g:a2x a=0
 ·simp only [g,ne_eq,not_true_eq_false,if_false] at h ⊢
  by_cases g2:a2x b=0
  ·simp only [g2,not_true_eq_false,if_false,true_and] at h ⊢
   by_cases g3:a≠[]/\b≠[]/\a1H (a0e a) (a0e b)>0
   ·rw [d9l g3,d9l g3]
   ·rw [d9m g3] at h;exact d9n rfl h
  ·simp only [g2,e0A,if_true,false_and,if_false]
 ·simp only [g,ne_eq,e0A,if_true,false_and,if_false]
theorem c2c {a b:List UInt8}{p:Option (List UInt8 × List UInt8)}(h:a3D a b=0):a1j a b p=match p with
  | none=>0
  | some (c,d)=>if a7O a b c d then 0 else 11:=by
 obtain ⟨h1,h2⟩:=a7c (a7d h);unfold a1j;rw [d9m (fun k=>k h1),d9m (fun k=>k h2)]
 have:¬ (a≠[]/\b≠[]/\a1H (a0e a) (a0e b)>0):=fun g=>by
  unfold a3D at h;rw [d9l ⟨a7d (by unfold a3D;exact h),g⟩] at h;cases h
 rw [d9m this]
 all_goals (cases p<;>rfl)
theorem b5h {α:Type}{l:List α}{p:α->Bool}{k:Nat}{x:α}(hx:l[k]? = some x)(h:(l.take k).any p=false)(hp:p x=false):(l.take (k+1)).any p=false:=by
 rw [e0Z,hx,List.any_append,h];simp [hp]
theorem d3h (s:a1c)(i:Nat)(hs:s.few)(hi:i<s.gs.length)(hp:0<i->gOk s.fs.length (s.gs.getD (i - 1) default)) :
  a0b C0 61 [s.D,i64 (i:Int)] (i64 (a0F s.fs.length s.gs i)):=by
 refine a0c.walk w1 d4N rfl fun F=>?_
 have hm:=b5J hi;have hgm:∀ k,k<s.gs.length->(s.gs.map a1p.D)[k]? = some (.agg [str (sb (s.gs.getD k default).name),.sl false 1 ((s.gs.getD k default).least.map fun l=>str (sb l)),.sl false 1 ((s.gs.getD k default).most.map fun l=>str (sb l))]):=fun k hk=>b5J hk
 have hgs:∀ k,k<s.gs.length->s.gs[k]? = some (s.gs.getD k default):=fun k hk=>a3S hk
 have hgf:=hs.2.2.2 _ (d9r (a3S hi));have hpf:0<i->(s.gs.getD (i - 1) default).few:=fun h=>hs.2.2.2 _ (d9r (a3S (by omega)))
 have el1:(((s.fs.map a1S.D).length:Nat):Int)=(s.fs.length:Int):=by rw [d9s]
 have ls:=hs.1;have lg:=hs.2.1;have hcg:∀ g,s.gs.getD i default=g->a0F s.fs.length s.gs i=if a1q g.name then
  (if (s.gs.take i).any (fun x=>decide (x.name=g.name)) then 9
  else if g.least.length=s.fs.length/\g.most.length=s.fs.length then a8L (fun k=>a1j (lv g.least k) (lv g.most k) (a1T s.gs i k)) s.fs.length
  else 2)
 else 8:=fun g h=>by unfold a0F;rw [h]
 obtain ⟨g,hg⟩:∃ g,s.gs.getD i default=g:=⟨_,rfl⟩
 rw [hcg g hg];rw [hg] at hm hgf;have cn:a0b C0 125 [str (sb g.name)] (boo (a1q g.name)):=d3k g.name (by have:=hgf.1;omega);obtain ⟨n,hn⟩:∃ n,s.fs.length=n:=⟨_,rfl⟩
 rw [hn] at el1 hp ls ⊢;obtain ⟨fsD,hfsD⟩:∃ x,s.fs.map a1S.D=x:=⟨_,rfl⟩
 obtain ⟨gsD,hgsD⟩:∃ x,s.gs.map a1p.D=x:=⟨_,rfl⟩
 have pf:IsPure (.sl false 4 fsD):=by rw [<- hfsD];exact d9k
 have pg:IsPure (.sl false 3 gsD):=by rw [<- hgsD];exact d9k
 have gl:gsD.length=s.gs.length:=by rw [<- hgsD,d9s]
 unfold a1c.D;rw [hfsD,hgsD];rw [hfsD] at el1;rw [hgsD] at hm hgm;refine sR 0 ?_;refine sZ 100 ?_;refine gwI kN ?_;refine ixI kT hm ?_;refine gwI kN ?_;refine OkS.seq ?_;refine sR 200 ?_;refine cI cn ?_;cases hnm:a1q g.name
 ·rw [d9m (by decide)]
  refine ifI ?_;refine sR 300 ?_;refine rtI ?_;exact a0a rfl IsPure.out
 rw [d9l rfl];refine ifI ?_;refine skI ?_;refine OkS.seq ?_;refine sR 400 ?_;refine OkS.block ?_;refine OkS.loop (α:=Nat × Nat) (fun q=>⟨[(1,i64 (i:Int)),(2,.optr 0 0 2 0 0),(5,.optr 105 7 3 0 0),(6,i64 (q.1:Int))],[⟨105,7,67,3,[.agg [str (sb g.name),.sl false 1 (g.least.map fun l=>str (sb l)),.sl false 1 (g.most.map fun l=>str (sb l))]]⟩,⟨0,0,25,2,[.agg [.sl false 4 fsD,.sl false 3 gsD]]⟩],q.2⟩) (fun q=>i - q.1) (fun q=>q.1<=i/\(s.gs.take q.1).any (fun x=>decide (x.name=g.name))=false) (0,_) ⟨d9U _,rfl⟩ wkI ?_;rintro ⟨k,m⟩ F ⟨hk,ha⟩;dsimp only at hk ha ⊢;refine OkS.seq ?_;refine sR 500 ?_;refine ifI ?_
 (refine brI (fun hlt=>?_) (fun hlt=>?_))<;>(try simp only [d9w,d9x] at hlt)<;>(try simp only [hlt])
 ·have hk2:k<i:=by
   have:=d9N hlt
   omega
  have hmk:=hgm k (by omega);have hsk:=hgs k (by omega);have wi:IntKind.i64.wrap ((k:Int)+1)=((k+1:Nat):Int):=wI (by omega) (by omega);obtain ⟨y,hy⟩:∃ y,s.gs.getD k default=y:=⟨_,rfl⟩
  rw [hy] at hmk hsk;have es:=a6I y.name g.name;refine skI ?_;refine OkS.seq ?_;refine OkS.block ?_;refine OkS.seq ?_;refine d8K w1 700 [0,1,2,3,4,5,6,7] [8] (by kernel_rfl) ?_;refine gwI kN ?_;refine ixI kT hmk ?_;refine gwI kN ?_
  by_cases hn2:y.name=g.name
  ·rw [d9q hn2] at es
   have hany:(s.gs.take i).any (fun x=>decide (x.name=g.name))=true:=a6i hk2 hsk (d9q hn2);rw [d9l hany]
   try simp only [es]
   refine ifI ?_;refine sR 800 ?_;refine rtI ?_;exact a0a rfl IsPure.out
  ·rw [d9p hn2] at es
   try simp only [es]
   refine ifI ?_;refine skI ?_;refine d8I w1 600 (by kernel_rfl) ?_;refine nwI wi ?_;exact ⟨(k+1,_),⟨hk2,b5h hsk ha (d9p hn2)⟩,by dsimp only;omega,wkI⟩
 have hk2:k=i:=by
  have:=d9I hlt
  omega
 subst hk2;rw [d9m (by rw [ha];decide)];refine exI ?_;have el2:(((g.least.map fun l=>str (sb l)).length:Nat):Int)=(g.least.length:Int):=by rw [d9s]
 have el3:(((g.most.map fun l=>str (sb l)).length:Nat):Int)=(g.most.length:Int):=by rw [d9s]
 by_cases h1:g.least.length=n
 rotate_left
 ·have e3:(((g.least.length:Nat):Int) != ((n:Nat):Int))=true:=by
   have:(((g.least.length:Nat):Int)==((n:Nat):Int))=false:=d9D.2 (by omega)
   unfold bne;rw [this];rfl
  rw [d9m (fun h=>h1 h.1)];refine OkS.seq ?_;refine sZ 900 ?_;refine nwI (ff5 el1 el2 e3 kT kF) ?_;refine gwI kB ?_;refine ifI ?_;refine sR 1000 ?_;refine rtI ?_;exact a0a rfl IsPure.out
 have e3:(((g.least.length:Nat):Int) != ((n:Nat):Int))=false:=by rw [h1];simp
 by_cases h2:g.most.length=n
 rotate_left
 ·have e4:(((g.most.length:Nat):Int) != ((n:Nat):Int))=true:=by
   have:(((g.most.length:Nat):Int)==((n:Nat):Int))=false:=d9D.2 (by omega)
   unfold bne;rw [this];rfl
  rw [d9m (fun h=>h2 h.2)];refine OkS.seq ?_;refine sZ 900 ?_;refine nwI (ff5 el1 el2 e3 kT kF) ?_;refine gwI kB ?_;simp only [el1,el3,e4];refine ifI ?_;refine sR 1000 ?_;refine rtI ?_;exact a0a rfl IsPure.out
 have e4:(((g.most.length:Nat):Int) != ((n:Nat):Int))=false:=by rw [h2];simp
 rw [d9l ⟨h1,h2⟩];refine OkS.seq ?_;refine sZ 900 ?_;refine nwI (ff5 el1 el2 e3 kT kF) ?_;refine gwI kB ?_;simp only [el1,el3,e4];refine ifI ?_;refine skI ?_;refine OkS.seq ?_;refine sR 1100 ?_;refine OkS.block ?_;refine OkS.loop (α:=Nat × Nat) (fun q=>⟨[(1,i64 (k:Int)),(2,.optr 0 0 2 0 0),(5,.optr 105 7 3 0 0),(7,i64 (q.1:Int))],[⟨105,7,67,3,[.agg [str (sb g.name),.sl false 1 (g.least.map fun l=>str (sb l)),.sl false 1 (g.most.map fun l=>str (sb l))]]⟩,⟨0,0,25,2,[.agg [.sl false 4 fsD,.sl false 3 gsD]]⟩],q.2⟩) (fun q=>n - q.1) (fun q=>q.1<=n/\∀ j,j<q.1->a1j (lv g.least j) (lv g.most j) (a1T s.gs k j)=0) (0,_) ⟨d9U _,fun j hj=>d9n hj (e0L j)⟩ wkI ?_;clear ha;rintro ⟨j,m⟩ F ⟨hj,ha⟩;dsimp only at hj ha ⊢;refine OkS.seq ?_;refine sZ 1200 ?_;refine nwI el1 ?_;refine ifI ?_
 (refine brI (fun hlt=>?_) (fun hlt=>?_))<;>(try simp only [d9w,d9x] at hlt)<;>(try simp only [hlt])
 rotate_left
 ·have hj2:j=n:=by
   have:=d9I hlt
   omega
  subst hj2;refine exI ?_;refine sR 2300 ?_;refine rtI ?_;exact a0a (by rw [a3t ha];rfl) IsPure.out
 have hj2:j<n:=by
  have:=d9N hlt
  omega
 have wi:IntKind.i64.wrap ((j:Int)+1)=((j+1:Nat):Int):=wI (by omega) (by omega);have m1:=a4B (l:=g.least) (k:=j) (by omega);have m2:=a4B (l:=g.most) (k:=j) (by omega);have f1:=a6z (l:=g.least) (k:=j) (by omega) hgf.2.2.2.1;have f2:=a6z (l:=g.most) (k:=j) (by omega) hgf.2.2.2.2;have hfst:a1j (lv g.least j) (lv g.most j) (a1T s.gs k j)≠0->a8L (fun j=>a1j (lv g.least j) (lv g.most j) (a1T s.gs k j)) n=a1j (lv g.least j) (lv g.most j) (a1T s.gs k j):=fun h=>a6Z (f:=fun j=>a1j (lv g.least j) (lv g.most j) (a1T s.gs k j)) ha hj2 h
 have hnext:a1j (lv g.least j) (lv g.most j) (a1T s.gs k j)=0->∀ x,x<j+1->a1j (lv g.least x) (lv g.most x) (a1T s.gs k x)=0:=fun h x hx=>by
  rcases d9H x j with hx2|hx2
  ·exact ha x hx2
  ·have:x=j:=by omega
   rw [this];exact h
 obtain ⟨a,ea⟩:∃ a,lv g.least j=a:=⟨_,rfl⟩
 obtain ⟨b,eb⟩:∃ b,lv g.most j=b:=⟨_,rfl⟩
 rw [ea] at m1 f1;rw [eb] at m2 f2;rw [ea,eb] at hfst hnext;have sa:=a2A a;have sb':=a2A b;have ca:=c5O a f1;have cb:=c5O b f2;obtain ⟨P,hP⟩:∃ P,a1T s.gs k j=P:=⟨_,rfl⟩
 rw [hP] at hfst hnext;refine skI ?_;refine OkS.seq ?_;refine OkS.block ?_;refine sZ 1400 ?_;refine gwI kN ?_;refine ixI kT m1 ?_;refine gwI kN ?_;refine cI ca ?_;refine d8X (α:=Nat) (fun m=>⟨[(1,i64 (k:Int)),(2,.optr 0 0 2 0 0),(5,.optr 105 7 3 0 0),(7,i64 (j:Int)),(8,i64 ((a4F a b:Nat):Int))],[⟨105,7,67,3,[.agg [str (sb g.name),.sl false 1 (g.least.map fun l=>str (sb l)),.sl false 1 (g.most.map fun l=>str (sb l))]]⟩,⟨0,0,25,2,[.agg [.sl false 4 fsD,.sl false 3 gsD]]⟩],m⟩) (fun _=>True) ?_ ?_
 ·by_cases g1:a2x a=0
  ·have e5:(((a2x a:Nat):Int)==0)=true:=by rw [g1];rfl
   have e6:a4F a b=a2x b:=by unfold a4F;rw [d9m (fun h=>h g1)]
   rw [e6];refine sZ 1500 ?_;refine nwI e5 ?_;refine ifI ?_;refine d8I w1 1600 (by kernel_rfl) ?_;refine gwI kN ?_;refine ixI kT m2 ?_;refine gwI kN ?_;refine cI cb ?_;exact ⟨by trivial,_,trivial,wkI⟩
  ·have e5:(((a2x a:Nat):Int)==0)=false:=d9D.2 (by omega)
   have e6:a4F a b=a2x a:=by unfold a4F;rw [d9l g1]
   rw [e6];refine sZ 1500 ?_;refine nwI e5 ?_;refine ifI ?_;refine skI ?_;exact ⟨rfl,_,trivial,wkI⟩
 rintro m2' -;refine d8X (α:=Nat) (fun m=>⟨[(1,i64 (k:Int)),(2,.optr 0 0 2 0 0),(5,.optr 105 7 3 0 0),(7,i64 (j:Int)),(8,i64 ((a3D a b:Nat):Int))],[⟨105,7,67,3,[.agg [str (sb g.name),.sl false 1 (g.least.map fun l=>str (sb l)),.sl false 1 (g.most.map fun l=>str (sb l))]]⟩,⟨0,0,25,2,[.agg [.sl false 4 fsD,.sl false 3 gsD]]⟩],m⟩) (fun _=>True) ?_ ?_
 ·by_cases g1:a4F a b=0
  rotate_left
  ·have e5:(((a4F a b:Nat):Int)==0)=false:=d9D.2 (by omega)
   have e6:a3D a b=a4F a b:=by unfold a3D;rw [d9m (fun h=>g1 h.1)]
   rw [e6];refine OkS.seq ?_;refine d8K w1 1700 [0,1,2,3,4,5,6,7,8,9,10,11,12,13,14,15,16,17,18,19,20,21,22,23,24,25,26,27,28] [29,30,31] (by kernel_rfl) ?_;refine nwI (ff3 e5 kT kF) ?_
   try simp only [d9P]
   refine gwI kB ?_
   try simp only [d9P]
   refine gwI kB ?_
   try simp only [d9P]
   refine gwI kB ?_
   try simp only [d9P]
   refine gwI kB ?_
   try simp only [d9P]
   refine ifI ?_;refine skI ?_;exact ⟨rfl,_,trivial,wkI⟩
  have e5:(((a4F a b:Nat):Int)==0)=true:=by rw [g1];rfl
  obtain ⟨la,lb⟩:=a7c g1
  by_cases ga:a=[]
  ·have e6:a3D a b=a4F a b:=by unfold a3D;rw [d9m (fun h=>h.2.1 ga)]
   rw [e6];rw [d9q ga] at sa;refine OkS.seq ?_;refine d8K w1 1700 [0,1,2,3,4,5,6,7,8,9,10,11,12,13,14,15,16,17,18,19,20,21,22,23,24,25,26,27,28] [29,30,31] (by kernel_rfl) ?_;refine nwI (ff3 e5 kT kF) ?_
   try simp only [d9P]
   refine gwI kB ?_
   try simp only [d9P]
   refine ixI kT m1 ?_;refine gwI kB ?_
   try simp only [d9P]
   try simp only [sa,e0s,e0o]
   refine gwI kB ?_
   try simp only [d9P]
   refine gwI kB ?_
   try simp only [d9P]
   refine gwI kB ?_
   try simp only [d9P]
   refine gwI kB ?_
   try simp only [d9P]
   refine ifI ?_;refine skI ?_;exact ⟨rfl,_,trivial,wkI⟩
  rw [d9p ga] at sa
  by_cases gb:b=[]
  ·have e6:a3D a b=a4F a b:=by unfold a3D;rw [d9m (fun h=>h.2.2.1 gb)]
   rw [e6];rw [d9q gb] at sb';refine OkS.seq ?_;refine d8K w1 1700 [0,1,2,3,4,5,6,7,8,9,10,11,12,13,14,15,16,17,18,19,20,21,22,23,24,25,26,27,28] [29,30,31] (by kernel_rfl) ?_;refine nwI (ff3 e5 kT kF) ?_
   try simp only [d9P]
   refine gwI kB ?_
   try simp only [d9P]
   refine ixI kT m1 ?_;refine gwI kB ?_
   try simp only [d9P]
   try simp only [sa,e0s,e0o]
   refine gwI kB ?_
   try simp only [d9P]
   refine ixI kT m2 ?_;refine gwI kB ?_
   try simp only [d9P]
   try simp only [sb',e0s,e0o]
   refine gwI kB ?_
   try simp only [d9P]
   refine gwI kB ?_
   try simp only [d9P]
   refine gwI kB ?_
   try simp only [d9P]
   refine gwI kB ?_
   try simp only [d9P]
   refine ifI ?_;refine skI ?_;exact ⟨rfl,_,trivial,wkI⟩
  rw [d9p gb] at sb';have cc:=c0I (a2O la ga) (a2O lb gb);refine OkS.seq ?_;refine d8K w1 1700 [0,1,2,3,4,5,6,7,8,9,10,11,12,13,14,15,16,17,18,19,20,21,22,23,24,25,26,27,28] [29,30,31] (by kernel_rfl) ?_;refine nwI (ff3 e5 kT kF) ?_
  try simp only [d9P]
  refine gwI kB ?_
  try simp only [d9P]
  refine ixI kT m1 ?_;refine gwI kB ?_
  try simp only [d9P]
  try simp only [sa,e0s,e0o]
  refine gwI kB ?_
  try simp only [d9P]
  refine ixI kT m2 ?_;refine gwI kB ?_
  try simp only [d9P]
  try simp only [sb',e0s,e0o]
  refine gwI kB ?_
  try simp only [d9P]
  refine ixI kT m1 ?_;refine gwI kB ?_
  try simp only [d9P]
  refine ixI kT m2 ?_;refine gwI kB ?_
  try simp only [d9P]
  refine gcI kB ?_;refine a0j.same _ cc d9k ?_;refine gwI kB ?_
  by_cases g4:a1H (a0e a) (a0e b)>0
  ·have e6:a3D a b=3:=by unfold a3D;rw [d9l ⟨g1,ga,gb,g4⟩]
   rw [e6];rw [d9q g4];refine ifI ?_;refine rI 1800 ?_;exact ⟨by trivial,_,trivial,wkI⟩
  ·have e6:a3D a b=a4F a b:=by unfold a3D;rw [d9m (fun h=>g4 h.2.2.2)]
   rw [e6];rw [d9p g4];refine ifI ?_;refine skI ?_;exact ⟨rfl,_,trivial,wkI⟩
 rintro m3 -;refine d8X (α:=Nat) (fun m=>⟨[(1,i64 (k:Int)),(2,.optr 0 0 2 0 0),(5,.optr 105 7 3 0 0),(7,i64 (j:Int)),(8,i64 ((a1j a b P:Nat):Int))],[⟨105,7,67,3,[.agg [str (sb g.name),.sl false 1 (g.least.map fun l=>str (sb l)),.sl false 1 (g.most.map fun l=>str (sb l))]]⟩,⟨0,0,25,2,[.agg [.sl false 4 fsD,.sl false 3 gsD]]⟩],m⟩) (fun _=>True) ?_ ?_
 ·by_cases g1:a3D a b=0
  rotate_left
  ·have e5:(((a3D a b:Nat):Int)==0)=false:=d9D.2 (by omega)
   rw [b8q g1];refine OkS.seq ?_;refine d8K w1 1900 [0,1,2,3,4,5,6,7,8,9,10,11,12,13,14,15,16,17,18,19,20,21,22,23,24,25,26,27,28,29,30,31,32,33,34,35,36] [37,38,39] (by kernel_rfl) ?_;refine nwI (ff3 e5 kT kF) ?_
   try simp only [d9P]
   refine gwI kB ?_
   try simp only [d9P]
   refine gwI kB ?_
   try simp only [d9P]
   refine gwI kB ?_
   try simp only [d9P]
   refine gwI kB ?_
   try simp only [d9P]
   refine ifI ?_;refine skI ?_;exact ⟨rfl,_,trivial,wkI⟩
  have e5:(((a3D a b:Nat):Int)==0)=true:=by rw [g1];rfl
  obtain ⟨la,lb⟩:=a7c (a7d g1);rw [c2c g1]
  by_cases hk0:k=0
  ·have e7:decide ((k:Int)>0)=false:=d9p (by omega)
   have:P=none:=by rw [<- hP];unfold a1T;rw [d9l hk0]
   subst this;dsimp only;refine OkS.seq ?_;refine d8K w1 1900 [0,1,2,3,4,5,6,7,8,9,10,11,12,13,14,15,16,17,18,19,20,21,22,23,24,25,26,27,28,29,30,31,32,33,34,35,36] [37,38,39] (by kernel_rfl) ?_;refine nwI (ff3 e5 kT kF) ?_
   try simp only [d9P]
   refine gwI kB ?_
   try simp only [d9P]
   try simp only [e7,e0s,e0o]
   refine gwI kB ?_
   try simp only [d9P]
   refine gwI kB ?_
   try simp only [d9P]
   refine gwI kB ?_
   try simp only [d9P]
   refine gwI kB ?_
   try simp only [d9P]
   refine ifI ?_;refine skI ?_;exact ⟨rfl,_,trivial,wkI⟩
  have e7:decide ((k:Int)>0)=true:=d9q (by omega);have ws:IntKind.i64.wrap ((k:Int) - 1)=((k - 1:Nat):Int):=by
   rw [show (k:Int) - 1=((k - 1:Nat):Int) by omega];exact wI (by omega) (by omega)
  have hm1:=hgm (k - 1) (by omega);obtain ⟨q1,q2,q3⟩:=hp (by omega);obtain ⟨q4,q5⟩:=q3 j hj2;obtain ⟨z,hz⟩:∃ z,s.gs.getD (k - 1) default=z:=⟨_,rfl⟩
  rw [hz] at hm1 q1 q2 q4 q5;have m3:=a4B (l:=z.least) (k:=j) (by omega);have m4:=a4B (l:=z.most) (k:=j) (by omega);have hPz:P=some (lv z.least j,lv z.most j):=by rw [<- hP];unfold a1T;rw [d9m hk0,hz]
  subst hPz;obtain ⟨c,ec⟩:∃ c,lv z.least j=c:=⟨_,rfl⟩
  obtain ⟨d,ed⟩:∃ d,lv z.most j=d:=⟨_,rfl⟩
  rw [ec] at m3 q4 ⊢;rw [ed] at m4 q5 ⊢;dsimp only;have co:=c0J a b c d la lb q4 q5;refine OkS.seq ?_;refine d8K w1 1900 [0,1,2,3,4,5,6,7,8,9,10,11,12,13,14,15,16,17,18,19,20,21,22,23,24,25,26,27,28,29,30,31,32,33,34,35,36] [37,38,39] (by kernel_rfl) ?_;refine nwI (ff3 e5 kT kF) ?_
  try simp only [d9P]
  refine gwI kB ?_
  try simp only [d9P]
  try simp only [e7,e0s,e0o]
  refine gwI kB ?_
  try simp only [d9P]
  refine ixI kT m1 ?_;refine gwI kB ?_
  try simp only [d9P]
  refine ixI kT m2 ?_;refine gwI kB ?_
  try simp only [d9P]
  try simp only [ws]
  refine ixI kT hm1 ?_;refine gwI kB ?_
  try simp only [d9P]
  refine ixI kT m3 ?_;refine gwI kB ?_
  try simp only [d9P]
  try simp only [ws]
  refine ixI kT hm1 ?_;refine gwI kB ?_
  try simp only [d9P]
  refine ixI kT m4 ?_;refine gwI kB ?_
  try simp only [d9P]
  refine gcI kB ?_;refine a0j.same _ co d9k ?_;refine gwI kB ?_;cases a7O a b c d
  ·refine ifI ?_
   refine rI 2000 ?_;exact ⟨by trivial,_,trivial,wkI⟩
  ·refine ifI ?_
   refine skI ?_;rw [g1];exact ⟨rfl,_,trivial,wkI⟩
 rintro m4 -
 by_cases g1:a1j a b P=0
 ·have e5:(((a1j a b P:Nat):Int) != 0)=false:=by rw [g1];rfl
  refine sZ 2100 ?_;refine nwI e5 ?_;refine ifI ?_;refine skI ?_;refine d8I w1 1300 (by kernel_rfl) ?_;refine nwI wi ?_;exact ⟨(j+1,_),⟨hj2,hnext g1⟩,by dsimp only;omega,wkI⟩
 ·have e5:(((a1j a b P:Nat):Int) != 0)=true:=a3O (by omega)
  refine sZ 2100 ?_;refine nwI e5 ?_;refine ifI ?_;refine sR 2200 ?_;refine rtI ?_;exact a0a (by rw [hfst g1]) IsPure.out
theorem c8Y {α:Type}{l:List α}{p:α->Bool}{k i:Nat}{x:α}(hx:l[k]? = some x)(hk:k<i)(h:p x=true):(l.take i).any p=true:=a6i hk hx h
theorem d7A (s:a1c)(hs:s.few):a0b C0 20 [s.D] (i64 (a0o s)):=by
 refine a0c.walk w1 d4n rfl fun F=>?_
 have hsc:a0o s=if b2b s.fs.length≠0 then b2b s.fs.length
  else if a8L (a2h s.fs) s.fs.length≠0 then a8L (a2h s.fs) s.fs.length
  else if b2r s.gs.length≠0 then b2r s.gs.length
  else a8L (a0F s.fs.length s.gs) s.gs.length:=rfl
 have hpg:∀ i,i<s.gs.length->(∀ j,j<i->a0F s.fs.length s.gs j=0)->a0b C0 61 [s.D,i64 (i:Int)] (i64 (a0F s.fs.length s.gs i)):=fun i hi ha=>d3h s i hs hi (fun h=>a5Q (ha (i - 1) (by omega)))
 have fl:(((s.fs.map a1S.D).length:Nat):Int)=(s.fs.length:Int):=by rw [d9s]
 have gl:(((s.gs.map a1p.D).length:Nat):Int)=(s.gs.length:Int):=by rw [d9s]
 have ls:=hs.1;have lg:=hs.2.1;have hmf:∀ i,i<s.fs.length->(s.fs.map a1S.D)[i]? = some (.agg [str (sb (s.fs.getD i default).name),str (sb (s.fs.getD i default).tol),str (sb (s.fs.getD i default).kind),str (sb (s.fs.getD i default).step)]):=fun i hi=>b9x hi
 have hcf:∀ i,i<s.fs.length->a0b C0 60 [.agg [str (sb (s.fs.getD i default).name),str (sb (s.fs.getD i default).tol),str (sb (s.fs.getD i default).kind),str (sb (s.fs.getD i default).step)]] (i64 (a1e (s.fs.getD i default))):=fun i hi=>c7O _ (hs.2.2.1 _ (d9r (a8M hi)))
 have hfs:∀ k,k<s.fs.length->s.fs[k]? = some (s.fs.getD k default):=fun k hk=>a8M hk
 obtain ⟨v,hv⟩:∃ v,a0o s=v:=⟨_,rfl⟩
 rw [hv] at hsc ⊢;unfold a1c.D at hpg ⊢;obtain ⟨fsD,hfsD⟩:∃ x,s.fs.map a1S.D=x:=⟨_,rfl⟩
 obtain ⟨gsD,hgsD⟩:∃ x,s.gs.map a1p.D=x:=⟨_,rfl⟩
 have pf:IsPure (.sl false 4 fsD):=by rw [<- hfsD];exact d9k
 have pg:IsPure (.sl false 3 gsD):=by rw [<- hgsD];exact d9k
 rw [hfsD] at fl hmf hpg ⊢;rw [hgsD] at gl hpg ⊢;have lf2:fsD.length=s.fs.length:=by omega
 obtain ⟨n,hn⟩:∃ n,s.fs.length=n:=⟨_,rfl⟩
 obtain ⟨m,hm⟩:∃ m,s.gs.length=m:=⟨_,rfl⟩
 rw [hn] at hsc hpg fl ls hmf hcf hfs;rw [hm] at hsc hpg gl lg;refine sR 0 ?_;refine OkS.seq ?_
 by_cases n0:n=0
 ·have e1:((n:Int)==0)=true:=by rw [n0];rfl
  have hv2:v=2:=by rw [hsc,n0];rfl
  rw [hv2];refine sZ 100 ?_;refine nwI (ff2 fl e1) ?_;refine ifI ?_;refine sR 200 ?_;refine rtI ?_;exact a0a rfl IsPure.out
 have e1:((n:Int)==0)=false:=d9D.2 (by omega);refine sZ 100 ?_;refine nwI (ff2 fl e1) ?_;refine ifI ?_;refine skI ?_;refine OkS.seq ?_
 by_cases n8:n>8
 ·have e2:decide ((n:Int)>8)=true:=d9q (by omega)
  have hv2:v=5:=by rw [hsc];unfold b2b;rw [d9m n0,d9l n8];rfl
  rw [hv2];refine sZ 300 ?_;refine nwI (ff2 fl e2) ?_;refine ifI ?_;refine sR 400 ?_;refine rtI ?_;exact a0a rfl IsPure.out
 have e2:decide ((n:Int)>8)=false:=d9p (by omega);have hc0:b2b n=0:=by unfold b2b;rw [d9m n0,d9m n8]
 rw [d9m (fun h=>h hc0)] at hsc;refine sZ 300 ?_;refine nwI (ff2 fl e2) ?_;refine ifI ?_;refine skI ?_;refine OkS.seq ?_;refine sR 500 ?_;refine OkS.block ?_;refine OkS.loop (α:=Nat × Nat) (fun q=>⟨[(1,.optr 0 0 2 0 0),(3,i64 (q.1:Int))],[⟨0,0,25,2,[.agg [.sl false 4 fsD,.sl false 3 gsD]]⟩],q.2⟩) (fun q=>n - q.1) (fun q=>q.1<=n/\∀ j,j<q.1->a2h s.fs j=0) (0,_) ⟨d9U _,fun j hj=>d9n hj (e0L j)⟩ wkI ?_;rintro ⟨i,c⟩ F ⟨hi,ha⟩;dsimp only at hi ha ⊢;refine OkS.seq ?_;refine sZ 600 ?_;refine nwI fl ?_;refine ifI ?_
 (refine brI (fun hlt=>?_) (fun hlt=>?_))<;>(try simp only [d9w,d9x] at hlt)<;>(try simp only [hlt])
 ·have hi2:i<n:=by
   have:=d9N hlt
   omega
  have hmi:=hmf i hi2;have cf:=hcf i hi2;have wi:IntKind.i64.wrap ((i:Int)+1)=((i+1:Nat):Int):=wI (by omega) (by omega);have hfst:a2h s.fs i≠0->v=a2h s.fs i:=fun h=>by
   have h2:=a6Z (f:=a2h s.fs) ha hi2 h;rw [hsc,d9l (by rw [h2];exact h),h2]
  have hnext:a2h s.fs i=0->∀ x,x<i+1->a2h s.fs x=0:=fun h x hx=>by
   rcases d9H x i with hx2|hx2
   ·exact ha x hx2
   ·have:x=i:=by omega
    rw [this];exact h
  have hfac:a2h s.fs i=if a1e (s.fs.getD i default)≠0 then a1e (s.fs.getD i default) else if (s.fs.take i).any (fun x=>decide (x.name=(s.fs.getD i default).name)) then 9 else 0:=rfl
  obtain ⟨f,hf⟩:∃ f,s.fs.getD i default=f:=⟨_,rfl⟩
  rw [hf] at hmi cf hfac;obtain ⟨e0,he0⟩:∃ e0,a1e f=e0:=⟨_,rfl⟩
  rw [he0] at cf hfac;obtain ⟨r,hr⟩:∃ r,a2h s.fs i=r:=⟨_,rfl⟩
  rw [hr] at hfst hnext hfac;refine skI ?_;refine OkS.seq ?_;refine OkS.block ?_;refine sZ 800 ?_;refine gwI kN ?_;refine ixI kT hmi ?_;refine gwI kN ?_;refine a0j.same _ cf d9k ?_;refine stI ?_;refine d8X (α:=Nat) (fun c=>⟨[(1,.optr 0 0 2 0 0),(3,i64 (i:Int)),(4,i64 (r:Int))],[⟨0,0,25,2,[.agg [.sl false 4 fsD,.sl false 3 gsD]]⟩],c⟩) (fun _=>True) ?_ ?_
  ·refine sR 900 ?_
   refine OkS.block ?_;refine d8H (α:=Nat × Nat × Nat) (fun q=>⟨[(1,.optr 0 0 2 0 0),(3,i64 (i:Int)),(4,i64 (q.2.1:Int)),(5,i64 (q.1:Int))],[⟨0,0,25,2,[.agg [.sl false 4 fsD,.sl false 3 gsD]]⟩],q.2.2⟩) (fun q=>i - q.1)
    (fun q F'=>F'=F/\q.1<=i/\((q.2.1=e0/\(s.fs.take q.1).any (fun x=>decide (x.name=f.name))=false)\/(e0=0/\q.2.1=9/\(s.fs.take i).any (fun x=>decide (x.name=f.name))=true))) (0,e0,_) ⟨rfl,d9U _,.inl ⟨rfl,rfl⟩⟩ wkI ?_
   rintro ⟨k,e,c⟩ F' ⟨rfl,hk,hJ⟩;dsimp only at hk hJ ⊢;refine OkS.seq ?_
   by_cases hki:k<i
   rotate_left
   ·have h1:decide ((k:Int)<(i:Int))=false:=d9p (by omega)
    have hk3:k=i:=by omega
    have hre:r=e:=by
     rcases hJ with ⟨h2,h3⟩|⟨h2,h3,h4⟩
     ·rw [hfac,<- hk3,h3,h2]
      by_cases h5:e0=0
      ·rw [d9m (fun h=>h h5),h5];rfl
      ·rw [d9l h5]
     ·rw [hfac,d9m (fun h=>h h2),h4,h3];rfl
    rw [hre];refine sZ 1000 ?_;refine nwI (ff3 h1 kT kF) ?_
    try simp only [d9P]
    refine gwI kB ?_;refine ifI ?_;refine exI ?_;exact ⟨rfl,_,trivial,wkI⟩
   have h1:decide ((k:Int)<(i:Int))=true:=d9q (by omega)
   by_cases hez:e=0
   rotate_left
   ·have h2:((e:Int)==0)=false:=d9D.2 (by omega)
    have hre:r=e:=by
     rcases hJ with ⟨h2,h3⟩|⟨h2,h3,h4⟩
     ·rw [hfac,d9l (by omega),h2]
     ·rw [hfac,d9m (fun h=>h h2),h4,h3];rfl
    rw [hre];refine sZ 1000 ?_;refine nwI (ff3 h1 kT kF) ?_
    try simp only [d9P]
    refine gwI kB ?_
    try simp only [h2]
    refine ifI ?_;refine exI ?_;exact ⟨rfl,_,trivial,wkI⟩
   have h2:((e:Int)==0)=true:=by rw [hez];rfl
   obtain ⟨h3,h4⟩:e=e0/\(s.fs.take k).any (fun x=>decide (x.name=f.name))=false:=by
    rcases hJ with h|⟨_,h,_⟩
    ·exact h
    ·omega
   have hmk:=hmf k (by omega);have hsk:=hfs k (by omega);have wk:IntKind.i64.wrap ((k:Int)+1)=((k+1:Nat):Int):=wI (by omega) (by omega);obtain ⟨y,hy⟩:∃ y,s.fs.getD k default=y:=⟨_,rfl⟩
   rw [hy] at hmk hsk;have es:=a6I y.name f.name;refine sZ 1000 ?_;refine nwI (ff3 h1 kT kF) ?_
   try simp only [d9P]
   refine gwI kB ?_
   try simp only [h2]
   refine ifI ?_;refine skI ?_;refine OkS.seq ?_;refine OkS.block ?_;refine OkS.seq ?_;refine d8K w1 1200 [0,1,2,3,4,5,6,7,8,9,10,11] [12] (by kernel_rfl) ?_;refine gwI kN ?_;refine ixI kT hmk ?_;refine gwI kN ?_;refine ixI kT hmi ?_;refine gwI kN ?_
   by_cases hn2:y.name=f.name
   ·rw [d9q hn2] at es
    try simp only [es]
    refine ifI ?_;refine rI 1300 ?_;refine d8I w1 1100 (by kernel_rfl) ?_;refine nwI wk ?_;exact ⟨(k+1,9,_),⟨by trivial,hki,.inr ⟨by omega,rfl,c8Y hsk hki (d9q hn2)⟩⟩,by dsimp only;omega,wkI⟩
   ·rw [d9p hn2] at es
    try simp only [es]
    refine ifI ?_;refine skI ?_;refine d8I w1 1100 (by kernel_rfl) ?_;refine nwI wk ?_;exact ⟨(k+1,e,_),⟨by trivial,hki,.inl ⟨h3,b5h hsk h4 (d9p hn2)⟩⟩,by dsimp only;omega,wkI⟩
  rintro c2 -
  by_cases g1:r=0
  ·have e5:((r:Int) != 0)=false:=by rw [g1];rfl
   refine sZ 1400 ?_;refine nwI e5 ?_;refine ifI ?_;refine skI ?_;refine d8I w1 700 (by kernel_rfl) ?_;refine nwI wi ?_;exact ⟨(i+1,_),⟨hi2,hnext g1⟩,by dsimp only;omega,wkI⟩
  ·have e5:((r:Int) != 0)=true:=a3O (by omega)
   refine sZ 1400 ?_;refine nwI e5 ?_;refine ifI ?_;refine sR 1500 ?_;refine rtI ?_;exact a0a (by rw [hfst g1]) IsPure.out
 have hi2:i=n:=by
  have:=d9I hlt
  omega
 subst hi2;rw [d9m (fun h=>h (a3t ha))] at hsc;clear ha;refine exI ?_;refine OkS.seq ?_
 by_cases m0:m=0
 ·have e3:((m:Int)==0)=true:=by rw [m0];rfl
  have hv2:v=2:=by rw [hsc,m0];rfl
  rw [hv2];refine sZ 1600 ?_;refine nwI (ff2 gl e3) ?_;refine ifI ?_;refine sR 1700 ?_;refine rtI ?_;exact a0a rfl IsPure.out
 have e3:((m:Int)==0)=false:=d9D.2 (by omega);refine sZ 1600 ?_;refine nwI (ff2 gl e3) ?_;refine ifI ?_;refine skI ?_;refine OkS.seq ?_
 by_cases m16:m>16
 ·have e4:decide ((m:Int)>16)=true:=d9q (by omega)
  have hv2:v=5:=by rw [hsc];unfold b2r;rw [d9m m0,d9l m16];rfl
  rw [hv2];refine sZ 1800 ?_;refine nwI (ff2 gl e4) ?_;refine ifI ?_;refine sR 1900 ?_;refine rtI ?_;exact a0a rfl IsPure.out
 have e4:decide ((m:Int)>16)=false:=d9p (by omega);have hc1:b2r m=0:=by unfold b2r;rw [d9m m0,d9m m16]
 rw [d9m (fun h=>h hc1)] at hsc;refine sZ 1800 ?_;refine nwI (ff2 gl e4) ?_;refine ifI ?_;refine skI ?_;refine OkS.seq ?_;refine sR 2000 ?_;refine OkS.block ?_;refine OkS.loop (α:=Nat × Nat) (fun q=>⟨[(1,.optr 0 0 2 0 0),(6,i64 (q.1:Int))],[⟨0,0,25,2,[.agg [.sl false 4 fsD,.sl false 3 gsD]]⟩],q.2⟩) (fun q=>m - q.1) (fun q=>q.1<=m/\∀ j,j<q.1->a0F i s.gs j=0) (0,_) ⟨d9U _,fun j hj=>d9n hj (e0L j)⟩ wkI ?_;rintro ⟨g,c⟩ F ⟨hg,ha⟩;dsimp only at hg ha ⊢;refine OkS.seq ?_;refine sZ 2100 ?_;refine nwI gl ?_;refine ifI ?_
 (refine brI (fun hlt2=>?_) (fun hlt2=>?_))<;>(try simp only [d9w,d9x] at hlt2)<;>(try simp only [hlt2])
 ·have hg2:g<m:=by
   have:=d9N hlt2
   omega
  have cg:=hpg g hg2 ha;have wi:IntKind.i64.wrap ((g:Int)+1)=((g+1:Nat):Int):=wI (by omega) (by omega);have hfst:a0F i s.gs g≠0->v=a0F i s.gs g:=fun h=>by
   rw [hsc];exact a6Z (f:=a0F i s.gs) ha hg2 h
  have hnext:a0F i s.gs g=0->∀ x,x<g+1->a0F i s.gs x=0:=fun h x hx=>by
   rcases d9H x g with hx2|hx2
   ·exact ha x hx2
   ·have:x=g:=by omega
    rw [this];exact h
  obtain ⟨r,hr⟩:∃ r,a0F i s.gs g=r:=⟨_,rfl⟩
  rw [hr] at cg hfst hnext;refine skI ?_;refine OkS.seq ?_;refine OkS.block ?_;refine sR 2300 ?_;refine a0j.same _ cg d9k ?_;refine stI ?_
  by_cases g1:r=0
  ·have e5:((r:Int) != 0)=false:=by rw [g1];rfl
   refine sZ 2400 ?_;refine nwI e5 ?_;refine ifI ?_;refine skI ?_;refine d8I w1 2200 (by kernel_rfl) ?_;refine nwI wi ?_;exact ⟨(g+1,_),⟨hg2,hnext g1⟩,by dsimp only;omega,wkI⟩
  ·have e5:((r:Int) != 0)=true:=a3O (by omega)
   refine sZ 2400 ?_;refine nwI e5 ?_;refine ifI ?_;refine sR 2500 ?_;refine rtI ?_;exact a0a (by rw [hfst g1]) IsPure.out
 have hg2:g=m:=by
  have:=d9I hlt2
  omega
 subst hg2;refine exI ?_;refine sR 2600 ?_;refine rtI ?_;exact a0a (by rw [hsc,a3t ha];rfl) IsPure.out
def b5A (v:List (List UInt8)):Bool:=v.all fun l=>decide (l.length<=40)
def a6C (f:a1S):Bool:=decide (f.name.length<=100)&&decide (f.kind.length<=100)&&decide (f.tol.length<=40)&&decide (f.step.length<=40)
def a7z (g:a1p):Bool:=decide (g.name.length<=100)&&decide (g.least.length<=20)&&decide (g.most.length<=20)&&b5A g.least&&b5A g.most
def a7y (s:a1c):Bool:=decide (s.fs.length<=12)&&decide (s.gs.length<=20)&&s.fs.all a6C&&s.gs.all a7z
theorem a8E {v:List (List UInt8)}(h:b5A v=true):∀ l∈v,l.length<=40:=fun l hl=>d9N (d9W.1 h l hl)
theorem b9O {s:a1c}(h:a7y s=true):s.few:=by
 simp only [a7y,d9B,e0l,d9W] at h;obtain ⟨⟨⟨h1,h2⟩,h3⟩,h4⟩:=h;refine ⟨by omega,by omega,fun f hf=>?_,fun g hg=>?_⟩
 ·have:=h3 f hf
  simp only [a6C,d9B,e0l] at this;obtain ⟨⟨⟨q1,q2⟩,q3⟩,q4⟩:=this;exact ⟨by omega,by omega,by omega,by omega⟩
 ·have:=h4 g hg
  simp only [a7z,d9B,e0l] at this;obtain ⟨⟨⟨⟨q1,q2⟩,q3⟩,q4⟩,q5⟩:=this;exact ⟨by omega,by omega,by omega,fun l hl=>by have:=a8E q4 l hl;omega,fun l hl=>by have:=a8E q5 l hl;omega⟩
theorem a3F {α:Type}{l:List α}{p:α->Bool}{k:Nat}{x:α}(hx:l[k]? = some x)(h:(l.take k).all p=true)(hp:p x=true):(l.take (k+1)).all p=true:=by
 rw [e0Z,hx,e2I,h];simp [hp]
theorem a2t {α:Type}{l:List α}{p:α->Bool}{k:Nat}{x:α}(hx:l[k]? = some x)(hp:p x=false):l.all p=false:=by
 cases h:l.all p
 ·rfl
 ·rw [d9W.1 h x (d9r hx)] at hp;exact hp
theorem b0A {a b:Nat}:decide ((a:Int)>(b:Int)) = !decide (a<=b):=by
 by_cases h:a<=b
 ·rw [d9p (by omega),d9q h];rfl
 ·rw [d9q (by omega),d9p h];rfl
theorem c2A (b:Bool)(v:List (List UInt8))(hl:v.length<=9223372036854775807):a0b C0 29 [.sl b 1 (v.map fun l=>str (sb l))] (boo (b5A v)):=by
 refine a0c.walk w1 d4q rfl fun F=>?_
 have el:(((v.map fun l=>str (sb l)).length:Nat):Int)=(v.length:Int):=by rw [d9s]
 refine sR 0 ?_;refine OkS.seq ?_;refine sZ 100 ?_;refine nwI el ?_;refine OkS.block ?_;refine OkS.loop (α:=Nat × Nat) (fun p=>⟨[(5,.sl b 1 (v.map fun l=>str (sb l))),(6,i64 v.length),(7,i64 (p.1:Int))],[],p.2⟩) (fun p=>v.length - p.1) (fun p=>p.1<=v.length/\(v.take p.1).all (fun l=>decide (l.length<=40))=true) (0,_) ⟨d9U _,rfl⟩ wkI ?_;rintro ⟨i,n⟩ F ⟨hi,ha⟩;dsimp only at hi ha ⊢;refine sR 200 ?_;refine OkS.seq ?_;refine ifI ?_
 (refine brI (fun hlt=>?_) (fun hlt=>?_))<;>(try simp only [d9w,d9x] at hlt)<;>(try simp only [hlt])
 ·have hi2:i<v.length:=by
   have:=d9N hlt
   omega
  have hm:=a4B hi2;have hx:=a9a hi2;have wi:IntKind.i64.wrap ((i:Int)+1)=((i+1:Nat):Int):=wI (by omega) (by omega);obtain ⟨l,hl'⟩:∃ l,lv v i=l:=⟨_,rfl⟩
  rw [hl'] at hm hx;have hsz:=a0x l;refine skI ?_;refine OkS.seq ?_;refine OkS.block ?_;refine sZ 300 ?_;refine gwI kN ?_;refine ixI kT hm ?_;refine gwI kN ?_
  by_cases g:l.length<=40
  ·have e5:decide ((l.length:Int)>40)=false:=d9p (by omega)
   refine sZ 400 ?_;refine nwI (ff2 hsz e5) ?_;refine ifI ?_;refine skI ?_;refine d8I w1 600 (by kernel_rfl) ?_;refine nwI wi ?_;exact ⟨(i+1,_),⟨hi2,a3F hx ha (d9q g)⟩,by dsimp only;omega,wkI⟩
  ·have e5:decide ((l.length:Int)>40)=true:=d9q (by omega)
   refine sZ 400 ?_;refine nwI (ff2 hsz e5) ?_;refine ifI ?_;refine sR 500 ?_;refine rtI ?_;exact a0a (by unfold b5A;rw [a2t hx (d9p g)]) IsPure.out
 have hi2:i=v.length:=by
  have:=d9I hlt
  omega
 subst hi2;refine exI ?_;refine sR 700 ?_;refine rtI ?_;exact a0a (by unfold b5A;rw [e0S] at ha;rw [ha]) IsPure.out
theorem c7C (f:a1S):a0b C0 28 [f.D] (boo (a6C f)):=by
 refine a0c.walk w1 d4p rfl fun F=>?_
 have cf:=c2A true [f.tol,f.step] (by simp);have hr:a6C f=(decide (f.name.length<=100)&&(decide (f.kind.length<=100)&&b5A [f.tol,f.step])):=by
  unfold a6C b5A;simp only [e1f,List.all_nil,Bool.and_true,Bool.and_assoc]
 rw [hr];have z1:=a0x f.name;have z2:=a0x f.kind;dsimp only [List.map] at cf;unfold a1S.D;obtain ⟨q,hq⟩:∃ q,b5A [f.tol,f.step]=q:=⟨_,rfl⟩
 rw [hq] at cf ⊢;have d1:decide ((f.name.length:Int)<=100)=decide (f.name.length<=100):=e0C.2 (by omega);have d2:decide ((f.kind.length:Int)<=100)=decide (f.kind.length<=100):=e0C.2 (by omega);refine sR 0 ?_
 by_cases g1:f.name.length<=100
 rotate_left
 ·rw [d9p g1] at d1 ⊢
  refine sZ 100 ?_;refine nwI (ff2 z1 d1) ?_;refine gwI kB ?_
  try simp only [d9P]
  refine gwI kB ?_
  try simp only [d9P]
  refine gwI kB ?_;refine rtI ?_;exact a0a rfl IsPure.out
 rw [d9q g1] at d1 ⊢
 by_cases g2:f.kind.length<=100
 rotate_left
 ·rw [d9p g2] at d2 ⊢
  refine sZ 100 ?_;refine nwI (ff2 z1 d1) ?_;refine gwI kB ?_
  try simp only [z2,d2,d9P]
  refine gwI kB ?_
  try simp only [d9P]
  refine gwI kB ?_;refine rtI ?_;exact a0a rfl IsPure.out
 rw [d9q g2] at d2 ⊢;refine sZ 100 ?_;refine nwI (ff2 z1 d1) ?_;refine gwI kB ?_
 try simp only [z2,d2,d9P]
 refine gwI kB ?_
 try simp only [d9P]
 refine gcI kB ?_;refine a0j.same _ cf d9k ?_;refine gwI kB ?_
 try simp only [d9P]
 refine rtI ?_;exact a0a rfl IsPure.out
def a1c.fit (s:a1c):Prop:=s.fs.length<=9223372036854775807/\s.gs.length<=9223372036854775807/\∀ g∈s.gs,g.least.length<=9223372036854775807/\g.most.length<=9223372036854775807
theorem c7i (s:a1c)(hs:s.fit):a0b C0 5 [s.D] (boo (a7y s)):=by
 refine a0c.walk w1 d6X rfl fun F=>?_
 have fl:(((s.fs.map a1S.D).length:Nat):Int)=(s.fs.length:Int):=by rw [d9s]
 have gl:(((s.gs.map a1p.D).length:Nat):Int)=(s.gs.length:Int):=by rw [d9s]
 obtain ⟨ls,lg,lx⟩:=hs;have hmf:∀ i,i<s.fs.length->(s.fs.map a1S.D)[i]? = some (.agg [str (sb (s.fs.getD i default).name),str (sb (s.fs.getD i default).tol),str (sb (s.fs.getD i default).kind),str (sb (s.fs.getD i default).step)]):=fun i hi=>b9x hi
 have hfs:∀ k,k<s.fs.length->s.fs[k]? = some (s.fs.getD k default):=fun k hk=>a8M hk
 have hmg:∀ k,k<s.gs.length->(s.gs.map a1p.D)[k]? = some (.agg [str (sb (s.gs.getD k default).name),.sl false 1 ((s.gs.getD k default).least.map fun l=>str (sb l)),.sl false 1 ((s.gs.getD k default).most.map fun l=>str (sb l))]):=fun k hk=>b5J hk
 have hgs:∀ k,k<s.gs.length->s.gs[k]? = some (s.gs.getD k default):=fun k hk=>a3S hk
 have hL:a7y s=(decide (s.fs.length<=12)&&(decide (s.gs.length<=20)&&(s.fs.all a6C&&s.gs.all a7z))):=by
  unfold a7y;simp only [Bool.and_assoc]
 rw [hL];unfold a1c.D;obtain ⟨fsD,hfsD⟩:∃ x,s.fs.map a1S.D=x:=⟨_,rfl⟩
 obtain ⟨gsD,hgsD⟩:∃ x,s.gs.map a1p.D=x:=⟨_,rfl⟩
 have pf:IsPure (.sl false 4 fsD):=by rw [<- hfsD];exact d9k
 have pg:IsPure (.sl false 3 gsD):=by rw [<- hgsD];exact d9k
 rw [hfsD] at fl hmf ⊢;rw [hgsD] at gl hmg ⊢;obtain ⟨n,hn⟩:∃ n,s.fs.length=n:=⟨_,rfl⟩
 obtain ⟨m,hm⟩:∃ m,s.gs.length=m:=⟨_,rfl⟩
 have hnl:=hn;have hml:=hm;rw [hn] at fl ls hmf hfs ⊢;rw [hm] at gl lg hmg hgs ⊢;have d1:decide ((n:Int)>12) = !decide (n<=12):=b0A (b:=12);have d2:decide ((m:Int)>20) = !decide (m<=20):=b0A (b:=20);refine sR 0 ?_;refine OkS.seq ?_
 by_cases g1:n<=12
 rotate_left
 ·rw [d9p g1] at d1 ⊢
  refine sZ 100 ?_;refine nwI (ff3 fl d1 kF) ?_;refine gwI kB ?_
  try simp only [d9P]
  refine gwI kB ?_;refine ifI ?_;refine sR 200 ?_;refine rtI ?_;exact a0a rfl IsPure.out
 rw [d9q g1] at d1 ⊢
 by_cases g2:m<=20
 rotate_left
 ·rw [d9p g2] at d2 ⊢
  refine sZ 100 ?_;refine nwI (ff3 fl d1 kT) ?_;refine gwI kB ?_
  try simp only [gl,d2,e0o,d9P]
  refine ifI ?_;refine sR 200 ?_;refine rtI ?_;exact a0a rfl IsPure.out
 rw [d9q g2] at d2 ⊢;refine sZ 100 ?_;refine nwI (ff3 fl d1 kT) ?_;refine gwI kB ?_
 try simp only [gl,d2,e0s,d9P]
 refine ifI ?_;refine skI ?_;rw [e1b,e1b];refine OkS.seq ?_;refine sZ 300 ?_;refine nwI fl ?_;refine OkS.block ?_;refine OkS.loop (α:=Nat × Nat) (fun q=>⟨[(1,.optr 0 0 2 0 0),(18,.sl false 4 fsD),(19,i64 (n:Int)),(20,i64 (q.1:Int))],[⟨0,0,25,2,[.agg [.sl false 4 fsD,.sl false 3 gsD]]⟩],q.2⟩) (fun q=>n - q.1) (fun q=>q.1<=n/\(s.fs.take q.1).all a6C=true) (0,_) ⟨d9U _,rfl⟩ wkI ?_;rintro ⟨i,c⟩ F ⟨hi,ha⟩;dsimp only at hi ha ⊢;refine sR 400 ?_;refine OkS.seq ?_;refine ifI ?_
 (refine brI (fun hlt=>?_) (fun hlt=>?_))<;>(try simp only [d9w,d9x] at hlt)<;>(try simp only [hlt])
 ·have hi2:i<n:=by
   have:=d9N hlt
   omega
  have hmi:=hmf i hi2;have hsi:=hfs i hi2;have wi:IntKind.i64.wrap ((i:Int)+1)=((i+1:Nat):Int):=wI (by omega) (by omega);obtain ⟨f,hf⟩:∃ f,s.fs.getD i default=f:=⟨_,rfl⟩
  rw [hf] at hmi hsi;have cp:=c7C f;unfold a1S.D at cp;refine skI ?_;refine OkS.seq ?_;refine OkS.block ?_;refine sZ 500 ?_;refine gwI kN ?_;refine ixI kT hmi ?_;refine gwI kN ?_;cases hp:a6C f
  ·rw [hp] at cp
   refine sR 600 ?_;refine cI cp ?_;refine ifI ?_;refine sR 700 ?_;refine rtI ?_;exact a0a (by rw [a2t hsi hp];rfl) IsPure.out
  ·rw [hp] at cp
   refine sR 600 ?_;refine cI cp ?_;refine ifI ?_;refine skI ?_;refine d8I w1 800 (by kernel_rfl) ?_;refine nwI wi ?_;exact ⟨(i+1,_),⟨hi2,a3F hsi ha hp⟩,by dsimp only;omega,wkI⟩
 have hi2:i=n:=by
  have:=d9I hlt
  omega
 subst hi2;rw [show s.fs.all a6C=true by rw [<- ha,<- hnl,e0S],e1b];clear ha;refine exI ?_;refine OkS.seq ?_;refine sZ 900 ?_;refine nwI gl ?_;refine OkS.block ?_;refine OkS.loop (α:=Nat × Nat) (fun q=>⟨[(29,.sl false 3 gsD),(30,i64 (m:Int)),(31,i64 (q.1:Int))],[],q.2⟩) (fun q=>m - q.1) (fun q=>q.1<=m/\(s.gs.take q.1).all a7z=true) (0,_) ⟨d9U _,rfl⟩ wkI ?_;rintro ⟨k,c⟩ F ⟨hk,ha⟩;dsimp only at hk ha ⊢;refine sR 1000 ?_;refine OkS.seq ?_;refine ifI ?_
 (refine brI (fun hlt2=>?_) (fun hlt2=>?_))<;>(try simp only [d9w,d9x] at hlt2)<;>(try simp only [hlt2])
 ·have hk2:k<m:=by
   have:=d9N hlt2
   omega
  have hmk:=hmg k hk2;have hsk:=hgs k hk2;have lk:=lx _ (d9r hsk);have wi:IntKind.i64.wrap ((k:Int)+1)=((k+1:Nat):Int):=wI (by omega) (by omega);obtain ⟨g,hg⟩:∃ g,s.gs.getD k default=g:=⟨_,rfl⟩
  rw [hg] at hmk hsk lk;have c1:=c2A false g.least lk.1;have c2:=c2A false g.most lk.2;have hG:a7z g=(decide (g.name.length<=100)&&(decide (g.least.length<=20)&&(decide (g.most.length<=20)&&(b5A g.least&&b5A g.most)))):=by
   unfold a7z;simp only [Bool.and_assoc]
  have z1:=a0x g.name;have z2:(((g.least.map fun l=>str (sb l)).length:Nat):Int)=(g.least.length:Int):=by rw [d9s]
  have z3:(((g.most.map fun l=>str (sb l)).length:Nat):Int)=(g.most.length:Int):=by rw [d9s]
  have y1:decide ((g.name.length:Int)>100) = !decide (g.name.length<=100):=b0A (b:=100);have y2:decide ((g.least.length:Int)>20) = !decide (g.least.length<=20):=b0A (b:=20);have y3:decide ((g.most.length:Int)>20) = !decide (g.most.length<=20):=b0A (b:=20);obtain ⟨b1,hb1⟩:∃ b,decide (g.name.length<=100)=b:=⟨_,rfl⟩
  obtain ⟨b2,hb2⟩:∃ b,decide (g.least.length<=20)=b:=⟨_,rfl⟩
  obtain ⟨b3,hb3⟩:∃ b,decide (g.most.length<=20)=b:=⟨_,rfl⟩
  obtain ⟨b4,hb4⟩:∃ b,b5A g.least=b:=⟨_,rfl⟩
  obtain ⟨b5,hb5⟩:∃ b,b5A g.most=b:=⟨_,rfl⟩
  rw [hb1] at y1 hG;rw [hb2] at y2 hG;rw [hb3] at y3 hG;rw [hb4] at c1 hG;rw [hb5] at c2 hG;refine skI ?_;refine OkS.seq ?_;refine OkS.block ?_;refine sZ 1100 ?_;refine gwI kN ?_;refine ixI kT hmk ?_;refine gwI kN ?_;cases b1
  ·refine sZ 1200 ?_
   refine nwI (ff4 z1 y1 kT kF) ?_;refine gwI kB ?_
   try simp only [d9P]
   refine gwI kB ?_
   try simp only [d9P]
   refine gwI kB ?_
   try simp only [d9P]
   refine gwI kB ?_;refine ifI ?_;refine sR 1300 ?_;refine rtI ?_;exact a0a (by rw [a2t hsk hG]) IsPure.out
  cases b2
  ·refine sZ 1200 ?_
   refine nwI (ff4 z1 y1 kT kF) ?_;refine gwI kB ?_
   try simp only [z2,y2,e0s,e0o,d9P]
   refine gwI kB ?_
   try simp only [d9P]
   refine gwI kB ?_
   try simp only [d9P]
   refine gwI kB ?_;refine ifI ?_;refine sR 1300 ?_;refine rtI ?_;exact a0a (by rw [a2t hsk hG]) IsPure.out
  cases b3
  ·refine sZ 1200 ?_
   refine nwI (ff4 z1 y1 kT kF) ?_;refine gwI kB ?_
   try simp only [z2,y2,e0s,e0o,d9P]
   refine gwI kB ?_
   try simp only [z3,y3,e0s,e0o,d9P]
   refine gwI kB ?_
   try simp only [d9P]
   refine gwI kB ?_;refine ifI ?_;refine sR 1300 ?_;refine rtI ?_;exact a0a (by rw [a2t hsk hG]) IsPure.out
  cases b4
  ·refine sZ 1200 ?_
   refine nwI (ff4 z1 y1 kT kF) ?_;refine gwI kB ?_
   try simp only [z2,y2,e0s,e0o,d9P]
   refine gwI kB ?_
   try simp only [z3,y3,e0s,e0o,d9P]
   refine gwI kB ?_;refine gcI kB ?_;refine a0j.same _ c1 d9k ?_;refine gwI kB ?_
   try simp only [d9P]
   refine gwI kB ?_;refine ifI ?_;refine sR 1300 ?_;refine rtI ?_;exact a0a (by rw [a2t hsk hG]) IsPure.out
  cases b5
  ·refine sZ 1200 ?_
   refine nwI (ff4 z1 y1 kT kF) ?_;refine gwI kB ?_
   try simp only [z2,y2,e0s,e0o,d9P]
   refine gwI kB ?_
   try simp only [z3,y3,e0s,e0o,d9P]
   refine gwI kB ?_;refine gcI kB ?_;refine a0j.same _ c1 d9k ?_;refine gwI kB ?_
   try simp only [d9P]
   refine gwI kB ?_;refine gcI kB ?_;refine a0j.same _ c2 d9k ?_;refine gwI kB ?_
   try simp only [d9P]
   refine ifI ?_;refine sR 1300 ?_;refine rtI ?_;exact a0a (by rw [a2t hsk hG]) IsPure.out
  refine sZ 1200 ?_;refine nwI (ff4 z1 y1 kT kF) ?_;refine gwI kB ?_
  try simp only [z2,y2,e0s,e0o,d9P]
  refine gwI kB ?_
  try simp only [z3,y3,e0s,e0o,d9P]
  refine gwI kB ?_;refine gcI kB ?_;refine a0j.same _ c1 d9k ?_;refine gwI kB ?_
  try simp only [d9P]
  refine gwI kB ?_;refine gcI kB ?_;refine a0j.same _ c2 d9k ?_;refine gwI kB ?_
  try simp only [d9P]
  refine ifI ?_;refine skI ?_;refine d8I w1 1400 (by kernel_rfl) ?_;refine nwI wi ?_;exact ⟨(k+1,_),⟨hk2,a3F hsk ha hG⟩,by dsimp only;omega,wkI⟩
 have hk2:k=m:=by
  have:=d9I hlt2
  omega
 subst hk2;rw [show s.gs.all a7z=true by rw [<- ha,<- hml,e0S]];refine exI ?_;refine sR 1500 ?_;refine rtI ?_;exact a0a rfl IsPure.out
open Go.ChangeShapes Go.WideShapes
def stF (P:Program)(t:Nat):Option (List (Nat × Nat × Nat)):=match P.underlying t with
 | some (.struct fs)=>some (fs.toList.map fun f=>(f.type,f.offset,P.cellsOf f.type))
 | _=>none
section
variable {H:Type} {enc:TypeId × Value->H} {W:World} {fuel:Nat} {cs:List Value} {x:DataW H × List MemPlace} {t:TypeId}
theorem c0O {l:List (Nat × Nat × Nat)}{m:Nat}(hs:stF Tryz.prog t=some l)(hm:Tryz.prog.cellsOf t=m)(h:DataW.trod enc Tryz.prog W 0 (fun _=>true) true fuel t cs=some x) :
  cs.length=m/\∃ n,∀ (i u off k:Nat),l[i]? = some (u,off,k)->∃ y,DataW.trod enc Tryz.prog W 0 (fun _=>true) true n u ((cs.drop off).take k)=some y:=by
 unfold stF at hs;split at hs
 ·rename_i fs hu
  obtain ⟨h1,n,h2⟩:=c0L hu h;refine ⟨h1.trans hm,n,fun i u off k hl=>?_⟩;obtain rfl:=e1K hs;rw [d9E] at hl;obtain ⟨f,hf,he⟩:=Option.map_eq_some_iff.1 hl;cases he;exact h2 i f (by rw [<- e1t];exact hf)
 ·cases hs
theorem a9p {a b c:Nat}{p q:List D}(h:a6O W ((cs.drop a).take b) p)(k:a6O W ((cs.drop (a+b)).take c) q):a6O W ((cs.drop a).take (b+c)) (p++q):=by
 rw [List.take_add,List.drop_drop];exact h.append k
theorem b3v {n:Nat}{p:List D}(hn:cs.length=n)(h:a6O W ((cs.drop 0).take n) p):a6O W cs p:=by
 rw [e1c,<- hn,e0S] at h;exact h
theorem b3w (h:DataW.trod enc Tryz.prog W 0 (fun _=>true) true fuel 38 cs=some x):∃ l:List UInt8,a6O W cs (str (sb l)).cells/\l.length<=maxLen:=c5L (by kernel_rfl) h
theorem a9q (h:DataW.trod enc Tryz.prog W 0 (fun _=>true) true fuel 9 cs=some x):∃ l:List UInt8,a6O W cs [str (sb l)]/\l.length<=maxLen:=c5L (by kernel_rfl) h
theorem c0M (h:DataW.trod enc Tryz.prog W 0 (fun _=>true) true fuel 37 cs=some x):∃ l:List (List UInt8),a6O W cs [.sl false 1 (l.map fun l=>str (sb l))]/\(∀ a∈l,a.length<=maxLen)/\l.length<=maxLen :=
 c3l (g:=fun l:List UInt8=>str (sb l)) (ok:=fun l=>l.length<=maxLen) (e:=38) (by kernel_rfl) (by kernel_rfl) (by decide) (fun _ _ _ h=>b3w h) h
theorem c0K (h:DataW.trod enc Tryz.prog W 0 (fun _=>true) true fuel 72 cs=some x):∃ f:a1S,a6O W cs f.D.cells/\True:=by
 obtain ⟨h1,n,h2⟩:=c0O (l:=[(9,0,1),(38,1,1),(70,2,2)]) (m:=4) (by kernel_rfl) (by kernel_rfl) h;obtain ⟨y0,k0⟩:=h2 0 _ _ _ rfl;obtain ⟨y1,k1⟩:=h2 1 _ _ _ rfl;obtain ⟨y2,k2⟩:=h2 2 _ _ _ rfl;obtain ⟨a0,r0,_⟩:=a9q k0;obtain ⟨a1,r1,_⟩:=b3w k1;obtain ⟨h3,n',h4⟩:=c0O (l:=[(9,0,1),(38,1,1)]) (m:=2) (by kernel_rfl) (by kernel_rfl) k2;obtain ⟨z0,j0⟩:=h4 0 _ _ _ rfl;obtain ⟨z1,j1⟩:=h4 1 _ _ _ rfl;obtain ⟨b0,s0,_⟩:=a9q j0;obtain ⟨b1,s1,_⟩:=b3w j1;exact ⟨⟨a0,a1,b0,b1⟩,b3v h1 (a9p (b:=1) (c:=3) r0 (a9p (b:=1) (c:=2) r1 (b3v h3 (a9p (b:=1) (c:=1) s0 s1)))),trivial⟩
def d6l (g:a1p):Prop:=g.least.length<=maxLen/\g.most.length<=maxLen
theorem c3k (h:DataW.trod enc Tryz.prog W 0 (fun _=>true) true fuel 67 cs=some x):∃ g:a1p,a6O W cs g.D.cells/\d6l g:=by
 obtain ⟨h1,n,h2⟩:=c0O (l:=[(9,0,1),(37,1,1),(37,2,1)]) (m:=3) (by kernel_rfl) (by kernel_rfl) h;obtain ⟨y0,k0⟩:=h2 0 _ _ _ rfl;obtain ⟨y1,k1⟩:=h2 1 _ _ _ rfl;obtain ⟨y2,k2⟩:=h2 2 _ _ _ rfl;obtain ⟨a0,r0,_⟩:=a9q k0;obtain ⟨a1,r1,_,l1⟩:=c0M k1;obtain ⟨a2,r2,_,l2⟩:=c0M k2;exact ⟨⟨a0,a1,a2⟩,b3v h1 (a9p (b:=1) (c:=2) r0 (a9p (b:=1) (c:=1) r1 r2)),l1,l2⟩
theorem c0N (h:DataW.trod enc Tryz.prog W 0 (fun _=>true) true fuel 25 cs=some x):∃ s:a1c,a6O W cs s.D.cells/\s.fit:=by
 obtain ⟨h1,n,h2⟩:=c0O (l:=[(22,0,1),(23,1,1)]) (m:=2) (by kernel_rfl) (by kernel_rfl) h;obtain ⟨y0,k0⟩:=h2 0 _ _ _ rfl;obtain ⟨y1,k1⟩:=h2 1 _ _ _ rfl;obtain ⟨a0,r0,_,l0⟩:=c3l (g:=a1S.D) (ok:=fun _=>True) (e:=72) (sz:=4) (by kernel_rfl) (by kernel_rfl) (by decide) (fun _ _ _ h=>c0K h) k0;obtain ⟨a1,r1,g1,l1⟩:=c3l (g:=a1p.D) (ok:=d6l) (e:=67) (sz:=3) (by kernel_rfl) (by kernel_rfl) (by decide) (fun _ _ _ h=>c3k h) k1;have hM:maxLen<=9223372036854775807:=by decide
 exact ⟨⟨a0,a1⟩,b3v h1 (a9p (b:=1) (c:=1) r0 r1),by dsimp only;omega,by dsimp only;omega,fun g hg=>⟨d9V (g1 g hg).1 hM,d9V (g1 g hg).2 hM⟩⟩
end
def a3w (a b:List UInt8):D:=.agg (c7j (decide (a=[])) (decide (b=[])) a b)
instance  (a b:List UInt8):CellsPure (a3w a b):=by unfold a3w;exact d9k
instance  (a b:List UInt8):IsPure (a3w a b):=by unfold a3w;exact d9k
def a2E (a b:List UInt8)(x:Rat):Bool:=(decide (a=[])||decide (a1H x (a0e a)>=0))&&(decide (b=[])||decide (a1H x (a0e b)<=0))
theorem c2E (a b:List UInt8)(x:Rat)(y:GF)(hx:FR x y 600)(ha:a2x a=0)(hb:a2x b=0):a0b C0 69 [a3w a b,y.D] (boo (a2E a b x)):=by
 refine a0c.walk w1 d2b rfl fun F=>?_
 obtain ⟨qa,ga⟩:∃ q,decide (a=[])=q:=⟨_,rfl⟩
 obtain ⟨qb,gb⟩:∃ q,decide (b=[])=q:=⟨_,rfl⟩
 obtain ⟨p,hp⟩:∃ q,decide (a1H x (a0e a)>=0)=q:=⟨_,rfl⟩
 obtain ⟨q,hq⟩:∃ q,decide (a1H x (a0e b)<=0)=q:=⟨_,rfl⟩
 have c1:qa=false->a0b C0 117 [y.D,(a5o a).D] (i64 (a1H x (a0e a))):=fun h=>b0r hx (a7e ha (d9I (ga.trans h))) (by decide)
 have c2:qb=false->a0b C0 117 [y.D,(a5o b).D] (i64 (a1H x (a0e b))):=fun h=>b0r hx (a7e hb (d9I (gb.trans h))) (by decide)
 have hw:a2E a b x=((qa||p)&&(qb||q)):=by unfold a2E;rw [ga,gb,hp,hq]
 unfold a3w;rw [hw,ga,gb];clear hw ga gb;cases qa<;>cases qb<;>cases p<;>cases q
 all_goals
  refine goI dr0 (ff2 hp hq) c1 c2 d9j d9j d9j d9j ?_;exact a0a rfl IsPure.out
abbrev a7W:Dr:=[(4,[0,1,2,3,4],[5])]
open Go.Proofs Go.RowKit
set_option maxRecDepth 20000
set_option maxHeartbeats 4000000
theorem ltT {i n:Nat}(h:i<n):decide ((i:Int)<(n:Int))=true:=d9q (by omega)
theorem ltF {i n:Nat}(h:n<=i):decide ((i:Int)<(n:Int))=false:=d9p (by omega)
theorem wiI {i:Nat}(h:i<9223372036854775807):IntKind.i64.wrap ((i:Int)+1)=((i+1:Nat):Int):=wI (by omega) (by omega)
abbrev LP:=List UInt8 × List UInt8
def pv (r:List LP)(k:Nat):LP:=r.getD k ([],[])
def a6G (r:List LP):D:=.sl false 10 (r.map fun p=>a3w p.1 p.2)
instance  (r:List LP):CellsPure (a6G r):=by unfold a6G;exact d9k
instance  (r:List LP):IsPure (a6G r):=by unfold a6G;exact d9k
abbrev a9v (n:Nat)(G:List (List LP)):D:=.agg [i64 (n:Int),.sl false 1 (G.map a6G)]
structure a4H (n:Nat)(G:List (List LP)):Prop where
 num:n<=1000
 len:G.length<=1000
 row:∀ r∈G,r.length=n/\∀ p∈r,a2x p.1=0/\a2x p.2=0
def a0C (G:List (List LP))(k:Nat)(x:Rat):Nat:=G.findIdx fun r=>a2E (pv r k).1 (pv r k).2 x
theorem b6Q {α:Type}{p:α->Bool}{l:List α}{i:Nat}{x:α}(hx:l[i]? = some x)(h:p x=true)(ha:∀ (j:Nat) (y:α),j<i->l[j]? = some y->p y=false):l.findIdx p=i:=by
 obtain ⟨hi,e⟩:=List.getElem?_eq_some_iff.1 hx;exact (List.findIdx_eq hi).2 ⟨by rw [e];exact h,fun j hj=>ha j _ hj (d9t _)⟩
theorem b2F {α:Type}{p:α->Bool}{l:List α}(ha:∀ (j:Nat) (y:α),j<l.length->l[j]? = some y->p y=false):l.findIdx p=l.length :=
 List.findIdx_eq_length.2 fun x hx=>by
  obtain ⟨j,hj,e⟩:=e1x hx;exact ha j x hj (by rw [d9t hj,e])
theorem a0I {α:Type}{l:List α}{i:Nat}(h:i<l.length):∃ x,l[i]? = some x:=⟨l[i],d9t h⟩
theorem a3q {α:Type}{l:List α}{Q:α->Prop}{i:Nat}{x:α}(hx:l[i]? = some x)(ha:∀ (j:Nat) (y:α),j<i->l[j]? = some y->Q y)(h:Q x):∀ (j:Nat) (y:α),j<i+1->l[j]? = some y->Q y:=fun j y hj hy=>by
 rcases d9H j i with h1|h1
 ·exact ha j y h1 hy
 ·have:j=i:=by omega
  subst this;rw [hx] at hy;cases hy;exact h
theorem c0C {r:List LP}{k:Nat}(h:k<r.length):r[k]? = some (pv r k):=by
 unfold pv;rw [d9T,d9t h];rfl
theorem b4P (n:Nat)(G:List (List LP))(hG:a4H n G)(k:Nat)(hk:k<n)(x:Rat)(y:GF)(hx:FR x y 600):a0b C0 134 [a9v n G,i64 (k:Int),y.D] (i64 (a0C G k x:Nat)):=by
 refine a0c.walk w1 c4j rfl fun F=>?_
 have el:(((G.map a6G).length:Nat):Int)=(G.length:Int):=by rw [d9s]
 have hn:=hG.len;refine goI a7W el d9j d9j d9j d9j d9j d9j ?_;refine OkS.loop (α:=Nat × Nat) (fun p=>⟨[(1,i64 (k:Int)),(3,.optr 0 0 2 0 0),(5,.optr 1 1 4 0 0),(10,.sl false 1 (G.map a6G)),(11,i64 (G.length:Int)),(12,i64 (p.1:Int))],[⟨1,1,116,4,[y.D]⟩,⟨0,0,96,2,[.agg [i64 (n:Int),.sl false 1 (G.map a6G)]]⟩],p.2⟩) (fun p=>G.length - p.1) (fun p=>p.1<=G.length/\∀ (j:Nat) (r:List LP),j<p.1->G[j]? = some r->a2E (pv r k).1 (pv r k).2 x=false) (0,_) ⟨d9U _,fun j r hj=>d9n hj (e0L j)⟩ wkI ?_;rintro ⟨i,m⟩ F ⟨hi,ha⟩;dsimp only at hi ha ⊢;rcases d9H i G.length with h2|h2
 ·have e0:=ltT h2
  have wi:=wiI (i:=i) (by omega);obtain ⟨r,hr⟩:=a0I h2;have hm:(G.map a6G)[i]? = some (a6G r):=by rw [d9E,hr];rfl
  obtain ⟨hl,hE⟩:=hG.row r (d9r hr);have hp:=c0C (r:=r) (k:=k) (by omega);have hE2:=hE _ (d9r hp);have hm2:(r.map fun p=>a3w p.1 p.2)[k]? = some (a3w (pv r k).1 (pv r k).2):=by rw [d9E,hp];rfl
  have c:=c2E (pv r k).1 (pv r k).2 x y hx hE2.1 hE2.2;obtain ⟨b,hb⟩:∃ b,a2E (pv r k).1 (pv r k).2 x=b:=⟨_,rfl⟩
  rw [hb] at c;cases b
  ·refine goI a7W (ff2 e0 wi) hm hm2 c d9j d9j d9j ?_
   exact ⟨(i+1,_),⟨h2,a3q hr ha hb⟩,by dsimp only;omega,wkI⟩
  ·refine goI a7W e0 hm hm2 c d9j d9j d9j ?_
   exact a0a (by unfold a0C;rw [b6Q hr hb ha]) IsPure.out
 ·have e0:=ltF h2
  have:i=G.length:=by omega
  subst this;refine goI a7W (ff2 e0 el) d9j d9j d9j d9j d9j d9j ?_;exact a0a (by unfold a0C;rw [b2F ha]) IsPure.out
abbrev txD (b:Bool)(v:List (List UInt8)):D:=.sl b 1 (v.map fun l=>str (sb l))
def frD (v:List (List UInt8)):D:=.sl false 4 (v.map fun l=>(a0p l).D)
instance  (l:List UInt8):CellsPure (a0p l).D:=by unfold GF.D;exact d9k
instance  (v:List (List UInt8)):CellsPure (frD v):=by unfold frD;exact d9k
instance  (v:List (List UInt8)):IsPure (frD v):=by unfold frD;exact d9k
theorem a8w {v:List (List UInt8)}(h:a3s v=0):∀ l∈v,chk l=0:=by
 induction v with
 | nil=>intro l hl;cases hl
 | cons a r ih =>
  have h':(if chk a≠0 then chk a else a3s r)=0:=h
  by_cases g:chk a=0
  ·rw [d9m (fun k=>k g)] at h'
   intro l hl;rcases d9F.1 hl with rfl|h2
   ·exact g
   ·exact ih h' l h2
  ·rw [d9l g] at h';exact d9n h' g
theorem b8s {v:List (List UInt8)}{i:Nat}{l:List UInt8}(ha:∀ (j:Nat) (y:List UInt8),j<i->v[j]? = some y->chk y=0)(hl:v[i]? = some l)(h:chk l≠0):a3s v=chk l:=by
 rw [a8v ha,e0n (List.getElem?_eq_some_iff.1 hl).1,(List.getElem?_eq_some_iff.1 hl).2];exact d9l h
theorem b0h {v:List (List UInt8)}(ha:∀ (j:Nat) (y:List UInt8),j<v.length->v[j]? = some y->chk y=0):a3s v=0:=by
 rw [a8v (i:=v.length) ha,e2n];rfl
theorem b3g {v:List (List UInt8)}{i:Nat}{l:List UInt8}(h:v[i]? = some l):lv v i=l:=by
 unfold lv;rw [d9T,h];rfl
theorem b6T (b:Bool)(v:List (List UInt8))(hl:v.length<=100000)(hf:∀ l∈v,l.length<=100000)(hc:a3s v=0):a0b C0 87 [txD b v] (frD v):=by
 refine a0c.walk w1 d2j rfl fun F=>?_
 have el:(((v.map fun l=>str (sb l)).length:Nat):Int)=(v.length:Int):=by rw [d9s]
 refine goI dr0 (ff2 el kN) d9j d9j d9j d9j d9j d9j ?_;refine OkS.loop (α:=Nat × List D × Nat) (fun p=>⟨[(3,.osl 102 3 4 0 v.length),(9,txD b v),(10,i64 (v.length:Int)),(11,i64 (p.1:Int))],[⟨102,3,116,4,p.2.1⟩],p.2.2⟩) (fun p=>v.length - p.1)
  (fun p=>p.1<=v.length/\p.2.1.length=v.length/\∀ (j:Nat) (l:List UInt8),j<p.1->v[j]? = some l->p.2.1[j]? = some (a0p l).D) (0,List.replicate v.length (.agg [i64 0,a1w,i64 0,a1w]),_) ⟨d9U _,e1E,fun j r hj=>d9n hj (e0L j)⟩ wkI ?_
 rintro ⟨i,L,m⟩ F ⟨hi,hL,ha⟩;dsimp only at hi hL ha ⊢;rcases d9H i v.length with h2|h2
 ·have e0:=ltT h2
  have wi:=wiI (i:=i) (by omega);obtain ⟨l,hl2⟩:=a0I h2;have hm:(v.map fun l=>str (sb l))[i]? = some (str (sb l)):=by rw [d9E,hl2];rfl
  have hmem:=d9r hl2;have c:=a7u (hf l hmem) (a8w hc l hmem);obtain ⟨z,hz⟩:∃ z,L[i]? = some z:=a0I (by omega);refine goI dr0 (ff5 e0 wi hz kN d9S) hm c d9j d9j d9j d9j ?_;refine ⟨(i+1,L.set i (a0p l).D,_),⟨h2,by rw [e0i];exact hL,fun j y hj hy=>?_⟩,by dsimp only;omega,wkI⟩;dsimp only at hj ⊢;rcases Nat.decEq j i with hne|rfl
  ·rw [e0N (fun h=>hne h.symm)];exact ha j y (by omega) hy
  ·rw [e1T (by omega)]
   rw [hl2] at hy;cases hy;rfl
 ·have e0:=ltF h2
  have:i=v.length:=by omega
  subst this;have hLe:L=v.map fun l=>(a0p l).D:=e2w fun j=>by
   rw [d9E];rcases d9H j v.length with h|h
   ·obtain ⟨y,hy⟩:=a0I h
    rw [hy,ha j y h hy];rfl
   ·rw [e0c (by omega),e0c h];rfl
  refine goI dr0 e0 d9j d9j d9j d9j d9j d9j ?_;have hz:=b0y 102 3 116 4 L;rw [hL] at hz;exact ⟨_,hz,by rw [hLe];exact (d9k:IsPure (frD v)).out,by rw [hLe];rfl⟩
def a4O (n:Nat)(v:List (List UInt8)):Nat:=if v.length=n then a3s v else 2
def b3J (n:Nat)(v:List (List UInt8)):D:=if a4O n v=0 then frD v else a1w
instance  (n:Nat)(v:List (List UInt8)):IsPure (b3J n v):=by unfold b3J;split<;>exact d9k
theorem d3Z {a b:Nat}(h:a≠b):(((a:Nat):Int) != (b:Int))=true:=by
 have:(((a:Nat):Int)==(b:Int))=false:=d9D.2 (by omega)
 unfold bne;rw [this];rfl
theorem d3Y {a b:Nat}(h:a=b):(((a:Nat):Int) != (b:Int))=false:=by subst h;simp
theorem b3N {a:Nat}(h:a≠0):(((a:Nat):Int) != 0)=true:=a3O (by omega)
theorem b4c {a:Nat}(h:a=0):(((a:Nat):Int) != 0)=false:=by subst h;rfl
theorem d6b {a:Nat}(h:a≠0):(((a:Nat):Int)==0)=false:=d9D.2 (by omega)
theorem d6c {a:Nat}(h:a=0):(((a:Nat):Int)==0)=true:=by subst h;rfl
def Few (v:List (List UInt8)):Prop:=v.length<=100000/\∀ l∈v,l.length<=100000
theorem c1d (n:Nat)(G:List (List LP))(hG:a4H n G)(b:Bool)(v:List (List UInt8))(hf:Few v):a0b C0 133 [a9v n G,txD b v] (.tup [b3J n v,i64 (a4O n v:Nat)]):=by
 refine a0c.walk w1 c4i rfl fun F=>?_
 have el:(((v.map fun l=>str (sb l)).length:Nat):Int)=(v.length:Int):=by rw [d9s]
 have hn:=hG.num;rcases Nat.decEq v.length n with h1|h1
 ·have e0:=d3Z h1
  have hv:a4O n v=2:=d9m h1;have hd:b3J n v=a1w:=d9m (by rw [hv];decide);rw [hv,hd];refine goI dr0 (ff2 el e0) d9j d9j d9j d9j d9j d9j ?_;exact a0a rfl IsPure.out
 ·have e0:=d3Y h1
  have hv:a4O n v=a3s v:=d9l h1;have hvd:a3s v≠0->b3J n v=a1w:=fun h=>d9m (by rw [hv];exact h)
  have hvz:a3s v=0->b3J n v=frD v:=fun h=>d9l (by rw [hv];exact h)
  rw [hv];refine goI dr0 (ff2 el e0) d9j d9j d9j d9j d9j d9j ?_;refine OkS.loop (α:=Nat × Nat) (fun p=>⟨[(1,txD b v),(14,txD b v),(15,i64 (v.length:Int)),(16,i64 (p.1:Int))],[],p.2⟩) (fun p=>v.length - p.1)
   (fun p=>p.1<=v.length/\∀ (j:Nat) (l:List UInt8),j<p.1->v[j]? = some l->chk l=0) (0,_) ⟨d9U _,fun j r hj=>d9n hj (e0L j)⟩ wkI ?_
  rintro ⟨i,m⟩ F ⟨hi,ha⟩;dsimp only at hi ha ⊢;have hl:=hf.1;rcases d9H i v.length with h2|h2
  ·have e1:=ltT h2
   have wi:=wiI (i:=i) (by omega);obtain ⟨l,hl2⟩:=a0I h2;have hm:(v.map fun l=>str (sb l))[i]? = some (str (sb l)):=by rw [d9E,hl2];rfl
   have c:=a6m l (hf.2 l (d9r hl2));rcases Nat.decEq (chk l) 0 with h3|h3
   ·have e2:=b3N h3
    have hr:=b8s ha hl2 h3;rw [hr,hvd (by rw [hr];exact h3)];refine goI dr0 (ff3 e1 e2 kN) hm c d9j d9j d9j d9j ?_;exact a0a rfl IsPure.out
   ·have e2:=b4c h3
    refine goI dr0 (ff4 e1 e2 wi kN) hm c d9j d9j d9j d9j ?_;exact ⟨(i+1,_),⟨h2,a3q hl2 ha h3⟩,by dsimp only;omega,wkI⟩
  ·have e1:=ltF h2
   have:i=v.length:=by omega
   subst this;have hr:=b0h ha;have c:=b6T b v hf.1 hf.2 hr;rw [hr,hvz hr];refine goI dr0 e1 c d9j d9j d9j d9j d9j ?_;exact a0a rfl IsPure.out
def a5U (f:Nat->Nat):Nat->Nat
 | 0=>0
 | k+1=>max (a5U f k) (f k)
def a3b (G:List (List LP))(v:List (List UInt8)):Nat:=a5U (fun k=>a0C G k (a0e (lv v k))) v.length
theorem a5m (G:List (List LP))(k:Nat)(x:Rat):a0C G k x<=G.length:=List.findIdx_le_length
theorem b5T {f:Nat->Nat}{B:Nat}(h:∀ k,f k<=B):∀ k,a5U f k<=B
 | 0=>d9U _
 | k+1=>Nat.max_le.2 ⟨b5T h k,h k⟩
theorem c1Y (G:List (List LP))(v:List (List UInt8)):a3b G v<=G.length:=b5T (fun k=>a5m G k _) _
theorem c8W (n:Nat)(G:List (List LP))(hG:a4H n G)(v:List (List UInt8))(hl:v.length=n)(hc:a3s v=0):a0b C0 67 [a9v n G,frD v] (i64 (a3b G v:Nat)):=by
 refine a0c.walk w1 d2a rfl fun F=>?_
 have el:(((v.map fun l=>(a0p l).D).length:Nat):Int)=(v.length:Int):=by rw [d9s]
 have hn:=hG.num;have hlen:=hG.len;unfold frD;refine goI dr0 el d9j d9j d9j d9j d9j d9j ?_;refine OkS.loop (α:=Nat × Nat) (fun p=>⟨[(2,.optr 0 0 2 0 0),(5,i64 (a5U (fun k=>a0C G k (a0e (lv v k))) p.1:Nat)),(8,.sl false 4 (v.map fun l=>(a0p l).D)),(9,i64 (v.length:Int)),(10,i64 (p.1:Int))],[⟨0,0,96,2,[a9v n G]⟩],p.2⟩) (fun p=>v.length - p.1) (fun p=>p.1<=v.length) (0,_) (d9U _) wkI ?_;rintro ⟨i,m⟩ F hi;dsimp only at hi ⊢;rcases d9H i v.length with h2|h2
 ·have e1:=ltT h2
  have wi:=wiI (i:=i) (by omega);obtain ⟨l,hl2⟩:=a0I h2;have hm:(v.map fun l=>(a0p l).D)[i]? = some (a0p l).D:=by rw [d9E,hl2];rfl
  have hx:=a3H (a8w hc l (d9r hl2));have c:=b4P n G hG i (by omega) _ _ hx;have hs:a5U (fun k=>a0C G k (a0e (lv v k))) (i+1)=max (a5U (fun k=>a0C G k (a0e (lv v k))) i) (a0C G i (a0e l)):=by
   show max _ (a0C G i (a0e (lv v i)))=_;rw [b3g hl2]
  obtain ⟨A,hA⟩:∃ A,a5U (fun k=>a0C G k (a0e (lv v k))) i=A:=⟨_,rfl⟩
  obtain ⟨B,hB⟩:∃ B,a0C G i (a0e l)=B:=⟨_,rfl⟩
  rw [hA,hB] at hs;rw [hB] at c;rw [hA];have hmx:(max (A:Int) (B:Int))=((max A B:Nat):Int):=by omega
  refine goI dr0 (ff4 e1 wi hmx kN) hm c d9j d9j d9j d9j ?_;exact ⟨(i+1,_),h2,by dsimp only;omega,by (dsimp only;rw [hs];exact wkI)⟩
 ·have e1:=ltF h2
  have:i=v.length:=by omega
  subst this;refine goI dr0 e1 d9j d9j d9j d9j d9j d9j ?_;exact a0a rfl IsPure.out
theorem a5S {H Hf:Hp}{K g T sz:Nat}{l:List D}(h:l=[]\/Hp.get H K=some ⟨K,g,T,sz,l⟩)(hf:Hp.get Hf K=none):Fz H Hf (a6g K g sz l) (.sl false sz l):=by
 cases l with
 | nil=>exact .nil sz
 | cons x l =>
  rcases h with h|h
  ·cases h
  refine .osl (e:=⟨K,g,T,sz,x::l⟩) h hf rfl rfl (by simp) (by simp) (fun j d d' h1 h2=>?_) fun j d d' q c c' h1 h2 h3 h4=>?_
  ·rw [d9S] at h1;rw [h1] at h2;cases h2;rfl
  ·rw [d9S] at h1;rw [h1] at h2;cases h2;rw [h3] at h4;cases h4;exact Fz.refl _
theorem b1x {H Hf r r':Hp}{K g T sz:Nat}{l:List D}(h:FzH H Hf r r'):FzH H Hf (a5O K g T sz l++r) r':=by
 cases l with
 | nil=>exact h
 | cons x l=>exact .drop h
theorem a8Q {K g T sz:Nat}{l:List D}{H:Hp}:l=[]\/Hp.get (a5O K g T sz l++H) K=some ⟨K,g,T,sz,l⟩:=by
 cases l with
 | nil=>exact .inl rfl
 | cons x l=>right;simp [a5O,Hp.get]
theorem c2D {K k g T sz:Nat}{l:List D}(h:Nat.beq K k=false):Hp.get (a5O K g T sz l) k=none:=by
 cases l with
 | nil=>rfl
 | cons x l=>simp [a5O,Hp.get,h]
def a0d (s:a1c):List (List LP):=s.gs.map fun g=>g.least.zip g.most
def c1c (s:a1c):Prop:=s.fs.length<=8/\s.gs.length<=16/\∀ g∈s.gs,gOk s.fs.length g
theorem c1M {g:a1p}{n k:Nat}(h:gOk n g)(hk:k<n):(g.least.zip g.most)[k]? = some (lv g.least k,lv g.most k):=by
 rw [List.getElem?_zip_eq_some];exact ⟨a9a (by rw [h.1];exact hk),a9a (by rw [h.2.1];exact hk)⟩
theorem b2a {g:a1p}{n:Nat}(h:gOk n g):(g.least.zip g.most).length=n:=by rw [List.length_zip,h.1,h.2.1];exact Nat.min_self n
theorem a4p {s:a1c}(h:c1c s):a4H s.fs.length (a0d s):=by
 refine ⟨by have:=h.1;omega,by unfold a0d;rw [d9s];have:=h.2.1;omega,fun r hr=>?_⟩;obtain ⟨g,hg,rfl⟩:=List.mem_map.1 hr;have hk:=h.2.2 g hg;refine ⟨b2a hk,fun p hp=>?_⟩;obtain ⟨k,hk1,e⟩:=e1x hp;rw [b2a hk] at hk1
 have:=c1M hk hk1
 rw [d9t (by rw [b2a hk];exact hk1),e] at this;cases this;exact hk.2.2 k hk1
theorem a1s {s:a1c}(h:a0o s=0):c1c s:=by
 unfold a0o at h
 by_cases h1:b2b s.fs.length=0
 ·rw [d9m (fun k=>k h1)] at h
  by_cases h2:a8L (a2h s.fs) s.fs.length=0
  ·rw [d9m (fun k=>k h2)] at h
   by_cases h3:b2r s.gs.length=0
   ·rw [d9m (fun k=>k h3)] at h
    refine ⟨?_,?_,fun g hg=>?_⟩
    ·unfold b2b at h1
     by_cases q:s.fs.length=0
     ·omega
     ·rw [d9m q] at h1
      by_cases q2:s.fs.length>8
      ·rw [d9l q2] at h1;cases h1
      ·omega
    ·unfold b2r at h3
     by_cases q:s.gs.length=0
     ·omega
     ·rw [d9m q] at h3
      by_cases q2:s.gs.length>16
      ·rw [d9l q2] at h3;cases h3
      ·omega
    ·obtain ⟨i,hi,e⟩:=e1x hg
     have:=a5Q (a7Z h i hi)
     rw [d9T,d9t hi,e] at this;exact this
   ·rw [d9l h3] at h;exact d9n h h3
  ·rw [d9l h2] at h;exact d9n h h2
 ·rw [d9l h1] at h;exact d9n h h1
def a4U (s:a1c):D:=if a0o s=0 then a9v s.fs.length (a0d s) else .agg [i64 0,a1w]
instance  (s:a1c):IsPure (a4U s):=by unfold a4U;split<;>exact d9k
abbrev a4P:Dr:=[(12,[0,1,2,3,4,5,6,7,8,9,10,11,12,13,14],[15,16])]
open Go.Proofs Go.RowKit
set_option maxRecDepth 20000
set_option maxHeartbeats 4000000
theorem c0o (s:a1c)(hs:s.few):a0b C0 99 [s.D] (.tup [a4U s,i64 (a0o s:Nat)]):=by
 refine a0c.walk w1 d2n rfl fun F=>?_
 have c1:=d7l s hs;have el1:(((s.fs.map a1S.D).length:Nat):Int)=(s.fs.length:Int):=by rw [d9s]
 have el2:(((s.gs.map a1p.D).length:Nat):Int)=(s.gs.length:Int):=by rw [d9s]
 unfold a1c.D at c1 ⊢;rcases Nat.decEq (a0o s) 0 with h0|h0
 ·have e0:=b3N h0
  have hd:a4U s=.agg [i64 0,a1w]:=d9m h0;rw [hd];refine goI a4P e0 c1 d9j d9j d9j d9j d9j ?_;exact a0a rfl IsPure.out
 have e0:=b4c h0;have hd:a4U s=a9v s.fs.length (a0d s):=d9l h0;have hok:=a1s h0;have hG:=a4p hok;rw [hd];rw [h0] at c1 e0 ⊢;obtain ⟨h8,h16,hgo⟩:=hok;obtain ⟨gsD,hgsD⟩:∃ x,s.gs.map a1p.D=x:=⟨_,rfl⟩
 obtain ⟨fsD,hfsD⟩:∃ x,s.fs.map a1S.D=x:=⟨_,rfl⟩
 obtain ⟨n,hn⟩:∃ n,s.fs.length=n:=⟨_,rfl⟩
 obtain ⟨N,hN⟩:∃ n,s.gs.length=n:=⟨_,rfl⟩
 have hrows:∀ i g,s.gs[i]? = some g->(a0d s).take (i+1)=(a0d s).take i++[g.least.zip g.most]:=fun i g h=>by
  rw [e0Z]
  congr 1
  unfold a0d;rw [d9E,h];rfl
 have hgl:(a0d s).length=N:=by unfold a0d;rw [d9s,hN]
 have hfew:=hs.2.2.2;rw [hgsD,hN] at el2;rw [hfsD,hn] at el1;rw [hn] at hgo h8 ⊢;rw [hN] at h16;rw [hgsD,hfsD] at c1 ⊢;have pf:IsPure (.sl false 4 fsD):=by rw [<- hfsD];exact d9k
 have pg:IsPure (.sl false 3 gsD):=by rw [<- hgsD];exact d9k
 generalize hR0:a0d s=G at *;refine goI a4P (ff3 e0 el1 el2) c1 d9j d9j d9j d9j d9j ?_;refine OkS.loop (α:=Nat × List D × Nat × Nat) (fun p=>⟨[(1,.optr 0 0 2 0 0),(2,.optr 1 1 2 0 0),(5,.optr 404 12 2 0 0),(21,.sl false 3 gsD),(22,i64 (N:Int)),(23,i64 (p.1:Int))],
   [⟨404,12,96,2,[.agg [i64 (n:Int),a6g 1404 p.2.2.1 1 p.2.1]]⟩,⟨1,1,96,2,[.agg [i64 0,a1w]]⟩,⟨0,0,25,2,[.agg [.sl false 4 fsD,.sl false 3 gsD]]⟩]++a5O 1404 p.2.2.1 124 1 p.2.1,p.2.2.2⟩) (fun p=>N - p.1)
  (fun p=>p.1<=N/\p.2.1=(G.take p.1).map a6G) (0,[],0,_) ⟨d9U _,rfl⟩ wkI ?_
 rintro ⟨i,R,g2,m⟩ F ⟨hi,hR⟩;dsimp only at hi hR ⊢;rcases d9H i N with h2|h2
 rotate_left
 ·have e1:=ltF h2
  have:i=N:=by omega
  subst this;have hRG:R=G.map a6G:=by rw [hR,<- hgl,e0S]
  refine goI a4P e1 d9j d9j d9j d9j d9j d9j ?_;refine ⟨.tup [a9v n G,i64 0],.tup rfl fun j d d' h1 h2=>?_,IsPure.out,rfl⟩;rcases j with _|_|j
  ·cases h1;cases h2
   refine .agg rfl fun j d d' h1 h2=>?_
   rcases j with _|_|j
   ·cases h1;cases h2;exact .refl _
   ·cases h1;cases h2
    rw [<- hRG];exact a5S (by cases R with|nil=>exact .inl rfl|cons x l=>right;rfl) rfl
   ·simp at h1
  ·cases h1;cases h2;exact .refl _
  ·simp at h1
 have e1:=ltT h2;have wi:=wiI (i:=i) (by omega);obtain ⟨g,hg⟩:∃ g,s.gs[i]? = some g:=a0I (by omega);have hm:gsD[i]? = some (.agg [str (sb g.name),.sl false 1 (g.least.map fun l=>str (sb l)),.sl false 1 (g.most.map fun l=>str (sb l))]):=by rw [<- hgsD,d9E,hg];rfl
 have hgk:=hgo g (d9r hg);have hgf:=hfew g (d9r hg);have hrow:=hrows i g hg;obtain ⟨A,hA⟩:∃ A,a6g 1404 g2 1 R=A:=⟨_,rfl⟩
 obtain ⟨HH,hHH⟩:∃ A,a5O 1404 g2 124 1 R=A:=⟨_,rfl⟩
 have hget:∀ k,Nat.beq 1404 k=false->Hp.get HH k=none:=fun k hk=>by rw [<- hHH];exact c2D hk
 obtain ⟨P,hP⟩:∃ P,g.least.zip g.most=P:=⟨_,rfl⟩
 have hPl:P.length=n:=by rw [<- hP];exact b2a hgk
 rw [hP] at hrow;rw [hA,hHH];refine goI a4P (ff2 e1 el1) hm d9j d9j d9j d9j d9j ?_;have hzip:∀ k,k<n->P[k]? = some (lv g.least k,lv g.most k):=fun k hk=>by rw [<- hP];exact c1M hgk hk
 refine OkS.loop (α:=Nat × List D × Nat × Nat × Nat) (fun p=>⟨[(1,.optr 0 0 2 0 0),(2,.optr 1 1 2 0 0),(5,.optr 404 12 2 0 0),(7,.optr 702 p.2.2.2.1 3 0 0),(8,a6g 1215 p.2.2.1 10 p.2.1),(21,.sl false 3 gsD),(22,i64 (N:Int)),(23,i64 (i:Int)),(29,i64 (n:Int)),(30,i64 (p.1:Int))],
   a5O 1215 p.2.2.1 123 10 p.2.1++([⟨702,p.2.2.2.1,67,3,[.agg [str (sb g.name),.sl false 1 (g.least.map fun l=>str (sb l)),.sl false 1 (g.most.map fun l=>str (sb l))]]⟩,⟨404,12,96,2,[.agg [i64 (n:Int),A]]⟩,⟨1,1,96,2,[.agg [i64 0,a1w]]⟩,⟨0,0,25,2,[.agg [.sl false 4 fsD,.sl false 3 gsD]]⟩]++HH),p.2.2.2.2⟩) (fun p=>n - p.1)
  (fun p=>p.1<=n/\p.2.1=(P.take p.1).map fun p=>a3w p.1 p.2) (0,[],0,_,_) ⟨d9U _,rfl⟩ wkI ?_
 rintro ⟨k,L,g3,g4,m3⟩ F ⟨hk,hL⟩;dsimp only at hk hL ⊢;rcases d9H k n with h3|h3
 ·have e2:=ltT h3
  have wk:=wiI (i:=k) (by omega);have m1:=a4B (l:=g.least) (k:=k) (by rw [hgk.1];exact h3);have m2:=a4B (l:=g.most) (k:=k) (by rw [hgk.2.1];exact h3);have f1:=a6z (l:=g.least) (k:=k) (by rw [hgk.1];exact h3) hgf.2.2.2.1;have f2:=a6z (l:=g.most) (k:=k) (by rw [hgk.2.1];exact h3) hgf.2.2.2.2;have hE:=hgk.2.2 k h3;have hz:=hzip k h3;have hsn:(P.take (k+1)).map (fun p=>a3w p.1 p.2)=L++[a3w (lv g.least k) (lv g.most k)]:=by rw [hL,e0Z,hz,e0Q];rfl
  have hLl:L.length=k:=by rw [hL,d9s,d9J];omega
  have ca:=b0P _ f1 hE.1;have cb:=b0P _ f2 hE.2;have hLle:L.length<=8:=by omega
  clear hL;rcases L with _|⟨x,l⟩
  all_goals
   (try simp only [d9u] at hLle)
   dsimp only [a2a,a2b,a1B,a1C]
  ·refine goI a4P (ff3 e2 wk kN) m1 m2 ca cb d9j d9j ?_
   exact ⟨(k+1,[a3w (lv g.least k) (lv g.most k)],_,_,_),⟨h3,hsn.symm⟩,by dsimp only;omega,wkI⟩
  ·have htk:List.take (l.length+1) (x::l)=x::l:=by simp
   refine goI a4P (ff4 e2 wk htk kN) m1 m2 ca cb d9j d9j ?_;exact ⟨(k+1,x::l++[a3w (lv g.least k) (lv g.most k)],_,_,_),⟨h3,hsn.symm⟩,by dsimp only;omega,by (dsimp only;rw [a2s];exact wkI)⟩
 have e2:=ltF h3
 have:k=n:=by omega
 subst this;have hLr:L=P.map fun p=>a3w p.1 p.2:=by rw [hL,<- hPl,e0S]
 refine sZ 1000 ?_;refine nwI e2 ?_;refine OkS.seq ?_;refine ifI ?_;refine exI ?_;refine OkS.weak ⟨[(1,.optr 0 0 2 0 0),(2,.optr 1 1 2 0 0),(5,.optr 404 12 2 0 0),(8,.sl false 10 (P.map fun p=>a3w p.1 p.2)),(21,.sl false 3 gsD),(22,i64 (N:Int)),(23,i64 (i:Int))],
   [⟨404,12,96,2,[.agg [i64 (k:Int),A]]⟩,⟨1,1,96,2,[.agg [i64 0,a1w]]⟩,⟨0,0,25,2,[.agg [.sl false 4 fsD,.sl false 3 gsD]]⟩]++HH,_⟩ ⟨?_,?_,d9y _⟩ ?_
 ·exact b1x (.drop (.keep (.keep (.keep (a5l _)))))
 ·refine ⟨.refl _,.refl _,.refl _,?_,.refl _,.refl _,.refl _,trivial⟩
  rw [<- hLr];exact a5S a8Q (hget _ rfl)
 clear hL hLr;have hsn:(G.take (i+1)).map a6G=R++[a6G P]:=by rw [hrow,e0Q,<- hR];rfl
 have hsr:a6G P=.sl false 10 (P.map fun p=>a3w p.1 p.2):=rfl;rw [hsr] at hsn;have hRl:R.length<=16:=by rw [hR,d9s,d9J];omega
 have pP:IsPure (a6G P):=d9k;rw [hsr] at pP;obtain ⟨PD,hPD⟩:∃ r,(P.map fun p=>a3w p.1 p.2)=r:=⟨_,rfl⟩
 rw [hPD] at pP ⊢;rw [hPD] at hsn;clear hR;rcases R with _|⟨x,l⟩
 ·subst hA hHH
  dsimp only [a2a,a2b,List.append_nil];refine rI 1400 ?_;refine OkS.perm (List.perm_append_comm (l₁:=[_]) (l₂:=[_,_,_])) ?_;refine goI a4P wi d9j d9j d9j d9j d9j d9j ?_;exact ⟨(i+1,[.sl false 10 PD],_,_),⟨h2,hsn.symm⟩,by dsimp only;omega,wkI⟩
 ·subst hA hHH
  have htk:List.take (l.length+1) (x::l)=x::l:=by simp
  simp only [d9u] at hRl;dsimp only [a1B,a1C];refine d8I w1 1400 (by kernel_rfl) ?_;refine nwI htk ?_;refine OkS.perm (List.perm_append_comm (l₁:=[_]) (l₂:=[_,_,_])) ?_;refine goI a4P wi d9j d9j d9j d9j d9j d9j ?_;exact ⟨(i+1,x::l++[.sl false 10 PD],_,_),⟨h2,hsn.symm⟩,by dsimp only;omega,by (dsimp only;rw [a2s];exact wkI)⟩
def unk (g:Int)(n:Nat):Nat:=if g<0\/(n:Int)<=g then 10 else 0
theorem b6v {g:Int}{n:Nat}(h:unk g n=0):∃ k:Nat,g=k/\k<n:=by
 unfold unk at h
 by_cases g1:g<0\/(n:Int)<=g
 ·rw [d9l g1] at h;cases h
 ·exact ⟨g.toNat,by omega,by omega⟩
theorem d6u {g:Int}{n:Nat}(h:g<0):unk g n=10:=d9l (.inl h)
theorem d6v {g:Int}{n:Nat}(h:(n:Int)<=g):unk g n=10:=d9l (.inr h)
theorem d6w {g:Int}{n:Nat}(h:¬ g<0)(k:¬ (n:Int)<=g):unk g n=0:=d9m fun q=>q.elim h k
def b6F (s:a1c)(v:List (List UInt8)):Nat:=if a0o s=0 then a4O s.fs.length v else a0o s
theorem b7u (n:Nat)(G:List (List LP))(g:Int):a0b C0 52 [a9v n G,i64 g] (i64 (unk g G.length:Nat)):=by
 refine a0c.walk w1 d1U rfl fun F=>?_
 have el:(((G.map a6G).length:Nat):Int)=(G.length:Int):=by rw [d9s]
 by_cases h1:g<0
 ·have e1:decide (g<0)=true:=d9q h1
  refine goI dr0 e1 (a1O true 10) d9j d9j d9j d9j d9j ?_;rw [d6u h1];exact a0a rfl IsPure.out
 ·have e1:decide (g<0)=false:=d9p h1
  by_cases h2:(G.length:Int)<=g
  ·have e2:decide (g>=(G.length:Int))=true:=d9q h2
   refine goI dr0 (ff3 e1 e2 el) (a1O true 10) d9j d9j d9j d9j d9j ?_;rw [d6v h2];exact a0a rfl IsPure.out
  ·have e2:decide (g>=(G.length:Int))=false:=d9p h2
   refine goI dr0 (ff3 e1 e2 el) (a1O false 10) d9j d9j d9j d9j d9j ?_;rw [d6w h1 h2];exact a0a rfl IsPure.out
theorem b4O (n:Nat)(G:List (List LP))(g:Int):a0b C0 53 [a9v n G,i64 g] (i64 (unk g n:Nat)):=by
 refine a0c.walk w1 d1V rfl fun F=>?_
 by_cases h1:g<0
 ·have e1:decide (g<0)=true:=d9q h1
  refine goI dr0 e1 (a1O true 10) d9j d9j d9j d9j d9j ?_;rw [d6u h1];exact a0a rfl IsPure.out
 ·have e1:decide (g<0)=false:=d9p h1
  by_cases h2:(n:Int)<=g
  ·have e2:decide (g>=(n:Int))=true:=d9q h2
   refine goI dr0 (ff2 e1 e2) (a1O true 10) d9j d9j d9j d9j d9j ?_;rw [d6v h2];exact a0a rfl IsPure.out
  ·have e2:decide (g>=(n:Int))=false:=d9p h2
   refine goI dr0 (ff2 e1 e2) (a1O false 10) d9j d9j d9j d9j d9j ?_;rw [d6w h1 h2];exact a0a rfl IsPure.out
def c7w (e:Nat)(v:List (List UInt8)):D:=if e=0 then frD v else a1w
instance  (e:Nat)(v:List (List UInt8)):IsPure (c7w e v):=by unfold c7w;split<;>exact d9k
theorem a6B (s:a1c):∃ x y,a4U s=.agg [i64 x,y]:=by
 unfold a4U;split
 ·exact ⟨_,_,rfl⟩
 ·exact ⟨_,_,rfl⟩
theorem a1z (s:a1c):(a0d s).length=s.gs.length:=d9s ..
theorem c1D (s:a1c)(hs:s.few)(b:Bool)(v:List (List UInt8))(hf:Few v):a0b C0 66 [s.D,txD b v] (.tup [a4U s,c7w (b6F s v) v,i64 (b6F s v:Nat)]):=by
 refine a0c.walk w1 d1Z rfl fun F=>?_
 have c1:=c0o s hs;obtain ⟨q,hq⟩:∃ q,b6F s v=q:=⟨_,rfl⟩
 rw [hq];unfold a1c.D at c1 ⊢;rcases Nat.decEq (a0o s) 0 with h0|h0
 ·have e0:=b3N h0
  have hd:a4U s=.agg [i64 0,a1w]:=d9m h0;have hv:q=a0o s:=by rw [<- hq];exact d9m h0
  have hd2:c7w q v=a1w:=d9m (by rw [hv];exact h0);rw [hd2,hd];rw [hd] at c1;refine goI dr0 e0 c1 d9j d9j d9j d9j d9j ?_;exact a0a (by rw [hv]) IsPure.out
 ·have e0:=b4c h0
  have hd:a4U s=a9v s.fs.length (a0d s):=d9l h0;have hv:a4O s.fs.length v=q:=by rw [<- hq];exact (d9l h0).symm
  have c2:=c1d s.fs.length (a0d s) (a4p (a1s h0)) b v hf;have hd2:c7w q v=b3J s.fs.length v:=by unfold c7w b3J;rw [hv]
  rw [hd2,hd];rw [hd] at c1;rw [hv] at c2;refine goI dr0 e0 c1 c2 d9j d9j d9j d9j ?_;exact a0a rfl IsPure.out
theorem c6u {s:a1c}{v:List (List UInt8)}(h:b6F s v=0):a0o s=0/\v.length=s.fs.length/\a3s v=0:=by
 unfold b6F at h
 by_cases h0:a0o s=0
 ·rw [d9l h0] at h
  unfold a4O at h
  by_cases h1:v.length=s.fs.length
  ·rw [d9l h1] at h;exact ⟨h0,h1,h⟩
  ·rw [d9m h1] at h;cases h
 ·rw [d9m h0] at h;exact d9n h h0
def b4u (e w n:Nat):Nat:=if e=0 then (if w=n then 7 else 0) else e
def b6U (e w n:Nat):Nat:=if e=0 then (if w=n then 0 else w) else 0
theorem c7B (s:a1c)(hs:s.few)(b:Bool)(v:List (List UInt8))(hf:Few v):a0b C0 30 [s.D,txD b v] (.tup [i64 (b6U (b6F s v) (a3b (a0d s) v) s.gs.length:Nat),i64 (b4u (b6F s v) (a3b (a0d s) v) s.gs.length:Nat)]):=by
 refine a0c.walk w1 d1B rfl fun F=>?_
 have c1:=c1D s hs b v hf;have hok:=@c6u s v;have el:((((a0d s).map a6G).length:Nat):Int)=(s.gs.length:Int):=by rw [d9s,a1z]
 obtain ⟨q,hq⟩:∃ q,b6F s v=q:=⟨_,rfl⟩
 rw [hq] at c1 hok ⊢;unfold b6U b4u;unfold a1c.D at c1 ⊢;rcases Nat.decEq q 0 with h0|h0
 ·have e0:=b3N h0
  rw [d9m h0,d9m h0];obtain ⟨x,y,ho⟩:=a6B s;rw [ho] at c1;refine goI dr0 e0 c1 d9j d9j d9j d9j d9j ?_;exact a0a rfl IsPure.out
 ·have e0:=b4c h0
  obtain ⟨k0,k2,k3⟩:=hok h0;have hd:a4U s=a9v s.fs.length (a0d s):=d9l k0;have hd2:c7w q v=frD v:=d9l h0;rw [hd,hd2] at c1;have c2:=c8W s.fs.length (a0d s) (a4p (a1s k0)) v k2 k3;rw [d9l h0,d9l h0];obtain ⟨A,hA⟩:∃ A,a3b (a0d s) v=A:=⟨_,rfl⟩
  rw [hA] at c2 ⊢
  by_cases h1:A=s.gs.length
  ·have e1:((A:Int)==(s.gs.length:Int))=true:=by rw [h1];exact beq_self_eq_true _
   rw [d9l h1,d9l h1];refine goI dr0 (ff3 e0 e1 el) c1 c2 d9j d9j d9j d9j ?_;exact a0a rfl IsPure.out
  ·have e1:((A:Int)==(s.gs.length:Int))=false:=d9D.2 (by omega)
   rw [d9m h1,d9m h1];refine goI dr0 (ff3 e0 e1 el) c1 c2 d9j d9j d9j d9j ?_;exact a0a rfl IsPure.out
theorem b4t {H Hf:Hp}{a a' b:D}(h:Fz H Hf a a'):Fz H Hf (.tup [a,b]) (.tup [a',b]):=.tup rfl fun i d d' h1 h2=>by
 rcases i with _|_|i
 ·cases h1;cases h2;exact h
 ·cases h1;cases h2;exact .refl _
 ·simp at h1
def a4h (G:List (List LP))(g:Nat):List LP:=G.getD g []
theorem b7t {G:List (List LP)}{g:Nat}(h:g<G.length):G[g]? = some (a4h G g):=by
 unfold a4h;rw [d9T,d9t h];rfl
def d5l (G:List (List LP))(g k:Nat)(x:Rat):Bool:=a2E (pv (a4h G g) k).1 (pv (a4h G g) k).2 x
abbrev a1J (l:List Nat):List D:=l.map fun (k:Nat)=>i64 (k:Int)
def inG (g:a1p)(k:Nat)(x:Rat):Bool:=a2E (lv g.least k) (lv g.most k) x
def b4N (gs:List a1p)(k:Nat)(x:Rat):Nat:=gs.findIdx fun g=>inG g k x
def c1O (a b:Nat):Nat:=if a=0 then b else a
theorem c0D {g:a1p}{n k:Nat}(h:gOk n g)(hk:k<n):pv (g.least.zip g.most) k=(lv g.least k,lv g.most k):=by
 unfold pv;rw [d9T,c1M h hk];rfl
theorem b3y {s:a1c}{i:Nat}(hi:i<s.gs.length):a4h (a0d s) i=(s.gs.getD i default).least.zip (s.gs.getD i default).most:=by
 unfold a4h a0d;rw [d9T,d9E,a3S hi];rfl
theorem d2x {s:a1c}(hs:c1c s){i:Nat}(hi:i<s.gs.length):gOk s.fs.length (s.gs.getD i default):=hs.2.2 _ (d9r (a3S hi))
theorem c7d {s:a1c}(hs:c1c s){i k:Nat}(hi:i<s.gs.length)(hk:k<s.fs.length)(x:Rat):d5l (a0d s) i k x=inG (s.gs.getD i default) k x:=by
 unfold d5l inG;rw [b3y hi,c0D (d2x hs hi) hk]
theorem b1s {α:Type}{l:List α}{p q:α->Bool}(h:∀ x∈l,p x=q x):l.findIdx p=l.findIdx q:=by
 induction l with
 | nil=>rfl
 | cons a r ih =>
  rw [List.findIdx_cons,List.findIdx_cons,h a e0T,ih fun x hx=>h x (e0t _ hx)]
theorem b6V {s:a1c}(hs:c1c s){k:Nat}(hk:k<s.fs.length)(x:Rat):a0C (a0d s) k x=b4N s.gs k x:=by
 unfold a0C b4N a0d;rw [List.findIdx_map];exact b1s fun g hg=>by
  show a2E _ _ _=inG g k x;unfold inG;rw [c0D (hs.2.2 g hg) hk]
theorem b7k {a b c d:List UInt8}(h:a7O a b c d=true){x:Rat}(hw:a2E c d x=true):a2E a b x=true:=by
 unfold a7O at h;unfold a2E at hw ⊢;simp only [d9B,e2d,e0l,d9w,e1H] at h hw ⊢;obtain ⟨h1,h2⟩:=h;obtain ⟨w1,w2⟩:=hw;unfold a1H at *;refine ⟨?_,?_⟩
 ·rcases h1 with h1|⟨h1,h3⟩
  ·exact .inl h1
  ·rcases w1 with w1|w1
   ·exact d9n w1 h1
   ·right
    split at h3<;>split at w1<;>split<;>grind
 ·rcases h2 with h2|⟨h2,h3⟩
  ·exact .inl h2
  ·rcases w2 with w2|w2
   ·exact d9n w2 h2
   ·right
    split at h3<;>split at w2<;>split<;>grind
theorem b2o {n:Nat}{gs:List a1p}{i:Nat}(h:a0F n gs i=0):∀ k,k<n->a1j (lv (gs.getD i default).least k) (lv (gs.getD i default).most k) (a1T gs i k)=0:=by
 unfold a0F at h;dsimp only at h;split at h
 ·split at h
  ·cases h
  ·split at h
   ·exact a7Z h
   ·cases h
 ·cases h
theorem b2p {s:a1c}(h:a0o s=0):∀ i,i<s.gs.length->a0F s.fs.length s.gs i=0:=by
 unfold a0o at h;split at h
 ·rename_i h1;exact d9n h h1
 ·split at h
  ·rename_i h1;exact d9n h h1
  ·split at h
   ·rename_i h1;exact d9n h h1
   ·exact a7Z h
theorem c7e {s:a1c}(h:a0o s=0){i k:Nat}(hi:i+1<s.gs.length)(hk:k<s.fs.length){x:Rat}(hx:inG (s.gs.getD i default) k x=true):inG (s.gs.getD (i+1) default) k x=true:=by
 have h1:=b2o (b2p h (i+1) hi) k hk;unfold inG at hx ⊢;unfold a1T at h1;rw [d9m (by omega),e1P] at h1;have h2:a7O (lv (s.gs.getD (i+1) default).least k) (lv (s.gs.getD (i+1) default).most k) (lv (s.gs.getD i default).least k) (lv (s.gs.getD i default).most k)=true:=by
  unfold a1j at h1;split at h1
  ·rename_i q;exact d9n h1 q
  ·split at h1
   ·rename_i q;exact d9n h1 q
   ·split at h1
    ·cases h1
    ·dsimp only at h1
     split at h1
     ·assumption
     ·cases h1
 exact b7k h2 hx
theorem c2G {s : a1c} (h : a0o s = 0) {i j k : Nat} (hij : i <= j) (hj : j < s.gs.length) (hk : k < s.fs.length) {x : Rat} (hx : inG (s.gs.getD i default) k x = true) : inG (s.gs.getD j default) k x = true := by
  induction j with
  | zero => have : i = 0 := by omega
            subst this; exact hx
  | succ j ih =>
    rcases d9H i (j + 1) with h1 | h1
    · exact c7e h hj hk (ih (by omega) (by omega))
    · have : i = j + 1 := by omega
      subst this; exact hx
theorem c7N {s:a1c}(h:a0o s=0){g k:Nat}(hg:g<s.gs.length)(hk:k<s.fs.length)(x:Rat):b4N s.gs k x<=g↔inG (s.gs.getD g default) k x=true:=by
 constructor
 ·intro hle
  have hlt:b4N s.gs k x<s.gs.length:=by omega
  have hp:inG (s.gs[b4N s.gs k x]'hlt) k x=true:=List.findIdx_getElem (w:=hlt);have e:s.gs.getD (b4N s.gs k x) default=s.gs[b4N s.gs k x]'hlt:=by rw [d9T,d9t hlt];rfl
  exact c2G h hle hg hk (by rw [e];exact hp)
 ·intro hi
  have e:s.gs.getD g default=s.gs[g]'hg:=by rw [d9T,d9t hg];rfl
  rw [e] at hi;exact Nat.le_of_not_lt fun hlt=>by
   have:=List.not_of_lt_findIdx (xs:=s.gs) (p:=fun g=>inG g k x) hlt
   exact d9n hi (by simpa using this)
theorem a9c {f:Nat->Nat}{g:Nat}:∀ n,a5U f n<=g↔∀ k,k<n->f k<=g
 | 0=>⟨fun _ k hk=>d9n hk (e0L k),fun _=>d9U _⟩
 | n+1=>by
  show max (a5U f n) (f n)<=g↔_;rw [Nat.max_le,a9c n];exact ⟨fun ⟨h1,h2⟩ k hk=>by
   rcases d9H k n with h|h
   ·exact h1 k h
   ·have:k=n:=by omega
    subst this;exact h2,fun h=>⟨fun k hk=>h k (by omega),h n (by omega)⟩⟩
theorem d5P {P:Program}{W:World}{t e base:Nat}{v:Value}(hu:P.underlying t=some (.slice e))(h:Value.okWide P W .any base t v):∃ a l c,v=.slice a l c:=by
 unfold Value.okWide at h;rw [hu] at h;dsimp only at h;unfold Cell.okWide at h;rw [hu] at h;cases v<;>first|exact ⟨_,_,_,rfl⟩|(dsimp only at h;unfold Cell.ok at h;rw [hu] at h;exact h.elim)
theorem a6O.val1 {W:World}{v:Value}{d:D}(h:a6O W [v] [d]):Rep nol (fun _=>False) W d v:=(h.cell 0 v d rfl rfl).2
def nb (r:Rat)(n d:Nat):Prop:=r.num.natAbs<=n/\r.den<=d
theorem c0d {n:Int}{d N D:Nat}(hd:d≠0)(h1:n.natAbs<=N)(h2:d<=D):nb (Rat.normalize n d hd) N D:=by
 rw [Rat.normalize_eq];exact ⟨d9V (Int.natAbs_ediv_le_natAbs _ _) h1,d9V (e1e _ _) h2⟩
theorem c5A {a b:Rat}{n d m e:Nat}(ha:nb a n d)(hb:nb b m e):nb (a+b) (n*e+m*d) (d*e):=by
 rw [Rat.add_def];refine c0d _ (d9V (Int.natAbs_add_le _ _) ?_) (e1p ha.2 hb.2);rw [e1Z,e1Z,e0B,e0B];exact Nat.add_le_add (e1p ha.1 hb.2) (e1p hb.1 ha.2)
theorem d2G {a b:Rat}{n d m e:Nat}(ha:nb a n d)(hb:nb b m e):nb (a*b) (n*m) (d*e):=by
 rw [Rat.mul_def];exact c0d _ (by rw [e1Z];exact e1p ha.1 hb.1) (e1p ha.2 hb.2)
def d5Y:Nat:=(10^100)^6
theorem d2F {r:Rat}{n d:Nat}(h:nb r n d)(h1:n<d5Y)(h2:d<d5Y):c8Z r=false:=by
 unfold c8Z;have key:∀ a b k m,a*b=k+1->m<(10^a)^b->(Lib.decDigits m).length<=k+1:=fun a b k m hk h=>a2c k m (by rw [<- hk,Nat.pow_mul];exact h)
 have l1:=key 100 6 599 r.num.natAbs rfl (e0f h.1 h1);have l2:=key 100 6 599 r.den rfl (e0f h.2 h2);rw [d9p (by omega),d9p (by omega)];rfl
def E40:Nat:=10^40
theorem a9d {l:List UInt8}(h:chk l=0)(hl:l.length<=40):nb (a0e l) E40 E40:=by
 obtain ⟨m1,m2,m3,m4⟩:=a2u h;obtain ⟨p1,p2⟩:=a4q h;have hs1:(a0Q l).length<=40:=by
  have:(a0Q l).length<=l.length:=by
   unfold a0Q;have a1:(a0l (a2q l)).length<=(a2q l).length:=by unfold a0l;split<;>simp
   have a2:(a2q l).length<=l.length:=by unfold a2q;rw [d9J];omega
   omega
  omega
 have hb:∀ k,k<=40->(10:Nat)^k<=E40:=fun k hk=>e0w (by decide) hk
 refine ⟨?_,?_⟩
 ·rw [m1,m4]
  exact d9V (e2M (a5R _ p1)) (hb _ hs1)
 ·rw [m2]
  unfold b6g;cases hs:a4D l
  ·exact (by decide:1<=E40)
  ·have hs2:(a1I l).length<=40:=by
    have:(a1I l).length<=l.length:=by unfold a1I;simp
    omega
   exact d9V (e2M (a5R _ (p2 hs))) (hb _ hs2)
theorem d2H {r:Rat}{n d k:Nat}(h:nb r n d)(h1:n<BB^k)(h2:d<BB^k):rk r k :=
 ⟨a1b (e0f h.1 h1),a1b (e0f h.2 h2)⟩
theorem rk3 {l:List UInt8}(h:chk l=0)(hl:l.length<=40):rk (a0e l) 3:=d2H (a9d h hl) (by decide) (by decide)
set_option maxHeartbeats 1000000
set_option maxRecDepth 100000
theorem d5n {n:Nat}(h:1<=n):liesAt Tryz.prog Tryz.prog.depth 270 n 0 270 1=true:=by
 have hs:sameLayout Tryz.prog Tryz.prog.depth 270 270=true:=by kernel_rfl
 have hc:Tryz.prog.cellsOf 270=2:=by kernel_rfl
 obtain ⟨d,hd⟩:∃ d,Tryz.prog.depth=d+1:=⟨Tryz.prog.depth - 1,by kernel_rfl⟩
 rw [hd] at hs ⊢;unfold liesAt;rw [hd];unfold rowAt;simp [hc,hs,h]
theorem c6t (b c:Nat)(hc:2<=c)(w:World)(h0:w.cell? ⟨b,0,none⟩=some (.pointer none))(hsh:w.shape? b=some (270,c))(hfz:w.frozen? ⟨b,0,none⟩=false) :
  Calls Tryz.prog 227 #[.pointer (some ⟨b,0,none⟩)] w fun e w'=>e=.returned (.tuple #[])/\w'=w.setCell ⟨b,0,none⟩ (.pointer (some ⟨b,0,none⟩)):=by
 obtain ⟨j,hj,hjs⟩:=Option.map_eq_some_iff.1 (show (Tryz.prog.info? 270).map (·.size)=some 2 by kernel_rfl);have hl:liesAt Tryz.prog Tryz.prog.depth 270 (c / Tryz.prog.cellsOf 270) 0 270 1=true:=d5n (by rw [show Tryz.prog.cellsOf 270=2 by kernel_rfl];omega)
 go_enter Tryz.func227,Tryz.ntmps227
 go_wp2
 rw [Lib.run_to_unsafe w ⟨b,0,none⟩ (t:=270) (by kernel_rfl) (by kernel_rfl) hj (by rw [hjs];decide) hsh (by show 0<c;omega)];simp only [Result.andThen];rw [Oper.upon_value]
 go_wp2
 rw [run_callFunc_extern Tryz.func255 (by kernel_rfl) (by kernel_rfl) (by kernel_rfl) (e:=Extern.AbiNoEscape.same) (by kernel_rfl)];rw [Lib.run_noEscape];simp only [Result.andThen];rw [Oper.upon_value]
 go_wp2
 rw [Lib.run_from_unsafe w ⟨b,0,none⟩ (u:=270) (by kernel_rfl) (by kernel_rfl) hj hsh hl];simp only [Result.andThen];rw [Oper.upon_value]
 go_wp2
 go_end0
 exact ⟨rfl,rfl⟩
theorem c9d (b:Nat)(w:World)(h0:w.cell? ⟨b,0,none⟩=some (.pointer (some ⟨b,0,none⟩))) :
  Calls Tryz.prog 227 #[.pointer (some ⟨b,0,none⟩)] w fun e w'=>e=.returned (.tuple #[])/\w'=w:=by
 obtain ⟨j,hj,hjs⟩:=Option.map_eq_some_iff.1 (show (Tryz.prog.info? 270).map (·.size)=some 2 by kernel_rfl)
 go_enter Tryz.func227,Tryz.ntmps227
 go_wp2
 rw [Lib.run_neq_ptr_same w _ (te:=270) (by kernel_rfl) hj]
 go_wp2
 go_end0
 exact ⟨rfl,rfl⟩
theorem d6O (b g:Nat)(cur cs:Array Value)(l:List UInt8)(h0:l≠[])(w:World)(hb:w.heap[b]? = some (.cells cs 270 (0,0)))(hb1:cs[1]? = some (.slice (some ⟨g,0,none⟩) l.length cur.size))
  (hg:w.heap[g]? = some (.cells cur 5 (0,0))) (hl:l.length<=cur.size) (hcap:cur.size<=maxLen) (hcell:∀ (j:Nat) (x:UInt8),l[j]? = some x->cur[j]? = some (.int .u8 x.toNat)) :
  Calls Tryz.prog 185 #[.pointer (some ⟨b,0,none⟩)] w fun e w'=>e=.returned (.string ⟨l.toArray⟩)/\w'=(w.drew.freeze ⟨g,0,none⟩ l.length):=by
 have c1:w.drew.cell? ⟨b,1,none⟩=some (.slice (some ⟨g,0,none⟩) l.length cur.size):=by
  have:w.drew.heap[b]? = some (.cells cs 270 (0,0)):=hb
  rw [Lib.cell_of_heap this];exact hb1
 have h0':l.length≠0:=by simpa using h0
 have hSD:(Builtin.unsafeSliceData_ #[268] 312 #[.slice (some ⟨g,0,none⟩) l.length cur.size]).run Tryz.prog w.drew=.ok (.pointer (some ⟨g,0,none⟩)) w.drew :=
  Lib.run_unsafeSliceData_row _ _ _ _ _ _ (by omega)
 have hUS:(Builtin.unsafeString_ #[312,3] 9 #[.pointer (some ⟨g,0,none⟩),.int .i64 l.length]).run Tryz.prog w.drew=.ok (.string ⟨l.toArray⟩) (w.drew.freeze ⟨g,0,none⟩ l.length):=by
  refine Lib.run_unsafeString_row w.drew 312 3 9 5 (by kernel_rfl) (by kernel_rfl) g cur.size (by have hg':w.drew.heap[g]? = some (.cells cur 5 (0,0)):=hg;simp [World.shape?,hg']) l h0 (by omega) (by unfold maxLen at hcap;omega) ?_;intro j x hx;have hg':w.drew.heap[g]? = some (.cells cur 5 (0,0)):=hg
  have:=hcell j x hx
  rw [Addr.add_lit];simp [World.cell?,hg',this]
 have mixed:Tryz.prog.follows .mixedOrders=true:=by kernel_rfl
 go_enter Tryz.func185,Tryz.ntmps185
 go_wp2
 go_region_o
 all_goals (go_wp2;go_ret;exact ⟨rfl,rfl⟩)
def a5A (l:List UInt8):List D:=l.map fun b=>.prim (.int .u8 (b.toNat:Int))
abbrev b2i (g:Nat)(p x:D):Ent:=⟨1500,g,270,2,[.agg [p,x]]⟩
theorem d6a {vs:Array Value}(h:vs.size=1):vs = #[vs.getD 0 undef]:=by
 match vs,h with
 | ⟨[u]⟩,_=>rfl
theorem d6d (g n:Nat)(x p:D)(H1 H2:Hp)(hp:p=.prim (.pointer none)\/p=.optr 1500 g 2 0 0) :
  a0z C0 227 [.optr 1500 g 2 0 0] (H1++b2i g p x::H2) n (fun d H' n'=>d=.prim (.tuple #[])/\H'=H1++b2i g (.optr 1500 g 2 0 0) x::H2/\n'=n):=by
 refine ⟨⟨_,_,Tryz.func227,rfl,by kernel_rfl⟩,fun F ρ w vs m fr hgn hvs hr=>?_⟩;have h0:=hr 0 _ rfl;rw [d6a hvs];generalize hv:vs.getD 0 undef=v at h0;cases h0 with
 | optr hρ =>
  rename_i b;have he:b2i g p x∈H1++b2i g p x::H2:=by simp
  obtain ⟨cs,hc,q⟩:=m.at he hρ;have hlen:2<=cs.size:=q.len;have hr0:Rep ρ (Own F.X ρ (H1++b2i g p x::H2)) w p (cs.getD 0 undef):=q.rep 0 _ 0 p rfl rfl;have hr1:Rep ρ (Own F.X ρ (H1++b2i g p x::H2)) w x (cs.getD 1 undef):=q.rep 0 _ 1 x rfl rfl;have hcell:w.cell? ⟨b,0,none⟩=some (cs.getD 0 undef):=by
   simp [World.cell?,hc,Array.getD,show 0<cs.size by omega]
  rcases hp with rfl|rfl
  ·cases hr0':cs.getD 0 undef with
   | pointer a =>
    rw [hr0'] at hr0 hcell;cases hr0;refine (c6t b cs.size hlen w hcell (by simp [World.shape?,hc]) (by simp [World.frozen?,hc])).mono ?_;rintro e w' ⟨rfl,rfl⟩;have hset:w.setCell ⟨b,0,none⟩ (.pointer (some ⟨b,0,none⟩))=World.setBlk w b (cs.setIfInBounds 0 (.pointer (some ⟨b,0,none⟩))) 270:=by
     rw [setCell_eq_setRow w b 0 cs 270 (0,0) _ hc];exact a9x hc
    have hop:Rep ρ (Own F.X ρ (H1++b2i g (.prim (.pointer none)) x::H2)) w (.optr 1500 g 2 0 0) (.pointer (some ⟨b,0*2+0,none⟩)):=.optr hρ;have ho:a2C ρ (Own F.X ρ (H1++b2i g (.prim (.pointer none)) x::H2)) w (b2i g (.optr 1500 g 2 0 0) x) (cs.setIfInBounds 0 (.pointer (some ⟨b,0,none⟩))):=by
     refine ⟨by rw [e2U];exact q.len,fun i d hd=>?_,fun i v hv=>?_,fun i d j c hd hj=>?_⟩
     ·rcases i with _|i
      ·cases hd;rfl
      ·simp at hd
     ·rw [e0q] at hv
      split at hv
      ·split at hv
       ·cases hv;rfl
       ·cases hv
      ·exact q.one i v hv
     ·rcases i with _|i
      ·cases hd
       rcases j with _|_|j
       ·cases hj
        have:(cs.setIfInBounds 0 (.pointer (some ⟨b,0,none⟩))).getD (0*2+0) undef=.pointer (some ⟨b,0*2+0,none⟩):=by
         simp [d9o,show 0<cs.size by omega]
        rw [this];exact hop
       ·cases hj
        have:(cs.setIfInBounds 0 (.pointer (some ⟨b,0,none⟩))).getD (0*2+1) undef=cs.getD 1 undef:=by
         simp [d9o]
        rw [this];exact hr1
       ·simp [D.cells] at hj
      ·simp at hd
    obtain ⟨m1,x1⟩:=m.write (e':=b2i g (.optr 1500 g 2 0 0) x) hρ hc rfl rfl rfl (e2U ..) ho;rw [hset];exact ⟨_,_,_,n,ρ,rfl,⟨rfl,rfl,rfl⟩,m1,x1,fr,fun e' he'=>by
     rcases List.mem_append.1 he' with h|h
     ·exact hgn e' (by simp [h])
     ·rcases d9F.1 h with rfl|h
      ·exact hgn (b2i g (.prim (.pointer none)) x) he
      ·exact hgn e' (by simp [h]),.prim _⟩
   | _=>rw [hr0'] at hr0;cases hr0
  ·cases hr0':cs.getD 0 undef with
   | pointer a =>
    rw [hr0'] at hr0 hcell;cases hr0 with
    | optr hρ2 =>
     rw [hρ] at hρ2;cases hρ2;refine (c9d b w hcell).mono ?_;rintro e w' ⟨rfl,rfl⟩;exact ⟨_,_,_,n,ρ,rfl,⟨rfl,rfl,rfl⟩,m,Ext.refl _ _ _,fr,hgn,.prim _⟩
   | _=>rw [hr0'] at hr0;cases hr0
theorem b2L (w:World)(g n:Nat)(hn:n≠0)(cur:Array Value)(T:Nat)(hg:w.heap[g]? = some (.cells cur T (0,0))) :
  (w.freeze ⟨g,0,none⟩ n).heap.size=w.heap.size/\(w.freeze ⟨g,0,none⟩ n).os=w.os/\(w.freeze ⟨g,0,none⟩ n).tape=w.tape/\(w.freeze ⟨g,0,none⟩ n).output=w.output /\
  (∀ k,k≠g->(w.freeze ⟨g,0,none⟩ n).heap[k]? = w.heap[k]?)/\∃ (cs':Array Value) (fz':Nat × Nat),(w.freeze ⟨g,0,none⟩ n).heap[g]? = some (.cells cs' T fz')/\cs'.size=cur.size:=by
 unfold World.freeze;rw [d9m hn];refine ⟨by simp,rfl,rfl,rfl,fun k hk=>?_,?_⟩
 ·dsimp only
  rw [Array.getElem?_modify,d9m (fun h=>hk h.symm)]
 ·dsimp only
  rw [Array.getElem?_modify,d9l rfl,hg];exact ⟨cur,_,rfl,rfl⟩
theorem d5Q (g gb n:Nat)(l:List UInt8)(h0:l≠[])(p:D)(R:Hp) :
  a0z C0 185 [.optr 1500 g 2 0 0] (⟨206,gb,5,1,a5A l⟩::b2i g p (.osl 206 gb 1 0 l.length)::R) n (fun d H' n'=>d=str ⟨l.toArray⟩/\H'=b2i g p (.osl 206 gb 1 0 l.length)::R/\n'=n):=by
 refine ⟨⟨_,_,Tryz.func185,rfl,by kernel_rfl⟩,fun F ρ w vs m fr hgn hvs hr=>?_⟩;have hz:=hr 0 _ rfl;have h0':l.length≠0:=by simpa using h0
 rw [d6a hvs];generalize hv:vs.getD 0 undef=v at hz;cases hz with
 | optr hρ =>
  rename_i b;obtain ⟨cs,hc,q⟩:=m.at (e:=b2i g p (.osl 206 gb 1 0 l.length)) (by simp) hρ;have hlen:2<=cs.size:=q.len;have hr1:Rep ρ (Own F.X ρ (⟨206,gb,5,1,a5A l⟩::b2i g p (.osl 206 gb 1 0 l.length)::R)) w (.osl 206 gb 1 0 l.length) (cs.getD 1 undef):=q.rep 0 _ 1 (.osl 206 gb 1 0 l.length) rfl rfl;generalize hs1:cs.getD 1 undef=sv at hr1;generalize hL:l.length=L at hr1;cases hr1 with
   | onil=>exact d9n hL h0'
   | osl hρ2 hb2 hc2 hs2 hm2 =>
    rename_i cap gy T' cs2 fz2;obtain ⟨cur,hcur,qy⟩:=m.at (e:=⟨206,gb,5,1,a5A l⟩) (by simp) hρ2;rw [hb2] at hcur;cases hcur;have hcap:cap=cs2.size:=by omega
    subst hcap;have hcell:∀ (j:Nat) (x:UInt8),l[j]? = some x->cs2[j]? = some (.int .u8 x.toNat):=fun j x hx=>by
     have hr:=qy.rep j (.prim (.int .u8 (x.toNat:Int))) 0 (.prim (.int .u8 (x.toNat:Int))) (by unfold a5A;rw [d9E,hx];rfl) rfl;have hlt:j<cs2.size:=by
      have:=(List.getElem?_eq_some_iff.1 hx).1
      omega
     generalize hvv:cs2.getD (j*1+0) undef=vv at hr;cases hr;rw [d9C hlt]
     have:cs2.getD j undef=cs2[j]:=by simp [Array.getD,hlt]
     rw [e1z,e0W,this] at hvv;rw [hvv]
    have hb1:cs[1]? = some (.slice (some ⟨gy,0,none⟩) l.length cs2.size):=by
     have hlt:1<cs.size:=by omega
     rw [d9C hlt]
     have:cs.getD 1 undef=cs[1]:=by simp [Array.getD,hlt]
     rw [this] at hs1;rw [hs1,hL,e2a]
    refine (d6O b gy cs2 cs l h0 w hc hb1 hb2 (by omega) (by omega) hcell).mono ?_;rintro e w' ⟨rfl,rfl⟩;have md:=m.drew;obtain ⟨f1,f2,f3,f4,f5,cs',fz',f6,f7⟩:=b2L w.drew gy l.length h0' cs2 5 hb2;obtain ⟨m1,x1⟩:=d8t (H1:=[]) (H2:=b2i g p (.osl 206 gb 1 0 l.length)::R) (w':=w.drew.freeze ⟨gy,0,none⟩ l.length) md hρ2 f1 f2 f3 f4 f5 (fun c hcc=>by
     have hb2':w.drew.heap[gy]? = some (.cells cs2 5 (0,0)):=hb2;have hcc':w.drew.heap[gy]? = some (.cells c 5 (0,0)):=hcc;rw [hb2'] at hcc';cases hcc';exact ⟨cs',fz',f6,f7⟩)
    rw [hL];rw [hL] at m1 x1;exact ⟨_,_,_,n,ρ,rfl,⟨rfl,rfl,rfl⟩,m1,(Ext.drew _ _ _).trans x1,fr,fun e' he'=>hgn e' (by rw [hL];exact e0t _ he'),.prim _⟩
set_option maxRecDepth 20000
set_option maxHeartbeats 4000000
def bH (gb g:Nat)(p:D)(L:List UInt8)(R:Hp):Hp:=a5O 206 gb 5 1 (a5A L)++(b2i g p (a6g 206 gb 1 (a5A L))::R)
theorem b8m (s:List UInt8):a4M (sb s)=a5A s:=rfl
theorem a4L (l:List UInt8):(a5A l).length=l.length:=d9s ..
theorem b8l (a b:List UInt8):a5A (a++b)=a5A a++a5A b:=e0Q
theorem b5k {l:List UInt8}(h:l≠[]):∃ x r,a5A l=x::r:=by
 cases l with
 | nil=>exact d9n rfl h
 | cons a l=>exact ⟨_,_,rfl⟩
theorem d6y (g gb n:Nat)(p:D)(hp:p=.prim (.pointer none)\/p=.optr 1500 g 2 0 0)(L s:List UInt8)(hs:s≠[])(R:Hp)(hlen:L.length+s.length<=100000000) :
  a0z C0 184 [.optr 1500 g 2 0 0,str (sb s)] (bH gb g p L R) n (fun d H' n'=>(∃ g',H'=bH g' g (.optr 1500 g 2 0 0) (L++s) R)/\n<=n'):=by
 refine a0z.walk w1 c4C rfl fun F=>?_
 have hsz:=a0x s;have hb:=b8m s;obtain ⟨x,r,hx⟩:=b5k hs;have hr:s.length=r.length+1:=by rw [<- a4L,hx];rfl
 unfold bH;rw [b8l];cases hL:a5A L with
 | nil =>
  dsimp only [a2a,a2b,List.nil_append];refine goI dr0 kB d9j d9j d9j d9j d9j d9j ?_;refine a0j.own _ (d6d g _ a1w p [] R hp) ?_;rintro d H' n' ⟨rfl,rfl,rfl⟩;have hL0:L.length=0:=by rw [<- a4L,hL];rfl
  refine goI dr0 (ff2 hsz hb) d9j d9j d9j d9j d9j d9j ?_;refine ⟨?_,by omega⟩;apply Exists.intro;rw [hx,hr];rfl
 | cons y l =>
  dsimp only [a1B,a1C,List.cons_append,List.nil_append];have hL1:L.length=l.length+1:=by rw [<- a4L,hL];rfl
  have htk:List.take (l.length+1) (y::l)=y::l:=by simp
  refine goI dr0 kB d9j d9j d9j d9j d9j d9j ?_;refine a0j.own _ (d6d g _ (.osl 206 gb 1 0 (l.length+1)) p [⟨206,gb,5,1,y::l⟩] R hp) ?_;rintro d H' n' ⟨rfl,rfl,rfl⟩;refine goI dr0 (ff3 hsz hb htk) d9j d9j d9j d9j d9j d9j ?_;refine ⟨?_,by omega⟩;apply Exists.intro;have hap:y::l++a5A s=y::(l++a5A s):=rfl;have hl2:(l++a5A s).length+1=l.length+1+s.length:=by rw [d9Z,a4L];omega
  rw [hl2]
end Go.Ide
