/- The layer of own lemmas and contracts, part 11. -/
import Derived.Test.YtmpdcldckjeklabGreatDoorAD9
import Derived.Test.YtmpdcldckjeklabGreatDoorAD10
set_option linter.unusedVariables false
set_option linter.unusedSimpArgs false
namespace Go.Ide
open Go.Proofs Go.RowKit
set_option maxRecDepth 20000
set_option maxHeartbeats 4000000
theorem Uq (b1 b2:Bool)(e:Bs)(h1:e.names.length<=100000)(h2:e.masses.length<=100000)(h3:∀s∈e.names,s.length<=100000):Aa C0 6 [Bc b1 b2 e] (i64 (Df e:Nat)):=by
 refine A0.walk w1 ea rfl λF=>?_
 obtain⟨num,day,kind,names,masses⟩:=e;dsimp only at h1 h2 h3;have cF:=Wm kind;unfold Df Bc;dsimp only;have hn:(names.map AR).length=names.length:=Bi ..;have hm:(masses.map BR).length=masses.length:=Bi ..;have hpn:AG (names.map AR):=Ao;have hpm:AG (masses.map BR):=Ao;rcases Int.lt_or_le num 1 with a1|a1
 ·have t1:decide (num<1)=true:=BX a1
  refine AT Ad t1 AA AA AA AA AA AA ?_;exact Ak (by rw[AQ (.inl a1)];rfl) AB.out
 have t1:decide (num<1)=false:=Au;rcases Int.lt_or_le 1000 num with a2|a2
 ·have t2:decide (num>1000)=true:=BX a2
  refine AT Ad (Bn t1 t2) AA AA AA AA AA AA ?_;exact Ak (by rw[AQ (.inr a2)];rfl) AB.out
 have t2:decide (num>1000)=false:=Au;rw[AP (show ¬(num<1\/num>1000) by omega)];rcases Int.lt_or_le day 0 with a3|a3
 ·have t3:decide (day<0)=true:=BX a3
  refine AT Ad (Cp t1 t2 t3) AA AA AA AA AA AA ?_;exact Ak (by rw[AQ (.inl a3)];rfl) AB.out
 have t3:decide (day<0)=false:=Au;rcases Int.lt_or_le 100000 day with a4|a4
 ·have t4:decide (day>100000)=true:=BX a4
  refine AT Ad (Ea t1 t2 t3 t4) AA AA AA AA AA AA ?_;exact Ak (by rw[AQ (.inr a4)];rfl) AB.out
 have t4:decide (day>100000)=false:=Au;rw[AP (show ¬(day<0\/day>100000) by omega)];cases hk:FM kind with
 |none=>
  rw[hk]at cF;unfold JB at cF;dsimp only at cF⊢;have t5:decide ((-1:Int)<0)=true:=rfl;refine AT Ad (FV t1 t2 t3 t4 t5) cF AA AA AA AA AA ?_;exact Ak rfl AB.out
 |some p=>
 obtain⟨ka,kb⟩:=p;have ks:=Ih kind;rw[hk]at cF ks;obtain⟨k1,k2,k3⟩:=ks;unfold JB at cF;dsimp only at cF k1 k2 k3⊢;have t5:decide (((ka:Nat):Int)<0)=false:=Au
 by_cases a5:names.length=ka
 rotate_left
 ·have t6:(((names.length:Nat):Int) != ((ka:Nat):Int))=true:=by rw[bne_iff_ne];omega
  rw[AQ (.inl a5)];refine AT Ad (Eu t1 t2 t3 t4 t5 hn t6) cF AA AA AA AA AA ?_;exact Ak rfl AB.out
 have t6:(((names.length:Nat):Int) != ((ka:Nat):Int))=false:=by rw[a5];exact bne_self_eq_false _
 by_cases a6:masses.length=kb
 rotate_left
 ·have t7:(((masses.length:Nat):Int) != ((kb:Nat):Int))=true:=by rw[bne_iff_ne];omega
  rw[AQ (.inr a6)];refine AT Ad (Eu t1 t2 t3 t4 t5 hn (Cp hm t6 t7)) cF AA AA AA AA AA ?_;exact Ak rfl AB.out
 have t7:(((masses.length:Nat):Int) != ((kb:Nat):Int))=false:=by rw[a6];exact bne_self_eq_false _
 rw[AP (show ¬(names.length≠ka\/masses.length≠kb) by omega)];refine AT Ad (Eu t1 t2 t3 t4 t5 hn (Cp hm t6 t7)) cF AA AA AA AA AA ?_;refine AN.loop (α:=Nat×Nat) (λp=>⟨[(1,.optr 0 0 5 0 0),(2,i64 0),(3,i64 (ka:Nat)),(4,i64 (kb:Nat)),(5,i64 (p.1:Nat))],[⟨0,0,25,5,[.agg [i64 num,i64 day,AR kind,.sl b1 1 (names.map AR),.sl b2 1 (masses.map BR)]]⟩],p.2⟩) (λp=>ka-p.1)
  (λp=>p.1<=ka/\(names.take p.1).any Cf=false) (0,_) ⟨Cv _,rfl⟩ Ap ?_
 clear cF t1 t2 t3 t4 t5 t6 t7;rintro⟨i,n1⟩ F ⟨h4,h5⟩;dsimp only at h4 h5⊢;rcases Ar i ka with h6|h6
 ·obtain⟨x,hx⟩:∃x,names[i]?=some x:=⟨names[i],Bu⟩
  have t1:decide (((i:Nat):Int)<((ka:Nat):Int))=true:=BB;have hx':=Is hx;have wc:=wS (n:=i) (by omega);have cN:=eN x (Ax (h3 x (Bf hx)) (by omega));have hi2:((i:Nat):Int)<(((names.map AR).length:Nat):Int):=by rw[hn];omega
  cases hb:DY x with
  |true=>
   rw[hb]at cN;have h7:=Lp (p:=Cf) hx h5 (by unfold Cf;rw[hb];rfl);refine AT Ad (Bn t1 wc) hx' cN AA AA AA AA ?_;exact⟨(i+1,_),⟨by dsimp only;omega,h7⟩,by dsimp only;omega,Ap⟩
  |false=>
   rw[hb]at cN;have h7:=(Ip (p:=Cf) hx (by unfold Cf;rw[hb];rfl) h5).1;refine AT Ad t1 hx' cN AA AA AA AA ?_;exact Ak (by rw[h7];rfl) AB.out
 have hi:i=ka:=by omega
 subst hi;have t1:decide (((i:Nat):Int)<((i:Nat):Int))=false:=Au;rw[NN]at h5;rw[h5];refine AT Ad t1 AA AA AA AA AA AA ?_;refine AN.loop (α:=Nat×Nat) (λp=>⟨[(1,.optr 0 0 5 0 0),(2,i64 0),(4,i64 (kb:Nat)),(6,i64 (p.1:Nat))],[⟨0,0,25,5,[.agg [i64 num,i64 day,AR kind,.sl b1 1 (names.map AR),.sl b2 1 (masses.map BR)]]⟩],p.2⟩) (λp=>kb-p.1)
  (λp=>p.1<=kb/\(masses.take p.1).any Ce=false) (0,_) ⟨Cv _,rfl⟩ Ap ?_
 clear t1 h4 h5 h6;rintro⟨j,n2⟩ F ⟨h4,h5⟩;dsimp only at h4 h5⊢;rcases Ar j kb with h6|h6
 ·obtain⟨x,hx⟩:∃x,masses[j]?=some x:=⟨masses[j],Bu⟩
  have t1:decide (((j:Nat):Int)<((kb:Nat):Int))=true:=BB;have hx':(masses.map BR)[j]?=some (i64 x):=by rw[BW,hx];rfl
  have wc:=wS (n:=j) (by omega);have hi2:((j:Nat):Int)<(((masses.map BR).length:Nat):Int):=by rw[hm];omega
  rcases Int.lt_or_le x 0 with g1|g1
  ·have t2:decide (x<0)=true:=BX g1
   have h7:=(Ip (p:=Ce) hx (by unfold Ce;rw[t2];rfl) h5).1;refine AT Ad (Bn t1 t2) hx' AA AA AA AA AA ?_;exact Ak (by rw[h7];rfl) AB.out
  have t2:decide (x<0)=false:=Au;rcases Int.lt_or_le 999999999 x with g2|g2
  ·have t3:decide (x>999999999)=true:=BX g2
   have h7:=(Ip (p:=Ce) hx (by unfold Ce;rw[t2,t3];rfl) h5).1;refine AT Ad (Cp t1 t2 t3) hx' AA AA AA AA AA ?_;exact Ak (by rw[h7];rfl) AB.out
  have t3:decide (x>999999999)=false:=Au;have h7:=Lp (p:=Ce) hx h5 (by unfold Ce;rw[t2,t3];rfl);refine AT Ad (Ea t1 t2 t3 wc) hx' AA AA AA AA AA ?_;exact⟨(j+1,_),⟨by dsimp only;omega,h7⟩,by dsimp only;omega,Ap⟩
 have hj:j=kb:=by omega
 subst hj;have t1:decide (((j:Nat):Int)<((j:Nat):Int))=false:=Au;rw[NN]at h5;rw[h5];refine AT Ad t1 AA AA AA AA AA AA ?_;exact Ak rfl AB.out
theorem Nu (k:Nat)(h:k<10):(UInt8.ofNat (48+k)).toNat=48+k:=by
 rw[UInt8.toNat_ofNat'];omega
theorem Q1:∀n:Nat,(Lib.decDigits n).all Br=true/\dv (Lib.decDigits n)=n/\(Lib.decDigits n)≠[]:=λn=>by
 induction n using Nat.strongRecOn with
 |_ n ih=>
  have one:∀k,k<10->Br (UInt8.ofNat (48+k))=true:=λk hk=>by
   unfold Br;rw[Nu k hk,Aj];exact⟨Nat.ble_eq_true_of_le (by omega),Nat.ble_eq_true_of_le (by omega)⟩
  have vone:∀k,k<10->dv [UInt8.ofNat (48+k)]=k:=λk hk=>by
   show 0*10+((UInt8.ofNat (48+k)).toNat-48)=k;rw[Nu k hk];omega
  rw[Lib.decDigits];split
  ·rename_i h
   exact⟨by rw[D0,one n h];rfl,vone n h,by simp⟩
  ·rename_i h
   obtain⟨h1,h2,h3⟩:=ih (n/10) (by omega);refine⟨by rw[K5,h1,D0,one _ (GP _ (by decide))];rfl,?_,by simp⟩;rw[Uk,h2,vone _ (GP _ (by decide)),IS];omega
end Go.Ide
