/- The layer of own lemmas and contracts, part 19. -/
import Derived.Test.YtmpdcldckjeklabGreatDoorAD14
import Derived.Test.YtmpdcldckjeklabGreatDoorAD18
set_option linter.unusedVariables false
set_option linter.unusedSimpArgs false
namespace Go.Ide
open Go.Proofs Go.RowKit
set_option maxRecDepth 20000
set_option maxHeartbeats 4000000
def Kb (e:Bs):Bool:=decide (e.kind.length<=100)&&decide (e.names.length<=8)&&decide (e.masses.length<=8)&&e.names.all λs=>decide (s.length<=100)
theorem Vf {e:Bs}(h:Kb e=true):e.kind.length<=100/\e.names.length<=8/\e.masses.length<=8/\∀s∈e.names,s.length<=100:=by
 unfold Kb at h;simp only[Aj,FQ,CG]at h;exact⟨h.1.1.1,h.1.1.2,h.1.2,h.2⟩
theorem Vw (e:Bs)(a b:Bool)(hk:e.kind.length<=9223372036854775807)(hn:e.names.length<=9223372036854775807)(hm:e.masses.length<=9223372036854775807)(hs:∀s∈e.names,s.length<=9223372036854775807):Aa C0 4 [Bc a b e] (Am (Kb e)):=by
 refine A0.walk w1 eY rfl λF=>?_
 obtain⟨num,day,kind,names,masses⟩:=e;dsimp only at hk hn hm hs;have hkz:=Ch kind;have hnl:(names.map AR).length=names.length:=Bi ..;have hml:(masses.map BR).length=masses.length:=Bi ..;have hpn:AG (names.map AR):=Ao;have hpm:AG (masses.map BR):=Ao;unfold Kb Bc;dsimp only;rcases Ar 100 kind.length with h1|h1
 ·have t1:decide (((kind.length:Nat):Int)>100)=true:=BB
  rw[CH (show ¬kind.length<=100 by omega)];refine AT Ad (Bn hkz t1) AA AA AA AA AA AA ?_;exact Ak rfl AB.out
 have t1:decide (((kind.length:Nat):Int)>100)=false:=Au;rw[BX h1];rcases Ar 8 names.length with h2|h2
 ·have t2:decide (((names.length:Nat):Int)>8)=true:=BB
  rw[CH (show ¬names.length<=8 by omega)];refine AT Ad (Ea hkz hnl t1 t2) AA AA AA AA AA AA ?_;exact Ak rfl AB.out
 have t2:decide (((names.length:Nat):Int)>8)=false:=Au;rw[BX h2];rcases Ar 8 masses.length with h3|h3
 ·have t3:decide (((masses.length:Nat):Int)>8)=true:=BB
  rw[CH (show ¬masses.length<=8 by omega)];refine AT Ad (Gy hkz hnl hml t1 t2 t3) AA AA AA AA AA AA ?_;exact Ak rfl AB.out
 have t3:decide (((masses.length:Nat):Int)>8)=false:=Au;rw[BX h3];refine AT Ad (Gy hkz hnl hml t1 t2 t3) AA AA AA AA AA AA ?_;refine AN.loop (α:=Nat×Nat) (λp=>⟨[(2,Am false),(22,.sl a 1 (names.map AR)),(23,i64 (names.length:Nat)),(24,i64 (p.1:Nat))],[],p.2⟩) (λp=>names.length-p.1) (λp=>p.1<=names.length/\(names.take p.1).all (λs=>decide (s.length<=100))=true) (0,_) ⟨Cv _,rfl⟩ Ap ?_;rintro⟨i,n1⟩ F ⟨h4,h5⟩;dsimp only at h4 h5⊢;rcases Ar i names.length with h6|h6
 ·obtain⟨x,hx⟩:∃x,names[i]?=some x:=⟨names[i],BK h6⟩
  have hx':=Is hx;have hxz:=Ch x;have hxl:=hs x (Bf hx);have t4:decide (((i:Nat):Int)<((names.length:Nat):Int))=true:=BB;have wc:=wS (n:=i) (by omega);have hi2:((i:Nat):Int)<(((names.map AR).length:Nat):Int):=by rw[hnl];omega
  have hal:(names.take (i+1)).all (λs=>decide (s.length<=100))=decide (x.length<=100):=by rw[Fr,hx,K5,h5];simp
  rcases Ar 100 x.length with h7|h7
  ·have t5:decide (((x.length:Nat):Int)>100)=true:=BB
   have hb:names.all (λs=>decide (s.length<=100))=false:=by
    rw[Bool.eq_false_iff];intro h
    have:=CG.1 h x (Bf hx)
    simp at this;omega
   rw[hb];refine AT Ad (Cp t4 hxz t5) hx' AA AA AA AA AA ?_;exact Ak rfl AB.out
  ·have t5:decide (((x.length:Nat):Int)>100)=false:=Au
   rw[BX h7]at hal;refine AT Ad (Ea t4 hxz t5 wc) hx' AA AA AA AA AA ?_;exact⟨(i+1,_),⟨by dsimp only;omega,hal⟩,by dsimp only;omega,Ap⟩
 ·have hi:i=names.length:=by omega
  subst hi;rw[EJ (Ah _)]at h5;rw[h5];have t4:decide (((names.length:Nat):Int)<((names.length:Nat):Int))=false:=Au;refine AT Ad t4 AA AA AA AA AA AA ?_;exact Ak rfl AB.out
theorem bD (e:Bs)(hk:e.kind.length<=9223372036854775807)(hn:e.names.length<=9223372036854775807)(hm:e.masses.length<=9223372036854775807)(hs:∀s∈e.names,s.length<=9223372036854775807):Aa C0 3 [Bc false false e] (Am true):=by
 refine A0.walk w1 eX rfl λF=>?_
 have aw:=US;have c1:=Vw e false false hk hn hm hs;have hpn:AG (e.names.map AR):=Ao;have hpm:AG (e.masses.map BR):=Ao;cases hq:Kb e with
 |false=>
  rw[hq]at c1;unfold Bc at c1⊢;refine AT Ad kB c1 aw AA AA AA AA ?_;exact Ak rfl AB.out
 |true=>
 rw[hq]at c1;obtain⟨q1,q2,q3,q4⟩:=Vf hq;have c2:=Uq false false e (by omega) (by omega) (λs h=>by have:=q4 s h;omega);have c3:=Ul e false false (by omega) (by omega);have c4:=Ng false false e (by omega) (by omega);unfold Oz at c3
 by_cases h:Df e=0
 ·obtain⟨v⟩:=Ri h
  have c5:=Ur e v false false;have c6:=Uj (CE e) (by have:=v.len;omega);rw[v.back h]at c6;have c7:=Us true true [e] (by simp) (λx hx=>by simp at hx;subst hx;omega);rw[BP,List.map_nil]at c7;rw[h]at c2 c3 c4;rw[AQ rfl]at c3;have t1:((((0:Nat):Int)) != ((0:Nat):Int))=false:=rfl;have t2:((((0:Nat):Int)) != 0)=false:=rfl;have t3:((((0:Nat):Int))==0)=true:=rfl;have q5:BD (sb (CE e)) (sb (CE e))=true:=by rw[CV];exact BX rfl
  dsimp only at c6;unfold Bc at*;refine AT Ad (Cp kT t1 t2) c1 c2 c3 c4 c5 c6 ?_;refine AT Ad (Bn q5 t3) c7 aw AA AA AA AA ?_;exact Ak rfl AB.out
 ·rw[AP h]at c3
  have t1:(((Df e:Nat):Int) != ((Df e:Nat):Int))=false:=bne_self_eq_false _;have t2:(((Df e:Nat):Int) != 0)=true:=by rw[bne_iff_ne];omega
  have q5:BD (sb []) (⟨#[]⟩:ByteArray)=true:=(CV [] []).trans (BX rfl);generalize Df e=c at*;unfold Bc at*;refine AT Ad (Ea kT t1 t2 q5) c1 c2 c3 c4 aw AA ?_;exact Ak rfl AB.out
end Go.Ide
