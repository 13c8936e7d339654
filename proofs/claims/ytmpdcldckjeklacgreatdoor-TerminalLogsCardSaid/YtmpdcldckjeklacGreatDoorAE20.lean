/- The layer of own lemmas and contracts, part 20. -/
import Derived.Test.YtmpdcldckjeklacGreatDoorAE15
import Derived.Test.YtmpdcldckjeklacGreatDoorAE19
import Derived.Test.YtmpdcldckjeklacGreatDoorAE11
set_option linter.unusedVariables false
set_option linter.unusedSimpArgs false
namespace Go.Ide
open Go.Proofs Go.RowKit
set_option maxRecDepth 20000
set_option maxHeartbeats 4000000
def Kz (e:BV):Bool:=decide (e.kind.length<=100)&&decide (e.names.length<=8)&&decide (e.masses.length<=8)&&e.names.all λs=>decide (s.length<=100)
theorem WZ {e:BV}(h:Kz e=true):e.kind.length<=100/\e.names.length<=8/\e.masses.length<=8/\∀s∈e.names,s.length<=100:=by
 unfold Kz at h;simp only[Ag,FE,CF]at h;exact⟨h.1.1.1,h.1.1.2,h.1.2,h.2⟩
theorem Wn (e:BV)(a b:Bool)(hk:e.kind.length<=9223372036854775807)(hn:e.names.length<=9223372036854775807)(hm:e.masses.length<=9223372036854775807)(hs:∀s∈e.names,s.length<=9223372036854775807):Aa C0 4 [As a b e] (Ai (Kz e)):=by
 refine Ax.walk w1 gO rfl λF=>?_
 obtain⟨num,day,kind,names,masses⟩:=e;dsimp only at hk hn hm hs;have hkz:=Bl kind;have hnl:(names.map AH).length=names.length:=BP ..;have hml:(masses.map BQ).length=masses.length:=BP ..;have hpn:AC (names.map AH):=An;have hpm:AC (masses.map BQ):=An;unfold Kz As;dsimp only;rcases Aq 100 kind.length with h1|h1
 ·have t1:decide (((kind.length:Nat):Int)>100)=true:=Av
  rw[B4 (show ¬kind.length<=100 by omega)];refine AJ AU (BJ hkz t1) AA AA AA AA AA AA ?_;exact Ac rfl AB.out
 have t1:decide (((kind.length:Nat):Int)>100)=false:=Ap;rw[BW h1];rcases Aq 8 names.length with h2|h2
 ·have t2:decide (((names.length:Nat):Int)>8)=true:=Av
  rw[B4 (show ¬names.length<=8 by omega)];refine AJ AU (Cs hkz hnl t1 t2) AA AA AA AA AA AA ?_;exact Ac rfl AB.out
 have t2:decide (((names.length:Nat):Int)>8)=false:=Ap;rw[BW h2];rcases Aq 8 masses.length with h3|h3
 ·have t3:decide (((masses.length:Nat):Int)>8)=true:=Av
  rw[B4 (show ¬masses.length<=8 by omega)];refine AJ AU (D7 hkz hnl hml t1 t2 t3) AA AA AA AA AA AA ?_;exact Ac rfl AB.out
 have t3:decide (((masses.length:Nat):Int)>8)=false:=Ap;rw[BW h3];refine AJ AU (D7 hkz hnl hml t1 t2 t3) AA AA AA AA AA AA ?_;refine AO.loop (α:=Nat×Nat) (λp=>⟨[(2,Ai false),(22,.sl a 1 (names.map AH)),(23,i64 (names.length:Nat)),(24,i64 (p.1:Nat))],[],p.2⟩) (λp=>names.length-p.1) (λp=>p.1<=names.length/\(names.take p.1).all (λs=>decide (s.length<=100))=true) (0,_) ⟨Bu _,rfl⟩ Al ?_;rintro⟨i,n1⟩ F ⟨h4,h5⟩;dsimp only at h4 h5⊢;rcases Aq i names.length with h6|h6
 ·obtain⟨x,hx⟩:∃x,names[i]?=some x:=⟨names[i],BI h6⟩
  have hx':=HY hx;have hxz:=Bl x;have hxl:=hs x (Bh hx);have t4:decide (((i:Nat):Int)<((names.length:Nat):Int))=true:=Av;have wc:=wS (n:=i) (by omega);have hi2:((i:Nat):Int)<(((names.map AH).length:Nat):Int):=by rw[hnl];omega
  have hal:(names.take (i+1)).all (λs=>decide (s.length<=100))=decide (x.length<=100):=by rw[EG,hx,H8,h5];simp
  rcases Aq 100 x.length with h7|h7
  ·have t5:decide (((x.length:Nat):Int)>100)=true:=Av
   have hb:names.all (λs=>decide (s.length<=100))=false:=by
    rw[Bool.eq_false_iff];intro h
    have:=CF.1 h x (Bh hx)
    simp at this;omega
   rw[hb];refine AJ AU (CK t4 hxz t5) hx' AA AA AA AA AA ?_;exact Ac rfl AB.out
  ·have t5:decide (((x.length:Nat):Int)>100)=false:=Ap
   rw[BW h7]at hal;refine AJ AU (Cs t4 hxz t5 wc) hx' AA AA AA AA AA ?_;exact⟨(i+1,_),⟨by dsimp only;omega,hal⟩,by dsimp only;omega,Al⟩
 ·have hi:i=names.length:=by omega
  subst hi;rw[C3 (Ad _)]at h5;rw[h5];have t4:decide (((names.length:Nat):Int)<((names.length:Nat):Int))=false:=Ap;refine AJ AU t4 AA AA AA AA AA AA ?_;exact Ac rfl AB.out
theorem WI (l:List UInt8)(hl:l.length<=100000):(Dp l).1.names.length<=100000/\(Dp l).1.masses.length<=100000:=by
 have hz:(Ik).names.length<=100000/\(Ik).masses.length<=100000:=⟨Bu _,Bu _⟩
 have he:(Is (A8 32 l)).names.length<=100000/\(Is (A8 32 l)).masses.length<=100000:=by
  have h:=RH ((A8 32 l).getD 2 []) (((A8 32 l).take ((A8 32 l).length-1)).drop 3);have hc:=GW 32 l;have hcl:l.count 32<=l.length:=List.count_le_length;unfold Is;dsimp only;rw[Et,Ds]at h;omega
 unfold Dp;split
 ·exact hz
 ·split
  ·exact hz
  ·split
   ·exact hz
   ·split
    ·exact hz
    ·split
     ·exact he
     ·exact hz
end Go.Ide
