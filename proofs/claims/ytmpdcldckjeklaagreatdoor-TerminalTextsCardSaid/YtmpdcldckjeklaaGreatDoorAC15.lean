/- The layer of own lemmas and contracts, part 15. -/
import Derived.Test.YtmpdcldckjeklaaGreatDoorAC10
import Derived.Test.YtmpdcldckjeklaaGreatDoorAC14
set_option linter.unusedVariables false
set_option linter.unusedSimpArgs false
namespace Go.Ide
open Go.Proofs Go.RowKit
set_option maxRecDepth 20000
set_option maxHeartbeats 4000000
theorem Uz (l:List UInt8)(hl:l.length<=100000):(GJ l).1.names.length<=100000/\(GJ l).1.masses.length<=100000:=by
 have hz:(IF).names.length<=100000/\(IF).masses.length<=100000:=⟨CJ _,CJ _⟩
 have he:(IJ (A9 32 l)).names.length<=100000/\(IJ (A9 32 l)).masses.length<=100000:=by
  have h:=QZ ((A9 32 l).getD 2 []) (((A9 32 l).take ((A9 32 l).length-1)).drop 3);have hc:=G4 32 l;have hcl:l.count 32<=l.length:=List.count_le_length;unfold IJ;dsimp only;rw[Hd,EQ]at h;omega
 unfold GJ;split
 ·exact hz
 ·split
  ·exact hz
  ·split
   ·exact hz
   ·split
    ·exact hz
    ·split
     ·exact he
     ·exact hz
theorem Zy (l:List UInt8)(hl:l.length<=9223372036854775807):Af C0 3 [AR l] (Al true):=by
 refine BN.walk w1 dQ rfl λF=>?_
 have hsz:=EI l;have aw:=T6;rcases Ao 5000 l.length with h1|h1
 ·have t1:decide (((l.length:Nat):Int)>5000)=true:=Ay
  refine AS Ah (Be hsz t1) aw AA AA AA AA AA ?_;exact An rfl AB.out
 have t1:decide (((l.length:Nat):Int)>5000)=false:=Ap;have cD:=UN l (by omega);have cR:=UU l (by omega);obtain⟨l1,l2⟩:=Uz l (by omega);obtain⟨r,hr⟩:∃r,GJ l=r:=⟨_,rfl⟩
 rw[hr]at cD cR l1 l2;obtain⟨e,n⟩:=r;dsimp only at cD cR l1 l2;have cS:=UV true true [e] (by simp) (λx hx=>by simp at hx;subst hx;exact⟨l1,l2⟩);rw[BU,List.map_nil]at cS;unfold Br at cD cR cS;have t2:(((n:Nat):Int)==((n:Nat):Int))=true:=beq_self_eq_true _;have hpn:AT (e.names.map AR):=A7;have hpm:AT (e.masses.map B5):=A7;refine AS Ah (Cx hsz t1 t2) cD cR cS aw AA AA ?_;exact An rfl AB.out
theorem Vm (s:ByteArray)(h:s.size<=maxLen):Af C0 3 [str s] (Al true):=
 Zy s.data.toList (Ar (by show s.data.toList.length<=maxLen;rw[Gu];exact h) (by decide))
end Go.Ide
