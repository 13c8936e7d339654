/- The layer of own lemmas and contracts, part 18. -/
import Derived.Test.YtmpdcldckjeklabGreatDoorAD15
import Derived.Test.YtmpdcldckjeklabGreatDoorAD16
import Derived.Test.YtmpdcldckjeklabGreatDoorAD17
import Derived.Test.YtmpdcldckjeklabGreatDoorAD7
set_option linter.unusedVariables false
set_option linter.unusedSimpArgs false
namespace Go.Ide
open Go.Proofs Go.RowKit
set_option maxRecDepth 100000
theorem MO (l:List UInt8)(n:Nat)(h:(Nat.beq (Cg l) n&&B2 l)=true:=by kernel_rfl)(hl:Nat.ble l.length 1000000=true:=by kernel_rfl):Aa C0 36 [str (sb l)] (.tup [i64 (n:Nat),Am true]):=by
 have:=Ju l (A7 hl)
 rw[Aj]at h;rw[Ab h.1,h.2]at this;exact this
theorem gG:Aa C0 36 [.prim (.string ⟨#[49]⟩)] (.tup [i64 1,Am true]):=MO [49] 1
theorem gH:Aa C0 36 [.prim (.string ⟨#[48]⟩)] (.tup [i64 0,Am true]):=MO [48] 0
theorem gI:Aa C0 36 [.prim (.string ⟨#[49,48,48]⟩)] (.tup [i64 100,Am true]):=MO [49,48,48] 100
theorem gJ:Aa C0 36 [.prim (.string ⟨#[53,48]⟩)] (.tup [i64 50,Am true]):=MO [53,48] 50
def en:List (Nat×List D×D):=[(51,[Tp,Su],.tup [NE,i64 0]),
 (51,[NE,Sv],.tup [NF,i64 0]),
 (51,[NF,Sw],.tup [NG,i64 0]),
 (51,[NG,Sx],.tup [NH,i64 0]),
 (51,[NH,Sy],.tup [NI,i64 0]),
 (51,[NI,Sz],.tup [NJ,i64 0]),
 (51,[NJ,S0],.tup [NK,i64 0]),
 (51,[NK,S1],.tup [NM,i64 0]),
 (51,[NM,S2],.tup [Jl,i64 0]),
 (51,[Jl,SH],.tup [HU,i64 0]),
 (51,[HU,R9],.tup [TO,i64 0]),
 (51,[Jl,Rd],.tup [.prim (.pointer none),i64 28]),
 (51,[HU,Re],.tup [.prim (.pointer none),i64 28]),
 (51,[HU,Rm],.tup [Tq,i64 0]),
 (133,[.mp kL vL],.tup [.sl false 2 [aB,aR],i64 0]),
 (36,[.prim (.string ⟨#[49]⟩)],.tup [i64 1,Am true]),
 (36,[.prim (.string ⟨#[48]⟩)],.tup [i64 0,Am true]),
 (36,[.prim (.string ⟨#[49,48,48]⟩)],.tup [i64 100,Am true]),
 (36,[.prim (.string ⟨#[53,48]⟩)],.tup [i64 50,Am true])]
theorem Wb:IG en:=DV UH (DX (by kernel_rfl)) (DV UI (DX (by kernel_rfl)) (DV UJ (DX (by kernel_rfl)) (DV UK (DX (by kernel_rfl)) (DV UL (DX (by kernel_rfl)) (DV UM (DX (by kernel_rfl)) (DV UN (DX (by kernel_rfl)) (DV UO (DX (by kernel_rfl)) (DV UP (DX (by kernel_rfl)) (DV ey (DX (by kernel_rfl)) (DV fA (DX (by kernel_rfl)) (DV bi (DX (by kernel_rfl)) (DV bj (DX (by kernel_rfl)) (DV bn (DX (by kernel_rfl)) (DV bo (DX (by kernel_rfl)) (DV gG (DX (by kernel_rfl)) (DV gH (DX (by kernel_rfl)) (DV gI (DX (by kernel_rfl)) (DV gJ (DX (by kernel_rfl)) (DL)))))))))))))))))))
def eW:List Nat:=12::23::(1000000+37)::(8000000+37)::DS
theorem US:Aa C0 5 [] (Am true):=Dc (DN eW Wb) 1000 40 (by kernel_rfl)
end Go.Ide
