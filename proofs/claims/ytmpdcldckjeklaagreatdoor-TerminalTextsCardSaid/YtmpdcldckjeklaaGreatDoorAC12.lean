/- The layer of own lemmas and contracts, part 12. -/
import Derived.Test.YtmpdcldckjeklaaGreatDoorAC11
set_option linter.unusedVariables false
set_option linter.unusedSimpArgs false
namespace Go.Ide
open Go.Proofs Go.RowKit
set_option maxRecDepth 100000
theorem T2:Af C0 42 [ND,Sf] (.tup [NE,i64 0]):=DW (DE DK DA) 1000 40 (by kernel_rfl)
theorem T3:Af C0 42 [NE,Sg] (.tup [Jn,i64 0]):=DW (DE OP DA) 1000 40 (by kernel_rfl)
theorem dh:Af C0 42 [Jn,Rx] (.tup [HX,i64 0]):=DW (DE DK DA) 1000 40 (by kernel_rfl)
theorem di:Af C0 42 [HX,Ry] (.tup [Sz,i64 0]):=DW (DE ak DA) 1000 40 (by kernel_rfl)
end Go.Ide
