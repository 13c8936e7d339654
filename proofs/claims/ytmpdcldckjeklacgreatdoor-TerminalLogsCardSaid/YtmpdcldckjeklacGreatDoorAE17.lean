/- The layer of own lemmas and contracts, part 17. -/
import Derived.Test.YtmpdcldckjeklacGreatDoorAE16
set_option linter.unusedVariables false
set_option linter.unusedSimpArgs false
namespace Go.Ide
open Go.Proofs Go.RowKit
set_option maxRecDepth 100000
theorem U7:Aa C0 43 [Nn,Tp] (.tup [No,i64 0]):=Dq (Da Dg DY) 1000 40 (by kernel_rfl)
theorem U8:Aa C0 43 [No,Tq] (.tup [KF,i64 0]):=Dq (Da Ox DY) 1000 40 (by kernel_rfl)
theorem gj:Aa C0 43 [KF,S6] (.tup [Hv,i64 0]):=Dq (Da Dg DY) 1000 40 (by kernel_rfl)
theorem gk:Aa C0 43 [Hv,S7] (.tup [T9,i64 0]):=Dq (Da d7 DY) 1000 40 (by kernel_rfl)
end Go.Ide
