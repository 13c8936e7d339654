/- The layer of own lemmas and contracts, part 16. -/
import Derived.Test.YtmpdcldckjeklabGreatDoorAD15
set_option linter.unusedVariables false
set_option linter.unusedSimpArgs false
namespace Go.Ide
open Go.Proofs Go.RowKit
set_option maxRecDepth 100000
theorem UO:Aa C0 51 [NK,S1] (.tup [NM,i64 0]):=Dc (DN DS DL) 1000 40 (by kernel_rfl)
theorem UP:Aa C0 51 [NM,S2] (.tup [Jl,i64 0]):=Dc (DN OU DL) 1000 40 (by kernel_rfl)
theorem ey:Aa C0 51 [Jl,SH] (.tup [HU,i64 0]):=Dc (DN DS DL) 1000 40 (by kernel_rfl)
theorem fA:Aa C0 51 [HU,R9] (.tup [TO,i64 0]):=Dc (DN bv DL) 1000 40 (by kernel_rfl)
end Go.Ide
