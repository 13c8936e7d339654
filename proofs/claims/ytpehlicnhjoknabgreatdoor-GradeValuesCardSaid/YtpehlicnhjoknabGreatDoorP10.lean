/- The layer of own lemmas and contracts, part 10. -/
import Derived.Test.YtpehlicnhjoknabGreatDoorP9
set_option linter.unusedVariables false
set_option linter.unusedSimpArgs false
namespace Go.Ide
open Go.Proofs Go.RowKit
set_option maxRecDepth 20000
theorem aw30 (K:Kn):ICalls C0 13 [probesD,.prim (.int .i64 400),.prim (.int .i64 200)] (.tup [.prim (.string ⟨#[49,50,53,48,48]⟩),.prim (.int .i64 0)]):=ICalls.ev (X2tok K) 1000 40 (by kernel_rfl)
end Go.Ide
