/- The layer of own lemmas and contracts, part 9. -/
import Derived.Test.YtpehlicnhjoknaaGreatDoorP8
set_option linter.unusedVariables false
set_option linter.unusedSimpArgs false
namespace Go.Ide
open Go.Proofs Go.RowKit
set_option maxRecDepth 20000
theorem d3y (K:Kn):a0b C0 30 [a7v,.prim (.int .i64 400),.prim (.int .i64 200)] (.tup [.prim (.string ⟨#[49,50,53,48,48]⟩),.prim (.int .i64 0)]):=a0b.ev (b0u K) 1000 40 (by kernel_rfl)
end Go.Ide
