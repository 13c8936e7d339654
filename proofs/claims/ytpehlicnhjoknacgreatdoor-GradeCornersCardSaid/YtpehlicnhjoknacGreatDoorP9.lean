/- The layer of own lemmas and contracts, part 9. -/
import Derived.Test.YtpehlicnhjoknacGreatDoorP8
set_option linter.unusedVariables false
set_option linter.unusedSimpArgs false
namespace Go.Ide
open Go.Proofs Go.RowKit
set_option maxRecDepth 20000
theorem d6J (K:Kn):a0b C0 38 [a9i,.prim (.int .i64 400),.prim (.int .i64 200)] (.tup [.prim (.string ⟨#[49,50,53,48,48]⟩),.prim (.int .i64 0)]):=d9b (b1f K) 1000 40 (by kernel_rfl)
end Go.Ide
