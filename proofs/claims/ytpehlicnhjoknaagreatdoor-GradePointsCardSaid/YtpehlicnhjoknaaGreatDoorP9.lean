/- The layer of own lemmas and contracts, part 9. -/
import Derived.Test.YtpehlicnhjoknaaGreatDoorP8
set_option linter.unusedVariables false
set_option linter.unusedSimpArgs false
namespace Go.Ide
open Go.Proofs Go.RowKit
set_option maxRecDepth 20000
theorem d5q (K:Kn):a0b C0 30 [a8B,.prim (.int .i64 400),.prim (.int .i64 200)] (.tup [.prim (.string ⟨#[49,50,53,48,48]⟩),.prim (.int .i64 0)]):=a0b.ev (b0t K) 1000 40 (by kernel_rfl)
end Go.Ide
