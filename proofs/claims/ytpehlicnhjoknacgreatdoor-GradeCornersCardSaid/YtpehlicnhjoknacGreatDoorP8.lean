/- The layer of own lemmas and contracts, part 8. -/
import Derived.Test.YtpehlicnhjoknacGreatDoorP7
set_option linter.unusedVariables false
set_option linter.unusedSimpArgs false
namespace Go.Ide
open Go.Proofs Go.RowKit
set_option maxRecDepth 20000
def b2E:D:=.agg [.prim (.string ⟨#[109,111,105,115,116,117,114,101]⟩),.prim (.string ⟨#[49,47,53]⟩),.prim (.string ⟨#[104,97,108,102,45,117,112]⟩),.prim (.string ⟨#[49,47,49,48]⟩)]
theorem d6K (K:Kn):a0b C0 30 [a1Q,.sl true 1 [.prim (.string ⟨#[54,55,47,53]⟩),.prim (.string ⟨#[55,57]⟩)]] (.tup [.prim (.int .i64 1),.prim (.int .i64 0)]):=d9b (b1f K) 1000 40 (by kernel_rfl)
theorem d6L (K:Kn):a0b C0 32 [a1Q,.sl true 1 [.prim (.string ⟨#[54,55,47,53]⟩),.prim (.string ⟨#[55,57]⟩)]] (.tup [.sl false 1 [.prim (.int .i64 0)],.prim (.int .i64 0)]):=d9b (b1f K) 1000 40 (by kernel_rfl)
theorem d6M (K:Kn):a0b C0 33 [a1Q,.prim (.int .i64 0),.sl true 1 [.prim (.string ⟨#[54,55,47,53]⟩),.prim (.string ⟨#[55,57]⟩)],.sl true 3 [.agg [.prim (.int .i64 0),.prim (.string ⟨#[49,47,50]⟩),.prim (.string ⟨#[51]⟩)]]] (.tup [.prim (.string ⟨#[51]⟩),.prim (.int .i64 0)]):=d9b (b1f K) 1000 40 (by kernel_rfl)
theorem d6N (K:Kn):a0b C0 10 [a1Q,.sl true 2 [.agg [.prim (.string ⟨#[49,53]⟩),.prim (.string ⟨#[49,55]⟩)],.agg [.prim (.string ⟨#[55,55]⟩),.prim (.string ⟨#[56,48]⟩)]]] (.tup [.sl false 1 [.prim (.int .i64 2),.prim (.int .i64 3)],.prim (.int .i64 0)]):=d9b (b1f K) 1000 40 (by kernel_rfl)
theorem d6H (K:Kn):a0b C0 34 [b2E,.prim (.string ⟨#[49,51,52,52,57,47,49,48,48,48]⟩)] (.tup [.prim (.string ⟨#[54,55,47,53]⟩),.agg [.prim (.string ⟨#[54,54,47,53]⟩),.prim (.string ⟨#[54,56,47,53]⟩)],.prim (.int .i64 0)]):=d9b (b1f K) 1000 40 (by kernel_rfl)
theorem d6I (K:Kn):a0b C0 36 [b2E,.sl true 1 [.prim (.string ⟨#[54,55,47,53]⟩),.prim (.string ⟨#[54,57,47,53]⟩),.prim (.string ⟨#[54,56,47,53]⟩)]] (.tup [.prim (.string ⟨#[54,56,47,53]⟩),.prim (.int .i64 0)]):=d9b (b1f K) 1000 40 (by kernel_rfl)
theorem d6G (K:Kn):a0b C0 40 [.sl true 1 [.sl true 2 [.agg [.prim (.string ⟨#[49,50]⟩),.prim (.string ⟨#[49,51]⟩)]],.sl true 2 [.agg [.prim (.string ⟨#[49,52]⟩),.prim (.string ⟨#[49,53]⟩)]]],.sl true 1 [.prim (.int .i64 1),.prim (.int .i64 3)]] (.tup [.sl false 2 [.agg [.prim (.string ⟨#[50,55,47,50]⟩),.prim (.string ⟨#[50,57,47,50]⟩)]],.prim (.int .i64 0)]):=d9b (b1f K) 1000 40 (by kernel_rfl)
def a9i:D:=.sl false 3 [.agg [.prim (.string ⟨#[49,48,48]⟩),.prim (.string ⟨#[53,48]⟩),.prim (.int .i64 1)],.agg [.prim (.string ⟨#[49,48,48]⟩),.prim (.string ⟨#[49,53,48]⟩),.prim (.int .i64 1)],.agg [.prim (.string ⟨#[50,48,48]⟩),.prim (.string ⟨#[49,48,48]⟩),.prim (.int .i64 1)],.agg [.prim (.string ⟨#[51,48,48]⟩),.prim (.string ⟨#[53,48]⟩),.prim (.int .i64 1)],.agg [.prim (.string ⟨#[51,48,48]⟩),.prim (.string ⟨#[49,53,48]⟩),.prim (.int .i64 1)]]
theorem d6F (K:Kn):a0b C0 37 [.prim (.string ⟨#[113,117,105,110,99,117,110,120]⟩),.prim (.int .i64 5),.prim (.int .i64 400),.prim (.int .i64 200)] (.tup [a9i,.prim (.int .i64 0)]):=d9b (b1f K) 1000 40 (by kernel_rfl)
end Go.Ide
