/- The layer of own lemmas and contracts, part 10. -/
import Derived.Test.YteeceibhhdapaaaGreatDoorP8
import Derived.Test.YteeceibhhdapaaaGreatDoorP3
set_option linter.unusedVariables false
set_option linter.unusedSimpArgs false
namespace Go.Ide
open Go.Proofs Go.RowKit
set_option maxRecDepth 20000
def MI:List (Nat×List D×D)->Nat->List D->Option D
 | [],_,_=>none
 |(g,a,d)::r,f,ds=>match Nat.beq f g&&KK (Mf 30) ds a with
  |true=>some d
  |false=>MI r f ds
theorem R6:∀(t:List (Nat×List D×D)),(∀e∈t,AI C0 e.1 e.2.1 e.2.2/\Af e.2.1)->∀(f:Nat) (ds:List D) (d:D),MI t f ds=some d->AI C0 f ds d/\Af ds
 | [],_,f,ds,d,h=>by simp[MI]at h
 |(g,a,d0)::r,ht,f,ds,d,h=>by
  unfold MI at h;split at h
  ·rename_i hb
   simp only[BX]at hb;obtain rfl:=By hb.1;obtain rfl:=Py (Sk _) hb.2;cases h;exact ht _ Cf
  ·exact R6 r (λe he=>ht e (Cn _ he)) f ds d h
end Go.Ide
