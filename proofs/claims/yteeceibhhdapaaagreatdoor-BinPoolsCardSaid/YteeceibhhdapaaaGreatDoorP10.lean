/- The layer of own lemmas and contracts, part 10. -/
import Derived.Test.YteeceibhhdapaaaGreatDoorP8
import Derived.Test.YteeceibhhdapaaaGreatDoorP3
set_option linter.unusedVariables false
set_option linter.unusedSimpArgs false
namespace Go.Ide
open Go.Proofs Go.RowKit
set_option maxRecDepth 20000
def MP:List (Nat×List D×D)->Nat->List D->Option D
 | [],_,_=>none
 |(g,a,d)::r,f,ds=>match Nat.beq f g&&KT (Mo 30) ds a with
  |true=>some d
  |false=>MP r f ds
theorem SH:∀(t:List (Nat×List D×D)),(∀e∈t,AK C0 e.1 e.2.1 e.2.2/\Ah e.2.1)->∀(f:Nat) (ds:List D) (d:D),MP t f ds=some d->AK C0 f ds d/\Ah ds
 | [],_,f,ds,d,h=>by simp[MP]at h
 |(g,a,d0)::r,ht,f,ds,d,h=>by
  unfold MP at h;split at h
  ·rename_i hb
   simp only[BZ]at hb;obtain rfl:=Bz hb.1;obtain rfl:=QJ (Sv _) hb.2;cases h;exact ht _ Ce
  ·exact SH r (λe he=>ht e (Cq _ he)) f ds d h
end Go.Ide
