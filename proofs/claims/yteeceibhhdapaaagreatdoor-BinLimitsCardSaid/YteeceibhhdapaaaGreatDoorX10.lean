/- The layer of own lemmas and contracts, part 10. -/
import Derived.Test.YteeceibhhdapaaaGreatDoorX8
import Derived.Test.YteeceibhhdapaaaGreatDoorX3
set_option linter.unusedVariables false
set_option linter.unusedSimpArgs false
namespace Go.Ide
open Go.Proofs Go.RowKit
set_option maxRecDepth 20000
def Mx:List (Nat×List D×D)->Nat->List D->Option D
 | [],_,_=>none
 |(g,a,d)::r,f,ds=>match Nat.beq f g&&Kr (NQ 30) ds a with
  |true=>some d
  |false=>Mx r f ds
theorem S3:∀(t:List (Nat×List D×D)),(∀e∈t,AJ C0 e.1 e.2.1 e.2.2/\Ak e.2.1)->∀(f:Nat) (ds:List D) (d:D),Mx t f ds=some d->AJ C0 f ds d/\Ak ds
 | [],_,f,ds,d,h=>by simp[Mx]at h
 |(g,a,d0)::r,ht,f,ds,d,h=>by
  unfold Mx at h;split at h
  ·rename_i hb
   simp only[BP]at hb;obtain rfl:=B4 hb.1;obtain rfl:=Qj (T1 _) hb.2;cases h;exact ht _ CM
  ·exact S3 r (λe he=>ht e (CQ _ he)) f ds d h
end Go.Ide
