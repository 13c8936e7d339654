/- The layer of own lemmas and contracts, part 10. -/
import Derived.Test.YteeceibhhdapaaaGreatDoorP8
import Derived.Test.YteeceibhhdapaaaGreatDoorP3
set_option linter.unusedVariables false
set_option linter.unusedSimpArgs false
namespace Go.Ide
open Go.Proofs Go.RowKit
set_option maxRecDepth 20000
def L2:List (Nat×List D×D)->Nat->List D->Option D
 | [],_,_=>none
 |(g,a,d)::r,f,ds=>match Nat.beq f g&&KA (MZ 30) ds a with
  |true=>some d
  |false=>L2 r f ds
theorem Rl:∀(t:List (Nat×List D×D)),(∀e∈t,AK C0 e.1 e.2.1 e.2.2/\Ac e.2.1)->∀(f:Nat) (ds:List D) (d:D),L2 t f ds=some d->AK C0 f ds d/\Ac ds
 | [],_,f,ds,d,h=>by simp[L2]at h
 |(g,a,d0)::r,ht,f,ds,d,h=>by
  unfold L2 at h;split at h
  ·rename_i hb
   simp only[BV]at hb;obtain rfl:=Bu hb.1;obtain rfl:=P0 (Sa _) hb.2;cases h;exact ht _ Cc
  ·exact Rl r (λe he=>ht e (Ck _ he)) f ds d h
end Go.Ide
