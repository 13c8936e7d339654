/- The layer of own lemmas and contracts, part 10. -/
import Derived.Test.YtegpdgcahcikoaaGreatDoorY8
import Derived.Test.YtegpdgcahcikoaaGreatDoorY3
set_option linter.unusedVariables false
set_option linter.unusedSimpArgs false
namespace Go.Ide
open Go.Proofs Go.RowKit
set_option maxRecDepth 20000
def M4:List (Nat×List D×D)->Nat->List D->Option D
 | [],_,_=>none
 |(g,a,d)::r,f,ds=>match Nat.beq f g&&K3 (Nc 30) ds a with
  |true=>some d
  |false=>M4 r f ds
theorem TQ:∀(t:List (Nat×List D×D)),(∀e∈t,AI C0 e.1 e.2.1 e.2.2/\Ai e.2.1)->∀(f:Nat) (ds:List D) (d:D),M4 t f ds=some d->AI C0 f ds d/\Ai ds
 | [],_,f,ds,d,h=>by simp[M4]at h
 |(g,a,d0)::r,ht,f,ds,d,h=>by
  unfold M4 at h;split at h
  ·rename_i hb
   simp only[BO]at hb;obtain rfl:=B3 hb.1;obtain rfl:=Qz (UV _) hb.2;cases h;exact ht _ B9
  ·exact TQ r (λe he=>ht e (CD _ he)) f ds d h
end Go.Ide
