/- The layer of own lemmas and contracts, part 10. -/
import Derived.Test.YtegpdgcahcikoaaGreatDoorO8
import Derived.Test.YtegpdgcahcikoaaGreatDoorO3
set_option linter.unusedVariables false
set_option linter.unusedSimpArgs false
namespace Go.Ide
open Go.Proofs Go.RowKit
set_option maxRecDepth 20000
def M7:List (Nat×List D×D)->Nat->List D->Option D
 | [],_,_=>none
 |(g,a,d)::r,f,ds=>match Nat.beq f g&&K0 (Ni 30) ds a with
  |true=>some d
  |false=>M7 r f ds
theorem Td:∀(t:List (Nat×List D×D)),(∀e∈t,AK C0 e.1 e.2.1 e.2.2/\Aj e.2.1)->∀(f:Nat) (ds:List D) (d:D),M7 t f ds=some d->AK C0 f ds d/\Aj ds
 | [],_,f,ds,d,h=>by simp[M7]at h
 |(g,a,d0)::r,ht,f,ds,d,h=>by
  unfold M7 at h;split at h
  ·rename_i hb
   simp only[BR]at hb;obtain rfl:=B5 hb.1;obtain rfl:=RP (Uf _) hb.2;cases h;exact ht _ CG
  ·exact Td r (λe he=>ht e (CK _ he)) f ds d h
end Go.Ide
