/- The layer of own lemmas and contracts, part 10. -/
import Derived.Test.YtaoojbnciofmcabGreatDoorR8
import Derived.Test.YtaoojbnciofmcabGreatDoorR3
set_option linter.unusedVariables false
set_option linter.unusedSimpArgs false
namespace Go.Ide
open Go.Proofs Go.RowKit
set_option maxRecDepth 20000
def OE:List (Nat×List D×D)->Nat->List D->Option D
 | [],_,_=>none
 |(g,a,d)::r,f,ds=>match Nat.beq f g&&L7 (Oj 30) ds a with
  |true=>some d
  |false=>OE r f ds
theorem Uf:∀(t:List (Nat×List D×D)),(∀e∈t,AL C0 e.1 e.2.1 e.2.2/\Ai e.2.1)->∀(f:Nat) (ds:List D) (d:D),OE t f ds=some d->AL C0 f ds d/\Ai ds
 | [],_,f,ds,d,h=>by simp[OE]at h
 |(g,a,d0)::r,ht,f,ds,d,h=>by
  unfold OE at h;split at h
  ·rename_i hb
   simp only[BZ]at hb;obtain rfl:=CC hb.1;obtain rfl:=SC (Vn _) hb.2;cases h;exact ht _ CF
  ·exact Uf r (λe he=>ht e (CL _ he)) f ds d h
end Go.Ide
