/- The layer of own lemmas and contracts, part 10. -/
import Derived.Test.YtaoojbnciofmcaaGreatDoorAA8
import Derived.Test.YtaoojbnciofmcaaGreatDoorAA3
set_option linter.unusedVariables false
set_option linter.unusedSimpArgs false
namespace Go.Ide
open Go.Proofs Go.RowKit
set_option maxRecDepth 20000
def Nk:List (Nat×List D×D)->Nat->List D->Option D
 | [],_,_=>none
 |(g,a,d)::r,f,ds=>match Nat.beq f g&&Ln (OF 30) ds a with
  |true=>some d
  |false=>Nk r f ds
theorem UT:∀(t:List (Nat×List D×D)),(∀e∈t,AK C0 e.1 e.2.1 e.2.2/\Ah e.2.1)->∀(f:Nat) (ds:List D) (d:D),Nk t f ds=some d->AK C0 f ds d/\Ah ds
 | [],_,f,ds,d,h=>by simp[Nk]at h
 |(g,a,d0)::r,ht,f,ds,d,h=>by
  unfold Nk at h;split at h
  ·rename_i hb
   simp only[Ba]at hb;obtain rfl:=CA hb.1;obtain rfl:=R6 (U7 _) hb.2;cases h;exact ht _ CO
  ·exact UT r (λe he=>ht e (CT _ he)) f ds d h
end Go.Ide
