/- The layer of own lemmas and contracts, part 10. -/
import Derived.Test.YtpghcedmmpcfeabGreatDoorP8
import Derived.Test.YtpghcedmmpcfeabGreatDoorP3
set_option linter.unusedVariables false
set_option linter.unusedSimpArgs false
namespace Go.Ide
open Go.Proofs Go.RowKit
set_option maxRecDepth 20000
def OC:List (Nat×List D×D)->Nat->List D->Option D
 | [],_,_=>none
 |(g,a,d)::r,f,ds=>match Nat.beq f g&&L7 (Oc 30) ds a with
  |true=>some d
  |false=>OC r f ds
theorem Uk:∀(t:List (Nat×List D×D)),(∀e∈t,AK C0 e.1 e.2.1 e.2.2/\Ah e.2.1)->∀(f:Nat) (ds:List D) (d:D),OC t f ds=some d->AK C0 f ds d/\Ah ds
 | [],_,f,ds,d,h=>by simp[OC]at h
 |(g,a,d0)::r,ht,f,ds,d,h=>by
  unfold OC at h;split at h
  ·rename_i hb
   simp only[BY]at hb;obtain rfl:=CG hb.1;obtain rfl:=SM (Vo _) hb.2;cases h;exact ht _ B3
  ·exact Uk r (λe he=>ht e (CA _ he)) f ds d h
end Go.Ide
