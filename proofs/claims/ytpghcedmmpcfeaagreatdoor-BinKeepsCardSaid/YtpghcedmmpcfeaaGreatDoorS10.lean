/- The layer of own lemmas and contracts, part 10. -/
import Derived.Test.YtpghcedmmpcfeaaGreatDoorS8
import Derived.Test.YtpghcedmmpcfeaaGreatDoorS3
set_option linter.unusedVariables false
set_option linter.unusedSimpArgs false
namespace Go.Ide
open Go.Proofs Go.RowKit
set_option maxRecDepth 20000
def OI:List (Nat×List D×D)->Nat->List D->Option D
 | [],_,_=>none
 |(g,a,d)::r,f,ds=>match Nat.beq f g&&L5 (Oh 30) ds a with
  |true=>some d
  |false=>OI r f ds
theorem Uk:∀(t:List (Nat×List D×D)),(∀e∈t,AL C0 e.1 e.2.1 e.2.2/\Ah e.2.1)->∀(f:Nat) (ds:List D) (d:D),OI t f ds=some d->AL C0 f ds d/\Ah ds
 | [],_,f,ds,d,h=>by simp[OI]at h
 |(g,a,d0)::r,ht,f,ds,d,h=>by
  unfold OI at h;split at h
  ·rename_i hb
   simp only[BU]at hb;obtain rfl:=CH hb.1;obtain rfl:=SM (Vi _) hb.2;cases h;exact ht _ B1
  ·exact Uk r (λe he=>ht e (B9 _ he)) f ds d h
end Go.Ide
