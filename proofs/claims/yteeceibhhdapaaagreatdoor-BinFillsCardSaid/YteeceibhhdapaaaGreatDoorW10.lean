/- The layer of own lemmas and contracts, part 10. -/
import Derived.Test.YteeceibhhdapaaaGreatDoorW8
import Derived.Test.YteeceibhhdapaaaGreatDoorW3
set_option linter.unusedVariables false
set_option linter.unusedSimpArgs false
namespace Go.Ide
open Go.Proofs Go.RowKit
set_option maxRecDepth 20000
def Mv:List (Nat×List D×D)->Nat->List D->Option D
 | [],_,_=>none
 |(g,a,d)::r,f,ds=>match Nat.beq f g&&Ku (NM 30) ds a with
  |true=>some d
  |false=>Mv r f ds
theorem Sj:∀(t:List (Nat×List D×D)),(∀e∈t,AK C0 e.1 e.2.1 e.2.2/\Aj e.2.1)->∀(f:Nat) (ds:List D) (d:D),Mv t f ds=some d->AK C0 f ds d/\Aj ds
 | [],_,f,ds,d,h=>by simp[Mv]at h
 |(g,a,d0)::r,ht,f,ds,d,h=>by
  unfold Mv at h;split at h
  ·rename_i hb
   simp only[Ba]at hb;obtain rfl:=B4 hb.1;obtain rfl:=Qo (Tm _) hb.2;cases h;exact ht _ Cg
  ·exact Sj r (λe he=>ht e (Cn _ he)) f ds d h
end Go.Ide
