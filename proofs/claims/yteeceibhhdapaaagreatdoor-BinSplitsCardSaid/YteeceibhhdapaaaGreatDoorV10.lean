/- The layer of own lemmas and contracts, part 10. -/
import Derived.Test.YteeceibhhdapaaaGreatDoorV8
import Derived.Test.YteeceibhhdapaaaGreatDoorV3
set_option linter.unusedVariables false
set_option linter.unusedSimpArgs false
namespace Go.Ide
open Go.Proofs Go.RowKit
set_option maxRecDepth 20000
def MA:List (Nat×List D×D)->Nat->List D->Option D
 | [],_,_=>none
 |(g,a,d)::r,f,ds=>match Nat.beq f g&&KJ (Mc 30) ds a with
  |true=>some d
  |false=>MA r f ds
theorem Rq:∀(t:List (Nat×List D×D)),(∀e∈t,AK C0 e.1 e.2.1 e.2.2/\Ag e.2.1)->∀(f:Nat) (ds:List D) (d:D),MA t f ds=some d->AK C0 f ds d/\Ag ds
 | [],_,f,ds,d,h=>by simp[MA]at h
 |(g,a,d0)::r,ht,f,ds,d,h=>by
  unfold MA at h;split at h
  ·rename_i hb
   simp only[BY]at hb;obtain rfl:=B0 hb.1;obtain rfl:=Pj (SZ _) hb.2;cases h;exact ht _ CH
  ·exact Rq r (λe he=>ht e (CN _ he)) f ds d h
end Go.Ide
