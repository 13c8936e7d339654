/- The layer of own lemmas and contracts, part 10. -/
import Derived.Test.YtegpdgcahcikoaaGreatDoorZ8
import Derived.Test.YtegpdgcahcikoaaGreatDoorZ3
set_option linter.unusedVariables false
set_option linter.unusedSimpArgs false
namespace Go.Ide
open Go.Proofs Go.RowKit
set_option maxRecDepth 20000
def NP:List (Nat×List D×D)->Nat->List D->Option D
 | [],_,_=>none
 |(g,a,d)::r,f,ds=>match Nat.beq f g&&LS (Nt 30) ds a with
  |true=>some d
  |false=>NP r f ds
theorem Tt:∀(t:List (Nat×List D×D)),(∀e∈t,AJ C0 e.1 e.2.1 e.2.2/\Al e.2.1)->∀(f:Nat) (ds:List D) (d:D),NP t f ds=some d->AJ C0 f ds d/\Al ds
 | [],_,f,ds,d,h=>by simp[NP]at h
 |(g,a,d0)::r,ht,f,ds,d,h=>by
  unfold NP at h;split at h
  ·rename_i hb
   simp only[BQ]at hb;obtain rfl:=B6 hb.1;obtain rfl:=RF (Ud _) hb.2;cases h;exact ht _ CA
  ·exact Tt r (λe he=>ht e (CF _ he)) f ds d h
end Go.Ide
