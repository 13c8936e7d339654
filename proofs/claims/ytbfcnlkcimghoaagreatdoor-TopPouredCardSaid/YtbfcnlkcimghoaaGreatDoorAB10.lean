/- The layer of own lemmas and contracts, part 10. -/
import Derived.Test.YtbfcnlkcimghoaaGreatDoorAB8
import Derived.Test.YtbfcnlkcimghoaaGreatDoorAB4
set_option linter.unusedVariables false
set_option linter.unusedSimpArgs false
namespace Go.Ide
open Go.Proofs Go.RowKit
set_option maxRecDepth 20000
def Qd:List (Nat×List D×D)->Nat->List D->Option D
 | [],_,_=>none
 |(g,a,d)::r,f,ds=>match Nat.beq f g&&Mb (PM 30) ds a with
  |true=>some d
  |false=>Qd r f ds
theorem ae:∀(t:List (Nat×List D×D)),(∀e∈t,AI C0 e.1 e.2.1 e.2.2/\AU e.2.1)->∀(f:Nat) (ds:List D) (d:D),Qd t f ds=some d->AI C0 f ds d/\AU ds
 | [],_,f,ds,d,h=>by simp[Qd]at h
 |(g,a,d0)::r,ht,f,ds,d,h=>by
  unfold Qd at h;split at h
  ·rename_i hb
   simp only[BM]at hb;obtain rfl:=Bi hb.1;obtain rfl:=TE (Wy _) hb.2;cases h;exact ht _ CF
  ·exact ae r (λe he=>ht e (B6 _ he)) f ds d h
end Go.Ide
