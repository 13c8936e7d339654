/- TopPoured holds of the given program: for all layers and masses the call returns true, and its arguments read as before. Conditions: none beyond the row's own (the listed variables read as the card ties them). -/
import Derived.Test.YtbfcnlkcimghoaaGreatDoorAB14
import Derived.Test.YtbfcnlkcimghoaaGreatDoorCards
import Derived.Test.YtbfcnlkcimghoaaGreatDoorTie
import Derived.SevenTiedAt
import Derived.KernelRfl
namespace Go.Proofs.YtbfcnlkcimghoaaGreatDoor
open Go
theorem cfw:Rows.topPouredRow.wfByText (OpenSpec.ofChange Rows.topPouredSpec)=true:=by kernel_rfl
theorem cfm:Tryz.pinned.checked.prog.mainIs=some (true,"b616045714e2165416990e00f01849e6ff377a5f8abe7abfb90351d8e43de1ca".toList):=by kernel_rfl
theorem cfn:Tryz.prog.funcNamed "bushel/busheltop.TopPoured" = some 3:=by kernel_rfl
theorem cfp:Tryz.f3.params = #[22,23]:=by kernel_rfl
theorem cfl:true=Tryz.prog.looks []:=by kernel_rfl
theorem cfs:([22,23].all fun u=>!Tryz.prog.wantsStandIn u)=true:=by kernel_rfl
theorem cfg:false=Rows.topPouredRow.goesBy Tryz.pinned.checked.prog:=by kernel_rfl
theorem cfh (f:FuncId) (fn:Func) (hf:Tryz.prog.funcNamed "bushel/busheltop.TopPoured" = some f) (hfn:Tryz.prog.funcs[f]? = some fn):true=Tryz.prog.looks []/\∀ (j:Nat) t,fn.params[j]? = some t->Tryz.prog.wantsStandIn t=false:=by
 obtain rfl:f=3:=Option.some.inj (cfn.symm.trans hf) |>.symm;obtain rfl:fn=Tryz.f3:=(Option.some.inj (Tryz.func3.symm.trans hfn)).symm;exact ⟨cfl,fun j t ht=>by
  rw [cfp] at ht;have hm:t∈[22,23]:=by simpa using Array.mem_of_getElem? ht
  exact (show Tryz.prog.wantsStandIn t=false by simpa using List.all_eq_true.1 cfs t hm)⟩
theorem topPoured_holds:Rows.TopPouredCardSaid :=
 Claim7.holds_tied_plain_at .later [] [.data,.data,.data,.data,.sentinel,.sentinel,.pinned] true (true,"b616045714e2165416990e00f01849e6ff377a5f8abe7abfb90351d8e43de1ca") true
  row_holds (fun _ h=>by cases h) cfw (fun _ h=>by cases h) topPoured_row_tie rfl ⟨rfl,rfl⟩ cfm rfl cfh cfg
#print axioms topPoured_holds
end Go.Proofs.YtbfcnlkcimghoaaGreatDoor
