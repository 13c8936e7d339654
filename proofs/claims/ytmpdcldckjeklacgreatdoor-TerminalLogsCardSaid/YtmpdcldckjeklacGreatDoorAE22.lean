/- The layer of own lemmas and contracts, part 22. -/
import Derived.Test.YtmpdcldckjeklacGreatDoorRows
import Derived.JoinedOf
import Derived.KernelRfl
set_option linter.unusedVariables false
set_option linter.unusedSimpArgs false
namespace Go.Proofs.YtmpdcldckjeklacGreatDoor
open Go
theorem and2 {a b:Bool}(h:a=true)(k:b=true):(a&&b)=true:=by rw [h,k];rfl
abbrev JfT (g:Program->FuncId->Func->ChangeSpec->OpenClaim->Bool):Prop:=g Tryz.prog 3 Tryz.f3 Rows.terminalLogsSpec Rows.terminalLogsRow=true
theorem jfK {g:Program->FuncId->Func->ChangeSpec->OpenClaim->Bool}(h:g Tryz.prog 3 Tryz.f3 Rows.terminalLogsSpec Rows.terminalLogsRow=true:=by kernel_rfl):JfT g:=h
theorem jf1:JfT fun P f fn s c=>(c.wf (OpenSpec.ofChange s):Bool):=jfK
theorem jf2:JfT fun P f fn s c=>(laidOutB P:Bool):=jfK
theorem jf3:JfT fun P f fn s c=>(mapsRowed P:Bool):=jfK
theorem jf4:JfT fun P f fn s c=>(fn.params.all (P.readableRec ·):Bool):=jfK
theorem jf5:JfT fun P f fn s c=>(namedTie P c.named s.vars:Bool):=jfK
theorem jf6:JfT fun P f fn s c=>((c.stops==[]):Bool):=jfK
theorem jf7:JfT fun P f fn s c=>((P.stops==[]):Bool):=jfK
theorem jf8:JfT fun P f fn s c=>((c.knobs==[]):Bool):=jfK
theorem jf9:JfT fun P f fn s c=>((P.stopKnobs==[]):Bool):=jfK
theorem jf10:JfT fun P f fn s c=>((c.inPlace==P.inPlace f):Bool):=jfK
theorem jf11:JfT fun P f fn s c=>((c.unfollowed==P.unfollowed f):Bool):=jfK
theorem jf12:JfT fun P f fn s c=>((c.recurses==P.recurses f):Bool):=jfK
theorem jf13:JfT fun P f fn s c=>((c.named==P.varsNamed f):Bool):=jfK
theorem jf14:JfT fun P f fn s c=>((c.maps==(fn.params.toList++s.plain.varTypes P).any (P.mapsRec ·)):Bool):=jfK
theorem jf15:JfT fun P f fn s c=>((c.ifaces==(fn.params.toList++s.plain.varTypes P).any (P.ifacesRec ·)):Bool):=jfK
theorem jf16:JfT fun P f fn s c=>((c.mapsOut==P.mapsAmong fn.resultTypes.toList):Bool):=jfK
theorem jf17:JfT fun P f fn s c=>((c.loops==(fn.params.toList++s.plain.varTypes P).any (P.loopsFrom ·)):Bool):=jfK
theorem jf18:JfT fun P f fn s c=>((c.wideKeys==(fn.params.toList++s.plain.varTypes P++fn.resultTypes.toList).any (P.wideKeysFrom ·)):Bool):=jfK
theorem jf19:JfT fun P f fn s c=>(s.vars.all (P.varReadable ·):Bool):=jfK
theorem jf20:JfT fun P f fn s c=>(fn.resultTypes.all (fun t=>P.readableRec t&&decide (t<P.types.size)):Bool):=jfK
theorem jf21:JfT fun P f fn s c=>((c.ifacesOut==fn.resultTypes.toList.any (P.ifacesRec ·)):Bool):=jfK
theorem jf22:JfT fun P f fn s c=>((c.loopsOut==fn.resultTypes.toList.any (P.loopsFrom ·)):Bool):=jfK
theorem jf23:JfT fun P f fn s c=>((c.plainKeys==P.plainKeys):Bool):=jfK
theorem jf24:JfT fun P f fn s c=>(c.shortTexts.isNone:Bool):=jfK
theorem jf25:JfT fun P f fn s c=>(P.stopsHeard:Bool):=jfK
theorem jf26:JfT fun P f fn s c=>(P.mayEnter:Bool):=jfK
theorem jf27:JfT fun P f fn s c=>((c.lifted==P.liftsFinal):Bool):=jfK
theorem jf28:JfT fun P f fn s c=>((P.make==some c.make):Bool):=jfK
theorem jf29:JfT fun P f fn s c=>((c.kinds==(if c.domain.isEmpty then [] else fn.params.toList.map fun t=>match P.underlying t with|some (.int k)=>some k|_=>none)):Bool):=jfK
theorem jf30:JfT fun P f fn s c=>((c.pinned==c.pinnedBy):Bool):=jfK
theorem jf31:JfT fun P f fn s c=>((c.veiled==(fn.params.toList++s.plain.varTypes P++fn.resultTypes.toList).any (P.veiledRec ·)):Bool):=jfK
theorem jf32:JfT fun P f fn s c=>(c.veiledFits P fn.params.toList (fn.params.toList++s.plain.varTypes P++fn.resultTypes.toList):Bool):=jfK
set_option maxRecDepth 100000 in
theorem joined_holds:joinedFacts Tryz.prog 3 Tryz.f3 Rows.terminalLogsSpec Rows.terminalLogsRow=true:=(and2 (and2 (and2 (and2 (and2 (and2 (and2 (and2 (and2 (and2 (and2 (and2 (and2 (and2 (and2 (and2 (and2 (and2 (and2 (and2 (and2 (and2 (and2 (and2 (and2 (and2 (and2 (and2 (and2 (and2 (and2 jf1 jf2) jf3) jf4) jf5) jf6) jf7) jf8) jf9) jf10) jf11) jf12) jf13) jf14) jf15) jf16) jf17) jf18) jf19) jf20) jf21) jf22) jf23) jf24) jf25) jf26) jf27) jf28) jf29) jf30) jf31) jf32)
end Go.Proofs.YtmpdcldckjeklacGreatDoor
