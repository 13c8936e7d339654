/- The layer of own lemmas and contracts, part 23. -/
import Derived.Test.YtmpdcldckjeklacGreatDoorAE8
import Derived.Test.YtmpdcldckjeklacGreatDoorAE21
import Derived.Test.YtmpdcldckjeklacGreatDoorAE22
import Derived.Test.YtmpdcldckjeklacGreatDoorRows
import Derived.ProofKit
import Derived.OpenShut
import Derived.ShutString
import Derived.ChangeOld
import Derived.Below
import Derived.Carry
import Derived.Lay
import Derived.Stop.LaidErr
import Derived.SevenTiedAt
set_option linter.unusedVariables false
set_option linter.unusedSimpArgs false
namespace Go.Proofs.YtmpdcldckjeklacGreatDoor
open Go Go.Ide Go.ChangeShapes Go.WideShapes Go.ChangeAt Go.RowKit
open Go.ChangeMaps (open_string shut_string)
set_option maxRecDepth 100000
theorem own:ownKnob Tryz.prog.godebug=none:=by kernel_rfl
theorem laidOut:laidOutB Tryz.prog=true:=by kernel_rfl
theorem tab_of {W:World}(h:laidMet Tryz.prog Rows.terminalLogsRow.laid W):G0 W:=by
 have h2:laidMet Tryz.prog (("internal/strconv.uint64pow10",Lib.tabData .u64 Lib.pow10Tab)::[("unicode/utf8.acceptRanges",Rows.laid_unicode_utf8_acceptRanges),("strconv.ErrRange",Rows.laid_strconv_ErrRange),("strconv.ErrSyntax",Rows.laid_strconv_ErrSyntax),("unicode/utf8.first",Rows.laid_unicode_utf8_first)]) W:=laidMet.tail (laidMet.tail h)
 exact Lib.tabIs_of_head (g:=7) (t:=376) (e:=248) (n:=20) (by kernel_rfl) (by kernel_rfl) (by kernel_rfl) (by kernel_rfl) (by kernel_rfl) (by kernel_rfl) h2
theorem size_of {W:World}(h:G0 W):C0.nG<=W.heap.size:=by
 have hc:=Lib.TabIs.cell h (by kernel_rfl:Tryz.prog.globalNamed "internal/strconv.uint64pow10" = some 7) 0 (by decide)
 have:7<W.heap.size:=by
  apply Classical.byContradiction;intro hn;simp [World.cell?,Array.getElem?_eq_none (Nat.le_of_not_lt hn)] at hc
 show 7+1<=W.heap.size;omega
theorem agg_of {W:World}{t base:Nat}{v:Value}(hs:(Ld Tryz.prog t).isSome=true)(h:Value.okWide Tryz.prog W .any base t v):∃ cs,v=.agg cs:=by
 unfold Ld at hs;unfold Value.okWide at h;split at hs
 ·rename_i fs hu
  rw [hu] at h;obtain ⟨cs,h1,_⟩:=h;exact ⟨cs,h1⟩
 ·cases hs
theorem places {H:Type}{enc:TypeId × Value->H}{W:World}{t:Nat}{v:Value}{d:DataW H}{p:List MemPlace}(h:DataW.Trod enc Tryz.prog W 0 (fun _=>true) true t v d p):∀ x∈p,x.block<W.heap.size:=by
 obtain ⟨fuel,hf⟩:=h;exact DataW.trod_lt _ _ _ _ hf
theorem lifted (os:Os)(started:os.Started)(H:Type)(enc:TypeId × Value->H) :
  ReturnsInHanded {} Tryz.checked os 3 .any (fun w args=>(Rows.terminalLogsSpec.pre enc Tryz.prog Tryz.f3 [] false w args/\laidMetH Tryz.prog Rows.terminalLogsRow.laid w)/\sizedMet enc Tryz.prog Tryz.f3 (OpenSpec.ofChange Rows.terminalLogsSpec) false w args)
   (Rows.terminalLogsSpec.post enc Tryz.prog Tryz.f3 false true false false):=by
 refine returnsInHanded_of_change_and (C:=Tryz.checked) (X:=fun w _=>laidMetH Tryz.prog Rows.terminalLogsRow.laid w) (fun _ _ _ hh h=>h.of_heap hh) own started (by kernel_rfl) Tryz.func3
  (ChangeSpec.witness_shaped (enc:=enc) (C:=Tryz.checked) (os:=os) (X:=fun w _=>laidMetH Tryz.prog Rows.terminalLogsRow.laid w) false (World.laidAll Tryz.prog os Rows.terminalLogsRow.laid) #[.string ⟨#[]⟩,.agg #[.int .i64 0,.int .i64 0,.string ⟨#[]⟩,.slice none 0 0,.slice none 0 0]] 8 (World.laidAll_os _ _ _)
   (World.shaped_of_ZipB (by kernel_rfl) (by kernel_rfl)) (by kernel_rfl) (by kernel_rfl) (by kernel_rfl)
   (by rw [MakeChecks.laidMetH_plain _ _ _ (by kernel_rfl)];exact laidMet_laidAll _ (by kernel_rfl) (by kernel_rfl))) ?_
 intro W base args ds gs before hval0 hW _ _ hL _;have hval:∀ (j:Nat) t v,Tryz.f3.params[j]? = some t->args[j]? = some v->Value.okWide Tryz.prog W .any base t v:=hval0;have hW':=hW;obtain ⟨p,q,hA0,hV,rfl,_,_⟩:=hW;have hA:DataW.TrodAll enc Tryz.prog W 0 (fun _=>true) true Tryz.f3.params.toList args.toList ds p:=hA0;rw [show Tryz.f3.params = #[9,25] by kernel_rfl] at hA hval;obtain ⟨v0,vs0,d0,ds0,p0,q0,hargs,rfl,rfl,h0,r0⟩:=trodAll_cons hA;obtain ⟨v1,vs1,d1,ds1,p1,q1,rfl,rfl,rfl,h1,r1⟩:=trodAll_cons r0;obtain ⟨rfl,rfl,rfl⟩:=trodAll_nil r1;obtain rfl:args = #[v0,v1]:=Array.ext' hargs;obtain ⟨rfl,rfl⟩:=trodVars_none hV;have u4:Tryz.prog.underlying 4=some .bool:=by kernel_rfl
 have k0:=h0;obtain ⟨fu0,hf0⟩:=h0;obtain ⟨st0,rfl,_,_,_⟩:=open_string (by kernel_rfl:Tryz.prog.underlying 9=some .string) (hval 0 9 v0 rfl rfl) k0;obtain ⟨l,rd0,hl0⟩:=ON (cs:=[.string st0]) hf0;have k1:=h1;obtain ⟨fu1,hf1⟩:=h1;obtain ⟨cs1,rfl⟩:=agg_of (W:=W) (by kernel_rfl:(Ld Tryz.prog 25).isSome=true) (hval 1 25 v1 rfl rfl);obtain ⟨x,rd1,fit1⟩:=W8 hf1;simp only [List.append_nil] at hW';rw [MakeChecks.laidMetH_plain _ _ _ (by kernel_rfl)] at hL;have hG:=tab_of hL;have law:=(cf l (Nat.le_trans hl0 (by decide)) x (Nat.le_trans fit1.1 (by decide)) (Nat.le_trans fit1.2.1 (by decide)) (Nat.le_trans fit1.2.2.1 (by decide)) (fun s h=>Nat.le_trans (fit1.2.2.2 s h) (by decide))).2 (fun _=>False) W #[.string st0,.agg cs1] hG (size_of hG) (fun _ h=>h.elim) rfl (fun i d hd=>by
  match i with
  | 0=>simp at hd;subst hd;exact rd0.val1
  | 1=>simp at hd;subst hd;exact rd1.agg
  | n+2=>simp at hd)
 clear hA0 hval0;refine law.mono fun e W' ⟨v,d,he,hb,hd,rep⟩=>?_
 subst hd;cases rep;subst he;exact ⟨_,rfl,_,_,_,[],_,[],hW',trodAll_mk1 (shut_bool u4 _),(trodAll_cons_mk (Below.trod laidOut (by kernel_rfl) (of_decide_eq_true (by kernel_rfl)) k0 hb (places k0)) (trodAll_cons_mk (Below.trod laidOut (by kernel_rfl) (of_decide_eq_true (by kernel_rfl)) k1 hb (places k1)) trodAll_mk0)),rfl,hb.frame _,fun h=>by cases h⟩
theorem row_holds:Rows.terminalLogsRow.holds Tryz.pinned (OpenSpec.ofChange Rows.terminalLogsSpec) :=
 OpenClaim.holds_of_wide 3 Tryz.f3 rfl rfl rfl rfl rfl rfl rfl ⟨rfl,rfl,rfl,rfl,rfl⟩ rfl rfl rfl rfl rfl (by kernel_rfl) Tryz.func3 joined_holds
  (of_decide_eq_true (by kernel_rfl)) (by unfold Func.isWrapper;first|(rw [if_pos (by decide +kernel)];kernel_rfl)|(rw [if_neg (by decide +kernel)];exact ⟨rfl,rfl⟩))
  (fun os started H enc _=>lifted os started H enc)
end Go.Proofs.YtmpdcldckjeklacGreatDoor
