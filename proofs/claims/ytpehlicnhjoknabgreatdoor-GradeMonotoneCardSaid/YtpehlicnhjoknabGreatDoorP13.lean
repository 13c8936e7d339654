/- The layer of own lemmas and contracts, part 13. -/
import Derived.Test.YtpehlicnhjoknabGreatDoorP6
import Derived.Test.YtpehlicnhjoknabGreatDoorP3
import Derived.Shelf.RegionOpenPlain
import Derived.Lib.Builder
import Derived.Lib.UnsafeStr
import Derived.Lib.Strings
import Derived.Lib.Slices
import Derived.Lib.Walk
import Derived.Laws.Externs
import Derived.KernelRfl
import Derived.WalkKit
import Derived.Test.YtpehlicnhjoknabGreatDoorP11
import Derived.Shelf.Strconv.Itoa3
import Derived.Lib.ItoaMem
import Derived.Lib.AppendIntMem
import Derived.BigCall
import Derived.BigGuard
import Derived.Test.YtpehlicnhjoknabGreatDoorP12
import Derived.Test.YtpehlicnhjoknabGreatDoorP10
set_option linter.unusedVariables false
set_option linter.unusedSimpArgs false
namespace Go.Ide
open Go.Proofs Go.RowKit
set_option maxHeartbeats 1000000
set_option maxRecDepth 100000
theorem d1u {n:Nat}(h:1≤n):liesAt Tryz.prog Tryz.prog.depth 305 n 0 305 1=true:=by
 have hs:sameLayout Tryz.prog Tryz.prog.depth 305 305=true:=by kernel_rfl
 have hc:Tryz.prog.cellsOf 305=2:=by kernel_rfl
 obtain ⟨d,hd⟩:∃ d,Tryz.prog.depth=d+1:=⟨Tryz.prog.depth - 1,by kernel_rfl⟩
 rw [hd] at hs ⊢;unfold liesAt;rw [hd];unfold rowAt;simp [hc,hs,h]
theorem c6h (b c:Nat)(hc:2≤c)(w:World)(h0:w.cell? ⟨b,0,none⟩=some (.pointer none))(hsh:w.shape? b=some (305,c))(hfz:w.frozen? ⟨b,0,none⟩=false) :
  Calls Tryz.prog 260 #[.pointer (some ⟨b,0,none⟩)] w fun e w'=>e=.returned (.tuple #[])∧w'=w.setCell ⟨b,0,none⟩ (.pointer (some ⟨b,0,none⟩)):=by
 obtain ⟨j,hj,hjs⟩:=Option.map_eq_some_iff.1 (show (Tryz.prog.info? 305).map (·.size)=some 2 by kernel_rfl);have hl:liesAt Tryz.prog Tryz.prog.depth 305 (c / Tryz.prog.cellsOf 305) 0 305 1=true:=d1u (by rw [show Tryz.prog.cellsOf 305=2 by kernel_rfl];omega)
 go_enter Tryz.func260,Tryz.ntmps260
 go_wp2
 rw [Lib.run_to_unsafe w ⟨b,0,none⟩ (t:=305) (by kernel_rfl) (by kernel_rfl) hj (by rw [hjs];decide) hsh (by show 0<c;omega)];simp only [Result.andThen];rw [Oper.upon_value]
 go_wp2
 rw [run_callFunc_extern Tryz.func298 (by kernel_rfl) (by kernel_rfl) (by kernel_rfl) (e:=Extern.AbiNoEscape.same) (by kernel_rfl)];rw [Lib.run_noEscape];simp only [Result.andThen];rw [Oper.upon_value]
 go_wp2
 rw [Lib.run_from_unsafe w ⟨b,0,none⟩ (u:=305) (by kernel_rfl) (by kernel_rfl) hj hsh hl];simp only [Result.andThen];rw [Oper.upon_value]
 go_wp2
 go_end0
 exact ⟨rfl,rfl⟩
theorem d0J (b:Nat)(w:World)(h0:w.cell? ⟨b,0,none⟩=some (.pointer (some ⟨b,0,none⟩))) :
  Calls Tryz.prog 260 #[.pointer (some ⟨b,0,none⟩)] w fun e w'=>e=.returned (.tuple #[])∧w'=w:=by
 obtain ⟨j,hj,hjs⟩:=Option.map_eq_some_iff.1 (show (Tryz.prog.info? 305).map (·.size)=some 2 by kernel_rfl)
 go_enter Tryz.func260,Tryz.ntmps260
 go_wp2
 rw [Lib.run_neq_ptr_same w _ (te:=305) (by kernel_rfl) hj]
 go_wp2
 go_end0
 exact ⟨rfl,rfl⟩
theorem d4m (b g:Nat)(cur cs:Array Value)(l:List UInt8)(h0:l≠[])(w:World)(hb:w.heap[b]? = some (.cells cs 305 (0,0)))(hb1:cs[1]? = some (.slice (some ⟨g,0,none⟩) l.length cur.size))
  (hg:w.heap[g]? = some (.cells cur 5 (0,0))) (hl:l.length≤cur.size) (hcap:cur.size≤maxLen) (hcell:∀ (j:Nat) (x:UInt8),l[j]? = some x→cur[j]? = some (.int .u8 x.toNat)) :
  Calls Tryz.prog 226 #[.pointer (some ⟨b,0,none⟩)] w fun e w'=>e=.returned (.string ⟨l.toArray⟩)∧w'=(w.drew.freeze ⟨g,0,none⟩ l.length):=by
 have c1:w.drew.cell? ⟨b,1,none⟩=some (.slice (some ⟨g,0,none⟩) l.length cur.size):=by
  have:w.drew.heap[b]? = some (.cells cs 305 (0,0)):=hb
  rw [Lib.cell_of_heap this];exact hb1
 have h0':l.length≠0:=by simpa using h0
 have hSD:(Builtin.unsafeSliceData_ #[303] 329 #[.slice (some ⟨g,0,none⟩) l.length cur.size]).run Tryz.prog w.drew=.ok (.pointer (some ⟨g,0,none⟩)) w.drew :=
  Lib.run_unsafeSliceData_row _ _ _ _ _ _ (by omega)
 have hUS:(Builtin.unsafeString_ #[329,3] 9 #[.pointer (some ⟨g,0,none⟩),.int .i64 l.length]).run Tryz.prog w.drew=.ok (.string ⟨l.toArray⟩) (w.drew.freeze ⟨g,0,none⟩ l.length):=by
  refine Lib.run_unsafeString_row w.drew 329 3 9 5 (by kernel_rfl) (by kernel_rfl) g cur.size (by have hg':w.drew.heap[g]? = some (.cells cur 5 (0,0)):=hg;simp [World.shape?,hg']) l h0 (by omega) (by unfold maxLen at hcap;omega) ?_;intro j x hx;have hg':w.drew.heap[g]? = some (.cells cur 5 (0,0)):=hg
  have:=hcell j x hx
  rw [Addr.add_lit];simp [World.cell?,hg',this]
 have mixed:Tryz.prog.follows .mixedOrders=true:=by kernel_rfl
 go_enter Tryz.func226,Tryz.ntmps226
 go_wp2
 go_region_o
 all_goals (go_wp2;go_ret;exact ⟨rfl,rfl⟩)
def a4Z (l:List UInt8):List D:=l.map fun b=>.prim (.int .u8 (b.toNat:Int))
abbrev b1o (g:Nat)(p x:D):Ent:=⟨1500,g,305,2,[.agg [p,x]]⟩
theorem d3E {vs:Array Value}(h:vs.size=1):vs = #[vs.getD 0 undef]:=by
 match vs,h with
 | ⟨[u]⟩,_=>rfl
theorem d3B (g n:Nat)(x p:D)(H1 H2:Hp)(hp:p=.prim (.pointer none)∨p=.optr 1500 g 2 0 0) :
  a0w C0 260 [.optr 1500 g 2 0 0] (H1++b1o g p x::H2) n (fun d H' n'=>d=.prim (.tuple #[])∧H'=H1++b1o g (.optr 1500 g 2 0 0) x::H2∧n'=n):=by
 refine ⟨⟨_,_,Tryz.func260,rfl,by kernel_rfl⟩,fun F ρ w vs m fr hgn hvs hr=>?_⟩;have h0:=hr 0 _ rfl;rw [d3E hvs];generalize hv:vs.getD 0 undef=v at h0;cases h0 with
 | optr hρ =>
  rename_i b;have he:b1o g p x∈H1++b1o g p x::H2:=by simp
  obtain ⟨cs,hc,q⟩:=m.at he hρ;have hlen:2≤cs.size:=q.len;have hr0:Rep ρ (Own F.X ρ (H1++b1o g p x::H2)) w p (cs.getD 0 undef):=q.rep 0 _ 0 p rfl rfl;have hr1:Rep ρ (Own F.X ρ (H1++b1o g p x::H2)) w x (cs.getD 1 undef):=q.rep 0 _ 1 x rfl rfl;have hcell:w.cell? ⟨b,0,none⟩=some (cs.getD 0 undef):=by
   simp [World.cell?,hc,Array.getD,show 0<cs.size by omega]
  rcases hp with rfl|rfl
  ·cases hr0':cs.getD 0 undef with
   | pointer a =>
    rw [hr0'] at hr0 hcell;cases hr0;refine (c6h b cs.size hlen w hcell (by simp [World.shape?,hc]) (by simp [World.frozen?,hc])).mono ?_;rintro e w' ⟨rfl,rfl⟩;have hset:w.setCell ⟨b,0,none⟩ (.pointer (some ⟨b,0,none⟩))=World.setBlk w b (cs.setIfInBounds 0 (.pointer (some ⟨b,0,none⟩))) 305:=by
     rw [setCell_eq_setRow w b 0 cs 305 (0,0) _ hc];exact a8z hc
    have hop:Rep ρ (Own F.X ρ (H1++b1o g (.prim (.pointer none)) x::H2)) w (.optr 1500 g 2 0 0) (.pointer (some ⟨b,0*2+0,none⟩)):=.optr hρ;have ho:a2l ρ (Own F.X ρ (H1++b1o g (.prim (.pointer none)) x::H2)) w (b1o g (.optr 1500 g 2 0 0) x) (cs.setIfInBounds 0 (.pointer (some ⟨b,0,none⟩))):=by
     refine ⟨by rw [Array.size_setIfInBounds];exact q.len,fun i d hd=>?_,fun i v hv=>?_,fun i d j c hd hj=>?_⟩
     ·rcases i with _|i
      ·cases hd;rfl
      ·simp at hd
     ·rw [Array.getElem?_setIfInBounds] at hv
      split at hv
      ·split at hv
       ·cases hv;rfl
       ·cases hv
      ·exact q.one i v hv
     ·rcases i with _|i
      ·cases hd
       rcases j with _|_|j
       ·cases hj
        have:(cs.setIfInBounds 0 (.pointer (some ⟨b,0,none⟩))).getD (0*2+0) undef=.pointer (some ⟨b,0*2+0,none⟩):=by
         simp [Array.getD_eq_getD_getElem?,show 0<cs.size by omega]
        rw [this];exact hop
       ·cases hj
        have:(cs.setIfInBounds 0 (.pointer (some ⟨b,0,none⟩))).getD (0*2+1) undef=cs.getD 1 undef:=by
         simp [Array.getD_eq_getD_getElem?]
        rw [this];exact hr1
       ·simp [D.cells] at hj
      ·simp at hd
    obtain ⟨m1,x1⟩:=m.write (e':=b1o g (.optr 1500 g 2 0 0) x) hρ hc rfl rfl rfl (Array.size_setIfInBounds ..) ho;rw [hset];exact ⟨_,_,_,n,ρ,rfl,⟨rfl,rfl,rfl⟩,m1,x1,fr,fun e' he'=>by
     rcases List.mem_append.1 he' with h|h
     ·exact hgn e' (by simp [h])
     ·rcases List.mem_cons.1 h with rfl|h
      ·exact hgn (b1o g (.prim (.pointer none)) x) he
      ·exact hgn e' (by simp [h]),.prim _⟩
   | _=>rw [hr0'] at hr0;cases hr0
  ·cases hr0':cs.getD 0 undef with
   | pointer a =>
    rw [hr0'] at hr0 hcell;cases hr0 with
    | optr hρ2 =>
     rw [hρ] at hρ2;cases hρ2;refine (d0J b w hcell).mono ?_;rintro e w' ⟨rfl,rfl⟩;exact ⟨_,_,_,n,ρ,rfl,⟨rfl,rfl,rfl⟩,m,Ext.refl _ _ _,fr,hgn,.prim _⟩
   | _=>rw [hr0'] at hr0;cases hr0
theorem b1V (w:World)(g n:Nat)(hn:n≠0)(cur:Array Value)(T:Nat)(hg:w.heap[g]? = some (.cells cur T (0,0))) :
  (w.freeze ⟨g,0,none⟩ n).heap.size=w.heap.size∧(w.freeze ⟨g,0,none⟩ n).os=w.os∧(w.freeze ⟨g,0,none⟩ n).tape=w.tape∧(w.freeze ⟨g,0,none⟩ n).output=w.output ∧
  (∀ k,k≠g→(w.freeze ⟨g,0,none⟩ n).heap[k]? = w.heap[k]?)∧∃ (cs':Array Value) (fz':Nat × Nat),(w.freeze ⟨g,0,none⟩ n).heap[g]? = some (.cells cs' T fz')∧cs'.size=cur.size:=by
 unfold World.freeze;rw [if_neg hn];refine ⟨by simp,rfl,rfl,rfl,fun k hk=>?_,?_⟩
 ·dsimp only
  rw [Array.getElem?_modify,if_neg (fun h=>hk h.symm)]
 ·dsimp only
  rw [Array.getElem?_modify,if_pos rfl,hg];exact ⟨cur,_,rfl,rfl⟩
theorem d1H (g gb n:Nat)(l:List UInt8)(h0:l≠[])(p:D)(R:Hp) :
  a0w C0 226 [.optr 1500 g 2 0 0] (⟨206,gb,5,1,a4Z l⟩::b1o g p (.osl 206 gb 1 0 l.length)::R) n (fun d H' n'=>d=str ⟨l.toArray⟩∧H'=b1o g p (.osl 206 gb 1 0 l.length)::R∧n'=n):=by
 refine ⟨⟨_,_,Tryz.func226,rfl,by kernel_rfl⟩,fun F ρ w vs m fr hgn hvs hr=>?_⟩;have hz:=hr 0 _ rfl;have h0':l.length≠0:=by simpa using h0
 rw [d3E hvs];generalize hv:vs.getD 0 undef=v at hz;cases hz with
 | optr hρ =>
  rename_i b;obtain ⟨cs,hc,q⟩:=m.at (e:=b1o g p (.osl 206 gb 1 0 l.length)) (by simp) hρ;have hlen:2≤cs.size:=q.len;have hr1:Rep ρ (Own F.X ρ (⟨206,gb,5,1,a4Z l⟩::b1o g p (.osl 206 gb 1 0 l.length)::R)) w (.osl 206 gb 1 0 l.length) (cs.getD 1 undef):=q.rep 0 _ 1 (.osl 206 gb 1 0 l.length) rfl rfl;generalize hs1:cs.getD 1 undef=sv at hr1;generalize hL:l.length=L at hr1;cases hr1 with
   | onil=>exact absurd hL h0'
   | osl hρ2 hb2 hc2 hs2 hm2 =>
    rename_i cap gy T' cs2 fz2;obtain ⟨cur,hcur,qy⟩:=m.at (e:=⟨206,gb,5,1,a4Z l⟩) (by simp) hρ2;rw [hb2] at hcur;cases hcur;have hcap:cap=cs2.size:=by omega
    subst hcap;have hcell:∀ (j:Nat) (x:UInt8),l[j]? = some x→cs2[j]? = some (.int .u8 x.toNat):=fun j x hx=>by
     have hr:=qy.rep j (.prim (.int .u8 (x.toNat:Int))) 0 (.prim (.int .u8 (x.toNat:Int))) (by unfold a4Z;rw [List.getElem?_map,hx];rfl) rfl;have hlt:j<cs2.size:=by
      have:=(List.getElem?_eq_some_iff.1 hx).1
      omega
     generalize hvv:cs2.getD (j*1+0) undef=vv at hr;cases hr;rw [Array.getElem?_eq_getElem hlt]
     have:cs2.getD j undef=cs2[j]:=by simp [Array.getD,hlt]
     rw [Nat.mul_one,Nat.add_zero,this] at hvv;rw [hvv]
    have hb1:cs[1]? = some (.slice (some ⟨gy,0,none⟩) l.length cs2.size):=by
     have hlt:1<cs.size:=by omega
     rw [Array.getElem?_eq_getElem hlt]
     have:cs.getD 1 undef=cs[1]:=by simp [Array.getD,hlt]
     rw [this] at hs1;rw [hs1,hL,Nat.zero_mul]
    refine (d4m b gy cs2 cs l h0 w hc hb1 hb2 (by omega) (by omega) hcell).mono ?_;rintro e w' ⟨rfl,rfl⟩;have md:=m.drew;obtain ⟨f1,f2,f3,f4,f5,cs',fz',f6,f7⟩:=b1V w.drew gy l.length h0' cs2 5 hb2;obtain ⟨m1,x1⟩:=Mem.letGo (H1:=[]) (H2:=b1o g p (.osl 206 gb 1 0 l.length)::R) (w':=w.drew.freeze ⟨gy,0,none⟩ l.length) md hρ2 f1 f2 f3 f4 f5 (fun c hcc=>by
     have hb2':w.drew.heap[gy]? = some (.cells cs2 5 (0,0)):=hb2;have hcc':w.drew.heap[gy]? = some (.cells c 5 (0,0)):=hcc;rw [hb2'] at hcc';cases hcc';exact ⟨cs',fz',f6,f7⟩)
    rw [hL];rw [hL] at m1 x1;exact ⟨_,_,_,n,ρ,rfl,⟨rfl,rfl,rfl⟩,m1,(Ext.drew _ _ _).trans x1,fr,fun e' he'=>hgn e' (by rw [hL];exact List.mem_cons_of_mem _ he'),.prim _⟩
set_option maxRecDepth 20000
set_option maxHeartbeats 4000000
def bH (gb g:Nat)(p:D)(L:List UInt8)(R:Hp):Hp:=a6z 206 gb 5 1 (a4Z L)++(b1o g p (a8F 206 gb 1 (a4Z L))::R)
theorem b7X (s:List UInt8):a4x (sb s)=a4Z s:=rfl
theorem a4m (l:List UInt8):(a4Z l).length=l.length:=List.length_map ..
theorem b6K (a b:List UInt8):a4Z (a++b)=a4Z a++a4Z b:=List.map_append
theorem b4o {l:List UInt8}(h:l≠[]):∃ x r,a4Z l=x::r:=by
 cases l with
 | nil=>exact absurd rfl h
 | cons a l=>exact ⟨_,_,rfl⟩
theorem d3M (g gb n:Nat)(p:D)(hp:p=.prim (.pointer none)∨p=.optr 1500 g 2 0 0)(L s:List UInt8)(hs:s≠[])(R:Hp)(hlen:L.length+s.length≤100000000) :
  a0w C0 225 [.optr 1500 g 2 0 0,str (sb s)] (bH gb g p L R) n (fun d H' n'=>(∃ g',H'=bH g' g (.optr 1500 g 2 0 0) (L++s) R)∧n≤n'):=by
 refine a0w.walk w1 c2g rfl fun F=>?_
 have hsz:=a0t s;have hb:=b7X s;obtain ⟨x,r,hx⟩:=b4o hs;have hr:s.length=r.length+1:=by rw [← a4m,hx];rfl
 unfold bH;rw [b6K];cases hL:a4Z L with
 | nil =>
  dsimp only [a3q,a3m,List.nil_append];refine goI dr0 kB trivial trivial trivial trivial trivial trivial ?_;refine a0k.own _ (d3B g _ a2c p [] R hp) ?_;rintro d H' n' ⟨rfl,rfl,rfl⟩;have hL0:L.length=0:=by rw [← a4m,hL];rfl
  refine goI dr0 (ff2 hsz hb) trivial trivial trivial trivial trivial trivial ?_;refine ⟨?_,by omega⟩;apply Exists.intro;rw [hx,hr];rfl
 | cons y l =>
  dsimp only [a2C,a2D,List.cons_append,List.nil_append];have hL1:L.length=l.length+1:=by rw [← a4m,hL];rfl
  have htk:List.take (l.length+1) (y::l)=y::l:=by simp
  refine goI dr0 kB trivial trivial trivial trivial trivial trivial ?_;refine a0k.own _ (d3B g _ (.osl 206 gb 1 0 (l.length+1)) p [⟨206,gb,5,1,y::l⟩] R hp) ?_;rintro d H' n' ⟨rfl,rfl,rfl⟩;refine goI dr0 (ff3 hsz hb htk) trivial trivial trivial trivial trivial trivial ?_;refine ⟨?_,by omega⟩;apply Exists.intro;have hap:y::l++a4Z s=y::(l++a4Z s):=rfl;have hl2:(l++a4Z s).length+1=l.length+1+s.length:=by rw [List.length_append,a4m];omega
  rw [hl2]
open Go.Sort Go.Shelf
section
open Go.Lib
set_option maxHeartbeats 6400000 in
set_option maxRecDepth 100000 in
theorem d5r (u:Nat) (hu64:u<18446744073709551616) (w:World) (htab:Lib.TabIs Tryz.prog w "internal/strconv.uint64pow10" .u64 Lib.pow10Tab) :
  Calls Tryz.prog 256 #[.int .u64 u,.int .i64 10] w fun e w'=>e=.returned (.string ⟨(Lib.decDigits u).toArray⟩)∧∃ k os,w'=grow (w.drewN k) os:=by
 have e283:∀ args w,(callFunc 292 args).run Tryz.prog w=.ok (.enter 292 args) w:=enters_of Tryz.func292 (by kernel_rfl) rfl;have e284:∀ args w,(callFunc 293 args).run Tryz.prog w=.ok (.enter 293 args) w:=enters_of Tryz.func293 (by kernel_rfl) rfl;have e285:∀ args w,(callFunc 294 args).run Tryz.prog w=.ok (.enter 294 args) w:=enters_of Tryz.func294 (by kernel_rfl) rfl
 by_cases hs:u<100
 ·go_enter Tryz.func256,Tryz.ntmps256
  go_wp2_with (go_at_fn 292;refine (Tryz.internal_strconv_small u hs _).mono ?_;rintro e w' ⟨rfl,rfl⟩)
  go_ret
  exact ⟨rfl,0,#[],by simp [World.drewN_zero]⟩
 ·have hu1:1≤u:=by omega
  have hnd20:Lib.nDigits u≤20:=by have:=Lib.numDigits_eq u hu1 hu64;split at this<;>omega
  have hb3:Lib.nDigits u≤24:=by omega
  have hal:Tryz.prog.arrayLen 360=24:=by kernel_rfl
  have hsl1:∀ W,(Instr.sliceAt 360 (.pointer (some ⟨w.heap.size,0,none⟩)) none (some (.int .i64 (Lib.nDigits u:Int))) none).run Tryz.prog W=.ok (.slice (some ⟨w.heap.size,0,none⟩) (Lib.nDigits u) 24) W:=fun W=>by
   rw [run_sliceAt_array_h W 360 ⟨w.heap.size,0,none⟩ (by kernel_rfl) .i64 (Lib.nDigits u:Int) (by omega) (by rw [hal];omega)]
   go_simp
  have hH0:=Lib.holds_zero0 w 360 (Lib.nDigits u) (by omega);have hfmt:=Tryz.internal_strconv_formatBase10 w.heap.size 0 24 u (Array.replicate (Lib.nDigits u) 0) (w.alloc (.cells Lib.zeros24 360)) hH0 (by rw [Array.size_replicate];exact Lib.lt_pow_nDigits u) hu64 (by rw [Array.size_replicate];omega);rw [Array.size_replicate] at hfmt;have HH0:=Lib.hid hH0;clear hH0 hal
  go_enter Tryz.func256,Tryz.ntmps256
  go_wp2_with (first
   | (go_at_fn 293;refine (Tryz.internal_strconv_numDigits u hu1 hu64 _ (Lib.tabIs_alloc htab _)).mono ?_;rintro e w' ⟨rfl,rfl⟩))
  go_at_fn 294
  refine hfmt.mono ?_;rintro e w' ⟨rfl,k,v',dk,rfl,hF⟩;have hcv:(convert 303 9 (.slice (some ⟨w.heap.size,0,none⟩) (Lib.nDigits u) 24)).run Tryz.prog ((putRow (fun (b:UInt8)=>Value.int .u8 (b.toNat:Int)) (w.alloc (.cells Lib.zeros24 360)) w.heap.size 0 dk).drewN k)=.ok (.string ⟨(Lib.decDigits u).toArray⟩) ((putRow (fun (b:UInt8)=>Value.int .u8 (b.toNat:Int)) (w.alloc (.cells Lib.zeros24 360)) w.heap.size 0 dk).drewN k):=by
   have h:=run_convert_bytes_back (P:=Tryz.prog) ((putRow (fun (b:UInt8)=>Value.int .u8 (b.toNat:Int)) (w.alloc (.cells Lib.zeros24 360)) w.heap.size 0 dk).drewN k) 303 9 5 ⟨w.heap.size,0,none⟩ 24 (Lib.decDigits u) (by kernel_rfl) (by kernel_rfl) (by kernel_rfl) (fun j hj=>by
    rw [Lib.row_is_numeral hF j hj,Lib.add_plain,World.cell?_drewN];exact cell?_putRow (fun (b:UInt8)=>Value.int .u8 (b.toNat:Int)) _ w.heap.size 0 _ dk HH0.out (by rw [hF.size,Array.size_replicate]) j (by rw [hF.size];rw [Lib.decDigits_length] at hj;exact hj))
   rw [Lib.decDigits_length] at h;exact h
  go_wp2
  go_ret
  obtain ⟨os,eo⟩:=Lib.fin_at w (.cells Lib.zeros24 360) dk k 0;exact ⟨rfl,k,os,eo⟩
end
theorem b5L {O:Nat→Prop}{w:World}{v u:Value}{vs:Array Value}(hn:vs.size=2)(h:∀ (i:Nat) (x:D),[D.prim v,.prim u][i]? = some x→Rep nol O w x (vs.getD i undef)):vs = #[v,u]:=by
 match vs,hn with
 | ⟨[a,b]⟩,_ =>
  have h0:=h 0 _ rfl;have h1:=h 1 _ rfl;simp at h0 h1;cases h0;cases h1;rfl
theorem c5q (u:Nat)(hu:u<18446744073709551616):a0b C0 256 [.prim (.int .u64 (u:Int)),i64 10] (str ⟨(Lib.decDigits u).toArray⟩):=by
 refine ⟨⟨_,_,Tryz.func256,rfl,by kernel_rfl⟩,fun Y w vs hG hnG hX hvs hr=>?_⟩
 have:=b5L hvs hr
 subst this;refine (d5r u hu w hG).mono ?_;rintro e w' ⟨rfl,k,os,rfl⟩;exact ⟨_,_,rfl,Lib.below_grow _ _ (Nat.le_refl _) _ _,rfl,.prim _⟩
theorem c6S (u:Nat)(hu:u<18446744073709551616):a0b C0 223 [.prim (.int .u64 (u:Int)),i64 10] (str ⟨(Lib.decDigits u).toArray⟩):=by
 refine a0c.walk w1 c3m rfl fun F=>?_
 refine goI dr0 kB (c5q u hu) trivial trivial trivial trivial trivial ?_;exact a0a rfl IsPure.out
theorem rp0:a0b C0 224 [str ⟨#[48]⟩,i64 0] (str ⟨#[]⟩):=a0b.ev a4i 400 20 (by kernel_rfl)
theorem rp1:a0b C0 224 [str ⟨#[48]⟩,i64 1] (str ⟨#[48]⟩):=a0b.ev a4i 400 20 (by kernel_rfl)
theorem rp2:a0b C0 224 [str ⟨#[48]⟩,i64 2] (str ⟨#[48,48]⟩):=a0b.ev a4i 400 20 (by kernel_rfl)
theorem rp3:a0b C0 224 [str ⟨#[48]⟩,i64 3] (str ⟨#[48,48,48]⟩):=a0b.ev a4i 400 20 (by kernel_rfl)
theorem rp4:a0b C0 224 [str ⟨#[48]⟩,i64 4] (str ⟨#[48,48,48,48]⟩):=a0b.ev a4i 400 20 (by kernel_rfl)
theorem rp5:a0b C0 224 [str ⟨#[48]⟩,i64 5] (str ⟨#[48,48,48,48,48]⟩):=a0b.ev a4i 400 20 (by kernel_rfl)
theorem rp6:a0b C0 224 [str ⟨#[48]⟩,i64 6] (str ⟨#[48,48,48,48,48,48]⟩):=a0b.ev a4i 400 20 (by kernel_rfl)
theorem rp7:a0b C0 224 [str ⟨#[48]⟩,i64 7] (str ⟨#[48,48,48,48,48,48,48]⟩):=a0b.ev a4i 400 20 (by kernel_rfl)
theorem rp8:a0b C0 224 [str ⟨#[48]⟩,i64 8] (str ⟨#[48,48,48,48,48,48,48,48]⟩):=a0b.ev a4i 400 20 (by kernel_rfl)
theorem rp9:a0b C0 224 [str ⟨#[48]⟩,i64 9] (str ⟨#[48,48,48,48,48,48,48,48,48]⟩):=a0b.ev a4i 400 20 (by kernel_rfl)
theorem d3Y:a0b C0 224 [str ⟨#[48]⟩,i64 10] (str ⟨#[48,48,48,48,48,48,48,48,48,48]⟩):=a0b.ev a4i 400 20 (by kernel_rfl)
theorem d5u:a0b C0 224 [str ⟨#[48]⟩,i64 11] (str ⟨#[48,48,48,48,48,48,48,48,48,48,48]⟩):=a0b.ev a4i 400 20 (by kernel_rfl)
theorem d4P:a0b C0 224 [str ⟨#[48]⟩,i64 12] (str ⟨#[48,48,48,48,48,48,48,48,48,48,48,48]⟩):=a0b.ev a4i 400 20 (by kernel_rfl)
theorem d4o:a0b C0 224 [str ⟨#[48]⟩,i64 13] (str ⟨#[48,48,48,48,48,48,48,48,48,48,48,48,48]⟩):=a0b.ev a4i 400 20 (by kernel_rfl)
theorem d5s:a0b C0 224 [str ⟨#[48]⟩,i64 14] (str ⟨#[48,48,48,48,48,48,48,48,48,48,48,48,48,48]⟩):=a0b.ev a4i 400 20 (by kernel_rfl)
theorem d4U:a0b C0 224 [str ⟨#[48]⟩,i64 15] (str ⟨#[48,48,48,48,48,48,48,48,48,48,48,48,48,48,48]⟩):=a0b.ev a4i 400 20 (by kernel_rfl)
theorem d3X:a0b C0 224 [str ⟨#[48]⟩,i64 16] (str ⟨#[48,48,48,48,48,48,48,48,48,48,48,48,48,48,48,48]⟩):=a0b.ev a4i 400 20 (by kernel_rfl)
theorem d4O:a0b C0 224 [str ⟨#[48]⟩,i64 17] (str ⟨#[48,48,48,48,48,48,48,48,48,48,48,48,48,48,48,48,48]⟩):=a0b.ev a4i 400 20 (by kernel_rfl)
theorem c5u (n:Nat)(h:n≤17):a0b C0 224 [str ⟨#[48]⟩,i64 (n:Int)] (str ⟨(List.replicate n 48).toArray⟩):=by
 match n,h with
 | 0,_=>exact rp0
 | 1,_=>exact rp1
 | 2,_=>exact rp2
 | 3,_=>exact rp3
 | 4,_=>exact rp4
 | 5,_=>exact rp5
 | 6,_=>exact rp6
 | 7,_=>exact rp7
 | 8,_=>exact rp8
 | 9,_=>exact rp9
 | 10,_=>exact d3Y
 | 11,_=>exact d5u
 | 12,_=>exact d4P
 | 13,_=>exact d4o
 | 14,_=>exact d5s
 | 15,_=>exact d4U
 | 16,_=>exact d3X
 | 17,_=>exact d4O
 | n+18,h=>omega
def a2S (a b:List UInt8):D:=.agg (c8G (decide (a=[])) (decide (b=[])) a b)
instance  (a b:List UInt8):CellsPure (a2S a b):=by unfold a2S;exact inferInstance
instance  (a b:List UInt8):IsPure (a2S a b):=by unfold a2S;exact inferInstance
def a2Z (a b:List UInt8)(x:Rat):Bool:=(decide (a=[])||decide (a2F x (a0g a)≥0))&&(decide (b=[])||decide (a2F x (a0g b)≤0))
theorem c0W (a b:List UInt8)(x:Rat)(y:GF)(hx:FR x y 600)(ha:a2v a=0)(hb:a2v b=0):a0b C0 94 [a2S a b,y.D] (boo (a2Z a b x)):=by
 refine a0c.walk w1 d0j rfl fun F=>?_
 obtain ⟨qa,ga⟩:∃ q,decide (a=[])=q:=⟨_,rfl⟩
 obtain ⟨qb,gb⟩:∃ q,decide (b=[])=q:=⟨_,rfl⟩
 obtain ⟨p,hp⟩:∃ q,decide (a2F x (a0g a)≥0)=q:=⟨_,rfl⟩
 obtain ⟨q,hq⟩:∃ q,decide (a2F x (a0g b)≤0)=q:=⟨_,rfl⟩
 have c1:qa=false→a0b C0 121 [y.D,(a3N a).D] (i64 (a2F x (a0g a))):=fun h=>b2k hx (a8l ha (of_decide_eq_false (ga.trans h))) (by decide)
 have c2:qb=false→a0b C0 121 [y.D,(a3N b).D] (i64 (a2F x (a0g b))):=fun h=>b2k hx (a8l hb (of_decide_eq_false (gb.trans h))) (by decide)
 have hw:a2Z a b x=((qa||p)&&(qb||q)):=by unfold a2Z;rw [ga,gb,hp,hq]
 unfold a2S;rw [hw,ga,gb];clear hw ga gb;cases qa<;>cases qb<;>cases p<;>cases q
 all_goals
  refine goI dr0 (ff2 hp hq) c1 c2 trivial trivial trivial trivial ?_;exact a0a rfl IsPure.out
abbrev b0f:Dr:=[(4,[0,1,2,3,4],[5])]
open Go.Proofs Go.RowKit
set_option maxRecDepth 20000
set_option maxHeartbeats 4000000
theorem ltT {i n:Nat}(h:i<n):decide ((i:Int)<(n:Int))=true:=decide_eq_true (by omega)
theorem ltF {i n:Nat}(h:n≤i):decide ((i:Int)<(n:Int))=false:=decide_eq_false (by omega)
theorem wiI {i:Nat}(h:i<9223372036854775807):IntKind.i64.wrap ((i:Int)+1)=((i+1:Nat):Int):=wI (by omega) (by omega)
abbrev LP:=List UInt8 × List UInt8
def pv (r:List LP)(k:Nat):LP:=r.getD k ([],[])
def b0J (r:List LP):D:=.sl false 10 (r.map fun p=>a2S p.1 p.2)
instance  (r:List LP):CellsPure (b0J r):=by unfold b0J;exact inferInstance
instance  (r:List LP):IsPure (b0J r):=by unfold b0J;exact inferInstance
abbrev b4Z (n:Nat)(G:List (List LP)):D:=.agg [i64 (n:Int),.sl false 1 (G.map b0J)]
structure b4p (n:Nat)(G:List (List LP)):Prop where
 num:n≤1000
 len:G.length≤1000
 row:∀ r∈G,r.length=n∧∀ p∈r,a2v p.1=0∧a2v p.2=0
def a2i (G:List (List LP))(k:Nat)(x:Rat):Nat:=G.findIdx fun r=>a2Z (pv r k).1 (pv r k).2 x
theorem b5e {α:Type}{p:α→Bool}{l:List α}{i:Nat}{x:α}(hx:l[i]? = some x)(h:p x=true)(ha:∀ (j:Nat) (y:α),j<i→l[j]? = some y→p y=false):l.findIdx p=i:=by
 obtain ⟨hi,e⟩:=List.getElem?_eq_some_iff.1 hx;exact (List.findIdx_eq hi).2 ⟨by rw [e];exact h,fun j hj=>ha j _ hj (List.getElem?_eq_getElem _)⟩
theorem b0R {α:Type}{p:α→Bool}{l:List α}(ha:∀ (j:Nat) (y:α),j<l.length→l[j]? = some y→p y=false):l.findIdx p=l.length :=
 List.findIdx_eq_length.2 fun x hx=>by
  obtain ⟨j,hj,e⟩:=List.getElem_of_mem hx;exact ha j x hj (by rw [List.getElem?_eq_getElem hj,e])
theorem a2g {α:Type}{l:List α}{i:Nat}(h:i<l.length):∃ x,l[i]? = some x:=⟨l[i],List.getElem?_eq_getElem h⟩
theorem a7Z {α:Type}{l:List α}{Q:α→Prop}{i:Nat}{x:α}(hx:l[i]? = some x)(ha:∀ (j:Nat) (y:α),j<i→l[j]? = some y→Q y)(h:Q x):∀ (j:Nat) (y:α),j<i+1→l[j]? = some y→Q y:=fun j y hj hy=>by
 rcases Nat.lt_or_ge j i with h1|h1
 ·exact ha j y h1 hy
 ·have:j=i:=by omega
  subst this;rw [hx] at hy;cases hy;exact h
theorem b7g {r:List LP}{k:Nat}(h:k<r.length):r[k]? = some (pv r k):=by
 unfold pv;rw [List.getD_eq_getElem?_getD,List.getElem?_eq_getElem h];rfl
theorem c4o (n:Nat)(G:List (List LP))(hG:b4p n G)(k:Nat)(hk:k<n)(x:Rat)(y:GF)(hx:FR x y 600):a0b C0 99 [b4Z n G,i64 (k:Int),y.D] (i64 (a2i G k x:Nat)):=by
 refine a0c.walk w1 c9B rfl fun F=>?_
 have el:(((G.map b0J).length:Nat):Int)=(G.length:Int):=by rw [List.length_map]
 have hn:=hG.len;refine goI b0f el trivial trivial trivial trivial trivial trivial ?_;refine OkS.loop (α:=Nat × Nat) (fun p=>⟨[(1,i64 (k:Int)),(3,.optr 0 0 2 0 0),(5,.optr 1 1 4 0 0),(10,.sl false 1 (G.map b0J)),(11,i64 (G.length:Int)),(12,i64 (p.1:Int))],[⟨1,1,113,4,[y.D]⟩,⟨0,0,134,2,[.agg [i64 (n:Int),.sl false 1 (G.map b0J)]]⟩],p.2⟩) (fun p=>G.length - p.1) (fun p=>p.1≤G.length∧∀ (j:Nat) (r:List LP),j<p.1→G[j]? = some r→a2Z (pv r k).1 (pv r k).2 x=false) (0,_) ⟨Nat.zero_le _,fun j r hj=>absurd hj (Nat.not_lt_zero j)⟩ wkI ?_;rintro ⟨i,m⟩ F ⟨hi,ha⟩;dsimp only at hi ha ⊢;rcases Nat.lt_or_ge i G.length with h2|h2
 ·have e0:=ltT h2
  have wi:=wiI (i:=i) (by omega);obtain ⟨r,hr⟩:=a2g h2;have hm:(G.map b0J)[i]? = some (b0J r):=by rw [List.getElem?_map,hr];rfl
  obtain ⟨hl,hE⟩:=hG.row r (List.mem_of_getElem? hr);have hp:=b7g (r:=r) (k:=k) (by omega);have hE2:=hE _ (List.mem_of_getElem? hp);have hm2:(r.map fun p=>a2S p.1 p.2)[k]? = some (a2S (pv r k).1 (pv r k).2):=by rw [List.getElem?_map,hp];rfl
  have c:=c0W (pv r k).1 (pv r k).2 x y hx hE2.1 hE2.2;obtain ⟨b,hb⟩:∃ b,a2Z (pv r k).1 (pv r k).2 x=b:=⟨_,rfl⟩
  rw [hb] at c;cases b
  ·refine goI b0f (ff2 e0 wi) hm hm2 c trivial trivial trivial ?_
   exact ⟨(i+1,_),⟨h2,a7Z hr ha hb⟩,by dsimp only;omega,wkI⟩
  ·refine goI b0f e0 hm hm2 c trivial trivial trivial ?_
   exact a0a (by unfold a2i;rw [b5e hr hb ha]) IsPure.out
 ·have e0:=ltF h2
  have:i=G.length:=by omega
  subst this;refine goI b0f (ff2 e0 el) trivial trivial trivial trivial trivial trivial ?_;exact a0a (by unfold a2i;rw [b0R ha]) IsPure.out
abbrev txD (b:Bool)(v:List (List UInt8)):D:=.sl b 1 (v.map fun l=>str (sb l))
def frD (v:List (List UInt8)):D:=.sl false 4 (v.map fun l=>(a3i l).D)
instance  (l:List UInt8):CellsPure (a3i l).D:=by unfold GF.D;exact inferInstance
instance  (v:List (List UInt8)):CellsPure (frD v):=by unfold frD;exact inferInstance
instance  (v:List (List UInt8)):IsPure (frD v):=by unfold frD;exact inferInstance
theorem a3d {v:List (List UInt8)}(h:a1L v=0):∀ l∈v,chk l=0:=by
 induction v with
 | nil=>intro l hl;cases hl
 | cons a r ih =>
  have h':(if chk a≠0 then chk a else a1L r)=0:=h
  by_cases g:chk a=0
  ·rw [if_neg (fun k=>k g)] at h'
   intro l hl;rcases List.mem_cons.1 hl with rfl|h2
   ·exact g
   ·exact ih h' l h2
  ·rw [if_pos g] at h';exact absurd h' g
theorem b8O {v:List (List UInt8)}{i:Nat}{l:List UInt8}(ha:∀ (j:Nat) (y:List UInt8),j<i→v[j]? = some y→chk y=0)(hl:v[i]? = some l)(h:chk l≠0):a1L v=chk l:=by
 rw [a3S ha,List.drop_eq_getElem_cons (List.getElem?_eq_some_iff.1 hl).1,(List.getElem?_eq_some_iff.1 hl).2];exact if_pos h
theorem a9v {v:List (List UInt8)}(ha:∀ (j:Nat) (y:List UInt8),j<v.length→v[j]? = some y→chk y=0):a1L v=0:=by
 rw [a3S (i:=v.length) ha,List.drop_length];rfl
theorem c4f {v:List (List UInt8)}{i:Nat}{l:List UInt8}(h:v[i]? = some l):lv v i=l:=by
 unfold lv;rw [List.getD_eq_getElem?_getD,h];rfl
theorem b5B (b:Bool)(v:List (List UInt8))(hl:v.length≤100000)(hf:∀ l∈v,l.length≤100000)(hc:a1L v=0):a0b C0 108 [txD b v] (frD v):=by
 refine a0c.walk w1 c2O rfl fun F=>?_
 have el:(((v.map fun l=>str (sb l)).length:Nat):Int)=(v.length:Int):=by rw [List.length_map]
 refine goI dr0 (ff2 el kN) trivial trivial trivial trivial trivial trivial ?_;refine OkS.loop (α:=Nat × List D × Nat) (fun p=>⟨[(3,.osl 102 3 4 0 v.length),(9,txD b v),(10,i64 (v.length:Int)),(11,i64 (p.1:Int))],[⟨102,3,113,4,p.2.1⟩],p.2.2⟩) (fun p=>v.length - p.1)
  (fun p=>p.1≤v.length∧p.2.1.length=v.length∧∀ (j:Nat) (l:List UInt8),j<p.1→v[j]? = some l→p.2.1[j]? = some (a3i l).D) (0,List.replicate v.length (.agg [i64 0,a2c,i64 0,a2c]),_) ⟨Nat.zero_le _,List.length_replicate,fun j r hj=>absurd hj (Nat.not_lt_zero j)⟩ wkI ?_
 rintro ⟨i,L,m⟩ F ⟨hi,hL,ha⟩;dsimp only at hi hL ha ⊢;rcases Nat.lt_or_ge i v.length with h2|h2
 ·have e0:=ltT h2
  have wi:=wiI (i:=i) (by omega);obtain ⟨l,hl2⟩:=a2g h2;have hm:(v.map fun l=>str (sb l))[i]? = some (str (sb l)):=by rw [List.getElem?_map,hl2];rfl
  have hmem:=List.mem_of_getElem? hl2;have c:=b3J (hf l hmem) (a3d hc l hmem);obtain ⟨z,hz⟩:∃ z,L[i]? = some z:=a2g (by omega);refine goI dr0 (ff5 e0 wi hz kN Nat.zero_add) hm c trivial trivial trivial trivial ?_;refine ⟨(i+1,L.set i (a3i l).D,_),⟨h2,by rw [List.length_set];exact hL,fun j y hj hy=>?_⟩,by dsimp only;omega,wkI⟩;dsimp only at hj ⊢;rcases Nat.decEq j i with hne|rfl
  ·rw [List.getElem?_set_ne (fun h=>hne h.symm)];exact ha j y (by omega) hy
  ·rw [List.getElem?_set_self (by omega)]
   rw [hl2] at hy;cases hy;rfl
 ·have e0:=ltF h2
  have:i=v.length:=by omega
  subst this;have hLe:L=v.map fun l=>(a3i l).D:=List.ext_getElem? fun j=>by
   rw [List.getElem?_map];rcases Nat.lt_or_ge j v.length with h|h
   ·obtain ⟨y,hy⟩:=a2g h
    rw [hy,ha j y h hy];rfl
   ·rw [List.getElem?_eq_none (by omega),List.getElem?_eq_none h];rfl
  refine goI dr0 e0 trivial trivial trivial trivial trivial trivial ?_;have hz:=a9h 102 3 113 4 L;rw [hL] at hz;exact ⟨_,hz,by rw [hLe];exact (inferInstance:IsPure (frD v)).out,by rw [hLe];rfl⟩
def a1Y (n:Nat)(v:List (List UInt8)):Nat:=if v.length=n then a1L v else 2
def a8Q (n:Nat)(v:List (List UInt8)):D:=if a1Y n v=0 then frD v else a2c
instance  (n:Nat)(v:List (List UInt8)):IsPure (a8Q n v):=by unfold a8Q;split<;>exact inferInstance
theorem d3I {a b:Nat}(h:a≠b):(((a:Nat):Int) != (b:Int))=true:=by
 have:(((a:Nat):Int)==(b:Int))=false:=beq_eq_false_iff_ne.2 (by omega)
 unfold bne;rw [this];rfl
theorem d2u {a b:Nat}(h:a=b):(((a:Nat):Int) != (b:Int))=false:=by subst h;simp
theorem b9S {a:Nat}(h:a≠0):(((a:Nat):Int) != 0)=true:=a3y (by omega)
theorem c2n {a:Nat}(h:a=0):(((a:Nat):Int) != 0)=false:=by subst h;rfl
theorem d3n {a:Nat}(h:a≠0):(((a:Nat):Int)==0)=false:=beq_eq_false_iff_ne.2 (by omega)
theorem d3O {a:Nat}(h:a=0):(((a:Nat):Int)==0)=true:=by subst h;rfl
def Few (v:List (List UInt8)):Prop:=v.length≤100000∧∀ l∈v,l.length≤100000
theorem b0V (n:Nat)(G:List (List LP))(hG:b4p n G)(b:Bool)(v:List (List UInt8))(hf:Few v):a0b C0 130 [b4Z n G,txD b v] (.tup [a8Q n v,i64 (a1Y n v:Nat)]):=by
 refine a0c.walk w1 c2h rfl fun F=>?_
 have el:(((v.map fun l=>str (sb l)).length:Nat):Int)=(v.length:Int):=by rw [List.length_map]
 have hn:=hG.num;rcases Nat.decEq v.length n with h1|h1
 ·have e0:=d3I h1
  have hv:a1Y n v=2:=if_neg h1;have hd:a8Q n v=a2c:=if_neg (by rw [hv];decide);rw [hv,hd];refine goI dr0 (ff2 el e0) trivial trivial trivial trivial trivial trivial ?_;exact a0a rfl IsPure.out
 ·have e0:=d2u h1
  have hv:a1Y n v=a1L v:=if_pos h1;have hvd:a1L v≠0→a8Q n v=a2c:=fun h=>if_neg (by rw [hv];exact h)
  have hvz:a1L v=0→a8Q n v=frD v:=fun h=>if_pos (by rw [hv];exact h)
  rw [hv];refine goI dr0 (ff2 el e0) trivial trivial trivial trivial trivial trivial ?_;refine OkS.loop (α:=Nat × Nat) (fun p=>⟨[(1,txD b v),(14,txD b v),(15,i64 (v.length:Int)),(16,i64 (p.1:Int))],[],p.2⟩) (fun p=>v.length - p.1)
   (fun p=>p.1≤v.length∧∀ (j:Nat) (l:List UInt8),j<p.1→v[j]? = some l→chk l=0) (0,_) ⟨Nat.zero_le _,fun j r hj=>absurd hj (Nat.not_lt_zero j)⟩ wkI ?_
  rintro ⟨i,m⟩ F ⟨hi,ha⟩;dsimp only at hi ha ⊢;have hl:=hf.1;rcases Nat.lt_or_ge i v.length with h2|h2
  ·have e1:=ltT h2
   have wi:=wiI (i:=i) (by omega);obtain ⟨l,hl2⟩:=a2g h2;have hm:(v.map fun l=>str (sb l))[i]? = some (str (sb l)):=by rw [List.getElem?_map,hl2];rfl
   have c:=a7i l (hf.2 l (List.mem_of_getElem? hl2));rcases Nat.decEq (chk l) 0 with h3|h3
   ·have e2:=b9S h3
    have hr:=b8O ha hl2 h3;rw [hr,hvd (by rw [hr];exact h3)];refine goI dr0 (ff3 e1 e2 kN) hm c trivial trivial trivial trivial ?_;exact a0a rfl IsPure.out
   ·have e2:=c2n h3
    refine goI dr0 (ff4 e1 e2 wi kN) hm c trivial trivial trivial trivial ?_;exact ⟨(i+1,_),⟨h2,a7Z hl2 ha h3⟩,by dsimp only;omega,wkI⟩
  ·have e1:=ltF h2
   have:i=v.length:=by omega
   subst this;have hr:=a9v ha;have c:=b5B b v hf.1 hf.2 hr;rw [hr,hvz hr];refine goI dr0 e1 c trivial trivial trivial trivial trivial ?_;exact a0a rfl IsPure.out
def a8H (f:Nat→Nat):Nat→Nat
 | 0=>0
 | k+1=>max (a8H f k) (f k)
def a4h (G:List (List LP))(v:List (List UInt8)):Nat:=a8H (fun k=>a2i G k (a0g (lv v k))) v.length
theorem b5f (G:List (List LP))(k:Nat)(x:Rat):a2i G k x≤G.length:=List.findIdx_le_length
theorem b4a {f:Nat→Nat}{B:Nat}(h:∀ k,f k≤B):∀ k,a8H f k≤B
 | 0=>Nat.zero_le _
 | k+1=>Nat.max_le.2 ⟨b4a h k,h k⟩
theorem c1v (G:List (List LP))(v:List (List UInt8)):a4h G v≤G.length:=b4a (fun k=>b5f G k _) _
theorem c9z (n:Nat)(G:List (List LP))(hG:b4p n G)(v:List (List UInt8))(hl:v.length=n)(hc:a1L v=0):a0b C0 92 [b4Z n G,frD v] (i64 (a4h G v:Nat)):=by
 refine a0c.walk w1 c9R rfl fun F=>?_
 have el:(((v.map fun l=>(a3i l).D).length:Nat):Int)=(v.length:Int):=by rw [List.length_map]
 have hn:=hG.num;have hlen:=hG.len;unfold frD;refine goI dr0 el trivial trivial trivial trivial trivial trivial ?_;refine OkS.loop (α:=Nat × Nat) (fun p=>⟨[(2,.optr 0 0 2 0 0),(5,i64 (a8H (fun k=>a2i G k (a0g (lv v k))) p.1:Nat)),(8,.sl false 4 (v.map fun l=>(a3i l).D)),(9,i64 (v.length:Int)),(10,i64 (p.1:Int))],[⟨0,0,134,2,[b4Z n G]⟩],p.2⟩) (fun p=>v.length - p.1) (fun p=>p.1≤v.length) (0,_) (Nat.zero_le _) wkI ?_;rintro ⟨i,m⟩ F hi;dsimp only at hi ⊢;rcases Nat.lt_or_ge i v.length with h2|h2
 ·have e1:=ltT h2
  have wi:=wiI (i:=i) (by omega);obtain ⟨l,hl2⟩:=a2g h2;have hm:(v.map fun l=>(a3i l).D)[i]? = some (a3i l).D:=by rw [List.getElem?_map,hl2];rfl
  have hx:=b1D (a3d hc l (List.mem_of_getElem? hl2));have c:=c4o n G hG i (by omega) _ _ hx;have hs:a8H (fun k=>a2i G k (a0g (lv v k))) (i+1)=max (a8H (fun k=>a2i G k (a0g (lv v k))) i) (a2i G i (a0g l)):=by
   show max _ (a2i G i (a0g (lv v i)))=_;rw [c4f hl2]
  obtain ⟨A,hA⟩:∃ A,a8H (fun k=>a2i G k (a0g (lv v k))) i=A:=⟨_,rfl⟩
  obtain ⟨B,hB⟩:∃ B,a2i G i (a0g l)=B:=⟨_,rfl⟩
  rw [hA,hB] at hs;rw [hB] at c;rw [hA];have hmx:(max (A:Int) (B:Int))=((max A B:Nat):Int):=by omega
  refine goI dr0 (ff4 e1 wi hmx kN) hm c trivial trivial trivial trivial ?_;exact ⟨(i+1,_),h2,by dsimp only;omega,by (dsimp only;rw [hs];exact wkI)⟩
 ·have e1:=ltF h2
  have:i=v.length:=by omega
  subst this;refine goI dr0 e1 trivial trivial trivial trivial trivial trivial ?_;exact a0a rfl IsPure.out
theorem b0n {H Hf:Hp}{K g T sz:Nat}{l:List D}(h:l=[]∨Hp.get H K=some ⟨K,g,T,sz,l⟩)(hf:Hp.get Hf K=none):Fz H Hf (a8F K g sz l) (.sl false sz l):=by
 cases l with
 | nil=>exact .nil sz
 | cons x l =>
  rcases h with h|h
  ·cases h
  refine .osl (e:=⟨K,g,T,sz,x::l⟩) h hf rfl rfl (by simp) (by simp) (fun j d d' h1 h2=>?_) fun j d d' q c c' h1 h2 h3 h4=>?_
  ·rw [Nat.zero_add] at h1;rw [h1] at h2;cases h2;rfl
  ·rw [Nat.zero_add] at h1;rw [h1] at h2;cases h2;rw [h3] at h4;cases h4;exact Fz.refl _
theorem b9H {H Hf r r':Hp}{K g T sz:Nat}{l:List D}(h:FzH H Hf r r'):FzH H Hf (a6z K g T sz l++r) r':=by
 cases l with
 | nil=>exact h
 | cons x l=>exact .drop h
theorem b2x {K g T sz:Nat}{l:List D}{H:Hp}:l=[]∨Hp.get (a6z K g T sz l++H) K=some ⟨K,g,T,sz,l⟩:=by
 cases l with
 | nil=>exact .inl rfl
 | cons x l=>right;simp [a6z,Hp.get]
theorem c1D {K k g T sz:Nat}{l:List D}(h:Nat.beq K k=false):Hp.get (a6z K g T sz l) k=none:=by
 cases l with
 | nil=>rfl
 | cons x l=>simp [a6z,Hp.get,h]
def a0B (s:a1u):List (List LP):=s.gs.map fun g=>g.least.zip g.most
def c0Q (s:a1u):Prop:=s.fs.length≤8∧s.gs.length≤16∧∀ g∈s.gs,gOk s.fs.length g
theorem b7P {g:a1b}{n k:Nat}(h:gOk n g)(hk:k<n):(g.least.zip g.most)[k]? = some (lv g.least k,lv g.most k):=by
 rw [List.getElem?_zip_eq_some];exact ⟨a3r (by rw [h.1];exact hk),a3r (by rw [h.2.1];exact hk)⟩
theorem b0k {g:a1b}{n:Nat}(h:gOk n g):(g.least.zip g.most).length=n:=by rw [List.length_zip,h.1,h.2.1];exact Nat.min_self n
theorem a8d {s:a1u}(h:c0Q s):b4p s.fs.length (a0B s):=by
 refine ⟨by have:=h.1;omega,by unfold a0B;rw [List.length_map];have:=h.2.1;omega,fun r hr=>?_⟩;obtain ⟨g,hg,rfl⟩:=List.mem_map.1 hr;have hk:=h.2.2 g hg;refine ⟨b0k hk,fun p hp=>?_⟩;obtain ⟨k,hk1,e⟩:=List.getElem_of_mem hp;rw [b0k hk] at hk1
 have:=b7P hk hk1
 rw [List.getElem?_eq_getElem (by rw [b0k hk];exact hk1),e] at this;cases this;exact hk.2.2 k hk1
theorem a1O {s:a1u}(h:a0n s=0):c0Q s:=by
 unfold a0n at h
 by_cases h1:b0N s.fs.length=0
 ·rw [if_neg (fun k=>k h1)] at h
  by_cases h2:a7n (a1Q s.fs) s.fs.length=0
  ·rw [if_neg (fun k=>k h2)] at h
   by_cases h3:b2g s.gs.length=0
   ·rw [if_neg (fun k=>k h3)] at h
    refine ⟨?_,?_,fun g hg=>?_⟩
    ·unfold b0N at h1
     by_cases q:s.fs.length=0
     ·omega
     ·rw [if_neg q] at h1
      by_cases q2:s.fs.length>8
      ·rw [if_pos q2] at h1;cases h1
      ·omega
    ·unfold b2g at h3
     by_cases q:s.gs.length=0
     ·omega
     ·rw [if_neg q] at h3
      by_cases q2:s.gs.length>16
      ·rw [if_pos q2] at h3;cases h3
      ·omega
    ·obtain ⟨i,hi,e⟩:=List.getElem_of_mem hg
     have:=a5k (a7g h i hi)
     rw [List.getD_eq_getElem?_getD,List.getElem?_eq_getElem hi,e] at this;exact this
   ·rw [if_pos h3] at h;exact absurd h h3
  ·rw [if_pos h2] at h;exact absurd h h2
 ·rw [if_pos h1] at h;exact absurd h h1
def a5r (s:a1u):D:=if a0n s=0 then b4Z s.fs.length (a0B s) else .agg [i64 0,a2c]
instance  (s:a1u):IsPure (a5r s):=by unfold a5r;split<;>exact inferInstance
set_option maxHeartbeats 8000000
def a5b (q r:Nat):List UInt8:=if q=0 then Lib.decDigits r else List.replicate (18 - (Lib.decDigits r).length) 48++Lib.decDigits r
theorem b4N:Lib.decDigits 0=[48]:=by unfold Lib.decDigits;rfl
theorem b1l (n:Nat):Lib.decDigits n≠[]:=(a1N n).2.2
theorem c1q (q r:Nat):a5b q r≠[]:=by
 unfold a5b;split
 ·exact b1l r
 ·intro h;exact b1l r (List.append_eq_nil_iff.1 h).2
theorem b8p {q r:Nat}(hq:q≠0):a5b q r=a2h 18 r []:=by
 unfold a5b a2h c5D;rw [if_neg hq]
 by_cases h:r=0
 ·subst h;rw [b4N,if_pos rfl];rfl
 ·rw [if_neg h,List.append_nil]
theorem c1t (B q r:Nat)(hB:B=10^18)(hr:r<B):Lib.decDigits (q*B+r)=if q=0 then a5b q r else Lib.decDigits q++a5b q r:=by
 by_cases hq:q=0
 ·subst hq;rw [if_pos rfl];unfold a5b;rw [if_pos rfl,Nat.zero_mul,Nat.zero_add]
 ·rw [if_neg hq,b8p hq,hB]
  exact b2E 18 q r hq (by rw [← hB];exact hr)
def a2T (P:List (List UInt8)):List UInt8:=P.reverse.flatten
theorem a8V (P:List (List UInt8))(p:List UInt8):a2T (P++[p])=p++a2T P:=by unfold a2T;simp
theorem b8a (a b:List UInt8):sb a++sb b=sb (a++b):=by
 apply ByteArray.ext;simp [ByteArray.data_append]
theorem b7r {P:List (List UInt8)}(h:∀ p∈P,p≠[]):P.length≤(a2T P).length:=by
 unfold a2T;rw [List.length_flatten,← List.length_reverse];generalize hQ:P.reverse=Q;have h':∀ p∈Q,p≠[]:=fun p hp=>h p (by rw [← hQ] at hp;exact List.mem_reverse.1 hp)
 clear hQ h
 induction Q with
 | nil=>exact Nat.le_refl _
 | cons a r ih =>
  have h1:=ih fun p hp=>h' p (List.mem_cons_of_mem _ hp)
  have h2:a.length≠0:=fun q=>h' a List.mem_cons_self (List.eq_nil_of_length_eq_zero q)
  rw [List.map_cons,List.sum_cons,List.length_cons];omega
structure a9L (n m:Nat)(P:List (List UInt8)):Prop where
 ne:m≠0→Lib.decDigits n=Lib.decDigits m++a2T P
 eq:m=0→Lib.decDigits n=a2T P
 all:∀ p∈P,p≠[]
 le:m≤n
theorem a9L.len {n m:Nat}{P:List (List UInt8)}(h:a9L n m P):P.length≤(Lib.decDigits n).length:=by
 have h1:=b7r h.all
 by_cases q:m=0
 ·rw [h.eq q];exact h1
 ·rw [h.ne q,List.length_append];omega
theorem a9L.step {n m:Nat}{P:List (List UInt8)}{B:Nat}(h:a9L n m P)(hm:m≠0)(hB:B=10^18):a9L n (m / B) (P++[a5b (m / B) (m%B)]):=by
 have hB0:0<B:=by rw [hB];decide
 have hd:=c1t B (m / B) (m%B) hB (Nat.mod_lt _ hB0);rw [show m / B*B+m%B=m by rw [Nat.mul_comm];exact Nat.div_add_mod m B] at hd;have hn:=h.ne hm;rw [hd] at hn;refine ⟨fun q=>?_,fun q=>?_,fun p hp=>?_,Nat.le_trans (Nat.div_le_self _ _) h.le⟩
 ·rw [if_neg q] at hn;rw [hn,a8V,List.append_assoc]
 ·rw [if_pos q] at hn;rw [hn,a8V]
 ·rcases List.mem_append.1 hp with hp|hp
  ·exact h.all p hp
  ·rw [List.mem_singleton] at hp;subst hp;exact c1q _ _
abbrev a2n (P:List (List UInt8)):List D:=P.map fun p=>str (sb p)
theorem b0D (x : GI) (h : x.wf) (hf : x.few) : a0b C0 177 [x.D] (str (sb (Lib.itoa x.z))) := by
  refine a0c.walk w1 c2S rfl fun F => ?_
  obtain ⟨z, sm⟩ := x
  obtain ⟨h1, h2⟩ := h
  have hp := a2M ⟨z, sm⟩ ⟨h1, h2⟩
  dsimp only [GI.D, GI.few] at *
  cases sm with
  | true =>
    obtain ⟨h3, h4⟩ := h1 rfl
    have c : a0b C0 221 [i64 z] (str (sb (Lib.itoa z))) := b2U z h3 (by omega)
    unfold GI.s GI.w
    dsimp only
    refine goI dr0 kB c trivial trivial trivial trivial trivial ?_
    exact a0a rfl IsPure.out
  | false =>
    have hz := h2 rfl
    have hz0 : z.natAbs ≠ 0 := fun q => hz (by have : z = 0 := by omega
                                               subst this; exact a0F rfl)
    have hw : GI.w ⟨z, false⟩ = wD z.natAbs := rfl
    have hs : GI.s ⟨z, false⟩ = if z < 0 then -1 else 1 := rfl
    rw [hw] at hp ⊢
    obtain ⟨sg, hsg⟩ : ∃ s, GI.s ⟨z, false⟩ = s := ⟨_, rfl⟩
    rw [hsg] at hp ⊢
    obtain ⟨B, hB⟩ : ∃ B : Nat, B = 10 ^ 18 := ⟨_, rfl⟩
    have hB1 : B < BB := by rw [hB]; decide
    have hB0 : B ≠ 0 := by rw [hB]; decide
    have hB2 : 1 < B := by rw [hB]; decide
    have hBs : u64 1000000000000000000 = a0i B := by rw [hB]; rfl
    have hBl : a0e B = [B] := a3C hB0 hB1
    obtain ⟨n, hn⟩ : ∃ n, z.natAbs = n := ⟨_, rfl⟩
    obtain ⟨neg, hneg⟩ : ∃ b, decide (z < 0) = b := ⟨_, rfl⟩
    rw [hn] at hp hf hz0 ⊢
    rw [hneg] at hp
    have hit : Lib.itoa z = (if neg then [45] else []) ++ Lib.decDigits n := by
      unfold Lib.itoa
      by_cases q : z < 0
      · rw [if_pos q, ← hneg, decide_eq_true q, hn]; rfl
      · rw [if_neg q, ← hneg, decide_eq_false q, ← hn]
        have : z.toNat = z.natAbs := by omega
        rw [this]; rfl
    rw [hit]
    have hDL : (Lib.decDigits n).length ≤ 27 * 1000000 + 1 := a9k (k := 1000000) (by omega)
    have hmpos : ∀ m : Nat, m ≠ 0 → decide ((((a0e m).map a0i).length : Int) > 0) = true := fun m hm => decide_eq_true (by
      rw [a1e hm, List.map_cons, List.length_cons]; omega)
    have hm0 : decide ((((a0e 0).map a0i).length : Int) > 0) = false := decide_eq_false (by rw [a0K]; decide)
    obtain ⟨w0, ws, hws⟩ : ∃ a l, (a0e n).map a0i = a :: l := by
      cases hl : (a0e n).map a0i with
      | nil => exact absurd hl (a1T hz0)
      | cons a l => exact ⟨a, l, rfl⟩
    have hwD : wD n = .sl false 1 (w0 :: ws) := by unfold wD wL; rw [hws]
    have hbD : wD B = .sl false 1 [u64 1000000000000000000] := by unfold wD wL; rw [hBl, hBs]; rfl
    have pw : IsPure (.sl false 1 (w0 :: ws)) := by rw [← hwD]; exact inferInstance
    rw [hwD] at hp ⊢
    clear hit h1 h2 hz hs hsg
    have hne : (w0 :: ws ≠ []) = True := eq_true (List.cons_ne_nil _ _)
    refine goI dr0 hne hp trivial trivial trivial trivial trivial ?_
    rw [← hwD]
    refine OkS.loop (α := Nat × List (List UInt8) × Nat × Nat) (fun p => ⟨[(3, boo neg), (4, wD p.1), (5, wD B), (6, a8F 1303 p.2.2.1 1 (a2n p.2.1))], a6z 1303 p.2.2.1 9 1 (a2n p.2.1), p.2.2.2⟩) (fun p => p.1)
      (fun p => a9L n p.1 p.2.1) (n, [], 0, _) ⟨fun _ => by unfold a2T; simp, fun q => absurd q hz0, fun p hp => absurd hp List.not_mem_nil, Nat.le_refl _⟩ (by refine ⟨.drop .nil, ⟨.refl _, .refl _, ?_, .refl _, trivial⟩, Nat.le_refl _⟩; dsimp only; rw [hbD]; exact .nn true 1 _) ?_
    rintro ⟨m, P, g, cnt⟩ F I
    dsimp only at I ⊢
    have hPl := I.len
    rcases Nat.decEq m 0 with hm | hm
    rotate_left
    · subst hm
      have hdn := I.eq rfl
      have hall := I.all
      have hLn : P.length ≤ 27000001 := by omega
      have hP0 : P ≠ [] := fun q => b1l n (by rw [hdn, q]; rfl)
      obtain ⟨N, hN⟩ : ∃ N, P.length = N := ⟨_, rfl⟩
      have hN0 : N ≠ 0 := fun q => hP0 (List.eq_nil_of_length_eq_zero (by omega))
      rw [hdn]
      clear hwD hbD pw hp hn hPl I
      have elP : (((a2n P).length : Nat) : Int) = (N : Int) := by rw [List.length_map, hN]
      have wN : IntKind.i64.wrap ((N : Int) - 1) = ((N : Int) - 1) := wI (by omega) (by omega)
      refine OkS.seq ?_
      refine sZ 600 ?_
      refine nwI hm0 ?_
      refine ifI ?_
      refine exI ?_
      refine OkS.weak ⟨[(3, boo neg), (6, .sl false 1 (a2n P))], [], _⟩ ⟨?_, ⟨.refl _, ?_, trivial⟩, Nat.le_refl _⟩ ?_
      · have := b9H (K := 1303) (g := g) (T := 9) (sz := 1) (l := a2n P) (r := []) (r' := []) (H := a6z 1303 g 9 1 (a2n P)) (Hf := []) .nil
        rwa [List.append_nil] at this
      · exact b8P _ _ _ _ _
      obtain ⟨c0, hc0⟩ : ∃ c, c = cnt + 1 + 1 + 1 := ⟨_, rfl⟩
      rw [← hc0]
      refine sR 1500 ?_
      obtain ⟨c1, hc1⟩ : ∃ c, c = c0 + 1 := ⟨_, rfl⟩
      refine OkS.seqX (α := D × Nat × Nat) (fun q => ⟨[(6, .sl false 1 (a2n P)), (10, .optr 1500 c0 2 0 0)], bH q.2.1 c0 q.1 (if neg then [45] else []) [], q.2.2⟩) (fun q => q.1 = .prim (.pointer none) ∨ q.1 = .optr 1500 c0 2 0 0) ?_ ?_
      · cases neg
        · refine goI dr0 kB trivial trivial trivial trivial trivial trivial ?_
          exact ⟨by trivial, (.prim (.pointer none), 0, _), .inl rfl, wkI⟩
        · refine goI dr0 kB trivial trivial trivial trivial trivial trivial ?_
          refine a0k.own _ (d3M c0 0 _ (.prim (.pointer none)) (.inl rfl) [] [45] (by decide) [] (by decide)) ?_
          rintro d H' n' ⟨⟨g', rfl⟩, hn'⟩
          refine stI ?_
          exact ⟨by trivial, (.optr 1500 c0 2 0 0, g', _), .inr rfl, wkI⟩
      rintro ⟨p0, gb0, c2⟩ hp0
      dsimp only at hp0 ⊢
      obtain ⟨pre, hpre⟩ : ∃ l, (if neg then [45] else [] : List UInt8) = l := ⟨_, rfl⟩
      have hpl : pre.length ≤ 1 := by rw [← hpre]; split <;> decide
      rw [hpre]
      refine goI dr0 (ff2 elP @wN) trivial trivial trivial trivial trivial trivial ?_
      refine OkS.loop (α := Nat × D × Nat × Nat) (fun q => ⟨[(6, .sl false 1 (a2n P)), (10, .optr 1500 c0 2 0 0), (11, i64 ((q.1 : Int) - 1))], bH q.2.2.1 c0 q.2.1 (pre ++ a2T (P.drop q.1)) [], q.2.2.2⟩) (fun q => q.1)
        (fun q => q.1 ≤ N ∧ (q.2.1 = .prim (.pointer none) ∨ q.2.1 = .optr 1500 c0 2 0 0)) (N, p0, gb0, _) ⟨Nat.le_refl _, hp0⟩ (by dsimp only; rw [← hN, List.drop_length]; unfold a2T; rw [List.reverse_nil, List.flatten_nil, List.append_nil]; exact wkI) ?_
      rintro ⟨k, p, gb, c3⟩ F ⟨hk, hp⟩
      dsimp only at hk hp ⊢
      have hjl : ∀ k, (a2T (P.drop k)).length ≤ (a2T P).length := fun k => by
        unfold a2T
        conv => rhs; rw [← List.take_append_drop k P]
        rw [List.reverse_append, List.flatten_append, List.length_append]; omega
      have hjP : (a2T P).length ≤ 27000001 := by rw [← hdn]; omega
      rcases Nat.eq_zero_or_pos k with hk0 | hk0
      · subst hk0
        have e1 : decide ((((0 : Nat) : Int) - 1) ≥ 0) = false := by decide
        rw [List.drop_zero]
        have hL : pre ++ a2T P ≠ [] := fun q => by
          have := (List.append_eq_nil_iff.1 q).2
          rw [← hdn] at this; exact b1l n this
        obtain ⟨L, hLL⟩ : ∃ L, pre ++ a2T P = L := ⟨_, rfl⟩
        rw [hLL] at hL ⊢
        obtain ⟨y, r, hy⟩ := b4o hL
        have hlr : L.length = r.length + 1 := by rw [← a4m, hy]; rfl
        refine goI dr0 e1 trivial trivial trivial trivial trivial trivial ?_
        refine a0k.own _ (by
          have := fun n => d1H c0 gb n L hL p []
          unfold bH
          simp only [hy, hlr] at this ⊢
          exact this _) ?_
        rintro d H' n' ⟨rfl, rfl, rfl⟩
        refine goI dr0 kB trivial trivial trivial trivial trivial trivial ?_
        exact a0a rfl IsPure.out
      · obtain ⟨k', rfl⟩ : ∃ k', k = k' + 1 := ⟨k - 1, by omega⟩
        have e1 : decide ((((k' + 1 : Nat) : Int) - 1) ≥ 0) = true := decide_eq_true (by omega)
        have e2 : (((k' + 1 : Nat) : Int) - 1) = (k' : Int) := by omega
        have wk : IntKind.i64.wrap ((k' : Int) - 1) = ((k' : Int) - 1) := wI (by omega) (by omega)
        have e3 : decide ((k' : Int) ≥ 0) = true := decide_eq_true (by omega)
        obtain ⟨t, ht⟩ : ∃ t, P[k']? = some t := a2g (by omega)
        have hm : (a2n P)[k']? = some (str (sb t)) := by rw [List.getElem?_map, ht]; rfl
        have htn := hall t (List.mem_of_getElem? ht)
        have hdr : P.drop k' = t :: P.drop (k' + 1) := by
          rw [List.drop_eq_getElem_cons (List.getElem?_eq_some_iff.1 ht).1, (List.getElem?_eq_some_iff.1 ht).2]
        have hj : pre ++ a2T (P.drop k') = pre ++ a2T (P.drop (k' + 1)) ++ t := by
          rw [hdr, List.append_assoc]
          congr 1
          unfold a2T
          rw [List.reverse_cons, List.flatten_append]; simp
        have hlt : (pre ++ a2T (P.drop (k' + 1))).length + t.length ≤ 100000000 := by
          have h1 := hjl k'
          have h2 : (pre ++ a2T (P.drop k')).length = (pre ++ a2T (P.drop (k' + 1))).length + t.length := by rw [hj, List.length_append]
          rw [← h2, List.length_append]; omega
        rw [e2]
        refine goI dr0 (ff2 e3 kN) hm trivial trivial trivial trivial trivial ?_
        refine a0k.own _ (d3M c0 gb _ p hp (pre ++ a2T (P.drop (k' + 1))) t htn [] hlt) ?_
        rintro d H' n' ⟨⟨g', rfl⟩, hn'⟩
        refine stI ?_
        refine goI dr0 wk trivial trivial trivial trivial trivial trivial ?_
        exact ⟨(k', .optr 1500 c0 2 0 0, g', _), ⟨by dsimp only; omega, .inr rfl⟩, by dsimp only; omega, by (dsimp only; rw [hj]; exact wkI)⟩
    have e1 := hmpos m hm
    have c1 := d3G m B hB0 (Nat.lt_of_le_of_lt (a0D m n I.le) hf) (by rw [hBl]; show 1 < 1000000; decide)
    have I2 := I.step hm hB
    obtain ⟨q, hq⟩ : ∃ q, m / B = q := ⟨_, rfl⟩
    obtain ⟨r, hr⟩ : ∃ q, m % B = q := ⟨_, rfl⟩
    have hqm : q < m := by rw [← hq]; exact Nat.div_lt_self (Nat.pos_of_ne_zero hm) hB2
    have hrB : r < B := by rw [← hr]; exact Nat.mod_lt _ (Nat.pos_of_ne_zero hB0)
    rw [hq, hr] at c1 I2
    have hsz := a0t (Lib.decDigits r)
    have hdl : (Lib.decDigits r).length ≤ 18 := a1v 17 r (by rw [hB] at hrB; exact hrB)
    have hdl1 : (Lib.decDigits r).length ≠ 0 := fun h => b1l r (List.eq_nil_of_length_eq_zero h)
    refine goI dr0 e1 trivial trivial trivial trivial trivial trivial ?_
    refine cI c1 ?_
    refine sR 800 ?_
    refine OkS.seqX (α := Nat) (fun cnt => ⟨[(3, boo neg), (5, wD B), (6, a8F 1303 g 1 (a2n P)), (7, wD q), (9, str (sb (Lib.decDigits r)))], a6z 1303 g 9 1 (a2n P), cnt⟩) (fun _ => True) ?_ ?_
    · rcases Nat.decEq r 0 with h0 | h0
      · have e2 := hmpos r h0
        have hl1 : a0e r = [r] := a3C h0 (Nat.lt_trans hrB hB1)
        have hmm : ((a0e r).map a0i)[0]? = some (u64 (r : Int)) := by rw [hl1]; rfl
        have c2 := c6S r (Nat.lt_trans hrB hB1)
        refine goI dr0 e2 hmm c2 trivial trivial trivial trivial ?_
        exact ⟨by trivial, _, trivial, wkI⟩
      · subst h0
        rw [b4N]
        refine goI dr0 hm0 trivial trivial trivial trivial trivial trivial ?_
        exact ⟨by trivial, _, trivial, wkI⟩
    rintro cnt2 -
    refine OkS.seqX (α := Nat) (fun cnt => ⟨[(3, boo neg), (5, wD B), (6, a8F 1303 g 1 (a2n P)), (7, wD q), (9, str (sb (a5b q r)))], a6z 1303 g 9 1 (a2n P), cnt⟩) (fun _ => True) ?_ ?_
    · rcases Nat.decEq q 0 with h0 | h0
      · have e2 := hmpos q h0
        have c2 : a0b C0 224 [str ⟨#[48]⟩, i64 ((18 - (Lib.decDigits r).length : Nat) : Int)] (str (sb (List.replicate (18 - (Lib.decDigits r).length) 48))) := c5u (18 - (Lib.decDigits r).length) (by omega)
        have w18 : IntKind.i64.wrap (18 - ((Lib.decDigits r).length : Int)) = ((18 - (Lib.decDigits r).length : Nat) : Int) := by rw [wI (by omega) (by omega)]; omega
        have hap := b8a (List.replicate (18 - (Lib.decDigits r).length) 48) (Lib.decDigits r)
        have hsz2 := a0t (List.replicate (18 - (Lib.decDigits r).length) 48)
        have hpt : List.replicate (18 - (Lib.decDigits r).length) 48 ++ Lib.decDigits r = a5b q r := by unfold a5b; rw [if_neg h0]
        rw [hpt] at hap
        have hsize : (sb (List.replicate (18 - (Lib.decDigits r).length) 48)).size + (sb (Lib.decDigits r)).size ≤ 9223372036854775807 := by
          rw [hsz, hsz2, List.length_replicate]; omega
        refine goI dr0 (ff4 e2 hsz w18 hap) c2 trivial trivial trivial trivial trivial ?_
        exact ⟨by trivial, _, trivial, wkI⟩
      · subst h0
        have hpt : a5b 0 r = Lib.decDigits r := if_pos rfl
        rw [hpt]
        refine goI dr0 hm0 trivial trivial trivial trivial trivial trivial ?_
        exact ⟨by trivial, _, trivial, wkI⟩
    rintro cnt3 -
    have hsn : a2n (P ++ [a5b q r]) = a2n P ++ [str (sb (a5b q r))] := by unfold a2n; rw [List.map_append]; rfl
    have hPL : (a2n P).length = P.length := List.length_map ..
    rcases hPD : a2n P with _ | ⟨y, l⟩
    all_goals
      rw [hPD] at hsn hPL
      dsimp only [a3q, a3m, a2C, a2D, List.nil_append]
    · refine goI dr0 kB trivial trivial trivial trivial trivial trivial ?_
      exact ⟨(q, P ++ [a5b q r], _, _), I2, hqm, by (dsimp only; rw [hsn]; exact wkI)⟩
    · have htk : List.take (l.length + 1) (y :: l) = y :: l := by simp
      have hll : l.length + 1 ≤ 27000001 := by rw [List.length_cons] at hPL; omega
      refine goI dr0 htk trivial trivial trivial trivial trivial trivial ?_
      exact ⟨(q, P ++ [a5b q r], _, _), I2, hqm, by (dsimp only; rw [hsn, a2U]; exact wkI)⟩
abbrev b4q:Dr:=[(3,[0,1,2,3,4,5,6],[7,8])]
open Go.Proofs Go.RowKit
set_option maxRecDepth 20000
set_option maxHeartbeats 4000000
theorem c0t (x:Nat)(hx:x<BB):a0b C0 261 [a0i x] (i64 (Lib.bitLen x:Int)):=by
 refine ⟨⟨_,_,Tryz.func261,rfl,by kernel_rfl⟩,fun Y w vs hG hnG hX hvs hr=>?_⟩
 have:=a7k hvs hr
 subst this;refine (Tryz.bits_Len64 x w (by omega) (by unfold BB at hx;omega)).mono ?_;rintro e w' ⟨rfl,rfl⟩;exact ⟨_,_,rfl,.refl _ _,rfl,.prim _⟩
def b0t (n:Nat):Nat:=(a0e n).getD ((a0e n).length - 1) 0
def a7K (n:Nat):Nat:=if n=0 then 0 else 64*((a0e n).length - 1)+Lib.bitLen (b0t n)
theorem c5n (n:Nat):n<2^a7K n:=by
 unfold a7K
 by_cases h:n=0
 ·subst h;rw [if_pos rfl];decide
 ·rw [if_neg h]
  have hl:(a0e n).length≠0:=fun q=>by
   have:=a1e h
   rw [this] at q;simp at q
  obtain ⟨k,hk⟩:∃ k,(a0e n).length=k+1:=⟨(a0e n).length - 1,by omega⟩
  have hat:(a0e n)[k]? = some (b0t n):=by
   unfold b0t;rw [hk,Nat.add_sub_cancel,List.getD_eq_getElem?_getD,List.getElem?_eq_getElem (by omega)];rfl
  have hv:=a4u hat;rw [List.drop_of_length_le (by omega),a0I] at hv;have ht:b0t n<BB:=a1h n _ (List.mem_of_getElem? hat);have h1:a0j ((a0e n).take k)<BB^k:=by
   have:=a2H (l:=(a0e n).take k) fun a ha=>a1h n a (List.mem_of_mem_take ha)
   rwa [List.length_take,Nat.min_eq_left (by omega)] at this
  have h2:b0t n<2^Lib.bitLen (b0t n):=by
   by_cases t0:b0t n=0
   ·rw [t0];exact Nat.two_pow_pos _
   ·exact (Lib.bitLenAux_bounds 64 (b0t n) ht t0).2.2
  have h3:BB^k=2^(64*k):=by rw [Nat.pow_mul]
  rw [hk,Nat.add_sub_cancel,Nat.pow_add,← h3];have h4:n=a0j ((a0e n).take k)+BB^k*b0t n:=by simpa [a0j] using hv
  have h5:BB^k*(b0t n+1)≤BB^k*2^Lib.bitLen (b0t n):=Nat.mul_le_mul_left _ h2;rw [Nat.mul_add,Nat.mul_one] at h5;omega
def b0B (n:Nat):Bool:=decide (600<(Lib.decDigits n).length)
theorem b8k (n:Nat):b0B n=(decide (a7K n>1800)&&b0B n):=by
 by_cases h:a7K n>1800
 ·rw [decide_eq_true h,Bool.true_and]
 ·rw [decide_eq_false h,Bool.false_and]
  have key:∀ k,a7K n≤3*(k+1)→(Lib.decDigits n).length≤k+1:=fun k hk=>a1v k n (Nat.lt_of_lt_of_le (c5n n) (Nat.le_trans (Nat.pow_le_pow_right (by decide) hk) (by rw [Nat.pow_mul];exact Nat.pow_le_pow_left (by decide) (k+1))))
  have h4:=key 599 (by omega);exact decide_eq_false (by omega)
theorem c9v (x:GI)(h:x.wf)(hf:x.few):a0b C0 230 [x.D] (i64 (a7K x.z.natAbs:Nat)):=by
 refine a0c.walk w1 c2c rfl fun F=>?_
 have c1:=a2M x h;obtain ⟨n,hn⟩:∃ n,x.z.natAbs=n:=⟨_,rfl⟩
 unfold GI.few at hf;rw [hn] at c1 hf ⊢;have el:((((a0e n).map a0i).length:Nat):Int)=((a0e n).length:Int):=by rw [List.length_map]
 unfold wD wL at c1;dsimp only [GI.D] at c1 ⊢
 by_cases h0:n=0
 ·have e1:(((a0e n).length:Int)==0)=true:=by rw [h0,a0K];rfl
  have hb:a7K n=0:=if_pos h0;rw [hb];refine goI dr0 (ff2 e1 el) c1 trivial trivial trivial trivial trivial ?_;exact a0a rfl IsPure.out
 ·have hl:(a0e n).length≠0:=fun q=>by
   have:=a1e h0
   rw [this] at q;simp at q
  have e1:(((a0e n).length:Int)==0)=false:=d3n hl;have wl:IntKind.i64.wrap (((a0e n).length:Int) - 1)=(((a0e n).length - 1:Nat):Int):=by rw [wI (by omega) (by omega)];omega
  have wm:IntKind.i64.wrap (64*(((a0e n).length - 1:Nat):Int))=((64*((a0e n).length - 1):Nat):Int):=by rw [wI (by omega) (by omega)];omega
  have hat:(a0e n)[(a0e n).length - 1]? = some (b0t n):=by
   unfold b0t;rw [List.getD_eq_getElem?_getD,List.getElem?_eq_getElem (by omega)];rfl
  have hm:((a0e n).map a0i)[(a0e n).length - 1]? = some (u64 (b0t n:Int)):=by rw [List.getElem?_map,hat];rfl
  have ht:b0t n<BB:=a1h n _ (List.mem_of_getElem? hat);have c2:=c0t (b0t n) ht;have hbl:=Lib.bitLen_le (b0t n) 64 (Nat.le_refl _) ht;have wa:IntKind.i64.wrap (((64*((a0e n).length - 1):Nat):Int)+(Lib.bitLen (b0t n):Int))=((a7K n:Nat):Int):=by
   have hb:a7K n=64*((a0e n).length - 1)+Lib.bitLen (b0t n):=if_neg h0;rw [hb,wI (by omega) (by omega)];omega
  refine goI dr0 (ff6 e1 el wl wm wa kN) c1 hm c2 trivial trivial trivial ?_;exact a0a rfl IsPure.out
theorem c2N (x:GI)(h:x.wf)(hf:x.few):a0b C0 191 [x.D] (boo (b0B x.z.natAbs)):=by
 refine a0c.walk w1 c3u rfl fun F=>?_
 have c1:=c9v x h hf;have c2:=b0D x h hf;have hlen:(Lib.decDigits x.z.natAbs).length≤27*1000000+1:=a9k (k:=1000000) (by unfold GI.few at hf;omega);have hil:(Lib.itoa x.z).length≤27000002:=by
  unfold Lib.itoa;split
  ·rw [List.length_cons];omega
  ·rw [show x.z.toNat=x.z.natAbs by omega];omega
 have c3:=a3V (Lib.itoa x.z) (by omega);rw [(a5P x.z).2] at c3;have hsz:=a0t (Lib.decDigits x.z.natAbs);have hlb:=b8k x.z.natAbs;obtain ⟨b,hb⟩:∃ b,b0B x.z.natAbs=b:=⟨_,rfl⟩
 have e2:decide (((Lib.decDigits x.z.natAbs).length:Int)>600)=b:=by rw [← hb];exact decide_eq_decide.2 (by omega)
 obtain ⟨p,hp⟩:∃ b,decide (a7K x.z.natAbs>1800)=b:=⟨_,rfl⟩
 have e1:decide (((a7K x.z.natAbs:Nat):Int)>1800)=p:=by rw [← hp];exact decide_eq_decide.2 (by omega)
 rw [hb,hp] at hlb;rw [hb,hlb];dsimp only [GI.D] at c1 c2 ⊢;cases p
 ·refine goI dr0 e1 c1 trivial trivial trivial trivial trivial ?_
  exact a0a rfl IsPure.out
 ·refine goI dr0 (ff3 e1 e2 hsz) c1 c2 c3 trivial trivial trivial ?_
  exact a0a rfl IsPure.out
theorem c1H {r:Rat}{x:GF}{k:Nat}(h:FR r x k)(hk:k<100000):x.n.wf∧x.n.few∧(mkG (x.d:Int)).wf∧(mkG (x.d:Int)).few∧x.n.z=r.num∧x.d=r.den∧0<x.d :=
 ⟨h.is.1,h.fn (by omega),a0Q _,by
  show (a0e ((x.d:Int)).natAbs).length<1000000;rw [Int.natAbs_natCast];have:=h.ld;omega,h.is.2.1,h.is.2.2,h.dpos⟩
theorem c5g {r:Rat}{x:GF}{k:Nat}(h:FR r x k)(hk:k<100000):a0b C0 125 [x.D] (boo (c0e r)):=by
 refine a0c.walk w1 c2X rfl fun F=>?_
 obtain ⟨h1,h2,h3,h4,h5,h6,_⟩:=c1H h hk;have c1:=c2N x.n h1 h2;have c2:=c2N (mkG (x.d:Int)) h3 h4;have hb:c0e r=(b0B x.n.z.natAbs||b0B (mkG (x.d:Int)).z.natAbs):=by
  unfold c0e b0B;rw [h5,← h6];rfl
 rw [hb];obtain ⟨p,hp⟩:∃ b,b0B x.n.z.natAbs=b:=⟨_,rfl⟩
 obtain ⟨q,hq⟩:∃ b,b0B (mkG (x.d:Int)).z.natAbs=b:=⟨_,rfl⟩
 rw [hp] at c1;rw [hq] at c2;rw [hp,hq];dsimp only [GI.D,GF.D] at c1 c2 ⊢;generalize mkG (x.d:Int)=y at c2 ⊢;cases p<;>cases q
 all_goals
  refine goI dr0 kB c1 c2 trivial trivial trivial trivial ?_;exact a0a rfl IsPure.out
theorem c6V {r:Rat}{x:GF}{k:Nat}(h:FR r x k)(hk:k<100000):a0b C0 111 [x.D] (str (sb (txt r))):=by
 refine a0c.walk w1 c2F rfl fun F=>?_
 obtain ⟨h1,h2,h3,h4,h5,h6,h7⟩:=c1H h hk;have c0:=a7U x h7;have c1:=b0D x.n h1 h2;have c2:=b0D (mkG (x.d:Int)) h3 h4;have hd:Lib.itoa (mkG (x.d:Int)).z=Lib.decDigits r.den:=by
  show Lib.itoa (x.d:Int)=_;unfold Lib.itoa;rw [if_neg (by omega),h6];rfl
 rw [hd] at c2;rw [h5] at c1;have l1:(Lib.itoa r.num).length≤27000002:=by
  have:(Lib.decDigits x.n.z.natAbs).length≤27*1000000+1:=a9k (k:=1000000) (by unfold GI.few at h2;omega)
  rw [h5] at this;unfold Lib.itoa;split
  ·rw [List.length_cons];omega
  ·rw [show r.num.toNat=r.num.natAbs by omega];omega
 have l2:(Lib.decDigits r.den).length≤27000001:=by
  have:(Lib.decDigits (mkG (x.d:Int)).z.natAbs).length≤27*1000000+1:=a9k (k:=1000000) (by unfold GI.few at h4;omega)
  rw [← h6];exact this
 have s1:=a0t (Lib.itoa r.num);have s2:=a0t (Lib.decDigits r.den);have s3:(sb [47]).size=1:=rfl;have s4:=a0t (Lib.itoa r.num++[47]);have z1:(sb (Lib.itoa r.num)).size+(sb [47]).size≤9223372036854775807:=by rw [s1,s3];omega
 have z2:(sb (Lib.itoa r.num++[47])).size+(sb (Lib.decDigits r.den)).size≤9223372036854775807:=by rw [s4,s2,List.length_append,List.length_singleton];omega
 have a1:sb (Lib.itoa r.num)++(⟨#[47]⟩:ByteArray)=sb (Lib.itoa r.num++[47]):=b8a _ [47];have a2:=b8a (Lib.itoa r.num++[47]) (Lib.decDigits r.den);rw [List.append_assoc] at a2;dsimp only [GI.D,GF.D] at c0 c1 c2 ⊢;generalize mkG (x.d:Int)=y at c0 c2 ⊢;unfold txt
 by_cases g:x.d=1
 ·rw [decide_eq_true g] at c0
  rw [if_pos (h6 ▸ g)];refine goI b4q kB c0 c1 trivial trivial trivial trivial ?_;exact a0a rfl IsPure.out
 ·rw [decide_eq_false g] at c0
  rw [if_neg (fun q=>g (h6.trans q))];refine goI b4q (ff2 a1 a2) c0 c1 c2 trivial trivial trivial ?_;exact a0a rfl IsPure.out
abbrev a4F:Dr:=[(12,[0,1,2,3,4,5,6,7,8,9,10,11,12,13,14],[15,16])]
open Go.Proofs Go.RowKit
set_option maxRecDepth 20000
set_option maxHeartbeats 4000000
theorem b8h (s:a1u)(hs:s.few):a0b C0 95 [s.D] (.tup [a5r s,i64 (a0n s:Nat)]):=by
 refine a0c.walk w1 c6B rfl fun F=>?_
 have c1:=d5l s hs;have el1:(((s.fs.map a1B.D).length:Nat):Int)=(s.fs.length:Int):=by rw [List.length_map]
 have el2:(((s.gs.map a1b.D).length:Nat):Int)=(s.gs.length:Int):=by rw [List.length_map]
 unfold a1u.D at c1 ⊢;rcases Nat.decEq (a0n s) 0 with h0|h0
 ·have e0:=b9S h0
  have hd:a5r s=.agg [i64 0,a2c]:=if_neg h0;rw [hd];refine goI a4F e0 c1 trivial trivial trivial trivial trivial ?_;exact a0a rfl IsPure.out
 have e0:=c2n h0;have hd:a5r s=b4Z s.fs.length (a0B s):=if_pos h0;have hok:=a1O h0;have hG:=a8d hok;rw [hd];rw [h0] at c1 e0 ⊢;obtain ⟨h8,h16,hgo⟩:=hok;obtain ⟨gsD,hgsD⟩:∃ x,s.gs.map a1b.D=x:=⟨_,rfl⟩
 obtain ⟨fsD,hfsD⟩:∃ x,s.fs.map a1B.D=x:=⟨_,rfl⟩
 obtain ⟨n,hn⟩:∃ n,s.fs.length=n:=⟨_,rfl⟩
 obtain ⟨N,hN⟩:∃ n,s.gs.length=n:=⟨_,rfl⟩
 have hrows:∀ i g,s.gs[i]? = some g→(a0B s).take (i+1)=(a0B s).take i++[g.least.zip g.most]:=fun i g h=>by
  rw [List.take_add_one]
  congr 1
  unfold a0B;rw [List.getElem?_map,h];rfl
 have hgl:(a0B s).length=N:=by unfold a0B;rw [List.length_map,hN]
 have hfew:=hs.2.2.2;rw [hgsD,hN] at el2;rw [hfsD,hn] at el1;rw [hn] at hgo h8 ⊢;rw [hN] at h16;rw [hgsD,hfsD] at c1 ⊢;have pf:IsPure (.sl false 4 fsD):=by rw [← hfsD];exact inferInstance
 have pg:IsPure (.sl false 3 gsD):=by rw [← hgsD];exact inferInstance
 generalize hR0:a0B s=G at *;refine goI a4F (ff3 e0 el1 el2) c1 trivial trivial trivial trivial trivial ?_;refine OkS.loop (α:=Nat × List D × Nat × Nat) (fun p=>⟨[(1,.optr 0 0 2 0 0),(2,.optr 1 1 2 0 0),(5,.optr 404 12 2 0 0),(21,.sl false 3 gsD),(22,i64 (N:Int)),(23,i64 (p.1:Int))],
   [⟨404,12,134,2,[.agg [i64 (n:Int),a8F 1404 p.2.2.1 1 p.2.1]]⟩,⟨1,1,134,2,[.agg [i64 0,a2c]]⟩,⟨0,0,39,2,[.agg [.sl false 4 fsD,.sl false 3 gsD]]⟩]++a6z 1404 p.2.2.1 141 1 p.2.1,p.2.2.2⟩) (fun p=>N - p.1)
  (fun p=>p.1≤N∧p.2.1=(G.take p.1).map b0J) (0,[],0,_) ⟨Nat.zero_le _,rfl⟩ wkI ?_
 rintro ⟨i,R,g2,m⟩ F ⟨hi,hR⟩;dsimp only at hi hR ⊢;rcases Nat.lt_or_ge i N with h2|h2
 rotate_left
 ·have e1:=ltF h2
  have:i=N:=by omega
  subst this;have hRG:R=G.map b0J:=by rw [hR,← hgl,List.take_length]
  refine goI a4F e1 trivial trivial trivial trivial trivial trivial ?_;refine ⟨.tup [b4Z n G,i64 0],.tup rfl fun j d d' h1 h2=>?_,IsPure.out,rfl⟩;rcases j with _|_|j
  ·cases h1;cases h2
   refine .agg rfl fun j d d' h1 h2=>?_
   rcases j with _|_|j
   ·cases h1;cases h2;exact .refl _
   ·cases h1;cases h2
    rw [← hRG];exact b0n (by cases R with|nil=>exact .inl rfl|cons x l=>right;rfl) rfl
   ·simp at h1
  ·cases h1;cases h2;exact .refl _
  ·simp at h1
 have e1:=ltT h2;have wi:=wiI (i:=i) (by omega);obtain ⟨g,hg⟩:∃ g,s.gs[i]? = some g:=a2g (by omega);have hm:gsD[i]? = some (.agg [str (sb g.name),.sl false 1 (g.least.map fun l=>str (sb l)),.sl false 1 (g.most.map fun l=>str (sb l))]):=by rw [← hgsD,List.getElem?_map,hg];rfl
 have hgk:=hgo g (List.mem_of_getElem? hg);have hgf:=hfew g (List.mem_of_getElem? hg);have hrow:=hrows i g hg;obtain ⟨A,hA⟩:∃ A,a8F 1404 g2 1 R=A:=⟨_,rfl⟩
 obtain ⟨HH,hHH⟩:∃ A,a6z 1404 g2 141 1 R=A:=⟨_,rfl⟩
 have hget:∀ k,Nat.beq 1404 k=false→Hp.get HH k=none:=fun k hk=>by rw [← hHH];exact c1D hk
 obtain ⟨P,hP⟩:∃ P,g.least.zip g.most=P:=⟨_,rfl⟩
 have hPl:P.length=n:=by rw [← hP];exact b0k hgk
 rw [hP] at hrow;rw [hA,hHH];refine goI a4F (ff2 e1 el1) hm trivial trivial trivial trivial trivial ?_;have hzip:∀ k,k<n→P[k]? = some (lv g.least k,lv g.most k):=fun k hk=>by rw [← hP];exact b7P hgk hk
 refine OkS.loop (α:=Nat × List D × Nat × Nat × Nat) (fun p=>⟨[(1,.optr 0 0 2 0 0),(2,.optr 1 1 2 0 0),(5,.optr 404 12 2 0 0),(7,.optr 702 p.2.2.2.1 3 0 0),(8,a8F 1215 p.2.2.1 10 p.2.1),(21,.sl false 3 gsD),(22,i64 (N:Int)),(23,i64 (i:Int)),(29,i64 (n:Int)),(30,i64 (p.1:Int))],
   a6z 1215 p.2.2.1 140 10 p.2.1++([⟨702,p.2.2.2.1,56,3,[.agg [str (sb g.name),.sl false 1 (g.least.map fun l=>str (sb l)),.sl false 1 (g.most.map fun l=>str (sb l))]]⟩,⟨404,12,134,2,[.agg [i64 (n:Int),A]]⟩,⟨1,1,134,2,[.agg [i64 0,a2c]]⟩,⟨0,0,39,2,[.agg [.sl false 4 fsD,.sl false 3 gsD]]⟩]++HH),p.2.2.2.2⟩) (fun p=>n - p.1)
  (fun p=>p.1≤n∧p.2.1=(P.take p.1).map fun p=>a2S p.1 p.2) (0,[],0,_,_) ⟨Nat.zero_le _,rfl⟩ wkI ?_
 rintro ⟨k,L,g3,g4,m3⟩ F ⟨hk,hL⟩;dsimp only at hk hL ⊢;rcases Nat.lt_or_ge k n with h3|h3
 ·have e2:=ltT h3
  have wk:=wiI (i:=k) (by omega);have m1:=a2J (l:=g.least) (k:=k) (by rw [hgk.1];exact h3);have m2:=a2J (l:=g.most) (k:=k) (by rw [hgk.2.1];exact h3);have f1:=a5z (l:=g.least) (k:=k) (by rw [hgk.1];exact h3) hgf.2.2.2.1;have f2:=a5z (l:=g.most) (k:=k) (by rw [hgk.2.1];exact h3) hgf.2.2.2.2;have hE:=hgk.2.2 k h3;have hz:=hzip k h3;have hsn:(P.take (k+1)).map (fun p=>a2S p.1 p.2)=L++[a2S (lv g.least k) (lv g.most k)]:=by rw [hL,List.take_add_one,hz,List.map_append];rfl
  have hLl:L.length=k:=by rw [hL,List.length_map,List.length_take];omega
  have ca:=a9t _ f1 hE.1;have cb:=a9t _ f2 hE.2;have hLle:L.length≤8:=by omega
  clear hL;rcases L with _|⟨x,l⟩
  all_goals
   (try simp only [List.length_cons] at hLle)
   dsimp only [a3q,a3m,a2C,a2D]
  ·refine goI a4F (ff3 e2 wk kN) m1 m2 ca cb trivial trivial ?_
   exact ⟨(k+1,[a2S (lv g.least k) (lv g.most k)],_,_,_),⟨h3,hsn.symm⟩,by dsimp only;omega,wkI⟩
  ·have htk:List.take (l.length+1) (x::l)=x::l:=by simp
   refine goI a4F (ff4 e2 wk htk kN) m1 m2 ca cb trivial trivial ?_;exact ⟨(k+1,x::l++[a2S (lv g.least k) (lv g.most k)],_,_,_),⟨h3,hsn.symm⟩,by dsimp only;omega,by (dsimp only;rw [a2U];exact wkI)⟩
 have e2:=ltF h3
 have:k=n:=by omega
 subst this;have hLr:L=P.map fun p=>a2S p.1 p.2:=by rw [hL,← hPl,List.take_length]
 refine sZ 1000 ?_;refine nwI e2 ?_;refine OkS.seq ?_;refine ifI ?_;refine exI ?_;refine OkS.weak ⟨[(1,.optr 0 0 2 0 0),(2,.optr 1 1 2 0 0),(5,.optr 404 12 2 0 0),(8,.sl false 10 (P.map fun p=>a2S p.1 p.2)),(21,.sl false 3 gsD),(22,i64 (N:Int)),(23,i64 (i:Int))],
   [⟨404,12,134,2,[.agg [i64 (k:Int),A]]⟩,⟨1,1,134,2,[.agg [i64 0,a2c]]⟩,⟨0,0,39,2,[.agg [.sl false 4 fsD,.sl false 3 gsD]]⟩]++HH,_⟩ ⟨?_,?_,Nat.le_refl _⟩ ?_
 ·exact b9H (.drop (.keep (.keep (.keep (a4Q _)))))
 ·refine ⟨.refl _,.refl _,.refl _,?_,.refl _,.refl _,.refl _,trivial⟩
  rw [← hLr];exact b0n b2x (hget _ rfl)
 clear hL hLr;have hsn:(G.take (i+1)).map b0J=R++[b0J P]:=by rw [hrow,List.map_append,← hR];rfl
 have hsr:b0J P=.sl false 10 (P.map fun p=>a2S p.1 p.2):=rfl;rw [hsr] at hsn;have hRl:R.length≤16:=by rw [hR,List.length_map,List.length_take];omega
 have pP:IsPure (b0J P):=inferInstance;rw [hsr] at pP;obtain ⟨PD,hPD⟩:∃ r,(P.map fun p=>a2S p.1 p.2)=r:=⟨_,rfl⟩
 rw [hPD] at pP ⊢;rw [hPD] at hsn;clear hR;rcases R with _|⟨x,l⟩
 ·subst hA hHH
  dsimp only [a3q,a3m,List.append_nil];refine rI 1400 ?_;refine OkS.perm (List.perm_append_comm (l₁:=[_]) (l₂:=[_,_,_])) ?_;refine goI a4F wi trivial trivial trivial trivial trivial trivial ?_;exact ⟨(i+1,[.sl false 10 PD],_,_),⟨h2,hsn.symm⟩,by dsimp only;omega,wkI⟩
 ·subst hA hHH
  have htk:List.take (l.length+1) (x::l)=x::l:=by simp
  simp only [List.length_cons] at hRl;dsimp only [a2C,a2D];refine OkS.reg w1 1400 (by kernel_rfl) ?_;refine nwI htk ?_;refine OkS.perm (List.perm_append_comm (l₁:=[_]) (l₂:=[_,_,_])) ?_;refine goI a4F wi trivial trivial trivial trivial trivial trivial ?_;exact ⟨(i+1,x::l++[.sl false 10 PD],_,_),⟨h2,hsn.symm⟩,by dsimp only;omega,by (dsimp only;rw [a2U];exact wkI)⟩
set_option maxHeartbeats 4000000
def unk (g:Int)(n:Nat):Nat:=if g<0∨(n:Int)≤g then 10 else 0
theorem c0h {g:Int}{n:Nat}(h:unk g n=0):∃ k:Nat,g=k∧k<n:=by
 unfold unk at h
 by_cases g1:g<0∨(n:Int)≤g
 ·rw [if_pos g1] at h;cases h
 ·exact ⟨g.toNat,by omega,by omega⟩
theorem d4R {g:Int}{n:Nat}(h:g<0):unk g n=10:=if_pos (.inl h)
theorem d5g {g:Int}{n:Nat}(h:(n:Int)≤g):unk g n=10:=if_pos (.inr h)
theorem d3K {g:Int}{n:Nat}(h:¬ g<0)(k:¬ (n:Int)≤g):unk g n=0:=if_neg fun q=>q.elim h k
def b3d (s:a1u)(v:List (List UInt8)):Nat:=if a0n s=0 then a1Y s.fs.length v else a0n s
def b3W (s:a1u)(g:Int)(v:List (List UInt8)):Nat:=if a0n s=0 then (if unk g s.gs.length=0 then a1Y s.fs.length v else unk g s.gs.length) else a0n s
theorem b5G (n:Nat)(G:List (List LP))(g:Int):a0b C0 129 [b4Z n G,i64 g] (i64 (unk g G.length:Nat)):=by
 refine a0c.walk w1 c1N rfl fun F=>?_
 have el:(((G.map b0J).length:Nat):Int)=(G.length:Int):=by rw [List.length_map]
 by_cases h1:g<0
 ·have e1:decide (g<0)=true:=decide_eq_true h1
  refine goI dr0 e1 (a1Z true 10) trivial trivial trivial trivial trivial ?_;rw [d4R h1];exact a0a rfl IsPure.out
 ·have e1:decide (g<0)=false:=decide_eq_false h1
  by_cases h2:(G.length:Int)≤g
  ·have e2:decide (g≥(G.length:Int))=true:=decide_eq_true h2
   refine goI dr0 (ff3 e1 e2 el) (a1Z true 10) trivial trivial trivial trivial trivial ?_;rw [d5g h2];exact a0a rfl IsPure.out
  ·have e2:decide (g≥(G.length:Int))=false:=decide_eq_false h2
   refine goI dr0 (ff3 e1 e2 el) (a1Z false 10) trivial trivial trivial trivial trivial ?_;rw [d3K h1 h2];exact a0a rfl IsPure.out
def b5I (e:Nat)(v:List (List UInt8)):D:=if e=0 then frD v else a2c
instance  (e:Nat)(v:List (List UInt8)):IsPure (b5I e v):=by unfold b5I;split<;>exact inferInstance
theorem b1p (s:a1u):∃ x y,a5r s=.agg [i64 x,y]:=by
 unfold a5r;split
 ·exact ⟨_,_,rfl⟩
 ·exact ⟨_,_,rfl⟩
theorem b0F (s:a1u):(a0B s).length=s.gs.length:=List.length_map ..
theorem b7L (s:a1u)(hs:s.few)(b:Bool)(v:List (List UInt8))(hf:Few v):a0b C0 93 [s.D,txD b v] (.tup [a5r s,b5I (b3d s v) v,i64 (b3d s v:Nat)]):=by
 refine a0c.walk w1 c7K rfl fun F=>?_
 have c1:=b8h s hs;obtain ⟨q,hq⟩:∃ q,b3d s v=q:=⟨_,rfl⟩
 rw [hq];unfold a1u.D at c1 ⊢;rcases Nat.decEq (a0n s) 0 with h0|h0
 ·have e0:=b9S h0
  have hd:a5r s=.agg [i64 0,a2c]:=if_neg h0;have hv:q=a0n s:=by rw [← hq];exact if_neg h0
  have hd2:b5I q v=a2c:=if_neg (by rw [hv];exact h0);rw [hd2,hd];rw [hd] at c1;refine goI dr0 e0 c1 trivial trivial trivial trivial trivial ?_;exact a0a (by rw [hv]) IsPure.out
 ·have e0:=c2n h0
  have hd:a5r s=b4Z s.fs.length (a0B s):=if_pos h0;have hv:a1Y s.fs.length v=q:=by rw [← hq];exact (if_pos h0).symm
  have c2:=b0V s.fs.length (a0B s) (a8d (a1O h0)) b v hf;have hd2:b5I q v=a8Q s.fs.length v:=by unfold b5I a8Q;rw [hv]
  rw [hd2,hd];rw [hd] at c1;rw [hv] at c2;refine goI dr0 e0 c1 c2 trivial trivial trivial trivial ?_;exact a0a rfl IsPure.out
theorem b7T (s:a1u)(hs:s.few)(g:Int)(b:Bool)(v:List (List UInt8))(hf:Few v):a0b C0 66 [s.D,i64 g,txD b v] (.tup [a5r s,b5I (b3W s g v) v,i64 (b3W s g v:Nat)]):=by
 refine a0c.walk w1 c9H rfl fun F=>?_
 have c1:=b8h s hs;obtain ⟨q,hq⟩:∃ q,b3W s g v=q:=⟨_,rfl⟩
 rw [hq];unfold a1u.D at c1 ⊢;rcases Nat.decEq (a0n s) 0 with h0|h0
 ·have e0:=b9S h0
  have e1:=d3n h0;have hd:a5r s=.agg [i64 0,a2c]:=if_neg h0;have hv:q=a0n s:=by rw [← hq];exact if_neg h0
  have hd2:b5I q v=a2c:=if_neg (by rw [hv];exact h0);rw [hd2,hd];rw [hd] at c1;refine goI dr0 (ff2 e0 e1) c1 trivial trivial trivial trivial trivial ?_;exact a0a (by rw [hv]) IsPure.out
 have e0:=d3O h0;have hd:a5r s=b4Z s.fs.length (a0B s):=if_pos h0;have cg:=b5G s.fs.length (a0B s) g;rw [b0F] at cg;rcases Nat.decEq (unk g s.gs.length) 0 with h1|h1
 ·have e1:=b9S h1
  have hv:q=unk g s.gs.length:=by rw [← hq];unfold b3W;rw [if_pos h0,if_neg h1]
  have hd2:b5I q v=a2c:=if_neg (by rw [hv];exact h1);rw [hd2,hd];rw [hd] at c1;refine goI dr0 (ff2 e0 e1) c1 cg trivial trivial trivial trivial ?_;exact a0a (by rw [hv]) IsPure.out
 ·have e1:=c2n h1
  have hv:a1Y s.fs.length v=q:=by rw [← hq];unfold b3W;rw [if_pos h0,if_pos h1]
  have c2:=b0V s.fs.length (a0B s) (a8d (a1O h0)) b v hf;have hd2:b5I q v=a8Q s.fs.length v:=by unfold b5I a8Q;rw [hv]
  rw [hd2,hd];rw [hd] at c1;rw [hv] at c2;refine goI dr0 (ff2 e0 e1) c1 cg c2 trivial trivial trivial ?_;exact a0a rfl IsPure.out
theorem b0r {s:a1u}{v:List (List UInt8)}(h:b3d s v=0):a0n s=0∧v.length=s.fs.length∧a1L v=0:=by
 unfold b3d at h
 by_cases h0:a0n s=0
 ·rw [if_pos h0] at h
  unfold a1Y at h
  by_cases h1:v.length=s.fs.length
  ·rw [if_pos h1] at h;exact ⟨h0,h1,h⟩
  ·rw [if_neg h1] at h;cases h
 ·rw [if_neg h0] at h;exact absurd h h0
theorem c5e {s:a1u}{g:Int}{v:List (List UInt8)}(h:b3W s g v=0):a0n s=0∧unk g s.gs.length=0∧v.length=s.fs.length∧a1L v=0:=by
 unfold b3W at h
 by_cases h0:a0n s=0
 ·rw [if_pos h0] at h
  by_cases h2:unk g s.gs.length=0
  ·rw [if_pos h2] at h
   have:=b0r (s:=s) (v:=v) (by unfold b3d;rw [if_pos h0];exact h)
   exact ⟨h0,h2,this.2⟩
  ·rw [if_neg h2] at h;exact absurd h h2
 ·rw [if_neg h0] at h;exact absurd h h0
def c5M (e w n:Nat):Nat:=if e=0 then (if w=n then 7 else 0) else e
def c4t (e w n:Nat):Nat:=if e=0 then (if w=n then 0 else w) else 0
theorem c6g (s:a1u)(hs:s.few)(b:Bool)(v:List (List UInt8))(hf:Few v):a0b C0 36 [s.D,txD b v] (.tup [i64 (c4t (b3d s v) (a4h (a0B s) v) s.gs.length:Nat),i64 (c5M (b3d s v) (a4h (a0B s) v) s.gs.length:Nat)]):=by
 refine a0c.walk w1 c9k rfl fun F=>?_
 have c1:=b7L s hs b v hf;have hok:=@b0r s v;have el:((((a0B s).map b0J).length:Nat):Int)=(s.gs.length:Int):=by rw [List.length_map,b0F]
 obtain ⟨q,hq⟩:∃ q,b3d s v=q:=⟨_,rfl⟩
 rw [hq] at c1 hok ⊢;unfold c4t c5M;unfold a1u.D at c1 ⊢;rcases Nat.decEq q 0 with h0|h0
 ·have e0:=b9S h0
  rw [if_neg h0,if_neg h0];obtain ⟨x,y,ho⟩:=b1p s;rw [ho] at c1;refine goI dr0 e0 c1 trivial trivial trivial trivial trivial ?_;exact a0a rfl IsPure.out
 ·have e0:=c2n h0
  obtain ⟨k0,k2,k3⟩:=hok h0;have hd:a5r s=b4Z s.fs.length (a0B s):=if_pos k0;have hd2:b5I q v=frD v:=if_pos h0;rw [hd,hd2] at c1;have c2:=c9z s.fs.length (a0B s) (a8d (a1O k0)) v k2 k3;rw [if_pos h0,if_pos h0];obtain ⟨A,hA⟩:∃ A,a4h (a0B s) v=A:=⟨_,rfl⟩
  rw [hA] at c2 ⊢
  by_cases h1:A=s.gs.length
  ·have e1:((A:Int)==(s.gs.length:Int))=true:=by rw [h1];exact beq_self_eq_true _
   rw [if_pos h1,if_pos h1];refine goI dr0 (ff3 e0 e1 el) c1 c2 trivial trivial trivial trivial ?_;exact a0a rfl IsPure.out
  ·have e1:((A:Int)==(s.gs.length:Int))=false:=beq_eq_false_iff_ne.2 (by omega)
   rw [if_neg h1,if_neg h1];refine goI dr0 (ff3 e0 e1 el) c1 c2 trivial trivial trivial trivial ?_;exact a0a rfl IsPure.out
theorem b8V {H Hf:Hp}{a a' b:D}(h:Fz H Hf a a'):Fz H Hf (.tup [a,b]) (.tup [a',b]):=.tup rfl fun i d d' h1 h2=>by
 rcases i with _|_|i
 ·cases h1;cases h2;exact h
 ·cases h1;cases h2;exact .refl _
 ·simp at h1
def b9I (G:List (List LP))(g:Nat):List LP:=G.getD g []
theorem b5C {G:List (List LP)}{g:Nat}(h:g<G.length):G[g]? = some (b9I G g):=by
 unfold b9I;rw [List.getD_eq_getElem?_getD,List.getElem?_eq_getElem h];rfl
def inG (g:a1b)(k:Nat)(x:Rat):Bool:=a2Z (lv g.least k) (lv g.most k) x
def b6c (g:a1b)(v:List (List UInt8)):Bool:=(List.range v.length).all fun k=>inG g k (a0g (lv v k))
def a8R (gs:List a1b)(k:Nat)(x:Rat):Nat:=gs.findIdx fun g=>inG g k x
theorem c8y (s:a1u)(b:Bool)(v:List (List UInt8))(hf:Few v)(hr:v.length≤1000000→a0b C0 31 [txD b v] (i64 (a1L v:Nat))):a0b C0 22 [s.D,txD b v] (i64 (a1Y s.fs.length v:Nat)):=by
 refine a0c.walk w1 d1R rfl fun F=>?_
 have el:(((v.map fun l=>str (sb l)).length:Nat):Int)=(v.length:Int):=by rw [List.length_map]
 have el1:(((s.fs.map a1B.D).length:Nat):Int)=(s.fs.length:Int):=by rw [List.length_map]
 have c:=hr (by have:=hf.1;omega);unfold a1u.D a1Y
 by_cases h:v.length=s.fs.length
 ·have e0:=d2u h
  rw [if_pos h];refine goI dr0 (ff3 el el1 e0) c trivial trivial trivial trivial trivial ?_;exact a0a rfl IsPure.out
 ·have e0:=d3I h
  rw [if_neg h];refine goI dr0 (ff3 el el1 e0) trivial trivial trivial trivial trivial trivial ?_;exact a0a rfl IsPure.out
theorem c4n (g:a1b)(k:Nat)(l:List UInt8)(n:Nat)(hg:gOk n g)(hk:k<n)(hl:chk l=0):a0b C0 28 [g.D,i64 (k:Int),str (sb l)] (boo (inG g k (a0g l))):=by
 refine a0c.walk w1 d2w rfl fun F=>?_
 have m1:=a2J (l:=g.least) (k:=k) (by rw [hg.1];exact hk);have m2:=a2J (l:=g.most) (k:=k) (by rw [hg.2.1];exact hk);have hE:=hg.2.2 k hk;have hi:inG g k (a0g l)=a2Z (lv g.least k) (lv g.most k) (a0g l):=rfl;rw [hi];obtain ⟨a,ea⟩:∃ a,lv g.least k=a:=⟨_,rfl⟩
 obtain ⟨b,eb⟩:∃ a,lv g.most k=a:=⟨_,rfl⟩
 rw [ea,eb] at hE;rw [ea] at m1 ⊢;rw [eb] at m2 ⊢;have sa:=a1E a;have sb':=a1E b;obtain ⟨qa,ga⟩:∃ q,decide (a=[])=q:=⟨_,rfl⟩
 obtain ⟨qb,gb⟩:∃ q,decide (b=[])=q:=⟨_,rfl⟩
 obtain ⟨p,hp⟩:∃ q,decide (a2F (a0g l) (a0g a)≥0)=q:=⟨_,rfl⟩
 obtain ⟨q,hq⟩:∃ q,decide (a2F (a0g l) (a0g b)≤0)=q:=⟨_,rfl⟩
 have c1:qa=false→a0b C0 34 [str (sb l),str (sb a)] (i64 (a2F (a0g l) (a0g a))):=fun h=>b1x hl (a1U hE.1 (of_decide_eq_false (ga.trans h)))
 have c2:qb=false→a0b C0 34 [str (sb l),str (sb b)] (i64 (a2F (a0g l) (a0g b))):=fun h=>b1x hl (a1U hE.2 (of_decide_eq_false (gb.trans h)))
 have hw:a2Z a b (a0g l)=((qa||p)&&(qb||q)):=by unfold a2Z;rw [ga,gb,hp,hq]
 rw [ga] at sa;rw [gb] at sb';unfold a1b.D;rw [hw];clear hw ga gb hi ea eb;cases qa<;>cases qb<;>cases p<;>cases q
 all_goals
  refine goI dr0 (ff5 hp hq sa sb' kN) m1 m2 c1 c2 trivial trivial ?_;exact a0a rfl IsPure.out
theorem c2L {g:a1b}{n k:Nat}(h:gOk n g)(hk:k<n):pv (g.least.zip g.most) k=(lv g.least k,lv g.most k):=by
 unfold pv;rw [List.getD_eq_getElem?_getD,b7P h hk];rfl
theorem b7R {s:a1u}{i:Nat}(hi:i<s.gs.length):b9I (a0B s) i=(s.gs.getD i default).least.zip (s.gs.getD i default).most:=by
 unfold b9I a0B;rw [List.getD_eq_getElem?_getD,List.getElem?_map,a2G hi];rfl
theorem d0a {s:a1u}(hs:c0Q s){i:Nat}(hi:i<s.gs.length):gOk s.fs.length (s.gs.getD i default):=hs.2.2 _ (List.mem_of_getElem? (a2G hi))
theorem b0i {α:Type}{l:List α}{p q:α→Bool}(h:∀ x∈l,p x=q x):l.findIdx p=l.findIdx q:=by
 induction l with
 | nil=>rfl
 | cons a r ih =>
  rw [List.findIdx_cons,List.findIdx_cons,h a List.mem_cons_self,ih fun x hx=>h x (List.mem_cons_of_mem _ hx)]
theorem a4J {s:a1u}(hs:c0Q s){k:Nat}(hk:k<s.fs.length)(x:Rat):a2i (a0B s) k x=a8R s.gs k x:=by
 unfold a2i a8R a0B;rw [List.findIdx_map];exact b0i fun g hg=>by
  show a2Z _ _ _=inG g k x;unfold inG;rw [c2L (hs.2.2 g hg) hk]
theorem b5s {a b c d:List UInt8}(h:a6V a b c d=true){x:Rat}(hw:a2Z c d x=true):a2Z a b x=true:=by
 unfold a6V at h;unfold a2Z at hw ⊢;simp only [Bool.and_eq_true,Bool.or_eq_true,decide_eq_true_eq,Bool.not_eq_true',decide_eq_false_iff_not] at h hw ⊢;obtain ⟨h1,h2⟩:=h;obtain ⟨w1,w2⟩:=hw;unfold a2F at *;refine ⟨?_,?_⟩
 ·rcases h1 with h1|⟨h1,h3⟩
  ·exact .inl h1
  ·rcases w1 with w1|w1
   ·exact absurd w1 h1
   ·right
    split at h3<;>split at w1<;>split<;>grind
 ·rcases h2 with h2|⟨h2,h3⟩
  ·exact .inl h2
  ·rcases w2 with w2|w2
   ·exact absurd w2 h2
   ·right
    split at h3<;>split at w2<;>split<;>grind
theorem b1a {n:Nat}{gs:List a1b}{i:Nat}(h:a0A n gs i=0):∀ k,k<n→a0Z (lv (gs.getD i default).least k) (lv (gs.getD i default).most k) (a1D gs i k)=0:=by
 unfold a0A at h;dsimp only at h;split at h
 ·split at h
  ·cases h
  ·split at h
   ·exact a7g h
   ·cases h
 ·cases h
theorem b1Y {s:a1u}(h:a0n s=0):∀ i,i<s.gs.length→a0A s.fs.length s.gs i=0:=by
 unfold a0n at h;split at h
 ·rename_i h1;exact absurd h h1
 ·split at h
  ·rename_i h1;exact absurd h h1
  ·split at h
   ·rename_i h1;exact absurd h h1
   ·exact a7g h
theorem c4O {s:a1u}(h:a0n s=0){i k:Nat}(hi:i+1<s.gs.length)(hk:k<s.fs.length){x:Rat}(hx:inG (s.gs.getD i default) k x=true):inG (s.gs.getD (i+1) default) k x=true:=by
 have h1:=b1a (b1Y h (i+1) hi) k hk;unfold inG at hx ⊢;unfold a1D at h1;rw [if_neg (by omega),Nat.add_sub_cancel] at h1;have h2:a6V (lv (s.gs.getD (i+1) default).least k) (lv (s.gs.getD (i+1) default).most k) (lv (s.gs.getD i default).least k) (lv (s.gs.getD i default).most k)=true:=by
  unfold a0Z at h1;split at h1
  ·rename_i q;exact absurd h1 q
  ·split at h1
   ·rename_i q;exact absurd h1 q
   ·split at h1
    ·cases h1
    ·dsimp only at h1
     split at h1
     ·assumption
     ·cases h1
 exact b5s h2 hx
theorem c1r {s : a1u} (h : a0n s = 0) {i j k : Nat} (hij : i ≤ j) (hj : j < s.gs.length) (hk : k < s.fs.length) {x : Rat} (hx : inG (s.gs.getD i default) k x = true) : inG (s.gs.getD j default) k x = true := by
  induction j with
  | zero => have : i = 0 := by omega
            subst this; exact hx
  | succ j ih =>
    rcases Nat.lt_or_ge i (j + 1) with h1 | h1
    · exact c4O h hj hk (ih (by omega) (by omega))
    · have : i = j + 1 := by omega
      subst this; exact hx
theorem b0d {s:a1u}(h:a0n s=0){g k:Nat}(hg:g<s.gs.length)(hk:k<s.fs.length)(x:Rat):a8R s.gs k x≤g↔inG (s.gs.getD g default) k x=true:=by
 constructor
 ·intro hle
  have hlt:a8R s.gs k x<s.gs.length:=by omega
  have hp:inG (s.gs[a8R s.gs k x]'hlt) k x=true:=List.findIdx_getElem (w:=hlt);have e:s.gs.getD (a8R s.gs k x) default=s.gs[a8R s.gs k x]'hlt:=by rw [List.getD_eq_getElem?_getD,List.getElem?_eq_getElem hlt];rfl
  exact c1r h hle hg hk (by rw [e];exact hp)
 ·intro hi
  have e:s.gs.getD g default=s.gs[g]'hg:=by rw [List.getD_eq_getElem?_getD,List.getElem?_eq_getElem hg];rfl
  rw [e] at hi;exact Nat.le_of_not_lt fun hlt=>by
   have:=List.not_of_lt_findIdx (xs:=s.gs) (p:=fun g=>inG g k x) hlt
   exact absurd hi (by simpa using this)
theorem a5J {f:Nat→Nat}{g:Nat}:∀ n,a8H f n≤g↔∀ k,k<n→f k≤g
 | 0=>⟨fun _ k hk=>absurd hk (Nat.not_lt_zero k),fun _=>Nat.zero_le _⟩
 | n+1=>by
  show max (a8H f n) (f n)≤g↔_;rw [Nat.max_le,a5J n];exact ⟨fun ⟨h1,h2⟩ k hk=>by
   rcases Nat.lt_or_ge k n with h|h
   ·exact h1 k h
   ·have:k=n:=by omega
    subst this;exact h2,fun h=>⟨fun k hk=>h k (by omega),h n (by omega)⟩⟩
theorem a9K {g:a1b}{v:List (List UInt8)}:b6c g v=true↔∀ k,k<v.length→inG g k (a0g (lv v k))=true:=by
 unfold b6c;rw [List.all_eq_true];exact ⟨fun h k hk=>h k (List.mem_range.2 hk),fun h k hk=>h k (List.mem_range.1 hk)⟩
theorem d0c {s:a1u}(h:a0n s=0){g:Nat}(hg:g<s.gs.length){v:List (List UInt8)}(hv:v.length=s.fs.length):a4h (a0B s) v≤g↔b6c (s.gs.getD g default) v=true:=by
 unfold a4h;rw [a5J,a9K];have hok:=a1O h;exact ⟨fun q k hk=>(b0d h hg (by omega) _).1 (by have:=q k hk;rwa [a4J hok (by omega)] at this),fun q k hk=>by
  rw [a4J hok (by omega)];exact (b0d h hg (by omega) _).2 (q k hk)⟩
theorem d4x:a0b C0 57 [i64 0] (⟨mkG 0,1⟩:GF).D:=d3x 0
theorem c6Q (a b:List UInt8)(x:Rat)(y:GF)(k:Nat)(hk:k<100000)(hx:FR x y k)(ha:a≠[]→FR (a0g a) (a3N a) k)(hb:b≠[]→FR (a0g b) (a3N b) k):a0b C0 67 [a2S a b,y.D] (b6r a b x y).D:=by
 refine a0c.walk w1 c8J rfl fun F=>?_
 have hw:b6r a b x y=if (!decide (a=[])&&decide (a2F x (a0g a)<0))=true then b9y (a3N a) y else if (!decide (b=[])&&decide (a2F x (a0g b)>0))=true then b9y y (a3N b) else ⟨mkG 0,1⟩:=rfl
 obtain ⟨qa,ga⟩:∃ q,decide (a=[])=q:=⟨_,rfl⟩
 obtain ⟨qb,gb⟩:∃ q,decide (b=[])=q:=⟨_,rfl⟩
 obtain ⟨p,hp⟩:∃ q,decide (a2F x (a0g a)<0)=q:=⟨_,rfl⟩
 obtain ⟨q,hq⟩:∃ q,decide (a2F x (a0g b)>0)=q:=⟨_,rfl⟩
 have c1:qa=false→a0b C0 121 [y.D,(a3N a).D] (i64 (a2F x (a0g a))):=fun h=>b2k hx (ha (of_decide_eq_false (ga.trans h))) (by omega)
 have c2:qb=false→a0b C0 121 [y.D,(a3N b).D] (i64 (a2F x (a0g b))):=fun h=>b2k hx (hb (of_decide_eq_false (gb.trans h))) (by omega)
 have d1:qa=false→a0b C0 124 [(a3N a).D,y.D] (b9y (a3N a) y).D:=fun h=>c2t (ha (of_decide_eq_false (ga.trans h))) hx (by omega)
 have d2:qb=false→a0b C0 124 [y.D,(a3N b).D] (b9y y (a3N b)).D:=fun h=>c2t hx (hb (of_decide_eq_false (gb.trans h))) (by omega)
 have c0:=d4x;unfold a2S;rw [hw,ga,gb,hp,hq];clear hw ga gb hx ha hb;generalize b9y (a3N a) y=A at *;generalize b9y y (a3N b)=B at *;generalize (⟨mkG 0,1⟩:GF)=Z at *;cases qa<;>cases qb<;>cases p<;>cases q
 all_goals
  refine goI dr0 (ff2 hp hq) c1 c2 d1 d2 c0 trivial ?_;exact a0a rfl IsPure.out
def c4S (r:Rat):List UInt8:=if c0e r=true then [] else txt r
def c5a (r:Rat):Nat:=if c0e r=true then 4 else 0
theorem c4u {r:Rat}{x:GF}{k:Nat}(h:FR r x k)(hk:k<100000):a0b C0 62 [x.D] (.tup [str (sb (c4S r)),i64 (c5a r:Nat)]):=by
 refine a0c.walk w1 c8T rfl fun F=>?_
 have c1:=c5g h hk;have c2:=c6V h hk;unfold c4S c5a;obtain ⟨b,hb⟩:∃ b,c0e r=b:=⟨_,rfl⟩
 rw [hb] at c1 ⊢;cases b
 all_goals
  refine goI dr0 kB c1 c2 trivial trivial trivial trivial ?_;exact a0a rfl IsPure.out
abbrev a7y:Dr:=[(8,[0,1,2,3,4,5,6,7,8,9,10,11,12,13,14],[15])]
open Go.Proofs Go.RowKit
set_option maxRecDepth 20000
set_option maxHeartbeats 4000000
def a7o (r:List LP)(v:List (List UInt8))(k:Nat):Rat:=b0w (pv r k).1 (pv r k).2 (a0g (lv v k))
def a4y (r:List LP)(v:List (List UInt8))(n:Nat):List (List UInt8):=(List.range n).map fun k=>txt (a7o r v k)
theorem b3m (r:List LP)(v:List (List UInt8))(n:Nat):a4y r v (n+1)=a4y r v n++[txt (a7o r v n)]:=by
 unfold a4y;rw [List.range_succ,List.map_append];rfl
def S40 (v:List (List UInt8)):Prop:=∀ l∈v,l.length≤40
def G40 (s:a1u):Prop:=∀ g∈s.gs,S40 g.least∧S40 g.most
def d3m (r:List LP):Prop:=∀ p∈r,p.1.length≤40∧p.2.length≤40
theorem c3W {s:a1u}(h:G40 s):∀ r∈a0B s,d3m r:=fun r hr p hp=>by
 obtain ⟨g,hg,rfl⟩:=List.mem_map.1 hr;obtain ⟨p1,p2⟩:=p
 have:=List.of_mem_zip hp
 exact ⟨(h g hg).1 _ this.1,(h g hg).2 _ this.2⟩
theorem b3E {l:List UInt8}(h:a2v l=0)(h4:l.length≤40)(h0:l≠[]):FR (a0g l) (a3N l) 3:=⟨(a8l h h0).is,rk3 (a1U h h0) h4⟩
theorem c9L {l:List UInt8}(h:chk l=0)(h4:l.length≤40):FR (a0g l) (a3i l) 3:=⟨(b1D h).is,rk3 h h4⟩
theorem c3i {l:List UInt8}(h:a2v l=0)(h4:l.length≤40)(h0:l≠[]):nb (a0g l) E40 E40:=b2L (a1U h h0) h4
def b3a (s:a1u)(g:Int)(v:List (List UInt8)):List (List UInt8):=if b3W s g v=0 then a4y (b9I (a0B s) g.toNat) v v.length else []
theorem d1Q (s:a1u)(hs:s.few)(h4:G40 s)(g:Int)(b:Bool)(v:List (List UInt8))(hf:Few v)(hv4:S40 v):a0b C0 17 [s.D,i64 g,txD b v] (.tup [.sl false 1 ((b3a s g v).map fun l=>str (sb l)),i64 (b3W s g v:Nat)]):=by
 refine a0c.walk w1 c7X rfl fun F=>?_
 have c1:=b7T s hs g b v hf;have hok:=@c5e s g v;have hr:b3a s g v=if b3W s g v=0 then a4y (b9I (a0B s) g.toNat) v v.length else []:=rfl
 rw [hr];obtain ⟨q,hq⟩:∃ q,b3W s g v=q:=⟨_,rfl⟩
 rw [hq] at c1 hok ⊢;unfold a1u.D at c1 ⊢;rcases Nat.decEq q 0 with h0|h0
 ·have e0:=b9S h0
  obtain ⟨x,y,ho⟩:=b1p s;rw [ho] at c1;rw [if_neg h0];refine goI a7y e0 c1 trivial trivial trivial trivial trivial ?_;exact ⟨_,b8V (.nil 1),IsPure.out,rfl⟩
 have e0:=c2n h0;obtain ⟨k0,k1,k2,k3⟩:=hok h0;obtain ⟨gn,rfl,hgn⟩:=c0h k1;have hd:a5r s=b4Z s.fs.length (a0B s):=if_pos k0;have hd2:b5I q v=frD v:=if_pos h0;have hG:=a8d (a1O k0);have hG4:=c3W h4;have h8:=(a1O k0).1;have hgl:=b0F s;rw [hd,hd2] at c1;rw [if_pos h0,Int.toNat_natCast];clear hd hd2 hr;obtain ⟨G,hGG⟩:∃ A,a0B s=A:=⟨_,rfl⟩
 obtain ⟨n,hn⟩:∃ A,s.fs.length=A:=⟨_,rfl⟩
 rw [hGG] at c1 hG hgl hG4 ⊢;rw [hn] at c1 hG h8 k2;have hlen:=hG.len;have el:(((v.map fun l=>(a3i l).D).length:Nat):Int)=(v.length:Int):=by rw [List.length_map]
 have hr1:=b5C (G:=G) (g:=gn) (by omega);obtain ⟨r,hr⟩:∃ r,b9I G gn=r:=⟨_,rfl⟩
 rw [hr] at hr1 ⊢;have hm1:(G.map b0J)[gn]? = some (.sl false 10 (r.map fun p=>a2S p.1 p.2)):=by rw [List.getElem?_map,hr1];rfl
 obtain ⟨hl,hE⟩:=hG.row r (List.mem_of_getElem? hr1);have hr4:=hG4 r (List.mem_of_getElem? hr1);unfold frD at c1;refine goI a7y (ff2 e0 el) c1 trivial trivial trivial trivial trivial ?_;refine OkS.loop (α:=Nat × List D × Nat × Nat) (fun p=>⟨[(1,i64 (gn:Int)),(8,.optr 108 11 2 0 0),(11,a8F 1103 p.2.2.1 1 p.2.1),(27,.sl false 4 (v.map fun l=>(a3i l).D)),(28,i64 (v.length:Int)),(29,i64 (p.1:Int))],a6z 1103 p.2.2.1 24 1 p.2.1++[⟨108,11,134,2,[b4Z n G]⟩],p.2.2.2⟩) (fun p=>v.length - p.1)
  (fun p=>p.1≤v.length∧p.2.1=(a4y r v p.1).map fun l=>str (sb l)) (0,[],0,_) ⟨Nat.zero_le _,rfl⟩ wkI ?_
 rintro ⟨i,L,g2,m⟩ F ⟨hi,hL⟩;dsimp only at hi hL ⊢;rcases Nat.lt_or_ge i v.length with h2|h2
 rotate_left
 ·have e1:=ltF h2
  have:i=v.length:=by omega
  subst this;refine goI a7y e1 trivial trivial trivial trivial trivial trivial ?_;subst hL;exact ⟨_,b8V (b0n b2x rfl),IsPure.out,by rw [h0];rfl⟩
 have e1:=ltT h2;have wi:=wiI (i:=i) (by omega);obtain ⟨l,hl2⟩:=a2g h2;have hm:(v.map fun l=>(a3i l).D)[i]? = some (a3i l).D:=by rw [List.getElem?_map,hl2];rfl
 have hc:=a3d k3 l (List.mem_of_getElem? hl2);have hx:=c9L hc (hv4 l (List.mem_of_getElem? hl2));have hxn:=b2L hc (hv4 l (List.mem_of_getElem? hl2));have hsn:((a4y r v (i+1)).map fun l=>str (sb l))=L++[str (sb (txt (a7o r v i)))]:=by rw [hL,b3m,List.map_append];rfl
 have hLl:L.length≤i:=by
  rw [hL];unfold a4y;rw [List.length_map,List.length_map,List.length_range];exact Nat.le_refl _
 have hp:=b7g (r:=r) (k:=i) (by omega);have hE2:=hE _ (List.mem_of_getElem? hp);have h42:=hr4 _ (List.mem_of_getElem? hp);have hm2:(r.map fun p=>a2S p.1 p.2)[i]? = some (a2S (pv r i).1 (pv r i).2):=by rw [List.getElem?_map,hp];rfl
 have hla:a7o r v i=b0w (pv r i).1 (pv r i).2 (a0g l):=by unfold a7o;rw [c4f hl2]
 have cl:=c6Q (pv r i).1 (pv r i).2 _ _ 3 (by decide) hx (b3E hE2.1 h42.1) (b3E hE2.2 h42.2);have hfr:=c0J hx (b3E hE2.1 h42.1) (b3E hE2.2 h42.2);have hbig:=b2J (c4K hxn (c3i hE2.1 h42.1) (c3i hE2.2 h42.2));have cg:=c4u hfr (by decide);unfold c4S c5a at cg;rw [hbig,if_neg (by decide),if_neg (by decide)] at cg;rw [hla] at hsn;have z0:(((0:Nat):Int) != 0)=false:=rfl;clear hL hfr hbig hla;generalize b6r (pv r i).1 (pv r i).2 (a0g l) (a3i l)=lf at *;generalize txt (b0w (pv r i).1 (pv r i).2 (a0g l))=tx at *;rcases L with _|⟨x,L⟩
 all_goals
  (try simp only [List.length_cons] at hLl)
  dsimp only [a3q,a3m,a2C,a2D,List.nil_append]
 ·refine goI a7y (ff4 e1 wi z0 kN) hm hm1 hm2 cl cg trivial ?_
  exact ⟨(i+1,[str (sb tx)],_,_),⟨h2,hsn.symm⟩,by dsimp only;omega,wkI⟩
 ·have htk:List.take (L.length+1) (x::L)=x::L:=by simp
  refine goI a7y (ff5 e1 wi z0 htk kN) hm hm1 hm2 cl cg trivial ?_;exact ⟨(i+1,x::L++[str (sb tx)],_,_),⟨h2,hsn.symm⟩,by dsimp only;omega,by (dsimp only;rw [a2U];exact wkI)⟩
abbrev b2T:Dr:=[(6,[0,1,2,3,4,5,6,7],[8])]
open Go.Proofs Go.RowKit
set_option maxRecDepth 20000
set_option maxHeartbeats 8000000
def c0B (g:a1b)(v:List (List UInt8))(k:Nat):Rat:=b0w (lv g.least k) (lv g.most k) (a0g (lv v k))
theorem d3i (b1 b2:Bool)(L:List (List UInt8))(hl:L.length≤1000000):a0b C0 23 [txD b1 L,txD b2 L] (boo true):=by
 refine a0c.walk w1 d2c rfl fun F=>?_
 have el:(((L.map fun l=>str (sb l)).length:Nat):Int)=(L.length:Int):=by rw [List.length_map]
 have e0:((L.length:Int) != (L.length:Int))=false:=d2u rfl;refine goI b2T (ff2 el e0) trivial trivial trivial trivial trivial trivial ?_;refine OkS.loop (α:=Nat × Nat) (fun p=>⟨[(0,txD b1 L),(1,txD b2 L),(5,i64 (p.1:Int))],[],p.2⟩) (fun p=>L.length - p.1) (fun p=>p.1≤L.length) (0,_) (Nat.zero_le _) wkI ?_;rintro ⟨i,m⟩ F hi;dsimp only at hi ⊢;rcases Nat.lt_or_ge i L.length with h2|h2
 ·have e1:=ltT h2
  have wi:=wiI (i:=i) (by omega);obtain ⟨l,hl2⟩:=a2g h2;have hm:(L.map fun l=>str (sb l))[i]? = some (str (sb l)):=by rw [List.getElem?_map,hl2];rfl
  have hs:a1t (sb l) (sb l)=true:=by rw [a4Y];exact decide_eq_true rfl
  refine goI b2T (ff5 e1 el wi hs kN) hm trivial trivial trivial trivial trivial ?_;exact ⟨(i+1,_),h2,by dsimp only;omega,wkI⟩
 ·have e1:=ltF h2
  refine goI b2T (ff2 e1 el) trivial trivial trivial trivial trivial trivial ?_;exact a0a rfl IsPure.out
set_option maxHeartbeats 8000000
theorem b9T {s:a1u}(h:a6H s=true):G40 s:=fun g hg=>by
 simp only [a6H,Bool.and_eq_true,decide_eq_true_eq,List.all_eq_true] at h
 have:=h.2 g hg
 simp only [a6C,Bool.and_eq_true,decide_eq_true_eq] at this;exact ⟨a4o this.1.2,a4o this.2⟩
theorem b7U {s:a1u}(h:a0n s=0){i k:Nat}(hi:i<s.gs.length)(hk:k<s.fs.length)(v:List (List UInt8)):a7o (b9I (a0B s) i) v k=c0B (s.gs.getD i default) v k:=by
 have hok:=a1O h;unfold a7o c0B;rw [b7R hi,c2L (d0a hok hi) hk]
def t12 (l:List UInt8):Bool:=decide (l.length≤12)
def f12 (f:a1B):Bool:=t12 f.tol&&t12 f.step
def g12 (g:a1b):Bool:=g.least.all t12&&g.most.all t12
def c0f (s:a1u):Bool:=s.fs.all f12&&(s.gs.all g12&&decide (a0n s=0))
theorem d1q {l:List UInt8}{b:Bool}(h:t12 l=b):decide (((sb l).size:Int)>12) = !b:=by
 rw [a0t,← h];exact a6J (b:=12)
theorem d2T (s:a1u)(hs:s.few):a0b C0 27 [s.D] (boo (c0f s)):=by
 refine a0c.walk w1 d1Y rfl fun F=>?_
 have el1:(((s.fs.map a1B.D).length:Nat):Int)=(s.fs.length:Int):=by rw [List.length_map]
 have el2:(((s.gs.map a1b.D).length:Nat):Int)=(s.gs.length:Int):=by rw [List.length_map]
 have c1:=d4b s hs;have l1:=hs.1;have l2:=hs.2.1;have hgf:=hs.2.2.2;have hq:c0f s=(s.fs.all f12&&(s.gs.all g12&&decide (a0n s=0))):=rfl;rw [hq];unfold a1u.D at c1 ⊢;refine goI dr0 kB trivial trivial trivial trivial trivial trivial ?_;refine OkS.loop (α:=Nat × Nat) (fun p=>⟨[(1,.optr 0 0 2 0 0),(3,i64 (p.1:Int))],[⟨0,0,39,2,[.agg [.sl false 4 (s.fs.map a1B.D),.sl false 3 (s.gs.map a1b.D)]]⟩],p.2⟩) (fun p=>s.fs.length - p.1) (fun p=>p.1≤s.fs.length∧(s.fs.take p.1).all f12=true) (0,_) ⟨Nat.zero_le _,rfl⟩ wkI ?_;rintro ⟨i,m⟩ F ⟨hi,ha⟩;dsimp only at hi ha ⊢;rcases Nat.lt_or_ge i s.fs.length with h2|h2
 ·have e1:=ltT h2
  have wi:=wiI (i:=i) (by omega);obtain ⟨x,hx⟩:=a2g h2;have hm:(s.fs.map a1B.D)[i]? = some (.agg [str (sb x.name),str (sb x.tol),str (sb x.kind),str (sb x.step)]):=by rw [List.getElem?_map,hx];rfl
  obtain ⟨p,hp⟩:∃ b,t12 x.tol=b:=⟨_,rfl⟩
  obtain ⟨q,hq⟩:∃ b,t12 x.step=b:=⟨_,rfl⟩
  have e2:=d1q hp;have e3:=d1q hq;have hf:f12 x=(p&&q):=by unfold f12;rw [hp,hq]
  cases p
  ·rw [a2u hx hf,Bool.false_and]
   refine goI dr0 (ff4 e1 e2 el1 kN) hm trivial trivial trivial trivial trivial ?_;exact a0a rfl IsPure.out
  cases q
  ·rw [a2u hx hf,Bool.false_and]
   refine goI dr0 (ff5 e1 e2 e3 el1 kN) hm trivial trivial trivial trivial trivial ?_;exact a0a rfl IsPure.out
  ·refine goI dr0 (ff6 e1 e2 e3 el1 wi kN) hm trivial trivial trivial trivial trivial ?_
   exact ⟨(i+1,_),⟨h2,a4c hx ha hf⟩,by dsimp only;omega,wkI⟩
 have e1:=ltF h2
 have:i=s.fs.length:=by omega
 subst this;rw [List.take_length] at ha;rw [ha,Bool.true_and];refine goI dr0 (ff2 e1 el1) trivial trivial trivial trivial trivial trivial ?_;refine OkS.loop (α:=Nat × Nat) (fun p=>⟨[(1,.optr 0 0 2 0 0),(4,i64 (p.1:Int))],[⟨0,0,39,2,[.agg [.sl false 4 (s.fs.map a1B.D),.sl false 3 (s.gs.map a1b.D)]]⟩],p.2⟩) (fun p=>s.gs.length - p.1) (fun p=>p.1≤s.gs.length∧(s.gs.take p.1).all g12=true) (0,_) ⟨Nat.zero_le _,rfl⟩ wkI ?_;clear m ha h2 hi e1;rintro ⟨i,m⟩ F ⟨hi,ha⟩;dsimp only at hi ha ⊢;rcases Nat.lt_or_ge i s.gs.length with h2|h2
 rotate_left
 ·have e1:=ltF h2
  have:i=s.gs.length:=by omega
  subst this;rw [List.take_length] at ha;rw [ha,Bool.true_and];rcases Nat.decEq (a0n s) 0 with h|h
  ·have e2:=d3n h
   refine goI dr0 (ff3 e1 e2 el2) c1 trivial trivial trivial trivial trivial ?_;exact a0a (by rw [decide_eq_false h]) IsPure.out
  ·have e2:=d3O h
   refine goI dr0 (ff3 e1 e2 el2) c1 trivial trivial trivial trivial trivial ?_;exact a0a (by rw [decide_eq_true h]) IsPure.out
 have e1:=ltT h2;have wi:=wiI (i:=i) (by omega);obtain ⟨x,hx⟩:=a2g h2;have hm:(s.gs.map a1b.D)[i]? = some (.agg [str (sb x.name),.sl false 1 (x.least.map fun l=>str (sb l)),.sl false 1 (x.most.map fun l=>str (sb l))]):=by rw [List.getElem?_map,hx];rfl
 have hxf:=hgf x (List.mem_of_getElem? hx);have l3:=hxf.2.1;have l4:=hxf.2.2.1;have el3:(((x.least.map fun l=>str (sb l)).length:Nat):Int)=(x.least.length:Int):=by rw [List.length_map]
 have el4:(((x.most.map fun l=>str (sb l)).length:Nat):Int)=(x.most.length:Int):=by rw [List.length_map]
 refine goI dr0 (ff2 e1 el2) trivial trivial trivial trivial trivial trivial ?_;refine OkS.loop (α:=Nat × Nat) (fun p=>⟨[(1,.optr 0 0 2 0 0),(4,i64 (i:Int)),(5,i64 (p.1:Int))],[⟨0,0,39,2,[.agg [.sl false 4 (s.fs.map a1B.D),.sl false 3 (s.gs.map a1b.D)]]⟩],p.2⟩) (fun p=>x.least.length - p.1) (fun p=>p.1≤x.least.length∧(x.least.take p.1).all t12=true) (0,_) ⟨Nat.zero_le _,rfl⟩ wkI ?_;rintro ⟨j,m2⟩ F ⟨hj,hb⟩;dsimp only at hj hb ⊢;rcases Nat.lt_or_ge j x.least.length with h3|h3
 ·have e2:=ltT h3
  have wj:=wiI (i:=j) (by omega);obtain ⟨l,hl⟩:=a2g h3;have hm2:(x.least.map fun l=>str (sb l))[j]? = some (str (sb l)):=by rw [List.getElem?_map,hl];rfl
  obtain ⟨p,hp⟩:∃ b,t12 l=b:=⟨_,rfl⟩
  have e3:=d1q hp;cases p
  ·have:g12 x=false:=by unfold g12;rw [a2u hl hp,Bool.false_and]
   rw [a2u hx this,Bool.false_and];refine goI dr0 (ff4 e2 e3 el3 kN) hm hm2 trivial trivial trivial trivial ?_;exact a0a rfl IsPure.out
  ·refine goI dr0 (ff5 e2 e3 el3 wj kN) hm hm2 trivial trivial trivial trivial ?_
   exact ⟨(j+1,_),⟨h3,a4c hl hb hp⟩,by dsimp only;omega,wkI⟩
 have e2:=ltF h3
 have:j=x.least.length:=by omega
 subst this;rw [List.take_length] at hb;refine goI dr0 (ff3 e2 el3 kN) hm trivial trivial trivial trivial trivial ?_;refine OkS.loop (α:=Nat × Nat) (fun p=>⟨[(1,.optr 0 0 2 0 0),(4,i64 (i:Int)),(6,i64 (p.1:Int))],[⟨0,0,39,2,[.agg [.sl false 4 (s.fs.map a1B.D),.sl false 3 (s.gs.map a1b.D)]]⟩],p.2⟩) (fun p=>x.most.length - p.1) (fun p=>p.1≤x.most.length∧(x.most.take p.1).all t12=true) (0,_) ⟨Nat.zero_le _,rfl⟩ wkI ?_;rintro ⟨j,m3⟩ F ⟨hj,hc⟩;dsimp only at hj hc ⊢;rcases Nat.lt_or_ge j x.most.length with h4|h4
 ·have e2:=ltT h4
  have wj:=wiI (i:=j) (by omega);obtain ⟨l,hl⟩:=a2g h4;have hm2:(x.most.map fun l=>str (sb l))[j]? = some (str (sb l)):=by rw [List.getElem?_map,hl];rfl
  obtain ⟨p,hp⟩:∃ b,t12 l=b:=⟨_,rfl⟩
  have e3:=d1q hp;cases p
  ·have:g12 x=false:=by unfold g12;rw [hb,a2u hl hp];rfl
   rw [a2u hx this,Bool.false_and];refine goI dr0 (ff4 e2 e3 el4 kN) hm hm2 trivial trivial trivial trivial ?_;exact a0a rfl IsPure.out
  ·refine goI dr0 (ff5 e2 e3 el4 wj kN) hm hm2 trivial trivial trivial trivial ?_
   exact ⟨(j+1,_),⟨h4,a4c hl hc hp⟩,by dsimp only;omega,wkI⟩
 have e4:=ltF h4
 have:j=x.most.length:=by omega
 subst this;rw [List.take_length] at hc;have hg:g12 x=true:=by unfold g12;rw [hb,hc];rfl
 refine goI dr0 (ff4 e4 el4 wi kN) hm trivial trivial trivial trivial trivial ?_;exact ⟨(i+1,_),⟨h2,a4c hx ha hg⟩,by dsimp only;omega,wkI⟩
theorem c4T (s:a1u)(hs:s.few)(v:List (List UInt8))(hf:Few v)(h:b3d s v=0):a0b C0 29 [s.D,txD false v] (.tup [i64 (a4h (a0B s) v:Nat),boo true]):=by
 refine a0c.walk w1 d3e rfl fun F=>?_
 have el2:(((s.gs.map a1b.D).length:Nat):Int)=(s.gs.length:Int):=by rw [List.length_map]
 have c1:=c6g s hs false v hf;rw [h] at c1;unfold c4t c5M at c1;rw [if_pos rfl,if_pos rfl] at c1;unfold a1u.D at c1 ⊢;have z0:((7:Int)==7)=true:=rfl;have z1:(((7:Nat):Int)==7)=true:=rfl;have z2:(((0:Nat):Int)==7)=false:=rfl;have z3:(((0:Nat):Int)==0)=true:=rfl;obtain ⟨A,hA⟩:∃ A,a4h (a0B s) v=A:=⟨_,rfl⟩
 rw [hA] at c1 ⊢
 by_cases g:A=s.gs.length
 ·rw [if_pos g,if_pos g] at c1
  refine goI dr0 (ff3 z0 z1 el2) c1 trivial trivial trivial trivial trivial ?_;exact a0a (by rw [g]) IsPure.out
 ·rw [if_neg g,if_neg g] at c1
  refine goI dr0 (ff3 z2 z3 el2) c1 trivial trivial trivial trivial trivial ?_;exact a0a rfl IsPure.out
theorem c1a {f:Nat→Nat}{n k:Nat}(hk:k<n):f k≤a8H f n:=(a5J n).1 (Nat.le_refl _) k hk
abbrev a1P:Dr:=[(11,[0,1,2,3,4,5,6,7,8,9,10,11,12,13,14,15,16],[17,18,19,20])]
open Go.Proofs Go.RowKit
set_option maxRecDepth 20000
set_option maxHeartbeats 8000000
def c0u (gs:List a1b)(k:Nat)(x y:Rat):Bool:=gs.all fun g=>!inG g k x||inG g k y
def b4i (s:a1u)(a b:List (List UInt8))(k:Nat):List UInt8:=if c0u s.gs k (a0g (lv a k)) (a0g (lv b k)) then lv b k else lv a k
def a1p (s:a1u)(a b:List (List UInt8))(n m:Nat):List (List UInt8):=(List.range n).map fun k=>if k<m then b4i s a b k else lv a k
theorem b9Q {s:a1u}{a b:List (List UInt8)}{n m k:Nat}(h:k<n):lv (a1p s a b n m) k=if k<m then b4i s a b k else lv a k:=by
 refine c4f ?_;unfold a1p;rw [List.getElem?_map,List.getElem?_range h];rfl
theorem b5g {s:a1u}{a b:List (List UInt8)}:a1p s a b a.length 0=a:=List.ext_getElem? fun j=>by
 unfold a1p;rw [List.getElem?_map];rcases Nat.lt_or_ge j a.length with h|h
 ·rw [List.getElem?_range h,a3r h];rfl
 ·rw [List.getElem?_eq_none (by rw [List.length_range];exact h),List.getElem?_eq_none h];rfl
theorem b5P {s:a1u}{a b:List (List UInt8)}{n m:Nat}(_h:m<n):a1p s a b n (m+1)=(a1p s a b n m).set m (b4i s a b m):=List.ext_getElem? fun j=>by
 have hl:(a1p s a b n m).length=n:=by unfold a1p;rw [List.length_map,List.length_range]
 rcases Nat.lt_or_ge j n with h|h
 ·have e1:(a1p s a b n (m+1))[j]? = some (if j<m+1 then b4i s a b j else lv a j):=by unfold a1p;rw [List.getElem?_map,List.getElem?_range h];rfl
  have e2:(a1p s a b n m)[j]? = some (if j<m then b4i s a b j else lv a j):=by unfold a1p;rw [List.getElem?_map,List.getElem?_range h];rfl
  rw [e1];rcases Nat.decEq j m with hne|rfl
  ·rw [List.getElem?_set_ne (fun h=>hne h.symm),e2]
   by_cases g:j<m
   ·rw [if_pos g,if_pos (by omega)]
   ·rw [if_neg g,if_neg (by omega)]
  ·rw [List.getElem?_set_self (by omega),if_pos (by omega)]
 ·rw [List.getElem?_eq_none (by unfold a1p;rw [List.length_map,List.length_range];exact h),List.getElem?_eq_none (by rw [List.length_set];omega)]
theorem c4Q (s:a1u)(a b:List (List UInt8))(k:Nat):b4i s a b k=lv a k∨b4i s a b k=lv b k:=by
 unfold b4i;split
 ·exact .inr rfl
 ·exact .inl rfl
theorem c3V {s:a1u}(h:a0n s=0){a b:List (List UInt8)}{k:Nat}(hk:k<s.fs.length):a8R s.gs k (a0g (b4i s a b k))≤a8R s.gs k (a0g (lv a k)):=by
 unfold b4i;split
 ·rename_i hal
  rcases Nat.lt_or_ge (a8R s.gs k (a0g (lv a k))) s.gs.length with hg|hg
  ·have h1:=(b0d h hg hk (a0g (lv a k))).1 (Nat.le_refl _)
   refine (b0d h hg hk (a0g (lv b k))).2 ?_
   have:=List.all_eq_true.1 hal _ (List.mem_of_getElem? (a2G hg))
   rw [h1] at this;simpa using this
  ·exact Nat.le_trans List.findIdx_le_length hg
 ·exact Nat.le_refl _
theorem c4m {g:a1b}{k:Nat}{v:List (List UInt8)}(h:inG g k (a0g (lv v k))=true):c0B g v k=0:=by
 unfold inG a2Z at h;unfold c0B b0w;simp only [Bool.and_eq_true,Bool.or_eq_true,decide_eq_true_eq] at h;rw [if_neg,if_neg]
 ·simp only [Bool.and_eq_true,Bool.not_eq_true',decide_eq_true_eq,decide_eq_false_iff_not]
  rintro ⟨h1,h2⟩;rcases h.2 with h3|h3
  ·exact h1 h3
  ·omega
 ·simp only [Bool.and_eq_true,Bool.not_eq_true',decide_eq_true_eq,decide_eq_false_iff_not]
  rintro ⟨h1,h2⟩;rcases h.1 with h3|h3
  ·exact h1 h3
  ·omega
theorem c4H {s:a1u}(h:a0n s=0){a B b:List (List UInt8)}(ha:a.length=s.fs.length)(hB:B=a1p s a b a.length a.length) :
  B.length=a.length∧a4h (a0B s) B≤a4h (a0B s) a∧(a4h (a0B s) a<s.gs.length→a4y (b9I (a0B s) (a4h (a0B s) a)) B B.length=List.replicate a.length [48]):=by
 have hok:=a1O h;have hl:B.length=a.length:=by rw [hB];unfold a1p;rw [List.length_map,List.length_range]
 have hk:∀ k,k<a.length→lv B k=b4i s a b k:=fun k hk=>by rw [hB,b9Q hk,if_pos hk]
 have hle:a4h (a0B s) B≤a4h (a0B s) a:=by
  unfold a4h;rw [hl];refine (a5J _).2 fun k hk2=>?_
  refine Nat.le_trans ?_ (c1a hk2);rw [a4J hok (by omega),a4J hok (by omega),hk k hk2];exact c3V h (by omega)
 refine ⟨hl,hle,fun hg=>?_⟩;have hh:=a9K.1 ((d0c h hg (by omega)).1 hle);have tz:txt 0=[48]:=of_decide_eq_true ((b4y 0).trans (decide_eq_true rfl));unfold a4y;rw [hl,List.eq_replicate_iff];refine ⟨by rw [List.length_map,List.length_range],fun x hx=>?_⟩;obtain ⟨k,hk2,rfl⟩:=List.mem_map.1 hx
 have:=List.mem_range.1 hk2
 rw [b7U h hg (by omega),c4m (hh k (by omega)),tz]
theorem b1T {s:a1u}(h:a0n s=0):0<s.fs.length:=by
 unfold a0n at h
 by_cases g:s.fs.length=0
 ·have:b0N s.fs.length=2:=if_pos g
  rw [this,if_pos (by decide)] at h;cases h
 ·omega
theorem c7p (n:Nat)(hn:n≤100000):a0b C0 30 [i64 (n:Int)] (txD false (List.replicate n [48])):=by
 refine a0c.walk w1 d1M rfl fun F=>?_
 refine goI dr0 kB trivial trivial trivial trivial trivial trivial ?_;refine OkS.loop (α:=Nat × List D × Nat × Nat) (fun p=>⟨[(0,i64 (n:Int)),(3,a8F 502 p.2.2.1 1 p.2.1),(4,i64 (p.1:Int))],a6z 502 p.2.2.1 24 1 p.2.1,p.2.2.2⟩) (fun p=>n - p.1)
  (fun p=>p.1≤n∧p.2.1=(List.replicate p.1 [48]).map fun l=>str (sb l)) (0,[],0,_) ⟨Nat.zero_le _,rfl⟩ wkI ?_
 rintro ⟨i,L,g,m⟩ F ⟨hi,hL⟩;dsimp only at hi hL ⊢;rcases Nat.lt_or_ge i n with h2|h2
 ·have e1:=ltT h2
  have wi:=wiI (i:=i) (by omega);have hsn:((List.replicate (i+1) [48]).map fun l=>str (sb l))=L++[str ⟨#[48]⟩]:=by rw [hL,List.replicate_succ',List.map_append];rfl
  have hLl:L.length=i:=by rw [hL,List.length_map,List.length_replicate]
  clear hL;rcases L with _|⟨x,L⟩
  ·dsimp only [a3q,a3m,List.nil_append]
   refine goI dr0 (ff2 e1 wi) trivial trivial trivial trivial trivial trivial ?_;exact ⟨(i+1,[_],_,_),⟨h2,hsn.symm⟩,by dsimp only;omega,wkI⟩
  ·have htk:List.take (L.length+1) (x::L)=x::L:=by simp
   simp only [List.length_cons] at hLl;dsimp only [a2C,a2D];refine goI dr0 (ff4 e1 wi htk kN) trivial trivial trivial trivial trivial trivial ?_;exact ⟨(i+1,x::L++[_],_,_),⟨h2,hsn.symm⟩,by dsimp only;omega,by (dsimp only;rw [a2U];exact wkI)⟩
 ·have e1:=ltF h2
  have:i=n:=by omega
  subst this;refine goI dr0 e1 trivial trivial trivial trivial trivial trivial ?_;subst hL;exact ⟨_,b0n (by have:=b2x (H:=[]) (K:=502) (g:=g) (T:=24) (sz:=1) (l:=(List.replicate i [48]).map fun l=>str (sb l));rwa [List.append_nil] at this) rfl,IsPure.out,rfl⟩
theorem c8I (hA:a0b C0 10 [] (boo true))(s:a1u)(hs:s.fit)(a b:List (List UInt8))(hal:a.length≤9223372036854775807)(hbl:b.length≤9223372036854775807):a0b C0 5 [s.D,txD false a,txD false b] (boo true):=by
 refine a0c.walk w1 d4J rfl fun F=>?_
 have cl:=c4z s hs;have hf:=@b8c s;have h40:=@b9T s;have c1:=d2T s;have c2:=b7s false a hal;have c3:=b7s false b hbl;have ela:(((a.map fun l=>str (sb l)).length:Nat):Int)=(a.length:Int):=by rw [List.length_map]
 have elb:(((b.map fun l=>str (sb l)).length:Nat):Int)=(b.length:Int):=by rw [List.length_map]
 have el2:(((s.gs.map a1b.D).length:Nat):Int)=(s.gs.length:Int):=by rw [List.length_map]
 obtain ⟨L,hL⟩:∃ L,a6H s=L:=⟨_,rfl⟩
 obtain ⟨B,hB⟩:∃ L,c0f s=L:=⟨_,rfl⟩
 obtain ⟨CA,hCA⟩:∃ L,b3s a=L:=⟨_,rfl⟩
 obtain ⟨CB,hCB⟩:∃ L,b3s b=L:=⟨_,rfl⟩
 obtain ⟨EA,hEA⟩:∃ L,decide (a.length≤12)=L:=⟨_,rfl⟩
 obtain ⟨EB,hEB⟩:∃ L,decide (b.length≤12)=L:=⟨_,rfl⟩
 rw [hL] at cl hf h40;rw [hB] at c1;rw [hCA] at c2;rw [hCB] at c3;have e5:decide ((a.length:Int)>12) = !EA:=by rw [← hEA];exact a6J (b:=12)
 have e6:decide ((b.length:Int)>12) = !EB:=by rw [← hEB];exact a6J (b:=12)
 have hva:CA=true→EA=true→Few a:=fun h1 h2=>by
  rw [h1] at hCA;rw [h2] at hEA;exact ⟨by have:=of_decide_eq_true hEA;omega,fun l hl=>Nat.le_trans (a4o hCA l hl) (by decide)⟩
 have hvb:CB=true→EB=true→Few b:=fun h1 h2=>by
  rw [h1] at hCB;rw [h2] at hEB;exact ⟨by have:=of_decide_eq_true hEB;omega,fun l hl=>Nat.le_trans (a4o hCB l hl) (by decide)⟩
 have c4:=fun h=>c8y s false a h fun hl=>d3C a h.2 hl
 have c5:=fun h=>c8y s false b h fun hl=>d3C b h.2 hl
 have cR:=c4T s;have cL:=d1Q s;have cW:=c4n;unfold a1u.D at *;cases L
 ·refine goI a1P kB cl hA trivial trivial trivial trivial ?_
  exact a0a rfl IsPure.out
 have hs':=hf rfl;cases B
 ·refine goI a1P kB cl (c1 hs') hA trivial trivial trivial ?_
  exact a0a rfl IsPure.out
 have k0:a0n s=0:=by
  unfold c0f at hB;simp only [Bool.and_eq_true,decide_eq_true_eq] at hB;exact hB.2.2
 cases EA
 ·refine goI a1P (ff2 e5 ela) cl (c1 hs') hA trivial trivial trivial ?_
  exact a0a rfl IsPure.out
 cases EB
 ·refine goI a1P (ff4 e5 e6 ela elb) cl (c1 hs') hA trivial trivial trivial ?_
  exact a0a rfl IsPure.out
 cases CA
 ·refine goI a1P (ff4 e5 e6 ela elb) cl (c1 hs') c2 hA trivial trivial ?_
  exact a0a rfl IsPure.out
 cases CB
 ·refine goI a1P (ff4 e5 e6 ela elb) cl (c1 hs') c2 c3 hA trivial ?_
  exact a0a rfl IsPure.out
 have hva:=hva rfl rfl;have hvb:=hvb rfl rfl;have c4:=c4 hva;have c5:=c5 hvb;rcases Nat.decEq (a1Y s.fs.length a) 0 with h|h
 ·have e7:=b9S h
  refine goI a1P (ff5 e5 e6 e7 ela elb) cl (c1 hs') c2 c3 c4 hA ?_;exact a0a rfl IsPure.out
 have e7:=c2n h;rcases Nat.decEq (a1Y s.fs.length b) 0 with h3|h3
 ·have e8:=b9S h3
  refine goI a1P (ff6 e5 e6 e7 e8 ela elb) cl (c1 hs') c2 c3 c4 trivial ?_;refine goI a1P e8 c5 hA trivial trivial trivial trivial ?_;exact a0a rfl IsPure.out
 have e8:=c2n h3;have hVa:b3d s a=0:=by unfold b3d;rw [if_pos k0];exact h
 have hVb:b3d s b=0:=by unfold b3d;rw [if_pos k0];exact h3
 obtain ⟨_,ua,ra⟩:=b0r hVa;obtain ⟨_,ub,rb⟩:=b0r hVb;have hok:=a1O k0;have h8:=hok.1;have h16:=hok.2.1;have haz:=a3d ra;have hbz:=a3d rb;obtain ⟨hBl,hBg,hBk⟩:=c4H k0 ua (B:=a1p s a b a.length a.length) rfl;have hBm:∀ l∈a1p s a b a.length a.length,l.length≤40∧chk l=0:=fun l hl=>by
  unfold a1p at hl;obtain ⟨k,hk,rfl⟩:=List.mem_map.1 hl;have hk:=List.mem_range.1 hk;rw [if_pos hk];have m1:=List.mem_of_getElem? (a3r (l:=a) (k:=k) (by omega));have m2:=List.mem_of_getElem? (a3r (l:=b) (k:=k) (by omega));rcases c4Q s a b k with h|h<;>rw [h]
  ·exact ⟨a4o hCA _ m1,haz _ m1⟩
  ·exact ⟨a4o hCB _ m2,hbz _ m2⟩
 have hBf:Few (a1p s a b a.length a.length):=⟨by omega,fun l hl=>Nat.le_trans (hBm l hl).1 (by decide)⟩
 have hBr:a1L (a1p s a b a.length a.length)=0:=a9v fun _ l _ hl=>(hBm l (List.mem_of_getElem? hl)).2
 have hBv:a1Y s.fs.length (a1p s a b a.length a.length)=0:=by unfold a1Y;rw [if_pos (by omega)];exact hBr
 have cRa:=cR hs' a hva hVa;have cRb:=cR hs' (a1p s a b a.length a.length) hBf (by unfold b3d;rw [if_pos k0];exact hBv);have cL:=fun g:Int=>cL hs' (h40 rfl) g false (a1p s a b a.length a.length) hBf (fun l hl=>(hBm l hl).1)
 obtain ⟨x0,a',hx0⟩:∃ x a',(a.map fun l=>str (sb l))=x::a':=by
  rcases h:(a.map fun l=>str (sb l)) with _|⟨x,a'⟩
  ·have:=congrArg List.length h
   rw [List.length_map,List.length_nil] at this
   have:=b1T k0
   omega
  ·exact ⟨_,_,rfl⟩
 refine goI a1P (ff6 e5 e6 e7 e8 ela elb) cl (c1 hs') c2 c3 c4 trivial ?_;have lb:(b.map fun l=>str (sb l)).length=b.length:=List.length_map _;have la:(a.map fun l=>str (sb l)).length=a.length:=List.length_map _;refine goI a1P (ff4 e8 elb la Nat.zero_add) c5 trivial trivial trivial trivial trivial ?_;have hb0:(a1p s a b a.length 0).map (fun l=>str (sb l))=a.map fun l=>str (sb l):=by rw [b5g]
 refine OkS.loop (α:=Nat × Nat × Nat) (fun p=>⟨[(1,txD false a),(2,txD false b),(3,.optr 0 0 2 0 0),(7,.osl 302 p.2.1 1 0 a.length),(62,txD false b),(63,i64 (b.length:Int)),(64,i64 (p.1:Int))],
   [⟨302,p.2.1,24,1,(a1p s a b a.length p.1).map fun l=>str (sb l)⟩,⟨0,0,39,2,[.agg [.sl false 4 (s.fs.map a1B.D),.sl false 3 (s.gs.map a1b.D)]]⟩],p.2.2⟩) (fun p=>b.length - p.1)
  (fun p=>p.1≤b.length) (0,_,_) (Nat.zero_le _) (by (dsimp only;rw [hb0];exact wkI)) ?_
 rintro ⟨k,g,m⟩ F hk;dsimp only at hk ⊢;rcases Nat.lt_or_ge k b.length with h4|h4
 ·have f1:=ltT h4
  have wk:=wiI (i:=k) (by omega);have hka:=a2J (l:=a) (k:=k) (by omega);have hkb:=a2J (l:=b) (k:=k) (by omega);have qa:=haz _ (List.mem_of_getElem? (a3r (l:=a) (k:=k) (by omega)));have qb:=hbz _ (List.mem_of_getElem? (a3r (l:=b) (k:=k) (by omega)));have hnx:(a1p s a b a.length (k+1)).map (fun l=>str (sb l))=((a1p s a b a.length k).map fun l=>str (sb l)).set k (str (sb (b4i s a b k))):=by rw [b5P (by omega),List.map_set]
  have hbt:b4i s a b k=if c0u s.gs k (a0g (lv a k)) (a0g (lv b k)) then lv b k else lv a k:=rfl
  have hLl:((a1p s a b a.length k).map fun l=>str (sb l)).length=a.length:=by rw [List.length_map];unfold a1p;rw [List.length_map,List.length_range]
  have hLk:((a1p s a b a.length k).map fun l=>str (sb l))[k]? = some (str (sb (lv a k))):=by
   unfold a1p;rw [List.getElem?_map,List.getElem?_map,List.getElem?_range (by omega)];show some (str (sb (if k<k then b4i s a b k else lv a k)))=_;rw [if_neg (by omega)]
  have hset:((a1p s a b a.length k).map fun l=>str (sb l)).set k (str (sb (lv a k)))=(a1p s a b a.length k).map fun l=>str (sb l):=by
   refine List.ext_getElem? fun j=>?_
   rcases Nat.decEq j k with hne|rfl
   ·rw [List.getElem?_set_ne (fun h=>hne h.symm)]
   ·rw [List.getElem?_set_self (by omega),hLk]
  generalize hL2:(a1p s a b a.length (k+1)).map (fun l=>str (sb l))=L2 at *;generalize (a1p s a b a.length k).map (fun l=>str (sb l))=L1 at *;refine goI a1P (ff2 f1 el2) trivial trivial trivial trivial trivial trivial ?_;refine OkS.loopF (α:=Nat × Nat) (fun p=>⟨[(1,txD false a),(2,txD false b),(3,.optr 0 0 2 0 0),(7,.osl 302 g 1 0 a.length),(8,i64 (k:Int)),(9,boo ((s.gs.take p.1).all fun g=>!inG g k (a0g (lv a k))||inG g k (a0g (lv b k)))),(62,txD false b),(63,i64 (b.length:Int)),(64,i64 (k:Int)),(68,.sl false 3 (s.gs.map a1b.D)),(69,i64 (s.gs.length:Int)),(70,i64 (p.1:Int))],
    [⟨302,g,24,1,L1⟩,⟨0,0,39,2,[.agg [.sl false 4 (s.fs.map a1B.D),.sl false 3 (s.gs.map a1b.D)]]⟩],p.2⟩) (fun p=>s.gs.length - p.1)
   (fun p F'=>F'=F∧p.1≤s.gs.length) (0,_) ⟨rfl,Nat.zero_le _⟩ wkI ?_
  rintro ⟨j,m2⟩ F' ⟨rfl,hj⟩;dsimp only at hj ⊢;rcases Nat.lt_or_ge j s.gs.length with h5|h5
  ·have f2:=ltT h5
   have wj:=wiI (i:=j) (by omega);have hgj:=a2G h5;have hgm:=b1R h5;have hg0:=d0a hok h5;have d1:=cW _ k (lv a k) s.fs.length hg0 (by omega) qa;have d2:=cW _ k (lv b k) s.fs.length hg0 (by omega) qb;have hs9:(s.gs.take (j+1)).all (fun g=>!inG g k (a0g (lv a k))||inG g k (a0g (lv b k)))=((s.gs.take j).all (fun g=>!inG g k (a0g (lv a k))||inG g k (a0g (lv b k)))&&(!inG (s.gs.getD j default) k (a0g (lv a k))||inG (s.gs.getD j default) k (a0g (lv b k)))):=by
    rw [List.take_add_one,hgj,Option.toList_some,List.all_append,List.all_cons,List.all_nil,Bool.and_true]
   unfold a1b.D at d1 d2;generalize s.gs.getD j default=G at *;generalize (s.gs.take j).all (fun g=>!inG g k (a0g (lv a k))||inG g k (a0g (lv b k)))=X at *;generalize inG G k (a0g (lv a k))=p at *;generalize inG G k (a0g (lv b k))=q at *;cases X
   ·refine goI a1P (ff3 f2 wj kN) hgm trivial trivial trivial trivial trivial ?_
    exact ⟨(j+1,_),⟨by trivial,h5⟩,by dsimp only;omega,by (dsimp only;rw [hs9];exact wkI)⟩
   ·cases p
    ·refine goI a1P (ff3 f2 wj kN) hgm hka d1 trivial trivial trivial ?_
     exact ⟨(j+1,_),⟨by trivial,h5⟩,by dsimp only;omega,by (dsimp only;rw [hs9];exact wkI)⟩
    ·cases q
     all_goals
      refine goI a1P (ff3 f2 wj kN) hgm hka hkb d1 d2 trivial ?_;exact ⟨(j+1,_),⟨by trivial,h5⟩,by dsimp only;omega,by (dsimp only;rw [hs9];exact wkI)⟩
  have f2:=ltF h5
  have:j=s.gs.length:=by omega
  subst this;rw [List.take_length];have hall:s.gs.all (fun g=>!inG g k (a0g (lv a k))||inG g k (a0g (lv b k)))=c0u s.gs k (a0g (lv a k)) (a0g (lv b k)):=rfl;rw [hall];generalize c0u s.gs k (a0g (lv a k)) (a0g (lv b k))=X at *;cases X
  ·rw [if_neg (by decide)] at hbt
   rw [hbt,hset] at hnx;refine goI a1P (ff2 f2 wk) trivial trivial trivial trivial trivial trivial ?_;exact ⟨(k+1,_,_),h4,by dsimp only;omega,by (dsimp only;rw [hL2,hnx];exact wkI)⟩
  ·rw [if_pos rfl] at hbt
   rw [hbt] at hnx;refine goI a1P (ff5 f2 wk hLk kN Nat.zero_add) hkb trivial trivial trivial trivial trivial ?_;exact ⟨(k+1,_,_),h4,by dsimp only;omega,by (dsimp only;rw [hL2,hnx];exact wkI)⟩
 have f1:=ltF h4
 have:k=b.length:=by omega
 subst this;have hab:b.length=a.length:=by omega
 obtain ⟨A,hA2⟩:∃ A,a4h (a0B s) a=A:=⟨_,rfl⟩
 rw [hab] at f1 ⊢;rw [hA2] at hBg hBk cRa;have hlr:b3a s (A:Int) (a1p s a b a.length a.length)=if b3W s (A:Int) (a1p s a b a.length a.length)=0 then a4y (b9I (a0B s) A) (a1p s a b a.length a.length) (a1p s a b a.length a.length).length else []:=rfl
 have hcg:A<s.gs.length→b3W s (A:Int) (a1p s a b a.length a.length)=0:=fun hg=>by
  unfold b3W;rw [if_pos k0];have u:unk (A:Int) s.gs.length=0:=d3K (by omega) (by omega);rw [if_pos u];exact hBv
 have hlb:((a1p s a b a.length a.length).map fun l=>str (sb l)).length=a.length:=by rw [List.length_map];exact hBl
 have cL:=cL (A:Int);generalize a1p s a b a.length a.length=BT at *;generalize a4h (a0B s) BT=AB at *;have g1:decide ((AB:Int)>(A:Int))=false:=decide_eq_false (by omega);have fzB:∀ Hf:Hp,Hp.get Hf 302=none→Fz [⟨302,g,24,1,BT.map fun l=>str (sb l)⟩,⟨0,0,39,2,[.agg [.sl false 4 (s.fs.map a1B.D),.sl false 3 (s.gs.map a1b.D)]]⟩] Hf (.osl 302 g 1 0 a.length) (txD false BT):=fun Hf hHf=>by
  refine .osl (e:=⟨302,g,24,1,BT.map fun l=>str (sb l)⟩) rfl hHf rfl rfl (by dsimp only;omega) hlb (fun j d d' h1 h2=>?_) fun j d d' q c c' h1 h2 h3 h4=>?_
  ·rw [Nat.zero_add] at h1;rw [h1] at h2;cases h2;rfl
  ·rw [Nat.zero_add] at h1;rw [h1] at h2;cases h2;rw [h3] at h4;cases h4;exact Fz.refl _
 have hfl:∀ (z:Int) (b:Bool),a6U (.tup [i64 z,boo b]):=fun z b=>a6U.tup fun d hd=>by
  rcases List.mem_cons.1 hd with rfl|hd
  ·exact .prim _
  ·rcases List.mem_cons.1 hd with rfl|hd
   ·exact .prim _
   ·cases hd
 refine goI a1P f1 cRa trivial trivial trivial trivial trivial ?_;refine a0k.own _ (a0w.lendS cRb rfl (c7D (FzS.refl _ _) (FzS.of (fzB [] rfl))) inferInstance (hfl _ _)) ?_;rintro d H2 n2 ⟨rfl,rfl,rfl⟩
 by_cases g2:A=s.gs.length
 ·have g3:((A:Int)==(s.gs.length:Int))=true:=beq_iff_eq.2 (by omega)
  refine goI a1P (ff3 g1 g3 el2) hA trivial trivial trivial trivial trivial ?_;exact a0a rfl IsPure.out
 have g3:((A:Int)==(s.gs.length:Int))=false:=beq_eq_false_iff_ne.2 (by omega);have hAl:A<s.gs.length:=by
  have:=c1v (a0B s) a
  rw [hA2] at this;unfold a0B at this;rw [List.length_map] at this;omega
 rw [hlr,hcg hAl,if_pos rfl,hBk hAl] at cL;have cz:=c7p a.length (by omega);have csr:=d3i false false (List.replicate a.length [48]) (by rw [List.length_replicate];omega);have lz:(((((List.replicate a.length [48]).map fun l:List UInt8=>str (sb l)).length:Nat)):Int)=(a.length:Int):=by rw [List.length_map,List.length_replicate]
 have hq:((a.length:Int)==(a.length:Int))=true:=beq_self_eq_true _;have z0:(((0:Nat):Int)==0)=true:=rfl;refine goI a1P (ff3 g1 g3 el2) trivial trivial trivial trivial trivial trivial ?_;refine a0k.own _ (a0w.give [⟨0,0,39,2,[.agg [.sl false 4 (s.fs.map a1B.D),.sl false 3 (s.gs.map a1b.D)]]⟩] cL (.drop (.keep .nil)) ⟨.refl _,.refl _,fzB _ rfl,trivial⟩ inferInstance) ?_;rintro d H2 n2 ⟨rfl,rfl,rfl⟩;refine goI a1P (ff4 z0 lz ela hq) cz csr hA trivial trivial trivial ?_;exact a0a rfl IsPure.out
end Go.Ide
