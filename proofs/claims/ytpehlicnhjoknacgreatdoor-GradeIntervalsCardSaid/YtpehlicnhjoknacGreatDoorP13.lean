/- The layer of own lemmas and contracts, part 13. -/
import Derived.Test.YtpehlicnhjoknacGreatDoorP6
import Derived.Test.YtpehlicnhjoknacGreatDoorP3
import Derived.Shelf.RegionOpenPlain
import Derived.Lib.Builder
import Derived.Lib.UnsafeStr
import Derived.Lib.Strings
import Derived.Lib.Slices
import Derived.Lib.Walk
import Derived.Laws.Externs
import Derived.KernelRfl
import Derived.WalkKit
import Derived.Test.YtpehlicnhjoknacGreatDoorP11
import Derived.Shelf.Strconv.Itoa3
import Derived.Lib.ItoaMem
import Derived.Lib.AppendIntMem
import Derived.BigCall
import Derived.BigGuard
import Derived.Test.YtpehlicnhjoknacGreatDoorP10
import Derived.Test.YtpehlicnhjoknacGreatDoorP12
set_option linter.unusedVariables false
set_option linter.unusedSimpArgs false
namespace Go.Ide
open Go.Proofs Go.RowKit
set_option maxHeartbeats 1000000
set_option maxRecDepth 100000
theorem d5w {n:Nat}(h:1<=n):liesAt Tryz.prog Tryz.prog.depth 270 n 0 270 1=true:=by
 have hs:sameLayout Tryz.prog Tryz.prog.depth 270 270=true:=by kernel_rfl
 have hc:Tryz.prog.cellsOf 270=2:=by kernel_rfl
 obtain ⟨d,hd⟩:∃ d,Tryz.prog.depth=d+1:=⟨Tryz.prog.depth - 1,by kernel_rfl⟩
 rw [hd] at hs ⊢;unfold liesAt;rw [hd];unfold rowAt;simp [hc,hs,h]
theorem c7b (b c:Nat)(hc:2<=c)(w:World)(h0:w.cell? ⟨b,0,none⟩=some (.pointer none))(hsh:w.shape? b=some (270,c))(hfz:w.frozen? ⟨b,0,none⟩=false) :
  Calls Tryz.prog 227 #[.pointer (some ⟨b,0,none⟩)] w fun e w'=>e=.returned (.tuple #[])/\w'=w.setCell ⟨b,0,none⟩ (.pointer (some ⟨b,0,none⟩)):=by
 obtain ⟨j,hj,hjs⟩:=Option.map_eq_some_iff.1 (show (Tryz.prog.info? 270).map (·.size)=some 2 by kernel_rfl);have hl:liesAt Tryz.prog Tryz.prog.depth 270 (c / Tryz.prog.cellsOf 270) 0 270 1=true:=d5w (by rw [show Tryz.prog.cellsOf 270=2 by kernel_rfl];omega)
 go_enter Tryz.func227,Tryz.ntmps227
 go_wp2
 rw [Lib.run_to_unsafe w ⟨b,0,none⟩ (t:=270) (by kernel_rfl) (by kernel_rfl) hj (by rw [hjs];decide) hsh (by show 0<c;omega)];simp only [Result.andThen];rw [Oper.upon_value]
 go_wp2
 rw [run_callFunc_extern Tryz.func255 (by kernel_rfl) (by kernel_rfl) (by kernel_rfl) (e:=Extern.AbiNoEscape.same) (by kernel_rfl)];rw [Lib.run_noEscape];simp only [Result.andThen];rw [Oper.upon_value]
 go_wp2
 rw [Lib.run_from_unsafe w ⟨b,0,none⟩ (u:=270) (by kernel_rfl) (by kernel_rfl) hj hsh hl];simp only [Result.andThen];rw [Oper.upon_value]
 go_wp2
 go_end0
 exact ⟨rfl,rfl⟩
theorem c9e (b:Nat)(w:World)(h0:w.cell? ⟨b,0,none⟩=some (.pointer (some ⟨b,0,none⟩))) :
  Calls Tryz.prog 227 #[.pointer (some ⟨b,0,none⟩)] w fun e w'=>e=.returned (.tuple #[])/\w'=w:=by
 obtain ⟨j,hj,hjs⟩:=Option.map_eq_some_iff.1 (show (Tryz.prog.info? 270).map (·.size)=some 2 by kernel_rfl)
 go_enter Tryz.func227,Tryz.ntmps227
 go_wp2
 rw [Lib.run_neq_ptr_same w _ (te:=270) (by kernel_rfl) hj]
 go_wp2
 go_end0
 exact ⟨rfl,rfl⟩
theorem d8g (b g:Nat)(cur cs:Array Value)(l:List UInt8)(h0:l≠[])(w:World)(hb:w.heap[b]? = some (.cells cs 270 (0,0)))(hb1:cs[1]? = some (.slice (some ⟨g,0,none⟩) l.length cur.size))
  (hg:w.heap[g]? = some (.cells cur 5 (0,0))) (hl:l.length<=cur.size) (hcap:cur.size<=maxLen) (hcell:∀ (j:Nat) (x:UInt8),l[j]? = some x->cur[j]? = some (.int .u8 x.toNat)) :
  Calls Tryz.prog 185 #[.pointer (some ⟨b,0,none⟩)] w fun e w'=>e=.returned (.string ⟨l.toArray⟩)/\w'=(w.drew.freeze ⟨g,0,none⟩ l.length):=by
 have c1:w.drew.cell? ⟨b,1,none⟩=some (.slice (some ⟨g,0,none⟩) l.length cur.size):=by
  have:w.drew.heap[b]? = some (.cells cs 270 (0,0)):=hb
  rw [Lib.cell_of_heap this];exact hb1
 have h0':l.length≠0:=by simpa using h0
 have hSD:(Builtin.unsafeSliceData_ #[268] 312 #[.slice (some ⟨g,0,none⟩) l.length cur.size]).run Tryz.prog w.drew=.ok (.pointer (some ⟨g,0,none⟩)) w.drew :=
  Lib.run_unsafeSliceData_row _ _ _ _ _ _ (by omega)
 have hUS:(Builtin.unsafeString_ #[312,3] 9 #[.pointer (some ⟨g,0,none⟩),.int .i64 l.length]).run Tryz.prog w.drew=.ok (.string ⟨l.toArray⟩) (w.drew.freeze ⟨g,0,none⟩ l.length):=by
  refine Lib.run_unsafeString_row w.drew 312 3 9 5 (by kernel_rfl) (by kernel_rfl) g cur.size (by have hg':w.drew.heap[g]? = some (.cells cur 5 (0,0)):=hg;simp [World.shape?,hg']) l h0 (by omega) (by unfold maxLen at hcap;omega) ?_;intro j x hx;have hg':w.drew.heap[g]? = some (.cells cur 5 (0,0)):=hg
  have:=hcell j x hx
  rw [Addr.add_lit];simp [World.cell?,hg',this]
 have mixed:Tryz.prog.follows .mixedOrders=true:=by kernel_rfl
 go_enter Tryz.func185,Tryz.ntmps185
 go_wp2
 go_region_o
 all_goals (go_wp2;go_ret;exact ⟨rfl,rfl⟩)
def a5L (l:List UInt8):List D:=l.map fun b=>.prim (.int .u8 (b.toNat:Int))
abbrev b3r (g:Nat)(p x:D):Ent:=⟨1500,g,270,2,[.agg [p,x]]⟩
theorem d6L {vs:Array Value}(h:vs.size=1):vs = #[vs.getD 0 undef]:=by
 match vs,h with
 | ⟨[u]⟩,_=>rfl
theorem d6U (g n:Nat)(x p:D)(H1 H2:Hp)(hp:p=.prim (.pointer none)\/p=.optr 1500 g 2 0 0) :
  a0A C0 227 [.optr 1500 g 2 0 0] (H1++b3r g p x::H2) n (fun d H' n'=>d=.prim (.tuple #[])/\H'=H1++b3r g (.optr 1500 g 2 0 0) x::H2/\n'=n):=by
 refine ⟨⟨_,_,Tryz.func227,rfl,by kernel_rfl⟩,fun F ρ w vs m fr hgn hvs hr=>?_⟩;have h0:=hr 0 _ rfl;rw [d6L hvs];generalize hv:vs.getD 0 undef=v at h0;cases h0 with
 | optr hρ =>
  rename_i b;have he:b3r g p x∈H1++b3r g p x::H2:=by simp
  obtain ⟨cs,hc,q⟩:=m.at he hρ;have hlen:2<=cs.size:=q.len;have hr0:Rep ρ (Own F.X ρ (H1++b3r g p x::H2)) w p (cs.getD 0 undef):=q.rep 0 _ 0 p rfl rfl;have hr1:Rep ρ (Own F.X ρ (H1++b3r g p x::H2)) w x (cs.getD 1 undef):=q.rep 0 _ 1 x rfl rfl;have hcell:w.cell? ⟨b,0,none⟩=some (cs.getD 0 undef):=by
   simp [World.cell?,hc,Array.getD,show 0<cs.size by omega]
  rcases hp with rfl|rfl
  ·cases hr0':cs.getD 0 undef with
   | pointer a =>
    rw [hr0'] at hr0 hcell;cases hr0;refine (c7b b cs.size hlen w hcell (by simp [World.shape?,hc]) (by simp [World.frozen?,hc])).mono ?_;rintro e w' ⟨rfl,rfl⟩;have hset:w.setCell ⟨b,0,none⟩ (.pointer (some ⟨b,0,none⟩))=World.setBlk w b (cs.setIfInBounds 0 (.pointer (some ⟨b,0,none⟩))) 270:=by
     rw [setCell_eq_setRow w b 0 cs 270 (0,0) _ hc];exact a9E hc
    have hop:Rep ρ (Own F.X ρ (H1++b3r g (.prim (.pointer none)) x::H2)) w (.optr 1500 g 2 0 0) (.pointer (some ⟨b,0*2+0,none⟩)):=.optr hρ;have ho:a2B ρ (Own F.X ρ (H1++b3r g (.prim (.pointer none)) x::H2)) w (b3r g (.optr 1500 g 2 0 0) x) (cs.setIfInBounds 0 (.pointer (some ⟨b,0,none⟩))):=by
     refine ⟨by rw [e3w];exact q.len,fun i d hd=>?_,fun i v hv=>?_,fun i d j c hd hj=>?_⟩
     ·rcases i with _|i
      ·cases hd;rfl
      ·simp at hd
     ·rw [e0Z] at hv
      split at hv
      ·split at hv
       ·cases hv;rfl
       ·cases hv
      ·exact q.one i v hv
     ·rcases i with _|i
      ·cases hd
       rcases j with _|_|j
       ·cases hj
        have:(cs.setIfInBounds 0 (.pointer (some ⟨b,0,none⟩))).getD (0*2+0) undef=.pointer (some ⟨b,0*2+0,none⟩):=by
         simp [d9T,show 0<cs.size by omega]
        rw [this];exact hop
       ·cases hj
        have:(cs.setIfInBounds 0 (.pointer (some ⟨b,0,none⟩))).getD (0*2+1) undef=cs.getD 1 undef:=by
         simp [d9T]
        rw [this];exact hr1
       ·simp [D.cells] at hj
      ·simp at hd
    obtain ⟨m1,x1⟩:=m.write (e':=b3r g (.optr 1500 g 2 0 0) x) hρ hc rfl rfl rfl (e3w ..) ho;rw [hset];exact ⟨_,_,_,n,ρ,rfl,⟨rfl,rfl,rfl⟩,m1,x1,fr,fun e' he'=>by
     rcases List.mem_append.1 he' with h|h
     ·exact hgn e' (by simp [h])
     ·rcases e0m.1 h with rfl|h
      ·exact hgn (b3r g (.prim (.pointer none)) x) he
      ·exact hgn e' (by simp [h]),.prim _⟩
   | _=>rw [hr0'] at hr0;cases hr0
  ·cases hr0':cs.getD 0 undef with
   | pointer a =>
    rw [hr0'] at hr0 hcell;cases hr0 with
    | optr hρ2 =>
     rw [hρ] at hρ2;cases hρ2;refine (c9e b w hcell).mono ?_;rintro e w' ⟨rfl,rfl⟩;exact ⟨_,_,_,n,ρ,rfl,⟨rfl,rfl,rfl⟩,m,Ext.refl _ _ _,fr,hgn,.prim _⟩
   | _=>rw [hr0'] at hr0;cases hr0
theorem b3X (w:World)(g n:Nat)(hn:n≠0)(cur:Array Value)(T:Nat)(hg:w.heap[g]? = some (.cells cur T (0,0))) :
  (w.freeze ⟨g,0,none⟩ n).heap.size=w.heap.size/\(w.freeze ⟨g,0,none⟩ n).os=w.os/\(w.freeze ⟨g,0,none⟩ n).tape=w.tape/\(w.freeze ⟨g,0,none⟩ n).output=w.output /\
  (∀ k,k≠g->(w.freeze ⟨g,0,none⟩ n).heap[k]? = w.heap[k]?)/\∃ (cs':Array Value) (fz':Nat × Nat),(w.freeze ⟨g,0,none⟩ n).heap[g]? = some (.cells cs' T fz')/\cs'.size=cur.size:=by
 unfold World.freeze;rw [d9Q hn];refine ⟨by simp,rfl,rfl,rfl,fun k hk=>?_,?_⟩
 ·dsimp only
  rw [Array.getElem?_modify,d9Q (fun h=>hk h.symm)]
 ·dsimp only
  rw [Array.getElem?_modify,d9P rfl,hg];exact ⟨cur,_,rfl,rfl⟩
theorem d6p (g gb n:Nat)(l:List UInt8)(h0:l≠[])(p:D)(R:Hp) :
  a0A C0 185 [.optr 1500 g 2 0 0] (⟨206,gb,5,1,a5L l⟩::b3r g p (.osl 206 gb 1 0 l.length)::R) n (fun d H' n'=>d=str ⟨l.toArray⟩/\H'=b3r g p (.osl 206 gb 1 0 l.length)::R/\n'=n):=by
 refine ⟨⟨_,_,Tryz.func185,rfl,by kernel_rfl⟩,fun F ρ w vs m fr hgn hvs hr=>?_⟩;have hz:=hr 0 _ rfl;have h0':l.length≠0:=by simpa using h0
 rw [d6L hvs];generalize hv:vs.getD 0 undef=v at hz;cases hz with
 | optr hρ =>
  rename_i b;obtain ⟨cs,hc,q⟩:=m.at (e:=b3r g p (.osl 206 gb 1 0 l.length)) (by simp) hρ;have hlen:2<=cs.size:=q.len;have hr1:Rep ρ (Own F.X ρ (⟨206,gb,5,1,a5L l⟩::b3r g p (.osl 206 gb 1 0 l.length)::R)) w (.osl 206 gb 1 0 l.length) (cs.getD 1 undef):=q.rep 0 _ 1 (.osl 206 gb 1 0 l.length) rfl rfl;generalize hs1:cs.getD 1 undef=sv at hr1;generalize hL:l.length=L at hr1;cases hr1 with
   | onil=>exact d9R hL h0'
   | osl hρ2 hb2 hc2 hs2 hm2 =>
    rename_i cap gy T' cs2 fz2;obtain ⟨cur,hcur,qy⟩:=m.at (e:=⟨206,gb,5,1,a5L l⟩) (by simp) hρ2;rw [hb2] at hcur;cases hcur;have hcap:cap=cs2.size:=by omega
    subst hcap;have hcell:∀ (j:Nat) (x:UInt8),l[j]? = some x->cs2[j]? = some (.int .u8 x.toNat):=fun j x hx=>by
     have hr:=qy.rep j (.prim (.int .u8 (x.toNat:Int))) 0 (.prim (.int .u8 (x.toNat:Int))) (by unfold a5L;rw [e0l,hx];rfl) rfl;have hlt:j<cs2.size:=by
      have:=(List.getElem?_eq_some_iff.1 hx).1
      omega
     generalize hvv:cs2.getD (j*1+0) undef=vv at hr;cases hr;rw [e0h hlt]
     have:cs2.getD j undef=cs2[j]:=by simp [Array.getD,hlt]
     rw [e1W,e1z,this] at hvv;rw [hvv]
    have hb1:cs[1]? = some (.slice (some ⟨gy,0,none⟩) l.length cs2.size):=by
     have hlt:1<cs.size:=by omega
     rw [e0h hlt]
     have:cs.getD 1 undef=cs[1]:=by simp [Array.getD,hlt]
     rw [this] at hs1;rw [hs1,hL,e2z]
    refine (d8g b gy cs2 cs l h0 w hc hb1 hb2 (by omega) (by omega) hcell).mono ?_;rintro e w' ⟨rfl,rfl⟩;have md:=m.drew;obtain ⟨f1,f2,f3,f4,f5,cs',fz',f6,f7⟩:=b3X w.drew gy l.length h0' cs2 5 hb2;obtain ⟨m1,x1⟩:=d8W (H1:=[]) (H2:=b3r g p (.osl 206 gb 1 0 l.length)::R) (w':=w.drew.freeze ⟨gy,0,none⟩ l.length) md hρ2 f1 f2 f3 f4 f5 (fun c hcc=>by
     have hb2':w.drew.heap[gy]? = some (.cells cs2 5 (0,0)):=hb2;have hcc':w.drew.heap[gy]? = some (.cells c 5 (0,0)):=hcc;rw [hb2'] at hcc';cases hcc';exact ⟨cs',fz',f6,f7⟩)
    rw [hL];rw [hL] at m1 x1;exact ⟨_,_,_,n,ρ,rfl,⟨rfl,rfl,rfl⟩,m1,(Ext.drew _ _ _).trans x1,fr,fun e' he'=>hgn e' (by rw [hL];exact e0X _ he'),.prim _⟩
set_option maxRecDepth 20000
set_option maxHeartbeats 4000000
def bH (gb g:Nat)(p:D)(L:List UInt8)(R:Hp):Hp:=a5b 206 gb 5 1 (a5L L)++(b3r g p (a6l 206 gb 1 (a5L L))::R)
theorem b8R (s:List UInt8):a4V (sb s)=a5L s:=rfl
theorem a4M (l:List UInt8):(a5L l).length=l.length:=d9X ..
theorem c0u (a b:List UInt8):a5L (a++b)=a5L a++a5L b:=e1w
theorem b5A {l:List UInt8}(h:l≠[]):∃ x r,a5L l=x::r:=by
 cases l with
 | nil=>exact d9R rfl h
 | cons a l=>exact ⟨_,_,rfl⟩
theorem d6Q (g gb n:Nat)(p:D)(hp:p=.prim (.pointer none)\/p=.optr 1500 g 2 0 0)(L s:List UInt8)(hs:s≠[])(R:Hp)(hlen:L.length+s.length<=100000000) :
  a0A C0 184 [.optr 1500 g 2 0 0,str (sb s)] (bH gb g p L R) n (fun d H' n'=>(∃ g',H'=bH g' g (.optr 1500 g 2 0 0) (L++s) R)/\n<=n'):=by
 refine a0A.walk w1 c6c rfl fun F=>?_
 have hsz:=a0x s;have hb:=b8R s;obtain ⟨x,r,hx⟩:=b5A hs;have hr:s.length=r.length+1:=by rw [<- a4M,hx];rfl
 unfold bH;rw [c0u];cases hL:a5L L with
 | nil =>
  dsimp only [a2o,a2l,List.nil_append];refine goI dr0 kB d9N d9N d9N d9N d9N d9N ?_;refine a0j.own _ (d6U g _ a1R p [] R hp) ?_;rintro d H' n' ⟨rfl,rfl,rfl⟩;have hL0:L.length=0:=by rw [<- a4M,hL];rfl
  refine goI dr0 (ff2 hsz hb) d9N d9N d9N d9N d9N d9N ?_;refine ⟨?_,by omega⟩;apply Exists.intro;rw [hx,hr];rfl
 | cons y l =>
  dsimp only [a1c,a1d,List.cons_append,List.nil_append];have hL1:L.length=l.length+1:=by rw [<- a4M,hL];rfl
  have htk:List.take (l.length+1) (y::l)=y::l:=by simp
  refine goI dr0 kB d9N d9N d9N d9N d9N d9N ?_;refine a0j.own _ (d6U g _ (.osl 206 gb 1 0 (l.length+1)) p [⟨206,gb,5,1,y::l⟩] R hp) ?_;rintro d H' n' ⟨rfl,rfl,rfl⟩;refine goI dr0 (ff3 hsz hb htk) d9N d9N d9N d9N d9N d9N ?_;refine ⟨?_,by omega⟩;apply Exists.intro;have hap:y::l++a5L s=y::(l++a5L s):=rfl;have hl2:(l++a5L s).length+1=l.length+1+s.length:=by rw [e0x,a4M];omega
  rw [hl2]
open Go.Sort Go.Shelf
section
open Go.Lib
set_option maxHeartbeats 6400000 in
set_option maxRecDepth 100000 in
theorem d8f (u:Nat) (hu64:u<18446744073709551616) (w:World) (htab:Lib.TabIs Tryz.prog w "internal/strconv.uint64pow10" .u64 Lib.pow10Tab) :
  Calls Tryz.prog 223 #[.int .u64 u,.int .i64 10] w fun e w'=>e=.returned (.string ⟨(Lib.decDigits u).toArray⟩)/\∃ k os,w'=grow (w.drewN k) os:=by
 have e283:∀ args w,(callFunc 249 args).run Tryz.prog w=.ok (.enter 249 args) w:=enters_of Tryz.func249 (by kernel_rfl) rfl;have e284:∀ args w,(callFunc 250 args).run Tryz.prog w=.ok (.enter 250 args) w:=enters_of Tryz.func250 (by kernel_rfl) rfl;have e285:∀ args w,(callFunc 251 args).run Tryz.prog w=.ok (.enter 251 args) w:=enters_of Tryz.func251 (by kernel_rfl) rfl
 by_cases hs:u<100
 ·go_enter Tryz.func223,Tryz.ntmps223
  go_wp2_with (go_at_fn 249;refine (Tryz.internal_strconv_small u hs _).mono ?_;rintro e w' ⟨rfl,rfl⟩)
  go_ret
  exact ⟨rfl,0,#[],by simp [World.drewN_zero]⟩
 ·have hu1:1<=u:=by omega
  have hnd20:Lib.nDigits u<=20:=by have:=Lib.numDigits_eq u hu1 hu64;split at this<;>omega
  have hb3:Lib.nDigits u<=24:=by omega
  have hal:Tryz.prog.arrayLen 322=24:=by kernel_rfl
  have hsl1:∀ W,(Instr.sliceAt 322 (.pointer (some ⟨w.heap.size,0,none⟩)) none (some (.int .i64 (Lib.nDigits u:Int))) none).run Tryz.prog W=.ok (.slice (some ⟨w.heap.size,0,none⟩) (Lib.nDigits u) 24) W:=fun W=>by
   rw [run_sliceAt_array_h W 322 ⟨w.heap.size,0,none⟩ (by kernel_rfl) .i64 (Lib.nDigits u:Int) (by omega) (by rw [hal];omega)]
   go_simp
  have hH0:=Lib.holds_zero0 w 322 (Lib.nDigits u) (by omega);have hfmt:=Tryz.internal_strconv_formatBase10 w.heap.size 0 24 u (Array.replicate (Lib.nDigits u) 0) (w.alloc (.cells Lib.zeros24 322)) hH0 (by rw [e3q];exact Lib.lt_pow_nDigits u) hu64 (by rw [e3q];omega);rw [e3q] at hfmt;have HH0:=Lib.hid hH0;clear hH0 hal
  go_enter Tryz.func223,Tryz.ntmps223
  go_wp2_with (first
   | (go_at_fn 250;refine (Tryz.internal_strconv_numDigits u hu1 hu64 _ (Lib.tabIs_alloc htab _)).mono ?_;rintro e w' ⟨rfl,rfl⟩))
  go_at_fn 251
  refine hfmt.mono ?_;rintro e w' ⟨rfl,k,v',dk,rfl,hF⟩;have hcv:(convert 268 9 (.slice (some ⟨w.heap.size,0,none⟩) (Lib.nDigits u) 24)).run Tryz.prog ((putRow (fun (b:UInt8)=>Value.int .u8 (b.toNat:Int)) (w.alloc (.cells Lib.zeros24 322)) w.heap.size 0 dk).drewN k)=.ok (.string ⟨(Lib.decDigits u).toArray⟩) ((putRow (fun (b:UInt8)=>Value.int .u8 (b.toNat:Int)) (w.alloc (.cells Lib.zeros24 322)) w.heap.size 0 dk).drewN k):=by
   have h:=run_convert_bytes_back (P:=Tryz.prog) ((putRow (fun (b:UInt8)=>Value.int .u8 (b.toNat:Int)) (w.alloc (.cells Lib.zeros24 322)) w.heap.size 0 dk).drewN k) 268 9 5 ⟨w.heap.size,0,none⟩ 24 (Lib.decDigits u) (by kernel_rfl) (by kernel_rfl) (by kernel_rfl) (fun j hj=>by
    rw [Lib.row_is_numeral hF j hj,Lib.add_plain,World.cell?_drewN];exact cell?_putRow (fun (b:UInt8)=>Value.int .u8 (b.toNat:Int)) _ w.heap.size 0 _ dk HH0.out (by rw [hF.size,e3q]) j (by rw [hF.size];rw [Lib.decDigits_length] at hj;exact hj))
   rw [Lib.decDigits_length] at h;exact h
  go_wp2
  go_ret
  obtain ⟨os,eo⟩:=Lib.fin_at w (.cells Lib.zeros24 322) dk k 0;exact ⟨rfl,k,os,eo⟩
end
theorem b7u {O:Nat->Prop}{w:World}{v u:Value}{vs:Array Value}(hn:vs.size=2)(h:∀ (i:Nat) (x:D),[D.prim v,.prim u][i]? = some x->Rep nol O w x (vs.getD i undef)):vs = #[v,u]:=by
 match vs,hn with
 | ⟨[a,b]⟩,_ =>
  have h0:=h 0 _ rfl;have h1:=h 1 _ rfl;simp at h0 h1;cases h0;cases h1;rfl
theorem c8H (u:Nat)(hu:u<18446744073709551616):a0b C0 223 [.prim (.int .u64 (u:Int)),i64 10] (str ⟨(Lib.decDigits u).toArray⟩):=by
 refine ⟨⟨_,_,Tryz.func223,rfl,by kernel_rfl⟩,fun Y w vs hG hnG hX hvs hr=>?_⟩
 have:=b7u hvs hr
 subst this;refine (d8f u hu w hG).mono ?_;rintro e w' ⟨rfl,k,os,rfl⟩;exact ⟨_,_,rfl,Lib.below_grow _ _ (d9Z _) _ _,rfl,.prim _⟩
theorem d2S (u:Nat)(hu:u<18446744073709551616):a0b C0 182 [.prim (.int .u64 (u:Int)),i64 10] (str ⟨(Lib.decDigits u).toArray⟩):=by
 refine a0c.walk w1 c4L rfl fun F=>?_
 refine goI dr0 kB (c8H u hu) d9N d9N d9N d9N d9N ?_;exact a0a rfl IsPure.out
theorem rp0:a0b C0 183 [str ⟨#[48]⟩,i64 0] (str ⟨#[]⟩):=d9H a4H 400 20 (by kernel_rfl)
theorem rp1:a0b C0 183 [str ⟨#[48]⟩,i64 1] (str ⟨#[48]⟩):=d9H a4H 400 20 (by kernel_rfl)
theorem rp2:a0b C0 183 [str ⟨#[48]⟩,i64 2] (str ⟨#[48,48]⟩):=d9H a4H 400 20 (by kernel_rfl)
theorem rp3:a0b C0 183 [str ⟨#[48]⟩,i64 3] (str ⟨#[48,48,48]⟩):=d9H a4H 400 20 (by kernel_rfl)
theorem rp4:a0b C0 183 [str ⟨#[48]⟩,i64 4] (str ⟨#[48,48,48,48]⟩):=d9H a4H 400 20 (by kernel_rfl)
theorem rp5:a0b C0 183 [str ⟨#[48]⟩,i64 5] (str ⟨#[48,48,48,48,48]⟩):=d9H a4H 400 20 (by kernel_rfl)
theorem rp6:a0b C0 183 [str ⟨#[48]⟩,i64 6] (str ⟨#[48,48,48,48,48,48]⟩):=d9H a4H 400 20 (by kernel_rfl)
theorem rp7:a0b C0 183 [str ⟨#[48]⟩,i64 7] (str ⟨#[48,48,48,48,48,48,48]⟩):=d9H a4H 400 20 (by kernel_rfl)
theorem rp8:a0b C0 183 [str ⟨#[48]⟩,i64 8] (str ⟨#[48,48,48,48,48,48,48,48]⟩):=d9H a4H 400 20 (by kernel_rfl)
theorem rp9:a0b C0 183 [str ⟨#[48]⟩,i64 9] (str ⟨#[48,48,48,48,48,48,48,48,48]⟩):=d9H a4H 400 20 (by kernel_rfl)
theorem d8E:a0b C0 183 [str ⟨#[48]⟩,i64 10] (str ⟨#[48,48,48,48,48,48,48,48,48,48]⟩):=d9H a4H 400 20 (by kernel_rfl)
theorem d8m:a0b C0 183 [str ⟨#[48]⟩,i64 11] (str ⟨#[48,48,48,48,48,48,48,48,48,48,48]⟩):=d9H a4H 400 20 (by kernel_rfl)
theorem d7o:a0b C0 183 [str ⟨#[48]⟩,i64 12] (str ⟨#[48,48,48,48,48,48,48,48,48,48,48,48]⟩):=d9H a4H 400 20 (by kernel_rfl)
theorem d8d:a0b C0 183 [str ⟨#[48]⟩,i64 13] (str ⟨#[48,48,48,48,48,48,48,48,48,48,48,48,48]⟩):=d9H a4H 400 20 (by kernel_rfl)
theorem d8e:a0b C0 183 [str ⟨#[48]⟩,i64 14] (str ⟨#[48,48,48,48,48,48,48,48,48,48,48,48,48,48]⟩):=d9H a4H 400 20 (by kernel_rfl)
theorem d8j:a0b C0 183 [str ⟨#[48]⟩,i64 15] (str ⟨#[48,48,48,48,48,48,48,48,48,48,48,48,48,48,48]⟩):=d9H a4H 400 20 (by kernel_rfl)
theorem d7X:a0b C0 183 [str ⟨#[48]⟩,i64 16] (str ⟨#[48,48,48,48,48,48,48,48,48,48,48,48,48,48,48,48]⟩):=d9H a4H 400 20 (by kernel_rfl)
theorem d8i:a0b C0 183 [str ⟨#[48]⟩,i64 17] (str ⟨#[48,48,48,48,48,48,48,48,48,48,48,48,48,48,48,48,48]⟩):=d9H a4H 400 20 (by kernel_rfl)
theorem c7S (n:Nat)(h:n<=17):a0b C0 183 [str ⟨#[48]⟩,i64 (n:Int)] (str ⟨(List.replicate n 48).toArray⟩):=by
 match n,h with
 | 0,_=>exact rp0
 | 1,_=>exact rp1
 | 2,_=>exact rp2
 | 3,_=>exact rp3
 | 4,_=>exact rp4
 | 5,_=>exact rp5
 | 6,_=>exact rp6
 | 7,_=>exact rp7
 | 8,_=>exact rp8
 | 9,_=>exact rp9
 | 10,_=>exact d8E
 | 11,_=>exact d8m
 | 12,_=>exact d7o
 | 13,_=>exact d8d
 | 14,_=>exact d8e
 | 15,_=>exact d8j
 | 16,_=>exact d7X
 | 17,_=>exact d8i
 | n+18,h=>omega
set_option maxHeartbeats 8000000
def a5K (q r:Nat):List UInt8:=if q=0 then Lib.decDigits r else List.replicate (18 - (Lib.decDigits r).length) 48++Lib.decDigits r
theorem b5Q:Lib.decDigits 0=[48]:=by unfold Lib.decDigits;rfl
theorem b3x (n:Nat):Lib.decDigits n≠[]:=(a1D n).2.2
theorem c3i (q r:Nat):a5K q r≠[]:=by
 unfold a5K;split
 ·exact b3x r
 ·intro h;exact b3x r (List.append_eq_nil_iff.1 h).2
theorem b8N {q r:Nat}(hq:q≠0):a5K q r=a2x 18 r []:=by
 unfold a5K a2x c6w;rw [d9Q hq]
 by_cases h:r=0
 ·subst h;rw [b5Q,d9P rfl];rfl
 ·rw [d9Q h,e0W]
theorem c3C (B q r:Nat)(hB:B=10^18)(hr:r<B):Lib.decDigits (q*B+r)=if q=0 then a5K q r else Lib.decDigits q++a5K q r:=by
 by_cases hq:q=0
 ·subst hq;rw [d9P rfl];unfold a5K;rw [d9P rfl,e2z,e0v]
 ·rw [d9Q hq,b8N hq,hB]
  exact b4n 18 q r hq (by rw [<- hB];exact hr)
def a3t (P:List (List UInt8)):List UInt8:=P.reverse.flatten
theorem b0v (P:List (List UInt8))(p:List UInt8):a3t (P++[p])=p++a3t P:=by unfold a3t;simp
theorem b9K (a b:List UInt8):sb a++sb b=sb (a++b):=by
 apply ByteArray.ext;simp [ByteArray.data_append]
theorem c1x {P:List (List UInt8)}(h:∀ p∈P,p≠[]):P.length<=(a3t P).length:=by
 unfold a3t;rw [List.length_flatten,<- List.length_reverse];generalize hQ:P.reverse=Q;have h':∀ p∈Q,p≠[]:=fun p hp=>h p (by rw [<- hQ] at hp;exact List.mem_reverse.1 hp)
 clear hQ h
 induction Q with
 | nil=>exact d9Z _
 | cons a r ih =>
  have h1:=ih fun p hp=>h' p (e0X _ hp)
  have h2:a.length≠0:=fun q=>h' a e1x (e0R q)
  rw [e1k,List.sum_cons,d9Y];omega
structure b1e (n m:Nat)(P:List (List UInt8)):Prop where
 ne:m≠0->Lib.decDigits n=Lib.decDigits m++a3t P
 eq:m=0->Lib.decDigits n=a3t P
 all:∀ p∈P,p≠[]
 le:m<=n
theorem b1e.len {n m:Nat}{P:List (List UInt8)}(h:b1e n m P):P.length<=(Lib.decDigits n).length:=by
 have h1:=c1x h.all
 by_cases q:m=0
 ·rw [h.eq q];exact h1
 ·rw [h.ne q,e0x];omega
theorem b1e.step {n m:Nat}{P:List (List UInt8)}{B:Nat}(h:b1e n m P)(hm:m≠0)(hB:B=10^18):b1e n (m / B) (P++[a5K (m / B) (m%B)]):=by
 have hB0:0<B:=by rw [hB];decide
 have hd:=c3C B (m / B) (m%B) hB (e0L _ hB0);rw [show m / B*B+m%B=m by rw [e0t];exact e1A m B] at hd;have hn:=h.ne hm;rw [hd] at hn;refine ⟨fun q=>?_,fun q=>?_,fun p hp=>?_,e0A (e1H _ _) h.le⟩
 ·rw [d9Q q] at hn;rw [hn,b0v,e1o]
 ·rw [d9P q] at hn;rw [hn,b0v]
 ·rcases List.mem_append.1 hp with hp|hp
  ·exact h.all p hp
  ·rw [List.mem_singleton] at hp;subst hp;exact c3i _ _
abbrev a2D (P:List (List UInt8)):List D:=P.map fun p=>str (sb p)
theorem b6s (x : GI) (h : x.wf) (hf : x.few) : a0b C0 119 [x.D] (str (sb (Lib.itoa x.z))) := by
  refine a0c.walk w1 c4J rfl fun F => ?_
  obtain ⟨z, sm⟩ := x
  obtain ⟨h1, h2⟩ := h
  have hp := a3B ⟨z, sm⟩ ⟨h1, h2⟩
  dsimp only [GI.D, GI.few] at *
  cases sm with
  | true =>
    obtain ⟨h3, h4⟩ := h1 rfl
    have c : a0b C0 179 [i64 z] (str (sb (Lib.itoa z))) := b5k z h3 (by omega)
    unfold GI.s GI.w
    dsimp only
    refine goI dr0 kB c d9N d9N d9N d9N d9N ?_
    exact a0a rfl IsPure.out
  | false =>
    have hz := h2 rfl
    have hz0 : z.natAbs ≠ 0 := fun q => hz (by have : z = 0 := by omega
                                               subst this; exact a0I rfl)
    have hw : GI.w ⟨z, false⟩ = wD z.natAbs := rfl
    have hs : GI.s ⟨z, false⟩ = if z < 0 then -1 else 1 := rfl
    rw [hw] at hp ⊢
    obtain ⟨sg, hsg⟩ : ∃ s, GI.s ⟨z, false⟩ = s := ⟨_, rfl⟩
    rw [hsg] at hp ⊢
    obtain ⟨B, hB⟩ : ∃ B : Nat, B = 10 ^ 18 := ⟨_, rfl⟩
    have hB1 : B < BB := by rw [hB]; decide
    have hB0 : B ≠ 0 := by rw [hB]; decide
    have hB2 : 1 < B := by rw [hB]; decide
    have hBs : u64 1000000000000000000 = a0k B := by rw [hB]; rfl
    have hBl : a0h B = [B] := a3W hB0 hB1
    obtain ⟨n, hn⟩ : ∃ n, z.natAbs = n := ⟨_, rfl⟩
    obtain ⟨neg, hneg⟩ : ∃ b, decide (z < 0) = b := ⟨_, rfl⟩
    rw [hn] at hp hf hz0 ⊢
    rw [hneg] at hp
    have hit : Lib.itoa z = (if neg then [45] else []) ++ Lib.decDigits n := by
      unfold Lib.itoa
      by_cases q : z < 0
      · rw [d9P q, <- hneg, d9S q, hn]; rfl
      · rw [d9Q q, <- hneg, d9U q, <- hn]
        have : z.toNat = z.natAbs := by omega
        rw [this]; rfl
    rw [hit]
    have hDL : (Lib.decDigits n).length <= 27 * 1000000 + 1 := b2T (k := 1000000) (by omega)
    have hmpos : ∀ m : Nat, m ≠ 0 -> decide ((((a0h m).map a0k).length : Int) > 0) = true := fun m hm => d9S (by
      rw [a1H hm, e1k, d9Y]; omega)
    have hm0 : decide ((((a0h 0).map a0k).length : Int) > 0) = false := d9U (by rw [a0Z]; decide)
    obtain ⟨w0, ws, hws⟩ : ∃ a l, (a0h n).map a0k = a :: l := by
      cases hl : (a0h n).map a0k with
      | nil => exact d9R hl (a2m hz0)
      | cons a l => exact ⟨a, l, rfl⟩
    have hwD : wD n = .sl false 1 (w0 :: ws) := by unfold wD wL; rw [hws]
    have hbD : wD B = .sl false 1 [u64 1000000000000000000] := by unfold wD wL; rw [hBl, hBs]; rfl
    have pw : IsPure (.sl false 1 (w0 :: ws)) := by rw [<- hwD]; exact d9O
    rw [hwD] at hp ⊢
    clear hit h1 h2 hz hs hsg
    have hne : (w0 :: ws ≠ []) = True := eq_true (List.cons_ne_nil _ _)
    refine goI dr0 hne hp d9N d9N d9N d9N d9N ?_
    rw [<- hwD]
    refine OkS.loop (α := Nat × List (List UInt8) × Nat × Nat) (fun p => ⟨[(3, boo neg), (4, wD p.1), (5, wD B), (6, a6l 1303 p.2.2.1 1 (a2D p.2.1))], a5b 1303 p.2.2.1 9 1 (a2D p.2.1), p.2.2.2⟩) (fun p => p.1)
      (fun p => b1e n p.1 p.2.1) (n, [], 0, _) ⟨fun _ => by unfold a3t; simp, fun q => d9R q hz0, fun p hp => d9R hp e0M, d9Z _⟩ (by refine ⟨.drop .nil, ⟨.refl _, .refl _, ?_, .refl _, d9N⟩, d9Z _⟩; dsimp only; rw [hbD]; exact .nn true 1 _) ?_
    rintro ⟨m, P, g, cnt⟩ F I
    dsimp only at I ⊢
    have hPl := I.len
    rcases Nat.decEq m 0 with hm | hm
    rotate_left
    · subst hm
      have hdn := I.eq rfl
      have hall := I.all
      have hLn : P.length <= 27000001 := by omega
      have hP0 : P ≠ [] := fun q => b3x n (by rw [hdn, q]; rfl)
      obtain ⟨N, hN⟩ : ∃ N, P.length = N := ⟨_, rfl⟩
      have hN0 : N ≠ 0 := fun q => hP0 (e0R (by omega))
      rw [hdn]
      clear hwD hbD pw hp hn hPl I
      have elP : (((a2D P).length : Nat) : Int) = (N : Int) := by rw [d9X, hN]
      have wN : IntKind.i64.wrap ((N : Int) - 1) = ((N : Int) - 1) := wI (by omega) (by omega)
      refine OkS.seq ?_
      refine sZ 600 ?_
      refine nwI hm0 ?_
      refine ifI ?_
      refine exI ?_
      refine OkS.weak ⟨[(3, boo neg), (6, .sl false 1 (a2D P))], [], _⟩ ⟨?_, ⟨.refl _, ?_, d9N⟩, d9Z _⟩ ?_
      · have := b4N (K := 1303) (g := g) (T := 9) (sz := 1) (l := a2D P) (r := []) (r' := []) (H := a5b 1303 g 9 1 (a2D P)) (Hf := []) .nil
        rwa [e0W] at this
      · exact c0E _ _ _ _ _
      obtain ⟨c0, hc0⟩ : ∃ c, c = cnt + 1 + 1 + 1 := ⟨_, rfl⟩
      rw [<- hc0]
      refine sR 1500 ?_
      obtain ⟨c1, hc1⟩ : ∃ c, c = c0 + 1 := ⟨_, rfl⟩
      refine d9A (α := D × Nat × Nat) (fun q => ⟨[(6, .sl false 1 (a2D P)), (10, .optr 1500 c0 2 0 0)], bH q.2.1 c0 q.1 (if neg then [45] else []) [], q.2.2⟩) (fun q => q.1 = .prim (.pointer none) \/ q.1 = .optr 1500 c0 2 0 0) ?_ ?_
      · cases neg
        · refine goI dr0 kB d9N d9N d9N d9N d9N d9N ?_
          exact ⟨by trivial, (.prim (.pointer none), 0, _), .inl rfl, wkI⟩
        · refine goI dr0 kB d9N d9N d9N d9N d9N d9N ?_
          refine a0j.own _ (d6Q c0 0 _ (.prim (.pointer none)) (.inl rfl) [] [45] (by decide) [] (by decide)) ?_
          rintro d H' n' ⟨⟨g', rfl⟩, hn'⟩
          refine stI ?_
          exact ⟨by trivial, (.optr 1500 c0 2 0 0, g', _), .inr rfl, wkI⟩
      rintro ⟨p0, gb0, c2⟩ hp0
      dsimp only at hp0 ⊢
      obtain ⟨pre, hpre⟩ : ∃ l, (if neg then [45] else [] : List UInt8) = l := ⟨_, rfl⟩
      have hpl : pre.length <= 1 := by rw [<- hpre]; split <;> decide
      rw [hpre]
      refine goI dr0 (ff2 elP @wN) d9N d9N d9N d9N d9N d9N ?_
      refine OkS.loop (α := Nat × D × Nat × Nat) (fun q => ⟨[(6, .sl false 1 (a2D P)), (10, .optr 1500 c0 2 0 0), (11, i64 ((q.1 : Int) - 1))], bH q.2.2.1 c0 q.2.1 (pre ++ a3t (P.drop q.1)) [], q.2.2.2⟩) (fun q => q.1)
        (fun q => q.1 <= N /\ (q.2.1 = .prim (.pointer none) \/ q.2.1 = .optr 1500 c0 2 0 0)) (N, p0, gb0, _) ⟨d9Z _, hp0⟩ (by dsimp only; rw [<- hN, e2P]; unfold a3t; rw [List.reverse_nil, List.flatten_nil, e0W]; exact wkI) ?_
      rintro ⟨k, p, gb, c3⟩ F ⟨hk, hp⟩
      dsimp only at hk hp ⊢
      have hjl : ∀ k, (a3t (P.drop k)).length <= (a3t P).length := fun k => by
        unfold a3t
        conv => rhs; rw [<- e1j k P]
        rw [List.reverse_append, List.flatten_append, e0x]; omega
      have hjP : (a3t P).length <= 27000001 := by rw [<- hdn]; omega
      rcases e0N k with hk0 | hk0
      · subst hk0
        have e1 : decide ((((0 : Nat) : Int) - 1) >= 0) = false := by decide
        rw [e1C]
        have hL : pre ++ a3t P ≠ [] := fun q => by
          have := (List.append_eq_nil_iff.1 q).2
          rw [<- hdn] at this; exact b3x n this
        obtain ⟨L, hLL⟩ : ∃ L, pre ++ a3t P = L := ⟨_, rfl⟩
        rw [hLL] at hL ⊢
        obtain ⟨y, r, hy⟩ := b5A hL
        have hlr : L.length = r.length + 1 := by rw [<- a4M, hy]; rfl
        refine goI dr0 e1 d9N d9N d9N d9N d9N d9N ?_
        refine a0j.own _ (by
          have := fun n => d6p c0 gb n L hL p []
          unfold bH
          simp only [hy, hlr] at this ⊢
          exact this _) ?_
        rintro d H' n' ⟨rfl, rfl, rfl⟩
        refine goI dr0 kB d9N d9N d9N d9N d9N d9N ?_
        exact a0a rfl IsPure.out
      · obtain ⟨k', rfl⟩ : ∃ k', k = k' + 1 := ⟨k - 1, by omega⟩
        have e1 : decide ((((k' + 1 : Nat) : Int) - 1) >= 0) = true := d9S (by omega)
        have e2 : (((k' + 1 : Nat) : Int) - 1) = (k' : Int) := by omega
        have wk : IntKind.i64.wrap ((k' : Int) - 1) = ((k' : Int) - 1) := wI (by omega) (by omega)
        have e3 : decide ((k' : Int) >= 0) = true := d9S (by omega)
        obtain ⟨t, ht⟩ : ∃ t, P[k']? = some t := a0J (by omega)
        have hm : (a2D P)[k']? = some (str (sb t)) := by rw [e0l, ht]; rfl
        have htn := hall t (d9V ht)
        have hdr : P.drop k' = t :: P.drop (k' + 1) := by
          rw [e0P (List.getElem?_eq_some_iff.1 ht).1, (List.getElem?_eq_some_iff.1 ht).2]
        have hj : pre ++ a3t (P.drop k') = pre ++ a3t (P.drop (k' + 1)) ++ t := by
          rw [hdr, e1o]
          congr 1
          unfold a3t
          rw [List.reverse_cons, List.flatten_append]; simp
        have hlt : (pre ++ a3t (P.drop (k' + 1))).length + t.length <= 100000000 := by
          have h1 := hjl k'
          have h2 : (pre ++ a3t (P.drop k')).length = (pre ++ a3t (P.drop (k' + 1))).length + t.length := by rw [hj, e0x]
          rw [<- h2, e0x]; omega
        rw [e2]
        refine goI dr0 (ff2 e3 kN) hm d9N d9N d9N d9N d9N ?_
        refine a0j.own _ (d6Q c0 gb _ p hp (pre ++ a3t (P.drop (k' + 1))) t htn [] hlt) ?_
        rintro d H' n' ⟨⟨g', rfl⟩, hn'⟩
        refine stI ?_
        refine goI dr0 wk d9N d9N d9N d9N d9N d9N ?_
        exact ⟨(k', .optr 1500 c0 2 0 0, g', _), ⟨by dsimp only; omega, .inr rfl⟩, by dsimp only; omega, by (dsimp only; rw [hj]; exact wkI)⟩
    have e1 := hmpos m hm
    have c1 := d6Y m B hB0 (e0I (a0G m n I.le) hf) (by rw [hBl]; show 1 < 1000000; decide)
    have I2 := I.step hm hB
    obtain ⟨q, hq⟩ : ∃ q, m / B = q := ⟨_, rfl⟩
    obtain ⟨r, hr⟩ : ∃ q, m % B = q := ⟨_, rfl⟩
    have hqm : q < m := by rw [<- hq]; exact e2h (e0T hm) hB2
    have hrB : r < B := by rw [<- hr]; exact e0L _ (e0T hB0)
    rw [hq, hr] at c1 I2
    have hsz := a0x (Lib.decDigits r)
    have hdl : (Lib.decDigits r).length <= 18 := a2c 17 r (by rw [hB] at hrB; exact hrB)
    have hdl1 : (Lib.decDigits r).length ≠ 0 := fun h => b3x r (e0R h)
    refine goI dr0 e1 d9N d9N d9N d9N d9N d9N ?_
    refine cI c1 ?_
    refine sR 800 ?_
    refine d9A (α := Nat) (fun cnt => ⟨[(3, boo neg), (5, wD B), (6, a6l 1303 g 1 (a2D P)), (7, wD q), (9, str (sb (Lib.decDigits r)))], a5b 1303 g 9 1 (a2D P), cnt⟩) (fun _ => True) ?_ ?_
    · rcases Nat.decEq r 0 with h0 | h0
      · have e2 := hmpos r h0
        have hl1 : a0h r = [r] := a3W h0 (e2i hrB hB1)
        have hmm : ((a0h r).map a0k)[0]? = some (u64 (r : Int)) := by rw [hl1]; rfl
        have c2 := d2S r (e2i hrB hB1)
        refine goI dr0 e2 hmm c2 d9N d9N d9N d9N ?_
        exact ⟨by trivial, _, d9N, wkI⟩
      · subst h0
        rw [b5Q]
        refine goI dr0 hm0 d9N d9N d9N d9N d9N d9N ?_
        exact ⟨by trivial, _, d9N, wkI⟩
    rintro cnt2 -
    refine d9A (α := Nat) (fun cnt => ⟨[(3, boo neg), (5, wD B), (6, a6l 1303 g 1 (a2D P)), (7, wD q), (9, str (sb (a5K q r)))], a5b 1303 g 9 1 (a2D P), cnt⟩) (fun _ => True) ?_ ?_
    · rcases Nat.decEq q 0 with h0 | h0
      · have e2 := hmpos q h0
        have c2 : a0b C0 183 [str ⟨#[48]⟩, i64 ((18 - (Lib.decDigits r).length : Nat) : Int)] (str (sb (List.replicate (18 - (Lib.decDigits r).length) 48))) := c7S (18 - (Lib.decDigits r).length) (by omega)
        have w18 : IntKind.i64.wrap (18 - ((Lib.decDigits r).length : Int)) = ((18 - (Lib.decDigits r).length : Nat) : Int) := by rw [wI (by omega) (by omega)]; omega
        have hap := b9K (List.replicate (18 - (Lib.decDigits r).length) 48) (Lib.decDigits r)
        have hsz2 := a0x (List.replicate (18 - (Lib.decDigits r).length) 48)
        have hpt : List.replicate (18 - (Lib.decDigits r).length) 48 ++ Lib.decDigits r = a5K q r := by unfold a5K; rw [d9Q h0]
        rw [hpt] at hap
        have hsize : (sb (List.replicate (18 - (Lib.decDigits r).length) 48)).size + (sb (Lib.decDigits r)).size <= 9223372036854775807 := by
          rw [hsz, hsz2, e2g]; omega
        refine goI dr0 (ff4 e2 hsz w18 hap) c2 d9N d9N d9N d9N d9N ?_
        exact ⟨by trivial, _, d9N, wkI⟩
      · subst h0
        have hpt : a5K 0 r = Lib.decDigits r := d9P rfl
        rw [hpt]
        refine goI dr0 hm0 d9N d9N d9N d9N d9N d9N ?_
        exact ⟨by trivial, _, d9N, wkI⟩
    rintro cnt3 -
    have hsn : a2D (P ++ [a5K q r]) = a2D P ++ [str (sb (a5K q r))] := by unfold a2D; rw [e1w]; rfl
    have hPL : (a2D P).length = P.length := d9X ..
    rcases hPD : a2D P with _ | ⟨y, l⟩
    all_goals
      rw [hPD] at hsn hPL
      dsimp only [a2o, a2l, a1c, a1d, List.nil_append]
    · refine goI dr0 kB d9N d9N d9N d9N d9N d9N ?_
      exact ⟨(q, P ++ [a5K q r], _, _), I2, hqm, by (dsimp only; rw [hsn]; exact wkI)⟩
    · have htk : List.take (l.length + 1) (y :: l) = y :: l := by simp
      have hll : l.length + 1 <= 27000001 := by rw [d9Y] at hPL; omega
      refine goI dr0 htk d9N d9N d9N d9N d9N d9N ?_
      exact ⟨(q, P ++ [a5K q r], _, _), I2, hqm, by (dsimp only; rw [hsn, a2i]; exact wkI)⟩
abbrev b8m:Dr:=[(3,[0,1,2,3,4,5,6],[7,8])]
open Go.Proofs Go.RowKit
set_option maxRecDepth 20000
set_option maxHeartbeats 4000000
theorem d1g {r:Rat}{x:GF}{k:Nat}(h:FR r x k)(hk:k<100000):x.n.wf/\x.n.few/\(mkG (x.d:Int)).wf/\(mkG (x.d:Int)).few/\x.n.z=r.num/\x.d=r.den/\0<x.d :=
 ⟨h.is.1,h.fn (by omega),a1k _,by
  show (a0h ((x.d:Int)).natAbs).length<1000000;rw [e1d];have:=h.ld;omega,h.is.2.1,h.is.2.2,h.dpos⟩
theorem b9a {r:Rat}{x:GF}{k:Nat}(h:FR r x k)(hk:k<100000):a0b C0 55 [x.D] (str (sb (txt r))):=by
 refine a0c.walk w1 c9M rfl fun F=>?_
 obtain ⟨h1,h2,h3,h4,h5,h6,h7⟩:=d1g h hk;have c0:=c1l x h7;have c1:=b6s x.n h1 h2;have c2:=b6s (mkG (x.d:Int)) h3 h4;have hd:Lib.itoa (mkG (x.d:Int)).z=Lib.decDigits r.den:=by
  show Lib.itoa (x.d:Int)=_;unfold Lib.itoa;rw [d9Q (by omega),h6];rfl
 rw [hd] at c2;rw [h5] at c1;have l1:(Lib.itoa r.num).length<=27000002:=by
  have:(Lib.decDigits x.n.z.natAbs).length<=27*1000000+1:=b2T (k:=1000000) (by unfold GI.few at h2;omega)
  rw [h5] at this;unfold Lib.itoa;split
  ·rw [d9Y];omega
  ·rw [show r.num.toNat=r.num.natAbs by omega];omega
 have l2:(Lib.decDigits r.den).length<=27000001:=by
  have:(Lib.decDigits (mkG (x.d:Int)).z.natAbs).length<=27*1000000+1:=b2T (k:=1000000) (by unfold GI.few at h4;omega)
  rw [<- h6];exact this
 have s1:=a0x (Lib.itoa r.num);have s2:=a0x (Lib.decDigits r.den);have s3:(sb [47]).size=1:=rfl;have s4:=a0x (Lib.itoa r.num++[47]);have z1:(sb (Lib.itoa r.num)).size+(sb [47]).size<=9223372036854775807:=by rw [s1,s3];omega
 have z2:(sb (Lib.itoa r.num++[47])).size+(sb (Lib.decDigits r.den)).size<=9223372036854775807:=by rw [s4,s2,e0x,e1u];omega
 have a1:sb (Lib.itoa r.num)++(⟨#[47]⟩:ByteArray)=sb (Lib.itoa r.num++[47]):=b9K _ [47];have a2:=b9K (Lib.itoa r.num++[47]) (Lib.decDigits r.den);rw [e1o] at a2;dsimp only [GI.D,GF.D] at c0 c1 c2 ⊢;generalize mkG (x.d:Int)=y at c0 c2 ⊢;unfold txt
 by_cases g:x.d=1
 ·rw [d9S g] at c0
  rw [d9P (h6 ▸ g)];refine goI b8m kB c0 c1 d9N d9N d9N d9N ?_;exact a0a rfl IsPure.out
 ·rw [d9U g] at c0
  rw [d9Q (fun q=>g (h6.trans q))];refine goI b8m (ff2 a1 a2) c0 c1 c2 d9N d9N d9N ?_;exact a0a rfl IsPure.out
set_option maxHeartbeats 4000000
def b4a {α:Type}(f:α->Nat):List α->Nat
 | []=>0
 | a::r=>if f a≠0 then f a else b4a f r
theorem b3F {α:Type}{f:α->Nat}{l:List α}{i:Nat}(ha:∀ (j:Nat) (y:α),j<i->l[j]? = some y->f y=0):b4a f l=b4a f (l.drop i):=by
 induction l generalizing i with
 | nil=>simp
 | cons a r ih =>
  cases i with
  | zero=>rfl
  | succ i =>
   have h0:=ha 0 a (by omega) rfl;show (if f a≠0 then f a else b4a f r)=_;rw [d9Q (fun k=>k h0),e2J];exact ih fun j y hj hy=>ha (j+1) y (by omega) hy
theorem b1L {α:Type}{f:α->Nat}{v:List α}{i:Nat}{l:α}(ha:∀ (j:Nat) (y:α),j<i->v[j]? = some y->f y=0)(hl:v[i]? = some l)(h:f l≠0):b4a f v=f l:=by
 rw [b3F ha,e0P (List.getElem?_eq_some_iff.1 hl).1,(List.getElem?_eq_some_iff.1 hl).2];exact d9P h
theorem a8q {α:Type}{f:α->Nat}{v:List α}(ha:∀ (j:Nat) (y:α),j<v.length->v[j]? = some y->f y=0):b4a f v=0:=by
 rw [b3F (i:=v.length) ha,e2P];rfl
theorem b2N {α:Type}{f:α->Nat}{v:List α}(h:b4a f v=0):∀ l∈v,f l=0:=by
 induction v with
 | nil=>intro l hl;cases hl
 | cons a r ih =>
  have h':(if f a≠0 then f a else b4a f r)=0:=h
  by_cases g:f a=0
  ·rw [d9Q (fun k=>k g)] at h'
   intro l hl;rcases e0m.1 hl with rfl|h2
   ·exact g
   ·exact ih h' l h2
  ·rw [d9P g] at h';exact d9R h' g
theorem d8w:a0b C0 72 [i64 0] (⟨mkG 0,1⟩:GF).D:=d6G 0
def S40 (v:List (List UInt8)):Prop:=∀ l∈v,l.length<=40
def G40 (s:a0Y):Prop:=∀ g∈s.gs,S40 g.least/\S40 g.most
def a5O:Rat:=⟨1,2,by decide,by decide⟩
def d5a:GF:=b6L (mkG 1) (mkG 2)
theorem c6U:FR a5O d5a 1:=by
 refine ⟨?_,⟨a1f (k:=1) (by decide),a1f (k:=1) (by decide)⟩⟩
 have:=c3v (mkG 1) (mkG 2) (a1k _) (by rw [a3L];decide)
 rw [a3L,a3L] at this;have e:Rat.divInt 1 2=a5O:=by kernel_rfl
 rw [e] at this;exact this
def two (a b:Nat):Nat:=if a≠0 then a else b
theorem d3b (v:List (List UInt8))(b:Bool)(hl:v.length<=1000000)(hf:∀ l∈v,l.length<=100000):a0b C0 208 [.clo (.func 82) [] [],txD b v] (i64 (b4a chk v:Nat)):=by
 refine a0c.walk w1 c6u rfl fun F=>?_
 have el:(((v.map fun l=>str (sb l)).length:Nat):Int)=(v.length:Int):=by rw [d9X]
 refine goI dr0 el d9N d9N d9N d9N d9N d9N ?_;refine OkS.loop (α:=Nat × Nat) (fun p=>⟨[(0,.clo (.func 82) [] []),(8,txD b v),(9,i64 (v.length:Int)),(10,i64 (p.1:Int))],[],p.2⟩) (fun p=>v.length - p.1)
  (fun p=>p.1<=v.length/\∀ (j:Nat) (l:List UInt8),j<p.1->v[j]? = some l->chk l=0) (0,_) ⟨e0y _,fun j r hj=>d9R hj (e1i j)⟩ wkI ?_
 rintro ⟨i,m⟩ F ⟨hi,ha⟩;dsimp only at hi ha ⊢;rcases e0j i v.length with h2|h2
 ·have e1:=ltT h2
  have wi:=wiI (i:=i) (by omega);obtain ⟨l,hl2⟩:=a0J h2;have hm:(v.map fun l=>str (sb l))[i]? = some (str (sb l)):=by rw [e0l,hl2];rfl
  have c:=a8e l (hf l (d9V hl2));rcases Nat.decEq (chk l) 0 with h3|h3
  ·have e2:=b1R h3
   rw [b1L ha hl2 h3];refine goI dr0 (ff3 e1 e2 kN) hm c d9N d9N d9N d9N ?_;exact a0a rfl IsPure.out
  ·have e2:=b2s h3
   refine goI dr0 (ff4 e1 e2 wi kN) hm c d9N d9N d9N d9N ?_;exact ⟨(i+1,_),⟨h2,a2F hl2 ha h3⟩,by dsimp only;omega,wkI⟩
 ·have e1:=ltF h2
  have:i=v.length:=by omega
  subst this;rw [a8q ha];refine goI dr0 e1 d9N d9N d9N d9N d9N d9N ?_;exact a0a rfl IsPure.out
abbrev c2N:Dr:=[(1,[0,1,2,3,4],[5,6,7])]
open Go.Proofs Go.RowKit
set_option maxRecDepth 20000
set_option maxHeartbeats 4000000
structure SpT where
 lo:List UInt8
 hi:List UInt8
def SpT.D (s:SpT):D:=.agg [str (sb s.lo),str (sb s.hi)]
instance  (s:SpT):CellsPure s.D:=by unfold SpT.D;exact d9O
instance  (s:SpT):IsPure s.D:=by unfold SpT.D;exact d9O
def SpT.few (s:SpT):Prop:=s.lo.length<=100000/\s.hi.length<=100000
def a4h (s:SpT):Nat:=if two (chk s.lo) (chk s.hi)≠0 then two (chk s.lo) (chk s.hi) else if a1e (a0d s.lo) (a0d s.hi)>0 then 11 else 0
def a4U (x y:GF):D:=.agg [i64 x.n.s,x.n.w,i64 (mkG (x.d:Int)).s,(mkG (x.d:Int)).w,i64 y.n.s,y.n.w,i64 (mkG (y.d:Int)).s,(mkG (y.d:Int)).w]
instance  (x y:GF):CellsPure (a4U x y):=by unfold a4U;exact d9O
instance  (x y:GF):IsPure (a4U x y):=by unfold a4U;exact d9O
theorem c6T (a b:List UInt8):b4a chk [a,b]=two (chk a) (chk b):=by
 show (if chk a≠0 then chk a else if chk b≠0 then chk b else 0)=(if chk a≠0 then chk a else chk b);split
 ·rfl
 ·split<;>omega
theorem mOf (s:SpT)(hs:s.few)(h1:chk s.lo=0)(h2:chk s.hi=0):a0b C0 213 [s.D] (a4U (a0q s.lo) (a0q s.hi)):=by
 refine a0c.walk w1 c5i rfl fun F=>?_
 have d1:=a9j hs.1 h1;have d2:=a9j hs.2 h2;unfold SpT.D a4U;unfold GF.D at d1 d2;generalize a0q s.lo=A at *;generalize a0q s.hi=B at *;have p1:IsPure A.n.w:=d9O;have p2:IsPure B.n.w:=d9O;generalize mkG (A.d:Int)=A2 at *;generalize mkG (B.d:Int)=B2 at *;refine goI c2N kB d1 d2 d9N d9N d9N d9N ?_;exact a0a rfl IsPure.out
theorem b1b (s:SpT)(hs:s.few):a0b C0 167 [s.D] (i64 (a4h s:Nat)):=by
 refine a0c.walk w1 c5K rfl fun F=>?_
 have c1:=d3b [s.lo,s.hi] true (by simp) (by simp;exact hs);rw [c6T] at c1;have hab:two (chk s.lo) (chk s.hi)=0->chk s.lo=0/\chk s.hi=0:=by unfold two;split<;>omega
 have co:=mOf s hs;have hq:a4h s=if two (chk s.lo) (chk s.hi)≠0 then two (chk s.lo) (chk s.hi) else if a1e (a0d s.lo) (a0d s.hi)>0 then 11 else 0:=rfl
 rw [hq];unfold SpT.D at *;generalize two (chk s.lo) (chk s.hi)=K at *;rcases Nat.decEq K 0 with g|g
 ·have e1:=b1R g
  rw [d9P (g:K≠0)];refine goI dr0 e1 c1 d9N d9N d9N d9N d9N ?_;exact a0a rfl IsPure.out
 have e1:=b2s g;rw [d9Q (fun h:K≠0=>h g)];obtain ⟨g1,g2⟩:=hab g;have co:=co g1 g2;have cc:=b0t (a3F g1) (a3F g2) (by decide);unfold a4U at co;unfold GF.D at cc;generalize a0q s.lo=A at *;generalize a0q s.hi=B at *;have p1:IsPure A.n.w:=d9O;have p2:IsPure B.n.w:=d9O;generalize mkG (A.d:Int)=A2 at *;generalize mkG (B.d:Int)=B2 at *
 by_cases g3:a1e (a0d s.lo) (a0d s.hi)>0
 ·have e2:decide (a1e (a0d s.lo) (a0d s.hi)>0)=true:=d9S g3
  rw [d9P g3];refine goI dr0 (ff2 e1 e2) c1 co cc d9N d9N d9N ?_;exact a0a rfl IsPure.out
 ·have e2:decide (a1e (a0d s.lo) (a0d s.hi)>0)=false:=d9U g3
  rw [d9Q g3];refine goI dr0 (ff2 e1 e2) c1 co cc d9N d9N d9N ?_;exact a0a rfl IsPure.out
abbrev spD (b:Bool)(v:List SpT):D:=.sl b 2 (v.map SpT.D)
def c3B (v:List SpT):Prop:=v.length<=100000/\∀ s∈v,s.few
theorem b0x {s:SpT}(h:a4h s=0):chk s.lo=0/\chk s.hi=0/\¬ a1e (a0d s.lo) (a0d s.hi)>0:=by
 unfold a4h at h;split at h
 ·rename_i g;exact d9R h g
 ·rename_i g
  split at h
  ·cases h
  ·rename_i g2
   have g3:two (chk s.lo) (chk s.hi)=0:=by omega
   unfold two at g3;split at g3<;>exact ⟨by omega,by omega,g2⟩
theorem d3X (v:List SpT)(b:Bool)(hl:v.length<=1000000)(hf:∀ l∈v,l.few):a0b C0 214 [.clo (.func 167) [] [],spD b v] (i64 (b4a a4h v:Nat)):=by
 refine a0c.walk w1 c5f rfl fun F=>?_
 have el:(((v.map SpT.D).length:Nat):Int)=(v.length:Int):=by rw [d9X]
 refine goI dr0 el d9N d9N d9N d9N d9N d9N ?_;refine OkS.loop (α:=Nat × Nat) (fun p=>⟨[(0,.clo (.func 167) [] []),(8,spD b v),(9,i64 (v.length:Int)),(10,i64 (p.1:Int))],[],p.2⟩) (fun p=>v.length - p.1)
  (fun p=>p.1<=v.length/\∀ (j:Nat) (l:SpT),j<p.1->v[j]? = some l->a4h l=0) (0,_) ⟨e0y _,fun j r hj=>d9R hj (e1i j)⟩ wkI ?_
 rintro ⟨i,m⟩ F ⟨hi,ha⟩;dsimp only at hi ha ⊢;rcases e0j i v.length with h2|h2
 ·have e1:=ltT h2
  have wi:=wiI (i:=i) (by omega);obtain ⟨l,hl2⟩:=a0J h2;have hm:(v.map SpT.D)[i]? = some (.agg [str (sb l.lo),str (sb l.hi)]):=by rw [e0l,hl2];rfl
  have c:=b1b l (hf l (d9V hl2));unfold SpT.D at c;rcases Nat.decEq (a4h l) 0 with h3|h3
  ·have e2:=b1R h3
   rw [b1L ha hl2 h3];refine goI dr0 (ff3 e1 e2 kN) hm c d9N d9N d9N d9N ?_;exact a0a rfl IsPure.out
  ·have e2:=b2s h3
   refine goI dr0 (ff4 e1 e2 wi kN) hm c d9N d9N d9N d9N ?_;exact ⟨(i+1,_),⟨h2,a2F hl2 ha h3⟩,by dsimp only;omega,wkI⟩
 ·have e1:=ltF h2
  have:i=v.length:=by omega
  subst this;rw [a8q ha];refine goI dr0 e1 d9N d9N d9N d9N d9N d9N ?_;exact a0a rfl IsPure.out
theorem c8a (v:List SpT)(b:Bool)(hl:v.length<=1000000)(hf:∀ l∈v,l.few):a0b C0 97 [spD b v] (i64 (b4a a4h v:Nat)):=by
 refine a0c.walk w1 c9x rfl fun F=>?_
 have el:(((v.map SpT.D).length:Nat):Int)=(v.length:Int):=by rw [d9X]
 refine goI dr0 el d9N d9N d9N d9N d9N d9N ?_;refine OkS.loop (α:=Nat × Nat) (fun p=>⟨[(6,spD b v),(7,i64 (v.length:Int)),(8,i64 (p.1:Int))],[],p.2⟩) (fun p=>v.length - p.1)
  (fun p=>p.1<=v.length/\∀ (j:Nat) (l:SpT),j<p.1->v[j]? = some l->a4h l=0) (0,_) ⟨e0y _,fun j r hj=>d9R hj (e1i j)⟩ wkI ?_
 rintro ⟨i,m⟩ F ⟨hi,ha⟩;dsimp only at hi ha ⊢;rcases e0j i v.length with h2|h2
 ·have e1:=ltT h2
  have wi:=wiI (i:=i) (by omega);obtain ⟨l,hl2⟩:=a0J h2;have hm:(v.map SpT.D)[i]? = some (.agg [str (sb l.lo),str (sb l.hi)]):=by rw [e0l,hl2];rfl
  have c:=b1b l (hf l (d9V hl2));unfold SpT.D at c;rcases Nat.decEq (a4h l) 0 with h3|h3
  ·have e2:=b1R h3
   rw [b1L ha hl2 h3];refine goI dr0 (ff3 e1 e2 kN) hm c d9N d9N d9N d9N ?_;exact a0a rfl IsPure.out
  ·have e2:=b2s h3
   refine goI dr0 (ff4 e1 e2 wi kN) hm c d9N d9N d9N d9N ?_;exact ⟨(i+1,_),⟨h2,a2F hl2 ha h3⟩,by dsimp only;omega,wkI⟩
 ·have e1:=ltF h2
  have:i=v.length:=by omega
  subst this;rw [a8q ha];refine goI dr0 e1 d9N d9N d9N d9N d9N d9N ?_;exact a0a rfl IsPure.out
set_option maxHeartbeats 8000000
instance:Inhabited SpT:=⟨⟨[],[]⟩⟩
open Go.ChangeShapes Go.WideShapes
section
variable {H:Type} {enc:TypeId × Value->H} {W:World} {fuel:Nat} {cs:List Value} {x:DataW H × List MemPlace} {t:TypeId}
theorem c7o (h:DataW.trod enc Tryz.prog W 0 (fun _=>true) true fuel 40 cs=some x):∃ s:SpT,a5Y W cs s.D.cells/\True:=by
 obtain ⟨h1,n,h2⟩:=b4Q (l:=[(38,0,1),(38,1,1)]) (m:=2) (by kernel_rfl) (by kernel_rfl) h;obtain ⟨y0,k0⟩:=h2 0 _ _ _ rfl;obtain ⟨y1,k1⟩:=h2 1 _ _ _ rfl;obtain ⟨a0,r0,_⟩:=a9s k0;obtain ⟨a1,r1,_⟩:=a9s k1;exact ⟨⟨a0,a1⟩,a9n h1 (a4D (b:=1) (c:=1) r0 r1),trivial⟩
theorem c2T (h:DataW.trod enc Tryz.prog W 0 (fun _=>true) true fuel 26 cs=some x):∃ l:List SpT,a5Y W cs [spD false l]/\(∀ a∈l,True)/\l.length<=maxLen :=
 b9R (g:=SpT.D) (ok:=fun _=>True) (e:=40) (sz:=2) (by kernel_rfl) (by kernel_rfl) (by decide) (fun _ _ _ h=>c7o h) h
end
abbrev a8K:Dr:=[(5,[0,1,2,3,4,5,6,7],[8])]
open Go.Proofs Go.RowKit
set_option maxRecDepth 20000
set_option maxHeartbeats 4000000
noncomputable def X5:EV:=⟨tbt.get,xbt.get,fbt.get,fun _=>false,fun _ _=>none,mtA,b7X⟩
theorem d8x:b0i C0 X5:=⟨tab,b4L,ftab,fun _ _ _ h=>by simp [X5] at h,by kernel_rfl,b3p,a6e⟩
theorem d1w (a b:Rat) : -1<=a1e a b/\a1e a b<=1:=by
 unfold a1e;split
 ·decide
 ·split<;>decide
namespace PickW
theorem w1:WOk C0 X5:=d8x.w
theorem pick_ok {a b:Rat}{x y:GF}{i j:Nat}(hx:FR a x i)(hy:FR b y j)(hk:i+j<300000)(sg:Int)(hs:sg=1\/sg = -1):a0b C0 116 [x.D,y.D,i64 sg] (if a1e a b*sg>=0 then x.D else y.D):=by
 refine a0c.walk w1 c6h rfl fun F=>?_
 have cc:=b0t hx hy hk;have hb:=d1w a b;have hw:IntKind.i64.wrap (a1e a b*sg)=a1e a b*sg:=by
  rcases hs with rfl|rfl
  ·exact wI (by omega) (by omega)
  ·exact wI (by omega) (by omega)
 generalize a1e a b=K at *;unfold GF.D at *;have p1:IsPure x.n.w:=d9O;have p2:IsPure y.n.w:=d9O;generalize mkG (x.d:Int)=X2 at *;generalize mkG (y.d:Int)=Y2 at *;obtain ⟨p,hp⟩:∃ p,decide (K*sg>=0)=p:=⟨_,rfl⟩
 refine sR 0 ?_;refine OkS.seq ?_;refine sZ 100 ?_;refine gwI kN ?_;refine a0j.same _ cc d9O ?_;cases p
 ·rw [d9Q (e0i hp)]
  refine gwI (ff2 hw hp) ?_;refine ifI ?_;refine skI ?_;refine sR 300 ?_;refine rtI ?_;exact a0a rfl IsPure.out
 ·rw [d9P (e0p hp)]
  refine gwI (ff2 hw hp) ?_;refine ifI ?_;refine sR 200 ?_;refine rtI ?_;exact a0a rfl IsPure.out
end PickW
def a5i (a b:List UInt8)(s:SpT):SpT:=⟨if decide (a≠[])&&decide (a1e (a0d s.lo) (a0d a)<0) then a else s.lo,if decide (b≠[])&&decide (a1e (a0d s.hi) (a0d b)>0) then b else s.hi⟩
def b3Z (a b:List UInt8)(s:SpT):Bool:=decide (a1e (a0d (a5i a b s).lo) (a0d (a5i a b s).hi)<=0)
def spF (s:SpT):D:=a4U (a0q s.lo) (a0q s.hi)
instance  (s:SpT):CellsPure (spF s):=by unfold spF;exact d9O
instance  (s:SpT):IsPure (spF s):=by unfold spF;exact d9O
theorem a9h {a b:List UInt8}{s:SpT}(ha:a2z a=0)(hb:a2z b=0)(h1:chk s.lo=0)(h2:chk s.hi=0):chk (a5i a b s).lo=0/\chk (a5i a b s).hi=0:=by
 unfold a5i;constructor
 ·dsimp only
  split
  ·rename_i h
   rw [e0f,e0Q] at h;exact a1g ha h.1
  ·exact h1
 ·dsimp only
  split
  ·rename_i h
   rw [e0f,e0Q] at h;exact a1g hb h.1
  ·exact h2
theorem a8R (a b:List UInt8)(s:SpT)(ha:a2z a=0)(hb:a2z b=0)(h1:chk s.lo=0)(h2:chk s.hi=0):a0b C0 54 [a3i a b,spF s] (.tup [spF (a5i a b s),boo (b3Z a b s)]):=by
 refine a0c.walk w1 d0r rfl fun F=>?_
 obtain ⟨z1,z2⟩:=a9h ha hb h1 h2;have cc:=b0t (a3F z1) (a3F z2) (by decide);have hB:b3Z a b s=decide (a1e (a0d (a5i a b s).lo) (a0d (a5i a b s).hi)<=0):=rfl;have hl:(a5i a b s).lo=if decide (a≠[])&&decide (a1e (a0d s.lo) (a0d a)<0) then a else s.lo:=rfl
 have hh:(a5i a b s).hi=if decide (b≠[])&&decide (a1e (a0d s.hi) (a0d b)>0) then b else s.hi:=rfl
 have c1:a≠[]->a0b C0 116 [(a0q s.lo).D,(a5C a).D,i64 1] (if a1e (a0d s.lo) (a0d a)*1>=0 then (a0q s.lo).D else (a5C a).D):=fun h=>PickW.pick_ok (a3F h1) (a7f ha h) (by decide) 1 (.inl rfl)
 have c2:b≠[]->a0b C0 116 [(a0q s.hi).D,(a5C b).D,i64 (-1)] (if a1e (a0d s.hi) (a0d b)*(-1)>=0 then (a0q s.hi).D else (a5C b).D):=fun h=>PickW.pick_ok (a3F h2) (a7f hb h) (by decide) (-1) (.inr rfl)
 unfold spF;rw [hB];generalize a5i a b s=T at *;obtain ⟨u,hu⟩:∃ p,decide (a1e (a0d s.lo) (a0d a)<0)=p:=⟨_,rfl⟩
 obtain ⟨q,hq⟩:∃ p,decide (a1e (a0d s.hi) (a0d b)>0)=p:=⟨_,rfl⟩
 obtain ⟨R,hR⟩:∃ p,decide (a1e (a0d T.lo) (a0d T.hi)<=0)=p:=⟨_,rfl⟩
 have e1:a≠[]->(if a1e (a0d s.lo) (a0d a)*1>=0 then (a0q s.lo).D else (a5C a).D)=(a0q T.lo).D:=fun h=>by
  rw [hl,d9S h,hu,e1J];unfold a5C;rw [d9Q h];cases u
  ·rw [d9P (by have:=e0i hu;omega),d9Q (by decide)]
  ·rw [d9Q (by have:=e0p hu;omega),d9P rfl]
 have e2:b≠[]->(if a1e (a0d s.hi) (a0d b)*(-1)>=0 then (a0q s.hi).D else (a5C b).D)=(a0q T.hi).D:=fun h=>by
  rw [hh,d9S h,hq,e1J];unfold a5C;rw [d9Q h];cases q
  ·rw [d9P (by have:=e0i hq;omega),d9Q (by decide)]
  ·rw [d9Q (by have:=e0p hq;omega),d9P rfl]
 have c1:a≠[]->a0b C0 116 [(a0q s.lo).D,(a5C a).D,i64 1] (a0q T.lo).D:=fun h=>e1 h ▸ c1 h
 have c2:b≠[]->a0b C0 116 [(a0q s.hi).D,(a5C b).D,i64 (-1)] (a0q T.hi).D:=fun h=>e2 h ▸ c2 h
 have i1:a=[]->a0q T.lo=a0q s.lo:=fun h=>by rw [hl,d9U (fun k=>k h)];rfl
 have i2:b=[]->a0q T.hi=a0q s.hi:=fun h=>by rw [hh,d9U (fun k=>k h)];rfl
 clear e1 e2 hl hh hu hq hB;unfold a3i c7s a4U;unfold GF.D at *;have c1:=fun h:decide (a=[])=false=>c1 (e0i h)
 have c2:=fun h:decide (b=[])=false=>c2 (e0i h)
 have i1:=fun h:decide (a=[])=true=>i1 (e0p h)
 have i2:=fun h:decide (b=[])=true=>i2 (e0p h)
 generalize decide (a=[])=p1 at *;generalize decide (b=[])=p2 at *;rw [hR];generalize a1e (a0d T.lo) (a0d T.hi)=K at *;generalize a0q T.lo=A at *;generalize a0q T.hi=B at *;generalize a0q s.lo=A1 at *;generalize a0q s.hi=B1 at *;generalize a5C a=A3 at *;generalize a5C b=B3 at *;have q1:IsPure A.n.w:=d9O;have q2:IsPure B.n.w:=d9O;have q3:IsPure A1.n.w:=d9O;have q4:IsPure B1.n.w:=d9O;have q5:IsPure A3.n.w:=d9O;have q6:IsPure B3.n.w:=d9O;have j1:p1=true->mkG (A.d:Int)=mkG (A1.d:Int):=fun h=>by rw [i1 h]
 have j2:p2=true->mkG (B.d:Int)=mkG (B1.d:Int):=fun h=>by rw [i2 h]
 generalize mkG (A.d:Int)=A2 at *;generalize mkG (B.d:Int)=B2 at *;generalize mkG (A1.d:Int)=A12 at *;generalize mkG (B1.d:Int)=B12 at *;generalize mkG (A3.d:Int)=A32 at *;generalize mkG (B3.d:Int)=B32 at *;refine sR 0 ?_;refine d9A (α:=Nat) (fun n=>⟨[(2,.optr 0 0 10 0 0),(3,.optr 1 1 8 0 0),(4,.optr 2 2 8 0 0)],[⟨2,2,118,8,[.agg [i64 0,a1R,i64 0,a1R,i64 0,a1R,i64 0,a1R]]⟩,⟨1,1,118,8,[.agg [i64 A.n.s,A.n.w,i64 A2.s,A2.w,i64 B1.n.s,B1.n.w,i64 B12.s,B12.w]]⟩,
   ⟨0,0,123,10,[.agg [boo p1,i64 A3.n.s,A3.n.w,i64 A32.s,A32.w,boo p2,i64 B3.n.s,B3.n.w,i64 B32.s,B32.w]]⟩],n⟩) (fun _=>True) ?_ ?_
 ·cases p1
  ·have c1:=c1 rfl
   refine goI a8K kB c1 d9N d9N d9N d9N d9N ?_;exact ⟨by trivial,_,trivial,wkI⟩
  ·rw [i1 rfl,j1 rfl]
   refine goI a8K kB d9N d9N d9N d9N d9N d9N ?_;exact ⟨by trivial,_,trivial,wkI⟩
 rintro n0 -;refine d9A (α:=Nat) (fun n=>⟨[(2,.optr 0 0 10 0 0),(3,.optr 1 1 8 0 0),(4,.optr 2 2 8 0 0)],[⟨2,2,118,8,[.agg [i64 0,a1R,i64 0,a1R,i64 0,a1R,i64 0,a1R]]⟩,⟨1,1,118,8,[.agg [i64 A.n.s,A.n.w,i64 A2.s,A2.w,i64 B.n.s,B.n.w,i64 B2.s,B2.w]]⟩,
   ⟨0,0,123,10,[.agg [boo p1,i64 A3.n.s,A3.n.w,i64 A32.s,A32.w,boo p2,i64 B3.n.s,B3.n.w,i64 B32.s,B32.w]]⟩],n⟩) (fun _=>True) ?_ ?_
 ·cases p2
  ·have c2:=c2 rfl
   refine goI a8K kB c2 d9N d9N d9N d9N d9N ?_;exact ⟨by trivial,_,trivial,wkI⟩
  ·rw [i2 rfl,j2 rfl]
   refine goI a8K kB d9N d9N d9N d9N d9N d9N ?_;exact ⟨by trivial,_,trivial,wkI⟩
 rintro n1 -;refine OkS.seq ?_;refine d9u w1 500 [0,1,2,3,4,5,6,7] [8] 7 [2,4,1,3,5,0] (2) (by kernel_rfl) (by kernel_rfl) ?_;refine dsI ?_;refine gvI hR ?_;refine a0B rfl rfl rfl rfl ?_;refine dsI ?_;refine And.intro (by exact sdI) ?_;refine dsI ?_;refine a0r.same _ cc d9O ?_;refine dsI ?_;refine gvI hR ?_;refine And.intro (.inl d9N) ?_;refine goI a8K hR d9N d9N d9N d9N d9N d9N ?_;exact a0a rfl IsPure.out
abbrev b6C:Dr:=[(3,[0,1,2,3,4,5,6,7,8,9,10,11,12,13],[14])]
open Go.Proofs Go.RowKit
set_option maxRecDepth 20000
set_option maxHeartbeats 4000000
def b0f (G:List (List LP))(g f:Nat)(s:SpT):SpT:=a5i (pv (a4g G g) f).1 (pv (a4g G g) f).2 s
def a4o (G:List (List LP))(g f:Nat)(s:SpT):Bool:=b3Z (pv (a4g G g) f).1 (pv (a4g G g) f).2 s
def btT (G:List (List LP))(f g:Nat)(s:SpT):List UInt8:=if g=G.length then s.lo else (b0f G g f s).lo
def btB (G:List (List LP))(f g:Nat)(s:SpT):Bool:=if g=G.length then true else a4o G g f s
theorem a8S {n:Nat}{G:List (List LP)}(hG:a6q n G){g f:Nat}(hg:g<G.length)(hf:f<n):(G.map a6H)[g]? = some (a6H (a4g G g))/\((a4g G g).map fun p=>a3i p.1 p.2)[f]? = some (a3i (pv (a4g G g) f).1 (pv (a4g G g) f).2)/\a2z (pv (a4g G g) f).1=0/\a2z (pv (a4g G g) f).2=0:=by
 have h1:=b7x hg;obtain ⟨hl,hE⟩:=hG.row _ (d9V h1);have hp:=c1t (r:=a4g G g) (k:=f) (by omega);have hE2:=hE _ (d9V hp);exact ⟨by rw [e0l,h1];rfl,by rw [e0l,hp];rfl,hE2.1,hE2.2⟩
theorem c1G (n:Nat)(G:List (List LP))(hG:a6q n G)(f g:Nat)(hf:f<n)(hg:g<=G.length)(s:SpT)(h1:chk s.lo=0)(h2:chk s.hi=0):a0b C0 123 [b2c n G,i64 (f:Int),i64 (g:Int),spF s] (.tup [(a0q (btT G f g s)).D,boo (btB G f g s)]):=by
 refine a0c.walk w1 c5a rfl fun F=>?_
 have el:(((G.map a6H).length:Nat):Int)=(G.length:Int):=by rw [d9X]
 have hT:btT G f g s=if g=G.length then s.lo else (b0f G g f s).lo:=rfl
 have hB:btB G f g s=if g=G.length then true else a4o G g f s:=rfl
 have cw:=fun (g:Nat) h h'=>a8R (pv (a4g G g) f).1 (pv (a4g G g) f).2 s h h' h1 h2
 rw [hT,hB]
 by_cases g1:g=G.length
 ·have e1:((g:Int)==(G.length:Int))=true:=e1L.2 (by omega)
  rw [d9P g1,d9P g1];unfold spF a4U GF.D;generalize a0q s.lo=A1 at *;generalize a0q s.hi=B1 at *;have q3:IsPure A1.n.w:=d9O;have q4:IsPure B1.n.w:=d9O;generalize mkG (A1.d:Int)=A12 at *;generalize mkG (B1.d:Int)=B12 at *;refine goI b6C (ff2 el e1) d9N d9N d9N d9N d9N d9N ?_;exact a0a rfl IsPure.out
 have e1:((g:Int)==(G.length:Int))=false:=e0g.2 (by omega);obtain ⟨m1,m2,l1,l2⟩:=a8S hG (show g<G.length by omega) hf;have cw:=cw g l1 l2;rw [d9Q g1,d9Q g1];rw [show a5i (pv (a4g G g) f).1 (pv (a4g G g) f).2 s=b0f G g f s from rfl,show b3Z (pv (a4g G g) f).1 (pv (a4g G g) f).2 s=a4o G g f s from rfl] at cw;generalize b0f G g f s=T at *;generalize a4o G g f s=R at *;unfold a6H at m1;unfold spF a4U at *;unfold GF.D;generalize a0q s.lo=A1 at *;generalize a0q s.hi=B1 at *;generalize a0q T.lo=A at *;generalize a0q T.hi=B at *;have q1:IsPure A.n.w:=d9O;have q2:IsPure B.n.w:=d9O;have q3:IsPure A1.n.w:=d9O;have q4:IsPure B1.n.w:=d9O;generalize mkG (A.d:Int)=A2 at *;generalize mkG (B.d:Int)=B2 at *;generalize mkG (A1.d:Int)=A12 at *;generalize mkG (B1.d:Int)=B12 at *;refine sR 0 ?_;refine OkS.seq ?_;refine sZ 100 ?_;refine gwI (ff2 el e1) ?_;refine ifI ?_;refine skI ?_;refine OkS.seq ?_;refine d9u w1 300 [0,1,2,3,4,5,6,7,8,9,10,11,12,13] [14] 13 [10,8,7,6,5,4,3,2,1,0,9,11] (1) (by kernel_rfl) (by kernel_rfl) ?_;refine dsI ?_;refine gvI kN ?_;refine a0B rfl rfl rfl rfl ?_;refine a2E (fun _ _=>rfl) sdI ⟨rfl,by omega⟩ m1 ?_
 try dsimp only [D.cells]
 refine gvI kN ?_;refine a0B rfl rfl rfl rfl ?_;refine a2E (fun _ _=>rfl) sdI ⟨rfl,by omega⟩ m2 ?_
 try dsimp only [D.cells]
 refine gvI kN ?_;refine a0B rfl rfl rfl rfl ?_;refine dsI ?_;refine And.intro (by exact sdI) ?_;refine dsI ?_;refine a0r.same _ cw d9O ?_;refine dsI ?_;refine gvI kN ?_;refine And.intro (.inl d9N) ?_;refine goI b6C kB d9N d9N d9N d9N d9N d9N ?_;exact a0a rfl IsPure.out
abbrev a3a:Dr:=[(3,[0,1,2,3,4,5,6,7,8,9,10,11,12,13],[14])]
open Go.Proofs Go.RowKit
set_option maxRecDepth 20000
set_option maxHeartbeats 4000000
def vlT (G:List (List LP))(f g:Nat)(s:SpT):SpT:=if g<G.length then b0f G g f s else s
def vlQ (G:List (List LP))(f g:Nat)(s:SpT):Bool:=decide (g<G.length) && !a4o G g f s
def vlL (G:List (List LP))(f g:Nat)(l:List UInt8):Bool:=decide (a0Q G f (a0d l)=g)
def vlO (G:List (List LP))(f g:Nat)(s:SpT):Option (List UInt8):=if vlQ G f g s then none else if vlL G f g (vlT G f g s).lo then some (vlT G f g s).lo else if vlL G f g (vlT G f g s).hi then some (vlT G f g s).hi else none
def d5K:Option (List UInt8)->GF
 | some l=>a0q l
 | none=>⟨mkG 0,1⟩
theorem b9n {n:Nat}{G:List (List LP)}(hG:a6q n G){f g:Nat}(hf:f<n){s:SpT}(h1:chk s.lo=0)(h2:chk s.hi=0):chk (vlT G f g s).lo=0/\chk (vlT G f g s).hi=0:=by
 unfold vlT;split
 ·rename_i h
  obtain ⟨-,-,l1,l2⟩:=a8S hG h hf;exact a9h l1 l2 h1 h2
 ·exact ⟨h1,h2⟩
theorem b9O (a b:Nat):(((a:Int))==(b:Int))=decide (a=b):=by
 by_cases h:a=b
 ·rw [d9S h];exact e1L.2 (by omega)
 ·rw [d9U h];exact e0g.2 (by omega)
theorem c3h (n:Nat)(G:List (List LP))(hG:a6q n G)(f g:Nat)(hf:f<n)(hg:g<=G.length)(s:SpT)(h1:chk s.lo=0)(h2:chk s.hi=0):a0b C0 124 [b2c n G,i64 (f:Int),i64 (g:Int),spF s] (.tup [(d5K (vlO G f g s)).D,boo (vlO G f g s).isSome]):=by
 refine a0c.walk w1 c5q rfl fun F=>?_
 have el:(((G.map a6H).length:Nat):Int)=(G.length:Int):=by rw [d9X]
 obtain ⟨z1,z2⟩:=b9n (g:=g) hG hf h1 h2;have d1:=c0c n G hG f hf _ _ (a3F z1);have d2:=c0c n G hG f hf _ _ (a3F z2);have hO:vlO G f g s=if vlQ G f g s then none else if vlL G f g (vlT G f g s).lo then some (vlT G f g s).lo else if vlL G f g (vlT G f g s).hi then some (vlT G f g s).hi else none:=rfl
 have hQ:vlQ G f g s=(decide (g<G.length) && !a4o G g f s):=rfl;have hT:vlT G f g s=if g<G.length then b0f G g f s else s:=rfl
 have k1:(((a0Q G f (a0d (vlT G f g s).lo):Nat):Int)==(g:Int))=vlL G f g (vlT G f g s).lo:=b9O ..;have k2:(((a0Q G f (a0d (vlT G f g s).hi):Nat):Int)==(g:Int))=vlL G f g (vlT G f g s).hi:=b9O ..;rw [hO];clear hO;generalize vlL G f g (vlT G f g s).lo=L1 at *;generalize vlL G f g (vlT G f g s).hi=L2 at *;generalize a0Q G f (a0d (vlT G f g s).lo)=K1 at *;generalize a0Q G f (a0d (vlT G f g s).hi)=K2 at *;generalize vlT G f g s=T at *;generalize vlQ G f g s=Q at *;have c0:=d8w;have qT:IsPure (a0q T.lo).n.w:=d9O;have qT2:IsPure (a0q T.hi).n.w:=d9O;have qs:IsPure (a0q s.lo).n.w:=d9O;have qs2:IsPure (a0q s.hi).n.w:=d9O;refine sR 0 ?_;refine d9A (α:=Nat) (fun n0=>⟨[(1,i64 (f:Int)),(2,i64 (g:Int)),(4,.optr 0 0 2 0 0),(7,.optr 1 1 8 0 0),(8,.optr 2 2 4 0 0)],[⟨2,2,116,4,[.agg [i64 0,a1R,i64 0,a1R]]⟩,⟨1,1,118,8,[spF T]⟩,⟨0,0,96,2,[.agg [i64 (n:Int),.sl false 1 (G.map a6H)]]⟩],n0⟩) (fun _=>Q=false) ?_ ?_
 ·rcases e0j g G.length with g1|g1
  ·have e1:decide ((g:Int)<(G.length:Int))=true:=d9S (by omega)
   obtain ⟨m1,m2,l1,l2⟩:=a8S hG g1 hf;have cw:a0b C0 54 [a3i (pv (a4g G g) f).1 (pv (a4g G g) f).2,spF s] (.tup [spF (b0f G g f s),boo (a4o G g f s)]):=a8R _ _ s l1 l2 h1 h2;rw [d9P g1] at hT;rw [d9S g1,e1J] at hQ;subst hT;unfold a6H at m1;unfold spF a4U at *;unfold GF.D at *;generalize b0f G g f s=T at *;generalize a4o G g f s=R at *;subst hQ;generalize a0q s.lo=A1 at *;generalize a0q s.hi=B1 at *;generalize mkG (A1.d:Int)=A12 at *;generalize mkG (B1.d:Int)=B12 at *;refine sZ 100 ?_;refine gwI (ff2 el e1) ?_;refine ifI ?_;refine sR 200 ?_;refine OkS.seq ?_;refine d9u w1 300 [0,1,2,3,4,5,6,7,8,9,10,11,12,13] [14] 13 [10,8,7,6,5,4,3,2,1,0,9,11] (1) (by kernel_rfl) (by kernel_rfl) ?_;refine dsI ?_;refine gvI kN ?_;refine a0B rfl rfl rfl rfl ?_;refine a2E (fun _ _=>rfl) sdI ⟨rfl,by omega⟩ m1 ?_
   try dsimp only [D.cells]
   refine gvI kN ?_;refine a0B rfl rfl rfl rfl ?_;refine a2E (fun _ _=>rfl) sdI ⟨rfl,by omega⟩ m2 ?_
   try dsimp only [D.cells]
   refine gvI kN ?_;refine a0B rfl rfl rfl rfl ?_;refine dsI ?_;refine And.intro (by exact sdI) ?_;refine dsI ?_;refine a0r.same _ cw d9O ?_;refine dsI ?_;refine gvI kN ?_;refine And.intro (.inl d9N) ?_;cases R
   ·refine goI a3a kB c0 d9N d9N d9N d9N d9N ?_
    exact a0a rfl IsPure.out
   ·refine goI a3a kB d9N d9N d9N d9N d9N d9N ?_
    exact ⟨by trivial,_,trivial,wkI⟩
  ·have e1:decide ((g:Int)<(G.length:Int))=false:=d9U (by omega)
   rw [d9Q (by omega)] at hT;rw [d9U (by omega),e2r] at hQ;subst hT;subst hQ;unfold spF a4U at *;unfold GF.D at *;generalize a0q T.lo=A1 at *;generalize a0q T.hi=B1 at *;generalize mkG (A1.d:Int)=A12 at *;generalize mkG (B1.d:Int)=B12 at *;refine goI a3a (ff2 el e1) d9N d9N d9N d9N d9N d9N ?_;exact ⟨by trivial,_,trivial,wkI⟩
 rintro n0 hq;subst hq;clear hQ hT;unfold spF a4U at *;unfold GF.D at *;refine goI a3a kB d9N d9N d9N d9N d9N d9N ?_;refine OkS.loop (α:=Nat × Nat) (fun p=>⟨[(1,i64 (f:Int)),(2,i64 (g:Int)),(4,.optr 0 0 2 0 0),(8,.optr 2 2 4 0 0),(38,.sl true 4 [(.agg [i64 (a0q T.lo).n.s,(a0q T.lo).n.w,i64 (mkG ((a0q T.lo).d:Int)).s,(mkG ((a0q T.lo).d:Int)).w]:D),(.agg [i64 (a0q T.hi).n.s,(a0q T.hi).n.w,i64 (mkG ((a0q T.hi).d:Int)).s,(mkG ((a0q T.hi).d:Int)).w]:D)]),(39,i64 2),(40,i64 (p.1:Int))],[⟨2,2,116,4,[.agg [i64 0,a1R,i64 0,a1R]]⟩,⟨0,0,96,2,[.agg [i64 (n:Int),.sl false 1 (G.map a6H)]]⟩],p.2⟩) (fun p=>2 - p.1)
  (fun p=>p.1=0\/(p.1=1/\L1=false)\/(p.1=2/\L1=false/\L2=false)) (0,_) (.inl rfl) wkI ?_
 rintro ⟨i,m⟩ F h;dsimp only at h ⊢;have e0:decide (((0:Nat):Int)<2)=true:=rfl;have e1:decide (((1:Nat):Int)<2)=true:=rfl;have e2:decide (((2:Nat):Int)<2)=false:=rfl;have hm0:([(.agg [i64 (a0q T.lo).n.s,(a0q T.lo).n.w,i64 (mkG ((a0q T.lo).d:Int)).s,(mkG ((a0q T.lo).d:Int)).w]:D),(.agg [i64 (a0q T.hi).n.s,(a0q T.hi).n.w,i64 (mkG ((a0q T.hi).d:Int)).s,(mkG ((a0q T.hi).d:Int)).w]:D)])[0]? = some (.agg [i64 (a0q T.lo).n.s,(a0q T.lo).n.w,i64 (mkG ((a0q T.lo).d:Int)).s,(mkG ((a0q T.lo).d:Int)).w]:D):=rfl;have hm1:([(.agg [i64 (a0q T.lo).n.s,(a0q T.lo).n.w,i64 (mkG ((a0q T.lo).d:Int)).s,(mkG ((a0q T.lo).d:Int)).w]:D),(.agg [i64 (a0q T.hi).n.s,(a0q T.hi).n.w,i64 (mkG ((a0q T.hi).d:Int)).s,(mkG ((a0q T.hi).d:Int)).w]:D)])[1]? = some (.agg [i64 (a0q T.hi).n.s,(a0q T.hi).n.w,i64 (mkG ((a0q T.hi).d:Int)).s,(mkG ((a0q T.hi).d:Int)).w]:D):=rfl;have v0:=wiI (i:=0) (by omega);have v1:=wiI (i:=1) (by omega);rcases h with rfl|⟨rfl,hx⟩|⟨rfl,hx,hy⟩
 ·cases L1
  ·refine goI a3a (ff3 e0 v0 k1) hm0 d1 d9N d9N d9N d9N ?_
   exact ⟨(1,_),.inr (.inl ⟨rfl,trivial⟩),by dsimp only;omega,wkI⟩
  ·refine goI a3a (ff2 e0 k1) hm0 d1 d9N d9N d9N d9N ?_
   exact a0a rfl IsPure.out
 ·subst hx
  cases L2
  ·refine goI a3a (ff3 e1 v1 k2) hm1 d2 d9N d9N d9N d9N ?_
   exact ⟨(2,_),.inr (.inr ⟨rfl,trivial,trivial⟩),by dsimp only;omega,wkI⟩
  ·refine goI a3a (ff2 e1 k2) hm1 d2 d9N d9N d9N d9N ?_
   exact a0a rfl IsPure.out
 ·subst hx
  subst hy;refine goI a3a e2 c0 d9N d9N d9N d9N d9N ?_;exact a0a rfl IsPure.out
set_option maxHeartbeats 4000000
def sv (v:List SpT)(k:Nat):SpT:=v.getD k ⟨[],[]⟩
theorem b3o {v:List SpT}{k:Nat}{s:SpT}(h:v[k]? = some s):sv v k=s:=by
 unfold sv;rw [e0q,h];rfl
def b3J (v:List SpT):D:=.sl false 8 (v.map spF)
instance  (v:List SpT):CellsPure (b3J v):=by unfold b3J;exact d9O
instance  (v:List SpT):IsPure (b3J v):=by unfold b3J;exact d9O
def b2x (G:List (List LP))(g:Nat)(v:List SpT):List (List UInt8):=(List.range v.length).map fun k=>btT G k g (sv v k)
def d3u (G:List (List LP))(g:Nat)(v:List SpT):Bool:=(List.range v.length).all fun k=>btB G k g (sv v k)
def c9o (G:List (List LP))(g:Nat)(v:List SpT):Option Nat:=(List.range v.length).find? fun k=>(vlO G k g (sv v k)).isSome
def a9m (G:List (List LP))(g:Nat)(v:List SpT):Option (List (List UInt8)):=if d3u G g v then (c9o G g v).map fun k=>(b2x G g v).set k ((vlO G k g (sv v k)).getD []) else none
def c2f:Option (List (List UInt8))->D
 | some l=>.tup [frD l,boo true]
 | none=>.tup [a1R,boo false]
theorem c5P {G:List (List LP)}{g:Nat}{v:List SpT}{k:Nat}(h:k<v.length):(b2x G g v)[k]? = some (btT G k g (sv v k)):=by
 unfold b2x;rw [e0l,e1G h];rfl
theorem b9Q {G:List (List LP)}{g:Nat}{v:List SpT}:(b2x G g v).length=v.length:=by unfold b2x;simp
theorem c6O {G:List (List LP)}{g:Nat}{v:List SpT}{k:Nat}(h:k<v.length)(hb:btB G k g (sv v k)=false):a9m G g v=none:=by
 refine d9Q fun h2=>?_
 have:=e0B.1 h2 k (List.mem_range.2 h)
 rw [hb] at this;cases this
theorem b2j {G:List (List LP)}{g:Nat}{v:List SpT}(h:∀ k,k<v.length->btB G k g (sv v k)=true):d3u G g v=true:=e0B.2 fun k hk=>h k (List.mem_range.1 hk)
theorem b7n {p:Nat->Bool}{n k:Nat}(hk:k<n)(ha:∀ j,j<k->p j=false)(hp:p k=true):(List.range n).find? p=some k:=by
 rw [List.find?_range_eq_some];exact ⟨hp,List.mem_range.2 hk,fun j hj=>by rw [ha j hj];rfl⟩
theorem d3Q {G:List (List LP)}{g:Nat}{v:List SpT}{k:Nat}{l:List UInt8}(hB:∀ j,j<v.length->btB G j g (sv v j)=true)(hk:k<v.length)(ha:∀ j,j<k->vlO G j g (sv v j)=none)(hv:vlO G k g (sv v k)=some l):a9m G g v=some ((b2x G g v).set k l):=by
 unfold a9m c9o;rw [d9P (b2j hB),b7n hk (fun j hj=>by rw [ha j hj];rfl) (by rw [hv];rfl),e2V,hv];rfl
theorem c3U {G:List (List LP)}{g:Nat}{v:List SpT}(ha:∀ j,j<v.length->vlO G j g (sv v j)=none):a9m G g v=none:=by
 unfold a9m c9o;split
 ·rw [List.find?_eq_none.2 fun k hk=>by rw [ha k (List.mem_range.1 hk)];decide];rfl
 ·rfl
theorem c8G {G:List (List LP)}{g k:Nat}{v:List SpT}{l:List UInt8}:((b2x G g v).map fun l=>(a0q l).D).set k (a0q l).D=((b2x G g v).set k l).map fun l=>(a0q l).D:=by rw [List.map_set]
theorem c6k {H:Hp}{K g T sz N:Nat}{l:List D}(hl:l.length=N)(he:Hp.get H K=some ⟨K,g,T,sz,l⟩):Fz H [] (.osl K g sz 0 N) (.sl false sz l):=by
 subst hl;refine .osl (e:=⟨K,g,T,sz,l⟩) he rfl rfl rfl (by simp) (by simp) (fun j d d' h1 h2=>?_) fun j d d' q c c' h1 h2 h3 h4=>?_
 ·rw [e0v] at h1;rw [h1] at h2;cases h2;rfl
 ·rw [e0v] at h1;rw [h1] at h2;cases h2;rw [h3] at h4;cases h4;exact Fz.refl _
instance  (o:Option (List (List UInt8))):IsPure (c2f o):=by cases o<;>unfold c2f<;>exact d9O
theorem b0V (n:Nat)(G:List (List LP))(hG:a6q n G)(g:Nat)(hg:g<=G.length)(v:List SpT)(hn:v.length=n)(hl:v.length<=100000)(hc:∀ s∈v,chk s.lo=0/\chk s.hi=0):a0b C0 58 [b2c n G,b3J v,i64 (g:Int)] (c2f (a9m G g v)):=by
 refine a0c.walk w1 c8Y rfl fun F=>?_
 have el:(((v.map spF).length:Nat):Int)=(v.length:Int):=by rw [d9X]
 unfold b3J;refine goI dr0 (ff2 el kN) d9N d9N d9N d9N d9N d9N ?_;refine OkS.loop (α:=Nat × List D × Nat) (fun p=>⟨[(1,.sl false 8 (v.map spF)),(2,i64 (g:Int)),(3,.optr 0 0 2 0 0),(8,.osl 102 5 4 0 v.length),(19,.sl false 8 (v.map spF)),(20,i64 (v.length:Int)),(21,i64 (p.1:Int))],[⟨102,5,116,4,p.2.1⟩,⟨0,0,96,2,[b2c n G]⟩],p.2.2⟩) (fun p=>v.length - p.1)
  (fun p=>p.1<=v.length/\p.2.1.length=v.length/\∀ j,j<p.1->btB G j g (sv v j)=true/\p.2.1[j]? = some (a0q (btT G j g (sv v j))).D) (0,List.replicate v.length (.agg [i64 0,a1R,i64 0,a1R]),_) ⟨e0y _,e2g,fun j hj=>d9R hj (e1i j)⟩ wkI ?_
 rintro ⟨i,L,m⟩ F ⟨hi,hL,ha⟩;dsimp only at hi hL ha ⊢;rcases e0j i v.length with h2|h2
 ·have e0:=ltT h2
  have wi:=wiI (i:=i) (by omega);obtain ⟨s,hs⟩:=a0J h2;have hm:(v.map spF)[i]? = some (spF s):=by rw [e0l,hs];rfl
  have hsc:=hc s (d9V hs);have c:=c1G n G hG i g (by omega) hg s hsc.1 hsc.2;obtain ⟨z,hz⟩:∃ z,L[i]? = some z:=a0J (by omega);obtain ⟨b,hb⟩:∃ b,btB G i g s=b:=⟨_,rfl⟩
  rw [hb] at c;have e2:=b3o hs;unfold spF a4U at hm c;cases b
  ·rw [c6O h2 (by rw [e2];exact hb)]
   refine goI dr0 (ff4 e0 hz kN e0v) hm c d9N d9N d9N d9N ?_;exact a0a rfl IsPure.out
  ·refine goI dr0 (ff5 e0 wi hz kN e0v) hm c d9N d9N d9N d9N ?_
   refine ⟨(i+1,L.set i (a0q (btT G i g s)).D,_),⟨h2,by rw [e0G];exact hL,fun j hj=>?_⟩,by dsimp only;omega,wkI⟩;dsimp only at hj ⊢;rcases Nat.decEq j i with hne|rfl
   ·rw [e1n (fun h=>hne h.symm)];exact ha j (by omega)
   ·rw [e2u (by omega),e2]
    exact ⟨hb,rfl⟩
 ·have e0:=ltF h2
  have:i=v.length:=by omega
  subst this;have hLe:L=(b2x G g v).map fun l=>(a0q l).D:=e2U fun j=>by
   rw [e0l];rcases e0j j v.length with h|h
   ·rw [c5P h,(ha j h).2];rfl
   ·rw [e0F (by omega),e0F (by rw [b9Q];exact h)];rfl
  have hB:=fun j hj=>(ha j hj).1
  refine goI dr0 (ff2 e0 el) d9N d9N d9N d9N d9N d9N ?_;refine OkS.loop (α:=Nat × Nat) (fun p=>⟨[(2,i64 (g:Int)),(3,.optr 0 0 2 0 0),(8,.osl 102 5 4 0 v.length),(40,.sl false 8 (v.map spF)),(41,i64 (v.length:Int)),(42,i64 (p.1:Int))],[⟨102,5,116,4,L⟩,⟨0,0,96,2,[b2c n G]⟩],p.2⟩) (fun p=>v.length - p.1)
   (fun p=>p.1<=v.length/\∀ j,j<p.1->vlO G j g (sv v j)=none) (0,_) ⟨e0y _,fun j hj=>d9R hj (e1i j)⟩ wkI ?_
  rintro ⟨i,m⟩ F ⟨hi,hN⟩;dsimp only at hi hN ⊢;rcases e0j i v.length with h2|h2
  ·have e0:=ltT h2
   have wi:=wiI (i:=i) (by omega);obtain ⟨s,hs⟩:=a0J h2;have hm:(v.map spF)[i]? = some (spF s):=by rw [e0l,hs];rfl
   have hsc:=hc s (d9V hs);have c:=c3h n G hG i g (by omega) hg s hsc.1 hsc.2;obtain ⟨z,hz⟩:∃ z,L[i]? = some z:=a0J (by omega);have e2:=b3o hs;unfold spF a4U at hm c;obtain ⟨o,ho⟩:∃ o,vlO G i g s=o:=⟨_,rfl⟩
   rw [ho] at c;cases o with
   | none =>
    dsimp only [Option.isSome,d5K] at c;refine goI dr0 (ff2 e0 wi) hm c d9N d9N d9N d9N ?_;refine ⟨(i+1,_),⟨h2,fun j hj=>?_⟩,by dsimp only;omega,wkI⟩;dsimp only at hj;rcases Nat.decEq j i with hne|rfl
    ·exact hN j (by omega)
    ·rw [e2];exact ho
   | some l =>
    dsimp only [Option.isSome,d5K] at c;rw [d3Q hB h2 hN (by rw [e2];exact ho)];refine goI dr0 (ff4 e0 hz kN e0v) hm c d9N d9N d9N d9N ?_;have E:(.tup [.sl false 4 (L.set i (a0q l).D),boo true]:D)=c2f (some ((b2x G g v).set i l)):=by
     rw [hLe];exact congrArg (fun l=>D.tup [.sl false 4 l,boo true]) c8G
    exact ⟨_,a6c (c6k (by rw [e0G];exact hL) rfl),(congrArg a2v E).mpr (d9O:IsPure (c2f (some ((b2x G g v).set i l)))).out,E⟩
  ·have e0:=ltF h2
   have:i=v.length:=by omega
   subst this;rw [c3U hN];refine goI dr0 e0 d9N d9N d9N d9N d9N d9N ?_;exact a0a rfl IsPure.out
def a8X (G:List (List LP))(v:List SpT)(n:Nat):List Nat:=(List.range n).filter fun g=>(a9m G g v).isSome
theorem b7P (G:List (List LP))(v:List SpT)(n:Nat):a8X G v (n+1)=a8X G v n++if (a9m G n v).isSome then [n] else []:=by
 unfold a8X;rw [List.range_succ,List.filter_append];simp only [List.filter_cons,List.filter_nil]
def a9A (G:List (List LP))(v:List SpT):List Nat:=a8X G v (G.length+1)
def a2V (n:Nat)(v:List SpT):Nat:=if v.length=n then b4a a4h v else 2
def c5I (n:Nat)(v:List SpT):D:=if a2V n v=0 then b3J v else a1R
instance  (n:Nat)(v:List SpT):IsPure (c5I n v):=by unfold c5I;split<;>exact d9O
theorem c6C {n:Nat}{v:List SpT}(h:a2V n v=0):v.length=n/\∀ s∈v,chk s.lo=0/\chk s.hi=0/\¬ a1e (a0d s.lo) (a0d s.hi)>0:=by
 unfold a2V at h;split at h
 ·rename_i h1
  exact ⟨h1,fun s hs=>b0x (b2N h s hs)⟩
 ·cases h
theorem a9O (n:Nat)(G:List (List LP))(hG:a6q n G)(v:List SpT)(hn:v.length=n)(hl:v.length<=100000)(hc:∀ s∈v,chk s.lo=0/\chk s.hi=0):a0b C0 42 [b2c n G,b3J v] (.sl false 1 (a0S (a9A G v))):=by
 refine a0c.walk w1 c9z rfl fun F=>?_
 have el:(((G.map a6H).length:Nat):Int)=(G.length:Int):=by rw [d9X]
 have hlen:=hG.len;have ew:IntKind.i64.wrap ((G.length:Int)+1)=((G.length+1:Nat):Int):=wiI (by omega);have cw:=fun g hg=>b0V n G hG g hg v hn hl hc
 have pV:IsPure (b3J v):=d9O;generalize b3J v=V at *;refine goI dr0 (ff2 el ew) d9N d9N d9N d9N d9N d9N ?_;refine OkS.loop (α:=Nat × List D × Nat × Nat) (fun p=>⟨[(1,V),(2,.optr 0 0 2 0 0),(5,a6l 703 p.2.2.1 1 p.2.1),(12,i64 ((G.length+1:Nat):Int)),(13,i64 (p.1:Int))],a5b 703 p.2.2.1 3 1 p.2.1++[⟨0,0,96,2,[b2c n G]⟩],p.2.2.2⟩) (fun p=>G.length+1 - p.1)
  (fun p=>p.1<=G.length+1/\p.2.1=a0S (a8X G v p.1)) (0,[],0,_) ⟨e0y _,rfl⟩ wkI ?_
 rintro ⟨i,L,g2,m⟩ F ⟨hi,hL⟩;dsimp only at hi hL ⊢;rcases e0j i (G.length+1) with h2|h2
 rotate_left
 ·have e1:=ltF h2
  have:i=G.length+1:=by omega
  subst this;refine goI dr0 e1 d9N d9N d9N d9N d9N d9N ?_;subst hL;exact ⟨_,a4x b1X rfl,IsPure.out,rfl⟩
 have e1:=ltT h2;have wi:=wiI (i:=i) (by omega);have c:=cw i (by omega);obtain ⟨o,ho⟩:∃ o,a9m G i v=o:=⟨_,rfl⟩
 have hsn:a0S (a8X G v (i+1))=L++if (a9m G i v).isSome then [i64 (i:Int)] else []:=by
  rw [hL,b7P];unfold a0S;rw [e1w];split<;>rfl
 have hLl:L.length<=i:=by
  rw [hL];unfold a0S a8X;rw [d9X];exact e0A (List.length_filter_le _ _) (by rw [e2w];exact d9Z _)
 rw [ho] at c hsn;clear hL;cases o with
 | none =>
  dsimp only [c2f] at c;rw [d9Q (by decide),e0W] at hsn;rcases L with _|⟨x,L⟩
  all_goals
   dsimp only [a2o,a2l,a1c,a1d,List.nil_append]
  ·refine goI dr0 (ff3 e1 wi kN) c d9N d9N d9N d9N d9N ?_
   exact ⟨(i+1,[],g2,_),⟨h2,hsn.symm⟩,by dsimp only;omega,wkI⟩
  ·refine goI dr0 (ff3 e1 wi kN) c d9N d9N d9N d9N d9N ?_
   exact ⟨(i+1,x::L,g2,_),⟨h2,hsn.symm⟩,by dsimp only;omega,wkI⟩
 | some l =>
  dsimp only [c2f] at c;rw [show (if (some l).isSome=true then [i64 (i:Int)] else [])=[i64 (i:Int)] from rfl] at hsn;rcases L with _|⟨x,L⟩
  all_goals
   (try simp only [d9Y] at hLl)
   dsimp only [a2o,a2l,a1c,a1d,List.nil_append]
  ·refine goI dr0 (ff3 e1 wi kN) c d9N d9N d9N d9N d9N ?_
   exact ⟨(i+1,[i64 (i:Int)],_,_),⟨h2,hsn.symm⟩,by dsimp only;omega,wkI⟩
  ·have htk:List.take (L.length+1) (x::L)=x::L:=by simp
   refine goI dr0 (ff4 e1 wi htk kN) c d9N d9N d9N d9N d9N ?_;exact ⟨(i+1,x::L++[i64 (i:Int)],_,_),⟨h2,hsn.symm⟩,by dsimp only;omega,by (dsimp only;rw [a2i];exact wkI)⟩
abbrev a5I:Dr:=[(10,[0,1,2,3,4,5,6,7,8],[9,10])]
open Go.Proofs Go.RowKit
set_option maxRecDepth 20000
set_option maxHeartbeats 4000000
theorem b7D {v:List SpT}{i:Nat}{s:SpT}(h:v[i]? = some s):(v.take (i+1)).map spF=(v.take i).map spF++[spF s]:=by
 rw [e1F,h,e1w];rfl
theorem b7F (n:Nat)(G:List (List LP))(hG:a6q n G)(b:Bool)(v:List SpT)(hl:v.length<=100000)(hf:∀ l∈v,l.few):a0b C0 100 [b2c n G,spD b v] (.tup [c5I n v,i64 (a2V n v:Nat)]):=by
 refine a0c.walk w1 c6j rfl fun F=>?_
 have el:(((v.map SpT.D).length:Nat):Int)=(v.length:Int):=by rw [d9X]
 have hn:=hG.num;have c1:=c8a v b (by omega) hf;unfold spD at *;rcases Nat.decEq v.length n with h1|h1
 ·have e0:=d5i h1
  have hv:a2V n v=2:=d9Q h1;have hd:c5I n v=a1R:=d9Q (by rw [hv];decide);rw [hv,hd];refine goI a5I (ff2 el e0) d9N d9N d9N d9N d9N d9N ?_;exact a0a rfl IsPure.out
 have e0:=d4c h1;have hv:a2V n v=b4a a4h v:=d9P h1;rcases Nat.decEq (b4a a4h v) 0 with h2|h2
 ·have e1:=b1R h2
  have hd:c5I n v=a1R:=d9Q (by rw [hv];exact h2);rw [hv,hd];refine goI a5I (ff3 el e0 e1) c1 d9N d9N d9N d9N d9N ?_;exact a0a rfl IsPure.out
 have e1:=b2s h2;have hd:c5I n v=b3J v:=d9P (by rw [hv];exact h2);have hz:=fun s hs=>b0x (b2N h2 s hs)
 rw [hv,hd];refine goI a5I (ff3 el e0 e1) c1 d9N d9N d9N d9N d9N ?_;refine OkS.loop (α:=Nat × Nat × Nat) (fun p=>⟨[(7,a6l 1009 p.2.1 8 ((v.take p.1).map spF)),(20,.sl b 2 (v.map SpT.D)),(21,i64 (v.length:Int)),(22,i64 (p.1:Int))],a5b 1009 p.2.1 118 8 ((v.take p.1).map spF),p.2.2⟩) (fun p=>v.length - p.1)
  (fun p=>p.1<=v.length) (0,0,_) (e0y _) wkI ?_
 rintro ⟨i,g2,m⟩ F hi;dsimp only at hi ⊢;rcases e0j i v.length with h3|h3
 rotate_left
 ·have e2:=ltF h3
  have:i=v.length:=by omega
  subst this;rw [e1S];refine goI a5I e2 d9N d9N d9N d9N d9N d9N ?_;exact ⟨_,a6c (a4x (by rw [<- e0W (a5b ..)];exact b1X) rfl),IsPure.out,by rw [h2];rfl⟩
 have e2:=ltT h3;have wi:=wiI (i:=i) (by omega);obtain ⟨s,hs⟩:=a0J h3;have hm:(v.map SpT.D)[i]? = some (.agg [str (sb s.lo),str (sb s.hi)]):=by rw [e0l,hs];rfl
 have hmem:=d9V hs;have hfs:=hf s hmem;have hzs:=hz s hmem;have k1:=a9j hfs.1 hzs.1;have k2:=a9j hfs.2 hzs.2.1;have hsn:(v.take (i+1)).map spF=(v.take i).map spF++[.agg [i64 (a0q s.lo).n.s,(a0q s.lo).n.w,i64 (mkG ((a0q s.lo).d:Int)).s,(mkG ((a0q s.lo).d:Int)).w,i64 (a0q s.hi).n.s,(a0q s.hi).n.w,i64 (mkG ((a0q s.hi).d:Int)).s,(mkG ((a0q s.hi).d:Int)).w]]:=b7D hs;have hLl:((v.take i).map spF).length<=i:=by rw [d9X,e0n];omega
 unfold GF.D at k1 k2;generalize (v.take i).map spF=L at *;rcases L with _|⟨x,L⟩
 all_goals
  (try simp only [d9Y] at hLl)
  dsimp only [a2o,a2l,a1c,a1d,List.nil_append]
 ·refine goI a5I (ff3 e2 wi kN) hm k1 k2 d9N d9N d9N ?_
  exact ⟨(i+1,_,_),h3,by dsimp only;omega,by (dsimp only;rw [hsn];exact wkI)⟩
 ·have htk:List.take (L.length+1) (x::L)=x::L:=by simp
  refine goI a5I (ff4 e2 wi htk kN) hm k1 k2 d9N d9N d9N ?_;exact ⟨(i+1,_,_),h3,by dsimp only;omega,by (dsimp only;rw [hsn,a2i];exact wkI)⟩
def a4d (s:a0Y)(v:List SpT):Nat:=if a0l s=0 then a2V s.fs.length v else a0l s
def c2c (e:Nat)(v:List SpT):D:=if e=0 then b3J v else a1R
instance  (e:Nat)(v:List SpT):IsPure (c2c e v):=by unfold c2c;split<;>exact d9O
theorem a3s {s:a0Y}{v:List SpT}(h:a4d s v=0):a0l s=0/\v.length=s.fs.length/\∀ x∈v,chk x.lo=0/\chk x.hi=0/\¬ a1e (a0d x.lo) (a0d x.hi)>0:=by
 unfold a4d at h;split at h
 ·rename_i h1
  exact ⟨h1,c6C h⟩
 ·rename_i h1;exact d9R h h1
theorem a5z (s:a0Y)(hs:s.few)(b:Bool)(v:List SpT)(hf:c3B v):a0b C0 41 [s.D,spD b v] (.tup [a6y s,c2c (a4d s v) v,i64 (a4d s v:Nat)]):=by
 refine a0c.walk w1 d1D rfl fun F=>?_
 have c1:=c6F s hs;obtain ⟨q,hq⟩:∃ q,a4d s v=q:=⟨_,rfl⟩
 rw [hq];unfold a0Y.D at c1 ⊢;rcases Nat.decEq (a0l s) 0 with h0|h0
 ·have e0:=b1R h0
  have hd:a6y s=.agg [i64 0,a1R]:=d9Q h0;have hv:q=a0l s:=by rw [<- hq];exact d9Q h0
  have hd2:c2c q v=a1R:=d9Q (by rw [hv];exact h0);rw [hd2,hd];rw [hd] at c1;refine goI dr0 e0 c1 d9N d9N d9N d9N d9N ?_;exact a0a (by rw [hv]) IsPure.out
 ·have e0:=b2s h0
  have hd:a6y s=b2c s.fs.length (a0e s):=d9P h0;have hv:a2V s.fs.length v=q:=by rw [<- hq];exact (d9P h0).symm
  have c2:=b7F s.fs.length (a0e s) (a5h (a0H h0)) b v hf.1 hf.2;have hd2:c2c q v=c5I s.fs.length v:=by unfold c2c c5I;rw [hv]
  rw [hd2,hd];rw [hd] at c1;rw [hv] at c2;refine goI dr0 e0 c1 c2 d9N d9N d9N d9N ?_;exact a0a rfl IsPure.out
def b8a (s:a0Y)(v:List SpT):List Nat:=if a4d s v=0 then a9A (a0e s) v else []
theorem b8t (s:a0Y)(hs:s.few)(b:Bool)(v:List SpT)(hf:c3B v):a0b C0 10 [s.D,spD b v] (.tup [.sl false 1 (a0S (b8a s v)),i64 (a4d s v:Nat)]):=by
 refine a0c.walk w1 d1d rfl fun F=>?_
 have c1:=a5z s hs b v hf;have hok:=@a3s s v;have hr:b8a s v=if a4d s v=0 then a9A (a0e s) v else []:=rfl
 rw [hr];obtain ⟨q,hq⟩:∃ q,a4d s v=q:=⟨_,rfl⟩
 rw [hq] at c1 hok ⊢;unfold a0Y.D at c1 ⊢;rcases Nat.decEq q 0 with h0|h0
 ·have e0:=b1R h0
  obtain ⟨x,y,ho⟩:=a6K s;rw [ho] at c1;rw [d9Q h0];refine goI dr0 e0 c1 d9N d9N d9N d9N d9N ?_;exact ⟨_,a6c (.nil 1),IsPure.out,rfl⟩
 have e0:=b2s h0;obtain ⟨k0,k2,k3⟩:=hok h0;have hd:a6y s=b2c s.fs.length (a0e s):=d9P k0;have hd2:c2c q v=b3J v:=d9P h0;rw [hd,hd2] at c1;have c2:=a9O s.fs.length (a0e s) (a5h (a0H k0)) v k2 hf.1 fun x hx=>⟨(k3 x hx).1,(k3 x hx).2.1⟩
 rw [d9P h0];refine goI dr0 e0 c1 c2 d9N d9N d9N d9N ?_;exact a0a (by rw [h0];rfl) IsPure.out
set_option maxHeartbeats 8000000
theorem b0W {l:List UInt8}(h:chk l=0):rR (a0d l)=str (sb l):=by unfold rR;rw [(a2y h).2.2.1]
theorem c2H {s:a0Y}(h:a7R s=true):G40 s:=fun g hg=>by
 simp only [a7R,e0f,e0Q,e0B] at h
 have:=h.2 g hg
 simp only [a7H,e0f,e0Q] at this;exact ⟨a9q this.1.2,a9q this.2⟩
def t12 (l:List UInt8):Bool:=decide (l.length<=12)
def f12 (f:a1N):Bool:=t12 f.tol&&t12 f.step
set_option maxHeartbeats 4000000
theorem b3B (n:Nat):a1n (Lib.decDigits n)=true:=by
 obtain ⟨h1,h2,h3⟩:=a1D n;rcases e0N n with h|h
 ·have e:Lib.decDigits n=[48]:=by
   have:=b5K 0
   rw [h];exact e0p (this.trans (d9S rfl))
  rw [e];rfl
 ·obtain ⟨c,l,e,hc⟩:=c2l (Nat.pos_iff_ne_zero.1 h)
  rw [e] at h1 ⊢;unfold a1n c5d;rw [h1];simp [hc]
theorem c0V {n:Nat}{l:List UInt8}(h:n≠dv l):decide (Lib.decDigits n=l)=false:=d9U fun e=>h (by rw [<- e,(a1D n).2.1])
theorem c8n {r:Rat}(h:d2B r=false):chk (txt r)=0:=by
 have hs:a0N (txt r)=Lib.decDigits r.num.natAbs:=by unfold a0N;rw [a9W,(a6J _).2]
 have hd:=a7y r;have hh:=b1A r;unfold d2B at h;simp only [e2b,e2k] at h;have hb:a4k (txt r)=false:=by
  rw [a5E,hs,b1M,hh,b3B];have e1:(decide (r.num<0)&&decide (Lib.decDigits r.num.natAbs=[48]))=false:=by
   by_cases g:r.num<0
   ·rw [c0V (show r.num.natAbs≠dv [48] by show r.num.natAbs≠0;omega),Bool.and_false]
   ·rw [d9U g,e2r]
  rw [e1]
  by_cases g:r.den=1
  ·rw [d9S g];rfl
  ·rw [hd,d9Q g,b3B,c0V (show r.den≠dv [48] from r.den_nz),c0V (show r.den≠dv [49] from g),d9U g];rfl
 unfold chk;rw [hb,d9Q (by decide),hs]
 by_cases g:r.den=1
 ·rw [hd,d9P g,hh,d9S g,d9Q (by simp;omega),d9Q (fun k=>d9R k.1 (by decide))]
 ·rw [hd,d9Q g,(a1D _).2.1,(a1D _).2.1,d9Q (by omega),d9Q (fun k=>k.2 r.reduced)]
theorem c0v (r:Rat):a0d (txt r)=r:=by
 unfold a0d b6z;rw [a9W,b9h,b1A,a7y]
 by_cases g:r.den=1
 ·rw [d9S g]
  show mkRat r.num 1=r;rw [<- g];exact Rat.mkRat_self r
 ·rw [d9U g,d9Q g,(a1D _).2.1]
  exact Rat.mkRat_self r
theorem c3p:a0d [49,47,50]=a5O:=by kernel_rfl
theorem c8z:rR a5O=str ⟨#[49,47,50]⟩:=by
 rw [<- c3p,b0W (by kernel_rfl)];all_goals rfl
theorem c0g {a b:Rat}:a1e a b<0↔a<b:=by
 unfold a1e;split
 ·rename_i h;exact ⟨fun _=>h,fun _=>by decide⟩
 ·rename_i h
  split
  ·exact ⟨fun k=>d9R k (by decide),fun k=>d9R k h⟩
  ·exact ⟨fun k=>d9R k (by decide),fun k=>d9R k h⟩
theorem b4O {a b:Rat}:a1e a b>0↔b<a:=by
 unfold a1e;split
 ·rename_i h;exact ⟨fun k=>d9R k (by decide),fun k=>by grind⟩
 ·split
  ·rename_i h;exact ⟨fun _=>h,fun _=>by decide⟩
  ·rename_i h;exact ⟨fun k=>d9R k (by decide),fun k=>d9R k h⟩
theorem a7j {a b:Rat}:¬ a1e a b>0↔a<=b:=by rw [b4O];exact Rat.not_lt
theorem b0M {a b:List UInt8}{x:Rat}:a2h a b x=true↔(a≠[]->a0d a<=x)/\(b≠[]->x<=a0d b):=by
 unfold a2h;simp only [e0f,e2E,e0Q];have h1:a1e x (a0d a)>=0↔a0d a<=x:=by rw [<- Rat.not_lt,<- c0g];omega
 have h2:a1e x (a0d b)<=0↔x<=a0d b:=by rw [<- a7j];omega
 rw [h1,h2];constructor
 ·rintro ⟨k1,k2⟩
  exact ⟨fun h=>k1.resolve_left h,fun h=>k2.resolve_left h⟩
 ·rintro ⟨k1,k2⟩
  exact ⟨(Decidable.em (a=[])).imp id k1,(Decidable.em (b=[])).imp id k2⟩
def inS (s:SpT)(x:Rat):Prop:=a0d s.lo<=x/\x<=a0d s.hi
theorem c4x (a b:List UInt8)(s:SpT):((a5i a b s).lo=s.lo/\(a≠[]->a0d a<=a0d s.lo))\/((a5i a b s).lo=a/\a≠[]/\a0d s.lo<a0d a):=by
 unfold a5i;dsimp only;split
 ·rename_i h
  rw [e0f,e0Q,e0Q,c0g] at h;exact .inr ⟨rfl,h.1,h.2⟩
 ·rename_i h
  rw [e0f,e0Q,e0Q,c0g] at h;exact .inl ⟨rfl,fun h1=>Rat.not_lt.1 fun h2=>h ⟨h1,h2⟩⟩
theorem c4p (a b:List UInt8)(s:SpT):((a5i a b s).hi=s.hi/\(b≠[]->a0d s.hi<=a0d b))\/((a5i a b s).hi=b/\b≠[]/\a0d b<a0d s.hi):=by
 unfold a5i;dsimp only;split
 ·rename_i h
  rw [e0f,e0Q,e0Q,b4O] at h;exact .inr ⟨rfl,h.1,h.2⟩
 ·rename_i h
  rw [e0f,e0Q,e0Q,b4O] at h;exact .inl ⟨rfl,fun h1=>Rat.not_lt.1 fun h2=>h ⟨h1,h2⟩⟩
theorem c7U {a b:List UInt8}{s:SpT}:b3Z a b s=true↔a0d (a5i a b s).lo<=a0d (a5i a b s).hi:=by
 unfold b3Z;rw [e0Q,<- a7j];omega
theorem a3k {a b:List UInt8}{s:SpT}{x:Rat}:inS (a5i a b s) x↔inS s x/\a2h a b x=true:=by
 rw [b0M];unfold inS;rcases c4x a b s with ⟨h1,h2⟩|⟨h1,h2,h3⟩<;>rcases c4p a b s with ⟨k1,k2⟩|⟨k1,k2,k3⟩<;>rw [h1,k1]
 ·exact ⟨fun h=>⟨h,fun q=>Rat.le_trans (h2 q) h.1,fun q=>Rat.le_trans h.2 (k2 q)⟩,fun h=>h.1⟩
 ·exact ⟨fun h=>⟨⟨h.1,Rat.le_trans h.2 (Rat.le_of_lt k3)⟩,fun q=>Rat.le_trans (h2 q) h.1,fun q=>h.2⟩,fun h=>⟨h.1.1,h.2.2 k2⟩⟩
 ·exact ⟨fun h=>⟨⟨Rat.le_trans (Rat.le_of_lt h3) h.1,h.2⟩,fun q=>h.1,fun q=>Rat.le_trans h.2 (k2 q)⟩,fun h=>⟨h.2.1 h2,h.1.2⟩⟩
 ·exact ⟨fun h=>⟨⟨Rat.le_trans (Rat.le_of_lt h3) h.1,Rat.le_trans h.2 (Rat.le_of_lt k3)⟩,fun q=>h.1,fun q=>h.2⟩,fun h=>⟨h.2.1 h2,h.2.2 k2⟩⟩
theorem b7A {a b:List UInt8}{x y z:Rat}(hx:a2h a b x=true)(hz:a2h a b z=true)(h1:x<=y)(h2:y<=z):a2h a b y=true:=by
 rw [b0M] at *;exact ⟨fun h=>Rat.le_trans (hx.1 h) h1,fun h=>Rat.le_trans h2 (hz.2 h)⟩
theorem a3z {a b:List UInt8}{s:SpT}(h:b3Z a b s=true):inS (a5i a b s) (a0d (a5i a b s).lo)/\inS (a5i a b s) (a0d (a5i a b s).hi):=by
 rw [c7U] at h;exact ⟨⟨Rat.le_refl,h⟩,⟨h,Rat.le_refl⟩⟩
theorem a2M {s:a0Y}(h:a0l s=0){g k:Nat}(hg:g<s.gs.length)(hk:k<s.fs.length)(x:Rat):a0Q (a0e s) k x<=g↔d5n (a0e s) g k x=true:=by
 have hs:=a0H h;rw [a4a hs hk,b4k h hg hk,c8g hs hg hk]
structure b2S (s:a0Y)(k:Nat)(x:SpT)(M:List Rat):Prop where
 lo:a0d x.lo∈M
 hi:a0d x.hi∈M
 lim1:∀ g,g<s.gs.length->(pv (a4g (a0e s) g) k).1≠[]->inS x (a0d (pv (a4g (a0e s) g) k).1)->a0d (pv (a4g (a0e s) g) k).1∈M
 lim2:∀ g,g<s.gs.length->(pv (a4g (a0e s) g) k).2≠[]->inS x (a0d (pv (a4g (a0e s) g) k).2)->a0d (pv (a4g (a0e s) g) k).2∈M
 sub:∀ m∈M,inS x m
theorem b1j {s:a0Y}{k g:Nat}{x:SpT}{M:List Rat}(hM:b2S s k x M)(hg:g<s.gs.length)(h:a4o (a0e s) g k x=true):a0d (b0f (a0e s) g k x).lo∈M:=by
 have h2:=(a3k.1 (a3z h).1).1;rcases c4x (pv (a4g (a0e s) g) k).1 (pv (a4g (a0e s) g) k).2 x with ⟨h1,-⟩|⟨h1,h3,-⟩
 ·unfold b0f;rw [h1];exact hM.lo
 ·unfold b0f;rw [h1] at h2 ⊢;exact hM.lim1 g hg h3 h2
theorem b7B {s:a0Y}{k g:Nat}{x:SpT}{M:List Rat}(hM:b2S s k x M)(hg:g<s.gs.length)(h:a4o (a0e s) g k x=true):a0d (b0f (a0e s) g k x).hi∈M:=by
 have h2:=(a3k.1 (a3z h).2).1;rcases c4p (pv (a4g (a0e s) g) k).1 (pv (a4g (a0e s) g) k).2 x with ⟨h1,-⟩|⟨h1,h3,-⟩
 ·unfold b0f;rw [h1];exact hM.hi
 ·unfold b0f;rw [h1] at h2 ⊢;exact hM.lim2 g hg h3 h2
theorem c5R {s:a0Y}(h:a0l s=0){g k:Nat}(hg:g<=s.gs.length)(hk:k<s.fs.length){x:SpT}{M:List Rat}(hM:b2S s k x M):btB (a0e s) k g x=true↔∃ m∈M,a0Q (a0e s) k m<=g:=by
 unfold btB;rw [a1h]
 by_cases h1:g=s.gs.length
 ·rw [d9P h1]
  exact ⟨fun _=>⟨_,hM.lo,by rw [h1,<- a1h];exact a4f ..⟩,fun _=>rfl⟩
 rw [d9Q h1];have hg':g<s.gs.length:=by omega
 constructor
 ·intro h2
  exact ⟨_,b1j hM hg' h2,(a2M h hg' hk _).2 (a3k.1 (a3z h2).1).2⟩
 ·rintro ⟨m,hm,hle⟩
  have h3:=a3k.2 ⟨hM.sub m hm,(a2M h hg' hk m).1 hle⟩;exact c7U.2 (Rat.le_trans h3.1 h3.2)
theorem b8q {s:a0Y}(h:a0l s=0){g k:Nat}(hg:g<=s.gs.length)(hk:k<s.fs.length){x y z:Rat}(hx:a0Q (a0e s) k x<g)(hz:a0Q (a0e s) k z<g)(h1:x<=y)(h2:y<=z):a0Q (a0e s) k y<g:=by
 have k1:=(a2M h (show g - 1<s.gs.length by omega) hk x).1 (by omega);have k2:=(a2M h (show g - 1<s.gs.length by omega) hk z).1 (by omega);have k3:=(a2M h (show g - 1<s.gs.length by omega) hk y).2 (b7A k1 k2 h1 h2);omega
theorem c6e {s:a0Y}(h:a0l s=0){g k:Nat}(hg:g<=s.gs.length)(hk:k<s.fs.length){x:SpT}{M:List Rat}(hM:b2S s k x M):(vlO (a0e s) k g x).isSome=true↔∃ m∈M,a0Q (a0e s) k m=g:=by
 have hv:vlO (a0e s) k g x=if vlQ (a0e s) k g x then none else if vlL (a0e s) k g (vlT (a0e s) k g x).lo then some (vlT (a0e s) k g x).lo else if vlL (a0e s) k g (vlT (a0e s) k g x).hi then some (vlT (a0e s) k g x).hi else none:=rfl
 have hQ:vlQ (a0e s) k g x=(decide (g<s.gs.length) && !a4o (a0e s) g k x):=by unfold vlQ;rw [a1h]
 have hT:vlT (a0e s) k g x=if g<s.gs.length then b0f (a0e s) g k x else x:=by unfold vlT;rw [a1h]
 have hl:vlQ (a0e s) k g x=false->a0d (vlT (a0e s) k g x).lo∈M/\a0d (vlT (a0e s) k g x).hi∈M/\a0Q (a0e s) k (a0d (vlT (a0e s) k g x).lo)<=g/\a0Q (a0e s) k (a0d (vlT (a0e s) k g x).hi)<=g:=fun hq=>by
  rw [hT]
  by_cases h1:g<s.gs.length
  ·rw [d9P h1]
   rw [hQ,d9S h1,e1J,e0c] at hq;exact ⟨b1j hM h1 hq,b7B hM h1 hq,(a2M h h1 hk _).2 (a3k.1 (a3z hq).1).2,(a2M h h1 hk _).2 (a3k.1 (a3z hq).2).2⟩
  ·rw [d9Q h1]
   have:g=(a0e s).length:=by rw [a1h];omega
   rw [this];exact ⟨hM.lo,hM.hi,a4f ..,a4f ..⟩
 rw [hv];constructor
 ·intro h1
  split at h1
  ·cases h1
  rename_i h2;obtain ⟨l1,l2,-,-⟩:=hl (Bool.eq_false_iff.2 h2);split at h1
  ·rename_i h3
   exact ⟨_,l1,e0p h3⟩
  split at h1
  ·rename_i h3
   exact ⟨_,l2,e0p h3⟩
  ·cases h1
 ·rintro ⟨m,hm,he⟩
  have hms:=hM.sub m hm;have hq:vlQ (a0e s) k g x=false:=by
   rw [hQ]
   by_cases h1:g<s.gs.length
   ·have h3:=a3k.2 ⟨hms,(a2M h h1 hk m).1 (by omega)⟩
    rw [show a4o (a0e s) g k x=true from c7U.2 (Rat.le_trans h3.1 h3.2)];simp
   ·rw [d9U h1];rfl
  obtain ⟨-,-,g1,g2⟩:=hl hq;rw [d9Q (by rw [hq];decide)];have hin:inS (vlT (a0e s) k g x) m:=by
   rw [hT]
   by_cases h1:g<s.gs.length
   ·rw [d9P h1];exact a3k.2 ⟨hms,(a2M h h1 hk m).1 (by omega)⟩
   ·rw [d9Q h1];exact hms
  split
  ·rfl
  rename_i h3;split
  ·rfl
  rename_i h4;have h3:=e0i (Bool.eq_false_iff.2 h3);have h4:=e0i (Bool.eq_false_iff.2 h4)
  have:=b8q h hg hk (show _<g by omega) (show _<g by omega) hin.1 hin.2
  omega
def inT (a:List UInt8)(x:SpT):Bool:=!decide (a=[])&&(decide (a1e (a0d x.lo) (a0d a)<=0)&&decide (a1e (a0d a) (a0d x.hi)<=0))
def a2W (gs:List a0M)(k:Nat)(x:SpT):Nat->List (List UInt8)
 | 0=>[x.lo,x.hi]
 | g+1=>a2W gs k x g++(if inT (lv (gs.getD g default).least k) x then [lv (gs.getD g default).least k] else [])++(if inT (lv (gs.getD g default).most k) x then [lv (gs.getD g default).most k] else [])
def bub:Nat->List (List UInt8)->List (List UInt8)
 | 0,L=>L
 | j+1,L=>if a1e (a0d (lv L (j+1))) (a0d (lv L j))<0 then bub j ((L.set (j+1) (lv L j)).set j (lv L (j+1))) else L
def a7k (E:List (List UInt8)):Nat->List (List UInt8)
 | 0=>E
 | i+1=>bub i (a7k E i)
def b8b (a b:List UInt8):List UInt8:=txt ((a0d a+a0d b)*a5O)
def a5p (L:List (List UInt8)):Nat->List (List UInt8)
 | 0=>[]
 | i+1=>a5p L i++(if 0<i then [b8b (lv L (i - 1)) (lv L i)] else [])++[lv L i]
def a5R (gs:List a0M)(k:Nat)(x:SpT):List (List UInt8):=a2W gs k x gs.length
def a5l (gs:List a0M)(k:Nat)(x:SpT):List (List UInt8):=a7k (a5R gs k x) (a5R gs k x).length
def a2S (gs:List a0M)(k:Nat)(x:SpT):List (List UInt8):=a5p (a5l gs k x) (a5l gs k x).length
theorem a4b {L:List (List UInt8)}{i:Nat}(h:i<L.length):lv L i∈L:=by
 unfold lv;rw [e0q,d9W h];exact List.getElem_mem h
theorem b2v {L:List (List UInt8)}{m:List UInt8}(h:m∈L):∃ i,i<L.length/\lv L i=m:=by
 obtain ⟨i,hi,e⟩:=e1V h;exact ⟨i,hi,by unfold lv;rw [e0q,d9W hi,e];rfl⟩
theorem b0A {L:List (List UInt8)}{i j:Nat}{m:List UInt8}(h:i<L.length):lv (L.set i m) j=if i=j then m else lv L j:=by
 unfold lv;rw [e0q,e0q];split
 ·rename_i e;subst e;rw [e2u h];rfl
 ·rename_i e;rw [e1n e]
theorem b6q {L:List (List UInt8)}{j:Nat}(h:j+1<L.length)(m:List UInt8):m∈(L.set (j+1) (lv L j)).set j (lv L (j+1))↔m∈L:=by
 constructor
 ·intro hm
  obtain ⟨i,hi,rfl⟩:=b2v hm;rw [e0G,e0G] at hi;rw [b0A (by rw [e0G];omega),b0A h];split
  ·exact a4b h
  ·split
   ·exact a4b (by omega)
   ·exact a4b hi
 ·intro hm
  obtain ⟨i,hi,rfl⟩:=b2v hm;have key:∀ q,q<L.length->lv ((L.set (j+1) (lv L j)).set j (lv L (j+1))) q∈(L.set (j+1) (lv L j)).set j (lv L (j+1)):=fun q hq=>a4b (by rw [e0G,e0G];exact hq)
  have val:∀ q,lv ((L.set (j+1) (lv L j)).set j (lv L (j+1))) q=if j=q then lv L (j+1) else if j+1=q then lv L j else lv L q:=fun q=>by
   rw [b0A (by rw [e0G];omega),b0A h]
  by_cases h1:i=j
  ·have:=key (j+1) h
   rw [val,d9Q (by omega),d9P rfl] at this;rw [h1];exact this
  ·by_cases h2:i=j+1
   ·have:=key j (by omega)
    rw [val,d9P rfl] at this;rw [h2];exact this
   ·have:=key i hi
    rw [val,d9Q (by omega),d9Q (by omega)] at this;exact this
theorem c1M:∀ (j:Nat) (L:List (List UInt8)),(bub j L).length=L.length
 | 0,L=>rfl
 | j+1,L=>by
  unfold bub;split
  ·rw [c1M j,e0G,e0G]
  ·rfl
theorem c1j:∀ (j:Nat) (L:List (List UInt8)),j<L.length->∀ m,m∈bub j L↔m∈L
 | 0,L,_,m=>Iff.rfl
 | j+1,L,h,m=>by
  unfold bub;split
  ·rw [c1j j _ (by rw [e0G,e0G];omega),b6q h]
  ·exact Iff.rfl
theorem a8G (E:List (List UInt8)):∀ i,(a7k E i).length=E.length
 | 0=>rfl
 | i+1=>by unfold a7k;rw [c1M,a8G E i]
theorem b1v (E:List (List UInt8)):∀ i,i<=E.length->∀ m,m∈a7k E i↔m∈E
 | 0,_,m=>Iff.rfl
 | i+1,h,m=>by unfold a7k;rw [c1j _ _ (by rw [a8G];exact h),b1v E i (by omega)]
theorem a4c (gs:List a0M)(k:Nat)(x:SpT)(m:List UInt8):m∈a5l gs k x↔m∈a5R gs k x:=b1v _ _ (d9Z _) m
theorem b1t {L:List (List UInt8)}:∀ n,n<=L.length->(∀ i,i<n->lv L i∈a5p L n)/\∀ m∈a5p L n,m∈L\/∃ a∈L,∃ b∈L,m=b8b a b
 | 0,_=>⟨fun i hi=>d9R hi (e1i i),fun m hm=>by cases hm⟩
 | n+1,h=>by
  obtain ⟨h1,h2⟩:=b1t (L:=L) n (by omega);refine ⟨fun i hi=>?_,fun m hm=>?_⟩
  ·unfold a5p
   rcases e0j i n with g|g
   ·exact e1R _ (e1R _ (h1 i g))
   ·have:i=n:=by omega
    subst this;exact List.mem_append_right _ (List.mem_singleton.2 rfl)
  ·unfold a5p at hm
   rcases List.mem_append.1 hm with hm|hm
   ·rcases List.mem_append.1 hm with hm|hm
    ·exact h2 m hm
    ·split at hm
     ·exact .inr ⟨_,a4b (L:=L) (i:=n - 1) (by omega),_,a4b (L:=L) (i:=n) (by omega),List.mem_singleton.1 hm⟩
     ·cases hm
   ·exact .inl (by rw [List.mem_singleton.1 hm];exact a4b (L:=L) (by omega))
theorem a8B {a:List UInt8}{x:SpT}:inT a x=true↔a≠[]/\inS x (a0d a):=by
 unfold inT inS;have e:∀ p q:Rat,a1e p q<=0↔p<=q:=fun p q=>by rw [<- a7j];omega
 rw [e0f,e0f,e0a,e2k,e0Q,e0Q,e,e]
theorem a3H {gs:List a0M}{k:Nat}{x:SpT}{m:List UInt8}:∀ n,m∈a2W gs k x n↔m=x.lo\/m=x.hi\/∃ g,g<n/\(m=lv (gs.getD g default).least k\/m=lv (gs.getD g default).most k)/\inT m x=true
 | 0=>by
  unfold a2W;constructor
  ·intro h
   rcases e0m.1 h with h|h
   ·exact .inl h
   ·exact .inr (.inl (List.mem_singleton.1 h))
  ·rintro (h|h|⟨g,hg,-⟩)
   ·rw [h];exact e1x
   ·rw [h];exact e0X _ (List.mem_singleton.2 rfl)
   ·exact d9R hg (e1i g)
 | n+1=>by
  unfold a2W;have ih:=a3H (gs:=gs) (k:=k) (x:=x) (m:=m) n;rw [List.mem_append,List.mem_append,ih];constructor
  ·rintro ((h|h)|h)
   ·rcases h with h|h|⟨g,hg,h⟩
    ·exact .inl h
    ·exact .inr (.inl h)
    ·exact .inr (.inr ⟨g,by omega,h⟩)
   ·split at h
    ·rename_i q
     have e:=List.mem_singleton.1 h;exact .inr (.inr ⟨n,by omega,.inl e,by rw [e];exact q⟩)
    ·cases h
   ·split at h
    ·rename_i q
     have e:=List.mem_singleton.1 h;exact .inr (.inr ⟨n,by omega,.inr e,by rw [e];exact q⟩)
    ·cases h
  ·rintro (h|h|⟨g,hg,h,q⟩)
   ·exact .inl (.inl (.inl h))
   ·exact .inl (.inl (.inr (.inl h)))
   ·rcases e0j g n with g1|g1
    ·exact .inl (.inl (.inr (.inr ⟨g,g1,h,q⟩)))
    ·have:g=n:=by omega
     subst this;rcases h with h|h
     ·exact .inl (.inr (by rw [<- h,d9P q];exact List.mem_singleton.2 rfl))
     ·exact .inr (by rw [<- h,d9P q];exact List.mem_singleton.2 rfl)
theorem d2W {x:SpT}{p q:Rat}(hp:inS x p)(hq:inS x q):inS x ((p+q)*a5O):=by
 have e:a5O+a5O=1:=by kernel_rfl
 have h0:(0:Rat)<=a5O:=by decide
 have f:∀ r:Rat,r=(r+r)*a5O:=fun r=>by
  rw [Rat.add_mul,<- Rat.mul_add,e,Rat.mul_one]
 constructor
 ·rw [f (a0d x.lo)]
  exact Rat.mul_le_mul_of_nonneg_right (by have:=hp.1;have:=hq.1;grind) h0
 ·rw [f (a0d x.hi)]
  exact Rat.mul_le_mul_of_nonneg_right (by have:=hp.2;have:=hq.2;grind) h0
theorem b9V (a b:List UInt8):a0d (b8b a b)=(a0d a+a0d b)*a5O:=c0v _
theorem b3z {s:a0Y}(h:a0l s=0){k:Nat}(hk:k<s.fs.length){x:SpT}(hx:a0d x.lo<=a0d x.hi):b2S s k x ((a2S s.gs k x).map a0d):=by
 have hs:=a0H h;have hE:∀ m,m∈a5R s.gs k x->a0d m∈(a2S s.gs k x).map a0d:=fun m hm=>by
  obtain ⟨i,hi,e⟩:=b2v ((a4c s.gs k x m).2 hm);exact List.mem_map.2 ⟨m,by rw [<- e];exact (b1t (L:=a5l s.gs k x) _ (d9Z _)).1 i hi,rfl⟩
 have hp:∀ g,g<s.gs.length->pv (a4g (a0e s) g) k=(lv (s.gs.getD g default).least k,lv (s.gs.getD g default).most k):=fun g hg=>by
  rw [a8O hg,b5W (c2U hs hg) hk]
 have hsub:∀ m,m∈a5l s.gs k x->inS x (a0d m):=fun m hm=>by
  rcases (a3H _).1 ((a4c s.gs k x m).1 hm) with e|e|⟨g,-,-,q⟩
  ·rw [e];exact ⟨Rat.le_refl,hx⟩
  ·rw [e];exact ⟨hx,Rat.le_refl⟩
  ·exact (a8B.1 q).2
 refine ⟨hE _ ((a3H _).2 (.inl rfl)),hE _ ((a3H _).2 (.inr (.inl rfl))),fun g hg h1 h2=>?_,fun g hg h1 h2=>?_,fun m hm=>?_⟩
 ·rw [hp g hg] at h1 h2 ⊢
  exact hE _ ((a3H _).2 (.inr (.inr ⟨g,hg,.inl rfl,a8B.2 ⟨h1,h2⟩⟩)))
 ·rw [hp g hg] at h1 h2 ⊢
  exact hE _ ((a3H _).2 (.inr (.inr ⟨g,hg,.inr rfl,a8B.2 ⟨h1,h2⟩⟩)))
 ·obtain ⟨t,ht,rfl⟩:=List.mem_map.1 hm
  rcases (b1t (L:=a5l s.gs k x) _ (d9Z _)).2 t ht with h1|⟨a,ha,b,hb,rfl⟩
  ·exact hsub t h1
  ·rw [b9V];exact d2W (hsub a ha) (hsub b hb)
set_option maxHeartbeats 8000000
theorem b6o {f:Nat->Nat}:∀ {n:Nat},0<a8z f n->∃ k,k<n/\f k=a8z f n
 | 0,h=>d9R h (Nat.lt_irrefl _)
 | n+1,h=>by
  have e:a8z f (n+1)=max (a8z f n) (f n):=rfl;rw [e] at h ⊢;rcases Nat.le_total (a8z f n) (f n) with q|q
  ·exact ⟨n,e2p n,(Nat.max_eq_right q).symm⟩
  ·rw [Nat.max_eq_left q] at h ⊢
   obtain ⟨k,hk,e⟩:=b6o h;exact ⟨k,by omega,e⟩
theorem b6k {f:Nat->Nat}{n k:Nat}(hk:k<n):f k<=a8z f n:=(a6O n).1 (d9Z _) k hk
set_option maxHeartbeats 4000000
theorem b1V {G:List (List LP)}{g:Nat}{v:List SpT}:(a9m G g v).isSome=true↔(∀ k,k<v.length->btB G k g (sv v k)=true)/\∃ k,k<v.length/\(vlO G k g (sv v k)).isSome=true:=by
 unfold a9m;split
 ·rename_i h
  rw [Option.isSome_map];have hB:∀ k,k<v.length->btB G k g (sv v k)=true:=fun k hk=>e0B.1 h k (List.mem_range.2 hk)
  unfold c9o;rw [List.find?_isSome];exact ⟨fun ⟨k,hk,q⟩=>⟨hB,k,List.mem_range.1 hk,q⟩,fun ⟨_,k,hk,q⟩=>⟨k,List.mem_range.2 hk,q⟩⟩
 ·rename_i h
  exact ⟨fun q=>d9R q (by decide),fun q=>d9R (b2j q.1) h⟩
def a3x (gs:List a0M)(k:Nat)(M:List (List UInt8)):Nat->List Nat
 | 0=>[]
 | n+1=>if a4O gs k (a0d (lv M n))∈a3x gs k M n then a3x gs k M n else a3x gs k M n++[a4O gs k (a0d (lv M n))]
theorem b4K {gs:List a0M}{k:Nat}{M:List (List UInt8)}{g:Nat}:∀ n,g∈a3x gs k M n↔∃ i,i<n/\a4O gs k (a0d (lv M i))=g
 | 0=>⟨fun h=>(by cases h),fun ⟨i,hi,_⟩=>d9R hi (e1i i)⟩
 | n+1=>by
  have ih:=b4K (gs:=gs) (k:=k) (M:=M) (g:=g) n;unfold a3x;split
  ·rename_i h
   rw [ih];constructor
   ·rintro ⟨i,hi,e⟩;exact ⟨i,by omega,e⟩
   ·rintro ⟨i,hi,e⟩
    rcases e0j i n with q|q
    ·exact ⟨i,q,e⟩
    ·have:i=n:=by omega
     subst this;rw [e] at h;exact ih.1 h
  ·rw [List.mem_append,ih,List.mem_singleton]
   constructor
   ·rintro (⟨i,hi,e⟩|e)
    ·exact ⟨i,by omega,e⟩
    ·exact ⟨n,by omega,e.symm⟩
   ·rintro ⟨i,hi,e⟩
    rcases e0j i n with q|q
    ·exact .inl ⟨i,q,e⟩
    ·have:i=n:=by omega
     subst this;exact .inr e.symm
def c5b (gs:List a0M)(k:Nat)(x:SpT):List Nat:=a3x gs k (a2S gs k x) (a2S gs k x).length
def b2l (gs:List a0M)(v:List SpT):List (List Nat):=(List.range v.length).map fun k=>c5b gs k (sv v k)
def b9Y (l:List (List Nat))(g:Nat):Bool:=l.any fun o=>o.any fun a=>decide (a=g)
def d0v (l:List (List Nat))(g:Nat):Bool:=l.all fun o=>o.any fun a=>decide (a<=g)
def a2Q (l:List (List Nat))(n:Nat):List Nat:=(List.range n).filter fun g=>b9Y l g&&d0v l g
theorem c1P {s:a0Y}(h:a0l s=0){k:Nat}(hk:k<s.fs.length){x:SpT}{p:Nat->Prop}:(∃ a∈c5b s.gs k x,p a)↔∃ m∈(a2S s.gs k x).map a0d,p (a0Q (a0e s) k m):=by
 have hs:=a0H h;constructor
 ·rintro ⟨a,ha,hp⟩
  obtain ⟨i,hi,e⟩:=(b4K _).1 ha;exact ⟨_,List.mem_map.2 ⟨_,a4b hi,rfl⟩,by rw [a4a hs hk,e];exact hp⟩
 ·rintro ⟨m,hm,hp⟩
  obtain ⟨t,ht,rfl⟩:=List.mem_map.1 hm;obtain ⟨i,hi,rfl⟩:=b2v ht;exact ⟨_,(b4K _).2 ⟨i,hi,rfl⟩,by rw [<- a4a hs hk];exact hp⟩
theorem d2u {v:List SpT}{k:Nat}(h:k<v.length):sv v k∈v:=by
 unfold sv;rw [e0q,d9W h];exact List.getElem_mem h
theorem a6X {s:a0Y}{v:List SpT}(h:a4d s v=0){k:Nat}(hk:k<v.length):chk (sv v k).lo=0/\chk (sv v k).hi=0/\a0d (sv v k).lo<=a0d (sv v k).hi:=by
 obtain ⟨-,-,k3⟩:=a3s h;obtain ⟨a,b,c⟩:=k3 _ (d2u hk);exact ⟨a,b,a7j.1 c⟩
theorem d1x {s:a0Y}{v:List SpT}(h:a4d s v=0):a9A (a0e s) v=a2Q (b2l s.gs v) (s.gs.length+1):=by
 obtain ⟨h0,hn,-⟩:=a3s h;unfold a9A a8X a2Q;rw [a1h];refine List.filter_congr fun g hg=>?_
 have hg:g<=s.gs.length:=by have:=List.mem_range.1 hg;omega
 have hM:=fun k (hk:k<v.length)=>b3z h0 (k:=k) (by omega) (a6X h hk).2.2
 rw [e1D,b1V,e0f];unfold b9Y d0v b2l;rw [List.any_eq_true,e0B];have e1:∀ k,k<v.length->(btB (a0e s) k g (sv v k)=true↔((c5b s.gs k (sv v k)).any fun a=>decide (a<=g))=true):=fun k hk=>by
  rw [c5R h0 hg (by omega) (hM k hk),List.any_eq_true,<- c1P h0 (by omega) (p:=fun a=>a<=g)];exact ⟨fun ⟨a,h1,h2⟩=>⟨a,h1,d9S h2⟩,fun ⟨a,h1,h2⟩=>⟨a,h1,e0p h2⟩⟩
 have e2:∀ k,k<v.length->((vlO (a0e s) k g (sv v k)).isSome=true↔((c5b s.gs k (sv v k)).any fun a=>decide (a=g))=true):=fun k hk=>by
  rw [c6e h0 hg (by omega) (hM k hk),List.any_eq_true,<- c1P h0 (by omega) (p:=fun a=>a=g)];exact ⟨fun ⟨a,h1,h2⟩=>⟨a,h1,d9S h2⟩,fun ⟨a,h1,h2⟩=>⟨a,h1,e0p h2⟩⟩
 constructor
 ·rintro ⟨hB,k,hk,hV⟩
  refine ⟨⟨_,List.mem_map.2 ⟨k,List.mem_range.2 hk,rfl⟩,(e2 k hk).1 hV⟩,fun o ho=>?_⟩;obtain ⟨j,hj,rfl⟩:=List.mem_map.1 ho;exact (e1 j (List.mem_range.1 hj)).1 (hB j (List.mem_range.1 hj))
 ·rintro ⟨⟨o,ho,q⟩,hA⟩
  obtain ⟨k,hk,rfl⟩:=List.mem_map.1 ho;exact ⟨fun j hj=>(e1 j hj).2 (hA _ (List.mem_map.2 ⟨j,List.mem_range.2 hj,rfl⟩)),k,List.mem_range.1 hk,(e2 k (List.mem_range.1 hk)).2 q⟩
theorem d4V {s:a0Y}(h:a0l s=0){g k:Nat}(hg:g<=s.gs.length)(hk:k<s.fs.length){x:SpT}(h1:chk x.lo=0)(h2:chk x.hi=0)(h3:a0d x.lo<=a0d x.hi)(hb:btB (a0e s) k g x=true):chk (btT (a0e s) k g x)=0/\inS x (a0d (btT (a0e s) k g x))/\a0Q (a0e s) k (a0d (btT (a0e s) k g x))<=g:=by
 unfold btT;unfold btB at hb;rw [a1h] at hb ⊢
 by_cases q:g=s.gs.length
 ·rw [d9P q]
  exact ⟨h1,⟨Rat.le_refl,h3⟩,by rw [q,<- a1h];exact a4f ..⟩
 ·rw [d9Q q] at hb ⊢
  have hg':g<s.gs.length:=by omega
  obtain ⟨-,-,l1,l2⟩:=a8S (a5h (a0H h)) (show g<(a0e s).length by rw [a1h];exact hg') hk;have e:=a3k.1 (a3z hb).1;exact ⟨(a9h l1 l2 h1 h2).1,e.1,(a2M h hg' hk _).2 e.2⟩
theorem d6n {s:a0Y}(h:a0l s=0){g k:Nat}(hk:k<s.fs.length){x:SpT}(h1:chk x.lo=0)(h2:chk x.hi=0)(h3:a0d x.lo<=a0d x.hi){l:List UInt8}(hv:vlO (a0e s) k g x=some l):chk l=0/\inS x (a0d l)/\a0Q (a0e s) k (a0d l)=g:=by
 obtain ⟨z1,z2⟩:=b9n (g:=g) (a5h (a0H h)) hk h1 h2;have hin:vlQ (a0e s) k g x=false->inS x (a0d (vlT (a0e s) k g x).lo)/\inS x (a0d (vlT (a0e s) k g x).hi):=fun hq=>by
  unfold vlT
  by_cases q:g<(a0e s).length
  ·rw [d9P q]
   unfold vlQ at hq;rw [d9S q,e1J,e0c] at hq;exact ⟨(a3k.1 (a3z hq).1).1,(a3k.1 (a3z hq).2).1⟩
  ·rw [d9Q q]
   exact ⟨⟨Rat.le_refl,h3⟩,⟨h3,Rat.le_refl⟩⟩
 unfold vlO at hv;split at hv
 ·cases hv
 rename_i q;have hin:=hin (Bool.eq_false_iff.2 q);split at hv
 ·rename_i q;cases hv;exact ⟨z1,hin.1,e0p q⟩
 split at hv
 ·rename_i q;cases hv;exact ⟨z2,hin.2,e0p q⟩
 ·cases hv
theorem c5C {s:a0Y}{v:List SpT}(h:a4d s v=0){g:Nat}(hg:g<=s.gs.length){w:List (List UInt8)}(hw:a9m (a0e s) g v=some w):w.length=v.length/\(∀ k,k<v.length->chk (lv w k)=0/\inS (sv v k) (a0d (lv w k)))/\a7A (a0e s) w=g:=by
 obtain ⟨h0,hn,-⟩:=a3s h;have hs:(a9m (a0e s) g v).isSome=true:=by rw [hw];rfl
 obtain ⟨hB,-⟩:=b1V.1 hs;unfold a9m at hw;rw [d9P (b2j hB)] at hw;obtain ⟨k,hk,rfl⟩:=Option.map_eq_some_iff.1 hw;unfold c9o at hk;have hkv:=List.find?_some hk;have hkl:=List.mem_range.1 (List.mem_of_find?_eq_some hk);obtain ⟨l,hl⟩:=Option.isSome_iff_exists.1 hkv;rw [hl,e2C];have hlen:(b2x (a0e s) g v).length=v.length:=b9Q;have hb:∀ j,j<v.length->lv (b2x (a0e s) g v) j=btT (a0e s) j g (sv v j):=fun j hj=>b9I (c5P hj)
 have c:=fun j hj=>a6X h (k:=j) hj
 have d1:=d6n h0 (by omega) (c k hkl).1 (c k hkl).2.1 (c k hkl).2.2 hl;have key:∀ j,j<v.length->chk (lv ((b2x (a0e s) g v).set k l) j)=0/\inS (sv v j) (a0d (lv ((b2x (a0e s) g v).set k l) j))/\a0Q (a0e s) j (a0d (lv ((b2x (a0e s) g v).set k l) j))<=g:=fun j hj=>by
  rw [b0A (by omega)];split
  ·rename_i e;subst e;exact ⟨d1.1,d1.2.1,by rw [d1.2.2];exact d9Z _⟩
  ·rw [hb j hj]
   exact d4V h0 hg (by omega) (c j hj).1 (c j hj).2.1 (c j hj).2.2 (hB j hj)
 refine ⟨by rw [e0G,hlen],fun j hj=>⟨(key j hj).1,(key j hj).2.1⟩,Nat.le_antisymm ?_ ?_⟩
 ·unfold a7A
  rw [e0G,hlen];exact (a6O _).2 fun j hj=>(key j hj).2.2
 ·have:=b6k (f:=fun j=>a0Q (a0e s) j (a0d (lv ((b2x (a0e s) g v).set k l) j))) (n:=v.length) hkl
  unfold a7A;rw [e0G,hlen];rw [b0A (by omega),d9P rfl,d1.2.2] at this;exact this
theorem c0G {l:List Nat}{i a:Nat}(h:l[i]? = some a):(a0S l)[i]? = some (i64 (a:Int)):=by
 rw [e0l,h];rfl
theorem b5l {l:List Nat}{i a:Nat}(h:l[i]? = some a):l.contains a=true:=by
 rw [List.contains_iff_mem];exact d9V h
theorem b1n {l:List Nat}{a:Nat}(h:∀ (j x:Nat),j<l.length->l[j]? = some x->x≠a):l.contains a=false:=by
 rw [Bool.eq_false_iff];intro k;obtain ⟨j,hj⟩:=List.mem_iff_getElem?.1 (List.contains_iff_mem.1 k);exact h j a (List.getElem?_eq_some_iff.1 hj).1 hj rfl
theorem d6X (b:Bool)(l:List Nat)(g:Nat)(hl:l.length<=100000):a0b C0 50 [.sl b 1 (a0S l),i64 (g:Int)] (boo (l.contains g)):=by
 refine a0c.walk w1 d4W rfl fun F=>?_
 have el:(((a0S l).length:Nat):Int)=(l.length:Int):=by rw [d9X]
 have pL:IsPure (.sl b 1 (a0S l)):=d9O;have hat:∀ (i a:Nat),l[i]? = some a->(a0S l)[i]? = some (i64 (a:Int)):=fun i a h=>c0G h
 generalize a0S l=L at *;refine goI dr0 el d9N d9N d9N d9N d9N d9N ?_;refine OkS.loop (α:=Nat × Nat) (fun p=>⟨[(0,.sl b 1 L),(1,i64 (g:Int)),(5,i64 (p.1:Int))],[],p.2⟩) (fun p=>l.length - p.1) (fun p=>p.1<=l.length/\∀ (j x:Nat),j<p.1->l[j]? = some x->x≠g) (0,_) ⟨e0y _,fun j x hj=>d9R hj (e1i j)⟩ wkI ?_;rintro ⟨i,m⟩ F ⟨hi,ha⟩;dsimp only at hi ha ⊢;rcases e0j i l.length with h2|h2
 ·have e1:=ltT h2
  have wi:=wiI (i:=i) (by omega);obtain ⟨a,hla⟩:=a0J h2;have hm:=hat i a hla;have e2:=b9O a g
  by_cases h3:a=g
  ·rw [d9S h3] at e2
   subst h3;rw [b5l hla];refine goI dr0 (ff4 e1 e2 el kN) hm d9N d9N d9N d9N d9N ?_;exact a0a rfl IsPure.out
  ·rw [d9U h3] at e2
   refine goI dr0 (ff5 e1 e2 el wi kN) hm d9N d9N d9N d9N d9N ?_;exact ⟨(i+1,_),⟨h2,fun j x hj hx=>by
    rcases e0j j i with q|q
    ·exact ha j x q hx
    ·have:j=i:=by dsimp only at hj;omega
     subst this;rw [hla] at hx;cases hx;exact h3⟩,by dsimp only;omega,wkI⟩
 ·have e1:=ltF h2
  have:i=l.length:=by omega
  subst this;rw [b1n ha];refine goI dr0 (ff2 e1 el) d9N d9N d9N d9N d9N d9N ?_;exact a0a rfl IsPure.out
theorem d6Z (b:Bool)(l:List Nat)(g:Nat)(hl:l.length<=100000):a0b C0 16 [.sl b 1 (a0S l),i64 (g:Int)] (boo (l.contains g)):=by
 refine a0c.walk w1 d4B rfl fun F=>?_
 have c:=d6X b l g hl;have pL:IsPure (.sl b 1 (a0S l)):=d9O;generalize a0S l=L at *;refine goI dr0 kB c d9N d9N d9N d9N d9N ?_;exact a0a rfl IsPure.out
theorem rIn (a:List UInt8)(x:SpT)(ha:chk a=0)(h1:chk x.lo=0)(h2:chk x.hi=0):a0b C0 64 [str (sb a),x.D] (boo (decide (a1e (a0d x.lo) (a0d a)<=0)&&decide (a1e (a0d a) (a0d x.hi)<=0))):=by
 refine a0c.walk w1 d6B rfl fun F=>?_
 have c1:=a5q h1 ha;have c2:=a5q ha h2;obtain ⟨p,hp⟩:∃ p,decide (a1e (a0d x.lo) (a0d a)<=0)=p:=⟨_,rfl⟩
 obtain ⟨q,hq⟩:∃ p,decide (a1e (a0d a) (a0d x.hi)<=0)=p:=⟨_,rfl⟩
 rw [hp,hq];unfold SpT.D;cases p<;>cases q
 all_goals
  refine goI dr0 (ff2 hp hq) c1 c2 d9N d9N d9N d9N ?_;exact a0a rfl IsPure.out
theorem c3g (w:List (List UInt8))(hl:w.length<=100000)(hc:∀ l∈w,chk l=0):a0b C0 59 [frD w] (txD false w):=by
 refine a0c.walk w1 d2d rfl fun F=>?_
 have el:(((w.map fun l=>(a0q l).D).length:Nat):Int)=(w.length:Int):=by rw [d9X]
 unfold frD;refine goI dr0 (ff2 el kN) d9N d9N d9N d9N d9N d9N ?_;refine OkS.loop (α:=Nat × List D × Nat) (fun p=>⟨[(3,.osl 102 3 1 0 w.length),(9,.sl false 4 (w.map fun l=>(a0q l).D)),(10,i64 (w.length:Int)),(11,i64 (p.1:Int))],[⟨102,3,38,1,p.2.1⟩],p.2.2⟩) (fun p=>w.length - p.1)
  (fun p=>p.1<=w.length/\p.2.1.length=w.length/\∀ (j:Nat) (l:List UInt8),j<p.1->w[j]? = some l->p.2.1[j]? = some (str (sb l))) (0,List.replicate w.length (str (sb [])),_) ⟨e0y _,e2g,fun j r hj=>d9R hj (e1i j)⟩ wkI ?_
 rintro ⟨i,L,m⟩ F ⟨hi,hL,ha⟩;dsimp only at hi hL ha ⊢;rcases e0j i w.length with h2|h2
 ·have e0:=ltT h2
  have wi:=wiI (i:=i) (by omega);obtain ⟨l,hl2⟩:=a0J h2;have hm:(w.map fun l=>(a0q l).D)[i]? = some (a0q l).D:=by rw [e0l,hl2];rfl
  have hk:=hc l (d9V hl2);have c:=b9a (a3F hk) (by decide);rw [show str (sb (txt (a0d l)))=str (sb l) from b0W hk] at c;obtain ⟨z,hz⟩:∃ z,L[i]? = some z:=a0J (by omega);unfold GF.D at hm c ⊢;refine goI dr0 (ff5 e0 wi hz kN e0v) hm c d9N d9N d9N d9N ?_;refine ⟨(i+1,L.set i (str (sb l)),_),⟨h2,by rw [e0G];exact hL,fun j y hj hy=>?_⟩,by dsimp only;omega,wkI⟩;dsimp only at hj ⊢;rcases Nat.decEq j i with hne|rfl
  ·rw [e1n (fun h=>hne h.symm)];exact ha j y (by omega) hy
  ·rw [e2u (by omega)]
   rw [hl2] at hy;cases hy;rfl
 ·have e0:=ltF h2
  have:i=w.length:=by omega
  subst this;have hLe:L=w.map fun l=>str (sb l):=e2U fun j=>by
   rw [e0l];rcases e0j j w.length with h|h
   ·obtain ⟨y,hy⟩:=a0J h
    rw [hy,ha j y h hy];rfl
   ·rw [e0F (by omega),e0F h];rfl
  refine goI dr0 e0 d9N d9N d9N d9N d9N d9N ?_;exact ⟨_,c6k hL rfl,by rw [hLe];exact (d9O:IsPure (txD false w)).out,by rw [hLe]⟩
def evB (tt:Nat->Option a0o)(n k:Nat)(g:Operand->D):Op->Option (D × Ent × Prop)
 | .buildSlice t len ps=>match tt t with
  | some i=>match i.ti with
   | .slice e esz _ _=>match len with
    | 0=>none
    | len+1=>match tt e with
     | some ie=>match a3p g 0 ps.toList with
      | some es=>some (.osl k n esz 0 (len+1),⟨k,n,e,esz,es⟩,b3P ie.ag esz es/\es.length=len+1/\Nat.ble ((len+1)*esz) 16777216=true/\Nat.ble 1 esz=true)
      | none=>none
     | none=>none
   | _=>none
  | none=>none
 | _=>none
section
variable {C:Ctx} {F B:Fra} {rd:Option Nat} {s:St} {ops:Array Oper} {o:Oper} {os:List Oper} {K:St->Prop} {ρ:Lk} {H:Hp} {w:World} {Q:Exit->Fra->St->Prop} {X:EV}
theorem c2L {tt:Nat->Option a0o}{g:Operand->D}{ev:Operand->Value}{n k:Nat}{d:D}{e':Ent}{p:Prop}(htt:Tab C.P tt)(m:Mem C F ρ H w)(fr:∀ k,ρ k n=none)(hlt:∀ e∈H,e.g≠n)
  (hg:∀ x,Rep ρ (Own F.X ρ H) w (g x) (ev x)) (h:evB tt n k g o.op=some (d,e',p)) (hp:p) :
  ∃ v ρ' w',(execOp ev o).run C.P w=.ok (.value v) w'/\a9R C F H ρ w n d (some e') v ρ' w':=by
 unfold evB at h;split at h<;>try(cases h;done)
 rename_i t len ps ho;split at h<;>try(cases h;done)
 rename_i i hi;have ht:=htt _ _ hi;split at h<;>try(cases h;done)
 rename_i e esz eby ez hk;split at h<;>try(cases h;done)
 rename_i len;split at h<;>try(cases h;done)
 rename_i ie hie;split at h<;>try(cases h;done)
 rename_i es hes;simp only [e0e,e0s] at h;obtain ⟨rfl,rfl,rfl⟩:=h;obtain ⟨p1,p2,p3,p4⟩:=hp;have p3:=e0b p3;have p4:=e0b p4;obtain ⟨vs',f1,f2,f3,f4⟩:=b4y (ρ:=ρ) (w:=w) (O:=Own F.X ρ H) hg ps.toList 0 es ((Array.range ((len+1)*esz)).map (fun j=>(if (len+1)*esz=0 then #[] else ez.cells)[j%(if (len+1)*esz=0 then #[] else ez.cells).size]!)) hes
  (a7z p1) (by simp [p2])
 have run:=a3M (C:=C) (w:=w) (len:=len+1) (parts:=ps.map fun (i,x)=>(i,ev x)) (cells:=vs') ht hk p3 (by rw [<- f1];simp);have hsz:vs'.size=(len+1)*esz:=by rw [f2];simp
 have hok:a2B ρ (Own F.X ρ H) w ⟨k,n,e,esz,es⟩ vs':=by
  refine ⟨by dsimp only;rw [p2,hsz];exact d9Z _,fun q d hd=>(f4 q d hd).1,fun j v hv=>?_,fun q d j c hd hc=>?_⟩
  ·have hj:j<(len+1)*esz:=by have:=(Array.getElem?_eq_some_iff.1 hv).1;omega
   have hq:j / esz<es.length:=by rw [p2];exact (Nat.div_lt_iff_lt_mul (by omega)).2 hj
   have:=(f4 (j / esz) _ (d9W hq)).2.2 (j%esz) (e0L _ (by omega))
   rw [e0v,Nat.div_add_mod'] at this;rw [d9T,hv] at this;exact this
  ·have:=(f4 q d hd).2.1 j c hc
   rw [e0v] at this;exact this
 obtain ⟨m1,x1⟩:=m.alloc ⟨k,n,e,esz,es⟩ vs' (fr k) (fun e he hh=>hlt e he hh.2) hok;refine ⟨.slice (some ⟨w.heap.size,0,none⟩) (len+1) (len+1),ρ.put k n w.heap.size,_,?_,m1,x1,fun k' g' hg=>by unfold Lk.put;rw [d9Q fun h=>hg h.2],?_⟩
 ·unfold execOp
  simp only [ho];rw [run_bind,run];rfl
 ·exact d9B (b:=w.heap.size) (T:=e) (fz:=(0,0)) (d8V _ _ _ _) (by rw [a0y];exact d9P rfl) (d9Z _) (by rw [hsz]) (by simp only [maxLen];have:=Nat.le_mul_of_pos_right (len+1) p4;omega)
theorem c6J {tt:Nat->Option a0o}{n k:Nat}{g:Operand->D}{op:Op}{d:D}{e:Ent}{p:Prop}(h:evB tt n k g op=some (d,e,p)):e.g=n:=by
 unfold evB at h
 (repeat' split at h)<;>first|(cases h;done)|(cases h;rfl)
theorem d9d {tt:Nat->Option a0o}(k:Nat)(htt:Tab C.P tt){d:D}{e':Ent}{p:Prop}(hw:a0P ops s.env o=some true)(he:evB tt s.n k (a1u s.env) o.op=some (d,e',p))(hp:p)
  (h:OkL C F ops os ⟨a2b s.env o.dst d,e'::s.H,s.n+1⟩ K):OkL C F ops (o::os) s K :=
 OkL.step hw (fun ρ a w hs=>by
  obtain ⟨v,ρ',w',h1,h2⟩:=c2L htt hs.mem (fun k=>hs.fresh k _ (d9Z _)) (fun e he=>Nat.ne_of_lt (hs.gen e he)) (a0T hs.env) he hp;refine ⟨v,ρ',w',.inl h1,⟨h2.mem,h2.ext,fun k g hg=>by rw [h2.far k g (by omega)];exact hs.fresh k g (by omega),h2.rep⟩,fun e he2=>?_⟩;rcases e0m.1 he2 with rfl|he2
  ·have:=c6J he;omega
  ·exact e1f (hs.gen e he2)) h
def d4a (C:Ctx)(X:EV)(F:Fra)(kb:Nat)(ops:Array Oper)(io:Nat)(l2:List Nat)(Q:Exit->Fra->St->Prop)(s:St):Prop:=match a8W ops.toList io with
 | some o=>match o.guard with
  | none=>match evB X.tt s.n (kb+io) (a1u s.env) o.op with
   | some (d,e,p)=>p/\a2f C X kb ops l2 ⟨a2b s.env o.dst d,e::s.H,s.n+1⟩ True fun acc s=>acc/\Q .normal F s
   | none=>False
  | some _=>False
 | none=>False
theorem c7T {kb io:Nat}{l2:List Nat}(hX:WOk C X)(h:d4a C X F kb ops io l2 Q s):OkL C F ops ((io::l2).map fun j=>ops.getD j default) s (Q .normal F):=by
 unfold d4a at h;split at h<;>first|exact h.elim|skip
 rename_i o ho;split at h<;>first|exact h.elim|skip
 rename_i hgd;split at h<;>first|exact h.elim|skip
 rename_i d e p he;have e1:ops.getD io default=o:=by rw [d9T,a4m ho];rfl
 rw [e1k,e1];exact d9d _ hX.tt (by unfold a0P;rw [hgd]) he h.1 (a1i (F:=F) (K':=Q .normal F) hX (fun acc s h=>h) h.2).2
theorem d9s {i:Nat}(hX:WOk C X)(kb:Nat)(l1:List Nat)(io:Nat)(l2:List Nat)(hl:List.range ops.size=l1++io::l2)(hnd:a3S ops.toList=true)
  (h:a2f C X kb ops l1 s True fun acc s1=>acc/\d4a C X F kb ops io l2 Q s1):OkS C B rd F (.region i ops false) s Q:=by
 refine ⟨fun hB hd ρ a w hs=>wpIn_region ?_⟩;rw [hl];have hlt:∀ j∈l1++io::l2,j<ops.size:=fun j hj=>by rw [<- hl] at hj;exact List.mem_range.1 hj
 have h1:=(a1i (F:=F) (K':=d4a C X F kb ops io l2 Q) hX (fun acc s h=>h) h).2.run (fun j hj=>hlt j (by simp [hj])) (a3n hB hd) hs;refine a1w (rd:=rd) (Q:=a4I C B Q) (l2:=io::l2) (fun e a w h=>?_) (a2n hnd) _ a w h1;obtain ⟨h0,s1,ρ1,k1,k2⟩:=h;refine ⟨h0,?_⟩;have h3:=(c7T (F:=F) hX k1).run (fun j hj=>hlt j (List.mem_append_right _ hj)) (a3n hB hd) k2
 have:=a1w (rd:=rd) (Q:=a4I C B Q) (l2:=[]) (fun _ _ _ h=>a3A hB (fun _ h=>h) h) (a2n hnd) _ _ _ h3
 rwa [e0W] at this
end
theorem d5b (r:Rat)(k:Nat)(h:rk r k)(hk:k<10000):a0b C0 12 [rR r] (rR (r*a5O)):=by
 refine a0c.walk w1 d6j rfl fun F=>?_
 have c:=d8n r a5O k 1 h c6U.rk (by omega);rw [c8z] at c;refine goI dr0 kB c d9N d9N d9N d9N d9N ?_;exact a0a rfl IsPure.out
abbrev a1p:Dr:=[(5,[0,1,2,3,4,5,6,7,8,9,10,11,12,13,14,15,16,17,18,19,20],[]),(15,[0,1,2,3,4,5,6,7,8,9,10,11],[12,13,14]),(17,[0,1,2,3,4,5,6,7,8,9,10,11,12,13,14,15],[16,17]),(23,[0,1,2,3,4,5,6,7,8,9,10,11,12],[13,14])]
open Go.Proofs Go.RowKit
set_option maxRecDepth 20000
set_option maxHeartbeats 4000000
abbrev tsD (l:List (List UInt8)):List D:=l.map fun l=>str (sb l)
theorem a9C (gs:List a0M)(k:Nat)(x:SpT):∀ n,∃ tl,a2W gs k x n=x.lo::tl
 | 0=>⟨_,rfl⟩
 | n+1=>by
  obtain ⟨tl,h⟩:=a9C gs k x n;unfold a2W;rw [h];exact ⟨_,rfl⟩
theorem a8h (gs:List a0M)(k:Nat)(x:SpT):∀ n,(a2W gs k x n).length<=2*n+2/\2<=(a2W gs k x n).length
 | 0=>⟨d9Z _,d9Z _⟩
 | n+1=>by
  obtain ⟨h1,h2⟩:=a8h gs k x n;unfold a2W;rw [e0x,e0x]
  have:∀ (c:Bool) (y:List UInt8),(if c then [y] else []).length<=1:=fun c y=>by cases c<;>simp
  have a:=this (inT (lv (gs.getD n default).least k) x) (lv (gs.getD n default).least k);have b:=this (inT (lv (gs.getD n default).most k) x) (lv (gs.getD n default).most k);omega
theorem c0U (gs:List a0M)(k:Nat)(x:SpT)(n:Nat):a2W gs k x (n+1)=a2W gs k x n++(if inT (lv (gs.getD n default).least k) x then [lv (gs.getD n default).least k] else [])++(if inT (lv (gs.getD n default).most k) x then [lv (gs.getD n default).most k] else []):=rfl
theorem b5J (b:ByteArray):a0X false 1 (str b):=a0X.one fun ρ O w v h=>by cases h;rfl
theorem c3c (S:List (List UInt8))(q:Nat):∃ y l,a5p S (q+1)=y::l:=by
 rcases h:a5p S (q+1) with _|⟨y,l⟩
 ·have:=congrArg List.length h
  unfold a5p at this;simp at this
 ·exact ⟨y,l,rfl⟩
theorem b4Y (S:List (List UInt8)):∀ n,(a5p S n).length<=2*n
 | 0=>d9Z _
 | n+1=>by
  have h:=b4Y S n;unfold a5p;rw [e0x,e0x,e1u]
  have:(if 0<n then [b8b (lv S (n - 1)) (lv S n)] else []).length<=1:=by split<;>simp
  omega
theorem d1J {a b:Rat}(ha:nb a E40 E40)(hb:nb b E40 E40):rk (a+b) 6:=d2E (c5L ha hb) (by decide) (by decide)
theorem c7Z {a b:Rat}(ha:nb a E40 E40)(hb:nb b E40 E40):d2B ((a+b)*a5O)=false :=
 d1Q (c8V (c5L ha hb) (⟨by decide,by decide⟩:nb a5O 1 2)) (by decide) (by decide)
theorem c9A (a b:List UInt8):rR ((a0d a+a0d b)*a5O)=str (sb (b8b a b)):=rfl
theorem b8B {gs:List a0M}{k:Nat}{x:SpT}(h:∀ t∈a5R gs k x,chk t=0/\t.length<=40):∀ t∈a2S gs k x,chk t=0:=fun t ht=>by
 rcases (b1t (L:=a5l gs k x) _ (d9Z _)).2 t ht with h1|⟨a,ha,b,hb,rfl⟩
 ·exact (h t ((a4c gs k x t).1 h1)).1
 ·have ka:=h a ((a4c gs k x a).1 ha)
  have kb:=h b ((a4c gs k x b).1 hb);exact c8n (c7Z (a9H ka.1 ka.2) (a9H kb.1 kb.2))
theorem d2I (s:a0Y)(h0:a0l s=0)(k:Nat)(hk:k<s.fs.length)(x:SpT)(hx1:chk x.lo=0)(hx2:chk x.hi=0)(h40:∀ t∈a5R s.gs k x,t.length<=40):a0b C0 129 [s.D,i64 (k:Int),x.D] (txD false (a2S s.gs k x)):=by
 refine a0c.walk w1 d0P rfl fun F=>?_
 have hs:=a0H h0;have h16:=hs.2.1;have el:(((s.gs.map a0M.D).length:Nat):Int)=(s.gs.length:Int):=by rw [d9X]
 unfold a0Y.D SpT.D;refine sR 0 ?_;refine OkS.seq ?_;refine d9s w1 899 [0,1,2,3] 4 [5] rfl (by kernel_rfl) ?_;refine stI ?_;obtain ⟨fD,hfD⟩:∃ fD,s.fs.map a1N.D=fD:=⟨_,rfl⟩
 have pF:IsPure (.sl false 4 (s.fs.map a1N.D)):=d9O;rw [hfD] at pF ⊢;refine And.intro ⟨⟨b5J _,b5J _⟩,rfl,rfl,rfl⟩ ?_;refine stI ?_;refine goI a1p kB d9N d9N d9N d9N d9N d9N ?_;refine OkS.loop (α:=Nat × Nat × Nat) (fun p=>⟨[(1,i64 (k:Int)),(3,.optr 0 0 2 0 0),(5,.optr 1 1 2 0 0),(7,a6l 903 p.2.1 1 (tsD (a2W s.gs k x p.1))),(8,i64 (p.1:Int))],a5b 903 p.2.1 38 1 (tsD (a2W s.gs k x p.1))++[⟨1,1,40,2,[.agg [str (sb x.lo),str (sb x.hi)]]⟩,⟨0,0,25,2,[.agg [.sl false 4 fD,.sl false 3 (s.gs.map a0M.D)]]⟩],p.2.2⟩) (fun p=>s.gs.length - p.1)
  (fun p=>p.1<=s.gs.length) (0,_,_) (e0y _) wkI ?_
 rintro ⟨i,g1,m⟩ F hi;dsimp only at hi ⊢;rcases e0j i s.gs.length with h2|h2
 ·have e1:=ltT h2
  have wi:=wiI (i:=i) (by omega);obtain ⟨g,hg⟩:=a0J h2;have hm:(s.gs.map a0M.D)[i]? = some (.agg [str (sb g.name),txD false g.least,txD false g.most]):=by rw [e0l,hg];rfl
  have hgO:=hs.2.2 g (d9V hg);have m1:=a1V (l:=g.least) (k:=k) (by rw [hgO.1];exact hk);have m2:=a1V (l:=g.most) (k:=k) (by rw [hgO.2.1];exact hk);have hE:=hgO.2.2 k hk;have hsn:=c0U s.gs k x i;rw [show s.gs.getD i default=g from by rw [e0q,hg];rfl] at hsn;obtain ⟨a,ea⟩:∃ a,lv g.least k=a:=⟨_,rfl⟩
  obtain ⟨b,eb⟩:∃ a,lv g.most k=a:=⟨_,rfl⟩
  rw [ea,eb] at hE hsn;rw [ea] at m1;rw [eb] at m2;obtain ⟨tl,htl⟩:=a9C s.gs k x i;have hlen:=(a8h s.gs k x i).1;rw [htl] at hlen hsn ⊢;dsimp only [tsD,List.map_cons,a1c,a1d];refine goI a1p (ff3 e1 el kN) hm m1 m2 d9N d9N d9N ?_;obtain ⟨qa,ga⟩:∃ q,decide (a=[])=q:=⟨_,rfl⟩
  obtain ⟨qb,gb⟩:∃ q,decide (b=[])=q:=⟨_,rfl⟩
  obtain ⟨ra,ha⟩:∃ q,(decide (a1e (a0d x.lo) (a0d a)<=0)&&decide (a1e (a0d a) (a0d x.hi)<=0))=q:=⟨_,rfl⟩
  obtain ⟨rb,hb⟩:∃ q,(decide (a1e (a0d x.lo) (a0d b)<=0)&&decide (a1e (a0d b) (a0d x.hi)<=0))=q:=⟨_,rfl⟩
  have ta:inT a x=(!qa&&ra):=by unfold inT;rw [ga,ha]
  have tb:inT b x=(!qb&&rb):=by unfold inT;rw [gb,hb]
  have c1:qa=false->a0b C0 64 [str (sb a),.agg [str (sb x.lo),str (sb x.hi)]] (boo ra):=fun h=>by
   rw [<- ha];exact rIn a x (a1g hE.1 (e0i (ga.trans h))) hx1 hx2
  have c2:qb=false->a0b C0 64 [str (sb b),.agg [str (sb x.lo),str (sb x.hi)]] (boo rb):=fun h=>by
   rw [<- hb];exact rIn b x (a1g hE.2 (e0i (gb.trans h))) hx1 hx2
  have sa:=a1l a;have sb':=a1l b;rw [ga] at sa;rw [gb] at sb';rw [ta,tb] at hsn;have hsD:tsD (a2W s.gs k x (i+1))=str (sb x.lo)::(tsD tl++(if (!qa&&ra)=true then [str (sb a)] else [])++(if (!qb&&rb)=true then [str (sb b)] else [])):=by
   rw [hsn];unfold tsD;simp only [e1w,e1k,e1v]
   congr 1;congr 1
   ·congr 1;split<;>rfl
   ·split<;>rfl
  have htlD:(tsD tl).length<=2*i+1:=by rw [d9X];rw [d9Y] at hlen;omega
  generalize hT:tsD tl=TL at hsD htlD;rw [show List.map (fun l=>str (sb l)) tl=TL from hT];clear hsn ha hb ta tb ga gb;refine OkS.loop (α:=Nat × List D × Nat × Nat) (fun p=>⟨[(1,i64 (k:Int)),(3,.optr 0 0 2 0 0),(5,.optr 1 1 2 0 0),(7,a6l 903 p.2.2.1 1 (str (sb x.lo)::p.2.1)),(8,i64 (i:Int)),(45,.sl true 1 [str (sb a),str (sb b)]),(46,i64 2),(47,i64 (p.1:Int))],a5b 903 p.2.2.1 38 1 (str (sb x.lo)::p.2.1)++[⟨1,1,40,2,[.agg [str (sb x.lo),str (sb x.hi)]]⟩,⟨0,0,25,2,[.agg [.sl false 4 fD,.sl false 3 (s.gs.map a0M.D)]]⟩],p.2.2.2⟩) (fun p=>2 - p.1)
   (fun p=>(p.1=0/\p.2.1=TL)\/(p.1=1/\p.2.1=TL++(if (!qa&&ra)=true then [str (sb a)] else []))\/(p.1=2/\p.2.1=TL++(if (!qa&&ra)=true then [str (sb a)] else [])++(if (!qb&&rb)=true then [str (sb b)] else []))) (0,TL,g1,_) (.inl ⟨rfl,rfl⟩) wkI ?_
  rintro ⟨p,L,g2,m2⟩ F h;dsimp only at h ⊢;have f0:decide (((0:Nat):Int)<2)=true:=rfl;have f1:decide (((1:Nat):Int)<2)=true:=rfl;have f2:decide (((2:Nat):Int)<2)=false:=rfl;have v0:=wiI (i:=0) (by omega);have v1:=wiI (i:=1) (by omega);have hma:([str (sb a),str (sb b)]:List D)[0]? = some (str (sb a)):=rfl;have hmb:([str (sb a),str (sb b)]:List D)[1]? = some (str (sb b)):=rfl;have hLl:L.length<=2*i+3:=by
   have q1:(if (!qa&&ra)=true then [str (sb a)] else []).length<=1:=by split<;>exact e0b rfl
   have q2:(if (!qb&&rb)=true then [str (sb b)] else []).length<=1:=by split<;>exact e0b rfl
   rcases h with ⟨-,rfl⟩|⟨-,rfl⟩|⟨-,rfl⟩<;>(try simp only [e0x])<;>omega
  have htk:List.take (L.length+1) (str (sb x.lo)::L)=str (sb x.lo)::L:=by simp
  dsimp only [a1c,a1d];rcases h with ⟨rfl,hL⟩|⟨rfl,hL⟩|⟨rfl,hL⟩
  ·cases qa
   ·cases ra
    ·refine goI a1p (ff4 f0 v0 sa kN) hma c1 d9N d9N d9N d9N ?_
     exact ⟨(1,L,g2,_),.inr (.inl ⟨rfl,by rw [hL];simp⟩),by dsimp only;omega,wkI⟩
    ·refine goI a1p (ff5 f0 v0 sa htk kN) hma c1 d9N d9N d9N d9N ?_
     exact ⟨(1,L++[str (sb a)],_,_),.inr (.inl ⟨rfl,by rw [hL];simp⟩),by dsimp only;omega,by (dsimp only;rw [e0x];exact wkI)⟩
   ·refine goI a1p (ff4 f0 v0 sa kN) hma d9N d9N d9N d9N d9N ?_
    exact ⟨(1,L,g2,_),.inr (.inl ⟨rfl,by rw [hL];simp⟩),by dsimp only;omega,wkI⟩
  ·cases qb
   ·cases rb
    ·refine goI a1p (ff4 f1 v1 sb' kN) hmb c2 d9N d9N d9N d9N ?_
     exact ⟨(2,L,g2,_),.inr (.inr ⟨rfl,by rw [hL];simp⟩),by dsimp only;omega,wkI⟩
    ·refine goI a1p (ff5 f1 v1 sb' htk kN) hmb c2 d9N d9N d9N d9N ?_
     exact ⟨(2,L++[str (sb b)],_,_),.inr (.inr ⟨rfl,by rw [hL];simp⟩),by dsimp only;omega,by (dsimp only;rw [e0x];exact wkI)⟩
   ·refine goI a1p (ff4 f1 v1 sb' kN) hmb d9N d9N d9N d9N d9N ?_
    exact ⟨(2,L,g2,_),.inr (.inr ⟨rfl,by rw [hL];simp⟩),by dsimp only;omega,wkI⟩
  ·refine goI a1p (ff2 f2 wi) d9N d9N d9N d9N d9N d9N ?_
   exact ⟨(i+1,g2,_),h2,by dsimp only;omega,by (dsimp only;rw [show List.map (fun l=>str (sb l)) (a2W s.gs k x (i+1))=_ from hsD,<- hL];exact wkI)⟩
 have e1:=ltF h2
 have:i=s.gs.length:=by omega
 subst this;obtain ⟨tl,htl⟩:=a9C s.gs k x s.gs.length;have hE0:a5R s.gs k x=x.lo::tl:=htl;have hN:=a8h s.gs k x s.gs.length;have hcE:∀ t∈x.lo::tl,chk t=0:=fun t ht=>by
  rw [<- hE0] at ht;rcases (a3H _).1 ht with h|h|⟨g,hg,h,hq⟩
  ·rw [h];exact hx1
  ·rw [h];exact hx2
  ·have hne:=(a8B.1 hq).1
   obtain ⟨G,hG⟩:=a0J hg;have hgO:=hs.2.2 G (d9V hG);have e:s.gs.getD g default=G:=by rw [e0q,hG];rfl
   rw [e] at h;have hE:=hgO.2.2 k hk;rcases h with h|h
   ·rw [h] at hne ⊢;exact a1g hE.1 hne
   ·rw [h] at hne ⊢;exact a1g hE.2 hne
 rw [htl] at hN ⊢;obtain ⟨N,hNe⟩:∃ N,tl.length+1=N:=⟨_,rfl⟩
 rw [d9Y,hNe] at hN;have hl0:((tsD tl).length+1)=N:=by rw [d9X];exact hNe
 dsimp only [tsD] at hl0;dsimp only [tsD];rw [e1k];rw [a1c,a1d,hl0];refine goI a1p (ff2 e1 el) d9N d9N d9N d9N d9N d9N ?_;refine OkS.loop (α:=Nat × Nat) (fun p=>⟨[(7,.osl 903 g1 1 0 N),(11,i64 (p.1:Int))],[⟨903,g1,38,1,tsD (a7k (x.lo::tl) p.1)⟩],p.2⟩) (fun p=>N - p.1) (fun p=>1<=p.1/\p.1<=N) (1,_) ⟨d9Z _,by omega⟩ wkI ?_;rintro ⟨i,m⟩ F ⟨hi1,hi⟩;dsimp only at hi1 hi ⊢;have hSl:=a8G (x.lo::tl) i;rw [d9Y,hNe] at hSl;have elS:(((tsD (a7k (x.lo::tl) i)).length:Nat):Int)=(N:Int):=by rw [d9X,hSl]
 rcases e0j i N with h3|h3
 ·have e2:=ltT h3
  have wi:=wiI (i:=i) (by omega);refine goI a1p (ff2 e2 elS) d9N d9N d9N d9N d9N d9N ?_;refine OkS.loop (α:=Nat × List (List UInt8) × Nat) (fun p=>⟨[(7,.osl 903 g1 1 0 N),(11,i64 (i:Int)),(12,i64 (p.1:Int))],[⟨903,g1,38,1,tsD p.2.1⟩],p.2.2⟩) (fun p=>p.1) (fun p=>p.1<=i/\p.2.1.length=N/\bub p.1 p.2.1=bub i (a7k (x.lo::tl) i)/\∀ t∈p.2.1,chk t=0) (i,a7k (x.lo::tl) i,_) ⟨d9Z _,hSl,rfl,fun t ht=>hcE t ((b1v _ _ (by rw [d9Y,hNe];omega) t).1 ht)⟩ wkI ?_;rintro ⟨j,L,m⟩ F ⟨hj,hL,hb,hc⟩;dsimp only at hj hL hb hc ⊢;rcases j with _|q
  ·have f0:decide (((0:Nat):Int)>0)=false:=rfl
   have hfin:a7k (x.lo::tl) (i+1)=L:=hb.symm;refine goI a1p (ff2 f0 wi) d9N d9N d9N d9N d9N d9N ?_;exact ⟨(i+1,_),⟨by dsimp only;omega,h3⟩,by dsimp only;omega,by (dsimp only;rw [hfin];exact wkI)⟩
  have f0:decide (((q+1:Nat):Int)>0)=true:=d9S (by omega);have f1:IntKind.i64.wrap (((q+1:Nat):Int) - 1)=(q:Int):=by rw [wI (by omega) (by omega)];omega
  have hm1:(tsD L)[q+1]? = some (str (sb (lv L (q+1)))):=a1V (l:=L) (by omega);have hm2:(tsD L)[q]? = some (str (sb (lv L q))):=a1V (l:=L) (by omega);have cc:=a5q (hc _ (a4b (L:=L) (i:=q+1) (by omega))) (hc _ (a4b (L:=L) (i:=q) (by omega)));obtain ⟨r,hr⟩:∃ r,decide (a1e (a0d (lv L (q+1))) (a0d (lv L q))<0)=r:=⟨_,rfl⟩
  cases r
  ·have hfin:a7k (x.lo::tl) (i+1)=L:=by
    refine hb.symm.trans ?_;unfold bub;exact d9Q (e0i hr)
   refine goI a1p (ff7 f0 f1 hr hm1 hm2 wi (ff2 kN e0v)) cc d9N d9N d9N d9N d9N ?_;exact ⟨(i+1,_),⟨by dsimp only;omega,h3⟩,by dsimp only;omega,by (dsimp only;rw [hfin];exact wkI)⟩
  ·have hq:q+1<L.length:=by omega
   refine d9A (α:=Nat) (fun n=>⟨[(7,.osl 903 g1 1 0 N),(11,i64 (i:Int)),(12,i64 ((q+1:Nat):Int))],[⟨903,g1,38,1,tsD L⟩],n⟩) (fun _=>True) ?_ ?_
   ·refine goI a1p (ff7 f0 f1 hr hm1 hm2 wi (ff2 kN e0v)) cc d9N d9N d9N d9N d9N ?_
    exact ⟨by trivial,_,trivial,wkI⟩
   rintro n0 -;refine OkS.seq ?_;refine OkS.block ?_;have hm3:((tsD L).set (q+1) (str (sb (lv L q))))[q]? = some (str (sb (lv L q))):=by rw [e1n (by omega)];exact hm2
   refine d9u w1 1700 [0,1,2,3,4,5,6,7,8,9,10,11,12,13,14,15] [16,17] 15 [10,11,12,13,8,7,6,5,1,0,9,14] (903) (by kernel_rfl) (by kernel_rfl) ?_;refine dsI ?_;refine gvI (ff5 f1 hm1 hm2 kN e0v) ?_;refine And.intro (.inl d9N) ?_;refine goI a1p (ff6 f1 hm1 hm2 hm3 kN e0v) d9N d9N d9N d9N d9N d9N ?_;refine ⟨(q,(L.set (q+1) (lv L q)).set q (lv L (q+1)),_),⟨by dsimp only;omega,by dsimp only;rw [e0G,e0G];exact hL,?_,fun t ht=>hc t ((b6q hq t).1 ht)⟩,by dsimp only;omega,by (dsimp only [tsD];rw [List.map_set,List.map_set];exact wkI)⟩;refine Eq.trans ?_ hb;dsimp only
   conv=>rhs;unfold bub
   rw [d9P (e0p hr)]
 have e2:=ltF h3
 have:i=N:=by omega
 subst this;obtain ⟨S,hS⟩:∃ S,a7k (x.lo::tl) i=S:=⟨_,rfl⟩
 have hmT:a2S s.gs k x=a5p S i:=by
  unfold a2S a5l;rw [hE0,a8G,d9Y,hNe,hS]
 have hcS:∀ t∈S,chk t=0/\t.length<=40:=fun t ht=>by
  rw [<- hS] at ht;have h1:=(b1v _ _ (by rw [d9Y,hNe];omega) t).1 ht;exact ⟨hcE t h1,h40 t (by rw [hE0];exact h1)⟩
 rw [hmT];rw [hS] at hSl elS ⊢;clear hmT hS hE0 htl hcE;refine goI a1p (ff2 e2 elS) d9N d9N d9N d9N d9N d9N ?_;refine OkS.loop (α:=Nat × Nat × Nat) (fun p=>⟨[(7,.osl 903 g1 1 0 i),(13,a6l 2406 p.2.1 1 (tsD (a5p S p.1))),(14,i64 (p.1:Int))],a5b 2406 p.2.1 38 1 (tsD (a5p S p.1))++[⟨903,g1,38,1,tsD S⟩],p.2.2⟩) (fun p=>i - p.1) (fun p=>p.1<=i) (0,0,_) (e0y _) wkI ?_;rintro ⟨j,g2,m3⟩ F hj;dsimp only at hj ⊢;rcases e0j j i with h4|h4
 rotate_left
 ·have e3:=ltF h4
  have:j=i:=by omega
  subst this;refine goI a1p (ff2 e3 elS) d9N d9N d9N d9N d9N d9N ?_;exact ⟨_,a4x b1X rfl,IsPure.out,rfl⟩
 have e3:=ltT h4;have wj:=wiI (i:=j) (by omega);have hm:(tsD S)[j]? = some (str (sb (lv S j))):=a1V (l:=S) (by omega);rcases j with _|q
 ·have f0:decide (((0:Nat):Int)>0)=false:=rfl
  refine goI a1p (ff7 e3 elS f0 hm wj kN e0v) d9N d9N d9N d9N d9N d9N ?_;exact ⟨(1,_,_),h4,by dsimp only;omega,by (dsimp only;exact wkI)⟩
 have f0:decide (((q+1:Nat):Int)>0)=true:=d9S (by omega);have f1:IntKind.i64.wrap (((q+1:Nat):Int) - 1)=(q:Int):=by rw [wI (by omega) (by omega)];omega
 have hm0:(tsD S)[q]? = some (str (sb (lv S q))):=a1V (l:=S) (by omega);obtain ⟨y,l,hyl⟩:=c3c S q;have hol:=b4Y S (q+1);have hsn:a5p S (q+2)=y::(l++[b8b (lv S q) (lv S (q+1))]++[lv S (q+1)]):=by
  show a5p S (q+1)++(if 0<q+1 then [b8b (lv S (q+1 - 1)) (lv S (q+1))] else [])++[lv S (q+1)]=_;rw [hyl,d9P (Nat.succ_pos q),e2o];rfl
 have ca:=hcS _ (a4b (L:=S) (i:=q) (by omega));have cb:=hcS _ (a4b (L:=S) (i:=q+1) (by omega));have cA:=d6O (a0d (lv S q)) (a0d (lv S (q+1))) 3 3 (rk3 ca.1 ca.2) (rk3 cb.1 cb.2) (by decide);have cH:=d5b (a0d (lv S q)+a0d (lv S (q+1))) 6 (d1J (a9H ca.1 ca.2) (a9H cb.1 cb.2)) (by decide);rw [c9A] at cH;rw [b0W ca.1,b0W cb.1] at cA;rw [hyl] at hol ⊢;have hld:(tsD l).length=l.length:=d9X ..;have hsnD:tsD (a5p S (q+2))=str (sb y)::(tsD l++[str (sb (b8b (lv S q) (lv S (q+1))))]++[str (sb (lv S (q+1)))]):=by
  rw [hsn];simp [tsD]
 rw [show tsD (y::l)=str (sb y)::tsD l from rfl];rw [a1c,a1d];obtain ⟨TL,hTL⟩:∃ TL,tsD l=TL:=⟨_,rfl⟩
 rw [hTL] at hld hsnD ⊢;rw [d9Y] at hol;have htk:List.take (TL.length+1) (str (sb y)::TL)=str (sb y)::TL:=by simp
 have hl2:(TL++[str (sb (b8b (lv S q) (lv S (q+1))))]).length=TL.length+1:=by simp
 have htk2:List.take (TL.length+1+1) (str (sb y)::(TL++[str (sb (b8b (lv S q) (lv S (q+1))))]))=str (sb y)::(TL++[str (sb (b8b (lv S q) (lv S (q+1))))]):=e0k (by rw [d9Y,hl2];exact d9Z _);refine goI a1p (ff7 e3 elS f0 f1 hm hm0 (ff5 wj htk htk2 kN e0v)) cA cH d9N d9N d9N d9N ?_;exact ⟨(q+2,_,_),h4,by dsimp only;omega,by (dsimp only;rw [hsnD,a1c,a1d,show (TL++[str (sb (b8b (lv S q) (lv S (q+1))))]++[str (sb (lv S (q+1)))]).length+1=TL.length+1+1+1 from by simp];exact wkI)⟩
abbrev a4p:Dr:=[(6,[0,1,2,3,4,5],[6,7]),(10,[0,1,2,3,4,5],[6,7])]
open Go.Proofs Go.RowKit
set_option maxRecDepth 20000
set_option maxHeartbeats 4000000
def P40 (v:List SpT):Prop:=∀ x∈v,x.lo.length<=40/\x.hi.length<=40
theorem c5X {l:List (List UInt8)}(h:S40 l)(k:Nat):(lv l k).length<=40:=by
 unfold lv;rw [e0q];rcases h1:l[k]? with _|x
 ·exact e0y _
 ·exact h x (d9V h1)
theorem b9C {s:a0Y}(h0:a0l s=0)(h4:G40 s){k:Nat}(hk:k<s.fs.length){x:SpT}(h1:chk x.lo=0)(h2:chk x.hi=0)(h3:x.lo.length<=40/\x.hi.length<=40):∀ t∈a5R s.gs k x,chk t=0/\t.length<=40:=fun t ht=>by
 have hs:=a0H h0;rcases (a3H _).1 ht with h|h|⟨g,hg,h,hq⟩
 ·rw [h];exact ⟨h1,h3.1⟩
 ·rw [h];exact ⟨h2,h3.2⟩
 ·have hne:=(a8B.1 hq).1
  obtain ⟨G,hG⟩:=a0J hg;have hm:=d9V hG;have hgO:=hs.2.2 G hm;have e:s.gs.getD g default=G:=by rw [e0q,hG];rfl
  rw [e] at h;have hE:=hgO.2.2 k hk;rcases h with h|h
  ·rw [h] at hne ⊢;exact ⟨a1g hE.1 hne,c5X (h4 G hm).1 k⟩
  ·rw [h] at hne ⊢;exact ⟨a1g hE.2 hne,c5X (h4 G hm).2 k⟩
theorem b3j (gs:List a0M)(k:Nat)(x:SpT):(a2S gs k x).length<=4*gs.length+4:=by
 have h1:=b4Y (a5l gs k x) (a5l gs k x).length;have h2:=(a8h gs k x gs.length).1;have h3:(a5l gs k x).length=(a5R gs k x).length:=a8G _ _;unfold a5R at h3;unfold a2S;omega
theorem b4e (gs:List a0M)(k:Nat)(M:List (List UInt8)):∀ n,(a3x gs k M n).length<=n
 | 0=>d9Z _
 | n+1=>by
  have:=b4e gs k M n
  unfold a3x;split
  ·omega
  ·rw [e0x,e1u];omega
abbrev a7u (l:List (List Nat)):List D:=l.map fun o=>.sl false 1 (a0S o)
def a4C (gs:List a0M)(v:List SpT)(n:Nat):List (List Nat):=(List.range n).map fun k=>c5b gs k (sv v k)
theorem b5d (gs:List a0M)(v:List SpT)(n:Nat):a4C gs v (n+1)=a4C gs v n++[c5b gs n (sv v n)]:=by
 unfold a4C;rw [List.range_succ,e1w];rfl
theorem b6X (gs:List a0M)(v:List SpT)(n:Nat):(a4C gs v n).length=n:=by
 unfold a4C;rw [d9X,e2w]
theorem c3b (s:a0Y)(h0:a0l s=0)(h4:G40 s)(b:Bool)(v:List SpT)(hn:v.length=s.fs.length)(hc:∀ x∈v,chk x.lo=0/\chk x.hi=0)(hv4:P40 v):a0b C0 62 [s.D,spD b v] (.sl false 1 (a7u (b2l s.gs v))):=by
 refine a0c.walk w1 d4I rfl fun F=>?_
 have hs:=a0H h0;have h16:=hs.2.1;have h8:=hs.1;have el:(((v.map SpT.D).length:Nat):Int)=(v.length:Int):=by rw [d9X]
 have cm:∀ k (x:SpT),k<s.fs.length->chk x.lo=0->chk x.hi=0->x.lo.length<=40/\x.hi.length<=40->a0b C0 129 [s.D,i64 (k:Int),x.D] (txD false (a2S s.gs k x)):=fun k x hk h1 h2 h3=>d2I s h0 k hk x h1 h2 fun t ht=>(b9C h0 h4 hk h1 h2 h3 t ht).2
 have cf:∀ k (l:List UInt8),k<s.fs.length->chk l=0->a0b C0 130 [s.D,i64 (k:Int),str (sb l)] (i64 (a4O s.gs k (a0d l):Nat)):=fun k l hk hl=>c7u s hs k hk l hl
 have pS:IsPure s.D:=d9O;unfold a0Y.D at cm cf pS ⊢;obtain ⟨fD,hfD⟩:∃ fD,s.fs.map a1N.D=fD:=⟨_,rfl⟩
 obtain ⟨gD,hgD⟩:∃ gD,s.gs.map a0M.D=gD:=⟨_,rfl⟩
 have pF:IsPure (.sl false 4 fD):=by rw [<- hfD];exact d9O
 have pG:IsPure (.sl false 3 gD):=by rw [<- hgD];exact d9O
 rw [hfD,hgD] at cm cf pS ⊢;have pV:IsPure (.sl b 2 (v.map SpT.D)):=d9O;refine goI a4p kB d9N d9N d9N d9N d9N d9N ?_;refine OkS.loop (α:=Nat × Nat × Nat) (fun p=>⟨[(1,.sl b 2 (v.map SpT.D)),(2,.optr 0 0 2 0 0),(5,a6l 1303 p.2.1 1 (a7u (a4C s.gs v p.1))),(6,i64 (p.1:Int))],[⟨0,0,25,2,[.agg [.sl false 4 fD,.sl false 3 gD]]⟩]++a5b 1303 p.2.1 31 1 (a7u (a4C s.gs v p.1)),p.2.2⟩) (fun p=>v.length - p.1) (fun p=>p.1<=v.length) (0,0,_) (e0y _) wkI ?_;rintro ⟨k,g1,m⟩ F hk;dsimp only at hk ⊢;rcases e0j k v.length with h2|h2
 rotate_left
 ·have e1:=ltF h2
  have:k=v.length:=by omega
  subst this;refine goI a4p (ff2 e1 el) d9N d9N d9N d9N d9N d9N ?_;exact ⟨_,a4x (by rcases a7u (a4C s.gs v v.length) with _|⟨y,l⟩;exact .inl rfl;right;rfl) rfl,IsPure.out,rfl⟩
 have e1:=ltT h2;have wk:=wiI (i:=k) (by omega);obtain ⟨x,hx⟩:=a0J h2;have hm:(v.map SpT.D)[k]? = some (.agg [str (sb x.lo),str (sb x.hi)]):=by rw [e0l,hx];rfl
 have hxm:=d9V hx;have hxc:=hc x hxm;have hx4:=hv4 x hxm;have c1:=cm k x (by omega) hxc.1 hxc.2 hx4;have hMc:=b8B (b9C h0 h4 (k:=k) (by omega) hxc.1 hxc.2 hx4);have hMl:=b3j s.gs k x;have hsn:=b5d s.gs v k;have hRl:=b6X s.gs v k;rw [b3o hx] at hsn;have hown:c5b s.gs k x=a3x s.gs k (a2S s.gs k x) (a2S s.gs k x).length:=rfl;rw [hown] at hsn;obtain ⟨M,hM⟩:∃ M,a2S s.gs k x=M:=⟨_,rfl⟩
 rw [hM] at c1 hMc hMl hsn;unfold SpT.D at c1;have elM:(((M.map fun l=>str (sb l)).length:Nat):Int)=(M.length:Int):=by rw [d9X]
 have hsnD:a7u (a4C s.gs v (k+1))=a7u (a4C s.gs v k)++[.sl false 1 (a0S (a3x s.gs k M M.length))]:=by rw [hsn];exact e1w
 have hRl':(a7u (a4C s.gs v k)).length<=8:=by rw [d9X,hRl];omega
 obtain ⟨R,hR⟩:∃ R,a7u (a4C s.gs v k)=R:=⟨_,rfl⟩
 rw [hR] at hsnD hRl' ⊢;obtain ⟨AD,hAD⟩:∃ A,a6l 1303 g1 1 R=A:=⟨_,rfl⟩
 obtain ⟨AH,hAH⟩:∃ A,a5b 1303 g1 31 1 R=A:=⟨_,rfl⟩
 have hget:∀ q,Nat.beq 1303 q=false->Hp.get AH q=none:=fun q hq=>by rw [<- hAH];exact b5I hq
 rw [hAD,hAH];refine goI a4p (ff3 e1 el kN) hm c1 d9N d9N d9N d9N ?_;refine OkS.loop (α:=Nat × Nat × Nat) (fun p=>⟨[(1,.sl b 2 (v.map SpT.D)),(2,.optr 0 0 2 0 0),(5,AD),(6,i64 (k:Int)),(7,a6l 1203 p.2.1 1 (a0S (a3x s.gs k M p.1))),(8,.sl false 1 (M.map fun l=>str (sb l))),(9,i64 (p.1:Int))],[⟨0,0,25,2,[.agg [.sl false 4 fD,.sl false 3 gD]]⟩]++(a5b 1203 p.2.1 3 1 (a0S (a3x s.gs k M p.1))++AH),p.2.2⟩) (fun p=>M.length - p.1) (fun p=>p.1<=M.length) (0,0,_) (e0y _) wkI ?_;rintro ⟨i,g2,m2⟩ F hi;dsimp only at hi ⊢;rcases e0j i M.length with h3|h3
 ·have e2:=ltT h3
  have wi:=wiI (i:=i) (by omega);have hml:(M.map fun l=>str (sb l))[i]? = some (str (sb (lv M i))):=a1V (l:=M) h3;have c2:=cf k (lv M i) (by omega) (hMc _ (a4b h3));have hol:=b4e s.gs k M i;have hsO:a3x s.gs k M (i+1)=if a4O s.gs k (a0d (lv M i))∈a3x s.gs k M i then a3x s.gs k M i else a3x s.gs k M i++[a4O s.gs k (a0d (lv M i))]:=rfl
  obtain ⟨O,hO⟩:∃ O,a3x s.gs k M i=O:=⟨_,rfl⟩
  obtain ⟨G,hG⟩:∃ G,a4O s.gs k (a0d (lv M i))=G:=⟨_,rfl⟩
  rw [hG] at c2;rw [hO,hG] at hsO;rw [hO] at hol ⊢;have ch:=d6X false O G (by omega);refine goI a4p (ff3 e2 elM kN) hml c2 d9N d9N d9N d9N ?_;refine a0j.own _ (d9F ch rfl (d3V (d8Q (a4x (by rcases a0S O with _|⟨y,l⟩;exact .inl rfl;exact .inr rfl) rfl)) (FzS.refl _ _)) d9O (.prim _)) ?_;rintro d H2 n2 ⟨rfl,rfl,rfl⟩
  by_cases hG2:G∈O
  ·rw [d9P hG2] at hsO
   rw [show O.contains G=true from List.contains_iff_mem.2 hG2];refine goI a4p wi d9N d9N d9N d9N d9N d9N ?_;exact ⟨(i+1,_,_),h3,by dsimp only;omega,by (dsimp only;rw [hsO];exact wkI)⟩
  ·rw [d9Q hG2] at hsO
   rw [show O.contains G=false from by rw [Bool.eq_false_iff];exact fun q=>hG2 (List.contains_iff_mem.1 q)];have hsD:a0S (a3x s.gs k M (i+1))=a0S O++[i64 (G:Int)]:=by rw [hsO];exact e1w
   have hOl:(a0S O).length<=i:=by rw [d9X];exact hol
   clear ch hsO hol;generalize a0S O=L at *;rcases L with _|⟨y,L⟩
   ·dsimp only [a2o,a2l,List.nil_append]
    repeat (first|(refine a0p rfl rfl ?_;refine a1X (fun _ _=>rfl) ?_)|(refine a0v rfl rfl ?_;refine a1Z (fun _ _=>rfl) ?_)|refine a1j rfl rfl rfl (by first|(simp only [];done)|fail) (by exact sdI) (a1X (fun _ _=>rfl) ?_)|refine a4Y rfl rfl rfl (by first|(simp only [];done)|fail) (by exact sdI) ?_|refine a1Q rfl rfl rfl (by first|(simp only [];done)|fail) (by exact sdI) (a1Z (fun _ _=>rfl) ?_)|refine a5g rfl rfl rfl (by first|(simp only [];done)|fail) (by exact sdI) ?_|(refine a0p rfl rfl ?_;refine a5T rfl rfl rfl (by (try dsimp only);(try simp only []);exact rfl) ?_)|(refine a0p rfl rfl ?_;refine a4B rfl rfl rfl (by (try dsimp only);(try simp only []);exact rfl) ?_)|(refine a1j rfl rfl rfl (by first|(simp only [];done)|fail) (by exact sdI) ?_;refine a5T rfl rfl rfl (by (try dsimp only);(try simp only []);exact rfl) ?_)|(refine a1j rfl rfl rfl (by first|(simp only [];done)|fail) (by exact sdI) ?_;refine a4B rfl rfl rfl (by (try dsimp only);(try simp only []);exact rfl) ?_)|(refine a0v rfl rfl ?_;refine a4L rfl rfl rfl (by (try dsimp only);(try simp only []);exact rfl) ?_)|(refine a1Q rfl rfl rfl (by first|(simp only [];done)|fail) (by exact sdI) ?_;refine a4L rfl rfl rfl (by (try dsimp only);(try simp only []);exact rfl) ?_))
    refine stI ?_;refine ifI ?_;refine rI 1200 ?_;refine OkS.perm (List.Perm.swap _ _ _) ?_;refine goI a4p wi d9N d9N d9N d9N d9N d9N ?_;exact ⟨(i+1,_,_),h3,by dsimp only;omega,by (dsimp only;rw [hsD];exact wkI)⟩
   ·have htk:List.take (L.length+1) (y::L)=y::L:=by simp
    simp only [d9Y] at hOl;dsimp only [a1c,a1d]
    repeat (first|(refine a0p rfl rfl ?_;refine a1X (fun _ _=>rfl) ?_)|(refine a0v rfl rfl ?_;refine a1Z (fun _ _=>rfl) ?_)|refine a1j rfl rfl rfl (by first|(simp only [];done)|fail) (by exact sdI) (a1X (fun _ _=>rfl) ?_)|refine a4Y rfl rfl rfl (by first|(simp only [];done)|fail) (by exact sdI) ?_|refine a1Q rfl rfl rfl (by first|(simp only [];done)|fail) (by exact sdI) (a1Z (fun _ _=>rfl) ?_)|refine a5g rfl rfl rfl (by first|(simp only [];done)|fail) (by exact sdI) ?_|(refine a0p rfl rfl ?_;refine a5T rfl rfl rfl (by (try dsimp only);(try simp only []);exact rfl) ?_)|(refine a0p rfl rfl ?_;refine a4B rfl rfl rfl (by (try dsimp only);(try simp only []);exact rfl) ?_)|(refine a1j rfl rfl rfl (by first|(simp only [];done)|fail) (by exact sdI) ?_;refine a5T rfl rfl rfl (by (try dsimp only);(try simp only []);exact rfl) ?_)|(refine a1j rfl rfl rfl (by first|(simp only [];done)|fail) (by exact sdI) ?_;refine a4B rfl rfl rfl (by (try dsimp only);(try simp only []);exact rfl) ?_)|(refine a0v rfl rfl ?_;refine a4L rfl rfl rfl (by (try dsimp only);(try simp only []);exact rfl) ?_)|(refine a1Q rfl rfl rfl (by first|(simp only [];done)|fail) (by exact sdI) ?_;refine a4L rfl rfl rfl (by (try dsimp only);(try simp only []);exact rfl) ?_))
    refine stI ?_;refine ifI ?_;refine d9l w1 1200 (by kernel_rfl) ?_;refine nwI htk ?_;refine OkS.perm (List.Perm.swap _ _ _) ?_;refine goI a4p wi d9N d9N d9N d9N d9N d9N ?_;exact ⟨(i+1,_,_),h3,by dsimp only;omega,by (dsimp only;rw [hsD,a2i];exact wkI)⟩
 have e2:=ltF h3
 have:i=M.length:=by omega
 subst this;refine OkS.seq ?_;refine sZ 800 ?_;refine nwI (ff2 e2 elM) ?_;refine ifI ?_;refine exI ?_;refine OkS.weak ⟨[(1,.sl b 2 (v.map SpT.D)),(2,.optr 0 0 2 0 0),(5,AD),(6,i64 (k:Int)),(7,.sl false 1 (a0S (a3x s.gs k M M.length)))],[⟨0,0,25,2,[.agg [.sl false 4 fD,.sl false 3 gD]]⟩]++AH,_⟩ ⟨?_,?_,d9Z _⟩ ?_
 ·exact .keep (b4N (a4u _))
 ·refine ⟨.refl _,.refl _,.refl _,.refl _,?_,trivial⟩
  exact a4x (by rcases a0S (a3x s.gs k M M.length) with _|⟨y,l⟩;exact .inl rfl;exact .inr rfl) (hget _ rfl)
 have pP:IsPure (.sl false 1 (a0S (a3x s.gs k M M.length))):=d9O;obtain ⟨PD,hPD⟩:∃ r,a0S (a3x s.gs k M M.length)=r:=⟨_,rfl⟩
 rw [hPD] at pP hsnD ⊢;clear hget;rcases R with _|⟨y,l⟩
 ·subst hAD hAH
  dsimp only [a2o,a2l,List.append_nil];refine rI 1300 ?_;refine OkS.perm (List.Perm.swap _ _ _) ?_;refine goI a4p wk d9N d9N d9N d9N d9N d9N ?_;exact ⟨(k+1,_,_),h2,by dsimp only;omega,by (dsimp only;rw [hsnD];exact wkI)⟩
 ·subst hAD hAH
  have htk:List.take (l.length+1) (y::l)=y::l:=by simp
  simp only [d9Y] at hRl';dsimp only [a1c,a1d];refine d9l w1 1300 (by kernel_rfl) ?_;refine nwI htk ?_;refine OkS.perm (List.Perm.swap _ _ _) ?_;refine goI a4p wk d9N d9N d9N d9N d9N d9N ?_;exact ⟨(k+1,_,_),h2,by dsimp only;omega,by (dsimp only;rw [hsnD,a2i];exact wkI)⟩
theorem b4V (l:List (List Nat))(n:Nat):a2Q l (n+1)=a2Q l n++if (b9Y l n&&d0v l n)=true then [n] else []:=by
 unfold a2Q;rw [List.range_succ,List.filter_append]
 congr 1
 rw [List.filter_cons];rfl
theorem b7C (l:List (List Nat))(n:Nat):(a2Q l n).length<=n:=e0A (List.length_filter_le _ _) (by rw [e2w];exact d9Z _)
theorem c8F {l:List (List Nat)}{i:Nat}{o:List Nat}(h:l[i]? = some o):(a7u l)[i]? = some (.sl false 1 (a0S o)):=by
 rw [e0l,h];rfl
theorem d4J {α}{l:List α}{i:Nat}{a:α}(f:α->Bool)(h:l[i]? = some a):(l.take (i+1)).any f=((l.take i).any f||f a):=by
 rw [e1F,h,List.any_append];simp
theorem d7E {α}{l:List α}{i:Nat}{a:α}(f:α->Bool)(h:l[i]? = some a):(l.take (i+1)).all f=((l.take i).all f&&f a):=by
 rw [e1F,h,e2F];simp
theorem b8J (s:a0Y)(h0:a0l s=0)(h4:G40 s)(b:Bool)(v:List SpT)(hn:v.length=s.fs.length)(hc:∀ x∈v,chk x.lo=0/\chk x.hi=0)(hv4:P40 v):a0b C0 21 [s.D,spD b v] (.sl false 1 (a0S (a2Q (b2l s.gs v) (s.gs.length+1)))):=by
 refine a0c.walk w1 d4s rfl fun F=>?_
 have hs:=a0H h0;have h16:=hs.2.1;have h8:=hs.1;have cF:=c3b s h0 h4 b v hn hc hv4;have elG:(((s.gs.map a0M.D).length:Nat):Int)=(s.gs.length:Int):=by rw [d9X]
 have hLl:(b2l s.gs v).length=s.fs.length:=by unfold b2l;rw [d9X,e2w,hn]
 have hol:∀ o∈b2l s.gs v,o.length<=1000:=fun o ho=>by
  unfold b2l at ho;obtain ⟨k,-,rfl⟩:=List.mem_map.1 ho;have a1:=b4e s.gs k (a2S s.gs k (sv v k)) (a2S s.gs k (sv v k)).length;have a2:=b3j s.gs k (sv v k);unfold c5b;omega
 have pS:IsPure s.D:=d9O;unfold a0Y.D at cF pS ⊢;obtain ⟨fD,hfD⟩:∃ fD,s.fs.map a1N.D=fD:=⟨_,rfl⟩
 obtain ⟨gD,hgD⟩:∃ gD,s.gs.map a0M.D=gD:=⟨_,rfl⟩
 rw [hfD,hgD] at cF pS ⊢;rw [hgD] at elG;obtain ⟨L,hL⟩:∃ L,b2l s.gs v=L:=⟨_,rfl⟩
 rw [hL] at cF hLl hol ⊢;obtain ⟨N,hN⟩:∃ N,s.gs.length=N:=⟨_,rfl⟩
 rw [hN] at elG h16 ⊢;have elL:(((a7u L).length:Nat):Int)=(L.length:Int):=by rw [d9X]
 have hat:∀ (i:Nat) (o:List Nat),L[i]? = some o->(a7u L)[i]? = some (.sl false 1 (a0S o)):=fun i o h=>c8F h
 have pL:IsPure (.sl false 1 (a7u L)):=d9O;generalize a7u L=LD at cF elL hat pL;refine goI dr0 kB cF d9N d9N d9N d9N d9N ?_;refine OkS.loop (α:=Nat × Nat × Nat) (fun p=>⟨[(2,.optr 0 0 2 0 0),(5,.sl false 1 LD),(6,a6l 1803 p.2.1 1 (a0S (a2Q L p.1))),(7,i64 (p.1:Int))],[⟨0,0,25,2,[.agg [.sl false 4 fD,.sl false 3 gD]]⟩]++a5b 1803 p.2.1 3 1 (a0S (a2Q L p.1)),p.2.2⟩) (fun p=>N+1 - p.1) (fun p=>p.1<=N+1) (0,0,_) (e0y _) wkI ?_;rintro ⟨g,g1,m⟩ F hg;dsimp only at hg ⊢;rcases e0j N g with h2|h2
 ·have e1:decide ((g:Int)<=(N:Int))=false:=d9U (by omega)
  have:g=N+1:=by omega
  subst this;refine goI dr0 (ff2 e1 elG) d9N d9N d9N d9N d9N d9N ?_;exact ⟨_,a4x (by rcases a0S (a2Q L (N+1)) with _|⟨y,l⟩;exact .inl rfl;exact .inr rfl) rfl,IsPure.out,rfl⟩
 have e1:decide ((g:Int)<=(N:Int))=true:=d9S (by omega);have wg:=wiI (i:=g) (by omega);have hsnD:a0S (a2Q L (g+1))=a0S (a2Q L g)++(if (b9Y L g&&d0v L g)=true then [i64 (g:Int)] else []):=by
  rw [b4V];unfold a0S;rw [e1w]
  congr 1
  split<;>rfl
 have hRl:(a0S (a2Q L g)).length<=g:=by rw [d9X];exact b7C L g
 generalize a0S (a2Q L g)=R at hsnD hRl ⊢;obtain ⟨AD,hAD⟩:∃ A,a6l 1803 g1 1 R=A:=⟨_,rfl⟩
 obtain ⟨AH,hAH⟩:∃ A,a5b 1803 g1 3 1 R=A:=⟨_,rfl⟩
 rw [hAD,hAH];refine goI dr0 (ff2 e1 elG) d9N d9N d9N d9N d9N d9N ?_;refine OkS.loop (α:=Nat × Bool × Bool × Nat) (fun p=>⟨[(2,.optr 0 0 2 0 0),(5,.sl false 1 LD),(6,AD),(7,i64 (g:Int)),(8,boo p.2.1),(9,boo p.2.2.1),(10,i64 (p.1:Int))],[⟨0,0,25,2,[.agg [.sl false 4 fD,.sl false 3 gD]]⟩]++AH,p.2.2.2⟩) (fun p=>L.length - p.1) (fun p=>p.1<=L.length/\p.2.1=(L.take p.1).any (fun o=>o.any fun a=>decide (a=g))/\p.2.2.1=(L.take p.1).all fun o=>o.any fun a=>decide (a<=g)) (0,false,true,_) ⟨e0y _,rfl,rfl⟩ wkI ?_;rintro ⟨k,sm,al,m2⟩ F ⟨hk,hsm,hal⟩;dsimp only at hk hsm hal ⊢;rcases e0j k L.length with h3|h3
 ·have e2:=ltT h3
  have wk:=wiI (i:=k) (by omega);obtain ⟨o,ho⟩:=a0J h3;have hm:=hat k o ho;have elo:(((a0S o).length:Nat):Int)=(o.length:Int):=by rw [d9X]
  have hol:=hol o (d9V ho);have hS:=d4J (fun o:List Nat=>o.any fun a=>decide (a=g)) ho;have hA:=d7E (fun o:List Nat=>o.any fun a=>decide (a<=g)) ho;rw [<- hsm] at hS;rw [<- hal] at hA;have hao:∀ (i a:Nat),o[i]? = some a->(a0S o)[i]? = some (i64 (a:Int)):=fun i a h=>c0G h
  generalize a0S o=oD at hm elo hao;refine goI dr0 (ff2 e2 elL) d9N d9N d9N d9N d9N d9N ?_;refine OkS.loop (α:=Nat × Bool × Bool × Nat) (fun p=>⟨[(2,.optr 0 0 2 0 0),(5,.sl false 1 LD),(6,AD),(7,i64 (g:Int)),(8,boo p.2.2.1),(9,boo al),(10,i64 (k:Int)),(11,boo p.2.1),(12,i64 (p.1:Int))],[⟨0,0,25,2,[.agg [.sl false 4 fD,.sl false 3 gD]]⟩]++AH,p.2.2.2⟩) (fun p=>o.length - p.1) (fun p=>p.1<=o.length/\p.2.1=(o.take p.1).any (fun a=>decide (a<=g))/\p.2.2.1=(sm||(o.take p.1).any fun a=>decide (a=g))) (0,false,sm,_) ⟨e0y _,rfl,by simp⟩ wkI ?_;rintro ⟨i,lo,s2,m3⟩ F ⟨hi,hlo,hs2⟩;dsimp only at hi hlo hs2 ⊢;rcases e0j i o.length with h5|h5
  ·have e3:=ltT h5
   have wi:=wiI (i:=i) (by omega);obtain ⟨a,ha⟩:=a0J h5;have hma:=hao i a ha;have q1:decide ((a:Int)<=(g:Int))=decide (a<=g):=by rw [e0O];omega
   have q2:=b9O a g;have n1:=d4J (fun a=>decide (a<=g)) ha;have n2:=d4J (fun a=>decide (a=g)) ha;rw [<- hlo] at n1;have n2':(sm||(o.take (i+1)).any fun a=>decide (a=g))=(s2||decide (a=g)):=by rw [n2,<- Bool.or_assoc,<- hs2]
   obtain ⟨r1,hr1⟩:∃ r,decide (a<=g)=r:=⟨_,rfl⟩
   obtain ⟨r2,hr2⟩:∃ r,decide (a=g)=r:=⟨_,rfl⟩
   rw [hr1] at q1 n1;rw [hr2] at q2 n2';clear n2 hs2 hlo hr1 hr2;cases lo<;>cases s2
   all_goals
    refine goI dr0 (ff6 e3 elo q1 q2 wi kN) hm hma d9N d9N d9N d9N ?_;exact ⟨(i+1,_,_,_),⟨h5,n1.symm,n2'.symm⟩,by dsimp only;omega,wkI⟩
  ·have e3:=ltF h5
   have:i=o.length:=by omega
   subst this;rw [e1S] at hlo hs2;rw [<- hlo] at hA;rw [<- hs2] at hS;cases al
   all_goals
    refine goI dr0 (ff4 e3 elo wk kN) hm d9N d9N d9N d9N d9N ?_;exact ⟨(k+1,_,_,_),⟨h3,hS.symm,hA.symm⟩,by dsimp only;omega,wkI⟩
 have e2:=ltF h3
 have:k=L.length:=by omega
 subst this;rw [e1S] at hsm hal;have hS:b9Y L g=sm:=hsm.symm;have hA:d0v L g=al:=hal.symm;rw [hS,hA] at hsnD;clear hsm hal hS hA;cases sm
 ·have hsnD:a0S (a2Q L (g+1))=R:=by rw [hsnD];simp
  subst hAD hAH;refine goI dr0 (ff3 e2 elL wg) d9N d9N d9N d9N d9N d9N ?_;exact ⟨(g+1,_,_),by dsimp only;omega,by dsimp only;omega,by (dsimp only;rw [hsnD];exact wkI)⟩
 cases al
 ·have hsnD:a0S (a2Q L (g+1))=R:=by rw [hsnD];simp
  subst hAD hAH;refine goI dr0 (ff3 e2 elL wg) d9N d9N d9N d9N d9N d9N ?_;exact ⟨(g+1,_,_),by dsimp only;omega,by dsimp only;omega,by (dsimp only;rw [hsnD];exact wkI)⟩
 have hsnD:a0S (a2Q L (g+1))=R++[i64 (g:Int)]:=hsnD;refine OkS.seq ?_;refine sZ 800 ?_;refine nwI (ff2 e2 elL) ?_;refine ifI ?_;refine exI ?_;refine sZ 1700 ?_;refine gwI kT ?_;refine ifI ?_;rcases R with _|⟨y,l⟩
 ·subst hAD hAH
  dsimp only [a2o,a2l,List.append_nil];refine rI 1800 ?_;refine OkS.perm (List.Perm.swap _ _ _) ?_;refine goI dr0 wg d9N d9N d9N d9N d9N d9N ?_;exact ⟨(g+1,_,_),by dsimp only;omega,by dsimp only;omega,by (dsimp only;rw [hsnD];exact wkI)⟩
 ·subst hAD hAH
  have htk:List.take (l.length+1) (y::l)=y::l:=by simp
  simp only [d9Y] at hRl;dsimp only [a1c,a1d];refine d9l w1 1800 (by kernel_rfl) ?_;refine nwI htk ?_;refine OkS.perm (List.Perm.swap _ _ _) ?_;refine goI dr0 wg d9N d9N d9N d9N d9N d9N ?_;exact ⟨(g+1,_,_),by dsimp only;omega,by dsimp only;omega,by (dsimp only;rw [hsnD,a2i];exact wkI)⟩
abbrev b2m:Dr:=[(7,[0,1,2,3,4,5],[6,7])]
abbrev a7x:Dr:=[(3,[0,1,2,3,4],[5,6,7,8]),(6,[0,1,2,3,4,5,6,7,8,9,10,11,12,13,14,15,16,17],[18]),(9,[0,1,2,3,4],[5,6,7,8,9])]
open Go.Proofs Go.RowKit
set_option maxRecDepth 20000
set_option maxHeartbeats 4000000
theorem b2S.cons {s:a0Y}{k:Nat}{x:SpT}{M:List Rat}(h:b2S s k x M){y:Rat}(hy:inS x y):b2S s k x (y::M) :=
 ⟨e0X _ h.lo,e0X _ h.hi,fun g a b c=>e0X _ (h.lim1 g a b c),fun g a b c=>e0X _ (h.lim2 g a b c),fun m hm=>by
  rcases e0m.1 hm with e|e
  ·rw [e];exact hy
  ·exact h.sub m e⟩
theorem b6M {s:a0Y}(h:a0l s=0):0<s.fs.length:=by
 unfold a0l at h;split at h
 ·rename_i h1;exact d9R h h1
 ·rename_i h1
  have h2:=Decidable.not_not.1 h1;unfold b2q at h2;split at h2
  ·cases h2
  ·omega
theorem d2U {s:a0Y}{v:List SpT}(h:a4d s v=0){w:List (List UInt8)}(hl:w.length=v.length)(hi:∀ k,k<v.length->inS (sv v k) (a0d (lv w k))):a7A (a0e s) w∈a9A (a0e s) v:=by
 obtain ⟨h0,hn,-⟩:=a3s h;have hle:=b6l (a0e s) w;have hn0:0<s.fs.length:=by
  have:=b6M h0
  omega
 unfold a9A a8X;refine List.mem_filter.2 ⟨List.mem_range.2 (by omega),?_⟩;rw [a1h] at hle;have hM:=fun k (hk:k<v.length)=>(b3z h0 (k:=k) (by omega) (a6X h hk).2.2).cons (hi k hk)
 have ha:∀ k,k<w.length->a0Q (a0e s) k (a0d (lv w k))<=a7A (a0e s) w:=fun k hk=>b6k (f:=fun k=>a0Q (a0e s) k (a0d (lv w k))) hk
 refine b1V.2 ⟨fun k hk=>(c5R h0 hle (by omega) (hM k hk)).2 ⟨_,e1x,ha k (by omega)⟩,?_⟩;have hat:∃ k,k<w.length/\a0Q (a0e s) k (a0d (lv w k))=a7A (a0e s) w:=by
  rcases e0N (a7A (a0e s) w) with h1|h1
  ·have:=ha 0 (by omega)
   exact ⟨0,by omega,by omega⟩
  ·exact b6o (f:=fun k=>a0Q (a0e s) k (a0d (lv w k))) h1
 obtain ⟨k,hk,e⟩:=hat;exact ⟨k,by omega,(c6e h0 hle (by omega) (hM k (by omega))).2 ⟨_,e1x,e⟩⟩
theorem c4M {s:a0Y}{v:List SpT}(h:a4d s v=0):a9A (a0e s) v≠[]:=fun e=>by
 have:=d2U h (w:=v.map fun x=>x.lo) (by rw [d9X]) fun k hk=>by
  have hl:lv (v.map fun x=>x.lo) k=(sv v k).lo:=by
   obtain ⟨x,hx⟩:=a0J hk;unfold lv;rw [b3o hx,e0q,e0l,hx];rfl
  rw [hl];exact ⟨Rat.le_refl,(a6X h hk).2.2⟩
 rw [e] at this;cases this
theorem c9m {G:List (List LP)}{v:List SpT}{g:Nat}(h:g∈a9A G v):g<=G.length:=by
 have:=List.mem_range.1 (List.mem_filter.1 h).1
 omega
def b1Z (s:a0Y)(v:List SpT):Nat:=match b8a s v with|[a]=>if a=s.gs.length then 0 else a|_=>0
def b2J (s:a0Y)(v:List SpT):Nat:=if a4d s v=0 then (match b8a s v with|[a]=>if a=s.gs.length then 7 else 0|_=>15) else a4d s v
def b7r (s:a0Y)(v:List SpT)(g:Int):Nat × List (List UInt8):=if a4d s v=0 then (if unk g (s.gs.length+1)=0 then (match a9m (a0e s) g.toNat v with|some w=>(0,w)|none=>(7,[])) else (10,[])) else (a4d s v,[])
def b5e (s:a0Y)(v:List SpT)(g f:Int):Nat × Bool × SpT:=if a4d s v=0 then (if b0j (unk g s.gs.length) (unk f s.fs.length)=0 then (if a4o (a0e s) g.toNat f.toNat (sv v f.toNat) then (0,true,b0f (a0e s) g.toNat f.toNat (sv v f.toNat)) else (0,false,⟨[],[]⟩)) else (b0j (unk g s.gs.length) (unk f s.fs.length),false,⟨[],[]⟩)) else (a4d s v,false,⟨[],[]⟩)
theorem d4w (s:a0Y)(hs:s.few)(b:Bool)(v:List SpT)(hf:c3B v):a0b C0 11 [s.D,spD b v] (.tup [i64 (b1Z s v:Nat),i64 (b2J s v:Nat)]):=by
 refine a0c.walk w1 d0X rfl fun F=>?_
 have c1:=a5z s hs b v hf;have hok:=@a3s s v;have hG:b1Z s v=match b8a s v with|[a]=>if a=s.gs.length then 0 else a|_=>0:=rfl
 have hE:b2J s v=if a4d s v=0 then (match b8a s v with|[a]=>if a=s.gs.length then 7 else 0|_=>15) else a4d s v:=rfl
 have hr:b8a s v=if a4d s v=0 then a9A (a0e s) v else []:=rfl
 have hne:=@c4M s v;have hple:=fun g=>@c9m (a0e s) v g
 have el:((((a0e s).map a6H).length:Nat):Int)=(s.gs.length:Int):=by rw [d9X,a1h]
 rw [hr] at hE hG;rw [hG,hE];clear hr hG hE;obtain ⟨q,hq⟩:∃ q,a4d s v=q:=⟨_,rfl⟩
 rw [hq] at c1 hok hne ⊢;unfold a0Y.D at c1 ⊢;rcases Nat.decEq q 0 with h0|h0
 ·have e0:=b1R h0
  obtain ⟨x,y,ho⟩:=a6K s;rw [ho] at c1;rw [d9Q h0,d9Q h0];refine goI b2m e0 c1 d9N d9N d9N d9N d9N ?_;exact a0a rfl IsPure.out
 have e0:=b2s h0;obtain ⟨k0,k2,k3⟩:=hok h0;have hne:=hne h0;have h16:=(a0H k0).2.1;have hd:a6y s=b2c s.fs.length (a0e s):=d9P k0;have hd2:c2c q v=b3J v:=d9P h0;rw [hd,hd2] at c1;have c2:=a9O s.fs.length (a0e s) (a5h (a0H k0)) v k2 hf.1 fun x hx=>⟨(k3 x hx).1,(k3 x hx).2.1⟩
 rw [d9P h0,d9P h0];have hPl:(a9A (a0e s) v).length<=s.gs.length+1:=by
  have:=List.length_filter_le (fun g=>(a9m (a0e s) g v).isSome) (List.range ((a0e s).length+1))
  rw [e2w,a1h] at this;unfold a9A a8X;rw [a1h];exact this
 obtain ⟨P,hP⟩:∃ P,a9A (a0e s) v=P:=⟨_,rfl⟩
 rw [hP] at c2 hne hPl hple ⊢;rcases P with _|⟨a,_|⟨a2,P⟩⟩
 ·exact d9R rfl hne
 ·have hI:a0S [a]=[i64 (a:Int)]:=rfl
  rw [hI] at c2;have f1:decide (((1:Nat):Int)>1)=false:=rfl;have hm:([i64 (a:Int)]:List D)[0]? = some (i64 (a:Int)):=rfl;have e2:=b9O a s.gs.length
  by_cases h3:a=s.gs.length
  ·rw [d9S h3] at e2
   refine goI b2m (ff5 e0 f1 e2 el Int.toNat_zero) c1 c2 hm d9N d9N d9N ?_;rw [d9P h3,d9P h3];exact a0a rfl IsPure.out
  ·rw [d9U h3] at e2
   refine goI b2m (ff5 e0 f1 e2 el Int.toNat_zero) c1 c2 hm d9N d9N d9N ?_;rw [d9Q h3,d9Q h3];exact a0a rfl IsPure.out
 ·simp only [d9Y] at hPl
  have pP:IsPure (.sl false 1 (a0S (a::a2::P))):=d9O;have f1:decide (((a0S (a::a2::P)).length:Int)>1)=true:=by
   refine d9S ?_;rw [d9X,d9Y,d9Y];omega
  generalize a0S (a::a2::P)=PD at c2 pP f1;refine goI b2m (ff2 e0 f1) c1 c2 d9N d9N d9N d9N ?_;exact a0a rfl IsPure.out
theorem c2F (s:a0Y)(hs:s.few)(b:Bool)(v:List SpT)(hf:c3B v)(g:Int):a0b C0 19 [s.D,spD b v,i64 g] (.tup [txD false (b7r s v g).2,i64 ((b7r s v g).1:Nat)]):=by
 refine a0c.walk w1 d1s rfl fun F=>?_
 have c1:=a5z s hs b v hf;have hok:=@a3s s v;have hwk:=fun h g hg w=>@c5C s v h g hg w
 have hR:b7r s v g=if a4d s v=0 then (if unk g (s.gs.length+1)=0 then (match a9m (a0e s) g.toNat v with|some w=>(0,w)|none=>(7,[])) else (10,[])) else (a4d s v,[]):=rfl
 have el:((((a0e s).map a6H).length:Nat):Int)=(s.gs.length:Int):=by rw [d9X,a1h]
 rw [hR];clear hR;obtain ⟨q,hq⟩:∃ q,a4d s v=q:=⟨_,rfl⟩
 rw [hq] at c1 hok hwk ⊢;unfold a0Y.D at c1 ⊢;rcases Nat.decEq q 0 with h0|h0
 ·have e0:=b1R h0
  obtain ⟨x,y,ho⟩:=a6K s;rw [ho] at c1;rw [d9Q h0];refine goI dr0 e0 c1 d9N d9N d9N d9N d9N ?_;exact ⟨_,a6c (.nil 1),IsPure.out,rfl⟩
 have e0:=b2s h0;obtain ⟨k0,k2,k3⟩:=hok h0;have h16:=(a0H k0).2.1;have hd:a6y s=b2c s.fs.length (a0e s):=d9P k0;have hd2:c2c q v=b3J v:=d9P h0;rw [hd,hd2] at c1;rw [d9P h0]
 by_cases hlo:g<0
 ·have e1:decide (g<0)=true:=d9S hlo
  rw [d9Q (by rw [d4m hlo];decide)];refine goI dr0 (ff2 e0 e1) c1 d9N d9N d9N d9N d9N ?_;exact ⟨_,a6c (.nil 1),IsPure.out,rfl⟩
 have e1:decide (g<0)=false:=d9U hlo
 by_cases hhi:((s.gs.length:Nat):Int)<g
 ·have e2:decide (g>(s.gs.length:Int))=true:=d9S hhi
  rw [d9Q (by rw [d4g (by omega)];decide)];refine goI dr0 (ff4 e0 e1 e2 el) c1 d9N d9N d9N d9N d9N ?_;exact ⟨_,a6c (.nil 1),IsPure.out,rfl⟩
 have e2:decide (g>(s.gs.length:Int))=false:=d9U hhi;rw [d9P (d4e hlo (by omega))];obtain ⟨n,rfl⟩:∃ n:Nat,g=(n:Int):=⟨g.toNat,by omega⟩
 rw [e2j];have hnl:n<=s.gs.length:=by omega
 have c2:=b0V s.fs.length (a0e s) (a5h (a0H k0)) n (by rw [a1h];exact hnl) v k2 hf.1 fun x hx=>⟨(k3 x hx).1,(k3 x hx).2.1⟩
 have hwk:=hwk h0 n hnl;rcases hW:a9m (a0e s) n v with _|w
 ·rw [hW] at c2
  unfold c2f at c2;refine goI dr0 (ff4 e0 e1 e2 el) c1 c2 d9N d9N d9N d9N ?_;exact ⟨_,a6c (.nil 1),IsPure.out,rfl⟩
 ·rw [hW] at c2
  rw [show c2f (some w)=.tup [frD w,boo true] from rfl] at c2;obtain ⟨m1,m2,-⟩:=hwk w hW;have c3:=c3g w (by rw [m1];exact hf.1) fun l hl=>by
   obtain ⟨i,hi,rfl⟩:=b2v hl;exact (m2 i (by omega)).1
  have pW:IsPure (frD w):=d9O;unfold frD at c2 c3 pW;obtain ⟨W,hW2⟩:∃ W,(w.map fun l=>(a0q l).D)=W:=⟨_,rfl⟩
  rw [hW2] at c2 c3 pW;refine goI dr0 (ff4 e0 e1 e2 el) c1 c2 c3 d9N d9N d9N ?_;exact a0a (d:=.tup [txD false w,i64 0]) rfl IsPure.out
theorem c7p (s:a0Y)(hs:s.few)(b:Bool)(v:List SpT)(hf:c3B v)(g f:Int):a0b C0 17 [s.D,spD b v,i64 g,i64 f] (.tup [(b5e s v g f).2.2.D,boo (b5e s v g f).2.1,i64 ((b5e s v g f).1:Nat)]):=by
 refine a0c.walk w1 c9q rfl fun F=>?_
 have c1:=a5z s hs b v hf;have hok:=@a3s s v;have hR:b5e s v g f=if a4d s v=0 then (if b0j (unk g s.gs.length) (unk f s.fs.length)=0 then (if a4o (a0e s) g.toNat f.toNat (sv v f.toNat) then (0,true,b0f (a0e s) g.toNat f.toNat (sv v f.toNat)) else (0,false,⟨[],[]⟩)) else (b0j (unk g s.gs.length) (unk f s.fs.length),false,⟨[],[]⟩)) else (a4d s v,false,⟨[],[]⟩):=rfl
 rw [hR];clear hR;obtain ⟨q,hq⟩:∃ q,a4d s v=q:=⟨_,rfl⟩
 rw [hq] at c1 hok ⊢;unfold a0Y.D at c1 ⊢;rcases Nat.decEq q 0 with h0|h0
 ·have e0:=b1R h0
  have e0':=d3L h0;obtain ⟨x,y,ho⟩:=a6K s;rw [ho] at c1;rw [d9Q h0];refine goI a7x (ff2 e0 e0') c1 d9N d9N d9N d9N d9N ?_;exact a0a rfl IsPure.out
 have e0:=b2s h0;have e0':=c7O h0;obtain ⟨k0,k2,k3⟩:=hok h0;have hd:a6y s=b2c s.fs.length (a0e s):=d9P k0;have hd2:c2c q v=b3J v:=d9P h0;rw [hd,hd2] at c1;rw [d9P h0];have cg:=b7h s.fs.length (a0e s) g;have cf:=b5i s.fs.length (a0e s) f;rw [a1h] at cg;have c4:=a8N [((unk g s.gs.length:Nat):Int),((unk f s.fs.length:Nat):Int)] (by simp);have hF:a2O [((unk g s.gs.length:Nat):Int),((unk f s.fs.length:Nat):Int)]=((b0j (unk g s.gs.length) (unk f s.fs.length):Nat):Int):=by
  unfold b0j;show (if ((unk g s.gs.length:Nat):Int)≠0 then _ else if ((unk f s.fs.length:Nat):Int)≠0 then ((unk f s.fs.length:Nat):Int) else 0)=_
  by_cases g1:unk g s.gs.length=0
  ·rw [d9P g1,g1,d9Q (by simp)]
   by_cases g2:unk f s.fs.length=0
   ·rw [g2];rfl
   ·rw [d9P (by omega)]
  ·rw [d9Q g1,d9P (by omega)]
 rw [hF] at c4;have hu:b0j (unk g s.gs.length) (unk f s.fs.length)=0->unk g s.gs.length=0/\unk f s.fs.length=0:=fun h=>by
  unfold b0j at h;split at h
  ·rename_i g1;exact ⟨g1,h⟩
  ·rename_i g1;exact d9R h g1
 obtain ⟨E,hE⟩:∃ E,b0j (unk g s.gs.length) (unk f s.fs.length)=E:=⟨_,rfl⟩
 rw [hE] at c4 hu ⊢;clear hF hE;rcases Nat.decEq E 0 with h1|h1
 ·have e1:=b1R h1
  rw [d9Q h1];refine goI a7x (ff3 e0 e0' e1) c1 cg cf c4 d9N d9N ?_;exact a0a rfl IsPure.out
 have e1:=b2s h1;rw [d9P h1];obtain ⟨u1,u2⟩:=hu h1;obtain ⟨gi,rfl,hgi⟩:=a6T u1;obtain ⟨fi,rfl,hfi⟩:=a6T u2;rw [e2j,e2j];obtain ⟨m1,m2,l1,l2⟩:=a8S (a5h (a0H k0)) (g:=gi) (f:=fi) (by rw [a1h];exact hgi) hfi;obtain ⟨x,hx⟩:=a0J (l:=v) (i:=fi) (by omega);have hxc:=k3 x (d9V hx);rw [b3o hx];have m3:(v.map spF)[fi]? = some (spF x):=by rw [e0l,hx];rfl
 have c5:=a8R _ _ x l1 l2 hxc.1 hxc.2.1;have hTc:=a9h l1 l2 hxc.1 hxc.2.1;rw [show a5i (pv (a4g (a0e s) gi) fi).1 (pv (a4g (a0e s) gi) fi).2 x=b0f (a0e s) gi fi x from rfl] at c5 hTc;rw [show b3Z (pv (a4g (a0e s) gi) fi).1 (pv (a4g (a0e s) gi) fi).2 x=a4o (a0e s) gi fi x from rfl] at c5;obtain ⟨T,hT⟩:∃ T,b0f (a0e s) gi fi x=T:=⟨_,rfl⟩
 obtain ⟨R,hR⟩:∃ R,a4o (a0e s) gi fi x=R:=⟨_,rfl⟩
 rw [hT] at c5 hTc ⊢;rw [hR] at c5 ⊢;have t1:=b9a (a3F hTc.1) (by decide);have t2:=b9a (a3F hTc.2) (by decide);rw [show str (sb (txt (a0d T.lo)))=str (sb T.lo) from b0W hTc.1] at t1;rw [show str (sb (txt (a0d T.hi)))=str (sb T.hi) from b0W hTc.2] at t2;unfold b3J at c1;unfold a6H at m1;unfold spF a4U at m3 c5;unfold GF.D at t1 t2;generalize a0q x.lo=A1 at *;generalize a0q x.hi=B1 at *;generalize a0q T.lo=A at *;generalize a0q T.hi=B at *;have q1:IsPure A.n.w:=d9O;have q2:IsPure B.n.w:=d9O;have q3:IsPure A1.n.w:=d9O;have q4:IsPure B1.n.w:=d9O;generalize mkG (A.d:Int)=A2 at *;generalize mkG (B.d:Int)=B2 at *;generalize mkG (A1.d:Int)=A12 at *;generalize mkG (B1.d:Int)=B12 at *;cases R
 ·rw [d9Q (by decide)]
  refine goI a7x (ff2 e0 e0') c1 cg cf c4 d9N d9N ?_;rw [e1];dsimp only [brB];refine skI ?_;refine OkS.seq ?_;refine d9v w1 600 [0,1,2,3,4,5,6,7,8,9,10,11,12,13,14,15,16,17] [18] 17 16 [13,11,10,9,8,7,6,5,4,3,2,1,0,12,14,16] (by kernel_rfl) (by kernel_rfl) ?_;refine dsI ?_;refine gvI kN ?_;refine a0B rfl rfl rfl rfl ?_;refine a2E (fun _ _=>rfl) sdI ⟨rfl,by omega⟩ m1 ?_
  try dsimp only [D.cells]
  refine gvI kN ?_;refine a0B rfl rfl rfl rfl ?_;refine a2E (fun _ _=>rfl) sdI ⟨rfl,by omega⟩ m2 ?_
  try dsimp only [D.cells]
  refine gvI kN ?_;refine a0B rfl rfl rfl rfl ?_;refine a2E (fun _ _=>rfl) sdI ⟨rfl,by omega⟩ m3 ?_
  try dsimp only [D.cells]
  refine gvI kN ?_;refine a0B rfl rfl rfl rfl ?_;refine dsI ?_;refine And.intro (by exact sdI) ?_;refine dsI ?_;refine a0r.same _ c5 d9O ?_;refine dsI ?_;refine gvI kN ?_;refine And.intro ⟨trivial,.inl d9N⟩ ?_;refine goI a7x kB d9N d9N d9N d9N d9N d9N ?_;exact a0a rfl IsPure.out
 ·rw [d9P rfl]
  refine goI a7x (ff2 e0 e0') c1 cg cf c4 d9N d9N ?_;rw [e1];dsimp only [brB];refine skI ?_;refine OkS.seq ?_;refine d9v w1 600 [0,1,2,3,4,5,6,7,8,9,10,11,12,13,14,15,16,17] [18] 17 16 [13,11,10,9,8,7,6,5,4,3,2,1,0,12,14,16] (by kernel_rfl) (by kernel_rfl) ?_;refine dsI ?_;refine gvI kN ?_;refine a0B rfl rfl rfl rfl ?_;refine a2E (fun _ _=>rfl) sdI ⟨rfl,by omega⟩ m1 ?_
  try dsimp only [D.cells]
  refine gvI kN ?_;refine a0B rfl rfl rfl rfl ?_;refine a2E (fun _ _=>rfl) sdI ⟨rfl,by omega⟩ m2 ?_
  try dsimp only [D.cells]
  refine gvI kN ?_;refine a0B rfl rfl rfl rfl ?_;refine a2E (fun _ _=>rfl) sdI ⟨rfl,by omega⟩ m3 ?_
  try dsimp only [D.cells]
  refine gvI kN ?_;refine a0B rfl rfl rfl rfl ?_;refine dsI ?_;refine And.intro (by exact sdI) ?_;refine dsI ?_;refine a0r.same _ c5 d9O ?_;refine dsI ?_;refine gvI kN ?_;refine And.intro ⟨trivial,.inl d9N⟩ ?_;refine goI a7x kB t1 t2 d9N d9N d9N d9N ?_;exact a0a rfl IsPure.out
abbrev c6x:Dr:=[(1,[0,1,2,3,4,5,6,7,8,9,10,11,12,13],[14,15,16]),(3,[0,1,2,3,4,5,6,7,8,9,10,11,12,13],[14,15,16])]
open Go.Proofs Go.RowKit
set_option maxRecDepth 20000
set_option maxHeartbeats 4000000
theorem b4J (s:SpT):b1o s.lo s.hi=a4h s:=by
 unfold b1o a4h two;split
 ·rfl
 ·rfl
theorem d2y (s:a0Y)(b:Bool)(v:List SpT)(hf:c3B v):a0b C0 8 [s.D,spD b v] (i64 (a2V s.fs.length v:Nat)):=by
 refine a0c.walk w1 d7e rfl fun F=>?_
 have el:(((v.map SpT.D).length:Nat):Int)=(v.length:Int):=by rw [d9X]
 have el1:(((s.fs.map a1N.D).length:Nat):Int)=(s.fs.length:Int):=by rw [d9X]
 have hl:=hf.1;unfold a0Y.D;obtain ⟨fD,hfD⟩:∃ fD,s.fs.map a1N.D=fD:=⟨_,rfl⟩
 obtain ⟨gD,hgD⟩:∃ gD,s.gs.map a0M.D=gD:=⟨_,rfl⟩
 have pF:IsPure (.sl false 4 fD):=by rw [<- hfD];exact d9O
 have pG:IsPure (.sl false 3 gD):=by rw [<- hgD];exact d9O
 rw [hfD] at el1;rw [hfD,hgD];have pV:IsPure (.sl b 2 (v.map SpT.D)):=d9O;rcases Nat.decEq v.length s.fs.length with h1|h1
 ·have e0:=d5i h1
  have hv:a2V s.fs.length v=2:=d9Q h1;rw [hv];refine goI dr0 (ff3 el el1 e0) d9N d9N d9N d9N d9N d9N ?_;exact a0a rfl IsPure.out
 have e0:=d4c h1;have hv:a2V s.fs.length v=b4a a4h v:=d9P h1;rw [hv];refine goI dr0 (ff3 el el1 e0) d9N d9N d9N d9N d9N d9N ?_;refine OkS.loop (α:=Nat × Nat) (fun p=>⟨[(1,.sl b 2 (v.map SpT.D)),(5,i64 (p.1:Int))],[],p.2⟩) (fun p=>v.length - p.1) (fun p=>p.1<=v.length/\∀ (j:Nat) (y:SpT),j<p.1->v[j]? = some y->a4h y=0) (0,_) ⟨e0y _,fun j y hj=>d9R hj (e1i j)⟩ wkI ?_;rintro ⟨i,m⟩ F ⟨hi,ha⟩;dsimp only at hi ha ⊢;rcases e0j i v.length with h2|h2
 ·have e1:=ltT h2
  have wi:=wiI (i:=i) (by omega);obtain ⟨x,hx⟩:=a0J h2;have hm:(v.map SpT.D)[i]? = some (.agg [str (sb x.lo),str (sb x.hi)]):=by rw [e0l,hx];rfl
  have hxf:=hf.2 x (d9V hx);have c:=d6x x.lo x.hi hxf.1 hxf.2;rw [b4J] at c;have hat:=fun h=>b1L (f:=a4h) ha hx h
  obtain ⟨E,hE⟩:∃ E,a4h x=E:=⟨_,rfl⟩
  rw [hE] at c hat;rcases Nat.decEq E 0 with h3|h3
  ·have e2:=b1R h3
   rw [hat h3];refine goI dr0 (ff4 e1 el e2 kN) hm c d9N d9N d9N d9N ?_;exact a0a rfl IsPure.out
  ·have e2:=b2s h3
   refine goI dr0 (ff5 e1 el e2 wi kN) hm c d9N d9N d9N d9N ?_;exact ⟨(i+1,_),⟨h2,fun j y hj hy=>by
    rcases e0j j i with q|q
    ·exact ha j y q hy
    ·have:j=i:=by dsimp only at hj;omega
     subst this;rw [hx] at hy;cases hy;rw [hE];exact h3⟩,by dsimp only;omega,wkI⟩
 ·have e1:=ltF h2
  have:i=v.length:=by omega
  subst this;rw [a8q ha];refine goI dr0 (ff2 e1 el) d9N d9N d9N d9N d9N d9N ?_;exact a0a rfl IsPure.out
theorem b8P (g:a0M)(k n:Nat)(x:SpT)(hg:gOk n g)(hk:k<n)(h1:chk x.lo=0)(h2:chk x.hi=0):a0b C0 27 [g.D,i64 (k:Int),x.D] (.tup [(if b3Z (lv g.least k) (lv g.most k) x then a5i (lv g.least k) (lv g.most k) x else ⟨[],[]⟩).D,boo (b3Z (lv g.least k) (lv g.most k) x)]):=by
 refine a0c.walk w1 d6z rfl fun F=>?_
 have m1:=a1V (l:=g.least) (k:=k) (by rw [hg.1];exact hk);have m2:=a1V (l:=g.most) (k:=k) (by rw [hg.2.1];exact hk);have hE:=hg.2.2 k hk;have hB:b3Z (lv g.least k) (lv g.most k) x=decide (a1e (a0d (a5i (lv g.least k) (lv g.most k) x).lo) (a0d (a5i (lv g.least k) (lv g.most k) x).hi)<=0):=rfl;have hT1:(a5i (lv g.least k) (lv g.most k) x).lo=if decide (lv g.least k≠[])&&decide (a1e (a0d x.lo) (a0d (lv g.least k))<0) then lv g.least k else x.lo:=rfl
 have hT2:(a5i (lv g.least k) (lv g.most k) x).hi=if decide (lv g.most k≠[])&&decide (a1e (a0d x.hi) (a0d (lv g.most k))>0) then lv g.most k else x.hi:=rfl
 have hTc:=a9h hE.1 hE.2 h1 h2;have hlt:∀ p q:Rat,decide (a1e p q<0)=decide (a1e q p>0):=fun p q=>by rw [e0O];exact (e0O.1 (b5T q p)).symm
 have hgt:∀ p q:Rat,decide (a1e p q>0)=decide (a1e q p<0):=fun p q=>by rw [e0O];exact e0O.1 (b5T p q)
 have hne:∀ l:List UInt8,decide (l≠[]) = !decide (l=[]):=fun l=>by simp
 rw [hlt,hne] at hT1;rw [hgt,hne] at hT2;obtain ⟨T,hT⟩:∃ T,a5i (lv g.least k) (lv g.most k) x=T:=⟨_,rfl⟩
 obtain ⟨R,hR⟩:∃ R,b3Z (lv g.least k) (lv g.most k) x=R:=⟨_,rfl⟩
 rw [hT] at hT1 hT2 hTc hB ⊢;rw [hR] at hB ⊢;clear hT hR;obtain ⟨a,ea⟩:∃ a,lv g.least k=a:=⟨_,rfl⟩
 obtain ⟨b,eb⟩:∃ a,lv g.most k=a:=⟨_,rfl⟩
 rw [ea,eb] at hE;rw [ea] at m1 hT1;rw [eb] at m2 hT2;have sa:=a1l a;have sb':=a1l b;obtain ⟨qa,ga⟩:∃ q,decide (a=[])=q:=⟨_,rfl⟩
 obtain ⟨qb,gb⟩:∃ q,decide (b=[])=q:=⟨_,rfl⟩
 obtain ⟨p,hp⟩:∃ q,decide (a1e (a0d a) (a0d x.lo)>0)=q:=⟨_,rfl⟩
 obtain ⟨q,hq⟩:∃ q,decide (a1e (a0d b) (a0d x.hi)<0)=q:=⟨_,rfl⟩
 have c1:qa=false->a0b C0 57 [str (sb a),str (sb x.lo)] (i64 (a1e (a0d a) (a0d x.lo))):=fun h=>a5q (a1g hE.1 (e0i (ga.trans h))) h1
 have c2:qb=false->a0b C0 57 [str (sb b),str (sb x.hi)] (i64 (a1e (a0d b) (a0d x.hi))):=fun h=>a5q (a1g hE.2 (e0i (gb.trans h))) h2
 have c3:=a5q hTc.1 hTc.2;obtain ⟨Z,hZ⟩:∃ Z,a1e (a0d T.lo) (a0d T.hi)=Z:=⟨_,rfl⟩
 rw [hZ] at c3 hB;have hz:decide (Z>0) = !R:=by
  rw [hB,<- decide_not,e0O];omega
 rw [ga] at sa hT1;rw [gb] at sb' hT2;rw [hp] at hT1;rw [hq] at hT2;unfold a0M.D SpT.D;clear ga gb ea eb hB hZ hTc;have tri:∀ a b:Bool,a=true\/(a=false/\b=true)\/(a=false/\b=false):=by decide
 rcases tri qa p with rfl|⟨rfl,rfl⟩|⟨rfl,rfl⟩<;>rcases tri qb q with rfl|⟨rfl,rfl⟩|⟨rfl,rfl⟩<;>cases R
 all_goals
  rw [show T.lo=_ from hT1,show T.hi=_ from hT2] at c3;refine goI c6x (ff6 hp hq sa sb' hz kN) m1 m2 c1 c2 c3 d9N ?_;refine a0a ?_ IsPure.out
  first|rfl|(refine Eq.trans (b:=.tup [.agg [str (sb T.lo),str (sb T.hi)],boo true]) ?_ rfl;rw [show T.lo=_ from hT1,show T.hi=_ from hT2];rfl)
set_option maxHeartbeats 8000000
def b7i (s:SpT):Bool:=b5v [s.lo,s.hi]
theorem c7D (b:Bool)(l:List SpT)(hl:l.length<=9223372036854775807):a0b C0 7 [spD b l] (boo (l.all b7i)):=by
 refine a0c.walk w1 d7H rfl fun F=>?_
 have el:(((l.map SpT.D).length:Nat):Int)=(l.length:Int):=by rw [d9X]
 refine goI dr0 el d9N d9N d9N d9N d9N d9N ?_;refine OkS.loop (α:=Nat × Nat) (fun p=>⟨[(5,spD b l),(6,i64 (l.length:Int)),(7,i64 (p.1:Int))],[],p.2⟩) (fun p=>l.length - p.1)
  (fun p=>p.1<=l.length/\(l.take p.1).all b7i=true) (0,_) ⟨e0y _,rfl⟩ wkI ?_
 rintro ⟨i,m⟩ F ⟨hi,ha⟩;dsimp only at hi ha ⊢;rcases e0j i l.length with h2|h2
 ·have e1:=ltT h2
  have wi:=wiI (i:=i) (by omega);obtain ⟨x,hx⟩:=a0J h2;have hm:(l.map SpT.D)[i]? = some (.agg [str (sb x.lo),str (sb x.hi)]):=by rw [e0l,hx];rfl
  have c:a0b C0 29 [.sl true 1 [str (sb x.lo),str (sb x.hi)]] (boo (b7i x)):=c2R true [x.lo,x.hi] (by simp);obtain ⟨p,hp⟩:∃ p,b7i x=p:=⟨_,rfl⟩
  rw [hp] at c;cases p
  ·rw [a4l hx hp]
   refine goI dr0 (ff2 e1 kN) hm c d9N d9N d9N d9N ?_;exact a0a rfl IsPure.out
  ·refine goI dr0 (ff3 e1 wi kN) hm c d9N d9N d9N d9N ?_
   exact ⟨(i+1,_),⟨h2,a8c hx ha hp⟩,by dsimp only;omega,wkI⟩
 ·have e1:=ltF h2
  have:i=l.length:=by omega
  subst this;rw [e1S] at ha;rw [ha];refine goI dr0 e1 d9N d9N d9N d9N d9N d9N ?_;exact a0a rfl IsPure.out
abbrev b4S:Dr:=[(6,[0,1,2,3,4,5,6,7],[8,9])]
open Go.Proofs Go.RowKit
set_option maxRecDepth 20000
set_option maxHeartbeats 8000000
theorem c1I {l:List UInt8}(h:chk l=0):l.length<=100000:=by
 have h1:(a0N l).length<=600/\(a1I l).length<=600:=by
  unfold chk at h;split at h
  ·cases h
  split at h
  ·cases h
  ·omega
 have h2:(a2u l).length<=(a0N l).length+1:=by
  unfold a0N a0n;split
  ·rw [e1a];omega
  ·omega
 have h3:l.length<=(a2u l).length+(a1I l).length+1:=by
  unfold a2u a1I;rw [e0n,e1a];omega
 omega
theorem c7C {s:a0Y}{v:List SpT}(g f:Int)(h:a4d s v≠0):b8a s v=[]/\b1Z s v=0/\b2J s v=a4d s v/\b7r s v g=(a4d s v,[])/\b5e s v g f=(a4d s v,false,⟨[],[]⟩):=by
 have e:b8a s v=[]:=d9Q h;refine ⟨e,by unfold b1Z;rw [e],d9Q h,d9Q h,d9Q h⟩
theorem c6Y (G:List (List LP))(v:List SpT):(a9A G v).length<=G.length+1:=by
 have:=List.length_filter_le (fun g=>(a9m G g v).isSome) (List.range (G.length+1))
 rw [e2w] at this;exact this
theorem c2y {s:a0Y}{v:List SpT}{a:Nat}(h:a4d s v=0)(e:a9A (a0e s) v=[a]):b1Z s v=c3s 0 a s.gs.length/\b2J s v=c2m 0 a s.gs.length:=by
 have e2:b8a s v=[a]:=by rw [<- e];exact d9P h
 unfold b1Z b2J c3s c2m;rw [e2,d9P h];exact ⟨(d9P rfl).symm,(d9P rfl).symm⟩
theorem c1g {s:a0Y}{v:List SpT}{a b:Nat}{l:List Nat}(h:a4d s v=0)(e:a9A (a0e s) v=a::b::l):b1Z s v=0/\b2J s v=15:=by
 have e2:b8a s v=a::b::l:=by rw [<- e];exact d9P h
 unfold b1Z b2J;rw [e2,d9P h];exact ⟨rfl,rfl⟩
theorem c0Q {G:List (List LP)}{v:List SpT}{n:Nat}(hn:n<=G.length):(a9A G v).contains n=(a9m G n v).isSome:=by
 rw [e1D,List.contains_iff_mem];unfold a9A a8X;rw [List.mem_filter,List.mem_range];exact ⟨fun h=>h.2,fun h=>⟨by omega,h⟩⟩
theorem d3v {s:a0Y}(h:a0l s=0){g k:Nat}(hg:g<s.gs.length)(hk:k<s.fs.length)(x:SpT):a4o (a0e s) g k x=b3Z (lv (s.gs.getD g default).least k) (lv (s.gs.getD g default).most k) x/\b0f (a0e s) g k x=a5i (lv (s.gs.getD g default).least k) (lv (s.gs.getD g default).most k) x:=by
 have hok:=a0H h;unfold a4o b0f;rw [a8O hg,b5W (c2U hok hg) hk];exact ⟨rfl,rfl⟩
theorem b6p (s:a0Y)(h0:a0l s=0)(b:Bool)(v:List SpT)(hf:c3B v)(hc:∀ k,k<v.length->chk (sv v k).lo=0/\chk (sv v k).hi=0)(w:List (List UInt8))(hl:w.length=v.length)(hn:v.length=s.fs.length)(hw:∀ k,k<v.length->chk (lv w k)=0/\inS (sv v k) (a0d (lv w k)))(g:Nat)(hg:a7B s.gs w=g):a0b C0 25 [s.D,spD b v,txD false w,i64 (g:Int)] (boo true):=by
 refine a0c.walk w1 d5A rfl fun F=>?_
 have hs:=a0H h0;have el:(((w.map fun l=>str (sb l)).length:Nat):Int)=(w.length:Int):=by rw [d9X]
 have hvl:=hf.1;have hcr:a2X w=0:=b7N fun j y hj hy=>by
  have:=(hw j (by omega)).1
  rwa [b9I hy] at this
 have hfew:Few w:=⟨by omega,fun l hl=>c1I (a9x hcr l hl)⟩
 have c1:=d5o s false w hfew fun hl=>d7N w hfew.2 hl
 have hz:b1u s.fs.length w=0:=by unfold b1u;rw [d9P (by omega)];exact hcr
 rw [hz] at c1;have c2:=c1i s hs false w (by omega) hcr;rw [hg] at c2;have z0:(((0:Nat):Int) != 0)=false:=rfl;have zg:((g:Int)==(g:Int))=true:=beq_self_eq_true _;unfold a0Y.D at c1 c2 ⊢;have pF:IsPure (.sl false 4 (s.fs.map a1N.D)):=d9O;have pG:IsPure (.sl false 3 (s.gs.map a0M.D)):=d9O;obtain ⟨fsD,hfsD⟩:∃ d,s.fs.map a1N.D=d:=⟨_,rfl⟩
 obtain ⟨gsD,hgsD⟩:∃ d,s.gs.map a0M.D=d:=⟨_,rfl⟩
 rw [hfsD] at c1 c2 pF ⊢;rw [hgsD] at c1 c2 pG ⊢;clear hfsD hgsD;refine goI b4S (ff2 z0 el) c1 d9N d9N d9N d9N d9N ?_;refine OkS.loop (α:=Nat × Nat) (fun p=>⟨[(1,spD b v),(2,txD false w),(3,i64 (g:Int)),(4,.optr 0 0 2 0 0),(15,i64 (w.length:Int)),(16,i64 (p.1:Int))],[⟨0,0,25,2,[.agg [.sl false 4 fsD,.sl false 3 gsD]]⟩],p.2⟩) (fun p=>w.length - p.1) (fun p=>p.1<=w.length) (0,_) (e0y _) wkI ?_;rintro ⟨i,m⟩ F hi;dsimp only at hi ⊢;rcases e0j i w.length with h2|h2
 ·have e1:=ltT h2
  have wi:=wiI (i:=i) (by omega);obtain ⟨l,hl2⟩:=a0J h2;obtain ⟨x,hx⟩:=a0J (l:=v) (i:=i) (by omega);have hm:(w.map fun l=>str (sb l))[i]? = some (str (sb l)):=by rw [e0l,hl2];rfl
  have hm2:(v.map SpT.D)[i]? = some x.D:=by rw [e0l,hx];rfl
  have k1:=hw i (by omega);have k2:=hc i (by omega);rw [b9I hl2,b3o hx] at k1;rw [b3o hx] at k2;have c:=rIn l x k1.1 k2.1 k2.2;rw [d9S (show a1e (a0d x.lo) (a0d l)<=0 from by have:=a7j.2 k1.2.1;omega),d9S (show a1e (a0d l) (a0d x.hi)<=0 from by have:=a7j.2 k1.2.2;omega)] at c;unfold SpT.D at c hm2;refine goI b4S (ff5 e1 el wi kN Bool.and_self) hm hm2 c d9N d9N d9N ?_;exact ⟨(i+1,_),h2,by dsimp only;omega,wkI⟩
 ·have e1:=ltF h2
  refine goI b4S (ff3 e1 el zg) c2 d9N d9N d9N d9N d9N ?_;exact a0a rfl IsPure.out
theorem c7Y {g:Int}{n:Nat}(h:unk g n≠0):unk g n=10:=by
 unfold unk at h ⊢;split
 ·rfl
 ·rename_i q;exact d9R (d9Q q) h
theorem b9A (s:a0Y)(v:List SpT)(hvf:c3B v)(h:a4d s v=0)(g:Int):(unk g (s.gs.length+1)≠0/\(b7r s v g).1=unk g (s.gs.length+1)/\(b7r s v g).2=[])\/∃ k:Nat,g=k/\unk g (s.gs.length+1)=0/\(((a9A (a0e s) v).contains k=false/\(b7r s v g).1=7/\(b7r s v g).2=[])\/((a9A (a0e s) v).contains k=true/\(b7r s v g).1=0/\a0b C0 25 [s.D,spD false v,txD false (b7r s v g).2,i64 (k:Int)] (boo true))):=by
 obtain ⟨k0,k2,-⟩:=a3s h;have e:b7r s v g=if unk g (s.gs.length+1)=0 then (match a9m (a0e s) g.toNat v with|some w=>(0,w)|none=>(7,[])) else (10,[]):=d9P h
 by_cases hu:unk g (s.gs.length+1)=0
 ·obtain ⟨k,rfl,hk⟩:=a6T hu
  right;refine ⟨k,rfl,hu,?_⟩;rw [e,d9P hu,e2j,c0Q (by rw [a1h];omega)];rcases hW:a9m (a0e s) k v with _|w
  ·exact .inl ⟨rfl,rfl,rfl⟩
  ·right
   obtain ⟨m1,m2,m3⟩:=c5C h (by omega) hW;exact ⟨rfl,rfl,b6p s k0 false v hvf (fun j hj=>⟨(a6X h hj).1,(a6X h hj).2.1⟩) w m1 k2 m2 k (by rw [c1V k0 (by omega)];exact m3)⟩
 ·left
  have:=c7Y hu
  refine ⟨hu,?_,?_⟩<;>rw [e,d9Q hu];exact this.symm
theorem c0I (s:a0Y)(v:List SpT)(h:a4d s v=0)(g f:Int):(b0j (unk g s.gs.length) (unk f s.fs.length)≠0/\(b5e s v g f).1=b0j (unk g s.gs.length) (unk f s.fs.length)/\(b5e s v g f).2.1=false/\(b5e s v g f).2.2=⟨[],[]⟩)\/∃ k j:Nat,g=k/\f=j/\k<s.gs.length/\j<s.fs.length/\b0j (unk g s.gs.length) (unk f s.fs.length)=0/\(b5e s v g f).1=0/\(b5e s v g f).2.1=b3Z (lv (s.gs.getD k default).least j) (lv (s.gs.getD k default).most j) (sv v j)/\(b5e s v g f).2.2=if b3Z (lv (s.gs.getD k default).least j) (lv (s.gs.getD k default).most j) (sv v j) then a5i (lv (s.gs.getD k default).least j) (lv (s.gs.getD k default).most j) (sv v j) else ⟨[],[]⟩:=by
 obtain ⟨k0,k2,-⟩:=a3s h;have e:b5e s v g f=if b0j (unk g s.gs.length) (unk f s.fs.length)=0 then (if a4o (a0e s) g.toNat f.toNat (sv v f.toNat) then (0,true,b0f (a0e s) g.toNat f.toNat (sv v f.toNat)) else (0,false,⟨[],[]⟩)) else (b0j (unk g s.gs.length) (unk f s.fs.length),false,⟨[],[]⟩):=d9P h
 by_cases hu:b0j (unk g s.gs.length) (unk f s.fs.length)=0
 ·right
  have hu2:unk g s.gs.length=0/\unk f s.fs.length=0:=by
   unfold b0j at hu;split at hu
   ·rename_i q;exact ⟨q,hu⟩
   ·rename_i q;exact d9R hu q
  obtain ⟨k,rfl,hk⟩:=a6T hu2.1;obtain ⟨j,rfl,hj⟩:=a6T hu2.2;refine ⟨k,j,rfl,rfl,hk,hj,hu,?_⟩;obtain ⟨n1,n2⟩:=d3v k0 hk hj (sv v j);rw [e,d9P hu,e2j,e2j,n1,n2];rcases hB:b3Z (lv (s.gs.getD k default).least j) (lv (s.gs.getD k default).most j) (sv v j) with _|_
  ·exact ⟨rfl,rfl,rfl⟩
  ·exact ⟨rfl,rfl,rfl⟩
 ·left
  refine ⟨hu,?_,?_,?_⟩<;>rw [e,d9Q hu]
abbrev a2t:Dr:=[(18,[0,1,2,3,4,5,6,7],[8,9,10]),(25,[0,1,2,3,4,5,6,7,8,9,10],[11,12,13,14]),(28,[0,1,2,3,4,5,6,7,8,9,10,11,12,13,14,15,16,17,18],[19])]
open Go.Proofs Go.RowKit
set_option maxRecDepth 20000
set_option maxHeartbeats 8000000
theorem d4v (ha:a0b C0 9 [] (boo true))(s:a0Y)(hs:s.fit)(v:List SpT)(hv:v.length<=9223372036854775807)(x:c2I):a0b C0 4 [s.D,spD false v,x.D] (boo true):=by
 refine a0c.walk w1 d7m rfl fun F=>?_
 have cl:=c7H s hs;have cq:=c7D false v hv;have hf:=@c1J s;have h40:=@c2H s;have elv:(((v.map SpT.D).length:Nat):Int)=(v.length:Int):=by rw [d9X]
 have hall:=@e0B _ b7i v;obtain ⟨L,hL⟩:∃ L,a7R s=L:=⟨_,rfl⟩
 obtain ⟨A,hA⟩:∃ L,v.all b7i=L:=⟨_,rfl⟩
 rw [hL] at cl hf h40;rw [hA] at cq hall;have el1:(((s.fs.map a1N.D).length:Nat):Int)=(s.fs.length:Int):=by rw [d9X]
 have el2:(((s.gs.map a0M.D).length:Nat):Int)=(s.gs.length:Int):=by rw [d9X]
 obtain ⟨g,hg⟩:∃ v,x.grade=v:=⟨_,rfl⟩
 obtain ⟨f,hff⟩:∃ v,x.factor=v:=⟨_,rfl⟩
 obtain ⟨xv,hxv⟩:∃ v,txD false x.vals=v:=⟨_,rfl⟩
 obtain ⟨xr,hxr⟩:∃ v,(.sl false 3 (x.rates.map a9U.D):D)=v:=⟨_,rfl⟩
 have pxv:IsPure xv:=by rw [<- hxv];exact d9O
 have pxr:IsPure xr:=by rw [<- hxr];exact d9O
 have hxD:x.D=.agg [i64 g,i64 f,xv,xr]:=by unfold c2I.D;rw [hg,hff,hxv,hxr]
 rw [hxD];clear hxD hg hff hxv hxr;obtain ⟨fsD,hfsD⟩:∃ d,s.fs.map a1N.D=d:=⟨_,rfl⟩
 obtain ⟨gsD,hgsD⟩:∃ d,s.gs.map a0M.D=d:=⟨_,rfl⟩
 have p1:IsPure (.sl false 4 fsD):=by rw [<- hfsD];exact d9O
 have p2:IsPure (.sl false 3 gsD):=by rw [<- hgsD];exact d9O
 have sD:s.D=.agg [.sl false 4 fsD,.sl false 3 gsD]:=by unfold a0Y.D;rw [hfsD,hgsD]
 have hgs:∀ i,i<s.gs.length->gsD[i]? = some (s.gs.getD i default).D:=fun i hi=>by rw [<- hgsD,e0l,a3r hi];rfl
 rw [hfsD] at el1;rw [hgsD] at el2;rw [sD] at cl ⊢;clear hfsD hgsD;cases L
 ·refine goI a2t kB cl ha d9N d9N d9N d9N ?_
  exact a0a rfl IsPure.out
 by_cases hv12:12<v.length
 ·have e12:decide ((v.length:Int)>12)=true:=d9S (by omega)
  refine goI a2t (ff2 e12 elv) cl ha d9N d9N d9N d9N ?_;exact a0a rfl IsPure.out
 have e12:decide ((v.length:Int)>12)=false:=d9U (by omega);cases A
 ·refine goI a2t (ff2 e12 elv) cl cq ha d9N d9N d9N ?_
  exact a0a rfl IsPure.out
 have hs:=hf rfl;have h4:=h40 rfl;have hall:=hall.1 rfl;have hv4:P40 v:=fun y hy=>by
  have:=a9q (hall y hy)
  exact ⟨this y.lo (by simp),this y.hi (by simp)⟩
 have hvf:c3B v:=⟨by omega,fun y hy=>by have:=hv4 y hy;unfold SpT.few;omega⟩
 have c1:=b8t s hs false v hvf;have c2:=d4w s hs false v hvf;have c3:=c2F s hs false v hvf g;have c4:=c7p s hs false v hvf g f;have c5:=d8u s hs;have c6:=d2y s false v hvf;have c7:=fun h0 hn hc=>b8J s h0 h4 false v hn hc hv4
 have c8:=b6p s;have c9:=b8P;have hb:=@c7C s v g f;have hq:a4d s v=if a0l s=0 then a2V s.fs.length v else a0l s:=rfl
 have hok:=@a3s s v;have z0:(((0:Nat):Int) != 0)=false:=rfl;have z1:(((0:Nat):Int)==0)=true:=rfl;have z2:(((([]:List D).length:Nat):Int)==0)=true:=rfl;have z3:((((([]:List (List UInt8)).map fun l=>str (sb l)).length:Nat):Int)==0)=true:=rfl;have z4:(a1z (sb []) ⟨#[]⟩&&(a1z (sb []) ⟨#[]⟩&&true))=true:=by rw [a1l,d9S rfl];rfl
 have bself:∀ k:Nat,((k:Int)==(k:Int))=true:=fun k=>beq_self_eq_true _
 rw [sD] at c1 c2 c3 c4 c5 c6 c7 c8;obtain ⟨q0,hq0⟩:∃ r,a0l s=r:=⟨_,rfl⟩
 obtain ⟨q,hhq⟩:∃ r,a4d s v=r:=⟨_,rfl⟩
 rw [hhq,hq0] at hq;rw [hhq] at c1 hb hok;rw [hq0] at c5
 by_cases hq1:q≠0
 ·obtain ⟨b1,b2,b3,b4,b5⟩:=hb hq1
  rw [b1] at c1;rw [b2,b3] at c2;rw [b4] at c3;rw [b5] at c4;rw [show a0S []=[] from rfl] at c1;unfold SpT.D at c4;have e0:=b1R hq1;have e1:=d3L hq1;have e2:=bself q
  by_cases h0:q0=0
  ·rw [d9P h0] at hq
   rw [<- hq] at c6;have e3:=c7O h0;refine goI a2t (ff7 e0 e1 e2 e3 e12 elv (ff4 z1 z2 z3 z4)) cl cq c1 c2 c3 c4 ?_;refine goI a2t (ff7 e0 e1 e2 e3 e12 elv (ff4 z1 z2 z3 z4)) c5 c6 ha d9N d9N d9N ?_;exact a0a rfl IsPure.out
  ·rw [d9Q h0] at hq
   subst hq;refine goI a2t (ff7 e0 e1 e2 e12 elv z1 (ff3 z2 z3 z4)) cl cq c1 c2 c3 c4 ?_;refine goI a2t (ff7 e0 e1 e2 e12 elv z1 (ff3 z2 z3 z4)) c5 ha d9N d9N d9N d9N ?_;exact a0a rfl IsPure.out
 have h1:q=0:=Decidable.not_not.1 hq1;have h1':a4d s v=0:=hhq.trans h1;obtain ⟨k0,k2,k3⟩:=hok h1;have hq00:q0=0:=hq0 ▸ k0;rw [d9P hq00] at hq;rw [<- hq] at c6;have eP:b8a s v=a9A (a0e s) v:=d9P h1';have c7:=c7 k0 k2 (fun y hy=>⟨(k3 y hy).1,(k3 y hy).2.1⟩);rw [<- d1x h1'] at c7;rw [eP] at c1;have hne:=c4M h1';have hlen:=c6Y (a0e s) v;rw [a1h] at hlen;have hok8:=(a0H k0).2.1;have cS:=b1K false false (a9A (a0e s) v) (by omega);have s1:=fun a=>@c2y s v a h1'
 have s2:=fun a b l=>@c1g s v a b l h1'
 have hhas:=fun n hn=>@c0Q (a0e s) v n hn
 obtain ⟨P,hP⟩:∃ P,a9A (a0e s) v=P:=⟨_,rfl⟩
 rw [hP] at c1 c7 hne hlen cS;simp only [hP] at hhas s1 s2;have e0:=b2s h1;have e0':=c7O h1;have e3:=c7O hq00;obtain ⟨SG,hSG⟩:∃ P,b1Z s v=P:=⟨_,rfl⟩
 obtain ⟨SE,hSE⟩:∃ P,b2J s v=P:=⟨_,rfl⟩
 obtain ⟨WE,hWE⟩:∃ P,(b7r s v g).1=P:=⟨_,rfl⟩
 obtain ⟨W,hW⟩:∃ P,(b7r s v g).2=P:=⟨_,rfl⟩
 obtain ⟨NT,hNT⟩:∃ P,(b5e s v g f).2.2=P:=⟨_,rfl⟩
 obtain ⟨NB,hNB⟩:∃ P,(b5e s v g f).2.1=P:=⟨_,rfl⟩
 obtain ⟨NE,hNE⟩:∃ P,(b5e s v g f).1=P:=⟨_,rfl⟩
 rw [hSG,hSE] at c2;rw [hWE,hW] at c3;rw [hNT,hNB,hNE] at c4;unfold SpT.D at c4;refine goI a2t (ff5 e0 e0' e3 e12 elv) cl cq c1 c2 c3 c4 ?_;refine goI a2t (ff5 e0 e0' e3 e12 elv) c5 c6 c7 d9N d9N d9N ?_;refine cI cS ?_;refine gwI (ff2 kF kT) ?_;refine ifI ?_;refine skI ?_;refine d9A (α:=Nat) (fun m=>⟨[(1,spD false v),(3,.optr 0 0 2 0 0),(5,.optr 1 1 4 0 0),(11,txD false W),(12,i64 (WE:Int)),(13,.optr 611 53 2 0 0),(14,boo NB),(15,i64 (NE:Int)),(17,.sl false 1 (a0S P))],[⟨611,53,40,2,[.agg [str (sb NT.lo),str (sb NT.hi)]]⟩,⟨1,1,54,4,[.agg [i64 g,i64 f,xv,xr]]⟩,⟨0,0,25,2,[.agg [.sl false 4 fsD,.sl false 3 gsD]]⟩],m⟩) (fun _=>True) ?_ ?_
 ·rcases P with _|⟨a,_|⟨a2,P⟩⟩
  ·exact d9R rfl hne
  ·obtain ⟨u1,u2⟩:=s1 a rfl
   have hI:a0S [a]=[i64 (a:Int)]:=rfl;have f1:decide (((1:Nat):Int)>1)=false:=rfl;have hm:([i64 (a:Int)]:List D)[0]? = some (i64 (a:Int)):=rfl;have cg:=c3I 0 a a s.gs.length fun _=>rfl
   rw [<- u1,<- u2,hSG,hSE] at cg;rw [hI] at *;refine goI a2t (ff3 f1 el2 Int.toNat_zero) hm cg d9N d9N d9N d9N ?_;exact ⟨by trivial,_,trivial,wkI⟩
  ·obtain ⟨u1,u2⟩:=s2 a a2 P rfl
   rw [hSG] at u1;rw [hSE] at u2;subst u1 u2;have f1:decide (((a0S (a::a2::P)).length:Int)>1)=true:=by
    refine d9S ?_;rw [d9X,d9Y,d9Y];omega
   have f2:(((15:Nat):Int) != 15)=false:=rfl;have f3:(((0:Nat):Int) != 0)=false:=rfl;refine goI a2t (ff3 f1 f2 f3) d9N d9N d9N d9N d9N d9N ?_;exact ⟨by trivial,_,trivial,wkI⟩
 rintro m1 -;have cu:=a7n g (s.gs.length+1);have wi1:=wiI (i:=s.gs.length) (by omega);have hw:=b9A s v hvf h1' g;rw [hP,sD] at hw;rw [hWE,hW] at hw;obtain ⟨U,hU⟩:∃ r,unk g (s.gs.length+1)=r:=⟨_,rfl⟩
 rw [hU] at hw cu;refine goI a2t (ff2 el2 wi1) d9N d9N d9N d9N d9N d9N ?_;refine cI cu ?_
 repeat (first|(refine a0p rfl rfl ?_;refine a1X (fun _ _=>rfl) ?_)|(refine a0v rfl rfl ?_;refine a1Z (fun _ _=>rfl) ?_)|refine a1j rfl rfl rfl (by first|(simp only [];done)|fail) (by exact sdI) (a1X (fun _ _=>rfl) ?_)|refine a4Y rfl rfl rfl (by first|(simp only [];done)|fail) (by exact sdI) ?_|refine a1Q rfl rfl rfl (by first|(simp only [];done)|fail) (by exact sdI) (a1Z (fun _ _=>rfl) ?_)|refine a5g rfl rfl rfl (by first|(simp only [];done)|fail) (by exact sdI) ?_|(refine a0p rfl rfl ?_;refine a5T rfl rfl rfl (by (try dsimp only);(try simp only []);exact rfl) ?_)|(refine a0p rfl rfl ?_;refine a4B rfl rfl rfl (by (try dsimp only);(try simp only []);exact rfl) ?_)|(refine a1j rfl rfl rfl (by first|(simp only [];done)|fail) (by exact sdI) ?_;refine a5T rfl rfl rfl (by (try dsimp only);(try simp only []);exact rfl) ?_)|(refine a1j rfl rfl rfl (by first|(simp only [];done)|fail) (by exact sdI) ?_;refine a4B rfl rfl rfl (by (try dsimp only);(try simp only []);exact rfl) ?_)|(refine a0v rfl rfl ?_;refine a4L rfl rfl rfl (by (try dsimp only);(try simp only []);exact rfl) ?_)|(refine a1Q rfl rfl rfl (by first|(simp only [];done)|fail) (by exact sdI) ?_;refine a4L rfl rfl rfl (by (try dsimp only);(try simp only []);exact rfl) ?_))
 refine stI ?_;refine d9A (α:=Nat) (fun m=>⟨[(1,spD false v),(3,.optr 0 0 2 0 0),(5,.optr 1 1 4 0 0),(11,txD false W),(12,i64 (WE:Int)),(13,.optr 611 53 2 0 0),(14,boo NB),(15,i64 (NE:Int)),(18,i64 (WE:Int))],[⟨611,53,40,2,[.agg [str (sb NT.lo),str (sb NT.hi)]]⟩,⟨1,1,54,4,[.agg [i64 g,i64 f,xv,xr]]⟩,⟨0,0,25,2,[.agg [.sl false 4 fsD,.sl false 3 gsD]]⟩],m⟩) (fun _=>True) ?_ ?_
 ·rcases hw with ⟨w1',w2,w3⟩|⟨k,rfl,w2,⟨w3,w4,w5⟩|⟨w3,w4,w5⟩⟩
  ·have e4:=d3L w1'
   subst w2;refine goI a2t e4 d9N d9N d9N d9N d9N d9N ?_;exact ⟨by trivial,_,trivial,wkI⟩
  ·have e4:=c7O w2
   have cH:=d6Z false P k (by omega);rw [w3] at cH;subst w4;refine goI a2t e4 cH d9N d9N d9N d9N d9N ?_;exact ⟨by trivial,_,trivial,wkI⟩
  ·have e4:=c7O w2
   have cH:=d6Z false P k (by omega);rw [w3] at cH
   have:U=WE:=by rw [w2,w4]
   subst this;refine goI a2t e4 cH d9N d9N d9N d9N d9N ?_;exact ⟨by trivial,_,trivial,wkI⟩
 rintro m2 -;have nWE:((WE:Int) != (WE:Int))=false:=d4c rfl;refine d9A (α:=Nat) (fun m=>⟨[(1,spD false v),(3,.optr 0 0 2 0 0),(5,.optr 1 1 4 0 0),(13,.optr 611 53 2 0 0),(14,boo NB),(15,i64 (NE:Int))],[⟨611,53,40,2,[.agg [str (sb NT.lo),str (sb NT.hi)]]⟩,⟨1,1,54,4,[.agg [i64 g,i64 f,xv,xr]]⟩,⟨0,0,25,2,[.agg [.sl false 4 fsD,.sl false 3 gsD]]⟩],m⟩) (fun _=>True) ?_ ?_
 ·have hw2:(WE≠0/\W=[])\/(WE=0/\∃ k:Nat,g=k/\a0b C0 25 [.agg [.sl false 4 fsD,.sl false 3 gsD],spD false v,txD false W,i64 (k:Int)] (boo true)):=by
   rcases hw with ⟨w1',w2,w3⟩|⟨k,rfl,w2,⟨w3,w4,w5⟩|⟨w3,w4,w5⟩⟩
   ·exact .inl ⟨w2 ▸ w1',w3⟩
   ·exact .inl ⟨by rw [w4];decide,w5⟩
   ·exact .inr ⟨w4,k,rfl,w5⟩
  rcases hw2 with ⟨w2,rfl⟩|⟨w2,k,rfl,cS⟩
  ·have e4:=b1R w2
   have e5:=d3L w2;have e6:decide (((0:Nat):Int)>0)=false:=rfl;refine goI a2t (ff4 nWE e4 e5 e6) d9N d9N d9N d9N d9N d9N ?_;exact ⟨by trivial,_,trivial,wkI⟩
  ·have e4:=b2s w2
   have e5:=c7O w2;refine goI a2t (ff3 nWE e4 e5) cS d9N d9N d9N d9N d9N ?_;exact ⟨by trivial,_,trivial,wkI⟩
 rintro m3 -;have hn:=c0I s v h1' g f;rw [hNE,hNB,hNT] at hn;have cu1:=a7n g s.gs.length;have cu2:=a7n f s.fs.length;have cf:=d1V (unk g s.gs.length) (unk f s.fs.length);obtain ⟨Z,hZ⟩:∃ r,b0j (unk g s.gs.length) (unk f s.fs.length)=r:=⟨_,rfl⟩
 rw [hZ] at cf hn;have zNE:=bself NE;rcases hn with ⟨hz,n1,n2,n3⟩|⟨k,j,rfl,rfl,hk,hj,hz,n1,n2,n3⟩
 ·have e4:=b1R hz
  subst n1 n2 n3;refine goI a2t (ff5 el1 el2 e4 zNE z4) cu1 cu2 cf ha d9N d9N ?_;exact a0a rfl IsPure.out
 have e4:=b2s hz;subst n1;obtain ⟨y,hy⟩:=a0J (l:=v) (i:=j) (by omega);rw [b3o hy] at n2 n3;have hyc:=k3 y (d9V hy);have cN:=b8P (s.gs.getD k default) j s.fs.length y (c2U (a0H k0) hk) hj hyc.1 hyc.2.1;rw [<- n2] at n3 cN;rw [<- n3] at cN;clear n2 n3 hw;have hm1:=hgs k hk;have hm2:(v.map SpT.D)[j]? = some (.agg [str (sb y.lo),str (sb y.hi)]):=by rw [e0l,hy];rfl
 unfold a0M.D at hm1 cN;unfold SpT.D at cN;have g0:=k0;have q1:∀ l:List UInt8,a1z (sb l) (sb l)=true:=fun l=>by rw [a5N];exact d9S rfl
 have z5:(a1z (sb NT.lo) (sb NT.lo)&&(a1z (sb NT.hi) (sb NT.hi)&&true))=true:=by rw [q1,q1];rfl
 have z6:(NB==NB)=true:=by cases NB<;>rfl
 refine goI a2t (ff2 el1 el2) cu1 cu2 cf d9N d9N d9N ?_;rw [e4];dsimp only [brB];refine skI ?_;refine OkS.seq ?_;refine d9v w1 2800 [0,1,2,3,4,5,6,7,8,9,10,11,12,13,14,15,16,17,18] [19] 18 17 [14,12,11,10,9,8,7,6,5,4,3,2,1,0,13,15,17] (by kernel_rfl) (by kernel_rfl) ?_;refine dsI ?_;refine gvI kN ?_;refine a0B rfl rfl rfl rfl ?_;refine a2E (fun _ _=>rfl) sdI ⟨rfl,by omega⟩ hm1 ?_
 try dsimp only [D.cells]
 refine gvI kN ?_;refine a0B rfl rfl rfl rfl ?_;refine a2E (fun _ _=>rfl) sdI ⟨rfl,by omega⟩ hm2 ?_
 try dsimp only [D.cells]
 refine gvI kN ?_;refine a0B rfl rfl rfl rfl ?_;refine dsI ?_;refine And.intro (by exact sdI) ?_;refine dsI ?_;refine a0r.same _ cN d9O ?_;refine dsI ?_;refine gvI kN ?_;refine And.intro ⟨trivial,.inl d9N⟩ ?_;have zNT:(((0:Nat):Int)==0)=true:=rfl;refine goI a2t (ff3 z5 z6 zNT) ha d9N d9N d9N d9N d9N ?_;exact a0a rfl IsPure.out
end Go.Ide
