/- The layer of own lemmas and contracts, part 11. -/
import Derived.Test.YteeceibhhdapaaaGreatDoorP9
import Derived.Test.YteeceibhhdapaaaGreatDoorP10
import Derived.Test.YteeceibhhdapaaaGreatDoorP3
import Derived.Test.YteeceibhhdapaaaGreatDoorP7
import Derived.Shelf.RegionOpenPlain
import Derived.Lib.Builder
import Derived.Lib.UnsafeStr
import Derived.Lib.Strings
import Derived.Lib.Slices
import Derived.Lib.Walk
import Derived.Laws.Externs
import Derived.KernelRfl
import Derived.WalkKit
import Derived.Shelf.Strconv.Itoa3
import Derived.Lib.ItoaMem
import Derived.Lib.AppendIntMem
import Derived.BigCall
import Derived.BigGuard
import Derived.Test.YteeceibhhdapaaaGreatDoorP8
import Derived.Test.YteeceibhhdapaaaGreatDoorP4
import Derived.Shelf.SlSortCmp.WholeK
import Derived.Shelf.Lay
import Derived.Laws.Cover1
import Derived.Shelf.Small.Bits
import Derived.Ground.SlsfProg
import Derived.Ground.NamesProg
import Derived.Shelf.SlIter.Sorted
import Derived.Shelf.SortM.Plain
import Derived.Shelf.SortM.SortNone
import Derived.Ground.GgzProg
import Derived.Ground.SlgmProg
set_option linter.unusedVariables false
set_option linter.unusedSimpArgs false
namespace Go.Ide
open Go.Proofs Go.RowKit
set_option maxRecDepth 20000
set_option maxHeartbeats 4000000
theorem CX {i n:Nat}(h:i<n):decide ((i:Int)<(n:Int))=true:=AX (by omega)
theorem Ca {i n:Nat}(h:n<=i):decide ((i:Int)<(n:Int))=false:=Af (by omega)
theorem Cf {i:Nat}(h:i<9223372036854775807):IntKind.i64.wrap ((i:Int)+1)=((i+1:Nat):Int):=wI (by omega) (by omega)
theorem CQ {α:Type}{l:List α}{i:Nat}(h:i<l.length):∃x,l[i]?=some x:=⟨l[i],BF h⟩
instance  (l:List UInt8):Ak (F9 l).D:=by unfold GF.D;exact AH
theorem Eo {a:Nat}(h:a≠0):(((a:Nat):Int) != 0)=true:=SS (by omega)
theorem FC {a:Nat}(h:a=0):(((a:Nat):Int) != 0)=false:=by subst h;rfl
theorem uc {a:Nat}(h:a≠0):(((a:Nat):Int)==0)=false:=B6.2 (by omega)
set_option maxHeartbeats 1000000
set_option maxRecDepth 100000
theorem tg {n:Nat}(h:1<=n):liesAt Tryz.prog Tryz.prog.depth 244 n 0 244 1=true:=by
 have hs:sameLayout Tryz.prog Tryz.prog.depth 244 244=true:=by kernel_rfl
 have hc:Tryz.prog.cellsOf 244=2:=by kernel_rfl
 obtain⟨d,hd⟩:∃d,Tryz.prog.depth=d+1:=⟨Tryz.prog.depth-1,by kernel_rfl⟩
 rw[hd]at hs⊢;unfold liesAt;rw[hd];unfold rowAt;simp[hc,hs,h]
theorem kE (b c:Nat)(hc:2<=c)(w:World)(h0:w.cell? ⟨b,0,none⟩=some (.pointer none))(hsh:w.shape? b=some (244,c))(hfz:w.frozen? ⟨b,0,none⟩=false):
  Calls Tryz.prog 262 #[.pointer (some ⟨b,0,none⟩)] w λe w'=>e=.returned (.tuple #[])/\w'=w.setCell ⟨b,0,none⟩ (.pointer (some ⟨b,0,none⟩)):=by
 obtain⟨j,hj,hjs⟩:=Option.map_eq_some_iff.1 (show(Tryz.prog.info? 244).map (·.size)=some 2 by kernel_rfl);have hl:liesAt Tryz.prog Tryz.prog.depth 244 (c/Tryz.prog.cellsOf 244) 0 244 1=true:=tg (by rw[show Tryz.prog.cellsOf 244=2 by kernel_rfl];omega)
 go_enter Tryz.func262,Tryz.ntmps262
 go_wp2
 rw[Lib.run_to_unsafe w ⟨b,0,none⟩ (t:=244) (by kernel_rfl) (by kernel_rfl) hj (by rw[hjs];decide) hsh (by show 0<c;omega)];simp only[Result.andThen];rw[Oper.upon_value]
 go_wp2
 rw[run_callFunc_extern Tryz.func293 (by kernel_rfl) (by kernel_rfl) (by kernel_rfl) (e:=Extern.AbiNoEscape.same) (by kernel_rfl)];rw[Lib.run_noEscape];simp only[Result.andThen];rw[Oper.upon_value]
 go_wp2
 rw[Lib.run_from_unsafe w ⟨b,0,none⟩ (u:=244) (by kernel_rfl) (by kernel_rfl) hj hsh hl];simp only[Result.andThen];rw[Oper.upon_value]
 go_wp2
 go_end0
 exact⟨rfl,rfl⟩
theorem nJ (b:Nat)(w:World)(h0:w.cell? ⟨b,0,none⟩=some (.pointer (some ⟨b,0,none⟩))):
  Calls Tryz.prog 262 #[.pointer (some ⟨b,0,none⟩)] w λe w'=>e=.returned (.tuple #[])/\w'=w:=by
 obtain⟨j,hj,hjs⟩:=Option.map_eq_some_iff.1 (show(Tryz.prog.info? 244).map (·.size)=some 2 by kernel_rfl)
 go_enter Tryz.func262,Tryz.ntmps262
 go_wp2
 rw[Lib.run_neq_ptr_same w _ (te:=244) (by kernel_rfl) hj]
 go_wp2
 go_end0
 exact⟨rfl,rfl⟩
theorem ub (b g:Nat)(cur cs:Array Value)(l:List UInt8)(h0:l≠[])(w:World)(hb:w.heap[b]?=some (.cells cs 244 (0,0)))(hb1:cs[1]?=some (.slice (some ⟨g,0,none⟩) l.length cur.size))
  (hg:w.heap[g]?=some (.cells cur 5 (0,0))) (hl:l.length<=cur.size) (hcap:cur.size<=maxLen) (hcell:∀(j:Nat) (x:UInt8),l[j]?=some x->cur[j]?=some (.int .u8 x.toNat)):
  Calls Tryz.prog 213 #[.pointer (some ⟨b,0,none⟩)] w λe w'=>e=.returned (.string ⟨l.toArray⟩)/\w'=(w.drew.freeze ⟨g,0,none⟩ l.length):=by
 have c1:w.drew.cell? ⟨b,1,none⟩=some (.slice (some ⟨g,0,none⟩) l.length cur.size):=by
  have:w.drew.heap[b]?=some (.cells cs 244 (0,0)):=hb
  rw[Lib.cell_of_heap this];exact hb1
 have h0':l.length≠0:=by simpa using h0
 have hSD:(Builtin.unsafeSliceData_ #[242] 279 #[.slice (some ⟨g,0,none⟩) l.length cur.size]).run Tryz.prog w.drew=.ok (.pointer (some ⟨g,0,none⟩)) w.drew:=
  Lib.run_unsafeSliceData_row _ _ _ _ _ _ (by omega)
 have hUS:(Builtin.unsafeString_ #[279,3] 9 #[.pointer (some ⟨g,0,none⟩),.int .i64 l.length]).run Tryz.prog w.drew=.ok (.string ⟨l.toArray⟩) (w.drew.freeze ⟨g,0,none⟩ l.length):=by
  refine Lib.run_unsafeString_row w.drew 279 3 9 5 (by kernel_rfl) (by kernel_rfl) g cur.size (by have hg':w.drew.heap[g]?=some (.cells cur 5 (0,0)):=hg;simp[World.shape?,hg']) l h0 (by omega) (by unfold maxLen at hcap;omega) ?_;intro j x hx;have hg':w.drew.heap[g]?=some (.cells cur 5 (0,0)):=hg
  have:=hcell j x hx
  rw[Addr.add_lit];simp[World.cell?,hg',this]
 have mixed:Tryz.prog.follows .mixedOrders=true:=by kernel_rfl
 go_enter Tryz.func213,Tryz.ntmps213
 go_wp2
 go_region_o
 all_goals(go_wp2;go_ret;exact⟨rfl,rfl⟩)
def Fi (l:List UInt8):List D:=l.map λb=>.prim (.int .u8 (b.toNat:Int))
abbrev FT (g:Nat)(p x:D):Ar:=⟨1500,g,244,2,[.agg [p,x]]⟩
theorem aw {vs:Array Value}(h:vs.size=1):vs = #[vs.getD 0 undef]:=by
 match vs,h with
 |⟨[u]⟩,_=>rfl
theorem ax (g n:Nat)(x p:D)(H1 H2:Hp)(hp:p=.prim (.pointer none)\/p=.optr 1500 g 2 0 0):
  CW C0 262 [.optr 1500 g 2 0 0] (H1++FT g p x::H2) n (λd H' n'=>d=.prim (.tuple #[])/\H'=H1++FT g (.optr 1500 g 2 0 0) x::H2/\n'=n):=by
 refine⟨⟨_,_,Tryz.func262,rfl,by kernel_rfl⟩,λF ρ w vs m fr hgn hvs hr=>?_⟩;have h0:=hr 0 _ rfl;rw[aw hvs];generalize hv:vs.getD 0 undef=v at h0;cases h0 with
 |optr hρ=>
  rename_i b;have he:FT g p x∈H1++FT g p x::H2:=by simp
  obtain⟨cs,hc,q⟩:=m.at he hρ;have hlen:2<=cs.size:=q.len;have hr0:AU ρ (AM F.X ρ (H1++FT g p x::H2)) w p (cs.getD 0 undef):=q.rep 0 _ 0 p rfl rfl;have hr1:AU ρ (AM F.X ρ (H1++FT g p x::H2)) w x (cs.getD 1 undef):=q.rep 0 _ 1 x rfl rfl;have hcell:w.cell? ⟨b,0,none⟩=some (cs.getD 0 undef):=by
   simp[World.cell?,hc,Array.getD,show 0<cs.size by omega]
  rcases hp with rfl|rfl
  ·cases hr0':cs.getD 0 undef with
   |pointer a=>
    rw[hr0']at hr0 hcell;cases hr0;refine(kE b cs.size hlen w hcell (by simp[World.shape?,hc]) (by simp[World.frozen?,hc])).mono ?_;rintro e w' ⟨rfl,rfl⟩;have hset:w.setCell ⟨b,0,none⟩ (.pointer (some ⟨b,0,none⟩))=World.setBlk w b (cs.setIfInBounds 0 (.pointer (some ⟨b,0,none⟩))) 244:=by
     rw[setCell_eq_setRow w b 0 cs 244 (0,0) _ hc];exact Rt hc
    have hop:AU ρ (AM F.X ρ (H1++FT g (.prim (.pointer none)) x::H2)) w (.optr 1500 g 2 0 0) (.pointer (some ⟨b,0*2+0,none⟩)):=.optr hρ;have ho:C3 ρ (AM F.X ρ (H1++FT g (.prim (.pointer none)) x::H2)) w (FT g (.optr 1500 g 2 0 0) x) (cs.setIfInBounds 0 (.pointer (some ⟨b,0,none⟩))):=by
     refine⟨by rw[UI];exact q.len,λi d hd=>?_,λi v hv=>?_,λi d j c hd hj=>?_⟩
     ·rcases i with _|i
      ·cases hd;rfl
      ·simp at hd
     ·rw[HM]at hv
      split at hv
      ·split at hv
       ·cases hv;rfl
       ·cases hv
      ·exact q.one i v hv
     ·rcases i with _|i
      ·cases hd
       rcases j with _|_|j
       ·cases hj
        have:(cs.setIfInBounds 0 (.pointer (some ⟨b,0,none⟩))).getD (0*2+0) undef=.pointer (some ⟨b,0*2+0,none⟩):=by
         simp[Aw,show 0<cs.size by omega]
        rw[this];exact hop
       ·cases hj
        have:(cs.setIfInBounds 0 (.pointer (some ⟨b,0,none⟩))).getD (0*2+1) undef=cs.getD 1 undef:=by
         simp[Aw]
        rw[this];exact hr1
       ·simp[D.cells]at hj
      ·simp at hd
    obtain⟨m1,x1⟩:=m.write (e':=FT g (.optr 1500 g 2 0 0) x) hρ hc rfl rfl rfl (UI ..) ho;rw[hset];exact⟨_,_,_,n,ρ,rfl,⟨rfl,rfl,rfl⟩,m1,x1,fr,λe' he'=>by
     rcases List.mem_append.1 he' with h|h
     ·exact hgn e' (by simp[h])
     ·rcases A7.1 h with rfl|h
      ·exact hgn (FT g (.prim (.pointer none)) x) he
      ·exact hgn e' (by simp[h]),.prim _⟩
   |_=>rw[hr0']at hr0;cases hr0
  ·cases hr0':cs.getD 0 undef with
   |pointer a=>
    rw[hr0']at hr0 hcell;cases hr0 with
    |optr hρ2=>
     rw[hρ]at hρ2;cases hρ2;refine(nJ b w hcell).mono ?_;rintro e w' ⟨rfl,rfl⟩;exact⟨_,_,_,n,ρ,rfl,⟨rfl,rfl,rfl⟩,m,BN.refl _ _ _,fr,hgn,.prim _⟩
   |_=>rw[hr0']at hr0;cases hr0
theorem bx (w:World)(g n:Nat)(hn:n≠0)(cur:Array Value)(T:Nat)(hg:w.heap[g]?=some (.cells cur T (0,0))):
  (w.freeze ⟨g,0,none⟩ n).heap.size=w.heap.size/\(w.freeze ⟨g,0,none⟩ n).os=w.os/\(w.freeze ⟨g,0,none⟩ n).tape=w.tape/\(w.freeze ⟨g,0,none⟩ n).output=w.output /\
  (∀k,k≠g->(w.freeze ⟨g,0,none⟩ n).heap[k]?=w.heap[k]?)/\∃(cs':Array Value) (fz':Nat×Nat),(w.freeze ⟨g,0,none⟩ n).heap[g]?=some (.cells cs' T fz')/\cs'.size=cur.size:=by
 unfold World.freeze;rw[AE hn];refine⟨by simp,rfl,rfl,rfl,λk hk=>?_,?_⟩
 ·dsimp only
  rw[Array.getElem?_modify,AE (λh=>hk h.symm)]
 ·dsimp only
  rw[Array.getElem?_modify,AF rfl,hg];exact⟨cur,_,rfl,rfl⟩
theorem uC (g gb n:Nat)(l:List UInt8)(h0:l≠[])(p:D)(R:Hp):
  CW C0 213 [.optr 1500 g 2 0 0] (⟨206,gb,5,1,Fi l⟩::FT g p (.osl 206 gb 1 0 l.length)::R) n (λd H' n'=>d=str ⟨l.toArray⟩/\H'=FT g p (.osl 206 gb 1 0 l.length)::R/\n'=n):=by
 refine⟨⟨_,_,Tryz.func213,rfl,by kernel_rfl⟩,λF ρ w vs m fr hgn hvs hr=>?_⟩;have hz:=hr 0 _ rfl;have h0':l.length≠0:=by simpa using h0
 rw[aw hvs];generalize hv:vs.getD 0 undef=v at hz;cases hz with
 |optr hρ=>
  rename_i b;obtain⟨cs,hc,q⟩:=m.at (e:=FT g p (.osl 206 gb 1 0 l.length)) (by simp) hρ;have hlen:2<=cs.size:=q.len;have hr1:AU ρ (AM F.X ρ (⟨206,gb,5,1,Fi l⟩::FT g p (.osl 206 gb 1 0 l.length)::R)) w (.osl 206 gb 1 0 l.length) (cs.getD 1 undef):=q.rep 0 _ 1 (.osl 206 gb 1 0 l.length) rfl rfl;generalize hs1:cs.getD 1 undef=sv at hr1;generalize hL:l.length=L at hr1;cases hr1 with
   |onil=>exact AY hL h0'
   |osl hρ2 hb2 hc2 hs2 hm2=>
    rename_i cap gy T' cs2 fz2;obtain⟨cur,hcur,qy⟩:=m.at (e:=⟨206,gb,5,1,Fi l⟩) (by simp) hρ2;rw[hb2]at hcur;cases hcur;have hcap:cap=cs2.size:=by omega
    subst hcap;have hcell:∀(j:Nat) (x:UInt8),l[j]?=some x->cs2[j]?=some (.int .u8 x.toNat):=λj x hx=>by
     have hr:=qy.rep j (.prim (.int .u8 (x.toNat:Int))) 0 (.prim (.int .u8 (x.toNat:Int))) (by unfold Fi;rw[BH,hx];rfl) rfl;have hlt:j<cs2.size:=by
      have:=(List.getElem?_eq_some_iff.1 hx).1
      omega
     generalize hvv:cs2.getD (j*1+0) undef=vv at hr;cases hr;rw[Bd hlt]
     have:cs2.getD j undef=cs2[j]:=by simp[Array.getD,hlt]
     rw[D6,DM,this]at hvv;rw[hvv]
    have hb1:cs[1]?=some (.slice (some ⟨gy,0,none⟩) l.length cs2.size):=by
     have hlt:1<cs.size:=by omega
     rw[Bd hlt]
     have:cs.getD 1 undef=cs[1]:=by simp[Array.getD,hlt]
     rw[this]at hs1;rw[hs1,hL,GZ]
    refine(ub b gy cs2 cs l h0 w hc hb1 hb2 (by omega) (by omega) hcell).mono ?_;rintro e w' ⟨rfl,rfl⟩;have md:=m.drew;obtain⟨f1,f2,f3,f4,f5,cs',fz',f6,f7⟩:=bx w.drew gy l.length h0' cs2 5 hb2;obtain⟨m1,x1⟩:=vR (H1:=[]) (H2:=FT g p (.osl 206 gb 1 0 l.length)::R) (w':=w.drew.freeze ⟨gy,0,none⟩ l.length) md hρ2 f1 f2 f3 f4 f5 (λc hcc=>by
     have hb2':w.drew.heap[gy]?=some (.cells cs2 5 (0,0)):=hb2;have hcc':w.drew.heap[gy]?=some (.cells c 5 (0,0)):=hcc;rw[hb2']at hcc';cases hcc';exact⟨cs',fz',f6,f7⟩)
    rw[hL];rw[hL]at m1 x1;exact⟨_,_,_,n,ρ,rfl,⟨rfl,rfl,rfl⟩,m1,(BN.drew _ _ _).trans x1,fr,λe' he'=>hgn e' (by rw[hL];exact Cq _ he'),.prim _⟩
set_option maxRecDepth 20000
set_option maxHeartbeats 4000000
def bH (gb g:Nat)(p:D)(L:List UInt8)(R:Hp):Hp:=DB 206 gb 5 1 (Fi L)++(FT g p (DK 206 gb 1 (Fi L))::R)
theorem gA (s:List UInt8):Hm (sb s)=Fi s:=rfl
theorem NE (l:List UInt8):(Fi l).length=l.length:=Ap ..
theorem fv (a b:List UInt8):Fi (a++b)=Fi a++Fi b:=DE
theorem WF {l:List UInt8}(h:l≠[]):∃x r,Fi l=x::r:=by
 cases l with
 |nil=>exact AY rfl h
 |cons a l=>exact⟨_,_,rfl⟩
theorem bM (g gb n:Nat)(p:D)(hp:p=.prim (.pointer none)\/p=.optr 1500 g 2 0 0)(L s:List UInt8)(hs:s≠[])(R:Hp)(hlen:L.length+s.length<=100000000):
  CW C0 212 [.optr 1500 g 2 0 0,str (sb s)] (bH gb g p L R) n (λd H' n'=>(∃g',H'=bH g' g (.optr 1500 g 2 0 0) (L++s) R)/\n<=n'):=by
 refine CW.walk w1 ZU rfl λF=>?_
 have hsz:=CN s;have hb:=gA s;obtain⟨x,r,hx⟩:=WF hs;have hr:s.length=r.length+1:=by rw[<-NE,hx];rfl
 unfold bH;rw[fv];cases hL:Fi L with
 |nil=>
  dsimp only[Fg,Fh,List.nil_append];refine AJ Ad kB AB AB AB AB AB AB ?_;refine Az.own _ (ax g _ CE p [] R hp) ?_;rintro d H' n' ⟨rfl,rfl,rfl⟩;have hL0:L.length=0:=by rw[<-NE,hL];rfl
  refine AJ Ad (Ac hsz hb) AB AB AB AB AB AB ?_;refine⟨?_,by omega⟩;apply Exists.intro;rw[hx,hr];rfl
 |cons y l=>
  dsimp only[Eg,Eh,List.cons_append,List.nil_append];have hL1:L.length=l.length+1:=by rw[<-NE,hL];rfl
  have htk:List.take (l.length+1) (y::l)=y::l:=by simp
  refine AJ Ad kB AB AB AB AB AB AB ?_;refine Az.own _ (ax g _ (.osl 206 gb 1 0 (l.length+1)) p [⟨206,gb,5,1,y::l⟩] R hp) ?_;rintro d H' n' ⟨rfl,rfl,rfl⟩;refine AJ Ad (At hsz hb htk) AB AB AB AB AB AB ?_;refine⟨?_,by omega⟩;apply Exists.intro;have hap:y::l++Fi s=y::(l++Fi s):=rfl;have hl2:(l++Fi s).length+1=l.length+1+s.length:=by rw[B3,NE];omega
  rw[hl2]
open Go.Sort Go.Shelf
section
open Go.Lib
set_option maxHeartbeats 6400000 in
set_option maxRecDepth 100000 in
theorem uj (u:Nat) (hu64:u<18446744073709551616) (w:World) (htab:Lib.TabIs Tryz.prog w "internal/strconv.uint64pow10" .u64 Lib.pow10Tab):
  Calls Tryz.prog 258 #[.int .u64 u,.int .i64 10] w λe w'=>e=.returned (.string ⟨(Lib.decDigits u).toArray⟩)/\∃k os,w'=grow (w.drewN k) os:=by
 have e283:∀args w,(callFunc 287 args).run Tryz.prog w=.ok (.enter 287 args) w:=enters_of Tryz.func287 (by kernel_rfl) rfl;have e284:∀args w,(callFunc 288 args).run Tryz.prog w=.ok (.enter 288 args) w:=enters_of Tryz.func288 (by kernel_rfl) rfl;have e285:∀args w,(callFunc 289 args).run Tryz.prog w=.ok (.enter 289 args) w:=enters_of Tryz.func289 (by kernel_rfl) rfl
 by_cases hs:u<100
 ·go_enter Tryz.func258,Tryz.ntmps258
  go_wp2_with (go_at_fn 287;refine(Tryz.internal_strconv_small u hs _).mono ?_;rintro e w' ⟨rfl,rfl⟩)
  go_ret
  exact⟨rfl,0,#[],by simp[World.drewN_zero]⟩
 ·have hu1:1<=u:=by omega
  have hnd20:Lib.nDigits u<=20:=by have:=Lib.numDigits_eq u hu1 hu64;split at this<;>omega
  have hb3:Lib.nDigits u<=24:=by omega
  have hal:Tryz.prog.arrayLen 297=24:=by kernel_rfl
  have hsl1:∀W,(Instr.sliceAt 297 (.pointer (some ⟨w.heap.size,0,none⟩)) none (some (.int .i64 (Lib.nDigits u:Int))) none).run Tryz.prog W=.ok (.slice (some ⟨w.heap.size,0,none⟩) (Lib.nDigits u) 24) W:=λW=>by
   rw[run_sliceAt_array_h W 297 ⟨w.heap.size,0,none⟩ (by kernel_rfl) .i64 (Lib.nDigits u:Int) (by omega) (by rw[hal];omega)]
   go_simp
  have hH0:=Lib.holds_zero0 w 297 (Lib.nDigits u) (by omega);have hfmt:=Tryz.internal_strconv_formatBase10 w.heap.size 0 24 u (Array.replicate (Lib.nDigits u) 0) (w.alloc (.cells Lib.zeros24 297)) hH0 (by rw[Q4];exact Lib.lt_pow_nDigits u) hu64 (by rw[Q4];omega);rw[Q4]at hfmt;have HH0:=Lib.hid hH0;clear hH0 hal
  go_enter Tryz.func258,Tryz.ntmps258
  go_wp2_with (first
   |(go_at_fn 288;refine(Tryz.internal_strconv_numDigits u hu1 hu64 _ (Lib.tabIs_alloc htab _)).mono ?_;rintro e w' ⟨rfl,rfl⟩))
  go_at_fn 289
  refine hfmt.mono ?_;rintro e w' ⟨rfl,k,v',dk,rfl,hF⟩;have hcv:(convert 242 9 (.slice (some ⟨w.heap.size,0,none⟩) (Lib.nDigits u) 24)).run Tryz.prog ((putRow (λ(b:UInt8)=>Value.int .u8 (b.toNat:Int)) (w.alloc (.cells Lib.zeros24 297)) w.heap.size 0 dk).drewN k)=.ok (.string ⟨(Lib.decDigits u).toArray⟩) ((putRow (λ(b:UInt8)=>Value.int .u8 (b.toNat:Int)) (w.alloc (.cells Lib.zeros24 297)) w.heap.size 0 dk).drewN k):=by
   have h:=run_convert_bytes_back (P:=Tryz.prog) ((putRow (λ(b:UInt8)=>Value.int .u8 (b.toNat:Int)) (w.alloc (.cells Lib.zeros24 297)) w.heap.size 0 dk).drewN k) 242 9 5 ⟨w.heap.size,0,none⟩ 24 (Lib.decDigits u) (by kernel_rfl) (by kernel_rfl) (by kernel_rfl) (λj hj=>by
    rw[Lib.row_is_numeral hF j hj,Lib.add_plain,World.cell?_drewN];exact cell?_putRow (λ(b:UInt8)=>Value.int .u8 (b.toNat:Int)) _ w.heap.size 0 _ dk HH0.out (by rw[hF.size,Q4]) j (by rw[hF.size];rw[Lib.decDigits_length]at hj;exact hj))
   rw[Lib.decDigits_length]at h;exact h
  go_wp2
  go_ret
  obtain⟨os,eo⟩:=Lib.fin_at w (.cells Lib.zeros24 297) dk k 0;exact⟨rfl,k,os,eo⟩
end
theorem dx {O:Nat->Prop}{w:World}{v u:Value}{vs:Array Value}(hn:vs.size=2)(h:∀(i:Nat) (x:D),[D.prim v,.prim u][i]?=some x->AU nol O w x (vs.getD i undef)):vs = #[v,u]:=by
 match vs,hn with
 |⟨[a,b]⟩,_=>
  have h0:=h 0 _ rfl;have h1:=h 1 _ rfl;simp at h0 h1;cases h0;cases h1;rfl
theorem lE (u:Nat)(hu:u<18446744073709551616):AK C0 258 [.prim (.int .u64 (u:Int)),i64 10] (str ⟨(Lib.decDigits u).toArray⟩):=by
 refine⟨⟨_,_,Tryz.func258,rfl,by kernel_rfl⟩,λY w vs hG hnG hX hvs hr=>?_⟩
 have:=dx hvs hr
 subst this;refine(uj u hu w hG).mono ?_;rintro e w' ⟨rfl,k,os,rfl⟩;exact⟨_,_,rfl,Lib.below_grow _ _ (Ag _) _ _,rfl,.prim _⟩
theorem mX (u:Nat)(hu:u<18446744073709551616):AK C0 210 [.prim (.int .u64 (u:Int)),i64 10] (str ⟨(Lib.decDigits u).toArray⟩):=by
 refine Ai.walk w1 ZT rfl λF=>?_
 refine AJ Ad kB (lE u hu) AB AB AB AB AB ?_;exact AO rfl AA.out
theorem wE:AK C0 211 [str ⟨#[48]⟩,i64 0] (str ⟨#[]⟩):=CD DO 400 20 (by kernel_rfl)
theorem wF:AK C0 211 [str ⟨#[48]⟩,i64 1] (str ⟨#[48]⟩):=CD DO 400 20 (by kernel_rfl)
theorem wG:AK C0 211 [str ⟨#[48]⟩,i64 2] (str ⟨#[48,48]⟩):=CD DO 400 20 (by kernel_rfl)
theorem wH:AK C0 211 [str ⟨#[48]⟩,i64 3] (str ⟨#[48,48,48]⟩):=CD DO 400 20 (by kernel_rfl)
theorem wJ:AK C0 211 [str ⟨#[48]⟩,i64 4] (str ⟨#[48,48,48,48]⟩):=CD DO 400 20 (by kernel_rfl)
theorem wK:AK C0 211 [str ⟨#[48]⟩,i64 5] (str ⟨#[48,48,48,48,48]⟩):=CD DO 400 20 (by kernel_rfl)
theorem wM:AK C0 211 [str ⟨#[48]⟩,i64 6] (str ⟨#[48,48,48,48,48,48]⟩):=CD DO 400 20 (by kernel_rfl)
theorem wO:AK C0 211 [str ⟨#[48]⟩,i64 7] (str ⟨#[48,48,48,48,48,48,48]⟩):=CD DO 400 20 (by kernel_rfl)
theorem wQ:AK C0 211 [str ⟨#[48]⟩,i64 8] (str ⟨#[48,48,48,48,48,48,48,48]⟩):=CD DO 400 20 (by kernel_rfl)
theorem wR:AK C0 211 [str ⟨#[48]⟩,i64 9] (str ⟨#[48,48,48,48,48,48,48,48,48]⟩):=CD DO 400 20 (by kernel_rfl)
theorem uN:AK C0 211 [str ⟨#[48]⟩,i64 10] (str ⟨#[48,48,48,48,48,48,48,48,48,48]⟩):=CD DO 400 20 (by kernel_rfl)
theorem uO:AK C0 211 [str ⟨#[48]⟩,i64 11] (str ⟨#[48,48,48,48,48,48,48,48,48,48,48]⟩):=CD DO 400 20 (by kernel_rfl)
theorem uP:AK C0 211 [str ⟨#[48]⟩,i64 12] (str ⟨#[48,48,48,48,48,48,48,48,48,48,48,48]⟩):=CD DO 400 20 (by kernel_rfl)
theorem uQ:AK C0 211 [str ⟨#[48]⟩,i64 13] (str ⟨#[48,48,48,48,48,48,48,48,48,48,48,48,48]⟩):=CD DO 400 20 (by kernel_rfl)
theorem uR:AK C0 211 [str ⟨#[48]⟩,i64 14] (str ⟨#[48,48,48,48,48,48,48,48,48,48,48,48,48,48]⟩):=CD DO 400 20 (by kernel_rfl)
theorem uS:AK C0 211 [str ⟨#[48]⟩,i64 15] (str ⟨#[48,48,48,48,48,48,48,48,48,48,48,48,48,48,48]⟩):=CD DO 400 20 (by kernel_rfl)
theorem uT:AK C0 211 [str ⟨#[48]⟩,i64 16] (str ⟨#[48,48,48,48,48,48,48,48,48,48,48,48,48,48,48,48]⟩):=CD DO 400 20 (by kernel_rfl)
theorem uU:AK C0 211 [str ⟨#[48]⟩,i64 17] (str ⟨#[48,48,48,48,48,48,48,48,48,48,48,48,48,48,48,48,48]⟩):=CD DO 400 20 (by kernel_rfl)
theorem ko (n:Nat)(h:n<=17):AK C0 211 [str ⟨#[48]⟩,i64 (n:Int)] (str ⟨(List.replicate n 48).toArray⟩):=by
 match n,h with
 | 0,_=>exact wE
 | 1,_=>exact wF
 | 2,_=>exact wG
 | 3,_=>exact wH
 | 4,_=>exact wJ
 | 5,_=>exact wK
 | 6,_=>exact wM
 | 7,_=>exact wO
 | 8,_=>exact wQ
 | 9,_=>exact wR
 | 10,_=>exact uN
 | 11,_=>exact uO
 | 12,_=>exact uP
 | 13,_=>exact uQ
 | 14,_=>exact uR
 | 15,_=>exact uS
 | 16,_=>exact uT
 | 17,_=>exact uU
 |n+18,h=>omega
theorem lG {H Hf r r':Hp}{K g T sz:Nat}{l:List D}(h:CV H Hf r r'):CV H Hf (DB K g T sz l++r) r':=by
 cases l with
 |nil=>exact h
 |cons x l=>exact .drop h
set_option maxHeartbeats 8000000
def Fm (q r:Nat):List UInt8:=if q=0 then Lib.decDigits r else List.replicate (18-(Lib.decDigits r).length) 48++Lib.decDigits r
theorem WH:Lib.decDigits 0=[48]:=by unfold Lib.decDigits;rfl
theorem Nj (n:Nat):Lib.decDigits n≠[]:=(EM n).2.2
theorem jd (q r:Nat):Fm q r≠[]:=by
 unfold Fm;split
 ·exact Nj r
 ·intro h;exact Nj r (List.append_eq_nil_iff.1 h).2
theorem gP {q r:Nat}(hq:q≠0):Fm q r=Ek 18 r []:=by
 unfold Fm Ek LH;rw[AE hq]
 by_cases h:r=0
 ·subst h;rw[WH,AF rfl];rfl
 ·rw[AE h,DS]
theorem iU (B q r:Nat)(hB:B=10^18)(hr:r<B):Lib.decDigits (q*B+r)=if q=0 then Fm q r else Lib.decDigits q++Fm q r:=by
 by_cases hq:q=0
 ·subst hq;rw[AF rfl];unfold Fm;rw[AF rfl,GZ,BQ]
 ·rw[AE hq,gP hq,hB]
  exact ST 18 q r hq (by rw[<-hB];exact hr)
def D9 (P:List (List UInt8)):List UInt8:=P.reverse.flatten
theorem U9 (P:List (List UInt8))(p:List UInt8):D9 (P++[p])=p++D9 P:=by unfold D9;simp
theorem Tb (a b:List UInt8):sb a++sb b=sb (a++b):=by
 apply ByteArray.ext;simp[ByteArray.data_append]
theorem gG {P:List (List UInt8)}(h:∀p∈P,p≠[]):P.length<=(D9 P).length:=by
 unfold D9;rw[List.length_flatten,<-List.length_reverse];generalize hQ:P.reverse=Q;have h':∀p∈Q,p≠[]:=λp hp=>h p (by rw[<-hQ]at hp;exact List.mem_reverse.1 hp)
 clear hQ h
 induction Q with
 |nil=>exact Ag _
 |cons a r ih=>
  have h1:=ih λp hp=>h' p (Cq _ hp)
  have h2:a.length≠0:=λq=>h' a Ce (FW q)
  rw[CJ,List.sum_cons,Bl];omega
structure L5 (n m:Nat)(P:List (List UInt8)):Prop where
 ne:m≠0->Lib.decDigits n=Lib.decDigits m++D9 P
 eq:m=0->Lib.decDigits n=D9 P
 all:∀p∈P,p≠[]
 le:m<=n
theorem L5.len {n m:Nat}{P:List (List UInt8)}(h:L5 n m P):P.length<=(Lib.decDigits n).length:=by
 have h1:=gG h.all
 by_cases q:m=0
 ·rw[h.eq q];exact h1
 ·rw[h.ne q,B3];omega
theorem L5.step {n m:Nat}{P:List (List UInt8)}{B:Nat}(h:L5 n m P)(hm:m≠0)(hB:B=10^18):L5 n (m/B) (P++[Fm (m/B) (m%B)]):=by
 have hB0:0<B:=by rw[hB];decide
 have hd:=iU B (m/B) (m%B) hB (B0 _ hB0);rw[show m/B*B+m%B=m by rw[BP];exact ES m B]at hd;have hn:=h.ne hm;rw[hd]at hn;refine⟨λq=>?_,λq=>?_,λp hp=>?_,BO (GX _ _) h.le⟩
 ·rw[AE q]at hn;rw[hn,U9,Du]
 ·rw[AF q]at hn;rw[hn,U9]
 ·rcases List.mem_append.1 hp with hp|hp
  ·exact h.all p hp
  ·rw[List.mem_singleton]at hp;subst hp;exact jd _ _
abbrev E6 (P:List (List UInt8)):List D:=P.map λp=>str (sb p)
theorem SB (x:GI)(h:x.wf)(hf:x.few):AK C0 161 [x.D] (str (sb (Lib.itoa x.z))):=by
 refine Ai.walk w1 YJ rfl λF=>?_
 obtain⟨z,sm⟩:=x;obtain⟨h1,h2⟩:=h;have hp:=Ir ⟨z,sm⟩ ⟨h1,h2⟩;dsimp only[GI.D,GI.few]at*;cases sm with
 |true=>
  obtain⟨h3,h4⟩:=h1 rfl;have c:AK C0 208 [i64 z] (str (sb (Lib.itoa z))):=lO z h3 (by omega);unfold GI.s GI.w;dsimp only;refine AJ Ad kB c AB AB AB AB AB ?_;exact AO rfl AA.out
 |false=>
  have hz:=h2 rfl;have hz0:z.natAbs≠0:=λq=>hz (by obtain rfl:z=0:=(by omega);exact rE rfl)
  have hw:GI.w ⟨z,false⟩=wD z.natAbs:=rfl;have hs:GI.s ⟨z,false⟩=if z<0 then -1 else 1:=rfl
  rw[hw]at hp⊢;obtain⟨sg,hsg⟩:∃s,GI.s ⟨z,false⟩=s:=⟨_,rfl⟩
  rw[hsg]at hp⊢;obtain⟨B,hB⟩:∃B:Nat,B=10^18:=⟨_,rfl⟩
  have hB1:B<BB:=by rw[hB];decide
  have hB0:B≠0:=by rw[hB];decide
  have hB2:1<B:=by rw[hB];decide
  have hBs:u64 1000000000000000000=AR B:=by rw[hB];rfl
  have hBl:Ae B=[B]:=Le hB0 hB1;obtain⟨n,hn⟩:∃n,z.natAbs=n:=⟨_,rfl⟩
  obtain⟨neg,hneg⟩:∃b,decide (z<0)=b:=⟨_,rfl⟩
  rw[hn]at hp hf hz0⊢;rw[hneg]at hp;have hit:Lib.itoa z=(if neg then[45]else[])++Lib.decDigits n:=by
   unfold Lib.itoa
   by_cases q:z<0
   ·rw[AF q,<-hneg,AX q,hn];rfl
   ·rw[AE q,<-hneg,Af q,<-hn]
    have:z.toNat=z.natAbs:=by omega
    rw[this];rfl
  rw[hit];have hDL:(Lib.decDigits n).length<=27*1000000+1:=L9 (k:=1000000) (by omega);have hmpos:∀m:Nat,m≠0->decide ((((Ae m).map AR).length:Int)>0)=true:=λm hm=>AX (by
   rw[Fy hm,CJ,Bl];omega)
  have hm0:decide ((((Ae 0).map AR).length:Int)>0)=false:=Af (by rw[Ff];decide);obtain⟨w0,ws,hws⟩:∃a l,(Ae n).map AR=a::l:=by
   cases hl:(Ae n).map AR with
   |nil=>exact AY hl (G6 hz0)
   |cons a l=>exact⟨a,l,rfl⟩
  have hwD:wD n=.sl false 1 (w0::ws):=by unfold wD wL;rw[hws]
  have hbD:wD B=.sl false 1 [u64 1000000000000000000]:=by unfold wD wL;rw[hBl,hBs];rfl
  have pw:AA (.sl false 1 (w0::ws)):=by rw[<-hwD];exact AH
  rw[hwD]at hp⊢;clear hit h1 h2 hz hs hsg;have hne:(w0::ws≠[])=True:=eq_true (List.cons_ne_nil _ _);refine AJ Ad hne hp AB AB AB AB AB ?_;rw[<-hwD];refine AC.loop (α:=Nat×List (List UInt8)×Nat×Nat) (λp=>⟨[(3,Aq neg),(4,wD p.1),(5,wD B),(6,DK 1303 p.2.2.1 1 (E6 p.2.1))],DB 1303 p.2.2.1 9 1 (E6 p.2.1),p.2.2.2⟩) (λp=>p.1)
   (λp=>L5 n p.1 p.2.1) (n,[],0,_) ⟨λ_=>by unfold D9;simp,λq=>AY q hz0,λp hp=>AY hp DD,Ag _⟩ (by refine⟨.drop .nil,⟨.refl _,.refl _,?_,.refl _,trivial⟩,Ag _⟩;dsimp only;rw[hbD];exact .nn true 1 _) ?_
  rintro⟨m,P,g,cnt⟩ F I;dsimp only at I⊢;have hPl:=I.len;rcases Nat.decEq m 0 with hm|hm
  rotate_left
  ·subst hm
   have hdn:=I.eq rfl;have hall:=I.all;have hLn:P.length<=27000001:=by omega
   have hP0:P≠[]:=λq=>Nj n (by rw[hdn,q];rfl)
   obtain⟨N,hN⟩:∃N,P.length=N:=⟨_,rfl⟩
   have hN0:N≠0:=λq=>hP0 (FW (by omega))
   rw[hdn];clear hwD hbD pw hp hn hPl I;have elP:(((E6 P).length:Nat):Int)=(N:Int):=by rw[Ap,hN]
   have wN:IntKind.i64.wrap ((N:Int)-1)=((N:Int)-1):=wI (by omega) (by omega);refine AC.seq ?_;refine sZ 600 ?_;refine AT hm0 ?_;refine AL ?_;refine B7 ?_;refine AC.weak ⟨[(3,Aq neg),(6,.sl false 1 (E6 P))],[],_⟩ ⟨?_,⟨.refl _,?_,trivial⟩,Ag _⟩ ?_
   ·have:=lG (K:=1303) (g:=g) (T:=9) (sz:=1) (l:=E6 P) (r:=[]) (r':=[]) (H:=DB 1303 g 9 1 (E6 P)) (Hf:=[]) .nil
    rwa [DS]at this
   ·exact QR _ _ _ _ _
   obtain⟨c0,hc0⟩:∃c,c=cnt+1+1+1:=⟨_,rfl⟩
   rw[<-hc0];refine sR 1500 ?_;obtain⟨c1,hc1⟩:∃c,c=c0+1:=⟨_,rfl⟩
   refine Cp (α:=D×Nat×Nat) (λq=>⟨[(6,.sl false 1 (E6 P)),(10,.optr 1500 c0 2 0 0)],bH q.2.1 c0 q.1 (if neg then[45]else[]) [],q.2.2⟩) (λq=>q.1=.prim (.pointer none)\/q.1=.optr 1500 c0 2 0 0) ?_ ?_
   ·cases neg
    ·refine AJ Ad kB AB AB AB AB AB AB ?_
     exact⟨by trivial,(.prim (.pointer none),0,_),.inl rfl,AI⟩
    ·refine AJ Ad kB AB AB AB AB AB AB ?_
     refine Az.own _ (bM c0 0 _ (.prim (.pointer none)) (.inl rfl) [] [45] (by decide) [] (by decide)) ?_;rintro d H' n' ⟨⟨g',rfl⟩,hn'⟩;refine BL ?_;exact⟨by trivial,(.optr 1500 c0 2 0 0,g',_),.inr rfl,AI⟩
   rintro⟨p0,gb0,c2⟩ hp0;dsimp only at hp0⊢;obtain⟨pre,hpre⟩:∃l,(if neg then[45]else[]:List UInt8)=l:=⟨_,rfl⟩
   have hpl:pre.length<=1:=by rw[<-hpre];split<;>decide
   rw[hpre];refine AJ Ad (Ac elP @wN) AB AB AB AB AB AB ?_;refine AC.loop (α:=Nat×D×Nat×Nat) (λq=>⟨[(6,.sl false 1 (E6 P)),(10,.optr 1500 c0 2 0 0),(11,i64 ((q.1:Int)-1))],bH q.2.2.1 c0 q.2.1 (pre++D9 (P.drop q.1)) [],q.2.2.2⟩) (λq=>q.1)
    (λq=>q.1<=N/\(q.2.1=.prim (.pointer none)\/q.2.1=.optr 1500 c0 2 0 0)) (N,p0,gb0,_) ⟨Ag _,hp0⟩ (by dsimp only;rw[<-hN,JS];unfold D9;rw[List.reverse_nil,List.flatten_nil,DS];exact AI) ?_
   rintro⟨k,p,gb,c3⟩ F ⟨hk,hp⟩;dsimp only at hk hp⊢;have hjl:∀k,(D9 (P.drop k)).length<=(D9 P).length:=λk=>by
    unfold D9
    conv=>rhs;rw[<-Er k P]
    rw[List.reverse_append,List.flatten_append,B3];omega
   have hjP:(D9 P).length<=27000001:=by rw[<-hdn];omega
   rcases Di k with hk0|hk0
   ·subst hk0
    have e1:decide ((((0:Nat):Int)-1)>=0)=false:=by decide
    rw[FL];have hL:pre++D9 P≠[]:=λq=>by
     have:=(List.append_eq_nil_iff.1 q).2
     rw[<-hdn]at this;exact Nj n this
    obtain⟨L,hLL⟩:∃L,pre++D9 P=L:=⟨_,rfl⟩
    rw[hLL]at hL⊢;obtain⟨y,r,hy⟩:=WF hL;have hlr:L.length=r.length+1:=by rw[<-NE,hy];rfl
    refine AJ Ad e1 AB AB AB AB AB AB ?_;refine Az.own _ (by
     have:=λn=>uC c0 gb n L hL p []
     unfold bH;simp only[hy,hlr]at this⊢;exact this _) ?_
    rintro d H' n' ⟨rfl,rfl,rfl⟩;refine AJ Ad kB AB AB AB AB AB AB ?_;exact AO rfl AA.out
   ·obtain⟨k',rfl⟩:∃k',k=k'+1:=⟨k-1,by omega⟩
    have e1:decide ((((k'+1:Nat):Int)-1)>=0)=true:=AX (by omega);have e2:(((k'+1:Nat):Int)-1)=(k':Int):=by omega
    have wk:IntKind.i64.wrap ((k':Int)-1)=((k':Int)-1):=wI (by omega) (by omega);have e3:decide ((k':Int)>=0)=true:=AX (by omega);obtain⟨t,ht⟩:∃t,P[k']?=some t:=CQ (by omega);have hm:(E6 P)[k']?=some (str (sb t)):=by rw[BH,ht];rfl
    have htn:=hall t (A8 ht);have hdr:P.drop k'=t::P.drop (k'+1):=by
     rw[EQ (List.getElem?_eq_some_iff.1 ht).1,(List.getElem?_eq_some_iff.1 ht).2]
    have hj:pre++D9 (P.drop k')=pre++D9 (P.drop (k'+1))++t:=by
     rw[hdr,Du]
     congr 1
     unfold D9;rw[List.reverse_cons,List.flatten_append];simp
    have hlt:(pre++D9 (P.drop (k'+1))).length+t.length<=100000000:=by
     have h1:=hjl k';have h2:(pre++D9 (P.drop k')).length=(pre++D9 (P.drop (k'+1))).length+t.length:=by rw[hj,B3]
     rw[<-h2,B3];omega
    rw[e2];refine AJ Ad (Ac e3 kN) hm AB AB AB AB AB ?_;refine Az.own _ (bM c0 gb _ p hp (pre++D9 (P.drop (k'+1))) t htn [] hlt) ?_;rintro d H' n' ⟨⟨g',rfl⟩,hn'⟩;refine BL ?_;refine AJ Ad wk AB AB AB AB AB AB ?_;exact⟨(k',.optr 1500 c0 2 0 0,g',_),⟨by dsimp only;omega,.inr rfl⟩,by dsimp only;omega,by(dsimp only;rw[hj];exact AI)⟩
  have e1:=hmpos m hm;have c1:=az m B hB0 (DF (G3 m n I.le) hf) (by rw[hBl];show 1<1000000;decide);have I2:=I.step hm hB;obtain⟨q,hq⟩:∃q,m/B=q:=⟨_,rfl⟩
  obtain⟨r,hr⟩:∃q,m%B=q:=⟨_,rfl⟩
  have hqm:q<m:=by rw[<-hq];exact HO (Dt hm) hB2
  have hrB:r<B:=by rw[<-hr];exact B0 _ (Dt hB0)
  rw[hq,hr]at c1 I2;have hsz:=CN (Lib.decDigits r);have hdl:(Lib.decDigits r).length<=18:=La 17 r (by rw[hB]at hrB;exact hrB);have hdl1:(Lib.decDigits r).length≠0:=λh=>Nj r (FW h)
  refine AJ Ad e1 AB AB AB AB AB AB ?_;refine cI c1 ?_;refine sR 800 ?_;refine Cp (α:=Nat) (λcnt=>⟨[(3,Aq neg),(5,wD B),(6,DK 1303 g 1 (E6 P)),(7,wD q),(9,str (sb (Lib.decDigits r)))],DB 1303 g 9 1 (E6 P),cnt⟩) (λ_=>True) ?_ ?_
  ·rcases Nat.decEq r 0 with h0|h0
   ·have e2:=hmpos r h0
    have hl1:Ae r=[r]:=Le h0 (Fs hrB hB1);have hmm:((Ae r).map AR)[0]?=some (u64 (r:Int)):=by rw[hl1];rfl
    have c2:=mX r (Fs hrB hB1);refine AJ Ad e2 hmm c2 AB AB AB AB ?_;exact⟨by trivial,_,trivial,AI⟩
   ·subst h0
    rw[WH];refine AJ Ad hm0 AB AB AB AB AB AB ?_;exact⟨by trivial,_,trivial,AI⟩
  rintro cnt2 -;refine Cp (α:=Nat) (λcnt=>⟨[(3,Aq neg),(5,wD B),(6,DK 1303 g 1 (E6 P)),(7,wD q),(9,str (sb (Fm q r)))],DB 1303 g 9 1 (E6 P),cnt⟩) (λ_=>True) ?_ ?_
  ·rcases Nat.decEq q 0 with h0|h0
   ·have e2:=hmpos q h0
    have c2:AK C0 211 [str ⟨#[48]⟩,i64 ((18-(Lib.decDigits r).length:Nat):Int)] (str (sb (List.replicate (18-(Lib.decDigits r).length) 48))):=ko (18-(Lib.decDigits r).length) (by omega);have w18:IntKind.i64.wrap (18-((Lib.decDigits r).length:Int))=((18-(Lib.decDigits r).length:Nat):Int):=by rw[wI (by omega) (by omega)];omega
    have hap:=Tb (List.replicate (18-(Lib.decDigits r).length) 48) (Lib.decDigits r);have hsz2:=CN (List.replicate (18-(Lib.decDigits r).length) 48);have hpt:List.replicate (18-(Lib.decDigits r).length) 48++Lib.decDigits r=Fm q r:=by unfold Fm;rw[AE h0]
    rw[hpt]at hap;have hsize:(sb (List.replicate (18-(Lib.decDigits r).length) 48)).size+(sb (Lib.decDigits r)).size<=9223372036854775807:=by
     rw[hsz,hsz2,Mi];omega
    refine AJ Ad (BV e2 hsz w18 hap) c2 AB AB AB AB AB ?_;exact⟨by trivial,_,trivial,AI⟩
   ·subst h0
    have hpt:Fm 0 r=Lib.decDigits r:=AF rfl;rw[hpt];refine AJ Ad hm0 AB AB AB AB AB AB ?_;exact⟨by trivial,_,trivial,AI⟩
  rintro cnt3 -;have hsn:E6 (P++[Fm q r])=E6 P++[str (sb (Fm q r))]:=by unfold E6;rw[DE];rfl
  have hPL:(E6 P).length=P.length:=Ap ..;rcases hPD:E6 P with _|⟨y,l⟩
  all_goals
   rw[hPD]at hsn hPL;dsimp only[Fg,Fh,Eg,Eh,List.nil_append]
  ·refine AJ Ad kB AB AB AB AB AB AB ?_
   exact⟨(q,P++[Fm q r],_,_),I2,hqm,by(dsimp only;rw[hsn];exact AI)⟩
  ·have htk:List.take (l.length+1) (y::l)=y::l:=by simp
   have hll:l.length+1<=27000001:=by rw[Bl]at hPL;omega
   refine AJ Ad htk AB AB AB AB AB AB ?_;exact⟨(q,P++[Fm q r],_,_),I2,hqm,by(dsimp only;rw[hsn,KZ];exact AI)⟩
abbrev WM:Dr:=[(3,[0,1,2,3,4,5,6],[7,8])]
open Go.Proofs Go.RowKit
set_option maxRecDepth 20000
set_option maxHeartbeats 4000000
theorem iu (x:Nat)(hx:x<BB):AK C0 223 [AR x] (i64 (Lib.bitLen x:Int)):=by
 refine⟨⟨_,_,Tryz.func223,rfl,by kernel_rfl⟩,λY w vs hG hnG hX hvs hr=>?_⟩
 have:=PZ hvs hr
 subst this;refine(Tryz.bits_Len64 x w (by omega) (by unfold BB at hx;omega)).mono ?_;rintro e w' ⟨rfl,rfl⟩;exact⟨_,_,rfl,.refl _ _,rfl,.prim _⟩
def Ep (n:Nat):Nat:=(Ae n).getD ((Ae n).length-1) 0
def Hq (n:Nat):Nat:=if n=0 then 0 else 64*((Ae n).length-1)+Lib.bitLen (Ep n)
theorem jx (n:Nat):n<2^Hq n:=by
 unfold Hq
 by_cases h:n=0
 ·subst h;rw[AF rfl];decide
 ·rw[AE h]
  have hl:(Ae n).length≠0:=λq=>by
   have:=Fy h
   rw[this]at q;simp at q
  obtain⟨k,hk⟩:∃k,(Ae n).length=k+1:=⟨(Ae n).length-1,by omega⟩
  have hat:(Ae n)[k]?=some (Ep n):=by
   unfold Ep;rw[hk,H5,FH,BF (by omega)];rfl
  have hv:=Jq hat;rw[Gv (by omega),Ej]at hv;have ht:Ep n<BB:=E3 n _ (A8 hat);have h1:AS ((Ae n).take k)<BB^k:=by
   have:=G5 (l:=(Ae n).take k) λa ha=>E3 n a (HR ha)
   rwa [BX,Ev (by omega)]at this
  have h2:Ep n<2^Lib.bitLen (Ep n):=by
   by_cases t0:Ep n=0
   ·rw[t0];exact GY _
   ·exact(Lib.bitLenAux_bounds 64 (Ep n) ht t0).2.2
  have h3:BB^k=2^(64*k):=by rw[Nat.pow_mul]
  rw[hk,H5,Ft,<-h3];have h4:n=AS ((Ae n).take k)+BB^k*Ep n:=by simpa[AS]using hv
  have h5:BB^k*(Ep n+1)<=BB^k*2^Lib.bitLen (Ep n):=CU _ h2;rw[BK,D6]at h5;omega
def I5 (n:Nat):Bool:=decide (600<(Lib.decDigits n).length)
theorem gI (n:Nat):I5 n=(decide (Hq n>1800)&&I5 n):=by
 by_cases h:Hq n>1800
 ·rw[AX h,If]
 ·rw[Af h,LM]
  have key:∀k,Hq n<=3*(k+1)->(Lib.decDigits n).length<=k+1:=λk hk=>La k n (CP (jx n) (BO (FJ (by decide) hk) (by rw[Nat.pow_mul];exact Mm (by decide) (k+1))))
  have h4:=key 599 (by omega);exact Af (by omega)
theorem mu (x:GI)(h:x.wf)(hf:x.few):AK C0 207 [x.D] (i64 (Hq x.z.natAbs:Nat)):=by
 refine Ai.walk w1 ZR rfl λF=>?_
 have c1:=Ir x h;obtain⟨n,hn⟩:∃n,x.z.natAbs=n:=⟨_,rfl⟩
 unfold GI.few at hf;rw[hn]at c1 hf⊢;have el:((((Ae n).map AR).length:Nat):Int)=((Ae n).length:Int):=by rw[Ap]
 unfold wD wL at c1;dsimp only[GI.D]at c1⊢
 by_cases h0:n=0
 ·have e1:(((Ae n).length:Int)==0)=true:=by rw[h0,Ff];rfl
  have hb:Hq n=0:=AF h0;rw[hb];refine AJ Ad (Ac e1 el) c1 AB AB AB AB AB ?_;exact AO rfl AA.out
 ·have hl:(Ae n).length≠0:=λq=>by
   have:=Fy h0
   rw[this]at q;simp at q
  have e1:(((Ae n).length:Int)==0)=false:=uc hl;have wl:IntKind.i64.wrap (((Ae n).length:Int)-1)=(((Ae n).length-1:Nat):Int):=by rw[wI (by omega) (by omega)];omega
  have wm:IntKind.i64.wrap (64*(((Ae n).length-1:Nat):Int))=((64*((Ae n).length-1):Nat):Int):=by rw[wI (by omega) (by omega)];omega
  have hat:(Ae n)[(Ae n).length-1]?=some (Ep n):=by
   unfold Ep;rw[FH,BF (by omega)];rfl
  have hm:((Ae n).map AR)[(Ae n).length-1]?=some (u64 (Ep n:Int)):=by rw[BH,hat];rfl
  have ht:Ep n<BB:=E3 n _ (A8 hat);have c2:=iu (Ep n) ht;have hbl:=Lib.bitLen_le (Ep n) 64 (Ag _) ht;have wa:IntKind.i64.wrap (((64*((Ae n).length-1):Nat):Int)+(Lib.bitLen (Ep n):Int))=((Hq n:Nat):Int):=by
   have hb:Hq n=64*((Ae n).length-1)+Lib.bitLen (Ep n):=AE h0;rw[hb,wI (by omega) (by omega)];omega
  refine AJ Ad (Ex e1 el wl wm wa kN) c1 hm c2 AB AB AB ?_;exact AO rfl AA.out
theorem Y7 (x:GI)(h:x.wf)(hf:x.few):AK C0 160 [x.D] (Aq (I5 x.z.natAbs)):=by
 refine Ai.walk w1 YI rfl λF=>?_
 have c1:=mu x h hf;have c2:=SB x h hf;have hlen:(Lib.decDigits x.z.natAbs).length<=27*1000000+1:=L9 (k:=1000000) (by unfold GI.few at hf;omega);have hil:(Lib.itoa x.z).length<=27000002:=by
  unfold Lib.itoa;split
  ·rw[Bl];omega
  ·rw[show x.z.toNat=x.z.natAbs by omega];omega
 have c3:=RU (Lib.itoa x.z) (by omega);rw[(Lh x.z).2]at c3;have hsz:=CN (Lib.decDigits x.z.natAbs);have hlb:=gI x.z.natAbs;obtain⟨b,hb⟩:∃b,I5 x.z.natAbs=b:=⟨_,rfl⟩
 have e2:decide (((Lib.decDigits x.z.natAbs).length:Int)>600)=b:=by rw[<-hb];exact Cr.2 (by omega)
 obtain⟨p,hp⟩:∃b,decide (Hq x.z.natAbs>1800)=b:=⟨_,rfl⟩
 have e1:decide (((Hq x.z.natAbs:Nat):Int)>1800)=p:=by rw[<-hp];exact Cr.2 (by omega)
 rw[hb,hp]at hlb;rw[hb,hlb];dsimp only[GI.D]at c1 c2⊢;cases p
 ·refine AJ Ad e1 c1 AB AB AB AB AB ?_
  exact AO rfl AA.out
 ·refine AJ Ad (At e1 e2 hsz) c1 c2 c3 AB AB AB ?_
  exact AO rfl AA.out
theorem Y1 {r:Rat}{x:GF}{k:Nat}(h:FR r x k)(hk:k<100000):x.n.wf/\x.n.few/\(AV (x.d:Int)).wf/\(AV (x.d:Int)).few/\x.n.z=r.num/\x.d=r.den/\0<x.d:=
 ⟨h.is.1,h.fn (by omega),CY _,by
  show(Ae ((x.d:Int)).natAbs).length<1000000;rw[Dh];have:=h.ld;omega,h.is.2.1,h.is.2.2,h.dpos⟩
theorem XJ {r:Rat}{x:GF}{k:Nat}(h:FR r x k)(hk:k<100000):AK C0 113 [x.D] (Aq (CL r)):=by
 refine Ai.walk w1 Ys rfl λF=>?_
 obtain⟨h1,h2,h3,h4,h5,h6,_⟩:=Y1 h hk;have c1:=Y7 x.n h1 h2;have c2:=Y7 (AV (x.d:Int)) h3 h4;have hb:CL r=(I5 x.n.z.natAbs||I5 (AV (x.d:Int)).z.natAbs):=by
  unfold CL I5;rw[h5,<-h6];rfl
 rw[hb];obtain⟨p,hp⟩:∃b,I5 x.n.z.natAbs=b:=⟨_,rfl⟩
 obtain⟨q,hq⟩:∃b,I5 (AV (x.d:Int)).z.natAbs=b:=⟨_,rfl⟩
 rw[hp]at c1;rw[hq]at c2;rw[hp,hq];dsimp only[GI.D,GF.D]at c1 c2⊢;generalize AV (x.d:Int)=y at c2⊢;cases p<;>cases q
 all_goals
  refine AJ Ad kB c1 c2 AB AB AB AB ?_;exact AO rfl AA.out
theorem Zt {r:Rat}{x:GF}{k:Nat}(h:FR r x k)(hk:k<100000):AK C0 114 [x.D] (str (sb (Al r))):=by
 refine Ai.walk w1 Yt rfl λF=>?_
 obtain⟨h1,h2,h3,h4,h5,h6,h7⟩:=Y1 h hk;have c0:=R3 x h7;have c1:=SB x.n h1 h2;have c2:=SB (AV (x.d:Int)) h3 h4;have hd:Lib.itoa (AV (x.d:Int)).z=Lib.decDigits r.den:=by
  show Lib.itoa (x.d:Int)=_;unfold Lib.itoa;rw[AE (by omega),h6];rfl
 rw[hd]at c2;rw[h5]at c1;have l1:(Lib.itoa r.num).length<=27000002:=by
  have:(Lib.decDigits x.n.z.natAbs).length<=27*1000000+1:=L9 (k:=1000000) (by unfold GI.few at h2;omega)
  rw[h5]at this;unfold Lib.itoa;split
  ·rw[Bl];omega
  ·rw[show r.num.toNat=r.num.natAbs by omega];omega
 have l2:(Lib.decDigits r.den).length<=27000001:=by
  have:(Lib.decDigits (AV (x.d:Int)).z.natAbs).length<=27*1000000+1:=L9 (k:=1000000) (by unfold GI.few at h4;omega)
  rw[<-h6];exact this
 have s1:=CN (Lib.itoa r.num);have s2:=CN (Lib.decDigits r.den);have s3:(sb [47]).size=1:=rfl;have s4:=CN (Lib.itoa r.num++[47]);have z1:(sb (Lib.itoa r.num)).size+(sb [47]).size<=9223372036854775807:=by rw[s1,s3];omega
 have z2:(sb (Lib.itoa r.num++[47])).size+(sb (Lib.decDigits r.den)).size<=9223372036854775807:=by rw[s4,s2,B3,Ga];omega
 have a1:sb (Lib.itoa r.num)++(⟨#[47]⟩:ByteArray)=sb (Lib.itoa r.num++[47]):=Tb _ [47];have a2:=Tb (Lib.itoa r.num++[47]) (Lib.decDigits r.den);rw[Du]at a2;dsimp only[GI.D,GF.D]at c0 c1 c2⊢;generalize AV (x.d:Int)=y at c0 c2⊢;unfold Al
 by_cases g:x.d=1
 ·rw[AX g]at c0
  rw[AF (h6 ▸ g)];refine AJ WM kB c0 c1 AB AB AB AB ?_;exact AO rfl AA.out
 ·rw[Af g]at c0
  rw[AE (λq=>g (h6.trans q))];refine AJ WM (Ac a1 a2) c0 c1 c2 AB AB AB ?_;exact AO rfl AA.out
set_option maxHeartbeats 4000000
def nb (r:Rat)(n d:Nat):Prop:=r.num.natAbs<=n/\r.den<=d
def On:Nat:=10^40
theorem lY {l:List UInt8}(h:CS l=0)(hl:l.length<=40):nb (CA l) On On:=by
 obtain⟨m1,m2,m3,m4⟩:=Ka h;obtain⟨p1,p2⟩:=Ov h;have hs1:(By l).length<=40:=by
  have:(By l).length<=l.length:=by
   unfold By;have a1:(Bk (Bw l)).length<=(Bw l).length:=by unfold Bk;split<;>simp
   have a2:(Bw l).length<=l.length:=by unfold Bw;rw[BX];omega
   omega
  omega
 have hb:∀k,k<=40->(10:Nat)^k<=On:=λk hk=>FJ (by decide) hk
 refine⟨?_,?_⟩
 ·rw[m1,m4]
  exact BO (IB (F8 _ p1)) (hb _ hs1)
 ·rw[m2]
  unfold GU;cases hs:Cj l
  ·exact(by decide:1<=On)
  ·have hs2:(BT l).length<=40:=by
    have:(BT l).length<=l.length:=by unfold BT;simp
    omega
   exact BO (IB (F8 _ (p2 hs))) (hb _ hs2)
theorem tk {r:Rat}{n d k:Nat}(h:nb r n d)(h1:n<BB^k)(h2:d<BB^k):rk r k:=
 ⟨GN (DF h.1 h1),GN (DF h.2 h2)⟩
theorem Og {l:List UInt8}(h:CS l=0)(hl:l.length<=40):rk (CA l) 3:=tk (lY h hl) (by decide) (by decide)
theorem Xq (k:Nat)(hk:1<=k):FR 0 ⟨AV 0,1⟩ k:=⟨⟨CY _,by rw[De];rfl,rfl⟩,by
 refine rk.mono (k:=1) ?_ hk;exact⟨GN (k:=1) (by decide),GN (k:=1) (by decide)⟩⟩
abbrev Fw:Dr:=[(11,[0,1,2,3,4,5,6,7,8,9,10],[11,12]),(21,[0,1],[2,3])]
open Go.Proofs Go.RowKit
set_option maxRecDepth 20000
set_option maxHeartbeats 4000000
def Nx (a b:List UInt8):Bool:=I7 (sb a) (sb b)||Bj (sb a) (sb b)
def FM (l:List Au)(i:Nat):Nat:=
 if Co (FZ l i).lot=false then 8 else if 0<i/\Nx (FZ l i).lot (FZ l (i-1)).lot=true then 11 else if CS (FZ l i).part≠0 then CS (FZ l i).part else if Fp (CA (FZ l i).part)<=0 then 12 else 0
def Em (l:List Au):Nat->Rat
 | 0=>0
 |n+1=>Em l n+CA (FZ l n).part
def G9 (l:List Au):Nat:=if l.length=0 then 2 else if 64<l.length then 5 else if DP (FM l) l.length≠0 then DP (FM l) l.length else if Em l l.length=1 then 0 else 12
theorem Ps (l:List UInt8):AK C0 56 [str (sb l)] (Aq (Co l)):=gF (sb l)
theorem kJ (a b:Rat):(LA a b==0)=decide (a=b):=by
 unfold LA
 by_cases h:a<b
 ·rw[AF h,Af (Rat.ne_of_lt h)];rfl
 ·rw[AE h]
  by_cases h2:b<a
  ·rw[AF h2,Af λe=>Rat.ne_of_lt h2 e.symm];rfl
  ·rw[AE h2,AX (Rat.le_antisymm (Rat.not_lt.1 h2) (Rat.not_lt.1 h))];rfl
theorem rC {a b:Rat}{x y:GF}{i j:Nat}(hx:FR a x i)(hy:FR b y j)(hk:i+j<300000):AK C0 184 [x.D,y.D] (Aq (decide (a=b))):=by
 refine Ai.walk w1 YN rfl λF=>?_
 have c:=mT hx hy hk;have e:=kJ a b;obtain⟨r,hr⟩:∃r,LA a b=r:=⟨_,rfl⟩
 rw[hr]at c e;obtain⟨xD,hxD⟩:∃d,x.D=d:=⟨_,rfl⟩
 obtain⟨yD,hyD⟩:∃d,y.D=d:=⟨_,rfl⟩
 unfold GF.D at c hxD hyD⊢;refine AJ Ad e c AB AB AB AB AB ?_;exact AO rfl AA.out
theorem rY:FR 1 ⟨AV 1,1⟩ 1:=by
 have:=NZ (z:=1) (by decide)
 exact this
theorem uJ (b:Bool)(l:List Au)(hl:l.length<=9223372036854775807)(hf:∀s∈l,s.few):AK C0 135 [CT b l] (i64 (G9 l:Nat)):=by
 refine Ai.walk w1 Yw rfl λF=>?_
 have el:(((l.map Au.D).length:Nat):Int)=(l.length:Int):=by rw[Ap]
 have hC:G9 l=if l.length=0 then 2 else if 64<l.length then 5 else if DP (FM l) l.length≠0 then DP (FM l) l.length else if Em l l.length=1 then 0 else 12:=rfl
 rcases Nat.decEq l.length 0 with h0|h0
 rotate_left
 ·rw[AF h0]at hC
  rw[hC];have q1:((l.length:Int)==0)=true:=by rw[h0];rfl
  refine AJ Fw (Ac el q1) AB AB AB AB AB AB ?_;exact AO rfl AA.out
 rw[AE h0]at hC;have q1:((l.length:Int)==0)=false:=B6.2 (by omega)
 by_cases h64:64<l.length
 ·rw[AF h64]at hC
  rw[hC];have q2:decide ((l.length:Int)>64)=true:=AX (by omega);refine AJ Fw (At el q1 q2) AB AB AB AB AB AB ?_;exact AO rfl AA.out
 rw[AE h64]at hC;have q2:decide ((l.length:Int)>64)=false:=Af (by omega);have c0:=OC 0 ⟨by decide,by decide⟩;have c1:=OC 1 ⟨by decide,by decide⟩;refine AJ Fw (At el q1 q2) c0 AB AB AB AB AB ?_;refine AC.loop (α:=Nat×GF×Nat) (λp=>⟨[(0,CT b l),(3,.optr 501 8 4 0 0),(15,CT b l),(16,i64 (l.length:Int)),(17,i64 (p.1:Int))],[⟨501,8,141,4,[p.2.1.D]⟩],p.2.2⟩) (λp=>l.length-p.1) (λp=>p.1<=l.length/\(∀j,j<p.1->FM l j=0)/\FR (Em l p.1) p.2.1 (601*p.1+1)) (0,⟨AV 0,1⟩,_)
  ⟨BR _,λj h=>AY h (HP j),Xq 1 (Ag _)⟩ AI ?_
 rintro⟨i,y,m⟩ F ⟨hi,hz,hS⟩;dsimp only at hi hz hS⊢;rcases BI i l.length with h2|h2
 rotate_left
 ·have e1:=Ca h2
  have:i=l.length:=by omega
  subst this;rw[AE (λh=>h (Kl hz))]at hC;have cS:=rC hS rY (by omega);obtain⟨q,hq⟩:∃q,decide (Em l l.length=1)=q:=⟨_,rfl⟩
  rw[hq]at cS;cases q
  ·rw[AE (C5 hq)]at hC
   rw[hC];refine AJ Fw e1 c1 cS AB AB AB AB ?_;exact AO rfl AA.out
  ·rw[AF (Cz hq)]at hC
   rw[hC];refine AJ Fw e1 c1 cS AB AB AB AB ?_;exact AO rfl AA.out
 have e1:=CX h2;have wi:=Cf (i:=i) (by omega);obtain⟨s,hs⟩:=CQ h2;have hm:(l.map Au.D)[i]?=some (.agg [str (sb s.lot),str (sb s.part)]):=by rw[BH,hs];rfl
 obtain⟨f1,f2⟩:=hf s (A8 hs);have hE:FM l i=if Co s.lot=false then 8 else if 0<i/\Nx s.lot (FZ l (i-1)).lot=true then 11 else if CS s.part≠0 then CS s.part else if Fp (CA s.part)<=0 then 12 else 0:=by unfold FM;rw[I4 hs]
 have hbad:∀e:Nat,e≠0->FM l i=e->G9 l=e:=λe he h=>by
  have:=Ll hz h2 (by rw[h];exact he)
  rw[hC,this,h,AF he]
 have cN:=Ps s.lot;obtain⟨N,hN⟩:∃q,Co s.lot=q:=⟨_,rfl⟩
 rw[hN]at cN hE;cases N
 ·rw[AF rfl]at hE
  rw[hbad 8 (by decide) hE];refine AJ Fw (Ac e1 kN) hm cN AB AB AB AB ?_;exact AO rfl AA.out
 rw[AE (by decide)]at hE;have cC:=jI s.part f2;rcases i with _|q
 ·have g0:decide (((0:Nat):Int)>0)=false:=rfl
  rw[AE (λh=>AY h.1 (Nat.lt_irrefl 0))]at hE;rcases Nat.decEq (CS s.part) 0 with hc0|hc0
  ·rw[AF hc0]at hE
   have e3:=Eo hc0;rw[hbad (CS s.part) hc0 hE];refine AJ Fw (BV e1 g0 kN e3) hm cN cC AB AB AB ?_;exact AO rfl AA.out
  rw[AE (λh=>h hc0)]at hE;have e3:=FC hc0;have cP:=QP f2 hc0;have fP:=QB hc0;have cG:=XT fP.is;have cA:=QK hS fP (by omega);have fA:=Py hS fP;obtain⟨z,hzz⟩:∃z,JG y (F9 s.part)=z:=⟨_,rfl⟩
  rw[hzz]at cA fA;obtain⟨sg,hsg⟩:∃q,Fp (CA s.part)=q:=⟨_,rfl⟩
  rw[hsg]at cG hE
  by_cases hs0:sg<=0
  ·rw[AF hs0]at hE
   have e4:decide (sg<=0)=true:=AX hs0;rw[hbad 12 (by decide) hE];refine AJ Fw (Ck e1 g0 kN e3 e4) hm cN cC cP cG AB ?_;exact AO rfl AA.out
  rw[AE hs0]at hE;have e4:decide (sg<=0)=false:=Af hs0;refine AJ Fw (Ex e1 g0 kN e3 e4 wi) hm cN cC cP cG AB ?_;refine cI cA ?_;refine AJ Fw wi AB AB AB AB AB AB ?_;exact⟨(0+1,z,_),⟨h2,λj hj=>by
   rcases Nat.lt_succ_iff_lt_or_eq.1 hj with q|q
   ·exact hz j q
   ·rw[q];exact hE,by
   show FR (Em l 0+CA (FZ l 0).part) z _;rw[I4 hs];exact⟨fA.is,fA.rk.mono (by dsimp only;omega)⟩⟩,by dsimp only;omega,AI⟩
 ·have g0:decide (((q+1:Nat):Int)>0)=true:=AX (by omega)
  have g1:IntKind.i64.wrap (((q+1:Nat):Int)-1)=(q:Int):=by rw[wI (by omega) (by omega)];omega
  obtain⟨s0,hs0'⟩:=CQ (l:=l) (i:=q) (by omega);have hm0:(l.map Au.D)[q]?=some (.agg [str (sb s0.lot),str (sb s0.part)]):=by rw[BH,hs0'];rfl
  rw[H5,I4 hs0']at hE;obtain⟨bL,hbL⟩:∃q,Nx s.lot s0.lot=q:=⟨_,rfl⟩
  have g2:(I7 (sb s.lot) (sb s0.lot)||Bj (sb s.lot) (sb s0.lot))=bL:=hbL;rw[hbL]at hE;cases bL
  rotate_left
  ·rw[AF ⟨Nat.succ_pos q,rfl⟩]at hE
   rw[hbad 11 (by decide) hE];refine AJ Fw (Ck e1 g0 g1 g2 kN) hm hm0 cN AB AB AB ?_;exact AO rfl AA.out
  rw[AE (λh=>AY h.2 (by decide))]at hE;rcases Nat.decEq (CS s.part) 0 with hc0|hc0
  ·rw[AF hc0]at hE
   have e3:=Eo hc0;rw[hbad (CS s.part) hc0 hE];refine AJ Fw (Ex e1 g0 g1 g2 kN e3) hm hm0 cN cC AB AB ?_;exact AO rfl AA.out
  rw[AE (λh=>h hc0)]at hE;have e3:=FC hc0;have cP:=QP f2 hc0;have fP:=QB hc0;have cG:=XT fP.is;have cA:=QK hS fP (by omega);have fA:=Py hS fP;obtain⟨z,hzz⟩:∃z,JG y (F9 s.part)=z:=⟨_,rfl⟩
  rw[hzz]at cA fA;obtain⟨sg,hsg⟩:∃q,Fp (CA s.part)=q:=⟨_,rfl⟩
  rw[hsg]at cG hE
  by_cases hs0:sg<=0
  ·rw[AF hs0]at hE
   have e4:decide (sg<=0)=true:=AX hs0;rw[hbad 12 (by decide) hE];refine AJ Fw (Dy e1 g0 g1 g2 kN e3 e4) hm hm0 cN cC cP cG ?_;exact AO rfl AA.out
  rw[AE hs0]at hE;have e4:decide (sg<=0)=false:=Af hs0;refine AJ Fw (Dy e1 g0 g1 g2 kN e3 (Ac e4 wi)) hm hm0 cN cC cP cG ?_;refine cI cA ?_;refine AJ Fw wi AB AB AB AB AB AB ?_;exact⟨(q+1+1,z,_),⟨h2,λj hj=>by
   rcases Nat.lt_succ_iff_lt_or_eq.1 hj with q|q
   ·exact hz j q
   ·rw[q];exact hE,by
   show FR (Em l (q+1)+CA (FZ l (q+1)).part) z _;rw[I4 hs];exact⟨fA.is,fA.rk.mono (by dsimp only;omega)⟩⟩,by dsimp only;omega,AI⟩
def AG.few (x:AG):Prop:=x.grain.length<=100000/\x.shs.length<=9223372036854775807/\∀s∈x.shs,s.few
def CK (x:AG):Nat:=if Co x.grain=false then 8 else if x.mass<1\/x.mass>999999999 then 3 else G9 x.shs
def Bi (l:List AG)(k:Nat):AG:=l.getD k ⟨[],0,[]⟩
theorem Dd {l:List AG}{k:Nat}{x:AG}(h:l[k]?=some x):Bi l k=x:=by unfold Bi;rw[FH,h];rfl
def Av (l:List AG):Int:=(l.map (·.mass)).sum
theorem NA {l:List AG}{i:Nat}{x:AG}(h:l[i]?=some x):Av (l.take (i+1))=Av (l.take i)+x.mass:=by
 unfold Av;rw[Dv,h,DE,List.sum_append];simp
def No (l:List AG):Prop:=l.length<=1000000/\∀x∈l,x.mass.natAbs<=1000000000
theorem NU {l:List AG}(h:∀x∈l,x.mass.natAbs<=1000000000):(Av l).natAbs<=l.length*1000000000:=by
 unfold Av
 induction l with
 |nil=>simp
 |cons a l ih=>
  have h1:=h a (by simp);have h2:=ih λx hx=>h x (by simp[hx])
  simp only[CJ,List.sum_cons,Bl];omega
def CC (l:List AG):Nat:=if 64<l.length then 5 else if DP (λi=>CK (Bi l i)) l.length≠0 then DP (λi=>CK (Bi l i)) l.length else if Av l>999999999 then 4 else 0
theorem IL {x:AG}(h:CK x=0):Co x.grain=true/\1<=x.mass/\x.mass<=999999999/\G9 x.shs=0:=by
 unfold CK at h;split at h
 ·cases h
 ·rename_i h1
  split at h
  ·cases h
  ·rename_i h2
   exact⟨by simpa using h1,by omega,by omega,h⟩
theorem ML (b:Bool)(e:Int):AK C0 55 [Aq b,i64 e] (i64 (if b then e else 0)):=by
 refine Ai.walk w1 aG rfl λF=>?_
 cases b
 ·refine AJ Ad kB AB AB AB AB AB AB ?_
  exact AO rfl AA.out
 ·refine AJ Ad kB AB AB AB AB AB AB ?_
  exact AO rfl AA.out
theorem Sx (v:List Int)(hl:v.length<=1000):AK C0 54 [.sl true 1 (v.map λe=>i64 e)] (i64 (Ec v)):=by
 refine Ai.walk w1 aF rfl λF=>?_
 have el:(((v.map λe=>i64 e).length:Nat):Int)=(v.length:Int):=by rw[Ap]
 refine AJ Ad el AB AB AB AB AB AB ?_;refine AC.loop (α:=Nat×Nat) (λp=>⟨[(5,.sl true 1 (v.map λe=>i64 e)),(6,i64 (v.length:Int)),(7,i64 (p.1:Int))],[],p.2⟩) (λp=>v.length-p.1) (λp=>p.1<=v.length/\∀(j:Nat) (e:Int),j<p.1->v[j]?=some e->e=0) (0,_) ⟨BR _,λj e h=>AY h (HP j)⟩ AI ?_;rintro⟨i,m⟩ F ⟨hi,ha⟩;dsimp only at hi ha⊢;rcases BI i v.length with h2|h2
 rotate_left
 ·have e1:=Ca h2
  have:i=v.length:=by omega
  subst this;have hd:Ec v=0:=by rw[Ou ha,JS];rfl
  rw[hd];refine AJ Ad e1 AB AB AB AB AB AB ?_;exact AO rfl AA.out
 have e1:=CX h2;have wi:=Cf (i:=i) (by omega);obtain⟨l,hl'⟩:=CQ h2;have hm:(v.map λe=>i64 e)[i]?=some (i64 l):=by rw[BH,hl'];rfl
 by_cases g:l=0
 ·have e5:(l != 0)=false:=by rw[g];rfl
  refine AJ Ad (BV e1 wi e5 kN) hm AB AB AB AB AB ?_;exact⟨(i+1,_),⟨h2,λj e hj he=>by
   rcases Nat.lt_succ_iff_lt_or_eq.1 hj with q|q
   ·exact ha j e q he
   ·subst q;rw[hl']at he;cases he;exact g⟩,by dsimp only;omega,AI⟩
 ·have e5:(l != 0)=true:=SS g
  have hd:Ec v=l:=by
   rw[Ou ha,EQ h2];rw[BF h2]at hl';rw[FX hl'];exact AF g
  rw[hd];refine AJ Ad (BV e1 wi e5 kN) hm AB AB AB AB AB ?_;exact AO rfl AA.out
theorem X6 (b:Bool)(l:List AG)(hs:No l):AK C0 59 [A0 b l] (i64 (Av l)):=by
 refine Ai.walk w1 aK rfl λF=>?_
 have el:(((l.map AG.D).length:Nat):Int)=(l.length:Int):=by rw[Ap]
 obtain⟨hl,hm0⟩:=hs;refine AJ Ad el AB AB AB AB AB AB ?_;refine AC.loop (α:=Nat×Nat) (λp=>⟨[(3,i64 (Av (l.take p.1))),(6,A0 b l),(7,i64 (l.length:Int)),(8,i64 (p.1:Int))],[],p.2⟩) (λp=>l.length-p.1) (λp=>p.1<=l.length) (0,_) (BR _) AI ?_;rintro⟨i,m⟩ F hi;dsimp only at hi⊢;rcases BI i l.length with h2|h2
 rotate_left
 ·have e1:=Ca h2
  have:i=l.length:=by omega
  subst this;rw[DL];refine AJ Ad e1 AB AB AB AB AB AB ?_;exact AO rfl AA.out
 have e1:=CX h2;have wi:=Cf (i:=i) (by omega);obtain⟨x,hx⟩:=CQ h2;have hm:(l.map AG.D)[i]?=some (.agg [str (sb x.grain),i64 x.mass,.sl false 2 (x.shs.map Au.D)]):=by rw[BH,hx];rfl
 have hb:=NU (l:=l.take i) λy hy=>hm0 y (HR hy)
 have hxm:=hm0 x (A8 hx);rw[BX,Ev hi]at hb;have wS:IntKind.i64.wrap (Av (l.take i)+x.mass)=Av (l.take (i+1)):=by rw[NA hx,wI (by omega) (by omega)]
 refine AJ Ad (BV e1 wi @wS kN) hm AB AB AB AB AB ?_;exact⟨(i+1,_),h2,by dsimp only;omega,AI⟩
theorem bE (x:AG)(hf:x.few):AK C0 85 [x.D] (i64 (CK x:Nat)):=by
 refine Ai.walk w1 aT rfl λF=>?_
 obtain⟨f1,f2,f3⟩:=hf;have cN:=Ps x.grain;have cS:=uJ false x.shs f2 f3;have hC:CK x=if Co x.grain=false then 8 else if x.mass<1\/x.mass>999999999 then 3 else G9 x.shs:=rfl
 obtain⟨N,hN⟩:∃q,Co x.grain=q:=⟨_,rfl⟩
 obtain⟨SD,hSD⟩:∃d,CT false x.shs=d:=⟨_,rfl⟩
 have pS:AA SD:=by rw[<-hSD];exact AH
 have hna:Jx SD=true:=by rw[<-hSD];rfl
 unfold AG.D;rw[hN]at cN hC;rw[hSD]at cS⊢;cases N
 ·rw[AF rfl]at hC
  rw[hC];refine AJ Ad kB cN AB AB AB AB AB ?_;exact AO rfl AA.out
 rw[AE (by decide)]at hC
 by_cases h1:x.mass<1
 ·rw[AF (.inl h1)]at hC
  rw[hC];have e1:decide (x.mass<1)=true:=AX h1;refine AJ Ad e1 cN AB AB AB AB AB ?_;exact AO rfl AA.out
 have e1:decide (x.mass<1)=false:=Af h1
 by_cases h2:x.mass>999999999
 ·rw[AF (.inr h2)]at hC
  rw[hC];have e2:decide (x.mass>999999999)=true:=AX h2;refine AJ Ad (Ac e1 e2) cN AB AB AB AB AB ?_;exact AO rfl AA.out
 have e2:decide (x.mass>999999999)=false:=Af h2;rw[AE (by omega)]at hC;rw[hC];refine AJ Ad (At e1 e2 hna) cN cS AB AB AB AB ?_;exact AO rfl AA.out
theorem PK {l:List AG}(h64:¬ 64<l.length)(hz:∀j,j<l.length->CK (Bi l j)=0):No l:=by
 refine⟨by omega,λx hx=>?_⟩;obtain⟨j,hj⟩:=List.mem_iff_getElem?.1 hx
 have:=hz j (List.getElem?_eq_some_iff.1 hj).1
 rw[Dd hj]at this
 have:=IL this
 omega
theorem OF (b:Bool)(l:List AG)(hl:l.length<=9223372036854775807)(hf:∀x∈l,x.few):AK C0 37 [A0 b l] (i64 (CC l:Nat)):=by
 refine Ai.walk w1 aZ rfl λF=>?_
 have el:(((l.map AG.D).length:Nat):Int)=(l.length:Int):=by rw[Ap]
 have hC:CC l=if 64<l.length then 5 else if DP (λi=>CK (Bi l i)) l.length≠0 then DP (λi=>CK (Bi l i)) l.length else if Av l>999999999 then 4 else 0:=rfl
 by_cases h64:64<l.length
 ·rw[AF h64]at hC
  rw[hC];have q2:decide ((l.length:Int)>64)=true:=AX (by omega);refine AJ Ad (Ac el q2) AB AB AB AB AB AB ?_;exact AO rfl AA.out
 rw[AE h64]at hC;have q2:decide ((l.length:Int)>64)=false:=Af (by omega);refine AJ Ad (Ac el q2) AB AB AB AB AB AB ?_;refine AC.loop (α:=Nat×Nat) (λp=>⟨[(0,A0 b l),(9,A0 b l),(10,i64 (l.length:Int)),(11,i64 (p.1:Int))],[],p.2⟩) (λp=>l.length-p.1) (λp=>p.1<=l.length/\∀j,j<p.1->CK (Bi l j)=0) (0,_) ⟨BR _,λj h=>AY h (HP j)⟩ AI ?_;rintro⟨i,m⟩ F ⟨hi,hz⟩;dsimp only at hi hz⊢;rcases BI i l.length with h2|h2
 rotate_left
 ·have e1:=Ca h2
  have:i=l.length:=by omega
  subst this;rw[AE (λh=>h (Kl (f:=λi=>CK (Bi l i)) hz))]at hC;have cT:=X6 b l (PK h64 hz);obtain⟨q,hq⟩:∃q,decide (Av l>999999999)=q:=⟨_,rfl⟩
  have cW:=ML q 4;have hR:((CC l:Nat):Int)=if q then 4 else 0:=by
   rw[hC,<-hq]
   by_cases h:Av l>999999999
   ·rw[AF h,AX h];rfl
   ·rw[AE h,Af h];rfl
  rw[hR];refine AJ Ad (Ac e1 hq) cT cW AB AB AB AB ?_;exact AO rfl AA.out
 have e1:=CX h2;have wi:=Cf (i:=i) (by omega);obtain⟨x,hx⟩:=CQ h2;have hm:(l.map AG.D)[i]?=some (.agg [str (sb x.grain),i64 x.mass,.sl false 2 (x.shs.map Au.D)]):=by rw[BH,hx];rfl
 have cL:=bE x (hf x (A8 hx));unfold AG.D at cL;rcases Nat.decEq (CK x) 0 with hc0|hc0
 ·have e3:=Eo hc0
  have:=Ll (f:=λi=>CK (Bi l i)) hz h2 (by rw[Dd hx];exact hc0)
  rw[Dd hx]at this;rw[this,AF hc0]at hC;rw[hC];refine AJ Ad (At e1 e3 kN) hm cL AB AB AB AB ?_;exact AO rfl AA.out
 have e3:=FC hc0;refine AJ Ad (BV e1 e3 wi kN) hm cL AB AB AB AB ?_;exact⟨(i+1,_),⟨h2,λj hj=>by
  rcases Nat.lt_succ_iff_lt_or_eq.1 hj with q|q
  ·exact hz j q
  ·rw[q,Dd hx];exact hc0⟩,by dsimp only;omega,AI⟩
theorem WC {α:Type}{l:List α}{p:α->Bool}{k:Nat}{x:α}(hx:l[k]?=some x)(h:(l.take k).all p=true)(hp:p x=true):(l.take (k+1)).all p=true:=by
 rw[Dv,hx,LS,h];simp[hp]
theorem SP {α:Type}{l:List α}{p:α->Bool}{k:Nat}{x:α}(hx:l[k]?=some x)(hp:p x=false):l.all p=false:=by
 cases h:l.all p
 ·rfl
 ·rw[CI.1 h x (A8 hx)]at hp;exact hp
def To (r:Rat):List UInt8:=if CL r=true then[]else Al r
def Tn (r:Rat):Nat:=if CL r=true then 4 else 0
set_option maxHeartbeats 8000000
theorem TE {l:List UInt8}(h:CS l=0):rR (CA l)=str (sb l):=by unfold rR;rw[(Ka h).2.2.1]
theorem rA {a b:Rat}{i j:Nat}(ha:rk a i)(hb:rk b j)(h0:b≠0):rk (a/b) (i+j):=by
 rw[Rat.div_def];exact Nk ha (Ta hb h0)
set_option maxHeartbeats 4000000
theorem Vt (n:Nat):Cv (Lib.decDigits n)=true:=by
 obtain⟨h1,h2,h3⟩:=EM n;rcases Di n with h|h
 ·have e:Lib.decDigits n=[48]:=by
   have:=Wf 0
   rw[h];exact Cz (this.trans (AX rfl))
  rw[e];rfl
 ·obtain⟨c,l,e,hc⟩:=jO (Nat.pos_iff_ne_zero.1 h)
  rw[e]at h1⊢;unfold Cv J8;rw[h1];simp[hc]
theorem Su {n:Nat}{l:List UInt8}(h:n≠dv l):decide (Lib.decDigits n=l)=false:=Af λe=>h (by rw[<-e,(EM n).2.1])
theorem kH {r:Rat}(h:CL r=false):CS (Al r)=0:=by
 have hs:By (Al r)=Lib.decDigits r.num.natAbs:=by unfold By;rw[Lr,(Lh _).2]
 have hd:=Kt r;have hh:=Nd r;unfold CL at h;simp only[JO,KM]at h;have hb:Iu (Al r)=false:=by
  rw[Oy,hs,Sa,hh,Vt];have e1:(decide (r.num<0)&&decide (Lib.decDigits r.num.natAbs=[48]))=false:=by
   by_cases g:r.num<0
   ·rw[Su (show r.num.natAbs≠dv [48] by show r.num.natAbs≠0;omega),Bool.and_false]
   ·rw[Af g,LM]
  rw[e1]
  by_cases g:r.den=1
  ·rw[AX g];rfl
  ·rw[hd,AE g,Vt,Su (show r.den≠dv [48]from r.den_nz),Su (show r.den≠dv [49]from g),Af g];rfl
 unfold CS;rw[hb,AE (by decide),hs]
 by_cases g:r.den=1
 ·rw[hd,AF g,hh,AX g,AE (by simp;omega),AE (λk=>AY k.1 (by decide))]
 ·rw[hd,AE g,(EM _).2.1,(EM _).2.1,AE (by omega),AE (λk=>k.2 r.reduced)]
theorem gT (r:Rat):CA (Al r)=r:=by
 unfold CA GU;rw[Lr,Xr,Nd,Kt]
 by_cases g:r.den=1
 ·rw[AX g]
  show mkRat r.num 1=r;rw[<-g];exact Rat.mkRat_self r
 ·rw[Af g,AE g,(EM _).2.1]
  exact Rat.mkRat_self r
theorem kh:rR 0=str ⟨#[48]⟩:=by
 have h:CA [48]=0:=by kernel_rfl
 rw[<-h,TE (by kernel_rfl)];all_goals rfl
theorem eH (r:Rat):Bj (sb (Al r)) ⟨#[49]⟩=decide (r=1):=by
 have h1:CA [49]=1:=by kernel_rfl
 have e:(⟨#[49]⟩:ByteArray)=sb [49]:=rfl;rw[e,EN,Cr];constructor
 ·intro h
  rw[<-gT r,h,h1]
 ·intro h
  rw[h]
  have:=(Ka (l:=[49]) (by kernel_rfl)).2.2.1
  rwa [h1]at this
abbrev Gg:Dr:=[(11,[0,1,2,3,4,5,6,7,8,9,10,11,12,13],[14,15])]
open Go.Proofs Go.RowKit
set_option maxRecDepth 20000
set_option maxHeartbeats 4000000
theorem Xw {l:List Au}:∀i,i<=l.length->(∀j,j<i->CS (FZ l j).part=0)->rk (Em l i) (601*i+1)
 | 0,_,_=>(Xq 1 (Ag _)).rk
 |i+1,hi,h=>(TJ (Xw i (by omega) λj hj=>h j (by omega)) (L8 (h i (by omega)))).mono (by omega)
theorem lj {l:List Au}{i:Nat}(h:FM l i=0):CS (FZ l i).part=0:=by
 unfold FM at h;split at h
 ·cases h
 split at h
 ·cases h
 split at h
 ·exact h
 ·rename_i h1;exact Decidable.not_not.1 h1
theorem uX (b:Bool)(l:List Au)(hl:l.length<=15\/64<l.length)(hl2:l.length<=9223372036854775807)(hf:∀s∈l,s.few):AK C0 119 [CT b l] (i64 (G9 l:Nat)):=by
 refine Ai.walk w1 m9 rfl λF=>?_
 have el:(((l.map Au.D).length:Nat):Int)=(l.length:Int):=by rw[Ap]
 have hC:G9 l=if l.length=0 then 2 else if 64<l.length then 5 else if DP (FM l) l.length≠0 then DP (FM l) l.length else if Em l l.length=1 then 0 else 12:=rfl
 rcases Nat.decEq l.length 0 with h0|h0
 rotate_left
 ·rw[AF h0]at hC
  rw[hC];have q1:((l.length:Int)==0)=true:=by rw[h0];rfl
  refine AJ Gg (Ac el q1) AB AB AB AB AB AB ?_;exact AO rfl AA.out
 rw[AE h0]at hC;have q1:((l.length:Int)==0)=false:=B6.2 (by omega)
 by_cases h64:64<l.length
 ·rw[AF h64]at hC
  rw[hC];have q2:decide ((l.length:Int)>64)=true:=AX (by omega);refine AJ Gg (At el q1 q2) AB AB AB AB AB AB ?_;exact AO rfl AA.out
 rw[AE h64]at hC;have q2:decide ((l.length:Int)>64)=false:=Af (by omega);have h15:l.length<=15:=by omega
 refine AJ Gg (At el q1 q2) AB AB AB AB AB AB ?_;refine AC.loop (α:=Nat×Nat) (λp=>⟨[(0,CT b l),(3,rR (Em l p.1)),(4,i64 (p.1:Int))],[],p.2⟩) (λp=>l.length-p.1) (λp=>p.1<=l.length/\∀j,j<p.1->FM l j=0) (0,_)
  ⟨BR _,λj h=>AY h (HP j)⟩ (by(dsimp only;rw[show rR (Em l 0)=str ⟨#[48]⟩from kh];exact AI)) ?_
 rintro⟨i,m⟩ F ⟨hi,hz⟩;dsimp only at hi hz⊢;have hSk:=Xw (l:=l) i hi λj hj=>lj (hz j hj)
 rcases BI i l.length with h2|h2
 rotate_left
 ·have e1:=Ca h2
  have:i=l.length:=by omega
  subst this;rw[AE (λh=>h (Kl hz))]at hC;have e2:=eH (Em l l.length);obtain⟨q,hq⟩:∃q,decide (Em l l.length=1)=q:=⟨_,rfl⟩
  rw[hq]at e2;unfold rR;cases q
  ·rw[AE (C5 hq)]at hC
   rw[hC];refine AJ Gg (At e1 el e2) AB AB AB AB AB AB ?_;exact AO rfl AA.out
  ·rw[AF (Cz hq)]at hC
   rw[hC];refine AJ Gg (At e1 el e2) AB AB AB AB AB AB ?_;exact AO rfl AA.out
 have e1:=CX h2;have wi:=Cf (i:=i) (by omega);obtain⟨s,hs⟩:=CQ h2;have hm:(l.map Au.D)[i]?=some (.agg [str (sb s.lot),str (sb s.part)]):=by rw[BH,hs];rfl
 obtain⟨f1,f2⟩:=hf s (A8 hs);have hE:FM l i=if Co s.lot=false then 8 else if 0<i/\Nx s.lot (FZ l (i-1)).lot=true then 11 else if CS s.part≠0 then CS s.part else if Fp (CA s.part)<=0 then 12 else 0:=by unfold FM;rw[I4 hs]
 have hbad:∀e:Nat,e≠0->FM l i=e->G9 l=e:=λe he h=>by
  have:=Ll hz h2 (by rw[h];exact he)
  rw[hC,this,h,AF he]
 have cN:=Tl s.lot (by omega);obtain⟨N,hN⟩:∃q,Co s.lot=q:=⟨_,rfl⟩
 rw[hN]at cN hE;cases N
 ·rw[AF rfl]at hE
  rw[hbad 8 (by decide) hE];refine AJ Gg (At e1 el kN) hm cN AB AB AB AB ?_;exact AO rfl AA.out
 rw[AE (by decide)]at hE;have cC:=qt s.part f2;rcases i with _|q
 ·have g0:decide (((0:Nat):Int)>0)=false:=rfl
  rw[AE (λh=>AY h.1 (Nat.lt_irrefl 0))]at hE;rcases Nat.decEq (CS s.part) 0 with hc0|hc0
  ·rw[AF hc0]at hE
   have e3:=Eo hc0;rw[hbad (CS s.part) hc0 hE];refine AJ Gg (Ck e1 el g0 kN e3) hm cN cC AB AB AB ?_;exact AO rfl AA.out
  rw[AE (λh=>h hc0)]at hE;have e3:=FC hc0;have cG:=Tc (CA s.part) (Wu hc0);have cA:=T6 (Em l 0) (CA s.part) (601*0+1) 600 hSk (L8 hc0) (by omega);rw[TE hc0]at cG cA;have hnext:Em l (0+1)=Em l 0+CA s.part:=by show _+CA (FZ l 0).part=_;rw[I4 hs]
  rw[<-hnext]at cA;obtain⟨sg,hsg⟩:∃q,Fp (CA s.part)=q:=⟨_,rfl⟩
  rw[hsg]at cG hE
  by_cases hs0:sg<=0
  ·rw[AF hs0]at hE
   have e4:decide (sg<=0)=true:=AX hs0;rw[hbad 12 (by decide) hE];refine AJ Gg (Ex e1 el g0 kN e3 e4) hm cN cC cG AB AB ?_;exact AO rfl AA.out
  rw[AE hs0]at hE;have e4:decide (sg<=0)=false:=Af hs0;refine AJ Gg (Dy e1 el g0 kN e3 e4 wi) hm cN cC cG cA AB ?_;exact⟨(0+1,_),⟨h2,λj hj=>by
   rcases Nat.lt_succ_iff_lt_or_eq.1 hj with q|q
   ·exact hz j q
   ·rw[q];exact hE⟩,by dsimp only;omega,AI⟩
 ·have g0:decide (((q+1:Nat):Int)>0)=true:=AX (by omega)
  have g1:IntKind.i64.wrap (((q+1:Nat):Int)-1)=(q:Int):=by rw[wI (by omega) (by omega)];omega
  obtain⟨s0,hs0'⟩:=CQ (l:=l) (i:=q) (by omega);have hm0:(l.map Au.D)[q]?=some (.agg [str (sb s0.lot),str (sb s0.part)]):=by rw[BH,hs0'];rfl
  rw[H5,I4 hs0']at hE;obtain⟨bL,hbL⟩:∃q,Nx s.lot s0.lot=q:=⟨_,rfl⟩
  have g2:(I7 (sb s.lot) (sb s0.lot)||Bj (sb s.lot) (sb s0.lot))=bL:=hbL;rw[hbL]at hE;cases bL
  rotate_left
  ·rw[AF ⟨Nat.succ_pos q,rfl⟩]at hE
   rw[hbad 11 (by decide) hE];refine AJ Gg (Ex e1 el g0 g1 g2 kN) hm hm0 cN AB AB AB ?_;exact AO rfl AA.out
  rw[AE (λh=>AY h.2 (by decide))]at hE;rcases Nat.decEq (CS s.part) 0 with hc0|hc0
  ·rw[AF hc0]at hE
   have e3:=Eo hc0;rw[hbad (CS s.part) hc0 hE];refine AJ Gg (Dy e1 el g0 g1 g2 kN e3) hm hm0 cN cC AB AB ?_;exact AO rfl AA.out
  rw[AE (λh=>h hc0)]at hE;have e3:=FC hc0;have cG:=Tc (CA s.part) (Wu hc0);have cA:=T6 (Em l (q+1)) (CA s.part) (601*(q+1)+1) 600 hSk (L8 hc0) (by omega);rw[TE hc0]at cG cA;have hnext:Em l ((q+1)+1)=Em l (q+1)+CA s.part:=by show _+CA (FZ l (q+1)).part=_;rw[I4 hs]
  rw[<-hnext]at cA;obtain⟨sg,hsg⟩:∃q,Fp (CA s.part)=q:=⟨_,rfl⟩
  rw[hsg]at cG hE
  by_cases hs0:sg<=0
  ·rw[AF hs0]at hE
   have e4:decide (sg<=0)=true:=AX hs0;rw[hbad 12 (by decide) hE];refine AJ Gg (Dy e1 el g0 g1 g2 kN (Ac e3 e4)) hm hm0 cN cC cG AB ?_;exact AO rfl AA.out
  rw[AE hs0]at hE;have e4:decide (sg<=0)=false:=Af hs0;refine AJ Gg (Dy e1 el g0 g1 g2 kN (At e3 e4 wi)) hm hm0 cN cC cG cA ?_;exact⟨((q+1)+1,_),⟨h2,λj hj=>by
   rcases Nat.lt_succ_iff_lt_or_eq.1 hj with q|q
   ·exact hz j q
   ·rw[q];exact hE⟩,by dsimp only;omega,AI⟩
theorem bF (x:AG)(hs:x.shs.length<=15\/64<x.shs.length)(hf:x.few):AK C0 64 [x.D] (i64 (CK x:Nat)):=by
 refine Ai.walk w1 tV rfl λF=>?_
 obtain⟨f1,f2,f3⟩:=hf;have cN:=Tl x.grain (by omega);have cS:=uX false x.shs hs f2 f3;have hC:CK x=if Co x.grain=false then 8 else if x.mass<1\/x.mass>999999999 then 3 else G9 x.shs:=rfl
 obtain⟨N,hN⟩:∃q,Co x.grain=q:=⟨_,rfl⟩
 obtain⟨SD,hSD⟩:∃d,CT false x.shs=d:=⟨_,rfl⟩
 have pS:AA SD:=by rw[<-hSD];exact AH
 have hna:Jx SD=true:=by rw[<-hSD];rfl
 unfold AG.D;rw[hN]at cN hC;rw[hSD]at cS⊢;cases N
 ·rw[AF rfl]at hC
  rw[hC];refine AJ Ad kB cN AB AB AB AB AB ?_;exact AO rfl AA.out
 rw[AE (by decide)]at hC
 by_cases h1:x.mass<1
 ·rw[AF (.inl h1)]at hC
  rw[hC];have e1:decide (x.mass<1)=true:=AX h1;refine AJ Ad e1 cN AB AB AB AB AB ?_;exact AO rfl AA.out
 have e1:decide (x.mass<1)=false:=Af h1
 by_cases h2:x.mass>999999999
 ·rw[AF (.inr h2)]at hC
  rw[hC];have e2:decide (x.mass>999999999)=true:=AX h2;refine AJ Ad (Ac e1 e2) cN AB AB AB AB AB ?_;exact AO rfl AA.out
 have e2:decide (x.mass>999999999)=false:=Af h2;rw[AE (by omega)]at hC;rw[hC];refine AJ Ad (At e1 e2 hna) cN cS AB AB AB AB ?_;exact AO rfl AA.out
abbrev Lw:Dr:=[(8,[0,1,2,3,4,5,6,7],[8])]
open Go.Proofs Go.RowKit
set_option maxRecDepth 20000
set_option maxHeartbeats 4000000
abbrev Bb:=List (List UInt8×Rat)
def Fj (lot:List UInt8):Bb->Option Rat
 | []=>none
 |p::l=>if lot=p.1 then some p.2 else Fj lot l
def GB (lot:List UInt8)(r:Rat):Bb->Bb
 | []=>[(lot,r)]
 |p::l=>if lot=p.1 then(lot,r)::l else p::GB lot r l
def JK (lot:List UInt8)(r:Rat)(q:Bb):Bb:=GB lot (match Fj lot q with|some o=>r+o|none=>r) q
def GA (x:AG)(n:Nat)(q:Bb):Bb:=(x.shs.take n).foldl (λacc s=>JK s.lot (CA s.part*(x.mass:Rat)) acc) q
def Bh (l:List AG):Bb:=l.foldl (λacc x=>GA x x.shs.length acc) []
def MQ (B:Nat):Bb->Cw->Prop
 | [],[]=>True
 |p::q,e::m=>(e.1=sb p.1/\∃y:GF,e.2=y.D/\FR p.2 y B)/\MQ B q m
 |_,_=>False
theorem MQ.mono {B B':Nat}(hB:B<=B'):∀ {q:Bb} {m:Cw},MQ B q m->MQ B' q m
 | [],[],_=>trivial
 |_::_,_::_,⟨⟨h1,y,h2,h3⟩,h4⟩=>⟨⟨h1,y,h2,h3.is,h3.rk.mono hB⟩,MQ.mono hB h4⟩
theorem MQ.look {B:Nat}(lot:List UInt8):∀ {q:Bb} {m:Cw},MQ B q m->(HV (sb lot) m=none/\Fj lot q=none)\/∃(r:Rat) (y:GF),HV (sb lot) m=some y.D/\Fj lot q=some r/\FR r y B
 | [],[],_=>.inl ⟨rfl,rfl⟩
 |p::q,e::m,⟨⟨h1,y,h2,h3⟩,h4⟩=>by
  unfold HV Fj;rw[h1,EN]
  by_cases hl:lot=p.1
  ·rw[AX hl,AF hl]
   exact .inr ⟨p.2,y,by rw[h2];rfl,rfl,h3⟩
  ·rw[Af hl,AE hl]
   exact MQ.look lot h4
theorem MQ.set {B:Nat}(lot:List UInt8){r:Rat}{y:GF}(hr:FR r y B):∀ {q:Bb} {m:Cw},MQ B q m->MQ B (GB lot r q) (FE (sb lot) y.D m)
 | [],[],_=>⟨⟨rfl,y,rfl,hr⟩,trivial⟩
 |p::q,e::m,⟨⟨h1,y',h2,h3⟩,h4⟩=>by
  unfold GB FE;rw[h1,EN]
  by_cases hl:lot=p.1
  ·rw[AX hl,AF hl]
   exact⟨⟨rfl,y,rfl,hr⟩,h4⟩
  ·rw[Af hl,AE hl]
   exact⟨⟨h1,y',h2,h3⟩,MQ.set lot hr h4⟩
theorem MQ.pure {B:Nat}:∀ {q:Bb} {m:Cw},MQ B q m->∀e∈m,Bv e.2
 | [],[],_,e,he=>by cases he
 |p::q,e::m,⟨⟨_,y,h2,_⟩,h4⟩,x,hx=>by
  rcases A7.1 hx with rfl|hx
  ·rw[h2];exact AA.out
  ·exact MQ.pure h4 x hx
theorem MQ.mapD {B:Nat}{q:Bb}{m:Cw}(h:MQ B q m):Bv (mapD m):=by
 refine Bv.mp (λd hd=>?_) λd hd=>?_
 ·obtain⟨p,-,rfl⟩:=List.mem_map.1 hd;exact AA.out
 ·obtain⟨p,hp,rfl⟩:=List.mem_map.1 hd;exact h.pure p hp
def Au.ok (s:Au):Prop:=s.lot.length<=100000/\s.part.length<=40/\CS s.part=0
def AG.ok (x:AG):Prop:=x.shs.length<=64/\Sm x.mass/\∀s∈x.shs,s.ok
def AG.okW (w:Nat)(x:AG):Prop:=x.shs.length<=64/\Sm x.mass/\∀s∈x.shs,s.lot.length<=100000/\s.part.length<=100000/\CS s.part=0/\rk (CA s.part) (w-2)
theorem M1 (x:AG)(n:Nat)(q:Bb){s:Au}(h:x.shs[n]?=some s):GA x (n+1) q=JK s.lot (CA s.part*(x.mass:Rat)) (GA x n q):=by
 unfold GA;rw[Dv,h,List.foldl_append];rfl
theorem O2 (l:List AG)(n:Nat){x:AG}(h:l[n]?=some x):Bh (l.take (n+1))=GA x x.shs.length (Bh (l.take n)):=by
 unfold Bh;rw[Dv,h,List.foldl_append];rfl
theorem ZH (w:Nat)(b:Bool)(l:List AG)(hl:l.length<=100)(hx:∀x∈l,x.okW w)(h2w:2<=w)(hw:w*(64*(l.length+1))<=100000):Ai C0 62 [A0 b l] (λd=>∃m,d=mapD m/\MQ (w*(64*l.length)) (Bh l) m):=by
 refine Ai.walk w1 aN rfl λF0=>?_
 have el:(((l.map AG.D).length:Nat):Int)=(l.length:Int):=by rw[Ap]
 refine sZ 0 ?_;refine AD kB ?_;refine AC.seq ?_;refine HL (by kernel_rfl) ?_;change BY _ _ _ _ _ [0,1] _ _;refine BY.makeMap 100 rfl rfl rfl (UH F0) (λF1 it hto hO hr0 hnX hM=>?_);change BY _ _ _ _ _ ([1]++[]) _ _;refine FG w1 100 [1] [] ?_;refine AD kB ?_;refine BY.nil ?_;refine AJ Lw el AB AB AB AB AB AB ?_;refine Fr (α:=Nat×Cw×Obj×Nat) (λp=>⟨[(3,.prim (.map (some it))),(12,A0 b l),(13,i64 (l.length:Int)),(14,i64 (p.1:Int))],[],p.2.2.2⟩) (λp=>l.length-p.1)
  (λp F=>p.1<=l.length/\Cu C0 F0 F [⟨100,1,p.2.2.1⟩]/\F.r0 100 1=some it/\HB F p.2.2.1 p.2.1/\MQ (w*(64*p.1)) (Bh (l.take p.1)) p.2.1) (0,[],.map #[] 0,_) ⟨BR _,hO,hr0,hM,trivial⟩ AI ?_
 clear hO hr0 hM hto;rintro⟨i,m,o,n1⟩ F ⟨hi,hO,hr0,hM,hQ⟩;dsimp only at hi hO hr0 hM hQ⊢;rcases BI i l.length with h2|h2
 rotate_left
 ·have e1:=Ca h2
  have:i=l.length:=by omega
  subst this;rw[DL]at hQ;refine sZ 300 ?_;refine AD e1 ?_;refine AC.seq ?_;refine AL ?_;refine B7 ?_;refine bW [(3,mapD m)] hO hr0 hnX hM ⟨.inr ⟨rfl,rfl⟩,trivial⟩ (λF2 hto2 hO2=>?_);refine AJ Lw kB AB AB AB AB AB AB ?_;exact⟨mapD m,.refl _,hQ.mapD,m,rfl,hQ⟩
 have e1:=CX h2;have wi:=Cf (i:=i) (by omega);obtain⟨x,hxi⟩:=CQ h2;obtain⟨x1,x2,x3⟩:=hx x (A8 hxi);have hm:(l.map AG.D)[i]?=some (.agg [str (sb x.grain),i64 x.mass,.sl false 2 (x.shs.map Au.D)]):=by rw[BH,hxi];rfl
 have es:(((x.shs.map Au.D).length:Nat):Int)=(x.shs.length:Int):=by rw[Ap]
 refine AJ Lw (At e1 es kN) hm AB AB AB AB AB ?_;obtain⟨ga,hga⟩:∃g,n1+1+1+1=g:=⟨_,rfl⟩
 refine Fr (α:=Nat×Cw×Obj×Nat) (λp=>⟨[(3,.prim (.map (some it))),(5,.optr 402 (n1+1+1+1) 3 0 0),(12,A0 b l),(13,i64 (l.length:Int)),(14,i64 (i:Int)),(19,.sl false 2 (x.shs.map Au.D)),(20,i64 (x.shs.length:Int)),(21,i64 (p.1:Int))],[⟨402,n1+1+1+1,27,3,[.agg [str (sb x.grain),i64 x.mass,.sl false 2 (x.shs.map Au.D)]]⟩],p.2.2.2⟩) (λp=>x.shs.length-p.1)
  (λp F=>p.1<=x.shs.length/\Cu C0 F0 F [⟨100,1,p.2.2.1⟩]/\F.r0 100 1=some it/\HB F p.2.2.1 p.2.1/\MQ (w*(64*i+p.1)) (GA x p.1 (Bh (l.take i))) p.2.1) (0,m,o,_) ⟨BR _,hO,hr0,hM,hQ⟩ AI ?_
 clear hO hr0 hM hQ;rintro⟨j,m2,o2,n2⟩ F ⟨hj,hO,hr0,hM,hQ⟩;dsimp only at hj hO hr0 hM hQ⊢;rw[hga];rcases BI j x.shs.length with h3|h3
 rotate_left
 ·have e2:=Ca h3
  have:j=x.shs.length:=by omega
  subst this;rw[<-O2 l i hxi]at hQ;refine AJ Lw (Ac e2 wi) AB AB AB AB AB AB ?_;exact⟨(i+1,m2,o2,_),⟨h2,hO,hr0,hM,hQ.mono (CU _ (by dsimp only;omega))⟩,by dsimp only;omega,AI⟩
 have e2:=CX h3;have wj:=Cf (i:=j) (by omega);obtain⟨s,hsj⟩:=CQ h3;obtain⟨s1,s2,s3,s4⟩:=x3 s (A8 hsj);have hms:(x.shs.map Au.D)[j]?=some (.agg [str (sb s.lot),str (sb s.part)]):=by rw[BH,hsj];rfl
 have hsn:=M1 x j (Bh (l.take i)) hsj;have fP:FR (CA s.part) (F9 s.part) (w-2):=⟨(QB s3).is,s4⟩
 obtain⟨PW,hPW⟩:∃P,w*(64*i+j)=P:=⟨_,rfl⟩
 have hPW1:w*(64*i+(j+1))=PW+w:=by rw[<-hPW,<-ET,Nat.mul_succ]
 have hPWb:PW+w<=100000:=by
  rw[<-hPW1];exact BO (CU _ (by omega)) hw
 rw[hPW]at hQ;have fM:FR ((x.mass:Int):Rat) ⟨AV x.mass,1⟩ 1:=NZ (by unfold Sm at x2;omega);have c1:=QP s2 s3;have c2:=OC x.mass x2;have c3:=S1 fP fM (by omega);have fZ:FR (CA s.part*(x.mass:Rat)) (Hy (F9 s.part) ⟨AV x.mass,1⟩) (w-2+1):=Sl fP fM;obtain⟨z,hz⟩:∃z,Hy (F9 s.part) ⟨AV x.mass,1⟩=z:=⟨_,rfl⟩
 rw[hz]at c3 fZ;obtain⟨d1,hd1⟩:∃d,(F9 s.part).D=d:=⟨_,rfl⟩
 obtain⟨d2,hd2⟩:∃d,(⟨AV x.mass,1⟩:GF).D=d:=⟨_,rfl⟩
 have pd1:AA d1:=by rw[<-hd1];exact AH
 have pd2:AA d2:=by rw[<-hd2];exact AH
 rw[hd1]at c1 c3;rw[hd2]at c2 c3;refine sZ 600 ?_;refine AD e2 ?_;refine AC.seq ?_;refine AL ?_;refine Aj ?_;refine AC.seq ?_;refine AC.block ?_;refine sZ 700 ?_;refine Bo kT hms ?_;refine AD kB ?_;refine AC.seq ?_;refine B5 w1 800 [0,1,2,3,4,5,6,7] [8] (by kernel_rfl) ?_;refine AD kB ?_;refine BS.same _ (c1) AH ?_;refine BL ?_;refine AD kB ?_;refine BS.same _ (c2) AH ?_;refine BL ?_;refine AD kB ?_;refine BS.same _ (c3) AH ?_;refine BL ?_;refine AD kB ?_;refine AC.seq ?_;refine AC.seq ?_;refine HL (by kernel_rfl) ?_;change BY _ _ _ _ _ ([0,1,2]++(3::([4,5,6,7,8,9]++[]))) _ _;refine FG w1 900 [0,1,2] _ ?_;refine AD kB ?_;refine BY.look (xo:=⟨100,1,o2⟩) (l:=m2) w1 rfl rfl rfl rfl rfl rfl hO Ce hr0 hM ?_;rcases hQ.look s.lot with⟨q1,q2⟩|⟨r,y,q1,q2,q3⟩
 ·rw[VC q1]
  refine FG w1 900 [4,5,6,7,8,9] [] ?_;refine AD kB ?_;refine BY.nil ?_;refine As ?_;refine sZ 1000 ?_;refine AD kB ?_;refine AL ?_;refine Aj ?_;refine HL (by kernel_rfl) ?_;change BY _ _ _ _ _ ([0,1,2,3]++(4::[])) _ _;refine FG w1 1200 [0,1,2,3] _ ?_;refine AD kB ?_;refine BY.put (l:=m2) w1 rfl rfl rfl rfl rfl rfl hO hr0 hM (λF3 o3 hto3 hO3 hr3 hM3=>BY.nil ?_);refine As ?_;have hQ2:MQ (w*(64*i+(j+1))) (GA x (j+1) (Bh (l.take i))) (FE (sb s.lot) z.D m2):=by
   rw[hsn,hPW1];unfold JK;rw[q2];exact MQ.set s.lot ⟨fZ.is,fZ.rk.mono (by omega)⟩ (hQ.mono (by omega))
  refine AJ Lw wj AB AB AB AB AB AB ?_;exact⟨(j+1,FE (sb s.lot) z.D m2,o3,_),⟨h3,hO3,hr3,hM3,hQ2⟩,by dsimp only;omega,AI⟩
 ·rw[VD q1]
  refine FG w1 900 [4,5,6,7,8,9] [] ?_;refine AD kB ?_;refine BY.nil ?_;have c4:=QK fZ q3 (by omega);have fA:=Py fZ q3;obtain⟨z2,hz2⟩:∃z2,JG z y=z2:=⟨_,rfl⟩
  rw[hz2]at c4 fA;refine As ?_;refine sZ 1000 ?_;refine AD kB ?_;refine AL ?_;refine An w1 1100 (by kernel_rfl) ?_;refine AD kB ?_;refine cI c4 ?_;refine AD kB ?_;refine HL (by kernel_rfl) ?_;change BY _ _ _ _ _ ([0,1,2,3]++(4::[])) _ _;refine FG w1 1200 [0,1,2,3] _ ?_;refine AD kB ?_;refine BY.put (l:=m2) w1 rfl rfl rfl rfl rfl rfl hO hr0 hM (λF3 o3 hto3 hO3 hr3 hM3=>BY.nil ?_);refine As ?_;have hQ2:MQ (w*(64*i+(j+1))) (GA x (j+1) (Bh (l.take i))) (FE (sb s.lot) z2.D m2):=by
   rw[hsn,hPW1];unfold JK;rw[q2];exact MQ.set s.lot ⟨fA.is,fA.rk.mono (by omega)⟩ (hQ.mono (by omega))
  refine AJ Lw wj AB AB AB AB AB AB ?_;exact⟨(j+1,FE (sb s.lot) z2.D m2,o3,_),⟨h3,hO3,hr3,hM3,hQ2⟩,by dsimp only;omega,AI⟩
theorem AG.ok.w5 {x:AG}(h:x.ok):x.okW 5:=⟨h.1,h.2.1,λs hs=>by
 obtain⟨a,b,c⟩:=h.2.2 s hs;exact⟨a,by omega,c,Og c b⟩⟩
theorem tv (b:Bool)(l:List AG)(hl:l.length<=100)(hx:∀x∈l,x.ok):Ai C0 62 [A0 b l] (λd=>∃m,d=mapD m/\MQ 32000 (Bh l) m):=
 (ZH 5 b l hl (λx h=>(hx x h).w5) (by omega) (by omega)).mono λd ⟨m,h1,h2⟩=>⟨m,h1,h2.mono (by omega)⟩
end Go.Ide
namespace Go.Proofs
open Go.Shelf Go.RowKit Go.Lib Go.Sort
def Tryz.sortAmounts_ren:Go.Shelf.Ren:=⟨fun|6=>115|15=>163|14=>162|28=>222|29=>223|20=>214|21=>215|22=>216|23=>217|24=>218|25=>219|26=>220|27=>221|46=>263|47=>264|48=>265|49=>266|50=>267|57=>294|n=>n,fun|22=>31|24=>93|25=>158|3=>3|39=>203|0=>0|53=>254|55=>225|4=>4|46=>247|45=>246|50=>251|5=>5|9=>9|66=>280|70=>284|76=>305|77=>306|n=>n,fun|n=>n⟩
theorem v7:Go.Proofs.SlLaysF0.n6 Tryz.prog Tryz.sortAmounts_ren:={
 mixed:=by kernel_rfl
 f6:=⟨Tryz.f115.name,by decide,Tryz.func115.trans (congrArg some (by kernel_rfl))⟩
 f14:=⟨Tryz.f162.name,by decide,Tryz.func162.trans (congrArg some (by kernel_rfl))⟩
 f15:=Tryz.func163.trans (congrArg some (by kernel_rfl))
 f20:=⟨Tryz.f214.name,by decide,Tryz.func214.trans (congrArg some (by kernel_rfl))⟩
 f21:=⟨Tryz.f215.name,by decide,Tryz.func215.trans (congrArg some (by kernel_rfl))⟩
 f22:=⟨Tryz.f216.name,by decide,Tryz.func216.trans (congrArg some (by kernel_rfl))⟩
 f23:=⟨Tryz.f217.name,by decide,Tryz.func217.trans (congrArg some (by kernel_rfl))⟩
 f24:=⟨Tryz.f218.name,by decide,Tryz.func218.trans (congrArg some (by kernel_rfl))⟩
 f25:=⟨Tryz.f219.name,by decide,Tryz.func219.trans (congrArg some (by kernel_rfl))⟩
 f26:=⟨Tryz.f220.name,by decide,Tryz.func220.trans (congrArg some (by kernel_rfl))⟩
 f27:=⟨Tryz.f221.name,by decide,Tryz.func221.trans (congrArg some (by kernel_rfl))⟩
 f28:=Tryz.func222.trans (congrArg some (by kernel_rfl))
 f29:=Tryz.func223.trans (congrArg some (by kernel_rfl))
 f46:=⟨Tryz.f263.name,by decide,Tryz.func263.trans (congrArg some (by kernel_rfl))⟩
 f47:=Tryz.func264.trans (congrArg some (by kernel_rfl))
 f48:=Tryz.func265.trans (congrArg some (by kernel_rfl))
 f49:=⟨Tryz.f266.name,by decide,Tryz.func266.trans (congrArg some (by kernel_rfl))⟩
 f50:=⟨Tryz.f267.name,by decide,Tryz.func267.trans (congrArg some (by kernel_rfl))⟩
 f57:=⟨Tryz.f294.name,by decide,Tryz.func294.trans (congrArg some (by kernel_rfl))⟩
 t0:=Tryz.underlying0
 a0:=Tryz.isAgg0
 z0:=Tryz.sizeOf0
 v0:=Tryz.zeroValue0
 t3:=Tryz.underlying3
 a3:=Tryz.isAgg3
 z3:=Tryz.sizeOf3
 v3:=Tryz.zeroValue3
 t4:=Tryz.underlying4
 a4:=Tryz.isAgg4
 z4:=Tryz.sizeOf4
 v4:=Tryz.zeroValue4
 t5:=Tryz.underlying5
 a5:=Tryz.isAgg5
 z5:=Tryz.sizeOf5
 v5:=Tryz.zeroValue5
 t9:=Tryz.underlying9
 a9:=Tryz.isAgg9
 z9:=Tryz.sizeOf9
 v9:=Tryz.zeroValue9
 t22:=Tryz.underlying31
 a22:=Tryz.isAgg31
 z22:=Tryz.sizeOf31
 v22:=Tryz.zeroValue31
 t25:=Tryz.underlying158
 a25:=Tryz.isAgg158
 z25:=Tryz.sizeOf158
 v25:=Tryz.zeroValue158
 t39:=Tryz.underlying203
 a39:=Tryz.isAgg203
 z39:=Tryz.sizeOf203
 v39:=Tryz.zeroValue203
 t45:=Tryz.underlying246
 a45:=Tryz.isAgg246
 z45:=Tryz.sizeOf246
 v45:=Tryz.zeroValue246
 t46:=Tryz.underlying247
 a46:=Tryz.isAgg247
 z46:=Tryz.sizeOf247
 v46:=Tryz.zeroValue247
 t50:=Tryz.underlying251
 a50:=Tryz.isAgg251
 z50:=Tryz.sizeOf251
 v50:=Tryz.zeroValue251
 t53:=Tryz.underlying254
 a53:=Tryz.isAgg254
 z53:=Tryz.sizeOf254
 v53:=Tryz.zeroValue254
 t55:=Tryz.underlying225
 a55:=Tryz.isAgg225
 z55:=Tryz.sizeOf225
 v55:=Tryz.zeroValue225
 t66:=Tryz.underlying280
 a66:=Tryz.isAgg280
 z66:=Tryz.sizeOf280
 v66:=Tryz.zeroValue280
 t70:=Tryz.underlying284
 a70:=Tryz.isAgg284
 z70:=Tryz.sizeOf284
 v70:=Tryz.zeroValue284
 t76:=Tryz.underlying305
 a76:=Tryz.isAgg305
 z76:=Tryz.sizeOf305
 v76:=Tryz.zeroValue305
 t77:=Tryz.underlying306
 a77:=Tryz.isAgg306
 z77:=Tryz.sizeOf306
 v77:=Tryz.zeroValue306 }
end Go.Proofs
namespace Go.Ide
open Go.Proofs Go.RowKit Go.Sort
set_option maxRecDepth 20000
def BM (p:List UInt8×Rat):D:=.agg [str (sb p.1),str (sb (Al p.2))]
instance d4J (p:List UInt8×Rat):Ak (BM p):=by unfold BM;exact AH
instance d4K (p:List UInt8×Rat):AA (BM p):=by unfold BM;exact AH
def J9 (p:List UInt8×Rat):List Value:=[.string (sb p.1),.string (sb (Al p.2))]
def HH (x y:List UInt8):Int:=if x<y then -1 else if y<x then 1 else 0
theorem PH (x y:List UInt8×Rat):ltOf (λx y:List UInt8×Rat=>HH x.1 y.1) x y=ltStr x.1 y.1:=by
 unfold ltOf HH ltStr
 by_cases h:x.1<y.1
 ·simp[h]
 ·by_cases h2:y.1<x.1<;>simp[h,h2]
theorem vL:SWO (ltOf (λx y:List UInt8×Rat=>HH x.1 y.1)) where
 irrefl x:=by rw[PH];exact swo_ltStr.irrefl _
 trans x y z h1 h2:=by rw[PH]at*;exact swo_ltStr.trans _ _ _ h1 h2
 ntrans x y z h1 h2:=by rw[PH]at*;exact swo_ltStr.ntrans _ _ _ h1 h2
set_option maxHeartbeats 1000000 in
theorem gl (x:ByteArray)(W:World):Calls Tryz.prog 164 #[.string x] W λe w'=>e=.returned (.bool false)/\w'=W:=by
 go_enter Tryz.func164,Tryz.ntmps164
 go_wp2
 go_ret
 exact⟨by simp,rfl⟩
theorem V0 (x:List UInt8):(sb x).toList=x:=by rw[Lib.toList_data]
set_option maxHeartbeats 1000000 in
theorem eV (x y:List UInt8)(W:World):Calls Tryz.prog 117 #[.string (sb x),.string (sb y)] W λe w'=>e=.returned (.int .i64 (HH x y))/\w'=W:=by
 go_enter Tryz.func117,Tryz.ntmps117
 go_wp2_with (go_at_call 164;refine(gl _ _).mono ?_;rintro e w' ⟨rfl,hw⟩;rw[hw])
 all_goals go_ret
 all_goals(refine⟨?_,rfl⟩)
 ·have h:Op.bytesLess x y=true:=by assumption
  rw[bytesLess_eq,Gw]at h;unfold HH;rw[AF h];rfl
 ·have h:Op.bytesLess x y=false:=by assumption
  have h2:(!x==y)=true:=by assumption
  rw[bytesLess_eq,KM]at h;have h3:y<x:=Ct λq=>by
   have:=List.le_antisymm (List.not_lt.1 q) (List.not_lt.1 h)
   simp[this]at h2
  unfold HH;rw[AE h,AF h3];rfl
 ·have h:Op.bytesLess x y=false:=by assumption
  have h2:(!x==y)=false:=by assumption
  rw[bytesLess_eq,KM]at h;have h3:¬y<x:=λq=>by
   have:x=y:=by simpa using h2
   rw[this]at q;exact List.lt_irrefl _ q
  unfold HH;rw[AE h,AE h3];rfl
set_option maxHeartbeats 1000000 in
theorem eU (x y:List UInt8×Rat)(W:World):Calls Tryz.prog 116 #[.agg (J9 x).toArray,.agg (J9 y).toArray] W λe w'=>e=.returned (.int .i64 (HH x.1 y.1))/\∃q os',w'=grow (W.drewN q) os':=by
 have hcon:=eV x.1 y.1;unfold J9;generalize HH x.1 y.1=r at hcon⊢;generalize sb x.1=a at hcon⊢;generalize sb y.1=b at hcon⊢;generalize sb (Al x.2)=c;generalize sb (Al y.2)=d
 go_enter Tryz.func116,Tryz.ntmps116
 go_wp2_with (go_at_call 117;refine(hcon _).mono ?_;rintro e w' ⟨rfl,rfl⟩)
 go_ret
 exact⟨rfl,0,_,by rw[alloc_eq_grow,alloc_eq_grow,grow_grow];rfl⟩
theorem wV:(Tryz.prog.info? 93).map (λi=>i.size)=some 2:=by kernel_rfl
theorem bq:Hn Tryz.prog 93=true:=by kernel_rfl
theorem wW:(Tryz.prog.underlying 93).isSome=true:=by kernel_rfl
theorem uA (w:World):(Go.sizeOf 93).run Tryz.prog w=.ok 2 w:=by
 obtain⟨i,h1,h2⟩:=Option.map_eq_some_iff.1 wV;rw[GP h1,h2]
theorem ua (w:World):(isAgg 93).run Tryz.prog w=.ok true w:=by
 obtain⟨u,h1⟩:=Option.isSome_iff_exists.1 wW;rw[PM h1,bq]
theorem rF:Xy Tryz.prog 115 116 J9 2 (ltOf λx y:List UInt8×Rat=>HH x.1 y.1):=λblk cap d w hH hb hd=>
 AnyQ.slices_SortFunc v7 2 ua uA J9 (λ_=>rfl) (λx v hv=>by simp[J9]at hv;rcases hv with rfl|rfl<;>rfl)
  (λx y=>HH x.1 y.1) vL 116 #[] blk 0 cap d w (enters_of Tryz.func116 (by kernel_rfl) rfl) (λ_ _ _ _ x y=>eU x y _) hH hb hd
theorem dE (l:List (List UInt8×Rat))(hl0:l≠[])(hl:l.length<4611686018427387904)(kb gg:Nat)(H:Hp)(n:Nat):
  CW C0 115 [.osl kb gg 2 0 l.length,.clo (.func 116) [] []] (⟨kb,gg,93,2,l.map BM⟩::H) n
   (λd H' n'=>d=.tup []/\n'=n+1/\∃l':List (List UInt8×Rat),l'.Perm l/\l'.Pairwise (λa b=>ltStr b.1 a.1=false)/\H'=⟨kb,gg,93,2,l'.map BM⟩::H):=
 (iL (C:=C0) (f:=115) (g:=116) (enc:=J9) (k:=2) (toD:=BM) (lt:=ltOf λx y:List UInt8×Rat=>HH x.1 y.1) (by obtain⟨fn,a1,a2,a3,-⟩:=Yu;exact⟨fn,_,a1,a2,a3⟩) (by decide) (λ_=>rfl) (λx v hv=>by simp[J9]at hv;rcases hv with rfl|rfl<;>rfl) (λx=>rfl) rF l hl0 hl kb gg _ H n).mono λd H' n' ⟨h1,h2,l',h3,h4,h5⟩=>
  ⟨h1,h2,l',h3,h4.imp λh=>by rw[PH]at h;exact h,h5⟩
theorem iM:AK C0 115 [CE,.clo (.func 116) [] []] (.tup []):=CD DO 400 40 (by kernel_rfl)
end Go.Ide
namespace Go.Proofs
open Go.Shelf Go.RowKit Go.Lib Go.Sort
def Tryz.sortedZ_ren:Go.Shelf.Ren:=⟨fun|6=>107|8=>155|9=>156|11=>205|13=>163|12=>206|23=>222|24=>223|14=>244|15=>245|16=>246|17=>247|18=>248|19=>249|20=>250|21=>251|22=>252|25=>283|26=>264|27=>265|28=>284|29=>285|30=>164|31=>302|n=>n,fun|26=>9|28=>149|24=>146|0=>0|3=>3|37=>203|48=>254|50=>225|4=>4|40=>247|39=>246|45=>251|5=>5|9=>9|51=>280|55=>284|57=>305|58=>306|33=>99|n=>n,fun|n=>n⟩
theorem v8:Go.Proofs.SlLaysZ.n6 Tryz.prog Tryz.sortedZ_ren:={
 mixed:=by kernel_rfl
 f6:=⟨Tryz.f107.name,by decide,Tryz.func107.trans (congrArg some (by kernel_rfl))⟩
 f8:=⟨Tryz.f155.name,by decide,Tryz.func155.trans (congrArg some (by kernel_rfl))⟩
 f11:=⟨Tryz.f205.name,by decide,Tryz.func205.trans (congrArg some (by kernel_rfl))⟩
 t0:=Tryz.underlying0
 a0:=Tryz.isAgg0
 z0:=Tryz.sizeOf0
 v0:=Tryz.zeroValue0
 t24:=Tryz.underlying146
 a24:=Tryz.isAgg146
 z24:=Tryz.sizeOf146
 v24:=Tryz.zeroValue146
 t26:=Tryz.underlying9
 a26:=Tryz.isAgg9
 z26:=Tryz.sizeOf9
 v26:=Tryz.zeroValue9
 t28:=Tryz.underlying149
 a28:=Tryz.isAgg149
 z28:=Tryz.sizeOf149
 v28:=Tryz.zeroValue149
 i26:=by kernel_rfl }
def Tryz.keysZ_ren:Go.Shelf.Ren:=⟨fun|10=>157|n=>n,fun|33=>99|23=>102|0=>0|4=>4|26=>9|3=>141|n=>n,fun|n=>n⟩
theorem v6:Go.Proofs.SlLaysZ.n10 Tryz.prog Tryz.keysZ_ren:={
 mixed:=by kernel_rfl
 f10:=⟨Tryz.f157.name,by decide,Tryz.func157.trans (congrArg some (by kernel_rfl))⟩
 t0:=Tryz.underlying0
 a0:=Tryz.isAgg0
 z0:=Tryz.sizeOf0
 v0:=Tryz.zeroValue0
 t4:=Tryz.underlying4
 a4:=Tryz.isAgg4
 z4:=Tryz.sizeOf4
 v4:=Tryz.zeroValue4
 t23:=Tryz.underlying102
 a23:=Tryz.isAgg102
 z23:=Tryz.sizeOf102
 v23:=Tryz.zeroValue102
 t26:=Tryz.underlying9
 a26:=Tryz.isAgg9
 z26:=Tryz.sizeOf9
 v26:=Tryz.zeroValue9
 t33:=Tryz.underlying99
 a33:=Tryz.isAgg99
 z33:=Tryz.sizeOf99
 v33:=Tryz.zeroValue99 }
def Tryz.sortM_ren:Go.Shelf.Ren:=⟨fun|6=>156|8=>163|9=>206|19=>222|20=>223|21=>244|22=>245|23=>246|24=>247|25=>248|26=>249|27=>250|28=>251|29=>252|36=>283|31=>264|32=>265|37=>284|38=>285|39=>164|41=>302|n=>n,fun|27=>146|29=>9|3=>3|32=>203|26=>146|0=>0|44=>254|46=>225|4=>4|36=>247|35=>246|41=>251|5=>5|9=>9|53=>280|57=>284|63=>305|64=>306|n=>n,fun|n=>n⟩
theorem bY:Go.Proofs.SlLaysM.n6 Tryz.prog Tryz.sortM_ren:={
 mixed:=by kernel_rfl
 f6:=⟨Tryz.f156.name,by decide,Tryz.func156.trans (congrArg some (by kernel_rfl))⟩
 f8:=Tryz.func163.trans (congrArg some (by kernel_rfl))
 f9:=⟨Tryz.f206.name,by decide,Tryz.func206.trans (congrArg some (by kernel_rfl))⟩
 f19:=Tryz.func222.trans (congrArg some (by kernel_rfl))
 f20:=Tryz.func223.trans (congrArg some (by kernel_rfl))
 f21:=⟨Tryz.f244.name,by decide,Tryz.func244.trans (congrArg some (by kernel_rfl))⟩
 f22:=⟨Tryz.f245.name,by decide,Tryz.func245.trans (congrArg some (by kernel_rfl))⟩
 f23:=⟨Tryz.f246.name,by decide,Tryz.func246.trans (congrArg some (by kernel_rfl))⟩
 f24:=⟨Tryz.f247.name,by decide,Tryz.func247.trans (congrArg some (by kernel_rfl))⟩
 f25:=⟨Tryz.f248.name,by decide,Tryz.func248.trans (congrArg some (by kernel_rfl))⟩
 f26:=⟨Tryz.f249.name,by decide,Tryz.func249.trans (congrArg some (by kernel_rfl))⟩
 f27:=⟨Tryz.f250.name,by decide,Tryz.func250.trans (congrArg some (by kernel_rfl))⟩
 f28:=⟨Tryz.f251.name,by decide,Tryz.func251.trans (congrArg some (by kernel_rfl))⟩
 f29:=⟨Tryz.f252.name,by decide,Tryz.func252.trans (congrArg some (by kernel_rfl))⟩
 f31:=Tryz.func264.trans (congrArg some (by kernel_rfl))
 f32:=Tryz.func265.trans (congrArg some (by kernel_rfl))
 f36:=⟨Tryz.f283.name,by decide,Tryz.func283.trans (congrArg some (by kernel_rfl))⟩
 f37:=⟨Tryz.f284.name,by decide,Tryz.func284.trans (congrArg some (by kernel_rfl))⟩
 f38:=⟨Tryz.f285.name,by decide,Tryz.func285.trans (congrArg some (by kernel_rfl))⟩
 f39:=⟨Tryz.f164.name,by decide,Tryz.func164.trans (congrArg some (by kernel_rfl))⟩
 f41:=⟨Tryz.f302.name,by decide,Tryz.func302.trans (congrArg some (by kernel_rfl))⟩
 t0:=Tryz.underlying0
 a0:=Tryz.isAgg0
 z0:=Tryz.sizeOf0
 v0:=Tryz.zeroValue0
 t3:=Tryz.underlying3
 a3:=Tryz.isAgg3
 z3:=Tryz.sizeOf3
 v3:=Tryz.zeroValue3
 t4:=Tryz.underlying4
 a4:=Tryz.isAgg4
 z4:=Tryz.sizeOf4
 v4:=Tryz.zeroValue4
 t5:=Tryz.underlying5
 a5:=Tryz.isAgg5
 z5:=Tryz.sizeOf5
 v5:=Tryz.zeroValue5
 t9:=Tryz.underlying9
 a9:=Tryz.isAgg9
 z9:=Tryz.sizeOf9
 v9:=Tryz.zeroValue9
 t26:=Tryz.underlying146
 a26:=Tryz.isAgg146
 z26:=Tryz.sizeOf146
 v26:=Tryz.zeroValue146
 t27:=Tryz.underlying146
 a27:=Tryz.isAgg146
 z27:=Tryz.sizeOf146
 v27:=Tryz.zeroValue146
 t29:=Tryz.underlying9
 a29:=Tryz.isAgg9
 z29:=Tryz.sizeOf9
 v29:=Tryz.zeroValue9
 t32:=Tryz.underlying203
 a32:=Tryz.isAgg203
 z32:=Tryz.sizeOf203
 v32:=Tryz.zeroValue203
 t35:=Tryz.underlying246
 a35:=Tryz.isAgg246
 z35:=Tryz.sizeOf246
 v35:=Tryz.zeroValue246
 t36:=Tryz.underlying247
 a36:=Tryz.isAgg247
 z36:=Tryz.sizeOf247
 v36:=Tryz.zeroValue247
 t41:=Tryz.underlying251
 a41:=Tryz.isAgg251
 z41:=Tryz.sizeOf251
 v41:=Tryz.zeroValue251
 t44:=Tryz.underlying254
 a44:=Tryz.isAgg254
 z44:=Tryz.sizeOf254
 v44:=Tryz.zeroValue254
 t46:=Tryz.underlying225
 a46:=Tryz.isAgg225
 z46:=Tryz.sizeOf225
 v46:=Tryz.zeroValue225
 t53:=Tryz.underlying280
 a53:=Tryz.isAgg280
 z53:=Tryz.sizeOf280
 v53:=Tryz.zeroValue280
 t57:=Tryz.underlying284
 a57:=Tryz.isAgg284
 z57:=Tryz.sizeOf284
 v57:=Tryz.zeroValue284
 t63:=Tryz.underlying305
 a63:=Tryz.isAgg305
 z63:=Tryz.sizeOf305
 v63:=Tryz.zeroValue305
 t64:=Tryz.underlying306
 a64:=Tryz.isAgg306
 z64:=Tryz.sizeOf306
 v64:=Tryz.zeroValue306 }
theorem vf (m:Nat):AnyZ.SortsIn Tryz.prog Tryz.sortedZ_ren Fence.wide m:=
 ⟨λblk off cap ss W hH hblk hsz=>callsIn_wide.2 (AnyM.slices_Sort_string bY blk off cap ss W hH hblk hsz),
  λp cap W=>callsIn_wide.2 (AnyM.slices_Sort_string_none bY p cap W)⟩
theorem ve {H:Type}(Bm b nn:Nat)(D0:DataW H){R:Value->Option (DataW H×List MemPlace)}(w:World)(hBm:Bm<w.heap.size)
  (hm:w.cell? ⟨Bm,0,none⟩=some (.map (some b))) (hown:w.ownsMap Tryz.prog 9 R b nn D0) (hN:Maps.size D0<=10000):
  Calls Tryz.prog 107 #[.func (.func 157) #[] #[.pointer (some ⟨Bm,0,none⟩)]] w λe w'=>∃(v:Value) (ss:List (List UInt8)),e=.returned v/\ss.Perm (strKeys D0) /\
   w'.ownsRow w.heap.size 9 1 v ss.length ((ss.mergeSort (λx y=>decide (x<=y))).map encStr)/\Below w.heap.size w w':=
 (callsIn_wide.1 (AnyZ.sorted_in v8 Fence.wide 6 trivial trivial trivial trivial rfl (by omega) (vf _) (enters_of Tryz.func156 (by kernel_rfl) rfl) 157 _ trivial (enters_of Tryz.func157 (by kernel_rfl) rfl) _ _ (Nat.le_trans hN (by decide)) (by omega) w
  (AnyZ.keys_gives v6 Fence.wide _ trivial rfl (by omega) Bm b nn D0 w hBm hm hown))).mono λe w' ⟨v,ss,h1,h2,h3,_,h5⟩=>⟨v,ss,h1,h2,h3,h5⟩
end Go.Proofs
namespace Go.Ide
open Go.Proofs Go.RowKit Go.Sort
set_option maxRecDepth 20000
def Nv (ks:List (List UInt8)):List (List UInt8):=ks.mergeSort λx y=>decide (x<=y)
theorem XH (k:List UInt8)(hb:k.length<=maxLen):keyOf Tryz.prog 9 (encStr k)=some (.string k):=by
 simp[keyOf,mapKey,hb,ByteArray.size,encStr]
theorem dF {H:Type}{R:Value->Option (DataW H×List MemPlace)}{z:DataW H}(hR:∀v,R v=some (z,[]))(es:List MapEntry)(ks:List (List UInt8))(hk:es.map (·.key)=ks.map encStr)(hb:∀k∈ks,k.length<=maxLen):
  (strKeys (DataW.map ((es.map (WideElems.rg Tryz.prog 9 R)).foldr DataW.insert []))).Perm ks:=by
 show(((es.map (WideElems.rg Tryz.prog 9 R)).foldr DataW.insert []).map λp=>strOf p.1).Perm ks;refine((WideShapes.sorted_perm _).map _).trans ?_;rw[List.map_map]
 have:es.map ((λp:Lit×DataW H=>strOf p.1) ∘ WideElems.rg Tryz.prog 9 R)=ks:=by
  induction es generalizing ks with
  |nil=>
   cases ks with
   |nil=>rfl
   |cons a l=>simp at hk
  |cons e es ih=>
   cases ks with
   |nil=>simp at hk
   |cons k ks=>
    simp only[CJ,Eu]at hk;rw[CJ,ih ks hk.2 λk h=>hb k (Cq _ h)]
    congr 1
    have h1:=XH k (hb k Ce);rw[<-hk.1]at h1;show strOf ((WideElems.rd Tryz.prog 9 R e).getD _).1=k;unfold WideElems.rd;rw[h1,hR];rfl
 rw[this]
theorem Fc (l:Cw)(ks:List (List UInt8))(hks:l.map (·.1)=ks.map sb)(hl:l.length<=10000)(hb:∀k∈ks,k.length<=1000)(hnd:ks.Nodup)(kb g T:Nat)(H:Hp)(n:Nat):
  CW C0 107 [.clo (.func 157) [] [.optr kb g 1 0 0]] (⟨kb,g,T,1,[mapD l]⟩::H) n
   (λd H' n'=>d=.sl false 1 ((Nv ks).map λx=>str (sb x))/\H'=⟨kb,g,T,1,[mapD l]⟩::H/\n'=n+1):=by
 refine⟨by obtain⟨fn,a1,a2,a3,-⟩:=Ym;exact⟨fn,_,a1,a2,a3⟩,λF ρ w vs m fr gn hsz rep=>?_⟩;obtain⟨v0,rfl⟩:∃v0,vs = #[v0]:=by
  match vs,hsz with
  |⟨[a]⟩,_=>exact⟨a,rfl⟩
 have r0:AU ρ _ w (.clo _ [] [.optr kb g 1 0 0]) v0:=rep 0 _ rfl;cases r0 with
 |clo hf1 hc1 _ h2=>
  rename_i fs cs1 _;simp at hf1 hc1;subst hf1;obtain⟨c,rfl⟩:∃c,cs1 = #[c]:=by
   match cs1,hc1 with
   |⟨[a]⟩,_=>exact⟨a,rfl⟩
  have r1:AU ρ _ w (.optr kb g 1 0 0) c:=h2 0 _ rfl;cases r1 with
  |optr hr=>
   rename_i b;have hent:∃cs,w.heap[b]?=some (.cells cs T (0,0))/\C3 ρ (AM F.X ρ (⟨kb,g,T,1,[mapD l]⟩::H)) w ⟨kb,g,T,1,[mapD l]⟩ cs:=by
    rcases m.hok.ent _ Ce with⟨h,h2⟩|⟨b2,cs2,a1,a2,a3⟩
    ·exact AY (hr.symm.trans h2) (by simp)
    ·cases hr.symm.trans a1;exact⟨cs2,a2,a3⟩
   obtain⟨cs,hcb,hok⟩:=hent;have hlt:b<w.heap.size:=m.lt Ce hr;have hr0:=hok.rep 0 (mapD l) 0 (mapD l) rfl rfl;have h9:1<=cs.size:=by simpa using hok.len
   have hcs:0<cs.size:=h9;rw[Aw,Bd (by simpa using hcs)]at hr0;simp only[GZ,DM,H7]at hr0;obtain⟨v,hv⟩:∃v,cs[0]=v:=⟨_,rfl⟩
   rw[hv]at hr0;unfold mapD at hr0;cases hr0 with
   |mp hO hrl hb3 h1 h2 hBo hk hvv=>
    rename_i r clock es;rw[Ap]at h1;have hkey:es.toList.map (·.key)=ks.map encStr:=by
     apply OV;intro i;rw[BH,BH];have hli:=congrArg (λq=>q[i]?) hks;simp only[BH]at hli;rcases BI i l.length with hi|hi
     ·have hd:=hk i (.prim (.string l[i].1)) (by rw[BH,BF hi];rfl)
      rw[BF hi]at hli;obtain⟨kk,hkk,hkk2⟩:=Option.map_eq_some_iff.1 hli.symm;have hi2:i<es.size:=by omega
      rw[Aw,Bd hi2]at hd;rw[hkk,KN,Bd hi2];simp only[H8,BJ,H7]at hd⊢;generalize es[i].key=kv at hd;cases hd;have h8:sb kk=l[i].1:=hkk2;rw[<-h8]
     ·have h5:ks.length=l.length:=by have:=congrArg List.length hks;simpa using this.symm
      rw[Da (by simp;omega),Da (by omega)];rfl
    have hkn:(es.toList.map (·.key)).Nodup:=by
     rw[hkey];exact List.pairwise_map.2 (hnd.imp λh q=>h (encStr_inj q))
    have hbm:∀k∈ks,k.length<=maxLen:=λk h=>BO (hb k h) (by decide)
    let R:Value->Option (DataW Unit×List MemPlace):=λ_=>some (.nil,[])
    have hown:w.ownsMap Tryz.prog 9 R r es.size (.map ((es.toList.map (WideElems.rg Tryz.prog 9 R)).foldr DataW.insert [])):=by
     refine⟨es,clock,hb3,⟨BO (by omega:es.size<=10000) (by decide),⟨λx hx=>?_,hBo.nodup,hkn⟩,λx hx=>?_⟩,Ag _,rfl⟩
     ·obtain⟨j,hj⟩:=List.mem_iff_getElem?.1 hx
      exact hBo.1 j x (by simpa using hj)
     ·have:x.key∈es.toList.map (·.key):=List.mem_map_of_mem hx
      rw[hkey]at this;obtain⟨k,hk1,hk2⟩:=List.mem_map.1 this;have h1:=XH k (hbm k hk1);rw[hk2]at h1;exact⟨_,by unfold WideElems.rd;rw[h1];rfl⟩
    have hsk:=dF (H:=Unit) (R:=R) (z:=.nil) (λ_=>rfl) es.toList ks hkey hbm;have hcell:w.cell? ⟨b,0,none⟩=some (.map (some r)):=by
     unfold World.cell?;simp only[hcb];rw[Bd hcs,hv];rfl
    have hsize:Maps.size (DataW.map ((es.toList.map (WideElems.rg Tryz.prog 9 R)).foldr DataW.insert []))<=10000:=by
     rw[Maps.size_eq,(WideShapes.sorted_perm _).length_eq,Ap,HT];omega
    refine(ve b r es.size _ w hlt hcell hown hsize).mono ?_;rintro e w' ⟨v,ss,rfl,hp,hrow,hbw⟩;have hss:ss.mergeSort (λx y=>decide (x<=y))=Nv ks:=mergeSort_of_perm (hp.trans hsk);rw[hss]at hrow;have x:BN ρ (AM F.X ρ (⟨kb,g,T,1,[mapD l]⟩::H)) w ρ (AM F.X ρ (⟨kb,g,T,1,[mapD l]⟩::H)) w':=⟨hbw.size,λ_ _ _ h=>h,λb hb' hO=>⟨hO,hbw.block b hb'⟩,λb cs T fz hh=>⟨cs,_,by
     rw[hbw.block b (Array.getElem?_eq_some_iff.1 hh).1];exact hh,rfl⟩⟩
    refine⟨v,_,_,n+1,ρ,rfl,⟨rfl,rfl,rfl⟩,m.same x hbw.os hbw.tape hbw.output hbw.block,x,λa b h=>fr a b (by omega),λe he=>C6 (gn e he),?_⟩;obtain⟨K,hK⟩:∃K,Nv ks=K:=⟨_,rfl⟩
    rw[hK]at hrow⊢;obtain⟨hlen,⟨rfl,hz⟩|⟨gb,cap,cur,rfl,hbase,hgb,q1,q2,q3,q4⟩⟩:=hrow
    ·rw[hz,Ap]at hlen
     have:K=[]:=List.length_eq_zero_iff.1 (by omega)
     rw[this];exact .nil 1
    ·rw[Ap,D6]at hlen
     rw[D6]at q3 q4;have hat:∀j x,K[j]?=some x->cur[j]?=some (Value.string (sb x)):=λj x hx=>by
      have hj:j<K.length:=(List.getElem?_eq_some_iff.1 hx).1
      have:=congrArg (λq=>q[j]?) q4
      simp only[EP,BH,hx,H8]at this;rw[AF (by omega)]at this;simpa using this
     have hall:∀j,j<ss.length*1->∃x,cur[j]?=some (Value.string (sb x)):=λj hj=>by
      have:j<K.length:=by omega
      exact⟨_,hat j _ (BF this)⟩
     refine .sl (λj=>cur.getD j undef) (by rw[Ap,hlen]) q1 ?_ (Array.getElem?_eq_some_iff.1 hgb).1 ?_ ?_ ?_ ?_
     ·rintro(h|⟨e,he,h⟩)
      ·have:=m.xlt _ h;have:=m.size;omega
      ·have:=m.lt he h;omega
     ·intro i e h
      rw[BH]at h;obtain⟨x,-,rfl⟩:=Option.map_eq_some_iff.1 h;rfl
     ·intro j hj
      obtain⟨x,hx⟩:=hall j hj;unfold World.cell?;simp only[hgb,BQ];rw[hx,Aw,hx];rfl
     ·intro j hj
      obtain⟨x,hx⟩:=hall j hj;rw[Aw,hx];rfl
     ·intro i e j d h h2
      rw[BH]at h;obtain⟨x,hx,rfl⟩:=Option.map_eq_some_iff.1 h
      have:j=0:=by
       have:=(List.getElem?_eq_some_iff.1 h2).1
       exact Nat.lt_one_iff.1 this
      subst this;cases h2;show AU _ _ _ _ (cur.getD (i*1+0) undef);rw[D6,DM,Aw,hat i x hx];exact .prim _
end Go.Ide
namespace Go.Ide
open Go.Proofs Go.RowKit Go.Sort
set_option maxRecDepth 20000
set_option maxHeartbeats 4000000
def qv (q:Bb)(j:Nat):List UInt8×Rat:=q.getD j ([],0)
theorem Tk {q:Bb}{j:Nat}{p:List UInt8×Rat}(h:q[j]?=some p):qv q j=p:=by unfold qv;rw[FH,h];rfl
theorem MQ.len {B:Nat}:∀ {q:Bb} {m:Cw},MQ B q m->q.length=m.length
 | [],[],_=>rfl
 |_::_,_::_,⟨_,h⟩=>by simp[MQ.len h]
theorem MQ.at_ {B:Nat}:∀ {q:Bb} {m:Cw} (j:Nat) {e:ByteArray×D},MQ B q m->m[j]?=some e->∃(p:List UInt8×Rat) (y:GF),q[j]?=some p/\e=(sb p.1,y.D)/\FR p.2 y B
 | [],[],j,e,_,h=>by simp at h
 |p::q,e'::m,0,e,⟨⟨h1,y,h2,h3⟩,_⟩,h=>by
  simp at h;subst h;exact⟨p,y,rfl,by rw[<-h1,<-h2],h3⟩
 |_::q,_::m,j+1,e,⟨_,h4⟩,h=>by
  obtain⟨p,y,a,b,c⟩:=MQ.at_ j h4 (by simpa using h);exact⟨p,y,by simpa using a,b,c⟩
theorem Rn:∀(n:Nat) (l:List Nat),l.Nodup->(∀i∈l,i<n)->l.length<=n
 | 0,[],_,_=>Ag _
 | 0,a::l,_,h=>AY (h a (by simp)) (HP a)
 |n+1,l,hd,h=>by
  by_cases hn:n∈l
  ·have h1:=Rn n (l.erase n) (hd.erase n) λi hi=>by
    have h2:=h i (List.mem_of_mem_erase hi);have h3:i≠n:=(hd.mem_erase_iff.1 hi).1;omega
   rw[List.length_erase_of_mem hn]at h1;omega
  ·have h1:=Rn n l hd λi hi=>by
    have h2:=h i hi;have h3:i≠n:=λe=>hn (e ▸ hi)
    omega
   omega
def Dq (q:Bb):Bb:=q.mergeSort λa b=>!ltStr b.1 a.1
theorem IJ (q:Bb):(Dq q).Perm q:=List.mergeSort_perm _ _
theorem Px (q:Bb):(Dq q).Pairwise λa b=>ltStr b.1 a.1=false:=by
 have:=List.pairwise_mergeSort (le:=λa b:List UInt8×Rat=>!ltStr b.1 a.1) (λa b c h1 h2=>by simp only[Bf]at*;exact swo_ltStr.ntrans _ _ _ h2 h1) (λa b=>by
  cases h1:ltStr b.1 a.1 with
  |false=>rfl
  |true=>
   cases h2:ltStr a.1 b.1 with
   |false=>rfl
   |true=>have:=swo_ltStr.trans _ _ _ h1 h2;rw[swo_ltStr.irrefl]at this;cases this) q
 exact this.imp λh=>by simpa using h
theorem sr {q:Bb}(hn:(q.map (·.1)).Nodup){a b:List UInt8×Rat}(ha:a∈q)(hb:b∈q)(h:a.1=b.1):a=b:=by
 obtain⟨i,hi,rfl⟩:=List.mem_iff_getElem.1 ha;obtain⟨j,hj,rfl⟩:=List.mem_iff_getElem.1 hb
 have:i=j:=(List.getElem_inj (h₀:=by simpa using hi) (h₁:=by simpa using hj) hn).1 (by simpa using h)
 subst this;rfl
theorem VI {a b:List UInt8}(h1:ltStr a b=false)(h2:ltStr b a=false):a=b:=by
 simp only[ltStr,KM,List.not_lt]at h1 h2;exact List.le_antisymm h2 h1
theorem RZ {q l l':Bb}(hn:(q.map (·.1)).Nodup)(hp:l.Perm q)(hp':l'.Perm q)(hs:l.Pairwise λa b=>ltStr b.1 a.1=false)(hs':l'.Pairwise λa b=>ltStr b.1 a.1=false):l=l':=
 List.Perm.eq_of_pairwise (le:=λa b:List UInt8×Rat=>ltStr b.1 a.1=false) (λ_ _ ha hb h1 h2=>sr hn (hp.mem_iff.1 ha) (hp'.mem_iff.1 hb) (VI h2 h1)) hs hs' (hp.trans hp'.symm)
theorem qo (q:Bb)(dn:List Nat)(hd:dn.Nodup)(h1:∀i∈dn,i<q.length)(h2:∀i,i<q.length->i∈dn):(dn.map (qv q)).Perm q:=by
 have hp:dn.Perm (List.range q.length):=(List.perm_ext_iff_of_nodup hd List.nodup_range).2 λa=>by
  rw[List.mem_range];exact⟨h1 a,h2 a⟩
 have he:(List.range q.length).map (qv q)=q:=by
  apply List.ext_getElem (by simp);intro i h3 h4;rw[List.getElem_map,List.getElem_range];exact Tk (BF h4)
 have:=hp.map (qv q)
 rwa [he]at this
def HC (q:Bb):Bb:=if q.any (λp=>CL p.2)then[]else Dq q
def Gq (q:Bb):Nat:=if q.any (λp=>CL p.2)then 4 else 0
def I9 (q:Bb):D:=.tup [.sl false 2 ((HC q).map BM),i64 (Gq q:Nat)]
instance d2P (q:Bb):AA (I9 q):=by unfold I9;exact AH
theorem WQ (B:Nat)(hB9:B<100000)(q:Bb)(m:Cw)(hm:MQ B q m)(hl:q.length<=10000)(hnd:(q.map (·.1)).Nodup):AK C0 61 [mapD m] (I9 q):=by
 refine Ai.walk w1 aM rfl λF0=>?_
 obtain⟨ks,hks⟩:∃ks:List D,m.map (λp=>(.prim (.string p.1):D))=ks:=⟨_,rfl⟩
 obtain⟨vs,hvs⟩:∃vs:List D,m.map (·.2)=vs:=⟨_,rfl⟩
 have hml:=hm.len;have hkl:ks.length=m.length:=by rw[<-hks,Ap]
 unfold mapD;rw[hks,hvs];refine sZ 0 ?_;refine AD kB ?_;refine sZ 100 ?_;refine AD kB ?_;refine AC.seq ?_;refine AC.seq ?_;refine HL (by kernel_rfl) ?_;change BY _ _ _ _ _ ([0]++(1::[])) _ _;refine FG w1 200 [0] _ ?_;refine AD kB ?_;refine vC 201 (ND (w1.xt 102 _ rfl)).1 rfl rfl rfl rfl (UH F0) (λF1 o1 hto hO hI=>BY.nil ?_);refine As ?_;refine AC.block ?_;refine Fr (α:=List Nat×Obj×Nat×Nat) (λp=>⟨[(8,.optr 201 4 0 0 0),(4,DK 706 p.2.2.1 2 (p.1.map λj=>BM (qv q j)))],DB 706 p.2.2.1 93 2 (p.1.map λj=>BM (qv q j)),p.2.2.2⟩) (λp=>q.length-p.1.length)
  (λp F=>Cu C0 F0 F [⟨201,4,p.2.1⟩]/\MJ F p.2.1 ks vs p.1/\∀j∈p.1,CL (qv q j).2=false) ([],o1,0,_) ⟨hO,hI,by simp⟩ AI ?_
 clear hO hI hto;rintro⟨dn,o,g7,n1⟩ F ⟨hO,hI,hB⟩;dsimp only at hO hI hB⊢;refine AC.seq ?_;refine HL (by kernel_rfl) ?_;change BY _ _ _ _ _ [0,1] _ _;refine vB rfl rfl rfl rfl hO hI (λhall=>?_) (λj kd vd F2 o2 hjn hkd hvd hto hO2 hI2=>?_)
 ·change BY _ _ _ _ _ ([1]++[]) _ _
  refine FG w1 300 [1] [] ?_;refine AD kB ?_;refine BY.nil ?_;refine As ?_;refine AC.seq ?_;refine AL ?_;refine B7 ?_;have hq2:∀j,j<q.length->j∈dn:=λj hj=>hall j (by rw[hkl,<-hml];exact hj)
  have hdn:dn.Nodup/\∀i∈dn,i<q.length:=by
   obtain⟨bm,es,clock,since,c0,seen,-,-,-,z4,-,-,-,-,-,-,-,-,z8,z9⟩:=hI;exact⟨z8,λi hi=>by have:=z9 i hi;omega⟩
  have hpm:=qo q dn hdn.1 hdn.2 hq2;have hpl:(dn.map (qv q)).length=q.length:=hpm.length_eq;have hbf:q.any (λp=>CL p.2)=false:=by
   rw[List.any_eq_false];intro p hp;obtain⟨i,hpi⟩:=List.mem_iff_getElem?.1 hp;have hi:=(List.getElem?_eq_some_iff.1 hpi).1
   have:=hB i (hq2 i hi)
   rw[Tk hpi]at this;rw[this];exact Bool.false_ne_true
  have hmm:(dn.map λj=>BM (qv q j))=(dn.map (qv q)).map BM:=by rw[List.map_map];rfl
  rw[hmm];generalize hLL:dn.map (qv q)=LL at hpm hpl⊢;have hrs:I9 q=.tup [.sl false 2 ((Dq q).map BM),i64 0]:=by unfold I9 HC Gq;rw[hbf];rfl
  clear hmm hI hO hB hall hq2 hdn;rcases LL with _|⟨z,LL⟩
  ·have hqn:q=[]:=List.length_eq_zero_iff.1 (by rw[<-hpl];rfl)
   subst hqn;rw[show DK 706 g7 2 (List.map BM [])=CE from rfl,show DB 706 g7 93 2 (List.map BM [])=[]from rfl];have cS:=iM;refine AJ Ad kB cS AB AB AB AB AB ?_;exact⟨_,IP (.nil 2) (.refl _),AA.out,by rw[hrs,show Dq []=[]from List.mergeSort_nil];rfl⟩
  ·have cS:=λkb gg H n=>dE (z::LL) (by simp) (by rw[hpl];omega) kb gg H n
   rw[Bl]at cS;rw[show DK 706 g7 2 (List.map BM (z::LL))=.osl 706 g7 2 0 ((LL.map BM).length+1)from rfl,show DB 706 g7 93 2 (List.map BM (z::LL))=[⟨706,g7,93,2,(z::LL).map BM⟩]from rfl,Ap];refine AJ Ad kB cS AB AB AB AB AB ?_;refine Az.own _ (cS 706 g7 [] _) ?_;rintro d H' n' ⟨rfl,rfl,l',hp',hs',rfl⟩;have hpq:l'.Perm q:=hp'.trans hpm;have hl':=RZ hnd hpq (IJ q) hs' (Px q);have hl0:l'≠[]:=λq=>by rw[q]at hp';have:=hp'.length_eq;simp at this
   have hll:LL.length+1=l'.length:=by rw[hp'.length_eq];rfl
   rw[hll];rw[<-hl']at hrs;clear hl' cS hp' hs' hpm hll;refine AJ Ad kB AB AB AB AB AB AB ?_;rw[hrs];refine⟨_,IP (?_:Fz _ [] _ (.sl false 2 (l'.map BM))) (.refl _),AA.out,rfl⟩;rcases l' with _|⟨z',t'⟩
   ·exact AY rfl hl0
   ·have:=QR 706 g7 93 2 ((z'::t').map BM)
    rw[show DK 706 g7 2 ((z'::t').map BM)=.osl 706 g7 2 0 ((t'.map BM).length+1)from rfl,show DB 706 g7 93 2 ((z'::t').map BM)=[⟨706,g7,93,2,(z'::t').map BM⟩]from rfl,Ap]at this;exact this
 change BY _ _ _ _ _ ([1]++[]) _ _;refine FG w1 300 [1] [] ?_;refine AD kB ?_;refine BY.nil ?_;refine As ?_;refine AC.seq ?_;refine AL ?_;refine Aj ?_;obtain⟨p,hp⟩:∃p,m[j]?=some p:=by
  rw[<-hks,BH]at hkd;obtain⟨p,hp,-⟩:=Option.map_eq_some_iff.1 hkd;exact⟨p,hp⟩
 obtain⟨pq,y,hq,rfl,hy⟩:=hm.at_ j hp;have hkd2:kd=str (sb pq.1):=by
  rw[<-hks,BH,hp]at hkd;exact(FX hkd).symm
 have hvd2:vd=y.D:=by
  rw[<-hvs,BH,hp]at hvd;exact(FX hvd).symm
 subst hkd2 hvd2;have hqv:=Tk hq;refine AC.block ?_;refine AC.seq ?_;refine HL (by kernel_rfl) ?_;change BY _ _ _ _ _ (0::([1,2,3,4,5]++[])) _ _;refine uz (xo:=⟨201,4,o2⟩) rfl rfl rfl rfl hO2 Ce hI2 hkd hvd ?_;refine FG w1 400 [1,2,3,4,5] [] ?_;refine AD kB ?_;refine BY.nil ?_;have cL:=XJ hy (by omega);have cT:=Zt hy (by omega);obtain⟨bg,hbg⟩:∃b,CL pq.2=b:=⟨_,rfl⟩
 rw[hbg]at cL;refine As ?_;have hdl:dn.length+1<=q.length:=by
  have h1:∀i∈dn++[j],i<q.length:=by
   obtain⟨bm,es,clock,since,c0,seen,-,-,-,z4,-,-,-,-,-,-,-,-,-,z9⟩:=hI2;intro i hi
   have:=z9 i hi
   omega
  have h2:(dn++[j]).Nodup:=by
   obtain⟨bm,es,clock,since,c0,seen,-,-,-,-,-,-,-,-,-,-,-,-,z8,-⟩:=hI2;exact z8
  have:=Rn _ _ h2 h1
  simpa using this
 have hsn:(dn++[j]).map (λj=>BM (qv q j))=dn.map (λj=>BM (qv q j))++[.agg [str (sb pq.1),str (sb (Al pq.2))]]:=by rw[DE,CJ,List.map_nil,hqv];rfl
 have hTl:(dn.map λj=>BM (qv q j)).length=dn.length:=Ap ..;obtain⟨TL,hTL⟩:∃TL,dn.map (λj=>BM (qv q j))=TL:=⟨_,rfl⟩
 rw[hTL]at hsn hTl⊢;cases bg
 rotate_left
 ·have hrb:(D.tup [.sl false 2 [],i64 4])=I9 q:=by
   have:q.any (λp=>CL p.2)=true:=by
    rw[List.any_eq_true];exact⟨pq,A8 hq,hbg⟩
   unfold I9 HC Gq;rw[this];rfl
  rcases TL with _|⟨z,TL⟩
  ·dsimp only[Fg,Fh]
   refine AJ Ad kB cL AB AB AB AB AB ?_;exact⟨_,IP (.nil 2) (.refl _),AA.out,hrb⟩
  ·dsimp only[Eg,Eh]
   refine AJ Ad kB cL AB AB AB AB AB ?_;exact⟨_,IP (.nil 2) (.refl _),AA.out,hrb⟩
 have hB2:∀i∈dn++[j],CL (qv q i).2=false:=λi hi=>by
  rcases List.mem_append.1 hi with hi|hi
  ·exact hB i hi
  ·rw[List.mem_singleton]at hi;rw[hi,hqv];exact hbg
 rcases TL with _|⟨z,TL⟩
 ·dsimp only[Fg,Fh]
  refine AJ Ad kB cL cT AB AB AB AB ?_;exact⟨(dn++[j],o2,_,_),⟨hO2,hI2,hB2⟩,by dsimp only;rw[B3,Ga];omega,by(dsimp only;rw[hsn];exact AI)⟩
 ·dsimp only[Eg,Eh]
  have htk:List.take (TL.length+1) (z::TL)=z::TL:=by simp
  rw[Bl]at hTl;refine AJ Ad htk cL cT AB AB AB AB ?_;exact⟨(dn++[j],o2,_,_),⟨hO2,hI2,hB2⟩,by dsimp only;rw[B3,Ga];omega,by(dsimp only;rw[hsn,KZ];exact AI)⟩
abbrev Cg (q:Bb):List (List UInt8):=q.map (·.1)
theorem V1 (lot:List UInt8)(r:Rat):∀q:Bb,Cg (GB lot r q)=if lot∈Cg q then Cg q else Cg q++[lot]
 | []=>by simp[GB,Cg]
 |p::l=>by
  unfold GB
  by_cases h:lot=p.1
  ·rw[AF h]
   subst h;simp[Cg]
  ·rw[AE h]
   show p.1::Cg (GB lot r l)=if lot∈p.1::Cg l then p.1::Cg l else p.1::Cg l++[lot]
   rw[V1 lot r l]
   by_cases h2:lot∈Cg l
   ·rw[AF h2,AF (Cq _ h2)]
   ·rw[AE h2,AE (by
     intro q;rcases A7.1 q with q|q
     ·exact h q
     ·exact h2 q)];rfl
structure Gp (P:List UInt8->Prop)(n:Nat)(q:Bb):Prop where
 nd:(Cg q).Nodup
 all:∀k∈Cg q,P k
 len:q.length<=n
theorem Gp.set {P:List UInt8->Prop}{n:Nat}{q:Bb}(h:Gp P n q){lot:List UInt8}(hl:P lot)(r:Rat):Gp P (n+1) (GB lot r q):=by
 have hk:=V1 lot r q;have hlen:(GB lot r q).length=(Cg (GB lot r q)).length:=by simp[Cg]
 have hlen2:q.length=(Cg q).length:=by simp[Cg]
 by_cases hm:lot∈Cg q
 ·rw[AF hm]at hk
  exact⟨by rw[hk];exact h.nd,by rw[hk];exact h.all,by rw[hlen,hk,<-hlen2];have:=h.len;omega⟩
 ·rw[AE hm]at hk
  refine⟨?_,?_,?_⟩
  ·rw[hk,Dj]
   exact⟨h.nd,by simp,λa ha b hb=>by
    rw[List.mem_singleton]at hb;subst hb;exact λe=>hm (e ▸ ha)⟩
  ·rw[hk]
   intro k hk;rcases List.mem_append.1 hk with q|q
   ·exact h.all k q
   ·rw[List.mem_singleton]at q;rw[q];exact hl
  ·rw[hlen,hk,B3,<-hlen2]
   have:=h.len
   simp;omega
theorem Gp.mono {P:List UInt8->Prop}{n n':Nat}{q:Bb}(h:Gp P n q)(hn:n<=n'):Gp P n' q:=⟨h.nd,h.all,BO h.len hn⟩
theorem VG {P:List UInt8->Prop}{n:Nat}{q:Bb}(x:AG)(h:Gp P n q)(hp:∀s∈x.shs,P s.lot):∀j,j<=x.shs.length->Gp P (n+j) (GA x j q)
 | 0,_=>h
 |j+1,hj=>by
  obtain⟨s,hs⟩:∃s,x.shs[j]?=some s:=⟨_,BF hj⟩
  rw[M1 x j q hs];exact(VG x h hp j (by omega)).set (hp s (A8 hs)) _
theorem U3 {P:List UInt8->Prop}(l:List AG)(hp:∀x∈l,x.shs.length<=64/\∀s∈x.shs,P s.lot):∀i,i<=l.length->Gp P (64*i) (Bh (l.take i))
 | 0,_=>⟨by simp[Bh,Cg],by simp[Bh,Cg],by simp[Bh]⟩
 |i+1,hi=>by
  obtain⟨x,hx⟩:∃x,l[i]?=some x:=⟨_,BF hi⟩
  rw[O2 l i hx];have h1:=hp x (A8 hx);exact(VG x (U3 l hp i (by omega)) h1.2 _ (Ag _)).mono (by omega)
theorem Rc {P:List UInt8->Prop}{l:List AG}(hp:∀x∈l,x.shs.length<=64/\∀s∈x.shs,P s.lot):Gp P (64*l.length) (Bh l):=by
 have:=U3 l hp l.length (Ag _)
 rwa [DL]at this
theorem MQ.keys {B:Nat}:∀ {q:Bb} {m:Cw},MQ B q m->m.map (·.1)=(Cg q).map sb
 | [],[],_=>rfl
 |p::q,e::m,⟨⟨h1,_⟩,h4⟩=>by
  simp only[CJ,Cg];rw[h1]
  congr 1
  exact MQ.keys h4
theorem VF (s:ByteArray):∀m:Cw,HE s (m.map λp=>.prim (.string p.1)) (m.map (·.2))=some (HV s m)
 | []=>rfl
 |p::l=>by
  simp only[CJ,HE,HV];cases Bj s p.1 with
  |true=>rfl
  |false=>exact VF s l
theorem R6:∀ {q:Bb} {p:List UInt8×Rat},(Cg q).Nodup->p∈q->Fj p.1 q=some p.2
 |a::q,p,hn,hp=>by
  unfold Fj;have hn:(a.1::Cg q).Nodup:=hn;rw[List.nodup_cons]at hn;rcases A7.1 hp with rfl|hp
  ·rw[AF rfl]
  ·rw[AE λe=>hn.1 (by rw[<-e];exact List.mem_map_of_mem hp)]
   exact R6 hn.2 hp
theorem fH (q:Bb):Nv (Cg q)=(Dq q).map (·.1):=by
 unfold Nv;refine List.Perm.eq_of_pairwise (le:=λx y:List UInt8=>x<=y) (λ_ _ _ _ h1 h2=>List.le_antisymm h1 h2) ?_ ?_ ?_
 ·have:=List.pairwise_mergeSort (le:=λx y:List UInt8=>decide (x<=y)) (λa b c h1 h2=>by simp only[Gw]at*;exact List.le_trans h1 h2) (λa b=>by
   rcases List.le_total a b with h|h<;>simp[h]) (Cg q)
  exact this.imp λh=>by simpa using h
 ·rw[List.pairwise_map]
  exact(Px q).imp λh=>by simpa[ltStr]using h
 ·exact(List.mergeSort_perm _ _).trans ((IJ q).map _).symm
abbrev Jl:Dr:=[(8,[0,1,2,3,4,5,6,7,8,9,10,11,12],[13,14])]
open Go.Proofs Go.RowKit Go.Sort
set_option maxRecDepth 20000
set_option maxHeartbeats 4000000
theorem Y4 {H Hf:Hp}{K g T sz n:Nat}{l:List D}(h:Hp.get H K=some ⟨K,g,T,sz,l⟩)(hf:Hp.get Hf K=none)(hn:n=l.length):Fz H Hf (.osl K g sz 0 n) (.sl false sz l):=by
 subst hn;refine .osl (e:=⟨K,g,T,sz,l⟩) h hf rfl rfl (by simp) (by simp) (λj d d' h1 h2=>?_) λj d d' q c c' h1 h2 h3 h4=>?_
 ·rw[BQ]at h1;rw[h1]at h2;cases h2;rfl
 ·rw[BQ]at h1;rw[h1]at h2;cases h2;rw[h3]at h4;cases h4;exact Fz.refl _
def Fk (lot:List UInt8)(l:Bb):Nat:=(l.takeWhile λp=>ltStr p.1 lot).length
theorem j6 (lot:List UInt8)(l:Bb):Fk lot l<=l.length:=by
 unfold Fk
 have:=(List.takeWhile_sublist (l:=l) λp=>ltStr p.1 lot).length_le
 exact this
theorem O0 (lot:List UInt8)(p:List UInt8×Rat)(l:Bb):Fk lot (p::l)=if ltStr p.1 lot then Fk lot l+1 else 0:=by
 unfold Fk;rw[Ml];split<;>simp
theorem R7 {lot:List UInt8}:∀ {l:Bb} {i:Nat},(∀j p,j<i->l[j]?=some p->ltStr p.1 lot=true)->i<=l.length->(∀p,l[i]?=some p->ltStr p.1 lot=false)->Fk lot l=i
 | [],i,_,h2,_=>by simp at h2;subst h2;rfl
 |q::l,0,_,_,h3=>by
  rw[O0,AE (by rw[h3 q rfl];decide)]
 |q::l,i+1,h1,h2,h3=>by
  rw[O0,AF (h1 0 q (by omega) rfl)];rw[R7 (i:=i) (λj p hj hp=>h1 (j+1) p (by omega) (by simpa using hp)) (by simpa using h2) λp hp=>h3 p (by simpa using hp)]
def Db (lot:List UInt8)(r:Rat):Bb->Bb
 | []=>[(lot,r)]
 |p::l=>if ltStr p.1 lot then p::Db lot r l else if p.1=lot then(p.1,p.2+r)::l else(lot,r)::p::l
theorem W7 {lot:List UInt8}{r:Rat}:∀ {l:Bb} {p:List UInt8×Rat},l[Fk lot l]?=some p->p.1=lot->Db lot r l=l.set (Fk lot l) (p.1,p.2+r)
 | [],p,h,_=>by simp[Fk]at h
 |q::l,p,h,e=>by
  unfold Db;rw[O0]at h⊢;split at h
  ·rename_i h2
   rw[AF h2,AF h2,List.set_cons_succ,W7 (by simpa using h) e]
  ·rename_i h2
   rw[AE h2,AE h2];simp at h;subst h;rw[AF e];rfl
theorem W8 {lot:List UInt8}{r:Rat}:∀ {l:Bb},(∀p,l[Fk lot l]?=some p->p.1≠lot)->Db lot r l=l.take (Fk lot l)++(lot,r)::l.drop (Fk lot l)
 | [],_=>rfl
 |q::l,h=>by
  unfold Db;rw[O0]at h⊢;split at h
  ·rename_i h2
   rw[AF h2,AF h2,W8 (λp hp=>h p (by simpa using hp))];rfl
  ·rename_i h2
   rw[AE h2,AE h2,AE (h q rfl)];rfl
theorem jU (a b:List UInt8):I7 (sb a) (sb b)=ltStr a b:=by
 unfold I7 ltStr;rw[bytesLess_eq,V0,V0]
def Tx (E0 E4:Ar)(i:Nat):Option Ar:=match i with
 | 4=>some E0
 | 9=>some E4
 |_=>none
def ON (i:Nat):Option Nat:=match i with
 | 0=>some 4
 | 4=>some 9
 |_=>none
theorem jW {ops:Array Oper}{d0 d1 d2 d3 d4 d5 d6 d7 d8 d9 d10 d11 d12:D}{E0 E4 E9:Ar}(h1:DW ops 4 0)(h2:DW ops 9 4):
  L6 ops (LI ops [(0,d0,some E0),(1,d1,none),(2,d2,none),(3,d3,none),(4,d4,some E4),(5,d5,none),(6,d6,none),(7,d7,none),(8,d8,none),(9,d9,some E9),(10,d10,none),(11,d11,none),(12,d12,none)]) (Tx E0 E4) ON:=by
 constructor
 ·intro r hr e he
  simp only[LI,CJ,List.map_nil,A7,DD,or_false]at hr;rcases hr with rfl|rfl|rfl|rfl|rfl|rfl|rfl|rfl|rfl|rfl|rfl|rfl|rfl<;>dsimp only[Tx]at he<;>first
   |(cases he;done)
   |(cases he;exact⟨⟨0,ops.getD 0 default,d0,some _⟩,by simp[LI],rfl,rfl⟩)
   |(cases he;exact⟨⟨4,ops.getD 4 default,d4,some _⟩,by simp[LI],rfl,rfl⟩)
 ·intro r hr j hj
  simp only[LI,CJ,List.map_nil,A7,DD,or_false]at hr;rcases hr with rfl|rfl|rfl|rfl|rfl|rfl|rfl|rfl|rfl|rfl|rfl|rfl|rfl<;>dsimp only[ON]at hj<;>first
   |(cases hj;done)
   |(cases hj;exact⟨by simp[LI],rfl,by assumption⟩)
 ·intro r hr r' hr' j hj hj'
  have key:∀i k:Nat,ON i=some k->(i=0/\k=4)\/(i=4/\k=9):=λi k h=>by
   unfold ON at h;split at h<;>first|(cases h;simp;done)|cases h
  rcases key _ _ hj with⟨a,b⟩|⟨a,b⟩<;>rcases key _ _ hj' with⟨c,d⟩|⟨c,d⟩<;>omega
theorem uW (l:Bb)(lot:List UInt8)(r:Rat)(k:Nat)(hl:l.length<=10000)(hk:∀p∈l,rk p.2 k)(hr:rk r k)(hk2:k+k<=10000):AK C0 136 [.sl false 2 (l.map BM),str (sb lot),rR r] (.sl false 2 ((Db lot r l).map BM)):=by
 refine Ai.walk w1 oA rfl λF=>?_
 have el:(((l.map BM).length:Nat):Int)=(l.length:Int):=by rw[Ap]
 obtain⟨T,hT⟩:∃T,l.map BM=T:=⟨_,rfl⟩
 have pT:AA (.sl false 2 T):=by rw[<-hT];exact AH
 have hTl:T.length=l.length:=by rw[<-hT,Ap]
 have hTat:∀(i:Nat) (p:List UInt8×Rat),l[i]?=some p->T[i]?=some (D.agg [str (sb p.1),str (sb (Al p.2))]):=λi p h=>by rw[<-hT,BH,h];rfl
 rw[hT]at el⊢;unfold rR;refine sZ 0 ?_;refine AD kB ?_;refine sZ 100 ?_;refine AD kB ?_;refine JM (λn=>⟨[(0,.sl false 2 T),(1,str (sb lot)),(2,str (sb (Al r))),(7,i64 (Fk lot l:Nat))],[],n⟩) ?_ λn=>?_
 ·refine AC.block ?_
  refine Fr (α:=Nat×Nat) (λp=>⟨[(0,.sl false 2 T),(1,str (sb lot)),(2,str (sb (Al r))),(7,i64 (p.1:Nat))],[],p.2⟩) (λp=>l.length-p.1) (λp F1=>F1=F/\p.1<=l.length/\∀j q,j<p.1->l[j]?=some q->ltStr q.1 lot=true) (0,_) ⟨rfl,BR _,λj q h=>AY h (HP j)⟩ AI ?_;rintro⟨i,m⟩ F1 ⟨rfl,hi,ha⟩;dsimp only at hi ha⊢;rcases BI i l.length with h2|h2
  rotate_left
  ·have e1:=Ca h2
   have:i=l.length:=by omega
   subst this;have hat:Fk lot l=l.length:=R7 ha (Ag _) λp hp=>by simp at hp
   rw[hat];refine AJ Jl (Ac e1 el) AB AB AB AB AB AB ?_;exact⟨trivial,_,AI⟩
  have e1:=CX h2;have wi:=Cf (i:=i) (by omega);obtain⟨q,hq⟩:=CQ h2;have hm:=hTat i q hq;have eS:=jU q.1 lot;obtain⟨bS,hbS⟩:∃b,ltStr q.1 lot=b:=⟨_,rfl⟩
  rw[hbS]at eS;cases bS
  ·have hat:Fk lot l=i:=R7 ha (IB h2) λp hp=>by
    rw[hq]at hp;cases hp;exact hbS
   rw[hat];refine AJ Jl (BV e1 el eS kN) hm AB AB AB AB AB ?_;exact⟨trivial,_,AI⟩
  ·refine AJ Jl (Ck e1 el eS wi kN) hm AB AB AB AB AB ?_
   exact⟨(i+1,_),⟨trivial,h2,λj z hj hz=>by
    rcases Nat.lt_succ_iff_lt_or_eq.1 hj with g|g
    ·exact ha j z g hz
    ·rw[g,hq]at hz;cases hz;exact hbS⟩,by dsimp only;omega,AI⟩
 obtain⟨A,hA⟩:∃A,Fk lot l=A:=⟨_,rfl⟩
 have hAl:=j6 lot l;rw[hA]at hAl⊢
 by_cases hq:∃q,l[A]?=some q/\q.1=lot
 ·obtain⟨q,hq,hql⟩:=hq
  have hAlt:A<l.length:=(List.getElem?_eq_some_iff.1 hq).1;have e1:=CX hAlt;have hm:=hTat A q hq;have eE:Bj (sb q.1) (sb lot)=true:=by rw[EN];exact AX hql
  have cA:AK C0 167 [str (sb (Al q.2)),str (sb (Al r))] (str (sb (Al (q.2+r)))):=T6 q.2 r k k (hk q (A8 hq)) hr hk2;have hres:(Db lot r l).map BM=T.set A (.agg [str (sb q.1),str (sb (Al (q.2+r)))]):=by
   rw[W7 (by rw[hA];exact hq) hql,hA,List.map_set,hT];rfl
  rw[hres];refine AC.seq ?_;refine AC.seq ?_;refine AJ Jl (BV e1 el eE kN) hm AB AB AB AB AB ?_;rw[show List.take 0 []++T=T from rfl,BQ,BQ];refine AD hm ?_;refine cI cA ?_;refine AD (At kN BQ hm) ?_;have pR:Bv (.sl false 2 ((Db lot r l).map BM)):=AA.out;rw[hres]at pR;obtain⟨T2,hT2⟩:∃T2,T.set A (.agg [str (sb q.1),str (sb (Al (q.2+r)))])=T2:=⟨_,rfl⟩
  have hT2l:T.length=T2.length:=by rw[<-hT2,Dc]
  rw[hT2]at pR;rw[hT2,hT2l];refine AJ Jl kB AB AB AB AB AB AB ?_;exact⟨_,Y4 rfl rfl rfl,pR,rfl⟩
 refine JM (λn=>⟨[(0,.sl false 2 T),(1,str (sb lot)),(2,str (sb (Al r))),(7,i64 (A:Nat))],[],n⟩) ?_ λn2=>?_
 ·rcases BI A l.length with h2|h2
  ·have e1:=CX h2
   obtain⟨q,hq2⟩:=CQ h2;have hm:=hTat A q hq2;have eE:Bj (sb q.1) (sb lot)=false:=by
    rw[EN];exact Af λh=>hq ⟨q,hq2,h⟩
   refine AJ Jl (BV e1 el eE kN) hm AB AB AB AB AB ?_;exact⟨trivial,_,AI⟩
  ·have e1:=Ca h2
   refine AJ Jl (Ac e1 el) AB AB AB AB AB AB ?_;exact⟨trivial,_,AI⟩
 have hres:(Db lot r l).map BM=T.take A++[.agg [str (sb lot),str (sb (Al r))]]++T.drop A:=by
  rw[W8 (λp hp h=>hq ⟨p,by rw[<-hA];exact hp,h⟩),hA,<-hT];simp[BM]
 have pR:Bv (.sl false 2 ((Db lot r l).map BM)):=AA.out;rw[hres]at pR⊢;have hAT:A<=T.length:=by omega
 refine AC.seq ?_;have hA0:(0:Int)<=(A:Nat):=by omega
 have hA1:((A:Nat):Int)<=(T.length:Nat):=by omega
 have hTAl:((T.drop 0).take (((A:Nat):Int).toNat-0)).length<=10000:=by
  rw[BX]
  have:=DY (i:=0) (l:=T)
  omega
 refine vJ w1 800 [0,1,2,3,4,5,6,7,8,9,10,11,12] [13,14] (use:=ON) (con:=Tx ⟨800,n2+0,82,2,[]⟩ ⟨804,n2+4,82,2,[].take 0++((T.drop 0).take (((A:Nat):Int).toNat-0))⟩)
  (rs:=LI _ [(0,.osl 800 (n2+0) 2 0 0,some ⟨800,n2+0,82,2,[]⟩),(1,.sl false 2 T,none),(2,i64 (A:Nat),none),(3,.sl false 2 ((T.drop 0).take (((A:Nat):Int).toNat-0)),none),(4,.osl 804 (n2+4) 2 0 (0+((T.drop 0).take (((A:Nat):Int).toNat-0)).length),some ⟨804,n2+4,82,2,[].take 0++((T.drop 0).take (((A:Nat):Int).toNat-0))⟩),(5,str (sb lot),none),(6,str (sb (Al r)),none),(7,(.agg [str (sb lot),str (sb (Al r))]),none),(8,.sl true 2 [(.agg [str (sb lot),str (sb (Al r))])],none),
   (9,.osl 809 (n2+9) 2 0 (0+((T.drop 0).take (((A:Nat):Int).toNat-0)).length+1),some ⟨809,n2+9,82,2,([].take 0++((T.drop 0).take (((A:Nat):Int).toNat-0))).take (0+((T.drop 0).take (((A:Nat):Int).toNat-0)).length)++[(.agg [str (sb lot),str (sb (Al r))])]⟩),(10,.sl false 2 T,none),(11,i64 (A:Nat),none),(12,.sl false 2 ((T.drop ((A:Nat):Int).toNat).take (T.length-((A:Nat):Int).toNat)),none)])
  (N:=[⟨809,n2+9,82,2,([].take 0++((T.drop 0).take (((A:Nat):Int).toNat-0))).take (0+((T.drop 0).take (((A:Nat):Int).toNat-0)).length)++[(.agg [str (sb lot),str (sb (Al r))])]⟩])
  (by kernel_rfl) rfl (jW (WW (l:=[0,1,2,3,4,5,6,7,8,9,10,11,12]) (by kernel_rfl)) (WW (l:=[0,1,2,3,4,5,6,7,8,9,10,11,12]) (by kernel_rfl))) (N7.at ?_) (List.Perm.refl _) ?_
 ·refine And.intro (And.intro rfl (Or.inl (And.intro rfl (Bu.l' 800 w1.tt rfl rfl AB)))) ?_
  refine And.intro (And.intro rfl (Or.inl (And.intro rfl (Bu.p w1.tt rfl rfl AB)))) ?_;refine And.intro (And.intro rfl (Or.inl (And.intro rfl (Bu.p w1.tt rfl rfl AB)))) ?_;refine And.intro (And.intro rfl (Or.inl (And.intro rfl (Bu.p w1.tt rfl rfl ⟨⟨hA0,hA1⟩,rfl⟩)))) ?_;refine And.intro (And.intro rfl (Or.inr ⟨_,_,rfl,rfl,NP.app 804 w1.tt rfl rfl ⟨rfl,rfl,rfl,rfl,rfl,Ag _,by show(0+((T.drop 0).take (((A:Nat):Int).toNat-0)).length)*32<=140737488355328;omega,by decide,by decide⟩⟩)) ?_;refine And.intro (And.intro rfl (Or.inl (And.intro rfl (Bu.p w1.tt rfl rfl AB)))) ?_;refine And.intro (And.intro rfl (Or.inl (And.intro rfl (Bu.p w1.tt rfl rfl AB)))) ?_;refine And.intro (And.intro rfl (Or.inl (And.intro rfl (Bu.p w1.tt rfl rfl (by exact B4))))) ?_;refine And.intro (And.intro rfl (Or.inl (And.intro rfl (Bu.l' 808 w1.tt rfl rfl (by exact B4))))) ?_;refine And.intro (And.intro rfl (Or.inr ⟨_,_,rfl,rfl,NP.app 809 w1.tt rfl rfl ⟨rfl,rfl,rfl,rfl,rfl,by show 0+((T.drop 0).take (((A:Nat):Int).toNat-0)).length<=([]++((T.drop 0).take (((A:Nat):Int).toNat-0))).length;rw[FK];omega,by show(0+((T.drop 0).take (((A:Nat):Int).toNat-0)).length+1)*32<=140737488355328;omega,by decide,by decide⟩⟩)) ?_;refine And.intro (And.intro rfl (Or.inl (And.intro rfl (Bu.p w1.tt rfl rfl AB)))) ?_;refine And.intro (And.intro rfl (Or.inl (And.intro rfl (Bu.p w1.tt rfl rfl AB)))) ?_;refine And.intro (And.intro rfl (Or.inl (And.intro rfl (Bu.p w1.tt rfl rfl ⟨⟨hA0,hA1⟩,rfl⟩)))) ?_;exact AB
 change Ci _ _ _ _ _ ⟨(64,.sl false 2 ((T.drop ((A:Nat):Int).toNat).take (T.length-((A:Nat):Int).toNat)))::(63,i64 (A:Nat))::(62,.sl false 2 T)::(61,.osl 809 (n2+9) 2 0 (0+((T.drop 0).take (((A:Nat):Int).toNat-0)).length+1))::(60,.sl true 2 [(.agg [str (sb lot),str (sb (Al r))])])::(59,(.agg [str (sb lot),str (sb (Al r))]))::(58,str (sb (Al r)))::(57,str (sb lot))::(56,.osl 804 (n2+4) 2 0 (0+((T.drop 0).take (((A:Nat):Int).toNat-0)).length))::(55,.sl false 2 ((T.drop 0).take (((A:Nat):Int).toNat-0)))::(54,i64 (A:Nat))::(53,.sl false 2 T)::(52,.osl 800 (n2+0) 2 0 0)::_,[⟨809,n2+9,82,2,([].take 0++((T.drop 0).take (((A:Nat):Int).toNat-0))).take (0+((T.drop 0).take (((A:Nat):Int).toNat-0)).length)++[(.agg [str (sb lot),str (sb (Al r))])]⟩],_⟩ _ _;have q1:((T.drop 0).take (((A:Nat):Int).toNat-0))=T.take A:=by simp
 have q2:((T.drop ((A:Nat):Int).toNat).take (T.length-((A:Nat):Int).toNat))=T.drop A:=by
  rw[Q8,B1];rw[DY];omega
 rw[q1,q2];obtain⟨P,hP⟩:∃P,T.take A=P:=⟨_,rfl⟩
 obtain⟨S,hS⟩:∃S,T.drop A=S:=⟨_,rfl⟩
 have hPl:P.length<=10000:=by rw[<-hP,BX];omega
 have hSl:S.length<=10000:=by rw[<-hS,DY];omega
 have pS:AA (.sl false 2 S):=by
  rw[<-hS,<-hT,<-List.map_drop];exact AH
 rw[hP,hS]at pR⊢;have q3:([].take 0++P).take (0+P.length)=P:=by simp
 rw[q3,BQ];have q5:P.length+1<=(P++[(D.agg [str (sb lot),str (sb (Al r))])]).length:=by simp
 have q4:(P++[(D.agg [str (sb lot),str (sb (Al r))])]).take (P.length+1)=P++[(D.agg [str (sb lot),str (sb (Al r))])]:=by rw[B1];simp
 refine AJ Jl kB AB AB AB AB AB AB ?_;rw[q4];refine⟨_,Y4 rfl rfl ?_,pR,rfl⟩;rw[B3,B3];rfl
abbrev P1:Dr:=[(8,[0,1,2,3,4,5,6,7,8,9,10,11,12,13,14,15,16,17,18,19,20,21,22,23,24,25],[26,27])]
open Go.Proofs Go.RowKit Go.Sort
set_option maxRecDepth 20000
set_option maxHeartbeats 4000000
theorem Sg {lot:List UInt8}{r:Rat}{k:Nat}(hr:rk r 4):∀ {l:Bb},(∀p∈l,rk p.2 k)->∀p∈Db lot r l,rk p.2 (k+5)
 | [],_,p,hp=>by
  unfold Db at hp;rw[List.mem_singleton]at hp;rw[hp];exact hr.mono (by omega)
 |a::l,h,p,hp=>by
  unfold Db at hp;split at hp
  ·rcases A7.1 hp with rfl|hp
   ·exact(h p Ce).mono (by omega)
   ·exact Sg hr (λq hq=>h q (Cq _ hq)) p hp
  ·split at hp
   ·rcases A7.1 hp with rfl|hp
    ·exact(TJ (h a Ce) hr).mono (by omega)
    ·exact(h p (Cq _ hp)).mono (by omega)
   ·rcases A7.1 hp with rfl|hp
    ·exact hr.mono (by omega)
    ·exact(h p hp).mono (by omega)
theorem Wm {lot:List UInt8}{r:Rat}:∀ {l:Bb},(Db lot r l).length<=l.length+1
 | []=>by simp[Db]
 |a::l=>by
  unfold Db;split
  ·simp only[Bl]
   have:=Wm (lot:=lot) (r:=r) (l:=l)
   omega
  ·split<;>simp
def HI (x:AG)(n:Nat)(q:Bb):Bb:=(x.shs.take n).foldl (λacc s=>Db s.lot (CA s.part*(x.mass:Rat)) acc) q
def FA (l:List AG):Bb:=l.foldl (λacc x=>HI x x.shs.length acc) []
theorem R2 (x:AG)(n:Nat)(q:Bb){s:Au}(h:x.shs[n]?=some s):HI x (n+1) q=Db s.lot (CA s.part*(x.mass:Rat)) (HI x n q):=by
 unfold HI;rw[Dv,h,List.foldl_append];rfl
theorem Re (l:List AG)(n:Nat){x:AG}(h:l[n]?=some x):FA (l.take (n+1))=HI x x.shs.length (FA (l.take n)):=by
 unfold FA;rw[Dv,h,List.foldl_append];rfl
def AG.okR (x:AG):Prop:=x.shs.length<=15/\1<=x.mass/\x.mass<=999999999/\∀s∈x.shs,s.ok
theorem kg {s:Au}(h:s.ok):str (sb s.part)=rR (CA s.part):=by
 unfold rR;rw[(Ka h.2.2).2.2.1]
theorem Nc {z:Int}(h0:1<=z)(h1:z<=999999999):rk (z:Rat) 1:=(NZ (z:=z) (by omega)).rk
theorem mP (n:Nat)(hn:n<1000000000):AK C0 127 [i64 (n:Int)] (rZ (n:Int)):=by
 refine Ai.walk w1 Yv rfl λF=>?_
 have q1:decide ((n:Int)<0)=false:=Af (by omega);have q2:((n:Int)).tmod 1000000000=(n:Int):=Int.tmod_eq_of_lt (by omega) (by omega);have q3:((n:Int)).tdiv 1000000000=0:=Int.tdiv_eq_zero_of_lt (by omega) (by omega);have q4:IntKind.i64.wrap 0=0:=rfl;have q5:IntKind.i64.wrap (n:Int)=(n:Int):=wI (by omega) (by omega);have q6:((0:Int) != 0)=false:=rfl;have c0:=Pc false [] (λa h=>by cases h) (by decide);have e0:rZ (sg false (AN []))=rZ 0:=rfl;rw[e0]at c0;have cn:n≠0->AK C0 177 [Aq false,rL [n]] (rZ (n:Int)):=λh=>by
  have:=Pc false [n] (λa h=>by rw[List.mem_singleton.1 h];exact hn) (by simp)
  have e:AN [n]=n:=by unfold AN AN;omega
  rw[e]at this;exact this
 rcases Nat.decEq n 0 with h0|h0
 rotate_left
 ·subst h0
  have q7:(((0:Nat):Int) != 0)=false:=rfl;refine AJ Ad q1 AB AB AB AB AB AB ?_;refine AC.loop (α:=Nat) (λp=>⟨[(0,i64 ((0:Nat):Int)),(2,.optr 0 0 2 0 0),(3,CE),(4,Aq false)],[⟨0,0,165,2,[.agg [Aq false,CE]]⟩],p⟩) (λ_=>0) (λ_=>True) _ AB AI ?_;intro m F _;refine AJ Ad q7 AB AB AB AB AB AB ?_;refine Az.own _ (KJ [⟨0,0,165,2,[.agg [Aq false,CE]]⟩] c0 (.keep .nil) ⟨.refl _,.nil 1,trivial⟩ AH) ?_;rintro d H' n' ⟨rfl,rfl,rfl⟩;refine AJ Ad kB AB AB AB AB AB AB ?_;exact AO rfl AA.out
 have cn:=cn h0;have q7:=Eo h0;refine AJ Ad q1 AB AB AB AB AB AB ?_;refine AC.loop (α:=Bool×Nat×Nat) (λp=>⟨[(0,if p.1 then i64 0 else i64 (n:Int)),(2,.optr 0 0 2 0 0),(3,if p.1 then .osl 703 p.2.1 1 0 1 else CE),(4,Aq false)],(if p.1 then[⟨703,p.2.1,3,1,[i64 (n:Int)]⟩]else[])++[⟨0,0,165,2,[.agg [Aq false,CE]]⟩],p.2.2⟩) (λp=>if p.1 then 0 else 1) (λ_=>True) (false,0,_) AB AI ?_;rintro⟨t,g,m⟩ F -;cases t
 ·dsimp only[Bool.false_eq_true,if_false,List.nil_append]
  refine AJ Ad (Ex q7 q1 q2 q3 q4 q5) AB AB AB AB AB AB ?_;exact⟨(true,_,_),trivial,Nat.zero_lt_one,AI⟩
 ·dsimp only[if_true,List.cons_append,List.nil_append]
  refine AJ Ad q6 AB AB AB AB AB AB ?_;refine Az.own _ (KJ [⟨0,0,165,2,[.agg [Aq false,CE]]⟩] cn (.drop (.keep .nil)) ⟨.refl _,SL rfl,trivial⟩ AH) ?_;rintro d H' n' ⟨rfl,rfl,rfl⟩;refine AJ Ad kB AB AB AB AB AB AB ?_;exact AO rfl AA.out
theorem S9 (z:Int)(h0:0<=z)(h1:z<1000000000):AK C0 70 [i64 z] (rR (z:Rat)):=by
 obtain⟨n,rfl⟩:∃n:Nat,z=(n:Int):=⟨z.toNat,by omega⟩
 refine Ai.walk w1 sN rfl λF=>?_
 have c1:=mP n (by omega);have hr:Fo (n:Int):=by
  unfold Fo;rw[Dh];exact DF (Je (k:=1) (DF (show n<=999999999 by omega) (by decide +kernel))) (by decide)
 have c2:=TU (n:Int) hr;have e:str (sb (Lib.itoa (n:Int)))=rR ((n:Int):Rat):=by unfold rR;rw[Jp]
 rw[e]at c2;unfold rZ at c1 c2;refine AJ Ad kB c1 c2 AB AB AB AB ?_;exact AO rfl AA.out
theorem ah (b:Bool)(l:List AG)(hl:l.length<=8)(hx:∀x∈l,x.okR):AK C0 86 [A0 b l] (.sl false 2 ((FA l).map BM)):=by
 refine Ai.walk w1 sW rfl λF=>?_
 have el:(((l.map AG.D).length:Nat):Int)=(l.length:Int):=by rw[Ap]
 refine sZ 0 ?_;refine AD kB ?_;refine sZ 100 ?_;refine AD kB ?_;refine AC.seq ?_;refine sZ 200 ?_;refine AD kB ?_;refine AC.block ?_;refine AC.loop (α:=Nat×Nat) (λp=>⟨[(0,A0 b l),(3,.sl false 2 ((FA (l.take p.1)).map BM)),(4,i64 (p.1:Int))],[],p.2⟩) (λp=>l.length-p.1)
  (λp=>p.1<=l.length/\(∀z∈FA (l.take p.1),rk z.2 (75*p.1))/\(FA (l.take p.1)).length<=15*p.1) (0,_) ⟨BR _,λz h=>by simp[FA]at h,by simp[FA]⟩ (AI (b:=⟨.refl _,.nil 2,.refl _,trivial⟩)) ?_
 rintro⟨i,n1⟩ F ⟨hi,hk,hlen⟩;dsimp only at hi hk hlen⊢;rcases BI i l.length with h2|h2
 rotate_left
 ·have e1:=Ca h2
  have:i=l.length:=by omega
  subst this;rw[DL];refine AJ P1 (Ac e1 el) AB AB AB AB AB AB ?_;exact AO rfl AA.out
 have e1:=CX h2;have wi:=Cf (i:=i) (by omega);obtain⟨x,hxi⟩:=CQ h2;obtain⟨x1,x2,x3,x4⟩:=hx x (A8 hxi);have hm:(l.map AG.D)[i]?=some (.agg [str (sb x.grain),i64 x.mass,.sl false 2 (x.shs.map Au.D)]):=by rw[BH,hxi];rfl
 have es:(((x.shs.map Au.D).length:Nat):Int)=(x.shs.length:Int):=by rw[Ap]
 have hsn:=Re l i hxi;obtain⟨Q,hQ⟩:∃Q,FA (l.take i)=Q:=⟨_,rfl⟩
 rw[hQ]at hk hlen hsn⊢;have cF:=S9 x.mass (by omega) (by omega);refine AJ P1 (Ac e1 el) AB AB AB AB AB AB ?_;refine AC.loop (α:=Nat×Nat) (λp=>⟨[(0,A0 b l),(3,.sl false 2 ((HI x p.1 Q).map BM)),(4,i64 (i:Int)),(5,i64 (p.1:Int))],[],p.2⟩) (λp=>x.shs.length-p.1)
  (λp=>p.1<=x.shs.length/\(∀z∈HI x p.1 Q,rk z.2 (75*i+5*p.1))/\(HI x p.1 Q).length<=15*i+p.1) (0,_) ⟨BR _,hk,hlen⟩ AI ?_
 rintro⟨j,n2⟩ F ⟨hj,hk2,hlen2⟩;dsimp only at hj hk2 hlen2⊢;rcases BI j x.shs.length with h3|h3
 rotate_left
 ·have e2:=Ca h3
  have:j=x.shs.length:=by omega
  subst this;rw[<-hsn]at hk2 hlen2⊢;refine AJ P1 (BV e2 es wi kN) hm AB AB AB AB AB ?_;exact⟨(i+1,_),⟨h2,λz hz=>(hk2 z hz).mono (by dsimp only;omega),by dsimp only;omega⟩,by dsimp only;omega,AI⟩
 have e2:=CX h3;have wj:=Cf (i:=j) (by omega);obtain⟨s,hsj⟩:=CQ h3;have hms:(x.shs.map Au.D)[j]?=some (.agg [str (sb s.lot),str (sb s.part)]):=by rw[BH,hsj];rfl
 have hso:=x4 s (A8 hsj);have hsn2:=R2 x j Q hsj;have cM:=UA (CA s.part) ((x.mass:Int):Rat) 3 1 (Og hso.2.2 hso.2.1) (Nc x2 x3) (by decide);rw[<-kg hso]at cM;have hr4:rk (CA s.part*((x.mass:Int):Rat)) 4:=Nk (Og hso.2.2 hso.2.1) (Nc x2 x3);obtain⟨r,hr⟩:∃r,CA s.part*((x.mass:Int):Rat)=r:=⟨_,rfl⟩
 rw[hr]at cM hr4 hsn2;obtain⟨Q2,hQ2⟩:∃Q2,HI x j Q=Q2:=⟨_,rfl⟩
 rw[hQ2]at hk2 hlen2 hsn2⊢;have cP:=uW Q2 s.lot r (75*i+5*j+4) (by omega) (λp hp=>(hk2 p hp).mono (by omega)) (hr4.mono (by omega)) (by omega);have hk3:=Sg (lot:=s.lot) hr4 hk2;have hl3:=Wm (lot:=s.lot) (r:=r) (l:=Q2);rw[<-hsn2]at cP hk3 hl3;obtain⟨q2,hq2⟩:∃d,Q2.map BM=d:=⟨_,rfl⟩
 have pq2:AA (.sl false 2 q2):=by rw[<-hq2];exact AH
 rw[hq2]at cP⊢;obtain⟨rd,hrd⟩:∃d,rR r=d:=⟨_,rfl⟩
 have prd:AA rd:=by rw[<-hrd];exact AH
 obtain⟨md,hmd⟩:∃d,rR ((x.mass:Int):Rat)=d:=⟨_,rfl⟩
 have pmd:AA md:=by rw[<-hmd];exact AH
 rw[hrd]at cP cM;rw[hmd]at cF cM;refine AJ P1 (BV e2 es wj kN) hm hms cF cM cP AB ?_;exact⟨(j+1,_),⟨h3,λz hz=>(hk3 z hz).mono (by dsimp only;omega),by dsimp only;omega⟩,by dsimp only;omega,AI⟩
abbrev Gf (q:Bb):Prop:=q.Pairwise λa b=>ltStr a.1 b.1=true
theorem Gf.nd {q:Bb}(h:Gf q):(Cg q).Nodup:=by
 rw[Cg,List.Nodup,List.pairwise_map];exact h.imp λ{a b} h e=>by rw[e,swo_ltStr.irrefl]at h;cases h
theorem PO {lot:List UInt8}{o v:Rat}:∀ {q:Bb},Fj lot q=some o->∃A B,q=A++(lot,o)::B/\GB lot v q=A++(lot,v)::B
 | [],h=>by simp[Fj]at h
 |p::l,h=>by
  unfold Fj at h;unfold GB;split at h
  ·rename_i e
   cases h;rw[AF e];exact⟨[],l,by rw[e];rfl,rfl⟩
  ·rename_i e
   rw[AE e];obtain⟨A,B,h1,h2⟩:=PO (v:=v) h;exact⟨p::A,B,by rw[h1];rfl,by rw[h2];rfl⟩
theorem Rs {lot:List UInt8}{v:Rat}:∀ {q:Bb},Fj lot q=none->lot∉Cg q/\GB lot v q=q++[(lot,v)]
 | [],_=>⟨by simp[Cg],rfl⟩
 |p::l,h=>by
  unfold Fj at h;unfold GB;split at h
  ·cases h
  ·rename_i e
   rw[AE e];obtain⟨h1,h2⟩:=Rs (v:=v) h;exact⟨λq=>by
    rcases A7.1 q with q|q
    ·exact e q
    ·exact h1 q,by rw[h2];rfl⟩
theorem Wn {lot:List UInt8}{r:Rat}:∀ {Q:Bb},Gf Q->(∃A o B,Q=A++(lot,o)::B/\Db lot r Q=A++(lot,o+r)::B)\/(lot∉Cg Q/\∃A B,Q=A++B/\Db lot r Q=A++(lot,r)::B)
 | [],_=>.inr ⟨by simp[Cg],[],[],rfl,rfl⟩
 |p::l,h=>by
  have hp:=Ds.1 h;unfold Db;split
  ·rename_i e
   rcases Wn (lot:=lot) (r:=r) hp.2 with⟨A,o,B,h1,h2⟩|⟨h0,A,B,h1,h2⟩
   ·exact .inl ⟨p::A,o,B,by rw[h1];rfl,by rw[h2];rfl⟩
   ·refine .inr ⟨λq=>?_,p::A,B,by rw[h1];rfl,by rw[h2];rfl⟩
    rcases A7.1 q with q|q
    ·rw[show p.1=lot from q.symm,swo_ltStr.irrefl]at e;cases e
    ·exact h0 q
  ·rename_i e
   split
   ·rename_i e2
    exact .inl ⟨[],p.2,l,by rw[<-e2];rfl,by rw[e2];rfl⟩
   ·rename_i e2
    refine .inr ⟨λq=>?_,[],p::l,rfl,rfl⟩;rcases A7.1 q with q|q
    ·exact e2 q.symm
    ·obtain⟨z,hz,rfl⟩:=List.mem_map.1 q
     exact e (hp.1 z hz)
theorem Vf {lot:List UInt8}{r:Rat}:∀ {Q:Bb},∀z∈Db lot r Q,z.1=lot\/z.1∈Cg Q
 | [],z,hz=>by
  unfold Db at hz;rw[List.mem_singleton]at hz;exact .inl (by rw[hz])
 |p::l,z,hz=>by
  unfold Db at hz;split at hz
  ·rcases A7.1 hz with rfl|hz
   ·exact .inr Ce
   ·rcases Vf z hz with h|h
    ·exact .inl h
    ·exact .inr (Cq _ h)
  ·split at hz
   ·rcases A7.1 hz with rfl|hz
    ·exact .inr Ce
    ·exact .inr (Cq _ (List.mem_map_of_mem hz))
   ·rcases A7.1 hz with rfl|hz
    ·exact .inl rfl
    ·exact .inr (List.mem_map_of_mem hz)
theorem W9 {lot:List UInt8}{r:Rat}:∀ {Q:Bb},Gf Q->Gf (Db lot r Q)
 | [],_=>List.pairwise_singleton _ _
 |p::l,h=>by
  have hp:=Ds.1 h;unfold Db;split
  ·rename_i e
   refine Ds.2 ⟨λz hz=>?_,W9 hp.2⟩;rcases Vf z hz with h|h
   ·rw[h];exact e
   ·obtain⟨y,hy,h2⟩:=List.mem_map.1 h
    rw[<-h2];exact hp.1 y hy
  ·rename_i e
   split
   ·exact Ds.2 ⟨hp.1,hp.2⟩
   ·rename_i e2
    have e3:ltStr lot p.1=true:=by
     cases h9:ltStr lot p.1 with
     |true=>rfl
     |false=>exact AY (VI (by simpa using e) h9) e2
    refine Ds.2 ⟨λz hz=>?_,h⟩;rcases A7.1 hz with rfl|hz
    ·exact e3
    ·exact swo_ltStr.trans _ _ _ e3 (hp.1 z hz)
theorem lK {Q q:Bb}(hs:Gf Q)(hp:Q.Perm q)(lot:List UInt8)(r:Rat):(Db lot r Q).Perm (JK lot r q):=by
 have hnd:(Cg Q).Nodup:=hs.nd;unfold JK;rcases Wn (lot:=lot) (r:=r) hs with⟨A,o,B,h1,h2⟩|⟨h0,A,B,h1,h2⟩
 ·have hm:(lot,o)∈q:=hp.mem_iff.1 (by rw[h1];simp)
  have hqn:(Cg q).Nodup:=(hp.map _).nodup_iff.1 hnd;have hlk:=R6 hqn hm;dsimp only at hlk;rw[hlk];dsimp only;obtain⟨A2,B2,h3,h4⟩:=PO (v:=r+o) hlk;rw[h2,h4];have p1:(A++(lot,o)::B).Perm ((lot,o)::(A++B)):=Gc;have p2:(A2++(lot,o)::B2).Perm ((lot,o)::(A2++B2)):=Gc;have p3:(A++B).Perm (A2++B2):=by
   rw[h1,h3]at hp;exact List.Perm.cons_inv (p1.symm.trans (hp.trans p2))
  rw[Rat.add_comm o r];exact Gc.trans ((p3.cons _).trans Gc.symm)
 ·have hn:Fj lot q=none:=by
   cases h9:Fj lot q with
   |none=>rfl
   |some o=>
    obtain⟨A2,B2,h3,-⟩:=PO (v:=o) h9;exact AY ((hp.map (·.1)).mem_iff.2 (by rw[h3];simp)) h0
  rw[hn];dsimp only;rw[(Rs (v:=r) hn).2,h2];rw[h1]at hp;exact Gc.trans ((hp.cons _).trans (List.perm_append_singleton _ _).symm)
theorem XA {Q q:Bb}(hs:Gf Q)(hp:Q.Perm q)(x:AG):∀j,j<=x.shs.length->Gf (HI x j Q)/\(HI x j Q).Perm (GA x j q)
 | 0,_=>⟨hs,hp⟩
 |j+1,hj=>by
  obtain⟨s,hsj⟩:∃s,x.shs[j]?=some s:=⟨_,BF hj⟩
  obtain⟨h1,h2⟩:=XA hs hp x j (by omega);rw[R2 x j Q hsj,M1 x j q hsj];exact⟨W9 h1,lK h1 h2 _ _⟩
theorem R8 (l:List AG):∀i,i<=l.length->Gf (FA (l.take i))/\(FA (l.take i)).Perm (Bh (l.take i))
 | 0,_=>⟨List.Pairwise.nil,.refl _⟩
 |i+1,hi=>by
  obtain⟨x,hx⟩:∃x,l[i]?=some x:=⟨_,BF hi⟩
  obtain⟨h1,h2⟩:=R8 l i (by omega);rw[Re l i hx,O2 l i hx];exact XA h1 h2 x _ (Ag _)
theorem Gf.weak {q:Bb}(h:Gf q):q.Pairwise λa b=>ltStr b.1 a.1=false:=h.imp λ{a b} h=>by
 cases h9:ltStr b.1 a.1 with
 |false=>rfl
 |true=>have:=swo_ltStr.trans _ _ _ h h9;rw[swo_ltStr.irrefl]at this;cases this
theorem NI (l:List AG):FA l=Dq (Bh l):=by
 obtain⟨h1,h2⟩:=R8 l l.length (Ag _);rw[DL]at h1 h2;exact RZ ((h2.map _).nodup_iff.1 h1.nd) h2 (IJ _) h1.weak (Px _)
theorem j7 (l:List AG):Gf (FA l):=by
 obtain⟨h1,-⟩:=R8 l l.length (Ag _)
 rwa [DL]at h1
abbrev Jk:Dr:=[(12,[0,1,2,3,4,5],[6])]
open Go.Proofs Go.RowKit
set_option maxRecDepth 20000
set_option maxHeartbeats 4000000
def CZ (l:List AG):Bool:=l.all λx=>Bj (sb x.grain) (sb (Bi l 0).grain)
def EC (l:List AG):Nat:=if l.length=0 then 2 else if 64<l.length then 5 else if DP (λi=>CK (Bi l i)) l.length≠0 then DP (λi=>CK (Bi l i)) l.length else if CZ l=false then 16 else if Av l>999999999 then 4 else 0
def Qk (l:List AG):Int:=if EC l=0 then Av l else 0
theorem fK (b:Bool)(v:List AG)(hl:v.length<=1000000)(hf:∀x∈v,x.few):AK C0 146 [.clo (.func 85) [] [],A0 b v] (i64 (DP (λi=>CK (Bi v i)) v.length:Nat)):=by
 refine Ai.walk w1 Y0 rfl λF=>?_
 have el:(((v.map AG.D).length:Nat):Int)=(v.length:Int):=by rw[Ap]
 refine AJ Ad el AB AB AB AB AB AB ?_;refine AC.loop (α:=Nat×Nat) (λp=>⟨[(0,.clo (.func 85) [] []),(8,A0 b v),(9,i64 (v.length:Int)),(10,i64 (p.1:Int))],[],p.2⟩) (λp=>v.length-p.1)
  (λp=>p.1<=v.length/\∀j,j<p.1->CK (Bi v j)=0) (0,_) ⟨BR _,λj h=>AY h (HP j)⟩ AI ?_
 rintro⟨i,m⟩ F ⟨hi,hz⟩;dsimp only at hi hz⊢;rcases BI i v.length with h2|h2
 ·have e1:=CX h2
  have wi:=Cf (i:=i) (by omega);obtain⟨x,hx⟩:=CQ h2;have hm:(v.map AG.D)[i]?=some (.agg [str (sb x.grain),i64 x.mass,.sl false 2 (x.shs.map Au.D)]):=by rw[BH,hx];rfl
  have cL:=bE x (hf x (A8 hx));unfold AG.D at cL;rcases Nat.decEq (CK x) 0 with hc0|hc0
  ·have e3:=Eo hc0
   have hE:=Ll (f:=λi=>CK (Bi v i)) hz h2 (by rw[Dd hx];exact hc0);rw[Dd hx]at hE;rw[hE];refine AJ Ad (At e1 e3 kN) hm cL AB AB AB AB ?_;exact AO rfl AA.out
  ·have e3:=FC hc0
   refine AJ Ad (BV e1 e3 wi kN) hm cL AB AB AB AB ?_;exact⟨(i+1,_),⟨h2,λj hj=>by
    rcases Nat.lt_succ_iff_lt_or_eq.1 hj with q|q
    ·exact hz j q
    ·rw[q,Dd hx];exact hc0⟩,by dsimp only;omega,AI⟩
 ·have e1:=Ca h2
  have:i=v.length:=by omega
  subst this;rw[Kl (f:=λi=>CK (Bi v i)) hz];refine AJ Ad e1 AB AB AB AB AB AB ?_;exact AO rfl AA.out
theorem kY (b:Bool)(l:List AG)(hl:l.length<=1000000)(hf:∀x∈l,x.few):AK C0 102 [A0 b l] (.tup [i64 (Qk l),i64 (EC l:Nat)]):=by
 refine Ai.walk w1 Yg rfl λF=>?_
 have el:(((l.map AG.D).length:Nat):Int)=(l.length:Int):=by rw[Ap]
 have hC:EC l=if l.length=0 then 2 else if 64<l.length then 5 else if DP (λi=>CK (Bi l i)) l.length≠0 then DP (λi=>CK (Bi l i)) l.length else if CZ l=false then 16 else if Av l>999999999 then 4 else 0:=rfl
 have hM:Qk l=if EC l=0 then Av l else 0:=rfl
 have cA:=fK b l hl hf
 by_cases h0:l.length=0
 ·rw[AF h0]at hC
  rw[hC]at hM;rw[hM,hC];have q1:((l.length:Int)==0)=true:=by rw[h0];rfl
  refine AJ Jk (Ac el q1) AB AB AB AB AB AB ?_;exact AO rfl AA.out
 rw[AE h0]at hC;have q1:((l.length:Int)==0)=false:=by
  rw[B6];omega
 by_cases h64:64<l.length
 ·rw[AF h64]at hC
  rw[hC]at hM;rw[hM,hC];have q2:decide ((l.length:Int)>64)=true:=AX (by omega);refine AJ Jk (At el q1 q2) AB AB AB AB AB AB ?_;exact AO rfl AA.out
 rw[AE h64]at hC;have q2:decide ((l.length:Int)>64)=false:=Af (by omega);obtain⟨K,hK⟩:∃K,DP (λi=>CK (Bi l i)) l.length=K:=⟨_,rfl⟩
 rw[hK]at hC cA;rcases Nat.decEq K 0 with hc0|hc0
 ·have e3:=Eo hc0
  rw[AF hc0]at hC;rw[hC]at hM;rw[AE hc0]at hM;rw[hM,hC];refine AJ Jk (BV el q1 q2 e3) cA AB AB AB AB AB ?_;exact AO rfl AA.out
 have e3:=FC hc0;rw[AE (λh=>h hc0)]at hC;have hz:∀j,j<l.length->CK (Bi l j)=0:=PR (hK.trans hc0);have hsm:=PK h64 hz;obtain⟨x0,hx0⟩:∃x,l[0]?=some x:=⟨_,BF (by omega)⟩
 have hm0:(l.map AG.D)[0]?=some (.agg [str (sb x0.grain),i64 x0.mass,.sl false 2 (x0.shs.map Au.D)]):=by rw[BH,hx0];rfl
 have hv0:=Dd hx0;refine AJ Jk (BV el q1 q2 e3) cA AB AB AB AB AB ?_;refine AC.loop (α:=Nat×Nat) (λp=>⟨[(0,A0 b l),(5,i64 (Av (l.take p.1))),(19,A0 b l),(20,i64 (l.length:Int)),(21,i64 (p.1:Int))],[],p.2⟩) (λp=>l.length-p.1)
  (λp=>p.1<=l.length/\∀x∈l.take p.1,Bj (sb x.grain) (sb x0.grain)=true) (0,_) ⟨BR _,λx h=>by simp at h⟩ AI ?_
 rintro⟨i,m⟩ F ⟨hi,hs⟩;dsimp only at hi hs⊢;rcases BI i l.length with h2|h2
 rotate_left
 ·have e1:=Ca h2
  have:i=l.length:=by omega
  subst this;rw[DL]at hs⊢;have hg:CZ l=true:=by
   unfold CZ;rw[CI,hv0];exact hs
  rw[AE (by rw[hg];decide)]at hC
  by_cases h9:Av l>999999999
  ·have e9:decide (Av l>999999999)=true:=AX h9
   rw[AF h9]at hC;rw[hC]at hM;rw[hM,hC];refine AJ Jk (Ac e1 e9) AB AB AB AB AB AB ?_;exact AO rfl AA.out
  ·have e9:decide (Av l>999999999)=false:=Af h9
   rw[AE h9]at hC;rw[hC]at hM;rw[hM,hC];refine AJ Jk (Ac e1 e9) AB AB AB AB AB AB ?_;exact AO rfl AA.out
 have e1:=CX h2;have wi:=Cf (i:=i) (by omega);obtain⟨x,hx⟩:=CQ h2;have hm:(l.map AG.D)[i]?=some (.agg [str (sb x.grain),i64 x.mass,.sl false 2 (x.shs.map Au.D)]):=by rw[BH,hx];rfl
 have hsum:=NA hx;have hs1:=NU (l:=l.take i) λy hy=>hsm.2 y (HR hy)
 have hs2:=hsm.2 x (A8 hx);rw[BX]at hs1;have ws:IntKind.i64.wrap (Av (l.take i)+x.mass)=Av (l.take i)+x.mass:=wI (by omega) (by omega);obtain⟨bG,hbG⟩:∃q,Bj (sb x.grain) (sb x0.grain)=q:=⟨_,rfl⟩
 cases bG
 ·have hg:CZ l=false:=by
   unfold CZ;rw[List.all_eq_false];exact⟨x,A8 hx,by rw[hv0,hbG];decide⟩
  rw[AF hg]at hC;rw[hC]at hM;rw[hM,hC];refine AJ Jk (At e1 hbG kN) hm hm0 AB AB AB AB ?_;exact AO rfl AA.out
 ·refine AJ Jk (Ck e1 hbG wi ws kN) hm hm0 AB AB AB AB ?_
  exact⟨(i+1,_),⟨h2,λy hy=>by
   rw[Dv,hx]at hy;rcases List.mem_append.1 hy with q|q
   ·exact hs y q
   ·have:y=x:=by simpa using q
    rw[this];exact hbG⟩,by dsimp only;omega,by(dsimp only;rw[hsum];exact AI)⟩
abbrev Eb:Dr:=[(11,[0,1,2,3,4,5,6,7],[8]),(24,[0,1,2,3,4,5,6,7,8,9,10],[11])]
open Go.Proofs Go.RowKit Go.Sort
set_option maxRecDepth 20000
set_option maxHeartbeats 4000000
def Df (l:List AG):Nat:=if EC l≠0 then EC l else if 64<(Bh l).length then 5 else if(Dq (Bh l)).any (λp=>CL (p.2/(Av l:Rat)))then 4 else 0
def DQ (l:List AG):List Au:=(Dq (Bh l)).map λp=>⟨p.1,Al (p.2/(Av l:Rat))⟩
def FS (l:List AG):AG:=if Df l≠0 then⟨[],0,[]⟩else⟨(Bi l 0).grain,Av l,DQ l⟩
def AG.lite (x:AG):Prop:=x.few/\∀s∈x.shs,s.lot.length<=1000/\s.part.length<=40
theorem fL {l:List Au}(h:G9 l=0):0<l.length/\l.length<=64/\∀s∈l,Co s.lot=true/\CS s.part=0/\0<Fp (CA s.part):=by
 unfold G9 at h;split at h
 ·cases h
 ·split at h
  ·cases h
  ·split at h
   ·rename_i h3;exact AY h h3
   ·rename_i h1 h2 h3
    refine⟨by omega,by omega,λs hs=>?_⟩;obtain⟨j,hj⟩:=List.mem_iff_getElem?.1 hs;have hE:=PR (f:=FM l) (n:=l.length) (by omega) j (List.getElem?_eq_some_iff.1 hj).1;unfold FM at hE;rw[I4 hj]at hE;split at hE
    ·cases hE
    ·split at hE
     ·cases hE
     ·split at hE
      ·rename_i h6;exact AY hE h6
      ·split at hE
       ·cases hE
       ·rename_i h4 h5 h6 h7
        exact⟨by simpa using h4,by omega,by omega⟩
theorem Sy {x:AG}(hl:x.lite)(h:CK x=0):x.ok/\∀s∈x.shs,Co s.lot=true:=by
 obtain⟨h1,h2,h3,h4⟩:=IL h;obtain⟨g1,g2,g3⟩:=fL h4;exact⟨⟨g2,by unfold Sm;omega,λs hs=>⟨BO (hl.2 s hs).1 (by omega),(hl.2 s hs).2,(g3 s hs).2.1⟩⟩,λs hs=>(g3 s hs).1⟩
theorem Sk {l:List AG}(h:EC l=0):0<l.length/\l.length<=64/\(∀x∈l,CK x=0)/\CZ l=true/\Av l<=999999999:=by
 unfold EC at h;split at h
 ·cases h
 ·split at h
  ·cases h
  ·split at h
   ·rename_i h3;exact AY h h3
   ·split at h
    ·cases h
    ·split at h
     ·cases h
     ·rename_i h1 h2 h3 h4 h5
      refine⟨by omega,by omega,λx hx=>?_,by simpa using h4,by omega⟩;obtain⟨j,hj⟩:=List.mem_iff_getElem?.1 hx
      have:=PR (f:=λi=>CK (Bi l i)) (n:=l.length) (by omega) j (List.getElem?_eq_some_iff.1 hj).1
      rwa [Dd hj]at this
theorem SE:∀ {l:List AG},(∀x∈l,CK x=0)->(l.length:Int)<=Av l
 | [],_=>by simp[Av]
 |x::l,h=>by
  have h1:=(IL (h x Ce)).2.1;have h2:=SE (l:=l) λy hy=>h y (Cq _ hy)
  unfold Av at h2⊢;simp only[CJ,List.sum_cons,Bl];omega
theorem Ju (H:Hp)(e:Int):Fz H [] (.tup [.agg [str ⟨#[]⟩,i64 0,CE],i64 e]) (.tup [(⟨[],0,[]⟩:AG).D,i64 e]):=
 IP (.agg rfl λi d d' h h'=>by
  match i with
  | 0=>cases h;cases h';exact .refl _
  | 1=>cases h;cases h';exact .refl _
  | 2=>cases h;cases h';exact .nil 2
  |n+3=>cases h) (.refl _)
theorem QS {H:Hp}{gr m sD e:D}{L:List D}(h:Fz H [] sD (.sl false 2 L)):Fz H [] (.tup [.agg [gr,m,sD],e]) (.tup [.agg [gr,m,.sl false 2 L],e]):=
 IP (.agg rfl λi d d' h1 h2=>by
  match i with
  | 0=>cases h1;cases h2;exact .refl _
  | 1=>cases h1;cases h2;exact .refl _
  | 2=>cases h1;cases h2;exact h
  |n+3=>cases h1) (.refl _)
theorem Se {H:Hp}{k g T sz:Nat}{z:D}{l:List D}(he:Hp.get H k=some ⟨k,g,T,sz,z::l⟩):Fz H [] (.osl k g sz 0 (l.length+1)) (.sl false sz (z::l)):=by
 refine .osl (e:=⟨k,g,T,sz,z::l⟩) he rfl rfl rfl (by simp) (by simp) (λj d d' h1 h2=>?_) λj d d' q c c' h1 h2 h3 h4=>?_
 ·rw[BQ]at h1;rw[h1]at h2;cases h2;rfl
 ·rw[BQ]at h1;rw[h1]at h2;cases h2;rw[h3]at h4;cases h4;exact Fz.refl _
theorem iq (l:Cw)(H:Hp)(n:Nat):CW C0 108 [mapD l] H n (λd H' n'=>∃g,d=.clo (.func 157) [] [.optr 77000 g 1 0 0]/\H'=⟨77000,g,102,1,[mapD l]⟩::H/\n'=n+4):=by
 refine CW.walk w1 Yn rfl λF0=>?_
 obtain⟨M,hM⟩:∃M,mapD l=M:=⟨_,rfl⟩
 have hc:∃ks vs,M=.mp ks vs:=⟨_,_,hM.symm⟩
 obtain⟨ks,vs,hc⟩:=hc;subst hc;rw[hM];refine AC.seq ?_;refine An w1 77000 (by kernel_rfl) ?_;refine AD kB ?_;refine As ?_;refine AJ Ad kB AB AB AB AB AB AB ?_;exact⟨_,rfl,rfl,trivial⟩
theorem rQ {r:Rat}{x:GF}{k:Nat}(h:FR r x k)(hk:k<100000):AK C0 109 [x.D] (.tup [str (sb (To r)),i64 (Tn r:Nat)]):=by
 refine Ai.walk w1 Yo rfl λF=>?_
 have c1:=XJ h hk;have c2:=Zt h hk;unfold To Tn;obtain⟨b,hb⟩:∃b,CL r=b:=⟨_,rfl⟩
 rw[hb]at c1⊢;cases b
 all_goals
  refine AJ Ad kB c1 c2 AB AB AB AB ?_;exact AO rfl AA.out
theorem uI (b:Bool)(l:List AG)(hl:l.length<=1000000)(hf:∀x∈l,x.lite):AK C0 58 [A0 b l] (.tup [(FS l).D,i64 (Df l:Nat)]):=by
 refine Ai.walk w1 aJ rfl λF0=>?_
 have el:(((l.map AG.D).length:Nat):Int)=(l.length:Int):=by rw[Ap]
 have cM:=kY b l hl λx hx=>(hf x hx).1
 have hN:Df l=if EC l≠0 then EC l else if 64<(Bh l).length then 5 else if(Dq (Bh l)).any (λp=>CL (p.2/(Av l:Rat)))then 4 else 0:=rfl
 have hL:FS l=if Df l≠0 then⟨[],0,[]⟩else⟨(Bi l 0).grain,Av l,DQ l⟩:=rfl
 rcases Nat.decEq (EC l) 0 with g|g
 ·have e1:=Eo g
  rw[AF g]at hN;rw[hN,AF g]at hL;rw[hL,hN];refine AJ Eb e1 cM AB AB AB AB AB ?_;exact⟨_,Ju _ _,AA.out,rfl⟩
 have e1:=FC g;rw[AE (λh=>h g)]at hN;have hmm:Qk l=Av l:=by unfold Qk;rw[AF g]
 obtain⟨g1,g2,g3,g4,g5⟩:=Sk g;have hx:∀x∈l,x.ok:=λx h=>(Sy (hf x h) (g3 x h)).1
 have g6:=SE g3;rw[hmm]at cM;refine sZ 0 ?_;refine AD kB ?_;refine sZ 100 ?_;refine AD kB ?_;refine cI cM ?_;refine AD kB ?_;refine AC.seq ?_;refine sZ 200 ?_;refine AD e1 ?_;refine AL ?_;refine Aj ?_;refine AC.seq ?_;refine HL (by kernel_rfl) ?_;change BY _ _ _ _ _ [0,1] _ _;refine BY.makeMap 400 rfl rfl rfl (UH F0) (λF1 it hto hO hr0 hnX hM=>?_);change BY _ _ _ _ _ ([1]++[]) _ _;refine FG w1 400 [1] [] ?_;refine AD kB ?_;refine BY.nil ?_;refine AJ Eb el AB AB AB AB AB AB ?_;refine Fr (α:=Nat×Cw×Obj×Nat) (λp=>⟨[(0,A0 b l),(2,.optr 0 0 3 0 0),(4,i64 (Av l)),(6,.prim (.map (some it))),(29,A0 b l),(30,i64 (l.length:Int)),(31,i64 (p.1:Int))],[⟨0,0,27,3,[.agg [.prim (.string ⟨#[]⟩),.prim (.int .i64 0),.prim (.slice none 0 0)]]⟩],p.2.2.2⟩) (λp=>l.length-p.1)
  (λp F=>p.1<=l.length/\Cu C0 F0 F [⟨400,11,p.2.2.1⟩]/\F.r0 400 11=some it/\HB F p.2.2.1 p.2.1/\MQ (320*p.1) (Bh (l.take p.1)) p.2.1) (0,[],.map #[] 0,_) ⟨BR _,hO,hr0,hM,trivial⟩ AI ?_
 clear hO hr0 hM hto;rintro⟨i,m,o,n1⟩ F ⟨hi,hO,hr0,hM,hQ⟩;dsimp only at hi hO hr0 hM hQ⊢;rcases BI i l.length with h2|h2
 rotate_left
 ·have e1:=Ca h2
  have:i=l.length:=by omega
  subst this;rw[DL]at hQ;refine sZ 600 ?_;refine AD e1 ?_;refine AC.seq ?_;refine AL ?_;refine B7 ?_;refine bW [(0,A0 b l),(2,.optr 0 0 3 0 0),(4,i64 (Av l)),(6,mapD m)] hO hr0 hnX hM ⟨.inl rfl,.inl rfl,.inl rfl,.inr ⟨rfl,rfl⟩,trivial⟩ (λF2 hto2 hO2=>?_);have hKO:Gp (λk=>k.length<=1000) (64*l.length) (Bh l):=Rc λx h=>⟨(hx x h).1,λs hs=>((hf x h).2 s hs).1⟩
  have hQ2:MQ 32000 (Bh l) m:=hQ.mono (by omega);clear hQ hO hM hto2 hO2;obtain⟨q,hq⟩:∃q,Bh l=q:=⟨_,rfl⟩
  have hSS:DQ l=(Dq q).map λp=>⟨p.1,Al (p.2/(Av l:Rat))⟩:=by rw[<-hq];rfl
  rw[hq]at hKO hQ2 hN;have hml:=hQ2.len;obtain⟨ks,hks⟩:∃ks:List D,m.map (λp=>(.prim (.string p.1):D))=ks:=⟨_,rfl⟩
  obtain⟨vs,hvs⟩:∃vs:List D,m.map (·.2)=vs:=⟨_,rfl⟩
  have hkl:ks.length=q.length:=by rw[<-hks,Ap,hml]
  unfold mapD;rw[hks,hvs];refine AC.seq ?_;refine AC.seq ?_;refine HL (by kernel_rfl) ?_;change BY _ _ _ _ _ ([0]++(1::([2]++[]))) _ _;refine FG w1 1800 [0] _ ?_;refine AD kB ?_;refine vA (ND (w1.xt 102 _ rfl)).1 rfl rfl rfl rfl ?_;refine FG w1 1800 [2] _ ?_;refine AD kB ?_;refine BY.nil ?_;rw[hkl]
  by_cases h64:64<q.length
  ·rw[AF h64]at hN
   rw[hN,AF (by omega)]at hL;rw[hL,hN];have q2:decide ((q.length:Int)>64)=true:=AX (by omega);refine AJ Eb q2 AB AB AB AB AB AB ?_;exact⟨_,Ju _ _,AA.out,rfl⟩
  have q2:decide ((q.length:Int)>64)=false:=Af (by omega);rw[AE h64]at hN;rw[q2];have hmd:mapD m=.mp ks vs:=by unfold mapD;rw[hks,hvs]
  have cK:=iq m;have cS:=Fc m (Cg q) hQ2.keys (by omega) hKO.all hKO.nd;rw[hmd]at cK cS;obtain⟨x0,hx0⟩:∃x,l[0]?=some x:=⟨_,BF (by omega)⟩
  have hm0:(l.map AG.D)[0]?=some (.agg [str (sb x0.grain),i64 x0.mass,.sl false 2 (x0.shs.map Au.D)]):=by rw[BH,hx0];rfl
  refine AJ Eb kB hm0 AB AB AB AB AB ?_;refine Az.own _ (cK _ _) ?_;rintro d H' n' ⟨gk,rfl,rfl,rfl⟩;refine AJ Eb kB AB AB AB AB AB AB ?_;refine Az.own _ (cS _ _ _ _ _) ?_;rintro d H' n' ⟨rfl,rfl,rfl⟩;refine AJ Eb kB AB AB AB AB AB AB ?_;have hkey:=fH q;have hsl:(Dq q).length=q.length:=(IJ q).length_eq;have hsm:∀p∈Dq q,p∈q:=λp h=>(IJ q).mem_iff.1 h
  rw[hkey];obtain⟨Q,hQ⟩:∃Q,Dq q=Q:=⟨_,rfl⟩
  rw[hQ]at hN hSS hsl hsm⊢;have hMs:Sm (Av l):=by unfold Sm;omega
  have hM0:((Av l:Int):Rat)≠0:=λh=>by
   have:=Rat.intCast_inj.1 (h.trans (Rat.intCast_zero).symm)
   omega
  have fM:FR ((Av l:Int):Rat) ⟨AV (Av l),1⟩ 1:=NZ (by unfold Sm at hMs;omega);have cF:=OC (Av l) hMs;obtain⟨kl,hkl2⟩:∃kl:List D,(List.map (λx=>str (sb x)) (Q.map (·.1)))=kl:=⟨_,rfl⟩
  have hkll:kl.length=Q.length:=by rw[<-hkl2];simp
  rw[hkl2];obtain⟨M,hMM⟩:∃M,Av l=M:=⟨_,rfl⟩
  have hgr:(Bi l 0).grain=x0.grain:=by rw[Dd hx0]
  clear hmd cK cS hm0;rw[hMM]at hN hL hSS hMs hM0 fM cF;rw[hMM,hkll];obtain⟨g14,hg14⟩:∃g,n1+1+1+1+1+1+1+1+1+1+1=g:=⟨_,rfl⟩
  rw[hg14];refine AC.loop (α:=Nat×Nat×Nat) (λp=>⟨[(2,.optr 0 0 3 0 0),(4,i64 M),(6,.mp ks vs),(14,.optr 2006 g14 3 0 0),(78,.sl false 1 kl),(79,i64 (Q.length:Nat)),(80,i64 (p.1:Int))],
    DB 2706 p.2.1 82 2 ((Q.take p.1).map λz=>(⟨z.1,Al (z.2/(M:Rat))⟩:Au).D)++[⟨2006,g14,27,3,[.agg [str (sb x0.grain),i64 M,DK 2706 p.2.1 2 ((Q.take p.1).map λz=>(⟨z.1,Al (z.2/(M:Rat))⟩:Au).D)]]⟩,⟨0,0,27,3,[.agg [.prim (.string ⟨#[]⟩),.prim (.int .i64 0),.prim (.slice none 0 0)]]⟩],p.2.2⟩) (λp=>Q.length-p.1)
   (λp=>p.1<=Q.length/\∀z∈Q.take p.1,CL (z.2/(M:Rat))=false) (0,0,_) ⟨BR _,λz h=>by simp at h⟩ AI ?_
  clear n1 hg14;rintro⟨i,g,n1⟩ F ⟨hi,hB⟩;dsimp only at hi hB⊢;have hTl:((Q.take i).map λz=>(⟨z.1,Al (z.2/(M:Rat))⟩:Au).D).length=i:=by rw[Ap,BX];omega
  obtain⟨TL,hTL⟩:∃TL,((Q.take i).map λz=>(⟨z.1,Al (z.2/(M:Rat))⟩:Au).D)=TL:=⟨_,rfl⟩
  rcases BI i Q.length with h2|h2
  rotate_left
  ·have e1:=Ca h2
   have:i=Q.length:=by omega
   subst this;rw[DL]at hB hTL⊢;have hany:Q.any (λp=>CL (p.2/(M:Rat)))=false:=by
    rw[List.any_eq_false];intro p hp;rw[hB p hp];decide
   rw[AE (by rw[hany];decide)]at hN;rw[AE (by omega)]at hL;rw[hL,hN,hgr];have hres:((⟨x0.grain,M,DQ l⟩:AG).D)=.agg [str (sb x0.grain),i64 M,.sl false 2 TL]:=by
    unfold AG.D CT;rw[<-hTL,hSS,List.map_map];rfl
   have pR:Bv (.tup [(⟨x0.grain,M,DQ l⟩:AG).D,i64 ((0:Nat):Int)]):=AA.out;rw[hres]at pR;rw[hres,hTL];rcases TL with _|⟨z,TL⟩
   ·dsimp only[Fg,Fh,List.nil_append]
    refine AJ Eb e1 AB AB AB AB AB AB ?_;exact⟨_,QS (.nil 2),pR,rfl⟩
   ·dsimp only[Eg,Eh,List.cons_append,List.nil_append]
    refine AJ Eb e1 AB AB AB AB AB AB ?_;exact⟨_,QS (Se rfl),pR,rfl⟩
  have e1:=CX h2;have wi:=Cf (i:=i) (by omega);obtain⟨p,hp⟩:=CQ h2;have hmk:kl[i]?=some (str (sb p.1)):=by rw[<-hkl2,BH,BH,hp];rfl
  have hlq:=R6 hKO.nd (hsm p (A8 hp));rcases hQ2.look p.1 with⟨q1,q3⟩|⟨r,y,q1,q3,q4⟩
  ·rw[hlq]at q3;cases q3
  rw[hlq]at q3;cases q3;have hLk:HE (sb p.1) ks vs=some (some y.D):=by rw[<-hks,<-hvs,VF,q1]
  have cDv:=mU q4 fM hM0 (by omega);have fD:=kL q4 fM hM0;obtain⟨z,hz⟩:∃z,Qv y ⟨AV M,1⟩=z:=⟨_,rfl⟩
  rw[hz]at cDv fD;have cG:=rQ fD (by omega);obtain⟨dM,hdM⟩:∃d,(⟨AV M,1⟩:GF).D=d:=⟨_,rfl⟩
  have pdM:AA dM:=by rw[<-hdM];exact AH
  obtain⟨dy,hdy⟩:∃d,y.D=d:=⟨_,rfl⟩
  have pdy:AA dy:=by rw[<-hdy];exact AH
  obtain⟨dz,hdz⟩:∃d,z.D=d:=⟨_,rfl⟩
  have pdz:AA dz:=by rw[<-hdz];exact AH
  rw[hdy]at hLk cDv;rw[hdM]at cF cDv;rw[hdz]at cDv cG;unfold To Tn at cG;obtain⟨bg,hbg⟩:∃q,CL (p.2/(M:Rat))=q:=⟨_,rfl⟩
  rw[hbg]at cG;have hsn:((Q.take (i+1)).map λz=>(⟨z.1,Al (z.2/(M:Rat))⟩:Au).D)=TL++[.agg [str (sb p.1),str (sb (Al (p.2/(M:Rat))))]]:=by
   rw[Dv,hp,DE,hTL];rfl
  rw[hTL]at hTl⊢;have n4:((((4:Nat):Int)) != 0)=true:=rfl;have n0:((((0:Nat):Int)) != 0)=false:=rfl;cases bg
  rotate_left
  ·rw[AF rfl,AF rfl]at cG
   have hany:Q.any (λp=>CL (p.2/(M:Rat)))=true:=by
    rw[List.any_eq_true];exact⟨p,A8 hp,hbg⟩
   rw[AF hany]at hN;rw[AF (by omega)]at hL;rw[hL,hN];rcases TL with _|⟨z9,TL⟩
   ·dsimp only[Fg,Fh,List.nil_append]
    refine AJ Eb (Ac e1 kN) hmk AB AB AB AB AB ?_;refine PI (d':=dy) rfl rfl rfl rfl rfl rfl hLk rfl ?_;refine As ?_;refine AJ Eb n4 cF cDv cG AB AB AB ?_;exact⟨_,Ju _ _,AA.out,rfl⟩
   ·dsimp only[Eg,Eh,List.cons_append,List.nil_append]
    refine AJ Eb (Ac e1 kN) hmk AB AB AB AB AB ?_;refine PI (d':=dy) rfl rfl rfl rfl rfl rfl hLk rfl ?_;refine As ?_;refine AJ Eb n4 cF cDv cG AB AB AB ?_;exact⟨_,Ju _ _,AA.out,rfl⟩
  rw[AE (by decide),AE (by decide)]at cG;have hB2:∀w∈Q.take (i+1),CL (w.2/(M:Rat))=false:=λw hw=>by
   rw[Dv,hp]at hw;rcases List.mem_append.1 hw with h|h
   ·exact hB w h
   ·have:w=p:=by simpa using h
    rw[this];exact hbg
  rcases TL with _|⟨z9,TL⟩
  ·dsimp only[Fg,Fh,List.nil_append]
   refine AJ Eb (Ac e1 kN) hmk AB AB AB AB AB ?_;refine PI (d':=dy) rfl rfl rfl rfl rfl rfl hLk rfl ?_;refine As ?_;refine AJ Eb (Ac n0 wi) cF cDv cG AB AB AB ?_;exact⟨(i+1,_,_),⟨h2,hB2⟩,by dsimp only;omega,by(dsimp only;rw[hsn];exact AI)⟩
  ·dsimp only[Eg,Eh,List.cons_append,List.nil_append]
   have htk:List.take (TL.length+1) (z9::TL)=z9::TL:=by simp
   rw[Bl]at hTl;have hb64:TL.length+1<64:=by omega
   refine AJ Eb (Ac e1 kN) hmk AB AB AB AB AB ?_;refine PI (d':=dy) rfl rfl rfl rfl rfl rfl hLk rfl ?_;refine As ?_;refine AJ Eb (At n0 wi htk) cF cDv cG AB AB AB ?_;exact⟨(i+1,_,_),⟨h2,hB2⟩,by dsimp only;omega,by(dsimp only;rw[hsn,KZ];exact AI)⟩
 have e1:=CX h2;have wi:=Cf (i:=i) (by omega);obtain⟨x,hxi⟩:=CQ h2;obtain⟨x1,x2,x3⟩:=hx x (A8 hxi);have hm:(l.map AG.D)[i]?=some (.agg [str (sb x.grain),i64 x.mass,.sl false 2 (x.shs.map Au.D)]):=by rw[BH,hxi];rfl
 have es:(((x.shs.map Au.D).length:Nat):Int)=(x.shs.length:Int):=by rw[Ap]
 refine AJ Eb (At e1 es kN) hm AB AB AB AB AB ?_;obtain⟨ga,hga⟩:∃g,n1+1+1+1=g:=⟨_,rfl⟩
 refine Fr (α:=Nat×Cw×Obj×Nat) (λp=>⟨[(0,A0 b l),(2,.optr 0 0 3 0 0),(4,i64 (Av l)),(6,.prim (.map (some it))),(8,.optr 702 (n1+1+1+1) 3 0 0),(29,A0 b l),(30,i64 (l.length:Int)),(31,i64 (i:Int)),(36,.sl false 2 (x.shs.map Au.D)),(37,i64 (x.shs.length:Int)),(38,i64 (p.1:Int))],[⟨702,n1+1+1+1,27,3,[.agg [str (sb x.grain),i64 x.mass,.sl false 2 (x.shs.map Au.D)]]⟩,⟨0,0,27,3,[.agg [.prim (.string ⟨#[]⟩),.prim (.int .i64 0),.prim (.slice none 0 0)]]⟩],p.2.2.2⟩) (λp=>x.shs.length-p.1)
  (λp F=>p.1<=x.shs.length/\Cu C0 F0 F [⟨400,11,p.2.2.1⟩]/\F.r0 400 11=some it/\HB F p.2.2.1 p.2.1/\MQ (320*i+5*p.1) (GA x p.1 (Bh (l.take i))) p.2.1) (0,m,o,_) ⟨BR _,hO,hr0,hM,hQ⟩ AI ?_
 clear hO hr0 hM hQ;rintro⟨j,m2,o2,n2⟩ F ⟨hj,hO,hr0,hM,hQ⟩;dsimp only at hj hO hr0 hM hQ⊢;rw[hga];rcases BI j x.shs.length with h3|h3
 rotate_left
 ·have e2:=Ca h3
  have:j=x.shs.length:=by omega
  subst this;rw[<-O2 l i hxi]at hQ;refine AJ Eb (Ac e2 wi) AB AB AB AB AB AB ?_;exact⟨(i+1,m2,o2,_),⟨h2,hO,hr0,hM,hQ.mono (by dsimp only;omega)⟩,by dsimp only;omega,AI⟩
 have e2:=CX h3;have wj:=Cf (i:=j) (by omega);obtain⟨s,hsj⟩:=CQ h3;obtain⟨s1,s2,s3⟩:=x3 s (A8 hsj);have hms:(x.shs.map Au.D)[j]?=some (.agg [str (sb s.lot),str (sb s.part)]):=by rw[BH,hsj];rfl
 have hsn:=M1 x j (Bh (l.take i)) hsj;have fP:FR (CA s.part) (F9 s.part) 3:=⟨(QB s3).is,Og s3 s2⟩
 have fM:FR ((x.mass:Int):Rat) ⟨AV x.mass,1⟩ 1:=NZ (by unfold Sm at x2;omega);have c1:=QP (by omega) s3;have c2:=OC x.mass x2;have c3:=S1 fP fM (by decide);have fZ:FR (CA s.part*(x.mass:Rat)) (Hy (F9 s.part) ⟨AV x.mass,1⟩) 4:=Sl fP fM;obtain⟨z,hz⟩:∃z,Hy (F9 s.part) ⟨AV x.mass,1⟩=z:=⟨_,rfl⟩
 rw[hz]at c3 fZ;obtain⟨d1,hd1⟩:∃d,(F9 s.part).D=d:=⟨_,rfl⟩
 obtain⟨d2,hd2⟩:∃d,(⟨AV x.mass,1⟩:GF).D=d:=⟨_,rfl⟩
 have pd1:AA d1:=by rw[<-hd1];exact AH
 have pd2:AA d2:=by rw[<-hd2];exact AH
 rw[hd1]at c1 c3;rw[hd2]at c2 c3;refine sZ 900 ?_;refine AD e2 ?_;refine AC.seq ?_;refine AL ?_;refine Aj ?_;refine AC.seq ?_;refine AC.block ?_;refine sZ 1000 ?_;refine Bo kT hms ?_;refine AD kB ?_;refine AC.seq ?_;refine B5 w1 1100 [0,1,2,3,4,5,6,7] [8] (by kernel_rfl) ?_;refine AD kB ?_;refine BS.same _ (c1) AH ?_;refine BL ?_;refine AD kB ?_;refine BS.same _ (c2) AH ?_;refine BL ?_;refine AD kB ?_;refine BS.same _ (c3) AH ?_;refine BL ?_;refine AD kB ?_;refine AC.seq ?_;refine AC.seq ?_;refine HL (by kernel_rfl) ?_;change BY _ _ _ _ _ ([0,1,2]++(3::([4,5,6,7,8,9]++[]))) _ _;refine FG w1 1200 [0,1,2] _ ?_;refine AD kB ?_;refine BY.look (xo:=⟨400,11,o2⟩) (l:=m2) w1 rfl rfl rfl rfl rfl rfl hO Ce hr0 hM ?_;rcases hQ.look s.lot with⟨q1,q2⟩|⟨r,y,q1,q2,q3⟩
 ·rw[VC q1]
  refine FG w1 1200 [4,5,6,7,8,9] [] ?_;refine AD kB ?_;refine BY.nil ?_;refine As ?_;refine sZ 1300 ?_;refine AD kB ?_;refine AL ?_;refine Aj ?_;refine HL (by kernel_rfl) ?_;change BY _ _ _ _ _ ([0,1,2,3]++(4::[])) _ _;refine FG w1 1500 [0,1,2,3] _ ?_;refine AD kB ?_;refine BY.put (l:=m2) w1 rfl rfl rfl rfl rfl rfl hO hr0 hM (λF3 o3 hto3 hO3 hr3 hM3=>BY.nil ?_);refine As ?_;have hQ2:MQ (320*i+5*(j+1)) (GA x (j+1) (Bh (l.take i))) (FE (sb s.lot) z.D m2):=by
   rw[hsn];unfold JK;rw[q2];exact MQ.set s.lot ⟨fZ.is,fZ.rk.mono (by omega)⟩ (hQ.mono (by omega))
  refine AJ Eb wj AB AB AB AB AB AB ?_;exact⟨(j+1,FE (sb s.lot) z.D m2,o3,_),⟨h3,hO3,hr3,hM3,hQ2⟩,by dsimp only;omega,AI⟩
 ·rw[VD q1]
  refine FG w1 1200 [4,5,6,7,8,9] [] ?_;refine AD kB ?_;refine BY.nil ?_;have c4:=QK fZ q3 (by omega);have fA:=Py fZ q3;obtain⟨z2,hz2⟩:∃z2,JG z y=z2:=⟨_,rfl⟩
  rw[hz2]at c4 fA;refine As ?_;refine sZ 1300 ?_;refine AD kB ?_;refine AL ?_;refine An w1 1400 (by kernel_rfl) ?_;refine AD kB ?_;refine cI c4 ?_;refine AD kB ?_;refine HL (by kernel_rfl) ?_;change BY _ _ _ _ _ ([0,1,2,3]++(4::[])) _ _;refine FG w1 1500 [0,1,2,3] _ ?_;refine AD kB ?_;refine BY.put (l:=m2) w1 rfl rfl rfl rfl rfl rfl hO hr0 hM (λF3 o3 hto3 hO3 hr3 hM3=>BY.nil ?_);refine As ?_;have hQ2:MQ (320*i+5*(j+1)) (GA x (j+1) (Bh (l.take i))) (FE (sb s.lot) z2.D m2):=by
   rw[hsn];unfold JK;rw[q2];exact MQ.set s.lot ⟨fA.is,fA.rk.mono (by omega)⟩ (hQ.mono (by omega))
  refine AJ Eb wj AB AB AB AB AB AB ?_;exact⟨(j+1,FE (sb s.lot) z2.D m2,o3,_),⟨h3,hO3,hr3,hM3,hQ2⟩,by dsimp only;omega,AI⟩
abbrev ib:Dr:=[(1,[0,1,2,3,4,5],[6,7])]
open Go.Proofs Go.RowKit Go.Sort
set_option maxRecDepth 20000
set_option maxHeartbeats 4000000
theorem vg {C:BC}{f sz:Nat}{ds:List D}{Φ:D->Prop}(h1:Ai C f (CE::ds) Φ)(h2:Ai C f (.sl true sz []::ds) Φ):Ai C f (.sl false sz []::ds) Φ:=by
 refine⟨h1.1,λX w vs a b c e g=>?_⟩;have g0:=g 0 _ rfl;generalize hv:vs.getD 0 undef=v at g0;cases g0 with
 |nil=>
  refine h1.2 X w vs a b c e λi d hd=>?_
  match i with
  | 0=>cases hd;rw[hv];exact .prim _
  |i+1=>exact g (i+1) d hd
 |emp a0=>
  refine h2.2 X w vs a b c e λi d hd=>?_
  match i with
  | 0=>cases hd;rw[hv];exact .emp a0
  |i+1=>exact g (i+1) d hd
 |sl f hl hc hO hb hz hcell ho h=>
  refine h2.2 X w vs a b c e λi d hd=>?_
  match i with
  | 0=>cases hd;rw[hv];exact .sl f hl hc hO hb hz hcell ho h
  |i+1=>exact g (i+1) d hd
theorem IN {H Hf:Hp}{k g T sz:Nat}{l:List D}(he:Hp.get H k=some ⟨k,g,T,sz,l⟩)(hf:Hp.get Hf k=none:=by rfl):Fz H Hf (.osl k g sz 0 l.length) (.sl false sz l):=by
 refine .osl (e:=⟨k,g,T,sz,l⟩) he hf rfl rfl (by simp) (by simp) (λj d d' h1 h2=>?_) λj d d' q c c' h1 h2 h3 h4=>?_
 ·rw[BQ]at h1;rw[h1]at h2;cases h2;rfl
 ·rw[BQ]at h1;rw[h1]at h2;cases h2;rw[h3]at h4;cases h4;exact Fz.refl _
theorem kI (s:List Au)(hl:s.length<=1000000):AK C0 118 [CT false s] (CT false s):=by
 unfold CT;rcases s with _|⟨z,s⟩
 ·refine vg ?_ ?_
  ·refine Ai.walk w1 QN rfl λF=>?_
   refine AJ Ad kB AB AB AB AB AB AB ?_;exact⟨_,.nil 2,AA.out,rfl⟩
  ·refine Ai.walk w1 QN rfl λF=>?_
   refine AJ Ad kB AB AB AB AB AB AB ?_;exact⟨_,.osl (e:=⟨302,5,82,2,[]⟩) rfl rfl rfl rfl (Ag _) rfl (λj d d' h=>by simp at h) (λj d d' q c c' h=>by simp at h),AA.out,rfl⟩
 ·refine Ai.walk w1 QN rfl λF=>?_
  obtain⟨T,hT⟩:∃T,List.map Au.D (z::s)=T:=⟨_,rfl⟩
  have pT:AA (.sl false 2 T):=by rw[<-hT];exact AH
  have hne:T≠[]:=by rw[<-hT];simp
  have hlT:T.length<=1000000:=by rw[<-hT,Ap];exact hl
  rw[hT];refine AJ Ad hne AB AB AB AB AB AB ?_;exact⟨_,by rw[BQ];exact IN rfl,pT.out,rfl⟩
theorem ZG (x:AG)(m:Int)(hl:x.shs.length<=1000000):AK C0 63 [x.D,i64 m] ((⟨x.grain,m,x.shs⟩:AG).D):=by
 refine Ai.walk w1 aO rfl λF=>?_
 have cC:=kI x.shs hl;unfold AG.D;dsimp only;unfold CT at cC⊢;obtain⟨SD,hSD⟩:∃d,x.shs.map Au.D=d:=⟨_,rfl⟩
 have pS:AA (.sl false 2 SD):=by rw[<-hSD];exact AH
 rw[hSD]at cC⊢;refine AJ Ad kB cC AB AB AB AB AB ?_;exact AO rfl AA.out
theorem jJ (b:Bool)(l:List AG)(hl:l.length<=1000000)(h0:l≠[])(H:Hp)(n:Nat):CW C0 57 [A0 b l] H n
  (λd H' n'=>∃g,d=.osl 302 g 3 0 l.length/\H'=⟨302,g,27,3,l.map AG.D⟩::H/\n'=n+7):=by
 refine CW.walk w1 aI rfl λF=>?_
 unfold A0;obtain⟨T,hT⟩:∃T,l.map AG.D=T:=⟨_,rfl⟩
 have pT:AA (.sl b 3 T):=by rw[<-hT];exact AH
 have hne:T≠[]:=by rw[<-hT];simpa using h0
 have hlT:T.length<=1000000:=by rw[<-hT,Ap];exact hl
 rw[hT,<-Ap (f:=AG.D),hT];cases b
 all_goals
  refine sZ 0 ?_;refine AD kB ?_;refine AC.seq ?_;refine sZ 100 ?_;refine AD kB ?_;refine AL ?_;refine Aj ?_;refine sZ 300 ?_;refine AD kB ?_;refine Ab ?_;exact⟨_,by rw[BQ],rfl,rfl⟩
theorem rH (b:Bool)(x y:AG)(l:List AG):AK C0 112 [x.D,  .pptr (.sl b 3 ((y::l).map AG.D))] (Aq (!Bj (sb x.grain) (sb y.grain))):=by
 refine Ai.walk w1 Yr rfl λF=>?_
 have hm:((y::l).map AG.D)[0]?=some (.agg [str (sb y.grain),i64 y.mass,.sl false 2 (y.shs.map Au.D)]):=rfl;obtain⟨T,hT⟩:∃T,(y::l).map AG.D=T:=⟨_,rfl⟩
 have pT:AA (.sl b 3 T):=by rw[<-hT];exact AH
 obtain⟨S,hS⟩:∃S,x.shs.map Au.D=S:=⟨_,rfl⟩
 have pS:AA (.sl false 2 S):=by rw[<-hS];exact AH
 rw[hT]at hm⊢;unfold AG.D CT;rw[hS];refine AJ ib kB hm AB AB AB AB AB ?_;exact AO rfl AA.out
theorem rK (b:Bool)(l:List AG)(c:D)[pc:AA c](p:AG->Bool)(hl:l.length<=1000000)(hc:∀x∈l,AK C0 112 [x.D,c] (Aq (p x))):AK C0 159 [A0 b l,.clo (.func 112) [] [c]] (i64 (KC p l)):=by
 refine Ai.walk w1 YH rfl λF=>?_
 have el:(((l.map AG.D).length:Nat):Int)=(l.length:Int):=by rw[Ap]
 refine AJ Ad el AB AB AB AB AB AB ?_;refine AC.loop (α:=Nat×Nat) (λp=>⟨[(0,A0 b l),(1,.clo (.func 112) [] [c]),(7,i64 l.length),(8,i64 (p.1:Int))],[],p.2⟩) (λp=>l.length-p.1) (λq=>q.1<=l.length/\∀(j:Nat) (x:AG),j<q.1->l[j]?=some x->p x=false) (0,_) ⟨BR _,λj x hj=>AY hj (HP j)⟩ AI ?_;rintro⟨i,n⟩ F ⟨hi,ha⟩;dsimp only at hi ha⊢;rcases BI i l.length with h2|h2
 rotate_left
 ·have e1:=Ca h2
  have:i=l.length:=by omega
  subst this;refine AJ Ad e1 AB AB AB AB AB AB ?_;exact AO (by rw[Vv ha]) AA.out
 have e1:=CX h2;have wi:=Cf (i:=i) (by omega);obtain⟨x,hx⟩:=CQ h2;have hm:(l.map AG.D)[i]?=some (.agg [str (sb x.grain),i64 x.mass,.sl false 2 (x.shs.map Au.D)]):=by rw[BH,hx];rfl
 have cn:=hc x (A8 hx);unfold AG.D at cn;cases hb:p x
 ·rw[hb]at cn
  refine AJ Ad (At e1 wi kN) hm cn AB AB AB AB ?_;refine⟨(i+1,_),⟨h2,λj z hj hjz=>?_⟩,by dsimp only;omega,AI⟩;rcases BI j i with h|h
  ·exact ha j z h hjz
  ·have:j=i:=by dsimp only at hj;omega
   subst this;rw[hx]at hjz;cases hjz;exact hb
 ·rw[hb]at cn
  refine AJ Ad (At e1 wi kN) hm cn AB AB AB AB ?_;exact AO (by rw[XP hx hb ha]) AA.out
theorem rJ (b:Bool)(l:List AG)(c:D)[pc:AA c](p:AG->Bool)(hl:l.length<=1000000)(hc:∀x∈l,AK C0 112 [x.D,c] (Aq (p x))):AK C0 111 [A0 b l,.clo (.func 112) [] [c]] (Aq (l.any p)):=by
 refine Ai.walk w1 Yq rfl λF=>?_
 have c1:=rK b l c p hl hc;have e1:=XQ p l;refine AJ Ad e1 c1 AB AB AB AB AB ?_;exact AO rfl AA.out
theorem gB (b:Bool)(l:List AG)(hl:l.length<=1000000):AK C0 60 [A0 b l] (i64 (if CZ l then 0 else 16:Nat)):=by
 refine Ai.walk w1 aL rfl λF=>?_
 have cH:AK C0 111 [A0 b l,.clo (.func 112) [] [.pptr (A0 b l)]] (Aq (!CZ l)):=by
  have:=rJ b l (.pptr (A0 b l)) (λx=>!Bj (sb x.grain) (sb (Bi l 0).grain)) hl λx hx=>by
   rcases l with _|⟨y,l⟩
   ·cases hx
   ·exact rH b x y l
  have he:(l.any λx=>!Bj (sb x.grain) (sb (Bi l 0).grain)) = !CZ l:=by
   unfold CZ;rw[List.not_all_eq_any_not]
  rwa [he]at this
 have cW:=ML (!CZ l) 16;refine AJ Ad kB cH cW AB AB AB AB ?_;refine Az.own _ (Ic cH rfl (λi a d h1 h2=>by
  match i with
  | 0=>cases h1;cases h2;exact .refl _ _
  | 1=>cases h1;cases h2;exact .clo1 (.ptr rfl rfl rfl rfl)
  |n+2=>cases h1) AH (.prim _)) ?_
 rintro d H' n' ⟨rfl,rfl,rfl⟩;refine AJ Ad kB cW AB AB AB AB AB ?_;exact AO (by cases CZ l<;>rfl) AA.out
theorem Ly {l:List AG}(h:CC l=0):l.length<=64/\(∀x∈l,CK x=0)/\Av l<=999999999:=by
 unfold CC at h;split at h
 ·cases h
 ·split at h
  ·rename_i h3;exact AY h h3
  ·split at h
   ·cases h
   ·refine⟨by omega,λx hx=>?_,by omega⟩
    obtain⟨j,hj⟩:=List.mem_iff_getElem?.1 hx
    have:=PR (f:=λi=>CK (Bi l i)) (n:=l.length) (by omega) j (List.getElem?_eq_some_iff.1 hj).1
    rwa [Dd hj]at this
theorem VH {l:List AG}(hf:∀x∈l,x.lite)(hz:∀x∈l,CK x=0)(hl:l.length<=64):(∀x∈l,x.ok)/\Gp (λk=>k.length<=1000) 4096 (Bh l):=by
 have hx:∀x∈l,x.ok:=λx h=>(Sy (hf x h) (hz x h)).1
 exact⟨hx,(Rc λx h=>⟨(hx x h).1,λs hs=>((hf x h).2 s hs).1⟩).mono (by omega)⟩
def Qg (l:List AG):Nat:=if CC l≠0 then CC l else Gq (Bh l)
def Qh (l:List AG):Bb:=if CC l≠0 then[]else HC (Bh l)
theorem tu (b:Bool)(l:List AG)(hl:l.length<=1000000)(hf:∀x∈l,x.lite):AK C0 36 [A0 b l] (.tup [.sl false 2 ((Qh l).map BM),i64 (Qg l:Nat)]):=by
 refine Ai.walk w1 aY rfl λF=>?_
 have cP:=OF b l (by omega) λx hx=>(hf x hx).1
 have hR:Qh l=if CC l≠0 then[]else HC (Bh l):=rfl
 have hE:Qg l=if CC l≠0 then CC l else Gq (Bh l):=rfl
 rcases Nat.decEq (CC l) 0 with g|g
 ·have e1:=Eo g
  rw[AF g]at hR hE;rw[hR,hE];refine AJ Ad e1 cP AB AB AB AB AB ?_;exact⟨_,IP (.nil 2) (.refl _),AA.out,rfl⟩
 have e1:=FC g;rw[AE (λh=>h g)]at hR hE;rw[hR,hE];obtain⟨g1,g2,g3⟩:=Ly g;obtain⟨hx,hK⟩:=VH hf g2 g1;have cL:=tv b l (by omega) hx;refine AJ Ad e1 cP AB AB AB AB AB ?_;refine Az.prop _ _ (EW.refl _) cL AH ?_;rintro d ⟨m,rfl,hQ⟩;have cA:=WQ 32000 (by omega) (Bh l) m hQ (BO hK.len (by omega)) hK.nd;have pM:AA (mapD m):=⟨hQ.mapD⟩
 unfold I9 at cA;obtain⟨M,hM⟩:∃M,mapD m=M:=⟨_,rfl⟩
 rw[hM]at cA pM⊢;refine AJ Ad kB cA AB AB AB AB AB ?_;exact AO rfl AA.out
def B9 (g:List UInt8)(x:AG):AG:=⟨g,x.mass,x.shs⟩
def D3 (l:List AG)(g:List UInt8):Nat:=if CC l≠0 then CC l else if Co g=false then 8 else if l.length=0 then 13 else 0
def EK (l:List AG)(g:List UInt8):Nat:=if D3 l g≠0 then D3 l g else Df (l.map (B9 g))
def Hs (l:List AG)(g:List UInt8):AG:=if D3 l g≠0 then⟨[],0,[]⟩else FS (l.map (B9 g))
theorem Xa (g:List UInt8){l:List AG}{i:Nat}{x:AG}(hx:l[i]?=some x):
  (((l.take i).map (B9 g)++l.drop i).map AG.D).set i (.agg [str (sb g),i64 x.mass,.sl false 2 (x.shs.map Au.D)])=((l.take (i+1)).map (B9 g)++l.drop (i+1)).map AG.D:=by
 have hi:=(List.getElem?_eq_some_iff.1 hx).1;have hd:l.drop i=x::l.drop (i+1):=by
  rw[EQ hi,(List.getElem?_eq_some_iff.1 hx).2]
 rw[Dv,hx,hd];simp only[DE,CJ,Option.toList_some,List.map_nil,Du,EF,FK];rw[Ob _ _ (by simp;omega)]
 have:i-(((l.take i).map (B9 g)).map AG.D).length=0:=by simp;omega
 rw[this];rfl
theorem Tj (b:Bool)(l:List AG)(g:List UInt8)(hl:l.length<=1000000)(hf:∀x∈l,x.lite)(hg:g.length<=100000):AK C0 11 [A0 b l,str (sb g)] (.tup [(Hs l g).D,i64 (EK l g:Nat)]):=by
 refine Ai.walk w1 Z7 rfl λF=>?_
 have el:(((l.map AG.D).length:Nat):Int)=(l.length:Int):=by rw[Ap]
 have cP:=OF b l (by omega) λx hx=>(hf x hx).1
 have cN:=Ps g;have hN:EK l g=if D3 l g≠0 then D3 l g else Df (l.map (B9 g)):=rfl
 have hL:Hs l g=if D3 l g≠0 then⟨[],0,[]⟩else FS (l.map (B9 g)):=rfl
 have hE:D3 l g=if CC l≠0 then CC l else if Co g=false then 8 else if l.length=0 then 13 else 0:=rfl
 obtain⟨K,hK⟩:∃K,Co g=K:=⟨_,rfl⟩
 have cW1:=ML (!K) 8;have cW2:=ML ((l.length:Int)==0) 13;have cF:AK C0 54 [.sl true 1 [i64 (CC l:Nat),i64 (if !K then 8 else 0),i64 (if(l.length:Int)==0 then 13 else 0)]] (i64 (D3 l g:Nat)):=by
  have:=Sx [(CC l:Int),if !K then 8 else 0,if(l.length:Int)==0 then 13 else 0] (by simp)
  have he:Ec [(CC l:Int),if !K then 8 else 0,if(l.length:Int)==0 then 13 else 0]=((D3 l g:Nat):Int):=by
   rw[hE,hK]
   by_cases h1:CC l=0<;>cases K<;>by_cases h3:l.length=0<;>simp[Ec,h1,h3]
  rw[he]at this;exact this
 rw[hK]at cN;rcases Nat.decEq (D3 l g) 0 with g0|g0
 ·have e1:=Eo g0
  rw[AF g0]at hN hL;rw[hN,hL];refine AJ Ad (Ac el e1) cP cN cW1 cW2 cF AB ?_;exact⟨_,Ju _ _,AA.out,rfl⟩
 have e1:=FC g0;rw[AE (λh=>h g0)]at hN hL;rw[hN,hL];have h0:l≠[]:=λh=>by
  rw[hE]at g0;split at g0
  ·rename_i h9;exact h9 g0
  ·split at g0
   ·cases g0
   ·split at g0
    ·cases g0
    ·rename_i h9;exact h9 (by rw[h];rfl)
 refine AJ Ad (Ac el e1) cP cN cW1 cW2 cF AB ?_;refine Az.own _ (jJ b l hl h0 _ _) ?_;rintro d H' n' ⟨gk,rfl,rfl,rfl⟩;refine AJ Ad kB AB AB AB AB AB AB ?_;refine AC.loop (α:=Nat×Nat) (λp=>⟨[(1,str (sb g)),(4,.optr 0 0 3 0 0),(7,.osl 302 gk 3 0 l.length),(28,i64 (l.length:Int)),(29,i64 (p.1:Int))],[⟨302,gk,27,3,((l.take p.1).map (B9 g)++l.drop p.1).map AG.D⟩,⟨0,0,27,3,[.agg [.prim (.string ⟨#[]⟩),.prim (.int .i64 0),.prim (.slice none 0 0)]]⟩],p.2⟩) (λp=>l.length-p.1)
  (λp=>p.1<=l.length) (0,_) (BR _) AI ?_
 rintro⟨i,n⟩ F hi;dsimp only at hi⊢;rcases BI i l.length with h2|h2
 rotate_left
 ·have e1:=Ca h2
  have:i=l.length:=by omega
  subst this;rw[DL,JS,DS];have hlr:(l.map (B9 g)).length=l.length:=Ap ..;have hfr:∀x∈l.map (B9 g),x.lite:=λx hx=>by
   obtain⟨y,hy,rfl⟩:=List.mem_map.1 hx;obtain⟨⟨a1,a2,a3⟩,a4⟩:=hf y hy;exact⟨⟨hg,a2,a3⟩,a4⟩
  have cM:=uI false (l.map (B9 g)) (by rw[hlr];exact hl) hfr;obtain⟨R,hR⟩:∃R,l.map (B9 g)=R:=⟨_,rfl⟩
  rw[hR]at cM hlr⊢;obtain⟨Z,hZ⟩:∃Z:AG,FS R=Z:=⟨_,rfl⟩
  rw[hZ]at cM⊢;refine AJ Ad e1 AB AB AB AB AB AB ?_;have hfz:Fz [⟨302,gk,27,3,R.map AG.D⟩,⟨0,0,27,3,[.agg [.prim (.string ⟨#[]⟩),.prim (.int .i64 0),.prim (.slice none 0 0)]]⟩] [⟨0,0,27,3,[.agg [.prim (.string ⟨#[]⟩),.prim (.int .i64 0),.prim (.slice none 0 0)]]⟩] (.osl 302 gk 3 0 l.length) (A0 false R):=by
   have:=IN (H:=[⟨302,gk,27,3,R.map AG.D⟩,⟨0,0,27,3,[.agg [.prim (.string ⟨#[]⟩),.prim (.int .i64 0),.prim (.slice none 0 0)]]⟩]) (Hf:=[⟨0,0,27,3,[.agg [.prim (.string ⟨#[]⟩),.prim (.int .i64 0),.prim (.slice none 0 0)]]⟩]) (k:=302) (g:=gk) (T:=27) (sz:=3) (l:=R.map AG.D) rfl
   rwa [Ap,hlr]at this
  refine Az.own _ (KJ [⟨0,0,27,3,[.agg [.prim (.string ⟨#[]⟩),.prim (.int .i64 0),.prim (.slice none 0 0)]]⟩] cM (.drop (.keep .nil)) ⟨hfz,trivial⟩ AH) ?_;rintro d H2 n2 ⟨rfl,rfl,rfl⟩;unfold AG.D;refine AJ Ad kB AB AB AB AB AB AB ?_;exact AO rfl AA.out
 have e1:=CX h2;have wi:=Cf (i:=i) (by omega);obtain⟨x,hx⟩:=CQ h2;obtain⟨es,hes⟩:∃es,((l.take i).map (B9 g)++l.drop i).map AG.D=es:=⟨_,rfl⟩
 rw[hes];have hm:es[i]?=some (.agg [str (sb x.grain),i64 x.mass,.sl false 2 (x.shs.map Au.D)]):=by
  rw[<-hes,BH,Et (by simp;omega)];simp only[Ap,BX,Ev (IB h2),Nat.sub_self,Gb,DM,hx,H8];rfl
 refine sZ 600 ?_;refine AD e1 ?_;refine AC.seq ?_;refine AL ?_;refine Aj ?_;refine AC.seq ?_;refine AC.block ?_;refine sZ 700 ?_;refine AD kB ?_;refine An w1 800 (by kernel_rfl) ?_;refine AD (At kN BQ hm) ?_;have hset:es.set i (.agg [str (sb g),i64 x.mass,.sl false 2 (x.shs.map Au.D)])=((l.take (i+1)).map (B9 g)++l.drop (i+1)).map AG.D:=by
  rw[<-hes];exact Xa g hx
 rw[hset];refine AJ Ad wi AB AB AB AB AB AB ?_;exact⟨(i+1,_),h2,by dsimp only;omega,AI⟩
theorem PY {g:List UInt8}(hg:g.length<=100000){l:List AG}(hf:∀x∈l,x.lite):∀x∈l.map (B9 g),x.lite:=λx hx=>by
 obtain⟨y,hy,rfl⟩:=List.mem_map.1 hx;obtain⟨⟨a1,a2,a3⟩,a4⟩:=hf y hy;exact⟨⟨hg,a2,a3⟩,a4⟩
theorem jg {l:List AG}{g:List UInt8}(h:D3 l g=0):CC l=0/\Co g=true/\0<l.length:=by
 unfold D3 at h;split at h
 ·rename_i h9;exact AY h h9
 ·split at h
  ·cases h
  ·split at h
   ·cases h
   ·rename_i h1 h2 h3
    exact⟨by omega,by simpa using h2,by omega⟩
theorem lT {l:List AG}(h:Df l=0):EC l=0/\(Bh l).length<=64/\∀p∈Dq (Bh l),CL (p.2/(Av l:Rat))=false:=by
 unfold Df at h;split at h
 ·rename_i h9;exact AY h h9
 ·split at h
  ·cases h
  ·split at h
   ·cases h
   ·rename_i h1 h2 h3
    refine⟨by omega,by omega,λp hp=>?_⟩
    have:=List.any_eq_false.1 ((Bool.not_eq_true _).mp h3) p hp
    exact(Bool.not_eq_true _).mp this
theorem Pm {l:List AG}(h:Df l=0):FS l=⟨(Bi l 0).grain,Av l,DQ l⟩:=by
 unfold FS;rw[AE (λq=>q h)]
theorem kG {l:List UInt8}(h:CS l=0):l.length<=100000:=by
 obtain⟨-,h2,h3,-⟩:=Pj h;have h4:(Bw l).length<=(By l).length+1:=by
  unfold By Bk;split
  ·simp;omega
  ·omega
 unfold Bw BT at*;rw[BX]at h4;rw[DY]at h3;omega
theorem Po {l:List AG}(hf:∀x∈l,x.lite)(h:Df l=0):(DQ l).length<=64/\∀s∈DQ l,s.lot.length<=1000/\s.part.length<=100000/\CS s.part=0/\rk (CA s.part) 600:=by
 obtain⟨h1,h2,h3⟩:=lT h;obtain⟨g1,g2,g3,g4,g5⟩:=Sk h1;obtain⟨hx,hK⟩:=VH hf g3 g2;refine⟨by unfold DQ;rw[Ap,(IJ _).length_eq];exact h2,λs hs=>?_⟩;unfold DQ at hs;obtain⟨p,hp,rfl⟩:=List.mem_map.1 hs;have hc:=kH (h3 p hp);refine⟨hK.all p.1 (List.mem_map_of_mem ((IJ _).mem_iff.1 hp)),?_,hc,L8 hc⟩;exact kG hc
def Ed (l:List AG)(left:Int):AG:=⟨(Bi l 0).grain,Av l-left,DQ (l.map (B9 (Bi l 0).grain))⟩
def DX (l:List AG)(left:Int):Nat:=if CC l≠0 then CC l else if left<1 then 3 else if Av l<left then 13 else if CZ l=false then 16 else if EK l (Bi l 0).grain≠0 then EK l (Bi l 0).grain
 else if Av l=left then 0 else Gq (Bh [Ed l left])
def Hz (l:List AG)(left:Int):AG:=if DX l left≠0 then⟨[],0,[]⟩else⟨(Bi l 0).grain,left,DQ (l.map (B9 (Bi l 0).grain))⟩
def Fq (l:List AG)(left:Int):Bb:=if DX l left≠0 then[]else if Av l=left then[]else HC (Bh [Ed l left])
theorem Hd {H:Hp}{a a' b b' c:D}(h1:Fz H [] a a')(h2:Fz H [] b b'):Fz H [] (.tup [a,b,c]) (.tup [a',b',c]):=.tup rfl λi d d' h h'=>by
 match i with
 | 0=>cases h;cases h';exact h1
 | 1=>cases h;cases h';exact h2
 | 2=>cases h;cases h';exact .refl _
 |n+3=>cases h
theorem MS (H:Hp):Fz H [] (.agg [str ⟨#[]⟩,i64 0,CE]) (⟨[],0,[]⟩:AG).D:=.agg rfl λi d d' h h'=>by
 match i with
 | 0=>cases h;cases h';exact .refl _
 | 1=>cases h;cases h';exact .refl _
 | 2=>cases h;cases h';exact .nil 2
 |n+3=>cases h
theorem Xf (b:Bool)(l:List AG)(left:Int)(hl:l.length<=1000000)(hf:∀x∈l,x.lite):AK C0 12 [A0 b l,i64 left] (.tup [(Hz l left).D,.sl false 2 ((Fq l left).map BM),i64 (DX l left:Nat)]):=by
 refine Ai.walk w1 Z8 rfl λF=>?_
 have cP:=OF b l (by omega) λx hx=>(hf x hx).1
 have hE:DX l left=if CC l≠0 then CC l else if left<1 then 3 else if Av l<left then 13 else if CZ l=false then 16 else if EK l (Bi l 0).grain≠0 then EK l (Bi l 0).grain
  else if Av l=left then 0 else Gq (Bh [Ed l left]):=rfl
 have hX:Hz l left=if DX l left≠0 then⟨[],0,[]⟩else⟨(Bi l 0).grain,left,DQ (l.map (B9 (Bi l 0).grain))⟩:=rfl
 have hL:Fq l left=if DX l left≠0 then[]else if Av l=left then[]else HC (Bh [Ed l left]):=rfl
 have cW1:=ML (decide (left<1)) 3;obtain⟨E0,hE0⟩:∃e:Nat,(if CC l≠0 then CC l else if left<1 then 3 else 0)=e:=⟨_,rfl⟩
 have cF0:AK C0 54 [.sl true 1 [i64 (CC l:Nat),i64 (if decide (left<1)then 3 else 0)]] (i64 (E0:Nat)):=by
  have:=Sx [(CC l:Int),if decide (left<1)then 3 else 0] (by simp)
  have he:Ec [(CC l:Int),if decide (left<1)then 3 else 0]=((E0:Nat):Int):=by
   rw[<-hE0]
   by_cases h1:CC l=0<;>by_cases h2:left<1<;>simp[Ec,h1,h2]
  rw[he]at this;exact this
 rcases Nat.decEq E0 0 with g0|g0
 ·have e1:=Eo g0
  have hE2:DX l left=E0:=by
   rw[hE,<-hE0];split
   ·rfl
   ·rename_i h1
    rw[<-hE0,AE h1]at g0;split
    ·rfl
    ·rename_i h2;exact AY (AE h2) g0
  rw[hE2]at hX hL⊢;rw[AF g0]at hX hL;rw[hX,hL];refine AJ Ad e1 cP cW1 cF0 AB AB AB ?_;exact⟨_,Hd (MS _) (.nil 2),AA.out,rfl⟩
 have e1:=FC g0;have hp0:CC l=0:=by
  apply Ct;intro h;rw[AF h]at hE0;omega
 have hl1:¬left<1:=λh=>by
  rw[AE (λq=>q hp0),AF h]at hE0;omega
 rw[AE (λh=>h hp0),AE hl1]at hE;obtain⟨p1,p2,p3⟩:=Ly hp0;have hsm:No l:=⟨by omega,λx hx=>by have:=IL (p2 x hx);omega⟩
 have cT:=X6 b l hsm;have cG:=gB b l hl;have cW2:=ML (decide (Av l<left)) 13;obtain⟨E1,hE1⟩:∃e:Nat,(if Av l<left then 13 else if CZ l=false then 16 else 0)=e:=⟨_,rfl⟩
 have cF1:AK C0 54 [.sl true 1 [i64 (if decide (Av l<left)then 13 else 0),i64 (if CZ l then 0 else 16:Nat)]] (i64 (E1:Nat)):=by
  have:=Sx [if decide (Av l<left)then 13 else 0,((if CZ l then 0 else 16:Nat):Int)] (by simp)
  have he:Ec [if decide (Av l<left)then 13 else 0,((if CZ l then 0 else 16:Nat):Int)]=((E1:Nat):Int):=by
   rw[<-hE1]
   by_cases h1:Av l<left<;>cases CZ l<;>simp[Ec,h1]
  rw[he]at this;exact this
 rcases Nat.decEq E1 0 with g1|g1
 ·have e2:=Eo g1
  have hE2:DX l left=E1:=by
   rw[hE,<-hE1];split
   ·rfl
   ·rename_i h1
    rw[<-hE1,AE h1]at g1;split
    ·rfl
    ·rename_i h2;exact AY (AE h2) g1
  rw[hE2]at hX hL⊢;rw[AF g1]at hX hL;rw[hX,hL];refine AJ Ad e1 cP cW1 cF0 AB AB AB ?_;refine AJ Ad e2 cT cW2 cG cF1 AB AB ?_;exact⟨_,Hd (MS _) (.nil 2),AA.out,rfl⟩
 have e2:=FC g1;have hs1:¬Av l<left:=λh=>by
  rw[AF h]at hE1;omega
 have hs2:¬CZ l=false:=λh=>by
  rw[AE hs1,AF h]at hE1;omega
 rw[AE hs1,AE hs2]at hE;have hl0:0<l.length:=by
  rcases l with _|⟨y,l⟩
  ·exfalso;apply hs1
   show(0:Int)<left;omega
  ·simp
 obtain⟨x0,hx0⟩:∃x,l[0]?=some x:=⟨_,BF hl0⟩
 have hm0:(l.map AG.D)[0]?=some (.agg [str (sb x0.grain),i64 x0.mass,.sl false 2 (x0.shs.map Au.D)]):=by rw[BH,hx0];rfl
 have hgr:(Bi l 0).grain=x0.grain:=by rw[Dd hx0]
 have hg9:=(hf x0 (A8 hx0)).1.1;have cPo:=Tj b l x0.grain hl hf hg9;rw[hgr]at hE hX;have hlt:Ed l left=⟨x0.grain,Av l-left,DQ (l.map (B9 x0.grain))⟩:=by unfold Ed;rw[hgr]
 rw[hlt]at hE hL;obtain⟨PN,hPN⟩:∃n,EK l x0.grain=n:=⟨_,rfl⟩
 rw[hPN]at hE cPo;rcases Nat.decEq PN 0 with g2|g2
 ·have e3:=Eo g2
  rw[AF g2]at hE;rw[hE]at hX hL⊢;rw[AF g2]at hX hL;rw[hX,hL];obtain⟨Z,hZ⟩:∃Z,Hs l x0.grain=Z:=⟨_,rfl⟩
  rw[hZ]at cPo;unfold AG.D CT at cPo;obtain⟨ZS,hZS⟩:∃d,List.map Au.D Z.shs=d:=⟨_,rfl⟩
  have pZS:AA (.sl false 2 ZS):=by rw[<-hZS];exact AH
  rw[hZS]at cPo;refine AJ Ad e1 cP cW1 cF0 AB AB AB ?_;refine AJ Ad e2 cT cW2 cG cF1 AB AB ?_;refine AJ Ad e3 hm0 cPo AB AB AB AB ?_;exact⟨_,Hd (MS _) (.nil 2),AA.out,rfl⟩
 have e3:=FC g2;rw[AE (λh=>h g2)]at hE;have hpe:D3 l x0.grain=0:=by
  apply Ct;intro h
  have:EK l x0.grain=D3 l x0.grain:=AF h
  omega
 have hmn:Df (l.map (B9 x0.grain))=0:=by
  have:EK l x0.grain=Df (l.map (B9 x0.grain)):=AE (λh=>h hpe)
  omega
 have hpl:Hs l x0.grain=⟨x0.grain,Av l,DQ (l.map (B9 x0.grain))⟩:=by
  unfold Hs;rw[AE (λh=>h hpe),Pm hmn]
  congr 1
  ·rw[Dd (l:=l.map (B9 x0.grain)) (x:=B9 x0.grain x0) (by rw[BH,hx0];rfl)];rfl
  ·unfold Av;rw[List.map_map];rfl
 obtain⟨m1,m2⟩:=Po (PY hg9 hf) hmn;rw[hpl]at cPo;clear hpl hmn hpe hPN hlt;obtain⟨S,hS⟩:∃S,DQ (l.map (B9 x0.grain))=S:=⟨_,rfl⟩
 rw[hS]at cPo hE hX hL m1 m2;have ws:IntKind.i64.wrap (Av l-left)=Av l-left:=wI (by omega) (by omega);unfold AG.D at cPo;dsimp only at cPo;unfold CT at cPo;obtain⟨SD,hSD⟩:∃d,List.map Au.D S=d:=⟨_,rfl⟩
 have pSD:AA (.sl false 2 SD):=by rw[<-hSD];exact AH
 rw[hSD]at cPo
 by_cases hz:Av l=left
 ·have e4:((Av l-left)==0)=true:=by rw[Dw];omega
  rw[AF hz]at hE;rw[hE]at hX hL⊢;rw[AE (λh=>h rfl)]at hX hL;rw[AF hz]at hL;rw[hX,hL];unfold AG.D;dsimp only;unfold CT;rw[hSD];refine AJ Ad e1 cP cW1 cF0 AB AB AB ?_;refine AJ Ad e2 cT cW2 cG cF1 AB AB ?_;refine AJ Ad (At e3 ws e4) hm0 cPo AB AB AB AB ?_;exact⟨_,Hd (.refl _) (.nil 2),AA.out,rfl⟩
 have e4:((Av l-left)==0)=false:=by rw[B6];omega
 rw[AE hz]at hE hL;have cO:=ZG ⟨x0.grain,left,S⟩ (Av l-left) (by dsimp only;omega);obtain⟨Y,hY⟩:∃Y:AG,(⟨x0.grain,Av l-left,S⟩:AG)=Y:=⟨_,rfl⟩
 rw[hY]at cO hE hL;have hYo:∀x∈[Y],x.okW 602:=λx hx=>by
  rw[List.mem_singleton]at hx;rw[hx,<-hY];exact⟨m1,by unfold Sm;dsimp only;omega,λs hs=>⟨by have:=(m2 s hs).1;omega,(m2 s hs).2.1,(m2 s hs).2.2.1,(m2 s hs).2.2.2⟩⟩
 have cLo:=ZH 602 true [Y] (by simp) hYo (by omega) (by simp);have hKY:Gp (λk=>k.length<=1000) (64*[Y].length) (Bh [Y]):=Rc λx hx=>by
  rw[List.mem_singleton]at hx;rw[hx,<-hY];exact⟨m1,λs hs=>(m2 s hs).1⟩
 change Ai C0 62 [.sl true 3 [.agg [str (sb Y.grain),i64 Y.mass,.sl false 2 (Y.shs.map Au.D)]]] _ at cLo;change AK C0 63 [.agg [str (sb x0.grain),i64 left,.sl false 2 (S.map Au.D)],i64 (Av l-left)] (.agg [str (sb Y.grain),i64 Y.mass,.sl false 2 (Y.shs.map Au.D)])at cO;obtain⟨YS,hYS⟩:∃d,Y.shs.map Au.D=d:=⟨_,rfl⟩
 have pYS:AA (.sl false 2 YS):=by rw[<-hYS];exact AH
 rw[hSD,hYS]at cO;rw[hYS]at cLo;obtain⟨q,hq⟩:∃q,Bh [Y]=q:=⟨_,rfl⟩
 rw[hq]at cLo hKY hE hL;refine AJ Ad e1 cP cW1 cF0 AB AB AB ?_;refine AJ Ad e2 cT cW2 cG cF1 AB AB ?_;refine AJ Ad (At e3 ws e4) hm0 cPo cO AB AB AB ?_;refine Az.prop _ _ (EW.refl _) cLo AH ?_;rintro d ⟨m,rfl,hQ⟩;have cA:=WQ _ (by simp) q m hQ (BO hKY.len (by simp)) hKY.nd;have pM:AA (mapD m):=⟨hQ.mapD⟩
 unfold I9 at cA;obtain⟨M,hM⟩:∃M,mapD m=M:=⟨_,rfl⟩
 rw[hM]at cA pM⊢;rcases Nat.decEq (Gq q) 0 with g4|g4
 ·have e5:=Eo g4
  rw[hE]at hX hL⊢;rw[AF g4]at hX hL;rw[hX,hL];refine AJ Ad e5 cA AB AB AB AB AB ?_;exact⟨_,Hd (MS _) (.nil 2),AA.out,rfl⟩
 have e5:=FC g4;rw[hE]at hX hL⊢;rw[AE (λh=>h g4)]at hX hL;rw[hX,hL];unfold AG.D;dsimp only;unfold CT;rw[hSD];refine AJ Ad e5 cA AB AB AB AB AB ?_;exact⟨_,.refl _,AA.out,by rw[g4];rfl⟩
abbrev P2:Dr:=[(4,[0,1,2,3,4,5,6,7,8],[9])]
abbrev Hb:Dr:=[(16,[0,1,2,3,4,5,6,7,8],[9])]
open Go.Proofs Go.RowKit Go.Sort
set_option maxRecDepth 20000
set_option maxHeartbeats 4000000
def AG.modr (x:AG):Prop:=(x.shs.length<=15\/64<x.shs.length)/\x.lite
theorem V5 (l:List UInt8):Bj (sb l) (sb l)=true:=by rw[EN];exact AX rfl
theorem Wt {x:AG}(h:x.modr)(hc:CK x=0):x.okR:=by
 obtain⟨a,b,c,d⟩:=IL hc;obtain⟨e,-⟩:=Sy h.2 hc;refine⟨?_,b,c,e.2.2⟩
 have:=e.1
 rcases h.1 with q|q<;>omega
theorem ai (b:Bool)(l:List AG)(hs:No l):AK C0 19 [A0 b l] (i64 (Av l)):=by
 refine Ai.walk w1 tE rfl λF=>?_
 have el:(((l.map AG.D).length:Nat):Int)=(l.length:Int):=by rw[Ap]
 refine AJ Ad el AB AB AB AB AB AB ?_;refine AC.loop (α:=Nat×Nat) (λp=>⟨[(0,A0 b l),(3,i64 (Av (l.take p.1))),(4,i64 (p.1:Int))],[],p.2⟩) (λp=>l.length-p.1) (λp=>p.1<=l.length) (0,_) (BR _) AI ?_;rintro⟨i,m⟩ F hi;dsimp only at hi⊢;rcases BI i l.length with h2|h2
 rotate_left
 ·have e1:=Ca h2
  have:i=l.length:=by omega
  subst this;rw[DL];refine AJ Ad (Ac e1 el) AB AB AB AB AB AB ?_;exact AO rfl AA.out
 have e1:=CX h2;have wi:=Cf (i:=i) (by have:=hs.1;omega);obtain⟨x,hx⟩:=CQ h2;have hm:(l.map AG.D)[i]?=some (.agg [str (sb x.grain),i64 x.mass,.sl false 2 (x.shs.map Au.D)]):=by rw[BH,hx];rfl
 have hsum:=NA hx;have hs1:=NU (l:=l.take i) λy hy=>hs.2 y (HR hy)
 have hs2:=hs.2 x (A8 hx);have hs3:=hs.1;rw[BX]at hs1;have ws:IntKind.i64.wrap (Av (l.take i)+x.mass)=Av (l.take i)+x.mass:=wI (by omega) (by omega);refine AJ Ad (Ck e1 el wi ws kN) hm AB AB AB AB AB ?_;exact⟨(i+1,_),h2,by dsimp only;omega,by(dsimp only;rw[hsum];exact AI)⟩
theorem kq (b:Bool)(l:List AG)(hl:l.length<=1000000):AK C0 20 [A0 b l] (Aq (CZ l)):=by
 refine Ai.walk w1 tF rfl λF=>?_
 have el:(((l.map AG.D).length:Nat):Int)=(l.length:Int):=by rw[Ap]
 refine AJ P2 el AB AB AB AB AB AB ?_;refine AC.loop (α:=Nat×Nat) (λp=>⟨[(0,A0 b l),(3,i64 (p.1:Int))],[],p.2⟩) (λp=>l.length-p.1)
  (λp=>1<=p.1/\(p.1<=l.length\/p.1=1)/\∀x∈l.take p.1,Bj (sb x.grain) (sb (Bi l 0).grain)=true) (1,_) ⟨Ag _,.inr rfl,λx h=>by
   rcases l with _|⟨y,l⟩
   ·simp at h
   ·have:x=y:=by simpa using h
    rw[this];exact V5 _⟩ AI ?_
 rintro⟨i,m⟩ F ⟨hi1,hi,hs⟩;dsimp only at hi1 hi hs⊢;rcases BI i l.length with h2|h2
 rotate_left
 ·have e1:=Ca h2
  have hg:CZ l=true:=by
   unfold CZ;rw[CI];intro x hx;rw[B1 h2]at hs;exact hs x hx
  rw[hg];refine AJ P2 (Ac e1 el) AB AB AB AB AB AB ?_;exact AO rfl AA.out
 have e1:=CX h2;have wi:=Cf (i:=i) (by omega);obtain⟨x,hx⟩:=CQ h2;have hm:(l.map AG.D)[i]?=some (.agg [str (sb x.grain),i64 x.mass,.sl false 2 (x.shs.map Au.D)]):=by rw[BH,hx];rfl
 obtain⟨x0,hx0⟩:∃x,l[0]?=some x:=⟨_,BF (by omega)⟩
 have hm0:(l.map AG.D)[0]?=some (.agg [str (sb x0.grain),i64 x0.mass,.sl false 2 (x0.shs.map Au.D)]):=by rw[BH,hx0];rfl
 have hv0:=Dd hx0;obtain⟨bG,hbG⟩:∃q,Bj (sb x.grain) (sb x0.grain)=q:=⟨_,rfl⟩
 cases bG
 ·have hg:CZ l=false:=by
   unfold CZ;rw[List.all_eq_false];exact⟨x,A8 hx,by rw[hv0,hbG];decide⟩
  rw[hg];refine AJ P2 (BV e1 el hbG kN) hm hm0 AB AB AB AB ?_;exact AO rfl AA.out
 ·refine AJ P2 (Ck e1 el hbG wi kN) hm hm0 AB AB AB AB ?_
  exact⟨(i+1,_),⟨by dsimp only;omega,.inl h2,λy hy=>by
   dsimp only at hy;rw[Dv,hx]at hy;rcases List.mem_append.1 hy with q|q
   ·exact hs y q
   ·have:y=x:=by simpa using q
    rw[this,hv0];exact hbG⟩,by dsimp only;omega,AI⟩
theorem uV (b:Bool)(l:List AG)(hl:l.length<=1000000)(hf:∀x∈l,x.modr):AK C0 14 [A0 b l] (i64 (CC l:Nat)):=by
 refine Ai.walk w1 sx rfl λF=>?_
 have el:(((l.map AG.D).length:Nat):Int)=(l.length:Int):=by rw[Ap]
 have hC:CC l=if 64<l.length then 5 else if DP (λi=>CK (Bi l i)) l.length≠0 then DP (λi=>CK (Bi l i)) l.length else if Av l>999999999 then 4 else 0:=rfl
 by_cases h64:64<l.length
 ·rw[AF h64]at hC
  rw[hC];have q2:decide ((l.length:Int)>64)=true:=AX (by omega);refine AJ Ad (Ac el q2) AB AB AB AB AB AB ?_;exact AO rfl AA.out
 rw[AE h64]at hC;have q2:decide ((l.length:Int)>64)=false:=Af (by omega);refine AJ Ad (Ac el q2) AB AB AB AB AB AB ?_;refine AC.loop (α:=Nat×Nat) (λp=>⟨[(0,A0 b l),(3,i64 (p.1:Int))],[],p.2⟩) (λp=>l.length-p.1) (λp=>p.1<=l.length/\∀j,j<p.1->CK (Bi l j)=0) (0,_) ⟨BR _,λj h=>AY h (HP j)⟩ AI ?_;rintro⟨i,m⟩ F ⟨hi,hz⟩;dsimp only at hi hz⊢;rcases BI i l.length with h2|h2
 rotate_left
 ·have e1:=Ca h2
  have:i=l.length:=by omega
  subst this;rw[AE (λh=>h (Kl (f:=λi=>CK (Bi l i)) hz))]at hC;have cT:=ai b l (PK h64 hz)
  by_cases h9:Av l>999999999
  ·have e9:decide (Av l>999999999)=true:=AX h9
   rw[AF h9]at hC;rw[hC];refine AJ Ad (At e1 el e9) cT AB AB AB AB AB ?_;exact AO rfl AA.out
  ·have e9:decide (Av l>999999999)=false:=Af h9
   rw[AE h9]at hC;rw[hC];refine AJ Ad (At e1 el e9) cT AB AB AB AB AB ?_;exact AO rfl AA.out
 have e1:=CX h2;have wi:=Cf (i:=i) (by omega);obtain⟨x,hx⟩:=CQ h2;have hm:(l.map AG.D)[i]?=some (.agg [str (sb x.grain),i64 x.mass,.sl false 2 (x.shs.map Au.D)]):=by rw[BH,hx];rfl
 have hxm:=hf x (A8 hx);have cL:=bF x hxm.1 hxm.2.1;unfold AG.D at cL;rcases Nat.decEq (CK x) 0 with hc0|hc0
 ·have e3:=Eo hc0
  have:=Ll (f:=λi=>CK (Bi l i)) hz h2 (by rw[Dd hx];exact hc0)
  rw[Dd hx]at this;rw[this,AF hc0]at hC;rw[hC];refine AJ Ad (BV e1 el e3 kN) hm cL AB AB AB AB ?_;exact AO rfl AA.out
 have e3:=FC hc0;refine AJ Ad (Ck e1 el e3 wi kN) hm cL AB AB AB AB ?_;exact⟨(i+1,_),⟨h2,λj hj=>by
  rcases Nat.lt_succ_iff_lt_or_eq.1 hj with q|q
  ·exact hz j q
  ·rw[q,Dd hx];exact hc0⟩,by dsimp only;omega,AI⟩
def Ib (l:List AG):Nat:=if EC l≠0 then EC l else if 64<(Bh l).length then 5 else 0
theorem kj (b:Bool)(l:List AG)(hl:l.length<=1000000)(h8:l.length<=8\/64<l.length)(hf:∀x∈l,x.modr):AK C0 66 [A0 b l] (i64 (Ib l:Nat)):=by
 refine Ai.walk w1 tX rfl λF=>?_
 have el:(((l.map AG.D).length:Nat):Int)=(l.length:Int):=by rw[Ap]
 have hM:Ib l=if EC l≠0 then EC l else if 64<(Bh l).length then 5 else 0:=rfl
 have hC:EC l=if l.length=0 then 2 else if 64<l.length then 5 else if DP (λi=>CK (Bi l i)) l.length≠0 then DP (λi=>CK (Bi l i)) l.length else if CZ l=false then 16 else if Av l>999999999 then 4 else 0:=rfl
 by_cases h0:l.length=0
 ·rw[AF h0]at hC
  rw[hC,AF (by decide)]at hM;rw[hM];have q1:((l.length:Int)==0)=true:=by rw[h0];rfl
  refine AJ Hb (Ac el q1) AB AB AB AB AB AB ?_;exact AO rfl AA.out
 rw[AE h0]at hC;have q1:((l.length:Int)==0)=false:=by
  rw[B6];omega
 by_cases h64:64<l.length
 ·rw[AF h64]at hC
  rw[hC,AF (by decide)]at hM;rw[hM];have q2:decide ((l.length:Int)>64)=true:=AX (by omega);refine AJ Hb (At el q1 q2) AB AB AB AB AB AB ?_;exact AO rfl AA.out
 rw[AE h64]at hC;have q2:decide ((l.length:Int)>64)=false:=Af (by omega);refine AJ Hb (At el q1 q2) AB AB AB AB AB AB ?_;refine AC.loop (α:=Nat×Nat) (λp=>⟨[(0,A0 b l),(3,i64 (Av (l.take p.1))),(4,i64 (p.1:Int))],[],p.2⟩) (λp=>l.length-p.1) (λp=>p.1<=l.length/\∀j,j<p.1->CK (Bi l j)=0) (0,_) ⟨BR _,λj h=>AY h (HP j)⟩ AI ?_;rintro⟨i,m⟩ F ⟨hi,hz⟩;dsimp only at hi hz⊢;rcases BI i l.length with h2|h2
 ·have e1:=CX h2
  have wi:=Cf (i:=i) (by omega);obtain⟨x,hx⟩:=CQ h2;have hm:(l.map AG.D)[i]?=some (.agg [str (sb x.grain),i64 x.mass,.sl false 2 (x.shs.map Au.D)]):=by rw[BH,hx];rfl
  have hxm:=hf x (A8 hx);have cL:=bF x hxm.1 hxm.2.1;unfold AG.D at cL;rcases Nat.decEq (CK x) 0 with hc0|hc0
  ·have e3:=Eo hc0
   have:=Ll (f:=λi=>CK (Bi l i)) hz h2 (by rw[Dd hx];exact hc0)
   rw[Dd hx]at this;rw[this,AF hc0]at hC;rw[hC,AF hc0]at hM;rw[hM];refine AJ Hb (BV e1 el e3 kN) hm cL AB AB AB AB ?_;exact AO rfl AA.out
  have e3:=FC hc0;have hsum:=NA hx;have hs1:=NU (l:=l.take i) λy hy=>by
   obtain⟨j,hj⟩:=List.mem_iff_getElem?.1 hy;have hjl:=(List.getElem?_eq_some_iff.1 hj).1;rw[BX]at hjl;rw[EP,AF (by omega)]at hj
   have:=hz j (by omega)
   rw[Dd hj]at this
   have:=IL this
   omega
  have hs2:=IL hc0;rw[BX]at hs1;have ws:IntKind.i64.wrap (Av (l.take i)+x.mass)=Av (l.take i)+x.mass:=wI (by omega) (by omega);refine AJ Hb (Ex e1 el e3 wi ws kN) hm cL AB AB AB AB ?_;exact⟨(i+1,_),⟨h2,λj hj=>by
   rcases Nat.lt_succ_iff_lt_or_eq.1 hj with q|q
   ·exact hz j q
   ·rw[q,Dd hx];exact hc0⟩,by dsimp only;omega,by(dsimp only;rw[hsum];exact AI)⟩
 have e1:=Ca h2
 have:i=l.length:=by omega
 subst this;rw[DL];rw[AE (λh=>h (Kl (f:=λi=>CK (Bi l i)) hz))]at hC;have hsm:=PK h64 hz;refine AJ Hb (Ac e1 el) AB AB AB AB AB AB ?_;refine AC.loop (α:=Nat×Nat) (λp=>⟨[(0,A0 b l),(3,i64 (Av l)),(6,i64 (p.1:Int))],[],p.2⟩) (λp=>l.length-p.1)
  (λp=>1<=p.1/\(p.1<=l.length\/p.1=1)/\∀x∈l.take p.1,Bj (sb x.grain) (sb (Bi l 0).grain)=true) (1,_) ⟨Ag _,.inr rfl,λx h=>by
   rcases l with _|⟨y,l⟩
   ·simp at h
   ·have:x=y:=by simpa using h
    rw[this];exact V5 _⟩ AI ?_
 clear e1 m;rintro⟨i,m⟩ F ⟨hi1,hi,hs⟩;dsimp only at hi1 hi hs⊢;rcases BI i l.length with h2|h2
 ·have e1:=CX h2
  have wi:=Cf (i:=i) (by omega);obtain⟨x,hx⟩:=CQ h2;have hm:(l.map AG.D)[i]?=some (.agg [str (sb x.grain),i64 x.mass,.sl false 2 (x.shs.map Au.D)]):=by rw[BH,hx];rfl
  obtain⟨x0,hx0⟩:∃x,l[0]?=some x:=⟨_,BF (by omega)⟩
  have hm0:(l.map AG.D)[0]?=some (.agg [str (sb x0.grain),i64 x0.mass,.sl false 2 (x0.shs.map Au.D)]):=by rw[BH,hx0];rfl
  have hv0:=Dd hx0;obtain⟨bG,hbG⟩:∃q,Bj (sb x.grain) (sb x0.grain)=q:=⟨_,rfl⟩
  cases bG
  ·have hg:CZ l=false:=by
    unfold CZ;rw[List.all_eq_false];exact⟨x,A8 hx,by rw[hv0,hbG];decide⟩
   rw[AF hg]at hC;rw[hC,AF (by decide)]at hM;rw[hM];refine AJ Hb (BV e1 el hbG kN) hm hm0 AB AB AB AB ?_;exact AO rfl AA.out
  ·refine AJ Hb (Ck e1 el hbG wi kN) hm hm0 AB AB AB AB ?_
   exact⟨(i+1,_),⟨by dsimp only;omega,.inl h2,λy hy=>by
    dsimp only at hy;rw[Dv,hx]at hy;rcases List.mem_append.1 hy with q|q
    ·exact hs y q
    ·have:y=x:=by simpa using q
     rw[this,hv0];exact hbG⟩,by dsimp only;omega,AI⟩
 have e1:=Ca h2;have hg:CZ l=true:=by
  unfold CZ;rw[CI];intro x hx;rw[B1 h2]at hs;exact hs x hx
 rw[AE (by rw[hg];decide)]at hC
 by_cases h9:Av l>999999999
 ·have e9:decide (Av l>999999999)=true:=AX h9
  rw[AF h9]at hC;rw[hC,AF (by decide)]at hM;rw[hM];refine AJ Hb (At e1 el e9) AB AB AB AB AB AB ?_;exact AO rfl AA.out
 have e9:decide (Av l>999999999)=false:=Af h9;rw[AE h9]at hC;rw[hC,AE (λh=>h rfl)]at hM;have cL:=ah b l (by rcases h8 with h|h<;>omega) λx hx=>Wt (hf x hx) (by
  obtain⟨j,hj⟩:=List.mem_iff_getElem?.1 hx
  have:=hz j (List.getElem?_eq_some_iff.1 hj).1
  rwa [Dd hj]at this)
 have hll:(((FA l).map BM).length:Int)=((Bh l).length:Int):=by
  rw[Ap,NI,(IJ _).length_eq]
 rw[hM]
 by_cases h5:64<(Bh l).length
 ·have e5:decide (((Bh l).length:Int)>64)=true:=AX (by omega)
  rw[AF h5];refine AJ Hb (Ck e1 el e9 hll e5) cL AB AB AB AB AB ?_;exact AO rfl AA.out
 ·have e5:decide (((Bh l).length:Int)>64)=false:=Af (by omega)
  rw[AE h5];refine AJ Hb (Ck e1 el e9 hll e5) cL AB AB AB AB AB ?_;exact AO rfl AA.out
abbrev Iv:Dr:=[(5,[0,1,2,3,4,5,6],[7,8,9]),(10,[0,1,2,3,4,5,6,7],[8,9]),(13,[0,1,2,3,4,5,6,7,8,9],[10,11,12])]
open Go.Proofs Go.RowKit Go.Sort
set_option maxRecDepth 20000
set_option maxHeartbeats 4000000
theorem XB {x:AG}(hx:x.okR){Q:Bb}{k:Nat}(h:∀p∈Q,rk p.2 k):∀j,j<=x.shs.length->∀p∈HI x j Q,rk p.2 (k+5*j)
 | 0,_,p,hp=>h p hp
 |j+1,hj,p,hp=>by
  obtain⟨s,hsj⟩:∃s,x.shs[j]?=some s:=⟨_,BF hj⟩
  rw[R2 x j Q hsj]at hp;have hso:=hx.2.2.2 s (A8 hsj);have hr4:rk (CA s.part*((x.mass:Int):Rat)) 4:=Nk (Og hso.2.2 hso.2.1) (Nc hx.2.1 hx.2.2.1);exact(Sg hr4 (XB hx h j (by omega)) p hp).mono (by omega)
theorem Wq {l:List AG}(hx:∀x∈l,x.okR):∀i,i<=l.length->∀p∈FA (l.take i),rk p.2 (75*i)
 | 0,_,p,hp=>by simp[FA]at hp
 |i+1,hi,p,hp=>by
  obtain⟨x,hxi⟩:∃x,l[i]?=some x:=⟨_,BF hi⟩
  rw[Re l i hxi]at hp;have hxo:=hx x (A8 hxi);refine(XB hxo (Wq hx i (by omega)) _ (Ag _) p hp).mono ?_
  have:=hxo.1
  omega
theorem uM (b:Bool)(l:List AG)(h8:l.length<=8)(hf:∀x∈l,x.modr)(hE:EC l=0)(h64:(Bh l).length<=64):AK C0 67 [A0 b l] (.tup [(FS l).D,i64 (Df l:Nat)]):=by
 refine Ai.walk w1 tY rfl λF=>?_
 have el:(((l.map AG.D).length:Nat):Int)=(l.length:Int):=by rw[Ap]
 have hN:Df l=if EC l≠0 then EC l else if 64<(Bh l).length then 5 else if(Dq (Bh l)).any (λp=>CL (p.2/(Av l:Rat)))then 4 else 0:=rfl
 have hL:FS l=if Df l≠0 then⟨[],0,[]⟩else⟨(Bi l 0).grain,Av l,DQ l⟩:=rfl
 rw[AE (λh=>h hE),AE (by omega)]at hN;obtain⟨g1,g2,g3,g4,g5⟩:=Sk hE;have g6:=SE g3;have hsm:No l:=⟨by omega,λx hx=>by have:=IL (g3 x hx);omega⟩
 have hoR:∀x∈l,x.okR:=λx hx=>Wt (hf x hx) (g3 x hx)
 have hSS:DQ l=(Dq (Bh l)).map λp=>⟨p.1,Al (p.2/(Av l:Rat))⟩:=rfl
 have hrk:=Wq hoR l.length (Ag _);rw[DL,NI]at hrk;have cL:=ah b l h8 hoR;rw[NI]at cL;have hsl:(Dq (Bh l)).length<=64:=by rw[(IJ _).length_eq];exact h64
 obtain⟨x0,hx0⟩:∃x,l[0]?=some x:=⟨_,BF (by omega)⟩
 have hm0:(l.map AG.D)[0]?=some (.agg [str (sb x0.grain),i64 x0.mass,.sl false 2 (x0.shs.map Au.D)]):=by rw[BH,hx0];rfl
 have hgr:(Bi l 0).grain=x0.grain:=by rw[Dd hx0]
 obtain⟨Q,hQ⟩:∃Q,Dq (Bh l)=Q:=⟨_,rfl⟩
 rw[hQ]at hN hSS hrk cL hsl;rw[hgr]at hL;refine AJ Iv kB hm0 AB AB AB AB AB ?_;refine AC.loop (α:=Nat×Nat) (λp=>⟨[(0,A0 b l),(2,.optr 0 0 3 0 0),(4,.optr 105 7 3 0 0),(5,i64 (p.1:Int))],[⟨105,7,27,3,[.agg [str (sb x0.grain),i64 (Av (l.take p.1)),.prim (.slice none 0 0)]]⟩,⟨0,0,27,3,[.agg [.prim (.string ⟨#[]⟩),.prim (.int .i64 0),.prim (.slice none 0 0)]]⟩],p.2⟩) (λp=>l.length-p.1)
  (λp=>p.1<=l.length) (0,_) (BR _) AI ?_
 rintro⟨i,m⟩ F hi;dsimp only at hi⊢;rcases BI i l.length with h2|h2
 ·have e1:=CX h2
  have wi:=Cf (i:=i) (by omega);obtain⟨x,hx⟩:=CQ h2;have hm:(l.map AG.D)[i]?=some (.agg [str (sb x.grain),i64 x.mass,.sl false 2 (x.shs.map Au.D)]):=by rw[BH,hx];rfl
  have hsum:=NA hx;have hs1:=NU (l:=l.take i) λy hy=>hsm.2 y (HR hy)
  have hs2:=hsm.2 x (A8 hx);rw[BX]at hs1;have ws:IntKind.i64.wrap (Av (l.take i)+x.mass)=Av (l.take i)+x.mass:=wI (by omega) (by omega);refine AJ Iv (Ck e1 el wi ws kN) hm AB AB AB AB AB ?_;exact⟨(i+1,_),h2,by dsimp only;omega,by(dsimp only;rw[hsum];exact AI)⟩
 have e1:=Ca h2
 have:i=l.length:=by omega
 subst this;rw[DL];have elQ:(((Q.map BM).length:Nat):Int)=(Q.length:Int):=by rw[Ap]
 refine AJ Iv (Ac e1 el) cL AB AB AB AB AB ?_;have hMs:1<=Av l/\Av l<=999999999:=by omega
 have hM0:((Av l:Int):Rat)≠0:=λh=>by
  have:=Rat.intCast_inj.1 (h.trans (Rat.intCast_zero).symm)
  omega
 have hMr:=Nc hMs.1 hMs.2;have cF:=S9 (Av l) (by omega) (by omega);obtain⟨M,hMM⟩:∃M,Av l=M:=⟨_,rfl⟩
 rw[hMM]at hN hL hSS hMs hM0 hMr cF⊢;obtain⟨dM,hdM⟩:∃d,rR (M:Rat)=d:=⟨_,rfl⟩
 have pdM:AA dM:=by rw[<-hdM];exact AH
 rw[hdM]at cF;clear e1 el cL;refine AC.loop (α:=Nat×Nat×Nat) (λp=>⟨[(2,.optr 0 0 3 0 0),(4,.optr 105 7 3 0 0),(6,.sl false 2 (Q.map BM)),(7,i64 (p.1:Int))],
   DB 1310 p.2.1 82 2 ((Q.take p.1).map λz=>(⟨z.1,Al (z.2/(M:Rat))⟩:Au).D)++[⟨105,7,27,3,[.agg [str (sb x0.grain),i64 M,DK 1310 p.2.1 2 ((Q.take p.1).map λz=>(⟨z.1,Al (z.2/(M:Rat))⟩:Au).D)]]⟩,⟨0,0,27,3,[.agg [.prim (.string ⟨#[]⟩),.prim (.int .i64 0),.prim (.slice none 0 0)]]⟩],p.2.2⟩) (λp=>Q.length-p.1)
  (λp=>p.1<=Q.length/\∀z∈Q.take p.1,CL (z.2/(M:Rat))=false) (0,0,_) ⟨BR _,λz h=>by simp at h⟩ AI ?_
 clear m;rintro⟨i,g,m⟩ F ⟨hi,hB⟩;dsimp only at hi hB⊢;have hTl:((Q.take i).map λz=>(⟨z.1,Al (z.2/(M:Rat))⟩:Au).D).length=i:=by rw[Ap,BX];omega
 obtain⟨TL,hTL⟩:∃TL,((Q.take i).map λz=>(⟨z.1,Al (z.2/(M:Rat))⟩:Au).D)=TL:=⟨_,rfl⟩
 rcases BI i Q.length with h2|h2
 rotate_left
 ·have e1:=Ca h2
  have:i=Q.length:=by omega
  subst this;rw[DL]at hB hTL⊢;have hany:Q.any (λp=>CL (p.2/(M:Rat)))=false:=by
   rw[List.any_eq_false];intro p hp;rw[hB p hp];decide
  rw[AE (by rw[hany];decide)]at hN;rw[AE (by omega)]at hL;rw[hL,hN];have hres:((⟨x0.grain,M,DQ l⟩:AG).D)=.agg [str (sb x0.grain),i64 M,.sl false 2 TL]:=by
   unfold AG.D CT;rw[<-hTL,hSS,List.map_map];rfl
  have pR:Bv (.tup [(⟨x0.grain,M,DQ l⟩:AG).D,i64 ((0:Nat):Int)]):=AA.out;rw[hres]at pR;rw[hres,hTL];rcases TL with _|⟨z,TL⟩
  ·dsimp only[Fg,Fh,List.nil_append]
   refine AJ Iv (Ac e1 elQ) AB AB AB AB AB AB ?_;exact⟨_,QS (.nil 2),pR,rfl⟩
  ·dsimp only[Eg,Eh,List.cons_append,List.nil_append]
   refine AJ Iv (Ac e1 elQ) AB AB AB AB AB AB ?_;exact⟨_,QS (Se rfl),pR,rfl⟩
 have e1:=CX h2;have wi:=Cf (i:=i) (by omega);obtain⟨p,hp⟩:=CQ h2;have hmk:(Q.map BM)[i]?=some (.agg [str (sb p.1),str (sb (Al p.2))]):=by rw[BH,hp];rfl
 have hpr:=hrk p (A8 hp);have cDv:AK C0 120 [str (sb (Al p.2)),dM] (str (sb (Al (p.2/(M:Rat))))):=by
  have:=km p.2 (M:Rat) _ _ hpr hMr (by omega) hM0
  rw[hdM]at this;exact this
 have hdr:=rA hpr hMr hM0;have cG:AK C0 87 [str (sb (Al (p.2/(M:Rat))))] (i64 (if CL (p.2/(M:Rat))then 4 else 0)):=ZM _ _ hdr (by omega);obtain⟨bg,hbg⟩:∃q,CL (p.2/(M:Rat))=q:=⟨_,rfl⟩
 rw[hbg]at cG;have hsn:((Q.take (i+1)).map λz=>(⟨z.1,Al (z.2/(M:Rat))⟩:Au).D)=TL++[.agg [str (sb p.1),str (sb (Al (p.2/(M:Rat))))]]:=by
  rw[Dv,hp,DE,hTL];rfl
 rw[hTL]at hTl⊢;cases bg
 rotate_left
 ·rw[AF rfl]at cG
  have n4:((4:Int) != 0)=true:=rfl;have hany:Q.any (λp=>CL (p.2/(M:Rat)))=true:=by
   rw[List.any_eq_true];exact⟨p,A8 hp,hbg⟩
  rw[AF hany]at hN;rw[AF (by omega)]at hL;rw[hL,hN];rcases TL with _|⟨z9,TL⟩
  ·dsimp only[Fg,Fh,List.nil_append]
   refine AJ Iv (BV e1 elQ n4 kN) hmk cF cDv cG AB AB ?_;exact⟨_,Ju _ _,AA.out,rfl⟩
  ·dsimp only[Eg,Eh,List.cons_append,List.nil_append]
   refine AJ Iv (BV e1 elQ n4 kN) hmk cF cDv cG AB AB ?_;exact⟨_,Ju _ _,AA.out,rfl⟩
 rw[AE (by decide)]at cG;have n0:((0:Int) != 0)=false:=rfl;have hB2:∀w∈Q.take (i+1),CL (w.2/(M:Rat))=false:=λw hw=>by
  rw[Dv,hp]at hw;rcases List.mem_append.1 hw with h|h
  ·exact hB w h
  ·have:w=p:=by simpa using h
   rw[this];exact hbg
 rcases TL with _|⟨z9,TL⟩
 ·dsimp only[Fg,Fh,List.nil_append]
  refine AJ Iv (Ck e1 elQ n0 wi kN) hmk cF cDv cG AB AB ?_;exact⟨(i+1,_,_),⟨h2,hB2⟩,by dsimp only;omega,by(dsimp only;rw[hsn];exact AI)⟩
 ·dsimp only[Eg,Eh,List.cons_append,List.nil_append]
  have htk:List.take (TL.length+1) (z9::TL)=z9::TL:=by simp
  rw[Bl]at hTl;have hb64:TL.length+1<64:=by omega
  refine AJ Iv (Ex e1 elQ n0 wi htk kN) hmk cF cDv cG AB AB ?_;exact⟨(i+1,_,_),⟨h2,hB2⟩,by dsimp only;omega,by(dsimp only;rw[hsn,KZ];exact AI)⟩
end Go.Ide
