/- The layer of own lemmas and contracts, part 11. -/
import Derived.Test.YteeceibhhdapaaaGreatDoorV9
import Derived.Test.YteeceibhhdapaaaGreatDoorV10
import Derived.Test.YteeceibhhdapaaaGreatDoorV3
import Derived.Test.YteeceibhhdapaaaGreatDoorV7
import Derived.Shelf.RegionOpenPlain
import Derived.Lib.Builder
import Derived.Lib.UnsafeStr
import Derived.Lib.Strings
import Derived.Lib.Slices
import Derived.Lib.Walk
import Derived.Laws.Externs
import Derived.KernelRfl
import Derived.WalkKit
import Derived.Shelf.Strconv.Itoa3
import Derived.Lib.ItoaMem
import Derived.Lib.AppendIntMem
import Derived.BigCall
import Derived.BigGuard
import Derived.Test.YteeceibhhdapaaaGreatDoorV8
import Derived.Test.YteeceibhhdapaaaGreatDoorV4
import Derived.Shelf.SlSortCmp.WholeK
import Derived.Shelf.Lay
import Derived.Laws.Cover1
import Derived.Shelf.Small.Bits
import Derived.Ground.SlsfProg
import Derived.Ground.NamesProg
import Derived.Shelf.SlIter.Sorted
import Derived.Shelf.SortM.Plain
import Derived.Shelf.SortM.SortNone
import Derived.Ground.GgzProg
import Derived.Ground.SlgmProg
import Derived.Shelf.Spec.SlicesGrow
import Derived.Ground.Names8Prog
set_option linter.unusedVariables false
set_option linter.unusedSimpArgs false
namespace Go.Ide
open Go.Proofs Go.RowKit
set_option maxRecDepth 20000
set_option maxHeartbeats 4000000
theorem Cn {i n:Nat}(h:i<n):decide ((i:Int)<(n:Int))=true:=AY (by omega)
theorem Cm {i n:Nat}(h:n<=i):decide ((i:Int)<(n:Int))=false:=Ah (by omega)
theorem Cp {i:Nat}(h:i<9223372036854775807):IntKind.i64.wrap ((i:Int)+1)=((i+1:Nat):Int):=wI (by omega) (by omega)
theorem CO {α:Type}{l:List α}{i:Nat}(h:i<l.length):∃x,l[i]?=some x:=⟨l[i],BH h⟩
instance  (l:List UInt8):Al (Fl l).D:=by unfold GF.D;exact AI
theorem Fr {a:Nat}(h:a≠0):(((a:Nat):Int) != 0)=true:=NM (by omega)
theorem Fs {a:Nat}(h:a=0):(((a:Nat):Int) != 0)=false:=by subst h;rfl
theorem tM {a:Nat}(h:a≠0):(((a:Nat):Int)==0)=false:=Bw.2 (by omega)
set_option maxHeartbeats 1000000
set_option maxRecDepth 100000
theorem tJ {n:Nat}(h:1<=n):liesAt Tryz.prog Tryz.prog.depth 244 n 0 244 1=true:=by
 have hs:sameLayout Tryz.prog Tryz.prog.depth 244 244=true:=by kernel_rfl
 have hc:Tryz.prog.cellsOf 244=2:=by kernel_rfl
 obtain⟨d,hd⟩:∃d,Tryz.prog.depth=d+1:=⟨Tryz.prog.depth-1,by kernel_rfl⟩
 rw[hd]at hs⊢;unfold liesAt;rw[hd];unfold rowAt;simp[hc,hs,h]
theorem kP (b c:Nat)(hc:2<=c)(w:World)(h0:w.cell? ⟨b,0,none⟩=some (.pointer none))(hsh:w.shape? b=some (244,c))(hfz:w.frozen? ⟨b,0,none⟩=false):
  Calls Tryz.prog 262 #[.pointer (some ⟨b,0,none⟩)] w λe w'=>e=.returned (.tuple #[])/\w'=w.setCell ⟨b,0,none⟩ (.pointer (some ⟨b,0,none⟩)):=by
 obtain⟨j,hj,hjs⟩:=Option.map_eq_some_iff.1 (show(Tryz.prog.info? 244).map (·.size)=some 2 by kernel_rfl);have hl:liesAt Tryz.prog Tryz.prog.depth 244 (c/Tryz.prog.cellsOf 244) 0 244 1=true:=tJ (by rw[show Tryz.prog.cellsOf 244=2 by kernel_rfl];omega)
 go_enter Tryz.func262,Tryz.ntmps262
 go_wp2
 rw[Lib.run_to_unsafe w ⟨b,0,none⟩ (t:=244) (by kernel_rfl) (by kernel_rfl) hj (by rw[hjs];decide) hsh (by show 0<c;omega)];simp only[Result.andThen];rw[Oper.upon_value]
 go_wp2
 rw[run_callFunc_extern Tryz.func293 (by kernel_rfl) (by kernel_rfl) (by kernel_rfl) (e:=Extern.AbiNoEscape.same) (by kernel_rfl)];rw[Lib.run_noEscape];simp only[Result.andThen];rw[Oper.upon_value]
 go_wp2
 rw[Lib.run_from_unsafe w ⟨b,0,none⟩ (u:=244) (by kernel_rfl) (by kernel_rfl) hj hsh hl];simp only[Result.andThen];rw[Oper.upon_value]
 go_wp2
 go_end0
 exact⟨rfl,rfl⟩
theorem nD (b:Nat)(w:World)(h0:w.cell? ⟨b,0,none⟩=some (.pointer (some ⟨b,0,none⟩))):
  Calls Tryz.prog 262 #[.pointer (some ⟨b,0,none⟩)] w λe w'=>e=.returned (.tuple #[])/\w'=w:=by
 obtain⟨j,hj,hjs⟩:=Option.map_eq_some_iff.1 (show(Tryz.prog.info? 244).map (·.size)=some 2 by kernel_rfl)
 go_enter Tryz.func262,Tryz.ntmps262
 go_wp2
 rw[Lib.run_neq_ptr_same w _ (te:=244) (by kernel_rfl) hj]
 go_wp2
 go_end0
 exact⟨rfl,rfl⟩
theorem tL (b g:Nat)(cur cs:Array Value)(l:List UInt8)(h0:l≠[])(w:World)(hb:w.heap[b]?=some (.cells cs 244 (0,0)))(hb1:cs[1]?=some (.slice (some ⟨g,0,none⟩) l.length cur.size))
  (hg:w.heap[g]?=some (.cells cur 5 (0,0))) (hl:l.length<=cur.size) (hcap:cur.size<=maxLen) (hcell:∀(j:Nat) (x:UInt8),l[j]?=some x->cur[j]?=some (.int .u8 x.toNat)):
  Calls Tryz.prog 213 #[.pointer (some ⟨b,0,none⟩)] w λe w'=>e=.returned (.string ⟨l.toArray⟩)/\w'=(w.drew.freeze ⟨g,0,none⟩ l.length):=by
 have c1:w.drew.cell? ⟨b,1,none⟩=some (.slice (some ⟨g,0,none⟩) l.length cur.size):=by
  have:w.drew.heap[b]?=some (.cells cs 244 (0,0)):=hb
  rw[Lib.cell_of_heap this];exact hb1
 have h0':l.length≠0:=by simpa using h0
 have hSD:(Builtin.unsafeSliceData_ #[242] 279 #[.slice (some ⟨g,0,none⟩) l.length cur.size]).run Tryz.prog w.drew=.ok (.pointer (some ⟨g,0,none⟩)) w.drew:=
  Lib.run_unsafeSliceData_row _ _ _ _ _ _ (by omega)
 have hUS:(Builtin.unsafeString_ #[279,3] 9 #[.pointer (some ⟨g,0,none⟩),.int .i64 l.length]).run Tryz.prog w.drew=.ok (.string ⟨l.toArray⟩) (w.drew.freeze ⟨g,0,none⟩ l.length):=by
  refine Lib.run_unsafeString_row w.drew 279 3 9 5 (by kernel_rfl) (by kernel_rfl) g cur.size (by have hg':w.drew.heap[g]?=some (.cells cur 5 (0,0)):=hg;simp[World.shape?,hg']) l h0 (by omega) (by unfold maxLen at hcap;omega) ?_;intro j x hx;have hg':w.drew.heap[g]?=some (.cells cur 5 (0,0)):=hg
  have:=hcell j x hx
  rw[Addr.add_lit];simp[World.cell?,hg',this]
 have mixed:Tryz.prog.follows .mixedOrders=true:=by kernel_rfl
 go_enter Tryz.func213,Tryz.ntmps213
 go_wp2
 go_region_o
 all_goals(go_wp2;go_ret;exact⟨rfl,rfl⟩)
def FO (l:List UInt8):List D:=l.map λb=>.prim (.int .u8 (b.toNat:Int))
abbrev FB (g:Nat)(p x:D):Ax:=⟨1500,g,244,2,[.agg [p,x]]⟩
theorem an {vs:Array Value}(h:vs.size=1):vs = #[vs.getD 0 undef]:=by
 match vs,h with
 |⟨[u]⟩,_=>rfl
theorem ap (g n:Nat)(x p:D)(H1 H2:Hp)(hp:p=.prim (.pointer none)\/p=.optr 1500 g 2 0 0):
  CS C0 262 [.optr 1500 g 2 0 0] (H1++FB g p x::H2) n (λd H' n'=>d=.prim (.tuple #[])/\H'=H1++FB g (.optr 1500 g 2 0 0) x::H2/\n'=n):=by
 refine⟨⟨_,_,Tryz.func262,rfl,by kernel_rfl⟩,λF ρ w vs m fr hgn hvs hr=>?_⟩;have h0:=hr 0 _ rfl;rw[an hvs];generalize hv:vs.getD 0 undef=v at h0;cases h0 with
 |optr hρ=>
  rename_i b;have he:FB g p x∈H1++FB g p x::H2:=by simp
  obtain⟨cs,hc,q⟩:=m.at he hρ;have hlen:2<=cs.size:=q.len;have hr0:AV ρ (AM F.X ρ (H1++FB g p x::H2)) w p (cs.getD 0 undef):=q.rep 0 _ 0 p rfl rfl;have hr1:AV ρ (AM F.X ρ (H1++FB g p x::H2)) w x (cs.getD 1 undef):=q.rep 0 _ 1 x rfl rfl;have hcell:w.cell? ⟨b,0,none⟩=some (cs.getD 0 undef):=by
   simp[World.cell?,hc,Array.getD,show 0<cs.size by omega]
  rcases hp with rfl|rfl
  ·cases hr0':cs.getD 0 undef with
   |pointer a=>
    rw[hr0']at hr0 hcell;cases hr0;refine(kP b cs.size hlen w hcell (by simp[World.shape?,hc]) (by simp[World.frozen?,hc])).mono ?_;rintro e w' ⟨rfl,rfl⟩;have hset:w.setCell ⟨b,0,none⟩ (.pointer (some ⟨b,0,none⟩))=World.setBlk w b (cs.setIfInBounds 0 (.pointer (some ⟨b,0,none⟩))) 244:=by
     rw[setCell_eq_setRow w b 0 cs 244 (0,0) _ hc];exact Rg hc
    have hop:AV ρ (AM F.X ρ (H1++FB g (.prim (.pointer none)) x::H2)) w (.optr 1500 g 2 0 0) (.pointer (some ⟨b,0*2+0,none⟩)):=.optr hρ;have ho:Cx ρ (AM F.X ρ (H1++FB g (.prim (.pointer none)) x::H2)) w (FB g (.optr 1500 g 2 0 0) x) (cs.setIfInBounds 0 (.pointer (some ⟨b,0,none⟩))):=by
     refine⟨by rw[Tw];exact q.len,λi d hd=>?_,λi v hv=>?_,λi d j c hd hj=>?_⟩
     ·rcases i with _|i
      ·cases hd;rfl
      ·simp at hd
     ·rw[H3]at hv
      split at hv
      ·split at hv
       ·cases hv;rfl
       ·cases hv
      ·exact q.one i v hv
     ·rcases i with _|i
      ·cases hd
       rcases j with _|_|j
       ·cases hj
        have:(cs.setIfInBounds 0 (.pointer (some ⟨b,0,none⟩))).getD (0*2+0) undef=.pointer (some ⟨b,0*2+0,none⟩):=by
         simp[Az,show 0<cs.size by omega]
        rw[this];exact hop
       ·cases hj
        have:(cs.setIfInBounds 0 (.pointer (some ⟨b,0,none⟩))).getD (0*2+1) undef=cs.getD 1 undef:=by
         simp[Az]
        rw[this];exact hr1
       ·simp[D.cells]at hj
      ·simp at hd
    obtain⟨m1,x1⟩:=m.write (e':=FB g (.optr 1500 g 2 0 0) x) hρ hc rfl rfl rfl (Tw ..) ho;rw[hset];exact⟨_,_,_,n,ρ,rfl,⟨rfl,rfl,rfl⟩,m1,x1,fr,λe' he'=>by
     rcases List.mem_append.1 he' with h|h
     ·exact hgn e' (by simp[h])
     ·rcases BA.1 h with rfl|h
      ·exact hgn (FB g (.prim (.pointer none)) x) he
      ·exact hgn e' (by simp[h]),.prim _⟩
   |_=>rw[hr0']at hr0;cases hr0
  ·cases hr0':cs.getD 0 undef with
   |pointer a=>
    rw[hr0']at hr0 hcell;cases hr0 with
    |optr hρ2=>
     rw[hρ]at hρ2;cases hρ2;refine(nD b w hcell).mono ?_;rintro e w' ⟨rfl,rfl⟩;exact⟨_,_,_,n,ρ,rfl,⟨rfl,rfl,rfl⟩,m,BP.refl _ _ _,fr,hgn,.prim _⟩
   |_=>rw[hr0']at hr0;cases hr0
theorem cX (w:World)(g n:Nat)(hn:n≠0)(cur:Array Value)(T:Nat)(hg:w.heap[g]?=some (.cells cur T (0,0))):
  (w.freeze ⟨g,0,none⟩ n).heap.size=w.heap.size/\(w.freeze ⟨g,0,none⟩ n).os=w.os/\(w.freeze ⟨g,0,none⟩ n).tape=w.tape/\(w.freeze ⟨g,0,none⟩ n).output=w.output /\
  (∀k,k≠g->(w.freeze ⟨g,0,none⟩ n).heap[k]?=w.heap[k]?)/\∃(cs':Array Value) (fz':Nat×Nat),(w.freeze ⟨g,0,none⟩ n).heap[g]?=some (.cells cs' T fz')/\cs'.size=cur.size:=by
 unfold World.freeze;rw[AG hn];refine⟨by simp,rfl,rfl,rfl,λk hk=>?_,?_⟩
 ·dsimp only
  rw[Array.getElem?_modify,AG (λh=>hk h.symm)]
 ·dsimp only
  rw[Array.getElem?_modify,AH rfl,hg];exact⟨cur,_,rfl,rfl⟩
theorem sU (g gb n:Nat)(l:List UInt8)(h0:l≠[])(p:D)(R:Hp):
  CS C0 213 [.optr 1500 g 2 0 0] (⟨206,gb,5,1,FO l⟩::FB g p (.osl 206 gb 1 0 l.length)::R) n (λd H' n'=>d=str ⟨l.toArray⟩/\H'=FB g p (.osl 206 gb 1 0 l.length)::R/\n'=n):=by
 refine⟨⟨_,_,Tryz.func213,rfl,by kernel_rfl⟩,λF ρ w vs m fr hgn hvs hr=>?_⟩;have hz:=hr 0 _ rfl;have h0':l.length≠0:=by simpa using h0
 rw[an hvs];generalize hv:vs.getD 0 undef=v at hz;cases hz with
 |optr hρ=>
  rename_i b;obtain⟨cs,hc,q⟩:=m.at (e:=FB g p (.osl 206 gb 1 0 l.length)) (by simp) hρ;have hlen:2<=cs.size:=q.len;have hr1:AV ρ (AM F.X ρ (⟨206,gb,5,1,FO l⟩::FB g p (.osl 206 gb 1 0 l.length)::R)) w (.osl 206 gb 1 0 l.length) (cs.getD 1 undef):=q.rep 0 _ 1 (.osl 206 gb 1 0 l.length) rfl rfl;generalize hs1:cs.getD 1 undef=sv at hr1;generalize hL:l.length=L at hr1;cases hr1 with
   |onil=>exact Aj hL h0'
   |osl hρ2 hb2 hc2 hs2 hm2=>
    rename_i cap gy T' cs2 fz2;obtain⟨cur,hcur,qy⟩:=m.at (e:=⟨206,gb,5,1,FO l⟩) (by simp) hρ2;rw[hb2]at hcur;cases hcur;have hcap:cap=cs2.size:=by omega
    subst hcap;have hcell:∀(j:Nat) (x:UInt8),l[j]?=some x->cs2[j]?=some (.int .u8 x.toNat):=λj x hx=>by
     have hr:=qy.rep j (.prim (.int .u8 (x.toNat:Int))) 0 (.prim (.int .u8 (x.toNat:Int))) (by unfold FO;rw[BI,hx];rfl) rfl;have hlt:j<cs2.size:=by
      have:=(List.getElem?_eq_some_iff.1 hx).1
      omega
     generalize hvv:cs2.getD (j*1+0) undef=vv at hr;cases hr;rw[Bg hlt]
     have:cs2.getD j undef=cs2[j]:=by simp[Array.getD,hlt]
     rw[Du,DL,this]at hvv;rw[hvv]
    have hb1:cs[1]?=some (.slice (some ⟨gy,0,none⟩) l.length cs2.size):=by
     have hlt:1<cs.size:=by omega
     rw[Bg hlt]
     have:cs.getD 1 undef=cs[1]:=by simp[Array.getD,hlt]
     rw[this]at hs1;rw[hs1,hL,GQ]
    refine(tL b gy cs2 cs l h0 w hc hb1 hb2 (by omega) (by omega) hcell).mono ?_;rintro e w' ⟨rfl,rfl⟩;have md:=m.drew;obtain⟨f1,f2,f3,f4,f5,cs',fz',f6,f7⟩:=cX w.drew gy l.length h0' cs2 5 hb2;obtain⟨m1,x1⟩:=uA (H1:=[]) (H2:=FB g p (.osl 206 gb 1 0 l.length)::R) (w':=w.drew.freeze ⟨gy,0,none⟩ l.length) md hρ2 f1 f2 f3 f4 f5 (λc hcc=>by
     have hb2':w.drew.heap[gy]?=some (.cells cs2 5 (0,0)):=hb2;have hcc':w.drew.heap[gy]?=some (.cells c 5 (0,0)):=hcc;rw[hb2']at hcc';cases hcc';exact⟨cs',fz',f6,f7⟩)
    rw[hL];rw[hL]at m1 x1;exact⟨_,_,_,n,ρ,rfl,⟨rfl,rfl,rfl⟩,m1,(BP.drew _ _ _).trans x1,fr,λe' he'=>hgn e' (by rw[hL];exact CN _ he'),.prim _⟩
set_option maxRecDepth 20000
set_option maxHeartbeats 4000000
def bH (gb g:Nat)(p:D)(L:List UInt8)(R:Hp):Hp:=DZ 206 gb 5 1 (FO L)++(FB g p (Dg 206 gb 1 (FO L))::R)
theorem fY (s:List UInt8):Hd (sb s)=FO s:=rfl
theorem Mx (l:List UInt8):(FO l).length=l.length:=Ap ..
theorem fX (a b:List UInt8):FO (a++b)=FO a++FO b:=Cu
theorem WD {l:List UInt8}(h:l≠[]):∃x r,FO l=x::r:=by
 cases l with
 |nil=>exact Aj rfl h
 |cons a l=>exact⟨_,_,rfl⟩
theorem bD (g gb n:Nat)(p:D)(hp:p=.prim (.pointer none)\/p=.optr 1500 g 2 0 0)(L s:List UInt8)(hs:s≠[])(R:Hp)(hlen:L.length+s.length<=100000000):
  CS C0 212 [.optr 1500 g 2 0 0,str (sb s)] (bH gb g p L R) n (λd H' n'=>(∃g',H'=bH g' g (.optr 1500 g 2 0 0) (L++s) R)/\n<=n'):=by
 refine CS.walk w1 YU rfl λF=>?_
 have hsz:=CX s;have hb:=fY s;obtain⟨x,r,hx⟩:=WD hs;have hr:s.length=r.length+1:=by rw[<-Mx,hx];rfl
 unfold bH;rw[fX];cases hL:FO L with
 |nil=>
  dsimp only[IE,IF,List.nil_append];refine AN Ac kB AB AB AB AB AB AB ?_;refine A9.own _ (ap g _ CD p [] R hp) ?_;rintro d H' n' ⟨rfl,rfl,rfl⟩;have hL0:L.length=0:=by rw[<-Mx,hL];rfl
  refine AN Ac (Ae hsz hb) AB AB AB AB AB AB ?_;refine⟨?_,by omega⟩;apply Exists.intro;rw[hx,hr];rfl
 |cons y l=>
  dsimp only[G1,G3,List.cons_append,List.nil_append];have hL1:L.length=l.length+1:=by rw[<-Mx,hL];rfl
  have htk:List.take (l.length+1) (y::l)=y::l:=by simp
  refine AN Ac kB AB AB AB AB AB AB ?_;refine A9.own _ (ap g _ (.osl 206 gb 1 0 (l.length+1)) p [⟨206,gb,5,1,y::l⟩] R hp) ?_;rintro d H' n' ⟨rfl,rfl,rfl⟩;refine AN Ac (Av hsz hb htk) AB AB AB AB AB AB ?_;refine⟨?_,by omega⟩;apply Exists.intro;have hap:y::l++FO s=y::(l++FO s):=rfl;have hl2:(l++FO s).length+1=l.length+1+s.length:=by rw[Bf,Mx];omega
  rw[hl2]
open Go.Sort Go.Shelf
section
open Go.Lib
set_option maxHeartbeats 6400000 in
set_option maxRecDepth 100000 in
theorem tT (u:Nat) (hu64:u<18446744073709551616) (w:World) (htab:Lib.TabIs Tryz.prog w "internal/strconv.uint64pow10" .u64 Lib.pow10Tab):
  Calls Tryz.prog 258 #[.int .u64 u,.int .i64 10] w λe w'=>e=.returned (.string ⟨(Lib.decDigits u).toArray⟩)/\∃k os,w'=grow (w.drewN k) os:=by
 have e283:∀args w,(callFunc 287 args).run Tryz.prog w=.ok (.enter 287 args) w:=enters_of Tryz.func287 (by kernel_rfl) rfl;have e284:∀args w,(callFunc 288 args).run Tryz.prog w=.ok (.enter 288 args) w:=enters_of Tryz.func288 (by kernel_rfl) rfl;have e285:∀args w,(callFunc 289 args).run Tryz.prog w=.ok (.enter 289 args) w:=enters_of Tryz.func289 (by kernel_rfl) rfl
 by_cases hs:u<100
 ·go_enter Tryz.func258,Tryz.ntmps258
  go_wp2_with (go_at_fn 287;refine(Tryz.internal_strconv_small u hs _).mono ?_;rintro e w' ⟨rfl,rfl⟩)
  go_ret
  exact⟨rfl,0,#[],by simp[World.drewN_zero]⟩
 ·have hu1:1<=u:=by omega
  have hnd20:Lib.nDigits u<=20:=by have:=Lib.numDigits_eq u hu1 hu64;split at this<;>omega
  have hb3:Lib.nDigits u<=24:=by omega
  have hal:Tryz.prog.arrayLen 297=24:=by kernel_rfl
  have hsl1:∀W,(Instr.sliceAt 297 (.pointer (some ⟨w.heap.size,0,none⟩)) none (some (.int .i64 (Lib.nDigits u:Int))) none).run Tryz.prog W=.ok (.slice (some ⟨w.heap.size,0,none⟩) (Lib.nDigits u) 24) W:=λW=>by
   rw[run_sliceAt_array_h W 297 ⟨w.heap.size,0,none⟩ (by kernel_rfl) .i64 (Lib.nDigits u:Int) (by omega) (by rw[hal];omega)]
   go_simp
  have hH0:=Lib.holds_zero0 w 297 (Lib.nDigits u) (by omega);have hfmt:=Tryz.internal_strconv_formatBase10 w.heap.size 0 24 u (Array.replicate (Lib.nDigits u) 0) (w.alloc (.cells Lib.zeros24 297)) hH0 (by rw[Qo];exact Lib.lt_pow_nDigits u) hu64 (by rw[Qo];omega);rw[Qo]at hfmt;have HH0:=Lib.hid hH0;clear hH0 hal
  go_enter Tryz.func258,Tryz.ntmps258
  go_wp2_with (first
   |(go_at_fn 288;refine(Tryz.internal_strconv_numDigits u hu1 hu64 _ (Lib.tabIs_alloc htab _)).mono ?_;rintro e w' ⟨rfl,rfl⟩))
  go_at_fn 289
  refine hfmt.mono ?_;rintro e w' ⟨rfl,k,v',dk,rfl,hF⟩;have hcv:(convert 242 9 (.slice (some ⟨w.heap.size,0,none⟩) (Lib.nDigits u) 24)).run Tryz.prog ((putRow (λ(b:UInt8)=>Value.int .u8 (b.toNat:Int)) (w.alloc (.cells Lib.zeros24 297)) w.heap.size 0 dk).drewN k)=.ok (.string ⟨(Lib.decDigits u).toArray⟩) ((putRow (λ(b:UInt8)=>Value.int .u8 (b.toNat:Int)) (w.alloc (.cells Lib.zeros24 297)) w.heap.size 0 dk).drewN k):=by
   have h:=run_convert_bytes_back (P:=Tryz.prog) ((putRow (λ(b:UInt8)=>Value.int .u8 (b.toNat:Int)) (w.alloc (.cells Lib.zeros24 297)) w.heap.size 0 dk).drewN k) 242 9 5 ⟨w.heap.size,0,none⟩ 24 (Lib.decDigits u) (by kernel_rfl) (by kernel_rfl) (by kernel_rfl) (λj hj=>by
    rw[Lib.row_is_numeral hF j hj,Lib.add_plain,World.cell?_drewN];exact cell?_putRow (λ(b:UInt8)=>Value.int .u8 (b.toNat:Int)) _ w.heap.size 0 _ dk HH0.out (by rw[hF.size,Qo]) j (by rw[hF.size];rw[Lib.decDigits_length]at hj;exact hj))
   rw[Lib.decDigits_length]at h;exact h
  go_wp2
  go_ret
  obtain⟨os,eo⟩:=Lib.fin_at w (.cells Lib.zeros24 297) dk k 0;exact⟨rfl,k,os,eo⟩
end
theorem fC {O:Nat->Prop}{w:World}{v u:Value}{vs:Array Value}(hn:vs.size=2)(h:∀(i:Nat) (x:D),[D.prim v,.prim u][i]?=some x->AV nol O w x (vs.getD i undef)):vs = #[v,u]:=by
 match vs,hn with
 |⟨[a,b]⟩,_=>
  have h0:=h 0 _ rfl;have h1:=h 1 _ rfl;simp at h0 h1;cases h0;cases h1;rfl
theorem jt (u:Nat)(hu:u<18446744073709551616):AK C0 258 [.prim (.int .u64 (u:Int)),i64 10] (str ⟨(Lib.decDigits u).toArray⟩):=by
 refine⟨⟨_,_,Tryz.func258,rfl,by kernel_rfl⟩,λY w vs hG hnG hX hvs hr=>?_⟩
 have:=fC hvs hr
 subst this;refine(tT u hu w hG).mono ?_;rintro e w' ⟨rfl,k,os,rfl⟩;exact⟨_,_,rfl,Lib.below_grow _ _ (Ad _) _ _,rfl,.prim _⟩
theorem nP (u:Nat)(hu:u<18446744073709551616):AK C0 210 [.prim (.int .u64 (u:Int)),i64 10] (str ⟨(Lib.decDigits u).toArray⟩):=by
 refine Ak.walk w1 YT rfl λF=>?_
 refine AN Ac kB (jt u hu) AB AB AB AB AB ?_;exact AQ rfl AA.out
theorem vJ:AK C0 211 [str ⟨#[48]⟩,i64 0] (str ⟨#[]⟩):=B8 DG 400 20 (by kernel_rfl)
theorem vK:AK C0 211 [str ⟨#[48]⟩,i64 1] (str ⟨#[48]⟩):=B8 DG 400 20 (by kernel_rfl)
theorem vL:AK C0 211 [str ⟨#[48]⟩,i64 2] (str ⟨#[48,48]⟩):=B8 DG 400 20 (by kernel_rfl)
theorem vM:AK C0 211 [str ⟨#[48]⟩,i64 3] (str ⟨#[48,48,48]⟩):=B8 DG 400 20 (by kernel_rfl)
theorem vN:AK C0 211 [str ⟨#[48]⟩,i64 4] (str ⟨#[48,48,48,48]⟩):=B8 DG 400 20 (by kernel_rfl)
theorem vO:AK C0 211 [str ⟨#[48]⟩,i64 5] (str ⟨#[48,48,48,48,48]⟩):=B8 DG 400 20 (by kernel_rfl)
theorem vP:AK C0 211 [str ⟨#[48]⟩,i64 6] (str ⟨#[48,48,48,48,48,48]⟩):=B8 DG 400 20 (by kernel_rfl)
theorem vQ:AK C0 211 [str ⟨#[48]⟩,i64 7] (str ⟨#[48,48,48,48,48,48,48]⟩):=B8 DG 400 20 (by kernel_rfl)
theorem vR:AK C0 211 [str ⟨#[48]⟩,i64 8] (str ⟨#[48,48,48,48,48,48,48,48]⟩):=B8 DG 400 20 (by kernel_rfl)
theorem vS:AK C0 211 [str ⟨#[48]⟩,i64 9] (str ⟨#[48,48,48,48,48,48,48,48,48]⟩):=B8 DG 400 20 (by kernel_rfl)
theorem uR:AK C0 211 [str ⟨#[48]⟩,i64 10] (str ⟨#[48,48,48,48,48,48,48,48,48,48]⟩):=B8 DG 400 20 (by kernel_rfl)
theorem uS:AK C0 211 [str ⟨#[48]⟩,i64 11] (str ⟨#[48,48,48,48,48,48,48,48,48,48,48]⟩):=B8 DG 400 20 (by kernel_rfl)
theorem uT:AK C0 211 [str ⟨#[48]⟩,i64 12] (str ⟨#[48,48,48,48,48,48,48,48,48,48,48,48]⟩):=B8 DG 400 20 (by kernel_rfl)
theorem uU:AK C0 211 [str ⟨#[48]⟩,i64 13] (str ⟨#[48,48,48,48,48,48,48,48,48,48,48,48,48]⟩):=B8 DG 400 20 (by kernel_rfl)
theorem uV:AK C0 211 [str ⟨#[48]⟩,i64 14] (str ⟨#[48,48,48,48,48,48,48,48,48,48,48,48,48,48]⟩):=B8 DG 400 20 (by kernel_rfl)
theorem uW:AK C0 211 [str ⟨#[48]⟩,i64 15] (str ⟨#[48,48,48,48,48,48,48,48,48,48,48,48,48,48,48]⟩):=B8 DG 400 20 (by kernel_rfl)
theorem uX:AK C0 211 [str ⟨#[48]⟩,i64 16] (str ⟨#[48,48,48,48,48,48,48,48,48,48,48,48,48,48,48,48]⟩):=B8 DG 400 20 (by kernel_rfl)
theorem uZ:AK C0 211 [str ⟨#[48]⟩,i64 17] (str ⟨#[48,48,48,48,48,48,48,48,48,48,48,48,48,48,48,48,48]⟩):=B8 DG 400 20 (by kernel_rfl)
theorem kg (n:Nat)(h:n<=17):AK C0 211 [str ⟨#[48]⟩,i64 (n:Int)] (str ⟨(List.replicate n 48).toArray⟩):=by
 match n,h with
 | 0,_=>exact vJ
 | 1,_=>exact vK
 | 2,_=>exact vL
 | 3,_=>exact vM
 | 4,_=>exact vN
 | 5,_=>exact vO
 | 6,_=>exact vP
 | 7,_=>exact vQ
 | 8,_=>exact vR
 | 9,_=>exact vS
 | 10,_=>exact uR
 | 11,_=>exact uS
 | 12,_=>exact uT
 | 13,_=>exact uU
 | 14,_=>exact uV
 | 15,_=>exact uW
 | 16,_=>exact uX
 | 17,_=>exact uZ
 |n+18,h=>omega
theorem jw {H Hf r r':Hp}{K g T sz:Nat}{l:List D}(h:CU H Hf r r'):CU H Hf (DZ K g T sz l++r) r':=by
 cases l with
 |nil=>exact h
 |cons x l=>exact .drop h
set_option maxHeartbeats 8000000
def FT (q r:Nat):List UInt8:=if q=0 then Lib.decDigits r else List.replicate (18-(Lib.decDigits r).length) 48++Lib.decDigits r
theorem Vv:Lib.decDigits 0=[48]:=by unfold Lib.decDigits;rfl
theorem NW (n:Nat):Lib.decDigits n≠[]:=(ED n).2.2
theorem iq (q r:Nat):FT q r≠[]:=by
 unfold FT;split
 ·exact NW r
 ·intro h;exact NW r (List.append_eq_nil_iff.1 h).2
theorem gm {q r:Nat}(hq:q≠0):FT q r=Eb 18 r []:=by
 unfold FT Eb K7;rw[AG hq]
 by_cases h:r=0
 ·subst h;rw[Vv,AH rfl];rfl
 ·rw[AG h,DE]
theorem jF (B q r:Nat)(hB:B=10^18)(hr:r<B):Lib.decDigits (q*B+r)=if q=0 then FT q r else Lib.decDigits q++FT q r:=by
 by_cases hq:q=0
 ·subst hq;rw[AH rfl];unfold FT;rw[AH rfl,GQ,BR]
 ·rw[AG hq,gm hq,hB]
  exact SN 18 q r hq (by rw[<-hB];exact hr)
def D2 (P:List (List UInt8)):List UInt8:=P.reverse.flatten
theorem U5 (P:List (List UInt8))(p:List UInt8):D2 (P++[p])=p++D2 P:=by unfold D2;simp
theorem Sw (a b:List UInt8):sb a++sb b=sb (a++b):=by
 apply ByteArray.ext;simp[ByteArray.data_append]
theorem fh {P:List (List UInt8)}(h:∀p∈P,p≠[]):P.length<=(D2 P).length:=by
 unfold D2;rw[List.length_flatten,<-List.length_reverse];generalize hQ:P.reverse=Q;have h':∀p∈Q,p≠[]:=λp hp=>h p (by rw[<-hQ]at hp;exact List.mem_reverse.1 hp)
 clear hQ h
 induction Q with
 |nil=>exact Ad _
 |cons a r ih=>
  have h1:=ih λp hp=>h' p (CN _ hp)
  have h2:a.length≠0:=λq=>h' a CH (ER q)
  rw[Cd,List.sum_cons,Bl];omega
structure Ln (n m:Nat)(P:List (List UInt8)):Prop where
 ne:m≠0->Lib.decDigits n=Lib.decDigits m++D2 P
 eq:m=0->Lib.decDigits n=D2 P
 all:∀p∈P,p≠[]
 le:m<=n
theorem Ln.len {n m:Nat}{P:List (List UInt8)}(h:Ln n m P):P.length<=(Lib.decDigits n).length:=by
 have h1:=fh h.all
 by_cases q:m=0
 ·rw[h.eq q];exact h1
 ·rw[h.ne q,Bf];omega
theorem Ln.step {n m:Nat}{P:List (List UInt8)}{B:Nat}(h:Ln n m P)(hm:m≠0)(hB:B=10^18):Ln n (m/B) (P++[FT (m/B) (m%B)]):=by
 have hB0:0<B:=by rw[hB];decide
 have hd:=jF B (m/B) (m%B) hB (By _ hB0);rw[show m/B*B+m%B=m by rw[BO];exact EJ m B]at hd;have hn:=h.ne hm;rw[hd]at hn;refine⟨λq=>?_,λq=>?_,λp hp=>?_,BQ (GO _ _) h.le⟩
 ·rw[AG q]at hn;rw[hn,U5,Dm]
 ·rw[AH q]at hn;rw[hn,U5]
 ·rcases List.mem_append.1 hp with hp|hp
  ·exact h.all p hp
  ·rw[List.mem_singleton]at hp;subst hp;exact iq _ _
abbrev Ep (P:List (List UInt8)):List D:=P.map λp=>str (sb p)
theorem R1 (x:GI)(h:x.wf)(hf:x.few):AK C0 161 [x.D] (str (sb (Lib.itoa x.z))):=by
 refine Ak.walk w1 Yx rfl λF=>?_
 obtain⟨z,sm⟩:=x;obtain⟨h1,h2⟩:=h;have hp:=Ij ⟨z,sm⟩ ⟨h1,h2⟩;dsimp only[GI.D,GI.few]at*;cases sm with
 |true=>
  obtain⟨h3,h4⟩:=h1 rfl;have c:AK C0 208 [i64 z] (str (sb (Lib.itoa z))):=lG z h3 (by omega);unfold GI.s GI.w;dsimp only;refine AN Ac kB c AB AB AB AB AB ?_;exact AQ rfl AA.out
 |false=>
  have hz:=h2 rfl;have hz0:z.natAbs≠0:=λq=>hz (by obtain rfl:z=0:=(by omega);exact q6 rfl)
  have hw:GI.w ⟨z,false⟩=wD z.natAbs:=rfl;have hs:GI.s ⟨z,false⟩=if z<0 then -1 else 1:=rfl
  rw[hw]at hp⊢;obtain⟨sg,hsg⟩:∃s,GI.s ⟨z,false⟩=s:=⟨_,rfl⟩
  rw[hsg]at hp⊢;obtain⟨B,hB⟩:∃B:Nat,B=10^18:=⟨_,rfl⟩
  have hB1:B<BB:=by rw[hB];decide
  have hB0:B≠0:=by rw[hB];decide
  have hB2:1<B:=by rw[hB];decide
  have hBs:u64 1000000000000000000=AR B:=by rw[hB];rfl
  have hBl:Ab B=[B]:=LT hB0 hB1;obtain⟨n,hn⟩:∃n,z.natAbs=n:=⟨_,rfl⟩
  obtain⟨neg,hneg⟩:∃b,decide (z<0)=b:=⟨_,rfl⟩
  rw[hn]at hp hf hz0⊢;rw[hneg]at hp;have hit:Lib.itoa z=(if neg then[45]else[])++Lib.decDigits n:=by
   unfold Lib.itoa
   by_cases q:z<0
   ·rw[AH q,<-hneg,AY q,hn];rfl
   ·rw[AG q,<-hneg,Ah q,<-hn]
    have:z.toNat=z.natAbs:=by omega
    rw[this];rfl
  rw[hit];have hDL:(Lib.decDigits n).length<=27*1000000+1:=Lr (k:=1000000) (by omega);have hmpos:∀m:Nat,m≠0->decide ((((Ab m).map AR).length:Int)>0)=true:=λm hm=>AY (by
   rw[Fd hm,Cd,Bl];omega)
  have hm0:decide ((((Ab 0).map AR).length:Int)>0)=false:=Ah (by rw[FM];decide);obtain⟨w0,ws,hws⟩:∃a l,(Ab n).map AR=a::l:=by
   cases hl:(Ab n).map AR with
   |nil=>exact Aj hl (Gz hz0)
   |cons a l=>exact⟨a,l,rfl⟩
  have hwD:wD n=.sl false 1 (w0::ws):=by unfold wD wL;rw[hws]
  have hbD:wD B=.sl false 1 [u64 1000000000000000000]:=by unfold wD wL;rw[hBl,hBs];rfl
  have pw:AA (.sl false 1 (w0::ws)):=by rw[<-hwD];exact AI
  rw[hwD]at hp⊢;clear hit h1 h2 hz hs hsg;have hne:(w0::ws≠[])=True:=eq_true (List.cons_ne_nil _ _);refine AN Ac hne hp AB AB AB AB AB ?_;rw[<-hwD];refine AC.loop (α:=Nat×List (List UInt8)×Nat×Nat) (λp=>⟨[(3,Au neg),(4,wD p.1),(5,wD B),(6,Dg 1303 p.2.2.1 1 (Ep p.2.1))],DZ 1303 p.2.2.1 9 1 (Ep p.2.1),p.2.2.2⟩) (λp=>p.1)
   (λp=>Ln n p.1 p.2.1) (n,[],0,_) ⟨λ_=>by unfold D2;simp,λq=>Aj q hz0,λp hp=>Aj hp DK,Ad _⟩ (by refine⟨.drop .nil,⟨.refl _,.refl _,?_,.refl _,trivial⟩,Ad _⟩;dsimp only;rw[hbD];exact .nn true 1 _) ?_
  rintro⟨m,P,g,cnt⟩ F I;dsimp only at I⊢;have hPl:=I.len;rcases Nat.decEq m 0 with hm|hm
  rotate_left
  ·subst hm
   have hdn:=I.eq rfl;have hall:=I.all;have hLn:P.length<=27000001:=by omega
   have hP0:P≠[]:=λq=>NW n (by rw[hdn,q];rfl)
   obtain⟨N,hN⟩:∃N,P.length=N:=⟨_,rfl⟩
   have hN0:N≠0:=λq=>hP0 (ER (by omega))
   rw[hdn];clear hwD hbD pw hp hn hPl I;have elP:(((Ep P).length:Nat):Int)=(N:Int):=by rw[Ap,hN]
   have wN:IntKind.i64.wrap ((N:Int)-1)=((N:Int)-1):=wI (by omega) (by omega);refine AC.seq ?_;refine sZ 600 ?_;refine AU hm0 ?_;refine AL ?_;refine B5 ?_;refine AC.weak ⟨[(3,Au neg),(6,.sl false 1 (Ep P))],[],_⟩ ⟨?_,⟨.refl _,?_,trivial⟩,Ad _⟩ ?_
   ·have:=jw (K:=1303) (g:=g) (T:=9) (sz:=1) (l:=Ep P) (r:=[]) (r':=[]) (H:=DZ 1303 g 9 1 (Ep P)) (Hf:=[]) .nil
    rwa [DE]at this
   ·exact Pt _ _ _ _ _
   obtain⟨c0,hc0⟩:∃c,c=cnt+1+1+1:=⟨_,rfl⟩
   rw[<-hc0];refine sR 1500 ?_;obtain⟨c1,hc1⟩:∃c,c=c0+1:=⟨_,rfl⟩
   refine Ck (α:=D×Nat×Nat) (λq=>⟨[(6,.sl false 1 (Ep P)),(10,.optr 1500 c0 2 0 0)],bH q.2.1 c0 q.1 (if neg then[45]else[]) [],q.2.2⟩) (λq=>q.1=.prim (.pointer none)\/q.1=.optr 1500 c0 2 0 0) ?_ ?_
   ·cases neg
    ·refine AN Ac kB AB AB AB AB AB AB ?_
     exact⟨by trivial,(.prim (.pointer none),0,_),.inl rfl,AJ⟩
    ·refine AN Ac kB AB AB AB AB AB AB ?_
     refine A9.own _ (bD c0 0 _ (.prim (.pointer none)) (.inl rfl) [] [45] (by decide) [] (by decide)) ?_;rintro d H' n' ⟨⟨g',rfl⟩,hn'⟩;refine BN ?_;exact⟨by trivial,(.optr 1500 c0 2 0 0,g',_),.inr rfl,AJ⟩
   rintro⟨p0,gb0,c2⟩ hp0;dsimp only at hp0⊢;obtain⟨pre,hpre⟩:∃l,(if neg then[45]else[]:List UInt8)=l:=⟨_,rfl⟩
   have hpl:pre.length<=1:=by rw[<-hpre];split<;>decide
   rw[hpre];refine AN Ac (Ae elP @wN) AB AB AB AB AB AB ?_;refine AC.loop (α:=Nat×D×Nat×Nat) (λq=>⟨[(6,.sl false 1 (Ep P)),(10,.optr 1500 c0 2 0 0),(11,i64 ((q.1:Int)-1))],bH q.2.2.1 c0 q.2.1 (pre++D2 (P.drop q.1)) [],q.2.2.2⟩) (λq=>q.1)
    (λq=>q.1<=N/\(q.2.1=.prim (.pointer none)\/q.2.1=.optr 1500 c0 2 0 0)) (N,p0,gb0,_) ⟨Ad _,hp0⟩ (by dsimp only;rw[<-hN,Ia];unfold D2;rw[List.reverse_nil,List.flatten_nil,DE];exact AJ) ?_
   rintro⟨k,p,gb,c3⟩ F ⟨hk,hp⟩;dsimp only at hk hp⊢;have hjl:∀k,(D2 (P.drop k)).length<=(D2 P).length:=λk=>by
    unfold D2
    conv=>rhs;rw[<-Ei k P]
    rw[List.reverse_append,List.flatten_append,Bf];omega
   have hjP:(D2 P).length<=27000001:=by rw[<-hdn];omega
   rcases DR k with hk0|hk0
   ·subst hk0
    have e1:decide ((((0:Nat):Int)-1)>=0)=false:=by decide
    rw[FE];have hL:pre++D2 P≠[]:=λq=>by
     have:=(List.append_eq_nil_iff.1 q).2
     rw[<-hdn]at this;exact NW n this
    obtain⟨L,hLL⟩:∃L,pre++D2 P=L:=⟨_,rfl⟩
    rw[hLL]at hL⊢;obtain⟨y,r,hy⟩:=WD hL;have hlr:L.length=r.length+1:=by rw[<-Mx,hy];rfl
    refine AN Ac e1 AB AB AB AB AB AB ?_;refine A9.own _ (by
     have:=λn=>sU c0 gb n L hL p []
     unfold bH;simp only[hy,hlr]at this⊢;exact this _) ?_
    rintro d H' n' ⟨rfl,rfl,rfl⟩;refine AN Ac kB AB AB AB AB AB AB ?_;exact AQ rfl AA.out
   ·obtain⟨k',rfl⟩:∃k',k=k'+1:=⟨k-1,by omega⟩
    have e1:decide ((((k'+1:Nat):Int)-1)>=0)=true:=AY (by omega);have e2:(((k'+1:Nat):Int)-1)=(k':Int):=by omega
    have wk:IntKind.i64.wrap ((k':Int)-1)=((k':Int)-1):=wI (by omega) (by omega);have e3:decide ((k':Int)>=0)=true:=AY (by omega);obtain⟨t,ht⟩:∃t,P[k']?=some t:=CO (by omega);have hm:(Ep P)[k']?=some (str (sb t)):=by rw[BI,ht];rfl
    have htn:=hall t (BE ht);have hdr:P.drop k'=t::P.drop (k'+1):=by
     rw[D9 (List.getElem?_eq_some_iff.1 ht).1,(List.getElem?_eq_some_iff.1 ht).2]
    have hj:pre++D2 (P.drop k')=pre++D2 (P.drop (k'+1))++t:=by
     rw[hdr,Dm]
     congr 1
     unfold D2;rw[List.reverse_cons,List.flatten_append];simp
    have hlt:(pre++D2 (P.drop (k'+1))).length+t.length<=100000000:=by
     have h1:=hjl k';have h2:(pre++D2 (P.drop k')).length=(pre++D2 (P.drop (k'+1))).length+t.length:=by rw[hj,Bf]
     rw[<-h2,Bf];omega
    rw[e2];refine AN Ac (Ae e3 kN) hm AB AB AB AB AB ?_;refine A9.own _ (bD c0 gb _ p hp (pre++D2 (P.drop (k'+1))) t htn [] hlt) ?_;rintro d H' n' ⟨⟨g',rfl⟩,hn'⟩;refine BN ?_;refine AN Ac wk AB AB AB AB AB AB ?_;exact⟨(k',.optr 1500 c0 2 0 0,g',_),⟨by dsimp only;omega,.inr rfl⟩,by dsimp only;omega,by(dsimp only;rw[hj];exact AJ)⟩
  have e1:=hmpos m hm;have c1:=ar m B hB0 (DJ (Gx m n I.le) hf) (by rw[hBl];show 1<1000000;decide);have I2:=I.step hm hB;obtain⟨q,hq⟩:∃q,m/B=q:=⟨_,rfl⟩
  obtain⟨r,hr⟩:∃q,m%B=q:=⟨_,rfl⟩
  have hqm:q<m:=by rw[<-hq];exact HL (Dl hm) hB2
  have hrB:r<B:=by rw[<-hr];exact By _ (Dl hB0)
  rw[hq,hr]at c1 I2;have hsz:=CX (Lib.decDigits r);have hdl:(Lib.decDigits r).length<=18:=LN 17 r (by rw[hB]at hrB;exact hrB);have hdl1:(Lib.decDigits r).length≠0:=λh=>NW r (ER h)
  refine AN Ac e1 AB AB AB AB AB AB ?_;refine cI c1 ?_;refine sR 800 ?_;refine Ck (α:=Nat) (λcnt=>⟨[(3,Au neg),(5,wD B),(6,Dg 1303 g 1 (Ep P)),(7,wD q),(9,str (sb (Lib.decDigits r)))],DZ 1303 g 9 1 (Ep P),cnt⟩) (λ_=>True) ?_ ?_
  ·rcases Nat.decEq r 0 with h0|h0
   ·have e2:=hmpos r h0
    have hl1:Ab r=[r]:=LT h0 (FW hrB hB1);have hmm:((Ab r).map AR)[0]?=some (u64 (r:Int)):=by rw[hl1];rfl
    have c2:=nP r (FW hrB hB1);refine AN Ac e2 hmm c2 AB AB AB AB ?_;exact⟨by trivial,_,trivial,AJ⟩
   ·subst h0
    rw[Vv];refine AN Ac hm0 AB AB AB AB AB AB ?_;exact⟨by trivial,_,trivial,AJ⟩
  rintro cnt2 -;refine Ck (α:=Nat) (λcnt=>⟨[(3,Au neg),(5,wD B),(6,Dg 1303 g 1 (Ep P)),(7,wD q),(9,str (sb (FT q r)))],DZ 1303 g 9 1 (Ep P),cnt⟩) (λ_=>True) ?_ ?_
  ·rcases Nat.decEq q 0 with h0|h0
   ·have e2:=hmpos q h0
    have c2:AK C0 211 [str ⟨#[48]⟩,i64 ((18-(Lib.decDigits r).length:Nat):Int)] (str (sb (List.replicate (18-(Lib.decDigits r).length) 48))):=kg (18-(Lib.decDigits r).length) (by omega);have w18:IntKind.i64.wrap (18-((Lib.decDigits r).length:Int))=((18-(Lib.decDigits r).length:Nat):Int):=by rw[wI (by omega) (by omega)];omega
    have hap:=Sw (List.replicate (18-(Lib.decDigits r).length) 48) (Lib.decDigits r);have hsz2:=CX (List.replicate (18-(Lib.decDigits r).length) 48);have hpt:List.replicate (18-(Lib.decDigits r).length) 48++Lib.decDigits r=FT q r:=by unfold FT;rw[AG h0]
    rw[hpt]at hap;have hsize:(sb (List.replicate (18-(Lib.decDigits r).length) 48)).size+(sb (Lib.decDigits r)).size<=9223372036854775807:=by
     rw[hsz,hsz2,MY];omega
    refine AN Ac (Bk e2 hsz w18 hap) c2 AB AB AB AB AB ?_;exact⟨by trivial,_,trivial,AJ⟩
   ·subst h0
    have hpt:FT 0 r=Lib.decDigits r:=AH rfl;rw[hpt];refine AN Ac hm0 AB AB AB AB AB AB ?_;exact⟨by trivial,_,trivial,AJ⟩
  rintro cnt3 -;have hsn:Ep (P++[FT q r])=Ep P++[str (sb (FT q r))]:=by unfold Ep;rw[Cu];rfl
  have hPL:(Ep P).length=P.length:=Ap ..;rcases hPD:Ep P with _|⟨y,l⟩
  all_goals
   rw[hPD]at hsn hPL;dsimp only[IE,IF,G1,G3,List.nil_append]
  ·refine AN Ac kB AB AB AB AB AB AB ?_
   exact⟨(q,P++[FT q r],_,_),I2,hqm,by(dsimp only;rw[hsn];exact AJ)⟩
  ·have htk:List.take (l.length+1) (y::l)=y::l:=by simp
   have hll:l.length+1<=27000001:=by rw[Bl]at hPL;omega
   refine AN Ac htk AB AB AB AB AB AB ?_;exact⟨(q,P++[FT q r],_,_),I2,hqm,by(dsimp only;rw[hsn,Mw];exact AJ)⟩
abbrev V0:Dr:=[(3,[0,1,2,3,4,5,6],[7,8])]
open Go.Proofs Go.RowKit
set_option maxRecDepth 20000
set_option maxHeartbeats 4000000
theorem iY (x:Nat)(hx:x<BB):AK C0 223 [AR x] (i64 (Lib.bitLen x:Int)):=by
 refine⟨⟨_,_,Tryz.func223,rfl,by kernel_rfl⟩,λY w vs hG hnG hX hvs hr=>?_⟩
 have:=PH hvs hr
 subst this;refine(Tryz.bits_Len64 x w (by omega) (by unfold BB at hx;omega)).mono ?_;rintro e w' ⟨rfl,rfl⟩;exact⟨_,_,rfl,.refl _ _,rfl,.prim _⟩
def Ef (n:Nat):Nat:=(Ab n).getD ((Ab n).length-1) 0
def Hl (n:Nat):Nat:=if n=0 then 0 else 64*((Ab n).length-1)+Lib.bitLen (Ef n)
theorem kI (n:Nat):n<2^Hl n:=by
 unfold Hl
 by_cases h:n=0
 ·subst h;rw[AH rfl];decide
 ·rw[AG h]
  have hl:(Ab n).length≠0:=λq=>by
   have:=Fd h
   rw[this]at q;simp at q
  obtain⟨k,hk⟩:∃k,(Ab n).length=k+1:=⟨(Ab n).length-1,by omega⟩
  have hat:(Ab n)[k]?=some (Ef n):=by
   unfold Ef;rw[hk,Hz,E2,BH (by omega)];rfl
  have hv:=Jj hat;rw[Gt (by omega),EZ]at hv;have ht:Ef n<BB:=Eo n _ (BE hat);have h1:AT ((Ab n).take k)<BB^k:=by
   have:=G4 (l:=(Ab n).take k) λa ha=>Eo n a (Hy ha)
   rwa [Bj,Eh (by omega)]at this
  have h2:Ef n<2^Lib.bitLen (Ef n):=by
   by_cases t0:Ef n=0
   ·rw[t0];exact GP _
   ·exact(Lib.bitLenAux_bounds 64 (Ef n) ht t0).2.2
  have h3:BB^k=2^(64*k):=by rw[Nat.pow_mul]
  rw[hk,Hz,FX,<-h3];have h4:n=AT ((Ab n).take k)+BB^k*Ef n:=by simpa[AT]using hv
  have h5:BB^k*(Ef n+1)<=BB^k*2^Lib.bitLen (Ef n):=CR _ h2;rw[BK,Du]at h5;omega
def Iy (n:Nat):Bool:=decide (600<(Lib.decDigits n).length)
theorem fk (n:Nat):Iy n=(decide (Hl n>1800)&&Iy n):=by
 by_cases h:Hl n>1800
 ·rw[AY h,IZ]
 ·rw[Ah h,KG]
  have key:∀k,Hl n<=3*(k+1)->(Lib.decDigits n).length<=k+1:=λk hk=>LN k n (CM (kI n) (BQ (E4 (by decide) hk) (by rw[Nat.pow_mul];exact MU (by decide) (k+1))))
  have h4:=key 599 (by omega);exact Ah (by omega)
theorem lh (x:GI)(h:x.wf)(hf:x.few):AK C0 207 [x.D] (i64 (Hl x.z.natAbs:Nat)):=by
 refine Ak.walk w1 YR rfl λF=>?_
 have c1:=Ij x h;obtain⟨n,hn⟩:∃n,x.z.natAbs=n:=⟨_,rfl⟩
 unfold GI.few at hf;rw[hn]at c1 hf⊢;have el:((((Ab n).map AR).length:Nat):Int)=((Ab n).length:Int):=by rw[Ap]
 unfold wD wL at c1;dsimp only[GI.D]at c1⊢
 by_cases h0:n=0
 ·have e1:(((Ab n).length:Int)==0)=true:=by rw[h0,FM];rfl
  have hb:Hl n=0:=AH h0;rw[hb];refine AN Ac (Ae e1 el) c1 AB AB AB AB AB ?_;exact AQ rfl AA.out
 ·have hl:(Ab n).length≠0:=λq=>by
   have:=Fd h0
   rw[this]at q;simp at q
  have e1:(((Ab n).length:Int)==0)=false:=tM hl;have wl:IntKind.i64.wrap (((Ab n).length:Int)-1)=(((Ab n).length-1:Nat):Int):=by rw[wI (by omega) (by omega)];omega
  have wm:IntKind.i64.wrap (64*(((Ab n).length-1:Nat):Int))=((64*((Ab n).length-1):Nat):Int):=by rw[wI (by omega) (by omega)];omega
  have hat:(Ab n)[(Ab n).length-1]?=some (Ef n):=by
   unfold Ef;rw[E2,BH (by omega)];rfl
  have hm:((Ab n).map AR)[(Ab n).length-1]?=some (u64 (Ef n:Int)):=by rw[BI,hat];rfl
  have ht:Ef n<BB:=Eo n _ (BE hat);have c2:=iY (Ef n) ht;have hbl:=Lib.bitLen_le (Ef n) 64 (Ad _) ht;have wa:IntKind.i64.wrap (((64*((Ab n).length-1):Nat):Int)+(Lib.bitLen (Ef n):Int))=((Hl n:Nat):Int):=by
   have hb:Hl n=64*((Ab n).length-1)+Lib.bitLen (Ef n):=AG h0;rw[hb,wI (by omega) (by omega)];omega
  refine AN Ac (E5 e1 el wl wm wa kN) c1 hm c2 AB AB AB ?_;exact AQ rfl AA.out
theorem Zn (x:GI)(h:x.wf)(hf:x.few):AK C0 160 [x.D] (Au (Iy x.z.natAbs)):=by
 refine Ak.walk w1 Yw rfl λF=>?_
 have c1:=lh x h hf;have c2:=R1 x h hf;have hlen:(Lib.decDigits x.z.natAbs).length<=27*1000000+1:=Lr (k:=1000000) (by unfold GI.few at hf;omega);have hil:(Lib.itoa x.z).length<=27000002:=by
  unfold Lib.itoa;split
  ·rw[Bl];omega
  ·rw[show x.z.toNat=x.z.natAbs by omega];omega
 have c3:=Q4 (Lib.itoa x.z) (by omega);rw[(LX x.z).2]at c3;have hsz:=CX (Lib.decDigits x.z.natAbs);have hlb:=fk x.z.natAbs;obtain⟨b,hb⟩:∃b,Iy x.z.natAbs=b:=⟨_,rfl⟩
 have e2:decide (((Lib.decDigits x.z.natAbs).length:Int)>600)=b:=by rw[<-hb];exact C4.2 (by omega)
 obtain⟨p,hp⟩:∃b,decide (Hl x.z.natAbs>1800)=b:=⟨_,rfl⟩
 have e1:decide (((Hl x.z.natAbs:Nat):Int)>1800)=p:=by rw[<-hp];exact C4.2 (by omega)
 rw[hb,hp]at hlb;rw[hb,hlb];dsimp only[GI.D]at c1 c2⊢;cases p
 ·refine AN Ac e1 c1 AB AB AB AB AB ?_
  exact AQ rfl AA.out
 ·refine AN Ac (Av e1 e2 hsz) c1 c2 c3 AB AB AB ?_
  exact AQ rfl AA.out
theorem Zg {r:Rat}{x:GF}{k:Nat}(h:FR r x k)(hk:k<100000):x.n.wf/\x.n.few/\(AW (x.d:Int)).wf/\(AW (x.d:Int)).few/\x.n.z=r.num/\x.d=r.den/\0<x.d:=
 ⟨h.is.1,h.fn (by omega),CT _,by
  show(Ab ((x.d:Int)).natAbs).length<1000000;rw[EA];have:=h.ld;omega,h.is.2.1,h.is.2.2,h.dpos⟩
theorem W5 {r:Rat}{x:GF}{k:Nat}(h:FR r x k)(hk:k<100000):AK C0 113 [x.D] (Au (Da r)):=by
 refine Ak.walk w1 Yg rfl λF=>?_
 obtain⟨h1,h2,h3,h4,h5,h6,_⟩:=Zg h hk;have c1:=Zn x.n h1 h2;have c2:=Zn (AW (x.d:Int)) h3 h4;have hb:Da r=(Iy x.n.z.natAbs||Iy (AW (x.d:Int)).z.natAbs):=by
  unfold Da Iy;rw[h5,<-h6];rfl
 rw[hb];obtain⟨p,hp⟩:∃b,Iy x.n.z.natAbs=b:=⟨_,rfl⟩
 obtain⟨q,hq⟩:∃b,Iy (AW (x.d:Int)).z.natAbs=b:=⟨_,rfl⟩
 rw[hp]at c1;rw[hq]at c2;rw[hp,hq];dsimp only[GI.D,GF.D]at c1 c2⊢;generalize AW (x.d:Int)=y at c2⊢;cases p<;>cases q
 all_goals
  refine AN Ac kB c1 c2 AB AB AB AB ?_;exact AQ rfl AA.out
theorem ZN {r:Rat}{x:GF}{k:Nat}(h:FR r x k)(hk:k<100000):AK C0 114 [x.D] (str (sb (BM r))):=by
 refine Ak.walk w1 Yh rfl λF=>?_
 obtain⟨h1,h2,h3,h4,h5,h6,h7⟩:=Zg h hk;have c0:=RQ x h7;have c1:=R1 x.n h1 h2;have c2:=R1 (AW (x.d:Int)) h3 h4;have hd:Lib.itoa (AW (x.d:Int)).z=Lib.decDigits r.den:=by
  show Lib.itoa (x.d:Int)=_;unfold Lib.itoa;rw[AG (by omega),h6];rfl
 rw[hd]at c2;rw[h5]at c1;have l1:(Lib.itoa r.num).length<=27000002:=by
  have:(Lib.decDigits x.n.z.natAbs).length<=27*1000000+1:=Lr (k:=1000000) (by unfold GI.few at h2;omega)
  rw[h5]at this;unfold Lib.itoa;split
  ·rw[Bl];omega
  ·rw[show r.num.toNat=r.num.natAbs by omega];omega
 have l2:(Lib.decDigits r.den).length<=27000001:=by
  have:(Lib.decDigits (AW (x.d:Int)).z.natAbs).length<=27*1000000+1:=Lr (k:=1000000) (by unfold GI.few at h4;omega)
  rw[<-h6];exact this
 have s1:=CX (Lib.itoa r.num);have s2:=CX (Lib.decDigits r.den);have s3:(sb [47]).size=1:=rfl;have s4:=CX (Lib.itoa r.num++[47]);have z1:(sb (Lib.itoa r.num)).size+(sb [47]).size<=9223372036854775807:=by rw[s1,s3];omega
 have z2:(sb (Lib.itoa r.num++[47])).size+(sb (Lib.decDigits r.den)).size<=9223372036854775807:=by rw[s4,s2,Bf,F5];omega
 have a1:sb (Lib.itoa r.num)++(⟨#[47]⟩:ByteArray)=sb (Lib.itoa r.num++[47]):=Sw _ [47];have a2:=Sw (Lib.itoa r.num++[47]) (Lib.decDigits r.den);rw[Dm]at a2;dsimp only[GI.D,GF.D]at c0 c1 c2⊢;generalize AW (x.d:Int)=y at c0 c2⊢;unfold BM
 by_cases g:x.d=1
 ·rw[AY g]at c0
  rw[AH (h6 ▸ g)];refine AN V0 kB c0 c1 AB AB AB AB ?_;exact AQ rfl AA.out
 ·rw[Ah g]at c0
  rw[AG (λq=>g (h6.trans q))];refine AN V0 (Ae a1 a2) c0 c1 c2 AB AB AB ?_;exact AQ rfl AA.out
set_option maxHeartbeats 4000000
def nb (r:Rat)(n d:Nat):Prop:=r.num.natAbs<=n/\r.den<=d
def OX:Nat:=10^40
theorem lS {l:List UInt8}(h:CP l=0)(hl:l.length<=40):nb (CF l) OX OX:=by
 obtain⟨m1,m2,m3,m4⟩:=My h;obtain⟨p1,p2⟩:=Oc h;have hs1:(Bx l).length<=40:=by
  have:(Bx l).length<=l.length:=by
   unfold Bx;have a1:(Bi (Bv l)).length<=(Bv l).length:=by unfold Bi;split<;>simp
   have a2:(Bv l).length<=l.length:=by unfold Bv;rw[Bj];omega
   omega
  omega
 have hb:∀k,k<=40->(10:Nat)^k<=OX:=λk hk=>E4 (by decide) hk
 refine⟨?_,?_⟩
 ·rw[m1,m4]
  exact BQ (JE (Fk _ p1)) (hb _ hs1)
 ·rw[m2]
  unfold GK;cases hs:Ce l
  ·exact(by decide:1<=OX)
  ·have hs2:(BU l).length<=40:=by
    have:(BU l).length<=l.length:=by unfold BU;simp
    omega
   exact BQ (JE (Fk _ (p2 hs))) (hb _ hs2)
theorem sI {r:Rat}{n d k:Nat}(h:nb r n d)(h1:n<BB^k)(h2:d<BB^k):rk r k:=
 ⟨GU (DJ h.1 h1),GU (DJ h.2 h2)⟩
theorem b6 {l:List UInt8}(h:CP l=0)(hl:l.length<=40):rk (CF l) 3:=sI (lS h hl) (by decide) (by decide)
theorem XW (k:Nat)(hk:1<=k):FR 0 ⟨AW 0,1⟩ k:=⟨⟨CT _,by rw[DX];rfl,rfl⟩,by
 refine rk.mono (k:=1) ?_ hk;exact⟨GU (k:=1) (by decide),GU (k:=1) (by decide)⟩⟩
abbrev Fh:Dr:=[(11,[0,1,2,3,4,5,6,7,8,9,10],[11,12]),(21,[0,1],[2,3])]
open Go.Proofs Go.RowKit
set_option maxRecDepth 20000
set_option maxHeartbeats 4000000
def Nk (a b:List UInt8):Bool:=Kx (sb a) (sb b)||Bh (sb a) (sb b)
def E7 (l:List As)(i:Nat):Nat:=
 if DO (FJ l i).lot=false then 8 else if 0<i/\Nk (FJ l i).lot (FJ l (i-1)).lot=true then 11 else if CP (FJ l i).part≠0 then CP (FJ l i).part else if GH (CF (FJ l i).part)<=0 then 12 else 0
def Ee (l:List As):Nat->Rat
 | 0=>0
 |n+1=>Ee l n+CF (FJ l n).part
def G6 (l:List As):Nat:=if l.length=0 then 2 else if 64<l.length then 5 else if DV (E7 l) l.length≠0 then DV (E7 l) l.length else if Ee l l.length=1 then 0 else 12
theorem Pe (l:List UInt8):AK C0 56 [str (sb l)] (Au (DO l)):=gJ (sb l)
theorem jk (a b:Rat):(Kz a b==0)=decide (a=b):=by
 unfold Kz
 by_cases h:a<b
 ·rw[AH h,Ah (Rat.ne_of_lt h)];rfl
 ·rw[AG h]
  by_cases h2:b<a
  ·rw[AH h2,Ah λe=>Rat.ne_of_lt h2 e.symm];rfl
  ·rw[AG h2,AY (Rat.le_antisymm (Rat.not_lt.1 h2) (Rat.not_lt.1 h))];rfl
theorem qY {a b:Rat}{x y:GF}{i j:Nat}(hx:FR a x i)(hy:FR b y j)(hk:i+j<300000):AK C0 184 [x.D,y.D] (Au (decide (a=b))):=by
 refine Ak.walk w1 Y2 rfl λF=>?_
 have c:=nM hx hy hk;have e:=jk a b;obtain⟨r,hr⟩:∃r,Kz a b=r:=⟨_,rfl⟩
 rw[hr]at c e;obtain⟨xD,hxD⟩:∃d,x.D=d:=⟨_,rfl⟩
 obtain⟨yD,hyD⟩:∃d,y.D=d:=⟨_,rfl⟩
 unfold GF.D at c hxD hyD⊢;refine AN Ac e c AB AB AB AB AB ?_;exact AQ rfl AA.out
theorem rA:FR 1 ⟨AW 1,1⟩ 1:=by
 have:=PZ (z:=1) (by decide)
 exact this
theorem uN (b:Bool)(l:List As)(hl:l.length<=9223372036854775807)(hf:∀s∈l,s.few):AK C0 135 [CK b l] (i64 (G6 l:Nat)):=by
 refine Ak.walk w1 Yk rfl λF=>?_
 have el:(((l.map As.D).length:Nat):Int)=(l.length:Int):=by rw[Ap]
 have hC:G6 l=if l.length=0 then 2 else if 64<l.length then 5 else if DV (E7 l) l.length≠0 then DV (E7 l) l.length else if Ee l l.length=1 then 0 else 12:=rfl
 rcases Nat.decEq l.length 0 with h0|h0
 rotate_left
 ·rw[AH h0]at hC
  rw[hC];have q1:((l.length:Int)==0)=true:=by rw[h0];rfl
  refine AN Fh (Ae el q1) AB AB AB AB AB AB ?_;exact AQ rfl AA.out
 rw[AG h0]at hC;have q1:((l.length:Int)==0)=false:=Bw.2 (by omega)
 by_cases h64:64<l.length
 ·rw[AH h64]at hC
  rw[hC];have q2:decide ((l.length:Int)>64)=true:=AY (by omega);refine AN Fh (Av el q1 q2) AB AB AB AB AB AB ?_;exact AQ rfl AA.out
 rw[AG h64]at hC;have q2:decide ((l.length:Int)>64)=false:=Ah (by omega);have c0:=Ny 0 ⟨by decide,by decide⟩;have c1:=Ny 1 ⟨by decide,by decide⟩;refine AN Fh (Av el q1 q2) c0 AB AB AB AB AB ?_;refine AC.loop (α:=Nat×GF×Nat) (λp=>⟨[(0,CK b l),(3,.optr 501 8 4 0 0),(15,CK b l),(16,i64 (l.length:Int)),(17,i64 (p.1:Int))],[⟨501,8,141,4,[p.2.1.D]⟩],p.2.2⟩) (λp=>l.length-p.1) (λp=>p.1<=l.length/\(∀j,j<p.1->E7 l j=0)/\FR (Ee l p.1) p.2.1 (601*p.1+1)) (0,⟨AW 0,1⟩,_)
  ⟨BS _,λj h=>Aj h (HM j),XW 1 (Ad _)⟩ AJ ?_
 rintro⟨i,y,m⟩ F ⟨hi,hz,hS⟩;dsimp only at hi hz hS⊢;rcases BL i l.length with h2|h2
 rotate_left
 ·have e1:=Cm h2
  have:i=l.length:=by omega
  subst this;rw[AG (λh=>h (LS hz))]at hC;have cS:=qY hS rA (by omega);obtain⟨q,hq⟩:∃q,decide (Ee l l.length=1)=q:=⟨_,rfl⟩
  rw[hq]at cS;cases q
  ·rw[AG (DA hq)]at hC
   rw[hC];refine AN Fh e1 c1 cS AB AB AB AB ?_;exact AQ rfl AA.out
  ·rw[AH (C3 hq)]at hC
   rw[hC];refine AN Fh e1 c1 cS AB AB AB AB ?_;exact AQ rfl AA.out
 have e1:=Cn h2;have wi:=Cp (i:=i) (by omega);obtain⟨s,hs⟩:=CO h2;have hm:(l.map As.D)[i]?=some (.agg [str (sb s.lot),str (sb s.part)]):=by rw[BI,hs];rfl
 obtain⟨f1,f2⟩:=hf s (BE hs);have hE:E7 l i=if DO s.lot=false then 8 else if 0<i/\Nk s.lot (FJ l (i-1)).lot=true then 11 else if CP s.part≠0 then CP s.part else if GH (CF s.part)<=0 then 12 else 0:=by unfold E7;rw[Iq hs]
 have hbad:∀e:Nat,e≠0->E7 l i=e->G6 l=e:=λe he h=>by
  have:=NG hz h2 (by rw[h];exact he)
  rw[hC,this,h,AH he]
 have cN:=Pe s.lot;obtain⟨N,hN⟩:∃q,DO s.lot=q:=⟨_,rfl⟩
 rw[hN]at cN hE;cases N
 ·rw[AH rfl]at hE
  rw[hbad 8 (by decide) hE];refine AN Fh (Ae e1 kN) hm cN AB AB AB AB ?_;exact AQ rfl AA.out
 rw[AG (by decide)]at hE;have cC:=iI s.part f2;rcases i with _|q
 ·have g0:decide (((0:Nat):Int)>0)=false:=rfl
  rw[AG (λh=>Aj h.1 (Nat.lt_irrefl 0))]at hE;rcases Nat.decEq (CP s.part) 0 with hc0|hc0
  ·rw[AH hc0]at hE
   have e3:=Fr hc0;rw[hbad (CP s.part) hc0 hE];refine AN Fh (Bk e1 g0 kN e3) hm cN cC AB AB AB ?_;exact AQ rfl AA.out
  rw[AG (λh=>h hc0)]at hE;have e3:=Fs hc0;have cP:=Pr f2 hc0;have fP:=P0 hc0;have cG:=XC fP.is;have cA:=Pk hS fP (by omega);have fA:=PP hS fP;obtain⟨z,hzz⟩:∃z,I3 y (Fl s.part)=z:=⟨_,rfl⟩
  rw[hzz]at cA fA;obtain⟨sg,hsg⟩:∃q,GH (CF s.part)=q:=⟨_,rfl⟩
  rw[hsg]at cG hE
  by_cases hs0:sg<=0
  ·rw[AH hs0]at hE
   have e4:decide (sg<=0)=true:=AY hs0;rw[hbad 12 (by decide) hE];refine AN Fh (Cv e1 g0 kN e3 e4) hm cN cC cP cG AB ?_;exact AQ rfl AA.out
  rw[AG hs0]at hE;have e4:decide (sg<=0)=false:=Ah hs0;refine AN Fh (E5 e1 g0 kN e3 e4 wi) hm cN cC cP cG AB ?_;refine cI cA ?_;refine AN Fh wi AB AB AB AB AB AB ?_;exact⟨(0+1,z,_),⟨h2,λj hj=>by
   rcases Nat.lt_succ_iff_lt_or_eq.1 hj with q|q
   ·exact hz j q
   ·rw[q];exact hE,by
   show FR (Ee l 0+CF (FJ l 0).part) z _;rw[Iq hs];exact⟨fA.is,fA.rk.mono (by dsimp only;omega)⟩⟩,by dsimp only;omega,AJ⟩
 ·have g0:decide (((q+1:Nat):Int)>0)=true:=AY (by omega)
  have g1:IntKind.i64.wrap (((q+1:Nat):Int)-1)=(q:Int):=by rw[wI (by omega) (by omega)];omega
  obtain⟨s0,hs0'⟩:=CO (l:=l) (i:=q) (by omega);have hm0:(l.map As.D)[q]?=some (.agg [str (sb s0.lot),str (sb s0.part)]):=by rw[BI,hs0'];rfl
  rw[Hz,Iq hs0']at hE;obtain⟨bL,hbL⟩:∃q,Nk s.lot s0.lot=q:=⟨_,rfl⟩
  have g2:(Kx (sb s.lot) (sb s0.lot)||Bh (sb s.lot) (sb s0.lot))=bL:=hbL;rw[hbL]at hE;cases bL
  rotate_left
  ·rw[AH ⟨Nat.succ_pos q,rfl⟩]at hE
   rw[hbad 11 (by decide) hE];refine AN Fh (Cv e1 g0 g1 g2 kN) hm hm0 cN AB AB AB ?_;exact AQ rfl AA.out
  rw[AG (λh=>Aj h.2 (by decide))]at hE;rcases Nat.decEq (CP s.part) 0 with hc0|hc0
  ·rw[AH hc0]at hE
   have e3:=Fr hc0;rw[hbad (CP s.part) hc0 hE];refine AN Fh (E5 e1 g0 g1 g2 kN e3) hm hm0 cN cC AB AB ?_;exact AQ rfl AA.out
  rw[AG (λh=>h hc0)]at hE;have e3:=Fs hc0;have cP:=Pr f2 hc0;have fP:=P0 hc0;have cG:=XC fP.is;have cA:=Pk hS fP (by omega);have fA:=PP hS fP;obtain⟨z,hzz⟩:∃z,I3 y (Fl s.part)=z:=⟨_,rfl⟩
  rw[hzz]at cA fA;obtain⟨sg,hsg⟩:∃q,GH (CF s.part)=q:=⟨_,rfl⟩
  rw[hsg]at cG hE
  by_cases hs0:sg<=0
  ·rw[AH hs0]at hE
   have e4:decide (sg<=0)=true:=AY hs0;rw[hbad 12 (by decide) hE];refine AN Fh (Cj e1 g0 g1 g2 kN e3 e4) hm hm0 cN cC cP cG ?_;exact AQ rfl AA.out
  rw[AG hs0]at hE;have e4:decide (sg<=0)=false:=Ah hs0;refine AN Fh (Cj e1 g0 g1 g2 kN e3 (Ae e4 wi)) hm hm0 cN cC cP cG ?_;refine cI cA ?_;refine AN Fh wi AB AB AB AB AB AB ?_;exact⟨(q+1+1,z,_),⟨h2,λj hj=>by
   rcases Nat.lt_succ_iff_lt_or_eq.1 hj with q|q
   ·exact hz j q
   ·rw[q];exact hE,by
   show FR (Ee l (q+1)+CF (FJ l (q+1)).part) z _;rw[Iq hs];exact⟨fA.is,fA.rk.mono (by dsimp only;omega)⟩⟩,by dsimp only;omega,AJ⟩
def AF.few (x:AF):Prop:=x.grain.length<=100000/\x.shs.length<=9223372036854775807/\∀s∈x.shs,s.few
def CV (x:AF):Nat:=if DO x.grain=false then 8 else if x.mass<1\/x.mass>999999999 then 3 else G6 x.shs
def CE (l:List AF)(k:Nat):AF:=l.getD k ⟨[],0,[]⟩
theorem FN {l:List AF}{k:Nat}{x:AF}(h:l[k]?=some x):CE l k=x:=by unfold CE;rw[E2,h];rfl
def Aq (l:List AF):Int:=(l.map (·.mass)).sum
theorem Rm {l:List AF}{i:Nat}{x:AF}(h:l[i]?=some x):Aq (l.take (i+1))=Aq (l.take i)+x.mass:=by
 unfold Aq;rw[EB,h,Cu,List.sum_append];simp
def Lv (l:List AF):Prop:=l.length<=1000000/\∀x∈l,x.mass.natAbs<=1000000000
theorem ST {l:List AF}(h:∀x∈l,x.mass.natAbs<=1000000000):(Aq l).natAbs<=l.length*1000000000:=by
 unfold Aq
 induction l with
 |nil=>simp
 |cons a l ih=>
  have h1:=h a (by simp);have h2:=ih λx hx=>h x (by simp[hx])
  simp only[Cd,List.sum_cons,Bl];omega
def Be (l:List AF):Nat:=if 64<l.length then 5 else if DV (λi=>CV (CE l i)) l.length≠0 then DV (λi=>CV (CE l i)) l.length else if Aq l>999999999 then 4 else 0
theorem M6 {x:AF}(h:CV x=0):DO x.grain=true/\1<=x.mass/\x.mass<=999999999/\G6 x.shs=0:=by
 unfold CV at h;split at h
 ·cases h
 ·rename_i h1
  split at h
  ·cases h
  ·rename_i h2
   exact⟨by simpa using h1,by omega,by omega,h⟩
theorem Ku (b:Bool)(e:Int):AK C0 55 [Au b,i64 e] (i64 (if b then e else 0)):=by
 refine Ak.walk w1 aJ rfl λF=>?_
 cases b
 ·refine AN Ac kB AB AB AB AB AB AB ?_
  exact AQ rfl AA.out
 ·refine AN Ac kB AB AB AB AB AB AB ?_
  exact AQ rfl AA.out
theorem NT (v:List Int)(hl:v.length<=1000):AK C0 54 [.sl true 1 (v.map λe=>i64 e)] (i64 (DP v)):=by
 refine Ak.walk w1 aI rfl λF=>?_
 have el:(((v.map λe=>i64 e).length:Nat):Int)=(v.length:Int):=by rw[Ap]
 refine AN Ac el AB AB AB AB AB AB ?_;refine AC.loop (α:=Nat×Nat) (λp=>⟨[(5,.sl true 1 (v.map λe=>i64 e)),(6,i64 (v.length:Int)),(7,i64 (p.1:Int))],[],p.2⟩) (λp=>v.length-p.1) (λp=>p.1<=v.length/\∀(j:Nat) (e:Int),j<p.1->v[j]?=some e->e=0) (0,_) ⟨BS _,λj e h=>Aj h (HM j)⟩ AJ ?_;rintro⟨i,m⟩ F ⟨hi,ha⟩;dsimp only at hi ha⊢;rcases BL i v.length with h2|h2
 rotate_left
 ·have e1:=Cm h2
  have:i=v.length:=by omega
  subst this;have hd:DP v=0:=by rw[Ob ha,Ia];rfl
  rw[hd];refine AN Ac e1 AB AB AB AB AB AB ?_;exact AQ rfl AA.out
 have e1:=Cn h2;have wi:=Cp (i:=i) (by omega);obtain⟨l,hl'⟩:=CO h2;have hm:(v.map λe=>i64 e)[i]?=some (i64 l):=by rw[BI,hl'];rfl
 by_cases g:l=0
 ·have e5:(l != 0)=false:=by rw[g];rfl
  refine AN Ac (Bk e1 wi e5 kN) hm AB AB AB AB AB ?_;exact⟨(i+1,_),⟨h2,λj e hj he=>by
   rcases Nat.lt_succ_iff_lt_or_eq.1 hj with q|q
   ·exact ha j e q he
   ·subst q;rw[hl']at he;cases he;exact g⟩,by dsimp only;omega,AJ⟩
 ·have e5:(l != 0)=true:=NM g
  have hd:DP v=l:=by
   rw[Ob ha,D9 h2];rw[BH h2]at hl';rw[FD hl'];exact AH g
  rw[hd];refine AN Ac (Bk e1 wi e5 kN) hm AB AB AB AB AB ?_;exact AQ rfl AA.out
theorem Xm (b:Bool)(l:List AF)(hs:Lv l):AK C0 59 [Ai b l] (i64 (Aq l)):=by
 refine Ak.walk w1 TJ rfl λF=>?_
 have el:(((l.map AF.D).length:Nat):Int)=(l.length:Int):=by rw[Ap]
 obtain⟨hl,hm0⟩:=hs;refine AN Ac el AB AB AB AB AB AB ?_;refine AC.loop (α:=Nat×Nat) (λp=>⟨[(3,i64 (Aq (l.take p.1))),(6,Ai b l),(7,i64 (l.length:Int)),(8,i64 (p.1:Int))],[],p.2⟩) (λp=>l.length-p.1) (λp=>p.1<=l.length) (0,_) (BS _) AJ ?_;rintro⟨i,m⟩ F hi;dsimp only at hi⊢;rcases BL i l.length with h2|h2
 rotate_left
 ·have e1:=Cm h2
  have:i=l.length:=by omega
  subst this;rw[DW];refine AN Ac e1 AB AB AB AB AB AB ?_;exact AQ rfl AA.out
 have e1:=Cn h2;have wi:=Cp (i:=i) (by omega);obtain⟨x,hx⟩:=CO h2;have hm:(l.map AF.D)[i]?=some (.agg [str (sb x.grain),i64 x.mass,.sl false 2 (x.shs.map As.D)]):=by rw[BI,hx];rfl
 have hb:=ST (l:=l.take i) λy hy=>hm0 y (Hy hy)
 have hxm:=hm0 x (BE hx);rw[Bj,Eh hi]at hb;have wS:IntKind.i64.wrap (Aq (l.take i)+x.mass)=Aq (l.take (i+1)):=by rw[Rm hx,wI (by omega) (by omega)]
 refine AN Ac (Bk e1 wi @wS kN) hm AB AB AB AB AB ?_;exact⟨(i+1,_),h2,by dsimp only;omega,AJ⟩
theorem ax (x:AF)(hf:x.few):AK C0 85 [x.D] (i64 (CV x:Nat)):=by
 refine Ak.walk w1 aU rfl λF=>?_
 obtain⟨f1,f2,f3⟩:=hf;have cN:=Pe x.grain;have cS:=uN false x.shs f2 f3;have hC:CV x=if DO x.grain=false then 8 else if x.mass<1\/x.mass>999999999 then 3 else G6 x.shs:=rfl
 obtain⟨N,hN⟩:∃q,DO x.grain=q:=⟨_,rfl⟩
 obtain⟨SD,hSD⟩:∃d,CK false x.shs=d:=⟨_,rfl⟩
 have pS:AA SD:=by rw[<-hSD];exact AI
 have hna:Jk SD=true:=by rw[<-hSD];rfl
 unfold AF.D;rw[hN]at cN hC;rw[hSD]at cS⊢;cases N
 ·rw[AH rfl]at hC
  rw[hC];refine AN Ac kB cN AB AB AB AB AB ?_;exact AQ rfl AA.out
 rw[AG (by decide)]at hC
 by_cases h1:x.mass<1
 ·rw[AH (.inl h1)]at hC
  rw[hC];have e1:decide (x.mass<1)=true:=AY h1;refine AN Ac e1 cN AB AB AB AB AB ?_;exact AQ rfl AA.out
 have e1:decide (x.mass<1)=false:=Ah h1
 by_cases h2:x.mass>999999999
 ·rw[AH (.inr h2)]at hC
  rw[hC];have e2:decide (x.mass>999999999)=true:=AY h2;refine AN Ac (Ae e1 e2) cN AB AB AB AB AB ?_;exact AQ rfl AA.out
 have e2:decide (x.mass>999999999)=false:=Ah h2;rw[AG (by omega)]at hC;rw[hC];refine AN Ac (Av e1 e2 hna) cN cS AB AB AB AB ?_;exact AQ rfl AA.out
theorem Ra {l:List AF}(h64:¬ 64<l.length)(hz:∀j,j<l.length->CV (CE l j)=0):Lv l:=by
 refine⟨by omega,λx hx=>?_⟩;obtain⟨j,hj⟩:=List.mem_iff_getElem?.1 hx
 have:=hz j (List.getElem?_eq_some_iff.1 hj).1
 rw[FN hj]at this
 have:=M6 this
 omega
theorem Jw (b:Bool)(l:List AF)(hl:l.length<=9223372036854775807)(hf:∀x∈l,x.few):AK C0 37 [Ai b l] (i64 (Be l:Nat)):=by
 refine Ak.walk w1 aE rfl λF=>?_
 have el:(((l.map AF.D).length:Nat):Int)=(l.length:Int):=by rw[Ap]
 have hC:Be l=if 64<l.length then 5 else if DV (λi=>CV (CE l i)) l.length≠0 then DV (λi=>CV (CE l i)) l.length else if Aq l>999999999 then 4 else 0:=rfl
 by_cases h64:64<l.length
 ·rw[AH h64]at hC
  rw[hC];have q2:decide ((l.length:Int)>64)=true:=AY (by omega);refine AN Ac (Ae el q2) AB AB AB AB AB AB ?_;exact AQ rfl AA.out
 rw[AG h64]at hC;have q2:decide ((l.length:Int)>64)=false:=Ah (by omega);refine AN Ac (Ae el q2) AB AB AB AB AB AB ?_;refine AC.loop (α:=Nat×Nat) (λp=>⟨[(0,Ai b l),(9,Ai b l),(10,i64 (l.length:Int)),(11,i64 (p.1:Int))],[],p.2⟩) (λp=>l.length-p.1) (λp=>p.1<=l.length/\∀j,j<p.1->CV (CE l j)=0) (0,_) ⟨BS _,λj h=>Aj h (HM j)⟩ AJ ?_;rintro⟨i,m⟩ F ⟨hi,hz⟩;dsimp only at hi hz⊢;rcases BL i l.length with h2|h2
 rotate_left
 ·have e1:=Cm h2
  have:i=l.length:=by omega
  subst this;rw[AG (λh=>h (LS (f:=λi=>CV (CE l i)) hz))]at hC;have cT:=Xm b l (Ra h64 hz);obtain⟨q,hq⟩:∃q,decide (Aq l>999999999)=q:=⟨_,rfl⟩
  have cW:=Ku q 4;have hR:((Be l:Nat):Int)=if q then 4 else 0:=by
   rw[hC,<-hq]
   by_cases h:Aq l>999999999
   ·rw[AH h,AY h];rfl
   ·rw[AG h,Ah h];rfl
  rw[hR];refine AN Ac (Ae e1 hq) cT cW AB AB AB AB ?_;exact AQ rfl AA.out
 have e1:=Cn h2;have wi:=Cp (i:=i) (by omega);obtain⟨x,hx⟩:=CO h2;have hm:(l.map AF.D)[i]?=some (.agg [str (sb x.grain),i64 x.mass,.sl false 2 (x.shs.map As.D)]):=by rw[BI,hx];rfl
 have cL:=ax x (hf x (BE hx));unfold AF.D at cL;rcases Nat.decEq (CV x) 0 with hc0|hc0
 ·have e3:=Fr hc0
  have:=NG (f:=λi=>CV (CE l i)) hz h2 (by rw[FN hx];exact hc0)
  rw[FN hx]at this;rw[this,AH hc0]at hC;rw[hC];refine AN Ac (Av e1 e3 kN) hm cL AB AB AB AB ?_;exact AQ rfl AA.out
 have e3:=Fs hc0;refine AN Ac (Bk e1 e3 wi kN) hm cL AB AB AB AB ?_;exact⟨(i+1,_),⟨h2,λj hj=>by
  rcases Nat.lt_succ_iff_lt_or_eq.1 hj with q|q
  ·exact hz j q
  ·rw[q,FN hx];exact hc0⟩,by dsimp only;omega,AJ⟩
theorem WB {α:Type}{l:List α}{p:α->Bool}{k:Nat}{x:α}(hx:l[k]?=some x)(h:(l.take k).all p=true)(hp:p x=true):(l.take (k+1)).all p=true:=by
 rw[EB,hx,LC,h];simp[hp]
theorem SK {α:Type}{l:List α}{p:α->Bool}{k:Nat}{x:α}(hx:l[k]?=some x)(hp:p x=false):l.all p=false:=by
 cases h:l.all p
 ·rfl
 ·rw[CQ.1 h x (BE hx)]at hp;exact hp
abbrev Ld:Dr:=[(8,[0,1,2,3,4,5,6,7],[8])]
open Go.Proofs Go.RowKit
set_option maxRecDepth 20000
set_option maxHeartbeats 4000000
abbrev Bu:=List (List UInt8×Rat)
def FP (lot:List UInt8):Bu->Option Rat
 | []=>none
 |p::l=>if lot=p.1 then some p.2 else FP lot l
def Fq (lot:List UInt8)(r:Rat):Bu->Bu
 | []=>[(lot,r)]
 |p::l=>if lot=p.1 then(lot,r)::l else p::Fq lot r l
def I8 (lot:List UInt8)(r:Rat)(q:Bu):Bu:=Fq lot (match FP lot q with|some o=>r+o|none=>r) q
def Fm (x:AF)(n:Nat)(q:Bu):Bu:=(x.shs.take n).foldl (λacc s=>I8 s.lot (CF s.part*(x.mass:Rat)) acc) q
def B9 (l:List AF):Bu:=l.foldl (λacc x=>Fm x x.shs.length acc) []
def MQ (B:Nat):Bu->Cs->Prop
 | [],[]=>True
 |p::q,e::m=>(e.1=sb p.1/\∃y:GF,e.2=y.D/\FR p.2 y B)/\MQ B q m
 |_,_=>False
theorem MQ.mono {B B':Nat}(hB:B<=B'):∀ {q:Bu} {m:Cs},MQ B q m->MQ B' q m
 | [],[],_=>trivial
 |_::_,_::_,⟨⟨h1,y,h2,h3⟩,h4⟩=>⟨⟨h1,y,h2,h3.is,h3.rk.mono hB⟩,MQ.mono hB h4⟩
theorem MQ.look {B:Nat}(lot:List UInt8):∀ {q:Bu} {m:Cs},MQ B q m->(HO (sb lot) m=none/\FP lot q=none)\/∃(r:Rat) (y:GF),HO (sb lot) m=some y.D/\FP lot q=some r/\FR r y B
 | [],[],_=>.inl ⟨rfl,rfl⟩
 |p::q,e::m,⟨⟨h1,y,h2,h3⟩,h4⟩=>by
  unfold HO FP;rw[h1,Et]
  by_cases hl:lot=p.1
  ·rw[AY hl,AH hl]
   exact .inr ⟨p.2,y,by rw[h2];rfl,rfl,h3⟩
  ·rw[Ah hl,AG hl]
   exact MQ.look lot h4
theorem MQ.set {B:Nat}(lot:List UInt8){r:Rat}{y:GF}(hr:FR r y B):∀ {q:Bu} {m:Cs},MQ B q m->MQ B (Fq lot r q) (Ew (sb lot) y.D m)
 | [],[],_=>⟨⟨rfl,y,rfl,hr⟩,trivial⟩
 |p::q,e::m,⟨⟨h1,y',h2,h3⟩,h4⟩=>by
  unfold Fq Ew;rw[h1,Et]
  by_cases hl:lot=p.1
  ·rw[AY hl,AH hl]
   exact⟨⟨rfl,y,rfl,hr⟩,h4⟩
  ·rw[Ah hl,AG hl]
   exact⟨⟨h1,y',h2,h3⟩,MQ.set lot hr h4⟩
theorem MQ.pure {B:Nat}:∀ {q:Bu} {m:Cs},MQ B q m->∀e∈m,B1 e.2
 | [],[],_,e,he=>by cases he
 |p::q,e::m,⟨⟨_,y,h2,_⟩,h4⟩,x,hx=>by
  rcases BA.1 hx with rfl|hx
  ·rw[h2];exact AA.out
  ·exact MQ.pure h4 x hx
theorem MQ.mapD {B:Nat}{q:Bu}{m:Cs}(h:MQ B q m):B1 (mapD m):=by
 refine B1.mp (λd hd=>?_) λd hd=>?_
 ·obtain⟨p,-,rfl⟩:=List.mem_map.1 hd;exact AA.out
 ·obtain⟨p,hp,rfl⟩:=List.mem_map.1 hd;exact h.pure p hp
def As.ok (s:As):Prop:=s.lot.length<=100000/\s.part.length<=40/\CP s.part=0
def AF.ok (x:AF):Prop:=x.shs.length<=64/\Sm x.mass/\∀s∈x.shs,s.ok
def AF.okW (w:Nat)(x:AF):Prop:=x.shs.length<=64/\Sm x.mass/\∀s∈x.shs,s.lot.length<=100000/\s.part.length<=100000/\CP s.part=0/\rk (CF s.part) (w-2)
theorem Ms (x:AF)(n:Nat)(q:Bu){s:As}(h:x.shs[n]?=some s):Fm x (n+1) q=I8 s.lot (CF s.part*(x.mass:Rat)) (Fm x n q):=by
 unfold Fm;rw[EB,h,List.foldl_append];rfl
theorem Oi (l:List AF)(n:Nat){x:AF}(h:l[n]?=some x):B9 (l.take (n+1))=Fm x x.shs.length (B9 (l.take n)):=by
 unfold B9;rw[EB,h,List.foldl_append];rfl
theorem ZA (w:Nat)(b:Bool)(l:List AF)(hl:l.length<=100)(hx:∀x∈l,x.okW w)(h2w:2<=w)(hw:w*(64*(l.length+1))<=100000):Ak C0 62 [Ai b l] (λd=>∃m,d=mapD m/\MQ (w*(64*l.length)) (B9 l) m):=by
 refine Ak.walk w1 aP rfl λF0=>?_
 have el:(((l.map AF.D).length:Nat):Int)=(l.length:Int):=by rw[Ap]
 refine sZ 0 ?_;refine AE kB ?_;refine AC.seq ?_;refine HI (by kernel_rfl) ?_;change BX _ _ _ _ _ [0,1] _ _;refine BX.makeMap 100 rfl rfl rfl (Ts F0) (λF1 it hto hO hr0 hnX hM=>?_);change BX _ _ _ _ _ ([1]++[]) _ _;refine Ez w1 100 [1] [] ?_;refine AE kB ?_;refine BX.nil ?_;refine AN Ld el AB AB AB AB AB AB ?_;refine Fv (α:=Nat×Cs×Obj×Nat) (λp=>⟨[(3,.prim (.map (some it))),(12,Ai b l),(13,i64 (l.length:Int)),(14,i64 (p.1:Int))],[],p.2.2.2⟩) (λp=>l.length-p.1)
  (λp F=>p.1<=l.length/\Cq C0 F0 F [⟨100,1,p.2.2.1⟩]/\F.r0 100 1=some it/\G8 F p.2.2.1 p.2.1/\MQ (w*(64*p.1)) (B9 (l.take p.1)) p.2.1) (0,[],.map #[] 0,_) ⟨BS _,hO,hr0,hM,trivial⟩ AJ ?_
 clear hO hr0 hM hto;rintro⟨i,m,o,n1⟩ F ⟨hi,hO,hr0,hM,hQ⟩;dsimp only at hi hO hr0 hM hQ⊢;rcases BL i l.length with h2|h2
 rotate_left
 ·have e1:=Cm h2
  have:i=l.length:=by omega
  subst this;rw[DW]at hQ;refine sZ 300 ?_;refine AE e1 ?_;refine AC.seq ?_;refine AL ?_;refine B5 ?_;refine bV [(3,mapD m)] hO hr0 hnX hM ⟨.inr ⟨rfl,rfl⟩,trivial⟩ (λF2 hto2 hO2=>?_);refine AN Ld kB AB AB AB AB AB AB ?_;exact⟨mapD m,.refl _,hQ.mapD,m,rfl,hQ⟩
 have e1:=Cn h2;have wi:=Cp (i:=i) (by omega);obtain⟨x,hxi⟩:=CO h2;obtain⟨x1,x2,x3⟩:=hx x (BE hxi);have hm:(l.map AF.D)[i]?=some (.agg [str (sb x.grain),i64 x.mass,.sl false 2 (x.shs.map As.D)]):=by rw[BI,hxi];rfl
 have es:(((x.shs.map As.D).length:Nat):Int)=(x.shs.length:Int):=by rw[Ap]
 refine AN Ld (Av e1 es kN) hm AB AB AB AB AB ?_;obtain⟨ga,hga⟩:∃g,n1+1+1+1=g:=⟨_,rfl⟩
 refine Fv (α:=Nat×Cs×Obj×Nat) (λp=>⟨[(3,.prim (.map (some it))),(5,.optr 402 (n1+1+1+1) 3 0 0),(12,Ai b l),(13,i64 (l.length:Int)),(14,i64 (i:Int)),(19,.sl false 2 (x.shs.map As.D)),(20,i64 (x.shs.length:Int)),(21,i64 (p.1:Int))],[⟨402,n1+1+1+1,27,3,[.agg [str (sb x.grain),i64 x.mass,.sl false 2 (x.shs.map As.D)]]⟩],p.2.2.2⟩) (λp=>x.shs.length-p.1)
  (λp F=>p.1<=x.shs.length/\Cq C0 F0 F [⟨100,1,p.2.2.1⟩]/\F.r0 100 1=some it/\G8 F p.2.2.1 p.2.1/\MQ (w*(64*i+p.1)) (Fm x p.1 (B9 (l.take i))) p.2.1) (0,m,o,_) ⟨BS _,hO,hr0,hM,hQ⟩ AJ ?_
 clear hO hr0 hM hQ;rintro⟨j,m2,o2,n2⟩ F ⟨hj,hO,hr0,hM,hQ⟩;dsimp only at hj hO hr0 hM hQ⊢;rw[hga];rcases BL j x.shs.length with h3|h3
 rotate_left
 ·have e2:=Cm h3
  have:j=x.shs.length:=by omega
  subst this;rw[<-Oi l i hxi]at hQ;refine AN Ld (Ae e2 wi) AB AB AB AB AB AB ?_;exact⟨(i+1,m2,o2,_),⟨h2,hO,hr0,hM,hQ.mono (CR _ (by dsimp only;omega))⟩,by dsimp only;omega,AJ⟩
 have e2:=Cn h3;have wj:=Cp (i:=j) (by omega);obtain⟨s,hsj⟩:=CO h3;obtain⟨s1,s2,s3,s4⟩:=x3 s (BE hsj);have hms:(x.shs.map As.D)[j]?=some (.agg [str (sb s.lot),str (sb s.part)]):=by rw[BI,hsj];rfl
 have hsn:=Ms x j (B9 (l.take i)) hsj;have fP:FR (CF s.part) (Fl s.part) (w-2):=⟨(P0 s3).is,s4⟩
 obtain⟨PW,hPW⟩:∃P,w*(64*i+j)=P:=⟨_,rfl⟩
 have hPW1:w*(64*i+(j+1))=PW+w:=by rw[<-hPW,<-EH,Nat.mul_succ]
 have hPWb:PW+w<=100000:=by
  rw[<-hPW1];exact BQ (CR _ (by omega)) hw
 rw[hPW]at hQ;have fM:FR ((x.mass:Int):Rat) ⟨AW x.mass,1⟩ 1:=PZ (by unfold Sm at x2;omega);have c1:=Pr s2 s3;have c2:=Ny x.mass x2;have c3:=Sj fP fM (by omega);have fZ:FR (CF s.part*(x.mass:Rat)) (Hq (Fl s.part) ⟨AW x.mass,1⟩) (w-2+1):=SB fP fM;obtain⟨z,hz⟩:∃z,Hq (Fl s.part) ⟨AW x.mass,1⟩=z:=⟨_,rfl⟩
 rw[hz]at c3 fZ;obtain⟨d1,hd1⟩:∃d,(Fl s.part).D=d:=⟨_,rfl⟩
 obtain⟨d2,hd2⟩:∃d,(⟨AW x.mass,1⟩:GF).D=d:=⟨_,rfl⟩
 have pd1:AA d1:=by rw[<-hd1];exact AI
 have pd2:AA d2:=by rw[<-hd2];exact AI
 rw[hd1]at c1 c3;rw[hd2]at c2 c3;refine sZ 600 ?_;refine AE e2 ?_;refine AC.seq ?_;refine AL ?_;refine Am ?_;refine AC.seq ?_;refine AC.block ?_;refine sZ 700 ?_;refine Bo kT hms ?_;refine AE kB ?_;refine AC.seq ?_;refine B3 w1 800 [0,1,2,3,4,5,6,7] [8] (by kernel_rfl) ?_;refine AE kB ?_;refine BT.same _ (c1) AI ?_;refine BN ?_;refine AE kB ?_;refine BT.same _ (c2) AI ?_;refine BN ?_;refine AE kB ?_;refine BT.same _ (c3) AI ?_;refine BN ?_;refine AE kB ?_;refine AC.seq ?_;refine AC.seq ?_;refine HI (by kernel_rfl) ?_;change BX _ _ _ _ _ ([0,1,2]++(3::([4,5,6,7,8,9]++[]))) _ _;refine Ez w1 900 [0,1,2] _ ?_;refine AE kB ?_;refine BX.look (xo:=⟨100,1,o2⟩) (l:=m2) w1 rfl rfl rfl rfl rfl rfl hO CH hr0 hM ?_;rcases hQ.look s.lot with⟨q1,q2⟩|⟨r,y,q1,q2,q3⟩
 ·rw[U8 q1]
  refine Ez w1 900 [4,5,6,7,8,9] [] ?_;refine AE kB ?_;refine BX.nil ?_;refine At ?_;refine sZ 1000 ?_;refine AE kB ?_;refine AL ?_;refine Am ?_;refine HI (by kernel_rfl) ?_;change BX _ _ _ _ _ ([0,1,2,3]++(4::[])) _ _;refine Ez w1 1200 [0,1,2,3] _ ?_;refine AE kB ?_;refine BX.put (l:=m2) w1 rfl rfl rfl rfl rfl rfl hO hr0 hM (λF3 o3 hto3 hO3 hr3 hM3=>BX.nil ?_);refine At ?_;have hQ2:MQ (w*(64*i+(j+1))) (Fm x (j+1) (B9 (l.take i))) (Ew (sb s.lot) z.D m2):=by
   rw[hsn,hPW1];unfold I8;rw[q2];exact MQ.set s.lot ⟨fZ.is,fZ.rk.mono (by omega)⟩ (hQ.mono (by omega))
  refine AN Ld wj AB AB AB AB AB AB ?_;exact⟨(j+1,Ew (sb s.lot) z.D m2,o3,_),⟨h3,hO3,hr3,hM3,hQ2⟩,by dsimp only;omega,AJ⟩
 ·rw[U9 q1]
  refine Ez w1 900 [4,5,6,7,8,9] [] ?_;refine AE kB ?_;refine BX.nil ?_;have c4:=Pk fZ q3 (by omega);have fA:=PP fZ q3;obtain⟨z2,hz2⟩:∃z2,I3 z y=z2:=⟨_,rfl⟩
  rw[hz2]at c4 fA;refine At ?_;refine sZ 1000 ?_;refine AE kB ?_;refine AL ?_;refine An w1 1100 (by kernel_rfl) ?_;refine AE kB ?_;refine cI c4 ?_;refine AE kB ?_;refine HI (by kernel_rfl) ?_;change BX _ _ _ _ _ ([0,1,2,3]++(4::[])) _ _;refine Ez w1 1200 [0,1,2,3] _ ?_;refine AE kB ?_;refine BX.put (l:=m2) w1 rfl rfl rfl rfl rfl rfl hO hr0 hM (λF3 o3 hto3 hO3 hr3 hM3=>BX.nil ?_);refine At ?_;have hQ2:MQ (w*(64*i+(j+1))) (Fm x (j+1) (B9 (l.take i))) (Ew (sb s.lot) z2.D m2):=by
   rw[hsn,hPW1];unfold I8;rw[q2];exact MQ.set s.lot ⟨fA.is,fA.rk.mono (by omega)⟩ (hQ.mono (by omega))
  refine AN Ld wj AB AB AB AB AB AB ?_;exact⟨(j+1,Ew (sb s.lot) z2.D m2,o3,_),⟨h3,hO3,hr3,hM3,hQ2⟩,by dsimp only;omega,AJ⟩
theorem AF.ok.w5 {x:AF}(h:x.ok):x.okW 5:=⟨h.1,h.2.1,λs hs=>by
 obtain⟨a,b,c⟩:=h.2.2 s hs;exact⟨a,by omega,c,b6 c b⟩⟩
theorem sO (b:Bool)(l:List AF)(hl:l.length<=100)(hx:∀x∈l,x.ok):Ak C0 62 [Ai b l] (λd=>∃m,d=mapD m/\MQ 32000 (B9 l) m):=
 (ZA 5 b l hl (λx h=>(hx x h).w5) (by omega) (by omega)).mono λd ⟨m,h1,h2⟩=>⟨m,h1,h2.mono (by omega)⟩
def TO (r:Rat):List UInt8:=if Da r=true then[]else BM r
def TN (r:Rat):Nat:=if Da r=true then 4 else 0
set_option maxHeartbeats 8000000
theorem S3 {l:List UInt8}(h:CP l=0):rR (CF l)=str (sb l):=by unfold rR;rw[(My h).2.2.1]
set_option maxHeartbeats 4000000
theorem Va (n:Nat):Cr (Lib.decDigits n)=true:=by
 obtain⟨h1,h2,h3⟩:=ED n;rcases DR n with h|h
 ·have e:Lib.decDigits n=[48]:=by
   have:=WN 0
   rw[h];exact C3 (this.trans (AY rfl))
  rw[e];rfl
 ·obtain⟨c,l,e,hc⟩:=jD (Nat.pos_iff_ne_zero.1 h)
  rw[e]at h1⊢;unfold Cr Jx;rw[h1];simp[hc]
theorem Sd {n:Nat}{l:List UInt8}(h:n≠dv l):decide (Lib.decDigits n=l)=false:=Ah λe=>h (by rw[<-e,(ED n).2.1])
theorem jh {r:Rat}(h:Da r=false):CP (BM r)=0:=by
 have hs:Bx (BM r)=Lib.decDigits r.num.natAbs:=by unfold Bx;rw[NN,(LX _).2]
 have hd:=Li r;have hh:=PU r;unfold Da at h;simp only[JF,KA]at h;have hb:Im (BM r)=false:=by
  rw[Og,hs,SX,hh,Va];have e1:(decide (r.num<0)&&decide (Lib.decDigits r.num.natAbs=[48]))=false:=by
   by_cases g:r.num<0
   ·rw[Sd (show r.num.natAbs≠dv [48] by show r.num.natAbs≠0;omega),Bool.and_false]
   ·rw[Ah g,KG]
  rw[e1]
  by_cases g:r.den=1
  ·rw[AY g];rfl
  ·rw[hd,AG g,Va,Sd (show r.den≠dv [48]from r.den_nz),Sd (show r.den≠dv [49]from g),Ah g];rfl
 unfold CP;rw[hb,AG (by decide),hs]
 by_cases g:r.den=1
 ·rw[hd,AH g,hh,AY g,AG (by simp;omega),AG (λk=>Aj k.1 (by decide))]
 ·rw[hd,AG g,(ED _).2.1,(ED _).2.1,AG (by omega),AG (λk=>k.2 r.reduced)]
theorem gp (r:Rat):CF (BM r)=r:=by
 unfold CF GK;rw[NN,XM,PU,Li]
 by_cases g:r.den=1
 ·rw[AY g]
  show mkRat r.num 1=r;rw[<-g];exact Rat.mkRat_self r
 ·rw[Ah g,AG g,(ED _).2.1]
  exact Rat.mkRat_self r
theorem kY:rR 0=str ⟨#[48]⟩:=by
 have h:CF [48]=0:=by kernel_rfl
 rw[<-h,S3 (by kernel_rfl)];all_goals rfl
theorem dh (r:Rat):Bh (sb (BM r)) ⟨#[49]⟩=decide (r=1):=by
 have h1:CF [49]=1:=by kernel_rfl
 have e:(⟨#[49]⟩:ByteArray)=sb [49]:=rfl;rw[e,Et,C4];constructor
 ·intro h
  rw[<-gp r,h,h1]
 ·intro h
  rw[h]
  have:=(My (l:=[49]) (by kernel_rfl)).2.2.1
  rwa [h1]at this
end Go.Ide
namespace Go.Proofs
open Go.Shelf Go.RowKit Go.Lib Go.Sort
def Tryz.sortAmounts_ren:Go.Shelf.Ren:=⟨fun|6=>115|15=>163|14=>162|28=>222|29=>223|20=>214|21=>215|22=>216|23=>217|24=>218|25=>219|26=>220|27=>221|46=>263|47=>264|48=>265|49=>266|50=>267|57=>294|n=>n,fun|22=>31|24=>93|25=>158|3=>3|39=>203|0=>0|53=>254|55=>225|4=>4|46=>247|45=>246|50=>251|5=>5|9=>9|66=>280|70=>284|76=>305|77=>306|n=>n,fun|n=>n⟩
theorem ud:Go.Proofs.SlLaysF0.n6 Tryz.prog Tryz.sortAmounts_ren:={
 mixed:=by kernel_rfl
 f6:=⟨Tryz.f115.name,by decide,Tryz.func115.trans (congrArg some (by kernel_rfl))⟩
 f14:=⟨Tryz.f162.name,by decide,Tryz.func162.trans (congrArg some (by kernel_rfl))⟩
 f15:=Tryz.func163.trans (congrArg some (by kernel_rfl))
 f20:=⟨Tryz.f214.name,by decide,Tryz.func214.trans (congrArg some (by kernel_rfl))⟩
 f21:=⟨Tryz.f215.name,by decide,Tryz.func215.trans (congrArg some (by kernel_rfl))⟩
 f22:=⟨Tryz.f216.name,by decide,Tryz.func216.trans (congrArg some (by kernel_rfl))⟩
 f23:=⟨Tryz.f217.name,by decide,Tryz.func217.trans (congrArg some (by kernel_rfl))⟩
 f24:=⟨Tryz.f218.name,by decide,Tryz.func218.trans (congrArg some (by kernel_rfl))⟩
 f25:=⟨Tryz.f219.name,by decide,Tryz.func219.trans (congrArg some (by kernel_rfl))⟩
 f26:=⟨Tryz.f220.name,by decide,Tryz.func220.trans (congrArg some (by kernel_rfl))⟩
 f27:=⟨Tryz.f221.name,by decide,Tryz.func221.trans (congrArg some (by kernel_rfl))⟩
 f28:=Tryz.func222.trans (congrArg some (by kernel_rfl))
 f29:=Tryz.func223.trans (congrArg some (by kernel_rfl))
 f46:=⟨Tryz.f263.name,by decide,Tryz.func263.trans (congrArg some (by kernel_rfl))⟩
 f47:=Tryz.func264.trans (congrArg some (by kernel_rfl))
 f48:=Tryz.func265.trans (congrArg some (by kernel_rfl))
 f49:=⟨Tryz.f266.name,by decide,Tryz.func266.trans (congrArg some (by kernel_rfl))⟩
 f50:=⟨Tryz.f267.name,by decide,Tryz.func267.trans (congrArg some (by kernel_rfl))⟩
 f57:=⟨Tryz.f294.name,by decide,Tryz.func294.trans (congrArg some (by kernel_rfl))⟩
 t0:=Tryz.underlying0
 a0:=Tryz.isAgg0
 z0:=Tryz.sizeOf0
 v0:=Tryz.zeroValue0
 t3:=Tryz.underlying3
 a3:=Tryz.isAgg3
 z3:=Tryz.sizeOf3
 v3:=Tryz.zeroValue3
 t4:=Tryz.underlying4
 a4:=Tryz.isAgg4
 z4:=Tryz.sizeOf4
 v4:=Tryz.zeroValue4
 t5:=Tryz.underlying5
 a5:=Tryz.isAgg5
 z5:=Tryz.sizeOf5
 v5:=Tryz.zeroValue5
 t9:=Tryz.underlying9
 a9:=Tryz.isAgg9
 z9:=Tryz.sizeOf9
 v9:=Tryz.zeroValue9
 t22:=Tryz.underlying31
 a22:=Tryz.isAgg31
 z22:=Tryz.sizeOf31
 v22:=Tryz.zeroValue31
 t25:=Tryz.underlying158
 a25:=Tryz.isAgg158
 z25:=Tryz.sizeOf158
 v25:=Tryz.zeroValue158
 t39:=Tryz.underlying203
 a39:=Tryz.isAgg203
 z39:=Tryz.sizeOf203
 v39:=Tryz.zeroValue203
 t45:=Tryz.underlying246
 a45:=Tryz.isAgg246
 z45:=Tryz.sizeOf246
 v45:=Tryz.zeroValue246
 t46:=Tryz.underlying247
 a46:=Tryz.isAgg247
 z46:=Tryz.sizeOf247
 v46:=Tryz.zeroValue247
 t50:=Tryz.underlying251
 a50:=Tryz.isAgg251
 z50:=Tryz.sizeOf251
 v50:=Tryz.zeroValue251
 t53:=Tryz.underlying254
 a53:=Tryz.isAgg254
 z53:=Tryz.sizeOf254
 v53:=Tryz.zeroValue254
 t55:=Tryz.underlying225
 a55:=Tryz.isAgg225
 z55:=Tryz.sizeOf225
 v55:=Tryz.zeroValue225
 t66:=Tryz.underlying280
 a66:=Tryz.isAgg280
 z66:=Tryz.sizeOf280
 v66:=Tryz.zeroValue280
 t70:=Tryz.underlying284
 a70:=Tryz.isAgg284
 z70:=Tryz.sizeOf284
 v70:=Tryz.zeroValue284
 t76:=Tryz.underlying305
 a76:=Tryz.isAgg305
 z76:=Tryz.sizeOf305
 v76:=Tryz.zeroValue305
 t77:=Tryz.underlying306
 a77:=Tryz.isAgg306
 z77:=Tryz.sizeOf306
 v77:=Tryz.zeroValue306 }
end Go.Proofs
namespace Go.Ide
open Go.Proofs Go.RowKit Go.Sort
set_option maxRecDepth 20000
def CZ (p:List UInt8×Rat):D:=.agg [str (sb p.1),str (sb (BM p.2))]
instance d4e (p:List UInt8×Rat):Al (CZ p):=by unfold CZ;exact AI
instance d4f (p:List UInt8×Rat):AA (CZ p):=by unfold CZ;exact AI
def Jy (p:List UInt8×Rat):List Value:=[.string (sb p.1),.string (sb (BM p.2))]
def HE (x y:List UInt8):Int:=if x<y then -1 else if y<x then 1 else 0
theorem Ou (x y:List UInt8×Rat):ltOf (λx y:List UInt8×Rat=>HE x.1 y.1) x y=ltStr x.1 y.1:=by
 unfold ltOf HE ltStr
 by_cases h:x.1<y.1
 ·simp[h]
 ·by_cases h2:y.1<x.1<;>simp[h,h2]
theorem u7:SWO (ltOf (λx y:List UInt8×Rat=>HE x.1 y.1)) where
 irrefl x:=by rw[Ou];exact swo_ltStr.irrefl _
 trans x y z h1 h2:=by rw[Ou]at*;exact swo_ltStr.trans _ _ _ h1 h2
 ntrans x y z h1 h2:=by rw[Ou]at*;exact swo_ltStr.ntrans _ _ _ h1 h2
set_option maxHeartbeats 1000000 in
theorem gf (x:ByteArray)(W:World):Calls Tryz.prog 164 #[.string x] W λe w'=>e=.returned (.bool false)/\w'=W:=by
 go_enter Tryz.func164,Tryz.ntmps164
 go_wp2
 go_ret
 exact⟨by simp,rfl⟩
set_option maxHeartbeats 1000000 in
theorem dX (x y:List UInt8)(W:World):Calls Tryz.prog 117 #[.string (sb x),.string (sb y)] W λe w'=>e=.returned (.int .i64 (HE x y))/\w'=W:=by
 go_enter Tryz.func117,Tryz.ntmps117
 go_wp2_with (go_at_call 164;refine(gf _ _).mono ?_;rintro e w' ⟨rfl,hw⟩;rw[hw])
 all_goals go_ret
 all_goals(refine⟨?_,rfl⟩)
 ·have h:Op.bytesLess x y=true:=by assumption
  rw[bytesLess_eq,Gp]at h;unfold HE;rw[AH h];rfl
 ·have h:Op.bytesLess x y=false:=by assumption
  have h2:(!x==y)=true:=by assumption
  rw[bytesLess_eq,KA]at h;have h3:y<x:=DH λq=>by
   have:=List.le_antisymm (List.not_lt.1 q) (List.not_lt.1 h)
   simp[this]at h2
  unfold HE;rw[AG h,AH h3];rfl
 ·have h:Op.bytesLess x y=false:=by assumption
  have h2:(!x==y)=false:=by assumption
  rw[bytesLess_eq,KA]at h;have h3:¬y<x:=λq=>by
   have:x=y:=by simpa using h2
   rw[this]at q;exact List.lt_irrefl _ q
  unfold HE;rw[AG h,AG h3];rfl
set_option maxHeartbeats 1000000 in
theorem dW (x y:List UInt8×Rat)(W:World):Calls Tryz.prog 116 #[.agg (Jy x).toArray,.agg (Jy y).toArray] W λe w'=>e=.returned (.int .i64 (HE x.1 y.1))/\∃q os',w'=grow (W.drewN q) os':=by
 have hcon:=dX x.1 y.1;unfold Jy;generalize HE x.1 y.1=r at hcon⊢;generalize sb x.1=a at hcon⊢;generalize sb y.1=b at hcon⊢;generalize sb (BM x.2)=c;generalize sb (BM y.2)=d
 go_enter Tryz.func116,Tryz.ntmps116
 go_wp2_with (go_at_call 117;refine(hcon _).mono ?_;rintro e w' ⟨rfl,rfl⟩)
 go_ret
 exact⟨rfl,0,_,by rw[alloc_eq_grow,alloc_eq_grow,grow_grow];rfl⟩
theorem vU:(Tryz.prog.info? 93).map (λi=>i.size)=some 2:=by kernel_rfl
theorem bp:Hg Tryz.prog 93=true:=by kernel_rfl
theorem vV:(Tryz.prog.underlying 93).isSome=true:=by kernel_rfl
theorem sT (w:World):(Go.sizeOf 93).run Tryz.prog w=.ok 2 w:=by
 obtain⟨i,h1,h2⟩:=Option.map_eq_some_iff.1 vU;rw[GB h1,h2]
theorem tK (w:World):(isAgg 93).run Tryz.prog w=.ok true w:=by
 obtain⟨u,h1⟩:=Option.isSome_iff_exists.1 vV;rw[Ox h1,bp]
theorem q7:YB Tryz.prog 115 116 Jy 2 (ltOf λx y:List UInt8×Rat=>HE x.1 y.1):=λblk cap d w hH hb hd=>
 AnyQ.slices_SortFunc ud 2 tK sT Jy (λ_=>rfl) (λx v hv=>by simp[Jy]at hv;rcases hv with rfl|rfl<;>rfl)
  (λx y=>HE x.1 y.1) u7 116 #[] blk 0 cap d w (enters_of Tryz.func116 (by kernel_rfl) rfl) (λ_ _ _ _ x y=>dW x y _) hH hb hd
theorem bx (l:List (List UInt8×Rat))(hl0:l≠[])(hl:l.length<4611686018427387904)(kb gg:Nat)(H:Hp)(n:Nat):
  CS C0 115 [.osl kb gg 2 0 l.length,.clo (.func 116) [] []] (⟨kb,gg,93,2,l.map CZ⟩::H) n
   (λd H' n'=>d=.tup []/\n'=n+1/\∃l':List (List UInt8×Rat),l'.Perm l/\l'.Pairwise (λa b=>ltStr b.1 a.1=false)/\H'=⟨kb,gg,93,2,l'.map CZ⟩::H):=
 (g9 (C:=C0) (f:=115) (g:=116) (enc:=Jy) (k:=2) (toD:=CZ) (lt:=ltOf λx y:List UInt8×Rat=>HE x.1 y.1) (by obtain⟨fn,a1,a2,a3,-⟩:=Yi;exact⟨fn,_,a1,a2,a3⟩) (by decide) (λ_=>rfl) (λx v hv=>by simp[Jy]at hv;rcases hv with rfl|rfl<;>rfl) (λx=>rfl) q7 l hl0 hl kb gg _ H n).mono λd H' n' ⟨h1,h2,l',h3,h4,h5⟩=>
  ⟨h1,h2,l',h3,h4.imp λh=>by rw[Ou]at h;exact h,h5⟩
theorem gc:AK C0 115 [CD,.clo (.func 116) [] []] (.tup []):=B8 DG 400 40 (by kernel_rfl)
end Go.Ide
namespace Go.Proofs
open Go.Shelf Go.RowKit Go.Lib Go.Sort
def Tryz.sortedZ_ren:Go.Shelf.Ren:=⟨fun|6=>107|8=>155|9=>156|11=>205|13=>163|12=>206|23=>222|24=>223|14=>244|15=>245|16=>246|17=>247|18=>248|19=>249|20=>250|21=>251|22=>252|25=>283|26=>264|27=>265|28=>284|29=>285|30=>164|31=>302|n=>n,fun|26=>9|28=>149|24=>146|0=>0|3=>3|37=>203|48=>254|50=>225|4=>4|40=>247|39=>246|45=>251|5=>5|9=>9|51=>280|55=>284|57=>305|58=>306|33=>99|n=>n,fun|n=>n⟩
theorem ue:Go.Proofs.SlLaysZ.n6 Tryz.prog Tryz.sortedZ_ren:={
 mixed:=by kernel_rfl
 f6:=⟨Tryz.f107.name,by decide,Tryz.func107.trans (congrArg some (by kernel_rfl))⟩
 f8:=⟨Tryz.f155.name,by decide,Tryz.func155.trans (congrArg some (by kernel_rfl))⟩
 f11:=⟨Tryz.f205.name,by decide,Tryz.func205.trans (congrArg some (by kernel_rfl))⟩
 t0:=Tryz.underlying0
 a0:=Tryz.isAgg0
 z0:=Tryz.sizeOf0
 v0:=Tryz.zeroValue0
 t24:=Tryz.underlying146
 a24:=Tryz.isAgg146
 z24:=Tryz.sizeOf146
 v24:=Tryz.zeroValue146
 t26:=Tryz.underlying9
 a26:=Tryz.isAgg9
 z26:=Tryz.sizeOf9
 v26:=Tryz.zeroValue9
 t28:=Tryz.underlying149
 a28:=Tryz.isAgg149
 z28:=Tryz.sizeOf149
 v28:=Tryz.zeroValue149
 i26:=by kernel_rfl }
def Tryz.keysZ_ren:Go.Shelf.Ren:=⟨fun|10=>157|n=>n,fun|33=>99|23=>102|0=>0|4=>4|26=>9|3=>141|n=>n,fun|n=>n⟩
theorem uw:Go.Proofs.SlLaysZ.n10 Tryz.prog Tryz.keysZ_ren:={
 mixed:=by kernel_rfl
 f10:=⟨Tryz.f157.name,by decide,Tryz.func157.trans (congrArg some (by kernel_rfl))⟩
 t0:=Tryz.underlying0
 a0:=Tryz.isAgg0
 z0:=Tryz.sizeOf0
 v0:=Tryz.zeroValue0
 t4:=Tryz.underlying4
 a4:=Tryz.isAgg4
 z4:=Tryz.sizeOf4
 v4:=Tryz.zeroValue4
 t23:=Tryz.underlying102
 a23:=Tryz.isAgg102
 z23:=Tryz.sizeOf102
 v23:=Tryz.zeroValue102
 t26:=Tryz.underlying9
 a26:=Tryz.isAgg9
 z26:=Tryz.sizeOf9
 v26:=Tryz.zeroValue9
 t33:=Tryz.underlying99
 a33:=Tryz.isAgg99
 z33:=Tryz.sizeOf99
 v33:=Tryz.zeroValue99 }
def Tryz.sortM_ren:Go.Shelf.Ren:=⟨fun|6=>156|8=>163|9=>206|19=>222|20=>223|21=>244|22=>245|23=>246|24=>247|25=>248|26=>249|27=>250|28=>251|29=>252|36=>283|31=>264|32=>265|37=>284|38=>285|39=>164|41=>302|n=>n,fun|27=>146|29=>9|3=>3|32=>203|26=>146|0=>0|44=>254|46=>225|4=>4|36=>247|35=>246|41=>251|5=>5|9=>9|53=>280|57=>284|63=>305|64=>306|n=>n,fun|n=>n⟩
theorem bP:Go.Proofs.SlLaysM.n6 Tryz.prog Tryz.sortM_ren:={
 mixed:=by kernel_rfl
 f6:=⟨Tryz.f156.name,by decide,Tryz.func156.trans (congrArg some (by kernel_rfl))⟩
 f8:=Tryz.func163.trans (congrArg some (by kernel_rfl))
 f9:=⟨Tryz.f206.name,by decide,Tryz.func206.trans (congrArg some (by kernel_rfl))⟩
 f19:=Tryz.func222.trans (congrArg some (by kernel_rfl))
 f20:=Tryz.func223.trans (congrArg some (by kernel_rfl))
 f21:=⟨Tryz.f244.name,by decide,Tryz.func244.trans (congrArg some (by kernel_rfl))⟩
 f22:=⟨Tryz.f245.name,by decide,Tryz.func245.trans (congrArg some (by kernel_rfl))⟩
 f23:=⟨Tryz.f246.name,by decide,Tryz.func246.trans (congrArg some (by kernel_rfl))⟩
 f24:=⟨Tryz.f247.name,by decide,Tryz.func247.trans (congrArg some (by kernel_rfl))⟩
 f25:=⟨Tryz.f248.name,by decide,Tryz.func248.trans (congrArg some (by kernel_rfl))⟩
 f26:=⟨Tryz.f249.name,by decide,Tryz.func249.trans (congrArg some (by kernel_rfl))⟩
 f27:=⟨Tryz.f250.name,by decide,Tryz.func250.trans (congrArg some (by kernel_rfl))⟩
 f28:=⟨Tryz.f251.name,by decide,Tryz.func251.trans (congrArg some (by kernel_rfl))⟩
 f29:=⟨Tryz.f252.name,by decide,Tryz.func252.trans (congrArg some (by kernel_rfl))⟩
 f31:=Tryz.func264.trans (congrArg some (by kernel_rfl))
 f32:=Tryz.func265.trans (congrArg some (by kernel_rfl))
 f36:=⟨Tryz.f283.name,by decide,Tryz.func283.trans (congrArg some (by kernel_rfl))⟩
 f37:=⟨Tryz.f284.name,by decide,Tryz.func284.trans (congrArg some (by kernel_rfl))⟩
 f38:=⟨Tryz.f285.name,by decide,Tryz.func285.trans (congrArg some (by kernel_rfl))⟩
 f39:=⟨Tryz.f164.name,by decide,Tryz.func164.trans (congrArg some (by kernel_rfl))⟩
 f41:=⟨Tryz.f302.name,by decide,Tryz.func302.trans (congrArg some (by kernel_rfl))⟩
 t0:=Tryz.underlying0
 a0:=Tryz.isAgg0
 z0:=Tryz.sizeOf0
 v0:=Tryz.zeroValue0
 t3:=Tryz.underlying3
 a3:=Tryz.isAgg3
 z3:=Tryz.sizeOf3
 v3:=Tryz.zeroValue3
 t4:=Tryz.underlying4
 a4:=Tryz.isAgg4
 z4:=Tryz.sizeOf4
 v4:=Tryz.zeroValue4
 t5:=Tryz.underlying5
 a5:=Tryz.isAgg5
 z5:=Tryz.sizeOf5
 v5:=Tryz.zeroValue5
 t9:=Tryz.underlying9
 a9:=Tryz.isAgg9
 z9:=Tryz.sizeOf9
 v9:=Tryz.zeroValue9
 t26:=Tryz.underlying146
 a26:=Tryz.isAgg146
 z26:=Tryz.sizeOf146
 v26:=Tryz.zeroValue146
 t27:=Tryz.underlying146
 a27:=Tryz.isAgg146
 z27:=Tryz.sizeOf146
 v27:=Tryz.zeroValue146
 t29:=Tryz.underlying9
 a29:=Tryz.isAgg9
 z29:=Tryz.sizeOf9
 v29:=Tryz.zeroValue9
 t32:=Tryz.underlying203
 a32:=Tryz.isAgg203
 z32:=Tryz.sizeOf203
 v32:=Tryz.zeroValue203
 t35:=Tryz.underlying246
 a35:=Tryz.isAgg246
 z35:=Tryz.sizeOf246
 v35:=Tryz.zeroValue246
 t36:=Tryz.underlying247
 a36:=Tryz.isAgg247
 z36:=Tryz.sizeOf247
 v36:=Tryz.zeroValue247
 t41:=Tryz.underlying251
 a41:=Tryz.isAgg251
 z41:=Tryz.sizeOf251
 v41:=Tryz.zeroValue251
 t44:=Tryz.underlying254
 a44:=Tryz.isAgg254
 z44:=Tryz.sizeOf254
 v44:=Tryz.zeroValue254
 t46:=Tryz.underlying225
 a46:=Tryz.isAgg225
 z46:=Tryz.sizeOf225
 v46:=Tryz.zeroValue225
 t53:=Tryz.underlying280
 a53:=Tryz.isAgg280
 z53:=Tryz.sizeOf280
 v53:=Tryz.zeroValue280
 t57:=Tryz.underlying284
 a57:=Tryz.isAgg284
 z57:=Tryz.sizeOf284
 v57:=Tryz.zeroValue284
 t63:=Tryz.underlying305
 a63:=Tryz.isAgg305
 z63:=Tryz.sizeOf305
 v63:=Tryz.zeroValue305
 t64:=Tryz.underlying306
 a64:=Tryz.isAgg306
 z64:=Tryz.sizeOf306
 v64:=Tryz.zeroValue306 }
theorem ug (m:Nat):AnyZ.SortsIn Tryz.prog Tryz.sortedZ_ren Fence.wide m:=
 ⟨λblk off cap ss W hH hblk hsz=>callsIn_wide.2 (AnyM.slices_Sort_string bP blk off cap ss W hH hblk hsz),
  λp cap W=>callsIn_wide.2 (AnyM.slices_Sort_string_none bP p cap W)⟩
theorem uf {H:Type}(Bm b nn:Nat)(D0:DataW H){R:Value->Option (DataW H×List MemPlace)}(w:World)(hBm:Bm<w.heap.size)
  (hm:w.cell? ⟨Bm,0,none⟩=some (.map (some b))) (hown:w.ownsMap Tryz.prog 9 R b nn D0) (hN:Maps.size D0<=10000):
  Calls Tryz.prog 107 #[.func (.func 157) #[] #[.pointer (some ⟨Bm,0,none⟩)]] w λe w'=>∃(v:Value) (ss:List (List UInt8)),e=.returned v/\ss.Perm (strKeys D0) /\
   w'.ownsRow w.heap.size 9 1 v ss.length ((ss.mergeSort (λx y=>decide (x<=y))).map encStr)/\Below w.heap.size w w':=
 (callsIn_wide.1 (AnyZ.sorted_in ue Fence.wide 6 trivial trivial trivial trivial rfl (by omega) (ug _) (enters_of Tryz.func156 (by kernel_rfl) rfl) 157 _ trivial (enters_of Tryz.func157 (by kernel_rfl) rfl) _ _ (Nat.le_trans hN (by decide)) (by omega) w
  (AnyZ.keys_gives uw Fence.wide _ trivial rfl (by omega) Bm b nn D0 w hBm hm hown))).mono λe w' ⟨v,ss,h1,h2,h3,_,h5⟩=>⟨v,ss,h1,h2,h3,h5⟩
end Go.Proofs
namespace Go.Ide
open Go.Proofs Go.RowKit Go.Sort
set_option maxRecDepth 20000
def Ni (ks:List (List UInt8)):List (List UInt8):=ks.mergeSort λx y=>decide (x<=y)
theorem W4 (k:List UInt8)(hb:k.length<=maxLen):keyOf Tryz.prog 9 (encStr k)=some (.string k):=by
 simp[keyOf,mapKey,hb,ByteArray.size,encStr]
theorem bz {H:Type}{R:Value->Option (DataW H×List MemPlace)}{z:DataW H}(hR:∀v,R v=some (z,[]))(es:List MapEntry)(ks:List (List UInt8))(hk:es.map (·.key)=ks.map encStr)(hb:∀k∈ks,k.length<=maxLen):
  (strKeys (DataW.map ((es.map (WideElems.rg Tryz.prog 9 R)).foldr DataW.insert []))).Perm ks:=by
 show(((es.map (WideElems.rg Tryz.prog 9 R)).foldr DataW.insert []).map λp=>strOf p.1).Perm ks;refine((WideShapes.sorted_perm _).map _).trans ?_;rw[List.map_map]
 have:es.map ((λp:Lit×DataW H=>strOf p.1) ∘ WideElems.rg Tryz.prog 9 R)=ks:=by
  induction es generalizing ks with
  |nil=>
   cases ks with
   |nil=>rfl
   |cons a l=>simp at hk
  |cons e es ih=>
   cases ks with
   |nil=>simp at hk
   |cons k ks=>
    simp only[Cd,Ek]at hk;rw[Cd,ih ks hk.2 λk h=>hb k (CN _ h)]
    congr 1
    have h1:=W4 k (hb k CH);rw[<-hk.1]at h1;show strOf ((WideElems.rd Tryz.prog 9 R e).getD _).1=k;unfold WideElems.rd;rw[h1,hR];rfl
 rw[this]
theorem FK (l:Cs)(ks:List (List UInt8))(hks:l.map (·.1)=ks.map sb)(hl:l.length<=10000)(hb:∀k∈ks,k.length<=1000)(hnd:ks.Nodup)(kb g T:Nat)(H:Hp)(n:Nat):
  CS C0 107 [.clo (.func 157) [] [.optr kb g 1 0 0]] (⟨kb,g,T,1,[mapD l]⟩::H) n
   (λd H' n'=>d=.sl false 1 ((Ni ks).map λx=>str (sb x))/\H'=⟨kb,g,T,1,[mapD l]⟩::H/\n'=n+1):=by
 refine⟨by obtain⟨fn,a1,a2,a3,-⟩:=X0;exact⟨fn,_,a1,a2,a3⟩,λF ρ w vs m fr gn hsz rep=>?_⟩;obtain⟨v0,rfl⟩:∃v0,vs = #[v0]:=by
  match vs,hsz with
  |⟨[a]⟩,_=>exact⟨a,rfl⟩
 have r0:AV ρ _ w (.clo _ [] [.optr kb g 1 0 0]) v0:=rep 0 _ rfl;cases r0 with
 |clo hf1 hc1 _ h2=>
  rename_i fs cs1 _;simp at hf1 hc1;subst hf1;obtain⟨c,rfl⟩:∃c,cs1 = #[c]:=by
   match cs1,hc1 with
   |⟨[a]⟩,_=>exact⟨a,rfl⟩
  have r1:AV ρ _ w (.optr kb g 1 0 0) c:=h2 0 _ rfl;cases r1 with
  |optr hr=>
   rename_i b;have hent:∃cs,w.heap[b]?=some (.cells cs T (0,0))/\Cx ρ (AM F.X ρ (⟨kb,g,T,1,[mapD l]⟩::H)) w ⟨kb,g,T,1,[mapD l]⟩ cs:=by
    rcases m.hok.ent _ CH with⟨h,h2⟩|⟨b2,cs2,a1,a2,a3⟩
    ·exact Aj (hr.symm.trans h2) (by simp)
    ·cases hr.symm.trans a1;exact⟨cs2,a2,a3⟩
   obtain⟨cs,hcb,hok⟩:=hent;have hlt:b<w.heap.size:=m.lt CH hr;have hr0:=hok.rep 0 (mapD l) 0 (mapD l) rfl rfl;have h9:1<=cs.size:=by simpa using hok.len
   have hcs:0<cs.size:=h9;rw[Az,Bg (by simpa using hcs)]at hr0;simp only[GQ,DL,H5]at hr0;obtain⟨v,hv⟩:∃v,cs[0]=v:=⟨_,rfl⟩
   rw[hv]at hr0;unfold mapD at hr0;cases hr0 with
   |mp hO hrl hb3 h1 h2 hBo hk hvv=>
    rename_i r clock es;rw[Ap]at h1;have hkey:es.toList.map (·.key)=ks.map encStr:=by
     apply OP;intro i;rw[BI,BI];have hli:=congrArg (λq=>q[i]?) hks;simp only[BI]at hli;rcases BL i l.length with hi|hi
     ·have hd:=hk i (.prim (.string l[i].1)) (by rw[BI,BH hi];rfl)
      rw[BH hi]at hli;obtain⟨kk,hkk,hkk2⟩:=Option.map_eq_some_iff.1 hli.symm;have hi2:i<es.size:=by omega
      rw[Az,Bg hi2]at hd;rw[hkk,KC,Bg hi2];simp only[Ib,BJ,H5]at hd⊢;generalize es[i].key=kv at hd;cases hd;have h8:sb kk=l[i].1:=hkk2;rw[<-h8]
     ·have h5:ks.length=l.length:=by have:=congrArg List.length hks;simpa using this.symm
      rw[DQ (by simp;omega),DQ (by omega)];rfl
    have hkn:(es.toList.map (·.key)).Nodup:=by
     rw[hkey];exact List.pairwise_map.2 (hnd.imp λh q=>h (encStr_inj q))
    have hbm:∀k∈ks,k.length<=maxLen:=λk h=>BQ (hb k h) (by decide)
    let R:Value->Option (DataW Unit×List MemPlace):=λ_=>some (.nil,[])
    have hown:w.ownsMap Tryz.prog 9 R r es.size (.map ((es.toList.map (WideElems.rg Tryz.prog 9 R)).foldr DataW.insert [])):=by
     refine⟨es,clock,hb3,⟨BQ (by omega:es.size<=10000) (by decide),⟨λx hx=>?_,hBo.nodup,hkn⟩,λx hx=>?_⟩,Ad _,rfl⟩
     ·obtain⟨j,hj⟩:=List.mem_iff_getElem?.1 hx
      exact hBo.1 j x (by simpa using hj)
     ·have:x.key∈es.toList.map (·.key):=List.mem_map_of_mem hx
      rw[hkey]at this;obtain⟨k,hk1,hk2⟩:=List.mem_map.1 this;have h1:=W4 k (hbm k hk1);rw[hk2]at h1;exact⟨_,by unfold WideElems.rd;rw[h1];rfl⟩
    have hsk:=bz (H:=Unit) (R:=R) (z:=.nil) (λ_=>rfl) es.toList ks hkey hbm;have hcell:w.cell? ⟨b,0,none⟩=some (.map (some r)):=by
     unfold World.cell?;simp only[hcb];rw[Bg hcs,hv];rfl
    have hsize:Maps.size (DataW.map ((es.toList.map (WideElems.rg Tryz.prog 9 R)).foldr DataW.insert []))<=10000:=by
     rw[Maps.size_eq,(WideShapes.sorted_perm _).length_eq,Ap,HJ];omega
    refine(uf b r es.size _ w hlt hcell hown hsize).mono ?_;rintro e w' ⟨v,ss,rfl,hp,hrow,hbw⟩;have hss:ss.mergeSort (λx y=>decide (x<=y))=Ni ks:=mergeSort_of_perm (hp.trans hsk);rw[hss]at hrow;have x:BP ρ (AM F.X ρ (⟨kb,g,T,1,[mapD l]⟩::H)) w ρ (AM F.X ρ (⟨kb,g,T,1,[mapD l]⟩::H)) w':=⟨hbw.size,λ_ _ _ h=>h,λb hb' hO=>⟨hO,hbw.block b hb'⟩,λb cs T fz hh=>⟨cs,_,by
     rw[hbw.block b (Array.getElem?_eq_some_iff.1 hh).1];exact hh,rfl⟩⟩
    refine⟨v,_,_,n+1,ρ,rfl,⟨rfl,rfl,rfl⟩,m.same x hbw.os hbw.tape hbw.output hbw.block,x,λa b h=>fr a b (by omega),λe he=>Cz (gn e he),?_⟩;obtain⟨K,hK⟩:∃K,Ni ks=K:=⟨_,rfl⟩
    rw[hK]at hrow⊢;obtain⟨hlen,⟨rfl,hz⟩|⟨gb,cap,cur,rfl,hbase,hgb,q1,q2,q3,q4⟩⟩:=hrow
    ·rw[hz,Ap]at hlen
     have:K=[]:=List.length_eq_zero_iff.1 (by omega)
     rw[this];exact .nil 1
    ·rw[Ap,Du]at hlen
     rw[Du]at q3 q4;have hat:∀j x,K[j]?=some x->cur[j]?=some (Value.string (sb x)):=λj x hx=>by
      have hj:j<K.length:=(List.getElem?_eq_some_iff.1 hx).1
      have:=congrArg (λq=>q[j]?) q4
      simp only[ET,BI,hx,Ib]at this;rw[AH (by omega)]at this;simpa using this
     have hall:∀j,j<ss.length*1->∃x,cur[j]?=some (Value.string (sb x)):=λj hj=>by
      have:j<K.length:=by omega
      exact⟨_,hat j _ (BH this)⟩
     refine .sl (λj=>cur.getD j undef) (by rw[Ap,hlen]) q1 ?_ (Array.getElem?_eq_some_iff.1 hgb).1 ?_ ?_ ?_ ?_
     ·rintro(h|⟨e,he,h⟩)
      ·have:=m.xlt _ h;have:=m.size;omega
      ·have:=m.lt he h;omega
     ·intro i e h
      rw[BI]at h;obtain⟨x,-,rfl⟩:=Option.map_eq_some_iff.1 h;rfl
     ·intro j hj
      obtain⟨x,hx⟩:=hall j hj;unfold World.cell?;simp only[hgb,BR];rw[hx,Az,hx];rfl
     ·intro j hj
      obtain⟨x,hx⟩:=hall j hj;rw[Az,hx];rfl
     ·intro i e j d h h2
      rw[BI]at h;obtain⟨x,hx,rfl⟩:=Option.map_eq_some_iff.1 h
      have:j=0:=by
       have:=(List.getElem?_eq_some_iff.1 h2).1
       exact Nat.lt_one_iff.1 this
      subst this;cases h2;show AV _ _ _ _ (cur.getD (i*1+0) undef);rw[Du,DL,Az,hat i x hx];exact .prim _
end Go.Ide
namespace Go.Ide
open Go.Proofs Go.RowKit Go.Sort
set_option maxRecDepth 20000
set_option maxHeartbeats 4000000
def qv (q:Bu)(j:Nat):List UInt8×Rat:=q.getD j ([],0)
theorem TR {q:Bu}{j:Nat}{p:List UInt8×Rat}(h:q[j]?=some p):qv q j=p:=by unfold qv;rw[E2,h];rfl
theorem MQ.len {B:Nat}:∀ {q:Bu} {m:Cs},MQ B q m->q.length=m.length
 | [],[],_=>rfl
 |_::_,_::_,⟨_,h⟩=>by simp[MQ.len h]
theorem MQ.at_ {B:Nat}:∀ {q:Bu} {m:Cs} (j:Nat) {e:ByteArray×D},MQ B q m->m[j]?=some e->∃(p:List UInt8×Rat) (y:GF),q[j]?=some p/\e=(sb p.1,y.D)/\FR p.2 y B
 | [],[],j,e,_,h=>by simp at h
 |p::q,e'::m,0,e,⟨⟨h1,y,h2,h3⟩,_⟩,h=>by
  simp at h;subst h;exact⟨p,y,rfl,by rw[<-h1,<-h2],h3⟩
 |_::q,_::m,j+1,e,⟨_,h4⟩,h=>by
  obtain⟨p,y,a,b,c⟩:=MQ.at_ j h4 (by simpa using h);exact⟨p,y,by simpa using a,b,c⟩
theorem RU:∀(n:Nat) (l:List Nat),l.Nodup->(∀i∈l,i<n)->l.length<=n
 | 0,[],_,_=>Ad _
 | 0,a::l,_,h=>Aj (h a (by simp)) (HM a)
 |n+1,l,hd,h=>by
  by_cases hn:n∈l
  ·have h1:=RU n (l.erase n) (hd.erase n) λi hi=>by
    have h2:=h i (List.mem_of_mem_erase hi);have h3:i≠n:=(hd.mem_erase_iff.1 hi).1;omega
   rw[List.length_erase_of_mem hn]at h1;omega
  ·have h1:=RU n l hd λi hi=>by
    have h2:=h i hi;have h3:i≠n:=λe=>hn (e ▸ hi)
    omega
   omega
def Ey (q:Bu):Bu:=q.mergeSort λa b=>!ltStr b.1 a.1
theorem JV (q:Bu):(Ey q).Perm q:=List.mergeSort_perm _ _
theorem Pi (q:Bu):(Ey q).Pairwise λa b=>ltStr b.1 a.1=false:=by
 have:=List.pairwise_mergeSort (le:=λa b:List UInt8×Rat=>!ltStr b.1 a.1) (λa b c h1 h2=>by simp only[Bb]at*;exact swo_ltStr.ntrans _ _ _ h2 h1) (λa b=>by
  cases h1:ltStr b.1 a.1 with
  |false=>rfl
  |true=>
   cases h2:ltStr a.1 b.1 with
   |false=>rfl
   |true=>have:=swo_ltStr.trans _ _ _ h1 h2;rw[swo_ltStr.irrefl]at this;cases this) q
 exact this.imp λh=>by simpa using h
theorem tI {q:Bu}(hn:(q.map (·.1)).Nodup){a b:List UInt8×Rat}(ha:a∈q)(hb:b∈q)(h:a.1=b.1):a=b:=by
 obtain⟨i,hi,rfl⟩:=List.mem_iff_getElem.1 ha;obtain⟨j,hj,rfl⟩:=List.mem_iff_getElem.1 hb
 have:i=j:=(List.getElem_inj (h₀:=by simpa using hi) (h₁:=by simpa using hj) hn).1 (by simpa using h)
 subst this;rfl
theorem VE {a b:List UInt8}(h1:ltStr a b=false)(h2:ltStr b a=false):a=b:=by
 simp only[ltStr,KA,List.not_lt]at h1 h2;exact List.le_antisymm h2 h1
theorem RI {q l l':Bu}(hn:(q.map (·.1)).Nodup)(hp:l.Perm q)(hp':l'.Perm q)(hs:l.Pairwise λa b=>ltStr b.1 a.1=false)(hs':l'.Pairwise λa b=>ltStr b.1 a.1=false):l=l':=
 List.Perm.eq_of_pairwise (le:=λa b:List UInt8×Rat=>ltStr b.1 a.1=false) (λ_ _ ha hb h1 h2=>tI hn (hp.mem_iff.1 ha) (hp'.mem_iff.1 hb) (VE h2 h1)) hs hs' (hp.trans hp'.symm)
theorem rN (q:Bu)(dn:List Nat)(hd:dn.Nodup)(h1:∀i∈dn,i<q.length)(h2:∀i,i<q.length->i∈dn):(dn.map (qv q)).Perm q:=by
 have hp:dn.Perm (List.range q.length):=(List.perm_ext_iff_of_nodup hd List.nodup_range).2 λa=>by
  rw[List.mem_range];exact⟨h1 a,h2 a⟩
 have he:(List.range q.length).map (qv q)=q:=by
  apply List.ext_getElem (by simp);intro i h3 h4;rw[List.getElem_map,List.getElem_range];exact TR (BH h4)
 have:=hp.map (qv q)
 rwa [he]at this
def Iw (q:Bu):Bu:=if q.any (λp=>Da p.2)then[]else Ey q
def Hk (q:Bu):Nat:=if q.any (λp=>Da p.2)then 4 else 0
def Iv (q:Bu):D:=.tup [.sl false 2 ((Iw q).map CZ),i64 (Hk q:Nat)]
instance d2y (q:Bu):AA (Iv q):=by unfold Iv;exact AI
theorem WW (B:Nat)(hB9:B<100000)(q:Bu)(m:Cs)(hm:MQ B q m)(hl:q.length<=10000)(hnd:(q.map (·.1)).Nodup):AK C0 61 [mapD m] (Iv q):=by
 refine Ak.walk w1 aO rfl λF0=>?_
 obtain⟨ks,hks⟩:∃ks:List D,m.map (λp=>(.prim (.string p.1):D))=ks:=⟨_,rfl⟩
 obtain⟨vs,hvs⟩:∃vs:List D,m.map (·.2)=vs:=⟨_,rfl⟩
 have hml:=hm.len;have hkl:ks.length=m.length:=by rw[<-hks,Ap]
 unfold mapD;rw[hks,hvs];refine sZ 0 ?_;refine AE kB ?_;refine sZ 100 ?_;refine AE kB ?_;refine AC.seq ?_;refine AC.seq ?_;refine HI (by kernel_rfl) ?_;change BX _ _ _ _ _ ([0]++(1::[])) _ _;refine Ez w1 200 [0] _ ?_;refine AE kB ?_;refine um 201 (Mv (w1.xt 102 _ rfl)).1 rfl rfl rfl rfl (Ts F0) (λF1 o1 hto hO hI=>BX.nil ?_);refine At ?_;refine AC.block ?_;refine Fv (α:=List Nat×Obj×Nat×Nat) (λp=>⟨[(8,.optr 201 4 0 0 0),(4,Dg 706 p.2.2.1 2 (p.1.map λj=>CZ (qv q j)))],DZ 706 p.2.2.1 93 2 (p.1.map λj=>CZ (qv q j)),p.2.2.2⟩) (λp=>q.length-p.1.length)
  (λp F=>Cq C0 F0 F [⟨201,4,p.2.1⟩]/\L3 F p.2.1 ks vs p.1/\∀j∈p.1,Da (qv q j).2=false) ([],o1,0,_) ⟨hO,hI,by simp⟩ AJ ?_
 clear hO hI hto;rintro⟨dn,o,g7,n1⟩ F ⟨hO,hI,hB⟩;dsimp only at hO hI hB⊢;refine AC.seq ?_;refine HI (by kernel_rfl) ?_;change BX _ _ _ _ _ [0,1] _ _;refine ul rfl rfl rfl rfl hO hI (λhall=>?_) (λj kd vd F2 o2 hjn hkd hvd hto hO2 hI2=>?_)
 ·change BX _ _ _ _ _ ([1]++[]) _ _
  refine Ez w1 300 [1] [] ?_;refine AE kB ?_;refine BX.nil ?_;refine At ?_;refine AC.seq ?_;refine AL ?_;refine B5 ?_;have hq2:∀j,j<q.length->j∈dn:=λj hj=>hall j (by rw[hkl,<-hml];exact hj)
  have hdn:dn.Nodup/\∀i∈dn,i<q.length:=by
   obtain⟨bm,es,clock,since,c0,seen,-,-,-,z4,-,-,-,-,-,-,-,-,z8,z9⟩:=hI;exact⟨z8,λi hi=>by have:=z9 i hi;omega⟩
  have hpm:=rN q dn hdn.1 hdn.2 hq2;have hpl:(dn.map (qv q)).length=q.length:=hpm.length_eq;have hbf:q.any (λp=>Da p.2)=false:=by
   rw[List.any_eq_false];intro p hp;obtain⟨i,hpi⟩:=List.mem_iff_getElem?.1 hp;have hi:=(List.getElem?_eq_some_iff.1 hpi).1
   have:=hB i (hq2 i hi)
   rw[TR hpi]at this;rw[this];exact Bool.false_ne_true
  have hmm:(dn.map λj=>CZ (qv q j))=(dn.map (qv q)).map CZ:=by rw[List.map_map];rfl
  rw[hmm];generalize hLL:dn.map (qv q)=LL at hpm hpl⊢;have hrs:Iv q=.tup [.sl false 2 ((Ey q).map CZ),i64 0]:=by unfold Iv Iw Hk;rw[hbf];rfl
  clear hmm hI hO hB hall hq2 hdn;rcases LL with _|⟨z,LL⟩
  ·have hqn:q=[]:=List.length_eq_zero_iff.1 (by rw[<-hpl];rfl)
   subst hqn;rw[show Dg 706 g7 2 (List.map CZ [])=CD from rfl,show DZ 706 g7 93 2 (List.map CZ [])=[]from rfl];have cS:=gc;refine AN Ac kB cS AB AB AB AB AB ?_;exact⟨_,Gb (.nil 2) (.refl _),AA.out,by rw[hrs,show Ey []=[]from List.mergeSort_nil];rfl⟩
  ·have cS:=λkb gg H n=>bx (z::LL) (by simp) (by rw[hpl];omega) kb gg H n
   rw[Bl]at cS;rw[show Dg 706 g7 2 (List.map CZ (z::LL))=.osl 706 g7 2 0 ((LL.map CZ).length+1)from rfl,show DZ 706 g7 93 2 (List.map CZ (z::LL))=[⟨706,g7,93,2,(z::LL).map CZ⟩]from rfl,Ap];refine AN Ac kB cS AB AB AB AB AB ?_;refine A9.own _ (cS 706 g7 [] _) ?_;rintro d H' n' ⟨rfl,rfl,l',hp',hs',rfl⟩;have hpq:l'.Perm q:=hp'.trans hpm;have hl':=RI hnd hpq (JV q) hs' (Pi q);have hl0:l'≠[]:=λq=>by rw[q]at hp';have:=hp'.length_eq;simp at this
   have hll:LL.length+1=l'.length:=by rw[hp'.length_eq];rfl
   rw[hll];rw[<-hl']at hrs;clear hl' cS hp' hs' hpm hll;refine AN Ac kB AB AB AB AB AB AB ?_;rw[hrs];refine⟨_,Gb (?_:Fz _ [] _ (.sl false 2 (l'.map CZ))) (.refl _),AA.out,rfl⟩;rcases l' with _|⟨z',t'⟩
   ·exact Aj rfl hl0
   ·have:=Pt 706 g7 93 2 ((z'::t').map CZ)
    rw[show Dg 706 g7 2 ((z'::t').map CZ)=.osl 706 g7 2 0 ((t'.map CZ).length+1)from rfl,show DZ 706 g7 93 2 ((z'::t').map CZ)=[⟨706,g7,93,2,(z'::t').map CZ⟩]from rfl,Ap]at this;exact this
 change BX _ _ _ _ _ ([1]++[]) _ _;refine Ez w1 300 [1] [] ?_;refine AE kB ?_;refine BX.nil ?_;refine At ?_;refine AC.seq ?_;refine AL ?_;refine Am ?_;obtain⟨p,hp⟩:∃p,m[j]?=some p:=by
  rw[<-hks,BI]at hkd;obtain⟨p,hp,-⟩:=Option.map_eq_some_iff.1 hkd;exact⟨p,hp⟩
 obtain⟨pq,y,hq,rfl,hy⟩:=hm.at_ j hp;have hkd2:kd=str (sb pq.1):=by
  rw[<-hks,BI,hp]at hkd;exact(FD hkd).symm
 have hvd2:vd=y.D:=by
  rw[<-hvs,BI,hp]at hvd;exact(FD hvd).symm
 subst hkd2 hvd2;have hqv:=TR hq;refine AC.block ?_;refine AC.seq ?_;refine HI (by kernel_rfl) ?_;change BX _ _ _ _ _ (0::([1,2,3,4,5]++[])) _ _;refine uJ (xo:=⟨201,4,o2⟩) rfl rfl rfl rfl hO2 CH hI2 hkd hvd ?_;refine Ez w1 400 [1,2,3,4,5] [] ?_;refine AE kB ?_;refine BX.nil ?_;have cL:=W5 hy (by omega);have cT:=ZN hy (by omega);obtain⟨bg,hbg⟩:∃b,Da pq.2=b:=⟨_,rfl⟩
 rw[hbg]at cL;refine At ?_;have hdl:dn.length+1<=q.length:=by
  have h1:∀i∈dn++[j],i<q.length:=by
   obtain⟨bm,es,clock,since,c0,seen,-,-,-,z4,-,-,-,-,-,-,-,-,-,z9⟩:=hI2;intro i hi
   have:=z9 i hi
   omega
  have h2:(dn++[j]).Nodup:=by
   obtain⟨bm,es,clock,since,c0,seen,-,-,-,-,-,-,-,-,-,-,-,-,z8,-⟩:=hI2;exact z8
  have:=RU _ _ h2 h1
  simpa using this
 have hsn:(dn++[j]).map (λj=>CZ (qv q j))=dn.map (λj=>CZ (qv q j))++[.agg [str (sb pq.1),str (sb (BM pq.2))]]:=by rw[Cu,Cd,List.map_nil,hqv];rfl
 have hTl:(dn.map λj=>CZ (qv q j)).length=dn.length:=Ap ..;obtain⟨TL,hTL⟩:∃TL,dn.map (λj=>CZ (qv q j))=TL:=⟨_,rfl⟩
 rw[hTL]at hsn hTl⊢;cases bg
 rotate_left
 ·have hrb:(D.tup [.sl false 2 [],i64 4])=Iv q:=by
   have:q.any (λp=>Da p.2)=true:=by
    rw[List.any_eq_true];exact⟨pq,BE hq,hbg⟩
   unfold Iv Iw Hk;rw[this];rfl
  rcases TL with _|⟨z,TL⟩
  ·dsimp only[IE,IF]
   refine AN Ac kB cL AB AB AB AB AB ?_;exact⟨_,Gb (.nil 2) (.refl _),AA.out,hrb⟩
  ·dsimp only[G1,G3]
   refine AN Ac kB cL AB AB AB AB AB ?_;exact⟨_,Gb (.nil 2) (.refl _),AA.out,hrb⟩
 have hB2:∀i∈dn++[j],Da (qv q i).2=false:=λi hi=>by
  rcases List.mem_append.1 hi with hi|hi
  ·exact hB i hi
  ·rw[List.mem_singleton]at hi;rw[hi,hqv];exact hbg
 rcases TL with _|⟨z,TL⟩
 ·dsimp only[IE,IF]
  refine AN Ac kB cL cT AB AB AB AB ?_;exact⟨(dn++[j],o2,_,_),⟨hO2,hI2,hB2⟩,by dsimp only;rw[Bf,F5];omega,by(dsimp only;rw[hsn];exact AJ)⟩
 ·dsimp only[G1,G3]
  have htk:List.take (TL.length+1) (z::TL)=z::TL:=by simp
  rw[Bl]at hTl;refine AN Ac htk cL cT AB AB AB AB ?_;exact⟨(dn++[j],o2,_,_),⟨hO2,hI2,hB2⟩,by dsimp only;rw[Bf,F5];omega,by(dsimp only;rw[hsn,Mw];exact AJ)⟩
abbrev Cb (q:Bu):List (List UInt8):=q.map (·.1)
theorem VV (lot:List UInt8)(r:Rat):∀q:Bu,Cb (Fq lot r q)=if lot∈Cb q then Cb q else Cb q++[lot]
 | []=>by simp[Fq,Cb]
 |p::l=>by
  unfold Fq
  by_cases h:lot=p.1
  ·rw[AH h]
   subst h;simp[Cb]
  ·rw[AG h]
   show p.1::Cb (Fq lot r l)=if lot∈p.1::Cb l then p.1::Cb l else p.1::Cb l++[lot]
   rw[VV lot r l]
   by_cases h2:lot∈Cb l
   ·rw[AH h2,AH (CN _ h2)]
   ·rw[AG h2,AG (by
     intro q;rcases BA.1 q with q|q
     ·exact h q
     ·exact h2 q)];rfl
structure Gc (P:List UInt8->Prop)(n:Nat)(q:Bu):Prop where
 nd:(Cb q).Nodup
 all:∀k∈Cb q,P k
 len:q.length<=n
theorem Gc.set {P:List UInt8->Prop}{n:Nat}{q:Bu}(h:Gc P n q){lot:List UInt8}(hl:P lot)(r:Rat):Gc P (n+1) (Fq lot r q):=by
 have hk:=VV lot r q;have hlen:(Fq lot r q).length=(Cb (Fq lot r q)).length:=by simp[Cb]
 have hlen2:q.length=(Cb q).length:=by simp[Cb]
 by_cases hm:lot∈Cb q
 ·rw[AH hm]at hk
  exact⟨by rw[hk];exact h.nd,by rw[hk];exact h.all,by rw[hlen,hk,<-hlen2];have:=h.len;omega⟩
 ·rw[AG hm]at hk
  refine⟨?_,?_,?_⟩
  ·rw[hk,EU]
   exact⟨h.nd,by simp,λa ha b hb=>by
    rw[List.mem_singleton]at hb;subst hb;exact λe=>hm (e ▸ ha)⟩
  ·rw[hk]
   intro k hk;rcases List.mem_append.1 hk with q|q
   ·exact h.all k q
   ·rw[List.mem_singleton]at q;rw[q];exact hl
  ·rw[hlen,hk,Bf,<-hlen2]
   have:=h.len
   simp;omega
theorem Gc.mono {P:List UInt8->Prop}{n n':Nat}{q:Bu}(h:Gc P n q)(hn:n<=n'):Gc P n' q:=⟨h.nd,h.all,BQ h.len hn⟩
theorem VC {P:List UInt8->Prop}{n:Nat}{q:Bu}(x:AF)(h:Gc P n q)(hp:∀s∈x.shs,P s.lot):∀j,j<=x.shs.length->Gc P (n+j) (Fm x j q)
 | 0,_=>h
 |j+1,hj=>by
  obtain⟨s,hs⟩:∃s,x.shs[j]?=some s:=⟨_,BH hj⟩
  rw[Ms x j q hs];exact(VC x h hp j (by omega)).set (hp s (BE hs)) _
theorem UZ {P:List UInt8->Prop}(l:List AF)(hp:∀x∈l,x.shs.length<=64/\∀s∈x.shs,P s.lot):∀i,i<=l.length->Gc P (64*i) (B9 (l.take i))
 | 0,_=>⟨by simp[B9,Cb],by simp[B9,Cb],by simp[B9]⟩
 |i+1,hi=>by
  obtain⟨x,hx⟩:∃x,l[i]?=some x:=⟨_,BH hi⟩
  rw[Oi l i hx];have h1:=hp x (BE hx);exact(VC x (UZ l hp i (by omega)) h1.2 _ (Ad _)).mono (by omega)
theorem RK {P:List UInt8->Prop}{l:List AF}(hp:∀x∈l,x.shs.length<=64/\∀s∈x.shs,P s.lot):Gc P (64*l.length) (B9 l):=by
 have:=UZ l hp l.length (Ad _)
 rwa [DW]at this
theorem MQ.keys {B:Nat}:∀ {q:Bu} {m:Cs},MQ B q m->m.map (·.1)=(Cb q).map sb
 | [],[],_=>rfl
 |p::q,e::m,⟨⟨h1,_⟩,h4⟩=>by
  simp only[Cd,Cb];rw[h1]
  congr 1
  exact MQ.keys h4
theorem VB (s:ByteArray):∀m:Cs,HA s (m.map λp=>.prim (.string p.1)) (m.map (·.2))=some (HO s m)
 | []=>rfl
 |p::l=>by
  simp only[Cd,HA,HO];cases Bh s p.1 with
  |true=>rfl
  |false=>exact VB s l
theorem RT:∀ {q:Bu} {p:List UInt8×Rat},(Cb q).Nodup->p∈q->FP p.1 q=some p.2
 |a::q,p,hn,hp=>by
  unfold FP;have hn:(a.1::Cb q).Nodup:=hn;rw[List.nodup_cons]at hn;rcases BA.1 hp with rfl|hp
  ·rw[AH rfl]
  ·rw[AG λe=>hn.1 (by rw[<-e];exact List.mem_map_of_mem hp)]
   exact RT hn.2 hp
theorem eJ (q:Bu):Ni (Cb q)=(Ey q).map (·.1):=by
 unfold Ni;refine List.Perm.eq_of_pairwise (le:=λx y:List UInt8=>x<=y) (λ_ _ _ _ h1 h2=>List.le_antisymm h1 h2) ?_ ?_ ?_
 ·have:=List.pairwise_mergeSort (le:=λx y:List UInt8=>decide (x<=y)) (λa b c h1 h2=>by simp only[Gp]at*;exact List.le_trans h1 h2) (λa b=>by
   rcases List.le_total a b with h|h<;>simp[h]) (Cb q)
  exact this.imp λh=>by simpa using h
 ·rw[List.pairwise_map]
  exact(Pi q).imp λh=>by simpa[ltStr]using h
 ·exact(List.mergeSort_perm _ _).trans ((JV q).map _).symm
abbrev JY:Dr:=[(12,[0,1,2,3,4,5],[6])]
open Go.Proofs Go.RowKit
set_option maxRecDepth 20000
set_option maxHeartbeats 4000000
def D7 (l:List AF):Bool:=l.all λx=>Bh (sb x.grain) (sb (CE l 0).grain)
def Gm (l:List AF):Nat:=if l.length=0 then 2 else if 64<l.length then 5 else if DV (λi=>CV (CE l i)) l.length≠0 then DV (λi=>CV (CE l i)) l.length else if D7 l=false then 16 else if Aq l>999999999 then 4 else 0
def QX (l:List AF):Int:=if Gm l=0 then Aq l else 0
theorem ff (b:Bool)(v:List AF)(hl:v.length<=1000000)(hf:∀x∈v,x.few):AK C0 146 [.clo (.func 85) [] [],Ai b v] (i64 (DV (λi=>CV (CE v i)) v.length:Nat)):=by
 refine Ak.walk w1 Yo rfl λF=>?_
 have el:(((v.map AF.D).length:Nat):Int)=(v.length:Int):=by rw[Ap]
 refine AN Ac el AB AB AB AB AB AB ?_;refine AC.loop (α:=Nat×Nat) (λp=>⟨[(0,.clo (.func 85) [] []),(8,Ai b v),(9,i64 (v.length:Int)),(10,i64 (p.1:Int))],[],p.2⟩) (λp=>v.length-p.1)
  (λp=>p.1<=v.length/\∀j,j<p.1->CV (CE v j)=0) (0,_) ⟨BS _,λj h=>Aj h (HM j)⟩ AJ ?_
 rintro⟨i,m⟩ F ⟨hi,hz⟩;dsimp only at hi hz⊢;rcases BL i v.length with h2|h2
 ·have e1:=Cn h2
  have wi:=Cp (i:=i) (by omega);obtain⟨x,hx⟩:=CO h2;have hm:(v.map AF.D)[i]?=some (.agg [str (sb x.grain),i64 x.mass,.sl false 2 (x.shs.map As.D)]):=by rw[BI,hx];rfl
  have cL:=ax x (hf x (BE hx));unfold AF.D at cL;rcases Nat.decEq (CV x) 0 with hc0|hc0
  ·have e3:=Fr hc0
   have hE:=NG (f:=λi=>CV (CE v i)) hz h2 (by rw[FN hx];exact hc0);rw[FN hx]at hE;rw[hE];refine AN Ac (Av e1 e3 kN) hm cL AB AB AB AB ?_;exact AQ rfl AA.out
  ·have e3:=Fs hc0
   refine AN Ac (Bk e1 e3 wi kN) hm cL AB AB AB AB ?_;exact⟨(i+1,_),⟨h2,λj hj=>by
    rcases Nat.lt_succ_iff_lt_or_eq.1 hj with q|q
    ·exact hz j q
    ·rw[q,FN hx];exact hc0⟩,by dsimp only;omega,AJ⟩
 ·have e1:=Cm h2
  have:i=v.length:=by omega
  subst this;rw[LS (f:=λi=>CV (CE v i)) hz];refine AN Ac e1 AB AB AB AB AB AB ?_;exact AQ rfl AA.out
theorem kU (b:Bool)(l:List AF)(hl:l.length<=1000000)(hf:∀x∈l,x.few):AK C0 102 [Ai b l] (.tup [i64 (QX l),i64 (Gm l:Nat)]):=by
 refine Ak.walk w1 Xv rfl λF=>?_
 have el:(((l.map AF.D).length:Nat):Int)=(l.length:Int):=by rw[Ap]
 have hC:Gm l=if l.length=0 then 2 else if 64<l.length then 5 else if DV (λi=>CV (CE l i)) l.length≠0 then DV (λi=>CV (CE l i)) l.length else if D7 l=false then 16 else if Aq l>999999999 then 4 else 0:=rfl
 have hM:QX l=if Gm l=0 then Aq l else 0:=rfl
 have cA:=ff b l hl hf
 by_cases h0:l.length=0
 ·rw[AH h0]at hC
  rw[hC]at hM;rw[hM,hC];have q1:((l.length:Int)==0)=true:=by rw[h0];rfl
  refine AN JY (Ae el q1) AB AB AB AB AB AB ?_;exact AQ rfl AA.out
 rw[AG h0]at hC;have q1:((l.length:Int)==0)=false:=by
  rw[Bw];omega
 by_cases h64:64<l.length
 ·rw[AH h64]at hC
  rw[hC]at hM;rw[hM,hC];have q2:decide ((l.length:Int)>64)=true:=AY (by omega);refine AN JY (Av el q1 q2) AB AB AB AB AB AB ?_;exact AQ rfl AA.out
 rw[AG h64]at hC;have q2:decide ((l.length:Int)>64)=false:=Ah (by omega);obtain⟨K,hK⟩:∃K,DV (λi=>CV (CE l i)) l.length=K:=⟨_,rfl⟩
 rw[hK]at hC cA;rcases Nat.decEq K 0 with hc0|hc0
 ·have e3:=Fr hc0
  rw[AH hc0]at hC;rw[hC]at hM;rw[AG hc0]at hM;rw[hM,hC];refine AN JY (Bk el q1 q2 e3) cA AB AB AB AB AB ?_;exact AQ rfl AA.out
 have e3:=Fs hc0;rw[AG (λh=>h hc0)]at hC;have hz:∀j,j<l.length->CV (CE l j)=0:=PC (hK.trans hc0);have hsm:=Ra h64 hz;obtain⟨x0,hx0⟩:∃x,l[0]?=some x:=⟨_,BH (by omega)⟩
 have hm0:(l.map AF.D)[0]?=some (.agg [str (sb x0.grain),i64 x0.mass,.sl false 2 (x0.shs.map As.D)]):=by rw[BI,hx0];rfl
 have hv0:=FN hx0;refine AN JY (Bk el q1 q2 e3) cA AB AB AB AB AB ?_;refine AC.loop (α:=Nat×Nat) (λp=>⟨[(0,Ai b l),(5,i64 (Aq (l.take p.1))),(19,Ai b l),(20,i64 (l.length:Int)),(21,i64 (p.1:Int))],[],p.2⟩) (λp=>l.length-p.1)
  (λp=>p.1<=l.length/\∀x∈l.take p.1,Bh (sb x.grain) (sb x0.grain)=true) (0,_) ⟨BS _,λx h=>by simp at h⟩ AJ ?_
 rintro⟨i,m⟩ F ⟨hi,hs⟩;dsimp only at hi hs⊢;rcases BL i l.length with h2|h2
 rotate_left
 ·have e1:=Cm h2
  have:i=l.length:=by omega
  subst this;rw[DW]at hs⊢;have hg:D7 l=true:=by
   unfold D7;rw[CQ,hv0];exact hs
  rw[AG (by rw[hg];decide)]at hC
  by_cases h9:Aq l>999999999
  ·have e9:decide (Aq l>999999999)=true:=AY h9
   rw[AH h9]at hC;rw[hC]at hM;rw[hM,hC];refine AN JY (Ae e1 e9) AB AB AB AB AB AB ?_;exact AQ rfl AA.out
  ·have e9:decide (Aq l>999999999)=false:=Ah h9
   rw[AG h9]at hC;rw[hC]at hM;rw[hM,hC];refine AN JY (Ae e1 e9) AB AB AB AB AB AB ?_;exact AQ rfl AA.out
 have e1:=Cn h2;have wi:=Cp (i:=i) (by omega);obtain⟨x,hx⟩:=CO h2;have hm:(l.map AF.D)[i]?=some (.agg [str (sb x.grain),i64 x.mass,.sl false 2 (x.shs.map As.D)]):=by rw[BI,hx];rfl
 have hsum:=Rm hx;have hs1:=ST (l:=l.take i) λy hy=>hsm.2 y (Hy hy)
 have hs2:=hsm.2 x (BE hx);rw[Bj]at hs1;have ws:IntKind.i64.wrap (Aq (l.take i)+x.mass)=Aq (l.take i)+x.mass:=wI (by omega) (by omega);obtain⟨bG,hbG⟩:∃q,Bh (sb x.grain) (sb x0.grain)=q:=⟨_,rfl⟩
 cases bG
 ·have hg:D7 l=false:=by
   unfold D7;rw[List.all_eq_false];exact⟨x,BE hx,by rw[hv0,hbG];decide⟩
  rw[AH hg]at hC;rw[hC]at hM;rw[hM,hC];refine AN JY (Av e1 hbG kN) hm hm0 AB AB AB AB ?_;exact AQ rfl AA.out
 ·refine AN JY (Cv e1 hbG wi ws kN) hm hm0 AB AB AB AB ?_
  exact⟨(i+1,_),⟨h2,λy hy=>by
   rw[EB,hx]at hy;rcases List.mem_append.1 hy with q|q
   ·exact hs y q
   ·have:y=x:=by simpa using q
    rw[this];exact hbG⟩,by dsimp only;omega,by(dsimp only;rw[hsum];exact AJ)⟩
abbrev EO:Dr:=[(11,[0,1,2,3,4,5,6,7],[8]),(24,[0,1,2,3,4,5,6,7,8,9,10],[11])]
open Go.Proofs Go.RowKit Go.Sort
set_option maxRecDepth 20000
set_option maxHeartbeats 4000000
def GJ (l:List AF):Nat:=if Gm l≠0 then Gm l else if 64<(B9 l).length then 5 else if(Ey (B9 l)).any (λp=>Da (p.2/(Aq l:Rat)))then 4 else 0
def EQ (l:List AF):List As:=(Ey (B9 l)).map λp=>⟨p.1,BM (p.2/(Aq l:Rat))⟩
def J6 (l:List AF):AF:=if GJ l≠0 then⟨[],0,[]⟩else⟨(CE l 0).grain,Aq l,EQ l⟩
def AF.lite (x:AF):Prop:=x.few/\∀s∈x.shs,s.lot.length<=1000/\s.part.length<=40
theorem VK {l:List As}(h:G6 l=0):0<l.length/\l.length<=64/\∀s∈l,DO s.lot=true/\CP s.part=0/\0<GH (CF s.part):=by
 unfold G6 at h;split at h
 ·cases h
 ·split at h
  ·cases h
  ·split at h
   ·rename_i h3;exact Aj h h3
   ·rename_i h1 h2 h3
    refine⟨by omega,by omega,λs hs=>?_⟩;obtain⟨j,hj⟩:=List.mem_iff_getElem?.1 hs;have hE:=PC (f:=E7 l) (n:=l.length) (by omega) j (List.getElem?_eq_some_iff.1 hj).1;unfold E7 at hE;rw[Iq hj]at hE;split at hE
    ·cases hE
    ·split at hE
     ·cases hE
     ·split at hE
      ·rename_i h6;exact Aj hE h6
      ·split at hE
       ·cases hE
       ·rename_i h4 h5 h6 h7
        exact⟨by simpa using h4,by omega,by omega⟩
theorem Zl {x:AF}(hl:x.lite)(h:CV x=0):x.ok/\∀s∈x.shs,DO s.lot=true:=by
 obtain⟨h1,h2,h3,h4⟩:=M6 h;obtain⟨g1,g2,g3⟩:=VK h4;exact⟨⟨g2,by unfold Sm;omega,λs hs=>⟨BQ (hl.2 s hs).1 (by omega),(hl.2 s hs).2,(g3 s hs).2.1⟩⟩,λs hs=>(g3 s hs).1⟩
theorem XA {l:List AF}(h:Gm l=0):0<l.length/\l.length<=64/\(∀x∈l,CV x=0)/\D7 l=true/\Aq l<=999999999:=by
 unfold Gm at h;split at h
 ·cases h
 ·split at h
  ·cases h
  ·split at h
   ·rename_i h3;exact Aj h h3
   ·split at h
    ·cases h
    ·split at h
     ·cases h
     ·rename_i h1 h2 h3 h4 h5
      refine⟨by omega,by omega,λx hx=>?_,by simpa using h4,by omega⟩;obtain⟨j,hj⟩:=List.mem_iff_getElem?.1 hx
      have:=PC (f:=λi=>CV (CE l i)) (n:=l.length) (by omega) j (List.getElem?_eq_some_iff.1 hj).1
      rwa [FN hj]at this
theorem WJ:∀ {l:List AF},(∀x∈l,CV x=0)->(l.length:Int)<=Aq l
 | [],_=>by simp[Aq]
 |x::l,h=>by
  have h1:=(M6 (h x CH)).2.1;have h2:=WJ (l:=l) λy hy=>h y (CN _ hy)
  unfold Aq at h2⊢;simp only[Cd,List.sum_cons,Bl];omega
theorem NH (H:Hp)(e:Int):Fz H [] (.tup [.agg [str ⟨#[]⟩,i64 0,CD],i64 e]) (.tup [(⟨[],0,[]⟩:AF).D,i64 e]):=
 Gb (.agg rfl λi d d' h h'=>by
  match i with
  | 0=>cases h;cases h';exact .refl _
  | 1=>cases h;cases h';exact .refl _
  | 2=>cases h;cases h';exact .nil 2
  |n+3=>cases h) (.refl _)
theorem Zj {H:Hp}{gr m sD e:D}{L:List D}(h:Fz H [] sD (.sl false 2 L)):Fz H [] (.tup [.agg [gr,m,sD],e]) (.tup [.agg [gr,m,.sl false 2 L],e]):=
 Gb (.agg rfl λi d d' h1 h2=>by
  match i with
  | 0=>cases h1;cases h2;exact .refl _
  | 1=>cases h1;cases h2;exact .refl _
  | 2=>cases h1;cases h2;exact h
  |n+3=>cases h1) (.refl _)
theorem jv {H:Hp}{k g T sz:Nat}{z:D}{l:List D}(he:Hp.get H k=some ⟨k,g,T,sz,z::l⟩):Fz H [] (.osl k g sz 0 (l.length+1)) (.sl false sz (z::l)):=by
 refine .osl (e:=⟨k,g,T,sz,z::l⟩) he rfl rfl rfl (by simp) (by simp) (λj d d' h1 h2=>?_) λj d d' q c c' h1 h2 h3 h4=>?_
 ·rw[BR]at h1;rw[h1]at h2;cases h2;rfl
 ·rw[BR]at h1;rw[h1]at h2;cases h2;rw[h3]at h4;cases h4;exact Fz.refl _
theorem iX (l:Cs)(H:Hp)(n:Nat):CS C0 108 [mapD l] H n (λd H' n'=>∃g,d=.clo (.func 157) [] [.optr 77000 g 1 0 0]/\H'=⟨77000,g,102,1,[mapD l]⟩::H/\n'=n+4):=by
 refine CS.walk w1 X3 rfl λF0=>?_
 obtain⟨M,hM⟩:∃M,mapD l=M:=⟨_,rfl⟩
 have hc:∃ks vs,M=.mp ks vs:=⟨_,_,hM.symm⟩
 obtain⟨ks,vs,hc⟩:=hc;subst hc;rw[hM];refine AC.seq ?_;refine An w1 77000 (by kernel_rfl) ?_;refine AE kB ?_;refine At ?_;refine AN Ac kB AB AB AB AB AB AB ?_;exact⟨_,rfl,rfl,trivial⟩
theorem qN {r:Rat}{x:GF}{k:Nat}(h:FR r x k)(hk:k<100000):AK C0 109 [x.D] (.tup [str (sb (TO r)),i64 (TN r:Nat)]):=by
 refine Ak.walk w1 X6 rfl λF=>?_
 have c1:=W5 h hk;have c2:=ZN h hk;unfold TO TN;obtain⟨b,hb⟩:∃b,Da r=b:=⟨_,rfl⟩
 rw[hb]at c1⊢;cases b
 all_goals
  refine AN Ac kB c1 c2 AB AB AB AB ?_;exact AQ rfl AA.out
theorem uM (b:Bool)(l:List AF)(hl:l.length<=1000000)(hf:∀x∈l,x.lite):AK C0 58 [Ai b l] (.tup [(J6 l).D,i64 (GJ l:Nat)]):=by
 refine Ak.walk w1 aM rfl λF0=>?_
 have el:(((l.map AF.D).length:Nat):Int)=(l.length:Int):=by rw[Ap]
 have cM:=kU b l hl λx hx=>(hf x hx).1
 have hN:GJ l=if Gm l≠0 then Gm l else if 64<(B9 l).length then 5 else if(Ey (B9 l)).any (λp=>Da (p.2/(Aq l:Rat)))then 4 else 0:=rfl
 have hL:J6 l=if GJ l≠0 then⟨[],0,[]⟩else⟨(CE l 0).grain,Aq l,EQ l⟩:=rfl
 rcases Nat.decEq (Gm l) 0 with g|g
 ·have e1:=Fr g
  rw[AH g]at hN;rw[hN,AH g]at hL;rw[hL,hN];refine AN EO e1 cM AB AB AB AB AB ?_;exact⟨_,NH _ _,AA.out,rfl⟩
 have e1:=Fs g;rw[AG (λh=>h g)]at hN;have hmm:QX l=Aq l:=by unfold QX;rw[AH g]
 obtain⟨g1,g2,g3,g4,g5⟩:=XA g;have hx:∀x∈l,x.ok:=λx h=>(Zl (hf x h) (g3 x h)).1
 have g6:=WJ g3;rw[hmm]at cM;refine sZ 0 ?_;refine AE kB ?_;refine sZ 100 ?_;refine AE kB ?_;refine cI cM ?_;refine AE kB ?_;refine AC.seq ?_;refine sZ 200 ?_;refine AE e1 ?_;refine AL ?_;refine Am ?_;refine AC.seq ?_;refine HI (by kernel_rfl) ?_;change BX _ _ _ _ _ [0,1] _ _;refine BX.makeMap 400 rfl rfl rfl (Ts F0) (λF1 it hto hO hr0 hnX hM=>?_);change BX _ _ _ _ _ ([1]++[]) _ _;refine Ez w1 400 [1] [] ?_;refine AE kB ?_;refine BX.nil ?_;refine AN EO el AB AB AB AB AB AB ?_;refine Fv (α:=Nat×Cs×Obj×Nat) (λp=>⟨[(0,Ai b l),(2,.optr 0 0 3 0 0),(4,i64 (Aq l)),(6,.prim (.map (some it))),(29,Ai b l),(30,i64 (l.length:Int)),(31,i64 (p.1:Int))],[⟨0,0,27,3,[.agg [.prim (.string ⟨#[]⟩),.prim (.int .i64 0),.prim (.slice none 0 0)]]⟩],p.2.2.2⟩) (λp=>l.length-p.1)
  (λp F=>p.1<=l.length/\Cq C0 F0 F [⟨400,11,p.2.2.1⟩]/\F.r0 400 11=some it/\G8 F p.2.2.1 p.2.1/\MQ (320*p.1) (B9 (l.take p.1)) p.2.1) (0,[],.map #[] 0,_) ⟨BS _,hO,hr0,hM,trivial⟩ AJ ?_
 clear hO hr0 hM hto;rintro⟨i,m,o,n1⟩ F ⟨hi,hO,hr0,hM,hQ⟩;dsimp only at hi hO hr0 hM hQ⊢;rcases BL i l.length with h2|h2
 rotate_left
 ·have e1:=Cm h2
  have:i=l.length:=by omega
  subst this;rw[DW]at hQ;refine sZ 600 ?_;refine AE e1 ?_;refine AC.seq ?_;refine AL ?_;refine B5 ?_;refine bV [(0,Ai b l),(2,.optr 0 0 3 0 0),(4,i64 (Aq l)),(6,mapD m)] hO hr0 hnX hM ⟨.inl rfl,.inl rfl,.inl rfl,.inr ⟨rfl,rfl⟩,trivial⟩ (λF2 hto2 hO2=>?_);have hKO:Gc (λk=>k.length<=1000) (64*l.length) (B9 l):=RK λx h=>⟨(hx x h).1,λs hs=>((hf x h).2 s hs).1⟩
  have hQ2:MQ 32000 (B9 l) m:=hQ.mono (by omega);clear hQ hO hM hto2 hO2;obtain⟨q,hq⟩:∃q,B9 l=q:=⟨_,rfl⟩
  have hSS:EQ l=(Ey q).map λp=>⟨p.1,BM (p.2/(Aq l:Rat))⟩:=by rw[<-hq];rfl
  rw[hq]at hKO hQ2 hN;have hml:=hQ2.len;obtain⟨ks,hks⟩:∃ks:List D,m.map (λp=>(.prim (.string p.1):D))=ks:=⟨_,rfl⟩
  obtain⟨vs,hvs⟩:∃vs:List D,m.map (·.2)=vs:=⟨_,rfl⟩
  have hkl:ks.length=q.length:=by rw[<-hks,Ap,hml]
  unfold mapD;rw[hks,hvs];refine AC.seq ?_;refine AC.seq ?_;refine HI (by kernel_rfl) ?_;change BX _ _ _ _ _ ([0]++(1::([2]++[]))) _ _;refine Ez w1 1800 [0] _ ?_;refine AE kB ?_;refine uK (Mv (w1.xt 102 _ rfl)).1 rfl rfl rfl rfl ?_;refine Ez w1 1800 [2] _ ?_;refine AE kB ?_;refine BX.nil ?_;rw[hkl]
  by_cases h64:64<q.length
  ·rw[AH h64]at hN
   rw[hN,AH (by omega)]at hL;rw[hL,hN];have q2:decide ((q.length:Int)>64)=true:=AY (by omega);refine AN EO q2 AB AB AB AB AB AB ?_;exact⟨_,NH _ _,AA.out,rfl⟩
  have q2:decide ((q.length:Int)>64)=false:=Ah (by omega);rw[AG h64]at hN;rw[q2];have hmd:mapD m=.mp ks vs:=by unfold mapD;rw[hks,hvs]
  have cK:=iX m;have cS:=FK m (Cb q) hQ2.keys (by omega) hKO.all hKO.nd;rw[hmd]at cK cS;obtain⟨x0,hx0⟩:∃x,l[0]?=some x:=⟨_,BH (by omega)⟩
  have hm0:(l.map AF.D)[0]?=some (.agg [str (sb x0.grain),i64 x0.mass,.sl false 2 (x0.shs.map As.D)]):=by rw[BI,hx0];rfl
  refine AN EO kB hm0 AB AB AB AB AB ?_;refine A9.own _ (cK _ _) ?_;rintro d H' n' ⟨gk,rfl,rfl,rfl⟩;refine AN EO kB AB AB AB AB AB AB ?_;refine A9.own _ (cS _ _ _ _ _) ?_;rintro d H' n' ⟨rfl,rfl,rfl⟩;refine AN EO kB AB AB AB AB AB AB ?_;have hkey:=eJ q;have hsl:(Ey q).length=q.length:=(JV q).length_eq;have hsm:∀p∈Ey q,p∈q:=λp h=>(JV q).mem_iff.1 h
  rw[hkey];obtain⟨Q,hQ⟩:∃Q,Ey q=Q:=⟨_,rfl⟩
  rw[hQ]at hN hSS hsl hsm⊢;have hMs:Sm (Aq l):=by unfold Sm;omega
  have hM0:((Aq l:Int):Rat)≠0:=λh=>by
   have:=Rat.intCast_inj.1 (h.trans (Rat.intCast_zero).symm)
   omega
  have fM:FR ((Aq l:Int):Rat) ⟨AW (Aq l),1⟩ 1:=PZ (by unfold Sm at hMs;omega);have cF:=Ny (Aq l) hMs;obtain⟨kl,hkl2⟩:∃kl:List D,(List.map (λx=>str (sb x)) (Q.map (·.1)))=kl:=⟨_,rfl⟩
  have hkll:kl.length=Q.length:=by rw[<-hkl2];simp
  rw[hkl2];obtain⟨M,hMM⟩:∃M,Aq l=M:=⟨_,rfl⟩
  have hgr:(CE l 0).grain=x0.grain:=by rw[FN hx0]
  clear hmd cK cS hm0;rw[hMM]at hN hL hSS hMs hM0 fM cF;rw[hMM,hkll];obtain⟨g14,hg14⟩:∃g,n1+1+1+1+1+1+1+1+1+1+1=g:=⟨_,rfl⟩
  rw[hg14];refine AC.loop (α:=Nat×Nat×Nat) (λp=>⟨[(2,.optr 0 0 3 0 0),(4,i64 M),(6,.mp ks vs),(14,.optr 2006 g14 3 0 0),(78,.sl false 1 kl),(79,i64 (Q.length:Nat)),(80,i64 (p.1:Int))],
    DZ 2706 p.2.1 82 2 ((Q.take p.1).map λz=>(⟨z.1,BM (z.2/(M:Rat))⟩:As).D)++[⟨2006,g14,27,3,[.agg [str (sb x0.grain),i64 M,Dg 2706 p.2.1 2 ((Q.take p.1).map λz=>(⟨z.1,BM (z.2/(M:Rat))⟩:As).D)]]⟩,⟨0,0,27,3,[.agg [.prim (.string ⟨#[]⟩),.prim (.int .i64 0),.prim (.slice none 0 0)]]⟩],p.2.2⟩) (λp=>Q.length-p.1)
   (λp=>p.1<=Q.length/\∀z∈Q.take p.1,Da (z.2/(M:Rat))=false) (0,0,_) ⟨BS _,λz h=>by simp at h⟩ AJ ?_
  clear n1 hg14;rintro⟨i,g,n1⟩ F ⟨hi,hB⟩;dsimp only at hi hB⊢;have hTl:((Q.take i).map λz=>(⟨z.1,BM (z.2/(M:Rat))⟩:As).D).length=i:=by rw[Ap,Bj];omega
  obtain⟨TL,hTL⟩:∃TL,((Q.take i).map λz=>(⟨z.1,BM (z.2/(M:Rat))⟩:As).D)=TL:=⟨_,rfl⟩
  rcases BL i Q.length with h2|h2
  rotate_left
  ·have e1:=Cm h2
   have:i=Q.length:=by omega
   subst this;rw[DW]at hB hTL⊢;have hany:Q.any (λp=>Da (p.2/(M:Rat)))=false:=by
    rw[List.any_eq_false];intro p hp;rw[hB p hp];decide
   rw[AG (by rw[hany];decide)]at hN;rw[AG (by omega)]at hL;rw[hL,hN,hgr];have hres:((⟨x0.grain,M,EQ l⟩:AF).D)=.agg [str (sb x0.grain),i64 M,.sl false 2 TL]:=by
    unfold AF.D CK;rw[<-hTL,hSS,List.map_map];rfl
   have pR:B1 (.tup [(⟨x0.grain,M,EQ l⟩:AF).D,i64 ((0:Nat):Int)]):=AA.out;rw[hres]at pR;rw[hres,hTL];rcases TL with _|⟨z,TL⟩
   ·dsimp only[IE,IF,List.nil_append]
    refine AN EO e1 AB AB AB AB AB AB ?_;exact⟨_,Zj (.nil 2),pR,rfl⟩
   ·dsimp only[G1,G3,List.cons_append,List.nil_append]
    refine AN EO e1 AB AB AB AB AB AB ?_;exact⟨_,Zj (jv rfl),pR,rfl⟩
  have e1:=Cn h2;have wi:=Cp (i:=i) (by omega);obtain⟨p,hp⟩:=CO h2;have hmk:kl[i]?=some (str (sb p.1)):=by rw[<-hkl2,BI,BI,hp];rfl
  have hlq:=RT hKO.nd (hsm p (BE hp));rcases hQ2.look p.1 with⟨q1,q3⟩|⟨r,y,q1,q3,q4⟩
  ·rw[hlq]at q3;cases q3
  rw[hlq]at q3;cases q3;have hLk:HA (sb p.1) ks vs=some (some y.D):=by rw[<-hks,<-hvs,VB,q1]
  have cDv:=nN q4 fM hM0 (by omega);have fD:=jm q4 fM hM0;obtain⟨z,hz⟩:∃z,QS y ⟨AW M,1⟩=z:=⟨_,rfl⟩
  rw[hz]at cDv fD;have cG:=qN fD (by omega);obtain⟨dM,hdM⟩:∃d,(⟨AW M,1⟩:GF).D=d:=⟨_,rfl⟩
  have pdM:AA dM:=by rw[<-hdM];exact AI
  obtain⟨dy,hdy⟩:∃d,y.D=d:=⟨_,rfl⟩
  have pdy:AA dy:=by rw[<-hdy];exact AI
  obtain⟨dz,hdz⟩:∃d,z.D=d:=⟨_,rfl⟩
  have pdz:AA dz:=by rw[<-hdz];exact AI
  rw[hdy]at hLk cDv;rw[hdM]at cF cDv;rw[hdz]at cDv cG;unfold TO TN at cG;obtain⟨bg,hbg⟩:∃q,Da (p.2/(M:Rat))=q:=⟨_,rfl⟩
  rw[hbg]at cG;have hsn:((Q.take (i+1)).map λz=>(⟨z.1,BM (z.2/(M:Rat))⟩:As).D)=TL++[.agg [str (sb p.1),str (sb (BM (p.2/(M:Rat))))]]:=by
   rw[EB,hp,Cu,hTL];rfl
  rw[hTL]at hTl⊢;have n4:((((4:Nat):Int)) != 0)=true:=rfl;have n0:((((0:Nat):Int)) != 0)=false:=rfl;cases bg
  rotate_left
  ·rw[AH rfl,AH rfl]at cG
   have hany:Q.any (λp=>Da (p.2/(M:Rat)))=true:=by
    rw[List.any_eq_true];exact⟨p,BE hp,hbg⟩
   rw[AH hany]at hN;rw[AH (by omega)]at hL;rw[hL,hN];rcases TL with _|⟨z9,TL⟩
   ·dsimp only[IE,IF,List.nil_append]
    refine AN EO (Ae e1 kN) hmk AB AB AB AB AB ?_;refine Oo (d':=dy) rfl rfl rfl rfl rfl rfl hLk rfl ?_;refine At ?_;refine AN EO n4 cF cDv cG AB AB AB ?_;exact⟨_,NH _ _,AA.out,rfl⟩
   ·dsimp only[G1,G3,List.cons_append,List.nil_append]
    refine AN EO (Ae e1 kN) hmk AB AB AB AB AB ?_;refine Oo (d':=dy) rfl rfl rfl rfl rfl rfl hLk rfl ?_;refine At ?_;refine AN EO n4 cF cDv cG AB AB AB ?_;exact⟨_,NH _ _,AA.out,rfl⟩
  rw[AG (by decide),AG (by decide)]at cG;have hB2:∀w∈Q.take (i+1),Da (w.2/(M:Rat))=false:=λw hw=>by
   rw[EB,hp]at hw;rcases List.mem_append.1 hw with h|h
   ·exact hB w h
   ·have:w=p:=by simpa using h
    rw[this];exact hbg
  rcases TL with _|⟨z9,TL⟩
  ·dsimp only[IE,IF,List.nil_append]
   refine AN EO (Ae e1 kN) hmk AB AB AB AB AB ?_;refine Oo (d':=dy) rfl rfl rfl rfl rfl rfl hLk rfl ?_;refine At ?_;refine AN EO (Ae n0 wi) cF cDv cG AB AB AB ?_;exact⟨(i+1,_,_),⟨h2,hB2⟩,by dsimp only;omega,by(dsimp only;rw[hsn];exact AJ)⟩
  ·dsimp only[G1,G3,List.cons_append,List.nil_append]
   have htk:List.take (TL.length+1) (z9::TL)=z9::TL:=by simp
   rw[Bl]at hTl;have hb64:TL.length+1<64:=by omega
   refine AN EO (Ae e1 kN) hmk AB AB AB AB AB ?_;refine Oo (d':=dy) rfl rfl rfl rfl rfl rfl hLk rfl ?_;refine At ?_;refine AN EO (Av n0 wi htk) cF cDv cG AB AB AB ?_;exact⟨(i+1,_,_),⟨h2,hB2⟩,by dsimp only;omega,by(dsimp only;rw[hsn,Mw];exact AJ)⟩
 have e1:=Cn h2;have wi:=Cp (i:=i) (by omega);obtain⟨x,hxi⟩:=CO h2;obtain⟨x1,x2,x3⟩:=hx x (BE hxi);have hm:(l.map AF.D)[i]?=some (.agg [str (sb x.grain),i64 x.mass,.sl false 2 (x.shs.map As.D)]):=by rw[BI,hxi];rfl
 have es:(((x.shs.map As.D).length:Nat):Int)=(x.shs.length:Int):=by rw[Ap]
 refine AN EO (Av e1 es kN) hm AB AB AB AB AB ?_;obtain⟨ga,hga⟩:∃g,n1+1+1+1=g:=⟨_,rfl⟩
 refine Fv (α:=Nat×Cs×Obj×Nat) (λp=>⟨[(0,Ai b l),(2,.optr 0 0 3 0 0),(4,i64 (Aq l)),(6,.prim (.map (some it))),(8,.optr 702 (n1+1+1+1) 3 0 0),(29,Ai b l),(30,i64 (l.length:Int)),(31,i64 (i:Int)),(36,.sl false 2 (x.shs.map As.D)),(37,i64 (x.shs.length:Int)),(38,i64 (p.1:Int))],[⟨702,n1+1+1+1,27,3,[.agg [str (sb x.grain),i64 x.mass,.sl false 2 (x.shs.map As.D)]]⟩,⟨0,0,27,3,[.agg [.prim (.string ⟨#[]⟩),.prim (.int .i64 0),.prim (.slice none 0 0)]]⟩],p.2.2.2⟩) (λp=>x.shs.length-p.1)
  (λp F=>p.1<=x.shs.length/\Cq C0 F0 F [⟨400,11,p.2.2.1⟩]/\F.r0 400 11=some it/\G8 F p.2.2.1 p.2.1/\MQ (320*i+5*p.1) (Fm x p.1 (B9 (l.take i))) p.2.1) (0,m,o,_) ⟨BS _,hO,hr0,hM,hQ⟩ AJ ?_
 clear hO hr0 hM hQ;rintro⟨j,m2,o2,n2⟩ F ⟨hj,hO,hr0,hM,hQ⟩;dsimp only at hj hO hr0 hM hQ⊢;rw[hga];rcases BL j x.shs.length with h3|h3
 rotate_left
 ·have e2:=Cm h3
  have:j=x.shs.length:=by omega
  subst this;rw[<-Oi l i hxi]at hQ;refine AN EO (Ae e2 wi) AB AB AB AB AB AB ?_;exact⟨(i+1,m2,o2,_),⟨h2,hO,hr0,hM,hQ.mono (by dsimp only;omega)⟩,by dsimp only;omega,AJ⟩
 have e2:=Cn h3;have wj:=Cp (i:=j) (by omega);obtain⟨s,hsj⟩:=CO h3;obtain⟨s1,s2,s3⟩:=x3 s (BE hsj);have hms:(x.shs.map As.D)[j]?=some (.agg [str (sb s.lot),str (sb s.part)]):=by rw[BI,hsj];rfl
 have hsn:=Ms x j (B9 (l.take i)) hsj;have fP:FR (CF s.part) (Fl s.part) 3:=⟨(P0 s3).is,b6 s3 s2⟩
 have fM:FR ((x.mass:Int):Rat) ⟨AW x.mass,1⟩ 1:=PZ (by unfold Sm at x2;omega);have c1:=Pr (by omega) s3;have c2:=Ny x.mass x2;have c3:=Sj fP fM (by decide);have fZ:FR (CF s.part*(x.mass:Rat)) (Hq (Fl s.part) ⟨AW x.mass,1⟩) 4:=SB fP fM;obtain⟨z,hz⟩:∃z,Hq (Fl s.part) ⟨AW x.mass,1⟩=z:=⟨_,rfl⟩
 rw[hz]at c3 fZ;obtain⟨d1,hd1⟩:∃d,(Fl s.part).D=d:=⟨_,rfl⟩
 obtain⟨d2,hd2⟩:∃d,(⟨AW x.mass,1⟩:GF).D=d:=⟨_,rfl⟩
 have pd1:AA d1:=by rw[<-hd1];exact AI
 have pd2:AA d2:=by rw[<-hd2];exact AI
 rw[hd1]at c1 c3;rw[hd2]at c2 c3;refine sZ 900 ?_;refine AE e2 ?_;refine AC.seq ?_;refine AL ?_;refine Am ?_;refine AC.seq ?_;refine AC.block ?_;refine sZ 1000 ?_;refine Bo kT hms ?_;refine AE kB ?_;refine AC.seq ?_;refine B3 w1 1100 [0,1,2,3,4,5,6,7] [8] (by kernel_rfl) ?_;refine AE kB ?_;refine BT.same _ (c1) AI ?_;refine BN ?_;refine AE kB ?_;refine BT.same _ (c2) AI ?_;refine BN ?_;refine AE kB ?_;refine BT.same _ (c3) AI ?_;refine BN ?_;refine AE kB ?_;refine AC.seq ?_;refine AC.seq ?_;refine HI (by kernel_rfl) ?_;change BX _ _ _ _ _ ([0,1,2]++(3::([4,5,6,7,8,9]++[]))) _ _;refine Ez w1 1200 [0,1,2] _ ?_;refine AE kB ?_;refine BX.look (xo:=⟨400,11,o2⟩) (l:=m2) w1 rfl rfl rfl rfl rfl rfl hO CH hr0 hM ?_;rcases hQ.look s.lot with⟨q1,q2⟩|⟨r,y,q1,q2,q3⟩
 ·rw[U8 q1]
  refine Ez w1 1200 [4,5,6,7,8,9] [] ?_;refine AE kB ?_;refine BX.nil ?_;refine At ?_;refine sZ 1300 ?_;refine AE kB ?_;refine AL ?_;refine Am ?_;refine HI (by kernel_rfl) ?_;change BX _ _ _ _ _ ([0,1,2,3]++(4::[])) _ _;refine Ez w1 1500 [0,1,2,3] _ ?_;refine AE kB ?_;refine BX.put (l:=m2) w1 rfl rfl rfl rfl rfl rfl hO hr0 hM (λF3 o3 hto3 hO3 hr3 hM3=>BX.nil ?_);refine At ?_;have hQ2:MQ (320*i+5*(j+1)) (Fm x (j+1) (B9 (l.take i))) (Ew (sb s.lot) z.D m2):=by
   rw[hsn];unfold I8;rw[q2];exact MQ.set s.lot ⟨fZ.is,fZ.rk.mono (by omega)⟩ (hQ.mono (by omega))
  refine AN EO wj AB AB AB AB AB AB ?_;exact⟨(j+1,Ew (sb s.lot) z.D m2,o3,_),⟨h3,hO3,hr3,hM3,hQ2⟩,by dsimp only;omega,AJ⟩
 ·rw[U9 q1]
  refine Ez w1 1200 [4,5,6,7,8,9] [] ?_;refine AE kB ?_;refine BX.nil ?_;have c4:=Pk fZ q3 (by omega);have fA:=PP fZ q3;obtain⟨z2,hz2⟩:∃z2,I3 z y=z2:=⟨_,rfl⟩
  rw[hz2]at c4 fA;refine At ?_;refine sZ 1300 ?_;refine AE kB ?_;refine AL ?_;refine An w1 1400 (by kernel_rfl) ?_;refine AE kB ?_;refine cI c4 ?_;refine AE kB ?_;refine HI (by kernel_rfl) ?_;change BX _ _ _ _ _ ([0,1,2,3]++(4::[])) _ _;refine Ez w1 1500 [0,1,2,3] _ ?_;refine AE kB ?_;refine BX.put (l:=m2) w1 rfl rfl rfl rfl rfl rfl hO hr0 hM (λF3 o3 hto3 hO3 hr3 hM3=>BX.nil ?_);refine At ?_;have hQ2:MQ (320*i+5*(j+1)) (Fm x (j+1) (B9 (l.take i))) (Ew (sb s.lot) z2.D m2):=by
   rw[hsn];unfold I8;rw[q2];exact MQ.set s.lot ⟨fA.is,fA.rk.mono (by omega)⟩ (hQ.mono (by omega))
  refine AN EO wj AB AB AB AB AB AB ?_;exact⟨(j+1,Ew (sb s.lot) z2.D m2,o3,_),⟨h3,hO3,hr3,hM3,hQ2⟩,by dsimp only;omega,AJ⟩
abbrev jN:Dr:=[(1,[0,1,2,3,4,5],[6,7])]
open Go.Proofs Go.RowKit Go.Sort
set_option maxRecDepth 20000
set_option maxHeartbeats 4000000
theorem uh {C:A8}{f sz:Nat}{ds:List D}{Φ:D->Prop}(h1:Ak C f (CD::ds) Φ)(h2:Ak C f (.sl true sz []::ds) Φ):Ak C f (.sl false sz []::ds) Φ:=by
 refine⟨h1.1,λX w vs a b c e g=>?_⟩;have g0:=g 0 _ rfl;generalize hv:vs.getD 0 undef=v at g0;cases g0 with
 |nil=>
  refine h1.2 X w vs a b c e λi d hd=>?_
  match i with
  | 0=>cases hd;rw[hv];exact .prim _
  |i+1=>exact g (i+1) d hd
 |emp a0=>
  refine h2.2 X w vs a b c e λi d hd=>?_
  match i with
  | 0=>cases hd;rw[hv];exact .emp a0
  |i+1=>exact g (i+1) d hd
 |sl f hl hc hO hb hz hcell ho h=>
  refine h2.2 X w vs a b c e λi d hd=>?_
  match i with
  | 0=>cases hd;rw[hv];exact .sl f hl hc hO hb hz hcell ho h
  |i+1=>exact g (i+1) d hd
theorem Fc {H Hf:Hp}{k g T sz:Nat}{l:List D}(he:Hp.get H k=some ⟨k,g,T,sz,l⟩)(hf:Hp.get Hf k=none:=by rfl):Fz H Hf (.osl k g sz 0 l.length) (.sl false sz l):=by
 refine .osl (e:=⟨k,g,T,sz,l⟩) he hf rfl rfl (by simp) (by simp) (λj d d' h1 h2=>?_) λj d d' q c c' h1 h2 h3 h4=>?_
 ·rw[BR]at h1;rw[h1]at h2;cases h2;rfl
 ·rw[BR]at h1;rw[h1]at h2;cases h2;rw[h3]at h4;cases h4;exact Fz.refl _
theorem ji (s:List As)(hl:s.length<=1000000):AK C0 118 [CK false s] (CK false s):=by
 unfold CK;rcases s with _|⟨z,s⟩
 ·refine uh ?_ ?_
  ·refine Ak.walk w1 Pp rfl λF=>?_
   refine AN Ac kB AB AB AB AB AB AB ?_;exact⟨_,.nil 2,AA.out,rfl⟩
  ·refine Ak.walk w1 Pp rfl λF=>?_
   refine AN Ac kB AB AB AB AB AB AB ?_;exact⟨_,.osl (e:=⟨302,5,82,2,[]⟩) rfl rfl rfl rfl (Ad _) rfl (λj d d' h=>by simp at h) (λj d d' q c c' h=>by simp at h),AA.out,rfl⟩
 ·refine Ak.walk w1 Pp rfl λF=>?_
  obtain⟨T,hT⟩:∃T,List.map As.D (z::s)=T:=⟨_,rfl⟩
  have pT:AA (.sl false 2 T):=by rw[<-hT];exact AI
  have hne:T≠[]:=by rw[<-hT];simp
  have hlT:T.length<=1000000:=by rw[<-hT,Ap];exact hl
  rw[hT];refine AN Ac hne AB AB AB AB AB AB ?_;exact⟨_,by rw[BR];exact Fc rfl,pT.out,rfl⟩
theorem QA (x:AF)(m:Int)(hl:x.shs.length<=1000000):AK C0 63 [x.D,i64 m] ((⟨x.grain,m,x.shs⟩:AF).D):=by
 refine Ak.walk w1 aQ rfl λF=>?_
 have cC:=ji x.shs hl;unfold AF.D;dsimp only;unfold CK at cC⊢;obtain⟨SD,hSD⟩:∃d,x.shs.map As.D=d:=⟨_,rfl⟩
 have pS:AA (.sl false 2 SD):=by rw[<-hSD];exact AI
 rw[hSD]at cC⊢;refine AN Ac kB cC AB AB AB AB AB ?_;exact AQ rfl AA.out
theorem iJ (b:Bool)(l:List AF)(hl:l.length<=1000000)(h0:l≠[])(H:Hp)(n:Nat):CS C0 57 [Ai b l] H n
  (λd H' n'=>∃g,d=.osl 302 g 3 0 l.length/\H'=⟨302,g,27,3,l.map AF.D⟩::H/\n'=n+7):=by
 refine CS.walk w1 aL rfl λF=>?_
 unfold Ai;obtain⟨T,hT⟩:∃T,l.map AF.D=T:=⟨_,rfl⟩
 have pT:AA (.sl b 3 T):=by rw[<-hT];exact AI
 have hne:T≠[]:=by rw[<-hT];simpa using h0
 have hlT:T.length<=1000000:=by rw[<-hT,Ap];exact hl
 rw[hT,<-Ap (f:=AF.D),hT];cases b
 all_goals
  refine sZ 0 ?_;refine AE kB ?_;refine AC.seq ?_;refine sZ 100 ?_;refine AE kB ?_;refine AL ?_;refine Am ?_;refine sZ 300 ?_;refine AE kB ?_;refine Af ?_;exact⟨_,by rw[BR],rfl,rfl⟩
theorem qH (b:Bool)(x y:AF)(l:List AF):AK C0 112 [x.D,  .pptr (.sl b 3 ((y::l).map AF.D))] (Au (!Bh (sb x.grain) (sb y.grain))):=by
 refine Ak.walk w1 X9 rfl λF=>?_
 have hm:((y::l).map AF.D)[0]?=some (.agg [str (sb y.grain),i64 y.mass,.sl false 2 (y.shs.map As.D)]):=rfl;obtain⟨T,hT⟩:∃T,(y::l).map AF.D=T:=⟨_,rfl⟩
 have pT:AA (.sl b 3 T):=by rw[<-hT];exact AI
 obtain⟨S,hS⟩:∃S,x.shs.map As.D=S:=⟨_,rfl⟩
 have pS:AA (.sl false 2 S):=by rw[<-hS];exact AI
 rw[hT]at hm⊢;unfold AF.D CK;rw[hS];refine AN jN kB hm AB AB AB AB AB ?_;exact AQ rfl AA.out
theorem qJ (b:Bool)(l:List AF)(c:D)[pc:AA c](p:AF->Bool)(hl:l.length<=1000000)(hc:∀x∈l,AK C0 112 [x.D,c] (Au (p x))):AK C0 159 [Ai b l,.clo (.func 112) [] [c]] (i64 (J3 p l)):=by
 refine Ak.walk w1 Yv rfl λF=>?_
 have el:(((l.map AF.D).length:Nat):Int)=(l.length:Int):=by rw[Ap]
 refine AN Ac el AB AB AB AB AB AB ?_;refine AC.loop (α:=Nat×Nat) (λp=>⟨[(0,Ai b l),(1,.clo (.func 112) [] [c]),(7,i64 l.length),(8,i64 (p.1:Int))],[],p.2⟩) (λp=>l.length-p.1) (λq=>q.1<=l.length/\∀(j:Nat) (x:AF),j<q.1->l[j]?=some x->p x=false) (0,_) ⟨BS _,λj x hj=>Aj hj (HM j)⟩ AJ ?_;rintro⟨i,n⟩ F ⟨hi,ha⟩;dsimp only at hi ha⊢;rcases BL i l.length with h2|h2
 rotate_left
 ·have e1:=Cm h2
  have:i=l.length:=by omega
  subst this;refine AN Ac e1 AB AB AB AB AB AB ?_;exact AQ (by rw[Vd ha]) AA.out
 have e1:=Cn h2;have wi:=Cp (i:=i) (by omega);obtain⟨x,hx⟩:=CO h2;have hm:(l.map AF.D)[i]?=some (.agg [str (sb x.grain),i64 x.mass,.sl false 2 (x.shs.map As.D)]):=by rw[BI,hx];rfl
 have cn:=hc x (BE hx);unfold AF.D at cn;cases hb:p x
 ·rw[hb]at cn
  refine AN Ac (Av e1 wi kN) hm cn AB AB AB AB ?_;refine⟨(i+1,_),⟨h2,λj z hj hjz=>?_⟩,by dsimp only;omega,AJ⟩;rcases BL j i with h|h
  ·exact ha j z h hjz
  ·have:j=i:=by dsimp only at hj;omega
   subst this;rw[hx]at hjz;cases hjz;exact hb
 ·rw[hb]at cn
  refine AN Ac (Av e1 wi kN) hm cn AB AB AB AB ?_;exact AQ (by rw[Wo hx hb ha]) AA.out
theorem qI (b:Bool)(l:List AF)(c:D)[pc:AA c](p:AF->Bool)(hl:l.length<=1000000)(hc:∀x∈l,AK C0 112 [x.D,c] (Au (p x))):AK C0 111 [Ai b l,.clo (.func 112) [] [c]] (Au (l.any p)):=by
 refine Ak.walk w1 X8 rfl λF=>?_
 have c1:=qJ b l c p hl hc;have e1:=Wp p l;refine AN Ac e1 c1 AB AB AB AB AB ?_;exact AQ rfl AA.out
theorem gE (b:Bool)(l:List AF)(hl:l.length<=1000000):AK C0 60 [Ai b l] (i64 (if D7 l then 0 else 16:Nat)):=by
 refine Ak.walk w1 aN rfl λF=>?_
 have cH:AK C0 111 [Ai b l,.clo (.func 112) [] [.pptr (Ai b l)]] (Au (!D7 l)):=by
  have:=qI b l (.pptr (Ai b l)) (λx=>!Bh (sb x.grain) (sb (CE l 0).grain)) hl λx hx=>by
   rcases l with _|⟨y,l⟩
   ·cases hx
   ·exact qH b x y l
  have he:(l.any λx=>!Bh (sb x.grain) (sb (CE l 0).grain)) = !D7 l:=by
   unfold D7;rw[List.not_all_eq_any_not]
  rwa [he]at this
 have cW:=Ku (!D7 l) 16;refine AN Ac kB cH cW AB AB AB AB ?_;refine A9.own _ (MR cH rfl (λi a d h1 h2=>by
  match i with
  | 0=>cases h1;cases h2;exact .refl _ _
  | 1=>cases h1;cases h2;exact .clo1 (.ptr rfl rfl rfl rfl)
  |n+2=>cases h1) AI (.prim _)) ?_
 rintro d H' n' ⟨rfl,rfl,rfl⟩;refine AN Ac kB cW AB AB AB AB AB ?_;exact AQ (by cases D7 l<;>rfl) AA.out
theorem Io {l:List AF}(h:Be l=0):l.length<=64/\(∀x∈l,CV x=0)/\Aq l<=999999999:=by
 unfold Be at h;split at h
 ·cases h
 ·split at h
  ·rename_i h3;exact Aj h h3
  ·split at h
   ·cases h
   ·refine⟨by omega,λx hx=>?_,by omega⟩
    obtain⟨j,hj⟩:=List.mem_iff_getElem?.1 hx
    have:=PC (f:=λi=>CV (CE l i)) (n:=l.length) (by omega) j (List.getElem?_eq_some_iff.1 hj).1
    rwa [FN hj]at this
theorem VD {l:List AF}(hf:∀x∈l,x.lite)(hz:∀x∈l,CV x=0)(hl:l.length<=64):(∀x∈l,x.ok)/\Gc (λk=>k.length<=1000) 4096 (B9 l):=by
 have hx:∀x∈l,x.ok:=λx h=>(Zl (hf x h) (hz x h)).1
 exact⟨hx,(RK λx h=>⟨(hx x h).1,λs hs=>((hf x h).2 s hs).1⟩).mono (by omega)⟩
def QG (l:List AF):Nat:=if Be l≠0 then Be l else Hk (B9 l)
def QH (l:List AF):Bu:=if Be l≠0 then[]else Iw (B9 l)
theorem sN (b:Bool)(l:List AF)(hl:l.length<=1000000)(hf:∀x∈l,x.lite):AK C0 36 [Ai b l] (.tup [.sl false 2 ((QH l).map CZ),i64 (QG l:Nat)]):=by
 refine Ak.walk w1 aD rfl λF=>?_
 have cP:=Jw b l (by omega) λx hx=>(hf x hx).1
 have hR:QH l=if Be l≠0 then[]else Iw (B9 l):=rfl
 have hE:QG l=if Be l≠0 then Be l else Hk (B9 l):=rfl
 rcases Nat.decEq (Be l) 0 with g|g
 ·have e1:=Fr g
  rw[AH g]at hR hE;rw[hR,hE];refine AN Ac e1 cP AB AB AB AB AB ?_;exact⟨_,Gb (.nil 2) (.refl _),AA.out,rfl⟩
 have e1:=Fs g;rw[AG (λh=>h g)]at hR hE;rw[hR,hE];obtain⟨g1,g2,g3⟩:=Io g;obtain⟨hx,hK⟩:=VD hf g2 g1;have cL:=sO b l (by omega) hx;refine AN Ac e1 cP AB AB AB AB AB ?_;refine A9.prop _ _ (EK.refl _) cL AI ?_;rintro d ⟨m,rfl,hQ⟩;have cA:=WW 32000 (by omega) (B9 l) m hQ (BQ hK.len (by omega)) hK.nd;have pM:AA (mapD m):=⟨hQ.mapD⟩
 unfold Iv at cA;obtain⟨M,hM⟩:∃M,mapD m=M:=⟨_,rfl⟩
 rw[hM]at cA pM⊢;refine AN Ac kB cA AB AB AB AB AB ?_;exact AQ rfl AA.out
abbrev SR:Dr:=[(6,[0,1,2,3,4,5,6,7,8,9,10,11,12,13,14,15,16,17,18,19,20,21],[22,23])]
abbrev SQ:Dr:=[(6,[0,1,2,3,4,5,6,7,8,9,10,11,12,13,14,15,16,17,18,19],[20,21,22])]
open Go.Proofs Go.RowKit
set_option maxRecDepth 20000
set_option maxHeartbeats 4000000
theorem gV (b1 b2:Bool)(S:List As)(hl:S.length<=1000000):AK C0 52 [CK b1 S,CK b2 S] (Au true):=by
 refine Ak.walk w1 TH rfl λF=>?_
 have el:(((S.map As.D).length:Nat):Int)=(S.length:Int):=by rw[Ap]
 have hne:((S.length:Int) != (S.length:Int))=false:=bne_self_eq_false _;refine AN SR (Ae el hne) AB AB AB AB AB AB ?_;refine AC.loop (α:=Nat×Nat) (λp=>⟨[(0,CK b1 S),(1,CK b2 S),(5,i64 (p.1:Int))],[],p.2⟩) (λp=>S.length-p.1) (λq=>q.1<=S.length) (0,_) (BS _) AJ ?_;rintro⟨i,n⟩ F hi;dsimp only at hi⊢;rcases BL i S.length with h2|h2
 rotate_left
 ·have e1:=Cm h2
  refine AN SR (Ae el e1) AB AB AB AB AB AB ?_;exact AQ rfl AA.out
 have e1:=Cn h2;have wi:=Cp (i:=i) (by omega);obtain⟨x,hx⟩:=CO h2;have hm:(S.map As.D)[i]?=some (.agg [str (sb x.lot),str (sb x.part)]):=by rw[BI,hx];rfl
 have s1:=KZ (sb x.lot);have s2:=KZ (sb x.part);refine AN SR (Cj el e1 wi s1 s2 kN (Ae kT kF)) hm AB AB AB AB AB ?_;exact⟨(i+1,_),h2,by dsimp only;omega,AJ⟩
theorem iF (x:AF)(hl:x.shs.length<=1000000):AK C0 68 [x.D,x.D] (Au true):=by
 refine Ak.walk w1 TK rfl λF=>?_
 have c:=gV false false x.shs hl;have s1:=KZ (sb x.grain);unfold AF.D;unfold CK at c⊢;obtain⟨S,hS⟩:∃S,x.shs.map As.D=S:=⟨_,rfl⟩
 have pS:AA (.sl false 2 S):=by rw[<-hS];exact AI
 rw[hS]at c⊢;refine AN Ac (Av s1 kT kF) c AB AB AB AB AB ?_;exact AQ rfl AA.out
theorem SJ (b1 b2:Bool)(l:List AF)(hl:l.length<=1000000)(hs:∀x∈l,x.shs.length<=1000000):AK C0 17 [Ai b1 l,Ai b2 l] (Au true):=by
 refine Ak.walk w1 Z6 rfl λF=>?_
 have el:(((l.map AF.D).length:Nat):Int)=(l.length:Int):=by rw[Ap]
 have hne:((l.length:Int) != (l.length:Int))=false:=bne_self_eq_false _;refine AN SQ (Ae el hne) AB AB AB AB AB AB ?_;refine AC.loop (α:=Nat×Nat) (λp=>⟨[(0,Ai b1 l),(1,Ai b2 l),(5,i64 (p.1:Int))],[],p.2⟩) (λp=>l.length-p.1) (λq=>q.1<=l.length) (0,_) (BS _) AJ ?_;rintro⟨i,n⟩ F hi;dsimp only at hi⊢;rcases BL i l.length with h2|h2
 rotate_left
 ·have e1:=Cm h2
  refine AN SQ (Ae el e1) AB AB AB AB AB AB ?_;exact AQ rfl AA.out
 have e1:=Cn h2;have wi:=Cp (i:=i) (by omega);obtain⟨x,hx⟩:=CO h2;have hm:(l.map AF.D)[i]?=some (.agg [str (sb x.grain),i64 x.mass,.sl false 2 (x.shs.map As.D)]):=by rw[BI,hx];rfl
 have c:=iF x (hs x (BE hx));have s1:(x.mass != x.mass)=false:=bne_self_eq_false _;unfold AF.D CK at c;obtain⟨S,hS⟩:∃S,x.shs.map As.D=S:=⟨_,rfl⟩
 have pS:AA (.sl false 2 S):=by rw[<-hS];exact AI
 rw[hS]at c hm;refine AN SQ (Cj el e1 wi s1 kN kT kF) hm c AB AB AB AB ?_;exact⟨(i+1,_),h2,by dsimp only;omega,AJ⟩
def EP (p:List UInt8×List UInt8):D:=.agg [str (sb p.1),str (sb p.2)]
instance  (p:List UInt8×List UInt8):Al (EP p):=by unfold EP;exact AI
instance  (p:List UInt8×List UInt8):AA (EP p):=by unfold EP;exact AI
theorem qL (m k:Int):AK C0 18 [i64 m,i64 k] (i64 (if m<k then 3 else 0)):=by
 refine Ak.walk w1 rc rfl λF=>?_
 by_cases h:m<k
 ·have e:=AY h
  rw[AH h];refine AN Ac e AB AB AB AB AB AB ?_;exact AQ rfl AA.out
 ·have e:=Ah h
  rw[AG h];refine AN Ac e AB AB AB AB AB AB ?_;exact AQ rfl AA.out
theorem Zm (v:List Int)(hl:v.length<=1000):AK C0 13 [.sl true 1 (v.map λe=>i64 e)] (i64 (DP v)):=by
 refine Ak.walk w1 r8 rfl λF=>?_
 have el:(((v.map λe=>i64 e).length:Nat):Int)=(v.length:Int):=by rw[Ap]
 refine AN Ac el AB AB AB AB AB AB ?_;refine AC.loop (α:=Nat×Nat) (λp=>⟨[(5,.sl true 1 (v.map λe=>i64 e)),(6,i64 (v.length:Int)),(7,i64 (p.1:Int))],[],p.2⟩) (λp=>v.length-p.1) (λp=>p.1<=v.length/\∀(j:Nat) (e:Int),j<p.1->v[j]?=some e->e=0) (0,_) ⟨BS _,λj e h=>Aj h (HM j)⟩ AJ ?_;rintro⟨i,m⟩ F ⟨hi,ha⟩;dsimp only at hi ha⊢;rcases BL i v.length with h2|h2
 rotate_left
 ·have e1:=Cm h2
  have:i=v.length:=by omega
  subst this;have hd:DP v=0:=by rw[Ob ha,Ia];rfl
  rw[hd];refine AN Ac e1 AB AB AB AB AB AB ?_;exact AQ rfl AA.out
 have e1:=Cn h2;have wi:=Cp (i:=i) (by omega);obtain⟨l,hl'⟩:=CO h2;have hm:(v.map λe=>i64 e)[i]?=some (i64 l):=by rw[BI,hl'];rfl
 by_cases g:l=0
 ·have e5:(l != 0)=false:=by rw[g];rfl
  refine AN Ac (Bk e1 wi e5 kN) hm AB AB AB AB AB ?_;exact⟨(i+1,_),⟨h2,λj e hj he=>by
   rcases Nat.lt_succ_iff_lt_or_eq.1 hj with q|q
   ·exact ha j e q he
   ·subst q;rw[hl']at he;cases he;exact g⟩,by dsimp only;omega,AJ⟩
 ·have e5:(l != 0)=true:=NM g
  have hd:DP v=l:=by
   rw[Ob ha,D9 h2];rw[BH h2]at hl';rw[FD hl'];exact AH g
  rw[hd];refine AN Ac (Bk e1 wi e5 kN) hm AB AB AB AB AB ?_;exact AQ rfl AA.out
def As.shB (s:As):Bool:=decide (s.lot.length<=100)&&decide (s.part.length<=14)
def AF.shB (x:AF):Bool:=decide (x.grain.length<=100)&&(decide (x.shs.length<=8)||decide (64<x.shs.length))&&decide (x.shs.length<=80)&&x.shs.all As.shB
def Hh (l:List AF):Bool:=l.all AF.shB&&(decide (l.length<=8)||(decide (64<l.length)&&decide (l.length<=80)))
theorem Cw.clo2 {H:Hp}{fn:Fn}{c c' x x':D}(h:Cw H c c')(k:Cw H x x'):Cw H (.clo fn [] [c,x]) (.clo fn [] [c',x']):=λC F ρ w m hO hN v hv=>by
 cases hv with
 |clo hf hc h1 h2=>
  refine .clo hf (by simpa using hc) (λi d hd=>by simp at hd) λi d hd=>?_
  match i with
  | 0=>
   simp at hd;subst hd;exact h C F ρ w m hO hN _ (h2 0 _ rfl)
  | 1=>
   simp at hd;subst hd;exact k C F ρ w m hO hN _ (h2 1 _ rfl)
  |i+2=>simp at hd
theorem Ru (b bk:Bool)(T:List D)[pT:AA (.sl b 3 T)]:AK C0 141 [.sl b 3 T,Au bk] (.clo (.func 185) [] [.pptr (.sl b 3 T),.pptr (Au bk)]):=by
 refine ui w1 Ym rfl λF=>?_
 have hp:B1 (.clo (.func 185) [] [.pptr (.sl b 3 T),.pptr (Au bk)]):=(AI:AA (.clo (.func 185) [] [.pptr (.sl b 3 T),.pptr (Au bk)])).out;refine fR 0 ?_;refine fR 100 ?_;refine Af ?_;exact⟨_,.clo2 (.ptr rfl rfl rfl rfl) (.ptr rfl rfl rfl rfl),hp,rfl⟩
theorem Ta {E:FA}{l:Nat}{R:LR}(hE:FA.ok E)(b bk:Bool)(T:List D)[pT:AA (.sl b 3 T)](hT:∀x∈T,∃a c d,x=.agg [a,c,d])(hl:T.length<=1000000)
  {σ:Type} (S:Nat->σ->Hp) (P:Nat->σ->Prop) (c:Code) (Z:Hp->Prop) (a0:σ) (h0:P 0 a0) (n0:Nat)
  (hY:∀k a x n,P k a->k<T.length->T[if bk then T.length-1-k else k]?=some x->Pw C0 E l R [x] (S k a) n (λj H' _=>(j=none/\∃a',P (k+1) a'/\CU H' (S (k+1) a') H' (S (k+1) a'))\/(j=some c/\Z H'))):
  NS C0 E 185 [.clo (.yield l) [] [],.pptr (.sl b 3 T),.pptr (Au bk)] l R (S 0 a0) n0 (λj _ H' _=>(j=none/\∃a,P T.length a/\H'=S T.length a)\/(j=some c/\Z H')):=by
 refine NS.walk w1 hE Y3 rfl λB F hR=>?_
 obtain⟨N,hN⟩:∃N,T.length=N:=⟨_,rfl⟩
 rw[hN]at hY hl⊢;have el:((T.length:Nat):Int)=(N:Int):=by rw[hN]
 refine sZ 0 ?_;refine AE el ?_;refine AC.block ?_;refine Fv (α:=Nat×σ×Nat) (λp=>⟨[(0,.clo (.yield l) [] []),(1,.pptr (.sl b 3 T)),(2,.pptr (Au bk)),(6,i64 (N:Int)),(7,i64 (p.1:Int))],S p.1 p.2.1,p.2.2⟩) (λp=>N-p.1)
  (λp F=>Kt C0 E B F l R/\p.1<=N/\P p.1 p.2.1) (0,a0,_) ⟨hR,BS _,h0⟩ AJ ?_
 clear hR;rintro⟨i,a,m⟩ F ⟨hR,h1,hP⟩;dsimp only at h1 hR hP⊢;refine sR 100 ?_;refine AC.seq ?_;refine AL ?_
 (refine Br (λh8=>?_) (λh8=>?_))<;>(try simp only[Bb,Bq]at h8)<;>(try simp only[h8])
 ·have hi:i<N:=by
   have:=C3 h8
   omega
  have a3:IntKind.i64.wrap ((i:Int)+1)=((i+1:Nat):Int):=wI (by omega) (by omega);have a4:IntKind.i64.wrap ((N:Int)-1)=((N-1:Nat):Int):=by rw[wI (by omega) (by omega)];omega
  have a5:IntKind.i64.wrap (((N-1:Nat):Int)-(i:Int))=((N-1-i:Nat):Int):=by rw[wI (by omega) (by omega)];omega
  have hq:(if bk then N-1-i else i)<T.length:=by rw[hN];split<;>omega
  obtain⟨x,hx⟩:∃x,T[if bk then N-1-i else i]?=some x:=⟨_,BH hq⟩
  have hy:=λn=>hY i a x n hP hi hx
  obtain⟨x1,x2,x3,rfl⟩:=hT x (BE hx);refine Am ?_;refine AC.seq ?_;refine AC.block ?_;refine sR 200 ?_;refine AC.seq ?_;refine sR 300 ?_;cases bk
  ·replace hx:T[i]?=some (.agg [x1,x2,x3]):=hx
   refine AL ?_;refine Am ?_;refine AC.seq ?_;refine bT w1 500 [0,1,2,3,4] 5 [6] rfl (by kernel_rfl) hR ?_;refine BN ?_;refine Bo kT hx ?_;refine And.intro ⟨rfl,trivial⟩ ?_;refine BN ?_;refine⟨rfl,_,hy _,?_,?_⟩
   ·rintro H2 n2 (⟨_,a',hP',hf⟩|⟨h,-⟩)
    rotate_left
    ·cases h
    refine And.intro (by exact Bz) ?_;refine At ?_;refine AL ?_;refine Am ?_;refine An w1 600 (by kernel_rfl) ?_;refine AU a3 ?_;exact⟨(i+1,a',_),⟨hR,hi,hP'⟩,(by dsimp only;omega),AJ (a:=hf)⟩
   ·rintro c2 H2 n2 (⟨h,-⟩|⟨h,hZ⟩) F2 hst
    ·cases h
    cases h;refine BN ?_;refine AL ?_;refine AC.weak ⟨[],H2,_⟩ AJ ?_;refine AC.ret ?_;exact⟨_,hst,trivial,.inr ⟨rfl,hZ⟩⟩
  ·replace hx:T[N-1-i]?=some (.agg [x1,x2,x3]):=hx
   refine AL ?_;refine An w1 400 (by kernel_rfl) ?_;refine AU (Av a4 a5 el) ?_;refine AC.seq ?_;refine bT w1 500 [0,1,2,3,4] 5 [6] rfl (by kernel_rfl) hR ?_;refine BN ?_;refine Bo kT hx ?_;refine And.intro ⟨rfl,trivial⟩ ?_;refine BN ?_;refine⟨rfl,_,hy _,?_,?_⟩
   ·rintro H2 n2 (⟨_,a',hP',hf⟩|⟨h,-⟩)
    rotate_left
    ·cases h
    refine And.intro (by exact Bz) ?_;refine At ?_;refine AL ?_;refine Am ?_;refine An w1 600 (by kernel_rfl) ?_;refine AU a3 ?_;exact⟨(i+1,a',_),⟨hR,hi,hP'⟩,(by dsimp only;omega),AJ (a:=hf)⟩
   ·rintro c2 H2 n2 (⟨h,-⟩|⟨h,hZ⟩) F2 hst
    ·cases h
    cases h;refine BN ?_;refine AL ?_;refine AC.weak ⟨[],H2,_⟩ AJ ?_;refine AC.ret ?_;exact⟨_,hst,trivial,.inr ⟨rfl,hZ⟩⟩
 ·have hi:i=N:=by
   have:=DA h8
   omega
  subst hi;refine B5 ?_;exact⟨none,hR.stat,trivial,.inl ⟨rfl,a,hP,rfl⟩⟩
def AF.w (x:AF)(m:Int):AF:=⟨x.grain,m,x.shs⟩
def EX:List AF->Int->List AF
 | [],_=>[]
 |x::r,m=>x.w (min x.mass m)::if m-x.mass<=0 then[]else EX r (m-x.mass)
def Gv (g1:Nat)(p:List AF×Int×Nat):Hp:=DZ 408 p.2.2 27 3 (p.1.map AF.D)++[⟨100,g1,22,1,[Dg 408 p.2.2 3 (p.1.map AF.D)]⟩,⟨0,0,3,1,[i64 p.2.1]⟩]
theorem Xd (g1:Nat)(m:Int)(g:Nat):Gv g1 ([],m,g)=[⟨100,g1,22,1,[CD]⟩,⟨0,0,3,1,[i64 m]⟩]:=rfl
theorem Rt (g1:Nat)(z:AF)(o:List AF)(m:Int)(g:Nat):Gv g1 (z::o,m,g)=[⟨408,g,27,3,z.D::o.map AF.D⟩,⟨100,g1,22,1,[.osl 408 g 3 0 ((o.map AF.D).length+1)]⟩,⟨0,0,3,1,[i64 m]⟩]:=rfl
def OU (L:List AF)(m:Int)(k:Nat)(p:List AF×Int×Nat):Prop:=p.1.length=k/\p.1++EX (L.drop k) p.2.1=EX L m/\0<=p.2.1/\p.2.1<=1000000000000
def IS (bk:Bool)(l:List AF):List AF:=if bk then l.reverse else l
theorem rC (bk:Bool)(l:List AF){k:Nat}(hk:k<l.length):(l.map AF.D)[if bk then(l.map AF.D).length-1-k else k]?=((IS bk l)[k]?).map AF.D:=by
 unfold IS;rw[Ap,BI];cases bk
 ·rfl
 ·simp only[if_true]
  rw[List.getElem?_reverse hk]
theorem SU (b bk:Bool)(l:List AF)(m:Int)(hl:l.length<=1000000)(hm:0<=m/\m<=1000000000000)(hx:∀x∈l,0<=x.mass/\x.mass<=1000000000)
  (ho:∀x∈l,∀m,AK C0 63 [x.D,i64 m] (x.w m).D) (R:D) [pR:AA R] (hN:AK C0 84 [Ai false (EX (IS bk l) m)] R):
  AK C0 91 [Ai b l,i64 m,Au bk] R:=by
 refine Ak.walk w1 aV rfl λF=>?_
 have cV:=Ru b bk (l.map AF.D);have hT:∀x∈l.map AF.D,∃a c d,x=.agg [a,c,d]:=λx hx=>by
  obtain⟨y,-,rfl⟩:=List.mem_map.1 hx;exact⟨_,_,_,rfl⟩
 have hoL:∀k,k<l.length->∃x,x∈l/\(IS bk l)[k]?=some x:=λk hk=>by
  unfold IS;cases bk
  ·exact⟨_,List.getElem_mem hk,BH hk⟩
  ·simp only[if_true]
   rw[List.getElem?_reverse hk]
   have:l.length-1-k<l.length:=by omega
   exact⟨_,List.getElem_mem this,BH this⟩
 have hlen:(IS bk l).length=l.length:=by unfold IS;cases bk<;>simp
 obtain⟨L,hL⟩:∃L,IS bk l=L:=⟨_,rfl⟩
 have hoA:=λk (hk:k<l.length)=>rC bk l hk
 rw[hL]at hoL hoA hN hlen;unfold Ai;obtain⟨T,hTT⟩:∃T,l.map AF.D=T:=⟨_,rfl⟩
 have pT:AA (.sl b 3 T):=by rw[<-hTT];exact AI
 have hTl:T.length=l.length:=by rw[<-hTT,Ap]
 rw[hTT]at cV hT hoA⊢;refine sR 0 ?_;refine sR 100 ?_;refine AC.seq ?_;refine sR 200 ?_;refine cI cV ?_;refine AC.block ?_;have h0:OU L m 0 ([],m,0):=⟨rfl,rfl,hm⟩
 refine AC.rangeFunc (fi:=185) (first:=[]) (captured:=[.pptr (.sl b 3 T),.pptr (Au bk)]) (Ψ:=λj _ H' _=>(j=none/\∃a,OU L m T.length a/\H'=Gv 2 a)\/(j=some (.exit 0)/\∃m' g,H'=Gv 2 (EX L m,m',g))) rfl
  (λds H n Φ=>∃k a x,OU L m k a/\k<T.length/\T[if bk then T.length-1-k else k]?=some x/\ds=[x]/\H=Gv 2 a/\Φ=λj H' _=>(j=none/\∃a',OU L m (k+1) a'/\CU H' (Gv 2 a') H' (Gv 2 a'))\/(j=some (.exit 0)/\∃m' g,H'=Gv 2 (EX L m,m',g))) ?_
  (λE l' R' hE hY=>Ta hE b bk T hT (by omega) (λ_ a=>Gv 2 a) (OU L m) (.exit 0) (λH'=>∃m' g,H'=Gv 2 (EX L m,m',g)) ([],m,0) h0 _ λk a x n hP hk hx=>hY _ _ _ _ ⟨k,a,x,hP,hk,hx,rfl,rfl,rfl⟩) ?_
 ·rintro l' ds H n Φ ⟨k,⟨o,m',g⟩,x,⟨p1,p2,p3,p4⟩,hk,hxT,rfl,rfl,rfl⟩
  dsimp only at p1 p2 p3 p4;obtain⟨y,hy1,hy2⟩:=hoL k (by omega);rw[hoA k (by omega),hy2]at hxT;cases hxT;have hd:L.drop k=y::L.drop (k+1):=by
   have:=(List.getElem?_eq_some_iff.1 hy2)
   rw[D9 this.1,this.2]
  rw[hd]at p2;have hb:=hx y hy1;have cO:=ho y hy1 (min y.mass m');have p5:(o++[y.w (min y.mass m')])++(if m'-y.mass<=0 then[]else EX (L.drop (k+1)) (m'-y.mass))=EX L m:=by
   rw[<-p2,Dm];rfl
  have a1:IntKind.i64.wrap (m'-y.mass)=m'-y.mass:=wI (by omega) (by omega);refine⟨rfl,λF=>?_⟩;unfold AF.w AF.D at cO;unfold AF.D;dsimp only at cO⊢;obtain⟨SD,hSD⟩:∃d,CK false y.shs=d:=⟨_,rfl⟩
  have pS:AA SD:=by rw[<-hSD];exact AI
  rw[hSD]at cO⊢;rcases o with _|⟨z,o⟩
  ·rw[Xd]
   dsimp only[GE];refine An w1 300 (by kernel_rfl) ?_;refine AE kB ?_;refine⟨trivial,trivial,λF'=>?_⟩;refine AC.block ?_;refine AC.seq ?_;refine B3 w1 400 [0,1,2,3,4,5,6,7] [8,9] (by kernel_rfl) ?_;refine BN ?_;refine BT.same _ (cO) AI ?_;refine BN ?_;refine sZ 500 ?_;refine AU a1 ?_;refine sR 600 ?_;refine AC.weak ⟨[(27,Au (decide (m'-y.mass<=0)))],[⟨408,n+1+1+10,27,3,[.agg [str (sb y.grain),i64 (min y.mass m'),SD]]⟩,⟨100,2,22,1,[.osl 408 (n+1+1+10) 3 0 1]⟩,⟨0,0,3,1,[i64 (m'-y.mass)]⟩],_⟩ AJ ?_;rw[<-hSD]
   by_cases hz:m'-y.mass<=0
   ·rw[AY hz]
    rw[AH hz,DE]at p5;refine AL ?_;refine B5 ?_;refine .inr ⟨rfl,m'-y.mass,n+1+1+10,?_⟩;rw[<-p5];rfl
   ·rw[Ah hz]
    rw[AG hz]at p5;refine AL ?_;refine Am ?_;exact .inl ⟨rfl,([y.w (min y.mass m')],m'-y.mass,n+1+1+10),⟨by rw[<-p1];rfl,p5,by dsimp only;omega,by dsimp only;omega⟩,GX _⟩
  ·have wl:AA (.sl false 3 ((z::o).map AF.D)):=AI
   have hol:o.length<=1000000:=by rw[Bl]at p1;omega
   rw[Cd]at wl;rw[Rt];dsimp only[GE];obtain⟨O,hO⟩:∃O,o.map AF.D=O:=⟨_,rfl⟩
   obtain⟨zD,hzD⟩:∃O,z.D=O:=⟨_,rfl⟩
   have hOl:O.length=o.length:=by rw[<-hO,Ap]
   rw[hO,hzD];refine An w1 300 (by kernel_rfl) ?_;refine AE kB ?_;refine⟨trivial,trivial,λF'=>?_⟩;refine AC.block ?_;refine AC.seq ?_;refine B3 w1 400 [0,1,2,3,4,5,6,7] [8,9] (by kernel_rfl) ?_;refine BN ?_;refine BT.same _ (cO) AI ?_;refine BN ?_;rw[show List.take (O.length+1) (zD::O)=zD::O from DW (l:=zD::O)];refine sZ 500 ?_;refine AU a1 ?_;refine sR 600 ?_;refine AC.weak ⟨[(27,Au (decide (m'-y.mass<=0)))],[⟨408,n+1+1+10,27,3,zD::O++[.agg [str (sb y.grain),i64 (min y.mass m'),SD]]⟩,⟨100,2,22,1,[.osl 408 (n+1+1+10) 3 0 (O.length+1+1)]⟩,⟨0,0,3,1,[i64 (m'-y.mass)]⟩],_⟩ AJ ?_;have hs:∀g' mm,Gv 2 (z::o++[y.w (min y.mass m')],mm,g')=[⟨408,g',27,3,zD::O++[.agg [str (sb y.grain),i64 (min y.mass m'),SD]]⟩,⟨100,2,22,1,[.osl 408 g' 3 0 (O.length+1+1)]⟩,⟨0,0,3,1,[i64 mm]⟩]:=λg' mm=>by
    rw[ES,Rt,<-hO,<-hzD,<-hSD,Cu];rw[Bf];rfl
   rw[<-hs]
   by_cases hz:m'-y.mass<=0
   ·rw[AY hz]
    rw[AH hz,DE]at p5;refine AL ?_;refine B5 ?_;exact .inr ⟨rfl,m'-y.mass,n+1+1+10,by rw[<-p5];rfl⟩
   ·rw[Ah hz]
    rw[AG hz]at p5;refine AL ?_;refine Am ?_;exact .inl ⟨rfl,(z::o++[y.w (min y.mass m')],m'-y.mass,n+1+1+10),⟨by rw[<-p1];simp,p5,by dsimp only;omega,by dsimp only;omega⟩,GX _⟩
 ·rintro j d H' n' F' hE
  have hE2:∃m' g,H'=Gv 2 (EX L m,m',g)/\(j=none\/j=some (.exit 0)):=by
   rcases hE with⟨hj,⟨o,m',g⟩,⟨p1,p2,-,-⟩,rfl⟩|⟨hj,m',g,rfl⟩
   ·refine⟨m',g,?_,.inl hj⟩
    dsimp only at p2;rw[List.drop_eq_nil_of_le (by omega)]at p2;rw[show o=EX L m by rw[<-p2];exact(DE o).symm]
   ·exact⟨m',g,rfl,.inr hj⟩
  obtain⟨m',g,rfl,hj⟩:=hE2;obtain⟨o,hO⟩:∃o,EX L m=o:=⟨_,rfl⟩
  rw[hO]at hN⊢;rcases o with _|⟨z,o⟩
  ·rw[Xd]
   rcases hj with rfl|rfl
   all_goals
    change AC _ _ _ _ _ _ _;refine sR 700 ?_;refine A9.pure [.sl false 3 []] _ ⟨.nil 3,trivial⟩ hN AI ?_;refine BN ?_;refine Af ?_;exact AQ rfl pR.out
  ·have hR:=Fc (H:=Gv 2 (z::o,m',g)) (Hf:=[]) (k:=408) (g:=g) (T:=27) (sz:=3) (l:=(z::o).map AF.D) rfl
   have hle:((z::o).map AF.D).length=(o.map AF.D).length+1:=rfl;rw[hle]at hR;rw[Rt]at hR⊢;rcases hj with rfl|rfl
   all_goals
    change AC _ _ _ _ _ _ _;refine sR 700 ?_;refine A9.own _ (MP [] hN (.drop (.drop (.drop .nil))) ⟨hR,trivial⟩ AI) ?_;rintro d H2 n2 ⟨rfl,rfl,rfl⟩;refine BN ?_;refine Af ?_;exact AQ rfl pR.out
abbrev Ka:Dr:=[(6,[0,1,2,3,4,5,6,7],[8])]
abbrev Le:Dr:=[(6,[0,1,2,3,4,5,6,7,8,9,10,11,12,13,14,15,16,17,18,19,20,21],[22,23])]
open Go.Proofs Go.RowKit
set_option maxRecDepth 20000
set_option maxHeartbeats 4000000
def Gk (s t:As):Bool:=Bh (sb s.lot) (sb t.lot)&&Bh (sb s.part) (sb t.part)
def Gi:List As->List As->Bool
 | [],[]=>true
 |s::S,t::T=>Gk s t&&Gi S T
 |_,_=>false
theorem Rp:∀ {S T:List As},S.length≠T.length->Gi S T=false
 | [],[],h=>Aj rfl h
 | [],_::_,_=>rfl
 |_::_,[],_=>rfl
 |s::S,t::T,h=>by
  show(Gk s t&&Gi S T)=false;rw[Rp (S:=S) (T:=T) λq=>h (congrArg (· + 1) q),Bool.and_false]
theorem LV:∀ {S T:List As} {i:Nat} {s t:As},S[i]?=some s->T[i]?=some t->Gk s t=false->Gi S T=false
 |s::S,t::T,0,_,_,h1,h2,h=>by
  cases h1;cases h2;show(Gk s t&&Gi S T)=false;rw[h,KG]
 |s::S,t::T,i+1,_,_,h1,h2,h=>by
  show(Gk s t&&Gi S T)=false;rw[LV (S:=S) (T:=T) (i:=i) h1 h2 h,Bool.and_false]
theorem Ro:∀ {S T:List As},S.length=T.length->(∀(i:Nat) (s t:As),S[i]?=some s->T[i]?=some t->Gk s t=true)->Gi S T=true
 | [],[],_,_=>rfl
 | [],_::_,h,_=>by cases h
 |_::_,[],h,_=>by cases h
 |s::S,t::T,h,k=>by
  show(Gk s t&&Gi S T)=true;rw[k 0 s t rfl rfl,Ro (S:=S) (T:=T) (Nat.succ.inj h) λi s t h1 h2=>k (i+1) s t h1 h2];rfl
theorem jP (b1 b2:Bool)(S T:List As)(hS:S.length<=1000000)(hT:T.length<=1000000):AK C0 181 [CK b1 S,CK b2 T] (Au (Gi S T)):=by
 refine Ak.walk w1 Yz rfl λF=>?_
 have e1:(((S.map As.D).length:Nat):Int)=(S.length:Int):=by rw[Ap]
 have e2:(((T.map As.D).length:Nat):Int)=(T.length:Int):=by rw[Ap]
 by_cases hl:S.length=T.length
 rotate_left
 ·have hne:((S.length:Int) != (T.length:Int))=true:=bne_iff_ne.2 (by omega)
  rw[Rp hl];refine AN Ka (Av e1 e2 hne) AB AB AB AB AB AB ?_;exact AQ rfl AA.out
 have hne:((S.length:Int) != (T.length:Int))=false:=by rw[hl];exact bne_self_eq_false _
 refine AN Ka (Av e1 e2 hne) AB AB AB AB AB AB ?_;refine AC.loop (α:=Nat×Nat) (λp=>⟨[(0,CK b1 S),(1,CK b2 T),(12,i64 (S.length:Int)),(13,i64 (p.1:Int))],[],p.2⟩) (λp=>S.length-p.1) (λq=>q.1<=S.length/\∀(j:Nat) (s t:As),j<q.1->S[j]?=some s->T[j]?=some t->Gk s t=true) (0,_) ⟨BS _,λj _ _ h=>Aj h (HM j)⟩ AJ ?_;rintro⟨i,n⟩ F ⟨hi,ha⟩;dsimp only at hi ha⊢;rcases BL i S.length with h2|h2
 rotate_left
 ·have k1:=Cm h2
  rw[Ro hl λj s t h1 h3=>ha j s t (by have:=(List.getElem?_eq_some_iff.1 h1).1;omega) h1 h3];refine AN Ka k1 AB AB AB AB AB AB ?_;exact AQ rfl AA.out
 have k1:=Cn h2;have wi:=Cp (i:=i) (by omega);obtain⟨x,hx⟩:=CO h2;obtain⟨y,hy⟩:=CO (show i<T.length by omega);have hm:(S.map As.D)[i]?=some (.agg [str (sb x.lot),str (sb x.part)]):=by rw[BI,hx];rfl
 have hm2:(T.map As.D)[i]?=some (.agg [str (sb y.lot),str (sb y.part)]):=by rw[BI,hy];rfl
 obtain⟨q1,c1⟩:∃q,Bh (sb x.lot) (sb y.lot)=q:=⟨_,rfl⟩
 obtain⟨q2,c2⟩:∃q,Bh (sb x.part) (sb y.part)=q:=⟨_,rfl⟩
 have hsh:Gk x y=(q1&&q2):=by unfold Gk;rw[c1,c2]
 have b1':(!(true&&(true&&true)))=false:=rfl;have b2':(!(true&&(false&&true)))=true:=rfl;have b3':(!(false&&(true&&true)))=true:=rfl;have b4':(!(false&&(false&&true)))=true:=rfl;cases q1<;>cases q2
 ·rw[LV hx hy hsh]
  refine AN Ka (Cj k1 wi c1 c2 b1' b2' (Av b3' b4' kN)) hm hm2 AB AB AB AB ?_;exact AQ rfl AA.out
 ·rw[LV hx hy hsh]
  refine AN Ka (Cj k1 wi c1 c2 b1' b2' (Av b3' b4' kN)) hm hm2 AB AB AB AB ?_;exact AQ rfl AA.out
 ·rw[LV hx hy hsh]
  refine AN Ka (Cj k1 wi c1 c2 b1' b2' (Av b3' b4' kN)) hm hm2 AB AB AB AB ?_;exact AQ rfl AA.out
 ·refine AN Ka (Cj k1 wi c1 c2 b1' b2' (Av b3' b4' kN)) hm hm2 AB AB AB AB ?_
  refine⟨(i+1,_),⟨h2,λj s t hj h1 h3=>?_⟩,by dsimp only;omega,AJ⟩;rcases BL j i with h|h
  ·exact ha j s t h h1 h3
  ·have:j=i:=by dsimp only at hj;omega
   subst this;rw[hx]at h1;rw[hy]at h3;cases h1;cases h3;exact hsh
def IN (x y:AF):Bool:=Bh (sb x.grain) (sb y.grain)&&Gi x.shs y.shs
theorem lH (x y:AF)(hx:x.shs.length<=1000000)(hy:y.shs.length<=1000000):AK C0 134 [x.D,y.D] (Au (IN x y)):=by
 refine Ak.walk w1 Yj rfl λF=>?_
 have c:=jP false false x.shs y.shs hx hy;obtain⟨q,hq⟩:∃q,Bh (sb x.grain) (sb y.grain)=q:=⟨_,rfl⟩
 have hb:IN x y=(q&&Gi x.shs y.shs):=by unfold IN;rw[hq]
 rw[hb];unfold AF.D;unfold CK at c⊢;obtain⟨S,hS⟩:∃S,x.shs.map As.D=S:=⟨_,rfl⟩
 have pS:AA (.sl false 2 S):=by rw[<-hS];exact AI
 obtain⟨T,hT⟩:∃S,y.shs.map As.D=S:=⟨_,rfl⟩
 have pT:AA (.sl false 2 T):=by rw[<-hT];exact AI
 rw[hS,hT]at c⊢;cases q
 ·refine AN Ac (Av hq kT kF) c AB AB AB AB AB ?_
  exact AQ rfl AA.out
 ·refine AN Ac (Av hq kT kF) c AB AB AB AB AB ?_
  exact AQ rfl AA.out
theorem kn (b1 b2:Bool)(S T:List As)(hS:S.length<=1000000)(hT:T.length<=1000000):AK C0 52 [CK b1 S,CK b2 T] (Au (Gi S T)):=by
 refine Ak.walk w1 TH rfl λF=>?_
 have e1:(((S.map As.D).length:Nat):Int)=(S.length:Int):=by rw[Ap]
 have e2:(((T.map As.D).length:Nat):Int)=(T.length:Int):=by rw[Ap]
 by_cases hl:S.length=T.length
 rotate_left
 ·have hne:((S.length:Int) != (T.length:Int))=true:=bne_iff_ne.2 (by omega)
  rw[Rp hl];refine AN Le (Av e1 e2 hne) AB AB AB AB AB AB ?_;exact AQ rfl AA.out
 have hne:((S.length:Int) != (T.length:Int))=false:=by rw[hl];exact bne_self_eq_false _
 refine AN Le (Av e1 e2 hne) AB AB AB AB AB AB ?_;refine AC.loop (α:=Nat×Nat) (λp=>⟨[(0,CK b1 S),(1,CK b2 T),(5,i64 (p.1:Int))],[],p.2⟩) (λp=>S.length-p.1) (λq=>q.1<=S.length/\∀(j:Nat) (s t:As),j<q.1->S[j]?=some s->T[j]?=some t->Gk s t=true) (0,_) ⟨BS _,λj _ _ h=>Aj h (HM j)⟩ AJ ?_;rintro⟨i,n⟩ F ⟨hi,ha⟩;dsimp only at hi ha⊢;rcases BL i S.length with h2|h2
 rotate_left
 ·have k1:=Cm h2
  rw[Ro hl λj s t h1 h3=>ha j s t (by have:=(List.getElem?_eq_some_iff.1 h1).1;omega) h1 h3];refine AN Le (Ae e1 k1) AB AB AB AB AB AB ?_;exact AQ rfl AA.out
 have k1:=Cn h2;have wi:=Cp (i:=i) (by omega);obtain⟨x,hx⟩:=CO h2;obtain⟨y,hy⟩:=CO (show i<T.length by omega);have hm:(S.map As.D)[i]?=some (.agg [str (sb x.lot),str (sb x.part)]):=by rw[BI,hx];rfl
 have hm2:(T.map As.D)[i]?=some (.agg [str (sb y.lot),str (sb y.part)]):=by rw[BI,hy];rfl
 obtain⟨q1,c1⟩:∃q,Bh (sb x.lot) (sb y.lot)=q:=⟨_,rfl⟩
 obtain⟨q2,c2⟩:∃q,Bh (sb x.part) (sb y.part)=q:=⟨_,rfl⟩
 have hsh:Gk x y=(q1&&q2):=by unfold Gk;rw[c1,c2]
 cases q1
 ·rw[LV hx hy hsh]
  refine AN Le (Cj e1 k1 wi c1 kN kT kF) hm hm2 AB AB AB AB ?_;exact AQ rfl AA.out
 cases q2
 ·rw[LV hx hy hsh]
  refine AN Le (Cj e1 k1 wi c1 c2 kN (Ae kT kF)) hm hm2 AB AB AB AB ?_;exact AQ rfl AA.out
 ·refine AN Le (Cj e1 k1 wi c1 c2 kN (Ae kT kF)) hm hm2 AB AB AB AB ?_
  refine⟨(i+1,_),⟨h2,λj s t hj h1 h3=>?_⟩,by dsimp only;omega,AJ⟩;rcases BL j i with h|h
  ·exact ha j s t h h1 h3
  ·have:j=i:=by dsimp only at hj;omega
   subst this;rw[hx]at h1;rw[hy]at h3;cases h1;cases h3;exact hsh
theorem l8 (x y:AF)(hx:x.shs.length<=1000000)(hy:y.shs.length<=1000000):AK C0 68 [x.D,y.D] (Au (IN x y)):=by
 refine Ak.walk w1 TK rfl λF=>?_
 have c:=kn false false x.shs y.shs hx hy;obtain⟨q,hq⟩:∃q,Bh (sb x.grain) (sb y.grain)=q:=⟨_,rfl⟩
 have hb:IN x y=(q&&Gi x.shs y.shs):=by unfold IN;rw[hq]
 rw[hb];unfold AF.D;unfold CK at c⊢;obtain⟨S,hS⟩:∃S,x.shs.map As.D=S:=⟨_,rfl⟩
 have pS:AA (.sl false 2 S):=by rw[<-hS];exact AI
 obtain⟨T,hT⟩:∃S,y.shs.map As.D=S:=⟨_,rfl⟩
 have pT:AA (.sl false 2 T):=by rw[<-hT];exact AI
 rw[hS,hT]at c⊢;cases q
 ·refine AN Ac (Av hq kT kF) c AB AB AB AB AB ?_
  exact AQ rfl AA.out
 ·refine AN Ac (Av hq kT kF) c AB AB AB AB AB ?_
  exact AQ rfl AA.out
def QQ (H:Hp)(env:Ar):Ar->Prop
 | []=>True
 |(t,d)::r=>Cw H (env.get t) d/\QQ H env r
theorem QQ.get {H:Hp}{env:Ar}:∀ {env':Ar},QQ H env env'->∀t,Cw H (env.get t) (env'.get t)
 | [],_,t=>λ_ _ _ _ _ _ _ v _=>.any v
 |(k,d)::r,h,t=>by
  simp only[Ar.get];cases hb:Nat.beq k t with
  |true=>
   have:=B0 hb
   subst this;exact h.1
  |false=>exact h.2.get t
theorem Tu {C:A8}{B F:Aa}{rd:Option Nat}{c:Code}{s:St}{Q:Exit->Aa->St->Prop}(env':Ar)(he:QQ s.H s.env env')(h:AC C B rd F c ⟨env',[],s.n⟩ Q):AC C B rd F c s Q:=⟨λhB hd ρ a w hs=>by
 have hH:CU s.H [] s.H []:=by
  generalize s.H=H0
  have:∀H1:Hp,CU H0 [] H1 []:=λH1=>by
   induction H1 with
   |nil=>exact .nil
   |cons e r ih=>exact .drop ih
  exact this H0
 obtain⟨m,hO,hN⟩:=hH.mem hs.mem;exact h.out hB hd ρ a w ⟨m,hs.fresh,by simp,λt=>he.get t _ _ _ _ hs.mem hO (λe he b hb=>hN e he b hb rfl) _ (hs.env t),hs.nt,hs.dfr⟩⟩
theorem Sh (B:D)[pB:AA B][pC:Al B](hB:∃a b c d e,B=.agg [a,b,c,d,e])(b:Bool)(ls:List D)[pL:AA (.sl b 1 ls)](i:Nat)(x:Int)(hx:ls[i]?=some (i64 x))(R:D)[pR:AA R](m:Int)
  (cB:AK C0 77 [.sl b 1 ls,i64 (i:Int),.clo (.func 131) [] [.pptr (.sl b 1 ls),.pptr (i64 (i:Int)),.pptr B]] R)
  (cL:AK C0 76 [i64 x,R] (i64 m)):AK C0 74 [B,.sl b 1 ls,i64 (i:Int)] (i64 m):=by
 refine Ak.walk w1 aR rfl λF=>?_
 obtain⟨a1,a2,a3,a4,a5,rfl⟩:=hB;refine sR 0 ?_;refine AC.seq ?_;refine Tu [(3,.pptr (.agg [a1,a2,a3,a4,a5])),(4,.pptr (.sl b 1 ls)),(5,.pptr (i64 (i:Int)))] ⟨.ptr rfl rfl rfl rfl,.ptr rfl rfl rfl rfl,.ptr rfl rfl rfl rfl,trivial⟩ ?_;refine B3 w1 100 [0,1,2,3,4,5,6,7] [8,9] (by kernel_rfl) ?_;refine BN ?_;refine Bo kT hx ?_;refine AE kB ?_;refine BT.same _ (cB) AI ?_;refine BN ?_;refine cI cL ?_;refine Af ?_;exact AQ rfl AA.out
theorem kr (B:D)[pB:AA B][pC:Al B](a1 a2 a4 a5:D)(room:Int)(hB:B=.agg [a1,a2,i64 room,a4,a5])(ls:List D)[pL:AA (.sl false 1 ls)](i:Nat)(x:Int)(hx:ls[i]?=some (i64 x))(R:D)[pR:AA R](m:Int)
  (cC:AK C0 73 [B,.sl true 1 [i64 (i:Int)]] (i64 0)) (cV:AK C0 75 [B] (.sl false 1 ls))
  (cB:AK C0 77 [.sl false 1 ls,i64 (i:Int),.clo (.func 78) [] [.pptr B,.pptr (.sl false 1 ls),.pptr (i64 (i:Int))]] R) (r:Int) (hr:IntKind.i64.wrap (room-x)=r)
  (cL:AK C0 76 [i64 r,R] (i64 m)):AK C0 25 [B,i64 (i:Int)] (.tup [i64 m,i64 0]):=by
 refine Ak.walk w1 Z5 rfl λF=>?_
 have e0:((0:Int) != 0)=false:=rfl;subst hB;refine sR 0 ?_;refine AC.seq ?_;refine sR 100 ?_;refine cI cC ?_;refine sZ 200 ?_;refine AU e0 ?_;refine AL ?_;refine Am ?_;refine sR 400 ?_;refine cI cV ?_;refine AC.seq ?_;refine Tu [(2,.pptr (.agg [a1,a2,i64 room,a4,a5])),(3,.pptr (i64 (i:Int))),(7,.pptr (.sl false 1 ls))] ⟨.ptr rfl rfl rfl rfl,.ptr rfl rfl rfl rfl,.ptr rfl rfl rfl rfl,trivial⟩ ?_;refine B3 w1 500 [0,1,2,3,4,5,6,7,8,9,10] [11,12,13] (by kernel_rfl) ?_;refine BN ?_;refine Bo kT hx ?_;refine AE hr ?_;refine BT.same _ (cB) AI ?_;refine BN ?_;refine cI cL ?_;refine Af ?_;exact AQ rfl AA.out
abbrev DN (l:List Int):List D:=l.map λx=>i64 x
theorem eK (a1 a2 a3 a4:D)[AA a1][AA a2][AA a3][AA a4](b:Bool)(cs:List D)[pc:AA (.sl b 1 cs)](ls:List Int)(hlen:ls.length=cs.length)(h0:cs≠[])(hl:cs.length<=1000000)
  (hc:∀(i:Nat) (c:D) (m:Int),cs[i]?=some c->ls[i]?=some m->AK C0 59 [c] (i64 m)) (hp:∀c∈cs,∃bb l,c=.sl bb 3 l/\AA c) (g0:Nat) (x:D) (n:Nat):
  CS C0 75 [.agg [a1,a2,a3,a4,.sl b 1 cs]] [⟨0,g0,48,5,[x]⟩] n (λd H' _=>∃g,d=.osl 504 g 1 0 ls.length/\H'=[⟨504,g,3,1,DN ls⟩,⟨0,g0,48,5,[x]⟩]):=by
 refine CS.walk w1 aS rfl λF=>?_
 refine AN Ac kB AB AB AB AB AB AB ?_;refine AC.loop (α:=Nat×Nat×Nat) (λp=>⟨[(3,Dg 504 p.2.1 1 (DN (ls.take p.1))),(7,.sl b 1 cs),(8,i64 (cs.length:Int)),(9,i64 (p.1:Int))],DZ 504 p.2.1 3 1 (DN (ls.take p.1))++[⟨0,g0,48,5,[x]⟩],p.2.2⟩) (λp=>cs.length-p.1) (λq=>q.1<=cs.length) (0,0,_) (BS _) AJ ?_;rintro⟨i,g,n⟩ F hi;dsimp only at hi⊢;rcases BL i cs.length with h2|h2
 rotate_left
 ·have e1:=Cm h2
  have hi2:i=cs.length:=by omega
  rw[B4 (by omega:ls.length<=i)];have hls:ls≠[]:=λh=>h0 (ER (by rw[<-hlen,h];rfl))
  obtain⟨z,r,rfl⟩:∃z r,ls=z::r:=by
   cases ls with
   |nil=>exact Aj rfl hls
   |cons z r=>exact⟨z,r,rfl⟩
  rw[show DN (z::r)=i64 z::DN r from rfl,G1,G3,ES,Fy];refine AN Ac e1 AB AB AB AB AB AB ?_;exact⟨_,by rw[Ap],rfl⟩
 have e1:=Cn h2;have wi:=Cp (i:=i) (by omega);obtain⟨c,hm⟩:=CO h2;obtain⟨m,hm2⟩:=CO (show i<ls.length by omega);obtain⟨bb,cl,rfl,pcl⟩:=hp c (BE hm);have cT:=hc i _ m hm hm2;have ht:ls.take (i+1)=ls.take i++[m]:=by rw[EB,hm2];rfl
 obtain⟨R,hR⟩:∃R,ls.take i=R:=⟨_,rfl⟩
 rw[hR]at ht⊢;rcases R with _|⟨z,R⟩
 ·rw[show DN []=[]from rfl,IE,IF,Fy]
  refine AN Ac (Av e1 wi kN) hm cT AB AB AB AB ?_;refine⟨(i+1,n+1+1+1+1+1+1+1+1,n+1+1+1+1+1+1+1+1+1+1+1+1),h2,by dsimp only;omega,?_⟩;dsimp only;rw[ht];exact AJ
 ·rw[show DN (z::R)=i64 z::DN R from rfl,G1,G3,ES,Fy]
  obtain⟨O,hO⟩:∃O,DN R=O:=⟨_,rfl⟩
  have hOl:O.length+1=i:=by
   rw[<-hO,Ap]
   have:(z::R).length=i:=by rw[<-hR,Bj];omega
   exact this
  rw[hO];refine AN Ac (Av e1 wi kN) hm cT AB AB AB AB ?_;refine⟨(i+1,n+1+1+1+1+1+1+1+1,n+1+1+1+1+1+1+1+1+1+1+1+1),h2,by dsimp only;omega,?_⟩;dsimp only;rw[ht,show DN (z::R++[m])=i64 z::O++[i64 m]from by rw[<-hO];unfold DN;rw[Cu];rfl];rw[ES,G1,G3,Bf];rw[show List.take (O.length+1) (i64 z::O)=i64 z::O from DW (l:=i64 z::O)];exact AJ
def Ns (k g sz:Nat)(env:Ar):Ar->Prop
 | []=>True
 |(t,d)::r=>(d=env.get t\/(env.get t=CD/\d=.osl k g sz 0 0))/\Ns k g sz env r
theorem Ns.get {k g sz:Nat}{env:Ar}:∀ {env':Ar},Ns k g sz env env'->∀t,env'.get t=.any\/env'.get t=env.get t\/(env.get t=CD/\env'.get t=.osl k g sz 0 0)
 | [],_,t=>.inl rfl
 |(q,d)::r,h,t=>by
  rw[Hv]
  by_cases hk:q=t
  ·subst hk;rw[AH rfl];exact .inr h.1
  ·rw[AG hk];exact Ns.get h.2 t
theorem AC.ghost {C:A8}{B F:Aa}{rd:Option Nat}{c:Code}{s:St}{Q:Exit->Aa->St->Prop}(k T sz:Nat)(env':Ar)(he:Ns k s.n sz s.env env')(h:AC C B rd F c ⟨env',⟨k,s.n,T,sz,[]⟩::s.H,s.n+1⟩ Q):AC C B rd F c s Q:=⟨λhB hd ρ a w hs=>by
 obtain⟨m1,hO⟩:=hs.mem.ghost (k:=k) (n:=s.n) (T:=T) (sz:=sz) (hs.fresh k _ (Ad _));refine h.out hB hd ρ a w ⟨m1,λk g hg=>hs.fresh k g (by dsimp only at hg;omega),λe he=>?_,λt=>?_,hs.nt,hs.dfr⟩
 ·rcases BA.1 he with rfl|he
  ·exact Gs _
  ·exact Cz (hs.gen e he)
 ·have hr:=hs.env t
  dsimp only;rw[hO];rcases he.get t with h|h|⟨h1,h2⟩
  ·rw[h];exact .any _
  ·rw[h];exact hr
  ·rw[h2]
   rw[h1]at hr;generalize a.tmps.getD t undef=v at hr⊢;cases hr;exact .onil _ _ _⟩
def H7 (l:List Int):Nat->Nat
 | 0=>0
 |k+1=>if l.getD (H7 l k) 0<l.getD k 0 then k else H7 l k
def FH (l:List Int):Nat:=H7 l l.length
theorem Si {l:List Int}(h:0<l.length):∀k,k<=l.length->H7 l k<l.length
 | 0,_=>h
 |k+1,hk=>by
  unfold H7;split
  ·omega
  ·exact Si h k (by omega)
def KI (mf:List Int->Int):Nat->List Int->List (Nat×Int)->List (Nat×Int)×Int
 | 0,_,_=>([],19)
 |k+1,l,out=>if l.getD (FH l) 0=0 then(out,0)else if mf l=0 then([],7)else if out.length=256 then([],19)else KI mf k (l.set (FH l) (l.getD (FH l) 0-mf l)) (out++[(FH l,mf l)])
def JM (p:Nat×Int):D:=.agg [i64 (p.1:Int),i64 p.2]
instance  (p:Nat×Int):Al (JM p):=by unfold JM;exact AI
instance  (p:Nat×Int):AA (JM p):=by unfold JM;exact AI
theorem TT {l:List Int}{i:Nat}(h:i<l.length):(DN l)[i]?=some (i64 (l.getD i 0)):=by
 rw[BI,E2,BH h];rfl
theorem jo (a1 a2 a3 a4:D)[AA a1][AA a2][AA a3][AA a4](b:Bool)(cs:List D)[pc:AA (.sl b 1 cs)](ls:List Int)(hlen:ls.length=cs.length)(h0:cs≠[])(hl:cs.length<=1000000)
  (hc:∀(i:Nat) (c:D) (m:Int),cs[i]?=some c->ls[i]?=some m->AK C0 59 [c] (i64 m)) (hp:∀c∈cs,∃bb l,c=.sl bb 3 l/\AA c)
  (cK:AK C0 32 [.agg [a1,a2,a3,a4,.sl b 1 cs]] (i64 0))
  (mf:List Int->Int) (I:List Int->Prop) (hI0:I ls) (hI:∀l,I l->l.getD (FH l) 0≠0->AK C0 74 [.agg [a1,a2,a3,a4,.sl b 1 cs],.sl false 1 (DN l),i64 ((FH l:Nat):Int)] (i64 (mf l))/\IntKind.i64.wrap (l.getD (FH l) 0-mf l)=l.getD (FH l) 0-mf l/\I (l.set (FH l) (l.getD (FH l) 0-mf l))):
  AK C0 51 [.agg [a1,a2,a3,a4,.sl b 1 cs]] (.tup [.sl false 2 ((KI mf 257 ls []).1.map JM),i64 (KI mf 257 ls []).2]):=by
 refine Ak.walk w1 aH rfl λF=>?_
 have e0:((0:Int) != 0)=false:=rfl;have cL:=λn=>eK a1 a2 a3 a4 b cs ls hlen h0 hl hc hp 0 (.agg [a1,a2,a3,a4,.sl b 1 cs]) n
 refine AN Ac e0 cK AB AB AB AB AB ?_;refine A9.own _ (cL _) ?_;rintro d H' n' ⟨g,rfl,rfl⟩;refine AN Ac kB AB AB AB AB AB AB ?_;obtain⟨N,hN⟩:∃N,ls.length=N:=⟨_,rfl⟩
 have hN0:0<N:=by rw[<-hN,hlen];exact List.length_pos_iff.2 h0
 have hN1:N<=1000000:=by omega
 rw[hN];clear cL cK hc hp;refine AC.ghost 2005 91 2 [(1,.optr 0 0 5 0 0),(5,.osl 2005 _ 2 0 0),(6,.osl 504 g 1 0 N)] ⟨.inl rfl,.inr ⟨rfl,rfl⟩,.inl rfl,trivial⟩ ?_;refine AC.loop (α:=List Int×List (Nat×Int)×Nat×Nat) (λp=>⟨[(1,.optr 0 0 5 0 0),(5,.osl 2005 p.2.2.1 2 0 p.2.1.length),(6,.osl 504 g 1 0 N)],[⟨2005,p.2.2.1,91,2,p.2.1.map JM⟩,⟨504,g,3,1,DN p.1⟩,⟨0,0,48,5,[.agg [a1,a2,a3,a4,.sl b 1 cs]]⟩],p.2.2.2⟩) (λp=>257-p.2.1.length)
  (λp=>p.1.length=N/\I p.1/\p.2.1.length<=256/\KI mf (257-p.2.1.length) p.1 p.2.1=KI mf 257 ls []) (ls,[],_,_) ⟨hN,hI0,BS _,rfl⟩ AJ ?_
 rintro⟨l,out,go,n⟩ F ⟨hl1,hIl,ho,hR⟩;dsimp only at hl1 hIl ho hR⊢;obtain⟨OD,hOD⟩:∃O,out.map JM=O:=⟨_,rfl⟩
 have hODl:OD.length=out.length:=by rw[<-hOD,Ap]
 rw[hOD];obtain⟨L,hL⟩:∃L,DN l=L:=⟨_,rfl⟩
 have hLl:L.length=N:=by rw[<-hL,Ap,hl1]
 rw[hL];refine AN Ac kB AB AB AB AB AB AB ?_;refine AC.loop (α:=Nat×Nat) (λp=>⟨[(1,.optr 0 0 5 0 0),(5,.osl 2005 go 2 0 out.length),(6,.osl 504 g 1 0 N),(18,.osl 504 g 1 0 N),(19,i64 (N:Int)),(20,i64 (p.1:Int)),(7,i64 ((H7 l p.1:Nat):Int))],[⟨2005,go,91,2,OD⟩,⟨504,g,3,1,L⟩,⟨0,0,48,5,[.agg [a1,a2,a3,a4,.sl b 1 cs]]⟩],p.2⟩) (λp=>N-p.1) (λq=>q.1<=N) (0,_) (BS _) AJ ?_;rintro⟨k,n⟩ F hk;dsimp only at hk⊢;rcases BL k N with h2|h2
 ·have e1:=Cn h2
  have wi:=Cp (i:=k) (by omega);have hm:=TT (l:=l) (i:=k) (by omega);have hq:=Si (l:=l) (by omega) k (by omega);have hm2:=TT hq;obtain⟨u,hu⟩:∃u,l.getD k 0=u:=⟨_,rfl⟩
  obtain⟨v,hv⟩:∃v,l.getD (H7 l k) 0=v:=⟨_,rfl⟩
  have hs:H7 l (k+1)=if v<u then k else H7 l k:=by rw[<-hu,<-hv];rfl
  rw[hu]at hm;rw[hv]at hm2;obtain⟨q,hq2⟩:∃q,H7 l k=q:=⟨_,rfl⟩
  rw[hq2]at hm2 hs hq⊢;rw[hL]at hm hm2
  by_cases hlt:v<u
  ·have e2:decide (u>v)=true:=AY hlt
   rw[AH hlt]at hs;refine AN Ac (Cj e1 e2 wi kN BR hm hm2) AB AB AB AB AB AB ?_;refine⟨(k+1,n+1000),h2,by dsimp only;omega,?_⟩;dsimp only;rw[hs];exact AJ
  ·have e2:decide (u>v)=false:=Ah hlt
   rw[AG hlt]at hs;refine AN Ac (Cj e1 e2 wi kN BR hm hm2) AB AB AB AB AB AB ?_;refine⟨(k+1,n+1000),h2,by dsimp only;omega,?_⟩;dsimp only;rw[hs];exact AJ
 have e1:=Cm h2
 have:k=N:=by omega
 subst this;have hq:=Si (l:=l) (by omega) k (by omega);have hm:=TT hq;have hmI:H7 l k=FH l:=by unfold FH;rw[hl1]
 rw[hmI]at hq hm⊢;have hIm:=hI l hIl;have hRs:KI mf (257-out.length) l out=if l.getD (FH l) 0=0 then(out,0)else if mf l=0 then([],7)else if out.length=256 then([],19)else KI mf (256-out.length) (l.set (FH l) (l.getD (FH l) 0-mf l)) (out++[(FH l,mf l)]):=by
  rw[show 257-out.length=(256-out.length)+1 by omega];rfl
 rw[hR]at hRs;obtain⟨q,hq2⟩:∃q,FH l=q:=⟨_,rfl⟩
 rw[hq2]at hq hm hIm hRs⊢;obtain⟨v,hv⟩:∃v,l.getD q 0=v:=⟨_,rfl⟩
 rw[hv]at hm hIm hRs;rw[hL]at hm
 by_cases hv0:v=0
 ·have e2:(v==0)=true:=by rw[hv0];rfl
  rw[AH hv0]at hRs;rw[hRs];refine AN Ac (Cv e1 e2 kN BR hm) AB AB AB AB AB AB ?_;have hf:=Fc (H:=[⟨2005,go,91,2,OD⟩,⟨504,g,3,1,L⟩,⟨0,0,48,5,[.agg [a1,a2,a3,a4,.sl b 1 cs]]⟩]) (Hf:=[]) (k:=2005) (g:=go) (T:=91) (sz:=2) (l:=OD) rfl;rw[hODl]at hf;rw[hOD];have pO:AA (.sl false 2 OD):=by rw[<-hOD];exact AI
  exact⟨_,Gb hf (.refl _),AA.out,rfl⟩
 rw[AG hv0]at hRs;have e2:(v==0)=false:=Bw.2 hv0;obtain⟨cM,wm,hI'⟩:=hIm hv0;obtain⟨m,hmm⟩:∃m,mf l=m:=⟨_,rfl⟩
 rw[hmm]at cM wm hI' hRs;have pL:AA (.sl false 1 (DN l)):=AI;rw[hL]at cM pL;have hfL:=Fc (H:=[⟨2005,go,91,2,OD⟩,⟨504,g,3,1,L⟩,⟨0,0,48,5,[.agg [a1,a2,a3,a4,.sl b 1 cs]]⟩]) (Hf:=[]) (k:=504) (g:=g) (T:=3) (sz:=1) (l:=L) rfl;rw[hLl]at hfL;refine AN Ac (Cv e1 e2 kN BR hm) AB AB AB AB AB AB ?_;refine A9.own _ (MR (H:=[⟨2005,go,91,2,OD⟩,⟨504,g,3,1,L⟩,⟨0,0,48,5,[.agg [a1,a2,a3,a4,.sl b 1 cs]]⟩]) cM rfl (λi a d h1 h2=>by
  match i with
  | 0=>cases h1;cases h2;exact .refl _ _
  | 1=>cases h1;cases h2;exact .of hfL
  | 2=>cases h1;cases h2;exact .refl _ _
  |n+3=>cases h1) AI (.prim _)) ?_
 rintro d H' n' ⟨rfl,rfl,rfl⟩
 by_cases hm0:m=0
 ·have e3:(m==0)=true:=by rw[hm0];rfl
  rw[AH hm0]at hRs;rw[hRs];refine AN Ac e3 AB AB AB AB AB AB ?_;exact⟨_,Gb (.nil 2) (.refl _),AA.out,rfl⟩
 rw[AG hm0]at hRs;have e3:(m==0)=false:=Bw.2 hm0
 by_cases h256:out.length=256
 ·have e4:((out.length:Int)==256)=true:=by rw[h256];rfl
  rw[AH h256]at hRs;rw[hRs];refine AN Ac (Ae e3 e4) AB AB AB AB AB AB ?_;exact⟨_,Gb (.nil 2) (.refl _),AA.out,rfl⟩
 rw[AG h256]at hRs;have e4:((out.length:Int)==256)=false:=Bw.2 (by omega);refine AN Ac (E5 e3 e4 wm kN BR hm) AB AB AB AB AB AB ?_;have hle:out.length<256:=by omega
 refine⟨(l.set q (v-m),out++[(q,m)],n+1+1+1+1+1+1+1+1+1+1+1+1+1+1+1+1+1+1+1+1+1,n+1000),⟨by rw[DT];exact hl1,?_,by rw[Bf];exact hle,?_⟩,?_,?_⟩
 ·exact hI'
 ·dsimp only
  rw[hRs,Bf];rw[show 257-(out.length+[(q,m)].length)=256-out.length by simp only[Bl,GM];omega]
 ·dsimp only
  rw[Bf];simp only[Bl,GM];omega
 ·dsimp only
  rw[Bf,Cu,hOD,B4 (show OD.length<=out.length by omega)];rw[show DN (l.set q (v-m))=L.set q (i64 (v-m))from by rw[<-hL];unfold DN;rw[List.map_set]];exact AJ
abbrev NE:Dr:=[(8,[0,1,2,3,4,5,6,7,8],[9,10,11]),(9,[0,1,2,3,4,5,6,7],[8,9,10,11])]
open Go.Proofs Go.RowKit
set_option maxRecDepth 20000
set_option maxHeartbeats 4000000
def D4 (out:List AF)(x:AF):List AF:=match out.getLast? with
 |some y=>if IN y x then out.dropLast++[y.w (y.mass+x.mass)]else out++[x]
 |none=>[x]
def Ch (l:List AF):List AF:=l.foldl D4 []
theorem il {l:List AF}{i:Nat}{x:AF}(h:l[i]?=some x):(l.take (i+1)).foldl D4 []=D4 ((l.take i).foldl D4 []) x:=by
 rw[EB,h];simp
theorem VM {R:List AF}{y x:AF}(h:R[R.length-1]?=some y):D4 R x=if IN y x then R.dropLast++[y.w (y.mass+x.mass)]else R++[x]:=by
 unfold D4;rw[List.getLast?_eq_getElem?,h]
theorem Wf {R:List AF}{y z:AF}(h:R[R.length-1]?=some y):R.set (R.length-1) z=R.dropLast++[z]:=by
 have hl:=(List.getElem?_eq_some_iff.1 h).1;rw[List.set_eq_take_append_cons_drop,AH hl,List.dropLast_eq_take];rw[show R.length-1+1=R.length by omega,Ia]
def Td (l:List AF)(i:Nat)(R:List AF):Prop:=R=(l.take i).foldl D4 []/\R.length<=i/\∀y∈R,0<=y.mass/\y.mass<=(i:Int)*1000000000/\y.shs.length<=1000000
def MG (i:Nat)(R:List AF):Prop:=R.length<=i/\∀y∈R,0<=y.mass/\y.mass<=(i:Int)*1000000000/\y.shs.length<=1000000
theorem RZ {i:Nat}{R:List AF}{x:AF}(hJ:MG i R)(hm:0<=x.mass/\x.mass<=1000000000/\x.shs.length<=1000000):MG (i+1) (D4 R x):=by
 obtain⟨h2,h3⟩:=hJ;refine⟨?_,?_⟩
 ·unfold D4
  split
  ·split
   ·rw[Bf,List.length_dropLast];simp;omega
   ·rw[Bf];simp;omega
  ·simp
 ·have hR:∀y∈R,0<=y.mass/\y.mass<=((i+1:Nat):Int)*1000000000/\y.shs.length<=1000000:=λy hy=>by
   obtain⟨a,b,c⟩:=h3 y hy;exact⟨a,by omega,c⟩
  have hxx:0<=x.mass/\x.mass<=((i+1:Nat):Int)*1000000000/\x.shs.length<=1000000:=⟨by omega,by omega,hm.2.2⟩
  intro z hz;unfold D4 at hz;split at hz
  ·rename_i y hy
   have hyR:=List.mem_of_getLast? hy;split at hz
   ·rcases List.mem_append.1 hz with hz|hz
    ·exact hR z ((List.dropLast_sublist R).subset hz)
    ·obtain rfl:=List.mem_singleton.1 hz
     obtain⟨a,b,c⟩:=h3 y hyR;refine⟨?_,?_,c⟩
     ·show 0<=y.mass+x.mass;omega
     ·show y.mass+x.mass<=_;omega
   ·rcases List.mem_append.1 hz with hz|hz
    ·exact hR z hz
    ·obtain rfl:=List.mem_singleton.1 hz;exact hxx
  ·obtain rfl:=List.mem_singleton.1 hz;exact hxx
theorem gi {l:List AF}{i:Nat}{R:List AF}{x:AF}(hJ:Td l i R)(hx:l[i]?=some x)(hm:1<=x.mass/\x.mass<=1000000000/\x.shs.length<=1000000):Td l (i+1) (D4 R x):=
 ⟨by rw[il hx,<-hJ.1],RZ hJ.2 ⟨by omega,hm.2⟩⟩
def CI (l:List AF):List AF:=l.filter λx=>x.mass != 0
theorem XR {l:List AF}{i:Nat}{x:AF}(h:l[i]?=some x)(hx:x.mass≠0):CI (l.take (i+1))=CI (l.take i)++[x]:=by
 unfold CI;rw[EB,h,List.filter_append]
 have:(x.mass != 0)=true:=by unfold bne;rw[Bw.2 hx];rfl
 rw[show(some x).toList=[x]from rfl,List.filter_cons,AH this];rfl
theorem XQ {l:List AF}{i:Nat}{x:AF}(h:l[i]?=some x)(hx:x.mass=0):CI (l.take (i+1))=CI (l.take i):=by
 unfold CI;rw[EB,h,List.filter_append]
 have:¬(x.mass != 0)=true:=by rw[hx];decide
 rw[show(some x).toList=[x]from rfl,List.filter_cons,AG this];simp
theorem qQ {l:List AF}(h:∀x∈l,1<=x.mass):CI l=l:=List.filter_eq_self.2 λx hx=>by
 have:=h x hx
 unfold bne;rw[Bw.2 (by omega)];rfl
theorem Rw (b:Bool)(l:List AF)(hl:l.length<=1000000)(hx:∀x∈l,0<=x.mass/\x.mass<=1000000000/\x.shs.length<=1000000):AK C0 84 [Ai b l] (Ai false (Ch (CI l))):=by
 refine Ak.walk w1 aT rfl λF=>?_
 have el:(((l.map AF.D).length:Nat):Int)=(l.length:Int):=by rw[Ap]
 refine sR 0 ?_;refine sR 100 ?_;refine AC.seq ?_;refine sZ 200 ?_;refine AU el ?_;refine AC.ghost 606 27 3 [(3,.osl 606 _ 3 0 0),(7,Ai b l),(8,i64 (l.length:Int)),(9,i64 ((0:Nat):Int))] ⟨.inr ⟨rfl,rfl⟩,.inl rfl,.inl rfl,.inl rfl,trivial⟩ ?_;refine AC.block ?_;refine AC.loop (α:=Nat×List AF×Nat×Nat) (λp=>⟨[(3,.osl 606 p.2.2.1 3 0 p.2.1.length),(7,Ai b l),(8,i64 (l.length:Int)),(9,i64 (p.1:Int))],[⟨606,p.2.2.1,27,3,p.2.1.map AF.D⟩],p.2.2.2⟩) (λp=>l.length-p.1) (λq=>q.1<=l.length/\q.2.1=(CI (l.take q.1)).foldl D4 []/\MG q.1 q.2.1) (0,[],_,_) ⟨BS _,rfl,Ad _,λy h=>by cases h⟩ AJ ?_;rintro⟨i,R,g,n⟩ F ⟨hi,hJ⟩;dsimp only at hi hJ⊢;rcases BL i l.length with h2|h2
 rotate_left
 ·have k1:=Cm h2
  have:i=l.length:=by omega
  subst this;have hR:=hJ.1;rw[DW]at hR;have hf:=Fc (H:=[⟨606,g,27,3,R.map AF.D⟩]) (Hf:=[]) (k:=606) (g:=g) (T:=27) (sz:=3) (l:=R.map AF.D) rfl;rw[Ap]at hf;refine AN NE k1 AB AB AB AB AB AB ?_;exact⟨_,hf,AA.out,by rw[hR];rfl⟩
 have k1:=Cn h2;have wi:=Cp (i:=i) (by omega);obtain⟨x,hx'⟩:=CO h2;have hxm:=hx x (BE hx');have hm:(l.map AF.D)[i]?=some (.agg [str (sb x.grain),i64 x.mass,.sl false 2 (x.shs.map As.D)]):=by rw[BI,hx'];rfl
 have cO:=QA x x.mass hxm.2.2
 by_cases hz:x.mass=0
 ·have g0:(x.mass==0)=true:=by rw[hz];rfl
  refine AN NE (E5 k1 g0 wi kN kT kF) hm AB AB AB AB AB ?_;exact⟨(i+1,R,g,n+1000),⟨h2,by dsimp only;rw[XQ hx' hz];exact hJ.1,by dsimp only;have:=hJ.2.1;omega,λy hy=>by
   obtain⟨a,b,c⟩:=hJ.2.2 y hy;refine⟨a,?_,c⟩;dsimp only;omega⟩,by dsimp only;omega,AJ⟩
 have hJ':D4 R x=(CI (l.take (i+1))).foldl D4 []/\MG (i+1) (D4 R x):=⟨by rw[XR hx' hz,List.foldl_append,<-hJ.1];rfl,RZ hJ.2 hxm⟩
 have g0:(x.mass==0)=false:=Bw.2 hz;have hRl:(R.map AF.D).length=R.length:=Ap ..;have hRb:=hJ.2.1;rcases DR R.length with hR0|hR0
 ·have hRn:R=[]:=ER hR0
  subst hRn;have g1:decide (((0:Nat):Int)>0)=false:=rfl;unfold AF.D at cO;unfold CK at cO;obtain⟨S,hS⟩:∃S,x.shs.map As.D=S:=⟨_,rfl⟩
  have pS:AA (.sl false 2 S):=by rw[<-hS];exact AI
  rw[hS]at cO hm;rw[GM,List.map_nil];refine AN NE (Cj k1 g0 g1 wi kN kT kF) hm cO AB AB AB AB ?_;refine⟨(i+1,[x],n+1+1+1+1+1+1+1+1+1+1+1+1+12+1+1+1+1+1+1+1+1+1,n+1000),⟨h2,hJ'⟩,by dsimp only;omega,?_⟩;dsimp only;rw[show[x].map AF.D=[.agg [str (sb x.grain),i64 x.mass,.sl false 2 S]]from by rw[<-hS];rfl];exact AJ
 have g1:decide ((R.length:Int)>0)=true:=AY (by omega);obtain⟨y,hy⟩:=CO (show R.length-1<R.length by omega);have hym:=hJ.2.2 y (BE hy);have w2:IntKind.i64.wrap ((R.length:Int)-1)=((R.length-1:Nat):Int):=by rw[wI (by omega) (by omega)];omega
 have w3:IntKind.i64.wrap (y.mass+x.mass)=y.mass+x.mass:=wI (by omega) (by omega);have hm2:(R.map AF.D)[R.length-1]?=some (.agg [str (sb y.grain),i64 y.mass,.sl false 2 (y.shs.map As.D)]):=by rw[BI,hy];rfl
 have cK:=lH y x hym.2.2 hxm.2.2;have hN:=VM (x:=x) hy;have hset:=Wf (z:=y.w (y.mass+x.mass)) hy;unfold AF.D CK at cO cK;obtain⟨S,hS⟩:∃S,x.shs.map As.D=S:=⟨_,rfl⟩
 have pS:AA (.sl false 2 S):=by rw[<-hS];exact AI
 obtain⟨SY,hSY⟩:∃S,y.shs.map As.D=S:=⟨_,rfl⟩
 have pSY:AA (.sl false 2 SY):=by rw[<-hSY];exact AI
 rw[hS]at cO hm cK;rw[hSY]at cK hm2;obtain⟨RD,hRD⟩:∃T,R.map AF.D=T:=⟨_,rfl⟩
 rw[hRD]at hm2 hRl⊢;have hr:0<=((R.length-1:Nat):Int)/\((R.length-1:Nat):Int)<(R.length:Int):=by omega
 obtain⟨q,hq⟩:∃q,IN y x=q:=⟨_,rfl⟩
 rw[hq]at cK hN;cases q
 ·rw[hN,AG Bool.false_ne_true]at hJ'
  refine AN NE (Cj k1 g0 g1 w2 wi kN (Bk BR hm2 kT kF)) hm cO cK AB AB AB ?_;refine⟨(i+1,R++[x],n+1+1+1+1+1+1+1+1+1+1+1+1+12+1+1+1+1+1+1+1+1+1,n+1000),⟨h2,hJ'⟩,by dsimp only;omega,?_⟩;dsimp only;rw[Bf,Cu,hRD,B4 (show RD.length<=R.length by omega)];rw[show[x].map AF.D=[.agg [str (sb x.grain),i64 x.mass,.sl false 2 S]]from by rw[<-hS];rfl];exact AJ
 ·rw[hN,AH rfl]at hJ'
  refine AN NE (Cj k1 g0 g1 w2 w3 wi (Cv kN BR hm2 kT kF)) hm cO cK AB AB AB ?_;refine⟨(i+1,R.dropLast++[y.w (y.mass+x.mass)],g,n+1000),⟨h2,hJ'⟩,by dsimp only;omega,?_⟩;dsimp only;rw[<-hset,DT,List.map_set,hRD];rw[show(y.w (y.mass+x.mass)).D=.agg [str (sb y.grain),i64 (y.mass+x.mass),.sl false 2 SY]from by rw[<-hSY];rfl];exact AJ
theorem gh (b:Bool)(l:List AF)(hl:l.length<=1000000)(hx:∀x∈l,1<=x.mass/\x.mass<=1000000000/\x.shs.length<=1000000):AK C0 84 [Ai b l] (Ai false (Ch l)):=by
 have h:=Rw b l hl λx h=>⟨by have:=(hx x h).1;omega,(hx x h).2⟩
 rw[qQ λx h=>(hx x h).1]at h;exact h
abbrev PT:Dr:=[(6,[0,1,2,3,4,5,6,7,8,9,10,11],[12,13]),(7,[0,1,2,3,4,5,6,7,8,9,10,11,12,13,14],[15,16,17])]
open Go.Proofs Go.RowKit
set_option maxRecDepth 20000
set_option maxHeartbeats 4000000
theorem SH (b:Bool)(l:List AF)(hl:l.length<=1000000)(hx:∀x∈l,1<=x.mass/\x.mass<=1000000000/\x.shs.length<=1000000):AK C0 40 [Ai b l] (Ai false (Ch l)):=by
 refine Ak.walk w1 rn rfl λF=>?_
 have el:(((l.map AF.D).length:Nat):Int)=(l.length:Int):=by rw[Ap]
 refine sR 0 ?_;refine sR 100 ?_;refine AC.seq ?_;refine sR 200 ?_;refine AC.ghost 906 27 3 [(0,Ai b l),(3,.osl 906 _ 3 0 0),(4,i64 ((0:Nat):Int))] ⟨.inl rfl,.inr ⟨rfl,rfl⟩,.inl rfl,trivial⟩ ?_;refine AC.block ?_;refine AC.loop (α:=Nat×List AF×Nat×Nat) (λp=>⟨[(0,Ai b l),(3,.osl 906 p.2.2.1 3 0 p.2.1.length),(4,i64 (p.1:Int))],[⟨906,p.2.2.1,27,3,p.2.1.map AF.D⟩],p.2.2.2⟩) (λp=>l.length-p.1) (λq=>q.1<=l.length/\Td l q.1 q.2.1) (0,[],_,_) ⟨BS _,rfl,Ad _,λy h=>by cases h⟩ AJ ?_;rintro⟨i,R,g,n⟩ F ⟨hi,hJ⟩;dsimp only at hi hJ⊢;rcases BL i l.length with h2|h2
 rotate_left
 ·have k1:=Cm h2
  have:i=l.length:=by omega
  subst this;have hR:=hJ.1;rw[DW]at hR;have hf:=Fc (H:=[⟨906,g,27,3,R.map AF.D⟩]) (Hf:=[]) (k:=906) (g:=g) (T:=27) (sz:=3) (l:=R.map AF.D) rfl;rw[Ap]at hf;refine AN PT (Ae el k1) AB AB AB AB AB AB ?_;exact⟨_,hf,AA.out,by rw[hR];rfl⟩
 have k1:=Cn h2;have wi:=Cp (i:=i) (by omega);obtain⟨x,hx'⟩:=CO h2;have hxm:=hx x (BE hx');have hJ':=gi hJ hx' hxm;have hm:(l.map AF.D)[i]?=some (.agg [str (sb x.grain),i64 x.mass,.sl false 2 (x.shs.map As.D)]):=by rw[BI,hx'];rfl
 have g0:decide (x.mass>0)=true:=AY (by omega);have hRl:(R.map AF.D).length=R.length:=Ap ..;have hRb:=hJ.2.1;rcases DR R.length with hR0|hR0
 ·have hRn:R=[]:=ER hR0
  subst hRn;have g1:decide (((0:Nat):Int)>0)=false:=rfl;obtain⟨S,hS⟩:∃S,x.shs.map As.D=S:=⟨_,rfl⟩
  have pS:AA (.sl false 2 S):=by rw[<-hS];exact AI
  rw[hS]at hm;rw[GM,List.map_nil];refine AN PT (Cj el k1 g0 g1 wi kN (Ae kT kF)) hm AB AB AB AB AB ?_;refine⟨(i+1,[x],n+1+1+1+1+1+1+1+14+1+1+1+1+1+1+1+1+1+1+1+1+1+1,n+1000),⟨h2,hJ'⟩,by dsimp only;omega,?_⟩;dsimp only;rw[show[x].map AF.D=[.agg [str (sb x.grain),i64 x.mass,.sl false 2 S]]from by rw[<-hS];rfl];exact AJ
 have g1:decide ((R.length:Int)>0)=true:=AY (by omega);obtain⟨y,hy⟩:=CO (show R.length-1<R.length by omega);have hym:=hJ.2.2 y (BE hy);have w2:IntKind.i64.wrap ((R.length:Int)-1)=((R.length-1:Nat):Int):=by rw[wI (by omega) (by omega)];omega
 have w3:IntKind.i64.wrap (y.mass+x.mass)=y.mass+x.mass:=wI (by omega) (by omega);have hm2:(R.map AF.D)[R.length-1]?=some (.agg [str (sb y.grain),i64 y.mass,.sl false 2 (y.shs.map As.D)]):=by rw[BI,hy];rfl
 have cK:=l8 y x hym.2.2 hxm.2.2;have hN:=VM (x:=x) hy;have hset:=Wf (z:=y.w (y.mass+x.mass)) hy;unfold AF.D CK at cK;obtain⟨S,hS⟩:∃S,x.shs.map As.D=S:=⟨_,rfl⟩
 have pS:AA (.sl false 2 S):=by rw[<-hS];exact AI
 obtain⟨SY,hSY⟩:∃S,y.shs.map As.D=S:=⟨_,rfl⟩
 have pSY:AA (.sl false 2 SY):=by rw[<-hSY];exact AI
 rw[hS]at hm cK;rw[hSY]at cK hm2;obtain⟨RD,hRD⟩:∃T,R.map AF.D=T:=⟨_,rfl⟩
 rw[hRD]at hm2 hRl⊢;have hr:0<=((R.length-1:Nat):Int)/\((R.length-1:Nat):Int)<(R.length:Int):=by omega
 obtain⟨q,hq⟩:∃q,IN y x=q:=⟨_,rfl⟩
 rw[hq]at cK hN;cases q
 ·rw[hN,AG Bool.false_ne_true]at hJ'
  refine AN PT (Cj el k1 g0 g1 w2 wi (Cv kN BR hm2 kT kF)) hm cK AB AB AB AB ?_;refine⟨(i+1,R++[x],n+1+1+1+1+1+1+1+14+1+1+1+1+1+1+1+1+1+1+1+1+1+1,n+1000),⟨h2,hJ'⟩,by dsimp only;omega,?_⟩;dsimp only;rw[Bf,Cu,hRD,B4 (show RD.length<=R.length by omega)];rw[show[x].map AF.D=[.agg [str (sb x.grain),i64 x.mass,.sl false 2 S]]from by rw[<-hS];rfl];exact AJ
 ·rw[hN,AH rfl]at hJ'
  refine AN PT (Cj el k1 g0 g1 w2 w3 (E5 wi kN BR hm2 kT kF)) hm cK AB AB AB AB ?_;refine⟨(i+1,R.dropLast++[y.w (y.mass+x.mass)],g,n+1000),⟨h2,hJ'⟩,by dsimp only;omega,?_⟩;dsimp only;rw[<-hset,DT,List.map_set,hRD];rw[show(y.w (y.mass+x.mass)).D=.agg [str (sb y.grain),i64 (y.mass+x.mass),.sl false 2 SY]from by rw[<-hSY];rfl];exact AJ
abbrev Wi:Dr:=[(5,[0,1,2,3,4,5,6,7,8,9,10],[11]),(7,[0,1,2,3,4,5,6],[7,8,9])]
open Go.Proofs Go.RowKit
set_option maxRecDepth 20000
set_option maxHeartbeats 4000000
theorem al (b:Bool)(l:List AF)(hl:l.length<=1000000)(hx:∀x∈l,0<=x.mass):AK C0 94 [Ai b l] (Ai false (CI l)):=by
 refine Ak.walk w1 so rfl λF=>?_
 have el:(((l.map AF.D).length:Nat):Int)=(l.length:Int):=by rw[Ap]
 refine sR 0 ?_;refine sR 100 ?_;refine AC.seq ?_;refine sR 200 ?_;refine AC.ghost 606 27 3 [(0,Ai b l),(3,.osl 606 _ 3 0 0),(4,i64 ((0:Nat):Int))] ⟨.inl rfl,.inr ⟨rfl,rfl⟩,.inl rfl,trivial⟩ ?_;refine AC.block ?_;refine AC.loop (α:=Nat×List AF×Nat×Nat) (λp=>⟨[(0,Ai b l),(3,.osl 606 p.2.2.1 3 0 p.2.1.length),(4,i64 (p.1:Int))],[⟨606,p.2.2.1,27,3,p.2.1.map AF.D⟩],p.2.2.2⟩) (λp=>l.length-p.1) (λq=>q.1<=l.length/\q.2.1=CI (l.take q.1)) (0,[],_,_) ⟨BS _,rfl⟩ AJ ?_;rintro⟨i,R,g,n⟩ F ⟨hi,hJ⟩;dsimp only at hi hJ⊢;rcases BL i l.length with h2|h2
 rotate_left
 ·have k1:=Cm h2
  have:i=l.length:=by omega
  subst this;rw[DW]at hJ;have hf:=Fc (H:=[⟨606,g,27,3,R.map AF.D⟩]) (Hf:=[]) (k:=606) (g:=g) (T:=27) (sz:=3) (l:=R.map AF.D) rfl;rw[Ap]at hf;refine AN Ac (Ae el k1) AB AB AB AB AB AB ?_;exact⟨_,hf,AA.out,by rw[hJ]⟩
 have k1:=Cn h2;have wi:=Cp (i:=i) (by omega);obtain⟨x,hx'⟩:=CO h2;have hx0:=hx x (BE hx');have hm:(l.map AF.D)[i]?=some (.agg [str (sb x.grain),i64 x.mass,.sl false 2 (x.shs.map As.D)]):=by rw[BI,hx'];rfl
 by_cases hz:x.mass=0
 ·have g0:decide (x.mass>0)=false:=Ah (by omega)
  refine AN Ac (Cv el k1 g0 wi kN) hm AB AB AB AB AB ?_;exact⟨(i+1,R,g,n+1000),⟨h2,by dsimp only;rw[XQ hx' hz,hJ]⟩,by dsimp only;omega,AJ⟩
 have g0:decide (x.mass>0)=true:=AY (by omega);have hs:=XR hx' hz;rw[<-hJ]at hs;have hRl:(R.map AF.D).length=R.length:=Ap ..;have hRb:R.length<=l.length:=by
  rw[hJ]
  have:=List.length_filter_le (λx:AF=>x.mass != 0) (l.take i)
  rw[Bj]at this;unfold CI;omega
 obtain⟨S,hS⟩:∃S,x.shs.map As.D=S:=⟨_,rfl⟩
 have pS:AA (.sl false 2 S):=by rw[<-hS];exact AI
 rw[hS]at hm;obtain⟨RD,hRD⟩:∃T,R.map AF.D=T:=⟨_,rfl⟩
 rw[hRD]at hRl⊢;refine AN Ac (Cv el k1 g0 wi kN) hm AB AB AB AB AB ?_;refine⟨(i+1,R++[x],n+1+1+1+1+1+1+1+1+1+1+1+1+1+1+1+1,n+1000),⟨h2,hs.symm⟩,by dsimp only;omega,?_⟩;dsimp only;rw[Bf,Cu,hRD,B4 (show RD.length<=R.length by omega)];rw[show[x].map AF.D=[.agg [str (sb x.grain),i64 x.mass,.sl false 2 S]]from by rw[<-hS];rfl];exact AJ
def EF:List AF->Int->List AF
 | [],_=>[]
 |x::r,m=>x.w (min m x.mass)::EF r (m-min m x.mass)
def EG:List AF->Int->List AF
 | [],_=>[]
 |x::r,m=>x.w (x.mass-min m x.mass)::EG r (m-min m x.mass)
structure UA where
 a:List AF
 b:List AF
 m:Int
def qA (l:List AF)(m:Int)(k:Nat)(p:UA):Prop:=p.a.length=k/\p.b.length=k/\p.a++EF (l.drop k) p.m=EF l m/\p.b++EG (l.drop k) p.m=EG l m/\0<=p.m/\p.m<=1000000000000
theorem P1:∀ {l:List AF} {m:Int},(∀x∈l,0<=x.mass/\x.mass<=1000000000/\x.shs.length<=1000000)->0<=m->∀y∈EF l m,0<=y.mass/\y.mass<=1000000000/\y.shs.length<=1000000
 | [],_,_,_,y,hy=>by cases hy
 |x::r,m,h,hm,y,hy=>by
  obtain⟨h1,h2,h3⟩:=h x (CH ..);rcases BA.1 hy with rfl|h4
  ·exact⟨by show 0<=min m x.mass;omega,by show min m x.mass<=_;omega,h3⟩
  ·exact P1 (λz hz=>h z (CN _ hz)) (by omega) y h4
theorem NV:∀ {l:List AF} {m:Int},(∀x∈l,0<=x.mass/\x.mass<=1000000000/\x.shs.length<=1000000)->0<=m->∀y∈EG l m,0<=y.mass/\y.mass<=1000000000/\y.shs.length<=1000000
 | [],_,_,_,y,hy=>by cases hy
 |x::r,m,h,hm,y,hy=>by
  obtain⟨h1,h2,h3⟩:=h x (CH ..);rcases BA.1 hy with rfl|h4
  ·exact⟨by show 0<=x.mass-min m x.mass;omega,by show x.mass-min m x.mass<=_;omega,h3⟩
  ·exact NV (λz hz=>h z (CN _ hz)) (by omega) y h4
theorem PS:∀(l:List AF) (m:Int),(EF l m).length=l.length
 | [],_=>rfl
 |x::r,m=>by show(EF r _).length+1=r.length+1;rw[PS r]
theorem NC:∀(l:List AF) (m:Int),(EG l m).length=l.length
 | [],_=>rfl
 |x::r,m=>by show(EG r _).length+1=r.length+1;rw[NC r]
theorem uP (b:Bool)(l:List AF)(m:Int)(hl:l.length<=1000000)(hx:∀x∈l,0<=x.mass/\x.mass<=1000000000/\x.shs.length<=1000000)(hm:0<=m/\m<=1000000000000):AK C0 46 [Ai b l,i64 m] (.tup [Ai false (Ch (CI (EF l m))),Ai false (Ch (CI (EG l m)))]):=by
 refine Ak.walk w1 rp rfl λF=>?_
 have el:(((l.map AF.D).length:Nat):Int)=(l.length:Int):=by rw[Ap]
 have nzAll:∀q:List AF,(∀x∈q,0<=x.mass/\x.mass<=1000000000/\x.shs.length<=1000000)->∀x∈CI q,1<=x.mass/\x.mass<=1000000000/\x.shs.length<=1000000:=λq h x hq=>by
  obtain⟨h1,h2⟩:=List.mem_filter.1 hq;obtain⟨a1,a2,a3⟩:=h x h1
  have:x.mass≠0:=λe=>by rw[e]at h2;cases h2
  exact⟨by omega,a2,a3⟩
 have nzLen:∀q:List AF,(CI q).length<=q.length:=λq=>List.length_filter_le ..
 have cFA:=al false (EF l m) (by rw[PS];exact hl) λx h=>(P1 hx hm.1 x h).1
 have cFB:=al false (EG l m) (by rw[NC];exact hl) λx h=>(NV hx hm.1 x h).1
 have cNA:=SH false (CI (EF l m)) (by have:=nzLen (EF l m);rw[PS]at this;omega) (nzAll _ (P1 hx hm.1));have cNB:=SH false (CI (EG l m)) (by have:=nzLen (EG l m);rw[NC]at this;omega) (nzAll _ (NV hx hm.1));refine sR 0 ?_;refine sR 100 ?_;refine AC.seq ?_;refine sR 200 ?_;refine AC.ghost 903 27 3 [(0,Ai b l),(1,i64 m),(6,.osl 903 _ 3 0 0),(7,CD),(8,i64 ((0:Nat):Int))] ⟨.inl rfl,.inl rfl,.inr ⟨rfl,rfl⟩,.inl rfl,.inl rfl,trivial⟩ ?_;refine AC.ghost 1003 27 3 [(0,Ai b l),(1,i64 m),(6,.osl 903 _ 3 0 0),(7,.osl 1003 _ 3 0 0),(8,i64 ((0:Nat):Int))] ⟨.inl rfl,.inl rfl,.inl rfl,.inr ⟨rfl,rfl⟩,.inl rfl,trivial⟩ ?_;refine AC.block ?_;refine AC.loop (α:=Nat×UA×Nat×Nat×Nat) (λp=>⟨[(0,Ai b l),(1,i64 p.2.1.m),(6,.osl 903 p.2.2.1 3 0 p.2.1.a.length),(7,.osl 1003 p.2.2.2.1 3 0 p.2.1.b.length),(8,i64 (p.1:Int))],[⟨1003,p.2.2.2.1,27,3,p.2.1.b.map AF.D⟩,⟨903,p.2.2.1,27,3,p.2.1.a.map AF.D⟩],p.2.2.2.2⟩) (λp=>l.length-p.1) (λq=>q.1<=l.length/\qA l m q.1 q.2.1) (0,⟨[],[],m⟩,_,_,_) ⟨BS _,rfl,rfl,rfl,rfl,hm.1,hm.2⟩ AJ ?_;rintro⟨i,⟨A,B,m'⟩,gA,gB,n⟩ F ⟨hi,p1,p2,p3,p4,p5,p6⟩;dsimp only at hi p1 p2 p3 p4 p5 p6⊢;rcases BL i l.length with h2|h2
 rotate_left
 ·have k1:=Cm h2
  have:i=l.length:=by omega
  subst this;rw[Ia]at p3 p4;have eA:A=EF l m:=by rw[<-p3];exact(DE A).symm
  have eB:B=EG l m:=by rw[<-p4];exact(DE B).symm
  rw[<-eA]at cFA cNA⊢;rw[<-eB]at cFB cNB⊢;have hA:=Cw.of (Fc (H:=[⟨1003,gB,27,3,B.map AF.D⟩,⟨903,gA,27,3,A.map AF.D⟩]) (Hf:=[]) (k:=903) (g:=gA) (T:=27) (sz:=3) (l:=A.map AF.D) rfl);have hB:=Cw.of (Fc (H:=[⟨1003,gB,27,3,B.map AF.D⟩,⟨903,gA,27,3,A.map AF.D⟩]) (Hf:=[]) (k:=1003) (g:=gB) (T:=27) (sz:=3) (l:=B.map AF.D) rfl);rw[Ap]at hA hB;refine Tu [(0,Ai b l),(6,Ai false A),(7,Ai false B),(8,i64 (l.length:Int))] ⟨.refl _ _,hA,hB,.refl _ _,trivial⟩ ?_;refine AN Wi (Ae el k1) cFA cNA cFB cNB AB AB ?_;exact AQ rfl AA.out
 have k1:=Cn h2;have wi:=Cp (i:=i) (by omega);obtain⟨x,hx'⟩:=CO h2;obtain⟨x1,x2,x3⟩:=hx x (BE hx');have hm2:(l.map AF.D)[i]?=some (.agg [str (sb x.grain),i64 x.mass,.sl false 2 (x.shs.map As.D)]):=by rw[BI,hx'];rfl
 have hd:l.drop i=x::l.drop (i+1):=by
  have:=List.getElem?_eq_some_iff.1 hx'
  rw[D9 this.1,this.2]
 rw[hd]at p3 p4;have q3:(A++[x.w (min m' x.mass)])++EF (l.drop (i+1)) (m'-min m' x.mass)=EF l m:=by rw[<-p3,Dm];rfl
 have q4:(B++[x.w (x.mass-min m' x.mass)])++EG (l.drop (i+1)) (m'-min m' x.mass)=EG l m:=by rw[<-p4,Dm];rfl
 have a1:IntKind.i64.wrap (x.mass-min m' x.mass)=x.mass-min m' x.mass:=wI (by omega) (by omega);have a2:IntKind.i64.wrap (m'-min m' x.mass)=m'-min m' x.mass:=wI (by omega) (by omega);have hAl:(A.map AF.D).length=A.length:=Ap ..;have hBl:(B.map AF.D).length=B.length:=Ap ..;obtain⟨S,hS⟩:∃S,x.shs.map As.D=S:=⟨_,rfl⟩
 have pS:AA (.sl false 2 S):=by rw[<-hS];exact AI
 rw[hS]at hm2;obtain⟨AD,hAD⟩:∃T,A.map AF.D=T:=⟨_,rfl⟩
 obtain⟨BD,hBD⟩:∃T,B.map AF.D=T:=⟨_,rfl⟩
 rw[hAD]at hAl⊢;rw[hBD]at hBl⊢;obtain⟨u,hu⟩:∃u,min m' x.mass=u:=⟨_,rfl⟩
 have hub:0<=u/\u<=m':=by omega
 rw[hu]at q3 q4 a1 a2;refine AC.seq ?_;refine sZ 300 ?_;refine AU el ?_;rw[k1];refine AL ?_;refine Am ?_;refine AC.seq ?_;refine AC.block ?_;refine AC.seq ?_;refine uu w1 500 [0,1,2,3,4,5,6,7,8,9,10] [11] 10 8 [9,2,1,0,3,8] (by kernel_rfl) (by kernel_rfl) ?_;refine At ?_;refine Ic kN ?_;refine JW rfl rfl rfl rfl ?_;refine Jl (λ_ _=>rfl) Bz ⟨rfl,by omega⟩ hm2 ?_
 try dsimp only[D.cells]
 refine Ic kN ?_;refine JW rfl rfl rfl rfl ?_;refine Jl (λ_ _=>rfl) Bz ⟨rfl,by omega⟩ hm2 ?_
 try dsimp only[D.cells]
 refine Ic kN ?_;refine And.intro ⟨trivial,.inl AB⟩ ?_;refine AN Wi (Cv a1 a2 hu wi kN) hm2 AB AB AB AB AB ?_;refine⟨(i+1,⟨A++[x.w u],B++[x.w (x.mass-u)],m'-u⟩,n+1+1+1+1+12+1+1+1+1+1+1+1+1+1+1+10+1+1+1+1+1+1+1+1+1+1+1,n+1+1+1+1+12+1+1+1+1+1+1+1+1+1+1+10+1+1+1+1+1+1+1+1+1+1+1+1+1+1+1+1,n+1000),⟨h2,by simp;omega,by simp;omega,q3,q4,by dsimp only;omega,by dsimp only;omega⟩,by dsimp only;omega,?_⟩;dsimp only;rw[Bf,Bf,Cu,Cu,hAD,hBD,B4 (show AD.length<=A.length by omega),B4 (show BD.length<=B.length by omega)];rw[show[x.w u].map AF.D=[.agg [str (sb x.grain),i64 u,.sl false 2 S]]from by rw[<-hS];rfl];rw[show[x.w (x.mass-u)].map AF.D=[.agg [str (sb x.grain),i64 (x.mass-u),.sl false 2 S]]from by rw[<-hS];rfl];exact AJ
end Go.Ide
namespace Go.Proofs
open Go.Shelf Go.RowKit Go.Lib
def Tryz.growLay_ren:Go.Shelf.Ren:=⟨fun|4=>140|n=>n,fun|22=>22|25=>27|3=>3|4=>4|9=>9|20=>20|0=>0|n=>n,fun|n=>n⟩
theorem bW:Go.Proofs.Lays8.n4 Tryz.prog Tryz.growLay_ren:={
 mixed:=by kernel_rfl
 f4:=⟨Tryz.f140.name,by decide,Tryz.func140.trans (congrArg some (by kernel_rfl))⟩
 t0:=Tryz.underlying0
 a0:=Tryz.isAgg0
 z0:=Tryz.sizeOf0
 v0:=Tryz.zeroValue0
 t3:=Tryz.underlying3
 a3:=Tryz.isAgg3
 z3:=Tryz.sizeOf3
 v3:=Tryz.zeroValue3
 t4:=Tryz.underlying4
 a4:=Tryz.isAgg4
 z4:=Tryz.sizeOf4
 v4:=Tryz.zeroValue4
 t9:=Tryz.underlying9
 a9:=Tryz.isAgg9
 z9:=Tryz.sizeOf9
 v9:=Tryz.zeroValue9
 t20:=Tryz.underlying20
 a20:=Tryz.isAgg20
 z20:=Tryz.sizeOf20
 v20:=Tryz.zeroValue20
 t22:=Tryz.underlying22
 a22:=Tryz.isAgg22
 z22:=Tryz.sizeOf22
 v22:=Tryz.zeroValue22 }
end Go.Proofs
namespace Go.Ide
open Go.Proofs Go.RowKit Go.Lib
set_option maxRecDepth 20000
set_option maxHeartbeats 4000000
theorem JJ (K n:Nat)(h0:0<n)(hn:n<=1000000)(H:Hp)(m:Nat):CS C0 140 [CD,i64 (n:Int)] H m (λd H' n'=>d=.osl K m 3 0 0/\H'=⟨K,m,27,3,[]⟩::H/\n'=m+1):=by
 refine⟨by obtain⟨fn,a1,a2,a3,-⟩:=Sk;exact⟨fn,_,a1,a2,a3⟩,λF ρ w vs mm fr gn hsz rep=>?_⟩;obtain⟨v0,v1,rfl⟩:∃v0 v1,vs = #[v0,v1]:=by
  match vs,hsz with
  |⟨[a,b]⟩,_=>exact⟨a,b,rfl⟩
 have r0:AV ρ _ w CD v0:=rep 0 _ rfl;have r1:AV ρ _ w (i64 (n:Int)) v1:=rep 1 _ rfl;cases r0;cases r1;have hT:∃i,X1.tt 22=some i/\i.ti=.slice 27 3 48 (.agg #[.string ⟨#[]⟩,.int .i64 0,.slice none 0 0]):=⟨_,rfl,rfl⟩
 obtain⟨i,hi1,hi2⟩:=hT;obtain⟨-,⟨inf,k1,k2,k3,k4⟩,k5,k6⟩:=EN (w1.tt _ _ hi1) hi2;have hc:=Any8.slices_Grow_grow bW inf _ k1 k4 (by rw[k2];decide) none 0 0 n [] w (Ad _) (by omega) (by rw[k3];omega) (by omega) (by rw[k2];rfl) (λ_=>rfl) (λa h=>by cases h);refine Calls.mono hc ?_;rintro e w' ⟨rfl,rfl⟩;rw[show Tryz.growLay_ren.t 25=27 from rfl,BR];have hge:n<=grownCap w n 0 27:=grownCap_ge ..;have hmx:grownCap w n 0 27<=maxLen:=grownCap_le_maxLen _ _ _ _ (by simp only[maxLen];omega);generalize grownCap w n 0 27=cap at hge hmx⊢;obtain⟨z,hz⟩:∃z,(Value.agg #[.string ⟨#[]⟩,.int .i64 0,.slice none 0 0])=z:=⟨_,rfl⟩
 rw[hz]at k5 k6⊢;generalize hcs' : #[]++Builtin.zeroCells z.cells (n-0)++Builtin.zeroCells z.cells (cap-n)=cs';have hsz':cs'.size=cap*3:=by
  rw[<-hcs',IY,IY,size_zeroCells,size_zeroCells,k5];simp only[JB,GM];omega
 have ho:Cx ρ (AM F.X ρ H) w.drew ⟨K,m,27,3,[]⟩ cs':=by
  refine⟨by simp,λq d h=>by simp at h,λq v hv=>?_,λq d j c h=>by simp at h⟩;rw[<-hcs']at hv;rcases BL q (#[]++Builtin.zeroCells z.cells (n-0)).size with hq|hq
  ·rw[Fx hq,Array.empty_append]at hv
   exact Oa k6 _ _ v hv
  ·rw[Fw hq]at hv
   exact Oa k6 _ _ v hv
 obtain⟨m1,x1⟩:=mm.drew.alloc ⟨K,m,27,3,[]⟩ cs' (fr _ _ (Ad _)) (λe' he' h=>Nat.ne_of_lt (gn e' he') h.2) ho;refine⟨_,_,_,_,_,rfl,⟨rfl,rfl,rfl⟩,m1,(BP.drew _ _ _).trans x1,λk g hg=>?_,λe he=>?_,?_⟩
 ·unfold Lk.put
  rw[AG λh=>by have:=h.2;dsimp only at this;omega];exact fr k g (by omega)
 ·rcases BA.1 he with rfl|he
  ·exact Gs _
  ·exact Cz (gn e he)
 ·exact OA (b:=w.heap.size) (T:=27) (cs:=cs') (fz:=(0,0)) (D5 _ _ _ _) (by rw[Dz];exact AH rfl) (BS _) hsz'.symm hmx
theorem Ve {vs:List (List AF)}{i:Nat}{l:List AF}(h:vs[i]?=some l):(vs.take (i+1)).flatten=(vs.take i).flatten++l:=by
 rw[EB,h];simp
theorem Ws {vs:List (List AF)}(i:Nat):(vs.take i).flatten.length<=vs.flatten.length:=by
 have:vs.flatten=(vs.take i).flatten++(vs.drop i).flatten:=by rw[<-List.flatten_append,Ei]
 rw[this,Bf];omega
theorem VL (vs:List (List AF))(h0:vs.flatten≠[])(hl:vs.flatten.length<=1000000)(hv:vs.length<=1000000):AK C0 88 [.sl true 1 (vs.map (Ai false))] (Ai false vs.flatten):=by
 refine Ak.walk w1 TM rfl λF=>?_
 have el:(((vs.map (Ai false)).length:Nat):Int)=(vs.length:Int):=by rw[Ap]
 have hpos:0<vs.flatten.length:=List.length_pos_iff.2 h0;have cG:=λm=>JJ 1302 vs.flatten.length hpos hl [] m
 refine AN Ac el AB AB AB AB AB AB ?_;refine AC.loop (α:=Nat×Nat) (λp=>⟨[(0,.sl true 1 (vs.map (Ai false))),(3,i64 ((vs.take p.1).flatten.length:Int)),(9,.sl true 1 (vs.map (Ai false))),(10,i64 (vs.length:Int)),(11,i64 (p.1:Int))],[],p.2⟩) (λp=>vs.length-p.1) (λq=>q.1<=vs.length) (0,_) (BS _) AJ ?_;rintro⟨i,n⟩ F hi;dsimp only at hi⊢;rcases BL i vs.length with h2|h2
 ·have e1:=Cn h2
  have wi:=Cp (i:=i) (by omega);obtain⟨x,hx⟩:=CO h2;have hm:(vs.map (Ai false))[i]?=some (.sl false 3 (x.map AF.D)):=by rw[BI,hx];rfl
  have hs:=Ve hx;have hle:=Ws (vs:=vs) (i+1);have ex:(((x.map AF.D).length:Nat):Int)=(x.length:Int):=by rw[Ap]
  rw[hs,Bf]at hle;have w1':IntKind.i64.wrap (((vs.take i).flatten.length:Int)+(x.length:Int))=(((vs.take (i+1)).flatten.length:Nat):Int):=by
   rw[wI (by omega) (by omega),hs,Bf];omega
  have g0:decide ((((vs.take (i+1)).flatten.length:Nat):Int)<0)=false:=Ah (by omega);refine AN Ac (E5 e1 wi ex w1' g0 kN) hm AB AB AB AB AB ?_;exact⟨(i+1,_),h2,by dsimp only;omega,AJ⟩
 have e1:=Cm h2
 have:i=vs.length:=by omega
 subst this;rw[DW];refine AN Ac e1 AB AB AB AB AB AB ?_;refine A9.own _ (cG _) ?_;rintro d H' n' ⟨rfl,rfl,rfl⟩;refine AN Ac el AB AB AB AB AB AB ?_;refine AC.loop (α:=Nat×Nat×Nat) (λp=>⟨[(6,.osl 1302 p.2.1 3 0 (vs.take p.1).flatten.length),(25,.sl true 1 (vs.map (Ai false))),(26,i64 (vs.length:Int)),(27,i64 (p.1:Int))],[⟨1302,p.2.1,27,3,(vs.take p.1).flatten.map AF.D⟩],p.2.2⟩) (λp=>vs.length-p.1) (λq=>q.1<=vs.length) (0,n+1+1,_) (BS _) AJ ?_;clear hi h2 e1;rintro⟨i,g,n⟩ F hi;dsimp only at hi⊢;rcases BL i vs.length with h2|h2
 ·have e1:=Cn h2
  have wi:=Cp (i:=i) (by omega);obtain⟨x,hx⟩:=CO h2;have hm:(vs.map (Ai false))[i]?=some (.sl false 3 (x.map AF.D)):=by rw[BI,hx];rfl
  have hs:=Ve hx;have hle:=Ws (vs:=vs) (i+1);have hln:((vs.take i).flatten.map AF.D).length=(vs.take i).flatten.length:=Ap ..;have hlx:(x.map AF.D).length=x.length:=Ap ..;rw[hs,Bf]at hle;obtain⟨R,hR⟩:∃R,(vs.take i).flatten=R:=⟨_,rfl⟩
  obtain⟨X,hX⟩:∃X,x.map AF.D=X:=⟨_,rfl⟩
  have pX:AA (.sl false 3 X):=by rw[<-hX];exact AI
  rw[hR]at hs hle hln⊢;rw[hX]at hm hlx;obtain⟨RD,hRD⟩:∃X,R.map AF.D=X:=⟨_,rfl⟩
  rw[hRD]at hln⊢;refine AN Ac (Av e1 wi kN) hm AB AB AB AB AB ?_;refine⟨(i+1,n+1+1+1+1+1+1,n+1+1+1+1+1+1+1+1+1+1),h2,by dsimp only;omega,?_⟩;dsimp only;rw[hs,Bf,Cu,hRD,hX,hlx];rw[B4 (show RD.length<=R.length by omega)];exact AJ
 have e1:=Cm h2
 have:i=vs.length:=by omega
 subst this;rw[DW];have hR:=Fc (H:=[⟨1302,g,27,3,vs.flatten.map AF.D⟩]) (Hf:=[]) (k:=1302) (g:=g) (T:=27) (sz:=3) (l:=vs.flatten.map AF.D) rfl;rw[Ap]at hR;refine AN Ac e1 AB AB AB AB AB AB ?_;exact⟨_,hR,AA.out,rfl⟩
end Go.Ide
