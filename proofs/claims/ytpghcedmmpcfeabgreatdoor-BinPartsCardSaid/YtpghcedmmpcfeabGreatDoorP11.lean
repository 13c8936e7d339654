/- The layer of own lemmas and contracts, part 11. -/
import Derived.Test.YtpghcedmmpcfeabGreatDoorP9
import Derived.Test.YtpghcedmmpcfeabGreatDoorP10
import Derived.Test.YtpghcedmmpcfeabGreatDoorP3
import Derived.Test.YtpghcedmmpcfeabGreatDoorP7
import Derived.Shelf.RegionOpenPlain
import Derived.Lib.Builder
import Derived.Lib.UnsafeStr
import Derived.Lib.Strings
import Derived.Lib.Slices
import Derived.Lib.Walk
import Derived.Laws.Externs
import Derived.KernelRfl
import Derived.WalkKit
import Derived.Shelf.Strconv.Itoa3
import Derived.Lib.ItoaMem
import Derived.Lib.AppendIntMem
import Derived.BigCall
import Derived.BigGuard
import Derived.Test.YtpghcedmmpcfeabGreatDoorP8
import Derived.Test.YtpghcedmmpcfeabGreatDoorP4
import Derived.Shelf.SlSortCmp.WholeK
import Derived.Shelf.Lay
import Derived.Laws.Cover1
import Derived.Shelf.Small.Bits
import Derived.Ground.SlsfProg
import Derived.Ground.NamesProg
import Derived.Shelf.SlIter.Sorted
import Derived.Shelf.SortM.Plain
import Derived.Shelf.SortM.SortNone
import Derived.Ground.GgzProg
import Derived.Ground.SlgmProg
set_option linter.unusedVariables false
set_option linter.unusedSimpArgs false
namespace Go.Ide
open Go.Proofs Go.RowKit
set_option maxRecDepth 20000
set_option maxHeartbeats 4000000
theorem Cd {i n:Nat}(h:i<n):decide ((i:Int)<(n:Int))=true:=Ba
theorem Cf {i n:Nat}(h:n<=i):decide ((i:Int)<(n:Int))=false:=Bg
theorem Cj {i:Nat}(h:i<9223372036854775807):IntKind.i64.wrap ((i:Int)+1)=((i+1:Nat):Int):=wI
theorem CQ {α:Type}{l:List α}{i:Nat}(h:i<l.length):∃x,l[i]?=some x:=⟨l[i],By h⟩
instance  (l:List UInt8):AW (G5 l).D:=by unfold GF.D;exact AJ
theorem G9 {a:Nat}(h:a≠0):(((a:Nat):Int) != 0)=true:=Jd (by omega)
theorem HA {a:Nat}(h:a=0):(((a:Nat):Int) != 0)=false:=by subst h;rfl
theorem e0i {a:Nat}(h:a≠0):(((a:Nat):Int)==0)=false:=B5.2 (by omega)
set_option maxHeartbeats 1000000
set_option maxRecDepth 100000
theorem zt {n:Nat}(h:1<=n):liesAt Tryz.prog Tryz.prog.depth 200 n 0 200 1=true:=by
 have hs:sameLayout Tryz.prog Tryz.prog.depth 200 200=true:=by kernel_rfl
 have hc:Tryz.prog.cellsOf 200=2:=by kernel_rfl
 obtain⟨d,hd⟩:∃d,Tryz.prog.depth=d+1:=⟨Tryz.prog.depth-1,by kernel_rfl⟩
 rw[hd]at hs⊢;unfold liesAt;rw[hd];unfold rowAt;simp[hc,hs,h]
theorem sC (b c:Nat)(hc:2<=c)(w:World)(h0:w.cell? ⟨b,0,none⟩=some (.pointer none))(hsh:w.shape? b=some (200,c))(hfz:w.frozen? ⟨b,0,none⟩=false):
  Calls Tryz.prog 208 #[.pointer (some ⟨b,0,none⟩)] w λe w'=>e=.returned (.tuple #[])/\w'=w.setCell ⟨b,0,none⟩ (.pointer (some ⟨b,0,none⟩)):=by
 obtain⟨j,hj,hjs⟩:=E6.1 (show(Tryz.prog.info? 200).map (·.size)=some 2 by kernel_rfl);have hl:liesAt Tryz.prog Tryz.prog.depth 200 (c/Tryz.prog.cellsOf 200) 0 200 1=true:=zt (by rw[show Tryz.prog.cellsOf 200=2 by kernel_rfl];omega)
 go_enter Tryz.func208,Tryz.ntmps208
 go_wp2
 rw[Lib.run_to_unsafe w ⟨b,0,none⟩ (t:=200) (by kernel_rfl) (by kernel_rfl) hj (by rw[hjs];decide) hsh (by show 0<c;omega)];simp only[Result.andThen];rw[Oper.upon_value]
 go_wp2
 rw[run_callFunc_extern Tryz.func242 (by kernel_rfl) (by kernel_rfl) (by kernel_rfl) (e:=Extern.AbiNoEscape.same) (by kernel_rfl)];rw[Lib.run_noEscape];simp only[Result.andThen];rw[Oper.upon_value]
 go_wp2
 rw[Lib.run_from_unsafe w ⟨b,0,none⟩ (u:=200) (by kernel_rfl) (by kernel_rfl) hj hsh hl];simp only[Result.andThen];rw[Oper.upon_value]
 go_wp2
 go_end0
 exact⟨rfl,rfl⟩
theorem uE (b:Nat)(w:World)(h0:w.cell? ⟨b,0,none⟩=some (.pointer (some ⟨b,0,none⟩))):
  Calls Tryz.prog 208 #[.pointer (some ⟨b,0,none⟩)] w λe w'=>e=.returned (.tuple #[])/\w'=w:=by
 obtain⟨j,hj,hjs⟩:=E6.1 (show(Tryz.prog.info? 200).map (·.size)=some 2 by kernel_rfl)
 go_enter Tryz.func208,Tryz.ntmps208
 go_wp2
 rw[Lib.run_neq_ptr_same w _ (te:=200) (by kernel_rfl) hj]
 go_wp2
 go_end0
 exact⟨rfl,rfl⟩
theorem e0h (b g:Nat)(cur cs:Array Value)(l:List UInt8)(h0:l≠[])(w:World)(hb:w.heap[b]?=some (.cells cs 200 (0,0)))(hb1:cs[1]?=some (.slice (some ⟨g,0,none⟩) l.length cur.size))
  (hg:w.heap[g]?=some (.cells cur 5 (0,0))) (hl:l.length<=cur.size) (hcap:cur.size<=maxLen) (hcell:∀(j:Nat) (x:UInt8),l[j]?=some x->cur[j]?=some (.int .u8 x.toNat)):
  Calls Tryz.prog 150 #[.pointer (some ⟨b,0,none⟩)] w λe w'=>e=.returned (.string ⟨l.toArray⟩)/\w'=(w.drew.freeze ⟨g,0,none⟩ l.length):=by
 have c1:w.drew.cell? ⟨b,1,none⟩=some (.slice (some ⟨g,0,none⟩) l.length cur.size):=by
  have:w.drew.heap[b]?=some (.cells cs 200 (0,0)):=hb
  rw[Lib.cell_of_heap this];exact hb1
 have h0':l.length≠0:=by simpa using h0
 have hSD:(Builtin.unsafeSliceData_ #[198] 246 #[.slice (some ⟨g,0,none⟩) l.length cur.size]).run Tryz.prog w.drew=.ok (.pointer (some ⟨g,0,none⟩)) w.drew:=
  Lib.run_unsafeSliceData_row _ _ _ _ _ _ (by omega)
 have hUS:(Builtin.unsafeString_ #[246,3] 9 #[.pointer (some ⟨g,0,none⟩),.int .i64 l.length]).run Tryz.prog w.drew=.ok (.string ⟨l.toArray⟩) (w.drew.freeze ⟨g,0,none⟩ l.length):=by
  refine Lib.run_unsafeString_row w.drew 246 3 9 5 (by kernel_rfl) (by kernel_rfl) g cur.size (by have hg':w.drew.heap[g]?=some (.cells cur 5 (0,0)):=hg;simp[World.shape?,hg']) l h0 (by omega) (by unfold maxLen at hcap;omega) ?_;intro j x hx;have hg':w.drew.heap[g]?=some (.cells cur 5 (0,0)):=hg
  have:=hcell j x hx
  rw[Addr.add_lit];simp[World.cell?,hg',this]
 have mixed:Tryz.prog.follows .mixedOrders=true:=by kernel_rfl
 go_enter Tryz.func150,Tryz.ntmps150
 go_wp2
 go_region_o
 all_goals(go_wp2;go_ret;exact⟨rfl,rfl⟩)
def GX (l:List UInt8):List D:=l.map λb=>.prim (.int .u8 (b.toNat:Int))
abbrev GM (g:Nat)(p x:D):At:=⟨1500,g,200,2,[.agg [p,x]]⟩
theorem jf {vs:Array Value}(h:vs.size=1):vs = #[vs.getD 0 undef]:=by
 match vs,h with
 |⟨[u]⟩,_=>rfl
theorem jh (g n:Nat)(x p:D)(H1 H2:Hp)(hp:p=.prim (.pointer none)\/p=.optr 1500 g 2 0 0):
  Cu C0 208 [.optr 1500 g 2 0 0] (H1++GM g p x::H2) n (λd H' n'=>d=.prim (.tuple #[])/\H'=H1++GM g (.optr 1500 g 2 0 0) x::H2/\n'=n):=by
 refine⟨⟨_,_,Tryz.func208,rfl,by kernel_rfl⟩,λF ρ w vs m fr hgn hvs hr=>?_⟩;have h0:=hr 0 _ rfl;rw[jf hvs];generalize hv:vs.getD 0 undef=v at h0;cases h0 with
 |optr hρ=>
  rename_i b;have he:GM g p x∈H1++GM g p x::H2:=by simp
  obtain⟨cs,hc,q⟩:=m.at he hρ;have hlen:2<=cs.size:=q.len;have hr0:AU ρ (AN F.X ρ (H1++GM g p x::H2)) w p (cs.getD 0 undef):=q.rep 0 _ 0 p rfl rfl;have hr1:AU ρ (AN F.X ρ (H1++GM g p x::H2)) w x (cs.getD 1 undef):=q.rep 0 _ 1 x rfl rfl;have hcell:w.cell? ⟨b,0,none⟩=some (cs.getD 0 undef):=by
   simp[World.cell?,hc,Array.getD,show 0<cs.size by omega]
  rcases hp with rfl|rfl
  ·cases hr0':cs.getD 0 undef with
   |pointer a=>
    rw[hr0']at hr0 hcell;cases hr0;refine(sC b cs.size hlen w hcell (by simp[World.shape?,hc]) (by simp[World.frozen?,hc])).mono ?_;rintro e w' ⟨rfl,rfl⟩;have hset:w.setCell ⟨b,0,none⟩ (.pointer (some ⟨b,0,none⟩))=World.setBlk w b (cs.setIfInBounds 0 (.pointer (some ⟨b,0,none⟩))) 200:=by
     rw[setCell_eq_setRow w b 0 cs 200 (0,0) _ hc];exact UN hc
    have hop:AU ρ (AN F.X ρ (H1++GM g (.prim (.pointer none)) x::H2)) w (.optr 1500 g 2 0 0) (.pointer (some ⟨b,0*2+0,none⟩)):=.optr hρ;have ho:De ρ (AN F.X ρ (H1++GM g (.prim (.pointer none)) x::H2)) w (GM g (.optr 1500 g 2 0 0) x) (cs.setIfInBounds 0 (.pointer (some ⟨b,0,none⟩))):=by
     refine⟨by rw[XQ];exact q.len,λi d hd=>?_,λi v hv=>?_,λi d j c hd hj=>?_⟩
     ·rcases i with _|i
      ·cases hd;rfl
      ·simp at hd
     ·rw[Io]at hv
      split at hv
      ·split at hv
       ·cases hv;rfl
       ·cases hv
      ·exact q.one i v hv
     ·rcases i with _|i
      ·cases hd
       rcases j with _|_|j
       ·cases hj
        have:(cs.setIfInBounds 0 (.pointer (some ⟨b,0,none⟩))).getD (0*2+0) undef=.pointer (some ⟨b,0*2+0,none⟩):=by
         simp[Aw,show 0<cs.size by omega]
        rw[this];exact hop
       ·cases hj
        have:(cs.setIfInBounds 0 (.pointer (some ⟨b,0,none⟩))).getD (0*2+1) undef=cs.getD 1 undef:=by
         simp[Aw]
        rw[this];exact hr1
       ·simp[D.cells]at hj
      ·simp at hd
    obtain⟨m1,x1⟩:=m.write (e':=GM g (.optr 1500 g 2 0 0) x) hρ hc rfl rfl rfl (XQ ..) ho;rw[hset];exact⟨_,_,_,n,ρ,rfl,⟨rfl,rfl,rfl⟩,m1,x1,fr,λe' he'=>by
     rcases Bl.1 he' with h|h
     ·exact hgn e' (by simp[h])
     ·rcases A8.1 h with rfl|h
      ·exact hgn (GM g (.prim (.pointer none)) x) he
      ·exact hgn e' (by simp[h]),.prim _⟩
   |_=>rw[hr0']at hr0;cases hr0
  ·cases hr0':cs.getD 0 undef with
   |pointer a=>
    rw[hr0']at hr0 hcell;cases hr0 with
    |optr hρ2=>
     rw[hρ]at hρ2;cases hρ2;refine(uE b w hcell).mono ?_;rintro e w' ⟨rfl,rfl⟩;exact⟨_,_,_,n,ρ,rfl,⟨rfl,rfl,rfl⟩,m,BZ.refl _ _ _,fr,hgn,.prim _⟩
   |_=>rw[hr0']at hr0;cases hr0
theorem lG (w:World)(g n:Nat)(hn:n≠0)(cur:Array Value)(T:Nat)(hg:w.heap[g]?=some (.cells cur T (0,0))):
  (w.freeze ⟨g,0,none⟩ n).heap.size=w.heap.size/\(w.freeze ⟨g,0,none⟩ n).os=w.os/\(w.freeze ⟨g,0,none⟩ n).tape=w.tape/\(w.freeze ⟨g,0,none⟩ n).output=w.output /\
  (∀k,k≠g->(w.freeze ⟨g,0,none⟩ n).heap[k]?=w.heap[k]?)/\∃(cs':Array Value) (fz':Nat×Nat),(w.freeze ⟨g,0,none⟩ n).heap[g]?=some (.cells cs' T fz')/\cs'.size=cur.size:=by
 unfold World.freeze;rw[AG hn];refine⟨by simp,rfl,rfl,rfl,λk hk=>?_,?_⟩
 ·dsimp only
  rw[Array.getElem?_modify,AG (λh=>hk h.symm)]
 ·dsimp only
  rw[Array.getElem?_modify,AH rfl,hg];exact⟨cur,_,rfl,rfl⟩
theorem d9q (g gb n:Nat)(l:List UInt8)(h0:l≠[])(p:D)(R:Hp):
  Cu C0 150 [.optr 1500 g 2 0 0] (⟨206,gb,5,1,GX l⟩::GM g p (.osl 206 gb 1 0 l.length)::R) n (λd H' n'=>d=str ⟨l.toArray⟩/\H'=GM g p (.osl 206 gb 1 0 l.length)::R/\n'=n):=by
 refine⟨⟨_,_,Tryz.func150,rfl,by kernel_rfl⟩,λF ρ w vs m fr hgn hvs hr=>?_⟩;have hz:=hr 0 _ rfl;have h0':l.length≠0:=by simpa using h0
 rw[jf hvs];generalize hv:vs.getD 0 undef=v at hz;cases hz with
 |optr hρ=>
  rename_i b;obtain⟨cs,hc,q⟩:=m.at (e:=GM g p (.osl 206 gb 1 0 l.length)) (by simp) hρ;have hlen:2<=cs.size:=q.len;have hr1:AU ρ (AN F.X ρ (⟨206,gb,5,1,GX l⟩::GM g p (.osl 206 gb 1 0 l.length)::R)) w (.osl 206 gb 1 0 l.length) (cs.getD 1 undef):=q.rep 0 _ 1 (.osl 206 gb 1 0 l.length) rfl rfl;generalize hs1:cs.getD 1 undef=sv at hr1;generalize hL:l.length=L at hr1;cases hr1 with
   |onil=>exact Ak hL h0'
   |osl hρ2 hb2 hc2 hs2 hm2=>
    rename_i cap gy T' cs2 fz2;obtain⟨cur,hcur,qy⟩:=m.at (e:=⟨206,gb,5,1,GX l⟩) (by simp) hρ2;rw[hb2]at hcur;cases hcur;have hcap:cap=cs2.size:=by omega
    subst hcap;have hcell:∀(j:Nat) (x:UInt8),l[j]?=some x->cs2[j]?=some (.int .u8 x.toNat):=λj x hx=>by
     have hr:=qy.rep j (.prim (.int .u8 (x.toNat:Int))) 0 (.prim (.int .u8 (x.toNat:Int))) (by unfold GX;rw[BC,hx];rfl) rfl;have hlt:j<cs2.size:=by
      have:=(BT.1 hx).1
      omega
     generalize hvv:cs2.getD (j*1+0) undef=vv at hr;cases hr;rw[B9 hlt]
     have:cs2.getD j undef=cs2[j]:=by simp[Array.getD,hlt]
     rw[Ea,D9,this]at hvv;rw[hvv]
    have hb1:cs[1]?=some (.slice (some ⟨gy,0,none⟩) l.length cs2.size):=by
     have hlt:1<cs.size:=by omega
     rw[B9 hlt]
     have:cs.getD 1 undef=cs[1]:=by simp[Array.getD,hlt]
     rw[this]at hs1;rw[hs1,hL,Hi]
    refine(e0h b gy cs2 cs l h0 w hc hb1 hb2 (by omega) (by omega) hcell).mono ?_;rintro e w' ⟨rfl,rfl⟩;have md:=m.drew;obtain⟨f1,f2,f3,f4,f5,cs',fz',f6,f7⟩:=lG w.drew gy l.length h0' cs2 5 hb2;obtain⟨m1,x1⟩:=e1t (H1:=[]) (H2:=GM g p (.osl 206 gb 1 0 l.length)::R) (w':=w.drew.freeze ⟨gy,0,none⟩ l.length) md hρ2 f1 f2 f3 f4 f5 (λc hcc=>by
     have hb2':w.drew.heap[gy]?=some (.cells cs2 5 (0,0)):=hb2;have hcc':w.drew.heap[gy]?=some (.cells c 5 (0,0)):=hcc;rw[hb2']at hcc';cases hcc';exact⟨cs',fz',f6,f7⟩)
    rw[hL];rw[hL]at m1 x1;exact⟨_,_,_,n,ρ,rfl,⟨rfl,rfl,rfl⟩,m1,(BZ.drew _ _ _).trans x1,fr,λe' he'=>hgn e' (by rw[hL];exact CA _ he'),.prim _⟩
set_option maxRecDepth 20000
set_option maxHeartbeats 4000000
def bH (gb g:Nat)(p:D)(L:List UInt8)(R:Hp):Hp:=EI 206 gb 5 1 (GX L)++(GM g p (EO 206 gb 1 (GX L))::R)
theorem nN (s:List UInt8):I8 (sb s)=GX s:=rfl
theorem Ov (l:List UInt8):(GX l).length=l.length:=Ai ..
theorem nM (a b:List UInt8):GX (a++b)=GX a++GX b:=DN
theorem ZY {l:List UInt8}(h:l≠[]):∃x r,GX l=x::r:=by
 cases l with
 |nil=>exact Ak rfl h
 |cons a l=>exact⟨_,_,rfl⟩
theorem jx (g gb n:Nat)(p:D)(hp:p=.prim (.pointer none)\/p=.optr 1500 g 2 0 0)(L s:List UInt8)(hs:s≠[])(R:Hp)(hlen:L.length+s.length<=100000000):
  Cu C0 149 [.optr 1500 g 2 0 0,str (sb s)] (bH gb g p L R) n (λd H' n'=>(∃g',H'=bH g' g (.optr 1500 g 2 0 0) (L++s) R)/\n<=n'):=by
 refine Cu.walk w1 fV rfl λF=>?_
 have hsz:=Cx s;have hb:=nN s;obtain⟨x,r,hx⟩:=ZY hs;have hr:s.length=r.length+1:=by rw[<-Ov,hx];rfl
 unfold bH;rw[nM];cases hL:GX L with
 |nil=>
  dsimp only[IR,IS,List.nil_append];refine AI AZ kB AB AB AB AB AB AB ?_;refine BF.own _ (jh g _ Cb p [] R hp) ?_;rintro d H' n' ⟨rfl,rfl,rfl⟩;have hL0:L.length=0:=by rw[<-Ov,hL];rfl
  refine AI AZ (Ad hsz hb) AB AB AB AB AB AB ?_;refine⟨?_,by omega⟩;apply Exists.intro;rw[hx,hr];rfl
 |cons y l=>
  dsimp only[Gv,Gw,List.cons_append,List.nil_append];have hL1:L.length=l.length+1:=by rw[<-Ov,hL];rfl
  have htk:List.take (l.length+1) (y::l)=y::l:=by simp
  refine AI AZ kB AB AB AB AB AB AB ?_;refine BF.own _ (jh g _ (.osl 206 gb 1 0 (l.length+1)) p [⟨206,gb,5,1,y::l⟩] R hp) ?_;rintro d H' n' ⟨rfl,rfl,rfl⟩;refine AI AZ (Ar hsz hb htk) AB AB AB AB AB AB ?_;refine⟨?_,by omega⟩;apply Exists.intro;have hap:y::l++GX s=y::(l++GX s):=rfl;have hl2:(l++GX s).length+1=l.length+1+s.length:=by rw[Be,Ov];omega
  rw[hl2]
open Go.Sort Go.Shelf
section
open Go.Lib
set_option maxHeartbeats 6400000 in
set_option maxRecDepth 100000 in
theorem e0p (u:Nat) (hu64:u<18446744073709551616) (w:World) (htab:Lib.TabIs Tryz.prog w "internal/strconv.uint64pow10" .u64 Lib.pow10Tab):
  Calls Tryz.prog 204 #[.int .u64 u,.int .i64 10] w λe w'=>e=.returned (.string ⟨(Lib.decDigits u).toArray⟩)/\∃k os,w'=grow (w.drewN k) os:=by
 have e283:∀args w,(callFunc 236 args).run Tryz.prog w=.ok (.enter 236 args) w:=enters_of Tryz.func236 (by kernel_rfl) rfl;have e284:∀args w,(callFunc 237 args).run Tryz.prog w=.ok (.enter 237 args) w:=enters_of Tryz.func237 (by kernel_rfl) rfl;have e285:∀args w,(callFunc 238 args).run Tryz.prog w=.ok (.enter 238 args) w:=enters_of Tryz.func238 (by kernel_rfl) rfl
 by_cases hs:u<100
 ·go_enter Tryz.func204,Tryz.ntmps204
  go_wp2_with (go_at_fn 236;refine(Tryz.internal_strconv_small u hs _).mono ?_;rintro e w' ⟨rfl,rfl⟩)
  go_ret
  exact⟨rfl,0,#[],by simp[World.drewN_zero]⟩
 ·have hu1:1<=u:=by omega
  have hnd20:Lib.nDigits u<=20:=by have:=Lib.numDigits_eq u hu1 hu64;split at this<;>omega
  have hb3:Lib.nDigits u<=24:=by omega
  have hal:Tryz.prog.arrayLen 264=24:=by kernel_rfl
  have hsl1:∀W,(Instr.sliceAt 264 (.pointer (some ⟨w.heap.size,0,none⟩)) none (some (.int .i64 (Lib.nDigits u:Int))) none).run Tryz.prog W=.ok (.slice (some ⟨w.heap.size,0,none⟩) (Lib.nDigits u) 24) W:=λW=>by
   rw[run_sliceAt_array_h W 264 ⟨w.heap.size,0,none⟩ (by kernel_rfl) .i64 (Lib.nDigits u:Int) (by omega) (by rw[hal];omega)]
   go_simp
  have hH0:=Lib.holds_zero0 w 264 (Lib.nDigits u) (by omega);have hfmt:=Tryz.internal_strconv_formatBase10 w.heap.size 0 24 u (Array.replicate (Lib.nDigits u) 0) (w.alloc (.cells Lib.zeros24 264)) hH0 (by rw[TX];exact Lib.lt_pow_nDigits u) hu64 (by rw[TX];omega);rw[TX]at hfmt;have HH0:=Lib.hid hH0;clear hH0 hal
  go_enter Tryz.func204,Tryz.ntmps204
  go_wp2_with (first
   |(go_at_fn 237;refine(Tryz.internal_strconv_numDigits u hu1 hu64 _ (Lib.tabIs_alloc htab _)).mono ?_;rintro e w' ⟨rfl,rfl⟩))
  go_at_fn 238
  refine hfmt.mono ?_;rintro e w' ⟨rfl,k,v',dk,rfl,hF⟩;have hcv:(convert 198 9 (.slice (some ⟨w.heap.size,0,none⟩) (Lib.nDigits u) 24)).run Tryz.prog ((putRow (λ(b:UInt8)=>Value.int .u8 (b.toNat:Int)) (w.alloc (.cells Lib.zeros24 264)) w.heap.size 0 dk).drewN k)=.ok (.string ⟨(Lib.decDigits u).toArray⟩) ((putRow (λ(b:UInt8)=>Value.int .u8 (b.toNat:Int)) (w.alloc (.cells Lib.zeros24 264)) w.heap.size 0 dk).drewN k):=by
   have h:=run_convert_bytes_back (P:=Tryz.prog) ((putRow (λ(b:UInt8)=>Value.int .u8 (b.toNat:Int)) (w.alloc (.cells Lib.zeros24 264)) w.heap.size 0 dk).drewN k) 198 9 5 ⟨w.heap.size,0,none⟩ 24 (Lib.decDigits u) (by kernel_rfl) (by kernel_rfl) (by kernel_rfl) (λj hj=>by
    rw[Lib.row_is_numeral hF j hj,Lib.add_plain,World.cell?_drewN];exact cell?_putRow (λ(b:UInt8)=>Value.int .u8 (b.toNat:Int)) _ w.heap.size 0 _ dk HH0.out (by rw[hF.size,TX]) j (by rw[hF.size];rw[Lib.decDigits_length]at hj;exact hj))
   rw[Lib.decDigits_length]at h;exact h
  go_wp2
  go_ret
  obtain⟨os,eo⟩:=Lib.fin_at w (.cells Lib.zeros24 264) dk k 0;exact⟨rfl,k,os,eo⟩
end
theorem mL {O:Nat->Prop}{w:World}{v u:Value}{vs:Array Value}(hn:vs.size=2)(h:∀(i:Nat) (x:D),[D.prim v,.prim u][i]?=some x->AU nol O w x (vs.getD i undef)):vs = #[v,u]:=by
 match vs,hn with
 |⟨[a,b]⟩,_=>
  have h0:=h 0 _ rfl;have h1:=h 1 _ rfl;simp at h0 h1;cases h0;cases h1;rfl
theorem rW (u:Nat)(hu:u<18446744073709551616):AK C0 204 [.prim (.int .u64 (u:Int)),i64 10] (str ⟨(Lib.decDigits u).toArray⟩):=by
 refine⟨⟨_,_,Tryz.func204,rfl,by kernel_rfl⟩,λY w vs hG hnG hX hvs hr=>?_⟩
 have:=mL hvs hr
 subst this;refine(e0p u hu w hG).mono ?_;rintro e w' ⟨rfl,k,os,rfl⟩;exact⟨_,_,rfl,Lib.below_grow _ _ (An _) _ _,rfl,.prim _⟩
theorem uU (u:Nat)(hu:u<18446744073709551616):AK C0 147 [.prim (.int .u64 (u:Int)),i64 10] (str ⟨(Lib.decDigits u).toArray⟩):=by
 refine Af.walk w1 fU rfl λF=>?_
 refine AI AZ kB (rW u hu) AB AB AB AB AB ?_;exact AM rfl AA.out
theorem rp0:AK C0 148 [str ⟨#[48]⟩,i64 0] (str ⟨#[]⟩):=CZ D7 400 20
theorem rp1:AK C0 148 [str ⟨#[48]⟩,i64 1] (str ⟨#[48]⟩):=CZ D7 400 20
theorem rp2:AK C0 148 [str ⟨#[48]⟩,i64 2] (str ⟨#[48,48]⟩):=CZ D7 400 20
theorem rp3:AK C0 148 [str ⟨#[48]⟩,i64 3] (str ⟨#[48,48,48]⟩):=CZ D7 400 20
theorem rp4:AK C0 148 [str ⟨#[48]⟩,i64 4] (str ⟨#[48,48,48,48]⟩):=CZ D7 400 20
theorem rp5:AK C0 148 [str ⟨#[48]⟩,i64 5] (str ⟨#[48,48,48,48,48]⟩):=CZ D7 400 20
theorem rp6:AK C0 148 [str ⟨#[48]⟩,i64 6] (str ⟨#[48,48,48,48,48,48]⟩):=CZ D7 400 20
theorem rp7:AK C0 148 [str ⟨#[48]⟩,i64 7] (str ⟨#[48,48,48,48,48,48,48]⟩):=CZ D7 400 20
theorem rp8:AK C0 148 [str ⟨#[48]⟩,i64 8] (str ⟨#[48,48,48,48,48,48,48,48]⟩):=CZ D7 400 20
theorem rp9:AK C0 148 [str ⟨#[48]⟩,i64 9] (str ⟨#[48,48,48,48,48,48,48,48,48]⟩):=CZ D7 400 20
theorem e0R:AK C0 148 [str ⟨#[48]⟩,i64 10] (str ⟨#[48,48,48,48,48,48,48,48,48,48]⟩):=CZ D7 400 20
theorem e0S:AK C0 148 [str ⟨#[48]⟩,i64 11] (str ⟨#[48,48,48,48,48,48,48,48,48,48,48]⟩):=CZ D7 400 20
theorem e0T:AK C0 148 [str ⟨#[48]⟩,i64 12] (str ⟨#[48,48,48,48,48,48,48,48,48,48,48,48]⟩):=CZ D7 400 20
theorem e0U:AK C0 148 [str ⟨#[48]⟩,i64 13] (str ⟨#[48,48,48,48,48,48,48,48,48,48,48,48,48]⟩):=CZ D7 400 20
theorem e0V:AK C0 148 [str ⟨#[48]⟩,i64 14] (str ⟨#[48,48,48,48,48,48,48,48,48,48,48,48,48,48]⟩):=CZ D7 400 20
theorem e0W:AK C0 148 [str ⟨#[48]⟩,i64 15] (str ⟨#[48,48,48,48,48,48,48,48,48,48,48,48,48,48,48]⟩):=CZ D7 400 20
theorem e0X:AK C0 148 [str ⟨#[48]⟩,i64 16] (str ⟨#[48,48,48,48,48,48,48,48,48,48,48,48,48,48,48,48]⟩):=CZ D7 400 20
theorem e0Y:AK C0 148 [str ⟨#[48]⟩,i64 17] (str ⟨#[48,48,48,48,48,48,48,48,48,48,48,48,48,48,48,48,48]⟩):=CZ D7 400 20
theorem s8 (n:Nat)(h:n<=17):AK C0 148 [str ⟨#[48]⟩,i64 (n:Int)] (str ⟨(List.replicate n 48).toArray⟩):=by
 match n,h with
 | 0,_=>exact rp0
 | 1,_=>exact rp1
 | 2,_=>exact rp2
 | 3,_=>exact rp3
 | 4,_=>exact rp4
 | 5,_=>exact rp5
 | 6,_=>exact rp6
 | 7,_=>exact rp7
 | 8,_=>exact rp8
 | 9,_=>exact rp9
 | 10,_=>exact e0R
 | 11,_=>exact e0S
 | 12,_=>exact e0T
 | 13,_=>exact e0U
 | 14,_=>exact e0V
 | 15,_=>exact e0W
 | 16,_=>exact e0X
 | 17,_=>exact e0Y
 |n+18,h=>omega
theorem r6 {H Hf r r':Hp}{K g T sz:Nat}{l:List D}(h:Cz H Hf r r'):Cz H Hf (EI K g T sz l++r) r':=by
 cases l with
 |nil=>exact h
 |cons x l=>exact .drop h
set_option maxHeartbeats 8000000
def Gd (q r:Nat):List UInt8:=if q=0 then Lib.decDigits r else List.replicate (18-(Lib.decDigits r).length) 48++Lib.decDigits r
theorem Zw:Lib.decDigits 0=[48]:=by unfold Lib.decDigits;rfl
theorem Ph (n:Nat):Lib.decDigits n≠[]:=(FB n).2.2
theorem qG (q r:Nat):Gd q r≠[]:=by
 unfold Gd;split
 ·exact Ph r
 ·intro h;exact Ph r (List.append_eq_nil_iff.1 h).2
theorem nq {q r:Nat}(hq:q≠0):Gd q r=Fd 18 r []:=by
 unfold Gd Fd M5;rw[AG hq]
 by_cases h:r=0
 ·subst h;rw[Zw,AH rfl];rfl
 ·rw[AG h,Du]
theorem oy (B q r:Nat)(hB:B=10^18)(hr:r<B):Lib.decDigits (q*B+r)=if q=0 then Gd q r else Lib.decDigits q++Gd q r:=by
 by_cases hq:q=0
 ·subst hq;rw[AH rfl];unfold Gd;rw[AH rfl,Hi,BW]
 ·rw[AG hq,nq hq,hB]
  exact VO 18 q r hq (by rw[<-hB];exact hr)
def Et (P:List (List UInt8)):List UInt8:=P.reverse.flatten
theorem YV (P:List (List UInt8))(p:List UInt8):Et (P++[p])=p++Et P:=by unfold Et;simp
theorem WP (a b:List UInt8):sb a++sb b=sb (a++b):=by
 apply ByteArray.ext;simp[ByteArray.data_append]
theorem n9 {P:List (List UInt8)}(h:∀p∈P,p≠[]):P.length<=(Et P).length:=by
 unfold Et;rw[List.length_flatten,<-List.length_reverse];generalize hQ:P.reverse=Q;have h':∀p∈Q,p≠[]:=λp hp=>h p (by rw[<-hQ]at hp;exact List.mem_reverse.1 hp)
 clear hQ h
 induction Q with
 |nil=>exact An _
 |cons a r ih=>
  have h1:=ih λp hp=>h' p (CA _ hp)
  have h2:a.length≠0:=λq=>h' a B3 (FT q)
  rw[Ci,List.sum_cons,Br];omega
structure Nr (n m:Nat)(P:List (List UInt8)):Prop where
 ne:m≠0->Lib.decDigits n=Lib.decDigits m++Et P
 eq:m=0->Lib.decDigits n=Et P
 all:∀p∈P,p≠[]
 le:m<=n
theorem Nr.len {n m:Nat}{P:List (List UInt8)}(h:Nr n m P):P.length<=(Lib.decDigits n).length:=by
 have h1:=n9 h.all
 by_cases q:m=0
 ·rw[h.eq q];exact h1
 ·rw[h.ne q,Be];omega
theorem Nr.step {n m:Nat}{P:List (List UInt8)}{B:Nat}(h:Nr n m P)(hm:m≠0)(hB:B=10^18):Nr n (m/B) (P++[Gd (m/B) (m%B)]):=by
 have hB0:0<B:=by rw[hB];decide
 have hd:=oy B (m/B) (m%B) hB (CH _ hB0);rw[show m/B*B+m%B=m by rw[Bb];exact FH m B]at hd;have hn:=h.ne hm;rw[hd]at hn;refine⟨λq=>?_,λq=>?_,λp hp=>?_,BU (GP _ _) h.le⟩
 ·rw[AG q]at hn;rw[hn,YV,Dh]
 ·rw[AH q]at hn;rw[hn,YV]
 ·rcases Bl.1 hp with hp|hp
  ·exact h.all p hp
  ·rw[D4]at hp;subst hp;exact qG _ _
abbrev F8 (P:List (List UInt8)):List D:=P.map λp=>str (sb p)
theorem Uz (x:GI)(h:x.wf)(hf:x.few):AK C0 109 [x.D] (str (sb (Lib.itoa x.z))):=by
 refine Af.walk w1 dU rfl λF=>?_
 obtain⟨z,sm⟩:=x;obtain⟨h1,h2⟩:=h;have hp:=KE ⟨z,sm⟩ ⟨h1,h2⟩;dsimp only[GI.D,GI.few]at*;cases sm with
 |true=>
  obtain⟨h3,h4⟩:=h1 rfl;have c:AK C0 144 [i64 z] (str (sb (Lib.itoa z))):=sw z h3 (by omega);unfold GI.s GI.w;dsimp only;refine AI AZ kB c AB AB AB AB AB ?_;exact AM rfl AA.out
 |false=>
  have hz:=h2 rfl;have hz0:z.natAbs≠0:=λq=>hz (by obtain rfl:z=0:=(by omega);exact zC rfl)
  have hw:GI.w ⟨z,false⟩=wD z.natAbs:=rfl;have hs:GI.s ⟨z,false⟩=if z<0 then -1 else 1:=rfl
  rw[hw]at hp⊢;obtain⟨sg,hsg⟩:∃s,GI.s ⟨z,false⟩=s:=⟨_,rfl⟩
  rw[hsg]at hp⊢;obtain⟨B,hB⟩:∃B:Nat,B=10^18:=⟨_,rfl⟩
  have hB1:B<BB:=by rw[hB];decide
  have hB0:B≠0:=by rw[hB];decide
  have hB2:1<B:=by rw[hB];decide
  have hBs:u64 1000000000000000000=AS B:=by rw[hB];rfl
  have hBl:Ae B=[B]:=NN hB0 hB1;obtain⟨n,hn⟩:∃n,z.natAbs=n:=⟨_,rfl⟩
  obtain⟨neg,hneg⟩:∃b,decide (z<0)=b:=⟨_,rfl⟩
  rw[hn]at hp hf hz0⊢;rw[hneg]at hp;have hit:Lib.itoa z=(if neg then[45]else[])++Lib.decDigits n:=by
   unfold Lib.itoa
   by_cases q:z<0
   ·rw[AH q,<-hneg,Ax q,hn];rfl
   ·rw[AG q,<-hneg,Ay q,<-hn]
    have:z.toNat=z.natAbs:=by omega
    rw[this];rfl
  rw[hit];have hDL:(Lib.decDigits n).length<=27*1000000+1:=Nl (k:=1000000) (by omega);have hmpos:∀m:Nat,m≠0->decide ((((Ae m).map AS).length:Int)>0)=true:=λm hm=>Ax (by
   rw[Gx hm,Ci,Br];omega)
  have hm0:decide ((((Ae 0).map AS).length:Int)>0)=false:=Ay (by rw[GW];decide);obtain⟨w0,ws,hws⟩:∃a l,(Ae n).map AS=a::l:=by
   cases hl:(Ae n).map AS with
   |nil=>exact Ak hl (IT hz0)
   |cons a l=>exact⟨a,l,rfl⟩
  have hwD:wD n=.sl false 1 (w0::ws):=by unfold wD wL;rw[hws]
  have hbD:wD B=.sl false 1 [u64 1000000000000000000]:=by unfold wD wL;rw[hBl,hBs];rfl
  have pw:AA (.sl false 1 (w0::ws)):=by rw[<-hwD];exact AJ
  rw[hwD]at hp⊢;clear hit h1 h2 hz hs hsg;have hne:(w0::ws≠[])=True:=eq_true (List.cons_ne_nil _ _);refine AI AZ hne hp AB AB AB AB AB ?_;rw[<-hwD];refine AC.loop (α:=Nat×List (List UInt8)×Nat×Nat) (λp=>⟨[(3,Ap neg),(4,wD p.1),(5,wD B),(6,EO 1303 p.2.2.1 1 (F8 p.2.1))],EI 1303 p.2.2.1 9 1 (F8 p.2.1),p.2.2.2⟩) (λp=>p.1)
   (λp=>Nr n p.1 p.2.1) (n,[],0,_) ⟨λ_=>by unfold Et;simp,λq=>Ak q hz0,λp hp=>Ak hp Dw,An _⟩ (by refine⟨.drop .nil,⟨.refl _,.refl _,?_,.refl _,trivial⟩,An _⟩;dsimp only;rw[hbD];exact .nn true 1 _) ?_
  rintro⟨m,P,g,cnt⟩ F I;dsimp only at I⊢;have hPl:=I.len;rcases Nat.decEq m 0 with hm|hm
  rotate_left
  ·subst hm
   have hdn:=I.eq rfl;have hall:=I.all;have hLn:P.length<=27000001:=by omega
   have hP0:P≠[]:=λq=>Ph n (by rw[hdn,q];rfl)
   obtain⟨N,hN⟩:∃N,P.length=N:=⟨_,rfl⟩
   have hN0:N≠0:=λq=>hP0 (FT (by omega))
   rw[hdn];clear hwD hbD pw hp hn hPl I;have elP:(((F8 P).length:Nat):Int)=(N:Int):=by rw[Ai,hN]
   have wN:IntKind.i64.wrap ((N:Int)-1)=((N:Int)-1):=wI;refine AC.seq ?_;refine sZ 600 ?_;refine AV hm0 ?_;refine AO ?_;refine CL ?_;refine AC.weak ⟨[(3,Ap neg),(6,.sl false 1 (F8 P))],[],_⟩ ⟨?_,⟨.refl _,?_,trivial⟩,An _⟩ ?_
   ·have:=r6 (K:=1303) (g:=g) (T:=9) (sz:=1) (l:=F8 P) (r:=[]) (r':=[]) (H:=EI 1303 g 9 1 (F8 P)) (Hf:=[]) .nil
    rwa [Du]at this
   ·exact SB _ _ _ _ _
   obtain⟨c0,hc0⟩:∃c,c=cnt+1+1+1:=⟨_,rfl⟩
   rw[<-hc0];refine sR 1500 ?_;obtain⟨c1,hc1⟩:∃c,c=c0+1:=⟨_,rfl⟩
   refine DM (α:=D×Nat×Nat) (λq=>⟨[(6,.sl false 1 (F8 P)),(10,.optr 1500 c0 2 0 0)],bH q.2.1 c0 q.1 (if neg then[45]else[]) [],q.2.2⟩) (λq=>q.1=.prim (.pointer none)\/q.1=.optr 1500 c0 2 0 0) ?_ ?_
   ·cases neg
    ·refine AI AZ kB AB AB AB AB AB AB ?_
     exact⟨by trivial,(.prim (.pointer none),0,_),.inl rfl,AL⟩
    ·refine AI AZ kB AB AB AB AB AB AB ?_
     refine BF.own _ (jx c0 0 _ (.prim (.pointer none)) (.inl rfl) [] [45] (by decide) [] (by decide)) ?_;rintro d H' n' ⟨⟨g',rfl⟩,hn'⟩;refine BS ?_;exact⟨by trivial,(.optr 1500 c0 2 0 0,g',_),.inr rfl,AL⟩
   rintro⟨p0,gb0,c2⟩ hp0;dsimp only at hp0⊢;obtain⟨pre,hpre⟩:∃l,(if neg then[45]else[]:List UInt8)=l:=⟨_,rfl⟩
   have hpl:pre.length<=1:=by rw[<-hpre];split<;>decide
   rw[hpre];refine AI AZ (Ad elP @wN) AB AB AB AB AB AB ?_;refine AC.loop (α:=Nat×D×Nat×Nat) (λq=>⟨[(6,.sl false 1 (F8 P)),(10,.optr 1500 c0 2 0 0),(11,i64 ((q.1:Int)-1))],bH q.2.2.1 c0 q.2.1 (pre++Et (P.drop q.1)) [],q.2.2.2⟩) (λq=>q.1)
    (λq=>q.1<=N/\(q.2.1=.prim (.pointer none)\/q.2.1=.optr 1500 c0 2 0 0)) (N,p0,gb0,_) ⟨An _,hp0⟩ (by dsimp only;rw[<-hN,Jx];unfold Et;rw[List.reverse_nil,List.flatten_nil,Du];exact AL) ?_
   rintro⟨k,p,gb,c3⟩ F ⟨hk,hp⟩;dsimp only at hk hp⊢;have hjl:∀k,(Et (P.drop k)).length<=(Et P).length:=λk=>by
    unfold Et
    conv=>rhs;rw[<-FF k P]
    rw[List.reverse_append,List.flatten_append,Be];omega
   have hjP:(Et P).length<=27000001:=by rw[<-hdn];omega
   rcases EL k with hk0|hk0
   ·subst hk0
    have e1:decide ((((0:Nat):Int)-1)>=0)=false:=by decide
    rw[GQ];have hL:pre++Et P≠[]:=λq=>by
     have:=(List.append_eq_nil_iff.1 q).2
     rw[<-hdn]at this;exact Ph n this
    obtain⟨L,hLL⟩:∃L,pre++Et P=L:=⟨_,rfl⟩
    rw[hLL]at hL⊢;obtain⟨y,r,hy⟩:=ZY hL;have hlr:L.length=r.length+1:=by rw[<-Ov,hy];rfl
    refine AI AZ e1 AB AB AB AB AB AB ?_;refine BF.own _ (by
     have:=λn=>d9q c0 gb n L hL p []
     unfold bH;simp only[hy,hlr]at this⊢;exact this _) ?_
    rintro d H' n' ⟨rfl,rfl,rfl⟩;refine AI AZ kB AB AB AB AB AB AB ?_;exact AM rfl AA.out
   ·obtain⟨k',rfl⟩:∃k',k=k'+1:=⟨k-1,by omega⟩
    have e1:decide ((((k'+1:Nat):Int)-1)>=0)=true:=Ba;have e2:(((k'+1:Nat):Int)-1)=(k':Int):=by omega
    have wk:IntKind.i64.wrap ((k':Int)-1)=((k':Int)-1):=wI;have e3:decide ((k':Int)>=0)=true:=Ba;obtain⟨t,ht⟩:∃t,P[k']?=some t:=CQ (by omega);have hm:(F8 P)[k']?=some (str (sb t)):=by rw[BC,ht];rfl
    have htn:=hall t (Av ht);have hdr:P.drop k'=t::P.drop (k'+1):=by
     rw[E5 (BT.1 ht).1,(BT.1 ht).2]
    have hj:pre++Et (P.drop k')=pre++Et (P.drop (k'+1))++t:=by
     rw[hdr,Dh]
     congr 1
     unfold Et;rw[List.reverse_cons,List.flatten_append];simp
    have hlt:(pre++Et (P.drop (k'+1))).length+t.length<=100000000:=by
     have h1:=hjl k';have h2:(pre++Et (P.drop k')).length=(pre++Et (P.drop (k'+1))).length+t.length:=by rw[hj,Be]
     rw[<-h2,Be];omega
    rw[e2];refine AI AZ (Ad e3 kN) hm AB AB AB AB AB ?_;refine BF.own _ (jx c0 gb _ p hp (pre++Et (P.drop (k'+1))) t htn [] hlt) ?_;rintro d H' n' ⟨⟨g',rfl⟩,hn'⟩;refine BS ?_;refine AI AZ wk AB AB AB AB AB AB ?_;exact⟨(k',.optr 1500 c0 2 0 0,g',_),⟨by dsimp only;omega,.inr rfl⟩,by dsimp only;omega,by(dsimp only;rw[hj];exact AL)⟩
  have e1:=hmpos m hm;have c1:=jk m B hB0 (Dc (IM m n I.le) hf) (by rw[hBl];show 1<1000000;decide);have I2:=I.step hm hB;obtain⟨q,hq⟩:∃q,m/B=q:=⟨_,rfl⟩
  obtain⟨r,hr⟩:∃q,m%B=q:=⟨_,rfl⟩
  have hqm:q<m:=by rw[<-hq];exact Ip (EZ hm) hB2
  have hrB:r<B:=by rw[<-hr];exact CH _ (EZ hB0)
  rw[hq,hr]at c1 I2;have hsz:=Cx (Lib.decDigits r);have hdl:(Lib.decDigits r).length<=18:=ME 17 r (by rw[hB]at hrB;exact hrB);have hdl1:(Lib.decDigits r).length≠0:=λh=>Ph r (FT h)
  refine AI AZ e1 AB AB AB AB AB AB ?_;refine cI c1 ?_;refine sR 800 ?_;refine DM (α:=Nat) (λcnt=>⟨[(3,Ap neg),(5,wD B),(6,EO 1303 g 1 (F8 P)),(7,wD q),(9,str (sb (Lib.decDigits r)))],EI 1303 g 9 1 (F8 P),cnt⟩) (λ_=>True) ?_ ?_
  ·rcases Nat.decEq r 0 with h0|h0
   ·have e2:=hmpos r h0
    have hl1:Ae r=[r]:=NN h0 (Gl hrB hB1);have hmm:((Ae r).map AS)[0]?=some (u64 (r:Int)):=by rw[hl1];rfl
    have c2:=uU r (Gl hrB hB1);refine AI AZ e2 hmm c2 AB AB AB AB ?_;exact⟨by trivial,_,trivial,AL⟩
   ·subst h0
    rw[Zw];refine AI AZ hm0 AB AB AB AB AB AB ?_;exact⟨by trivial,_,trivial,AL⟩
  rintro cnt2 -;refine DM (α:=Nat) (λcnt=>⟨[(3,Ap neg),(5,wD B),(6,EO 1303 g 1 (F8 P)),(7,wD q),(9,str (sb (Gd q r)))],EI 1303 g 9 1 (F8 P),cnt⟩) (λ_=>True) ?_ ?_
  ·rcases Nat.decEq q 0 with h0|h0
   ·have e2:=hmpos q h0
    have c2:AK C0 148 [str ⟨#[48]⟩,i64 ((18-(Lib.decDigits r).length:Nat):Int)] (str (sb (List.replicate (18-(Lib.decDigits r).length) 48))):=s8 (18-(Lib.decDigits r).length) (by omega);have w18:IntKind.i64.wrap (18-((Lib.decDigits r).length:Int))=((18-(Lib.decDigits r).length:Nat):Int):=by rw[wI];omega
    have hap:=WP (List.replicate (18-(Lib.decDigits r).length) 48) (Lib.decDigits r);have hsz2:=Cx (List.replicate (18-(Lib.decDigits r).length) 48);have hpt:List.replicate (18-(Lib.decDigits r).length) 48++Lib.decDigits r=Gd q r:=by unfold Gd;rw[AG h0]
    rw[hpt]at hap;have hsize:(sb (List.replicate (18-(Lib.decDigits r).length) 48)).size+(sb (Lib.decDigits r)).size<=9223372036854775807:=by
     rw[hsz,hsz2,JN];omega
    refine AI AZ (Bd e2 hsz w18 hap) c2 AB AB AB AB AB ?_;exact⟨by trivial,_,trivial,AL⟩
   ·subst h0
    have hpt:Gd 0 r=Lib.decDigits r:=AH rfl;rw[hpt];refine AI AZ hm0 AB AB AB AB AB AB ?_;exact⟨by trivial,_,trivial,AL⟩
  rintro cnt3 -;have hsn:F8 (P++[Gd q r])=F8 P++[str (sb (Gd q r))]:=by unfold F8;rw[DN];rfl
  have hPL:(F8 P).length=P.length:=Ai ..;rcases hPD:F8 P with _|⟨y,l⟩
  all_goals
   rw[hPD]at hsn hPL;dsimp only[IR,IS,Gv,Gw,List.nil_append]
  ·refine AI AZ kB AB AB AB AB AB AB ?_
   exact⟨(q,P++[Gd q r],_,_),I2,hqm,by(dsimp only;rw[hsn];exact AL)⟩
  ·have htk:List.take (l.length+1) (y::l)=y::l:=by simp
   have hll:l.length+1<=27000001:=by rw[Br]at hPL;omega
   refine AI AZ htk AB AB AB AB AB AB ?_;exact⟨(q,P++[Gd q r],_,_),I2,hqm,by(dsimp only;rw[hsn,Ou];exact AL)⟩
abbrev ak:Dr:=[(3,[0,1,2,3,4,5,6],[7,8])]
open Go.Proofs Go.RowKit
set_option maxRecDepth 20000
set_option maxHeartbeats 4000000
theorem qc (x:Nat)(hx:x<BB):AK C0 160 [AS x] (i64 (Lib.bitLen x:Int)):=by
 refine⟨⟨_,_,Tryz.func160,rfl,by kernel_rfl⟩,λY w vs hG hnG hX hvs hr=>?_⟩
 have:=RO hvs hr
 subst this;refine(Tryz.bits_Len64 x w (by omega) (by unfold BB at hx;omega)).mono ?_;rintro e w' ⟨rfl,rfl⟩;exact⟨_,_,rfl,.refl _ _,rfl,.prim _⟩
def Fm (n:Nat):Nat:=(Ae n).getD ((Ae n).length-1) 0
def JC (n:Nat):Nat:=if n=0 then 0 else 64*((Ae n).length-1)+Lib.bitLen (Fm n)
theorem rq (n:Nat):n<2^JC n:=by
 unfold JC
 by_cases h:n=0
 ·subst h;rw[AH rfl];decide
 ·rw[AG h]
  have hl:(Ae n).length≠0:=λq=>by
   have:=Gx h
   rw[this]at q;simp at q
  obtain⟨k,hk⟩:∃k,(Ae n).length=k+1:=⟨(Ae n).length-1,by omega⟩
  have hat:(Ae n)[k]?=some (Fm n):=by
   unfold Fm;rw[hk,JP,EM,Ct];rfl
  have hv:=LS hat;rw[IG (by omega),Fc]at hv;have ht:Fm n<BB:=F6 n _ (Av hat);have h1:AT ((Ae n).take k)<BB^k:=by
   have:=IQ (l:=(Ae n).take k) λa ha=>F6 n a (E8 ha)
   rwa [Bc,Fv (by omega)]at this
  have h2:Fm n<2^Lib.bitLen (Fm n):=by
   by_cases t0:Fm n=0
   ·rw[t0];exact Hh _
   ·exact(Lib.bitLenAux_bounds 64 (Fm n) ht t0).2.2
  have h3:BB^k=2^(64*k):=by rw[Nat.pow_mul]
  rw[hk,JP,Gm,<-h3];have h4:n=AT ((Ae n).take k)+BB^k*Fm n:=by simpa[AT]using hv
  have h5:BB^k*(Fm n+1)<=BB^k*2^Lib.bitLen (Fm n):=Cr _ h2;rw[BQ,Ea]at h5;omega
def KY (n:Nat):Bool:=decide (600<(Lib.decDigits n).length)
theorem oD (n:Nat):KY n=(decide (JC n>1800)&&KY n):=by
 by_cases h:JC n>1800
 ·rw[Ax h,HF]
 ·rw[Ay h,ID]
  have key:∀k,JC n<=3*(k+1)->(Lib.decDigits n).length<=k+1:=λk hk=>ME k n (Cp (rq n) (BU (FU (by decide) hk) (by rw[Nat.pow_mul];exact OX (by decide) (k+1))))
  have h4:=key 599 (by omega);exact Bg
theorem ud (x:GI)(h:x.wf)(hf:x.few):AK C0 142 [x.D] (i64 (JC x.z.natAbs:Nat)):=by
 refine Af.walk w1 fQ rfl λF=>?_
 have c1:=KE x h;obtain⟨n,hn⟩:∃n,x.z.natAbs=n:=⟨_,rfl⟩
 unfold GI.few at hf;rw[hn]at c1 hf⊢;have el:((((Ae n).map AS).length:Nat):Int)=((Ae n).length:Int):=by rw[Ai]
 unfold wD wL at c1;dsimp only[GI.D]at c1⊢
 by_cases h0:n=0
 ·have e1:(((Ae n).length:Int)==0)=true:=by rw[h0,GW];rfl
  have hb:JC n=0:=AH h0;rw[hb];refine AI AZ (Ad e1 el) c1 AB AB AB AB AB ?_;exact AM rfl AA.out
 ·have hl:(Ae n).length≠0:=λq=>by
   have:=Gx h0
   rw[this]at q;simp at q
  have e1:(((Ae n).length:Int)==0)=false:=e0i hl;have wl:IntKind.i64.wrap (((Ae n).length:Int)-1)=(((Ae n).length-1:Nat):Int):=by rw[wI];omega
  have wm:IntKind.i64.wrap (64*(((Ae n).length-1:Nat):Int))=((64*((Ae n).length-1):Nat):Int):=by rw[wI];omega
  have hat:(Ae n)[(Ae n).length-1]?=some (Fm n):=by
   unfold Fm;rw[EM,Ct];rfl
  have hm:((Ae n).map AS)[(Ae n).length-1]?=some (u64 (Fm n:Int)):=by rw[BC,hat];rfl
  have ht:Fm n<BB:=F6 n _ (Av hat);have c2:=qc (Fm n) ht;have hbl:=Lib.bitLen_le (Fm n) 64 (An _) ht;have wa:IntKind.i64.wrap (((64*((Ae n).length-1):Nat):Int)+(Lib.bitLen (Fm n):Int))=((JC n:Nat):Int):=by
   have hb:JC n=64*((Ae n).length-1)+Lib.bitLen (Fm n):=AG h0;rw[hb,wI];omega
  refine AI AZ (ER e1 el wl wm wa kN) c1 hm c2 AB AB AB ?_;exact AM rfl AA.out
theorem gR (x:GI)(h:x.wf)(hf:x.few):AK C0 107 [x.D] (Ap (KY x.z.natAbs)):=by
 refine Af.walk w1 dS rfl λF=>?_
 have c1:=ud x h hf;have c2:=Uz x h hf;have hlen:(Lib.decDigits x.z.natAbs).length<=27*1000000+1:=Nl (k:=1000000) (by unfold GI.few at hf;omega);have hil:(Lib.itoa x.z).length<=27000002:=by
  unfold Lib.itoa;split
  ·rw[Br];omega
  ·rw[show x.z.toNat=x.z.natAbs by omega];omega
 have c3:=To (Lib.itoa x.z) (by omega);rw[(MY x.z).2]at c3;have hsz:=Cx (Lib.decDigits x.z.natAbs);have hlb:=oD x.z.natAbs;obtain⟨b,hb⟩:∃b,KY x.z.natAbs=b:=⟨_,rfl⟩
 have e2:decide (((Lib.decDigits x.z.natAbs).length:Int)>600)=b:=by rw[<-hb];exact DQ.2 (by omega)
 obtain⟨p,hp⟩:∃b,decide (JC x.z.natAbs>1800)=b:=⟨_,rfl⟩
 have e1:decide (((JC x.z.natAbs:Nat):Int)>1800)=p:=by rw[<-hp];exact DQ.2 (by omega)
 rw[hb,hp]at hlb;rw[hb,hlb];dsimp only[GI.D]at c1 c2⊢;cases p
 ·refine AI AZ e1 c1 AB AB AB AB AB ?_
  exact AM rfl AA.out
 ·refine AI AZ (Ar e1 e2 hsz) c1 c2 c3 AB AB AB ?_
  exact AM rfl AA.out
theorem eV {r:Rat}{x:GF}{k:Nat}(h:FR r x k)(hk:k<100000):x.n.wf/\x.n.few/\(AX (x.d:Int)).wf/\(AX (x.d:Int)).few/\x.n.z=r.num/\x.d=r.den/\0<x.d:=
 ⟨h.is.1,h.fn (by omega),Cy _,by
  show(Ae ((x.d:Int)).natAbs).length<1000000;rw[Ek];have:=h.ld;omega,h.is.2.1,h.is.2.2,h.dpos⟩
theorem bI {r:Rat}{x:GF}{k:Nat}(h:FR r x k)(hk:k<100000):AK C0 73 [x.D] (Ap (DH r)):=by
 refine Af.walk w1 ip rfl λF=>?_
 obtain⟨h1,h2,h3,h4,h5,h6,_⟩:=eV h hk;have c1:=gR x.n h1 h2;have c2:=gR (AX (x.d:Int)) h3 h4;have hb:DH r=(KY x.n.z.natAbs||KY (AX (x.d:Int)).z.natAbs):=by
  unfold DH KY;rw[h5,<-h6];rfl
 rw[hb];obtain⟨p,hp⟩:∃b,KY x.n.z.natAbs=b:=⟨_,rfl⟩
 obtain⟨q,hq⟩:∃b,KY (AX (x.d:Int)).z.natAbs=b:=⟨_,rfl⟩
 rw[hp]at c1;rw[hq]at c2;rw[hp,hq];dsimp only[GI.D,GF.D]at c1 c2⊢;generalize AX (x.d:Int)=y at c2⊢;cases p<;>cases q
 all_goals
  refine AI AZ kB c1 c2 AB AB AB AB ?_;exact AM rfl AA.out
theorem gF {r:Rat}{x:GF}{k:Nat}(h:FR r x k)(hk:k<100000):AK C0 74 [x.D] (str (sb (A0 r))):=by
 refine Af.walk w1 iq rfl λF=>?_
 obtain⟨h1,h2,h3,h4,h5,h6,h7⟩:=eV h hk;have c0:=UT x h7;have c1:=Uz x.n h1 h2;have c2:=Uz (AX (x.d:Int)) h3 h4;have hd:Lib.itoa (AX (x.d:Int)).z=Lib.decDigits r.den:=by
  show Lib.itoa (x.d:Int)=_;unfold Lib.itoa;rw[CI,h6];rfl
 rw[hd]at c2;rw[h5]at c1;have l1:(Lib.itoa r.num).length<=27000002:=by
  have:(Lib.decDigits x.n.z.natAbs).length<=27*1000000+1:=Nl (k:=1000000) (by unfold GI.few at h2;omega)
  rw[h5]at this;unfold Lib.itoa;split
  ·rw[Br];omega
  ·rw[show r.num.toNat=r.num.natAbs by omega];omega
 have l2:(Lib.decDigits r.den).length<=27000001:=by
  have:(Lib.decDigits (AX (x.d:Int)).z.natAbs).length<=27*1000000+1:=Nl (k:=1000000) (by unfold GI.few at h4;omega)
  rw[<-h6];exact this
 have s1:=Cx (Lib.itoa r.num);have s2:=Cx (Lib.decDigits r.den);have s3:(sb [47]).size=1:=rfl;have s4:=Cx (Lib.itoa r.num++[47]);have z1:(sb (Lib.itoa r.num)).size+(sb [47]).size<=9223372036854775807:=by rw[s1,s3];omega
 have z2:(sb (Lib.itoa r.num++[47])).size+(sb (Lib.decDigits r.den)).size<=9223372036854775807:=by rw[s4,s2,Be,HJ];omega
 have a1:sb (Lib.itoa r.num)++(⟨#[47]⟩:ByteArray)=sb (Lib.itoa r.num++[47]):=WP _ [47];have a2:=WP (Lib.itoa r.num++[47]) (Lib.decDigits r.den);rw[Dh]at a2;dsimp only[GI.D,GF.D]at c0 c1 c2⊢;generalize AX (x.d:Int)=y at c0 c2⊢;unfold A0
 by_cases g:x.d=1
 ·rw[Ax g]at c0
  rw[AH (h6 ▸ g)];refine AI ak kB c0 c1 AB AB AB AB ?_;exact AM rfl AA.out
 ·rw[Ay g]at c0
  rw[AG (λq=>g (h6.trans q))];refine AI ak (Ad a1 a2) c0 c1 c2 AB AB AB ?_;exact AM rfl AA.out
set_option maxHeartbeats 4000000
def nb (r:Rat)(n d:Nat):Prop:=r.num.natAbs<=n/\r.den<=d
theorem nb.mono {r:Rat}{n d n' d':Nat}(h:nb r n d)(h1:n<=n')(h2:d<=d'):nb r n' d':=⟨BU h.1 h1,BU h.2 h2⟩
theorem bj {n:Int}{d N D:Nat}(hd:d≠0)(h1:n.natAbs<=N)(h2:d<=D):nb (Rat.normalize n d hd) N D:=by
 rw[Rat.normalize_eq];exact⟨BU (Int.natAbs_ediv_le_natAbs _ _) h1,BU (GP _ _) h2⟩
theorem gV {a b:Rat}{n d m e:Nat}(ha:nb a n d)(hb:nb b m e):nb (a+b) (n*e+m*d) (d*e):=by
 rw[Rat.add_def];refine bj _ (BU (Int.natAbs_add_le _ _) ?_) (GG ha.2 hb.2);rw[Kt,Kt,Ek,Ek];exact Nat.add_le_add (GG ha.1 hb.2) (GG hb.1 ha.2)
theorem xq {a b:Rat}{n d m e:Nat}(ha:nb a n d)(hb:nb b m e):nb (a*b) (n*m) (d*e):=by
 rw[Rat.mul_def];exact bj _ (by rw[Kt];exact GG ha.1 hb.1) (GG ha.2 hb.2)
theorem xn (z:Int){n:Nat}(h:z.natAbs<=n):nb (z:Rat) n 1:=by
 unfold nb;rw[Rat.num_intCast,Rat.den_intCast];exact⟨h,An _⟩
theorem VX:nb 0 0 1:=⟨by decide,by decide⟩
def Sz:Nat:=(10^100)^6
theorem xm {r:Rat}{n d:Nat}(h:nb r n d)(h1:n<Sz)(h2:d<Sz):DH r=false:=by
 unfold DH;have key:∀a b k m,a*b=k+1->m<(10^a)^b->(Lib.decDigits m).length<=k+1:=λa b k m hk h=>ME k m (by rw[<-hk,Nat.pow_mul];exact h)
 have l1:=key 100 6 599 r.num.natAbs rfl (Dc h.1 h1);have l2:=key 100 6 599 r.den rfl (Dc h.2 h2);rw[Bg,Bg];rfl
def Cg:Nat:=10^40
theorem bl {l:List UInt8}(h:Ck l=0)(hl:l.length<=40):nb (Bv l) Cg Cg:=by
 obtain⟨m1,m2,m3,m4⟩:=O3 h;obtain⟨p1,p2⟩:=Qv h;have hs1:(CF l).length<=40:=by
  have:(CF l).length<=l.length:=by
   unfold CF;have a1:(Bw (CD l)).length<=(CD l).length:=by unfold Bw;split<;>simp
   have a2:(CD l).length<=l.length:=by unfold CD;rw[Bc];omega
   omega
  omega
 have hb:∀k,k<=40->(10:Nat)^k<=Cg:=λk hk=>FU (by decide) hk
 refine⟨?_,?_⟩
 ·rw[m1,m4]
  exact BU (Ju (G4 _ p1)) (hb _ hs1)
 ·rw[m2]
  unfold HY;cases hs:DC l
  ·exact(by decide:1<=Cg)
  ·have hs2:(Bh l).length<=40:=by
    have:(Bh l).length<=l.length:=by unfold Bh;simp
    omega
   exact BU (Ju (G4 _ (p2 hs))) (hb _ hs2)
theorem Wt {r:Rat}{n d k:Nat}(h:nb r n d)(h1:n<BB^k)(h2:d<BB^k):rk r k:=
 ⟨Hk (Dc h.1 h1),Hk (Dc h.2 h2)⟩
theorem kV {l:List UInt8}(h:Ck l=0)(hl:l.length<=40):rk (Bv l) 3:=Wt (bl h hl) (by decide) (by decide)
theorem ck (k:Nat)(hk:1<=k):FR 0 ⟨AX 0,1⟩ k:=⟨⟨Cy _,by rw[EN];rfl,rfl⟩,by
 refine rk.mono (k:=1) ?_ hk;exact⟨Hk (k:=1) (by decide),Hk (k:=1) (by decide)⟩⟩
abbrev Gu:Dr:=[(11,[0,1,2,3,4,5,6,7,8,9,10],[11,12]),(21,[0,1],[2,3])]
open Go.Proofs Go.RowKit
set_option maxRecDepth 20000
set_option maxHeartbeats 4000000
def Ld (a b:List UInt8):Bool:=Ka (sb a) (sb b)||BE (sb a) (sb b)
def Fy (l:List Au)(i:Nat):Nat:=
 if EB (D5 l i).lot=false then 8 else if 0<i/\Ld (D5 l i).lot (D5 l (i-1)).lot=true then 11 else if Ck (D5 l i).part≠0 then Ck (D5 l i).part else if HC (Bv (D5 l i).part)<=0 then 12 else 0
def Fh (l:List Au):Nat->Rat
 | 0=>0
 |n+1=>Fh l n+Bv (D5 l n).part
def G1 (l:List Au):Nat:=if l.length=0 then 2 else if 64<l.length then 5 else if EJ (Fy l) l.length≠0 then EJ (Fy l) l.length else if Fh l l.length=1 then 0 else 12
theorem Rz (l:List UInt8):AK C0 50 [str (sb l)] (Ap (EB l)):=nZ (sb l)
theorem sI (a b:Rat):(M4 a b==0)=decide (a=b):=by
 unfold M4
 by_cases h:a<b
 ·rw[AH h,Ay (Rat.ne_of_lt h)];rfl
 ·rw[AG h]
  by_cases h2:b<a
  ·rw[AH h2,Ay λe=>Rat.ne_of_lt h2 e.symm];rfl
  ·rw[AG h2,Ax (Rat.le_antisymm (Rat.not_lt.1 h2) (Rat.not_lt.1 h))];rfl
theorem zA {a b:Rat}{x y:GF}{i j:Nat}(hx:FR a x i)(hy:FR b y j)(hk:i+j<300000):AK C0 141 [x.D,y.D] (Ap (decide (a=b))):=by
 refine Af.walk w1 fO rfl λF=>?_
 have c:=uQ hx hy hk;have e:=sI a b;obtain⟨r,hr⟩:∃r,M4 a b=r:=⟨_,rfl⟩
 rw[hr]at c e;obtain⟨xD,hxD⟩:∃d,x.D=d:=⟨_,rfl⟩
 obtain⟨yD,hyD⟩:∃d,y.D=d:=⟨_,rfl⟩
 unfold GF.D at c hxD hyD⊢;refine AI AZ e c AB AB AB AB AB ?_;exact AM rfl AA.out
theorem yB:FR 1 ⟨AX 1,1⟩ 1:=by
 have:=Rq (z:=1) (by decide)
 exact this
theorem e0M (b:Bool)(l:List Au)(hl:l.length<=9223372036854775807)(hf:∀s∈l,s.few):AK C0 106 [C9 b l] (i64 (G1 l:Nat)):=by
 refine Af.walk w1 dR rfl λF=>?_
 have el:(((l.map Au.D).length:Nat):Int)=(l.length:Int):=by rw[Ai]
 have hC:G1 l=if l.length=0 then 2 else if 64<l.length then 5 else if EJ (Fy l) l.length≠0 then EJ (Fy l) l.length else if Fh l l.length=1 then 0 else 12:=rfl
 rcases Nat.decEq l.length 0 with h0|h0
 rotate_left
 ·rw[AH h0]at hC
  rw[hC];have q1:((l.length:Int)==0)=true:=by rw[h0];rfl
  refine AI Gu (Ad el q1) AB AB AB AB AB AB ?_;exact AM rfl AA.out
 rw[AG h0]at hC;have q1:((l.length:Int)==0)=false:=B5.2 (by omega)
 by_cases h64:64<l.length
 ·rw[AH h64]at hC
  rw[hC];have q2:decide ((l.length:Int)>64)=true:=Ba;refine AI Gu (Ar el q1 q2) AB AB AB AB AB AB ?_;exact AM rfl AA.out
 rw[AG h64]at hC;have q2:decide ((l.length:Int)>64)=false:=Bg;have c0:=QG 0 ⟨by decide,by decide⟩;have c1:=QG 1 ⟨by decide,by decide⟩;refine AI Gu (Ar el q1 q2) c0 AB AB AB AB AB ?_;refine AC.loop (α:=Nat×GF×Nat) (λp=>⟨[(0,C9 b l),(3,.optr 501 8 4 0 0),(15,C9 b l),(16,i64 (l.length:Int)),(17,i64 (p.1:Int))],[⟨501,8,124,4,[p.2.1.D]⟩],p.2.2⟩) (λp=>l.length-p.1) (λp=>p.1<=l.length/\(∀j,j<p.1->Fy l j=0)/\FR (Fh l p.1) p.2.1 (601*p.1+1)) (0,⟨AX 0,1⟩,_)
  ⟨BX _,λj h=>Ak h (Hg j),ck 1 (An _)⟩ AL ?_
 rintro⟨i,y,m⟩ F ⟨hi,hz,hS⟩;dsimp only at hi hz hS⊢;rcases BG i l.length with h2|h2
 rotate_left
 ·have e1:=Cf h2
  have:i=l.length:=by omega
  subst this;rw[AG (λh=>h (MN hz))]at hC;have cS:=zA hS yB (by omega);obtain⟨q,hq⟩:∃q,decide (Fh l l.length=1)=q:=⟨_,rfl⟩
  rw[hq]at cS;cases q
  ·rw[AG (Dt hq)]at hC
   rw[hC];refine AI Gu e1 c1 cS AB AB AB AB ?_;exact AM rfl AA.out
  ·rw[AH (DP hq)]at hC
   rw[hC];refine AI Gu e1 c1 cS AB AB AB AB ?_;exact AM rfl AA.out
 have e1:=Cd h2;have wi:=Cj (i:=i) (by omega);obtain⟨s,hs⟩:=CQ h2;have hm:(l.map Au.D)[i]?=some (.agg [str (sb s.lot),str (sb s.part)]):=by rw[BC,hs];rfl
 obtain⟨f1,f2⟩:=hf s (Av hs);have hE:Fy l i=if EB s.lot=false then 8 else if 0<i/\Ld s.lot (D5 l (i-1)).lot=true then 11 else if Ck s.part≠0 then Ck s.part else if HC (Bv s.part)<=0 then 12 else 0:=by unfold Fy;rw[KT hs]
 have hbad:∀e:Nat,e≠0->Fy l i=e->G1 l=e:=λe he h=>by
  have:=PX hz h2 (by rw[h];exact he)
  rw[hC,this,h,AH he]
 have cN:=Rz s.lot;obtain⟨N,hN⟩:∃q,EB s.lot=q:=⟨_,rfl⟩
 rw[hN]at cN hE;cases N
 ·rw[AH rfl]at hE
  rw[hbad 8 (by decide) hE];refine AI Gu (Ad e1 kN) hm cN AB AB AB AB ?_;exact AM rfl AA.out
 rw[AG (by decide)]at hE;have cC:=om s.part f2;rcases i with _|q
 ·have g0:decide (((0:Nat):Int)>0)=false:=rfl
  rw[AG (λh=>Ak h.1 (Nat.lt_irrefl 0))]at hE;rcases Nat.decEq (Ck s.part) 0 with hc0|hc0
  ·rw[AH hc0]at hE
   have e3:=G9 hc0;rw[hbad (Ck s.part) hc0 hE];refine AI Gu (Bd e1 g0 kN e3) hm cN cC AB AB AB ?_;exact AM rfl AA.out
  rw[AG (λh=>h hc0)]at hE;have e3:=HA hc0;have cP:=SS f2 hc0;have fP:=SA hc0;have cG:=bU fP.is;have cA:=SN hS fP (by omega);have fA:=Rs hS fP;obtain⟨z,hzz⟩:∃z,Kh y (G5 s.part)=z:=⟨_,rfl⟩
  rw[hzz]at cA fA;obtain⟨sg,hsg⟩:∃q,HC (Bv s.part)=q:=⟨_,rfl⟩
  rw[hsg]at cG hE
  by_cases hs0:sg<=0
  ·rw[AH hs0]at hE
   have e4:decide (sg<=0)=true:=Ax hs0;rw[hbad 12 (by decide) hE];refine AI Gu (CT e1 g0 kN e3 e4) hm cN cC cP cG AB ?_;exact AM rfl AA.out
  rw[AG hs0]at hE;have e4:decide (sg<=0)=false:=Ay hs0;refine AI Gu (ER e1 g0 kN e3 e4 wi) hm cN cC cP cG AB ?_;refine cI cA ?_;refine AI Gu wi AB AB AB AB AB AB ?_;exact⟨(0+1,z,_),⟨h2,λj hj=>by
   rcases Kq.1 hj with q|q
   ·exact hz j q
   ·rw[q];exact hE,by
   show FR (Fh l 0+Bv (D5 l 0).part) z _;rw[KT hs];exact⟨fA.is,fA.rk.mono (by dsimp only;omega)⟩⟩,by dsimp only;omega,AL⟩
 ·have g0:decide (((q+1:Nat):Int)>0)=true:=Ba
  have g1:IntKind.i64.wrap (((q+1:Nat):Int)-1)=(q:Int):=by rw[wI];omega
  obtain⟨s0,hs0'⟩:=CQ (l:=l) (i:=q) (by omega);have hm0:(l.map Au.D)[q]?=some (.agg [str (sb s0.lot),str (sb s0.part)]):=by rw[BC,hs0'];rfl
  rw[JP,KT hs0']at hE;obtain⟨bL,hbL⟩:∃q,Ld s.lot s0.lot=q:=⟨_,rfl⟩
  have g2:(Ka (sb s.lot) (sb s0.lot)||BE (sb s.lot) (sb s0.lot))=bL:=hbL;rw[hbL]at hE;cases bL
  rotate_left
  ·rw[AH ⟨Nat.succ_pos q,rfl⟩]at hE
   rw[hbad 11 (by decide) hE];refine AI Gu (CT e1 g0 g1 g2 kN) hm hm0 cN AB AB AB ?_;exact AM rfl AA.out
  rw[AG (λh=>Ak h.2 (by decide))]at hE;rcases Nat.decEq (Ck s.part) 0 with hc0|hc0
  ·rw[AH hc0]at hE
   have e3:=G9 hc0;rw[hbad (Ck s.part) hc0 hE];refine AI Gu (ER e1 g0 g1 g2 kN e3) hm hm0 cN cC AB AB ?_;exact AM rfl AA.out
  rw[AG (λh=>h hc0)]at hE;have e3:=HA hc0;have cP:=SS f2 hc0;have fP:=SA hc0;have cG:=bU fP.is;have cA:=SN hS fP (by omega);have fA:=Rs hS fP;obtain⟨z,hzz⟩:∃z,Kh y (G5 s.part)=z:=⟨_,rfl⟩
  rw[hzz]at cA fA;obtain⟨sg,hsg⟩:∃q,HC (Bv s.part)=q:=⟨_,rfl⟩
  rw[hsg]at cG hE
  by_cases hs0:sg<=0
  ·rw[AH hs0]at hE
   have e4:decide (sg<=0)=true:=Ax hs0;rw[hbad 12 (by decide) hE];refine AI Gu (CY e1 g0 g1 g2 kN e3 e4) hm hm0 cN cC cP cG ?_;exact AM rfl AA.out
  rw[AG hs0]at hE;have e4:decide (sg<=0)=false:=Ay hs0;refine AI Gu (CY e1 g0 g1 g2 kN e3 (Ad e4 wi)) hm hm0 cN cC cP cG ?_;refine cI cA ?_;refine AI Gu wi AB AB AB AB AB AB ?_;exact⟨(q+1+1,z,_),⟨h2,λj hj=>by
   rcases Kq.1 hj with q|q
   ·exact hz j q
   ·rw[q];exact hE,by
   show FR (Fh l (q+1)+Bv (D5 l (q+1)).part) z _;rw[KT hs];exact⟨fA.is,fA.rk.mono (by dsimp only;omega)⟩⟩,by dsimp only;omega,AL⟩
def AE.few (x:AE):Prop:=x.grain.length<=100000/\x.shs.length<=9223372036854775807/\∀s∈x.shs,s.few
def Cn (x:AE):Nat:=if EB x.grain=false then 8 else if x.mass<1\/x.mass>999999999 then 3 else G1 x.shs
def CV (l:List AE)(k:Nat):AE:=l.getD k ⟨[],0,[]⟩
theorem GK {l:List AE}{k:Nat}{x:AE}(h:l[k]?=some x):CV l k=x:=by unfold CV;rw[EM,h];rfl
def Ab (l:List AE):Int:=(l.map (·.mass)).sum
theorem Ue {l:List AE}{i:Nat}{x:AE}(h:l[i]?=some x):Ab (l.take (i+1))=Ab (l.take i)+x.mass:=by
 unfold Ab;rw[D8,h,DN,List.sum_append];simp
def JA (l:List AE):Prop:=l.length<=1000000/\∀x∈l,x.mass.natAbs<=1000000000
theorem Vg {l:List AE}(h:∀x∈l,x.mass.natAbs<=1000000000):(Ab l).natAbs<=l.length*1000000000:=by
 unfold Ab
 induction l with
 |nil=>simp
 |cons a l ih=>
  have h1:=h a (by simp);have h2:=ih λx hx=>h x (by simp[hx])
  simp only[Ci,List.sum_cons,Br];omega
def Bk (l:List AE):Nat:=if 64<l.length then 5 else if EJ (λi=>Cn (CV l i)) l.length≠0 then EJ (λi=>Cn (CV l i)) l.length else if Ab l>999999999 then 4 else 0
theorem PF {x:AE}(h:Cn x=0):EB x.grain=true/\1<=x.mass/\x.mass<=999999999/\G1 x.shs=0:=by
 unfold Cn at h;split at h
 ·cases h
 ·rename_i h1
  split at h
  ·cases h
  ·rename_i h2
   exact⟨by simpa using h1,by omega,by omega,h⟩
theorem Hz (b:Bool)(e:Int):AK C0 29 [Ap b,i64 e] (i64 (if b then e else 0)):=by
 refine Af.walk w1 jA rfl λF=>?_
 cases b
 ·refine AI AZ kB AB AB AB AB AB AB ?_
  exact AM rfl AA.out
 ·refine AI AZ kB AB AB AB AB AB AB ?_
  exact AM rfl AA.out
theorem LT (v:List Int)(hl:v.length<=1000):AK C0 27 [.sl true 1 (v.map λe=>i64 e)] (i64 (Eo v)):=by
 refine Af.walk w1 iv rfl λF=>?_
 have el:(((v.map λe=>i64 e).length:Nat):Int)=(v.length:Int):=by rw[Ai]
 refine AI AZ el AB AB AB AB AB AB ?_;refine AC.loop (α:=Nat×Nat) (λp=>⟨[(5,.sl true 1 (v.map λe=>i64 e)),(6,i64 (v.length:Int)),(7,i64 (p.1:Int))],[],p.2⟩) (λp=>v.length-p.1) (λp=>p.1<=v.length/\∀(j:Nat) (e:Int),j<p.1->v[j]?=some e->e=0) (0,_) ⟨BX _,λj e h=>Ak h (Hg j)⟩ AL ?_;rintro⟨i,m⟩ F ⟨hi,ha⟩;dsimp only at hi ha⊢;rcases BG i v.length with h2|h2
 rotate_left
 ·have e1:=Cf h2
  have:i=v.length:=by omega
  subst this;have hd:Eo v=0:=by rw[YA ha,Jx];rfl
  rw[hd];refine AI AZ e1 AB AB AB AB AB AB ?_;exact AM rfl AA.out
 have e1:=Cd h2;have wi:=Cj (i:=i) (by omega);obtain⟨l,hl'⟩:=CQ h2;have hm:(v.map λe=>i64 e)[i]?=some (i64 l):=by rw[BC,hl'];rfl
 by_cases g:l=0
 ·have e5:(l != 0)=false:=by rw[g];rfl
  refine AI AZ (Bd e1 wi e5 kN) hm AB AB AB AB AB ?_;exact⟨(i+1,_),⟨h2,λj e hj he=>by
   rcases Kq.1 hj with q|q
   ·exact ha j e q he
   ·subst q;rw[hl']at he;cases he;exact g⟩,by dsimp only;omega,AL⟩
 ·have e5:(l != 0)=true:=Jd g
  have hd:Eo v=l:=by
   rw[YA ha,E5 h2];rw[By h2]at hl';rw[FY hl'];exact AH g
  rw[hd];refine AI AZ (Bd e1 wi e5 kN) hm AB AB AB AB AB ?_;exact AM rfl AA.out
theorem dj (b:Bool)(l:List AE)(hs:JA l):AK C0 30 [Aj b l] (i64 (Ab l)):=by
 refine Af.walk w1 WZ rfl λF=>?_
 have el:(((l.map AE.D).length:Nat):Int)=(l.length:Int):=by rw[Ai]
 obtain⟨hl,hm0⟩:=hs;refine AI AZ el AB AB AB AB AB AB ?_;refine AC.loop (α:=Nat×Nat) (λp=>⟨[(3,i64 (Ab (l.take p.1))),(6,Aj b l),(7,i64 (l.length:Int)),(8,i64 (p.1:Int))],[],p.2⟩) (λp=>l.length-p.1) (λp=>p.1<=l.length) (0,_) (BX _) AL ?_;rintro⟨i,m⟩ F hi;dsimp only at hi⊢;rcases BG i l.length with h2|h2
 rotate_left
 ·have e1:=Cf h2
  have:i=l.length:=by omega
  subst this;rw[DJ];refine AI AZ e1 AB AB AB AB AB AB ?_;exact AM rfl AA.out
 have e1:=Cd h2;have wi:=Cj (i:=i) (by omega);obtain⟨x,hx⟩:=CQ h2;have hm:(l.map AE.D)[i]?=some (.agg [str (sb x.grain),i64 x.mass,.sl false 2 (x.shs.map Au.D)]):=by rw[BC,hx];rfl
 have hb:=Vg (l:=l.take i) λy hy=>hm0 y (E8 hy)
 have hxm:=hm0 x (Av hx);rw[Bc,Fv hi]at hb;have wS:IntKind.i64.wrap (Ab (l.take i)+x.mass)=Ab (l.take (i+1)):=by rw[Ue hx,wI]
 refine AI AZ (Bd e1 wi @wS kN) hm AB AB AB AB AB ?_;exact⟨(i+1,_),h2,by dsimp only;omega,AL⟩
theorem js (x:AE)(hf:x.few):AK C0 72 [x.D] (i64 (Cn x:Nat)):=by
 refine Af.walk w1 io rfl λF=>?_
 obtain⟨f1,f2,f3⟩:=hf;have cN:=Rz x.grain;have cS:=e0M false x.shs f2 f3;have hC:Cn x=if EB x.grain=false then 8 else if x.mass<1\/x.mass>999999999 then 3 else G1 x.shs:=rfl
 obtain⟨N,hN⟩:∃q,EB x.grain=q:=⟨_,rfl⟩
 obtain⟨SD,hSD⟩:∃d,C9 false x.shs=d:=⟨_,rfl⟩
 have pS:AA SD:=by rw[<-hSD];exact AJ
 have hna:KO SD=true:=by rw[<-hSD];rfl
 unfold AE.D;rw[hN]at cN hC;rw[hSD]at cS⊢;cases N
 ·rw[AH rfl]at hC
  rw[hC];refine AI AZ kB cN AB AB AB AB AB ?_;exact AM rfl AA.out
 rw[AG (by decide)]at hC
 by_cases h1:x.mass<1
 ·rw[AH (.inl h1)]at hC
  rw[hC];have e1:decide (x.mass<1)=true:=Ax h1;refine AI AZ e1 cN AB AB AB AB AB ?_;exact AM rfl AA.out
 have e1:decide (x.mass<1)=false:=Ay h1
 by_cases h2:x.mass>999999999
 ·rw[AH (.inr h2)]at hC
  rw[hC];have e2:decide (x.mass>999999999)=true:=Ax h2;refine AI AZ (Ad e1 e2) cN AB AB AB AB AB ?_;exact AM rfl AA.out
 have e2:decide (x.mass>999999999)=false:=Ay h2;rw[CI]at hC;rw[hC];refine AI AZ (Ar e1 e2 hna) cN cS AB AB AB AB ?_;exact AM rfl AA.out
theorem UH {l:List AE}(h64:¬ 64<l.length)(hz:∀j,j<l.length->Cn (CV l j)=0):JA l:=by
 refine⟨by omega,λx hx=>?_⟩;obtain⟨j,hj⟩:=Lz.1 hx
 have:=hz j (BT.1 hj).1
 rw[GK hj]at this
 have:=PF this
 omega
theorem Lj (b:Bool)(l:List AE)(hl:l.length<=9223372036854775807)(hf:∀x∈l,x.few):AK C0 40 [Aj b l] (i64 (Bk l:Nat)):=by
 refine Af.walk w1 iR rfl λF=>?_
 have el:(((l.map AE.D).length:Nat):Int)=(l.length:Int):=by rw[Ai]
 have hC:Bk l=if 64<l.length then 5 else if EJ (λi=>Cn (CV l i)) l.length≠0 then EJ (λi=>Cn (CV l i)) l.length else if Ab l>999999999 then 4 else 0:=rfl
 by_cases h64:64<l.length
 ·rw[AH h64]at hC
  rw[hC];have q2:decide ((l.length:Int)>64)=true:=Ba;refine AI AZ (Ad el q2) AB AB AB AB AB AB ?_;exact AM rfl AA.out
 rw[AG h64]at hC;have q2:decide ((l.length:Int)>64)=false:=Bg;refine AI AZ (Ad el q2) AB AB AB AB AB AB ?_;refine AC.loop (α:=Nat×Nat) (λp=>⟨[(0,Aj b l),(9,Aj b l),(10,i64 (l.length:Int)),(11,i64 (p.1:Int))],[],p.2⟩) (λp=>l.length-p.1) (λp=>p.1<=l.length/\∀j,j<p.1->Cn (CV l j)=0) (0,_) ⟨BX _,λj h=>Ak h (Hg j)⟩ AL ?_;rintro⟨i,m⟩ F ⟨hi,hz⟩;dsimp only at hi hz⊢;rcases BG i l.length with h2|h2
 rotate_left
 ·have e1:=Cf h2
  have:i=l.length:=by omega
  subst this;rw[AG (λh=>h (MN (f:=λi=>Cn (CV l i)) hz))]at hC;have cT:=dj b l (UH h64 hz);obtain⟨q,hq⟩:∃q,decide (Ab l>999999999)=q:=⟨_,rfl⟩
  have cW:=Hz q 4;have hR:((Bk l:Nat):Int)=if q then 4 else 0:=by
   rw[hC,<-hq]
   by_cases h:Ab l>999999999
   ·rw[AH h,Ax h];rfl
   ·rw[AG h,Ay h];rfl
  rw[hR];refine AI AZ (Ad e1 hq) cT cW AB AB AB AB ?_;exact AM rfl AA.out
 have e1:=Cd h2;have wi:=Cj (i:=i) (by omega);obtain⟨x,hx⟩:=CQ h2;have hm:(l.map AE.D)[i]?=some (.agg [str (sb x.grain),i64 x.mass,.sl false 2 (x.shs.map Au.D)]):=by rw[BC,hx];rfl
 have cL:=js x (hf x (Av hx));unfold AE.D at cL;rcases Nat.decEq (Cn x) 0 with hc0|hc0
 ·have e3:=G9 hc0
  have:=PX (f:=λi=>Cn (CV l i)) hz h2 (by rw[GK hx];exact hc0)
  rw[GK hx]at this;rw[this,AH hc0]at hC;rw[hC];refine AI AZ (Ar e1 e3 kN) hm cL AB AB AB AB ?_;exact AM rfl AA.out
 have e3:=HA hc0;refine AI AZ (Bd e1 e3 wi kN) hm cL AB AB AB AB ?_;exact⟨(i+1,_),⟨h2,λj hj=>by
  rcases Kq.1 hj with q|q
  ·exact hz j q
  ·rw[q,GK hx];exact hc0⟩,by dsimp only;omega,AL⟩
theorem ZV {α:Type}{l:List α}{p:α->Bool}{k:Nat}{x:α}(hx:l[k]?=some x)(h:(l.take k).all p=true)(hp:p x=true):(l.take (k+1)).all p=true:=by
 rw[D8,hx,Ky,h];simp[hp]
theorem VL {α:Type}{l:List α}{p:α->Bool}{k:Nat}{x:α}(hx:l[k]?=some x)(hp:p x=false):l.all p=false:=by
 cases h:l.all p
 ·rfl
 ·rw[CW.1 h x (Av hx)]at hp;exact hp
abbrev Nh:Dr:=[(8,[0,1,2,3,4,5,6,7],[8])]
open Go.Proofs Go.RowKit
set_option maxRecDepth 20000
set_option maxHeartbeats 4000000
abbrev BR:=List (List UInt8×Rat)
def GZ (lot:List UInt8):BR->Option Rat
 | []=>none
 |p::l=>if lot=p.1 then some p.2 else GZ lot l
def HB (lot:List UInt8)(r:Rat):BR->BR
 | []=>[(lot,r)]
 |p::l=>if lot=p.1 then(lot,r)::l else p::HB lot r l
def Kj (lot:List UInt8)(r:Rat)(q:BR):BR:=HB lot (match GZ lot q with|some o=>r+o|none=>r) q
def G6 (x:AE)(n:Nat)(q:BR):BR:=(x.shs.take n).foldl (λacc s=>Kj s.lot (Bv s.part*(x.mass:Rat)) acc) q
def CR (l:List AE):BR:=l.foldl (λacc x=>G6 x x.shs.length acc) []
def MQ (B:Nat):BR->DX->Prop
 | [],[]=>True
 |p::q,e::m=>(e.1=sb p.1/\∃y:GF,e.2=y.D/\FR p.2 y B)/\MQ B q m
 |_,_=>False
theorem MQ.mono {B B':Nat}(hB:B<=B'):∀ {q:BR} {m:DX},MQ B q m->MQ B' q m
 | [],[],_=>trivial
 |_::_,_::_,⟨⟨h1,y,h2,h3⟩,h4⟩=>⟨⟨h1,y,h2,h3.is,h3.rk.mono hB⟩,MQ.mono hB h4⟩
theorem MQ.look {B:Nat}(lot:List UInt8):∀ {q:BR} {m:DX},MQ B q m->(Ir (sb lot) m=none/\GZ lot q=none)\/∃(r:Rat) (y:GF),Ir (sb lot) m=some y.D/\GZ lot q=some r/\FR r y B
 | [],[],_=>.inl ⟨rfl,rfl⟩
 |p::q,e::m,⟨⟨h1,y,h2,h3⟩,h4⟩=>by
  unfold Ir GZ;rw[h1,FC]
  by_cases hl:lot=p.1
  ·rw[Ax hl,AH hl]
   exact .inr ⟨p.2,y,by rw[h2];rfl,rfl,h3⟩
  ·rw[Ay hl,AG hl]
   exact MQ.look lot h4
theorem MQ.set {B:Nat}(lot:List UInt8){r:Rat}{y:GF}(hr:FR r y B):∀ {q:BR} {m:DX},MQ B q m->MQ B (HB lot r q) (GB (sb lot) y.D m)
 | [],[],_=>⟨⟨rfl,y,rfl,hr⟩,trivial⟩
 |p::q,e::m,⟨⟨h1,y',h2,h3⟩,h4⟩=>by
  unfold HB GB;rw[h1,FC]
  by_cases hl:lot=p.1
  ·rw[Ax hl,AH hl]
   exact⟨⟨rfl,y,rfl,hr⟩,h4⟩
  ·rw[Ay hl,AG hl]
   exact⟨⟨h1,y',h2,h3⟩,MQ.set lot hr h4⟩
theorem MQ.pure {B:Nat}:∀ {q:BR} {m:DX},MQ B q m->∀e∈m,CJ e.2
 | [],[],_,e,he=>by cases he
 |p::q,e::m,⟨⟨_,y,h2,_⟩,h4⟩,x,hx=>by
  rcases A8.1 hx with rfl|hx
  ·rw[h2];exact AA.out
  ·exact MQ.pure h4 x hx
theorem MQ.mapD {B:Nat}{q:BR}{m:DX}(h:MQ B q m):CJ (mapD m):=by
 refine CJ.mp (λd hd=>?_) λd hd=>?_
 ·obtain⟨p,-,rfl⟩:=Bx.1 hd;exact AA.out
 ·obtain⟨p,hp,rfl⟩:=Bx.1 hd;exact h.pure p hp
def Au.ok (s:Au):Prop:=s.lot.length<=100000/\s.part.length<=40/\Ck s.part=0
def AE.ok (x:AE):Prop:=x.shs.length<=64/\Sm x.mass/\∀s∈x.shs,s.ok
def AE.okW (w:Nat)(x:AE):Prop:=x.shs.length<=64/\Sm x.mass/\∀s∈x.shs,s.lot.length<=100000/\s.part.length<=100000/\Ck s.part=0/\rk (Bv s.part) (w-2)
theorem Oz (x:AE)(n:Nat)(q:BR){s:Au}(h:x.shs[n]?=some s):G6 x (n+1) q=Kj s.lot (Bv s.part*(x.mass:Rat)) (G6 x n q):=by
 unfold G6;rw[D8,h,List.foldl_append];rfl
theorem Qx (l:List AE)(n:Nat){x:AE}(h:l[n]?=some x):CR (l.take (n+1))=G6 x x.shs.length (CR (l.take n)):=by
 unfold CR;rw[D8,h,List.foldl_append];rfl
theorem ge (w:Nat)(b:Bool)(l:List AE)(hl:l.length<=100)(hx:∀x∈l,x.okW w)(h2w:2<=w)(hw:w*(64*(l.length+1))<=100000):Af C0 42 [Aj b l] (λd=>∃m,d=mapD m/\MQ (w*(64*l.length)) (CR l) m):=by
 refine Af.walk w1 iT rfl λF0=>?_
 have el:(((l.map AE.D).length:Nat):Int)=(l.length:Int):=by rw[Ai]
 refine sZ 0 ?_;refine AF kB ?_;refine AC.seq ?_;refine Ij (by kernel_rfl) ?_;change Bn _ _ _ _ _ [0,1] _ _;refine Bn.makeMap 100 rfl rfl rfl (XP F0) (λF1 it hto hO hr0 hnX hM=>?_);change Bn _ _ _ _ _ ([1]++[]) _ _;refine GE w1 100 [1] [] ?_;refine AF kB ?_;refine Bn.nil ?_;refine AI Nh el AB AB AB AB AB AB ?_;refine Gh (α:=Nat×DX×Obj×Nat) (λp=>⟨[(3,.prim (.map (some it))),(12,Aj b l),(13,i64 (l.length:Int)),(14,i64 (p.1:Int))],[],p.2.2.2⟩) (λp=>l.length-p.1)
  (λp F=>p.1<=l.length/\DS C0 F0 F [⟨100,1,p.2.2.1⟩]/\F.r0 100 1=some it/\IZ F p.2.2.1 p.2.1/\MQ (w*(64*p.1)) (CR (l.take p.1)) p.2.1) (0,[],.map #[] 0,_) ⟨BX _,hO,hr0,hM,trivial⟩ AL ?_
 clear hO hr0 hM hto;rintro⟨i,m,o,n1⟩ F ⟨hi,hO,hr0,hM,hQ⟩;dsimp only at hi hO hr0 hM hQ⊢;rcases BG i l.length with h2|h2
 rotate_left
 ·have e1:=Cf h2
  have:i=l.length:=by omega
  subst this;rw[DJ]at hQ;refine sZ 300 ?_;refine AF e1 ?_;refine AC.seq ?_;refine AO ?_;refine CL ?_;refine kJ [(3,mapD m)] hO hr0 hnX hM ⟨.inr ⟨rfl,rfl⟩,trivial⟩ (λF2 hto2 hO2=>?_);refine AI Nh kB AB AB AB AB AB AB ?_;exact⟨mapD m,.refl _,hQ.mapD,m,rfl,hQ⟩
 have e1:=Cd h2;have wi:=Cj (i:=i) (by omega);obtain⟨x,hxi⟩:=CQ h2;obtain⟨x1,x2,x3⟩:=hx x (Av hxi);have hm:(l.map AE.D)[i]?=some (.agg [str (sb x.grain),i64 x.mass,.sl false 2 (x.shs.map Au.D)]):=by rw[BC,hxi];rfl
 have es:(((x.shs.map Au.D).length:Nat):Int)=(x.shs.length:Int):=by rw[Ai]
 refine AI Nh (Ar e1 es kN) hm AB AB AB AB AB ?_;obtain⟨ga,hga⟩:∃g,n1+1+1+1=g:=⟨_,rfl⟩
 refine Gh (α:=Nat×DX×Obj×Nat) (λp=>⟨[(3,.prim (.map (some it))),(5,.optr 402 (n1+1+1+1) 3 0 0),(12,Aj b l),(13,i64 (l.length:Int)),(14,i64 (i:Int)),(19,.sl false 2 (x.shs.map Au.D)),(20,i64 (x.shs.length:Int)),(21,i64 (p.1:Int))],[⟨402,n1+1+1+1,51,3,[.agg [str (sb x.grain),i64 x.mass,.sl false 2 (x.shs.map Au.D)]]⟩],p.2.2.2⟩) (λp=>x.shs.length-p.1)
  (λp F=>p.1<=x.shs.length/\DS C0 F0 F [⟨100,1,p.2.2.1⟩]/\F.r0 100 1=some it/\IZ F p.2.2.1 p.2.1/\MQ (w*(64*i+p.1)) (G6 x p.1 (CR (l.take i))) p.2.1) (0,m,o,_) ⟨BX _,hO,hr0,hM,hQ⟩ AL ?_
 clear hO hr0 hM hQ;rintro⟨j,m2,o2,n2⟩ F ⟨hj,hO,hr0,hM,hQ⟩;dsimp only at hj hO hr0 hM hQ⊢;rw[hga];rcases BG j x.shs.length with h3|h3
 rotate_left
 ·have e2:=Cf h3
  have:j=x.shs.length:=by omega
  subst this;rw[<-Qx l i hxi]at hQ;refine AI Nh (Ad e2 wi) AB AB AB AB AB AB ?_;exact⟨(i+1,m2,o2,_),⟨h2,hO,hr0,hM,hQ.mono (Cr _ (by dsimp only;omega))⟩,by dsimp only;omega,AL⟩
 have e2:=Cd h3;have wj:=Cj (i:=j) (by omega);obtain⟨s,hsj⟩:=CQ h3;obtain⟨s1,s2,s3,s4⟩:=x3 s (Av hsj);have hms:(x.shs.map Au.D)[j]?=some (.agg [str (sb s.lot),str (sb s.part)]):=by rw[BC,hsj];rfl
 have hsn:=Oz x j (CR (l.take i)) hsj;have fP:FR (Bv s.part) (G5 s.part) (w-2):=⟨(SA s3).is,s4⟩
 obtain⟨PW,hPW⟩:∃P,w*(64*i+j)=P:=⟨_,rfl⟩
 have hPW1:w*(64*i+(j+1))=PW+w:=by rw[<-hPW,<-Ew,Nat.mul_succ]
 have hPWb:PW+w<=100000:=by
  rw[<-hPW1];exact BU (Cr _ (by omega)) hw
 rw[hPW]at hQ;have fM:FR ((x.mass:Int):Rat) ⟨AX x.mass,1⟩ 1:=Rq (by unfold Sm at x2;omega);have c1:=SS s2 s3;have c2:=QG x.mass x2;have c3:=Vu fP fM (by omega);have fZ:FR (Bv s.part*(x.mass:Rat)) (JJ (G5 s.part) ⟨AX x.mass,1⟩) (w-2+1):=VW fP fM;obtain⟨z,hz⟩:∃z,JJ (G5 s.part) ⟨AX x.mass,1⟩=z:=⟨_,rfl⟩
 rw[hz]at c3 fZ;obtain⟨d1,hd1⟩:∃d,(G5 s.part).D=d:=⟨_,rfl⟩
 obtain⟨d2,hd2⟩:∃d,(⟨AX x.mass,1⟩:GF).D=d:=⟨_,rfl⟩
 have pd1:AA d1:=by rw[<-hd1];exact AJ
 have pd2:AA d2:=by rw[<-hd2];exact AJ
 rw[hd1]at c1 c3;rw[hd2]at c2 c3;refine sZ 600 ?_;refine AF e2 ?_;refine AC.seq ?_;refine AO ?_;refine Am ?_;refine AC.seq ?_;refine AC.block ?_;refine sZ 700 ?_;refine B4 kT hms ?_;refine AF kB ?_;refine AC.seq ?_;refine CO 800 [0,1,2,3,4,5,6,7] [8] ?_;refine AF kB ?_;refine Bf.same _ (c1) AJ ?_;refine BS ?_;refine AF kB ?_;refine Bf.same _ (c2) AJ ?_;refine BS ?_;refine AF kB ?_;refine Bf.same _ (c3) AJ ?_;refine BS ?_;refine AF kB ?_;refine AC.seq ?_;refine AC.seq ?_;refine Ij (by kernel_rfl) ?_;change Bn _ _ _ _ _ ([0,1,2]++(3::([4,5,6,7,8,9]++[]))) _ _;refine GE w1 900 [0,1,2] _ ?_;refine AF kB ?_;refine Bn.look (xo:=⟨100,1,o2⟩) (l:=m2) w1 rfl rfl rfl rfl rfl rfl hO B3 hr0 hM ?_;rcases hQ.look s.lot with⟨q1,q2⟩|⟨r,y,q1,q2,q3⟩
 ·rw[YY q1]
  refine GE w1 900 [4,5,6,7,8,9] [] ?_;refine AF kB ?_;refine Bn.nil ?_;refine BO ?_;refine sZ 1000 ?_;refine AF kB ?_;refine AO ?_;refine Am ?_;refine Ij (by kernel_rfl) ?_;change Bn _ _ _ _ _ ([0,1,2,3]++(4::[])) _ _;refine GE w1 1200 [0,1,2,3] _ ?_;refine AF kB ?_;refine Bn.put (l:=m2) w1 rfl rfl rfl rfl rfl rfl hO hr0 hM (λF3 o3 hto3 hO3 hr3 hM3=>Bn.nil ?_);refine BO ?_;have hQ2:MQ (w*(64*i+(j+1))) (G6 x (j+1) (CR (l.take i))) (GB (sb s.lot) z.D m2):=by
   rw[hsn,hPW1];unfold Kj;rw[q2];exact MQ.set s.lot ⟨fZ.is,fZ.rk.mono (by omega)⟩ (hQ.mono (by omega))
  refine AI Nh wj AB AB AB AB AB AB ?_;exact⟨(j+1,GB (sb s.lot) z.D m2,o3,_),⟨h3,hO3,hr3,hM3,hQ2⟩,by dsimp only;omega,AL⟩
 ·rw[YZ q1]
  refine GE w1 900 [4,5,6,7,8,9] [] ?_;refine AF kB ?_;refine Bn.nil ?_;have c4:=SN fZ q3 (by omega);have fA:=Rs fZ q3;obtain⟨z2,hz2⟩:∃z2,Kh z y=z2:=⟨_,rfl⟩
  rw[hz2]at c4 fA;refine BO ?_;refine sZ 1000 ?_;refine AF kB ?_;refine AO ?_;refine Aq 1100 ?_;refine AF kB ?_;refine cI c4 ?_;refine AF kB ?_;refine Ij (by kernel_rfl) ?_;change Bn _ _ _ _ _ ([0,1,2,3]++(4::[])) _ _;refine GE w1 1200 [0,1,2,3] _ ?_;refine AF kB ?_;refine Bn.put (l:=m2) w1 rfl rfl rfl rfl rfl rfl hO hr0 hM (λF3 o3 hto3 hO3 hr3 hM3=>Bn.nil ?_);refine BO ?_;have hQ2:MQ (w*(64*i+(j+1))) (G6 x (j+1) (CR (l.take i))) (GB (sb s.lot) z2.D m2):=by
   rw[hsn,hPW1];unfold Kj;rw[q2];exact MQ.set s.lot ⟨fA.is,fA.rk.mono (by omega)⟩ (hQ.mono (by omega))
  refine AI Nh wj AB AB AB AB AB AB ?_;exact⟨(j+1,GB (sb s.lot) z2.D m2,o3,_),⟨h3,hO3,hr3,hM3,hQ2⟩,by dsimp only;omega,AL⟩
theorem AE.ok.w5 {x:AE}(h:x.ok):x.okW 5:=⟨h.1,h.2.1,λs hs=>by
 obtain⟨a,b,c⟩:=h.2.2 s hs;exact⟨a,by omega,c,kV c b⟩⟩
theorem d9c (b:Bool)(l:List AE)(hl:l.length<=100)(hx:∀x∈l,x.ok):Af C0 42 [Aj b l] (λd=>∃m,d=mapD m/\MQ 32000 (CR l) m):=
 (ge 5 b l hl (λx h=>(hx x h).w5) (by omega) (by omega)).mono λd ⟨m,h1,h2⟩=>⟨m,h1,h2.mono (by omega)⟩
def Wf (r:Rat):List UInt8:=if DH r=true then[]else A0 r
def We (r:Rat):Nat:=if DH r=true then 4 else 0
set_option maxHeartbeats 8000000
theorem V9 {l:List UInt8}(h:Ck l=0):rR (Bv l)=str (sb l):=by unfold rR;rw[(O3 h).2.2.1]
set_option maxHeartbeats 4000000
theorem Yq (n:Nat):DV (Lib.decDigits n)=true:=by
 obtain⟨h1,h2,h3⟩:=FB n;rcases EL n with h|h
 ·have e:Lib.decDigits n=[48]:=by
   have:=aH 0
   rw[h];exact DP (this.trans (Ax rfl))
  rw[e];rfl
 ·obtain⟨c,l,e,hc⟩:=ow (Nat.pos_iff_ne_zero.1 h)
  rw[e]at h1⊢;unfold DV Lf;rw[h1];simp[hc]
theorem Vl {n:Nat}{l:List UInt8}(h:n≠dv l):decide (Lib.decDigits n=l)=false:=Ay λe=>h (by rw[<-e,(FB n).2.1])
theorem ae {r:Rat}(h:DH r=false):Ck (A0 r)=0:=by
 have hs:CF (A0 r)=Lib.decDigits r.num.natAbs:=by unfold CF;rw[Pb,(MY _).2]
 have hd:=Nc r;have hh:=Rt r;unfold DH at h;simp only[Hd,Hc]at h;have hb:KJ (A0 r)=false:=by
  rw[Q5,hs,VT,hh,Yq];have e1:(decide (r.num<0)&&decide (Lib.decDigits r.num.natAbs=[48]))=false:=by
   by_cases g:r.num<0
   ·rw[Vl (show r.num.natAbs≠dv [48] by show r.num.natAbs≠0;omega),Bool.and_false]
   ·rw[Ay g,ID]
  rw[e1]
  by_cases g:r.den=1
  ·rw[Ax g];rfl
  ·rw[hd,AG g,Yq,Vl (show r.den≠dv [48]from r.den_nz),Vl (show r.den≠dv [49]from g),Ay g];rfl
 unfold Ck;rw[hb,AG (by decide),hs]
 by_cases g:r.den=1
 ·rw[hd,AH g,hh,Ax g,AG (by simp;omega),AG (λk=>Ak k.1 (by decide))]
 ·rw[hd,AG g,(FB _).2.1,(FB _).2.1,CI,AG (λk=>k.2 r.reduced)]
theorem nv (r:Rat):Bv (A0 r)=r:=by
 unfold Bv HY;rw[Pb,cR,Rt,Nc]
 by_cases g:r.den=1
 ·rw[Ax g]
  show mkRat r.num 1=r;rw[<-g];exact Rat.mkRat_self r
 ·rw[Ay g,AG g,(FB _).2.1]
  exact Rat.mkRat_self r
theorem sX:rR 0=str ⟨#[48]⟩:=by
 have h:Bv [48]=0:=by kernel_rfl
 rw[<-h,V9 (by kernel_rfl)];all_goals rfl
theorem mS (r:Rat):BE (sb (A0 r)) ⟨#[49]⟩=decide (r=1):=by
 have h1:Bv [49]=1:=by kernel_rfl
 have e:(⟨#[49]⟩:ByteArray)=sb [49]:=rfl;rw[e,FC,DQ];constructor
 ·intro h
  rw[<-nv r,h,h1]
 ·intro h
  rw[h]
  have:=(O3 (l:=[49]) (by kernel_rfl)).2.2.1
  rwa [h1]at this
end Go.Ide
namespace Go.Proofs
open Go.Shelf Go.RowKit Go.Lib Go.Sort
open Tryz
theorem Cm {o:Option Func}{a b:Func}(h:o=some a)(k:a=b:=by kernel_rfl):o=some b:=h.trans (congrArg some k)
def Tryz.sortAmounts_ren:Go.Shelf.Ren:=⟨fun|6=>75|15=>111|14=>110|28=>159|29=>160|20=>151|21=>152|22=>153|23=>154|24=>155|25=>156|26=>157|27=>158|46=>209|47=>210|48=>211|49=>212|50=>213|57=>243|n=>n,fun|22=>36|24=>68|25=>128|3=>3|39=>160|0=>0|53=>27|55=>192|4=>4|46=>207|45=>206|50=>211|5=>5|9=>9|66=>247|70=>251|76=>272|77=>273|n=>n,fun|n=>n⟩
theorem e2l:Go.Proofs.SlLaysF0.n6 Tryz.prog Tryz.sortAmounts_ren:={
 mixed:=by kernel_rfl
 f6:=⟨Tryz.f75.name,by decide,Cm func75⟩
 f14:=⟨Tryz.f110.name,by decide,Cm func110⟩
 f15:=Cm func111
 f20:=⟨Tryz.f151.name,by decide,Cm func151⟩
 f21:=⟨Tryz.f152.name,by decide,Cm func152⟩
 f22:=⟨Tryz.f153.name,by decide,Cm func153⟩
 f23:=⟨Tryz.f154.name,by decide,Cm func154⟩
 f24:=⟨Tryz.f155.name,by decide,Cm func155⟩
 f25:=⟨Tryz.f156.name,by decide,Cm func156⟩
 f26:=⟨Tryz.f157.name,by decide,Cm func157⟩
 f27:=⟨Tryz.f158.name,by decide,Cm func158⟩
 f28:=Cm func159
 f29:=Cm func160
 f46:=⟨Tryz.f209.name,by decide,Cm func209⟩
 f47:=Cm func210
 f48:=Cm func211
 f49:=⟨Tryz.f212.name,by decide,Cm func212⟩
 f50:=⟨Tryz.f213.name,by decide,Cm func213⟩
 f57:=⟨Tryz.f243.name,by decide,Cm func243⟩
 t0:=underlying0
 a0:=isAgg0
 z0:=sizeOf0
 v0:=zeroValue0
 t3:=underlying3
 a3:=isAgg3
 z3:=sizeOf3
 v3:=zeroValue3
 t4:=underlying4
 a4:=isAgg4
 z4:=sizeOf4
 v4:=zeroValue4
 t5:=underlying5
 a5:=isAgg5
 z5:=sizeOf5
 v5:=zeroValue5
 t9:=underlying9
 a9:=isAgg9
 z9:=sizeOf9
 v9:=zeroValue9
 t22:=underlying36
 a22:=isAgg36
 z22:=sizeOf36
 v22:=zeroValue36
 t25:=underlying128
 a25:=isAgg128
 z25:=sizeOf128
 v25:=zeroValue128
 t39:=underlying160
 a39:=isAgg160
 z39:=sizeOf160
 v39:=zeroValue160
 t45:=underlying206
 a45:=isAgg206
 z45:=sizeOf206
 v45:=zeroValue206
 t46:=underlying207
 a46:=isAgg207
 z46:=sizeOf207
 v46:=zeroValue207
 t50:=underlying211
 a50:=isAgg211
 z50:=sizeOf211
 v50:=zeroValue211
 t53:=underlying27
 a53:=isAgg27
 z53:=sizeOf27
 v53:=zeroValue27
 t55:=underlying192
 a55:=isAgg192
 z55:=sizeOf192
 v55:=zeroValue192
 t66:=underlying247
 a66:=isAgg247
 z66:=sizeOf247
 v66:=zeroValue247
 t70:=underlying251
 a70:=isAgg251
 z70:=sizeOf251
 v70:=zeroValue251
 t76:=underlying272
 a76:=isAgg272
 z76:=sizeOf272
 v76:=zeroValue272
 t77:=underlying273
 a77:=isAgg273
 z77:=sizeOf273
 v77:=zeroValue273 }
end Go.Proofs
namespace Go.Ide
open Go.Proofs Go.RowKit Go.Sort
set_option maxRecDepth 20000
def Bo (p:List UInt8×Rat):D:=.agg [str (sb p.1),str (sb (A0 p.2))]
instance d9F (p:List UInt8×Rat):AW (Bo p):=by unfold Bo;exact AJ
instance d9G (p:List UInt8×Rat):AA (Bo p):=by unfold Bo;exact AJ
def Lg (p:List UInt8×Rat):List Value:=[.string (sb p.1),.string (sb (A0 p.2))]
def If (x y:List UInt8):Int:=if x<y then -1 else if y<x then 1 else 0
theorem RG (x y:List UInt8×Rat):ltOf (λx y:List UInt8×Rat=>If x.1 y.1) x y=ltStr x.1 y.1:=by
 unfold ltOf If ltStr
 by_cases h:x.1<y.1
 ·simp[h]
 ·by_cases h2:y.1<x.1<;>simp[h,h2]
theorem e1e:SWO (ltOf (λx y:List UInt8×Rat=>If x.1 y.1)) where
 irrefl x:=by rw[RG];exact swo_ltStr.irrefl _
 trans x y z h1 h2:=by rw[RG]at*;exact swo_ltStr.trans _ _ _ h1 h2
 ntrans x y z h1 h2:=by rw[RG]at*;exact swo_ltStr.ntrans _ _ _ h1 h2
set_option maxHeartbeats 1000000 in
theorem oJ (x:ByteArray)(W:World):Calls Tryz.prog 112 #[.string x] W λe w'=>e=.returned (.bool false)/\w'=W:=by
 go_enter Tryz.func112,Tryz.ntmps112
 go_wp2
 go_ret
 exact⟨by simp,rfl⟩
theorem Y3 (x:List UInt8):(sb x).toList=x:=by rw[Lib.toList_data]
set_option maxHeartbeats 1000000 in
theorem mD (x y:List UInt8)(W:World):Calls Tryz.prog 77 #[.string (sb x),.string (sb y)] W λe w'=>e=.returned (.int .i64 (If x y))/\w'=W:=by
 go_enter Tryz.func77,Tryz.ntmps77
 go_wp2_with (go_at_call 112;refine(oJ _ _).mono ?_;rintro e w' ⟨rfl,hw⟩;rw[hw])
 all_goals go_ret
 all_goals(refine⟨?_,rfl⟩)
 ·have h:Op.bytesLess x y=true:=by assumption
  rw[bytesLess_eq,Gi]at h;unfold If;rw[AH h];rfl
 ·have h:Op.bytesLess x y=false:=by assumption
  have h2:(!x==y)=true:=by assumption
  rw[bytesLess_eq,Hc]at h;have h3:y<x:=DF λq=>by
   have:=List.le_antisymm (List.not_lt.1 q) (List.not_lt.1 h)
   simp[this]at h2
  unfold If;rw[AG h,AH h3];rfl
 ·have h:Op.bytesLess x y=false:=by assumption
  have h2:(!x==y)=false:=by assumption
  rw[bytesLess_eq,Hc]at h;have h3:¬y<x:=λq=>by
   have:x=y:=by simpa using h2
   rw[this]at q;exact List.lt_irrefl _ q
  unfold If;rw[AG h,AG h3];rfl
set_option maxHeartbeats 1000000 in
theorem mC (x y:List UInt8×Rat)(W:World):Calls Tryz.prog 76 #[.agg (Lg x).toArray,.agg (Lg y).toArray] W λe w'=>e=.returned (.int .i64 (If x.1 y.1))/\∃q os',w'=grow (W.drewN q) os':=by
 have hcon:=mD x.1 y.1;unfold Lg;generalize If x.1 y.1=r at hcon⊢;generalize sb x.1=a at hcon⊢;generalize sb y.1=b at hcon⊢;generalize sb (A0 x.2)=c;generalize sb (A0 y.2)=d
 go_enter Tryz.func76,Tryz.ntmps76
 go_wp2_with (go_at_call 77;refine(hcon _).mono ?_;rintro e w' ⟨rfl,rfl⟩)
 go_ret
 exact⟨rfl,0,_,by rw[alloc_eq_grow,alloc_eq_grow,grow_grow];rfl⟩
theorem szA:(Tryz.prog.info? 68).map (λi=>i.size)=some 2:=by kernel_rfl
theorem kh:I9 Tryz.prog 68=true:=by kernel_rfl
theorem unA:(Tryz.prog.underlying 68).isSome=true:=by kernel_rfl
theorem d9p (w:World):(Go.sizeOf 68).run Tryz.prog w=.ok 2 w:=by
 obtain⟨i,h1,h2⟩:=E6.1 szA;rw[HP h1,h2]
theorem e0g (w:World):(isAgg 68).run Tryz.prog w=.ok true w:=by
 obtain⟨u,h1⟩:=Option.isSome_iff_exists.1 unA;rw[RK h1,kh]
theorem yR:dc Tryz.prog 75 76 Lg 2 (ltOf λx y:List UInt8×Rat=>If x.1 y.1):=λblk cap d w hH hb hd=>
 AnyQ.slices_SortFunc e2l 2 e0g d9p Lg (λ_=>rfl) (λx v hv=>by simp[Lg]at hv;rcases hv with rfl|rfl<;>rfl)
  (λx y=>If x.1 y.1) e1e 76 #[] blk 0 cap d w (enters_of Tryz.func76 (by kernel_rfl) rfl) (λ_ _ _ _ x y=>mC x y _) hH hb hd
theorem kz (l:List (List UInt8×Rat))(hl0:l≠[])(hl:l.length<4611686018427387904)(kb gg:Nat)(H:Hp)(n:Nat):
  Cu C0 75 [.osl kb gg 2 0 l.length,.clo (.func 76) [] []] (⟨kb,gg,68,2,l.map Bo⟩::H) n
   (λd H' n'=>d=.tup []/\n'=n+1/\∃l':List (List UInt8×Rat),l'.Perm l/\l'.Pairwise (λa b=>ltStr b.1 a.1=false)/\H'=⟨kb,gg,68,2,l'.map Bo⟩::H):=
 (ob (C:=C0) (f:=75) (g:=76) (enc:=Lg) (k:=2) (toD:=Bo) (lt:=ltOf λx y:List UInt8×Rat=>If x.1 y.1) (by obtain⟨fn,a1,a2,a3,-⟩:=iu;exact⟨fn,_,a1,a2,a3⟩) (by decide) (λ_=>rfl) (λx v hv=>by simp[Lg]at hv;rcases hv with rfl|rfl<;>rfl) (λx=>rfl) yR l hl0 hl kb gg _ H n).mono λd H' n' ⟨h1,h2,l',h3,h4,h5⟩=>
  ⟨h1,h2,l',h3,h4.imp λh=>by rw[RG]at h;exact h,h5⟩
theorem oc:AK C0 75 [Cb,.clo (.func 76) [] []] (.tup []):=CZ D7 400 40
end Go.Ide
namespace Go.Proofs
open Go.Shelf Go.RowKit Go.Lib Go.Sort
open Tryz
def Tryz.sortedZ_ren:Go.Shelf.Ren:=⟨fun|6=>91|8=>132|9=>133|11=>191|13=>111|12=>192|23=>159|24=>160|14=>224|15=>225|16=>226|17=>227|18=>228|19=>229|20=>230|21=>231|22=>232|25=>254|26=>210|27=>211|28=>255|29=>256|30=>112|31=>268|n=>n,fun|26=>9|28=>144|24=>141|0=>0|3=>3|37=>160|48=>27|50=>192|4=>4|40=>207|39=>206|45=>211|5=>5|9=>9|51=>247|55=>251|57=>272|58=>273|33=>96|n=>n,fun|n=>n⟩
theorem e2n:Go.Proofs.SlLaysZ.n6 Tryz.prog Tryz.sortedZ_ren:={
 mixed:=by kernel_rfl
 f6:=⟨Tryz.f91.name,by decide,Cm func91⟩
 f8:=⟨Tryz.f132.name,by decide,Cm func132⟩
 f11:=⟨Tryz.f191.name,by decide,Cm func191⟩
 t0:=underlying0
 a0:=isAgg0
 z0:=sizeOf0
 v0:=zeroValue0
 t24:=underlying141
 a24:=isAgg141
 z24:=sizeOf141
 v24:=zeroValue141
 t26:=underlying9
 a26:=isAgg9
 z26:=sizeOf9
 v26:=zeroValue9
 t28:=underlying144
 a28:=isAgg144
 z28:=sizeOf144
 v28:=zeroValue144
 i26:=by kernel_rfl }
open Tryz
def Tryz.keysZ_ren:Go.Shelf.Ren:=⟨fun|10=>134|n=>n,fun|33=>96|23=>87|0=>0|4=>4|26=>9|3=>124|n=>n,fun|n=>n⟩
theorem e2k:Go.Proofs.SlLaysZ.n10 Tryz.prog Tryz.keysZ_ren:={
 mixed:=by kernel_rfl
 f10:=⟨Tryz.f134.name,by decide,Cm func134⟩
 t0:=underlying0
 a0:=isAgg0
 z0:=sizeOf0
 v0:=zeroValue0
 t4:=underlying4
 a4:=isAgg4
 z4:=sizeOf4
 v4:=zeroValue4
 t23:=underlying87
 a23:=isAgg87
 z23:=sizeOf87
 v23:=zeroValue87
 t26:=underlying9
 a26:=isAgg9
 z26:=sizeOf9
 v26:=zeroValue9
 t33:=underlying96
 a33:=isAgg96
 z33:=sizeOf96
 v33:=zeroValue96 }
open Tryz
def Tryz.sortM_ren:Go.Shelf.Ren:=⟨fun|6=>133|8=>111|9=>192|19=>159|20=>160|21=>224|22=>225|23=>226|24=>227|25=>228|26=>229|27=>230|28=>231|29=>232|36=>254|31=>210|32=>211|37=>255|38=>256|39=>112|41=>268|n=>n,fun|27=>141|29=>9|3=>3|32=>160|26=>141|0=>0|44=>27|46=>192|4=>4|36=>207|35=>206|41=>211|5=>5|9=>9|53=>247|57=>251|63=>272|64=>273|n=>n,fun|n=>n⟩
theorem kM:Go.Proofs.SlLaysM.n6 Tryz.prog Tryz.sortM_ren:={
 mixed:=by kernel_rfl
 f6:=⟨Tryz.f133.name,by decide,Cm func133⟩
 f8:=Cm func111
 f9:=⟨Tryz.f192.name,by decide,Cm func192⟩
 f19:=Cm func159
 f20:=Cm func160
 f21:=⟨Tryz.f224.name,by decide,Cm func224⟩
 f22:=⟨Tryz.f225.name,by decide,Cm func225⟩
 f23:=⟨Tryz.f226.name,by decide,Cm func226⟩
 f24:=⟨Tryz.f227.name,by decide,Cm func227⟩
 f25:=⟨Tryz.f228.name,by decide,Cm func228⟩
 f26:=⟨Tryz.f229.name,by decide,Cm func229⟩
 f27:=⟨Tryz.f230.name,by decide,Cm func230⟩
 f28:=⟨Tryz.f231.name,by decide,Cm func231⟩
 f29:=⟨Tryz.f232.name,by decide,Cm func232⟩
 f31:=Cm func210
 f32:=Cm func211
 f36:=⟨Tryz.f254.name,by decide,Cm func254⟩
 f37:=⟨Tryz.f255.name,by decide,Cm func255⟩
 f38:=⟨Tryz.f256.name,by decide,Cm func256⟩
 f39:=⟨Tryz.f112.name,by decide,Cm func112⟩
 f41:=⟨Tryz.f268.name,by decide,Cm func268⟩
 t0:=underlying0
 a0:=isAgg0
 z0:=sizeOf0
 v0:=zeroValue0
 t3:=underlying3
 a3:=isAgg3
 z3:=sizeOf3
 v3:=zeroValue3
 t4:=underlying4
 a4:=isAgg4
 z4:=sizeOf4
 v4:=zeroValue4
 t5:=underlying5
 a5:=isAgg5
 z5:=sizeOf5
 v5:=zeroValue5
 t9:=underlying9
 a9:=isAgg9
 z9:=sizeOf9
 v9:=zeroValue9
 t26:=underlying141
 a26:=isAgg141
 z26:=sizeOf141
 v26:=zeroValue141
 t27:=underlying141
 a27:=isAgg141
 z27:=sizeOf141
 v27:=zeroValue141
 t29:=underlying9
 a29:=isAgg9
 z29:=sizeOf9
 v29:=zeroValue9
 t32:=underlying160
 a32:=isAgg160
 z32:=sizeOf160
 v32:=zeroValue160
 t35:=underlying206
 a35:=isAgg206
 z35:=sizeOf206
 v35:=zeroValue206
 t36:=underlying207
 a36:=isAgg207
 z36:=sizeOf207
 v36:=zeroValue207
 t41:=underlying211
 a41:=isAgg211
 z41:=sizeOf211
 v41:=zeroValue211
 t44:=underlying27
 a44:=isAgg27
 z44:=sizeOf27
 v44:=zeroValue27
 t46:=underlying192
 a46:=isAgg192
 z46:=sizeOf192
 v46:=zeroValue192
 t53:=underlying247
 a53:=isAgg247
 z53:=sizeOf247
 v53:=zeroValue247
 t57:=underlying251
 a57:=isAgg251
 z57:=sizeOf251
 v57:=zeroValue251
 t63:=underlying272
 a63:=isAgg272
 z63:=sizeOf272
 v63:=zeroValue272
 t64:=underlying273
 a64:=isAgg273
 z64:=sizeOf273
 v64:=zeroValue273 }
theorem e2p (m:Nat):AnyZ.SortsIn Tryz.prog Tryz.sortedZ_ren Fence.wide m:=
 ⟨λblk off cap ss W hH hblk hsz=>callsIn_wide.2 (AnyM.slices_Sort_string kM blk off cap ss W hH hblk hsz),
  λp cap W=>callsIn_wide.2 (AnyM.slices_Sort_string_none kM p cap W)⟩
theorem e2o {H:Type}(Bm b nn:Nat)(D0:DataW H){R:Value->Option (DataW H×List MemPlace)}(w:World)(hBm:Bm<w.heap.size)
  (hm:w.cell? ⟨Bm,0,none⟩=some (.map (some b))) (hown:w.ownsMap Tryz.prog 9 R b nn D0) (hN:Maps.size D0<=10000):
  Calls Tryz.prog 91 #[.func (.func 134) #[] #[.pointer (some ⟨Bm,0,none⟩)]] w λe w'=>∃(v:Value) (ss:List (List UInt8)),e=.returned v/\ss.Perm (strKeys D0) /\
   w'.ownsRow w.heap.size 9 1 v ss.length ((ss.mergeSort (λx y=>decide (x<=y))).map encStr)/\Below w.heap.size w w':=
 (callsIn_wide.1 (AnyZ.sorted_in e2n Fence.wide 6 trivial trivial trivial trivial rfl (by omega) (e2p _) (enters_of Tryz.func133 (by kernel_rfl) rfl) 134 _ trivial (enters_of Tryz.func134 (by kernel_rfl) rfl) _ _ (Nat.le_trans hN (by decide)) (by omega) w
  (AnyZ.keys_gives e2k Fence.wide _ trivial rfl (by omega) Bm b nn D0 w hBm hm hown))).mono λe w' ⟨v,ss,h1,h2,h3,_,h5⟩=>⟨v,ss,h1,h2,h3,h5⟩
end Go.Proofs
namespace Go.Ide
open Go.Proofs Go.RowKit Go.Sort
set_option maxRecDepth 20000
def P3 (ks:List (List UInt8)):List (List UInt8):=ks.mergeSort λx y=>decide (x<=y)
theorem bF (k:List UInt8)(hb:k.length<=maxLen):keyOf Tryz.prog 9 (encStr k)=some (.string k):=by
 simp[keyOf,mapKey,hb,ByteArray.size,encStr]
theorem lC {H:Type}{R:Value->Option (DataW H×List MemPlace)}{z:DataW H}(hR:∀v,R v=some (z,[]))(es:List MapEntry)(ks:List (List UInt8))(hk:es.map (·.key)=ks.map encStr)(hb:∀k∈ks,k.length<=maxLen):
  (strKeys (DataW.map ((es.map (WideElems.rg Tryz.prog 9 R)).foldr DataW.insert []))).Perm ks:=by
 show(((es.map (WideElems.rg Tryz.prog 9 R)).foldr DataW.insert []).map λp=>strOf p.1).Perm ks;refine((WideShapes.sorted_perm _).map _).trans ?_;rw[List.map_map]
 have:es.map ((λp:Lit×DataW H=>strOf p.1) ∘ WideElems.rg Tryz.prog 9 R)=ks:=by
  induction es generalizing ks with
  |nil=>
   cases ks with
   |nil=>rfl
   |cons a l=>simp at hk
  |cons e es ih=>
   cases ks with
   |nil=>simp at hk
   |cons k ks=>
    simp only[Ci,Fu]at hk;rw[Ci,ih ks hk.2 λk h=>hb k (CA _ h)]
    congr 1
    have h1:=bF k (hb k B3);rw[<-hk.1]at h1;show strOf ((WideElems.rd Tryz.prog 9 R e).getD _).1=k;unfold WideElems.rd;rw[h1,hR];rfl
 rw[this]
theorem GU (l:DX)(ks:List (List UInt8))(hks:l.map (·.1)=ks.map sb)(hl:l.length<=10000)(hb:∀k∈ks,k.length<=1000)(hnd:ks.Nodup)(kb g T:Nat)(H:Hp)(n:Nat):
  Cu C0 91 [.clo (.func 134) [] [.optr kb g 1 0 0]] (⟨kb,g,T,1,[mapD l]⟩::H) n
   (λd H' n'=>d=.sl false 1 ((P3 ks).map λx=>str (sb x))/\H'=⟨kb,g,T,1,[mapD l]⟩::H/\n'=n+1):=by
 refine⟨by obtain⟨fn,a1,a2,a3,-⟩:=jR;exact⟨fn,_,a1,a2,a3⟩,λF ρ w vs m fr gn hsz rep=>?_⟩;obtain⟨v0,rfl⟩:∃v0,vs = #[v0]:=by
  match vs,hsz with
  |⟨[a]⟩,_=>exact⟨a,rfl⟩
 have r0:AU ρ _ w (.clo _ [] [.optr kb g 1 0 0]) v0:=rep 0 _ rfl;cases r0 with
 |clo hf1 hc1 _ h2=>
  rename_i fs cs1 _;simp at hf1 hc1;subst hf1;obtain⟨c,rfl⟩:∃c,cs1 = #[c]:=by
   match cs1,hc1 with
   |⟨[a]⟩,_=>exact⟨a,rfl⟩
  have r1:AU ρ _ w (.optr kb g 1 0 0) c:=h2 0 _ rfl;cases r1 with
  |optr hr=>
   rename_i b;have hent:∃cs,w.heap[b]?=some (.cells cs T (0,0))/\De ρ (AN F.X ρ (⟨kb,g,T,1,[mapD l]⟩::H)) w ⟨kb,g,T,1,[mapD l]⟩ cs:=by
    rcases m.hok.ent _ B3 with⟨h,h2⟩|⟨b2,cs2,a1,a2,a3⟩
    ·exact Ak (hr.symm.trans h2) (by simp)
    ·cases hr.symm.trans a1;exact⟨cs2,a2,a3⟩
   obtain⟨cs,hcb,hok⟩:=hent;have hlt:b<w.heap.size:=m.lt B3 hr;have hr0:=hok.rep 0 (mapD l) 0 (mapD l) rfl rfl;have h9:1<=cs.size:=by simpa using hok.len
   have hcs:0<cs.size:=h9;rw[Aw,B9 (by simpa using hcs)]at hr0;simp only[Hi,D9,JR]at hr0;obtain⟨v,hv⟩:∃v,cs[0]=v:=⟨_,rfl⟩
   rw[hv]at hr0;unfold mapD at hr0;cases hr0 with
   |mp hO hrl hb3 h1 h2 hBo hk hvv=>
    rename_i r clock es;rw[Ai]at h1;have hkey:es.toList.map (·.key)=ks.map encStr:=by
     apply Qg;intro i;rw[BC,BC];have hli:=congrArg (λq=>q[i]?) hks;simp only[BC]at hli;rcases BG i l.length with hi|hi
     ·have hd:=hk i (.prim (.string l[i].1)) (by rw[BC,By hi];rfl)
      rw[By hi]at hli;obtain⟨kk,hkk,hkk2⟩:=E6.1 hli.symm;have hi2:i<es.size:=by omega
      rw[Aw,B9 hi2]at hd;rw[hkk,Js,B9 hi2];simp only[Jy,BP,JR]at hd⊢;generalize es[i].key=kv at hd;cases hd;have h8:sb kk=l[i].1:=hkk2;rw[<-h8]
     ·have h5:ks.length=l.length:=by have:=congrArg List.length hks;simpa using this.symm
      rw[EE (by simp;omega),EE (by omega)];rfl
    have hkn:(es.toList.map (·.key)).Nodup:=by
     rw[hkey];exact List.pairwise_map.2 (hnd.imp λh q=>h (encStr_inj q))
    have hbm:∀k∈ks,k.length<=maxLen:=λk h=>BU (hb k h) (by decide)
    let R:Value->Option (DataW Unit×List MemPlace):=λ_=>some (.nil,[])
    have hown:w.ownsMap Tryz.prog 9 R r es.size (.map ((es.toList.map (WideElems.rg Tryz.prog 9 R)).foldr DataW.insert [])):=by
     refine⟨es,clock,hb3,⟨BU (by omega:es.size<=10000) (by decide),⟨λx hx=>?_,hBo.nodup,hkn⟩,λx hx=>?_⟩,An _,rfl⟩
     ·obtain⟨j,hj⟩:=Lz.1 hx
      exact hBo.1 j x (by simpa using hj)
     ·have:x.key∈es.toList.map (·.key):=List.mem_map_of_mem hx
      rw[hkey]at this;obtain⟨k,hk1,hk2⟩:=Bx.1 this;have h1:=bF k (hbm k hk1);rw[hk2]at h1;exact⟨_,by unfold WideElems.rd;rw[h1];rfl⟩
    have hsk:=lC (H:=Unit) (R:=R) (z:=.nil) (λ_=>rfl) es.toList ks hkey hbm;have hcell:w.cell? ⟨b,0,none⟩=some (.map (some r)):=by
     unfold World.cell?;simp only[hcb];rw[B9 hcs,hv];rfl
    have hsize:Maps.size (DataW.map ((es.toList.map (WideElems.rg Tryz.prog 9 R)).foldr DataW.insert []))<=10000:=by
     rw[Maps.size_eq,(WideShapes.sorted_perm _).length_eq,Ai,Im];omega
    refine(e2o b r es.size _ w hlt hcell hown hsize).mono ?_;rintro e w' ⟨v,ss,rfl,hp,hrow,hbw⟩;have hss:ss.mergeSort (λx y=>decide (x<=y))=P3 ks:=mergeSort_of_perm (hp.trans hsk);rw[hss]at hrow;have x:BZ ρ (AN F.X ρ (⟨kb,g,T,1,[mapD l]⟩::H)) w ρ (AN F.X ρ (⟨kb,g,T,1,[mapD l]⟩::H)) w':=⟨hbw.size,λ_ _ _ h=>h,λb hb' hO=>⟨hO,hbw.block b hb'⟩,λb cs T fz hh=>⟨cs,_,by
     rw[hbw.block b (DA.1 hh).1];exact hh,rfl⟩⟩
    refine⟨v,_,_,n+1,ρ,rfl,⟨rfl,rfl,rfl⟩,m.same x hbw.os hbw.tape hbw.output hbw.block,x,λa b h=>fr a b (by omega),λe he=>Di (gn e he),?_⟩;obtain⟨K,hK⟩:∃K,P3 ks=K:=⟨_,rfl⟩
    rw[hK]at hrow⊢;obtain⟨hlen,⟨rfl,hz⟩|⟨gb,cap,cur,rfl,hbase,hgb,q1,q2,q3,q4⟩⟩:=hrow
    ·rw[hz,Ai]at hlen
     have:K=[]:=List.length_eq_zero_iff.1 (by omega)
     rw[this];exact .nil 1
    ·rw[Ai,Ea]at hlen
     rw[Ea]at q3 q4;have hat:∀j x,K[j]?=some x->cur[j]?=some (Value.string (sb x)):=λj x hx=>by
      have hj:j<K.length:=(BT.1 hx).1
      have:=congrArg (λq=>q[j]?) q4
      simp only[FW,BC,hx,Jy]at this;rw[DU]at this;simpa using this
     have hall:∀j,j<ss.length*1->∃x,cur[j]?=some (Value.string (sb x)):=λj hj=>by
      have:j<K.length:=by omega
      exact⟨_,hat j _ (By this)⟩
     refine .sl (λj=>cur.getD j undef) (by rw[Ai,hlen]) q1 ?_ (DA.1 hgb).1 ?_ ?_ ?_ ?_
     ·rintro(h|⟨e,he,h⟩)
      ·have:=m.xlt _ h;have:=m.size;omega
      ·have:=m.lt he h;omega
     ·intro i e h
      rw[BC]at h;obtain⟨x,-,rfl⟩:=E6.1 h;rfl
     ·intro j hj
      obtain⟨x,hx⟩:=hall j hj;unfold World.cell?;simp only[hgb,BW];rw[hx,Aw,hx];rfl
     ·intro j hj
      obtain⟨x,hx⟩:=hall j hj;rw[Aw,hx];rfl
     ·intro i e j d h h2
      rw[BC]at h;obtain⟨x,hx,rfl⟩:=E6.1 h
      have:j=0:=by
       have:=(BT.1 h2).1
       exact Nat.lt_one_iff.1 this
      subst this;cases h2;show AU _ _ _ _ (cur.getD (i*1+0) undef);rw[Ea,D9,Aw,hat i x hx];exact .prim _
end Go.Ide
namespace Go.Ide
open Go.Proofs Go.RowKit Go.Sort
set_option maxRecDepth 20000
set_option maxHeartbeats 4000000
def qv (q:BR)(j:Nat):List UInt8×Rat:=q.getD j ([],0)
theorem Wj {q:BR}{j:Nat}{p:List UInt8×Rat}(h:q[j]?=some p):qv q j=p:=by unfold qv;rw[EM,h];rfl
theorem MQ.len {B:Nat}:∀ {q:BR} {m:DX},MQ B q m->q.length=m.length
 | [],[],_=>rfl
 |_::_,_::_,⟨_,h⟩=>by simp[MQ.len h]
theorem MQ.at_ {B:Nat}:∀ {q:BR} {m:DX} (j:Nat) {e:ByteArray×D},MQ B q m->m[j]?=some e->∃(p:List UInt8×Rat) (y:GF),q[j]?=some p/\e=(sb p.1,y.D)/\FR p.2 y B
 | [],[],j,e,_,h=>by simp at h
 |p::q,e'::m,0,e,⟨⟨h1,y,h2,h3⟩,_⟩,h=>by
  simp at h;subst h;exact⟨p,y,rfl,by rw[<-h1,<-h2],h3⟩
 |_::q,_::m,j+1,e,⟨_,h4⟩,h=>by
  obtain⟨p,y,a,b,c⟩:=MQ.at_ j h4 (by simpa using h);exact⟨p,y,by simpa using a,b,c⟩
theorem UF:∀(n:Nat) (l:List Nat),l.Nodup->(∀i∈l,i<n)->l.length<=n
 | 0,[],_,_=>An _
 | 0,a::l,_,h=>Ak (h a (by simp)) (Hg a)
 |n+1,l,hd,h=>by
  by_cases hn:n∈l
  ·have h1:=UF n (l.erase n) (hd.erase n) λi hi=>by
    have h2:=h i (List.mem_of_mem_erase hi);have h3:i≠n:=(hd.mem_erase_iff.1 hi).1;omega
   rw[List.length_erase_of_mem hn]at h1;omega
  ·have h1:=UF n l hd λi hi=>by
    have h2:=h i hi;have h3:i≠n:=λe=>hn (e ▸ hi)
    omega
   omega
def GD (q:BR):BR:=q.mergeSort λa b=>!ltStr b.1 a.1
theorem LB (q:BR):(GD q).Perm q:=List.mergeSort_perm _ _
theorem R3 (q:BR):(GD q).Pairwise λa b=>ltStr b.1 a.1=false:=by
 have:=List.pairwise_mergeSort (le:=λa b:List UInt8×Rat=>!ltStr b.1 a.1) (λa b c h1 h2=>by simp only[Bs]at*;exact swo_ltStr.ntrans _ _ _ h2 h1) (λa b=>by
  cases h1:ltStr b.1 a.1 with
  |false=>rfl
  |true=>
   cases h2:ltStr a.1 b.1 with
   |false=>rfl
   |true=>have:=swo_ltStr.trans _ _ _ h1 h2;rw[swo_ltStr.irrefl]at this;cases this) q
 exact this.imp λh=>by simpa using h
theorem zr {q:BR}(hn:(q.map (·.1)).Nodup){a b:List UInt8×Rat}(ha:a∈q)(hb:b∈q)(h:a.1=b.1):a=b:=by
 obtain⟨i,hi,rfl⟩:=List.mem_iff_getElem.1 ha;obtain⟨j,hj,rfl⟩:=List.mem_iff_getElem.1 hb
 have:i=j:=(List.getElem_inj (h₀:=by simpa using hi) (h₁:=by simpa using hj) hn).1 (by simpa using h)
 subst this;rfl
theorem Qy {a b:List UInt8}(h1:ltStr a b=false)(h2:ltStr b a=false):a=b:=by
 simp only[ltStr,Hc,List.not_lt]at h1 h2;exact List.le_antisymm h2 h1
theorem Tx {q l l':BR}(hn:(q.map (·.1)).Nodup)(hp:l.Perm q)(hp':l'.Perm q)(hs:l.Pairwise λa b=>ltStr b.1 a.1=false)(hs':l'.Pairwise λa b=>ltStr b.1 a.1=false):l=l':=
 List.Perm.eq_of_pairwise (le:=λa b:List UInt8×Rat=>ltStr b.1 a.1=false) (λ_ _ ha hb h1 h2=>zr hn (hp.mem_iff.1 ha) (hp'.mem_iff.1 hb) (Qy h2 h1)) hs hs' (hp.trans hp'.symm)
theorem yk (q:BR)(dn:List Nat)(hd:dn.Nodup)(h1:∀i∈dn,i<q.length)(h2:∀i,i<q.length->i∈dn):(dn.map (qv q)).Perm q:=by
 have hp:dn.Perm (List.range q.length):=(List.perm_ext_iff_of_nodup hd List.nodup_range).2 λa=>by
  rw[List.mem_range];exact⟨h1 a,h2 a⟩
 have he:(List.range q.length).map (qv q)=q:=by
  apply List.ext_getElem (by simp);intro i h3 h4;rw[List.getElem_map,List.getElem_range];exact Wj (By h4)
 have:=hp.map (qv q)
 rwa [he]at this
def Jm (q:BR):BR:=if q.any (λp=>DH p.2)then[]else GD q
def Ia (q:BR):Nat:=if q.any (λp=>DH p.2)then 4 else 0
def KU (q:BR):D:=.tup [.sl false 2 ((Jm q).map Bo),i64 (Ia q:Nat)]
instance d7I (q:BR):AA (KU q):=by unfold KU;exact AJ
theorem aL (B:Nat)(hB9:B<100000)(q:BR)(m:DX)(hm:MQ B q m)(hl:q.length<=10000)(hnd:(q.map (·.1)).Nodup):AK C0 41 [mapD m] (KU q):=by
 refine Af.walk w1 iS rfl λF0=>?_
 obtain⟨ks,hks⟩:∃ks:List D,m.map (λp=>(.prim (.string p.1):D))=ks:=⟨_,rfl⟩
 obtain⟨vs,hvs⟩:∃vs:List D,m.map (·.2)=vs:=⟨_,rfl⟩
 have hml:=hm.len;have hkl:ks.length=m.length:=by rw[<-hks,Ai]
 unfold mapD;rw[hks,hvs];refine sZ 0 ?_;refine AF kB ?_;refine sZ 100 ?_;refine AF kB ?_;refine AC.seq ?_;refine AC.seq ?_;refine Ij (by kernel_rfl) ?_;change Bn _ _ _ _ _ ([0]++(1::[])) _ _;refine GE w1 200 [0] _ ?_;refine AF kB ?_;refine e1M 201 (PB (w1.xt 87 _ rfl)).1 rfl rfl rfl rfl (XP F0) (λF1 o1 hto hO hI=>Bn.nil ?_);refine BO ?_;refine AC.block ?_;refine Gh (α:=List Nat×Obj×Nat×Nat) (λp=>⟨[(8,.optr 201 4 0 0 0),(4,EO 706 p.2.2.1 2 (p.1.map λj=>Bo (qv q j)))],EI 706 p.2.2.1 68 2 (p.1.map λj=>Bo (qv q j)),p.2.2.2⟩) (λp=>q.length-p.1.length)
  (λp F=>DS C0 F0 F [⟨201,4,p.2.1⟩]/\N5 F p.2.1 ks vs p.1/\∀j∈p.1,DH (qv q j).2=false) ([],o1,0,_) ⟨hO,hI,by simp⟩ AL ?_
 clear hO hI hto;rintro⟨dn,o,g7,n1⟩ F ⟨hO,hI,hB⟩;dsimp only at hO hI hB⊢;refine AC.seq ?_;refine Ij (by kernel_rfl) ?_;change Bn _ _ _ _ _ [0,1] _ _;refine e1L rfl rfl rfl rfl hO hI (λhall=>?_) (λj kd vd F2 o2 hjn hkd hvd hto hO2 hI2=>?_)
 ·change Bn _ _ _ _ _ ([1]++[]) _ _
  refine GE w1 300 [1] [] ?_;refine AF kB ?_;refine Bn.nil ?_;refine BO ?_;refine AC.seq ?_;refine AO ?_;refine CL ?_;have hq2:∀j,j<q.length->j∈dn:=λj hj=>hall j (by rw[hkl,<-hml];exact hj)
  have hdn:dn.Nodup/\∀i∈dn,i<q.length:=by
   obtain⟨bm,es,clock,since,c0,seen,-,-,-,z4,-,-,-,-,-,-,-,-,z8,z9⟩:=hI;exact⟨z8,λi hi=>by have:=z9 i hi;omega⟩
  have hpm:=yk q dn hdn.1 hdn.2 hq2;have hpl:(dn.map (qv q)).length=q.length:=hpm.length_eq;have hbf:q.any (λp=>DH p.2)=false:=by
   rw[List.any_eq_false];intro p hp;obtain⟨i,hpi⟩:=Lz.1 hp;have hi:=(BT.1 hpi).1
   have:=hB i (hq2 i hi)
   rw[Wj hpi]at this;rw[this];exact Bool.false_ne_true
  have hmm:(dn.map λj=>Bo (qv q j))=(dn.map (qv q)).map Bo:=by rw[List.map_map];rfl
  rw[hmm];generalize hLL:dn.map (qv q)=LL at hpm hpl⊢;have hrs:KU q=.tup [.sl false 2 ((GD q).map Bo),i64 0]:=by unfold KU Jm Ia;rw[hbf];rfl
  clear hmm hI hO hB hall hq2 hdn;rcases LL with _|⟨z,LL⟩
  ·have hqn:q=[]:=List.length_eq_zero_iff.1 (by rw[<-hpl];rfl)
   subst hqn;rw[show EO 706 g7 2 (List.map Bo [])=Cb from rfl,show EI 706 g7 68 2 (List.map Bo [])=[]from rfl];have cS:=oc;refine AI AZ kB cS AB AB AB AB AB ?_;exact⟨_,Hn (.nil 2) (.refl _),AA.out,by rw[hrs,show GD []=[]from List.mergeSort_nil];rfl⟩
  ·have cS:=λkb gg H n=>kz (z::LL) (by simp) (by rw[hpl];omega) kb gg H n
   rw[Br]at cS;rw[show EO 706 g7 2 (List.map Bo (z::LL))=.osl 706 g7 2 0 ((LL.map Bo).length+1)from rfl,show EI 706 g7 68 2 (List.map Bo (z::LL))=[⟨706,g7,68,2,(z::LL).map Bo⟩]from rfl,Ai];refine AI AZ kB cS AB AB AB AB AB ?_;refine BF.own _ (cS 706 g7 [] _) ?_;rintro d H' n' ⟨rfl,rfl,l',hp',hs',rfl⟩;have hpq:l'.Perm q:=hp'.trans hpm;have hl':=Tx hnd hpq (LB q) hs' (R3 q);have hl0:l'≠[]:=λq=>by rw[q]at hp';have:=hp'.length_eq;simp at this
   have hll:LL.length+1=l'.length:=by rw[hp'.length_eq];rfl
   rw[hll];rw[<-hl']at hrs;clear hl' cS hp' hs' hpm hll;refine AI AZ kB AB AB AB AB AB AB ?_;rw[hrs];refine⟨_,Hn (?_:Fz _ [] _ (.sl false 2 (l'.map Bo))) (.refl _),AA.out,rfl⟩;rcases l' with _|⟨z',t'⟩
   ·exact Ak rfl hl0
   ·have:=SB 706 g7 68 2 ((z'::t').map Bo)
    rw[show EO 706 g7 2 ((z'::t').map Bo)=.osl 706 g7 2 0 ((t'.map Bo).length+1)from rfl,show EI 706 g7 68 2 ((z'::t').map Bo)=[⟨706,g7,68,2,(z'::t').map Bo⟩]from rfl,Ai]at this;exact this
 change Bn _ _ _ _ _ ([1]++[]) _ _;refine GE w1 300 [1] [] ?_;refine AF kB ?_;refine Bn.nil ?_;refine BO ?_;refine AC.seq ?_;refine AO ?_;refine Am ?_;obtain⟨p,hp⟩:∃p,m[j]?=some p:=by
  rw[<-hks,BC]at hkd;obtain⟨p,hp,-⟩:=E6.1 hkd;exact⟨p,hp⟩
 obtain⟨pq,y,hq,rfl,hy⟩:=hm.at_ j hp;have hkd2:kd=str (sb pq.1):=by
  rw[<-hks,BC,hp]at hkd;exact(FY hkd).symm
 have hvd2:vd=y.D:=by
  rw[<-hvs,BC,hp]at hvd;exact(FY hvd).symm
 subst hkd2 hvd2;have hqv:=Wj hq;refine AC.block ?_;refine AC.seq ?_;refine Ij (by kernel_rfl) ?_;change Bn _ _ _ _ _ (0::([1,2,3,4,5]++[])) _ _;refine e1J (xo:=⟨201,4,o2⟩) rfl rfl rfl rfl hO2 B3 hI2 hkd hvd ?_;refine GE w1 400 [1,2,3,4,5] [] ?_;refine AF kB ?_;refine Bn.nil ?_;have cL:=bI hy (by omega);have cT:=gF hy (by omega);obtain⟨bg,hbg⟩:∃b,DH pq.2=b:=⟨_,rfl⟩
 rw[hbg]at cL;refine BO ?_;have hdl:dn.length+1<=q.length:=by
  have h1:∀i∈dn++[j],i<q.length:=by
   obtain⟨bm,es,clock,since,c0,seen,-,-,-,z4,-,-,-,-,-,-,-,-,-,z9⟩:=hI2;intro i hi
   have:=z9 i hi
   omega
  have h2:(dn++[j]).Nodup:=by
   obtain⟨bm,es,clock,since,c0,seen,-,-,-,-,-,-,-,-,-,-,-,-,z8,-⟩:=hI2;exact z8
  have:=UF _ _ h2 h1
  simpa using this
 have hsn:(dn++[j]).map (λj=>Bo (qv q j))=dn.map (λj=>Bo (qv q j))++[.agg [str (sb pq.1),str (sb (A0 pq.2))]]:=by rw[DN,Ci,List.map_nil,hqv];rfl
 have hTl:(dn.map λj=>Bo (qv q j)).length=dn.length:=Ai ..;obtain⟨TL,hTL⟩:∃TL,dn.map (λj=>Bo (qv q j))=TL:=⟨_,rfl⟩
 rw[hTL]at hsn hTl⊢;cases bg
 rotate_left
 ·have hrb:(D.tup [.sl false 2 [],i64 4])=KU q:=by
   have:q.any (λp=>DH p.2)=true:=by
    rw[List.any_eq_true];exact⟨pq,Av hq,hbg⟩
   unfold KU Jm Ia;rw[this];rfl
  rcases TL with _|⟨z,TL⟩
  ·dsimp only[IR,IS]
   refine AI AZ kB cL AB AB AB AB AB ?_;exact⟨_,Hn (.nil 2) (.refl _),AA.out,hrb⟩
  ·dsimp only[Gv,Gw]
   refine AI AZ kB cL AB AB AB AB AB ?_;exact⟨_,Hn (.nil 2) (.refl _),AA.out,hrb⟩
 have hB2:∀i∈dn++[j],DH (qv q i).2=false:=λi hi=>by
  rcases Bl.1 hi with hi|hi
  ·exact hB i hi
  ·rw[D4]at hi;rw[hi,hqv];exact hbg
 rcases TL with _|⟨z,TL⟩
 ·dsimp only[IR,IS]
  refine AI AZ kB cL cT AB AB AB AB ?_;exact⟨(dn++[j],o2,_,_),⟨hO2,hI2,hB2⟩,by dsimp only;rw[Be,HJ];omega,by(dsimp only;rw[hsn];exact AL)⟩
 ·dsimp only[Gv,Gw]
  have htk:List.take (TL.length+1) (z::TL)=z::TL:=by simp
  rw[Br]at hTl;refine AI AZ htk cL cT AB AB AB AB ?_;exact⟨(dn++[j],o2,_,_),⟨hO2,hI2,hB2⟩,by dsimp only;rw[Be,HJ];omega,by(dsimp only;rw[hsn,Ou];exact AL)⟩
abbrev Cv (q:BR):List (List UInt8):=q.map (·.1)
theorem Y4 (lot:List UInt8)(r:Rat):∀q:BR,Cv (HB lot r q)=if lot∈Cv q then Cv q else Cv q++[lot]
 | []=>by simp[HB,Cv]
 |p::l=>by
  unfold HB
  by_cases h:lot=p.1
  ·rw[AH h]
   subst h;simp[Cv]
  ·rw[AG h]
   show p.1::Cv (HB lot r l)=if lot∈p.1::Cv l then p.1::Cv l else p.1::Cv l++[lot]
   rw[Y4 lot r l]
   by_cases h2:lot∈Cv l
   ·rw[AH h2,AH (CA _ h2)]
   ·rw[AG h2,AG (by
     intro q;rcases A8.1 q with q|q
     ·exact h q
     ·exact h2 q)];rfl
structure Hy (P:List UInt8->Prop)(n:Nat)(q:BR):Prop where
 nd:(Cv q).Nodup
 all:∀k∈Cv q,P k
 len:q.length<=n
theorem Hy.set {P:List UInt8->Prop}{n:Nat}{q:BR}(h:Hy P n q){lot:List UInt8}(hl:P lot)(r:Rat):Hy P (n+1) (HB lot r q):=by
 have hk:=Y4 lot r q;have hlen:(HB lot r q).length=(Cv (HB lot r q)).length:=by simp[Cv]
 have hlen2:q.length=(Cv q).length:=by simp[Cv]
 by_cases hm:lot∈Cv q
 ·rw[AH hm]at hk
  exact⟨by rw[hk];exact h.nd,by rw[hk];exact h.all,by rw[hlen,hk,<-hlen2];have:=h.len;omega⟩
 ·rw[AG hm]at hk
  refine⟨?_,?_,?_⟩
  ·rw[hk,EQ]
   exact⟨h.nd,by simp,λa ha b hb=>by
    rw[D4]at hb;subst hb;exact λe=>hm (e ▸ ha)⟩
  ·rw[hk]
   intro k hk;rcases Bl.1 hk with q|q
   ·exact h.all k q
   ·rw[D4]at q;rw[q];exact hl
  ·rw[hlen,hk,Be,<-hlen2]
   have:=h.len
   simp;omega
theorem Hy.mono {P:List UInt8->Prop}{n n':Nat}{q:BR}(h:Hy P n q)(hn:n<=n'):Hy P n' q:=⟨h.nd,h.all,BU h.len hn⟩
theorem Yd {P:List UInt8->Prop}{n:Nat}{q:BR}(x:AE)(h:Hy P n q)(hp:∀s∈x.shs,P s.lot):∀j,j<=x.shs.length->Hy P (n+j) (G6 x j q)
 | 0,_=>h
 |j+1,hj=>by
  obtain⟨s,hs⟩:∃s,x.shs[j]?=some s:=⟨_,By hj⟩
  rw[Oz x j q hs];exact(Yd x h hp j (by omega)).set (hp s (Av hs)) _
theorem YF {P:List UInt8->Prop}(l:List AE)(hp:∀x∈l,x.shs.length<=64/\∀s∈x.shs,P s.lot):∀i,i<=l.length->Hy P (64*i) (CR (l.take i))
 | 0,_=>⟨by simp[CR,Cv],by simp[CR,Cv],by simp[CR]⟩
 |i+1,hi=>by
  obtain⟨x,hx⟩:∃x,l[i]?=some x:=⟨_,By hi⟩
  rw[Qx l i hx];have h1:=hp x (Av hx);exact(Yd x (YF l hp i (by omega)) h1.2 _ (An _)).mono (by omega)
theorem UA {P:List UInt8->Prop}{l:List AE}(hp:∀x∈l,x.shs.length<=64/\∀s∈x.shs,P s.lot):Hy P (64*l.length) (CR l):=by
 have:=YF l hp l.length (An _)
 rwa [DJ]at this
theorem MQ.keys {B:Nat}:∀ {q:BR} {m:DX},MQ B q m->m.map (·.1)=(Cv q).map sb
 | [],[],_=>rfl
 |p::q,e::m,⟨⟨h1,_⟩,h4⟩=>by
  simp only[Ci,Cv];rw[h1]
  congr 1
  exact MQ.keys h4
theorem Yb (s:ByteArray):∀m:DX,Ic s (m.map λp=>.prim (.string p.1)) (m.map (·.2))=some (Ir s m)
 | []=>rfl
 |p::l=>by
  simp only[Ci,Ic,Ir];cases BE s p.1 with
  |true=>rfl
  |false=>exact Yb s l
theorem UW:∀ {q:BR} {p:List UInt8×Rat},(Cv q).Nodup->p∈q->GZ p.1 q=some p.2
 |a::q,p,hn,hp=>by
  unfold GZ;have hn:(a.1::Cv q).Nodup:=hn;rw[List.nodup_cons]at hn;rcases A8.1 hp with rfl|hp
  ·rw[AH rfl]
  ·rw[AG λe=>hn.1 (by rw[<-e];exact List.mem_map_of_mem hp)]
   exact UW hn.2 hp
theorem mi (q:BR):P3 (Cv q)=(GD q).map (·.1):=by
 unfold P3;refine List.Perm.eq_of_pairwise (le:=λx y:List UInt8=>x<=y) (λ_ _ _ _ h1 h2=>List.le_antisymm h1 h2) ?_ ?_ ?_
 ·have:=List.pairwise_mergeSort (le:=λx y:List UInt8=>decide (x<=y)) (λa b c h1 h2=>by simp only[Gi]at*;exact List.le_trans h1 h2) (λa b=>by
   rcases List.le_total a b with h|h<;>simp[h]) (Cv q)
  exact this.imp λh=>by simpa using h
 ·rw[List.pairwise_map]
  exact(R3 q).imp λh=>by simpa[ltStr]using h
 ·exact(List.mergeSort_perm _ _).trans ((LB q).map _).symm
abbrev LK:Dr:=[(12,[0,1,2,3,4,5],[6])]
open Go.Proofs Go.RowKit
set_option maxRecDepth 20000
set_option maxHeartbeats 4000000
def CX (l:List AE):Bool:=l.all λx=>BE (sb x.grain) (sb (CV l 0).grain)
def IA (l:List AE):Nat:=if l.length=0 then 2 else if 64<l.length then 5 else if EJ (λi=>Cn (CV l i)) l.length≠0 then EJ (λi=>Cn (CV l i)) l.length else if CX l=false then 16 else if Ab l>999999999 then 4 else 0
def S7 (l:List AE):Int:=if IA l=0 then Ab l else 0
theorem nQ (b:Bool)(v:List AE)(hl:v.length<=1000000)(hf:∀x∈v,x.few):AK C0 131 [.clo (.func 72) [] [],Aj b v] (i64 (EJ (λi=>Cn (CV v i)) v.length:Nat)):=by
 refine Af.walk w1 fE rfl λF=>?_
 have el:(((v.map AE.D).length:Nat):Int)=(v.length:Int):=by rw[Ai]
 refine AI AZ el AB AB AB AB AB AB ?_;refine AC.loop (α:=Nat×Nat) (λp=>⟨[(0,.clo (.func 72) [] []),(8,Aj b v),(9,i64 (v.length:Int)),(10,i64 (p.1:Int))],[],p.2⟩) (λp=>v.length-p.1)
  (λp=>p.1<=v.length/\∀j,j<p.1->Cn (CV v j)=0) (0,_) ⟨BX _,λj h=>Ak h (Hg j)⟩ AL ?_
 rintro⟨i,m⟩ F ⟨hi,hz⟩;dsimp only at hi hz⊢;rcases BG i v.length with h2|h2
 ·have e1:=Cd h2
  have wi:=Cj (i:=i) (by omega);obtain⟨x,hx⟩:=CQ h2;have hm:(v.map AE.D)[i]?=some (.agg [str (sb x.grain),i64 x.mass,.sl false 2 (x.shs.map Au.D)]):=by rw[BC,hx];rfl
  have cL:=js x (hf x (Av hx));unfold AE.D at cL;rcases Nat.decEq (Cn x) 0 with hc0|hc0
  ·have e3:=G9 hc0
   have hE:=PX (f:=λi=>Cn (CV v i)) hz h2 (by rw[GK hx];exact hc0);rw[GK hx]at hE;rw[hE];refine AI AZ (Ar e1 e3 kN) hm cL AB AB AB AB ?_;exact AM rfl AA.out
  ·have e3:=HA hc0
   refine AI AZ (Bd e1 e3 wi kN) hm cL AB AB AB AB ?_;exact⟨(i+1,_),⟨h2,λj hj=>by
    rcases Kq.1 hj with q|q
    ·exact hz j q
    ·rw[q,GK hx];exact hc0⟩,by dsimp only;omega,AL⟩
 ·have e1:=Cf h2
  have:i=v.length:=by omega
  subst this;rw[MN (f:=λi=>Cn (CV v i)) hz];refine AI AZ e1 AB AB AB AB AB AB ?_;exact AM rfl AA.out
theorem sS (b:Bool)(l:List AE)(hl:l.length<=1000000)(hf:∀x∈l,x.few):AK C0 90 [Aj b l] (.tup [i64 (S7 l),i64 (IA l:Nat)]):=by
 refine Af.walk w1 jQ rfl λF=>?_
 have el:(((l.map AE.D).length:Nat):Int)=(l.length:Int):=by rw[Ai]
 have hC:IA l=if l.length=0 then 2 else if 64<l.length then 5 else if EJ (λi=>Cn (CV l i)) l.length≠0 then EJ (λi=>Cn (CV l i)) l.length else if CX l=false then 16 else if Ab l>999999999 then 4 else 0:=rfl
 have hM:S7 l=if IA l=0 then Ab l else 0:=rfl
 have cA:=nQ b l hl hf
 by_cases h0:l.length=0
 ·rw[AH h0]at hC
  rw[hC]at hM;rw[hM,hC];have q1:((l.length:Int)==0)=true:=by rw[h0];rfl
  refine AI LK (Ad el q1) AB AB AB AB AB AB ?_;exact AM rfl AA.out
 rw[AG h0]at hC;have q1:((l.length:Int)==0)=false:=by
  rw[B5];omega
 by_cases h64:64<l.length
 ·rw[AH h64]at hC
  rw[hC]at hM;rw[hM,hC];have q2:decide ((l.length:Int)>64)=true:=Ba;refine AI LK (Ar el q1 q2) AB AB AB AB AB AB ?_;exact AM rfl AA.out
 rw[AG h64]at hC;have q2:decide ((l.length:Int)>64)=false:=Bg;obtain⟨K,hK⟩:∃K,EJ (λi=>Cn (CV l i)) l.length=K:=⟨_,rfl⟩
 rw[hK]at hC cA;rcases Nat.decEq K 0 with hc0|hc0
 ·have e3:=G9 hc0
  rw[AH hc0]at hC;rw[hC]at hM;rw[AG hc0]at hM;rw[hM,hC];refine AI LK (Bd el q1 q2 e3) cA AB AB AB AB AB ?_;exact AM rfl AA.out
 have e3:=HA hc0;rw[AG (λh=>h hc0)]at hC;have hz:∀j,j<l.length->Cn (CV l j)=0:=PE (hK.trans hc0);have hsm:=UH h64 hz;obtain⟨x0,hx0⟩:∃x,l[0]?=some x:=⟨_,Ct⟩
 have hm0:(l.map AE.D)[0]?=some (.agg [str (sb x0.grain),i64 x0.mass,.sl false 2 (x0.shs.map Au.D)]):=by rw[BC,hx0];rfl
 have hv0:=GK hx0;refine AI LK (Bd el q1 q2 e3) cA AB AB AB AB AB ?_;refine AC.loop (α:=Nat×Nat) (λp=>⟨[(0,Aj b l),(5,i64 (Ab (l.take p.1))),(19,Aj b l),(20,i64 (l.length:Int)),(21,i64 (p.1:Int))],[],p.2⟩) (λp=>l.length-p.1)
  (λp=>p.1<=l.length/\∀x∈l.take p.1,BE (sb x.grain) (sb x0.grain)=true) (0,_) ⟨BX _,λx h=>by simp at h⟩ AL ?_
 rintro⟨i,m⟩ F ⟨hi,hs⟩;dsimp only at hi hs⊢;rcases BG i l.length with h2|h2
 rotate_left
 ·have e1:=Cf h2
  have:i=l.length:=by omega
  subst this;rw[DJ]at hs⊢;have hg:CX l=true:=by
   unfold CX;rw[CW,hv0];exact hs
  rw[AG (by rw[hg];decide)]at hC
  by_cases h9:Ab l>999999999
  ·have e9:decide (Ab l>999999999)=true:=Ax h9
   rw[AH h9]at hC;rw[hC]at hM;rw[hM,hC];refine AI LK (Ad e1 e9) AB AB AB AB AB AB ?_;exact AM rfl AA.out
  ·have e9:decide (Ab l>999999999)=false:=Ay h9
   rw[AG h9]at hC;rw[hC]at hM;rw[hM,hC];refine AI LK (Ad e1 e9) AB AB AB AB AB AB ?_;exact AM rfl AA.out
 have e1:=Cd h2;have wi:=Cj (i:=i) (by omega);obtain⟨x,hx⟩:=CQ h2;have hm:(l.map AE.D)[i]?=some (.agg [str (sb x.grain),i64 x.mass,.sl false 2 (x.shs.map Au.D)]):=by rw[BC,hx];rfl
 have hsum:=Ue hx;have hs1:=Vg (l:=l.take i) λy hy=>hsm.2 y (E8 hy)
 have hs2:=hsm.2 x (Av hx);rw[Bc]at hs1;have ws:IntKind.i64.wrap (Ab (l.take i)+x.mass)=Ab (l.take i)+x.mass:=wI;obtain⟨bG,hbG⟩:∃q,BE (sb x.grain) (sb x0.grain)=q:=⟨_,rfl⟩
 cases bG
 ·have hg:CX l=false:=by
   unfold CX;rw[List.all_eq_false];exact⟨x,Av hx,by rw[hv0,hbG];decide⟩
  rw[AH hg]at hC;rw[hC]at hM;rw[hM,hC];refine AI LK (Ar e1 hbG kN) hm hm0 AB AB AB AB ?_;exact AM rfl AA.out
 ·refine AI LK (CT e1 hbG wi ws kN) hm hm0 AB AB AB AB ?_
  exact⟨(i+1,_),⟨h2,λy hy=>by
   rw[D8,hx]at hy;rcases Bl.1 hy with q|q
   ·exact hs y q
   ·have:y=x:=by simpa using q
    rw[this];exact hbG⟩,by dsimp only;omega,by(dsimp only;rw[hsum];exact AL)⟩
abbrev FP:Dr:=[(11,[0,1,2,3,4,5,6,7],[8]),(24,[0,1,2,3,4,5,6,7,8,9,10],[11])]
open Go.Proofs Go.RowKit Go.Sort
set_option maxRecDepth 20000
set_option maxHeartbeats 4000000
def HX (l:List AE):Nat:=if IA l≠0 then IA l else if 64<(CR l).length then 5 else if(GD (CR l)).any (λp=>DH (p.2/(Ab l:Rat)))then 4 else 0
def FS (l:List AE):List Au:=(GD (CR l)).map λp=>⟨p.1,A0 (p.2/(Ab l:Rat))⟩
def Lq (l:List AE):AE:=if HX l≠0 then⟨[],0,[]⟩else⟨(CV l 0).grain,Ab l,FS l⟩
def AE.lite (x:AE):Prop:=x.few/\∀s∈x.shs,s.lot.length<=1000/\s.part.length<=40
theorem UC {l:List Au}(h:G1 l=0):0<l.length/\l.length<=64/\∀s∈l,EB s.lot=true/\Ck s.part=0/\0<HC (Bv s.part):=by
 unfold G1 at h;split at h
 ·cases h
 ·split at h
  ·cases h
  ·split at h
   ·rename_i h3;exact Ak h h3
   ·rename_i h1 h2 h3
    refine⟨by omega,by omega,λs hs=>?_⟩;obtain⟨j,hj⟩:=Lz.1 hs;have hE:=PE (f:=Fy l) (n:=l.length) (by omega) j (BT.1 hj).1;unfold Fy at hE;rw[KT hj]at hE;split at hE
    ·cases hE
    ·split at hE
     ·cases hE
     ·split at hE
      ·rename_i h6;exact Ak hE h6
      ·split at hE
       ·cases hE
       ·rename_i h4 h5 h6 h7
        exact⟨by simpa using h4,by omega,by omega⟩
theorem gQ {x:AE}(hl:x.lite)(h:Cn x=0):x.ok/\∀s∈x.shs,EB s.lot=true:=by
 obtain⟨h1,h2,h3,h4⟩:=PF h;obtain⟨g1,g2,g3⟩:=UC h4;exact⟨⟨g2,by unfold Sm;omega,λs hs=>⟨BU (hl.2 s hs).1 (by omega),(hl.2 s hs).2,(g3 s hs).2.1⟩⟩,λs hs=>(g3 s hs).1⟩
theorem bh {l:List AE}(h:IA l=0):0<l.length/\l.length<=64/\(∀x∈l,Cn x=0)/\CX l=true/\Ab l<=999999999:=by
 unfold IA at h;split at h
 ·cases h
 ·split at h
  ·cases h
  ·split at h
   ·rename_i h3;exact Ak h h3
   ·split at h
    ·cases h
    ·split at h
     ·cases h
     ·rename_i h1 h2 h3 h4 h5
      refine⟨by omega,by omega,λx hx=>?_,by simpa using h4,by omega⟩;obtain⟨j,hj⟩:=Lz.1 hx
      have:=PE (f:=λi=>Cn (CV l i)) (n:=l.length) (by omega) j (BT.1 hj).1
      rwa [GK hj]at this
theorem aa:∀ {l:List AE},(∀x∈l,Cn x=0)->(l.length:Int)<=Ab l
 | [],_=>by simp[Ab]
 |x::l,h=>by
  have h1:=(PF (h x B3)).2.1;have h2:=aa (l:=l) λy hy=>h y (CA _ hy)
  unfold Ab at h2⊢;simp only[Ci,List.sum_cons,Br];omega
theorem PY (H:Hp)(e:Int):Fz H [] (.tup [.agg [str ⟨#[]⟩,i64 0,Cb],i64 e]) (.tup [(⟨[],0,[]⟩:AE).D,i64 e]):=
 Hn (.agg rfl λi d d' h h'=>by
  match i with
  | 0=>cases h;cases h';exact .refl _
  | 1=>cases h;cases h';exact .refl _
  | 2=>cases h;cases h';exact .nil 2
  |n+3=>cases h) (.refl _)
theorem eZ {H:Hp}{gr m sD e:D}{L:List D}(h:Fz H [] sD (.sl false 2 L)):Fz H [] (.tup [.agg [gr,m,sD],e]) (.tup [.agg [gr,m,.sl false 2 L],e]):=
 Hn (.agg rfl λi d d' h1 h2=>by
  match i with
  | 0=>cases h1;cases h2;exact .refl _
  | 1=>cases h1;cases h2;exact .refl _
  | 2=>cases h1;cases h2;exact h
  |n+3=>cases h1) (.refl _)
theorem r5 {H:Hp}{k g T sz:Nat}{z:D}{l:List D}(he:Hp.get H k=some ⟨k,g,T,sz,z::l⟩):Fz H [] (.osl k g sz 0 (l.length+1)) (.sl false sz (z::l)):=by
 refine .osl (e:=⟨k,g,T,sz,z::l⟩) he rfl rfl rfl (by simp) (by simp) (λj d d' h1 h2=>?_) λj d d' q c c' h1 h2 h3 h4=>?_
 ·rw[BW]at h1;rw[h1]at h2;cases h2;rfl
 ·rw[BW]at h1;rw[h1]at h2;cases h2;rw[h3]at h4;cases h4;exact Fz.refl _
theorem q9 (l:DX)(H:Hp)(n:Nat):Cu C0 92 [mapD l] H n (λd H' n'=>∃g,d=.clo (.func 134) [] [.optr 77000 g 1 0 0]/\H'=⟨77000,g,87,1,[mapD l]⟩::H/\n'=n+4):=by
 refine Cu.walk w1 jS rfl λF0=>?_
 obtain⟨M,hM⟩:∃M,mapD l=M:=⟨_,rfl⟩
 have hc:∃ks vs,M=.mp ks vs:=⟨_,_,hM.symm⟩
 obtain⟨ks,vs,hc⟩:=hc;subst hc;rw[hM];refine AC.seq ?_;refine Aq 77000 ?_;refine AF kB ?_;refine BO ?_;refine AI AZ kB AB AB AB AB AB AB ?_;exact⟨_,rfl,rfl,trivial⟩
theorem xj {r:Rat}{x:GF}{k:Nat}(h:FR r x k)(hk:k<100000):AK C0 93 [x.D] (.tup [str (sb (Wf r)),i64 (We r:Nat)]):=by
 refine Af.walk w1 jT rfl λF=>?_
 have c1:=bI h hk;have c2:=gF h hk;unfold Wf We;obtain⟨b,hb⟩:∃b,DH r=b:=⟨_,rfl⟩
 rw[hb]at c1⊢;cases b
 all_goals
  refine AI AZ kB c1 c2 AB AB AB AB ?_;exact AM rfl AA.out
theorem e0L (b:Bool)(l:List AE)(hl:l.length<=1000000)(hf:∀x∈l,x.lite):AK C0 52 [Aj b l] (.tup [(Lq l).D,i64 (HX l:Nat)]):=by
 refine Af.walk w1 iY rfl λF0=>?_
 have el:(((l.map AE.D).length:Nat):Int)=(l.length:Int):=by rw[Ai]
 have cM:=sS b l hl λx hx=>(hf x hx).1
 have hN:HX l=if IA l≠0 then IA l else if 64<(CR l).length then 5 else if(GD (CR l)).any (λp=>DH (p.2/(Ab l:Rat)))then 4 else 0:=rfl
 have hL:Lq l=if HX l≠0 then⟨[],0,[]⟩else⟨(CV l 0).grain,Ab l,FS l⟩:=rfl
 rcases Nat.decEq (IA l) 0 with g|g
 ·have e1:=G9 g
  rw[AH g]at hN;rw[hN,AH g]at hL;rw[hL,hN];refine AI FP e1 cM AB AB AB AB AB ?_;exact⟨_,PY _ _,AA.out,rfl⟩
 have e1:=HA g;rw[AG (λh=>h g)]at hN;have hmm:S7 l=Ab l:=by unfold S7;rw[AH g]
 obtain⟨g1,g2,g3,g4,g5⟩:=bh g;have hx:∀x∈l,x.ok:=λx h=>(gQ (hf x h) (g3 x h)).1
 have g6:=aa g3;rw[hmm]at cM;refine sZ 0 ?_;refine AF kB ?_;refine sZ 100 ?_;refine AF kB ?_;refine cI cM ?_;refine AF kB ?_;refine AC.seq ?_;refine sZ 200 ?_;refine AF e1 ?_;refine AO ?_;refine Am ?_;refine AC.seq ?_;refine Ij (by kernel_rfl) ?_;change Bn _ _ _ _ _ [0,1] _ _;refine Bn.makeMap 400 rfl rfl rfl (XP F0) (λF1 it hto hO hr0 hnX hM=>?_);change Bn _ _ _ _ _ ([1]++[]) _ _;refine GE w1 400 [1] [] ?_;refine AF kB ?_;refine Bn.nil ?_;refine AI FP el AB AB AB AB AB AB ?_;refine Gh (α:=Nat×DX×Obj×Nat) (λp=>⟨[(0,Aj b l),(2,.optr 0 0 3 0 0),(4,i64 (Ab l)),(6,.prim (.map (some it))),(29,Aj b l),(30,i64 (l.length:Int)),(31,i64 (p.1:Int))],[⟨0,0,51,3,[.agg [.prim (.string ⟨#[]⟩),.prim (.int .i64 0),.prim (.slice none 0 0)]]⟩],p.2.2.2⟩) (λp=>l.length-p.1)
  (λp F=>p.1<=l.length/\DS C0 F0 F [⟨400,11,p.2.2.1⟩]/\F.r0 400 11=some it/\IZ F p.2.2.1 p.2.1/\MQ (320*p.1) (CR (l.take p.1)) p.2.1) (0,[],.map #[] 0,_) ⟨BX _,hO,hr0,hM,trivial⟩ AL ?_
 clear hO hr0 hM hto;rintro⟨i,m,o,n1⟩ F ⟨hi,hO,hr0,hM,hQ⟩;dsimp only at hi hO hr0 hM hQ⊢;rcases BG i l.length with h2|h2
 rotate_left
 ·have e1:=Cf h2
  have:i=l.length:=by omega
  subst this;rw[DJ]at hQ;refine sZ 600 ?_;refine AF e1 ?_;refine AC.seq ?_;refine AO ?_;refine CL ?_;refine kJ [(0,Aj b l),(2,.optr 0 0 3 0 0),(4,i64 (Ab l)),(6,mapD m)] hO hr0 hnX hM ⟨.inl rfl,.inl rfl,.inl rfl,.inr ⟨rfl,rfl⟩,trivial⟩ (λF2 hto2 hO2=>?_);have hKO:Hy (λk=>k.length<=1000) (64*l.length) (CR l):=UA λx h=>⟨(hx x h).1,λs hs=>((hf x h).2 s hs).1⟩
  have hQ2:MQ 32000 (CR l) m:=hQ.mono (by omega);clear hQ hO hM hto2 hO2;obtain⟨q,hq⟩:∃q,CR l=q:=⟨_,rfl⟩
  have hSS:FS l=(GD q).map λp=>⟨p.1,A0 (p.2/(Ab l:Rat))⟩:=by rw[<-hq];rfl
  rw[hq]at hKO hQ2 hN;have hml:=hQ2.len;obtain⟨ks,hks⟩:∃ks:List D,m.map (λp=>(.prim (.string p.1):D))=ks:=⟨_,rfl⟩
  obtain⟨vs,hvs⟩:∃vs:List D,m.map (·.2)=vs:=⟨_,rfl⟩
  have hkl:ks.length=q.length:=by rw[<-hks,Ai,hml]
  unfold mapD;rw[hks,hvs];refine AC.seq ?_;refine AC.seq ?_;refine Ij (by kernel_rfl) ?_;change Bn _ _ _ _ _ ([0]++(1::([2]++[]))) _ _;refine GE w1 1800 [0] _ ?_;refine AF kB ?_;refine e1K (PB (w1.xt 87 _ rfl)).1 rfl rfl rfl rfl ?_;refine GE w1 1800 [2] _ ?_;refine AF kB ?_;refine Bn.nil ?_;rw[hkl]
  by_cases h64:64<q.length
  ·rw[AH h64]at hN
   rw[hN,DU]at hL;rw[hL,hN];have q2:decide ((q.length:Int)>64)=true:=Ba;refine AI FP q2 AB AB AB AB AB AB ?_;exact⟨_,PY _ _,AA.out,rfl⟩
  have q2:decide ((q.length:Int)>64)=false:=Bg;rw[AG h64]at hN;rw[q2];have hmd:mapD m=.mp ks vs:=by unfold mapD;rw[hks,hvs]
  have cK:=q9 m;have cS:=GU m (Cv q) hQ2.keys (by omega) hKO.all hKO.nd;rw[hmd]at cK cS;obtain⟨x0,hx0⟩:∃x,l[0]?=some x:=⟨_,Ct⟩
  have hm0:(l.map AE.D)[0]?=some (.agg [str (sb x0.grain),i64 x0.mass,.sl false 2 (x0.shs.map Au.D)]):=by rw[BC,hx0];rfl
  refine AI FP kB hm0 AB AB AB AB AB ?_;refine BF.own _ (cK _ _) ?_;rintro d H' n' ⟨gk,rfl,rfl,rfl⟩;refine AI FP kB AB AB AB AB AB AB ?_;refine BF.own _ (cS _ _ _ _ _) ?_;rintro d H' n' ⟨rfl,rfl,rfl⟩;refine AI FP kB AB AB AB AB AB AB ?_;have hkey:=mi q;have hsl:(GD q).length=q.length:=(LB q).length_eq;have hsm:∀p∈GD q,p∈q:=λp h=>(LB q).mem_iff.1 h
  rw[hkey];obtain⟨Q,hQ⟩:∃Q,GD q=Q:=⟨_,rfl⟩
  rw[hQ]at hN hSS hsl hsm⊢;have hMs:Sm (Ab l):=by unfold Sm;omega
  have hM0:((Ab l:Int):Rat)≠0:=λh=>by
   have:=Rat.intCast_inj.1 (h.trans (Rat.intCast_zero).symm)
   omega
  have fM:FR ((Ab l:Int):Rat) ⟨AX (Ab l),1⟩ 1:=Rq (by unfold Sm at hMs;omega);have cF:=QG (Ab l) hMs;obtain⟨kl,hkl2⟩:∃kl:List D,(List.map (λx=>str (sb x)) (Q.map (·.1)))=kl:=⟨_,rfl⟩
  have hkll:kl.length=Q.length:=by rw[<-hkl2];simp
  rw[hkl2];obtain⟨M,hMM⟩:∃M,Ab l=M:=⟨_,rfl⟩
  have hgr:(CV l 0).grain=x0.grain:=by rw[GK hx0]
  clear hmd cK cS hm0;rw[hMM]at hN hL hSS hMs hM0 fM cF;rw[hMM,hkll];obtain⟨g14,hg14⟩:∃g,n1+1+1+1+1+1+1+1+1+1+1=g:=⟨_,rfl⟩
  rw[hg14];refine AC.loop (α:=Nat×Nat×Nat) (λp=>⟨[(2,.optr 0 0 3 0 0),(4,i64 M),(6,.mp ks vs),(14,.optr 2006 g14 3 0 0),(78,.sl false 1 kl),(79,i64 (Q.length:Nat)),(80,i64 (p.1:Int))],
    EI 2706 p.2.1 66 2 ((Q.take p.1).map λz=>(⟨z.1,A0 (z.2/(M:Rat))⟩:Au).D)++[⟨2006,g14,51,3,[.agg [str (sb x0.grain),i64 M,EO 2706 p.2.1 2 ((Q.take p.1).map λz=>(⟨z.1,A0 (z.2/(M:Rat))⟩:Au).D)]]⟩,⟨0,0,51,3,[.agg [.prim (.string ⟨#[]⟩),.prim (.int .i64 0),.prim (.slice none 0 0)]]⟩],p.2.2⟩) (λp=>Q.length-p.1)
   (λp=>p.1<=Q.length/\∀z∈Q.take p.1,DH (z.2/(M:Rat))=false) (0,0,_) ⟨BX _,λz h=>by simp at h⟩ AL ?_
  clear n1 hg14;rintro⟨i,g,n1⟩ F ⟨hi,hB⟩;dsimp only at hi hB⊢;have hTl:((Q.take i).map λz=>(⟨z.1,A0 (z.2/(M:Rat))⟩:Au).D).length=i:=by rw[Ai,Bc];omega
  obtain⟨TL,hTL⟩:∃TL,((Q.take i).map λz=>(⟨z.1,A0 (z.2/(M:Rat))⟩:Au).D)=TL:=⟨_,rfl⟩
  rcases BG i Q.length with h2|h2
  rotate_left
  ·have e1:=Cf h2
   have:i=Q.length:=by omega
   subst this;rw[DJ]at hB hTL⊢;have hany:Q.any (λp=>DH (p.2/(M:Rat)))=false:=by
    rw[List.any_eq_false];intro p hp;rw[hB p hp];decide
   rw[AG (by rw[hany];decide)]at hN;rw[CI]at hL;rw[hL,hN,hgr];have hres:((⟨x0.grain,M,FS l⟩:AE).D)=.agg [str (sb x0.grain),i64 M,.sl false 2 TL]:=by
    unfold AE.D C9;rw[<-hTL,hSS,List.map_map];rfl
   have pR:CJ (.tup [(⟨x0.grain,M,FS l⟩:AE).D,i64 ((0:Nat):Int)]):=AA.out;rw[hres]at pR;rw[hres,hTL];rcases TL with _|⟨z,TL⟩
   ·dsimp only[IR,IS,List.nil_append]
    refine AI FP e1 AB AB AB AB AB AB ?_;exact⟨_,eZ (.nil 2),pR,rfl⟩
   ·dsimp only[Gv,Gw,List.cons_append,List.nil_append]
    refine AI FP e1 AB AB AB AB AB AB ?_;exact⟨_,eZ (r5 rfl),pR,rfl⟩
  have e1:=Cd h2;have wi:=Cj (i:=i) (by omega);obtain⟨p,hp⟩:=CQ h2;have hmk:kl[i]?=some (str (sb p.1)):=by rw[<-hkl2,BC,BC,hp];rfl
  have hlq:=UW hKO.nd (hsm p (Av hp));rcases hQ2.look p.1 with⟨q1,q3⟩|⟨r,y,q1,q3,q4⟩
  ·rw[hlq]at q3;cases q3
  rw[hlq]at q3;cases q3;have hLk:Ic (sb p.1) ks vs=some (some y.D):=by rw[<-hks,<-hvs,Yb,q1]
  have cDv:=uR q4 fM hM0 (by omega);have fD:=sK q4 fM hM0;obtain⟨z,hz⟩:∃z,S1 y ⟨AX M,1⟩=z:=⟨_,rfl⟩
  rw[hz]at cDv fD;have cG:=xj fD (by omega);obtain⟨dM,hdM⟩:∃d,(⟨AX M,1⟩:GF).D=d:=⟨_,rfl⟩
  have pdM:AA dM:=by rw[<-hdM];exact AJ
  obtain⟨dy,hdy⟩:∃d,y.D=d:=⟨_,rfl⟩
  have pdy:AA dy:=by rw[<-hdy];exact AJ
  obtain⟨dz,hdz⟩:∃d,z.D=d:=⟨_,rfl⟩
  have pdz:AA dz:=by rw[<-hdz];exact AJ
  rw[hdy]at hLk cDv;rw[hdM]at cF cDv;rw[hdz]at cDv cG;unfold Wf We at cG;obtain⟨bg,hbg⟩:∃q,DH (p.2/(M:Rat))=q:=⟨_,rfl⟩
  rw[hbg]at cG;have hsn:((Q.take (i+1)).map λz=>(⟨z.1,A0 (z.2/(M:Rat))⟩:Au).D)=TL++[.agg [str (sb p.1),str (sb (A0 (p.2/(M:Rat))))]]:=by
   rw[D8,hp,DN,hTL];rfl
  rw[hTL]at hTl⊢;have n4:((((4:Nat):Int)) != 0)=true:=rfl;have n0:((((0:Nat):Int)) != 0)=false:=rfl;cases bg
  rotate_left
  ·rw[AH rfl,AH rfl]at cG
   have hany:Q.any (λp=>DH (p.2/(M:Rat)))=true:=by
    rw[List.any_eq_true];exact⟨p,Av hp,hbg⟩
   rw[AH hany]at hN;rw[DU]at hL;rw[hL,hN];rcases TL with _|⟨z9,TL⟩
   ·dsimp only[IR,IS,List.nil_append]
    refine AI FP (Ad e1 kN) hmk AB AB AB AB AB ?_;refine Q3 (d':=dy) rfl rfl rfl rfl rfl rfl hLk rfl ?_;refine BO ?_;refine AI FP n4 cF cDv cG AB AB AB ?_;exact⟨_,PY _ _,AA.out,rfl⟩
   ·dsimp only[Gv,Gw,List.cons_append,List.nil_append]
    refine AI FP (Ad e1 kN) hmk AB AB AB AB AB ?_;refine Q3 (d':=dy) rfl rfl rfl rfl rfl rfl hLk rfl ?_;refine BO ?_;refine AI FP n4 cF cDv cG AB AB AB ?_;exact⟨_,PY _ _,AA.out,rfl⟩
  rw[AG (by decide),AG (by decide)]at cG;have hB2:∀w∈Q.take (i+1),DH (w.2/(M:Rat))=false:=λw hw=>by
   rw[D8,hp]at hw;rcases Bl.1 hw with h|h
   ·exact hB w h
   ·have:w=p:=by simpa using h
    rw[this];exact hbg
  rcases TL with _|⟨z9,TL⟩
  ·dsimp only[IR,IS,List.nil_append]
   refine AI FP (Ad e1 kN) hmk AB AB AB AB AB ?_;refine Q3 (d':=dy) rfl rfl rfl rfl rfl rfl hLk rfl ?_;refine BO ?_;refine AI FP (Ad n0 wi) cF cDv cG AB AB AB ?_;exact⟨(i+1,_,_),⟨h2,hB2⟩,by dsimp only;omega,by(dsimp only;rw[hsn];exact AL)⟩
  ·dsimp only[Gv,Gw,List.cons_append,List.nil_append]
   have htk:List.take (TL.length+1) (z9::TL)=z9::TL:=by simp
   rw[Br]at hTl;have hb64:TL.length+1<64:=by omega
   refine AI FP (Ad e1 kN) hmk AB AB AB AB AB ?_;refine Q3 (d':=dy) rfl rfl rfl rfl rfl rfl hLk rfl ?_;refine BO ?_;refine AI FP (Ar n0 wi htk) cF cDv cG AB AB AB ?_;exact⟨(i+1,_,_),⟨h2,hB2⟩,by dsimp only;omega,by(dsimp only;rw[hsn,Ou];exact AL)⟩
 have e1:=Cd h2;have wi:=Cj (i:=i) (by omega);obtain⟨x,hxi⟩:=CQ h2;obtain⟨x1,x2,x3⟩:=hx x (Av hxi);have hm:(l.map AE.D)[i]?=some (.agg [str (sb x.grain),i64 x.mass,.sl false 2 (x.shs.map Au.D)]):=by rw[BC,hxi];rfl
 have es:(((x.shs.map Au.D).length:Nat):Int)=(x.shs.length:Int):=by rw[Ai]
 refine AI FP (Ar e1 es kN) hm AB AB AB AB AB ?_;obtain⟨ga,hga⟩:∃g,n1+1+1+1=g:=⟨_,rfl⟩
 refine Gh (α:=Nat×DX×Obj×Nat) (λp=>⟨[(0,Aj b l),(2,.optr 0 0 3 0 0),(4,i64 (Ab l)),(6,.prim (.map (some it))),(8,.optr 702 (n1+1+1+1) 3 0 0),(29,Aj b l),(30,i64 (l.length:Int)),(31,i64 (i:Int)),(36,.sl false 2 (x.shs.map Au.D)),(37,i64 (x.shs.length:Int)),(38,i64 (p.1:Int))],[⟨702,n1+1+1+1,51,3,[.agg [str (sb x.grain),i64 x.mass,.sl false 2 (x.shs.map Au.D)]]⟩,⟨0,0,51,3,[.agg [.prim (.string ⟨#[]⟩),.prim (.int .i64 0),.prim (.slice none 0 0)]]⟩],p.2.2.2⟩) (λp=>x.shs.length-p.1)
  (λp F=>p.1<=x.shs.length/\DS C0 F0 F [⟨400,11,p.2.2.1⟩]/\F.r0 400 11=some it/\IZ F p.2.2.1 p.2.1/\MQ (320*i+5*p.1) (G6 x p.1 (CR (l.take i))) p.2.1) (0,m,o,_) ⟨BX _,hO,hr0,hM,hQ⟩ AL ?_
 clear hO hr0 hM hQ;rintro⟨j,m2,o2,n2⟩ F ⟨hj,hO,hr0,hM,hQ⟩;dsimp only at hj hO hr0 hM hQ⊢;rw[hga];rcases BG j x.shs.length with h3|h3
 rotate_left
 ·have e2:=Cf h3
  have:j=x.shs.length:=by omega
  subst this;rw[<-Qx l i hxi]at hQ;refine AI FP (Ad e2 wi) AB AB AB AB AB AB ?_;exact⟨(i+1,m2,o2,_),⟨h2,hO,hr0,hM,hQ.mono (by dsimp only;omega)⟩,by dsimp only;omega,AL⟩
 have e2:=Cd h3;have wj:=Cj (i:=j) (by omega);obtain⟨s,hsj⟩:=CQ h3;obtain⟨s1,s2,s3⟩:=x3 s (Av hsj);have hms:(x.shs.map Au.D)[j]?=some (.agg [str (sb s.lot),str (sb s.part)]):=by rw[BC,hsj];rfl
 have hsn:=Oz x j (CR (l.take i)) hsj;have fP:FR (Bv s.part) (G5 s.part) 3:=⟨(SA s3).is,kV s3 s2⟩
 have fM:FR ((x.mass:Int):Rat) ⟨AX x.mass,1⟩ 1:=Rq (by unfold Sm at x2;omega);have c1:=SS (by omega) s3;have c2:=QG x.mass x2;have c3:=Vu fP fM (by decide);have fZ:FR (Bv s.part*(x.mass:Rat)) (JJ (G5 s.part) ⟨AX x.mass,1⟩) 4:=VW fP fM;obtain⟨z,hz⟩:∃z,JJ (G5 s.part) ⟨AX x.mass,1⟩=z:=⟨_,rfl⟩
 rw[hz]at c3 fZ;obtain⟨d1,hd1⟩:∃d,(G5 s.part).D=d:=⟨_,rfl⟩
 obtain⟨d2,hd2⟩:∃d,(⟨AX x.mass,1⟩:GF).D=d:=⟨_,rfl⟩
 have pd1:AA d1:=by rw[<-hd1];exact AJ
 have pd2:AA d2:=by rw[<-hd2];exact AJ
 rw[hd1]at c1 c3;rw[hd2]at c2 c3;refine sZ 900 ?_;refine AF e2 ?_;refine AC.seq ?_;refine AO ?_;refine Am ?_;refine AC.seq ?_;refine AC.block ?_;refine sZ 1000 ?_;refine B4 kT hms ?_;refine AF kB ?_;refine AC.seq ?_;refine CO 1100 [0,1,2,3,4,5,6,7] [8] ?_;refine AF kB ?_;refine Bf.same _ (c1) AJ ?_;refine BS ?_;refine AF kB ?_;refine Bf.same _ (c2) AJ ?_;refine BS ?_;refine AF kB ?_;refine Bf.same _ (c3) AJ ?_;refine BS ?_;refine AF kB ?_;refine AC.seq ?_;refine AC.seq ?_;refine Ij (by kernel_rfl) ?_;change Bn _ _ _ _ _ ([0,1,2]++(3::([4,5,6,7,8,9]++[]))) _ _;refine GE w1 1200 [0,1,2] _ ?_;refine AF kB ?_;refine Bn.look (xo:=⟨400,11,o2⟩) (l:=m2) w1 rfl rfl rfl rfl rfl rfl hO B3 hr0 hM ?_;rcases hQ.look s.lot with⟨q1,q2⟩|⟨r,y,q1,q2,q3⟩
 ·rw[YY q1]
  refine GE w1 1200 [4,5,6,7,8,9] [] ?_;refine AF kB ?_;refine Bn.nil ?_;refine BO ?_;refine sZ 1300 ?_;refine AF kB ?_;refine AO ?_;refine Am ?_;refine Ij (by kernel_rfl) ?_;change Bn _ _ _ _ _ ([0,1,2,3]++(4::[])) _ _;refine GE w1 1500 [0,1,2,3] _ ?_;refine AF kB ?_;refine Bn.put (l:=m2) w1 rfl rfl rfl rfl rfl rfl hO hr0 hM (λF3 o3 hto3 hO3 hr3 hM3=>Bn.nil ?_);refine BO ?_;have hQ2:MQ (320*i+5*(j+1)) (G6 x (j+1) (CR (l.take i))) (GB (sb s.lot) z.D m2):=by
   rw[hsn];unfold Kj;rw[q2];exact MQ.set s.lot ⟨fZ.is,fZ.rk.mono (by omega)⟩ (hQ.mono (by omega))
  refine AI FP wj AB AB AB AB AB AB ?_;exact⟨(j+1,GB (sb s.lot) z.D m2,o3,_),⟨h3,hO3,hr3,hM3,hQ2⟩,by dsimp only;omega,AL⟩
 ·rw[YZ q1]
  refine GE w1 1200 [4,5,6,7,8,9] [] ?_;refine AF kB ?_;refine Bn.nil ?_;have c4:=SN fZ q3 (by omega);have fA:=Rs fZ q3;obtain⟨z2,hz2⟩:∃z2,Kh z y=z2:=⟨_,rfl⟩
  rw[hz2]at c4 fA;refine BO ?_;refine sZ 1300 ?_;refine AF kB ?_;refine AO ?_;refine Aq 1400 ?_;refine AF kB ?_;refine cI c4 ?_;refine AF kB ?_;refine Ij (by kernel_rfl) ?_;change Bn _ _ _ _ _ ([0,1,2,3]++(4::[])) _ _;refine GE w1 1500 [0,1,2,3] _ ?_;refine AF kB ?_;refine Bn.put (l:=m2) w1 rfl rfl rfl rfl rfl rfl hO hr0 hM (λF3 o3 hto3 hO3 hr3 hM3=>Bn.nil ?_);refine BO ?_;have hQ2:MQ (320*i+5*(j+1)) (G6 x (j+1) (CR (l.take i))) (GB (sb s.lot) z2.D m2):=by
   rw[hsn];unfold Kj;rw[q2];exact MQ.set s.lot ⟨fA.is,fA.rk.mono (by omega)⟩ (hQ.mono (by omega))
  refine AI FP wj AB AB AB AB AB AB ?_;exact⟨(j+1,GB (sb s.lot) z2.D m2,o3,_),⟨h3,hO3,hr3,hM3,hQ2⟩,by dsimp only;omega,AL⟩
abbrev pP:Dr:=[(1,[0,1,2,3,4,5],[6,7])]
open Go.Proofs Go.RowKit Go.Sort
set_option maxRecDepth 20000
set_option maxHeartbeats 4000000
theorem e2x {C:BA}{f sz:Nat}{ds:List D}{Φ:D->Prop}(h1:Af C f (Cb::ds) Φ)(h2:Af C f (.sl true sz []::ds) Φ):Af C f (.sl false sz []::ds) Φ:=by
 refine⟨h1.1,λX w vs a b c e g=>?_⟩;have g0:=g 0 _ rfl;generalize hv:vs.getD 0 undef=v at g0;cases g0 with
 |nil=>
  refine h1.2 X w vs a b c e λi d hd=>?_
  match i with
  | 0=>cases hd;rw[hv];exact .prim _
  |i+1=>exact g (i+1) d hd
 |emp a0=>
  refine h2.2 X w vs a b c e λi d hd=>?_
  match i with
  | 0=>cases hd;rw[hv];exact .emp a0
  |i+1=>exact g (i+1) d hd
 |sl f hl hc hO hb hz hcell ho h=>
  refine h2.2 X w vs a b c e λi d hd=>?_
  match i with
  | 0=>cases hd;rw[hv];exact .sl f hl hc hO hb hz hcell ho h
  |i+1=>exact g (i+1) d hd
theorem HQ {H Hf:Hp}{k g T sz:Nat}{l:List D}(he:Hp.get H k=some ⟨k,g,T,sz,l⟩)(hf:Hp.get Hf k=none:=by rfl):Fz H Hf (.osl k g sz 0 l.length) (.sl false sz l):=by
 refine .osl (e:=⟨k,g,T,sz,l⟩) he hf rfl rfl (by simp) (by simp) (λj d d' h1 h2=>?_) λj d d' q c c' h1 h2 h3 h4=>?_
 ·rw[BW]at h1;rw[h1]at h2;cases h2;rfl
 ·rw[BW]at h1;rw[h1]at h2;cases h2;rw[h3]at h4;cases h4;exact Fz.refl _
theorem sH (s:List Au)(hl:s.length<=1000000):AK C0 102 [C9 false s] (C9 false s):=by
 unfold C9;rcases s with _|⟨z,s⟩
 ·refine e2x ?_ ?_
  ·refine Af.walk w1 SQ rfl λF=>?_
   refine AI AZ kB AB AB AB AB AB AB ?_;exact⟨_,.nil 2,AA.out,rfl⟩
  ·refine Af.walk w1 SQ rfl λF=>?_
   refine AI AZ kB AB AB AB AB AB AB ?_;exact⟨_,.osl (e:=⟨302,5,66,2,[]⟩) rfl rfl rfl rfl (An _) rfl (λj d d' h=>by simp at h) (λj d d' q c c' h=>by simp at h),AA.out,rfl⟩
 ·refine Af.walk w1 SQ rfl λF=>?_
  obtain⟨T,hT⟩:∃T,List.map Au.D (z::s)=T:=⟨_,rfl⟩
  have pT:AA (.sl false 2 T):=by rw[<-hT];exact AJ
  have hne:T≠[]:=by rw[<-hT];simp
  have hlT:T.length<=1000000:=by rw[<-hT,Ai];exact hl
  rw[hT];refine AI AZ hne AB AB AB AB AB AB ?_;exact⟨_,by rw[BW];exact HQ rfl,pT.out,rfl⟩
theorem Pk (x:AE)(m:Int)(hl:x.shs.length<=1000000):AK C0 64 [x.D,i64 m] ((⟨x.grain,m,x.shs⟩:AE).D):=by
 refine Af.walk w1 ib rfl λF=>?_
 have cC:=sH x.shs hl;unfold AE.D;dsimp only;unfold C9 at cC⊢;obtain⟨SD,hSD⟩:∃d,x.shs.map Au.D=d:=⟨_,rfl⟩
 have pS:AA (.sl false 2 SD):=by rw[<-hSD];exact AJ
 rw[hSD]at cC⊢;refine AI AZ kB cC AB AB AB AB AB ?_;exact AM rfl AA.out
theorem oo (b:Bool)(l:List AE)(hl:l.length<=1000000)(h0:l≠[])(H:Hp)(n:Nat):Cu C0 51 [Aj b l] H n
  (λd H' n'=>∃g,d=.osl 302 g 3 0 l.length/\H'=⟨302,g,51,3,l.map AE.D⟩::H/\n'=n+7):=by
 refine Cu.walk w1 iX rfl λF=>?_
 unfold Aj;obtain⟨T,hT⟩:∃T,l.map AE.D=T:=⟨_,rfl⟩
 have pT:AA (.sl b 3 T):=by rw[<-hT];exact AJ
 have hne:T≠[]:=by rw[<-hT];simpa using h0
 have hlT:T.length<=1000000:=by rw[<-hT,Ai];exact hl
 rw[hT,<-Ai (f:=AE.D),hT];cases b
 all_goals
  refine sZ 0 ?_;refine AF kB ?_;refine AC.seq ?_;refine sZ 100 ?_;refine AF kB ?_;refine AO ?_;refine Am ?_;refine sZ 300 ?_;refine AF kB ?_;refine Ag ?_;exact⟨_,by rw[BW],rfl,rfl⟩
theorem yI (b:Bool)(x y:AE)(l:List AE):AK C0 101 [x.D,  .pptr (.sl b 3 ((y::l).map AE.D))] (Ap (!BE (sb x.grain) (sb y.grain))):=by
 refine Af.walk w1 dK rfl λF=>?_
 have hm:((y::l).map AE.D)[0]?=some (.agg [str (sb y.grain),i64 y.mass,.sl false 2 (y.shs.map Au.D)]):=rfl;obtain⟨T,hT⟩:∃T,(y::l).map AE.D=T:=⟨_,rfl⟩
 have pT:AA (.sl b 3 T):=by rw[<-hT];exact AJ
 obtain⟨S,hS⟩:∃S,x.shs.map Au.D=S:=⟨_,rfl⟩
 have pS:AA (.sl false 2 S):=by rw[<-hS];exact AJ
 rw[hT]at hm⊢;unfold AE.D C9;rw[hS];refine AI pP kB hm AB AB AB AB AB ?_;exact AM rfl AA.out
theorem yL (b:Bool)(l:List AE)(c:D)[pc:AA c](p:AE->Bool)(hl:l.length<=1000000)(hc:∀x∈l,AK C0 101 [x.D,c] (Ap (p x))):AK C0 138 [Aj b l,.clo (.func 101) [] [c]] (i64 (Kl p l)):=by
 refine Af.walk w1 fJ rfl λF=>?_
 have el:(((l.map AE.D).length:Nat):Int)=(l.length:Int):=by rw[Ai]
 refine AI AZ el AB AB AB AB AB AB ?_;refine AC.loop (α:=Nat×Nat) (λp=>⟨[(0,Aj b l),(1,.clo (.func 101) [] [c]),(7,i64 l.length),(8,i64 (p.1:Int))],[],p.2⟩) (λp=>l.length-p.1) (λq=>q.1<=l.length/\∀(j:Nat) (x:AE),j<q.1->l[j]?=some x->p x=false) (0,_) ⟨BX _,λj x hj=>Ak hj (Hg j)⟩ AL ?_;rintro⟨i,n⟩ F ⟨hi,ha⟩;dsimp only at hi ha⊢;rcases BG i l.length with h2|h2
 rotate_left
 ·have e1:=Cf h2
  have:i=l.length:=by omega
  subst this;refine AI AZ e1 AB AB AB AB AB AB ?_;exact AM (by rw[UP ha]) AA.out
 have e1:=Cd h2;have wi:=Cj (i:=i) (by omega);obtain⟨x,hx⟩:=CQ h2;have hm:(l.map AE.D)[i]?=some (.agg [str (sb x.grain),i64 x.mass,.sl false 2 (x.shs.map Au.D)]):=by rw[BC,hx];rfl
 have cn:=hc x (Av hx);unfold AE.D at cn;cases hb:p x
 ·rw[hb]at cn
  refine AI AZ (Ar e1 wi kN) hm cn AB AB AB AB ?_;refine⟨(i+1,_),⟨h2,λj z hj hjz=>?_⟩,by dsimp only;omega,AL⟩;rcases BG j i with h|h
  ·exact ha j z h hjz
  ·have:j=i:=by dsimp only at hj;omega
   subst this;rw[hx]at hjz;cases hjz;exact hb
 ·rw[hb]at cn
  refine AI AZ (Ar e1 wi kN) hm cn AB AB AB AB ?_;exact AM (by rw[VA hx hb ha]) AA.out
theorem yJ (b:Bool)(l:List AE)(c:D)[pc:AA c](p:AE->Bool)(hl:l.length<=1000000)(hc:∀x∈l,AK C0 101 [x.D,c] (Ap (p x))):AK C0 100 [Aj b l,.clo (.func 101) [] [c]] (Ap (l.any p)):=by
 refine Af.walk w1 dJ rfl λF=>?_
 have c1:=yL b l c p hl hc;have e1:=VB p l;refine AI AZ e1 c1 AB AB AB AB AB ?_;exact AM rfl AA.out
theorem ZB (b:Bool)(l:List AE)(hl:l.length<=1000000):AK C0 63 [Aj b l] (i64 (if CX l then 0 else 16:Nat)):=by
 refine Af.walk w1 i8 rfl λF=>?_
 have cH:AK C0 100 [Aj b l,.clo (.func 101) [] [.pptr (Aj b l)]] (Ap (!CX l)):=by
  have:=yJ b l (.pptr (Aj b l)) (λx=>!BE (sb x.grain) (sb (CV l 0).grain)) hl λx hx=>by
   rcases l with _|⟨y,l⟩
   ·cases hx
   ·exact yI b x y l
  have he:(l.any λx=>!BE (sb x.grain) (sb (CV l 0).grain)) = !CX l:=by
   unfold CX;rw[List.not_all_eq_any_not]
  rwa [he]at this
 have cW:=Hz (!CX l) 16;refine AI AZ kB cH cW AB AB AB AB ?_;refine BF.own _ (Lv cH rfl (λi a d h1 h2=>by
  match i with
  | 0=>cases h1;cases h2;exact .refl _ _
  | 1=>cases h1;cases h2;exact .clo1 (.ptr rfl rfl rfl rfl)
  |n+2=>cases h1) AJ (.prim _)) ?_
 rintro d H' n' ⟨rfl,rfl,rfl⟩;refine AI AZ kB cW AB AB AB AB AB ?_;exact AM (by cases CX l<;>rfl) AA.out
theorem IX {l:List AE}(h:Bk l=0):l.length<=64/\(∀x∈l,Cn x=0)/\Ab l<=999999999:=by
 unfold Bk at h;split at h
 ·cases h
 ·split at h
  ·rename_i h3;exact Ak h h3
  ·split at h
   ·cases h
   ·refine⟨by omega,λx hx=>?_,by omega⟩
    obtain⟨j,hj⟩:=Lz.1 hx
    have:=PE (f:=λi=>Cn (CV l i)) (n:=l.length) (by omega) j (BT.1 hj).1
    rwa [GK hj]at this
theorem Ye {l:List AE}(hf:∀x∈l,x.lite)(hz:∀x∈l,Cn x=0)(hl:l.length<=64):(∀x∈l,x.ok)/\Hy (λk=>k.length<=1000) 4096 (CR l):=by
 have hx:∀x∈l,x.ok:=λx h=>(gQ (hf x h) (hz x h)).1
 exact⟨hx,(UA λx h=>⟨(hx x h).1,λs hs=>((hf x h).2 s hs).1⟩).mono (by omega)⟩
def OF (l:List AE):Nat:=if Bk l≠0 then Bk l else Ia (CR l)
def OG (l:List AE):BR:=if Bk l≠0 then[]else Jm (CR l)
theorem j7 (b:Bool)(l:List AE)(hl:l.length<=1000000)(hf:∀x∈l,x.lite):AK C0 9 [Aj b l] (.tup [.sl false 2 ((OG l).map Bo),i64 (OF l:Nat)]):=by
 refine Af.walk w1 jp rfl λF=>?_
 have cP:=Lj b l (by omega) λx hx=>(hf x hx).1
 have hR:OG l=if Bk l≠0 then[]else Jm (CR l):=rfl
 have hE:OF l=if Bk l≠0 then Bk l else Ia (CR l):=rfl
 rcases Nat.decEq (Bk l) 0 with g|g
 ·have e1:=G9 g
  rw[AH g]at hR hE;rw[hR,hE];refine AI AZ e1 cP AB AB AB AB AB ?_;exact⟨_,Hn (.nil 2) (.refl _),AA.out,rfl⟩
 have e1:=HA g;rw[AG (λh=>h g)]at hR hE;rw[hR,hE];obtain⟨g1,g2,g3⟩:=IX g;obtain⟨hx,hK⟩:=Ye hf g2 g1;have cL:=d9c b l (by omega) hx;refine AI AZ e1 cP AB AB AB AB AB ?_;refine BF.prop _ _ (FK.refl _) cL AJ ?_;rintro d ⟨m,rfl,hQ⟩;have cA:=aL 32000 (by omega) (CR l) m hQ (BU hK.len (by omega)) hK.nd;have pM:AA (mapD m):=⟨hQ.mapD⟩
 unfold KU at cA;obtain⟨M,hM⟩:∃M,mapD m=M:=⟨_,rfl⟩
 rw[hM]at cA pM⊢;refine AI AZ kB cA AB AB AB AB AB ?_;exact AM rfl AA.out
abbrev U6:Dr:=[(6,[0,1,2,3,4,5,6,7,8,9,10,11,12,13,14,15,16,17,18,19,20,21],[22,23])]
abbrev U5:Dr:=[(6,[0,1,2,3,4,5,6,7,8,9,10,11,12,13,14,15,16,17,18,19],[20,21,22])]
abbrev U7:Dr:=[(6,[0,1,2,3,4,5,6,7,8,9,10,11,12,13,14,15,16,17,18,19,20,21],[22,23])]
open Go.Proofs Go.RowKit
set_option maxRecDepth 20000
set_option maxHeartbeats 4000000
theorem o5 (b1 b2:Bool)(S:List Au)(hl:S.length<=1000000):AK C0 25 [C9 b1 S,C9 b2 S] (Ap true):=by
 refine Af.walk w1 iL rfl λF=>?_
 have el:(((S.map Au.D).length:Nat):Int)=(S.length:Int):=by rw[Ai]
 have hne:((S.length:Int) != (S.length:Int))=false:=bne_self_eq_false _;refine AI U6 (Ad el hne) AB AB AB AB AB AB ?_;refine AC.loop (α:=Nat×Nat) (λp=>⟨[(0,C9 b1 S),(1,C9 b2 S),(5,i64 (p.1:Int))],[],p.2⟩) (λp=>S.length-p.1) (λq=>q.1<=S.length) (0,_) (BX _) AL ?_;rintro⟨i,n⟩ F hi;dsimp only at hi⊢;rcases BG i S.length with h2|h2
 rotate_left
 ·have e1:=Cf h2
  refine AI U6 (Ad el e1) AB AB AB AB AB AB ?_;exact AM rfl AA.out
 have e1:=Cd h2;have wi:=Cj (i:=i) (by omega);obtain⟨x,hx⟩:=CQ h2;have hm:(S.map Au.D)[i]?=some (.agg [str (sb x.lot),str (sb x.part)]):=by rw[BC,hx];rfl
 have s1:=J7 (sb x.lot);have s2:=J7 (sb x.part);refine AI U6 (CY el e1 wi s1 s2 kN (Ad kT kF)) hm AB AB AB AB AB ?_;exact⟨(i+1,_),h2,by dsimp only;omega,AL⟩
theorem pn (x:AE)(hl:x.shs.length<=1000000):AK C0 46 [x.D,x.D] (Ap true):=by
 refine Af.walk w1 iV rfl λF=>?_
 have c:=o5 false false x.shs hl;have s1:=J7 (sb x.grain);unfold AE.D;unfold C9 at c⊢;obtain⟨S,hS⟩:∃S,x.shs.map Au.D=S:=⟨_,rfl⟩
 have pS:AA (.sl false 2 S):=by rw[<-hS];exact AJ
 rw[hS]at c⊢;refine AI AZ (Ar s1 kT kF) c AB AB AB AB AB ?_;exact AM rfl AA.out
theorem cU (b1 b2:Bool)(l:List AE)(hl:l.length<=1000000)(hs:∀x∈l,x.shs.length<=1000000):AK C0 13 [Aj b1 l,Aj b2 l] (Ap true):=by
 refine Af.walk w1 iJ rfl λF=>?_
 have el:(((l.map AE.D).length:Nat):Int)=(l.length:Int):=by rw[Ai]
 have hne:((l.length:Int) != (l.length:Int))=false:=bne_self_eq_false _;refine AI U5 (Ad el hne) AB AB AB AB AB AB ?_;refine AC.loop (α:=Nat×Nat) (λp=>⟨[(0,Aj b1 l),(1,Aj b2 l),(5,i64 (p.1:Int))],[],p.2⟩) (λp=>l.length-p.1) (λq=>q.1<=l.length) (0,_) (BX _) AL ?_;rintro⟨i,n⟩ F hi;dsimp only at hi⊢;rcases BG i l.length with h2|h2
 rotate_left
 ·have e1:=Cf h2
  refine AI U5 (Ad el e1) AB AB AB AB AB AB ?_;exact AM rfl AA.out
 have e1:=Cd h2;have wi:=Cj (i:=i) (by omega);obtain⟨x,hx⟩:=CQ h2;have hm:(l.map AE.D)[i]?=some (.agg [str (sb x.grain),i64 x.mass,.sl false 2 (x.shs.map Au.D)]):=by rw[BC,hx];rfl
 have c:=pn x (hs x (Av hx));have s1:(x.mass != x.mass)=false:=bne_self_eq_false _;unfold AE.D C9 at c;obtain⟨S,hS⟩:∃S,x.shs.map Au.D=S:=⟨_,rfl⟩
 have pS:AA (.sl false 2 S):=by rw[<-hS];exact AJ
 rw[hS]at c hm;refine AI U5 (CY el e1 wi s1 kN kT kF) hm c AB AB AB AB ?_;exact⟨(i+1,_),h2,by dsimp only;omega,AL⟩
def Ce (p:List UInt8×List UInt8):D:=.agg [str (sb p.1),str (sb p.2)]
instance  (p:List UInt8×List UInt8):AW (Ce p):=by unfold Ce;exact AJ
instance  (p:List UInt8×List UInt8):AA (Ce p):=by unfold Ce;exact AJ
theorem ll (b1 b2:Bool)(l:List (List UInt8×List UInt8))(hl:l.length<=1000000):AK C0 43 [.sl b1 2 (l.map Ce),.sl b2 2 (l.map Ce)] (Ap true):=by
 refine Af.walk w1 iU rfl λF=>?_
 have el:(((l.map Ce).length:Nat):Int)=(l.length:Int):=by rw[Ai]
 have hne:((l.length:Int) != (l.length:Int))=false:=bne_self_eq_false _;refine AI U7 (Ad el hne) AB AB AB AB AB AB ?_;refine AC.loop (α:=Nat×Nat) (λp=>⟨[(0,.sl b1 2 (l.map Ce)),(1,.sl b2 2 (l.map Ce)),(5,i64 (p.1:Int))],[],p.2⟩) (λp=>l.length-p.1) (λq=>q.1<=l.length) (0,_) (BX _) AL ?_;rintro⟨i,n⟩ F hi;dsimp only at hi⊢;rcases BG i l.length with h2|h2
 rotate_left
 ·have e1:=Cf h2
  refine AI U7 (Ad el e1) AB AB AB AB AB AB ?_;exact AM rfl AA.out
 have e1:=Cd h2;have wi:=Cj (i:=i) (by omega);obtain⟨x,hx⟩:=CQ h2;have hm:(l.map Ce)[i]?=some (.agg [str (sb x.1),str (sb x.2)]):=by rw[BC,hx];rfl
 have s1:=J7 (sb x.1);have s2:=J7 (sb x.2);refine AI U7 (CY el e1 wi s1 s2 kN (Ad kT kF)) hm AB AB AB AB AB ?_;exact⟨(i+1,_),h2,by dsimp only;omega,AL⟩
theorem zu (b1 b2:Bool)(l:List (List UInt8×List UInt8))(hl:l.length<=1000000):AK C0 10 [.sl b1 2 (l.map Ce),.sl b2 2 (l.map Ce)] (Ap true):=by
 refine Af.walk w1 iC rfl λF=>?_
 have el:(((l.map Ce).length:Nat):Int)=(l.length:Int):=by rw[Ai]
 have cS:=ll false b2 l hl;refine AI AZ el AB AB AB AB AB AB ?_;refine AC.loop (α:=Nat×Nat×Nat) (λp=>⟨[(1,.sl b2 2 (l.map Ce)),(5,EO 503 p.2.1 2 ((l.take p.1).map Ce)),(8,.sl b1 2 (l.map Ce)),(9,i64 (l.length:Int)),(10,i64 (p.1:Int))],EI 503 p.2.1 70 2 ((l.take p.1).map Ce),p.2.2⟩) (λp=>l.length-p.1) (λq=>q.1<=l.length) (0,0,_) (BX _) AL ?_;rintro⟨i,g,n⟩ F hi;dsimp only at hi⊢;rcases BG i l.length with h2|h2
 rotate_left
 ·have e1:=Cf h2
  have:i=l.length:=by omega
  subst this;rw[DJ];obtain⟨N,hN⟩:∃N,l.length=N:=⟨_,rfl⟩
  rw[hN]at e1⊢;clear hN el hi h2 hl;rcases l with _|⟨z,l⟩
  ·rw[List.map_nil]at cS⊢
   rw[IR,IS];refine AI AZ e1 AB AB AB AB AB AB ?_;refine BF.pure [.sl false 2 [],.sl b2 2 []] _ ⟨.nil 2,.refl _,trivial⟩ cS AJ ?_;refine AI AZ kB AB AB AB AB AB AB ?_;exact AM rfl AA.out
  ·rw[Ci]at cS⊢
   rw[Gv,Gw];have pT:AA (.sl b2 2 (Ce z::l.map Ce)):=(AJ:AA (.sl b2 2 ((z::l).map Ce)))
   have pT2:AA (.sl b1 2 (Ce z::l.map Ce)):=(AJ:AA (.sl b1 2 ((z::l).map Ce)))
   have pT3:AA (.sl false 2 (Ce z::l.map Ce)):=(AJ:AA (.sl false 2 ((z::l).map Ce)))
   obtain⟨T,hT⟩:∃T,l.map Ce=T:=⟨_,rfl⟩
   obtain⟨t,ht⟩:∃t,Ce z=t:=⟨_,rfl⟩
   rw[hT,ht]at cS pT pT2 pT3⊢;have hfz:=HQ (H:=[⟨503,g,70,2,t::T⟩]) (Hf:=[]) (k:=503) (g:=g) (T:=70) (sz:=2) (l:=t::T) rfl;refine AI AZ e1 AB AB AB AB AB AB ?_;refine BF.own _ (Lv cS rfl (λi a d h1 h2=>by
    match i with
    | 0=>cases h1;cases h2;exact .of hfz
    | 1=>cases h1;cases h2;exact .refl _ _
    |n+2=>cases h1) AJ (.prim _)) ?_
   rintro d H' n' ⟨rfl,rfl,rfl⟩;refine AI AZ kB AB AB AB AB AB AB ?_;exact AM rfl AA.out
 have e1:=Cd h2;have wi:=Cj (i:=i) (by omega);obtain⟨x,hx⟩:=CQ h2;have hm:(l.map Ce)[i]?=some (.agg [str (sb x.1),str (sb x.2)]):=by rw[BC,hx];rfl
 have ht:l.take (i+1)=l.take i++[x]:=by rw[D8,hx];rfl
 have hln:(l.take i).length=i:=by rw[Bc];omega
 obtain⟨R,hR⟩:∃R,l.take i=R:=⟨_,rfl⟩
 rw[hR]at ht hln⊢;rcases R with _|⟨z,R⟩
 ·rw[List.map_nil,IR,IS]
  refine AI AZ (Ar e1 wi kN) hm AB AB AB AB AB ?_;refine⟨(i+1,n+1+1+1+1+1+1+1+1,n+1+1+1+1+1+1+1+1+1+1+1+1),h2,by dsimp only;omega,?_⟩;dsimp only;rw[ht];exact AL
 ·rw[Ci,Gv,Gw]
  obtain⟨T,hT⟩:∃T,R.map Ce=T:=⟨_,rfl⟩
  obtain⟨t,hz⟩:∃t,Ce z=t:=⟨_,rfl⟩
  have hTl:T.length+1=i:=by rw[<-hT,Ai];exact hln
  rw[hT,hz];refine AI AZ (Ar e1 wi kN) hm AB AB AB AB AB ?_;refine⟨(i+1,n+1+1+1+1+1+1+1+1,n+1+1+1+1+1+1+1+1+1+1+1+1),h2,by dsimp only;omega,?_⟩;dsimp only;rw[ht,DN,Ci,hT,hz,Ci,List.map_nil];rw[E7,Gv,Gw,Be];rw[show List.take (T.length+1) (t::T)=t::T from DJ (l:=t::T)];exact AL
def Au.shB (s:Au):Bool:=decide (s.lot.length<=100)&&decide (s.part.length<=14)
def AE.shB (x:AE):Bool:=decide (x.grain.length<=100)&&(decide (x.shs.length<=8)||decide (64<x.shs.length))&&decide (x.shs.length<=80)&&x.shs.all Au.shB
def HT (l:List AE):Bool:=l.all AE.shB&&(decide (l.length<=8)||(decide (64<l.length)&&decide (l.length<=80)))
theorem Dy.clo2 {H:Hp}{fn:Fn}{c c' x x':D}(h:Dy H c c')(k:Dy H x x'):Dy H (.clo fn [] [c,x]) (.clo fn [] [c',x']):=λC F ρ w m hO hN v hv=>by
 cases hv with
 |clo hf hc h1 h2=>
  refine .clo hf (by simpa using hc) (λi d hd=>by simp at hd) λi d hd=>?_
  match i with
  | 0=>
   simp at hd;subst hd;exact h C F ρ w m hO hN _ (h2 0 _ rfl)
  | 1=>
   simp at hd;subst hd;exact k C F ρ w m hO hN _ (h2 1 _ rfl)
  |i+2=>simp at hd
theorem Ur (b bk:Bool)(T:List D)[pT:AA (.sl b 3 T)]:AK C0 68 [.sl b 3 T,Ap bk] (.clo (.func 104) [] [.pptr (.sl b 3 T),.pptr (Ap bk)]):=by
 refine e2y w1 ik rfl λF=>?_
 have hp:CJ (.clo (.func 104) [] [.pptr (.sl b 3 T),.pptr (Ap bk)]):=(AJ:AA (.clo (.func 104) [] [.pptr (.sl b 3 T),.pptr (Ap bk)])).out;refine fR 0 ?_;refine fR 100 ?_;refine Ag ?_;exact⟨_,.clo2 (.ptr rfl rfl rfl rfl) (.ptr rfl rfl rfl rfl),hp,rfl⟩
theorem Wy {E:GL}{l:Nat}{R:LR}(hE:GL.ok E)(b bk:Bool)(T:List D)[pT:AA (.sl b 3 T)](hT:∀x∈T,∃a c d,x=.agg [a,c,d])(hl:T.length<=1000000)
  {σ:Type} (S:Nat->σ->Hp) (P:Nat->σ->Prop) (c:Code) (Z:Hp->Prop) (a0:σ) (h0:P 0 a0) (n0:Nat)
  (hY:∀k a x n,P k a->k<T.length->T[if bk then T.length-1-k else k]?=some x->R5 C0 E l R [x] (S k a) n (λj H' _=>(j=none/\∃a',P (k+1) a'/\Cz H' (S (k+1) a') H' (S (k+1) a'))\/(j=some c/\Z H'))):
  Pf C0 E 104 [.clo (.yield l) [] [],.pptr (.sl b 3 T),.pptr (Ap bk)] l R (S 0 a0) n0 (λj _ H' _=>(j=none/\∃a,P T.length a/\H'=S T.length a)\/(j=some c/\Z H')):=by
 refine Pf.walk w1 hE dO rfl λB F hR=>?_
 obtain⟨N,hN⟩:∃N,T.length=N:=⟨_,rfl⟩
 rw[hN]at hY hl⊢;have el:((T.length:Nat):Int)=(N:Int):=by rw[hN]
 refine sZ 0 ?_;refine AF el ?_;refine AC.block ?_;refine Gh (α:=Nat×σ×Nat) (λp=>⟨[(0,.clo (.yield l) [] []),(1,.pptr (.sl b 3 T)),(2,.pptr (Ap bk)),(6,i64 (N:Int)),(7,i64 (p.1:Int))],S p.1 p.2.1,p.2.2⟩) (λp=>N-p.1)
  (λp F=>Mu C0 E B F l R/\p.1<=N/\P p.1 p.2.1) (0,a0,_) ⟨hR,BX _,h0⟩ AL ?_
 clear hR;rintro⟨i,a,m⟩ F ⟨hR,h1,hP⟩;dsimp only at h1 hR hP⊢;refine sR 100 ?_;refine AC.seq ?_;refine AO ?_
 (refine B8 (λh8=>?_) (λh8=>?_))<;>(try simp only[Bs,B6]at h8)<;>(try simp only[h8])
 ·have hi:i<N:=by
   have:=DP h8
   omega
  have a3:IntKind.i64.wrap ((i:Int)+1)=((i+1:Nat):Int):=wI;have a4:IntKind.i64.wrap ((N:Int)-1)=((N-1:Nat):Int):=by rw[wI];omega
  have a5:IntKind.i64.wrap (((N-1:Nat):Int)-(i:Int))=((N-1-i:Nat):Int):=by rw[wI];omega
  have hq:(if bk then N-1-i else i)<T.length:=by rw[hN];split<;>omega
  obtain⟨x,hx⟩:∃x,T[if bk then N-1-i else i]?=some x:=⟨_,By hq⟩
  have hy:=λn=>hY i a x n hP hi hx
  obtain⟨x1,x2,x3,rfl⟩:=hT x (Av hx);refine Am ?_;refine AC.seq ?_;refine AC.block ?_;refine sR 200 ?_;refine AC.seq ?_;refine sR 300 ?_;cases bk
  ·replace hx:T[i]?=some (.agg [x1,x2,x3]):=hx
   refine AO ?_;refine Am ?_;refine AC.seq ?_;refine kI w1 500 [0,1,2,3,4] 5 [6] rfl (by kernel_rfl) hR ?_;refine BS ?_;refine B4 kT hx ?_;refine BM ⟨rfl,trivial⟩ ?_;refine BS ?_;refine⟨rfl,_,hy _,?_,?_⟩
   ·rintro H2 n2 (⟨_,a',hP',hf⟩|⟨h,-⟩)
    rotate_left
    ·cases h
    refine BM (by exact CK) ?_;refine BO ?_;refine AO ?_;refine Am ?_;refine Aq 600 ?_;refine AV a3 ?_;exact⟨(i+1,a',_),⟨hR,hi,hP'⟩,(by dsimp only;omega),AL (a:=hf)⟩
   ·rintro c2 H2 n2 (⟨h,-⟩|⟨h,hZ⟩) F2 hst
    ·cases h
    cases h;refine BS ?_;refine AO ?_;refine AC.weak ⟨[],H2,_⟩ AL ?_;refine AC.ret ?_;exact⟨_,hst,trivial,.inr ⟨rfl,hZ⟩⟩
  ·replace hx:T[N-1-i]?=some (.agg [x1,x2,x3]):=hx
   refine AO ?_;refine Aq 400 ?_;refine AV (Ar a4 a5 el) ?_;refine AC.seq ?_;refine kI w1 500 [0,1,2,3,4] 5 [6] rfl (by kernel_rfl) hR ?_;refine BS ?_;refine B4 kT hx ?_;refine BM ⟨rfl,trivial⟩ ?_;refine BS ?_;refine⟨rfl,_,hy _,?_,?_⟩
   ·rintro H2 n2 (⟨_,a',hP',hf⟩|⟨h,-⟩)
    rotate_left
    ·cases h
    refine BM (by exact CK) ?_;refine BO ?_;refine AO ?_;refine Am ?_;refine Aq 600 ?_;refine AV a3 ?_;exact⟨(i+1,a',_),⟨hR,hi,hP'⟩,(by dsimp only;omega),AL (a:=hf)⟩
   ·rintro c2 H2 n2 (⟨h,-⟩|⟨h,hZ⟩) F2 hst
    ·cases h
    cases h;refine BS ?_;refine AO ?_;refine AC.weak ⟨[],H2,_⟩ AL ?_;refine AC.ret ?_;exact⟨_,hst,trivial,.inr ⟨rfl,hZ⟩⟩
 ·have hi:i=N:=by
   have:=Dt h8
   omega
  subst hi;refine CL ?_;exact⟨none,hR.stat,trivial,.inl ⟨rfl,a,hP,rfl⟩⟩
def AE.w (x:AE)(m:Int):AE:=⟨x.grain,m,x.shs⟩
def Ec:List AE->Int->List AE
 | [],_=>[]
 |x::r,m=>x.w (min x.mass m)::if m-x.mass<=0 then[]else Ec r (m-x.mass)
def IJ (g1:Nat)(p:List AE×Int×Nat):Hp:=EI 408 p.2.2 51 3 (p.1.map AE.D)++[⟨100,g1,31,1,[EO 408 p.2.2 3 (p.1.map AE.D)]⟩,⟨0,0,3,1,[i64 p.2.1]⟩]
theorem bu (g1:Nat)(m:Int)(g:Nat):IJ g1 ([],m,g)=[⟨100,g1,31,1,[Cb]⟩,⟨0,0,3,1,[i64 m]⟩]:=rfl
theorem U3 (g1:Nat)(z:AE)(o:List AE)(m:Int)(g:Nat):IJ g1 (z::o,m,g)=[⟨408,g,51,3,z.D::o.map AE.D⟩,⟨100,g1,31,1,[.osl 408 g 3 0 ((o.map AE.D).length+1)]⟩,⟨0,0,3,1,[i64 m]⟩]:=rfl
def Ql (L:List AE)(m:Int)(k:Nat)(p:List AE×Int×Nat):Prop:=p.1.length=k/\p.1++Ec (L.drop k) p.2.1=Ec L m/\0<=p.2.1/\p.2.1<=1000000000000
def Gg (bk:Bool)(l:List AE):List AE:=if bk then l.reverse else l
theorem yC (bk:Bool)(l:List AE){k:Nat}(hk:k<l.length):(l.map AE.D)[if bk then(l.map AE.D).length-1-k else k]?=((Gg bk l)[k]?).map AE.D:=by
 unfold Gg;rw[Ai,BC];cases bk
 ·rfl
 ·simp only[if_true]
  rw[List.getElem?_reverse hk]
theorem Vi (b bk:Bool)(l:List AE)(m:Int)(hl:l.length<=1000000)(hm:0<=m/\m<=1000000000000)(hx:∀x∈l,0<=x.mass/\x.mass<=1000000000)
  (ho:∀x∈l,∀m,AK C0 64 [x.D,i64 m] (x.w m).D) (R:D) [pR:AA R] (hN:AK C0 35 [Aj false (Ec (Gg bk l) m)] R):
  AK C0 71 [Aj b l,i64 m,Ap bk] R:=by
 refine Af.walk w1 im rfl λF=>?_
 have cV:=Ur b bk (l.map AE.D);have hT:∀x∈l.map AE.D,∃a c d,x=.agg [a,c,d]:=λx hx=>by
  obtain⟨y,-,rfl⟩:=Bx.1 hx;exact⟨_,_,_,rfl⟩
 have hoL:∀k,k<l.length->∃x,x∈l/\(Gg bk l)[k]?=some x:=λk hk=>by
  unfold Gg;cases bk
  ·exact⟨_,List.getElem_mem hk,By hk⟩
  ·simp only[if_true]
   rw[List.getElem?_reverse hk]
   have:l.length-1-k<l.length:=by omega
   exact⟨_,List.getElem_mem this,By this⟩
 have hlen:(Gg bk l).length=l.length:=by unfold Gg;cases bk<;>simp
 obtain⟨L,hL⟩:∃L,Gg bk l=L:=⟨_,rfl⟩
 have hoA:=λk (hk:k<l.length)=>yC bk l hk
 rw[hL]at hoL hoA hN hlen;unfold Aj;obtain⟨T,hTT⟩:∃T,l.map AE.D=T:=⟨_,rfl⟩
 have pT:AA (.sl b 3 T):=by rw[<-hTT];exact AJ
 have hTl:T.length=l.length:=by rw[<-hTT,Ai]
 rw[hTT]at cV hT hoA⊢;refine sR 0 ?_;refine sR 100 ?_;refine AC.seq ?_;refine sR 200 ?_;refine cI cV ?_;refine AC.block ?_;have h0:Ql L m 0 ([],m,0):=⟨rfl,rfl,hm⟩
 refine AC.rangeFunc (fi:=104) (first:=[]) (captured:=[.pptr (.sl b 3 T),.pptr (Ap bk)]) (Ψ:=λj _ H' _=>(j=none/\∃a,Ql L m T.length a/\H'=IJ 2 a)\/(j=some (.exit 0)/\∃m' g,H'=IJ 2 (Ec L m,m',g))) rfl
  (λds H n Φ=>∃k a x,Ql L m k a/\k<T.length/\T[if bk then T.length-1-k else k]?=some x/\ds=[x]/\H=IJ 2 a/\Φ=λj H' _=>(j=none/\∃a',Ql L m (k+1) a'/\Cz H' (IJ 2 a') H' (IJ 2 a'))\/(j=some (.exit 0)/\∃m' g,H'=IJ 2 (Ec L m,m',g))) ?_
  (λE l' R' hE hY=>Wy hE b bk T hT (by omega) (λ_ a=>IJ 2 a) (Ql L m) (.exit 0) (λH'=>∃m' g,H'=IJ 2 (Ec L m,m',g)) ([],m,0) h0 _ λk a x n hP hk hx=>hY _ _ _ _ ⟨k,a,x,hP,hk,hx,rfl,rfl,rfl⟩) ?_
 ·rintro l' ds H n Φ ⟨k,⟨o,m',g⟩,x,⟨p1,p2,p3,p4⟩,hk,hxT,rfl,rfl,rfl⟩
  dsimp only at p1 p2 p3 p4;obtain⟨y,hy1,hy2⟩:=hoL k (by omega);rw[hoA k (by omega),hy2]at hxT;cases hxT;have hd:L.drop k=y::L.drop (k+1):=by
   have:=(BT.1 hy2)
   rw[E5 this.1,this.2]
  rw[hd]at p2;have hb:=hx y hy1;have cO:=ho y hy1 (min y.mass m');have p5:(o++[y.w (min y.mass m')])++(if m'-y.mass<=0 then[]else Ec (L.drop (k+1)) (m'-y.mass))=Ec L m:=by
   rw[<-p2,Dh];rfl
  have a1:IntKind.i64.wrap (m'-y.mass)=m'-y.mass:=wI;refine⟨rfl,λF=>?_⟩;unfold AE.w AE.D at cO;unfold AE.D;dsimp only at cO⊢;obtain⟨SD,hSD⟩:∃d,C9 false y.shs=d:=⟨_,rfl⟩
  have pS:AA SD:=by rw[<-hSD];exact AJ
  rw[hSD]at cO⊢;rcases o with _|⟨z,o⟩
  ·rw[bu]
   dsimp only[HV];refine Aq 300 ?_;refine AF kB ?_;refine⟨trivial,trivial,λF'=>?_⟩;refine AC.block ?_;refine AC.seq ?_;refine CO 400 [0,1,2,3,4,5,6,7] [8,9] ?_;refine BS ?_;refine Bf.same _ (cO) AJ ?_;refine BS ?_;refine sZ 500 ?_;refine AV a1 ?_;refine sR 600 ?_;refine AC.weak ⟨[(27,Ap (decide (m'-y.mass<=0)))],[⟨408,n+1+1+10,51,3,[.agg [str (sb y.grain),i64 (min y.mass m'),SD]]⟩,⟨100,2,31,1,[.osl 408 (n+1+1+10) 3 0 1]⟩,⟨0,0,3,1,[i64 (m'-y.mass)]⟩],_⟩ AL ?_;rw[<-hSD]
   by_cases hz:m'-y.mass<=0
   ·rw[Ax hz]
    rw[AH hz,Du]at p5;refine AO ?_;refine CL ?_;refine .inr ⟨rfl,m'-y.mass,n+1+1+10,?_⟩;rw[<-p5];rfl
   ·rw[Ay hz]
    rw[AG hz]at p5;refine AO ?_;refine Am ?_;exact .inl ⟨rfl,([y.w (min y.mass m')],m'-y.mass,n+1+1+10),⟨by rw[<-p1];rfl,p5,by dsimp only;omega,by dsimp only;omega⟩,Hs _⟩
  ·have wl:AA (.sl false 3 ((z::o).map AE.D)):=AJ
   have hol:o.length<=1000000:=by rw[Br]at p1;omega
   rw[Ci]at wl;rw[U3];dsimp only[HV];obtain⟨O,hO⟩:∃O,o.map AE.D=O:=⟨_,rfl⟩
   obtain⟨zD,hzD⟩:∃O,z.D=O:=⟨_,rfl⟩
   have hOl:O.length=o.length:=by rw[<-hO,Ai]
   rw[hO,hzD];refine Aq 300 ?_;refine AF kB ?_;refine⟨trivial,trivial,λF'=>?_⟩;refine AC.block ?_;refine AC.seq ?_;refine CO 400 [0,1,2,3,4,5,6,7] [8,9] ?_;refine BS ?_;refine Bf.same _ (cO) AJ ?_;refine BS ?_;rw[show List.take (O.length+1) (zD::O)=zD::O from DJ (l:=zD::O)];refine sZ 500 ?_;refine AV a1 ?_;refine sR 600 ?_;refine AC.weak ⟨[(27,Ap (decide (m'-y.mass<=0)))],[⟨408,n+1+1+10,51,3,zD::O++[.agg [str (sb y.grain),i64 (min y.mass m'),SD]]⟩,⟨100,2,31,1,[.osl 408 (n+1+1+10) 3 0 (O.length+1+1)]⟩,⟨0,0,3,1,[i64 (m'-y.mass)]⟩],_⟩ AL ?_;have hs:∀g' mm,IJ 2 (z::o++[y.w (min y.mass m')],mm,g')=[⟨408,g',51,3,zD::O++[.agg [str (sb y.grain),i64 (min y.mass m'),SD]]⟩,⟨100,2,31,1,[.osl 408 g' 3 0 (O.length+1+1)]⟩,⟨0,0,3,1,[i64 mm]⟩]:=λg' mm=>by
    rw[E7,U3,<-hO,<-hzD,<-hSD,DN];rw[Be];rfl
   rw[<-hs]
   by_cases hz:m'-y.mass<=0
   ·rw[Ax hz]
    rw[AH hz,Du]at p5;refine AO ?_;refine CL ?_;exact .inr ⟨rfl,m'-y.mass,n+1+1+10,by rw[<-p5];rfl⟩
   ·rw[Ay hz]
    rw[AG hz]at p5;refine AO ?_;refine Am ?_;exact .inl ⟨rfl,(z::o++[y.w (min y.mass m')],m'-y.mass,n+1+1+10),⟨by rw[<-p1];simp,p5,by dsimp only;omega,by dsimp only;omega⟩,Hs _⟩
 ·rintro j d H' n' F' hE
  have hE2:∃m' g,H'=IJ 2 (Ec L m,m',g)/\(j=none\/j=some (.exit 0)):=by
   rcases hE with⟨hj,⟨o,m',g⟩,⟨p1,p2,-,-⟩,rfl⟩|⟨hj,m',g,rfl⟩
   ·refine⟨m',g,?_,.inl hj⟩
    dsimp only at p2;rw[List.drop_eq_nil_of_le (by omega)]at p2;rw[show o=Ec L m by rw[<-p2];exact(Du o).symm]
   ·exact⟨m',g,rfl,.inr hj⟩
  obtain⟨m',g,rfl,hj⟩:=hE2;obtain⟨o,hO⟩:∃o,Ec L m=o:=⟨_,rfl⟩
  rw[hO]at hN⊢;rcases o with _|⟨z,o⟩
  ·rw[bu]
   rcases hj with rfl|rfl
   all_goals
    change AC _ _ _ _ _ _ _;refine sR 700 ?_;refine BF.pure [.sl false 3 []] _ ⟨.nil 3,trivial⟩ hN AJ ?_;refine BS ?_;refine Ag ?_;exact AM rfl pR.out
  ·have hR:=HQ (H:=IJ 2 (z::o,m',g)) (Hf:=[]) (k:=408) (g:=g) (T:=51) (sz:=3) (l:=(z::o).map AE.D) rfl
   have hle:((z::o).map AE.D).length=(o.map AE.D).length+1:=rfl;rw[hle]at hR;rw[U3]at hR⊢;rcases hj with rfl|rfl
   all_goals
    change AC _ _ _ _ _ _ _;refine sR 700 ?_;refine BF.own _ (QU [] hN (.drop (.drop (.drop .nil))) ⟨hR,trivial⟩ AJ) ?_;rintro d H2 n2 ⟨rfl,rfl,rfl⟩;refine BS ?_;refine Ag ?_;exact AM rfl pR.out
abbrev MV:Dr:=[(6,[0,1,2,3,4,5,6,7],[8])]
open Go.Proofs Go.RowKit
set_option maxRecDepth 20000
set_option maxHeartbeats 4000000
def Ih (s t:Au):Bool:=BE (sb s.lot) (sb t.lot)&&BE (sb s.part) (sb t.part)
def Ge:List Au->List Au->Bool
 | [],[]=>true
 |s::S,t::T=>Ih s t&&Ge S T
 |_,_=>false
theorem Z6:∀ {S T:List Au},S.length≠T.length->Ge S T=false
 | [],[],h=>Ak rfl h
 | [],_::_,_=>rfl
 |_::_,[],_=>rfl
 |s::S,t::T,h=>by
  show(Ih s t&&Ge S T)=false;rw[Z6 (S:=S) (T:=T) λq=>h (congrArg (· + 1) q),Bool.and_false]
theorem RZ:∀ {S T:List Au} {i:Nat} {s t:Au},S[i]?=some s->T[i]?=some t->Ih s t=false->Ge S T=false
 |s::S,t::T,0,_,_,h1,h2,h=>by
  cases h1;cases h2;show(Ih s t&&Ge S T)=false;rw[h,ID]
 |s::S,t::T,i+1,_,_,h1,h2,h=>by
  show(Ih s t&&Ge S T)=false;rw[RZ (S:=S) (T:=T) (i:=i) h1 h2 h,Bool.and_false]
theorem Z4:∀ {S T:List Au},S.length=T.length->(∀(i:Nat) (s t:Au),S[i]?=some s->T[i]?=some t->Ih s t=true)->Ge S T=true
 | [],[],_,_=>rfl
 | [],_::_,h,_=>by cases h
 |_::_,[],h,_=>by cases h
 |s::S,t::T,h,k=>by
  show(Ih s t&&Ge S T)=true;rw[k 0 s t rfl rfl,Z4 (S:=S) (T:=T) (Nat.succ.inj h) λi s t h1 h2=>k (i+1) s t h1 h2];rfl
theorem pV (b1 b2:Bool)(S T:List Au)(hS:S.length<=1000000)(hT:T.length<=1000000):AK C0 105 [C9 b1 S,C9 b2 T] (Ap (Ge S T)):=by
 refine Af.walk w1 dQ rfl λF=>?_
 have e1:(((S.map Au.D).length:Nat):Int)=(S.length:Int):=by rw[Ai]
 have e2:(((T.map Au.D).length:Nat):Int)=(T.length:Int):=by rw[Ai]
 by_cases hl:S.length=T.length
 rotate_left
 ·have hne:((S.length:Int) != (T.length:Int))=true:=bne_iff_ne.2 (by omega)
  rw[Z6 hl];refine AI MV (Ar e1 e2 hne) AB AB AB AB AB AB ?_;exact AM rfl AA.out
 have hne:((S.length:Int) != (T.length:Int))=false:=by rw[hl];exact bne_self_eq_false _
 refine AI MV (Ar e1 e2 hne) AB AB AB AB AB AB ?_;refine AC.loop (α:=Nat×Nat) (λp=>⟨[(0,C9 b1 S),(1,C9 b2 T),(12,i64 (S.length:Int)),(13,i64 (p.1:Int))],[],p.2⟩) (λp=>S.length-p.1) (λq=>q.1<=S.length/\∀(j:Nat) (s t:Au),j<q.1->S[j]?=some s->T[j]?=some t->Ih s t=true) (0,_) ⟨BX _,λj _ _ h=>Ak h (Hg j)⟩ AL ?_;rintro⟨i,n⟩ F ⟨hi,ha⟩;dsimp only at hi ha⊢;rcases BG i S.length with h2|h2
 rotate_left
 ·have k1:=Cf h2
  rw[Z4 hl λj s t h1 h3=>ha j s t (by have:=(BT.1 h1).1;omega) h1 h3];refine AI MV k1 AB AB AB AB AB AB ?_;exact AM rfl AA.out
 have k1:=Cd h2;have wi:=Cj (i:=i) (by omega);obtain⟨x,hx⟩:=CQ h2;obtain⟨y,hy⟩:=CQ (show i<T.length by omega);have hm:(S.map Au.D)[i]?=some (.agg [str (sb x.lot),str (sb x.part)]):=by rw[BC,hx];rfl
 have hm2:(T.map Au.D)[i]?=some (.agg [str (sb y.lot),str (sb y.part)]):=by rw[BC,hy];rfl
 obtain⟨q1,c1⟩:∃q,BE (sb x.lot) (sb y.lot)=q:=⟨_,rfl⟩
 obtain⟨q2,c2⟩:∃q,BE (sb x.part) (sb y.part)=q:=⟨_,rfl⟩
 have hsh:Ih x y=(q1&&q2):=by unfold Ih;rw[c1,c2]
 have b1':(!(true&&(true&&true)))=false:=rfl;have b2':(!(true&&(false&&true)))=true:=rfl;have b3':(!(false&&(true&&true)))=true:=rfl;have b4':(!(false&&(false&&true)))=true:=rfl;cases q1<;>cases q2
 ·rw[RZ hx hy hsh]
  refine AI MV (CY k1 wi c1 c2 b1' b2' (Ar b3' b4' kN)) hm hm2 AB AB AB AB ?_;exact AM rfl AA.out
 ·rw[RZ hx hy hsh]
  refine AI MV (CY k1 wi c1 c2 b1' b2' (Ar b3' b4' kN)) hm hm2 AB AB AB AB ?_;exact AM rfl AA.out
 ·rw[RZ hx hy hsh]
  refine AI MV (CY k1 wi c1 c2 b1' b2' (Ar b3' b4' kN)) hm hm2 AB AB AB AB ?_;exact AM rfl AA.out
 ·refine AI MV (CY k1 wi c1 c2 b1' b2' (Ar b3' b4' kN)) hm hm2 AB AB AB AB ?_
  refine⟨(i+1,_),⟨h2,λj s t hj h1 h3=>?_⟩,by dsimp only;omega,AL⟩;rcases BG j i with h|h
  ·exact ha j s t h h1 h3
  ·have:j=i:=by dsimp only at hj;omega
   subst this;rw[hx]at h1;rw[hy]at h3;cases h1;cases h3;exact hsh
def GY (x y:AE):Bool:=BE (sb x.grain) (sb y.grain)&&Ge x.shs y.shs
theorem sx (x y:AE)(hx:x.shs.length<=1000000)(hy:y.shs.length<=1000000):AK C0 69 [x.D,y.D] (Ap (GY x y)):=by
 refine Af.walk w1 il rfl λF=>?_
 have c:=pV false false x.shs y.shs hx hy;obtain⟨q,hq⟩:∃q,BE (sb x.grain) (sb y.grain)=q:=⟨_,rfl⟩
 have hb:GY x y=(q&&Ge x.shs y.shs):=by unfold GY;rw[hq]
 rw[hb];unfold AE.D;unfold C9 at c⊢;obtain⟨S,hS⟩:∃S,x.shs.map Au.D=S:=⟨_,rfl⟩
 have pS:AA (.sl false 2 S):=by rw[<-hS];exact AJ
 obtain⟨T,hT⟩:∃S,y.shs.map Au.D=S:=⟨_,rfl⟩
 have pT:AA (.sl false 2 T):=by rw[<-hT];exact AJ
 rw[hS,hT]at c⊢;cases q
 ·refine AI AZ (Ar hq kT kF) c AB AB AB AB AB ?_
  exact AM rfl AA.out
 ·refine AI AZ (Ar hq kT kF) c AB AB AB AB AB ?_
  exact AM rfl AA.out
def Sy (H:Hp)(env:Ao):Ao->Prop
 | []=>True
 |(t,d)::r=>Dy H (env.get t) d/\Sy H env r
theorem Sy.get {H:Hp}{env:Ao}:∀ {env':Ao},Sy H env env'->∀t,Dy H (env.get t) (env'.get t)
 | [],_,t=>λ_ _ _ _ _ _ _ v _=>.any v
 |(k,d)::r,h,t=>by
  simp only[Ao.get];cases hb:Nat.beq k t with
  |true=>
   have:=CG hb
   subst this;exact h.1
  |false=>exact h.2.get t
theorem kK {C:BA}{B F:AY}{rd:Option Nat}{c:Code}{s:St}{Q:Exit->AY->St->Prop}(env':Ao)(he:Sy s.H s.env env')(h:AC C B rd F c ⟨env',[],s.n⟩ Q):AC C B rd F c s Q:=⟨λhB hd ρ a w hs=>by
 have hH:Cz s.H [] s.H []:=by
  generalize s.H=H0
  have:∀H1:Hp,Cz H0 [] H1 []:=λH1=>by
   induction H1 with
   |nil=>exact .nil
   |cons e r ih=>exact .drop ih
  exact this H0
 obtain⟨m,hO,hN⟩:=hH.mem hs.mem;exact h.out hB hd ρ a w ⟨m,hs.fresh,by simp,λt=>he.get t _ _ _ _ hs.mem hO (λe he b hb=>hN e he b hb rfl) _ (hs.env t),hs.nt,hs.dfr⟩⟩
theorem WF (B:D)[pB:AA B][pC:AW B](hB:∃a b c d e,B=.agg [a,b,c,d,e])(b:Bool)(ls:List D)[pL:AA (.sl b 1 ls)](i:Nat)(x:Int)(hx:ls[i]?=some (i64 x))(R:D)[pR:AA R](m:Int)
  (cB:AK C0 55 [.sl b 1 ls,i64 (i:Int),.clo (.func 95) [] [.pptr (.sl b 1 ls),.pptr (i64 (i:Int)),.pptr B]] R)
  (cL:AK C0 54 [i64 x,R] (i64 m)):AK C0 53 [B,.sl b 1 ls,i64 (i:Int)] (i64 m):=by
 refine Af.walk w1 iZ rfl λF=>?_
 obtain⟨a1,a2,a3,a4,a5,rfl⟩:=hB;refine sR 0 ?_;refine AC.seq ?_;refine kK [(3,.pptr (.agg [a1,a2,a3,a4,a5])),(4,.pptr (.sl b 1 ls)),(5,.pptr (i64 (i:Int)))] ⟨.ptr rfl rfl rfl rfl,.ptr rfl rfl rfl rfl,.ptr rfl rfl rfl rfl,trivial⟩ ?_;refine CO 100 [0,1,2,3,4,5,6,7] [8,9] ?_;refine BS ?_;refine B4 kT hx ?_;refine AF kB ?_;refine Bf.same _ (cB) AJ ?_;refine BS ?_;refine cI cL ?_;refine Ag ?_;exact AM rfl AA.out
theorem t8 (B:D)[pB:AA B][pC:AW B](a1 a2 a4 a5:D)(room:Int)(hB:B=.agg [a1,a2,i64 room,a4,a5])(ls:List D)[pL:AA (.sl false 1 ls)](i:Nat)(x:Int)(hx:ls[i]?=some (i64 x))(R:D)[pR:AA R](m:Int)
  (cC:AK C0 28 [B,.sl true 1 [i64 (i:Int)]] (i64 0)) (cV:AK C0 39 [B] (.sl false 1 ls))
  (cB:AK C0 55 [.sl false 1 ls,i64 (i:Int),.clo (.func 56) [] [.pptr B,.pptr (.sl false 1 ls),.pptr (i64 (i:Int))]] R) (r:Int) (hr:IntKind.i64.wrap (room-x)=r)
  (cL:AK C0 54 [i64 r,R] (i64 m)):AK C0 20 [B,i64 (i:Int)] (.tup [i64 m,i64 0]):=by
 refine Af.walk w1 iH rfl λF=>?_
 have e0:((0:Int) != 0)=false:=rfl;subst hB;refine sR 0 ?_;refine AC.seq ?_;refine sR 100 ?_;refine cI cC ?_;refine sZ 200 ?_;refine AV e0 ?_;refine AO ?_;refine Am ?_;refine sR 400 ?_;refine cI cV ?_;refine AC.seq ?_;refine kK [(2,.pptr (.agg [a1,a2,i64 room,a4,a5])),(3,.pptr (i64 (i:Int))),(7,.pptr (.sl false 1 ls))] ⟨.ptr rfl rfl rfl rfl,.ptr rfl rfl rfl rfl,.ptr rfl rfl rfl rfl,trivial⟩ ?_;refine CO 500 [0,1,2,3,4,5,6,7,8,9,10] [11,12,13] ?_;refine BS ?_;refine B4 kT hx ?_;refine AF hr ?_;refine Bf.same _ (cB) AJ ?_;refine BS ?_;refine cI cL ?_;refine Ag ?_;exact AM rfl AA.out
abbrev Ca (l:List Int):List D:=l.map λx=>i64 x
theorem mj (a1 a2 a3 a4:D)[AA a1][AA a2][AA a3][AA a4](b:Bool)(cs:List D)[pc:AA (.sl b 1 cs)](ls:List Int)(hlen:ls.length=cs.length)(h0:cs≠[])(hl:cs.length<=1000000)
  (hc:∀(i:Nat) (c:D) (m:Int),cs[i]?=some c->ls[i]?=some m->AK C0 30 [c] (i64 m)) (hp:∀c∈cs,∃bb l,c=.sl bb 3 l/\AA c) (g0:Nat) (x:D) (n:Nat):
  Cu C0 39 [.agg [a1,a2,a3,a4,.sl b 1 cs]] [⟨0,g0,24,5,[x]⟩] n (λd H' _=>∃g,d=.osl 504 g 1 0 ls.length/\H'=[⟨504,g,3,1,Ca ls⟩,⟨0,g0,24,5,[x]⟩]):=by
 refine Cu.walk w1 Wb rfl λF=>?_
 refine AI AZ kB AB AB AB AB AB AB ?_;refine AC.loop (α:=Nat×Nat×Nat) (λp=>⟨[(3,EO 504 p.2.1 1 (Ca (ls.take p.1))),(7,.sl b 1 cs),(8,i64 (cs.length:Int)),(9,i64 (p.1:Int))],EI 504 p.2.1 3 1 (Ca (ls.take p.1))++[⟨0,g0,24,5,[x]⟩],p.2.2⟩) (λp=>cs.length-p.1) (λq=>q.1<=cs.length) (0,0,_) (BX _) AL ?_;rintro⟨i,g,n⟩ F hi;dsimp only at hi⊢;rcases BG i cs.length with h2|h2
 rotate_left
 ·have e1:=Cf h2
  have hi2:i=cs.length:=by omega
  rw[Co (by omega:ls.length<=i)];have hls:ls≠[]:=λh=>h0 (FT (by rw[<-hlen,h];rfl))
  obtain⟨z,r,rfl⟩:∃z r,ls=z::r:=by
   cases ls with
   |nil=>exact Ak rfl hls
   |cons z r=>exact⟨z,r,rfl⟩
  rw[show Ca (z::r)=i64 z::Ca r from rfl,Gv,Gw,E7,FE];refine AI AZ e1 AB AB AB AB AB AB ?_;exact⟨_,by rw[Ai],rfl⟩
 have e1:=Cd h2;have wi:=Cj (i:=i) (by omega);obtain⟨c,hm⟩:=CQ h2;obtain⟨m,hm2⟩:=CQ (show i<ls.length by omega);obtain⟨bb,cl,rfl,pcl⟩:=hp c (Av hm);have cT:=hc i _ m hm hm2;have ht:ls.take (i+1)=ls.take i++[m]:=by rw[D8,hm2];rfl
 obtain⟨R,hR⟩:∃R,ls.take i=R:=⟨_,rfl⟩
 rw[hR]at ht⊢;rcases R with _|⟨z,R⟩
 ·rw[show Ca []=[]from rfl,IR,IS,FE]
  refine AI AZ (Ar e1 wi kN) hm cT AB AB AB AB ?_;refine⟨(i+1,n+1+1+1+1+1+1+1+1,n+1+1+1+1+1+1+1+1+1+1+1+1),h2,by dsimp only;omega,?_⟩;dsimp only;rw[ht];exact AL
 ·rw[show Ca (z::R)=i64 z::Ca R from rfl,Gv,Gw,E7,FE]
  obtain⟨O,hO⟩:∃O,Ca R=O:=⟨_,rfl⟩
  have hOl:O.length+1=i:=by
   rw[<-hO,Ai]
   have:(z::R).length=i:=by rw[<-hR,Bc];omega
   exact this
  rw[hO];refine AI AZ (Ar e1 wi kN) hm cT AB AB AB AB ?_;refine⟨(i+1,n+1+1+1+1+1+1+1+1,n+1+1+1+1+1+1+1+1+1+1+1+1),h2,by dsimp only;omega,?_⟩;dsimp only;rw[ht,show Ca (z::R++[m])=i64 z::O++[i64 m]from by rw[<-hO];unfold Ca;rw[DN];rfl];rw[E7,Gv,Gw,Be];rw[show List.take (O.length+1) (i64 z::O)=i64 z::O from DJ (l:=i64 z::O)];exact AL
def QC (k g sz:Nat)(env:Ao):Ao->Prop
 | []=>True
 |(t,d)::r=>(d=env.get t\/(env.get t=Cb/\d=.osl k g sz 0 0))/\QC k g sz env r
theorem QC.get {k g sz:Nat}{env:Ao}:∀ {env':Ao},QC k g sz env env'->∀t,env'.get t=.any\/env'.get t=env.get t\/(env.get t=Cb/\env'.get t=.osl k g sz 0 0)
 | [],_,t=>.inl rfl
 |(q,d)::r,h,t=>by
  rw[JM]
  by_cases hk:q=t
  ·subst hk;rw[AH rfl];exact .inr h.1
  ·rw[AG hk];exact QC.get h.2 t
theorem AC.ghost {C:BA}{B F:AY}{rd:Option Nat}{c:Code}{s:St}{Q:Exit->AY->St->Prop}(k T sz:Nat)(env':Ao)(he:QC k s.n sz s.env env')(h:AC C B rd F c ⟨env',⟨k,s.n,T,sz,[]⟩::s.H,s.n+1⟩ Q):AC C B rd F c s Q:=⟨λhB hd ρ a w hs=>by
 obtain⟨m1,hO⟩:=hs.mem.ghost (k:=k) (n:=s.n) (T:=T) (sz:=sz) (hs.fresh k _ (An _));refine h.out hB hd ρ a w ⟨m1,λk g hg=>hs.fresh k g (by dsimp only at hg;omega),λe he=>?_,λt=>?_,hs.nt,hs.dfr⟩
 ·rcases A8.1 he with rfl|he
  ·exact IF _
  ·exact Di (hs.gen e he)
 ·have hr:=hs.env t
  dsimp only;rw[hO];rcases he.get t with h|h|⟨h1,h2⟩
  ·rw[h];exact .any _
  ·rw[h];exact hr
  ·rw[h2]
   rw[h1]at hr;generalize a.tmps.getD t undef=v at hr⊢;cases hr;exact .onil _ _ _⟩
def JT (l:List Int):Nat->Nat
 | 0=>0
 |k+1=>if l.getD (JT l k) 0<l.getD k 0 then k else JT l k
def GS (l:List Int):Nat:=JT l l.length
theorem WG {l:List Int}(h:0<l.length):∀k,k<=l.length->JT l k<l.length
 | 0,_=>h
 |k+1,hk=>by
  unfold JT;split
  ·omega
  ·exact WG h k (by omega)
def L6 (mf:List Int->Int):Nat->List Int->List (Nat×Int)->List (Nat×Int)×Int
 | 0,_,_=>([],19)
 |k+1,l,out=>if l.getD (GS l) 0=0 then(out,0)else if mf l=0 then([],7)else if out.length=256 then([],19)else L6 mf k (l.set (GS l) (l.getD (GS l) 0-mf l)) (out++[(GS l,mf l)])
def It (p:Nat×Int):D:=.agg [i64 (p.1:Int),i64 p.2]
instance  (p:Nat×Int):AW (It p):=by unfold It;exact AJ
instance  (p:Nat×Int):AA (It p):=by unfold It;exact AJ
theorem Pz {l:List Int}{i:Nat}(h:i<l.length):(Ca l)[i]?=some (i64 (l.getD i 0)):=by
 rw[BC,EM,By h];rfl
theorem sN (a1 a2 a3 a4:D)[AA a1][AA a2][AA a3][AA a4](b:Bool)(cs:List D)[pc:AA (.sl b 1 cs)](ls:List Int)(hlen:ls.length=cs.length)(h0:cs≠[])(hl:cs.length<=1000000)
  (hc:∀(i:Nat) (c:D) (m:Int),cs[i]?=some c->ls[i]?=some m->AK C0 30 [c] (i64 m)) (hp:∀c∈cs,∃bb l,c=.sl bb 3 l/\AA c)
  (cK:AK C0 62 [.agg [a1,a2,a3,a4,.sl b 1 cs]] (i64 0))
  (mf:List Int->Int) (I:List Int->Prop) (hI0:I ls) (hI:∀l,I l->l.getD (GS l) 0≠0->AK C0 53 [.agg [a1,a2,a3,a4,.sl b 1 cs],.sl false 1 (Ca l),i64 ((GS l:Nat):Int)] (i64 (mf l))/\IntKind.i64.wrap (l.getD (GS l) 0-mf l)=l.getD (GS l) 0-mf l/\I (l.set (GS l) (l.getD (GS l) 0-mf l))):
  AK C0 23 [.agg [a1,a2,a3,a4,.sl b 1 cs]] (.tup [.sl false 2 ((L6 mf 257 ls []).1.map It),i64 (L6 mf 257 ls []).2]):=by
 refine Af.walk w1 iM rfl λF=>?_
 have e0:((0:Int) != 0)=false:=rfl;have cL:=λn=>mj a1 a2 a3 a4 b cs ls hlen h0 hl hc hp 0 (.agg [a1,a2,a3,a4,.sl b 1 cs]) n
 refine AI AZ e0 cK AB AB AB AB AB ?_;refine BF.own _ (cL _) ?_;rintro d H' n' ⟨g,rfl,rfl⟩;refine AI AZ kB AB AB AB AB AB AB ?_;obtain⟨N,hN⟩:∃N,ls.length=N:=⟨_,rfl⟩
 have hN0:0<N:=by rw[<-hN,hlen];exact List.length_pos_iff.2 h0
 have hN1:N<=1000000:=by omega
 rw[hN];clear cL cK hc hp;refine AC.ghost 2005 63 2 [(1,.optr 0 0 5 0 0),(5,.osl 2005 _ 2 0 0),(6,.osl 504 g 1 0 N)] ⟨.inl rfl,.inr ⟨rfl,rfl⟩,.inl rfl,trivial⟩ ?_;refine AC.loop (α:=List Int×List (Nat×Int)×Nat×Nat) (λp=>⟨[(1,.optr 0 0 5 0 0),(5,.osl 2005 p.2.2.1 2 0 p.2.1.length),(6,.osl 504 g 1 0 N)],[⟨2005,p.2.2.1,63,2,p.2.1.map It⟩,⟨504,g,3,1,Ca p.1⟩,⟨0,0,24,5,[.agg [a1,a2,a3,a4,.sl b 1 cs]]⟩],p.2.2.2⟩) (λp=>257-p.2.1.length)
  (λp=>p.1.length=N/\I p.1/\p.2.1.length<=256/\L6 mf (257-p.2.1.length) p.1 p.2.1=L6 mf 257 ls []) (ls,[],_,_) ⟨hN,hI0,BX _,rfl⟩ AL ?_
 rintro⟨l,out,go,n⟩ F ⟨hl1,hIl,ho,hR⟩;dsimp only at hl1 hIl ho hR⊢;obtain⟨OD,hOD⟩:∃O,out.map It=O:=⟨_,rfl⟩
 have hODl:OD.length=out.length:=by rw[<-hOD,Ai]
 rw[hOD];obtain⟨L,hL⟩:∃L,Ca l=L:=⟨_,rfl⟩
 have hLl:L.length=N:=by rw[<-hL,Ai,hl1]
 rw[hL];refine AI AZ kB AB AB AB AB AB AB ?_;refine AC.loop (α:=Nat×Nat) (λp=>⟨[(1,.optr 0 0 5 0 0),(5,.osl 2005 go 2 0 out.length),(6,.osl 504 g 1 0 N),(18,.osl 504 g 1 0 N),(19,i64 (N:Int)),(20,i64 (p.1:Int)),(7,i64 ((JT l p.1:Nat):Int))],[⟨2005,go,63,2,OD⟩,⟨504,g,3,1,L⟩,⟨0,0,24,5,[.agg [a1,a2,a3,a4,.sl b 1 cs]]⟩],p.2⟩) (λp=>N-p.1) (λq=>q.1<=N) (0,_) (BX _) AL ?_;rintro⟨k,n⟩ F hk;dsimp only at hk⊢;rcases BG k N with h2|h2
 ·have e1:=Cd h2
  have wi:=Cj (i:=k) (by omega);have hm:=Pz (l:=l) (i:=k) (by omega);have hq:=WG (l:=l) (by omega) k (by omega);have hm2:=Pz hq;obtain⟨u,hu⟩:∃u,l.getD k 0=u:=⟨_,rfl⟩
  obtain⟨v,hv⟩:∃v,l.getD (JT l k) 0=v:=⟨_,rfl⟩
  have hs:JT l (k+1)=if v<u then k else JT l k:=by rw[<-hu,<-hv];rfl
  rw[hu]at hm;rw[hv]at hm2;obtain⟨q,hq2⟩:∃q,JT l k=q:=⟨_,rfl⟩
  rw[hq2]at hm2 hs hq⊢;rw[hL]at hm hm2
  by_cases hlt:v<u
  ·have e2:decide (u>v)=true:=Ax hlt
   rw[AH hlt]at hs;refine AI AZ (CY e1 e2 wi kN BW hm hm2) AB AB AB AB AB AB ?_;refine⟨(k+1,n+1000),h2,by dsimp only;omega,?_⟩;dsimp only;rw[hs];exact AL
  ·have e2:decide (u>v)=false:=Ay hlt
   rw[AG hlt]at hs;refine AI AZ (CY e1 e2 wi kN BW hm hm2) AB AB AB AB AB AB ?_;refine⟨(k+1,n+1000),h2,by dsimp only;omega,?_⟩;dsimp only;rw[hs];exact AL
 have e1:=Cf h2
 have:k=N:=by omega
 subst this;have hq:=WG (l:=l) (by omega) k (by omega);have hm:=Pz hq;have hmI:JT l k=GS l:=by unfold GS;rw[hl1]
 rw[hmI]at hq hm⊢;have hIm:=hI l hIl;have hRs:L6 mf (257-out.length) l out=if l.getD (GS l) 0=0 then(out,0)else if mf l=0 then([],7)else if out.length=256 then([],19)else L6 mf (256-out.length) (l.set (GS l) (l.getD (GS l) 0-mf l)) (out++[(GS l,mf l)]):=by
  rw[show 257-out.length=(256-out.length)+1 by omega];rfl
 rw[hR]at hRs;obtain⟨q,hq2⟩:∃q,GS l=q:=⟨_,rfl⟩
 rw[hq2]at hq hm hIm hRs⊢;obtain⟨v,hv⟩:∃v,l.getD q 0=v:=⟨_,rfl⟩
 rw[hv]at hm hIm hRs;rw[hL]at hm
 by_cases hv0:v=0
 ·have e2:(v==0)=true:=by rw[hv0];rfl
  rw[AH hv0]at hRs;rw[hRs];refine AI AZ (CT e1 e2 kN BW hm) AB AB AB AB AB AB ?_;have hf:=HQ (H:=[⟨2005,go,63,2,OD⟩,⟨504,g,3,1,L⟩,⟨0,0,24,5,[.agg [a1,a2,a3,a4,.sl b 1 cs]]⟩]) (Hf:=[]) (k:=2005) (g:=go) (T:=63) (sz:=2) (l:=OD) rfl;rw[hODl]at hf;rw[hOD];have pO:AA (.sl false 2 OD):=by rw[<-hOD];exact AJ
  exact⟨_,Hn hf (.refl _),AA.out,rfl⟩
 rw[AG hv0]at hRs;have e2:(v==0)=false:=B5.2 hv0;obtain⟨cM,wm,hI'⟩:=hIm hv0;obtain⟨m,hmm⟩:∃m,mf l=m:=⟨_,rfl⟩
 rw[hmm]at cM wm hI' hRs;have pL:AA (.sl false 1 (Ca l)):=AJ;rw[hL]at cM pL;have hfL:=HQ (H:=[⟨2005,go,63,2,OD⟩,⟨504,g,3,1,L⟩,⟨0,0,24,5,[.agg [a1,a2,a3,a4,.sl b 1 cs]]⟩]) (Hf:=[]) (k:=504) (g:=g) (T:=3) (sz:=1) (l:=L) rfl;rw[hLl]at hfL;refine AI AZ (CT e1 e2 kN BW hm) AB AB AB AB AB AB ?_;refine BF.own _ (Lv (H:=[⟨2005,go,63,2,OD⟩,⟨504,g,3,1,L⟩,⟨0,0,24,5,[.agg [a1,a2,a3,a4,.sl b 1 cs]]⟩]) cM rfl (λi a d h1 h2=>by
  match i with
  | 0=>cases h1;cases h2;exact .refl _ _
  | 1=>cases h1;cases h2;exact .of hfL
  | 2=>cases h1;cases h2;exact .refl _ _
  |n+3=>cases h1) AJ (.prim _)) ?_
 rintro d H' n' ⟨rfl,rfl,rfl⟩
 by_cases hm0:m=0
 ·have e3:(m==0)=true:=by rw[hm0];rfl
  rw[AH hm0]at hRs;rw[hRs];refine AI AZ e3 AB AB AB AB AB AB ?_;exact⟨_,Hn (.nil 2) (.refl _),AA.out,rfl⟩
 rw[AG hm0]at hRs;have e3:(m==0)=false:=B5.2 hm0
 by_cases h256:out.length=256
 ·have e4:((out.length:Int)==256)=true:=by rw[h256];rfl
  rw[AH h256]at hRs;rw[hRs];refine AI AZ (Ad e3 e4) AB AB AB AB AB AB ?_;exact⟨_,Hn (.nil 2) (.refl _),AA.out,rfl⟩
 rw[AG h256]at hRs;have e4:((out.length:Int)==256)=false:=B5.2 (by omega);refine AI AZ (ER e3 e4 wm kN BW hm) AB AB AB AB AB AB ?_;have hle:out.length<256:=by omega
 refine⟨(l.set q (v-m),out++[(q,m)],n+1+1+1+1+1+1+1+1+1+1+1+1+1+1+1+1+1+1+1+1+1,n+1000),⟨by rw[Dj];exact hl1,?_,by rw[Be];exact hle,?_⟩,?_,?_⟩
 ·exact hI'
 ·dsimp only
  rw[hRs,Be];rw[show 257-(out.length+[(q,m)].length)=256-out.length by simp only[Br,IH];omega]
 ·dsimp only
  rw[Be];simp only[Br,IH];omega
 ·dsimp only
  rw[Be,DN,hOD,Co (show OD.length<=out.length by omega)];rw[show Ca (l.set q (v-m))=L.set q (i64 (v-m))from by rw[<-hL];unfold Ca;rw[List.map_set]];exact AL
abbrev PR:Dr:=[(8,[0,1,2,3,4,5,6,7,8],[9,10,11]),(9,[0,1,2,3,4,5,6,7],[8,9,10,11])]
open Go.Proofs Go.RowKit
set_option maxRecDepth 20000
set_option maxHeartbeats 4000000
def C7 (out:List AE)(x:AE):List AE:=match out.getLast? with
 |some y=>if GY y x then out.dropLast++[y.w (y.mass+x.mass)]else out++[x]
 |none=>[x]
def A9 (l:List AE):List AE:=l.foldl C7 []
theorem oL {R:List AE}{y x:AE}(h:R[R.length-1]?=some y):C7 R x=if GY y x then R.dropLast++[y.w (y.mass+x.mass)]else R++[x]:=by
 unfold C7;rw[List.getLast?_eq_getElem?,h]
theorem qt {R:List AE}{y z:AE}(h:R[R.length-1]?=some y):R.set (R.length-1) z=R.dropLast++[z]:=by
 have hl:=(BT.1 h).1;rw[List.set_eq_take_append_cons_drop,AH hl,List.dropLast_eq_take];rw[show R.length-1+1=R.length by omega,Jx]
def OS (i:Nat)(R:List AE):Prop:=R.length<=i/\∀y∈R,0<=y.mass/\y.mass<=(i:Int)*1000000000/\y.shs.length<=1000000
theorem ZO {i:Nat}{R:List AE}{x:AE}(hJ:OS i R)(hm:0<=x.mass/\x.mass<=1000000000/\x.shs.length<=1000000):OS (i+1) (C7 R x):=by
 obtain⟨h2,h3⟩:=hJ;refine⟨?_,?_⟩
 ·unfold C7
  split
  ·split
   ·rw[Be,List.length_dropLast];simp;omega
   ·rw[Be];simp;omega
  ·simp
 ·have hR:∀y∈R,0<=y.mass/\y.mass<=((i+1:Nat):Int)*1000000000/\y.shs.length<=1000000:=λy hy=>by
   obtain⟨a,b,c⟩:=h3 y hy;exact⟨a,by omega,c⟩
  have hxx:0<=x.mass/\x.mass<=((i+1:Nat):Int)*1000000000/\x.shs.length<=1000000:=⟨by omega,by omega,hm.2.2⟩
  intro z hz;unfold C7 at hz;split at hz
  ·rename_i y hy
   have hyR:=List.mem_of_getLast? hy;split at hz
   ·rcases Bl.1 hz with hz|hz
    ·exact hR z ((List.dropLast_sublist R).subset hz)
    ·obtain rfl:=D4.1 hz
     obtain⟨a,b,c⟩:=h3 y hyR;refine⟨?_,?_,c⟩
     ·show 0<=y.mass+x.mass;omega
     ·show y.mass+x.mass<=_;omega
   ·rcases Bl.1 hz with hz|hz
    ·exact hR z hz
    ·obtain rfl:=D4.1 hz;exact hxx
  ·obtain rfl:=D4.1 hz;exact hxx
def Dk (l:List AE):List AE:=l.filter λx=>x.mass != 0
theorem tO {l:List AE}{i:Nat}{x:AE}(h:l[i]?=some x)(hx:x.mass≠0):Dk (l.take (i+1))=Dk (l.take i)++[x]:=by
 unfold Dk;rw[D8,h,List.filter_append]
 have:(x.mass != 0)=true:=by unfold bne;rw[B5.2 hx];rfl
 rw[show(some x).toList=[x]from rfl,List.filter_cons,AH this];rfl
theorem tN {l:List AE}{i:Nat}{x:AE}(h:l[i]?=some x)(hx:x.mass=0):Dk (l.take (i+1))=Dk (l.take i):=by
 unfold Dk;rw[D8,h,List.filter_append]
 have:¬(x.mass != 0)=true:=by rw[hx];decide
 rw[show(some x).toList=[x]from rfl,List.filter_cons,AG this];simp
theorem xw {l:List AE}(h:∀x∈l,1<=x.mass):Dk l=l:=List.filter_eq_self.2 λx hx=>by
 have:=h x hx
 unfold bne;rw[B5.2 (by omega)];rfl
theorem Uv (b:Bool)(l:List AE)(hl:l.length<=1000000)(hx:∀x∈l,0<=x.mass/\x.mass<=1000000000/\x.shs.length<=1000000):AK C0 35 [Aj b l] (Aj false (A9 (Dk l))):=by
 refine Af.walk w1 iO rfl λF=>?_
 have el:(((l.map AE.D).length:Nat):Int)=(l.length:Int):=by rw[Ai]
 refine sR 0 ?_;refine sR 100 ?_;refine AC.seq ?_;refine sZ 200 ?_;refine AV el ?_;refine AC.ghost 606 51 3 [(3,.osl 606 _ 3 0 0),(7,Aj b l),(8,i64 (l.length:Int)),(9,i64 ((0:Nat):Int))] ⟨.inr ⟨rfl,rfl⟩,.inl rfl,.inl rfl,.inl rfl,trivial⟩ ?_;refine AC.block ?_;refine AC.loop (α:=Nat×List AE×Nat×Nat) (λp=>⟨[(3,.osl 606 p.2.2.1 3 0 p.2.1.length),(7,Aj b l),(8,i64 (l.length:Int)),(9,i64 (p.1:Int))],[⟨606,p.2.2.1,51,3,p.2.1.map AE.D⟩],p.2.2.2⟩) (λp=>l.length-p.1) (λq=>q.1<=l.length/\q.2.1=(Dk (l.take q.1)).foldl C7 []/\OS q.1 q.2.1) (0,[],_,_) ⟨BX _,rfl,An _,λy h=>by cases h⟩ AL ?_;rintro⟨i,R,g,n⟩ F ⟨hi,hJ⟩;dsimp only at hi hJ⊢;rcases BG i l.length with h2|h2
 rotate_left
 ·have k1:=Cf h2
  have:i=l.length:=by omega
  subst this;have hR:=hJ.1;rw[DJ]at hR;have hf:=HQ (H:=[⟨606,g,51,3,R.map AE.D⟩]) (Hf:=[]) (k:=606) (g:=g) (T:=51) (sz:=3) (l:=R.map AE.D) rfl;rw[Ai]at hf;refine AI PR k1 AB AB AB AB AB AB ?_;exact⟨_,hf,AA.out,by rw[hR];rfl⟩
 have k1:=Cd h2;have wi:=Cj (i:=i) (by omega);obtain⟨x,hx'⟩:=CQ h2;have hxm:=hx x (Av hx');have hm:(l.map AE.D)[i]?=some (.agg [str (sb x.grain),i64 x.mass,.sl false 2 (x.shs.map Au.D)]):=by rw[BC,hx'];rfl
 have cO:=Pk x x.mass hxm.2.2
 by_cases hz:x.mass=0
 ·have g0:(x.mass==0)=true:=by rw[hz];rfl
  refine AI PR (ER k1 g0 wi kN kT kF) hm AB AB AB AB AB ?_;exact⟨(i+1,R,g,n+1000),⟨h2,by dsimp only;rw[tN hx' hz];exact hJ.1,by dsimp only;have:=hJ.2.1;omega,λy hy=>by
   obtain⟨a,b,c⟩:=hJ.2.2 y hy;refine⟨a,?_,c⟩;dsimp only;omega⟩,by dsimp only;omega,AL⟩
 have hJ':C7 R x=(Dk (l.take (i+1))).foldl C7 []/\OS (i+1) (C7 R x):=⟨by rw[tO hx' hz,List.foldl_append,<-hJ.1];rfl,ZO hJ.2 hxm⟩
 have g0:(x.mass==0)=false:=B5.2 hz;have hRl:(R.map AE.D).length=R.length:=Ai ..;have hRb:=hJ.2.1;rcases EL R.length with hR0|hR0
 ·have hRn:R=[]:=FT hR0
  subst hRn;have g1:decide (((0:Nat):Int)>0)=false:=rfl;unfold AE.D at cO;unfold C9 at cO;obtain⟨S,hS⟩:∃S,x.shs.map Au.D=S:=⟨_,rfl⟩
  have pS:AA (.sl false 2 S):=by rw[<-hS];exact AJ
  rw[hS]at cO hm;rw[IH,List.map_nil];refine AI PR (CY k1 g0 g1 wi kN kT kF) hm cO AB AB AB AB ?_;refine⟨(i+1,[x],n+1+1+1+1+1+1+1+1+1+1+1+1+12+1+1+1+1+1+1+1+1+1,n+1000),⟨h2,hJ'⟩,by dsimp only;omega,?_⟩;dsimp only;rw[show[x].map AE.D=[.agg [str (sb x.grain),i64 x.mass,.sl false 2 S]]from by rw[<-hS];rfl];exact AL
 have g1:decide ((R.length:Int)>0)=true:=Ba;obtain⟨y,hy⟩:=CQ (show R.length-1<R.length by omega);have hym:=hJ.2.2 y (Av hy);have w2:IntKind.i64.wrap ((R.length:Int)-1)=((R.length-1:Nat):Int):=by rw[wI];omega
 have w3:IntKind.i64.wrap (y.mass+x.mass)=y.mass+x.mass:=wI;have hm2:(R.map AE.D)[R.length-1]?=some (.agg [str (sb y.grain),i64 y.mass,.sl false 2 (y.shs.map Au.D)]):=by rw[BC,hy];rfl
 have cK:=sx y x hym.2.2 hxm.2.2;have hN:=oL (x:=x) hy;have hset:=qt (z:=y.w (y.mass+x.mass)) hy;unfold AE.D C9 at cO cK;obtain⟨S,hS⟩:∃S,x.shs.map Au.D=S:=⟨_,rfl⟩
 have pS:AA (.sl false 2 S):=by rw[<-hS];exact AJ
 obtain⟨SY,hSY⟩:∃S,y.shs.map Au.D=S:=⟨_,rfl⟩
 have pSY:AA (.sl false 2 SY):=by rw[<-hSY];exact AJ
 rw[hS]at cO hm cK;rw[hSY]at cK hm2;obtain⟨RD,hRD⟩:∃T,R.map AE.D=T:=⟨_,rfl⟩
 rw[hRD]at hm2 hRl⊢;have hr:0<=((R.length-1:Nat):Int)/\((R.length-1:Nat):Int)<(R.length:Int):=by omega
 obtain⟨q,hq⟩:∃q,GY y x=q:=⟨_,rfl⟩
 rw[hq]at cK hN;cases q
 ·rw[hN,AG Bool.false_ne_true]at hJ'
  refine AI PR (CY k1 g0 g1 w2 wi kN (Bd BW hm2 kT kF)) hm cO cK AB AB AB ?_;refine⟨(i+1,R++[x],n+1+1+1+1+1+1+1+1+1+1+1+1+12+1+1+1+1+1+1+1+1+1,n+1000),⟨h2,hJ'⟩,by dsimp only;omega,?_⟩;dsimp only;rw[Be,DN,hRD,Co (show RD.length<=R.length by omega)];rw[show[x].map AE.D=[.agg [str (sb x.grain),i64 x.mass,.sl false 2 S]]from by rw[<-hS];rfl];exact AL
 ·rw[hN,AH rfl]at hJ'
  refine AI PR (CY k1 g0 g1 w2 w3 wi (CT kN BW hm2 kT kF)) hm cO cK AB AB AB ?_;refine⟨(i+1,R.dropLast++[y.w (y.mass+x.mass)],g,n+1000),⟨h2,hJ'⟩,by dsimp only;omega,?_⟩;dsimp only;rw[<-hset,Dj,List.map_set,hRD];rw[show(y.w (y.mass+x.mass)).D=.agg [str (sb y.grain),i64 (y.mass+x.mass),.sl false 2 SY]from by rw[<-hSY];rfl];exact AL
theorem UG (b:Bool)(l:List AE)(hl:l.length<=1000000)(hx:∀x∈l,1<=x.mass/\x.mass<=1000000000/\x.shs.length<=1000000):AK C0 35 [Aj b l] (Aj false (A9 l)):=by
 have h:=Uv b l hl λx h=>⟨by have:=(hx x h).1;omega,(hx x h).2⟩
 rw[xw λx h=>(hx x h).1]at h;exact h
abbrev Hq:Dr:=[(11,[0,1,2,3,4,5,6,7,8,9,10,11,12,13],[14,15])]
open Go.Proofs Go.RowKit
set_option maxRecDepth 20000
set_option maxHeartbeats 4000000
theorem bq {l:List Au}:∀i,i<=l.length->(∀j,j<i->Ck (D5 l j).part=0)->rk (Fh l i) (601*i+1)
 | 0,_,_=>(ck 1 (An _)).rk
 |i+1,hi,h=>(gl (bq i (by omega) λj hj=>h j (by omega)) (Nk (h i (by omega)))).mono (by omega)
theorem sn {l:List Au}{i:Nat}(h:Fy l i=0):Ck (D5 l i).part=0:=by
 unfold Fy at h;split at h
 ·cases h
 split at h
 ·cases h
 split at h
 ·exact h
 ·rename_i h1;exact Decidable.not_not.1 h1
theorem e1a (b:Bool)(l:List Au)(hl:l.length<=15\/64<l.length)(hl2:l.length<=9223372036854775807)(hf:∀s∈l,s.few):AK C0 190 [C9 b l] (i64 (G1 l:Nat)):=by
 refine Af.walk w1 vJ rfl λF=>?_
 have el:(((l.map Au.D).length:Nat):Int)=(l.length:Int):=by rw[Ai]
 have hC:G1 l=if l.length=0 then 2 else if 64<l.length then 5 else if EJ (Fy l) l.length≠0 then EJ (Fy l) l.length else if Fh l l.length=1 then 0 else 12:=rfl
 rcases Nat.decEq l.length 0 with h0|h0
 rotate_left
 ·rw[AH h0]at hC
  rw[hC];have q1:((l.length:Int)==0)=true:=by rw[h0];rfl
  refine AI Hq (Ad el q1) AB AB AB AB AB AB ?_;exact AM rfl AA.out
 rw[AG h0]at hC;have q1:((l.length:Int)==0)=false:=B5.2 (by omega)
 by_cases h64:64<l.length
 ·rw[AH h64]at hC
  rw[hC];have q2:decide ((l.length:Int)>64)=true:=Ba;refine AI Hq (Ar el q1 q2) AB AB AB AB AB AB ?_;exact AM rfl AA.out
 rw[AG h64]at hC;have q2:decide ((l.length:Int)>64)=false:=Bg;have h15:l.length<=15:=by omega
 refine AI Hq (Ar el q1 q2) AB AB AB AB AB AB ?_;refine AC.loop (α:=Nat×Nat) (λp=>⟨[(0,C9 b l),(3,rR (Fh l p.1)),(4,i64 (p.1:Int))],[],p.2⟩) (λp=>l.length-p.1) (λp=>p.1<=l.length/\∀j,j<p.1->Fy l j=0) (0,_)
  ⟨BX _,λj h=>Ak h (Hg j)⟩ (by(dsimp only;rw[show rR (Fh l 0)=str ⟨#[48]⟩from sX];exact AL)) ?_
 rintro⟨i,m⟩ F ⟨hi,hz⟩;dsimp only at hi hz⊢;have hSk:=bq (l:=l) i hi λj hj=>sn (hz j hj)
 rcases BG i l.length with h2|h2
 rotate_left
 ·have e1:=Cf h2
  have:i=l.length:=by omega
  subst this;rw[AG (λh=>h (MN hz))]at hC;have e2:=mS (Fh l l.length);obtain⟨q,hq⟩:∃q,decide (Fh l l.length=1)=q:=⟨_,rfl⟩
  rw[hq]at e2;unfold rR;cases q
  ·rw[AG (Dt hq)]at hC
   rw[hC];refine AI Hq (Ar e1 el e2) AB AB AB AB AB AB ?_;exact AM rfl AA.out
  ·rw[AH (DP hq)]at hC
   rw[hC];refine AI Hq (Ar e1 el e2) AB AB AB AB AB AB ?_;exact AM rfl AA.out
 have e1:=Cd h2;have wi:=Cj (i:=i) (by omega);obtain⟨s,hs⟩:=CQ h2;have hm:(l.map Au.D)[i]?=some (.agg [str (sb s.lot),str (sb s.part)]):=by rw[BC,hs];rfl
 obtain⟨f1,f2⟩:=hf s (Av hs);have hE:Fy l i=if EB s.lot=false then 8 else if 0<i/\Ld s.lot (D5 l (i-1)).lot=true then 11 else if Ck s.part≠0 then Ck s.part else if HC (Bv s.part)<=0 then 12 else 0:=by unfold Fy;rw[KT hs]
 have hbad:∀e:Nat,e≠0->Fy l i=e->G1 l=e:=λe he h=>by
  have:=PX hz h2 (by rw[h];exact he)
  rw[hC,this,h,AH he]
 have cN:=jc s.lot (by omega);obtain⟨N,hN⟩:∃q,EB s.lot=q:=⟨_,rfl⟩
 rw[hN]at cN hE;cases N
 ·rw[AH rfl]at hE
  rw[hbad 8 (by decide) hE];refine AI Hq (Ar e1 el kN) hm cN AB AB AB AB ?_;exact AM rfl AA.out
 rw[AG (by decide)]at hE;have cC:=gh s.part f2;rcases i with _|q
 ·have g0:decide (((0:Nat):Int)>0)=false:=rfl
  rw[AG (λh=>Ak h.1 (Nat.lt_irrefl 0))]at hE;rcases Nat.decEq (Ck s.part) 0 with hc0|hc0
  ·rw[AH hc0]at hE
   have e3:=G9 hc0;rw[hbad (Ck s.part) hc0 hE];refine AI Hq (CT e1 el g0 kN e3) hm cN cC AB AB AB ?_;exact AM rfl AA.out
  rw[AG (λh=>h hc0)]at hE;have e3:=HA hc0;have cG:=gB (Bv s.part) (ad hc0);have cA:=XE (Fh l 0) (Bv s.part) (601*0+1) 600 hSk (Nk hc0) (by omega);rw[V9 hc0]at cG cA;have hnext:Fh l (0+1)=Fh l 0+Bv s.part:=by show _+Bv (D5 l 0).part=_;rw[KT hs]
  rw[<-hnext]at cA;obtain⟨sg,hsg⟩:∃q,HC (Bv s.part)=q:=⟨_,rfl⟩
  rw[hsg]at cG hE
  by_cases hs0:sg<=0
  ·rw[AH hs0]at hE
   have e4:decide (sg<=0)=true:=Ax hs0;rw[hbad 12 (by decide) hE];refine AI Hq (ER e1 el g0 kN e3 e4) hm cN cC cG AB AB ?_;exact AM rfl AA.out
  rw[AG hs0]at hE;have e4:decide (sg<=0)=false:=Ay hs0;refine AI Hq (CY e1 el g0 kN e3 e4 wi) hm cN cC cG cA AB ?_;exact⟨(0+1,_),⟨h2,λj hj=>by
   rcases Kq.1 hj with q|q
   ·exact hz j q
   ·rw[q];exact hE⟩,by dsimp only;omega,AL⟩
 ·have g0:decide (((q+1:Nat):Int)>0)=true:=Ba
  have g1:IntKind.i64.wrap (((q+1:Nat):Int)-1)=(q:Int):=by rw[wI];omega
  obtain⟨s0,hs0'⟩:=CQ (l:=l) (i:=q) (by omega);have hm0:(l.map Au.D)[q]?=some (.agg [str (sb s0.lot),str (sb s0.part)]):=by rw[BC,hs0'];rfl
  rw[JP,KT hs0']at hE;obtain⟨bL,hbL⟩:∃q,Ld s.lot s0.lot=q:=⟨_,rfl⟩
  have g2:(Ka (sb s.lot) (sb s0.lot)||BE (sb s.lot) (sb s0.lot))=bL:=hbL;rw[hbL]at hE;cases bL
  rotate_left
  ·rw[AH ⟨Nat.succ_pos q,rfl⟩]at hE
   rw[hbad 11 (by decide) hE];refine AI Hq (ER e1 el g0 g1 g2 kN) hm hm0 cN AB AB AB ?_;exact AM rfl AA.out
  rw[AG (λh=>Ak h.2 (by decide))]at hE;rcases Nat.decEq (Ck s.part) 0 with hc0|hc0
  ·rw[AH hc0]at hE
   have e3:=G9 hc0;rw[hbad (Ck s.part) hc0 hE];refine AI Hq (CY e1 el g0 g1 g2 kN e3) hm hm0 cN cC AB AB ?_;exact AM rfl AA.out
  rw[AG (λh=>h hc0)]at hE;have e3:=HA hc0;have cG:=gB (Bv s.part) (ad hc0);have cA:=XE (Fh l (q+1)) (Bv s.part) (601*(q+1)+1) 600 hSk (Nk hc0) (by omega);rw[V9 hc0]at cG cA;have hnext:Fh l ((q+1)+1)=Fh l (q+1)+Bv s.part:=by show _+Bv (D5 l (q+1)).part=_;rw[KT hs]
  rw[<-hnext]at cA;obtain⟨sg,hsg⟩:∃q,HC (Bv s.part)=q:=⟨_,rfl⟩
  rw[hsg]at cG hE
  by_cases hs0:sg<=0
  ·rw[AH hs0]at hE
   have e4:decide (sg<=0)=true:=Ax hs0;rw[hbad 12 (by decide) hE];refine AI Hq (CY e1 el g0 g1 g2 kN (Ad e3 e4)) hm hm0 cN cC cG AB ?_;exact AM rfl AA.out
  rw[AG hs0]at hE;have e4:decide (sg<=0)=false:=Ay hs0;refine AI Hq (CY e1 el g0 g1 g2 kN (Ar e3 e4 wi)) hm hm0 cN cC cG cA ?_;exact⟨((q+1)+1,_),⟨h2,λj hj=>by
   rcases Kq.1 hj with q|q
   ·exact hz j q
   ·rw[q];exact hE⟩,by dsimp only;omega,AL⟩
theorem e0Q (x:AE)(hs:x.shs.length<=15\/64<x.shs.length)(hf:x.few):AK C0 129 [x.D] (i64 (Cn x:Nat)):=by
 refine Af.walk w1 vY rfl λF=>?_
 obtain⟨f1,f2,f3⟩:=hf;have cN:=jc x.grain (by omega);have cS:=e1a false x.shs hs f2 f3;have hC:Cn x=if EB x.grain=false then 8 else if x.mass<1\/x.mass>999999999 then 3 else G1 x.shs:=rfl
 obtain⟨N,hN⟩:∃q,EB x.grain=q:=⟨_,rfl⟩
 obtain⟨SD,hSD⟩:∃d,C9 false x.shs=d:=⟨_,rfl⟩
 have pS:AA SD:=by rw[<-hSD];exact AJ
 have hna:KO SD=true:=by rw[<-hSD];rfl
 unfold AE.D;rw[hN]at cN hC;rw[hSD]at cS⊢;cases N
 ·rw[AH rfl]at hC
  rw[hC];refine AI AZ kB cN AB AB AB AB AB ?_;exact AM rfl AA.out
 rw[AG (by decide)]at hC
 by_cases h1:x.mass<1
 ·rw[AH (.inl h1)]at hC
  rw[hC];have e1:decide (x.mass<1)=true:=Ax h1;refine AI AZ e1 cN AB AB AB AB AB ?_;exact AM rfl AA.out
 have e1:decide (x.mass<1)=false:=Ay h1
 by_cases h2:x.mass>999999999
 ·rw[AH (.inr h2)]at hC
  rw[hC];have e2:decide (x.mass>999999999)=true:=Ax h2;refine AI AZ (Ad e1 e2) cN AB AB AB AB AB ?_;exact AM rfl AA.out
 have e2:decide (x.mass>999999999)=false:=Ay h2;rw[CI]at hC;rw[hC];refine AI AZ (Ar e1 e2 hna) cN cS AB AB AB AB ?_;exact AM rfl AA.out
abbrev LM:Dr:=[(8,[0,1,2,3,4,5,6,7,8,9,10,11,12],[13,14])]
open Go.Proofs Go.RowKit Go.Sort
set_option maxRecDepth 20000
set_option maxHeartbeats 4000000
theorem V3 {H Hf:Hp}{K g T sz n:Nat}{l:List D}(h:Hp.get H K=some ⟨K,g,T,sz,l⟩)(hf:Hp.get Hf K=none)(hn:n=l.length):Fz H Hf (.osl K g sz 0 n) (.sl false sz l):=by
 subst hn;refine .osl (e:=⟨K,g,T,sz,l⟩) h hf rfl rfl (by simp) (by simp) (λj d d' h1 h2=>?_) λj d d' q c c' h1 h2 h3 h4=>?_
 ·rw[BW]at h1;rw[h1]at h2;cases h2;rfl
 ·rw[BW]at h1;rw[h1]at h2;cases h2;rw[h3]at h4;cases h4;exact Fz.refl _
def Gb (lot:List UInt8)(l:BR):Nat:=(l.takeWhile λp=>ltStr p.1 lot).length
theorem qj (lot:List UInt8)(l:BR):Gb lot l<=l.length:=by
 unfold Gb
 have:=(List.takeWhile_sublist (l:=l) λp=>ltStr p.1 lot).length_le
 exact this
theorem Qw (lot:List UInt8)(p:List UInt8×Rat)(l:BR):Gb lot (p::l)=if ltStr p.1 lot then Gb lot l+1 else 0:=by
 unfold Gb;rw[OW];split<;>simp
theorem Us {lot:List UInt8}:∀ {l:BR} {i:Nat},(∀j p,j<i->l[j]?=some p->ltStr p.1 lot=true)->i<=l.length->(∀p,l[i]?=some p->ltStr p.1 lot=false)->Gb lot l=i
 | [],i,_,h2,_=>by simp at h2;subst h2;rfl
 |q::l,0,_,_,h3=>by
  rw[Qw,AG (by rw[h3 q rfl];decide)]
 |q::l,i+1,h1,h2,h3=>by
  rw[Qw,AH (h1 0 q (by omega) rfl)];rw[Us (i:=i) (λj p hj hp=>h1 (j+1) p (by omega) (by simpa using hp)) (by simpa using h2) λp hp=>h3 p (by simpa using hp)]
def DZ (lot:List UInt8)(r:Rat):BR->BR
 | []=>[(lot,r)]
 |p::l=>if ltStr p.1 lot then p::DZ lot r l else if p.1=lot then(p.1,p.2+r)::l else(lot,r)::p::l
theorem ay {lot:List UInt8}{r:Rat}:∀ {l:BR} {p:List UInt8×Rat},l[Gb lot l]?=some p->p.1=lot->DZ lot r l=l.set (Gb lot l) (p.1,p.2+r)
 | [],p,h,_=>by simp[Gb]at h
 |q::l,p,h,e=>by
  unfold DZ;rw[Qw]at h⊢;split at h
  ·rename_i h2
   rw[AH h2,AH h2,List.set_cons_succ,ay (by simpa using h) e]
  ·rename_i h2
   rw[AG h2,AG h2];simp at h;subst h;rw[AH e];rfl
theorem az {lot:List UInt8}{r:Rat}:∀ {l:BR},(∀p,l[Gb lot l]?=some p->p.1≠lot)->DZ lot r l=l.take (Gb lot l)++(lot,r)::l.drop (Gb lot l)
 | [],_=>rfl
 |q::l,h=>by
  unfold DZ;rw[Qw]at h⊢;split at h
  ·rename_i h2
   rw[AH h2,AH h2,az (λp hp=>h p (by simpa using hp))];rfl
  ·rename_i h2
   rw[AG h2,AG h2,AG (h q rfl)];rfl
theorem aY (a b:List UInt8):Ka (sb a) (sb b)=ltStr a b:=by
 unfold Ka ltStr;rw[bytesLess_eq,Y3,Y3]
def W4 (E0 E4:At)(i:Nat):Option At:=match i with
 | 4=>some E0
 | 9=>some E4
 |_=>none
def QQ (i:Nat):Option Nat:=match i with
 | 0=>some 4
 | 4=>some 9
 |_=>none
theorem rC {ops:Array Oper}{d0 d1 d2 d3 d4 d5 d6 d7 d8 d9 d10 d11 d12:D}{E0 E4 E9:At}(h1:EC ops 4 0)(h2:EC ops 9 4):
  Ns ops (M6 ops [(0,d0,some E0),(1,d1,none),(2,d2,none),(3,d3,none),(4,d4,some E4),(5,d5,none),(6,d6,none),(7,d7,none),(8,d8,none),(9,d9,some E9),(10,d10,none),(11,d11,none),(12,d12,none)]) (W4 E0 E4) QQ:=by
 constructor
 ·intro r hr e he
  simp only[M6,Ci,List.map_nil,A8,Dw,or_false]at hr;rcases hr with rfl|rfl|rfl|rfl|rfl|rfl|rfl|rfl|rfl|rfl|rfl|rfl|rfl<;>dsimp only[W4]at he<;>first
   |(cases he;done)
   |(cases he;exact⟨⟨0,ops.getD 0 default,d0,some _⟩,by simp[M6],rfl,rfl⟩)
   |(cases he;exact⟨⟨4,ops.getD 4 default,d4,some _⟩,by simp[M6],rfl,rfl⟩)
 ·intro r hr j hj
  simp only[M6,Ci,List.map_nil,A8,Dw,or_false]at hr;rcases hr with rfl|rfl|rfl|rfl|rfl|rfl|rfl|rfl|rfl|rfl|rfl|rfl|rfl<;>dsimp only[QQ]at hj<;>first
   |(cases hj;done)
   |(cases hj;exact⟨by simp[M6],rfl,by assumption⟩)
 ·intro r hr r' hr' j hj hj'
  have key:∀i k:Nat,QQ i=some k->(i=0/\k=4)\/(i=4/\k=9):=λi k h=>by
   unfold QQ at h;split at h<;>first|(cases h;simp;done)|cases h
  rcases key _ _ hj with⟨a,b⟩|⟨a,b⟩<;>rcases key _ _ hj' with⟨c,d⟩|⟨c,d⟩<;>omega
theorem e0Z (l:BR)(lot:List UInt8)(r:Rat)(k:Nat)(hl:l.length<=10000)(hk:∀p∈l,rk p.2 k)(hr:rk r k)(hk2:k+k<=10000):AK C0 45 [.sl false 2 (l.map Bo),str (sb lot),rR r] (.sl false 2 ((DZ lot r l).map Bo)):=by
 refine Af.walk w1 d8i rfl λF=>?_
 have el:(((l.map Bo).length:Nat):Int)=(l.length:Int):=by rw[Ai]
 obtain⟨T,hT⟩:∃T,l.map Bo=T:=⟨_,rfl⟩
 have pT:AA (.sl false 2 T):=by rw[<-hT];exact AJ
 have hTl:T.length=l.length:=by rw[<-hT,Ai]
 have hTat:∀(i:Nat) (p:List UInt8×Rat),l[i]?=some p->T[i]?=some (D.agg [str (sb p.1),str (sb (A0 p.2))]):=λi p h=>by rw[<-hT,BC,h];rfl
 rw[hT]at el⊢;unfold rR;refine sZ 0 ?_;refine AF kB ?_;refine sZ 100 ?_;refine AF kB ?_;refine TM (λn=>⟨[(0,.sl false 2 T),(1,str (sb lot)),(2,str (sb (A0 r))),(7,i64 (Gb lot l:Nat))],[],n⟩) ?_ λn=>?_
 ·refine AC.block ?_
  refine Gh (α:=Nat×Nat) (λp=>⟨[(0,.sl false 2 T),(1,str (sb lot)),(2,str (sb (A0 r))),(7,i64 (p.1:Nat))],[],p.2⟩) (λp=>l.length-p.1) (λp F1=>F1=F/\p.1<=l.length/\∀j q,j<p.1->l[j]?=some q->ltStr q.1 lot=true) (0,_) ⟨rfl,BX _,λj q h=>Ak h (Hg j)⟩ AL ?_;rintro⟨i,m⟩ F1 ⟨rfl,hi,ha⟩;dsimp only at hi ha⊢;rcases BG i l.length with h2|h2
  rotate_left
  ·have e1:=Cf h2
   have:i=l.length:=by omega
   subst this;have hat:Gb lot l=l.length:=Us ha (An _) λp hp=>by simp at hp
   rw[hat];refine AI LM (Ad e1 el) AB AB AB AB AB AB ?_;exact⟨trivial,_,AL⟩
  have e1:=Cd h2;have wi:=Cj (i:=i) (by omega);obtain⟨q,hq⟩:=CQ h2;have hm:=hTat i q hq;have eS:=aY q.1 lot;obtain⟨bS,hbS⟩:∃b,ltStr q.1 lot=b:=⟨_,rfl⟩
  rw[hbS]at eS;cases bS
  ·have hat:Gb lot l=i:=Us ha (Ju h2) λp hp=>by
    rw[hq]at hp;cases hp;exact hbS
   rw[hat];refine AI LM (Bd e1 el eS kN) hm AB AB AB AB AB ?_;exact⟨trivial,_,AL⟩
  ·refine AI LM (CT e1 el eS wi kN) hm AB AB AB AB AB ?_
   exact⟨(i+1,_),⟨trivial,h2,λj z hj hz=>by
    rcases Kq.1 hj with g|g
    ·exact ha j z g hz
    ·rw[g,hq]at hz;cases hz;exact hbS⟩,by dsimp only;omega,AL⟩
 obtain⟨A,hA⟩:∃A,Gb lot l=A:=⟨_,rfl⟩
 have hAl:=qj lot l;rw[hA]at hAl⊢
 by_cases hq:∃q,l[A]?=some q/\q.1=lot
 ·obtain⟨q,hq,hql⟩:=hq
  have hAlt:A<l.length:=(BT.1 hq).1;have e1:=Cd hAlt;have hm:=hTat A q hq;have eE:BE (sb q.1) (sb lot)=true:=by rw[FC];exact Ax hql
  have cA:AK C0 86 [str (sb (A0 q.2)),str (sb (A0 r))] (str (sb (A0 (q.2+r)))):=XE q.2 r k k (hk q (Av hq)) hr hk2;have hres:(DZ lot r l).map Bo=T.set A (.agg [str (sb q.1),str (sb (A0 (q.2+r)))]):=by
   rw[ay (by rw[hA];exact hq) hql,hA,List.map_set,hT];rfl
  rw[hres];refine AC.seq ?_;refine AC.seq ?_;refine AI LM (Bd e1 el eE kN) hm AB AB AB AB AB ?_;rw[show List.take 0 []++T=T from rfl,BW,BW];refine AF hm ?_;refine cI cA ?_;refine AF (Ar kN BW hm) ?_;have pR:CJ (.sl false 2 ((DZ lot r l).map Bo)):=AA.out;rw[hres]at pR;obtain⟨T2,hT2⟩:∃T2,T.set A (.agg [str (sb q.1),str (sb (A0 (q.2+r)))])=T2:=⟨_,rfl⟩
  have hT2l:T.length=T2.length:=by rw[<-hT2,Dj]
  rw[hT2]at pR;rw[hT2,hT2l];refine AI LM kB AB AB AB AB AB AB ?_;exact⟨_,V3 rfl rfl rfl,pR,rfl⟩
 refine TM (λn=>⟨[(0,.sl false 2 T),(1,str (sb lot)),(2,str (sb (A0 r))),(7,i64 (A:Nat))],[],n⟩) ?_ λn2=>?_
 ·rcases BG A l.length with h2|h2
  ·have e1:=Cd h2
   obtain⟨q,hq2⟩:=CQ h2;have hm:=hTat A q hq2;have eE:BE (sb q.1) (sb lot)=false:=by
    rw[FC];exact Ay λh=>hq ⟨q,hq2,h⟩
   refine AI LM (Bd e1 el eE kN) hm AB AB AB AB AB ?_;exact⟨trivial,_,AL⟩
  ·have e1:=Cf h2
   refine AI LM (Ad e1 el) AB AB AB AB AB AB ?_;exact⟨trivial,_,AL⟩
 have hres:(DZ lot r l).map Bo=T.take A++[.agg [str (sb lot),str (sb (A0 r))]]++T.drop A:=by
  rw[az (λp hp h=>hq ⟨p,by rw[<-hA];exact hp,h⟩),hA,<-hT];simp[Bo]
 have pR:CJ (.sl false 2 ((DZ lot r l).map Bo)):=AA.out;rw[hres]at pR⊢;have hAT:A<=T.length:=by omega
 refine AC.seq ?_;have hA0:(0:Int)<=(A:Nat):=by omega
 have hA1:((A:Nat):Int)<=(T.length:Nat):=by omega
 have hTAl:((T.drop 0).take (((A:Nat):Int).toNat-0)).length<=10000:=by
  rw[Bc]
  have:=Dv (i:=0) (l:=T)
  omega
 refine e1Z w1 800 [0,1,2,3,4,5,6,7,8,9,10,11,12] [13,14] (use:=QQ) (con:=W4 ⟨800,n2+0,66,2,[]⟩ ⟨804,n2+4,66,2,[].take 0++((T.drop 0).take (((A:Nat):Int).toNat-0))⟩)
  (rs:=M6 _ [(0,.osl 800 (n2+0) 2 0 0,some ⟨800,n2+0,66,2,[]⟩),(1,.sl false 2 T,none),(2,i64 (A:Nat),none),(3,.sl false 2 ((T.drop 0).take (((A:Nat):Int).toNat-0)),none),(4,.osl 804 (n2+4) 2 0 (0+((T.drop 0).take (((A:Nat):Int).toNat-0)).length),some ⟨804,n2+4,66,2,[].take 0++((T.drop 0).take (((A:Nat):Int).toNat-0))⟩),(5,str (sb lot),none),(6,str (sb (A0 r)),none),(7,(.agg [str (sb lot),str (sb (A0 r))]),none),(8,.sl true 2 [(.agg [str (sb lot),str (sb (A0 r))])],none),
   (9,.osl 809 (n2+9) 2 0 (0+((T.drop 0).take (((A:Nat):Int).toNat-0)).length+1),some ⟨809,n2+9,66,2,([].take 0++((T.drop 0).take (((A:Nat):Int).toNat-0))).take (0+((T.drop 0).take (((A:Nat):Int).toNat-0)).length)++[(.agg [str (sb lot),str (sb (A0 r))])]⟩),(10,.sl false 2 T,none),(11,i64 (A:Nat),none),(12,.sl false 2 ((T.drop ((A:Nat):Int).toNat).take (T.length-((A:Nat):Int).toNat)),none)])
  (N:=[⟨809,n2+9,66,2,([].take 0++((T.drop 0).take (((A:Nat):Int).toNat-0))).take (0+((T.drop 0).take (((A:Nat):Int).toNat-0)).length)++[(.agg [str (sb lot),str (sb (A0 r))])]⟩])
  (by kernel_rfl) rfl (rC (aR (l:=[0,1,2,3,4,5,6,7,8,9,10,11,12]) (by kernel_rfl)) (aR (l:=[0,1,2,3,4,5,6,7,8,9,10,11,12]) (by kernel_rfl))) (QB.at ?_) (List.Perm.refl _) ?_
 ·refine BM (BM rfl (Or.inl (BM rfl (CC.l' 800 w1.tt rfl rfl AB)))) ?_
  refine BM (BM rfl (Or.inl (BM rfl (CC.p w1.tt rfl rfl AB)))) ?_;refine BM (BM rfl (Or.inl (BM rfl (CC.p w1.tt rfl rfl AB)))) ?_;refine BM (BM rfl (Or.inl (BM rfl (CC.p w1.tt rfl rfl ⟨⟨hA0,hA1⟩,rfl⟩)))) ?_;refine BM (BM rfl (Or.inr ⟨_,_,rfl,rfl,PL.app 804 w1.tt rfl rfl ⟨rfl,rfl,rfl,rfl,rfl,An _,by show(0+((T.drop 0).take (((A:Nat):Int).toNat-0)).length)*32<=140737488355328;omega,by decide,by decide⟩⟩)) ?_;refine BM (BM rfl (Or.inl (BM rfl (CC.p w1.tt rfl rfl AB)))) ?_;refine BM (BM rfl (Or.inl (BM rfl (CC.p w1.tt rfl rfl AB)))) ?_;refine BM (BM rfl (Or.inl (BM rfl (CC.p w1.tt rfl rfl (by exact CK))))) ?_;refine BM (BM rfl (Or.inl (BM rfl (CC.l' 808 w1.tt rfl rfl (by exact CK))))) ?_;refine BM (BM rfl (Or.inr ⟨_,_,rfl,rfl,PL.app 809 w1.tt rfl rfl ⟨rfl,rfl,rfl,rfl,rfl,by show 0+((T.drop 0).take (((A:Nat):Int).toNat-0)).length<=([]++((T.drop 0).take (((A:Nat):Int).toNat-0))).length;rw[FE];omega,by show(0+((T.drop 0).take (((A:Nat):Int).toNat-0)).length+1)*32<=140737488355328;omega,by decide,by decide⟩⟩)) ?_;refine BM (BM rfl (Or.inl (BM rfl (CC.p w1.tt rfl rfl AB)))) ?_;refine BM (BM rfl (Or.inl (BM rfl (CC.p w1.tt rfl rfl AB)))) ?_;refine BM (BM rfl (Or.inl (BM rfl (CC.p w1.tt rfl rfl ⟨⟨hA0,hA1⟩,rfl⟩)))) ?_;exact AB
 change C5 _ _ _ _ _ ⟨(64,.sl false 2 ((T.drop ((A:Nat):Int).toNat).take (T.length-((A:Nat):Int).toNat)))::(63,i64 (A:Nat))::(62,.sl false 2 T)::(61,.osl 809 (n2+9) 2 0 (0+((T.drop 0).take (((A:Nat):Int).toNat-0)).length+1))::(60,.sl true 2 [(.agg [str (sb lot),str (sb (A0 r))])])::(59,(.agg [str (sb lot),str (sb (A0 r))]))::(58,str (sb (A0 r)))::(57,str (sb lot))::(56,.osl 804 (n2+4) 2 0 (0+((T.drop 0).take (((A:Nat):Int).toNat-0)).length))::(55,.sl false 2 ((T.drop 0).take (((A:Nat):Int).toNat-0)))::(54,i64 (A:Nat))::(53,.sl false 2 T)::(52,.osl 800 (n2+0) 2 0 0)::_,[⟨809,n2+9,66,2,([].take 0++((T.drop 0).take (((A:Nat):Int).toNat-0))).take (0+((T.drop 0).take (((A:Nat):Int).toNat-0)).length)++[(.agg [str (sb lot),str (sb (A0 r))])]⟩],_⟩ _ _;have q1:((T.drop 0).take (((A:Nat):Int).toNat-0))=T.take A:=by simp
 have q2:((T.drop ((A:Nat):Int).toNat).take (T.length-((A:Nat):Int).toNat))=T.drop A:=by
  rw[Gk,Co];rw[Dv];omega
 rw[q1,q2];obtain⟨P,hP⟩:∃P,T.take A=P:=⟨_,rfl⟩
 obtain⟨S,hS⟩:∃S,T.drop A=S:=⟨_,rfl⟩
 have hPl:P.length<=10000:=by rw[<-hP,Bc];omega
 have hSl:S.length<=10000:=by rw[<-hS,Dv];omega
 have pS:AA (.sl false 2 S):=by
  rw[<-hS,<-hT,<-List.map_drop];exact AJ
 rw[hP,hS]at pR⊢;have q3:([].take 0++P).take (0+P.length)=P:=by simp
 rw[q3,BW];have q5:P.length+1<=(P++[(D.agg [str (sb lot),str (sb (A0 r))])]).length:=by simp
 have q4:(P++[(D.agg [str (sb lot),str (sb (A0 r))])]).take (P.length+1)=P++[(D.agg [str (sb lot),str (sb (A0 r))])]:=by rw[Co];simp
 refine AI LM kB AB AB AB AB AB AB ?_;rw[q4];refine⟨_,V3 rfl rfl ?_,pR,rfl⟩;rw[Be,Be];rfl
theorem Zg {lot:List UInt8}{r:Rat}:∀ {l:BR},(DZ lot r l).length<=l.length+1
 | []=>by simp[DZ]
 |a::l=>by
  unfold DZ;split
  ·simp only[Br]
   have:=Zg (lot:=lot) (r:=r) (l:=l)
   omega
  ·split<;>simp
def Jq (x:AE)(n:Nat)(q:BR):BR:=(x.shs.take n).foldl (λacc s=>DZ s.lot (Bv s.part*(x.mass:Rat)) acc) q
def DB (l:List AE):BR:=l.foldl (λacc x=>Jq x x.shs.length acc) []
theorem nY (x:AE)(n:Nat)(q:BR){s:Au}(h:x.shs[n]?=some s):Jq x (n+1) q=DZ s.lot (Bv s.part*(x.mass:Rat)) (Jq x n q):=by
 unfold Jq;rw[D8,h,List.foldl_append];rfl
theorem mn (l:List AE)(n:Nat){x:AE}(h:l[n]?=some x):DB (l.take (n+1))=Jq x x.shs.length (DB (l.take n)):=by
 unfold DB;rw[D8,h,List.foldl_append];rfl
abbrev EF (q:BR):Prop:=q.Pairwise λa b=>ltStr a.1 b.1=true
theorem EF.nd {q:BR}(h:EF q):(Cv q).Nodup:=by
 rw[Cv,List.Nodup,List.pairwise_map];exact h.imp λ{a b} h e=>by rw[e,swo_ltStr.irrefl]at h;cases h
theorem RL {lot:List UInt8}{o v:Rat}:∀ {q:BR},GZ lot q=some o->∃A B,q=A++(lot,o)::B/\HB lot v q=A++(lot,v)::B
 | [],h=>by simp[GZ]at h
 |p::l,h=>by
  unfold GZ at h;unfold HB;split at h
  ·rename_i e
   cases h;rw[AH e];exact⟨[],l,by rw[e];rfl,rfl⟩
  ·rename_i e
   rw[AG e];obtain⟨A,B,h1,h2⟩:=RL (v:=v) h;exact⟨p::A,B,by rw[h1];rfl,by rw[h2];rfl⟩
theorem UM {lot:List UInt8}{v:Rat}:∀ {q:BR},GZ lot q=none->lot∉Cv q/\HB lot v q=q++[(lot,v)]
 | [],_=>⟨by simp[Cv],rfl⟩
 |p::l,h=>by
  unfold GZ at h;unfold HB;split at h
  ·cases h
  ·rename_i e
   rw[AG e];obtain⟨h1,h2⟩:=UM (v:=v) h;exact⟨λq=>by
    rcases A8.1 q with q|q
    ·exact e q
    ·exact h1 q,by rw[h2];rfl⟩
theorem Zh {lot:List UInt8}{r:Rat}:∀ {Q:BR},EF Q->(∃A o B,Q=A++(lot,o)::B/\DZ lot r Q=A++(lot,o+r)::B)\/(lot∉Cv Q/\∃A B,Q=A++B/\DZ lot r Q=A++(lot,r)::B)
 | [],_=>.inr ⟨by simp[Cv],[],[],rfl,rfl⟩
 |p::l,h=>by
  have hp:=DR.1 h;unfold DZ;split
  ·rename_i e
   rcases Zh (lot:=lot) (r:=r) hp.2 with⟨A,o,B,h1,h2⟩|⟨h0,A,B,h1,h2⟩
   ·exact .inl ⟨p::A,o,B,by rw[h1];rfl,by rw[h2];rfl⟩
   ·refine .inr ⟨λq=>?_,p::A,B,by rw[h1];rfl,by rw[h2];rfl⟩
    rcases A8.1 q with q|q
    ·rw[show p.1=lot from q.symm,swo_ltStr.irrefl]at e;cases e
    ·exact h0 q
  ·rename_i e
   split
   ·rename_i e2
    exact .inl ⟨[],p.2,l,by rw[<-e2];rfl,by rw[e2];rfl⟩
   ·rename_i e2
    refine .inr ⟨λq=>?_,[],p::l,rfl,rfl⟩;rcases A8.1 q with q|q
    ·exact e2 q.symm
    ·obtain⟨z,hz,rfl⟩:=Bx.1 q
     exact e (hp.1 z hz)
theorem ZE {lot:List UInt8}{r:Rat}:∀ {Q:BR},∀z∈DZ lot r Q,z.1=lot\/z.1∈Cv Q
 | [],z,hz=>by
  unfold DZ at hz;rw[D4]at hz;exact .inl (by rw[hz])
 |p::l,z,hz=>by
  unfold DZ at hz;split at hz
  ·rcases A8.1 hz with rfl|hz
   ·exact .inr B3
   ·rcases ZE z hz with h|h
    ·exact .inl h
    ·exact .inr (CA _ h)
  ·split at hz
   ·rcases A8.1 hz with rfl|hz
    ·exact .inr B3
    ·exact .inr (CA _ (List.mem_map_of_mem hz))
   ·rcases A8.1 hz with rfl|hz
    ·exact .inl rfl
    ·exact .inr (List.mem_map_of_mem hz)
theorem Rp {lot:List UInt8}{r:Rat}:∀ {Q:BR},EF Q->EF (DZ lot r Q)
 | [],_=>List.pairwise_singleton _ _
 |p::l,h=>by
  have hp:=DR.1 h;unfold DZ;split
  ·rename_i e
   refine DR.2 ⟨λz hz=>?_,Rp hp.2⟩;rcases ZE z hz with h|h
   ·rw[h];exact e
   ·obtain⟨y,hy,h2⟩:=Bx.1 h
    rw[<-h2];exact hp.1 y hy
  ·rename_i e
   split
   ·exact DR.2 ⟨hp.1,hp.2⟩
   ·rename_i e2
    have e3:ltStr lot p.1=true:=by
     cases h9:ltStr lot p.1 with
     |true=>rfl
     |false=>exact Ak (Qy (by simpa using e) h9) e2
    refine DR.2 ⟨λz hz=>?_,h⟩;rcases A8.1 hz with rfl|hz
    ·exact e3
    ·exact swo_ltStr.trans _ _ _ e3 (hp.1 z hz)
theorem rf {Q q:BR}(hs:EF Q)(hp:Q.Perm q)(lot:List UInt8)(r:Rat):(DZ lot r Q).Perm (Kj lot r q):=by
 have hnd:(Cv Q).Nodup:=hs.nd;unfold Kj;rcases Zh (lot:=lot) (r:=r) hs with⟨A,o,B,h1,h2⟩|⟨h0,A,B,h1,h2⟩
 ·have hm:(lot,o)∈q:=hp.mem_iff.1 (by rw[h1];simp)
  have hqn:(Cv q).Nodup:=(hp.map _).nodup_iff.1 hnd;have hlk:=UW hqn hm;dsimp only at hlk;rw[hlk];dsimp only;obtain⟨A2,B2,h3,h4⟩:=RL (v:=r+o) hlk;rw[h2,h4];have p1:(A++(lot,o)::B).Perm ((lot,o)::(A++B)):=Hb;have p2:(A2++(lot,o)::B2).Perm ((lot,o)::(A2++B2)):=Hb;have p3:(A++B).Perm (A2++B2):=by
   rw[h1,h3]at hp;exact List.Perm.cons_inv (p1.symm.trans (hp.trans p2))
  rw[Rat.add_comm o r];exact Hb.trans ((p3.cons _).trans Hb.symm)
 ·have hn:GZ lot q=none:=by
   cases h9:GZ lot q with
   |none=>rfl
   |some o=>
    obtain⟨A2,B2,h3,-⟩:=RL (v:=o) h9;exact Ak ((hp.map (·.1)).mem_iff.2 (by rw[h3];simp)) h0
  rw[hn];dsimp only;rw[(UM (v:=r) hn).2,h2];rw[h1]at hp;exact Hb.trans ((hp.cons _).trans (List.perm_append_singleton _ _).symm)
theorem bA {Q q:BR}(hs:EF Q)(hp:Q.Perm q)(x:AE):∀j,j<=x.shs.length->EF (Jq x j Q)/\(Jq x j Q).Perm (G6 x j q)
 | 0,_=>⟨hs,hp⟩
 |j+1,hj=>by
  obtain⟨s,hsj⟩:∃s,x.shs[j]?=some s:=⟨_,By hj⟩
  obtain⟨h1,h2⟩:=bA hs hp x j (by omega);rw[nY x j Q hsj,Oz x j q hsj];exact⟨Rp h1,rf h1 h2 _ _⟩
theorem Rc (l:List AE):∀i,i<=l.length->EF (DB (l.take i))/\(DB (l.take i)).Perm (CR (l.take i))
 | 0,_=>⟨List.Pairwise.nil,.refl _⟩
 |i+1,hi=>by
  obtain⟨x,hx⟩:∃x,l[i]?=some x:=⟨_,By hi⟩
  obtain⟨h1,h2⟩:=Rc l i (by omega);rw[mn l i hx,Qx l i hx];exact bA h1 h2 x _ (An _)
theorem EF.weak {q:BR}(h:EF q):q.Pairwise λa b=>ltStr b.1 a.1=false:=h.imp λ{a b} h=>by
 cases h9:ltStr b.1 a.1 with
 |false=>rfl
 |true=>have:=swo_ltStr.trans _ _ _ h h9;rw[swo_ltStr.irrefl]at this;cases this
theorem Ut (l:List AE):DB l=GD (CR l):=by
 obtain⟨h1,h2⟩:=Rc l l.length (An _);rw[DJ]at h1 h2;exact Tx ((h2.map _).nodup_iff.1 h1.nd) h2 (LB _) h1.weak (R3 _)
theorem MZ (l:List AE):EF (DB l):=by
 obtain⟨h1,-⟩:=Rc l l.length (An _)
 rwa [DJ]at h1
end Go.Ide
