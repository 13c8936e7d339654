/- The layer of own lemmas and contracts, part 11. -/
import Derived.Test.YteeceibhhdapaaaGreatDoorP9
import Derived.Test.YteeceibhhdapaaaGreatDoorP10
import Derived.Test.YteeceibhhdapaaaGreatDoorP3
import Derived.Test.YteeceibhhdapaaaGreatDoorP7
import Derived.Shelf.RegionOpenPlain
import Derived.Lib.Builder
import Derived.Lib.UnsafeStr
import Derived.Lib.Strings
import Derived.Lib.Slices
import Derived.Lib.Walk
import Derived.Laws.Externs
import Derived.KernelRfl
import Derived.WalkKit
import Derived.Shelf.Strconv.Itoa3
import Derived.Lib.ItoaMem
import Derived.Lib.AppendIntMem
import Derived.BigCall
import Derived.BigGuard
import Derived.Test.YteeceibhhdapaaaGreatDoorP8
import Derived.Test.YteeceibhhdapaaaGreatDoorP4
import Derived.Shelf.SlSortCmp.WholeK
import Derived.Shelf.Lay
import Derived.Laws.Cover1
import Derived.Shelf.Small.Bits
import Derived.Ground.SlsfProg
import Derived.Ground.NamesProg
import Derived.Shelf.SlIter.Sorted
import Derived.Shelf.SortM.Plain
import Derived.Shelf.SortM.SortNone
import Derived.Ground.GgzProg
import Derived.Ground.SlgmProg
set_option linter.unusedVariables false
set_option linter.unusedSimpArgs false
namespace Go.Ide
open Go.Proofs Go.RowKit
set_option maxRecDepth 20000
set_option maxHeartbeats 4000000
theorem Cx {i n:Nat}(h:i<n):decide ((i:Int)<(n:Int))=true:=AZ (by omega)
theorem Cw {i n:Nat}(h:n<=i):decide ((i:Int)<(n:Int))=false:=Ad (by omega)
theorem Cy {i:Nat}(h:i<9223372036854775807):IntKind.i64.wrap ((i:Int)+1)=((i+1:Nat):Int):=wI (by omega) (by omega)
theorem Cg {α:Type}{l:List α}{i:Nat}(h:i<l.length):∃x,l[i]?=some x:=⟨l[i],BD h⟩
instance  (l:List UInt8):Ag (Fj l).D:=by unfold GF.D;exact AH
theorem Fr {a:Nat}(h:a≠0):(((a:Nat):Int) != 0)=true:=KZ (by omega)
theorem Fs {a:Nat}(h:a=0):(((a:Nat):Int) != 0)=false:=by subst h;rfl
theorem tJ {a:Nat}(h:a≠0):(((a:Nat):Int)==0)=false:=Bv.2 (by omega)
set_option maxHeartbeats 1000000
set_option maxRecDepth 100000
theorem sG {n:Nat}(h:1<=n):liesAt Tryz.prog Tryz.prog.depth 244 n 0 244 1=true:=by
 have hs:sameLayout Tryz.prog Tryz.prog.depth 244 244=true:=by kernel_rfl
 have hc:Tryz.prog.cellsOf 244=2:=by kernel_rfl
 obtain⟨d,hd⟩:∃d,Tryz.prog.depth=d+1:=⟨Tryz.prog.depth-1,by kernel_rfl⟩
 rw[hd]at hs⊢;unfold liesAt;rw[hd];unfold rowAt;simp[hc,hs,h]
theorem j9 (b c:Nat)(hc:2<=c)(w:World)(h0:w.cell? ⟨b,0,none⟩=some (.pointer none))(hsh:w.shape? b=some (244,c))(hfz:w.frozen? ⟨b,0,none⟩=false):
  Calls Tryz.prog 262 #[.pointer (some ⟨b,0,none⟩)] w λe w'=>e=.returned (.tuple #[])/\w'=w.setCell ⟨b,0,none⟩ (.pointer (some ⟨b,0,none⟩)):=by
 obtain⟨j,hj,hjs⟩:=Option.map_eq_some_iff.1 (show(Tryz.prog.info? 244).map (·.size)=some 2 by kernel_rfl);have hl:liesAt Tryz.prog Tryz.prog.depth 244 (c/Tryz.prog.cellsOf 244) 0 244 1=true:=sG (by rw[show Tryz.prog.cellsOf 244=2 by kernel_rfl];omega)
 go_enter Tryz.func262,Tryz.ntmps262
 go_wp2
 rw[Lib.run_to_unsafe w ⟨b,0,none⟩ (t:=244) (by kernel_rfl) (by kernel_rfl) hj (by rw[hjs];decide) hsh (by show 0<c;omega)];simp only[Result.andThen];rw[Oper.upon_value]
 go_wp2
 rw[run_callFunc_extern Tryz.func293 (by kernel_rfl) (by kernel_rfl) (by kernel_rfl) (e:=Extern.AbiNoEscape.same) (by kernel_rfl)];rw[Lib.run_noEscape];simp only[Result.andThen];rw[Oper.upon_value]
 go_wp2
 rw[Lib.run_from_unsafe w ⟨b,0,none⟩ (u:=244) (by kernel_rfl) (by kernel_rfl) hj hsh hl];simp only[Result.andThen];rw[Oper.upon_value]
 go_wp2
 go_end0
 exact⟨rfl,rfl⟩
theorem lH (b:Nat)(w:World)(h0:w.cell? ⟨b,0,none⟩=some (.pointer (some ⟨b,0,none⟩))):
  Calls Tryz.prog 262 #[.pointer (some ⟨b,0,none⟩)] w λe w'=>e=.returned (.tuple #[])/\w'=w:=by
 obtain⟨j,hj,hjs⟩:=Option.map_eq_some_iff.1 (show(Tryz.prog.info? 244).map (·.size)=some 2 by kernel_rfl)
 go_enter Tryz.func262,Tryz.ntmps262
 go_wp2
 rw[Lib.run_neq_ptr_same w _ (te:=244) (by kernel_rfl) hj]
 go_wp2
 go_end0
 exact⟨rfl,rfl⟩
theorem tI (b g:Nat)(cur cs:Array Value)(l:List UInt8)(h0:l≠[])(w:World)(hb:w.heap[b]?=some (.cells cs 244 (0,0)))(hb1:cs[1]?=some (.slice (some ⟨g,0,none⟩) l.length cur.size))
  (hg:w.heap[g]?=some (.cells cur 5 (0,0))) (hl:l.length<=cur.size) (hcap:cur.size<=maxLen) (hcell:∀(j:Nat) (x:UInt8),l[j]?=some x->cur[j]?=some (.int .u8 x.toNat)):
  Calls Tryz.prog 213 #[.pointer (some ⟨b,0,none⟩)] w λe w'=>e=.returned (.string ⟨l.toArray⟩)/\w'=(w.drew.freeze ⟨g,0,none⟩ l.length):=by
 have c1:w.drew.cell? ⟨b,1,none⟩=some (.slice (some ⟨g,0,none⟩) l.length cur.size):=by
  have:w.drew.heap[b]?=some (.cells cs 244 (0,0)):=hb
  rw[Lib.cell_of_heap this];exact hb1
 have h0':l.length≠0:=by simpa using h0
 have hSD:(Builtin.unsafeSliceData_ #[242] 279 #[.slice (some ⟨g,0,none⟩) l.length cur.size]).run Tryz.prog w.drew=.ok (.pointer (some ⟨g,0,none⟩)) w.drew:=
  Lib.run_unsafeSliceData_row _ _ _ _ _ _ (by omega)
 have hUS:(Builtin.unsafeString_ #[279,3] 9 #[.pointer (some ⟨g,0,none⟩),.int .i64 l.length]).run Tryz.prog w.drew=.ok (.string ⟨l.toArray⟩) (w.drew.freeze ⟨g,0,none⟩ l.length):=by
  refine Lib.run_unsafeString_row w.drew 279 3 9 5 (by kernel_rfl) (by kernel_rfl) g cur.size (by have hg':w.drew.heap[g]?=some (.cells cur 5 (0,0)):=hg;simp[World.shape?,hg']) l h0 (by omega) (by unfold maxLen at hcap;omega) ?_;intro j x hx;have hg':w.drew.heap[g]?=some (.cells cur 5 (0,0)):=hg
  have:=hcell j x hx
  rw[Addr.add_lit];simp[World.cell?,hg',this]
 have mixed:Tryz.prog.follows .mixedOrders=true:=by kernel_rfl
 go_enter Tryz.func213,Tryz.ntmps213
 go_wp2
 go_region_o
 all_goals(go_wp2;go_ret;exact⟨rfl,rfl⟩)
def FJ (l:List UInt8):List D:=l.map λb=>.prim (.int .u8 (b.toNat:Int))
abbrev E8 (g:Nat)(p x:D):At:=⟨1500,g,244,2,[.agg [p,x]]⟩
theorem aI {vs:Array Value}(h:vs.size=1):vs = #[vs.getD 0 undef]:=by
 match vs,h with
 |⟨[u]⟩,_=>rfl
theorem aJ (g n:Nat)(x p:D)(H1 H2:Hp)(hp:p=.prim (.pointer none)\/p=.optr 1500 g 2 0 0):
  CQ C0 262 [.optr 1500 g 2 0 0] (H1++E8 g p x::H2) n (λd H' n'=>d=.prim (.tuple #[])/\H'=H1++E8 g (.optr 1500 g 2 0 0) x::H2/\n'=n):=by
 refine⟨⟨_,_,Tryz.func262,rfl,by kernel_rfl⟩,λF ρ w vs m fr hgn hvs hr=>?_⟩;have h0:=hr 0 _ rfl;rw[aI hvs];generalize hv:vs.getD 0 undef=v at h0;cases h0 with
 |optr hρ=>
  rename_i b;have he:E8 g p x∈H1++E8 g p x::H2:=by simp
  obtain⟨cs,hc,q⟩:=m.at he hρ;have hlen:2<=cs.size:=q.len;have hr0:AU ρ (AJ F.X ρ (H1++E8 g p x::H2)) w p (cs.getD 0 undef):=q.rep 0 _ 0 p rfl rfl;have hr1:AU ρ (AJ F.X ρ (H1++E8 g p x::H2)) w x (cs.getD 1 undef):=q.rep 0 _ 1 x rfl rfl;have hcell:w.cell? ⟨b,0,none⟩=some (cs.getD 0 undef):=by
   simp[World.cell?,hc,Array.getD,show 0<cs.size by omega]
  rcases hp with rfl|rfl
  ·cases hr0':cs.getD 0 undef with
   |pointer a=>
    rw[hr0']at hr0 hcell;cases hr0;refine(j9 b cs.size hlen w hcell (by simp[World.shape?,hc]) (by simp[World.frozen?,hc])).mono ?_;rintro e w' ⟨rfl,rfl⟩;have hset:w.setCell ⟨b,0,none⟩ (.pointer (some ⟨b,0,none⟩))=World.setBlk w b (cs.setIfInBounds 0 (.pointer (some ⟨b,0,none⟩))) 244:=by
     rw[setCell_eq_setRow w b 0 cs 244 (0,0) _ hc];exact Ra hc
    have hop:AU ρ (AJ F.X ρ (H1++E8 g (.prim (.pointer none)) x::H2)) w (.optr 1500 g 2 0 0) (.pointer (some ⟨b,0*2+0,none⟩)):=.optr hρ;have ho:Ct ρ (AJ F.X ρ (H1++E8 g (.prim (.pointer none)) x::H2)) w (E8 g (.optr 1500 g 2 0 0) x) (cs.setIfInBounds 0 (.pointer (some ⟨b,0,none⟩))):=by
     refine⟨by rw[Th];exact q.len,λi d hd=>?_,λi v hv=>?_,λi d j c hd hj=>?_⟩
     ·rcases i with _|i
      ·cases hd;rfl
      ·simp at hd
     ·rw[Hm]at hv
      split at hv
      ·split at hv
       ·cases hv;rfl
       ·cases hv
      ·exact q.one i v hv
     ·rcases i with _|i
      ·cases hd
       rcases j with _|_|j
       ·cases hj
        have:(cs.setIfInBounds 0 (.pointer (some ⟨b,0,none⟩))).getD (0*2+0) undef=.pointer (some ⟨b,0*2+0,none⟩):=by
         simp[Aw,show 0<cs.size by omega]
        rw[this];exact hop
       ·cases hj
        have:(cs.setIfInBounds 0 (.pointer (some ⟨b,0,none⟩))).getD (0*2+1) undef=cs.getD 1 undef:=by
         simp[Aw]
        rw[this];exact hr1
       ·simp[D.cells]at hj
      ·simp at hd
    obtain⟨m1,x1⟩:=m.write (e':=E8 g (.optr 1500 g 2 0 0) x) hρ hc rfl rfl rfl (Th ..) ho;rw[hset];exact⟨_,_,_,n,ρ,rfl,⟨rfl,rfl,rfl⟩,m1,x1,fr,λe' he'=>by
     rcases List.mem_append.1 he' with h|h
     ·exact hgn e' (by simp[h])
     ·rcases BA.1 h with rfl|h
      ·exact hgn (E8 g (.prim (.pointer none)) x) he
      ·exact hgn e' (by simp[h]),.prim _⟩
   |_=>rw[hr0']at hr0;cases hr0
  ·cases hr0':cs.getD 0 undef with
   |pointer a=>
    rw[hr0']at hr0 hcell;cases hr0 with
    |optr hρ2=>
     rw[hρ]at hρ2;cases hρ2;refine(lH b w hcell).mono ?_;rintro e w' ⟨rfl,rfl⟩;exact⟨_,_,_,n,ρ,rfl,⟨rfl,rfl,rfl⟩,m,BO.refl _ _ _,fr,hgn,.prim _⟩
   |_=>rw[hr0']at hr0;cases hr0
theorem bW (w:World)(g n:Nat)(hn:n≠0)(cur:Array Value)(T:Nat)(hg:w.heap[g]?=some (.cells cur T (0,0))):
  (w.freeze ⟨g,0,none⟩ n).heap.size=w.heap.size/\(w.freeze ⟨g,0,none⟩ n).os=w.os/\(w.freeze ⟨g,0,none⟩ n).tape=w.tape/\(w.freeze ⟨g,0,none⟩ n).output=w.output /\
  (∀k,k≠g->(w.freeze ⟨g,0,none⟩ n).heap[k]?=w.heap[k]?)/\∃(cs':Array Value) (fz':Nat×Nat),(w.freeze ⟨g,0,none⟩ n).heap[g]?=some (.cells cs' T fz')/\cs'.size=cur.size:=by
 unfold World.freeze;rw[AE hn];refine⟨by simp,rfl,rfl,rfl,λk hk=>?_,?_⟩
 ·dsimp only
  rw[Array.getElem?_modify,AE (λh=>hk h.symm)]
 ·dsimp only
  rw[Array.getElem?_modify,AF rfl,hg];exact⟨cur,_,rfl,rfl⟩
theorem sS (g gb n:Nat)(l:List UInt8)(h0:l≠[])(p:D)(R:Hp):
  CQ C0 213 [.optr 1500 g 2 0 0] (⟨206,gb,5,1,FJ l⟩::E8 g p (.osl 206 gb 1 0 l.length)::R) n (λd H' n'=>d=str ⟨l.toArray⟩/\H'=E8 g p (.osl 206 gb 1 0 l.length)::R/\n'=n):=by
 refine⟨⟨_,_,Tryz.func213,rfl,by kernel_rfl⟩,λF ρ w vs m fr hgn hvs hr=>?_⟩;have hz:=hr 0 _ rfl;have h0':l.length≠0:=by simpa using h0
 rw[aI hvs];generalize hv:vs.getD 0 undef=v at hz;cases hz with
 |optr hρ=>
  rename_i b;obtain⟨cs,hc,q⟩:=m.at (e:=E8 g p (.osl 206 gb 1 0 l.length)) (by simp) hρ;have hlen:2<=cs.size:=q.len;have hr1:AU ρ (AJ F.X ρ (⟨206,gb,5,1,FJ l⟩::E8 g p (.osl 206 gb 1 0 l.length)::R)) w (.osl 206 gb 1 0 l.length) (cs.getD 1 undef):=q.rep 0 _ 1 (.osl 206 gb 1 0 l.length) rfl rfl;generalize hs1:cs.getD 1 undef=sv at hr1;generalize hL:l.length=L at hr1;cases hr1 with
   |onil=>exact Ae hL h0'
   |osl hρ2 hb2 hc2 hs2 hm2=>
    rename_i cap gy T' cs2 fz2;obtain⟨cur,hcur,qy⟩:=m.at (e:=⟨206,gb,5,1,FJ l⟩) (by simp) hρ2;rw[hb2]at hcur;cases hcur;have hcap:cap=cs2.size:=by omega
    subst hcap;have hcell:∀(j:Nat) (x:UInt8),l[j]?=some x->cs2[j]?=some (.int .u8 x.toNat):=λj x hx=>by
     have hr:=qy.rep j (.prim (.int .u8 (x.toNat:Int))) 0 (.prim (.int .u8 (x.toNat:Int))) (by unfold FJ;rw[BK,hx];rfl) rfl;have hlt:j<cs2.size:=by
      have:=(List.getElem?_eq_some_iff.1 hx).1
      omega
     generalize hvv:cs2.getD (j*1+0) undef=vv at hr;cases hr;rw[Be hlt]
     have:cs2.getD j undef=cs2[j]:=by simp[Array.getD,hlt]
     rw[Du,DJ,this]at hvv;rw[hvv]
    have hb1:cs[1]?=some (.slice (some ⟨gy,0,none⟩) l.length cs2.size):=by
     have hlt:1<cs.size:=by omega
     rw[Be hlt]
     have:cs.getD 1 undef=cs[1]:=by simp[Array.getD,hlt]
     rw[this]at hs1;rw[hs1,hL,GK]
    refine(tI b gy cs2 cs l h0 w hc hb1 hb2 (by omega) (by omega) hcell).mono ?_;rintro e w' ⟨rfl,rfl⟩;have md:=m.drew;obtain⟨f1,f2,f3,f4,f5,cs',fz',f6,f7⟩:=bW w.drew gy l.length h0' cs2 5 hb2;obtain⟨m1,x1⟩:=uD (H1:=[]) (H2:=E8 g p (.osl 206 gb 1 0 l.length)::R) (w':=w.drew.freeze ⟨gy,0,none⟩ l.length) md hρ2 f1 f2 f3 f4 f5 (λc hcc=>by
     have hb2':w.drew.heap[gy]?=some (.cells cs2 5 (0,0)):=hb2;have hcc':w.drew.heap[gy]?=some (.cells c 5 (0,0)):=hcc;rw[hb2']at hcc';cases hcc';exact⟨cs',fz',f6,f7⟩)
    rw[hL];rw[hL]at m1 x1;exact⟨_,_,_,n,ρ,rfl,⟨rfl,rfl,rfl⟩,m1,(BO.drew _ _ _).trans x1,fr,λe' he'=>hgn e' (by rw[hL];exact Ck _ he'),.prim _⟩
set_option maxRecDepth 20000
set_option maxHeartbeats 4000000
def bH (gb g:Nat)(p:D)(L:List UInt8)(R:Hp):Hp:=DW 206 gb 5 1 (FJ L)++(E8 g p (Dc 206 gb 1 (FJ L))::R)
theorem dw (s:List UInt8):HV (sb s)=FJ s:=rfl
theorem Mq (l:List UInt8):(FJ l).length=l.length:=An ..
theorem du (a b:List UInt8):FJ (a++b)=FJ a++FJ b:=DP
theorem Vs {l:List UInt8}(h:l≠[]):∃x r,FJ l=x::r:=by
 cases l with
 |nil=>exact Ae rfl h
 |cons a l=>exact⟨_,_,rfl⟩
theorem aU (g gb n:Nat)(p:D)(hp:p=.prim (.pointer none)\/p=.optr 1500 g 2 0 0)(L s:List UInt8)(hs:s≠[])(R:Hp)(hlen:L.length+s.length<=100000000):
  CQ C0 212 [.optr 1500 g 2 0 0,str (sb s)] (bH gb g p L R) n (λd H' n'=>(∃g',H'=bH g' g (.optr 1500 g 2 0 0) (L++s) R)/\n<=n'):=by
 refine CQ.walk w1 Yy rfl λF=>?_
 have hsz:=CS s;have hb:=dw s;obtain⟨x,r,hx⟩:=Vs hs;have hr:s.length=r.length+1:=by rw[<-Mq,hx];rfl
 unfold bH;rw[du];cases hL:FJ L with
 |nil=>
  dsimp only[IA,IB,List.nil_append];refine AR Am kB AB AB AB AB AB AB ?_;refine A7.own _ (aJ g _ CK p [] R hp) ?_;rintro d H' n' ⟨rfl,rfl,rfl⟩;have hL0:L.length=0:=by rw[<-Mq,hL];rfl
  refine AR Am (Ah hsz hb) AB AB AB AB AB AB ?_;refine⟨?_,by omega⟩;apply Exists.intro;rw[hx,hr];rfl
 |cons y l=>
  dsimp only[Gu,Gv,List.cons_append,List.nil_append];have hL1:L.length=l.length+1:=by rw[<-Mq,hL];rfl
  have htk:List.take (l.length+1) (y::l)=y::l:=by simp
  refine AR Am kB AB AB AB AB AB AB ?_;refine A7.own _ (aJ g _ (.osl 206 gb 1 0 (l.length+1)) p [⟨206,gb,5,1,y::l⟩] R hp) ?_;rintro d H' n' ⟨rfl,rfl,rfl⟩;refine AR Am (Ar hsz hb htk) AB AB AB AB AB AB ?_;refine⟨?_,by omega⟩;apply Exists.intro;have hap:y::l++FJ s=y::(l++FJ s):=rfl;have hl2:(l++FJ s).length+1=l.length+1+s.length:=by rw[B1,Mq];omega
  rw[hl2]
open Go.Sort Go.Shelf
section
open Go.Lib
set_option maxHeartbeats 6400000 in
set_option maxRecDepth 100000 in
theorem tQ (u:Nat) (hu64:u<18446744073709551616) (w:World) (htab:Lib.TabIs Tryz.prog w "internal/strconv.uint64pow10" .u64 Lib.pow10Tab):
  Calls Tryz.prog 258 #[.int .u64 u,.int .i64 10] w λe w'=>e=.returned (.string ⟨(Lib.decDigits u).toArray⟩)/\∃k os,w'=grow (w.drewN k) os:=by
 have e283:∀args w,(callFunc 287 args).run Tryz.prog w=.ok (.enter 287 args) w:=enters_of Tryz.func287 (by kernel_rfl) rfl;have e284:∀args w,(callFunc 288 args).run Tryz.prog w=.ok (.enter 288 args) w:=enters_of Tryz.func288 (by kernel_rfl) rfl;have e285:∀args w,(callFunc 289 args).run Tryz.prog w=.ok (.enter 289 args) w:=enters_of Tryz.func289 (by kernel_rfl) rfl
 by_cases hs:u<100
 ·go_enter Tryz.func258,Tryz.ntmps258
  go_wp2_with (go_at_fn 287;refine(Tryz.internal_strconv_small u hs _).mono ?_;rintro e w' ⟨rfl,rfl⟩)
  go_ret
  exact⟨rfl,0,#[],by simp[World.drewN_zero]⟩
 ·have hu1:1<=u:=by omega
  have hnd20:Lib.nDigits u<=20:=by have:=Lib.numDigits_eq u hu1 hu64;split at this<;>omega
  have hb3:Lib.nDigits u<=24:=by omega
  have hal:Tryz.prog.arrayLen 297=24:=by kernel_rfl
  have hsl1:∀W,(Instr.sliceAt 297 (.pointer (some ⟨w.heap.size,0,none⟩)) none (some (.int .i64 (Lib.nDigits u:Int))) none).run Tryz.prog W=.ok (.slice (some ⟨w.heap.size,0,none⟩) (Lib.nDigits u) 24) W:=λW=>by
   rw[run_sliceAt_array_h W 297 ⟨w.heap.size,0,none⟩ (by kernel_rfl) .i64 (Lib.nDigits u:Int) (by omega) (by rw[hal];omega)]
   go_simp
  have hH0:=Lib.holds_zero0 w 297 (Lib.nDigits u) (by omega);have hfmt:=Tryz.internal_strconv_formatBase10 w.heap.size 0 24 u (Array.replicate (Lib.nDigits u) 0) (w.alloc (.cells Lib.zeros24 297)) hH0 (by rw[Qg];exact Lib.lt_pow_nDigits u) hu64 (by rw[Qg];omega);rw[Qg]at hfmt;have HH0:=Lib.hid hH0;clear hH0 hal
  go_enter Tryz.func258,Tryz.ntmps258
  go_wp2_with (first
   |(go_at_fn 288;refine(Tryz.internal_strconv_numDigits u hu1 hu64 _ (Lib.tabIs_alloc htab _)).mono ?_;rintro e w' ⟨rfl,rfl⟩))
  go_at_fn 289
  refine hfmt.mono ?_;rintro e w' ⟨rfl,k,v',dk,rfl,hF⟩;have hcv:(convert 242 9 (.slice (some ⟨w.heap.size,0,none⟩) (Lib.nDigits u) 24)).run Tryz.prog ((putRow (λ(b:UInt8)=>Value.int .u8 (b.toNat:Int)) (w.alloc (.cells Lib.zeros24 297)) w.heap.size 0 dk).drewN k)=.ok (.string ⟨(Lib.decDigits u).toArray⟩) ((putRow (λ(b:UInt8)=>Value.int .u8 (b.toNat:Int)) (w.alloc (.cells Lib.zeros24 297)) w.heap.size 0 dk).drewN k):=by
   have h:=run_convert_bytes_back (P:=Tryz.prog) ((putRow (λ(b:UInt8)=>Value.int .u8 (b.toNat:Int)) (w.alloc (.cells Lib.zeros24 297)) w.heap.size 0 dk).drewN k) 242 9 5 ⟨w.heap.size,0,none⟩ 24 (Lib.decDigits u) (by kernel_rfl) (by kernel_rfl) (by kernel_rfl) (λj hj=>by
    rw[Lib.row_is_numeral hF j hj,Lib.add_plain,World.cell?_drewN];exact cell?_putRow (λ(b:UInt8)=>Value.int .u8 (b.toNat:Int)) _ w.heap.size 0 _ dk HH0.out (by rw[hF.size,Qg]) j (by rw[hF.size];rw[Lib.decDigits_length]at hj;exact hj))
   rw[Lib.decDigits_length]at h;exact h
  go_wp2
  go_ret
  obtain⟨os,eo⟩:=Lib.fin_at w (.cells Lib.zeros24 297) dk k 0;exact⟨rfl,k,os,eo⟩
end
theorem dZ {O:Nat->Prop}{w:World}{v u:Value}{vs:Array Value}(hn:vs.size=2)(h:∀(i:Nat) (x:D),[D.prim v,.prim u][i]?=some x->AU nol O w x (vs.getD i undef)):vs = #[v,u]:=by
 match vs,hn with
 |⟨[a,b]⟩,_=>
  have h0:=h 0 _ rfl;have h1:=h 1 _ rfl;simp at h0 h1;cases h0;cases h1;rfl
theorem jo (u:Nat)(hu:u<18446744073709551616):AK C0 258 [.prim (.int .u64 (u:Int)),i64 10] (str ⟨(Lib.decDigits u).toArray⟩):=by
 refine⟨⟨_,_,Tryz.func258,rfl,by kernel_rfl⟩,λY w vs hG hnG hX hvs hr=>?_⟩
 have:=dZ hvs hr
 subst this;refine(tQ u hu w hG).mono ?_;rintro e w' ⟨rfl,k,os,rfl⟩;exact⟨_,_,rfl,Lib.below_grow _ _ (Af _) _ _,rfl,.prim _⟩
theorem mV (u:Nat)(hu:u<18446744073709551616):AK C0 210 [.prim (.int .u64 (u:Int)),i64 10] (str ⟨(Lib.decDigits u).toArray⟩):=by
 refine Ai.walk w1 Yx rfl λF=>?_
 refine AR Am kB (jo u hu) AB AB AB AB AB ?_;exact AN rfl AA.out
theorem uc:AK C0 211 [str ⟨#[48]⟩,i64 0] (str ⟨#[]⟩):=B6 DE 400 20 (by kernel_rfl)
theorem ud:AK C0 211 [str ⟨#[48]⟩,i64 1] (str ⟨#[48]⟩):=B6 DE 400 20 (by kernel_rfl)
theorem ue:AK C0 211 [str ⟨#[48]⟩,i64 2] (str ⟨#[48,48]⟩):=B6 DE 400 20 (by kernel_rfl)
theorem uf:AK C0 211 [str ⟨#[48]⟩,i64 3] (str ⟨#[48,48,48]⟩):=B6 DE 400 20 (by kernel_rfl)
theorem ug:AK C0 211 [str ⟨#[48]⟩,i64 4] (str ⟨#[48,48,48,48]⟩):=B6 DE 400 20 (by kernel_rfl)
theorem uh:AK C0 211 [str ⟨#[48]⟩,i64 5] (str ⟨#[48,48,48,48,48]⟩):=B6 DE 400 20 (by kernel_rfl)
theorem ui:AK C0 211 [str ⟨#[48]⟩,i64 6] (str ⟨#[48,48,48,48,48,48]⟩):=B6 DE 400 20 (by kernel_rfl)
theorem uj:AK C0 211 [str ⟨#[48]⟩,i64 7] (str ⟨#[48,48,48,48,48,48,48]⟩):=B6 DE 400 20 (by kernel_rfl)
theorem uk:AK C0 211 [str ⟨#[48]⟩,i64 8] (str ⟨#[48,48,48,48,48,48,48,48]⟩):=B6 DE 400 20 (by kernel_rfl)
theorem ul:AK C0 211 [str ⟨#[48]⟩,i64 9] (str ⟨#[48,48,48,48,48,48,48,48,48]⟩):=B6 DE 400 20 (by kernel_rfl)
theorem sj:AK C0 211 [str ⟨#[48]⟩,i64 10] (str ⟨#[48,48,48,48,48,48,48,48,48,48]⟩):=B6 DE 400 20 (by kernel_rfl)
theorem sk:AK C0 211 [str ⟨#[48]⟩,i64 11] (str ⟨#[48,48,48,48,48,48,48,48,48,48,48]⟩):=B6 DE 400 20 (by kernel_rfl)
theorem sn:AK C0 211 [str ⟨#[48]⟩,i64 12] (str ⟨#[48,48,48,48,48,48,48,48,48,48,48,48]⟩):=B6 DE 400 20 (by kernel_rfl)
theorem so:AK C0 211 [str ⟨#[48]⟩,i64 13] (str ⟨#[48,48,48,48,48,48,48,48,48,48,48,48,48]⟩):=B6 DE 400 20 (by kernel_rfl)
theorem sq:AK C0 211 [str ⟨#[48]⟩,i64 14] (str ⟨#[48,48,48,48,48,48,48,48,48,48,48,48,48,48]⟩):=B6 DE 400 20 (by kernel_rfl)
theorem sr:AK C0 211 [str ⟨#[48]⟩,i64 15] (str ⟨#[48,48,48,48,48,48,48,48,48,48,48,48,48,48,48]⟩):=B6 DE 400 20 (by kernel_rfl)
theorem sw:AK C0 211 [str ⟨#[48]⟩,i64 16] (str ⟨#[48,48,48,48,48,48,48,48,48,48,48,48,48,48,48,48]⟩):=B6 DE 400 20 (by kernel_rfl)
theorem sx:AK C0 211 [str ⟨#[48]⟩,i64 17] (str ⟨#[48,48,48,48,48,48,48,48,48,48,48,48,48,48,48,48,48]⟩):=B6 DE 400 20 (by kernel_rfl)
theorem kf (n:Nat)(h:n<=17):AK C0 211 [str ⟨#[48]⟩,i64 (n:Int)] (str ⟨(List.replicate n 48).toArray⟩):=by
 match n,h with
 | 0,_=>exact uc
 | 1,_=>exact ud
 | 2,_=>exact ue
 | 3,_=>exact uf
 | 4,_=>exact ug
 | 5,_=>exact uh
 | 6,_=>exact ui
 | 7,_=>exact uj
 | 8,_=>exact uk
 | 9,_=>exact ul
 | 10,_=>exact sj
 | 11,_=>exact sk
 | 12,_=>exact sn
 | 13,_=>exact so
 | 14,_=>exact sq
 | 15,_=>exact sr
 | 16,_=>exact sw
 | 17,_=>exact sx
 |n+18,h=>omega
theorem jr {H Hf r r':Hp}{K g T sz:Nat}{l:List D}(h:CT H Hf r r'):CT H Hf (DW K g T sz l++r) r':=by
 cases l with
 |nil=>exact h
 |cons x l=>exact .drop h
set_option maxHeartbeats 8000000
def FN (q r:Nat):List UInt8:=if q=0 then Lib.decDigits r else List.replicate (18-(Lib.decDigits r).length) 48++Lib.decDigits r
theorem Vu:Lib.decDigits 0=[48]:=by unfold Lib.decDigits;rfl
theorem NM (n:Nat):Lib.decDigits n≠[]:=(EA n).2.2
theorem iB (q r:Nat):FN q r≠[]:=by
 unfold FN;split
 ·exact NM r
 ·intro h;exact NM r (List.append_eq_nil_iff.1 h).2
theorem eW {q r:Nat}(hq:q≠0):FN q r=EY 18 r []:=by
 unfold FN EY K4;rw[AE hq]
 by_cases h:r=0
 ·subst h;rw[Vu,AF rfl];rfl
 ·rw[AE h,DN]
theorem gS (B q r:Nat)(hB:B=10^18)(hr:r<B):Lib.decDigits (q*B+r)=if q=0 then FN q r else Lib.decDigits q++FN q r:=by
 by_cases hq:q=0
 ·subst hq;rw[AF rfl];unfold FN;rw[AF rfl,GK,BT]
 ·rw[AE hq,eW hq,hB]
  exact SF 18 q r hq (by rw[<-hB];exact hr)
def Dy (P:List (List UInt8)):List UInt8:=P.reverse.flatten
theorem Ul (P:List (List UInt8))(p:List UInt8):Dy (P++[p])=p++Dy P:=by unfold Dy;simp
theorem Sw (a b:List UInt8):sb a++sb b=sb (a++b):=by
 apply ByteArray.ext;simp[ByteArray.data_append]
theorem fF {P:List (List UInt8)}(h:∀p∈P,p≠[]):P.length<=(Dy P).length:=by
 unfold Dy;rw[List.length_flatten,<-List.length_reverse];generalize hQ:P.reverse=Q;have h':∀p∈Q,p≠[]:=λp hp=>h p (by rw[<-hQ]at hp;exact List.mem_reverse.1 hp)
 clear hQ h
 induction Q with
 |nil=>exact Af _
 |cons a r ih=>
  have h1:=ih λp hp=>h' p (Ck _ hp)
  have h2:a.length≠0:=λq=>h' a Cc (FA q)
  rw[Cb,List.sum_cons,Bj];omega
structure Lg (n m:Nat)(P:List (List UInt8)):Prop where
 ne:m≠0->Lib.decDigits n=Lib.decDigits m++Dy P
 eq:m=0->Lib.decDigits n=Dy P
 all:∀p∈P,p≠[]
 le:m<=n
theorem Lg.len {n m:Nat}{P:List (List UInt8)}(h:Lg n m P):P.length<=(Lib.decDigits n).length:=by
 have h1:=fF h.all
 by_cases q:m=0
 ·rw[h.eq q];exact h1
 ·rw[h.ne q,B1];omega
theorem Lg.step {n m:Nat}{P:List (List UInt8)}{B:Nat}(h:Lg n m P)(hm:m≠0)(hB:B=10^18):Lg n (m/B) (P++[FN (m/B) (m%B)]):=by
 have hB0:0<B:=by rw[hB];decide
 have hd:=gS B (m/B) (m%B) hB (Bs _ hB0);rw[show m/B*B+m%B=m by rw[BN];exact EC m B]at hd;have hn:=h.ne hm;rw[hd]at hn;refine⟨λq=>?_,λq=>?_,λp hp=>?_,BP (GH _ _) h.le⟩
 ·rw[AE q]at hn;rw[hn,Ul,D2]
 ·rw[AF q]at hn;rw[hn,Ul]
 ·rcases List.mem_append.1 hp with hp|hp
  ·exact h.all p hp
  ·rw[List.mem_singleton]at hp;subst hp;exact iB _ _
abbrev En (P:List (List UInt8)):List D:=P.map λp=>str (sb p)
theorem Ru (x:GI)(h:x.wf)(hf:x.few):AK C0 161 [x.D] (str (sb (Lib.itoa x.z))):=by
 refine Ai.walk w1 Xo rfl λF=>?_
 obtain⟨z,sm⟩:=x;obtain⟨h1,h2⟩:=h;have hp:=Ic ⟨z,sm⟩ ⟨h1,h2⟩;dsimp only[GI.D,GI.few]at*;cases sm with
 |true=>
  obtain⟨h3,h4⟩:=h1 rfl;have c:AK C0 208 [i64 z] (str (sb (Lib.itoa z))):=jR z h3 (by omega);unfold GI.s GI.w;dsimp only;refine AR Am kB c AB AB AB AB AB ?_;exact AN rfl AA.out
 |false=>
  have hz:=h2 rfl;have hz0:z.natAbs≠0:=λq=>hz (by obtain rfl:z=0:=(by omega);exact qR rfl)
  have hw:GI.w ⟨z,false⟩=wD z.natAbs:=rfl;have hs:GI.s ⟨z,false⟩=if z<0 then -1 else 1:=rfl
  rw[hw]at hp⊢;obtain⟨sg,hsg⟩:∃s,GI.s ⟨z,false⟩=s:=⟨_,rfl⟩
  rw[hsg]at hp⊢;obtain⟨B,hB⟩:∃B:Nat,B=10^18:=⟨_,rfl⟩
  have hB1:B<BB:=by rw[hB];decide
  have hB0:B≠0:=by rw[hB];decide
  have hB2:1<B:=by rw[hB];decide
  have hBs:u64 1000000000000000000=AQ B:=by rw[hB];rfl
  have hBl:Aa B=[B]:=LM hB0 hB1;obtain⟨n,hn⟩:∃n,z.natAbs=n:=⟨_,rfl⟩
  obtain⟨neg,hneg⟩:∃b,decide (z<0)=b:=⟨_,rfl⟩
  rw[hn]at hp hf hz0⊢;rw[hneg]at hp;have hit:Lib.itoa z=(if neg then[45]else[])++Lib.decDigits n:=by
   unfold Lib.itoa
   by_cases q:z<0
   ·rw[AF q,<-hneg,AZ q,hn];rfl
   ·rw[AE q,<-hneg,Ad q,<-hn]
    have:z.toNat=z.natAbs:=by omega
    rw[this];rfl
  rw[hit];have hDL:(Lib.decDigits n).length<=27*1000000+1:=Lj (k:=1000000) (by omega);have hmpos:∀m:Nat,m≠0->decide ((((Aa m).map AQ).length:Int)>0)=true:=λm hm=>AZ (by
   rw[Fc hm,Cb,Bj];omega)
  have hm0:decide ((((Aa 0).map AQ).length:Int)>0)=false:=Ad (by rw[FH];decide);obtain⟨w0,ws,hws⟩:∃a l,(Aa n).map AQ=a::l:=by
   cases hl:(Aa n).map AQ with
   |nil=>exact Ae hl (Gs hz0)
   |cons a l=>exact⟨a,l,rfl⟩
  have hwD:wD n=.sl false 1 (w0::ws):=by unfold wD wL;rw[hws]
  have hbD:wD B=.sl false 1 [u64 1000000000000000000]:=by unfold wD wL;rw[hBl,hBs];rfl
  have pw:AA (.sl false 1 (w0::ws)):=by rw[<-hwD];exact AH
  rw[hwD]at hp⊢;clear hit h1 h2 hz hs hsg;have hne:(w0::ws≠[])=True:=eq_true (List.cons_ne_nil _ _);refine AR Am hne hp AB AB AB AB AB ?_;rw[<-hwD];refine AC.loop (α:=Nat×List (List UInt8)×Nat×Nat) (λp=>⟨[(3,Aq neg),(4,wD p.1),(5,wD B),(6,Dc 1303 p.2.2.1 1 (En p.2.1))],DW 1303 p.2.2.1 9 1 (En p.2.1),p.2.2.2⟩) (λp=>p.1)
   (λp=>Lg n p.1 p.2.1) (n,[],0,_) ⟨λ_=>by unfold Dy;simp,λq=>Ae q hz0,λp hp=>Ae hp DF,Af _⟩ (by refine⟨.drop .nil,⟨.refl _,.refl _,?_,.refl _,trivial⟩,Af _⟩;dsimp only;rw[hbD];exact .nn true 1 _) ?_
  rintro⟨m,P,g,cnt⟩ F I;dsimp only at I⊢;have hPl:=I.len;rcases Nat.decEq m 0 with hm|hm
  rotate_left
  ·subst hm
   have hdn:=I.eq rfl;have hall:=I.all;have hLn:P.length<=27000001:=by omega
   have hP0:P≠[]:=λq=>NM n (by rw[hdn,q];rfl)
   obtain⟨N,hN⟩:∃N,P.length=N:=⟨_,rfl⟩
   have hN0:N≠0:=λq=>hP0 (FA (by omega))
   rw[hdn];clear hwD hbD pw hp hn hPl I;have elP:(((En P).length:Nat):Int)=(N:Int):=by rw[An,hN]
   have wN:IntKind.i64.wrap ((N:Int)-1)=((N:Int)-1):=wI (by omega) (by omega);refine AC.seq ?_;refine sZ 600 ?_;refine AT hm0 ?_;refine AI ?_;refine By ?_;refine AC.weak ⟨[(3,Aq neg),(6,.sl false 1 (En P))],[],_⟩ ⟨?_,⟨.refl _,?_,trivial⟩,Af _⟩ ?_
   ·have:=jr (K:=1303) (g:=g) (T:=9) (sz:=1) (l:=En P) (r:=[]) (r':=[]) (H:=DW 1303 g 9 1 (En P)) (Hf:=[]) .nil
    rwa [DN]at this
   ·exact Po _ _ _ _ _
   obtain⟨c0,hc0⟩:∃c,c=cnt+1+1+1:=⟨_,rfl⟩
   rw[<-hc0];refine sR 1500 ?_;obtain⟨c1,hc1⟩:∃c,c=c0+1:=⟨_,rfl⟩
   refine Cj (α:=D×Nat×Nat) (λq=>⟨[(6,.sl false 1 (En P)),(10,.optr 1500 c0 2 0 0)],bH q.2.1 c0 q.1 (if neg then[45]else[]) [],q.2.2⟩) (λq=>q.1=.prim (.pointer none)\/q.1=.optr 1500 c0 2 0 0) ?_ ?_
   ·cases neg
    ·refine AR Am kB AB AB AB AB AB AB ?_
     exact⟨by trivial,(.prim (.pointer none),0,_),.inl rfl,AL⟩
    ·refine AR Am kB AB AB AB AB AB AB ?_
     refine A7.own _ (aU c0 0 _ (.prim (.pointer none)) (.inl rfl) [] [45] (by decide) [] (by decide)) ?_;rintro d H' n' ⟨⟨g',rfl⟩,hn'⟩;refine BJ ?_;exact⟨by trivial,(.optr 1500 c0 2 0 0,g',_),.inr rfl,AL⟩
   rintro⟨p0,gb0,c2⟩ hp0;dsimp only at hp0⊢;obtain⟨pre,hpre⟩:∃l,(if neg then[45]else[]:List UInt8)=l:=⟨_,rfl⟩
   have hpl:pre.length<=1:=by rw[<-hpre];split<;>decide
   rw[hpre];refine AR Am (Ah elP @wN) AB AB AB AB AB AB ?_;refine AC.loop (α:=Nat×D×Nat×Nat) (λq=>⟨[(6,.sl false 1 (En P)),(10,.optr 1500 c0 2 0 0),(11,i64 ((q.1:Int)-1))],bH q.2.2.1 c0 q.2.1 (pre++Dy (P.drop q.1)) [],q.2.2.2⟩) (λq=>q.1)
    (λq=>q.1<=N/\(q.2.1=.prim (.pointer none)\/q.2.1=.optr 1500 c0 2 0 0)) (N,p0,gb0,_) ⟨Af _,hp0⟩ (by dsimp only;rw[<-hN,JB];unfold Dy;rw[List.reverse_nil,List.flatten_nil,DN];exact AL) ?_
   rintro⟨k,p,gb,c3⟩ F ⟨hk,hp⟩;dsimp only at hk hp⊢;have hjl:∀k,(Dy (P.drop k)).length<=(Dy P).length:=λk=>by
    unfold Dy
    conv=>rhs;rw[<-Ef k P]
    rw[List.reverse_append,List.flatten_append,B1];omega
   have hjP:(Dy P).length<=27000001:=by rw[<-hdn];omega
   rcases DY k with hk0|hk0
   ·subst hk0
    have e1:decide ((((0:Nat):Int)-1)>=0)=false:=by decide
    rw[FC];have hL:pre++Dy P≠[]:=λq=>by
     have:=(List.append_eq_nil_iff.1 q).2
     rw[<-hdn]at this;exact NM n this
    obtain⟨L,hLL⟩:∃L,pre++Dy P=L:=⟨_,rfl⟩
    rw[hLL]at hL⊢;obtain⟨y,r,hy⟩:=Vs hL;have hlr:L.length=r.length+1:=by rw[<-Mq,hy];rfl
    refine AR Am e1 AB AB AB AB AB AB ?_;refine A7.own _ (by
     have:=λn=>sS c0 gb n L hL p []
     unfold bH;simp only[hy,hlr]at this⊢;exact this _) ?_
    rintro d H' n' ⟨rfl,rfl,rfl⟩;refine AR Am kB AB AB AB AB AB AB ?_;exact AN rfl AA.out
   ·obtain⟨k',rfl⟩:∃k',k=k'+1:=⟨k-1,by omega⟩
    have e1:decide ((((k'+1:Nat):Int)-1)>=0)=true:=AZ (by omega);have e2:(((k'+1:Nat):Int)-1)=(k':Int):=by omega
    have wk:IntKind.i64.wrap ((k':Int)-1)=((k':Int)-1):=wI (by omega) (by omega);have e3:decide ((k':Int)>=0)=true:=AZ (by omega);obtain⟨t,ht⟩:∃t,P[k']?=some t:=Cg (by omega);have hm:(En P)[k']?=some (str (sb t)):=by rw[BK,ht];rfl
    have htn:=hall t (A8 ht);have hdr:P.drop k'=t::P.drop (k'+1):=by
     rw[D9 (List.getElem?_eq_some_iff.1 ht).1,(List.getElem?_eq_some_iff.1 ht).2]
    have hj:pre++Dy (P.drop k')=pre++Dy (P.drop (k'+1))++t:=by
     rw[hdr,D2]
     congr 1
     unfold Dy;rw[List.reverse_cons,List.flatten_append];simp
    have hlt:(pre++Dy (P.drop (k'+1))).length+t.length<=100000000:=by
     have h1:=hjl k';have h2:(pre++Dy (P.drop k')).length=(pre++Dy (P.drop (k'+1))).length+t.length:=by rw[hj,B1]
     rw[<-h2,B1];omega
    rw[e2];refine AR Am (Ah e3 kN) hm AB AB AB AB AB ?_;refine A7.own _ (aU c0 gb _ p hp (pre++Dy (P.drop (k'+1))) t htn [] hlt) ?_;rintro d H' n' ⟨⟨g',rfl⟩,hn'⟩;refine BJ ?_;refine AR Am wk AB AB AB AB AB AB ?_;exact⟨(k',.optr 1500 c0 2 0 0,g',_),⟨by dsimp only;omega,.inr rfl⟩,by dsimp only;omega,by(dsimp only;rw[hj];exact AL)⟩
  have e1:=hmpos m hm;have c1:=aL m B hB0 (DH (Gq m n I.le) hf) (by rw[hBl];show 1<1000000;decide);have I2:=I.step hm hB;obtain⟨q,hq⟩:∃q,m/B=q:=⟨_,rfl⟩
  obtain⟨r,hr⟩:∃q,m%B=q:=⟨_,rfl⟩
  have hqm:q<m:=by rw[<-hq];exact HE (Di hm) hB2
  have hrB:r<B:=by rw[<-hr];exact Bs _ (Di hB0)
  rw[hq,hr]at c1 I2;have hsz:=CS (Lib.decDigits r);have hdl:(Lib.decDigits r).length<=18:=LG 17 r (by rw[hB]at hrB;exact hrB);have hdl1:(Lib.decDigits r).length≠0:=λh=>NM r (FA h)
  refine AR Am e1 AB AB AB AB AB AB ?_;refine cI c1 ?_;refine sR 800 ?_;refine Cj (α:=Nat) (λcnt=>⟨[(3,Aq neg),(5,wD B),(6,Dc 1303 g 1 (En P)),(7,wD q),(9,str (sb (Lib.decDigits r)))],DW 1303 g 9 1 (En P),cnt⟩) (λ_=>True) ?_ ?_
  ·rcases Nat.decEq r 0 with h0|h0
   ·have e2:=hmpos r h0
    have hl1:Aa r=[r]:=LM h0 (FS hrB hB1);have hmm:((Aa r).map AQ)[0]?=some (u64 (r:Int)):=by rw[hl1];rfl
    have c2:=mV r (FS hrB hB1);refine AR Am e2 hmm c2 AB AB AB AB ?_;exact⟨by trivial,_,trivial,AL⟩
   ·subst h0
    rw[Vu];refine AR Am hm0 AB AB AB AB AB AB ?_;exact⟨by trivial,_,trivial,AL⟩
  rintro cnt2 -;refine Cj (α:=Nat) (λcnt=>⟨[(3,Aq neg),(5,wD B),(6,Dc 1303 g 1 (En P)),(7,wD q),(9,str (sb (FN q r)))],DW 1303 g 9 1 (En P),cnt⟩) (λ_=>True) ?_ ?_
  ·rcases Nat.decEq q 0 with h0|h0
   ·have e2:=hmpos q h0
    have c2:AK C0 211 [str ⟨#[48]⟩,i64 ((18-(Lib.decDigits r).length:Nat):Int)] (str (sb (List.replicate (18-(Lib.decDigits r).length) 48))):=kf (18-(Lib.decDigits r).length) (by omega);have w18:IntKind.i64.wrap (18-((Lib.decDigits r).length:Int))=((18-(Lib.decDigits r).length:Nat):Int):=by rw[wI (by omega) (by omega)];omega
    have hap:=Sw (List.replicate (18-(Lib.decDigits r).length) 48) (Lib.decDigits r);have hsz2:=CS (List.replicate (18-(Lib.decDigits r).length) 48);have hpt:List.replicate (18-(Lib.decDigits r).length) 48++Lib.decDigits r=FN q r:=by unfold FN;rw[AE h0]
    rw[hpt]at hap;have hsize:(sb (List.replicate (18-(Lib.decDigits r).length) 48)).size+(sb (Lib.decDigits r)).size<=9223372036854775807:=by
     rw[hsz,hsz2,MU];omega
    refine AR Am (Ba e2 hsz w18 hap) c2 AB AB AB AB AB ?_;exact⟨by trivial,_,trivial,AL⟩
   ·subst h0
    have hpt:FN 0 r=Lib.decDigits r:=AF rfl;rw[hpt];refine AR Am hm0 AB AB AB AB AB AB ?_;exact⟨by trivial,_,trivial,AL⟩
  rintro cnt3 -;have hsn:En (P++[FN q r])=En P++[str (sb (FN q r))]:=by unfold En;rw[DP];rfl
  have hPL:(En P).length=P.length:=An ..;rcases hPD:En P with _|⟨y,l⟩
  all_goals
   rw[hPD]at hsn hPL;dsimp only[IA,IB,Gu,Gv,List.nil_append]
  ·refine AR Am kB AB AB AB AB AB AB ?_
   exact⟨(q,P++[FN q r],_,_),I2,hqm,by(dsimp only;rw[hsn];exact AL)⟩
  ·have htk:List.take (l.length+1) (y::l)=y::l:=by simp
   have hll:l.length+1<=27000001:=by rw[Bj]at hPL;omega
   refine AR Am htk AB AB AB AB AB AB ?_;exact⟨(q,P++[FN q r],_,_),I2,hqm,by(dsimp only;rw[hsn,Mk];exact AL)⟩
abbrev Vz:Dr:=[(3,[0,1,2,3,4,5,6],[7,8])]
open Go.Proofs Go.RowKit
set_option maxRecDepth 20000
set_option maxHeartbeats 4000000
theorem ig (x:Nat)(hx:x<BB):AK C0 223 [AQ x] (i64 (Lib.bitLen x:Int)):=by
 refine⟨⟨_,_,Tryz.func223,rfl,by kernel_rfl⟩,λY w vs hG hnG hX hvs hr=>?_⟩
 have:=PE hvs hr
 subst this;refine(Tryz.bits_Len64 x w (by omega) (by unfold BB at hx;omega)).mono ?_;rintro e w' ⟨rfl,rfl⟩;exact⟨_,_,rfl,.refl _ _,rfl,.prim _⟩
def Ee (n:Nat):Nat:=(Aa n).getD ((Aa n).length-1) 0
def Ha (n:Nat):Nat:=if n=0 then 0 else 64*((Aa n).length-1)+Lib.bitLen (Ee n)
theorem jG (n:Nat):n<2^Ha n:=by
 unfold Ha
 by_cases h:n=0
 ·subst h;rw[AF rfl];decide
 ·rw[AE h]
  have hl:(Aa n).length≠0:=λq=>by
   have:=Fc h
   rw[this]at q;simp at q
  obtain⟨k,hk⟩:∃k,(Aa n).length=k+1:=⟨(Aa n).length-1,by omega⟩
  have hat:(Aa n)[k]?=some (Ee n):=by
   unfold Ee;rw[hk,Hn,ES,BD (by omega)];rfl
  have hv:=Jf hat;rw[Gj (by omega),EX]at hv;have ht:Ee n<BB:=Em n _ (A8 hat);have h1:AS ((Aa n).take k)<BB^k:=by
   have:=Gw (l:=(Aa n).take k) λa ha=>Em n a (Hx ha)
   rwa [Bg,Ei (by omega)]at this
  have h2:Ee n<2^Lib.bitLen (Ee n):=by
   by_cases t0:Ee n=0
   ·rw[t0];exact GJ _
   ·exact(Lib.bitLenAux_bounds 64 (Ee n) ht t0).2.2
  have h3:BB^k=2^(64*k):=by rw[Nat.pow_mul]
  rw[hk,Hn,FT,<-h3];have h4:n=AS ((Aa n).take k)+BB^k*Ee n:=by simpa[AS]using hv
  have h5:BB^k*(Ee n+1)<=BB^k*2^Lib.bitLen (Ee n):=CP _ h2;rw[BH,Du]at h5;omega
def It (n:Nat):Bool:=decide (600<(Lib.decDigits n).length)
theorem fH (n:Nat):It n=(decide (Ha n>1800)&&It n):=by
 by_cases h:Ha n>1800
 ·rw[AZ h,Hq]
 ·rw[Ad h,J6]
  have key:∀k,Ha n<=3*(k+1)->(Lib.decDigits n).length<=k+1:=λk hk=>LG k n (CM (jG n) (BP (Ew (by decide) hk) (by rw[Nat.pow_mul];exact MX (by decide) (k+1))))
  have h4:=key 599 (by omega);exact Ad (by omega)
theorem l9 (x:GI)(h:x.wf)(hf:x.few):AK C0 207 [x.D] (i64 (Ha x.z.natAbs:Nat)):=by
 refine Ai.walk w1 Yw rfl λF=>?_
 have c1:=Ic x h;obtain⟨n,hn⟩:∃n,x.z.natAbs=n:=⟨_,rfl⟩
 unfold GI.few at hf;rw[hn]at c1 hf⊢;have el:((((Aa n).map AQ).length:Nat):Int)=((Aa n).length:Int):=by rw[An]
 unfold wD wL at c1;dsimp only[GI.D]at c1⊢
 by_cases h0:n=0
 ·have e1:(((Aa n).length:Int)==0)=true:=by rw[h0,FH];rfl
  have hb:Ha n=0:=AF h0;rw[hb];refine AR Am (Ah e1 el) c1 AB AB AB AB AB ?_;exact AN rfl AA.out
 ·have hl:(Aa n).length≠0:=λq=>by
   have:=Fc h0
   rw[this]at q;simp at q
  have e1:(((Aa n).length:Int)==0)=false:=tJ hl;have wl:IntKind.i64.wrap (((Aa n).length:Int)-1)=(((Aa n).length-1:Nat):Int):=by rw[wI (by omega) (by omega)];omega
  have wm:IntKind.i64.wrap (64*(((Aa n).length-1:Nat):Int))=((64*((Aa n).length-1):Nat):Int):=by rw[wI (by omega) (by omega)];omega
  have hat:(Aa n)[(Aa n).length-1]?=some (Ee n):=by
   unfold Ee;rw[ES,BD (by omega)];rfl
  have hm:((Aa n).map AQ)[(Aa n).length-1]?=some (u64 (Ee n:Int)):=by rw[BK,hat];rfl
  have ht:Ee n<BB:=Em n _ (A8 hat);have c2:=ig (Ee n) ht;have hbl:=Lib.bitLen_le (Ee n) 64 (Af _) ht;have wa:IntKind.i64.wrap (((64*((Aa n).length-1):Nat):Int)+(Lib.bitLen (Ee n):Int))=((Ha n:Nat):Int):=by
   have hb:Ha n=64*((Aa n).length-1)+Lib.bitLen (Ee n):=AE h0;rw[hb,wI (by omega) (by omega)];omega
  refine AR Am (EU e1 el wl wm wa kN) c1 hm c2 AB AB AB ?_;exact AN rfl AA.out
theorem Ya (x:GI)(h:x.wf)(hf:x.few):AK C0 160 [x.D] (Aq (It x.z.natAbs)):=by
 refine Ai.walk w1 Xn rfl λF=>?_
 have c1:=l9 x h hf;have c2:=Ru x h hf;have hlen:(Lib.decDigits x.z.natAbs).length<=27*1000000+1:=Lj (k:=1000000) (by unfold GI.few at hf;omega);have hil:(Lib.itoa x.z).length<=27000002:=by
  unfold Lib.itoa;split
  ·rw[Bj];omega
  ·rw[show x.z.toNat=x.z.natAbs by omega];omega
 have c3:=Qz (Lib.itoa x.z) (by omega);rw[(LQ x.z).2]at c3;have hsz:=CS (Lib.decDigits x.z.natAbs);have hlb:=fH x.z.natAbs;obtain⟨b,hb⟩:∃b,It x.z.natAbs=b:=⟨_,rfl⟩
 have e2:decide (((Lib.decDigits x.z.natAbs).length:Int)>600)=b:=by rw[<-hb];exact Cn.2 (by omega)
 obtain⟨p,hp⟩:∃b,decide (Ha x.z.natAbs>1800)=b:=⟨_,rfl⟩
 have e1:decide (((Ha x.z.natAbs:Nat):Int)>1800)=p:=by rw[<-hp];exact Cn.2 (by omega)
 rw[hb,hp]at hlb;rw[hb,hlb];dsimp only[GI.D]at c1 c2⊢;cases p
 ·refine AR Am e1 c1 AB AB AB AB AB ?_
  exact AN rfl AA.out
 ·refine AR Am (Ar e1 e2 hsz) c1 c2 c3 AB AB AB ?_
  exact AN rfl AA.out
theorem YU {r:Rat}{x:GF}{k:Nat}(h:FR r x k)(hk:k<100000):x.n.wf/\x.n.few/\(AV (x.d:Int)).wf/\(AV (x.d:Int)).few/\x.n.z=r.num/\x.d=r.den/\0<x.d:=
 ⟨h.is.1,h.fn (by omega),CR _,by
  show(Aa ((x.d:Int)).natAbs).length<1000000;rw[D6];have:=h.ld;omega,h.is.2.1,h.is.2.2,h.dpos⟩
theorem W1 {r:Rat}{x:GF}{k:Nat}(h:FR r x k)(hk:k<100000):AK C0 113 [x.D] (Aq (DX r)):=by
 refine Ai.walk w1 XY rfl λF=>?_
 obtain⟨h1,h2,h3,h4,h5,h6,_⟩:=YU h hk;have c1:=Ya x.n h1 h2;have c2:=Ya (AV (x.d:Int)) h3 h4;have hb:DX r=(It x.n.z.natAbs||It (AV (x.d:Int)).z.natAbs):=by
  unfold DX It;rw[h5,<-h6];rfl
 rw[hb];obtain⟨p,hp⟩:∃b,It x.n.z.natAbs=b:=⟨_,rfl⟩
 obtain⟨q,hq⟩:∃b,It (AV (x.d:Int)).z.natAbs=b:=⟨_,rfl⟩
 rw[hp]at c1;rw[hq]at c2;rw[hp,hq];dsimp only[GI.D,GF.D]at c1 c2⊢;generalize AV (x.d:Int)=y at c2⊢;cases p<;>cases q
 all_goals
  refine AR Am kB c1 c2 AB AB AB AB ?_;exact AN rfl AA.out
theorem ZW {r:Rat}{x:GF}{k:Nat}(h:FR r x k)(hk:k<100000):AK C0 114 [x.D] (str (sb (BI r))):=by
 refine Ai.walk w1 XZ rfl λF=>?_
 obtain⟨h1,h2,h3,h4,h5,h6,h7⟩:=YU h hk;have c0:=RN x h7;have c1:=Ru x.n h1 h2;have c2:=Ru (AV (x.d:Int)) h3 h4;have hd:Lib.itoa (AV (x.d:Int)).z=Lib.decDigits r.den:=by
  show Lib.itoa (x.d:Int)=_;unfold Lib.itoa;rw[AE (by omega),h6];rfl
 rw[hd]at c2;rw[h5]at c1;have l1:(Lib.itoa r.num).length<=27000002:=by
  have:(Lib.decDigits x.n.z.natAbs).length<=27*1000000+1:=Lj (k:=1000000) (by unfold GI.few at h2;omega)
  rw[h5]at this;unfold Lib.itoa;split
  ·rw[Bj];omega
  ·rw[show r.num.toNat=r.num.natAbs by omega];omega
 have l2:(Lib.decDigits r.den).length<=27000001:=by
  have:(Lib.decDigits (AV (x.d:Int)).z.natAbs).length<=27*1000000+1:=Lj (k:=1000000) (by unfold GI.few at h4;omega)
  rw[<-h6];exact this
 have s1:=CS (Lib.itoa r.num);have s2:=CS (Lib.decDigits r.den);have s3:(sb [47]).size=1:=rfl;have s4:=CS (Lib.itoa r.num++[47]);have z1:(sb (Lib.itoa r.num)).size+(sb [47]).size<=9223372036854775807:=by rw[s1,s3];omega
 have z2:(sb (Lib.itoa r.num++[47])).size+(sb (Lib.decDigits r.den)).size<=9223372036854775807:=by rw[s4,s2,B1,GL];omega
 have a1:sb (Lib.itoa r.num)++(⟨#[47]⟩:ByteArray)=sb (Lib.itoa r.num++[47]):=Sw _ [47];have a2:=Sw (Lib.itoa r.num++[47]) (Lib.decDigits r.den);rw[D2]at a2;dsimp only[GI.D,GF.D]at c0 c1 c2⊢;generalize AV (x.d:Int)=y at c0 c2⊢;unfold BI
 by_cases g:x.d=1
 ·rw[AZ g]at c0
  rw[AF (h6 ▸ g)];refine AR Vz kB c0 c1 AB AB AB AB ?_;exact AN rfl AA.out
 ·rw[Ad g]at c0
  rw[AE (λq=>g (h6.trans q))];refine AR Vz (Ah a1 a2) c0 c1 c2 AB AB AB ?_;exact AN rfl AA.out
set_option maxHeartbeats 4000000
def nb (r:Rat)(n d:Nat):Prop:=r.num.natAbs<=n/\r.den<=d
def OR:Nat:=10^40
theorem jZ {l:List UInt8}(h:CN l=0)(hl:l.length<=40):nb (CE l) OR OR:=by
 obtain⟨m1,m2,m3,m4⟩:=Mr h;obtain⟨p1,p2⟩:=OW h;have hs1:(Br l).length<=40:=by
  have:(Br l).length<=l.length:=by
   unfold Br;have a1:(Bf (Bq l)).length<=(Bq l).length:=by unfold Bf;split<;>simp
   have a2:(Bq l).length<=l.length:=by unfold Bq;rw[Bg];omega
   omega
  omega
 have hb:∀k,k<=40->(10:Nat)^k<=OR:=λk hk=>Ew (by decide) hk
 refine⟨?_,?_⟩
 ·rw[m1,m4]
  exact BP (JC (Fi _ p1)) (hb _ hs1)
 ·rw[m2]
  unfold GC;cases hs:Cd l
  ·exact(by decide:1<=OR)
  ·have hs2:(BR l).length<=40:=by
    have:(BR l).length<=l.length:=by unfold BR;simp
    omega
   exact BP (JC (Fi _ (p2 hs))) (hb _ hs2)
theorem sH {r:Rat}{n d k:Nat}(h:nb r n d)(h1:n<BB^k)(h2:d<BB^k):rk r k:=
 ⟨GP (DH h.1 h1),GP (DH h.2 h2)⟩
theorem au {l:List UInt8}(h:CN l=0)(hl:l.length<=40):rk (CE l) 3:=sH (jZ h hl) (by decide) (by decide)
theorem XP (k:Nat)(hk:1<=k):FR 0 ⟨AV 0,1⟩ k:=⟨⟨CR _,by rw[DU];rfl,rfl⟩,by
 refine rk.mono (k:=1) ?_ hk;exact⟨GP (k:=1) (by decide),GP (k:=1) (by decide)⟩⟩
abbrev Fg:Dr:=[(11,[0,1,2,3,4,5,6,7,8,9,10],[11,12]),(21,[0,1],[2,3])]
open Go.Proofs Go.RowKit
set_option maxRecDepth 20000
set_option maxHeartbeats 4000000
def Nd (a b:List UInt8):Bool:=Kl (sb a) (sb b)||BM (sb a) (sb b)
def Ey (l:List BE)(i:Nat):Nat:=
 if DM (FE l i).lot=false then 8 else if 0<i/\Nd (FE l i).lot (FE l (i-1)).lot=true then 11 else if CN (FE l i).part≠0 then CN (FE l i).part else if GE (CE (FE l i).part)<=0 then 12 else 0
def Ec (l:List BE):Nat->Rat
 | 0=>0
 |n+1=>Ec l n+CE (FE l n).part
def Gy (l:List BE):Nat:=if l.length=0 then 2 else if 64<l.length then 5 else if DT (Ey l) l.length≠0 then DT (Ey l) l.length else if Ec l l.length=1 then 0 else 12
theorem Pa (l:List UInt8):AK C0 56 [str (sb l)] (Aq (DM l)):=fE (sb l)
theorem je (a b:Rat):(K0 a b==0)=decide (a=b):=by
 unfold K0
 by_cases h:a<b
 ·rw[AF h,Ad (Rat.ne_of_lt h)];rfl
 ·rw[AE h]
  by_cases h2:b<a
  ·rw[AF h2,Ad λe=>Rat.ne_of_lt h2 e.symm];rfl
  ·rw[AE h2,AZ (Rat.le_antisymm (Rat.not_lt.1 h2) (Rat.not_lt.1 h))];rfl
theorem qP {a b:Rat}{x y:GF}{i j:Nat}(hx:FR a x i)(hy:FR b y j)(hk:i+j<300000):AK C0 184 [x.D,y.D] (Aq (decide (a=b))):=by
 refine Ai.walk w1 Ye rfl λF=>?_
 have c:=lT hx hy hk;have e:=je a b;obtain⟨r,hr⟩:∃r,K0 a b=r:=⟨_,rfl⟩
 rw[hr]at c e;obtain⟨xD,hxD⟩:∃d,x.D=d:=⟨_,rfl⟩
 obtain⟨yD,hyD⟩:∃d,y.D=d:=⟨_,rfl⟩
 unfold GF.D at c hxD hyD⊢;refine AR Am e c AB AB AB AB AB ?_;exact AN rfl AA.out
theorem pF:FR 1 ⟨AV 1,1⟩ 1:=by
 have:=PS (z:=1) (by decide)
 exact this
theorem s9 (b:Bool)(l:List BE)(hl:l.length<=9223372036854775807)(hf:∀s∈l,s.few):AK C0 135 [Dg b l] (i64 (Gy l:Nat)):=by
 refine Ai.walk w1 Xb rfl λF=>?_
 have el:(((l.map BE.D).length:Nat):Int)=(l.length:Int):=by rw[An]
 have hC:Gy l=if l.length=0 then 2 else if 64<l.length then 5 else if DT (Ey l) l.length≠0 then DT (Ey l) l.length else if Ec l l.length=1 then 0 else 12:=rfl
 rcases Nat.decEq l.length 0 with h0|h0
 rotate_left
 ·rw[AF h0]at hC
  rw[hC];have q1:((l.length:Int)==0)=true:=by rw[h0];rfl
  refine AR Fg (Ah el q1) AB AB AB AB AB AB ?_;exact AN rfl AA.out
 rw[AE h0]at hC;have q1:((l.length:Int)==0)=false:=Bv.2 (by omega)
 by_cases h64:64<l.length
 ·rw[AF h64]at hC
  rw[hC];have q2:decide ((l.length:Int)>64)=true:=AZ (by omega);refine AR Fg (Ar el q1 q2) AB AB AB AB AB AB ?_;exact AN rfl AA.out
 rw[AE h64]at hC;have q2:decide ((l.length:Int)>64)=false:=Ad (by omega);have c0:=Np 0 ⟨by decide,by decide⟩;have c1:=Np 1 ⟨by decide,by decide⟩;refine AR Fg (Ar el q1 q2) c0 AB AB AB AB AB ?_;refine AC.loop (α:=Nat×GF×Nat) (λp=>⟨[(0,Dg b l),(3,.optr 501 8 4 0 0),(15,Dg b l),(16,i64 (l.length:Int)),(17,i64 (p.1:Int))],[⟨501,8,141,4,[p.2.1.D]⟩],p.2.2⟩) (λp=>l.length-p.1) (λp=>p.1<=l.length/\(∀j,j<p.1->Ey l j=0)/\FR (Ec l p.1) p.2.1 (601*p.1+1)) (0,⟨AV 0,1⟩,_)
  ⟨BZ _,λj h=>Ae h (Ht j),XP 1 (Af _)⟩ AL ?_
 rintro⟨i,y,m⟩ F ⟨hi,hz,hS⟩;dsimp only at hi hz hS⊢;rcases BL i l.length with h2|h2
 rotate_left
 ·have e1:=Cw h2
  have:i=l.length:=by omega
  subst this;rw[AE (λh=>h (LK hz))]at hC;have cS:=qP hS pF (by omega);obtain⟨q,hq⟩:∃q,decide (Ec l l.length=1)=q:=⟨_,rfl⟩
  rw[hq]at cS;cases q
  ·rw[AE (C7 hq)]at hC
   rw[hC];refine AR Fg e1 c1 cS AB AB AB AB ?_;exact AN rfl AA.out
  ·rw[AF (Cs hq)]at hC
   rw[hC];refine AR Fg e1 c1 cS AB AB AB AB ?_;exact AN rfl AA.out
 have e1:=Cx h2;have wi:=Cy (i:=i) (by omega);obtain⟨s,hs⟩:=Cg h2;have hm:(l.map BE.D)[i]?=some (.agg [str (sb s.lot),str (sb s.part)]):=by rw[BK,hs];rfl
 obtain⟨f1,f2⟩:=hf s (A8 hs);have hE:Ey l i=if DM s.lot=false then 8 else if 0<i/\Nd s.lot (FE l (i-1)).lot=true then 11 else if CN s.part≠0 then CN s.part else if GE (CE s.part)<=0 then 12 else 0:=by unfold Ey;rw[Il hs]
 have hbad:∀e:Nat,e≠0->Ey l i=e->Gy l=e:=λe he h=>by
  have:=M9 hz h2 (by rw[h];exact he)
  rw[hC,this,h,AF he]
 have cN:=Pa s.lot;obtain⟨N,hN⟩:∃q,DM s.lot=q:=⟨_,rfl⟩
 rw[hN]at cN hE;cases N
 ·rw[AF rfl]at hE
  rw[hbad 8 (by decide) hE];refine AR Fg (Ah e1 kN) hm cN AB AB AB AB ?_;exact AN rfl AA.out
 rw[AE (by decide)]at hE;have cC:=gJ s.part f2;rcases i with _|q
 ·have g0:decide (((0:Nat):Int)>0)=false:=rfl
  rw[AE (λh=>Ae h.1 (Nat.lt_irrefl 0))]at hE;rcases Nat.decEq (CN s.part) 0 with hc0|hc0
  ·rw[AF hc0]at hE
   have e3:=Fr hc0;rw[hbad (CN s.part) hc0 hE];refine AR Fg (Ba e1 g0 kN e3) hm cN cC AB AB AB ?_;exact AN rfl AA.out
  rw[AE (λh=>h hc0)]at hE;have e3:=Fs hc0;have cP:=Pl f2 hc0;have fP:=Pz hc0;have cG:=Wa fP.is;have cA:=Pg hS fP (by omega);have fA:=PJ hS fP;obtain⟨z,hzz⟩:∃z,Iw y (Fj s.part)=z:=⟨_,rfl⟩
  rw[hzz]at cA fA;obtain⟨sg,hsg⟩:∃q,GE (CE s.part)=q:=⟨_,rfl⟩
  rw[hsg]at cG hE
  by_cases hs0:sg<=0
  ·rw[AF hs0]at hE
   have e4:decide (sg<=0)=true:=AZ hs0;rw[hbad 12 (by decide) hE];refine AR Fg (CH e1 g0 kN e3 e4) hm cN cC cP cG AB ?_;exact AN rfl AA.out
  rw[AE hs0]at hE;have e4:decide (sg<=0)=false:=Ad hs0;refine AR Fg (EU e1 g0 kN e3 e4 wi) hm cN cC cP cG AB ?_;refine cI cA ?_;refine AR Fg wi AB AB AB AB AB AB ?_;exact⟨(0+1,z,_),⟨h2,λj hj=>by
   rcases Nat.lt_succ_iff_lt_or_eq.1 hj with q|q
   ·exact hz j q
   ·rw[q];exact hE,by
   show FR (Ec l 0+CE (FE l 0).part) z _;rw[Il hs];exact⟨fA.is,fA.rk.mono (by dsimp only;omega)⟩⟩,by dsimp only;omega,AL⟩
 ·have g0:decide (((q+1:Nat):Int)>0)=true:=AZ (by omega)
  have g1:IntKind.i64.wrap (((q+1:Nat):Int)-1)=(q:Int):=by rw[wI (by omega) (by omega)];omega
  obtain⟨s0,hs0'⟩:=Cg (l:=l) (i:=q) (by omega);have hm0:(l.map BE.D)[q]?=some (.agg [str (sb s0.lot),str (sb s0.part)]):=by rw[BK,hs0'];rfl
  rw[Hn,Il hs0']at hE;obtain⟨bL,hbL⟩:∃q,Nd s.lot s0.lot=q:=⟨_,rfl⟩
  have g2:(Kl (sb s.lot) (sb s0.lot)||BM (sb s.lot) (sb s0.lot))=bL:=hbL;rw[hbL]at hE;cases bL
  rotate_left
  ·rw[AF ⟨Nat.succ_pos q,rfl⟩]at hE
   rw[hbad 11 (by decide) hE];refine AR Fg (CH e1 g0 g1 g2 kN) hm hm0 cN AB AB AB ?_;exact AN rfl AA.out
  rw[AE (λh=>Ae h.2 (by decide))]at hE;rcases Nat.decEq (CN s.part) 0 with hc0|hc0
  ·rw[AF hc0]at hE
   have e3:=Fr hc0;rw[hbad (CN s.part) hc0 hE];refine AR Fg (EU e1 g0 g1 g2 kN e3) hm hm0 cN cC AB AB ?_;exact AN rfl AA.out
  rw[AE (λh=>h hc0)]at hE;have e3:=Fs hc0;have cP:=Pl f2 hc0;have fP:=Pz hc0;have cG:=Wa fP.is;have cA:=Pg hS fP (by omega);have fA:=PJ hS fP;obtain⟨z,hzz⟩:∃z,Iw y (Fj s.part)=z:=⟨_,rfl⟩
  rw[hzz]at cA fA;obtain⟨sg,hsg⟩:∃q,GE (CE s.part)=q:=⟨_,rfl⟩
  rw[hsg]at cG hE
  by_cases hs0:sg<=0
  ·rw[AF hs0]at hE
   have e4:decide (sg<=0)=true:=AZ hs0;rw[hbad 12 (by decide) hE];refine AR Fg (Ce e1 g0 g1 g2 kN e3 e4) hm hm0 cN cC cP cG ?_;exact AN rfl AA.out
  rw[AE hs0]at hE;have e4:decide (sg<=0)=false:=Ad hs0;refine AR Fg (Ce e1 g0 g1 g2 kN e3 (Ah e4 wi)) hm hm0 cN cC cP cG ?_;refine cI cA ?_;refine AR Fg wi AB AB AB AB AB AB ?_;exact⟨(q+1+1,z,_),⟨h2,λj hj=>by
   rcases Nat.lt_succ_iff_lt_or_eq.1 hj with q|q
   ·exact hz j q
   ·rw[q];exact hE,by
   show FR (Ec l (q+1)+CE (FE l (q+1)).part) z _;rw[Il hs];exact⟨fA.is,fA.rk.mono (by dsimp only;omega)⟩⟩,by dsimp only;omega,AL⟩
def AG.few (x:AG):Prop:=x.grain.length<=100000/\x.shs.length<=9223372036854775807/\∀s∈x.shs,s.few
def CU (x:AG):Nat:=if DM x.grain=false then 8 else if x.mass<1\/x.mass>999999999 then 3 else Gy x.shs
def CC (l:List AG)(k:Nat):AG:=l.getD k ⟨[],0,[]⟩
theorem E5 {l:List AG}{k:Nat}{x:AG}(h:l[k]?=some x):CC l k=x:=by unfold CC;rw[ES,h];rfl
def Av (l:List AG):Int:=(l.map (·.mass)).sum
theorem Rh {l:List AG}{i:Nat}{x:AG}(h:l[i]?=some x):Av (l.take (i+1))=Av (l.take i)+x.mass:=by
 unfold Av;rw[D7,h,DP,List.sum_append];simp
def Gz (l:List AG):Prop:=l.length<=1000000/\∀x∈l,x.mass.natAbs<=1000000000
theorem R8 {l:List AG}(h:∀x∈l,x.mass.natAbs<=1000000000):(Av l).natAbs<=l.length*1000000000:=by
 unfold Av
 induction l with
 |nil=>simp
 |cons a l ih=>
  have h1:=h a (by simp);have h2:=ih λx hx=>h x (by simp[hx])
  simp only[Cb,List.sum_cons,Bj];omega
def B4 (l:List AG):Nat:=if 64<l.length then 5 else if DT (λi=>CU (CC l i)) l.length≠0 then DT (λi=>CU (CC l i)) l.length else if Av l>999999999 then 4 else 0
theorem M1 {x:AG}(h:CU x=0):DM x.grain=true/\1<=x.mass/\x.mass<=999999999/\Gy x.shs=0:=by
 unfold CU at h;split at h
 ·cases h
 ·rename_i h1
  split at h
  ·cases h
  ·rename_i h2
   exact⟨by simpa using h1,by omega,by omega,h⟩
theorem Hb (b:Bool)(e:Int):AK C0 55 [Aq b,i64 e] (i64 (if b then e else 0)):=by
 refine Ai.walk w1 Zn rfl λF=>?_
 cases b
 ·refine AR Am kB AB AB AB AB AB AB ?_
  exact AN rfl AA.out
 ·refine AR Am kB AB AB AB AB AB AB ?_
  exact AN rfl AA.out
theorem NK (v:List Int)(hl:v.length<=1000):AK C0 54 [.sl true 1 (v.map λe=>i64 e)] (i64 (E4 v)):=by
 refine Ai.walk w1 Zm rfl λF=>?_
 have el:(((v.map λe=>i64 e).length:Nat):Int)=(v.length:Int):=by rw[An]
 refine AR Am el AB AB AB AB AB AB ?_;refine AC.loop (α:=Nat×Nat) (λp=>⟨[(5,.sl true 1 (v.map λe=>i64 e)),(6,i64 (v.length:Int)),(7,i64 (p.1:Int))],[],p.2⟩) (λp=>v.length-p.1) (λp=>p.1<=v.length/\∀(j:Nat) (e:Int),j<p.1->v[j]?=some e->e=0) (0,_) ⟨BZ _,λj e h=>Ae h (Ht j)⟩ AL ?_;rintro⟨i,m⟩ F ⟨hi,ha⟩;dsimp only at hi ha⊢;rcases BL i v.length with h2|h2
 rotate_left
 ·have e1:=Cw h2
  have:i=v.length:=by omega
  subst this;have hd:E4 v=0:=by rw[UG ha,JB];rfl
  rw[hd];refine AR Am e1 AB AB AB AB AB AB ?_;exact AN rfl AA.out
 have e1:=Cx h2;have wi:=Cy (i:=i) (by omega);obtain⟨l,hl'⟩:=Cg h2;have hm:(v.map λe=>i64 e)[i]?=some (i64 l):=by rw[BK,hl'];rfl
 by_cases g:l=0
 ·have e5:(l != 0)=false:=by rw[g];rfl
  refine AR Am (Ba e1 wi e5 kN) hm AB AB AB AB AB ?_;exact⟨(i+1,_),⟨h2,λj e hj he=>by
   rcases Nat.lt_succ_iff_lt_or_eq.1 hj with q|q
   ·exact ha j e q he
   ·subst q;rw[hl']at he;cases he;exact g⟩,by dsimp only;omega,AL⟩
 ·have e5:(l != 0)=true:=KZ g
  have hd:E4 v=l:=by
   rw[UG ha,D9 h2];rw[BD h2]at hl';rw[FX hl'];exact AF g
  rw[hd];refine AR Am (Ba e1 wi e5 kN) hm AB AB AB AB AB ?_;exact AN rfl AA.out
theorem Xw (b:Bool)(l:List AG)(hs:Gz l):AK C0 59 [Ax b l] (i64 (Av l)):=by
 refine Ai.walk w1 TE rfl λF=>?_
 have el:(((l.map AG.D).length:Nat):Int)=(l.length:Int):=by rw[An]
 obtain⟨hl,hm0⟩:=hs;refine AR Am el AB AB AB AB AB AB ?_;refine AC.loop (α:=Nat×Nat) (λp=>⟨[(3,i64 (Av (l.take p.1))),(6,Ax b l),(7,i64 (l.length:Int)),(8,i64 (p.1:Int))],[],p.2⟩) (λp=>l.length-p.1) (λp=>p.1<=l.length) (0,_) (BZ _) AL ?_;rintro⟨i,m⟩ F hi;dsimp only at hi⊢;rcases BL i l.length with h2|h2
 rotate_left
 ·have e1:=Cw h2
  have:i=l.length:=by omega
  subst this;rw[Dk];refine AR Am e1 AB AB AB AB AB AB ?_;exact AN rfl AA.out
 have e1:=Cx h2;have wi:=Cy (i:=i) (by omega);obtain⟨x,hx⟩:=Cg h2;have hm:(l.map AG.D)[i]?=some (.agg [str (sb x.grain),i64 x.mass,.sl false 2 (x.shs.map BE.D)]):=by rw[BK,hx];rfl
 have hb:=R8 (l:=l.take i) λy hy=>hm0 y (Hx hy)
 have hxm:=hm0 x (A8 hx);rw[Bg,Ei hi]at hb;have wS:IntKind.i64.wrap (Av (l.take i)+x.mass)=Av (l.take (i+1)):=by rw[Rh hx,wI (by omega) (by omega)]
 refine AR Am (Ba e1 wi @wS kN) hm AB AB AB AB AB ?_;exact⟨(i+1,_),h2,by dsimp only;omega,AL⟩
theorem aP (x:AG)(hf:x.few):AK C0 85 [x.D] (i64 (CU x:Nat)):=by
 refine Ai.walk w1 Z5 rfl λF=>?_
 obtain⟨f1,f2,f3⟩:=hf;have cN:=Pa x.grain;have cS:=s9 false x.shs f2 f3;have hC:CU x=if DM x.grain=false then 8 else if x.mass<1\/x.mass>999999999 then 3 else Gy x.shs:=rfl
 obtain⟨N,hN⟩:∃q,DM x.grain=q:=⟨_,rfl⟩
 obtain⟨SD,hSD⟩:∃d,Dg false x.shs=d:=⟨_,rfl⟩
 have pS:AA SD:=by rw[<-hSD];exact AH
 have hna:Ij SD=true:=by rw[<-hSD];rfl
 unfold AG.D;rw[hN]at cN hC;rw[hSD]at cS⊢;cases N
 ·rw[AF rfl]at hC
  rw[hC];refine AR Am kB cN AB AB AB AB AB ?_;exact AN rfl AA.out
 rw[AE (by decide)]at hC
 by_cases h1:x.mass<1
 ·rw[AF (.inl h1)]at hC
  rw[hC];have e1:decide (x.mass<1)=true:=AZ h1;refine AR Am e1 cN AB AB AB AB AB ?_;exact AN rfl AA.out
 have e1:decide (x.mass<1)=false:=Ad h1
 by_cases h2:x.mass>999999999
 ·rw[AF (.inr h2)]at hC
  rw[hC];have e2:decide (x.mass>999999999)=true:=AZ h2;refine AR Am (Ah e1 e2) cN AB AB AB AB AB ?_;exact AN rfl AA.out
 have e2:decide (x.mass>999999999)=false:=Ad h2;rw[AE (by omega)]at hC;rw[hC];refine AR Am (Ar e1 e2 hna) cN cS AB AB AB AB ?_;exact AN rfl AA.out
theorem RS {l:List AG}(h64:¬ 64<l.length)(hz:∀j,j<l.length->CU (CC l j)=0):Gz l:=by
 refine⟨by omega,λx hx=>?_⟩;obtain⟨j,hj⟩:=List.mem_iff_getElem?.1 hx
 have:=hz j (List.getElem?_eq_some_iff.1 hj).1
 rw[E5 hj]at this
 have:=M1 this
 omega
theorem MC (b:Bool)(l:List AG)(hl:l.length<=9223372036854775807)(hf:∀x∈l,x.few):AK C0 37 [Ax b l] (i64 (B4 l:Nat)):=by
 refine Ai.walk w1 Zk rfl λF=>?_
 have el:(((l.map AG.D).length:Nat):Int)=(l.length:Int):=by rw[An]
 have hC:B4 l=if 64<l.length then 5 else if DT (λi=>CU (CC l i)) l.length≠0 then DT (λi=>CU (CC l i)) l.length else if Av l>999999999 then 4 else 0:=rfl
 by_cases h64:64<l.length
 ·rw[AF h64]at hC
  rw[hC];have q2:decide ((l.length:Int)>64)=true:=AZ (by omega);refine AR Am (Ah el q2) AB AB AB AB AB AB ?_;exact AN rfl AA.out
 rw[AE h64]at hC;have q2:decide ((l.length:Int)>64)=false:=Ad (by omega);refine AR Am (Ah el q2) AB AB AB AB AB AB ?_;refine AC.loop (α:=Nat×Nat) (λp=>⟨[(0,Ax b l),(9,Ax b l),(10,i64 (l.length:Int)),(11,i64 (p.1:Int))],[],p.2⟩) (λp=>l.length-p.1) (λp=>p.1<=l.length/\∀j,j<p.1->CU (CC l j)=0) (0,_) ⟨BZ _,λj h=>Ae h (Ht j)⟩ AL ?_;rintro⟨i,m⟩ F ⟨hi,hz⟩;dsimp only at hi hz⊢;rcases BL i l.length with h2|h2
 rotate_left
 ·have e1:=Cw h2
  have:i=l.length:=by omega
  subst this;rw[AE (λh=>h (LK (f:=λi=>CU (CC l i)) hz))]at hC;have cT:=Xw b l (RS h64 hz);obtain⟨q,hq⟩:∃q,decide (Av l>999999999)=q:=⟨_,rfl⟩
  have cW:=Hb q 4;have hR:((B4 l:Nat):Int)=if q then 4 else 0:=by
   rw[hC,<-hq]
   by_cases h:Av l>999999999
   ·rw[AF h,AZ h];rfl
   ·rw[AE h,Ad h];rfl
  rw[hR];refine AR Am (Ah e1 hq) cT cW AB AB AB AB ?_;exact AN rfl AA.out
 have e1:=Cx h2;have wi:=Cy (i:=i) (by omega);obtain⟨x,hx⟩:=Cg h2;have hm:(l.map AG.D)[i]?=some (.agg [str (sb x.grain),i64 x.mass,.sl false 2 (x.shs.map BE.D)]):=by rw[BK,hx];rfl
 have cL:=aP x (hf x (A8 hx));unfold AG.D at cL;rcases Nat.decEq (CU x) 0 with hc0|hc0
 ·have e3:=Fr hc0
  have:=M9 (f:=λi=>CU (CC l i)) hz h2 (by rw[E5 hx];exact hc0)
  rw[E5 hx]at this;rw[this,AF hc0]at hC;rw[hC];refine AR Am (Ar e1 e3 kN) hm cL AB AB AB AB ?_;exact AN rfl AA.out
 have e3:=Fs hc0;refine AR Am (Ba e1 e3 wi kN) hm cL AB AB AB AB ?_;exact⟨(i+1,_),⟨h2,λj hj=>by
  rcases Nat.lt_succ_iff_lt_or_eq.1 hj with q|q
  ·exact hz j q
  ·rw[q,E5 hx];exact hc0⟩,by dsimp only;omega,AL⟩
theorem Vq {α:Type}{l:List α}{p:α->Bool}{k:Nat}{x:α}(hx:l[k]?=some x)(h:(l.take k).all p=true)(hp:p x=true):(l.take (k+1)).all p=true:=by
 rw[D7,hx,J8,h];simp[hp]
theorem SB {α:Type}{l:List α}{p:α->Bool}{k:Nat}{x:α}(hx:l[k]?=some x)(hp:p x=false):l.all p=false:=by
 cases h:l.all p
 ·rfl
 ·rw[CI.1 h x (A8 hx)]at hp;exact hp
abbrev LX:Dr:=[(8,[0,1,2,3,4,5,6,7],[8])]
open Go.Proofs Go.RowKit
set_option maxRecDepth 20000
set_option maxHeartbeats 4000000
abbrev Bp:=List (List UInt8×Rat)
def FK (lot:List UInt8):Bp->Option Rat
 | []=>none
 |p::l=>if lot=p.1 then some p.2 else FK lot l
def Fo (lot:List UInt8)(r:Rat):Bp->Bp
 | []=>[(lot,r)]
 |p::l=>if lot=p.1 then(lot,r)::l else p::Fo lot r l
def I1 (lot:List UInt8)(r:Rat)(q:Bp):Bp:=Fo lot (match FK lot q with|some o=>r+o|none=>r) q
def Fk (x:AG)(n:Nat)(q:Bp):Bp:=(x.shs.take n).foldl (λacc s=>I1 s.lot (CE s.part*(x.mass:Rat)) acc) q
def B7 (l:List AG):Bp:=l.foldl (λacc x=>Fk x x.shs.length acc) []
def MQ (B:Nat):Bp->Cq->Prop
 | [],[]=>True
 |p::q,e::m=>(e.1=sb p.1/\∃y:GF,e.2=y.D/\FR p.2 y B)/\MQ B q m
 |_,_=>False
theorem MQ.mono {B B':Nat}(hB:B<=B'):∀ {q:Bp} {m:Cq},MQ B q m->MQ B' q m
 | [],[],_=>trivial
 |_::_,_::_,⟨⟨h1,y,h2,h3⟩,h4⟩=>⟨⟨h1,y,h2,h3.is,h3.rk.mono hB⟩,MQ.mono hB h4⟩
theorem MQ.look {B:Nat}(lot:List UInt8):∀ {q:Bp} {m:Cq},MQ B q m->(HH (sb lot) m=none/\FK lot q=none)\/∃(r:Rat) (y:GF),HH (sb lot) m=some y.D/\FK lot q=some r/\FR r y B
 | [],[],_=>.inl ⟨rfl,rfl⟩
 |p::q,e::m,⟨⟨h1,y,h2,h3⟩,h4⟩=>by
  unfold HH FK;rw[h1,Eb]
  by_cases hl:lot=p.1
  ·rw[AZ hl,AF hl]
   exact .inr ⟨p.2,y,by rw[h2];rfl,rfl,h3⟩
  ·rw[Ad hl,AE hl]
   exact MQ.look lot h4
theorem MQ.set {B:Nat}(lot:List UInt8){r:Rat}{y:GF}(hr:FR r y B):∀ {q:Bp} {m:Cq},MQ B q m->MQ B (Fo lot r q) (Es (sb lot) y.D m)
 | [],[],_=>⟨⟨rfl,y,rfl,hr⟩,trivial⟩
 |p::q,e::m,⟨⟨h1,y',h2,h3⟩,h4⟩=>by
  unfold Fo Es;rw[h1,Eb]
  by_cases hl:lot=p.1
  ·rw[AZ hl,AF hl]
   exact⟨⟨rfl,y,rfl,hr⟩,h4⟩
  ·rw[Ad hl,AE hl]
   exact⟨⟨h1,y',h2,h3⟩,MQ.set lot hr h4⟩
theorem MQ.pure {B:Nat}:∀ {q:Bp} {m:Cq},MQ B q m->∀e∈m,Bw e.2
 | [],[],_,e,he=>by cases he
 |p::q,e::m,⟨⟨_,y,h2,_⟩,h4⟩,x,hx=>by
  rcases BA.1 hx with rfl|hx
  ·rw[h2];exact AA.out
  ·exact MQ.pure h4 x hx
theorem MQ.mapD {B:Nat}{q:Bp}{m:Cq}(h:MQ B q m):Bw (mapD m):=by
 refine Bw.mp (λd hd=>?_) λd hd=>?_
 ·obtain⟨p,-,rfl⟩:=List.mem_map.1 hd;exact AA.out
 ·obtain⟨p,hp,rfl⟩:=List.mem_map.1 hd;exact h.pure p hp
def BE.ok (s:BE):Prop:=s.lot.length<=100000/\s.part.length<=40/\CN s.part=0
def AG.ok (x:AG):Prop:=x.shs.length<=64/\Sm x.mass/\∀s∈x.shs,s.ok
def AG.okW (w:Nat)(x:AG):Prop:=x.shs.length<=64/\Sm x.mass/\∀s∈x.shs,s.lot.length<=100000/\s.part.length<=100000/\CN s.part=0/\rk (CE s.part) (w-2)
theorem Mn (x:AG)(n:Nat)(q:Bp){s:BE}(h:x.shs[n]?=some s):Fk x (n+1) q=I1 s.lot (CE s.part*(x.mass:Rat)) (Fk x n q):=by
 unfold Fk;rw[D7,h,List.foldl_append];rfl
theorem Oa (l:List AG)(n:Nat){x:AG}(h:l[n]?=some x):B7 (l.take (n+1))=Fk x x.shs.length (B7 (l.take n)):=by
 unfold B7;rw[D7,h,List.foldl_append];rfl
theorem ZI (w:Nat)(b:Bool)(l:List AG)(hl:l.length<=100)(hx:∀x∈l,x.okW w)(h2w:2<=w)(hw:w*(64*(l.length+1))<=100000):Ai C0 62 [Ax b l] (λd=>∃m,d=mapD m/\MQ (w*(64*l.length)) (B7 l) m):=by
 refine Ai.walk w1 Zt rfl λF0=>?_
 have el:(((l.map AG.D).length:Nat):Int)=(l.length:Int):=by rw[An]
 refine sZ 0 ?_;refine AD kB ?_;refine AC.seq ?_;refine HC (by kernel_rfl) ?_;change BW _ _ _ _ _ [0,1] _ _;refine BW.makeMap 100 rfl rfl rfl (Tf F0) (λF1 it hto hO hr0 hnX hM=>?_);change BW _ _ _ _ _ ([1]++[]) _ _;refine Ev w1 100 [1] [] ?_;refine AD kB ?_;refine BW.nil ?_;refine AR LX el AB AB AB AB AB AB ?_;refine Ft (α:=Nat×Cq×Obj×Nat) (λp=>⟨[(3,.prim (.map (some it))),(12,Ax b l),(13,i64 (l.length:Int)),(14,i64 (p.1:Int))],[],p.2.2.2⟩) (λp=>l.length-p.1)
  (λp F=>p.1<=l.length/\Co C0 F0 F [⟨100,1,p.2.2.1⟩]/\F.r0 100 1=some it/\G3 F p.2.2.1 p.2.1/\MQ (w*(64*p.1)) (B7 (l.take p.1)) p.2.1) (0,[],.map #[] 0,_) ⟨BZ _,hO,hr0,hM,trivial⟩ AL ?_
 clear hO hr0 hM hto;rintro⟨i,m,o,n1⟩ F ⟨hi,hO,hr0,hM,hQ⟩;dsimp only at hi hO hr0 hM hQ⊢;rcases BL i l.length with h2|h2
 rotate_left
 ·have e1:=Cw h2
  have:i=l.length:=by omega
  subst this;rw[Dk]at hQ;refine sZ 300 ?_;refine AD e1 ?_;refine AC.seq ?_;refine AI ?_;refine By ?_;refine ah [(3,mapD m)] hO hr0 hnX hM ⟨.inr ⟨rfl,rfl⟩,trivial⟩ (λF2 hto2 hO2=>?_);refine AR LX kB AB AB AB AB AB AB ?_;exact⟨mapD m,.refl _,hQ.mapD,m,rfl,hQ⟩
 have e1:=Cx h2;have wi:=Cy (i:=i) (by omega);obtain⟨x,hxi⟩:=Cg h2;obtain⟨x1,x2,x3⟩:=hx x (A8 hxi);have hm:(l.map AG.D)[i]?=some (.agg [str (sb x.grain),i64 x.mass,.sl false 2 (x.shs.map BE.D)]):=by rw[BK,hxi];rfl
 have es:(((x.shs.map BE.D).length:Nat):Int)=(x.shs.length:Int):=by rw[An]
 refine AR LX (Ar e1 es kN) hm AB AB AB AB AB ?_;obtain⟨ga,hga⟩:∃g,n1+1+1+1=g:=⟨_,rfl⟩
 refine Ft (α:=Nat×Cq×Obj×Nat) (λp=>⟨[(3,.prim (.map (some it))),(5,.optr 402 (n1+1+1+1) 3 0 0),(12,Ax b l),(13,i64 (l.length:Int)),(14,i64 (i:Int)),(19,.sl false 2 (x.shs.map BE.D)),(20,i64 (x.shs.length:Int)),(21,i64 (p.1:Int))],[⟨402,n1+1+1+1,27,3,[.agg [str (sb x.grain),i64 x.mass,.sl false 2 (x.shs.map BE.D)]]⟩],p.2.2.2⟩) (λp=>x.shs.length-p.1)
  (λp F=>p.1<=x.shs.length/\Co C0 F0 F [⟨100,1,p.2.2.1⟩]/\F.r0 100 1=some it/\G3 F p.2.2.1 p.2.1/\MQ (w*(64*i+p.1)) (Fk x p.1 (B7 (l.take i))) p.2.1) (0,m,o,_) ⟨BZ _,hO,hr0,hM,hQ⟩ AL ?_
 clear hO hr0 hM hQ;rintro⟨j,m2,o2,n2⟩ F ⟨hj,hO,hr0,hM,hQ⟩;dsimp only at hj hO hr0 hM hQ⊢;rw[hga];rcases BL j x.shs.length with h3|h3
 rotate_left
 ·have e2:=Cw h3
  have:j=x.shs.length:=by omega
  subst this;rw[<-Oa l i hxi]at hQ;refine AR LX (Ah e2 wi) AB AB AB AB AB AB ?_;exact⟨(i+1,m2,o2,_),⟨h2,hO,hr0,hM,hQ.mono (CP _ (by dsimp only;omega))⟩,by dsimp only;omega,AL⟩
 have e2:=Cx h3;have wj:=Cy (i:=j) (by omega);obtain⟨s,hsj⟩:=Cg h3;obtain⟨s1,s2,s3,s4⟩:=x3 s (A8 hsj);have hms:(x.shs.map BE.D)[j]?=some (.agg [str (sb s.lot),str (sb s.part)]):=by rw[BK,hsj];rfl
 have hsn:=Mn x j (B7 (l.take i)) hsj;have fP:FR (CE s.part) (Fj s.part) (w-2):=⟨(Pz s3).is,s4⟩
 obtain⟨PW,hPW⟩:∃P,w*(64*i+j)=P:=⟨_,rfl⟩
 have hPW1:w*(64*i+(j+1))=PW+w:=by rw[<-hPW,<-ED,Nat.mul_succ]
 have hPWb:PW+w<=100000:=by
  rw[<-hPW1];exact BP (CP _ (by omega)) hw
 rw[hPW]at hQ;have fM:FR ((x.mass:Int):Rat) ⟨AV x.mass,1⟩ 1:=PS (by unfold Sm at x2;omega);have c1:=Pl s2 s3;have c2:=Np x.mass x2;have c3:=SP fP fM (by omega);have fZ:FR (CE s.part*(x.mass:Rat)) (Hh (Fj s.part) ⟨AV x.mass,1⟩) (w-2+1):=R2 fP fM;obtain⟨z,hz⟩:∃z,Hh (Fj s.part) ⟨AV x.mass,1⟩=z:=⟨_,rfl⟩
 rw[hz]at c3 fZ;obtain⟨d1,hd1⟩:∃d,(Fj s.part).D=d:=⟨_,rfl⟩
 obtain⟨d2,hd2⟩:∃d,(⟨AV x.mass,1⟩:GF).D=d:=⟨_,rfl⟩
 have pd1:AA d1:=by rw[<-hd1];exact AH
 have pd2:AA d2:=by rw[<-hd2];exact AH
 rw[hd1]at c1 c3;rw[hd2]at c2 c3;refine sZ 600 ?_;refine AD e2 ?_;refine AC.seq ?_;refine AI ?_;refine Aj ?_;refine AC.seq ?_;refine AC.block ?_;refine sZ 700 ?_;refine Bi kT hms ?_;refine AD kB ?_;refine AC.seq ?_;refine Bx w1 800 [0,1,2,3,4,5,6,7] [8] (by kernel_rfl) ?_;refine AD kB ?_;refine BQ.same _ (c1) AH ?_;refine BJ ?_;refine AD kB ?_;refine BQ.same _ (c2) AH ?_;refine BJ ?_;refine AD kB ?_;refine BQ.same _ (c3) AH ?_;refine BJ ?_;refine AD kB ?_;refine AC.seq ?_;refine AC.seq ?_;refine HC (by kernel_rfl) ?_;change BW _ _ _ _ _ ([0,1,2]++(3::([4,5,6,7,8,9]++[]))) _ _;refine Ev w1 900 [0,1,2] _ ?_;refine AD kB ?_;refine BW.look (xo:=⟨100,1,o2⟩) (l:=m2) w1 rfl rfl rfl rfl rfl rfl hO Cc hr0 hM ?_;rcases hQ.look s.lot with⟨q1,q2⟩|⟨r,y,q1,q2,q3⟩
 ·rw[Uo q1]
  refine Ev w1 900 [4,5,6,7,8,9] [] ?_;refine AD kB ?_;refine BW.nil ?_;refine Ap ?_;refine sZ 1000 ?_;refine AD kB ?_;refine AI ?_;refine Aj ?_;refine HC (by kernel_rfl) ?_;change BW _ _ _ _ _ ([0,1,2,3]++(4::[])) _ _;refine Ev w1 1200 [0,1,2,3] _ ?_;refine AD kB ?_;refine BW.put (l:=m2) w1 rfl rfl rfl rfl rfl rfl hO hr0 hM (λF3 o3 hto3 hO3 hr3 hM3=>BW.nil ?_);refine Ap ?_;have hQ2:MQ (w*(64*i+(j+1))) (Fk x (j+1) (B7 (l.take i))) (Es (sb s.lot) z.D m2):=by
   rw[hsn,hPW1];unfold I1;rw[q2];exact MQ.set s.lot ⟨fZ.is,fZ.rk.mono (by omega)⟩ (hQ.mono (by omega))
  refine AR LX wj AB AB AB AB AB AB ?_;exact⟨(j+1,Es (sb s.lot) z.D m2,o3,_),⟨h3,hO3,hr3,hM3,hQ2⟩,by dsimp only;omega,AL⟩
 ·rw[Uq q1]
  refine Ev w1 900 [4,5,6,7,8,9] [] ?_;refine AD kB ?_;refine BW.nil ?_;have c4:=Pg fZ q3 (by omega);have fA:=PJ fZ q3;obtain⟨z2,hz2⟩:∃z2,Iw z y=z2:=⟨_,rfl⟩
  rw[hz2]at c4 fA;refine Ap ?_;refine sZ 1000 ?_;refine AD kB ?_;refine AI ?_;refine Ak w1 1100 (by kernel_rfl) ?_;refine AD kB ?_;refine cI c4 ?_;refine AD kB ?_;refine HC (by kernel_rfl) ?_;change BW _ _ _ _ _ ([0,1,2,3]++(4::[])) _ _;refine Ev w1 1200 [0,1,2,3] _ ?_;refine AD kB ?_;refine BW.put (l:=m2) w1 rfl rfl rfl rfl rfl rfl hO hr0 hM (λF3 o3 hto3 hO3 hr3 hM3=>BW.nil ?_);refine Ap ?_;have hQ2:MQ (w*(64*i+(j+1))) (Fk x (j+1) (B7 (l.take i))) (Es (sb s.lot) z2.D m2):=by
   rw[hsn,hPW1];unfold I1;rw[q2];exact MQ.set s.lot ⟨fA.is,fA.rk.mono (by omega)⟩ (hQ.mono (by omega))
  refine AR LX wj AB AB AB AB AB AB ?_;exact⟨(j+1,Es (sb s.lot) z2.D m2,o3,_),⟨h3,hO3,hr3,hM3,hQ2⟩,by dsimp only;omega,AL⟩
theorem AG.ok.w5 {x:AG}(h:x.ok):x.okW 5:=⟨h.1,h.2.1,λs hs=>by
 obtain⟨a,b,c⟩:=h.2.2 s hs;exact⟨a,by omega,c,au c b⟩⟩
theorem sL (b:Bool)(l:List AG)(hl:l.length<=100)(hx:∀x∈l,x.ok):Ai C0 62 [Ax b l] (λd=>∃m,d=mapD m/\MQ 32000 (B7 l) m):=
 (ZI 5 b l hl (λx h=>(hx x h).w5) (by omega) (by omega)).mono λd ⟨m,h1,h2⟩=>⟨m,h1,h2.mono (by omega)⟩
def S4 (r:Rat):List UInt8:=if DX r=true then[]else BI r
def S3 (r:Rat):Nat:=if DX r=true then 4 else 0
set_option maxHeartbeats 8000000
theorem Sq {l:List UInt8}(h:CN l=0):rR (CE l)=str (sb l):=by unfold rR;rw[(Mr h).2.2.1]
set_option maxHeartbeats 4000000
theorem U6 (n:Nat):Cp (Lib.decDigits n)=true:=by
 obtain⟨h1,h2,h3⟩:=EA n;rcases DY n with h|h
 ·have e:Lib.decDigits n=[48]:=by
   have:=WK 0
   rw[h];exact Cs (this.trans (AZ rfl))
  rw[e];rfl
 ·obtain⟨c,l,e,hc⟩:=gQ (Nat.pos_iff_ne_zero.1 h)
  rw[e]at h1⊢;unfold Cp Jq;rw[h1];simp[hc]
theorem SZ {n:Nat}{l:List UInt8}(h:n≠dv l):decide (Lib.decDigits n=l)=false:=Ad λe=>h (by rw[<-e,(EA n).2.1])
theorem jc {r:Rat}(h:DX r=false):CN (BI r)=0:=by
 have hs:Br (BI r)=Lib.decDigits r.num.natAbs:=by unfold Br;rw[NF,(LQ _).2]
 have hd:=Lc r;have hh:=Pf r;unfold DX at h;simp only[IR,Hu]at h;have hb:Ih (BI r)=false:=by
  rw[Oi,hs,SN,hh,U6];have e1:(decide (r.num<0)&&decide (Lib.decDigits r.num.natAbs=[48]))=false:=by
   by_cases g:r.num<0
   ·rw[SZ (show r.num.natAbs≠dv [48] by show r.num.natAbs≠0;omega),Bool.and_false]
   ·rw[Ad g,J6]
  rw[e1]
  by_cases g:r.den=1
  ·rw[AZ g];rfl
  ·rw[hd,AE g,U6,SZ (show r.den≠dv [48]from r.den_nz),SZ (show r.den≠dv [49]from g),Ad g];rfl
 unfold CN;rw[hb,AE (by decide),hs]
 by_cases g:r.den=1
 ·rw[hd,AF g,hh,AZ g,AE (by simp;omega),AE (λk=>Ae k.1 (by decide))]
 ·rw[hd,AE g,(EA _).2.1,(EA _).2.1,AE (by omega),AE (λk=>k.2 r.reduced)]
theorem fY (r:Rat):CE (BI r)=r:=by
 unfold CE GC;rw[NF,XH,Pf,Lc]
 by_cases g:r.den=1
 ·rw[AZ g]
  show mkRat r.num 1=r;rw[<-g];exact Rat.mkRat_self r
 ·rw[Ad g,AE g,(EA _).2.1]
  exact Rat.mkRat_self r
theorem kW:rR 0=str ⟨#[48]⟩:=by
 have h:CE [48]=0:=by kernel_rfl
 rw[<-h,Sq (by kernel_rfl)];all_goals rfl
theorem dc (r:Rat):BM (sb (BI r)) ⟨#[49]⟩=decide (r=1):=by
 have h1:CE [49]=1:=by kernel_rfl
 have e:(⟨#[49]⟩:ByteArray)=sb [49]:=rfl;rw[e,Eb,Cn];constructor
 ·intro h
  rw[<-fY r,h,h1]
 ·intro h
  rw[h]
  have:=(Mr (l:=[49]) (by kernel_rfl)).2.2.1
  rwa [h1]at this
end Go.Ide
namespace Go.Proofs
open Go.Shelf Go.RowKit Go.Lib Go.Sort
def Tryz.sortAmounts_ren:Go.Shelf.Ren:=⟨fun|6=>115|15=>163|14=>162|28=>222|29=>223|20=>214|21=>215|22=>216|23=>217|24=>218|25=>219|26=>220|27=>221|46=>263|47=>264|48=>265|49=>266|50=>267|57=>294|n=>n,fun|22=>31|24=>93|25=>158|3=>3|39=>203|0=>0|53=>254|55=>225|4=>4|46=>247|45=>246|50=>251|5=>5|9=>9|66=>280|70=>284|76=>305|77=>306|n=>n,fun|n=>n⟩
theorem uL:Go.Proofs.SlLaysF0.n6 Tryz.prog Tryz.sortAmounts_ren:={
 mixed:=by kernel_rfl
 f6:=⟨Tryz.f115.name,by decide,Tryz.func115.trans (congrArg some (by kernel_rfl))⟩
 f14:=⟨Tryz.f162.name,by decide,Tryz.func162.trans (congrArg some (by kernel_rfl))⟩
 f15:=Tryz.func163.trans (congrArg some (by kernel_rfl))
 f20:=⟨Tryz.f214.name,by decide,Tryz.func214.trans (congrArg some (by kernel_rfl))⟩
 f21:=⟨Tryz.f215.name,by decide,Tryz.func215.trans (congrArg some (by kernel_rfl))⟩
 f22:=⟨Tryz.f216.name,by decide,Tryz.func216.trans (congrArg some (by kernel_rfl))⟩
 f23:=⟨Tryz.f217.name,by decide,Tryz.func217.trans (congrArg some (by kernel_rfl))⟩
 f24:=⟨Tryz.f218.name,by decide,Tryz.func218.trans (congrArg some (by kernel_rfl))⟩
 f25:=⟨Tryz.f219.name,by decide,Tryz.func219.trans (congrArg some (by kernel_rfl))⟩
 f26:=⟨Tryz.f220.name,by decide,Tryz.func220.trans (congrArg some (by kernel_rfl))⟩
 f27:=⟨Tryz.f221.name,by decide,Tryz.func221.trans (congrArg some (by kernel_rfl))⟩
 f28:=Tryz.func222.trans (congrArg some (by kernel_rfl))
 f29:=Tryz.func223.trans (congrArg some (by kernel_rfl))
 f46:=⟨Tryz.f263.name,by decide,Tryz.func263.trans (congrArg some (by kernel_rfl))⟩
 f47:=Tryz.func264.trans (congrArg some (by kernel_rfl))
 f48:=Tryz.func265.trans (congrArg some (by kernel_rfl))
 f49:=⟨Tryz.f266.name,by decide,Tryz.func266.trans (congrArg some (by kernel_rfl))⟩
 f50:=⟨Tryz.f267.name,by decide,Tryz.func267.trans (congrArg some (by kernel_rfl))⟩
 f57:=⟨Tryz.f294.name,by decide,Tryz.func294.trans (congrArg some (by kernel_rfl))⟩
 t0:=Tryz.underlying0
 a0:=Tryz.isAgg0
 z0:=Tryz.sizeOf0
 v0:=Tryz.zeroValue0
 t3:=Tryz.underlying3
 a3:=Tryz.isAgg3
 z3:=Tryz.sizeOf3
 v3:=Tryz.zeroValue3
 t4:=Tryz.underlying4
 a4:=Tryz.isAgg4
 z4:=Tryz.sizeOf4
 v4:=Tryz.zeroValue4
 t5:=Tryz.underlying5
 a5:=Tryz.isAgg5
 z5:=Tryz.sizeOf5
 v5:=Tryz.zeroValue5
 t9:=Tryz.underlying9
 a9:=Tryz.isAgg9
 z9:=Tryz.sizeOf9
 v9:=Tryz.zeroValue9
 t22:=Tryz.underlying31
 a22:=Tryz.isAgg31
 z22:=Tryz.sizeOf31
 v22:=Tryz.zeroValue31
 t25:=Tryz.underlying158
 a25:=Tryz.isAgg158
 z25:=Tryz.sizeOf158
 v25:=Tryz.zeroValue158
 t39:=Tryz.underlying203
 a39:=Tryz.isAgg203
 z39:=Tryz.sizeOf203
 v39:=Tryz.zeroValue203
 t45:=Tryz.underlying246
 a45:=Tryz.isAgg246
 z45:=Tryz.sizeOf246
 v45:=Tryz.zeroValue246
 t46:=Tryz.underlying247
 a46:=Tryz.isAgg247
 z46:=Tryz.sizeOf247
 v46:=Tryz.zeroValue247
 t50:=Tryz.underlying251
 a50:=Tryz.isAgg251
 z50:=Tryz.sizeOf251
 v50:=Tryz.zeroValue251
 t53:=Tryz.underlying254
 a53:=Tryz.isAgg254
 z53:=Tryz.sizeOf254
 v53:=Tryz.zeroValue254
 t55:=Tryz.underlying225
 a55:=Tryz.isAgg225
 z55:=Tryz.sizeOf225
 v55:=Tryz.zeroValue225
 t66:=Tryz.underlying280
 a66:=Tryz.isAgg280
 z66:=Tryz.sizeOf280
 v66:=Tryz.zeroValue280
 t70:=Tryz.underlying284
 a70:=Tryz.isAgg284
 z70:=Tryz.sizeOf284
 v70:=Tryz.zeroValue284
 t76:=Tryz.underlying305
 a76:=Tryz.isAgg305
 z76:=Tryz.sizeOf305
 v76:=Tryz.zeroValue305
 t77:=Tryz.underlying306
 a77:=Tryz.isAgg306
 z77:=Tryz.sizeOf306
 v77:=Tryz.zeroValue306 }
end Go.Proofs
namespace Go.Ide
open Go.Proofs Go.RowKit Go.Sort
set_option maxRecDepth 20000
def CX (p:List UInt8×Rat):D:=.agg [str (sb p.1),str (sb (BI p.2))]
instance d3N (p:List UInt8×Rat):Ag (CX p):=by unfold CX;exact AH
instance d3O (p:List UInt8×Rat):AA (CX p):=by unfold CX;exact AH
def Jr (p:List UInt8×Rat):List Value:=[.string (sb p.1),.string (sb (BI p.2))]
def G8 (x y:List UInt8):Int:=if x<y then -1 else if y<x then 1 else 0
theorem Oq (x y:List UInt8×Rat):ltOf (λx y:List UInt8×Rat=>G8 x.1 y.1) x y=ltStr x.1 y.1:=by
 unfold ltOf G8 ltStr
 by_cases h:x.1<y.1
 ·simp[h]
 ·by_cases h2:y.1<x.1<;>simp[h,h2]
theorem tv:SWO (ltOf (λx y:List UInt8×Rat=>G8 x.1 y.1)) where
 irrefl x:=by rw[Oq];exact swo_ltStr.irrefl _
 trans x y z h1 h2:=by rw[Oq]at*;exact swo_ltStr.trans _ _ _ h1 h2
 ntrans x y z h1 h2:=by rw[Oq]at*;exact swo_ltStr.ntrans _ _ _ h1 h2
set_option maxHeartbeats 1000000 in
theorem eQ (x:ByteArray)(W:World):Calls Tryz.prog 164 #[.string x] W λe w'=>e=.returned (.bool false)/\w'=W:=by
 go_enter Tryz.func164,Tryz.ntmps164
 go_wp2
 go_ret
 exact⟨by simp,rfl⟩
set_option maxHeartbeats 1000000 in
theorem cJ (x y:List UInt8)(W:World):Calls Tryz.prog 117 #[.string (sb x),.string (sb y)] W λe w'=>e=.returned (.int .i64 (G8 x y))/\w'=W:=by
 go_enter Tryz.func117,Tryz.ntmps117
 go_wp2_with (go_at_call 164;refine(eQ _ _).mono ?_;rintro e w' ⟨rfl,hw⟩;rw[hw])
 all_goals go_ret
 all_goals(refine⟨?_,rfl⟩)
 ·have h:Op.bytesLess x y=true:=by assumption
  rw[bytesLess_eq,Gl]at h;unfold G8;rw[AF h];rfl
 ·have h:Op.bytesLess x y=false:=by assumption
  have h2:(!x==y)=true:=by assumption
  rw[bytesLess_eq,Hu]at h;have h3:y<x:=DG λq=>by
   have:=List.le_antisymm (List.not_lt.1 q) (List.not_lt.1 h)
   simp[this]at h2
  unfold G8;rw[AE h,AF h3];rfl
 ·have h:Op.bytesLess x y=false:=by assumption
  have h2:(!x==y)=false:=by assumption
  rw[bytesLess_eq,Hu]at h;have h3:¬y<x:=λq=>by
   have:x=y:=by simpa using h2
   rw[this]at q;exact List.lt_irrefl _ q
  unfold G8;rw[AE h,AE h3];rfl
set_option maxHeartbeats 1000000 in
theorem bz (x y:List UInt8×Rat)(W:World):Calls Tryz.prog 116 #[.agg (Jr x).toArray,.agg (Jr y).toArray] W λe w'=>e=.returned (.int .i64 (G8 x.1 y.1))/\∃q os',w'=grow (W.drewN q) os':=by
 have hcon:=cJ x.1 y.1;unfold Jr;generalize G8 x.1 y.1=r at hcon⊢;generalize sb x.1=a at hcon⊢;generalize sb y.1=b at hcon⊢;generalize sb (BI x.2)=c;generalize sb (BI y.2)=d
 go_enter Tryz.func116,Tryz.ntmps116
 go_wp2_with (go_at_call 117;refine(hcon _).mono ?_;rintro e w' ⟨rfl,rfl⟩)
 go_ret
 exact⟨rfl,0,_,by rw[alloc_eq_grow,alloc_eq_grow,grow_grow];rfl⟩
theorem un:(Tryz.prog.info? 93).map (λi=>i.size)=some 2:=by kernel_rfl
theorem bJ:HW Tryz.prog 93=true:=by kernel_rfl
theorem uo:(Tryz.prog.underlying 93).isSome=true:=by kernel_rfl
theorem sQ (w:World):(Go.sizeOf 93).run Tryz.prog w=.ok 2 w:=by
 obtain⟨i,h1,h2⟩:=Option.map_eq_some_iff.1 un;rw[F5 h1,h2]
theorem tH (w:World):(isAgg 93).run Tryz.prog w=.ok true w:=by
 obtain⟨u,h1⟩:=Option.isSome_iff_exists.1 uo;rw[Ov h1,bJ]
theorem qS:Xr Tryz.prog 115 116 Jr 2 (ltOf λx y:List UInt8×Rat=>G8 x.1 y.1):=λblk cap d w hH hb hd=>
 AnyQ.slices_SortFunc uL 2 tH sQ Jr (λ_=>rfl) (λx v hv=>by simp[Jr]at hv;rcases hv with rfl|rfl<;>rfl)
  (λx y=>G8 x.1 y.1) tv 116 #[] blk 0 cap d w (enters_of Tryz.func116 (by kernel_rfl) rfl) (λ_ _ _ _ x y=>bz x y _) hH hb hd
theorem bR (l:List (List UInt8×Rat))(hl0:l≠[])(hl:l.length<4611686018427387904)(kb gg:Nat)(H:Hp)(n:Nat):
  CQ C0 115 [.osl kb gg 2 0 l.length,.clo (.func 116) [] []] (⟨kb,gg,93,2,l.map CX⟩::H) n
   (λd H' n'=>d=.tup []/\n'=n+1/\∃l':List (List UInt8×Rat),l'.Perm l/\l'.Pairwise (λa b=>ltStr b.1 a.1=false)/\H'=⟨kb,gg,93,2,l'.map CX⟩::H):=
 (fQ (C:=C0) (f:=115) (g:=116) (enc:=Jr) (k:=2) (toD:=CX) (lt:=ltOf λx y:List UInt8×Rat=>G8 x.1 y.1) (by obtain⟨fn,a1,a2,a3,-⟩:=Xa;exact⟨fn,_,a1,a2,a3⟩) (by decide) (λ_=>rfl) (λx v hv=>by simp[Jr]at hv;rcases hv with rfl|rfl<;>rfl) (λx=>rfl) qS l hl0 hl kb gg _ H n).mono λd H' n' ⟨h1,h2,l',h3,h4,h5⟩=>
  ⟨h1,h2,l',h3,h4.imp λh=>by rw[Oq]at h;exact h,h5⟩
theorem fS:AK C0 115 [CK,.clo (.func 116) [] []] (.tup []):=B6 DE 400 40 (by kernel_rfl)
end Go.Ide
namespace Go.Proofs
open Go.Shelf Go.RowKit Go.Lib Go.Sort
def Tryz.sortedZ_ren:Go.Shelf.Ren:=⟨fun|6=>107|8=>155|9=>156|11=>205|13=>163|12=>206|23=>222|24=>223|14=>244|15=>245|16=>246|17=>247|18=>248|19=>249|20=>250|21=>251|22=>252|25=>283|26=>264|27=>265|28=>284|29=>285|30=>164|31=>302|n=>n,fun|26=>9|28=>149|24=>146|0=>0|3=>3|37=>203|48=>254|50=>225|4=>4|40=>247|39=>246|45=>251|5=>5|9=>9|51=>280|55=>284|57=>305|58=>306|33=>99|n=>n,fun|n=>n⟩
theorem uM:Go.Proofs.SlLaysZ.n6 Tryz.prog Tryz.sortedZ_ren:={
 mixed:=by kernel_rfl
 f6:=⟨Tryz.f107.name,by decide,Tryz.func107.trans (congrArg some (by kernel_rfl))⟩
 f8:=⟨Tryz.f155.name,by decide,Tryz.func155.trans (congrArg some (by kernel_rfl))⟩
 f11:=⟨Tryz.f205.name,by decide,Tryz.func205.trans (congrArg some (by kernel_rfl))⟩
 t0:=Tryz.underlying0
 a0:=Tryz.isAgg0
 z0:=Tryz.sizeOf0
 v0:=Tryz.zeroValue0
 t24:=Tryz.underlying146
 a24:=Tryz.isAgg146
 z24:=Tryz.sizeOf146
 v24:=Tryz.zeroValue146
 t26:=Tryz.underlying9
 a26:=Tryz.isAgg9
 z26:=Tryz.sizeOf9
 v26:=Tryz.zeroValue9
 t28:=Tryz.underlying149
 a28:=Tryz.isAgg149
 z28:=Tryz.sizeOf149
 v28:=Tryz.zeroValue149
 i26:=by kernel_rfl }
def Tryz.keysZ_ren:Go.Shelf.Ren:=⟨fun|10=>157|n=>n,fun|33=>99|23=>102|0=>0|4=>4|26=>9|3=>141|n=>n,fun|n=>n⟩
theorem uK:Go.Proofs.SlLaysZ.n10 Tryz.prog Tryz.keysZ_ren:={
 mixed:=by kernel_rfl
 f10:=⟨Tryz.f157.name,by decide,Tryz.func157.trans (congrArg some (by kernel_rfl))⟩
 t0:=Tryz.underlying0
 a0:=Tryz.isAgg0
 z0:=Tryz.sizeOf0
 v0:=Tryz.zeroValue0
 t4:=Tryz.underlying4
 a4:=Tryz.isAgg4
 z4:=Tryz.sizeOf4
 v4:=Tryz.zeroValue4
 t23:=Tryz.underlying102
 a23:=Tryz.isAgg102
 z23:=Tryz.sizeOf102
 v23:=Tryz.zeroValue102
 t26:=Tryz.underlying9
 a26:=Tryz.isAgg9
 z26:=Tryz.sizeOf9
 v26:=Tryz.zeroValue9
 t33:=Tryz.underlying99
 a33:=Tryz.isAgg99
 z33:=Tryz.sizeOf99
 v33:=Tryz.zeroValue99 }
def Tryz.sortM_ren:Go.Shelf.Ren:=⟨fun|6=>156|8=>163|9=>206|19=>222|20=>223|21=>244|22=>245|23=>246|24=>247|25=>248|26=>249|27=>250|28=>251|29=>252|36=>283|31=>264|32=>265|37=>284|38=>285|39=>164|41=>302|n=>n,fun|27=>146|29=>9|3=>3|32=>203|26=>146|0=>0|44=>254|46=>225|4=>4|36=>247|35=>246|41=>251|5=>5|9=>9|53=>280|57=>284|63=>305|64=>306|n=>n,fun|n=>n⟩
theorem aj:Go.Proofs.SlLaysM.n6 Tryz.prog Tryz.sortM_ren:={
 mixed:=by kernel_rfl
 f6:=⟨Tryz.f156.name,by decide,Tryz.func156.trans (congrArg some (by kernel_rfl))⟩
 f8:=Tryz.func163.trans (congrArg some (by kernel_rfl))
 f9:=⟨Tryz.f206.name,by decide,Tryz.func206.trans (congrArg some (by kernel_rfl))⟩
 f19:=Tryz.func222.trans (congrArg some (by kernel_rfl))
 f20:=Tryz.func223.trans (congrArg some (by kernel_rfl))
 f21:=⟨Tryz.f244.name,by decide,Tryz.func244.trans (congrArg some (by kernel_rfl))⟩
 f22:=⟨Tryz.f245.name,by decide,Tryz.func245.trans (congrArg some (by kernel_rfl))⟩
 f23:=⟨Tryz.f246.name,by decide,Tryz.func246.trans (congrArg some (by kernel_rfl))⟩
 f24:=⟨Tryz.f247.name,by decide,Tryz.func247.trans (congrArg some (by kernel_rfl))⟩
 f25:=⟨Tryz.f248.name,by decide,Tryz.func248.trans (congrArg some (by kernel_rfl))⟩
 f26:=⟨Tryz.f249.name,by decide,Tryz.func249.trans (congrArg some (by kernel_rfl))⟩
 f27:=⟨Tryz.f250.name,by decide,Tryz.func250.trans (congrArg some (by kernel_rfl))⟩
 f28:=⟨Tryz.f251.name,by decide,Tryz.func251.trans (congrArg some (by kernel_rfl))⟩
 f29:=⟨Tryz.f252.name,by decide,Tryz.func252.trans (congrArg some (by kernel_rfl))⟩
 f31:=Tryz.func264.trans (congrArg some (by kernel_rfl))
 f32:=Tryz.func265.trans (congrArg some (by kernel_rfl))
 f36:=⟨Tryz.f283.name,by decide,Tryz.func283.trans (congrArg some (by kernel_rfl))⟩
 f37:=⟨Tryz.f284.name,by decide,Tryz.func284.trans (congrArg some (by kernel_rfl))⟩
 f38:=⟨Tryz.f285.name,by decide,Tryz.func285.trans (congrArg some (by kernel_rfl))⟩
 f39:=⟨Tryz.f164.name,by decide,Tryz.func164.trans (congrArg some (by kernel_rfl))⟩
 f41:=⟨Tryz.f302.name,by decide,Tryz.func302.trans (congrArg some (by kernel_rfl))⟩
 t0:=Tryz.underlying0
 a0:=Tryz.isAgg0
 z0:=Tryz.sizeOf0
 v0:=Tryz.zeroValue0
 t3:=Tryz.underlying3
 a3:=Tryz.isAgg3
 z3:=Tryz.sizeOf3
 v3:=Tryz.zeroValue3
 t4:=Tryz.underlying4
 a4:=Tryz.isAgg4
 z4:=Tryz.sizeOf4
 v4:=Tryz.zeroValue4
 t5:=Tryz.underlying5
 a5:=Tryz.isAgg5
 z5:=Tryz.sizeOf5
 v5:=Tryz.zeroValue5
 t9:=Tryz.underlying9
 a9:=Tryz.isAgg9
 z9:=Tryz.sizeOf9
 v9:=Tryz.zeroValue9
 t26:=Tryz.underlying146
 a26:=Tryz.isAgg146
 z26:=Tryz.sizeOf146
 v26:=Tryz.zeroValue146
 t27:=Tryz.underlying146
 a27:=Tryz.isAgg146
 z27:=Tryz.sizeOf146
 v27:=Tryz.zeroValue146
 t29:=Tryz.underlying9
 a29:=Tryz.isAgg9
 z29:=Tryz.sizeOf9
 v29:=Tryz.zeroValue9
 t32:=Tryz.underlying203
 a32:=Tryz.isAgg203
 z32:=Tryz.sizeOf203
 v32:=Tryz.zeroValue203
 t35:=Tryz.underlying246
 a35:=Tryz.isAgg246
 z35:=Tryz.sizeOf246
 v35:=Tryz.zeroValue246
 t36:=Tryz.underlying247
 a36:=Tryz.isAgg247
 z36:=Tryz.sizeOf247
 v36:=Tryz.zeroValue247
 t41:=Tryz.underlying251
 a41:=Tryz.isAgg251
 z41:=Tryz.sizeOf251
 v41:=Tryz.zeroValue251
 t44:=Tryz.underlying254
 a44:=Tryz.isAgg254
 z44:=Tryz.sizeOf254
 v44:=Tryz.zeroValue254
 t46:=Tryz.underlying225
 a46:=Tryz.isAgg225
 z46:=Tryz.sizeOf225
 v46:=Tryz.zeroValue225
 t53:=Tryz.underlying280
 a53:=Tryz.isAgg280
 z53:=Tryz.sizeOf280
 v53:=Tryz.zeroValue280
 t57:=Tryz.underlying284
 a57:=Tryz.isAgg284
 z57:=Tryz.sizeOf284
 v57:=Tryz.zeroValue284
 t63:=Tryz.underlying305
 a63:=Tryz.isAgg305
 z63:=Tryz.sizeOf305
 v63:=Tryz.zeroValue305
 t64:=Tryz.underlying306
 a64:=Tryz.isAgg306
 z64:=Tryz.sizeOf306
 v64:=Tryz.zeroValue306 }
theorem uO (m:Nat):AnyZ.SortsIn Tryz.prog Tryz.sortedZ_ren Fence.wide m:=
 ⟨λblk off cap ss W hH hblk hsz=>callsIn_wide.2 (AnyM.slices_Sort_string aj blk off cap ss W hH hblk hsz),
  λp cap W=>callsIn_wide.2 (AnyM.slices_Sort_string_none aj p cap W)⟩
theorem uN {H:Type}(Bm b nn:Nat)(D0:DataW H){R:Value->Option (DataW H×List MemPlace)}(w:World)(hBm:Bm<w.heap.size)
  (hm:w.cell? ⟨Bm,0,none⟩=some (.map (some b))) (hown:w.ownsMap Tryz.prog 9 R b nn D0) (hN:Maps.size D0<=10000):
  Calls Tryz.prog 107 #[.func (.func 157) #[] #[.pointer (some ⟨Bm,0,none⟩)]] w λe w'=>∃(v:Value) (ss:List (List UInt8)),e=.returned v/\ss.Perm (strKeys D0) /\
   w'.ownsRow w.heap.size 9 1 v ss.length ((ss.mergeSort (λx y=>decide (x<=y))).map encStr)/\Below w.heap.size w w':=
 (callsIn_wide.1 (AnyZ.sorted_in uM Fence.wide 6 trivial trivial trivial trivial rfl (by omega) (uO _) (enters_of Tryz.func156 (by kernel_rfl) rfl) 157 _ trivial (enters_of Tryz.func157 (by kernel_rfl) rfl) _ _ (Nat.le_trans hN (by decide)) (by omega) w
  (AnyZ.keys_gives uK Fence.wide _ trivial rfl (by omega) Bm b nn D0 w hBm hm hown))).mono λe w' ⟨v,ss,h1,h2,h3,_,h5⟩=>⟨v,ss,h1,h2,h3,h5⟩
end Go.Proofs
namespace Go.Ide
open Go.Proofs Go.RowKit Go.Sort
set_option maxRecDepth 20000
def Na (ks:List (List UInt8)):List (List UInt8):=ks.mergeSort λx y=>decide (x<=y)
theorem W0 (k:List UInt8)(hb:k.length<=maxLen):keyOf Tryz.prog 9 (encStr k)=some (.string k):=by
 simp[keyOf,mapKey,hb,ByteArray.size,encStr]
theorem bS {H:Type}{R:Value->Option (DataW H×List MemPlace)}{z:DataW H}(hR:∀v,R v=some (z,[]))(es:List MapEntry)(ks:List (List UInt8))(hk:es.map (·.key)=ks.map encStr)(hb:∀k∈ks,k.length<=maxLen):
  (strKeys (DataW.map ((es.map (WideElems.rg Tryz.prog 9 R)).foldr DataW.insert []))).Perm ks:=by
 show(((es.map (WideElems.rg Tryz.prog 9 R)).foldr DataW.insert []).map λp=>strOf p.1).Perm ks;refine((WideShapes.sorted_perm _).map _).trans ?_;rw[List.map_map]
 have:es.map ((λp:Lit×DataW H=>strOf p.1) ∘ WideElems.rg Tryz.prog 9 R)=ks:=by
  induction es generalizing ks with
  |nil=>
   cases ks with
   |nil=>rfl
   |cons a l=>simp at hk
  |cons e es ih=>
   cases ks with
   |nil=>simp at hk
   |cons k ks=>
    simp only[Cb,Eh]at hk;rw[Cb,ih ks hk.2 λk h=>hb k (Ck _ h)]
    congr 1
    have h1:=W0 k (hb k Cc);rw[<-hk.1]at h1;show strOf ((WideElems.rd Tryz.prog 9 R e).getD _).1=k;unfold WideElems.rd;rw[h1,hR];rfl
 rw[this]
theorem FF (l:Cq)(ks:List (List UInt8))(hks:l.map (·.1)=ks.map sb)(hl:l.length<=10000)(hb:∀k∈ks,k.length<=1000)(hnd:ks.Nodup)(kb g T:Nat)(H:Hp)(n:Nat):
  CQ C0 107 [.clo (.func 157) [] [.optr kb g 1 0 0]] (⟨kb,g,T,1,[mapD l]⟩::H) n
   (λd H' n'=>d=.sl false 1 ((Na ks).map λx=>str (sb x))/\H'=⟨kb,g,T,1,[mapD l]⟩::H/\n'=n+1):=by
 refine⟨by obtain⟨fn,a1,a2,a3,-⟩:=XS;exact⟨fn,_,a1,a2,a3⟩,λF ρ w vs m fr gn hsz rep=>?_⟩;obtain⟨v0,rfl⟩:∃v0,vs = #[v0]:=by
  match vs,hsz with
  |⟨[a]⟩,_=>exact⟨a,rfl⟩
 have r0:AU ρ _ w (.clo _ [] [.optr kb g 1 0 0]) v0:=rep 0 _ rfl;cases r0 with
 |clo hf1 hc1 _ h2=>
  rename_i fs cs1 _;simp at hf1 hc1;subst hf1;obtain⟨c,rfl⟩:∃c,cs1 = #[c]:=by
   match cs1,hc1 with
   |⟨[a]⟩,_=>exact⟨a,rfl⟩
  have r1:AU ρ _ w (.optr kb g 1 0 0) c:=h2 0 _ rfl;cases r1 with
  |optr hr=>
   rename_i b;have hent:∃cs,w.heap[b]?=some (.cells cs T (0,0))/\Ct ρ (AJ F.X ρ (⟨kb,g,T,1,[mapD l]⟩::H)) w ⟨kb,g,T,1,[mapD l]⟩ cs:=by
    rcases m.hok.ent _ Cc with⟨h,h2⟩|⟨b2,cs2,a1,a2,a3⟩
    ·exact Ae (hr.symm.trans h2) (by simp)
    ·cases hr.symm.trans a1;exact⟨cs2,a2,a3⟩
   obtain⟨cs,hcb,hok⟩:=hent;have hlt:b<w.heap.size:=m.lt Cc hr;have hr0:=hok.rep 0 (mapD l) 0 (mapD l) rfl rfl;have h9:1<=cs.size:=by simpa using hok.len
   have hcs:0<cs.size:=h9;rw[Aw,Be (by simpa using hcs)]at hr0;simp only[GK,DJ,Hs]at hr0;obtain⟨v,hv⟩:∃v,cs[0]=v:=⟨_,rfl⟩
   rw[hv]at hr0;unfold mapD at hr0;cases hr0 with
   |mp hO hrl hb3 h1 h2 hBo hk hvv=>
    rename_i r clock es;rw[An]at h1;have hkey:es.toList.map (·.key)=ks.map encStr:=by
     apply N7;intro i;rw[BK,BK];have hli:=congrArg (λq=>q[i]?) hks;simp only[BK]at hli;rcases BL i l.length with hi|hi
     ·have hd:=hk i (.prim (.string l[i].1)) (by rw[BK,BD hi];rfl)
      rw[BD hi]at hli;obtain⟨kk,hkk,hkk2⟩:=Option.map_eq_some_iff.1 hli.symm;have hi2:i<es.size:=by omega
      rw[Aw,Be hi2]at hd;rw[hkk,IU,Be hi2];simp only[IW,BG,Hs]at hd⊢;generalize es[i].key=kv at hd;cases hd;have h8:sb kk=l[i].1:=hkk2;rw[<-h8]
     ·have h5:ks.length=l.length:=by have:=congrArg List.length hks;simpa using this.symm
      rw[DQ (by simp;omega),DQ (by omega)];rfl
    have hkn:(es.toList.map (·.key)).Nodup:=by
     rw[hkey];exact List.pairwise_map.2 (hnd.imp λh q=>h (encStr_inj q))
    have hbm:∀k∈ks,k.length<=maxLen:=λk h=>BP (hb k h) (by decide)
    let R:Value->Option (DataW Unit×List MemPlace):=λ_=>some (.nil,[])
    have hown:w.ownsMap Tryz.prog 9 R r es.size (.map ((es.toList.map (WideElems.rg Tryz.prog 9 R)).foldr DataW.insert [])):=by
     refine⟨es,clock,hb3,⟨BP (by omega:es.size<=10000) (by decide),⟨λx hx=>?_,hBo.nodup,hkn⟩,λx hx=>?_⟩,Af _,rfl⟩
     ·obtain⟨j,hj⟩:=List.mem_iff_getElem?.1 hx
      exact hBo.1 j x (by simpa using hj)
     ·have:x.key∈es.toList.map (·.key):=List.mem_map_of_mem hx
      rw[hkey]at this;obtain⟨k,hk1,hk2⟩:=List.mem_map.1 this;have h1:=W0 k (hbm k hk1);rw[hk2]at h1;exact⟨_,by unfold WideElems.rd;rw[h1];rfl⟩
    have hsk:=bS (H:=Unit) (R:=R) (z:=.nil) (λ_=>rfl) es.toList ks hkey hbm;have hcell:w.cell? ⟨b,0,none⟩=some (.map (some r)):=by
     unfold World.cell?;simp only[hcb];rw[Be hcs,hv];rfl
    have hsize:Maps.size (DataW.map ((es.toList.map (WideElems.rg Tryz.prog 9 R)).foldr DataW.insert []))<=10000:=by
     rw[Maps.size_eq,(WideShapes.sorted_perm _).length_eq,An,Hy];omega
    refine(uN b r es.size _ w hlt hcell hown hsize).mono ?_;rintro e w' ⟨v,ss,rfl,hp,hrow,hbw⟩;have hss:ss.mergeSort (λx y=>decide (x<=y))=Na ks:=mergeSort_of_perm (hp.trans hsk);rw[hss]at hrow;have x:BO ρ (AJ F.X ρ (⟨kb,g,T,1,[mapD l]⟩::H)) w ρ (AJ F.X ρ (⟨kb,g,T,1,[mapD l]⟩::H)) w':=⟨hbw.size,λ_ _ _ h=>h,λb hb' hO=>⟨hO,hbw.block b hb'⟩,λb cs T fz hh=>⟨cs,_,by
     rw[hbw.block b (Array.getElem?_eq_some_iff.1 hh).1];exact hh,rfl⟩⟩
    refine⟨v,_,_,n+1,ρ,rfl,⟨rfl,rfl,rfl⟩,m.same x hbw.os hbw.tape hbw.output hbw.block,x,λa b h=>fr a b (by omega),λe he=>Cv (gn e he),?_⟩;obtain⟨K,hK⟩:∃K,Na ks=K:=⟨_,rfl⟩
    rw[hK]at hrow⊢;obtain⟨hlen,⟨rfl,hz⟩|⟨gb,cap,cur,rfl,hbase,hgb,q1,q2,q3,q4⟩⟩:=hrow
    ·rw[hz,An]at hlen
     have:K=[]:=List.length_eq_zero_iff.1 (by omega)
     rw[this];exact .nil 1
    ·rw[An,Du]at hlen
     rw[Du]at q3 q4;have hat:∀j x,K[j]?=some x->cur[j]?=some (Value.string (sb x)):=λj x hx=>by
      have hj:j<K.length:=(List.getElem?_eq_some_iff.1 hx).1
      have:=congrArg (λq=>q[j]?) q4
      simp only[EQ,BK,hx,IW]at this;rw[AF (by omega)]at this;simpa using this
     have hall:∀j,j<ss.length*1->∃x,cur[j]?=some (Value.string (sb x)):=λj hj=>by
      have:j<K.length:=by omega
      exact⟨_,hat j _ (BD this)⟩
     refine .sl (λj=>cur.getD j undef) (by rw[An,hlen]) q1 ?_ (Array.getElem?_eq_some_iff.1 hgb).1 ?_ ?_ ?_ ?_
     ·rintro(h|⟨e,he,h⟩)
      ·have:=m.xlt _ h;have:=m.size;omega
      ·have:=m.lt he h;omega
     ·intro i e h
      rw[BK]at h;obtain⟨x,-,rfl⟩:=Option.map_eq_some_iff.1 h;rfl
     ·intro j hj
      obtain⟨x,hx⟩:=hall j hj;unfold World.cell?;simp only[hgb,BT];rw[hx,Aw,hx];rfl
     ·intro j hj
      obtain⟨x,hx⟩:=hall j hj;rw[Aw,hx];rfl
     ·intro i e j d h h2
      rw[BK]at h;obtain⟨x,hx,rfl⟩:=Option.map_eq_some_iff.1 h
      have:j=0:=by
       have:=(List.getElem?_eq_some_iff.1 h2).1
       exact Nat.lt_one_iff.1 this
      subst this;cases h2;show AU _ _ _ _ (cur.getD (i*1+0) undef);rw[Du,DJ,Aw,hat i x hx];exact .prim _
end Go.Ide
namespace Go.Ide
open Go.Proofs Go.RowKit Go.Sort
set_option maxRecDepth 20000
set_option maxHeartbeats 4000000
def qv (q:Bp)(j:Nat):List UInt8×Rat:=q.getD j ([],0)
theorem TJ {q:Bp}{j:Nat}{p:List UInt8×Rat}(h:q[j]?=some p):qv q j=p:=by unfold qv;rw[ES,h];rfl
theorem MQ.len {B:Nat}:∀ {q:Bp} {m:Cq},MQ B q m->q.length=m.length
 | [],[],_=>rfl
 |_::_,_::_,⟨_,h⟩=>by simp[MQ.len h]
theorem MQ.at_ {B:Nat}:∀ {q:Bp} {m:Cq} (j:Nat) {e:ByteArray×D},MQ B q m->m[j]?=some e->∃(p:List UInt8×Rat) (y:GF),q[j]?=some p/\e=(sb p.1,y.D)/\FR p.2 y B
 | [],[],j,e,_,h=>by simp at h
 |p::q,e'::m,0,e,⟨⟨h1,y,h2,h3⟩,_⟩,h=>by
  simp at h;subst h;exact⟨p,y,rfl,by rw[<-h1,<-h2],h3⟩
 |_::q,_::m,j+1,e,⟨_,h4⟩,h=>by
  obtain⟨p,y,a,b,c⟩:=MQ.at_ j h4 (by simpa using h);exact⟨p,y,by simpa using a,b,c⟩
theorem RR:∀(n:Nat) (l:List Nat),l.Nodup->(∀i∈l,i<n)->l.length<=n
 | 0,[],_,_=>Af _
 | 0,a::l,_,h=>Ae (h a (by simp)) (Ht a)
 |n+1,l,hd,h=>by
  by_cases hn:n∈l
  ·have h1:=RR n (l.erase n) (hd.erase n) λi hi=>by
    have h2:=h i (List.mem_of_mem_erase hi);have h3:i≠n:=(hd.mem_erase_iff.1 hi).1;omega
   rw[List.length_erase_of_mem hn]at h1;omega
  ·have h1:=RR n l hd λi hi=>by
    have h2:=h i hi;have h3:i≠n:=λe=>hn (e ▸ hi)
    omega
   omega
def Eu (q:Bp):Bp:=q.mergeSort λa b=>!ltStr b.1 a.1
theorem JU (q:Bp):(Eu q).Perm q:=List.mergeSort_perm _ _
theorem Pe (q:Bp):(Eu q).Pairwise λa b=>ltStr b.1 a.1=false:=by
 have:=List.pairwise_mergeSort (le:=λa b:List UInt8×Rat=>!ltStr b.1 a.1) (λa b c h1 h2=>by simp only[Bc]at*;exact swo_ltStr.ntrans _ _ _ h2 h1) (λa b=>by
  cases h1:ltStr b.1 a.1 with
  |false=>rfl
  |true=>
   cases h2:ltStr a.1 b.1 with
   |false=>rfl
   |true=>have:=swo_ltStr.trans _ _ _ h1 h2;rw[swo_ltStr.irrefl]at this;cases this) q
 exact this.imp λh=>by simpa using h
theorem sF {q:Bp}(hn:(q.map (·.1)).Nodup){a b:List UInt8×Rat}(ha:a∈q)(hb:b∈q)(h:a.1=b.1):a=b:=by
 obtain⟨i,hi,rfl⟩:=List.mem_iff_getElem.1 ha;obtain⟨j,hj,rfl⟩:=List.mem_iff_getElem.1 hb
 have:i=j:=(List.getElem_inj (h₀:=by simpa using hi) (h₁:=by simpa using hj) hn).1 (by simpa using h)
 subst this;rfl
theorem Uv {a b:List UInt8}(h1:ltStr a b=false)(h2:ltStr b a=false):a=b:=by
 simp only[ltStr,Hu,List.not_lt]at h1 h2;exact List.le_antisymm h2 h1
theorem Q9 {q l l':Bp}(hn:(q.map (·.1)).Nodup)(hp:l.Perm q)(hp':l'.Perm q)(hs:l.Pairwise λa b=>ltStr b.1 a.1=false)(hs':l'.Pairwise λa b=>ltStr b.1 a.1=false):l=l':=
 List.Perm.eq_of_pairwise (le:=λa b:List UInt8×Rat=>ltStr b.1 a.1=false) (λ_ _ ha hb h1 h2=>sF hn (hp.mem_iff.1 ha) (hp'.mem_iff.1 hb) (Uv h2 h1)) hs hs' (hp.trans hp'.symm)
theorem pQ (q:Bp)(dn:List Nat)(hd:dn.Nodup)(h1:∀i∈dn,i<q.length)(h2:∀i,i<q.length->i∈dn):(dn.map (qv q)).Perm q:=by
 have hp:dn.Perm (List.range q.length):=(List.perm_ext_iff_of_nodup hd List.nodup_range).2 λa=>by
  rw[List.mem_range];exact⟨h1 a,h2 a⟩
 have he:(List.range q.length).map (qv q)=q:=by
  apply List.ext_getElem (by simp);intro i h3 h4;rw[List.getElem_map,List.getElem_range];exact TJ (BD h4)
 have:=hp.map (qv q)
 rwa [he]at this
def Ir (q:Bp):Bp:=if q.any (λp=>DX p.2)then[]else Eu q
def HZ (q:Bp):Nat:=if q.any (λp=>DX p.2)then 4 else 0
def Iq (q:Bp):D:=.tup [.sl false 2 ((Ir q).map CX),i64 (HZ q:Nat)]
instance d2e (q:Bp):AA (Iq q):=by unfold Iq;exact AH
theorem V4 (B:Nat)(hB9:B<100000)(q:Bp)(m:Cq)(hm:MQ B q m)(hl:q.length<=10000)(hnd:(q.map (·.1)).Nodup):AK C0 61 [mapD m] (Iq q):=by
 refine Ai.walk w1 Zs rfl λF0=>?_
 obtain⟨ks,hks⟩:∃ks:List D,m.map (λp=>(.prim (.string p.1):D))=ks:=⟨_,rfl⟩
 obtain⟨vs,hvs⟩:∃vs:List D,m.map (·.2)=vs:=⟨_,rfl⟩
 have hml:=hm.len;have hkl:ks.length=m.length:=by rw[<-hks,An]
 unfold mapD;rw[hks,hvs];refine sZ 0 ?_;refine AD kB ?_;refine sZ 100 ?_;refine AD kB ?_;refine AC.seq ?_;refine AC.seq ?_;refine HC (by kernel_rfl) ?_;change BW _ _ _ _ _ ([0]++(1::[])) _ _;refine Ev w1 200 [0] _ ?_;refine AD kB ?_;refine tf 201 (Mz (w1.xt 102 _ rfl)).1 rfl rfl rfl rfl (Tf F0) (λF1 o1 hto hO hI=>BW.nil ?_);refine Ap ?_;refine AC.block ?_;refine Ft (α:=List Nat×Obj×Nat×Nat) (λp=>⟨[(8,.optr 201 4 0 0 0),(4,Dc 706 p.2.2.1 2 (p.1.map λj=>CX (qv q j)))],DW 706 p.2.2.1 93 2 (p.1.map λj=>CX (qv q j)),p.2.2.2⟩) (λp=>q.length-p.1.length)
  (λp F=>Co C0 F0 F [⟨201,4,p.2.1⟩]/\Lx F p.2.1 ks vs p.1/\∀j∈p.1,DX (qv q j).2=false) ([],o1,0,_) ⟨hO,hI,by simp⟩ AL ?_
 clear hO hI hto;rintro⟨dn,o,g7,n1⟩ F ⟨hO,hI,hB⟩;dsimp only at hO hI hB⊢;refine AC.seq ?_;refine HC (by kernel_rfl) ?_;change BW _ _ _ _ _ [0,1] _ _;refine td rfl rfl rfl rfl hO hI (λhall=>?_) (λj kd vd F2 o2 hjn hkd hvd hto hO2 hI2=>?_)
 ·change BW _ _ _ _ _ ([1]++[]) _ _
  refine Ev w1 300 [1] [] ?_;refine AD kB ?_;refine BW.nil ?_;refine Ap ?_;refine AC.seq ?_;refine AI ?_;refine By ?_;have hq2:∀j,j<q.length->j∈dn:=λj hj=>hall j (by rw[hkl,<-hml];exact hj)
  have hdn:dn.Nodup/\∀i∈dn,i<q.length:=by
   obtain⟨bm,es,clock,since,c0,seen,-,-,-,z4,-,-,-,-,-,-,-,-,z8,z9⟩:=hI;exact⟨z8,λi hi=>by have:=z9 i hi;omega⟩
  have hpm:=pQ q dn hdn.1 hdn.2 hq2;have hpl:(dn.map (qv q)).length=q.length:=hpm.length_eq;have hbf:q.any (λp=>DX p.2)=false:=by
   rw[List.any_eq_false];intro p hp;obtain⟨i,hpi⟩:=List.mem_iff_getElem?.1 hp;have hi:=(List.getElem?_eq_some_iff.1 hpi).1
   have:=hB i (hq2 i hi)
   rw[TJ hpi]at this;rw[this];exact Bool.false_ne_true
  have hmm:(dn.map λj=>CX (qv q j))=(dn.map (qv q)).map CX:=by rw[List.map_map];rfl
  rw[hmm];generalize hLL:dn.map (qv q)=LL at hpm hpl⊢;have hrs:Iq q=.tup [.sl false 2 ((Eu q).map CX),i64 0]:=by unfold Iq Ir HZ;rw[hbf];rfl
  clear hmm hI hO hB hall hq2 hdn;rcases LL with _|⟨z,LL⟩
  ·have hqn:q=[]:=List.length_eq_zero_iff.1 (by rw[<-hpl];rfl)
   subst hqn;rw[show Dc 706 g7 2 (List.map CX [])=CK from rfl,show DW 706 g7 93 2 (List.map CX [])=[]from rfl];have cS:=fS;refine AR Am kB cS AB AB AB AB AB ?_;exact⟨_,HO (.nil 2) (.refl _),AA.out,by rw[hrs,show Eu []=[]from List.mergeSort_nil];rfl⟩
  ·have cS:=λkb gg H n=>bR (z::LL) (by simp) (by rw[hpl];omega) kb gg H n
   rw[Bj]at cS;rw[show Dc 706 g7 2 (List.map CX (z::LL))=.osl 706 g7 2 0 ((LL.map CX).length+1)from rfl,show DW 706 g7 93 2 (List.map CX (z::LL))=[⟨706,g7,93,2,(z::LL).map CX⟩]from rfl,An];refine AR Am kB cS AB AB AB AB AB ?_;refine A7.own _ (cS 706 g7 [] _) ?_;rintro d H' n' ⟨rfl,rfl,l',hp',hs',rfl⟩;have hpq:l'.Perm q:=hp'.trans hpm;have hl':=Q9 hnd hpq (JU q) hs' (Pe q);have hl0:l'≠[]:=λq=>by rw[q]at hp';have:=hp'.length_eq;simp at this
   have hll:LL.length+1=l'.length:=by rw[hp'.length_eq];rfl
   rw[hll];rw[<-hl']at hrs;clear hl' cS hp' hs' hpm hll;refine AR Am kB AB AB AB AB AB AB ?_;rw[hrs];refine⟨_,HO (?_:Fz _ [] _ (.sl false 2 (l'.map CX))) (.refl _),AA.out,rfl⟩;rcases l' with _|⟨z',t'⟩
   ·exact Ae rfl hl0
   ·have:=Po 706 g7 93 2 ((z'::t').map CX)
    rw[show Dc 706 g7 2 ((z'::t').map CX)=.osl 706 g7 2 0 ((t'.map CX).length+1)from rfl,show DW 706 g7 93 2 ((z'::t').map CX)=[⟨706,g7,93,2,(z'::t').map CX⟩]from rfl,An]at this;exact this
 change BW _ _ _ _ _ ([1]++[]) _ _;refine Ev w1 300 [1] [] ?_;refine AD kB ?_;refine BW.nil ?_;refine Ap ?_;refine AC.seq ?_;refine AI ?_;refine Aj ?_;obtain⟨p,hp⟩:∃p,m[j]?=some p:=by
  rw[<-hks,BK]at hkd;obtain⟨p,hp,-⟩:=Option.map_eq_some_iff.1 hkd;exact⟨p,hp⟩
 obtain⟨pq,y,hq,rfl,hy⟩:=hm.at_ j hp;have hkd2:kd=str (sb pq.1):=by
  rw[<-hks,BK,hp]at hkd;exact(FX hkd).symm
 have hvd2:vd=y.D:=by
  rw[<-hvs,BK,hp]at hvd;exact(FX hvd).symm
 subst hkd2 hvd2;have hqv:=TJ hq;refine AC.block ?_;refine AC.seq ?_;refine HC (by kernel_rfl) ?_;change BW _ _ _ _ _ (0::([1,2,3,4,5]++[])) _ _;refine t8 (xo:=⟨201,4,o2⟩) rfl rfl rfl rfl hO2 Cc hI2 hkd hvd ?_;refine Ev w1 400 [1,2,3,4,5] [] ?_;refine AD kB ?_;refine BW.nil ?_;have cL:=W1 hy (by omega);have cT:=ZW hy (by omega);obtain⟨bg,hbg⟩:∃b,DX pq.2=b:=⟨_,rfl⟩
 rw[hbg]at cL;refine Ap ?_;have hdl:dn.length+1<=q.length:=by
  have h1:∀i∈dn++[j],i<q.length:=by
   obtain⟨bm,es,clock,since,c0,seen,-,-,-,z4,-,-,-,-,-,-,-,-,-,z9⟩:=hI2;intro i hi
   have:=z9 i hi
   omega
  have h2:(dn++[j]).Nodup:=by
   obtain⟨bm,es,clock,since,c0,seen,-,-,-,-,-,-,-,-,-,-,-,-,z8,-⟩:=hI2;exact z8
  have:=RR _ _ h2 h1
  simpa using this
 have hsn:(dn++[j]).map (λj=>CX (qv q j))=dn.map (λj=>CX (qv q j))++[.agg [str (sb pq.1),str (sb (BI pq.2))]]:=by rw[DP,Cb,List.map_nil,hqv];rfl
 have hTl:(dn.map λj=>CX (qv q j)).length=dn.length:=An ..;obtain⟨TL,hTL⟩:∃TL,dn.map (λj=>CX (qv q j))=TL:=⟨_,rfl⟩
 rw[hTL]at hsn hTl⊢;cases bg
 rotate_left
 ·have hrb:(D.tup [.sl false 2 [],i64 4])=Iq q:=by
   have:q.any (λp=>DX p.2)=true:=by
    rw[List.any_eq_true];exact⟨pq,A8 hq,hbg⟩
   unfold Iq Ir HZ;rw[this];rfl
  rcases TL with _|⟨z,TL⟩
  ·dsimp only[IA,IB]
   refine AR Am kB cL AB AB AB AB AB ?_;exact⟨_,HO (.nil 2) (.refl _),AA.out,hrb⟩
  ·dsimp only[Gu,Gv]
   refine AR Am kB cL AB AB AB AB AB ?_;exact⟨_,HO (.nil 2) (.refl _),AA.out,hrb⟩
 have hB2:∀i∈dn++[j],DX (qv q i).2=false:=λi hi=>by
  rcases List.mem_append.1 hi with hi|hi
  ·exact hB i hi
  ·rw[List.mem_singleton]at hi;rw[hi,hqv];exact hbg
 rcases TL with _|⟨z,TL⟩
 ·dsimp only[IA,IB]
  refine AR Am kB cL cT AB AB AB AB ?_;exact⟨(dn++[j],o2,_,_),⟨hO2,hI2,hB2⟩,by dsimp only;rw[B1,GL];omega,by(dsimp only;rw[hsn];exact AL)⟩
 ·dsimp only[Gu,Gv]
  have htk:List.take (TL.length+1) (z::TL)=z::TL:=by simp
  rw[Bj]at hTl;refine AR Am htk cL cT AB AB AB AB ?_;exact⟨(dn++[j],o2,_,_),⟨hO2,hI2,hB2⟩,by dsimp only;rw[B1,GL];omega,by(dsimp only;rw[hsn,Mk];exact AL)⟩
abbrev CZ (q:Bp):List (List UInt8):=q.map (·.1)
theorem VE (lot:List UInt8)(r:Rat):∀q:Bp,CZ (Fo lot r q)=if lot∈CZ q then CZ q else CZ q++[lot]
 | []=>by simp[Fo,CZ]
 |p::l=>by
  unfold Fo
  by_cases h:lot=p.1
  ·rw[AF h]
   subst h;simp[CZ]
  ·rw[AE h]
   show p.1::CZ (Fo lot r l)=if lot∈p.1::CZ l then p.1::CZ l else p.1::CZ l++[lot]
   rw[VE lot r l]
   by_cases h2:lot∈CZ l
   ·rw[AF h2,AF (Ck _ h2)]
   ·rw[AE h2,AE (by
     intro q;rcases BA.1 q with q|q
     ·exact h q
     ·exact h2 q)];rfl
structure GW (P:List UInt8->Prop)(n:Nat)(q:Bp):Prop where
 nd:(CZ q).Nodup
 all:∀k∈CZ q,P k
 len:q.length<=n
theorem GW.set {P:List UInt8->Prop}{n:Nat}{q:Bp}(h:GW P n q){lot:List UInt8}(hl:P lot)(r:Rat):GW P (n+1) (Fo lot r q):=by
 have hk:=VE lot r q;have hlen:(Fo lot r q).length=(CZ (Fo lot r q)).length:=by simp[CZ]
 have hlen2:q.length=(CZ q).length:=by simp[CZ]
 by_cases hm:lot∈CZ q
 ·rw[AF hm]at hk
  exact⟨by rw[hk];exact h.nd,by rw[hk];exact h.all,by rw[hlen,hk,<-hlen2];have:=h.len;omega⟩
 ·rw[AE hm]at hk
  refine⟨?_,?_,?_⟩
  ·rw[hk,ER]
   exact⟨h.nd,by simp,λa ha b hb=>by
    rw[List.mem_singleton]at hb;subst hb;exact λe=>hm (e ▸ ha)⟩
  ·rw[hk]
   intro k hk;rcases List.mem_append.1 hk with q|q
   ·exact h.all k q
   ·rw[List.mem_singleton]at q;rw[q];exact hl
  ·rw[hlen,hk,B1,<-hlen2]
   have:=h.len
   simp;omega
theorem GW.mono {P:List UInt8->Prop}{n n':Nat}{q:Bp}(h:GW P n q)(hn:n<=n'):GW P n' q:=⟨h.nd,h.all,BP h.len hn⟩
theorem Ut {P:List UInt8->Prop}{n:Nat}{q:Bp}(x:AG)(h:GW P n q)(hp:∀s∈x.shs,P s.lot):∀j,j<=x.shs.length->GW P (n+j) (Fk x j q)
 | 0,_=>h
 |j+1,hj=>by
  obtain⟨s,hs⟩:∃s,x.shs[j]?=some s:=⟨_,BD hj⟩
  rw[Mn x j q hs];exact(Ut x h hp j (by omega)).set (hp s (A8 hs)) _
theorem UL {P:List UInt8->Prop}(l:List AG)(hp:∀x∈l,x.shs.length<=64/\∀s∈x.shs,P s.lot):∀i,i<=l.length->GW P (64*i) (B7 (l.take i))
 | 0,_=>⟨by simp[B7,CZ],by simp[B7,CZ],by simp[B7]⟩
 |i+1,hi=>by
  obtain⟨x,hx⟩:∃x,l[i]?=some x:=⟨_,BD hi⟩
  rw[Oa l i hx];have h1:=hp x (A8 hx);exact(Ut x (UL l hp i (by omega)) h1.2 _ (Af _)).mono (by omega)
theorem RH {P:List UInt8->Prop}{l:List AG}(hp:∀x∈l,x.shs.length<=64/\∀s∈x.shs,P s.lot):GW P (64*l.length) (B7 l):=by
 have:=UL l hp l.length (Af _)
 rwa [Dk]at this
theorem MQ.keys {B:Nat}:∀ {q:Bp} {m:Cq},MQ B q m->m.map (·.1)=(CZ q).map sb
 | [],[],_=>rfl
 |p::q,e::m,⟨⟨h1,_⟩,h4⟩=>by
  simp only[Cb,CZ];rw[h1]
  congr 1
  exact MQ.keys h4
theorem Us (s:ByteArray):∀m:Cq,G5 s (m.map λp=>.prim (.string p.1)) (m.map (·.2))=some (HH s m)
 | []=>rfl
 |p::l=>by
  simp only[Cb,G5,HH];cases BM s p.1 with
  |true=>rfl
  |false=>exact Us s l
theorem RQ:∀ {q:Bp} {p:List UInt8×Rat},(CZ q).Nodup->p∈q->FK p.1 q=some p.2
 |a::q,p,hn,hp=>by
  unfold FK;have hn:(a.1::CZ q).Nodup:=hn;rw[List.nodup_cons]at hn;rcases BA.1 hp with rfl|hp
  ·rw[AF rfl]
  ·rw[AE λe=>hn.1 (by rw[<-e];exact List.mem_map_of_mem hp)]
   exact RQ hn.2 hp
theorem dJ (q:Bp):Na (CZ q)=(Eu q).map (·.1):=by
 unfold Na;refine List.Perm.eq_of_pairwise (le:=λx y:List UInt8=>x<=y) (λ_ _ _ _ h1 h2=>List.le_antisymm h1 h2) ?_ ?_ ?_
 ·have:=List.pairwise_mergeSort (le:=λx y:List UInt8=>decide (x<=y)) (λa b c h1 h2=>by simp only[Gl]at*;exact List.le_trans h1 h2) (λa b=>by
   rcases List.le_total a b with h|h<;>simp[h]) (CZ q)
  exact this.imp λh=>by simpa using h
 ·rw[List.pairwise_map]
  exact(Pe q).imp λh=>by simpa[ltStr]using h
 ·exact(List.mergeSort_perm _ _).trans ((JU q).map _).symm
abbrev JS:Dr:=[(12,[0,1,2,3,4,5],[6])]
open Go.Proofs Go.RowKit
set_option maxRecDepth 20000
set_option maxHeartbeats 4000000
def CJ (l:List AG):Bool:=l.all λx=>BM (sb x.grain) (sb (CC l 0).grain)
def Gd (l:List AG):Nat:=if l.length=0 then 2 else if 64<l.length then 5 else if DT (λi=>CU (CC l i)) l.length≠0 then DT (λi=>CU (CC l i)) l.length else if CJ l=false then 16 else if Av l>999999999 then 4 else 0
def QT (l:List AG):Int:=if Gd l=0 then Av l else 0
theorem eA (b:Bool)(v:List AG)(hl:v.length<=1000000)(hf:∀x∈v,x.few):AK C0 146 [.clo (.func 85) [] [],Ax b v] (i64 (DT (λi=>CU (CC v i)) v.length:Nat)):=by
 refine Ai.walk w1 Xf rfl λF=>?_
 have el:(((v.map AG.D).length:Nat):Int)=(v.length:Int):=by rw[An]
 refine AR Am el AB AB AB AB AB AB ?_;refine AC.loop (α:=Nat×Nat) (λp=>⟨[(0,.clo (.func 85) [] []),(8,Ax b v),(9,i64 (v.length:Int)),(10,i64 (p.1:Int))],[],p.2⟩) (λp=>v.length-p.1)
  (λp=>p.1<=v.length/\∀j,j<p.1->CU (CC v j)=0) (0,_) ⟨BZ _,λj h=>Ae h (Ht j)⟩ AL ?_
 rintro⟨i,m⟩ F ⟨hi,hz⟩;dsimp only at hi hz⊢;rcases BL i v.length with h2|h2
 ·have e1:=Cx h2
  have wi:=Cy (i:=i) (by omega);obtain⟨x,hx⟩:=Cg h2;have hm:(v.map AG.D)[i]?=some (.agg [str (sb x.grain),i64 x.mass,.sl false 2 (x.shs.map BE.D)]):=by rw[BK,hx];rfl
  have cL:=aP x (hf x (A8 hx));unfold AG.D at cL;rcases Nat.decEq (CU x) 0 with hc0|hc0
  ·have e3:=Fr hc0
   have hE:=M9 (f:=λi=>CU (CC v i)) hz h2 (by rw[E5 hx];exact hc0);rw[E5 hx]at hE;rw[hE];refine AR Am (Ar e1 e3 kN) hm cL AB AB AB AB ?_;exact AN rfl AA.out
  ·have e3:=Fs hc0
   refine AR Am (Ba e1 e3 wi kN) hm cL AB AB AB AB ?_;exact⟨(i+1,_),⟨h2,λj hj=>by
    rcases Nat.lt_succ_iff_lt_or_eq.1 hj with q|q
    ·exact hz j q
    ·rw[q,E5 hx];exact hc0⟩,by dsimp only;omega,AL⟩
 ·have e1:=Cw h2
  have:i=v.length:=by omega
  subst this;rw[LK (f:=λi=>CU (CC v i)) hz];refine AR Am e1 AB AB AB AB AB AB ?_;exact AN rfl AA.out
theorem kR (b:Bool)(l:List AG)(hl:l.length<=1000000)(hf:∀x∈l,x.few):AK C0 102 [Ax b l] (.tup [i64 (QT l),i64 (Gd l:Nat)]):=by
 refine Ai.walk w1 YA rfl λF=>?_
 have el:(((l.map AG.D).length:Nat):Int)=(l.length:Int):=by rw[An]
 have hC:Gd l=if l.length=0 then 2 else if 64<l.length then 5 else if DT (λi=>CU (CC l i)) l.length≠0 then DT (λi=>CU (CC l i)) l.length else if CJ l=false then 16 else if Av l>999999999 then 4 else 0:=rfl
 have hM:QT l=if Gd l=0 then Av l else 0:=rfl
 have cA:=eA b l hl hf
 by_cases h0:l.length=0
 ·rw[AF h0]at hC
  rw[hC]at hM;rw[hM,hC];have q1:((l.length:Int)==0)=true:=by rw[h0];rfl
  refine AR JS (Ah el q1) AB AB AB AB AB AB ?_;exact AN rfl AA.out
 rw[AE h0]at hC;have q1:((l.length:Int)==0)=false:=by
  rw[Bv];omega
 by_cases h64:64<l.length
 ·rw[AF h64]at hC
  rw[hC]at hM;rw[hM,hC];have q2:decide ((l.length:Int)>64)=true:=AZ (by omega);refine AR JS (Ar el q1 q2) AB AB AB AB AB AB ?_;exact AN rfl AA.out
 rw[AE h64]at hC;have q2:decide ((l.length:Int)>64)=false:=Ad (by omega);obtain⟨K,hK⟩:∃K,DT (λi=>CU (CC l i)) l.length=K:=⟨_,rfl⟩
 rw[hK]at hC cA;rcases Nat.decEq K 0 with hc0|hc0
 ·have e3:=Fr hc0
  rw[AF hc0]at hC;rw[hC]at hM;rw[AE hc0]at hM;rw[hM,hC];refine AR JS (Ba el q1 q2 e3) cA AB AB AB AB AB ?_;exact AN rfl AA.out
 have e3:=Fs hc0;rw[AE (λh=>h hc0)]at hC;have hz:∀j,j<l.length->CU (CC l j)=0:=O9 (hK.trans hc0);have hsm:=RS h64 hz;obtain⟨x0,hx0⟩:∃x,l[0]?=some x:=⟨_,BD (by omega)⟩
 have hm0:(l.map AG.D)[0]?=some (.agg [str (sb x0.grain),i64 x0.mass,.sl false 2 (x0.shs.map BE.D)]):=by rw[BK,hx0];rfl
 have hv0:=E5 hx0;refine AR JS (Ba el q1 q2 e3) cA AB AB AB AB AB ?_;refine AC.loop (α:=Nat×Nat) (λp=>⟨[(0,Ax b l),(5,i64 (Av (l.take p.1))),(19,Ax b l),(20,i64 (l.length:Int)),(21,i64 (p.1:Int))],[],p.2⟩) (λp=>l.length-p.1)
  (λp=>p.1<=l.length/\∀x∈l.take p.1,BM (sb x.grain) (sb x0.grain)=true) (0,_) ⟨BZ _,λx h=>by simp at h⟩ AL ?_
 rintro⟨i,m⟩ F ⟨hi,hs⟩;dsimp only at hi hs⊢;rcases BL i l.length with h2|h2
 rotate_left
 ·have e1:=Cw h2
  have:i=l.length:=by omega
  subst this;rw[Dk]at hs⊢;have hg:CJ l=true:=by
   unfold CJ;rw[CI,hv0];exact hs
  rw[AE (by rw[hg];decide)]at hC
  by_cases h9:Av l>999999999
  ·have e9:decide (Av l>999999999)=true:=AZ h9
   rw[AF h9]at hC;rw[hC]at hM;rw[hM,hC];refine AR JS (Ah e1 e9) AB AB AB AB AB AB ?_;exact AN rfl AA.out
  ·have e9:decide (Av l>999999999)=false:=Ad h9
   rw[AE h9]at hC;rw[hC]at hM;rw[hM,hC];refine AR JS (Ah e1 e9) AB AB AB AB AB AB ?_;exact AN rfl AA.out
 have e1:=Cx h2;have wi:=Cy (i:=i) (by omega);obtain⟨x,hx⟩:=Cg h2;have hm:(l.map AG.D)[i]?=some (.agg [str (sb x.grain),i64 x.mass,.sl false 2 (x.shs.map BE.D)]):=by rw[BK,hx];rfl
 have hsum:=Rh hx;have hs1:=R8 (l:=l.take i) λy hy=>hsm.2 y (Hx hy)
 have hs2:=hsm.2 x (A8 hx);rw[Bg]at hs1;have ws:IntKind.i64.wrap (Av (l.take i)+x.mass)=Av (l.take i)+x.mass:=wI (by omega) (by omega);obtain⟨bG,hbG⟩:∃q,BM (sb x.grain) (sb x0.grain)=q:=⟨_,rfl⟩
 cases bG
 ·have hg:CJ l=false:=by
   unfold CJ;rw[List.all_eq_false];exact⟨x,A8 hx,by rw[hv0,hbG];decide⟩
  rw[AF hg]at hC;rw[hC]at hM;rw[hM,hC];refine AR JS (Ar e1 hbG kN) hm hm0 AB AB AB AB ?_;exact AN rfl AA.out
 ·refine AR JS (CH e1 hbG wi ws kN) hm hm0 AB AB AB AB ?_
  exact⟨(i+1,_),⟨h2,λy hy=>by
   rw[D7,hx]at hy;rcases List.mem_append.1 hy with q|q
   ·exact hs y q
   ·have:y=x:=by simpa using q
    rw[this];exact hbG⟩,by dsimp only;omega,by(dsimp only;rw[hsum];exact AL)⟩
abbrev EJ:Dr:=[(11,[0,1,2,3,4,5,6,7],[8]),(24,[0,1,2,3,4,5,6,7,8,9,10],[11])]
open Go.Proofs Go.RowKit Go.Sort
set_option maxRecDepth 20000
set_option maxHeartbeats 4000000
def GB (l:List AG):Nat:=if Gd l≠0 then Gd l else if 64<(B7 l).length then 5 else if(Eu (B7 l)).any (λp=>DX (p.2/(Av l:Rat)))then 4 else 0
def EO (l:List AG):List BE:=(Eu (B7 l)).map λp=>⟨p.1,BI (p.2/(Av l:Rat))⟩
def Jv (l:List AG):AG:=if GB l≠0 then⟨[],0,[]⟩else⟨(CC l 0).grain,Av l,EO l⟩
def AG.lite (x:AG):Prop:=x.few/\∀s∈x.shs,s.lot.length<=1000/\s.part.length<=40
theorem U5 {l:List BE}(h:Gy l=0):0<l.length/\l.length<=64/\∀s∈l,DM s.lot=true/\CN s.part=0/\0<GE (CE s.part):=by
 unfold Gy at h;split at h
 ·cases h
 ·split at h
  ·cases h
  ·split at h
   ·rename_i h3;exact Ae h h3
   ·rename_i h1 h2 h3
    refine⟨by omega,by omega,λs hs=>?_⟩;obtain⟨j,hj⟩:=List.mem_iff_getElem?.1 hs;have hE:=O9 (f:=Ey l) (n:=l.length) (by omega) j (List.getElem?_eq_some_iff.1 hj).1;unfold Ey at hE;rw[Il hj]at hE;split at hE
    ·cases hE
    ·split at hE
     ·cases hE
     ·split at hE
      ·rename_i h6;exact Ae hE h6
      ·split at hE
       ·cases hE
       ·rename_i h4 h5 h6 h7
        exact⟨by simpa using h4,by omega,by omega⟩
theorem YZ {x:AG}(hl:x.lite)(h:CU x=0):x.ok/\∀s∈x.shs,DM s.lot=true:=by
 obtain⟨h1,h2,h3,h4⟩:=M1 h;obtain⟨g1,g2,g3⟩:=U5 h4;exact⟨⟨g2,by unfold Sm;omega,λs hs=>⟨BP (hl.2 s hs).1 (by omega),(hl.2 s hs).2,(g3 s hs).2.1⟩⟩,λs hs=>(g3 s hs).1⟩
theorem Wn {l:List AG}(h:Gd l=0):0<l.length/\l.length<=64/\(∀x∈l,CU x=0)/\CJ l=true/\Av l<=999999999:=by
 unfold Gd at h;split at h
 ·cases h
 ·split at h
  ·cases h
  ·split at h
   ·rename_i h3;exact Ae h h3
   ·split at h
    ·cases h
    ·split at h
     ·cases h
     ·rename_i h1 h2 h3 h4 h5
      refine⟨by omega,by omega,λx hx=>?_,by simpa using h4,by omega⟩;obtain⟨j,hj⟩:=List.mem_iff_getElem?.1 hx
      have:=O9 (f:=λi=>CU (CC l i)) (n:=l.length) (by omega) j (List.getElem?_eq_some_iff.1 hj).1
      rwa [E5 hj]at this
theorem WG:∀ {l:List AG},(∀x∈l,CU x=0)->(l.length:Int)<=Av l
 | [],_=>by simp[Av]
 |x::l,h=>by
  have h1:=(M1 (h x Cc)).2.1;have h2:=WG (l:=l) λy hy=>h y (Ck _ hy)
  unfold Av at h2⊢;simp only[Cb,List.sum_cons,Bj];omega
theorem NA (H:Hp)(e:Int):Fz H [] (.tup [.agg [str ⟨#[]⟩,i64 0,CK],i64 e]) (.tup [(⟨[],0,[]⟩:AG).D,i64 e]):=
 HO (.agg rfl λi d d' h h'=>by
  match i with
  | 0=>cases h;cases h';exact .refl _
  | 1=>cases h;cases h';exact .refl _
  | 2=>cases h;cases h';exact .nil 2
  |n+3=>cases h) (.refl _)
theorem YX {H:Hp}{gr m sD e:D}{L:List D}(h:Fz H [] sD (.sl false 2 L)):Fz H [] (.tup [.agg [gr,m,sD],e]) (.tup [.agg [gr,m,.sl false 2 L],e]):=
 HO (.agg rfl λi d d' h1 h2=>by
  match i with
  | 0=>cases h1;cases h2;exact .refl _
  | 1=>cases h1;cases h2;exact .refl _
  | 2=>cases h1;cases h2;exact h
  |n+3=>cases h1) (.refl _)
theorem jq {H:Hp}{k g T sz:Nat}{z:D}{l:List D}(he:Hp.get H k=some ⟨k,g,T,sz,z::l⟩):Fz H [] (.osl k g sz 0 (l.length+1)) (.sl false sz (z::l)):=by
 refine .osl (e:=⟨k,g,T,sz,z::l⟩) he rfl rfl rfl (by simp) (by simp) (λj d d' h1 h2=>?_) λj d d' q c c' h1 h2 h3 h4=>?_
 ·rw[BT]at h1;rw[h1]at h2;cases h2;rfl
 ·rw[BT]at h1;rw[h1]at h2;cases h2;rw[h3]at h4;cases h4;exact Fz.refl _
theorem ic (l:Cq)(H:Hp)(n:Nat):CQ C0 108 [mapD l] H n (λd H' n'=>∃g,d=.clo (.func 157) [] [.optr 77000 g 1 0 0]/\H'=⟨77000,g,102,1,[mapD l]⟩::H/\n'=n+4):=by
 refine CQ.walk w1 XT rfl λF0=>?_
 obtain⟨M,hM⟩:∃M,mapD l=M:=⟨_,rfl⟩
 have hc:∃ks vs,M=.mp ks vs:=⟨_,_,hM.symm⟩
 obtain⟨ks,vs,hc⟩:=hc;subst hc;rw[hM];refine AC.seq ?_;refine Ak w1 77000 (by kernel_rfl) ?_;refine AD kB ?_;refine Ap ?_;refine AR Am kB AB AB AB AB AB AB ?_;exact⟨_,rfl,rfl,trivial⟩
theorem qA {r:Rat}{x:GF}{k:Nat}(h:FR r x k)(hk:k<100000):AK C0 109 [x.D] (.tup [str (sb (S4 r)),i64 (S3 r:Nat)]):=by
 refine Ai.walk w1 XU rfl λF=>?_
 have c1:=W1 h hk;have c2:=ZW h hk;unfold S4 S3;obtain⟨b,hb⟩:∃b,DX r=b:=⟨_,rfl⟩
 rw[hb]at c1⊢;cases b
 all_goals
  refine AR Am kB c1 c2 AB AB AB AB ?_;exact AN rfl AA.out
theorem s8 (b:Bool)(l:List AG)(hl:l.length<=1000000)(hf:∀x∈l,x.lite):AK C0 58 [Ax b l] (.tup [(Jv l).D,i64 (GB l:Nat)]):=by
 refine Ai.walk w1 Zq rfl λF0=>?_
 have el:(((l.map AG.D).length:Nat):Int)=(l.length:Int):=by rw[An]
 have cM:=kR b l hl λx hx=>(hf x hx).1
 have hN:GB l=if Gd l≠0 then Gd l else if 64<(B7 l).length then 5 else if(Eu (B7 l)).any (λp=>DX (p.2/(Av l:Rat)))then 4 else 0:=rfl
 have hL:Jv l=if GB l≠0 then⟨[],0,[]⟩else⟨(CC l 0).grain,Av l,EO l⟩:=rfl
 rcases Nat.decEq (Gd l) 0 with g|g
 ·have e1:=Fr g
  rw[AF g]at hN;rw[hN,AF g]at hL;rw[hL,hN];refine AR EJ e1 cM AB AB AB AB AB ?_;exact⟨_,NA _ _,AA.out,rfl⟩
 have e1:=Fs g;rw[AE (λh=>h g)]at hN;have hmm:QT l=Av l:=by unfold QT;rw[AF g]
 obtain⟨g1,g2,g3,g4,g5⟩:=Wn g;have hx:∀x∈l,x.ok:=λx h=>(YZ (hf x h) (g3 x h)).1
 have g6:=WG g3;rw[hmm]at cM;refine sZ 0 ?_;refine AD kB ?_;refine sZ 100 ?_;refine AD kB ?_;refine cI cM ?_;refine AD kB ?_;refine AC.seq ?_;refine sZ 200 ?_;refine AD e1 ?_;refine AI ?_;refine Aj ?_;refine AC.seq ?_;refine HC (by kernel_rfl) ?_;change BW _ _ _ _ _ [0,1] _ _;refine BW.makeMap 400 rfl rfl rfl (Tf F0) (λF1 it hto hO hr0 hnX hM=>?_);change BW _ _ _ _ _ ([1]++[]) _ _;refine Ev w1 400 [1] [] ?_;refine AD kB ?_;refine BW.nil ?_;refine AR EJ el AB AB AB AB AB AB ?_;refine Ft (α:=Nat×Cq×Obj×Nat) (λp=>⟨[(0,Ax b l),(2,.optr 0 0 3 0 0),(4,i64 (Av l)),(6,.prim (.map (some it))),(29,Ax b l),(30,i64 (l.length:Int)),(31,i64 (p.1:Int))],[⟨0,0,27,3,[.agg [.prim (.string ⟨#[]⟩),.prim (.int .i64 0),.prim (.slice none 0 0)]]⟩],p.2.2.2⟩) (λp=>l.length-p.1)
  (λp F=>p.1<=l.length/\Co C0 F0 F [⟨400,11,p.2.2.1⟩]/\F.r0 400 11=some it/\G3 F p.2.2.1 p.2.1/\MQ (320*p.1) (B7 (l.take p.1)) p.2.1) (0,[],.map #[] 0,_) ⟨BZ _,hO,hr0,hM,trivial⟩ AL ?_
 clear hO hr0 hM hto;rintro⟨i,m,o,n1⟩ F ⟨hi,hO,hr0,hM,hQ⟩;dsimp only at hi hO hr0 hM hQ⊢;rcases BL i l.length with h2|h2
 rotate_left
 ·have e1:=Cw h2
  have:i=l.length:=by omega
  subst this;rw[Dk]at hQ;refine sZ 600 ?_;refine AD e1 ?_;refine AC.seq ?_;refine AI ?_;refine By ?_;refine ah [(0,Ax b l),(2,.optr 0 0 3 0 0),(4,i64 (Av l)),(6,mapD m)] hO hr0 hnX hM ⟨.inl rfl,.inl rfl,.inl rfl,.inr ⟨rfl,rfl⟩,trivial⟩ (λF2 hto2 hO2=>?_);have hKO:GW (λk=>k.length<=1000) (64*l.length) (B7 l):=RH λx h=>⟨(hx x h).1,λs hs=>((hf x h).2 s hs).1⟩
  have hQ2:MQ 32000 (B7 l) m:=hQ.mono (by omega);clear hQ hO hM hto2 hO2;obtain⟨q,hq⟩:∃q,B7 l=q:=⟨_,rfl⟩
  have hSS:EO l=(Eu q).map λp=>⟨p.1,BI (p.2/(Av l:Rat))⟩:=by rw[<-hq];rfl
  rw[hq]at hKO hQ2 hN;have hml:=hQ2.len;obtain⟨ks,hks⟩:∃ks:List D,m.map (λp=>(.prim (.string p.1):D))=ks:=⟨_,rfl⟩
  obtain⟨vs,hvs⟩:∃vs:List D,m.map (·.2)=vs:=⟨_,rfl⟩
  have hkl:ks.length=q.length:=by rw[<-hks,An,hml]
  unfold mapD;rw[hks,hvs];refine AC.seq ?_;refine AC.seq ?_;refine HC (by kernel_rfl) ?_;change BW _ _ _ _ _ ([0]++(1::([2]++[]))) _ _;refine Ev w1 1800 [0] _ ?_;refine AD kB ?_;refine tc (Mz (w1.xt 102 _ rfl)).1 rfl rfl rfl rfl ?_;refine Ev w1 1800 [2] _ ?_;refine AD kB ?_;refine BW.nil ?_;rw[hkl]
  by_cases h64:64<q.length
  ·rw[AF h64]at hN
   rw[hN,AF (by omega)]at hL;rw[hL,hN];have q2:decide ((q.length:Int)>64)=true:=AZ (by omega);refine AR EJ q2 AB AB AB AB AB AB ?_;exact⟨_,NA _ _,AA.out,rfl⟩
  have q2:decide ((q.length:Int)>64)=false:=Ad (by omega);rw[AE h64]at hN;rw[q2];have hmd:mapD m=.mp ks vs:=by unfold mapD;rw[hks,hvs]
  have cK:=ic m;have cS:=FF m (CZ q) hQ2.keys (by omega) hKO.all hKO.nd;rw[hmd]at cK cS;obtain⟨x0,hx0⟩:∃x,l[0]?=some x:=⟨_,BD (by omega)⟩
  have hm0:(l.map AG.D)[0]?=some (.agg [str (sb x0.grain),i64 x0.mass,.sl false 2 (x0.shs.map BE.D)]):=by rw[BK,hx0];rfl
  refine AR EJ kB hm0 AB AB AB AB AB ?_;refine A7.own _ (cK _ _) ?_;rintro d H' n' ⟨gk,rfl,rfl,rfl⟩;refine AR EJ kB AB AB AB AB AB AB ?_;refine A7.own _ (cS _ _ _ _ _) ?_;rintro d H' n' ⟨rfl,rfl,rfl⟩;refine AR EJ kB AB AB AB AB AB AB ?_;have hkey:=dJ q;have hsl:(Eu q).length=q.length:=(JU q).length_eq;have hsm:∀p∈Eu q,p∈q:=λp h=>(JU q).mem_iff.1 h
  rw[hkey];obtain⟨Q,hQ⟩:∃Q,Eu q=Q:=⟨_,rfl⟩
  rw[hQ]at hN hSS hsl hsm⊢;have hMs:Sm (Av l):=by unfold Sm;omega
  have hM0:((Av l:Int):Rat)≠0:=λh=>by
   have:=Rat.intCast_inj.1 (h.trans (Rat.intCast_zero).symm)
   omega
  have fM:FR ((Av l:Int):Rat) ⟨AV (Av l),1⟩ 1:=PS (by unfold Sm at hMs;omega);have cF:=Np (Av l) hMs;obtain⟨kl,hkl2⟩:∃kl:List D,(List.map (λx=>str (sb x)) (Q.map (·.1)))=kl:=⟨_,rfl⟩
  have hkll:kl.length=Q.length:=by rw[<-hkl2];simp
  rw[hkl2];obtain⟨M,hMM⟩:∃M,Av l=M:=⟨_,rfl⟩
  have hgr:(CC l 0).grain=x0.grain:=by rw[E5 hx0]
  clear hmd cK cS hm0;rw[hMM]at hN hL hSS hMs hM0 fM cF;rw[hMM,hkll];obtain⟨g14,hg14⟩:∃g,n1+1+1+1+1+1+1+1+1+1+1=g:=⟨_,rfl⟩
  rw[hg14];refine AC.loop (α:=Nat×Nat×Nat) (λp=>⟨[(2,.optr 0 0 3 0 0),(4,i64 M),(6,.mp ks vs),(14,.optr 2006 g14 3 0 0),(78,.sl false 1 kl),(79,i64 (Q.length:Nat)),(80,i64 (p.1:Int))],
    DW 2706 p.2.1 82 2 ((Q.take p.1).map λz=>(⟨z.1,BI (z.2/(M:Rat))⟩:BE).D)++[⟨2006,g14,27,3,[.agg [str (sb x0.grain),i64 M,Dc 2706 p.2.1 2 ((Q.take p.1).map λz=>(⟨z.1,BI (z.2/(M:Rat))⟩:BE).D)]]⟩,⟨0,0,27,3,[.agg [.prim (.string ⟨#[]⟩),.prim (.int .i64 0),.prim (.slice none 0 0)]]⟩],p.2.2⟩) (λp=>Q.length-p.1)
   (λp=>p.1<=Q.length/\∀z∈Q.take p.1,DX (z.2/(M:Rat))=false) (0,0,_) ⟨BZ _,λz h=>by simp at h⟩ AL ?_
  clear n1 hg14;rintro⟨i,g,n1⟩ F ⟨hi,hB⟩;dsimp only at hi hB⊢;have hTl:((Q.take i).map λz=>(⟨z.1,BI (z.2/(M:Rat))⟩:BE).D).length=i:=by rw[An,Bg];omega
  obtain⟨TL,hTL⟩:∃TL,((Q.take i).map λz=>(⟨z.1,BI (z.2/(M:Rat))⟩:BE).D)=TL:=⟨_,rfl⟩
  rcases BL i Q.length with h2|h2
  rotate_left
  ·have e1:=Cw h2
   have:i=Q.length:=by omega
   subst this;rw[Dk]at hB hTL⊢;have hany:Q.any (λp=>DX (p.2/(M:Rat)))=false:=by
    rw[List.any_eq_false];intro p hp;rw[hB p hp];decide
   rw[AE (by rw[hany];decide)]at hN;rw[AE (by omega)]at hL;rw[hL,hN,hgr];have hres:((⟨x0.grain,M,EO l⟩:AG).D)=.agg [str (sb x0.grain),i64 M,.sl false 2 TL]:=by
    unfold AG.D Dg;rw[<-hTL,hSS,List.map_map];rfl
   have pR:Bw (.tup [(⟨x0.grain,M,EO l⟩:AG).D,i64 ((0:Nat):Int)]):=AA.out;rw[hres]at pR;rw[hres,hTL];rcases TL with _|⟨z,TL⟩
   ·dsimp only[IA,IB,List.nil_append]
    refine AR EJ e1 AB AB AB AB AB AB ?_;exact⟨_,YX (.nil 2),pR,rfl⟩
   ·dsimp only[Gu,Gv,List.cons_append,List.nil_append]
    refine AR EJ e1 AB AB AB AB AB AB ?_;exact⟨_,YX (jq rfl),pR,rfl⟩
  have e1:=Cx h2;have wi:=Cy (i:=i) (by omega);obtain⟨p,hp⟩:=Cg h2;have hmk:kl[i]?=some (str (sb p.1)):=by rw[<-hkl2,BK,BK,hp];rfl
  have hlq:=RQ hKO.nd (hsm p (A8 hp));rcases hQ2.look p.1 with⟨q1,q3⟩|⟨r,y,q1,q3,q4⟩
  ·rw[hlq]at q3;cases q3
  rw[hlq]at q3;cases q3;have hLk:G5 (sb p.1) ks vs=some (some y.D):=by rw[<-hks,<-hvs,Us,q1]
  have cDv:=mT q4 fM hM0 (by omega);have fD:=jg q4 fM hM0;obtain⟨z,hz⟩:∃z,QO y ⟨AV M,1⟩=z:=⟨_,rfl⟩
  rw[hz]at cDv fD;have cG:=qA fD (by omega);obtain⟨dM,hdM⟩:∃d,(⟨AV M,1⟩:GF).D=d:=⟨_,rfl⟩
  have pdM:AA dM:=by rw[<-hdM];exact AH
  obtain⟨dy,hdy⟩:∃d,y.D=d:=⟨_,rfl⟩
  have pdy:AA dy:=by rw[<-hdy];exact AH
  obtain⟨dz,hdz⟩:∃d,z.D=d:=⟨_,rfl⟩
  have pdz:AA dz:=by rw[<-hdz];exact AH
  rw[hdy]at hLk cDv;rw[hdM]at cF cDv;rw[hdz]at cDv cG;unfold S4 S3 at cG;obtain⟨bg,hbg⟩:∃q,DX (p.2/(M:Rat))=q:=⟨_,rfl⟩
  rw[hbg]at cG;have hsn:((Q.take (i+1)).map λz=>(⟨z.1,BI (z.2/(M:Rat))⟩:BE).D)=TL++[.agg [str (sb p.1),str (sb (BI (p.2/(M:Rat))))]]:=by
   rw[D7,hp,DP,hTL];rfl
  rw[hTL]at hTl⊢;have n4:((((4:Nat):Int)) != 0)=true:=rfl;have n0:((((0:Nat):Int)) != 0)=false:=rfl;cases bg
  rotate_left
  ·rw[AF rfl,AF rfl]at cG
   have hany:Q.any (λp=>DX (p.2/(M:Rat)))=true:=by
    rw[List.any_eq_true];exact⟨p,A8 hp,hbg⟩
   rw[AF hany]at hN;rw[AF (by omega)]at hL;rw[hL,hN];rcases TL with _|⟨z9,TL⟩
   ·dsimp only[IA,IB,List.nil_append]
    refine AR EJ (Ah e1 kN) hmk AB AB AB AB AB ?_;refine Og (d':=dy) rfl rfl rfl rfl rfl rfl hLk rfl ?_;refine Ap ?_;refine AR EJ n4 cF cDv cG AB AB AB ?_;exact⟨_,NA _ _,AA.out,rfl⟩
   ·dsimp only[Gu,Gv,List.cons_append,List.nil_append]
    refine AR EJ (Ah e1 kN) hmk AB AB AB AB AB ?_;refine Og (d':=dy) rfl rfl rfl rfl rfl rfl hLk rfl ?_;refine Ap ?_;refine AR EJ n4 cF cDv cG AB AB AB ?_;exact⟨_,NA _ _,AA.out,rfl⟩
  rw[AE (by decide),AE (by decide)]at cG;have hB2:∀w∈Q.take (i+1),DX (w.2/(M:Rat))=false:=λw hw=>by
   rw[D7,hp]at hw;rcases List.mem_append.1 hw with h|h
   ·exact hB w h
   ·have:w=p:=by simpa using h
    rw[this];exact hbg
  rcases TL with _|⟨z9,TL⟩
  ·dsimp only[IA,IB,List.nil_append]
   refine AR EJ (Ah e1 kN) hmk AB AB AB AB AB ?_;refine Og (d':=dy) rfl rfl rfl rfl rfl rfl hLk rfl ?_;refine Ap ?_;refine AR EJ (Ah n0 wi) cF cDv cG AB AB AB ?_;exact⟨(i+1,_,_),⟨h2,hB2⟩,by dsimp only;omega,by(dsimp only;rw[hsn];exact AL)⟩
  ·dsimp only[Gu,Gv,List.cons_append,List.nil_append]
   have htk:List.take (TL.length+1) (z9::TL)=z9::TL:=by simp
   rw[Bj]at hTl;have hb64:TL.length+1<64:=by omega
   refine AR EJ (Ah e1 kN) hmk AB AB AB AB AB ?_;refine Og (d':=dy) rfl rfl rfl rfl rfl rfl hLk rfl ?_;refine Ap ?_;refine AR EJ (Ar n0 wi htk) cF cDv cG AB AB AB ?_;exact⟨(i+1,_,_),⟨h2,hB2⟩,by dsimp only;omega,by(dsimp only;rw[hsn,Mk];exact AL)⟩
 have e1:=Cx h2;have wi:=Cy (i:=i) (by omega);obtain⟨x,hxi⟩:=Cg h2;obtain⟨x1,x2,x3⟩:=hx x (A8 hxi);have hm:(l.map AG.D)[i]?=some (.agg [str (sb x.grain),i64 x.mass,.sl false 2 (x.shs.map BE.D)]):=by rw[BK,hxi];rfl
 have es:(((x.shs.map BE.D).length:Nat):Int)=(x.shs.length:Int):=by rw[An]
 refine AR EJ (Ar e1 es kN) hm AB AB AB AB AB ?_;obtain⟨ga,hga⟩:∃g,n1+1+1+1=g:=⟨_,rfl⟩
 refine Ft (α:=Nat×Cq×Obj×Nat) (λp=>⟨[(0,Ax b l),(2,.optr 0 0 3 0 0),(4,i64 (Av l)),(6,.prim (.map (some it))),(8,.optr 702 (n1+1+1+1) 3 0 0),(29,Ax b l),(30,i64 (l.length:Int)),(31,i64 (i:Int)),(36,.sl false 2 (x.shs.map BE.D)),(37,i64 (x.shs.length:Int)),(38,i64 (p.1:Int))],[⟨702,n1+1+1+1,27,3,[.agg [str (sb x.grain),i64 x.mass,.sl false 2 (x.shs.map BE.D)]]⟩,⟨0,0,27,3,[.agg [.prim (.string ⟨#[]⟩),.prim (.int .i64 0),.prim (.slice none 0 0)]]⟩],p.2.2.2⟩) (λp=>x.shs.length-p.1)
  (λp F=>p.1<=x.shs.length/\Co C0 F0 F [⟨400,11,p.2.2.1⟩]/\F.r0 400 11=some it/\G3 F p.2.2.1 p.2.1/\MQ (320*i+5*p.1) (Fk x p.1 (B7 (l.take i))) p.2.1) (0,m,o,_) ⟨BZ _,hO,hr0,hM,hQ⟩ AL ?_
 clear hO hr0 hM hQ;rintro⟨j,m2,o2,n2⟩ F ⟨hj,hO,hr0,hM,hQ⟩;dsimp only at hj hO hr0 hM hQ⊢;rw[hga];rcases BL j x.shs.length with h3|h3
 rotate_left
 ·have e2:=Cw h3
  have:j=x.shs.length:=by omega
  subst this;rw[<-Oa l i hxi]at hQ;refine AR EJ (Ah e2 wi) AB AB AB AB AB AB ?_;exact⟨(i+1,m2,o2,_),⟨h2,hO,hr0,hM,hQ.mono (by dsimp only;omega)⟩,by dsimp only;omega,AL⟩
 have e2:=Cx h3;have wj:=Cy (i:=j) (by omega);obtain⟨s,hsj⟩:=Cg h3;obtain⟨s1,s2,s3⟩:=x3 s (A8 hsj);have hms:(x.shs.map BE.D)[j]?=some (.agg [str (sb s.lot),str (sb s.part)]):=by rw[BK,hsj];rfl
 have hsn:=Mn x j (B7 (l.take i)) hsj;have fP:FR (CE s.part) (Fj s.part) 3:=⟨(Pz s3).is,au s3 s2⟩
 have fM:FR ((x.mass:Int):Rat) ⟨AV x.mass,1⟩ 1:=PS (by unfold Sm at x2;omega);have c1:=Pl (by omega) s3;have c2:=Np x.mass x2;have c3:=SP fP fM (by decide);have fZ:FR (CE s.part*(x.mass:Rat)) (Hh (Fj s.part) ⟨AV x.mass,1⟩) 4:=R2 fP fM;obtain⟨z,hz⟩:∃z,Hh (Fj s.part) ⟨AV x.mass,1⟩=z:=⟨_,rfl⟩
 rw[hz]at c3 fZ;obtain⟨d1,hd1⟩:∃d,(Fj s.part).D=d:=⟨_,rfl⟩
 obtain⟨d2,hd2⟩:∃d,(⟨AV x.mass,1⟩:GF).D=d:=⟨_,rfl⟩
 have pd1:AA d1:=by rw[<-hd1];exact AH
 have pd2:AA d2:=by rw[<-hd2];exact AH
 rw[hd1]at c1 c3;rw[hd2]at c2 c3;refine sZ 900 ?_;refine AD e2 ?_;refine AC.seq ?_;refine AI ?_;refine Aj ?_;refine AC.seq ?_;refine AC.block ?_;refine sZ 1000 ?_;refine Bi kT hms ?_;refine AD kB ?_;refine AC.seq ?_;refine Bx w1 1100 [0,1,2,3,4,5,6,7] [8] (by kernel_rfl) ?_;refine AD kB ?_;refine BQ.same _ (c1) AH ?_;refine BJ ?_;refine AD kB ?_;refine BQ.same _ (c2) AH ?_;refine BJ ?_;refine AD kB ?_;refine BQ.same _ (c3) AH ?_;refine BJ ?_;refine AD kB ?_;refine AC.seq ?_;refine AC.seq ?_;refine HC (by kernel_rfl) ?_;change BW _ _ _ _ _ ([0,1,2]++(3::([4,5,6,7,8,9]++[]))) _ _;refine Ev w1 1200 [0,1,2] _ ?_;refine AD kB ?_;refine BW.look (xo:=⟨400,11,o2⟩) (l:=m2) w1 rfl rfl rfl rfl rfl rfl hO Cc hr0 hM ?_;rcases hQ.look s.lot with⟨q1,q2⟩|⟨r,y,q1,q2,q3⟩
 ·rw[Uo q1]
  refine Ev w1 1200 [4,5,6,7,8,9] [] ?_;refine AD kB ?_;refine BW.nil ?_;refine Ap ?_;refine sZ 1300 ?_;refine AD kB ?_;refine AI ?_;refine Aj ?_;refine HC (by kernel_rfl) ?_;change BW _ _ _ _ _ ([0,1,2,3]++(4::[])) _ _;refine Ev w1 1500 [0,1,2,3] _ ?_;refine AD kB ?_;refine BW.put (l:=m2) w1 rfl rfl rfl rfl rfl rfl hO hr0 hM (λF3 o3 hto3 hO3 hr3 hM3=>BW.nil ?_);refine Ap ?_;have hQ2:MQ (320*i+5*(j+1)) (Fk x (j+1) (B7 (l.take i))) (Es (sb s.lot) z.D m2):=by
   rw[hsn];unfold I1;rw[q2];exact MQ.set s.lot ⟨fZ.is,fZ.rk.mono (by omega)⟩ (hQ.mono (by omega))
  refine AR EJ wj AB AB AB AB AB AB ?_;exact⟨(j+1,Es (sb s.lot) z.D m2,o3,_),⟨h3,hO3,hr3,hM3,hQ2⟩,by dsimp only;omega,AL⟩
 ·rw[Uq q1]
  refine Ev w1 1200 [4,5,6,7,8,9] [] ?_;refine AD kB ?_;refine BW.nil ?_;have c4:=Pg fZ q3 (by omega);have fA:=PJ fZ q3;obtain⟨z2,hz2⟩:∃z2,Iw z y=z2:=⟨_,rfl⟩
  rw[hz2]at c4 fA;refine Ap ?_;refine sZ 1300 ?_;refine AD kB ?_;refine AI ?_;refine Ak w1 1400 (by kernel_rfl) ?_;refine AD kB ?_;refine cI c4 ?_;refine AD kB ?_;refine HC (by kernel_rfl) ?_;change BW _ _ _ _ _ ([0,1,2,3]++(4::[])) _ _;refine Ev w1 1500 [0,1,2,3] _ ?_;refine AD kB ?_;refine BW.put (l:=m2) w1 rfl rfl rfl rfl rfl rfl hO hr0 hM (λF3 o3 hto3 hO3 hr3 hM3=>BW.nil ?_);refine Ap ?_;have hQ2:MQ (320*i+5*(j+1)) (Fk x (j+1) (B7 (l.take i))) (Es (sb s.lot) z2.D m2):=by
   rw[hsn];unfold I1;rw[q2];exact MQ.set s.lot ⟨fA.is,fA.rk.mono (by omega)⟩ (hQ.mono (by omega))
  refine AR EJ wj AB AB AB AB AB AB ?_;exact⟨(j+1,Es (sb s.lot) z2.D m2,o3,_),⟨h3,hO3,hr3,hM3,hQ2⟩,by dsimp only;omega,AL⟩
abbrev g8:Dr:=[(1,[0,1,2,3,4,5],[6,7])]
open Go.Proofs Go.RowKit Go.Sort
set_option maxRecDepth 20000
set_option maxHeartbeats 4000000
theorem uP {C:A0}{f sz:Nat}{ds:List D}{Φ:D->Prop}(h1:Ai C f (CK::ds) Φ)(h2:Ai C f (.sl true sz []::ds) Φ):Ai C f (.sl false sz []::ds) Φ:=by
 refine⟨h1.1,λX w vs a b c e g=>?_⟩;have g0:=g 0 _ rfl;generalize hv:vs.getD 0 undef=v at g0;cases g0 with
 |nil=>
  refine h1.2 X w vs a b c e λi d hd=>?_
  match i with
  | 0=>cases hd;rw[hv];exact .prim _
  |i+1=>exact g (i+1) d hd
 |emp a0=>
  refine h2.2 X w vs a b c e λi d hd=>?_
  match i with
  | 0=>cases hd;rw[hv];exact .emp a0
  |i+1=>exact g (i+1) d hd
 |sl f hl hc hO hb hz hcell ho h=>
  refine h2.2 X w vs a b c e λi d hd=>?_
  match i with
  | 0=>cases hd;rw[hv];exact .sl f hl hc hO hb hz hcell ho h
  |i+1=>exact g (i+1) d hd
theorem If {H Hf:Hp}{k g T sz:Nat}{l:List D}(he:Hp.get H k=some ⟨k,g,T,sz,l⟩)(hf:Hp.get Hf k=none:=by rfl):Fz H Hf (.osl k g sz 0 l.length) (.sl false sz l):=by
 refine .osl (e:=⟨k,g,T,sz,l⟩) he hf rfl rfl (by simp) (by simp) (λj d d' h1 h2=>?_) λj d d' q c c' h1 h2 h3 h4=>?_
 ·rw[BT]at h1;rw[h1]at h2;cases h2;rfl
 ·rw[BT]at h1;rw[h1]at h2;cases h2;rw[h3]at h4;cases h4;exact Fz.refl _
theorem jd (s:List BE)(hl:s.length<=1000000):AK C0 118 [Dg false s] (Dg false s):=by
 unfold Dg;rcases s with _|⟨z,s⟩
 ·refine uP ?_ ?_
  ·refine Ai.walk w1 Pj rfl λF=>?_
   refine AR Am kB AB AB AB AB AB AB ?_;exact⟨_,.nil 2,AA.out,rfl⟩
  ·refine Ai.walk w1 Pj rfl λF=>?_
   refine AR Am kB AB AB AB AB AB AB ?_;exact⟨_,.osl (e:=⟨302,5,82,2,[]⟩) rfl rfl rfl rfl (Af _) rfl (λj d d' h=>by simp at h) (λj d d' q c c' h=>by simp at h),AA.out,rfl⟩
 ·refine Ai.walk w1 Pj rfl λF=>?_
  obtain⟨T,hT⟩:∃T,List.map BE.D (z::s)=T:=⟨_,rfl⟩
  have pT:AA (.sl false 2 T):=by rw[<-hT];exact AH
  have hne:T≠[]:=by rw[<-hT];simp
  have hlT:T.length<=1000000:=by rw[<-hT,An];exact hl
  rw[hT];refine AR Am hne AB AB AB AB AB AB ?_;exact⟨_,by rw[BT];exact If rfl,pT.out,rfl⟩
theorem ZH (x:AG)(m:Int)(hl:x.shs.length<=1000000):AK C0 63 [x.D,i64 m] ((⟨x.grain,m,x.shs⟩:AG).D):=by
 refine Ai.walk w1 Z0 rfl λF=>?_
 have cC:=jd x.shs hl;unfold AG.D;dsimp only;unfold Dg at cC⊢;obtain⟨SD,hSD⟩:∃d,x.shs.map BE.D=d:=⟨_,rfl⟩
 have pS:AA (.sl false 2 SD):=by rw[<-hSD];exact AH
 rw[hSD]at cC⊢;refine AR Am kB cC AB AB AB AB AB ?_;exact AN rfl AA.out
theorem gL (b:Bool)(l:List AG)(hl:l.length<=1000000)(h0:l≠[])(H:Hp)(n:Nat):CQ C0 57 [Ax b l] H n
  (λd H' n'=>∃g,d=.osl 302 g 3 0 l.length/\H'=⟨302,g,27,3,l.map AG.D⟩::H/\n'=n+7):=by
 refine CQ.walk w1 Zp rfl λF=>?_
 unfold Ax;obtain⟨T,hT⟩:∃T,l.map AG.D=T:=⟨_,rfl⟩
 have pT:AA (.sl b 3 T):=by rw[<-hT];exact AH
 have hne:T≠[]:=by rw[<-hT];simpa using h0
 have hlT:T.length<=1000000:=by rw[<-hT,An];exact hl
 rw[hT,<-An (f:=AG.D),hT];cases b
 all_goals
  refine sZ 0 ?_;refine AD kB ?_;refine AC.seq ?_;refine sZ 100 ?_;refine AD kB ?_;refine AI ?_;refine Aj ?_;refine sZ 300 ?_;refine AD kB ?_;refine Ab ?_;exact⟨_,by rw[BT],rfl,rfl⟩
theorem pk (b:Bool)(x y:AG)(l:List AG):AK C0 112 [x.D,  .pptr (.sl b 3 ((y::l).map AG.D))] (Aq (!BM (sb x.grain) (sb y.grain))):=by
 refine Ai.walk w1 XX rfl λF=>?_
 have hm:((y::l).map AG.D)[0]?=some (.agg [str (sb y.grain),i64 y.mass,.sl false 2 (y.shs.map BE.D)]):=rfl;obtain⟨T,hT⟩:∃T,(y::l).map AG.D=T:=⟨_,rfl⟩
 have pT:AA (.sl b 3 T):=by rw[<-hT];exact AH
 obtain⟨S,hS⟩:∃S,x.shs.map BE.D=S:=⟨_,rfl⟩
 have pS:AA (.sl false 2 S):=by rw[<-hS];exact AH
 rw[hT]at hm⊢;unfold AG.D Dg;rw[hS];refine AR g8 kB hm AB AB AB AB AB ?_;exact AN rfl AA.out
theorem pt (b:Bool)(l:List AG)(c:D)[pc:AA c](p:AG->Bool)(hl:l.length<=1000000)(hc:∀x∈l,AK C0 112 [x.D,c] (Aq (p x))):AK C0 159 [Ax b l,.clo (.func 112) [] [c]] (i64 (Jt p l)):=by
 refine Ai.walk w1 Xm rfl λF=>?_
 have el:(((l.map AG.D).length:Nat):Int)=(l.length:Int):=by rw[An]
 refine AR Am el AB AB AB AB AB AB ?_;refine AC.loop (α:=Nat×Nat) (λp=>⟨[(0,Ax b l),(1,.clo (.func 112) [] [c]),(7,i64 l.length),(8,i64 (p.1:Int))],[],p.2⟩) (λp=>l.length-p.1) (λq=>q.1<=l.length/\∀(j:Nat) (x:AG),j<q.1->l[j]?=some x->p x=false) (0,_) ⟨BZ _,λj x hj=>Ae hj (Ht j)⟩ AL ?_;rintro⟨i,n⟩ F ⟨hi,ha⟩;dsimp only at hi ha⊢;rcases BL i l.length with h2|h2
 rotate_left
 ·have e1:=Cw h2
  have:i=l.length:=by omega
  subst this;refine AR Am e1 AB AB AB AB AB AB ?_;exact AN (by rw[U9 ha]) AA.out
 have e1:=Cx h2;have wi:=Cy (i:=i) (by omega);obtain⟨x,hx⟩:=Cg h2;have hm:(l.map AG.D)[i]?=some (.agg [str (sb x.grain),i64 x.mass,.sl false 2 (x.shs.map BE.D)]):=by rw[BK,hx];rfl
 have cn:=hc x (A8 hx);unfold AG.D at cn;cases hb:p x
 ·rw[hb]at cn
  refine AR Am (Ar e1 wi kN) hm cn AB AB AB AB ?_;refine⟨(i+1,_),⟨h2,λj z hj hjz=>?_⟩,by dsimp only;omega,AL⟩;rcases BL j i with h|h
  ·exact ha j z h hjz
  ·have:j=i:=by dsimp only at hj;omega
   subst this;rw[hx]at hjz;cases hjz;exact hb
 ·rw[hb]at cn
  refine AR Am (Ar e1 wi kN) hm cn AB AB AB AB ?_;exact AN (by rw[WW hx hb ha]) AA.out
theorem pn (b:Bool)(l:List AG)(c:D)[pc:AA c](p:AG->Bool)(hl:l.length<=1000000)(hc:∀x∈l,AK C0 112 [x.D,c] (Aq (p x))):AK C0 111 [Ax b l,.clo (.func 112) [] [c]] (Aq (l.any p)):=by
 refine Ai.walk w1 XW rfl λF=>?_
 have c1:=pt b l c p hl hc;have e1:=WX p l;refine AR Am e1 c1 AB AB AB AB AB ?_;exact AN rfl AA.out
theorem VQ (b:Bool)(l:List AG)(hl:l.length<=1000000):AK C0 60 [Ax b l] (i64 (if CJ l then 0 else 16:Nat)):=by
 refine Ai.walk w1 Zr rfl λF=>?_
 have cH:AK C0 111 [Ax b l,.clo (.func 112) [] [.pptr (Ax b l)]] (Aq (!CJ l)):=by
  have:=pn b l (.pptr (Ax b l)) (λx=>!BM (sb x.grain) (sb (CC l 0).grain)) hl λx hx=>by
   rcases l with _|⟨y,l⟩
   ·cases hx
   ·exact pk b x y l
  have he:(l.any λx=>!BM (sb x.grain) (sb (CC l 0).grain)) = !CJ l:=by
   unfold CJ;rw[List.not_all_eq_any_not]
  rwa [he]at this
 have cW:=Hb (!CJ l) 16;refine AR Am kB cH cW AB AB AB AB ?_;refine A7.own _ (MM cH rfl (λi a d h1 h2=>by
  match i with
  | 0=>cases h1;cases h2;exact .refl _ _
  | 1=>cases h1;cases h2;exact .clo1 (.ptr rfl rfl rfl rfl)
  |n+2=>cases h1) AH (.prim _)) ?_
 rintro d H' n' ⟨rfl,rfl,rfl⟩;refine AR Am kB cW AB AB AB AB AB ?_;exact AN (by cases CJ l<;>rfl) AA.out
theorem P3 {l:List AG}(h:B4 l=0):l.length<=64/\(∀x∈l,CU x=0)/\Av l<=999999999:=by
 unfold B4 at h;split at h
 ·cases h
 ·split at h
  ·rename_i h3;exact Ae h h3
  ·split at h
   ·cases h
   ·refine⟨by omega,λx hx=>?_,by omega⟩
    obtain⟨j,hj⟩:=List.mem_iff_getElem?.1 hx
    have:=O9 (f:=λi=>CU (CC l i)) (n:=l.length) (by omega) j (List.getElem?_eq_some_iff.1 hj).1
    rwa [E5 hj]at this
theorem Uu {l:List AG}(hf:∀x∈l,x.lite)(hz:∀x∈l,CU x=0)(hl:l.length<=64):(∀x∈l,x.ok)/\GW (λk=>k.length<=1000) 4096 (B7 l):=by
 have hx:∀x∈l,x.ok:=λx h=>(YZ (hf x h) (hz x h)).1
 exact⟨hx,(RH λx h=>⟨(hx x h).1,λs hs=>((hf x h).2 s hs).1⟩).mono (by omega)⟩
def QJ (l:List AG):Nat:=if B4 l≠0 then B4 l else HZ (B7 l)
def QK (l:List AG):Bp:=if B4 l≠0 then[]else Ir (B7 l)
theorem sK (b:Bool)(l:List AG)(hl:l.length<=1000000)(hf:∀x∈l,x.lite):AK C0 36 [Ax b l] (.tup [.sl false 2 ((QK l).map CX),i64 (QJ l:Nat)]):=by
 refine Ai.walk w1 Zj rfl λF=>?_
 have cP:=MC b l (by omega) λx hx=>(hf x hx).1
 have hR:QK l=if B4 l≠0 then[]else Ir (B7 l):=rfl
 have hE:QJ l=if B4 l≠0 then B4 l else HZ (B7 l):=rfl
 rcases Nat.decEq (B4 l) 0 with g|g
 ·have e1:=Fr g
  rw[AF g]at hR hE;rw[hR,hE];refine AR Am e1 cP AB AB AB AB AB ?_;exact⟨_,HO (.nil 2) (.refl _),AA.out,rfl⟩
 have e1:=Fs g;rw[AE (λh=>h g)]at hR hE;rw[hR,hE];obtain⟨g1,g2,g3⟩:=P3 g;obtain⟨hx,hK⟩:=Uu hf g2 g1;have cL:=sL b l (by omega) hx;refine AR Am e1 cP AB AB AB AB AB ?_;refine A7.prop _ _ (EF.refl _) cL AH ?_;rintro d ⟨m,rfl,hQ⟩;have cA:=V4 32000 (by omega) (B7 l) m hQ (BP hK.len (by omega)) hK.nd;have pM:AA (mapD m):=⟨hQ.mapD⟩
 unfold Iq at cA;obtain⟨M,hM⟩:∃M,mapD m=M:=⟨_,rfl⟩
 rw[hM]at cA pM⊢;refine AR Am kB cA AB AB AB AB AB ?_;exact AN rfl AA.out
def EN (p:List UInt8×List UInt8):D:=.agg [str (sb p.1),str (sb p.2)]
instance  (p:List UInt8×List UInt8):Ag (EN p):=by unfold EN;exact AH
instance  (p:List UInt8×List UInt8):AA (EN p):=by unfold EN;exact AH
def BE.shB (s:BE):Bool:=decide (s.lot.length<=100)&&decide (s.part.length<=14)
def AG.shB (x:AG):Bool:=decide (x.grain.length<=100)&&(decide (x.shs.length<=8)||decide (64<x.shs.length))&&decide (x.shs.length<=80)&&x.shs.all BE.shB
def F8 (l:List AG):Bool:=l.all AG.shB&&(decide (l.length<=8)||(decide (64<l.length)&&decide (l.length<=80)))
theorem C8.clo2 {H:Hp}{fn:Fn}{c c' x x':D}(h:C8 H c c')(k:C8 H x x'):C8 H (.clo fn [] [c,x]) (.clo fn [] [c',x']):=λC F ρ w m hO hN v hv=>by
 cases hv with
 |clo hf hc h1 h2=>
  refine .clo hf (by simpa using hc) (λi d hd=>by simp at hd) λi d hd=>?_
  match i with
  | 0=>
   simp at hd;subst hd;exact h C F ρ w m hO hN _ (h2 0 _ rfl)
  | 1=>
   simp at hd;subst hd;exact k C F ρ w m hO hN _ (h2 1 _ rfl)
  |i+2=>simp at hd
theorem Ro (b bk:Bool)(T:List D)[pT:AA (.sl b 3 T)]:AK C0 141 [.sl b 3 T,Aq bk] (.clo (.func 185) [] [.pptr (.sl b 3 T),.pptr (Aq bk)]):=by
 refine uQ w1 Xd rfl λF=>?_
 have hp:Bw (.clo (.func 185) [] [.pptr (.sl b 3 T),.pptr (Aq bk)]):=(AH:AA (.clo (.func 185) [] [.pptr (.sl b 3 T),.pptr (Aq bk)])).out;refine fR 0 ?_;refine fR 100 ?_;refine Ab ?_;exact⟨_,.clo2 (.ptr rfl rfl rfl rfl) (.ptr rfl rfl rfl rfl),hp,rfl⟩
theorem TH {E:E6}{l:Nat}{R:LR}(hE:E6.ok E)(b bk:Bool)(T:List D)[pT:AA (.sl b 3 T)](hT:∀x∈T,∃a c d,x=.agg [a,c,d])(hl:T.length<=1000000)
  {σ:Type} (S:Nat->σ->Hp) (P:Nat->σ->Prop) (c:Code) (Z:Hp->Prop) (a0:σ) (h0:P 0 a0) (n0:Nat)
  (hY:∀k a x n,P k a->k<T.length->T[if bk then T.length-1-k else k]?=some x->Pv C0 E l R [x] (S k a) n (λj H' _=>(j=none/\∃a',P (k+1) a'/\CT H' (S (k+1) a') H' (S (k+1) a'))\/(j=some c/\Z H'))):
  NJ C0 E 185 [.clo (.yield l) [] [],.pptr (.sl b 3 T),.pptr (Aq bk)] l R (S 0 a0) n0 (λj _ H' _=>(j=none/\∃a,P T.length a/\H'=S T.length a)\/(j=some c/\Z H')):=by
 refine NJ.walk w1 hE Yf rfl λB F hR=>?_
 obtain⟨N,hN⟩:∃N,T.length=N:=⟨_,rfl⟩
 rw[hN]at hY hl⊢;have el:((T.length:Nat):Int)=(N:Int):=by rw[hN]
 refine sZ 0 ?_;refine AD el ?_;refine AC.block ?_;refine Ft (α:=Nat×σ×Nat) (λp=>⟨[(0,.clo (.yield l) [] []),(1,.pptr (.sl b 3 T)),(2,.pptr (Aq bk)),(6,i64 (N:Int)),(7,i64 (p.1:Int))],S p.1 p.2.1,p.2.2⟩) (λp=>N-p.1)
  (λp F=>Kn C0 E B F l R/\p.1<=N/\P p.1 p.2.1) (0,a0,_) ⟨hR,BZ _,h0⟩ AL ?_
 clear hR;rintro⟨i,a,m⟩ F ⟨hR,h1,hP⟩;dsimp only at h1 hR hP⊢;refine sR 100 ?_;refine AC.seq ?_;refine AI ?_
 (refine Bn (λh8=>?_) (λh8=>?_))<;>(try simp only[Bc,Bk]at h8)<;>(try simp only[h8])
 ·have hi:i<N:=by
   have:=Cs h8
   omega
  have a3:IntKind.i64.wrap ((i:Int)+1)=((i+1:Nat):Int):=wI (by omega) (by omega);have a4:IntKind.i64.wrap ((N:Int)-1)=((N-1:Nat):Int):=by rw[wI (by omega) (by omega)];omega
  have a5:IntKind.i64.wrap (((N-1:Nat):Int)-(i:Int))=((N-1-i:Nat):Int):=by rw[wI (by omega) (by omega)];omega
  have hq:(if bk then N-1-i else i)<T.length:=by rw[hN];split<;>omega
  obtain⟨x,hx⟩:∃x,T[if bk then N-1-i else i]?=some x:=⟨_,BD hq⟩
  have hy:=λn=>hY i a x n hP hi hx
  obtain⟨x1,x2,x3,rfl⟩:=hT x (A8 hx);refine Aj ?_;refine AC.seq ?_;refine AC.block ?_;refine sR 200 ?_;refine AC.seq ?_;refine sR 300 ?_;cases bk
  ·replace hx:T[i]?=some (.agg [x1,x2,x3]):=hx
   refine AI ?_;refine Aj ?_;refine AC.seq ?_;refine aY w1 500 [0,1,2,3,4] 5 [6] rfl (by kernel_rfl) hR ?_;refine BJ ?_;refine Bi kT hx ?_;refine And.intro ⟨rfl,trivial⟩ ?_;refine BJ ?_;refine⟨rfl,_,hy _,?_,?_⟩
   ·rintro H2 n2 (⟨_,a',hP',hf⟩|⟨h,-⟩)
    rotate_left
    ·cases h
    refine And.intro (by exact B0) ?_;refine Ap ?_;refine AI ?_;refine Aj ?_;refine Ak w1 600 (by kernel_rfl) ?_;refine AT a3 ?_;exact⟨(i+1,a',_),⟨hR,hi,hP'⟩,(by dsimp only;omega),AL (a:=hf)⟩
   ·rintro c2 H2 n2 (⟨h,-⟩|⟨h,hZ⟩) F2 hst
    ·cases h
    cases h;refine BJ ?_;refine AI ?_;refine AC.weak ⟨[],H2,_⟩ AL ?_;refine AC.ret ?_;exact⟨_,hst,trivial,.inr ⟨rfl,hZ⟩⟩
  ·replace hx:T[N-1-i]?=some (.agg [x1,x2,x3]):=hx
   refine AI ?_;refine Ak w1 400 (by kernel_rfl) ?_;refine AT (Ar a4 a5 el) ?_;refine AC.seq ?_;refine aY w1 500 [0,1,2,3,4] 5 [6] rfl (by kernel_rfl) hR ?_;refine BJ ?_;refine Bi kT hx ?_;refine And.intro ⟨rfl,trivial⟩ ?_;refine BJ ?_;refine⟨rfl,_,hy _,?_,?_⟩
   ·rintro H2 n2 (⟨_,a',hP',hf⟩|⟨h,-⟩)
    rotate_left
    ·cases h
    refine And.intro (by exact B0) ?_;refine Ap ?_;refine AI ?_;refine Aj ?_;refine Ak w1 600 (by kernel_rfl) ?_;refine AT a3 ?_;exact⟨(i+1,a',_),⟨hR,hi,hP'⟩,(by dsimp only;omega),AL (a:=hf)⟩
   ·rintro c2 H2 n2 (⟨h,-⟩|⟨h,hZ⟩) F2 hst
    ·cases h
    cases h;refine BJ ?_;refine AI ?_;refine AC.weak ⟨[],H2,_⟩ AL ?_;refine AC.ret ?_;exact⟨_,hst,trivial,.inr ⟨rfl,hZ⟩⟩
 ·have hi:i=N:=by
   have:=C7 h8
   omega
  subst hi;refine By ?_;exact⟨none,hR.stat,trivial,.inl ⟨rfl,a,hP,rfl⟩⟩
def AG.w (x:AG)(m:Int):AG:=⟨x.grain,m,x.shs⟩
def HJ:List AG->Int->List AG
 | [],_=>[]
 |x::r,m=>x.w (min x.mass m)::if m-x.mass<=0 then[]else HJ r (m-x.mass)
def Gn (g1:Nat)(p:List AG×Int×Nat):Hp:=DW 408 p.2.2 27 3 (p.1.map AG.D)++[⟨100,g1,22,1,[Dc 408 p.2.2 3 (p.1.map AG.D)]⟩,⟨0,0,3,1,[i64 p.2.1]⟩]
theorem XC (g1:Nat)(m:Int)(g:Nat):Gn g1 ([],m,g)=[⟨100,g1,22,1,[CK]⟩,⟨0,0,3,1,[i64 m]⟩]:=rfl
theorem Rw (g1:Nat)(z:AG)(o:List AG)(m:Int)(g:Nat):Gn g1 (z::o,m,g)=[⟨408,g,27,3,z.D::o.map AG.D⟩,⟨100,g1,22,1,[.osl 408 g 3 0 ((o.map AG.D).length+1)]⟩,⟨0,0,3,1,[i64 m]⟩]:=rfl
def OO (L:List AG)(m:Int)(k:Nat)(p:List AG×Int×Nat):Prop:=p.1.length=k/\p.1++HJ (L.drop k) p.2.1=HJ L m/\0<=p.2.1/\p.2.1<=1000000000000
def Jy (bk:Bool)(l:List AG):List AG:=if bk then l.reverse else l
theorem pG (bk:Bool)(l:List AG){k:Nat}(hk:k<l.length):(l.map AG.D)[if bk then(l.map AG.D).length-1-k else k]?=((Jy bk l)[k]?).map AG.D:=by
 unfold Jy;rw[An,BK];cases bk
 ·rfl
 ·simp only[if_true]
  rw[List.getElem?_reverse hk]
theorem XA (b bk:Bool)(l:List AG)(m:Int)(hl:l.length<=1000000)(hm:0<=m/\m<=1000000000000)(hx:∀x∈l,0<=x.mass/\x.mass<=1000000000)
  (ho:∀x∈l,∀m,AK C0 63 [x.D,i64 m] (x.w m).D) (R:D) [pR:AA R] (hN:AK C0 84 [Ax false (HJ (Jy bk l) m)] R):
  AK C0 91 [Ax b l,i64 m,Aq bk] R:=by
 refine Ai.walk w1 Z7 rfl λF=>?_
 have cV:=Ro b bk (l.map AG.D);have hT:∀x∈l.map AG.D,∃a c d,x=.agg [a,c,d]:=λx hx=>by
  obtain⟨y,-,rfl⟩:=List.mem_map.1 hx;exact⟨_,_,_,rfl⟩
 have hoL:∀k,k<l.length->∃x,x∈l/\(Jy bk l)[k]?=some x:=λk hk=>by
  unfold Jy;cases bk
  ·exact⟨_,List.getElem_mem hk,BD hk⟩
  ·simp only[if_true]
   rw[List.getElem?_reverse hk]
   have:l.length-1-k<l.length:=by omega
   exact⟨_,List.getElem_mem this,BD this⟩
 have hlen:(Jy bk l).length=l.length:=by unfold Jy;cases bk<;>simp
 obtain⟨L,hL⟩:∃L,Jy bk l=L:=⟨_,rfl⟩
 have hoA:=λk (hk:k<l.length)=>pG bk l hk
 rw[hL]at hoL hoA hN hlen;unfold Ax;obtain⟨T,hTT⟩:∃T,l.map AG.D=T:=⟨_,rfl⟩
 have pT:AA (.sl b 3 T):=by rw[<-hTT];exact AH
 have hTl:T.length=l.length:=by rw[<-hTT,An]
 rw[hTT]at cV hT hoA⊢;refine sR 0 ?_;refine sR 100 ?_;refine AC.seq ?_;refine sR 200 ?_;refine cI cV ?_;refine AC.block ?_;have h0:OO L m 0 ([],m,0):=⟨rfl,rfl,hm⟩
 refine AC.rangeFunc (fi:=185) (first:=[]) (captured:=[.pptr (.sl b 3 T),.pptr (Aq bk)]) (Ψ:=λj _ H' _=>(j=none/\∃a,OO L m T.length a/\H'=Gn 2 a)\/(j=some (.exit 0)/\∃m' g,H'=Gn 2 (HJ L m,m',g))) rfl
  (λds H n Φ=>∃k a x,OO L m k a/\k<T.length/\T[if bk then T.length-1-k else k]?=some x/\ds=[x]/\H=Gn 2 a/\Φ=λj H' _=>(j=none/\∃a',OO L m (k+1) a'/\CT H' (Gn 2 a') H' (Gn 2 a'))\/(j=some (.exit 0)/\∃m' g,H'=Gn 2 (HJ L m,m',g))) ?_
  (λE l' R' hE hY=>TH hE b bk T hT (by omega) (λ_ a=>Gn 2 a) (OO L m) (.exit 0) (λH'=>∃m' g,H'=Gn 2 (HJ L m,m',g)) ([],m,0) h0 _ λk a x n hP hk hx=>hY _ _ _ _ ⟨k,a,x,hP,hk,hx,rfl,rfl,rfl⟩) ?_
 ·rintro l' ds H n Φ ⟨k,⟨o,m',g⟩,x,⟨p1,p2,p3,p4⟩,hk,hxT,rfl,rfl,rfl⟩
  dsimp only at p1 p2 p3 p4;obtain⟨y,hy1,hy2⟩:=hoL k (by omega);rw[hoA k (by omega),hy2]at hxT;cases hxT;have hd:L.drop k=y::L.drop (k+1):=by
   have:=(List.getElem?_eq_some_iff.1 hy2)
   rw[D9 this.1,this.2]
  rw[hd]at p2;have hb:=hx y hy1;have cO:=ho y hy1 (min y.mass m');have p5:(o++[y.w (min y.mass m')])++(if m'-y.mass<=0 then[]else HJ (L.drop (k+1)) (m'-y.mass))=HJ L m:=by
   rw[<-p2,D2];rfl
  have a1:IntKind.i64.wrap (m'-y.mass)=m'-y.mass:=wI (by omega) (by omega);refine⟨rfl,λF=>?_⟩;unfold AG.w AG.D at cO;unfold AG.D;dsimp only at cO⊢;obtain⟨SD,hSD⟩:∃d,Dg false y.shs=d:=⟨_,rfl⟩
  have pS:AA SD:=by rw[<-hSD];exact AH
  rw[hSD]at cO⊢;rcases o with _|⟨z,o⟩
  ·rw[XC]
   dsimp only[F9];refine Ak w1 300 (by kernel_rfl) ?_;refine AD kB ?_;refine⟨trivial,trivial,λF'=>?_⟩;refine AC.block ?_;refine AC.seq ?_;refine Bx w1 400 [0,1,2,3,4,5,6,7] [8,9] (by kernel_rfl) ?_;refine BJ ?_;refine BQ.same _ (cO) AH ?_;refine BJ ?_;refine sZ 500 ?_;refine AT a1 ?_;refine sR 600 ?_;refine AC.weak ⟨[(27,Aq (decide (m'-y.mass<=0)))],[⟨408,n+1+1+10,27,3,[.agg [str (sb y.grain),i64 (min y.mass m'),SD]]⟩,⟨100,2,22,1,[.osl 408 (n+1+1+10) 3 0 1]⟩,⟨0,0,3,1,[i64 (m'-y.mass)]⟩],_⟩ AL ?_;rw[<-hSD]
   by_cases hz:m'-y.mass<=0
   ·rw[AZ hz]
    rw[AF hz,DN]at p5;refine AI ?_;refine By ?_;refine .inr ⟨rfl,m'-y.mass,n+1+1+10,?_⟩;rw[<-p5];rfl
   ·rw[Ad hz]
    rw[AE hz]at p5;refine AI ?_;refine Aj ?_;exact .inl ⟨rfl,([y.w (min y.mass m')],m'-y.mass,n+1+1+10),⟨by rw[<-p1];rfl,p5,by dsimp only;omega,by dsimp only;omega⟩,GS _⟩
  ·have wl:AA (.sl false 3 ((z::o).map AG.D)):=AH
   have hol:o.length<=1000000:=by rw[Bj]at p1;omega
   rw[Cb]at wl;rw[Rw];dsimp only[F9];obtain⟨O,hO⟩:∃O,o.map AG.D=O:=⟨_,rfl⟩
   obtain⟨zD,hzD⟩:∃O,z.D=O:=⟨_,rfl⟩
   have hOl:O.length=o.length:=by rw[<-hO,An]
   rw[hO,hzD];refine Ak w1 300 (by kernel_rfl) ?_;refine AD kB ?_;refine⟨trivial,trivial,λF'=>?_⟩;refine AC.block ?_;refine AC.seq ?_;refine Bx w1 400 [0,1,2,3,4,5,6,7] [8,9] (by kernel_rfl) ?_;refine BJ ?_;refine BQ.same _ (cO) AH ?_;refine BJ ?_;rw[show List.take (O.length+1) (zD::O)=zD::O from Dk (l:=zD::O)];refine sZ 500 ?_;refine AT a1 ?_;refine sR 600 ?_;refine AC.weak ⟨[(27,Aq (decide (m'-y.mass<=0)))],[⟨408,n+1+1+10,27,3,zD::O++[.agg [str (sb y.grain),i64 (min y.mass m'),SD]]⟩,⟨100,2,22,1,[.osl 408 (n+1+1+10) 3 0 (O.length+1+1)]⟩,⟨0,0,3,1,[i64 (m'-y.mass)]⟩],_⟩ AL ?_;have hs:∀g' mm,Gn 2 (z::o++[y.w (min y.mass m')],mm,g')=[⟨408,g',27,3,zD::O++[.agg [str (sb y.grain),i64 (min y.mass m'),SD]]⟩,⟨100,2,22,1,[.osl 408 g' 3 0 (O.length+1+1)]⟩,⟨0,0,3,1,[i64 mm]⟩]:=λg' mm=>by
    rw[EP,Rw,<-hO,<-hzD,<-hSD,DP];rw[B1];rfl
   rw[<-hs]
   by_cases hz:m'-y.mass<=0
   ·rw[AZ hz]
    rw[AF hz,DN]at p5;refine AI ?_;refine By ?_;exact .inr ⟨rfl,m'-y.mass,n+1+1+10,by rw[<-p5];rfl⟩
   ·rw[Ad hz]
    rw[AE hz]at p5;refine AI ?_;refine Aj ?_;exact .inl ⟨rfl,(z::o++[y.w (min y.mass m')],m'-y.mass,n+1+1+10),⟨by rw[<-p1];simp,p5,by dsimp only;omega,by dsimp only;omega⟩,GS _⟩
 ·rintro j d H' n' F' hE
  have hE2:∃m' g,H'=Gn 2 (HJ L m,m',g)/\(j=none\/j=some (.exit 0)):=by
   rcases hE with⟨hj,⟨o,m',g⟩,⟨p1,p2,-,-⟩,rfl⟩|⟨hj,m',g,rfl⟩
   ·refine⟨m',g,?_,.inl hj⟩
    dsimp only at p2;rw[List.drop_eq_nil_of_le (by omega)]at p2;rw[show o=HJ L m by rw[<-p2];exact(DN o).symm]
   ·exact⟨m',g,rfl,.inr hj⟩
  obtain⟨m',g,rfl,hj⟩:=hE2;obtain⟨o,hO⟩:∃o,HJ L m=o:=⟨_,rfl⟩
  rw[hO]at hN⊢;rcases o with _|⟨z,o⟩
  ·rw[XC]
   rcases hj with rfl|rfl
   all_goals
    change AC _ _ _ _ _ _ _;refine sR 700 ?_;refine A7.pure [.sl false 3 []] _ ⟨.nil 3,trivial⟩ hN AH ?_;refine BJ ?_;refine Ab ?_;exact AN rfl pR.out
  ·have hR:=If (H:=Gn 2 (z::o,m',g)) (Hf:=[]) (k:=408) (g:=g) (T:=27) (sz:=3) (l:=(z::o).map AG.D) rfl
   have hle:((z::o).map AG.D).length=(o.map AG.D).length+1:=rfl;rw[hle]at hR;rw[Rw]at hR⊢;rcases hj with rfl|rfl
   all_goals
    change AC _ _ _ _ _ _ _;refine sR 700 ?_;refine A7.own _ (N0 [] hN (.drop (.drop (.drop .nil))) ⟨hR,trivial⟩ AH) ?_;rintro d H2 n2 ⟨rfl,rfl,rfl⟩;refine BJ ?_;refine Ab ?_;exact AN rfl pR.out
def QM (H:Hp)(env:Ao):Ao->Prop
 | []=>True
 |(t,d)::r=>C8 H (env.get t) d/\QM H env r
theorem QM.get {H:Hp}{env:Ao}:∀ {env':Ao},QM H env env'->∀t,C8 H (env.get t) (env'.get t)
 | [],_,t=>λ_ _ _ _ _ _ _ v _=>.any v
 |(k,d)::r,h,t=>by
  simp only[Ao.get];cases hb:Nat.beq k t with
  |true=>
   have:=Bu hb
   subst this;exact h.1
  |false=>exact h.2.get t
theorem ai {C:A0}{B F:AY}{rd:Option Nat}{c:Code}{s:St}{Q:Exit->AY->St->Prop}(env':Ao)(he:QM s.H s.env env')(h:AC C B rd F c ⟨env',[],s.n⟩ Q):AC C B rd F c s Q:=⟨λhB hd ρ a w hs=>by
 have hH:CT s.H [] s.H []:=by
  generalize s.H=H0
  have:∀H1:Hp,CT H0 [] H1 []:=λH1=>by
   induction H1 with
   |nil=>exact .nil
   |cons e r ih=>exact .drop ih
  exact this H0
 obtain⟨m,hO,hN⟩:=hH.mem hs.mem;exact h.out hB hd ρ a w ⟨m,hs.fresh,by simp,λt=>he.get t _ _ _ _ hs.mem hO (λe he b hb=>hN e he b hb rfl) _ (hs.env t),hs.nt,hs.dfr⟩⟩
theorem Se (B:D)[pB:AA B][pC:Ag B](hB:∃a b c d e,B=.agg [a,b,c,d,e])(b:Bool)(ls:List D)[pL:AA (.sl b 1 ls)](i:Nat)(x:Int)(hx:ls[i]?=some (i64 x))(R:D)[pR:AA R](m:Int)
  (cB:AK C0 77 [.sl b 1 ls,i64 (i:Int),.clo (.func 131) [] [.pptr (.sl b 1 ls),.pptr (i64 (i:Int)),.pptr B]] R)
  (cL:AK C0 76 [i64 x,R] (i64 m)):AK C0 74 [B,.sl b 1 ls,i64 (i:Int)] (i64 m):=by
 refine Ai.walk w1 Z1 rfl λF=>?_
 obtain⟨a1,a2,a3,a4,a5,rfl⟩:=hB;refine sR 0 ?_;refine AC.seq ?_;refine ai [(3,.pptr (.agg [a1,a2,a3,a4,a5])),(4,.pptr (.sl b 1 ls)),(5,.pptr (i64 (i:Int)))] ⟨.ptr rfl rfl rfl rfl,.ptr rfl rfl rfl rfl,.ptr rfl rfl rfl rfl,trivial⟩ ?_;refine Bx w1 100 [0,1,2,3,4,5,6,7] [8,9] (by kernel_rfl) ?_;refine BJ ?_;refine Bi kT hx ?_;refine AD kB ?_;refine BQ.same _ (cB) AH ?_;refine BJ ?_;refine cI cL ?_;refine Ab ?_;exact AN rfl AA.out
theorem jt (B:D)[pB:AA B][pC:Ag B](a1 a2 a4 a5:D)(room:Int)(hB:B=.agg [a1,a2,i64 room,a4,a5])(ls:List D)[pL:AA (.sl false 1 ls)](i:Nat)(x:Int)(hx:ls[i]?=some (i64 x))(R:D)[pR:AA R](m:Int)
  (cC:AK C0 73 [B,.sl true 1 [i64 (i:Int)]] (i64 0)) (cV:AK C0 75 [B] (.sl false 1 ls))
  (cB:AK C0 77 [.sl false 1 ls,i64 (i:Int),.clo (.func 78) [] [.pptr B,.pptr (.sl false 1 ls),.pptr (i64 (i:Int))]] R) (r:Int) (hr:IntKind.i64.wrap (room-x)=r)
  (cL:AK C0 76 [i64 r,R] (i64 m)):AK C0 25 [B,i64 (i:Int)] (.tup [i64 m,i64 0]):=by
 refine Ai.walk w1 Zh rfl λF=>?_
 have e0:((0:Int) != 0)=false:=rfl;subst hB;refine sR 0 ?_;refine AC.seq ?_;refine sR 100 ?_;refine cI cC ?_;refine sZ 200 ?_;refine AT e0 ?_;refine AI ?_;refine Aj ?_;refine sR 400 ?_;refine cI cV ?_;refine AC.seq ?_;refine ai [(2,.pptr (.agg [a1,a2,i64 room,a4,a5])),(3,.pptr (i64 (i:Int))),(7,.pptr (.sl false 1 ls))] ⟨.ptr rfl rfl rfl rfl,.ptr rfl rfl rfl rfl,.ptr rfl rfl rfl rfl,trivial⟩ ?_;refine Bx w1 500 [0,1,2,3,4,5,6,7,8,9,10] [11,12,13] (by kernel_rfl) ?_;refine BJ ?_;refine Bi kT hx ?_;refine AD hr ?_;refine BQ.same _ (cB) AH ?_;refine BJ ?_;refine cI cL ?_;refine Ab ?_;exact AN rfl AA.out
abbrev CD (l:List Int):List D:=l.map λx=>i64 x
theorem dK (a1 a2 a3 a4:D)[AA a1][AA a2][AA a3][AA a4](b:Bool)(cs:List D)[pc:AA (.sl b 1 cs)](ls:List Int)(hlen:ls.length=cs.length)(h0:cs≠[])(hl:cs.length<=1000000)
  (hc:∀(i:Nat) (c:D) (m:Int),cs[i]?=some c->ls[i]?=some m->AK C0 59 [c] (i64 m)) (hp:∀c∈cs,∃bb l,c=.sl bb 3 l/\AA c) (g0:Nat) (x:D) (n:Nat):
  CQ C0 75 [.agg [a1,a2,a3,a4,.sl b 1 cs]] [⟨0,g0,48,5,[x]⟩] n (λd H' _=>∃g,d=.osl 504 g 1 0 ls.length/\H'=[⟨504,g,3,1,CD ls⟩,⟨0,g0,48,5,[x]⟩]):=by
 refine CQ.walk w1 TF rfl λF=>?_
 refine AR Am kB AB AB AB AB AB AB ?_;refine AC.loop (α:=Nat×Nat×Nat) (λp=>⟨[(3,Dc 504 p.2.1 1 (CD (ls.take p.1))),(7,.sl b 1 cs),(8,i64 (cs.length:Int)),(9,i64 (p.1:Int))],DW 504 p.2.1 3 1 (CD (ls.take p.1))++[⟨0,g0,48,5,[x]⟩],p.2.2⟩) (λp=>cs.length-p.1) (λq=>q.1<=cs.length) (0,0,_) (BZ _) AL ?_;rintro⟨i,g,n⟩ F hi;dsimp only at hi⊢;rcases BL i cs.length with h2|h2
 rotate_left
 ·have e1:=Cw h2
  have hi2:i=cs.length:=by omega
  rw[B5 (by omega:ls.length<=i)];have hls:ls≠[]:=λh=>h0 (FA (by rw[<-hlen,h];rfl))
  obtain⟨z,r,rfl⟩:∃z r,ls=z::r:=by
   cases ls with
   |nil=>exact Ae rfl hls
   |cons z r=>exact⟨z,r,rfl⟩
  rw[show CD (z::r)=i64 z::CD r from rfl,Gu,Gv,EP,GG];refine AR Am e1 AB AB AB AB AB AB ?_;exact⟨_,by rw[An],rfl⟩
 have e1:=Cx h2;have wi:=Cy (i:=i) (by omega);obtain⟨c,hm⟩:=Cg h2;obtain⟨m,hm2⟩:=Cg (show i<ls.length by omega);obtain⟨bb,cl,rfl,pcl⟩:=hp c (A8 hm);have cT:=hc i _ m hm hm2;have ht:ls.take (i+1)=ls.take i++[m]:=by rw[D7,hm2];rfl
 obtain⟨R,hR⟩:∃R,ls.take i=R:=⟨_,rfl⟩
 rw[hR]at ht⊢;rcases R with _|⟨z,R⟩
 ·rw[show CD []=[]from rfl,IA,IB,GG]
  refine AR Am (Ar e1 wi kN) hm cT AB AB AB AB ?_;refine⟨(i+1,n+1+1+1+1+1+1+1+1,n+1+1+1+1+1+1+1+1+1+1+1+1),h2,by dsimp only;omega,?_⟩;dsimp only;rw[ht];exact AL
 ·rw[show CD (z::R)=i64 z::CD R from rfl,Gu,Gv,EP,GG]
  obtain⟨O,hO⟩:∃O,CD R=O:=⟨_,rfl⟩
  have hOl:O.length+1=i:=by
   rw[<-hO,An]
   have:(z::R).length=i:=by rw[<-hR,Bg];omega
   exact this
  rw[hO];refine AR Am (Ar e1 wi kN) hm cT AB AB AB AB ?_;refine⟨(i+1,n+1+1+1+1+1+1+1+1,n+1+1+1+1+1+1+1+1+1+1+1+1),h2,by dsimp only;omega,?_⟩;dsimp only;rw[ht,show CD (z::R++[m])=i64 z::O++[i64 m]from by rw[<-hO];unfold CD;rw[DP];rfl];rw[EP,Gu,Gv,B1];rw[show List.take (O.length+1) (i64 z::O)=i64 z::O from Dk (l:=i64 z::O)];exact AL
def Nk (k g sz:Nat)(env:Ao):Ao->Prop
 | []=>True
 |(t,d)::r=>(d=env.get t\/(env.get t=CK/\d=.osl k g sz 0 0))/\Nk k g sz env r
theorem Nk.get {k g sz:Nat}{env:Ao}:∀ {env':Ao},Nk k g sz env env'->∀t,env'.get t=.any\/env'.get t=env.get t\/(env.get t=CK/\env'.get t=.osl k g sz 0 0)
 | [],_,t=>.inl rfl
 |(q,d)::r,h,t=>by
  rw[Hl]
  by_cases hk:q=t
  ·subst hk;rw[AF rfl];exact .inr h.1
  ·rw[AE hk];exact Nk.get h.2 t
theorem AC.ghost {C:A0}{B F:AY}{rd:Option Nat}{c:Code}{s:St}{Q:Exit->AY->St->Prop}(k T sz:Nat)(env':Ao)(he:Nk k s.n sz s.env env')(h:AC C B rd F c ⟨env',⟨k,s.n,T,sz,[]⟩::s.H,s.n+1⟩ Q):AC C B rd F c s Q:=⟨λhB hd ρ a w hs=>by
 obtain⟨m1,hO⟩:=hs.mem.ghost (k:=k) (n:=s.n) (T:=T) (sz:=sz) (hs.fresh k _ (Af _));refine h.out hB hd ρ a w ⟨m1,λk g hg=>hs.fresh k g (by dsimp only at hg;omega),λe he=>?_,λt=>?_,hs.nt,hs.dfr⟩
 ·rcases BA.1 he with rfl|he
  ·exact Gi _
  ·exact Cv (hs.gen e he)
 ·have hr:=hs.env t
  dsimp only;rw[hO];rcases he.get t with h|h|⟨h1,h2⟩
  ·rw[h];exact .any _
  ·rw[h];exact hr
  ·rw[h2]
   rw[h1]at hr;generalize a.tmps.getD t undef=v at hr⊢;cases hr;exact .onil _ _ _⟩
def H3 (l:List Int):Nat->Nat
 | 0=>0
 |k+1=>if l.getD (H3 l k) 0<l.getD k 0 then k else H3 l k
def FD (l:List Int):Nat:=H3 l l.length
theorem Sf {l:List Int}(h:0<l.length):∀k,k<=l.length->H3 l k<l.length
 | 0,_=>h
 |k+1,hk=>by
  unfold H3;split
  ·omega
  ·exact Sf h k (by omega)
def J9 (mf:List Int->Int):Nat->List Int->List (Nat×Int)->List (Nat×Int)×Int
 | 0,_,_=>([],19)
 |k+1,l,out=>if l.getD (FD l) 0=0 then(out,0)else if mf l=0 then([],7)else if out.length=256 then([],19)else J9 mf k (l.set (FD l) (l.getD (FD l) 0-mf l)) (out++[(FD l,mf l)])
def JJ (p:Nat×Int):D:=.agg [i64 (p.1:Int),i64 p.2]
instance  (p:Nat×Int):Ag (JJ p):=by unfold JJ;exact AH
instance  (p:Nat×Int):AA (JJ p):=by unfold JJ;exact AH
theorem L4 {l:List Int}{i:Nat}(h:i<l.length):(CD l)[i]?=some (i64 (l.getD i 0)):=by
 rw[BK,ES,BD h];rfl
theorem ji (a1 a2 a3 a4:D)[AA a1][AA a2][AA a3][AA a4](b:Bool)(cs:List D)[pc:AA (.sl b 1 cs)](ls:List Int)(hlen:ls.length=cs.length)(h0:cs≠[])(hl:cs.length<=1000000)
  (hc:∀(i:Nat) (c:D) (m:Int),cs[i]?=some c->ls[i]?=some m->AK C0 59 [c] (i64 m)) (hp:∀c∈cs,∃bb l,c=.sl bb 3 l/\AA c)
  (cK:AK C0 32 [.agg [a1,a2,a3,a4,.sl b 1 cs]] (i64 0))
  (mf:List Int->Int) (I:List Int->Prop) (hI0:I ls) (hI:∀l,I l->l.getD (FD l) 0≠0->AK C0 74 [.agg [a1,a2,a3,a4,.sl b 1 cs],.sl false 1 (CD l),i64 ((FD l:Nat):Int)] (i64 (mf l))/\IntKind.i64.wrap (l.getD (FD l) 0-mf l)=l.getD (FD l) 0-mf l/\I (l.set (FD l) (l.getD (FD l) 0-mf l))):
  AK C0 51 [.agg [a1,a2,a3,a4,.sl b 1 cs]] (.tup [.sl false 2 ((J9 mf 257 ls []).1.map JJ),i64 (J9 mf 257 ls []).2]):=by
 refine Ai.walk w1 Zl rfl λF=>?_
 have e0:((0:Int) != 0)=false:=rfl;have cL:=λn=>dK a1 a2 a3 a4 b cs ls hlen h0 hl hc hp 0 (.agg [a1,a2,a3,a4,.sl b 1 cs]) n
 refine AR Am e0 cK AB AB AB AB AB ?_;refine A7.own _ (cL _) ?_;rintro d H' n' ⟨g,rfl,rfl⟩;refine AR Am kB AB AB AB AB AB AB ?_;obtain⟨N,hN⟩:∃N,ls.length=N:=⟨_,rfl⟩
 have hN0:0<N:=by rw[<-hN,hlen];exact List.length_pos_iff.2 h0
 have hN1:N<=1000000:=by omega
 rw[hN];clear cL cK hc hp;refine AC.ghost 2005 91 2 [(1,.optr 0 0 5 0 0),(5,.osl 2005 _ 2 0 0),(6,.osl 504 g 1 0 N)] ⟨.inl rfl,.inr ⟨rfl,rfl⟩,.inl rfl,trivial⟩ ?_;refine AC.loop (α:=List Int×List (Nat×Int)×Nat×Nat) (λp=>⟨[(1,.optr 0 0 5 0 0),(5,.osl 2005 p.2.2.1 2 0 p.2.1.length),(6,.osl 504 g 1 0 N)],[⟨2005,p.2.2.1,91,2,p.2.1.map JJ⟩,⟨504,g,3,1,CD p.1⟩,⟨0,0,48,5,[.agg [a1,a2,a3,a4,.sl b 1 cs]]⟩],p.2.2.2⟩) (λp=>257-p.2.1.length)
  (λp=>p.1.length=N/\I p.1/\p.2.1.length<=256/\J9 mf (257-p.2.1.length) p.1 p.2.1=J9 mf 257 ls []) (ls,[],_,_) ⟨hN,hI0,BZ _,rfl⟩ AL ?_
 rintro⟨l,out,go,n⟩ F ⟨hl1,hIl,ho,hR⟩;dsimp only at hl1 hIl ho hR⊢;obtain⟨OD,hOD⟩:∃O,out.map JJ=O:=⟨_,rfl⟩
 have hODl:OD.length=out.length:=by rw[<-hOD,An]
 rw[hOD];obtain⟨L,hL⟩:∃L,CD l=L:=⟨_,rfl⟩
 have hLl:L.length=N:=by rw[<-hL,An,hl1]
 rw[hL];refine AR Am kB AB AB AB AB AB AB ?_;refine AC.loop (α:=Nat×Nat) (λp=>⟨[(1,.optr 0 0 5 0 0),(5,.osl 2005 go 2 0 out.length),(6,.osl 504 g 1 0 N),(18,.osl 504 g 1 0 N),(19,i64 (N:Int)),(20,i64 (p.1:Int)),(7,i64 ((H3 l p.1:Nat):Int))],[⟨2005,go,91,2,OD⟩,⟨504,g,3,1,L⟩,⟨0,0,48,5,[.agg [a1,a2,a3,a4,.sl b 1 cs]]⟩],p.2⟩) (λp=>N-p.1) (λq=>q.1<=N) (0,_) (BZ _) AL ?_;rintro⟨k,n⟩ F hk;dsimp only at hk⊢;rcases BL k N with h2|h2
 ·have e1:=Cx h2
  have wi:=Cy (i:=k) (by omega);have hm:=L4 (l:=l) (i:=k) (by omega);have hq:=Sf (l:=l) (by omega) k (by omega);have hm2:=L4 hq;obtain⟨u,hu⟩:∃u,l.getD k 0=u:=⟨_,rfl⟩
  obtain⟨v,hv⟩:∃v,l.getD (H3 l k) 0=v:=⟨_,rfl⟩
  have hs:H3 l (k+1)=if v<u then k else H3 l k:=by rw[<-hu,<-hv];rfl
  rw[hu]at hm;rw[hv]at hm2;obtain⟨q,hq2⟩:∃q,H3 l k=q:=⟨_,rfl⟩
  rw[hq2]at hm2 hs hq⊢;rw[hL]at hm hm2
  by_cases hlt:v<u
  ·have e2:decide (u>v)=true:=AZ hlt
   rw[AF hlt]at hs;refine AR Am (Ce e1 e2 wi kN BT hm hm2) AB AB AB AB AB AB ?_;refine⟨(k+1,n+1000),h2,by dsimp only;omega,?_⟩;dsimp only;rw[hs];exact AL
  ·have e2:decide (u>v)=false:=Ad hlt
   rw[AE hlt]at hs;refine AR Am (Ce e1 e2 wi kN BT hm hm2) AB AB AB AB AB AB ?_;refine⟨(k+1,n+1000),h2,by dsimp only;omega,?_⟩;dsimp only;rw[hs];exact AL
 have e1:=Cw h2
 have:k=N:=by omega
 subst this;have hq:=Sf (l:=l) (by omega) k (by omega);have hm:=L4 hq;have hmI:H3 l k=FD l:=by unfold FD;rw[hl1]
 rw[hmI]at hq hm⊢;have hIm:=hI l hIl;have hRs:J9 mf (257-out.length) l out=if l.getD (FD l) 0=0 then(out,0)else if mf l=0 then([],7)else if out.length=256 then([],19)else J9 mf (256-out.length) (l.set (FD l) (l.getD (FD l) 0-mf l)) (out++[(FD l,mf l)]):=by
  rw[show 257-out.length=(256-out.length)+1 by omega];rfl
 rw[hR]at hRs;obtain⟨q,hq2⟩:∃q,FD l=q:=⟨_,rfl⟩
 rw[hq2]at hq hm hIm hRs⊢;obtain⟨v,hv⟩:∃v,l.getD q 0=v:=⟨_,rfl⟩
 rw[hv]at hm hIm hRs;rw[hL]at hm
 by_cases hv0:v=0
 ·have e2:(v==0)=true:=by rw[hv0];rfl
  rw[AF hv0]at hRs;rw[hRs];refine AR Am (CH e1 e2 kN BT hm) AB AB AB AB AB AB ?_;have hf:=If (H:=[⟨2005,go,91,2,OD⟩,⟨504,g,3,1,L⟩,⟨0,0,48,5,[.agg [a1,a2,a3,a4,.sl b 1 cs]]⟩]) (Hf:=[]) (k:=2005) (g:=go) (T:=91) (sz:=2) (l:=OD) rfl;rw[hODl]at hf;rw[hOD];have pO:AA (.sl false 2 OD):=by rw[<-hOD];exact AH
  exact⟨_,HO hf (.refl _),AA.out,rfl⟩
 rw[AE hv0]at hRs;have e2:(v==0)=false:=Bv.2 hv0;obtain⟨cM,wm,hI'⟩:=hIm hv0;obtain⟨m,hmm⟩:∃m,mf l=m:=⟨_,rfl⟩
 rw[hmm]at cM wm hI' hRs;have pL:AA (.sl false 1 (CD l)):=AH;rw[hL]at cM pL;have hfL:=If (H:=[⟨2005,go,91,2,OD⟩,⟨504,g,3,1,L⟩,⟨0,0,48,5,[.agg [a1,a2,a3,a4,.sl b 1 cs]]⟩]) (Hf:=[]) (k:=504) (g:=g) (T:=3) (sz:=1) (l:=L) rfl;rw[hLl]at hfL;refine AR Am (CH e1 e2 kN BT hm) AB AB AB AB AB AB ?_;refine A7.own _ (MM (H:=[⟨2005,go,91,2,OD⟩,⟨504,g,3,1,L⟩,⟨0,0,48,5,[.agg [a1,a2,a3,a4,.sl b 1 cs]]⟩]) cM rfl (λi a d h1 h2=>by
  match i with
  | 0=>cases h1;cases h2;exact .refl _ _
  | 1=>cases h1;cases h2;exact .of hfL
  | 2=>cases h1;cases h2;exact .refl _ _
  |n+3=>cases h1) AH (.prim _)) ?_
 rintro d H' n' ⟨rfl,rfl,rfl⟩
 by_cases hm0:m=0
 ·have e3:(m==0)=true:=by rw[hm0];rfl
  rw[AF hm0]at hRs;rw[hRs];refine AR Am e3 AB AB AB AB AB AB ?_;exact⟨_,HO (.nil 2) (.refl _),AA.out,rfl⟩
 rw[AE hm0]at hRs;have e3:(m==0)=false:=Bv.2 hm0
 by_cases h256:out.length=256
 ·have e4:((out.length:Int)==256)=true:=by rw[h256];rfl
  rw[AF h256]at hRs;rw[hRs];refine AR Am (Ah e3 e4) AB AB AB AB AB AB ?_;exact⟨_,HO (.nil 2) (.refl _),AA.out,rfl⟩
 rw[AE h256]at hRs;have e4:((out.length:Int)==256)=false:=Bv.2 (by omega);refine AR Am (EU e3 e4 wm kN BT hm) AB AB AB AB AB AB ?_;have hle:out.length<256:=by omega
 refine⟨(l.set q (v-m),out++[(q,m)],n+1+1+1+1+1+1+1+1+1+1+1+1+1+1+1+1+1+1+1+1+1,n+1000),⟨by rw[DZ];exact hl1,?_,by rw[B1];exact hle,?_⟩,?_,?_⟩
 ·exact hI'
 ·dsimp only
  rw[hRs,B1];rw[show 257-(out.length+[(q,m)].length)=256-out.length by simp only[Bj,HD];omega]
 ·dsimp only
  rw[B1];simp only[Bj,HD];omega
 ·dsimp only
  rw[B1,DP,hOD,B5 (show OD.length<=out.length by omega)];rw[show CD (l.set q (v-m))=L.set q (i64 (v-m))from by rw[<-hL];unfold CD;rw[List.map_set]];exact AL
abbrev GR:Dr:=[(11,[0,1,2,3,4,5,6,7,8,9,10,11,12,13],[14,15])]
open Go.Proofs Go.RowKit
set_option maxRecDepth 20000
set_option maxHeartbeats 4000000
theorem W7 {l:List BE}:∀i,i<=l.length->(∀j,j<i->CN (FE l j).part=0)->rk (Ec l i) (601*i+1)
 | 0,_,_=>(XP 1 (Af _)).rk
 |i+1,hi,h=>(ZM (W7 i (by omega) λj hj=>h j (by omega)) (Li (h i (by omega)))).mono (by omega)
theorem kn {l:List BE}{i:Nat}(h:Ey l i=0):CN (FE l i).part=0:=by
 unfold Ey at h;split at h
 ·cases h
 split at h
 ·cases h
 split at h
 ·exact h
 ·rename_i h1;exact Decidable.not_not.1 h1
theorem tC (b:Bool)(l:List BE)(hl:l.length<=15\/64<l.length)(hl2:l.length<=9223372036854775807)(hf:∀s∈l,s.few):AK C0 119 [Dg b l] (i64 (Gy l:Nat)):=by
 refine Ai.walk w1 m8 rfl λF=>?_
 have el:(((l.map BE.D).length:Nat):Int)=(l.length:Int):=by rw[An]
 have hC:Gy l=if l.length=0 then 2 else if 64<l.length then 5 else if DT (Ey l) l.length≠0 then DT (Ey l) l.length else if Ec l l.length=1 then 0 else 12:=rfl
 rcases Nat.decEq l.length 0 with h0|h0
 rotate_left
 ·rw[AF h0]at hC
  rw[hC];have q1:((l.length:Int)==0)=true:=by rw[h0];rfl
  refine AR GR (Ah el q1) AB AB AB AB AB AB ?_;exact AN rfl AA.out
 rw[AE h0]at hC;have q1:((l.length:Int)==0)=false:=Bv.2 (by omega)
 by_cases h64:64<l.length
 ·rw[AF h64]at hC
  rw[hC];have q2:decide ((l.length:Int)>64)=true:=AZ (by omega);refine AR GR (Ar el q1 q2) AB AB AB AB AB AB ?_;exact AN rfl AA.out
 rw[AE h64]at hC;have q2:decide ((l.length:Int)>64)=false:=Ad (by omega);have h15:l.length<=15:=by omega
 refine AR GR (Ar el q1 q2) AB AB AB AB AB AB ?_;refine AC.loop (α:=Nat×Nat) (λp=>⟨[(0,Dg b l),(3,rR (Ec l p.1)),(4,i64 (p.1:Int))],[],p.2⟩) (λp=>l.length-p.1) (λp=>p.1<=l.length/\∀j,j<p.1->Ey l j=0) (0,_)
  ⟨BZ _,λj h=>Ae h (Ht j)⟩ (by(dsimp only;rw[show rR (Ec l 0)=str ⟨#[48]⟩from kW];exact AL)) ?_
 rintro⟨i,m⟩ F ⟨hi,hz⟩;dsimp only at hi hz⊢;have hSk:=W7 (l:=l) i hi λj hj=>kn (hz j hj)
 rcases BL i l.length with h2|h2
 rotate_left
 ·have e1:=Cw h2
  have:i=l.length:=by omega
  subst this;rw[AE (λh=>h (LK hz))]at hC;have e2:=dc (Ec l l.length);obtain⟨q,hq⟩:∃q,decide (Ec l l.length=1)=q:=⟨_,rfl⟩
  rw[hq]at e2;unfold rR;cases q
  ·rw[AE (C7 hq)]at hC
   rw[hC];refine AR GR (Ar e1 el e2) AB AB AB AB AB AB ?_;exact AN rfl AA.out
  ·rw[AF (Cs hq)]at hC
   rw[hC];refine AR GR (Ar e1 el e2) AB AB AB AB AB AB ?_;exact AN rfl AA.out
 have e1:=Cx h2;have wi:=Cy (i:=i) (by omega);obtain⟨s,hs⟩:=Cg h2;have hm:(l.map BE.D)[i]?=some (.agg [str (sb s.lot),str (sb s.part)]):=by rw[BK,hs];rfl
 obtain⟨f1,f2⟩:=hf s (A8 hs);have hE:Ey l i=if DM s.lot=false then 8 else if 0<i/\Nd s.lot (FE l (i-1)).lot=true then 11 else if CN s.part≠0 then CN s.part else if GE (CE s.part)<=0 then 12 else 0:=by unfold Ey;rw[Il hs]
 have hbad:∀e:Nat,e≠0->Ey l i=e->Gy l=e:=λe he h=>by
  have:=M9 hz h2 (by rw[h];exact he)
  rw[hC,this,h,AF he]
 have cN:=aE s.lot (by omega);obtain⟨N,hN⟩:∃q,DM s.lot=q:=⟨_,rfl⟩
 rw[hN]at cN hE;cases N
 ·rw[AF rfl]at hE
  rw[hbad 8 (by decide) hE];refine AR GR (Ar e1 el kN) hm cN AB AB AB AB ?_;exact AN rfl AA.out
 rw[AE (by decide)]at hE;have cC:=pY s.part f2;rcases i with _|q
 ·have g0:decide (((0:Nat):Int)>0)=false:=rfl
  rw[AE (λh=>Ae h.1 (Nat.lt_irrefl 0))]at hE;rcases Nat.decEq (CN s.part) 0 with hc0|hc0
  ·rw[AF hc0]at hE
   have e3:=Fr hc0;rw[hbad (CN s.part) hc0 hE];refine AR GR (CH e1 el g0 kN e3) hm cN cC AB AB AB ?_;exact AN rfl AA.out
  rw[AE (λh=>h hc0)]at hE;have e3:=Fs hc0;have cG:=ZP (CE s.part) (We hc0);have cA:=aQ (Ec l 0) (CE s.part) (601*0+1) 600 hSk (Li hc0) (by omega);rw[Sq hc0]at cG cA;have hnext:Ec l (0+1)=Ec l 0+CE s.part:=by show _+CE (FE l 0).part=_;rw[Il hs]
  rw[<-hnext]at cA;obtain⟨sg,hsg⟩:∃q,GE (CE s.part)=q:=⟨_,rfl⟩
  rw[hsg]at cG hE
  by_cases hs0:sg<=0
  ·rw[AF hs0]at hE
   have e4:decide (sg<=0)=true:=AZ hs0;rw[hbad 12 (by decide) hE];refine AR GR (EU e1 el g0 kN e3 e4) hm cN cC cG AB AB ?_;exact AN rfl AA.out
  rw[AE hs0]at hE;have e4:decide (sg<=0)=false:=Ad hs0;refine AR GR (Ce e1 el g0 kN e3 e4 wi) hm cN cC cG cA AB ?_;exact⟨(0+1,_),⟨h2,λj hj=>by
   rcases Nat.lt_succ_iff_lt_or_eq.1 hj with q|q
   ·exact hz j q
   ·rw[q];exact hE⟩,by dsimp only;omega,AL⟩
 ·have g0:decide (((q+1:Nat):Int)>0)=true:=AZ (by omega)
  have g1:IntKind.i64.wrap (((q+1:Nat):Int)-1)=(q:Int):=by rw[wI (by omega) (by omega)];omega
  obtain⟨s0,hs0'⟩:=Cg (l:=l) (i:=q) (by omega);have hm0:(l.map BE.D)[q]?=some (.agg [str (sb s0.lot),str (sb s0.part)]):=by rw[BK,hs0'];rfl
  rw[Hn,Il hs0']at hE;obtain⟨bL,hbL⟩:∃q,Nd s.lot s0.lot=q:=⟨_,rfl⟩
  have g2:(Kl (sb s.lot) (sb s0.lot)||BM (sb s.lot) (sb s0.lot))=bL:=hbL;rw[hbL]at hE;cases bL
  rotate_left
  ·rw[AF ⟨Nat.succ_pos q,rfl⟩]at hE
   rw[hbad 11 (by decide) hE];refine AR GR (EU e1 el g0 g1 g2 kN) hm hm0 cN AB AB AB ?_;exact AN rfl AA.out
  rw[AE (λh=>Ae h.2 (by decide))]at hE;rcases Nat.decEq (CN s.part) 0 with hc0|hc0
  ·rw[AF hc0]at hE
   have e3:=Fr hc0;rw[hbad (CN s.part) hc0 hE];refine AR GR (Ce e1 el g0 g1 g2 kN e3) hm hm0 cN cC AB AB ?_;exact AN rfl AA.out
  rw[AE (λh=>h hc0)]at hE;have e3:=Fs hc0;have cG:=ZP (CE s.part) (We hc0);have cA:=aQ (Ec l (q+1)) (CE s.part) (601*(q+1)+1) 600 hSk (Li hc0) (by omega);rw[Sq hc0]at cG cA;have hnext:Ec l ((q+1)+1)=Ec l (q+1)+CE s.part:=by show _+CE (FE l (q+1)).part=_;rw[Il hs]
  rw[<-hnext]at cA;obtain⟨sg,hsg⟩:∃q,GE (CE s.part)=q:=⟨_,rfl⟩
  rw[hsg]at cG hE
  by_cases hs0:sg<=0
  ·rw[AF hs0]at hE
   have e4:decide (sg<=0)=true:=AZ hs0;rw[hbad 12 (by decide) hE];refine AR GR (Ce e1 el g0 g1 g2 kN (Ah e3 e4)) hm hm0 cN cC cG AB ?_;exact AN rfl AA.out
  rw[AE hs0]at hE;have e4:decide (sg<=0)=false:=Ad hs0;refine AR GR (Ce e1 el g0 g1 g2 kN (Ar e3 e4 wi)) hm hm0 cN cC cG cA ?_;exact⟨((q+1)+1,_),⟨h2,λj hj=>by
   rcases Nat.lt_succ_iff_lt_or_eq.1 hj with q|q
   ·exact hz j q
   ·rw[q];exact hE⟩,by dsimp only;omega,AL⟩
theorem sf (x:AG)(hs:x.shs.length<=15\/64<x.shs.length)(hf:x.few):AK C0 64 [x.D] (i64 (CU x:Nat)):=by
 refine Ai.walk w1 qm rfl λF=>?_
 obtain⟨f1,f2,f3⟩:=hf;have cN:=aE x.grain (by omega);have cS:=tC false x.shs hs f2 f3;have hC:CU x=if DM x.grain=false then 8 else if x.mass<1\/x.mass>999999999 then 3 else Gy x.shs:=rfl
 obtain⟨N,hN⟩:∃q,DM x.grain=q:=⟨_,rfl⟩
 obtain⟨SD,hSD⟩:∃d,Dg false x.shs=d:=⟨_,rfl⟩
 have pS:AA SD:=by rw[<-hSD];exact AH
 have hna:Ij SD=true:=by rw[<-hSD];rfl
 unfold AG.D;rw[hN]at cN hC;rw[hSD]at cS⊢;cases N
 ·rw[AF rfl]at hC
  rw[hC];refine AR Am kB cN AB AB AB AB AB ?_;exact AN rfl AA.out
 rw[AE (by decide)]at hC
 by_cases h1:x.mass<1
 ·rw[AF (.inl h1)]at hC
  rw[hC];have e1:decide (x.mass<1)=true:=AZ h1;refine AR Am e1 cN AB AB AB AB AB ?_;exact AN rfl AA.out
 have e1:decide (x.mass<1)=false:=Ad h1
 by_cases h2:x.mass>999999999
 ·rw[AF (.inr h2)]at hC
  rw[hC];have e2:decide (x.mass>999999999)=true:=AZ h2;refine AR Am (Ah e1 e2) cN AB AB AB AB AB ?_;exact AN rfl AA.out
 have e2:decide (x.mass>999999999)=false:=Ad h2;rw[AE (by omega)]at hC;rw[hC];refine AR Am (Ar e1 e2 hna) cN cS AB AB AB AB ?_;exact AN rfl AA.out
def G9 (lot:List UInt8)(r:Rat):Bp->Bp
 | []=>[(lot,r)]
 |p::l=>if ltStr p.1 lot then p::G9 lot r l else if p.1=lot then(p.1,p.2+r)::l else(lot,r)::p::l
def Kz (x:AG)(n:Nat)(q:Bp):Bp:=(x.shs.take n).foldl (λacc s=>G9 s.lot (CE s.part*(x.mass:Rat)) acc) q
def Jo (l:List AG):Bp:=l.foldl (λacc x=>Kz x x.shs.length acc) []
theorem fC (x:AG)(n:Nat)(q:Bp){s:BE}(h:x.shs[n]?=some s):Kz x (n+1) q=G9 s.lot (CE s.part*(x.mass:Rat)) (Kz x n q):=by
 unfold Kz;rw[D7,h,List.foldl_append];rfl
theorem dO (l:List AG)(n:Nat){x:AG}(h:l[n]?=some x):Jo (l.take (n+1))=Kz x x.shs.length (Jo (l.take n)):=by
 unfold Jo;rw[D7,h,List.foldl_append];rfl
abbrev GO (q:Bp):Prop:=q.Pairwise λa b=>ltStr a.1 b.1=true
theorem GO.nd {q:Bp}(h:GO q):(CZ q).Nodup:=by
 rw[CZ,List.Nodup,List.pairwise_map];exact h.imp λ{a b} h e=>by rw[e,swo_ltStr.irrefl]at h;cases h
theorem Ow {lot:List UInt8}{o v:Rat}:∀ {q:Bp},FK lot q=some o->∃A B,q=A++(lot,o)::B/\Fo lot v q=A++(lot,v)::B
 | [],h=>by simp[FK]at h
 |p::l,h=>by
  unfold FK at h;unfold Fo;split at h
  ·rename_i e
   cases h;rw[AF e];exact⟨[],l,by rw[e];rfl,rfl⟩
  ·rename_i e
   rw[AE e];obtain⟨A,B,h1,h2⟩:=Ow (v:=v) h;exact⟨p::A,B,by rw[h1];rfl,by rw[h2];rfl⟩
theorem RZ {lot:List UInt8}{v:Rat}:∀ {q:Bp},FK lot q=none->lot∉CZ q/\Fo lot v q=q++[(lot,v)]
 | [],_=>⟨by simp[CZ],rfl⟩
 |p::l,h=>by
  unfold FK at h;unfold Fo;split at h
  ·cases h
  ·rename_i e
   rw[AE e];obtain⟨h1,h2⟩:=RZ (v:=v) h;exact⟨λq=>by
    rcases BA.1 q with q|q
    ·exact e q
    ·exact h1 q,by rw[h2];rfl⟩
theorem Vg {lot:List UInt8}{r:Rat}:∀ {Q:Bp},GO Q->(∃A o B,Q=A++(lot,o)::B/\G9 lot r Q=A++(lot,o+r)::B)\/(lot∉CZ Q/\∃A B,Q=A++B/\G9 lot r Q=A++(lot,r)::B)
 | [],_=>.inr ⟨by simp[CZ],[],[],rfl,rfl⟩
 |p::l,h=>by
  have hp:=Dh.1 h;unfold G9;split
  ·rename_i e
   rcases Vg (lot:=lot) (r:=r) hp.2 with⟨A,o,B,h1,h2⟩|⟨h0,A,B,h1,h2⟩
   ·exact .inl ⟨p::A,o,B,by rw[h1];rfl,by rw[h2];rfl⟩
   ·refine .inr ⟨λq=>?_,p::A,B,by rw[h1];rfl,by rw[h2];rfl⟩
    rcases BA.1 q with q|q
    ·rw[show p.1=lot from q.symm,swo_ltStr.irrefl]at e;cases e
    ·exact h0 q
  ·rename_i e
   split
   ·rename_i e2
    exact .inl ⟨[],p.2,l,by rw[<-e2];rfl,by rw[e2];rfl⟩
   ·rename_i e2
    refine .inr ⟨λq=>?_,[],p::l,rfl,rfl⟩;rcases BA.1 q with q|q
    ·exact e2 q.symm
    ·obtain⟨z,hz,rfl⟩:=List.mem_map.1 q
     exact e (hp.1 z hz)
theorem VT {lot:List UInt8}{r:Rat}:∀ {Q:Bp},∀z∈G9 lot r Q,z.1=lot\/z.1∈CZ Q
 | [],z,hz=>by
  unfold G9 at hz;rw[List.mem_singleton]at hz;exact .inl (by rw[hz])
 |p::l,z,hz=>by
  unfold G9 at hz;split at hz
  ·rcases BA.1 hz with rfl|hz
   ·exact .inr Cc
   ·rcases VT z hz with h|h
    ·exact .inl h
    ·exact .inr (Ck _ h)
  ·split at hz
   ·rcases BA.1 hz with rfl|hz
    ·exact .inr Cc
    ·exact .inr (Ck _ (List.mem_map_of_mem hz))
   ·rcases BA.1 hz with rfl|hz
    ·exact .inl rfl
    ·exact .inr (List.mem_map_of_mem hz)
theorem Wu {lot:List UInt8}{r:Rat}:∀ {Q:Bp},GO Q->GO (G9 lot r Q)
 | [],_=>List.pairwise_singleton _ _
 |p::l,h=>by
  have hp:=Dh.1 h;unfold G9;split
  ·rename_i e
   refine Dh.2 ⟨λz hz=>?_,Wu hp.2⟩;rcases VT z hz with h|h
   ·rw[h];exact e
   ·obtain⟨y,hy,h2⟩:=List.mem_map.1 h
    rw[<-h2];exact hp.1 y hy
  ·rename_i e
   split
   ·exact Dh.2 ⟨hp.1,hp.2⟩
   ·rename_i e2
    have e3:ltStr lot p.1=true:=by
     cases h9:ltStr lot p.1 with
     |true=>rfl
     |false=>exact Ae (Uv (by simpa using e) h9) e2
    refine Dh.2 ⟨λz hz=>?_,h⟩;rcases BA.1 hz with rfl|hz
    ·exact e3
    ·exact swo_ltStr.trans _ _ _ e3 (hp.1 z hz)
theorem jN {Q q:Bp}(hs:GO Q)(hp:Q.Perm q)(lot:List UInt8)(r:Rat):(G9 lot r Q).Perm (I1 lot r q):=by
 have hnd:(CZ Q).Nodup:=hs.nd;unfold I1;rcases Vg (lot:=lot) (r:=r) hs with⟨A,o,B,h1,h2⟩|⟨h0,A,B,h1,h2⟩
 ·have hm:(lot,o)∈q:=hp.mem_iff.1 (by rw[h1];simp)
  have hqn:(CZ q).Nodup:=(hp.map _).nodup_iff.1 hnd;have hlk:=RQ hqn hm;dsimp only at hlk;rw[hlk];dsimp only;obtain⟨A2,B2,h3,h4⟩:=Ow (v:=r+o) hlk;rw[h2,h4];have p1:(A++(lot,o)::B).Perm ((lot,o)::(A++B)):=Gg;have p2:(A2++(lot,o)::B2).Perm ((lot,o)::(A2++B2)):=Gg;have p3:(A++B).Perm (A2++B2):=by
   rw[h1,h3]at hp;exact List.Perm.cons_inv (p1.symm.trans (hp.trans p2))
  rw[Rat.add_comm o r];exact Gg.trans ((p3.cons _).trans Gg.symm)
 ·have hn:FK lot q=none:=by
   cases h9:FK lot q with
   |none=>rfl
   |some o=>
    obtain⟨A2,B2,h3,-⟩:=Ow (v:=o) h9;exact Ae ((hp.map (·.1)).mem_iff.2 (by rw[h3];simp)) h0
  rw[hn];dsimp only;rw[(RZ (v:=r) hn).2,h2];rw[h1]at hp;exact Gg.trans ((hp.cons _).trans (List.perm_append_singleton _ _).symm)
theorem Wv {Q q:Bp}(hs:GO Q)(hp:Q.Perm q)(x:AG):∀j,j<=x.shs.length->GO (Kz x j Q)/\(Kz x j Q).Perm (Fk x j q)
 | 0,_=>⟨hs,hp⟩
 |j+1,hj=>by
  obtain⟨s,hsj⟩:∃s,x.shs[j]?=some s:=⟨_,BD hj⟩
  obtain⟨h1,h2⟩:=Wv hs hp x j (by omega);rw[fC x j Q hsj,Mn x j q hsj];exact⟨Wu h1,jN h1 h2 _ _⟩
theorem Rp (l:List AG):∀i,i<=l.length->GO (Jo (l.take i))/\(Jo (l.take i)).Perm (B7 (l.take i))
 | 0,_=>⟨List.Pairwise.nil,.refl _⟩
 |i+1,hi=>by
  obtain⟨x,hx⟩:∃x,l[i]?=some x:=⟨_,BD hi⟩
  obtain⟨h1,h2⟩:=Rp l i (by omega);rw[dO l i hx,Oa l i hx];exact Wv h1 h2 x _ (Af _)
theorem GO.weak {q:Bp}(h:GO q):q.Pairwise λa b=>ltStr b.1 a.1=false:=h.imp λ{a b} h=>by
 cases h9:ltStr b.1 a.1 with
 |false=>rfl
 |true=>have:=swo_ltStr.trans _ _ _ h h9;rw[swo_ltStr.irrefl]at this;cases this
theorem Vj (l:List AG):Jo l=Eu (B7 l):=by
 obtain⟨h1,h2⟩:=Rp l l.length (Af _);rw[Dk]at h1 h2;exact Q9 ((h2.map _).nodup_iff.1 h1.nd) h2 (JU _) h1.weak (Pe _)
theorem il (l:List AG):GO (Jo l):=by
 obtain⟨h1,-⟩:=Rp l l.length (Af _)
 rwa [Dk]at h1
def Da (g:List UInt8)(x:AG):AG:=⟨g,x.mass,x.shs⟩
def GZ (l:List AG)(g:List UInt8):Nat:=if B4 l≠0 then B4 l else if DM g=false then 8 else if l.length=0 then 13 else 0
def Hc (l:List AG)(g:List UInt8):Nat:=if GZ l g≠0 then GZ l g else GB (l.map (Da g))
def Kk (l:List AG)(g:List UInt8):AG:=if GZ l g≠0 then⟨[],0,[]⟩else Jv (l.map (Da g))
theorem kZ (g:List UInt8){l:List AG}{i:Nat}{x:AG}(hx:l[i]?=some x):
  (((l.take i).map (Da g)++l.drop i).map AG.D).set i (.agg [str (sb g),i64 x.mass,.sl false 2 (x.shs.map BE.D)])=((l.take (i+1)).map (Da g)++l.drop (i+1)).map AG.D:=by
 have hi:=(List.getElem?_eq_some_iff.1 hx).1;have hd:l.drop i=x::l.drop (i+1):=by
  rw[D9 hi,(List.getElem?_eq_some_iff.1 hx).2]
 rw[D7,hx,hd];simp only[DP,Cb,Option.toList_some,List.map_nil,D2,EP,GG];rw[OE _ _ (by simp;omega)]
 have:i-(((l.take i).map (Da g)).map AG.D).length=0:=by simp;omega
 rw[this];rfl
theorem Zy (b:Bool)(l:List AG)(g:List UInt8)(hl:l.length<=1000000)(hf:∀x∈l,x.lite)(hg:g.length<=100000):AK C0 11 [Ax b l,str (sb g)] (.tup [(Kk l g).D,i64 (Hc l g:Nat)]):=by
 refine Ai.walk w1 Zf rfl λF=>?_
 have el:(((l.map AG.D).length:Nat):Int)=(l.length:Int):=by rw[An]
 have cP:=MC b l (by omega) λx hx=>(hf x hx).1
 have cN:=Pa g;have hN:Hc l g=if GZ l g≠0 then GZ l g else GB (l.map (Da g)):=rfl
 have hL:Kk l g=if GZ l g≠0 then⟨[],0,[]⟩else Jv (l.map (Da g)):=rfl
 have hE:GZ l g=if B4 l≠0 then B4 l else if DM g=false then 8 else if l.length=0 then 13 else 0:=rfl
 obtain⟨K,hK⟩:∃K,DM g=K:=⟨_,rfl⟩
 have cW1:=Hb (!K) 8;have cW2:=Hb ((l.length:Int)==0) 13;have cF:AK C0 54 [.sl true 1 [i64 (B4 l:Nat),i64 (if !K then 8 else 0),i64 (if(l.length:Int)==0 then 13 else 0)]] (i64 (GZ l g:Nat)):=by
  have:=NK [(B4 l:Int),if !K then 8 else 0,if(l.length:Int)==0 then 13 else 0] (by simp)
  have he:E4 [(B4 l:Int),if !K then 8 else 0,if(l.length:Int)==0 then 13 else 0]=((GZ l g:Nat):Int):=by
   rw[hE,hK]
   by_cases h1:B4 l=0<;>cases K<;>by_cases h3:l.length=0<;>simp[E4,h1,h3]
  rw[he]at this;exact this
 rw[hK]at cN;rcases Nat.decEq (GZ l g) 0 with g0|g0
 ·have e1:=Fr g0
  rw[AF g0]at hN hL;rw[hN,hL];refine AR Am (Ah el e1) cP cN cW1 cW2 cF AB ?_;exact⟨_,NA _ _,AA.out,rfl⟩
 have e1:=Fs g0;rw[AE (λh=>h g0)]at hN hL;rw[hN,hL];have h0:l≠[]:=λh=>by
  rw[hE]at g0;split at g0
  ·rename_i h9;exact h9 g0
  ·split at g0
   ·cases g0
   ·split at g0
    ·cases g0
    ·rename_i h9;exact h9 (by rw[h];rfl)
 refine AR Am (Ah el e1) cP cN cW1 cW2 cF AB ?_;refine A7.own _ (gL b l hl h0 _ _) ?_;rintro d H' n' ⟨gk,rfl,rfl,rfl⟩;refine AR Am kB AB AB AB AB AB AB ?_;refine AC.loop (α:=Nat×Nat) (λp=>⟨[(1,str (sb g)),(4,.optr 0 0 3 0 0),(7,.osl 302 gk 3 0 l.length),(28,i64 (l.length:Int)),(29,i64 (p.1:Int))],[⟨302,gk,27,3,((l.take p.1).map (Da g)++l.drop p.1).map AG.D⟩,⟨0,0,27,3,[.agg [.prim (.string ⟨#[]⟩),.prim (.int .i64 0),.prim (.slice none 0 0)]]⟩],p.2⟩) (λp=>l.length-p.1)
  (λp=>p.1<=l.length) (0,_) (BZ _) AL ?_
 rintro⟨i,n⟩ F hi;dsimp only at hi⊢;rcases BL i l.length with h2|h2
 rotate_left
 ·have e1:=Cw h2
  have:i=l.length:=by omega
  subst this;rw[Dk,JB,DN];have hlr:(l.map (Da g)).length=l.length:=An ..;have hfr:∀x∈l.map (Da g),x.lite:=λx hx=>by
   obtain⟨y,hy,rfl⟩:=List.mem_map.1 hx;obtain⟨⟨a1,a2,a3⟩,a4⟩:=hf y hy;exact⟨⟨hg,a2,a3⟩,a4⟩
  have cM:=s8 false (l.map (Da g)) (by rw[hlr];exact hl) hfr;obtain⟨R,hR⟩:∃R,l.map (Da g)=R:=⟨_,rfl⟩
  rw[hR]at cM hlr⊢;obtain⟨Z,hZ⟩:∃Z:AG,Jv R=Z:=⟨_,rfl⟩
  rw[hZ]at cM⊢;refine AR Am e1 AB AB AB AB AB AB ?_;have hfz:Fz [⟨302,gk,27,3,R.map AG.D⟩,⟨0,0,27,3,[.agg [.prim (.string ⟨#[]⟩),.prim (.int .i64 0),.prim (.slice none 0 0)]]⟩] [⟨0,0,27,3,[.agg [.prim (.string ⟨#[]⟩),.prim (.int .i64 0),.prim (.slice none 0 0)]]⟩] (.osl 302 gk 3 0 l.length) (Ax false R):=by
   have:=If (H:=[⟨302,gk,27,3,R.map AG.D⟩,⟨0,0,27,3,[.agg [.prim (.string ⟨#[]⟩),.prim (.int .i64 0),.prim (.slice none 0 0)]]⟩]) (Hf:=[⟨0,0,27,3,[.agg [.prim (.string ⟨#[]⟩),.prim (.int .i64 0),.prim (.slice none 0 0)]]⟩]) (k:=302) (g:=gk) (T:=27) (sz:=3) (l:=R.map AG.D) rfl
   rwa [An,hlr]at this
  refine A7.own _ (N0 [⟨0,0,27,3,[.agg [.prim (.string ⟨#[]⟩),.prim (.int .i64 0),.prim (.slice none 0 0)]]⟩] cM (.drop (.keep .nil)) ⟨hfz,trivial⟩ AH) ?_;rintro d H2 n2 ⟨rfl,rfl,rfl⟩;unfold AG.D;refine AR Am kB AB AB AB AB AB AB ?_;exact AN rfl AA.out
 have e1:=Cx h2;have wi:=Cy (i:=i) (by omega);obtain⟨x,hx⟩:=Cg h2;obtain⟨es,hes⟩:∃es,((l.take i).map (Da g)++l.drop i).map AG.D=es:=⟨_,rfl⟩
 rw[hes];have hm:es[i]?=some (.agg [str (sb x.grain),i64 x.mass,.sl false 2 (x.shs.map BE.D)]):=by
  rw[<-hes,BK,Ex (by simp;omega)];simp only[An,Bg,Ei (JC h2),Nat.sub_self,Gk,DJ,hx,IW];rfl
 refine sZ 600 ?_;refine AD e1 ?_;refine AC.seq ?_;refine AI ?_;refine Aj ?_;refine AC.seq ?_;refine AC.block ?_;refine sZ 700 ?_;refine AD kB ?_;refine Ak w1 800 (by kernel_rfl) ?_;refine AD (Ar kN BT hm) ?_;have hset:es.set i (.agg [str (sb g),i64 x.mass,.sl false 2 (x.shs.map BE.D)])=((l.take (i+1)).map (Da g)++l.drop (i+1)).map AG.D:=by
  rw[<-hes];exact kZ g hx
 rw[hset];refine AR Am wi AB AB AB AB AB AB ?_;exact⟨(i+1,_),h2,by dsimp only;omega,AL⟩
theorem iK {g:List UInt8}(hg:g.length<=100000){l:List AG}(hf:∀x∈l,x.lite):∀x∈l.map (Da g),x.lite:=λx hx=>by
 obtain⟨y,hy,rfl⟩:=List.mem_map.1 hx;obtain⟨⟨a1,a2,a3⟩,a4⟩:=hf y hy;exact⟨⟨hg,a2,a3⟩,a4⟩
theorem jT {l:List AG}(h:GB l=0):Gd l=0/\(B7 l).length<=64/\∀p∈Eu (B7 l),DX (p.2/(Av l:Rat))=false:=by
 unfold GB at h;split at h
 ·rename_i h9;exact Ae h h9
 ·split at h
  ·cases h
  ·split at h
   ·cases h
   ·rename_i h1 h2 h3
    refine⟨by omega,by omega,λp hp=>?_⟩
    have:=List.any_eq_false.1 ((Bool.not_eq_true _).mp h3) p hp
    exact(Bool.not_eq_true _).mp this
theorem Wo {l:List AG}(h:GB l=0):Jv l=⟨(CC l 0).grain,Av l,EO l⟩:=by
 unfold Jv;rw[AE (λq=>q h)]
theorem jb {l:List UInt8}(h:CN l=0):l.length<=100000:=by
 obtain⟨-,h2,h3,-⟩:=O6 h;have h4:(Bq l).length<=(Br l).length+1:=by
  unfold Br Bf;split
  ·simp;omega
  ·omega
 unfold Bq BR at*;rw[Bg]at h4;rw[Dj]at h3;omega
theorem jU {l:List AG}(hf:∀x∈l,x.lite)(h:GB l=0):(EO l).length<=64/\∀s∈EO l,s.lot.length<=1000/\s.part.length<=100000/\CN s.part=0/\rk (CE s.part) 600:=by
 obtain⟨h1,h2,h3⟩:=jT h;obtain⟨g1,g2,g3,g4,g5⟩:=Wn h1;obtain⟨hx,hK⟩:=Uu hf g3 g2;refine⟨by unfold EO;rw[An,(JU _).length_eq];exact h2,λs hs=>?_⟩;unfold EO at hs;obtain⟨p,hp,rfl⟩:=List.mem_map.1 hs;have hc:=jc (h3 p hp);refine⟨hK.all p.1 (List.mem_map_of_mem ((JU _).mem_iff.1 hp)),?_,hc,Li hc⟩;exact jb hc
def FL (l:List AG)(left:Int):AG:=⟨(CC l 0).grain,Av l-left,EO (l.map (Da (CC l 0).grain))⟩
def IP (l:List AG)(left:Int):Nat:=if B4 l≠0 then B4 l else if left<1 then 3 else if Av l<left then 13 else if CJ l=false then 16 else if Hc l (CC l 0).grain≠0 then Hc l (CC l 0).grain
 else if Av l=left then 0 else HZ (B7 [FL l left])
def QX (l:List AG)(left:Int):AG:=if IP l left≠0 then⟨[],0,[]⟩else⟨(CC l 0).grain,left,EO (l.map (Da (CC l 0).grain))⟩
def QW (l:List AG)(left:Int):Bp:=if IP l left≠0 then[]else if Av l=left then[]else Ir (B7 [FL l left])
theorem M0 {H:Hp}{a a' b b' c:D}(h1:Fz H [] a a')(h2:Fz H [] b b'):Fz H [] (.tup [a,b,c]) (.tup [a',b',c]):=.tup rfl λi d d' h h'=>by
 match i with
 | 0=>cases h;cases h';exact h1
 | 1=>cases h;cases h';exact h2
 | 2=>cases h;cases h';exact .refl _
 |n+3=>cases h
theorem QI (H:Hp):Fz H [] (.agg [str ⟨#[]⟩,i64 0,CK]) (⟨[],0,[]⟩:AG).D:=.agg rfl λi d d' h h'=>by
 match i with
 | 0=>cases h;cases h';exact .refl _
 | 1=>cases h;cases h';exact .refl _
 | 2=>cases h;cases h';exact .nil 2
 |n+3=>cases h
theorem kP (b:Bool)(l:List AG)(left:Int)(hl:l.length<=1000000)(hf:∀x∈l,x.lite):AK C0 12 [Ax b l,i64 left] (.tup [(QX l left).D,.sl false 2 ((QW l left).map CX),i64 (IP l left:Nat)]):=by
 refine Ai.walk w1 Zg rfl λF=>?_
 have cP:=MC b l (by omega) λx hx=>(hf x hx).1
 have hE:IP l left=if B4 l≠0 then B4 l else if left<1 then 3 else if Av l<left then 13 else if CJ l=false then 16 else if Hc l (CC l 0).grain≠0 then Hc l (CC l 0).grain
  else if Av l=left then 0 else HZ (B7 [FL l left]):=rfl
 have hX:QX l left=if IP l left≠0 then⟨[],0,[]⟩else⟨(CC l 0).grain,left,EO (l.map (Da (CC l 0).grain))⟩:=rfl
 have hL:QW l left=if IP l left≠0 then[]else if Av l=left then[]else Ir (B7 [FL l left]):=rfl
 have cW1:=Hb (decide (left<1)) 3;obtain⟨E0,hE0⟩:∃e:Nat,(if B4 l≠0 then B4 l else if left<1 then 3 else 0)=e:=⟨_,rfl⟩
 have cF0:AK C0 54 [.sl true 1 [i64 (B4 l:Nat),i64 (if decide (left<1)then 3 else 0)]] (i64 (E0:Nat)):=by
  have:=NK [(B4 l:Int),if decide (left<1)then 3 else 0] (by simp)
  have he:E4 [(B4 l:Int),if decide (left<1)then 3 else 0]=((E0:Nat):Int):=by
   rw[<-hE0]
   by_cases h1:B4 l=0<;>by_cases h2:left<1<;>simp[E4,h1,h2]
  rw[he]at this;exact this
 rcases Nat.decEq E0 0 with g0|g0
 ·have e1:=Fr g0
  have hE2:IP l left=E0:=by
   rw[hE,<-hE0];split
   ·rfl
   ·rename_i h1
    rw[<-hE0,AE h1]at g0;split
    ·rfl
    ·rename_i h2;exact Ae (AE h2) g0
  rw[hE2]at hX hL⊢;rw[AF g0]at hX hL;rw[hX,hL];refine AR Am e1 cP cW1 cF0 AB AB AB ?_;exact⟨_,M0 (QI _) (.nil 2),AA.out,rfl⟩
 have e1:=Fs g0;have hp0:B4 l=0:=by
  apply DG;intro h;rw[AF h]at hE0;omega
 have hl1:¬left<1:=λh=>by
  rw[AE (λq=>q hp0),AF h]at hE0;omega
 rw[AE (λh=>h hp0),AE hl1]at hE;obtain⟨p1,p2,p3⟩:=P3 hp0;have hsm:Gz l:=⟨by omega,λx hx=>by have:=M1 (p2 x hx);omega⟩
 have cT:=Xw b l hsm;have cG:=VQ b l hl;have cW2:=Hb (decide (Av l<left)) 13;obtain⟨E1,hE1⟩:∃e:Nat,(if Av l<left then 13 else if CJ l=false then 16 else 0)=e:=⟨_,rfl⟩
 have cF1:AK C0 54 [.sl true 1 [i64 (if decide (Av l<left)then 13 else 0),i64 (if CJ l then 0 else 16:Nat)]] (i64 (E1:Nat)):=by
  have:=NK [if decide (Av l<left)then 13 else 0,((if CJ l then 0 else 16:Nat):Int)] (by simp)
  have he:E4 [if decide (Av l<left)then 13 else 0,((if CJ l then 0 else 16:Nat):Int)]=((E1:Nat):Int):=by
   rw[<-hE1]
   by_cases h1:Av l<left<;>cases CJ l<;>simp[E4,h1]
  rw[he]at this;exact this
 rcases Nat.decEq E1 0 with g1|g1
 ·have e2:=Fr g1
  have hE2:IP l left=E1:=by
   rw[hE,<-hE1];split
   ·rfl
   ·rename_i h1
    rw[<-hE1,AE h1]at g1;split
    ·rfl
    ·rename_i h2;exact Ae (AE h2) g1
  rw[hE2]at hX hL⊢;rw[AF g1]at hX hL;rw[hX,hL];refine AR Am e1 cP cW1 cF0 AB AB AB ?_;refine AR Am e2 cT cW2 cG cF1 AB AB ?_;exact⟨_,M0 (QI _) (.nil 2),AA.out,rfl⟩
 have e2:=Fs g1;have hs1:¬Av l<left:=λh=>by
  rw[AF h]at hE1;omega
 have hs2:¬CJ l=false:=λh=>by
  rw[AE hs1,AF h]at hE1;omega
 rw[AE hs1,AE hs2]at hE;have hl0:0<l.length:=by
  rcases l with _|⟨y,l⟩
  ·exfalso;apply hs1
   show(0:Int)<left;omega
  ·simp
 obtain⟨x0,hx0⟩:∃x,l[0]?=some x:=⟨_,BD hl0⟩
 have hm0:(l.map AG.D)[0]?=some (.agg [str (sb x0.grain),i64 x0.mass,.sl false 2 (x0.shs.map BE.D)]):=by rw[BK,hx0];rfl
 have hgr:(CC l 0).grain=x0.grain:=by rw[E5 hx0]
 have hg9:=(hf x0 (A8 hx0)).1.1;have cPo:=Zy b l x0.grain hl hf hg9;rw[hgr]at hE hX;have hlt:FL l left=⟨x0.grain,Av l-left,EO (l.map (Da x0.grain))⟩:=by unfold FL;rw[hgr]
 rw[hlt]at hE hL;obtain⟨PN,hPN⟩:∃n,Hc l x0.grain=n:=⟨_,rfl⟩
 rw[hPN]at hE cPo;rcases Nat.decEq PN 0 with g2|g2
 ·have e3:=Fr g2
  rw[AF g2]at hE;rw[hE]at hX hL⊢;rw[AF g2]at hX hL;rw[hX,hL];obtain⟨Z,hZ⟩:∃Z,Kk l x0.grain=Z:=⟨_,rfl⟩
  rw[hZ]at cPo;unfold AG.D Dg at cPo;obtain⟨ZS,hZS⟩:∃d,List.map BE.D Z.shs=d:=⟨_,rfl⟩
  have pZS:AA (.sl false 2 ZS):=by rw[<-hZS];exact AH
  rw[hZS]at cPo;refine AR Am e1 cP cW1 cF0 AB AB AB ?_;refine AR Am e2 cT cW2 cG cF1 AB AB ?_;refine AR Am e3 hm0 cPo AB AB AB AB ?_;exact⟨_,M0 (QI _) (.nil 2),AA.out,rfl⟩
 have e3:=Fs g2;rw[AE (λh=>h g2)]at hE;have hpe:GZ l x0.grain=0:=by
  apply DG;intro h
  have:Hc l x0.grain=GZ l x0.grain:=AF h
  omega
 have hmn:GB (l.map (Da x0.grain))=0:=by
  have:Hc l x0.grain=GB (l.map (Da x0.grain)):=AE (λh=>h hpe)
  omega
 have hpl:Kk l x0.grain=⟨x0.grain,Av l,EO (l.map (Da x0.grain))⟩:=by
  unfold Kk;rw[AE (λh=>h hpe),Wo hmn]
  congr 1
  ·rw[E5 (l:=l.map (Da x0.grain)) (x:=Da x0.grain x0) (by rw[BK,hx0];rfl)];rfl
  ·unfold Av;rw[List.map_map];rfl
 obtain⟨m1,m2⟩:=jU (iK hg9 hf) hmn;rw[hpl]at cPo;clear hpl hmn hpe hPN hlt;obtain⟨S,hS⟩:∃S,EO (l.map (Da x0.grain))=S:=⟨_,rfl⟩
 rw[hS]at cPo hE hX hL m1 m2;have ws:IntKind.i64.wrap (Av l-left)=Av l-left:=wI (by omega) (by omega);unfold AG.D at cPo;dsimp only at cPo;unfold Dg at cPo;obtain⟨SD,hSD⟩:∃d,List.map BE.D S=d:=⟨_,rfl⟩
 have pSD:AA (.sl false 2 SD):=by rw[<-hSD];exact AH
 rw[hSD]at cPo
 by_cases hz:Av l=left
 ·have e4:((Av l-left)==0)=true:=by rw[Dt];omega
  rw[AF hz]at hE;rw[hE]at hX hL⊢;rw[AE (λh=>h rfl)]at hX hL;rw[AF hz]at hL;rw[hX,hL];unfold AG.D;dsimp only;unfold Dg;rw[hSD];refine AR Am e1 cP cW1 cF0 AB AB AB ?_;refine AR Am e2 cT cW2 cG cF1 AB AB ?_;refine AR Am (Ar e3 ws e4) hm0 cPo AB AB AB AB ?_;exact⟨_,M0 (.refl _) (.nil 2),AA.out,rfl⟩
 have e4:((Av l-left)==0)=false:=by rw[Bv];omega
 rw[AE hz]at hE hL;have cO:=ZH ⟨x0.grain,left,S⟩ (Av l-left) (by dsimp only;omega);obtain⟨Y,hY⟩:∃Y:AG,(⟨x0.grain,Av l-left,S⟩:AG)=Y:=⟨_,rfl⟩
 rw[hY]at cO hE hL;have hYo:∀x∈[Y],x.okW 602:=λx hx=>by
  rw[List.mem_singleton]at hx;rw[hx,<-hY];exact⟨m1,by unfold Sm;dsimp only;omega,λs hs=>⟨by have:=(m2 s hs).1;omega,(m2 s hs).2.1,(m2 s hs).2.2.1,(m2 s hs).2.2.2⟩⟩
 have cLo:=ZI 602 true [Y] (by simp) hYo (by omega) (by simp);have hKY:GW (λk=>k.length<=1000) (64*[Y].length) (B7 [Y]):=RH λx hx=>by
  rw[List.mem_singleton]at hx;rw[hx,<-hY];exact⟨m1,λs hs=>(m2 s hs).1⟩
 change Ai C0 62 [.sl true 3 [.agg [str (sb Y.grain),i64 Y.mass,.sl false 2 (Y.shs.map BE.D)]]] _ at cLo;change AK C0 63 [.agg [str (sb x0.grain),i64 left,.sl false 2 (S.map BE.D)],i64 (Av l-left)] (.agg [str (sb Y.grain),i64 Y.mass,.sl false 2 (Y.shs.map BE.D)])at cO;obtain⟨YS,hYS⟩:∃d,Y.shs.map BE.D=d:=⟨_,rfl⟩
 have pYS:AA (.sl false 2 YS):=by rw[<-hYS];exact AH
 rw[hSD,hYS]at cO;rw[hYS]at cLo;obtain⟨q,hq⟩:∃q,B7 [Y]=q:=⟨_,rfl⟩
 rw[hq]at cLo hKY hE hL;refine AR Am e1 cP cW1 cF0 AB AB AB ?_;refine AR Am e2 cT cW2 cG cF1 AB AB ?_;refine AR Am (Ar e3 ws e4) hm0 cPo cO AB AB AB ?_;refine A7.prop _ _ (EF.refl _) cLo AH ?_;rintro d ⟨m,rfl,hQ⟩;have cA:=V4 _ (by simp) q m hQ (BP hKY.len (by simp)) hKY.nd;have pM:AA (mapD m):=⟨hQ.mapD⟩
 unfold Iq at cA;obtain⟨M,hM⟩:∃M,mapD m=M:=⟨_,rfl⟩
 rw[hM]at cA pM⊢;rcases Nat.decEq (HZ q) 0 with g4|g4
 ·have e5:=Fr g4
  rw[hE]at hX hL⊢;rw[AF g4]at hX hL;rw[hX,hL];refine AR Am e5 cA AB AB AB AB AB ?_;exact⟨_,M0 (QI _) (.nil 2),AA.out,rfl⟩
 have e5:=Fs g4;rw[hE]at hX hL⊢;rw[AE (λh=>h g4)]at hX hL;rw[hX,hL];unfold AG.D;dsimp only;unfold Dg;rw[hSD];refine AR Am e5 cA AB AB AB AB AB ?_;exact⟨_,.refl _,AA.out,by rw[g4];rfl⟩
abbrev PO:Dr:=[(4,[0,1,2,3,4,5,6,7,8],[9])]
open Go.Proofs Go.RowKit Go.Sort
set_option maxRecDepth 20000
set_option maxHeartbeats 4000000
def AG.modr (x:AG):Prop:=(x.shs.length<=15\/64<x.shs.length)/\x.lite
theorem fV (l:List UInt8):BM (sb l) (sb l)=true:=by rw[Eb];exact AZ rfl
def DC (l:List AG):Int:=l.foldl (λa x=>IntKind.i64.wrap (a+x.mass)) 0
theorem Rk {l:List AG}{i:Nat}{x:AG}(h:l[i]?=some x):DC (l.take (i+1))=IntKind.i64.wrap (DC (l.take i)+x.mass):=by
 unfold DC;rw[D7,h];simp
theorem LS {l:List AG}(hs:Gz l):DC l=Av l:=by
 obtain⟨hl,hm⟩:=hs
 have:∀i,i<=l.length->DC (l.take i)=Av (l.take i):=λi=>by
  induction i with
  |zero=>exact λ_=>rfl
  |succ i ih=>
   intro hi;obtain⟨x,hx⟩:=Cg (show i<l.length by omega);have hb:=R8 (l:=l.take i) λy hy=>hm y (Hx hy)
   have hxm:=hm x (A8 hx);rw[Bg,Ei (by omega)]at hb;rw[Rk hx,ih (by omega),Rh hx,wI (by omega) (by omega)]
 have:=this l.length (Af _)
 rwa [Dk]at this
theorem qN (b:Bool)(l:List AG)(hl:l.length<=9223372036854775807):AK C0 19 [Ax b l] (i64 (DC l)):=by
 refine Ai.walk w1 r7 rfl λF=>?_
 have el:(((l.map AG.D).length:Nat):Int)=(l.length:Int):=by rw[An]
 refine AR Am el AB AB AB AB AB AB ?_;refine AC.loop (α:=Nat×Nat) (λp=>⟨[(0,Ax b l),(3,i64 (DC (l.take p.1))),(4,i64 (p.1:Int))],[],p.2⟩) (λp=>l.length-p.1) (λp=>p.1<=l.length) (0,_) (BZ _) AL ?_;rintro⟨i,m⟩ F hi;dsimp only at hi⊢;rcases BL i l.length with h2|h2
 rotate_left
 ·have e1:=Cw h2
  have:i=l.length:=by omega
  subst this;rw[Dk];refine AR Am (Ah e1 el) AB AB AB AB AB AB ?_;exact AN rfl AA.out
 have e1:=Cx h2;have wi:=Cy (i:=i) (by omega);obtain⟨x,hx⟩:=Cg h2;have hm:(l.map AG.D)[i]?=some (.agg [str (sb x.grain),i64 x.mass,.sl false 2 (x.shs.map BE.D)]):=by rw[BK,hx];rfl
 have ws:=(Rk hx).symm;refine AR Am (CH e1 el wi ws kN) hm AB AB AB AB AB ?_;exact⟨(i+1,_),h2,by dsimp only;omega,AL⟩
theorem aD (b:Bool)(l:List AG)(hs:Gz l):AK C0 19 [Ax b l] (i64 (Av l)):=by
 have h:=qN b l (by have:=hs.1;omega)
 rwa [LS hs]at h
theorem kh (b:Bool)(l:List AG)(hl:l.length<=1000000):AK C0 20 [Ax b l] (Aq (CJ l)):=by
 refine Ai.walk w1 r8 rfl λF=>?_
 have el:(((l.map AG.D).length:Nat):Int)=(l.length:Int):=by rw[An]
 refine AR PO el AB AB AB AB AB AB ?_;refine AC.loop (α:=Nat×Nat) (λp=>⟨[(0,Ax b l),(3,i64 (p.1:Int))],[],p.2⟩) (λp=>l.length-p.1)
  (λp=>1<=p.1/\(p.1<=l.length\/p.1=1)/\∀x∈l.take p.1,BM (sb x.grain) (sb (CC l 0).grain)=true) (1,_) ⟨Af _,.inr rfl,λx h=>by
   rcases l with _|⟨y,l⟩
   ·simp at h
   ·have:x=y:=by simpa using h
    rw[this];exact fV _⟩ AL ?_
 rintro⟨i,m⟩ F ⟨hi1,hi,hs⟩;dsimp only at hi1 hi hs⊢;rcases BL i l.length with h2|h2
 rotate_left
 ·have e1:=Cw h2
  have hg:CJ l=true:=by
   unfold CJ;rw[CI];intro x hx;rw[B5 h2]at hs;exact hs x hx
  rw[hg];refine AR PO (Ah e1 el) AB AB AB AB AB AB ?_;exact AN rfl AA.out
 have e1:=Cx h2;have wi:=Cy (i:=i) (by omega);obtain⟨x,hx⟩:=Cg h2;have hm:(l.map AG.D)[i]?=some (.agg [str (sb x.grain),i64 x.mass,.sl false 2 (x.shs.map BE.D)]):=by rw[BK,hx];rfl
 obtain⟨x0,hx0⟩:∃x,l[0]?=some x:=⟨_,BD (by omega)⟩
 have hm0:(l.map AG.D)[0]?=some (.agg [str (sb x0.grain),i64 x0.mass,.sl false 2 (x0.shs.map BE.D)]):=by rw[BK,hx0];rfl
 have hv0:=E5 hx0;obtain⟨bG,hbG⟩:∃q,BM (sb x.grain) (sb x0.grain)=q:=⟨_,rfl⟩
 cases bG
 ·have hg:CJ l=false:=by
   unfold CJ;rw[List.all_eq_false];exact⟨x,A8 hx,by rw[hv0,hbG];decide⟩
  rw[hg];refine AR PO (Ba e1 el hbG kN) hm hm0 AB AB AB AB ?_;exact AN rfl AA.out
 ·refine AR PO (CH e1 el hbG wi kN) hm hm0 AB AB AB AB ?_
  exact⟨(i+1,_),⟨by dsimp only;omega,.inl h2,λy hy=>by
   dsimp only at hy;rw[D7,hx]at hy;rcases List.mem_append.1 hy with q|q
   ·exact hs y q
   ·have:y=x:=by simpa using q
    rw[this,hv0];exact hbG⟩,by dsimp only;omega,AL⟩
theorem sy (b:Bool)(l:List AG)(hl:l.length<=1000000)(hf:∀x∈l,x.modr):AK C0 14 [Ax b l] (i64 (B4 l:Nat)):=by
 refine Ai.walk w1 r5 rfl λF=>?_
 have el:(((l.map AG.D).length:Nat):Int)=(l.length:Int):=by rw[An]
 have hC:B4 l=if 64<l.length then 5 else if DT (λi=>CU (CC l i)) l.length≠0 then DT (λi=>CU (CC l i)) l.length else if Av l>999999999 then 4 else 0:=rfl
 by_cases h64:64<l.length
 ·rw[AF h64]at hC
  rw[hC];have q2:decide ((l.length:Int)>64)=true:=AZ (by omega);refine AR Am (Ah el q2) AB AB AB AB AB AB ?_;exact AN rfl AA.out
 rw[AE h64]at hC;have q2:decide ((l.length:Int)>64)=false:=Ad (by omega);refine AR Am (Ah el q2) AB AB AB AB AB AB ?_;refine AC.loop (α:=Nat×Nat) (λp=>⟨[(0,Ax b l),(3,i64 (p.1:Int))],[],p.2⟩) (λp=>l.length-p.1) (λp=>p.1<=l.length/\∀j,j<p.1->CU (CC l j)=0) (0,_) ⟨BZ _,λj h=>Ae h (Ht j)⟩ AL ?_;rintro⟨i,m⟩ F ⟨hi,hz⟩;dsimp only at hi hz⊢;rcases BL i l.length with h2|h2
 rotate_left
 ·have e1:=Cw h2
  have:i=l.length:=by omega
  subst this;rw[AE (λh=>h (LK (f:=λi=>CU (CC l i)) hz))]at hC;have cT:=aD b l (RS h64 hz)
  by_cases h9:Av l>999999999
  ·have e9:decide (Av l>999999999)=true:=AZ h9
   rw[AF h9]at hC;rw[hC];refine AR Am (Ar e1 el e9) cT AB AB AB AB AB ?_;exact AN rfl AA.out
  ·have e9:decide (Av l>999999999)=false:=Ad h9
   rw[AE h9]at hC;rw[hC];refine AR Am (Ar e1 el e9) cT AB AB AB AB AB ?_;exact AN rfl AA.out
 have e1:=Cx h2;have wi:=Cy (i:=i) (by omega);obtain⟨x,hx⟩:=Cg h2;have hm:(l.map AG.D)[i]?=some (.agg [str (sb x.grain),i64 x.mass,.sl false 2 (x.shs.map BE.D)]):=by rw[BK,hx];rfl
 have hxm:=hf x (A8 hx);have cL:=sf x hxm.1 hxm.2.1;unfold AG.D at cL;rcases Nat.decEq (CU x) 0 with hc0|hc0
 ·have e3:=Fr hc0
  have:=M9 (f:=λi=>CU (CC l i)) hz h2 (by rw[E5 hx];exact hc0)
  rw[E5 hx]at this;rw[this,AF hc0]at hC;rw[hC];refine AR Am (Ba e1 el e3 kN) hm cL AB AB AB AB ?_;exact AN rfl AA.out
 have e3:=Fs hc0;refine AR Am (CH e1 el e3 wi kN) hm cL AB AB AB AB ?_;exact⟨(i+1,_),⟨h2,λj hj=>by
  rcases Nat.lt_succ_iff_lt_or_eq.1 hj with q|q
  ·exact hz j q
  ·rw[q,E5 hx];exact hc0⟩,by dsimp only;omega,AL⟩
def GY (x:AG):Bp:=x.shs.map λs=>(s.lot,CE s.part*(x.mass:Rat))
theorem Va {x:AG}(hn:(x.shs.map (·.lot)).Nodup):∀j,j<=x.shs.length->Fk x j []=(GY x).take j
 | 0,_=>rfl
 |j+1,hj=>by
  obtain⟨s,hs⟩:∃s,x.shs[j]?=some s:=⟨_,BD hj⟩
  rw[Mn x j [] hs,Va hn j (by omega)];have hm:(GY x)[j]?=some (s.lot,CE s.part*(x.mass:Rat)):=by unfold GY;rw[BK,hs];rfl
  have hnot:s.lot∉CZ ((GY x).take j):=λh=>by
   obtain⟨z,hz,h2⟩:=List.mem_map.1 h;obtain⟨i,hi⟩:=List.mem_iff_getElem?.1 hz;have hij:i<j:=by
    have:=(List.getElem?_eq_some_iff.1 hi).1
    rw[Bg]at this;omega
   rw[EQ,AF hij]at hi;unfold GY at hi;rw[BK]at hi;obtain⟨t,ht,rfl⟩:=Option.map_eq_some_iff.1 hi;have e1:(x.shs.map (·.lot))[i]?=some t.lot:=by rw[BK,ht];rfl
   have e2:(x.shs.map (·.lot))[j]?=some s.lot:=by rw[BK,hs];rfl
   have a1:=List.getElem?_eq_some_iff.1 e1;have a2:=List.getElem?_eq_some_iff.1 e2
   have:i=j:=(List.getElem_inj (h₀:=a1.1) (h₁:=a2.1) hn).1 (by rw[a1.2,a2.2];exact h2)
   omega
  have hl:FK s.lot ((GY x).take j)=none:=by
   cases h9:FK s.lot ((GY x).take j)with
   |none=>rfl
   |some o=>
    obtain⟨A,B,h3,-⟩:=Ow (v:=o) h9;exact Ae (by rw[h3];simp[CZ]) hnot
  unfold I1;rw[hl];dsimp only;rw[(RZ (v:=CE s.part*(x.mass:Rat)) hl).2,D7,hm];rfl
theorem fJ {x:AG}(hn:(x.shs.map (·.lot)).Nodup):B7 [x]=GY x:=by
 show Fk x x.shs.length []=_;rw[Va hn _ (Af _),B5];unfold GY;rw[An];exact Af _
theorem ju {q:Bp}(h:GO q):Eu q=q:=(Q9 h.nd (.refl _) (JU _) h.weak (Pe _)).symm
theorem jV (l:List AG):(EO l).Pairwise λa b=>ltStr a.lot b.lot=true:=by
 unfold EO;rw[List.pairwise_map,<-Vj];exact il l
theorem R0 (l:List AG)(left:Int):B7 [FL l left]=GY (FL l left)/\Eu (B7 [FL l left])=GY (FL l left):=by
 have hp:(FL l left).shs.Pairwise λa b=>ltStr a.lot b.lot=true:=jV _
 have h1:=fJ (x:=FL l left) (by
  rw[List.Nodup,List.pairwise_map];exact hp.imp λ{a b} h e=>by rw[e,swo_ltStr.irrefl]at h;cases h)
 refine⟨h1,?_⟩;rw[h1];refine ju ?_;unfold GY;show List.Pairwise _ _;rw[List.pairwise_map];exact hp
end Go.Ide
