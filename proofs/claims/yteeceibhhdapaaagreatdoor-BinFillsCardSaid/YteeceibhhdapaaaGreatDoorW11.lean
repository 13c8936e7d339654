/- The layer of own lemmas and contracts, part 11. -/
import Derived.Test.YteeceibhhdapaaaGreatDoorW9
import Derived.Test.YteeceibhhdapaaaGreatDoorW10
import Derived.Test.YteeceibhhdapaaaGreatDoorW3
import Derived.Test.YteeceibhhdapaaaGreatDoorW7
import Derived.Shelf.RegionOpenPlain
import Derived.Lib.Builder
import Derived.Lib.UnsafeStr
import Derived.Lib.Strings
import Derived.Lib.Slices
import Derived.Lib.Walk
import Derived.Laws.Externs
import Derived.KernelRfl
import Derived.WalkKit
import Derived.Shelf.Strconv.Itoa3
import Derived.Lib.ItoaMem
import Derived.Lib.AppendIntMem
import Derived.BigCall
import Derived.BigGuard
import Derived.Test.YteeceibhhdapaaaGreatDoorW8
import Derived.Test.YteeceibhhdapaaaGreatDoorW4
import Derived.Shelf.SlSortCmp.WholeK
import Derived.Shelf.Lay
import Derived.Laws.Cover1
import Derived.Shelf.Small.Bits
import Derived.Ground.SlsfProg
import Derived.Ground.NamesProg
import Derived.Shelf.SlIter.Sorted
import Derived.Shelf.SortM.Plain
import Derived.Shelf.SortM.SortNone
import Derived.Ground.GgzProg
import Derived.Ground.SlgmProg
set_option linter.unusedVariables false
set_option linter.unusedSimpArgs false
namespace Go.Ide
open Go.Proofs Go.RowKit
set_option maxRecDepth 20000
set_option maxHeartbeats 4000000
theorem CX {i n:Nat}(h:i<n):decide ((i:Int)<(n:Int))=true:=AY (by omega)
theorem CW {i n:Nat}(h:n<=i):decide ((i:Int)<(n:Int))=false:=Ah (by omega)
theorem CY {i:Nat}(h:i<9223372036854775807):IntKind.i64.wrap ((i:Int)+1)=((i+1:Nat):Int):=wI (by omega) (by omega)
theorem CG {α:Type}{l:List α}{i:Nat}(h:i<l.length):∃x,l[i]?=some x:=⟨l[i],BI h⟩
instance  (l:List UInt8):AW (GC l).D:=by unfold GF.D;exact AJ
theorem GJ {a:Nat}(h:a≠0):(((a:Nat):Int) != 0)=true:=Ii (by omega)
theorem GK {a:Nat}(h:a=0):(((a:Nat):Int) != 0)=false:=by subst h;rfl
theorem wH {a:Nat}(h:a≠0):(((a:Nat):Int)==0)=false:=Bq.2 (by omega)
set_option maxHeartbeats 1000000
set_option maxRecDepth 100000
theorem vH {n:Nat}(h:1<=n):liesAt Tryz.prog Tryz.prog.depth 244 n 0 244 1=true:=by
 have hs:sameLayout Tryz.prog Tryz.prog.depth 244 244=true:=by kernel_rfl
 have hc:Tryz.prog.cellsOf 244=2:=by kernel_rfl
 obtain⟨d,hd⟩:∃d,Tryz.prog.depth=d+1:=⟨Tryz.prog.depth-1,by kernel_rfl⟩
 rw[hd]at hs⊢;unfold liesAt;rw[hd];unfold rowAt;simp[hc,hs,h]
theorem lY (b c:Nat)(hc:2<=c)(w:World)(h0:w.cell? ⟨b,0,none⟩=some (.pointer none))(hsh:w.shape? b=some (244,c))(hfz:w.frozen? ⟨b,0,none⟩=false):
  Calls Tryz.prog 262 #[.pointer (some ⟨b,0,none⟩)] w λe w'=>e=.returned (.tuple #[])/\w'=w.setCell ⟨b,0,none⟩ (.pointer (some ⟨b,0,none⟩)):=by
 obtain⟨j,hj,hjs⟩:=Option.map_eq_some_iff.1 (show(Tryz.prog.info? 244).map (·.size)=some 2 by kernel_rfl);have hl:liesAt Tryz.prog Tryz.prog.depth 244 (c/Tryz.prog.cellsOf 244) 0 244 1=true:=vH (by rw[show Tryz.prog.cellsOf 244=2 by kernel_rfl];omega)
 go_enter Tryz.func262,Tryz.ntmps262
 go_wp2
 rw[Lib.run_to_unsafe w ⟨b,0,none⟩ (t:=244) (by kernel_rfl) (by kernel_rfl) hj (by rw[hjs];decide) hsh (by show 0<c;omega)];simp only[Result.andThen];rw[Oper.upon_value]
 go_wp2
 rw[run_callFunc_extern Tryz.func293 (by kernel_rfl) (by kernel_rfl) (by kernel_rfl) (e:=Extern.AbiNoEscape.same) (by kernel_rfl)];rw[Lib.run_noEscape];simp only[Result.andThen];rw[Oper.upon_value]
 go_wp2
 rw[Lib.run_from_unsafe w ⟨b,0,none⟩ (u:=244) (by kernel_rfl) (by kernel_rfl) hj hsh hl];simp only[Result.andThen];rw[Oper.upon_value]
 go_wp2
 go_end0
 exact⟨rfl,rfl⟩
theorem oC (b:Nat)(w:World)(h0:w.cell? ⟨b,0,none⟩=some (.pointer (some ⟨b,0,none⟩))):
  Calls Tryz.prog 262 #[.pointer (some ⟨b,0,none⟩)] w λe w'=>e=.returned (.tuple #[])/\w'=w:=by
 obtain⟨j,hj,hjs⟩:=Option.map_eq_some_iff.1 (show(Tryz.prog.info? 244).map (·.size)=some 2 by kernel_rfl)
 go_enter Tryz.func262,Tryz.ntmps262
 go_wp2
 rw[Lib.run_neq_ptr_same w _ (te:=244) (by kernel_rfl) hj]
 go_wp2
 go_end0
 exact⟨rfl,rfl⟩
theorem wG (b g:Nat)(cur cs:Array Value)(l:List UInt8)(h0:l≠[])(w:World)(hb:w.heap[b]?=some (.cells cs 244 (0,0)))(hb1:cs[1]?=some (.slice (some ⟨g,0,none⟩) l.length cur.size))
  (hg:w.heap[g]?=some (.cells cur 5 (0,0))) (hl:l.length<=cur.size) (hcap:cur.size<=maxLen) (hcell:∀(j:Nat) (x:UInt8),l[j]?=some x->cur[j]?=some (.int .u8 x.toNat)):
  Calls Tryz.prog 213 #[.pointer (some ⟨b,0,none⟩)] w λe w'=>e=.returned (.string ⟨l.toArray⟩)/\w'=(w.drew.freeze ⟨g,0,none⟩ l.length):=by
 have c1:w.drew.cell? ⟨b,1,none⟩=some (.slice (some ⟨g,0,none⟩) l.length cur.size):=by
  have:w.drew.heap[b]?=some (.cells cs 244 (0,0)):=hb
  rw[Lib.cell_of_heap this];exact hb1
 have h0':l.length≠0:=by simpa using h0
 have hSD:(Builtin.unsafeSliceData_ #[242] 279 #[.slice (some ⟨g,0,none⟩) l.length cur.size]).run Tryz.prog w.drew=.ok (.pointer (some ⟨g,0,none⟩)) w.drew:=
  Lib.run_unsafeSliceData_row _ _ _ _ _ _ (by omega)
 have hUS:(Builtin.unsafeString_ #[279,3] 9 #[.pointer (some ⟨g,0,none⟩),.int .i64 l.length]).run Tryz.prog w.drew=.ok (.string ⟨l.toArray⟩) (w.drew.freeze ⟨g,0,none⟩ l.length):=by
  refine Lib.run_unsafeString_row w.drew 279 3 9 5 (by kernel_rfl) (by kernel_rfl) g cur.size (by have hg':w.drew.heap[g]?=some (.cells cur 5 (0,0)):=hg;simp[World.shape?,hg']) l h0 (by omega) (by unfold maxLen at hcap;omega) ?_;intro j x hx;have hg':w.drew.heap[g]?=some (.cells cur 5 (0,0)):=hg
  have:=hcell j x hx
  rw[Addr.add_lit];simp[World.cell?,hg',this]
 have mixed:Tryz.prog.follows .mixedOrders=true:=by kernel_rfl
 go_enter Tryz.func213,Tryz.ntmps213
 go_wp2
 go_region_o
 all_goals(go_wp2;go_ret;exact⟨rfl,rfl⟩)
def Fl (l:List UInt8):List D:=l.map λb=>.prim (.int .u8 (b.toNat:Int))
abbrev FX (g:Nat)(p x:D):Au:=⟨1500,g,244,2,[.agg [p,x]]⟩
theorem cQ {vs:Array Value}(h:vs.size=1):vs = #[vs.getD 0 undef]:=by
 match vs,h with
 |⟨[u]⟩,_=>rfl
theorem cU (g n:Nat)(x p:D)(H1 H2:Hp)(hp:p=.prim (.pointer none)\/p=.optr 1500 g 2 0 0):
  CO C0 262 [.optr 1500 g 2 0 0] (H1++FX g p x::H2) n (λd H' n'=>d=.prim (.tuple #[])/\H'=H1++FX g (.optr 1500 g 2 0 0) x::H2/\n'=n):=by
 refine⟨⟨_,_,Tryz.func262,rfl,by kernel_rfl⟩,λF ρ w vs m fr hgn hvs hr=>?_⟩;have h0:=hr 0 _ rfl;rw[cQ hvs];generalize hv:vs.getD 0 undef=v at h0;cases h0 with
 |optr hρ=>
  rename_i b;have he:FX g p x∈H1++FX g p x::H2:=by simp
  obtain⟨cs,hc,q⟩:=m.at he hρ;have hlen:2<=cs.size:=q.len;have hr0:AU ρ (AM F.X ρ (H1++FX g p x::H2)) w p (cs.getD 0 undef):=q.rep 0 _ 0 p rfl rfl;have hr1:AU ρ (AM F.X ρ (H1++FX g p x::H2)) w x (cs.getD 1 undef):=q.rep 0 _ 1 x rfl rfl;have hcell:w.cell? ⟨b,0,none⟩=some (cs.getD 0 undef):=by
   simp[World.cell?,hc,Array.getD,show 0<cs.size by omega]
  rcases hp with rfl|rfl
  ·cases hr0':cs.getD 0 undef with
   |pointer a=>
    rw[hr0']at hr0 hcell;cases hr0;refine(lY b cs.size hlen w hcell (by simp[World.shape?,hc]) (by simp[World.frozen?,hc])).mono ?_;rintro e w' ⟨rfl,rfl⟩;have hset:w.setCell ⟨b,0,none⟩ (.pointer (some ⟨b,0,none⟩))=World.setBlk w b (cs.setIfInBounds 0 (.pointer (some ⟨b,0,none⟩))) 244:=by
     rw[setCell_eq_setRow w b 0 cs 244 (0,0) _ hc];exact SL hc
    have hop:AU ρ (AM F.X ρ (H1++FX g (.prim (.pointer none)) x::H2)) w (.optr 1500 g 2 0 0) (.pointer (some ⟨b,0*2+0,none⟩)):=.optr hρ;have ho:DB ρ (AM F.X ρ (H1++FX g (.prim (.pointer none)) x::H2)) w (FX g (.optr 1500 g 2 0 0) x) (cs.setIfInBounds 0 (.pointer (some ⟨b,0,none⟩))):=by
     refine⟨by rw[Uy];exact q.len,λi d hd=>?_,λi v hv=>?_,λi d j c hd hj=>?_⟩
     ·rcases i with _|i
      ·cases hd;rfl
      ·simp at hd
     ·rw[Hl]at hv
      split at hv
      ·split at hv
       ·cases hv;rfl
       ·cases hv
      ·exact q.one i v hv
     ·rcases i with _|i
      ·cases hd
       rcases j with _|_|j
       ·cases hj
        have:(cs.setIfInBounds 0 (.pointer (some ⟨b,0,none⟩))).getD (0*2+0) undef=.pointer (some ⟨b,0*2+0,none⟩):=by
         simp[Ax,show 0<cs.size by omega]
        rw[this];exact hop
       ·cases hj
        have:(cs.setIfInBounds 0 (.pointer (some ⟨b,0,none⟩))).getD (0*2+1) undef=cs.getD 1 undef:=by
         simp[Ax]
        rw[this];exact hr1
       ·simp[D.cells]at hj
      ·simp at hd
    obtain⟨m1,x1⟩:=m.write (e':=FX g (.optr 1500 g 2 0 0) x) hρ hc rfl rfl rfl (Uy ..) ho;rw[hset];exact⟨_,_,_,n,ρ,rfl,⟨rfl,rfl,rfl⟩,m1,x1,fr,λe' he'=>by
     rcases List.mem_append.1 he' with h|h
     ·exact hgn e' (by simp[h])
     ·rcases BA.1 h with rfl|h
      ·exact hgn (FX g (.prim (.pointer none)) x) he
      ·exact hgn e' (by simp[h]),.prim _⟩
   |_=>rw[hr0']at hr0;cases hr0
  ·cases hr0':cs.getD 0 undef with
   |pointer a=>
    rw[hr0']at hr0 hcell;cases hr0 with
    |optr hρ2=>
     rw[hρ]at hρ2;cases hρ2;refine(oC b w hcell).mono ?_;rintro e w' ⟨rfl,rfl⟩;exact⟨_,_,_,n,ρ,rfl,⟨rfl,rfl,rfl⟩,m,BQ.refl _ _ _,fr,hgn,.prim _⟩
   |_=>rw[hr0']at hr0;cases hr0
theorem eJ (w:World)(g n:Nat)(hn:n≠0)(cur:Array Value)(T:Nat)(hg:w.heap[g]?=some (.cells cur T (0,0))):
  (w.freeze ⟨g,0,none⟩ n).heap.size=w.heap.size/\(w.freeze ⟨g,0,none⟩ n).os=w.os/\(w.freeze ⟨g,0,none⟩ n).tape=w.tape/\(w.freeze ⟨g,0,none⟩ n).output=w.output /\
  (∀k,k≠g->(w.freeze ⟨g,0,none⟩ n).heap[k]?=w.heap[k]?)/\∃(cs':Array Value) (fz':Nat×Nat),(w.freeze ⟨g,0,none⟩ n).heap[g]?=some (.cells cs' T fz')/\cs'.size=cur.size:=by
 unfold World.freeze;rw[AG hn];refine⟨by simp,rfl,rfl,rfl,λk hk=>?_,?_⟩
 ·dsimp only
  rw[Array.getElem?_modify,AG (λh=>hk h.symm)]
 ·dsimp only
  rw[Array.getElem?_modify,AH rfl,hg];exact⟨cur,_,rfl,rfl⟩
theorem ut (g gb n:Nat)(l:List UInt8)(h0:l≠[])(p:D)(R:Hp):
  CO C0 213 [.optr 1500 g 2 0 0] (⟨206,gb,5,1,Fl l⟩::FX g p (.osl 206 gb 1 0 l.length)::R) n (λd H' n'=>d=str ⟨l.toArray⟩/\H'=FX g p (.osl 206 gb 1 0 l.length)::R/\n'=n):=by
 refine⟨⟨_,_,Tryz.func213,rfl,by kernel_rfl⟩,λF ρ w vs m fr hgn hvs hr=>?_⟩;have hz:=hr 0 _ rfl;have h0':l.length≠0:=by simpa using h0
 rw[cQ hvs];generalize hv:vs.getD 0 undef=v at hz;cases hz with
 |optr hρ=>
  rename_i b;obtain⟨cs,hc,q⟩:=m.at (e:=FX g p (.osl 206 gb 1 0 l.length)) (by simp) hρ;have hlen:2<=cs.size:=q.len;have hr1:AU ρ (AM F.X ρ (⟨206,gb,5,1,Fl l⟩::FX g p (.osl 206 gb 1 0 l.length)::R)) w (.osl 206 gb 1 0 l.length) (cs.getD 1 undef):=q.rep 0 _ 1 (.osl 206 gb 1 0 l.length) rfl rfl;generalize hs1:cs.getD 1 undef=sv at hr1;generalize hL:l.length=L at hr1;cases hr1 with
   |onil=>exact AZ hL h0'
   |osl hρ2 hb2 hc2 hs2 hm2=>
    rename_i cap gy T' cs2 fz2;obtain⟨cur,hcur,qy⟩:=m.at (e:=⟨206,gb,5,1,Fl l⟩) (by simp) hρ2;rw[hb2]at hcur;cases hcur;have hcap:cap=cs2.size:=by omega
    subst hcap;have hcell:∀(j:Nat) (x:UInt8),l[j]?=some x->cs2[j]?=some (.int .u8 x.toNat):=λj x hx=>by
     have hr:=qy.rep j (.prim (.int .u8 (x.toNat:Int))) 0 (.prim (.int .u8 (x.toNat:Int))) (by unfold Fl;rw[A7,hx];rfl) rfl;have hlt:j<cs2.size:=by
      have:=(List.getElem?_eq_some_iff.1 hx).1
      omega
     generalize hvv:cs2.getD (j*1+0) undef=vv at hr;cases hr;rw[Bc hlt]
     have:cs2.getD j undef=cs2[j]:=by simp[Array.getD,hlt]
     rw[EB,DY,this]at hvv;rw[hvv]
    have hb1:cs[1]?=some (.slice (some ⟨gy,0,none⟩) l.length cs2.size):=by
     have hlt:1<cs.size:=by omega
     rw[Bc hlt]
     have:cs.getD 1 undef=cs[1]:=by simp[Array.getD,hlt]
     rw[this]at hs1;rw[hs1,hL,Gm]
    refine(wG b gy cs2 cs l h0 w hc hb1 hb2 (by omega) (by omega) hcell).mono ?_;rintro e w' ⟨rfl,rfl⟩;have md:=m.drew;obtain⟨f1,f2,f3,f4,f5,cs',fz',f6,f7⟩:=eJ w.drew gy l.length h0' cs2 5 hb2;obtain⟨m1,x1⟩:=xS (H1:=[]) (H2:=FX g p (.osl 206 gb 1 0 l.length)::R) (w':=w.drew.freeze ⟨gy,0,none⟩ l.length) md hρ2 f1 f2 f3 f4 f5 (λc hcc=>by
     have hb2':w.drew.heap[gy]?=some (.cells cs2 5 (0,0)):=hb2;have hcc':w.drew.heap[gy]?=some (.cells c 5 (0,0)):=hcc;rw[hb2']at hcc';cases hcc';exact⟨cs',fz',f6,f7⟩)
    rw[hL];rw[hL]at m1 x1;exact⟨_,_,_,n,ρ,rfl,⟨rfl,rfl,rfl⟩,m1,(BQ.drew _ _ _).trans x1,fr,λe' he'=>hgn e' (by rw[hL];exact Cn _ he'),.prim _⟩
set_option maxRecDepth 20000
set_option maxHeartbeats 4000000
def bH (gb g:Nat)(p:D)(L:List UInt8)(R:Hp):Hp:=Dj 206 gb 5 1 (Fl L)++(FX g p (Dt 206 gb 1 (Fl L))::R)
theorem iJ (s:List UInt8):H9 (sb s)=Fl s:=rfl
theorem Nm (l:List UInt8):(Fl l).length=l.length:=Am ..
theorem iI (a b:List UInt8):Fl (a++b)=Fl a++Fl b:=Cv
theorem XC {l:List UInt8}(h:l≠[]):∃x r,Fl l=x::r:=by
 cases l with
 |nil=>exact AZ rfl h
 |cons a l=>exact⟨_,_,rfl⟩
theorem dE (g gb n:Nat)(p:D)(hp:p=.prim (.pointer none)\/p=.optr 1500 g 2 0 0)(L s:List UInt8)(hs:s≠[])(R:Hp)(hlen:L.length+s.length<=100000000):
  CO C0 212 [.optr 1500 g 2 0 0,str (sb s)] (bH gb g p L R) n (λd H' n'=>(∃g',H'=bH g' g (.optr 1500 g 2 0 0) (L++s) R)/\n<=n'):=by
 refine CO.walk w1 ZW rfl λF=>?_
 have hsz:=Ce s;have hb:=iJ s;obtain⟨x,r,hx⟩:=XC hs;have hr:s.length=r.length+1:=by rw[<-Nm,hx];rfl
 unfold bH;rw[iI];cases hL:Fl L with
 |nil=>
  dsimp only[Ig,Ie,List.nil_append];refine AI Af kB AB AB AB AB AB AB ?_;refine BF.own _ (cU g _ CK p [] R hp) ?_;rintro d H' n' ⟨rfl,rfl,rfl⟩;have hL0:L.length=0:=by rw[<-Nm,hL];rfl
  refine AI Af (Ac hsz hb) AB AB AB AB AB AB ?_;refine⟨?_,by omega⟩;apply Exists.intro;rw[hx,hr];rfl
 |cons y l=>
  dsimp only[HM,HN,List.cons_append,List.nil_append];have hL1:L.length=l.length+1:=by rw[<-Nm,hL];rfl
  have htk:List.take (l.length+1) (y::l)=y::l:=by simp
  refine AI Af kB AB AB AB AB AB AB ?_;refine BF.own _ (cU g _ (.osl 206 gb 1 0 (l.length+1)) p [⟨206,gb,5,1,y::l⟩] R hp) ?_;rintro d H' n' ⟨rfl,rfl,rfl⟩;refine AI Af (At hsz hb htk) AB AB AB AB AB AB ?_;refine⟨?_,by omega⟩;apply Exists.intro;have hap:y::l++Fl s=y::(l++Fl s):=rfl;have hl2:(l++Fl s).length+1=l.length+1+s.length:=by rw[Bk,Nm];omega
  rw[hl2]
open Go.Sort Go.Shelf
section
open Go.Lib
set_option maxHeartbeats 6400000 in
set_option maxRecDepth 100000 in
theorem wT (u:Nat) (hu64:u<18446744073709551616) (w:World) (htab:Lib.TabIs Tryz.prog w "internal/strconv.uint64pow10" .u64 Lib.pow10Tab):
  Calls Tryz.prog 258 #[.int .u64 u,.int .i64 10] w λe w'=>e=.returned (.string ⟨(Lib.decDigits u).toArray⟩)/\∃k os,w'=grow (w.drewN k) os:=by
 have e283:∀args w,(callFunc 287 args).run Tryz.prog w=.ok (.enter 287 args) w:=enters_of Tryz.func287 (by kernel_rfl) rfl;have e284:∀args w,(callFunc 288 args).run Tryz.prog w=.ok (.enter 288 args) w:=enters_of Tryz.func288 (by kernel_rfl) rfl;have e285:∀args w,(callFunc 289 args).run Tryz.prog w=.ok (.enter 289 args) w:=enters_of Tryz.func289 (by kernel_rfl) rfl
 by_cases hs:u<100
 ·go_enter Tryz.func258,Tryz.ntmps258
  go_wp2_with (go_at_fn 287;refine(Tryz.internal_strconv_small u hs _).mono ?_;rintro e w' ⟨rfl,rfl⟩)
  go_ret
  exact⟨rfl,0,#[],by simp[World.drewN_zero]⟩
 ·have hu1:1<=u:=by omega
  have hnd20:Lib.nDigits u<=20:=by have:=Lib.numDigits_eq u hu1 hu64;split at this<;>omega
  have hb3:Lib.nDigits u<=24:=by omega
  have hal:Tryz.prog.arrayLen 297=24:=by kernel_rfl
  have hsl1:∀W,(Instr.sliceAt 297 (.pointer (some ⟨w.heap.size,0,none⟩)) none (some (.int .i64 (Lib.nDigits u:Int))) none).run Tryz.prog W=.ok (.slice (some ⟨w.heap.size,0,none⟩) (Lib.nDigits u) 24) W:=λW=>by
   rw[run_sliceAt_array_h W 297 ⟨w.heap.size,0,none⟩ (by kernel_rfl) .i64 (Lib.nDigits u:Int) (by omega) (by rw[hal];omega)]
   go_simp
  have hH0:=Lib.holds_zero0 w 297 (Lib.nDigits u) (by omega);have hfmt:=Tryz.internal_strconv_formatBase10 w.heap.size 0 24 u (Array.replicate (Lib.nDigits u) 0) (w.alloc (.cells Lib.zeros24 297)) hH0 (by rw[Rb];exact Lib.lt_pow_nDigits u) hu64 (by rw[Rb];omega);rw[Rb]at hfmt;have HH0:=Lib.hid hH0;clear hH0 hal
  go_enter Tryz.func258,Tryz.ntmps258
  go_wp2_with (first
   |(go_at_fn 288;refine(Tryz.internal_strconv_numDigits u hu1 hu64 _ (Lib.tabIs_alloc htab _)).mono ?_;rintro e w' ⟨rfl,rfl⟩))
  go_at_fn 289
  refine hfmt.mono ?_;rintro e w' ⟨rfl,k,v',dk,rfl,hF⟩;have hcv:(convert 242 9 (.slice (some ⟨w.heap.size,0,none⟩) (Lib.nDigits u) 24)).run Tryz.prog ((putRow (λ(b:UInt8)=>Value.int .u8 (b.toNat:Int)) (w.alloc (.cells Lib.zeros24 297)) w.heap.size 0 dk).drewN k)=.ok (.string ⟨(Lib.decDigits u).toArray⟩) ((putRow (λ(b:UInt8)=>Value.int .u8 (b.toNat:Int)) (w.alloc (.cells Lib.zeros24 297)) w.heap.size 0 dk).drewN k):=by
   have h:=run_convert_bytes_back (P:=Tryz.prog) ((putRow (λ(b:UInt8)=>Value.int .u8 (b.toNat:Int)) (w.alloc (.cells Lib.zeros24 297)) w.heap.size 0 dk).drewN k) 242 9 5 ⟨w.heap.size,0,none⟩ 24 (Lib.decDigits u) (by kernel_rfl) (by kernel_rfl) (by kernel_rfl) (λj hj=>by
    rw[Lib.row_is_numeral hF j hj,Lib.add_plain,World.cell?_drewN];exact cell?_putRow (λ(b:UInt8)=>Value.int .u8 (b.toNat:Int)) _ w.heap.size 0 _ dk HH0.out (by rw[hF.size,Rb]) j (by rw[hF.size];rw[Lib.decDigits_length]at hj;exact hj))
   rw[Lib.decDigits_length]at h;exact h
  go_wp2
  go_ret
  obtain⟨os,eo⟩:=Lib.fin_at w (.cells Lib.zeros24 297) dk k 0;exact⟨rfl,k,os,eo⟩
end
theorem gj {O:Nat->Prop}{w:World}{v u:Value}{vs:Array Value}(hn:vs.size=2)(h:∀(i:Nat) (x:D),[D.prim v,.prim u][i]?=some x->AU nol O w x (vs.getD i undef)):vs = #[v,u]:=by
 match vs,hn with
 |⟨[a,b]⟩,_=>
  have h0:=h 0 _ rfl;have h1:=h 1 _ rfl;simp at h0 h1;cases h0;cases h1;rfl
theorem lx (u:Nat)(hu:u<18446744073709551616):AK C0 258 [.prim (.int .u64 (u:Int)),i64 10] (str ⟨(Lib.decDigits u).toArray⟩):=by
 refine⟨⟨_,_,Tryz.func258,rfl,by kernel_rfl⟩,λY w vs hG hnG hX hvs hr=>?_⟩
 have:=gj hvs hr
 subst this;refine(wT u hu w hG).mono ?_;rintro e w' ⟨rfl,k,os,rfl⟩;exact⟨_,_,rfl,Lib.below_grow _ _ (Ai _) _ _,rfl,.prim _⟩
theorem oQ (u:Nat)(hu:u<18446744073709551616):AK C0 210 [.prim (.int .u64 (u:Int)),i64 10] (str ⟨(Lib.decDigits u).toArray⟩):=by
 refine Ak.walk w1 ZV rfl λF=>?_
 refine AI Af kB (lx u hu) AB AB AB AB AB ?_;exact AN rfl AA.out
theorem xu:AK C0 211 [str ⟨#[48]⟩,i64 0] (str ⟨#[]⟩):=CE DV 400 20 (by kernel_rfl)
theorem xv:AK C0 211 [str ⟨#[48]⟩,i64 1] (str ⟨#[48]⟩):=CE DV 400 20 (by kernel_rfl)
theorem xw:AK C0 211 [str ⟨#[48]⟩,i64 2] (str ⟨#[48,48]⟩):=CE DV 400 20 (by kernel_rfl)
theorem xy:AK C0 211 [str ⟨#[48]⟩,i64 3] (str ⟨#[48,48,48]⟩):=CE DV 400 20 (by kernel_rfl)
theorem xz:AK C0 211 [str ⟨#[48]⟩,i64 4] (str ⟨#[48,48,48,48]⟩):=CE DV 400 20 (by kernel_rfl)
theorem yA:AK C0 211 [str ⟨#[48]⟩,i64 5] (str ⟨#[48,48,48,48,48]⟩):=CE DV 400 20 (by kernel_rfl)
theorem yB:AK C0 211 [str ⟨#[48]⟩,i64 6] (str ⟨#[48,48,48,48,48,48]⟩):=CE DV 400 20 (by kernel_rfl)
theorem yC:AK C0 211 [str ⟨#[48]⟩,i64 7] (str ⟨#[48,48,48,48,48,48,48]⟩):=CE DV 400 20 (by kernel_rfl)
theorem yE:AK C0 211 [str ⟨#[48]⟩,i64 8] (str ⟨#[48,48,48,48,48,48,48,48]⟩):=CE DV 400 20 (by kernel_rfl)
theorem yF:AK C0 211 [str ⟨#[48]⟩,i64 9] (str ⟨#[48,48,48,48,48,48,48,48,48]⟩):=CE DV 400 20 (by kernel_rfl)
theorem vq:AK C0 211 [str ⟨#[48]⟩,i64 10] (str ⟨#[48,48,48,48,48,48,48,48,48,48]⟩):=CE DV 400 20 (by kernel_rfl)
theorem vr:AK C0 211 [str ⟨#[48]⟩,i64 11] (str ⟨#[48,48,48,48,48,48,48,48,48,48,48]⟩):=CE DV 400 20 (by kernel_rfl)
theorem vt:AK C0 211 [str ⟨#[48]⟩,i64 12] (str ⟨#[48,48,48,48,48,48,48,48,48,48,48,48]⟩):=CE DV 400 20 (by kernel_rfl)
theorem vu:AK C0 211 [str ⟨#[48]⟩,i64 13] (str ⟨#[48,48,48,48,48,48,48,48,48,48,48,48,48]⟩):=CE DV 400 20 (by kernel_rfl)
theorem vw:AK C0 211 [str ⟨#[48]⟩,i64 14] (str ⟨#[48,48,48,48,48,48,48,48,48,48,48,48,48,48]⟩):=CE DV 400 20 (by kernel_rfl)
theorem vz:AK C0 211 [str ⟨#[48]⟩,i64 15] (str ⟨#[48,48,48,48,48,48,48,48,48,48,48,48,48,48,48]⟩):=CE DV 400 20 (by kernel_rfl)
theorem xI:AK C0 211 [str ⟨#[48]⟩,i64 16] (str ⟨#[48,48,48,48,48,48,48,48,48,48,48,48,48,48,48,48]⟩):=CE DV 400 20 (by kernel_rfl)
theorem xJ:AK C0 211 [str ⟨#[48]⟩,i64 17] (str ⟨#[48,48,48,48,48,48,48,48,48,48,48,48,48,48,48,48,48]⟩):=CE DV 400 20 (by kernel_rfl)
theorem nT (n:Nat)(h:n<=17):AK C0 211 [str ⟨#[48]⟩,i64 (n:Int)] (str ⟨(List.replicate n 48).toArray⟩):=by
 match n,h with
 | 0,_=>exact xu
 | 1,_=>exact xv
 | 2,_=>exact xw
 | 3,_=>exact xy
 | 4,_=>exact xz
 | 5,_=>exact yA
 | 6,_=>exact yB
 | 7,_=>exact yC
 | 8,_=>exact yE
 | 9,_=>exact yF
 | 10,_=>exact vq
 | 11,_=>exact vr
 | 12,_=>exact vt
 | 13,_=>exact vu
 | 14,_=>exact vw
 | 15,_=>exact vz
 | 16,_=>exact xI
 | 17,_=>exact xJ
 |n+18,h=>omega
theorem mg {H Hf r r':Hp}{K g T sz:Nat}{l:List D}(h:Cb H Hf r r'):Cb H Hf (Dj K g T sz l++r) r':=by
 cases l with
 |nil=>exact h
 |cons x l=>exact .drop h
set_option maxHeartbeats 8000000
def Fr (q r:Nat):List UInt8:=if q=0 then Lib.decDigits r else List.replicate (18-(Lib.decDigits r).length) 48++Lib.decDigits r
theorem XF:Lib.decDigits 0=[48]:=by unfold Lib.decDigits;rfl
theorem OG (n:Nat):Lib.decDigits n≠[]:=(EQ n).2.2
theorem kO (q r:Nat):Fr q r≠[]:=by
 unfold Fr;split
 ·exact OG r
 ·intro h;exact OG r (List.append_eq_nil_iff.1 h).2
theorem jJ {q r:Nat}(hq:q≠0):Fr q r=Eo 18 r []:=by
 unfold Fr Eo Lt;rw[AG hq]
 by_cases h:r=0
 ·subst h;rw[XF,AH rfl];rfl
 ·rw[AG h,DX]
theorem kW (B q r:Nat)(hB:B=10^18)(hr:r<B):Lib.decDigits (q*B+r)=if q=0 then Fr q r else Lib.decDigits q++Fr q r:=by
 by_cases hq:q=0
 ·subst hq;rw[AH rfl];unfold Fr;rw[AH rfl,Gm,BP]
 ·rw[AG hq,jJ hq,hB]
  exact TJ 18 q r hq (by rw[<-hB];exact hr)
def EE (P:List (List UInt8)):List UInt8:=P.reverse.flatten
theorem Vw (P:List (List UInt8))(p:List UInt8):EE (P++[p])=p++EE P:=by unfold EE;simp
theorem Ty (a b:List UInt8):sb a++sb b=sb (a++b):=by
 apply ByteArray.ext;simp[ByteArray.data_append]
theorem ij {P:List (List UInt8)}(h:∀p∈P,p≠[]):P.length<=(EE P).length:=by
 unfold EE;rw[List.length_flatten,<-List.length_reverse];generalize hQ:P.reverse=Q;have h':∀p∈Q,p≠[]:=λp hp=>h p (by rw[<-hQ]at hp;exact List.mem_reverse.1 hp)
 clear hQ h
 induction Q with
 |nil=>exact Ai _
 |cons a r ih=>
  have h1:=ih λp hp=>h' p (Cn _ hp)
  have h2:a.length≠0:=λq=>h' a Cg (ET q)
  rw[Cc,List.sum_cons,Bo];omega
structure Mc (n m:Nat)(P:List (List UInt8)):Prop where
 ne:m≠0->Lib.decDigits n=Lib.decDigits m++EE P
 eq:m=0->Lib.decDigits n=EE P
 all:∀p∈P,p≠[]
 le:m<=n
theorem Mc.len {n m:Nat}{P:List (List UInt8)}(h:Mc n m P):P.length<=(Lib.decDigits n).length:=by
 have h1:=ij h.all
 by_cases q:m=0
 ·rw[h.eq q];exact h1
 ·rw[h.ne q,Bk];omega
theorem Mc.step {n m:Nat}{P:List (List UInt8)}{B:Nat}(h:Mc n m P)(hm:m≠0)(hB:B=10^18):Mc n (m/B) (P++[Fr (m/B) (m%B)]):=by
 have hB0:0<B:=by rw[hB];decide
 have hd:=kW B (m/B) (m%B) hB (B5 _ hB0);rw[show m/B*B+m%B=m by rw[BS];exact EU m B]at hd;have hn:=h.ne hm;rw[hd]at hn;refine⟨λq=>?_,λq=>?_,λp hp=>?_,BR (Gi _ _) h.le⟩
 ·rw[AG q]at hn;rw[hn,Vw,Do]
 ·rw[AH q]at hn;rw[hn,Vw]
 ·rcases List.mem_append.1 hp with hp|hp
  ·exact h.all p hp
  ·rw[List.mem_singleton]at hp;subst hp;exact kO _ _
abbrev FC (P:List (List UInt8)):List D:=P.map λp=>str (sb p)
theorem Sw (x:GI)(h:x.wf)(hf:x.few):AK C0 161 [x.D] (str (sb (Lib.itoa x.z))):=by
 refine Ak.walk w1 Zx rfl λF=>?_
 obtain⟨z,sm⟩:=x;obtain⟨h1,h2⟩:=h;have hp:=JG ⟨z,sm⟩ ⟨h1,h2⟩;dsimp only[GI.D,GI.few]at*;cases sm with
 |true=>
  obtain⟨h3,h4⟩:=h1 rfl;have c:AK C0 208 [i64 z] (str (sb (Lib.itoa z))):=my z h3 (by omega);unfold GI.s GI.w;dsimp only;refine AI Af kB c AB AB AB AB AB ?_;exact AN rfl AA.out
 |false=>
  have hz:=h2 rfl;have hz0:z.natAbs≠0:=λq=>hz (by obtain rfl:z=0:=(by omega);exact tU rfl)
  have hw:GI.w ⟨z,false⟩=wD z.natAbs:=rfl;have hs:GI.s ⟨z,false⟩=if z<0 then -1 else 1:=rfl
  rw[hw]at hp⊢;obtain⟨sg,hsg⟩:∃s,GI.s ⟨z,false⟩=s:=⟨_,rfl⟩
  rw[hsg]at hp⊢;obtain⟨B,hB⟩:∃B:Nat,B=10^18:=⟨_,rfl⟩
  have hB1:B<BB:=by rw[hB];decide
  have hB0:B≠0:=by rw[hB];decide
  have hB2:1<B:=by rw[hB];decide
  have hBs:u64 1000000000000000000=AS B:=by rw[hB];rfl
  have hBl:Ag B=[B]:=MF hB0 hB1;obtain⟨n,hn⟩:∃n,z.natAbs=n:=⟨_,rfl⟩
  obtain⟨neg,hneg⟩:∃b,decide (z<0)=b:=⟨_,rfl⟩
  rw[hn]at hp hf hz0⊢;rw[hneg]at hp;have hit:Lib.itoa z=(if neg then[45]else[])++Lib.decDigits n:=by
   unfold Lib.itoa
   by_cases q:z<0
   ·rw[AH q,<-hneg,AY q,hn];rfl
   ·rw[AG q,<-hneg,Ah q,<-hn]
    have:z.toNat=z.natAbs:=by omega
    rw[this];rfl
  rw[hit];have hDL:(Lib.decDigits n).length<=27*1000000+1:=Mh (k:=1000000) (by omega);have hmpos:∀m:Nat,m≠0->decide ((((Ag m).map AS).length:Int)>0)=true:=λm hm=>AY (by
   rw[F3 hm,Cc,Bo];omega)
  have hm0:decide ((((Ag 0).map AS).length:Int)>0)=false:=Ah (by rw[Fj];decide);obtain⟨w0,ws,hws⟩:∃a l,(Ag n).map AS=a::l:=by
   cases hl:(Ag n).map AS with
   |nil=>exact AZ hl (HP hz0)
   |cons a l=>exact⟨a,l,rfl⟩
  have hwD:wD n=.sl false 1 (w0::ws):=by unfold wD wL;rw[hws]
  have hbD:wD B=.sl false 1 [u64 1000000000000000000]:=by unfold wD wL;rw[hBl,hBs];rfl
  have pw:AA (.sl false 1 (w0::ws)):=by rw[<-hwD];exact AJ
  rw[hwD]at hp⊢;clear hit h1 h2 hz hs hsg;have hne:(w0::ws≠[])=True:=eq_true (List.cons_ne_nil _ _);refine AI Af hne hp AB AB AB AB AB ?_;rw[<-hwD];refine AC.loop (α:=Nat×List (List UInt8)×Nat×Nat) (λp=>⟨[(3,As neg),(4,wD p.1),(5,wD B),(6,Dt 1303 p.2.2.1 1 (FC p.2.1))],Dj 1303 p.2.2.1 9 1 (FC p.2.1),p.2.2.2⟩) (λp=>p.1)
   (λp=>Mc n p.1 p.2.1) (n,[],0,_) ⟨λ_=>by unfold EE;simp,λq=>AZ q hz0,λp hp=>AZ hp DM,Ai _⟩ (by refine⟨.drop .nil,⟨.refl _,.refl _,?_,.refl _,trivial⟩,Ai _⟩;dsimp only;rw[hbD];exact .nn true 1 _) ?_
  rintro⟨m,P,g,cnt⟩ F I;dsimp only at I⊢;have hPl:=I.len;rcases Nat.decEq m 0 with hm|hm
  rotate_left
  ·subst hm
   have hdn:=I.eq rfl;have hall:=I.all;have hLn:P.length<=27000001:=by omega
   have hP0:P≠[]:=λq=>OG n (by rw[hdn,q];rfl)
   obtain⟨N,hN⟩:∃N,P.length=N:=⟨_,rfl⟩
   have hN0:N≠0:=λq=>hP0 (ET (by omega))
   rw[hdn];clear hwD hbD pw hp hn hPl I;have elP:(((FC P).length:Nat):Int)=(N:Int):=by rw[Am,hN]
   have wN:IntKind.i64.wrap ((N:Int)-1)=((N:Int)-1):=wI (by omega) (by omega);refine AC.seq ?_;refine sZ 600 ?_;refine AV hm0 ?_;refine AO ?_;refine CA ?_;refine AC.weak ⟨[(3,As neg),(6,.sl false 1 (FC P))],[],_⟩ ⟨?_,⟨.refl _,?_,trivial⟩,Ai _⟩ ?_
   ·have:=mg (K:=1303) (g:=g) (T:=9) (sz:=1) (l:=FC P) (r:=[]) (r':=[]) (H:=Dj 1303 g 9 1 (FC P)) (Hf:=[]) .nil
    rwa [DX]at this
   ·exact Qc _ _ _ _ _
   obtain⟨c0,hc0⟩:∃c,c=cnt+1+1+1:=⟨_,rfl⟩
   rw[<-hc0];refine sR 1500 ?_;obtain⟨c1,hc1⟩:∃c,c=c0+1:=⟨_,rfl⟩
   refine Cu (α:=D×Nat×Nat) (λq=>⟨[(6,.sl false 1 (FC P)),(10,.optr 1500 c0 2 0 0)],bH q.2.1 c0 q.1 (if neg then[45]else[]) [],q.2.2⟩) (λq=>q.1=.prim (.pointer none)\/q.1=.optr 1500 c0 2 0 0) ?_ ?_
   ·cases neg
    ·refine AI Af kB AB AB AB AB AB AB ?_
     exact⟨by trivial,(.prim (.pointer none),0,_),.inl rfl,AL⟩
    ·refine AI Af kB AB AB AB AB AB AB ?_
     refine BF.own _ (dE c0 0 _ (.prim (.pointer none)) (.inl rfl) [] [45] (by decide) [] (by decide)) ?_;rintro d H' n' ⟨⟨g',rfl⟩,hn'⟩;refine BO ?_;exact⟨by trivial,(.optr 1500 c0 2 0 0,g',_),.inr rfl,AL⟩
   rintro⟨p0,gb0,c2⟩ hp0;dsimp only at hp0⊢;obtain⟨pre,hpre⟩:∃l,(if neg then[45]else[]:List UInt8)=l:=⟨_,rfl⟩
   have hpl:pre.length<=1:=by rw[<-hpre];split<;>decide
   rw[hpre];refine AI Af (Ac elP @wN) AB AB AB AB AB AB ?_;refine AC.loop (α:=Nat×D×Nat×Nat) (λq=>⟨[(6,.sl false 1 (FC P)),(10,.optr 1500 c0 2 0 0),(11,i64 ((q.1:Int)-1))],bH q.2.2.1 c0 q.2.1 (pre++EE (P.drop q.1)) [],q.2.2.2⟩) (λq=>q.1)
    (λq=>q.1<=N/\(q.2.1=.prim (.pointer none)\/q.2.1=.optr 1500 c0 2 0 0)) (N,p0,gb0,_) ⟨Ai _,hp0⟩ (by dsimp only;rw[<-hN,IP];unfold EE;rw[List.reverse_nil,List.flatten_nil,DX];exact AL) ?_
   rintro⟨k,p,gb,c3⟩ F ⟨hk,hp⟩;dsimp only at hk hp⊢;have hjl:∀k,(EE (P.drop k)).length<=(EE P).length:=λk=>by
    unfold EE
    conv=>rhs;rw[<-Ez k P]
    rw[List.reverse_append,List.flatten_append,Bk];omega
   have hjP:(EE P).length<=27000001:=by rw[<-hdn];omega
   rcases Db k with hk0|hk0
   ·subst hk0
    have e1:decide ((((0:Nat):Int)-1)>=0)=false:=by decide
    rw[Fd];have hL:pre++EE P≠[]:=λq=>by
     have:=(List.append_eq_nil_iff.1 q).2
     rw[<-hdn]at this;exact OG n this
    obtain⟨L,hLL⟩:∃L,pre++EE P=L:=⟨_,rfl⟩
    rw[hLL]at hL⊢;obtain⟨y,r,hy⟩:=XC hL;have hlr:L.length=r.length+1:=by rw[<-Nm,hy];rfl
    refine AI Af e1 AB AB AB AB AB AB ?_;refine BF.own _ (by
     have:=λn=>ut c0 gb n L hL p []
     unfold bH;simp only[hy,hlr]at this⊢;exact this _) ?_
    rintro d H' n' ⟨rfl,rfl,rfl⟩;refine AI Af kB AB AB AB AB AB AB ?_;exact AN rfl AA.out
   ·obtain⟨k',rfl⟩:∃k',k=k'+1:=⟨k-1,by omega⟩
    have e1:decide ((((k'+1:Nat):Int)-1)>=0)=true:=AY (by omega);have e2:(((k'+1:Nat):Int)-1)=(k':Int):=by omega
    have wk:IntKind.i64.wrap ((k':Int)-1)=((k':Int)-1):=wI (by omega) (by omega);have e3:decide ((k':Int)>=0)=true:=AY (by omega);obtain⟨t,ht⟩:∃t,P[k']?=some t:=CG (by omega);have hm:(FC P)[k']?=some (str (sb t)):=by rw[A7,ht];rfl
    have htn:=hall t (A0 ht);have hdr:P.drop k'=t::P.drop (k'+1):=by
     rw[EI (List.getElem?_eq_some_iff.1 ht).1,(List.getElem?_eq_some_iff.1 ht).2]
    have hj:pre++EE (P.drop k')=pre++EE (P.drop (k'+1))++t:=by
     rw[hdr,Do]
     congr 1
     unfold EE;rw[List.reverse_cons,List.flatten_append];simp
    have hlt:(pre++EE (P.drop (k'+1))).length+t.length<=100000000:=by
     have h1:=hjl k';have h2:(pre++EE (P.drop k')).length=(pre++EE (P.drop (k'+1))).length+t.length:=by rw[hj,Bk]
     rw[<-h2,Bk];omega
    rw[e2];refine AI Af (Ac e3 kN) hm AB AB AB AB AB ?_;refine BF.own _ (dE c0 gb _ p hp (pre++EE (P.drop (k'+1))) t htn [] hlt) ?_;rintro d H' n' ⟨⟨g',rfl⟩,hn'⟩;refine BO ?_;refine AI Af wk AB AB AB AB AB AB ?_;exact⟨(k',.optr 1500 c0 2 0 0,g',_),⟨by dsimp only;omega,.inr rfl⟩,by dsimp only;omega,by(dsimp only;rw[hj];exact AL)⟩
  have e1:=hmpos m hm;have c1:=cZ m B hB0 (DW (HL m n I.le) hf) (by rw[hBl];show 1<1000000;decide);have I2:=I.step hm hB;obtain⟨q,hq⟩:∃q,m/B=q:=⟨_,rfl⟩
  obtain⟨r,hr⟩:∃q,m%B=q:=⟨_,rfl⟩
  have hqm:q<m:=by rw[<-hq];exact Hk (Dy hm) hB2
  have hrB:r<B:=by rw[<-hr];exact B5 _ (Dy hB0)
  rw[hq,hr]at c1 I2;have hsz:=Ce (Lib.decDigits r);have hdl:(Lib.decDigits r).length<=18:=MC 17 r (by rw[hB]at hrB;exact hrB);have hdl1:(Lib.decDigits r).length≠0:=λh=>OG r (ET h)
  refine AI Af e1 AB AB AB AB AB AB ?_;refine cI c1 ?_;refine sR 800 ?_;refine Cu (α:=Nat) (λcnt=>⟨[(3,As neg),(5,wD B),(6,Dt 1303 g 1 (FC P)),(7,wD q),(9,str (sb (Lib.decDigits r)))],Dj 1303 g 9 1 (FC P),cnt⟩) (λ_=>True) ?_ ?_
  ·rcases Nat.decEq r 0 with h0|h0
   ·have e2:=hmpos r h0
    have hl1:Ag r=[r]:=MF h0 (Ft hrB hB1);have hmm:((Ag r).map AS)[0]?=some (u64 (r:Int)):=by rw[hl1];rfl
    have c2:=oQ r (Ft hrB hB1);refine AI Af e2 hmm c2 AB AB AB AB ?_;exact⟨by trivial,_,trivial,AL⟩
   ·subst h0
    rw[XF];refine AI Af hm0 AB AB AB AB AB AB ?_;exact⟨by trivial,_,trivial,AL⟩
  rintro cnt2 -;refine Cu (α:=Nat) (λcnt=>⟨[(3,As neg),(5,wD B),(6,Dt 1303 g 1 (FC P)),(7,wD q),(9,str (sb (Fr q r)))],Dj 1303 g 9 1 (FC P),cnt⟩) (λ_=>True) ?_ ?_
  ·rcases Nat.decEq q 0 with h0|h0
   ·have e2:=hmpos q h0
    have c2:AK C0 211 [str ⟨#[48]⟩,i64 ((18-(Lib.decDigits r).length:Nat):Int)] (str (sb (List.replicate (18-(Lib.decDigits r).length) 48))):=nT (18-(Lib.decDigits r).length) (by omega);have w18:IntKind.i64.wrap (18-((Lib.decDigits r).length:Int))=((18-(Lib.decDigits r).length:Nat):Int):=by rw[wI (by omega) (by omega)];omega
    have hap:=Ty (List.replicate (18-(Lib.decDigits r).length) 48) (Lib.decDigits r);have hsz2:=Ce (List.replicate (18-(Lib.decDigits r).length) 48);have hpt:List.replicate (18-(Lib.decDigits r).length) 48++Lib.decDigits r=Fr q r:=by unfold Fr;rw[AG h0]
    rw[hpt]at hap;have hsize:(sb (List.replicate (18-(Lib.decDigits r).length) 48)).size+(sb (Lib.decDigits r)).size<=9223372036854775807:=by
     rw[hsz,hsz2,L3];omega
    refine AI Af (BW e2 hsz w18 hap) c2 AB AB AB AB AB ?_;exact⟨by trivial,_,trivial,AL⟩
   ·subst h0
    have hpt:Fr 0 r=Lib.decDigits r:=AH rfl;rw[hpt];refine AI Af hm0 AB AB AB AB AB AB ?_;exact⟨by trivial,_,trivial,AL⟩
  rintro cnt3 -;have hsn:FC (P++[Fr q r])=FC P++[str (sb (Fr q r))]:=by unfold FC;rw[Cv];rfl
  have hPL:(FC P).length=P.length:=Am ..;rcases hPD:FC P with _|⟨y,l⟩
  all_goals
   rw[hPD]at hsn hPL;dsimp only[Ig,Ie,HM,HN,List.nil_append]
  ·refine AI Af kB AB AB AB AB AB AB ?_
   exact⟨(q,P++[Fr q r],_,_),I2,hqm,by(dsimp only;rw[hsn];exact AL)⟩
  ·have htk:List.take (l.length+1) (y::l)=y::l:=by simp
   have hll:l.length+1<=27000001:=by rw[Bo]at hPL;omega
   refine AI Af htk AB AB AB AB AB AB ?_;exact⟨(q,P++[Fr q r],_,_),I2,hqm,by(dsimp only;rw[hsn,Nl];exact AL)⟩
abbrev XL:Dr:=[(3,[0,1,2,3,4,5,6],[7,8])]
open Go.Proofs Go.RowKit
set_option maxRecDepth 20000
set_option maxHeartbeats 4000000
theorem jx (x:Nat)(hx:x<BB):AK C0 223 [AS x] (i64 (Lib.bitLen x:Int)):=by
 refine⟨⟨_,_,Tryz.func223,rfl,by kernel_rfl⟩,λY w vs hG hnG hX hvs hr=>?_⟩
 have:=Pz hvs hr
 subst this;refine(Tryz.bits_Len64 x w (by omega) (by unfold BB at hx;omega)).mono ?_;rintro e w' ⟨rfl,rfl⟩;exact⟨_,_,rfl,.refl _ _,rfl,.prim _⟩
def Ex (n:Nat):Nat:=(Ag n).getD ((Ag n).length-1) 0
def IC (n:Nat):Nat:=if n=0 then 0 else 64*((Ag n).length-1)+Lib.bitLen (Ex n)
theorem mI (n:Nat):n<2^IC n:=by
 unfold IC
 by_cases h:n=0
 ·subst h;rw[AH rfl];decide
 ·rw[AG h]
  have hl:(Ag n).length≠0:=λq=>by
   have:=F3 h
   rw[this]at q;simp at q
  obtain⟨k,hk⟩:∃k,(Ag n).length=k+1:=⟨(Ag n).length-1,by omega⟩
  have hat:(Ag n)[k]?=some (Ex n):=by
   unfold Ex;rw[hk,IM,Ei,BI (by omega)];rfl
  have hv:=KJ hat;rw[HG (by omega),En]at hv;have ht:Ex n<BB:=FA n _ (A0 hat);have h1:AT ((Ag n).take k)<BB^k:=by
   have:=HO (l:=(Ag n).take k) λa ha=>FA n a (IT ha)
   rwa [Bf,E4 (by omega)]at this
  have h2:Ex n<2^Lib.bitLen (Ex n):=by
   by_cases t0:Ex n=0
   ·rw[t0];exact Gj _
   ·exact(Lib.bitLenAux_bounds 64 (Ex n) ht t0).2.2
  have h3:BB^k=2^(64*k):=by rw[Nat.pow_mul]
  rw[hk,IM,Fw,<-h3];have h4:n=AT ((Ag n).take k)+BB^k*Ex n:=by simpa[AT]using hv
  have h5:BB^k*(Ex n+1)<=BB^k*2^Lib.bitLen (Ex n):=Cd _ h2;rw[BM,EB]at h5;omega
def JV (n:Nat):Bool:=decide (600<(Lib.decDigits n).length)
theorem il (n:Nat):JV n=(decide (IC n>1800)&&JV n):=by
 by_cases h:IC n>1800
 ·rw[AY h,Hj]
 ·rw[Ah h,I1]
  have key:∀k,IC n<=3*(k+1)->(Lib.decDigits n).length<=k+1:=λk hk=>MC k n (CV (mI n) (BR (FN (by decide) hk) (by rw[Nat.pow_mul];exact NK (by decide) (k+1))))
  have h4:=key 599 (by omega);exact Ah (by omega)
theorem o9 (x:GI)(h:x.wf)(hf:x.few):AK C0 207 [x.D] (i64 (IC x.z.natAbs:Nat)):=by
 refine Ak.walk w1 ZU rfl λF=>?_
 have c1:=JG x h;obtain⟨n,hn⟩:∃n,x.z.natAbs=n:=⟨_,rfl⟩
 unfold GI.few at hf;rw[hn]at c1 hf⊢;have el:((((Ag n).map AS).length:Nat):Int)=((Ag n).length:Int):=by rw[Am]
 unfold wD wL at c1;dsimp only[GI.D]at c1⊢
 by_cases h0:n=0
 ·have e1:(((Ag n).length:Int)==0)=true:=by rw[h0,Fj];rfl
  have hb:IC n=0:=AH h0;rw[hb];refine AI Af (Ac e1 el) c1 AB AB AB AB AB ?_;exact AN rfl AA.out
 ·have hl:(Ag n).length≠0:=λq=>by
   have:=F3 h0
   rw[this]at q;simp at q
  have e1:(((Ag n).length:Int)==0)=false:=wH hl;have wl:IntKind.i64.wrap (((Ag n).length:Int)-1)=(((Ag n).length-1:Nat):Int):=by rw[wI (by omega) (by omega)];omega
  have wm:IntKind.i64.wrap (64*(((Ag n).length-1:Nat):Int))=((64*((Ag n).length-1):Nat):Int):=by rw[wI (by omega) (by omega)];omega
  have hat:(Ag n)[(Ag n).length-1]?=some (Ex n):=by
   unfold Ex;rw[Ei,BI (by omega)];rfl
  have hm:((Ag n).map AS)[(Ag n).length-1]?=some (u64 (Ex n:Int)):=by rw[A7,hat];rfl
  have ht:Ex n<BB:=FA n _ (A0 hat);have c2:=jx (Ex n) ht;have hbl:=Lib.bitLen_le (Ex n) 64 (Ai _) ht;have wa:IntKind.i64.wrap (((64*((Ag n).length-1):Nat):Int)+(Lib.bitLen (Ex n):Int))=((IC n:Nat):Int):=by
   have hb:IC n=64*((Ag n).length-1)+Lib.bitLen (Ex n):=AG h0;rw[hb,wI (by omega) (by omega)];omega
  refine AI Af (D2 e1 el wl wm wa kN) c1 hm c2 AB AB AB ?_;exact AN rfl AA.out
theorem aq (x:GI)(h:x.wf)(hf:x.few):AK C0 160 [x.D] (As (JV x.z.natAbs)):=by
 refine Ak.walk w1 Zw rfl λF=>?_
 have c1:=o9 x h hf;have c2:=Sw x h hf;have hlen:(Lib.decDigits x.z.natAbs).length<=27*1000000+1:=Mh (k:=1000000) (by unfold GI.few at hf;omega);have hil:(Lib.itoa x.z).length<=27000002:=by
  unfold Lib.itoa;split
  ·rw[Bo];omega
  ·rw[show x.z.toNat=x.z.natAbs by omega];omega
 have c3:=Rv (Lib.itoa x.z) (by omega);rw[(MK x.z).2]at c3;have hsz:=Ce (Lib.decDigits x.z.natAbs);have hlb:=il x.z.natAbs;obtain⟨b,hb⟩:∃b,JV x.z.natAbs=b:=⟨_,rfl⟩
 have e2:decide (((Lib.decDigits x.z.natAbs).length:Int)>600)=b:=by rw[<-hb];exact Cz.2 (by omega)
 obtain⟨p,hp⟩:∃b,decide (IC x.z.natAbs>1800)=b:=⟨_,rfl⟩
 have e1:decide (((IC x.z.natAbs:Nat):Int)>1800)=p:=by rw[<-hp];exact Cz.2 (by omega)
 rw[hb,hp]at hlb;rw[hb,hlb];dsimp only[GI.D]at c1 c2⊢;cases p
 ·refine AI Af e1 c1 AB AB AB AB AB ?_
  exact AN rfl AA.out
 ·refine AI Af (At e1 e2 hsz) c1 c2 c3 AB AB AB ?_
  exact AN rfl AA.out
theorem ai {r:Rat}{x:GF}{k:Nat}(h:FR r x k)(hk:k<100000):x.n.wf/\x.n.few/\(AX (x.d:Int)).wf/\(AX (x.d:Int)).few/\x.n.z=r.num/\x.d=r.den/\0<x.d:=
 ⟨h.is.1,h.fn (by omega),Cf _,by
  show(Ag ((x.d:Int)).natAbs).length<1000000;rw[EO];have:=h.ld;omega,h.is.2.1,h.is.2.2,h.dpos⟩
theorem YL {r:Rat}{x:GF}{k:Nat}(h:FR r x k)(hk:k<100000):AK C0 113 [x.D] (As (Dk r)):=by
 refine Ak.walk w1 ZA rfl λF=>?_
 obtain⟨h1,h2,h3,h4,h5,h6,_⟩:=ai h hk;have c1:=aq x.n h1 h2;have c2:=aq (AX (x.d:Int)) h3 h4;have hb:Dk r=(JV x.n.z.natAbs||JV (AX (x.d:Int)).z.natAbs):=by
  unfold Dk JV;rw[h5,<-h6];rfl
 rw[hb];obtain⟨p,hp⟩:∃b,JV x.n.z.natAbs=b:=⟨_,rfl⟩
 obtain⟨q,hq⟩:∃b,JV (AX (x.d:Int)).z.natAbs=b:=⟨_,rfl⟩
 rw[hp]at c1;rw[hq]at c2;rw[hp,hq];dsimp only[GI.D,GF.D]at c1 c2⊢;generalize AX (x.d:Int)=y at c2⊢;cases p<;>cases q
 all_goals
  refine AI Af kB c1 c2 AB AB AB AB ?_;exact AN rfl AA.out
theorem aQ {r:Rat}{x:GF}{k:Nat}(h:FR r x k)(hk:k<100000):AK C0 114 [x.D] (str (sb (BN r))):=by
 refine Ak.walk w1 Zg rfl λF=>?_
 obtain⟨h1,h2,h3,h4,h5,h6,h7⟩:=ai h hk;have c0:=SX x h7;have c1:=Sw x.n h1 h2;have c2:=Sw (AX (x.d:Int)) h3 h4;have hd:Lib.itoa (AX (x.d:Int)).z=Lib.decDigits r.den:=by
  show Lib.itoa (x.d:Int)=_;unfold Lib.itoa;rw[AG (by omega),h6];rfl
 rw[hd]at c2;rw[h5]at c1;have l1:(Lib.itoa r.num).length<=27000002:=by
  have:(Lib.decDigits x.n.z.natAbs).length<=27*1000000+1:=Mh (k:=1000000) (by unfold GI.few at h2;omega)
  rw[h5]at this;unfold Lib.itoa;split
  ·rw[Bo];omega
  ·rw[show r.num.toNat=r.num.natAbs by omega];omega
 have l2:(Lib.decDigits r.den).length<=27000001:=by
  have:(Lib.decDigits (AX (x.d:Int)).z.natAbs).length<=27*1000000+1:=Mh (k:=1000000) (by unfold GI.few at h4;omega)
  rw[<-h6];exact this
 have s1:=Ce (Lib.itoa r.num);have s2:=Ce (Lib.decDigits r.den);have s3:(sb [47]).size=1:=rfl;have s4:=Ce (Lib.itoa r.num++[47]);have z1:(sb (Lib.itoa r.num)).size+(sb [47]).size<=9223372036854775807:=by rw[s1,s3];omega
 have z2:(sb (Lib.itoa r.num++[47])).size+(sb (Lib.decDigits r.den)).size<=9223372036854775807:=by rw[s4,s2,Bk,GQ];omega
 have a1:sb (Lib.itoa r.num)++(⟨#[47]⟩:ByteArray)=sb (Lib.itoa r.num++[47]):=Ty _ [47];have a2:=Ty (Lib.itoa r.num++[47]) (Lib.decDigits r.den);rw[Do]at a2;dsimp only[GI.D,GF.D]at c0 c1 c2⊢;generalize AX (x.d:Int)=y at c0 c2⊢;unfold BN
 by_cases g:x.d=1
 ·rw[AY g]at c0
  rw[AH (h6 ▸ g)];refine AI XL kB c0 c1 AB AB AB AB ?_;exact AN rfl AA.out
 ·rw[Ah g]at c0
  rw[AG (λq=>g (h6.trans q))];refine AI XL (Ac a1 a2) c0 c1 c2 AB AB AB ?_;exact AN rfl AA.out
set_option maxHeartbeats 4000000
def nb (r:Rat)(n d:Nat):Prop:=r.num.natAbs<=n/\r.den<=d
def PK:Nat:=10^40
theorem mO {l:List UInt8}(h:Ca l=0)(hl:l.length<=40):nb (CR l) PK PK:=by
 obtain⟨m1,m2,m3,m4⟩:=No h;obtain⟨p1,p2⟩:=PR h;have hs1:(B1 l).length<=40:=by
  have:(B1 l).length<=l.length:=by
   unfold B1;have a1:(Bn (Bz l)).length<=(Bz l).length:=by unfold Bn;split<;>simp
   have a2:(Bz l).length<=l.length:=by unfold Bz;rw[Bf];omega
   omega
  omega
 have hb:∀k,k<=40->(10:Nat)^k<=PK:=λk hk=>FN (by decide) hk
 refine⟨?_,?_⟩
 ·rw[m1,m4]
  exact BR (Jr (GB _ p1)) (hb _ hs1)
 ·rw[m2]
  unfold Gd;cases hs:Cr l
  ·exact(by decide:1<=PK)
  ·have hs2:(BY l).length<=40:=by
    have:(BY l).length<=l.length:=by unfold BY;simp
    omega
   exact BR (Jr (GB _ (p2 hs))) (hb _ hs2)
theorem vI {r:Rat}{n d k:Nat}(h:nb r n d)(h1:n<BB^k)(h2:d<BB^k):rk r k:=
 ⟨Gq (DW h.1 h1),Gq (DW h.2 h2)⟩
theorem dh {l:List UInt8}(h:Ca l=0)(hl:l.length<=40):rk (CR l) 3:=vI (mO h hl) (by decide) (by decide)
theorem Yb (k:Nat)(hk:1<=k):FR 0 ⟨AX 0,1⟩ k:=⟨⟨Cf _,by rw[Di];rfl,rfl⟩,by
 refine rk.mono (k:=1) ?_ hk;exact⟨Gq (k:=1) (by decide),Gq (k:=1) (by decide)⟩⟩
abbrev F6:Dr:=[(11,[0,1,2,3,4,5,6,7,8,9,10],[11,12]),(21,[0,1],[2,3])]
open Go.Proofs Go.RowKit
set_option maxRecDepth 20000
set_option maxHeartbeats 4000000
def OQ (a b:List UInt8):Bool:=Ld (sb a) (sb b)||BK (sb a) (sb b)
def FO (l:List Av)(i:Nat):Nat:=
 if Da (Fg l i).lot=false then 8 else if 0<i/\OQ (Fg l i).lot (Fg l (i-1)).lot=true then 11 else if Ca (Fg l i).part≠0 then Ca (Fg l i).part else if Gf (CR (Fg l i).part)<=0 then 12 else 0
def Eu (l:List Av):Nat->Rat
 | 0=>0
 |n+1=>Eu l n+CR (Fg l n).part
def HT (l:List Av):Nat:=if l.length=0 then 2 else if 64<l.length then 5 else if Df (FO l) l.length≠0 then Df (FO l) l.length else if Eu l l.length=1 then 0 else 12
theorem QI (l:List UInt8):AK C0 56 [str (sb l)] (As (Da l)):=ig (sb l)
theorem l8 (a b:Rat):(Li a b==0)=decide (a=b):=by
 unfold Li
 by_cases h:a<b
 ·rw[AH h,Ah (Rat.ne_of_lt h)];rfl
 ·rw[AG h]
  by_cases h2:b<a
  ·rw[AH h2,Ah λe=>Rat.ne_of_lt h2 e.symm];rfl
  ·rw[AG h2,AY (Rat.le_antisymm (Rat.not_lt.1 h2) (Rat.not_lt.1 h))];rfl
theorem tS {a b:Rat}{x y:GF}{i j:Nat}(hx:FR a x i)(hy:FR b y j)(hk:i+j<300000):AK C0 184 [x.D,y.D] (As (decide (a=b))):=by
 refine Ak.walk w1 Z4 rfl λF=>?_
 have c:=oM hx hy hk;have e:=l8 a b;obtain⟨r,hr⟩:∃r,Li a b=r:=⟨_,rfl⟩
 rw[hr]at c e;obtain⟨xD,hxD⟩:∃d,x.D=d:=⟨_,rfl⟩
 obtain⟨yD,hyD⟩:∃d,y.D=d:=⟨_,rfl⟩
 unfold GF.D at c hxD hyD⊢;refine AI Af e c AB AB AB AB AB ?_;exact AN rfl AA.out
theorem sP:FR 1 ⟨AX 1,1⟩ 1:=by
 have:=QD (z:=1) (by decide)
 exact this
theorem vm (b:Bool)(l:List Av)(hl:l.length<=9223372036854775807)(hf:∀s∈l,s.few):AK C0 135 [CT b l] (i64 (HT l:Nat)):=by
 refine Ak.walk w1 Zl rfl λF=>?_
 have el:(((l.map Av.D).length:Nat):Int)=(l.length:Int):=by rw[Am]
 have hC:HT l=if l.length=0 then 2 else if 64<l.length then 5 else if Df (FO l) l.length≠0 then Df (FO l) l.length else if Eu l l.length=1 then 0 else 12:=rfl
 rcases Nat.decEq l.length 0 with h0|h0
 rotate_left
 ·rw[AH h0]at hC
  rw[hC];have q1:((l.length:Int)==0)=true:=by rw[h0];rfl
  refine AI F6 (Ac el q1) AB AB AB AB AB AB ?_;exact AN rfl AA.out
 rw[AG h0]at hC;have q1:((l.length:Int)==0)=false:=Bq.2 (by omega)
 by_cases h64:64<l.length
 ·rw[AH h64]at hC
  rw[hC];have q2:decide ((l.length:Int)>64)=true:=AY (by omega);refine AI F6 (At el q1 q2) AB AB AB AB AB AB ?_;exact AN rfl AA.out
 rw[AG h64]at hC;have q2:decide ((l.length:Int)>64)=false:=Ah (by omega);have c0:=Od 0 ⟨by decide,by decide⟩;have c1:=Od 1 ⟨by decide,by decide⟩;refine AI F6 (At el q1 q2) c0 AB AB AB AB AB ?_;refine AC.loop (α:=Nat×GF×Nat) (λp=>⟨[(0,CT b l),(3,.optr 501 8 4 0 0),(15,CT b l),(16,i64 (l.length:Int)),(17,i64 (p.1:Int))],[⟨501,8,141,4,[p.2.1.D]⟩],p.2.2⟩) (λp=>l.length-p.1) (λp=>p.1<=l.length/\(∀j,j<p.1->FO l j=0)/\FR (Eu l p.1) p.2.1 (601*p.1+1)) (0,⟨AX 0,1⟩,_)
  ⟨BU _,λj h=>AZ h (GP j),Yb 1 (Ai _)⟩ AL ?_
 rintro⟨i,y,m⟩ F ⟨hi,hz,hS⟩;dsimp only at hi hz hS⊢;rcases BG i l.length with h2|h2
 rotate_left
 ·have e1:=CW h2
  have:i=l.length:=by omega
  subst this;rw[AG (λh=>h (ME hz))]at hC;have cS:=tS hS sP (by omega);obtain⟨q,hq⟩:∃q,decide (Eu l l.length=1)=q:=⟨_,rfl⟩
  rw[hq]at cS;cases q
  ·rw[AG (DN hq)]at hC
   rw[hC];refine AI F6 e1 c1 cS AB AB AB AB ?_;exact AN rfl AA.out
  ·rw[AH (DA hq)]at hC
   rw[hC];refine AI F6 e1 c1 cS AB AB AB AB ?_;exact AN rfl AA.out
 have e1:=CX h2;have wi:=CY (i:=i) (by omega);obtain⟨s,hs⟩:=CG h2;have hm:(l.map Av.D)[i]?=some (.agg [str (sb s.lot),str (sb s.part)]):=by rw[A7,hs];rfl
 obtain⟨f1,f2⟩:=hf s (A0 hs);have hE:FO l i=if Da s.lot=false then 8 else if 0<i/\OQ s.lot (Fg l (i-1)).lot=true then 11 else if Ca s.part≠0 then Ca s.part else if Gf (CR s.part)<=0 then 12 else 0:=by unfold FO;rw[JT hs]
 have hbad:∀e:Nat,e≠0->FO l i=e->HT l=e:=λe he h=>by
  have:=N8 hz h2 (by rw[h];exact he)
  rw[hC,this,h,AH he]
 have cN:=QI s.lot;obtain⟨N,hN⟩:∃q,Da s.lot=q:=⟨_,rfl⟩
 rw[hN]at cN hE;cases N
 ·rw[AH rfl]at hE
  rw[hbad 8 (by decide) hE];refine AI F6 (Ac e1 kN) hm cN AB AB AB AB ?_;exact AN rfl AA.out
 rw[AG (by decide)]at hE;have cC:=je s.part f2;rcases i with _|q
 ·have g0:decide (((0:Nat):Int)>0)=false:=rfl
  rw[AG (λh=>AZ h.1 (Nat.lt_irrefl 0))]at hE;rcases Nat.decEq (Ca s.part) 0 with hc0|hc0
  ·rw[AH hc0]at hE
   have e3:=GJ hc0;rw[hbad (Ca s.part) hc0 hE];refine AI F6 (BW e1 g0 kN e3) hm cN cC AB AB AB ?_;exact AN rfl AA.out
  rw[AG (λh=>h hc0)]at hE;have e3:=GK hc0;have cP:=Qa f2 hc0;have fP:=Qn hc0;have cG:=Xr fP.is;have cA:=Qp hS fP (by omega);have fA:=QJ hS fP;obtain⟨z,hzz⟩:∃z,Jg y (GC s.part)=z:=⟨_,rfl⟩
  rw[hzz]at cA fA;obtain⟨sg,hsg⟩:∃q,Gf (CR s.part)=q:=⟨_,rfl⟩
  rw[hsg]at cG hE
  by_cases hs0:sg<=0
  ·rw[AH hs0]at hE
   have e4:decide (sg<=0)=true:=AY hs0;rw[hbad 12 (by decide) hE];refine AI F6 (CM e1 g0 kN e3 e4) hm cN cC cP cG AB ?_;exact AN rfl AA.out
  rw[AG hs0]at hE;have e4:decide (sg<=0)=false:=Ah hs0;refine AI F6 (D2 e1 g0 kN e3 e4 wi) hm cN cC cP cG AB ?_;refine cI cA ?_;refine AI F6 wi AB AB AB AB AB AB ?_;exact⟨(0+1,z,_),⟨h2,λj hj=>by
   rcases Nat.lt_succ_iff_lt_or_eq.1 hj with q|q
   ·exact hz j q
   ·rw[q];exact hE,by
   show FR (Eu l 0+CR (Fg l 0).part) z _;rw[JT hs];exact⟨fA.is,fA.rk.mono (by dsimp only;omega)⟩⟩,by dsimp only;omega,AL⟩
 ·have g0:decide (((q+1:Nat):Int)>0)=true:=AY (by omega)
  have g1:IntKind.i64.wrap (((q+1:Nat):Int)-1)=(q:Int):=by rw[wI (by omega) (by omega)];omega
  obtain⟨s0,hs0'⟩:=CG (l:=l) (i:=q) (by omega);have hm0:(l.map Av.D)[q]?=some (.agg [str (sb s0.lot),str (sb s0.part)]):=by rw[A7,hs0'];rfl
  rw[IM,JT hs0']at hE;obtain⟨bL,hbL⟩:∃q,OQ s.lot s0.lot=q:=⟨_,rfl⟩
  have g2:(Ld (sb s.lot) (sb s0.lot)||BK (sb s.lot) (sb s0.lot))=bL:=hbL;rw[hbL]at hE;cases bL
  rotate_left
  ·rw[AH ⟨Nat.succ_pos q,rfl⟩]at hE
   rw[hbad 11 (by decide) hE];refine AI F6 (CM e1 g0 g1 g2 kN) hm hm0 cN AB AB AB ?_;exact AN rfl AA.out
  rw[AG (λh=>AZ h.2 (by decide))]at hE;rcases Nat.decEq (Ca s.part) 0 with hc0|hc0
  ·rw[AH hc0]at hE
   have e3:=GJ hc0;rw[hbad (Ca s.part) hc0 hE];refine AI F6 (D2 e1 g0 g1 g2 kN e3) hm hm0 cN cC AB AB ?_;exact AN rfl AA.out
  rw[AG (λh=>h hc0)]at hE;have e3:=GK hc0;have cP:=Qa f2 hc0;have fP:=Qn hc0;have cG:=Xr fP.is;have cA:=Qp hS fP (by omega);have fA:=QJ hS fP;obtain⟨z,hzz⟩:∃z,Jg y (GC s.part)=z:=⟨_,rfl⟩
  rw[hzz]at cA fA;obtain⟨sg,hsg⟩:∃q,Gf (CR s.part)=q:=⟨_,rfl⟩
  rw[hsg]at cG hE
  by_cases hs0:sg<=0
  ·rw[AH hs0]at hE
   have e4:decide (sg<=0)=true:=AY hs0;rw[hbad 12 (by decide) hE];refine AI F6 (CF e1 g0 g1 g2 kN e3 e4) hm hm0 cN cC cP cG ?_;exact AN rfl AA.out
  rw[AG hs0]at hE;have e4:decide (sg<=0)=false:=Ah hs0;refine AI F6 (CF e1 g0 g1 g2 kN e3 (Ac e4 wi)) hm hm0 cN cC cP cG ?_;refine cI cA ?_;refine AI F6 wi AB AB AB AB AB AB ?_;exact⟨(q+1+1,z,_),⟨h2,λj hj=>by
   rcases Nat.lt_succ_iff_lt_or_eq.1 hj with q|q
   ·exact hz j q
   ·rw[q];exact hE,by
   show FR (Eu l (q+1)+CR (Fg l (q+1)).part) z _;rw[JT hs];exact⟨fA.is,fA.rk.mono (by dsimp only;omega)⟩⟩,by dsimp only;omega,AL⟩
def AF.few (x:AF):Prop:=x.grain.length<=100000/\x.shs.length<=9223372036854775807/\∀s∈x.shs,s.few
def Ci (x:AF):Nat:=if Da x.grain=false then 8 else if x.mass<1\/x.mass>999999999 then 3 else HT x.shs
def CP (l:List AF)(k:Nat):AF:=l.getD k ⟨[],0,[]⟩
theorem FU {l:List AF}{k:Nat}{x:AF}(h:l[k]?=some x):CP l k=x:=by unfold CP;rw[Ei,h];rfl
def An (l:List AF):Int:=(l.map (·.mass)).sum
theorem SR {l:List AF}{i:Nat}{x:AF}(h:l[i]?=some x):An (l.take (i+1))=An (l.take i)+x.mass:=by
 unfold An;rw[Dh,h,Cv,List.sum_append];simp
def H7 (l:List AF):Prop:=l.length<=1000000/\∀x∈l,x.mass.natAbs<=1000000000
theorem TD {l:List AF}(h:∀x∈l,x.mass.natAbs<=1000000000):(An l).natAbs<=l.length*1000000000:=by
 unfold An
 induction l with
 |nil=>simp
 |cons a l ih=>
  have h1:=h a (by simp);have h2:=ih λx hx=>h x (by simp[hx])
  simp only[Cc,List.sum_cons,Bo];omega
def Bx (l:List AF):Nat:=if 64<l.length then 5 else if Df (λi=>Ci (CP l i)) l.length≠0 then Df (λi=>Ci (CP l i)) l.length else if An l>999999999 then 4 else 0
theorem Nt {x:AF}(h:Ci x=0):Da x.grain=true/\1<=x.mass/\x.mass<=999999999/\HT x.shs=0:=by
 unfold Ci at h;split at h
 ·cases h
 ·rename_i h1
  split at h
  ·cases h
  ·rename_i h2
   exact⟨by simpa using h1,by omega,by omega,h⟩
theorem GY (b:Bool)(e:Int):AK C0 55 [As b,i64 e] (i64 (if b then e else 0)):=by
 refine Ak.walk w1 bS rfl λF=>?_
 cases b
 ·refine AI Af kB AB AB AB AB AB AB ?_
  exact AN rfl AA.out
 ·refine AI Af kB AB AB AB AB AB AB ?_
  exact AN rfl AA.out
theorem KP (v:List Int)(hl:v.length<=1000):AK C0 54 [.sl true 1 (v.map λe=>i64 e)] (i64 (DP v)):=by
 refine Ak.walk w1 bR rfl λF=>?_
 have el:(((v.map λe=>i64 e).length:Nat):Int)=(v.length:Int):=by rw[Am]
 refine AI Af el AB AB AB AB AB AB ?_;refine AC.loop (α:=Nat×Nat) (λp=>⟨[(5,.sl true 1 (v.map λe=>i64 e)),(6,i64 (v.length:Int)),(7,i64 (p.1:Int))],[],p.2⟩) (λp=>v.length-p.1) (λp=>p.1<=v.length/\∀(j:Nat) (e:Int),j<p.1->v[j]?=some e->e=0) (0,_) ⟨BU _,λj e h=>AZ h (GP j)⟩ AL ?_;rintro⟨i,m⟩ F ⟨hi,ha⟩;dsimp only at hi ha⊢;rcases BG i v.length with h2|h2
 rotate_left
 ·have e1:=CW h2
  have:i=v.length:=by omega
  subst this;have hd:DP v=0:=by rw[PQ ha,IP];rfl
  rw[hd];refine AI Af e1 AB AB AB AB AB AB ?_;exact AN rfl AA.out
 have e1:=CX h2;have wi:=CY (i:=i) (by omega);obtain⟨l,hl'⟩:=CG h2;have hm:(v.map λe=>i64 e)[i]?=some (i64 l):=by rw[A7,hl'];rfl
 by_cases g:l=0
 ·have e5:(l != 0)=false:=by rw[g];rfl
  refine AI Af (BW e1 wi e5 kN) hm AB AB AB AB AB ?_;exact⟨(i+1,_),⟨h2,λj e hj he=>by
   rcases Nat.lt_succ_iff_lt_or_eq.1 hj with q|q
   ·exact ha j e q he
   ·subst q;rw[hl']at he;cases he;exact g⟩,by dsimp only;omega,AL⟩
 ·have e5:(l != 0)=true:=Ii g
  have hd:DP v=l:=by
   rw[PQ ha,EI h2];rw[BI h2]at hl';rw[Fc hl'];exact AH g
  rw[hd];refine AI Af (BW e1 wi e5 kN) hm AB AB AB AB AB ?_;exact AN rfl AA.out
theorem Yq (b:Bool)(l:List AF)(hs:H7 l):AK C0 59 [Ae b l] (i64 (An l)):=by
 refine Ak.walk w1 UJ rfl λF=>?_
 have el:(((l.map AF.D).length:Nat):Int)=(l.length:Int):=by rw[Am]
 obtain⟨hl,hm0⟩:=hs;refine AI Af el AB AB AB AB AB AB ?_;refine AC.loop (α:=Nat×Nat) (λp=>⟨[(3,i64 (An (l.take p.1))),(6,Ae b l),(7,i64 (l.length:Int)),(8,i64 (p.1:Int))],[],p.2⟩) (λp=>l.length-p.1) (λp=>p.1<=l.length) (0,_) (BU _) AL ?_;rintro⟨i,m⟩ F hi;dsimp only at hi⊢;rcases BG i l.length with h2|h2
 rotate_left
 ·have e1:=CW h2
  have:i=l.length:=by omega
  subst this;rw[C8];refine AI Af e1 AB AB AB AB AB AB ?_;exact AN rfl AA.out
 have e1:=CX h2;have wi:=CY (i:=i) (by omega);obtain⟨x,hx⟩:=CG h2;have hm:(l.map AF.D)[i]?=some (.agg [str (sb x.grain),i64 x.mass,.sl false 2 (x.shs.map Av.D)]):=by rw[A7,hx];rfl
 have hb:=TD (l:=l.take i) λy hy=>hm0 y (IT hy)
 have hxm:=hm0 x (A0 hx);rw[Bf,E4 hi]at hb;have wS:IntKind.i64.wrap (An (l.take i)+x.mass)=An (l.take (i+1)):=by rw[SR hx,wI (by omega) (by omega)]
 refine AI Af (BW e1 wi @wS kN) hm AB AB AB AB AB ?_;exact⟨(i+1,_),h2,by dsimp only;omega,AL⟩
theorem cq (x:AF)(hf:x.few):AK C0 85 [x.D] (i64 (Ci x:Nat)):=by
 refine Ak.walk w1 ba rfl λF=>?_
 obtain⟨f1,f2,f3⟩:=hf;have cN:=QI x.grain;have cS:=vm false x.shs f2 f3;have hC:Ci x=if Da x.grain=false then 8 else if x.mass<1\/x.mass>999999999 then 3 else HT x.shs:=rfl
 obtain⟨N,hN⟩:∃q,Da x.grain=q:=⟨_,rfl⟩
 obtain⟨SD,hSD⟩:∃d,CT false x.shs=d:=⟨_,rfl⟩
 have pS:AA SD:=by rw[<-hSD];exact AJ
 have hna:JR SD=true:=by rw[<-hSD];rfl
 unfold AF.D;rw[hN]at cN hC;rw[hSD]at cS⊢;cases N
 ·rw[AH rfl]at hC
  rw[hC];refine AI Af kB cN AB AB AB AB AB ?_;exact AN rfl AA.out
 rw[AG (by decide)]at hC
 by_cases h1:x.mass<1
 ·rw[AH (.inl h1)]at hC
  rw[hC];have e1:decide (x.mass<1)=true:=AY h1;refine AI Af e1 cN AB AB AB AB AB ?_;exact AN rfl AA.out
 have e1:decide (x.mass<1)=false:=Ah h1
 by_cases h2:x.mass>999999999
 ·rw[AH (.inr h2)]at hC
  rw[hC];have e2:decide (x.mass>999999999)=true:=AY h2;refine AI Af (Ac e1 e2) cN AB AB AB AB AB ?_;exact AN rfl AA.out
 have e2:decide (x.mass>999999999)=false:=Ah h2;rw[AG (by omega)]at hC;rw[hC];refine AI Af (At e1 e2 hna) cN cS AB AB AB AB ?_;exact AN rfl AA.out
theorem SE {l:List AF}(h64:¬ 64<l.length)(hz:∀j,j<l.length->Ci (CP l j)=0):H7 l:=by
 refine⟨by omega,λx hx=>?_⟩;obtain⟨j,hj⟩:=List.mem_iff_getElem?.1 hx
 have:=hz j (List.getElem?_eq_some_iff.1 hj).1
 rw[FU hj]at this
 have:=Nt this
 omega
theorem Lr (b:Bool)(l:List AF)(hl:l.length<=9223372036854775807)(hf:∀x∈l,x.few):AK C0 37 [Ae b l] (i64 (Bx l:Nat)):=by
 refine Ak.walk w1 bO rfl λF=>?_
 have el:(((l.map AF.D).length:Nat):Int)=(l.length:Int):=by rw[Am]
 have hC:Bx l=if 64<l.length then 5 else if Df (λi=>Ci (CP l i)) l.length≠0 then Df (λi=>Ci (CP l i)) l.length else if An l>999999999 then 4 else 0:=rfl
 by_cases h64:64<l.length
 ·rw[AH h64]at hC
  rw[hC];have q2:decide ((l.length:Int)>64)=true:=AY (by omega);refine AI Af (Ac el q2) AB AB AB AB AB AB ?_;exact AN rfl AA.out
 rw[AG h64]at hC;have q2:decide ((l.length:Int)>64)=false:=Ah (by omega);refine AI Af (Ac el q2) AB AB AB AB AB AB ?_;refine AC.loop (α:=Nat×Nat) (λp=>⟨[(0,Ae b l),(9,Ae b l),(10,i64 (l.length:Int)),(11,i64 (p.1:Int))],[],p.2⟩) (λp=>l.length-p.1) (λp=>p.1<=l.length/\∀j,j<p.1->Ci (CP l j)=0) (0,_) ⟨BU _,λj h=>AZ h (GP j)⟩ AL ?_;rintro⟨i,m⟩ F ⟨hi,hz⟩;dsimp only at hi hz⊢;rcases BG i l.length with h2|h2
 rotate_left
 ·have e1:=CW h2
  have:i=l.length:=by omega
  subst this;rw[AG (λh=>h (ME (f:=λi=>Ci (CP l i)) hz))]at hC;have cT:=Yq b l (SE h64 hz);obtain⟨q,hq⟩:∃q,decide (An l>999999999)=q:=⟨_,rfl⟩
  have cW:=GY q 4;have hR:((Bx l:Nat):Int)=if q then 4 else 0:=by
   rw[hC,<-hq]
   by_cases h:An l>999999999
   ·rw[AH h,AY h];rfl
   ·rw[AG h,Ah h];rfl
  rw[hR];refine AI Af (Ac e1 hq) cT cW AB AB AB AB ?_;exact AN rfl AA.out
 have e1:=CX h2;have wi:=CY (i:=i) (by omega);obtain⟨x,hx⟩:=CG h2;have hm:(l.map AF.D)[i]?=some (.agg [str (sb x.grain),i64 x.mass,.sl false 2 (x.shs.map Av.D)]):=by rw[A7,hx];rfl
 have cL:=cq x (hf x (A0 hx));unfold AF.D at cL;rcases Nat.decEq (Ci x) 0 with hc0|hc0
 ·have e3:=GJ hc0
  have:=N8 (f:=λi=>Ci (CP l i)) hz h2 (by rw[FU hx];exact hc0)
  rw[FU hx]at this;rw[this,AH hc0]at hC;rw[hC];refine AI Af (At e1 e3 kN) hm cL AB AB AB AB ?_;exact AN rfl AA.out
 have e3:=GK hc0;refine AI Af (BW e1 e3 wi kN) hm cL AB AB AB AB ?_;exact⟨(i+1,_),⟨h2,λj hj=>by
  rcases Nat.lt_succ_iff_lt_or_eq.1 hj with q|q
  ·exact hz j q
  ·rw[q,FU hx];exact hc0⟩,by dsimp only;omega,AL⟩
theorem XA {α:Type}{l:List α}{p:α->Bool}{k:Nat}{x:α}(hx:l[k]?=some x)(h:(l.take k).all p=true)(hp:p x=true):(l.take (k+1)).all p=true:=by
 rw[Dh,hx,Ks,h];simp[hp]
theorem S0 {α:Type}{l:List α}{p:α->Bool}{k:Nat}{x:α}(hx:l[k]?=some x)(hp:p x=false):l.all p=false:=by
 cases h:l.all p
 ·rfl
 ·rw[CQ.1 h x (A0 hx)]at hp;exact hp
abbrev MW:Dr:=[(8,[0,1,2,3,4,5,6,7],[8])]
open Go.Proofs Go.RowKit
set_option maxRecDepth 20000
set_option maxHeartbeats 4000000
abbrev By:=List (List UInt8×Rat)
def Fo (lot:List UInt8):By->Option Rat
 | []=>none
 |p::l=>if lot=p.1 then some p.2 else Fo lot l
def GE (lot:List UInt8)(r:Rat):By->By
 | []=>[(lot,r)]
 |p::l=>if lot=p.1 then(lot,r)::l else p::GE lot r l
def Ji (lot:List UInt8)(r:Rat)(q:By):By:=GE lot (match Fo lot q with|some o=>r+o|none=>r) q
def GD (x:AF)(n:Nat)(q:By):By:=(x.shs.take n).foldl (λacc s=>Ji s.lot (CR s.part*(x.mass:Rat)) acc) q
def CH (l:List AF):By:=l.foldl (λacc x=>GD x x.shs.length acc) []
def MQ (B:Nat):By->C5->Prop
 | [],[]=>True
 |p::q,e::m=>(e.1=sb p.1/\∃y:GF,e.2=y.D/\FR p.2 y B)/\MQ B q m
 |_,_=>False
theorem MQ.mono {B B':Nat}(hB:B<=B'):∀ {q:By} {m:C5},MQ B q m->MQ B' q m
 | [],[],_=>trivial
 |_::_,_::_,⟨⟨h1,y,h2,h3⟩,h4⟩=>⟨⟨h1,y,h2,h3.is,h3.rk.mono hB⟩,MQ.mono hB h4⟩
theorem MQ.look {B:Nat}(lot:List UInt8):∀ {q:By} {m:C5},MQ B q m->(Hq (sb lot) m=none/\Fo lot q=none)\/∃(r:Rat) (y:GF),Hq (sb lot) m=some y.D/\Fo lot q=some r/\FR r y B
 | [],[],_=>.inl ⟨rfl,rfl⟩
 |p::q,e::m,⟨⟨h1,y,h2,h3⟩,h4⟩=>by
  unfold Hq Fo;rw[h1,Et]
  by_cases hl:lot=p.1
  ·rw[AY hl,AH hl]
   exact .inr ⟨p.2,y,by rw[h2];rfl,rfl,h3⟩
  ·rw[Ah hl,AG hl]
   exact MQ.look lot h4
theorem MQ.set {B:Nat}(lot:List UInt8){r:Rat}{y:GF}(hr:FR r y B):∀ {q:By} {m:C5},MQ B q m->MQ B (GE lot r q) (FH (sb lot) y.D m)
 | [],[],_=>⟨⟨rfl,y,rfl,hr⟩,trivial⟩
 |p::q,e::m,⟨⟨h1,y',h2,h3⟩,h4⟩=>by
  unfold GE FH;rw[h1,Et]
  by_cases hl:lot=p.1
  ·rw[AY hl,AH hl]
   exact⟨⟨rfl,y,rfl,hr⟩,h4⟩
  ·rw[Ah hl,AG hl]
   exact⟨⟨h1,y',h2,h3⟩,MQ.set lot hr h4⟩
theorem MQ.pure {B:Nat}:∀ {q:By} {m:C5},MQ B q m->∀e∈m,B7 e.2
 | [],[],_,e,he=>by cases he
 |p::q,e::m,⟨⟨_,y,h2,_⟩,h4⟩,x,hx=>by
  rcases BA.1 hx with rfl|hx
  ·rw[h2];exact AA.out
  ·exact MQ.pure h4 x hx
theorem MQ.mapD {B:Nat}{q:By}{m:C5}(h:MQ B q m):B7 (mapD m):=by
 refine B7.mp (λd hd=>?_) λd hd=>?_
 ·obtain⟨p,-,rfl⟩:=List.mem_map.1 hd;exact AA.out
 ·obtain⟨p,hp,rfl⟩:=List.mem_map.1 hd;exact h.pure p hp
def Av.ok (s:Av):Prop:=s.lot.length<=100000/\s.part.length<=40/\Ca s.part=0
def AF.ok (x:AF):Prop:=x.shs.length<=64/\Sm x.mass/\∀s∈x.shs,s.ok
def AF.okW (w:Nat)(x:AF):Prop:=x.shs.length<=64/\Sm x.mass/\∀s∈x.shs,s.lot.length<=100000/\s.part.length<=100000/\Ca s.part=0/\rk (CR s.part) (w-2)
theorem NY (x:AF)(n:Nat)(q:By){s:Av}(h:x.shs[n]?=some s):GD x (n+1) q=Ji s.lot (CR s.part*(x.mass:Rat)) (GD x n q):=by
 unfold GD;rw[Dh,h,List.foldl_append];rfl
theorem PZ (l:List AF)(n:Nat){x:AF}(h:l[n]?=some x):CH (l.take (n+1))=GD x x.shs.length (CH (l.take n)):=by
 unfold CH;rw[Dh,h,List.foldl_append];rfl
theorem aD (w:Nat)(b:Bool)(l:List AF)(hl:l.length<=100)(hx:∀x∈l,x.okW w)(h2w:2<=w)(hw:w*(64*(l.length+1))<=100000):Ak C0 62 [Ae b l] (λd=>∃m,d=mapD m/\MQ (w*(64*l.length)) (CH l) m):=by
 refine Ak.walk w1 bY rfl λF0=>?_
 have el:(((l.map AF.D).length:Nat):Int)=(l.length:Int):=by rw[Am]
 refine sZ 0 ?_;refine AE kB ?_;refine AC.seq ?_;refine Hh (by kernel_rfl) ?_;change Bd _ _ _ _ _ [0,1] _ _;refine Bd.makeMap 100 rfl rfl rfl (Ux F0) (λF1 it hto hO hr0 hnX hM=>?_);change Bd _ _ _ _ _ ([1]++[]) _ _;refine FL w1 100 [1] [] ?_;refine AE kB ?_;refine Bd.nil ?_;refine AI MW el AB AB AB AB AB AB ?_;refine GL (α:=Nat×C5×Obj×Nat) (λp=>⟨[(3,.prim (.map (some it))),(12,Ae b l),(13,i64 (l.length:Int)),(14,i64 (p.1:Int))],[],p.2.2.2⟩) (λp=>l.length-p.1)
  (λp F=>p.1<=l.length/\C3 C0 F0 F [⟨100,1,p.2.2.1⟩]/\F.r0 100 1=some it/\HV F p.2.2.1 p.2.1/\MQ (w*(64*p.1)) (CH (l.take p.1)) p.2.1) (0,[],.map #[] 0,_) ⟨BU _,hO,hr0,hM,trivial⟩ AL ?_
 clear hO hr0 hM hto;rintro⟨i,m,o,n1⟩ F ⟨hi,hO,hr0,hM,hQ⟩;dsimp only at hi hO hr0 hM hQ⊢;rcases BG i l.length with h2|h2
 rotate_left
 ·have e1:=CW h2
  have:i=l.length:=by omega
  subst this;rw[C8]at hQ;refine sZ 300 ?_;refine AE e1 ?_;refine AC.seq ?_;refine AO ?_;refine CA ?_;refine dS [(3,mapD m)] hO hr0 hnX hM ⟨.inr ⟨rfl,rfl⟩,trivial⟩ (λF2 hto2 hO2=>?_);refine AI MW kB AB AB AB AB AB AB ?_;exact⟨mapD m,.refl _,hQ.mapD,m,rfl,hQ⟩
 have e1:=CX h2;have wi:=CY (i:=i) (by omega);obtain⟨x,hxi⟩:=CG h2;obtain⟨x1,x2,x3⟩:=hx x (A0 hxi);have hm:(l.map AF.D)[i]?=some (.agg [str (sb x.grain),i64 x.mass,.sl false 2 (x.shs.map Av.D)]):=by rw[A7,hxi];rfl
 have es:(((x.shs.map Av.D).length:Nat):Int)=(x.shs.length:Int):=by rw[Am]
 refine AI MW (At e1 es kN) hm AB AB AB AB AB ?_;obtain⟨ga,hga⟩:∃g,n1+1+1+1=g:=⟨_,rfl⟩
 refine GL (α:=Nat×C5×Obj×Nat) (λp=>⟨[(3,.prim (.map (some it))),(5,.optr 402 (n1+1+1+1) 3 0 0),(12,Ae b l),(13,i64 (l.length:Int)),(14,i64 (i:Int)),(19,.sl false 2 (x.shs.map Av.D)),(20,i64 (x.shs.length:Int)),(21,i64 (p.1:Int))],[⟨402,n1+1+1+1,27,3,[.agg [str (sb x.grain),i64 x.mass,.sl false 2 (x.shs.map Av.D)]]⟩],p.2.2.2⟩) (λp=>x.shs.length-p.1)
  (λp F=>p.1<=x.shs.length/\C3 C0 F0 F [⟨100,1,p.2.2.1⟩]/\F.r0 100 1=some it/\HV F p.2.2.1 p.2.1/\MQ (w*(64*i+p.1)) (GD x p.1 (CH (l.take i))) p.2.1) (0,m,o,_) ⟨BU _,hO,hr0,hM,hQ⟩ AL ?_
 clear hO hr0 hM hQ;rintro⟨j,m2,o2,n2⟩ F ⟨hj,hO,hr0,hM,hQ⟩;dsimp only at hj hO hr0 hM hQ⊢;rw[hga];rcases BG j x.shs.length with h3|h3
 rotate_left
 ·have e2:=CW h3
  have:j=x.shs.length:=by omega
  subst this;rw[<-PZ l i hxi]at hQ;refine AI MW (Ac e2 wi) AB AB AB AB AB AB ?_;exact⟨(i+1,m2,o2,_),⟨h2,hO,hr0,hM,hQ.mono (Cd _ (by dsimp only;omega))⟩,by dsimp only;omega,AL⟩
 have e2:=CX h3;have wj:=CY (i:=j) (by omega);obtain⟨s,hsj⟩:=CG h3;obtain⟨s1,s2,s3,s4⟩:=x3 s (A0 hsj);have hms:(x.shs.map Av.D)[j]?=some (.agg [str (sb s.lot),str (sb s.part)]):=by rw[A7,hsj];rfl
 have hsn:=NY x j (CH (l.take i)) hsj;have fP:FR (CR s.part) (GC s.part) (w-2):=⟨(Qn s3).is,s4⟩
 obtain⟨PW,hPW⟩:∃P,w*(64*i+j)=P:=⟨_,rfl⟩
 have hPW1:w*(64*i+(j+1))=PW+w:=by rw[<-hPW,<-EW,Nat.mul_succ]
 have hPWb:PW+w<=100000:=by
  rw[<-hPW1];exact BR (Cd _ (by omega)) hw
 rw[hPW]at hQ;have fM:FR ((x.mass:Int):Rat) ⟨AX x.mass,1⟩ 1:=QD (by unfold Sm at x2;omega);have c1:=Qa s2 s3;have c2:=Od x.mass x2;have c3:=Ta fP fM (by omega);have fZ:FR (CR s.part*(x.mass:Rat)) (IH (GC s.part) ⟨AX x.mass,1⟩) (w-2+1):=S5 fP fM;obtain⟨z,hz⟩:∃z,IH (GC s.part) ⟨AX x.mass,1⟩=z:=⟨_,rfl⟩
 rw[hz]at c3 fZ;obtain⟨d1,hd1⟩:∃d,(GC s.part).D=d:=⟨_,rfl⟩
 obtain⟨d2,hd2⟩:∃d,(⟨AX x.mass,1⟩:GF).D=d:=⟨_,rfl⟩
 have pd1:AA d1:=by rw[<-hd1];exact AJ
 have pd2:AA d2:=by rw[<-hd2];exact AJ
 rw[hd1]at c1 c3;rw[hd2]at c2 c3;refine sZ 600 ?_;refine AE e2 ?_;refine AC.seq ?_;refine AO ?_;refine Ap ?_;refine AC.seq ?_;refine AC.block ?_;refine sZ 700 ?_;refine Br kT hms ?_;refine AE kB ?_;refine AC.seq ?_;refine B8 w1 800 [0,1,2,3,4,5,6,7] [8] (by kernel_rfl) ?_;refine AE kB ?_;refine BX.same _ (c1) AJ ?_;refine BO ?_;refine AE kB ?_;refine BX.same _ (c2) AJ ?_;refine BO ?_;refine AE kB ?_;refine BX.same _ (c3) AJ ?_;refine BO ?_;refine AE kB ?_;refine AC.seq ?_;refine AC.seq ?_;refine Hh (by kernel_rfl) ?_;change Bd _ _ _ _ _ ([0,1,2]++(3::([4,5,6,7,8,9]++[]))) _ _;refine FL w1 900 [0,1,2] _ ?_;refine AE kB ?_;refine Bd.look (xo:=⟨100,1,o2⟩) (l:=m2) w1 rfl rfl rfl rfl rfl rfl hO Cg hr0 hM ?_;rcases hQ.look s.lot with⟨q1,q2⟩|⟨r,y,q1,q2,q3⟩
 ·rw[Vz q1]
  refine FL w1 900 [4,5,6,7,8,9] [] ?_;refine AE kB ?_;refine Bd.nil ?_;refine Aw ?_;refine sZ 1000 ?_;refine AE kB ?_;refine AO ?_;refine Ap ?_;refine Hh (by kernel_rfl) ?_;change Bd _ _ _ _ _ ([0,1,2,3]++(4::[])) _ _;refine FL w1 1200 [0,1,2,3] _ ?_;refine AE kB ?_;refine Bd.put (l:=m2) w1 rfl rfl rfl rfl rfl rfl hO hr0 hM (λF3 o3 hto3 hO3 hr3 hM3=>Bd.nil ?_);refine Aw ?_;have hQ2:MQ (w*(64*i+(j+1))) (GD x (j+1) (CH (l.take i))) (FH (sb s.lot) z.D m2):=by
   rw[hsn,hPW1];unfold Ji;rw[q2];exact MQ.set s.lot ⟨fZ.is,fZ.rk.mono (by omega)⟩ (hQ.mono (by omega))
  refine AI MW wj AB AB AB AB AB AB ?_;exact⟨(j+1,FH (sb s.lot) z.D m2,o3,_),⟨h3,hO3,hr3,hM3,hQ2⟩,by dsimp only;omega,AL⟩
 ·rw[V0 q1]
  refine FL w1 900 [4,5,6,7,8,9] [] ?_;refine AE kB ?_;refine Bd.nil ?_;have c4:=Qp fZ q3 (by omega);have fA:=QJ fZ q3;obtain⟨z2,hz2⟩:∃z2,Jg z y=z2:=⟨_,rfl⟩
  rw[hz2]at c4 fA;refine Aw ?_;refine sZ 1000 ?_;refine AE kB ?_;refine AO ?_;refine Aq w1 1100 (by kernel_rfl) ?_;refine AE kB ?_;refine cI c4 ?_;refine AE kB ?_;refine Hh (by kernel_rfl) ?_;change Bd _ _ _ _ _ ([0,1,2,3]++(4::[])) _ _;refine FL w1 1200 [0,1,2,3] _ ?_;refine AE kB ?_;refine Bd.put (l:=m2) w1 rfl rfl rfl rfl rfl rfl hO hr0 hM (λF3 o3 hto3 hO3 hr3 hM3=>Bd.nil ?_);refine Aw ?_;have hQ2:MQ (w*(64*i+(j+1))) (GD x (j+1) (CH (l.take i))) (FH (sb s.lot) z2.D m2):=by
   rw[hsn,hPW1];unfold Ji;rw[q2];exact MQ.set s.lot ⟨fA.is,fA.rk.mono (by omega)⟩ (hQ.mono (by omega))
  refine AI MW wj AB AB AB AB AB AB ?_;exact⟨(j+1,FH (sb s.lot) z2.D m2,o3,_),⟨h3,hO3,hr3,hM3,hQ2⟩,by dsimp only;omega,AL⟩
theorem AF.ok.w5 {x:AF}(h:x.ok):x.okW 5:=⟨h.1,h.2.1,λs hs=>by
 obtain⟨a,b,c⟩:=h.2.2 s hs;exact⟨a,by omega,c,dh c b⟩⟩
theorem vO (b:Bool)(l:List AF)(hl:l.length<=100)(hx:∀x∈l,x.ok):Ak C0 62 [Ae b l] (λd=>∃m,d=mapD m/\MQ 32000 (CH l) m):=
 (aD 5 b l hl (λx h=>(hx x h).w5) (by omega) (by omega)).mono λd ⟨m,h1,h2⟩=>⟨m,h1,h2.mono (by omega)⟩
def UX (r:Rat):List UInt8:=if Dk r=true then[]else BN r
def UW (r:Rat):Nat:=if Dk r=true then 4 else 0
set_option maxHeartbeats 8000000
theorem T4 {l:List UInt8}(h:Ca l=0):rR (CR l)=str (sb l):=by unfold rR;rw[(No h).2.2.1]
set_option maxHeartbeats 4000000
theorem WJ (n:Nat):C4 (Lib.decDigits n)=true:=by
 obtain⟨h1,h2,h3⟩:=EQ n;rcases Db n with h|h
 ·have e:Lib.decDigits n=[48]:=by
   have:=Xg 0
   rw[h];exact DA (this.trans (AY rfl))
  rw[e];rfl
 ·obtain⟨c,l,e,hc⟩:=kU (Nat.pos_iff_ne_zero.1 h)
  rw[e]at h1⊢;unfold C4 Kc;rw[h1];simp[hc]
theorem Tl {n:Nat}{l:List UInt8}(h:n≠dv l):decide (Lib.decDigits n=l)=false:=Ah λe=>h (by rw[<-e,(EQ n).2.1])
theorem l6 {r:Rat}(h:Dk r=false):Ca (BN r)=0:=by
 have hs:B1 (BN r)=Lib.decDigits r.num.natAbs:=by unfold B1;rw[OB,(MK _).2]
 have hd:=MS r;have hh:=QT r;unfold Dk at h;simp only[Ix,IR]at h;have hb:JJ (BN r)=false:=by
  rw[PX,hs,TW,hh,WJ];have e1:(decide (r.num<0)&&decide (Lib.decDigits r.num.natAbs=[48]))=false:=by
   by_cases g:r.num<0
   ·rw[Tl (show r.num.natAbs≠dv [48] by show r.num.natAbs≠0;omega),Bool.and_false]
   ·rw[Ah g,I1]
  rw[e1]
  by_cases g:r.den=1
  ·rw[AY g];rfl
  ·rw[hd,AG g,WJ,Tl (show r.den≠dv [48]from r.den_nz),Tl (show r.den≠dv [49]from g),Ah g];rfl
 unfold Ca;rw[hb,AG (by decide),hs]
 by_cases g:r.den=1
 ·rw[hd,AH g,hh,AY g,AG (by simp;omega),AG (λk=>AZ k.1 (by decide))]
 ·rw[hd,AG g,(EQ _).2.1,(EQ _).2.1,AG (by omega),AG (λk=>k.2 r.reduced)]
theorem jM (r:Rat):CR (BN r)=r:=by
 unfold CR Gd;rw[OB,YP,QT,MS]
 by_cases g:r.den=1
 ·rw[AY g]
  show mkRat r.num 1=r;rw[<-g];exact Rat.mkRat_self r
 ·rw[Ah g,AG g,(EQ _).2.1]
  exact Rat.mkRat_self r
theorem m7:rR 0=str ⟨#[48]⟩:=by
 have h:CR [48]=0:=by kernel_rfl
 rw[<-h,T4 (by kernel_rfl)];all_goals rfl
theorem iA (r:Rat):BK (sb (BN r)) ⟨#[49]⟩=decide (r=1):=by
 have h1:CR [49]=1:=by kernel_rfl
 have e:(⟨#[49]⟩:ByteArray)=sb [49]:=rfl;rw[e,Et,Cz];constructor
 ·intro h
  rw[<-jM r,h,h1]
 ·intro h
  rw[h]
  have:=(No (l:=[49]) (by kernel_rfl)).2.2.1
  rwa [h1]at this
end Go.Ide
namespace Go.Proofs
open Go.Shelf Go.RowKit Go.Lib Go.Sort
def Tryz.sortAmounts_ren:Go.Shelf.Ren:=⟨fun|6=>115|15=>163|14=>162|28=>222|29=>223|20=>214|21=>215|22=>216|23=>217|24=>218|25=>219|26=>220|27=>221|46=>263|47=>264|48=>265|49=>266|50=>267|57=>294|n=>n,fun|22=>31|24=>93|25=>158|3=>3|39=>203|0=>0|53=>254|55=>225|4=>4|46=>247|45=>246|50=>251|5=>5|9=>9|66=>280|70=>284|76=>305|77=>306|n=>n,fun|n=>n⟩
theorem x5:Go.Proofs.SlLaysF0.n6 Tryz.prog Tryz.sortAmounts_ren:={
 mixed:=by kernel_rfl
 f6:=⟨Tryz.f115.name,by decide,Tryz.func115.trans (congrArg some (by kernel_rfl))⟩
 f14:=⟨Tryz.f162.name,by decide,Tryz.func162.trans (congrArg some (by kernel_rfl))⟩
 f15:=Tryz.func163.trans (congrArg some (by kernel_rfl))
 f20:=⟨Tryz.f214.name,by decide,Tryz.func214.trans (congrArg some (by kernel_rfl))⟩
 f21:=⟨Tryz.f215.name,by decide,Tryz.func215.trans (congrArg some (by kernel_rfl))⟩
 f22:=⟨Tryz.f216.name,by decide,Tryz.func216.trans (congrArg some (by kernel_rfl))⟩
 f23:=⟨Tryz.f217.name,by decide,Tryz.func217.trans (congrArg some (by kernel_rfl))⟩
 f24:=⟨Tryz.f218.name,by decide,Tryz.func218.trans (congrArg some (by kernel_rfl))⟩
 f25:=⟨Tryz.f219.name,by decide,Tryz.func219.trans (congrArg some (by kernel_rfl))⟩
 f26:=⟨Tryz.f220.name,by decide,Tryz.func220.trans (congrArg some (by kernel_rfl))⟩
 f27:=⟨Tryz.f221.name,by decide,Tryz.func221.trans (congrArg some (by kernel_rfl))⟩
 f28:=Tryz.func222.trans (congrArg some (by kernel_rfl))
 f29:=Tryz.func223.trans (congrArg some (by kernel_rfl))
 f46:=⟨Tryz.f263.name,by decide,Tryz.func263.trans (congrArg some (by kernel_rfl))⟩
 f47:=Tryz.func264.trans (congrArg some (by kernel_rfl))
 f48:=Tryz.func265.trans (congrArg some (by kernel_rfl))
 f49:=⟨Tryz.f266.name,by decide,Tryz.func266.trans (congrArg some (by kernel_rfl))⟩
 f50:=⟨Tryz.f267.name,by decide,Tryz.func267.trans (congrArg some (by kernel_rfl))⟩
 f57:=⟨Tryz.f294.name,by decide,Tryz.func294.trans (congrArg some (by kernel_rfl))⟩
 t0:=Tryz.underlying0
 a0:=Tryz.isAgg0
 z0:=Tryz.sizeOf0
 v0:=Tryz.zeroValue0
 t3:=Tryz.underlying3
 a3:=Tryz.isAgg3
 z3:=Tryz.sizeOf3
 v3:=Tryz.zeroValue3
 t4:=Tryz.underlying4
 a4:=Tryz.isAgg4
 z4:=Tryz.sizeOf4
 v4:=Tryz.zeroValue4
 t5:=Tryz.underlying5
 a5:=Tryz.isAgg5
 z5:=Tryz.sizeOf5
 v5:=Tryz.zeroValue5
 t9:=Tryz.underlying9
 a9:=Tryz.isAgg9
 z9:=Tryz.sizeOf9
 v9:=Tryz.zeroValue9
 t22:=Tryz.underlying31
 a22:=Tryz.isAgg31
 z22:=Tryz.sizeOf31
 v22:=Tryz.zeroValue31
 t25:=Tryz.underlying158
 a25:=Tryz.isAgg158
 z25:=Tryz.sizeOf158
 v25:=Tryz.zeroValue158
 t39:=Tryz.underlying203
 a39:=Tryz.isAgg203
 z39:=Tryz.sizeOf203
 v39:=Tryz.zeroValue203
 t45:=Tryz.underlying246
 a45:=Tryz.isAgg246
 z45:=Tryz.sizeOf246
 v45:=Tryz.zeroValue246
 t46:=Tryz.underlying247
 a46:=Tryz.isAgg247
 z46:=Tryz.sizeOf247
 v46:=Tryz.zeroValue247
 t50:=Tryz.underlying251
 a50:=Tryz.isAgg251
 z50:=Tryz.sizeOf251
 v50:=Tryz.zeroValue251
 t53:=Tryz.underlying254
 a53:=Tryz.isAgg254
 z53:=Tryz.sizeOf254
 v53:=Tryz.zeroValue254
 t55:=Tryz.underlying225
 a55:=Tryz.isAgg225
 z55:=Tryz.sizeOf225
 v55:=Tryz.zeroValue225
 t66:=Tryz.underlying280
 a66:=Tryz.isAgg280
 z66:=Tryz.sizeOf280
 v66:=Tryz.zeroValue280
 t70:=Tryz.underlying284
 a70:=Tryz.isAgg284
 z70:=Tryz.sizeOf284
 v70:=Tryz.zeroValue284
 t76:=Tryz.underlying305
 a76:=Tryz.isAgg305
 z76:=Tryz.sizeOf305
 v76:=Tryz.zeroValue305
 t77:=Tryz.underlying306
 a77:=Tryz.isAgg306
 z77:=Tryz.sizeOf306
 v77:=Tryz.zeroValue306 }
end Go.Proofs
namespace Go.Ide
open Go.Proofs Go.RowKit Go.Sort
set_option maxRecDepth 20000
def Ck (p:List UInt8×Rat):D:=.agg [str (sb p.1),str (sb (BN p.2))]
instance d5R (p:List UInt8×Rat):AW (Ck p):=by unfold Ck;exact AJ
instance d5S (p:List UInt8×Rat):AA (Ck p):=by unfold Ck;exact AJ
def Ke (p:List UInt8×Rat):List Value:=[.string (sb p.1),.string (sb (BN p.2))]
def Hb (x y:List UInt8):Int:=if x<y then -1 else if y<x then 1 else 0
theorem Pm (x y:List UInt8×Rat):ltOf (λx y:List UInt8×Rat=>Hb x.1 y.1) x y=ltStr x.1 y.1:=by
 unfold ltOf Hb ltStr
 by_cases h:x.1<y.1
 ·simp[h]
 ·by_cases h2:y.1<x.1<;>simp[h,h2]
theorem xM:SWO (ltOf (λx y:List UInt8×Rat=>Hb x.1 y.1)) where
 irrefl x:=by rw[Pm];exact swo_ltStr.irrefl _
 trans x y z h1 h2:=by rw[Pm]at*;exact swo_ltStr.trans _ _ _ h1 h2
 ntrans x y z h1 h2:=by rw[Pm]at*;exact swo_ltStr.ntrans _ _ _ h1 h2
set_option maxHeartbeats 1000000 in
theorem iY (x:ByteArray)(W:World):Calls Tryz.prog 164 #[.string x] W λe w'=>e=.returned (.bool false)/\w'=W:=by
 go_enter Tryz.func164,Tryz.ntmps164
 go_wp2
 go_ret
 exact⟨by simp,rfl⟩
set_option maxHeartbeats 1000000 in
theorem fp (x y:List UInt8)(W:World):Calls Tryz.prog 117 #[.string (sb x),.string (sb y)] W λe w'=>e=.returned (.int .i64 (Hb x y))/\w'=W:=by
 go_enter Tryz.func117,Tryz.ntmps117
 go_wp2_with (go_at_call 164;refine(iY _ _).mono ?_;rintro e w' ⟨rfl,hw⟩;rw[hw])
 all_goals go_ret
 all_goals(refine⟨?_,rfl⟩)
 ·have h:Op.bytesLess x y=true:=by assumption
  rw[bytesLess_eq,Gk]at h;unfold Hb;rw[AH h];rfl
 ·have h:Op.bytesLess x y=false:=by assumption
  have h2:(!x==y)=true:=by assumption
  rw[bytesLess_eq,IR]at h;have h3:y<x:=Cy λq=>by
   have:=List.le_antisymm (List.not_lt.1 q) (List.not_lt.1 h)
   simp[this]at h2
  unfold Hb;rw[AG h,AH h3];rfl
 ·have h:Op.bytesLess x y=false:=by assumption
  have h2:(!x==y)=false:=by assumption
  rw[bytesLess_eq,IR]at h;have h3:¬y<x:=λq=>by
   have:x=y:=by simpa using h2
   rw[this]at q;exact List.lt_irrefl _ q
  unfold Hb;rw[AG h,AG h3];rfl
set_option maxHeartbeats 1000000 in
theorem fo (x y:List UInt8×Rat)(W:World):Calls Tryz.prog 116 #[.agg (Ke x).toArray,.agg (Ke y).toArray] W λe w'=>e=.returned (.int .i64 (Hb x.1 y.1))/\∃q os',w'=grow (W.drewN q) os':=by
 have hcon:=fp x.1 y.1;unfold Ke;generalize Hb x.1 y.1=r at hcon⊢;generalize sb x.1=a at hcon⊢;generalize sb y.1=b at hcon⊢;generalize sb (BN x.2)=c;generalize sb (BN y.2)=d
 go_enter Tryz.func116,Tryz.ntmps116
 go_wp2_with (go_at_call 117;refine(hcon _).mono ?_;rintro e w' ⟨rfl,rfl⟩)
 go_ret
 exact⟨rfl,0,_,by rw[alloc_eq_grow,alloc_eq_grow,grow_grow];rfl⟩
theorem yH:(Tryz.prog.info? 93).map (λi=>i.size)=some 2:=by kernel_rfl
theorem eB:H6 Tryz.prog 93=true:=by kernel_rfl
theorem yI:(Tryz.prog.underlying 93).isSome=true:=by kernel_rfl
theorem ur (w:World):(Go.sizeOf 93).run Tryz.prog w=.ok 2 w:=by
 obtain⟨i,h1,h2⟩:=Option.map_eq_some_iff.1 yH;rw[GV h1,h2]
theorem wF (w:World):(isAgg 93).run Tryz.prog w=.ok true w:=by
 obtain⟨u,h1⟩:=Option.isSome_iff_exists.1 yI;rw[Pq h1,eB]
theorem tV:ZC Tryz.prog 115 116 Ke 2 (ltOf λx y:List UInt8×Rat=>Hb x.1 y.1):=λblk cap d w hH hb hd=>
 AnyQ.slices_SortFunc x5 2 wF ur Ke (λ_=>rfl) (λx v hv=>by simp[Ke]at hv;rcases hv with rfl|rfl<;>rfl)
  (λx y=>Hb x.1 y.1) xM 116 #[] blk 0 cap d w (enters_of Tryz.func116 (by kernel_rfl) rfl) (λ_ _ _ _ x y=>fo x y _) hH hb hd
theorem eU (l:List (List UInt8×Rat))(hl0:l≠[])(hl:l.length<4611686018427387904)(kb gg:Nat)(H:Hp)(n:Nat):
  CO C0 115 [.osl kb gg 2 0 l.length,.clo (.func 116) [] []] (⟨kb,gg,93,2,l.map Ck⟩::H) n
   (λd H' n'=>d=.tup []/\n'=n+1/\∃l':List (List UInt8×Rat),l'.Perm l/\l'.Pairwise (λa b=>ltStr b.1 a.1=false)/\H'=⟨kb,gg,93,2,l'.map Ck⟩::H):=
 (jB (C:=C0) (f:=115) (g:=116) (enc:=Ke) (k:=2) (toD:=Ck) (lt:=ltOf λx y:List UInt8×Rat=>Hb x.1 y.1) (by obtain⟨fn,a1,a2,a3,-⟩:=Zh;exact⟨fn,_,a1,a2,a3⟩) (by decide) (λ_=>rfl) (λx v hv=>by simp[Ke]at hv;rcases hv with rfl|rfl<;>rfl) (λx=>rfl) tV l hl0 hl kb gg _ H n).mono λd H' n' ⟨h1,h2,l',h3,h4,h5⟩=>
  ⟨h1,h2,l',h3,h4.imp λh=>by rw[Pm]at h;exact h,h5⟩
theorem jC:AK C0 115 [CK,.clo (.func 116) [] []] (.tup []):=CE DV 400 40 (by kernel_rfl)
end Go.Ide
namespace Go.Proofs
open Go.Shelf Go.RowKit Go.Lib Go.Sort
def Tryz.sortedZ_ren:Go.Shelf.Ren:=⟨fun|6=>107|8=>155|9=>156|11=>205|13=>163|12=>206|23=>222|24=>223|14=>244|15=>245|16=>246|17=>247|18=>248|19=>249|20=>250|21=>251|22=>252|25=>283|26=>264|27=>265|28=>284|29=>285|30=>164|31=>302|n=>n,fun|26=>9|28=>149|24=>146|0=>0|3=>3|37=>203|48=>254|50=>225|4=>4|40=>247|39=>246|45=>251|5=>5|9=>9|51=>280|55=>284|57=>305|58=>306|33=>99|n=>n,fun|n=>n⟩
theorem x6:Go.Proofs.SlLaysZ.n6 Tryz.prog Tryz.sortedZ_ren:={
 mixed:=by kernel_rfl
 f6:=⟨Tryz.f107.name,by decide,Tryz.func107.trans (congrArg some (by kernel_rfl))⟩
 f8:=⟨Tryz.f155.name,by decide,Tryz.func155.trans (congrArg some (by kernel_rfl))⟩
 f11:=⟨Tryz.f205.name,by decide,Tryz.func205.trans (congrArg some (by kernel_rfl))⟩
 t0:=Tryz.underlying0
 a0:=Tryz.isAgg0
 z0:=Tryz.sizeOf0
 v0:=Tryz.zeroValue0
 t24:=Tryz.underlying146
 a24:=Tryz.isAgg146
 z24:=Tryz.sizeOf146
 v24:=Tryz.zeroValue146
 t26:=Tryz.underlying9
 a26:=Tryz.isAgg9
 z26:=Tryz.sizeOf9
 v26:=Tryz.zeroValue9
 t28:=Tryz.underlying149
 a28:=Tryz.isAgg149
 z28:=Tryz.sizeOf149
 v28:=Tryz.zeroValue149
 i26:=by kernel_rfl }
def Tryz.keysZ_ren:Go.Shelf.Ren:=⟨fun|10=>157|n=>n,fun|33=>99|23=>102|0=>0|4=>4|26=>9|3=>141|n=>n,fun|n=>n⟩
theorem xZ:Go.Proofs.SlLaysZ.n10 Tryz.prog Tryz.keysZ_ren:={
 mixed:=by kernel_rfl
 f10:=⟨Tryz.f157.name,by decide,Tryz.func157.trans (congrArg some (by kernel_rfl))⟩
 t0:=Tryz.underlying0
 a0:=Tryz.isAgg0
 z0:=Tryz.sizeOf0
 v0:=Tryz.zeroValue0
 t4:=Tryz.underlying4
 a4:=Tryz.isAgg4
 z4:=Tryz.sizeOf4
 v4:=Tryz.zeroValue4
 t23:=Tryz.underlying102
 a23:=Tryz.isAgg102
 z23:=Tryz.sizeOf102
 v23:=Tryz.zeroValue102
 t26:=Tryz.underlying9
 a26:=Tryz.isAgg9
 z26:=Tryz.sizeOf9
 v26:=Tryz.zeroValue9
 t33:=Tryz.underlying99
 a33:=Tryz.isAgg99
 z33:=Tryz.sizeOf99
 v33:=Tryz.zeroValue99 }
def Tryz.sortM_ren:Go.Shelf.Ren:=⟨fun|6=>156|8=>163|9=>206|19=>222|20=>223|21=>244|22=>245|23=>246|24=>247|25=>248|26=>249|27=>250|28=>251|29=>252|36=>283|31=>264|32=>265|37=>284|38=>285|39=>164|41=>302|n=>n,fun|27=>146|29=>9|3=>3|32=>203|26=>146|0=>0|44=>254|46=>225|4=>4|36=>247|35=>246|41=>251|5=>5|9=>9|53=>280|57=>284|63=>305|64=>306|n=>n,fun|n=>n⟩
theorem dV:Go.Proofs.SlLaysM.n6 Tryz.prog Tryz.sortM_ren:={
 mixed:=by kernel_rfl
 f6:=⟨Tryz.f156.name,by decide,Tryz.func156.trans (congrArg some (by kernel_rfl))⟩
 f8:=Tryz.func163.trans (congrArg some (by kernel_rfl))
 f9:=⟨Tryz.f206.name,by decide,Tryz.func206.trans (congrArg some (by kernel_rfl))⟩
 f19:=Tryz.func222.trans (congrArg some (by kernel_rfl))
 f20:=Tryz.func223.trans (congrArg some (by kernel_rfl))
 f21:=⟨Tryz.f244.name,by decide,Tryz.func244.trans (congrArg some (by kernel_rfl))⟩
 f22:=⟨Tryz.f245.name,by decide,Tryz.func245.trans (congrArg some (by kernel_rfl))⟩
 f23:=⟨Tryz.f246.name,by decide,Tryz.func246.trans (congrArg some (by kernel_rfl))⟩
 f24:=⟨Tryz.f247.name,by decide,Tryz.func247.trans (congrArg some (by kernel_rfl))⟩
 f25:=⟨Tryz.f248.name,by decide,Tryz.func248.trans (congrArg some (by kernel_rfl))⟩
 f26:=⟨Tryz.f249.name,by decide,Tryz.func249.trans (congrArg some (by kernel_rfl))⟩
 f27:=⟨Tryz.f250.name,by decide,Tryz.func250.trans (congrArg some (by kernel_rfl))⟩
 f28:=⟨Tryz.f251.name,by decide,Tryz.func251.trans (congrArg some (by kernel_rfl))⟩
 f29:=⟨Tryz.f252.name,by decide,Tryz.func252.trans (congrArg some (by kernel_rfl))⟩
 f31:=Tryz.func264.trans (congrArg some (by kernel_rfl))
 f32:=Tryz.func265.trans (congrArg some (by kernel_rfl))
 f36:=⟨Tryz.f283.name,by decide,Tryz.func283.trans (congrArg some (by kernel_rfl))⟩
 f37:=⟨Tryz.f284.name,by decide,Tryz.func284.trans (congrArg some (by kernel_rfl))⟩
 f38:=⟨Tryz.f285.name,by decide,Tryz.func285.trans (congrArg some (by kernel_rfl))⟩
 f39:=⟨Tryz.f164.name,by decide,Tryz.func164.trans (congrArg some (by kernel_rfl))⟩
 f41:=⟨Tryz.f302.name,by decide,Tryz.func302.trans (congrArg some (by kernel_rfl))⟩
 t0:=Tryz.underlying0
 a0:=Tryz.isAgg0
 z0:=Tryz.sizeOf0
 v0:=Tryz.zeroValue0
 t3:=Tryz.underlying3
 a3:=Tryz.isAgg3
 z3:=Tryz.sizeOf3
 v3:=Tryz.zeroValue3
 t4:=Tryz.underlying4
 a4:=Tryz.isAgg4
 z4:=Tryz.sizeOf4
 v4:=Tryz.zeroValue4
 t5:=Tryz.underlying5
 a5:=Tryz.isAgg5
 z5:=Tryz.sizeOf5
 v5:=Tryz.zeroValue5
 t9:=Tryz.underlying9
 a9:=Tryz.isAgg9
 z9:=Tryz.sizeOf9
 v9:=Tryz.zeroValue9
 t26:=Tryz.underlying146
 a26:=Tryz.isAgg146
 z26:=Tryz.sizeOf146
 v26:=Tryz.zeroValue146
 t27:=Tryz.underlying146
 a27:=Tryz.isAgg146
 z27:=Tryz.sizeOf146
 v27:=Tryz.zeroValue146
 t29:=Tryz.underlying9
 a29:=Tryz.isAgg9
 z29:=Tryz.sizeOf9
 v29:=Tryz.zeroValue9
 t32:=Tryz.underlying203
 a32:=Tryz.isAgg203
 z32:=Tryz.sizeOf203
 v32:=Tryz.zeroValue203
 t35:=Tryz.underlying246
 a35:=Tryz.isAgg246
 z35:=Tryz.sizeOf246
 v35:=Tryz.zeroValue246
 t36:=Tryz.underlying247
 a36:=Tryz.isAgg247
 z36:=Tryz.sizeOf247
 v36:=Tryz.zeroValue247
 t41:=Tryz.underlying251
 a41:=Tryz.isAgg251
 z41:=Tryz.sizeOf251
 v41:=Tryz.zeroValue251
 t44:=Tryz.underlying254
 a44:=Tryz.isAgg254
 z44:=Tryz.sizeOf254
 v44:=Tryz.zeroValue254
 t46:=Tryz.underlying225
 a46:=Tryz.isAgg225
 z46:=Tryz.sizeOf225
 v46:=Tryz.zeroValue225
 t53:=Tryz.underlying280
 a53:=Tryz.isAgg280
 z53:=Tryz.sizeOf280
 v53:=Tryz.zeroValue280
 t57:=Tryz.underlying284
 a57:=Tryz.isAgg284
 z57:=Tryz.sizeOf284
 v57:=Tryz.zeroValue284
 t63:=Tryz.underlying305
 a63:=Tryz.isAgg305
 z63:=Tryz.sizeOf305
 v63:=Tryz.zeroValue305
 t64:=Tryz.underlying306
 a64:=Tryz.isAgg306
 z64:=Tryz.sizeOf306
 v64:=Tryz.zeroValue306 }
theorem x8 (m:Nat):AnyZ.SortsIn Tryz.prog Tryz.sortedZ_ren Fence.wide m:=
 ⟨λblk off cap ss W hH hblk hsz=>callsIn_wide.2 (AnyM.slices_Sort_string dV blk off cap ss W hH hblk hsz),
  λp cap W=>callsIn_wide.2 (AnyM.slices_Sort_string_none dV p cap W)⟩
theorem x7 {H:Type}(Bm b nn:Nat)(D0:DataW H){R:Value->Option (DataW H×List MemPlace)}(w:World)(hBm:Bm<w.heap.size)
  (hm:w.cell? ⟨Bm,0,none⟩=some (.map (some b))) (hown:w.ownsMap Tryz.prog 9 R b nn D0) (hN:Maps.size D0<=10000):
  Calls Tryz.prog 107 #[.func (.func 157) #[] #[.pointer (some ⟨Bm,0,none⟩)]] w λe w'=>∃(v:Value) (ss:List (List UInt8)),e=.returned v/\ss.Perm (strKeys D0) /\
   w'.ownsRow w.heap.size 9 1 v ss.length ((ss.mergeSort (λx y=>decide (x<=y))).map encStr)/\Below w.heap.size w w':=
 (callsIn_wide.1 (AnyZ.sorted_in x6 Fence.wide 6 trivial trivial trivial trivial rfl (by omega) (x8 _) (enters_of Tryz.func156 (by kernel_rfl) rfl) 157 _ trivial (enters_of Tryz.func157 (by kernel_rfl) rfl) _ _ (Nat.le_trans hN (by decide)) (by omega) w
  (AnyZ.keys_gives xZ Fence.wide _ trivial rfl (by omega) Bm b nn D0 w hBm hm hown))).mono λe w' ⟨v,ss,h1,h2,h3,_,h5⟩=>⟨v,ss,h1,h2,h3,h5⟩
end Go.Proofs
namespace Go.Ide
open Go.Proofs Go.RowKit Go.Sort
set_option maxRecDepth 20000
def OV (ks:List (List UInt8)):List (List UInt8):=ks.mergeSort λx y=>decide (x<=y)
theorem YK (k:List UInt8)(hb:k.length<=maxLen):keyOf Tryz.prog 9 (encStr k)=some (.string k):=by
 simp[keyOf,mapKey,hb,ByteArray.size,encStr]
theorem eV {H:Type}{R:Value->Option (DataW H×List MemPlace)}{z:DataW H}(hR:∀v,R v=some (z,[]))(es:List MapEntry)(ks:List (List UInt8))(hk:es.map (·.key)=ks.map encStr)(hb:∀k∈ks,k.length<=maxLen):
  (strKeys (DataW.map ((es.map (WideElems.rg Tryz.prog 9 R)).foldr DataW.insert []))).Perm ks:=by
 show(((es.map (WideElems.rg Tryz.prog 9 R)).foldr DataW.insert []).map λp=>strOf p.1).Perm ks;refine((WideShapes.sorted_perm _).map _).trans ?_;rw[List.map_map]
 have:es.map ((λp:Lit×DataW H=>strOf p.1) ∘ WideElems.rg Tryz.prog 9 R)=ks:=by
  induction es generalizing ks with
  |nil=>
   cases ks with
   |nil=>rfl
   |cons a l=>simp at hk
  |cons e es ih=>
   cases ks with
   |nil=>simp at hk
   |cons k ks=>
    simp only[Cc,Ek]at hk;rw[Cc,ih ks hk.2 λk h=>hb k (Cn _ h)]
    congr 1
    have h1:=YK k (hb k Cg);rw[<-hk.1]at h1;show strOf ((WideElems.rd Tryz.prog 9 R e).getD _).1=k;unfold WideElems.rd;rw[h1,hR];rfl
 rw[this]
theorem Fh (l:C5)(ks:List (List UInt8))(hks:l.map (·.1)=ks.map sb)(hl:l.length<=10000)(hb:∀k∈ks,k.length<=1000)(hnd:ks.Nodup)(kb g T:Nat)(H:Hp)(n:Nat):
  CO C0 107 [.clo (.func 157) [] [.optr kb g 1 0 0]] (⟨kb,g,T,1,[mapD l]⟩::H) n
   (λd H' n'=>d=.sl false 1 ((OV ks).map λx=>str (sb x))/\H'=⟨kb,g,T,1,[mapD l]⟩::H/\n'=n+1):=by
 refine⟨by obtain⟨fn,a1,a2,a3,-⟩:=Y4;exact⟨fn,_,a1,a2,a3⟩,λF ρ w vs m fr gn hsz rep=>?_⟩;obtain⟨v0,rfl⟩:∃v0,vs = #[v0]:=by
  match vs,hsz with
  |⟨[a]⟩,_=>exact⟨a,rfl⟩
 have r0:AU ρ _ w (.clo _ [] [.optr kb g 1 0 0]) v0:=rep 0 _ rfl;cases r0 with
 |clo hf1 hc1 _ h2=>
  rename_i fs cs1 _;simp at hf1 hc1;subst hf1;obtain⟨c,rfl⟩:∃c,cs1 = #[c]:=by
   match cs1,hc1 with
   |⟨[a]⟩,_=>exact⟨a,rfl⟩
  have r1:AU ρ _ w (.optr kb g 1 0 0) c:=h2 0 _ rfl;cases r1 with
  |optr hr=>
   rename_i b;have hent:∃cs,w.heap[b]?=some (.cells cs T (0,0))/\DB ρ (AM F.X ρ (⟨kb,g,T,1,[mapD l]⟩::H)) w ⟨kb,g,T,1,[mapD l]⟩ cs:=by
    rcases m.hok.ent _ Cg with⟨h,h2⟩|⟨b2,cs2,a1,a2,a3⟩
    ·exact AZ (hr.symm.trans h2) (by simp)
    ·cases hr.symm.trans a1;exact⟨cs2,a2,a3⟩
   obtain⟨cs,hcb,hok⟩:=hent;have hlt:b<w.heap.size:=m.lt Cg hr;have hr0:=hok.rep 0 (mapD l) 0 (mapD l) rfl rfl;have h9:1<=cs.size:=by simpa using hok.len
   have hcs:0<cs.size:=h9;rw[Ax,Bc (by simpa using hcs)]at hr0;simp only[Gm,DY,IQ]at hr0;obtain⟨v,hv⟩:∃v,cs[0]=v:=⟨_,rfl⟩
   rw[hv]at hr0;unfold mapD at hr0;cases hr0 with
   |mp hO hrl hb3 h1 h2 hBo hk hvv=>
    rename_i r clock es;rw[Am]at h1;have hkey:es.toList.map (·.key)=ks.map encStr:=by
     apply O3;intro i;rw[A7,A7];have hli:=congrArg (λq=>q[i]?) hks;simp only[A7]at hli;rcases BG i l.length with hi|hi
     ·have hd:=hk i (.prim (.string l[i].1)) (by rw[A7,BI hi];rfl)
      rw[BI hi]at hli;obtain⟨kk,hkk,hkk2⟩:=Option.map_eq_some_iff.1 hli.symm;have hi2:i<es.size:=by omega
      rw[Ax,Bc hi2]at hd;rw[hkk,Iw,Bc hi2];simp only[I5,BL,IQ]at hd⊢;generalize es[i].key=kv at hd;cases hd;have h8:sb kk=l[i].1:=hkk2;rw[<-h8]
     ·have h5:ks.length=l.length:=by have:=congrArg List.length hks;simpa using this.symm
      rw[Dd (by simp;omega),Dd (by omega)];rfl
    have hkn:(es.toList.map (·.key)).Nodup:=by
     rw[hkey];exact List.pairwise_map.2 (hnd.imp λh q=>h (encStr_inj q))
    have hbm:∀k∈ks,k.length<=maxLen:=λk h=>BR (hb k h) (by decide)
    let R:Value->Option (DataW Unit×List MemPlace):=λ_=>some (.nil,[])
    have hown:w.ownsMap Tryz.prog 9 R r es.size (.map ((es.toList.map (WideElems.rg Tryz.prog 9 R)).foldr DataW.insert [])):=by
     refine⟨es,clock,hb3,⟨BR (by omega:es.size<=10000) (by decide),⟨λx hx=>?_,hBo.nodup,hkn⟩,λx hx=>?_⟩,Ai _,rfl⟩
     ·obtain⟨j,hj⟩:=List.mem_iff_getElem?.1 hx
      exact hBo.1 j x (by simpa using hj)
     ·have:x.key∈es.toList.map (·.key):=List.mem_map_of_mem hx
      rw[hkey]at this;obtain⟨k,hk1,hk2⟩:=List.mem_map.1 this;have h1:=YK k (hbm k hk1);rw[hk2]at h1;exact⟨_,by unfold WideElems.rd;rw[h1];rfl⟩
    have hsk:=eV (H:=Unit) (R:=R) (z:=.nil) (λ_=>rfl) es.toList ks hkey hbm;have hcell:w.cell? ⟨b,0,none⟩=some (.map (some r)):=by
     unfold World.cell?;simp only[hcb];rw[Bc hcs,hv];rfl
    have hsize:Maps.size (DataW.map ((es.toList.map (WideElems.rg Tryz.prog 9 R)).foldr DataW.insert []))<=10000:=by
     rw[Maps.size_eq,(WideShapes.sorted_perm _).length_eq,Am,Hn];omega
    refine(x7 b r es.size _ w hlt hcell hown hsize).mono ?_;rintro e w' ⟨v,ss,rfl,hp,hrow,hbw⟩;have hss:ss.mergeSort (λx y=>decide (x<=y))=OV ks:=mergeSort_of_perm (hp.trans hsk);rw[hss]at hrow;have x:BQ ρ (AM F.X ρ (⟨kb,g,T,1,[mapD l]⟩::H)) w ρ (AM F.X ρ (⟨kb,g,T,1,[mapD l]⟩::H)) w':=⟨hbw.size,λ_ _ _ h=>h,λb hb' hO=>⟨hO,hbw.block b hb'⟩,λb cs T fz hh=>⟨cs,_,by
     rw[hbw.block b (Array.getElem?_eq_some_iff.1 hh).1];exact hh,rfl⟩⟩
    refine⟨v,_,_,n+1,ρ,rfl,⟨rfl,rfl,rfl⟩,m.same x hbw.os hbw.tape hbw.output hbw.block,x,λa b h=>fr a b (by omega),λe he=>DE (gn e he),?_⟩;obtain⟨K,hK⟩:∃K,OV ks=K:=⟨_,rfl⟩
    rw[hK]at hrow⊢;obtain⟨hlen,⟨rfl,hz⟩|⟨gb,cap,cur,rfl,hbase,hgb,q1,q2,q3,q4⟩⟩:=hrow
    ·rw[hz,Am]at hlen
     have:K=[]:=List.length_eq_zero_iff.1 (by omega)
     rw[this];exact .nil 1
    ·rw[Am,EB]at hlen
     rw[EB]at q3 q4;have hat:∀j x,K[j]?=some x->cur[j]?=some (Value.string (sb x)):=λj x hx=>by
      have hj:j<K.length:=(List.getElem?_eq_some_iff.1 hx).1
      have:=congrArg (λq=>q[j]?) q4
      simp only[Ej,A7,hx,I5]at this;rw[AH (by omega)]at this;simpa using this
     have hall:∀j,j<ss.length*1->∃x,cur[j]?=some (Value.string (sb x)):=λj hj=>by
      have:j<K.length:=by omega
      exact⟨_,hat j _ (BI this)⟩
     refine .sl (λj=>cur.getD j undef) (by rw[Am,hlen]) q1 ?_ (Array.getElem?_eq_some_iff.1 hgb).1 ?_ ?_ ?_ ?_
     ·rintro(h|⟨e,he,h⟩)
      ·have:=m.xlt _ h;have:=m.size;omega
      ·have:=m.lt he h;omega
     ·intro i e h
      rw[A7]at h;obtain⟨x,-,rfl⟩:=Option.map_eq_some_iff.1 h;rfl
     ·intro j hj
      obtain⟨x,hx⟩:=hall j hj;unfold World.cell?;simp only[hgb,BP];rw[hx,Ax,hx];rfl
     ·intro j hj
      obtain⟨x,hx⟩:=hall j hj;rw[Ax,hx];rfl
     ·intro i e j d h h2
      rw[A7]at h;obtain⟨x,hx,rfl⟩:=Option.map_eq_some_iff.1 h
      have:j=0:=by
       have:=(List.getElem?_eq_some_iff.1 h2).1
       exact Nat.lt_one_iff.1 this
      subst this;cases h2;show AU _ _ _ _ (cur.getD (i*1+0) undef);rw[EB,DY,Ax,hat i x hx];exact .prim _
end Go.Ide
namespace Go.Ide
open Go.Proofs Go.RowKit Go.Sort
set_option maxRecDepth 20000
set_option maxHeartbeats 4000000
def qv (q:By)(j:Nat):List UInt8×Rat:=q.getD j ([],0)
theorem US {q:By}{j:Nat}{p:List UInt8×Rat}(h:q[j]?=some p):qv q j=p:=by unfold qv;rw[Ei,h];rfl
theorem MQ.len {B:Nat}:∀ {q:By} {m:C5},MQ B q m->q.length=m.length
 | [],[],_=>rfl
 |_::_,_::_,⟨_,h⟩=>by simp[MQ.len h]
theorem MQ.at_ {B:Nat}:∀ {q:By} {m:C5} (j:Nat) {e:ByteArray×D},MQ B q m->m[j]?=some e->∃(p:List UInt8×Rat) (y:GF),q[j]?=some p/\e=(sb p.1,y.D)/\FR p.2 y B
 | [],[],j,e,_,h=>by simp at h
 |p::q,e'::m,0,e,⟨⟨h1,y,h2,h3⟩,_⟩,h=>by
  simp at h;subst h;exact⟨p,y,rfl,by rw[<-h1,<-h2],h3⟩
 |_::q,_::m,j+1,e,⟨_,h4⟩,h=>by
  obtain⟨p,y,a,b,c⟩:=MQ.at_ j h4 (by simpa using h);exact⟨p,y,by simpa using a,b,c⟩
theorem Sc:∀(n:Nat) (l:List Nat),l.Nodup->(∀i∈l,i<n)->l.length<=n
 | 0,[],_,_=>Ai _
 | 0,a::l,_,h=>AZ (h a (by simp)) (GP a)
 |n+1,l,hd,h=>by
  by_cases hn:n∈l
  ·have h1:=Sc n (l.erase n) (hd.erase n) λi hi=>by
    have h2:=h i (List.mem_of_mem_erase hi);have h3:i≠n:=(hd.mem_erase_iff.1 hi).1;omega
   rw[List.length_erase_of_mem hn]at h1;omega
  ·have h1:=Sc n l hd λi hi=>by
    have h2:=h i hi;have h3:i≠n:=λe=>hn (e ▸ hi)
    omega
   omega
def FK (q:By):By:=q.mergeSort λa b=>!ltStr b.1 a.1
theorem J7 (q:By):(FK q).Perm q:=List.mergeSort_perm _ _
theorem QS (q:By):(FK q).Pairwise λa b=>ltStr b.1 a.1=false:=by
 have:=List.pairwise_mergeSort (le:=λa b:List UInt8×Rat=>!ltStr b.1 a.1) (λa b c h1 h2=>by simp only[Bi]at*;exact swo_ltStr.ntrans _ _ _ h2 h1) (λa b=>by
  cases h1:ltStr b.1 a.1 with
  |false=>rfl
  |true=>
   cases h2:ltStr a.1 b.1 with
   |false=>rfl
   |true=>have:=swo_ltStr.trans _ _ _ h1 h2;rw[swo_ltStr.irrefl]at this;cases this) q
 exact this.imp λh=>by simpa using h
theorem vG {q:By}(hn:(q.map (·.1)).Nodup){a b:List UInt8×Rat}(ha:a∈q)(hb:b∈q)(h:a.1=b.1):a=b:=by
 obtain⟨i,hi,rfl⟩:=List.mem_iff_getElem.1 ha;obtain⟨j,hj,rfl⟩:=List.mem_iff_getElem.1 hb
 have:i=j:=(List.getElem_inj (h₀:=by simpa using hi) (h₁:=by simpa using hj) hn).1 (by simpa using h)
 subst this;rfl
theorem V5 {a b:List UInt8}(h1:ltStr a b=false)(h2:ltStr b a=false):a=b:=by
 simp only[ltStr,IR,List.not_lt]at h1 h2;exact List.le_antisymm h2 h1
theorem Rz {q l l':By}(hn:(q.map (·.1)).Nodup)(hp:l.Perm q)(hp':l'.Perm q)(hs:l.Pairwise λa b=>ltStr b.1 a.1=false)(hs':l'.Pairwise λa b=>ltStr b.1 a.1=false):l=l':=
 List.Perm.eq_of_pairwise (le:=λa b:List UInt8×Rat=>ltStr b.1 a.1=false) (λ_ _ ha hb h1 h2=>vG hn (hp.mem_iff.1 ha) (hp'.mem_iff.1 hb) (V5 h2 h1)) hs hs' (hp.trans hp'.symm)
theorem sX (q:By)(dn:List Nat)(hd:dn.Nodup)(h1:∀i∈dn,i<q.length)(h2:∀i,i<q.length->i∈dn):(dn.map (qv q)).Perm q:=by
 have hp:dn.Perm (List.range q.length):=(List.perm_ext_iff_of_nodup hd List.nodup_range).2 λa=>by
  rw[List.mem_range];exact⟨h1 a,h2 a⟩
 have he:(List.range q.length).map (qv q)=q:=by
  apply List.ext_getElem (by simp);intro i h3 h4;rw[List.getElem_map,List.getElem_range];exact US (BI h4)
 have:=hp.map (qv q)
 rwa [he]at this
def JZ (q:By):By:=if q.any (λp=>Dk p.2)then[]else FK q
def IB (q:By):Nat:=if q.any (λp=>Dk p.2)then 4 else 0
def JY (q:By):D:=.tup [.sl false 2 ((JZ q).map Ck),i64 (IB q:Nat)]
instance d3Z (q:By):AA (JY q):=by unfold JY;exact AJ
theorem W7 (B:Nat)(hB9:B<100000)(q:By)(m:C5)(hm:MQ B q m)(hl:q.length<=10000)(hnd:(q.map (·.1)).Nodup):AK C0 61 [mapD m] (JY q):=by
 refine Ak.walk w1 bX rfl λF0=>?_
 obtain⟨ks,hks⟩:∃ks:List D,m.map (λp=>(.prim (.string p.1):D))=ks:=⟨_,rfl⟩
 obtain⟨vs,hvs⟩:∃vs:List D,m.map (·.2)=vs:=⟨_,rfl⟩
 have hml:=hm.len;have hkl:ks.length=m.length:=by rw[<-hks,Am]
 unfold mapD;rw[hks,hvs];refine sZ 0 ?_;refine AE kB ?_;refine sZ 100 ?_;refine AE kB ?_;refine AC.seq ?_;refine AC.seq ?_;refine Hh (by kernel_rfl) ?_;change Bd _ _ _ _ _ ([0]++(1::[])) _ _;refine FL w1 200 [0] _ ?_;refine AE kB ?_;refine xA 201 (Nk (w1.xt 102 _ rfl)).1 rfl rfl rfl rfl (Ux F0) (λF1 o1 hto hO hI=>Bd.nil ?_);refine Aw ?_;refine AC.block ?_;refine GL (α:=List Nat×Obj×Nat×Nat) (λp=>⟨[(8,.optr 201 4 0 0 0),(4,Dt 706 p.2.2.1 2 (p.1.map λj=>Ck (qv q j)))],Dj 706 p.2.2.1 93 2 (p.1.map λj=>Ck (qv q j)),p.2.2.2⟩) (λp=>q.length-p.1.length)
  (λp F=>C3 C0 F0 F [⟨201,4,p.2.1⟩]/\Mq F p.2.1 ks vs p.1/\∀j∈p.1,Dk (qv q j).2=false) ([],o1,0,_) ⟨hO,hI,by simp⟩ AL ?_
 clear hO hI hto;rintro⟨dn,o,g7,n1⟩ F ⟨hO,hI,hB⟩;dsimp only at hO hI hB⊢;refine AC.seq ?_;refine Hh (by kernel_rfl) ?_;change Bd _ _ _ _ _ [0,1] _ _;refine wz rfl rfl rfl rfl hO hI (λhall=>?_) (λj kd vd F2 o2 hjn hkd hvd hto hO2 hI2=>?_)
 ·change Bd _ _ _ _ _ ([1]++[]) _ _
  refine FL w1 300 [1] [] ?_;refine AE kB ?_;refine Bd.nil ?_;refine Aw ?_;refine AC.seq ?_;refine AO ?_;refine CA ?_;have hq2:∀j,j<q.length->j∈dn:=λj hj=>hall j (by rw[hkl,<-hml];exact hj)
  have hdn:dn.Nodup/\∀i∈dn,i<q.length:=by
   obtain⟨bm,es,clock,since,c0,seen,-,-,-,z4,-,-,-,-,-,-,-,-,z8,z9⟩:=hI;exact⟨z8,λi hi=>by have:=z9 i hi;omega⟩
  have hpm:=sX q dn hdn.1 hdn.2 hq2;have hpl:(dn.map (qv q)).length=q.length:=hpm.length_eq;have hbf:q.any (λp=>Dk p.2)=false:=by
   rw[List.any_eq_false];intro p hp;obtain⟨i,hpi⟩:=List.mem_iff_getElem?.1 hp;have hi:=(List.getElem?_eq_some_iff.1 hpi).1
   have:=hB i (hq2 i hi)
   rw[US hpi]at this;rw[this];exact Bool.false_ne_true
  have hmm:(dn.map λj=>Ck (qv q j))=(dn.map (qv q)).map Ck:=by rw[List.map_map];rfl
  rw[hmm];generalize hLL:dn.map (qv q)=LL at hpm hpl⊢;have hrs:JY q=.tup [.sl false 2 ((FK q).map Ck),i64 0]:=by unfold JY JZ IB;rw[hbf];rfl
  clear hmm hI hO hB hall hq2 hdn;rcases LL with _|⟨z,LL⟩
  ·have hqn:q=[]:=List.length_eq_zero_iff.1 (by rw[<-hpl];rfl)
   subst hqn;rw[show Dt 706 g7 2 (List.map Ck [])=CK from rfl,show Dj 706 g7 93 2 (List.map Ck [])=[]from rfl];have cS:=jC;refine AI Af kB cS AB AB AB AB AB ?_;exact⟨_,FS (.nil 2) (.refl _),AA.out,by rw[hrs,show FK []=[]from List.mergeSort_nil];rfl⟩
  ·have cS:=λkb gg H n=>eU (z::LL) (by simp) (by rw[hpl];omega) kb gg H n
   rw[Bo]at cS;rw[show Dt 706 g7 2 (List.map Ck (z::LL))=.osl 706 g7 2 0 ((LL.map Ck).length+1)from rfl,show Dj 706 g7 93 2 (List.map Ck (z::LL))=[⟨706,g7,93,2,(z::LL).map Ck⟩]from rfl,Am];refine AI Af kB cS AB AB AB AB AB ?_;refine BF.own _ (cS 706 g7 [] _) ?_;rintro d H' n' ⟨rfl,rfl,l',hp',hs',rfl⟩;have hpq:l'.Perm q:=hp'.trans hpm;have hl':=Rz hnd hpq (J7 q) hs' (QS q);have hl0:l'≠[]:=λq=>by rw[q]at hp';have:=hp'.length_eq;simp at this
   have hll:LL.length+1=l'.length:=by rw[hp'.length_eq];rfl
   rw[hll];rw[<-hl']at hrs;clear hl' cS hp' hs' hpm hll;refine AI Af kB AB AB AB AB AB AB ?_;rw[hrs];refine⟨_,FS (?_:Fz _ [] _ (.sl false 2 (l'.map Ck))) (.refl _),AA.out,rfl⟩;rcases l' with _|⟨z',t'⟩
   ·exact AZ rfl hl0
   ·have:=Qc 706 g7 93 2 ((z'::t').map Ck)
    rw[show Dt 706 g7 2 ((z'::t').map Ck)=.osl 706 g7 2 0 ((t'.map Ck).length+1)from rfl,show Dj 706 g7 93 2 ((z'::t').map Ck)=[⟨706,g7,93,2,(z'::t').map Ck⟩]from rfl,Am]at this;exact this
 change Bd _ _ _ _ _ ([1]++[]) _ _;refine FL w1 300 [1] [] ?_;refine AE kB ?_;refine Bd.nil ?_;refine Aw ?_;refine AC.seq ?_;refine AO ?_;refine Ap ?_;obtain⟨p,hp⟩:∃p,m[j]?=some p:=by
  rw[<-hks,A7]at hkd;obtain⟨p,hp,-⟩:=Option.map_eq_some_iff.1 hkd;exact⟨p,hp⟩
 obtain⟨pq,y,hq,rfl,hy⟩:=hm.at_ j hp;have hkd2:kd=str (sb pq.1):=by
  rw[<-hks,A7,hp]at hkd;exact(Fc hkd).symm
 have hvd2:vd=y.D:=by
  rw[<-hvs,A7,hp]at hvd;exact(Fc hvd).symm
 subst hkd2 hvd2;have hqv:=US hq;refine AC.block ?_;refine AC.seq ?_;refine Hh (by kernel_rfl) ?_;change Bd _ _ _ _ _ (0::([1,2,3,4,5]++[])) _ _;refine wo (xo:=⟨201,4,o2⟩) rfl rfl rfl rfl hO2 Cg hI2 hkd hvd ?_;refine FL w1 400 [1,2,3,4,5] [] ?_;refine AE kB ?_;refine Bd.nil ?_;have cL:=YL hy (by omega);have cT:=aQ hy (by omega);obtain⟨bg,hbg⟩:∃b,Dk pq.2=b:=⟨_,rfl⟩
 rw[hbg]at cL;refine Aw ?_;have hdl:dn.length+1<=q.length:=by
  have h1:∀i∈dn++[j],i<q.length:=by
   obtain⟨bm,es,clock,since,c0,seen,-,-,-,z4,-,-,-,-,-,-,-,-,-,z9⟩:=hI2;intro i hi
   have:=z9 i hi
   omega
  have h2:(dn++[j]).Nodup:=by
   obtain⟨bm,es,clock,since,c0,seen,-,-,-,-,-,-,-,-,-,-,-,-,z8,-⟩:=hI2;exact z8
  have:=Sc _ _ h2 h1
  simpa using this
 have hsn:(dn++[j]).map (λj=>Ck (qv q j))=dn.map (λj=>Ck (qv q j))++[.agg [str (sb pq.1),str (sb (BN pq.2))]]:=by rw[Cv,Cc,List.map_nil,hqv];rfl
 have hTl:(dn.map λj=>Ck (qv q j)).length=dn.length:=Am ..;obtain⟨TL,hTL⟩:∃TL,dn.map (λj=>Ck (qv q j))=TL:=⟨_,rfl⟩
 rw[hTL]at hsn hTl⊢;cases bg
 rotate_left
 ·have hrb:(D.tup [.sl false 2 [],i64 4])=JY q:=by
   have:q.any (λp=>Dk p.2)=true:=by
    rw[List.any_eq_true];exact⟨pq,A0 hq,hbg⟩
   unfold JY JZ IB;rw[this];rfl
  rcases TL with _|⟨z,TL⟩
  ·dsimp only[Ig,Ie]
   refine AI Af kB cL AB AB AB AB AB ?_;exact⟨_,FS (.nil 2) (.refl _),AA.out,hrb⟩
  ·dsimp only[HM,HN]
   refine AI Af kB cL AB AB AB AB AB ?_;exact⟨_,FS (.nil 2) (.refl _),AA.out,hrb⟩
 have hB2:∀i∈dn++[j],Dk (qv q i).2=false:=λi hi=>by
  rcases List.mem_append.1 hi with hi|hi
  ·exact hB i hi
  ·rw[List.mem_singleton]at hi;rw[hi,hqv];exact hbg
 rcases TL with _|⟨z,TL⟩
 ·dsimp only[Ig,Ie]
  refine AI Af kB cL cT AB AB AB AB ?_;exact⟨(dn++[j],o2,_,_),⟨hO2,hI2,hB2⟩,by dsimp only;rw[Bk,GQ];omega,by(dsimp only;rw[hsn];exact AL)⟩
 ·dsimp only[HM,HN]
  have htk:List.take (TL.length+1) (z::TL)=z::TL:=by simp
  rw[Bo]at hTl;refine AI Af htk cL cT AB AB AB AB ?_;exact⟨(dn++[j],o2,_,_),⟨hO2,hI2,hB2⟩,by dsimp only;rw[Bk,GQ];omega,by(dsimp only;rw[hsn,Nl];exact AL)⟩
abbrev Co (q:By):List (List UInt8):=q.map (·.1)
theorem Wv (lot:List UInt8)(r:Rat):∀q:By,Co (GE lot r q)=if lot∈Co q then Co q else Co q++[lot]
 | []=>by simp[GE,Co]
 |p::l=>by
  unfold GE
  by_cases h:lot=p.1
  ·rw[AH h]
   subst h;simp[Co]
  ·rw[AG h]
   show p.1::Co (GE lot r l)=if lot∈p.1::Co l then p.1::Co l else p.1::Co l++[lot]
   rw[Wv lot r l]
   by_cases h2:lot∈Co l
   ·rw[AH h2,AH (Cn _ h2)]
   ·rw[AG h2,AG (by
     intro q;rcases BA.1 q with q|q
     ·exact h q
     ·exact h2 q)];rfl
structure G5 (P:List UInt8->Prop)(n:Nat)(q:By):Prop where
 nd:(Co q).Nodup
 all:∀k∈Co q,P k
 len:q.length<=n
theorem G5.set {P:List UInt8->Prop}{n:Nat}{q:By}(h:G5 P n q){lot:List UInt8}(hl:P lot)(r:Rat):G5 P (n+1) (GE lot r q):=by
 have hk:=Wv lot r q;have hlen:(GE lot r q).length=(Co (GE lot r q)).length:=by simp[Co]
 have hlen2:q.length=(Co q).length:=by simp[Co]
 by_cases hm:lot∈Co q
 ·rw[AH hm]at hk
  exact⟨by rw[hk];exact h.nd,by rw[hk];exact h.all,by rw[hlen,hk,<-hlen2];have:=h.len;omega⟩
 ·rw[AG hm]at hk
  refine⟨?_,?_,?_⟩
  ·rw[hk,Dp]
   exact⟨h.nd,by simp,λa ha b hb=>by
    rw[List.mem_singleton]at hb;subst hb;exact λe=>hm (e ▸ ha)⟩
  ·rw[hk]
   intro k hk;rcases List.mem_append.1 hk with q|q
   ·exact h.all k q
   ·rw[List.mem_singleton]at q;rw[q];exact hl
  ·rw[hlen,hk,Bk,<-hlen2]
   have:=h.len
   simp;omega
theorem G5.mono {P:List UInt8->Prop}{n n':Nat}{q:By}(h:G5 P n q)(hn:n<=n'):G5 P n' q:=⟨h.nd,h.all,BR h.len hn⟩
theorem V3 {P:List UInt8->Prop}{n:Nat}{q:By}(x:AF)(h:G5 P n q)(hp:∀s∈x.shs,P s.lot):∀j,j<=x.shs.length->G5 P (n+j) (GD x j q)
 | 0,_=>h
 |j+1,hj=>by
  obtain⟨s,hs⟩:∃s,x.shs[j]?=some s:=⟨_,BI hj⟩
  rw[NY x j q hs];exact(V3 x h hp j (by omega)).set (hp s (A0 hs)) _
theorem Vj {P:List UInt8->Prop}(l:List AF)(hp:∀x∈l,x.shs.length<=64/\∀s∈x.shs,P s.lot):∀i,i<=l.length->G5 P (64*i) (CH (l.take i))
 | 0,_=>⟨by simp[CH,Co],by simp[CH,Co],by simp[CH]⟩
 |i+1,hi=>by
  obtain⟨x,hx⟩:∃x,l[i]?=some x:=⟨_,BI hi⟩
  rw[PZ l i hx];have h1:=hp x (A0 hx);exact(V3 x (Vj l hp i (by omega)) h1.2 _ (Ai _)).mono (by omega)
theorem R2 {P:List UInt8->Prop}{l:List AF}(hp:∀x∈l,x.shs.length<=64/\∀s∈x.shs,P s.lot):G5 P (64*l.length) (CH l):=by
 have:=Vj l hp l.length (Ai _)
 rwa [C8]at this
theorem MQ.keys {B:Nat}:∀ {q:By} {m:C5},MQ B q m->m.map (·.1)=(Co q).map sb
 | [],[],_=>rfl
 |p::q,e::m,⟨⟨h1,_⟩,h4⟩=>by
  simp only[Cc,Co];rw[h1]
  congr 1
  exact MQ.keys h4
theorem V2 (s:ByteArray):∀m:C5,HX s (m.map λp=>.prim (.string p.1)) (m.map (·.2))=some (Hq s m)
 | []=>rfl
 |p::l=>by
  simp only[Cc,HX,Hq];cases BK s p.1 with
  |true=>rfl
  |false=>exact V2 s l
theorem Sb:∀ {q:By} {p:List UInt8×Rat},(Co q).Nodup->p∈q->Fo p.1 q=some p.2
 |a::q,p,hn,hp=>by
  unfold Fo;have hn:(a.1::Co q).Nodup:=hn;rw[List.nodup_cons]at hn;rcases BA.1 hp with rfl|hp
  ·rw[AH rfl]
  ·rw[AG λe=>hn.1 (by rw[<-e];exact List.mem_map_of_mem hp)]
   exact Sb hn.2 hp
theorem gV (q:By):OV (Co q)=(FK q).map (·.1):=by
 unfold OV;refine List.Perm.eq_of_pairwise (le:=λx y:List UInt8=>x<=y) (λ_ _ _ _ h1 h2=>List.le_antisymm h1 h2) ?_ ?_ ?_
 ·have:=List.pairwise_mergeSort (le:=λx y:List UInt8=>decide (x<=y)) (λa b c h1 h2=>by simp only[Gk]at*;exact List.le_trans h1 h2) (λa b=>by
   rcases List.le_total a b with h|h<;>simp[h]) (Co q)
  exact this.imp λh=>by simpa using h
 ·rw[List.pairwise_map]
  exact(QS q).imp λh=>by simpa[ltStr]using h
 ·exact(List.mergeSort_perm _ _).trans ((J7 q).map _).symm
abbrev KE:Dr:=[(12,[0,1,2,3,4,5],[6])]
open Go.Proofs Go.RowKit
set_option maxRecDepth 20000
set_option maxHeartbeats 4000000
def CJ (l:List AF):Bool:=l.all λx=>BK (sb x.grain) (sb (CP l 0).grain)
def HA (l:List AF):Nat:=if l.length=0 then 2 else if 64<l.length then 5 else if Df (λi=>Ci (CP l i)) l.length≠0 then Df (λi=>Ci (CP l i)) l.length else if CJ l=false then 16 else if An l>999999999 then 4 else 0
def RJ (l:List AF):Int:=if HA l=0 then An l else 0
theorem iL (b:Bool)(v:List AF)(hl:v.length<=1000000)(hf:∀x∈v,x.few):AK C0 146 [.clo (.func 85) [] [],Ae b v] (i64 (Df (λi=>Ci (CP v i)) v.length:Nat)):=by
 refine Ak.walk w1 Zo rfl λF=>?_
 have el:(((v.map AF.D).length:Nat):Int)=(v.length:Int):=by rw[Am]
 refine AI Af el AB AB AB AB AB AB ?_;refine AC.loop (α:=Nat×Nat) (λp=>⟨[(0,.clo (.func 85) [] []),(8,Ae b v),(9,i64 (v.length:Int)),(10,i64 (p.1:Int))],[],p.2⟩) (λp=>v.length-p.1)
  (λp=>p.1<=v.length/\∀j,j<p.1->Ci (CP v j)=0) (0,_) ⟨BU _,λj h=>AZ h (GP j)⟩ AL ?_
 rintro⟨i,m⟩ F ⟨hi,hz⟩;dsimp only at hi hz⊢;rcases BG i v.length with h2|h2
 ·have e1:=CX h2
  have wi:=CY (i:=i) (by omega);obtain⟨x,hx⟩:=CG h2;have hm:(v.map AF.D)[i]?=some (.agg [str (sb x.grain),i64 x.mass,.sl false 2 (x.shs.map Av.D)]):=by rw[A7,hx];rfl
  have cL:=cq x (hf x (A0 hx));unfold AF.D at cL;rcases Nat.decEq (Ci x) 0 with hc0|hc0
  ·have e3:=GJ hc0
   have hE:=N8 (f:=λi=>Ci (CP v i)) hz h2 (by rw[FU hx];exact hc0);rw[FU hx]at hE;rw[hE];refine AI Af (At e1 e3 kN) hm cL AB AB AB AB ?_;exact AN rfl AA.out
  ·have e3:=GK hc0
   refine AI Af (BW e1 e3 wi kN) hm cL AB AB AB AB ?_;exact⟨(i+1,_),⟨h2,λj hj=>by
    rcases Nat.lt_succ_iff_lt_or_eq.1 hj with q|q
    ·exact hz j q
    ·rw[q,FU hx];exact hc0⟩,by dsimp only;omega,AL⟩
 ·have e1:=CW h2
  have:i=v.length:=by omega
  subst this;rw[ME (f:=λi=>Ci (CP v i)) hz];refine AI Af e1 AB AB AB AB AB AB ?_;exact AN rfl AA.out
theorem mV (b:Bool)(l:List AF)(hl:l.length<=1000000)(hf:∀x∈l,x.few):AK C0 102 [Ae b l] (.tup [i64 (RJ l),i64 (HA l:Nat)]):=by
 refine Ak.walk w1 Yz rfl λF=>?_
 have el:(((l.map AF.D).length:Nat):Int)=(l.length:Int):=by rw[Am]
 have hC:HA l=if l.length=0 then 2 else if 64<l.length then 5 else if Df (λi=>Ci (CP l i)) l.length≠0 then Df (λi=>Ci (CP l i)) l.length else if CJ l=false then 16 else if An l>999999999 then 4 else 0:=rfl
 have hM:RJ l=if HA l=0 then An l else 0:=rfl
 have cA:=iL b l hl hf
 by_cases h0:l.length=0
 ·rw[AH h0]at hC
  rw[hC]at hM;rw[hM,hC];have q1:((l.length:Int)==0)=true:=by rw[h0];rfl
  refine AI KE (Ac el q1) AB AB AB AB AB AB ?_;exact AN rfl AA.out
 rw[AG h0]at hC;have q1:((l.length:Int)==0)=false:=by
  rw[Bq];omega
 by_cases h64:64<l.length
 ·rw[AH h64]at hC
  rw[hC]at hM;rw[hM,hC];have q2:decide ((l.length:Int)>64)=true:=AY (by omega);refine AI KE (At el q1 q2) AB AB AB AB AB AB ?_;exact AN rfl AA.out
 rw[AG h64]at hC;have q2:decide ((l.length:Int)>64)=false:=Ah (by omega);obtain⟨K,hK⟩:∃K,Df (λi=>Ci (CP l i)) l.length=K:=⟨_,rfl⟩
 rw[hK]at hC cA;rcases Nat.decEq K 0 with hc0|hc0
 ·have e3:=GJ hc0
  rw[AH hc0]at hC;rw[hC]at hM;rw[AG hc0]at hM;rw[hM,hC];refine AI KE (BW el q1 q2 e3) cA AB AB AB AB AB ?_;exact AN rfl AA.out
 have e3:=GK hc0;rw[AG (λh=>h hc0)]at hC;have hz:∀j,j<l.length->Ci (CP l j)=0:=QA (hK.trans hc0);have hsm:=SE h64 hz;obtain⟨x0,hx0⟩:∃x,l[0]?=some x:=⟨_,BI (by omega)⟩
 have hm0:(l.map AF.D)[0]?=some (.agg [str (sb x0.grain),i64 x0.mass,.sl false 2 (x0.shs.map Av.D)]):=by rw[A7,hx0];rfl
 have hv0:=FU hx0;refine AI KE (BW el q1 q2 e3) cA AB AB AB AB AB ?_;refine AC.loop (α:=Nat×Nat) (λp=>⟨[(0,Ae b l),(5,i64 (An (l.take p.1))),(19,Ae b l),(20,i64 (l.length:Int)),(21,i64 (p.1:Int))],[],p.2⟩) (λp=>l.length-p.1)
  (λp=>p.1<=l.length/\∀x∈l.take p.1,BK (sb x.grain) (sb x0.grain)=true) (0,_) ⟨BU _,λx h=>by simp at h⟩ AL ?_
 rintro⟨i,m⟩ F ⟨hi,hs⟩;dsimp only at hi hs⊢;rcases BG i l.length with h2|h2
 rotate_left
 ·have e1:=CW h2
  have:i=l.length:=by omega
  subst this;rw[C8]at hs⊢;have hg:CJ l=true:=by
   unfold CJ;rw[CQ,hv0];exact hs
  rw[AG (by rw[hg];decide)]at hC
  by_cases h9:An l>999999999
  ·have e9:decide (An l>999999999)=true:=AY h9
   rw[AH h9]at hC;rw[hC]at hM;rw[hM,hC];refine AI KE (Ac e1 e9) AB AB AB AB AB AB ?_;exact AN rfl AA.out
  ·have e9:decide (An l>999999999)=false:=Ah h9
   rw[AG h9]at hC;rw[hC]at hM;rw[hM,hC];refine AI KE (Ac e1 e9) AB AB AB AB AB AB ?_;exact AN rfl AA.out
 have e1:=CX h2;have wi:=CY (i:=i) (by omega);obtain⟨x,hx⟩:=CG h2;have hm:(l.map AF.D)[i]?=some (.agg [str (sb x.grain),i64 x.mass,.sl false 2 (x.shs.map Av.D)]):=by rw[A7,hx];rfl
 have hsum:=SR hx;have hs1:=TD (l:=l.take i) λy hy=>hsm.2 y (IT hy)
 have hs2:=hsm.2 x (A0 hx);rw[Bf]at hs1;have ws:IntKind.i64.wrap (An (l.take i)+x.mass)=An (l.take i)+x.mass:=wI (by omega) (by omega);obtain⟨bG,hbG⟩:∃q,BK (sb x.grain) (sb x0.grain)=q:=⟨_,rfl⟩
 cases bG
 ·have hg:CJ l=false:=by
   unfold CJ;rw[List.all_eq_false];exact⟨x,A0 hx,by rw[hv0,hbG];decide⟩
  rw[AH hg]at hC;rw[hC]at hM;rw[hM,hC];refine AI KE (At e1 hbG kN) hm hm0 AB AB AB AB ?_;exact AN rfl AA.out
 ·refine AI KE (CM e1 hbG wi ws kN) hm hm0 AB AB AB AB ?_
  exact⟨(i+1,_),⟨h2,λy hy=>by
   rw[Dh,hx]at hy;rcases List.mem_append.1 hy with q|q
   ·exact hs y q
   ·have:y=x:=by simpa using q
    rw[this];exact hbG⟩,by dsimp only;omega,by(dsimp only;rw[hsum];exact AL)⟩
abbrev Ed:Dr:=[(11,[0,1,2,3,4,5,6,7],[8]),(24,[0,1,2,3,4,5,6,7,8,9,10],[11])]
open Go.Proofs Go.RowKit Go.Sort
set_option maxRecDepth 20000
set_option maxHeartbeats 4000000
def Gc (l:List AF):Nat:=if HA l≠0 then HA l else if 64<(CH l).length then 5 else if(FK (CH l)).any (λp=>Dk (p.2/(An l:Rat)))then 4 else 0
def Ef (l:List AF):List Av:=(FK (CH l)).map λp=>⟨p.1,BN (p.2/(An l:Rat))⟩
def Kj (l:List AF):AF:=if Gc l≠0 then⟨[],0,[]⟩else⟨(CP l 0).grain,An l,Ef l⟩
def AF.lite (x:AF):Prop:=x.few/\∀s∈x.shs,s.lot.length<=1000/\s.part.length<=40
theorem WH {l:List Av}(h:HT l=0):0<l.length/\l.length<=64/\∀s∈l,Da s.lot=true/\Ca s.part=0/\0<Gf (CR s.part):=by
 unfold HT at h;split at h
 ·cases h
 ·split at h
  ·cases h
  ·split at h
   ·rename_i h3;exact AZ h h3
   ·rename_i h1 h2 h3
    refine⟨by omega,by omega,λs hs=>?_⟩;obtain⟨j,hj⟩:=List.mem_iff_getElem?.1 hs;have hE:=QA (f:=FO l) (n:=l.length) (by omega) j (List.getElem?_eq_some_iff.1 hj).1;unfold FO at hE;rw[JT hj]at hE;split at hE
    ·cases hE
    ·split at hE
     ·cases hE
     ·split at hE
      ·rename_i h6;exact AZ hE h6
      ·split at hE
       ·cases hE
       ·rename_i h4 h5 h6 h7
        exact⟨by simpa using h4,by omega,by omega⟩
theorem ap {x:AF}(hl:x.lite)(h:Ci x=0):x.ok/\∀s∈x.shs,Da s.lot=true:=by
 obtain⟨h1,h2,h3,h4⟩:=Nt h;obtain⟨g1,g2,g3⟩:=WH h4;exact⟨⟨g2,by unfold Sm;omega,λs hs=>⟨BR (hl.2 s hs).1 (by omega),(hl.2 s hs).2,(g3 s hs).2.1⟩⟩,λs hs=>(g3 s hs).1⟩
theorem X7 {l:List AF}(h:HA l=0):0<l.length/\l.length<=64/\(∀x∈l,Ci x=0)/\CJ l=true/\An l<=999999999:=by
 unfold HA at h;split at h
 ·cases h
 ·split at h
  ·cases h
  ·split at h
   ·rename_i h3;exact AZ h h3
   ·split at h
    ·cases h
    ·split at h
     ·cases h
     ·rename_i h1 h2 h3 h4 h5
      refine⟨by omega,by omega,λx hx=>?_,by simpa using h4,by omega⟩;obtain⟨j,hj⟩:=List.mem_iff_getElem?.1 hx
      have:=QA (f:=λi=>Ci (CP l i)) (n:=l.length) (by omega) j (List.getElem?_eq_some_iff.1 hj).1
      rwa [FU hj]at this
theorem Xc:∀ {l:List AF},(∀x∈l,Ci x=0)->(l.length:Int)<=An l
 | [],_=>by simp[An]
 |x::l,h=>by
  have h1:=(Nt (h x Cg)).2.1;have h2:=Xc (l:=l) λy hy=>h y (Cn _ hy)
  unfold An at h2⊢;simp only[Cc,List.sum_cons,Bo];omega
theorem N9 (H:Hp)(e:Int):Fz H [] (.tup [.agg [str ⟨#[]⟩,i64 0,CK],i64 e]) (.tup [(⟨[],0,[]⟩:AF).D,i64 e]):=
 FS (.agg rfl λi d d' h h'=>by
  match i with
  | 0=>cases h;cases h';exact .refl _
  | 1=>cases h;cases h';exact .refl _
  | 2=>cases h;cases h';exact .nil 2
  |n+3=>cases h) (.refl _)
theorem al {H:Hp}{gr m sD e:D}{L:List D}(h:Fz H [] sD (.sl false 2 L)):Fz H [] (.tup [.agg [gr,m,sD],e]) (.tup [.agg [gr,m,.sl false 2 L],e]):=
 FS (.agg rfl λi d d' h1 h2=>by
  match i with
  | 0=>cases h1;cases h2;exact .refl _
  | 1=>cases h1;cases h2;exact .refl _
  | 2=>cases h1;cases h2;exact h
  |n+3=>cases h1) (.refl _)
theorem me {H:Hp}{k g T sz:Nat}{z:D}{l:List D}(he:Hp.get H k=some ⟨k,g,T,sz,z::l⟩):Fz H [] (.osl k g sz 0 (l.length+1)) (.sl false sz (z::l)):=by
 refine .osl (e:=⟨k,g,T,sz,z::l⟩) he rfl rfl rfl (by simp) (by simp) (λj d d' h1 h2=>?_) λj d d' q c c' h1 h2 h3 h4=>?_
 ·rw[BP]at h1;rw[h1]at h2;cases h2;rfl
 ·rw[BP]at h1;rw[h1]at h2;cases h2;rw[h3]at h4;cases h4;exact Fz.refl _
theorem jw (l:C5)(H:Hp)(n:Nat):CO C0 108 [mapD l] H n (λd H' n'=>∃g,d=.clo (.func 157) [] [.optr 77000 g 1 0 0]/\H'=⟨77000,g,102,1,[mapD l]⟩::H/\n'=n+4):=by
 refine CO.walk w1 Y5 rfl λF0=>?_
 obtain⟨M,hM⟩:∃M,mapD l=M:=⟨_,rfl⟩
 have hc:∃ks vs,M=.mp ks vs:=⟨_,_,hM.symm⟩
 obtain⟨ks,vs,hc⟩:=hc;subst hc;rw[hM];refine AC.seq ?_;refine Aq w1 77000 (by kernel_rfl) ?_;refine AE kB ?_;refine Aw ?_;refine AI Af kB AB AB AB AB AB AB ?_;exact⟨_,rfl,rfl,trivial⟩
theorem tH {r:Rat}{x:GF}{k:Nat}(h:FR r x k)(hk:k<100000):AK C0 109 [x.D] (.tup [str (sb (UX r)),i64 (UW r:Nat)]):=by
 refine Ak.walk w1 Y6 rfl λF=>?_
 have c1:=YL h hk;have c2:=aQ h hk;unfold UX UW;obtain⟨b,hb⟩:∃b,Dk r=b:=⟨_,rfl⟩
 rw[hb]at c1⊢;cases b
 all_goals
  refine AI Af kB c1 c2 AB AB AB AB ?_;exact AN rfl AA.out
theorem vk (b:Bool)(l:List AF)(hl:l.length<=1000000)(hf:∀x∈l,x.lite):AK C0 58 [Ae b l] (.tup [(Kj l).D,i64 (Gc l:Nat)]):=by
 refine Ak.walk w1 bV rfl λF0=>?_
 have el:(((l.map AF.D).length:Nat):Int)=(l.length:Int):=by rw[Am]
 have cM:=mV b l hl λx hx=>(hf x hx).1
 have hN:Gc l=if HA l≠0 then HA l else if 64<(CH l).length then 5 else if(FK (CH l)).any (λp=>Dk (p.2/(An l:Rat)))then 4 else 0:=rfl
 have hL:Kj l=if Gc l≠0 then⟨[],0,[]⟩else⟨(CP l 0).grain,An l,Ef l⟩:=rfl
 rcases Nat.decEq (HA l) 0 with g|g
 ·have e1:=GJ g
  rw[AH g]at hN;rw[hN,AH g]at hL;rw[hL,hN];refine AI Ed e1 cM AB AB AB AB AB ?_;exact⟨_,N9 _ _,AA.out,rfl⟩
 have e1:=GK g;rw[AG (λh=>h g)]at hN;have hmm:RJ l=An l:=by unfold RJ;rw[AH g]
 obtain⟨g1,g2,g3,g4,g5⟩:=X7 g;have hx:∀x∈l,x.ok:=λx h=>(ap (hf x h) (g3 x h)).1
 have g6:=Xc g3;rw[hmm]at cM;refine sZ 0 ?_;refine AE kB ?_;refine sZ 100 ?_;refine AE kB ?_;refine cI cM ?_;refine AE kB ?_;refine AC.seq ?_;refine sZ 200 ?_;refine AE e1 ?_;refine AO ?_;refine Ap ?_;refine AC.seq ?_;refine Hh (by kernel_rfl) ?_;change Bd _ _ _ _ _ [0,1] _ _;refine Bd.makeMap 400 rfl rfl rfl (Ux F0) (λF1 it hto hO hr0 hnX hM=>?_);change Bd _ _ _ _ _ ([1]++[]) _ _;refine FL w1 400 [1] [] ?_;refine AE kB ?_;refine Bd.nil ?_;refine AI Ed el AB AB AB AB AB AB ?_;refine GL (α:=Nat×C5×Obj×Nat) (λp=>⟨[(0,Ae b l),(2,.optr 0 0 3 0 0),(4,i64 (An l)),(6,.prim (.map (some it))),(29,Ae b l),(30,i64 (l.length:Int)),(31,i64 (p.1:Int))],[⟨0,0,27,3,[.agg [.prim (.string ⟨#[]⟩),.prim (.int .i64 0),.prim (.slice none 0 0)]]⟩],p.2.2.2⟩) (λp=>l.length-p.1)
  (λp F=>p.1<=l.length/\C3 C0 F0 F [⟨400,11,p.2.2.1⟩]/\F.r0 400 11=some it/\HV F p.2.2.1 p.2.1/\MQ (320*p.1) (CH (l.take p.1)) p.2.1) (0,[],.map #[] 0,_) ⟨BU _,hO,hr0,hM,trivial⟩ AL ?_
 clear hO hr0 hM hto;rintro⟨i,m,o,n1⟩ F ⟨hi,hO,hr0,hM,hQ⟩;dsimp only at hi hO hr0 hM hQ⊢;rcases BG i l.length with h2|h2
 rotate_left
 ·have e1:=CW h2
  have:i=l.length:=by omega
  subst this;rw[C8]at hQ;refine sZ 600 ?_;refine AE e1 ?_;refine AC.seq ?_;refine AO ?_;refine CA ?_;refine dS [(0,Ae b l),(2,.optr 0 0 3 0 0),(4,i64 (An l)),(6,mapD m)] hO hr0 hnX hM ⟨.inl rfl,.inl rfl,.inl rfl,.inr ⟨rfl,rfl⟩,trivial⟩ (λF2 hto2 hO2=>?_);have hKO:G5 (λk=>k.length<=1000) (64*l.length) (CH l):=R2 λx h=>⟨(hx x h).1,λs hs=>((hf x h).2 s hs).1⟩
  have hQ2:MQ 32000 (CH l) m:=hQ.mono (by omega);clear hQ hO hM hto2 hO2;obtain⟨q,hq⟩:∃q,CH l=q:=⟨_,rfl⟩
  have hSS:Ef l=(FK q).map λp=>⟨p.1,BN (p.2/(An l:Rat))⟩:=by rw[<-hq];rfl
  rw[hq]at hKO hQ2 hN;have hml:=hQ2.len;obtain⟨ks,hks⟩:∃ks:List D,m.map (λp=>(.prim (.string p.1):D))=ks:=⟨_,rfl⟩
  obtain⟨vs,hvs⟩:∃vs:List D,m.map (·.2)=vs:=⟨_,rfl⟩
  have hkl:ks.length=q.length:=by rw[<-hks,Am,hml]
  unfold mapD;rw[hks,hvs];refine AC.seq ?_;refine AC.seq ?_;refine Hh (by kernel_rfl) ?_;change Bd _ _ _ _ _ ([0]++(1::([2]++[]))) _ _;refine FL w1 1800 [0] _ ?_;refine AE kB ?_;refine ww (Nk (w1.xt 102 _ rfl)).1 rfl rfl rfl rfl ?_;refine FL w1 1800 [2] _ ?_;refine AE kB ?_;refine Bd.nil ?_;rw[hkl]
  by_cases h64:64<q.length
  ·rw[AH h64]at hN
   rw[hN,AH (by omega)]at hL;rw[hL,hN];have q2:decide ((q.length:Int)>64)=true:=AY (by omega);refine AI Ed q2 AB AB AB AB AB AB ?_;exact⟨_,N9 _ _,AA.out,rfl⟩
  have q2:decide ((q.length:Int)>64)=false:=Ah (by omega);rw[AG h64]at hN;rw[q2];have hmd:mapD m=.mp ks vs:=by unfold mapD;rw[hks,hvs]
  have cK:=jw m;have cS:=Fh m (Co q) hQ2.keys (by omega) hKO.all hKO.nd;rw[hmd]at cK cS;obtain⟨x0,hx0⟩:∃x,l[0]?=some x:=⟨_,BI (by omega)⟩
  have hm0:(l.map AF.D)[0]?=some (.agg [str (sb x0.grain),i64 x0.mass,.sl false 2 (x0.shs.map Av.D)]):=by rw[A7,hx0];rfl
  refine AI Ed kB hm0 AB AB AB AB AB ?_;refine BF.own _ (cK _ _) ?_;rintro d H' n' ⟨gk,rfl,rfl,rfl⟩;refine AI Ed kB AB AB AB AB AB AB ?_;refine BF.own _ (cS _ _ _ _ _) ?_;rintro d H' n' ⟨rfl,rfl,rfl⟩;refine AI Ed kB AB AB AB AB AB AB ?_;have hkey:=gV q;have hsl:(FK q).length=q.length:=(J7 q).length_eq;have hsm:∀p∈FK q,p∈q:=λp h=>(J7 q).mem_iff.1 h
  rw[hkey];obtain⟨Q,hQ⟩:∃Q,FK q=Q:=⟨_,rfl⟩
  rw[hQ]at hN hSS hsl hsm⊢;have hMs:Sm (An l):=by unfold Sm;omega
  have hM0:((An l:Int):Rat)≠0:=λh=>by
   have:=Rat.intCast_inj.1 (h.trans (Rat.intCast_zero).symm)
   omega
  have fM:FR ((An l:Int):Rat) ⟨AX (An l),1⟩ 1:=QD (by unfold Sm at hMs;omega);have cF:=Od (An l) hMs;obtain⟨kl,hkl2⟩:∃kl:List D,(List.map (λx=>str (sb x)) (Q.map (·.1)))=kl:=⟨_,rfl⟩
  have hkll:kl.length=Q.length:=by rw[<-hkl2];simp
  rw[hkl2];obtain⟨M,hMM⟩:∃M,An l=M:=⟨_,rfl⟩
  have hgr:(CP l 0).grain=x0.grain:=by rw[FU hx0]
  clear hmd cK cS hm0;rw[hMM]at hN hL hSS hMs hM0 fM cF;rw[hMM,hkll];obtain⟨g14,hg14⟩:∃g,n1+1+1+1+1+1+1+1+1+1+1=g:=⟨_,rfl⟩
  rw[hg14];refine AC.loop (α:=Nat×Nat×Nat) (λp=>⟨[(2,.optr 0 0 3 0 0),(4,i64 M),(6,.mp ks vs),(14,.optr 2006 g14 3 0 0),(78,.sl false 1 kl),(79,i64 (Q.length:Nat)),(80,i64 (p.1:Int))],
    Dj 2706 p.2.1 82 2 ((Q.take p.1).map λz=>(⟨z.1,BN (z.2/(M:Rat))⟩:Av).D)++[⟨2006,g14,27,3,[.agg [str (sb x0.grain),i64 M,Dt 2706 p.2.1 2 ((Q.take p.1).map λz=>(⟨z.1,BN (z.2/(M:Rat))⟩:Av).D)]]⟩,⟨0,0,27,3,[.agg [.prim (.string ⟨#[]⟩),.prim (.int .i64 0),.prim (.slice none 0 0)]]⟩],p.2.2⟩) (λp=>Q.length-p.1)
   (λp=>p.1<=Q.length/\∀z∈Q.take p.1,Dk (z.2/(M:Rat))=false) (0,0,_) ⟨BU _,λz h=>by simp at h⟩ AL ?_
  clear n1 hg14;rintro⟨i,g,n1⟩ F ⟨hi,hB⟩;dsimp only at hi hB⊢;have hTl:((Q.take i).map λz=>(⟨z.1,BN (z.2/(M:Rat))⟩:Av).D).length=i:=by rw[Am,Bf];omega
  obtain⟨TL,hTL⟩:∃TL,((Q.take i).map λz=>(⟨z.1,BN (z.2/(M:Rat))⟩:Av).D)=TL:=⟨_,rfl⟩
  rcases BG i Q.length with h2|h2
  rotate_left
  ·have e1:=CW h2
   have:i=Q.length:=by omega
   subst this;rw[C8]at hB hTL⊢;have hany:Q.any (λp=>Dk (p.2/(M:Rat)))=false:=by
    rw[List.any_eq_false];intro p hp;rw[hB p hp];decide
   rw[AG (by rw[hany];decide)]at hN;rw[AG (by omega)]at hL;rw[hL,hN,hgr];have hres:((⟨x0.grain,M,Ef l⟩:AF).D)=.agg [str (sb x0.grain),i64 M,.sl false 2 TL]:=by
    unfold AF.D CT;rw[<-hTL,hSS,List.map_map];rfl
   have pR:B7 (.tup [(⟨x0.grain,M,Ef l⟩:AF).D,i64 ((0:Nat):Int)]):=AA.out;rw[hres]at pR;rw[hres,hTL];rcases TL with _|⟨z,TL⟩
   ·dsimp only[Ig,Ie,List.nil_append]
    refine AI Ed e1 AB AB AB AB AB AB ?_;exact⟨_,al (.nil 2),pR,rfl⟩
   ·dsimp only[HM,HN,List.cons_append,List.nil_append]
    refine AI Ed e1 AB AB AB AB AB AB ?_;exact⟨_,al (me rfl),pR,rfl⟩
  have e1:=CX h2;have wi:=CY (i:=i) (by omega);obtain⟨p,hp⟩:=CG h2;have hmk:kl[i]?=some (str (sb p.1)):=by rw[<-hkl2,A7,A7,hp];rfl
  have hlq:=Sb hKO.nd (hsm p (A0 hp));rcases hQ2.look p.1 with⟨q1,q3⟩|⟨r,y,q1,q3,q4⟩
  ·rw[hlq]at q3;cases q3
  rw[hlq]at q3;cases q3;have hLk:HX (sb p.1) ks vs=some (some y.D):=by rw[<-hks,<-hvs,V2,q1]
  have cDv:=oN q4 fM hM0 (by omega);have fD:=lc q4 fM hM0;obtain⟨z,hz⟩:∃z,RE y ⟨AX M,1⟩=z:=⟨_,rfl⟩
  rw[hz]at cDv fD;have cG:=tH fD (by omega);obtain⟨dM,hdM⟩:∃d,(⟨AX M,1⟩:GF).D=d:=⟨_,rfl⟩
  have pdM:AA dM:=by rw[<-hdM];exact AJ
  obtain⟨dy,hdy⟩:∃d,y.D=d:=⟨_,rfl⟩
  have pdy:AA dy:=by rw[<-hdy];exact AJ
  obtain⟨dz,hdz⟩:∃d,z.D=d:=⟨_,rfl⟩
  have pdz:AA dz:=by rw[<-hdz];exact AJ
  rw[hdy]at hLk cDv;rw[hdM]at cF cDv;rw[hdz]at cDv cG;unfold UX UW at cG;obtain⟨bg,hbg⟩:∃q,Dk (p.2/(M:Rat))=q:=⟨_,rfl⟩
  rw[hbg]at cG;have hsn:((Q.take (i+1)).map λz=>(⟨z.1,BN (z.2/(M:Rat))⟩:Av).D)=TL++[.agg [str (sb p.1),str (sb (BN (p.2/(M:Rat))))]]:=by
   rw[Dh,hp,Cv,hTL];rfl
  rw[hTL]at hTl⊢;have n4:((((4:Nat):Int)) != 0)=true:=rfl;have n0:((((0:Nat):Int)) != 0)=false:=rfl;cases bg
  rotate_left
  ·rw[AH rfl,AH rfl]at cG
   have hany:Q.any (λp=>Dk (p.2/(M:Rat)))=true:=by
    rw[List.any_eq_true];exact⟨p,A0 hp,hbg⟩
   rw[AH hany]at hN;rw[AH (by omega)]at hL;rw[hL,hN];rcases TL with _|⟨z9,TL⟩
   ·dsimp only[Ig,Ie,List.nil_append]
    refine AI Ed (Ac e1 kN) hmk AB AB AB AB AB ?_;refine Pk (d':=dy) rfl rfl rfl rfl rfl rfl hLk rfl ?_;refine Aw ?_;refine AI Ed n4 cF cDv cG AB AB AB ?_;exact⟨_,N9 _ _,AA.out,rfl⟩
   ·dsimp only[HM,HN,List.cons_append,List.nil_append]
    refine AI Ed (Ac e1 kN) hmk AB AB AB AB AB ?_;refine Pk (d':=dy) rfl rfl rfl rfl rfl rfl hLk rfl ?_;refine Aw ?_;refine AI Ed n4 cF cDv cG AB AB AB ?_;exact⟨_,N9 _ _,AA.out,rfl⟩
  rw[AG (by decide),AG (by decide)]at cG;have hB2:∀w∈Q.take (i+1),Dk (w.2/(M:Rat))=false:=λw hw=>by
   rw[Dh,hp]at hw;rcases List.mem_append.1 hw with h|h
   ·exact hB w h
   ·have:w=p:=by simpa using h
    rw[this];exact hbg
  rcases TL with _|⟨z9,TL⟩
  ·dsimp only[Ig,Ie,List.nil_append]
   refine AI Ed (Ac e1 kN) hmk AB AB AB AB AB ?_;refine Pk (d':=dy) rfl rfl rfl rfl rfl rfl hLk rfl ?_;refine Aw ?_;refine AI Ed (Ac n0 wi) cF cDv cG AB AB AB ?_;exact⟨(i+1,_,_),⟨h2,hB2⟩,by dsimp only;omega,by(dsimp only;rw[hsn];exact AL)⟩
  ·dsimp only[HM,HN,List.cons_append,List.nil_append]
   have htk:List.take (TL.length+1) (z9::TL)=z9::TL:=by simp
   rw[Bo]at hTl;have hb64:TL.length+1<64:=by omega
   refine AI Ed (Ac e1 kN) hmk AB AB AB AB AB ?_;refine Pk (d':=dy) rfl rfl rfl rfl rfl rfl hLk rfl ?_;refine Aw ?_;refine AI Ed (At n0 wi htk) cF cDv cG AB AB AB ?_;exact⟨(i+1,_,_),⟨h2,hB2⟩,by dsimp only;omega,by(dsimp only;rw[hsn,Nl];exact AL)⟩
 have e1:=CX h2;have wi:=CY (i:=i) (by omega);obtain⟨x,hxi⟩:=CG h2;obtain⟨x1,x2,x3⟩:=hx x (A0 hxi);have hm:(l.map AF.D)[i]?=some (.agg [str (sb x.grain),i64 x.mass,.sl false 2 (x.shs.map Av.D)]):=by rw[A7,hxi];rfl
 have es:(((x.shs.map Av.D).length:Nat):Int)=(x.shs.length:Int):=by rw[Am]
 refine AI Ed (At e1 es kN) hm AB AB AB AB AB ?_;obtain⟨ga,hga⟩:∃g,n1+1+1+1=g:=⟨_,rfl⟩
 refine GL (α:=Nat×C5×Obj×Nat) (λp=>⟨[(0,Ae b l),(2,.optr 0 0 3 0 0),(4,i64 (An l)),(6,.prim (.map (some it))),(8,.optr 702 (n1+1+1+1) 3 0 0),(29,Ae b l),(30,i64 (l.length:Int)),(31,i64 (i:Int)),(36,.sl false 2 (x.shs.map Av.D)),(37,i64 (x.shs.length:Int)),(38,i64 (p.1:Int))],[⟨702,n1+1+1+1,27,3,[.agg [str (sb x.grain),i64 x.mass,.sl false 2 (x.shs.map Av.D)]]⟩,⟨0,0,27,3,[.agg [.prim (.string ⟨#[]⟩),.prim (.int .i64 0),.prim (.slice none 0 0)]]⟩],p.2.2.2⟩) (λp=>x.shs.length-p.1)
  (λp F=>p.1<=x.shs.length/\C3 C0 F0 F [⟨400,11,p.2.2.1⟩]/\F.r0 400 11=some it/\HV F p.2.2.1 p.2.1/\MQ (320*i+5*p.1) (GD x p.1 (CH (l.take i))) p.2.1) (0,m,o,_) ⟨BU _,hO,hr0,hM,hQ⟩ AL ?_
 clear hO hr0 hM hQ;rintro⟨j,m2,o2,n2⟩ F ⟨hj,hO,hr0,hM,hQ⟩;dsimp only at hj hO hr0 hM hQ⊢;rw[hga];rcases BG j x.shs.length with h3|h3
 rotate_left
 ·have e2:=CW h3
  have:j=x.shs.length:=by omega
  subst this;rw[<-PZ l i hxi]at hQ;refine AI Ed (Ac e2 wi) AB AB AB AB AB AB ?_;exact⟨(i+1,m2,o2,_),⟨h2,hO,hr0,hM,hQ.mono (by dsimp only;omega)⟩,by dsimp only;omega,AL⟩
 have e2:=CX h3;have wj:=CY (i:=j) (by omega);obtain⟨s,hsj⟩:=CG h3;obtain⟨s1,s2,s3⟩:=x3 s (A0 hsj);have hms:(x.shs.map Av.D)[j]?=some (.agg [str (sb s.lot),str (sb s.part)]):=by rw[A7,hsj];rfl
 have hsn:=NY x j (CH (l.take i)) hsj;have fP:FR (CR s.part) (GC s.part) 3:=⟨(Qn s3).is,dh s3 s2⟩
 have fM:FR ((x.mass:Int):Rat) ⟨AX x.mass,1⟩ 1:=QD (by unfold Sm at x2;omega);have c1:=Qa (by omega) s3;have c2:=Od x.mass x2;have c3:=Ta fP fM (by decide);have fZ:FR (CR s.part*(x.mass:Rat)) (IH (GC s.part) ⟨AX x.mass,1⟩) 4:=S5 fP fM;obtain⟨z,hz⟩:∃z,IH (GC s.part) ⟨AX x.mass,1⟩=z:=⟨_,rfl⟩
 rw[hz]at c3 fZ;obtain⟨d1,hd1⟩:∃d,(GC s.part).D=d:=⟨_,rfl⟩
 obtain⟨d2,hd2⟩:∃d,(⟨AX x.mass,1⟩:GF).D=d:=⟨_,rfl⟩
 have pd1:AA d1:=by rw[<-hd1];exact AJ
 have pd2:AA d2:=by rw[<-hd2];exact AJ
 rw[hd1]at c1 c3;rw[hd2]at c2 c3;refine sZ 900 ?_;refine AE e2 ?_;refine AC.seq ?_;refine AO ?_;refine Ap ?_;refine AC.seq ?_;refine AC.block ?_;refine sZ 1000 ?_;refine Br kT hms ?_;refine AE kB ?_;refine AC.seq ?_;refine B8 w1 1100 [0,1,2,3,4,5,6,7] [8] (by kernel_rfl) ?_;refine AE kB ?_;refine BX.same _ (c1) AJ ?_;refine BO ?_;refine AE kB ?_;refine BX.same _ (c2) AJ ?_;refine BO ?_;refine AE kB ?_;refine BX.same _ (c3) AJ ?_;refine BO ?_;refine AE kB ?_;refine AC.seq ?_;refine AC.seq ?_;refine Hh (by kernel_rfl) ?_;change Bd _ _ _ _ _ ([0,1,2]++(3::([4,5,6,7,8,9]++[]))) _ _;refine FL w1 1200 [0,1,2] _ ?_;refine AE kB ?_;refine Bd.look (xo:=⟨400,11,o2⟩) (l:=m2) w1 rfl rfl rfl rfl rfl rfl hO Cg hr0 hM ?_;rcases hQ.look s.lot with⟨q1,q2⟩|⟨r,y,q1,q2,q3⟩
 ·rw[Vz q1]
  refine FL w1 1200 [4,5,6,7,8,9] [] ?_;refine AE kB ?_;refine Bd.nil ?_;refine Aw ?_;refine sZ 1300 ?_;refine AE kB ?_;refine AO ?_;refine Ap ?_;refine Hh (by kernel_rfl) ?_;change Bd _ _ _ _ _ ([0,1,2,3]++(4::[])) _ _;refine FL w1 1500 [0,1,2,3] _ ?_;refine AE kB ?_;refine Bd.put (l:=m2) w1 rfl rfl rfl rfl rfl rfl hO hr0 hM (λF3 o3 hto3 hO3 hr3 hM3=>Bd.nil ?_);refine Aw ?_;have hQ2:MQ (320*i+5*(j+1)) (GD x (j+1) (CH (l.take i))) (FH (sb s.lot) z.D m2):=by
   rw[hsn];unfold Ji;rw[q2];exact MQ.set s.lot ⟨fZ.is,fZ.rk.mono (by omega)⟩ (hQ.mono (by omega))
  refine AI Ed wj AB AB AB AB AB AB ?_;exact⟨(j+1,FH (sb s.lot) z.D m2,o3,_),⟨h3,hO3,hr3,hM3,hQ2⟩,by dsimp only;omega,AL⟩
 ·rw[V0 q1]
  refine FL w1 1200 [4,5,6,7,8,9] [] ?_;refine AE kB ?_;refine Bd.nil ?_;have c4:=Qp fZ q3 (by omega);have fA:=QJ fZ q3;obtain⟨z2,hz2⟩:∃z2,Jg z y=z2:=⟨_,rfl⟩
  rw[hz2]at c4 fA;refine Aw ?_;refine sZ 1300 ?_;refine AE kB ?_;refine AO ?_;refine Aq w1 1400 (by kernel_rfl) ?_;refine AE kB ?_;refine cI c4 ?_;refine AE kB ?_;refine Hh (by kernel_rfl) ?_;change Bd _ _ _ _ _ ([0,1,2,3]++(4::[])) _ _;refine FL w1 1500 [0,1,2,3] _ ?_;refine AE kB ?_;refine Bd.put (l:=m2) w1 rfl rfl rfl rfl rfl rfl hO hr0 hM (λF3 o3 hto3 hO3 hr3 hM3=>Bd.nil ?_);refine Aw ?_;have hQ2:MQ (320*i+5*(j+1)) (GD x (j+1) (CH (l.take i))) (FH (sb s.lot) z2.D m2):=by
   rw[hsn];unfold Ji;rw[q2];exact MQ.set s.lot ⟨fA.is,fA.rk.mono (by omega)⟩ (hQ.mono (by omega))
  refine AI Ed wj AB AB AB AB AB AB ?_;exact⟨(j+1,FH (sb s.lot) z2.D m2,o3,_),⟨h3,hO3,hr3,hM3,hQ2⟩,by dsimp only;omega,AL⟩
abbrev ki:Dr:=[(1,[0,1,2,3,4,5],[6,7])]
open Go.Proofs Go.RowKit Go.Sort
set_option maxRecDepth 20000
set_option maxHeartbeats 4000000
theorem x9 {C:A8}{f sz:Nat}{ds:List D}{Φ:D->Prop}(h1:Ak C f (CK::ds) Φ)(h2:Ak C f (.sl true sz []::ds) Φ):Ak C f (.sl false sz []::ds) Φ:=by
 refine⟨h1.1,λX w vs a b c e g=>?_⟩;have g0:=g 0 _ rfl;generalize hv:vs.getD 0 undef=v at g0;cases g0 with
 |nil=>
  refine h1.2 X w vs a b c e λi d hd=>?_
  match i with
  | 0=>cases hd;rw[hv];exact .prim _
  |i+1=>exact g (i+1) d hd
 |emp a0=>
  refine h2.2 X w vs a b c e λi d hd=>?_
  match i with
  | 0=>cases hd;rw[hv];exact .emp a0
  |i+1=>exact g (i+1) d hd
 |sl f hl hc hO hb hz hcell ho h=>
  refine h2.2 X w vs a b c e λi d hd=>?_
  match i with
  | 0=>cases hd;rw[hv];exact .sl f hl hc hO hb hz hcell ho h
  |i+1=>exact g (i+1) d hd
theorem FQ {H Hf:Hp}{k g T sz:Nat}{l:List D}(he:Hp.get H k=some ⟨k,g,T,sz,l⟩)(hf:Hp.get Hf k=none:=by rfl):Fz H Hf (.osl k g sz 0 l.length) (.sl false sz l):=by
 refine .osl (e:=⟨k,g,T,sz,l⟩) he hf rfl rfl (by simp) (by simp) (λj d d' h1 h2=>?_) λj d d' q c c' h1 h2 h3 h4=>?_
 ·rw[BP]at h1;rw[h1]at h2;cases h2;rfl
 ·rw[BP]at h1;rw[h1]at h2;cases h2;rw[h3]at h4;cases h4;exact Fz.refl _
theorem l7 (s:List Av)(hl:s.length<=1000000):AK C0 118 [CT false s] (CT false s):=by
 unfold CT;rcases s with _|⟨z,s⟩
 ·refine x9 ?_ ?_
  ·refine Ak.walk w1 QY rfl λF=>?_
   refine AI Af kB AB AB AB AB AB AB ?_;exact⟨_,.nil 2,AA.out,rfl⟩
  ·refine Ak.walk w1 QY rfl λF=>?_
   refine AI Af kB AB AB AB AB AB AB ?_;exact⟨_,.osl (e:=⟨302,5,82,2,[]⟩) rfl rfl rfl rfl (Ai _) rfl (λj d d' h=>by simp at h) (λj d d' q c c' h=>by simp at h),AA.out,rfl⟩
 ·refine Ak.walk w1 QY rfl λF=>?_
  obtain⟨T,hT⟩:∃T,List.map Av.D (z::s)=T:=⟨_,rfl⟩
  have pT:AA (.sl false 2 T):=by rw[<-hT];exact AJ
  have hne:T≠[]:=by rw[<-hT];simp
  have hlT:T.length<=1000000:=by rw[<-hT,Am];exact hl
  rw[hT];refine AI Af hne AB AB AB AB AB AB ?_;exact⟨_,by rw[BP];exact FQ rfl,pT.out,rfl⟩
theorem Tv (x:AF)(m:Int)(hl:x.shs.length<=1000000):AK C0 63 [x.D,i64 m] ((⟨x.grain,m,x.shs⟩:AF).D):=by
 refine Ak.walk w1 bZ rfl λF=>?_
 have cC:=l7 x.shs hl;unfold AF.D;dsimp only;unfold CT at cC⊢;obtain⟨SD,hSD⟩:∃d,x.shs.map Av.D=d:=⟨_,rfl⟩
 have pS:AA (.sl false 2 SD):=by rw[<-hSD];exact AJ
 rw[hSD]at cC⊢;refine AI Af kB cC AB AB AB AB AB ?_;exact AN rfl AA.out
theorem jf (b:Bool)(l:List AF)(hl:l.length<=1000000)(h0:l≠[])(H:Hp)(n:Nat):CO C0 57 [Ae b l] H n
  (λd H' n'=>∃g,d=.osl 302 g 3 0 l.length/\H'=⟨302,g,27,3,l.map AF.D⟩::H/\n'=n+7):=by
 refine CO.walk w1 bU rfl λF=>?_
 unfold Ae;obtain⟨T,hT⟩:∃T,l.map AF.D=T:=⟨_,rfl⟩
 have pT:AA (.sl b 3 T):=by rw[<-hT];exact AJ
 have hne:T≠[]:=by rw[<-hT];simpa using h0
 have hlT:T.length<=1000000:=by rw[<-hT,Am];exact hl
 rw[hT,<-Am (f:=AF.D),hT];cases b
 all_goals
  refine sZ 0 ?_;refine AE kB ?_;refine AC.seq ?_;refine sZ 100 ?_;refine AE kB ?_;refine AO ?_;refine Ap ?_;refine sZ 300 ?_;refine AE kB ?_;refine Al ?_;exact⟨_,by rw[BP],rfl,rfl⟩
theorem sy (b:Bool)(x y:AF)(l:List AF):AK C0 112 [x.D,  .pptr (.sl b 3 ((y::l).map AF.D))] (As (!BK (sb x.grain) (sb y.grain))):=by
 refine Ak.walk w1 Y9 rfl λF=>?_
 have hm:((y::l).map AF.D)[0]?=some (.agg [str (sb y.grain),i64 y.mass,.sl false 2 (y.shs.map Av.D)]):=rfl;obtain⟨T,hT⟩:∃T,(y::l).map AF.D=T:=⟨_,rfl⟩
 have pT:AA (.sl b 3 T):=by rw[<-hT];exact AJ
 obtain⟨S,hS⟩:∃S,x.shs.map Av.D=S:=⟨_,rfl⟩
 have pS:AA (.sl false 2 S):=by rw[<-hS];exact AJ
 rw[hT]at hm⊢;unfold AF.D CT;rw[hS];refine AI ki kB hm AB AB AB AB AB ?_;exact AN rfl AA.out
theorem tD (b:Bool)(l:List AF)(c:D)[pc:AA c](p:AF->Bool)(hl:l.length<=1000000)(hc:∀x∈l,AK C0 112 [x.D,c] (As (p x))):AK C0 159 [Ae b l,.clo (.func 112) [] [c]] (i64 (Jj p l)):=by
 refine Ak.walk w1 Zv rfl λF=>?_
 have el:(((l.map AF.D).length:Nat):Int)=(l.length:Int):=by rw[Am]
 refine AI Af el AB AB AB AB AB AB ?_;refine AC.loop (α:=Nat×Nat) (λp=>⟨[(0,Ae b l),(1,.clo (.func 112) [] [c]),(7,i64 l.length),(8,i64 (p.1:Int))],[],p.2⟩) (λp=>l.length-p.1) (λq=>q.1<=l.length/\∀(j:Nat) (x:AF),j<q.1->l[j]?=some x->p x=false) (0,_) ⟨BU _,λj x hj=>AZ hj (GP j)⟩ AL ?_;rintro⟨i,n⟩ F ⟨hi,ha⟩;dsimp only at hi ha⊢;rcases BG i l.length with h2|h2
 rotate_left
 ·have e1:=CW h2
  have:i=l.length:=by omega
  subst this;refine AI Af e1 AB AB AB AB AB AB ?_;exact AN (by rw[SU ha]) AA.out
 have e1:=CX h2;have wi:=CY (i:=i) (by omega);obtain⟨x,hx⟩:=CG h2;have hm:(l.map AF.D)[i]?=some (.agg [str (sb x.grain),i64 x.mass,.sl false 2 (x.shs.map Av.D)]):=by rw[A7,hx];rfl
 have cn:=hc x (A0 hx);unfold AF.D at cn;cases hb:p x
 ·rw[hb]at cn
  refine AI Af (At e1 wi kN) hm cn AB AB AB AB ?_;refine⟨(i+1,_),⟨h2,λj z hj hjz=>?_⟩,by dsimp only;omega,AL⟩;rcases BG j i with h|h
  ·exact ha j z h hjz
  ·have:j=i:=by dsimp only at hj;omega
   subst this;rw[hx]at hjz;cases hjz;exact hb
 ·rw[hb]at cn
  refine AI Af (At e1 wi kN) hm cn AB AB AB AB ?_;exact AN (by rw[TQ hx hb ha]) AA.out
theorem tC (b:Bool)(l:List AF)(c:D)[pc:AA c](p:AF->Bool)(hl:l.length<=1000000)(hc:∀x∈l,AK C0 112 [x.D,c] (As (p x))):AK C0 111 [Ae b l,.clo (.func 112) [] [c]] (As (l.any p)):=by
 refine Ak.walk w1 Y8 rfl λF=>?_
 have c1:=tD b l c p hl hc;have e1:=TR p l;refine AI Af e1 c1 AB AB AB AB AB ?_;exact AN rfl AA.out
theorem SW (b:Bool)(l:List AF)(hl:l.length<=1000000):AK C0 60 [Ae b l] (i64 (if CJ l then 0 else 16:Nat)):=by
 refine Ak.walk w1 bW rfl λF=>?_
 have cH:AK C0 111 [Ae b l,.clo (.func 112) [] [.pptr (Ae b l)]] (As (!CJ l)):=by
  have:=tC b l (.pptr (Ae b l)) (λx=>!BK (sb x.grain) (sb (CP l 0).grain)) hl λx hx=>by
   rcases l with _|⟨y,l⟩
   ·cases hx
   ·exact sy b x y l
  have he:(l.any λx=>!BK (sb x.grain) (sb (CP l 0).grain)) = !CJ l:=by
   unfold CJ;rw[List.not_all_eq_any_not]
  rwa [he]at this
 have cW:=GY (!CJ l) 16;refine AI Af kB cH cW AB AB AB AB ?_;refine BF.own _ (L0 cH rfl (λi a d h1 h2=>by
  match i with
  | 0=>cases h1;cases h2;exact .refl _ _
  | 1=>cases h1;cases h2;exact .clo1 (.ptr rfl rfl rfl rfl)
  |n+2=>cases h1) AJ (.prim _)) ?_
 rintro d H' n' ⟨rfl,rfl,rfl⟩;refine AI Af kB cW AB AB AB AB AB ?_;exact AN (by cases CJ l<;>rfl) AA.out
theorem KS {l:List AF}(h:Bx l=0):l.length<=64/\(∀x∈l,Ci x=0)/\An l<=999999999:=by
 unfold Bx at h;split at h
 ·cases h
 ·split at h
  ·rename_i h3;exact AZ h h3
  ·split at h
   ·cases h
   ·refine⟨by omega,λx hx=>?_,by omega⟩
    obtain⟨j,hj⟩:=List.mem_iff_getElem?.1 hx
    have:=QA (f:=λi=>Ci (CP l i)) (n:=l.length) (by omega) j (List.getElem?_eq_some_iff.1 hj).1
    rwa [FU hj]at this
theorem V4 {l:List AF}(hf:∀x∈l,x.lite)(hz:∀x∈l,Ci x=0)(hl:l.length<=64):(∀x∈l,x.ok)/\G5 (λk=>k.length<=1000) 4096 (CH l):=by
 have hx:∀x∈l,x.ok:=λx h=>(ap (hf x h) (hz x h)).1
 exact⟨hx,(R2 λx h=>⟨(hx x h).1,λs hs=>((hf x h).2 s hs).1⟩).mono (by omega)⟩
def Q1 (l:List AF):Nat:=if Bx l≠0 then Bx l else IB (CH l)
def Q2 (l:List AF):By:=if Bx l≠0 then[]else JZ (CH l)
theorem vM (b:Bool)(l:List AF)(hl:l.length<=1000000)(hf:∀x∈l,x.lite):AK C0 36 [Ae b l] (.tup [.sl false 2 ((Q2 l).map Ck),i64 (Q1 l:Nat)]):=by
 refine Ak.walk w1 bN rfl λF=>?_
 have cP:=Lr b l (by omega) λx hx=>(hf x hx).1
 have hR:Q2 l=if Bx l≠0 then[]else JZ (CH l):=rfl
 have hE:Q1 l=if Bx l≠0 then Bx l else IB (CH l):=rfl
 rcases Nat.decEq (Bx l) 0 with g|g
 ·have e1:=GJ g
  rw[AH g]at hR hE;rw[hR,hE];refine AI Af e1 cP AB AB AB AB AB ?_;exact⟨_,FS (.nil 2) (.refl _),AA.out,rfl⟩
 have e1:=GK g;rw[AG (λh=>h g)]at hR hE;rw[hR,hE];obtain⟨g1,g2,g3⟩:=KS g;obtain⟨hx,hK⟩:=V4 hf g2 g1;have cL:=vO b l (by omega) hx;refine AI Af e1 cP AB AB AB AB AB ?_;refine BF.prop _ _ (EY.refl _) cL AJ ?_;rintro d ⟨m,rfl,hQ⟩;have cA:=W7 32000 (by omega) (CH l) m hQ (BR hK.len (by omega)) hK.nd;have pM:AA (mapD m):=⟨hQ.mapD⟩
 unfold JY at cA;obtain⟨M,hM⟩:∃M,mapD m=M:=⟨_,rfl⟩
 rw[hM]at cA pM⊢;refine AI Af kB cA AB AB AB AB AB ?_;exact AN rfl AA.out
abbrev TO:Dr:=[(6,[0,1,2,3,4,5,6,7,8,9,10,11,12,13,14,15,16,17,18,19,20,21],[22,23])]
abbrev TN:Dr:=[(6,[0,1,2,3,4,5,6,7,8,9,10,11,12,13,14,15,16,17,18,19],[20,21,22])]
open Go.Proofs Go.RowKit
set_option maxRecDepth 20000
set_option maxHeartbeats 4000000
theorem ip (b1 b2:Bool)(S:List Av)(hl:S.length<=1000000):AK C0 52 [CT b1 S,CT b2 S] (As true):=by
 refine Ak.walk w1 UI rfl λF=>?_
 have el:(((S.map Av.D).length:Nat):Int)=(S.length:Int):=by rw[Am]
 have hne:((S.length:Int) != (S.length:Int))=false:=bne_self_eq_false _;refine AI TO (Ac el hne) AB AB AB AB AB AB ?_;refine AC.loop (α:=Nat×Nat) (λp=>⟨[(0,CT b1 S),(1,CT b2 S),(5,i64 (p.1:Int))],[],p.2⟩) (λp=>S.length-p.1) (λq=>q.1<=S.length) (0,_) (BU _) AL ?_;rintro⟨i,n⟩ F hi;dsimp only at hi⊢;rcases BG i S.length with h2|h2
 rotate_left
 ·have e1:=CW h2
  refine AI TO (Ac el e1) AB AB AB AB AB AB ?_;exact AN rfl AA.out
 have e1:=CX h2;have wi:=CY (i:=i) (by omega);obtain⟨x,hx⟩:=CG h2;have hm:(S.map Av.D)[i]?=some (.agg [str (sb x.lot),str (sb x.part)]):=by rw[A7,hx];rfl
 have s1:=LA (sb x.lot);have s2:=LA (sb x.part);refine AI TO (CF el e1 wi s1 s2 kN (Ac kT kF)) hm AB AB AB AB AB ?_;exact⟨(i+1,_),h2,by dsimp only;omega,AL⟩
theorem j8 (x:AF)(hl:x.shs.length<=1000000):AK C0 68 [x.D,x.D] (As true):=by
 refine Ak.walk w1 UK rfl λF=>?_
 have c:=ip false false x.shs hl;have s1:=LA (sb x.grain);unfold AF.D;unfold CT at c⊢;obtain⟨S,hS⟩:∃S,x.shs.map Av.D=S:=⟨_,rfl⟩
 have pS:AA (.sl false 2 S):=by rw[<-hS];exact AJ
 rw[hS]at c⊢;refine AI Af (At s1 kT kF) c AB AB AB AB AB ?_;exact AN rfl AA.out
theorem nZ (b1 b2:Bool)(l:List AF)(hl:l.length<=1000000)(hs:∀x∈l,x.shs.length<=1000000):AK C0 17 [Ae b1 l,Ae b2 l] (As true):=by
 refine Ak.walk w1 bI rfl λF=>?_
 have el:(((l.map AF.D).length:Nat):Int)=(l.length:Int):=by rw[Am]
 have hne:((l.length:Int) != (l.length:Int))=false:=bne_self_eq_false _;refine AI TN (Ac el hne) AB AB AB AB AB AB ?_;refine AC.loop (α:=Nat×Nat) (λp=>⟨[(0,Ae b1 l),(1,Ae b2 l),(5,i64 (p.1:Int))],[],p.2⟩) (λp=>l.length-p.1) (λq=>q.1<=l.length) (0,_) (BU _) AL ?_;rintro⟨i,n⟩ F hi;dsimp only at hi⊢;rcases BG i l.length with h2|h2
 rotate_left
 ·have e1:=CW h2
  refine AI TN (Ac el e1) AB AB AB AB AB AB ?_;exact AN rfl AA.out
 have e1:=CX h2;have wi:=CY (i:=i) (by omega);obtain⟨x,hx⟩:=CG h2;have hm:(l.map AF.D)[i]?=some (.agg [str (sb x.grain),i64 x.mass,.sl false 2 (x.shs.map Av.D)]):=by rw[A7,hx];rfl
 have c:=j8 x (hs x (A0 hx));have s1:(x.mass != x.mass)=false:=bne_self_eq_false _;unfold AF.D CT at c;obtain⟨S,hS⟩:∃S,x.shs.map Av.D=S:=⟨_,rfl⟩
 have pS:AA (.sl false 2 S):=by rw[<-hS];exact AJ
 rw[hS]at c hm;refine AI TN (CF el e1 wi s1 kN kT kF) hm c AB AB AB AB ?_;exact⟨(i+1,_),h2,by dsimp only;omega,AL⟩
def Ee (p:List UInt8×List UInt8):D:=.agg [str (sb p.1),str (sb p.2)]
instance  (p:List UInt8×List UInt8):AW (Ee p):=by unfold Ee;exact AJ
instance  (p:List UInt8×List UInt8):AA (Ee p):=by unfold Ee;exact AJ
theorem tF (v:List Int)(hl:v.length<=1000):AK C0 13 [.sl true 1 (v.map λe=>i64 e)] (i64 (DP v)):=by
 refine Ak.walk w1 u9 rfl λF=>?_
 have el:(((v.map λe=>i64 e).length:Nat):Int)=(v.length:Int):=by rw[Am]
 refine AI Af el AB AB AB AB AB AB ?_;refine AC.loop (α:=Nat×Nat) (λp=>⟨[(5,.sl true 1 (v.map λe=>i64 e)),(6,i64 (v.length:Int)),(7,i64 (p.1:Int))],[],p.2⟩) (λp=>v.length-p.1) (λp=>p.1<=v.length/\∀(j:Nat) (e:Int),j<p.1->v[j]?=some e->e=0) (0,_) ⟨BU _,λj e h=>AZ h (GP j)⟩ AL ?_;rintro⟨i,m⟩ F ⟨hi,ha⟩;dsimp only at hi ha⊢;rcases BG i v.length with h2|h2
 rotate_left
 ·have e1:=CW h2
  have:i=v.length:=by omega
  subst this;have hd:DP v=0:=by rw[PQ ha,IP];rfl
  rw[hd];refine AI Af e1 AB AB AB AB AB AB ?_;exact AN rfl AA.out
 have e1:=CX h2;have wi:=CY (i:=i) (by omega);obtain⟨l,hl'⟩:=CG h2;have hm:(v.map λe=>i64 e)[i]?=some (i64 l):=by rw[A7,hl'];rfl
 by_cases g:l=0
 ·have e5:(l != 0)=false:=by rw[g];rfl
  refine AI Af (BW e1 wi e5 kN) hm AB AB AB AB AB ?_;exact⟨(i+1,_),⟨h2,λj e hj he=>by
   rcases Nat.lt_succ_iff_lt_or_eq.1 hj with q|q
   ·exact ha j e q he
   ·subst q;rw[hl']at he;cases he;exact g⟩,by dsimp only;omega,AL⟩
 ·have e5:(l != 0)=true:=Ii g
  have hd:DP v=l:=by
   rw[PQ ha,EI h2];rw[BI h2]at hl';rw[Fc hl'];exact AH g
  rw[hd];refine AI Af (BW e1 wi e5 kN) hm AB AB AB AB AB ?_;exact AN rfl AA.out
def Av.shB (s:Av):Bool:=decide (s.lot.length<=100)&&decide (s.part.length<=14)
def AF.shB (x:AF):Bool:=decide (x.grain.length<=100)&&(decide (x.shs.length<=8)||decide (64<x.shs.length))&&decide (x.shs.length<=80)&&x.shs.all Av.shB
def F8 (l:List AF):Bool:=l.all AF.shB&&(decide (l.length<=8)||(decide (64<l.length)&&decide (l.length<=80)))
theorem DO.clo2 {H:Hp}{fn:Fn}{c c' x x':D}(h:DO H c c')(k:DO H x x'):DO H (.clo fn [] [c,x]) (.clo fn [] [c',x']):=λC F ρ w m hO hN v hv=>by
 cases hv with
 |clo hf hc h1 h2=>
  refine .clo hf (by simpa using hc) (λi d hd=>by simp at hd) λi d hd=>?_
  match i with
  | 0=>
   simp at hd;subst hd;exact h C F ρ w m hO hN _ (h2 0 _ rfl)
  | 1=>
   simp at hd;subst hd;exact k C F ρ w m hO hN _ (h2 1 _ rfl)
  |i+2=>simp at hd
theorem Sz (b bk:Bool)(T:List D)[pT:AA (.sl b 3 T)]:AK C0 141 [.sl b 3 T,As bk] (.clo (.func 185) [] [.pptr (.sl b 3 T),.pptr (As bk)]):=by
 refine xa w1 Zm rfl λF=>?_
 have hp:B7 (.clo (.func 185) [] [.pptr (.sl b 3 T),.pptr (As bk)]):=(AJ:AA (.clo (.func 185) [] [.pptr (.sl b 3 T),.pptr (As bk)])).out;refine fR 0 ?_;refine fR 100 ?_;refine Al ?_;exact⟨_,.clo2 (.ptr rfl rfl rfl rfl) (.ptr rfl rfl rfl rfl),hp,rfl⟩
theorem Ua {E:FW}{l:Nat}{R:LR}(hE:FW.ok E)(b bk:Bool)(T:List D)[pT:AA (.sl b 3 T)](hT:∀x∈T,∃a c d,x=.agg [a,c,d])(hl:T.length<=1000000)
  {σ:Type} (S:Nat->σ->Hp) (P:Nat->σ->Prop) (c:Code) (Z:Hp->Prop) (a0:σ) (h0:P 0 a0) (n0:Nat)
  (hY:∀k a x n,P k a->k<T.length->T[if bk then T.length-1-k else k]?=some x->Qj C0 E l R [x] (S k a) n (λj H' _=>(j=none/\∃a',P (k+1) a'/\Cb H' (S (k+1) a') H' (S (k+1) a'))\/(j=some c/\Z H'))):
  OE C0 E 185 [.clo (.yield l) [] [],.pptr (.sl b 3 T),.pptr (As bk)] l R (S 0 a0) n0 (λj _ H' _=>(j=none/\∃a,P T.length a/\H'=S T.length a)\/(j=some c/\Z H')):=by
 refine OE.walk w1 hE Z5 rfl λB F hR=>?_
 obtain⟨N,hN⟩:∃N,T.length=N:=⟨_,rfl⟩
 rw[hN]at hY hl⊢;have el:((T.length:Nat):Int)=(N:Int):=by rw[hN]
 refine sZ 0 ?_;refine AE el ?_;refine AC.block ?_;refine GL (α:=Nat×σ×Nat) (λp=>⟨[(0,.clo (.yield l) [] []),(1,.pptr (.sl b 3 T)),(2,.pptr (As bk)),(6,i64 (N:Int)),(7,i64 (p.1:Int))],S p.1 p.2.1,p.2.2⟩) (λp=>N-p.1)
  (λp F=>Lb C0 E B F l R/\p.1<=N/\P p.1 p.2.1) (0,a0,_) ⟨hR,BU _,h0⟩ AL ?_
 clear hR;rintro⟨i,a,m⟩ F ⟨hR,h1,hP⟩;dsimp only at h1 hR hP⊢;refine sR 100 ?_;refine AC.seq ?_;refine AO ?_
 (refine Bv (λh8=>?_) (λh8=>?_))<;>(try simp only[Bi,Bs]at h8)<;>(try simp only[h8])
 ·have hi:i<N:=by
   have:=DA h8
   omega
  have a3:IntKind.i64.wrap ((i:Int)+1)=((i+1:Nat):Int):=wI (by omega) (by omega);have a4:IntKind.i64.wrap ((N:Int)-1)=((N-1:Nat):Int):=by rw[wI (by omega) (by omega)];omega
  have a5:IntKind.i64.wrap (((N-1:Nat):Int)-(i:Int))=((N-1-i:Nat):Int):=by rw[wI (by omega) (by omega)];omega
  have hq:(if bk then N-1-i else i)<T.length:=by rw[hN];split<;>omega
  obtain⟨x,hx⟩:∃x,T[if bk then N-1-i else i]?=some x:=⟨_,BI hq⟩
  have hy:=λn=>hY i a x n hP hi hx
  obtain⟨x1,x2,x3,rfl⟩:=hT x (A0 hx);refine Ap ?_;refine AC.seq ?_;refine AC.block ?_;refine sR 200 ?_;refine AC.seq ?_;refine sR 300 ?_;cases bk
  ·replace hx:T[i]?=some (.agg [x1,x2,x3]):=hx
   refine AO ?_;refine Ap ?_;refine AC.seq ?_;refine dQ w1 500 [0,1,2,3,4] 5 [6] rfl (by kernel_rfl) hR ?_;refine BO ?_;refine Br kT hx ?_;refine And.intro ⟨rfl,trivial⟩ ?_;refine BO ?_;refine⟨rfl,_,hy _,?_,?_⟩
   ·rintro H2 n2 (⟨_,a',hP',hf⟩|⟨h,-⟩)
    rotate_left
    ·cases h
    refine And.intro (by exact B6) ?_;refine Aw ?_;refine AO ?_;refine Ap ?_;refine Aq w1 600 (by kernel_rfl) ?_;refine AV a3 ?_;exact⟨(i+1,a',_),⟨hR,hi,hP'⟩,(by dsimp only;omega),AL (a:=hf)⟩
   ·rintro c2 H2 n2 (⟨h,-⟩|⟨h,hZ⟩) F2 hst
    ·cases h
    cases h;refine BO ?_;refine AO ?_;refine AC.weak ⟨[],H2,_⟩ AL ?_;refine AC.ret ?_;exact⟨_,hst,trivial,.inr ⟨rfl,hZ⟩⟩
  ·replace hx:T[N-1-i]?=some (.agg [x1,x2,x3]):=hx
   refine AO ?_;refine Aq w1 400 (by kernel_rfl) ?_;refine AV (At a4 a5 el) ?_;refine AC.seq ?_;refine dQ w1 500 [0,1,2,3,4] 5 [6] rfl (by kernel_rfl) hR ?_;refine BO ?_;refine Br kT hx ?_;refine And.intro ⟨rfl,trivial⟩ ?_;refine BO ?_;refine⟨rfl,_,hy _,?_,?_⟩
   ·rintro H2 n2 (⟨_,a',hP',hf⟩|⟨h,-⟩)
    rotate_left
    ·cases h
    refine And.intro (by exact B6) ?_;refine Aw ?_;refine AO ?_;refine Ap ?_;refine Aq w1 600 (by kernel_rfl) ?_;refine AV a3 ?_;exact⟨(i+1,a',_),⟨hR,hi,hP'⟩,(by dsimp only;omega),AL (a:=hf)⟩
   ·rintro c2 H2 n2 (⟨h,-⟩|⟨h,hZ⟩) F2 hst
    ·cases h
    cases h;refine BO ?_;refine AO ?_;refine AC.weak ⟨[],H2,_⟩ AL ?_;refine AC.ret ?_;exact⟨_,hst,trivial,.inr ⟨rfl,hZ⟩⟩
 ·have hi:i=N:=by
   have:=DN h8
   omega
  subst hi;refine CA ?_;exact⟨none,hR.stat,trivial,.inl ⟨rfl,a,hP,rfl⟩⟩
def AF.w (x:AF)(m:Int):AF:=⟨x.grain,m,x.shs⟩
def Ht:List AF->Int->List AF
 | [],_=>[]
 |x::r,m=>x.w (min x.mass m)::if m-x.mass<=0 then[]else Ht r (m-x.mass)
def HJ (g1:Nat)(p:List AF×Int×Nat):Hp:=Dj 408 p.2.2 27 3 (p.1.map AF.D)++[⟨100,g1,22,1,[Dt 408 p.2.2 3 (p.1.map AF.D)]⟩,⟨0,0,3,1,[i64 p.2.1]⟩]
theorem Yg (g1:Nat)(m:Int)(g:Nat):HJ g1 ([],m,g)=[⟨100,g1,22,1,[CK]⟩,⟨0,0,3,1,[i64 m]⟩]:=rfl
theorem Sy (g1:Nat)(z:AF)(o:List AF)(m:Int)(g:Nat):HJ g1 (z::o,m,g)=[⟨408,g,27,3,z.D::o.map AF.D⟩,⟨100,g1,22,1,[.osl 408 g 3 0 ((o.map AF.D).length+1)]⟩,⟨0,0,3,1,[i64 m]⟩]:=rfl
def PH (L:List AF)(m:Int)(k:Nat)(p:List AF×Int×Nat):Prop:=p.1.length=k/\p.1++Ht (L.drop k) p.2.1=Ht L m/\0<=p.2.1/\p.2.1<=1000000000000
def Kg (bk:Bool)(l:List AF):List AF:=if bk then l.reverse else l
theorem sQ (bk:Bool)(l:List AF){k:Nat}(hk:k<l.length):(l.map AF.D)[if bk then(l.map AF.D).length-1-k else k]?=((Kg bk l)[k]?).map AF.D:=by
 unfold Kg;rw[Am,A7];cases bk
 ·rfl
 ·simp only[if_true]
  rw[List.getElem?_reverse hk]
theorem Ye (b bk:Bool)(l:List AF)(m:Int)(hl:l.length<=1000000)(hm:0<=m/\m<=1000000000000)(hx:∀x∈l,0<=x.mass/\x.mass<=1000000000)
  (ho:∀x∈l,∀m,AK C0 63 [x.D,i64 m] (x.w m).D) (R:D) [pR:AA R] (hN:AK C0 84 [Ae false (Ht (Kg bk l) m)] R):
  AK C0 91 [Ae b l,i64 m,As bk] R:=by
 refine Ak.walk w1 be rfl λF=>?_
 have cV:=Sz b bk (l.map AF.D);have hT:∀x∈l.map AF.D,∃a c d,x=.agg [a,c,d]:=λx hx=>by
  obtain⟨y,-,rfl⟩:=List.mem_map.1 hx;exact⟨_,_,_,rfl⟩
 have hoL:∀k,k<l.length->∃x,x∈l/\(Kg bk l)[k]?=some x:=λk hk=>by
  unfold Kg;cases bk
  ·exact⟨_,List.getElem_mem hk,BI hk⟩
  ·simp only[if_true]
   rw[List.getElem?_reverse hk]
   have:l.length-1-k<l.length:=by omega
   exact⟨_,List.getElem_mem this,BI this⟩
 have hlen:(Kg bk l).length=l.length:=by unfold Kg;cases bk<;>simp
 obtain⟨L,hL⟩:∃L,Kg bk l=L:=⟨_,rfl⟩
 have hoA:=λk (hk:k<l.length)=>sQ bk l hk
 rw[hL]at hoL hoA hN hlen;unfold Ae;obtain⟨T,hTT⟩:∃T,l.map AF.D=T:=⟨_,rfl⟩
 have pT:AA (.sl b 3 T):=by rw[<-hTT];exact AJ
 have hTl:T.length=l.length:=by rw[<-hTT,Am]
 rw[hTT]at cV hT hoA⊢;refine sR 0 ?_;refine sR 100 ?_;refine AC.seq ?_;refine sR 200 ?_;refine cI cV ?_;refine AC.block ?_;have h0:PH L m 0 ([],m,0):=⟨rfl,rfl,hm⟩
 refine AC.rangeFunc (fi:=185) (first:=[]) (captured:=[.pptr (.sl b 3 T),.pptr (As bk)]) (Ψ:=λj _ H' _=>(j=none/\∃a,PH L m T.length a/\H'=HJ 2 a)\/(j=some (.exit 0)/\∃m' g,H'=HJ 2 (Ht L m,m',g))) rfl
  (λds H n Φ=>∃k a x,PH L m k a/\k<T.length/\T[if bk then T.length-1-k else k]?=some x/\ds=[x]/\H=HJ 2 a/\Φ=λj H' _=>(j=none/\∃a',PH L m (k+1) a'/\Cb H' (HJ 2 a') H' (HJ 2 a'))\/(j=some (.exit 0)/\∃m' g,H'=HJ 2 (Ht L m,m',g))) ?_
  (λE l' R' hE hY=>Ua hE b bk T hT (by omega) (λ_ a=>HJ 2 a) (PH L m) (.exit 0) (λH'=>∃m' g,H'=HJ 2 (Ht L m,m',g)) ([],m,0) h0 _ λk a x n hP hk hx=>hY _ _ _ _ ⟨k,a,x,hP,hk,hx,rfl,rfl,rfl⟩) ?_
 ·rintro l' ds H n Φ ⟨k,⟨o,m',g⟩,x,⟨p1,p2,p3,p4⟩,hk,hxT,rfl,rfl,rfl⟩
  dsimp only at p1 p2 p3 p4;obtain⟨y,hy1,hy2⟩:=hoL k (by omega);rw[hoA k (by omega),hy2]at hxT;cases hxT;have hd:L.drop k=y::L.drop (k+1):=by
   have:=(List.getElem?_eq_some_iff.1 hy2)
   rw[EI this.1,this.2]
  rw[hd]at p2;have hb:=hx y hy1;have cO:=ho y hy1 (min y.mass m');have p5:(o++[y.w (min y.mass m')])++(if m'-y.mass<=0 then[]else Ht (L.drop (k+1)) (m'-y.mass))=Ht L m:=by
   rw[<-p2,Do];rfl
  have a1:IntKind.i64.wrap (m'-y.mass)=m'-y.mass:=wI (by omega) (by omega);refine⟨rfl,λF=>?_⟩;unfold AF.w AF.D at cO;unfold AF.D;dsimp only at cO⊢;obtain⟨SD,hSD⟩:∃d,CT false y.shs=d:=⟨_,rfl⟩
  have pS:AA SD:=by rw[<-hSD];exact AJ
  rw[hSD]at cO⊢;rcases o with _|⟨z,o⟩
  ·rw[Yg]
   dsimp only[Ga];refine Aq w1 300 (by kernel_rfl) ?_;refine AE kB ?_;refine⟨trivial,trivial,λF'=>?_⟩;refine AC.block ?_;refine AC.seq ?_;refine B8 w1 400 [0,1,2,3,4,5,6,7] [8,9] (by kernel_rfl) ?_;refine BO ?_;refine BX.same _ (cO) AJ ?_;refine BO ?_;refine sZ 500 ?_;refine AV a1 ?_;refine sR 600 ?_;refine AC.weak ⟨[(27,As (decide (m'-y.mass<=0)))],[⟨408,n+1+1+10,27,3,[.agg [str (sb y.grain),i64 (min y.mass m'),SD]]⟩,⟨100,2,22,1,[.osl 408 (n+1+1+10) 3 0 1]⟩,⟨0,0,3,1,[i64 (m'-y.mass)]⟩],_⟩ AL ?_;rw[<-hSD]
   by_cases hz:m'-y.mass<=0
   ·rw[AY hz]
    rw[AH hz,DX]at p5;refine AO ?_;refine CA ?_;refine .inr ⟨rfl,m'-y.mass,n+1+1+10,?_⟩;rw[<-p5];rfl
   ·rw[Ah hz]
    rw[AG hz]at p5;refine AO ?_;refine Ap ?_;exact .inl ⟨rfl,([y.w (min y.mass m')],m'-y.mass,n+1+1+10),⟨by rw[<-p1];rfl,p5,by dsimp only;omega,by dsimp only;omega⟩,Gt _⟩
  ·have wl:AA (.sl false 3 ((z::o).map AF.D)):=AJ
   have hol:o.length<=1000000:=by rw[Bo]at p1;omega
   rw[Cc]at wl;rw[Sy];dsimp only[Ga];obtain⟨O,hO⟩:∃O,o.map AF.D=O:=⟨_,rfl⟩
   obtain⟨zD,hzD⟩:∃O,z.D=O:=⟨_,rfl⟩
   have hOl:O.length=o.length:=by rw[<-hO,Am]
   rw[hO,hzD];refine Aq w1 300 (by kernel_rfl) ?_;refine AE kB ?_;refine⟨trivial,trivial,λF'=>?_⟩;refine AC.block ?_;refine AC.seq ?_;refine B8 w1 400 [0,1,2,3,4,5,6,7] [8,9] (by kernel_rfl) ?_;refine BO ?_;refine BX.same _ (cO) AJ ?_;refine BO ?_;rw[show List.take (O.length+1) (zD::O)=zD::O from C8 (l:=zD::O)];refine sZ 500 ?_;refine AV a1 ?_;refine sR 600 ?_;refine AC.weak ⟨[(27,As (decide (m'-y.mass<=0)))],[⟨408,n+1+1+10,27,3,zD::O++[.agg [str (sb y.grain),i64 (min y.mass m'),SD]]⟩,⟨100,2,22,1,[.osl 408 (n+1+1+10) 3 0 (O.length+1+1)]⟩,⟨0,0,3,1,[i64 (m'-y.mass)]⟩],_⟩ AL ?_;have hs:∀g' mm,HJ 2 (z::o++[y.w (min y.mass m')],mm,g')=[⟨408,g',27,3,zD::O++[.agg [str (sb y.grain),i64 (min y.mass m'),SD]]⟩,⟨100,2,22,1,[.osl 408 g' 3 0 (O.length+1+1)]⟩,⟨0,0,3,1,[i64 mm]⟩]:=λg' mm=>by
    rw[ES,Sy,<-hO,<-hzD,<-hSD,Cv];rw[Bk];rfl
   rw[<-hs]
   by_cases hz:m'-y.mass<=0
   ·rw[AY hz]
    rw[AH hz,DX]at p5;refine AO ?_;refine CA ?_;exact .inr ⟨rfl,m'-y.mass,n+1+1+10,by rw[<-p5];rfl⟩
   ·rw[Ah hz]
    rw[AG hz]at p5;refine AO ?_;refine Ap ?_;exact .inl ⟨rfl,(z::o++[y.w (min y.mass m')],m'-y.mass,n+1+1+10),⟨by rw[<-p1];simp,p5,by dsimp only;omega,by dsimp only;omega⟩,Gt _⟩
 ·rintro j d H' n' F' hE
  have hE2:∃m' g,H'=HJ 2 (Ht L m,m',g)/\(j=none\/j=some (.exit 0)):=by
   rcases hE with⟨hj,⟨o,m',g⟩,⟨p1,p2,-,-⟩,rfl⟩|⟨hj,m',g,rfl⟩
   ·refine⟨m',g,?_,.inl hj⟩
    dsimp only at p2;rw[List.drop_eq_nil_of_le (by omega)]at p2;rw[show o=Ht L m by rw[<-p2];exact(DX o).symm]
   ·exact⟨m',g,rfl,.inr hj⟩
  obtain⟨m',g,rfl,hj⟩:=hE2;obtain⟨o,hO⟩:∃o,Ht L m=o:=⟨_,rfl⟩
  rw[hO]at hN⊢;rcases o with _|⟨z,o⟩
  ·rw[Yg]
   rcases hj with rfl|rfl
   all_goals
    change AC _ _ _ _ _ _ _;refine sR 700 ?_;refine BF.pure [.sl false 3 []] _ ⟨.nil 3,trivial⟩ hN AJ ?_;refine BO ?_;refine Al ?_;exact AN rfl pR.out
  ·have hR:=FQ (H:=HJ 2 (z::o,m',g)) (Hf:=[]) (k:=408) (g:=g) (T:=27) (sz:=3) (l:=(z::o).map AF.D) rfl
   have hle:((z::o).map AF.D).length=(o.map AF.D).length+1:=rfl;rw[hle]at hR;rw[Sy]at hR⊢;rcases hj with rfl|rfl
   all_goals
    change AC _ _ _ _ _ _ _;refine sR 700 ?_;refine BF.own _ (CO.give [] hN (.drop (.drop (.drop .nil))) ⟨hR,trivial⟩ AJ) ?_;rintro d H2 n2 ⟨rfl,rfl,rfl⟩;refine BO ?_;refine Al ?_;exact AN rfl pR.out
abbrev LC:Dr:=[(6,[0,1,2,3,4,5,6,7],[8])]
abbrev MX:Dr:=[(6,[0,1,2,3,4,5,6,7,8,9,10,11,12,13,14,15,16,17,18,19,20,21],[22,23])]
open Go.Proofs Go.RowKit
set_option maxRecDepth 20000
set_option maxHeartbeats 4000000
def HC (s t:Av):Bool:=BK (sb s.lot) (sb t.lot)&&BK (sb s.part) (sb t.part)
def G8:List Av->List Av->Bool
 | [],[]=>true
 |s::S,t::T=>HC s t&&G8 S T
 |_,_=>false
theorem Sh:∀ {S T:List Av},S.length≠T.length->G8 S T=false
 | [],[],h=>AZ rfl h
 | [],_::_,_=>rfl
 |_::_,[],_=>rfl
 |s::S,t::T,h=>by
  show(HC s t&&G8 S T)=false;rw[Sh (S:=S) (T:=T) λq=>h (congrArg (· + 1) q),Bool.and_false]
theorem MJ:∀ {S T:List Av} {i:Nat} {s t:Av},S[i]?=some s->T[i]?=some t->HC s t=false->G8 S T=false
 |s::S,t::T,0,_,_,h1,h2,h=>by
  cases h1;cases h2;show(HC s t&&G8 S T)=false;rw[h,I1]
 |s::S,t::T,i+1,_,_,h1,h2,h=>by
  show(HC s t&&G8 S T)=false;rw[MJ (S:=S) (T:=T) (i:=i) h1 h2 h,Bool.and_false]
theorem Sg:∀ {S T:List Av},S.length=T.length->(∀(i:Nat) (s t:Av),S[i]?=some s->T[i]?=some t->HC s t=true)->G8 S T=true
 | [],[],_,_=>rfl
 | [],_::_,h,_=>by cases h
 |_::_,[],h,_=>by cases h
 |s::S,t::T,h,k=>by
  show(HC s t&&G8 S T)=true;rw[k 0 s t rfl rfl,Sg (S:=S) (T:=T) (Nat.succ.inj h) λi s t h1 h2=>k (i+1) s t h1 h2];rfl
theorem kn (b1 b2:Bool)(S T:List Av)(hS:S.length<=1000000)(hT:T.length<=1000000):AK C0 181 [CT b1 S,CT b2 T] (As (G8 S T)):=by
 refine Ak.walk w1 Z0 rfl λF=>?_
 have e1:(((S.map Av.D).length:Nat):Int)=(S.length:Int):=by rw[Am]
 have e2:(((T.map Av.D).length:Nat):Int)=(T.length:Int):=by rw[Am]
 by_cases hl:S.length=T.length
 rotate_left
 ·have hne:((S.length:Int) != (T.length:Int))=true:=bne_iff_ne.2 (by omega)
  rw[Sh hl];refine AI LC (At e1 e2 hne) AB AB AB AB AB AB ?_;exact AN rfl AA.out
 have hne:((S.length:Int) != (T.length:Int))=false:=by rw[hl];exact bne_self_eq_false _
 refine AI LC (At e1 e2 hne) AB AB AB AB AB AB ?_;refine AC.loop (α:=Nat×Nat) (λp=>⟨[(0,CT b1 S),(1,CT b2 T),(12,i64 (S.length:Int)),(13,i64 (p.1:Int))],[],p.2⟩) (λp=>S.length-p.1) (λq=>q.1<=S.length/\∀(j:Nat) (s t:Av),j<q.1->S[j]?=some s->T[j]?=some t->HC s t=true) (0,_) ⟨BU _,λj _ _ h=>AZ h (GP j)⟩ AL ?_;rintro⟨i,n⟩ F ⟨hi,ha⟩;dsimp only at hi ha⊢;rcases BG i S.length with h2|h2
 rotate_left
 ·have k1:=CW h2
  rw[Sg hl λj s t h1 h3=>ha j s t (by have:=(List.getElem?_eq_some_iff.1 h1).1;omega) h1 h3];refine AI LC k1 AB AB AB AB AB AB ?_;exact AN rfl AA.out
 have k1:=CX h2;have wi:=CY (i:=i) (by omega);obtain⟨x,hx⟩:=CG h2;obtain⟨y,hy⟩:=CG (show i<T.length by omega);have hm:(S.map Av.D)[i]?=some (.agg [str (sb x.lot),str (sb x.part)]):=by rw[A7,hx];rfl
 have hm2:(T.map Av.D)[i]?=some (.agg [str (sb y.lot),str (sb y.part)]):=by rw[A7,hy];rfl
 obtain⟨q1,c1⟩:∃q,BK (sb x.lot) (sb y.lot)=q:=⟨_,rfl⟩
 obtain⟨q2,c2⟩:∃q,BK (sb x.part) (sb y.part)=q:=⟨_,rfl⟩
 have hsh:HC x y=(q1&&q2):=by unfold HC;rw[c1,c2]
 have b1':(!(true&&(true&&true)))=false:=rfl;have b2':(!(true&&(false&&true)))=true:=rfl;have b3':(!(false&&(true&&true)))=true:=rfl;have b4':(!(false&&(false&&true)))=true:=rfl;cases q1<;>cases q2
 ·rw[MJ hx hy hsh]
  refine AI LC (CF k1 wi c1 c2 b1' b2' (At b3' b4' kN)) hm hm2 AB AB AB AB ?_;exact AN rfl AA.out
 ·rw[MJ hx hy hsh]
  refine AI LC (CF k1 wi c1 c2 b1' b2' (At b3' b4' kN)) hm hm2 AB AB AB AB ?_;exact AN rfl AA.out
 ·rw[MJ hx hy hsh]
  refine AI LC (CF k1 wi c1 c2 b1' b2' (At b3' b4' kN)) hm hm2 AB AB AB AB ?_;exact AN rfl AA.out
 ·refine AI LC (CF k1 wi c1 c2 b1' b2' (At b3' b4' kN)) hm hm2 AB AB AB AB ?_
  refine⟨(i+1,_),⟨h2,λj s t hj h1 h3=>?_⟩,by dsimp only;omega,AL⟩;rcases BG j i with h|h
  ·exact ha j s t h h1 h3
  ·have:j=i:=by dsimp only at hj;omega
   subst this;rw[hx]at h1;rw[hy]at h3;cases h1;cases h3;exact hsh
def Ir (x y:AF):Bool:=BK (sb x.grain) (sb y.grain)&&G8 x.shs y.shs
theorem nA (x y:AF)(hx:x.shs.length<=1000000)(hy:y.shs.length<=1000000):AK C0 134 [x.D,y.D] (As (Ir x y)):=by
 refine Ak.walk w1 Zk rfl λF=>?_
 have c:=kn false false x.shs y.shs hx hy;obtain⟨q,hq⟩:∃q,BK (sb x.grain) (sb y.grain)=q:=⟨_,rfl⟩
 have hb:Ir x y=(q&&G8 x.shs y.shs):=by unfold Ir;rw[hq]
 rw[hb];unfold AF.D;unfold CT at c⊢;obtain⟨S,hS⟩:∃S,x.shs.map Av.D=S:=⟨_,rfl⟩
 have pS:AA (.sl false 2 S):=by rw[<-hS];exact AJ
 obtain⟨T,hT⟩:∃S,y.shs.map Av.D=S:=⟨_,rfl⟩
 have pT:AA (.sl false 2 T):=by rw[<-hT];exact AJ
 rw[hS,hT]at c⊢;cases q
 ·refine AI Af (At hq kT kF) c AB AB AB AB AB ?_
  exact AN rfl AA.out
 ·refine AI Af (At hq kT kF) c AB AB AB AB AB ?_
  exact AN rfl AA.out
theorem nY (b1 b2:Bool)(S T:List Av)(hS:S.length<=1000000)(hT:T.length<=1000000):AK C0 52 [CT b1 S,CT b2 T] (As (G8 S T)):=by
 refine Ak.walk w1 UI rfl λF=>?_
 have e1:(((S.map Av.D).length:Nat):Int)=(S.length:Int):=by rw[Am]
 have e2:(((T.map Av.D).length:Nat):Int)=(T.length:Int):=by rw[Am]
 by_cases hl:S.length=T.length
 rotate_left
 ·have hne:((S.length:Int) != (T.length:Int))=true:=bne_iff_ne.2 (by omega)
  rw[Sh hl];refine AI MX (At e1 e2 hne) AB AB AB AB AB AB ?_;exact AN rfl AA.out
 have hne:((S.length:Int) != (T.length:Int))=false:=by rw[hl];exact bne_self_eq_false _
 refine AI MX (At e1 e2 hne) AB AB AB AB AB AB ?_;refine AC.loop (α:=Nat×Nat) (λp=>⟨[(0,CT b1 S),(1,CT b2 T),(5,i64 (p.1:Int))],[],p.2⟩) (λp=>S.length-p.1) (λq=>q.1<=S.length/\∀(j:Nat) (s t:Av),j<q.1->S[j]?=some s->T[j]?=some t->HC s t=true) (0,_) ⟨BU _,λj _ _ h=>AZ h (GP j)⟩ AL ?_;rintro⟨i,n⟩ F ⟨hi,ha⟩;dsimp only at hi ha⊢;rcases BG i S.length with h2|h2
 rotate_left
 ·have k1:=CW h2
  rw[Sg hl λj s t h1 h3=>ha j s t (by have:=(List.getElem?_eq_some_iff.1 h1).1;omega) h1 h3];refine AI MX (Ac e1 k1) AB AB AB AB AB AB ?_;exact AN rfl AA.out
 have k1:=CX h2;have wi:=CY (i:=i) (by omega);obtain⟨x,hx⟩:=CG h2;obtain⟨y,hy⟩:=CG (show i<T.length by omega);have hm:(S.map Av.D)[i]?=some (.agg [str (sb x.lot),str (sb x.part)]):=by rw[A7,hx];rfl
 have hm2:(T.map Av.D)[i]?=some (.agg [str (sb y.lot),str (sb y.part)]):=by rw[A7,hy];rfl
 obtain⟨q1,c1⟩:∃q,BK (sb x.lot) (sb y.lot)=q:=⟨_,rfl⟩
 obtain⟨q2,c2⟩:∃q,BK (sb x.part) (sb y.part)=q:=⟨_,rfl⟩
 have hsh:HC x y=(q1&&q2):=by unfold HC;rw[c1,c2]
 cases q1
 ·rw[MJ hx hy hsh]
  refine AI MX (CF e1 k1 wi c1 kN kT kF) hm hm2 AB AB AB AB ?_;exact AN rfl AA.out
 cases q2
 ·rw[MJ hx hy hsh]
  refine AI MX (CF e1 k1 wi c1 c2 kN (Ac kT kF)) hm hm2 AB AB AB AB ?_;exact AN rfl AA.out
 ·refine AI MX (CF e1 k1 wi c1 c2 kN (Ac kT kF)) hm hm2 AB AB AB AB ?_
  refine⟨(i+1,_),⟨h2,λj s t hj h1 h3=>?_⟩,by dsimp only;omega,AL⟩;rcases BG j i with h|h
  ·exact ha j s t h h1 h3
  ·have:j=i:=by dsimp only at hj;omega
   subst this;rw[hx]at h1;rw[hy]at h3;cases h1;cases h3;exact hsh
theorem oY (x y:AF)(hx:x.shs.length<=1000000)(hy:y.shs.length<=1000000):AK C0 68 [x.D,y.D] (As (Ir x y)):=by
 refine Ak.walk w1 UK rfl λF=>?_
 have c:=nY false false x.shs y.shs hx hy;obtain⟨q,hq⟩:∃q,BK (sb x.grain) (sb y.grain)=q:=⟨_,rfl⟩
 have hb:Ir x y=(q&&G8 x.shs y.shs):=by unfold Ir;rw[hq]
 rw[hb];unfold AF.D;unfold CT at c⊢;obtain⟨S,hS⟩:∃S,x.shs.map Av.D=S:=⟨_,rfl⟩
 have pS:AA (.sl false 2 S):=by rw[<-hS];exact AJ
 obtain⟨T,hT⟩:∃S,y.shs.map Av.D=S:=⟨_,rfl⟩
 have pT:AA (.sl false 2 T):=by rw[<-hT];exact AJ
 rw[hS,hT]at c⊢;cases q
 ·refine AI Af (At hq kT kF) c AB AB AB AB AB ?_
  exact AN rfl AA.out
 ·refine AI Af (At hq kT kF) c AB AB AB AB AB ?_
  exact AN rfl AA.out
def RA (H:Hp)(env:Ar):Ar->Prop
 | []=>True
 |(t,d)::r=>DO H (env.get t) d/\RA H env r
theorem RA.get {H:Hp}{env:Ar}:∀ {env':Ar},RA H env env'->∀t,DO H (env.get t) (env'.get t)
 | [],_,t=>λ_ _ _ _ _ _ _ v _=>.any v
 |(k,d)::r,h,t=>by
  simp only[Ar.get];cases hb:Nat.beq k t with
  |true=>
   have:=B4 hb
   subst this;exact h.1
  |false=>exact h.2.get t
theorem dT {C:A8}{B F:Ab}{rd:Option Nat}{c:Code}{s:St}{Q:Exit->Ab->St->Prop}(env':Ar)(he:RA s.H s.env env')(h:AC C B rd F c ⟨env',[],s.n⟩ Q):AC C B rd F c s Q:=⟨λhB hd ρ a w hs=>by
 have hH:Cb s.H [] s.H []:=by
  generalize s.H=H0
  have:∀H1:Hp,Cb H0 [] H1 []:=λH1=>by
   induction H1 with
   |nil=>exact .nil
   |cons e r ih=>exact .drop ih
  exact this H0
 obtain⟨m,hO,hN⟩:=hH.mem hs.mem;exact h.out hB hd ρ a w ⟨m,hs.fresh,by simp,λt=>he.get t _ _ _ _ hs.mem hO (λe he b hb=>hN e he b hb rfl) _ (hs.env t),hs.nt,hs.dfr⟩⟩
theorem Tp (B:D)[pB:AA B][pC:AW B](hB:∃a b c d e,B=.agg [a,b,c,d,e])(b:Bool)(ls:List D)[pL:AA (.sl b 1 ls)](i:Nat)(x:Int)(hx:ls[i]?=some (i64 x))(R:D)[pR:AA R](m:Int)
  (cB:AK C0 77 [.sl b 1 ls,i64 (i:Int),.clo (.func 131) [] [.pptr (.sl b 1 ls),.pptr (i64 (i:Int)),.pptr B]] R)
  (cL:AK C0 76 [i64 x,R] (i64 m)):AK C0 74 [B,.sl b 1 ls,i64 (i:Int)] (i64 m):=by
 refine Ak.walk w1 b6 rfl λF=>?_
 obtain⟨a1,a2,a3,a4,a5,rfl⟩:=hB;refine sR 0 ?_;refine AC.seq ?_;refine dT [(3,.pptr (.agg [a1,a2,a3,a4,a5])),(4,.pptr (.sl b 1 ls)),(5,.pptr (i64 (i:Int)))] ⟨.ptr rfl rfl rfl rfl,.ptr rfl rfl rfl rfl,.ptr rfl rfl rfl rfl,trivial⟩ ?_;refine B8 w1 100 [0,1,2,3,4,5,6,7] [8,9] (by kernel_rfl) ?_;refine BO ?_;refine Br kT hx ?_;refine AE kB ?_;refine BX.same _ (cB) AJ ?_;refine BO ?_;refine cI cL ?_;refine Al ?_;exact AN rfl AA.out
theorem nh (B:D)[pB:AA B][pC:AW B](a1 a2 a4 a5:D)(room:Int)(hB:B=.agg [a1,a2,i64 room,a4,a5])(ls:List D)[pL:AA (.sl false 1 ls)](i:Nat)(x:Int)(hx:ls[i]?=some (i64 x))(R:D)[pR:AA R](m:Int)
  (cC:AK C0 73 [B,.sl true 1 [i64 (i:Int)]] (i64 0)) (cV:AK C0 75 [B] (.sl false 1 ls))
  (cB:AK C0 77 [.sl false 1 ls,i64 (i:Int),.clo (.func 78) [] [.pptr B,.pptr (.sl false 1 ls),.pptr (i64 (i:Int))]] R) (r:Int) (hr:IntKind.i64.wrap (room-x)=r)
  (cL:AK C0 76 [i64 r,R] (i64 m)):AK C0 25 [B,i64 (i:Int)] (.tup [i64 m,i64 0]):=by
 refine Ak.walk w1 bM rfl λF=>?_
 have e0:((0:Int) != 0)=false:=rfl;subst hB;refine sR 0 ?_;refine AC.seq ?_;refine sR 100 ?_;refine cI cC ?_;refine sZ 200 ?_;refine AV e0 ?_;refine AO ?_;refine Ap ?_;refine sR 400 ?_;refine cI cV ?_;refine AC.seq ?_;refine dT [(2,.pptr (.agg [a1,a2,i64 room,a4,a5])),(3,.pptr (i64 (i:Int))),(7,.pptr (.sl false 1 ls))] ⟨.ptr rfl rfl rfl rfl,.ptr rfl rfl rfl rfl,.ptr rfl rfl rfl rfl,trivial⟩ ?_;refine B8 w1 500 [0,1,2,3,4,5,6,7,8,9,10] [11,12,13] (by kernel_rfl) ?_;refine BO ?_;refine Br kT hx ?_;refine AE hr ?_;refine BX.same _ (cB) AJ ?_;refine BO ?_;refine cI cL ?_;refine Al ?_;exact AN rfl AA.out
abbrev CN (l:List Int):List D:=l.map λx=>i64 x
theorem gW (a1 a2 a3 a4:D)[AA a1][AA a2][AA a3][AA a4](b:Bool)(cs:List D)[pc:AA (.sl b 1 cs)](ls:List Int)(hlen:ls.length=cs.length)(h0:cs≠[])(hl:cs.length<=1000000)
  (hc:∀(i:Nat) (c:D) (m:Int),cs[i]?=some c->ls[i]?=some m->AK C0 59 [c] (i64 m)) (hp:∀c∈cs,∃bb l,c=.sl bb 3 l/\AA c) (g0:Nat) (x:D) (n:Nat):
  CO C0 75 [.agg [a1,a2,a3,a4,.sl b 1 cs]] [⟨0,g0,48,5,[x]⟩] n (λd H' _=>∃g,d=.osl 504 g 1 0 ls.length/\H'=[⟨504,g,3,1,CN ls⟩,⟨0,g0,48,5,[x]⟩]):=by
 refine CO.walk w1 UL rfl λF=>?_
 refine AI Af kB AB AB AB AB AB AB ?_;refine AC.loop (α:=Nat×Nat×Nat) (λp=>⟨[(3,Dt 504 p.2.1 1 (CN (ls.take p.1))),(7,.sl b 1 cs),(8,i64 (cs.length:Int)),(9,i64 (p.1:Int))],Dj 504 p.2.1 3 1 (CN (ls.take p.1))++[⟨0,g0,48,5,[x]⟩],p.2.2⟩) (λp=>cs.length-p.1) (λq=>q.1<=cs.length) (0,0,_) (BU _) AL ?_;rintro⟨i,g,n⟩ F hi;dsimp only at hi⊢;rcases BG i cs.length with h2|h2
 rotate_left
 ·have e1:=CW h2
  have hi2:i=cs.length:=by omega
  rw[B9 (by omega:ls.length<=i)];have hls:ls≠[]:=λh=>h0 (ET (by rw[<-hlen,h];rfl))
  obtain⟨z,r,rfl⟩:∃z r,ls=z::r:=by
   cases ls with
   |nil=>exact AZ rfl hls
   |cons z r=>exact⟨z,r,rfl⟩
  rw[show CN (z::r)=i64 z::CN r from rfl,HM,HN,ES,FM];refine AI Af e1 AB AB AB AB AB AB ?_;exact⟨_,by rw[Am],rfl⟩
 have e1:=CX h2;have wi:=CY (i:=i) (by omega);obtain⟨c,hm⟩:=CG h2;obtain⟨m,hm2⟩:=CG (show i<ls.length by omega);obtain⟨bb,cl,rfl,pcl⟩:=hp c (A0 hm);have cT:=hc i _ m hm hm2;have ht:ls.take (i+1)=ls.take i++[m]:=by rw[Dh,hm2];rfl
 obtain⟨R,hR⟩:∃R,ls.take i=R:=⟨_,rfl⟩
 rw[hR]at ht⊢;rcases R with _|⟨z,R⟩
 ·rw[show CN []=[]from rfl,Ig,Ie,FM]
  refine AI Af (At e1 wi kN) hm cT AB AB AB AB ?_;refine⟨(i+1,n+1+1+1+1+1+1+1+1,n+1+1+1+1+1+1+1+1+1+1+1+1),h2,by dsimp only;omega,?_⟩;dsimp only;rw[ht];exact AL
 ·rw[show CN (z::R)=i64 z::CN R from rfl,HM,HN,ES,FM]
  obtain⟨O,hO⟩:∃O,CN R=O:=⟨_,rfl⟩
  have hOl:O.length+1=i:=by
   rw[<-hO,Am]
   have:(z::R).length=i:=by rw[<-hR,Bf];omega
   exact this
  rw[hO];refine AI Af (At e1 wi kN) hm cT AB AB AB AB ?_;refine⟨(i+1,n+1+1+1+1+1+1+1+1,n+1+1+1+1+1+1+1+1+1+1+1+1),h2,by dsimp only;omega,?_⟩;dsimp only;rw[ht,show CN (z::R++[m])=i64 z::O++[i64 m]from by rw[<-hO];unfold CN;rw[Cv];rfl];rw[ES,HM,HN,Bk];rw[show List.take (O.length+1) (i64 z::O)=i64 z::O from C8 (l:=i64 z::O)];exact AL
def Oe (k g sz:Nat)(env:Ar):Ar->Prop
 | []=>True
 |(t,d)::r=>(d=env.get t\/(env.get t=CK/\d=.osl k g sz 0 0))/\Oe k g sz env r
theorem Oe.get {k g sz:Nat}{env:Ar}:∀ {env':Ar},Oe k g sz env env'->∀t,env'.get t=.any\/env'.get t=env.get t\/(env.get t=CK/\env'.get t=.osl k g sz 0 0)
 | [],_,t=>.inl rfl
 |(q,d)::r,h,t=>by
  rw[IL]
  by_cases hk:q=t
  ·subst hk;rw[AH rfl];exact .inr h.1
  ·rw[AG hk];exact Oe.get h.2 t
theorem AC.ghost {C:A8}{B F:Ab}{rd:Option Nat}{c:Code}{s:St}{Q:Exit->Ab->St->Prop}(k T sz:Nat)(env':Ar)(he:Oe k s.n sz s.env env')(h:AC C B rd F c ⟨env',⟨k,s.n,T,sz,[]⟩::s.H,s.n+1⟩ Q):AC C B rd F c s Q:=⟨λhB hd ρ a w hs=>by
 obtain⟨m1,hO⟩:=hs.mem.ghost (k:=k) (n:=s.n) (T:=T) (sz:=sz) (hs.fresh k _ (Ai _));refine h.out hB hd ρ a w ⟨m1,λk g hg=>hs.fresh k g (by dsimp only at hg;omega),λe he=>?_,λt=>?_,hs.nt,hs.dfr⟩
 ·rcases BA.1 he with rfl|he
  ·exact HF _
  ·exact DE (hs.gen e he)
 ·have hr:=hs.env t
  dsimp only;rw[hO];rcases he.get t with h|h|⟨h1,h2⟩
  ·rw[h];exact .any _
  ·rw[h];exact hr
  ·rw[h2]
   rw[h1]at hr;generalize a.tmps.getD t undef=v at hr⊢;cases hr;exact .onil _ _ _⟩
def IX (l:List Int):Nat->Nat
 | 0=>0
 |k+1=>if l.getD (IX l k) 0<l.getD k 0 then k else IX l k
def Ff (l:List Int):Nat:=IX l l.length
theorem Tr {l:List Int}(h:0<l.length):∀k,k<=l.length->IX l k<l.length
 | 0,_=>h
 |k+1,hk=>by
  unfold IX;split
  ·omega
  ·exact Tr h k (by omega)
def Kt (mf:List Int->Int):Nat->List Int->List (Nat×Int)->List (Nat×Int)×Int
 | 0,_,_=>([],19)
 |k+1,l,out=>if l.getD (Ff l) 0=0 then(out,0)else if mf l=0 then([],7)else if out.length=256 then([],19)else Kt mf k (l.set (Ff l) (l.getD (Ff l) 0-mf l)) (out++[(Ff l,mf l)])
def GT (p:Nat×Int):D:=.agg [i64 (p.1:Int),i64 p.2]
instance  (p:Nat×Int):AW (GT p):=by unfold GT;exact AJ
instance  (p:Nat×Int):AA (GT p):=by unfold GT;exact AJ
theorem OU {l:List Int}{i:Nat}(h:i<l.length):(CN l)[i]?=some (i64 (l.getD i 0)):=by
 rw[A7,Ei,BI h];rfl
theorem lh (a1 a2 a3 a4:D)[AA a1][AA a2][AA a3][AA a4](b:Bool)(cs:List D)[pc:AA (.sl b 1 cs)](ls:List Int)(hlen:ls.length=cs.length)(h0:cs≠[])(hl:cs.length<=1000000)
  (hc:∀(i:Nat) (c:D) (m:Int),cs[i]?=some c->ls[i]?=some m->AK C0 59 [c] (i64 m)) (hp:∀c∈cs,∃bb l,c=.sl bb 3 l/\AA c)
  (cK:AK C0 32 [.agg [a1,a2,a3,a4,.sl b 1 cs]] (i64 0))
  (mf:List Int->Int) (I:List Int->Prop) (hI0:I ls) (hI:∀l,I l->l.getD (Ff l) 0≠0->AK C0 74 [.agg [a1,a2,a3,a4,.sl b 1 cs],.sl false 1 (CN l),i64 ((Ff l:Nat):Int)] (i64 (mf l))/\IntKind.i64.wrap (l.getD (Ff l) 0-mf l)=l.getD (Ff l) 0-mf l/\I (l.set (Ff l) (l.getD (Ff l) 0-mf l))):
  AK C0 51 [.agg [a1,a2,a3,a4,.sl b 1 cs]] (.tup [.sl false 2 ((Kt mf 257 ls []).1.map GT),i64 (Kt mf 257 ls []).2]):=by
 refine Ak.walk w1 bQ rfl λF=>?_
 have e0:((0:Int) != 0)=false:=rfl;have cL:=λn=>gW a1 a2 a3 a4 b cs ls hlen h0 hl hc hp 0 (.agg [a1,a2,a3,a4,.sl b 1 cs]) n
 refine AI Af e0 cK AB AB AB AB AB ?_;refine BF.own _ (cL _) ?_;rintro d H' n' ⟨g,rfl,rfl⟩;refine AI Af kB AB AB AB AB AB AB ?_;obtain⟨N,hN⟩:∃N,ls.length=N:=⟨_,rfl⟩
 have hN0:0<N:=by rw[<-hN,hlen];exact List.length_pos_iff.2 h0
 have hN1:N<=1000000:=by omega
 rw[hN];clear cL cK hc hp;refine AC.ghost 2005 91 2 [(1,.optr 0 0 5 0 0),(5,.osl 2005 _ 2 0 0),(6,.osl 504 g 1 0 N)] ⟨.inl rfl,.inr ⟨rfl,rfl⟩,.inl rfl,trivial⟩ ?_;refine AC.loop (α:=List Int×List (Nat×Int)×Nat×Nat) (λp=>⟨[(1,.optr 0 0 5 0 0),(5,.osl 2005 p.2.2.1 2 0 p.2.1.length),(6,.osl 504 g 1 0 N)],[⟨2005,p.2.2.1,91,2,p.2.1.map GT⟩,⟨504,g,3,1,CN p.1⟩,⟨0,0,48,5,[.agg [a1,a2,a3,a4,.sl b 1 cs]]⟩],p.2.2.2⟩) (λp=>257-p.2.1.length)
  (λp=>p.1.length=N/\I p.1/\p.2.1.length<=256/\Kt mf (257-p.2.1.length) p.1 p.2.1=Kt mf 257 ls []) (ls,[],_,_) ⟨hN,hI0,BU _,rfl⟩ AL ?_
 rintro⟨l,out,go,n⟩ F ⟨hl1,hIl,ho,hR⟩;dsimp only at hl1 hIl ho hR⊢;obtain⟨OD,hOD⟩:∃O,out.map GT=O:=⟨_,rfl⟩
 have hODl:OD.length=out.length:=by rw[<-hOD,Am]
 rw[hOD];obtain⟨L,hL⟩:∃L,CN l=L:=⟨_,rfl⟩
 have hLl:L.length=N:=by rw[<-hL,Am,hl1]
 rw[hL];refine AI Af kB AB AB AB AB AB AB ?_;refine AC.loop (α:=Nat×Nat) (λp=>⟨[(1,.optr 0 0 5 0 0),(5,.osl 2005 go 2 0 out.length),(6,.osl 504 g 1 0 N),(18,.osl 504 g 1 0 N),(19,i64 (N:Int)),(20,i64 (p.1:Int)),(7,i64 ((IX l p.1:Nat):Int))],[⟨2005,go,91,2,OD⟩,⟨504,g,3,1,L⟩,⟨0,0,48,5,[.agg [a1,a2,a3,a4,.sl b 1 cs]]⟩],p.2⟩) (λp=>N-p.1) (λq=>q.1<=N) (0,_) (BU _) AL ?_;rintro⟨k,n⟩ F hk;dsimp only at hk⊢;rcases BG k N with h2|h2
 ·have e1:=CX h2
  have wi:=CY (i:=k) (by omega);have hm:=OU (l:=l) (i:=k) (by omega);have hq:=Tr (l:=l) (by omega) k (by omega);have hm2:=OU hq;obtain⟨u,hu⟩:∃u,l.getD k 0=u:=⟨_,rfl⟩
  obtain⟨v,hv⟩:∃v,l.getD (IX l k) 0=v:=⟨_,rfl⟩
  have hs:IX l (k+1)=if v<u then k else IX l k:=by rw[<-hu,<-hv];rfl
  rw[hu]at hm;rw[hv]at hm2;obtain⟨q,hq2⟩:∃q,IX l k=q:=⟨_,rfl⟩
  rw[hq2]at hm2 hs hq⊢;rw[hL]at hm hm2
  by_cases hlt:v<u
  ·have e2:decide (u>v)=true:=AY hlt
   rw[AH hlt]at hs;refine AI Af (CF e1 e2 wi kN BP hm hm2) AB AB AB AB AB AB ?_;refine⟨(k+1,n+1000),h2,by dsimp only;omega,?_⟩;dsimp only;rw[hs];exact AL
  ·have e2:decide (u>v)=false:=Ah hlt
   rw[AG hlt]at hs;refine AI Af (CF e1 e2 wi kN BP hm hm2) AB AB AB AB AB AB ?_;refine⟨(k+1,n+1000),h2,by dsimp only;omega,?_⟩;dsimp only;rw[hs];exact AL
 have e1:=CW h2
 have:k=N:=by omega
 subst this;have hq:=Tr (l:=l) (by omega) k (by omega);have hm:=OU hq;have hmI:IX l k=Ff l:=by unfold Ff;rw[hl1]
 rw[hmI]at hq hm⊢;have hIm:=hI l hIl;have hRs:Kt mf (257-out.length) l out=if l.getD (Ff l) 0=0 then(out,0)else if mf l=0 then([],7)else if out.length=256 then([],19)else Kt mf (256-out.length) (l.set (Ff l) (l.getD (Ff l) 0-mf l)) (out++[(Ff l,mf l)]):=by
  rw[show 257-out.length=(256-out.length)+1 by omega];rfl
 rw[hR]at hRs;obtain⟨q,hq2⟩:∃q,Ff l=q:=⟨_,rfl⟩
 rw[hq2]at hq hm hIm hRs⊢;obtain⟨v,hv⟩:∃v,l.getD q 0=v:=⟨_,rfl⟩
 rw[hv]at hm hIm hRs;rw[hL]at hm
 by_cases hv0:v=0
 ·have e2:(v==0)=true:=by rw[hv0];rfl
  rw[AH hv0]at hRs;rw[hRs];refine AI Af (CM e1 e2 kN BP hm) AB AB AB AB AB AB ?_;have hf:=FQ (H:=[⟨2005,go,91,2,OD⟩,⟨504,g,3,1,L⟩,⟨0,0,48,5,[.agg [a1,a2,a3,a4,.sl b 1 cs]]⟩]) (Hf:=[]) (k:=2005) (g:=go) (T:=91) (sz:=2) (l:=OD) rfl;rw[hODl]at hf;rw[hOD];have pO:AA (.sl false 2 OD):=by rw[<-hOD];exact AJ
  exact⟨_,FS hf (.refl _),AA.out,rfl⟩
 rw[AG hv0]at hRs;have e2:(v==0)=false:=Bq.2 hv0;obtain⟨cM,wm,hI'⟩:=hIm hv0;obtain⟨m,hmm⟩:∃m,mf l=m:=⟨_,rfl⟩
 rw[hmm]at cM wm hI' hRs;have pL:AA (.sl false 1 (CN l)):=AJ;rw[hL]at cM pL;have hfL:=FQ (H:=[⟨2005,go,91,2,OD⟩,⟨504,g,3,1,L⟩,⟨0,0,48,5,[.agg [a1,a2,a3,a4,.sl b 1 cs]]⟩]) (Hf:=[]) (k:=504) (g:=g) (T:=3) (sz:=1) (l:=L) rfl;rw[hLl]at hfL;refine AI Af (CM e1 e2 kN BP hm) AB AB AB AB AB AB ?_;refine BF.own _ (L0 (H:=[⟨2005,go,91,2,OD⟩,⟨504,g,3,1,L⟩,⟨0,0,48,5,[.agg [a1,a2,a3,a4,.sl b 1 cs]]⟩]) cM rfl (λi a d h1 h2=>by
  match i with
  | 0=>cases h1;cases h2;exact .refl _ _
  | 1=>cases h1;cases h2;exact .of hfL
  | 2=>cases h1;cases h2;exact .refl _ _
  |n+3=>cases h1) AJ (.prim _)) ?_
 rintro d H' n' ⟨rfl,rfl,rfl⟩
 by_cases hm0:m=0
 ·have e3:(m==0)=true:=by rw[hm0];rfl
  rw[AH hm0]at hRs;rw[hRs];refine AI Af e3 AB AB AB AB AB AB ?_;exact⟨_,FS (.nil 2) (.refl _),AA.out,rfl⟩
 rw[AG hm0]at hRs;have e3:(m==0)=false:=Bq.2 hm0
 by_cases h256:out.length=256
 ·have e4:((out.length:Int)==256)=true:=by rw[h256];rfl
  rw[AH h256]at hRs;rw[hRs];refine AI Af (Ac e3 e4) AB AB AB AB AB AB ?_;exact⟨_,FS (.nil 2) (.refl _),AA.out,rfl⟩
 rw[AG h256]at hRs;have e4:((out.length:Int)==256)=false:=Bq.2 (by omega);refine AI Af (D2 e3 e4 wm kN BP hm) AB AB AB AB AB AB ?_;have hle:out.length<256:=by omega
 refine⟨(l.set q (v-m),out++[(q,m)],n+1+1+1+1+1+1+1+1+1+1+1+1+1+1+1+1+1+1+1+1+1,n+1000),⟨by rw[C9];exact hl1,?_,by rw[Bk];exact hle,?_⟩,?_,?_⟩
 ·exact hI'
 ·dsimp only
  rw[hRs,Bk];rw[show 257-(out.length+[(q,m)].length)=256-out.length by simp only[Bo,Gg];omega]
 ·dsimp only
  rw[Bk];simp only[Bo,Gg];omega
 ·dsimp only
  rw[Bk,Cv,hOD,B9 (show OD.length<=out.length by omega)];rw[show CN (l.set q (v-m))=L.set q (i64 (v-m))from by rw[<-hL];unfold CN;rw[List.map_set]];exact AL
abbrev N6:Dr:=[(8,[0,1,2,3,4,5,6,7,8],[9,10,11]),(9,[0,1,2,3,4,5,6,7],[8,9,10,11])]
open Go.Proofs Go.RowKit
set_option maxRecDepth 20000
set_option maxHeartbeats 4000000
def EG (out:List AF)(x:AF):List AF:=match out.getLast? with
 |some y=>if Ir y x then out.dropLast++[y.w (y.mass+x.mass)]else out++[x]
 |none=>[x]
def Bl (l:List AF):List AF:=l.foldl EG []
theorem kL {l:List AF}{i:Nat}{x:AF}(h:l[i]?=some x):(l.take (i+1)).foldl EG []=EG ((l.take i).foldl EG []) x:=by
 rw[Dh,h];simp
theorem Wl {R:List AF}{y x:AF}(h:R[R.length-1]?=some y):EG R x=if Ir y x then R.dropLast++[y.w (y.mass+x.mass)]else R++[x]:=by
 unfold EG;rw[List.getLast?_eq_getElem?,h]
theorem XY {R:List AF}{y z:AF}(h:R[R.length-1]?=some y):R.set (R.length-1) z=R.dropLast++[z]:=by
 have hl:=(List.getElem?_eq_some_iff.1 h).1;rw[List.set_eq_take_append_cons_drop,AH hl,List.dropLast_eq_take];rw[show R.length-1+1=R.length by omega,IP]
def Uq (l:List AF)(i:Nat)(R:List AF):Prop:=R=(l.take i).foldl EG []/\R.length<=i/\∀y∈R,0<=y.mass/\y.mass<=(i:Int)*1000000000/\y.shs.length<=1000000
def NA (i:Nat)(R:List AF):Prop:=R.length<=i/\∀y∈R,0<=y.mass/\y.mass<=(i:Int)*1000000000/\y.shs.length<=1000000
theorem Sd {i:Nat}{R:List AF}{x:AF}(hJ:NA i R)(hm:0<=x.mass/\x.mass<=1000000000/\x.shs.length<=1000000):NA (i+1) (EG R x):=by
 obtain⟨h2,h3⟩:=hJ;refine⟨?_,?_⟩
 ·unfold EG
  split
  ·split
   ·rw[Bk,List.length_dropLast];simp;omega
   ·rw[Bk];simp;omega
  ·simp
 ·have hR:∀y∈R,0<=y.mass/\y.mass<=((i+1:Nat):Int)*1000000000/\y.shs.length<=1000000:=λy hy=>by
   obtain⟨a,b,c⟩:=h3 y hy;exact⟨a,by omega,c⟩
  have hxx:0<=x.mass/\x.mass<=((i+1:Nat):Int)*1000000000/\x.shs.length<=1000000:=⟨by omega,by omega,hm.2.2⟩
  intro z hz;unfold EG at hz;split at hz
  ·rename_i y hy
   have hyR:=List.mem_of_getLast? hy;split at hz
   ·rcases List.mem_append.1 hz with hz|hz
    ·exact hR z ((List.dropLast_sublist R).subset hz)
    ·obtain rfl:=List.mem_singleton.1 hz
     obtain⟨a,b,c⟩:=h3 y hyR;refine⟨?_,?_,c⟩
     ·show 0<=y.mass+x.mass;omega
     ·show y.mass+x.mass<=_;omega
   ·rcases List.mem_append.1 hz with hz|hz
    ·exact hR z hz
    ·obtain rfl:=List.mem_singleton.1 hz;exact hxx
  ·obtain rfl:=List.mem_singleton.1 hz;exact hxx
theorem iZ {l:List AF}{i:Nat}{R:List AF}{x:AF}(hJ:Uq l i R)(hx:l[i]?=some x)(hm:1<=x.mass/\x.mass<=1000000000/\x.shs.length<=1000000):Uq l (i+1) (EG R x):=
 ⟨by rw[kL hx,<-hJ.1],Sd hJ.2 ⟨by omega,hm.2⟩⟩
def I6 (l:List AF):List AF:=l.filter λx=>x.mass != 0
theorem mS {l:List AF}{i:Nat}{x:AF}(h:l[i]?=some x)(hx:x.mass≠0):I6 (l.take (i+1))=I6 (l.take i)++[x]:=by
 unfold I6;rw[Dh,h,List.filter_append]
 have:(x.mass != 0)=true:=by unfold bne;rw[Bq.2 hx];rfl
 rw[show(some x).toList=[x]from rfl,List.filter_cons,AH this];rfl
theorem mR {l:List AF}{i:Nat}{x:AF}(h:l[i]?=some x)(hx:x.mass=0):I6 (l.take (i+1))=I6 (l.take i):=by
 unfold I6;rw[Dh,h,List.filter_append]
 have:¬(x.mass != 0)=true:=by rw[hx];decide
 rw[show(some x).toList=[x]from rfl,List.filter_cons,AG this];simp
theorem tK {l:List AF}(h:∀x∈l,1<=x.mass):I6 l=l:=List.filter_eq_self.2 λx hx=>by
 have:=h x hx
 unfold bne;rw[Bq.2 (by omega)];rfl
theorem kI (b:Bool)(l:List AF)(hl:l.length<=1000000)(hx:∀x∈l,0<=x.mass/\x.mass<=1000000000/\x.shs.length<=1000000):AK C0 84 [Ae b l] (Ae false (Bl (I6 l))):=by
 refine Ak.walk w1 b9 rfl λF=>?_
 have el:(((l.map AF.D).length:Nat):Int)=(l.length:Int):=by rw[Am]
 refine sR 0 ?_;refine sR 100 ?_;refine AC.seq ?_;refine sZ 200 ?_;refine AV el ?_;refine AC.ghost 606 27 3 [(3,.osl 606 _ 3 0 0),(7,Ae b l),(8,i64 (l.length:Int)),(9,i64 ((0:Nat):Int))] ⟨.inr ⟨rfl,rfl⟩,.inl rfl,.inl rfl,.inl rfl,trivial⟩ ?_;refine AC.block ?_;refine AC.loop (α:=Nat×List AF×Nat×Nat) (λp=>⟨[(3,.osl 606 p.2.2.1 3 0 p.2.1.length),(7,Ae b l),(8,i64 (l.length:Int)),(9,i64 (p.1:Int))],[⟨606,p.2.2.1,27,3,p.2.1.map AF.D⟩],p.2.2.2⟩) (λp=>l.length-p.1) (λq=>q.1<=l.length/\q.2.1=(I6 (l.take q.1)).foldl EG []/\NA q.1 q.2.1) (0,[],_,_) ⟨BU _,rfl,Ai _,λy h=>by cases h⟩ AL ?_;rintro⟨i,R,g,n⟩ F ⟨hi,hJ⟩;dsimp only at hi hJ⊢;rcases BG i l.length with h2|h2
 rotate_left
 ·have k1:=CW h2
  have:i=l.length:=by omega
  subst this;have hR:=hJ.1;rw[C8]at hR;have hf:=FQ (H:=[⟨606,g,27,3,R.map AF.D⟩]) (Hf:=[]) (k:=606) (g:=g) (T:=27) (sz:=3) (l:=R.map AF.D) rfl;rw[Am]at hf;refine AI N6 k1 AB AB AB AB AB AB ?_;exact⟨_,hf,AA.out,by rw[hR];rfl⟩
 have k1:=CX h2;have wi:=CY (i:=i) (by omega);obtain⟨x,hx'⟩:=CG h2;have hxm:=hx x (A0 hx');have hm:(l.map AF.D)[i]?=some (.agg [str (sb x.grain),i64 x.mass,.sl false 2 (x.shs.map Av.D)]):=by rw[A7,hx'];rfl
 have cO:=Tv x x.mass hxm.2.2
 by_cases hz:x.mass=0
 ·have g0:(x.mass==0)=true:=by rw[hz];rfl
  refine AI N6 (D2 k1 g0 wi kN kT kF) hm AB AB AB AB AB ?_;exact⟨(i+1,R,g,n+1000),⟨h2,by dsimp only;rw[mR hx' hz];exact hJ.1,by dsimp only;have:=hJ.2.1;omega,λy hy=>by
   obtain⟨a,b,c⟩:=hJ.2.2 y hy;refine⟨a,?_,c⟩;dsimp only;omega⟩,by dsimp only;omega,AL⟩
 have hJ':EG R x=(I6 (l.take (i+1))).foldl EG []/\NA (i+1) (EG R x):=⟨by rw[mS hx' hz,List.foldl_append,<-hJ.1];rfl,Sd hJ.2 hxm⟩
 have g0:(x.mass==0)=false:=Bq.2 hz;have hRl:(R.map AF.D).length=R.length:=Am ..;have hRb:=hJ.2.1;rcases Db R.length with hR0|hR0
 ·have hRn:R=[]:=ET hR0
  subst hRn;have g1:decide (((0:Nat):Int)>0)=false:=rfl;unfold AF.D at cO;unfold CT at cO;obtain⟨S,hS⟩:∃S,x.shs.map Av.D=S:=⟨_,rfl⟩
  have pS:AA (.sl false 2 S):=by rw[<-hS];exact AJ
  rw[hS]at cO hm;rw[Gg,List.map_nil];refine AI N6 (CF k1 g0 g1 wi kN kT kF) hm cO AB AB AB AB ?_;refine⟨(i+1,[x],n+1+1+1+1+1+1+1+1+1+1+1+1+12+1+1+1+1+1+1+1+1+1,n+1000),⟨h2,hJ'⟩,by dsimp only;omega,?_⟩;dsimp only;rw[show[x].map AF.D=[.agg [str (sb x.grain),i64 x.mass,.sl false 2 S]]from by rw[<-hS];rfl];exact AL
 have g1:decide ((R.length:Int)>0)=true:=AY (by omega);obtain⟨y,hy⟩:=CG (show R.length-1<R.length by omega);have hym:=hJ.2.2 y (A0 hy);have w2:IntKind.i64.wrap ((R.length:Int)-1)=((R.length-1:Nat):Int):=by rw[wI (by omega) (by omega)];omega
 have w3:IntKind.i64.wrap (y.mass+x.mass)=y.mass+x.mass:=wI (by omega) (by omega);have hm2:(R.map AF.D)[R.length-1]?=some (.agg [str (sb y.grain),i64 y.mass,.sl false 2 (y.shs.map Av.D)]):=by rw[A7,hy];rfl
 have cK:=nA y x hym.2.2 hxm.2.2;have hN:=Wl (x:=x) hy;have hset:=XY (z:=y.w (y.mass+x.mass)) hy;unfold AF.D CT at cO cK;obtain⟨S,hS⟩:∃S,x.shs.map Av.D=S:=⟨_,rfl⟩
 have pS:AA (.sl false 2 S):=by rw[<-hS];exact AJ
 obtain⟨SY,hSY⟩:∃S,y.shs.map Av.D=S:=⟨_,rfl⟩
 have pSY:AA (.sl false 2 SY):=by rw[<-hSY];exact AJ
 rw[hS]at cO hm cK;rw[hSY]at cK hm2;obtain⟨RD,hRD⟩:∃T,R.map AF.D=T:=⟨_,rfl⟩
 rw[hRD]at hm2 hRl⊢;have hr:0<=((R.length-1:Nat):Int)/\((R.length-1:Nat):Int)<(R.length:Int):=by omega
 obtain⟨q,hq⟩:∃q,Ir y x=q:=⟨_,rfl⟩
 rw[hq]at cK hN;cases q
 ·rw[hN,AG Bool.false_ne_true]at hJ'
  refine AI N6 (CF k1 g0 g1 w2 wi kN (BW BP hm2 kT kF)) hm cO cK AB AB AB ?_;refine⟨(i+1,R++[x],n+1+1+1+1+1+1+1+1+1+1+1+1+12+1+1+1+1+1+1+1+1+1,n+1000),⟨h2,hJ'⟩,by dsimp only;omega,?_⟩;dsimp only;rw[Bk,Cv,hRD,B9 (show RD.length<=R.length by omega)];rw[show[x].map AF.D=[.agg [str (sb x.grain),i64 x.mass,.sl false 2 S]]from by rw[<-hS];rfl];exact AL
 ·rw[hN,AH rfl]at hJ'
  refine AI N6 (CF k1 g0 g1 w2 w3 wi (CM kN BP hm2 kT kF)) hm cO cK AB AB AB ?_;refine⟨(i+1,R.dropLast++[y.w (y.mass+x.mass)],g,n+1000),⟨h2,hJ'⟩,by dsimp only;omega,?_⟩;dsimp only;rw[<-hset,C9,List.map_set,hRD];rw[show(y.w (y.mass+x.mass)).D=.agg [str (sb y.grain),i64 (y.mass+x.mass),.sl false 2 SY]from by rw[<-hSY];rfl];exact AL
theorem Wj (b:Bool)(l:List AF)(hl:l.length<=1000000)(hx:∀x∈l,1<=x.mass/\x.mass<=1000000000/\x.shs.length<=1000000):AK C0 84 [Ae b l] (Ae false (Bl l)):=by
 have h:=kI b l hl λx h=>⟨by have:=(hx x h).1;omega,(hx x h).2⟩
 rw[tK λx h=>(hx x h).1]at h;exact h
abbrev QN:Dr:=[(6,[0,1,2,3,4,5,6,7,8,9,10,11],[12,13]),(7,[0,1,2,3,4,5,6,7,8,9,10,11,12,13,14],[15,16,17])]
open Go.Proofs Go.RowKit
set_option maxRecDepth 20000
set_option maxHeartbeats 4000000
theorem YO (b:Bool)(l:List AF)(hl:l.length<=1000000)(hx:∀x∈l,1<=x.mass/\x.mass<=1000000000/\x.shs.length<=1000000):AK C0 40 [Ae b l] (Ae false (Bl l)):=by
 refine Ak.walk w1 um rfl λF=>?_
 have el:(((l.map AF.D).length:Nat):Int)=(l.length:Int):=by rw[Am]
 refine sR 0 ?_;refine sR 100 ?_;refine AC.seq ?_;refine sR 200 ?_;refine AC.ghost 906 27 3 [(0,Ae b l),(3,.osl 906 _ 3 0 0),(4,i64 ((0:Nat):Int))] ⟨.inl rfl,.inr ⟨rfl,rfl⟩,.inl rfl,trivial⟩ ?_;refine AC.block ?_;refine AC.loop (α:=Nat×List AF×Nat×Nat) (λp=>⟨[(0,Ae b l),(3,.osl 906 p.2.2.1 3 0 p.2.1.length),(4,i64 (p.1:Int))],[⟨906,p.2.2.1,27,3,p.2.1.map AF.D⟩],p.2.2.2⟩) (λp=>l.length-p.1) (λq=>q.1<=l.length/\Uq l q.1 q.2.1) (0,[],_,_) ⟨BU _,rfl,Ai _,λy h=>by cases h⟩ AL ?_;rintro⟨i,R,g,n⟩ F ⟨hi,hJ⟩;dsimp only at hi hJ⊢;rcases BG i l.length with h2|h2
 rotate_left
 ·have k1:=CW h2
  have:i=l.length:=by omega
  subst this;have hR:=hJ.1;rw[C8]at hR;have hf:=FQ (H:=[⟨906,g,27,3,R.map AF.D⟩]) (Hf:=[]) (k:=906) (g:=g) (T:=27) (sz:=3) (l:=R.map AF.D) rfl;rw[Am]at hf;refine AI QN (Ac el k1) AB AB AB AB AB AB ?_;exact⟨_,hf,AA.out,by rw[hR];rfl⟩
 have k1:=CX h2;have wi:=CY (i:=i) (by omega);obtain⟨x,hx'⟩:=CG h2;have hxm:=hx x (A0 hx');have hJ':=iZ hJ hx' hxm;have hm:(l.map AF.D)[i]?=some (.agg [str (sb x.grain),i64 x.mass,.sl false 2 (x.shs.map Av.D)]):=by rw[A7,hx'];rfl
 have g0:decide (x.mass>0)=true:=AY (by omega);have hRl:(R.map AF.D).length=R.length:=Am ..;have hRb:=hJ.2.1;rcases Db R.length with hR0|hR0
 ·have hRn:R=[]:=ET hR0
  subst hRn;have g1:decide (((0:Nat):Int)>0)=false:=rfl;obtain⟨S,hS⟩:∃S,x.shs.map Av.D=S:=⟨_,rfl⟩
  have pS:AA (.sl false 2 S):=by rw[<-hS];exact AJ
  rw[hS]at hm;rw[Gg,List.map_nil];refine AI QN (CF el k1 g0 g1 wi kN (Ac kT kF)) hm AB AB AB AB AB ?_;refine⟨(i+1,[x],n+1+1+1+1+1+1+1+14+1+1+1+1+1+1+1+1+1+1+1+1+1+1,n+1000),⟨h2,hJ'⟩,by dsimp only;omega,?_⟩;dsimp only;rw[show[x].map AF.D=[.agg [str (sb x.grain),i64 x.mass,.sl false 2 S]]from by rw[<-hS];rfl];exact AL
 have g1:decide ((R.length:Int)>0)=true:=AY (by omega);obtain⟨y,hy⟩:=CG (show R.length-1<R.length by omega);have hym:=hJ.2.2 y (A0 hy);have w2:IntKind.i64.wrap ((R.length:Int)-1)=((R.length-1:Nat):Int):=by rw[wI (by omega) (by omega)];omega
 have w3:IntKind.i64.wrap (y.mass+x.mass)=y.mass+x.mass:=wI (by omega) (by omega);have hm2:(R.map AF.D)[R.length-1]?=some (.agg [str (sb y.grain),i64 y.mass,.sl false 2 (y.shs.map Av.D)]):=by rw[A7,hy];rfl
 have cK:=oY y x hym.2.2 hxm.2.2;have hN:=Wl (x:=x) hy;have hset:=XY (z:=y.w (y.mass+x.mass)) hy;unfold AF.D CT at cK;obtain⟨S,hS⟩:∃S,x.shs.map Av.D=S:=⟨_,rfl⟩
 have pS:AA (.sl false 2 S):=by rw[<-hS];exact AJ
 obtain⟨SY,hSY⟩:∃S,y.shs.map Av.D=S:=⟨_,rfl⟩
 have pSY:AA (.sl false 2 SY):=by rw[<-hSY];exact AJ
 rw[hS]at hm cK;rw[hSY]at cK hm2;obtain⟨RD,hRD⟩:∃T,R.map AF.D=T:=⟨_,rfl⟩
 rw[hRD]at hm2 hRl⊢;have hr:0<=((R.length-1:Nat):Int)/\((R.length-1:Nat):Int)<(R.length:Int):=by omega
 obtain⟨q,hq⟩:∃q,Ir y x=q:=⟨_,rfl⟩
 rw[hq]at cK hN;cases q
 ·rw[hN,AG Bool.false_ne_true]at hJ'
  refine AI QN (CF el k1 g0 g1 w2 wi (CM kN BP hm2 kT kF)) hm cK AB AB AB AB ?_;refine⟨(i+1,R++[x],n+1+1+1+1+1+1+1+14+1+1+1+1+1+1+1+1+1+1+1+1+1+1,n+1000),⟨h2,hJ'⟩,by dsimp only;omega,?_⟩;dsimp only;rw[Bk,Cv,hRD,B9 (show RD.length<=R.length by omega)];rw[show[x].map AF.D=[.agg [str (sb x.grain),i64 x.mass,.sl false 2 S]]from by rw[<-hS];rfl];exact AL
 ·rw[hN,AH rfl]at hJ'
  refine AI QN (CF el k1 g0 g1 w2 w3 (D2 wi kN BP hm2 kT kF)) hm cK AB AB AB AB ?_;refine⟨(i+1,R.dropLast++[y.w (y.mass+x.mass)],g,n+1000),⟨h2,hJ'⟩,by dsimp only;omega,?_⟩;dsimp only;rw[<-hset,C9,List.map_set,hRD];rw[show(y.w (y.mass+x.mass)).D=.agg [str (sb y.grain),i64 (y.mass+x.mass),.sl false 2 SY]from by rw[<-hSY];rfl];exact AL
abbrev Gs:Dr:=[(11,[0,1,2,3,4,5,6,7,8,9,10,11,12,13],[14,15])]
open Go.Proofs Go.RowKit
set_option maxRecDepth 20000
set_option maxHeartbeats 4000000
theorem YV {l:List Av}:∀i,i<=l.length->(∀j,j<i->Ca (Fg l j).part=0)->rk (Eu l i) (601*i+1)
 | 0,_,_=>(Yb 1 (Ai _)).rk
 |i+1,hi,h=>(aH (YV i (by omega) λj hj=>h j (by omega)) (Mg (h i (by omega)))).mono (by omega)
theorem n9 {l:List Av}{i:Nat}(h:FO l i=0):Ca (Fg l i).part=0:=by
 unfold FO at h;split at h
 ·cases h
 split at h
 ·cases h
 split at h
 ·exact h
 ·rename_i h1;exact Decidable.not_not.1 h1
theorem xK (b:Bool)(l:List Av)(hl:l.length<=15\/64<l.length)(hl2:l.length<=9223372036854775807)(hf:∀s∈l,s.few):AK C0 119 [CT b l] (i64 (HT l:Nat)):=by
 refine Ak.walk w1 pt rfl λF=>?_
 have el:(((l.map Av.D).length:Nat):Int)=(l.length:Int):=by rw[Am]
 have hC:HT l=if l.length=0 then 2 else if 64<l.length then 5 else if Df (FO l) l.length≠0 then Df (FO l) l.length else if Eu l l.length=1 then 0 else 12:=rfl
 rcases Nat.decEq l.length 0 with h0|h0
 rotate_left
 ·rw[AH h0]at hC
  rw[hC];have q1:((l.length:Int)==0)=true:=by rw[h0];rfl
  refine AI Gs (Ac el q1) AB AB AB AB AB AB ?_;exact AN rfl AA.out
 rw[AG h0]at hC;have q1:((l.length:Int)==0)=false:=Bq.2 (by omega)
 by_cases h64:64<l.length
 ·rw[AH h64]at hC
  rw[hC];have q2:decide ((l.length:Int)>64)=true:=AY (by omega);refine AI Gs (At el q1 q2) AB AB AB AB AB AB ?_;exact AN rfl AA.out
 rw[AG h64]at hC;have q2:decide ((l.length:Int)>64)=false:=Ah (by omega);have h15:l.length<=15:=by omega
 refine AI Gs (At el q1 q2) AB AB AB AB AB AB ?_;refine AC.loop (α:=Nat×Nat) (λp=>⟨[(0,CT b l),(3,rR (Eu l p.1)),(4,i64 (p.1:Int))],[],p.2⟩) (λp=>l.length-p.1) (λp=>p.1<=l.length/\∀j,j<p.1->FO l j=0) (0,_)
  ⟨BU _,λj h=>AZ h (GP j)⟩ (by(dsimp only;rw[show rR (Eu l 0)=str ⟨#[48]⟩from m7];exact AL)) ?_
 rintro⟨i,m⟩ F ⟨hi,hz⟩;dsimp only at hi hz⊢;have hSk:=YV (l:=l) i hi λj hj=>n9 (hz j hj)
 rcases BG i l.length with h2|h2
 rotate_left
 ·have e1:=CW h2
  have:i=l.length:=by omega
  subst this;rw[AG (λh=>h (ME hz))]at hC;have e2:=iA (Eu l l.length);obtain⟨q,hq⟩:∃q,decide (Eu l l.length=1)=q:=⟨_,rfl⟩
  rw[hq]at e2;unfold rR;cases q
  ·rw[AG (DN hq)]at hC
   rw[hC];refine AI Gs (At e1 el e2) AB AB AB AB AB AB ?_;exact AN rfl AA.out
  ·rw[AH (DA hq)]at hC
   rw[hC];refine AI Gs (At e1 el e2) AB AB AB AB AB AB ?_;exact AN rfl AA.out
 have e1:=CX h2;have wi:=CY (i:=i) (by omega);obtain⟨s,hs⟩:=CG h2;have hm:(l.map Av.D)[i]?=some (.agg [str (sb s.lot),str (sb s.part)]):=by rw[A7,hs];rfl
 obtain⟨f1,f2⟩:=hf s (A0 hs);have hE:FO l i=if Da s.lot=false then 8 else if 0<i/\OQ s.lot (Fg l (i-1)).lot=true then 11 else if Ca s.part≠0 then Ca s.part else if Gf (CR s.part)<=0 then 12 else 0:=by unfold FO;rw[JT hs]
 have hbad:∀e:Nat,e≠0->FO l i=e->HT l=e:=λe he h=>by
  have:=N8 hz h2 (by rw[h];exact he)
  rw[hC,this,h,AH he]
 have cN:=bp s.lot (by omega);obtain⟨N,hN⟩:∃q,Da s.lot=q:=⟨_,rfl⟩
 rw[hN]at cN hE;cases N
 ·rw[AH rfl]at hE
  rw[hbad 8 (by decide) hE];refine AI Gs (At e1 el kN) hm cN AB AB AB AB ?_;exact AN rfl AA.out
 rw[AG (by decide)]at hE;have cC:=s7 s.part f2;rcases i with _|q
 ·have g0:decide (((0:Nat):Int)>0)=false:=rfl
  rw[AG (λh=>AZ h.1 (Nat.lt_irrefl 0))]at hE;rcases Nat.decEq (Ca s.part) 0 with hc0|hc0
  ·rw[AH hc0]at hE
   have e3:=GJ hc0;rw[hbad (Ca s.part) hc0 hE];refine AI Gs (CM e1 el g0 kN e3) hm cN cC AB AB AB ?_;exact AN rfl AA.out
  rw[AG (λh=>h hc0)]at hE;have e3:=GK hc0;have cG:=aK (CR s.part) (Xv hc0);have cA:=cr (Eu l 0) (CR s.part) (601*0+1) 600 hSk (Mg hc0) (by omega);rw[T4 hc0]at cG cA;have hnext:Eu l (0+1)=Eu l 0+CR s.part:=by show _+CR (Fg l 0).part=_;rw[JT hs]
  rw[<-hnext]at cA;obtain⟨sg,hsg⟩:∃q,Gf (CR s.part)=q:=⟨_,rfl⟩
  rw[hsg]at cG hE
  by_cases hs0:sg<=0
  ·rw[AH hs0]at hE
   have e4:decide (sg<=0)=true:=AY hs0;rw[hbad 12 (by decide) hE];refine AI Gs (D2 e1 el g0 kN e3 e4) hm cN cC cG AB AB ?_;exact AN rfl AA.out
  rw[AG hs0]at hE;have e4:decide (sg<=0)=false:=Ah hs0;refine AI Gs (CF e1 el g0 kN e3 e4 wi) hm cN cC cG cA AB ?_;exact⟨(0+1,_),⟨h2,λj hj=>by
   rcases Nat.lt_succ_iff_lt_or_eq.1 hj with q|q
   ·exact hz j q
   ·rw[q];exact hE⟩,by dsimp only;omega,AL⟩
 ·have g0:decide (((q+1:Nat):Int)>0)=true:=AY (by omega)
  have g1:IntKind.i64.wrap (((q+1:Nat):Int)-1)=(q:Int):=by rw[wI (by omega) (by omega)];omega
  obtain⟨s0,hs0'⟩:=CG (l:=l) (i:=q) (by omega);have hm0:(l.map Av.D)[q]?=some (.agg [str (sb s0.lot),str (sb s0.part)]):=by rw[A7,hs0'];rfl
  rw[IM,JT hs0']at hE;obtain⟨bL,hbL⟩:∃q,OQ s.lot s0.lot=q:=⟨_,rfl⟩
  have g2:(Ld (sb s.lot) (sb s0.lot)||BK (sb s.lot) (sb s0.lot))=bL:=hbL;rw[hbL]at hE;cases bL
  rotate_left
  ·rw[AH ⟨Nat.succ_pos q,rfl⟩]at hE
   rw[hbad 11 (by decide) hE];refine AI Gs (D2 e1 el g0 g1 g2 kN) hm hm0 cN AB AB AB ?_;exact AN rfl AA.out
  rw[AG (λh=>AZ h.2 (by decide))]at hE;rcases Nat.decEq (Ca s.part) 0 with hc0|hc0
  ·rw[AH hc0]at hE
   have e3:=GJ hc0;rw[hbad (Ca s.part) hc0 hE];refine AI Gs (CF e1 el g0 g1 g2 kN e3) hm hm0 cN cC AB AB ?_;exact AN rfl AA.out
  rw[AG (λh=>h hc0)]at hE;have e3:=GK hc0;have cG:=aK (CR s.part) (Xv hc0);have cA:=cr (Eu l (q+1)) (CR s.part) (601*(q+1)+1) 600 hSk (Mg hc0) (by omega);rw[T4 hc0]at cG cA;have hnext:Eu l ((q+1)+1)=Eu l (q+1)+CR s.part:=by show _+CR (Fg l (q+1)).part=_;rw[JT hs]
  rw[<-hnext]at cA;obtain⟨sg,hsg⟩:∃q,Gf (CR s.part)=q:=⟨_,rfl⟩
  rw[hsg]at cG hE
  by_cases hs0:sg<=0
  ·rw[AH hs0]at hE
   have e4:decide (sg<=0)=true:=AY hs0;rw[hbad 12 (by decide) hE];refine AI Gs (CF e1 el g0 g1 g2 kN (Ac e3 e4)) hm hm0 cN cC cG AB ?_;exact AN rfl AA.out
  rw[AG hs0]at hE;have e4:decide (sg<=0)=false:=Ah hs0;refine AI Gs (CF e1 el g0 g1 g2 kN (At e3 e4 wi)) hm hm0 cN cC cG cA ?_;exact⟨((q+1)+1,_),⟨h2,λj hj=>by
   rcases Nat.lt_succ_iff_lt_or_eq.1 hj with q|q
   ·exact hz j q
   ·rw[q];exact hE⟩,by dsimp only;omega,AL⟩
theorem vp (x:AF)(hs:x.shs.length<=15\/64<x.shs.length)(hf:x.few):AK C0 64 [x.D] (i64 (Ci x:Nat)):=by
 refine Ak.walk w1 uC rfl λF=>?_
 obtain⟨f1,f2,f3⟩:=hf;have cN:=bp x.grain (by omega);have cS:=xK false x.shs hs f2 f3;have hC:Ci x=if Da x.grain=false then 8 else if x.mass<1\/x.mass>999999999 then 3 else HT x.shs:=rfl
 obtain⟨N,hN⟩:∃q,Da x.grain=q:=⟨_,rfl⟩
 obtain⟨SD,hSD⟩:∃d,CT false x.shs=d:=⟨_,rfl⟩
 have pS:AA SD:=by rw[<-hSD];exact AJ
 have hna:JR SD=true:=by rw[<-hSD];rfl
 unfold AF.D;rw[hN]at cN hC;rw[hSD]at cS⊢;cases N
 ·rw[AH rfl]at hC
  rw[hC];refine AI Af kB cN AB AB AB AB AB ?_;exact AN rfl AA.out
 rw[AG (by decide)]at hC
 by_cases h1:x.mass<1
 ·rw[AH (.inl h1)]at hC
  rw[hC];have e1:decide (x.mass<1)=true:=AY h1;refine AI Af e1 cN AB AB AB AB AB ?_;exact AN rfl AA.out
 have e1:decide (x.mass<1)=false:=Ah h1
 by_cases h2:x.mass>999999999
 ·rw[AH (.inr h2)]at hC
  rw[hC];have e2:decide (x.mass>999999999)=true:=AY h2;refine AI Af (Ac e1 e2) cN AB AB AB AB AB ?_;exact AN rfl AA.out
 have e2:decide (x.mass>999999999)=false:=Ah h2;rw[AG (by omega)]at hC;rw[hC];refine AI Af (At e1 e2 hna) cN cS AB AB AB AB ?_;exact AN rfl AA.out
def Hc (lot:List UInt8)(r:Rat):By->By
 | []=>[(lot,r)]
 |p::l=>if ltStr p.1 lot then p::Hc lot r l else if p.1=lot then(p.1,p.2+r)::l else(lot,r)::p::l
def Lv (x:AF)(n:Nat)(q:By):By:=(x.shs.take n).foldl (λacc s=>Hc s.lot (CR s.part*(x.mass:Rat)) acc) q
def Ka (l:List AF):By:=l.foldl (λacc x=>Lv x x.shs.length acc) []
theorem ic (x:AF)(n:Nat)(q:By){s:Av}(h:x.shs[n]?=some s):Lv x (n+1) q=Hc s.lot (CR s.part*(x.mass:Rat)) (Lv x n q):=by
 unfold Lv;rw[Dh,h,List.foldl_append];rfl
theorem gY (l:List AF)(n:Nat){x:AF}(h:l[n]?=some x):Ka (l.take (n+1))=Lv x x.shs.length (Ka (l.take n)):=by
 unfold Ka;rw[Dh,h,List.foldl_append];rfl
abbrev Gp (q:By):Prop:=q.Pairwise λa b=>ltStr a.1 b.1=true
theorem Gp.nd {q:By}(h:Gp q):(Co q).Nodup:=by
 rw[Co,List.Nodup,List.pairwise_map];exact h.imp λ{a b} h e=>by rw[e,swo_ltStr.irrefl]at h;cases h
theorem Pr {lot:List UInt8}{o v:Rat}:∀ {q:By},Fo lot q=some o->∃A B,q=A++(lot,o)::B/\GE lot v q=A++(lot,v)::B
 | [],h=>by simp[Fo]at h
 |p::l,h=>by
  unfold Fo at h;unfold GE;split at h
  ·rename_i e
   cases h;rw[AH e];exact⟨[],l,by rw[e];rfl,rfl⟩
  ·rename_i e
   rw[AG e];obtain⟨A,B,h1,h2⟩:=Pr (v:=v) h;exact⟨p::A,B,by rw[h1];rfl,by rw[h2];rfl⟩
theorem SK {lot:List UInt8}{v:Rat}:∀ {q:By},Fo lot q=none->lot∉Co q/\GE lot v q=q++[(lot,v)]
 | [],_=>⟨by simp[Co],rfl⟩
 |p::l,h=>by
  unfold Fo at h;unfold GE;split at h
  ·cases h
  ·rename_i e
   rw[AG e];obtain⟨h1,h2⟩:=SK (v:=v) h;exact⟨λq=>by
    rcases BA.1 q with q|q
    ·exact e q
    ·exact h1 q,by rw[h2];rfl⟩
theorem Wz {lot:List UInt8}{r:Rat}:∀ {Q:By},Gp Q->(∃A o B,Q=A++(lot,o)::B/\Hc lot r Q=A++(lot,o+r)::B)\/(lot∉Co Q/\∃A B,Q=A++B/\Hc lot r Q=A++(lot,r)::B)
 | [],_=>.inr ⟨by simp[Co],[],[],rfl,rfl⟩
 |p::l,h=>by
  have hp:=Dm.1 h;unfold Hc;split
  ·rename_i e
   rcases Wz (lot:=lot) (r:=r) hp.2 with⟨A,o,B,h1,h2⟩|⟨h0,A,B,h1,h2⟩
   ·exact .inl ⟨p::A,o,B,by rw[h1];rfl,by rw[h2];rfl⟩
   ·refine .inr ⟨λq=>?_,p::A,B,by rw[h1];rfl,by rw[h2];rfl⟩
    rcases BA.1 q with q|q
    ·rw[show p.1=lot from q.symm,swo_ltStr.irrefl]at e;cases e
    ·exact h0 q
  ·rename_i e
   split
   ·rename_i e2
    exact .inl ⟨[],p.2,l,by rw[<-e2];rfl,by rw[e2];rfl⟩
   ·rename_i e2
    refine .inr ⟨λq=>?_,[],p::l,rfl,rfl⟩;rcases BA.1 q with q|q
    ·exact e2 q.symm
    ·obtain⟨z,hz,rfl⟩:=List.mem_map.1 q
     exact e (hp.1 z hz)
theorem WY {lot:List UInt8}{r:Rat}:∀ {Q:By},∀z∈Hc lot r Q,z.1=lot\/z.1∈Co Q
 | [],z,hz=>by
  unfold Hc at hz;rw[List.mem_singleton]at hz;exact .inl (by rw[hz])
 |p::l,z,hz=>by
  unfold Hc at hz;split at hz
  ·rcases BA.1 hz with rfl|hz
   ·exact .inr Cg
   ·rcases WY z hz with h|h
    ·exact .inl h
    ·exact .inr (Cn _ h)
  ·split at hz
   ·rcases BA.1 hz with rfl|hz
    ·exact .inr Cg
    ·exact .inr (Cn _ (List.mem_map_of_mem hz))
   ·rcases BA.1 hz with rfl|hz
    ·exact .inl rfl
    ·exact .inr (List.mem_map_of_mem hz)
theorem YE {lot:List UInt8}{r:Rat}:∀ {Q:By},Gp Q->Gp (Hc lot r Q)
 | [],_=>List.pairwise_singleton _ _
 |p::l,h=>by
  have hp:=Dm.1 h;unfold Hc;split
  ·rename_i e
   refine Dm.2 ⟨λz hz=>?_,YE hp.2⟩;rcases WY z hz with h|h
   ·rw[h];exact e
   ·obtain⟨y,hy,h2⟩:=List.mem_map.1 h
    rw[<-h2];exact hp.1 y hy
  ·rename_i e
   split
   ·exact Dm.2 ⟨hp.1,hp.2⟩
   ·rename_i e2
    have e3:ltStr lot p.1=true:=by
     cases h9:ltStr lot p.1 with
     |true=>rfl
     |false=>exact AZ (V5 (by simpa using e) h9) e2
    refine Dm.2 ⟨λz hz=>?_,h⟩;rcases BA.1 hz with rfl|hz
    ·exact e3
    ·exact swo_ltStr.trans _ _ _ e3 (hp.1 z hz)
theorem mq {Q q:By}(hs:Gp Q)(hp:Q.Perm q)(lot:List UInt8)(r:Rat):(Hc lot r Q).Perm (Ji lot r q):=by
 have hnd:(Co Q).Nodup:=hs.nd;unfold Ji;rcases Wz (lot:=lot) (r:=r) hs with⟨A,o,B,h1,h2⟩|⟨h0,A,B,h1,h2⟩
 ·have hm:(lot,o)∈q:=hp.mem_iff.1 (by rw[h1];simp)
  have hqn:(Co q).Nodup:=(hp.map _).nodup_iff.1 hnd;have hlk:=Sb hqn hm;dsimp only at hlk;rw[hlk];dsimp only;obtain⟨A2,B2,h3,h4⟩:=Pr (v:=r+o) hlk;rw[h2,h4];have p1:(A++(lot,o)::B).Perm ((lot,o)::(A++B)):=Gl;have p2:(A2++(lot,o)::B2).Perm ((lot,o)::(A2++B2)):=Gl;have p3:(A++B).Perm (A2++B2):=by
   rw[h1,h3]at hp;exact List.Perm.cons_inv (p1.symm.trans (hp.trans p2))
  rw[Rat.add_comm o r];exact Gl.trans ((p3.cons _).trans Gl.symm)
 ·have hn:Fo lot q=none:=by
   cases h9:Fo lot q with
   |none=>rfl
   |some o=>
    obtain⟨A2,B2,h3,-⟩:=Pr (v:=o) h9;exact AZ ((hp.map (·.1)).mem_iff.2 (by rw[h3];simp)) h0
  rw[hn];dsimp only;rw[(SK (v:=r) hn).2,h2];rw[h1]at hp;exact Gl.trans ((hp.cons _).trans (List.perm_append_singleton _ _).symm)
theorem YF {Q q:By}(hs:Gp Q)(hp:Q.Perm q)(x:AF):∀j,j<=x.shs.length->Gp (Lv x j Q)/\(Lv x j Q).Perm (GD x j q)
 | 0,_=>⟨hs,hp⟩
 |j+1,hj=>by
  obtain⟨s,hsj⟩:∃s,x.shs[j]?=some s:=⟨_,BI hj⟩
  obtain⟨h1,h2⟩:=YF hs hp x j (by omega);rw[ic x j Q hsj,NY x j q hsj];exact⟨YE h1,mq h1 h2 _ _⟩
theorem Sp (l:List AF):∀i,i<=l.length->Gp (Ka (l.take i))/\(Ka (l.take i)).Perm (CH (l.take i))
 | 0,_=>⟨List.Pairwise.nil,.refl _⟩
 |i+1,hi=>by
  obtain⟨x,hx⟩:∃x,l[i]?=some x:=⟨_,BI hi⟩
  obtain⟨h1,h2⟩:=Sp l i (by omega);rw[gY l i hx,PZ l i hx];exact YF h1 h2 x _ (Ai _)
theorem Gp.weak {q:By}(h:Gp q):q.Pairwise λa b=>ltStr b.1 a.1=false:=h.imp λ{a b} h=>by
 cases h9:ltStr b.1 a.1 with
 |false=>rfl
 |true=>have:=swo_ltStr.trans _ _ _ h h9;rw[swo_ltStr.irrefl]at this;cases this
theorem W2 (l:List AF):Ka l=FK (CH l):=by
 obtain⟨h1,h2⟩:=Sp l l.length (Ai _);rw[C8]at h1 h2;exact Rz ((h2.map _).nodup_iff.1 h1.nd) h2 (J7 _) h1.weak (QS _)
theorem kC (l:List AF):Gp (Ka l):=by
 obtain⟨h1,-⟩:=Sp l l.length (Ai _)
 rwa [C8]at h1
end Go.Ide
