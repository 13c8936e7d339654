/- The layer of own lemmas and contracts, part 11. -/
import Derived.Test.YteeceibhhdapaaaGreatDoorX9
import Derived.Test.YteeceibhhdapaaaGreatDoorX10
import Derived.Test.YteeceibhhdapaaaGreatDoorX3
import Derived.Test.YteeceibhhdapaaaGreatDoorX7
import Derived.Shelf.RegionOpenPlain
import Derived.Lib.Builder
import Derived.Lib.UnsafeStr
import Derived.Lib.Strings
import Derived.Lib.Slices
import Derived.Lib.Walk
import Derived.Laws.Externs
import Derived.KernelRfl
import Derived.WalkKit
import Derived.Shelf.Strconv.Itoa3
import Derived.Lib.ItoaMem
import Derived.Lib.AppendIntMem
import Derived.BigCall
import Derived.BigGuard
import Derived.Test.YteeceibhhdapaaaGreatDoorX8
import Derived.Test.YteeceibhhdapaaaGreatDoorX4
import Derived.Shelf.SlSortCmp.WholeK
import Derived.Shelf.Lay
import Derived.Laws.Cover1
import Derived.Shelf.Small.Bits
import Derived.Ground.SlsfProg
import Derived.Ground.NamesProg
import Derived.Shelf.SlIter.Sorted
import Derived.Shelf.SortM.Plain
import Derived.Shelf.SortM.SortNone
import Derived.Ground.GgzProg
import Derived.Ground.SlgmProg
set_option linter.unusedVariables false
set_option linter.unusedSimpArgs false
namespace Go.Ide
open Go.Proofs Go.RowKit
set_option maxRecDepth 20000
set_option maxHeartbeats 4000000
theorem Ch {i n:Nat}(h:i<n):decide ((i:Int)<(n:Int))=true:=AX (by omega)
theorem Cg {i n:Nat}(h:n<=i):decide ((i:Int)<(n:Int))=false:=Ad (by omega)
theorem CZ {i:Nat}(h:i<9223372036854775807):IntKind.i64.wrap ((i:Int)+1)=((i+1:Nat):Int):=wI (by omega) (by omega)
theorem CL {α:Type}{l:List α}{i:Nat}(h:i<l.length):∃x,l[i]?=some x:=⟨l[i],BE h⟩
instance  (l:List UInt8):AT (GB l).D:=by unfold GF.D;exact AI
theorem GE {a:Nat}(h:a≠0):(((a:Nat):Int) != 0)=true:=Hw (by omega)
theorem GG {a:Nat}(h:a=0):(((a:Nat):Int) != 0)=false:=by subst h;rfl
theorem xU {a:Nat}(h:a≠0):(((a:Nat):Int)==0)=false:=Bu.2 (by omega)
set_option maxHeartbeats 1000000
set_option maxRecDepth 100000
theorem xL {n:Nat}(h:1<=n):liesAt Tryz.prog Tryz.prog.depth 244 n 0 244 1=true:=by
 have hs:sameLayout Tryz.prog Tryz.prog.depth 244 244=true:=by kernel_rfl
 have hc:Tryz.prog.cellsOf 244=2:=by kernel_rfl
 obtain⟨d,hd⟩:∃d,Tryz.prog.depth=d+1:=⟨Tryz.prog.depth-1,by kernel_rfl⟩
 rw[hd]at hs⊢;unfold liesAt;rw[hd];unfold rowAt;simp[hc,hs,h]
theorem nW (b c:Nat)(hc:2<=c)(w:World)(h0:w.cell? ⟨b,0,none⟩=some (.pointer none))(hsh:w.shape? b=some (244,c))(hfz:w.frozen? ⟨b,0,none⟩=false):
  Calls Tryz.prog 262 #[.pointer (some ⟨b,0,none⟩)] w λe w'=>e=.returned (.tuple #[])/\w'=w.setCell ⟨b,0,none⟩ (.pointer (some ⟨b,0,none⟩)):=by
 obtain⟨j,hj,hjs⟩:=Option.map_eq_some_iff.1 (show(Tryz.prog.info? 244).map (·.size)=some 2 by kernel_rfl);have hl:liesAt Tryz.prog Tryz.prog.depth 244 (c/Tryz.prog.cellsOf 244) 0 244 1=true:=xL (by rw[show Tryz.prog.cellsOf 244=2 by kernel_rfl];omega)
 go_enter Tryz.func262,Tryz.ntmps262
 go_wp2
 rw[Lib.run_to_unsafe w ⟨b,0,none⟩ (t:=244) (by kernel_rfl) (by kernel_rfl) hj (by rw[hjs];decide) hsh (by show 0<c;omega)];simp only[Result.andThen];rw[Oper.upon_value]
 go_wp2
 rw[run_callFunc_extern Tryz.func293 (by kernel_rfl) (by kernel_rfl) (by kernel_rfl) (e:=Extern.AbiNoEscape.same) (by kernel_rfl)];rw[Lib.run_noEscape];simp only[Result.andThen];rw[Oper.upon_value]
 go_wp2
 rw[Lib.run_from_unsafe w ⟨b,0,none⟩ (u:=244) (by kernel_rfl) (by kernel_rfl) hj hsh hl];simp only[Result.andThen];rw[Oper.upon_value]
 go_wp2
 go_end0
 exact⟨rfl,rfl⟩
theorem qY (b:Nat)(w:World)(h0:w.cell? ⟨b,0,none⟩=some (.pointer (some ⟨b,0,none⟩))):
  Calls Tryz.prog 262 #[.pointer (some ⟨b,0,none⟩)] w λe w'=>e=.returned (.tuple #[])/\w'=w:=by
 obtain⟨j,hj,hjs⟩:=Option.map_eq_some_iff.1 (show(Tryz.prog.info? 244).map (·.size)=some 2 by kernel_rfl)
 go_enter Tryz.func262,Tryz.ntmps262
 go_wp2
 rw[Lib.run_neq_ptr_same w _ (te:=244) (by kernel_rfl) hj]
 go_wp2
 go_end0
 exact⟨rfl,rfl⟩
theorem xT (b g:Nat)(cur cs:Array Value)(l:List UInt8)(h0:l≠[])(w:World)(hb:w.heap[b]?=some (.cells cs 244 (0,0)))(hb1:cs[1]?=some (.slice (some ⟨g,0,none⟩) l.length cur.size))
  (hg:w.heap[g]?=some (.cells cur 5 (0,0))) (hl:l.length<=cur.size) (hcap:cur.size<=maxLen) (hcell:∀(j:Nat) (x:UInt8),l[j]?=some x->cur[j]?=some (.int .u8 x.toNat)):
  Calls Tryz.prog 213 #[.pointer (some ⟨b,0,none⟩)] w λe w'=>e=.returned (.string ⟨l.toArray⟩)/\w'=(w.drew.freeze ⟨g,0,none⟩ l.length):=by
 have c1:w.drew.cell? ⟨b,1,none⟩=some (.slice (some ⟨g,0,none⟩) l.length cur.size):=by
  have:w.drew.heap[b]?=some (.cells cs 244 (0,0)):=hb
  rw[Lib.cell_of_heap this];exact hb1
 have h0':l.length≠0:=by simpa using h0
 have hSD:(Builtin.unsafeSliceData_ #[242] 279 #[.slice (some ⟨g,0,none⟩) l.length cur.size]).run Tryz.prog w.drew=.ok (.pointer (some ⟨g,0,none⟩)) w.drew:=
  Lib.run_unsafeSliceData_row _ _ _ _ _ _ (by omega)
 have hUS:(Builtin.unsafeString_ #[279,3] 9 #[.pointer (some ⟨g,0,none⟩),.int .i64 l.length]).run Tryz.prog w.drew=.ok (.string ⟨l.toArray⟩) (w.drew.freeze ⟨g,0,none⟩ l.length):=by
  refine Lib.run_unsafeString_row w.drew 279 3 9 5 (by kernel_rfl) (by kernel_rfl) g cur.size (by have hg':w.drew.heap[g]?=some (.cells cur 5 (0,0)):=hg;simp[World.shape?,hg']) l h0 (by omega) (by unfold maxLen at hcap;omega) ?_;intro j x hx;have hg':w.drew.heap[g]?=some (.cells cur 5 (0,0)):=hg
  have:=hcell j x hx
  rw[Addr.add_lit];simp[World.cell?,hg',this]
 have mixed:Tryz.prog.follows .mixedOrders=true:=by kernel_rfl
 go_enter Tryz.func213,Tryz.ntmps213
 go_wp2
 go_region_o
 all_goals(go_wp2;go_ret;exact⟨rfl,rfl⟩)
def Fi (l:List UInt8):List D:=l.map λb=>.prim (.int .u8 (b.toNat:Int))
abbrev FS (g:Nat)(p x:D):Aw:=⟨1500,g,244,2,[.agg [p,x]]⟩
theorem dw {vs:Array Value}(h:vs.size=1):vs = #[vs.getD 0 undef]:=by
 match vs,h with
 |⟨[u]⟩,_=>rfl
theorem dx (g n:Nat)(x p:D)(H1 H2:Hp)(hp:p=.prim (.pointer none)\/p=.optr 1500 g 2 0 0):
  Ca C0 262 [.optr 1500 g 2 0 0] (H1++FS g p x::H2) n (λd H' n'=>d=.prim (.tuple #[])/\H'=H1++FS g (.optr 1500 g 2 0 0) x::H2/\n'=n):=by
 refine⟨⟨_,_,Tryz.func262,rfl,by kernel_rfl⟩,λF ρ w vs m fr hgn hvs hr=>?_⟩;have h0:=hr 0 _ rfl;rw[dw hvs];generalize hv:vs.getD 0 undef=v at h0;cases h0 with
 |optr hρ=>
  rename_i b;have he:FS g p x∈H1++FS g p x::H2:=by simp
  obtain⟨cs,hc,q⟩:=m.at he hρ;have hlen:2<=cs.size:=q.len;have hr0:AV ρ (AN F.X ρ (H1++FS g p x::H2)) w p (cs.getD 0 undef):=q.rep 0 _ 0 p rfl rfl;have hr1:AV ρ (AN F.X ρ (H1++FS g p x::H2)) w x (cs.getD 1 undef):=q.rep 0 _ 1 x rfl rfl;have hcell:w.cell? ⟨b,0,none⟩=some (cs.getD 0 undef):=by
   simp[World.cell?,hc,Array.getD,show 0<cs.size by omega]
  rcases hp with rfl|rfl
  ·cases hr0':cs.getD 0 undef with
   |pointer a=>
    rw[hr0']at hr0 hcell;cases hr0;refine(nW b cs.size hlen w hcell (by simp[World.shape?,hc]) (by simp[World.frozen?,hc])).mono ?_;rintro e w' ⟨rfl,rfl⟩;have hset:w.setCell ⟨b,0,none⟩ (.pointer (some ⟨b,0,none⟩))=World.setBlk w b (cs.setIfInBounds 0 (.pointer (some ⟨b,0,none⟩))) 244:=by
     rw[setCell_eq_setRow w b 0 cs 244 (0,0) _ hc];exact Sj hc
    have hop:AV ρ (AN F.X ρ (H1++FS g (.prim (.pointer none)) x::H2)) w (.optr 1500 g 2 0 0) (.pointer (some ⟨b,0*2+0,none⟩)):=.optr hρ;have ho:DC ρ (AN F.X ρ (H1++FS g (.prim (.pointer none)) x::H2)) w (FS g (.optr 1500 g 2 0 0) x) (cs.setIfInBounds 0 (.pointer (some ⟨b,0,none⟩))):=by
     refine⟨by rw[VP];exact q.len,λi d hd=>?_,λi v hv=>?_,λi d j c hd hj=>?_⟩
     ·rcases i with _|i
      ·cases hd;rfl
      ·simp at hd
     ·rw[IS]at hv
      split at hv
      ·split at hv
       ·cases hv;rfl
       ·cases hv
      ·exact q.one i v hv
     ·rcases i with _|i
      ·cases hd
       rcases j with _|_|j
       ·cases hj
        have:(cs.setIfInBounds 0 (.pointer (some ⟨b,0,none⟩))).getD (0*2+0) undef=.pointer (some ⟨b,0*2+0,none⟩):=by
         simp[Az,show 0<cs.size by omega]
        rw[this];exact hop
       ·cases hj
        have:(cs.setIfInBounds 0 (.pointer (some ⟨b,0,none⟩))).getD (0*2+1) undef=cs.getD 1 undef:=by
         simp[Az]
        rw[this];exact hr1
       ·simp[D.cells]at hj
      ·simp at hd
    obtain⟨m1,x1⟩:=m.write (e':=FS g (.optr 1500 g 2 0 0) x) hρ hc rfl rfl rfl (VP ..) ho;rw[hset];exact⟨_,_,_,n,ρ,rfl,⟨rfl,rfl,rfl⟩,m1,x1,fr,λe' he'=>by
     rcases List.mem_append.1 he' with h|h
     ·exact hgn e' (by simp[h])
     ·rcases BF.1 h with rfl|h
      ·exact hgn (FS g (.prim (.pointer none)) x) he
      ·exact hgn e' (by simp[h]),.prim _⟩
   |_=>rw[hr0']at hr0;cases hr0
  ·cases hr0':cs.getD 0 undef with
   |pointer a=>
    rw[hr0']at hr0 hcell;cases hr0 with
    |optr hρ2=>
     rw[hρ]at hρ2;cases hρ2;refine(qY b w hcell).mono ?_;rintro e w' ⟨rfl,rfl⟩;exact⟨_,_,_,n,ρ,rfl,⟨rfl,rfl,rfl⟩,m,BT.refl _ _ _,fr,hgn,.prim _⟩
   |_=>rw[hr0']at hr0;cases hr0
theorem gF (w:World)(g n:Nat)(hn:n≠0)(cur:Array Value)(T:Nat)(hg:w.heap[g]?=some (.cells cur T (0,0))):
  (w.freeze ⟨g,0,none⟩ n).heap.size=w.heap.size/\(w.freeze ⟨g,0,none⟩ n).os=w.os/\(w.freeze ⟨g,0,none⟩ n).tape=w.tape/\(w.freeze ⟨g,0,none⟩ n).output=w.output /\
  (∀k,k≠g->(w.freeze ⟨g,0,none⟩ n).heap[k]?=w.heap[k]?)/\∃(cs':Array Value) (fz':Nat×Nat),(w.freeze ⟨g,0,none⟩ n).heap[g]?=some (.cells cs' T fz')/\cs'.size=cur.size:=by
 unfold World.freeze;rw[AF hn];refine⟨by simp,rfl,rfl,rfl,λk hk=>?_,?_⟩
 ·dsimp only
  rw[Array.getElem?_modify,AF (λh=>hk h.symm)]
 ·dsimp only
  rw[Array.getElem?_modify,AG rfl,hg];exact⟨cur,_,rfl,rfl⟩
theorem wW (g gb n:Nat)(l:List UInt8)(h0:l≠[])(p:D)(R:Hp):
  Ca C0 213 [.optr 1500 g 2 0 0] (⟨206,gb,5,1,Fi l⟩::FS g p (.osl 206 gb 1 0 l.length)::R) n (λd H' n'=>d=str ⟨l.toArray⟩/\H'=FS g p (.osl 206 gb 1 0 l.length)::R/\n'=n):=by
 refine⟨⟨_,_,Tryz.func213,rfl,by kernel_rfl⟩,λF ρ w vs m fr hgn hvs hr=>?_⟩;have hz:=hr 0 _ rfl;have h0':l.length≠0:=by simpa using h0
 rw[dw hvs];generalize hv:vs.getD 0 undef=v at hz;cases hz with
 |optr hρ=>
  rename_i b;obtain⟨cs,hc,q⟩:=m.at (e:=FS g p (.osl 206 gb 1 0 l.length)) (by simp) hρ;have hlen:2<=cs.size:=q.len;have hr1:AV ρ (AN F.X ρ (⟨206,gb,5,1,Fi l⟩::FS g p (.osl 206 gb 1 0 l.length)::R)) w (.osl 206 gb 1 0 l.length) (cs.getD 1 undef):=q.rep 0 _ 1 (.osl 206 gb 1 0 l.length) rfl rfl;generalize hs1:cs.getD 1 undef=sv at hr1;generalize hL:l.length=L at hr1;cases hr1 with
   |onil=>exact Ah hL h0'
   |osl hρ2 hb2 hc2 hs2 hm2=>
    rename_i cap gy T' cs2 fz2;obtain⟨cur,hcur,qy⟩:=m.at (e:=⟨206,gb,5,1,Fi l⟩) (by simp) hρ2;rw[hb2]at hcur;cases hcur;have hcap:cap=cs2.size:=by omega
    subst hcap;have hcell:∀(j:Nat) (x:UInt8),l[j]?=some x->cs2[j]?=some (.int .u8 x.toNat):=λj x hx=>by
     have hr:=qy.rep j (.prim (.int .u8 (x.toNat:Int))) 0 (.prim (.int .u8 (x.toNat:Int))) (by unfold Fi;rw[A0,hx];rfl) rfl;have hlt:j<cs2.size:=by
      have:=(List.getElem?_eq_some_iff.1 hx).1
      omega
     generalize hvv:cs2.getD (j*1+0) undef=vv at hr;cases hr;rw[Bn hlt]
     have:cs2.getD j undef=cs2[j]:=by simp[Array.getD,hlt]
     rw[D6,DR,this]at hvv;rw[hvv]
    have hb1:cs[1]?=some (.slice (some ⟨gy,0,none⟩) l.length cs2.size):=by
     have hlt:1<cs.size:=by omega
     rw[Bn hlt]
     have:cs.getD 1 undef=cs[1]:=by simp[Array.getD,hlt]
     rw[this]at hs1;rw[hs1,hL,Gr]
    refine(xT b gy cs2 cs l h0 w hc hb1 hb2 (by omega) (by omega) hcell).mono ?_;rintro e w' ⟨rfl,rfl⟩;have md:=m.drew;obtain⟨f1,f2,f3,f4,f5,cs',fz',f6,f7⟩:=gF w.drew gy l.length h0' cs2 5 hb2;obtain⟨m1,x1⟩:=xz (H1:=[]) (H2:=FS g p (.osl 206 gb 1 0 l.length)::R) (w':=w.drew.freeze ⟨gy,0,none⟩ l.length) md hρ2 f1 f2 f3 f4 f5 (λc hcc=>by
     have hb2':w.drew.heap[gy]?=some (.cells cs2 5 (0,0)):=hb2;have hcc':w.drew.heap[gy]?=some (.cells c 5 (0,0)):=hcc;rw[hb2']at hcc';cases hcc';exact⟨cs',fz',f6,f7⟩)
    rw[hL];rw[hL]at m1 x1;exact⟨_,_,_,n,ρ,rfl,⟨rfl,rfl,rfl⟩,m1,(BT.drew _ _ _).trans x1,fr,λe' he'=>hgn e' (by rw[hL];exact CQ _ he'),.prim _⟩
set_option maxRecDepth 20000
set_option maxHeartbeats 4000000
def bH (gb g:Nat)(p:D)(L:List UInt8)(R:Hp):Hp:=Dl 206 gb 5 1 (Fi L)++(FS g p (Ds 206 gb 1 (Fi L))::R)
theorem jQ (s:List UInt8):H9 (sb s)=Fi s:=rfl
theorem Ns (l:List UInt8):(Fi l).length=l.length:=Ac ..
theorem jP (a b:List UInt8):Fi (a++b)=Fi a++Fi b:=Cs
theorem Xk {l:List UInt8}(h:l≠[]):∃x r,Fi l=x::r:=by
 cases l with
 |nil=>exact Ah rfl h
 |cons a l=>exact⟨_,_,rfl⟩
theorem eV (g gb n:Nat)(p:D)(hp:p=.prim (.pointer none)\/p=.optr 1500 g 2 0 0)(L s:List UInt8)(hs:s≠[])(R:Hp)(hlen:L.length+s.length<=100000000):
  Ca C0 212 [.optr 1500 g 2 0 0,str (sb s)] (bH gb g p L R) n (λd H' n'=>(∃g',H'=bH g' g (.optr 1500 g 2 0 0) (L++s) R)/\n<=n'):=by
 refine Ca.walk w1 ax rfl λF=>?_
 have hsz:=Cd s;have hb:=jQ s;obtain⟨x,r,hx⟩:=Xk hs;have hr:s.length=r.length+1:=by rw[<-Ns,hx];rfl
 unfold bH;rw[jP];cases hL:Fi L with
 |nil=>
  dsimp only[If,Ig,List.nil_append];refine AH AW kB AB AB AB AB AB AB ?_;refine A9.own _ (dx g _ CP p [] R hp) ?_;rintro d H' n' ⟨rfl,rfl,rfl⟩;have hL0:L.length=0:=by rw[<-Ns,hL];rfl
  refine AH AW (Ae hsz hb) AB AB AB AB AB AB ?_;refine⟨?_,by omega⟩;apply Exists.intro;rw[hx,hr];rfl
 |cons y l=>
  dsimp only[HT,HQ,List.cons_append,List.nil_append];have hL1:L.length=l.length+1:=by rw[<-Ns,hL];rfl
  have htk:List.take (l.length+1) (y::l)=y::l:=by simp
  refine AH AW kB AB AB AB AB AB AB ?_;refine A9.own _ (dx g _ (.osl 206 gb 1 0 (l.length+1)) p [⟨206,gb,5,1,y::l⟩] R hp) ?_;rintro d H' n' ⟨rfl,rfl,rfl⟩;refine AH AW (As hsz hb htk) AB AB AB AB AB AB ?_;refine⟨?_,by omega⟩;apply Exists.intro;have hap:y::l++Fi s=y::(l++Fi s):=rfl;have hl2:(l++Fi s).length+1=l.length+1+s.length:=by rw[Bh,Ns];omega
  rw[hl2]
open Go.Sort Go.Shelf
section
open Go.Lib
set_option maxHeartbeats 6400000 in
set_option maxRecDepth 100000 in
theorem x6 (u:Nat) (hu64:u<18446744073709551616) (w:World) (htab:Lib.TabIs Tryz.prog w "internal/strconv.uint64pow10" .u64 Lib.pow10Tab):
  Calls Tryz.prog 258 #[.int .u64 u,.int .i64 10] w λe w'=>e=.returned (.string ⟨(Lib.decDigits u).toArray⟩)/\∃k os,w'=grow (w.drewN k) os:=by
 have e283:∀args w,(callFunc 287 args).run Tryz.prog w=.ok (.enter 287 args) w:=enters_of Tryz.func287 (by kernel_rfl) rfl;have e284:∀args w,(callFunc 288 args).run Tryz.prog w=.ok (.enter 288 args) w:=enters_of Tryz.func288 (by kernel_rfl) rfl;have e285:∀args w,(callFunc 289 args).run Tryz.prog w=.ok (.enter 289 args) w:=enters_of Tryz.func289 (by kernel_rfl) rfl
 by_cases hs:u<100
 ·go_enter Tryz.func258,Tryz.ntmps258
  go_wp2_with (go_at_fn 287;refine(Tryz.internal_strconv_small u hs _).mono ?_;rintro e w' ⟨rfl,rfl⟩)
  go_ret
  exact⟨rfl,0,#[],by simp[World.drewN_zero]⟩
 ·have hu1:1<=u:=by omega
  have hnd20:Lib.nDigits u<=20:=by have:=Lib.numDigits_eq u hu1 hu64;split at this<;>omega
  have hb3:Lib.nDigits u<=24:=by omega
  have hal:Tryz.prog.arrayLen 297=24:=by kernel_rfl
  have hsl1:∀W,(Instr.sliceAt 297 (.pointer (some ⟨w.heap.size,0,none⟩)) none (some (.int .i64 (Lib.nDigits u:Int))) none).run Tryz.prog W=.ok (.slice (some ⟨w.heap.size,0,none⟩) (Lib.nDigits u) 24) W:=λW=>by
   rw[run_sliceAt_array_h W 297 ⟨w.heap.size,0,none⟩ (by kernel_rfl) .i64 (Lib.nDigits u:Int) (by omega) (by rw[hal];omega)]
   go_simp
  have hH0:=Lib.holds_zero0 w 297 (Lib.nDigits u) (by omega);have hfmt:=Tryz.internal_strconv_formatBase10 w.heap.size 0 24 u (Array.replicate (Lib.nDigits u) 0) (w.alloc (.cells Lib.zeros24 297)) hH0 (by rw[Rv];exact Lib.lt_pow_nDigits u) hu64 (by rw[Rv];omega);rw[Rv]at hfmt;have HH0:=Lib.hid hH0;clear hH0 hal
  go_enter Tryz.func258,Tryz.ntmps258
  go_wp2_with (first
   |(go_at_fn 288;refine(Tryz.internal_strconv_numDigits u hu1 hu64 _ (Lib.tabIs_alloc htab _)).mono ?_;rintro e w' ⟨rfl,rfl⟩))
  go_at_fn 289
  refine hfmt.mono ?_;rintro e w' ⟨rfl,k,v',dk,rfl,hF⟩;have hcv:(convert 242 9 (.slice (some ⟨w.heap.size,0,none⟩) (Lib.nDigits u) 24)).run Tryz.prog ((putRow (λ(b:UInt8)=>Value.int .u8 (b.toNat:Int)) (w.alloc (.cells Lib.zeros24 297)) w.heap.size 0 dk).drewN k)=.ok (.string ⟨(Lib.decDigits u).toArray⟩) ((putRow (λ(b:UInt8)=>Value.int .u8 (b.toNat:Int)) (w.alloc (.cells Lib.zeros24 297)) w.heap.size 0 dk).drewN k):=by
   have h:=run_convert_bytes_back (P:=Tryz.prog) ((putRow (λ(b:UInt8)=>Value.int .u8 (b.toNat:Int)) (w.alloc (.cells Lib.zeros24 297)) w.heap.size 0 dk).drewN k) 242 9 5 ⟨w.heap.size,0,none⟩ 24 (Lib.decDigits u) (by kernel_rfl) (by kernel_rfl) (by kernel_rfl) (λj hj=>by
    rw[Lib.row_is_numeral hF j hj,Lib.add_plain,World.cell?_drewN];exact cell?_putRow (λ(b:UInt8)=>Value.int .u8 (b.toNat:Int)) _ w.heap.size 0 _ dk HH0.out (by rw[hF.size,Rv]) j (by rw[hF.size];rw[Lib.decDigits_length]at hj;exact hj))
   rw[Lib.decDigits_length]at h;exact h
  go_wp2
  go_ret
  obtain⟨os,eo⟩:=Lib.fin_at w (.cells Lib.zeros24 297) dk k 0;exact⟨rfl,k,os,eo⟩
end
theorem iJ {O:Nat->Prop}{w:World}{v u:Value}{vs:Array Value}(hn:vs.size=2)(h:∀(i:Nat) (x:D),[D.prim v,.prim u][i]?=some x->AV nol O w x (vs.getD i undef)):vs = #[v,u]:=by
 match vs,hn with
 |⟨[a,b]⟩,_=>
  have h0:=h 0 _ rfl;have h1:=h 1 _ rfl;simp at h0 h1;cases h0;cases h1;rfl
theorem mv (u:Nat)(hu:u<18446744073709551616):AJ C0 258 [.prim (.int .u64 (u:Int)),i64 10] (str ⟨(Lib.decDigits u).toArray⟩):=by
 refine⟨⟨_,_,Tryz.func258,rfl,by kernel_rfl⟩,λY w vs hG hnG hX hvs hr=>?_⟩
 have:=iJ hvs hr
 subst this;refine(x6 u hu w hG).mono ?_;rintro e w' ⟨rfl,k,os,rfl⟩;exact⟨_,_,rfl,Lib.below_grow _ _ (Ai _) _ _,rfl,.prim _⟩
theorem pu (u:Nat)(hu:u<18446744073709551616):AJ C0 210 [.prim (.int .u64 (u:Int)),i64 10] (str ⟨(Lib.decDigits u).toArray⟩):=by
 refine Ag.walk w1 aw rfl λF=>?_
 refine AH AW kB (mv u hu) AB AB AB AB AB ?_;exact AL rfl AA.out
theorem zL:AJ C0 211 [str ⟨#[48]⟩,i64 0] (str ⟨#[]⟩):=CD DT 400 20 (by kernel_rfl)
theorem zM:AJ C0 211 [str ⟨#[48]⟩,i64 1] (str ⟨#[48]⟩):=CD DT 400 20 (by kernel_rfl)
theorem zN:AJ C0 211 [str ⟨#[48]⟩,i64 2] (str ⟨#[48,48]⟩):=CD DT 400 20 (by kernel_rfl)
theorem zO:AJ C0 211 [str ⟨#[48]⟩,i64 3] (str ⟨#[48,48,48]⟩):=CD DT 400 20 (by kernel_rfl)
theorem zP:AJ C0 211 [str ⟨#[48]⟩,i64 4] (str ⟨#[48,48,48,48]⟩):=CD DT 400 20 (by kernel_rfl)
theorem zQ:AJ C0 211 [str ⟨#[48]⟩,i64 5] (str ⟨#[48,48,48,48,48]⟩):=CD DT 400 20 (by kernel_rfl)
theorem zR:AJ C0 211 [str ⟨#[48]⟩,i64 6] (str ⟨#[48,48,48,48,48,48]⟩):=CD DT 400 20 (by kernel_rfl)
theorem zS:AJ C0 211 [str ⟨#[48]⟩,i64 7] (str ⟨#[48,48,48,48,48,48,48]⟩):=CD DT 400 20 (by kernel_rfl)
theorem zT:AJ C0 211 [str ⟨#[48]⟩,i64 8] (str ⟨#[48,48,48,48,48,48,48,48]⟩):=CD DT 400 20 (by kernel_rfl)
theorem zU:AJ C0 211 [str ⟨#[48]⟩,i64 9] (str ⟨#[48,48,48,48,48,48,48,48,48]⟩):=CD DT 400 20 (by kernel_rfl)
theorem yQ:AJ C0 211 [str ⟨#[48]⟩,i64 10] (str ⟨#[48,48,48,48,48,48,48,48,48,48]⟩):=CD DT 400 20 (by kernel_rfl)
theorem yR:AJ C0 211 [str ⟨#[48]⟩,i64 11] (str ⟨#[48,48,48,48,48,48,48,48,48,48,48]⟩):=CD DT 400 20 (by kernel_rfl)
theorem yS:AJ C0 211 [str ⟨#[48]⟩,i64 12] (str ⟨#[48,48,48,48,48,48,48,48,48,48,48,48]⟩):=CD DT 400 20 (by kernel_rfl)
theorem yT:AJ C0 211 [str ⟨#[48]⟩,i64 13] (str ⟨#[48,48,48,48,48,48,48,48,48,48,48,48,48]⟩):=CD DT 400 20 (by kernel_rfl)
theorem yU:AJ C0 211 [str ⟨#[48]⟩,i64 14] (str ⟨#[48,48,48,48,48,48,48,48,48,48,48,48,48,48]⟩):=CD DT 400 20 (by kernel_rfl)
theorem yV:AJ C0 211 [str ⟨#[48]⟩,i64 15] (str ⟨#[48,48,48,48,48,48,48,48,48,48,48,48,48,48,48]⟩):=CD DT 400 20 (by kernel_rfl)
theorem yW:AJ C0 211 [str ⟨#[48]⟩,i64 16] (str ⟨#[48,48,48,48,48,48,48,48,48,48,48,48,48,48,48,48]⟩):=CD DT 400 20 (by kernel_rfl)
theorem yX:AJ C0 211 [str ⟨#[48]⟩,i64 17] (str ⟨#[48,48,48,48,48,48,48,48,48,48,48,48,48,48,48,48,48]⟩):=CD DT 400 20 (by kernel_rfl)
theorem oA (n:Nat)(h:n<=17):AJ C0 211 [str ⟨#[48]⟩,i64 (n:Int)] (str ⟨(List.replicate n 48).toArray⟩):=by
 match n,h with
 | 0,_=>exact zL
 | 1,_=>exact zM
 | 2,_=>exact zN
 | 3,_=>exact zO
 | 4,_=>exact zP
 | 5,_=>exact zQ
 | 6,_=>exact zR
 | 7,_=>exact zS
 | 8,_=>exact zT
 | 9,_=>exact zU
 | 10,_=>exact yQ
 | 11,_=>exact yR
 | 12,_=>exact yS
 | 13,_=>exact yT
 | 14,_=>exact yU
 | 15,_=>exact yV
 | 16,_=>exact yW
 | 17,_=>exact yX
 |n+18,h=>omega
theorem nA {H Hf r r':Hp}{K g T sz:Nat}{l:List D}(h:Ci H Hf r r'):Ci H Hf (Dl K g T sz l++r) r':=by
 cases l with
 |nil=>exact h
 |cons x l=>exact .drop h
set_option maxHeartbeats 8000000
def Fo (q r:Nat):List UInt8:=if q=0 then Lib.decDigits r else List.replicate (18-(Lib.decDigits r).length) 48++Lib.decDigits r
theorem XR:Lib.decDigits 0=[48]:=by unfold Lib.decDigits;rfl
theorem OS (n:Nat):Lib.decDigits n≠[]:=(EL n).2.2
theorem mc (q r:Nat):Fo q r≠[]:=by
 unfold Fo;split
 ·exact OS r
 ·intro h;exact OS r (List.append_eq_nil_iff.1 h).2
theorem je {q r:Nat}(hq:q≠0):Fo q r=Ej 18 r []:=by
 unfold Fo Ej Lt;rw[AF hq]
 by_cases h:r=0
 ·subst h;rw[XR,AG rfl];rfl
 ·rw[AF h,DB]
theorem kg (B q r:Nat)(hB:B=10^18)(hr:r<B):Lib.decDigits (q*B+r)=if q=0 then Fo q r else Lib.decDigits q++Fo q r:=by
 by_cases hq:q=0
 ·subst hq;rw[AG rfl];unfold Fo;rw[AG rfl,Gr,BR]
 ·rw[AF hq,je hq,hB]
  exact Ti 18 q r hq (by rw[<-hB];exact hr)
def EB (P:List (List UInt8)):List UInt8:=P.reverse.flatten
theorem WQ (P:List (List UInt8))(p:List UInt8):EB (P++[p])=p++EB P:=by unfold EB;simp
theorem UN (a b:List UInt8):sb a++sb b=sb (a++b):=by
 apply ByteArray.ext;simp[ByteArray.data_append]
theorem jV {P:List (List UInt8)}(h:∀p∈P,p≠[]):P.length<=(EB P).length:=by
 unfold EB;rw[List.length_flatten,<-List.length_reverse];generalize hQ:P.reverse=Q;have h':∀p∈Q,p≠[]:=λp hp=>h p (by rw[<-hQ]at hp;exact List.mem_reverse.1 hp)
 clear hQ h
 induction Q with
 |nil=>exact Ai _
 |cons a r ih=>
  have h1:=ih λp hp=>h' p (CQ _ hp)
  have h2:a.length≠0:=λq=>h' a CM (FF q)
  rw[Ct,List.sum_cons,Bp];omega
structure Md (n m:Nat)(P:List (List UInt8)):Prop where
 ne:m≠0->Lib.decDigits n=Lib.decDigits m++EB P
 eq:m=0->Lib.decDigits n=EB P
 all:∀p∈P,p≠[]
 le:m<=n
theorem Md.len {n m:Nat}{P:List (List UInt8)}(h:Md n m P):P.length<=(Lib.decDigits n).length:=by
 have h1:=jV h.all
 by_cases q:m=0
 ·rw[h.eq q];exact h1
 ·rw[h.ne q,Bh];omega
theorem Md.step {n m:Nat}{P:List (List UInt8)}{B:Nat}(h:Md n m P)(hm:m≠0)(hB:B=10^18):Md n (m/B) (P++[Fo (m/B) (m%B)]):=by
 have hB0:0<B:=by rw[hB];decide
 have hd:=kg B (m/B) (m%B) hB (B0 _ hB0);rw[show m/B*B+m%B=m by rw[BQ];exact ER m B]at hd;have hn:=h.ne hm;rw[hd]at hn;refine⟨λq=>?_,λq=>?_,λp hp=>?_,BU (Gn _ _) h.le⟩
 ·rw[AF q]at hn;rw[hn,WQ,Di]
 ·rw[AG q]at hn;rw[hn,WQ]
 ·rcases List.mem_append.1 hp with hp|hp
  ·exact h.all p hp
  ·rw[List.mem_singleton]at hp;subst hp;exact mc _ _
abbrev E5 (P:List (List UInt8)):List D:=P.map λp=>str (sb p)
theorem TG (x:GI)(h:x.wf)(hf:x.few):AJ C0 161 [x.D] (str (sb (Lib.itoa x.z))):=by
 refine Ag.walk w1 Zi rfl λF=>?_
 obtain⟨z,sm⟩:=x;obtain⟨h1,h2⟩:=h;have hp:=JE ⟨z,sm⟩ ⟨h1,h2⟩;dsimp only[GI.D,GI.few]at*;cases sm with
 |true=>
  obtain⟨h3,h4⟩:=h1 rfl;have c:AJ C0 208 [i64 z] (str (sb (Lib.itoa z))):=oL z h3 (by omega);unfold GI.s GI.w;dsimp only;refine AH AW kB c AB AB AB AB AB ?_;exact AL rfl AA.out
 |false=>
  have hz:=h2 rfl;have hz0:z.natAbs≠0:=λq=>hz (by obtain rfl:z=0:=(by omega);exact ui rfl)
  have hw:GI.w ⟨z,false⟩=wD z.natAbs:=rfl;have hs:GI.s ⟨z,false⟩=if z<0 then -1 else 1:=rfl
  rw[hw]at hp⊢;obtain⟨sg,hsg⟩:∃s,GI.s ⟨z,false⟩=s:=⟨_,rfl⟩
  rw[hsg]at hp⊢;obtain⟨B,hB⟩:∃B:Nat,B=10^18:=⟨_,rfl⟩
  have hB1:B<BB:=by rw[hB];decide
  have hB0:B≠0:=by rw[hB];decide
  have hB2:1<B:=by rw[hB];decide
  have hBs:u64 1000000000000000000=AR B:=by rw[hB];rfl
  have hBl:Af B=[B]:=MD hB0 hB1;obtain⟨n,hn⟩:∃n,z.natAbs=n:=⟨_,rfl⟩
  obtain⟨neg,hneg⟩:∃b,decide (z<0)=b:=⟨_,rfl⟩
  rw[hn]at hp hf hz0⊢;rw[hneg]at hp;have hit:Lib.itoa z=(if neg then[45]else[])++Lib.decDigits n:=by
   unfold Lib.itoa
   by_cases q:z<0
   ·rw[AG q,<-hneg,AX q,hn];rfl
   ·rw[AF q,<-hneg,Ad q,<-hn]
    have:z.toNat=z.natAbs:=by omega
    rw[this];rfl
  rw[hit];have hDL:(Lib.decDigits n).length<=27*1000000+1:=MX (k:=1000000) (by omega);have hmpos:∀m:Nat,m≠0->decide ((((Af m).map AR).length:Int)>0)=true:=λm hm=>AX (by
   rw[Fx hm,Ct,Bp];omega)
  have hm0:decide ((((Af 0).map AR).length:Int)>0)=false:=Ad (by rw[Fg];decide);obtain⟨w0,ws,hws⟩:∃a l,(Af n).map AR=a::l:=by
   cases hl:(Af n).map AR with
   |nil=>exact Ah hl (HR hz0)
   |cons a l=>exact⟨a,l,rfl⟩
  have hwD:wD n=.sl false 1 (w0::ws):=by unfold wD wL;rw[hws]
  have hbD:wD B=.sl false 1 [u64 1000000000000000000]:=by unfold wD wL;rw[hBl,hBs];rfl
  have pw:AA (.sl false 1 (w0::ws)):=by rw[<-hwD];exact AI
  rw[hwD]at hp⊢;clear hit h1 h2 hz hs hsg;have hne:(w0::ws≠[])=True:=eq_true (List.cons_ne_nil _ _);refine AH AW hne hp AB AB AB AB AB ?_;rw[<-hwD];refine AC.loop (α:=Nat×List (List UInt8)×Nat×Nat) (λp=>⟨[(3,Ap neg),(4,wD p.1),(5,wD B),(6,Ds 1303 p.2.2.1 1 (E5 p.2.1))],Dl 1303 p.2.2.1 9 1 (E5 p.2.1),p.2.2.2⟩) (λp=>p.1)
   (λp=>Md n p.1 p.2.1) (n,[],0,_) ⟨λ_=>by unfold EB;simp,λq=>Ah q hz0,λp hp=>Ah hp DX,Ai _⟩ (by refine⟨.drop .nil,⟨.refl _,.refl _,?_,.refl _,trivial⟩,Ai _⟩;dsimp only;rw[hbD];exact .nn true 1 _) ?_
  rintro⟨m,P,g,cnt⟩ F I;dsimp only at I⊢;have hPl:=I.len;rcases Nat.decEq m 0 with hm|hm
  rotate_left
  ·subst hm
   have hdn:=I.eq rfl;have hall:=I.all;have hLn:P.length<=27000001:=by omega
   have hP0:P≠[]:=λq=>OS n (by rw[hdn,q];rfl)
   obtain⟨N,hN⟩:∃N,P.length=N:=⟨_,rfl⟩
   have hN0:N≠0:=λq=>hP0 (FF (by omega))
   rw[hdn];clear hwD hbD pw hp hn hPl I;have elP:(((E5 P).length:Nat):Int)=(N:Int):=by rw[Ac,hN]
   have wN:IntKind.i64.wrap ((N:Int)-1)=((N:Int)-1):=wI (by omega) (by omega);refine AC.seq ?_;refine sZ 600 ?_;refine AU hm0 ?_;refine AM ?_;refine B8 ?_;refine AC.weak ⟨[(3,Ap neg),(6,.sl false 1 (E5 P))],[],_⟩ ⟨?_,⟨.refl _,?_,trivial⟩,Ai _⟩ ?_
   ·have:=nA (K:=1303) (g:=g) (T:=9) (sz:=1) (l:=E5 P) (r:=[]) (r':=[]) (H:=Dl 1303 g 9 1 (E5 P)) (Hf:=[]) .nil
    rwa [DB]at this
   ·exact Qr _ _ _ _ _
   obtain⟨c0,hc0⟩:∃c,c=cnt+1+1+1:=⟨_,rfl⟩
   rw[<-hc0];refine sR 1500 ?_;obtain⟨c1,hc1⟩:∃c,c=c0+1:=⟨_,rfl⟩
   refine Cz (α:=D×Nat×Nat) (λq=>⟨[(6,.sl false 1 (E5 P)),(10,.optr 1500 c0 2 0 0)],bH q.2.1 c0 q.1 (if neg then[45]else[]) [],q.2.2⟩) (λq=>q.1=.prim (.pointer none)\/q.1=.optr 1500 c0 2 0 0) ?_ ?_
   ·cases neg
    ·refine AH AW kB AB AB AB AB AB AB ?_
     exact⟨by trivial,(.prim (.pointer none),0,_),.inl rfl,AK⟩
    ·refine AH AW kB AB AB AB AB AB AB ?_
     refine A9.own _ (eV c0 0 _ (.prim (.pointer none)) (.inl rfl) [] [45] (by decide) [] (by decide)) ?_;rintro d H' n' ⟨⟨g',rfl⟩,hn'⟩;refine BO ?_;exact⟨by trivial,(.optr 1500 c0 2 0 0,g',_),.inr rfl,AK⟩
   rintro⟨p0,gb0,c2⟩ hp0;dsimp only at hp0⊢;obtain⟨pre,hpre⟩:∃l,(if neg then[45]else[]:List UInt8)=l:=⟨_,rfl⟩
   have hpl:pre.length<=1:=by rw[<-hpre];split<;>decide
   rw[hpre];refine AH AW (Ae elP @wN) AB AB AB AB AB AB ?_;refine AC.loop (α:=Nat×D×Nat×Nat) (λq=>⟨[(6,.sl false 1 (E5 P)),(10,.optr 1500 c0 2 0 0),(11,i64 ((q.1:Int)-1))],bH q.2.2.1 c0 q.2.1 (pre++EB (P.drop q.1)) [],q.2.2.2⟩) (λq=>q.1)
    (λq=>q.1<=N/\(q.2.1=.prim (.pointer none)\/q.2.1=.optr 1500 c0 2 0 0)) (N,p0,gb0,_) ⟨Ai _,hp0⟩ (by dsimp only;rw[<-hN,I5];unfold EB;rw[List.reverse_nil,List.flatten_nil,DB];exact AK) ?_
   rintro⟨k,p,gb,c3⟩ F ⟨hk,hp⟩;dsimp only at hk hp⊢;have hjl:∀k,(EB (P.drop k)).length<=(EB P).length:=λk=>by
    unfold EB
    conv=>rhs;rw[<-Ev k P]
    rw[List.reverse_append,List.flatten_append,Bh];omega
   have hjP:(EB P).length<=27000001:=by rw[<-hdn];omega
   rcases Dh k with hk0|hk0
   ·subst hk0
    have e1:decide ((((0:Nat):Int)-1)>=0)=false:=by decide
    rw[FG];have hL:pre++EB P≠[]:=λq=>by
     have:=(List.append_eq_nil_iff.1 q).2
     rw[<-hdn]at this;exact OS n this
    obtain⟨L,hLL⟩:∃L,pre++EB P=L:=⟨_,rfl⟩
    rw[hLL]at hL⊢;obtain⟨y,r,hy⟩:=Xk hL;have hlr:L.length=r.length+1:=by rw[<-Ns,hy];rfl
    refine AH AW e1 AB AB AB AB AB AB ?_;refine A9.own _ (by
     have:=λn=>wW c0 gb n L hL p []
     unfold bH;simp only[hy,hlr]at this⊢;exact this _) ?_
    rintro d H' n' ⟨rfl,rfl,rfl⟩;refine AH AW kB AB AB AB AB AB AB ?_;exact AL rfl AA.out
   ·obtain⟨k',rfl⟩:∃k',k=k'+1:=⟨k-1,by omega⟩
    have e1:decide ((((k'+1:Nat):Int)-1)>=0)=true:=AX (by omega);have e2:(((k'+1:Nat):Int)-1)=(k':Int):=by omega
    have wk:IntKind.i64.wrap ((k':Int)-1)=((k':Int)-1):=wI (by omega) (by omega);have e3:decide ((k':Int)>=0)=true:=AX (by omega);obtain⟨t,ht⟩:∃t,P[k']?=some t:=CL (by omega);have hm:(E5 P)[k']?=some (str (sb t)):=by rw[A0,ht];rfl
    have htn:=hall t (Ax ht);have hdr:P.drop k'=t::P.drop (k'+1):=by
     rw[EI (List.getElem?_eq_some_iff.1 ht).1,(List.getElem?_eq_some_iff.1 ht).2]
    have hj:pre++EB (P.drop k')=pre++EB (P.drop (k'+1))++t:=by
     rw[hdr,Di]
     congr 1
     unfold EB;rw[List.reverse_cons,List.flatten_append];simp
    have hlt:(pre++EB (P.drop (k'+1))).length+t.length<=100000000:=by
     have h1:=hjl k';have h2:(pre++EB (P.drop k')).length=(pre++EB (P.drop (k'+1))).length+t.length:=by rw[hj,Bh]
     rw[<-h2,Bh];omega
    rw[e2];refine AH AW (Ae e3 kN) hm AB AB AB AB AB ?_;refine A9.own _ (eV c0 gb _ p hp (pre++EB (P.drop (k'+1))) t htn [] hlt) ?_;rintro d H' n' ⟨⟨g',rfl⟩,hn'⟩;refine BO ?_;refine AH AW wk AB AB AB AB AB AB ?_;exact⟨(k',.optr 1500 c0 2 0 0,g',_),⟨by dsimp only;omega,.inr rfl⟩,by dsimp only;omega,by(dsimp only;rw[hj];exact AK)⟩
  have e1:=hmpos m hm;have c1:=eB m B hB0 (DV (HO m n I.le) hf) (by rw[hBl];show 1<1000000;decide);have I2:=I.step hm hB;obtain⟨q,hq⟩:∃q,m/B=q:=⟨_,rfl⟩
  obtain⟨r,hr⟩:∃q,m%B=q:=⟨_,rfl⟩
  have hqm:q<m:=by rw[<-hq];exact Hm (Dx hm) hB2
  have hrB:r<B:=by rw[<-hr];exact B0 _ (Dx hB0)
  rw[hq,hr]at c1 I2;have hsz:=Cd (Lib.decDigits r);have hdl:(Lib.decDigits r).length<=18:=L7 17 r (by rw[hB]at hrB;exact hrB);have hdl1:(Lib.decDigits r).length≠0:=λh=>OS r (FF h)
  refine AH AW e1 AB AB AB AB AB AB ?_;refine cI c1 ?_;refine sR 800 ?_;refine Cz (α:=Nat) (λcnt=>⟨[(3,Ap neg),(5,wD B),(6,Ds 1303 g 1 (E5 P)),(7,wD q),(9,str (sb (Lib.decDigits r)))],Dl 1303 g 9 1 (E5 P),cnt⟩) (λ_=>True) ?_ ?_
  ·rcases Nat.decEq r 0 with h0|h0
   ·have e2:=hmpos r h0
    have hl1:Af r=[r]:=MD h0 (Ft hrB hB1);have hmm:((Af r).map AR)[0]?=some (u64 (r:Int)):=by rw[hl1];rfl
    have c2:=pu r (Ft hrB hB1);refine AH AW e2 hmm c2 AB AB AB AB ?_;exact⟨by trivial,_,trivial,AK⟩
   ·subst h0
    rw[XR];refine AH AW hm0 AB AB AB AB AB AB ?_;exact⟨by trivial,_,trivial,AK⟩
  rintro cnt2 -;refine Cz (α:=Nat) (λcnt=>⟨[(3,Ap neg),(5,wD B),(6,Ds 1303 g 1 (E5 P)),(7,wD q),(9,str (sb (Fo q r)))],Dl 1303 g 9 1 (E5 P),cnt⟩) (λ_=>True) ?_ ?_
  ·rcases Nat.decEq q 0 with h0|h0
   ·have e2:=hmpos q h0
    have c2:AJ C0 211 [str ⟨#[48]⟩,i64 ((18-(Lib.decDigits r).length:Nat):Int)] (str (sb (List.replicate (18-(Lib.decDigits r).length) 48))):=oA (18-(Lib.decDigits r).length) (by omega);have w18:IntKind.i64.wrap (18-((Lib.decDigits r).length:Int))=((18-(Lib.decDigits r).length:Nat):Int):=by rw[wI (by omega) (by omega)];omega
    have hap:=UN (List.replicate (18-(Lib.decDigits r).length) 48) (Lib.decDigits r);have hsz2:=Cd (List.replicate (18-(Lib.decDigits r).length) 48);have hpt:List.replicate (18-(Lib.decDigits r).length) 48++Lib.decDigits r=Fo q r:=by unfold Fo;rw[AF h0]
    rw[hpt]at hap;have hsize:(sb (List.replicate (18-(Lib.decDigits r).length) 48)).size+(sb (Lib.decDigits r)).size<=9223372036854775807:=by
     rw[hsz,hsz2,Hl];omega
    refine AH AW (BV e2 hsz w18 hap) c2 AB AB AB AB AB ?_;exact⟨by trivial,_,trivial,AK⟩
   ·subst h0
    have hpt:Fo 0 r=Lib.decDigits r:=AG rfl;rw[hpt];refine AH AW hm0 AB AB AB AB AB AB ?_;exact⟨by trivial,_,trivial,AK⟩
  rintro cnt3 -;have hsn:E5 (P++[Fo q r])=E5 P++[str (sb (Fo q r))]:=by unfold E5;rw[Cs];rfl
  have hPL:(E5 P).length=P.length:=Ac ..;rcases hPD:E5 P with _|⟨y,l⟩
  all_goals
   rw[hPD]at hsn hPL;dsimp only[If,Ig,HT,HQ,List.nil_append]
  ·refine AH AW kB AB AB AB AB AB AB ?_
   exact⟨(q,P++[Fo q r],_,_),I2,hqm,by(dsimp only;rw[hsn];exact AK)⟩
  ·have htk:List.take (l.length+1) (y::l)=y::l:=by simp
   have hll:l.length+1<=27000001:=by rw[Bp]at hPL;omega
   refine AH AW htk AB AB AB AB AB AB ?_;exact⟨(q,P++[Fo q r],_,_),I2,hqm,by(dsimp only;rw[hsn,Nr];exact AK)⟩
abbrev XW:Dr:=[(3,[0,1,2,3,4,5,6],[7,8])]
open Go.Proofs Go.RowKit
set_option maxRecDepth 20000
set_option maxHeartbeats 4000000
theorem mN (x:Nat)(hx:x<BB):AJ C0 223 [AR x] (i64 (Lib.bitLen x:Int)):=by
 refine⟨⟨_,_,Tryz.func223,rfl,by kernel_rfl⟩,λY w vs hG hnG hX hvs hr=>?_⟩
 have:=QI hvs hr
 subst this;refine(Tryz.bits_Len64 x w (by omega) (by unfold BB at hx;omega)).mono ?_;rintro e w' ⟨rfl,rfl⟩;exact⟨_,_,rfl,.refl _ _,rfl,.prim _⟩
def Es (n:Nat):Nat:=(Af n).getD ((Af n).length-1) 0
def IF (n:Nat):Nat:=if n=0 then 0 else 64*((Af n).length-1)+Lib.bitLen (Es n)
theorem nQ (n:Nat):n<2^IF n:=by
 unfold IF
 by_cases h:n=0
 ·subst h;rw[AG rfl];decide
 ·rw[AF h]
  have hl:(Af n).length≠0:=λq=>by
   have:=Fx h
   rw[this]at q;simp at q
  obtain⟨k,hk⟩:∃k,(Af n).length=k+1:=⟨(Af n).length-1,by omega⟩
  have hat:(Af n)[k]?=some (Es n):=by
   unfold Es;rw[hk,IT,Da,BE (by omega)];rfl
  have hv:=KG hat;rw[HI (by omega),Ei]at hv;have ht:Es n<BB:=E4 n _ (Ax hat);have h1:AS ((Af n).take k)<BB^k:=by
   have:=HU (l:=(Af n).take k) λa ha=>E4 n a (Gm ha)
   rwa [Bb,Eu (by omega)]at this
  have h2:Es n<2^Lib.bitLen (Es n):=by
   by_cases t0:Es n=0
   ·rw[t0];exact Gq _
   ·exact(Lib.bitLenAux_bounds 64 (Es n) ht t0).2.2
  have h3:BB^k=2^(64*k):=by rw[Nat.pow_mul]
  rw[hk,IT,Fu,<-h3];have h4:n=AS ((Af n).take k)+BB^k*Es n:=by simpa[AS]using hv
  have h5:BB^k*(Es n+1)<=BB^k*2^Lib.bitLen (Es n):=CY _ h2;rw[BM,D6]at h5;omega
def JQ (n:Nat):Bool:=decide (600<(Lib.decDigits n).length)
theorem j0 (n:Nat):JQ n=(decide (IF n>1800)&&JQ n):=by
 by_cases h:IF n>1800
 ·rw[AX h,Fq]
 ·rw[Ad h,Gl]
  have key:∀k,IF n<=3*(k+1)->(Lib.decDigits n).length<=k+1:=λk hk=>L7 k n (CV (nQ n) (BU (FH (by decide) hk) (by rw[Nat.pow_mul];exact NI (by decide) (k+1))))
  have h4:=key 599 (by omega);exact Ad (by omega)
theorem qL (x:GI)(h:x.wf)(hf:x.few):AJ C0 207 [x.D] (i64 (IF x.z.natAbs:Nat)):=by
 refine Ag.walk w1 av rfl λF=>?_
 have c1:=JE x h;obtain⟨n,hn⟩:∃n,x.z.natAbs=n:=⟨_,rfl⟩
 unfold GI.few at hf;rw[hn]at c1 hf⊢;have el:((((Af n).map AR).length:Nat):Int)=((Af n).length:Int):=by rw[Ac]
 unfold wD wL at c1;dsimp only[GI.D]at c1⊢
 by_cases h0:n=0
 ·have e1:(((Af n).length:Int)==0)=true:=by rw[h0,Fg];rfl
  have hb:IF n=0:=AG h0;rw[hb];refine AH AW (Ae e1 el) c1 AB AB AB AB AB ?_;exact AL rfl AA.out
 ·have hl:(Af n).length≠0:=λq=>by
   have:=Fx h0
   rw[this]at q;simp at q
  have e1:(((Af n).length:Int)==0)=false:=xU hl;have wl:IntKind.i64.wrap (((Af n).length:Int)-1)=(((Af n).length-1:Nat):Int):=by rw[wI (by omega) (by omega)];omega
  have wm:IntKind.i64.wrap (64*(((Af n).length-1:Nat):Int))=((64*((Af n).length-1):Nat):Int):=by rw[wI (by omega) (by omega)];omega
  have hat:(Af n)[(Af n).length-1]?=some (Es n):=by
   unfold Es;rw[Da,BE (by omega)];rfl
  have hm:((Af n).map AR)[(Af n).length-1]?=some (u64 (Es n:Int)):=by rw[A0,hat];rfl
  have ht:Es n<BB:=E4 n _ (Ax hat);have c2:=mN (Es n) ht;have hbl:=Lib.bitLen_le (Es n) 64 (Ai _) ht;have wa:IntKind.i64.wrap (((64*((Af n).length-1):Nat):Int)+(Lib.bitLen (Es n):Int))=((IF n:Nat):Int):=by
   have hb:IF n=64*((Af n).length-1)+Lib.bitLen (Es n):=AF h0;rw[hb,wI (by omega) (by omega)];omega
  refine AH AW (Dj e1 el wl wm wa kN) c1 hm c2 AB AB AB ?_;exact AL rfl AA.out
theorem bT (x:GI)(h:x.wf)(hf:x.few):AJ C0 160 [x.D] (Ap (JQ x.z.natAbs)):=by
 refine Ag.walk w1 Zh rfl λF=>?_
 have c1:=qL x h hf;have c2:=TG x h hf;have hlen:(Lib.decDigits x.z.natAbs).length<=27*1000000+1:=MX (k:=1000000) (by unfold GI.few at hf;omega);have hil:(Lib.itoa x.z).length<=27000002:=by
  unfold Lib.itoa;split
  ·rw[Bp];omega
  ·rw[show x.z.toNat=x.z.natAbs by omega];omega
 have c3:=SC (Lib.itoa x.z) (by omega);rw[(MI x.z).2]at c3;have hsz:=Cd (Lib.decDigits x.z.natAbs);have hlb:=j0 x.z.natAbs;obtain⟨b,hb⟩:∃b,JQ x.z.natAbs=b:=⟨_,rfl⟩
 have e2:decide (((Lib.decDigits x.z.natAbs).length:Int)>600)=b:=by rw[<-hb];exact C4.2 (by omega)
 obtain⟨p,hp⟩:∃b,decide (IF x.z.natAbs>1800)=b:=⟨_,rfl⟩
 have e1:decide (((IF x.z.natAbs:Nat):Int)>1800)=p:=by rw[<-hp];exact C4.2 (by omega)
 rw[hb,hp]at hlb;rw[hb,hlb];dsimp only[GI.D]at c1 c2⊢;cases p
 ·refine AH AW e1 c1 AB AB AB AB AB ?_
  exact AL rfl AA.out
 ·refine AH AW (As e1 e2 hsz) c1 c2 c3 AB AB AB ?_
  exact AL rfl AA.out
theorem aO {r:Rat}{x:GF}{k:Nat}(h:FR r x k)(hk:k<100000):x.n.wf/\x.n.few/\(AY (x.d:Int)).wf/\(AY (x.d:Int)).few/\x.n.z=r.num/\x.d=r.den/\0<x.d:=
 ⟨h.is.1,h.fn (by omega),Cc _,by
  show(Af ((x.d:Int)).natAbs).length<1000000;rw[EJ];have:=h.ld;omega,h.is.2.1,h.is.2.2,h.dpos⟩
theorem Ya {r:Rat}{x:GF}{k:Nat}(h:FR r x k)(hk:k<100000):AJ C0 113 [x.D] (Ap (Dm r)):=by
 refine Ag.walk w1 ZO rfl λF=>?_
 obtain⟨h1,h2,h3,h4,h5,h6,_⟩:=aO h hk;have c1:=bT x.n h1 h2;have c2:=bT (AY (x.d:Int)) h3 h4;have hb:Dm r=(JQ x.n.z.natAbs||JQ (AY (x.d:Int)).z.natAbs):=by
  unfold Dm JQ;rw[h5,<-h6];rfl
 rw[hb];obtain⟨p,hp⟩:∃b,JQ x.n.z.natAbs=b:=⟨_,rfl⟩
 obtain⟨q,hq⟩:∃b,JQ (AY (x.d:Int)).z.natAbs=b:=⟨_,rfl⟩
 rw[hp]at c1;rw[hq]at c2;rw[hp,hq];dsimp only[GI.D,GF.D]at c1 c2⊢;generalize AY (x.d:Int)=y at c2⊢;cases p<;>cases q
 all_goals
  refine AH AW kB c1 c2 AB AB AB AB ?_;exact AL rfl AA.out
theorem bF {r:Rat}{x:GF}{k:Nat}(h:FR r x k)(hk:k<100000):AJ C0 114 [x.D] (str (sb (BN r))):=by
 refine Ag.walk w1 ZP rfl λF=>?_
 obtain⟨h1,h2,h3,h4,h5,h6,h7⟩:=aO h hk;have c0:=Sp x h7;have c1:=TG x.n h1 h2;have c2:=TG (AY (x.d:Int)) h3 h4;have hd:Lib.itoa (AY (x.d:Int)).z=Lib.decDigits r.den:=by
  show Lib.itoa (x.d:Int)=_;unfold Lib.itoa;rw[AF (by omega),h6];rfl
 rw[hd]at c2;rw[h5]at c1;have l1:(Lib.itoa r.num).length<=27000002:=by
  have:(Lib.decDigits x.n.z.natAbs).length<=27*1000000+1:=MX (k:=1000000) (by unfold GI.few at h2;omega)
  rw[h5]at this;unfold Lib.itoa;split
  ·rw[Bp];omega
  ·rw[show r.num.toNat=r.num.natAbs by omega];omega
 have l2:(Lib.decDigits r.den).length<=27000001:=by
  have:(Lib.decDigits (AY (x.d:Int)).z.natAbs).length<=27*1000000+1:=MX (k:=1000000) (by unfold GI.few at h4;omega)
  rw[<-h6];exact this
 have s1:=Cd (Lib.itoa r.num);have s2:=Cd (Lib.decDigits r.den);have s3:(sb [47]).size=1:=rfl;have s4:=Cd (Lib.itoa r.num++[47]);have z1:(sb (Lib.itoa r.num)).size+(sb [47]).size<=9223372036854775807:=by rw[s1,s3];omega
 have z2:(sb (Lib.itoa r.num++[47])).size+(sb (Lib.decDigits r.den)).size<=9223372036854775807:=by rw[s4,s2,Bh,GS];omega
 have a1:sb (Lib.itoa r.num)++(⟨#[47]⟩:ByteArray)=sb (Lib.itoa r.num++[47]):=UN _ [47];have a2:=UN (Lib.itoa r.num++[47]) (Lib.decDigits r.den);rw[Di]at a2;dsimp only[GI.D,GF.D]at c0 c1 c2⊢;generalize AY (x.d:Int)=y at c0 c2⊢;unfold BN
 by_cases g:x.d=1
 ·rw[AX g]at c0
  rw[AG (h6 ▸ g)];refine AH XW kB c0 c1 AB AB AB AB ?_;exact AL rfl AA.out
 ·rw[Ad g]at c0
  rw[AF (λq=>g (h6.trans q))];refine AH XW (Ae a1 a2) c0 c1 c2 AB AB AB ?_;exact AL rfl AA.out
set_option maxHeartbeats 4000000
def nb (r:Rat)(n d:Nat):Prop:=r.num.natAbs<=n/\r.den<=d
def PZ:Nat:=10^40
theorem oX {l:List UInt8}(h:CW l=0)(hl:l.length<=40):nb (CN l) PZ PZ:=by
 obtain⟨m1,m2,m3,m4⟩:=Nt h;obtain⟨p1,p2⟩:=Pe h;have hs1:(B1 l).length<=40:=by
  have:(B1 l).length<=l.length:=by
   unfold B1;have a1:(Bo (Bz l)).length<=(Bz l).length:=by unfold Bo;split<;>simp
   have a2:(Bz l).length<=l.length:=by unfold Bz;rw[Bb];omega
   omega
  omega
 have hb:∀k,k<=40->(10:Nat)^k<=PZ:=λk hk=>FH (by decide) hk
 refine⟨?_,?_⟩
 ·rw[m1,m4]
  exact BU (Jh (GA _ p1)) (hb _ hs1)
 ·rw[m2]
  unfold Gj;cases hs:Cv l
  ·exact(by decide:1<=PZ)
  ·have hs2:(BZ l).length<=40:=by
    have:(BZ l).length<=l.length:=by unfold BZ;simp
    omega
   exact BU (Jh (GA _ (p2 hs))) (hb _ hs2)
theorem xO {r:Rat}{n d k:Nat}(h:nb r n d)(h1:n<BB^k)(h2:d<BB^k):rk r k:=
 ⟨Gu (DV h.1 h1),Gu (DV h.2 h2)⟩
theorem fX {l:List UInt8}(h:CW l=0)(hl:l.length<=40):rk (CN l) 3:=xO (oX h hl) (by decide) (by decide)
theorem Y8 (k:Nat)(hk:1<=k):FR 0 ⟨AY 0,1⟩ k:=⟨⟨Cc _,by rw[Dk];rfl,rfl⟩,by
 refine rk.mono (k:=1) ?_ hk;exact⟨Gu (k:=1) (by decide),Gu (k:=1) (by decide)⟩⟩
abbrev F5:Dr:=[(11,[0,1,2,3,4,5,6,7,8,9,10],[11,12]),(21,[0,1],[2,3])]
open Go.Proofs Go.RowKit
set_option maxRecDepth 20000
set_option maxHeartbeats 4000000
def Oh (a b:List UInt8):Bool:=Le (sb a) (sb b)||BI (sb a) (sb b)
def FJ (l:List Au)(i:Nat):Nat:=
 if DZ (Fc l i).lot=false then 8 else if 0<i/\Oh (Fc l i).lot (Fc l (i-1)).lot=true then 11 else if CW (Fc l i).part≠0 then CW (Fc l i).part else if Gf (CN (Fc l i).part)<=0 then 12 else 0
def En (l:List Au):Nat->Rat
 | 0=>0
 |n+1=>En l n+CN (Fc l n).part
def HW (l:List Au):Nat:=if l.length=0 then 2 else if 64<l.length then 5 else if Df (FJ l) l.length≠0 then Df (FJ l) l.length else if En l l.length=1 then 0 else 12
theorem Qb (l:List UInt8):AJ C0 56 [str (sb l)] (Ap (DZ l)):=jU (sb l)
theorem na (a b:Rat):(Lq a b==0)=decide (a=b):=by
 unfold Lq
 by_cases h:a<b
 ·rw[AG h,Ad (Rat.ne_of_lt h)];rfl
 ·rw[AF h]
  by_cases h2:b<a
  ·rw[AG h2,Ad λe=>Rat.ne_of_lt h2 e.symm];rfl
  ·rw[AF h2,AX (Rat.le_antisymm (Rat.not_lt.1 h2) (Rat.not_lt.1 h))];rfl
theorem uh {a b:Rat}{x y:GF}{i j:Nat}(hx:FR a x i)(hy:FR b y j)(hk:i+j<300000):AJ C0 184 [x.D,y.D] (Ap (decide (a=b))):=by
 refine Ag.walk w1 aZ rfl λF=>?_
 have c:=pj hx hy hk;have e:=na a b;obtain⟨r,hr⟩:∃r,Lq a b=r:=⟨_,rfl⟩
 rw[hr]at c e;obtain⟨xD,hxD⟩:∃d,x.D=d:=⟨_,rfl⟩
 obtain⟨yD,hyD⟩:∃d,y.D=d:=⟨_,rfl⟩
 unfold GF.D at c hxD hyD⊢;refine AH AW e c AB AB AB AB AB ?_;exact AL rfl AA.out
theorem tk:FR 1 ⟨AY 1,1⟩ 1:=by
 have:=QW (z:=1) (by decide)
 exact this
theorem yN (b:Bool)(l:List Au)(hl:l.length<=9223372036854775807)(hf:∀s∈l,s.few):AJ C0 135 [Cb b l] (i64 (HW l:Nat)):=by
 refine Ag.walk w1 ZV rfl λF=>?_
 have el:(((l.map Au.D).length:Nat):Int)=(l.length:Int):=by rw[Ac]
 have hC:HW l=if l.length=0 then 2 else if 64<l.length then 5 else if Df (FJ l) l.length≠0 then Df (FJ l) l.length else if En l l.length=1 then 0 else 12:=rfl
 rcases Nat.decEq l.length 0 with h0|h0
 rotate_left
 ·rw[AG h0]at hC
  rw[hC];have q1:((l.length:Int)==0)=true:=by rw[h0];rfl
  refine AH F5 (Ae el q1) AB AB AB AB AB AB ?_;exact AL rfl AA.out
 rw[AF h0]at hC;have q1:((l.length:Int)==0)=false:=Bu.2 (by omega)
 by_cases h64:64<l.length
 ·rw[AG h64]at hC
  rw[hC];have q2:decide ((l.length:Int)>64)=true:=AX (by omega);refine AH F5 (As el q1 q2) AB AB AB AB AB AB ?_;exact AL rfl AA.out
 rw[AF h64]at hC;have q2:decide ((l.length:Int)>64)=false:=Ad (by omega);have c0:=Ox 0 ⟨by decide,by decide⟩;have c1:=Ox 1 ⟨by decide,by decide⟩;refine AH F5 (As el q1 q2) c0 AB AB AB AB AB ?_;refine AC.loop (α:=Nat×GF×Nat) (λp=>⟨[(0,Cb b l),(3,.optr 501 8 4 0 0),(15,Cb b l),(16,i64 (l.length:Int)),(17,i64 (p.1:Int))],[⟨501,8,141,4,[p.2.1.D]⟩],p.2.2⟩) (λp=>l.length-p.1) (λp=>p.1<=l.length/\(∀j,j<p.1->FJ l j=0)/\FR (En l p.1) p.2.1 (601*p.1+1)) (0,⟨AY 0,1⟩,_)
  ⟨BS _,λj h=>Ah h (Gp j),Y8 1 (Ai _)⟩ AK ?_
 rintro⟨i,y,m⟩ F ⟨hi,hz,hS⟩;dsimp only at hi hz hS⊢;rcases BA i l.length with h2|h2
 rotate_left
 ·have e1:=Cg h2
  have:i=l.length:=by omega
  subst this;rw[AF (λh=>h (MC hz))]at hC;have cS:=uh hS tk (by omega);obtain⟨q,hq⟩:∃q,decide (En l l.length=1)=q:=⟨_,rfl⟩
  rw[hq]at cS;cases q
  ·rw[AF (DL hq)]at hC
   rw[hC];refine AH F5 e1 c1 cS AB AB AB AB ?_;exact AL rfl AA.out
  ·rw[AG (DA hq)]at hC
   rw[hC];refine AH F5 e1 c1 cS AB AB AB AB ?_;exact AL rfl AA.out
 have e1:=Ch h2;have wi:=CZ (i:=i) (by omega);obtain⟨s,hs⟩:=CL h2;have hm:(l.map Au.D)[i]?=some (.agg [str (sb s.lot),str (sb s.part)]):=by rw[A0,hs];rfl
 obtain⟨f1,f2⟩:=hf s (Ax hs);have hE:FJ l i=if DZ s.lot=false then 8 else if 0<i/\Oh s.lot (Fc l (i-1)).lot=true then 11 else if CW s.part≠0 then CW s.part else if Gf (CN s.part)<=0 then 12 else 0:=by unfold FJ;rw[JO hs]
 have hbad:∀e:Nat,e≠0->FJ l i=e->HW l=e:=λe he h=>by
  have:=OI hz h2 (by rw[h];exact he)
  rw[hC,this,h,AG he]
 have cN:=Qb s.lot;obtain⟨N,hN⟩:∃q,DZ s.lot=q:=⟨_,rfl⟩
 rw[hN]at cN hE;cases N
 ·rw[AG rfl]at hE
  rw[hbad 8 (by decide) hE];refine AH F5 (Ae e1 kN) hm cN AB AB AB AB ?_;exact AL rfl AA.out
 rw[AF (by decide)]at hE;have cC:=lV s.part f2;rcases i with _|q
 ·have g0:decide (((0:Nat):Int)>0)=false:=rfl
  rw[AF (λh=>Ah h.1 (Nat.lt_irrefl 0))]at hE;rcases Nat.decEq (CW s.part) 0 with hc0|hc0
  ·rw[AG hc0]at hE
   have e3:=GE hc0;rw[hbad (CW s.part) hc0 hE];refine AH F5 (BV e1 g0 kN e3) hm cN cC AB AB AB ?_;exact AL rfl AA.out
  rw[AF (λh=>h hc0)]at hE;have e3:=GG hc0;have cP:=Qp f2 hc0;have fP:=Qy hc0;have cG:=Yi fP.is;have cA:=Qk hS fP (by omega);have fA:=QZ hS fP;obtain⟨z,hzz⟩:∃z,Jb y (GB s.part)=z:=⟨_,rfl⟩
  rw[hzz]at cA fA;obtain⟨sg,hsg⟩:∃q,Gf (CN s.part)=q:=⟨_,rfl⟩
  rw[hsg]at cG hE
  by_cases hs0:sg<=0
  ·rw[AG hs0]at hE
   have e4:decide (sg<=0)=true:=AX hs0;rw[hbad 12 (by decide) hE];refine AH F5 (CE e1 g0 kN e3 e4) hm cN cC cP cG AB ?_;exact AL rfl AA.out
  rw[AF hs0]at hE;have e4:decide (sg<=0)=false:=Ad hs0;refine AH F5 (Dj e1 g0 kN e3 e4 wi) hm cN cC cP cG AB ?_;refine cI cA ?_;refine AH F5 wi AB AB AB AB AB AB ?_;exact⟨(0+1,z,_),⟨h2,λj hj=>by
   rcases Nat.lt_succ_iff_lt_or_eq.1 hj with q|q
   ·exact hz j q
   ·rw[q];exact hE,by
   show FR (En l 0+CN (Fc l 0).part) z _;rw[JO hs];exact⟨fA.is,fA.rk.mono (by dsimp only;omega)⟩⟩,by dsimp only;omega,AK⟩
 ·have g0:decide (((q+1:Nat):Int)>0)=true:=AX (by omega)
  have g1:IntKind.i64.wrap (((q+1:Nat):Int)-1)=(q:Int):=by rw[wI (by omega) (by omega)];omega
  obtain⟨s0,hs0'⟩:=CL (l:=l) (i:=q) (by omega);have hm0:(l.map Au.D)[q]?=some (.agg [str (sb s0.lot),str (sb s0.part)]):=by rw[A0,hs0'];rfl
  rw[IT,JO hs0']at hE;obtain⟨bL,hbL⟩:∃q,Oh s.lot s0.lot=q:=⟨_,rfl⟩
  have g2:(Le (sb s.lot) (sb s0.lot)||BI (sb s.lot) (sb s0.lot))=bL:=hbL;rw[hbL]at hE;cases bL
  rotate_left
  ·rw[AG ⟨Nat.succ_pos q,rfl⟩]at hE
   rw[hbad 11 (by decide) hE];refine AH F5 (CE e1 g0 g1 g2 kN) hm hm0 cN AB AB AB ?_;exact AL rfl AA.out
  rw[AF (λh=>Ah h.2 (by decide))]at hE;rcases Nat.decEq (CW s.part) 0 with hc0|hc0
  ·rw[AG hc0]at hE
   have e3:=GE hc0;rw[hbad (CW s.part) hc0 hE];refine AH F5 (Dj e1 g0 g1 g2 kN e3) hm hm0 cN cC AB AB ?_;exact AL rfl AA.out
  rw[AF (λh=>h hc0)]at hE;have e3:=GG hc0;have cP:=Qp f2 hc0;have fP:=Qy hc0;have cG:=Yi fP.is;have cA:=Qk hS fP (by omega);have fA:=QZ hS fP;obtain⟨z,hzz⟩:∃z,Jb y (GB s.part)=z:=⟨_,rfl⟩
  rw[hzz]at cA fA;obtain⟨sg,hsg⟩:∃q,Gf (CN s.part)=q:=⟨_,rfl⟩
  rw[hsg]at cG hE
  by_cases hs0:sg<=0
  ·rw[AG hs0]at hE
   have e4:decide (sg<=0)=true:=AX hs0;rw[hbad 12 (by decide) hE];refine AH F5 (CJ e1 g0 g1 g2 kN e3 e4) hm hm0 cN cC cP cG ?_;exact AL rfl AA.out
  rw[AF hs0]at hE;have e4:decide (sg<=0)=false:=Ad hs0;refine AH F5 (CJ e1 g0 g1 g2 kN e3 (Ae e4 wi)) hm hm0 cN cC cP cG ?_;refine cI cA ?_;refine AH F5 wi AB AB AB AB AB AB ?_;exact⟨(q+1+1,z,_),⟨h2,λj hj=>by
   rcases Nat.lt_succ_iff_lt_or_eq.1 hj with q|q
   ·exact hz j q
   ·rw[q];exact hE,by
   show FR (En l (q+1)+CN (Fc l (q+1)).part) z _;rw[JO hs];exact⟨fA.is,fA.rk.mono (by dsimp only;omega)⟩⟩,by dsimp only;omega,AK⟩
def AE.few (x:AE):Prop:=x.grain.length<=100000/\x.shs.length<=9223372036854775807/\∀s∈x.shs,s.few
def Cj (x:AE):Nat:=if DZ x.grain=false then 8 else if x.mass<1\/x.mass>999999999 then 3 else HW x.shs
def CK (l:List AE)(k:Nat):AE:=l.getD k ⟨[],0,[]⟩
theorem FO {l:List AE}{k:Nat}{x:AE}(h:l[k]?=some x):CK l k=x:=by unfold CK;rw[Da,h];rfl
def Aq (l:List AE):Int:=(l.map (·.mass)).sum
theorem Sx {l:List AE}{i:Nat}{x:AE}(h:l[i]?=some x):Aq (l.take (i+1))=Aq (l.take i)+x.mass:=by
 unfold Aq;rw[DW,h,Cs,List.sum_append];simp
def H7 (l:List AE):Prop:=l.length<=1000000/\∀x∈l,x.mass.natAbs<=1000000000
theorem Tt {l:List AE}(h:∀x∈l,x.mass.natAbs<=1000000000):(Aq l).natAbs<=l.length*1000000000:=by
 unfold Aq
 induction l with
 |nil=>simp
 |cons a l ih=>
  have h1:=h a (by simp);have h2:=ih λx hx=>h x (by simp[hx])
  simp only[Ct,List.sum_cons,Bp];omega
def B3 (l:List AE):Nat:=if 64<l.length then 5 else if Df (λi=>Cj (CK l i)) l.length≠0 then Df (λi=>Cj (CK l i)) l.length else if Aq l>999999999 then 4 else 0
theorem Nz {x:AE}(h:Cj x=0):DZ x.grain=true/\1<=x.mass/\x.mass<=999999999/\HW x.shs=0:=by
 unfold Cj at h;split at h
 ·cases h
 ·rename_i h1
  split at h
  ·cases h
  ·rename_i h2
   exact⟨by simpa using h1,by omega,by omega,h⟩
theorem HZ (b:Bool)(e:Int):AJ C0 55 [Ap b,i64 e] (i64 (if b then e else 0)):=by
 refine Ag.walk w1 cj rfl λF=>?_
 cases b
 ·refine AH AW kB AB AB AB AB AB AB ?_
  exact AL rfl AA.out
 ·refine AH AW kB AB AB AB AB AB AB ?_
  exact AL rfl AA.out
theorem OP (v:List Int)(hl:v.length<=1000):AJ C0 54 [.sl true 1 (v.map λe=>i64 e)] (i64 (FN v)):=by
 refine Ag.walk w1 cZ rfl λF=>?_
 have el:(((v.map λe=>i64 e).length:Nat):Int)=(v.length:Int):=by rw[Ac]
 refine AH AW el AB AB AB AB AB AB ?_;refine AC.loop (α:=Nat×Nat) (λp=>⟨[(5,.sl true 1 (v.map λe=>i64 e)),(6,i64 (v.length:Int)),(7,i64 (p.1:Int))],[],p.2⟩) (λp=>v.length-p.1) (λp=>p.1<=v.length/\∀(j:Nat) (e:Int),j<p.1->v[j]?=some e->e=0) (0,_) ⟨BS _,λj e h=>Ah h (Gp j)⟩ AK ?_;rintro⟨i,m⟩ F ⟨hi,ha⟩;dsimp only at hi ha⊢;rcases BA i v.length with h2|h2
 rotate_left
 ·have e1:=Cg h2
  have:i=v.length:=by omega
  subst this;have hd:FN v=0:=by rw[V9 ha,I5];rfl
  rw[hd];refine AH AW e1 AB AB AB AB AB AB ?_;exact AL rfl AA.out
 have e1:=Ch h2;have wi:=CZ (i:=i) (by omega);obtain⟨l,hl'⟩:=CL h2;have hm:(v.map λe=>i64 e)[i]?=some (i64 l):=by rw[A0,hl'];rfl
 by_cases g:l=0
 ·have e5:(l != 0)=false:=by rw[g];rfl
  refine AH AW (BV e1 wi e5 kN) hm AB AB AB AB AB ?_;exact⟨(i+1,_),⟨h2,λj e hj he=>by
   rcases Nat.lt_succ_iff_lt_or_eq.1 hj with q|q
   ·exact ha j e q he
   ·subst q;rw[hl']at he;cases he;exact g⟩,by dsimp only;omega,AK⟩
 ·have e5:(l != 0)=true:=Hw g
  have hd:FN v=l:=by
   rw[V9 ha,EI h2];rw[BE h2]at hl';rw[Fs hl'];exact AG g
  rw[hd];refine AH AW (BV e1 wi e5 kN) hm AB AB AB AB AB ?_;exact AL rfl AA.out
theorem Zq (b:Bool)(l:List AE)(hs:H7 l):AJ C0 59 [Al b l] (i64 (Aq l)):=by
 refine Ag.walk w1 Ul rfl λF=>?_
 have el:(((l.map AE.D).length:Nat):Int)=(l.length:Int):=by rw[Ac]
 obtain⟨hl,hm0⟩:=hs;refine AH AW el AB AB AB AB AB AB ?_;refine AC.loop (α:=Nat×Nat) (λp=>⟨[(3,i64 (Aq (l.take p.1))),(6,Al b l),(7,i64 (l.length:Int)),(8,i64 (p.1:Int))],[],p.2⟩) (λp=>l.length-p.1) (λp=>p.1<=l.length) (0,_) (BS _) AK ?_;rintro⟨i,m⟩ F hi;dsimp only at hi⊢;rcases BA i l.length with h2|h2
 rotate_left
 ·have e1:=Cg h2
  have:i=l.length:=by omega
  subst this;rw[Cf];refine AH AW e1 AB AB AB AB AB AB ?_;exact AL rfl AA.out
 have e1:=Ch h2;have wi:=CZ (i:=i) (by omega);obtain⟨x,hx⟩:=CL h2;have hm:(l.map AE.D)[i]?=some (.agg [str (sb x.grain),i64 x.mass,.sl false 2 (x.shs.map Au.D)]):=by rw[A0,hx];rfl
 have hb:=Tt (l:=l.take i) λy hy=>hm0 y (Gm hy)
 have hxm:=hm0 x (Ax hx);rw[Bb,Eu hi]at hb;have wS:IntKind.i64.wrap (Aq (l.take i)+x.mass)=Aq (l.take (i+1)):=by rw[Sx hx,wI (by omega) (by omega)]
 refine AH AW (BV e1 wi @wS kN) hm AB AB AB AB AB ?_;exact⟨(i+1,_),h2,by dsimp only;omega,AK⟩
theorem eI (x:AE)(hf:x.few):AJ C0 85 [x.D] (i64 (Cj x:Nat)):=by
 refine Ag.walk w1 dQ rfl λF=>?_
 obtain⟨f1,f2,f3⟩:=hf;have cN:=Qb x.grain;have cS:=yN false x.shs f2 f3;have hC:Cj x=if DZ x.grain=false then 8 else if x.mass<1\/x.mass>999999999 then 3 else HW x.shs:=rfl
 obtain⟨N,hN⟩:∃q,DZ x.grain=q:=⟨_,rfl⟩
 obtain⟨SD,hSD⟩:∃d,Cb false x.shs=d:=⟨_,rfl⟩
 have pS:AA SD:=by rw[<-hSD];exact AI
 have hna:JM SD=true:=by rw[<-hSD];rfl
 unfold AE.D;rw[hN]at cN hC;rw[hSD]at cS⊢;cases N
 ·rw[AG rfl]at hC
  rw[hC];refine AH AW kB cN AB AB AB AB AB ?_;exact AL rfl AA.out
 rw[AF (by decide)]at hC
 by_cases h1:x.mass<1
 ·rw[AG (.inl h1)]at hC
  rw[hC];have e1:decide (x.mass<1)=true:=AX h1;refine AH AW e1 cN AB AB AB AB AB ?_;exact AL rfl AA.out
 have e1:decide (x.mass<1)=false:=Ad h1
 by_cases h2:x.mass>999999999
 ·rw[AG (.inr h2)]at hC
  rw[hC];have e2:decide (x.mass>999999999)=true:=AX h2;refine AH AW (Ae e1 e2) cN AB AB AB AB AB ?_;exact AL rfl AA.out
 have e2:decide (x.mass>999999999)=false:=Ad h2;rw[AF (by omega)]at hC;rw[hC];refine AH AW (As e1 e2 hna) cN cS AB AB AB AB ?_;exact AL rfl AA.out
theorem Sd {l:List AE}(h64:¬ 64<l.length)(hz:∀j,j<l.length->Cj (CK l j)=0):H7 l:=by
 refine⟨by omega,λx hx=>?_⟩;obtain⟨j,hj⟩:=List.mem_iff_getElem?.1 hx
 have:=hz j (List.getElem?_eq_some_iff.1 hj).1
 rw[FO hj]at this
 have:=Nz this
 omega
theorem M4 (b:Bool)(l:List AE)(hl:l.length<=9223372036854775807)(hf:∀x∈l,x.few):AJ C0 37 [Al b l] (i64 (B3 l:Nat)):=by
 refine Ag.walk w1 dW rfl λF=>?_
 have el:(((l.map AE.D).length:Nat):Int)=(l.length:Int):=by rw[Ac]
 have hC:B3 l=if 64<l.length then 5 else if Df (λi=>Cj (CK l i)) l.length≠0 then Df (λi=>Cj (CK l i)) l.length else if Aq l>999999999 then 4 else 0:=rfl
 by_cases h64:64<l.length
 ·rw[AG h64]at hC
  rw[hC];have q2:decide ((l.length:Int)>64)=true:=AX (by omega);refine AH AW (Ae el q2) AB AB AB AB AB AB ?_;exact AL rfl AA.out
 rw[AF h64]at hC;have q2:decide ((l.length:Int)>64)=false:=Ad (by omega);refine AH AW (Ae el q2) AB AB AB AB AB AB ?_;refine AC.loop (α:=Nat×Nat) (λp=>⟨[(0,Al b l),(9,Al b l),(10,i64 (l.length:Int)),(11,i64 (p.1:Int))],[],p.2⟩) (λp=>l.length-p.1) (λp=>p.1<=l.length/\∀j,j<p.1->Cj (CK l j)=0) (0,_) ⟨BS _,λj h=>Ah h (Gp j)⟩ AK ?_;rintro⟨i,m⟩ F ⟨hi,hz⟩;dsimp only at hi hz⊢;rcases BA i l.length with h2|h2
 rotate_left
 ·have e1:=Cg h2
  have:i=l.length:=by omega
  subst this;rw[AF (λh=>h (MC (f:=λi=>Cj (CK l i)) hz))]at hC;have cT:=Zq b l (Sd h64 hz);obtain⟨q,hq⟩:∃q,decide (Aq l>999999999)=q:=⟨_,rfl⟩
  have cW:=HZ q 4;have hR:((B3 l:Nat):Int)=if q then 4 else 0:=by
   rw[hC,<-hq]
   by_cases h:Aq l>999999999
   ·rw[AG h,AX h];rfl
   ·rw[AF h,Ad h];rfl
  rw[hR];refine AH AW (Ae e1 hq) cT cW AB AB AB AB ?_;exact AL rfl AA.out
 have e1:=Ch h2;have wi:=CZ (i:=i) (by omega);obtain⟨x,hx⟩:=CL h2;have hm:(l.map AE.D)[i]?=some (.agg [str (sb x.grain),i64 x.mass,.sl false 2 (x.shs.map Au.D)]):=by rw[A0,hx];rfl
 have cL:=eI x (hf x (Ax hx));unfold AE.D at cL;rcases Nat.decEq (Cj x) 0 with hc0|hc0
 ·have e3:=GE hc0
  have:=OI (f:=λi=>Cj (CK l i)) hz h2 (by rw[FO hx];exact hc0)
  rw[FO hx]at this;rw[this,AG hc0]at hC;rw[hC];refine AH AW (As e1 e3 kN) hm cL AB AB AB AB ?_;exact AL rfl AA.out
 have e3:=GG hc0;refine AH AW (BV e1 e3 wi kN) hm cL AB AB AB AB ?_;exact⟨(i+1,_),⟨h2,λj hj=>by
  rcases Nat.lt_succ_iff_lt_or_eq.1 hj with q|q
  ·exact hz j q
  ·rw[q,FO hx];exact hc0⟩,by dsimp only;omega,AK⟩
theorem Xh {α:Type}{l:List α}{p:α->Bool}{k:Nat}{x:α}(hx:l[k]?=some x)(h:(l.take k).all p=true)(hp:p x=true):(l.take (k+1)).all p=true:=by
 rw[DW,hx,Jm,h];simp[hp]
theorem Te {α:Type}{l:List α}{p:α->Bool}{k:Nat}{x:α}(hx:l[k]?=some x)(hp:p x=false):l.all p=false:=by
 cases h:l.all p
 ·rfl
 ·rw[CS.1 h x (Ax hx)]at hp;exact hp
abbrev MN:Dr:=[(8,[0,1,2,3,4,5,6,7],[8])]
open Go.Proofs Go.RowKit
set_option maxRecDepth 20000
set_option maxHeartbeats 4000000
abbrev By:=List (List UInt8×Rat)
def Fk (lot:List UInt8):By->Option Rat
 | []=>none
 |p::l=>if lot=p.1 then some p.2 else Fk lot l
def GH (lot:List UInt8)(r:Rat):By->By
 | []=>[(lot,r)]
 |p::l=>if lot=p.1 then(lot,r)::l else p::GH lot r l
def Jc (lot:List UInt8)(r:Rat)(q:By):By:=GH lot (match Fk lot q with|some o=>r+o|none=>r) q
def GC (x:AE)(n:Nat)(q:By):By:=(x.shs.take n).foldl (λacc s=>Jc s.lot (CN s.part*(x.mass:Rat)) acc) q
def CF (l:List AE):By:=l.foldl (λacc x=>GC x x.shs.length acc) []
def MQ (B:Nat):By->C7->Prop
 | [],[]=>True
 |p::q,e::m=>(e.1=sb p.1/\∃y:GF,e.2=y.D/\FR p.2 y B)/\MQ B q m
 |_,_=>False
theorem MQ.mono {B B':Nat}(hB:B<=B'):∀ {q:By} {m:C7},MQ B q m->MQ B' q m
 | [],[],_=>trivial
 |_::_,_::_,⟨⟨h1,y,h2,h3⟩,h4⟩=>⟨⟨h1,y,h2,h3.is,h3.rk.mono hB⟩,MQ.mono hB h4⟩
theorem MQ.look {B:Nat}(lot:List UInt8):∀ {q:By} {m:C7},MQ B q m->(Ho (sb lot) m=none/\Fk lot q=none)\/∃(r:Rat) (y:GF),Ho (sb lot) m=some y.D/\Fk lot q=some r/\FR r y B
 | [],[],_=>.inl ⟨rfl,rfl⟩
 |p::q,e::m,⟨⟨h1,y,h2,h3⟩,h4⟩=>by
  unfold Ho Fk;rw[h1,Em]
  by_cases hl:lot=p.1
  ·rw[AX hl,AG hl]
   exact .inr ⟨p.2,y,by rw[h2];rfl,rfl,h3⟩
  ·rw[Ad hl,AF hl]
   exact MQ.look lot h4
theorem MQ.set {B:Nat}(lot:List UInt8){r:Rat}{y:GF}(hr:FR r y B):∀ {q:By} {m:C7},MQ B q m->MQ B (GH lot r q) (FC (sb lot) y.D m)
 | [],[],_=>⟨⟨rfl,y,rfl,hr⟩,trivial⟩
 |p::q,e::m,⟨⟨h1,y',h2,h3⟩,h4⟩=>by
  unfold GH FC;rw[h1,Em]
  by_cases hl:lot=p.1
  ·rw[AX hl,AG hl]
   exact⟨⟨rfl,y,rfl,hr⟩,h4⟩
  ·rw[Ad hl,AF hl]
   exact⟨⟨h1,y',h2,h3⟩,MQ.set lot hr h4⟩
theorem MQ.pure {B:Nat}:∀ {q:By} {m:C7},MQ B q m->∀e∈m,B5 e.2
 | [],[],_,e,he=>by cases he
 |p::q,e::m,⟨⟨_,y,h2,_⟩,h4⟩,x,hx=>by
  rcases BF.1 hx with rfl|hx
  ·rw[h2];exact AA.out
  ·exact MQ.pure h4 x hx
theorem MQ.mapD {B:Nat}{q:By}{m:C7}(h:MQ B q m):B5 (mapD m):=by
 refine B5.mp (λd hd=>?_) λd hd=>?_
 ·obtain⟨p,-,rfl⟩:=List.mem_map.1 hd;exact AA.out
 ·obtain⟨p,hp,rfl⟩:=List.mem_map.1 hd;exact h.pure p hp
def Au.ok (s:Au):Prop:=s.lot.length<=100000/\s.part.length<=40/\CW s.part=0
def AE.ok (x:AE):Prop:=x.shs.length<=64/\Sm x.mass/\∀s∈x.shs,s.ok
def AE.okW (w:Nat)(x:AE):Prop:=x.shs.length<=64/\Sm x.mass/\∀s∈x.shs,s.lot.length<=100000/\s.part.length<=100000/\CW s.part=0/\rk (CN s.part) (w-2)
theorem Nd (x:AE)(n:Nat)(q:By){s:Au}(h:x.shs[n]?=some s):GC x (n+1) q=Jc s.lot (CN s.part*(x.mass:Rat)) (GC x n q):=by
 unfold GC;rw[DW,h,List.foldl_append];rfl
theorem Pm (l:List AE)(n:Nat){x:AE}(h:l[n]?=some x):CF (l.take (n+1))=GC x x.shs.length (CF (l.take n)):=by
 unfold CF;rw[DW,h,List.foldl_append];rfl
theorem b9 (w:Nat)(b:Bool)(l:List AE)(hl:l.length<=100)(hx:∀x∈l,x.okW w)(h2w:2<=w)(hw:w*(64*(l.length+1))<=100000):Ag C0 62 [Al b l] (λd=>∃m,d=mapD m/\MQ (w*(64*l.length)) (CF l) m):=by
 refine Ag.walk w1 dB rfl λF0=>?_
 have el:(((l.map AE.D).length:Nat):Int)=(l.length:Int):=by rw[Ac]
 refine sZ 0 ?_;refine AD kB ?_;refine AC.seq ?_;refine Hk (by kernel_rfl) ?_;change Bd _ _ _ _ _ [0,1] _ _;refine Bd.makeMap 100 rfl rfl rfl (VM F0) (λF1 it hto hO hr0 hnX hM=>?_);change Bd _ _ _ _ _ ([1]++[]) _ _;refine FE w1 100 [1] [] ?_;refine AD kB ?_;refine Bd.nil ?_;refine AH MN el AB AB AB AB AB AB ?_;refine GN (α:=Nat×C7×Obj×Nat) (λp=>⟨[(3,.prim (.map (some it))),(12,Al b l),(13,i64 (l.length:Int)),(14,i64 (p.1:Int))],[],p.2.2.2⟩) (λp=>l.length-p.1)
  (λp F=>p.1<=l.length/\C5 C0 F0 F [⟨100,1,p.2.2.1⟩]/\F.r0 100 1=some it/\HY F p.2.2.1 p.2.1/\MQ (w*(64*p.1)) (CF (l.take p.1)) p.2.1) (0,[],.map #[] 0,_) ⟨BS _,hO,hr0,hM,trivial⟩ AK ?_
 clear hO hr0 hM hto;rintro⟨i,m,o,n1⟩ F ⟨hi,hO,hr0,hM,hQ⟩;dsimp only at hi hO hr0 hM hQ⊢;rcases BA i l.length with h2|h2
 rotate_left
 ·have e1:=Cg h2
  have:i=l.length:=by omega
  subst this;rw[Cf]at hQ;refine sZ 300 ?_;refine AD e1 ?_;refine AC.seq ?_;refine AM ?_;refine B8 ?_;refine fQ [(3,mapD m)] hO hr0 hnX hM ⟨.inr ⟨rfl,rfl⟩,trivial⟩ (λF2 hto2 hO2=>?_);refine AH MN kB AB AB AB AB AB AB ?_;exact⟨mapD m,.refl _,hQ.mapD,m,rfl,hQ⟩
 have e1:=Ch h2;have wi:=CZ (i:=i) (by omega);obtain⟨x,hxi⟩:=CL h2;obtain⟨x1,x2,x3⟩:=hx x (Ax hxi);have hm:(l.map AE.D)[i]?=some (.agg [str (sb x.grain),i64 x.mass,.sl false 2 (x.shs.map Au.D)]):=by rw[A0,hxi];rfl
 have es:(((x.shs.map Au.D).length:Nat):Int)=(x.shs.length:Int):=by rw[Ac]
 refine AH MN (As e1 es kN) hm AB AB AB AB AB ?_;obtain⟨ga,hga⟩:∃g,n1+1+1+1=g:=⟨_,rfl⟩
 refine GN (α:=Nat×C7×Obj×Nat) (λp=>⟨[(3,.prim (.map (some it))),(5,.optr 402 (n1+1+1+1) 3 0 0),(12,Al b l),(13,i64 (l.length:Int)),(14,i64 (i:Int)),(19,.sl false 2 (x.shs.map Au.D)),(20,i64 (x.shs.length:Int)),(21,i64 (p.1:Int))],[⟨402,n1+1+1+1,27,3,[.agg [str (sb x.grain),i64 x.mass,.sl false 2 (x.shs.map Au.D)]]⟩],p.2.2.2⟩) (λp=>x.shs.length-p.1)
  (λp F=>p.1<=x.shs.length/\C5 C0 F0 F [⟨100,1,p.2.2.1⟩]/\F.r0 100 1=some it/\HY F p.2.2.1 p.2.1/\MQ (w*(64*i+p.1)) (GC x p.1 (CF (l.take i))) p.2.1) (0,m,o,_) ⟨BS _,hO,hr0,hM,hQ⟩ AK ?_
 clear hO hr0 hM hQ;rintro⟨j,m2,o2,n2⟩ F ⟨hj,hO,hr0,hM,hQ⟩;dsimp only at hj hO hr0 hM hQ⊢;rw[hga];rcases BA j x.shs.length with h3|h3
 rotate_left
 ·have e2:=Cg h3
  have:j=x.shs.length:=by omega
  subst this;rw[<-Pm l i hxi]at hQ;refine AH MN (Ae e2 wi) AB AB AB AB AB AB ?_;exact⟨(i+1,m2,o2,_),⟨h2,hO,hr0,hM,hQ.mono (CY _ (by dsimp only;omega))⟩,by dsimp only;omega,AK⟩
 have e2:=Ch h3;have wj:=CZ (i:=j) (by omega);obtain⟨s,hsj⟩:=CL h3;obtain⟨s1,s2,s3,s4⟩:=x3 s (Ax hsj);have hms:(x.shs.map Au.D)[j]?=some (.agg [str (sb s.lot),str (sb s.part)]):=by rw[A0,hsj];rfl
 have hsn:=Nd x j (CF (l.take i)) hsj;have fP:FR (CN s.part) (GB s.part) (w-2):=⟨(Qy s3).is,s4⟩
 obtain⟨PW,hPW⟩:∃P,w*(64*i+j)=P:=⟨_,rfl⟩
 have hPW1:w*(64*i+(j+1))=PW+w:=by rw[<-hPW,<-EP,Nat.mul_succ]
 have hPWb:PW+w<=100000:=by
  rw[<-hPW1];exact BU (CY _ (by omega)) hw
 rw[hPW]at hQ;have fM:FR ((x.mass:Int):Rat) ⟨AY x.mass,1⟩ 1:=QW (by unfold Sm at x2;omega);have c1:=Qp s2 s3;have c2:=Ox x.mass x2;have c3:=T7 fP fM (by omega);have fZ:FR (CN s.part*(x.mass:Rat)) (IK (GB s.part) ⟨AY x.mass,1⟩) (w-2+1):=TV fP fM;obtain⟨z,hz⟩:∃z,IK (GB s.part) ⟨AY x.mass,1⟩=z:=⟨_,rfl⟩
 rw[hz]at c3 fZ;obtain⟨d1,hd1⟩:∃d,(GB s.part).D=d:=⟨_,rfl⟩
 obtain⟨d2,hd2⟩:∃d,(⟨AY x.mass,1⟩:GF).D=d:=⟨_,rfl⟩
 have pd1:AA d1:=by rw[<-hd1];exact AI
 have pd2:AA d2:=by rw[<-hd2];exact AI
 rw[hd1]at c1 c3;rw[hd2]at c2 c3;refine sZ 600 ?_;refine AD e2 ?_;refine AC.seq ?_;refine AM ?_;refine Am ?_;refine AC.seq ?_;refine AC.block ?_;refine sZ 700 ?_;refine Br kT hms ?_;refine AD kB ?_;refine AC.seq ?_;refine B6 w1 800 [0,1,2,3,4,5,6,7] [8] (by kernel_rfl) ?_;refine AD kB ?_;refine BY.same _ (c1) AI ?_;refine BO ?_;refine AD kB ?_;refine BY.same _ (c2) AI ?_;refine BO ?_;refine AD kB ?_;refine BY.same _ (c3) AI ?_;refine BO ?_;refine AD kB ?_;refine AC.seq ?_;refine AC.seq ?_;refine Hk (by kernel_rfl) ?_;change Bd _ _ _ _ _ ([0,1,2]++(3::([4,5,6,7,8,9]++[]))) _ _;refine FE w1 900 [0,1,2] _ ?_;refine AD kB ?_;refine Bd.look (xo:=⟨100,1,o2⟩) (l:=m2) w1 rfl rfl rfl rfl rfl rfl hO CM hr0 hM ?_;rcases hQ.look s.lot with⟨q1,q2⟩|⟨r,y,q1,q2,q3⟩
 ·rw[WU q1]
  refine FE w1 900 [4,5,6,7,8,9] [] ?_;refine AD kB ?_;refine Bd.nil ?_;refine At ?_;refine sZ 1000 ?_;refine AD kB ?_;refine AM ?_;refine Am ?_;refine Hk (by kernel_rfl) ?_;change Bd _ _ _ _ _ ([0,1,2,3]++(4::[])) _ _;refine FE w1 1200 [0,1,2,3] _ ?_;refine AD kB ?_;refine Bd.put (l:=m2) w1 rfl rfl rfl rfl rfl rfl hO hr0 hM (λF3 o3 hto3 hO3 hr3 hM3=>Bd.nil ?_);refine At ?_;have hQ2:MQ (w*(64*i+(j+1))) (GC x (j+1) (CF (l.take i))) (FC (sb s.lot) z.D m2):=by
   rw[hsn,hPW1];unfold Jc;rw[q2];exact MQ.set s.lot ⟨fZ.is,fZ.rk.mono (by omega)⟩ (hQ.mono (by omega))
  refine AH MN wj AB AB AB AB AB AB ?_;exact⟨(j+1,FC (sb s.lot) z.D m2,o3,_),⟨h3,hO3,hr3,hM3,hQ2⟩,by dsimp only;omega,AK⟩
 ·rw[WV q1]
  refine FE w1 900 [4,5,6,7,8,9] [] ?_;refine AD kB ?_;refine Bd.nil ?_;have c4:=Qk fZ q3 (by omega);have fA:=QZ fZ q3;obtain⟨z2,hz2⟩:∃z2,Jb z y=z2:=⟨_,rfl⟩
  rw[hz2]at c4 fA;refine At ?_;refine sZ 1000 ?_;refine AD kB ?_;refine AM ?_;refine An w1 1100 (by kernel_rfl) ?_;refine AD kB ?_;refine cI c4 ?_;refine AD kB ?_;refine Hk (by kernel_rfl) ?_;change Bd _ _ _ _ _ ([0,1,2,3]++(4::[])) _ _;refine FE w1 1200 [0,1,2,3] _ ?_;refine AD kB ?_;refine Bd.put (l:=m2) w1 rfl rfl rfl rfl rfl rfl hO hr0 hM (λF3 o3 hto3 hO3 hr3 hM3=>Bd.nil ?_);refine At ?_;have hQ2:MQ (w*(64*i+(j+1))) (GC x (j+1) (CF (l.take i))) (FC (sb s.lot) z2.D m2):=by
   rw[hsn,hPW1];unfold Jc;rw[q2];exact MQ.set s.lot ⟨fA.is,fA.rk.mono (by omega)⟩ (hQ.mono (by omega))
  refine AH MN wj AB AB AB AB AB AB ?_;exact⟨(j+1,FC (sb s.lot) z2.D m2,o3,_),⟨h3,hO3,hr3,hM3,hQ2⟩,by dsimp only;omega,AK⟩
theorem AE.ok.w5 {x:AE}(h:x.ok):x.okW 5:=⟨h.1,h.2.1,λs hs=>by
 obtain⟨a,b,c⟩:=h.2.2 s hs;exact⟨a,by omega,c,fX c b⟩⟩
theorem wG (b:Bool)(l:List AE)(hl:l.length<=100)(hx:∀x∈l,x.ok):Ag C0 62 [Al b l] (λd=>∃m,d=mapD m/\MQ 32000 (CF l) m):=
 (b9 5 b l hl (λx h=>(hx x h).w5) (by omega) (by omega)).mono λd ⟨m,h1,h2⟩=>⟨m,h1,h2.mono (by omega)⟩
def Uo (r:Rat):List UInt8:=if Dm r=true then[]else BN r
def Un (r:Rat):Nat:=if Dm r=true then 4 else 0
set_option maxHeartbeats 8000000
theorem UJ {l:List UInt8}(h:CW l=0):rR (CN l)=str (sb l):=by unfold rR;rw[(Nt h).2.2.1]
set_option maxHeartbeats 4000000
theorem Wo (n:Nat):C6 (Lib.decDigits n)=true:=by
 obtain⟨h1,h2,h3⟩:=EL n;rcases Dh n with h|h
 ·have e:Lib.decDigits n=[48]:=by
   have:=Xv 0
   rw[h];exact DA (this.trans (AX rfl))
  rw[e];rfl
 ·obtain⟨c,l,e,hc⟩:=l6 (Nat.pos_iff_ne_zero.1 h)
  rw[e]at h1⊢;unfold C6 Ka;rw[h1];simp[hc]
theorem Tz {n:Nat}{l:List UInt8}(h:n≠dv l):decide (Lib.decDigits n=l)=false:=Ad λe=>h (by rw[<-e,(EL n).2.1])
theorem nZ {r:Rat}(h:Dm r=false):CW (BN r)=0:=by
 have hs:B1 (BN r)=Lib.decDigits r.num.natAbs:=by unfold B1;rw[OL,(MI _).2]
 have hd:=MT r;have hh:=Qg r;unfold Dm at h;simp only[Iz,IN]at h;have hb:JG (BN r)=false:=by
  rw[Pj,hs,Tw,hh,Wo];have e1:(decide (r.num<0)&&decide (Lib.decDigits r.num.natAbs=[48]))=false:=by
   by_cases g:r.num<0
   ·rw[Tz (show r.num.natAbs≠dv [48] by show r.num.natAbs≠0;omega),Bool.and_false]
   ·rw[Ad g,Gl]
  rw[e1]
  by_cases g:r.den=1
  ·rw[AX g];rfl
  ·rw[hd,AF g,Wo,Tz (show r.den≠dv [48]from r.den_nz),Tz (show r.den≠dv [49]from g),Ad g];rfl
 unfold CW;rw[hb,AF (by decide),hs]
 by_cases g:r.den=1
 ·rw[hd,AG g,hh,AX g,AF (by simp;omega),AF (λk=>Ah k.1 (by decide))]
 ·rw[hd,AF g,(EL _).2.1,(EL _).2.1,AF (by omega),AF (λk=>k.2 r.reduced)]
theorem jf (r:Rat):CN (BN r)=r:=by
 unfold CN Gj;rw[OL,Ys,Qg,MT]
 by_cases g:r.den=1
 ·rw[AX g]
  show mkRat r.num 1=r;rw[<-g];exact Rat.mkRat_self r
 ·rw[Ad g,AF g,(EL _).2.1]
  exact Rat.mkRat_self r
theorem nq:rR 0=str ⟨#[48]⟩:=by
 have h:CN [48]=0:=by kernel_rfl
 rw[<-h,UJ (by kernel_rfl)];all_goals rfl
theorem iP (r:Rat):BI (sb (BN r)) ⟨#[49]⟩=decide (r=1):=by
 have h1:CN [49]=1:=by kernel_rfl
 have e:(⟨#[49]⟩:ByteArray)=sb [49]:=rfl;rw[e,Em,C4];constructor
 ·intro h
  rw[<-jf r,h,h1]
 ·intro h
  rw[h]
  have:=(Nt (l:=[49]) (by kernel_rfl)).2.2.1
  rwa [h1]at this
end Go.Ide
namespace Go.Proofs
open Go.Shelf Go.RowKit Go.Lib Go.Sort
def Tryz.sortAmounts_ren:Go.Shelf.Ren:=⟨fun|6=>115|15=>163|14=>162|28=>222|29=>223|20=>214|21=>215|22=>216|23=>217|24=>218|25=>219|26=>220|27=>221|46=>263|47=>264|48=>265|49=>266|50=>267|57=>294|n=>n,fun|22=>31|24=>93|25=>158|3=>3|39=>203|0=>0|53=>254|55=>225|4=>4|46=>247|45=>246|50=>251|5=>5|9=>9|66=>280|70=>284|76=>305|77=>306|n=>n,fun|n=>n⟩
theorem yx:Go.Proofs.SlLaysF0.n6 Tryz.prog Tryz.sortAmounts_ren:={
 mixed:=by kernel_rfl
 f6:=⟨Tryz.f115.name,by decide,Tryz.func115.trans (congrArg some (by kernel_rfl))⟩
 f14:=⟨Tryz.f162.name,by decide,Tryz.func162.trans (congrArg some (by kernel_rfl))⟩
 f15:=Tryz.func163.trans (congrArg some (by kernel_rfl))
 f20:=⟨Tryz.f214.name,by decide,Tryz.func214.trans (congrArg some (by kernel_rfl))⟩
 f21:=⟨Tryz.f215.name,by decide,Tryz.func215.trans (congrArg some (by kernel_rfl))⟩
 f22:=⟨Tryz.f216.name,by decide,Tryz.func216.trans (congrArg some (by kernel_rfl))⟩
 f23:=⟨Tryz.f217.name,by decide,Tryz.func217.trans (congrArg some (by kernel_rfl))⟩
 f24:=⟨Tryz.f218.name,by decide,Tryz.func218.trans (congrArg some (by kernel_rfl))⟩
 f25:=⟨Tryz.f219.name,by decide,Tryz.func219.trans (congrArg some (by kernel_rfl))⟩
 f26:=⟨Tryz.f220.name,by decide,Tryz.func220.trans (congrArg some (by kernel_rfl))⟩
 f27:=⟨Tryz.f221.name,by decide,Tryz.func221.trans (congrArg some (by kernel_rfl))⟩
 f28:=Tryz.func222.trans (congrArg some (by kernel_rfl))
 f29:=Tryz.func223.trans (congrArg some (by kernel_rfl))
 f46:=⟨Tryz.f263.name,by decide,Tryz.func263.trans (congrArg some (by kernel_rfl))⟩
 f47:=Tryz.func264.trans (congrArg some (by kernel_rfl))
 f48:=Tryz.func265.trans (congrArg some (by kernel_rfl))
 f49:=⟨Tryz.f266.name,by decide,Tryz.func266.trans (congrArg some (by kernel_rfl))⟩
 f50:=⟨Tryz.f267.name,by decide,Tryz.func267.trans (congrArg some (by kernel_rfl))⟩
 f57:=⟨Tryz.f294.name,by decide,Tryz.func294.trans (congrArg some (by kernel_rfl))⟩
 t0:=Tryz.underlying0
 a0:=Tryz.isAgg0
 z0:=Tryz.sizeOf0
 v0:=Tryz.zeroValue0
 t3:=Tryz.underlying3
 a3:=Tryz.isAgg3
 z3:=Tryz.sizeOf3
 v3:=Tryz.zeroValue3
 t4:=Tryz.underlying4
 a4:=Tryz.isAgg4
 z4:=Tryz.sizeOf4
 v4:=Tryz.zeroValue4
 t5:=Tryz.underlying5
 a5:=Tryz.isAgg5
 z5:=Tryz.sizeOf5
 v5:=Tryz.zeroValue5
 t9:=Tryz.underlying9
 a9:=Tryz.isAgg9
 z9:=Tryz.sizeOf9
 v9:=Tryz.zeroValue9
 t22:=Tryz.underlying31
 a22:=Tryz.isAgg31
 z22:=Tryz.sizeOf31
 v22:=Tryz.zeroValue31
 t25:=Tryz.underlying158
 a25:=Tryz.isAgg158
 z25:=Tryz.sizeOf158
 v25:=Tryz.zeroValue158
 t39:=Tryz.underlying203
 a39:=Tryz.isAgg203
 z39:=Tryz.sizeOf203
 v39:=Tryz.zeroValue203
 t45:=Tryz.underlying246
 a45:=Tryz.isAgg246
 z45:=Tryz.sizeOf246
 v45:=Tryz.zeroValue246
 t46:=Tryz.underlying247
 a46:=Tryz.isAgg247
 z46:=Tryz.sizeOf247
 v46:=Tryz.zeroValue247
 t50:=Tryz.underlying251
 a50:=Tryz.isAgg251
 z50:=Tryz.sizeOf251
 v50:=Tryz.zeroValue251
 t53:=Tryz.underlying254
 a53:=Tryz.isAgg254
 z53:=Tryz.sizeOf254
 v53:=Tryz.zeroValue254
 t55:=Tryz.underlying225
 a55:=Tryz.isAgg225
 z55:=Tryz.sizeOf225
 v55:=Tryz.zeroValue225
 t66:=Tryz.underlying280
 a66:=Tryz.isAgg280
 z66:=Tryz.sizeOf280
 v66:=Tryz.zeroValue280
 t70:=Tryz.underlying284
 a70:=Tryz.isAgg284
 z70:=Tryz.sizeOf284
 v70:=Tryz.zeroValue284
 t76:=Tryz.underlying305
 a76:=Tryz.isAgg305
 z76:=Tryz.sizeOf305
 v76:=Tryz.zeroValue305
 t77:=Tryz.underlying306
 a77:=Tryz.isAgg306
 z77:=Tryz.sizeOf306
 v77:=Tryz.zeroValue306 }
end Go.Proofs
namespace Go.Ide
open Go.Proofs Go.RowKit Go.Sort
set_option maxRecDepth 20000
def Cm (p:List UInt8×Rat):D:=.agg [str (sb p.1),str (sb (BN p.2))]
instance d7d (p:List UInt8×Rat):AT (Cm p):=by unfold Cm;exact AI
instance d7e (p:List UInt8×Rat):AA (Cm p):=by unfold Cm;exact AI
def Kb (p:List UInt8×Rat):List Value:=[.string (sb p.1),.string (sb (BN p.2))]
def Hg (x y:List UInt8):Int:=if x<y then -1 else if y<x then 1 else 0
theorem P0 (x y:List UInt8×Rat):ltOf (λx y:List UInt8×Rat=>Hg x.1 y.1) x y=ltStr x.1 y.1:=by
 unfold ltOf Hg ltStr
 by_cases h:x.1<y.1
 ·simp[h]
 ·by_cases h2:y.1<x.1<;>simp[h,h2]
theorem y5:SWO (ltOf (λx y:List UInt8×Rat=>Hg x.1 y.1)) where
 irrefl x:=by rw[P0];exact swo_ltStr.irrefl _
 trans x y z h1 h2:=by rw[P0]at*;exact swo_ltStr.trans _ _ _ h1 h2
 ntrans x y z h1 h2:=by rw[P0]at*;exact swo_ltStr.ntrans _ _ _ h1 h2
set_option maxHeartbeats 1000000 in
theorem jw (x:ByteArray)(W:World):Calls Tryz.prog 164 #[.string x] W λe w'=>e=.returned (.bool false)/\w'=W:=by
 go_enter Tryz.func164,Tryz.ntmps164
 go_wp2
 go_ret
 exact⟨by simp,rfl⟩
set_option maxHeartbeats 1000000 in
theorem iZ (x y:List UInt8)(W:World):Calls Tryz.prog 117 #[.string (sb x),.string (sb y)] W λe w'=>e=.returned (.int .i64 (Hg x y))/\w'=W:=by
 go_enter Tryz.func117,Tryz.ntmps117
 go_wp2_with (go_at_call 164;refine(jw _ _).mono ?_;rintro e w' ⟨rfl,hw⟩;rw[hw])
 all_goals go_ret
 all_goals(refine⟨?_,rfl⟩)
 ·have h:Op.bytesLess x y=true:=by assumption
  rw[bytesLess_eq,GP]at h;unfold Hg;rw[AG h];rfl
 ·have h:Op.bytesLess x y=false:=by assumption
  have h2:(!x==y)=true:=by assumption
  rw[bytesLess_eq,IN]at h;have h3:y<x:=DU λq=>by
   have:=List.le_antisymm (List.not_lt.1 q) (List.not_lt.1 h)
   simp[this]at h2
  unfold Hg;rw[AF h,AG h3];rfl
 ·have h:Op.bytesLess x y=false:=by assumption
  have h2:(!x==y)=false:=by assumption
  rw[bytesLess_eq,IN]at h;have h3:¬y<x:=λq=>by
   have:x=y:=by simpa using h2
   rw[this]at q;exact List.lt_irrefl _ q
  unfold Hg;rw[AF h,AF h3];rfl
set_option maxHeartbeats 1000000 in
theorem iY (x y:List UInt8×Rat)(W:World):Calls Tryz.prog 116 #[.agg (Kb x).toArray,.agg (Kb y).toArray] W λe w'=>e=.returned (.int .i64 (Hg x.1 y.1))/\∃q os',w'=grow (W.drewN q) os':=by
 have hcon:=iZ x.1 y.1;unfold Kb;generalize Hg x.1 y.1=r at hcon⊢;generalize sb x.1=a at hcon⊢;generalize sb y.1=b at hcon⊢;generalize sb (BN x.2)=c;generalize sb (BN y.2)=d
 go_enter Tryz.func116,Tryz.ntmps116
 go_wp2_with (go_at_call 117;refine(hcon _).mono ?_;rintro e w' ⟨rfl,rfl⟩)
 go_ret
 exact⟨rfl,0,_,by rw[alloc_eq_grow,alloc_eq_grow,grow_grow];rfl⟩
theorem zW:(Tryz.prog.info? 93).map (λi=>i.size)=some 2:=by kernel_rfl
theorem fv:IA Tryz.prog 93=true:=by kernel_rfl
theorem zX:(Tryz.prog.underlying 93).isSome=true:=by kernel_rfl
theorem wT (w:World):(Go.sizeOf 93).run Tryz.prog w=.ok 2 w:=by
 obtain⟨i,h1,h2⟩:=Option.map_eq_some_iff.1 zW;rw[GW h1,h2]
theorem xS (w:World):(isAgg 93).run Tryz.prog w=.ok true w:=by
 obtain⟨u,h1⟩:=Option.isSome_iff_exists.1 zX;rw[P3 h1,fv]
theorem uj:Zk Tryz.prog 115 116 Kb 2 (ltOf λx y:List UInt8×Rat=>Hg x.1 y.1):=λblk cap d w hH hb hd=>
 AnyQ.slices_SortFunc yx 2 xS wT Kb (λ_=>rfl) (λx v hv=>by simp[Kb]at hv;rcases hv with rfl|rfl<;>rfl)
  (λx y=>Hg x.1 y.1) y5 116 #[] blk 0 cap d w (enters_of Tryz.func116 (by kernel_rfl) rfl) (λ_ _ _ _ x y=>iY x y _) hH hb hd
theorem gJ (l:List (List UInt8×Rat))(hl0:l≠[])(hl:l.length<4611686018427387904)(kb gg:Nat)(H:Hp)(n:Nat):
  Ca C0 115 [.osl kb gg 2 0 l.length,.clo (.func 116) [] []] (⟨kb,gg,93,2,l.map Cm⟩::H) n
   (λd H' n'=>d=.tup []/\n'=n+1/\∃l':List (List UInt8×Rat),l'.Perm l/\l'.Pairwise (λa b=>ltStr b.1 a.1=false)/\H'=⟨kb,gg,93,2,l'.map Cm⟩::H):=
 (kV (C:=C0) (f:=115) (g:=116) (enc:=Kb) (k:=2) (toD:=Cm) (lt:=ltOf λx y:List UInt8×Rat=>Hg x.1 y.1) (by obtain⟨fn,a1,a2,a3,-⟩:=ZQ;exact⟨fn,_,a1,a2,a3⟩) (by decide) (λ_=>rfl) (λx v hv=>by simp[Kb]at hv;rcases hv with rfl|rfl<;>rfl) (λx=>rfl) uj l hl0 hl kb gg _ H n).mono λd H' n' ⟨h1,h2,l',h3,h4,h5⟩=>
  ⟨h1,h2,l',h3,h4.imp λh=>by rw[P0]at h;exact h,h5⟩
theorem kW:AJ C0 115 [CP,.clo (.func 116) [] []] (.tup []):=CD DT 400 40 (by kernel_rfl)
end Go.Ide
namespace Go.Proofs
open Go.Shelf Go.RowKit Go.Lib Go.Sort
def Tryz.sortedZ_ren:Go.Shelf.Ren:=⟨fun|6=>107|8=>155|9=>156|11=>205|13=>163|12=>206|23=>222|24=>223|14=>244|15=>245|16=>246|17=>247|18=>248|19=>249|20=>250|21=>251|22=>252|25=>283|26=>264|27=>265|28=>284|29=>285|30=>164|31=>302|n=>n,fun|26=>9|28=>149|24=>146|0=>0|3=>3|37=>203|48=>254|50=>225|4=>4|40=>247|39=>246|45=>251|5=>5|9=>9|51=>280|55=>284|57=>305|58=>306|33=>99|n=>n,fun|n=>n⟩
theorem yb:Go.Proofs.SlLaysZ.n6 Tryz.prog Tryz.sortedZ_ren:={
 mixed:=by kernel_rfl
 f6:=⟨Tryz.f107.name,by decide,Tryz.func107.trans (congrArg some (by kernel_rfl))⟩
 f8:=⟨Tryz.f155.name,by decide,Tryz.func155.trans (congrArg some (by kernel_rfl))⟩
 f11:=⟨Tryz.f205.name,by decide,Tryz.func205.trans (congrArg some (by kernel_rfl))⟩
 t0:=Tryz.underlying0
 a0:=Tryz.isAgg0
 z0:=Tryz.sizeOf0
 v0:=Tryz.zeroValue0
 t24:=Tryz.underlying146
 a24:=Tryz.isAgg146
 z24:=Tryz.sizeOf146
 v24:=Tryz.zeroValue146
 t26:=Tryz.underlying9
 a26:=Tryz.isAgg9
 z26:=Tryz.sizeOf9
 v26:=Tryz.zeroValue9
 t28:=Tryz.underlying149
 a28:=Tryz.isAgg149
 z28:=Tryz.sizeOf149
 v28:=Tryz.zeroValue149
 i26:=by kernel_rfl }
def Tryz.keysZ_ren:Go.Shelf.Ren:=⟨fun|10=>157|n=>n,fun|33=>99|23=>102|0=>0|4=>4|26=>9|3=>141|n=>n,fun|n=>n⟩
theorem yv:Go.Proofs.SlLaysZ.n10 Tryz.prog Tryz.keysZ_ren:={
 mixed:=by kernel_rfl
 f10:=⟨Tryz.f157.name,by decide,Tryz.func157.trans (congrArg some (by kernel_rfl))⟩
 t0:=Tryz.underlying0
 a0:=Tryz.isAgg0
 z0:=Tryz.sizeOf0
 v0:=Tryz.zeroValue0
 t4:=Tryz.underlying4
 a4:=Tryz.isAgg4
 z4:=Tryz.sizeOf4
 v4:=Tryz.zeroValue4
 t23:=Tryz.underlying102
 a23:=Tryz.isAgg102
 z23:=Tryz.sizeOf102
 v23:=Tryz.zeroValue102
 t26:=Tryz.underlying9
 a26:=Tryz.isAgg9
 z26:=Tryz.sizeOf9
 v26:=Tryz.zeroValue9
 t33:=Tryz.underlying99
 a33:=Tryz.isAgg99
 z33:=Tryz.sizeOf99
 v33:=Tryz.zeroValue99 }
def Tryz.sortM_ren:Go.Shelf.Ren:=⟨fun|6=>156|8=>163|9=>206|19=>222|20=>223|21=>244|22=>245|23=>246|24=>247|25=>248|26=>249|27=>250|28=>251|29=>252|36=>283|31=>264|32=>265|37=>284|38=>285|39=>164|41=>302|n=>n,fun|27=>146|29=>9|3=>3|32=>203|26=>146|0=>0|44=>254|46=>225|4=>4|36=>247|35=>246|41=>251|5=>5|9=>9|53=>280|57=>284|63=>305|64=>306|n=>n,fun|n=>n⟩
theorem fH:Go.Proofs.SlLaysM.n6 Tryz.prog Tryz.sortM_ren:={
 mixed:=by kernel_rfl
 f6:=⟨Tryz.f156.name,by decide,Tryz.func156.trans (congrArg some (by kernel_rfl))⟩
 f8:=Tryz.func163.trans (congrArg some (by kernel_rfl))
 f9:=⟨Tryz.f206.name,by decide,Tryz.func206.trans (congrArg some (by kernel_rfl))⟩
 f19:=Tryz.func222.trans (congrArg some (by kernel_rfl))
 f20:=Tryz.func223.trans (congrArg some (by kernel_rfl))
 f21:=⟨Tryz.f244.name,by decide,Tryz.func244.trans (congrArg some (by kernel_rfl))⟩
 f22:=⟨Tryz.f245.name,by decide,Tryz.func245.trans (congrArg some (by kernel_rfl))⟩
 f23:=⟨Tryz.f246.name,by decide,Tryz.func246.trans (congrArg some (by kernel_rfl))⟩
 f24:=⟨Tryz.f247.name,by decide,Tryz.func247.trans (congrArg some (by kernel_rfl))⟩
 f25:=⟨Tryz.f248.name,by decide,Tryz.func248.trans (congrArg some (by kernel_rfl))⟩
 f26:=⟨Tryz.f249.name,by decide,Tryz.func249.trans (congrArg some (by kernel_rfl))⟩
 f27:=⟨Tryz.f250.name,by decide,Tryz.func250.trans (congrArg some (by kernel_rfl))⟩
 f28:=⟨Tryz.f251.name,by decide,Tryz.func251.trans (congrArg some (by kernel_rfl))⟩
 f29:=⟨Tryz.f252.name,by decide,Tryz.func252.trans (congrArg some (by kernel_rfl))⟩
 f31:=Tryz.func264.trans (congrArg some (by kernel_rfl))
 f32:=Tryz.func265.trans (congrArg some (by kernel_rfl))
 f36:=⟨Tryz.f283.name,by decide,Tryz.func283.trans (congrArg some (by kernel_rfl))⟩
 f37:=⟨Tryz.f284.name,by decide,Tryz.func284.trans (congrArg some (by kernel_rfl))⟩
 f38:=⟨Tryz.f285.name,by decide,Tryz.func285.trans (congrArg some (by kernel_rfl))⟩
 f39:=⟨Tryz.f164.name,by decide,Tryz.func164.trans (congrArg some (by kernel_rfl))⟩
 f41:=⟨Tryz.f302.name,by decide,Tryz.func302.trans (congrArg some (by kernel_rfl))⟩
 t0:=Tryz.underlying0
 a0:=Tryz.isAgg0
 z0:=Tryz.sizeOf0
 v0:=Tryz.zeroValue0
 t3:=Tryz.underlying3
 a3:=Tryz.isAgg3
 z3:=Tryz.sizeOf3
 v3:=Tryz.zeroValue3
 t4:=Tryz.underlying4
 a4:=Tryz.isAgg4
 z4:=Tryz.sizeOf4
 v4:=Tryz.zeroValue4
 t5:=Tryz.underlying5
 a5:=Tryz.isAgg5
 z5:=Tryz.sizeOf5
 v5:=Tryz.zeroValue5
 t9:=Tryz.underlying9
 a9:=Tryz.isAgg9
 z9:=Tryz.sizeOf9
 v9:=Tryz.zeroValue9
 t26:=Tryz.underlying146
 a26:=Tryz.isAgg146
 z26:=Tryz.sizeOf146
 v26:=Tryz.zeroValue146
 t27:=Tryz.underlying146
 a27:=Tryz.isAgg146
 z27:=Tryz.sizeOf146
 v27:=Tryz.zeroValue146
 t29:=Tryz.underlying9
 a29:=Tryz.isAgg9
 z29:=Tryz.sizeOf9
 v29:=Tryz.zeroValue9
 t32:=Tryz.underlying203
 a32:=Tryz.isAgg203
 z32:=Tryz.sizeOf203
 v32:=Tryz.zeroValue203
 t35:=Tryz.underlying246
 a35:=Tryz.isAgg246
 z35:=Tryz.sizeOf246
 v35:=Tryz.zeroValue246
 t36:=Tryz.underlying247
 a36:=Tryz.isAgg247
 z36:=Tryz.sizeOf247
 v36:=Tryz.zeroValue247
 t41:=Tryz.underlying251
 a41:=Tryz.isAgg251
 z41:=Tryz.sizeOf251
 v41:=Tryz.zeroValue251
 t44:=Tryz.underlying254
 a44:=Tryz.isAgg254
 z44:=Tryz.sizeOf254
 v44:=Tryz.zeroValue254
 t46:=Tryz.underlying225
 a46:=Tryz.isAgg225
 z46:=Tryz.sizeOf225
 v46:=Tryz.zeroValue225
 t53:=Tryz.underlying280
 a53:=Tryz.isAgg280
 z53:=Tryz.sizeOf280
 v53:=Tryz.zeroValue280
 t57:=Tryz.underlying284
 a57:=Tryz.isAgg284
 z57:=Tryz.sizeOf284
 v57:=Tryz.zeroValue284
 t63:=Tryz.underlying305
 a63:=Tryz.isAgg305
 z63:=Tryz.sizeOf305
 v63:=Tryz.zeroValue305
 t64:=Tryz.underlying306
 a64:=Tryz.isAgg306
 z64:=Tryz.sizeOf306
 v64:=Tryz.zeroValue306 }
theorem yd (m:Nat):AnyZ.SortsIn Tryz.prog Tryz.sortedZ_ren Fence.wide m:=
 ⟨λblk off cap ss W hH hblk hsz=>callsIn_wide.2 (AnyM.slices_Sort_string fH blk off cap ss W hH hblk hsz),
  λp cap W=>callsIn_wide.2 (AnyM.slices_Sort_string_none fH p cap W)⟩
theorem yc {H:Type}(Bm b nn:Nat)(D0:DataW H){R:Value->Option (DataW H×List MemPlace)}(w:World)(hBm:Bm<w.heap.size)
  (hm:w.cell? ⟨Bm,0,none⟩=some (.map (some b))) (hown:w.ownsMap Tryz.prog 9 R b nn D0) (hN:Maps.size D0<=10000):
  Calls Tryz.prog 107 #[.func (.func 157) #[] #[.pointer (some ⟨Bm,0,none⟩)]] w λe w'=>∃(v:Value) (ss:List (List UInt8)),e=.returned v/\ss.Perm (strKeys D0) /\
   w'.ownsRow w.heap.size 9 1 v ss.length ((ss.mergeSort (λx y=>decide (x<=y))).map encStr)/\Below w.heap.size w w':=
 (callsIn_wide.1 (AnyZ.sorted_in yb Fence.wide 6 trivial trivial trivial trivial rfl (by omega) (yd _) (enters_of Tryz.func156 (by kernel_rfl) rfl) 157 _ trivial (enters_of Tryz.func157 (by kernel_rfl) rfl) _ _ (Nat.le_trans hN (by decide)) (by omega) w
  (AnyZ.keys_gives yv Fence.wide _ trivial rfl (by omega) Bm b nn D0 w hBm hm hown))).mono λe w' ⟨v,ss,h1,h2,h3,_,h5⟩=>⟨v,ss,h1,h2,h3,h5⟩
end Go.Proofs
namespace Go.Ide
open Go.Proofs Go.RowKit Go.Sort
set_option maxRecDepth 20000
def Of (ks:List (List UInt8)):List (List UInt8):=ks.mergeSort λx y=>decide (x<=y)
theorem YZ (k:List UInt8)(hb:k.length<=maxLen):keyOf Tryz.prog 9 (encStr k)=some (.string k):=by
 simp[keyOf,mapKey,hb,ByteArray.size,encStr]
theorem gL {H:Type}{R:Value->Option (DataW H×List MemPlace)}{z:DataW H}(hR:∀v,R v=some (z,[]))(es:List MapEntry)(ks:List (List UInt8))(hk:es.map (·.key)=ks.map encStr)(hb:∀k∈ks,k.length<=maxLen):
  (strKeys (DataW.map ((es.map (WideElems.rg Tryz.prog 9 R)).foldr DataW.insert []))).Perm ks:=by
 show(((es.map (WideElems.rg Tryz.prog 9 R)).foldr DataW.insert []).map λp=>strOf p.1).Perm ks;refine((WideShapes.sorted_perm _).map _).trans ?_;rw[List.map_map]
 have:es.map ((λp:Lit×DataW H=>strOf p.1) ∘ WideElems.rg Tryz.prog 9 R)=ks:=by
  induction es generalizing ks with
  |nil=>
   cases ks with
   |nil=>rfl
   |cons a l=>simp at hk
  |cons e es ih=>
   cases ks with
   |nil=>simp at hk
   |cons k ks=>
    simp only[Ct,Et]at hk;rw[Ct,ih ks hk.2 λk h=>hb k (CQ _ h)]
    congr 1
    have h1:=YZ k (hb k CM);rw[<-hk.1]at h1;show strOf ((WideElems.rd Tryz.prog 9 R e).getD _).1=k;unfold WideElems.rd;rw[h1,hR];rfl
 rw[this]
theorem Fd (l:C7)(ks:List (List UInt8))(hks:l.map (·.1)=ks.map sb)(hl:l.length<=10000)(hb:∀k∈ks,k.length<=1000)(hnd:ks.Nodup)(kb g T:Nat)(H:Hp)(n:Nat):
  Ca C0 107 [.clo (.func 157) [] [.optr kb g 1 0 0]] (⟨kb,g,T,1,[mapD l]⟩::H) n
   (λd H' n'=>d=.sl false 1 ((Of ks).map λx=>str (sb x))/\H'=⟨kb,g,T,1,[mapD l]⟩::H/\n'=n+1):=by
 refine⟨by obtain⟨fn,a1,a2,a3,-⟩:=ZI;exact⟨fn,_,a1,a2,a3⟩,λF ρ w vs m fr gn hsz rep=>?_⟩;obtain⟨v0,rfl⟩:∃v0,vs = #[v0]:=by
  match vs,hsz with
  |⟨[a]⟩,_=>exact⟨a,rfl⟩
 have r0:AV ρ _ w (.clo _ [] [.optr kb g 1 0 0]) v0:=rep 0 _ rfl;cases r0 with
 |clo hf1 hc1 _ h2=>
  rename_i fs cs1 _;simp at hf1 hc1;subst hf1;obtain⟨c,rfl⟩:∃c,cs1 = #[c]:=by
   match cs1,hc1 with
   |⟨[a]⟩,_=>exact⟨a,rfl⟩
  have r1:AV ρ _ w (.optr kb g 1 0 0) c:=h2 0 _ rfl;cases r1 with
  |optr hr=>
   rename_i b;have hent:∃cs,w.heap[b]?=some (.cells cs T (0,0))/\DC ρ (AN F.X ρ (⟨kb,g,T,1,[mapD l]⟩::H)) w ⟨kb,g,T,1,[mapD l]⟩ cs:=by
    rcases m.hok.ent _ CM with⟨h,h2⟩|⟨b2,cs2,a1,a2,a3⟩
    ·exact Ah (hr.symm.trans h2) (by simp)
    ·cases hr.symm.trans a1;exact⟨cs2,a2,a3⟩
   obtain⟨cs,hcb,hok⟩:=hent;have hlt:b<w.heap.size:=m.lt CM hr;have hr0:=hok.rep 0 (mapD l) 0 (mapD l) rfl rfl;have h9:1<=cs.size:=by simpa using hok.len
   have hcs:0<cs.size:=h9;rw[Az,Bn (by simpa using hcs)]at hr0;simp only[Gr,DR,IV]at hr0;obtain⟨v,hv⟩:∃v,cs[0]=v:=⟨_,rfl⟩
   rw[hv]at hr0;unfold mapD at hr0;cases hr0 with
   |mp hO hrl hb3 h1 h2 hBo hk hvv=>
    rename_i r clock es;rw[Ac]at h1;have hkey:es.toList.map (·.key)=ks.map encStr:=by
     apply PP;intro i;rw[A0,A0];have hli:=congrArg (λq=>q[i]?) hks;simp only[A0]at hli;rcases BA i l.length with hi|hi
     ·have hd:=hk i (.prim (.string l[i].1)) (by rw[A0,BE hi];rfl)
      rw[BE hi]at hli;obtain⟨kk,hkk,hkk2⟩:=Option.map_eq_some_iff.1 hli.symm;have hi2:i<es.size:=by omega
      rw[Az,Bn hi2]at hd;rw[hkk,Iy,Bn hi2];simp only[I6,BL,IV]at hd⊢;generalize es[i].key=kv at hd;cases hd;have h8:sb kk=l[i].1:=hkk2;rw[<-h8]
     ·have h5:ks.length=l.length:=by have:=congrArg List.length hks;simpa using this.symm
      rw[Db (by simp;omega),Db (by omega)];rfl
    have hkn:(es.toList.map (·.key)).Nodup:=by
     rw[hkey];exact List.pairwise_map.2 (hnd.imp λh q=>h (encStr_inj q))
    have hbm:∀k∈ks,k.length<=maxLen:=λk h=>BU (hb k h) (by decide)
    let R:Value->Option (DataW Unit×List MemPlace):=λ_=>some (.nil,[])
    have hown:w.ownsMap Tryz.prog 9 R r es.size (.map ((es.toList.map (WideElems.rg Tryz.prog 9 R)).foldr DataW.insert [])):=by
     refine⟨es,clock,hb3,⟨BU (by omega:es.size<=10000) (by decide),⟨λx hx=>?_,hBo.nodup,hkn⟩,λx hx=>?_⟩,Ai _,rfl⟩
     ·obtain⟨j,hj⟩:=List.mem_iff_getElem?.1 hx
      exact hBo.1 j x (by simpa using hj)
     ·have:x.key∈es.toList.map (·.key):=List.mem_map_of_mem hx
      rw[hkey]at this;obtain⟨k,hk1,hk2⟩:=List.mem_map.1 this;have h1:=YZ k (hbm k hk1);rw[hk2]at h1;exact⟨_,by unfold WideElems.rd;rw[h1];rfl⟩
    have hsk:=gL (H:=Unit) (R:=R) (z:=.nil) (λ_=>rfl) es.toList ks hkey hbm;have hcell:w.cell? ⟨b,0,none⟩=some (.map (some r)):=by
     unfold World.cell?;simp only[hcb];rw[Bn hcs,hv];rfl
    have hsize:Maps.size (DataW.map ((es.toList.map (WideElems.rg Tryz.prog 9 R)).foldr DataW.insert []))<=10000:=by
     rw[Maps.size_eq,(WideShapes.sorted_perm _).length_eq,Ac,IR];omega
    refine(yc b r es.size _ w hlt hcell hown hsize).mono ?_;rintro e w' ⟨v,ss,rfl,hp,hrow,hbw⟩;have hss:ss.mergeSort (λx y=>decide (x<=y))=Of ks:=mergeSort_of_perm (hp.trans hsk);rw[hss]at hrow;have x:BT ρ (AN F.X ρ (⟨kb,g,T,1,[mapD l]⟩::H)) w ρ (AN F.X ρ (⟨kb,g,T,1,[mapD l]⟩::H)) w':=⟨hbw.size,λ_ _ _ h=>h,λb hb' hO=>⟨hO,hbw.block b hb'⟩,λb cs T fz hh=>⟨cs,_,by
     rw[hbw.block b (Array.getElem?_eq_some_iff.1 hh).1];exact hh,rfl⟩⟩
    refine⟨v,_,_,n+1,ρ,rfl,⟨rfl,rfl,rfl⟩,m.same x hbw.os hbw.tape hbw.output hbw.block,x,λa b h=>fr a b (by omega),λe he=>DE (gn e he),?_⟩;obtain⟨K,hK⟩:∃K,Of ks=K:=⟨_,rfl⟩
    rw[hK]at hrow⊢;obtain⟨hlen,⟨rfl,hz⟩|⟨gb,cap,cur,rfl,hbase,hgb,q1,q2,q3,q4⟩⟩:=hrow
    ·rw[hz,Ac]at hlen
     have:K=[]:=List.length_eq_zero_iff.1 (by omega)
     rw[this];exact .nil 1
    ·rw[Ac,D6]at hlen
     rw[D6]at q3 q4;have hat:∀j x,K[j]?=some x->cur[j]?=some (Value.string (sb x)):=λj x hx=>by
      have hj:j<K.length:=(List.getElem?_eq_some_iff.1 hx).1
      have:=congrArg (λq=>q[j]?) q4
      simp only[Ee,A0,hx,I6]at this;rw[AG (by omega)]at this;simpa using this
     have hall:∀j,j<ss.length*1->∃x,cur[j]?=some (Value.string (sb x)):=λj hj=>by
      have:j<K.length:=by omega
      exact⟨_,hat j _ (BE this)⟩
     refine .sl (λj=>cur.getD j undef) (by rw[Ac,hlen]) q1 ?_ (Array.getElem?_eq_some_iff.1 hgb).1 ?_ ?_ ?_ ?_
     ·rintro(h|⟨e,he,h⟩)
      ·have:=m.xlt _ h;have:=m.size;omega
      ·have:=m.lt he h;omega
     ·intro i e h
      rw[A0]at h;obtain⟨x,-,rfl⟩:=Option.map_eq_some_iff.1 h;rfl
     ·intro j hj
      obtain⟨x,hx⟩:=hall j hj;unfold World.cell?;simp only[hgb,BR];rw[hx,Az,hx];rfl
     ·intro j hj
      obtain⟨x,hx⟩:=hall j hj;rw[Az,hx];rfl
     ·intro i e j d h h2
      rw[A0]at h;obtain⟨x,hx,rfl⟩:=Option.map_eq_some_iff.1 h
      have:j=0:=by
       have:=(List.getElem?_eq_some_iff.1 h2).1
       exact Nat.lt_one_iff.1 this
      subst this;cases h2;show AV _ _ _ _ (cur.getD (i*1+0) undef);rw[D6,DR,Az,hat i x hx];exact .prim _
end Go.Ide
namespace Go.Ide
open Go.Proofs Go.RowKit Go.Sort
set_option maxRecDepth 20000
set_option maxHeartbeats 4000000
def qv (q:By)(j:Nat):List UInt8×Rat:=q.getD j ([],0)
theorem Us {q:By}{j:Nat}{p:List UInt8×Rat}(h:q[j]?=some p):qv q j=p:=by unfold qv;rw[Da,h];rfl
theorem MQ.len {B:Nat}:∀ {q:By} {m:C7},MQ B q m->q.length=m.length
 | [],[],_=>rfl
 |_::_,_::_,⟨_,h⟩=>by simp[MQ.len h]
theorem MQ.at_ {B:Nat}:∀ {q:By} {m:C7} (j:Nat) {e:ByteArray×D},MQ B q m->m[j]?=some e->∃(p:List UInt8×Rat) (y:GF),q[j]?=some p/\e=(sb p.1,y.D)/\FR p.2 y B
 | [],[],j,e,_,h=>by simp at h
 |p::q,e'::m,0,e,⟨⟨h1,y,h2,h3⟩,_⟩,h=>by
  simp at h;subst h;exact⟨p,y,rfl,by rw[<-h1,<-h2],h3⟩
 |_::q,_::m,j+1,e,⟨_,h4⟩,h=>by
  obtain⟨p,y,a,b,c⟩:=MQ.at_ j h4 (by simpa using h);exact⟨p,y,by simpa using a,b,c⟩
theorem Sc:∀(n:Nat) (l:List Nat),l.Nodup->(∀i∈l,i<n)->l.length<=n
 | 0,[],_,_=>Ai _
 | 0,a::l,_,h=>Ah (h a (by simp)) (Gp a)
 |n+1,l,hd,h=>by
  by_cases hn:n∈l
  ·have h1:=Sc n (l.erase n) (hd.erase n) λi hi=>by
    have h2:=h i (List.mem_of_mem_erase hi);have h3:i≠n:=(hd.mem_erase_iff.1 hi).1;omega
   rw[List.length_erase_of_mem hn]at h1;omega
  ·have h1:=Sc n l hd λi hi=>by
    have h2:=h i hi;have h3:i≠n:=λe=>hn (e ▸ hi)
    omega
   omega
def E8 (q:By):By:=q.mergeSort λa b=>!ltStr b.1 a.1
theorem Jx (q:By):(E8 q).Perm q:=List.mergeSort_perm _ _
theorem Qf (q:By):(E8 q).Pairwise λa b=>ltStr b.1 a.1=false:=by
 have:=List.pairwise_mergeSort (le:=λa b:List UInt8×Rat=>!ltStr b.1 a.1) (λa b c h1 h2=>by simp only[Bi]at*;exact swo_ltStr.ntrans _ _ _ h2 h1) (λa b=>by
  cases h1:ltStr b.1 a.1 with
  |false=>rfl
  |true=>
   cases h2:ltStr a.1 b.1 with
   |false=>rfl
   |true=>have:=swo_ltStr.trans _ _ _ h1 h2;rw[swo_ltStr.irrefl]at this;cases this) q
 exact this.imp λh=>by simpa using h
theorem xK {q:By}(hn:(q.map (·.1)).Nodup){a b:List UInt8×Rat}(ha:a∈q)(hb:b∈q)(h:a.1=b.1):a=b:=by
 obtain⟨i,hi,rfl⟩:=List.mem_iff_getElem.1 ha;obtain⟨j,hj,rfl⟩:=List.mem_iff_getElem.1 hb
 have:i=j:=(List.getElem_inj (h₀:=by simpa using hi) (h₁:=by simpa using hj) hn).1 (by simpa using h)
 subst this;rfl
theorem Wa {a b:List UInt8}(h1:ltStr a b=false)(h2:ltStr b a=false):a=b:=by
 simp only[ltStr,IN,List.not_lt]at h1 h2;exact List.le_antisymm h2 h1
theorem SL {q l l':By}(hn:(q.map (·.1)).Nodup)(hp:l.Perm q)(hp':l'.Perm q)(hs:l.Pairwise λa b=>ltStr b.1 a.1=false)(hs':l'.Pairwise λa b=>ltStr b.1 a.1=false):l=l':=
 List.Perm.eq_of_pairwise (le:=λa b:List UInt8×Rat=>ltStr b.1 a.1=false) (λ_ _ ha hb h1 h2=>xK hn (hp.mem_iff.1 ha) (hp'.mem_iff.1 hb) (Wa h2 h1)) hs hs' (hp.trans hp'.symm)
theorem uA (q:By)(dn:List Nat)(hd:dn.Nodup)(h1:∀i∈dn,i<q.length)(h2:∀i,i<q.length->i∈dn):(dn.map (qv q)).Perm q:=by
 have hp:dn.Perm (List.range q.length):=(List.perm_ext_iff_of_nodup hd List.nodup_range).2 λa=>by
  rw[List.mem_range];exact⟨h1 a,h2 a⟩
 have he:(List.range q.length).map (qv q)=q:=by
  apply List.ext_getElem (by simp);intro i h3 h4;rw[List.getElem_map,List.getElem_range];exact Us (BE h4)
 have:=hp.map (qv q)
 rwa [he]at this
def JU (q:By):By:=if q.any (λp=>Dm p.2)then[]else E8 q
def IC (q:By):Nat:=if q.any (λp=>Dm p.2)then 4 else 0
def JT (q:By):D:=.tup [.sl false 2 ((JU q).map Cm),i64 (IC q:Nat)]
instance d5f (q:By):AA (JT q):=by unfold JT;exact AI
theorem X8 (B:Nat)(hB9:B<100000)(q:By)(m:C7)(hm:MQ B q m)(hl:q.length<=10000)(hnd:(q.map (·.1)).Nodup):AJ C0 61 [mapD m] (JT q):=by
 refine Ag.walk w1 dA rfl λF0=>?_
 obtain⟨ks,hks⟩:∃ks:List D,m.map (λp=>(.prim (.string p.1):D))=ks:=⟨_,rfl⟩
 obtain⟨vs,hvs⟩:∃vs:List D,m.map (·.2)=vs:=⟨_,rfl⟩
 have hml:=hm.len;have hkl:ks.length=m.length:=by rw[<-hks,Ac]
 unfold mapD;rw[hks,hvs];refine sZ 0 ?_;refine AD kB ?_;refine sZ 100 ?_;refine AD kB ?_;refine AC.seq ?_;refine AC.seq ?_;refine Hk (by kernel_rfl) ?_;change Bd _ _ _ _ _ ([0]++(1::[])) _ _;refine FE w1 200 [0] _ ?_;refine AD kB ?_;refine yj 201 (Nq (w1.xt 102 _ rfl)).1 rfl rfl rfl rfl (VM F0) (λF1 o1 hto hO hI=>Bd.nil ?_);refine At ?_;refine AC.block ?_;refine GN (α:=List Nat×Obj×Nat×Nat) (λp=>⟨[(8,.optr 201 4 0 0 0),(4,Ds 706 p.2.2.1 2 (p.1.map λj=>Cm (qv q j)))],Dl 706 p.2.2.1 93 2 (p.1.map λj=>Cm (qv q j)),p.2.2.2⟩) (λp=>q.length-p.1.length)
  (λp F=>C5 C0 F0 F [⟨201,4,p.2.1⟩]/\Mq F p.2.1 ks vs p.1/\∀j∈p.1,Dm (qv q j).2=false) ([],o1,0,_) ⟨hO,hI,by simp⟩ AK ?_
 clear hO hI hto;rintro⟨dn,o,g7,n1⟩ F ⟨hO,hI,hB⟩;dsimp only at hO hI hB⊢;refine AC.seq ?_;refine Hk (by kernel_rfl) ?_;change Bd _ _ _ _ _ [0,1] _ _;refine yi rfl rfl rfl rfl hO hI (λhall=>?_) (λj kd vd F2 o2 hjn hkd hvd hto hO2 hI2=>?_)
 ·change Bd _ _ _ _ _ ([1]++[]) _ _
  refine FE w1 300 [1] [] ?_;refine AD kB ?_;refine Bd.nil ?_;refine At ?_;refine AC.seq ?_;refine AM ?_;refine B8 ?_;have hq2:∀j,j<q.length->j∈dn:=λj hj=>hall j (by rw[hkl,<-hml];exact hj)
  have hdn:dn.Nodup/\∀i∈dn,i<q.length:=by
   obtain⟨bm,es,clock,since,c0,seen,-,-,-,z4,-,-,-,-,-,-,-,-,z8,z9⟩:=hI;exact⟨z8,λi hi=>by have:=z9 i hi;omega⟩
  have hpm:=uA q dn hdn.1 hdn.2 hq2;have hpl:(dn.map (qv q)).length=q.length:=hpm.length_eq;have hbf:q.any (λp=>Dm p.2)=false:=by
   rw[List.any_eq_false];intro p hp;obtain⟨i,hpi⟩:=List.mem_iff_getElem?.1 hp;have hi:=(List.getElem?_eq_some_iff.1 hpi).1
   have:=hB i (hq2 i hi)
   rw[Us hpi]at this;rw[this];exact Bool.false_ne_true
  have hmm:(dn.map λj=>Cm (qv q j))=(dn.map (qv q)).map Cm:=by rw[List.map_map];rfl
  rw[hmm];generalize hLL:dn.map (qv q)=LL at hpm hpl⊢;have hrs:JT q=.tup [.sl false 2 ((E8 q).map Cm),i64 0]:=by unfold JT JU IC;rw[hbf];rfl
  clear hmm hI hO hB hall hq2 hdn;rcases LL with _|⟨z,LL⟩
  ·have hqn:q=[]:=List.length_eq_zero_iff.1 (by rw[<-hpl];rfl)
   subst hqn;rw[show Ds 706 g7 2 (List.map Cm [])=CP from rfl,show Dl 706 g7 93 2 (List.map Cm [])=[]from rfl];have cS:=kW;refine AH AW kB cS AB AB AB AB AB ?_;exact⟨_,Hy (.nil 2) (.refl _),AA.out,by rw[hrs,show E8 []=[]from List.mergeSort_nil];rfl⟩
  ·have cS:=λkb gg H n=>gJ (z::LL) (by simp) (by rw[hpl];omega) kb gg H n
   rw[Bp]at cS;rw[show Ds 706 g7 2 (List.map Cm (z::LL))=.osl 706 g7 2 0 ((LL.map Cm).length+1)from rfl,show Dl 706 g7 93 2 (List.map Cm (z::LL))=[⟨706,g7,93,2,(z::LL).map Cm⟩]from rfl,Ac];refine AH AW kB cS AB AB AB AB AB ?_;refine A9.own _ (cS 706 g7 [] _) ?_;rintro d H' n' ⟨rfl,rfl,l',hp',hs',rfl⟩;have hpq:l'.Perm q:=hp'.trans hpm;have hl':=SL hnd hpq (Jx q) hs' (Qf q);have hl0:l'≠[]:=λq=>by rw[q]at hp';have:=hp'.length_eq;simp at this
   have hll:LL.length+1=l'.length:=by rw[hp'.length_eq];rfl
   rw[hll];rw[<-hl']at hrs;clear hl' cS hp' hs' hpm hll;refine AH AW kB AB AB AB AB AB AB ?_;rw[hrs];refine⟨_,Hy (?_:Fz _ [] _ (.sl false 2 (l'.map Cm))) (.refl _),AA.out,rfl⟩;rcases l' with _|⟨z',t'⟩
   ·exact Ah rfl hl0
   ·have:=Qr 706 g7 93 2 ((z'::t').map Cm)
    rw[show Ds 706 g7 2 ((z'::t').map Cm)=.osl 706 g7 2 0 ((t'.map Cm).length+1)from rfl,show Dl 706 g7 93 2 ((z'::t').map Cm)=[⟨706,g7,93,2,(z'::t').map Cm⟩]from rfl,Ac]at this;exact this
 change Bd _ _ _ _ _ ([1]++[]) _ _;refine FE w1 300 [1] [] ?_;refine AD kB ?_;refine Bd.nil ?_;refine At ?_;refine AC.seq ?_;refine AM ?_;refine Am ?_;obtain⟨p,hp⟩:∃p,m[j]?=some p:=by
  rw[<-hks,A0]at hkd;obtain⟨p,hp,-⟩:=Option.map_eq_some_iff.1 hkd;exact⟨p,hp⟩
 obtain⟨pq,y,hq,rfl,hy⟩:=hm.at_ j hp;have hkd2:kd=str (sb pq.1):=by
  rw[<-hks,A0,hp]at hkd;exact(Fs hkd).symm
 have hvd2:vd=y.D:=by
  rw[<-hvs,A0,hp]at hvd;exact(Fs hvd).symm
 subst hkd2 hvd2;have hqv:=Us hq;refine AC.block ?_;refine AC.seq ?_;refine Hk (by kernel_rfl) ?_;change Bd _ _ _ _ _ (0::([1,2,3,4,5]++[])) _ _;refine yJ (xo:=⟨201,4,o2⟩) rfl rfl rfl rfl hO2 CM hI2 hkd hvd ?_;refine FE w1 400 [1,2,3,4,5] [] ?_;refine AD kB ?_;refine Bd.nil ?_;have cL:=Ya hy (by omega);have cT:=bF hy (by omega);obtain⟨bg,hbg⟩:∃b,Dm pq.2=b:=⟨_,rfl⟩
 rw[hbg]at cL;refine At ?_;have hdl:dn.length+1<=q.length:=by
  have h1:∀i∈dn++[j],i<q.length:=by
   obtain⟨bm,es,clock,since,c0,seen,-,-,-,z4,-,-,-,-,-,-,-,-,-,z9⟩:=hI2;intro i hi
   have:=z9 i hi
   omega
  have h2:(dn++[j]).Nodup:=by
   obtain⟨bm,es,clock,since,c0,seen,-,-,-,-,-,-,-,-,-,-,-,-,z8,-⟩:=hI2;exact z8
  have:=Sc _ _ h2 h1
  simpa using this
 have hsn:(dn++[j]).map (λj=>Cm (qv q j))=dn.map (λj=>Cm (qv q j))++[.agg [str (sb pq.1),str (sb (BN pq.2))]]:=by rw[Cs,Ct,List.map_nil,hqv];rfl
 have hTl:(dn.map λj=>Cm (qv q j)).length=dn.length:=Ac ..;obtain⟨TL,hTL⟩:∃TL,dn.map (λj=>Cm (qv q j))=TL:=⟨_,rfl⟩
 rw[hTL]at hsn hTl⊢;cases bg
 rotate_left
 ·have hrb:(D.tup [.sl false 2 [],i64 4])=JT q:=by
   have:q.any (λp=>Dm p.2)=true:=by
    rw[List.any_eq_true];exact⟨pq,Ax hq,hbg⟩
   unfold JT JU IC;rw[this];rfl
  rcases TL with _|⟨z,TL⟩
  ·dsimp only[If,Ig]
   refine AH AW kB cL AB AB AB AB AB ?_;exact⟨_,Hy (.nil 2) (.refl _),AA.out,hrb⟩
  ·dsimp only[HT,HQ]
   refine AH AW kB cL AB AB AB AB AB ?_;exact⟨_,Hy (.nil 2) (.refl _),AA.out,hrb⟩
 have hB2:∀i∈dn++[j],Dm (qv q i).2=false:=λi hi=>by
  rcases List.mem_append.1 hi with hi|hi
  ·exact hB i hi
  ·rw[List.mem_singleton]at hi;rw[hi,hqv];exact hbg
 rcases TL with _|⟨z,TL⟩
 ·dsimp only[If,Ig]
  refine AH AW kB cL cT AB AB AB AB ?_;exact⟨(dn++[j],o2,_,_),⟨hO2,hI2,hB2⟩,by dsimp only;rw[Bh,GS];omega,by(dsimp only;rw[hsn];exact AK)⟩
 ·dsimp only[HT,HQ]
  have htk:List.take (TL.length+1) (z::TL)=z::TL:=by simp
  rw[Bp]at hTl;refine AH AW htk cL cT AB AB AB AB ?_;exact⟨(dn++[j],o2,_,_),⟨hO2,hI2,hB2⟩,by dsimp only;rw[Bh,GS];omega,by(dsimp only;rw[hsn,Nr];exact AK)⟩
abbrev Cp (q:By):List (List UInt8):=q.map (·.1)
theorem Wz (lot:List UInt8)(r:Rat):∀q:By,Cp (GH lot r q)=if lot∈Cp q then Cp q else Cp q++[lot]
 | []=>by simp[GH,Cp]
 |p::l=>by
  unfold GH
  by_cases h:lot=p.1
  ·rw[AG h]
   subst h;simp[Cp]
  ·rw[AF h]
   show p.1::Cp (GH lot r l)=if lot∈p.1::Cp l then p.1::Cp l else p.1::Cp l++[lot]
   rw[Wz lot r l]
   by_cases h2:lot∈Cp l
   ·rw[AG h2,AG (CQ _ h2)]
   ·rw[AF h2,AF (by
     intro q;rcases BF.1 q with q|q
     ·exact h q
     ·exact h2 q)];rfl
structure G8 (P:List UInt8->Prop)(n:Nat)(q:By):Prop where
 nd:(Cp q).Nodup
 all:∀k∈Cp q,P k
 len:q.length<=n
theorem G8.set {P:List UInt8->Prop}{n:Nat}{q:By}(h:G8 P n q){lot:List UInt8}(hl:P lot)(r:Rat):G8 P (n+1) (GH lot r q):=by
 have hk:=Wz lot r q;have hlen:(GH lot r q).length=(Cp (GH lot r q)).length:=by simp[Cp]
 have hlen2:q.length=(Cp q).length:=by simp[Cp]
 by_cases hm:lot∈Cp q
 ·rw[AG hm]at hk
  exact⟨by rw[hk];exact h.nd,by rw[hk];exact h.all,by rw[hlen,hk,<-hlen2];have:=h.len;omega⟩
 ·rw[AF hm]at hk
  refine⟨?_,?_,?_⟩
  ·rw[hk,Ef]
   exact⟨h.nd,by simp,λa ha b hb=>by
    rw[List.mem_singleton]at hb;subst hb;exact λe=>hm (e ▸ ha)⟩
  ·rw[hk]
   intro k hk;rcases List.mem_append.1 hk with q|q
   ·exact h.all k q
   ·rw[List.mem_singleton]at q;rw[q];exact hl
  ·rw[hlen,hk,Bh,<-hlen2]
   have:=h.len
   simp;omega
theorem G8.mono {P:List UInt8->Prop}{n n':Nat}{q:By}(h:G8 P n q)(hn:n<=n'):G8 P n' q:=⟨h.nd,h.all,BU h.len hn⟩
theorem WY {P:List UInt8->Prop}{n:Nat}{q:By}(x:AE)(h:G8 P n q)(hp:∀s∈x.shs,P s.lot):∀j,j<=x.shs.length->G8 P (n+j) (GC x j q)
 | 0,_=>h
 |j+1,hj=>by
  obtain⟨s,hs⟩:∃s,x.shs[j]?=some s:=⟨_,BE hj⟩
  rw[Nd x j q hs];exact(WY x h hp j (by omega)).set (hp s (Ax hs)) _
theorem Vu {P:List UInt8->Prop}(l:List AE)(hp:∀x∈l,x.shs.length<=64/\∀s∈x.shs,P s.lot):∀i,i<=l.length->G8 P (64*i) (CF (l.take i))
 | 0,_=>⟨by simp[CF,Cp],by simp[CF,Cp],by simp[CF]⟩
 |i+1,hi=>by
  obtain⟨x,hx⟩:∃x,l[i]?=some x:=⟨_,BE hi⟩
  rw[Pm l i hx];have h1:=hp x (Ax hx);exact(WY x (Vu l hp i (by omega)) h1.2 _ (Ai _)).mono (by omega)
theorem SR {P:List UInt8->Prop}{l:List AE}(hp:∀x∈l,x.shs.length<=64/\∀s∈x.shs,P s.lot):G8 P (64*l.length) (CF l):=by
 have:=Vu l hp l.length (Ai _)
 rwa [Cf]at this
theorem MQ.keys {B:Nat}:∀ {q:By} {m:C7},MQ B q m->m.map (·.1)=(Cp q).map sb
 | [],[],_=>rfl
 |p::q,e::m,⟨⟨h1,_⟩,h4⟩=>by
  simp only[Ct,Cp];rw[h1]
  congr 1
  exact MQ.keys h4
theorem WX (s:ByteArray):∀m:C7,Hb s (m.map λp=>.prim (.string p.1)) (m.map (·.2))=some (Ho s m)
 | []=>rfl
 |p::l=>by
  simp only[Ct,Hb,Ho];cases BI s p.1 with
  |true=>rfl
  |false=>exact WX s l
theorem Sb:∀ {q:By} {p:List UInt8×Rat},(Cp q).Nodup->p∈q->Fk p.1 q=some p.2
 |a::q,p,hn,hp=>by
  unfold Fk;have hn:(a.1::Cp q).Nodup:=hn;rw[List.nodup_cons]at hn;rcases BF.1 hp with rfl|hp
  ·rw[AG rfl]
  ·rw[AF λe=>hn.1 (by rw[<-e];exact List.mem_map_of_mem hp)]
   exact Sb hn.2 hp
theorem io (q:By):Of (Cp q)=(E8 q).map (·.1):=by
 unfold Of;refine List.Perm.eq_of_pairwise (le:=λx y:List UInt8=>x<=y) (λ_ _ _ _ h1 h2=>List.le_antisymm h1 h2) ?_ ?_ ?_
 ·have:=List.pairwise_mergeSort (le:=λx y:List UInt8=>decide (x<=y)) (λa b c h1 h2=>by simp only[GP]at*;exact List.le_trans h1 h2) (λa b=>by
   rcases List.le_total a b with h|h<;>simp[h]) (Cp q)
  exact this.imp λh=>by simpa using h
 ·rw[List.pairwise_map]
  exact(Qf q).imp λh=>by simpa[ltStr]using h
 ·exact(List.mergeSort_perm _ _).trans ((Jx q).map _).symm
abbrev J7:Dr:=[(12,[0,1,2,3,4,5],[6])]
open Go.Proofs Go.RowKit
set_option maxRecDepth 20000
set_option maxHeartbeats 4000000
def CT (l:List AE):Bool:=l.all λx=>BI (sb x.grain) (sb (CK l 0).grain)
def HC (l:List AE):Nat:=if l.length=0 then 2 else if 64<l.length then 5 else if Df (λi=>Cj (CK l i)) l.length≠0 then Df (λi=>Cj (CK l i)) l.length else if CT l=false then 16 else if Aq l>999999999 then 4 else 0
def Rb (l:List AE):Int:=if HC l=0 then Aq l else 0
theorem jS (b:Bool)(v:List AE)(hl:v.length<=1000000)(hf:∀x∈v,x.few):AJ C0 146 [.clo (.func 85) [] [],Al b v] (i64 (Df (λi=>Cj (CK v i)) v.length:Nat)):=by
 refine Ag.walk w1 ZZ rfl λF=>?_
 have el:(((v.map AE.D).length:Nat):Int)=(v.length:Int):=by rw[Ac]
 refine AH AW el AB AB AB AB AB AB ?_;refine AC.loop (α:=Nat×Nat) (λp=>⟨[(0,.clo (.func 85) [] []),(8,Al b v),(9,i64 (v.length:Int)),(10,i64 (p.1:Int))],[],p.2⟩) (λp=>v.length-p.1)
  (λp=>p.1<=v.length/\∀j,j<p.1->Cj (CK v j)=0) (0,_) ⟨BS _,λj h=>Ah h (Gp j)⟩ AK ?_
 rintro⟨i,m⟩ F ⟨hi,hz⟩;dsimp only at hi hz⊢;rcases BA i v.length with h2|h2
 ·have e1:=Ch h2
  have wi:=CZ (i:=i) (by omega);obtain⟨x,hx⟩:=CL h2;have hm:(v.map AE.D)[i]?=some (.agg [str (sb x.grain),i64 x.mass,.sl false 2 (x.shs.map Au.D)]):=by rw[A0,hx];rfl
  have cL:=eI x (hf x (Ax hx));unfold AE.D at cL;rcases Nat.decEq (Cj x) 0 with hc0|hc0
  ·have e3:=GE hc0
   have hE:=OI (f:=λi=>Cj (CK v i)) hz h2 (by rw[FO hx];exact hc0);rw[FO hx]at hE;rw[hE];refine AH AW (As e1 e3 kN) hm cL AB AB AB AB ?_;exact AL rfl AA.out
  ·have e3:=GG hc0
   refine AH AW (BV e1 e3 wi kN) hm cL AB AB AB AB ?_;exact⟨(i+1,_),⟨h2,λj hj=>by
    rcases Nat.lt_succ_iff_lt_or_eq.1 hj with q|q
    ·exact hz j q
    ·rw[q,FO hx];exact hc0⟩,by dsimp only;omega,AK⟩
 ·have e1:=Cg h2
  have:i=v.length:=by omega
  subst this;rw[MC (f:=λi=>Cj (CK v i)) hz];refine AH AW e1 AB AB AB AB AB AB ?_;exact AL rfl AA.out
theorem nk (b:Bool)(l:List AE)(hl:l.length<=1000000)(hf:∀x∈l,x.few):AJ C0 102 [Al b l] (.tup [i64 (Rb l),i64 (HC l:Nat)]):=by
 refine Ag.walk w1 Zz rfl λF=>?_
 have el:(((l.map AE.D).length:Nat):Int)=(l.length:Int):=by rw[Ac]
 have hC:HC l=if l.length=0 then 2 else if 64<l.length then 5 else if Df (λi=>Cj (CK l i)) l.length≠0 then Df (λi=>Cj (CK l i)) l.length else if CT l=false then 16 else if Aq l>999999999 then 4 else 0:=rfl
 have hM:Rb l=if HC l=0 then Aq l else 0:=rfl
 have cA:=jS b l hl hf
 by_cases h0:l.length=0
 ·rw[AG h0]at hC
  rw[hC]at hM;rw[hM,hC];have q1:((l.length:Int)==0)=true:=by rw[h0];rfl
  refine AH J7 (Ae el q1) AB AB AB AB AB AB ?_;exact AL rfl AA.out
 rw[AF h0]at hC;have q1:((l.length:Int)==0)=false:=by
  rw[Bu];omega
 by_cases h64:64<l.length
 ·rw[AG h64]at hC
  rw[hC]at hM;rw[hM,hC];have q2:decide ((l.length:Int)>64)=true:=AX (by omega);refine AH J7 (As el q1 q2) AB AB AB AB AB AB ?_;exact AL rfl AA.out
 rw[AF h64]at hC;have q2:decide ((l.length:Int)>64)=false:=Ad (by omega);obtain⟨K,hK⟩:∃K,Df (λi=>Cj (CK l i)) l.length=K:=⟨_,rfl⟩
 rw[hK]at hC cA;rcases Nat.decEq K 0 with hc0|hc0
 ·have e3:=GE hc0
  rw[AG hc0]at hC;rw[hC]at hM;rw[AF hc0]at hM;rw[hM,hC];refine AH J7 (BV el q1 q2 e3) cA AB AB AB AB AB ?_;exact AL rfl AA.out
 have e3:=GG hc0;rw[AF (λh=>h hc0)]at hC;have hz:∀j,j<l.length->Cj (CK l j)=0:=QD (hK.trans hc0);have hsm:=Sd h64 hz;obtain⟨x0,hx0⟩:∃x,l[0]?=some x:=⟨_,BE (by omega)⟩
 have hm0:(l.map AE.D)[0]?=some (.agg [str (sb x0.grain),i64 x0.mass,.sl false 2 (x0.shs.map Au.D)]):=by rw[A0,hx0];rfl
 have hv0:=FO hx0;refine AH J7 (BV el q1 q2 e3) cA AB AB AB AB AB ?_;refine AC.loop (α:=Nat×Nat) (λp=>⟨[(0,Al b l),(5,i64 (Aq (l.take p.1))),(19,Al b l),(20,i64 (l.length:Int)),(21,i64 (p.1:Int))],[],p.2⟩) (λp=>l.length-p.1)
  (λp=>p.1<=l.length/\∀x∈l.take p.1,BI (sb x.grain) (sb x0.grain)=true) (0,_) ⟨BS _,λx h=>by simp at h⟩ AK ?_
 rintro⟨i,m⟩ F ⟨hi,hs⟩;dsimp only at hi hs⊢;rcases BA i l.length with h2|h2
 rotate_left
 ·have e1:=Cg h2
  have:i=l.length:=by omega
  subst this;rw[Cf]at hs⊢;have hg:CT l=true:=by
   unfold CT;rw[CS,hv0];exact hs
  rw[AF (by rw[hg];decide)]at hC
  by_cases h9:Aq l>999999999
  ·have e9:decide (Aq l>999999999)=true:=AX h9
   rw[AG h9]at hC;rw[hC]at hM;rw[hM,hC];refine AH J7 (Ae e1 e9) AB AB AB AB AB AB ?_;exact AL rfl AA.out
  ·have e9:decide (Aq l>999999999)=false:=Ad h9
   rw[AF h9]at hC;rw[hC]at hM;rw[hM,hC];refine AH J7 (Ae e1 e9) AB AB AB AB AB AB ?_;exact AL rfl AA.out
 have e1:=Ch h2;have wi:=CZ (i:=i) (by omega);obtain⟨x,hx⟩:=CL h2;have hm:(l.map AE.D)[i]?=some (.agg [str (sb x.grain),i64 x.mass,.sl false 2 (x.shs.map Au.D)]):=by rw[A0,hx];rfl
 have hsum:=Sx hx;have hs1:=Tt (l:=l.take i) λy hy=>hsm.2 y (Gm hy)
 have hs2:=hsm.2 x (Ax hx);rw[Bb]at hs1;have ws:IntKind.i64.wrap (Aq (l.take i)+x.mass)=Aq (l.take i)+x.mass:=wI (by omega) (by omega);obtain⟨bG,hbG⟩:∃q,BI (sb x.grain) (sb x0.grain)=q:=⟨_,rfl⟩
 cases bG
 ·have hg:CT l=false:=by
   unfold CT;rw[List.all_eq_false];exact⟨x,Ax hx,by rw[hv0,hbG];decide⟩
  rw[AG hg]at hC;rw[hC]at hM;rw[hM,hC];refine AH J7 (As e1 hbG kN) hm hm0 AB AB AB AB ?_;exact AL rfl AA.out
 ·refine AH J7 (CE e1 hbG wi ws kN) hm hm0 AB AB AB AB ?_
  exact⟨(i+1,_),⟨h2,λy hy=>by
   rw[DW,hx]at hy;rcases List.mem_append.1 hy with q|q
   ·exact hs y q
   ·have:y=x:=by simpa using q
    rw[this];exact hbG⟩,by dsimp only;omega,by(dsimp only;rw[hsum];exact AK)⟩
abbrev EX:Dr:=[(11,[0,1,2,3,4,5,6,7],[8]),(24,[0,1,2,3,4,5,6,7,8,9,10],[11])]
open Go.Proofs Go.RowKit Go.Sort
set_option maxRecDepth 20000
set_option maxHeartbeats 4000000
def Gh (l:List AE):Nat:=if HC l≠0 then HC l else if 64<(CF l).length then 5 else if(E8 (CF l)).any (λp=>Dm (p.2/(Aq l:Rat)))then 4 else 0
def Ec (l:List AE):List Au:=(E8 (CF l)).map λp=>⟨p.1,BN (p.2/(Aq l:Rat))⟩
def Ki (l:List AE):AE:=if Gh l≠0 then⟨[],0,[]⟩else⟨(CK l 0).grain,Aq l,Ec l⟩
def AE.lite (x:AE):Prop:=x.few/\∀s∈x.shs,s.lot.length<=1000/\s.part.length<=40
theorem Wn {l:List Au}(h:HW l=0):0<l.length/\l.length<=64/\∀s∈l,DZ s.lot=true/\CW s.part=0/\0<Gf (CN s.part):=by
 unfold HW at h;split at h
 ·cases h
 ·split at h
  ·cases h
  ·split at h
   ·rename_i h3;exact Ah h h3
   ·rename_i h1 h2 h3
    refine⟨by omega,by omega,λs hs=>?_⟩;obtain⟨j,hj⟩:=List.mem_iff_getElem?.1 hs;have hE:=QD (f:=FJ l) (n:=l.length) (by omega) j (List.getElem?_eq_some_iff.1 hj).1;unfold FJ at hE;rw[JO hj]at hE;split at hE
    ·cases hE
    ·split at hE
     ·cases hE
     ·split at hE
      ·rename_i h6;exact Ah hE h6
      ·split at hE
       ·cases hE
       ·rename_i h4 h5 h6 h7
        exact⟨by simpa using h4,by omega,by omega⟩
theorem bS {x:AE}(hl:x.lite)(h:Cj x=0):x.ok/\∀s∈x.shs,DZ s.lot=true:=by
 obtain⟨h1,h2,h3,h4⟩:=Nz h;obtain⟨g1,g2,g3⟩:=Wn h4;exact⟨⟨g2,by unfold Sm;omega,λs hs=>⟨BU (hl.2 s hs).1 (by omega),(hl.2 s hs).2,(g3 s hs).2.1⟩⟩,λs hs=>(g3 s hs).1⟩
theorem Yu {l:List AE}(h:HC l=0):0<l.length/\l.length<=64/\(∀x∈l,Cj x=0)/\CT l=true/\Aq l<=999999999:=by
 unfold HC at h;split at h
 ·cases h
 ·split at h
  ·cases h
  ·split at h
   ·rename_i h3;exact Ah h h3
   ·split at h
    ·cases h
    ·split at h
     ·cases h
     ·rename_i h1 h2 h3 h4 h5
      refine⟨by omega,by omega,λx hx=>?_,by simpa using h4,by omega⟩;obtain⟨j,hj⟩:=List.mem_iff_getElem?.1 hx
      have:=QD (f:=λi=>Cj (CK l i)) (n:=l.length) (by omega) j (List.getElem?_eq_some_iff.1 hj).1
      rwa [FO hj]at this
theorem Xr:∀ {l:List AE},(∀x∈l,Cj x=0)->(l.length:Int)<=Aq l
 | [],_=>by simp[Aq]
 |x::l,h=>by
  have h1:=(Nz (h x CM)).2.1;have h2:=Xr (l:=l) λy hy=>h y (CQ _ hy)
  unfold Aq at h2⊢;simp only[Ct,List.sum_cons,Bp];omega
theorem OJ (H:Hp)(e:Int):Fz H [] (.tup [.agg [str ⟨#[]⟩,i64 0,CP],i64 e]) (.tup [(⟨[],0,[]⟩:AE).D,i64 e]):=
 Hy (.agg rfl λi d d' h h'=>by
  match i with
  | 0=>cases h;cases h';exact .refl _
  | 1=>cases h;cases h';exact .refl _
  | 2=>cases h;cases h';exact .nil 2
  |n+3=>cases h) (.refl _)
theorem aS {H:Hp}{gr m sD e:D}{L:List D}(h:Fz H [] sD (.sl false 2 L)):Fz H [] (.tup [.agg [gr,m,sD],e]) (.tup [.agg [gr,m,.sl false 2 L],e]):=
 Hy (.agg rfl λi d d' h1 h2=>by
  match i with
  | 0=>cases h1;cases h2;exact .refl _
  | 1=>cases h1;cases h2;exact .refl _
  | 2=>cases h1;cases h2;exact h
  |n+3=>cases h1) (.refl _)
theorem mz {H:Hp}{k g T sz:Nat}{z:D}{l:List D}(he:Hp.get H k=some ⟨k,g,T,sz,z::l⟩):Fz H [] (.osl k g sz 0 (l.length+1)) (.sl false sz (z::l)):=by
 refine .osl (e:=⟨k,g,T,sz,z::l⟩) he rfl rfl rfl (by simp) (by simp) (λj d d' h1 h2=>?_) λj d d' q c c' h1 h2 h3 h4=>?_
 ·rw[BR]at h1;rw[h1]at h2;cases h2;rfl
 ·rw[BR]at h1;rw[h1]at h2;cases h2;rw[h3]at h4;cases h4;exact Fz.refl _
theorem mL (l:C7)(H:Hp)(n:Nat):Ca C0 108 [mapD l] H n (λd H' n'=>∃g,d=.clo (.func 157) [] [.optr 77000 g 1 0 0]/\H'=⟨77000,g,102,1,[mapD l]⟩::H/\n'=n+4):=by
 refine Ca.walk w1 ZJ rfl λF0=>?_
 obtain⟨M,hM⟩:∃M,mapD l=M:=⟨_,rfl⟩
 have hc:∃ks vs,M=.mp ks vs:=⟨_,_,hM.symm⟩
 obtain⟨ks,vs,hc⟩:=hc;subst hc;rw[hM];refine AC.seq ?_;refine An w1 77000 (by kernel_rfl) ?_;refine AD kB ?_;refine At ?_;refine AH AW kB AB AB AB AB AB AB ?_;exact⟨_,rfl,rfl,trivial⟩
theorem uU {r:Rat}{x:GF}{k:Nat}(h:FR r x k)(hk:k<100000):AJ C0 109 [x.D] (.tup [str (sb (Uo r)),i64 (Un r:Nat)]):=by
 refine Ag.walk w1 ZK rfl λF=>?_
 have c1:=Ya h hk;have c2:=bF h hk;unfold Uo Un;obtain⟨b,hb⟩:∃b,Dm r=b:=⟨_,rfl⟩
 rw[hb]at c1⊢;cases b
 all_goals
  refine AH AW kB c1 c2 AB AB AB AB ?_;exact AL rfl AA.out
theorem yM (b:Bool)(l:List AE)(hl:l.length<=1000000)(hf:∀x∈l,x.lite):AJ C0 58 [Al b l] (.tup [(Ki l).D,i64 (Gh l:Nat)]):=by
 refine Ag.walk w1 cr rfl λF0=>?_
 have el:(((l.map AE.D).length:Nat):Int)=(l.length:Int):=by rw[Ac]
 have cM:=nk b l hl λx hx=>(hf x hx).1
 have hN:Gh l=if HC l≠0 then HC l else if 64<(CF l).length then 5 else if(E8 (CF l)).any (λp=>Dm (p.2/(Aq l:Rat)))then 4 else 0:=rfl
 have hL:Ki l=if Gh l≠0 then⟨[],0,[]⟩else⟨(CK l 0).grain,Aq l,Ec l⟩:=rfl
 rcases Nat.decEq (HC l) 0 with g|g
 ·have e1:=GE g
  rw[AG g]at hN;rw[hN,AG g]at hL;rw[hL,hN];refine AH EX e1 cM AB AB AB AB AB ?_;exact⟨_,OJ _ _,AA.out,rfl⟩
 have e1:=GG g;rw[AF (λh=>h g)]at hN;have hmm:Rb l=Aq l:=by unfold Rb;rw[AG g]
 obtain⟨g1,g2,g3,g4,g5⟩:=Yu g;have hx:∀x∈l,x.ok:=λx h=>(bS (hf x h) (g3 x h)).1
 have g6:=Xr g3;rw[hmm]at cM;refine sZ 0 ?_;refine AD kB ?_;refine sZ 100 ?_;refine AD kB ?_;refine cI cM ?_;refine AD kB ?_;refine AC.seq ?_;refine sZ 200 ?_;refine AD e1 ?_;refine AM ?_;refine Am ?_;refine AC.seq ?_;refine Hk (by kernel_rfl) ?_;change Bd _ _ _ _ _ [0,1] _ _;refine Bd.makeMap 400 rfl rfl rfl (VM F0) (λF1 it hto hO hr0 hnX hM=>?_);change Bd _ _ _ _ _ ([1]++[]) _ _;refine FE w1 400 [1] [] ?_;refine AD kB ?_;refine Bd.nil ?_;refine AH EX el AB AB AB AB AB AB ?_;refine GN (α:=Nat×C7×Obj×Nat) (λp=>⟨[(0,Al b l),(2,.optr 0 0 3 0 0),(4,i64 (Aq l)),(6,.prim (.map (some it))),(29,Al b l),(30,i64 (l.length:Int)),(31,i64 (p.1:Int))],[⟨0,0,27,3,[.agg [.prim (.string ⟨#[]⟩),.prim (.int .i64 0),.prim (.slice none 0 0)]]⟩],p.2.2.2⟩) (λp=>l.length-p.1)
  (λp F=>p.1<=l.length/\C5 C0 F0 F [⟨400,11,p.2.2.1⟩]/\F.r0 400 11=some it/\HY F p.2.2.1 p.2.1/\MQ (320*p.1) (CF (l.take p.1)) p.2.1) (0,[],.map #[] 0,_) ⟨BS _,hO,hr0,hM,trivial⟩ AK ?_
 clear hO hr0 hM hto;rintro⟨i,m,o,n1⟩ F ⟨hi,hO,hr0,hM,hQ⟩;dsimp only at hi hO hr0 hM hQ⊢;rcases BA i l.length with h2|h2
 rotate_left
 ·have e1:=Cg h2
  have:i=l.length:=by omega
  subst this;rw[Cf]at hQ;refine sZ 600 ?_;refine AD e1 ?_;refine AC.seq ?_;refine AM ?_;refine B8 ?_;refine fQ [(0,Al b l),(2,.optr 0 0 3 0 0),(4,i64 (Aq l)),(6,mapD m)] hO hr0 hnX hM ⟨.inl rfl,.inl rfl,.inl rfl,.inr ⟨rfl,rfl⟩,trivial⟩ (λF2 hto2 hO2=>?_);have hKO:G8 (λk=>k.length<=1000) (64*l.length) (CF l):=SR λx h=>⟨(hx x h).1,λs hs=>((hf x h).2 s hs).1⟩
  have hQ2:MQ 32000 (CF l) m:=hQ.mono (by omega);clear hQ hO hM hto2 hO2;obtain⟨q,hq⟩:∃q,CF l=q:=⟨_,rfl⟩
  have hSS:Ec l=(E8 q).map λp=>⟨p.1,BN (p.2/(Aq l:Rat))⟩:=by rw[<-hq];rfl
  rw[hq]at hKO hQ2 hN;have hml:=hQ2.len;obtain⟨ks,hks⟩:∃ks:List D,m.map (λp=>(.prim (.string p.1):D))=ks:=⟨_,rfl⟩
  obtain⟨vs,hvs⟩:∃vs:List D,m.map (·.2)=vs:=⟨_,rfl⟩
  have hkl:ks.length=q.length:=by rw[<-hks,Ac,hml]
  unfold mapD;rw[hks,hvs];refine AC.seq ?_;refine AC.seq ?_;refine Hk (by kernel_rfl) ?_;change Bd _ _ _ _ _ ([0]++(1::([2]++[]))) _ _;refine FE w1 1800 [0] _ ?_;refine AD kB ?_;refine yK (Nq (w1.xt 102 _ rfl)).1 rfl rfl rfl rfl ?_;refine FE w1 1800 [2] _ ?_;refine AD kB ?_;refine Bd.nil ?_;rw[hkl]
  by_cases h64:64<q.length
  ·rw[AG h64]at hN
   rw[hN,AG (by omega)]at hL;rw[hL,hN];have q2:decide ((q.length:Int)>64)=true:=AX (by omega);refine AH EX q2 AB AB AB AB AB AB ?_;exact⟨_,OJ _ _,AA.out,rfl⟩
  have q2:decide ((q.length:Int)>64)=false:=Ad (by omega);rw[AF h64]at hN;rw[q2];have hmd:mapD m=.mp ks vs:=by unfold mapD;rw[hks,hvs]
  have cK:=mL m;have cS:=Fd m (Cp q) hQ2.keys (by omega) hKO.all hKO.nd;rw[hmd]at cK cS;obtain⟨x0,hx0⟩:∃x,l[0]?=some x:=⟨_,BE (by omega)⟩
  have hm0:(l.map AE.D)[0]?=some (.agg [str (sb x0.grain),i64 x0.mass,.sl false 2 (x0.shs.map Au.D)]):=by rw[A0,hx0];rfl
  refine AH EX kB hm0 AB AB AB AB AB ?_;refine A9.own _ (cK _ _) ?_;rintro d H' n' ⟨gk,rfl,rfl,rfl⟩;refine AH EX kB AB AB AB AB AB AB ?_;refine A9.own _ (cS _ _ _ _ _) ?_;rintro d H' n' ⟨rfl,rfl,rfl⟩;refine AH EX kB AB AB AB AB AB AB ?_;have hkey:=io q;have hsl:(E8 q).length=q.length:=(Jx q).length_eq;have hsm:∀p∈E8 q,p∈q:=λp h=>(Jx q).mem_iff.1 h
  rw[hkey];obtain⟨Q,hQ⟩:∃Q,E8 q=Q:=⟨_,rfl⟩
  rw[hQ]at hN hSS hsl hsm⊢;have hMs:Sm (Aq l):=by unfold Sm;omega
  have hM0:((Aq l:Int):Rat)≠0:=λh=>by
   have:=Rat.intCast_inj.1 (h.trans (Rat.intCast_zero).symm)
   omega
  have fM:FR ((Aq l:Int):Rat) ⟨AY (Aq l),1⟩ 1:=QW (by unfold Sm at hMs;omega);have cF:=Ox (Aq l) hMs;obtain⟨kl,hkl2⟩:∃kl:List D,(List.map (λx=>str (sb x)) (Q.map (·.1)))=kl:=⟨_,rfl⟩
  have hkll:kl.length=Q.length:=by rw[<-hkl2];simp
  rw[hkl2];obtain⟨M,hMM⟩:∃M,Aq l=M:=⟨_,rfl⟩
  have hgr:(CK l 0).grain=x0.grain:=by rw[FO hx0]
  clear hmd cK cS hm0;rw[hMM]at hN hL hSS hMs hM0 fM cF;rw[hMM,hkll];obtain⟨g14,hg14⟩:∃g,n1+1+1+1+1+1+1+1+1+1+1=g:=⟨_,rfl⟩
  rw[hg14];refine AC.loop (α:=Nat×Nat×Nat) (λp=>⟨[(2,.optr 0 0 3 0 0),(4,i64 M),(6,.mp ks vs),(14,.optr 2006 g14 3 0 0),(78,.sl false 1 kl),(79,i64 (Q.length:Nat)),(80,i64 (p.1:Int))],
    Dl 2706 p.2.1 82 2 ((Q.take p.1).map λz=>(⟨z.1,BN (z.2/(M:Rat))⟩:Au).D)++[⟨2006,g14,27,3,[.agg [str (sb x0.grain),i64 M,Ds 2706 p.2.1 2 ((Q.take p.1).map λz=>(⟨z.1,BN (z.2/(M:Rat))⟩:Au).D)]]⟩,⟨0,0,27,3,[.agg [.prim (.string ⟨#[]⟩),.prim (.int .i64 0),.prim (.slice none 0 0)]]⟩],p.2.2⟩) (λp=>Q.length-p.1)
   (λp=>p.1<=Q.length/\∀z∈Q.take p.1,Dm (z.2/(M:Rat))=false) (0,0,_) ⟨BS _,λz h=>by simp at h⟩ AK ?_
  clear n1 hg14;rintro⟨i,g,n1⟩ F ⟨hi,hB⟩;dsimp only at hi hB⊢;have hTl:((Q.take i).map λz=>(⟨z.1,BN (z.2/(M:Rat))⟩:Au).D).length=i:=by rw[Ac,Bb];omega
  obtain⟨TL,hTL⟩:∃TL,((Q.take i).map λz=>(⟨z.1,BN (z.2/(M:Rat))⟩:Au).D)=TL:=⟨_,rfl⟩
  rcases BA i Q.length with h2|h2
  rotate_left
  ·have e1:=Cg h2
   have:i=Q.length:=by omega
   subst this;rw[Cf]at hB hTL⊢;have hany:Q.any (λp=>Dm (p.2/(M:Rat)))=false:=by
    rw[List.any_eq_false];intro p hp;rw[hB p hp];decide
   rw[AF (by rw[hany];decide)]at hN;rw[AF (by omega)]at hL;rw[hL,hN,hgr];have hres:((⟨x0.grain,M,Ec l⟩:AE).D)=.agg [str (sb x0.grain),i64 M,.sl false 2 TL]:=by
    unfold AE.D Cb;rw[<-hTL,hSS,List.map_map];rfl
   have pR:B5 (.tup [(⟨x0.grain,M,Ec l⟩:AE).D,i64 ((0:Nat):Int)]):=AA.out;rw[hres]at pR;rw[hres,hTL];rcases TL with _|⟨z,TL⟩
   ·dsimp only[If,Ig,List.nil_append]
    refine AH EX e1 AB AB AB AB AB AB ?_;exact⟨_,aS (.nil 2),pR,rfl⟩
   ·dsimp only[HT,HQ,List.cons_append,List.nil_append]
    refine AH EX e1 AB AB AB AB AB AB ?_;exact⟨_,aS (mz rfl),pR,rfl⟩
  have e1:=Ch h2;have wi:=CZ (i:=i) (by omega);obtain⟨p,hp⟩:=CL h2;have hmk:kl[i]?=some (str (sb p.1)):=by rw[<-hkl2,A0,A0,hp];rfl
  have hlq:=Sb hKO.nd (hsm p (Ax hp));rcases hQ2.look p.1 with⟨q1,q3⟩|⟨r,y,q1,q3,q4⟩
  ·rw[hlq]at q3;cases q3
  rw[hlq]at q3;cases q3;have hLk:Hb (sb p.1) ks vs=some (some y.D):=by rw[<-hks,<-hvs,WX,q1]
  have cDv:=pk q4 fM hM0 (by omega);have fD:=nh q4 fM hM0;obtain⟨z,hz⟩:∃z,RW y ⟨AY M,1⟩=z:=⟨_,rfl⟩
  rw[hz]at cDv fD;have cG:=uU fD (by omega);obtain⟨dM,hdM⟩:∃d,(⟨AY M,1⟩:GF).D=d:=⟨_,rfl⟩
  have pdM:AA dM:=by rw[<-hdM];exact AI
  obtain⟨dy,hdy⟩:∃d,y.D=d:=⟨_,rfl⟩
  have pdy:AA dy:=by rw[<-hdy];exact AI
  obtain⟨dz,hdz⟩:∃d,z.D=d:=⟨_,rfl⟩
  have pdz:AA dz:=by rw[<-hdz];exact AI
  rw[hdy]at hLk cDv;rw[hdM]at cF cDv;rw[hdz]at cDv cG;unfold Uo Un at cG;obtain⟨bg,hbg⟩:∃q,Dm (p.2/(M:Rat))=q:=⟨_,rfl⟩
  rw[hbg]at cG;have hsn:((Q.take (i+1)).map λz=>(⟨z.1,BN (z.2/(M:Rat))⟩:Au).D)=TL++[.agg [str (sb p.1),str (sb (BN (p.2/(M:Rat))))]]:=by
   rw[DW,hp,Cs,hTL];rfl
  rw[hTL]at hTl⊢;have n4:((((4:Nat):Int)) != 0)=true:=rfl;have n0:((((0:Nat):Int)) != 0)=false:=rfl;cases bg
  rotate_left
  ·rw[AG rfl,AG rfl]at cG
   have hany:Q.any (λp=>Dm (p.2/(M:Rat)))=true:=by
    rw[List.any_eq_true];exact⟨p,Ax hp,hbg⟩
   rw[AG hany]at hN;rw[AG (by omega)]at hL;rw[hL,hN];rcases TL with _|⟨z9,TL⟩
   ·dsimp only[If,Ig,List.nil_append]
    refine AH EX (Ae e1 kN) hmk AB AB AB AB AB ?_;refine Py (d':=dy) rfl rfl rfl rfl rfl rfl hLk rfl ?_;refine At ?_;refine AH EX n4 cF cDv cG AB AB AB ?_;exact⟨_,OJ _ _,AA.out,rfl⟩
   ·dsimp only[HT,HQ,List.cons_append,List.nil_append]
    refine AH EX (Ae e1 kN) hmk AB AB AB AB AB ?_;refine Py (d':=dy) rfl rfl rfl rfl rfl rfl hLk rfl ?_;refine At ?_;refine AH EX n4 cF cDv cG AB AB AB ?_;exact⟨_,OJ _ _,AA.out,rfl⟩
  rw[AF (by decide),AF (by decide)]at cG;have hB2:∀w∈Q.take (i+1),Dm (w.2/(M:Rat))=false:=λw hw=>by
   rw[DW,hp]at hw;rcases List.mem_append.1 hw with h|h
   ·exact hB w h
   ·have:w=p:=by simpa using h
    rw[this];exact hbg
  rcases TL with _|⟨z9,TL⟩
  ·dsimp only[If,Ig,List.nil_append]
   refine AH EX (Ae e1 kN) hmk AB AB AB AB AB ?_;refine Py (d':=dy) rfl rfl rfl rfl rfl rfl hLk rfl ?_;refine At ?_;refine AH EX (Ae n0 wi) cF cDv cG AB AB AB ?_;exact⟨(i+1,_,_),⟨h2,hB2⟩,by dsimp only;omega,by(dsimp only;rw[hsn];exact AK)⟩
  ·dsimp only[HT,HQ,List.cons_append,List.nil_append]
   have htk:List.take (TL.length+1) (z9::TL)=z9::TL:=by simp
   rw[Bp]at hTl;have hb64:TL.length+1<64:=by omega
   refine AH EX (Ae e1 kN) hmk AB AB AB AB AB ?_;refine Py (d':=dy) rfl rfl rfl rfl rfl rfl hLk rfl ?_;refine At ?_;refine AH EX (As n0 wi htk) cF cDv cG AB AB AB ?_;exact⟨(i+1,_,_),⟨h2,hB2⟩,by dsimp only;omega,by(dsimp only;rw[hsn,Nr];exact AK)⟩
 have e1:=Ch h2;have wi:=CZ (i:=i) (by omega);obtain⟨x,hxi⟩:=CL h2;obtain⟨x1,x2,x3⟩:=hx x (Ax hxi);have hm:(l.map AE.D)[i]?=some (.agg [str (sb x.grain),i64 x.mass,.sl false 2 (x.shs.map Au.D)]):=by rw[A0,hxi];rfl
 have es:(((x.shs.map Au.D).length:Nat):Int)=(x.shs.length:Int):=by rw[Ac]
 refine AH EX (As e1 es kN) hm AB AB AB AB AB ?_;obtain⟨ga,hga⟩:∃g,n1+1+1+1=g:=⟨_,rfl⟩
 refine GN (α:=Nat×C7×Obj×Nat) (λp=>⟨[(0,Al b l),(2,.optr 0 0 3 0 0),(4,i64 (Aq l)),(6,.prim (.map (some it))),(8,.optr 702 (n1+1+1+1) 3 0 0),(29,Al b l),(30,i64 (l.length:Int)),(31,i64 (i:Int)),(36,.sl false 2 (x.shs.map Au.D)),(37,i64 (x.shs.length:Int)),(38,i64 (p.1:Int))],[⟨702,n1+1+1+1,27,3,[.agg [str (sb x.grain),i64 x.mass,.sl false 2 (x.shs.map Au.D)]]⟩,⟨0,0,27,3,[.agg [.prim (.string ⟨#[]⟩),.prim (.int .i64 0),.prim (.slice none 0 0)]]⟩],p.2.2.2⟩) (λp=>x.shs.length-p.1)
  (λp F=>p.1<=x.shs.length/\C5 C0 F0 F [⟨400,11,p.2.2.1⟩]/\F.r0 400 11=some it/\HY F p.2.2.1 p.2.1/\MQ (320*i+5*p.1) (GC x p.1 (CF (l.take i))) p.2.1) (0,m,o,_) ⟨BS _,hO,hr0,hM,hQ⟩ AK ?_
 clear hO hr0 hM hQ;rintro⟨j,m2,o2,n2⟩ F ⟨hj,hO,hr0,hM,hQ⟩;dsimp only at hj hO hr0 hM hQ⊢;rw[hga];rcases BA j x.shs.length with h3|h3
 rotate_left
 ·have e2:=Cg h3
  have:j=x.shs.length:=by omega
  subst this;rw[<-Pm l i hxi]at hQ;refine AH EX (Ae e2 wi) AB AB AB AB AB AB ?_;exact⟨(i+1,m2,o2,_),⟨h2,hO,hr0,hM,hQ.mono (by dsimp only;omega)⟩,by dsimp only;omega,AK⟩
 have e2:=Ch h3;have wj:=CZ (i:=j) (by omega);obtain⟨s,hsj⟩:=CL h3;obtain⟨s1,s2,s3⟩:=x3 s (Ax hsj);have hms:(x.shs.map Au.D)[j]?=some (.agg [str (sb s.lot),str (sb s.part)]):=by rw[A0,hsj];rfl
 have hsn:=Nd x j (CF (l.take i)) hsj;have fP:FR (CN s.part) (GB s.part) 3:=⟨(Qy s3).is,fX s3 s2⟩
 have fM:FR ((x.mass:Int):Rat) ⟨AY x.mass,1⟩ 1:=QW (by unfold Sm at x2;omega);have c1:=Qp (by omega) s3;have c2:=Ox x.mass x2;have c3:=T7 fP fM (by decide);have fZ:FR (CN s.part*(x.mass:Rat)) (IK (GB s.part) ⟨AY x.mass,1⟩) 4:=TV fP fM;obtain⟨z,hz⟩:∃z,IK (GB s.part) ⟨AY x.mass,1⟩=z:=⟨_,rfl⟩
 rw[hz]at c3 fZ;obtain⟨d1,hd1⟩:∃d,(GB s.part).D=d:=⟨_,rfl⟩
 obtain⟨d2,hd2⟩:∃d,(⟨AY x.mass,1⟩:GF).D=d:=⟨_,rfl⟩
 have pd1:AA d1:=by rw[<-hd1];exact AI
 have pd2:AA d2:=by rw[<-hd2];exact AI
 rw[hd1]at c1 c3;rw[hd2]at c2 c3;refine sZ 900 ?_;refine AD e2 ?_;refine AC.seq ?_;refine AM ?_;refine Am ?_;refine AC.seq ?_;refine AC.block ?_;refine sZ 1000 ?_;refine Br kT hms ?_;refine AD kB ?_;refine AC.seq ?_;refine B6 w1 1100 [0,1,2,3,4,5,6,7] [8] (by kernel_rfl) ?_;refine AD kB ?_;refine BY.same _ (c1) AI ?_;refine BO ?_;refine AD kB ?_;refine BY.same _ (c2) AI ?_;refine BO ?_;refine AD kB ?_;refine BY.same _ (c3) AI ?_;refine BO ?_;refine AD kB ?_;refine AC.seq ?_;refine AC.seq ?_;refine Hk (by kernel_rfl) ?_;change Bd _ _ _ _ _ ([0,1,2]++(3::([4,5,6,7,8,9]++[]))) _ _;refine FE w1 1200 [0,1,2] _ ?_;refine AD kB ?_;refine Bd.look (xo:=⟨400,11,o2⟩) (l:=m2) w1 rfl rfl rfl rfl rfl rfl hO CM hr0 hM ?_;rcases hQ.look s.lot with⟨q1,q2⟩|⟨r,y,q1,q2,q3⟩
 ·rw[WU q1]
  refine FE w1 1200 [4,5,6,7,8,9] [] ?_;refine AD kB ?_;refine Bd.nil ?_;refine At ?_;refine sZ 1300 ?_;refine AD kB ?_;refine AM ?_;refine Am ?_;refine Hk (by kernel_rfl) ?_;change Bd _ _ _ _ _ ([0,1,2,3]++(4::[])) _ _;refine FE w1 1500 [0,1,2,3] _ ?_;refine AD kB ?_;refine Bd.put (l:=m2) w1 rfl rfl rfl rfl rfl rfl hO hr0 hM (λF3 o3 hto3 hO3 hr3 hM3=>Bd.nil ?_);refine At ?_;have hQ2:MQ (320*i+5*(j+1)) (GC x (j+1) (CF (l.take i))) (FC (sb s.lot) z.D m2):=by
   rw[hsn];unfold Jc;rw[q2];exact MQ.set s.lot ⟨fZ.is,fZ.rk.mono (by omega)⟩ (hQ.mono (by omega))
  refine AH EX wj AB AB AB AB AB AB ?_;exact⟨(j+1,FC (sb s.lot) z.D m2,o3,_),⟨h3,hO3,hr3,hM3,hQ2⟩,by dsimp only;omega,AK⟩
 ·rw[WV q1]
  refine FE w1 1200 [4,5,6,7,8,9] [] ?_;refine AD kB ?_;refine Bd.nil ?_;have c4:=Qk fZ q3 (by omega);have fA:=QZ fZ q3;obtain⟨z2,hz2⟩:∃z2,Jb z y=z2:=⟨_,rfl⟩
  rw[hz2]at c4 fA;refine At ?_;refine sZ 1300 ?_;refine AD kB ?_;refine AM ?_;refine An w1 1400 (by kernel_rfl) ?_;refine AD kB ?_;refine cI c4 ?_;refine AD kB ?_;refine Hk (by kernel_rfl) ?_;change Bd _ _ _ _ _ ([0,1,2,3]++(4::[])) _ _;refine FE w1 1500 [0,1,2,3] _ ?_;refine AD kB ?_;refine Bd.put (l:=m2) w1 rfl rfl rfl rfl rfl rfl hO hr0 hM (λF3 o3 hto3 hO3 hr3 hM3=>Bd.nil ?_);refine At ?_;have hQ2:MQ (320*i+5*(j+1)) (GC x (j+1) (CF (l.take i))) (FC (sb s.lot) z2.D m2):=by
   rw[hsn];unfold Jc;rw[q2];exact MQ.set s.lot ⟨fA.is,fA.rk.mono (by omega)⟩ (hQ.mono (by omega))
  refine AH EX wj AB AB AB AB AB AB ?_;exact⟨(j+1,FC (sb s.lot) z2.D m2,o3,_),⟨h3,hO3,hr3,hM3,hQ2⟩,by dsimp only;omega,AK⟩
abbrev kq:Dr:=[(1,[0,1,2,3,4,5],[6,7])]
open Go.Proofs Go.RowKit Go.Sort
set_option maxRecDepth 20000
set_option maxHeartbeats 4000000
theorem ye {C:BC}{f sz:Nat}{ds:List D}{Φ:D->Prop}(h1:Ag C f (CP::ds) Φ)(h2:Ag C f (.sl true sz []::ds) Φ):Ag C f (.sl false sz []::ds) Φ:=by
 refine⟨h1.1,λX w vs a b c e g=>?_⟩;have g0:=g 0 _ rfl;generalize hv:vs.getD 0 undef=v at g0;cases g0 with
 |nil=>
  refine h1.2 X w vs a b c e λi d hd=>?_
  match i with
  | 0=>cases hd;rw[hv];exact .prim _
  |i+1=>exact g (i+1) d hd
 |emp a0=>
  refine h2.2 X w vs a b c e λi d hd=>?_
  match i with
  | 0=>cases hd;rw[hv];exact .emp a0
  |i+1=>exact g (i+1) d hd
 |sl f hl hc hO hb hz hcell ho h=>
  refine h2.2 X w vs a b c e λi d hd=>?_
  match i with
  | 0=>cases hd;rw[hv];exact .sl f hl hc hO hb hz hcell ho h
  |i+1=>exact g (i+1) d hd
theorem GY {H Hf:Hp}{k g T sz:Nat}{l:List D}(he:Hp.get H k=some ⟨k,g,T,sz,l⟩)(hf:Hp.get Hf k=none:=by rfl):Fz H Hf (.osl k g sz 0 l.length) (.sl false sz l):=by
 refine .osl (e:=⟨k,g,T,sz,l⟩) he hf rfl rfl (by simp) (by simp) (λj d d' h1 h2=>?_) λj d d' q c c' h1 h2 h3 h4=>?_
 ·rw[BR]at h1;rw[h1]at h2;cases h2;rfl
 ·rw[BR]at h1;rw[h1]at h2;cases h2;rw[h3]at h4;cases h4;exact Fz.refl _
theorem n9 (s:List Au)(hl:s.length<=1000000):AJ C0 118 [Cb false s] (Cb false s):=by
 unfold Cb;rcases s with _|⟨z,s⟩
 ·refine ye ?_ ?_
  ·refine Ag.walk w1 Qn rfl λF=>?_
   refine AH AW kB AB AB AB AB AB AB ?_;exact⟨_,.nil 2,AA.out,rfl⟩
  ·refine Ag.walk w1 Qn rfl λF=>?_
   refine AH AW kB AB AB AB AB AB AB ?_;exact⟨_,.osl (e:=⟨302,5,82,2,[]⟩) rfl rfl rfl rfl (Ai _) rfl (λj d d' h=>by simp at h) (λj d d' q c c' h=>by simp at h),AA.out,rfl⟩
 ·refine Ag.walk w1 Qn rfl λF=>?_
  obtain⟨T,hT⟩:∃T,List.map Au.D (z::s)=T:=⟨_,rfl⟩
  have pT:AA (.sl false 2 T):=by rw[<-hT];exact AI
  have hne:T≠[]:=by rw[<-hT];simp
  have hlT:T.length<=1000000:=by rw[<-hT,Ac];exact hl
  rw[hT];refine AH AW hne AB AB AB AB AB AB ?_;exact⟨_,by rw[BR];exact GY rfl,pT.out,rfl⟩
theorem b8 (x:AE)(m:Int)(hl:x.shs.length<=1000000):AJ C0 63 [x.D,i64 m] ((⟨x.grain,m,x.shs⟩:AE).D):=by
 refine Ag.walk w1 dC rfl λF=>?_
 have cC:=n9 x.shs hl;unfold AE.D;dsimp only;unfold Cb at cC⊢;obtain⟨SD,hSD⟩:∃d,x.shs.map Au.D=d:=⟨_,rfl⟩
 have pS:AA (.sl false 2 SD):=by rw[<-hSD];exact AI
 rw[hSD]at cC⊢;refine AH AW kB cC AB AB AB AB AB ?_;exact AL rfl AA.out
theorem lW (b:Bool)(l:List AE)(hl:l.length<=1000000)(h0:l≠[])(H:Hp)(n:Nat):Ca C0 57 [Al b l] H n
  (λd H' n'=>∃g,d=.osl 302 g 3 0 l.length/\H'=⟨302,g,27,3,l.map AE.D⟩::H/\n'=n+7):=by
 refine Ca.walk w1 cq rfl λF=>?_
 unfold Al;obtain⟨T,hT⟩:∃T,l.map AE.D=T:=⟨_,rfl⟩
 have pT:AA (.sl b 3 T):=by rw[<-hT];exact AI
 have hne:T≠[]:=by rw[<-hT];simpa using h0
 have hlT:T.length<=1000000:=by rw[<-hT,Ac];exact hl
 rw[hT,<-Ac (f:=AE.D),hT];cases b
 all_goals
  refine sZ 0 ?_;refine AD kB ?_;refine AC.seq ?_;refine sZ 100 ?_;refine AD kB ?_;refine AM ?_;refine Am ?_;refine sZ 300 ?_;refine AD kB ?_;refine Aj ?_;exact⟨_,by rw[BR],rfl,rfl⟩
theorem uN (b:Bool)(x y:AE)(l:List AE):AJ C0 112 [x.D,  .pptr (.sl b 3 ((y::l).map AE.D))] (Ap (!BI (sb x.grain) (sb y.grain))):=by
 refine Ag.walk w1 ZN rfl λF=>?_
 have hm:((y::l).map AE.D)[0]?=some (.agg [str (sb y.grain),i64 y.mass,.sl false 2 (y.shs.map Au.D)]):=rfl;obtain⟨T,hT⟩:∃T,(y::l).map AE.D=T:=⟨_,rfl⟩
 have pT:AA (.sl b 3 T):=by rw[<-hT];exact AI
 obtain⟨S,hS⟩:∃S,x.shs.map Au.D=S:=⟨_,rfl⟩
 have pS:AA (.sl false 2 S):=by rw[<-hS];exact AI
 rw[hT]at hm⊢;unfold AE.D Cb;rw[hS];refine AH kq kB hm AB AB AB AB AB ?_;exact AL rfl AA.out
theorem uP (b:Bool)(l:List AE)(c:D)[pc:AA c](p:AE->Bool)(hl:l.length<=1000000)(hc:∀x∈l,AJ C0 112 [x.D,c] (Ap (p x))):AJ C0 159 [Al b l,.clo (.func 112) [] [c]] (i64 (JX p l)):=by
 refine Ag.walk w1 Zg rfl λF=>?_
 have el:(((l.map AE.D).length:Nat):Int)=(l.length:Int):=by rw[Ac]
 refine AH AW el AB AB AB AB AB AB ?_;refine AC.loop (α:=Nat×Nat) (λp=>⟨[(0,Al b l),(1,.clo (.func 112) [] [c]),(7,i64 l.length),(8,i64 (p.1:Int))],[],p.2⟩) (λp=>l.length-p.1) (λq=>q.1<=l.length/\∀(j:Nat) (x:AE),j<q.1->l[j]?=some x->p x=false) (0,_) ⟨BS _,λj x hj=>Ah hj (Gp j)⟩ AK ?_;rintro⟨i,n⟩ F ⟨hi,ha⟩;dsimp only at hi ha⊢;rcases BA i l.length with h2|h2
 rotate_left
 ·have e1:=Cg h2
  have:i=l.length:=by omega
  subst this;refine AH AW e1 AB AB AB AB AB AB ?_;exact AL (by rw[Sl ha]) AA.out
 have e1:=Ch h2;have wi:=CZ (i:=i) (by omega);obtain⟨x,hx⟩:=CL h2;have hm:(l.map AE.D)[i]?=some (.agg [str (sb x.grain),i64 x.mass,.sl false 2 (x.shs.map Au.D)]):=by rw[A0,hx];rfl
 have cn:=hc x (Ax hx);unfold AE.D at cn;cases hb:p x
 ·rw[hb]at cn
  refine AH AW (As e1 wi kN) hm cn AB AB AB AB ?_;refine⟨(i+1,_),⟨h2,λj z hj hjz=>?_⟩,by dsimp only;omega,AK⟩;rcases BA j i with h|h
  ·exact ha j z h hjz
  ·have:j=i:=by dsimp only at hj;omega
   subst this;rw[hx]at hjz;cases hjz;exact hb
 ·rw[hb]at cn
  refine AH AW (As e1 wi kN) hm cn AB AB AB AB ?_;exact AL (by rw[Tl hx hb ha]) AA.out
theorem uO (b:Bool)(l:List AE)(c:D)[pc:AA c](p:AE->Bool)(hl:l.length<=1000000)(hc:∀x∈l,AJ C0 112 [x.D,c] (Ap (p x))):AJ C0 111 [Al b l,.clo (.func 112) [] [c]] (Ap (l.any p)):=by
 refine Ag.walk w1 ZM rfl λF=>?_
 have c1:=uP b l c p hl hc;have e1:=Tm p l;refine AH AW e1 c1 AB AB AB AB AB ?_;exact AL rfl AA.out
theorem W7 (b:Bool)(l:List AE)(hl:l.length<=1000000):AJ C0 60 [Al b l] (i64 (if CT l then 0 else 16:Nat)):=by
 refine Ag.walk w1 cz rfl λF=>?_
 have cH:AJ C0 111 [Al b l,.clo (.func 112) [] [.pptr (Al b l)]] (Ap (!CT l)):=by
  have:=uO b l (.pptr (Al b l)) (λx=>!BI (sb x.grain) (sb (CK l 0).grain)) hl λx hx=>by
   rcases l with _|⟨y,l⟩
   ·cases hx
   ·exact uN b x y l
  have he:(l.any λx=>!BI (sb x.grain) (sb (CK l 0).grain)) = !CT l:=by
   unfold CT;rw[List.not_all_eq_any_not]
  rwa [he]at this
 have cW:=HZ (!CT l) 16;refine AH AW kB cH cW AB AB AB AB ?_;refine A9.own _ (Lw cH rfl (λi a d h1 h2=>by
  match i with
  | 0=>cases h1;cases h2;exact .refl _ _
  | 1=>cases h1;cases h2;exact .clo1 (.ptr rfl rfl rfl rfl)
  |n+2=>cases h1) AI (.prim _)) ?_
 rintro d H' n' ⟨rfl,rfl,rfl⟩;refine AH AW kB cW AB AB AB AB AB ?_;exact AL (by cases CT l<;>rfl) AA.out
theorem OY {l:List AE}(h:B3 l=0):l.length<=64/\(∀x∈l,Cj x=0)/\Aq l<=999999999:=by
 unfold B3 at h;split at h
 ·cases h
 ·split at h
  ·rename_i h3;exact Ah h h3
  ·split at h
   ·cases h
   ·refine⟨by omega,λx hx=>?_,by omega⟩
    obtain⟨j,hj⟩:=List.mem_iff_getElem?.1 hx
    have:=QD (f:=λi=>Cj (CK l i)) (n:=l.length) (by omega) j (List.getElem?_eq_some_iff.1 hj).1
    rwa [FO hj]at this
theorem WZ {l:List AE}(hf:∀x∈l,x.lite)(hz:∀x∈l,Cj x=0)(hl:l.length<=64):(∀x∈l,x.ok)/\G8 (λk=>k.length<=1000) 4096 (CF l):=by
 have hx:∀x∈l,x.ok:=λx h=>(bS (hf x h) (hz x h)).1
 exact⟨hx,(SR λx h=>⟨(hx x h).1,λs hs=>((hf x h).2 s hs).1⟩).mono (by omega)⟩
def RR (l:List AE):Nat:=if B3 l≠0 then B3 l else IC (CF l)
def RS (l:List AE):By:=if B3 l≠0 then[]else JU (CF l)
theorem wE (b:Bool)(l:List AE)(hl:l.length<=1000000)(hf:∀x∈l,x.lite):AJ C0 36 [Al b l] (.tup [.sl false 2 ((RS l).map Cm),i64 (RR l:Nat)]):=by
 refine Ag.walk w1 dV rfl λF=>?_
 have cP:=M4 b l (by omega) λx hx=>(hf x hx).1
 have hR:RS l=if B3 l≠0 then[]else JU (CF l):=rfl
 have hE:RR l=if B3 l≠0 then B3 l else IC (CF l):=rfl
 rcases Nat.decEq (B3 l) 0 with g|g
 ·have e1:=GE g
  rw[AG g]at hR hE;rw[hR,hE];refine AH AW e1 cP AB AB AB AB AB ?_;exact⟨_,Hy (.nil 2) (.refl _),AA.out,rfl⟩
 have e1:=GG g;rw[AF (λh=>h g)]at hR hE;rw[hR,hE];obtain⟨g1,g2,g3⟩:=OY g;obtain⟨hx,hK⟩:=WZ hf g2 g1;have cL:=wG b l (by omega) hx;refine AH AW e1 cP AB AB AB AB AB ?_;refine A9.prop _ _ (ES.refl _) cL AI ?_;rintro d ⟨m,rfl,hQ⟩;have cA:=X8 32000 (by omega) (CF l) m hQ (BU hK.len (by omega)) hK.nd;have pM:AA (mapD m):=⟨hQ.mapD⟩
 unfold JT at cA;obtain⟨M,hM⟩:∃M,mapD m=M:=⟨_,rfl⟩
 rw[hM]at cA pM⊢;refine AH AW kB cA AB AB AB AB AB ?_;exact AL rfl AA.out
def Ea (p:List UInt8×List UInt8):D:=.agg [str (sb p.1),str (sb p.2)]
instance  (p:List UInt8×List UInt8):AT (Ea p):=by unfold Ea;exact AI
instance  (p:List UInt8×List UInt8):AA (Ea p):=by unfold Ea;exact AI
def Au.shB (s:Au):Bool:=decide (s.lot.length<=100)&&decide (s.part.length<=14)
def AE.shB (x:AE):Bool:=decide (x.grain.length<=100)&&(decide (x.shs.length<=8)||decide (64<x.shs.length))&&decide (x.shs.length<=80)&&x.shs.all Au.shB
def Ga (l:List AE):Bool:=l.all AE.shB&&(decide (l.length<=8)||(decide (64<l.length)&&decide (l.length<=80)))
theorem DM.clo2 {H:Hp}{fn:Fn}{c c' x x':D}(h:DM H c c')(k:DM H x x'):DM H (.clo fn [] [c,x]) (.clo fn [] [c',x']):=λC F ρ w m hO hN v hv=>by
 cases hv with
 |clo hf hc h1 h2=>
  refine .clo hf (by simpa using hc) (λi d hd=>by simp at hd) λi d hd=>?_
  match i with
  | 0=>
   simp at hd;subst hd;exact h C F ρ w m hO hN _ (h2 0 _ rfl)
  | 1=>
   simp at hd;subst hd;exact k C F ρ w m hO hN _ (h2 1 _ rfl)
  |i+2=>simp at hd
theorem TM (b bk:Bool)(T:List D)[pT:AA (.sl b 3 T)]:AJ C0 141 [.sl b 3 T,Ap bk] (.clo (.func 185) [] [.pptr (.sl b 3 T),.pptr (Ap bk)]):=by
 refine yf w1 ZX rfl λF=>?_
 have hp:B5 (.clo (.func 185) [] [.pptr (.sl b 3 T),.pptr (Ap bk)]):=(AI:AA (.clo (.func 185) [] [.pptr (.sl b 3 T),.pptr (Ap bk)])).out;refine fR 0 ?_;refine fR 100 ?_;refine Aj ?_;exact⟨_,.clo2 (.ptr rfl rfl rfl rfl) (.ptr rfl rfl rfl rfl),hp,rfl⟩
theorem U5 {E:FP}{l:Nat}{R:LR}(hE:FP.ok E)(b bk:Bool)(T:List D)[pT:AA (.sl b 3 T)](hT:∀x∈T,∃a c d,x=.agg [a,c,d])(hl:T.length<=1000000)
  {σ:Type} (S:Nat->σ->Hp) (P:Nat->σ->Prop) (c:Code) (Z:Hp->Prop) (a0:σ) (h0:P 0 a0) (n0:Nat)
  (hY:∀k a x n,P k a->k<T.length->T[if bk then T.length-1-k else k]?=some x->Qu C0 E l R [x] (S k a) n (λj H' _=>(j=none/\∃a',P (k+1) a'/\Ci H' (S (k+1) a') H' (S (k+1) a'))\/(j=some c/\Z H'))):
  OO C0 E 185 [.clo (.yield l) [] [],.pptr (.sl b 3 T),.pptr (Ap bk)] l R (S 0 a0) n0 (λj _ H' _=>(j=none/\∃a,P T.length a/\H'=S T.length a)\/(j=some c/\Z H')):=by
 refine OO.walk w1 hE aa rfl λB F hR=>?_
 obtain⟨N,hN⟩:∃N,T.length=N:=⟨_,rfl⟩
 rw[hN]at hY hl⊢;have el:((T.length:Nat):Int)=(N:Int):=by rw[hN]
 refine sZ 0 ?_;refine AD el ?_;refine AC.block ?_;refine GN (α:=Nat×σ×Nat) (λp=>⟨[(0,.clo (.yield l) [] []),(1,.pptr (.sl b 3 T)),(2,.pptr (Ap bk)),(6,i64 (N:Int)),(7,i64 (p.1:Int))],S p.1 p.2.1,p.2.2⟩) (λp=>N-p.1)
  (λp F=>La C0 E B F l R/\p.1<=N/\P p.1 p.2.1) (0,a0,_) ⟨hR,BS _,h0⟩ AK ?_
 clear hR;rintro⟨i,a,m⟩ F ⟨hR,h1,hP⟩;dsimp only at h1 hR hP⊢;refine sR 100 ?_;refine AC.seq ?_;refine AM ?_
 (refine Bw (λh8=>?_) (λh8=>?_))<;>(try simp only[Bi,Bv]at h8)<;>(try simp only[h8])
 ·have hi:i<N:=by
   have:=DA h8
   omega
  have a3:IntKind.i64.wrap ((i:Int)+1)=((i+1:Nat):Int):=wI (by omega) (by omega);have a4:IntKind.i64.wrap ((N:Int)-1)=((N-1:Nat):Int):=by rw[wI (by omega) (by omega)];omega
  have a5:IntKind.i64.wrap (((N-1:Nat):Int)-(i:Int))=((N-1-i:Nat):Int):=by rw[wI (by omega) (by omega)];omega
  have hq:(if bk then N-1-i else i)<T.length:=by rw[hN];split<;>omega
  obtain⟨x,hx⟩:∃x,T[if bk then N-1-i else i]?=some x:=⟨_,BE hq⟩
  have hy:=λn=>hY i a x n hP hi hx
  obtain⟨x1,x2,x3,rfl⟩:=hT x (Ax hx);refine Am ?_;refine AC.seq ?_;refine AC.block ?_;refine sR 200 ?_;refine AC.seq ?_;refine sR 300 ?_;cases bk
  ·replace hx:T[i]?=some (.agg [x1,x2,x3]):=hx
   refine AM ?_;refine Am ?_;refine AC.seq ?_;refine fN w1 500 [0,1,2,3,4] 5 [6] rfl (by kernel_rfl) hR ?_;refine BO ?_;refine Br kT hx ?_;refine And.intro ⟨rfl,trivial⟩ ?_;refine BO ?_;refine⟨rfl,_,hy _,?_,?_⟩
   ·rintro H2 n2 (⟨_,a',hP',hf⟩|⟨h,-⟩)
    rotate_left
    ·cases h
    refine And.intro (by exact CA) ?_;refine At ?_;refine AM ?_;refine Am ?_;refine An w1 600 (by kernel_rfl) ?_;refine AU a3 ?_;exact⟨(i+1,a',_),⟨hR,hi,hP'⟩,(by dsimp only;omega),AK (a:=hf)⟩
   ·rintro c2 H2 n2 (⟨h,-⟩|⟨h,hZ⟩) F2 hst
    ·cases h
    cases h;refine BO ?_;refine AM ?_;refine AC.weak ⟨[],H2,_⟩ AK ?_;refine AC.ret ?_;exact⟨_,hst,trivial,.inr ⟨rfl,hZ⟩⟩
  ·replace hx:T[N-1-i]?=some (.agg [x1,x2,x3]):=hx
   refine AM ?_;refine An w1 400 (by kernel_rfl) ?_;refine AU (As a4 a5 el) ?_;refine AC.seq ?_;refine fN w1 500 [0,1,2,3,4] 5 [6] rfl (by kernel_rfl) hR ?_;refine BO ?_;refine Br kT hx ?_;refine And.intro ⟨rfl,trivial⟩ ?_;refine BO ?_;refine⟨rfl,_,hy _,?_,?_⟩
   ·rintro H2 n2 (⟨_,a',hP',hf⟩|⟨h,-⟩)
    rotate_left
    ·cases h
    refine And.intro (by exact CA) ?_;refine At ?_;refine AM ?_;refine Am ?_;refine An w1 600 (by kernel_rfl) ?_;refine AU a3 ?_;exact⟨(i+1,a',_),⟨hR,hi,hP'⟩,(by dsimp only;omega),AK (a:=hf)⟩
   ·rintro c2 H2 n2 (⟨h,-⟩|⟨h,hZ⟩) F2 hst
    ·cases h
    cases h;refine BO ?_;refine AM ?_;refine AC.weak ⟨[],H2,_⟩ AK ?_;refine AC.ret ?_;exact⟨_,hst,trivial,.inr ⟨rfl,hZ⟩⟩
 ·have hi:i=N:=by
   have:=DL h8
   omega
  subst hi;refine B8 ?_;exact⟨none,hR.stat,trivial,.inl ⟨rfl,a,hP,rfl⟩⟩
def AE.w (x:AE)(m:Int):AE:=⟨x.grain,m,x.shs⟩
def Hs:List AE->Int->List AE
 | [],_=>[]
 |x::r,m=>x.w (min x.mass m)::if m-x.mass<=0 then[]else Hs r (m-x.mass)
def HM (g1:Nat)(p:List AE×Int×Nat):Hp:=Dl 408 p.2.2 27 3 (p.1.map AE.D)++[⟨100,g1,22,1,[Ds 408 p.2.2 3 (p.1.map AE.D)]⟩,⟨0,0,3,1,[i64 p.2.1]⟩]
theorem Y1 (g1:Nat)(m:Int)(g:Nat):HM g1 ([],m,g)=[⟨100,g1,22,1,[CP]⟩,⟨0,0,3,1,[i64 m]⟩]:=rfl
theorem TJ (g1:Nat)(z:AE)(o:List AE)(m:Int)(g:Nat):HM g1 (z::o,m,g)=[⟨408,g,27,3,z.D::o.map AE.D⟩,⟨100,g1,22,1,[.osl 408 g 3 0 ((o.map AE.D).length+1)]⟩,⟨0,0,3,1,[i64 m]⟩]:=rfl
def PV (L:List AE)(m:Int)(k:Nat)(p:List AE×Int×Nat):Prop:=p.1.length=k/\p.1++Hs (L.drop k) p.2.1=Hs L m/\0<=p.2.1/\p.2.1<=1000000000000
def Kk (bk:Bool)(l:List AE):List AE:=if bk then l.reverse else l
theorem tl (bk:Bool)(l:List AE){k:Nat}(hk:k<l.length):(l.map AE.D)[if bk then(l.map AE.D).length-1-k else k]?=((Kk bk l)[k]?).map AE.D:=by
 unfold Kk;rw[Ac,A0];cases bk
 ·rfl
 ·simp only[if_true]
  rw[List.getElem?_reverse hk]
theorem Yz (b bk:Bool)(l:List AE)(m:Int)(hl:l.length<=1000000)(hm:0<=m/\m<=1000000000000)(hx:∀x∈l,0<=x.mass/\x.mass<=1000000000)
  (ho:∀x∈l,∀m,AJ C0 63 [x.D,i64 m] (x.w m).D) (R:D) [pR:AA R] (hN:AJ C0 84 [Al false (Hs (Kk bk l) m)] R):
  AJ C0 91 [Al b l,i64 m,Ap bk] R:=by
 refine Ag.walk w1 dS rfl λF=>?_
 have cV:=TM b bk (l.map AE.D);have hT:∀x∈l.map AE.D,∃a c d,x=.agg [a,c,d]:=λx hx=>by
  obtain⟨y,-,rfl⟩:=List.mem_map.1 hx;exact⟨_,_,_,rfl⟩
 have hoL:∀k,k<l.length->∃x,x∈l/\(Kk bk l)[k]?=some x:=λk hk=>by
  unfold Kk;cases bk
  ·exact⟨_,List.getElem_mem hk,BE hk⟩
  ·simp only[if_true]
   rw[List.getElem?_reverse hk]
   have:l.length-1-k<l.length:=by omega
   exact⟨_,List.getElem_mem this,BE this⟩
 have hlen:(Kk bk l).length=l.length:=by unfold Kk;cases bk<;>simp
 obtain⟨L,hL⟩:∃L,Kk bk l=L:=⟨_,rfl⟩
 have hoA:=λk (hk:k<l.length)=>tl bk l hk
 rw[hL]at hoL hoA hN hlen;unfold Al;obtain⟨T,hTT⟩:∃T,l.map AE.D=T:=⟨_,rfl⟩
 have pT:AA (.sl b 3 T):=by rw[<-hTT];exact AI
 have hTl:T.length=l.length:=by rw[<-hTT,Ac]
 rw[hTT]at cV hT hoA⊢;refine sR 0 ?_;refine sR 100 ?_;refine AC.seq ?_;refine sR 200 ?_;refine cI cV ?_;refine AC.block ?_;have h0:PV L m 0 ([],m,0):=⟨rfl,rfl,hm⟩
 refine AC.rangeFunc (fi:=185) (first:=[]) (captured:=[.pptr (.sl b 3 T),.pptr (Ap bk)]) (Ψ:=λj _ H' _=>(j=none/\∃a,PV L m T.length a/\H'=HM 2 a)\/(j=some (.exit 0)/\∃m' g,H'=HM 2 (Hs L m,m',g))) rfl
  (λds H n Φ=>∃k a x,PV L m k a/\k<T.length/\T[if bk then T.length-1-k else k]?=some x/\ds=[x]/\H=HM 2 a/\Φ=λj H' _=>(j=none/\∃a',PV L m (k+1) a'/\Ci H' (HM 2 a') H' (HM 2 a'))\/(j=some (.exit 0)/\∃m' g,H'=HM 2 (Hs L m,m',g))) ?_
  (λE l' R' hE hY=>U5 hE b bk T hT (by omega) (λ_ a=>HM 2 a) (PV L m) (.exit 0) (λH'=>∃m' g,H'=HM 2 (Hs L m,m',g)) ([],m,0) h0 _ λk a x n hP hk hx=>hY _ _ _ _ ⟨k,a,x,hP,hk,hx,rfl,rfl,rfl⟩) ?_
 ·rintro l' ds H n Φ ⟨k,⟨o,m',g⟩,x,⟨p1,p2,p3,p4⟩,hk,hxT,rfl,rfl,rfl⟩
  dsimp only at p1 p2 p3 p4;obtain⟨y,hy1,hy2⟩:=hoL k (by omega);rw[hoA k (by omega),hy2]at hxT;cases hxT;have hd:L.drop k=y::L.drop (k+1):=by
   have:=(List.getElem?_eq_some_iff.1 hy2)
   rw[EI this.1,this.2]
  rw[hd]at p2;have hb:=hx y hy1;have cO:=ho y hy1 (min y.mass m');have p5:(o++[y.w (min y.mass m')])++(if m'-y.mass<=0 then[]else Hs (L.drop (k+1)) (m'-y.mass))=Hs L m:=by
   rw[<-p2,Di];rfl
  have a1:IntKind.i64.wrap (m'-y.mass)=m'-y.mass:=wI (by omega) (by omega);refine⟨rfl,λF=>?_⟩;unfold AE.w AE.D at cO;unfold AE.D;dsimp only at cO⊢;obtain⟨SD,hSD⟩:∃d,Cb false y.shs=d:=⟨_,rfl⟩
  have pS:AA SD:=by rw[<-hSD];exact AI
  rw[hSD]at cO⊢;rcases o with _|⟨z,o⟩
  ·rw[Y1]
   dsimp only[Gc];refine An w1 300 (by kernel_rfl) ?_;refine AD kB ?_;refine⟨trivial,trivial,λF'=>?_⟩;refine AC.block ?_;refine AC.seq ?_;refine B6 w1 400 [0,1,2,3,4,5,6,7] [8,9] (by kernel_rfl) ?_;refine BO ?_;refine BY.same _ (cO) AI ?_;refine BO ?_;refine sZ 500 ?_;refine AU a1 ?_;refine sR 600 ?_;refine AC.weak ⟨[(27,Ap (decide (m'-y.mass<=0)))],[⟨408,n+1+1+10,27,3,[.agg [str (sb y.grain),i64 (min y.mass m'),SD]]⟩,⟨100,2,22,1,[.osl 408 (n+1+1+10) 3 0 1]⟩,⟨0,0,3,1,[i64 (m'-y.mass)]⟩],_⟩ AK ?_;rw[<-hSD]
   by_cases hz:m'-y.mass<=0
   ·rw[AX hz]
    rw[AG hz,DB]at p5;refine AM ?_;refine B8 ?_;refine .inr ⟨rfl,m'-y.mass,n+1+1+10,?_⟩;rw[<-p5];rfl
   ·rw[Ad hz]
    rw[AF hz]at p5;refine AM ?_;refine Am ?_;exact .inl ⟨rfl,([y.w (min y.mass m')],m'-y.mass,n+1+1+10),⟨by rw[<-p1];rfl,p5,by dsimp only;omega,by dsimp only;omega⟩,Gx _⟩
  ·have wl:AA (.sl false 3 ((z::o).map AE.D)):=AI
   have hol:o.length<=1000000:=by rw[Bp]at p1;omega
   rw[Ct]at wl;rw[TJ];dsimp only[Gc];obtain⟨O,hO⟩:∃O,o.map AE.D=O:=⟨_,rfl⟩
   obtain⟨zD,hzD⟩:∃O,z.D=O:=⟨_,rfl⟩
   have hOl:O.length=o.length:=by rw[<-hO,Ac]
   rw[hO,hzD];refine An w1 300 (by kernel_rfl) ?_;refine AD kB ?_;refine⟨trivial,trivial,λF'=>?_⟩;refine AC.block ?_;refine AC.seq ?_;refine B6 w1 400 [0,1,2,3,4,5,6,7] [8,9] (by kernel_rfl) ?_;refine BO ?_;refine BY.same _ (cO) AI ?_;refine BO ?_;rw[show List.take (O.length+1) (zD::O)=zD::O from Cf (l:=zD::O)];refine sZ 500 ?_;refine AU a1 ?_;refine sR 600 ?_;refine AC.weak ⟨[(27,Ap (decide (m'-y.mass<=0)))],[⟨408,n+1+1+10,27,3,zD::O++[.agg [str (sb y.grain),i64 (min y.mass m'),SD]]⟩,⟨100,2,22,1,[.osl 408 (n+1+1+10) 3 0 (O.length+1+1)]⟩,⟨0,0,3,1,[i64 (m'-y.mass)]⟩],_⟩ AK ?_;have hs:∀g' mm,HM 2 (z::o++[y.w (min y.mass m')],mm,g')=[⟨408,g',27,3,zD::O++[.agg [str (sb y.grain),i64 (min y.mass m'),SD]]⟩,⟨100,2,22,1,[.osl 408 g' 3 0 (O.length+1+1)]⟩,⟨0,0,3,1,[i64 mm]⟩]:=λg' mm=>by
    rw[D5,TJ,<-hO,<-hzD,<-hSD,Cs];rw[Bh];rfl
   rw[<-hs]
   by_cases hz:m'-y.mass<=0
   ·rw[AX hz]
    rw[AG hz,DB]at p5;refine AM ?_;refine B8 ?_;exact .inr ⟨rfl,m'-y.mass,n+1+1+10,by rw[<-p5];rfl⟩
   ·rw[Ad hz]
    rw[AF hz]at p5;refine AM ?_;refine Am ?_;exact .inl ⟨rfl,(z::o++[y.w (min y.mass m')],m'-y.mass,n+1+1+10),⟨by rw[<-p1];simp,p5,by dsimp only;omega,by dsimp only;omega⟩,Gx _⟩
 ·rintro j d H' n' F' hE
  have hE2:∃m' g,H'=HM 2 (Hs L m,m',g)/\(j=none\/j=some (.exit 0)):=by
   rcases hE with⟨hj,⟨o,m',g⟩,⟨p1,p2,-,-⟩,rfl⟩|⟨hj,m',g,rfl⟩
   ·refine⟨m',g,?_,.inl hj⟩
    dsimp only at p2;rw[List.drop_eq_nil_of_le (by omega)]at p2;rw[show o=Hs L m by rw[<-p2];exact(DB o).symm]
   ·exact⟨m',g,rfl,.inr hj⟩
  obtain⟨m',g,rfl,hj⟩:=hE2;obtain⟨o,hO⟩:∃o,Hs L m=o:=⟨_,rfl⟩
  rw[hO]at hN⊢;rcases o with _|⟨z,o⟩
  ·rw[Y1]
   rcases hj with rfl|rfl
   all_goals
    change AC _ _ _ _ _ _ _;refine sR 700 ?_;refine A9.pure [.sl false 3 []] _ ⟨.nil 3,trivial⟩ hN AI ?_;refine BO ?_;refine Aj ?_;exact AL rfl pR.out
  ·have hR:=GY (H:=HM 2 (z::o,m',g)) (Hf:=[]) (k:=408) (g:=g) (T:=27) (sz:=3) (l:=(z::o).map AE.D) rfl
   have hle:((z::o).map AE.D).length=(o.map AE.D).length+1:=rfl;rw[hle]at hR;rw[TJ]at hR⊢;rcases hj with rfl|rfl
   all_goals
    change AC _ _ _ _ _ _ _;refine sR 700 ?_;refine A9.own _ (NE [] hN (.drop (.drop (.drop .nil))) ⟨hR,trivial⟩ AI) ?_;rintro d H2 n2 ⟨rfl,rfl,rfl⟩;refine BO ?_;refine Aj ?_;exact AL rfl pR.out
abbrev LA:Dr:=[(6,[0,1,2,3,4,5,6,7],[8])]
abbrev MO:Dr:=[(6,[0,1,2,3,4,5,6,7,8,9,10,11,12,13,14,15,16,17,18,19,20,21],[22,23])]
open Go.Proofs Go.RowKit
set_option maxRecDepth 20000
set_option maxHeartbeats 4000000
def GJ (s t:Au):Bool:=BI (sb s.lot) (sb t.lot)&&BI (sb s.part) (sb t.part)
def FT:List Au->List Au->Bool
 | [],[]=>true
 |s::S,t::T=>GJ s t&&FT S T
 |_,_=>false
theorem S2:∀ {S T:List Au},S.length≠T.length->FT S T=false
 | [],[],h=>Ah rfl h
 | [],_::_,_=>rfl
 |_::_,[],_=>rfl
 |s::S,t::T,h=>by
  show(GJ s t&&FT S T)=false;rw[S2 (S:=S) (T:=T) λq=>h (congrArg (· + 1) q),Bool.and_false]
theorem MF:∀ {S T:List Au} {i:Nat} {s t:Au},S[i]?=some s->T[i]?=some t->GJ s t=false->FT S T=false
 |s::S,t::T,0,_,_,h1,h2,h=>by
  cases h1;cases h2;show(GJ s t&&FT S T)=false;rw[h,Gl]
 |s::S,t::T,i+1,_,_,h1,h2,h=>by
  show(GJ s t&&FT S T)=false;rw[MF (S:=S) (T:=T) (i:=i) h1 h2 h,Bool.and_false]
theorem S1:∀ {S T:List Au},S.length=T.length->(∀(i:Nat) (s t:Au),S[i]?=some s->T[i]?=some t->GJ s t=true)->FT S T=true
 | [],[],_,_=>rfl
 | [],_::_,h,_=>by cases h
 |_::_,[],h,_=>by cases h
 |s::S,t::T,h,k=>by
  show(GJ s t&&FT S T)=true;rw[k 0 s t rfl rfl,S1 (S:=S) (T:=T) (Nat.succ.inj h) λi s t h1 h2=>k (i+1) s t h1 h2];rfl
theorem d4K (b1 b2:Bool)(S T:List Au)(hS:S.length<=1000000)(hT:T.length<=1000000):AJ C0 181 [Cb b1 S,Cb b2 T] (Ap (FT S T)):=by
 refine Ag.walk w1 aW rfl λF=>?_
 have e1:(((S.map Au.D).length:Nat):Int)=(S.length:Int):=by rw[Ac]
 have e2:(((T.map Au.D).length:Nat):Int)=(T.length:Int):=by rw[Ac]
 by_cases hl:S.length=T.length
 rotate_left
 ·have hne:((S.length:Int) != (T.length:Int))=true:=bne_iff_ne.2 (by omega)
  rw[S2 hl];refine AH LA (As e1 e2 hne) AB AB AB AB AB AB ?_;exact AL rfl AA.out
 have hne:((S.length:Int) != (T.length:Int))=false:=by rw[hl];exact bne_self_eq_false _
 refine AH LA (As e1 e2 hne) AB AB AB AB AB AB ?_;refine AC.loop (α:=Nat×Nat) (λp=>⟨[(0,Cb b1 S),(1,Cb b2 T),(12,i64 (S.length:Int)),(13,i64 (p.1:Int))],[],p.2⟩) (λp=>S.length-p.1) (λq=>q.1<=S.length/\∀(j:Nat) (s t:Au),j<q.1->S[j]?=some s->T[j]?=some t->GJ s t=true) (0,_) ⟨BS _,λj _ _ h=>Ah h (Gp j)⟩ AK ?_;rintro⟨i,n⟩ F ⟨hi,ha⟩;dsimp only at hi ha⊢;rcases BA i S.length with h2|h2
 rotate_left
 ·have k1:=Cg h2
  rw[S1 hl λj s t h1 h3=>ha j s t (by have:=(List.getElem?_eq_some_iff.1 h1).1;omega) h1 h3];refine AH LA k1 AB AB AB AB AB AB ?_;exact AL rfl AA.out
 have k1:=Ch h2;have wi:=CZ (i:=i) (by omega);obtain⟨x,hx⟩:=CL h2;obtain⟨y,hy⟩:=CL (show i<T.length by omega);have hm:(S.map Au.D)[i]?=some (.agg [str (sb x.lot),str (sb x.part)]):=by rw[A0,hx];rfl
 have hm2:(T.map Au.D)[i]?=some (.agg [str (sb y.lot),str (sb y.part)]):=by rw[A0,hy];rfl
 obtain⟨q1,c1⟩:∃q,BI (sb x.lot) (sb y.lot)=q:=⟨_,rfl⟩
 obtain⟨q2,c2⟩:∃q,BI (sb x.part) (sb y.part)=q:=⟨_,rfl⟩
 have hsh:GJ x y=(q1&&q2):=by unfold GJ;rw[c1,c2]
 have b1':(!(true&&(true&&true)))=false:=rfl;have b2':(!(true&&(false&&true)))=true:=rfl;have b3':(!(false&&(true&&true)))=true:=rfl;have b4':(!(false&&(false&&true)))=true:=rfl;cases q1<;>cases q2
 ·rw[MF hx hy hsh]
  refine AH LA (CJ k1 wi c1 c2 b1' b2' (As b3' b4' kN)) hm hm2 AB AB AB AB ?_;exact AL rfl AA.out
 ·rw[MF hx hy hsh]
  refine AH LA (CJ k1 wi c1 c2 b1' b2' (As b3' b4' kN)) hm hm2 AB AB AB AB ?_;exact AL rfl AA.out
 ·rw[MF hx hy hsh]
  refine AH LA (CJ k1 wi c1 c2 b1' b2' (As b3' b4' kN)) hm hm2 AB AB AB AB ?_;exact AL rfl AA.out
 ·refine AH LA (CJ k1 wi c1 c2 b1' b2' (As b3' b4' kN)) hm hm2 AB AB AB AB ?_
  refine⟨(i+1,_),⟨h2,λj s t hj h1 h3=>?_⟩,by dsimp only;omega,AK⟩;rcases BA j i with h|h
  ·exact ha j s t h h1 h3
  ·have:j=i:=by dsimp only at hj;omega
   subst this;rw[hx]at h1;rw[hy]at h3;cases h1;cases h3;exact hsh
def Fj (x y:AE):Bool:=BI (sb x.grain) (sb y.grain)&&FT x.shs y.shs
theorem oG (b1 b2:Bool)(S T:List Au)(hS:S.length<=1000000)(hT:T.length<=1000000):AJ C0 52 [Cb b1 S,Cb b2 T] (Ap (FT S T)):=by
 refine Ag.walk w1 cY rfl λF=>?_
 have e1:(((S.map Au.D).length:Nat):Int)=(S.length:Int):=by rw[Ac]
 have e2:(((T.map Au.D).length:Nat):Int)=(T.length:Int):=by rw[Ac]
 by_cases hl:S.length=T.length
 rotate_left
 ·have hne:((S.length:Int) != (T.length:Int))=true:=bne_iff_ne.2 (by omega)
  rw[S2 hl];refine AH MO (As e1 e2 hne) AB AB AB AB AB AB ?_;exact AL rfl AA.out
 have hne:((S.length:Int) != (T.length:Int))=false:=by rw[hl];exact bne_self_eq_false _
 refine AH MO (As e1 e2 hne) AB AB AB AB AB AB ?_;refine AC.loop (α:=Nat×Nat) (λp=>⟨[(0,Cb b1 S),(1,Cb b2 T),(5,i64 (p.1:Int))],[],p.2⟩) (λp=>S.length-p.1) (λq=>q.1<=S.length/\∀(j:Nat) (s t:Au),j<q.1->S[j]?=some s->T[j]?=some t->GJ s t=true) (0,_) ⟨BS _,λj _ _ h=>Ah h (Gp j)⟩ AK ?_;rintro⟨i,n⟩ F ⟨hi,ha⟩;dsimp only at hi ha⊢;rcases BA i S.length with h2|h2
 rotate_left
 ·have k1:=Cg h2
  rw[S1 hl λj s t h1 h3=>ha j s t (by have:=(List.getElem?_eq_some_iff.1 h1).1;omega) h1 h3];refine AH MO (Ae e1 k1) AB AB AB AB AB AB ?_;exact AL rfl AA.out
 have k1:=Ch h2;have wi:=CZ (i:=i) (by omega);obtain⟨x,hx⟩:=CL h2;obtain⟨y,hy⟩:=CL (show i<T.length by omega);have hm:(S.map Au.D)[i]?=some (.agg [str (sb x.lot),str (sb x.part)]):=by rw[A0,hx];rfl
 have hm2:(T.map Au.D)[i]?=some (.agg [str (sb y.lot),str (sb y.part)]):=by rw[A0,hy];rfl
 obtain⟨q1,c1⟩:∃q,BI (sb x.lot) (sb y.lot)=q:=⟨_,rfl⟩
 obtain⟨q2,c2⟩:∃q,BI (sb x.part) (sb y.part)=q:=⟨_,rfl⟩
 have hsh:GJ x y=(q1&&q2):=by unfold GJ;rw[c1,c2]
 cases q1
 ·rw[MF hx hy hsh]
  refine AH MO (CJ e1 k1 wi c1 kN kT kF) hm hm2 AB AB AB AB ?_;exact AL rfl AA.out
 cases q2
 ·rw[MF hx hy hsh]
  refine AH MO (CJ e1 k1 wi c1 c2 kN (Ae kT kF)) hm hm2 AB AB AB AB ?_;exact AL rfl AA.out
 ·refine AH MO (CJ e1 k1 wi c1 c2 kN (Ae kT kF)) hm hm2 AB AB AB AB ?_
  refine⟨(i+1,_),⟨h2,λj s t hj h1 h3=>?_⟩,by dsimp only;omega,AK⟩;rcases BA j i with h|h
  ·exact ha j s t h h1 h3
  ·have:j=i:=by dsimp only at hj;omega
   subst this;rw[hx]at h1;rw[hy]at h3;cases h1;cases h3;exact hsh
theorem qG (x y:AE)(hx:x.shs.length<=1000000)(hy:y.shs.length<=1000000):AJ C0 68 [x.D,y.D] (Ap (Fj x y)):=by
 refine Ag.walk w1 dE rfl λF=>?_
 have c:=oG false false x.shs y.shs hx hy;obtain⟨q,hq⟩:∃q,BI (sb x.grain) (sb y.grain)=q:=⟨_,rfl⟩
 have hb:Fj x y=(q&&FT x.shs y.shs):=by unfold Fj;rw[hq]
 rw[hb];unfold AE.D;unfold Cb at c⊢;obtain⟨S,hS⟩:∃S,x.shs.map Au.D=S:=⟨_,rfl⟩
 have pS:AA (.sl false 2 S):=by rw[<-hS];exact AI
 obtain⟨T,hT⟩:∃S,y.shs.map Au.D=S:=⟨_,rfl⟩
 have pT:AA (.sl false 2 T):=by rw[<-hT];exact AI
 rw[hS,hT]at c⊢;cases q
 ·refine AH AW (As hq kT kF) c AB AB AB AB AB ?_
  exact AL rfl AA.out
 ·refine AH AW (As hq kT kF) c AB AB AB AB AB ?_
  exact AL rfl AA.out
def RU (H:Hp)(env:Ar):Ar->Prop
 | []=>True
 |(t,d)::r=>DM H (env.get t) d/\RU H env r
theorem RU.get {H:Hp}{env:Ar}:∀ {env':Ar},RU H env env'->∀t,DM H (env.get t) (env'.get t)
 | [],_,t=>λ_ _ _ _ _ _ _ v _=>.any v
 |(k,d)::r,h,t=>by
  simp only[Ar.get];cases hb:Nat.beq k t with
  |true=>
   have:=B4 hb
   subst this;exact h.1
  |false=>exact h.2.get t
theorem fS {C:BC}{B F:Ab}{rd:Option Nat}{c:Code}{s:St}{Q:Exit->Ab->St->Prop}(env':Ar)(he:RU s.H s.env env')(h:AC C B rd F c ⟨env',[],s.n⟩ Q):AC C B rd F c s Q:=⟨λhB hd ρ a w hs=>by
 have hH:Ci s.H [] s.H []:=by
  generalize s.H=H0
  have:∀H1:Hp,Ci H0 [] H1 []:=λH1=>by
   induction H1 with
   |nil=>exact .nil
   |cons e r ih=>exact .drop ih
  exact this H0
 obtain⟨m,hO,hN⟩:=hH.mem hs.mem;exact h.out hB hd ρ a w ⟨m,hs.fresh,by simp,λt=>he.get t _ _ _ _ hs.mem hO (λe he b hb=>hN e he b hb rfl) _ (hs.env t),hs.nt,hs.dfr⟩⟩
theorem RA (B:D)[pB:AA B][pC:AT B](hB:∃a b c d e,B=.agg [a,b,c,d,e])(b:Bool)(ls:List D)[pL:AA (.sl b 1 ls)](i:Nat)(x:Int)(hx:ls[i]?=some (i64 x))(R:D)[pR:AA R](m:Int)
  (cB:AJ C0 77 [.sl b 1 ls,i64 (i:Int),.clo (.func 131) [] [.pptr (.sl b 1 ls),.pptr (i64 (i:Int)),.pptr B]] R)
  (cL:AJ C0 76 [i64 x,R] (i64 m)):AJ C0 74 [B,.sl b 1 ls,i64 (i:Int)] (i64 m):=by
 refine Ag.walk w1 dG rfl λF=>?_
 obtain⟨a1,a2,a3,a4,a5,rfl⟩:=hB;refine sR 0 ?_;refine AC.seq ?_;refine fS [(3,.pptr (.agg [a1,a2,a3,a4,a5])),(4,.pptr (.sl b 1 ls)),(5,.pptr (i64 (i:Int)))] ⟨.ptr rfl rfl rfl rfl,.ptr rfl rfl rfl rfl,.ptr rfl rfl rfl rfl,trivial⟩ ?_;refine B6 w1 100 [0,1,2,3,4,5,6,7] [8,9] (by kernel_rfl) ?_;refine BO ?_;refine Br kT hx ?_;refine AD kB ?_;refine BY.same _ (cB) AI ?_;refine BO ?_;refine cI cL ?_;refine Aj ?_;exact AL rfl AA.out
theorem Y9 (B:D)[pB:AA B][pC:AT B](a1 a2 a4 a5:D)(room:Int)(hB:B=.agg [a1,a2,i64 room,a4,a5])(ls:List D)[pL:AA (.sl false 1 ls)](i:Nat)(x:Int)(hx:ls[i]?=some (i64 x))(R:D)[pR:AA R](m:Int)
  (cC:AJ C0 73 [B,.sl true 1 [i64 (i:Int)]] (i64 0)) (cV:AJ C0 75 [B] (.sl false 1 ls))
  (cB:AJ C0 77 [.sl false 1 ls,i64 (i:Int),.clo (.func 78) [] [.pptr B,.pptr (.sl false 1 ls),.pptr (i64 (i:Int))]] R) (r:Int) (hr:IntKind.i64.wrap (room-x)=r)
  (cL:AJ C0 76 [i64 r,R] (i64 m)):AJ C0 25 [B,i64 (i:Int)] (.tup [i64 m,i64 0]):=by
 refine Ag.walk w1 Uk rfl λF=>?_
 have e0:((0:Int) != 0)=false:=rfl;subst hB;refine sR 0 ?_;refine AC.seq ?_;refine sR 100 ?_;refine cI cC ?_;refine sZ 200 ?_;refine AU e0 ?_;refine AM ?_;refine Am ?_;refine sR 400 ?_;refine cI cV ?_;refine AC.seq ?_;refine fS [(2,.pptr (.agg [a1,a2,i64 room,a4,a5])),(3,.pptr (i64 (i:Int))),(7,.pptr (.sl false 1 ls))] ⟨.ptr rfl rfl rfl rfl,.ptr rfl rfl rfl rfl,.ptr rfl rfl rfl rfl,trivial⟩ ?_;refine B6 w1 500 [0,1,2,3,4,5,6,7,8,9,10] [11,12,13] (by kernel_rfl) ?_;refine BO ?_;refine Br kT hx ?_;refine AD hr ?_;refine BY.same _ (cB) AI ?_;refine BO ?_;refine cI cL ?_;refine Aj ?_;exact AL rfl AA.out
abbrev BW (l:List Int):List D:=l.map λx=>i64 x
theorem iq (a1 a2 a3 a4:D)[AA a1][AA a2][AA a3][AA a4](b:Bool)(cs:List D)[pc:AA (.sl b 1 cs)](ls:List Int)(hlen:ls.length=cs.length)(h0:cs≠[])(hl:cs.length<=1000000)
  (hc:∀(i:Nat) (c:D) (m:Int),cs[i]?=some c->ls[i]?=some m->AJ C0 59 [c] (i64 m)) (hp:∀c∈cs,∃bb l,c=.sl bb 3 l/\AA c) (g0:Nat) (x:D) (n:Nat):
  Ca C0 75 [.agg [a1,a2,a3,a4,.sl b 1 cs]] [⟨0,g0,48,5,[x]⟩] n (λd H' _=>∃g,d=.osl 504 g 1 0 ls.length/\H'=[⟨504,g,3,1,BW ls⟩,⟨0,g0,48,5,[x]⟩]):=by
 refine Ca.walk w1 Um rfl λF=>?_
 refine AH AW kB AB AB AB AB AB AB ?_;refine AC.loop (α:=Nat×Nat×Nat) (λp=>⟨[(3,Ds 504 p.2.1 1 (BW (ls.take p.1))),(7,.sl b 1 cs),(8,i64 (cs.length:Int)),(9,i64 (p.1:Int))],Dl 504 p.2.1 3 1 (BW (ls.take p.1))++[⟨0,g0,48,5,[x]⟩],p.2.2⟩) (λp=>cs.length-p.1) (λq=>q.1<=cs.length) (0,0,_) (BS _) AK ?_;rintro⟨i,g,n⟩ F hi;dsimp only at hi⊢;rcases BA i cs.length with h2|h2
 rotate_left
 ·have e1:=Cg h2
  have hi2:i=cs.length:=by omega
  rw[B7 (by omega:ls.length<=i)];have hls:ls≠[]:=λh=>h0 (FF (by rw[<-hlen,h];rfl))
  obtain⟨z,r,rfl⟩:∃z r,ls=z::r:=by
   cases ls with
   |nil=>exact Ah rfl hls
   |cons z r=>exact⟨z,r,rfl⟩
  rw[show BW (z::r)=i64 z::BW r from rfl,HT,HQ,D5,EO];refine AH AW e1 AB AB AB AB AB AB ?_;exact⟨_,by rw[Ac],rfl⟩
 have e1:=Ch h2;have wi:=CZ (i:=i) (by omega);obtain⟨c,hm⟩:=CL h2;obtain⟨m,hm2⟩:=CL (show i<ls.length by omega);obtain⟨bb,cl,rfl,pcl⟩:=hp c (Ax hm);have cT:=hc i _ m hm hm2;have ht:ls.take (i+1)=ls.take i++[m]:=by rw[DW,hm2];rfl
 obtain⟨R,hR⟩:∃R,ls.take i=R:=⟨_,rfl⟩
 rw[hR]at ht⊢;rcases R with _|⟨z,R⟩
 ·rw[show BW []=[]from rfl,If,Ig,EO]
  refine AH AW (As e1 wi kN) hm cT AB AB AB AB ?_;refine⟨(i+1,n+1+1+1+1+1+1+1+1,n+1+1+1+1+1+1+1+1+1+1+1+1),h2,by dsimp only;omega,?_⟩;dsimp only;rw[ht];exact AK
 ·rw[show BW (z::R)=i64 z::BW R from rfl,HT,HQ,D5,EO]
  obtain⟨O,hO⟩:∃O,BW R=O:=⟨_,rfl⟩
  have hOl:O.length+1=i:=by
   rw[<-hO,Ac]
   have:(z::R).length=i:=by rw[<-hR,Bb];omega
   exact this
  rw[hO];refine AH AW (As e1 wi kN) hm cT AB AB AB AB ?_;refine⟨(i+1,n+1+1+1+1+1+1+1+1,n+1+1+1+1+1+1+1+1+1+1+1+1),h2,by dsimp only;omega,?_⟩;dsimp only;rw[ht,show BW (z::R++[m])=i64 z::O++[i64 m]from by rw[<-hO];unfold BW;rw[Cs];rfl];rw[D5,HT,HQ,Bh];rw[show List.take (O.length+1) (i64 z::O)=i64 z::O from Cf (l:=i64 z::O)];exact AK
def Oq (k g sz:Nat)(env:Ar):Ar->Prop
 | []=>True
 |(t,d)::r=>(d=env.get t\/(env.get t=CP/\d=.osl k g sz 0 0))/\Oq k g sz env r
theorem Oq.get {k g sz:Nat}{env:Ar}:∀ {env':Ar},Oq k g sz env env'->∀t,env'.get t=.any\/env'.get t=env.get t\/(env.get t=CP/\env'.get t=.osl k g sz 0 0)
 | [],_,t=>.inl rfl
 |(q,d)::r,h,t=>by
  rw[IM]
  by_cases hk:q=t
  ·subst hk;rw[AG rfl];exact .inr h.1
  ·rw[AF hk];exact Oq.get h.2 t
theorem AC.ghost {C:BC}{B F:Ab}{rd:Option Nat}{c:Code}{s:St}{Q:Exit->Ab->St->Prop}(k T sz:Nat)(env':Ar)(he:Oq k s.n sz s.env env')(h:AC C B rd F c ⟨env',⟨k,s.n,T,sz,[]⟩::s.H,s.n+1⟩ Q):AC C B rd F c s Q:=⟨λhB hd ρ a w hs=>by
 obtain⟨m1,hO⟩:=hs.mem.ghost (k:=k) (n:=s.n) (T:=T) (sz:=sz) (hs.fresh k _ (Ai _));refine h.out hB hd ρ a w ⟨m1,λk g hg=>hs.fresh k g (by dsimp only at hg;omega),λe he=>?_,λt=>?_,hs.nt,hs.dfr⟩
 ·rcases BF.1 he with rfl|he
  ·exact HK _
  ·exact DE (hs.gen e he)
 ·have hr:=hs.env t
  dsimp only;rw[hO];rcases he.get t with h|h|⟨h1,h2⟩
  ·rw[h];exact .any _
  ·rw[h];exact hr
  ·rw[h2]
   rw[h1]at hr;generalize a.tmps.getD t undef=v at hr⊢;cases hr;exact .onil _ _ _⟩
def IY (l:List Int):Nat->Nat
 | 0=>0
 |k+1=>if l.getD (IY l k) 0<l.getD k 0 then k else IY l k
def FZ (l:List Int):Nat:=IY l l.length
theorem UQ {l:List Int}(h:0<l.length):∀k,k<=l.length->IY l k<l.length
 | 0,_=>h
 |k+1,hk=>by
  unfold IY;split
  ·omega
  ·exact UQ h k (by omega)
def Kq (mf:List Int->Int):Nat->List Int->List (Nat×Int)->List (Nat×Int)×Int
 | 0,_,_=>([],19)
 |k+1,l,out=>if l.getD (FZ l) 0=0 then(out,0)else if mf l=0 then([],7)else if out.length=256 then([],19)else Kq mf k (l.set (FZ l) (l.getD (FZ l) 0-mf l)) (out++[(FZ l,mf l)])
def Js (p:Nat×Int):D:=.agg [i64 (p.1:Int),i64 p.2]
instance  (p:Nat×Int):AT (Js p):=by unfold Js;exact AI
instance  (p:Nat×Int):AA (Js p):=by unfold Js;exact AI
theorem Oe {l:List Int}{i:Nat}(h:i<l.length):(BW l)[i]?=some (i64 (l.getD i 0)):=by
 rw[A0,Da,BE h];rfl
theorem mj (a1 a2 a3 a4:D)[AA a1][AA a2][AA a3][AA a4](b:Bool)(cs:List D)[pc:AA (.sl b 1 cs)](ls:List Int)(hlen:ls.length=cs.length)(h0:cs≠[])(hl:cs.length<=1000000)
  (hc:∀(i:Nat) (c:D) (m:Int),cs[i]?=some c->ls[i]?=some m->AJ C0 59 [c] (i64 m)) (hp:∀c∈cs,∃bb l,c=.sl bb 3 l/\AA c)
  (cK:AJ C0 32 [.agg [a1,a2,a3,a4,.sl b 1 cs]] (i64 0))
  (mf:List Int->Int) (I:List Int->Prop) (hI0:I ls) (hI:∀l,I l->l.getD (FZ l) 0≠0->AJ C0 74 [.agg [a1,a2,a3,a4,.sl b 1 cs],.sl false 1 (BW l),i64 ((FZ l:Nat):Int)] (i64 (mf l))/\IntKind.i64.wrap (l.getD (FZ l) 0-mf l)=l.getD (FZ l) 0-mf l/\I (l.set (FZ l) (l.getD (FZ l) 0-mf l))):
  AJ C0 51 [.agg [a1,a2,a3,a4,.sl b 1 cs]] (.tup [.sl false 2 ((Kq mf 257 ls []).1.map Js),i64 (Kq mf 257 ls []).2]):=by
 refine Ag.walk w1 cR rfl λF=>?_
 have e0:((0:Int) != 0)=false:=rfl;have cL:=λn=>iq a1 a2 a3 a4 b cs ls hlen h0 hl hc hp 0 (.agg [a1,a2,a3,a4,.sl b 1 cs]) n
 refine AH AW e0 cK AB AB AB AB AB ?_;refine A9.own _ (cL _) ?_;rintro d H' n' ⟨g,rfl,rfl⟩;refine AH AW kB AB AB AB AB AB AB ?_;obtain⟨N,hN⟩:∃N,ls.length=N:=⟨_,rfl⟩
 have hN0:0<N:=by rw[<-hN,hlen];exact List.length_pos_iff.2 h0
 have hN1:N<=1000000:=by omega
 rw[hN];clear cL cK hc hp;refine AC.ghost 2005 91 2 [(1,.optr 0 0 5 0 0),(5,.osl 2005 _ 2 0 0),(6,.osl 504 g 1 0 N)] ⟨.inl rfl,.inr ⟨rfl,rfl⟩,.inl rfl,trivial⟩ ?_;refine AC.loop (α:=List Int×List (Nat×Int)×Nat×Nat) (λp=>⟨[(1,.optr 0 0 5 0 0),(5,.osl 2005 p.2.2.1 2 0 p.2.1.length),(6,.osl 504 g 1 0 N)],[⟨2005,p.2.2.1,91,2,p.2.1.map Js⟩,⟨504,g,3,1,BW p.1⟩,⟨0,0,48,5,[.agg [a1,a2,a3,a4,.sl b 1 cs]]⟩],p.2.2.2⟩) (λp=>257-p.2.1.length)
  (λp=>p.1.length=N/\I p.1/\p.2.1.length<=256/\Kq mf (257-p.2.1.length) p.1 p.2.1=Kq mf 257 ls []) (ls,[],_,_) ⟨hN,hI0,BS _,rfl⟩ AK ?_
 rintro⟨l,out,go,n⟩ F ⟨hl1,hIl,ho,hR⟩;dsimp only at hl1 hIl ho hR⊢;obtain⟨OD,hOD⟩:∃O,out.map Js=O:=⟨_,rfl⟩
 have hODl:OD.length=out.length:=by rw[<-hOD,Ac]
 rw[hOD];obtain⟨L,hL⟩:∃L,BW l=L:=⟨_,rfl⟩
 have hLl:L.length=N:=by rw[<-hL,Ac,hl1]
 rw[hL];refine AH AW kB AB AB AB AB AB AB ?_;refine AC.loop (α:=Nat×Nat) (λp=>⟨[(1,.optr 0 0 5 0 0),(5,.osl 2005 go 2 0 out.length),(6,.osl 504 g 1 0 N),(18,.osl 504 g 1 0 N),(19,i64 (N:Int)),(20,i64 (p.1:Int)),(7,i64 ((IY l p.1:Nat):Int))],[⟨2005,go,91,2,OD⟩,⟨504,g,3,1,L⟩,⟨0,0,48,5,[.agg [a1,a2,a3,a4,.sl b 1 cs]]⟩],p.2⟩) (λp=>N-p.1) (λq=>q.1<=N) (0,_) (BS _) AK ?_;rintro⟨k,n⟩ F hk;dsimp only at hk⊢;rcases BA k N with h2|h2
 ·have e1:=Ch h2
  have wi:=CZ (i:=k) (by omega);have hm:=Oe (l:=l) (i:=k) (by omega);have hq:=UQ (l:=l) (by omega) k (by omega);have hm2:=Oe hq;obtain⟨u,hu⟩:∃u,l.getD k 0=u:=⟨_,rfl⟩
  obtain⟨v,hv⟩:∃v,l.getD (IY l k) 0=v:=⟨_,rfl⟩
  have hs:IY l (k+1)=if v<u then k else IY l k:=by rw[<-hu,<-hv];rfl
  rw[hu]at hm;rw[hv]at hm2;obtain⟨q,hq2⟩:∃q,IY l k=q:=⟨_,rfl⟩
  rw[hq2]at hm2 hs hq⊢;rw[hL]at hm hm2
  by_cases hlt:v<u
  ·have e2:decide (u>v)=true:=AX hlt
   rw[AG hlt]at hs;refine AH AW (CJ e1 e2 wi kN BR hm hm2) AB AB AB AB AB AB ?_;refine⟨(k+1,n+1000),h2,by dsimp only;omega,?_⟩;dsimp only;rw[hs];exact AK
  ·have e2:decide (u>v)=false:=Ad hlt
   rw[AF hlt]at hs;refine AH AW (CJ e1 e2 wi kN BR hm hm2) AB AB AB AB AB AB ?_;refine⟨(k+1,n+1000),h2,by dsimp only;omega,?_⟩;dsimp only;rw[hs];exact AK
 have e1:=Cg h2
 have:k=N:=by omega
 subst this;have hq:=UQ (l:=l) (by omega) k (by omega);have hm:=Oe hq;have hmI:IY l k=FZ l:=by unfold FZ;rw[hl1]
 rw[hmI]at hq hm⊢;have hIm:=hI l hIl;have hRs:Kq mf (257-out.length) l out=if l.getD (FZ l) 0=0 then(out,0)else if mf l=0 then([],7)else if out.length=256 then([],19)else Kq mf (256-out.length) (l.set (FZ l) (l.getD (FZ l) 0-mf l)) (out++[(FZ l,mf l)]):=by
  rw[show 257-out.length=(256-out.length)+1 by omega];rfl
 rw[hR]at hRs;obtain⟨q,hq2⟩:∃q,FZ l=q:=⟨_,rfl⟩
 rw[hq2]at hq hm hIm hRs⊢;obtain⟨v,hv⟩:∃v,l.getD q 0=v:=⟨_,rfl⟩
 rw[hv]at hm hIm hRs;rw[hL]at hm
 by_cases hv0:v=0
 ·have e2:(v==0)=true:=by rw[hv0];rfl
  rw[AG hv0]at hRs;rw[hRs];refine AH AW (CE e1 e2 kN BR hm) AB AB AB AB AB AB ?_;have hf:=GY (H:=[⟨2005,go,91,2,OD⟩,⟨504,g,3,1,L⟩,⟨0,0,48,5,[.agg [a1,a2,a3,a4,.sl b 1 cs]]⟩]) (Hf:=[]) (k:=2005) (g:=go) (T:=91) (sz:=2) (l:=OD) rfl;rw[hODl]at hf;rw[hOD];have pO:AA (.sl false 2 OD):=by rw[<-hOD];exact AI
  exact⟨_,Hy hf (.refl _),AA.out,rfl⟩
 rw[AF hv0]at hRs;have e2:(v==0)=false:=Bu.2 hv0;obtain⟨cM,wm,hI'⟩:=hIm hv0;obtain⟨m,hmm⟩:∃m,mf l=m:=⟨_,rfl⟩
 rw[hmm]at cM wm hI' hRs;have pL:AA (.sl false 1 (BW l)):=AI;rw[hL]at cM pL;have hfL:=GY (H:=[⟨2005,go,91,2,OD⟩,⟨504,g,3,1,L⟩,⟨0,0,48,5,[.agg [a1,a2,a3,a4,.sl b 1 cs]]⟩]) (Hf:=[]) (k:=504) (g:=g) (T:=3) (sz:=1) (l:=L) rfl;rw[hLl]at hfL;refine AH AW (CE e1 e2 kN BR hm) AB AB AB AB AB AB ?_;refine A9.own _ (Lw (H:=[⟨2005,go,91,2,OD⟩,⟨504,g,3,1,L⟩,⟨0,0,48,5,[.agg [a1,a2,a3,a4,.sl b 1 cs]]⟩]) cM rfl (λi a d h1 h2=>by
  match i with
  | 0=>cases h1;cases h2;exact .refl _ _
  | 1=>cases h1;cases h2;exact .of hfL
  | 2=>cases h1;cases h2;exact .refl _ _
  |n+3=>cases h1) AI (.prim _)) ?_
 rintro d H' n' ⟨rfl,rfl,rfl⟩
 by_cases hm0:m=0
 ·have e3:(m==0)=true:=by rw[hm0];rfl
  rw[AG hm0]at hRs;rw[hRs];refine AH AW e3 AB AB AB AB AB AB ?_;exact⟨_,Hy (.nil 2) (.refl _),AA.out,rfl⟩
 rw[AF hm0]at hRs;have e3:(m==0)=false:=Bu.2 hm0
 by_cases h256:out.length=256
 ·have e4:((out.length:Int)==256)=true:=by rw[h256];rfl
  rw[AG h256]at hRs;rw[hRs];refine AH AW (Ae e3 e4) AB AB AB AB AB AB ?_;exact⟨_,Hy (.nil 2) (.refl _),AA.out,rfl⟩
 rw[AF h256]at hRs;have e4:((out.length:Int)==256)=false:=Bu.2 (by omega);refine AH AW (Dj e3 e4 wm kN BR hm) AB AB AB AB AB AB ?_;have hle:out.length<256:=by omega
 refine⟨(l.set q (v-m),out++[(q,m)],n+1+1+1+1+1+1+1+1+1+1+1+1+1+1+1+1+1+1+1+1+1,n+1000),⟨by rw[DQ];exact hl1,?_,by rw[Bh];exact hle,?_⟩,?_,?_⟩
 ·exact hI'
 ·dsimp only
  rw[hRs,Bh];rw[show 257-(out.length+[(q,m)].length)=256-out.length by simp only[Bp,HE];omega]
 ·dsimp only
  rw[Bh];simp only[Bp,HE];omega
 ·dsimp only
  rw[Bh,Cs,hOD,B7 (show OD.length<=out.length by omega)];rw[show BW (l.set q (v-m))=L.set q (i64 (v-m))from by rw[<-hL];unfold BW;rw[List.map_set]];exact AK
def Ce (out:List AE)(x:AE):List AE:=match out.getLast? with
 |some y=>if Fj y x then out.dropLast++[y.w (y.mass+x.mass)]else out++[x]
 |none=>[x]
def Bl (l:List AE):List AE:=l.foldl Ce []
theorem ma {l:List AE}{i:Nat}{x:AE}(h:l[i]?=some x):(l.take (i+1)).foldl Ce []=Ce ((l.take i).foldl Ce []) x:=by
 rw[DW,h];simp
theorem jz {R:List AE}{y x:AE}(h:R[R.length-1]?=some y):Ce R x=if Fj y x then R.dropLast++[y.w (y.mass+x.mass)]else R++[x]:=by
 unfold Ce;rw[List.getLast?_eq_getElem?,h]
theorem lx {R:List AE}{y z:AE}(h:R[R.length-1]?=some y):R.set (R.length-1) z=R.dropLast++[z]:=by
 have hl:=(List.getElem?_eq_some_iff.1 h).1;rw[List.set_eq_take_append_cons_drop,AG hl,List.dropLast_eq_take];rw[show R.length-1+1=R.length by omega,I5]
def VI (l:List AE)(i:Nat)(R:List AE):Prop:=R=(l.take i).foldl Ce []/\R.length<=i/\∀y∈R,0<=y.mass/\y.mass<=(i:Int)*1000000000/\y.shs.length<=1000000
def Re (i:Nat)(R:List AE):Prop:=R.length<=i/\∀y∈R,0<=y.mass/\y.mass<=(i:Int)*1000000000/\y.shs.length<=1000000
theorem XK {i:Nat}{R:List AE}{x:AE}(hJ:Re i R)(hm:0<=x.mass/\x.mass<=1000000000/\x.shs.length<=1000000):Re (i+1) (Ce R x):=by
 obtain⟨h2,h3⟩:=hJ;refine⟨?_,?_⟩
 ·unfold Ce
  split
  ·split
   ·rw[Bh,List.length_dropLast];simp;omega
   ·rw[Bh];simp;omega
  ·simp
 ·have hR:∀y∈R,0<=y.mass/\y.mass<=((i+1:Nat):Int)*1000000000/\y.shs.length<=1000000:=λy hy=>by
   obtain⟨a,b,c⟩:=h3 y hy;exact⟨a,by omega,c⟩
  have hxx:0<=x.mass/\x.mass<=((i+1:Nat):Int)*1000000000/\x.shs.length<=1000000:=⟨by omega,by omega,hm.2.2⟩
  intro z hz;unfold Ce at hz;split at hz
  ·rename_i y hy
   have hyR:=List.mem_of_getLast? hy;split at hz
   ·rcases List.mem_append.1 hz with hz|hz
    ·exact hR z ((List.dropLast_sublist R).subset hz)
    ·obtain rfl:=List.mem_singleton.1 hz
     obtain⟨a,b,c⟩:=h3 y hyR;refine⟨?_,?_,c⟩
     ·show 0<=y.mass+x.mass;omega
     ·show y.mass+x.mass<=_;omega
   ·rcases List.mem_append.1 hz with hz|hz
    ·exact hR z hz
    ·obtain rfl:=List.mem_singleton.1 hz;exact hxx
  ·obtain rfl:=List.mem_singleton.1 hz;exact hxx
theorem jx {l:List AE}{i:Nat}{R:List AE}{x:AE}(hJ:VI l i R)(hx:l[i]?=some x)(hm:1<=x.mass/\x.mass<=1000000000/\x.shs.length<=1000000):VI l (i+1) (Ce R x):=
 ⟨by rw[ma hx,<-hJ.1],XK hJ.2 ⟨by omega,hm.2⟩⟩
def NW (l:List AE):List AE:=l.filter λx=>x.mass != 0
abbrev QR:Dr:=[(6,[0,1,2,3,4,5,6,7,8,9,10,11],[12,13]),(7,[0,1,2,3,4,5,6,7,8,9,10,11,12,13,14],[15,16,17])]
open Go.Proofs Go.RowKit
set_option maxRecDepth 20000
set_option maxHeartbeats 4000000
theorem Td (b:Bool)(l:List AE)(hl:l.length<=1000000)(hx:∀x∈l,1<=x.mass/\x.mass<=1000000000/\x.shs.length<=1000000):AJ C0 40 [Al b l] (Al false (Bl l)):=by
 refine Ag.walk w1 vD rfl λF=>?_
 have el:(((l.map AE.D).length:Nat):Int)=(l.length:Int):=by rw[Ac]
 refine sR 0 ?_;refine sR 100 ?_;refine AC.seq ?_;refine sR 200 ?_;refine AC.ghost 906 27 3 [(0,Al b l),(3,.osl 906 _ 3 0 0),(4,i64 ((0:Nat):Int))] ⟨.inl rfl,.inr ⟨rfl,rfl⟩,.inl rfl,trivial⟩ ?_;refine AC.block ?_;refine AC.loop (α:=Nat×List AE×Nat×Nat) (λp=>⟨[(0,Al b l),(3,.osl 906 p.2.2.1 3 0 p.2.1.length),(4,i64 (p.1:Int))],[⟨906,p.2.2.1,27,3,p.2.1.map AE.D⟩],p.2.2.2⟩) (λp=>l.length-p.1) (λq=>q.1<=l.length/\VI l q.1 q.2.1) (0,[],_,_) ⟨BS _,rfl,Ai _,λy h=>by cases h⟩ AK ?_;rintro⟨i,R,g,n⟩ F ⟨hi,hJ⟩;dsimp only at hi hJ⊢;rcases BA i l.length with h2|h2
 rotate_left
 ·have k1:=Cg h2
  have:i=l.length:=by omega
  subst this;have hR:=hJ.1;rw[Cf]at hR;have hf:=GY (H:=[⟨906,g,27,3,R.map AE.D⟩]) (Hf:=[]) (k:=906) (g:=g) (T:=27) (sz:=3) (l:=R.map AE.D) rfl;rw[Ac]at hf;refine AH QR (Ae el k1) AB AB AB AB AB AB ?_;exact⟨_,hf,AA.out,by rw[hR];rfl⟩
 have k1:=Ch h2;have wi:=CZ (i:=i) (by omega);obtain⟨x,hx'⟩:=CL h2;have hxm:=hx x (Ax hx');have hJ':=jx hJ hx' hxm;have hm:(l.map AE.D)[i]?=some (.agg [str (sb x.grain),i64 x.mass,.sl false 2 (x.shs.map Au.D)]):=by rw[A0,hx'];rfl
 have g0:decide (x.mass>0)=true:=AX (by omega);have hRl:(R.map AE.D).length=R.length:=Ac ..;have hRb:=hJ.2.1;rcases Dh R.length with hR0|hR0
 ·have hRn:R=[]:=FF hR0
  subst hRn;have g1:decide (((0:Nat):Int)>0)=false:=rfl;obtain⟨S,hS⟩:∃S,x.shs.map Au.D=S:=⟨_,rfl⟩
  have pS:AA (.sl false 2 S):=by rw[<-hS];exact AI
  rw[hS]at hm;rw[HE,List.map_nil];refine AH QR (CJ el k1 g0 g1 wi kN (Ae kT kF)) hm AB AB AB AB AB ?_;refine⟨(i+1,[x],n+1+1+1+1+1+1+1+14+1+1+1+1+1+1+1+1+1+1+1+1+1+1,n+1000),⟨h2,hJ'⟩,by dsimp only;omega,?_⟩;dsimp only;rw[show[x].map AE.D=[.agg [str (sb x.grain),i64 x.mass,.sl false 2 S]]from by rw[<-hS];rfl];exact AK
 have g1:decide ((R.length:Int)>0)=true:=AX (by omega);obtain⟨y,hy⟩:=CL (show R.length-1<R.length by omega);have hym:=hJ.2.2 y (Ax hy);have w2:IntKind.i64.wrap ((R.length:Int)-1)=((R.length-1:Nat):Int):=by rw[wI (by omega) (by omega)];omega
 have w3:IntKind.i64.wrap (y.mass+x.mass)=y.mass+x.mass:=wI (by omega) (by omega);have hm2:(R.map AE.D)[R.length-1]?=some (.agg [str (sb y.grain),i64 y.mass,.sl false 2 (y.shs.map Au.D)]):=by rw[A0,hy];rfl
 have cK:=qG y x hym.2.2 hxm.2.2;have hN:=jz (x:=x) hy;have hset:=lx (z:=y.w (y.mass+x.mass)) hy;unfold AE.D Cb at cK;obtain⟨S,hS⟩:∃S,x.shs.map Au.D=S:=⟨_,rfl⟩
 have pS:AA (.sl false 2 S):=by rw[<-hS];exact AI
 obtain⟨SY,hSY⟩:∃S,y.shs.map Au.D=S:=⟨_,rfl⟩
 have pSY:AA (.sl false 2 SY):=by rw[<-hSY];exact AI
 rw[hS]at hm cK;rw[hSY]at cK hm2;obtain⟨RD,hRD⟩:∃T,R.map AE.D=T:=⟨_,rfl⟩
 rw[hRD]at hm2 hRl⊢;have hr:0<=((R.length-1:Nat):Int)/\((R.length-1:Nat):Int)<(R.length:Int):=by omega
 obtain⟨q,hq⟩:∃q,Fj y x=q:=⟨_,rfl⟩
 rw[hq]at cK hN;cases q
 ·rw[hN,AF Bool.false_ne_true]at hJ'
  refine AH QR (CJ el k1 g0 g1 w2 wi (CE kN BR hm2 kT kF)) hm cK AB AB AB AB ?_;refine⟨(i+1,R++[x],n+1+1+1+1+1+1+1+14+1+1+1+1+1+1+1+1+1+1+1+1+1+1,n+1000),⟨h2,hJ'⟩,by dsimp only;omega,?_⟩;dsimp only;rw[Bh,Cs,hRD,B7 (show RD.length<=R.length by omega)];rw[show[x].map AE.D=[.agg [str (sb x.grain),i64 x.mass,.sl false 2 S]]from by rw[<-hS];rfl];exact AK
 ·rw[hN,AG rfl]at hJ'
  refine AH QR (CJ el k1 g0 g1 w2 w3 (Dj wi kN BR hm2 kT kF)) hm cK AB AB AB AB ?_;refine⟨(i+1,R.dropLast++[y.w (y.mass+x.mass)],g,n+1000),⟨h2,hJ'⟩,by dsimp only;omega,?_⟩;dsimp only;rw[<-hset,DQ,List.map_set,hRD];rw[show(y.w (y.mass+x.mass)).D=.agg [str (sb y.grain),i64 (y.mass+x.mass),.sl false 2 SY]from by rw[<-hSY];rfl];exact AK
abbrev Gw:Dr:=[(11,[0,1,2,3,4,5,6,7,8,9,10,11,12,13],[14,15])]
open Go.Proofs Go.RowKit
set_option maxRecDepth 20000
set_option maxHeartbeats 4000000
theorem ZF {l:List Au}:∀i,i<=l.length->(∀j,j<i->CW (Fc l j).part=0)->rk (En l i) (601*i+1)
 | 0,_,_=>(Y8 1 (Ai _)).rk
 |i+1,hi,h=>(bj (ZF i (by omega) λj hj=>h j (by omega)) (Mf (h i (by omega)))).mono (by omega)
theorem oH {l:List Au}{i:Nat}(h:FJ l i=0):CW (Fc l i).part=0:=by
 unfold FJ at h;split at h
 ·cases h
 split at h
 ·cases h
 split at h
 ·exact h
 ·rename_i h1;exact Decidable.not_not.1 h1
theorem yY (b:Bool)(l:List Au)(hl:l.length<=15\/64<l.length)(hl2:l.length<=9223372036854775807)(hf:∀s∈l,s.few):AJ C0 119 [Cb b l] (i64 (HW l:Nat)):=by
 refine Ag.walk w1 qD rfl λF=>?_
 have el:(((l.map Au.D).length:Nat):Int)=(l.length:Int):=by rw[Ac]
 have hC:HW l=if l.length=0 then 2 else if 64<l.length then 5 else if Df (FJ l) l.length≠0 then Df (FJ l) l.length else if En l l.length=1 then 0 else 12:=rfl
 rcases Nat.decEq l.length 0 with h0|h0
 rotate_left
 ·rw[AG h0]at hC
  rw[hC];have q1:((l.length:Int)==0)=true:=by rw[h0];rfl
  refine AH Gw (Ae el q1) AB AB AB AB AB AB ?_;exact AL rfl AA.out
 rw[AF h0]at hC;have q1:((l.length:Int)==0)=false:=Bu.2 (by omega)
 by_cases h64:64<l.length
 ·rw[AG h64]at hC
  rw[hC];have q2:decide ((l.length:Int)>64)=true:=AX (by omega);refine AH Gw (As el q1 q2) AB AB AB AB AB AB ?_;exact AL rfl AA.out
 rw[AF h64]at hC;have q2:decide ((l.length:Int)>64)=false:=Ad (by omega);have h15:l.length<=15:=by omega
 refine AH Gw (As el q1 q2) AB AB AB AB AB AB ?_;refine AC.loop (α:=Nat×Nat) (λp=>⟨[(0,Cb b l),(3,rR (En l p.1)),(4,i64 (p.1:Int))],[],p.2⟩) (λp=>l.length-p.1) (λp=>p.1<=l.length/\∀j,j<p.1->FJ l j=0) (0,_)
  ⟨BS _,λj h=>Ah h (Gp j)⟩ (by(dsimp only;rw[show rR (En l 0)=str ⟨#[48]⟩from nq];exact AK)) ?_
 rintro⟨i,m⟩ F ⟨hi,hz⟩;dsimp only at hi hz⊢;have hSk:=ZF (l:=l) i hi λj hj=>oH (hz j hj)
 rcases BA i l.length with h2|h2
 rotate_left
 ·have e1:=Cg h2
  have:i=l.length:=by omega
  subst this;rw[AF (λh=>h (MC hz))]at hC;have e2:=iP (En l l.length);obtain⟨q,hq⟩:∃q,decide (En l l.length=1)=q:=⟨_,rfl⟩
  rw[hq]at e2;unfold rR;cases q
  ·rw[AF (DL hq)]at hC
   rw[hC];refine AH Gw (As e1 el e2) AB AB AB AB AB AB ?_;exact AL rfl AA.out
  ·rw[AG (DA hq)]at hC
   rw[hC];refine AH Gw (As e1 el e2) AB AB AB AB AB AB ?_;exact AL rfl AA.out
 have e1:=Ch h2;have wi:=CZ (i:=i) (by omega);obtain⟨s,hs⟩:=CL h2;have hm:(l.map Au.D)[i]?=some (.agg [str (sb s.lot),str (sb s.part)]):=by rw[A0,hs];rfl
 obtain⟨f1,f2⟩:=hf s (Ax hs);have hE:FJ l i=if DZ s.lot=false then 8 else if 0<i/\Oh s.lot (Fc l (i-1)).lot=true then 11 else if CW s.part≠0 then CW s.part else if Gf (CN s.part)<=0 then 12 else 0:=by unfold FJ;rw[JO hs]
 have hbad:∀e:Nat,e≠0->FJ l i=e->HW l=e:=λe he h=>by
  have:=OI hz h2 (by rw[h];exact he)
  rw[hC,this,h,AG he]
 have cN:=dj s.lot (by omega);obtain⟨N,hN⟩:∃q,DZ s.lot=q:=⟨_,rfl⟩
 rw[hN]at cN hE;cases N
 ·rw[AG rfl]at hE
  rw[hbad 8 (by decide) hE];refine AH Gw (As e1 el kN) hm cN AB AB AB AB ?_;exact AL rfl AA.out
 rw[AF (by decide)]at hE;have cC:=uD s.part f2;rcases i with _|q
 ·have g0:decide (((0:Nat):Int)>0)=false:=rfl
  rw[AF (λh=>Ah h.1 (Nat.lt_irrefl 0))]at hE;rcases Nat.decEq (CW s.part) 0 with hc0|hc0
  ·rw[AG hc0]at hE
   have e3:=GE hc0;rw[hbad (CW s.part) hc0 hE];refine AH Gw (CE e1 el g0 kN e3) hm cN cC AB AB AB ?_;exact AL rfl AA.out
  rw[AF (λh=>h hc0)]at hE;have e3:=GG hc0;have cG:=bA (CN s.part) (YD hc0);have cA:=eJ (En l 0) (CN s.part) (601*0+1) 600 hSk (Mf hc0) (by omega);rw[UJ hc0]at cG cA;have hnext:En l (0+1)=En l 0+CN s.part:=by show _+CN (Fc l 0).part=_;rw[JO hs]
  rw[<-hnext]at cA;obtain⟨sg,hsg⟩:∃q,Gf (CN s.part)=q:=⟨_,rfl⟩
  rw[hsg]at cG hE
  by_cases hs0:sg<=0
  ·rw[AG hs0]at hE
   have e4:decide (sg<=0)=true:=AX hs0;rw[hbad 12 (by decide) hE];refine AH Gw (Dj e1 el g0 kN e3 e4) hm cN cC cG AB AB ?_;exact AL rfl AA.out
  rw[AF hs0]at hE;have e4:decide (sg<=0)=false:=Ad hs0;refine AH Gw (CJ e1 el g0 kN e3 e4 wi) hm cN cC cG cA AB ?_;exact⟨(0+1,_),⟨h2,λj hj=>by
   rcases Nat.lt_succ_iff_lt_or_eq.1 hj with q|q
   ·exact hz j q
   ·rw[q];exact hE⟩,by dsimp only;omega,AK⟩
 ·have g0:decide (((q+1:Nat):Int)>0)=true:=AX (by omega)
  have g1:IntKind.i64.wrap (((q+1:Nat):Int)-1)=(q:Int):=by rw[wI (by omega) (by omega)];omega
  obtain⟨s0,hs0'⟩:=CL (l:=l) (i:=q) (by omega);have hm0:(l.map Au.D)[q]?=some (.agg [str (sb s0.lot),str (sb s0.part)]):=by rw[A0,hs0'];rfl
  rw[IT,JO hs0']at hE;obtain⟨bL,hbL⟩:∃q,Oh s.lot s0.lot=q:=⟨_,rfl⟩
  have g2:(Le (sb s.lot) (sb s0.lot)||BI (sb s.lot) (sb s0.lot))=bL:=hbL;rw[hbL]at hE;cases bL
  rotate_left
  ·rw[AG ⟨Nat.succ_pos q,rfl⟩]at hE
   rw[hbad 11 (by decide) hE];refine AH Gw (Dj e1 el g0 g1 g2 kN) hm hm0 cN AB AB AB ?_;exact AL rfl AA.out
  rw[AF (λh=>Ah h.2 (by decide))]at hE;rcases Nat.decEq (CW s.part) 0 with hc0|hc0
  ·rw[AG hc0]at hE
   have e3:=GE hc0;rw[hbad (CW s.part) hc0 hE];refine AH Gw (CJ e1 el g0 g1 g2 kN e3) hm hm0 cN cC AB AB ?_;exact AL rfl AA.out
  rw[AF (λh=>h hc0)]at hE;have e3:=GG hc0;have cG:=bA (CN s.part) (YD hc0);have cA:=eJ (En l (q+1)) (CN s.part) (601*(q+1)+1) 600 hSk (Mf hc0) (by omega);rw[UJ hc0]at cG cA;have hnext:En l ((q+1)+1)=En l (q+1)+CN s.part:=by show _+CN (Fc l (q+1)).part=_;rw[JO hs]
  rw[<-hnext]at cA;obtain⟨sg,hsg⟩:∃q,Gf (CN s.part)=q:=⟨_,rfl⟩
  rw[hsg]at cG hE
  by_cases hs0:sg<=0
  ·rw[AG hs0]at hE
   have e4:decide (sg<=0)=true:=AX hs0;rw[hbad 12 (by decide) hE];refine AH Gw (CJ e1 el g0 g1 g2 kN (Ae e3 e4)) hm hm0 cN cC cG AB ?_;exact AL rfl AA.out
  rw[AF hs0]at hE;have e4:decide (sg<=0)=false:=Ad hs0;refine AH Gw (CJ e1 el g0 g1 g2 kN (As e3 e4 wi)) hm hm0 cN cC cG cA ?_;exact⟨((q+1)+1,_),⟨h2,λj hj=>by
   rcases Nat.lt_succ_iff_lt_or_eq.1 hj with q|q
   ·exact hz j q
   ·rw[q];exact hE⟩,by dsimp only;omega,AK⟩
theorem yP (x:AE)(hs:x.shs.length<=15\/64<x.shs.length)(hf:x.few):AJ C0 64 [x.D] (i64 (Cj x:Nat)):=by
 refine Ag.walk w1 vM rfl λF=>?_
 obtain⟨f1,f2,f3⟩:=hf;have cN:=dj x.grain (by omega);have cS:=yY false x.shs hs f2 f3;have hC:Cj x=if DZ x.grain=false then 8 else if x.mass<1\/x.mass>999999999 then 3 else HW x.shs:=rfl
 obtain⟨N,hN⟩:∃q,DZ x.grain=q:=⟨_,rfl⟩
 obtain⟨SD,hSD⟩:∃d,Cb false x.shs=d:=⟨_,rfl⟩
 have pS:AA SD:=by rw[<-hSD];exact AI
 have hna:JM SD=true:=by rw[<-hSD];rfl
 unfold AE.D;rw[hN]at cN hC;rw[hSD]at cS⊢;cases N
 ·rw[AG rfl]at hC
  rw[hC];refine AH AW kB cN AB AB AB AB AB ?_;exact AL rfl AA.out
 rw[AF (by decide)]at hC
 by_cases h1:x.mass<1
 ·rw[AG (.inl h1)]at hC
  rw[hC];have e1:decide (x.mass<1)=true:=AX h1;refine AH AW e1 cN AB AB AB AB AB ?_;exact AL rfl AA.out
 have e1:decide (x.mass<1)=false:=Ad h1
 by_cases h2:x.mass>999999999
 ·rw[AG (.inr h2)]at hC
  rw[hC];have e2:decide (x.mass>999999999)=true:=AX h2;refine AH AW (Ae e1 e2) cN AB AB AB AB AB ?_;exact AL rfl AA.out
 have e2:decide (x.mass>999999999)=false:=Ad h2;rw[AF (by omega)]at hC;rw[hC];refine AH AW (As e1 e2 hna) cN cS AB AB AB AB ?_;exact AL rfl AA.out
theorem LU {H Hf:Hp}{K g T sz n:Nat}{l:List D}(h:Hp.get H K=some ⟨K,g,T,sz,l⟩)(hf:Hp.get Hf K=none)(hn:n=l.length):Fz H Hf (.osl K g sz 0 n) (.sl false sz l):=by
 subst hn;refine .osl (e:=⟨K,g,T,sz,l⟩) h hf rfl rfl (by simp) (by simp) (λj d d' h1 h2=>?_) λj d d' q c c' h1 h2 h3 h4=>?_
 ·rw[BR]at h1;rw[h1]at h2;cases h2;rfl
 ·rw[BR]at h1;rw[h1]at h2;cases h2;rw[h3]at h4;cases h4;exact Fz.refl _
def Hh (lot:List UInt8)(r:Rat):By->By
 | []=>[(lot,r)]
 |p::l=>if ltStr p.1 lot then p::Hh lot r l else if p.1=lot then(p.1,p.2+r)::l else(lot,r)::p::l
def Lp (x:AE)(n:Nat)(q:By):By:=(x.shs.take n).foldl (λacc s=>Hh s.lot (CN s.part*(x.mass:Rat)) acc) q
def KX (l:List AE):By:=l.foldl (λacc x=>Lp x x.shs.length acc) []
theorem jT (x:AE)(n:Nat)(q:By){s:Au}(h:x.shs[n]?=some s):Lp x (n+1) q=Hh s.lot (CN s.part*(x.mass:Rat)) (Lp x n q):=by
 unfold Lp;rw[DW,h,List.foldl_append];rfl
theorem iv (l:List AE)(n:Nat){x:AE}(h:l[n]?=some x):KX (l.take (n+1))=Lp x x.shs.length (KX (l.take n)):=by
 unfold KX;rw[DW,h,List.foldl_append];rfl
abbrev Gt (q:By):Prop:=q.Pairwise λa b=>ltStr a.1 b.1=true
theorem Gt.nd {q:By}(h:Gt q):(Cp q).Nodup:=by
 rw[Cp,List.Nodup,List.pairwise_map];exact h.imp λ{a b} h e=>by rw[e,swo_ltStr.irrefl]at h;cases h
theorem P4 {lot:List UInt8}{o v:Rat}:∀ {q:By},Fk lot q=some o->∃A B,q=A++(lot,o)::B/\GH lot v q=A++(lot,v)::B
 | [],h=>by simp[Fk]at h
 |p::l,h=>by
  unfold Fk at h;unfold GH;split at h
  ·rename_i e
   cases h;rw[AG e];exact⟨[],l,by rw[e];rfl,rfl⟩
  ·rename_i e
   rw[AF e];obtain⟨A,B,h1,h2⟩:=P4 (v:=v) h;exact⟨p::A,B,by rw[h1];rfl,by rw[h2];rfl⟩
theorem Si {lot:List UInt8}{v:Rat}:∀ {q:By},Fk lot q=none->lot∉Cp q/\GH lot v q=q++[(lot,v)]
 | [],_=>⟨by simp[Cp],rfl⟩
 |p::l,h=>by
  unfold Fk at h;unfold GH;split at h
  ·cases h
  ·rename_i e
   rw[AF e];obtain⟨h1,h2⟩:=Si (v:=v) h;exact⟨λq=>by
    rcases BF.1 q with q|q
    ·exact e q
    ·exact h1 q,by rw[h2];rfl⟩
theorem Xw {lot:List UInt8}{r:Rat}:∀ {Q:By},Gt Q->(∃A o B,Q=A++(lot,o)::B/\Hh lot r Q=A++(lot,o+r)::B)\/(lot∉Cp Q/\∃A B,Q=A++B/\Hh lot r Q=A++(lot,r)::B)
 | [],_=>.inr ⟨by simp[Cp],[],[],rfl,rfl⟩
 |p::l,h=>by
  have hp:=Dw.1 h;unfold Hh;split
  ·rename_i e
   rcases Xw (lot:=lot) (r:=r) hp.2 with⟨A,o,B,h1,h2⟩|⟨h0,A,B,h1,h2⟩
   ·exact .inl ⟨p::A,o,B,by rw[h1];rfl,by rw[h2];rfl⟩
   ·refine .inr ⟨λq=>?_,p::A,B,by rw[h1];rfl,by rw[h2];rfl⟩
    rcases BF.1 q with q|q
    ·rw[show p.1=lot from q.symm,swo_ltStr.irrefl]at e;cases e
    ·exact h0 q
  ·rename_i e
   split
   ·rename_i e2
    exact .inl ⟨[],p.2,l,by rw[<-e2];rfl,by rw[e2];rfl⟩
   ·rename_i e2
    refine .inr ⟨λq=>?_,[],p::l,rfl,rfl⟩;rcases BF.1 q with q|q
    ·exact e2 q.symm
    ·obtain⟨z,hz,rfl⟩:=List.mem_map.1 q
     exact e (hp.1 z hz)
theorem XA {lot:List UInt8}{r:Rat}:∀ {Q:By},∀z∈Hh lot r Q,z.1=lot\/z.1∈Cp Q
 | [],z,hz=>by
  unfold Hh at hz;rw[List.mem_singleton]at hz;exact .inl (by rw[hz])
 |p::l,z,hz=>by
  unfold Hh at hz;split at hz
  ·rcases BF.1 hz with rfl|hz
   ·exact .inr CM
   ·rcases XA z hz with h|h
    ·exact .inl h
    ·exact .inr (CQ _ h)
  ·split at hz
   ·rcases BF.1 hz with rfl|hz
    ·exact .inr CM
    ·exact .inr (CQ _ (List.mem_map_of_mem hz))
   ·rcases BF.1 hz with rfl|hz
    ·exact .inl rfl
    ·exact .inr (List.mem_map_of_mem hz)
theorem Yn {lot:List UInt8}{r:Rat}:∀ {Q:By},Gt Q->Gt (Hh lot r Q)
 | [],_=>List.pairwise_singleton _ _
 |p::l,h=>by
  have hp:=Dw.1 h;unfold Hh;split
  ·rename_i e
   refine Dw.2 ⟨λz hz=>?_,Yn hp.2⟩;rcases XA z hz with h|h
   ·rw[h];exact e
   ·obtain⟨y,hy,h2⟩:=List.mem_map.1 h
    rw[<-h2];exact hp.1 y hy
  ·rename_i e
   split
   ·exact Dw.2 ⟨hp.1,hp.2⟩
   ·rename_i e2
    have e3:ltStr lot p.1=true:=by
     cases h9:ltStr lot p.1 with
     |true=>rfl
     |false=>exact Ah (Wa (by simpa using e) h9) e2
    refine Dw.2 ⟨λz hz=>?_,h⟩;rcases BF.1 hz with rfl|hz
    ·exact e3
    ·exact swo_ltStr.trans _ _ _ e3 (hp.1 z hz)
theorem nE {Q q:By}(hs:Gt Q)(hp:Q.Perm q)(lot:List UInt8)(r:Rat):(Hh lot r Q).Perm (Jc lot r q):=by
 have hnd:(Cp Q).Nodup:=hs.nd;unfold Jc;rcases Xw (lot:=lot) (r:=r) hs with⟨A,o,B,h1,h2⟩|⟨h0,A,B,h1,h2⟩
 ·have hm:(lot,o)∈q:=hp.mem_iff.1 (by rw[h1];simp)
  have hqn:(Cp q).Nodup:=(hp.map _).nodup_iff.1 hnd;have hlk:=Sb hqn hm;dsimp only at hlk;rw[hlk];dsimp only;obtain⟨A2,B2,h3,h4⟩:=P4 (v:=r+o) hlk;rw[h2,h4];have p1:(A++(lot,o)::B).Perm ((lot,o)::(A++B)):=HG;have p2:(A2++(lot,o)::B2).Perm ((lot,o)::(A2++B2)):=HG;have p3:(A++B).Perm (A2++B2):=by
   rw[h1,h3]at hp;exact List.Perm.cons_inv (p1.symm.trans (hp.trans p2))
  rw[Rat.add_comm o r];exact HG.trans ((p3.cons _).trans HG.symm)
 ·have hn:Fk lot q=none:=by
   cases h9:Fk lot q with
   |none=>rfl
   |some o=>
    obtain⟨A2,B2,h3,-⟩:=P4 (v:=o) h9;exact Ah ((hp.map (·.1)).mem_iff.2 (by rw[h3];simp)) h0
  rw[hn];dsimp only;rw[(Si (v:=r) hn).2,h2];rw[h1]at hp;exact HG.trans ((hp.cons _).trans (List.perm_append_singleton _ _).symm)
theorem Yo {Q q:By}(hs:Gt Q)(hp:Q.Perm q)(x:AE):∀j,j<=x.shs.length->Gt (Lp x j Q)/\(Lp x j Q).Perm (GC x j q)
 | 0,_=>⟨hs,hp⟩
 |j+1,hj=>by
  obtain⟨s,hsj⟩:∃s,x.shs[j]?=some s:=⟨_,BE hj⟩
  obtain⟨h1,h2⟩:=Yo hs hp x j (by omega);rw[jT x j Q hsj,Nd x j q hsj];exact⟨Yn h1,nE h1 h2 _ _⟩
theorem S7 (l:List AE):∀i,i<=l.length->Gt (KX (l.take i))/\(KX (l.take i)).Perm (CF (l.take i))
 | 0,_=>⟨List.Pairwise.nil,.refl _⟩
 |i+1,hi=>by
  obtain⟨x,hx⟩:∃x,l[i]?=some x:=⟨_,BE hi⟩
  obtain⟨h1,h2⟩:=S7 l i (by omega);rw[iv l i hx,Pm l i hx];exact Yo h1 h2 x _ (Ai _)
theorem Gt.weak {q:By}(h:Gt q):q.Pairwise λa b=>ltStr b.1 a.1=false:=h.imp λ{a b} h=>by
 cases h9:ltStr b.1 a.1 with
 |false=>rfl
 |true=>have:=swo_ltStr.trans _ _ _ h h9;rw[swo_ltStr.irrefl]at this;cases this
theorem Xz (l:List AE):KX l=E8 (CF l):=by
 obtain⟨h1,h2⟩:=S7 l l.length (Ai _);rw[Cf]at h1 h2;exact SL ((h2.map _).nodup_iff.1 h1.nd) h2 (Jx _) h1.weak (Qf _)
theorem mS (l:List AE):Gt (KX l):=by
 obtain⟨h1,-⟩:=S7 l l.length (Ai _)
 rwa [Cf]at h1
def Dp (g:List UInt8)(x:AE):AE:=⟨g,x.mass,x.shs⟩
def G6 (l:List AE)(g:List UInt8):Nat:=if B3 l≠0 then B3 l else if DZ g=false then 8 else if l.length=0 then 13 else 0
def IE (l:List AE)(g:List UInt8):Nat:=if G6 l g≠0 then G6 l g else Gh (l.map (Dp g))
def Lb (l:List AE)(g:List UInt8):AE:=if G6 l g≠0 then⟨[],0,[]⟩else Ki (l.map (Dp g))
theorem nv (g:List UInt8){l:List AE}{i:Nat}{x:AE}(hx:l[i]?=some x):
  (((l.take i).map (Dp g)++l.drop i).map AE.D).set i (.agg [str (sb g),i64 x.mass,.sl false 2 (x.shs.map Au.D)])=((l.take (i+1)).map (Dp g)++l.drop (i+1)).map AE.D:=by
 have hi:=(List.getElem?_eq_some_iff.1 hx).1;have hd:l.drop i=x::l.drop (i+1):=by
  rw[EI hi,(List.getElem?_eq_some_iff.1 hx).2]
 rw[DW,hx,hd];simp only[Cs,Ct,Option.toList_some,List.map_nil,Di,D5,EO];rw[PG _ _ (by simp;omega)]
 have:i-(((l.take i).map (Dp g)).map AE.D).length=0:=by simp;omega
 rw[this];rfl
theorem dZ (b:Bool)(l:List AE)(g:List UInt8)(hl:l.length<=1000000)(hf:∀x∈l,x.lite)(hg:g.length<=100000):AJ C0 11 [Al b l,str (sb g)] (.tup [(Lb l g).D,i64 (IE l g:Nat)]):=by
 refine Ag.walk w1 bu rfl λF=>?_
 have el:(((l.map AE.D).length:Nat):Int)=(l.length:Int):=by rw[Ac]
 have cP:=M4 b l (by omega) λx hx=>(hf x hx).1
 have cN:=Qb g;have hN:IE l g=if G6 l g≠0 then G6 l g else Gh (l.map (Dp g)):=rfl
 have hL:Lb l g=if G6 l g≠0 then⟨[],0,[]⟩else Ki (l.map (Dp g)):=rfl
 have hE:G6 l g=if B3 l≠0 then B3 l else if DZ g=false then 8 else if l.length=0 then 13 else 0:=rfl
 obtain⟨K,hK⟩:∃K,DZ g=K:=⟨_,rfl⟩
 have cW1:=HZ (!K) 8;have cW2:=HZ ((l.length:Int)==0) 13;have cF:AJ C0 54 [.sl true 1 [i64 (B3 l:Nat),i64 (if !K then 8 else 0),i64 (if(l.length:Int)==0 then 13 else 0)]] (i64 (G6 l g:Nat)):=by
  have:=OP [(B3 l:Int),if !K then 8 else 0,if(l.length:Int)==0 then 13 else 0] (by simp)
  have he:FN [(B3 l:Int),if !K then 8 else 0,if(l.length:Int)==0 then 13 else 0]=((G6 l g:Nat):Int):=by
   rw[hE,hK]
   by_cases h1:B3 l=0<;>cases K<;>by_cases h3:l.length=0<;>simp[FN,h1,h3]
  rw[he]at this;exact this
 rw[hK]at cN;rcases Nat.decEq (G6 l g) 0 with g0|g0
 ·have e1:=GE g0
  rw[AG g0]at hN hL;rw[hN,hL];refine AH AW (Ae el e1) cP cN cW1 cW2 cF AB ?_;exact⟨_,OJ _ _,AA.out,rfl⟩
 have e1:=GG g0;rw[AF (λh=>h g0)]at hN hL;rw[hN,hL];have h0:l≠[]:=λh=>by
  rw[hE]at g0;split at g0
  ·rename_i h9;exact h9 g0
  ·split at g0
   ·cases g0
   ·split at g0
    ·cases g0
    ·rename_i h9;exact h9 (by rw[h];rfl)
 refine AH AW (Ae el e1) cP cN cW1 cW2 cF AB ?_;refine A9.own _ (lW b l hl h0 _ _) ?_;rintro d H' n' ⟨gk,rfl,rfl,rfl⟩;refine AH AW kB AB AB AB AB AB AB ?_;refine AC.loop (α:=Nat×Nat) (λp=>⟨[(1,str (sb g)),(4,.optr 0 0 3 0 0),(7,.osl 302 gk 3 0 l.length),(28,i64 (l.length:Int)),(29,i64 (p.1:Int))],[⟨302,gk,27,3,((l.take p.1).map (Dp g)++l.drop p.1).map AE.D⟩,⟨0,0,27,3,[.agg [.prim (.string ⟨#[]⟩),.prim (.int .i64 0),.prim (.slice none 0 0)]]⟩],p.2⟩) (λp=>l.length-p.1)
  (λp=>p.1<=l.length) (0,_) (BS _) AK ?_
 rintro⟨i,n⟩ F hi;dsimp only at hi⊢;rcases BA i l.length with h2|h2
 rotate_left
 ·have e1:=Cg h2
  have:i=l.length:=by omega
  subst this;rw[Cf,I5,DB];have hlr:(l.map (Dp g)).length=l.length:=Ac ..;have hfr:∀x∈l.map (Dp g),x.lite:=λx hx=>by
   obtain⟨y,hy,rfl⟩:=List.mem_map.1 hx;obtain⟨⟨a1,a2,a3⟩,a4⟩:=hf y hy;exact⟨⟨hg,a2,a3⟩,a4⟩
  have cM:=yM false (l.map (Dp g)) (by rw[hlr];exact hl) hfr;obtain⟨R,hR⟩:∃R,l.map (Dp g)=R:=⟨_,rfl⟩
  rw[hR]at cM hlr⊢;obtain⟨Z,hZ⟩:∃Z:AE,Ki R=Z:=⟨_,rfl⟩
  rw[hZ]at cM⊢;refine AH AW e1 AB AB AB AB AB AB ?_;have hfz:Fz [⟨302,gk,27,3,R.map AE.D⟩,⟨0,0,27,3,[.agg [.prim (.string ⟨#[]⟩),.prim (.int .i64 0),.prim (.slice none 0 0)]]⟩] [⟨0,0,27,3,[.agg [.prim (.string ⟨#[]⟩),.prim (.int .i64 0),.prim (.slice none 0 0)]]⟩] (.osl 302 gk 3 0 l.length) (Al false R):=by
   have:=GY (H:=[⟨302,gk,27,3,R.map AE.D⟩,⟨0,0,27,3,[.agg [.prim (.string ⟨#[]⟩),.prim (.int .i64 0),.prim (.slice none 0 0)]]⟩]) (Hf:=[⟨0,0,27,3,[.agg [.prim (.string ⟨#[]⟩),.prim (.int .i64 0),.prim (.slice none 0 0)]]⟩]) (k:=302) (g:=gk) (T:=27) (sz:=3) (l:=R.map AE.D) rfl
   rwa [Ac,hlr]at this
  refine A9.own _ (NE [⟨0,0,27,3,[.agg [.prim (.string ⟨#[]⟩),.prim (.int .i64 0),.prim (.slice none 0 0)]]⟩] cM (.drop (.keep .nil)) ⟨hfz,trivial⟩ AI) ?_;rintro d H2 n2 ⟨rfl,rfl,rfl⟩;unfold AE.D;refine AH AW kB AB AB AB AB AB AB ?_;exact AL rfl AA.out
 have e1:=Ch h2;have wi:=CZ (i:=i) (by omega);obtain⟨x,hx⟩:=CL h2;obtain⟨es,hes⟩:∃es,((l.take i).map (Dp g)++l.drop i).map AE.D=es:=⟨_,rfl⟩
 rw[hes];have hm:es[i]?=some (.agg [str (sb x.grain),i64 x.mass,.sl false 2 (x.shs.map Au.D)]):=by
  rw[<-hes,A0,Ed (by simp;omega)];simp only[Ac,Bb,Eu (Jh h2),Nat.sub_self,GO,DR,hx,I6];rfl
 refine sZ 600 ?_;refine AD e1 ?_;refine AC.seq ?_;refine AM ?_;refine Am ?_;refine AC.seq ?_;refine AC.block ?_;refine sZ 700 ?_;refine AD kB ?_;refine An w1 800 (by kernel_rfl) ?_;refine AD (As kN BR hm) ?_;have hset:es.set i (.agg [str (sb g),i64 x.mass,.sl false 2 (x.shs.map Au.D)])=((l.take (i+1)).map (Dp g)++l.drop (i+1)).map AE.D:=by
  rw[<-hes];exact nv g hx
 rw[hset];refine AH AW wi AB AB AB AB AB AB ?_;exact⟨(i+1,_),h2,by dsimp only;omega,AK⟩
end Go.Ide
