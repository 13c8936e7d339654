/- The layer of own lemmas and contracts, part 11. -/
import Derived.Test.YtaoojbnciofmcabGreatDoorR9
import Derived.Test.YtaoojbnciofmcabGreatDoorR10
import Derived.Test.YtaoojbnciofmcabGreatDoorR3
import Derived.Test.YtaoojbnciofmcabGreatDoorR7
import Derived.Shelf.RegionOpenPlain
import Derived.Lib.Builder
import Derived.Lib.UnsafeStr
import Derived.Lib.Strings
import Derived.Lib.Slices
import Derived.Lib.Walk
import Derived.Laws.Externs
import Derived.KernelRfl
import Derived.WalkKit
import Derived.Shelf.Strconv.Itoa3
import Derived.Lib.ItoaMem
import Derived.Lib.AppendIntMem
import Derived.BigCall
import Derived.BigGuard
import Derived.Test.YtaoojbnciofmcabGreatDoorR8
import Derived.Test.YtaoojbnciofmcabGreatDoorR4
import Derived.Shelf.SlSortCmp.WholeK
import Derived.Shelf.Lay
import Derived.Laws.Cover1
import Derived.Shelf.Small.Bits
import Derived.Ground.SlsfProg
import Derived.Ground.NamesProg
import Derived.Shelf.SlIter.Sorted
import Derived.Shelf.SortM.Plain
import Derived.Shelf.SortM.SortNone
import Derived.Ground.GgzProg
import Derived.Ground.SlgmProg
set_option linter.unusedVariables false
set_option linter.unusedSimpArgs false
namespace Go.Ide
open Go.Proofs Go.RowKit
set_option maxRecDepth 20000
set_option maxHeartbeats 4000000
theorem Ch {i n:Nat}(h:i<n):decide ((i:Int)<(n:Int))=true:=BR
theorem Cg {i n:Nat}(h:n<=i):decide ((i:Int)<(n:Int))=false:=Bd
theorem Cc {i:Nat}(h:i<9223372036854775807):IntKind.i64.wrap ((i:Int)+1)=((i+1:Nat):Int):=wI
theorem CO {α:Type}{l:List α}{i:Nat}(h:i<l.length):∃x,l[i]?=some x:=⟨l[i],Bs h⟩
instance  (l:List UInt8):AS (G4 l).D:=by unfold GF.D;exact AJ
theorem G9 {a:Nat}(h:a≠0):(((a:Nat):Int) != 0)=true:=FW (by omega)
theorem HA {a:Nat}(h:a=0):(((a:Nat):Int) != 0)=false:=by subst h;rfl
theorem d9r {a:Nat}(h:a≠0):(((a:Nat):Int)==0)=false:=Bo.2 (by omega)
set_option maxHeartbeats 1000000
set_option maxRecDepth 100000
theorem zn {n:Nat}(h:1<=n):liesAt Tryz.prog Tryz.prog.depth 195 n 0 195 1=true:=by
 have hs:sameLayout Tryz.prog Tryz.prog.depth 195 195=true:=by kernel_rfl
 have hc:Tryz.prog.cellsOf 195=2:=by kernel_rfl
 obtain⟨d,hd⟩:∃d,Tryz.prog.depth=d+1:=⟨Tryz.prog.depth-1,by kernel_rfl⟩
 rw[hd]at hs⊢;unfold liesAt;rw[hd];unfold rowAt;simp[hc,hs,h]
theorem qg (b c:Nat)(hc:2<=c)(w:World)(h0:w.cell? ⟨b,0,none⟩=some (.pointer none))(hsh:w.shape? b=some (195,c))(hfz:w.frozen? ⟨b,0,none⟩=false):
  Calls Tryz.prog 202 #[.pointer (some ⟨b,0,none⟩)] w λe w'=>e=.returned (.tuple #[])/\w'=w.setCell ⟨b,0,none⟩ (.pointer (some ⟨b,0,none⟩)):=by
 obtain⟨j,hj,hjs⟩:=E4.1 (show(Tryz.prog.info? 195).map (·.size)=some 2 by kernel_rfl);have hl:liesAt Tryz.prog Tryz.prog.depth 195 (c/Tryz.prog.cellsOf 195) 0 195 1=true:=zn (by rw[show Tryz.prog.cellsOf 195=2 by kernel_rfl];omega)
 go_enter Tryz.func202,Tryz.ntmps202
 go_wp2
 rw[Lib.run_to_unsafe w ⟨b,0,none⟩ (t:=195) (by kernel_rfl) (by kernel_rfl) hj (by rw[hjs];decide) hsh (by show 0<c;omega)];simp only[Result.andThen];rw[Oper.upon_value]
 go_wp2
 rw[run_callFunc_extern Tryz.func248 (by kernel_rfl) (by kernel_rfl) (by kernel_rfl) (e:=Extern.AbiNoEscape.same) (by kernel_rfl)];rw[Lib.run_noEscape];simp only[Result.andThen];rw[Oper.upon_value]
 go_wp2
 rw[Lib.run_from_unsafe w ⟨b,0,none⟩ (u:=195) (by kernel_rfl) (by kernel_rfl) hj hsh hl];simp only[Result.andThen];rw[Oper.upon_value]
 go_wp2
 go_end0
 exact⟨rfl,rfl⟩
theorem tJ (b:Nat)(w:World)(h0:w.cell? ⟨b,0,none⟩=some (.pointer (some ⟨b,0,none⟩))):
  Calls Tryz.prog 202 #[.pointer (some ⟨b,0,none⟩)] w λe w'=>e=.returned (.tuple #[])/\w'=w:=by
 obtain⟨j,hj,hjs⟩:=E4.1 (show(Tryz.prog.info? 195).map (·.size)=some 2 by kernel_rfl)
 go_enter Tryz.func202,Tryz.ntmps202
 go_wp2
 rw[Lib.run_neq_ptr_same w _ (te:=195) (by kernel_rfl) hj]
 go_wp2
 go_end0
 exact⟨rfl,rfl⟩
theorem d9q (b g:Nat)(cur cs:Array Value)(l:List UInt8)(h0:l≠[])(w:World)(hb:w.heap[b]?=some (.cells cs 195 (0,0)))(hb1:cs[1]?=some (.slice (some ⟨g,0,none⟩) l.length cur.size))
  (hg:w.heap[g]?=some (.cells cur 5 (0,0))) (hl:l.length<=cur.size) (hcap:cur.size<=maxLen) (hcell:∀(j:Nat) (x:UInt8),l[j]?=some x->cur[j]?=some (.int .u8 x.toNat)):
  Calls Tryz.prog 150 #[.pointer (some ⟨b,0,none⟩)] w λe w'=>e=.returned (.string ⟨l.toArray⟩)/\w'=(w.drew.freeze ⟨g,0,none⟩ l.length):=by
 have c1:w.drew.cell? ⟨b,1,none⟩=some (.slice (some ⟨g,0,none⟩) l.length cur.size):=by
  have:w.drew.heap[b]?=some (.cells cs 195 (0,0)):=hb
  rw[Lib.cell_of_heap this];exact hb1
 have h0':l.length≠0:=by simpa using h0
 have hSD:(Builtin.unsafeSliceData_ #[193] 243 #[.slice (some ⟨g,0,none⟩) l.length cur.size]).run Tryz.prog w.drew=.ok (.pointer (some ⟨g,0,none⟩)) w.drew:=
  Lib.run_unsafeSliceData_row _ _ _ _ _ _ (by omega)
 have hUS:(Builtin.unsafeString_ #[243,3] 9 #[.pointer (some ⟨g,0,none⟩),.int .i64 l.length]).run Tryz.prog w.drew=.ok (.string ⟨l.toArray⟩) (w.drew.freeze ⟨g,0,none⟩ l.length):=by
  refine Lib.run_unsafeString_row w.drew 243 3 9 5 (by kernel_rfl) (by kernel_rfl) g cur.size (by have hg':w.drew.heap[g]?=some (.cells cur 5 (0,0)):=hg;simp[World.shape?,hg']) l h0 (by omega) (by unfold maxLen at hcap;omega) ?_;intro j x hx;have hg':w.drew.heap[g]?=some (.cells cur 5 (0,0)):=hg
  have:=hcell j x hx
  rw[Addr.add_lit];simp[World.cell?,hg',this]
 have mixed:Tryz.prog.follows .mixedOrders=true:=by kernel_rfl
 go_enter Tryz.func150,Tryz.ntmps150
 go_wp2
 go_region_o
 all_goals(go_wp2;go_ret;exact⟨rfl,rfl⟩)
def Ge (l:List UInt8):List D:=l.map λb=>.prim (.int .u8 (b.toNat:Int))
abbrev GR (g:Nat)(p x:D):At:=⟨1500,g,195,2,[.agg [p,x]]⟩
theorem i7 {vs:Array Value}(h:vs.size=1):vs = #[vs.getD 0 undef]:=by
 match vs,h with
 |⟨[u]⟩,_=>rfl
theorem i8 (g n:Nat)(x p:D)(H1 H2:Hp)(hp:p=.prim (.pointer none)\/p=.optr 1500 g 2 0 0):
  CX C0 202 [.optr 1500 g 2 0 0] (H1++GR g p x::H2) n (λd H' n'=>d=.prim (.tuple #[])/\H'=H1++GR g (.optr 1500 g 2 0 0) x::H2/\n'=n):=by
 refine⟨⟨_,_,Tryz.func202,rfl,by kernel_rfl⟩,λF ρ w vs m fr hgn hvs hr=>?_⟩;have h0:=hr 0 _ rfl;rw[i7 hvs];generalize hv:vs.getD 0 undef=v at h0;cases h0 with
 |optr hρ=>
  rename_i b;have he:GR g p x∈H1++GR g p x::H2:=by simp
  obtain⟨cs,hc,q⟩:=m.at he hρ;have hlen:2<=cs.size:=q.len;have hr0:AW ρ (AN F.X ρ (H1++GR g p x::H2)) w p (cs.getD 0 undef):=q.rep 0 _ 0 p rfl rfl;have hr1:AW ρ (AN F.X ρ (H1++GR g p x::H2)) w x (cs.getD 1 undef):=q.rep 0 _ 1 x rfl rfl;have hcell:w.cell? ⟨b,0,none⟩=some (cs.getD 0 undef):=by
   simp[World.cell?,hc,Array.getD,show 0<cs.size by omega]
  rcases hp with rfl|rfl
  ·cases hr0':cs.getD 0 undef with
   |pointer a=>
    rw[hr0']at hr0 hcell;cases hr0;refine(qg b cs.size hlen w hcell (by simp[World.shape?,hc]) (by simp[World.frozen?,hc])).mono ?_;rintro e w' ⟨rfl,rfl⟩;have hset:w.setCell ⟨b,0,none⟩ (.pointer (some ⟨b,0,none⟩))=World.setBlk w b (cs.setIfInBounds 0 (.pointer (some ⟨b,0,none⟩))) 195:=by
     rw[setCell_eq_setRow w b 0 cs 195 (0,0) _ hc];exact UJ hc
    have hop:AW ρ (AN F.X ρ (H1++GR g (.prim (.pointer none)) x::H2)) w (.optr 1500 g 2 0 0) (.pointer (some ⟨b,0*2+0,none⟩)):=.optr hρ;have ho:DX ρ (AN F.X ρ (H1++GR g (.prim (.pointer none)) x::H2)) w (GR g (.optr 1500 g 2 0 0) x) (cs.setIfInBounds 0 (.pointer (some ⟨b,0,none⟩))):=by
     refine⟨by rw[W5];exact q.len,λi d hd=>?_,λi v hv=>?_,λi d j c hd hj=>?_⟩
     ·rcases i with _|i
      ·cases hd;rfl
      ·simp at hd
     ·rw[Iq]at hv
      split at hv
      ·split at hv
       ·cases hv;rfl
       ·cases hv
      ·exact q.one i v hv
     ·rcases i with _|i
      ·cases hd
       rcases j with _|_|j
       ·cases hj
        have:(cs.setIfInBounds 0 (.pointer (some ⟨b,0,none⟩))).getD (0*2+0) undef=.pointer (some ⟨b,0*2+0,none⟩):=by
         simp[Av,show 0<cs.size by omega]
        rw[this];exact hop
       ·cases hj
        have:(cs.setIfInBounds 0 (.pointer (some ⟨b,0,none⟩))).getD (0*2+1) undef=cs.getD 1 undef:=by
         simp[Av]
        rw[this];exact hr1
       ·simp[D.cells]at hj
      ·simp at hd
    obtain⟨m1,x1⟩:=m.write (e':=GR g (.optr 1500 g 2 0 0) x) hρ hc rfl rfl rfl (W5 ..) ho;rw[hset];exact⟨_,_,_,n,ρ,rfl,⟨rfl,rfl,rfl⟩,m1,x1,fr,λe' he'=>by
     rcases Bp.1 he' with h|h
     ·exact hgn e' (by simp[h])
     ·rcases A8.1 h with rfl|h
      ·exact hgn (GR g (.prim (.pointer none)) x) he
      ·exact hgn e' (by simp[h]),.prim _⟩
   |_=>rw[hr0']at hr0;cases hr0
  ·cases hr0':cs.getD 0 undef with
   |pointer a=>
    rw[hr0']at hr0 hcell;cases hr0 with
    |optr hρ2=>
     rw[hρ]at hρ2;cases hρ2;refine(tJ b w hcell).mono ?_;rintro e w' ⟨rfl,rfl⟩;exact⟨_,_,_,n,ρ,rfl,⟨rfl,rfl,rfl⟩,m,BX.refl _ _ _,fr,hgn,.prim _⟩
   |_=>rw[hr0']at hr0;cases hr0
theorem js (w:World)(g n:Nat)(hn:n≠0)(cur:Array Value)(T:Nat)(hg:w.heap[g]?=some (.cells cur T (0,0))):
  (w.freeze ⟨g,0,none⟩ n).heap.size=w.heap.size/\(w.freeze ⟨g,0,none⟩ n).os=w.os/\(w.freeze ⟨g,0,none⟩ n).tape=w.tape/\(w.freeze ⟨g,0,none⟩ n).output=w.output /\
  (∀k,k≠g->(w.freeze ⟨g,0,none⟩ n).heap[k]?=w.heap[k]?)/\∃(cs':Array Value) (fz':Nat×Nat),(w.freeze ⟨g,0,none⟩ n).heap[g]?=some (.cells cs' T fz')/\cs'.size=cur.size:=by
 unfold World.freeze;rw[AH hn];refine⟨by simp,rfl,rfl,rfl,λk hk=>?_,?_⟩
 ·dsimp only
  rw[Array.getElem?_modify,AH (λh=>hk h.symm)]
 ·dsimp only
  rw[Array.getElem?_modify,AI rfl,hg];exact⟨cur,_,rfl,rfl⟩
theorem zc (g gb n:Nat)(l:List UInt8)(h0:l≠[])(p:D)(R:Hp):
  CX C0 150 [.optr 1500 g 2 0 0] (⟨206,gb,5,1,Ge l⟩::GR g p (.osl 206 gb 1 0 l.length)::R) n (λd H' n'=>d=str ⟨l.toArray⟩/\H'=GR g p (.osl 206 gb 1 0 l.length)::R/\n'=n):=by
 refine⟨⟨_,_,Tryz.func150,rfl,by kernel_rfl⟩,λF ρ w vs m fr hgn hvs hr=>?_⟩;have hz:=hr 0 _ rfl;have h0':l.length≠0:=by simpa using h0
 rw[i7 hvs];generalize hv:vs.getD 0 undef=v at hz;cases hz with
 |optr hρ=>
  rename_i b;obtain⟨cs,hc,q⟩:=m.at (e:=GR g p (.osl 206 gb 1 0 l.length)) (by simp) hρ;have hlen:2<=cs.size:=q.len;have hr1:AW ρ (AN F.X ρ (⟨206,gb,5,1,Ge l⟩::GR g p (.osl 206 gb 1 0 l.length)::R)) w (.osl 206 gb 1 0 l.length) (cs.getD 1 undef):=q.rep 0 _ 1 (.osl 206 gb 1 0 l.length) rfl rfl;generalize hs1:cs.getD 1 undef=sv at hr1;generalize hL:l.length=L at hr1;cases hr1 with
   |onil=>exact Ak hL h0'
   |osl hρ2 hb2 hc2 hs2 hm2=>
    rename_i cap gy T' cs2 fz2;obtain⟨cur,hcur,qy⟩:=m.at (e:=⟨206,gb,5,1,Ge l⟩) (by simp) hρ2;rw[hb2]at hcur;cases hcur;have hcap:cap=cs2.size:=by omega
    subst hcap;have hcell:∀(j:Nat) (x:UInt8),l[j]?=some x->cs2[j]?=some (.int .u8 x.toNat):=λj x hx=>by
     have hr:=qy.rep j (.prim (.int .u8 (x.toNat:Int))) 0 (.prim (.int .u8 (x.toNat:Int))) (by unfold Ge;rw[Ay,hx];rfl) rfl;have hlt:j<cs2.size:=by
      have:=(BS.1 hx).1
      omega
     generalize hvv:cs2.getD (j*1+0) undef=vv at hr;cases hr;rw[B3 hlt]
     have:cs2.getD j undef=cs2[j]:=by simp[Array.getD,hlt]
     rw[Ej,Dv,this]at hvv;rw[hvv]
    have hb1:cs[1]?=some (.slice (some ⟨gy,0,none⟩) l.length cs2.size):=by
     have hlt:1<cs.size:=by omega
     rw[B3 hlt]
     have:cs.getD 1 undef=cs[1]:=by simp[Array.getD,hlt]
     rw[this]at hs1;rw[hs1,hL,Hq]
    refine(d9q b gy cs2 cs l h0 w hc hb1 hb2 (by omega) (by omega) hcell).mono ?_;rintro e w' ⟨rfl,rfl⟩;have md:=m.drew;obtain⟨f1,f2,f3,f4,f5,cs',fz',f6,f7⟩:=js w.drew gy l.length h0' cs2 5 hb2;obtain⟨m1,x1⟩:=e0A (H1:=[]) (H2:=GR g p (.osl 206 gb 1 0 l.length)::R) (w':=w.drew.freeze ⟨gy,0,none⟩ l.length) md hρ2 f1 f2 f3 f4 f5 (λc hcc=>by
     have hb2':w.drew.heap[gy]?=some (.cells cs2 5 (0,0)):=hb2;have hcc':w.drew.heap[gy]?=some (.cells c 5 (0,0)):=hcc;rw[hb2']at hcc';cases hcc';exact⟨cs',fz',f6,f7⟩)
    rw[hL];rw[hL]at m1 x1;exact⟨_,_,_,n,ρ,rfl,⟨rfl,rfl,rfl⟩,m1,(BX.drew _ _ _).trans x1,fr,λe' he'=>hgn e' (by rw[hL];exact CL _ he'),.prim _⟩
set_option maxRecDepth 20000
set_option maxHeartbeats 4000000
def bH (gb g:Nat)(p:D)(L:List UInt8)(R:Hp):Hp:=EF 206 gb 5 1 (Ge L)++(GR g p (EP 206 gb 1 (Ge L))::R)
theorem lR (s:List UInt8):I8 (sb s)=Ge s:=rfl
theorem O2 (l:List UInt8):(Ge l).length=l.length:=Ab ..
theorem lO (a b:List UInt8):Ge (a++b)=Ge a++Ge b:=Cz
theorem ZB {l:List UInt8}(h:l≠[]):∃x r,Ge l=x::r:=by
 cases l with
 |nil=>exact Ak rfl h
 |cons a l=>exact⟨_,_,rfl⟩
theorem jC (g gb n:Nat)(p:D)(hp:p=.prim (.pointer none)\/p=.optr 1500 g 2 0 0)(L s:List UInt8)(hs:s≠[])(R:Hp)(hlen:L.length+s.length<=100000000):
  CX C0 149 [.optr 1500 g 2 0 0,str (sb s)] (bH gb g p L R) n (λd H' n'=>(∃g',H'=bH g' g (.optr 1500 g 2 0 0) (L++s) R)/\n<=n'):=by
 refine CX.walk w1 dX rfl λF=>?_
 have hsz:=C3 s;have hb:=lR s;obtain⟨x,r,hx⟩:=ZB hs;have hr:s.length=r.length+1:=by rw[<-O2,hx];rfl
 unfold bH;rw[lO];cases hL:Ge L with
 |nil=>
  dsimp only[Je,Jf,List.nil_append];refine AF AY kB AB AB AB AB AB AB ?_;refine BF.own _ (i8 g _ CK p [] R hp) ?_;rintro d H' n' ⟨rfl,rfl,rfl⟩;have hL0:L.length=0:=by rw[<-O2,hL];rfl
  refine AF AY (Aa hsz hb) AB AB AB AB AB AB ?_;refine⟨?_,by omega⟩;apply Exists.intro;rw[hx,hr];rfl
 |cons y l=>
  dsimp only[IR,IS,List.cons_append,List.nil_append];have hL1:L.length=l.length+1:=by rw[<-O2,hL];rfl
  have htk:List.take (l.length+1) (y::l)=y::l:=by simp
  refine AF AY kB AB AB AB AB AB AB ?_;refine BF.own _ (i8 g _ (.osl 206 gb 1 0 (l.length+1)) p [⟨206,gb,5,1,y::l⟩] R hp) ?_;rintro d H' n' ⟨rfl,rfl,rfl⟩;refine AF AY (Ao hsz hb htk) AB AB AB AB AB AB ?_;refine⟨?_,by omega⟩;apply Exists.intro;have hap:y::l++Ge s=y::(l++Ge s):=rfl;have hl2:(l++Ge s).length+1=l.length+1+s.length:=by rw[Be,O2];omega
  rw[hl2]
open Go.Sort Go.Shelf
section
open Go.Lib
set_option maxHeartbeats 6400000 in
set_option maxRecDepth 100000 in
theorem d9z (u:Nat) (hu64:u<18446744073709551616) (w:World) (htab:Lib.TabIs Tryz.prog w "internal/strconv.uint64pow10" .u64 Lib.pow10Tab):
  Calls Tryz.prog 198 #[.int .u64 u,.int .i64 10] w λe w'=>e=.returned (.string ⟨(Lib.decDigits u).toArray⟩)/\∃k os,w'=grow (w.drewN k) os:=by
 have e283:∀args w,(callFunc 242 args).run Tryz.prog w=.ok (.enter 242 args) w:=enters_of Tryz.func242 (by kernel_rfl) rfl;have e284:∀args w,(callFunc 243 args).run Tryz.prog w=.ok (.enter 243 args) w:=enters_of Tryz.func243 (by kernel_rfl) rfl;have e285:∀args w,(callFunc 244 args).run Tryz.prog w=.ok (.enter 244 args) w:=enters_of Tryz.func244 (by kernel_rfl) rfl
 by_cases hs:u<100
 ·go_enter Tryz.func198,Tryz.ntmps198
  go_wp2_with (go_at_fn 242;refine(Tryz.internal_strconv_small u hs _).mono ?_;rintro e w' ⟨rfl,rfl⟩)
  go_ret
  exact⟨rfl,0,#[],by simp[World.drewN_zero]⟩
 ·have hu1:1<=u:=by omega
  have hnd20:Lib.nDigits u<=20:=by have:=Lib.numDigits_eq u hu1 hu64;split at this<;>omega
  have hb3:Lib.nDigits u<=24:=by omega
  have hal:Tryz.prog.arrayLen 269=24:=by kernel_rfl
  have hsl1:∀W,(Instr.sliceAt 269 (.pointer (some ⟨w.heap.size,0,none⟩)) none (some (.int .i64 (Lib.nDigits u:Int))) none).run Tryz.prog W=.ok (.slice (some ⟨w.heap.size,0,none⟩) (Lib.nDigits u) 24) W:=λW=>by
   rw[run_sliceAt_array_h W 269 ⟨w.heap.size,0,none⟩ (by kernel_rfl) .i64 (Lib.nDigits u:Int) (by omega) (by rw[hal];omega)]
   go_simp
  have hH0:=Lib.holds_zero0 w 269 (Lib.nDigits u) (by omega);have hfmt:=Tryz.internal_strconv_formatBase10 w.heap.size 0 24 u (Array.replicate (Lib.nDigits u) 0) (w.alloc (.cells Lib.zeros24 269)) hH0 (by rw[TU];exact Lib.lt_pow_nDigits u) hu64 (by rw[TU];omega);rw[TU]at hfmt;have HH0:=Lib.hid hH0;clear hH0 hal
  go_enter Tryz.func198,Tryz.ntmps198
  go_wp2_with (first
   |(go_at_fn 243;refine(Tryz.internal_strconv_numDigits u hu1 hu64 _ (Lib.tabIs_alloc htab _)).mono ?_;rintro e w' ⟨rfl,rfl⟩))
  go_at_fn 244
  refine hfmt.mono ?_;rintro e w' ⟨rfl,k,v',dk,rfl,hF⟩;have hcv:(convert 193 9 (.slice (some ⟨w.heap.size,0,none⟩) (Lib.nDigits u) 24)).run Tryz.prog ((putRow (λ(b:UInt8)=>Value.int .u8 (b.toNat:Int)) (w.alloc (.cells Lib.zeros24 269)) w.heap.size 0 dk).drewN k)=.ok (.string ⟨(Lib.decDigits u).toArray⟩) ((putRow (λ(b:UInt8)=>Value.int .u8 (b.toNat:Int)) (w.alloc (.cells Lib.zeros24 269)) w.heap.size 0 dk).drewN k):=by
   have h:=run_convert_bytes_back (P:=Tryz.prog) ((putRow (λ(b:UInt8)=>Value.int .u8 (b.toNat:Int)) (w.alloc (.cells Lib.zeros24 269)) w.heap.size 0 dk).drewN k) 193 9 5 ⟨w.heap.size,0,none⟩ 24 (Lib.decDigits u) (by kernel_rfl) (by kernel_rfl) (by kernel_rfl) (λj hj=>by
    rw[Lib.row_is_numeral hF j hj,Lib.add_plain,World.cell?_drewN];exact cell?_putRow (λ(b:UInt8)=>Value.int .u8 (b.toNat:Int)) _ w.heap.size 0 _ dk HH0.out (by rw[hF.size,TU]) j (by rw[hF.size];rw[Lib.decDigits_length]at hj;exact hj))
   rw[Lib.decDigits_length]at h;exact h
  go_wp2
  go_ret
  obtain⟨os,eo⟩:=Lib.fin_at w (.cells Lib.zeros24 269) dk k 0;exact⟨rfl,k,os,eo⟩
end
theorem lW {O:Nat->Prop}{w:World}{v u:Value}{vs:Array Value}(hn:vs.size=2)(h:∀(i:Nat) (x:D),[D.prim v,.prim u][i]?=some x->AW nol O w x (vs.getD i undef)):vs = #[v,u]:=by
 match vs,hn with
 |⟨[a,b]⟩,_=>
  have h0:=h 0 _ rfl;have h1:=h 1 _ rfl;simp at h0 h1;cases h0;cases h1;rfl
theorem qR (u:Nat)(hu:u<18446744073709551616):AL C0 198 [.prim (.int .u64 (u:Int)),i64 10] (str ⟨(Lib.decDigits u).toArray⟩):=by
 refine⟨⟨_,_,Tryz.func198,rfl,by kernel_rfl⟩,λY w vs hG hnG hX hvs hr=>?_⟩
 have:=lW hvs hr
 subst this;refine(d9z u hu w hG).mono ?_;rintro e w' ⟨rfl,k,os,rfl⟩;exact⟨_,_,rfl,Lib.below_grow _ _ (Ar _) _ _,rfl,.prim _⟩
theorem uR (u:Nat)(hu:u<18446744073709551616):AL C0 147 [.prim (.int .u64 (u:Int)),i64 10] (str ⟨(Lib.decDigits u).toArray⟩):=by
 refine Af.walk w1 dW rfl λF=>?_
 refine AF AY kB (qR u hu) AB AB AB AB AB ?_;exact AM rfl AA.out
theorem rp0:AL C0 148 [str ⟨#[48]⟩,i64 0] (str ⟨#[]⟩):=Ca Dx 400 20
theorem rp1:AL C0 148 [str ⟨#[48]⟩,i64 1] (str ⟨#[48]⟩):=Ca Dx 400 20
theorem rp2:AL C0 148 [str ⟨#[48]⟩,i64 2] (str ⟨#[48,48]⟩):=Ca Dx 400 20
theorem rp3:AL C0 148 [str ⟨#[48]⟩,i64 3] (str ⟨#[48,48,48]⟩):=Ca Dx 400 20
theorem rp4:AL C0 148 [str ⟨#[48]⟩,i64 4] (str ⟨#[48,48,48,48]⟩):=Ca Dx 400 20
theorem rp5:AL C0 148 [str ⟨#[48]⟩,i64 5] (str ⟨#[48,48,48,48,48]⟩):=Ca Dx 400 20
theorem rp6:AL C0 148 [str ⟨#[48]⟩,i64 6] (str ⟨#[48,48,48,48,48,48]⟩):=Ca Dx 400 20
theorem rp7:AL C0 148 [str ⟨#[48]⟩,i64 7] (str ⟨#[48,48,48,48,48,48,48]⟩):=Ca Dx 400 20
theorem rp8:AL C0 148 [str ⟨#[48]⟩,i64 8] (str ⟨#[48,48,48,48,48,48,48,48]⟩):=Ca Dx 400 20
theorem rp9:AL C0 148 [str ⟨#[48]⟩,i64 9] (str ⟨#[48,48,48,48,48,48,48,48,48]⟩):=Ca Dx 400 20
theorem d9Z:AL C0 148 [str ⟨#[48]⟩,i64 10] (str ⟨#[48,48,48,48,48,48,48,48,48,48]⟩):=Ca Dx 400 20
theorem e0a:AL C0 148 [str ⟨#[48]⟩,i64 11] (str ⟨#[48,48,48,48,48,48,48,48,48,48,48]⟩):=Ca Dx 400 20
theorem e0b:AL C0 148 [str ⟨#[48]⟩,i64 12] (str ⟨#[48,48,48,48,48,48,48,48,48,48,48,48]⟩):=Ca Dx 400 20
theorem e0c:AL C0 148 [str ⟨#[48]⟩,i64 13] (str ⟨#[48,48,48,48,48,48,48,48,48,48,48,48,48]⟩):=Ca Dx 400 20
theorem e0d:AL C0 148 [str ⟨#[48]⟩,i64 14] (str ⟨#[48,48,48,48,48,48,48,48,48,48,48,48,48,48]⟩):=Ca Dx 400 20
theorem e0e:AL C0 148 [str ⟨#[48]⟩,i64 15] (str ⟨#[48,48,48,48,48,48,48,48,48,48,48,48,48,48,48]⟩):=Ca Dx 400 20
theorem e0f:AL C0 148 [str ⟨#[48]⟩,i64 16] (str ⟨#[48,48,48,48,48,48,48,48,48,48,48,48,48,48,48,48]⟩):=Ca Dx 400 20
theorem e0g:AL C0 148 [str ⟨#[48]⟩,i64 17] (str ⟨#[48,48,48,48,48,48,48,48,48,48,48,48,48,48,48,48,48]⟩):=Ca Dx 400 20
theorem sN (n:Nat)(h:n<=17):AL C0 148 [str ⟨#[48]⟩,i64 (n:Int)] (str ⟨(List.replicate n 48).toArray⟩):=by
 match n,h with
 | 0,_=>exact rp0
 | 1,_=>exact rp1
 | 2,_=>exact rp2
 | 3,_=>exact rp3
 | 4,_=>exact rp4
 | 5,_=>exact rp5
 | 6,_=>exact rp6
 | 7,_=>exact rp7
 | 8,_=>exact rp8
 | 9,_=>exact rp9
 | 10,_=>exact d9Z
 | 11,_=>exact e0a
 | 12,_=>exact e0b
 | 13,_=>exact e0c
 | 14,_=>exact e0d
 | 15,_=>exact e0e
 | 16,_=>exact e0f
 | 17,_=>exact e0g
 |n+18,h=>omega
theorem rN {H Hf r r':Hp}{K g T sz:Nat}{l:List D}(h:Cs H Hf r r'):Cs H Hf (EF K g T sz l++r) r':=by
 cases l with
 |nil=>exact h
 |cons x l=>exact .drop h
set_option maxHeartbeats 8000000
def Gi (q r:Nat):List UInt8:=if q=0 then Lib.decDigits r else List.replicate (18-(Lib.decDigits r).length) 48++Lib.decDigits r
theorem ZI:Lib.decDigits 0=[48]:=by unfold Lib.decDigits;rfl
theorem Pk (n:Nat):Lib.decDigits n≠[]:=(E7 n).2.2
theorem o8 (q r:Nat):Gi q r≠[]:=by
 unfold Gi;split
 ·exact Pk r
 ·intro h;exact Pk r (List.append_eq_nil_iff.1 h).2
theorem nK {q r:Nat}(hq:q≠0):Gi q r=FZ 18 r []:=by
 unfold Gi FZ M3;rw[AH hq]
 by_cases h:r=0
 ·subst h;rw[ZI,AI rfl];rfl
 ·rw[AH h,De]
theorem ob (B q r:Nat)(hB:B=10^18)(hr:r<B):Lib.decDigits (q*B+r)=if q=0 then Gi q r else Lib.decDigits q++Gi q r:=by
 by_cases hq:q=0
 ·subst hq;rw[AI rfl];unfold Gi;rw[AI rfl,Hq,BV]
 ·rw[AH hq,nK hq,hB]
  exact VJ 18 q r hq (by rw[<-hB];exact hr)
def En (P:List (List UInt8)):List UInt8:=P.reverse.flatten
theorem YB (P:List (List UInt8))(p:List UInt8):En (P++[p])=p++En P:=by unfold En;simp
theorem V1 (a b:List UInt8):sb a++sb b=sb (a++b):=by
 apply ByteArray.ext;simp[ByteArray.data_append]
theorem mc {P:List (List UInt8)}(h:∀p∈P,p≠[]):P.length<=(En P).length:=by
 unfold En;rw[List.length_flatten,<-List.length_reverse];generalize hQ:P.reverse=Q;have h':∀p∈Q,p≠[]:=λp hp=>h p (by rw[<-hQ]at hp;exact List.mem_reverse.1 hp)
 clear hQ h
 induction Q with
 |nil=>exact Ar _
 |cons a r ih=>
  have h1:=ih λp hp=>h' p (CL _ hp)
  have h2:a.length≠0:=λq=>h' a CF (FB q)
  rw[Cx,List.sum_cons,Bu];omega
structure Nu (n m:Nat)(P:List (List UInt8)):Prop where
 ne:m≠0->Lib.decDigits n=Lib.decDigits m++En P
 eq:m=0->Lib.decDigits n=En P
 all:∀p∈P,p≠[]
 le:m<=n
theorem Nu.len {n m:Nat}{P:List (List UInt8)}(h:Nu n m P):P.length<=(Lib.decDigits n).length:=by
 have h1:=mc h.all
 by_cases q:m=0
 ·rw[h.eq q];exact h1
 ·rw[h.ne q,Be];omega
theorem Nu.step {n m:Nat}{P:List (List UInt8)}{B:Nat}(h:Nu n m P)(hm:m≠0)(hB:B=10^18):Nu n (m/B) (P++[Gi (m/B) (m%B)]):=by
 have hB0:0<B:=by rw[hB];decide
 have hd:=ob B (m/B) (m%B) hB (B7 _ hB0);rw[show m/B*B+m%B=m by rw[Ba];exact FF m B]at hd;have hn:=h.ne hm;rw[hd]at hn;refine⟨λq=>?_,λq=>?_,λp hp=>?_,BY (Gn _ _) h.le⟩
 ·rw[AH q]at hn;rw[hn,YB,Du]
 ·rw[AI q]at hn;rw[hn,YB]
 ·rcases Bp.1 hp with hp|hp
  ·exact h.all p hp
  ·rw[EJ]at hp;subst hp;exact o8 _ _
abbrev F7 (P:List (List UInt8)):List D:=P.map λp=>str (sb p)
theorem Uu (x:GI)(h:x.wf)(hf:x.few):AL C0 117 [x.D] (str (sb (Lib.itoa x.z))):=by
 refine Af.walk w1 dB rfl λF=>?_
 obtain⟨z,sm⟩:=x;obtain⟨h1,h2⟩:=h;have hp:=KG ⟨z,sm⟩ ⟨h1,h2⟩;dsimp only[GI.D,GI.few]at*;cases sm with
 |true=>
  obtain⟨h3,h4⟩:=h1 rfl;have c:AL C0 144 [i64 z] (str (sb (Lib.itoa z))):=rX z h3 (by omega);unfold GI.s GI.w;dsimp only;refine AF AY kB c AB AB AB AB AB ?_;exact AM rfl AA.out
 |false=>
  have hz:=h2 rfl;have hz0:z.natAbs≠0:=λq=>hz (by obtain rfl:z=0:=(by omega);exact xa rfl)
  have hw:GI.w ⟨z,false⟩=wD z.natAbs:=rfl;have hs:GI.s ⟨z,false⟩=if z<0 then -1 else 1:=rfl
  rw[hw]at hp⊢;obtain⟨sg,hsg⟩:∃s,GI.s ⟨z,false⟩=s:=⟨_,rfl⟩
  rw[hsg]at hp⊢;obtain⟨B,hB⟩:∃B:Nat,B=10^18:=⟨_,rfl⟩
  have hB1:B<BB:=by rw[hB];decide
  have hB0:B≠0:=by rw[hB];decide
  have hB2:1<B:=by rw[hB];decide
  have hBs:u64 1000000000000000000=AT B:=by rw[hB];rfl
  have hBl:Ah B=[B]:=NO hB0 hB1;obtain⟨n,hn⟩:∃n,z.natAbs=n:=⟨_,rfl⟩
  obtain⟨neg,hneg⟩:∃b,decide (z<0)=b:=⟨_,rfl⟩
  rw[hn]at hp hf hz0⊢;rw[hneg]at hp;have hit:Lib.itoa z=(if neg then[45]else[])++Lib.decDigits n:=by
   unfold Lib.itoa
   by_cases q:z<0
   ·rw[AI q,<-hneg,Aw q,hn];rfl
   ·rw[AH q,<-hneg,Az q,<-hn]
    have:z.toNat=z.natAbs:=by omega
    rw[this];rfl
  rw[hit];have hDL:(Lib.decDigits n).length<=27*1000000+1:=Np (k:=1000000) (by omega);have hmpos:∀m:Nat,m≠0->decide ((((Ah m).map AT).length:Int)>0)=true:=λm hm=>Aw (by
   rw[Gy hm,Cx,Bu];omega)
  have hm0:decide ((((Ah 0).map AT).length:Int)>0)=false:=Az (by rw[Gd];decide);obtain⟨w0,ws,hws⟩:∃a l,(Ah n).map AT=a::l:=by
   cases hl:(Ah n).map AT with
   |nil=>exact Ak hl (IV hz0)
   |cons a l=>exact⟨a,l,rfl⟩
  have hwD:wD n=.sl false 1 (w0::ws):=by unfold wD wL;rw[hws]
  have hbD:wD B=.sl false 1 [u64 1000000000000000000]:=by unfold wD wL;rw[hBl,hBs];rfl
  have pw:AA (.sl false 1 (w0::ws)):=by rw[<-hwD];exact AJ
  rw[hwD]at hp⊢;clear hit h1 h2 hz hs hsg;have hne:(w0::ws≠[])=True:=eq_true (List.cons_ne_nil _ _);refine AF AY hne hp AB AB AB AB AB ?_;rw[<-hwD];refine AC.loop (α:=Nat×List (List UInt8)×Nat×Nat) (λp=>⟨[(3,Al neg),(4,wD p.1),(5,wD B),(6,EP 1303 p.2.2.1 1 (F7 p.2.1))],EF 1303 p.2.2.1 9 1 (F7 p.2.1),p.2.2.2⟩) (λp=>p.1)
   (λp=>Nu n p.1 p.2.1) (n,[],0,_) ⟨λ_=>by unfold En;simp,λq=>Ak q hz0,λp hp=>Ak hp Dq,Ar _⟩ (by refine⟨.drop .nil,⟨.refl _,.refl _,?_,.refl _,trivial⟩,Ar _⟩;dsimp only;rw[hbD];exact .nn true 1 _) ?_
  rintro⟨m,P,g,cnt⟩ F I;dsimp only at I⊢;have hPl:=I.len;rcases Nat.decEq m 0 with hm|hm
  rotate_left
  ·subst hm
   have hdn:=I.eq rfl;have hall:=I.all;have hLn:P.length<=27000001:=by omega
   have hP0:P≠[]:=λq=>Pk n (by rw[hdn,q];rfl)
   obtain⟨N,hN⟩:∃N,P.length=N:=⟨_,rfl⟩
   have hN0:N≠0:=λq=>hP0 (FB (by omega))
   rw[hdn];clear hwD hbD pw hp hn hPl I;have elP:(((F7 P).length:Nat):Int)=(N:Int):=by rw[Ab,hN]
   have wN:IntKind.i64.wrap ((N:Int)-1)=((N:Int)-1):=wI;refine AC.seq ?_;refine sZ 600 ?_;refine AX hm0 ?_;refine AO ?_;refine CG ?_;refine AC.weak ⟨[(3,Al neg),(6,.sl false 1 (F7 P))],[],_⟩ ⟨?_,⟨.refl _,?_,trivial⟩,Ar _⟩ ?_
   ·have:=rN (K:=1303) (g:=g) (T:=9) (sz:=1) (l:=F7 P) (r:=[]) (r':=[]) (H:=EF 1303 g 9 1 (F7 P)) (Hf:=[]) .nil
    rwa [De]at this
   ·exact ST _ _ _ _ _
   obtain⟨c0,hc0⟩:∃c,c=cnt+1+1+1:=⟨_,rfl⟩
   rw[<-hc0];refine sR 1500 ?_;obtain⟨c1,hc1⟩:∃c,c=c0+1:=⟨_,rfl⟩
   refine DJ (α:=D×Nat×Nat) (λq=>⟨[(6,.sl false 1 (F7 P)),(10,.optr 1500 c0 2 0 0)],bH q.2.1 c0 q.1 (if neg then[45]else[]) [],q.2.2⟩) (λq=>q.1=.prim (.pointer none)\/q.1=.optr 1500 c0 2 0 0) ?_ ?_
   ·cases neg
    ·refine AF AY kB AB AB AB AB AB AB ?_
     exact⟨by trivial,(.prim (.pointer none),0,_),.inl rfl,AK⟩
    ·refine AF AY kB AB AB AB AB AB AB ?_
     refine BF.own _ (jC c0 0 _ (.prim (.pointer none)) (.inl rfl) [] [45] (by decide) [] (by decide)) ?_;rintro d H' n' ⟨⟨g',rfl⟩,hn'⟩;refine BU ?_;exact⟨by trivial,(.optr 1500 c0 2 0 0,g',_),.inr rfl,AK⟩
   rintro⟨p0,gb0,c2⟩ hp0;dsimp only at hp0⊢;obtain⟨pre,hpre⟩:∃l,(if neg then[45]else[]:List UInt8)=l:=⟨_,rfl⟩
   have hpl:pre.length<=1:=by rw[<-hpre];split<;>decide
   rw[hpre];refine AF AY (Aa elP @wN) AB AB AB AB AB AB ?_;refine AC.loop (α:=Nat×D×Nat×Nat) (λq=>⟨[(6,.sl false 1 (F7 P)),(10,.optr 1500 c0 2 0 0),(11,i64 ((q.1:Int)-1))],bH q.2.2.1 c0 q.2.1 (pre++En (P.drop q.1)) [],q.2.2.2⟩) (λq=>q.1)
    (λq=>q.1<=N/\(q.2.1=.prim (.pointer none)\/q.2.1=.optr 1500 c0 2 0 0)) (N,p0,gb0,_) ⟨Ar _,hp0⟩ (by dsimp only;rw[<-hN,JS];unfold En;rw[List.reverse_nil,List.flatten_nil,De];exact AK) ?_
   rintro⟨k,p,gb,c3⟩ F ⟨hk,hp⟩;dsimp only at hk hp⊢;have hjl:∀k,(En (P.drop k)).length<=(En P).length:=λk=>by
    unfold En
    conv=>rhs;rw[<-Fq k P]
    rw[List.reverse_append,List.flatten_append,Be];omega
   have hjP:(En P).length<=27000001:=by rw[<-hdn];omega
   rcases D7 k with hk0|hk0
   ·subst hk0
    have e1:decide ((((0:Nat):Int)-1)>=0)=false:=by decide
    rw[GH];have hL:pre++En P≠[]:=λq=>by
     have:=(List.append_eq_nil_iff.1 q).2
     rw[<-hdn]at this;exact Pk n this
    obtain⟨L,hLL⟩:∃L,pre++En P=L:=⟨_,rfl⟩
    rw[hLL]at hL⊢;obtain⟨y,r,hy⟩:=ZB hL;have hlr:L.length=r.length+1:=by rw[<-O2,hy];rfl
    refine AF AY e1 AB AB AB AB AB AB ?_;refine BF.own _ (by
     have:=λn=>zc c0 gb n L hL p []
     unfold bH;simp only[hy,hlr]at this⊢;exact this _) ?_
    rintro d H' n' ⟨rfl,rfl,rfl⟩;refine AF AY kB AB AB AB AB AB AB ?_;exact AM rfl AA.out
   ·obtain⟨k',rfl⟩:∃k',k=k'+1:=⟨k-1,by omega⟩
    have e1:decide ((((k'+1:Nat):Int)-1)>=0)=true:=BR;have e2:(((k'+1:Nat):Int)-1)=(k':Int):=by omega
    have wk:IntKind.i64.wrap ((k':Int)-1)=((k':Int)-1):=wI;have e3:decide ((k':Int)>=0)=true:=BR;obtain⟨t,ht⟩:∃t,P[k']?=some t:=CO (by omega);have hm:(F7 P)[k']?=some (str (sb t)):=by rw[Ay,ht];rfl
    have htn:=hall t (Ax ht);have hdr:P.drop k'=t::P.drop (k'+1):=by
     rw[Et (BS.1 ht).1,(BS.1 ht).2]
    have hj:pre++En (P.drop k')=pre++En (P.drop (k'+1))++t:=by
     rw[hdr,Du]
     congr 1
     unfold En;rw[List.reverse_cons,List.flatten_append];simp
    have hlt:(pre++En (P.drop (k'+1))).length+t.length<=100000000:=by
     have h1:=hjl k';have h2:(pre++En (P.drop k')).length=(pre++En (P.drop (k'+1))).length+t.length:=by rw[hj,Be]
     rw[<-h2,Be];omega
    rw[e2];refine AF AY (Aa e3 kN) hm AB AB AB AB AB ?_;refine BF.own _ (jC c0 gb _ p hp (pre++En (P.drop (k'+1))) t htn [] hlt) ?_;rintro d H' n' ⟨⟨g',rfl⟩,hn'⟩;refine BU ?_;refine AF AY wk AB AB AB AB AB AB ?_;exact⟨(k',.optr 1500 c0 2 0 0,g',_),⟨by dsimp only;omega,.inr rfl⟩,by dsimp only;omega,by(dsimp only;rw[hj];exact AK)⟩
  have e1:=hmpos m hm;have c1:=ic m B hB0 (Dy (IQ m n I.le) hf) (by rw[hBl];show 1<1000000;decide);have I2:=I.step hm hB;obtain⟨q,hq⟩:∃q,m/B=q:=⟨_,rfl⟩
  obtain⟨r,hr⟩:∃q,m%B=q:=⟨_,rfl⟩
  have hqm:q<m:=by rw[<-hq];exact Ir (EX hm) hB2
  have hrB:r<B:=by rw[<-hr];exact B7 _ (EX hB0)
  rw[hq,hr]at c1 I2;have hsz:=C3 (Lib.decDigits r);have hdl:(Lib.decDigits r).length<=18:=NL 17 r (by rw[hB]at hrB;exact hrB);have hdl1:(Lib.decDigits r).length≠0:=λh=>Pk r (FB h)
  refine AF AY e1 AB AB AB AB AB AB ?_;refine cI c1 ?_;refine sR 800 ?_;refine DJ (α:=Nat) (λcnt=>⟨[(3,Al neg),(5,wD B),(6,EP 1303 g 1 (F7 P)),(7,wD q),(9,str (sb (Lib.decDigits r)))],EF 1303 g 9 1 (F7 P),cnt⟩) (λ_=>True) ?_ ?_
  ·rcases Nat.decEq r 0 with h0|h0
   ·have e2:=hmpos r h0
    have hl1:Ah r=[r]:=NO h0 (Gp hrB hB1);have hmm:((Ah r).map AT)[0]?=some (u64 (r:Int)):=by rw[hl1];rfl
    have c2:=uR r (Gp hrB hB1);refine AF AY e2 hmm c2 AB AB AB AB ?_;exact⟨by trivial,_,trivial,AK⟩
   ·subst h0
    rw[ZI];refine AF AY hm0 AB AB AB AB AB AB ?_;exact⟨by trivial,_,trivial,AK⟩
  rintro cnt2 -;refine DJ (α:=Nat) (λcnt=>⟨[(3,Al neg),(5,wD B),(6,EP 1303 g 1 (F7 P)),(7,wD q),(9,str (sb (Gi q r)))],EF 1303 g 9 1 (F7 P),cnt⟩) (λ_=>True) ?_ ?_
  ·rcases Nat.decEq q 0 with h0|h0
   ·have e2:=hmpos q h0
    have c2:AL C0 148 [str ⟨#[48]⟩,i64 ((18-(Lib.decDigits r).length:Nat):Int)] (str (sb (List.replicate (18-(Lib.decDigits r).length) 48))):=sN (18-(Lib.decDigits r).length) (by omega);have w18:IntKind.i64.wrap (18-((Lib.decDigits r).length:Int))=((18-(Lib.decDigits r).length:Nat):Int):=by rw[wI];omega
    have hap:=V1 (List.replicate (18-(Lib.decDigits r).length) 48) (Lib.decDigits r);have hsz2:=C3 (List.replicate (18-(Lib.decDigits r).length) 48);have hpt:List.replicate (18-(Lib.decDigits r).length) 48++Lib.decDigits r=Gi q r:=by unfold Gi;rw[AH h0]
    rw[hpt]at hap;have hsize:(sb (List.replicate (18-(Lib.decDigits r).length) 48)).size+(sb (Lib.decDigits r)).size<=9223372036854775807:=by
     rw[hsz,hsz2,Hn];omega
    refine AF AY (Bb e2 hsz w18 hap) c2 AB AB AB AB AB ?_;exact⟨by trivial,_,trivial,AK⟩
   ·subst h0
    have hpt:Gi 0 r=Lib.decDigits r:=AI rfl;rw[hpt];refine AF AY hm0 AB AB AB AB AB AB ?_;exact⟨by trivial,_,trivial,AK⟩
  rintro cnt3 -;have hsn:F7 (P++[Gi q r])=F7 P++[str (sb (Gi q r))]:=by unfold F7;rw[Cz];rfl
  have hPL:(F7 P).length=P.length:=Ab ..;rcases hPD:F7 P with _|⟨y,l⟩
  all_goals
   rw[hPD]at hsn hPL;dsimp only[Je,Jf,IR,IS,List.nil_append]
  ·refine AF AY kB AB AB AB AB AB AB ?_
   exact⟨(q,P++[Gi q r],_,_),I2,hqm,by(dsimp only;rw[hsn];exact AK)⟩
  ·have htk:List.take (l.length+1) (y::l)=y::l:=by simp
   have hll:l.length+1<=27000001:=by rw[Bu]at hPL;omega
   refine AF AY htk AB AB AB AB AB AB ?_;exact⟨(q,P++[Gi q r],_,_),I2,hqm,by(dsimp only;rw[hsn,O0];exact AK)⟩
abbrev aL:Dr:=[(3,[0,1,2,3,4,5,6],[7,8])]
open Go.Proofs Go.RowKit
set_option maxRecDepth 20000
set_option maxHeartbeats 4000000
theorem oM (x:Nat)(hx:x<BB):AL C0 160 [AT x] (i64 (Lib.bitLen x:Int)):=by
 refine⟨⟨_,_,Tryz.func160,rfl,by kernel_rfl⟩,λY w vs hG hnG hX hvs hr=>?_⟩
 have:=RS hvs hr
 subst this;refine(Tryz.bits_Len64 x w (by omega) (by unfold BB at hx;omega)).mono ?_;rintro e w' ⟨rfl,rfl⟩;exact⟨_,_,rfl,.refl _ _,rfl,.prim _⟩
def Fl (n:Nat):Nat:=(Ah n).getD ((Ah n).length-1) 0
def JC (n:Nat):Nat:=if n=0 then 0 else 64*((Ah n).length-1)+Lib.bitLen (Fl n)
theorem q6 (n:Nat):n<2^JC n:=by
 unfold JC
 by_cases h:n=0
 ·subst h;rw[AI rfl];decide
 ·rw[AH h]
  have hl:(Ah n).length≠0:=λq=>by
   have:=Gy h
   rw[this]at q;simp at q
  obtain⟨k,hk⟩:∃k,(Ah n).length=k+1:=⟨(Ah n).length-1,by omega⟩
  have hat:(Ah n)[k]?=some (Fl n):=by
   unfold Fl;rw[hk,JP,EK,Ce];rfl
  have hv:=LV hat;rw[IJ (by omega),FY]at hv;have ht:Fl n<BB:=F3 n _ (Ax hat);have h1:AU ((Ah n).take k)<BB^k:=by
   have:=IU (l:=(Ah n).take k) λa ha=>F3 n a (GJ ha)
   rwa [Bc,Fp (by omega)]at this
  have h2:Fl n<2^Lib.bitLen (Fl n):=by
   by_cases t0:Fl n=0
   ·rw[t0];exact Ho _
   ·exact(Lib.bitLenAux_bounds 64 (Fl n) ht t0).2.2
  have h3:BB^k=2^(64*k):=by rw[Nat.pow_mul]
  rw[hk,JP,Gq,<-h3];have h4:n=AU ((Ah n).take k)+BB^k*Fl n:=by simpa[AU]using hv
  have h5:BB^k*(Fl n+1)<=BB^k*2^Lib.bitLen (Fl n):=Cy _ h2;rw[BQ,Ej]at h5;omega
def Ka (n:Nat):Bool:=decide (600<(Lib.decDigits n).length)
theorem mj (n:Nat):Ka n=(decide (JC n>1800)&&Ka n):=by
 by_cases h:JC n>1800
 ·rw[Aw h,Gl]
 ·rw[Az h,Hk]
  have key:∀k,JC n<=3*(k+1)->(Lib.decDigits n).length<=k+1:=λk hk=>NL k n (Co (q6 n) (BY (GK (by decide) hk) (by rw[Nat.pow_mul];exact Oe (by decide) (k+1))))
  have h4:=key 599 (by omega);exact Bd
theorem sq (x:GI)(h:x.wf)(hf:x.few):AL C0 142 [x.D] (i64 (JC x.z.natAbs:Nat)):=by
 refine Af.walk w1 dT rfl λF=>?_
 have c1:=KG x h;obtain⟨n,hn⟩:∃n,x.z.natAbs=n:=⟨_,rfl⟩
 unfold GI.few at hf;rw[hn]at c1 hf⊢;have el:((((Ah n).map AT).length:Nat):Int)=((Ah n).length:Int):=by rw[Ab]
 unfold wD wL at c1;dsimp only[GI.D]at c1⊢
 by_cases h0:n=0
 ·have e1:(((Ah n).length:Int)==0)=true:=by rw[h0,Gd];rfl
  have hb:JC n=0:=AI h0;rw[hb];refine AF AY (Aa e1 el) c1 AB AB AB AB AB ?_;exact AM rfl AA.out
 ·have hl:(Ah n).length≠0:=λq=>by
   have:=Gy h0
   rw[this]at q;simp at q
  have e1:(((Ah n).length:Int)==0)=false:=d9r hl;have wl:IntKind.i64.wrap (((Ah n).length:Int)-1)=(((Ah n).length-1:Nat):Int):=by rw[wI];omega
  have wm:IntKind.i64.wrap (64*(((Ah n).length-1:Nat):Int))=((64*((Ah n).length-1):Nat):Int):=by rw[wI];omega
  have hat:(Ah n)[(Ah n).length-1]?=some (Fl n):=by
   unfold Fl;rw[EK,Ce];rfl
  have hm:((Ah n).map AT)[(Ah n).length-1]?=some (u64 (Fl n:Int)):=by rw[Ay,hat];rfl
  have ht:Fl n<BB:=F3 n _ (Ax hat);have c2:=oM (Fl n) ht;have hbl:=Lib.bitLen_le (Fl n) 64 (Ar _) ht;have wa:IntKind.i64.wrap (((64*((Ah n).length-1):Nat):Int)+(Lib.bitLen (Fl n):Int))=((JC n:Nat):Int):=by
   have hb:JC n=64*((Ah n).length-1)+Lib.bitLen (Fl n):=AH h0;rw[hb,wI];omega
  refine AF AY (D9 e1 el wl wm wa kN) c1 hm c2 AB AB AB ?_;exact AM rfl AA.out
theorem fL (x:GI)(h:x.wf)(hf:x.few):AL C0 115 [x.D] (Al (Ka x.z.natAbs)):=by
 refine Af.walk w1 cz rfl λF=>?_
 have c1:=sq x h hf;have c2:=Uu x h hf;have hlen:(Lib.decDigits x.z.natAbs).length<=27*1000000+1:=Np (k:=1000000) (by unfold GI.few at hf;omega);have hil:(Lib.itoa x.z).length<=27000002:=by
  unfold Lib.itoa;split
  ·rw[Bu];omega
  ·rw[show x.z.toNat=x.z.natAbs by omega];omega
 have c3:=Tl (Lib.itoa x.z) (by omega);rw[(NS x.z).2]at c3;have hsz:=C3 (Lib.decDigits x.z.natAbs);have hlb:=mj x.z.natAbs;obtain⟨b,hb⟩:∃b,Ka x.z.natAbs=b:=⟨_,rfl⟩
 have e2:decide (((Lib.decDigits x.z.natAbs).length:Int)>600)=b:=by rw[<-hb];exact DO.2 (by omega)
 obtain⟨p,hp⟩:∃b,decide (JC x.z.natAbs>1800)=b:=⟨_,rfl⟩
 have e1:decide (((JC x.z.natAbs:Nat):Int)>1800)=p:=by rw[<-hp];exact DO.2 (by omega)
 rw[hb,hp]at hlb;rw[hb,hlb];dsimp only[GI.D]at c1 c2⊢;cases p
 ·refine AF AY e1 c1 AB AB AB AB AB ?_
  exact AM rfl AA.out
 ·refine AF AY (Ao e1 e2 hsz) c1 c2 c3 AB AB AB ?_
  exact AM rfl AA.out
theorem fB {r:Rat}{x:GF}{k:Nat}(h:FR r x k)(hk:k<100000):x.n.wf/\x.n.few/\(Ac (x.d:Int)).wf/\(Ac (x.d:Int)).few/\x.n.z=r.num/\x.d=r.den/\0<x.d:=
 ⟨h.is.1,h.fn (by omega),C4 _,by
  show(Ah ((x.d:Int)).natAbs).length<1000000;rw[E5];have:=h.ld;omega,h.is.2.1,h.is.2.2,h.dpos⟩
theorem ab {r:Rat}{x:GF}{k:Nat}(h:FR r x k)(hk:k<100000):AL C0 86 [x.D] (Al (EG r)):=by
 refine Af.walk w1 iA rfl λF=>?_
 obtain⟨h1,h2,h3,h4,h5,h6,_⟩:=fB h hk;have c1:=fL x.n h1 h2;have c2:=fL (Ac (x.d:Int)) h3 h4;have hb:EG r=(Ka x.n.z.natAbs||Ka (Ac (x.d:Int)).z.natAbs):=by
  unfold EG Ka;rw[h5,<-h6];rfl
 rw[hb];obtain⟨p,hp⟩:∃b,Ka x.n.z.natAbs=b:=⟨_,rfl⟩
 obtain⟨q,hq⟩:∃b,Ka (Ac (x.d:Int)).z.natAbs=b:=⟨_,rfl⟩
 rw[hp]at c1;rw[hq]at c2;rw[hp,hq];dsimp only[GI.D,GF.D]at c1 c2⊢;generalize Ac (x.d:Int)=y at c2⊢;cases p<;>cases q
 all_goals
  refine AF AY kB c1 c2 AB AB AB AB ?_;exact AM rfl AA.out
theorem eG {r:Rat}{x:GF}{k:Nat}(h:FR r x k)(hk:k<100000):AL C0 87 [x.D] (str (sb (BT r))):=by
 refine Af.walk w1 iB rfl λF=>?_
 obtain⟨h1,h2,h3,h4,h5,h6,h7⟩:=fB h hk;have c0:=UQ x h7;have c1:=Uu x.n h1 h2;have c2:=Uu (Ac (x.d:Int)) h3 h4;have hd:Lib.itoa (Ac (x.d:Int)).z=Lib.decDigits r.den:=by
  show Lib.itoa (x.d:Int)=_;unfold Lib.itoa;rw[CP,h6];rfl
 rw[hd]at c2;rw[h5]at c1;have l1:(Lib.itoa r.num).length<=27000002:=by
  have:(Lib.decDigits x.n.z.natAbs).length<=27*1000000+1:=Np (k:=1000000) (by unfold GI.few at h2;omega)
  rw[h5]at this;unfold Lib.itoa;split
  ·rw[Bu];omega
  ·rw[show r.num.toNat=r.num.natAbs by omega];omega
 have l2:(Lib.decDigits r.den).length<=27000001:=by
  have:(Lib.decDigits (Ac (x.d:Int)).z.natAbs).length<=27*1000000+1:=Np (k:=1000000) (by unfold GI.few at h4;omega)
  rw[<-h6];exact this
 have s1:=C3 (Lib.itoa r.num);have s2:=C3 (Lib.decDigits r.den);have s3:(sb [47]).size=1:=rfl;have s4:=C3 (Lib.itoa r.num++[47]);have z1:(sb (Lib.itoa r.num)).size+(sb [47]).size<=9223372036854775807:=by rw[s1,s3];omega
 have z2:(sb (Lib.itoa r.num++[47])).size+(sb (Lib.decDigits r.den)).size<=9223372036854775807:=by rw[s4,s2,Be,HN];omega
 have a1:sb (Lib.itoa r.num)++(⟨#[47]⟩:ByteArray)=sb (Lib.itoa r.num++[47]):=V1 _ [47];have a2:=V1 (Lib.itoa r.num++[47]) (Lib.decDigits r.den);rw[Du]at a2;dsimp only[GI.D,GF.D]at c0 c1 c2⊢;generalize Ac (x.d:Int)=y at c0 c2⊢;unfold BT
 by_cases g:x.d=1
 ·rw[Aw g]at c0
  rw[AI (h6 ▸ g)];refine AF aL kB c0 c1 AB AB AB AB ?_;exact AM rfl AA.out
 ·rw[Az g]at c0
  rw[AH (λq=>g (h6.trans q))];refine AF aL (Aa a1 a2) c0 c1 c2 AB AB AB ?_;exact AM rfl AA.out
set_option maxHeartbeats 4000000
def nb (r:Rat)(n d:Nat):Prop:=r.num.natAbs<=n/\r.den<=d
def Qo:Nat:=10^40
theorem qj {l:List UInt8}(h:Cr l=0)(hl:l.length<=40):nb (Cd l) Qo Qo:=by
 obtain⟨m1,m2,m3,m4⟩:=O7 h;obtain⟨p1,p2⟩:=Qu h;have hs1:(CA l).length<=40:=by
  have:(CA l).length<=l.length:=by
   unfold CA;have a1:(Bv (B6 l)).length<=(B6 l).length:=by unfold Bv;split<;>simp
   have a2:(B6 l).length<=l.length:=by unfold B6;rw[Bc];omega
   omega
  omega
 have hb:∀k,k<=40->(10:Nat)^k<=Qo:=λk hk=>GK (by decide) hk
 refine⟨?_,?_⟩
 ·rw[m1,m4]
  exact BY (Kt (G3 _ p1)) (hb _ hs1)
 ·rw[m2]
  unfold Hd;cases hs:DE l
  ·exact(by decide:1<=Qo)
  ·have hs2:(Bg l).length<=40:=by
    have:(Bg l).length<=l.length:=by unfold Bg;simp
    omega
   exact BY (Kt (G3 _ (p2 hs))) (hb _ hs2)
theorem zr {r:Rat}{n d k:Nat}(h:nb r n d)(h1:n<BB^k)(h2:d<BB^k):rk r k:=
 ⟨Hu (Dy h.1 h1),Hu (Dy h.2 h2)⟩
theorem jX {l:List UInt8}(h:Cr l=0)(hl:l.length<=40):rk (Cd l) 3:=zr (qj h hl) (by decide) (by decide)
theorem bF (k:Nat)(hk:1<=k):FR 0 ⟨Ac 0,1⟩ k:=⟨⟨C4 _,by rw[EE];rfl,rfl⟩,by
 refine rk.mono (k:=1) ?_ hk;exact⟨Hu (k:=1) (by decide),Hu (k:=1) (by decide)⟩⟩
abbrev Gx:Dr:=[(11,[0,1,2,3,4,5,6,7,8,9,10],[11,12]),(21,[0,1],[2,3])]
open Go.Proofs Go.RowKit
set_option maxRecDepth 20000
set_option maxHeartbeats 4000000
def P5 (a b:List UInt8):Bool:=Mt (sb a) (sb b)||BJ (sb a) (sb b)
def GL (l:List Au)(i:Nat):Nat:=
 if D3 (Ga l i).lot=false then 8 else if 0<i/\P5 (Ga l i).lot (Ga l (i-1)).lot=true then 11 else if Cr (Ga l i).part≠0 then Cr (Ga l i).part else if Hh (Cd (Ga l i).part)<=0 then 12 else 0
def Fg (l:List Au):Nat->Rat
 | 0=>0
 |n+1=>Fg l n+Cd (Ga l n).part
def IZ (l:List Au):Nat:=if l.length=0 then 2 else if 64<l.length then 5 else if EC (GL l) l.length≠0 then EC (GL l) l.length else if Fg l l.length=1 then 0 else 12
theorem R2 (l:List UInt8):AL C0 57 [str (sb l)] (Al (D3 l)):=mb (sb l)
theorem qH (a b:Rat):(Mv a b==0)=decide (a=b):=by
 unfold Mv
 by_cases h:a<b
 ·rw[AI h,Az (Rat.ne_of_lt h)];rfl
 ·rw[AH h]
  by_cases h2:b<a
  ·rw[AI h2,Az λe=>Rat.ne_of_lt h2 e.symm];rfl
  ·rw[AH h2,Aw (Rat.le_antisymm (Rat.not_lt.1 h2) (Rat.not_lt.1 h))];rfl
theorem x9 {a b:Rat}{x y:GF}{i j:Nat}(hx:FR a x i)(hy:FR b y j)(hk:i+j<300000):AL C0 141 [x.D,y.D] (Al (decide (a=b))):=by
 refine Af.walk w1 dS rfl λF=>?_
 have c:=uN hx hy hk;have e:=qH a b;obtain⟨r,hr⟩:∃r,Mv a b=r:=⟨_,rfl⟩
 rw[hr]at c e;obtain⟨xD,hxD⟩:∃d,x.D=d:=⟨_,rfl⟩
 obtain⟨yD,hyD⟩:∃d,y.D=d:=⟨_,rfl⟩
 unfold GF.D at c hxD hyD⊢;refine AF AY e c AB AB AB AB AB ?_;exact AM rfl AA.out
theorem xm:FR 1 ⟨Ac 1,1⟩ 1:=by
 have:=Rs (z:=1) (by decide)
 exact this
theorem d9V (b:Bool)(l:List Au)(hl:l.length<=9223372036854775807)(hf:∀s∈l,s.few):AL C0 114 [CY b l] (i64 (IZ l:Nat)):=by
 refine Af.walk w1 cr rfl λF=>?_
 have el:(((l.map Au.D).length:Nat):Int)=(l.length:Int):=by rw[Ab]
 have hC:IZ l=if l.length=0 then 2 else if 64<l.length then 5 else if EC (GL l) l.length≠0 then EC (GL l) l.length else if Fg l l.length=1 then 0 else 12:=rfl
 rcases Nat.decEq l.length 0 with h0|h0
 rotate_left
 ·rw[AI h0]at hC
  rw[hC];have q1:((l.length:Int)==0)=true:=by rw[h0];rfl
  refine AF Gx (Aa el q1) AB AB AB AB AB AB ?_;exact AM rfl AA.out
 rw[AH h0]at hC;have q1:((l.length:Int)==0)=false:=Bo.2 (by omega)
 by_cases h64:64<l.length
 ·rw[AI h64]at hC
  rw[hC];have q2:decide ((l.length:Int)>64)=true:=BR;refine AF Gx (Ao el q1 q2) AB AB AB AB AB AB ?_;exact AM rfl AA.out
 rw[AH h64]at hC;have q2:decide ((l.length:Int)>64)=false:=Bd;have c0:=QG 0 ⟨by decide,by decide⟩;have c1:=QG 1 ⟨by decide,by decide⟩;refine AF Gx (Ao el q1 q2) c0 AB AB AB AB AB ?_;refine AC.loop (α:=Nat×GF×Nat) (λp=>⟨[(0,CY b l),(3,.optr 501 8 4 0 0),(15,CY b l),(16,i64 (l.length:Int)),(17,i64 (p.1:Int))],[⟨501,8,134,4,[p.2.1.D]⟩],p.2.2⟩) (λp=>l.length-p.1) (λp=>p.1<=l.length/\(∀j,j<p.1->GL l j=0)/\FR (Fg l p.1) p.2.1 (601*p.1+1)) (0,⟨Ac 0,1⟩,_)
  ⟨BW _,λj h=>Ak h (HK j),bF 1 (Ar _)⟩ AK ?_
 rintro⟨i,y,m⟩ F ⟨hi,hz,hS⟩;dsimp only at hi hz hS⊢;rcases BE i l.length with h2|h2
 rotate_left
 ·have e1:=Cg h2
  have:i=l.length:=by omega
  subst this;rw[AH (λh=>h (MN hz))]at hC;have cS:=x9 hS xm (by omega);obtain⟨q,hq⟩:∃q,decide (Fg l l.length=1)=q:=⟨_,rfl⟩
  rw[hq]at cS;cases q
  ·rw[AH (Do hq)]at hC
   rw[hC];refine AF Gx e1 c1 cS AB AB AB AB ?_;exact AM rfl AA.out
  ·rw[AI (DN hq)]at hC
   rw[hC];refine AF Gx e1 c1 cS AB AB AB AB ?_;exact AM rfl AA.out
 have e1:=Ch h2;have wi:=Cc (i:=i) (by omega);obtain⟨s,hs⟩:=CO h2;have hm:(l.map Au.D)[i]?=some (.agg [str (sb s.lot),str (sb s.part)]):=by rw[Ay,hs];rfl
 obtain⟨f1,f2⟩:=hf s (Ax hs);have hE:GL l i=if D3 s.lot=false then 8 else if 0<i/\P5 s.lot (Ga l (i-1)).lot=true then 11 else if Cr s.part≠0 then Cr s.part else if Hh (Cd s.part)<=0 then 12 else 0:=by unfold GL;rw[KU hs]
 have hbad:∀e:Nat,e≠0->GL l i=e->IZ l=e:=λe he h=>by
  have:=Pb hz h2 (by rw[h];exact he)
  rw[hC,this,h,AI he]
 have cN:=R2 s.lot;obtain⟨N,hN⟩:∃q,D3 s.lot=q:=⟨_,rfl⟩
 rw[hN]at cN hE;cases N
 ·rw[AI rfl]at hE
  rw[hbad 8 (by decide) hE];refine AF Gx (Aa e1 kN) hm cN AB AB AB AB ?_;exact AM rfl AA.out
 rw[AH (by decide)]at hE;have cC:=nm s.part f2;rcases i with _|q
 ·have g0:decide (((0:Nat):Int)>0)=false:=rfl
  rw[AH (λh=>Ak h.1 (Nat.lt_irrefl 0))]at hE;rcases Nat.decEq (Cr s.part) 0 with hc0|hc0
  ·rw[AI hc0]at hE
   have e3:=G9 hc0;rw[hbad (Cr s.part) hc0 hE];refine AF Gx (Bb e1 g0 kN e3) hm cN cC AB AB AB ?_;exact AM rfl AA.out
  rw[AH (λh=>h hc0)]at hE;have e3:=HA hc0;have cP:=SR f2 hc0;have fP:=SB hc0;have cG:=aC fP.is;have cA:=SM hS fP (by omega);have fA:=Ru hS fP;obtain⟨z,hzz⟩:∃z,Kg y (G4 s.part)=z:=⟨_,rfl⟩
  rw[hzz]at cA fA;obtain⟨sg,hsg⟩:∃q,Hh (Cd s.part)=q:=⟨_,rfl⟩
  rw[hsg]at cG hE
  by_cases hs0:sg<=0
  ·rw[AI hs0]at hE
   have e4:decide (sg<=0)=true:=Aw hs0;rw[hbad 12 (by decide) hE];refine AF Gx (CS e1 g0 kN e3 e4) hm cN cC cP cG AB ?_;exact AM rfl AA.out
  rw[AH hs0]at hE;have e4:decide (sg<=0)=false:=Az hs0;refine AF Gx (D9 e1 g0 kN e3 e4 wi) hm cN cC cP cG AB ?_;refine cI cA ?_;refine AF Gx wi AB AB AB AB AB AB ?_;exact⟨(0+1,z,_),⟨h2,λj hj=>by
   rcases Ko.1 hj with q|q
   ·exact hz j q
   ·rw[q];exact hE,by
   show FR (Fg l 0+Cd (Ga l 0).part) z _;rw[KU hs];exact⟨fA.is,fA.rk.mono (by dsimp only;omega)⟩⟩,by dsimp only;omega,AK⟩
 ·have g0:decide (((q+1:Nat):Int)>0)=true:=BR
  have g1:IntKind.i64.wrap (((q+1:Nat):Int)-1)=(q:Int):=by rw[wI];omega
  obtain⟨s0,hs0'⟩:=CO (l:=l) (i:=q) (by omega);have hm0:(l.map Au.D)[q]?=some (.agg [str (sb s0.lot),str (sb s0.part)]):=by rw[Ay,hs0'];rfl
  rw[JP,KU hs0']at hE;obtain⟨bL,hbL⟩:∃q,P5 s.lot s0.lot=q:=⟨_,rfl⟩
  have g2:(Mt (sb s.lot) (sb s0.lot)||BJ (sb s.lot) (sb s0.lot))=bL:=hbL;rw[hbL]at hE;cases bL
  rotate_left
  ·rw[AI ⟨Nat.succ_pos q,rfl⟩]at hE
   rw[hbad 11 (by decide) hE];refine AF Gx (CS e1 g0 g1 g2 kN) hm hm0 cN AB AB AB ?_;exact AM rfl AA.out
  rw[AH (λh=>Ak h.2 (by decide))]at hE;rcases Nat.decEq (Cr s.part) 0 with hc0|hc0
  ·rw[AI hc0]at hE
   have e3:=G9 hc0;rw[hbad (Cr s.part) hc0 hE];refine AF Gx (D9 e1 g0 g1 g2 kN e3) hm hm0 cN cC AB AB ?_;exact AM rfl AA.out
  rw[AH (λh=>h hc0)]at hE;have e3:=HA hc0;have cP:=SR f2 hc0;have fP:=SB hc0;have cG:=aC fP.is;have cA:=SM hS fP (by omega);have fA:=Ru hS fP;obtain⟨z,hzz⟩:∃z,Kg y (G4 s.part)=z:=⟨_,rfl⟩
  rw[hzz]at cA fA;obtain⟨sg,hsg⟩:∃q,Hh (Cd s.part)=q:=⟨_,rfl⟩
  rw[hsg]at cG hE
  by_cases hs0:sg<=0
  ·rw[AI hs0]at hE
   have e4:decide (sg<=0)=true:=Aw hs0;rw[hbad 12 (by decide) hE];refine AF Gx (CM e1 g0 g1 g2 kN e3 e4) hm hm0 cN cC cP cG ?_;exact AM rfl AA.out
  rw[AH hs0]at hE;have e4:decide (sg<=0)=false:=Az hs0;refine AF Gx (CM e1 g0 g1 g2 kN e3 (Aa e4 wi)) hm hm0 cN cC cP cG ?_;refine cI cA ?_;refine AF Gx wi AB AB AB AB AB AB ?_;exact⟨(q+1+1,z,_),⟨h2,λj hj=>by
   rcases Ko.1 hj with q|q
   ·exact hz j q
   ·rw[q];exact hE,by
   show FR (Fg l (q+1)+Cd (Ga l (q+1)).part) z _;rw[KU hs];exact⟨fA.is,fA.rk.mono (by dsimp only;omega)⟩⟩,by dsimp only;omega,AK⟩
def AE.few (x:AE):Prop:=x.grain.length<=100000/\x.shs.length<=9223372036854775807/\∀s∈x.shs,s.few
def Ct (x:AE):Nat:=if D3 x.grain=false then 8 else if x.mass<1\/x.mass>999999999 then 3 else IZ x.shs
def CT (l:List AE)(k:Nat):AE:=l.getD k ⟨[],0,[]⟩
theorem GO {l:List AE}{k:Nat}{x:AE}(h:l[k]?=some x):CT l k=x:=by unfold CT;rw[EK,h];rfl
def AZ (l:List AE):Int:=(l.map (·.mass)).sum
theorem UX {l:List AE}{i:Nat}{x:AE}(h:l[i]?=some x):AZ (l.take (i+1))=AZ (l.take i)+x.mass:=by
 unfold AZ;rw[Dp,h,Cz,List.sum_append];simp
def Ib (l:List AE):Prop:=l.length<=1000000/\∀x∈l,x.mass.natAbs<=1000000000
theorem VR {l:List AE}(h:∀x∈l,x.mass.natAbs<=1000000000):(AZ l).natAbs<=l.length*1000000000:=by
 unfold AZ
 induction l with
 |nil=>simp
 |cons a l ih=>
  have h1:=h a (by simp);have h2:=ih λx hx=>h x (by simp[hx])
  simp only[Cx,List.sum_cons,Bu];omega
def Bw (l:List AE):Nat:=if 64<l.length then 5 else if EC (λi=>Ct (CT l i)) l.length≠0 then EC (λi=>Ct (CT l i)) l.length else if AZ l>999999999 then 4 else 0
theorem PJ {x:AE}(h:Ct x=0):D3 x.grain=true/\1<=x.mass/\x.mass<=999999999/\IZ x.shs=0:=by
 unfold Ct at h;split at h
 ·cases h
 ·rename_i h1
  split at h
  ·cases h
  ·rename_i h2
   exact⟨by simpa using h1,by omega,by omega,h⟩
theorem GQ (b:Bool)(e:Int):AL C0 32 [Al b,i64 e] (i64 (if b then e else 0)):=by
 refine Af.walk w1 gF rfl λF=>?_
 cases b
 ·refine AF AY kB AB AB AB AB AB AB ?_
  exact AM rfl AA.out
 ·refine AF AY kB AB AB AB AB AB AB ?_
  exact AM rfl AA.out
theorem I6 (v:List Int)(hl:v.length<=1000):AL C0 30 [.sl true 1 (v.map λe=>i64 e)] (i64 (Ck v)):=by
 refine Af.walk w1 gD rfl λF=>?_
 have el:(((v.map λe=>i64 e).length:Nat):Int)=(v.length:Int):=by rw[Ab]
 refine AF AY el AB AB AB AB AB AB ?_;refine AC.loop (α:=Nat×Nat) (λp=>⟨[(5,.sl true 1 (v.map λe=>i64 e)),(6,i64 (v.length:Int)),(7,i64 (p.1:Int))],[],p.2⟩) (λp=>v.length-p.1) (λp=>p.1<=v.length/\∀(j:Nat) (e:Int),j<p.1->v[j]?=some e->e=0) (0,_) ⟨BW _,λj e h=>Ak h (HK j)⟩ AK ?_;rintro⟨i,m⟩ F ⟨hi,ha⟩;dsimp only at hi ha⊢;rcases BE i v.length with h2|h2
 rotate_left
 ·have e1:=Cg h2
  have:i=v.length:=by omega
  subst this;have hd:Ck v=0:=by rw[Qt ha,JS];rfl
  rw[hd];refine AF AY e1 AB AB AB AB AB AB ?_;exact AM rfl AA.out
 have e1:=Ch h2;have wi:=Cc (i:=i) (by omega);obtain⟨l,hl'⟩:=CO h2;have hm:(v.map λe=>i64 e)[i]?=some (i64 l):=by rw[Ay,hl'];rfl
 by_cases g:l=0
 ·have e5:(l != 0)=false:=by rw[g];rfl
  refine AF AY (Bb e1 wi e5 kN) hm AB AB AB AB AB ?_;exact⟨(i+1,_),⟨h2,λj e hj he=>by
   rcases Ko.1 hj with q|q
   ·exact ha j e q he
   ·subst q;rw[hl']at he;cases he;exact g⟩,by dsimp only;omega,AK⟩
 ·have e5:(l != 0)=true:=FW g
  have hd:Ck v=l:=by
   rw[Qt ha,Et h2];rw[Bs h2]at hl';rw[GV hl'];exact AI g
  rw[hd];refine AF AY (Bb e1 wi e5 kN) hm AB AB AB AB AB ?_;exact AM rfl AA.out
theorem bP (b:Bool)(l:List AE)(hs:Ib l):AL C0 33 [AV b l] (i64 (AZ l)):=by
 refine Af.walk w1 WK rfl λF=>?_
 have el:(((l.map AE.D).length:Nat):Int)=(l.length:Int):=by rw[Ab]
 obtain⟨hl,hm0⟩:=hs;refine AF AY el AB AB AB AB AB AB ?_;refine AC.loop (α:=Nat×Nat) (λp=>⟨[(3,i64 (AZ (l.take p.1))),(6,AV b l),(7,i64 (l.length:Int)),(8,i64 (p.1:Int))],[],p.2⟩) (λp=>l.length-p.1) (λp=>p.1<=l.length) (0,_) (BW _) AK ?_;rintro⟨i,m⟩ F hi;dsimp only at hi⊢;rcases BE i l.length with h2|h2
 rotate_left
 ·have e1:=Cg h2
  have:i=l.length:=by omega
  subst this;rw[Cw];refine AF AY e1 AB AB AB AB AB AB ?_;exact AM rfl AA.out
 have e1:=Ch h2;have wi:=Cc (i:=i) (by omega);obtain⟨x,hx⟩:=CO h2;have hm:(l.map AE.D)[i]?=some (.agg [str (sb x.grain),i64 x.mass,.sl false 2 (x.shs.map Au.D)]):=by rw[Ay,hx];rfl
 have hb:=VR (l:=l.take i) λy hy=>hm0 y (GJ hy)
 have hxm:=hm0 x (Ax hx);rw[Bc,Fp hi]at hb;have wS:IntKind.i64.wrap (AZ (l.take i)+x.mass)=AZ (l.take (i+1)):=by rw[UX hx,wI]
 refine AF AY (Bb e1 wi @wS kN) hm AB AB AB AB AB ?_;exact⟨(i+1,_),h2,by dsimp only;omega,AK⟩
theorem ip (x:AE)(hf:x.few):AL C0 85 [x.D] (i64 (Ct x:Nat)):=by
 refine Af.walk w1 gz rfl λF=>?_
 obtain⟨f1,f2,f3⟩:=hf;have cN:=R2 x.grain;have cS:=d9V false x.shs f2 f3;have hC:Ct x=if D3 x.grain=false then 8 else if x.mass<1\/x.mass>999999999 then 3 else IZ x.shs:=rfl
 obtain⟨N,hN⟩:∃q,D3 x.grain=q:=⟨_,rfl⟩
 obtain⟨SD,hSD⟩:∃d,CY false x.shs=d:=⟨_,rfl⟩
 have pS:AA SD:=by rw[<-hSD];exact AJ
 have hna:KP SD=true:=by rw[<-hSD];rfl
 unfold AE.D;rw[hN]at cN hC;rw[hSD]at cS⊢;cases N
 ·rw[AI rfl]at hC
  rw[hC];refine AF AY kB cN AB AB AB AB AB ?_;exact AM rfl AA.out
 rw[AH (by decide)]at hC
 by_cases h1:x.mass<1
 ·rw[AI (.inl h1)]at hC
  rw[hC];have e1:decide (x.mass<1)=true:=Aw h1;refine AF AY e1 cN AB AB AB AB AB ?_;exact AM rfl AA.out
 have e1:decide (x.mass<1)=false:=Az h1
 by_cases h2:x.mass>999999999
 ·rw[AI (.inr h2)]at hC
  rw[hC];have e2:decide (x.mass>999999999)=true:=Aw h2;refine AF AY (Aa e1 e2) cN AB AB AB AB AB ?_;exact AM rfl AA.out
 have e2:decide (x.mass>999999999)=false:=Az h2;rw[CP]at hC;rw[hC];refine AF AY (Ao e1 e2 hna) cN cS AB AB AB AB ?_;exact AM rfl AA.out
theorem UC {l:List AE}(h64:¬ 64<l.length)(hz:∀j,j<l.length->Ct (CT l j)=0):Ib l:=by
 refine⟨by omega,λx hx=>?_⟩;obtain⟨j,hj⟩:=L3.1 hx
 have:=hz j (BS.1 hj).1
 rw[GO hj]at this
 have:=PJ this
 omega
theorem M2 (b:Bool)(l:List AE)(hl:l.length<=9223372036854775807)(hf:∀x∈l,x.few):AL C0 54 [AV b l] (i64 (Bw l:Nat)):=by
 refine Af.walk w1 gP rfl λF=>?_
 have el:(((l.map AE.D).length:Nat):Int)=(l.length:Int):=by rw[Ab]
 have hC:Bw l=if 64<l.length then 5 else if EC (λi=>Ct (CT l i)) l.length≠0 then EC (λi=>Ct (CT l i)) l.length else if AZ l>999999999 then 4 else 0:=rfl
 by_cases h64:64<l.length
 ·rw[AI h64]at hC
  rw[hC];have q2:decide ((l.length:Int)>64)=true:=BR;refine AF AY (Aa el q2) AB AB AB AB AB AB ?_;exact AM rfl AA.out
 rw[AH h64]at hC;have q2:decide ((l.length:Int)>64)=false:=Bd;refine AF AY (Aa el q2) AB AB AB AB AB AB ?_;refine AC.loop (α:=Nat×Nat) (λp=>⟨[(0,AV b l),(9,AV b l),(10,i64 (l.length:Int)),(11,i64 (p.1:Int))],[],p.2⟩) (λp=>l.length-p.1) (λp=>p.1<=l.length/\∀j,j<p.1->Ct (CT l j)=0) (0,_) ⟨BW _,λj h=>Ak h (HK j)⟩ AK ?_;rintro⟨i,m⟩ F ⟨hi,hz⟩;dsimp only at hi hz⊢;rcases BE i l.length with h2|h2
 rotate_left
 ·have e1:=Cg h2
  have:i=l.length:=by omega
  subst this;rw[AH (λh=>h (MN (f:=λi=>Ct (CT l i)) hz))]at hC;have cT:=bP b l (UC h64 hz);obtain⟨q,hq⟩:∃q,decide (AZ l>999999999)=q:=⟨_,rfl⟩
  have cW:=GQ q 4;have hR:((Bw l:Nat):Int)=if q then 4 else 0:=by
   rw[hC,<-hq]
   by_cases h:AZ l>999999999
   ·rw[AI h,Aw h];rfl
   ·rw[AH h,Az h];rfl
  rw[hR];refine AF AY (Aa e1 hq) cT cW AB AB AB AB ?_;exact AM rfl AA.out
 have e1:=Ch h2;have wi:=Cc (i:=i) (by omega);obtain⟨x,hx⟩:=CO h2;have hm:(l.map AE.D)[i]?=some (.agg [str (sb x.grain),i64 x.mass,.sl false 2 (x.shs.map Au.D)]):=by rw[Ay,hx];rfl
 have cL:=ip x (hf x (Ax hx));unfold AE.D at cL;rcases Nat.decEq (Ct x) 0 with hc0|hc0
 ·have e3:=G9 hc0
  have:=Pb (f:=λi=>Ct (CT l i)) hz h2 (by rw[GO hx];exact hc0)
  rw[GO hx]at this;rw[this,AI hc0]at hC;rw[hC];refine AF AY (Ao e1 e3 kN) hm cL AB AB AB AB ?_;exact AM rfl AA.out
 have e3:=HA hc0;refine AF AY (Bb e1 e3 wi kN) hm cL AB AB AB AB ?_;exact⟨(i+1,_),⟨h2,λj hj=>by
  rcases Ko.1 hj with q|q
  ·exact hz j q
  ·rw[q,GO hx];exact hc0⟩,by dsimp only;omega,AK⟩
theorem Y9 {α:Type}{l:List α}{p:α->Bool}{k:Nat}{x:α}(hx:l[k]?=some x)(h:(l.take k).all p=true)(hp:p x=true):(l.take (k+1)).all p=true:=by
 rw[Dp,hx,Ks,h];simp[hp]
theorem VF {α:Type}{l:List α}{p:α->Bool}{k:Nat}{x:α}(hx:l[k]?=some x)(hp:p x=false):l.all p=false:=by
 cases h:l.all p
 ·rfl
 ·rw[CW.1 h x (Ax hx)]at hp;exact hp
abbrev Nk:Dr:=[(8,[0,1,2,3,4,5,6,7],[8])]
open Go.Proofs Go.RowKit
set_option maxRecDepth 20000
set_option maxHeartbeats 4000000
abbrev B5:=List (List UInt8×Rat)
def Gf (lot:List UInt8):B5->Option Rat
 | []=>none
 |p::l=>if lot=p.1 then some p.2 else Gf lot l
def HC (lot:List UInt8)(r:Rat):B5->B5
 | []=>[(lot,r)]
 |p::l=>if lot=p.1 then(lot,r)::l else p::HC lot r l
def Kl (lot:List UInt8)(r:Rat)(q:B5):B5:=HC lot (match Gf lot q with|some o=>r+o|none=>r) q
def G5 (x:AE)(n:Nat)(q:B5):B5:=(x.shs.take n).foldl (λacc s=>Kl s.lot (Cd s.part*(x.mass:Rat)) acc) q
def CU (l:List AE):B5:=l.foldl (λacc x=>G5 x x.shs.length acc) []
def MQ (B:Nat):B5->DU->Prop
 | [],[]=>True
 |p::q,e::m=>(e.1=sb p.1/\∃y:GF,e.2=y.D/\FR p.2 y B)/\MQ B q m
 |_,_=>False
theorem MQ.mono {B B':Nat}(hB:B<=B'):∀ {q:B5} {m:DU},MQ B q m->MQ B' q m
 | [],[],_=>trivial
 |_::_,_::_,⟨⟨h1,y,h2,h3⟩,h4⟩=>⟨⟨h1,y,h2,h3.is,h3.rk.mono hB⟩,MQ.mono hB h4⟩
theorem MQ.look {B:Nat}(lot:List UInt8):∀ {q:B5} {m:DU},MQ B q m->(It (sb lot) m=none/\Gf lot q=none)\/∃(r:Rat) (y:GF),It (sb lot) m=some y.D/\Gf lot q=some r/\FR r y B
 | [],[],_=>.inl ⟨rfl,rfl⟩
 |p::q,e::m,⟨⟨h1,y,h2,h3⟩,h4⟩=>by
  unfold It Gf;rw[h1,Ff]
  by_cases hl:lot=p.1
  ·rw[Aw hl,AI hl]
   exact .inr ⟨p.2,y,by rw[h2];rfl,rfl,h3⟩
  ·rw[Az hl,AH hl]
   exact MQ.look lot h4
theorem MQ.set {B:Nat}(lot:List UInt8){r:Rat}{y:GF}(hr:FR r y B):∀ {q:B5} {m:DU},MQ B q m->MQ B (HC lot r q) (GC (sb lot) y.D m)
 | [],[],_=>⟨⟨rfl,y,rfl,hr⟩,trivial⟩
 |p::q,e::m,⟨⟨h1,y',h2,h3⟩,h4⟩=>by
  unfold HC GC;rw[h1,Ff]
  by_cases hl:lot=p.1
  ·rw[Aw hl,AI hl]
   exact⟨⟨rfl,y,rfl,hr⟩,h4⟩
  ·rw[Az hl,AH hl]
   exact⟨⟨h1,y',h2,h3⟩,MQ.set lot hr h4⟩
theorem MQ.pure {B:Nat}:∀ {q:B5} {m:DU},MQ B q m->∀e∈m,CE e.2
 | [],[],_,e,he=>by cases he
 |p::q,e::m,⟨⟨_,y,h2,_⟩,h4⟩,x,hx=>by
  rcases A8.1 hx with rfl|hx
  ·rw[h2];exact AA.out
  ·exact MQ.pure h4 x hx
theorem MQ.mapD {B:Nat}{q:B5}{m:DU}(h:MQ B q m):CE (mapD m):=by
 refine CE.mp (λd hd=>?_) λd hd=>?_
 ·obtain⟨p,-,rfl⟩:=Bx.1 hd;exact AA.out
 ·obtain⟨p,hp,rfl⟩:=Bx.1 hd;exact h.pure p hp
def Au.ok (s:Au):Prop:=s.lot.length<=100000/\s.part.length<=40/\Cr s.part=0
def AE.ok (x:AE):Prop:=x.shs.length<=64/\Sm x.mass/\∀s∈x.shs,s.ok
def AE.okW (w:Nat)(x:AE):Prop:=x.shs.length<=64/\Sm x.mass/\∀s∈x.shs,s.lot.length<=100000/\s.part.length<=100000/\Cr s.part=0/\rk (Cd s.part) (w-2)
theorem O4 (x:AE)(n:Nat)(q:B5){s:Au}(h:x.shs[n]?=some s):G5 x (n+1) q=Kl s.lot (Cd s.part*(x.mass:Rat)) (G5 x n q):=by
 unfold G5;rw[Dp,h,List.foldl_append];rfl
theorem Qy (l:List AE)(n:Nat){x:AE}(h:l[n]?=some x):CU (l.take (n+1))=G5 x x.shs.length (CU (l.take n)):=by
 unfold CU;rw[Dp,h,List.foldl_append];rfl
theorem dg (w:Nat)(b:Bool)(l:List AE)(hl:l.length<=100)(hx:∀x∈l,x.okW w)(h2w:2<=w)(hw:w*(64*(l.length+1))<=100000):Af C0 56 [AV b l] (λd=>∃m,d=mapD m/\MQ (w*(64*l.length)) (CU l) m):=by
 refine Af.walk w1 gR rfl λF0=>?_
 have el:(((l.map AE.D).length:Nat):Int)=(l.length:Int):=by rw[Ab]
 refine sZ 0 ?_;refine AG kB ?_;refine AC.seq ?_;refine In (by kernel_rfl) ?_;change Bk _ _ _ _ _ [0,1] _ _;refine Bk.makeMap 100 rfl rfl rfl (W2 F0) (λF1 it hto hO hr0 hnX hM=>?_);change Bk _ _ _ _ _ ([1]++[]) _ _;refine GG w1 100 [1] [] ?_;refine AG kB ?_;refine Bk.nil ?_;refine AF Nk el AB AB AB AB AB AB ?_;refine HH (α:=Nat×DU×Obj×Nat) (λp=>⟨[(3,.prim (.map (some it))),(12,AV b l),(13,i64 (l.length:Int)),(14,i64 (p.1:Int))],[],p.2.2.2⟩) (λp=>l.length-p.1)
  (λp F=>p.1<=l.length/\DP C0 F0 F [⟨100,1,p.2.2.1⟩]/\F.r0 100 1=some it/\Id F p.2.2.1 p.2.1/\MQ (w*(64*p.1)) (CU (l.take p.1)) p.2.1) (0,[],.map #[] 0,_) ⟨BW _,hO,hr0,hM,trivial⟩ AK ?_
 clear hO hr0 hM hto;rintro⟨i,m,o,n1⟩ F ⟨hi,hO,hr0,hM,hQ⟩;dsimp only at hi hO hr0 hM hQ⊢;rcases BE i l.length with h2|h2
 rotate_left
 ·have e1:=Cg h2
  have:i=l.length:=by omega
  subst this;rw[Cw]at hQ;refine sZ 300 ?_;refine AG e1 ?_;refine AC.seq ?_;refine AO ?_;refine CG ?_;refine jN [(3,mapD m)] hO hr0 hnX hM ⟨.inr ⟨rfl,rfl⟩,trivial⟩ (λF2 hto2 hO2=>?_);refine AF Nk kB AB AB AB AB AB AB ?_;exact⟨mapD m,.refl _,hQ.mapD,m,rfl,hQ⟩
 have e1:=Ch h2;have wi:=Cc (i:=i) (by omega);obtain⟨x,hxi⟩:=CO h2;obtain⟨x1,x2,x3⟩:=hx x (Ax hxi);have hm:(l.map AE.D)[i]?=some (.agg [str (sb x.grain),i64 x.mass,.sl false 2 (x.shs.map Au.D)]):=by rw[Ay,hxi];rfl
 have es:(((x.shs.map Au.D).length:Nat):Int)=(x.shs.length:Int):=by rw[Ab]
 refine AF Nk (Ao e1 es kN) hm AB AB AB AB AB ?_;obtain⟨ga,hga⟩:∃g,n1+1+1+1=g:=⟨_,rfl⟩
 refine HH (α:=Nat×DU×Obj×Nat) (λp=>⟨[(3,.prim (.map (some it))),(5,.optr 402 (n1+1+1+1) 3 0 0),(12,AV b l),(13,i64 (l.length:Int)),(14,i64 (i:Int)),(19,.sl false 2 (x.shs.map Au.D)),(20,i64 (x.shs.length:Int)),(21,i64 (p.1:Int))],[⟨402,n1+1+1+1,53,3,[.agg [str (sb x.grain),i64 x.mass,.sl false 2 (x.shs.map Au.D)]]⟩],p.2.2.2⟩) (λp=>x.shs.length-p.1)
  (λp F=>p.1<=x.shs.length/\DP C0 F0 F [⟨100,1,p.2.2.1⟩]/\F.r0 100 1=some it/\Id F p.2.2.1 p.2.1/\MQ (w*(64*i+p.1)) (G5 x p.1 (CU (l.take i))) p.2.1) (0,m,o,_) ⟨BW _,hO,hr0,hM,hQ⟩ AK ?_
 clear hO hr0 hM hQ;rintro⟨j,m2,o2,n2⟩ F ⟨hj,hO,hr0,hM,hQ⟩;dsimp only at hj hO hr0 hM hQ⊢;rw[hga];rcases BE j x.shs.length with h3|h3
 rotate_left
 ·have e2:=Cg h3
  have:j=x.shs.length:=by omega
  subst this;rw[<-Qy l i hxi]at hQ;refine AF Nk (Aa e2 wi) AB AB AB AB AB AB ?_;exact⟨(i+1,m2,o2,_),⟨h2,hO,hr0,hM,hQ.mono (Cy _ (by dsimp only;omega))⟩,by dsimp only;omega,AK⟩
 have e2:=Ch h3;have wj:=Cc (i:=j) (by omega);obtain⟨s,hsj⟩:=CO h3;obtain⟨s1,s2,s3,s4⟩:=x3 s (Ax hsj);have hms:(x.shs.map Au.D)[j]?=some (.agg [str (sb s.lot),str (sb s.part)]):=by rw[Ay,hsj];rfl
 have hsn:=O4 x j (CU (l.take i)) hsj;have fP:FR (Cd s.part) (G4 s.part) (w-2):=⟨(SB s3).is,s4⟩
 obtain⟨PW,hPW⟩:∃P,w*(64*i+j)=P:=⟨_,rfl⟩
 have hPW1:w*(64*i+(j+1))=PW+w:=by rw[<-hPW,<-FD,Nat.mul_succ]
 have hPWb:PW+w<=100000:=by
  rw[<-hPW1];exact BY (Cy _ (by omega)) hw
 rw[hPW]at hQ;have fM:FR ((x.mass:Int):Rat) ⟨Ac x.mass,1⟩ 1:=Rs (by unfold Sm at x2;omega);have c1:=SR s2 s3;have c2:=QG x.mass x2;have c3:=Vc fP fM (by omega);have fZ:FR (Cd s.part*(x.mass:Rat)) (JI (G4 s.part) ⟨Ac x.mass,1⟩) (w-2+1):=VE fP fM;obtain⟨z,hz⟩:∃z,JI (G4 s.part) ⟨Ac x.mass,1⟩=z:=⟨_,rfl⟩
 rw[hz]at c3 fZ;obtain⟨d1,hd1⟩:∃d,(G4 s.part).D=d:=⟨_,rfl⟩
 obtain⟨d2,hd2⟩:∃d,(⟨Ac x.mass,1⟩:GF).D=d:=⟨_,rfl⟩
 have pd1:AA d1:=by rw[<-hd1];exact AJ
 have pd2:AA d2:=by rw[<-hd2];exact AJ
 rw[hd1]at c1 c3;rw[hd2]at c2 c3;refine sZ 600 ?_;refine AG e2 ?_;refine AC.seq ?_;refine AO ?_;refine An ?_;refine AC.seq ?_;refine AC.block ?_;refine sZ 700 ?_;refine By kT hms ?_;refine AG kB ?_;refine AC.seq ?_;refine CN 800 [0,1,2,3,4,5,6,7] [8] ?_;refine AG kB ?_;refine Bf.same _ (c1) AJ ?_;refine BU ?_;refine AG kB ?_;refine Bf.same _ (c2) AJ ?_;refine BU ?_;refine AG kB ?_;refine Bf.same _ (c3) AJ ?_;refine BU ?_;refine AG kB ?_;refine AC.seq ?_;refine AC.seq ?_;refine In (by kernel_rfl) ?_;change Bk _ _ _ _ _ ([0,1,2]++(3::([4,5,6,7,8,9]++[]))) _ _;refine GG w1 900 [0,1,2] _ ?_;refine AG kB ?_;refine Bk.look (xo:=⟨100,1,o2⟩) (l:=m2) w1 rfl rfl rfl rfl rfl rfl hO CF hr0 hM ?_;rcases hQ.look s.lot with⟨q1,q2⟩|⟨r,y,q1,q2,q3⟩
 ·rw[YE q1]
  refine GG w1 900 [4,5,6,7,8,9] [] ?_;refine AG kB ?_;refine Bk.nil ?_;refine BO ?_;refine sZ 1000 ?_;refine AG kB ?_;refine AO ?_;refine An ?_;refine In (by kernel_rfl) ?_;change Bk _ _ _ _ _ ([0,1,2,3]++(4::[])) _ _;refine GG w1 1200 [0,1,2,3] _ ?_;refine AG kB ?_;refine Bk.put (l:=m2) w1 rfl rfl rfl rfl rfl rfl hO hr0 hM (λF3 o3 hto3 hO3 hr3 hM3=>Bk.nil ?_);refine BO ?_;have hQ2:MQ (w*(64*i+(j+1))) (G5 x (j+1) (CU (l.take i))) (GC (sb s.lot) z.D m2):=by
   rw[hsn,hPW1];unfold Kl;rw[q2];exact MQ.set s.lot ⟨fZ.is,fZ.rk.mono (by omega)⟩ (hQ.mono (by omega))
  refine AF Nk wj AB AB AB AB AB AB ?_;exact⟨(j+1,GC (sb s.lot) z.D m2,o3,_),⟨h3,hO3,hr3,hM3,hQ2⟩,by dsimp only;omega,AK⟩
 ·rw[YF q1]
  refine GG w1 900 [4,5,6,7,8,9] [] ?_;refine AG kB ?_;refine Bk.nil ?_;have c4:=SM fZ q3 (by omega);have fA:=Ru fZ q3;obtain⟨z2,hz2⟩:∃z2,Kg z y=z2:=⟨_,rfl⟩
  rw[hz2]at c4 fA;refine BO ?_;refine sZ 1000 ?_;refine AG kB ?_;refine AO ?_;refine As 1100 ?_;refine AG kB ?_;refine cI c4 ?_;refine AG kB ?_;refine In (by kernel_rfl) ?_;change Bk _ _ _ _ _ ([0,1,2,3]++(4::[])) _ _;refine GG w1 1200 [0,1,2,3] _ ?_;refine AG kB ?_;refine Bk.put (l:=m2) w1 rfl rfl rfl rfl rfl rfl hO hr0 hM (λF3 o3 hto3 hO3 hr3 hM3=>Bk.nil ?_);refine BO ?_;have hQ2:MQ (w*(64*i+(j+1))) (G5 x (j+1) (CU (l.take i))) (GC (sb s.lot) z2.D m2):=by
   rw[hsn,hPW1];unfold Kl;rw[q2];exact MQ.set s.lot ⟨fA.is,fA.rk.mono (by omega)⟩ (hQ.mono (by omega))
  refine AF Nk wj AB AB AB AB AB AB ?_;exact⟨(j+1,GC (sb s.lot) z2.D m2,o3,_),⟨h3,hO3,hr3,hM3,hQ2⟩,by dsimp only;omega,AK⟩
theorem AE.ok.w5 {x:AE}(h:x.ok):x.okW 5:=⟨h.1,h.2.1,λs hs=>by
 obtain⟨a,b,c⟩:=h.2.2 s hs;exact⟨a,by omega,c,jX c b⟩⟩
theorem zy (b:Bool)(l:List AE)(hl:l.length<=100)(hx:∀x∈l,x.ok):Af C0 56 [AV b l] (λd=>∃m,d=mapD m/\MQ 32000 (CU l) m):=
 (dg 5 b l hl (λx h=>(hx x h).w5) (by omega) (by omega)).mono λd ⟨m,h1,h2⟩=>⟨m,h1,h2.mono (by omega)⟩
def WZ (r:Rat):List UInt8:=if EG r=true then[]else BT r
def WY (r:Rat):Nat:=if EG r=true then 4 else 0
set_option maxHeartbeats 8000000
theorem V4 {l:List UInt8}(h:Cr l=0):rR (Cd l)=str (sb l):=by unfold rR;rw[(O7 h).2.2.1]
set_option maxHeartbeats 4000000
theorem YZ (n:Nat):DR (Lib.decDigits n)=true:=by
 obtain⟨h1,h2,h3⟩:=E7 n;rcases D7 n with h|h
 ·have e:Lib.decDigits n=[48]:=by
   have:=Zy 0
   rw[h];exact DN (this.trans (Aw rfl))
  rw[e];rfl
 ·obtain⟨c,l,e,hc⟩:=nz (Nat.pos_iff_ne_zero.1 h)
  rw[e]at h1⊢;unfold DR Ll;rw[h1];simp[hc]
theorem Vm {n:Nat}{l:List UInt8}(h:n≠dv l):decide (Lib.decDigits n=l)=false:=Az λe=>h (by rw[<-e,(E7 n).2.1])
theorem qF {r:Rat}(h:EG r=false):Cr (BT r)=0:=by
 have hs:CA (BT r)=Lib.decDigits r.num.natAbs:=by unfold CA;rw[Pe,(NS _).2]
 have hd:=Ng r;have hh:=Rv r;unfold EG at h;simp only[Jw,JN]at h;have hb:KJ (BT r)=false:=by
  rw[Q6,hs,VX,hh,YZ];have e1:(decide (r.num<0)&&decide (Lib.decDigits r.num.natAbs=[48]))=false:=by
   by_cases g:r.num<0
   ·rw[Vm (show r.num.natAbs≠dv [48] by show r.num.natAbs≠0;omega),Bool.and_false]
   ·rw[Az g,Hk]
  rw[e1]
  by_cases g:r.den=1
  ·rw[Aw g];rfl
  ·rw[hd,AH g,YZ,Vm (show r.den≠dv [48]from r.den_nz),Vm (show r.den≠dv [49]from g),Az g];rfl
 unfold Cr;rw[hb,AH (by decide),hs]
 by_cases g:r.den=1
 ·rw[hd,AI g,hh,Aw g,AH (by simp;omega),AH (λk=>Ak k.1 (by decide))]
 ·rw[hd,AH g,(E7 _).2.1,(E7 _).2.1,CP,AH (λk=>k.2 r.reduced)]
theorem nN (r:Rat):Cd (BT r)=r:=by
 unfold Cd Hd;rw[Pe,aw,Rv,Ng]
 by_cases g:r.den=1
 ·rw[Aw g]
  show mkRat r.num 1=r;rw[<-g];exact Rat.mkRat_self r
 ·rw[Az g,AH g,(E7 _).2.1]
  exact Rat.mkRat_self r
theorem rH:rR 0=str ⟨#[48]⟩:=by
 have h:Cd [48]=0:=by kernel_rfl
 rw[<-h,V4 (by kernel_rfl)];all_goals rfl
theorem l8 (r:Rat):BJ (sb (BT r)) ⟨#[49]⟩=decide (r=1):=by
 have h1:Cd [49]=1:=by kernel_rfl
 have e:(⟨#[49]⟩:ByteArray)=sb [49]:=rfl;rw[e,Ff,DO];constructor
 ·intro h
  rw[<-nN r,h,h1]
 ·intro h
  rw[h]
  have:=(O7 (l:=[49]) (by kernel_rfl)).2.2.1
  rwa [h1]at this
end Go.Ide
namespace Go.Proofs
open Go.Shelf Go.RowKit Go.Lib Go.Sort
open Tryz
theorem Ci {o:Option Func}{a b:Func}(h:o=some a)(k:a=b:=by kernel_rfl):o=some b:=h.trans (congrArg some k)
def Tryz.sortAmounts_ren:Go.Shelf.Ren:=⟨fun|6=>88|15=>119|14=>118|28=>159|29=>160|20=>151|21=>152|22=>153|23=>154|24=>155|25=>156|26=>157|27=>158|46=>203|47=>204|48=>205|49=>206|50=>207|57=>249|n=>n,fun|22=>48|24=>70|25=>138|3=>3|39=>164|0=>0|53=>209|55=>187|4=>4|46=>202|45=>201|50=>206|5=>5|9=>9|66=>244|70=>248|76=>277|77=>278|n=>n,fun|n=>n⟩
theorem e1s:Go.Proofs.SlLaysF0.n6 Tryz.prog Tryz.sortAmounts_ren:={
 mixed:=by kernel_rfl
 f6:=⟨Tryz.f88.name,by decide,Ci func88⟩
 f14:=⟨Tryz.f118.name,by decide,Ci func118⟩
 f15:=Ci func119
 f20:=⟨Tryz.f151.name,by decide,Ci func151⟩
 f21:=⟨Tryz.f152.name,by decide,Ci func152⟩
 f22:=⟨Tryz.f153.name,by decide,Ci func153⟩
 f23:=⟨Tryz.f154.name,by decide,Ci func154⟩
 f24:=⟨Tryz.f155.name,by decide,Ci func155⟩
 f25:=⟨Tryz.f156.name,by decide,Ci func156⟩
 f26:=⟨Tryz.f157.name,by decide,Ci func157⟩
 f27:=⟨Tryz.f158.name,by decide,Ci func158⟩
 f28:=Ci func159
 f29:=Ci func160
 f46:=⟨Tryz.f203.name,by decide,Ci func203⟩
 f47:=Ci func204
 f48:=Ci func205
 f49:=⟨Tryz.f206.name,by decide,Ci func206⟩
 f50:=⟨Tryz.f207.name,by decide,Ci func207⟩
 f57:=⟨Tryz.f249.name,by decide,Ci func249⟩
 t0:=underlying0
 a0:=isAgg0
 z0:=sizeOf0
 v0:=zeroValue0
 t3:=underlying3
 a3:=isAgg3
 z3:=sizeOf3
 v3:=zeroValue3
 t4:=underlying4
 a4:=isAgg4
 z4:=sizeOf4
 v4:=zeroValue4
 t5:=underlying5
 a5:=isAgg5
 z5:=sizeOf5
 v5:=zeroValue5
 t9:=underlying9
 a9:=isAgg9
 z9:=sizeOf9
 v9:=zeroValue9
 t22:=underlying48
 a22:=isAgg48
 z22:=sizeOf48
 v22:=zeroValue48
 t25:=underlying138
 a25:=isAgg138
 z25:=sizeOf138
 v25:=zeroValue138
 t39:=underlying164
 a39:=isAgg164
 z39:=sizeOf164
 v39:=zeroValue164
 t45:=underlying201
 a45:=isAgg201
 z45:=sizeOf201
 v45:=zeroValue201
 t46:=underlying202
 a46:=isAgg202
 z46:=sizeOf202
 v46:=zeroValue202
 t50:=underlying206
 a50:=isAgg206
 z50:=sizeOf206
 v50:=zeroValue206
 t53:=underlying209
 a53:=isAgg209
 z53:=sizeOf209
 v53:=zeroValue209
 t55:=underlying187
 a55:=isAgg187
 z55:=sizeOf187
 v55:=zeroValue187
 t66:=underlying244
 a66:=isAgg244
 z66:=sizeOf244
 v66:=zeroValue244
 t70:=underlying248
 a70:=isAgg248
 z70:=sizeOf248
 v70:=zeroValue248
 t76:=underlying277
 a76:=isAgg277
 z76:=sizeOf277
 v76:=zeroValue277
 t77:=underlying278
 a77:=isAgg278
 z77:=sizeOf278
 v77:=zeroValue278 }
end Go.Proofs
namespace Go.Ide
open Go.Proofs Go.RowKit Go.Sort
set_option maxRecDepth 20000
def C8 (p:List UInt8×Rat):D:=.agg [str (sb p.1),str (sb (BT p.2))]
instance d8O (p:List UInt8×Rat):AS (C8 p):=by unfold C8;exact AJ
instance d8P (p:List UInt8×Rat):AA (C8 p):=by unfold C8;exact AJ
def Lm (p:List UInt8×Rat):List Value:=[.string (sb p.1),.string (sb (BT p.2))]
def Ik (x y:List UInt8):Int:=if x<y then -1 else if y<x then 1 else 0
theorem RF (x y:List UInt8×Rat):ltOf (λx y:List UInt8×Rat=>Ik x.1 y.1) x y=ltStr x.1 y.1:=by
 unfold ltOf Ik ltStr
 by_cases h:x.1<y.1
 ·simp[h]
 ·by_cases h2:y.1<x.1<;>simp[h,h2]
theorem e0l:SWO (ltOf (λx y:List UInt8×Rat=>Ik x.1 y.1)) where
 irrefl x:=by rw[RF];exact swo_ltStr.irrefl _
 trans x y z h1 h2:=by rw[RF]at*;exact swo_ltStr.trans _ _ _ h1 h2
 ntrans x y z h1 h2:=by rw[RF]at*;exact swo_ltStr.ntrans _ _ _ h1 h2
set_option maxHeartbeats 1000000 in
theorem m6 (x:ByteArray)(W:World):Calls Tryz.prog 120 #[.string x] W λe w'=>e=.returned (.bool false)/\w'=W:=by
 go_enter Tryz.func120,Tryz.ntmps120
 go_wp2
 go_ret
 exact⟨by simp,rfl⟩
set_option maxHeartbeats 1000000 in
theorem lF (x y:List UInt8)(W:World):Calls Tryz.prog 90 #[.string (sb x),.string (sb y)] W λe w'=>e=.returned (.int .i64 (Ik x y))/\w'=W:=by
 go_enter Tryz.func90,Tryz.ntmps90
 go_wp2_with (go_at_call 120;refine(m6 _ _).mono ?_;rintro e w' ⟨rfl,hw⟩;rw[hw])
 all_goals go_ret
 all_goals(refine⟨?_,rfl⟩)
 ·have h:Op.bytesLess x y=true:=by assumption
  rw[bytesLess_eq,HJ]at h;unfold Ik;rw[AI h];rfl
 ·have h:Op.bytesLess x y=false:=by assumption
  have h2:(!x==y)=true:=by assumption
  rw[bytesLess_eq,JN]at h;have h3:y<x:=DH λq=>by
   have:=List.le_antisymm (List.not_lt.1 q) (List.not_lt.1 h)
   simp[this]at h2
  unfold Ik;rw[AH h,AI h3];rfl
 ·have h:Op.bytesLess x y=false:=by assumption
  have h2:(!x==y)=false:=by assumption
  rw[bytesLess_eq,JN]at h;have h3:¬y<x:=λq=>by
   have:x=y:=by simpa using h2
   rw[this]at q;exact List.lt_irrefl _ q
  unfold Ik;rw[AH h,AH h3];rfl
set_option maxHeartbeats 1000000 in
theorem lE (x y:List UInt8×Rat)(W:World):Calls Tryz.prog 89 #[.agg (Lm x).toArray,.agg (Lm y).toArray] W λe w'=>e=.returned (.int .i64 (Ik x.1 y.1))/\∃q os',w'=grow (W.drewN q) os':=by
 have hcon:=lF x.1 y.1;unfold Lm;generalize Ik x.1 y.1=r at hcon⊢;generalize sb x.1=a at hcon⊢;generalize sb y.1=b at hcon⊢;generalize sb (BT x.2)=c;generalize sb (BT y.2)=d
 go_enter Tryz.func89,Tryz.ntmps89
 go_wp2_with (go_at_call 90;refine(hcon _).mono ?_;rintro e w' ⟨rfl,rfl⟩)
 go_ret
 exact⟨rfl,0,_,by rw[alloc_eq_grow,alloc_eq_grow,grow_grow];rfl⟩
theorem szA:(Tryz.prog.info? 70).map (λi=>i.size)=some 2:=by kernel_rfl
theorem ja:I9 Tryz.prog 70=true:=by kernel_rfl
theorem unA:(Tryz.prog.underlying 70).isSome=true:=by kernel_rfl
theorem d8z (w:World):(Go.sizeOf 70).run Tryz.prog w=.ok 2 w:=by
 obtain⟨i,h1,h2⟩:=E4.1 szA;rw[HS h1,h2]
theorem d9p (w:World):(isAgg 70).run Tryz.prog w=.ok true w:=by
 obtain⟨u,h1⟩:=Option.isSome_iff_exists.1 unA;rw[RM h1,ja]
theorem xb:bJ Tryz.prog 88 89 Lm 2 (ltOf λx y:List UInt8×Rat=>Ik x.1 y.1):=λblk cap d w hH hb hd=>
 AnyQ.slices_SortFunc e1s 2 d9p d8z Lm (λ_=>rfl) (λx v hv=>by simp[Lm]at hv;rcases hv with rfl|rfl<;>rfl)
  (λx y=>Ik x.1 y.1) e0l 89 #[] blk 0 cap d w (enters_of Tryz.func89 (by kernel_rfl) rfl) (λ_ _ _ _ x y=>lE x y _) hH hb hd
theorem jo (l:List (List UInt8×Rat))(hl0:l≠[])(hl:l.length<4611686018427387904)(kb gg:Nat)(H:Hp)(n:Nat):
  CX C0 88 [.osl kb gg 2 0 l.length,.clo (.func 89) [] []] (⟨kb,gg,70,2,l.map C8⟩::H) n
   (λd H' n'=>d=.tup []/\n'=n+1/\∃l':List (List UInt8×Rat),l'.Perm l/\l'.Pairwise (λa b=>ltStr b.1 a.1=false)/\H'=⟨kb,gg,70,2,l'.map C8⟩::H):=
 (nB (C:=C0) (f:=88) (g:=89) (enc:=Lm) (k:=2) (toD:=C8) (lt:=ltOf λx y:List UInt8×Rat=>Ik x.1 y.1) (by obtain⟨fn,a1,a2,a3,-⟩:=iC;exact⟨fn,_,a1,a2,a3⟩) (by decide) (λ_=>rfl) (λx v hv=>by simp[Lm]at hv;rcases hv with rfl|rfl<;>rfl) (λx=>rfl) xb l hl0 hl kb gg _ H n).mono λd H' n' ⟨h1,h2,l',h3,h4,h5⟩=>
  ⟨h1,h2,l',h3,h4.imp λh=>by rw[RF]at h;exact h,h5⟩
theorem nC:AL C0 88 [CK,.clo (.func 89) [] []] (.tup []):=Ca Dx 400 40
end Go.Ide
namespace Go.Proofs
open Go.Shelf Go.RowKit Go.Lib Go.Sort
open Tryz
def Tryz.sortedZ_ren:Go.Shelf.Ren:=⟨fun|6=>96|8=>129|9=>130|11=>176|13=>119|12=>177|23=>159|24=>160|14=>216|15=>217|16=>218|17=>219|18=>220|19=>221|20=>222|21=>223|22=>224|25=>260|26=>204|27=>205|28=>261|29=>262|30=>120|31=>278|n=>n,fun|26=>9|28=>147|24=>144|0=>0|3=>3|37=>164|48=>209|50=>187|4=>4|40=>202|39=>201|45=>206|5=>5|9=>9|51=>244|55=>248|57=>277|58=>278|33=>101|n=>n,fun|n=>n⟩
theorem e1u:Go.Proofs.SlLaysZ.n6 Tryz.prog Tryz.sortedZ_ren:={
 mixed:=by kernel_rfl
 f6:=⟨Tryz.f96.name,by decide,Ci func96⟩
 f8:=⟨Tryz.f129.name,by decide,Ci func129⟩
 f11:=⟨Tryz.f176.name,by decide,Ci func176⟩
 t0:=underlying0
 a0:=isAgg0
 z0:=sizeOf0
 v0:=zeroValue0
 t24:=underlying144
 a24:=isAgg144
 z24:=sizeOf144
 v24:=zeroValue144
 t26:=underlying9
 a26:=isAgg9
 z26:=sizeOf9
 v26:=zeroValue9
 t28:=underlying147
 a28:=isAgg147
 z28:=sizeOf147
 v28:=zeroValue147
 i26:=by kernel_rfl }
open Tryz
def Tryz.keysZ_ren:Go.Shelf.Ren:=⟨fun|10=>131|n=>n,fun|33=>101|23=>99|0=>0|4=>4|26=>9|3=>134|n=>n,fun|n=>n⟩
theorem e1r:Go.Proofs.SlLaysZ.n10 Tryz.prog Tryz.keysZ_ren:={
 mixed:=by kernel_rfl
 f10:=⟨Tryz.f131.name,by decide,Ci func131⟩
 t0:=underlying0
 a0:=isAgg0
 z0:=sizeOf0
 v0:=zeroValue0
 t4:=underlying4
 a4:=isAgg4
 z4:=sizeOf4
 v4:=zeroValue4
 t23:=underlying99
 a23:=isAgg99
 z23:=sizeOf99
 v23:=zeroValue99
 t26:=underlying9
 a26:=isAgg9
 z26:=sizeOf9
 v26:=zeroValue9
 t33:=underlying101
 a33:=isAgg101
 z33:=sizeOf101
 v33:=zeroValue101 }
open Tryz
def Tryz.sortM_ren:Go.Shelf.Ren:=⟨fun|6=>130|8=>119|9=>177|19=>159|20=>160|21=>216|22=>217|23=>218|24=>219|25=>220|26=>221|27=>222|28=>223|29=>224|36=>260|31=>204|32=>205|37=>261|38=>262|39=>120|41=>278|n=>n,fun|27=>144|29=>9|3=>3|32=>164|26=>144|0=>0|44=>209|46=>187|4=>4|36=>202|35=>201|41=>206|5=>5|9=>9|53=>244|57=>248|63=>277|64=>278|n=>n,fun|n=>n⟩
theorem jQ:Go.Proofs.SlLaysM.n6 Tryz.prog Tryz.sortM_ren:={
 mixed:=by kernel_rfl
 f6:=⟨Tryz.f130.name,by decide,Ci func130⟩
 f8:=Ci func119
 f9:=⟨Tryz.f177.name,by decide,Ci func177⟩
 f19:=Ci func159
 f20:=Ci func160
 f21:=⟨Tryz.f216.name,by decide,Ci func216⟩
 f22:=⟨Tryz.f217.name,by decide,Ci func217⟩
 f23:=⟨Tryz.f218.name,by decide,Ci func218⟩
 f24:=⟨Tryz.f219.name,by decide,Ci func219⟩
 f25:=⟨Tryz.f220.name,by decide,Ci func220⟩
 f26:=⟨Tryz.f221.name,by decide,Ci func221⟩
 f27:=⟨Tryz.f222.name,by decide,Ci func222⟩
 f28:=⟨Tryz.f223.name,by decide,Ci func223⟩
 f29:=⟨Tryz.f224.name,by decide,Ci func224⟩
 f31:=Ci func204
 f32:=Ci func205
 f36:=⟨Tryz.f260.name,by decide,Ci func260⟩
 f37:=⟨Tryz.f261.name,by decide,Ci func261⟩
 f38:=⟨Tryz.f262.name,by decide,Ci func262⟩
 f39:=⟨Tryz.f120.name,by decide,Ci func120⟩
 f41:=⟨Tryz.f278.name,by decide,Ci func278⟩
 t0:=underlying0
 a0:=isAgg0
 z0:=sizeOf0
 v0:=zeroValue0
 t3:=underlying3
 a3:=isAgg3
 z3:=sizeOf3
 v3:=zeroValue3
 t4:=underlying4
 a4:=isAgg4
 z4:=sizeOf4
 v4:=zeroValue4
 t5:=underlying5
 a5:=isAgg5
 z5:=sizeOf5
 v5:=zeroValue5
 t9:=underlying9
 a9:=isAgg9
 z9:=sizeOf9
 v9:=zeroValue9
 t26:=underlying144
 a26:=isAgg144
 z26:=sizeOf144
 v26:=zeroValue144
 t27:=underlying144
 a27:=isAgg144
 z27:=sizeOf144
 v27:=zeroValue144
 t29:=underlying9
 a29:=isAgg9
 z29:=sizeOf9
 v29:=zeroValue9
 t32:=underlying164
 a32:=isAgg164
 z32:=sizeOf164
 v32:=zeroValue164
 t35:=underlying201
 a35:=isAgg201
 z35:=sizeOf201
 v35:=zeroValue201
 t36:=underlying202
 a36:=isAgg202
 z36:=sizeOf202
 v36:=zeroValue202
 t41:=underlying206
 a41:=isAgg206
 z41:=sizeOf206
 v41:=zeroValue206
 t44:=underlying209
 a44:=isAgg209
 z44:=sizeOf209
 v44:=zeroValue209
 t46:=underlying187
 a46:=isAgg187
 z46:=sizeOf187
 v46:=zeroValue187
 t53:=underlying244
 a53:=isAgg244
 z53:=sizeOf244
 v53:=zeroValue244
 t57:=underlying248
 a57:=isAgg248
 z57:=sizeOf248
 v57:=zeroValue248
 t63:=underlying277
 a63:=isAgg277
 z63:=sizeOf277
 v63:=zeroValue277
 t64:=underlying278
 a64:=isAgg278
 z64:=sizeOf278
 v64:=zeroValue278 }
theorem e1w (m:Nat):AnyZ.SortsIn Tryz.prog Tryz.sortedZ_ren Fence.wide m:=
 ⟨λblk off cap ss W hH hblk hsz=>callsIn_wide.2 (AnyM.slices_Sort_string jQ blk off cap ss W hH hblk hsz),
  λp cap W=>callsIn_wide.2 (AnyM.slices_Sort_string_none jQ p cap W)⟩
theorem e1v {H:Type}(Bm b nn:Nat)(D0:DataW H){R:Value->Option (DataW H×List MemPlace)}(w:World)(hBm:Bm<w.heap.size)
  (hm:w.cell? ⟨Bm,0,none⟩=some (.map (some b))) (hown:w.ownsMap Tryz.prog 9 R b nn D0) (hN:Maps.size D0<=10000):
  Calls Tryz.prog 96 #[.func (.func 131) #[] #[.pointer (some ⟨Bm,0,none⟩)]] w λe w'=>∃(v:Value) (ss:List (List UInt8)),e=.returned v/\ss.Perm (strKeys D0) /\
   w'.ownsRow w.heap.size 9 1 v ss.length ((ss.mergeSort (λx y=>decide (x<=y))).map encStr)/\Below w.heap.size w w':=
 (callsIn_wide.1 (AnyZ.sorted_in e1u Fence.wide 6 trivial trivial trivial trivial rfl (by omega) (e1w _) (enters_of Tryz.func130 (by kernel_rfl) rfl) 131 _ trivial (enters_of Tryz.func131 (by kernel_rfl) rfl) _ _ (Nat.le_trans hN (by decide)) (by omega) w
  (AnyZ.keys_gives e1r Fence.wide _ trivial rfl (by omega) Bm b nn D0 w hBm hm hown))).mono λe w' ⟨v,ss,h1,h2,h3,_,h5⟩=>⟨v,ss,h1,h2,h3,h5⟩
end Go.Proofs
namespace Go.Ide
open Go.Proofs Go.RowKit Go.Sort
set_option maxRecDepth 20000
def P3 (ks:List (List UInt8)):List (List UInt8):=ks.mergeSort λx y=>decide (x<=y)
theorem aa (k:List UInt8)(hb:k.length<=maxLen):keyOf Tryz.prog 9 (encStr k)=some (.string k):=by
 simp[keyOf,mapKey,hb,ByteArray.size,encStr]
theorem jp {H:Type}{R:Value->Option (DataW H×List MemPlace)}{z:DataW H}(hR:∀v,R v=some (z,[]))(es:List MapEntry)(ks:List (List UInt8))(hk:es.map (·.key)=ks.map encStr)(hb:∀k∈ks,k.length<=maxLen):
  (strKeys (DataW.map ((es.map (WideElems.rg Tryz.prog 9 R)).foldr DataW.insert []))).Perm ks:=by
 show(((es.map (WideElems.rg Tryz.prog 9 R)).foldr DataW.insert []).map λp=>strOf p.1).Perm ks;refine((WideShapes.sorted_perm _).map _).trans ?_;rw[List.map_map]
 have:es.map ((λp:Lit×DataW H=>strOf p.1) ∘ WideElems.rg Tryz.prog 9 R)=ks:=by
  induction es generalizing ks with
  |nil=>
   cases ks with
   |nil=>rfl
   |cons a l=>simp at hk
  |cons e es ih=>
   cases ks with
   |nil=>simp at hk
   |cons k ks=>
    simp only[Cx,Eu]at hk;rw[Cx,ih ks hk.2 λk h=>hb k (CL _ h)]
    congr 1
    have h1:=aa k (hb k CF);rw[<-hk.1]at h1;show strOf ((WideElems.rd Tryz.prog 9 R e).getD _).1=k;unfold WideElems.rd;rw[h1,hR];rfl
 rw[this]
theorem Gb (l:DU)(ks:List (List UInt8))(hks:l.map (·.1)=ks.map sb)(hl:l.length<=10000)(hb:∀k∈ks,k.length<=1000)(hnd:ks.Nodup)(kb g T:Nat)(H:Hp)(n:Nat):
  CX C0 96 [.clo (.func 131) [] [.optr kb g 1 0 0]] (⟨kb,g,T,1,[mapD l]⟩::H) n
   (λd H' n'=>d=.sl false 1 ((P3 ks).map λx=>str (sb x))/\H'=⟨kb,g,T,1,[mapD l]⟩::H/\n'=n+1):=by
 refine⟨by obtain⟨fn,a1,a2,a3,-⟩:=iI;exact⟨fn,_,a1,a2,a3⟩,λF ρ w vs m fr gn hsz rep=>?_⟩;obtain⟨v0,rfl⟩:∃v0,vs = #[v0]:=by
  match vs,hsz with
  |⟨[a]⟩,_=>exact⟨a,rfl⟩
 have r0:AW ρ _ w (.clo _ [] [.optr kb g 1 0 0]) v0:=rep 0 _ rfl;cases r0 with
 |clo hf1 hc1 _ h2=>
  rename_i fs cs1 _;simp at hf1 hc1;subst hf1;obtain⟨c,rfl⟩:∃c,cs1 = #[c]:=by
   match cs1,hc1 with
   |⟨[a]⟩,_=>exact⟨a,rfl⟩
  have r1:AW ρ _ w (.optr kb g 1 0 0) c:=h2 0 _ rfl;cases r1 with
  |optr hr=>
   rename_i b;have hent:∃cs,w.heap[b]?=some (.cells cs T (0,0))/\DX ρ (AN F.X ρ (⟨kb,g,T,1,[mapD l]⟩::H)) w ⟨kb,g,T,1,[mapD l]⟩ cs:=by
    rcases m.hok.ent _ CF with⟨h,h2⟩|⟨b2,cs2,a1,a2,a3⟩
    ·exact Ak (hr.symm.trans h2) (by simp)
    ·cases hr.symm.trans a1;exact⟨cs2,a2,a3⟩
   obtain⟨cs,hcb,hok⟩:=hent;have hlt:b<w.heap.size:=m.lt CF hr;have hr0:=hok.rep 0 (mapD l) 0 (mapD l) rfl rfl;have h9:1<=cs.size:=by simpa using hok.len
   have hcs:0<cs.size:=h9;rw[Av,B3 (by simpa using hcs)]at hr0;simp only[Hq,Dv,JT]at hr0;obtain⟨v,hv⟩:∃v,cs[0]=v:=⟨_,rfl⟩
   rw[hv]at hr0;unfold mapD at hr0;cases hr0 with
   |mp hO hrl hb3 h1 h2 hBo hk hvv=>
    rename_i r clock es;rw[Ab]at h1;have hkey:es.toList.map (·.key)=ks.map encStr:=by
     apply Qf;intro i;rw[Ay,Ay];have hli:=congrArg (λq=>q[i]?) hks;simp only[Ay]at hli;rcases BE i l.length with hi|hi
     ·have hd:=hk i (.prim (.string l[i].1)) (by rw[Ay,Bs hi];rfl)
      rw[Bs hi]at hli;obtain⟨kk,hkk,hkk2⟩:=E4.1 hli.symm;have hi2:i<es.size:=by omega
      rw[Av,B3 hi2]at hd;rw[hkk,Jv,B3 hi2];simp only[J3,BP,JT]at hd⊢;generalize es[i].key=kv at hd;cases hd;have h8:sb kk=l[i].1:=hkk2;rw[<-h8]
     ·have h5:ks.length=l.length:=by have:=congrArg List.length hks;simpa using this.symm
      rw[D6 (by simp;omega),D6 (by omega)];rfl
    have hkn:(es.toList.map (·.key)).Nodup:=by
     rw[hkey];exact List.pairwise_map.2 (hnd.imp λh q=>h (encStr_inj q))
    have hbm:∀k∈ks,k.length<=maxLen:=λk h=>BY (hb k h) (by decide)
    let R:Value->Option (DataW Unit×List MemPlace):=λ_=>some (.nil,[])
    have hown:w.ownsMap Tryz.prog 9 R r es.size (.map ((es.toList.map (WideElems.rg Tryz.prog 9 R)).foldr DataW.insert [])):=by
     refine⟨es,clock,hb3,⟨BY (by omega:es.size<=10000) (by decide),⟨λx hx=>?_,hBo.nodup,hkn⟩,λx hx=>?_⟩,Ar _,rfl⟩
     ·obtain⟨j,hj⟩:=L3.1 hx
      exact hBo.1 j x (by simpa using hj)
     ·have:x.key∈es.toList.map (·.key):=List.mem_map_of_mem hx
      rw[hkey]at this;obtain⟨k,hk1,hk2⟩:=Bx.1 this;have h1:=aa k (hbm k hk1);rw[hk2]at h1;exact⟨_,by unfold WideElems.rd;rw[h1];rfl⟩
    have hsk:=jp (H:=Unit) (R:=R) (z:=.nil) (λ_=>rfl) es.toList ks hkey hbm;have hcell:w.cell? ⟨b,0,none⟩=some (.map (some r)):=by
     unfold World.cell?;simp only[hcb];rw[B3 hcs,hv];rfl
    have hsize:Maps.size (DataW.map ((es.toList.map (WideElems.rg Tryz.prog 9 R)).foldr DataW.insert []))<=10000:=by
     rw[Maps.size_eq,(WideShapes.sorted_perm _).length_eq,Ab,Ip];omega
    refine(e1v b r es.size _ w hlt hcell hown hsize).mono ?_;rintro e w' ⟨v,ss,rfl,hp,hrow,hbw⟩;have hss:ss.mergeSort (λx y=>decide (x<=y))=P3 ks:=mergeSort_of_perm (hp.trans hsk);rw[hss]at hrow;have x:BX ρ (AN F.X ρ (⟨kb,g,T,1,[mapD l]⟩::H)) w ρ (AN F.X ρ (⟨kb,g,T,1,[mapD l]⟩::H)) w':=⟨hbw.size,λ_ _ _ h=>h,λb hb' hO=>⟨hO,hbw.block b hb'⟩,λb cs T fz hh=>⟨cs,_,by
     rw[hbw.block b (DB.1 hh).1];exact hh,rfl⟩⟩
    refine⟨v,_,_,n+1,ρ,rfl,⟨rfl,rfl,rfl⟩,m.same x hbw.os hbw.tape hbw.output hbw.block,x,λa b h=>fr a b (by omega),λe he=>Dd (gn e he),?_⟩;obtain⟨K,hK⟩:∃K,P3 ks=K:=⟨_,rfl⟩
    rw[hK]at hrow⊢;obtain⟨hlen,⟨rfl,hz⟩|⟨gb,cap,cur,rfl,hbase,hgb,q1,q2,q3,q4⟩⟩:=hrow
    ·rw[hz,Ab]at hlen
     have:K=[]:=List.length_eq_zero_iff.1 (by omega)
     rw[this];exact .nil 1
    ·rw[Ab,Ej]at hlen
     rw[Ej]at q3 q4;have hat:∀j x,K[j]?=some x->cur[j]?=some (Value.string (sb x)):=λj x hx=>by
      have hj:j<K.length:=(BS.1 hx).1
      have:=congrArg (λq=>q[j]?) q4
      simp only[FT,Ay,hx,J3]at this;rw[DQ]at this;simpa using this
     have hall:∀j,j<ss.length*1->∃x,cur[j]?=some (Value.string (sb x)):=λj hj=>by
      have:j<K.length:=by omega
      exact⟨_,hat j _ (Bs this)⟩
     refine .sl (λj=>cur.getD j undef) (by rw[Ab,hlen]) q1 ?_ (DB.1 hgb).1 ?_ ?_ ?_ ?_
     ·rintro(h|⟨e,he,h⟩)
      ·have:=m.xlt _ h;have:=m.size;omega
      ·have:=m.lt he h;omega
     ·intro i e h
      rw[Ay]at h;obtain⟨x,-,rfl⟩:=E4.1 h;rfl
     ·intro j hj
      obtain⟨x,hx⟩:=hall j hj;unfold World.cell?;simp only[hgb,BV];rw[hx,Av,hx];rfl
     ·intro j hj
      obtain⟨x,hx⟩:=hall j hj;rw[Av,hx];rfl
     ·intro i e j d h h2
      rw[Ay]at h;obtain⟨x,hx,rfl⟩:=E4.1 h
      have:j=0:=by
       have:=(BS.1 h2).1
       exact Nat.lt_one_iff.1 this
      subst this;cases h2;show AW _ _ _ _ (cur.getD (i*1+0) undef);rw[Ej,Dv,Av,hat i x hx];exact .prim _
end Go.Ide
namespace Go.Ide
open Go.Proofs Go.RowKit Go.Sort
set_option maxRecDepth 20000
set_option maxHeartbeats 4000000
def qv (q:B5)(j:Nat):List UInt8×Rat:=q.getD j ([],0)
theorem WX {q:B5}{j:Nat}{p:List UInt8×Rat}(h:q[j]?=some p):qv q j=p:=by unfold qv;rw[EK,h];rfl
theorem MQ.len {B:Nat}:∀ {q:B5} {m:DU},MQ B q m->q.length=m.length
 | [],[],_=>rfl
 |_::_,_::_,⟨_,h⟩=>by simp[MQ.len h]
theorem MQ.at_ {B:Nat}:∀ {q:B5} {m:DU} (j:Nat) {e:ByteArray×D},MQ B q m->m[j]?=some e->∃(p:List UInt8×Rat) (y:GF),q[j]?=some p/\e=(sb p.1,y.D)/\FR p.2 y B
 | [],[],j,e,_,h=>by simp at h
 |p::q,e'::m,0,e,⟨⟨h1,y,h2,h3⟩,_⟩,h=>by
  simp at h;subst h;exact⟨p,y,rfl,by rw[<-h1,<-h2],h3⟩
 |_::q,_::m,j+1,e,⟨_,h4⟩,h=>by
  obtain⟨p,y,a,b,c⟩:=MQ.at_ j h4 (by simpa using h);exact⟨p,y,by simpa using a,b,c⟩
theorem T9:∀(n:Nat) (l:List Nat),l.Nodup->(∀i∈l,i<n)->l.length<=n
 | 0,[],_,_=>Ar _
 | 0,a::l,_,h=>Ak (h a (by simp)) (HK a)
 |n+1,l,hd,h=>by
  by_cases hn:n∈l
  ·have h1:=T9 n (l.erase n) (hd.erase n) λi hi=>by
    have h2:=h i (List.mem_of_mem_erase hi);have h3:i≠n:=(hd.mem_erase_iff.1 hi).1;omega
   rw[List.length_erase_of_mem hn]at h1;omega
  ·have h1:=T9 n l hd λi hi=>by
    have h2:=h i hi;have h3:i≠n:=λe=>hn (e ▸ hi)
    omega
   omega
def GE (q:B5):B5:=q.mergeSort λa b=>!ltStr b.1 a.1
theorem K9 (q:B5):(GE q).Perm q:=List.mergeSort_perm _ _
theorem R6 (q:B5):(GE q).Pairwise λa b=>ltStr b.1 a.1=false:=by
 have:=List.pairwise_mergeSort (le:=λa b:List UInt8×Rat=>!ltStr b.1 a.1) (λa b c h1 h2=>by simp only[Bq]at*;exact swo_ltStr.ntrans _ _ _ h2 h1) (λa b=>by
  cases h1:ltStr b.1 a.1 with
  |false=>rfl
  |true=>
   cases h2:ltStr a.1 b.1 with
   |false=>rfl
   |true=>have:=swo_ltStr.trans _ _ _ h1 h2;rw[swo_ltStr.irrefl]at this;cases this) q
 exact this.imp λh=>by simpa using h
theorem zm {q:B5}(hn:(q.map (·.1)).Nodup){a b:List UInt8×Rat}(ha:a∈q)(hb:b∈q)(h:a.1=b.1):a=b:=by
 obtain⟨i,hi,rfl⟩:=List.mem_iff_getElem.1 ha;obtain⟨j,hj,rfl⟩:=List.mem_iff_getElem.1 hb
 have:i=j:=(List.getElem_inj (h₀:=by simpa using hi) (h₁:=by simpa using hj) hn).1 (by simpa using h)
 subst this;rfl
theorem YM {a b:List UInt8}(h1:ltStr a b=false)(h2:ltStr b a=false):a=b:=by
 simp only[ltStr,JN,List.not_lt]at h1 h2;exact List.le_antisymm h2 h1
theorem Tt {q l l':B5}(hn:(q.map (·.1)).Nodup)(hp:l.Perm q)(hp':l'.Perm q)(hs:l.Pairwise λa b=>ltStr b.1 a.1=false)(hs':l'.Pairwise λa b=>ltStr b.1 a.1=false):l=l':=
 List.Perm.eq_of_pairwise (le:=λa b:List UInt8×Rat=>ltStr b.1 a.1=false) (λ_ _ ha hb h1 h2=>zm hn (hp.mem_iff.1 ha) (hp'.mem_iff.1 hb) (YM h2 h1)) hs hs' (hp.trans hp'.symm)
theorem xz (q:B5)(dn:List Nat)(hd:dn.Nodup)(h1:∀i∈dn,i<q.length)(h2:∀i,i<q.length->i∈dn):(dn.map (qv q)).Perm q:=by
 have hp:dn.Perm (List.range q.length):=(List.perm_ext_iff_of_nodup hd List.nodup_range).2 λa=>by
  rw[List.mem_range];exact⟨h1 a,h2 a⟩
 have he:(List.range q.length).map (qv q)=q:=by
  apply List.ext_getElem (by simp);intro i h3 h4;rw[List.getElem_map,List.getElem_range];exact WX (Bs h4)
 have:=hp.map (qv q)
 rwa [he]at this
def KV (q:B5):B5:=if q.any (λp=>EG p.2)then[]else GE q
def JB (q:B5):Nat:=if q.any (λp=>EG p.2)then 4 else 0
def KZ (q:B5):D:=.tup [.sl false 2 ((KV q).map C8),i64 (JB q:Nat)]
instance d6U (q:B5):AA (KZ q):=by unfold KZ;exact AJ
theorem ZU (B:Nat)(hB9:B<100000)(q:B5)(m:DU)(hm:MQ B q m)(hl:q.length<=10000)(hnd:(q.map (·.1)).Nodup):AL C0 55 [mapD m] (KZ q):=by
 refine Af.walk w1 gQ rfl λF0=>?_
 obtain⟨ks,hks⟩:∃ks:List D,m.map (λp=>(.prim (.string p.1):D))=ks:=⟨_,rfl⟩
 obtain⟨vs,hvs⟩:∃vs:List D,m.map (·.2)=vs:=⟨_,rfl⟩
 have hml:=hm.len;have hkl:ks.length=m.length:=by rw[<-hks,Ab]
 unfold mapD;rw[hks,hvs];refine sZ 0 ?_;refine AG kB ?_;refine sZ 100 ?_;refine AG kB ?_;refine AC.seq ?_;refine AC.seq ?_;refine In (by kernel_rfl) ?_;change Bk _ _ _ _ _ ([0]++(1::[])) _ _;refine GG w1 200 [0] _ ?_;refine AG kB ?_;refine e0T 201 (PF (w1.xt 99 _ rfl)).1 rfl rfl rfl rfl (W2 F0) (λF1 o1 hto hO hI=>Bk.nil ?_);refine BO ?_;refine AC.block ?_;refine HH (α:=List Nat×Obj×Nat×Nat) (λp=>⟨[(8,.optr 201 4 0 0 0),(4,EP 706 p.2.2.1 2 (p.1.map λj=>C8 (qv q j)))],EF 706 p.2.2.1 70 2 (p.1.map λj=>C8 (qv q j)),p.2.2.2⟩) (λp=>q.length-p.1.length)
  (λp F=>DP C0 F0 F [⟨201,4,p.2.1⟩]/\OI F p.2.1 ks vs p.1/\∀j∈p.1,EG (qv q j).2=false) ([],o1,0,_) ⟨hO,hI,by simp⟩ AK ?_
 clear hO hI hto;rintro⟨dn,o,g7,n1⟩ F ⟨hO,hI,hB⟩;dsimp only at hO hI hB⊢;refine AC.seq ?_;refine In (by kernel_rfl) ?_;change Bk _ _ _ _ _ [0,1] _ _;refine e0S rfl rfl rfl rfl hO hI (λhall=>?_) (λj kd vd F2 o2 hjn hkd hvd hto hO2 hI2=>?_)
 ·change Bk _ _ _ _ _ ([1]++[]) _ _
  refine GG w1 300 [1] [] ?_;refine AG kB ?_;refine Bk.nil ?_;refine BO ?_;refine AC.seq ?_;refine AO ?_;refine CG ?_;have hq2:∀j,j<q.length->j∈dn:=λj hj=>hall j (by rw[hkl,<-hml];exact hj)
  have hdn:dn.Nodup/\∀i∈dn,i<q.length:=by
   obtain⟨bm,es,clock,since,c0,seen,-,-,-,z4,-,-,-,-,-,-,-,-,z8,z9⟩:=hI;exact⟨z8,λi hi=>by have:=z9 i hi;omega⟩
  have hpm:=xz q dn hdn.1 hdn.2 hq2;have hpl:(dn.map (qv q)).length=q.length:=hpm.length_eq;have hbf:q.any (λp=>EG p.2)=false:=by
   rw[List.any_eq_false];intro p hp;obtain⟨i,hpi⟩:=L3.1 hp;have hi:=(BS.1 hpi).1
   have:=hB i (hq2 i hi)
   rw[WX hpi]at this;rw[this];exact Bool.false_ne_true
  have hmm:(dn.map λj=>C8 (qv q j))=(dn.map (qv q)).map C8:=by rw[List.map_map];rfl
  rw[hmm];generalize hLL:dn.map (qv q)=LL at hpm hpl⊢;have hrs:KZ q=.tup [.sl false 2 ((GE q).map C8),i64 0]:=by unfold KZ KV JB;rw[hbf];rfl
  clear hmm hI hO hB hall hq2 hdn;rcases LL with _|⟨z,LL⟩
  ·have hqn:q=[]:=List.length_eq_zero_iff.1 (by rw[<-hpl];rfl)
   subst hqn;rw[show EP 706 g7 2 (List.map C8 [])=CK from rfl,show EF 706 g7 70 2 (List.map C8 [])=[]from rfl];have cS:=nC;refine AF AY kB cS AB AB AB AB AB ?_;exact⟨_,E9 (.nil 2) (.refl _),AA.out,by rw[hrs,show GE []=[]from List.mergeSort_nil];rfl⟩
  ·have cS:=λkb gg H n=>jo (z::LL) (by simp) (by rw[hpl];omega) kb gg H n
   rw[Bu]at cS;rw[show EP 706 g7 2 (List.map C8 (z::LL))=.osl 706 g7 2 0 ((LL.map C8).length+1)from rfl,show EF 706 g7 70 2 (List.map C8 (z::LL))=[⟨706,g7,70,2,(z::LL).map C8⟩]from rfl,Ab];refine AF AY kB cS AB AB AB AB AB ?_;refine BF.own _ (cS 706 g7 [] _) ?_;rintro d H' n' ⟨rfl,rfl,l',hp',hs',rfl⟩;have hpq:l'.Perm q:=hp'.trans hpm;have hl':=Tt hnd hpq (K9 q) hs' (R6 q);have hl0:l'≠[]:=λq=>by rw[q]at hp';have:=hp'.length_eq;simp at this
   have hll:LL.length+1=l'.length:=by rw[hp'.length_eq];rfl
   rw[hll];rw[<-hl']at hrs;clear hl' cS hp' hs' hpm hll;refine AF AY kB AB AB AB AB AB AB ?_;rw[hrs];refine⟨_,E9 (?_:Fz _ [] _ (.sl false 2 (l'.map C8))) (.refl _),AA.out,rfl⟩;rcases l' with _|⟨z',t'⟩
   ·exact Ak rfl hl0
   ·have:=ST 706 g7 70 2 ((z'::t').map C8)
    rw[show EP 706 g7 2 ((z'::t').map C8)=.osl 706 g7 2 0 ((t'.map C8).length+1)from rfl,show EF 706 g7 70 2 ((z'::t').map C8)=[⟨706,g7,70,2,(z'::t').map C8⟩]from rfl,Ab]at this;exact this
 change Bk _ _ _ _ _ ([1]++[]) _ _;refine GG w1 300 [1] [] ?_;refine AG kB ?_;refine Bk.nil ?_;refine BO ?_;refine AC.seq ?_;refine AO ?_;refine An ?_;obtain⟨p,hp⟩:∃p,m[j]?=some p:=by
  rw[<-hks,Ay]at hkd;obtain⟨p,hp,-⟩:=E4.1 hkd;exact⟨p,hp⟩
 obtain⟨pq,y,hq,rfl,hy⟩:=hm.at_ j hp;have hkd2:kd=str (sb pq.1):=by
  rw[<-hks,Ay,hp]at hkd;exact(GV hkd).symm
 have hvd2:vd=y.D:=by
  rw[<-hvs,Ay,hp]at hvd;exact(GV hvd).symm
 subst hkd2 hvd2;have hqv:=WX hq;refine AC.block ?_;refine AC.seq ?_;refine In (by kernel_rfl) ?_;change Bk _ _ _ _ _ (0::([1,2,3,4,5]++[])) _ _;refine e0Q (xo:=⟨201,4,o2⟩) rfl rfl rfl rfl hO2 CF hI2 hkd hvd ?_;refine GG w1 400 [1,2,3,4,5] [] ?_;refine AG kB ?_;refine Bk.nil ?_;have cL:=ab hy (by omega);have cT:=eG hy (by omega);obtain⟨bg,hbg⟩:∃b,EG pq.2=b:=⟨_,rfl⟩
 rw[hbg]at cL;refine BO ?_;have hdl:dn.length+1<=q.length:=by
  have h1:∀i∈dn++[j],i<q.length:=by
   obtain⟨bm,es,clock,since,c0,seen,-,-,-,z4,-,-,-,-,-,-,-,-,-,z9⟩:=hI2;intro i hi
   have:=z9 i hi
   omega
  have h2:(dn++[j]).Nodup:=by
   obtain⟨bm,es,clock,since,c0,seen,-,-,-,-,-,-,-,-,-,-,-,-,z8,-⟩:=hI2;exact z8
  have:=T9 _ _ h2 h1
  simpa using this
 have hsn:(dn++[j]).map (λj=>C8 (qv q j))=dn.map (λj=>C8 (qv q j))++[.agg [str (sb pq.1),str (sb (BT pq.2))]]:=by rw[Cz,Cx,List.map_nil,hqv];rfl
 have hTl:(dn.map λj=>C8 (qv q j)).length=dn.length:=Ab ..;obtain⟨TL,hTL⟩:∃TL,dn.map (λj=>C8 (qv q j))=TL:=⟨_,rfl⟩
 rw[hTL]at hsn hTl⊢;cases bg
 rotate_left
 ·have hrb:(D.tup [.sl false 2 [],i64 4])=KZ q:=by
   have:q.any (λp=>EG p.2)=true:=by
    rw[List.any_eq_true];exact⟨pq,Ax hq,hbg⟩
   unfold KZ KV JB;rw[this];rfl
  rcases TL with _|⟨z,TL⟩
  ·dsimp only[Je,Jf]
   refine AF AY kB cL AB AB AB AB AB ?_;exact⟨_,E9 (.nil 2) (.refl _),AA.out,hrb⟩
  ·dsimp only[IR,IS]
   refine AF AY kB cL AB AB AB AB AB ?_;exact⟨_,E9 (.nil 2) (.refl _),AA.out,hrb⟩
 have hB2:∀i∈dn++[j],EG (qv q i).2=false:=λi hi=>by
  rcases Bp.1 hi with hi|hi
  ·exact hB i hi
  ·rw[EJ]at hi;rw[hi,hqv];exact hbg
 rcases TL with _|⟨z,TL⟩
 ·dsimp only[Je,Jf]
  refine AF AY kB cL cT AB AB AB AB ?_;exact⟨(dn++[j],o2,_,_),⟨hO2,hI2,hB2⟩,by dsimp only;rw[Be,HN];omega,by(dsimp only;rw[hsn];exact AK)⟩
 ·dsimp only[IR,IS]
  have htk:List.take (TL.length+1) (z::TL)=z::TL:=by simp
  rw[Bu]at hTl;refine AF AY htk cL cT AB AB AB AB ?_;exact⟨(dn++[j],o2,_,_),⟨hO2,hI2,hB2⟩,by dsimp only;rw[Be,HN];omega,by(dsimp only;rw[hsn,O0];exact AK)⟩
abbrev DC (q:B5):List (List UInt8):=q.map (·.1)
theorem Yi (lot:List UInt8)(r:Rat):∀q:B5,DC (HC lot r q)=if lot∈DC q then DC q else DC q++[lot]
 | []=>by simp[HC,DC]
 |p::l=>by
  unfold HC
  by_cases h:lot=p.1
  ·rw[AI h]
   subst h;simp[DC]
  ·rw[AH h]
   show p.1::DC (HC lot r l)=if lot∈p.1::DC l then p.1::DC l else p.1::DC l++[lot]
   rw[Yi lot r l]
   by_cases h2:lot∈DC l
   ·rw[AI h2,AI (CL _ h2)]
   ·rw[AH h2,AH (by
     intro q;rcases A8.1 q with q|q
     ·exact h q
     ·exact h2 q)];rfl
structure H8 (P:List UInt8->Prop)(n:Nat)(q:B5):Prop where
 nd:(DC q).Nodup
 all:∀k∈DC q,P k
 len:q.length<=n
theorem H8.set {P:List UInt8->Prop}{n:Nat}{q:B5}(h:H8 P n q){lot:List UInt8}(hl:P lot)(r:Rat):H8 P (n+1) (HC lot r q):=by
 have hk:=Yi lot r q;have hlen:(HC lot r q).length=(DC (HC lot r q)).length:=by simp[DC]
 have hlen2:q.length=(DC q).length:=by simp[DC]
 by_cases hm:lot∈DC q
 ·rw[AI hm]at hk
  exact⟨by rw[hk];exact h.nd,by rw[hk];exact h.all,by rw[hlen,hk,<-hlen2];have:=h.len;omega⟩
 ·rw[AH hm]at hk
  refine⟨?_,?_,?_⟩
  ·rw[hk,EM]
   exact⟨h.nd,by simp,λa ha b hb=>by
    rw[EJ]at hb;subst hb;exact λe=>hm (e ▸ ha)⟩
  ·rw[hk]
   intro k hk;rcases Bp.1 hk with q|q
   ·exact h.all k q
   ·rw[EJ]at q;rw[q];exact hl
  ·rw[hlen,hk,Be,<-hlen2]
   have:=h.len
   simp;omega
theorem H8.mono {P:List UInt8->Prop}{n n':Nat}{q:B5}(h:H8 P n q)(hn:n<=n'):H8 P n' q:=⟨h.nd,h.all,BY h.len hn⟩
theorem YI {P:List UInt8->Prop}{n:Nat}{q:B5}(x:AE)(h:H8 P n q)(hp:∀s∈x.shs,P s.lot):∀j,j<=x.shs.length->H8 P (n+j) (G5 x j q)
 | 0,_=>h
 |j+1,hj=>by
  obtain⟨s,hs⟩:∃s,x.shs[j]?=some s:=⟨_,Bs hj⟩
  rw[O4 x j q hs];exact(YI x h hp j (by omega)).set (hp s (Ax hs)) _
theorem Xt {P:List UInt8->Prop}(l:List AE)(hp:∀x∈l,x.shs.length<=64/\∀s∈x.shs,P s.lot):∀i,i<=l.length->H8 P (64*i) (CU (l.take i))
 | 0,_=>⟨by simp[CU,DC],by simp[CU,DC],by simp[CU]⟩
 |i+1,hi=>by
  obtain⟨x,hx⟩:∃x,l[i]?=some x:=⟨_,Bs hi⟩
  rw[Qy l i hx];have h1:=hp x (Ax hx);exact(YI x (Xt l hp i (by omega)) h1.2 _ (Ar _)).mono (by omega)
theorem T6 {P:List UInt8->Prop}{l:List AE}(hp:∀x∈l,x.shs.length<=64/\∀s∈x.shs,P s.lot):H8 P (64*l.length) (CU l):=by
 have:=Xt l hp l.length (Ar _)
 rwa [Cw]at this
theorem MQ.keys {B:Nat}:∀ {q:B5} {m:DU},MQ B q m->m.map (·.1)=(DC q).map sb
 | [],[],_=>rfl
 |p::q,e::m,⟨⟨h1,_⟩,h4⟩=>by
  simp only[Cx,DC];rw[h1]
  congr 1
  exact MQ.keys h4
theorem YH (s:ByteArray):∀m:DU,Ig s (m.map λp=>.prim (.string p.1)) (m.map (·.2))=some (It s m)
 | []=>rfl
 |p::l=>by
  simp only[Cx,Ig,It];cases BJ s p.1 with
  |true=>rfl
  |false=>exact YH s l
theorem UT:∀ {q:B5} {p:List UInt8×Rat},(DC q).Nodup->p∈q->Gf p.1 q=some p.2
 |a::q,p,hn,hp=>by
  unfold Gf;have hn:(a.1::DC q).Nodup:=hn;rw[List.nodup_cons]at hn;rcases A8.1 hp with rfl|hp
  ·rw[AI rfl]
  ·rw[AH λe=>hn.1 (by rw[<-e];exact List.mem_map_of_mem hp)]
   exact UT hn.2 hp
theorem kf (q:B5):P3 (DC q)=(GE q).map (·.1):=by
 unfold P3;refine List.Perm.eq_of_pairwise (le:=λx y:List UInt8=>x<=y) (λ_ _ _ _ h1 h2=>List.le_antisymm h1 h2) ?_ ?_ ?_
 ·have:=List.pairwise_mergeSort (le:=λx y:List UInt8=>decide (x<=y)) (λa b c h1 h2=>by simp only[HJ]at*;exact List.le_trans h1 h2) (λa b=>by
   rcases List.le_total a b with h|h<;>simp[h]) (DC q)
  exact this.imp λh=>by simpa using h
 ·rw[List.pairwise_map]
  exact(R6 q).imp λh=>by simpa[ltStr]using h
 ·exact(List.mergeSort_perm _ _).trans ((K9 q).map _).symm
abbrev LM:Dr:=[(12,[0,1,2,3,4,5],[6])]
open Go.Proofs Go.RowKit
set_option maxRecDepth 20000
set_option maxHeartbeats 4000000
def CI (l:List AE):Bool:=l.all λx=>BJ (sb x.grain) (sb (CT l 0).grain)
def IC (l:List AE):Nat:=if l.length=0 then 2 else if 64<l.length then 5 else if EC (λi=>Ct (CT l i)) l.length≠0 then EC (λi=>Ct (CT l i)) l.length else if CI l=false then 16 else if AZ l>999999999 then 4 else 0
def Sz (l:List AE):Int:=if IC l=0 then AZ l else 0
theorem lV (b:Bool)(v:List AE)(hl:v.length<=1000000)(hf:∀x∈v,x.few):AL C0 128 [.clo (.func 85) [] [],AV b v] (i64 (EC (λi=>Ct (CT v i)) v.length:Nat)):=by
 refine Af.walk w1 dH rfl λF=>?_
 have el:(((v.map AE.D).length:Nat):Int)=(v.length:Int):=by rw[Ab]
 refine AF AY el AB AB AB AB AB AB ?_;refine AC.loop (α:=Nat×Nat) (λp=>⟨[(0,.clo (.func 85) [] []),(8,AV b v),(9,i64 (v.length:Int)),(10,i64 (p.1:Int))],[],p.2⟩) (λp=>v.length-p.1)
  (λp=>p.1<=v.length/\∀j,j<p.1->Ct (CT v j)=0) (0,_) ⟨BW _,λj h=>Ak h (HK j)⟩ AK ?_
 rintro⟨i,m⟩ F ⟨hi,hz⟩;dsimp only at hi hz⊢;rcases BE i v.length with h2|h2
 ·have e1:=Ch h2
  have wi:=Cc (i:=i) (by omega);obtain⟨x,hx⟩:=CO h2;have hm:(v.map AE.D)[i]?=some (.agg [str (sb x.grain),i64 x.mass,.sl false 2 (x.shs.map Au.D)]):=by rw[Ay,hx];rfl
  have cL:=ip x (hf x (Ax hx));unfold AE.D at cL;rcases Nat.decEq (Ct x) 0 with hc0|hc0
  ·have e3:=G9 hc0
   have hE:=Pb (f:=λi=>Ct (CT v i)) hz h2 (by rw[GO hx];exact hc0);rw[GO hx]at hE;rw[hE];refine AF AY (Ao e1 e3 kN) hm cL AB AB AB AB ?_;exact AM rfl AA.out
  ·have e3:=HA hc0
   refine AF AY (Bb e1 e3 wi kN) hm cL AB AB AB AB ?_;exact⟨(i+1,_),⟨h2,λj hj=>by
    rcases Ko.1 hj with q|q
    ·exact hz j q
    ·rw[q,GO hx];exact hc0⟩,by dsimp only;omega,AK⟩
 ·have e1:=Cg h2
  have:i=v.length:=by omega
  subst this;rw[MN (f:=λi=>Ct (CT v i)) hz];refine AF AY e1 AB AB AB AB AB AB ?_;exact AM rfl AA.out
theorem rA (b:Bool)(l:List AE)(hl:l.length<=1000000)(hf:∀x∈l,x.few):AL C0 95 [AV b l] (.tup [i64 (Sz l),i64 (IC l:Nat)]):=by
 refine Af.walk w1 iH rfl λF=>?_
 have el:(((l.map AE.D).length:Nat):Int)=(l.length:Int):=by rw[Ab]
 have hC:IC l=if l.length=0 then 2 else if 64<l.length then 5 else if EC (λi=>Ct (CT l i)) l.length≠0 then EC (λi=>Ct (CT l i)) l.length else if CI l=false then 16 else if AZ l>999999999 then 4 else 0:=rfl
 have hM:Sz l=if IC l=0 then AZ l else 0:=rfl
 have cA:=lV b l hl hf
 by_cases h0:l.length=0
 ·rw[AI h0]at hC
  rw[hC]at hM;rw[hM,hC];have q1:((l.length:Int)==0)=true:=by rw[h0];rfl
  refine AF LM (Aa el q1) AB AB AB AB AB AB ?_;exact AM rfl AA.out
 rw[AH h0]at hC;have q1:((l.length:Int)==0)=false:=by
  rw[Bo];omega
 by_cases h64:64<l.length
 ·rw[AI h64]at hC
  rw[hC]at hM;rw[hM,hC];have q2:decide ((l.length:Int)>64)=true:=BR;refine AF LM (Ao el q1 q2) AB AB AB AB AB AB ?_;exact AM rfl AA.out
 rw[AH h64]at hC;have q2:decide ((l.length:Int)>64)=false:=Bd;obtain⟨K,hK⟩:∃K,EC (λi=>Ct (CT l i)) l.length=K:=⟨_,rfl⟩
 rw[hK]at hC cA;rcases Nat.decEq K 0 with hc0|hc0
 ·have e3:=G9 hc0
  rw[AI hc0]at hC;rw[hC]at hM;rw[AH hc0]at hM;rw[hM,hC];refine AF LM (Bb el q1 q2 e3) cA AB AB AB AB AB ?_;exact AM rfl AA.out
 have e3:=HA hc0;rw[AH (λh=>h hc0)]at hC;have hz:∀j,j<l.length->Ct (CT l j)=0:=Rg (hK.trans hc0);have hsm:=UC h64 hz;obtain⟨x0,hx0⟩:∃x,l[0]?=some x:=⟨_,Ce⟩
 have hm0:(l.map AE.D)[0]?=some (.agg [str (sb x0.grain),i64 x0.mass,.sl false 2 (x0.shs.map Au.D)]):=by rw[Ay,hx0];rfl
 have hv0:=GO hx0;refine AF LM (Bb el q1 q2 e3) cA AB AB AB AB AB ?_;refine AC.loop (α:=Nat×Nat) (λp=>⟨[(0,AV b l),(5,i64 (AZ (l.take p.1))),(19,AV b l),(20,i64 (l.length:Int)),(21,i64 (p.1:Int))],[],p.2⟩) (λp=>l.length-p.1)
  (λp=>p.1<=l.length/\∀x∈l.take p.1,BJ (sb x.grain) (sb x0.grain)=true) (0,_) ⟨BW _,λx h=>by simp at h⟩ AK ?_
 rintro⟨i,m⟩ F ⟨hi,hs⟩;dsimp only at hi hs⊢;rcases BE i l.length with h2|h2
 rotate_left
 ·have e1:=Cg h2
  have:i=l.length:=by omega
  subst this;rw[Cw]at hs⊢;have hg:CI l=true:=by
   unfold CI;rw[CW,hv0];exact hs
  rw[AH (by rw[hg];decide)]at hC
  by_cases h9:AZ l>999999999
  ·have e9:decide (AZ l>999999999)=true:=Aw h9
   rw[AI h9]at hC;rw[hC]at hM;rw[hM,hC];refine AF LM (Aa e1 e9) AB AB AB AB AB AB ?_;exact AM rfl AA.out
  ·have e9:decide (AZ l>999999999)=false:=Az h9
   rw[AH h9]at hC;rw[hC]at hM;rw[hM,hC];refine AF LM (Aa e1 e9) AB AB AB AB AB AB ?_;exact AM rfl AA.out
 have e1:=Ch h2;have wi:=Cc (i:=i) (by omega);obtain⟨x,hx⟩:=CO h2;have hm:(l.map AE.D)[i]?=some (.agg [str (sb x.grain),i64 x.mass,.sl false 2 (x.shs.map Au.D)]):=by rw[Ay,hx];rfl
 have hsum:=UX hx;have hs1:=VR (l:=l.take i) λy hy=>hsm.2 y (GJ hy)
 have hs2:=hsm.2 x (Ax hx);rw[Bc]at hs1;have ws:IntKind.i64.wrap (AZ (l.take i)+x.mass)=AZ (l.take i)+x.mass:=wI;obtain⟨bG,hbG⟩:∃q,BJ (sb x.grain) (sb x0.grain)=q:=⟨_,rfl⟩
 cases bG
 ·have hg:CI l=false:=by
   unfold CI;rw[List.all_eq_false];exact⟨x,Ax hx,by rw[hv0,hbG];decide⟩
  rw[AI hg]at hC;rw[hC]at hM;rw[hM,hC];refine AF LM (Ao e1 hbG kN) hm hm0 AB AB AB AB ?_;exact AM rfl AA.out
 ·refine AF LM (CS e1 hbG wi ws kN) hm hm0 AB AB AB AB ?_
  exact⟨(i+1,_),⟨h2,λy hy=>by
   rw[Dp,hx]at hy;rcases Bp.1 hy with q|q
   ·exact hs y q
   ·have:y=x:=by simpa using q
    rw[this];exact hbG⟩,by dsimp only;omega,by(dsimp only;rw[hsum];exact AK)⟩
abbrev FN:Dr:=[(11,[0,1,2,3,4,5,6,7],[8]),(24,[0,1,2,3,4,5,6,7,8,9,10],[11])]
open Go.Proofs Go.RowKit Go.Sort
set_option maxRecDepth 20000
set_option maxHeartbeats 4000000
def Hb (l:List AE):Nat:=if IC l≠0 then IC l else if 64<(CU l).length then 5 else if(GE (CU l)).any (λp=>EG (p.2/(AZ l:Rat)))then 4 else 0
def FS (l:List AE):List Au:=(GE (CU l)).map λp=>⟨p.1,BT (p.2/(AZ l:Rat))⟩
def Lw (l:List AE):AE:=if Hb l≠0 then⟨[],0,[]⟩else⟨(CT l 0).grain,AZ l,FS l⟩
def AE.lite (x:AE):Prop:=x.few/\∀s∈x.shs,s.lot.length<=1000/\s.part.length<=40
theorem YX {l:List Au}(h:IZ l=0):0<l.length/\l.length<=64/\∀s∈l,D3 s.lot=true/\Cr s.part=0/\0<Hh (Cd s.part):=by
 unfold IZ at h;split at h
 ·cases h
 ·split at h
  ·cases h
  ·split at h
   ·rename_i h3;exact Ak h h3
   ·rename_i h1 h2 h3
    refine⟨by omega,by omega,λs hs=>?_⟩;obtain⟨j,hj⟩:=L3.1 hs;have hE:=Rg (f:=GL l) (n:=l.length) (by omega) j (BS.1 hj).1;unfold GL at hE;rw[KU hj]at hE;split at hE
    ·cases hE
    ·split at hE
     ·cases hE
     ·split at hE
      ·rename_i h6;exact Ak hE h6
      ·split at hE
       ·cases hE
       ·rename_i h4 h5 h6 h7
        exact⟨by simpa using h4,by omega,by omega⟩
theorem fH {x:AE}(hl:x.lite)(h:Ct x=0):x.ok/\∀s∈x.shs,D3 s.lot=true:=by
 obtain⟨h1,h2,h3,h4⟩:=PJ h;obtain⟨g1,g2,g3⟩:=YX h4;exact⟨⟨g2,by unfold Sm;omega,λs hs=>⟨BY (hl.2 s hs).1 (by omega),(hl.2 s hs).2,(g3 s hs).2.1⟩⟩,λs hs=>(g3 s hs).1⟩
theorem aR {l:List AE}(h:IC l=0):0<l.length/\l.length<=64/\(∀x∈l,Ct x=0)/\CI l=true/\AZ l<=999999999:=by
 unfold IC at h;split at h
 ·cases h
 ·split at h
  ·cases h
  ·split at h
   ·rename_i h3;exact Ak h h3
   ·split at h
    ·cases h
    ·split at h
     ·cases h
     ·rename_i h1 h2 h3 h4 h5
      refine⟨by omega,by omega,λx hx=>?_,by simpa using h4,by omega⟩;obtain⟨j,hj⟩:=L3.1 hx
      have:=Rg (f:=λi=>Ct (CT l i)) (n:=l.length) (by omega) j (BS.1 hj).1
      rwa [GO hj]at this
theorem Zu:∀ {l:List AE},(∀x∈l,Ct x=0)->(l.length:Int)<=AZ l
 | [],_=>by simp[AZ]
 |x::l,h=>by
  have h1:=(PJ (h x CF)).2.1;have h2:=Zu (l:=l) λy hy=>h y (CL _ hy)
  unfold AZ at h2⊢;simp only[Cx,List.sum_cons,Bu];omega
theorem Pc (H:Hp)(e:Int):Fz H [] (.tup [.agg [str ⟨#[]⟩,i64 0,CK],i64 e]) (.tup [(⟨[],0,[]⟩:AE).D,i64 e]):=
 E9 (.agg rfl λi d d' h h'=>by
  match i with
  | 0=>cases h;cases h';exact .refl _
  | 1=>cases h;cases h';exact .refl _
  | 2=>cases h;cases h';exact .nil 2
  |n+3=>cases h) (.refl _)
theorem fF {H:Hp}{gr m sD e:D}{L:List D}(h:Fz H [] sD (.sl false 2 L)):Fz H [] (.tup [.agg [gr,m,sD],e]) (.tup [.agg [gr,m,.sl false 2 L],e]):=
 E9 (.agg rfl λi d d' h1 h2=>by
  match i with
  | 0=>cases h1;cases h2;exact .refl _
  | 1=>cases h1;cases h2;exact .refl _
  | 2=>cases h1;cases h2;exact h
  |n+3=>cases h1) (.refl _)
theorem rM {H:Hp}{k g T sz:Nat}{z:D}{l:List D}(he:Hp.get H k=some ⟨k,g,T,sz,z::l⟩):Fz H [] (.osl k g sz 0 (l.length+1)) (.sl false sz (z::l)):=by
 refine .osl (e:=⟨k,g,T,sz,z::l⟩) he rfl rfl rfl (by simp) (by simp) (λj d d' h1 h2=>?_) λj d d' q c c' h1 h2 h3 h4=>?_
 ·rw[BV]at h1;rw[h1]at h2;cases h2;rfl
 ·rw[BV]at h1;rw[h1]at h2;cases h2;rw[h3]at h4;cases h4;exact Fz.refl _
theorem oK (l:DU)(H:Hp)(n:Nat):CX C0 97 [mapD l] H n (λd H' n'=>∃g,d=.clo (.func 131) [] [.optr 77000 g 1 0 0]/\H'=⟨77000,g,99,1,[mapD l]⟩::H/\n'=n+4):=by
 refine CX.walk w1 iJ rfl λF0=>?_
 obtain⟨M,hM⟩:∃M,mapD l=M:=⟨_,rfl⟩
 have hc:∃ks vs,M=.mp ks vs:=⟨_,_,hM.symm⟩
 obtain⟨ks,vs,hc⟩:=hc;subst hc;rw[hM];refine AC.seq ?_;refine As 77000 ?_;refine AG kB ?_;refine BO ?_;refine AF AY kB AB AB AB AB AB AB ?_;exact⟨_,rfl,rfl,trivial⟩
theorem xP {r:Rat}{x:GF}{k:Nat}(h:FR r x k)(hk:k<100000):AL C0 98 [x.D] (.tup [str (sb (WZ r)),i64 (WY r:Nat)]):=by
 refine Af.walk w1 iK rfl λF=>?_
 have c1:=ab h hk;have c2:=eG h hk;unfold WZ WY;obtain⟨b,hb⟩:∃b,EG r=b:=⟨_,rfl⟩
 rw[hb]at c1⊢;cases b
 all_goals
  refine AF AY kB c1 c2 AB AB AB AB ?_;exact AM rfl AA.out
theorem d9U (b:Bool)(l:List AE)(hl:l.length<=1000000)(hf:∀x∈l,x.lite):AL C0 59 [AV b l] (.tup [(Lw l).D,i64 (Hb l:Nat)]):=by
 refine Af.walk w1 g8 rfl λF0=>?_
 have el:(((l.map AE.D).length:Nat):Int)=(l.length:Int):=by rw[Ab]
 have cM:=rA b l hl λx hx=>(hf x hx).1
 have hN:Hb l=if IC l≠0 then IC l else if 64<(CU l).length then 5 else if(GE (CU l)).any (λp=>EG (p.2/(AZ l:Rat)))then 4 else 0:=rfl
 have hL:Lw l=if Hb l≠0 then⟨[],0,[]⟩else⟨(CT l 0).grain,AZ l,FS l⟩:=rfl
 rcases Nat.decEq (IC l) 0 with g|g
 ·have e1:=G9 g
  rw[AI g]at hN;rw[hN,AI g]at hL;rw[hL,hN];refine AF FN e1 cM AB AB AB AB AB ?_;exact⟨_,Pc _ _,AA.out,rfl⟩
 have e1:=HA g;rw[AH (λh=>h g)]at hN;have hmm:Sz l=AZ l:=by unfold Sz;rw[AI g]
 obtain⟨g1,g2,g3,g4,g5⟩:=aR g;have hx:∀x∈l,x.ok:=λx h=>(fH (hf x h) (g3 x h)).1
 have g6:=Zu g3;rw[hmm]at cM;refine sZ 0 ?_;refine AG kB ?_;refine sZ 100 ?_;refine AG kB ?_;refine cI cM ?_;refine AG kB ?_;refine AC.seq ?_;refine sZ 200 ?_;refine AG e1 ?_;refine AO ?_;refine An ?_;refine AC.seq ?_;refine In (by kernel_rfl) ?_;change Bk _ _ _ _ _ [0,1] _ _;refine Bk.makeMap 400 rfl rfl rfl (W2 F0) (λF1 it hto hO hr0 hnX hM=>?_);change Bk _ _ _ _ _ ([1]++[]) _ _;refine GG w1 400 [1] [] ?_;refine AG kB ?_;refine Bk.nil ?_;refine AF FN el AB AB AB AB AB AB ?_;refine HH (α:=Nat×DU×Obj×Nat) (λp=>⟨[(0,AV b l),(2,.optr 0 0 3 0 0),(4,i64 (AZ l)),(6,.prim (.map (some it))),(29,AV b l),(30,i64 (l.length:Int)),(31,i64 (p.1:Int))],[⟨0,0,53,3,[.agg [.prim (.string ⟨#[]⟩),.prim (.int .i64 0),.prim (.slice none 0 0)]]⟩],p.2.2.2⟩) (λp=>l.length-p.1)
  (λp F=>p.1<=l.length/\DP C0 F0 F [⟨400,11,p.2.2.1⟩]/\F.r0 400 11=some it/\Id F p.2.2.1 p.2.1/\MQ (320*p.1) (CU (l.take p.1)) p.2.1) (0,[],.map #[] 0,_) ⟨BW _,hO,hr0,hM,trivial⟩ AK ?_
 clear hO hr0 hM hto;rintro⟨i,m,o,n1⟩ F ⟨hi,hO,hr0,hM,hQ⟩;dsimp only at hi hO hr0 hM hQ⊢;rcases BE i l.length with h2|h2
 rotate_left
 ·have e1:=Cg h2
  have:i=l.length:=by omega
  subst this;rw[Cw]at hQ;refine sZ 600 ?_;refine AG e1 ?_;refine AC.seq ?_;refine AO ?_;refine CG ?_;refine jN [(0,AV b l),(2,.optr 0 0 3 0 0),(4,i64 (AZ l)),(6,mapD m)] hO hr0 hnX hM ⟨.inl rfl,.inl rfl,.inl rfl,.inr ⟨rfl,rfl⟩,trivial⟩ (λF2 hto2 hO2=>?_);have hKO:H8 (λk=>k.length<=1000) (64*l.length) (CU l):=T6 λx h=>⟨(hx x h).1,λs hs=>((hf x h).2 s hs).1⟩
  have hQ2:MQ 32000 (CU l) m:=hQ.mono (by omega);clear hQ hO hM hto2 hO2;obtain⟨q,hq⟩:∃q,CU l=q:=⟨_,rfl⟩
  have hSS:FS l=(GE q).map λp=>⟨p.1,BT (p.2/(AZ l:Rat))⟩:=by rw[<-hq];rfl
  rw[hq]at hKO hQ2 hN;have hml:=hQ2.len;obtain⟨ks,hks⟩:∃ks:List D,m.map (λp=>(.prim (.string p.1):D))=ks:=⟨_,rfl⟩
  obtain⟨vs,hvs⟩:∃vs:List D,m.map (·.2)=vs:=⟨_,rfl⟩
  have hkl:ks.length=q.length:=by rw[<-hks,Ab,hml]
  unfold mapD;rw[hks,hvs];refine AC.seq ?_;refine AC.seq ?_;refine In (by kernel_rfl) ?_;change Bk _ _ _ _ _ ([0]++(1::([2]++[]))) _ _;refine GG w1 1800 [0] _ ?_;refine AG kB ?_;refine e0R (PF (w1.xt 99 _ rfl)).1 rfl rfl rfl rfl ?_;refine GG w1 1800 [2] _ ?_;refine AG kB ?_;refine Bk.nil ?_;rw[hkl]
  by_cases h64:64<q.length
  ·rw[AI h64]at hN
   rw[hN,DQ]at hL;rw[hL,hN];have q2:decide ((q.length:Int)>64)=true:=BR;refine AF FN q2 AB AB AB AB AB AB ?_;exact⟨_,Pc _ _,AA.out,rfl⟩
  have q2:decide ((q.length:Int)>64)=false:=Bd;rw[AH h64]at hN;rw[q2];have hmd:mapD m=.mp ks vs:=by unfold mapD;rw[hks,hvs]
  have cK:=oK m;have cS:=Gb m (DC q) hQ2.keys (by omega) hKO.all hKO.nd;rw[hmd]at cK cS;obtain⟨x0,hx0⟩:∃x,l[0]?=some x:=⟨_,Ce⟩
  have hm0:(l.map AE.D)[0]?=some (.agg [str (sb x0.grain),i64 x0.mass,.sl false 2 (x0.shs.map Au.D)]):=by rw[Ay,hx0];rfl
  refine AF FN kB hm0 AB AB AB AB AB ?_;refine BF.own _ (cK _ _) ?_;rintro d H' n' ⟨gk,rfl,rfl,rfl⟩;refine AF FN kB AB AB AB AB AB AB ?_;refine BF.own _ (cS _ _ _ _ _) ?_;rintro d H' n' ⟨rfl,rfl,rfl⟩;refine AF FN kB AB AB AB AB AB AB ?_;have hkey:=kf q;have hsl:(GE q).length=q.length:=(K9 q).length_eq;have hsm:∀p∈GE q,p∈q:=λp h=>(K9 q).mem_iff.1 h
  rw[hkey];obtain⟨Q,hQ⟩:∃Q,GE q=Q:=⟨_,rfl⟩
  rw[hQ]at hN hSS hsl hsm⊢;have hMs:Sm (AZ l):=by unfold Sm;omega
  have hM0:((AZ l:Int):Rat)≠0:=λh=>by
   have:=Rat.intCast_inj.1 (h.trans (Rat.intCast_zero).symm)
   omega
  have fM:FR ((AZ l:Int):Rat) ⟨Ac (AZ l),1⟩ 1:=Rs (by unfold Sm at hMs;omega);have cF:=QG (AZ l) hMs;obtain⟨kl,hkl2⟩:∃kl:List D,(List.map (λx=>str (sb x)) (Q.map (·.1)))=kl:=⟨_,rfl⟩
  have hkll:kl.length=Q.length:=by rw[<-hkl2];simp
  rw[hkl2];obtain⟨M,hMM⟩:∃M,AZ l=M:=⟨_,rfl⟩
  have hgr:(CT l 0).grain=x0.grain:=by rw[GO hx0]
  clear hmd cK cS hm0;rw[hMM]at hN hL hSS hMs hM0 fM cF;rw[hMM,hkll];obtain⟨g14,hg14⟩:∃g,n1+1+1+1+1+1+1+1+1+1+1=g:=⟨_,rfl⟩
  rw[hg14];refine AC.loop (α:=Nat×Nat×Nat) (λp=>⟨[(2,.optr 0 0 3 0 0),(4,i64 M),(6,.mp ks vs),(14,.optr 2006 g14 3 0 0),(78,.sl false 1 kl),(79,i64 (Q.length:Nat)),(80,i64 (p.1:Int))],
    EF 2706 p.2.1 68 2 ((Q.take p.1).map λz=>(⟨z.1,BT (z.2/(M:Rat))⟩:Au).D)++[⟨2006,g14,53,3,[.agg [str (sb x0.grain),i64 M,EP 2706 p.2.1 2 ((Q.take p.1).map λz=>(⟨z.1,BT (z.2/(M:Rat))⟩:Au).D)]]⟩,⟨0,0,53,3,[.agg [.prim (.string ⟨#[]⟩),.prim (.int .i64 0),.prim (.slice none 0 0)]]⟩],p.2.2⟩) (λp=>Q.length-p.1)
   (λp=>p.1<=Q.length/\∀z∈Q.take p.1,EG (z.2/(M:Rat))=false) (0,0,_) ⟨BW _,λz h=>by simp at h⟩ AK ?_
  clear n1 hg14;rintro⟨i,g,n1⟩ F ⟨hi,hB⟩;dsimp only at hi hB⊢;have hTl:((Q.take i).map λz=>(⟨z.1,BT (z.2/(M:Rat))⟩:Au).D).length=i:=by rw[Ab,Bc];omega
  obtain⟨TL,hTL⟩:∃TL,((Q.take i).map λz=>(⟨z.1,BT (z.2/(M:Rat))⟩:Au).D)=TL:=⟨_,rfl⟩
  rcases BE i Q.length with h2|h2
  rotate_left
  ·have e1:=Cg h2
   have:i=Q.length:=by omega
   subst this;rw[Cw]at hB hTL⊢;have hany:Q.any (λp=>EG (p.2/(M:Rat)))=false:=by
    rw[List.any_eq_false];intro p hp;rw[hB p hp];decide
   rw[AH (by rw[hany];decide)]at hN;rw[CP]at hL;rw[hL,hN,hgr];have hres:((⟨x0.grain,M,FS l⟩:AE).D)=.agg [str (sb x0.grain),i64 M,.sl false 2 TL]:=by
    unfold AE.D CY;rw[<-hTL,hSS,List.map_map];rfl
   have pR:CE (.tup [(⟨x0.grain,M,FS l⟩:AE).D,i64 ((0:Nat):Int)]):=AA.out;rw[hres]at pR;rw[hres,hTL];rcases TL with _|⟨z,TL⟩
   ·dsimp only[Je,Jf,List.nil_append]
    refine AF FN e1 AB AB AB AB AB AB ?_;exact⟨_,fF (.nil 2),pR,rfl⟩
   ·dsimp only[IR,IS,List.cons_append,List.nil_append]
    refine AF FN e1 AB AB AB AB AB AB ?_;exact⟨_,fF (rM rfl),pR,rfl⟩
  have e1:=Ch h2;have wi:=Cc (i:=i) (by omega);obtain⟨p,hp⟩:=CO h2;have hmk:kl[i]?=some (str (sb p.1)):=by rw[<-hkl2,Ay,Ay,hp];rfl
  have hlq:=UT hKO.nd (hsm p (Ax hp));rcases hQ2.look p.1 with⟨q1,q3⟩|⟨r,y,q1,q3,q4⟩
  ·rw[hlq]at q3;cases q3
  rw[hlq]at q3;cases q3;have hLk:Ig (sb p.1) ks vs=some (some y.D):=by rw[<-hks,<-hvs,YH,q1]
  have cDv:=uO q4 fM hM0 (by omega);have fD:=qJ q4 fM hM0;obtain⟨z,hz⟩:∃z,TE y ⟨Ac M,1⟩=z:=⟨_,rfl⟩
  rw[hz]at cDv fD;have cG:=xP fD (by omega);obtain⟨dM,hdM⟩:∃d,(⟨Ac M,1⟩:GF).D=d:=⟨_,rfl⟩
  have pdM:AA dM:=by rw[<-hdM];exact AJ
  obtain⟨dy,hdy⟩:∃d,y.D=d:=⟨_,rfl⟩
  have pdy:AA dy:=by rw[<-hdy];exact AJ
  obtain⟨dz,hdz⟩:∃d,z.D=d:=⟨_,rfl⟩
  have pdz:AA dz:=by rw[<-hdz];exact AJ
  rw[hdy]at hLk cDv;rw[hdM]at cF cDv;rw[hdz]at cDv cG;unfold WZ WY at cG;obtain⟨bg,hbg⟩:∃q,EG (p.2/(M:Rat))=q:=⟨_,rfl⟩
  rw[hbg]at cG;have hsn:((Q.take (i+1)).map λz=>(⟨z.1,BT (z.2/(M:Rat))⟩:Au).D)=TL++[.agg [str (sb p.1),str (sb (BT (p.2/(M:Rat))))]]:=by
   rw[Dp,hp,Cz,hTL];rfl
  rw[hTL]at hTl⊢;have n4:((((4:Nat):Int)) != 0)=true:=rfl;have n0:((((0:Nat):Int)) != 0)=false:=rfl;cases bg
  rotate_left
  ·rw[AI rfl,AI rfl]at cG
   have hany:Q.any (λp=>EG (p.2/(M:Rat)))=true:=by
    rw[List.any_eq_true];exact⟨p,Ax hp,hbg⟩
   rw[AI hany]at hN;rw[DQ]at hL;rw[hL,hN];rcases TL with _|⟨z9,TL⟩
   ·dsimp only[Je,Jf,List.nil_append]
    refine AF FN (Aa e1 kN) hmk AB AB AB AB AB ?_;refine Q4 (d':=dy) rfl rfl rfl rfl rfl rfl hLk rfl ?_;refine BO ?_;refine AF FN n4 cF cDv cG AB AB AB ?_;exact⟨_,Pc _ _,AA.out,rfl⟩
   ·dsimp only[IR,IS,List.cons_append,List.nil_append]
    refine AF FN (Aa e1 kN) hmk AB AB AB AB AB ?_;refine Q4 (d':=dy) rfl rfl rfl rfl rfl rfl hLk rfl ?_;refine BO ?_;refine AF FN n4 cF cDv cG AB AB AB ?_;exact⟨_,Pc _ _,AA.out,rfl⟩
  rw[AH (by decide),AH (by decide)]at cG;have hB2:∀w∈Q.take (i+1),EG (w.2/(M:Rat))=false:=λw hw=>by
   rw[Dp,hp]at hw;rcases Bp.1 hw with h|h
   ·exact hB w h
   ·have:w=p:=by simpa using h
    rw[this];exact hbg
  rcases TL with _|⟨z9,TL⟩
  ·dsimp only[Je,Jf,List.nil_append]
   refine AF FN (Aa e1 kN) hmk AB AB AB AB AB ?_;refine Q4 (d':=dy) rfl rfl rfl rfl rfl rfl hLk rfl ?_;refine BO ?_;refine AF FN (Aa n0 wi) cF cDv cG AB AB AB ?_;exact⟨(i+1,_,_),⟨h2,hB2⟩,by dsimp only;omega,by(dsimp only;rw[hsn];exact AK)⟩
  ·dsimp only[IR,IS,List.cons_append,List.nil_append]
   have htk:List.take (TL.length+1) (z9::TL)=z9::TL:=by simp
   rw[Bu]at hTl;have hb64:TL.length+1<64:=by omega
   refine AF FN (Aa e1 kN) hmk AB AB AB AB AB ?_;refine Q4 (d':=dy) rfl rfl rfl rfl rfl rfl hLk rfl ?_;refine BO ?_;refine AF FN (Ao n0 wi htk) cF cDv cG AB AB AB ?_;exact⟨(i+1,_,_),⟨h2,hB2⟩,by dsimp only;omega,by(dsimp only;rw[hsn,O0];exact AK)⟩
 have e1:=Ch h2;have wi:=Cc (i:=i) (by omega);obtain⟨x,hxi⟩:=CO h2;obtain⟨x1,x2,x3⟩:=hx x (Ax hxi);have hm:(l.map AE.D)[i]?=some (.agg [str (sb x.grain),i64 x.mass,.sl false 2 (x.shs.map Au.D)]):=by rw[Ay,hxi];rfl
 have es:(((x.shs.map Au.D).length:Nat):Int)=(x.shs.length:Int):=by rw[Ab]
 refine AF FN (Ao e1 es kN) hm AB AB AB AB AB ?_;obtain⟨ga,hga⟩:∃g,n1+1+1+1=g:=⟨_,rfl⟩
 refine HH (α:=Nat×DU×Obj×Nat) (λp=>⟨[(0,AV b l),(2,.optr 0 0 3 0 0),(4,i64 (AZ l)),(6,.prim (.map (some it))),(8,.optr 702 (n1+1+1+1) 3 0 0),(29,AV b l),(30,i64 (l.length:Int)),(31,i64 (i:Int)),(36,.sl false 2 (x.shs.map Au.D)),(37,i64 (x.shs.length:Int)),(38,i64 (p.1:Int))],[⟨702,n1+1+1+1,53,3,[.agg [str (sb x.grain),i64 x.mass,.sl false 2 (x.shs.map Au.D)]]⟩,⟨0,0,53,3,[.agg [.prim (.string ⟨#[]⟩),.prim (.int .i64 0),.prim (.slice none 0 0)]]⟩],p.2.2.2⟩) (λp=>x.shs.length-p.1)
  (λp F=>p.1<=x.shs.length/\DP C0 F0 F [⟨400,11,p.2.2.1⟩]/\F.r0 400 11=some it/\Id F p.2.2.1 p.2.1/\MQ (320*i+5*p.1) (G5 x p.1 (CU (l.take i))) p.2.1) (0,m,o,_) ⟨BW _,hO,hr0,hM,hQ⟩ AK ?_
 clear hO hr0 hM hQ;rintro⟨j,m2,o2,n2⟩ F ⟨hj,hO,hr0,hM,hQ⟩;dsimp only at hj hO hr0 hM hQ⊢;rw[hga];rcases BE j x.shs.length with h3|h3
 rotate_left
 ·have e2:=Cg h3
  have:j=x.shs.length:=by omega
  subst this;rw[<-Qy l i hxi]at hQ;refine AF FN (Aa e2 wi) AB AB AB AB AB AB ?_;exact⟨(i+1,m2,o2,_),⟨h2,hO,hr0,hM,hQ.mono (by dsimp only;omega)⟩,by dsimp only;omega,AK⟩
 have e2:=Ch h3;have wj:=Cc (i:=j) (by omega);obtain⟨s,hsj⟩:=CO h3;obtain⟨s1,s2,s3⟩:=x3 s (Ax hsj);have hms:(x.shs.map Au.D)[j]?=some (.agg [str (sb s.lot),str (sb s.part)]):=by rw[Ay,hsj];rfl
 have hsn:=O4 x j (CU (l.take i)) hsj;have fP:FR (Cd s.part) (G4 s.part) 3:=⟨(SB s3).is,jX s3 s2⟩
 have fM:FR ((x.mass:Int):Rat) ⟨Ac x.mass,1⟩ 1:=Rs (by unfold Sm at x2;omega);have c1:=SR (by omega) s3;have c2:=QG x.mass x2;have c3:=Vc fP fM (by decide);have fZ:FR (Cd s.part*(x.mass:Rat)) (JI (G4 s.part) ⟨Ac x.mass,1⟩) 4:=VE fP fM;obtain⟨z,hz⟩:∃z,JI (G4 s.part) ⟨Ac x.mass,1⟩=z:=⟨_,rfl⟩
 rw[hz]at c3 fZ;obtain⟨d1,hd1⟩:∃d,(G4 s.part).D=d:=⟨_,rfl⟩
 obtain⟨d2,hd2⟩:∃d,(⟨Ac x.mass,1⟩:GF).D=d:=⟨_,rfl⟩
 have pd1:AA d1:=by rw[<-hd1];exact AJ
 have pd2:AA d2:=by rw[<-hd2];exact AJ
 rw[hd1]at c1 c3;rw[hd2]at c2 c3;refine sZ 900 ?_;refine AG e2 ?_;refine AC.seq ?_;refine AO ?_;refine An ?_;refine AC.seq ?_;refine AC.block ?_;refine sZ 1000 ?_;refine By kT hms ?_;refine AG kB ?_;refine AC.seq ?_;refine CN 1100 [0,1,2,3,4,5,6,7] [8] ?_;refine AG kB ?_;refine Bf.same _ (c1) AJ ?_;refine BU ?_;refine AG kB ?_;refine Bf.same _ (c2) AJ ?_;refine BU ?_;refine AG kB ?_;refine Bf.same _ (c3) AJ ?_;refine BU ?_;refine AG kB ?_;refine AC.seq ?_;refine AC.seq ?_;refine In (by kernel_rfl) ?_;change Bk _ _ _ _ _ ([0,1,2]++(3::([4,5,6,7,8,9]++[]))) _ _;refine GG w1 1200 [0,1,2] _ ?_;refine AG kB ?_;refine Bk.look (xo:=⟨400,11,o2⟩) (l:=m2) w1 rfl rfl rfl rfl rfl rfl hO CF hr0 hM ?_;rcases hQ.look s.lot with⟨q1,q2⟩|⟨r,y,q1,q2,q3⟩
 ·rw[YE q1]
  refine GG w1 1200 [4,5,6,7,8,9] [] ?_;refine AG kB ?_;refine Bk.nil ?_;refine BO ?_;refine sZ 1300 ?_;refine AG kB ?_;refine AO ?_;refine An ?_;refine In (by kernel_rfl) ?_;change Bk _ _ _ _ _ ([0,1,2,3]++(4::[])) _ _;refine GG w1 1500 [0,1,2,3] _ ?_;refine AG kB ?_;refine Bk.put (l:=m2) w1 rfl rfl rfl rfl rfl rfl hO hr0 hM (λF3 o3 hto3 hO3 hr3 hM3=>Bk.nil ?_);refine BO ?_;have hQ2:MQ (320*i+5*(j+1)) (G5 x (j+1) (CU (l.take i))) (GC (sb s.lot) z.D m2):=by
   rw[hsn];unfold Kl;rw[q2];exact MQ.set s.lot ⟨fZ.is,fZ.rk.mono (by omega)⟩ (hQ.mono (by omega))
  refine AF FN wj AB AB AB AB AB AB ?_;exact⟨(j+1,GC (sb s.lot) z.D m2,o3,_),⟨h3,hO3,hr3,hM3,hQ2⟩,by dsimp only;omega,AK⟩
 ·rw[YF q1]
  refine GG w1 1200 [4,5,6,7,8,9] [] ?_;refine AG kB ?_;refine Bk.nil ?_;have c4:=SM fZ q3 (by omega);have fA:=Ru fZ q3;obtain⟨z2,hz2⟩:∃z2,Kg z y=z2:=⟨_,rfl⟩
  rw[hz2]at c4 fA;refine BO ?_;refine sZ 1300 ?_;refine AG kB ?_;refine AO ?_;refine As 1400 ?_;refine AG kB ?_;refine cI c4 ?_;refine AG kB ?_;refine In (by kernel_rfl) ?_;change Bk _ _ _ _ _ ([0,1,2,3]++(4::[])) _ _;refine GG w1 1500 [0,1,2,3] _ ?_;refine AG kB ?_;refine Bk.put (l:=m2) w1 rfl rfl rfl rfl rfl rfl hO hr0 hM (λF3 o3 hto3 hO3 hr3 hM3=>Bk.nil ?_);refine BO ?_;have hQ2:MQ (320*i+5*(j+1)) (G5 x (j+1) (CU (l.take i))) (GC (sb s.lot) z2.D m2):=by
   rw[hsn];unfold Kl;rw[q2];exact MQ.set s.lot ⟨fA.is,fA.rk.mono (by omega)⟩ (hQ.mono (by omega))
  refine AF FN wj AB AB AB AB AB AB ?_;exact⟨(j+1,GC (sb s.lot) z2.D m2,o3,_),⟨h3,hO3,hr3,hM3,hQ2⟩,by dsimp only;omega,AK⟩
abbrev ot:Dr:=[(1,[0,1,2,3,4,5],[6,7])]
open Go.Proofs Go.RowKit Go.Sort
set_option maxRecDepth 20000
set_option maxHeartbeats 4000000
theorem e1D {C:BA}{f sz:Nat}{ds:List D}{Φ:D->Prop}(h1:Af C f (CK::ds) Φ)(h2:Af C f (.sl true sz []::ds) Φ):Af C f (.sl false sz []::ds) Φ:=by
 refine⟨h1.1,λX w vs a b c e g=>?_⟩;have g0:=g 0 _ rfl;generalize hv:vs.getD 0 undef=v at g0;cases g0 with
 |nil=>
  refine h1.2 X w vs a b c e λi d hd=>?_
  match i with
  | 0=>cases hd;rw[hv];exact .prim _
  |i+1=>exact g (i+1) d hd
 |emp a0=>
  refine h2.2 X w vs a b c e λi d hd=>?_
  match i with
  | 0=>cases hd;rw[hv];exact .emp a0
  |i+1=>exact g (i+1) d hd
 |sl f hl hc hO hb hz hcell ho h=>
  refine h2.2 X w vs a b c e λi d hd=>?_
  match i with
  | 0=>cases hd;rw[hv];exact .sl f hl hc hO hb hz hcell ho h
  |i+1=>exact g (i+1) d hd
theorem Fx {H Hf:Hp}{k g T sz:Nat}{l:List D}(he:Hp.get H k=some ⟨k,g,T,sz,l⟩)(hf:Hp.get Hf k=none:=by rfl):Fz H Hf (.osl k g sz 0 l.length) (.sl false sz l):=by
 refine .osl (e:=⟨k,g,T,sz,l⟩) he hf rfl rfl (by simp) (by simp) (λj d d' h1 h2=>?_) λj d d' q c c' h1 h2 h3 h4=>?_
 ·rw[BV]at h1;rw[h1]at h2;cases h2;rfl
 ·rw[BV]at h1;rw[h1]at h2;cases h2;rw[h3]at h4;cases h4;exact Fz.refl _
theorem qG (s:List Au)(hl:s.length<=1000000):AL C0 107 [CY false s] (CY false s):=by
 unfold CY;rcases s with _|⟨z,s⟩
 ·refine e1D ?_ ?_
  ·refine Af.walk w1 SP rfl λF=>?_
   refine AF AY kB AB AB AB AB AB AB ?_;exact⟨_,.nil 2,AA.out,rfl⟩
  ·refine Af.walk w1 SP rfl λF=>?_
   refine AF AY kB AB AB AB AB AB AB ?_;exact⟨_,.osl (e:=⟨302,5,68,2,[]⟩) rfl rfl rfl rfl (Ar _) rfl (λj d d' h=>by simp at h) (λj d d' q c c' h=>by simp at h),AA.out,rfl⟩
 ·refine Af.walk w1 SP rfl λF=>?_
  obtain⟨T,hT⟩:∃T,List.map Au.D (z::s)=T:=⟨_,rfl⟩
  have pT:AA (.sl false 2 T):=by rw[<-hT];exact AJ
  have hne:T≠[]:=by rw[<-hT];simp
  have hlT:T.length<=1000000:=by rw[<-hT,Ab];exact hl
  rw[hT];refine AF AY hne AB AB AB AB AB AB ?_;exact⟨_,by rw[BV];exact Fx rfl,pT.out,rfl⟩
theorem Pl (x:AE)(m:Int)(hl:x.shs.length<=1000000):AL C0 71 [x.D,i64 m] ((⟨x.grain,m,x.shs⟩:AE).D):=by
 refine Af.walk w1 gh rfl λF=>?_
 have cC:=qG x.shs hl;unfold AE.D;dsimp only;unfold CY at cC⊢;obtain⟨SD,hSD⟩:∃d,x.shs.map Au.D=d:=⟨_,rfl⟩
 have pS:AA (.sl false 2 SD):=by rw[<-hSD];exact AJ
 rw[hSD]at cC⊢;refine AF AY kB cC AB AB AB AB AB ?_;exact AM rfl AA.out
theorem no (b:Bool)(l:List AE)(hl:l.length<=1000000)(h0:l≠[])(H:Hp)(n:Nat):CX C0 58 [AV b l] H n
  (λd H' n'=>∃g,d=.osl 302 g 3 0 l.length/\H'=⟨302,g,53,3,l.map AE.D⟩::H/\n'=n+7):=by
 refine CX.walk w1 gZ rfl λF=>?_
 unfold AV;obtain⟨T,hT⟩:∃T,l.map AE.D=T:=⟨_,rfl⟩
 have pT:AA (.sl b 3 T):=by rw[<-hT];exact AJ
 have hne:T≠[]:=by rw[<-hT];simpa using h0
 have hlT:T.length<=1000000:=by rw[<-hT,Ab];exact hl
 rw[hT,<-Ab (f:=AE.D),hT];cases b
 all_goals
  refine sZ 0 ?_;refine AG kB ?_;refine AC.seq ?_;refine sZ 100 ?_;refine AG kB ?_;refine AO ?_;refine An ?_;refine sZ 300 ?_;refine AG kB ?_;refine Aj ?_;exact⟨_,by rw[BV],rfl,rfl⟩
theorem xF (b:Bool)(x y:AE)(l:List AE):AL C0 106 [x.D,  .pptr (.sl b 3 ((y::l).map AE.D))] (Al (!BJ (sb x.grain) (sb y.grain))):=by
 refine Af.walk w1 b7 rfl λF=>?_
 have hm:((y::l).map AE.D)[0]?=some (.agg [str (sb y.grain),i64 y.mass,.sl false 2 (y.shs.map Au.D)]):=rfl;obtain⟨T,hT⟩:∃T,(y::l).map AE.D=T:=⟨_,rfl⟩
 have pT:AA (.sl b 3 T):=by rw[<-hT];exact AJ
 obtain⟨S,hS⟩:∃S,x.shs.map Au.D=S:=⟨_,rfl⟩
 have pS:AA (.sl false 2 S):=by rw[<-hS];exact AJ
 rw[hT]at hm⊢;unfold AE.D CY;rw[hS];refine AF ot kB hm AB AB AB AB AB ?_;exact AM rfl AA.out
theorem xI (b:Bool)(l:List AE)(c:D)[pc:AA c](p:AE->Bool)(hl:l.length<=1000000)(hc:∀x∈l,AL C0 106 [x.D,c] (Al (p x))):AL C0 135 [AV b l,.clo (.func 106) [] [c]] (i64 (Ki p l)):=by
 refine Af.walk w1 dO rfl λF=>?_
 have el:(((l.map AE.D).length:Nat):Int)=(l.length:Int):=by rw[Ab]
 refine AF AY el AB AB AB AB AB AB ?_;refine AC.loop (α:=Nat×Nat) (λp=>⟨[(0,AV b l),(1,.clo (.func 106) [] [c]),(7,i64 l.length),(8,i64 (p.1:Int))],[],p.2⟩) (λp=>l.length-p.1) (λq=>q.1<=l.length/\∀(j:Nat) (x:AE),j<q.1->l[j]?=some x->p x=false) (0,_) ⟨BW _,λj x hj=>Ak hj (HK j)⟩ AK ?_;rintro⟨i,n⟩ F ⟨hi,ha⟩;dsimp only at hi ha⊢;rcases BE i l.length with h2|h2
 rotate_left
 ·have e1:=Cg h2
  have:i=l.length:=by omega
  subst this;refine AF AY e1 AB AB AB AB AB AB ?_;exact AM (by rw[UN ha]) AA.out
 have e1:=Ch h2;have wi:=Cc (i:=i) (by omega);obtain⟨x,hx⟩:=CO h2;have hm:(l.map AE.D)[i]?=some (.agg [str (sb x.grain),i64 x.mass,.sl false 2 (x.shs.map Au.D)]):=by rw[Ay,hx];rfl
 have cn:=hc x (Ax hx);unfold AE.D at cn;cases hb:p x
 ·rw[hb]at cn
  refine AF AY (Ao e1 wi kN) hm cn AB AB AB AB ?_;refine⟨(i+1,_),⟨h2,λj z hj hjz=>?_⟩,by dsimp only;omega,AK⟩;rcases BE j i with h|h
  ·exact ha j z h hjz
  ·have:j=i:=by dsimp only at hj;omega
   subst this;rw[hx]at hjz;cases hjz;exact hb
 ·rw[hb]at cn
  refine AF AY (Ao e1 wi kN) hm cn AB AB AB AB ?_;exact AM (by rw[U4 hx hb ha]) AA.out
theorem xG (b:Bool)(l:List AE)(c:D)[pc:AA c](p:AE->Bool)(hl:l.length<=1000000)(hc:∀x∈l,AL C0 106 [x.D,c] (Al (p x))):AL C0 105 [AV b l,.clo (.func 106) [] [c]] (Al (l.any p)):=by
 refine Af.walk w1 b6 rfl λF=>?_
 have c1:=xI b l c p hl hc;have e1:=U5 p l;refine AF AY e1 c1 AB AB AB AB AB ?_;exact AM rfl AA.out
theorem UP (b:Bool)(l:List AE)(hl:l.length<=1000000):AL C0 70 [AV b l] (i64 (if CI l then 0 else 16:Nat)):=by
 refine Af.walk w1 gf rfl λF=>?_
 have cH:AL C0 105 [AV b l,.clo (.func 106) [] [.pptr (AV b l)]] (Al (!CI l)):=by
  have:=xG b l (.pptr (AV b l)) (λx=>!BJ (sb x.grain) (sb (CT l 0).grain)) hl λx hx=>by
   rcases l with _|⟨y,l⟩
   ·cases hx
   ·exact xF b x y l
  have he:(l.any λx=>!BJ (sb x.grain) (sb (CT l 0).grain)) = !CI l:=by
   unfold CI;rw[List.not_all_eq_any_not]
  rwa [he]at this
 have cW:=GQ (!CI l) 16;refine AF AY kB cH cW AB AB AB AB ?_;refine BF.own _ (M9 cH rfl (λi a d h1 h2=>by
  match i with
  | 0=>cases h1;cases h2;exact .refl _ _
  | 1=>cases h1;cases h2;exact .clo1 (.ptr rfl rfl rfl rfl)
  |n+2=>cases h1) AJ (.prim _)) ?_
 rintro d H' n' ⟨rfl,rfl,rfl⟩;refine AF AY kB cW AB AB AB AB AB ?_;exact AM (by cases CI l<;>rfl) AA.out
theorem Ia {l:List AE}(h:Bw l=0):l.length<=64/\(∀x∈l,Ct x=0)/\AZ l<=999999999:=by
 unfold Bw at h;split at h
 ·cases h
 ·split at h
  ·rename_i h3;exact Ak h h3
  ·split at h
   ·cases h
   ·refine⟨by omega,λx hx=>?_,by omega⟩
    obtain⟨j,hj⟩:=L3.1 hx
    have:=Rg (f:=λi=>Ct (CT l i)) (n:=l.length) (by omega) j (BS.1 hj).1
    rwa [GO hj]at this
theorem YL {l:List AE}(hf:∀x∈l,x.lite)(hz:∀x∈l,Ct x=0)(hl:l.length<=64):(∀x∈l,x.ok)/\H8 (λk=>k.length<=1000) 4096 (CU l):=by
 have hx:∀x∈l,x.ok:=λx h=>(fH (hf x h) (hz x h)).1
 exact⟨hx,(T6 λx h=>⟨(hx x h).1,λs hs=>((hf x h).2 s hs).1⟩).mono (by omega)⟩
def Sk (l:List AE):Nat:=if Bw l≠0 then Bw l else JB (CU l)
def Sl (l:List AE):B5:=if Bw l≠0 then[]else KV (CU l)
theorem zw (b:Bool)(l:List AE)(hl:l.length<=1000000)(hf:∀x∈l,x.lite):AL C0 19 [AV b l] (.tup [.sl false 2 ((Sl l).map C8),i64 (Sk l:Nat)]):=by
 refine Af.walk w1 gA rfl λF=>?_
 have cP:=M2 b l (by omega) λx hx=>(hf x hx).1
 have hR:Sl l=if Bw l≠0 then[]else KV (CU l):=rfl
 have hE:Sk l=if Bw l≠0 then Bw l else JB (CU l):=rfl
 rcases Nat.decEq (Bw l) 0 with g|g
 ·have e1:=G9 g
  rw[AI g]at hR hE;rw[hR,hE];refine AF AY e1 cP AB AB AB AB AB ?_;exact⟨_,E9 (.nil 2) (.refl _),AA.out,rfl⟩
 have e1:=HA g;rw[AH (λh=>h g)]at hR hE;rw[hR,hE];obtain⟨g1,g2,g3⟩:=Ia g;obtain⟨hx,hK⟩:=YL hf g2 g1;have cL:=zy b l (by omega) hx;refine AF AY e1 cP AB AB AB AB AB ?_;refine BF.prop _ _ (FH.refl _) cL AJ ?_;rintro d ⟨m,rfl,hQ⟩;have cA:=ZU 32000 (by omega) (CU l) m hQ (BY hK.len (by omega)) hK.nd;have pM:AA (mapD m):=⟨hQ.mapD⟩
 unfold KZ at cA;obtain⟨M,hM⟩:∃M,mapD m=M:=⟨_,rfl⟩
 rw[hM]at cA pM⊢;refine AF AY kB cA AB AB AB AB AB ?_;exact AM rfl AA.out
abbrev U2:Dr:=[(6,[0,1,2,3,4,5,6,7,8,9,10,11,12,13,14,15,16,17,18,19,20,21],[22,23])]
abbrev Uz:Dr:=[(6,[0,1,2,3,4,5,6,7,8,9,10,11,12,13,14,15,16,17,18,19],[20,21,22])]
open Go.Proofs Go.RowKit
set_option maxRecDepth 20000
set_option maxHeartbeats 4000000
theorem mr (b1 b2:Bool)(S:List Au)(hl:S.length<=1000000):AL C0 27 [CY b1 S,CY b2 S] (Al true):=by
 refine Af.walk w1 WJ rfl λF=>?_
 have el:(((S.map Au.D).length:Nat):Int)=(S.length:Int):=by rw[Ab]
 have hne:((S.length:Int) != (S.length:Int))=false:=bne_self_eq_false _;refine AF U2 (Aa el hne) AB AB AB AB AB AB ?_;refine AC.loop (α:=Nat×Nat) (λp=>⟨[(0,CY b1 S),(1,CY b2 S),(5,i64 (p.1:Int))],[],p.2⟩) (λp=>S.length-p.1) (λq=>q.1<=S.length) (0,_) (BW _) AK ?_;rintro⟨i,n⟩ F hi;dsimp only at hi⊢;rcases BE i S.length with h2|h2
 rotate_left
 ·have e1:=Cg h2
  refine AF U2 (Aa el e1) AB AB AB AB AB AB ?_;exact AM rfl AA.out
 have e1:=Ch h2;have wi:=Cc (i:=i) (by omega);obtain⟨x,hx⟩:=CO h2;have hm:(S.map Au.D)[i]?=some (.agg [str (sb x.lot),str (sb x.part)]):=by rw[Ay,hx];rfl
 have s1:=MJ (sb x.lot);have s2:=MJ (sb x.part);refine AF U2 (CM el e1 wi s1 s2 kN (Aa kT kF)) hm AB AB AB AB AB ?_;exact⟨(i+1,_),h2,by dsimp only;omega,AK⟩
theorem ni (x:AE)(hl:x.shs.length<=1000000):AL C0 47 [x.D,x.D] (Al true):=by
 refine Af.walk w1 WN rfl λF=>?_
 have c:=mr false false x.shs hl;have s1:=MJ (sb x.grain);unfold AE.D;unfold CY at c⊢;obtain⟨S,hS⟩:∃S,x.shs.map Au.D=S:=⟨_,rfl⟩
 have pS:AA (.sl false 2 S):=by rw[<-hS];exact AJ
 rw[hS]at c⊢;refine AF AY (Ao s1 kT kF) c AB AB AB AB AB ?_;exact AM rfl AA.out
theorem VP (b1 b2:Bool)(l:List AE)(hl:l.length<=1000000)(hs:∀x∈l,x.shs.length<=1000000):AL C0 13 [AV b1 l,AV b2 l] (Al true):=by
 refine Af.walk w1 fp rfl λF=>?_
 have el:(((l.map AE.D).length:Nat):Int)=(l.length:Int):=by rw[Ab]
 have hne:((l.length:Int) != (l.length:Int))=false:=bne_self_eq_false _;refine AF Uz (Aa el hne) AB AB AB AB AB AB ?_;refine AC.loop (α:=Nat×Nat) (λp=>⟨[(0,AV b1 l),(1,AV b2 l),(5,i64 (p.1:Int))],[],p.2⟩) (λp=>l.length-p.1) (λq=>q.1<=l.length) (0,_) (BW _) AK ?_;rintro⟨i,n⟩ F hi;dsimp only at hi⊢;rcases BE i l.length with h2|h2
 rotate_left
 ·have e1:=Cg h2
  refine AF Uz (Aa el e1) AB AB AB AB AB AB ?_;exact AM rfl AA.out
 have e1:=Ch h2;have wi:=Cc (i:=i) (by omega);obtain⟨x,hx⟩:=CO h2;have hm:(l.map AE.D)[i]?=some (.agg [str (sb x.grain),i64 x.mass,.sl false 2 (x.shs.map Au.D)]):=by rw[Ay,hx];rfl
 have c:=ni x (hs x (Ax hx));have s1:(x.mass != x.mass)=false:=bne_self_eq_false _;unfold AE.D CY at c;obtain⟨S,hS⟩:∃S,x.shs.map Au.D=S:=⟨_,rfl⟩
 have pS:AA (.sl false 2 S):=by rw[<-hS];exact AJ
 rw[hS]at c hm;refine AF Uz (CM el e1 wi s1 kN kT kF) hm c AB AB AB AB ?_;exact⟨(i+1,_),h2,by dsimp only;omega,AK⟩
def FQ (p:List UInt8×List UInt8):D:=.agg [str (sb p.1),str (sb p.2)]
instance  (p:List UInt8×List UInt8):AS (FQ p):=by unfold FQ;exact AJ
instance  (p:List UInt8×List UInt8):AA (FQ p):=by unfold FQ;exact AJ
theorem xK (m k:Int):AL C0 10 [i64 m,i64 k] (i64 (if m<k then 3 else 0)):=by
 refine Af.walk w1 zK rfl λF=>?_
 by_cases h:m<k
 ·have e:=Aw h
  rw[AI h];refine AF AY e AB AB AB AB AB AB ?_;exact AM rfl AA.out
 ·have e:=Az h
  rw[AH h];refine AF AY e AB AB AB AB AB AB ?_;exact AM rfl AA.out
theorem fJ (v:List Int)(hl:v.length<=1000):AL C0 8 [.sl true 1 (v.map λe=>i64 e)] (i64 (Ck v)):=by
 refine Af.walk w1 d9D rfl λF=>?_
 have el:(((v.map λe=>i64 e).length:Nat):Int)=(v.length:Int):=by rw[Ab]
 refine AF AY el AB AB AB AB AB AB ?_;refine AC.loop (α:=Nat×Nat) (λp=>⟨[(5,.sl true 1 (v.map λe=>i64 e)),(6,i64 (v.length:Int)),(7,i64 (p.1:Int))],[],p.2⟩) (λp=>v.length-p.1) (λp=>p.1<=v.length/\∀(j:Nat) (e:Int),j<p.1->v[j]?=some e->e=0) (0,_) ⟨BW _,λj e h=>Ak h (HK j)⟩ AK ?_;rintro⟨i,m⟩ F ⟨hi,ha⟩;dsimp only at hi ha⊢;rcases BE i v.length with h2|h2
 rotate_left
 ·have e1:=Cg h2
  have:i=v.length:=by omega
  subst this;have hd:Ck v=0:=by rw[Qt ha,JS];rfl
  rw[hd];refine AF AY e1 AB AB AB AB AB AB ?_;exact AM rfl AA.out
 have e1:=Ch h2;have wi:=Cc (i:=i) (by omega);obtain⟨l,hl'⟩:=CO h2;have hm:(v.map λe=>i64 e)[i]?=some (i64 l):=by rw[Ay,hl'];rfl
 by_cases g:l=0
 ·have e5:(l != 0)=false:=by rw[g];rfl
  refine AF AY (Bb e1 wi e5 kN) hm AB AB AB AB AB ?_;exact⟨(i+1,_),⟨h2,λj e hj he=>by
   rcases Ko.1 hj with q|q
   ·exact ha j e q he
   ·subst q;rw[hl']at he;cases he;exact g⟩,by dsimp only;omega,AK⟩
 ·have e5:(l != 0)=true:=FW g
  have hd:Ck v=l:=by
   rw[Qt ha,Et h2];rw[Bs h2]at hl';rw[GV hl'];exact AI g
  rw[hd];refine AF AY (Bb e1 wi e5 kN) hm AB AB AB AB AB ?_;exact AM rfl AA.out
def Au.shB (s:Au):Bool:=decide (s.lot.length<=100)&&decide (s.part.length<=14)
def AE.shB (x:AE):Bool:=decide (x.grain.length<=100)&&(decide (x.shs.length<=8)||decide (64<x.shs.length))&&decide (x.shs.length<=80)&&x.shs.all Au.shB
def HV (l:List AE):Bool:=l.all AE.shB&&(decide (l.length<=8)||(decide (64<l.length)&&decide (l.length<=80)))
theorem Ds.clo2 {H:Hp}{fn:Fn}{c c' x x':D}(h:Ds H c c')(k:Ds H x x'):Ds H (.clo fn [] [c,x]) (.clo fn [] [c',x']):=λC F ρ w m hO hN v hv=>by
 cases hv with
 |clo hf hc h1 h2=>
  refine .clo hf (by simpa using hc) (λi d hd=>by simp at hd) λi d hd=>?_
  match i with
  | 0=>
   simp at hd;subst hd;exact h C F ρ w m hO hN _ (h2 0 _ rfl)
  | 1=>
   simp at hd;subst hd;exact k C F ρ w m hO hN _ (h2 1 _ rfl)
  |i+2=>simp at hd
theorem Ul (b bk:Bool)(T:List D)[pT:AA (.sl b 3 T)]:AL C0 76 [.sl b 3 T,Al bk] (.clo (.func 109) [] [.pptr (.sl b 3 T),.pptr (Al bk)]):=by
 refine e1E w1 gm rfl λF=>?_
 have hp:CE (.clo (.func 109) [] [.pptr (.sl b 3 T),.pptr (Al bk)]):=(AJ:AA (.clo (.func 109) [] [.pptr (.sl b 3 T),.pptr (Al bk)])).out;refine fR 0 ?_;refine fR 100 ?_;refine Aj ?_;exact⟨_,.clo2 (.ptr rfl rfl rfl rfl) (.ptr rfl rfl rfl rfl),hp,rfl⟩
theorem We {E:GP}{l:Nat}{R:LR}(hE:GP.ok E)(b bk:Bool)(T:List D)[pT:AA (.sl b 3 T)](hT:∀x∈T,∃a c d,x=.agg [a,c,d])(hl:T.length<=1000000)
  {σ:Type} (S:Nat->σ->Hp) (P:Nat->σ->Prop) (c:Code) (Z:Hp->Prop) (a0:σ) (h0:P 0 a0) (n0:Nat)
  (hY:∀k a x n,P k a->k<T.length->T[if bk then T.length-1-k else k]?=some x->R7 C0 E l R [x] (S k a) n (λj H' _=>(j=none/\∃a',P (k+1) a'/\Cs H' (S (k+1) a') H' (S (k+1) a'))\/(j=some c/\Z H'))):
  Pi C0 E 109 [.clo (.yield l) [] [],.pptr (.sl b 3 T),.pptr (Al bk)] l R (S 0 a0) n0 (λj _ H' _=>(j=none/\∃a,P T.length a/\H'=S T.length a)\/(j=some c/\Z H')):=by
 refine Pi.walk w1 hE ck rfl λB F hR=>?_
 obtain⟨N,hN⟩:∃N,T.length=N:=⟨_,rfl⟩
 rw[hN]at hY hl⊢;have el:((T.length:Nat):Int)=(N:Int):=by rw[hN]
 refine sZ 0 ?_;refine AG el ?_;refine AC.block ?_;refine HH (α:=Nat×σ×Nat) (λp=>⟨[(0,.clo (.yield l) [] []),(1,.pptr (.sl b 3 T)),(2,.pptr (Al bk)),(6,i64 (N:Int)),(7,i64 (p.1:Int))],S p.1 p.2.1,p.2.2⟩) (λp=>N-p.1)
  (λp F=>Mr C0 E B F l R/\p.1<=N/\P p.1 p.2.1) (0,a0,_) ⟨hR,BW _,h0⟩ AK ?_
 clear hR;rintro⟨i,a,m⟩ F ⟨hR,h1,hP⟩;dsimp only at h1 hR hP⊢;refine sR 100 ?_;refine AC.seq ?_;refine AO ?_
 (refine B1 (λh8=>?_) (λh8=>?_))<;>(try simp only[Bq,B0]at h8)<;>(try simp only[h8])
 ·have hi:i<N:=by
   have:=DN h8
   omega
  have a3:IntKind.i64.wrap ((i:Int)+1)=((i+1:Nat):Int):=wI;have a4:IntKind.i64.wrap ((N:Int)-1)=((N-1:Nat):Int):=by rw[wI];omega
  have a5:IntKind.i64.wrap (((N-1:Nat):Int)-(i:Int))=((N-1-i:Nat):Int):=by rw[wI];omega
  have hq:(if bk then N-1-i else i)<T.length:=by rw[hN];split<;>omega
  obtain⟨x,hx⟩:∃x,T[if bk then N-1-i else i]?=some x:=⟨_,Bs hq⟩
  have hy:=λn=>hY i a x n hP hi hx
  obtain⟨x1,x2,x3,rfl⟩:=hT x (Ax hx);refine An ?_;refine AC.seq ?_;refine AC.block ?_;refine sR 200 ?_;refine AC.seq ?_;refine sR 300 ?_;cases bk
  ·replace hx:T[i]?=some (.agg [x1,x2,x3]):=hx
   refine AO ?_;refine An ?_;refine AC.seq ?_;refine jL w1 500 [0,1,2,3,4] 5 [6] rfl (by kernel_rfl) hR ?_;refine BU ?_;refine By kT hx ?_;refine BM ⟨rfl,trivial⟩ ?_;refine BU ?_;refine⟨rfl,_,hy _,?_,?_⟩
   ·rintro H2 n2 (⟨_,a',hP',hf⟩|⟨h,-⟩)
    rotate_left
    ·cases h
    refine BM (by exact CD) ?_;refine BO ?_;refine AO ?_;refine An ?_;refine As 600 ?_;refine AX a3 ?_;exact⟨(i+1,a',_),⟨hR,hi,hP'⟩,(by dsimp only;omega),AK (a:=hf)⟩
   ·rintro c2 H2 n2 (⟨h,-⟩|⟨h,hZ⟩) F2 hst
    ·cases h
    cases h;refine BU ?_;refine AO ?_;refine AC.weak ⟨[],H2,_⟩ AK ?_;refine AC.ret ?_;exact⟨_,hst,trivial,.inr ⟨rfl,hZ⟩⟩
  ·replace hx:T[N-1-i]?=some (.agg [x1,x2,x3]):=hx
   refine AO ?_;refine As 400 ?_;refine AX (Ao a4 a5 el) ?_;refine AC.seq ?_;refine jL w1 500 [0,1,2,3,4] 5 [6] rfl (by kernel_rfl) hR ?_;refine BU ?_;refine By kT hx ?_;refine BM ⟨rfl,trivial⟩ ?_;refine BU ?_;refine⟨rfl,_,hy _,?_,?_⟩
   ·rintro H2 n2 (⟨_,a',hP',hf⟩|⟨h,-⟩)
    rotate_left
    ·cases h
    refine BM (by exact CD) ?_;refine BO ?_;refine AO ?_;refine An ?_;refine As 600 ?_;refine AX a3 ?_;exact⟨(i+1,a',_),⟨hR,hi,hP'⟩,(by dsimp only;omega),AK (a:=hf)⟩
   ·rintro c2 H2 n2 (⟨h,-⟩|⟨h,hZ⟩) F2 hst
    ·cases h
    cases h;refine BU ?_;refine AO ?_;refine AC.weak ⟨[],H2,_⟩ AK ?_;refine AC.ret ?_;exact⟨_,hst,trivial,.inr ⟨rfl,hZ⟩⟩
 ·have hi:i=N:=by
   have:=Do h8
   omega
  subst hi;refine CG ?_;exact⟨none,hR.stat,trivial,.inl ⟨rfl,a,hP,rfl⟩⟩
def AE.w (x:AE)(m:Int):AE:=⟨x.grain,m,x.shs⟩
def EZ:List AE->Int->List AE
 | [],_=>[]
 |x::r,m=>x.w (min x.mass m)::if m-x.mass<=0 then[]else EZ r (m-x.mass)
def IN (g1:Nat)(p:List AE×Int×Nat):Hp:=EF 408 p.2.2 53 3 (p.1.map AE.D)++[⟨100,g1,29,1,[EP 408 p.2.2 3 (p.1.map AE.D)]⟩,⟨0,0,3,1,[i64 p.2.1]⟩]
theorem ay (g1:Nat)(m:Int)(g:Nat):IN g1 ([],m,g)=[⟨100,g1,29,1,[CK]⟩,⟨0,0,3,1,[i64 m]⟩]:=rfl
theorem Uw (g1:Nat)(z:AE)(o:List AE)(m:Int)(g:Nat):IN g1 (z::o,m,g)=[⟨408,g,53,3,z.D::o.map AE.D⟩,⟨100,g1,29,1,[.osl 408 g 3 0 ((o.map AE.D).length+1)]⟩,⟨0,0,3,1,[i64 m]⟩]:=rfl
def Qk (L:List AE)(m:Int)(k:Nat)(p:List AE×Int×Nat):Prop:=p.1.length=k/\p.1++EZ (L.drop k) p.2.1=EZ L m/\0<=p.2.1/\p.2.1<=1000000000000
def Gj (bk:Bool)(l:List AE):List AE:=if bk then l.reverse else l
theorem xn (bk:Bool)(l:List AE){k:Nat}(hk:k<l.length):(l.map AE.D)[if bk then(l.map AE.D).length-1-k else k]?=((Gj bk l)[k]?).map AE.D:=by
 unfold Gj;rw[Ab,Ay];cases bk
 ·rfl
 ·simp only[if_true]
  rw[List.getElem?_reverse hk]
theorem VT (b bk:Bool)(l:List AE)(m:Int)(hl:l.length<=1000000)(hm:0<=m/\m<=1000000000000)(hx:∀x∈l,0<=x.mass/\x.mass<=1000000000)
  (ho:∀x∈l,∀m,AL C0 71 [x.D,i64 m] (x.w m).D) (R:D) [pR:AA R] (hN:AL C0 38 [AV false (EZ (Gj bk l) m)] R):
  AL C0 79 [AV b l,i64 m,Al bk] R:=by
 refine Af.walk w1 gt rfl λF=>?_
 have cV:=Ul b bk (l.map AE.D);have hT:∀x∈l.map AE.D,∃a c d,x=.agg [a,c,d]:=λx hx=>by
  obtain⟨y,-,rfl⟩:=Bx.1 hx;exact⟨_,_,_,rfl⟩
 have hoL:∀k,k<l.length->∃x,x∈l/\(Gj bk l)[k]?=some x:=λk hk=>by
  unfold Gj;cases bk
  ·exact⟨_,List.getElem_mem hk,Bs hk⟩
  ·simp only[if_true]
   rw[List.getElem?_reverse hk]
   have:l.length-1-k<l.length:=by omega
   exact⟨_,List.getElem_mem this,Bs this⟩
 have hlen:(Gj bk l).length=l.length:=by unfold Gj;cases bk<;>simp
 obtain⟨L,hL⟩:∃L,Gj bk l=L:=⟨_,rfl⟩
 have hoA:=λk (hk:k<l.length)=>xn bk l hk
 rw[hL]at hoL hoA hN hlen;unfold AV;obtain⟨T,hTT⟩:∃T,l.map AE.D=T:=⟨_,rfl⟩
 have pT:AA (.sl b 3 T):=by rw[<-hTT];exact AJ
 have hTl:T.length=l.length:=by rw[<-hTT,Ab]
 rw[hTT]at cV hT hoA⊢;refine sR 0 ?_;refine sR 100 ?_;refine AC.seq ?_;refine sR 200 ?_;refine cI cV ?_;refine AC.block ?_;have h0:Qk L m 0 ([],m,0):=⟨rfl,rfl,hm⟩
 refine AC.rangeFunc (fi:=109) (first:=[]) (captured:=[.pptr (.sl b 3 T),.pptr (Al bk)]) (Ψ:=λj _ H' _=>(j=none/\∃a,Qk L m T.length a/\H'=IN 2 a)\/(j=some (.exit 0)/\∃m' g,H'=IN 2 (EZ L m,m',g))) rfl
  (λds H n Φ=>∃k a x,Qk L m k a/\k<T.length/\T[if bk then T.length-1-k else k]?=some x/\ds=[x]/\H=IN 2 a/\Φ=λj H' _=>(j=none/\∃a',Qk L m (k+1) a'/\Cs H' (IN 2 a') H' (IN 2 a'))\/(j=some (.exit 0)/\∃m' g,H'=IN 2 (EZ L m,m',g))) ?_
  (λE l' R' hE hY=>We hE b bk T hT (by omega) (λ_ a=>IN 2 a) (Qk L m) (.exit 0) (λH'=>∃m' g,H'=IN 2 (EZ L m,m',g)) ([],m,0) h0 _ λk a x n hP hk hx=>hY _ _ _ _ ⟨k,a,x,hP,hk,hx,rfl,rfl,rfl⟩) ?_
 ·rintro l' ds H n Φ ⟨k,⟨o,m',g⟩,x,⟨p1,p2,p3,p4⟩,hk,hxT,rfl,rfl,rfl⟩
  dsimp only at p1 p2 p3 p4;obtain⟨y,hy1,hy2⟩:=hoL k (by omega);rw[hoA k (by omega),hy2]at hxT;cases hxT;have hd:L.drop k=y::L.drop (k+1):=by
   have:=(BS.1 hy2)
   rw[Et this.1,this.2]
  rw[hd]at p2;have hb:=hx y hy1;have cO:=ho y hy1 (min y.mass m');have p5:(o++[y.w (min y.mass m')])++(if m'-y.mass<=0 then[]else EZ (L.drop (k+1)) (m'-y.mass))=EZ L m:=by
   rw[<-p2,Du];rfl
  have a1:IntKind.i64.wrap (m'-y.mass)=m'-y.mass:=wI;refine⟨rfl,λF=>?_⟩;unfold AE.w AE.D at cO;unfold AE.D;dsimp only at cO⊢;obtain⟨SD,hSD⟩:∃d,CY false y.shs=d:=⟨_,rfl⟩
  have pS:AA SD:=by rw[<-hSD];exact AJ
  rw[hSD]at cO⊢;rcases o with _|⟨z,o⟩
  ·rw[ay]
   dsimp only[HY];refine As 300 ?_;refine AG kB ?_;refine⟨trivial,trivial,λF'=>?_⟩;refine AC.block ?_;refine AC.seq ?_;refine CN 400 [0,1,2,3,4,5,6,7] [8,9] ?_;refine BU ?_;refine Bf.same _ (cO) AJ ?_;refine BU ?_;refine sZ 500 ?_;refine AX a1 ?_;refine sR 600 ?_;refine AC.weak ⟨[(27,Al (decide (m'-y.mass<=0)))],[⟨408,n+1+1+10,53,3,[.agg [str (sb y.grain),i64 (min y.mass m'),SD]]⟩,⟨100,2,29,1,[.osl 408 (n+1+1+10) 3 0 1]⟩,⟨0,0,3,1,[i64 (m'-y.mass)]⟩],_⟩ AK ?_;rw[<-hSD]
   by_cases hz:m'-y.mass<=0
   ·rw[Aw hz]
    rw[AI hz,De]at p5;refine AO ?_;refine CG ?_;refine .inr ⟨rfl,m'-y.mass,n+1+1+10,?_⟩;rw[<-p5];rfl
   ·rw[Az hz]
    rw[AH hz]at p5;refine AO ?_;refine An ?_;exact .inl ⟨rfl,([y.w (min y.mass m')],m'-y.mass,n+1+1+10),⟨by rw[<-p1];rfl,p5,by dsimp only;omega,by dsimp only;omega⟩,Hz _⟩
  ·have wl:AA (.sl false 3 ((z::o).map AE.D)):=AJ
   have hol:o.length<=1000000:=by rw[Bu]at p1;omega
   rw[Cx]at wl;rw[Uw];dsimp only[HY];obtain⟨O,hO⟩:∃O,o.map AE.D=O:=⟨_,rfl⟩
   obtain⟨zD,hzD⟩:∃O,z.D=O:=⟨_,rfl⟩
   have hOl:O.length=o.length:=by rw[<-hO,Ab]
   rw[hO,hzD];refine As 300 ?_;refine AG kB ?_;refine⟨trivial,trivial,λF'=>?_⟩;refine AC.block ?_;refine AC.seq ?_;refine CN 400 [0,1,2,3,4,5,6,7] [8,9] ?_;refine BU ?_;refine Bf.same _ (cO) AJ ?_;refine BU ?_;rw[show List.take (O.length+1) (zD::O)=zD::O from Cw (l:=zD::O)];refine sZ 500 ?_;refine AX a1 ?_;refine sR 600 ?_;refine AC.weak ⟨[(27,Al (decide (m'-y.mass<=0)))],[⟨408,n+1+1+10,53,3,zD::O++[.agg [str (sb y.grain),i64 (min y.mass m'),SD]]⟩,⟨100,2,29,1,[.osl 408 (n+1+1+10) 3 0 (O.length+1+1)]⟩,⟨0,0,3,1,[i64 (m'-y.mass)]⟩],_⟩ AK ?_;have hs:∀g' mm,IN 2 (z::o++[y.w (min y.mass m')],mm,g')=[⟨408,g',53,3,zD::O++[.agg [str (sb y.grain),i64 (min y.mass m'),SD]]⟩,⟨100,2,29,1,[.osl 408 g' 3 0 (O.length+1+1)]⟩,⟨0,0,3,1,[i64 mm]⟩]:=λg' mm=>by
    rw[EU,Uw,<-hO,<-hzD,<-hSD,Cz];rw[Be];rfl
   rw[<-hs]
   by_cases hz:m'-y.mass<=0
   ·rw[Aw hz]
    rw[AI hz,De]at p5;refine AO ?_;refine CG ?_;exact .inr ⟨rfl,m'-y.mass,n+1+1+10,by rw[<-p5];rfl⟩
   ·rw[Az hz]
    rw[AH hz]at p5;refine AO ?_;refine An ?_;exact .inl ⟨rfl,(z::o++[y.w (min y.mass m')],m'-y.mass,n+1+1+10),⟨by rw[<-p1];simp,p5,by dsimp only;omega,by dsimp only;omega⟩,Hz _⟩
 ·rintro j d H' n' F' hE
  have hE2:∃m' g,H'=IN 2 (EZ L m,m',g)/\(j=none\/j=some (.exit 0)):=by
   rcases hE with⟨hj,⟨o,m',g⟩,⟨p1,p2,-,-⟩,rfl⟩|⟨hj,m',g,rfl⟩
   ·refine⟨m',g,?_,.inl hj⟩
    dsimp only at p2;rw[List.drop_eq_nil_of_le (by omega)]at p2;rw[show o=EZ L m by rw[<-p2];exact(De o).symm]
   ·exact⟨m',g,rfl,.inr hj⟩
  obtain⟨m',g,rfl,hj⟩:=hE2;obtain⟨o,hO⟩:∃o,EZ L m=o:=⟨_,rfl⟩
  rw[hO]at hN⊢;rcases o with _|⟨z,o⟩
  ·rw[ay]
   rcases hj with rfl|rfl
   all_goals
    change AC _ _ _ _ _ _ _;refine sR 700 ?_;refine BF.pure [.sl false 3 []] _ ⟨.nil 3,trivial⟩ hN AJ ?_;refine BU ?_;refine Aj ?_;exact AM rfl pR.out
  ·have hR:=Fx (H:=IN 2 (z::o,m',g)) (Hf:=[]) (k:=408) (g:=g) (T:=53) (sz:=3) (l:=(z::o).map AE.D) rfl
   have hle:((z::o).map AE.D).length=(o.map AE.D).length+1:=rfl;rw[hle]at hR;rw[Uw]at hR⊢;rcases hj with rfl|rfl
   all_goals
    change AC _ _ _ _ _ _ _;refine sR 700 ?_;refine BF.own _ (CX.give [] hN (.drop (.drop (.drop .nil))) ⟨hR,trivial⟩ AJ) ?_;rintro d H2 n2 ⟨rfl,rfl,rfl⟩;refine BU ?_;refine Aj ?_;exact AM rfl pR.out
abbrev MW:Dr:=[(6,[0,1,2,3,4,5,6,7],[8])]
abbrev Nl:Dr:=[(6,[0,1,2,3,4,5,6,7,8,9,10,11,12,13,14,15,16,17,18,19,20,21],[22,23])]
open Go.Proofs Go.RowKit
set_option maxRecDepth 20000
set_option maxHeartbeats 4000000
def HE (s t:Au):Bool:=BJ (sb s.lot) (sb t.lot)&&BJ (sb s.part) (sb t.part)
def GB:List Au->List Au->Bool
 | [],[]=>true
 |s::S,t::T=>HE s t&&GB S T
 |_,_=>false
theorem Ud:∀ {S T:List Au},S.length≠T.length->GB S T=false
 | [],[],h=>Ak rfl h
 | [],_::_,_=>rfl
 |_::_,[],_=>rfl
 |s::S,t::T,h=>by
  show(HE s t&&GB S T)=false;rw[Ud (S:=S) (T:=T) λq=>h (congrArg (· + 1) q),Bool.and_false]
theorem NY:∀ {S T:List Au} {i:Nat} {s t:Au},S[i]?=some s->T[i]?=some t->HE s t=false->GB S T=false
 |s::S,t::T,0,_,_,h1,h2,h=>by
  cases h1;cases h2;show(HE s t&&GB S T)=false;rw[h,Hk]
 |s::S,t::T,i+1,_,_,h1,h2,h=>by
  show(HE s t&&GB S T)=false;rw[NY (S:=S) (T:=T) (i:=i) h1 h2 h,Bool.and_false]
theorem Uc:∀ {S T:List Au},S.length=T.length->(∀(i:Nat) (s t:Au),S[i]?=some s->T[i]?=some t->HE s t=true)->GB S T=true
 | [],[],_,_=>rfl
 | [],_::_,h,_=>by cases h
 |_::_,[],h,_=>by cases h
 |s::S,t::T,h,k=>by
  show(HE s t&&GB S T)=true;rw[k 0 s t rfl rfl,Uc (S:=S) (T:=T) (Nat.succ.inj h) λi s t h1 h2=>k (i+1) s t h1 h2];rfl
theorem ow (b1 b2:Bool)(S T:List Au)(hS:S.length<=1000000)(hT:T.length<=1000000):AL C0 110 [CY b1 S,CY b2 T] (Al (GB S T)):=by
 refine Af.walk w1 cq rfl λF=>?_
 have e1:(((S.map Au.D).length:Nat):Int)=(S.length:Int):=by rw[Ab]
 have e2:(((T.map Au.D).length:Nat):Int)=(T.length:Int):=by rw[Ab]
 by_cases hl:S.length=T.length
 rotate_left
 ·have hne:((S.length:Int) != (T.length:Int))=true:=bne_iff_ne.2 (by omega)
  rw[Ud hl];refine AF MW (Ao e1 e2 hne) AB AB AB AB AB AB ?_;exact AM rfl AA.out
 have hne:((S.length:Int) != (T.length:Int))=false:=by rw[hl];exact bne_self_eq_false _
 refine AF MW (Ao e1 e2 hne) AB AB AB AB AB AB ?_;refine AC.loop (α:=Nat×Nat) (λp=>⟨[(0,CY b1 S),(1,CY b2 T),(12,i64 (S.length:Int)),(13,i64 (p.1:Int))],[],p.2⟩) (λp=>S.length-p.1) (λq=>q.1<=S.length/\∀(j:Nat) (s t:Au),j<q.1->S[j]?=some s->T[j]?=some t->HE s t=true) (0,_) ⟨BW _,λj _ _ h=>Ak h (HK j)⟩ AK ?_;rintro⟨i,n⟩ F ⟨hi,ha⟩;dsimp only at hi ha⊢;rcases BE i S.length with h2|h2
 rotate_left
 ·have k1:=Cg h2
  rw[Uc hl λj s t h1 h3=>ha j s t (by have:=(BS.1 h1).1;omega) h1 h3];refine AF MW k1 AB AB AB AB AB AB ?_;exact AM rfl AA.out
 have k1:=Ch h2;have wi:=Cc (i:=i) (by omega);obtain⟨x,hx⟩:=CO h2;obtain⟨y,hy⟩:=CO (show i<T.length by omega);have hm:(S.map Au.D)[i]?=some (.agg [str (sb x.lot),str (sb x.part)]):=by rw[Ay,hx];rfl
 have hm2:(T.map Au.D)[i]?=some (.agg [str (sb y.lot),str (sb y.part)]):=by rw[Ay,hy];rfl
 obtain⟨q1,c1⟩:∃q,BJ (sb x.lot) (sb y.lot)=q:=⟨_,rfl⟩
 obtain⟨q2,c2⟩:∃q,BJ (sb x.part) (sb y.part)=q:=⟨_,rfl⟩
 have hsh:HE x y=(q1&&q2):=by unfold HE;rw[c1,c2]
 have b1':(!(true&&(true&&true)))=false:=rfl;have b2':(!(true&&(false&&true)))=true:=rfl;have b3':(!(false&&(true&&true)))=true:=rfl;have b4':(!(false&&(false&&true)))=true:=rfl;cases q1<;>cases q2
 ·rw[NY hx hy hsh]
  refine AF MW (CM k1 wi c1 c2 b1' b2' (Ao b3' b4' kN)) hm hm2 AB AB AB AB ?_;exact AM rfl AA.out
 ·rw[NY hx hy hsh]
  refine AF MW (CM k1 wi c1 c2 b1' b2' (Ao b3' b4' kN)) hm hm2 AB AB AB AB ?_;exact AM rfl AA.out
 ·rw[NY hx hy hsh]
  refine AF MW (CM k1 wi c1 c2 b1' b2' (Ao b3' b4' kN)) hm hm2 AB AB AB AB ?_;exact AM rfl AA.out
 ·refine AF MW (CM k1 wi c1 c2 b1' b2' (Ao b3' b4' kN)) hm hm2 AB AB AB AB ?_
  refine⟨(i+1,_),⟨h2,λj s t hj h1 h3=>?_⟩,by dsimp only;omega,AK⟩;rcases BE j i with h|h
  ·exact ha j s t h h1 h3
  ·have:j=i:=by dsimp only at hj;omega
   subst this;rw[hx]at h1;rw[hy]at h3;cases h1;cases h3;exact hsh
def FO (x y:AE):Bool:=BJ (sb x.grain) (sb y.grain)&&GB x.shs y.shs
theorem r6 (x y:AE)(hx:x.shs.length<=1000000)(hy:y.shs.length<=1000000):AL C0 77 [x.D,y.D] (Al (FO x y)):=by
 refine Af.walk w1 gp rfl λF=>?_
 have c:=ow false false x.shs y.shs hx hy;obtain⟨q,hq⟩:∃q,BJ (sb x.grain) (sb y.grain)=q:=⟨_,rfl⟩
 have hb:FO x y=(q&&GB x.shs y.shs):=by unfold FO;rw[hq]
 rw[hb];unfold AE.D;unfold CY at c⊢;obtain⟨S,hS⟩:∃S,x.shs.map Au.D=S:=⟨_,rfl⟩
 have pS:AA (.sl false 2 S):=by rw[<-hS];exact AJ
 obtain⟨T,hT⟩:∃S,y.shs.map Au.D=S:=⟨_,rfl⟩
 have pT:AA (.sl false 2 T):=by rw[<-hT];exact AJ
 rw[hS,hT]at c⊢;cases q
 ·refine AF AY (Ao hq kT kF) c AB AB AB AB AB ?_
  exact AM rfl AA.out
 ·refine AF AY (Ao hq kT kF) c AB AB AB AB AB ?_
  exact AM rfl AA.out
theorem sV (b1 b2:Bool)(S T:List Au)(hS:S.length<=1000000)(hT:T.length<=1000000):AL C0 27 [CY b1 S,CY b2 T] (Al (GB S T)):=by
 refine Af.walk w1 WJ rfl λF=>?_
 have e1:(((S.map Au.D).length:Nat):Int)=(S.length:Int):=by rw[Ab]
 have e2:(((T.map Au.D).length:Nat):Int)=(T.length:Int):=by rw[Ab]
 by_cases hl:S.length=T.length
 rotate_left
 ·have hne:((S.length:Int) != (T.length:Int))=true:=bne_iff_ne.2 (by omega)
  rw[Ud hl];refine AF Nl (Ao e1 e2 hne) AB AB AB AB AB AB ?_;exact AM rfl AA.out
 have hne:((S.length:Int) != (T.length:Int))=false:=by rw[hl];exact bne_self_eq_false _
 refine AF Nl (Ao e1 e2 hne) AB AB AB AB AB AB ?_;refine AC.loop (α:=Nat×Nat) (λp=>⟨[(0,CY b1 S),(1,CY b2 T),(5,i64 (p.1:Int))],[],p.2⟩) (λp=>S.length-p.1) (λq=>q.1<=S.length/\∀(j:Nat) (s t:Au),j<q.1->S[j]?=some s->T[j]?=some t->HE s t=true) (0,_) ⟨BW _,λj _ _ h=>Ak h (HK j)⟩ AK ?_;rintro⟨i,n⟩ F ⟨hi,ha⟩;dsimp only at hi ha⊢;rcases BE i S.length with h2|h2
 rotate_left
 ·have k1:=Cg h2
  rw[Uc hl λj s t h1 h3=>ha j s t (by have:=(BS.1 h1).1;omega) h1 h3];refine AF Nl (Aa e1 k1) AB AB AB AB AB AB ?_;exact AM rfl AA.out
 have k1:=Ch h2;have wi:=Cc (i:=i) (by omega);obtain⟨x,hx⟩:=CO h2;obtain⟨y,hy⟩:=CO (show i<T.length by omega);have hm:(S.map Au.D)[i]?=some (.agg [str (sb x.lot),str (sb x.part)]):=by rw[Ay,hx];rfl
 have hm2:(T.map Au.D)[i]?=some (.agg [str (sb y.lot),str (sb y.part)]):=by rw[Ay,hy];rfl
 obtain⟨q1,c1⟩:∃q,BJ (sb x.lot) (sb y.lot)=q:=⟨_,rfl⟩
 obtain⟨q2,c2⟩:∃q,BJ (sb x.part) (sb y.part)=q:=⟨_,rfl⟩
 have hsh:HE x y=(q1&&q2):=by unfold HE;rw[c1,c2]
 cases q1
 ·rw[NY hx hy hsh]
  refine AF Nl (CM e1 k1 wi c1 kN kT kF) hm hm2 AB AB AB AB ?_;exact AM rfl AA.out
 cases q2
 ·rw[NY hx hy hsh]
  refine AF Nl (CM e1 k1 wi c1 c2 kN (Aa kT kF)) hm hm2 AB AB AB AB ?_;exact AM rfl AA.out
 ·refine AF Nl (CM e1 k1 wi c1 c2 kN (Aa kT kF)) hm hm2 AB AB AB AB ?_
  refine⟨(i+1,_),⟨h2,λj s t hj h1 h3=>?_⟩,by dsimp only;omega,AK⟩;rcases BE j i with h|h
  ·exact ha j s t h h1 h3
  ·have:j=i:=by dsimp only at hj;omega
   subst this;rw[hx]at h1;rw[hy]at h3;cases h1;cases h3;exact hsh
theorem tY (x y:AE)(hx:x.shs.length<=1000000)(hy:y.shs.length<=1000000):AL C0 47 [x.D,y.D] (Al (FO x y)):=by
 refine Af.walk w1 WN rfl λF=>?_
 have c:=sV false false x.shs y.shs hx hy;obtain⟨q,hq⟩:∃q,BJ (sb x.grain) (sb y.grain)=q:=⟨_,rfl⟩
 have hb:FO x y=(q&&GB x.shs y.shs):=by unfold FO;rw[hq]
 rw[hb];unfold AE.D;unfold CY at c⊢;obtain⟨S,hS⟩:∃S,x.shs.map Au.D=S:=⟨_,rfl⟩
 have pS:AA (.sl false 2 S):=by rw[<-hS];exact AJ
 obtain⟨T,hT⟩:∃S,y.shs.map Au.D=S:=⟨_,rfl⟩
 have pT:AA (.sl false 2 T):=by rw[<-hT];exact AJ
 rw[hS,hT]at c⊢;cases q
 ·refine AF AY (Ao hq kT kF) c AB AB AB AB AB ?_
  exact AM rfl AA.out
 ·refine AF AY (Ao hq kT kF) c AB AB AB AB AB ?_
  exact AM rfl AA.out
def TC (H:Hp)(env:Ap):Ap->Prop
 | []=>True
 |(t,d)::r=>Ds H (env.get t) d/\TC H env r
theorem TC.get {H:Hp}{env:Ap}:∀ {env':Ap},TC H env env'->∀t,Ds H (env.get t) (env'.get t)
 | [],_,t=>λ_ _ _ _ _ _ _ v _=>.any v
 |(k,d)::r,h,t=>by
  simp only[Ap.get];cases hb:Nat.beq k t with
  |true=>
   have:=CC hb
   subst this;exact h.1
  |false=>exact h.2.get t
theorem jO {C:BA}{B F:Ad}{rd:Option Nat}{c:Code}{s:St}{Q:Exit->Ad->St->Prop}(env':Ap)(he:TC s.H s.env env')(h:AC C B rd F c ⟨env',[],s.n⟩ Q):AC C B rd F c s Q:=⟨λhB hd ρ a w hs=>by
 have hH:Cs s.H [] s.H []:=by
  generalize s.H=H0
  have:∀H1:Hp,Cs H0 [] H1 []:=λH1=>by
   induction H1 with
   |nil=>exact .nil
   |cons e r ih=>exact .drop ih
  exact this H0
 obtain⟨m,hO,hN⟩:=hH.mem hs.mem;exact h.out hB hd ρ a w ⟨m,hs.fresh,by simp,λt=>he.get t _ _ _ _ hs.mem hO (λe he b hb=>hN e he b hb rfl) _ (hs.env t),hs.nt,hs.dfr⟩⟩
theorem Vs (B:D)[pB:AA B][pC:AS B](hB:∃a b c d e,B=.agg [a,b,c,d,e])(b:Bool)(ls:List D)[pL:AA (.sl b 1 ls)](i:Nat)(x:Int)(hx:ls[i]?=some (i64 x))(R:D)[pR:AA R](m:Int)
  (cB:AL C0 62 [.sl b 1 ls,i64 (i:Int),.clo (.func 100) [] [.pptr (.sl b 1 ls),.pptr (i64 (i:Int)),.pptr B]] R)
  (cL:AL C0 61 [i64 x,R] (i64 m)):AL C0 60 [B,.sl b 1 ls,i64 (i:Int)] (i64 m):=by
 refine Af.walk w1 g9 rfl λF=>?_
 obtain⟨a1,a2,a3,a4,a5,rfl⟩:=hB;refine sR 0 ?_;refine AC.seq ?_;refine jO [(3,.pptr (.agg [a1,a2,a3,a4,a5])),(4,.pptr (.sl b 1 ls)),(5,.pptr (i64 (i:Int)))] ⟨.ptr rfl rfl rfl rfl,.ptr rfl rfl rfl rfl,.ptr rfl rfl rfl rfl,trivial⟩ ?_;refine CN 100 [0,1,2,3,4,5,6,7] [8,9] ?_;refine BU ?_;refine By kT hx ?_;refine AG kB ?_;refine Bf.same _ (cB) AJ ?_;refine BU ?_;refine cI cL ?_;refine Aj ?_;exact AM rfl AA.out
theorem s6 (B:D)[pB:AA B][pC:AS B](a1 a2 a4 a5:D)(room:Int)(hB:B=.agg [a1,a2,i64 room,a4,a5])(ls:List D)[pL:AA (.sl false 1 ls)](i:Nat)(x:Int)(hx:ls[i]?=some (i64 x))(R:D)[pR:AA R](m:Int)
  (cC:AL C0 31 [B,.sl true 1 [i64 (i:Int)]] (i64 0)) (cV:AL C0 42 [B] (.sl false 1 ls))
  (cB:AL C0 62 [.sl false 1 ls,i64 (i:Int),.clo (.func 63) [] [.pptr B,.pptr (.sl false 1 ls),.pptr (i64 (i:Int))]] R) (r:Int) (hr:IntKind.i64.wrap (room-x)=r)
  (cL:AL C0 61 [i64 r,R] (i64 m)):AL C0 22 [B,i64 (i:Int)] (.tup [i64 m,i64 0]):=by
 refine Af.walk w1 gC rfl λF=>?_
 have e0:((0:Int) != 0)=false:=rfl;subst hB;refine sR 0 ?_;refine AC.seq ?_;refine sR 100 ?_;refine cI cC ?_;refine sZ 200 ?_;refine AX e0 ?_;refine AO ?_;refine An ?_;refine sR 400 ?_;refine cI cV ?_;refine AC.seq ?_;refine jO [(2,.pptr (.agg [a1,a2,i64 room,a4,a5])),(3,.pptr (i64 (i:Int))),(7,.pptr (.sl false 1 ls))] ⟨.ptr rfl rfl rfl rfl,.ptr rfl rfl rfl rfl,.ptr rfl rfl rfl rfl,trivial⟩ ?_;refine CN 500 [0,1,2,3,4,5,6,7,8,9,10] [11,12,13] ?_;refine BU ?_;refine By kT hx ?_;refine AG hr ?_;refine Bf.same _ (cB) AJ ?_;refine BU ?_;refine cI cL ?_;refine Aj ?_;exact AM rfl AA.out
abbrev Cb (l:List Int):List D:=l.map λx=>i64 x
theorem kh (a1 a2 a3 a4:D)[AA a1][AA a2][AA a3][AA a4](b:Bool)(cs:List D)[pc:AA (.sl b 1 cs)](ls:List Int)(hlen:ls.length=cs.length)(h0:cs≠[])(hl:cs.length<=1000000)
  (hc:∀(i:Nat) (c:D) (m:Int),cs[i]?=some c->ls[i]?=some m->AL C0 33 [c] (i64 m)) (hp:∀c∈cs,∃bb l,c=.sl bb 3 l/\AA c) (g0:Nat) (x:D) (n:Nat):
  CX C0 42 [.agg [a1,a2,a3,a4,.sl b 1 cs]] [⟨0,g0,24,5,[x]⟩] n (λd H' _=>∃g,d=.osl 504 g 1 0 ls.length/\H'=[⟨504,g,3,1,Cb ls⟩,⟨0,g0,24,5,[x]⟩]):=by
 refine CX.walk w1 WM rfl λF=>?_
 refine AF AY kB AB AB AB AB AB AB ?_;refine AC.loop (α:=Nat×Nat×Nat) (λp=>⟨[(3,EP 504 p.2.1 1 (Cb (ls.take p.1))),(7,.sl b 1 cs),(8,i64 (cs.length:Int)),(9,i64 (p.1:Int))],EF 504 p.2.1 3 1 (Cb (ls.take p.1))++[⟨0,g0,24,5,[x]⟩],p.2.2⟩) (λp=>cs.length-p.1) (λq=>q.1<=cs.length) (0,0,_) (BW _) AK ?_;rintro⟨i,g,n⟩ F hi;dsimp only at hi⊢;rcases BE i cs.length with h2|h2
 rotate_left
 ·have e1:=Cg h2
  have hi2:i=cs.length:=by omega
  rw[Cn (by omega:ls.length<=i)];have hls:ls≠[]:=λh=>h0 (FB (by rw[<-hlen,h];rfl))
  obtain⟨z,r,rfl⟩:∃z r,ls=z::r:=by
   cases ls with
   |nil=>exact Ak rfl hls
   |cons z r=>exact⟨z,r,rfl⟩
  rw[show Cb (z::r)=i64 z::Cb r from rfl,IR,IS,EU,Ei];refine AF AY e1 AB AB AB AB AB AB ?_;exact⟨_,by rw[Ab],rfl⟩
 have e1:=Ch h2;have wi:=Cc (i:=i) (by omega);obtain⟨c,hm⟩:=CO h2;obtain⟨m,hm2⟩:=CO (show i<ls.length by omega);obtain⟨bb,cl,rfl,pcl⟩:=hp c (Ax hm);have cT:=hc i _ m hm hm2;have ht:ls.take (i+1)=ls.take i++[m]:=by rw[Dp,hm2];rfl
 obtain⟨R,hR⟩:∃R,ls.take i=R:=⟨_,rfl⟩
 rw[hR]at ht⊢;rcases R with _|⟨z,R⟩
 ·rw[show Cb []=[]from rfl,Je,Jf,Ei]
  refine AF AY (Ao e1 wi kN) hm cT AB AB AB AB ?_;refine⟨(i+1,n+1+1+1+1+1+1+1+1,n+1+1+1+1+1+1+1+1+1+1+1+1),h2,by dsimp only;omega,?_⟩;dsimp only;rw[ht];exact AK
 ·rw[show Cb (z::R)=i64 z::Cb R from rfl,IR,IS,EU,Ei]
  obtain⟨O,hO⟩:∃O,Cb R=O:=⟨_,rfl⟩
  have hOl:O.length+1=i:=by
   rw[<-hO,Ab]
   have:(z::R).length=i:=by rw[<-hR,Bc];omega
   exact this
  rw[hO];refine AF AY (Ao e1 wi kN) hm cT AB AB AB AB ?_;refine⟨(i+1,n+1+1+1+1+1+1+1+1,n+1+1+1+1+1+1+1+1+1+1+1+1),h2,by dsimp only;omega,?_⟩;dsimp only;rw[ht,show Cb (z::R++[m])=i64 z::O++[i64 m]from by rw[<-hO];unfold Cb;rw[Cz];rfl];rw[EU,IR,IS,Be];rw[show List.take (O.length+1) (i64 z::O)=i64 z::O from Cw (l:=i64 z::O)];exact AK
def QB (k g sz:Nat)(env:Ap):Ap->Prop
 | []=>True
 |(t,d)::r=>(d=env.get t\/(env.get t=CK/\d=.osl k g sz 0 0))/\QB k g sz env r
theorem QB.get {k g sz:Nat}{env:Ap}:∀ {env':Ap},QB k g sz env env'->∀t,env'.get t=.any\/env'.get t=env.get t\/(env.get t=CK/\env'.get t=.osl k g sz 0 0)
 | [],_,t=>.inl rfl
 |(q,d)::r,h,t=>by
  rw[JM]
  by_cases hk:q=t
  ·subst hk;rw[AI rfl];exact .inr h.1
  ·rw[AH hk];exact QB.get h.2 t
theorem AC.ghost {C:BA}{B F:Ad}{rd:Option Nat}{c:Code}{s:St}{Q:Exit->Ad->St->Prop}(k T sz:Nat)(env':Ap)(he:QB k s.n sz s.env env')(h:AC C B rd F c ⟨env',⟨k,s.n,T,sz,[]⟩::s.H,s.n+1⟩ Q):AC C B rd F c s Q:=⟨λhB hd ρ a w hs=>by
 obtain⟨m1,hO⟩:=hs.mem.ghost (k:=k) (n:=s.n) (T:=T) (sz:=sz) (hs.fresh k _ (Ar _));refine h.out hB hd ρ a w ⟨m1,λk g hg=>hs.fresh k g (by dsimp only at hg;omega),λe he=>?_,λt=>?_,hs.nt,hs.dfr⟩
 ·rcases A8.1 he with rfl|he
  ·exact IM _
  ·exact Dd (hs.gen e he)
 ·have hr:=hs.env t
  dsimp only;rw[hO];rcases he.get t with h|h|⟨h1,h2⟩
  ·rw[h];exact .any _
  ·rw[h];exact hr
  ·rw[h2]
   rw[h1]at hr;generalize a.tmps.getD t undef=v at hr⊢;cases hr;exact .onil _ _ _⟩
def JW (l:List Int):Nat->Nat
 | 0=>0
 |k+1=>if l.getD (JW l k) 0<l.getD k 0 then k else JW l k
def GY (l:List Int):Nat:=JW l l.length
theorem Vt {l:List Int}(h:0<l.length):∀k,k<=l.length->JW l k<l.length
 | 0,_=>h
 |k+1,hk=>by
  unfold JW;split
  ·omega
  ·exact Vt h k (by omega)
def L6 (mf:List Int->Int):Nat->List Int->List (Nat×Int)->List (Nat×Int)×Int
 | 0,_,_=>([],19)
 |k+1,l,out=>if l.getD (GY l) 0=0 then(out,0)else if mf l=0 then([],7)else if out.length=256 then([],19)else L6 mf k (l.set (GY l) (l.getD (GY l) 0-mf l)) (out++[(GY l,mf l)])
def Ew (p:Nat×Int):D:=.agg [i64 (p.1:Int),i64 p.2]
instance  (p:Nat×Int):AS (Ew p):=by unfold Ew;exact AJ
instance  (p:Nat×Int):AA (Ew p):=by unfold Ew;exact AJ
theorem P2 {l:List Int}{i:Nat}(h:i<l.length):(Cb l)[i]?=some (i64 (l.getD i 0)):=by
 rw[Ay,EK,Bs h];rfl
theorem qM (a1 a2 a3 a4:D)[AA a1][AA a2][AA a3][AA a4](b:Bool)(cs:List D)[pc:AA (.sl b 1 cs)](ls:List Int)(hlen:ls.length=cs.length)(h0:cs≠[])(hl:cs.length<=1000000)
  (hc:∀(i:Nat) (c:D) (m:Int),cs[i]?=some c->ls[i]?=some m->AL C0 33 [c] (i64 m)) (hp:∀c∈cs,∃bb l,c=.sl bb 3 l/\AA c)
  (cK:AL C0 69 [.agg [a1,a2,a3,a4,.sl b 1 cs]] (i64 0))
  (mf:List Int->Int) (I:List Int->Prop) (hI0:I ls) (hI:∀l,I l->l.getD (GY l) 0≠0->AL C0 60 [.agg [a1,a2,a3,a4,.sl b 1 cs],.sl false 1 (Cb l),i64 ((GY l:Nat):Int)] (i64 (mf l))/\IntKind.i64.wrap (l.getD (GY l) 0-mf l)=l.getD (GY l) 0-mf l/\I (l.set (GY l) (l.getD (GY l) 0-mf l))):
  AL C0 25 [.agg [a1,a2,a3,a4,.sl b 1 cs]] (.tup [.sl false 2 ((L6 mf 257 ls []).1.map Ew),i64 (L6 mf 257 ls []).2]):=by
 refine Af.walk w1 fv rfl λF=>?_
 have e0:((0:Int) != 0)=false:=rfl;have cL:=λn=>kh a1 a2 a3 a4 b cs ls hlen h0 hl hc hp 0 (.agg [a1,a2,a3,a4,.sl b 1 cs]) n
 refine AF AY e0 cK AB AB AB AB AB ?_;refine BF.own _ (cL _) ?_;rintro d H' n' ⟨g,rfl,rfl⟩;refine AF AY kB AB AB AB AB AB AB ?_;obtain⟨N,hN⟩:∃N,ls.length=N:=⟨_,rfl⟩
 have hN0:0<N:=by rw[<-hN,hlen];exact List.length_pos_iff.2 h0
 have hN1:N<=1000000:=by omega
 rw[hN];clear cL cK hc hp;refine AC.ghost 2005 65 2 [(1,.optr 0 0 5 0 0),(5,.osl 2005 _ 2 0 0),(6,.osl 504 g 1 0 N)] ⟨.inl rfl,.inr ⟨rfl,rfl⟩,.inl rfl,trivial⟩ ?_;refine AC.loop (α:=List Int×List (Nat×Int)×Nat×Nat) (λp=>⟨[(1,.optr 0 0 5 0 0),(5,.osl 2005 p.2.2.1 2 0 p.2.1.length),(6,.osl 504 g 1 0 N)],[⟨2005,p.2.2.1,65,2,p.2.1.map Ew⟩,⟨504,g,3,1,Cb p.1⟩,⟨0,0,24,5,[.agg [a1,a2,a3,a4,.sl b 1 cs]]⟩],p.2.2.2⟩) (λp=>257-p.2.1.length)
  (λp=>p.1.length=N/\I p.1/\p.2.1.length<=256/\L6 mf (257-p.2.1.length) p.1 p.2.1=L6 mf 257 ls []) (ls,[],_,_) ⟨hN,hI0,BW _,rfl⟩ AK ?_
 rintro⟨l,out,go,n⟩ F ⟨hl1,hIl,ho,hR⟩;dsimp only at hl1 hIl ho hR⊢;obtain⟨OD,hOD⟩:∃O,out.map Ew=O:=⟨_,rfl⟩
 have hODl:OD.length=out.length:=by rw[<-hOD,Ab]
 rw[hOD];obtain⟨L,hL⟩:∃L,Cb l=L:=⟨_,rfl⟩
 have hLl:L.length=N:=by rw[<-hL,Ab,hl1]
 rw[hL];refine AF AY kB AB AB AB AB AB AB ?_;refine AC.loop (α:=Nat×Nat) (λp=>⟨[(1,.optr 0 0 5 0 0),(5,.osl 2005 go 2 0 out.length),(6,.osl 504 g 1 0 N),(18,.osl 504 g 1 0 N),(19,i64 (N:Int)),(20,i64 (p.1:Int)),(7,i64 ((JW l p.1:Nat):Int))],[⟨2005,go,65,2,OD⟩,⟨504,g,3,1,L⟩,⟨0,0,24,5,[.agg [a1,a2,a3,a4,.sl b 1 cs]]⟩],p.2⟩) (λp=>N-p.1) (λq=>q.1<=N) (0,_) (BW _) AK ?_;rintro⟨k,n⟩ F hk;dsimp only at hk⊢;rcases BE k N with h2|h2
 ·have e1:=Ch h2
  have wi:=Cc (i:=k) (by omega);have hm:=P2 (l:=l) (i:=k) (by omega);have hq:=Vt (l:=l) (by omega) k (by omega);have hm2:=P2 hq;obtain⟨u,hu⟩:∃u,l.getD k 0=u:=⟨_,rfl⟩
  obtain⟨v,hv⟩:∃v,l.getD (JW l k) 0=v:=⟨_,rfl⟩
  have hs:JW l (k+1)=if v<u then k else JW l k:=by rw[<-hu,<-hv];rfl
  rw[hu]at hm;rw[hv]at hm2;obtain⟨q,hq2⟩:∃q,JW l k=q:=⟨_,rfl⟩
  rw[hq2]at hm2 hs hq⊢;rw[hL]at hm hm2
  by_cases hlt:v<u
  ·have e2:decide (u>v)=true:=Aw hlt
   rw[AI hlt]at hs;refine AF AY (CM e1 e2 wi kN BV hm hm2) AB AB AB AB AB AB ?_;refine⟨(k+1,n+1000),h2,by dsimp only;omega,?_⟩;dsimp only;rw[hs];exact AK
  ·have e2:decide (u>v)=false:=Az hlt
   rw[AH hlt]at hs;refine AF AY (CM e1 e2 wi kN BV hm hm2) AB AB AB AB AB AB ?_;refine⟨(k+1,n+1000),h2,by dsimp only;omega,?_⟩;dsimp only;rw[hs];exact AK
 have e1:=Cg h2
 have:k=N:=by omega
 subst this;have hq:=Vt (l:=l) (by omega) k (by omega);have hm:=P2 hq;have hmI:JW l k=GY l:=by unfold GY;rw[hl1]
 rw[hmI]at hq hm⊢;have hIm:=hI l hIl;have hRs:L6 mf (257-out.length) l out=if l.getD (GY l) 0=0 then(out,0)else if mf l=0 then([],7)else if out.length=256 then([],19)else L6 mf (256-out.length) (l.set (GY l) (l.getD (GY l) 0-mf l)) (out++[(GY l,mf l)]):=by
  rw[show 257-out.length=(256-out.length)+1 by omega];rfl
 rw[hR]at hRs;obtain⟨q,hq2⟩:∃q,GY l=q:=⟨_,rfl⟩
 rw[hq2]at hq hm hIm hRs⊢;obtain⟨v,hv⟩:∃v,l.getD q 0=v:=⟨_,rfl⟩
 rw[hv]at hm hIm hRs;rw[hL]at hm
 by_cases hv0:v=0
 ·have e2:(v==0)=true:=by rw[hv0];rfl
  rw[AI hv0]at hRs;rw[hRs];refine AF AY (CS e1 e2 kN BV hm) AB AB AB AB AB AB ?_;have hf:=Fx (H:=[⟨2005,go,65,2,OD⟩,⟨504,g,3,1,L⟩,⟨0,0,24,5,[.agg [a1,a2,a3,a4,.sl b 1 cs]]⟩]) (Hf:=[]) (k:=2005) (g:=go) (T:=65) (sz:=2) (l:=OD) rfl;rw[hODl]at hf;rw[hOD];have pO:AA (.sl false 2 OD):=by rw[<-hOD];exact AJ
  exact⟨_,E9 hf (.refl _),AA.out,rfl⟩
 rw[AH hv0]at hRs;have e2:(v==0)=false:=Bo.2 hv0;obtain⟨cM,wm,hI'⟩:=hIm hv0;obtain⟨m,hmm⟩:∃m,mf l=m:=⟨_,rfl⟩
 rw[hmm]at cM wm hI' hRs;have pL:AA (.sl false 1 (Cb l)):=AJ;rw[hL]at cM pL;have hfL:=Fx (H:=[⟨2005,go,65,2,OD⟩,⟨504,g,3,1,L⟩,⟨0,0,24,5,[.agg [a1,a2,a3,a4,.sl b 1 cs]]⟩]) (Hf:=[]) (k:=504) (g:=g) (T:=3) (sz:=1) (l:=L) rfl;rw[hLl]at hfL;refine AF AY (CS e1 e2 kN BV hm) AB AB AB AB AB AB ?_;refine BF.own _ (M9 (H:=[⟨2005,go,65,2,OD⟩,⟨504,g,3,1,L⟩,⟨0,0,24,5,[.agg [a1,a2,a3,a4,.sl b 1 cs]]⟩]) cM rfl (λi a d h1 h2=>by
  match i with
  | 0=>cases h1;cases h2;exact .refl _ _
  | 1=>cases h1;cases h2;exact .of hfL
  | 2=>cases h1;cases h2;exact .refl _ _
  |n+3=>cases h1) AJ (.prim _)) ?_
 rintro d H' n' ⟨rfl,rfl,rfl⟩
 by_cases hm0:m=0
 ·have e3:(m==0)=true:=by rw[hm0];rfl
  rw[AI hm0]at hRs;rw[hRs];refine AF AY e3 AB AB AB AB AB AB ?_;exact⟨_,E9 (.nil 2) (.refl _),AA.out,rfl⟩
 rw[AH hm0]at hRs;have e3:(m==0)=false:=Bo.2 hm0
 by_cases h256:out.length=256
 ·have e4:((out.length:Int)==256)=true:=by rw[h256];rfl
  rw[AI h256]at hRs;rw[hRs];refine AF AY (Aa e3 e4) AB AB AB AB AB AB ?_;exact⟨_,E9 (.nil 2) (.refl _),AA.out,rfl⟩
 rw[AH h256]at hRs;have e4:((out.length:Int)==256)=false:=Bo.2 (by omega);refine AF AY (D9 e3 e4 wm kN BV hm) AB AB AB AB AB AB ?_;have hle:out.length<256:=by omega
 refine⟨(l.set q (v-m),out++[(q,m)],n+1+1+1+1+1+1+1+1+1+1+1+1+1+1+1+1+1+1+1+1+1,n+1000),⟨by rw[DK];exact hl1,?_,by rw[Be];exact hle,?_⟩,?_,?_⟩
 ·exact hI'
 ·dsimp only
  rw[hRs,Be];rw[show 257-(out.length+[(q,m)].length)=256-out.length by simp only[Bu,Hm];omega]
 ·dsimp only
  rw[Be];simp only[Bu,Hm];omega
 ·dsimp only
  rw[Be,Cz,hOD,Cn (show OD.length<=out.length by omega)];rw[show Cb (l.set q (v-m))=L.set q (i64 (v-m))from by rw[<-hL];unfold Cb;rw[List.map_set]];exact AK
abbrev PZ:Dr:=[(8,[0,1,2,3,4,5,6,7,8],[9,10,11]),(9,[0,1,2,3,4,5,6,7],[8,9,10,11])]
open Go.Proofs Go.RowKit
set_option maxRecDepth 20000
set_option maxHeartbeats 4000000
def Cm (out:List AE)(x:AE):List AE:=match out.getLast? with
 |some y=>if FO y x then out.dropLast++[y.w (y.mass+x.mass)]else out++[x]
 |none=>[x]
def A9 (l:List AE):List AE:=l.foldl Cm []
theorem oY {l:List AE}{i:Nat}{x:AE}(h:l[i]?=some x):(l.take (i+1)).foldl Cm []=Cm ((l.take i).foldl Cm []) x:=by
 rw[Dp,h];simp
theorem Yb {R:List AE}{y x:AE}(h:R[R.length-1]?=some y):Cm R x=if FO y x then R.dropLast++[y.w (y.mass+x.mass)]else R++[x]:=by
 unfold Cm;rw[List.getLast?_eq_getElem?,h]
theorem Zd {R:List AE}{y z:AE}(h:R[R.length-1]?=some y):R.set (R.length-1) z=R.dropLast++[z]:=by
 have hl:=(BS.1 h).1;rw[List.set_eq_take_append_cons_drop,AI hl,List.dropLast_eq_take];rw[show R.length-1+1=R.length by omega,JS]
def Wx (l:List AE)(i:Nat)(R:List AE):Prop:=R=(l.take i).foldl Cm []/\R.length<=i/\∀y∈R,0<=y.mass/\y.mass<=(i:Int)*1000000000/\y.shs.length<=1000000
def OX (i:Nat)(R:List AE):Prop:=R.length<=i/\∀y∈R,0<=y.mass/\y.mass<=(i:Int)*1000000000/\y.shs.length<=1000000
theorem UA {i:Nat}{R:List AE}{x:AE}(hJ:OX i R)(hm:0<=x.mass/\x.mass<=1000000000/\x.shs.length<=1000000):OX (i+1) (Cm R x):=by
 obtain⟨h2,h3⟩:=hJ;refine⟨?_,?_⟩
 ·unfold Cm
  split
  ·split
   ·rw[Be,List.length_dropLast];simp;omega
   ·rw[Be];simp;omega
  ·simp
 ·have hR:∀y∈R,0<=y.mass/\y.mass<=((i+1:Nat):Int)*1000000000/\y.shs.length<=1000000:=λy hy=>by
   obtain⟨a,b,c⟩:=h3 y hy;exact⟨a,by omega,c⟩
  have hxx:0<=x.mass/\x.mass<=((i+1:Nat):Int)*1000000000/\x.shs.length<=1000000:=⟨by omega,by omega,hm.2.2⟩
  intro z hz;unfold Cm at hz;split at hz
  ·rename_i y hy
   have hyR:=List.mem_of_getLast? hy;split at hz
   ·rcases Bp.1 hz with hz|hz
    ·exact hR z ((List.dropLast_sublist R).subset hz)
    ·obtain rfl:=EJ.1 hz
     obtain⟨a,b,c⟩:=h3 y hyR;refine⟨?_,?_,c⟩
     ·show 0<=y.mass+x.mass;omega
     ·show y.mass+x.mass<=_;omega
   ·rcases Bp.1 hz with hz|hz
    ·exact hR z hz
    ·obtain rfl:=EJ.1 hz;exact hxx
  ·obtain rfl:=EJ.1 hz;exact hxx
theorem m7 {l:List AE}{i:Nat}{R:List AE}{x:AE}(hJ:Wx l i R)(hx:l[i]?=some x)(hm:1<=x.mass/\x.mass<=1000000000/\x.shs.length<=1000000):Wx l (i+1) (Cm R x):=
 ⟨by rw[oY hx,<-hJ.1],UA hJ.2 ⟨by omega,hm.2⟩⟩
def Df (l:List AE):List AE:=l.filter λx=>x.mass != 0
theorem qt {l:List AE}{i:Nat}{x:AE}(h:l[i]?=some x)(hx:x.mass≠0):Df (l.take (i+1))=Df (l.take i)++[x]:=by
 unfold Df;rw[Dp,h,List.filter_append]
 have:(x.mass != 0)=true:=by unfold bne;rw[Bo.2 hx];rfl
 rw[show(some x).toList=[x]from rfl,List.filter_cons,AI this];rfl
theorem qr {l:List AE}{i:Nat}{x:AE}(h:l[i]?=some x)(hx:x.mass=0):Df (l.take (i+1))=Df (l.take i):=by
 unfold Df;rw[Dp,h,List.filter_append]
 have:¬(x.mass != 0)=true:=by rw[hx];decide
 rw[show(some x).toList=[x]from rfl,List.filter_cons,AH this];simp
theorem xh {l:List AE}(h:∀x∈l,1<=x.mass):Df l=l:=List.filter_eq_self.2 λx hx=>by
 have:=h x hx
 unfold bne;rw[Bo.2 (by omega)];rfl
theorem Un (b:Bool)(l:List AE)(hl:l.length<=1000000)(hx:∀x∈l,0<=x.mass/\x.mass<=1000000000/\x.shs.length<=1000000):AL C0 38 [AV b l] (AV false (A9 (Df l))):=by
 refine Af.walk w1 gL rfl λF=>?_
 have el:(((l.map AE.D).length:Nat):Int)=(l.length:Int):=by rw[Ab]
 refine sR 0 ?_;refine sR 100 ?_;refine AC.seq ?_;refine sZ 200 ?_;refine AX el ?_;refine AC.ghost 606 53 3 [(3,.osl 606 _ 3 0 0),(7,AV b l),(8,i64 (l.length:Int)),(9,i64 ((0:Nat):Int))] ⟨.inr ⟨rfl,rfl⟩,.inl rfl,.inl rfl,.inl rfl,trivial⟩ ?_;refine AC.block ?_;refine AC.loop (α:=Nat×List AE×Nat×Nat) (λp=>⟨[(3,.osl 606 p.2.2.1 3 0 p.2.1.length),(7,AV b l),(8,i64 (l.length:Int)),(9,i64 (p.1:Int))],[⟨606,p.2.2.1,53,3,p.2.1.map AE.D⟩],p.2.2.2⟩) (λp=>l.length-p.1) (λq=>q.1<=l.length/\q.2.1=(Df (l.take q.1)).foldl Cm []/\OX q.1 q.2.1) (0,[],_,_) ⟨BW _,rfl,Ar _,λy h=>by cases h⟩ AK ?_;rintro⟨i,R,g,n⟩ F ⟨hi,hJ⟩;dsimp only at hi hJ⊢;rcases BE i l.length with h2|h2
 rotate_left
 ·have k1:=Cg h2
  have:i=l.length:=by omega
  subst this;have hR:=hJ.1;rw[Cw]at hR;have hf:=Fx (H:=[⟨606,g,53,3,R.map AE.D⟩]) (Hf:=[]) (k:=606) (g:=g) (T:=53) (sz:=3) (l:=R.map AE.D) rfl;rw[Ab]at hf;refine AF PZ k1 AB AB AB AB AB AB ?_;exact⟨_,hf,AA.out,by rw[hR];rfl⟩
 have k1:=Ch h2;have wi:=Cc (i:=i) (by omega);obtain⟨x,hx'⟩:=CO h2;have hxm:=hx x (Ax hx');have hm:(l.map AE.D)[i]?=some (.agg [str (sb x.grain),i64 x.mass,.sl false 2 (x.shs.map Au.D)]):=by rw[Ay,hx'];rfl
 have cO:=Pl x x.mass hxm.2.2
 by_cases hz:x.mass=0
 ·have g0:(x.mass==0)=true:=by rw[hz];rfl
  refine AF PZ (D9 k1 g0 wi kN kT kF) hm AB AB AB AB AB ?_;exact⟨(i+1,R,g,n+1000),⟨h2,by dsimp only;rw[qr hx' hz];exact hJ.1,by dsimp only;have:=hJ.2.1;omega,λy hy=>by
   obtain⟨a,b,c⟩:=hJ.2.2 y hy;refine⟨a,?_,c⟩;dsimp only;omega⟩,by dsimp only;omega,AK⟩
 have hJ':Cm R x=(Df (l.take (i+1))).foldl Cm []/\OX (i+1) (Cm R x):=⟨by rw[qt hx' hz,List.foldl_append,<-hJ.1];rfl,UA hJ.2 hxm⟩
 have g0:(x.mass==0)=false:=Bo.2 hz;have hRl:(R.map AE.D).length=R.length:=Ab ..;have hRb:=hJ.2.1;rcases D7 R.length with hR0|hR0
 ·have hRn:R=[]:=FB hR0
  subst hRn;have g1:decide (((0:Nat):Int)>0)=false:=rfl;unfold AE.D at cO;unfold CY at cO;obtain⟨S,hS⟩:∃S,x.shs.map Au.D=S:=⟨_,rfl⟩
  have pS:AA (.sl false 2 S):=by rw[<-hS];exact AJ
  rw[hS]at cO hm;rw[Hm,List.map_nil];refine AF PZ (CM k1 g0 g1 wi kN kT kF) hm cO AB AB AB AB ?_;refine⟨(i+1,[x],n+1+1+1+1+1+1+1+1+1+1+1+1+12+1+1+1+1+1+1+1+1+1,n+1000),⟨h2,hJ'⟩,by dsimp only;omega,?_⟩;dsimp only;rw[show[x].map AE.D=[.agg [str (sb x.grain),i64 x.mass,.sl false 2 S]]from by rw[<-hS];rfl];exact AK
 have g1:decide ((R.length:Int)>0)=true:=BR;obtain⟨y,hy⟩:=CO (show R.length-1<R.length by omega);have hym:=hJ.2.2 y (Ax hy);have w2:IntKind.i64.wrap ((R.length:Int)-1)=((R.length-1:Nat):Int):=by rw[wI];omega
 have w3:IntKind.i64.wrap (y.mass+x.mass)=y.mass+x.mass:=wI;have hm2:(R.map AE.D)[R.length-1]?=some (.agg [str (sb y.grain),i64 y.mass,.sl false 2 (y.shs.map Au.D)]):=by rw[Ay,hy];rfl
 have cK:=r6 y x hym.2.2 hxm.2.2;have hN:=Yb (x:=x) hy;have hset:=Zd (z:=y.w (y.mass+x.mass)) hy;unfold AE.D CY at cO cK;obtain⟨S,hS⟩:∃S,x.shs.map Au.D=S:=⟨_,rfl⟩
 have pS:AA (.sl false 2 S):=by rw[<-hS];exact AJ
 obtain⟨SY,hSY⟩:∃S,y.shs.map Au.D=S:=⟨_,rfl⟩
 have pSY:AA (.sl false 2 SY):=by rw[<-hSY];exact AJ
 rw[hS]at cO hm cK;rw[hSY]at cK hm2;obtain⟨RD,hRD⟩:∃T,R.map AE.D=T:=⟨_,rfl⟩
 rw[hRD]at hm2 hRl⊢;have hr:0<=((R.length-1:Nat):Int)/\((R.length-1:Nat):Int)<(R.length:Int):=by omega
 obtain⟨q,hq⟩:∃q,FO y x=q:=⟨_,rfl⟩
 rw[hq]at cK hN;cases q
 ·rw[hN,AH Bool.false_ne_true]at hJ'
  refine AF PZ (CM k1 g0 g1 w2 wi kN (Bb BV hm2 kT kF)) hm cO cK AB AB AB ?_;refine⟨(i+1,R++[x],n+1+1+1+1+1+1+1+1+1+1+1+1+12+1+1+1+1+1+1+1+1+1,n+1000),⟨h2,hJ'⟩,by dsimp only;omega,?_⟩;dsimp only;rw[Be,Cz,hRD,Cn (show RD.length<=R.length by omega)];rw[show[x].map AE.D=[.agg [str (sb x.grain),i64 x.mass,.sl false 2 S]]from by rw[<-hS];rfl];exact AK
 ·rw[hN,AI rfl]at hJ'
  refine AF PZ (CM k1 g0 g1 w2 w3 wi (CS kN BV hm2 kT kF)) hm cO cK AB AB AB ?_;refine⟨(i+1,R.dropLast++[y.w (y.mass+x.mass)],g,n+1000),⟨h2,hJ'⟩,by dsimp only;omega,?_⟩;dsimp only;rw[<-hset,DK,List.map_set,hRD];rw[show(y.w (y.mass+x.mass)).D=.agg [str (sb y.grain),i64 (y.mass+x.mass),.sl false 2 SY]from by rw[<-hSY];rfl];exact AK
theorem RG (b:Bool)(l:List AE)(hl:l.length<=1000000)(hx:∀x∈l,1<=x.mass/\x.mass<=1000000000/\x.shs.length<=1000000):AL C0 38 [AV b l] (AV false (A9 l)):=by
 have h:=Un b l hl λx h=>⟨by have:=(hx x h).1;omega,(hx x h).2⟩
 rw[xh λx h=>(hx x h).1]at h;exact h
abbrev Rn:Dr:=[(6,[0,1,2,3,4,5,6,7,8,9,10,11],[12,13]),(7,[0,1,2,3,4,5,6,7,8,9,10,11,12,13,14],[15,16,17])]
open Go.Proofs Go.RowKit
set_option maxRecDepth 20000
set_option maxHeartbeats 4000000
theorem PX (b:Bool)(l:List AE)(hl:l.length<=1000000)(hx:∀x∈l,1<=x.mass/\x.mass<=1000000000/\x.shs.length<=1000000):AL C0 82 [AV b l] (AV false (A9 l)):=by
 refine Af.walk w1 yq rfl λF=>?_
 have el:(((l.map AE.D).length:Nat):Int)=(l.length:Int):=by rw[Ab]
 refine sR 0 ?_;refine sR 100 ?_;refine AC.seq ?_;refine sR 200 ?_;refine AC.ghost 906 53 3 [(0,AV b l),(3,.osl 906 _ 3 0 0),(4,i64 ((0:Nat):Int))] ⟨.inl rfl,.inr ⟨rfl,rfl⟩,.inl rfl,trivial⟩ ?_;refine AC.block ?_;refine AC.loop (α:=Nat×List AE×Nat×Nat) (λp=>⟨[(0,AV b l),(3,.osl 906 p.2.2.1 3 0 p.2.1.length),(4,i64 (p.1:Int))],[⟨906,p.2.2.1,53,3,p.2.1.map AE.D⟩],p.2.2.2⟩) (λp=>l.length-p.1) (λq=>q.1<=l.length/\Wx l q.1 q.2.1) (0,[],_,_) ⟨BW _,rfl,Ar _,λy h=>by cases h⟩ AK ?_;rintro⟨i,R,g,n⟩ F ⟨hi,hJ⟩;dsimp only at hi hJ⊢;rcases BE i l.length with h2|h2
 rotate_left
 ·have k1:=Cg h2
  have:i=l.length:=by omega
  subst this;have hR:=hJ.1;rw[Cw]at hR;have hf:=Fx (H:=[⟨906,g,53,3,R.map AE.D⟩]) (Hf:=[]) (k:=906) (g:=g) (T:=53) (sz:=3) (l:=R.map AE.D) rfl;rw[Ab]at hf;refine AF Rn (Aa el k1) AB AB AB AB AB AB ?_;exact⟨_,hf,AA.out,by rw[hR];rfl⟩
 have k1:=Ch h2;have wi:=Cc (i:=i) (by omega);obtain⟨x,hx'⟩:=CO h2;have hxm:=hx x (Ax hx');have hJ':=m7 hJ hx' hxm;have hm:(l.map AE.D)[i]?=some (.agg [str (sb x.grain),i64 x.mass,.sl false 2 (x.shs.map Au.D)]):=by rw[Ay,hx'];rfl
 have g0:decide (x.mass>0)=true:=BR;have hRl:(R.map AE.D).length=R.length:=Ab ..;have hRb:=hJ.2.1;rcases D7 R.length with hR0|hR0
 ·have hRn:R=[]:=FB hR0
  subst hRn;have g1:decide (((0:Nat):Int)>0)=false:=rfl;obtain⟨S,hS⟩:∃S,x.shs.map Au.D=S:=⟨_,rfl⟩
  have pS:AA (.sl false 2 S):=by rw[<-hS];exact AJ
  rw[hS]at hm;rw[Hm,List.map_nil];refine AF Rn (CM el k1 g0 g1 wi kN (Aa kT kF)) hm AB AB AB AB AB ?_;refine⟨(i+1,[x],n+1+1+1+1+1+1+1+14+1+1+1+1+1+1+1+1+1+1+1+1+1+1,n+1000),⟨h2,hJ'⟩,by dsimp only;omega,?_⟩;dsimp only;rw[show[x].map AE.D=[.agg [str (sb x.grain),i64 x.mass,.sl false 2 S]]from by rw[<-hS];rfl];exact AK
 have g1:decide ((R.length:Int)>0)=true:=BR;obtain⟨y,hy⟩:=CO (show R.length-1<R.length by omega);have hym:=hJ.2.2 y (Ax hy);have w2:IntKind.i64.wrap ((R.length:Int)-1)=((R.length-1:Nat):Int):=by rw[wI];omega
 have w3:IntKind.i64.wrap (y.mass+x.mass)=y.mass+x.mass:=wI;have hm2:(R.map AE.D)[R.length-1]?=some (.agg [str (sb y.grain),i64 y.mass,.sl false 2 (y.shs.map Au.D)]):=by rw[Ay,hy];rfl
 have cK:=tY y x hym.2.2 hxm.2.2;have hN:=Yb (x:=x) hy;have hset:=Zd (z:=y.w (y.mass+x.mass)) hy;unfold AE.D CY at cK;obtain⟨S,hS⟩:∃S,x.shs.map Au.D=S:=⟨_,rfl⟩
 have pS:AA (.sl false 2 S):=by rw[<-hS];exact AJ
 obtain⟨SY,hSY⟩:∃S,y.shs.map Au.D=S:=⟨_,rfl⟩
 have pSY:AA (.sl false 2 SY):=by rw[<-hSY];exact AJ
 rw[hS]at hm cK;rw[hSY]at cK hm2;obtain⟨RD,hRD⟩:∃T,R.map AE.D=T:=⟨_,rfl⟩
 rw[hRD]at hm2 hRl⊢;have hr:0<=((R.length-1:Nat):Int)/\((R.length-1:Nat):Int)<(R.length:Int):=by omega
 obtain⟨q,hq⟩:∃q,FO y x=q:=⟨_,rfl⟩
 rw[hq]at cK hN;cases q
 ·rw[hN,AH Bool.false_ne_true]at hJ'
  refine AF Rn (CM el k1 g0 g1 w2 wi (CS kN BV hm2 kT kF)) hm cK AB AB AB AB ?_;refine⟨(i+1,R++[x],n+1+1+1+1+1+1+1+14+1+1+1+1+1+1+1+1+1+1+1+1+1+1,n+1000),⟨h2,hJ'⟩,by dsimp only;omega,?_⟩;dsimp only;rw[Be,Cz,hRD,Cn (show RD.length<=R.length by omega)];rw[show[x].map AE.D=[.agg [str (sb x.grain),i64 x.mass,.sl false 2 S]]from by rw[<-hS];rfl];exact AK
 ·rw[hN,AI rfl]at hJ'
  refine AF Rn (CM el k1 g0 g1 w2 w3 (D9 wi kN BV hm2 kT kF)) hm cK AB AB AB AB ?_;refine⟨(i+1,R.dropLast++[y.w (y.mass+x.mass)],g,n+1000),⟨h2,hJ'⟩,by dsimp only;omega,?_⟩;dsimp only;rw[<-hset,DK,List.map_set,hRD];rw[show(y.w (y.mass+x.mass)).D=.agg [str (sb y.grain),i64 (y.mass+x.mass),.sl false 2 SY]from by rw[<-hSY];rfl];exact AK
abbrev Hy:Dr:=[(11,[0,1,2,3,4,5,6,7,8,9,10,11,12,13],[14,15])]
open Go.Proofs Go.RowKit
set_option maxRecDepth 20000
set_option maxHeartbeats 4000000
theorem am {l:List Au}:∀i,i<=l.length->(∀j,j<i->Cr (Ga l j).part=0)->rk (Fg l i) (601*i+1)
 | 0,_,_=>(bF 1 (Ar _)).rk
 |i+1,hi,h=>(dq (am i (by omega) λj hj=>h j (by omega)) (No (h i (by omega)))).mono (by omega)
theorem sW {l:List Au}{i:Nat}(h:GL l i=0):Cr (Ga l i).part=0:=by
 unfold GL at h;split at h
 ·cases h
 split at h
 ·cases h
 split at h
 ·exact h
 ·rename_i h1;exact Decidable.not_not.1 h1
theorem e0h (b:Bool)(l:List Au)(hl:l.length<=15\/64<l.length)(hl2:l.length<=9223372036854775807)(hf:∀s∈l,s.few):AL C0 113 [CY b l] (i64 (IZ l:Nat)):=by
 refine Af.walk w1 uZ rfl λF=>?_
 have el:(((l.map Au.D).length:Nat):Int)=(l.length:Int):=by rw[Ab]
 have hC:IZ l=if l.length=0 then 2 else if 64<l.length then 5 else if EC (GL l) l.length≠0 then EC (GL l) l.length else if Fg l l.length=1 then 0 else 12:=rfl
 rcases Nat.decEq l.length 0 with h0|h0
 rotate_left
 ·rw[AI h0]at hC
  rw[hC];have q1:((l.length:Int)==0)=true:=by rw[h0];rfl
  refine AF Hy (Aa el q1) AB AB AB AB AB AB ?_;exact AM rfl AA.out
 rw[AH h0]at hC;have q1:((l.length:Int)==0)=false:=Bo.2 (by omega)
 by_cases h64:64<l.length
 ·rw[AI h64]at hC
  rw[hC];have q2:decide ((l.length:Int)>64)=true:=BR;refine AF Hy (Ao el q1 q2) AB AB AB AB AB AB ?_;exact AM rfl AA.out
 rw[AH h64]at hC;have q2:decide ((l.length:Int)>64)=false:=Bd;have h15:l.length<=15:=by omega
 refine AF Hy (Ao el q1 q2) AB AB AB AB AB AB ?_;refine AC.loop (α:=Nat×Nat) (λp=>⟨[(0,CY b l),(3,rR (Fg l p.1)),(4,i64 (p.1:Int))],[],p.2⟩) (λp=>l.length-p.1) (λp=>p.1<=l.length/\∀j,j<p.1->GL l j=0) (0,_)
  ⟨BW _,λj h=>Ak h (HK j)⟩ (by(dsimp only;rw[show rR (Fg l 0)=str ⟨#[48]⟩from rH];exact AK)) ?_
 rintro⟨i,m⟩ F ⟨hi,hz⟩;dsimp only at hi hz⊢;have hSk:=am (l:=l) i hi λj hj=>sW (hz j hj)
 rcases BE i l.length with h2|h2
 rotate_left
 ·have e1:=Cg h2
  have:i=l.length:=by omega
  subst this;rw[AH (λh=>h (MN hz))]at hC;have e2:=l8 (Fg l l.length);obtain⟨q,hq⟩:∃q,decide (Fg l l.length=1)=q:=⟨_,rfl⟩
  rw[hq]at e2;unfold rR;cases q
  ·rw[AH (Do hq)]at hC
   rw[hC];refine AF Hy (Ao e1 el e2) AB AB AB AB AB AB ?_;exact AM rfl AA.out
  ·rw[AI (DN hq)]at hC
   rw[hC];refine AF Hy (Ao e1 el e2) AB AB AB AB AB AB ?_;exact AM rfl AA.out
 have e1:=Ch h2;have wi:=Cc (i:=i) (by omega);obtain⟨s,hs⟩:=CO h2;have hm:(l.map Au.D)[i]?=some (.agg [str (sb s.lot),str (sb s.part)]):=by rw[Ay,hs];rfl
 obtain⟨f1,f2⟩:=hf s (Ax hs);have hE:GL l i=if D3 s.lot=false then 8 else if 0<i/\P5 s.lot (Ga l (i-1)).lot=true then 11 else if Cr s.part≠0 then Cr s.part else if Hh (Cd s.part)<=0 then 12 else 0:=by unfold GL;rw[KU hs]
 have hbad:∀e:Nat,e≠0->GL l i=e->IZ l=e:=λe he h=>by
  have:=Pb hz h2 (by rw[h];exact he)
  rw[hC,this,h,AI he]
 have cN:=iN s.lot (by omega);obtain⟨N,hN⟩:∃q,D3 s.lot=q:=⟨_,rfl⟩
 rw[hN]at cN hE;cases N
 ·rw[AI rfl]at hE
  rw[hbad 8 (by decide) hE];refine AF Hy (Ao e1 el kN) hm cN AB AB AB AB ?_;exact AM rfl AA.out
 rw[AH (by decide)]at hE;have cC:=xT s.part f2;rcases i with _|q
 ·have g0:decide (((0:Nat):Int)>0)=false:=rfl
  rw[AH (λh=>Ak h.1 (Nat.lt_irrefl 0))]at hE;rcases Nat.decEq (Cr s.part) 0 with hc0|hc0
  ·rw[AI hc0]at hE
   have e3:=G9 hc0;rw[hbad (Cr s.part) hc0 hE];refine AF Hy (CS e1 el g0 kN e3) hm cN cC AB AB AB ?_;exact AM rfl AA.out
  rw[AH (λh=>h hc0)]at hE;have e3:=HA hc0;have cG:=dx (Cd s.part) (Z6 hc0);have cA:=iq (Fg l 0) (Cd s.part) (601*0+1) 600 hSk (No hc0) (by omega);rw[V4 hc0]at cG cA;have hnext:Fg l (0+1)=Fg l 0+Cd s.part:=by show _+Cd (Ga l 0).part=_;rw[KU hs]
  rw[<-hnext]at cA;obtain⟨sg,hsg⟩:∃q,Hh (Cd s.part)=q:=⟨_,rfl⟩
  rw[hsg]at cG hE
  by_cases hs0:sg<=0
  ·rw[AI hs0]at hE
   have e4:decide (sg<=0)=true:=Aw hs0;rw[hbad 12 (by decide) hE];refine AF Hy (D9 e1 el g0 kN e3 e4) hm cN cC cG AB AB ?_;exact AM rfl AA.out
  rw[AH hs0]at hE;have e4:decide (sg<=0)=false:=Az hs0;refine AF Hy (CM e1 el g0 kN e3 e4 wi) hm cN cC cG cA AB ?_;exact⟨(0+1,_),⟨h2,λj hj=>by
   rcases Ko.1 hj with q|q
   ·exact hz j q
   ·rw[q];exact hE⟩,by dsimp only;omega,AK⟩
 ·have g0:decide (((q+1:Nat):Int)>0)=true:=BR
  have g1:IntKind.i64.wrap (((q+1:Nat):Int)-1)=(q:Int):=by rw[wI];omega
  obtain⟨s0,hs0'⟩:=CO (l:=l) (i:=q) (by omega);have hm0:(l.map Au.D)[q]?=some (.agg [str (sb s0.lot),str (sb s0.part)]):=by rw[Ay,hs0'];rfl
  rw[JP,KU hs0']at hE;obtain⟨bL,hbL⟩:∃q,P5 s.lot s0.lot=q:=⟨_,rfl⟩
  have g2:(Mt (sb s.lot) (sb s0.lot)||BJ (sb s.lot) (sb s0.lot))=bL:=hbL;rw[hbL]at hE;cases bL
  rotate_left
  ·rw[AI ⟨Nat.succ_pos q,rfl⟩]at hE
   rw[hbad 11 (by decide) hE];refine AF Hy (D9 e1 el g0 g1 g2 kN) hm hm0 cN AB AB AB ?_;exact AM rfl AA.out
  rw[AH (λh=>Ak h.2 (by decide))]at hE;rcases Nat.decEq (Cr s.part) 0 with hc0|hc0
  ·rw[AI hc0]at hE
   have e3:=G9 hc0;rw[hbad (Cr s.part) hc0 hE];refine AF Hy (CM e1 el g0 g1 g2 kN e3) hm hm0 cN cC AB AB ?_;exact AM rfl AA.out
  rw[AH (λh=>h hc0)]at hE;have e3:=HA hc0;have cG:=dx (Cd s.part) (Z6 hc0);have cA:=iq (Fg l (q+1)) (Cd s.part) (601*(q+1)+1) 600 hSk (No hc0) (by omega);rw[V4 hc0]at cG cA;have hnext:Fg l ((q+1)+1)=Fg l (q+1)+Cd s.part:=by show _+Cd (Ga l (q+1)).part=_;rw[KU hs]
  rw[<-hnext]at cA;obtain⟨sg,hsg⟩:∃q,Hh (Cd s.part)=q:=⟨_,rfl⟩
  rw[hsg]at cG hE
  by_cases hs0:sg<=0
  ·rw[AI hs0]at hE
   have e4:decide (sg<=0)=true:=Aw hs0;rw[hbad 12 (by decide) hE];refine AF Hy (CM e1 el g0 g1 g2 kN (Aa e3 e4)) hm hm0 cN cC cG AB ?_;exact AM rfl AA.out
  rw[AH hs0]at hE;have e4:decide (sg<=0)=false:=Az hs0;refine AF Hy (CM e1 el g0 g1 g2 kN (Ao e3 e4 wi)) hm hm0 cN cC cG cA ?_;exact⟨((q+1)+1,_),⟨h2,λj hj=>by
   rcases Ko.1 hj with q|q
   ·exact hz j q
   ·rw[q];exact hE⟩,by dsimp only;omega,AK⟩
theorem d9Y (x:AE)(hs:x.shs.length<=15\/64<x.shs.length)(hf:x.few):AL C0 84 [x.D] (i64 (Ct x:Nat)):=by
 refine Af.walk w1 yu rfl λF=>?_
 obtain⟨f1,f2,f3⟩:=hf;have cN:=iN x.grain (by omega);have cS:=e0h false x.shs hs f2 f3;have hC:Ct x=if D3 x.grain=false then 8 else if x.mass<1\/x.mass>999999999 then 3 else IZ x.shs:=rfl
 obtain⟨N,hN⟩:∃q,D3 x.grain=q:=⟨_,rfl⟩
 obtain⟨SD,hSD⟩:∃d,CY false x.shs=d:=⟨_,rfl⟩
 have pS:AA SD:=by rw[<-hSD];exact AJ
 have hna:KP SD=true:=by rw[<-hSD];rfl
 unfold AE.D;rw[hN]at cN hC;rw[hSD]at cS⊢;cases N
 ·rw[AI rfl]at hC
  rw[hC];refine AF AY kB cN AB AB AB AB AB ?_;exact AM rfl AA.out
 rw[AH (by decide)]at hC
 by_cases h1:x.mass<1
 ·rw[AI (.inl h1)]at hC
  rw[hC];have e1:decide (x.mass<1)=true:=Aw h1;refine AF AY e1 cN AB AB AB AB AB ?_;exact AM rfl AA.out
 have e1:decide (x.mass<1)=false:=Az h1
 by_cases h2:x.mass>999999999
 ·rw[AI (.inr h2)]at hC
  rw[hC];have e2:decide (x.mass>999999999)=true:=Aw h2;refine AF AY (Aa e1 e2) cN AB AB AB AB AB ?_;exact AM rfl AA.out
 have e2:decide (x.mass>999999999)=false:=Az h2;rw[CP]at hC;rw[hC];refine AF AY (Ao e1 e2 hna) cN cS AB AB AB AB ?_;exact AM rfl AA.out
theorem Mj {H Hf:Hp}{K g T sz n:Nat}{l:List D}(h:Hp.get H K=some ⟨K,g,T,sz,l⟩)(hf:Hp.get Hf K=none)(hn:n=l.length):Fz H Hf (.osl K g sz 0 n) (.sl false sz l):=by
 subst hn;refine .osl (e:=⟨K,g,T,sz,l⟩) h hf rfl rfl (by simp) (by simp) (λj d d' h1 h2=>?_) λj d d' q c c' h1 h2 h3 h4=>?_
 ·rw[BV]at h1;rw[h1]at h2;cases h2;rfl
 ·rw[BV]at h1;rw[h1]at h2;cases h2;rw[h3]at h4;cases h4;exact Fz.refl _
def Il (lot:List UInt8)(r:Rat):B5->B5
 | []=>[(lot,r)]
 |p::l=>if ltStr p.1 lot then p::Il lot r l else if p.1=lot then(p.1,p.2+r)::l else(lot,r)::p::l
def M5 (x:AE)(n:Nat)(q:B5):B5:=(x.shs.take n).foldl (λacc s=>Il s.lot (Cd s.part*(x.mass:Rat)) acc) q
def Li (l:List AE):B5:=l.foldl (λacc x=>M5 x x.shs.length acc) []
theorem mC (x:AE)(n:Nat)(q:B5){s:Au}(h:x.shs[n]?=some s):M5 x (n+1) q=Il s.lot (Cd s.part*(x.mass:Rat)) (M5 x n q):=by
 unfold M5;rw[Dp,h,List.foldl_append];rfl
theorem kj (l:List AE)(n:Nat){x:AE}(h:l[n]?=some x):Li (l.take (n+1))=M5 x x.shs.length (Li (l.take n)):=by
 unfold Li;rw[Dp,h,List.foldl_append];rfl
abbrev Ht (q:B5):Prop:=q.Pairwise λa b=>ltStr a.1 b.1=true
theorem Ht.nd {q:B5}(h:Ht q):(DC q).Nodup:=by
 rw[DC,List.Nodup,List.pairwise_map];exact h.imp λ{a b} h e=>by rw[e,swo_ltStr.irrefl]at h;cases h
theorem RN {lot:List UInt8}{o v:Rat}:∀ {q:B5},Gf lot q=some o->∃A B,q=A++(lot,o)::B/\HC lot v q=A++(lot,v)::B
 | [],h=>by simp[Gf]at h
 |p::l,h=>by
  unfold Gf at h;unfold HC;split at h
  ·rename_i e
   cases h;rw[AI e];exact⟨[],l,by rw[e];rfl,rfl⟩
  ·rename_i e
   rw[AH e];obtain⟨A,B,h1,h2⟩:=RN (v:=v) h;exact⟨p::A,B,by rw[h1];rfl,by rw[h2];rfl⟩
theorem UI {lot:List UInt8}{v:Rat}:∀ {q:B5},Gf lot q=none->lot∉DC q/\HC lot v q=q++[(lot,v)]
 | [],_=>⟨by simp[DC],rfl⟩
 |p::l,h=>by
  unfold Gf at h;unfold HC;split at h
  ·cases h
  ·rename_i e
   rw[AH e];obtain⟨h1,h2⟩:=UI (v:=v) h;exact⟨λq=>by
    rcases A8.1 q with q|q
    ·exact e q
    ·exact h1 q,by rw[h2];rfl⟩
theorem Zl {lot:List UInt8}{r:Rat}:∀ {Q:B5},Ht Q->(∃A o B,Q=A++(lot,o)::B/\Il lot r Q=A++(lot,o+r)::B)\/(lot∉DC Q/\∃A B,Q=A++B/\Il lot r Q=A++(lot,r)::B)
 | [],_=>.inr ⟨by simp[DC],[],[],rfl,rfl⟩
 |p::l,h=>by
  have hp:=EL.1 h;unfold Il;split
  ·rename_i e
   rcases Zl (lot:=lot) (r:=r) hp.2 with⟨A,o,B,h1,h2⟩|⟨h0,A,B,h1,h2⟩
   ·exact .inl ⟨p::A,o,B,by rw[h1];rfl,by rw[h2];rfl⟩
   ·refine .inr ⟨λq=>?_,p::A,B,by rw[h1];rfl,by rw[h2];rfl⟩
    rcases A8.1 q with q|q
    ·rw[show p.1=lot from q.symm,swo_ltStr.irrefl]at e;cases e
    ·exact h0 q
  ·rename_i e
   split
   ·rename_i e2
    exact .inl ⟨[],p.2,l,by rw[<-e2];rfl,by rw[e2];rfl⟩
   ·rename_i e2
    refine .inr ⟨λq=>?_,[],p::l,rfl,rfl⟩;rcases A8.1 q with q|q
    ·exact e2 q.symm
    ·obtain⟨z,hz,rfl⟩:=Bx.1 q
     exact e (hp.1 z hz)
theorem Yu {lot:List UInt8}{r:Rat}:∀ {Q:B5},∀z∈Il lot r Q,z.1=lot\/z.1∈DC Q
 | [],z,hz=>by
  unfold Il at hz;rw[EJ]at hz;exact .inl (by rw[hz])
 |p::l,z,hz=>by
  unfold Il at hz;split at hz
  ·rcases A8.1 hz with rfl|hz
   ·exact .inr CF
   ·rcases Yu z hz with h|h
    ·exact .inl h
    ·exact .inr (CL _ h)
  ·split at hz
   ·rcases A8.1 hz with rfl|hz
    ·exact .inr CF
    ·exact .inr (CL _ (List.mem_map_of_mem hz))
   ·rcases A8.1 hz with rfl|hz
    ·exact .inl rfl
    ·exact .inr (List.mem_map_of_mem hz)
theorem aG {lot:List UInt8}{r:Rat}:∀ {Q:B5},Ht Q->Ht (Il lot r Q)
 | [],_=>List.pairwise_singleton _ _
 |p::l,h=>by
  have hp:=EL.1 h;unfold Il;split
  ·rename_i e
   refine EL.2 ⟨λz hz=>?_,aG hp.2⟩;rcases Yu z hz with h|h
   ·rw[h];exact e
   ·obtain⟨y,hy,h2⟩:=Bx.1 h
    rw[<-h2];exact hp.1 y hy
  ·rename_i e
   split
   ·exact EL.2 ⟨hp.1,hp.2⟩
   ·rename_i e2
    have e3:ltStr lot p.1=true:=by
     cases h9:ltStr lot p.1 with
     |true=>rfl
     |false=>exact Ak (YM (by simpa using e) h9) e2
    refine EL.2 ⟨λz hz=>?_,h⟩;rcases A8.1 hz with rfl|hz
    ·exact e3
    ·exact swo_ltStr.trans _ _ _ e3 (hp.1 z hz)
theorem rT {Q q:B5}(hs:Ht Q)(hp:Q.Perm q)(lot:List UInt8)(r:Rat):(Il lot r Q).Perm (Kl lot r q):=by
 have hnd:(DC Q).Nodup:=hs.nd;unfold Kl;rcases Zl (lot:=lot) (r:=r) hs with⟨A,o,B,h1,h2⟩|⟨h0,A,B,h1,h2⟩
 ·have hm:(lot,o)∈q:=hp.mem_iff.1 (by rw[h1];simp)
  have hqn:(DC q).Nodup:=(hp.map _).nodup_iff.1 hnd;have hlk:=UT hqn hm;dsimp only at hlk;rw[hlk];dsimp only;obtain⟨A2,B2,h3,h4⟩:=RN (v:=r+o) hlk;rw[h2,h4];have p1:(A++(lot,o)::B).Perm ((lot,o)::(A++B)):=Hl;have p2:(A2++(lot,o)::B2).Perm ((lot,o)::(A2++B2)):=Hl;have p3:(A++B).Perm (A2++B2):=by
   rw[h1,h3]at hp;exact List.Perm.cons_inv (p1.symm.trans (hp.trans p2))
  rw[Rat.add_comm o r];exact Hl.trans ((p3.cons _).trans Hl.symm)
 ·have hn:Gf lot q=none:=by
   cases h9:Gf lot q with
   |none=>rfl
   |some o=>
    obtain⟨A2,B2,h3,-⟩:=RN (v:=o) h9;exact Ak ((hp.map (·.1)).mem_iff.2 (by rw[h3];simp)) h0
  rw[hn];dsimp only;rw[(UI (v:=r) hn).2,h2];rw[h1]at hp;exact Hl.trans ((hp.cons _).trans (List.perm_append_singleton _ _).symm)
theorem aH {Q q:B5}(hs:Ht Q)(hp:Q.Perm q)(x:AE):∀j,j<=x.shs.length->Ht (M5 x j Q)/\(M5 x j Q).Perm (G5 x j q)
 | 0,_=>⟨hs,hp⟩
 |j+1,hj=>by
  obtain⟨s,hsj⟩:∃s,x.shs[j]?=some s:=⟨_,Bs hj⟩
  obtain⟨h1,h2⟩:=aH hs hp x j (by omega);rw[mC x j Q hsj,O4 x j q hsj];exact⟨aG h1,rT h1 h2 _ _⟩
theorem Um (l:List AE):∀i,i<=l.length->Ht (Li (l.take i))/\(Li (l.take i)).Perm (CU (l.take i))
 | 0,_=>⟨List.Pairwise.nil,.refl _⟩
 |i+1,hi=>by
  obtain⟨x,hx⟩:∃x,l[i]?=some x:=⟨_,Bs hi⟩
  obtain⟨h1,h2⟩:=Um l i (by omega);rw[kj l i hx,Qy l i hx];exact aH h1 h2 x _ (Ar _)
theorem Ht.weak {q:B5}(h:Ht q):q.Pairwise λa b=>ltStr b.1 a.1=false:=h.imp λ{a b} h=>by
 cases h9:ltStr b.1 a.1 with
 |false=>rfl
 |true=>have:=swo_ltStr.trans _ _ _ h h9;rw[swo_ltStr.irrefl]at this;cases this
theorem Zo (l:List AE):Li l=GE (CU l):=by
 obtain⟨h1,h2⟩:=Um l l.length (Ar _);rw[Cw]at h1 h2;exact Tt ((h2.map _).nodup_iff.1 h1.nd) h2 (K9 _) h1.weak (R6 _)
theorem oR (l:List AE):Ht (Li l):=by
 obtain⟨h1,-⟩:=Um l l.length (Ar _)
 rwa [Cw]at h1
def EN (g:List UInt8)(x:AE):AE:=⟨g,x.mass,x.shs⟩
def H6 (l:List AE)(g:List UInt8):Nat:=if Bw l≠0 then Bw l else if D3 g=false then 8 else if l.length=0 then 13 else 0
def JE (l:List AE)(g:List UInt8):Nat:=if H6 l g≠0 then H6 l g else Hb (l.map (EN g))
def Ms (l:List AE)(g:List UInt8):AE:=if H6 l g≠0 then⟨[],0,[]⟩else Lw (l.map (EN g))
theorem sK (g:List UInt8){l:List AE}{i:Nat}{x:AE}(hx:l[i]?=some x):
  (((l.take i).map (EN g)++l.drop i).map AE.D).set i (.agg [str (sb g),i64 x.mass,.sl false 2 (x.shs.map Au.D)])=((l.take (i+1)).map (EN g)++l.drop (i+1)).map AE.D:=by
 have hi:=(BS.1 hx).1;have hd:l.drop i=x::l.drop (i+1):=by
  rw[Et hi,(BS.1 hx).2]
 rw[Dp,hx,hd];simp only[Cz,Cx,Option.toList_some,List.map_nil,Du,EU,Ei];rw[Ob _ _ (by simp;omega)]
 have:i-(((l.take i).map (EN g)).map AE.D).length=0:=by simp;omega
 rw[this];rfl
theorem iV (b:Bool)(l:List AE)(g:List UInt8)(hl:l.length<=1000000)(hf:∀x∈l,x.lite)(hg:g.length<=100000):AL C0 20 [AV b l,str (sb g)] (.tup [(Ms l g).D,i64 (JE l g:Nat)]):=by
 refine Af.walk w1 gB rfl λF=>?_
 have el:(((l.map AE.D).length:Nat):Int)=(l.length:Int):=by rw[Ab]
 have cP:=M2 b l (by omega) λx hx=>(hf x hx).1
 have cN:=R2 g;have hN:JE l g=if H6 l g≠0 then H6 l g else Hb (l.map (EN g)):=rfl
 have hL:Ms l g=if H6 l g≠0 then⟨[],0,[]⟩else Lw (l.map (EN g)):=rfl
 have hE:H6 l g=if Bw l≠0 then Bw l else if D3 g=false then 8 else if l.length=0 then 13 else 0:=rfl
 obtain⟨K,hK⟩:∃K,D3 g=K:=⟨_,rfl⟩
 have cW1:=GQ (!K) 8;have cW2:=GQ ((l.length:Int)==0) 13;have cF:AL C0 30 [.sl true 1 [i64 (Bw l:Nat),i64 (if !K then 8 else 0),i64 (if(l.length:Int)==0 then 13 else 0)]] (i64 (H6 l g:Nat)):=by
  have:=I6 [(Bw l:Int),if !K then 8 else 0,if(l.length:Int)==0 then 13 else 0] (by simp)
  have he:Ck [(Bw l:Int),if !K then 8 else 0,if(l.length:Int)==0 then 13 else 0]=((H6 l g:Nat):Int):=by
   rw[hE,hK]
   by_cases h1:Bw l=0<;>cases K<;>by_cases h3:l.length=0<;>simp[Ck,h1,h3]
  rw[he]at this;exact this
 rw[hK]at cN;rcases Nat.decEq (H6 l g) 0 with g0|g0
 ·have e1:=G9 g0
  rw[AI g0]at hN hL;rw[hN,hL];refine AF AY (Aa el e1) cP cN cW1 cW2 cF AB ?_;exact⟨_,Pc _ _,AA.out,rfl⟩
 have e1:=HA g0;rw[AH (λh=>h g0)]at hN hL;rw[hN,hL];have h0:l≠[]:=λh=>by
  rw[hE]at g0;split at g0
  ·rename_i h9;exact h9 g0
  ·split at g0
   ·cases g0
   ·split at g0
    ·cases g0
    ·rename_i h9;exact h9 (by rw[h];rfl)
 refine AF AY (Aa el e1) cP cN cW1 cW2 cF AB ?_;refine BF.own _ (no b l hl h0 _ _) ?_;rintro d H' n' ⟨gk,rfl,rfl,rfl⟩;refine AF AY kB AB AB AB AB AB AB ?_;refine AC.loop (α:=Nat×Nat) (λp=>⟨[(1,str (sb g)),(4,.optr 0 0 3 0 0),(7,.osl 302 gk 3 0 l.length),(28,i64 (l.length:Int)),(29,i64 (p.1:Int))],[⟨302,gk,53,3,((l.take p.1).map (EN g)++l.drop p.1).map AE.D⟩,⟨0,0,53,3,[.agg [.prim (.string ⟨#[]⟩),.prim (.int .i64 0),.prim (.slice none 0 0)]]⟩],p.2⟩) (λp=>l.length-p.1)
  (λp=>p.1<=l.length) (0,_) (BW _) AK ?_
 rintro⟨i,n⟩ F hi;dsimp only at hi⊢;rcases BE i l.length with h2|h2
 rotate_left
 ·have e1:=Cg h2
  have:i=l.length:=by omega
  subst this;rw[Cw,JS,De];have hlr:(l.map (EN g)).length=l.length:=Ab ..;have hfr:∀x∈l.map (EN g),x.lite:=λx hx=>by
   obtain⟨y,hy,rfl⟩:=Bx.1 hx;obtain⟨⟨a1,a2,a3⟩,a4⟩:=hf y hy;exact⟨⟨hg,a2,a3⟩,a4⟩
  have cM:=d9U false (l.map (EN g)) (by rw[hlr];exact hl) hfr;obtain⟨R,hR⟩:∃R,l.map (EN g)=R:=⟨_,rfl⟩
  rw[hR]at cM hlr⊢;obtain⟨Z,hZ⟩:∃Z:AE,Lw R=Z:=⟨_,rfl⟩
  rw[hZ]at cM⊢;refine AF AY e1 AB AB AB AB AB AB ?_;have hfz:Fz [⟨302,gk,53,3,R.map AE.D⟩,⟨0,0,53,3,[.agg [.prim (.string ⟨#[]⟩),.prim (.int .i64 0),.prim (.slice none 0 0)]]⟩] [⟨0,0,53,3,[.agg [.prim (.string ⟨#[]⟩),.prim (.int .i64 0),.prim (.slice none 0 0)]]⟩] (.osl 302 gk 3 0 l.length) (AV false R):=by
   have:=Fx (H:=[⟨302,gk,53,3,R.map AE.D⟩,⟨0,0,53,3,[.agg [.prim (.string ⟨#[]⟩),.prim (.int .i64 0),.prim (.slice none 0 0)]]⟩]) (Hf:=[⟨0,0,53,3,[.agg [.prim (.string ⟨#[]⟩),.prim (.int .i64 0),.prim (.slice none 0 0)]]⟩]) (k:=302) (g:=gk) (T:=53) (sz:=3) (l:=R.map AE.D) rfl
   rwa [Ab,hlr]at this
  refine BF.own _ (CX.give [⟨0,0,53,3,[.agg [.prim (.string ⟨#[]⟩),.prim (.int .i64 0),.prim (.slice none 0 0)]]⟩] cM (.drop (.keep .nil)) ⟨hfz,trivial⟩ AJ) ?_;rintro d H2 n2 ⟨rfl,rfl,rfl⟩;unfold AE.D;refine AF AY kB AB AB AB AB AB AB ?_;exact AM rfl AA.out
 have e1:=Ch h2;have wi:=Cc (i:=i) (by omega);obtain⟨x,hx⟩:=CO h2;obtain⟨es,hes⟩:∃es,((l.take i).map (EN g)++l.drop i).map AE.D=es:=⟨_,rfl⟩
 rw[hes];have hm:es[i]?=some (.agg [str (sb x.grain),i64 x.mass,.sl false 2 (x.shs.map Au.D)]):=by
  rw[<-hes,Ay,FC (by simp;omega)];simp only[Ab,Bc,Fp (Kt h2),Nat.sub_self,HI,Dv,hx,J3];rfl
 refine sZ 600 ?_;refine AG e1 ?_;refine AC.seq ?_;refine AO ?_;refine An ?_;refine AC.seq ?_;refine AC.block ?_;refine sZ 700 ?_;refine AG kB ?_;refine As 800 ?_;refine AG (Ao kN BV hm) ?_;have hset:es.set i (.agg [str (sb g),i64 x.mass,.sl false 2 (x.shs.map Au.D)])=((l.take (i+1)).map (EN g)++l.drop (i+1)).map AE.D:=by
  rw[<-hes];exact sK g hx
 rw[hset];refine AF AY wi AB AB AB AB AB AB ?_;exact⟨(i+1,_),h2,by dsimp only;omega,AK⟩
end Go.Ide
