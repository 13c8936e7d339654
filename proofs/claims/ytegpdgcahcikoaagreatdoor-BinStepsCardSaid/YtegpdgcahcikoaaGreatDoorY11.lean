/- The layer of own lemmas and contracts, part 11. -/
import Derived.Test.YtegpdgcahcikoaaGreatDoorY9
import Derived.Test.YtegpdgcahcikoaaGreatDoorY10
import Derived.Test.YtegpdgcahcikoaaGreatDoorY3
import Derived.Test.YtegpdgcahcikoaaGreatDoorY7
import Derived.Shelf.RegionOpenPlain
import Derived.Lib.Builder
import Derived.Lib.UnsafeStr
import Derived.Lib.Strings
import Derived.Lib.Slices
import Derived.Lib.Walk
import Derived.Laws.Externs
import Derived.KernelRfl
import Derived.WalkKit
import Derived.Shelf.Strconv.Itoa3
import Derived.Lib.ItoaMem
import Derived.Lib.AppendIntMem
import Derived.BigCall
import Derived.BigGuard
import Derived.Test.YtegpdgcahcikoaaGreatDoorY8
import Derived.Test.YtegpdgcahcikoaaGreatDoorY4
import Derived.Shelf.SlSortCmp.WholeK
import Derived.Shelf.Lay
import Derived.Laws.Cover1
import Derived.Shelf.Small.Bits
import Derived.Ground.SlsfProg
import Derived.Ground.NamesProg
import Derived.Shelf.SlIter.Sorted
import Derived.Shelf.SortM.Plain
import Derived.Shelf.SortM.SortNone
import Derived.Ground.GgzProg
import Derived.Ground.SlgmProg
set_option linter.unusedVariables false
set_option linter.unusedSimpArgs false
namespace Go.Ide
open Go.Proofs Go.RowKit
set_option maxRecDepth 20000
set_option maxHeartbeats 4000000
theorem Ca {i n:Nat}(h:i<n):decide ((i:Int)<(n:Int))=true:=AX (by omega)
theorem CZ {i n:Nat}(h:n<=i):decide ((i:Int)<(n:Int))=false:=Ac (by omega)
theorem Cc {i:Nat}(h:i<9223372036854775807):IntKind.i64.wrap ((i:Int)+1)=((i+1:Nat):Int):=wI (by omega) (by omega)
theorem CP {α:Type}{l:List α}{i:Nat}(h:i<l.length):∃x,l[i]?=some x:=⟨l[i],BE h⟩
instance  (l:List UInt8):AV (GG l).D:=by unfold GF.D;exact AJ
theorem GO {a:Nat}(h:a≠0):(((a:Nat):Int) != 0)=true:=Ir (by omega)
theorem GP {a:Nat}(h:a=0):(((a:Nat):Int) != 0)=false:=by subst h;rfl
theorem yV {a:Nat}(h:a≠0):(((a:Nat):Int)==0)=false:=Bs.2 (by omega)
set_option maxHeartbeats 1000000
set_option maxRecDepth 100000
theorem wV {n:Nat}(h:1<=n):liesAt Tryz.prog Tryz.prog.depth 218 n 0 218 1=true:=by
 have hs:sameLayout Tryz.prog Tryz.prog.depth 218 218=true:=by kernel_rfl
 have hc:Tryz.prog.cellsOf 218=2:=by kernel_rfl
 obtain⟨d,hd⟩:∃d,Tryz.prog.depth=d+1:=⟨Tryz.prog.depth-1,by kernel_rfl⟩
 rw[hd]at hs⊢;unfold liesAt;rw[hd];unfold rowAt;simp[hc,hs,h]
theorem nX (b c:Nat)(hc:2<=c)(w:World)(h0:w.cell? ⟨b,0,none⟩=some (.pointer none))(hsh:w.shape? b=some (218,c))(hfz:w.frozen? ⟨b,0,none⟩=false):
  Calls Tryz.prog 234 #[.pointer (some ⟨b,0,none⟩)] w λe w'=>e=.returned (.tuple #[])/\w'=w.setCell ⟨b,0,none⟩ (.pointer (some ⟨b,0,none⟩)):=by
 obtain⟨j,hj,hjs⟩:=Option.map_eq_some_iff.1 (show(Tryz.prog.info? 218).map (·.size)=some 2 by kernel_rfl);have hl:liesAt Tryz.prog Tryz.prog.depth 218 (c/Tryz.prog.cellsOf 218) 0 218 1=true:=wV (by rw[show Tryz.prog.cellsOf 218=2 by kernel_rfl];omega)
 go_enter Tryz.func234,Tryz.ntmps234
 go_wp2
 rw[Lib.run_to_unsafe w ⟨b,0,none⟩ (t:=218) (by kernel_rfl) (by kernel_rfl) hj (by rw[hjs];decide) hsh (by show 0<c;omega)];simp only[Result.andThen];rw[Oper.upon_value]
 go_wp2
 rw[run_callFunc_extern Tryz.func262 (by kernel_rfl) (by kernel_rfl) (by kernel_rfl) (e:=Extern.AbiNoEscape.same) (by kernel_rfl)];rw[Lib.run_noEscape];simp only[Result.andThen];rw[Oper.upon_value]
 go_wp2
 rw[Lib.run_from_unsafe w ⟨b,0,none⟩ (u:=218) (by kernel_rfl) (by kernel_rfl) hj hsh hl];simp only[Result.andThen];rw[Oper.upon_value]
 go_wp2
 go_end0
 exact⟨rfl,rfl⟩
theorem rO (b:Nat)(w:World)(h0:w.cell? ⟨b,0,none⟩=some (.pointer (some ⟨b,0,none⟩))):
  Calls Tryz.prog 234 #[.pointer (some ⟨b,0,none⟩)] w λe w'=>e=.returned (.tuple #[])/\w'=w:=by
 obtain⟨j,hj,hjs⟩:=Option.map_eq_some_iff.1 (show(Tryz.prog.info? 218).map (·.size)=some 2 by kernel_rfl)
 go_enter Tryz.func234,Tryz.ntmps234
 go_wp2
 rw[Lib.run_neq_ptr_same w _ (te:=218) (by kernel_rfl) hj]
 go_wp2
 go_end0
 exact⟨rfl,rfl⟩
theorem yU (b g:Nat)(cur cs:Array Value)(l:List UInt8)(h0:l≠[])(w:World)(hb:w.heap[b]?=some (.cells cs 218 (0,0)))(hb1:cs[1]?=some (.slice (some ⟨g,0,none⟩) l.length cur.size))
  (hg:w.heap[g]?=some (.cells cur 5 (0,0))) (hl:l.length<=cur.size) (hcap:cur.size<=maxLen) (hcell:∀(j:Nat) (x:UInt8),l[j]?=some x->cur[j]?=some (.int .u8 x.toNat)):
  Calls Tryz.prog 172 #[.pointer (some ⟨b,0,none⟩)] w λe w'=>e=.returned (.string ⟨l.toArray⟩)/\w'=(w.drew.freeze ⟨g,0,none⟩ l.length):=by
 have c1:w.drew.cell? ⟨b,1,none⟩=some (.slice (some ⟨g,0,none⟩) l.length cur.size):=by
  have:w.drew.heap[b]?=some (.cells cs 218 (0,0)):=hb
  rw[Lib.cell_of_heap this];exact hb1
 have h0':l.length≠0:=by simpa using h0
 have hSD:(Builtin.unsafeSliceData_ #[216] 266 #[.slice (some ⟨g,0,none⟩) l.length cur.size]).run Tryz.prog w.drew=.ok (.pointer (some ⟨g,0,none⟩)) w.drew:=
  Lib.run_unsafeSliceData_row _ _ _ _ _ _ (by omega)
 have hUS:(Builtin.unsafeString_ #[266,3] 9 #[.pointer (some ⟨g,0,none⟩),.int .i64 l.length]).run Tryz.prog w.drew=.ok (.string ⟨l.toArray⟩) (w.drew.freeze ⟨g,0,none⟩ l.length):=by
  refine Lib.run_unsafeString_row w.drew 266 3 9 5 (by kernel_rfl) (by kernel_rfl) g cur.size (by have hg':w.drew.heap[g]?=some (.cells cur 5 (0,0)):=hg;simp[World.shape?,hg']) l h0 (by omega) (by unfold maxLen at hcap;omega) ?_;intro j x hx;have hg':w.drew.heap[g]?=some (.cells cur 5 (0,0)):=hg
  have:=hcell j x hx
  rw[Addr.add_lit];simp[World.cell?,hg',this]
 have mixed:Tryz.prog.follows .mixedOrders=true:=by kernel_rfl
 go_enter Tryz.func172,Tryz.ntmps172
 go_wp2
 go_region_o
 all_goals(go_wp2;go_ret;exact⟨rfl,rfl⟩)
def Fj (l:List UInt8):List D:=l.map λb=>.prim (.int .u8 (b.toNat:Int))
abbrev FX (g:Nat)(p x:D):Ax:=⟨1500,g,218,2,[.agg [p,x]]⟩
theorem fB {vs:Array Value}(h:vs.size=1):vs = #[vs.getD 0 undef]:=by
 match vs,h with
 |⟨[u]⟩,_=>rfl
theorem fC (g n:Nat)(x p:D)(H1 H2:Hp)(hp:p=.prim (.pointer none)\/p=.optr 1500 g 2 0 0):
  Cd C0 234 [.optr 1500 g 2 0 0] (H1++FX g p x::H2) n (λd H' n'=>d=.prim (.tuple #[])/\H'=H1++FX g (.optr 1500 g 2 0 0) x::H2/\n'=n):=by
 refine⟨⟨_,_,Tryz.func234,rfl,by kernel_rfl⟩,λF ρ w vs m fr hgn hvs hr=>?_⟩;have h0:=hr 0 _ rfl;rw[fB hvs];generalize hv:vs.getD 0 undef=v at h0;cases h0 with
 |optr hρ=>
  rename_i b;have he:FX g p x∈H1++FX g p x::H2:=by simp
  obtain⟨cs,hc,q⟩:=m.at he hρ;have hlen:2<=cs.size:=q.len;have hr0:AU ρ (AN F.X ρ (H1++FX g p x::H2)) w p (cs.getD 0 undef):=q.rep 0 _ 0 p rfl rfl;have hr1:AU ρ (AN F.X ρ (H1++FX g p x::H2)) w x (cs.getD 1 undef):=q.rep 0 _ 1 x rfl rfl;have hcell:w.cell? ⟨b,0,none⟩=some (cs.getD 0 undef):=by
   simp[World.cell?,hc,Array.getD,show 0<cs.size by omega]
  rcases hp with rfl|rfl
  ·cases hr0':cs.getD 0 undef with
   |pointer a=>
    rw[hr0']at hr0 hcell;cases hr0;refine(nX b cs.size hlen w hcell (by simp[World.shape?,hc]) (by simp[World.frozen?,hc])).mono ?_;rintro e w' ⟨rfl,rfl⟩;have hset:w.setCell ⟨b,0,none⟩ (.pointer (some ⟨b,0,none⟩))=World.setBlk w b (cs.setIfInBounds 0 (.pointer (some ⟨b,0,none⟩))) 218:=by
     rw[setCell_eq_setRow w b 0 cs 218 (0,0) _ hc];exact TD hc
    have hop:AU ρ (AN F.X ρ (H1++FX g (.prim (.pointer none)) x::H2)) w (.optr 1500 g 2 0 0) (.pointer (some ⟨b,0*2+0,none⟩)):=.optr hρ;have ho:DB ρ (AN F.X ρ (H1++FX g (.prim (.pointer none)) x::H2)) w (FX g (.optr 1500 g 2 0 0) x) (cs.setIfInBounds 0 (.pointer (some ⟨b,0,none⟩))):=by
     refine⟨by rw[Vh];exact q.len,λi d hd=>?_,λi v hv=>?_,λi d j c hd hj=>?_⟩
     ·rcases i with _|i
      ·cases hd;rfl
      ·simp at hd
     ·rw[IV]at hv
      split at hv
      ·split at hv
       ·cases hv;rfl
       ·cases hv
      ·exact q.one i v hv
     ·rcases i with _|i
      ·cases hd
       rcases j with _|_|j
       ·cases hj
        have:(cs.setIfInBounds 0 (.pointer (some ⟨b,0,none⟩))).getD (0*2+0) undef=.pointer (some ⟨b,0*2+0,none⟩):=by
         simp[A0,show 0<cs.size by omega]
        rw[this];exact hop
       ·cases hj
        have:(cs.setIfInBounds 0 (.pointer (some ⟨b,0,none⟩))).getD (0*2+1) undef=cs.getD 1 undef:=by
         simp[A0]
        rw[this];exact hr1
       ·simp[D.cells]at hj
      ·simp at hd
    obtain⟨m1,x1⟩:=m.write (e':=FX g (.optr 1500 g 2 0 0) x) hρ hc rfl rfl rfl (Vh ..) ho;rw[hset];exact⟨_,_,_,n,ρ,rfl,⟨rfl,rfl,rfl⟩,m1,x1,fr,λe' he'=>by
     rcases List.mem_append.1 he' with h|h
     ·exact hgn e' (by simp[h])
     ·rcases A8.1 h with rfl|h
      ·exact hgn (FX g (.prim (.pointer none)) x) he
      ·exact hgn e' (by simp[h]),.prim _⟩
   |_=>rw[hr0']at hr0;cases hr0
  ·cases hr0':cs.getD 0 undef with
   |pointer a=>
    rw[hr0']at hr0 hcell;cases hr0 with
    |optr hρ2=>
     rw[hρ]at hρ2;cases hρ2;refine(rO b w hcell).mono ?_;rintro e w' ⟨rfl,rfl⟩;exact⟨_,_,_,n,ρ,rfl,⟨rfl,rfl,rfl⟩,m,BR.refl _ _ _,fr,hgn,.prim _⟩
   |_=>rw[hr0']at hr0;cases hr0
theorem gj (w:World)(g n:Nat)(hn:n≠0)(cur:Array Value)(T:Nat)(hg:w.heap[g]?=some (.cells cur T (0,0))):
  (w.freeze ⟨g,0,none⟩ n).heap.size=w.heap.size/\(w.freeze ⟨g,0,none⟩ n).os=w.os/\(w.freeze ⟨g,0,none⟩ n).tape=w.tape/\(w.freeze ⟨g,0,none⟩ n).output=w.output /\
  (∀k,k≠g->(w.freeze ⟨g,0,none⟩ n).heap[k]?=w.heap[k]?)/\∃(cs':Array Value) (fz':Nat×Nat),(w.freeze ⟨g,0,none⟩ n).heap[g]?=some (.cells cs' T fz')/\cs'.size=cur.size:=by
 unfold World.freeze;rw[AF hn];refine⟨by simp,rfl,rfl,rfl,λk hk=>?_,?_⟩
 ·dsimp only
  rw[Array.getElem?_modify,AF (λh=>hk h.symm)]
 ·dsimp only
  rw[Array.getElem?_modify,AG rfl,hg];exact⟨cur,_,rfl,rfl⟩
theorem xh (g gb n:Nat)(l:List UInt8)(h0:l≠[])(p:D)(R:Hp):
  Cd C0 172 [.optr 1500 g 2 0 0] (⟨206,gb,5,1,Fj l⟩::FX g p (.osl 206 gb 1 0 l.length)::R) n (λd H' n'=>d=str ⟨l.toArray⟩/\H'=FX g p (.osl 206 gb 1 0 l.length)::R/\n'=n):=by
 refine⟨⟨_,_,Tryz.func172,rfl,by kernel_rfl⟩,λF ρ w vs m fr hgn hvs hr=>?_⟩;have hz:=hr 0 _ rfl;have h0':l.length≠0:=by simpa using h0
 rw[fB hvs];generalize hv:vs.getD 0 undef=v at hz;cases hz with
 |optr hρ=>
  rename_i b;obtain⟨cs,hc,q⟩:=m.at (e:=FX g p (.osl 206 gb 1 0 l.length)) (by simp) hρ;have hlen:2<=cs.size:=q.len;have hr1:AU ρ (AN F.X ρ (⟨206,gb,5,1,Fj l⟩::FX g p (.osl 206 gb 1 0 l.length)::R)) w (.osl 206 gb 1 0 l.length) (cs.getD 1 undef):=q.rep 0 _ 1 (.osl 206 gb 1 0 l.length) rfl rfl;generalize hs1:cs.getD 1 undef=sv at hr1;generalize hL:l.length=L at hr1;cases hr1 with
   |onil=>exact Ae hL h0'
   |osl hρ2 hb2 hc2 hs2 hm2=>
    rename_i cap gy T' cs2 fz2;obtain⟨cur,hcur,qy⟩:=m.at (e:=⟨206,gb,5,1,Fj l⟩) (by simp) hρ2;rw[hb2]at hcur;cases hcur;have hcap:cap=cs2.size:=by omega
    subst hcap;have hcell:∀(j:Nat) (x:UInt8),l[j]?=some x->cs2[j]?=some (.int .u8 x.toNat):=λj x hx=>by
     have hr:=qy.rep j (.prim (.int .u8 (x.toNat:Int))) 0 (.prim (.int .u8 (x.toNat:Int))) (by unfold Fj;rw[A7,hx];rfl) rfl;have hlt:j<cs2.size:=by
      have:=(List.getElem?_eq_some_iff.1 hx).1
      omega
     generalize hvv:cs2.getD (j*1+0) undef=vv at hr;cases hr;rw[Bk hlt]
     have:cs2.getD j undef=cs2[j]:=by simp[Array.getD,hlt]
     rw[EC,DX,this]at hvv;rw[hvv]
    have hb1:cs[1]?=some (.slice (some ⟨gy,0,none⟩) l.length cs2.size):=by
     have hlt:1<cs.size:=by omega
     rw[Bk hlt]
     have:cs.getD 1 undef=cs[1]:=by simp[Array.getD,hlt]
     rw[this]at hs1;rw[hs1,hL,Gt]
    refine(yU b gy cs2 cs l h0 w hc hb1 hb2 (by omega) (by omega) hcell).mono ?_;rintro e w' ⟨rfl,rfl⟩;have md:=m.drew;obtain⟨f1,f2,f3,f4,f5,cs',fz',f6,f7⟩:=gj w.drew gy l.length h0' cs2 5 hb2;obtain⟨m1,x1⟩:=zE (H1:=[]) (H2:=FX g p (.osl 206 gb 1 0 l.length)::R) (w':=w.drew.freeze ⟨gy,0,none⟩ l.length) md hρ2 f1 f2 f3 f4 f5 (λc hcc=>by
     have hb2':w.drew.heap[gy]?=some (.cells cs2 5 (0,0)):=hb2;have hcc':w.drew.heap[gy]?=some (.cells c 5 (0,0)):=hcc;rw[hb2']at hcc';cases hcc';exact⟨cs',fz',f6,f7⟩)
    rw[hL];rw[hL]at m1 x1;exact⟨_,_,_,n,ρ,rfl,⟨rfl,rfl,rfl⟩,m1,(BR.drew _ _ _).trans x1,fr,λe' he'=>hgn e' (by rw[hL];exact CD _ he'),.prim _⟩
set_option maxRecDepth 20000
set_option maxHeartbeats 4000000
def bH (gb g:Nat)(p:D)(L:List UInt8)(R:Hp):Hp:=Dm 206 gb 5 1 (Fj L)++(FX g p (Dw 206 gb 1 (Fj L))::R)
theorem jF (s:List UInt8):IH (sb s)=Fj s:=rfl
theorem N6 (l:List UInt8):(Fj l).length=l.length:=Ak ..
theorem jE (a b:List UInt8):Fj (a++b)=Fj a++Fj b:=DA
theorem Xk {l:List UInt8}(h:l≠[]):∃x r,Fj l=x::r:=by
 cases l with
 |nil=>exact Ae rfl h
 |cons a l=>exact⟨_,_,rfl⟩
theorem fU (g gb n:Nat)(p:D)(hp:p=.prim (.pointer none)\/p=.optr 1500 g 2 0 0)(L s:List UInt8)(hs:s≠[])(R:Hp)(hlen:L.length+s.length<=100000000):
  Cd C0 171 [.optr 1500 g 2 0 0,str (sb s)] (bH gb g p L R) n (λd H' n'=>(∃g',H'=bH g' g (.optr 1500 g 2 0 0) (L++s) R)/\n<=n'):=by
 refine Cd.walk w1 aD rfl λF=>?_
 have hsz:=Ce s;have hb:=jF s;obtain⟨x,r,hx⟩:=Xk hs;have hr:s.length=r.length+1:=by rw[<-N6,hx];rfl
 unfold bH;rw[jE];cases hL:Fj L with
 |nil=>
  dsimp only[In,Io,List.nil_append];refine AH AZ kB AB AB AB AB AB AB ?_;refine BD.own _ (fC g _ CM p [] R hp) ?_;rintro d H' n' ⟨rfl,rfl,rfl⟩;have hL0:L.length=0:=by rw[<-N6,hL];rfl
  refine AH AZ (Aj hsz hb) AB AB AB AB AB AB ?_;refine⟨?_,by omega⟩;apply Exists.intro;rw[hx,hr];rfl
 |cons y l=>
  dsimp only[HX,HY,List.cons_append,List.nil_append];have hL1:L.length=l.length+1:=by rw[<-N6,hL];rfl
  have htk:List.take (l.length+1) (y::l)=y::l:=by simp
  refine AH AZ kB AB AB AB AB AB AB ?_;refine BD.own _ (fC g _ (.osl 206 gb 1 0 (l.length+1)) p [⟨206,gb,5,1,y::l⟩] R hp) ?_;rintro d H' n' ⟨rfl,rfl,rfl⟩;refine AH AZ (As hsz hb htk) AB AB AB AB AB AB ?_;refine⟨?_,by omega⟩;apply Exists.intro;have hap:y::l++Fj s=y::(l++Fj s):=rfl;have hl2:(l++Fj s).length+1=l.length+1+s.length:=by rw[Bh,N6];omega
  rw[hl2]
open Go.Sort Go.Shelf
section
open Go.Lib
set_option maxHeartbeats 6400000 in
set_option maxRecDepth 100000 in
theorem y7 (u:Nat) (hu64:u<18446744073709551616) (w:World) (htab:Lib.TabIs Tryz.prog w "internal/strconv.uint64pow10" .u64 Lib.pow10Tab):
  Calls Tryz.prog 230 #[.int .u64 u,.int .i64 10] w λe w'=>e=.returned (.string ⟨(Lib.decDigits u).toArray⟩)/\∃k os,w'=grow (w.drewN k) os:=by
 have e283:∀args w,(callFunc 256 args).run Tryz.prog w=.ok (.enter 256 args) w:=enters_of Tryz.func256 (by kernel_rfl) rfl;have e284:∀args w,(callFunc 257 args).run Tryz.prog w=.ok (.enter 257 args) w:=enters_of Tryz.func257 (by kernel_rfl) rfl;have e285:∀args w,(callFunc 258 args).run Tryz.prog w=.ok (.enter 258 args) w:=enters_of Tryz.func258 (by kernel_rfl) rfl
 by_cases hs:u<100
 ·go_enter Tryz.func230,Tryz.ntmps230
  go_wp2_with (go_at_fn 256;refine(Tryz.internal_strconv_small u hs _).mono ?_;rintro e w' ⟨rfl,rfl⟩)
  go_ret
  exact⟨rfl,0,#[],by simp[World.drewN_zero]⟩
 ·have hu1:1<=u:=by omega
  have hnd20:Lib.nDigits u<=20:=by have:=Lib.numDigits_eq u hu1 hu64;split at this<;>omega
  have hb3:Lib.nDigits u<=24:=by omega
  have hal:Tryz.prog.arrayLen 283=24:=by kernel_rfl
  have hsl1:∀W,(Instr.sliceAt 283 (.pointer (some ⟨w.heap.size,0,none⟩)) none (some (.int .i64 (Lib.nDigits u:Int))) none).run Tryz.prog W=.ok (.slice (some ⟨w.heap.size,0,none⟩) (Lib.nDigits u) 24) W:=λW=>by
   rw[run_sliceAt_array_h W 283 ⟨w.heap.size,0,none⟩ (by kernel_rfl) .i64 (Lib.nDigits u:Int) (by omega) (by rw[hal];omega)]
   go_simp
  have hH0:=Lib.holds_zero0 w 283 (Lib.nDigits u) (by omega);have hfmt:=Tryz.internal_strconv_formatBase10 w.heap.size 0 24 u (Array.replicate (Lib.nDigits u) 0) (w.alloc (.cells Lib.zeros24 283)) hH0 (by rw[SE];exact Lib.lt_pow_nDigits u) hu64 (by rw[SE];omega);rw[SE]at hfmt;have HH0:=Lib.hid hH0;clear hH0 hal
  go_enter Tryz.func230,Tryz.ntmps230
  go_wp2_with (first
   |(go_at_fn 257;refine(Tryz.internal_strconv_numDigits u hu1 hu64 _ (Lib.tabIs_alloc htab _)).mono ?_;rintro e w' ⟨rfl,rfl⟩))
  go_at_fn 258
  refine hfmt.mono ?_;rintro e w' ⟨rfl,k,v',dk,rfl,hF⟩;have hcv:(convert 216 9 (.slice (some ⟨w.heap.size,0,none⟩) (Lib.nDigits u) 24)).run Tryz.prog ((putRow (λ(b:UInt8)=>Value.int .u8 (b.toNat:Int)) (w.alloc (.cells Lib.zeros24 283)) w.heap.size 0 dk).drewN k)=.ok (.string ⟨(Lib.decDigits u).toArray⟩) ((putRow (λ(b:UInt8)=>Value.int .u8 (b.toNat:Int)) (w.alloc (.cells Lib.zeros24 283)) w.heap.size 0 dk).drewN k):=by
   have h:=run_convert_bytes_back (P:=Tryz.prog) ((putRow (λ(b:UInt8)=>Value.int .u8 (b.toNat:Int)) (w.alloc (.cells Lib.zeros24 283)) w.heap.size 0 dk).drewN k) 216 9 5 ⟨w.heap.size,0,none⟩ 24 (Lib.decDigits u) (by kernel_rfl) (by kernel_rfl) (by kernel_rfl) (λj hj=>by
    rw[Lib.row_is_numeral hF j hj,Lib.add_plain,World.cell?_drewN];exact cell?_putRow (λ(b:UInt8)=>Value.int .u8 (b.toNat:Int)) _ w.heap.size 0 _ dk HH0.out (by rw[hF.size,SE]) j (by rw[hF.size];rw[Lib.decDigits_length]at hj;exact hj))
   rw[Lib.decDigits_length]at h;exact h
  go_wp2
  go_ret
  obtain⟨os,eo⟩:=Lib.fin_at w (.cells Lib.zeros24 283) dk k 0;exact⟨rfl,k,os,eo⟩
end
theorem jM {O:Nat->Prop}{w:World}{v u:Value}{vs:Array Value}(hn:vs.size=2)(h:∀(i:Nat) (x:D),[D.prim v,.prim u][i]?=some x->AU nol O w x (vs.getD i undef)):vs = #[v,u]:=by
 match vs,hn with
 |⟨[a,b]⟩,_=>
  have h0:=h 0 _ rfl;have h1:=h 1 _ rfl;simp at h0 h1;cases h0;cases h1;rfl
theorem oY (u:Nat)(hu:u<18446744073709551616):AI C0 230 [.prim (.int .u64 (u:Int)),i64 10] (str ⟨(Lib.decDigits u).toArray⟩):=by
 refine⟨⟨_,_,Tryz.func230,rfl,by kernel_rfl⟩,λY w vs hG hnG hX hvs hr=>?_⟩
 have:=jM hvs hr
 subst this;refine(y7 u hu w hG).mono ?_;rintro e w' ⟨rfl,k,os,rfl⟩;exact⟨_,_,rfl,Lib.below_grow _ _ (Af _) _ _,rfl,.prim _⟩
theorem rf (u:Nat)(hu:u<18446744073709551616):AI C0 169 [.prim (.int .u64 (u:Int)),i64 10] (str ⟨(Lib.decDigits u).toArray⟩):=by
 refine Ag.walk w1 aC rfl λF=>?_
 refine AH AZ kB (oY u hu) AB AB AB AB AB ?_;exact AL rfl AA.out
theorem zh:AI C0 170 [str ⟨#[48]⟩,i64 0] (str ⟨#[]⟩):=CE DV 400 20 (by kernel_rfl)
theorem zi:AI C0 170 [str ⟨#[48]⟩,i64 1] (str ⟨#[48]⟩):=CE DV 400 20 (by kernel_rfl)
theorem zj:AI C0 170 [str ⟨#[48]⟩,i64 2] (str ⟨#[48,48]⟩):=CE DV 400 20 (by kernel_rfl)
theorem zk:AI C0 170 [str ⟨#[48]⟩,i64 3] (str ⟨#[48,48,48]⟩):=CE DV 400 20 (by kernel_rfl)
theorem zl:AI C0 170 [str ⟨#[48]⟩,i64 4] (str ⟨#[48,48,48,48]⟩):=CE DV 400 20 (by kernel_rfl)
theorem zm:AI C0 170 [str ⟨#[48]⟩,i64 5] (str ⟨#[48,48,48,48,48]⟩):=CE DV 400 20 (by kernel_rfl)
theorem zn:AI C0 170 [str ⟨#[48]⟩,i64 6] (str ⟨#[48,48,48,48,48,48]⟩):=CE DV 400 20 (by kernel_rfl)
theorem zp:AI C0 170 [str ⟨#[48]⟩,i64 7] (str ⟨#[48,48,48,48,48,48,48]⟩):=CE DV 400 20 (by kernel_rfl)
theorem zr:AI C0 170 [str ⟨#[48]⟩,i64 8] (str ⟨#[48,48,48,48,48,48,48,48]⟩):=CE DV 400 20 (by kernel_rfl)
theorem zt:AI C0 170 [str ⟨#[48]⟩,i64 9] (str ⟨#[48,48,48,48,48,48,48,48,48]⟩):=CE DV 400 20 (by kernel_rfl)
theorem yB:AI C0 170 [str ⟨#[48]⟩,i64 10] (str ⟨#[48,48,48,48,48,48,48,48,48,48]⟩):=CE DV 400 20 (by kernel_rfl)
theorem yC:AI C0 170 [str ⟨#[48]⟩,i64 11] (str ⟨#[48,48,48,48,48,48,48,48,48,48,48]⟩):=CE DV 400 20 (by kernel_rfl)
theorem yE:AI C0 170 [str ⟨#[48]⟩,i64 12] (str ⟨#[48,48,48,48,48,48,48,48,48,48,48,48]⟩):=CE DV 400 20 (by kernel_rfl)
theorem yF:AI C0 170 [str ⟨#[48]⟩,i64 13] (str ⟨#[48,48,48,48,48,48,48,48,48,48,48,48,48]⟩):=CE DV 400 20 (by kernel_rfl)
theorem yG:AI C0 170 [str ⟨#[48]⟩,i64 14] (str ⟨#[48,48,48,48,48,48,48,48,48,48,48,48,48,48]⟩):=CE DV 400 20 (by kernel_rfl)
theorem yH:AI C0 170 [str ⟨#[48]⟩,i64 15] (str ⟨#[48,48,48,48,48,48,48,48,48,48,48,48,48,48,48]⟩):=CE DV 400 20 (by kernel_rfl)
theorem yI:AI C0 170 [str ⟨#[48]⟩,i64 16] (str ⟨#[48,48,48,48,48,48,48,48,48,48,48,48,48,48,48,48]⟩):=CE DV 400 20 (by kernel_rfl)
theorem yJ:AI C0 170 [str ⟨#[48]⟩,i64 17] (str ⟨#[48,48,48,48,48,48,48,48,48,48,48,48,48,48,48,48,48]⟩):=CE DV 400 20 (by kernel_rfl)
theorem pg (n:Nat)(h:n<=17):AI C0 170 [str ⟨#[48]⟩,i64 (n:Int)] (str ⟨(List.replicate n 48).toArray⟩):=by
 match n,h with
 | 0,_=>exact zh
 | 1,_=>exact zi
 | 2,_=>exact zj
 | 3,_=>exact zk
 | 4,_=>exact zl
 | 5,_=>exact zm
 | 6,_=>exact zn
 | 7,_=>exact zp
 | 8,_=>exact zr
 | 9,_=>exact zt
 | 10,_=>exact yB
 | 11,_=>exact yC
 | 12,_=>exact yE
 | 13,_=>exact yF
 | 14,_=>exact yG
 | 15,_=>exact yH
 | 16,_=>exact yI
 | 17,_=>exact yJ
 |n+18,h=>omega
theorem o5 {H Hf r r':Hp}{K g T sz:Nat}{l:List D}(h:Cg H Hf r r'):Cg H Hf (Dm K g T sz l++r) r':=by
 cases l with
 |nil=>exact h
 |cons x l=>exact .drop h
set_option maxHeartbeats 8000000
def Fp (q r:Nat):List UInt8:=if q=0 then Lib.decDigits r else List.replicate (18-(Lib.decDigits r).length) 48++Lib.decDigits r
theorem Xq:Lib.decDigits 0=[48]:=by unfold Lib.decDigits;rfl
theorem Of (n:Nat):Lib.decDigits n≠[]:=(ET n).2.2
theorem mi (q r:Nat):Fp q r≠[]:=by
 unfold Fp;split
 ·exact Of r
 ·intro h;exact Of r (List.append_eq_nil_iff.1 h).2
theorem kf {q r:Nat}(hq:q≠0):Fp q r=Es 18 r []:=by
 unfold Fp Es L8;rw[AF hq]
 by_cases h:r=0
 ·subst h;rw[Xq,AG rfl];rfl
 ·rw[AF h,C3]
theorem mH (B q r:Nat)(hB:B=10^18)(hr:r<B):Lib.decDigits (q*B+r)=if q=0 then Fp q r else Lib.decDigits q++Fp q r:=by
 by_cases hq:q=0
 ·subst hq;rw[AG rfl];unfold Fp;rw[AG rfl,Gt,BU]
 ·rw[AF hq,kf hq,hB]
  exact T1 18 q r hq (by rw[<-hB];exact hr)
def EH (P:List (List UInt8)):List UInt8:=P.reverse.flatten
theorem Wo (P:List (List UInt8))(p:List UInt8):EH (P++[p])=p++EH P:=by unfold EH;simp
theorem Ue (a b:List UInt8):sb a++sb b=sb (a++b):=by
 apply ByteArray.ext;simp[ByteArray.data_append]
theorem kA {P:List (List UInt8)}(h:∀p∈P,p≠[]):P.length<=(EH P).length:=by
 unfold EH;rw[List.length_flatten,<-List.length_reverse];generalize hQ:P.reverse=Q;have h':∀p∈Q,p≠[]:=λp hp=>h p (by rw[<-hQ]at hp;exact List.mem_reverse.1 hp)
 clear hQ h
 induction Q with
 |nil=>exact Af _
 |cons a r ih=>
  have h1:=ih λp hp=>h' p (CD _ hp)
  have h2:a.length≠0:=λq=>h' a B9 (E5 q)
  rw[Cq,List.sum_cons,Bo];omega
structure Ml (n m:Nat)(P:List (List UInt8)):Prop where
 ne:m≠0->Lib.decDigits n=Lib.decDigits m++EH P
 eq:m=0->Lib.decDigits n=EH P
 all:∀p∈P,p≠[]
 le:m<=n
theorem Ml.len {n m:Nat}{P:List (List UInt8)}(h:Ml n m P):P.length<=(Lib.decDigits n).length:=by
 have h1:=kA h.all
 by_cases q:m=0
 ·rw[h.eq q];exact h1
 ·rw[h.ne q,Bh];omega
theorem Ml.step {n m:Nat}{P:List (List UInt8)}{B:Nat}(h:Ml n m P)(hm:m≠0)(hB:B=10^18):Ml n (m/B) (P++[Fp (m/B) (m%B)]):=by
 have hB0:0<B:=by rw[hB];decide
 have hd:=mH B (m/B) (m%B) hB (B1 _ hB0);rw[show m/B*B+m%B=m by rw[BP];exact EW m B]at hd;have hn:=h.ne hm;rw[hd]at hn;refine⟨λq=>?_,λq=>?_,λp hp=>?_,BQ (Fy _ _) h.le⟩
 ·rw[AF q]at hn;rw[hn,Wo,DZ]
 ·rw[AG q]at hn;rw[hn,Wo]
 ·rcases List.mem_append.1 hp with hp|hp
  ·exact h.all p hp
  ·rw[List.mem_singleton]at hp;subst hp;exact mi _ _
abbrev FD (P:List (List UInt8)):List D:=P.map λp=>str (sb p)
theorem Tf (x:GI)(h:x.wf)(hf:x.few):AI C0 125 [x.D] (str (sb (Lib.itoa x.z))):=by
 refine Ag.walk w1 ak rfl λF=>?_
 obtain⟨z,sm⟩:=x;obtain⟨h1,h2⟩:=h;have hp:=JR ⟨z,sm⟩ ⟨h1,h2⟩;dsimp only[GI.D,GI.few]at*;cases sm with
 |true=>
  obtain⟨h3,h4⟩:=h1 rfl;have c:AI C0 166 [i64 z] (str (sb (Lib.itoa z))):=nr z h3 (by omega);unfold GI.s GI.w;dsimp only;refine AH AZ kB c AB AB AB AB AB ?_;exact AL rfl AA.out
 |false=>
  have hz:=h2 rfl;have hz0:z.natAbs≠0:=λq=>hz (by obtain rfl:z=0:=(by omega);exact uh rfl)
  have hw:GI.w ⟨z,false⟩=wD z.natAbs:=rfl;have hs:GI.s ⟨z,false⟩=if z<0 then -1 else 1:=rfl
  rw[hw]at hp⊢;obtain⟨sg,hsg⟩:∃s,GI.s ⟨z,false⟩=s:=⟨_,rfl⟩
  rw[hsg]at hp⊢;obtain⟨B,hB⟩:∃B:Nat,B=10^18:=⟨_,rfl⟩
  have hB1:B<BB:=by rw[hB];decide
  have hB0:B≠0:=by rw[hB];decide
  have hB2:1<B:=by rw[hB];decide
  have hBs:u64 1000000000000000000=AR B:=by rw[hB];rfl
  have hBl:Ad B=[B]:=MN hB0 hB1;obtain⟨n,hn⟩:∃n,z.natAbs=n:=⟨_,rfl⟩
  obtain⟨neg,hneg⟩:∃b,decide (z<0)=b:=⟨_,rfl⟩
  rw[hn]at hp hf hz0⊢;rw[hneg]at hp;have hit:Lib.itoa z=(if neg then[45]else[])++Lib.decDigits n:=by
   unfold Lib.itoa
   by_cases q:z<0
   ·rw[AG q,<-hneg,AX q,hn];rfl
   ·rw[AF q,<-hneg,Ac q,<-hn]
    have:z.toNat=z.natAbs:=by omega
    rw[this];rfl
  rw[hit];have hDL:(Lib.decDigits n).length<=27*1000000+1:=Mo (k:=1000000) (by omega);have hmpos:∀m:Nat,m≠0->decide ((((Ad m).map AR).length:Int)>0)=true:=λm hm=>AX (by
   rw[F8 hm,Cq,Bo];omega)
  have hm0:decide ((((Ad 0).map AR).length:Int)>0)=false:=Ac (by rw[Fi];decide);obtain⟨w0,ws,hws⟩:∃a l,(Ad n).map AR=a::l:=by
   cases hl:(Ad n).map AR with
   |nil=>exact Ae hl (HZ hz0)
   |cons a l=>exact⟨a,l,rfl⟩
  have hwD:wD n=.sl false 1 (w0::ws):=by unfold wD wL;rw[hws]
  have hbD:wD B=.sl false 1 [u64 1000000000000000000]:=by unfold wD wL;rw[hBl,hBs];rfl
  have pw:AA (.sl false 1 (w0::ws)):=by rw[<-hwD];exact AJ
  rw[hwD]at hp⊢;clear hit h1 h2 hz hs hsg;have hne:(w0::ws≠[])=True:=eq_true (List.cons_ne_nil _ _);refine AH AZ hne hp AB AB AB AB AB ?_;rw[<-hwD];refine AC.loop (α:=Nat×List (List UInt8)×Nat×Nat) (λp=>⟨[(3,Aq neg),(4,wD p.1),(5,wD B),(6,Dw 1303 p.2.2.1 1 (FD p.2.1))],Dm 1303 p.2.2.1 9 1 (FD p.2.1),p.2.2.2⟩) (λp=>p.1)
   (λp=>Ml n p.1 p.2.1) (n,[],0,_) ⟨λ_=>by unfold EH;simp,λq=>Ae q hz0,λp hp=>Ae hp DW,Af _⟩ (by refine⟨.drop .nil,⟨.refl _,.refl _,?_,.refl _,trivial⟩,Af _⟩;dsimp only;rw[hbD];exact .nn true 1 _) ?_
  rintro⟨m,P,g,cnt⟩ F I;dsimp only at I⊢;have hPl:=I.len;rcases Nat.decEq m 0 with hm|hm
  rotate_left
  ·subst hm
   have hdn:=I.eq rfl;have hall:=I.all;have hLn:P.length<=27000001:=by omega
   have hP0:P≠[]:=λq=>Of n (by rw[hdn,q];rfl)
   obtain⟨N,hN⟩:∃N,P.length=N:=⟨_,rfl⟩
   have hN0:N≠0:=λq=>hP0 (E5 (by omega))
   rw[hdn];clear hwD hbD pw hp hn hPl I;have elP:(((FD P).length:Nat):Int)=(N:Int):=by rw[Ak,hN]
   have wN:IntKind.i64.wrap ((N:Int)-1)=((N:Int)-1):=wI (by omega) (by omega);refine AC.seq ?_;refine sZ 600 ?_;refine AT hm0 ?_;refine AM ?_;refine B6 ?_;refine AC.weak ⟨[(3,Aq neg),(6,.sl false 1 (FD P))],[],_⟩ ⟨?_,⟨.refl _,?_,trivial⟩,Af _⟩ ?_
   ·have:=o5 (K:=1303) (g:=g) (T:=9) (sz:=1) (l:=FD P) (r:=[]) (r':=[]) (H:=Dm 1303 g 9 1 (FD P)) (Hf:=[]) .nil
    rwa [C3]at this
   ·exact RK _ _ _ _ _
   obtain⟨c0,hc0⟩:∃c,c=cnt+1+1+1:=⟨_,rfl⟩
   rw[<-hc0];refine sR 1500 ?_;obtain⟨c1,hc1⟩:∃c,c=c0+1:=⟨_,rfl⟩
   refine Cw (α:=D×Nat×Nat) (λq=>⟨[(6,.sl false 1 (FD P)),(10,.optr 1500 c0 2 0 0)],bH q.2.1 c0 q.1 (if neg then[45]else[]) [],q.2.2⟩) (λq=>q.1=.prim (.pointer none)\/q.1=.optr 1500 c0 2 0 0) ?_ ?_
   ·cases neg
    ·refine AH AZ kB AB AB AB AB AB AB ?_
     exact⟨by trivial,(.prim (.pointer none),0,_),.inl rfl,AK⟩
    ·refine AH AZ kB AB AB AB AB AB AB ?_
     refine BD.own _ (fU c0 0 _ (.prim (.pointer none)) (.inl rfl) [] [45] (by decide) [] (by decide)) ?_;rintro d H' n' ⟨⟨g',rfl⟩,hn'⟩;refine BN ?_;exact⟨by trivial,(.optr 1500 c0 2 0 0,g',_),.inr rfl,AK⟩
   rintro⟨p0,gb0,c2⟩ hp0;dsimp only at hp0⊢;obtain⟨pre,hpre⟩:∃l,(if neg then[45]else[]:List UInt8)=l:=⟨_,rfl⟩
   have hpl:pre.length<=1:=by rw[<-hpre];split<;>decide
   rw[hpre];refine AH AZ (Aj elP @wN) AB AB AB AB AB AB ?_;refine AC.loop (α:=Nat×D×Nat×Nat) (λq=>⟨[(6,.sl false 1 (FD P)),(10,.optr 1500 c0 2 0 0),(11,i64 ((q.1:Int)-1))],bH q.2.2.1 c0 q.2.1 (pre++EH (P.drop q.1)) [],q.2.2.2⟩) (λq=>q.1)
    (λq=>q.1<=N/\(q.2.1=.prim (.pointer none)\/q.2.1=.optr 1500 c0 2 0 0)) (N,p0,gb0,_) ⟨Af _,hp0⟩ (by dsimp only;rw[<-hN,IZ];unfold EH;rw[List.reverse_nil,List.flatten_nil,C3];exact AK) ?_
   rintro⟨k,p,gb,c3⟩ F ⟨hk,hp⟩;dsimp only at hk hp⊢;have hjl:∀k,(EH (P.drop k)).length<=(EH P).length:=λk=>by
    unfold EH
    conv=>rhs;rw[<-E2 k P]
    rw[List.reverse_append,List.flatten_append,Bh];omega
   have hjP:(EH P).length<=27000001:=by rw[<-hdn];omega
   rcases Dk k with hk0|hk0
   ·subst hk0
    have e1:decide ((((0:Nat):Int)-1)>=0)=false:=by decide
    rw[Fd];have hL:pre++EH P≠[]:=λq=>by
     have:=(List.append_eq_nil_iff.1 q).2
     rw[<-hdn]at this;exact Of n this
    obtain⟨L,hLL⟩:∃L,pre++EH P=L:=⟨_,rfl⟩
    rw[hLL]at hL⊢;obtain⟨y,r,hy⟩:=Xk hL;have hlr:L.length=r.length+1:=by rw[<-N6,hy];rfl
    refine AH AZ e1 AB AB AB AB AB AB ?_;refine BD.own _ (by
     have:=λn=>xh c0 gb n L hL p []
     unfold bH;simp only[hy,hlr]at this⊢;exact this _) ?_
    rintro d H' n' ⟨rfl,rfl,rfl⟩;refine AH AZ kB AB AB AB AB AB AB ?_;exact AL rfl AA.out
   ·obtain⟨k',rfl⟩:∃k',k=k'+1:=⟨k-1,by omega⟩
    have e1:decide ((((k'+1:Nat):Int)-1)>=0)=true:=AX (by omega);have e2:(((k'+1:Nat):Int)-1)=(k':Int):=by omega
    have wk:IntKind.i64.wrap ((k':Int)-1)=((k':Int)-1):=wI (by omega) (by omega);have e3:decide ((k':Int)>=0)=true:=AX (by omega);obtain⟨t,ht⟩:∃t,P[k']?=some t:=CP (by omega);have hm:(FD P)[k']?=some (str (sb t)):=by rw[A7,ht];rfl
    have htn:=hall t (Av ht);have hdr:P.drop k'=t::P.drop (k'+1):=by
     rw[EK (List.getElem?_eq_some_iff.1 ht).1,(List.getElem?_eq_some_iff.1 ht).2]
    have hj:pre++EH (P.drop k')=pre++EH (P.drop (k'+1))++t:=by
     rw[hdr,DZ]
     congr 1
     unfold EH;rw[List.reverse_cons,List.flatten_append];simp
    have hlt:(pre++EH (P.drop (k'+1))).length+t.length<=100000000:=by
     have h1:=hjl k';have h2:(pre++EH (P.drop k')).length=(pre++EH (P.drop (k'+1))).length+t.length:=by rw[hj,Bh]
     rw[<-h2,Bh];omega
    rw[e2];refine AH AZ (Aj e3 kN) hm AB AB AB AB AB ?_;refine BD.own _ (fU c0 gb _ p hp (pre++EH (P.drop (k'+1))) t htn [] hlt) ?_;rintro d H' n' ⟨⟨g',rfl⟩,hn'⟩;refine BN ?_;refine AH AZ wk AB AB AB AB AB AB ?_;exact⟨(k',.optr 1500 c0 2 0 0,g',_),⟨by dsimp only;omega,.inr rfl⟩,by dsimp only;omega,by(dsimp only;rw[hj];exact AK)⟩
  have e1:=hmpos m hm;have c1:=fF m B hB0 (DY (HV m n I.le) hf) (by rw[hBl];show 1<1000000;decide);have I2:=I.step hm hB;obtain⟨q,hq⟩:∃q,m/B=q:=⟨_,rfl⟩
  obtain⟨r,hr⟩:∃q,m%B=q:=⟨_,rfl⟩
  have hqm:q<m:=by rw[<-hq];exact Hw (D3 hm) hB2
  have hrB:r<B:=by rw[<-hr];exact B1 _ (D3 hB0)
  rw[hq,hr]at c1 I2;have hsz:=Ce (Lib.decDigits r);have hdl:(Lib.decDigits r).length<=18:=MK 17 r (by rw[hB]at hrB;exact hrB);have hdl1:(Lib.decDigits r).length≠0:=λh=>Of r (E5 h)
  refine AH AZ e1 AB AB AB AB AB AB ?_;refine cI c1 ?_;refine sR 800 ?_;refine Cw (α:=Nat) (λcnt=>⟨[(3,Aq neg),(5,wD B),(6,Dw 1303 g 1 (FD P)),(7,wD q),(9,str (sb (Lib.decDigits r)))],Dm 1303 g 9 1 (FD P),cnt⟩) (λ_=>True) ?_ ?_
  ·rcases Nat.decEq r 0 with h0|h0
   ·have e2:=hmpos r h0
    have hl1:Ad r=[r]:=MN h0 (Fv hrB hB1);have hmm:((Ad r).map AR)[0]?=some (u64 (r:Int)):=by rw[hl1];rfl
    have c2:=rf r (Fv hrB hB1);refine AH AZ e2 hmm c2 AB AB AB AB ?_;exact⟨by trivial,_,trivial,AK⟩
   ·subst h0
    rw[Xq];refine AH AZ hm0 AB AB AB AB AB AB ?_;exact⟨by trivial,_,trivial,AK⟩
  rintro cnt2 -;refine Cw (α:=Nat) (λcnt=>⟨[(3,Aq neg),(5,wD B),(6,Dw 1303 g 1 (FD P)),(7,wD q),(9,str (sb (Fp q r)))],Dm 1303 g 9 1 (FD P),cnt⟩) (λ_=>True) ?_ ?_
  ·rcases Nat.decEq q 0 with h0|h0
   ·have e2:=hmpos q h0
    have c2:AI C0 170 [str ⟨#[48]⟩,i64 ((18-(Lib.decDigits r).length:Nat):Int)] (str (sb (List.replicate (18-(Lib.decDigits r).length) 48))):=pg (18-(Lib.decDigits r).length) (by omega);have w18:IntKind.i64.wrap (18-((Lib.decDigits r).length:Int))=((18-(Lib.decDigits r).length:Nat):Int):=by rw[wI (by omega) (by omega)];omega
    have hap:=Ue (List.replicate (18-(Lib.decDigits r).length) 48) (Lib.decDigits r);have hsz2:=Ce (List.replicate (18-(Lib.decDigits r).length) 48);have hpt:List.replicate (18-(Lib.decDigits r).length) 48++Lib.decDigits r=Fp q r:=by unfold Fp;rw[AF h0]
    rw[hpt]at hap;have hsize:(sb (List.replicate (18-(Lib.decDigits r).length) 48)).size+(sb (Lib.decDigits r)).size<=9223372036854775807:=by
     rw[hsz,hsz2,Id];omega
    refine AH AZ (BW e2 hsz w18 hap) c2 AB AB AB AB AB ?_;exact⟨by trivial,_,trivial,AK⟩
   ·subst h0
    have hpt:Fp 0 r=Lib.decDigits r:=AG rfl;rw[hpt];refine AH AZ hm0 AB AB AB AB AB AB ?_;exact⟨by trivial,_,trivial,AK⟩
  rintro cnt3 -;have hsn:FD (P++[Fp q r])=FD P++[str (sb (Fp q r))]:=by unfold FD;rw[DA];rfl
  have hPL:(FD P).length=P.length:=Ak ..;rcases hPD:FD P with _|⟨y,l⟩
  all_goals
   rw[hPD]at hsn hPL;dsimp only[In,Io,HX,HY,List.nil_append]
  ·refine AH AZ kB AB AB AB AB AB AB ?_
   exact⟨(q,P++[Fp q r],_,_),I2,hqm,by(dsimp only;rw[hsn];exact AK)⟩
  ·have htk:List.take (l.length+1) (y::l)=y::l:=by simp
   have hll:l.length+1<=27000001:=by rw[Bo]at hPL;omega
   refine AH AZ htk AB AB AB AB AB AB ?_;exact⟨(q,P++[Fp q r],_,_),I2,hqm,by(dsimp only;rw[hsn,N5];exact AK)⟩
abbrev Y1:Dr:=[(3,[0,1,2,3,4,5,6],[7,8])]
open Go.Proofs Go.RowKit
set_option maxRecDepth 20000
set_option maxHeartbeats 4000000
theorem l7 (x:Nat)(hx:x<BB):AI C0 194 [AR x] (i64 (Lib.bitLen x:Int)):=by
 refine⟨⟨_,_,Tryz.func194,rfl,by kernel_rfl⟩,λY w vs hG hnG hX hvs hr=>?_⟩
 have:=QV hvs hr
 subst this;refine(Tryz.bits_Len64 x w (by omega) (by unfold BB at hx;omega)).mono ?_;rintro e w' ⟨rfl,rfl⟩;exact⟨_,_,rfl,.refl _ _,rfl,.prim _⟩
def Ex (n:Nat):Nat:=(Ad n).getD ((Ad n).length-1) 0
def IM (n:Nat):Nat:=if n=0 then 0 else 64*((Ad n).length-1)+Lib.bitLen (Ex n)
theorem nR (n:Nat):n<2^IM n:=by
 unfold IM
 by_cases h:n=0
 ·subst h;rw[AG rfl];decide
 ·rw[AF h]
  have hl:(Ad n).length≠0:=λq=>by
   have:=F8 h
   rw[this]at q;simp at q
  obtain⟨k,hk⟩:∃k,(Ad n).length=k+1:=⟨(Ad n).length-1,by omega⟩
  have hat:(Ad n)[k]?=some (Ex n):=by
   unfold Ex;rw[hk,IW,Dj,BE (by omega)];rfl
  have hv:=KS hat;rw[HO (by omega),Er]at hv;have ht:Ex n<BB:=FC n _ (Av hat);have h1:AS ((Ad n).take k)<BB^k:=by
   have:=Hc (l:=(Ad n).take k) λa ha=>FC n a (El ha)
   rwa [Ba,E8 (by omega)]at this
  have h2:Ex n<2^Lib.bitLen (Ex n):=by
   by_cases t0:Ex n=0
   ·rw[t0];exact Gs _
   ·exact(Lib.bitLenAux_bounds 64 (Ex n) ht t0).2.2
  have h3:BB^k=2^(64*k):=by rw[Nat.pow_mul]
  rw[hk,IW,Fw,<-h3];have h4:n=AS ((Ad n).take k)+BB^k*Ex n:=by simpa[AS]using hv
  have h5:BB^k*(Ex n+1)<=BB^k*2^Lib.bitLen (Ex n):=CY _ h2;rw[BL,EC]at h5;omega
def Jh (n:Nat):Bool:=decide (600<(Lib.decDigits n).length)
theorem kD (n:Nat):Jh n=(decide (IM n>1800)&&Jh n):=by
 by_cases h:IM n>1800
 ·rw[AX h,GY]
 ·rw[Ac h,HR]
  have key:∀k,IM n<=3*(k+1)->(Lib.decDigits n).length<=k+1:=λk hk=>MK k n (CU (nR n) (BQ (FM (by decide) hk) (by rw[Nat.pow_mul];exact NZ (by decide) (k+1))))
  have h4:=key 599 (by omega);exact Ac (by omega)
theorem qH (x:GI)(h:x.wf)(hf:x.few):AI C0 164 [x.D] (i64 (IM x.z.natAbs:Nat)):=by
 refine Ag.walk w1 Z9 rfl λF=>?_
 have c1:=JR x h;obtain⟨n,hn⟩:∃n,x.z.natAbs=n:=⟨_,rfl⟩
 unfold GI.few at hf;rw[hn]at c1 hf⊢;have el:((((Ad n).map AR).length:Nat):Int)=((Ad n).length:Int):=by rw[Ak]
 unfold wD wL at c1;dsimp only[GI.D]at c1⊢
 by_cases h0:n=0
 ·have e1:(((Ad n).length:Int)==0)=true:=by rw[h0,Fi];rfl
  have hb:IM n=0:=AG h0;rw[hb];refine AH AZ (Aj e1 el) c1 AB AB AB AB AB ?_;exact AL rfl AA.out
 ·have hl:(Ad n).length≠0:=λq=>by
   have:=F8 h0
   rw[this]at q;simp at q
  have e1:(((Ad n).length:Int)==0)=false:=yV hl;have wl:IntKind.i64.wrap (((Ad n).length:Int)-1)=(((Ad n).length-1:Nat):Int):=by rw[wI (by omega) (by omega)];omega
  have wm:IntKind.i64.wrap (64*(((Ad n).length-1:Nat):Int))=((64*((Ad n).length-1):Nat):Int):=by rw[wI (by omega) (by omega)];omega
  have hat:(Ad n)[(Ad n).length-1]?=some (Ex n):=by
   unfold Ex;rw[Dj,BE (by omega)];rfl
  have hm:((Ad n).map AR)[(Ad n).length-1]?=some (u64 (Ex n:Int)):=by rw[A7,hat];rfl
  have ht:Ex n<BB:=FC n _ (Av hat);have c2:=l7 (Ex n) ht;have hbl:=Lib.bitLen_le (Ex n) 64 (Af _) ht;have wa:IntKind.i64.wrap (((64*((Ad n).length-1):Nat):Int)+(Lib.bitLen (Ex n):Int))=((IM n:Nat):Int):=by
   have hb:IM n=64*((Ad n).length-1)+Lib.bitLen (Ex n):=AF h0;rw[hb,wI (by omega) (by omega)];omega
  refine AH AZ (EM e1 el wl wm wa kN) c1 hm c2 AB AB AB ?_;exact AL rfl AA.out
theorem bA (x:GI)(h:x.wf)(hf:x.few):AI C0 123 [x.D] (Aq (Jh x.z.natAbs)):=by
 refine Ag.walk w1 ai rfl λF=>?_
 have c1:=qH x h hf;have c2:=Tf x h hf;have hlen:(Lib.decDigits x.z.natAbs).length<=27*1000000+1:=Mo (k:=1000000) (by unfold GI.few at hf;omega);have hil:(Lib.itoa x.z).length<=27000002:=by
  unfold Lib.itoa;split
  ·rw[Bo];omega
  ·rw[show x.z.toNat=x.z.natAbs by omega];omega
 have c3:=Sc (Lib.itoa x.z) (by omega);rw[(MV x.z).2]at c3;have hsz:=Ce (Lib.decDigits x.z.natAbs);have hlb:=kD x.z.natAbs;obtain⟨b,hb⟩:∃b,Jh x.z.natAbs=b:=⟨_,rfl⟩
 have e2:decide (((Lib.decDigits x.z.natAbs).length:Int)>600)=b:=by rw[<-hb];exact C4.2 (by omega)
 obtain⟨p,hp⟩:∃b,decide (IM x.z.natAbs>1800)=b:=⟨_,rfl⟩
 have e1:decide (((IM x.z.natAbs:Nat):Int)>1800)=p:=by rw[<-hp];exact C4.2 (by omega)
 rw[hb,hp]at hlb;rw[hb,hlb];dsimp only[GI.D]at c1 c2⊢;cases p
 ·refine AH AZ e1 c1 AB AB AB AB AB ?_
  exact AL rfl AA.out
 ·refine AH AZ (As e1 e2 hsz) c1 c2 c3 AB AB AB ?_
  exact AL rfl AA.out
theorem bt {r:Rat}{x:GF}{k:Nat}(h:FR r x k)(hk:k<100000):x.n.wf/\x.n.few/\(AW (x.d:Int)).wf/\(AW (x.d:Int)).few/\x.n.z=r.num/\x.d=r.den/\0<x.d:=
 ⟨h.is.1,h.fn (by omega),Cf _,by
  show(Ad ((x.d:Int)).natAbs).length<1000000;rw[EQ];have:=h.ld;omega,h.is.2.1,h.is.2.2,h.dpos⟩
theorem ZM {r:Rat}{x:GF}{k:Nat}(h:FR r x k)(hk:k<100000):AI C0 77 [x.D] (Aq (Do r)):=by
 refine Ag.walk w1 eA rfl λF=>?_
 obtain⟨h1,h2,h3,h4,h5,h6,_⟩:=bt h hk;have c1:=bA x.n h1 h2;have c2:=bA (AW (x.d:Int)) h3 h4;have hb:Do r=(Jh x.n.z.natAbs||Jh (AW (x.d:Int)).z.natAbs):=by
  unfold Do Jh;rw[h5,<-h6];rfl
 rw[hb];obtain⟨p,hp⟩:∃b,Jh x.n.z.natAbs=b:=⟨_,rfl⟩
 obtain⟨q,hq⟩:∃b,Jh (AW (x.d:Int)).z.natAbs=b:=⟨_,rfl⟩
 rw[hp]at c1;rw[hq]at c2;rw[hp,hq];dsimp only[GI.D,GF.D]at c1 c2⊢;generalize AW (x.d:Int)=y at c2⊢;cases p<;>cases q
 all_goals
  refine AH AZ kB c1 c2 AB AB AB AB ?_;exact AL rfl AA.out
theorem cR {r:Rat}{x:GF}{k:Nat}(h:FR r x k)(hk:k<100000):AI C0 78 [x.D] (str (sb (BM r))):=by
 refine Ag.walk w1 eB rfl λF=>?_
 obtain⟨h1,h2,h3,h4,h5,h6,h7⟩:=bt h hk;have c0:=Sw x h7;have c1:=Tf x.n h1 h2;have c2:=Tf (AW (x.d:Int)) h3 h4;have hd:Lib.itoa (AW (x.d:Int)).z=Lib.decDigits r.den:=by
  show Lib.itoa (x.d:Int)=_;unfold Lib.itoa;rw[AF (by omega),h6];rfl
 rw[hd]at c2;rw[h5]at c1;have l1:(Lib.itoa r.num).length<=27000002:=by
  have:(Lib.decDigits x.n.z.natAbs).length<=27*1000000+1:=Mo (k:=1000000) (by unfold GI.few at h2;omega)
  rw[h5]at this;unfold Lib.itoa;split
  ·rw[Bo];omega
  ·rw[show r.num.toNat=r.num.natAbs by omega];omega
 have l2:(Lib.decDigits r.den).length<=27000001:=by
  have:(Lib.decDigits (AW (x.d:Int)).z.natAbs).length<=27*1000000+1:=Mo (k:=1000000) (by unfold GI.few at h4;omega)
  rw[<-h6];exact this
 have s1:=Ce (Lib.itoa r.num);have s2:=Ce (Lib.decDigits r.den);have s3:(sb [47]).size=1:=rfl;have s4:=Ce (Lib.itoa r.num++[47]);have z1:(sb (Lib.itoa r.num)).size+(sb [47]).size<=9223372036854775807:=by rw[s1,s3];omega
 have z2:(sb (Lib.itoa r.num++[47])).size+(sb (Lib.decDigits r.den)).size<=9223372036854775807:=by rw[s4,s2,Bh,Fu];omega
 have a1:sb (Lib.itoa r.num)++(⟨#[47]⟩:ByteArray)=sb (Lib.itoa r.num++[47]):=Ue _ [47];have a2:=Ue (Lib.itoa r.num++[47]) (Lib.decDigits r.den);rw[DZ]at a2;dsimp only[GI.D,GF.D]at c0 c1 c2⊢;generalize AW (x.d:Int)=y at c0 c2⊢;unfold BM
 by_cases g:x.d=1
 ·rw[AX g]at c0
  rw[AG (h6 ▸ g)];refine AH Y1 kB c0 c1 AB AB AB AB ?_;exact AL rfl AA.out
 ·rw[Ac g]at c0
  rw[AF (λq=>g (h6.trans q))];refine AH Y1 (Aj a1 a2) c0 c1 c2 AB AB AB ?_;exact AL rfl AA.out
set_option maxHeartbeats 4000000
def nb (r:Rat)(n d:Nat):Prop:=r.num.natAbs<=n/\r.den<=d
def Pj:Nat:=10^40
theorem oH {l:List UInt8}(h:CV l=0)(hl:l.length<=40):nb (CO l) Pj Pj:=by
 obtain⟨m1,m2,m3,m4⟩:=N7 h;obtain⟨p1,p2⟩:=Pp h;have hs1:(B0 l).length<=40:=by
  have:(B0 l).length<=l.length:=by
   unfold B0;have a1:(Bn (Bz l)).length<=(Bz l).length:=by unfold Bn;split<;>simp
   have a2:(Bz l).length<=l.length:=by unfold Bz;rw[Ba];omega
   omega
  omega
 have hb:∀k,k<=40->(10:Nat)^k<=Pj:=λk hk=>FM (by decide) hk
 refine⟨?_,?_⟩
 ·rw[m1,m4]
  exact BQ (J3 (GE _ p1)) (hb _ hs1)
 ·rw[m2]
  unfold Gn;cases hs:Cr l
  ·exact(by decide:1<=Pj)
  ·have hs2:(BY l).length<=40:=by
    have:(BY l).length<=l.length:=by unfold BY;simp
    omega
   exact BQ (J3 (GE _ (p2 hs))) (hb _ hs2)
theorem wX {r:Rat}{n d k:Nat}(h:nb r n d)(h1:n<BB^k)(h2:d<BB^k):rk r k:=
 ⟨Gw (DY h.1 h1),Gw (DY h.2 h2)⟩
theorem gI {l:List UInt8}(h:CV l=0)(hl:l.length<=40):rk (CO l) 3:=wX (oH h hl) (by decide) (by decide)
theorem Zc (k:Nat)(hk:1<=k):FR 0 ⟨AW 0,1⟩ k:=⟨⟨Cf _,by rw[Dl];rfl,rfl⟩,by
 refine rk.mono (k:=1) ?_ hk;exact⟨Gw (k:=1) (by decide),Gw (k:=1) (by decide)⟩⟩
abbrev GB:Dr:=[(11,[0,1,2,3,4,5,6,7,8,9,10],[11,12]),(21,[0,1],[2,3])]
open Go.Proofs Go.RowKit
set_option maxRecDepth 20000
set_option maxHeartbeats 4000000
def Ov (a b:List UInt8):Bool:=Lu (sb a) (sb b)||BJ (sb a) (sb b)
def FN (l:List Ay)(i:Nat):Nat:=
 if Db (Ff l i).lot=false then 8 else if 0<i/\Ov (Ff l i).lot (Ff l (i-1)).lot=true then 11 else if CV (Ff l i).part≠0 then CV (Ff l i).part else if Gq (CO (Ff l i).part)<=0 then 12 else 0
def Ew (l:List Ay):Nat->Rat
 | 0=>0
 |n+1=>Ew l n+CO (Ff l n).part
def Hh (l:List Ay):Nat:=if l.length=0 then 2 else if 64<l.length then 5 else if Dh (FN l) l.length≠0 then Dh (FN l) l.length else if Ew l l.length=1 then 0 else 12
theorem Qp (l:List UInt8):AI C0 75 [str (sb l)] (Aq (Db l)):=jz (sb l)
theorem nh (a b:Rat):(Ly a b==0)=decide (a=b):=by
 unfold Ly
 by_cases h:a<b
 ·rw[AG h,Ac (Rat.ne_of_lt h)];rfl
 ·rw[AF h]
  by_cases h2:b<a
  ·rw[AG h2,Ac λe=>Rat.ne_of_lt h2 e.symm];rfl
  ·rw[AF h2,AX (Rat.le_antisymm (Rat.not_lt.1 h2) (Rat.not_lt.1 h))];rfl
theorem ug {a b:Rat}{x y:GF}{i j:Nat}(hx:FR a x i)(hy:FR b y j)(hk:i+j<300000):AI C0 184 [x.D,y.D] (Aq (decide (a=b))):=by
 refine Ag.walk w1 aK rfl λF=>?_
 have c:=r7 hx hy hk;have e:=nh a b;obtain⟨r,hr⟩:∃r,Ly a b=r:=⟨_,rfl⟩
 rw[hr]at c e;obtain⟨xD,hxD⟩:∃d,x.D=d:=⟨_,rfl⟩
 obtain⟨yD,hyD⟩:∃d,y.D=d:=⟨_,rfl⟩
 unfold GF.D at c hxD hyD⊢;refine AH AZ e c AB AB AB AB AB ?_;exact AL rfl AA.out
theorem uy:FR 1 ⟨AW 1,1⟩ 1:=by
 have:=Qk (z:=1) (by decide)
 exact this
theorem xy (b:Bool)(l:List Ay)(hl:l.length<=9223372036854775807)(hf:∀s∈l,s.few):AI C0 145 [DD b l] (i64 (Hh l:Nat)):=by
 refine Ag.walk w1 Z4 rfl λF=>?_
 have el:(((l.map Ay.D).length:Nat):Int)=(l.length:Int):=by rw[Ak]
 have hC:Hh l=if l.length=0 then 2 else if 64<l.length then 5 else if Dh (FN l) l.length≠0 then Dh (FN l) l.length else if Ew l l.length=1 then 0 else 12:=rfl
 rcases Nat.decEq l.length 0 with h0|h0
 rotate_left
 ·rw[AG h0]at hC
  rw[hC];have q1:((l.length:Int)==0)=true:=by rw[h0];rfl
  refine AH GB (Aj el q1) AB AB AB AB AB AB ?_;exact AL rfl AA.out
 rw[AF h0]at hC;have q1:((l.length:Int)==0)=false:=Bs.2 (by omega)
 by_cases h64:64<l.length
 ·rw[AG h64]at hC
  rw[hC];have q2:decide ((l.length:Int)>64)=true:=AX (by omega);refine AH GB (As el q1 q2) AB AB AB AB AB AB ?_;exact AL rfl AA.out
 rw[AF h64]at hC;have q2:decide ((l.length:Int)>64)=false:=Ac (by omega);have c0:=O8 0 ⟨by decide,by decide⟩;have c1:=O8 1 ⟨by decide,by decide⟩;refine AH GB (As el q1 q2) c0 AB AB AB AB AB ?_;refine AC.loop (α:=Nat×GF×Nat) (λp=>⟨[(0,DD b l),(3,.optr 501 8 4 0 0),(15,DD b l),(16,i64 (l.length:Int)),(17,i64 (p.1:Int))],[⟨501,8,122,4,[p.2.1.D]⟩],p.2.2⟩) (λp=>l.length-p.1) (λp=>p.1<=l.length/\(∀j,j<p.1->FN l j=0)/\FR (Ew l p.1) p.2.1 (601*p.1+1)) (0,⟨AW 0,1⟩,_)
  ⟨BS _,λj h=>Ae h (HN j),Zc 1 (Af _)⟩ AK ?_
 rintro⟨i,y,m⟩ F ⟨hi,hz,hS⟩;dsimp only at hi hz hS⊢;rcases BG i l.length with h2|h2
 rotate_left
 ·have e1:=CZ h2
  have:i=l.length:=by omega
  subst this;rw[AF (λh=>h (LC hz))]at hC;have cS:=ug hS uy (by omega);obtain⟨q,hq⟩:∃q,decide (Ew l l.length=1)=q:=⟨_,rfl⟩
  rw[hq]at cS;cases q
  ·rw[AF (DN hq)]at hC
   rw[hC];refine AH GB e1 c1 cS AB AB AB AB ?_;exact AL rfl AA.out
  ·rw[AG (Cz hq)]at hC
   rw[hC];refine AH GB e1 c1 cS AB AB AB AB ?_;exact AL rfl AA.out
 have e1:=Ca h2;have wi:=Cc (i:=i) (by omega);obtain⟨s,hs⟩:=CP h2;have hm:(l.map Ay.D)[i]?=some (.agg [str (sb s.lot),str (sb s.part)]):=by rw[A7,hs];rfl
 obtain⟨f1,f2⟩:=hf s (Av hs);have hE:FN l i=if Db s.lot=false then 8 else if 0<i/\Ov s.lot (Ff l (i-1)).lot=true then 11 else if CV s.part≠0 then CV s.part else if Gq (CO s.part)<=0 then 12 else 0:=by unfold FN;rw[Jb hs]
 have hbad:∀e:Nat,e≠0->FN l i=e->Hh l=e:=λe he h=>by
  have:=OS hz h2 (by rw[h];exact he)
  rw[hC,this,h,AG he]
 have cN:=Qp s.lot;obtain⟨N,hN⟩:∃q,Db s.lot=q:=⟨_,rfl⟩
 rw[hN]at cN hE;cases N
 ·rw[AG rfl]at hE
  rw[hbad 8 (by decide) hE];refine AH GB (Aj e1 kN) hm cN AB AB AB AB ?_;exact AL rfl AA.out
 rw[AF (by decide)]at hE;have cC:=lH s.part f2;rcases i with _|q
 ·have g0:decide (((0:Nat):Int)>0)=false:=rfl
  rw[AF (λh=>Ae h.1 (Nat.lt_irrefl 0))]at hE;rcases Nat.decEq (CV s.part) 0 with hc0|hc0
  ·rw[AG hc0]at hE
   have e3:=GO hc0;rw[hbad (CV s.part) hc0 hE];refine AH GB (BW e1 g0 kN e3) hm cN cC AB AB AB ?_;exact AL rfl AA.out
  rw[AF (λh=>h hc0)]at hE;have e3:=GP hc0;have cP:=RI f2 hc0;have fP:=Qx hc0;have cG:=Ys fP.is;have cA:=RC hS fP (by omega);have fA:=Qa hS fP;obtain⟨z,hzz⟩:∃z,Jm y (GG s.part)=z:=⟨_,rfl⟩
  rw[hzz]at cA fA;obtain⟨sg,hsg⟩:∃q,Gq (CO s.part)=q:=⟨_,rfl⟩
  rw[hsg]at cG hE
  by_cases hs0:sg<=0
  ·rw[AG hs0]at hE
   have e4:decide (sg<=0)=true:=AX hs0;rw[hbad 12 (by decide) hE];refine AH GB (CF e1 g0 kN e3 e4) hm cN cC cP cG AB ?_;exact AL rfl AA.out
  rw[AF hs0]at hE;have e4:decide (sg<=0)=false:=Ac hs0;refine AH GB (EM e1 g0 kN e3 e4 wi) hm cN cC cP cG AB ?_;refine cI cA ?_;refine AH GB wi AB AB AB AB AB AB ?_;exact⟨(0+1,z,_),⟨h2,λj hj=>by
   rcases Nat.lt_succ_iff_lt_or_eq.1 hj with q|q
   ·exact hz j q
   ·rw[q];exact hE,by
   show FR (Ew l 0+CO (Ff l 0).part) z _;rw[Jb hs];exact⟨fA.is,fA.rk.mono (by dsimp only;omega)⟩⟩,by dsimp only;omega,AK⟩
 ·have g0:decide (((q+1:Nat):Int)>0)=true:=AX (by omega)
  have g1:IntKind.i64.wrap (((q+1:Nat):Int)-1)=(q:Int):=by rw[wI (by omega) (by omega)];omega
  obtain⟨s0,hs0'⟩:=CP (l:=l) (i:=q) (by omega);have hm0:(l.map Ay.D)[q]?=some (.agg [str (sb s0.lot),str (sb s0.part)]):=by rw[A7,hs0'];rfl
  rw[IW,Jb hs0']at hE;obtain⟨bL,hbL⟩:∃q,Ov s.lot s0.lot=q:=⟨_,rfl⟩
  have g2:(Lu (sb s.lot) (sb s0.lot)||BJ (sb s.lot) (sb s0.lot))=bL:=hbL;rw[hbL]at hE;cases bL
  rotate_left
  ·rw[AG ⟨Nat.succ_pos q,rfl⟩]at hE
   rw[hbad 11 (by decide) hE];refine AH GB (CF e1 g0 g1 g2 kN) hm hm0 cN AB AB AB ?_;exact AL rfl AA.out
  rw[AF (λh=>Ae h.2 (by decide))]at hE;rcases Nat.decEq (CV s.part) 0 with hc0|hc0
  ·rw[AG hc0]at hE
   have e3:=GO hc0;rw[hbad (CV s.part) hc0 hE];refine AH GB (EM e1 g0 g1 g2 kN e3) hm hm0 cN cC AB AB ?_;exact AL rfl AA.out
  rw[AF (λh=>h hc0)]at hE;have e3:=GP hc0;have cP:=RI f2 hc0;have fP:=Qx hc0;have cG:=Ys fP.is;have cA:=RC hS fP (by omega);have fA:=Qa hS fP;obtain⟨z,hzz⟩:∃z,Jm y (GG s.part)=z:=⟨_,rfl⟩
  rw[hzz]at cA fA;obtain⟨sg,hsg⟩:∃q,Gq (CO s.part)=q:=⟨_,rfl⟩
  rw[hsg]at cG hE
  by_cases hs0:sg<=0
  ·rw[AG hs0]at hE
   have e4:decide (sg<=0)=true:=AX hs0;rw[hbad 12 (by decide) hE];refine AH GB (CS e1 g0 g1 g2 kN e3 e4) hm hm0 cN cC cP cG ?_;exact AL rfl AA.out
  rw[AF hs0]at hE;have e4:decide (sg<=0)=false:=Ac hs0;refine AH GB (CS e1 g0 g1 g2 kN e3 (Aj e4 wi)) hm hm0 cN cC cP cG ?_;refine cI cA ?_;refine AH GB wi AB AB AB AB AB AB ?_;exact⟨(q+1+1,z,_),⟨h2,λj hj=>by
   rcases Nat.lt_succ_iff_lt_or_eq.1 hj with q|q
   ·exact hz j q
   ·rw[q];exact hE,by
   show FR (Ew l (q+1)+CO (Ff l (q+1)).part) z _;rw[Jb hs];exact⟨fA.is,fA.rk.mono (by dsimp only;omega)⟩⟩,by dsimp only;omega,AK⟩
def AE.few (x:AE):Prop:=x.grain.length<=100000/\x.shs.length<=9223372036854775807/\∀s∈x.shs,s.few
def CW (x:AE):Nat:=if Db x.grain=false then 8 else if x.mass<1\/x.mass>999999999 then 3 else Hh x.shs
def CG (l:List AE)(k:Nat):AE:=l.getD k ⟨[],0,[]⟩
theorem FS {l:List AE}{k:Nat}{x:AE}(h:l[k]?=some x):CG l k=x:=by unfold CG;rw[Dj,h];rfl
def Al (l:List AE):Int:=(l.map (·.mass)).sum
theorem TK {l:List AE}{i:Nat}{x:AE}(h:l[i]?=some x):Al (l.take (i+1))=Al (l.take i)+x.mass:=by
 unfold Al;rw[Di,h,DA,List.sum_append];simp
def IF (l:List AE):Prop:=l.length<=1000000/\∀x∈l,x.mass.natAbs<=1000000000
theorem UA {l:List AE}(h:∀x∈l,x.mass.natAbs<=1000000000):(Al l).natAbs<=l.length*1000000000:=by
 unfold Al
 induction l with
 |nil=>simp
 |cons a l ih=>
  have h1:=h a (by simp);have h2:=ih λx hx=>h x (by simp[hx])
  simp only[Cq,List.sum_cons,Bo];omega
def Br (l:List AE):Nat:=if 64<l.length then 5 else if Dh (λi=>CW (CG l i)) l.length≠0 then Dh (λi=>CW (CG l i)) l.length else if Al l>999999999 then 4 else 0
theorem OE {x:AE}(h:CW x=0):Db x.grain=true/\1<=x.mass/\x.mass<=999999999/\Hh x.shs=0:=by
 unfold CW at h;split at h
 ·cases h
 ·rename_i h1
  split at h
  ·cases h
  ·rename_i h2
   exact⟨by simpa using h1,by omega,by omega,h⟩
theorem G7 (b:Bool)(e:Int):AI C0 56 [Aq b,i64 e] (i64 (if b then e else 0)):=by
 refine Ag.walk w1 d8 rfl λF=>?_
 cases b
 ·refine AH AZ kB AB AB AB AB AB AB ?_
  exact AL rfl AA.out
 ·refine AH AZ kB AB AB AB AB AB AB ?_
  exact AL rfl AA.out
theorem Lh (v:List Int)(hl:v.length<=1000):AI C0 54 [.sl true 1 (v.map λe=>i64 e)] (i64 (ES v)):=by
 refine Ag.walk w1 d6 rfl λF=>?_
 have el:(((v.map λe=>i64 e).length:Nat):Int)=(v.length:Int):=by rw[Ak]
 refine AH AZ el AB AB AB AB AB AB ?_;refine AC.loop (α:=Nat×Nat) (λp=>⟨[(5,.sl true 1 (v.map λe=>i64 e)),(6,i64 (v.length:Int)),(7,i64 (p.1:Int))],[],p.2⟩) (λp=>v.length-p.1) (λp=>p.1<=v.length/\∀(j:Nat) (e:Int),j<p.1->v[j]?=some e->e=0) (0,_) ⟨BS _,λj e h=>Ae h (HN j)⟩ AK ?_;rintro⟨i,m⟩ F ⟨hi,ha⟩;dsimp only at hi ha⊢;rcases BG i v.length with h2|h2
 rotate_left
 ·have e1:=CZ h2
  have:i=v.length:=by omega
  subst this;have hd:ES v=0:=by rw[WP ha,IZ];rfl
  rw[hd];refine AH AZ e1 AB AB AB AB AB AB ?_;exact AL rfl AA.out
 have e1:=Ca h2;have wi:=Cc (i:=i) (by omega);obtain⟨l,hl'⟩:=CP h2;have hm:(v.map λe=>i64 e)[i]?=some (i64 l):=by rw[A7,hl'];rfl
 by_cases g:l=0
 ·have e5:(l != 0)=false:=by rw[g];rfl
  refine AH AZ (BW e1 wi e5 kN) hm AB AB AB AB AB ?_;exact⟨(i+1,_),⟨h2,λj e hj he=>by
   rcases Nat.lt_succ_iff_lt_or_eq.1 hj with q|q
   ·exact ha j e q he
   ·subst q;rw[hl']at he;cases he;exact g⟩,by dsimp only;omega,AK⟩
 ·have e5:(l != 0)=true:=Ir g
  have hd:ES v=l:=by
   rw[WP ha,EK h2];rw[BE h2]at hl';rw[F3 hl'];exact AG g
  rw[hd];refine AH AZ (BW e1 wi e5 kN) hm AB AB AB AB AB ?_;exact AL rfl AA.out
theorem Zt (b:Bool)(l:List AE)(hs:IF l):AI C0 57 [Am b l] (i64 (Al l)):=by
 refine Ag.walk w1 U9 rfl λF=>?_
 have el:(((l.map AE.D).length:Nat):Int)=(l.length:Int):=by rw[Ak]
 obtain⟨hl,hm0⟩:=hs;refine AH AZ el AB AB AB AB AB AB ?_;refine AC.loop (α:=Nat×Nat) (λp=>⟨[(3,i64 (Al (l.take p.1))),(6,Am b l),(7,i64 (l.length:Int)),(8,i64 (p.1:Int))],[],p.2⟩) (λp=>l.length-p.1) (λp=>p.1<=l.length) (0,_) (BS _) AK ?_;rintro⟨i,m⟩ F hi;dsimp only at hi⊢;rcases BG i l.length with h2|h2
 rotate_left
 ·have e1:=CZ h2
  have:i=l.length:=by omega
  subst this;rw[DO];refine AH AZ e1 AB AB AB AB AB AB ?_;exact AL rfl AA.out
 have e1:=Ca h2;have wi:=Cc (i:=i) (by omega);obtain⟨x,hx⟩:=CP h2;have hm:(l.map AE.D)[i]?=some (.agg [str (sb x.grain),i64 x.mass,.sl false 2 (x.shs.map Ay.D)]):=by rw[A7,hx];rfl
 have hb:=UA (l:=l.take i) λy hy=>hm0 y (El hy)
 have hxm:=hm0 x (Av hx);rw[Ba,E8 hi]at hb;have wS:IntKind.i64.wrap (Al (l.take i)+x.mass)=Al (l.take (i+1)):=by rw[TK hx,wI (by omega) (by omega)]
 refine AH AZ (BW e1 wi @wS kN) hm AB AB AB AB AB ?_;exact⟨(i+1,_),h2,by dsimp only;omega,AK⟩
theorem fK (x:AE)(hf:x.few):AI C0 107 [x.D] (i64 (CW x:Nat)):=by
 refine Ag.walk w1 aY rfl λF=>?_
 obtain⟨f1,f2,f3⟩:=hf;have cN:=Qp x.grain;have cS:=xy false x.shs f2 f3;have hC:CW x=if Db x.grain=false then 8 else if x.mass<1\/x.mass>999999999 then 3 else Hh x.shs:=rfl
 obtain⟨N,hN⟩:∃q,Db x.grain=q:=⟨_,rfl⟩
 obtain⟨SD,hSD⟩:∃d,DD false x.shs=d:=⟨_,rfl⟩
 have pS:AA SD:=by rw[<-hSD];exact AJ
 have hna:JZ SD=true:=by rw[<-hSD];rfl
 unfold AE.D;rw[hN]at cN hC;rw[hSD]at cS⊢;cases N
 ·rw[AG rfl]at hC
  rw[hC];refine AH AZ kB cN AB AB AB AB AB ?_;exact AL rfl AA.out
 rw[AF (by decide)]at hC
 by_cases h1:x.mass<1
 ·rw[AG (.inl h1)]at hC
  rw[hC];have e1:decide (x.mass<1)=true:=AX h1;refine AH AZ e1 cN AB AB AB AB AB ?_;exact AL rfl AA.out
 have e1:decide (x.mass<1)=false:=Ac h1
 by_cases h2:x.mass>999999999
 ·rw[AG (.inr h2)]at hC
  rw[hC];have e2:decide (x.mass>999999999)=true:=AX h2;refine AH AZ (Aj e1 e2) cN AB AB AB AB AB ?_;exact AL rfl AA.out
 have e2:decide (x.mass>999999999)=false:=Ac h2;rw[AF (by omega)]at hC;rw[hC];refine AH AZ (As e1 e2 hna) cN cS AB AB AB AB ?_;exact AL rfl AA.out
theorem S1 {l:List AE}(h64:¬ 64<l.length)(hz:∀j,j<l.length->CW (CG l j)=0):IF l:=by
 refine⟨by omega,λx hx=>?_⟩;obtain⟨j,hj⟩:=List.mem_iff_getElem?.1 hx
 have:=hz j (List.getElem?_eq_some_iff.1 hj).1
 rw[FS hj]at this
 have:=OE this
 omega
theorem NG (b:Bool)(l:List AE)(hl:l.length<=9223372036854775807)(hf:∀x∈l,x.few):AI C0 68 [Am b l] (i64 (Br l:Nat)):=by
 refine Ag.walk w1 dm rfl λF=>?_
 have el:(((l.map AE.D).length:Nat):Int)=(l.length:Int):=by rw[Ak]
 have hC:Br l=if 64<l.length then 5 else if Dh (λi=>CW (CG l i)) l.length≠0 then Dh (λi=>CW (CG l i)) l.length else if Al l>999999999 then 4 else 0:=rfl
 by_cases h64:64<l.length
 ·rw[AG h64]at hC
  rw[hC];have q2:decide ((l.length:Int)>64)=true:=AX (by omega);refine AH AZ (Aj el q2) AB AB AB AB AB AB ?_;exact AL rfl AA.out
 rw[AF h64]at hC;have q2:decide ((l.length:Int)>64)=false:=Ac (by omega);refine AH AZ (Aj el q2) AB AB AB AB AB AB ?_;refine AC.loop (α:=Nat×Nat) (λp=>⟨[(0,Am b l),(9,Am b l),(10,i64 (l.length:Int)),(11,i64 (p.1:Int))],[],p.2⟩) (λp=>l.length-p.1) (λp=>p.1<=l.length/\∀j,j<p.1->CW (CG l j)=0) (0,_) ⟨BS _,λj h=>Ae h (HN j)⟩ AK ?_;rintro⟨i,m⟩ F ⟨hi,hz⟩;dsimp only at hi hz⊢;rcases BG i l.length with h2|h2
 rotate_left
 ·have e1:=CZ h2
  have:i=l.length:=by omega
  subst this;rw[AF (λh=>h (LC (f:=λi=>CW (CG l i)) hz))]at hC;have cT:=Zt b l (S1 h64 hz);obtain⟨q,hq⟩:∃q,decide (Al l>999999999)=q:=⟨_,rfl⟩
  have cW:=G7 q 4;have hR:((Br l:Nat):Int)=if q then 4 else 0:=by
   rw[hC,<-hq]
   by_cases h:Al l>999999999
   ·rw[AG h,AX h];rfl
   ·rw[AF h,Ac h];rfl
  rw[hR];refine AH AZ (Aj e1 hq) cT cW AB AB AB AB ?_;exact AL rfl AA.out
 have e1:=Ca h2;have wi:=Cc (i:=i) (by omega);obtain⟨x,hx⟩:=CP h2;have hm:(l.map AE.D)[i]?=some (.agg [str (sb x.grain),i64 x.mass,.sl false 2 (x.shs.map Ay.D)]):=by rw[A7,hx];rfl
 have cL:=fK x (hf x (Av hx));unfold AE.D at cL;rcases Nat.decEq (CW x) 0 with hc0|hc0
 ·have e3:=GO hc0
  have:=OS (f:=λi=>CW (CG l i)) hz h2 (by rw[FS hx];exact hc0)
  rw[FS hx]at this;rw[this,AG hc0]at hC;rw[hC];refine AH AZ (As e1 e3 kN) hm cL AB AB AB AB ?_;exact AL rfl AA.out
 have e3:=GP hc0;refine AH AZ (BW e1 e3 wi kN) hm cL AB AB AB AB ?_;exact⟨(i+1,_),⟨h2,λj hj=>by
  rcases Nat.lt_succ_iff_lt_or_eq.1 hj with q|q
  ·exact hz j q
  ·rw[q,FS hx];exact hc0⟩,by dsimp only;omega,AK⟩
theorem Xi {α:Type}{l:List α}{p:α->Bool}{k:Nat}{x:α}(hx:l[k]?=some x)(h:(l.take k).all p=true)(hp:p x=true):(l.take (k+1)).all p=true:=by
 rw[Di,hx,Jz,h];simp[hp]
theorem Tx {α:Type}{l:List α}{p:α->Bool}{k:Nat}{x:α}(hx:l[k]?=some x)(hp:p x=false):l.all p=false:=by
 cases h:l.all p
 ·rfl
 ·rw[CN.1 h x (Av hx)]at hp;exact hp
abbrev Mb:Dr:=[(8,[0,1,2,3,4,5,6,7],[8])]
open Go.Proofs Go.RowKit
set_option maxRecDepth 20000
set_option maxHeartbeats 4000000
abbrev By:=List (List UInt8×Rat)
def Fl (lot:List UInt8):By->Option Rat
 | []=>none
 |p::l=>if lot=p.1 then some p.2 else Fl lot l
def GQ (lot:List UInt8)(r:Rat):By->By
 | []=>[(lot,r)]
 |p::l=>if lot=p.1 then(lot,r)::l else p::GQ lot r l
def Js (lot:List UInt8)(r:Rat)(q:By):By:=GQ lot (match Fl lot q with|some o=>r+o|none=>r) q
def GH (x:AE)(n:Nat)(q:By):By:=(x.shs.take n).foldl (λacc s=>Js s.lot (CO s.part*(x.mass:Rat)) acc) q
def CH (l:List AE):By:=l.foldl (λacc x=>GH x x.shs.length acc) []
def MQ (B:Nat):By->C7->Prop
 | [],[]=>True
 |p::q,e::m=>(e.1=sb p.1/\∃y:GF,e.2=y.D/\FR p.2 y B)/\MQ B q m
 |_,_=>False
theorem MQ.mono {B B':Nat}(hB:B<=B'):∀ {q:By} {m:C7},MQ B q m->MQ B' q m
 | [],[],_=>trivial
 |_::_,_::_,⟨⟨h1,y,h2,h3⟩,h4⟩=>⟨⟨h1,y,h2,h3.is,h3.rk.mono hB⟩,MQ.mono hB h4⟩
theorem MQ.look {B:Nat}(lot:List UInt8):∀ {q:By} {m:C7},MQ B q m->(Hz (sb lot) m=none/\Fl lot q=none)\/∃(r:Rat) (y:GF),Hz (sb lot) m=some y.D/\Fl lot q=some r/\FR r y B
 | [],[],_=>.inl ⟨rfl,rfl⟩
 |p::q,e::m,⟨⟨h1,y,h2,h3⟩,h4⟩=>by
  unfold Hz Fl;rw[h1,Ev]
  by_cases hl:lot=p.1
  ·rw[AX hl,AG hl]
   exact .inr ⟨p.2,y,by rw[h2];rfl,rfl,h3⟩
  ·rw[Ac hl,AF hl]
   exact MQ.look lot h4
theorem MQ.set {B:Nat}(lot:List UInt8){r:Rat}{y:GF}(hr:FR r y B):∀ {q:By} {m:C7},MQ B q m->MQ B (GQ lot r q) (FH (sb lot) y.D m)
 | [],[],_=>⟨⟨rfl,y,rfl,hr⟩,trivial⟩
 |p::q,e::m,⟨⟨h1,y',h2,h3⟩,h4⟩=>by
  unfold GQ FH;rw[h1,Ev]
  by_cases hl:lot=p.1
  ·rw[AX hl,AG hl]
   exact⟨⟨rfl,y,rfl,hr⟩,h4⟩
  ·rw[Ac hl,AF hl]
   exact⟨⟨h1,y',h2,h3⟩,MQ.set lot hr h4⟩
theorem MQ.pure {B:Nat}:∀ {q:By} {m:C7},MQ B q m->∀e∈m,B4 e.2
 | [],[],_,e,he=>by cases he
 |p::q,e::m,⟨⟨_,y,h2,_⟩,h4⟩,x,hx=>by
  rcases A8.1 hx with rfl|hx
  ·rw[h2];exact AA.out
  ·exact MQ.pure h4 x hx
theorem MQ.mapD {B:Nat}{q:By}{m:C7}(h:MQ B q m):B4 (mapD m):=by
 refine B4.mp (λd hd=>?_) λd hd=>?_
 ·obtain⟨p,-,rfl⟩:=List.mem_map.1 hd;exact AA.out
 ·obtain⟨p,hp,rfl⟩:=List.mem_map.1 hd;exact h.pure p hp
def Ay.ok (s:Ay):Prop:=s.lot.length<=100000/\s.part.length<=40/\CV s.part=0
def AE.ok (x:AE):Prop:=x.shs.length<=64/\Sm x.mass/\∀s∈x.shs,s.ok
def AE.okW (w:Nat)(x:AE):Prop:=x.shs.length<=64/\Sm x.mass/\∀s∈x.shs,s.lot.length<=100000/\s.part.length<=100000/\CV s.part=0/\rk (CO s.part) (w-2)
theorem Nq (x:AE)(n:Nat)(q:By){s:Ay}(h:x.shs[n]?=some s):GH x (n+1) q=Js s.lot (CO s.part*(x.mass:Rat)) (GH x n q):=by
 unfold GH;rw[Di,h,List.foldl_append];rfl
theorem Px (l:List AE)(n:Nat){x:AE}(h:l[n]?=some x):CH (l.take (n+1))=GH x x.shs.length (CH (l.take n)):=by
 unfold CH;rw[Di,h,List.foldl_append];rfl
theorem bO (w:Nat)(b:Bool)(l:List AE)(hl:l.length<=100)(hx:∀x∈l,x.okW w)(h2w:2<=w)(hw:w*(64*(l.length+1))<=100000):Ag C0 70 [Am b l] (λd=>∃m,d=mapD m/\MQ (w*(64*l.length)) (CH l) m):=by
 refine Ag.walk w1 dt rfl λF0=>?_
 have el:(((l.map AE.D).length:Nat):Int)=(l.length:Int):=by rw[Ak]
 refine sZ 0 ?_;refine AD kB ?_;refine AC.seq ?_;refine Hv (by kernel_rfl) ?_;change Bd _ _ _ _ _ [0,1] _ _;refine Bd.makeMap 100 rfl rfl rfl (Vf F0) (λF1 it hto hO hr0 hnX hM=>?_);change Bd _ _ _ _ _ ([1]++[]) _ _;refine FL w1 100 [1] [] ?_;refine AD kB ?_;refine Bd.nil ?_;refine AH Mb el AB AB AB AB AB AB ?_;refine GT (α:=Nat×C7×Obj×Nat) (λp=>⟨[(3,.prim (.map (some it))),(12,Am b l),(13,i64 (l.length:Int)),(14,i64 (p.1:Int))],[],p.2.2.2⟩) (λp=>l.length-p.1)
  (λp F=>p.1<=l.length/\C5 C0 F0 F [⟨100,1,p.2.2.1⟩]/\F.r0 100 1=some it/\Hm F p.2.2.1 p.2.1/\MQ (w*(64*p.1)) (CH (l.take p.1)) p.2.1) (0,[],.map #[] 0,_) ⟨BS _,hO,hr0,hM,trivial⟩ AK ?_
 clear hO hr0 hM hto;rintro⟨i,m,o,n1⟩ F ⟨hi,hO,hr0,hM,hQ⟩;dsimp only at hi hO hr0 hM hQ⊢;rcases BG i l.length with h2|h2
 rotate_left
 ·have e1:=CZ h2
  have:i=l.length:=by omega
  subst this;rw[DO]at hQ;refine sZ 300 ?_;refine AD e1 ?_;refine AC.seq ?_;refine AM ?_;refine B6 ?_;refine fY [(3,mapD m)] hO hr0 hnX hM ⟨.inr ⟨rfl,rfl⟩,trivial⟩ (λF2 hto2 hO2=>?_);refine AH Mb kB AB AB AB AB AB AB ?_;exact⟨mapD m,.refl _,hQ.mapD,m,rfl,hQ⟩
 have e1:=Ca h2;have wi:=Cc (i:=i) (by omega);obtain⟨x,hxi⟩:=CP h2;obtain⟨x1,x2,x3⟩:=hx x (Av hxi);have hm:(l.map AE.D)[i]?=some (.agg [str (sb x.grain),i64 x.mass,.sl false 2 (x.shs.map Ay.D)]):=by rw[A7,hxi];rfl
 have es:(((x.shs.map Ay.D).length:Nat):Int)=(x.shs.length:Int):=by rw[Ak]
 refine AH Mb (As e1 es kN) hm AB AB AB AB AB ?_;obtain⟨ga,hga⟩:∃g,n1+1+1+1=g:=⟨_,rfl⟩
 refine GT (α:=Nat×C7×Obj×Nat) (λp=>⟨[(3,.prim (.map (some it))),(5,.optr 402 (n1+1+1+1) 3 0 0),(12,Am b l),(13,i64 (l.length:Int)),(14,i64 (i:Int)),(19,.sl false 2 (x.shs.map Ay.D)),(20,i64 (x.shs.length:Int)),(21,i64 (p.1:Int))],[⟨402,n1+1+1+1,80,3,[.agg [str (sb x.grain),i64 x.mass,.sl false 2 (x.shs.map Ay.D)]]⟩],p.2.2.2⟩) (λp=>x.shs.length-p.1)
  (λp F=>p.1<=x.shs.length/\C5 C0 F0 F [⟨100,1,p.2.2.1⟩]/\F.r0 100 1=some it/\Hm F p.2.2.1 p.2.1/\MQ (w*(64*i+p.1)) (GH x p.1 (CH (l.take i))) p.2.1) (0,m,o,_) ⟨BS _,hO,hr0,hM,hQ⟩ AK ?_
 clear hO hr0 hM hQ;rintro⟨j,m2,o2,n2⟩ F ⟨hj,hO,hr0,hM,hQ⟩;dsimp only at hj hO hr0 hM hQ⊢;rw[hga];rcases BG j x.shs.length with h3|h3
 rotate_left
 ·have e2:=CZ h3
  have:j=x.shs.length:=by omega
  subst this;rw[<-Px l i hxi]at hQ;refine AH Mb (Aj e2 wi) AB AB AB AB AB AB ?_;exact⟨(i+1,m2,o2,_),⟨h2,hO,hr0,hM,hQ.mono (CY _ (by dsimp only;omega))⟩,by dsimp only;omega,AK⟩
 have e2:=Ca h3;have wj:=Cc (i:=j) (by omega);obtain⟨s,hsj⟩:=CP h3;obtain⟨s1,s2,s3,s4⟩:=x3 s (Av hsj);have hms:(x.shs.map Ay.D)[j]?=some (.agg [str (sb s.lot),str (sb s.part)]):=by rw[A7,hsj];rfl
 have hsn:=Nq x j (CH (l.take i)) hsj;have fP:FR (CO s.part) (GG s.part) (w-2):=⟨(Qx s3).is,s4⟩
 obtain⟨PW,hPW⟩:∃P,w*(64*i+j)=P:=⟨_,rfl⟩
 have hPW1:w*(64*i+(j+1))=PW+w:=by rw[<-hPW,<-EX,Nat.mul_succ]
 have hPWb:PW+w<=100000:=by
  rw[<-hPW1];exact BQ (CY _ (by omega)) hw
 rw[hPW]at hQ;have fM:FR ((x.mass:Int):Rat) ⟨AW x.mass,1⟩ 1:=Qk (by unfold Sm at x2;omega);have c1:=RI s2 s3;have c2:=O8 x.mass x2;have c3:=UJ fP fM (by omega);have fZ:FR (CO s.part*(x.mass:Rat)) (IQ (GG s.part) ⟨AW x.mass,1⟩) (w-2+1):=Tv fP fM;obtain⟨z,hz⟩:∃z,IQ (GG s.part) ⟨AW x.mass,1⟩=z:=⟨_,rfl⟩
 rw[hz]at c3 fZ;obtain⟨d1,hd1⟩:∃d,(GG s.part).D=d:=⟨_,rfl⟩
 obtain⟨d2,hd2⟩:∃d,(⟨AW x.mass,1⟩:GF).D=d:=⟨_,rfl⟩
 have pd1:AA d1:=by rw[<-hd1];exact AJ
 have pd2:AA d2:=by rw[<-hd2];exact AJ
 rw[hd1]at c1 c3;rw[hd2]at c2 c3;refine sZ 600 ?_;refine AD e2 ?_;refine AC.seq ?_;refine AM ?_;refine An ?_;refine AC.seq ?_;refine AC.block ?_;refine sZ 700 ?_;refine Bq kT hms ?_;refine AD kB ?_;refine AC.seq ?_;refine B5 w1 800 [0,1,2,3,4,5,6,7] [8] (by kernel_rfl) ?_;refine AD kB ?_;refine BX.same _ (c1) AJ ?_;refine BN ?_;refine AD kB ?_;refine BX.same _ (c2) AJ ?_;refine BN ?_;refine AD kB ?_;refine BX.same _ (c3) AJ ?_;refine BN ?_;refine AD kB ?_;refine AC.seq ?_;refine AC.seq ?_;refine Hv (by kernel_rfl) ?_;change Bd _ _ _ _ _ ([0,1,2]++(3::([4,5,6,7,8,9]++[]))) _ _;refine FL w1 900 [0,1,2] _ ?_;refine AD kB ?_;refine Bd.look (xo:=⟨100,1,o2⟩) (l:=m2) w1 rfl rfl rfl rfl rfl rfl hO B9 hr0 hM ?_;rcases hQ.look s.lot with⟨q1,q2⟩|⟨r,y,q1,q2,q3⟩
 ·rw[Ws q1]
  refine FL w1 900 [4,5,6,7,8,9] [] ?_;refine AD kB ?_;refine Bd.nil ?_;refine Au ?_;refine sZ 1000 ?_;refine AD kB ?_;refine AM ?_;refine An ?_;refine Hv (by kernel_rfl) ?_;change Bd _ _ _ _ _ ([0,1,2,3]++(4::[])) _ _;refine FL w1 1200 [0,1,2,3] _ ?_;refine AD kB ?_;refine Bd.put (l:=m2) w1 rfl rfl rfl rfl rfl rfl hO hr0 hM (λF3 o3 hto3 hO3 hr3 hM3=>Bd.nil ?_);refine Au ?_;have hQ2:MQ (w*(64*i+(j+1))) (GH x (j+1) (CH (l.take i))) (FH (sb s.lot) z.D m2):=by
   rw[hsn,hPW1];unfold Js;rw[q2];exact MQ.set s.lot ⟨fZ.is,fZ.rk.mono (by omega)⟩ (hQ.mono (by omega))
  refine AH Mb wj AB AB AB AB AB AB ?_;exact⟨(j+1,FH (sb s.lot) z.D m2,o3,_),⟨h3,hO3,hr3,hM3,hQ2⟩,by dsimp only;omega,AK⟩
 ·rw[Wt q1]
  refine FL w1 900 [4,5,6,7,8,9] [] ?_;refine AD kB ?_;refine Bd.nil ?_;have c4:=RC fZ q3 (by omega);have fA:=Qa fZ q3;obtain⟨z2,hz2⟩:∃z2,Jm z y=z2:=⟨_,rfl⟩
  rw[hz2]at c4 fA;refine Au ?_;refine sZ 1000 ?_;refine AD kB ?_;refine AM ?_;refine Ao w1 1100 (by kernel_rfl) ?_;refine AD kB ?_;refine cI c4 ?_;refine AD kB ?_;refine Hv (by kernel_rfl) ?_;change Bd _ _ _ _ _ ([0,1,2,3]++(4::[])) _ _;refine FL w1 1200 [0,1,2,3] _ ?_;refine AD kB ?_;refine Bd.put (l:=m2) w1 rfl rfl rfl rfl rfl rfl hO hr0 hM (λF3 o3 hto3 hO3 hr3 hM3=>Bd.nil ?_);refine Au ?_;have hQ2:MQ (w*(64*i+(j+1))) (GH x (j+1) (CH (l.take i))) (FH (sb s.lot) z2.D m2):=by
   rw[hsn,hPW1];unfold Js;rw[q2];exact MQ.set s.lot ⟨fA.is,fA.rk.mono (by omega)⟩ (hQ.mono (by omega))
  refine AH Mb wj AB AB AB AB AB AB ?_;exact⟨(j+1,FH (sb s.lot) z2.D m2,o3,_),⟨h3,hO3,hr3,hM3,hQ2⟩,by dsimp only;omega,AK⟩
theorem AE.ok.w5 {x:AE}(h:x.ok):x.okW 5:=⟨h.1,h.2.1,λs hs=>by
 obtain⟨a,b,c⟩:=h.2.2 s hs;exact⟨a,by omega,c,gI c b⟩⟩
theorem x9 (b:Bool)(l:List AE)(hl:l.length<=100)(hx:∀x∈l,x.ok):Ag C0 70 [Am b l] (λd=>∃m,d=mapD m/\MQ 32000 (CH l) m):=
 (bO 5 b l hl (λx h=>(hx x h).w5) (by omega) (by omega)).mono λd ⟨m,h1,h2⟩=>⟨m,h1,h2.mono (by omega)⟩
def VC (r:Rat):List UInt8:=if Do r=true then[]else BM r
def VB (r:Rat):Nat:=if Do r=true then 4 else 0
set_option maxHeartbeats 8000000
theorem Uk {l:List UInt8}(h:CV l=0):rR (CO l)=str (sb l):=by unfold rR;rw[(N7 h).2.2.1]
set_option maxHeartbeats 4000000
theorem XN (n:Nat):C6 (Lib.decDigits n)=true:=by
 obtain⟨h1,h2,h3⟩:=ET n;rcases Dk n with h|h
 ·have e:Lib.decDigits n=[48]:=by
   have:=Yc 0
   rw[h];exact Cz (this.trans (AX rfl))
  rw[e];rfl
 ·obtain⟨c,l,e,hc⟩:=mE (Nat.pos_iff_ne_zero.1 h)
  rw[e]at h1⊢;unfold C6 Kl;rw[h1];simp[hc]
theorem UU {n:Nat}{l:List UInt8}(h:n≠dv l):decide (Lib.decDigits n=l)=false:=Ac λe=>h (by rw[<-e,(ET n).2.1])
theorem na {r:Rat}(h:Do r=false):CV (BM r)=0:=by
 have hs:B0 (BM r)=Lib.decDigits r.num.natAbs:=by unfold B0;rw[OT,(MV _).2]
 have hd:=Mh r;have hh:=Qh r;unfold Do at h;simp only[JD,Ib]at h;have hb:JU (BM r)=false:=by
  rw[Pu,hs,UG,hh,XN];have e1:(decide (r.num<0)&&decide (Lib.decDigits r.num.natAbs=[48]))=false:=by
   by_cases g:r.num<0
   ·rw[UU (show r.num.natAbs≠dv [48] by show r.num.natAbs≠0;omega),Bool.and_false]
   ·rw[Ac g,HR]
  rw[e1]
  by_cases g:r.den=1
  ·rw[AX g];rfl
  ·rw[hd,AF g,XN,UU (show r.den≠dv [48]from r.den_nz),UU (show r.den≠dv [49]from g),Ac g];rfl
 unfold CV;rw[hb,AF (by decide),hs]
 by_cases g:r.den=1
 ·rw[hd,AG g,hh,AX g,AF (by simp;omega),AF (λk=>Ae k.1 (by decide))]
 ·rw[hd,AF g,(ET _).2.1,(ET _).2.1,AF (by omega),AF (λk=>k.2 r.reduced)]
theorem kg (r:Rat):CO (BM r)=r:=by
 unfold CO Gn;rw[OT,ZQ,Qh,Mh]
 by_cases g:r.den=1
 ·rw[AX g]
  show mkRat r.num 1=r;rw[<-g];exact Rat.mkRat_self r
 ·rw[Ac g,AF g,(ET _).2.1]
  exact Rat.mkRat_self r
theorem pW:rR 0=str ⟨#[48]⟩:=by
 have h:CO [48]=0:=by kernel_rfl
 rw[<-h,Uk (by kernel_rfl)];all_goals rfl
theorem jT (r:Rat):BJ (sb (BM r)) ⟨#[49]⟩=decide (r=1):=by
 have h1:CO [49]=1:=by kernel_rfl
 have e:(⟨#[49]⟩:ByteArray)=sb [49]:=rfl;rw[e,Ev,C4];constructor
 ·intro h
  rw[<-kg r,h,h1]
 ·intro h
  rw[h]
  have:=(N7 (l:=[49]) (by kernel_rfl)).2.2.1
  rwa [h1]at this
end Go.Ide
namespace Go.Proofs
open Go.Shelf Go.RowKit Go.Lib Go.Sort
def Tryz.sortAmounts_ren:Go.Shelf.Ren:=⟨fun|6=>108|15=>147|14=>146|28=>193|29=>194|20=>185|21=>186|22=>187|23=>188|24=>189|25=>190|26=>191|27=>192|46=>241|47=>242|48=>243|49=>244|50=>245|57=>274|n=>n,fun|22=>47|24=>88|25=>156|3=>3|39=>189|0=>0|53=>54|55=>210|4=>4|46=>233|45=>232|50=>237|5=>5|9=>9|66=>272|70=>276|76=>297|77=>73|n=>n,fun|n=>n⟩
theorem zP:Go.Proofs.SlLaysF0.n6 Tryz.prog Tryz.sortAmounts_ren:={
 mixed:=by kernel_rfl
 f6:=⟨Tryz.f108.name,by decide,Tryz.func108.trans (congrArg some (by kernel_rfl))⟩
 f14:=⟨Tryz.f146.name,by decide,Tryz.func146.trans (congrArg some (by kernel_rfl))⟩
 f15:=Tryz.func147.trans (congrArg some (by kernel_rfl))
 f20:=⟨Tryz.f185.name,by decide,Tryz.func185.trans (congrArg some (by kernel_rfl))⟩
 f21:=⟨Tryz.f186.name,by decide,Tryz.func186.trans (congrArg some (by kernel_rfl))⟩
 f22:=⟨Tryz.f187.name,by decide,Tryz.func187.trans (congrArg some (by kernel_rfl))⟩
 f23:=⟨Tryz.f188.name,by decide,Tryz.func188.trans (congrArg some (by kernel_rfl))⟩
 f24:=⟨Tryz.f189.name,by decide,Tryz.func189.trans (congrArg some (by kernel_rfl))⟩
 f25:=⟨Tryz.f190.name,by decide,Tryz.func190.trans (congrArg some (by kernel_rfl))⟩
 f26:=⟨Tryz.f191.name,by decide,Tryz.func191.trans (congrArg some (by kernel_rfl))⟩
 f27:=⟨Tryz.f192.name,by decide,Tryz.func192.trans (congrArg some (by kernel_rfl))⟩
 f28:=Tryz.func193.trans (congrArg some (by kernel_rfl))
 f29:=Tryz.func194.trans (congrArg some (by kernel_rfl))
 f46:=⟨Tryz.f241.name,by decide,Tryz.func241.trans (congrArg some (by kernel_rfl))⟩
 f47:=Tryz.func242.trans (congrArg some (by kernel_rfl))
 f48:=Tryz.func243.trans (congrArg some (by kernel_rfl))
 f49:=⟨Tryz.f244.name,by decide,Tryz.func244.trans (congrArg some (by kernel_rfl))⟩
 f50:=⟨Tryz.f245.name,by decide,Tryz.func245.trans (congrArg some (by kernel_rfl))⟩
 f57:=⟨Tryz.f274.name,by decide,Tryz.func274.trans (congrArg some (by kernel_rfl))⟩
 t0:=Tryz.underlying0
 a0:=Tryz.isAgg0
 z0:=Tryz.sizeOf0
 v0:=Tryz.zeroValue0
 t3:=Tryz.underlying3
 a3:=Tryz.isAgg3
 z3:=Tryz.sizeOf3
 v3:=Tryz.zeroValue3
 t4:=Tryz.underlying4
 a4:=Tryz.isAgg4
 z4:=Tryz.sizeOf4
 v4:=Tryz.zeroValue4
 t5:=Tryz.underlying5
 a5:=Tryz.isAgg5
 z5:=Tryz.sizeOf5
 v5:=Tryz.zeroValue5
 t9:=Tryz.underlying9
 a9:=Tryz.isAgg9
 z9:=Tryz.sizeOf9
 v9:=Tryz.zeroValue9
 t22:=Tryz.underlying47
 a22:=Tryz.isAgg47
 z22:=Tryz.sizeOf47
 v22:=Tryz.zeroValue47
 t25:=Tryz.underlying156
 a25:=Tryz.isAgg156
 z25:=Tryz.sizeOf156
 v25:=Tryz.zeroValue156
 t39:=Tryz.underlying189
 a39:=Tryz.isAgg189
 z39:=Tryz.sizeOf189
 v39:=Tryz.zeroValue189
 t45:=Tryz.underlying232
 a45:=Tryz.isAgg232
 z45:=Tryz.sizeOf232
 v45:=Tryz.zeroValue232
 t46:=Tryz.underlying233
 a46:=Tryz.isAgg233
 z46:=Tryz.sizeOf233
 v46:=Tryz.zeroValue233
 t50:=Tryz.underlying237
 a50:=Tryz.isAgg237
 z50:=Tryz.sizeOf237
 v50:=Tryz.zeroValue237
 t53:=Tryz.underlying54
 a53:=Tryz.isAgg54
 z53:=Tryz.sizeOf54
 v53:=Tryz.zeroValue54
 t55:=Tryz.underlying210
 a55:=Tryz.isAgg210
 z55:=Tryz.sizeOf210
 v55:=Tryz.zeroValue210
 t66:=Tryz.underlying272
 a66:=Tryz.isAgg272
 z66:=Tryz.sizeOf272
 v66:=Tryz.zeroValue272
 t70:=Tryz.underlying276
 a70:=Tryz.isAgg276
 z70:=Tryz.sizeOf276
 v70:=Tryz.zeroValue276
 t76:=Tryz.underlying297
 a76:=Tryz.isAgg297
 z76:=Tryz.sizeOf297
 v76:=Tryz.zeroValue297
 t77:=Tryz.underlying73
 a77:=Tryz.isAgg73
 z77:=Tryz.sizeOf73
 v77:=Tryz.zeroValue73 }
end Go.Proofs
namespace Go.Ide
open Go.Proofs Go.RowKit Go.Sort
set_option maxRecDepth 20000
def Ci (p:List UInt8×Rat):D:=.agg [str (sb p.1),str (sb (BM p.2))]
instance d7F (p:List UInt8×Rat):AV (Ci p):=by unfold Ci;exact AJ
instance d7G (p:List UInt8×Rat):AA (Ci p):=by unfold Ci;exact AJ
def Km (p:List UInt8×Rat):List Value:=[.string (sb p.1),.string (sb (BM p.2))]
def Hn (x y:List UInt8):Int:=if x<y then -1 else if y<x then 1 else 0
theorem QA (x y:List UInt8×Rat):ltOf (λx y:List UInt8×Rat=>Hn x.1 y.1) x y=ltStr x.1 y.1:=by
 unfold ltOf Hn ltStr
 by_cases h:x.1<y.1
 ·simp[h]
 ·by_cases h2:y.1<x.1<;>simp[h,h2]
theorem yM:SWO (ltOf (λx y:List UInt8×Rat=>Hn x.1 y.1)) where
 irrefl x:=by rw[QA];exact swo_ltStr.irrefl _
 trans x y z h1 h2:=by rw[QA]at*;exact swo_ltStr.trans _ _ _ h1 h2
 ntrans x y z h1 h2:=by rw[QA]at*;exact swo_ltStr.ntrans _ _ _ h1 h2
set_option maxHeartbeats 1000000 in
theorem jr (x:ByteArray)(W:World):Calls Tryz.prog 148 #[.string x] W λe w'=>e=.returned (.bool false)/\w'=W:=by
 go_enter Tryz.func148,Tryz.ntmps148
 go_wp2
 go_ret
 exact⟨by simp,rfl⟩
set_option maxHeartbeats 1000000 in
theorem jA (x y:List UInt8)(W:World):Calls Tryz.prog 110 #[.string (sb x),.string (sb y)] W λe w'=>e=.returned (.int .i64 (Hn x y))/\w'=W:=by
 go_enter Tryz.func110,Tryz.ntmps110
 go_wp2_with (go_at_call 148;refine(jr _ _).mono ?_;rintro e w' ⟨rfl,hw⟩;rw[hw])
 all_goals go_ret
 all_goals(refine⟨?_,rfl⟩)
 ·have h:Op.bytesLess x y=true:=by assumption
  rw[bytesLess_eq,GX]at h;unfold Hn;rw[AG h];rfl
 ·have h:Op.bytesLess x y=false:=by assumption
  have h2:(!x==y)=true:=by assumption
  rw[bytesLess_eq,Ib]at h;have h3:y<x:=DT λq=>by
   have:=List.le_antisymm (List.not_lt.1 q) (List.not_lt.1 h)
   simp[this]at h2
  unfold Hn;rw[AF h,AG h3];rfl
 ·have h:Op.bytesLess x y=false:=by assumption
  have h2:(!x==y)=false:=by assumption
  rw[bytesLess_eq,Ib]at h;have h3:¬y<x:=λq=>by
   have:x=y:=by simpa using h2
   rw[this]at q;exact List.lt_irrefl _ q
  unfold Hn;rw[AF h,AF h3];rfl
set_option maxHeartbeats 1000000 in
theorem iz (x y:List UInt8×Rat)(W:World):Calls Tryz.prog 109 #[.agg (Km x).toArray,.agg (Km y).toArray] W λe w'=>e=.returned (.int .i64 (Hn x.1 y.1))/\∃q os',w'=grow (W.drewN q) os':=by
 have hcon:=jA x.1 y.1;unfold Km;generalize Hn x.1 y.1=r at hcon⊢;generalize sb x.1=a at hcon⊢;generalize sb y.1=b at hcon⊢;generalize sb (BM x.2)=c;generalize sb (BM y.2)=d
 go_enter Tryz.func109,Tryz.ntmps109
 go_wp2_with (go_at_call 110;refine(hcon _).mono ?_;rintro e w' ⟨rfl,rfl⟩)
 go_ret
 exact⟨rfl,0,_,by rw[alloc_eq_grow,alloc_eq_grow,grow_grow];rfl⟩
theorem zv:(Tryz.prog.info? 88).map (λi=>i.size)=some 2:=by kernel_rfl
theorem gT:IE Tryz.prog 88=true:=by kernel_rfl
theorem zw:(Tryz.prog.underlying 88).isSome=true:=by kernel_rfl
theorem xg (w:World):(Go.sizeOf 88).run Tryz.prog w=.ok 2 w:=by
 obtain⟨i,h1,h2⟩:=Option.map_eq_some_iff.1 zv;rw[Gg h1,h2]
theorem yT (w:World):(isAgg 88).run Tryz.prog w=.ok true w:=by
 obtain⟨u,h1⟩:=Option.isSome_iff_exists.1 zw;rw[QE h1,gT]
theorem ui:Zn Tryz.prog 108 109 Km 2 (ltOf λx y:List UInt8×Rat=>Hn x.1 y.1):=λblk cap d w hH hb hd=>
 AnyQ.slices_SortFunc zP 2 yT xg Km (λ_=>rfl) (λx v hv=>by simp[Km]at hv;rcases hv with rfl|rfl<;>rfl)
  (λx y=>Hn x.1 y.1) yM 109 #[] blk 0 cap d w (enters_of Tryz.func109 (by kernel_rfl) rfl) (λ_ _ _ _ x y=>iz x y _) hH hb hd
theorem ge (l:List (List UInt8×Rat))(hl0:l≠[])(hl:l.length<4611686018427387904)(kb gg:Nat)(H:Hp)(n:Nat):
  Cd C0 108 [.osl kb gg 2 0 l.length,.clo (.func 109) [] []] (⟨kb,gg,88,2,l.map Ci⟩::H) n
   (λd H' n'=>d=.tup []/\n'=n+1/\∃l':List (List UInt8×Rat),l'.Perm l/\l'.Pairwise (λa b=>ltStr b.1 a.1=false)/\H'=⟨kb,gg,88,2,l'.map Ci⟩::H):=
 (kS (C:=C0) (f:=108) (g:=109) (enc:=Km) (k:=2) (toD:=Ci) (lt:=ltOf λx y:List UInt8×Rat=>Hn x.1 y.1) (by obtain⟨fn,a1,a2,a3,-⟩:=aZ;exact⟨fn,_,a1,a2,a3⟩) (by decide) (λ_=>rfl) (λx v hv=>by simp[Km]at hv;rcases hv with rfl|rfl<;>rfl) (λx=>rfl) ui l hl0 hl kb gg _ H n).mono λd H' n' ⟨h1,h2,l',h3,h4,h5⟩=>
  ⟨h1,h2,l',h3,h4.imp λh=>by rw[QA]at h;exact h,h5⟩
theorem kU:AI C0 108 [CM,.clo (.func 109) [] []] (.tup []):=CE DV 400 40 (by kernel_rfl)
end Go.Ide
namespace Go.Proofs
open Go.Shelf Go.RowKit Go.Lib Go.Sort
def Tryz.sortedZ_ren:Go.Shelf.Ren:=⟨fun|6=>136|8=>178|9=>179|11=>236|13=>147|12=>237|23=>193|24=>194|14=>263|15=>264|16=>265|17=>266|18=>267|19=>268|20=>269|21=>270|22=>271|25=>290|26=>242|27=>243|28=>291|29=>292|30=>148|31=>301|n=>n,fun|26=>9|28=>180|24=>177|0=>0|3=>3|37=>189|48=>54|50=>210|4=>4|40=>233|39=>232|45=>237|5=>5|9=>9|51=>272|55=>276|57=>297|58=>73|33=>117|n=>n,fun|n=>n⟩
theorem zQ:Go.Proofs.SlLaysZ.n6 Tryz.prog Tryz.sortedZ_ren:={
 mixed:=by kernel_rfl
 f6:=⟨Tryz.f136.name,by decide,Tryz.func136.trans (congrArg some (by kernel_rfl))⟩
 f8:=⟨Tryz.f178.name,by decide,Tryz.func178.trans (congrArg some (by kernel_rfl))⟩
 f11:=⟨Tryz.f236.name,by decide,Tryz.func236.trans (congrArg some (by kernel_rfl))⟩
 t0:=Tryz.underlying0
 a0:=Tryz.isAgg0
 z0:=Tryz.sizeOf0
 v0:=Tryz.zeroValue0
 t24:=Tryz.underlying177
 a24:=Tryz.isAgg177
 z24:=Tryz.sizeOf177
 v24:=Tryz.zeroValue177
 t26:=Tryz.underlying9
 a26:=Tryz.isAgg9
 z26:=Tryz.sizeOf9
 v26:=Tryz.zeroValue9
 t28:=Tryz.underlying180
 a28:=Tryz.isAgg180
 z28:=Tryz.sizeOf180
 v28:=Tryz.zeroValue180
 i26:=by kernel_rfl }
def Tryz.keysZ_ren:Go.Shelf.Ren:=⟨fun|10=>180|n=>n,fun|33=>117|23=>112|0=>0|4=>4|26=>9|3=>122|n=>n,fun|n=>n⟩
theorem zO:Go.Proofs.SlLaysZ.n10 Tryz.prog Tryz.keysZ_ren:={
 mixed:=by kernel_rfl
 f10:=⟨Tryz.f180.name,by decide,Tryz.func180.trans (congrArg some (by kernel_rfl))⟩
 t0:=Tryz.underlying0
 a0:=Tryz.isAgg0
 z0:=Tryz.sizeOf0
 v0:=Tryz.zeroValue0
 t4:=Tryz.underlying4
 a4:=Tryz.isAgg4
 z4:=Tryz.sizeOf4
 v4:=Tryz.zeroValue4
 t23:=Tryz.underlying112
 a23:=Tryz.isAgg112
 z23:=Tryz.sizeOf112
 v23:=Tryz.zeroValue112
 t26:=Tryz.underlying9
 a26:=Tryz.isAgg9
 z26:=Tryz.sizeOf9
 v26:=Tryz.zeroValue9
 t33:=Tryz.underlying117
 a33:=Tryz.isAgg117
 z33:=Tryz.sizeOf117
 v33:=Tryz.zeroValue117 }
def Tryz.sortM_ren:Go.Shelf.Ren:=⟨fun|6=>179|8=>147|9=>237|19=>193|20=>194|21=>263|22=>264|23=>265|24=>266|25=>267|26=>268|27=>269|28=>270|29=>271|36=>290|31=>242|32=>243|37=>291|38=>292|39=>148|41=>301|n=>n,fun|27=>177|29=>9|3=>3|32=>189|26=>177|0=>0|44=>54|46=>210|4=>4|36=>233|35=>232|41=>237|5=>5|9=>9|53=>272|57=>276|63=>297|64=>73|n=>n,fun|n=>n⟩
theorem gA:Go.Proofs.SlLaysM.n6 Tryz.prog Tryz.sortM_ren:={
 mixed:=by kernel_rfl
 f6:=⟨Tryz.f179.name,by decide,Tryz.func179.trans (congrArg some (by kernel_rfl))⟩
 f8:=Tryz.func147.trans (congrArg some (by kernel_rfl))
 f9:=⟨Tryz.f237.name,by decide,Tryz.func237.trans (congrArg some (by kernel_rfl))⟩
 f19:=Tryz.func193.trans (congrArg some (by kernel_rfl))
 f20:=Tryz.func194.trans (congrArg some (by kernel_rfl))
 f21:=⟨Tryz.f263.name,by decide,Tryz.func263.trans (congrArg some (by kernel_rfl))⟩
 f22:=⟨Tryz.f264.name,by decide,Tryz.func264.trans (congrArg some (by kernel_rfl))⟩
 f23:=⟨Tryz.f265.name,by decide,Tryz.func265.trans (congrArg some (by kernel_rfl))⟩
 f24:=⟨Tryz.f266.name,by decide,Tryz.func266.trans (congrArg some (by kernel_rfl))⟩
 f25:=⟨Tryz.f267.name,by decide,Tryz.func267.trans (congrArg some (by kernel_rfl))⟩
 f26:=⟨Tryz.f268.name,by decide,Tryz.func268.trans (congrArg some (by kernel_rfl))⟩
 f27:=⟨Tryz.f269.name,by decide,Tryz.func269.trans (congrArg some (by kernel_rfl))⟩
 f28:=⟨Tryz.f270.name,by decide,Tryz.func270.trans (congrArg some (by kernel_rfl))⟩
 f29:=⟨Tryz.f271.name,by decide,Tryz.func271.trans (congrArg some (by kernel_rfl))⟩
 f31:=Tryz.func242.trans (congrArg some (by kernel_rfl))
 f32:=Tryz.func243.trans (congrArg some (by kernel_rfl))
 f36:=⟨Tryz.f290.name,by decide,Tryz.func290.trans (congrArg some (by kernel_rfl))⟩
 f37:=⟨Tryz.f291.name,by decide,Tryz.func291.trans (congrArg some (by kernel_rfl))⟩
 f38:=⟨Tryz.f292.name,by decide,Tryz.func292.trans (congrArg some (by kernel_rfl))⟩
 f39:=⟨Tryz.f148.name,by decide,Tryz.func148.trans (congrArg some (by kernel_rfl))⟩
 f41:=⟨Tryz.f301.name,by decide,Tryz.func301.trans (congrArg some (by kernel_rfl))⟩
 t0:=Tryz.underlying0
 a0:=Tryz.isAgg0
 z0:=Tryz.sizeOf0
 v0:=Tryz.zeroValue0
 t3:=Tryz.underlying3
 a3:=Tryz.isAgg3
 z3:=Tryz.sizeOf3
 v3:=Tryz.zeroValue3
 t4:=Tryz.underlying4
 a4:=Tryz.isAgg4
 z4:=Tryz.sizeOf4
 v4:=Tryz.zeroValue4
 t5:=Tryz.underlying5
 a5:=Tryz.isAgg5
 z5:=Tryz.sizeOf5
 v5:=Tryz.zeroValue5
 t9:=Tryz.underlying9
 a9:=Tryz.isAgg9
 z9:=Tryz.sizeOf9
 v9:=Tryz.zeroValue9
 t26:=Tryz.underlying177
 a26:=Tryz.isAgg177
 z26:=Tryz.sizeOf177
 v26:=Tryz.zeroValue177
 t27:=Tryz.underlying177
 a27:=Tryz.isAgg177
 z27:=Tryz.sizeOf177
 v27:=Tryz.zeroValue177
 t29:=Tryz.underlying9
 a29:=Tryz.isAgg9
 z29:=Tryz.sizeOf9
 v29:=Tryz.zeroValue9
 t32:=Tryz.underlying189
 a32:=Tryz.isAgg189
 z32:=Tryz.sizeOf189
 v32:=Tryz.zeroValue189
 t35:=Tryz.underlying232
 a35:=Tryz.isAgg232
 z35:=Tryz.sizeOf232
 v35:=Tryz.zeroValue232
 t36:=Tryz.underlying233
 a36:=Tryz.isAgg233
 z36:=Tryz.sizeOf233
 v36:=Tryz.zeroValue233
 t41:=Tryz.underlying237
 a41:=Tryz.isAgg237
 z41:=Tryz.sizeOf237
 v41:=Tryz.zeroValue237
 t44:=Tryz.underlying54
 a44:=Tryz.isAgg54
 z44:=Tryz.sizeOf54
 v44:=Tryz.zeroValue54
 t46:=Tryz.underlying210
 a46:=Tryz.isAgg210
 z46:=Tryz.sizeOf210
 v46:=Tryz.zeroValue210
 t53:=Tryz.underlying272
 a53:=Tryz.isAgg272
 z53:=Tryz.sizeOf272
 v53:=Tryz.zeroValue272
 t57:=Tryz.underlying276
 a57:=Tryz.isAgg276
 z57:=Tryz.sizeOf276
 v57:=Tryz.zeroValue276
 t63:=Tryz.underlying297
 a63:=Tryz.isAgg297
 z63:=Tryz.sizeOf297
 v63:=Tryz.zeroValue297
 t64:=Tryz.underlying73
 a64:=Tryz.isAgg73
 z64:=Tryz.sizeOf73
 v64:=Tryz.zeroValue73 }
theorem zS (m:Nat):AnyZ.SortsIn Tryz.prog Tryz.sortedZ_ren Fence.wide m:=
 ⟨λblk off cap ss W hH hblk hsz=>callsIn_wide.2 (AnyM.slices_Sort_string gA blk off cap ss W hH hblk hsz),
  λp cap W=>callsIn_wide.2 (AnyM.slices_Sort_string_none gA p cap W)⟩
theorem zR {H:Type}(Bm b nn:Nat)(D0:DataW H){R:Value->Option (DataW H×List MemPlace)}(w:World)(hBm:Bm<w.heap.size)
  (hm:w.cell? ⟨Bm,0,none⟩=some (.map (some b))) (hown:w.ownsMap Tryz.prog 9 R b nn D0) (hN:Maps.size D0<=10000):
  Calls Tryz.prog 136 #[.func (.func 180) #[] #[.pointer (some ⟨Bm,0,none⟩)]] w λe w'=>∃(v:Value) (ss:List (List UInt8)),e=.returned v/\ss.Perm (strKeys D0) /\
   w'.ownsRow w.heap.size 9 1 v ss.length ((ss.mergeSort (λx y=>decide (x<=y))).map encStr)/\Below w.heap.size w w':=
 (callsIn_wide.1 (AnyZ.sorted_in zQ Fence.wide 6 trivial trivial trivial trivial rfl (by omega) (zS _) (enters_of Tryz.func179 (by kernel_rfl) rfl) 180 _ trivial (enters_of Tryz.func180 (by kernel_rfl) rfl) _ _ (Nat.le_trans hN (by decide)) (by omega) w
  (AnyZ.keys_gives zO Fence.wide _ trivial rfl (by omega) Bm b nn D0 w hBm hm hown))).mono λe w' ⟨v,ss,h1,h2,h3,_,h5⟩=>⟨v,ss,h1,h2,h3,h5⟩
end Go.Proofs
namespace Go.Ide
open Go.Proofs Go.RowKit Go.Sort
set_option maxRecDepth 20000
def Ot (ks:List (List UInt8)):List (List UInt8):=ks.mergeSort λx y=>decide (x<=y)
theorem ZL (k:List UInt8)(hb:k.length<=maxLen):keyOf Tryz.prog 9 (encStr k)=some (.string k):=by
 simp[keyOf,mapKey,hb,ByteArray.size,encStr]
theorem gf {H:Type}{R:Value->Option (DataW H×List MemPlace)}{z:DataW H}(hR:∀v,R v=some (z,[]))(es:List MapEntry)(ks:List (List UInt8))(hk:es.map (·.key)=ks.map encStr)(hb:∀k∈ks,k.length<=maxLen):
  (strKeys (DataW.map ((es.map (WideElems.rg Tryz.prog 9 R)).foldr DataW.insert []))).Perm ks:=by
 show(((es.map (WideElems.rg Tryz.prog 9 R)).foldr DataW.insert []).map λp=>strOf p.1).Perm ks;refine((WideShapes.sorted_perm _).map _).trans ?_;rw[List.map_map]
 have:es.map ((λp:Lit×DataW H=>strOf p.1) ∘ WideElems.rg Tryz.prog 9 R)=ks:=by
  induction es generalizing ks with
  |nil=>
   cases ks with
   |nil=>rfl
   |cons a l=>simp at hk
  |cons e es ih=>
   cases ks with
   |nil=>simp at hk
   |cons k ks=>
    simp only[Cq,E7]at hk;rw[Cq,ih ks hk.2 λk h=>hb k (CD _ h)]
    congr 1
    have h1:=ZL k (hb k B9);rw[<-hk.1]at h1;show strOf ((WideElems.rd Tryz.prog 9 R e).getD _).1=k;unfold WideElems.rd;rw[h1,hR];rfl
 rw[this]
theorem Fg (l:C7)(ks:List (List UInt8))(hks:l.map (·.1)=ks.map sb)(hl:l.length<=10000)(hb:∀k∈ks,k.length<=1000)(hnd:ks.Nodup)(kb g T:Nat)(H:Hp)(n:Nat):
  Cd C0 136 [.clo (.func 180) [] [.optr kb g 1 0 0]] (⟨kb,g,T,1,[mapD l]⟩::H) n
   (λd H' n'=>d=.sl false 1 ((Ot ks).map λx=>str (sb x))/\H'=⟨kb,g,T,1,[mapD l]⟩::H/\n'=n+1):=by
 refine⟨by obtain⟨fn,a1,a2,a3,-⟩:=an;exact⟨fn,_,a1,a2,a3⟩,λF ρ w vs m fr gn hsz rep=>?_⟩;obtain⟨v0,rfl⟩:∃v0,vs = #[v0]:=by
  match vs,hsz with
  |⟨[a]⟩,_=>exact⟨a,rfl⟩
 have r0:AU ρ _ w (.clo _ [] [.optr kb g 1 0 0]) v0:=rep 0 _ rfl;cases r0 with
 |clo hf1 hc1 _ h2=>
  rename_i fs cs1 _;simp at hf1 hc1;subst hf1;obtain⟨c,rfl⟩:∃c,cs1 = #[c]:=by
   match cs1,hc1 with
   |⟨[a]⟩,_=>exact⟨a,rfl⟩
  have r1:AU ρ _ w (.optr kb g 1 0 0) c:=h2 0 _ rfl;cases r1 with
  |optr hr=>
   rename_i b;have hent:∃cs,w.heap[b]?=some (.cells cs T (0,0))/\DB ρ (AN F.X ρ (⟨kb,g,T,1,[mapD l]⟩::H)) w ⟨kb,g,T,1,[mapD l]⟩ cs:=by
    rcases m.hok.ent _ B9 with⟨h,h2⟩|⟨b2,cs2,a1,a2,a3⟩
    ·exact Ae (hr.symm.trans h2) (by simp)
    ·cases hr.symm.trans a1;exact⟨cs2,a2,a3⟩
   obtain⟨cs,hcb,hok⟩:=hent;have hlt:b<w.heap.size:=m.lt B9 hr;have hr0:=hok.rep 0 (mapD l) 0 (mapD l) rfl rfl;have h9:1<=cs.size:=by simpa using hok.len
   have hcs:0<cs.size:=h9;rw[A0,Bk (by simpa using hcs)]at hr0;simp only[Gt,DX,Ia]at hr0;obtain⟨v,hv⟩:∃v,cs[0]=v:=⟨_,rfl⟩
   rw[hv]at hr0;unfold mapD at hr0;cases hr0 with
   |mp hO hrl hb3 h1 h2 hBo hk hvv=>
    rename_i r clock es;rw[Ak]at h1;have hkey:es.toList.map (·.key)=ks.map encStr:=by
     apply PO;intro i;rw[A7,A7];have hli:=congrArg (λq=>q[i]?) hks;simp only[A7]at hli;rcases BG i l.length with hi|hi
     ·have hd:=hk i (.prim (.string l[i].1)) (by rw[A7,BE hi];rfl)
      rw[BE hi]at hli;obtain⟨kk,hkk,hkk2⟩:=Option.map_eq_some_iff.1 hli.symm;have hi2:i<es.size:=by omega
      rw[A0,Bk hi2]at hd;rw[hkk,JG,Bk hi2];simp only[JI,BK,Ia]at hd⊢;generalize es[i].key=kv at hd;cases hd;have h8:sb kk=l[i].1:=hkk2;rw[<-h8]
     ·have h5:ks.length=l.length:=by have:=congrArg List.length hks;simpa using this.symm
      rw[De (by simp;omega),De (by omega)];rfl
    have hkn:(es.toList.map (·.key)).Nodup:=by
     rw[hkey];exact List.pairwise_map.2 (hnd.imp λh q=>h (encStr_inj q))
    have hbm:∀k∈ks,k.length<=maxLen:=λk h=>BQ (hb k h) (by decide)
    let R:Value->Option (DataW Unit×List MemPlace):=λ_=>some (.nil,[])
    have hown:w.ownsMap Tryz.prog 9 R r es.size (.map ((es.toList.map (WideElems.rg Tryz.prog 9 R)).foldr DataW.insert [])):=by
     refine⟨es,clock,hb3,⟨BQ (by omega:es.size<=10000) (by decide),⟨λx hx=>?_,hBo.nodup,hkn⟩,λx hx=>?_⟩,Af _,rfl⟩
     ·obtain⟨j,hj⟩:=List.mem_iff_getElem?.1 hx
      exact hBo.1 j x (by simpa using hj)
     ·have:x.key∈es.toList.map (·.key):=List.mem_map_of_mem hx
      rw[hkey]at this;obtain⟨k,hk1,hk2⟩:=List.mem_map.1 this;have h1:=ZL k (hbm k hk1);rw[hk2]at h1;exact⟨_,by unfold WideElems.rd;rw[h1];rfl⟩
    have hsk:=gf (H:=Unit) (R:=R) (z:=.nil) (λ_=>rfl) es.toList ks hkey hbm;have hcell:w.cell? ⟨b,0,none⟩=some (.map (some r)):=by
     unfold World.cell?;simp only[hcb];rw[Bk hcs,hv];rfl
    have hsize:Maps.size (DataW.map ((es.toList.map (WideElems.rg Tryz.prog 9 R)).foldr DataW.insert []))<=10000:=by
     rw[Maps.size_eq,(WideShapes.sorted_perm _).length_eq,Ak,If];omega
    refine(zR b r es.size _ w hlt hcell hown hsize).mono ?_;rintro e w' ⟨v,ss,rfl,hp,hrow,hbw⟩;have hss:ss.mergeSort (λx y=>decide (x<=y))=Ot ks:=mergeSort_of_perm (hp.trans hsk);rw[hss]at hrow;have x:BR ρ (AN F.X ρ (⟨kb,g,T,1,[mapD l]⟩::H)) w ρ (AN F.X ρ (⟨kb,g,T,1,[mapD l]⟩::H)) w':=⟨hbw.size,λ_ _ _ h=>h,λb hb' hO=>⟨hO,hbw.block b hb'⟩,λb cs T fz hh=>⟨cs,_,by
     rw[hbw.block b (Array.getElem?_eq_some_iff.1 hh).1];exact hh,rfl⟩⟩
    refine⟨v,_,_,n+1,ρ,rfl,⟨rfl,rfl,rfl⟩,m.same x hbw.os hbw.tape hbw.output hbw.block,x,λa b h=>fr a b (by omega),λe he=>DF (gn e he),?_⟩;obtain⟨K,hK⟩:∃K,Ot ks=K:=⟨_,rfl⟩
    rw[hK]at hrow⊢;obtain⟨hlen,⟨rfl,hz⟩|⟨gb,cap,cur,rfl,hbase,hgb,q1,q2,q3,q4⟩⟩:=hrow
    ·rw[hz,Ak]at hlen
     have:K=[]:=List.length_eq_zero_iff.1 (by omega)
     rw[this];exact .nil 1
    ·rw[Ak,EC]at hlen
     rw[EC]at q3 q4;have hat:∀j x,K[j]?=some x->cur[j]?=some (Value.string (sb x)):=λj x hx=>by
      have hj:j<K.length:=(List.getElem?_eq_some_iff.1 hx).1
      have:=congrArg (λq=>q[j]?) q4
      simp only[Em,A7,hx,JI]at this;rw[AG (by omega)]at this;simpa using this
     have hall:∀j,j<ss.length*1->∃x,cur[j]?=some (Value.string (sb x)):=λj hj=>by
      have:j<K.length:=by omega
      exact⟨_,hat j _ (BE this)⟩
     refine .sl (λj=>cur.getD j undef) (by rw[Ak,hlen]) q1 ?_ (Array.getElem?_eq_some_iff.1 hgb).1 ?_ ?_ ?_ ?_
     ·rintro(h|⟨e,he,h⟩)
      ·have:=m.xlt _ h;have:=m.size;omega
      ·have:=m.lt he h;omega
     ·intro i e h
      rw[A7]at h;obtain⟨x,-,rfl⟩:=Option.map_eq_some_iff.1 h;rfl
     ·intro j hj
      obtain⟨x,hx⟩:=hall j hj;unfold World.cell?;simp only[hgb,BU];rw[hx,A0,hx];rfl
     ·intro j hj
      obtain⟨x,hx⟩:=hall j hj;rw[A0,hx];rfl
     ·intro i e j d h h2
      rw[A7]at h;obtain⟨x,hx,rfl⟩:=Option.map_eq_some_iff.1 h
      have:j=0:=by
       have:=(List.getElem?_eq_some_iff.1 h2).1
       exact Nat.lt_one_iff.1 this
      subst this;cases h2;show AU _ _ _ _ (cur.getD (i*1+0) undef);rw[EC,DX,A0,hat i x hx];exact .prim _
end Go.Ide
namespace Go.Ide
open Go.Proofs Go.RowKit Go.Sort
set_option maxRecDepth 20000
set_option maxHeartbeats 4000000
def qv (q:By)(j:Nat):List UInt8×Rat:=q.getD j ([],0)
theorem VI {q:By}{j:Nat}{p:List UInt8×Rat}(h:q[j]?=some p):qv q j=p:=by unfold qv;rw[Dj,h];rfl
theorem MQ.len {B:Nat}:∀ {q:By} {m:C7},MQ B q m->q.length=m.length
 | [],[],_=>rfl
 |_::_,_::_,⟨_,h⟩=>by simp[MQ.len h]
theorem MQ.at_ {B:Nat}:∀ {q:By} {m:C7} (j:Nat) {e:ByteArray×D},MQ B q m->m[j]?=some e->∃(p:List UInt8×Rat) (y:GF),q[j]?=some p/\e=(sb p.1,y.D)/\FR p.2 y B
 | [],[],j,e,_,h=>by simp at h
 |p::q,e'::m,0,e,⟨⟨h1,y,h2,h3⟩,_⟩,h=>by
  simp at h;subst h;exact⟨p,y,rfl,by rw[<-h1,<-h2],h3⟩
 |_::q,_::m,j+1,e,⟨_,h4⟩,h=>by
  obtain⟨p,y,a,b,c⟩:=MQ.at_ j h4 (by simpa using h);exact⟨p,y,by simpa using a,b,c⟩
theorem S0:∀(n:Nat) (l:List Nat),l.Nodup->(∀i∈l,i<n)->l.length<=n
 | 0,[],_,_=>Af _
 | 0,a::l,_,h=>Ae (h a (by simp)) (HN a)
 |n+1,l,hd,h=>by
  by_cases hn:n∈l
  ·have h1:=S0 n (l.erase n) (hd.erase n) λi hi=>by
    have h2:=h i (List.mem_of_mem_erase hi);have h3:i≠n:=(hd.mem_erase_iff.1 hi).1;omega
   rw[List.length_erase_of_mem hn]at h1;omega
  ·have h1:=S0 n l hd λi hi=>by
    have h2:=h i hi;have h3:i≠n:=λe=>hn (e ▸ hi)
    omega
   omega
def FK (q:By):By:=q.mergeSort λa b=>!ltStr b.1 a.1
theorem KF (q:By):(FK q).Perm q:=List.mergeSort_perm _ _
theorem Qt (q:By):(FK q).Pairwise λa b=>ltStr b.1 a.1=false:=by
 have:=List.pairwise_mergeSort (le:=λa b:List UInt8×Rat=>!ltStr b.1 a.1) (λa b c h1 h2=>by simp only[Bi]at*;exact swo_ltStr.ntrans _ _ _ h2 h1) (λa b=>by
  cases h1:ltStr b.1 a.1 with
  |false=>rfl
  |true=>
   cases h2:ltStr a.1 b.1 with
   |false=>rfl
   |true=>have:=swo_ltStr.trans _ _ _ h1 h2;rw[swo_ltStr.irrefl]at this;cases this) q
 exact this.imp λh=>by simpa using h
theorem wT {q:By}(hn:(q.map (·.1)).Nodup){a b:List UInt8×Rat}(ha:a∈q)(hb:b∈q)(h:a.1=b.1):a=b:=by
 obtain⟨i,hi,rfl⟩:=List.mem_iff_getElem.1 ha;obtain⟨j,hj,rfl⟩:=List.mem_iff_getElem.1 hb
 have:i=j:=(List.getElem_inj (h₀:=by simpa using hi) (h₁:=by simpa using hj) hn).1 (by simpa using h)
 subst this;rfl
theorem Wy {a b:List UInt8}(h1:ltStr a b=false)(h2:ltStr b a=false):a=b:=by
 simp only[ltStr,Ib,List.not_lt]at h1 h2;exact List.le_antisymm h2 h1
theorem Sh {q l l':By}(hn:(q.map (·.1)).Nodup)(hp:l.Perm q)(hp':l'.Perm q)(hs:l.Pairwise λa b=>ltStr b.1 a.1=false)(hs':l'.Pairwise λa b=>ltStr b.1 a.1=false):l=l':=
 List.Perm.eq_of_pairwise (le:=λa b:List UInt8×Rat=>ltStr b.1 a.1=false) (λ_ _ ha hb h1 h2=>wT hn (hp.mem_iff.1 ha) (hp'.mem_iff.1 hb) (Wy h2 h1)) hs hs' (hp.trans hp'.symm)
theorem vH (q:By)(dn:List Nat)(hd:dn.Nodup)(h1:∀i∈dn,i<q.length)(h2:∀i,i<q.length->i∈dn):(dn.map (qv q)).Perm q:=by
 have hp:dn.Perm (List.range q.length):=(List.perm_ext_iff_of_nodup hd List.nodup_range).2 λa=>by
  rw[List.mem_range];exact⟨h1 a,h2 a⟩
 have he:(List.range q.length).map (qv q)=q:=by
  apply List.ext_getElem (by simp);intro i h3 h4;rw[List.getElem_map,List.getElem_range];exact VI (BE h4)
 have:=hp.map (qv q)
 rwa [he]at this
def Je (q:By):By:=if q.any (λp=>Do p.2)then[]else FK q
def IL (q:By):Nat:=if q.any (λp=>Do p.2)then 4 else 0
def Jd (q:By):D:=.tup [.sl false 2 ((Je q).map Ci),i64 (IL q:Nat)]
instance d5L (q:By):AA (Jd q):=by unfold Jd;exact AJ
theorem YA (B:Nat)(hB9:B<100000)(q:By)(m:C7)(hm:MQ B q m)(hl:q.length<=10000)(hnd:(q.map (·.1)).Nodup):AI C0 69 [mapD m] (Jd q):=by
 refine Ag.walk w1 dq rfl λF0=>?_
 obtain⟨ks,hks⟩:∃ks:List D,m.map (λp=>(.prim (.string p.1):D))=ks:=⟨_,rfl⟩
 obtain⟨vs,hvs⟩:∃vs:List D,m.map (·.2)=vs:=⟨_,rfl⟩
 have hml:=hm.len;have hkl:ks.length=m.length:=by rw[<-hks,Ak]
 unfold mapD;rw[hks,hvs];refine sZ 0 ?_;refine AD kB ?_;refine sZ 100 ?_;refine AD kB ?_;refine AC.seq ?_;refine AC.seq ?_;refine Hv (by kernel_rfl) ?_;change Bd _ _ _ _ _ ([0]++(1::[])) _ _;refine FL w1 200 [0] _ ?_;refine AD kB ?_;refine yp 201 (N4 (w1.xt 112 _ rfl)).1 rfl rfl rfl rfl (Vf F0) (λF1 o1 hto hO hI=>Bd.nil ?_);refine Au ?_;refine AC.block ?_;refine GT (α:=List Nat×Obj×Nat×Nat) (λp=>⟨[(8,.optr 201 4 0 0 0),(4,Dw 706 p.2.2.1 2 (p.1.map λj=>Ci (qv q j)))],Dm 706 p.2.2.1 88 2 (p.1.map λj=>Ci (qv q j)),p.2.2.2⟩) (λp=>q.length-p.1.length)
  (λp F=>C5 C0 F0 F [⟨201,4,p.2.1⟩]/\M8 F p.2.1 ks vs p.1/\∀j∈p.1,Do (qv q j).2=false) ([],o1,0,_) ⟨hO,hI,by simp⟩ AK ?_
 clear hO hI hto;rintro⟨dn,o,g7,n1⟩ F ⟨hO,hI,hB⟩;dsimp only at hO hI hB⊢;refine AC.seq ?_;refine Hv (by kernel_rfl) ?_;change Bd _ _ _ _ _ [0,1] _ _;refine yo rfl rfl rfl rfl hO hI (λhall=>?_) (λj kd vd F2 o2 hjn hkd hvd hto hO2 hI2=>?_)
 ·change Bd _ _ _ _ _ ([1]++[]) _ _
  refine FL w1 300 [1] [] ?_;refine AD kB ?_;refine Bd.nil ?_;refine Au ?_;refine AC.seq ?_;refine AM ?_;refine B6 ?_;have hq2:∀j,j<q.length->j∈dn:=λj hj=>hall j (by rw[hkl,<-hml];exact hj)
  have hdn:dn.Nodup/\∀i∈dn,i<q.length:=by
   obtain⟨bm,es,clock,since,c0,seen,-,-,-,z4,-,-,-,-,-,-,-,-,z8,z9⟩:=hI;exact⟨z8,λi hi=>by have:=z9 i hi;omega⟩
  have hpm:=vH q dn hdn.1 hdn.2 hq2;have hpl:(dn.map (qv q)).length=q.length:=hpm.length_eq;have hbf:q.any (λp=>Do p.2)=false:=by
   rw[List.any_eq_false];intro p hp;obtain⟨i,hpi⟩:=List.mem_iff_getElem?.1 hp;have hi:=(List.getElem?_eq_some_iff.1 hpi).1
   have:=hB i (hq2 i hi)
   rw[VI hpi]at this;rw[this];exact Bool.false_ne_true
  have hmm:(dn.map λj=>Ci (qv q j))=(dn.map (qv q)).map Ci:=by rw[List.map_map];rfl
  rw[hmm];generalize hLL:dn.map (qv q)=LL at hpm hpl⊢;have hrs:Jd q=.tup [.sl false 2 ((FK q).map Ci),i64 0]:=by unfold Jd Je IL;rw[hbf];rfl
  clear hmm hI hO hB hall hq2 hdn;rcases LL with _|⟨z,LL⟩
  ·have hqn:q=[]:=List.length_eq_zero_iff.1 (by rw[<-hpl];rfl)
   subst hqn;rw[show Dw 706 g7 2 (List.map Ci [])=CM from rfl,show Dm 706 g7 88 2 (List.map Ci [])=[]from rfl];have cS:=kU;refine AH AZ kB cS AB AB AB AB AB ?_;exact⟨_,Hb (.nil 2) (.refl _),AA.out,by rw[hrs,show FK []=[]from List.mergeSort_nil];rfl⟩
  ·have cS:=λkb gg H n=>ge (z::LL) (by simp) (by rw[hpl];omega) kb gg H n
   rw[Bo]at cS;rw[show Dw 706 g7 2 (List.map Ci (z::LL))=.osl 706 g7 2 0 ((LL.map Ci).length+1)from rfl,show Dm 706 g7 88 2 (List.map Ci (z::LL))=[⟨706,g7,88,2,(z::LL).map Ci⟩]from rfl,Ak];refine AH AZ kB cS AB AB AB AB AB ?_;refine BD.own _ (cS 706 g7 [] _) ?_;rintro d H' n' ⟨rfl,rfl,l',hp',hs',rfl⟩;have hpq:l'.Perm q:=hp'.trans hpm;have hl':=Sh hnd hpq (KF q) hs' (Qt q);have hl0:l'≠[]:=λq=>by rw[q]at hp';have:=hp'.length_eq;simp at this
   have hll:LL.length+1=l'.length:=by rw[hp'.length_eq];rfl
   rw[hll];rw[<-hl']at hrs;clear hl' cS hp' hs' hpm hll;refine AH AZ kB AB AB AB AB AB AB ?_;rw[hrs];refine⟨_,Hb (?_:Fz _ [] _ (.sl false 2 (l'.map Ci))) (.refl _),AA.out,rfl⟩;rcases l' with _|⟨z',t'⟩
   ·exact Ae rfl hl0
   ·have:=RK 706 g7 88 2 ((z'::t').map Ci)
    rw[show Dw 706 g7 2 ((z'::t').map Ci)=.osl 706 g7 2 0 ((t'.map Ci).length+1)from rfl,show Dm 706 g7 88 2 ((z'::t').map Ci)=[⟨706,g7,88,2,(z'::t').map Ci⟩]from rfl,Ak]at this;exact this
 change Bd _ _ _ _ _ ([1]++[]) _ _;refine FL w1 300 [1] [] ?_;refine AD kB ?_;refine Bd.nil ?_;refine Au ?_;refine AC.seq ?_;refine AM ?_;refine An ?_;obtain⟨p,hp⟩:∃p,m[j]?=some p:=by
  rw[<-hks,A7]at hkd;obtain⟨p,hp,-⟩:=Option.map_eq_some_iff.1 hkd;exact⟨p,hp⟩
 obtain⟨pq,y,hq,rfl,hy⟩:=hm.at_ j hp;have hkd2:kd=str (sb pq.1):=by
  rw[<-hks,A7,hp]at hkd;exact(F3 hkd).symm
 have hvd2:vd=y.D:=by
  rw[<-hvs,A7,hp]at hvd;exact(F3 hvd).symm
 subst hkd2 hvd2;have hqv:=VI hq;refine AC.block ?_;refine AC.seq ?_;refine Hv (by kernel_rfl) ?_;change Bd _ _ _ _ _ (0::([1,2,3,4,5]++[])) _ _;refine ym (xo:=⟨201,4,o2⟩) rfl rfl rfl rfl hO2 B9 hI2 hkd hvd ?_;refine FL w1 400 [1,2,3,4,5] [] ?_;refine AD kB ?_;refine Bd.nil ?_;have cL:=ZM hy (by omega);have cT:=cR hy (by omega);obtain⟨bg,hbg⟩:∃b,Do pq.2=b:=⟨_,rfl⟩
 rw[hbg]at cL;refine Au ?_;have hdl:dn.length+1<=q.length:=by
  have h1:∀i∈dn++[j],i<q.length:=by
   obtain⟨bm,es,clock,since,c0,seen,-,-,-,z4,-,-,-,-,-,-,-,-,-,z9⟩:=hI2;intro i hi
   have:=z9 i hi
   omega
  have h2:(dn++[j]).Nodup:=by
   obtain⟨bm,es,clock,since,c0,seen,-,-,-,-,-,-,-,-,-,-,-,-,z8,-⟩:=hI2;exact z8
  have:=S0 _ _ h2 h1
  simpa using this
 have hsn:(dn++[j]).map (λj=>Ci (qv q j))=dn.map (λj=>Ci (qv q j))++[.agg [str (sb pq.1),str (sb (BM pq.2))]]:=by rw[DA,Cq,List.map_nil,hqv];rfl
 have hTl:(dn.map λj=>Ci (qv q j)).length=dn.length:=Ak ..;obtain⟨TL,hTL⟩:∃TL,dn.map (λj=>Ci (qv q j))=TL:=⟨_,rfl⟩
 rw[hTL]at hsn hTl⊢;cases bg
 rotate_left
 ·have hrb:(D.tup [.sl false 2 [],i64 4])=Jd q:=by
   have:q.any (λp=>Do p.2)=true:=by
    rw[List.any_eq_true];exact⟨pq,Av hq,hbg⟩
   unfold Jd Je IL;rw[this];rfl
  rcases TL with _|⟨z,TL⟩
  ·dsimp only[In,Io]
   refine AH AZ kB cL AB AB AB AB AB ?_;exact⟨_,Hb (.nil 2) (.refl _),AA.out,hrb⟩
  ·dsimp only[HX,HY]
   refine AH AZ kB cL AB AB AB AB AB ?_;exact⟨_,Hb (.nil 2) (.refl _),AA.out,hrb⟩
 have hB2:∀i∈dn++[j],Do (qv q i).2=false:=λi hi=>by
  rcases List.mem_append.1 hi with hi|hi
  ·exact hB i hi
  ·rw[List.mem_singleton]at hi;rw[hi,hqv];exact hbg
 rcases TL with _|⟨z,TL⟩
 ·dsimp only[In,Io]
  refine AH AZ kB cL cT AB AB AB AB ?_;exact⟨(dn++[j],o2,_,_),⟨hO2,hI2,hB2⟩,by dsimp only;rw[Bh,Fu];omega,by(dsimp only;rw[hsn];exact AK)⟩
 ·dsimp only[HX,HY]
  have htk:List.take (TL.length+1) (z::TL)=z::TL:=by simp
  rw[Bo]at hTl;refine AH AZ htk cL cT AB AB AB AB ?_;exact⟨(dn++[j],o2,_,_),⟨hO2,hI2,hB2⟩,by dsimp only;rw[Bh,Fu];omega,by(dsimp only;rw[hsn,N5];exact AK)⟩
abbrev Cn (q:By):List (List UInt8):=q.map (·.1)
theorem XH (lot:List UInt8)(r:Rat):∀q:By,Cn (GQ lot r q)=if lot∈Cn q then Cn q else Cn q++[lot]
 | []=>by simp[GQ,Cn]
 |p::l=>by
  unfold GQ
  by_cases h:lot=p.1
  ·rw[AG h]
   subst h;simp[Cn]
  ·rw[AF h]
   show p.1::Cn (GQ lot r l)=if lot∈p.1::Cn l then p.1::Cn l else p.1::Cn l++[lot]
   rw[XH lot r l]
   by_cases h2:lot∈Cn l
   ·rw[AG h2,AG (CD _ h2)]
   ·rw[AF h2,AF (by
     intro q;rcases A8.1 q with q|q
     ·exact h q
     ·exact h2 q)];rfl
structure G6 (P:List UInt8->Prop)(n:Nat)(q:By):Prop where
 nd:(Cn q).Nodup
 all:∀k∈Cn q,P k
 len:q.length<=n
theorem G6.set {P:List UInt8->Prop}{n:Nat}{q:By}(h:G6 P n q){lot:List UInt8}(hl:P lot)(r:Rat):G6 P (n+1) (GQ lot r q):=by
 have hk:=XH lot r q;have hlen:(GQ lot r q).length=(Cn (GQ lot r q)).length:=by simp[Cn]
 have hlen2:q.length=(Cn q).length:=by simp[Cn]
 by_cases hm:lot∈Cn q
 ·rw[AG hm]at hk
  exact⟨by rw[hk];exact h.nd,by rw[hk];exact h.all,by rw[hlen,hk,<-hlen2];have:=h.len;omega⟩
 ·rw[AF hm]at hk
  refine⟨?_,?_,?_⟩
  ·rw[hk,En]
   exact⟨h.nd,by simp,λa ha b hb=>by
    rw[List.mem_singleton]at hb;subst hb;exact λe=>hm (e ▸ ha)⟩
  ·rw[hk]
   intro k hk;rcases List.mem_append.1 hk with q|q
   ·exact h.all k q
   ·rw[List.mem_singleton]at q;rw[q];exact hl
  ·rw[hlen,hk,Bh,<-hlen2]
   have:=h.len
   simp;omega
theorem G6.mono {P:List UInt8->Prop}{n n':Nat}{q:By}(h:G6 P n q)(hn:n<=n'):G6 P n' q:=⟨h.nd,h.all,BQ h.len hn⟩
theorem Ww {P:List UInt8->Prop}{n:Nat}{q:By}(x:AE)(h:G6 P n q)(hp:∀s∈x.shs,P s.lot):∀j,j<=x.shs.length->G6 P (n+j) (GH x j q)
 | 0,_=>h
 |j+1,hj=>by
  obtain⟨s,hs⟩:∃s,x.shs[j]?=some s:=⟨_,BE hj⟩
  rw[Nq x j q hs];exact(Ww x h hp j (by omega)).set (hp s (Av hs)) _
theorem WD {P:List UInt8->Prop}(l:List AE)(hp:∀x∈l,x.shs.length<=64/\∀s∈x.shs,P s.lot):∀i,i<=l.length->G6 P (64*i) (CH (l.take i))
 | 0,_=>⟨by simp[CH,Cn],by simp[CH,Cn],by simp[CH]⟩
 |i+1,hi=>by
  obtain⟨x,hx⟩:∃x,l[i]?=some x:=⟨_,BE hi⟩
  rw[Px l i hx];have h1:=hp x (Av hx);exact(Ww x (WD l hp i (by omega)) h1.2 _ (Af _)).mono (by omega)
theorem Sq {P:List UInt8->Prop}{l:List AE}(hp:∀x∈l,x.shs.length<=64/\∀s∈x.shs,P s.lot):G6 P (64*l.length) (CH l):=by
 have:=WD l hp l.length (Af _)
 rwa [DO]at this
theorem MQ.keys {B:Nat}:∀ {q:By} {m:C7},MQ B q m->m.map (·.1)=(Cn q).map sb
 | [],[],_=>rfl
 |p::q,e::m,⟨⟨h1,_⟩,h4⟩=>by
  simp only[Cq,Cn];rw[h1]
  congr 1
  exact MQ.keys h4
theorem Wv (s:ByteArray):∀m:C7,Hj s (m.map λp=>.prim (.string p.1)) (m.map (·.2))=some (Hz s m)
 | []=>rfl
 |p::l=>by
  simp only[Cq,Hj,Hz];cases BJ s p.1 with
  |true=>rfl
  |false=>exact Wv s l
theorem Sz:∀ {q:By} {p:List UInt8×Rat},(Cn q).Nodup->p∈q->Fl p.1 q=some p.2
 |a::q,p,hn,hp=>by
  unfold Fl;have hn:(a.1::Cn q).Nodup:=hn;rw[List.nodup_cons]at hn;rcases A8.1 hp with rfl|hp
  ·rw[AG rfl]
  ·rw[AF λe=>hn.1 (by rw[<-e];exact List.mem_map_of_mem hp)]
   exact Sz hn.2 hp
theorem ib (q:By):Ot (Cn q)=(FK q).map (·.1):=by
 unfold Ot;refine List.Perm.eq_of_pairwise (le:=λx y:List UInt8=>x<=y) (λ_ _ _ _ h1 h2=>List.le_antisymm h1 h2) ?_ ?_ ?_
 ·have:=List.pairwise_mergeSort (le:=λx y:List UInt8=>decide (x<=y)) (λa b c h1 h2=>by simp only[GX]at*;exact List.le_trans h1 h2) (λa b=>by
   rcases List.le_total a b with h|h<;>simp[h]) (Cn q)
  exact this.imp λh=>by simpa using h
 ·rw[List.pairwise_map]
  exact(Qt q).imp λh=>by simpa[ltStr]using h
 ·exact(List.mergeSort_perm _ _).trans ((KF q).map _).symm
abbrev KM:Dr:=[(12,[0,1,2,3,4,5],[6])]
open Go.Proofs Go.RowKit
set_option maxRecDepth 20000
set_option maxHeartbeats 4000000
def CJ (l:List AE):Bool:=l.all λx=>BJ (sb x.grain) (sb (CG l 0).grain)
def HE (l:List AE):Nat:=if l.length=0 then 2 else if 64<l.length then 5 else if Dh (λi=>CW (CG l i)) l.length≠0 then Dh (λi=>CW (CG l i)) l.length else if CJ l=false then 16 else if Al l>999999999 then 4 else 0
def R4 (l:List AE):Int:=if HE l=0 then Al l else 0
theorem jc (b:Bool)(v:List AE)(hl:v.length<=1000000)(hf:∀x∈v,x.few):AI C0 177 [.clo (.func 107) [] [],Am b v] (i64 (Dh (λi=>CW (CG v i)) v.length:Nat)):=by
 refine Ag.walk w1 aG rfl λF=>?_
 have el:(((v.map AE.D).length:Nat):Int)=(v.length:Int):=by rw[Ak]
 refine AH AZ el AB AB AB AB AB AB ?_;refine AC.loop (α:=Nat×Nat) (λp=>⟨[(0,.clo (.func 107) [] []),(8,Am b v),(9,i64 (v.length:Int)),(10,i64 (p.1:Int))],[],p.2⟩) (λp=>v.length-p.1)
  (λp=>p.1<=v.length/\∀j,j<p.1->CW (CG v j)=0) (0,_) ⟨BS _,λj h=>Ae h (HN j)⟩ AK ?_
 rintro⟨i,m⟩ F ⟨hi,hz⟩;dsimp only at hi hz⊢;rcases BG i v.length with h2|h2
 ·have e1:=Ca h2
  have wi:=Cc (i:=i) (by omega);obtain⟨x,hx⟩:=CP h2;have hm:(v.map AE.D)[i]?=some (.agg [str (sb x.grain),i64 x.mass,.sl false 2 (x.shs.map Ay.D)]):=by rw[A7,hx];rfl
  have cL:=fK x (hf x (Av hx));unfold AE.D at cL;rcases Nat.decEq (CW x) 0 with hc0|hc0
  ·have e3:=GO hc0
   have hE:=OS (f:=λi=>CW (CG v i)) hz h2 (by rw[FS hx];exact hc0);rw[FS hx]at hE;rw[hE];refine AH AZ (As e1 e3 kN) hm cL AB AB AB AB ?_;exact AL rfl AA.out
  ·have e3:=GP hc0
   refine AH AZ (BW e1 e3 wi kN) hm cL AB AB AB AB ?_;exact⟨(i+1,_),⟨h2,λj hj=>by
    rcases Nat.lt_succ_iff_lt_or_eq.1 hj with q|q
    ·exact hz j q
    ·rw[q,FS hx];exact hc0⟩,by dsimp only;omega,AK⟩
 ·have e1:=CZ h2
  have:i=v.length:=by omega
  subst this;rw[LC (f:=λi=>CW (CG v i)) hz];refine AH AZ e1 AB AB AB AB AB AB ?_;exact AL rfl AA.out
theorem pN (b:Bool)(l:List AE)(hl:l.length<=1000000)(hf:∀x∈l,x.few):AI C0 135 [Am b l] (.tup [i64 (R4 l),i64 (HE l:Nat)]):=by
 refine Ag.walk w1 am rfl λF=>?_
 have el:(((l.map AE.D).length:Nat):Int)=(l.length:Int):=by rw[Ak]
 have hC:HE l=if l.length=0 then 2 else if 64<l.length then 5 else if Dh (λi=>CW (CG l i)) l.length≠0 then Dh (λi=>CW (CG l i)) l.length else if CJ l=false then 16 else if Al l>999999999 then 4 else 0:=rfl
 have hM:R4 l=if HE l=0 then Al l else 0:=rfl
 have cA:=jc b l hl hf
 by_cases h0:l.length=0
 ·rw[AG h0]at hC
  rw[hC]at hM;rw[hM,hC];have q1:((l.length:Int)==0)=true:=by rw[h0];rfl
  refine AH KM (Aj el q1) AB AB AB AB AB AB ?_;exact AL rfl AA.out
 rw[AF h0]at hC;have q1:((l.length:Int)==0)=false:=by
  rw[Bs];omega
 by_cases h64:64<l.length
 ·rw[AG h64]at hC
  rw[hC]at hM;rw[hM,hC];have q2:decide ((l.length:Int)>64)=true:=AX (by omega);refine AH KM (As el q1 q2) AB AB AB AB AB AB ?_;exact AL rfl AA.out
 rw[AF h64]at hC;have q2:decide ((l.length:Int)>64)=false:=Ac (by omega);obtain⟨K,hK⟩:∃K,Dh (λi=>CW (CG l i)) l.length=K:=⟨_,rfl⟩
 rw[hK]at hC cA;rcases Nat.decEq K 0 with hc0|hc0
 ·have e3:=GO hc0
  rw[AG hc0]at hC;rw[hC]at hM;rw[AF hc0]at hM;rw[hM,hC];refine AH KM (BW el q1 q2 e3) cA AB AB AB AB AB ?_;exact AL rfl AA.out
 have e3:=GP hc0;rw[AF (λh=>h hc0)]at hC;have hz:∀j,j<l.length->CW (CG l j)=0:=QQ (hK.trans hc0);have hsm:=S1 h64 hz;obtain⟨x0,hx0⟩:∃x,l[0]?=some x:=⟨_,BE (by omega)⟩
 have hm0:(l.map AE.D)[0]?=some (.agg [str (sb x0.grain),i64 x0.mass,.sl false 2 (x0.shs.map Ay.D)]):=by rw[A7,hx0];rfl
 have hv0:=FS hx0;refine AH KM (BW el q1 q2 e3) cA AB AB AB AB AB ?_;refine AC.loop (α:=Nat×Nat) (λp=>⟨[(0,Am b l),(5,i64 (Al (l.take p.1))),(19,Am b l),(20,i64 (l.length:Int)),(21,i64 (p.1:Int))],[],p.2⟩) (λp=>l.length-p.1)
  (λp=>p.1<=l.length/\∀x∈l.take p.1,BJ (sb x.grain) (sb x0.grain)=true) (0,_) ⟨BS _,λx h=>by simp at h⟩ AK ?_
 rintro⟨i,m⟩ F ⟨hi,hs⟩;dsimp only at hi hs⊢;rcases BG i l.length with h2|h2
 rotate_left
 ·have e1:=CZ h2
  have:i=l.length:=by omega
  subst this;rw[DO]at hs⊢;have hg:CJ l=true:=by
   unfold CJ;rw[CN,hv0];exact hs
  rw[AF (by rw[hg];decide)]at hC
  by_cases h9:Al l>999999999
  ·have e9:decide (Al l>999999999)=true:=AX h9
   rw[AG h9]at hC;rw[hC]at hM;rw[hM,hC];refine AH KM (Aj e1 e9) AB AB AB AB AB AB ?_;exact AL rfl AA.out
  ·have e9:decide (Al l>999999999)=false:=Ac h9
   rw[AF h9]at hC;rw[hC]at hM;rw[hM,hC];refine AH KM (Aj e1 e9) AB AB AB AB AB AB ?_;exact AL rfl AA.out
 have e1:=Ca h2;have wi:=Cc (i:=i) (by omega);obtain⟨x,hx⟩:=CP h2;have hm:(l.map AE.D)[i]?=some (.agg [str (sb x.grain),i64 x.mass,.sl false 2 (x.shs.map Ay.D)]):=by rw[A7,hx];rfl
 have hsum:=TK hx;have hs1:=UA (l:=l.take i) λy hy=>hsm.2 y (El hy)
 have hs2:=hsm.2 x (Av hx);rw[Ba]at hs1;have ws:IntKind.i64.wrap (Al (l.take i)+x.mass)=Al (l.take i)+x.mass:=wI (by omega) (by omega);obtain⟨bG,hbG⟩:∃q,BJ (sb x.grain) (sb x0.grain)=q:=⟨_,rfl⟩
 cases bG
 ·have hg:CJ l=false:=by
   unfold CJ;rw[List.all_eq_false];exact⟨x,Av hx,by rw[hv0,hbG];decide⟩
  rw[AG hg]at hC;rw[hC]at hM;rw[hM,hC];refine AH KM (As e1 hbG kN) hm hm0 AB AB AB AB ?_;exact AL rfl AA.out
 ·refine AH KM (CF e1 hbG wi ws kN) hm hm0 AB AB AB AB ?_
  exact⟨(i+1,_),⟨h2,λy hy=>by
   rw[Di,hx]at hy;rcases List.mem_append.1 hy with q|q
   ·exact hs y q
   ·have:y=x:=by simpa using q
    rw[this];exact hbG⟩,by dsimp only;omega,by(dsimp only;rw[hsum];exact AK)⟩
abbrev Ed:Dr:=[(11,[0,1,2,3,4,5,6,7],[8]),(24,[0,1,2,3,4,5,6,7,8,9,10],[11])]
open Go.Proofs Go.RowKit Go.Sort
set_option maxRecDepth 20000
set_option maxHeartbeats 4000000
def Gm (l:List AE):Nat:=if HE l≠0 then HE l else if 64<(CH l).length then 5 else if(FK (CH l)).any (λp=>Do (p.2/(Al l:Rat)))then 4 else 0
def Ej (l:List AE):List Ay:=(FK (CH l)).map λp=>⟨p.1,BM (p.2/(Al l:Rat))⟩
def Kr (l:List AE):AE:=if Gm l≠0 then⟨[],0,[]⟩else⟨(CG l 0).grain,Al l,Ej l⟩
def AE.lite (x:AE):Prop:=x.few/\∀s∈x.shs,s.lot.length<=1000/\s.part.length<=40
theorem W6 {l:List Ay}(h:Hh l=0):0<l.length/\l.length<=64/\∀s∈l,Db s.lot=true/\CV s.part=0/\0<Gq (CO s.part):=by
 unfold Hh at h;split at h
 ·cases h
 ·split at h
  ·cases h
  ·split at h
   ·rename_i h3;exact Ae h h3
   ·rename_i h1 h2 h3
    refine⟨by omega,by omega,λs hs=>?_⟩;obtain⟨j,hj⟩:=List.mem_iff_getElem?.1 hs;have hE:=QQ (f:=FN l) (n:=l.length) (by omega) j (List.getElem?_eq_some_iff.1 hj).1;unfold FN at hE;rw[Jb hj]at hE;split at hE
    ·cases hE
    ·split at hE
     ·cases hE
     ·split at hE
      ·rename_i h6;exact Ae hE h6
      ·split at hE
       ·cases hE
       ·rename_i h4 h5 h6 h7
        exact⟨by simpa using h4,by omega,by omega⟩
theorem az {x:AE}(hl:x.lite)(h:CW x=0):x.ok/\∀s∈x.shs,Db s.lot=true:=by
 obtain⟨h1,h2,h3,h4⟩:=OE h;obtain⟨g1,g2,g3⟩:=W6 h4;exact⟨⟨g2,by unfold Sm;omega,λs hs=>⟨BQ (hl.2 s hs).1 (by omega),(hl.2 s hs).2,(g3 s hs).2.1⟩⟩,λs hs=>(g3 s hs).1⟩
theorem Y9 {l:List AE}(h:HE l=0):0<l.length/\l.length<=64/\(∀x∈l,CW x=0)/\CJ l=true/\Al l<=999999999:=by
 unfold HE at h;split at h
 ·cases h
 ·split at h
  ·cases h
  ·split at h
   ·rename_i h3;exact Ae h h3
   ·split at h
    ·cases h
    ·split at h
     ·cases h
     ·rename_i h1 h2 h3 h4 h5
      refine⟨by omega,by omega,λx hx=>?_,by simpa using h4,by omega⟩;obtain⟨j,hj⟩:=List.mem_iff_getElem?.1 hx
      have:=QQ (f:=λi=>CW (CG l i)) (n:=l.length) (by omega) j (List.getElem?_eq_some_iff.1 hj).1
      rwa [FS hj]at this
theorem YY:∀ {l:List AE},(∀x∈l,CW x=0)->(l.length:Int)<=Al l
 | [],_=>by simp[Al]
 |x::l,h=>by
  have h1:=(OE (h x B9)).2.1;have h2:=YY (l:=l) λy hy=>h y (CD _ hy)
  unfold Al at h2⊢;simp only[Cq,List.sum_cons,Bo];omega
theorem OJ (H:Hp)(e:Int):Fz H [] (.tup [.agg [str ⟨#[]⟩,i64 0,CM],i64 e]) (.tup [(⟨[],0,[]⟩:AE).D,i64 e]):=
 Hb (.agg rfl λi d d' h h'=>by
  match i with
  | 0=>cases h;cases h';exact .refl _
  | 1=>cases h;cases h';exact .refl _
  | 2=>cases h;cases h';exact .nil 2
  |n+3=>cases h) (.refl _)
theorem ax {H:Hp}{gr m sD e:D}{L:List D}(h:Fz H [] sD (.sl false 2 L)):Fz H [] (.tup [.agg [gr,m,sD],e]) (.tup [.agg [gr,m,.sl false 2 L],e]):=
 Hb (.agg rfl λi d d' h1 h2=>by
  match i with
  | 0=>cases h1;cases h2;exact .refl _
  | 1=>cases h1;cases h2;exact .refl _
  | 2=>cases h1;cases h2;exact h
  |n+3=>cases h1) (.refl _)
theorem o4 {H:Hp}{k g T sz:Nat}{z:D}{l:List D}(he:Hp.get H k=some ⟨k,g,T,sz,z::l⟩):Fz H [] (.osl k g sz 0 (l.length+1)) (.sl false sz (z::l)):=by
 refine .osl (e:=⟨k,g,T,sz,z::l⟩) he rfl rfl rfl (by simp) (by simp) (λj d d' h1 h2=>?_) λj d d' q c c' h1 h2 h3 h4=>?_
 ·rw[BU]at h1;rw[h1]at h2;cases h2;rfl
 ·rw[BU]at h1;rw[h1]at h2;cases h2;rw[h3]at h4;cases h4;exact Fz.refl _
theorem l6 (l:C7)(H:Hp)(n:Nat):Cd C0 137 [mapD l] H n (λd H' n'=>∃g,d=.clo (.func 180) [] [.optr 77000 g 1 0 0]/\H'=⟨77000,g,112,1,[mapD l]⟩::H/\n'=n+4):=by
 refine Cd.walk w1 ap rfl λF0=>?_
 obtain⟨M,hM⟩:∃M,mapD l=M:=⟨_,rfl⟩
 have hc:∃ks vs,M=.mp ks vs:=⟨_,_,hM.symm⟩
 obtain⟨ks,vs,hc⟩:=hc;subst hc;rw[hM];refine AC.seq ?_;refine Ao w1 77000 (by kernel_rfl) ?_;refine AD kB ?_;refine Au ?_;refine AH AZ kB AB AB AB AB AB AB ?_;exact⟨_,rfl,rfl,trivial⟩
theorem uV {r:Rat}{x:GF}{k:Nat}(h:FR r x k)(hk:k<100000):AI C0 138 [x.D] (.tup [str (sb (VC r)),i64 (VB r:Nat)]):=by
 refine Ag.walk w1 aq rfl λF=>?_
 have c1:=ZM h hk;have c2:=cR h hk;unfold VC VB;obtain⟨b,hb⟩:∃b,Do r=b:=⟨_,rfl⟩
 rw[hb]at c1⊢;cases b
 all_goals
  refine AH AZ kB c1 c2 AB AB AB AB ?_;exact AL rfl AA.out
theorem xw (b:Bool)(l:List AE)(hl:l.length<=1000000)(hf:∀x∈l,x.lite):AI C0 90 [Am b l] (.tup [(Kr l).D,i64 (Gm l:Nat)]):=by
 refine Ag.walk w1 eE rfl λF0=>?_
 have el:(((l.map AE.D).length:Nat):Int)=(l.length:Int):=by rw[Ak]
 have cM:=pN b l hl λx hx=>(hf x hx).1
 have hN:Gm l=if HE l≠0 then HE l else if 64<(CH l).length then 5 else if(FK (CH l)).any (λp=>Do (p.2/(Al l:Rat)))then 4 else 0:=rfl
 have hL:Kr l=if Gm l≠0 then⟨[],0,[]⟩else⟨(CG l 0).grain,Al l,Ej l⟩:=rfl
 rcases Nat.decEq (HE l) 0 with g|g
 ·have e1:=GO g
  rw[AG g]at hN;rw[hN,AG g]at hL;rw[hL,hN];refine AH Ed e1 cM AB AB AB AB AB ?_;exact⟨_,OJ _ _,AA.out,rfl⟩
 have e1:=GP g;rw[AF (λh=>h g)]at hN;have hmm:R4 l=Al l:=by unfold R4;rw[AG g]
 obtain⟨g1,g2,g3,g4,g5⟩:=Y9 g;have hx:∀x∈l,x.ok:=λx h=>(az (hf x h) (g3 x h)).1
 have g6:=YY g3;rw[hmm]at cM;refine sZ 0 ?_;refine AD kB ?_;refine sZ 100 ?_;refine AD kB ?_;refine cI cM ?_;refine AD kB ?_;refine AC.seq ?_;refine sZ 200 ?_;refine AD e1 ?_;refine AM ?_;refine An ?_;refine AC.seq ?_;refine Hv (by kernel_rfl) ?_;change Bd _ _ _ _ _ [0,1] _ _;refine Bd.makeMap 400 rfl rfl rfl (Vf F0) (λF1 it hto hO hr0 hnX hM=>?_);change Bd _ _ _ _ _ ([1]++[]) _ _;refine FL w1 400 [1] [] ?_;refine AD kB ?_;refine Bd.nil ?_;refine AH Ed el AB AB AB AB AB AB ?_;refine GT (α:=Nat×C7×Obj×Nat) (λp=>⟨[(0,Am b l),(2,.optr 0 0 3 0 0),(4,i64 (Al l)),(6,.prim (.map (some it))),(29,Am b l),(30,i64 (l.length:Int)),(31,i64 (p.1:Int))],[⟨0,0,80,3,[.agg [.prim (.string ⟨#[]⟩),.prim (.int .i64 0),.prim (.slice none 0 0)]]⟩],p.2.2.2⟩) (λp=>l.length-p.1)
  (λp F=>p.1<=l.length/\C5 C0 F0 F [⟨400,11,p.2.2.1⟩]/\F.r0 400 11=some it/\Hm F p.2.2.1 p.2.1/\MQ (320*p.1) (CH (l.take p.1)) p.2.1) (0,[],.map #[] 0,_) ⟨BS _,hO,hr0,hM,trivial⟩ AK ?_
 clear hO hr0 hM hto;rintro⟨i,m,o,n1⟩ F ⟨hi,hO,hr0,hM,hQ⟩;dsimp only at hi hO hr0 hM hQ⊢;rcases BG i l.length with h2|h2
 rotate_left
 ·have e1:=CZ h2
  have:i=l.length:=by omega
  subst this;rw[DO]at hQ;refine sZ 600 ?_;refine AD e1 ?_;refine AC.seq ?_;refine AM ?_;refine B6 ?_;refine fY [(0,Am b l),(2,.optr 0 0 3 0 0),(4,i64 (Al l)),(6,mapD m)] hO hr0 hnX hM ⟨.inl rfl,.inl rfl,.inl rfl,.inr ⟨rfl,rfl⟩,trivial⟩ (λF2 hto2 hO2=>?_);have hKO:G6 (λk=>k.length<=1000) (64*l.length) (CH l):=Sq λx h=>⟨(hx x h).1,λs hs=>((hf x h).2 s hs).1⟩
  have hQ2:MQ 32000 (CH l) m:=hQ.mono (by omega);clear hQ hO hM hto2 hO2;obtain⟨q,hq⟩:∃q,CH l=q:=⟨_,rfl⟩
  have hSS:Ej l=(FK q).map λp=>⟨p.1,BM (p.2/(Al l:Rat))⟩:=by rw[<-hq];rfl
  rw[hq]at hKO hQ2 hN;have hml:=hQ2.len;obtain⟨ks,hks⟩:∃ks:List D,m.map (λp=>(.prim (.string p.1):D))=ks:=⟨_,rfl⟩
  obtain⟨vs,hvs⟩:∃vs:List D,m.map (·.2)=vs:=⟨_,rfl⟩
  have hkl:ks.length=q.length:=by rw[<-hks,Ak,hml]
  unfold mapD;rw[hks,hvs];refine AC.seq ?_;refine AC.seq ?_;refine Hv (by kernel_rfl) ?_;change Bd _ _ _ _ _ ([0]++(1::([2]++[]))) _ _;refine FL w1 1800 [0] _ ?_;refine AD kB ?_;refine yn (N4 (w1.xt 112 _ rfl)).1 rfl rfl rfl rfl ?_;refine FL w1 1800 [2] _ ?_;refine AD kB ?_;refine Bd.nil ?_;rw[hkl]
  by_cases h64:64<q.length
  ·rw[AG h64]at hN
   rw[hN,AG (by omega)]at hL;rw[hL,hN];have q2:decide ((q.length:Int)>64)=true:=AX (by omega);refine AH Ed q2 AB AB AB AB AB AB ?_;exact⟨_,OJ _ _,AA.out,rfl⟩
  have q2:decide ((q.length:Int)>64)=false:=Ac (by omega);rw[AF h64]at hN;rw[q2];have hmd:mapD m=.mp ks vs:=by unfold mapD;rw[hks,hvs]
  have cK:=l6 m;have cS:=Fg m (Cn q) hQ2.keys (by omega) hKO.all hKO.nd;rw[hmd]at cK cS;obtain⟨x0,hx0⟩:∃x,l[0]?=some x:=⟨_,BE (by omega)⟩
  have hm0:(l.map AE.D)[0]?=some (.agg [str (sb x0.grain),i64 x0.mass,.sl false 2 (x0.shs.map Ay.D)]):=by rw[A7,hx0];rfl
  refine AH Ed kB hm0 AB AB AB AB AB ?_;refine BD.own _ (cK _ _) ?_;rintro d H' n' ⟨gk,rfl,rfl,rfl⟩;refine AH Ed kB AB AB AB AB AB AB ?_;refine BD.own _ (cS _ _ _ _ _) ?_;rintro d H' n' ⟨rfl,rfl,rfl⟩;refine AH Ed kB AB AB AB AB AB AB ?_;have hkey:=ib q;have hsl:(FK q).length=q.length:=(KF q).length_eq;have hsm:∀p∈FK q,p∈q:=λp h=>(KF q).mem_iff.1 h
  rw[hkey];obtain⟨Q,hQ⟩:∃Q,FK q=Q:=⟨_,rfl⟩
  rw[hQ]at hN hSS hsl hsm⊢;have hMs:Sm (Al l):=by unfold Sm;omega
  have hM0:((Al l:Int):Rat)≠0:=λh=>by
   have:=Rat.intCast_inj.1 (h.trans (Rat.intCast_zero).symm)
   omega
  have fM:FR ((Al l:Int):Rat) ⟨AW (Al l),1⟩ 1:=Qk (by unfold Sm at hMs;omega);have cF:=O8 (Al l) hMs;obtain⟨kl,hkl2⟩:∃kl:List D,(List.map (λx=>str (sb x)) (Q.map (·.1)))=kl:=⟨_,rfl⟩
  have hkll:kl.length=Q.length:=by rw[<-hkl2];simp
  rw[hkl2];obtain⟨M,hMM⟩:∃M,Al l=M:=⟨_,rfl⟩
  have hgr:(CG l 0).grain=x0.grain:=by rw[FS hx0]
  clear hmd cK cS hm0;rw[hMM]at hN hL hSS hMs hM0 fM cF;rw[hMM,hkll];obtain⟨g14,hg14⟩:∃g,n1+1+1+1+1+1+1+1+1+1+1=g:=⟨_,rfl⟩
  rw[hg14];refine AC.loop (α:=Nat×Nat×Nat) (λp=>⟨[(2,.optr 0 0 3 0 0),(4,i64 M),(6,.mp ks vs),(14,.optr 2006 g14 3 0 0),(78,.sl false 1 kl),(79,i64 (Q.length:Nat)),(80,i64 (p.1:Int))],
    Dm 2706 p.2.1 86 2 ((Q.take p.1).map λz=>(⟨z.1,BM (z.2/(M:Rat))⟩:Ay).D)++[⟨2006,g14,80,3,[.agg [str (sb x0.grain),i64 M,Dw 2706 p.2.1 2 ((Q.take p.1).map λz=>(⟨z.1,BM (z.2/(M:Rat))⟩:Ay).D)]]⟩,⟨0,0,80,3,[.agg [.prim (.string ⟨#[]⟩),.prim (.int .i64 0),.prim (.slice none 0 0)]]⟩],p.2.2⟩) (λp=>Q.length-p.1)
   (λp=>p.1<=Q.length/\∀z∈Q.take p.1,Do (z.2/(M:Rat))=false) (0,0,_) ⟨BS _,λz h=>by simp at h⟩ AK ?_
  clear n1 hg14;rintro⟨i,g,n1⟩ F ⟨hi,hB⟩;dsimp only at hi hB⊢;have hTl:((Q.take i).map λz=>(⟨z.1,BM (z.2/(M:Rat))⟩:Ay).D).length=i:=by rw[Ak,Ba];omega
  obtain⟨TL,hTL⟩:∃TL,((Q.take i).map λz=>(⟨z.1,BM (z.2/(M:Rat))⟩:Ay).D)=TL:=⟨_,rfl⟩
  rcases BG i Q.length with h2|h2
  rotate_left
  ·have e1:=CZ h2
   have:i=Q.length:=by omega
   subst this;rw[DO]at hB hTL⊢;have hany:Q.any (λp=>Do (p.2/(M:Rat)))=false:=by
    rw[List.any_eq_false];intro p hp;rw[hB p hp];decide
   rw[AF (by rw[hany];decide)]at hN;rw[AF (by omega)]at hL;rw[hL,hN,hgr];have hres:((⟨x0.grain,M,Ej l⟩:AE).D)=.agg [str (sb x0.grain),i64 M,.sl false 2 TL]:=by
    unfold AE.D DD;rw[<-hTL,hSS,List.map_map];rfl
   have pR:B4 (.tup [(⟨x0.grain,M,Ej l⟩:AE).D,i64 ((0:Nat):Int)]):=AA.out;rw[hres]at pR;rw[hres,hTL];rcases TL with _|⟨z,TL⟩
   ·dsimp only[In,Io,List.nil_append]
    refine AH Ed e1 AB AB AB AB AB AB ?_;exact⟨_,ax (.nil 2),pR,rfl⟩
   ·dsimp only[HX,HY,List.cons_append,List.nil_append]
    refine AH Ed e1 AB AB AB AB AB AB ?_;exact⟨_,ax (o4 rfl),pR,rfl⟩
  have e1:=Ca h2;have wi:=Cc (i:=i) (by omega);obtain⟨p,hp⟩:=CP h2;have hmk:kl[i]?=some (str (sb p.1)):=by rw[<-hkl2,A7,A7,hp];rfl
  have hlq:=Sz hKO.nd (hsm p (Av hp));rcases hQ2.look p.1 with⟨q1,q3⟩|⟨r,y,q1,q3,q4⟩
  ·rw[hlq]at q3;cases q3
  rw[hlq]at q3;cases q3;have hLk:Hj (sb p.1) ks vs=some (some y.D):=by rw[<-hks,<-hvs,Wv,q1]
  have cDv:=r8 q4 fM hM0 (by omega);have fD:=oN q4 fM hM0;obtain⟨z,hz⟩:∃z,Ry y ⟨AW M,1⟩=z:=⟨_,rfl⟩
  rw[hz]at cDv fD;have cG:=uV fD (by omega);obtain⟨dM,hdM⟩:∃d,(⟨AW M,1⟩:GF).D=d:=⟨_,rfl⟩
  have pdM:AA dM:=by rw[<-hdM];exact AJ
  obtain⟨dy,hdy⟩:∃d,y.D=d:=⟨_,rfl⟩
  have pdy:AA dy:=by rw[<-hdy];exact AJ
  obtain⟨dz,hdz⟩:∃d,z.D=d:=⟨_,rfl⟩
  have pdz:AA dz:=by rw[<-hdz];exact AJ
  rw[hdy]at hLk cDv;rw[hdM]at cF cDv;rw[hdz]at cDv cG;unfold VC VB at cG;obtain⟨bg,hbg⟩:∃q,Do (p.2/(M:Rat))=q:=⟨_,rfl⟩
  rw[hbg]at cG;have hsn:((Q.take (i+1)).map λz=>(⟨z.1,BM (z.2/(M:Rat))⟩:Ay).D)=TL++[.agg [str (sb p.1),str (sb (BM (p.2/(M:Rat))))]]:=by
   rw[Di,hp,DA,hTL];rfl
  rw[hTL]at hTl⊢;have n4:((((4:Nat):Int)) != 0)=true:=rfl;have n0:((((0:Nat):Int)) != 0)=false:=rfl;cases bg
  rotate_left
  ·rw[AG rfl,AG rfl]at cG
   have hany:Q.any (λp=>Do (p.2/(M:Rat)))=true:=by
    rw[List.any_eq_true];exact⟨p,Av hp,hbg⟩
   rw[AG hany]at hN;rw[AG (by omega)]at hL;rw[hL,hN];rcases TL with _|⟨z9,TL⟩
   ·dsimp only[In,Io,List.nil_append]
    refine AH Ed (Aj e1 kN) hmk AB AB AB AB AB ?_;refine P4 (d':=dy) rfl rfl rfl rfl rfl rfl hLk rfl ?_;refine Au ?_;refine AH Ed n4 cF cDv cG AB AB AB ?_;exact⟨_,OJ _ _,AA.out,rfl⟩
   ·dsimp only[HX,HY,List.cons_append,List.nil_append]
    refine AH Ed (Aj e1 kN) hmk AB AB AB AB AB ?_;refine P4 (d':=dy) rfl rfl rfl rfl rfl rfl hLk rfl ?_;refine Au ?_;refine AH Ed n4 cF cDv cG AB AB AB ?_;exact⟨_,OJ _ _,AA.out,rfl⟩
  rw[AF (by decide),AF (by decide)]at cG;have hB2:∀w∈Q.take (i+1),Do (w.2/(M:Rat))=false:=λw hw=>by
   rw[Di,hp]at hw;rcases List.mem_append.1 hw with h|h
   ·exact hB w h
   ·have:w=p:=by simpa using h
    rw[this];exact hbg
  rcases TL with _|⟨z9,TL⟩
  ·dsimp only[In,Io,List.nil_append]
   refine AH Ed (Aj e1 kN) hmk AB AB AB AB AB ?_;refine P4 (d':=dy) rfl rfl rfl rfl rfl rfl hLk rfl ?_;refine Au ?_;refine AH Ed (Aj n0 wi) cF cDv cG AB AB AB ?_;exact⟨(i+1,_,_),⟨h2,hB2⟩,by dsimp only;omega,by(dsimp only;rw[hsn];exact AK)⟩
  ·dsimp only[HX,HY,List.cons_append,List.nil_append]
   have htk:List.take (TL.length+1) (z9::TL)=z9::TL:=by simp
   rw[Bo]at hTl;have hb64:TL.length+1<64:=by omega
   refine AH Ed (Aj e1 kN) hmk AB AB AB AB AB ?_;refine P4 (d':=dy) rfl rfl rfl rfl rfl rfl hLk rfl ?_;refine Au ?_;refine AH Ed (As n0 wi htk) cF cDv cG AB AB AB ?_;exact⟨(i+1,_,_),⟨h2,hB2⟩,by dsimp only;omega,by(dsimp only;rw[hsn,N5];exact AK)⟩
 have e1:=Ca h2;have wi:=Cc (i:=i) (by omega);obtain⟨x,hxi⟩:=CP h2;obtain⟨x1,x2,x3⟩:=hx x (Av hxi);have hm:(l.map AE.D)[i]?=some (.agg [str (sb x.grain),i64 x.mass,.sl false 2 (x.shs.map Ay.D)]):=by rw[A7,hxi];rfl
 have es:(((x.shs.map Ay.D).length:Nat):Int)=(x.shs.length:Int):=by rw[Ak]
 refine AH Ed (As e1 es kN) hm AB AB AB AB AB ?_;obtain⟨ga,hga⟩:∃g,n1+1+1+1=g:=⟨_,rfl⟩
 refine GT (α:=Nat×C7×Obj×Nat) (λp=>⟨[(0,Am b l),(2,.optr 0 0 3 0 0),(4,i64 (Al l)),(6,.prim (.map (some it))),(8,.optr 702 (n1+1+1+1) 3 0 0),(29,Am b l),(30,i64 (l.length:Int)),(31,i64 (i:Int)),(36,.sl false 2 (x.shs.map Ay.D)),(37,i64 (x.shs.length:Int)),(38,i64 (p.1:Int))],[⟨702,n1+1+1+1,80,3,[.agg [str (sb x.grain),i64 x.mass,.sl false 2 (x.shs.map Ay.D)]]⟩,⟨0,0,80,3,[.agg [.prim (.string ⟨#[]⟩),.prim (.int .i64 0),.prim (.slice none 0 0)]]⟩],p.2.2.2⟩) (λp=>x.shs.length-p.1)
  (λp F=>p.1<=x.shs.length/\C5 C0 F0 F [⟨400,11,p.2.2.1⟩]/\F.r0 400 11=some it/\Hm F p.2.2.1 p.2.1/\MQ (320*i+5*p.1) (GH x p.1 (CH (l.take i))) p.2.1) (0,m,o,_) ⟨BS _,hO,hr0,hM,hQ⟩ AK ?_
 clear hO hr0 hM hQ;rintro⟨j,m2,o2,n2⟩ F ⟨hj,hO,hr0,hM,hQ⟩;dsimp only at hj hO hr0 hM hQ⊢;rw[hga];rcases BG j x.shs.length with h3|h3
 rotate_left
 ·have e2:=CZ h3
  have:j=x.shs.length:=by omega
  subst this;rw[<-Px l i hxi]at hQ;refine AH Ed (Aj e2 wi) AB AB AB AB AB AB ?_;exact⟨(i+1,m2,o2,_),⟨h2,hO,hr0,hM,hQ.mono (by dsimp only;omega)⟩,by dsimp only;omega,AK⟩
 have e2:=Ca h3;have wj:=Cc (i:=j) (by omega);obtain⟨s,hsj⟩:=CP h3;obtain⟨s1,s2,s3⟩:=x3 s (Av hsj);have hms:(x.shs.map Ay.D)[j]?=some (.agg [str (sb s.lot),str (sb s.part)]):=by rw[A7,hsj];rfl
 have hsn:=Nq x j (CH (l.take i)) hsj;have fP:FR (CO s.part) (GG s.part) 3:=⟨(Qx s3).is,gI s3 s2⟩
 have fM:FR ((x.mass:Int):Rat) ⟨AW x.mass,1⟩ 1:=Qk (by unfold Sm at x2;omega);have c1:=RI (by omega) s3;have c2:=O8 x.mass x2;have c3:=UJ fP fM (by decide);have fZ:FR (CO s.part*(x.mass:Rat)) (IQ (GG s.part) ⟨AW x.mass,1⟩) 4:=Tv fP fM;obtain⟨z,hz⟩:∃z,IQ (GG s.part) ⟨AW x.mass,1⟩=z:=⟨_,rfl⟩
 rw[hz]at c3 fZ;obtain⟨d1,hd1⟩:∃d,(GG s.part).D=d:=⟨_,rfl⟩
 obtain⟨d2,hd2⟩:∃d,(⟨AW x.mass,1⟩:GF).D=d:=⟨_,rfl⟩
 have pd1:AA d1:=by rw[<-hd1];exact AJ
 have pd2:AA d2:=by rw[<-hd2];exact AJ
 rw[hd1]at c1 c3;rw[hd2]at c2 c3;refine sZ 900 ?_;refine AD e2 ?_;refine AC.seq ?_;refine AM ?_;refine An ?_;refine AC.seq ?_;refine AC.block ?_;refine sZ 1000 ?_;refine Bq kT hms ?_;refine AD kB ?_;refine AC.seq ?_;refine B5 w1 1100 [0,1,2,3,4,5,6,7] [8] (by kernel_rfl) ?_;refine AD kB ?_;refine BX.same _ (c1) AJ ?_;refine BN ?_;refine AD kB ?_;refine BX.same _ (c2) AJ ?_;refine BN ?_;refine AD kB ?_;refine BX.same _ (c3) AJ ?_;refine BN ?_;refine AD kB ?_;refine AC.seq ?_;refine AC.seq ?_;refine Hv (by kernel_rfl) ?_;change Bd _ _ _ _ _ ([0,1,2]++(3::([4,5,6,7,8,9]++[]))) _ _;refine FL w1 1200 [0,1,2] _ ?_;refine AD kB ?_;refine Bd.look (xo:=⟨400,11,o2⟩) (l:=m2) w1 rfl rfl rfl rfl rfl rfl hO B9 hr0 hM ?_;rcases hQ.look s.lot with⟨q1,q2⟩|⟨r,y,q1,q2,q3⟩
 ·rw[Ws q1]
  refine FL w1 1200 [4,5,6,7,8,9] [] ?_;refine AD kB ?_;refine Bd.nil ?_;refine Au ?_;refine sZ 1300 ?_;refine AD kB ?_;refine AM ?_;refine An ?_;refine Hv (by kernel_rfl) ?_;change Bd _ _ _ _ _ ([0,1,2,3]++(4::[])) _ _;refine FL w1 1500 [0,1,2,3] _ ?_;refine AD kB ?_;refine Bd.put (l:=m2) w1 rfl rfl rfl rfl rfl rfl hO hr0 hM (λF3 o3 hto3 hO3 hr3 hM3=>Bd.nil ?_);refine Au ?_;have hQ2:MQ (320*i+5*(j+1)) (GH x (j+1) (CH (l.take i))) (FH (sb s.lot) z.D m2):=by
   rw[hsn];unfold Js;rw[q2];exact MQ.set s.lot ⟨fZ.is,fZ.rk.mono (by omega)⟩ (hQ.mono (by omega))
  refine AH Ed wj AB AB AB AB AB AB ?_;exact⟨(j+1,FH (sb s.lot) z.D m2,o3,_),⟨h3,hO3,hr3,hM3,hQ2⟩,by dsimp only;omega,AK⟩
 ·rw[Wt q1]
  refine FL w1 1200 [4,5,6,7,8,9] [] ?_;refine AD kB ?_;refine Bd.nil ?_;have c4:=RC fZ q3 (by omega);have fA:=Qa fZ q3;obtain⟨z2,hz2⟩:∃z2,Jm z y=z2:=⟨_,rfl⟩
  rw[hz2]at c4 fA;refine Au ?_;refine sZ 1300 ?_;refine AD kB ?_;refine AM ?_;refine Ao w1 1400 (by kernel_rfl) ?_;refine AD kB ?_;refine cI c4 ?_;refine AD kB ?_;refine Hv (by kernel_rfl) ?_;change Bd _ _ _ _ _ ([0,1,2,3]++(4::[])) _ _;refine FL w1 1500 [0,1,2,3] _ ?_;refine AD kB ?_;refine Bd.put (l:=m2) w1 rfl rfl rfl rfl rfl rfl hO hr0 hM (λF3 o3 hto3 hO3 hr3 hM3=>Bd.nil ?_);refine Au ?_;have hQ2:MQ (320*i+5*(j+1)) (GH x (j+1) (CH (l.take i))) (FH (sb s.lot) z2.D m2):=by
   rw[hsn];unfold Js;rw[q2];exact MQ.set s.lot ⟨fA.is,fA.rk.mono (by omega)⟩ (hQ.mono (by omega))
  refine AH Ed wj AB AB AB AB AB AB ?_;exact⟨(j+1,FH (sb s.lot) z2.D m2,o3,_),⟨h3,hO3,hr3,hM3,hQ2⟩,by dsimp only;omega,AK⟩
abbrev mP:Dr:=[(1,[0,1,2,3,4,5],[6,7])]
open Go.Proofs Go.RowKit Go.Sort
set_option maxRecDepth 20000
set_option maxHeartbeats 4000000
theorem zT {C:BC}{f sz:Nat}{ds:List D}{Φ:D->Prop}(h1:Ag C f (CM::ds) Φ)(h2:Ag C f (.sl true sz []::ds) Φ):Ag C f (.sl false sz []::ds) Φ:=by
 refine⟨h1.1,λX w vs a b c e g=>?_⟩;have g0:=g 0 _ rfl;generalize hv:vs.getD 0 undef=v at g0;cases g0 with
 |nil=>
  refine h1.2 X w vs a b c e λi d hd=>?_
  match i with
  | 0=>cases hd;rw[hv];exact .prim _
  |i+1=>exact g (i+1) d hd
 |emp a0=>
  refine h2.2 X w vs a b c e λi d hd=>?_
  match i with
  | 0=>cases hd;rw[hv];exact .emp a0
  |i+1=>exact g (i+1) d hd
 |sl f hl hc hO hb hz hcell ho h=>
  refine h2.2 X w vs a b c e λi d hd=>?_
  match i with
  | 0=>cases hd;rw[hv];exact .sl f hl hc hO hb hz hcell ho h
  |i+1=>exact g (i+1) d hd
theorem G5 {H Hf:Hp}{k g T sz:Nat}{l:List D}(he:Hp.get H k=some ⟨k,g,T,sz,l⟩)(hf:Hp.get Hf k=none:=by rfl):Fz H Hf (.osl k g sz 0 l.length) (.sl false sz l):=by
 refine .osl (e:=⟨k,g,T,sz,l⟩) he hf rfl rfl (by simp) (by simp) (λj d d' h1 h2=>?_) λj d d' q c c' h1 h2 h3 h4=>?_
 ·rw[BU]at h1;rw[h1]at h2;cases h2;rfl
 ·rw[BU]at h1;rw[h1]at h2;cases h2;rw[h3]at h4;cases h4;exact Fz.refl _
theorem nf (s:List Ay)(hl:s.length<=1000000):AI C0 140 [DD false s] (DD false s):=by
 unfold DD;rcases s with _|⟨z,s⟩
 ·refine zT ?_ ?_
  ·refine Ag.walk w1 RG rfl λF=>?_
   refine AH AZ kB AB AB AB AB AB AB ?_;exact⟨_,.nil 2,AA.out,rfl⟩
  ·refine Ag.walk w1 RG rfl λF=>?_
   refine AH AZ kB AB AB AB AB AB AB ?_;exact⟨_,.osl (e:=⟨302,5,86,2,[]⟩) rfl rfl rfl rfl (Af _) rfl (λj d d' h=>by simp at h) (λj d d' q c c' h=>by simp at h),AA.out,rfl⟩
 ·refine Ag.walk w1 RG rfl λF=>?_
  obtain⟨T,hT⟩:∃T,List.map Ay.D (z::s)=T:=⟨_,rfl⟩
  have pT:AA (.sl false 2 T):=by rw[<-hT];exact AJ
  have hne:T≠[]:=by rw[<-hT];simp
  have hlT:T.length<=1000000:=by rw[<-hT,Ak];exact hl
  rw[hT];refine AH AZ hne AB AB AB AB AB AB ?_;exact⟨_,by rw[BU];exact G5 rfl,pT.out,rfl⟩
theorem Oa (x:AE)(m:Int)(hl:x.shs.length<=1000000):AI C0 94 [x.D,i64 m] ((⟨x.grain,m,x.shs⟩:AE).D):=by
 refine Ag.walk w1 eH rfl λF=>?_
 have cC:=nf x.shs hl;unfold AE.D;dsimp only;unfold DD at cC⊢;obtain⟨SD,hSD⟩:∃d,x.shs.map Ay.D=d:=⟨_,rfl⟩
 have pS:AA (.sl false 2 SD):=by rw[<-hSD];exact AJ
 rw[hSD]at cC⊢;refine AH AZ kB cC AB AB AB AB AB ?_;exact AL rfl AA.out
theorem lI (b:Bool)(l:List AE)(hl:l.length<=1000000)(h0:l≠[])(H:Hp)(n:Nat):Cd C0 89 [Am b l] H n
  (λd H' n'=>∃g,d=.osl 302 g 3 0 l.length/\H'=⟨302,g,80,3,l.map AE.D⟩::H/\n'=n+7):=by
 refine Cd.walk w1 eC rfl λF=>?_
 unfold Am;obtain⟨T,hT⟩:∃T,l.map AE.D=T:=⟨_,rfl⟩
 have pT:AA (.sl b 3 T):=by rw[<-hT];exact AJ
 have hne:T≠[]:=by rw[<-hT];simpa using h0
 have hlT:T.length<=1000000:=by rw[<-hT,Ak];exact hl
 rw[hT,<-Ak (f:=AE.D),hT];cases b
 all_goals
  refine sZ 0 ?_;refine AD kB ?_;refine AC.seq ?_;refine sZ 100 ?_;refine AD kB ?_;refine AM ?_;refine An ?_;refine sZ 300 ?_;refine AD kB ?_;refine Ah ?_;exact⟨_,by rw[BU],rfl,rfl⟩
theorem uN (b:Bool)(x y:AE)(l:List AE):AI C0 120 [x.D,  .pptr (.sl b 3 ((y::l).map AE.D))] (Aq (!BJ (sb x.grain) (sb y.grain))):=by
 refine Ag.walk w1 af rfl λF=>?_
 have hm:((y::l).map AE.D)[0]?=some (.agg [str (sb y.grain),i64 y.mass,.sl false 2 (y.shs.map Ay.D)]):=rfl;obtain⟨T,hT⟩:∃T,(y::l).map AE.D=T:=⟨_,rfl⟩
 have pT:AA (.sl b 3 T):=by rw[<-hT];exact AJ
 obtain⟨S,hS⟩:∃S,x.shs.map Ay.D=S:=⟨_,rfl⟩
 have pS:AA (.sl false 2 S):=by rw[<-hS];exact AJ
 rw[hT]at hm⊢;unfold AE.D DD;rw[hS];refine AH mP kB hm AB AB AB AB AB ?_;exact AL rfl AA.out
theorem uQ (b:Bool)(l:List AE)(c:D)[pc:AA c](p:AE->Bool)(hl:l.length<=1000000)(hc:∀x∈l,AI C0 120 [x.D,c] (Aq (p x))):AI C0 163 [Am b l,.clo (.func 120) [] [c]] (i64 (Jr p l)):=by
 refine Ag.walk w1 Z8 rfl λF=>?_
 have el:(((l.map AE.D).length:Nat):Int)=(l.length:Int):=by rw[Ak]
 refine AH AZ el AB AB AB AB AB AB ?_;refine AC.loop (α:=Nat×Nat) (λp=>⟨[(0,Am b l),(1,.clo (.func 120) [] [c]),(7,i64 l.length),(8,i64 (p.1:Int))],[],p.2⟩) (λp=>l.length-p.1) (λq=>q.1<=l.length/\∀(j:Nat) (x:AE),j<q.1->l[j]?=some x->p x=false) (0,_) ⟨BS _,λj x hj=>Ae hj (HN j)⟩ AK ?_;rintro⟨i,n⟩ F ⟨hi,ha⟩;dsimp only at hi ha⊢;rcases BG i l.length with h2|h2
 rotate_left
 ·have e1:=CZ h2
  have:i=l.length:=by omega
  subst this;refine AH AZ e1 AB AB AB AB AB AB ?_;exact AL (by rw[S7 ha]) AA.out
 have e1:=Ca h2;have wi:=Cc (i:=i) (by omega);obtain⟨x,hx⟩:=CP h2;have hm:(l.map AE.D)[i]?=some (.agg [str (sb x.grain),i64 x.mass,.sl false 2 (x.shs.map Ay.D)]):=by rw[A7,hx];rfl
 have cn:=hc x (Av hx);unfold AE.D at cn;cases hb:p x
 ·rw[hb]at cn
  refine AH AZ (As e1 wi kN) hm cn AB AB AB AB ?_;refine⟨(i+1,_),⟨h2,λj z hj hjz=>?_⟩,by dsimp only;omega,AK⟩;rcases BG j i with h|h
  ·exact ha j z h hjz
  ·have:j=i:=by dsimp only at hj;omega
   subst this;rw[hx]at hjz;cases hjz;exact hb
 ·rw[hb]at cn
  refine AH AZ (As e1 wi kN) hm cn AB AB AB AB ?_;exact AL (by rw[Th hx hb ha]) AA.out
theorem uO (b:Bool)(l:List AE)(c:D)[pc:AA c](p:AE->Bool)(hl:l.length<=1000000)(hc:∀x∈l,AI C0 120 [x.D,c] (Aq (p x))):AI C0 119 [Am b l,.clo (.func 120) [] [c]] (Aq (l.any p)):=by
 refine Ag.walk w1 ae rfl λF=>?_
 have c1:=uQ b l c p hl hc;have e1:=Ti p l;refine AH AZ e1 c1 AB AB AB AB AB ?_;exact AL rfl AA.out
theorem XU (b:Bool)(l:List AE)(hl:l.length<=1000000):AI C0 74 [Am b l] (i64 (if CJ l then 0 else 16:Nat)):=by
 refine Ag.walk w1 du rfl λF=>?_
 have cH:AI C0 119 [Am b l,.clo (.func 120) [] [.pptr (Am b l)]] (Aq (!CJ l)):=by
  have:=uO b l (.pptr (Am b l)) (λx=>!BJ (sb x.grain) (sb (CG l 0).grain)) hl λx hx=>by
   rcases l with _|⟨y,l⟩
   ·cases hx
   ·exact uN b x y l
  have he:(l.any λx=>!BJ (sb x.grain) (sb (CG l 0).grain)) = !CJ l:=by
   unfold CJ;rw[List.not_all_eq_any_not]
  rwa [he]at this
 have cW:=G7 (!CJ l) 16;refine AH AZ kB cH cW AB AB AB AB ?_;refine BD.own _ (MA cH rfl (λi a d h1 h2=>by
  match i with
  | 0=>cases h1;cases h2;exact .refl _ _
  | 1=>cases h1;cases h2;exact .clo1 (.ptr rfl rfl rfl rfl)
  |n+2=>cases h1) AJ (.prim _)) ?_
 rintro d H' n' ⟨rfl,rfl,rfl⟩;refine AH AZ kB cW AB AB AB AB AB ?_;exact AL (by cases CJ l<;>rfl) AA.out
theorem Ka {l:List AE}(h:Br l=0):l.length<=64/\(∀x∈l,CW x=0)/\Al l<=999999999:=by
 unfold Br at h;split at h
 ·cases h
 ·split at h
  ·rename_i h3;exact Ae h h3
  ·split at h
   ·cases h
   ·refine⟨by omega,λx hx=>?_,by omega⟩
    obtain⟨j,hj⟩:=List.mem_iff_getElem?.1 hx
    have:=QQ (f:=λi=>CW (CG l i)) (n:=l.length) (by omega) j (List.getElem?_eq_some_iff.1 hj).1
    rwa [FS hj]at this
theorem Wx {l:List AE}(hf:∀x∈l,x.lite)(hz:∀x∈l,CW x=0)(hl:l.length<=64):(∀x∈l,x.ok)/\G6 (λk=>k.length<=1000) 4096 (CH l):=by
 have hx:∀x∈l,x.ok:=λx h=>(az (hf x h) (hz x h)).1
 exact⟨hx,(Sq λx h=>⟨(hx x h).1,λs hs=>((hf x h).2 s hs).1⟩).mono (by omega)⟩
def Rg (l:List AE):Nat:=if Br l≠0 then Br l else IL (CH l)
def Rh (l:List AE):By:=if Br l≠0 then[]else Je (CH l)
theorem x7 (b:Bool)(l:List AE)(hl:l.length<=1000000)(hf:∀x∈l,x.lite):AI C0 22 [Am b l] (.tup [.sl false 2 ((Rh l).map Ci),i64 (Rg l:Nat)]):=by
 refine Ag.walk w1 dK rfl λF=>?_
 have cP:=NG b l (by omega) λx hx=>(hf x hx).1
 have hR:Rh l=if Br l≠0 then[]else Je (CH l):=rfl
 have hE:Rg l=if Br l≠0 then Br l else IL (CH l):=rfl
 rcases Nat.decEq (Br l) 0 with g|g
 ·have e1:=GO g
  rw[AG g]at hR hE;rw[hR,hE];refine AH AZ e1 cP AB AB AB AB AB ?_;exact⟨_,Hb (.nil 2) (.refl _),AA.out,rfl⟩
 have e1:=GP g;rw[AF (λh=>h g)]at hR hE;rw[hR,hE];obtain⟨g1,g2,g3⟩:=Ka g;obtain⟨hx,hK⟩:=Wx hf g2 g1;have cL:=x9 b l (by omega) hx;refine AH AZ e1 cP AB AB AB AB AB ?_;refine BD.prop _ _ (EZ.refl _) cL AJ ?_;rintro d ⟨m,rfl,hQ⟩;have cA:=YA 32000 (by omega) (CH l) m hQ (BQ hK.len (by omega)) hK.nd;have pM:AA (mapD m):=⟨hQ.mapD⟩
 unfold Jd at cA;obtain⟨M,hM⟩:∃M,mapD m=M:=⟨_,rfl⟩
 rw[hM]at cA pM⊢;refine AH AZ kB cA AB AB AB AB AB ?_;exact AL rfl AA.out
def Eh (p:List UInt8×List UInt8):D:=.agg [str (sb p.1),str (sb p.2)]
instance  (p:List UInt8×List UInt8):AV (Eh p):=by unfold Eh;exact AJ
instance  (p:List UInt8×List UInt8):AA (Eh p):=by unfold Eh;exact AJ
def Ay.shB (s:Ay):Bool:=decide (s.lot.length<=100)&&decide (s.part.length<=14)
def AE.shB (x:AE):Bool:=decide (x.grain.length<=100)&&(decide (x.shs.length<=8)||decide (64<x.shs.length))&&decide (x.shs.length<=80)&&x.shs.all Ay.shB
def Gj (l:List AE):Bool:=l.all AE.shB&&(decide (l.length<=8)||(decide (64<l.length)&&decide (l.length<=80)))
theorem DP.clo2 {H:Hp}{fn:Fn}{c c' x x':D}(h:DP H c c')(k:DP H x x'):DP H (.clo fn [] [c,x]) (.clo fn [] [c',x']):=λC F ρ w m hO hN v hv=>by
 cases hv with
 |clo hf hc h1 h2=>
  refine .clo hf (by simpa using hc) (λi d hd=>by simp at hd) λi d hd=>?_
  match i with
  | 0=>
   simp at hd;subst hd;exact h C F ρ w m hO hN _ (h2 0 _ rfl)
  | 1=>
   simp at hd;subst hd;exact k C F ρ w m hO hN _ (h2 1 _ rfl)
  |i+2=>simp at hd
theorem TV (b bk:Bool)(T:List D)[pT:AA (.sl b 3 T)]:AI C0 102 [.sl b 3 T,Aq bk] (.clo (.func 142) [] [.pptr (.sl b 3 T),.pptr (Aq bk)]):=by
 refine zU w1 aV rfl λF=>?_
 have hp:B4 (.clo (.func 142) [] [.pptr (.sl b 3 T),.pptr (Aq bk)]):=(AJ:AA (.clo (.func 142) [] [.pptr (.sl b 3 T),.pptr (Aq bk)])).out;refine fR 0 ?_;refine fR 100 ?_;refine Ah ?_;exact⟨_,.clo2 (.ptr rfl rfl rfl rfl) (.ptr rfl rfl rfl rfl),hp,rfl⟩
theorem VM {E:FW}{l:Nat}{R:LR}(hE:FW.ok E)(b bk:Bool)(T:List D)[pT:AA (.sl b 3 T)](hT:∀x∈T,∃a c d,x=.agg [a,c,d])(hl:T.length<=1000000)
  {σ:Type} (S:Nat->σ->Hp) (P:Nat->σ->Prop) (c:Code) (Z:Hp->Prop) (a0:σ) (h0:P 0 a0) (n0:Nat)
  (hY:∀k a x n,P k a->k<T.length->T[if bk then T.length-1-k else k]?=some x->Q1 C0 E l R [x] (S k a) n (λj H' _=>(j=none/\∃a',P (k+1) a'/\Cg H' (S (k+1) a') H' (S (k+1) a'))\/(j=some c/\Z H'))):
  OX C0 E 142 [.clo (.yield l) [] [],.pptr (.sl b 3 T),.pptr (Aq bk)] l R (S 0 a0) n0 (λj _ H' _=>(j=none/\∃a,P T.length a/\H'=S T.length a)\/(j=some c/\Z H')):=by
 refine OX.walk w1 hE Z1 rfl λB F hR=>?_
 obtain⟨N,hN⟩:∃N,T.length=N:=⟨_,rfl⟩
 rw[hN]at hY hl⊢;have el:((T.length:Nat):Int)=(N:Int):=by rw[hN]
 refine sZ 0 ?_;refine AD el ?_;refine AC.block ?_;refine GT (α:=Nat×σ×Nat) (λp=>⟨[(0,.clo (.yield l) [] []),(1,.pptr (.sl b 3 T)),(2,.pptr (Aq bk)),(6,i64 (N:Int)),(7,i64 (p.1:Int))],S p.1 p.2.1,p.2.2⟩) (λp=>N-p.1)
  (λp F=>Lr C0 E B F l R/\p.1<=N/\P p.1 p.2.1) (0,a0,_) ⟨hR,BS _,h0⟩ AK ?_
 clear hR;rintro⟨i,a,m⟩ F ⟨hR,h1,hP⟩;dsimp only at h1 hR hP⊢;refine sR 100 ?_;refine AC.seq ?_;refine AM ?_
 (refine Bw (λh8=>?_) (λh8=>?_))<;>(try simp only[Bi,Bu]at h8)<;>(try simp only[h8])
 ·have hi:i<N:=by
   have:=Cz h8
   omega
  have a3:IntKind.i64.wrap ((i:Int)+1)=((i+1:Nat):Int):=wI (by omega) (by omega);have a4:IntKind.i64.wrap ((N:Int)-1)=((N-1:Nat):Int):=by rw[wI (by omega) (by omega)];omega
  have a5:IntKind.i64.wrap (((N-1:Nat):Int)-(i:Int))=((N-1-i:Nat):Int):=by rw[wI (by omega) (by omega)];omega
  have hq:(if bk then N-1-i else i)<T.length:=by rw[hN];split<;>omega
  obtain⟨x,hx⟩:∃x,T[if bk then N-1-i else i]?=some x:=⟨_,BE hq⟩
  have hy:=λn=>hY i a x n hP hi hx
  obtain⟨x1,x2,x3,rfl⟩:=hT x (Av hx);refine An ?_;refine AC.seq ?_;refine AC.block ?_;refine sR 200 ?_;refine AC.seq ?_;refine sR 300 ?_;cases bk
  ·replace hx:T[i]?=some (.agg [x1,x2,x3]):=hx
   refine AM ?_;refine An ?_;refine AC.seq ?_;refine fW w1 500 [0,1,2,3,4] 5 [6] rfl (by kernel_rfl) hR ?_;refine BN ?_;refine Bq kT hx ?_;refine And.intro ⟨rfl,trivial⟩ ?_;refine BN ?_;refine⟨rfl,_,hy _,?_,?_⟩
   ·rintro H2 n2 (⟨_,a',hP',hf⟩|⟨h,-⟩)
    rotate_left
    ·cases h
    refine And.intro (by exact B8) ?_;refine Au ?_;refine AM ?_;refine An ?_;refine Ao w1 600 (by kernel_rfl) ?_;refine AT a3 ?_;exact⟨(i+1,a',_),⟨hR,hi,hP'⟩,(by dsimp only;omega),AK (a:=hf)⟩
   ·rintro c2 H2 n2 (⟨h,-⟩|⟨h,hZ⟩) F2 hst
    ·cases h
    cases h;refine BN ?_;refine AM ?_;refine AC.weak ⟨[],H2,_⟩ AK ?_;refine AC.ret ?_;exact⟨_,hst,trivial,.inr ⟨rfl,hZ⟩⟩
  ·replace hx:T[N-1-i]?=some (.agg [x1,x2,x3]):=hx
   refine AM ?_;refine Ao w1 400 (by kernel_rfl) ?_;refine AT (As a4 a5 el) ?_;refine AC.seq ?_;refine fW w1 500 [0,1,2,3,4] 5 [6] rfl (by kernel_rfl) hR ?_;refine BN ?_;refine Bq kT hx ?_;refine And.intro ⟨rfl,trivial⟩ ?_;refine BN ?_;refine⟨rfl,_,hy _,?_,?_⟩
   ·rintro H2 n2 (⟨_,a',hP',hf⟩|⟨h,-⟩)
    rotate_left
    ·cases h
    refine And.intro (by exact B8) ?_;refine Au ?_;refine AM ?_;refine An ?_;refine Ao w1 600 (by kernel_rfl) ?_;refine AT a3 ?_;exact⟨(i+1,a',_),⟨hR,hi,hP'⟩,(by dsimp only;omega),AK (a:=hf)⟩
   ·rintro c2 H2 n2 (⟨h,-⟩|⟨h,hZ⟩) F2 hst
    ·cases h
    cases h;refine BN ?_;refine AM ?_;refine AC.weak ⟨[],H2,_⟩ AK ?_;refine AC.ret ?_;exact⟨_,hst,trivial,.inr ⟨rfl,hZ⟩⟩
 ·have hi:i=N:=by
   have:=DN h8
   omega
  subst hi;refine B6 ?_;exact⟨none,hR.stat,trivial,.inl ⟨rfl,a,hP,rfl⟩⟩
def AE.w (x:AE)(m:Int):AE:=⟨x.grain,m,x.shs⟩
def D4:List AE->Int->List AE
 | [],_=>[]
 |x::r,m=>x.w (min x.mass m)::if m-x.mass<=0 then[]else D4 r (m-x.mass)
def HT (g1:Nat)(p:List AE×Int×Nat):Hp:=Dm 408 p.2.2 80 3 (p.1.map AE.D)++[⟨100,g1,38,1,[Dw 408 p.2.2 3 (p.1.map AE.D)]⟩,⟨0,0,3,1,[i64 p.2.1]⟩]
theorem Zf (g1:Nat)(m:Int)(g:Nat):HT g1 ([],m,g)=[⟨100,g1,38,1,[CM]⟩,⟨0,0,3,1,[i64 m]⟩]:=rfl
theorem TU (g1:Nat)(z:AE)(o:List AE)(m:Int)(g:Nat):HT g1 (z::o,m,g)=[⟨408,g,80,3,z.D::o.map AE.D⟩,⟨100,g1,38,1,[.osl 408 g 3 0 ((o.map AE.D).length+1)]⟩,⟨0,0,3,1,[i64 m]⟩]:=rfl
def Pf (L:List AE)(m:Int)(k:Nat)(p:List AE×Int×Nat):Prop:=p.1.length=k/\p.1++D4 (L.drop k) p.2.1=D4 L m/\0<=p.2.1/\p.2.1<=1000000000000
def Fs (bk:Bool)(l:List AE):List AE:=if bk then l.reverse else l
theorem uz (bk:Bool)(l:List AE){k:Nat}(hk:k<l.length):(l.map AE.D)[if bk then(l.map AE.D).length-1-k else k]?=((Fs bk l)[k]?).map AE.D:=by
 unfold Fs;rw[Ak,A7];cases bk
 ·rfl
 ·simp only[if_true]
  rw[List.getElem?_reverse hk]
theorem UC (b bk:Bool)(l:List AE)(m:Int)(hl:l.length<=1000000)(hm:0<=m/\m<=1000000000000)(hx:∀x∈l,0<=x.mass/\x.mass<=1000000000)
  (ho:∀x∈l,∀m,AI C0 94 [x.D,i64 m] (x.w m).D) (R:D) [pR:AA R] (hN:AI C0 62 [Am false (D4 (Fs bk l) m)] R):
  AI C0 105 [Am b l,i64 m,Aq bk] R:=by
 refine Ag.walk w1 aX rfl λF=>?_
 have cV:=TV b bk (l.map AE.D);have hT:∀x∈l.map AE.D,∃a c d,x=.agg [a,c,d]:=λx hx=>by
  obtain⟨y,-,rfl⟩:=List.mem_map.1 hx;exact⟨_,_,_,rfl⟩
 have hoL:∀k,k<l.length->∃x,x∈l/\(Fs bk l)[k]?=some x:=λk hk=>by
  unfold Fs;cases bk
  ·exact⟨_,List.getElem_mem hk,BE hk⟩
  ·simp only[if_true]
   rw[List.getElem?_reverse hk]
   have:l.length-1-k<l.length:=by omega
   exact⟨_,List.getElem_mem this,BE this⟩
 have hlen:(Fs bk l).length=l.length:=by unfold Fs;cases bk<;>simp
 obtain⟨L,hL⟩:∃L,Fs bk l=L:=⟨_,rfl⟩
 have hoA:=λk (hk:k<l.length)=>uz bk l hk
 rw[hL]at hoL hoA hN hlen;unfold Am;obtain⟨T,hTT⟩:∃T,l.map AE.D=T:=⟨_,rfl⟩
 have pT:AA (.sl b 3 T):=by rw[<-hTT];exact AJ
 have hTl:T.length=l.length:=by rw[<-hTT,Ak]
 rw[hTT]at cV hT hoA⊢;refine sR 0 ?_;refine sR 100 ?_;refine AC.seq ?_;refine sR 200 ?_;refine cI cV ?_;refine AC.block ?_;have h0:Pf L m 0 ([],m,0):=⟨rfl,rfl,hm⟩
 refine AC.rangeFunc (fi:=142) (first:=[]) (captured:=[.pptr (.sl b 3 T),.pptr (Aq bk)]) (Ψ:=λj _ H' _=>(j=none/\∃a,Pf L m T.length a/\H'=HT 2 a)\/(j=some (.exit 0)/\∃m' g,H'=HT 2 (D4 L m,m',g))) rfl
  (λds H n Φ=>∃k a x,Pf L m k a/\k<T.length/\T[if bk then T.length-1-k else k]?=some x/\ds=[x]/\H=HT 2 a/\Φ=λj H' _=>(j=none/\∃a',Pf L m (k+1) a'/\Cg H' (HT 2 a') H' (HT 2 a'))\/(j=some (.exit 0)/\∃m' g,H'=HT 2 (D4 L m,m',g))) ?_
  (λE l' R' hE hY=>VM hE b bk T hT (by omega) (λ_ a=>HT 2 a) (Pf L m) (.exit 0) (λH'=>∃m' g,H'=HT 2 (D4 L m,m',g)) ([],m,0) h0 _ λk a x n hP hk hx=>hY _ _ _ _ ⟨k,a,x,hP,hk,hx,rfl,rfl,rfl⟩) ?_
 ·rintro l' ds H n Φ ⟨k,⟨o,m',g⟩,x,⟨p1,p2,p3,p4⟩,hk,hxT,rfl,rfl,rfl⟩
  dsimp only at p1 p2 p3 p4;obtain⟨y,hy1,hy2⟩:=hoL k (by omega);rw[hoA k (by omega),hy2]at hxT;cases hxT;have hd:L.drop k=y::L.drop (k+1):=by
   have:=(List.getElem?_eq_some_iff.1 hy2)
   rw[EK this.1,this.2]
  rw[hd]at p2;have hb:=hx y hy1;have cO:=ho y hy1 (min y.mass m');have p5:(o++[y.w (min y.mass m')])++(if m'-y.mass<=0 then[]else D4 (L.drop (k+1)) (m'-y.mass))=D4 L m:=by
   rw[<-p2,DZ];rfl
  have a1:IntKind.i64.wrap (m'-y.mass)=m'-y.mass:=wI (by omega) (by omega);refine⟨rfl,λF=>?_⟩;unfold AE.w AE.D at cO;unfold AE.D;dsimp only at cO⊢;obtain⟨SD,hSD⟩:∃d,DD false y.shs=d:=⟨_,rfl⟩
  have pS:AA SD:=by rw[<-hSD];exact AJ
  rw[hSD]at cO⊢;rcases o with _|⟨z,o⟩
  ·rw[Zf]
   dsimp only[Gl];refine Ao w1 300 (by kernel_rfl) ?_;refine AD kB ?_;refine⟨trivial,trivial,λF'=>?_⟩;refine AC.block ?_;refine AC.seq ?_;refine B5 w1 400 [0,1,2,3,4,5,6,7] [8,9] (by kernel_rfl) ?_;refine BN ?_;refine BX.same _ (cO) AJ ?_;refine BN ?_;refine sZ 500 ?_;refine AT a1 ?_;refine sR 600 ?_;refine AC.weak ⟨[(27,Aq (decide (m'-y.mass<=0)))],[⟨408,n+1+1+10,80,3,[.agg [str (sb y.grain),i64 (min y.mass m'),SD]]⟩,⟨100,2,38,1,[.osl 408 (n+1+1+10) 3 0 1]⟩,⟨0,0,3,1,[i64 (m'-y.mass)]⟩],_⟩ AK ?_;rw[<-hSD]
   by_cases hz:m'-y.mass<=0
   ·rw[AX hz]
    rw[AG hz,C3]at p5;refine AM ?_;refine B6 ?_;refine .inr ⟨rfl,m'-y.mass,n+1+1+10,?_⟩;rw[<-p5];rfl
   ·rw[Ac hz]
    rw[AF hz]at p5;refine AM ?_;refine An ?_;exact .inl ⟨rfl,([y.w (min y.mass m')],m'-y.mass,n+1+1+10),⟨by rw[<-p1];rfl,p5,by dsimp only;omega,by dsimp only;omega⟩,Gz _⟩
  ·have wl:AA (.sl false 3 ((z::o).map AE.D)):=AJ
   have hol:o.length<=1000000:=by rw[Bo]at p1;omega
   rw[Cq]at wl;rw[TU];dsimp only[Gl];obtain⟨O,hO⟩:∃O,o.map AE.D=O:=⟨_,rfl⟩
   obtain⟨zD,hzD⟩:∃O,z.D=O:=⟨_,rfl⟩
   have hOl:O.length=o.length:=by rw[<-hO,Ak]
   rw[hO,hzD];refine Ao w1 300 (by kernel_rfl) ?_;refine AD kB ?_;refine⟨trivial,trivial,λF'=>?_⟩;refine AC.block ?_;refine AC.seq ?_;refine B5 w1 400 [0,1,2,3,4,5,6,7] [8,9] (by kernel_rfl) ?_;refine BN ?_;refine BX.same _ (cO) AJ ?_;refine BN ?_;rw[show List.take (O.length+1) (zD::O)=zD::O from DO (l:=zD::O)];refine sZ 500 ?_;refine AT a1 ?_;refine sR 600 ?_;refine AC.weak ⟨[(27,Aq (decide (m'-y.mass<=0)))],[⟨408,n+1+1+10,80,3,zD::O++[.agg [str (sb y.grain),i64 (min y.mass m'),SD]]⟩,⟨100,2,38,1,[.osl 408 (n+1+1+10) 3 0 (O.length+1+1)]⟩,⟨0,0,3,1,[i64 (m'-y.mass)]⟩],_⟩ AK ?_;have hs:∀g' mm,HT 2 (z::o++[y.w (min y.mass m')],mm,g')=[⟨408,g',80,3,zD::O++[.agg [str (sb y.grain),i64 (min y.mass m'),SD]]⟩,⟨100,2,38,1,[.osl 408 g' 3 0 (O.length+1+1)]⟩,⟨0,0,3,1,[i64 mm]⟩]:=λg' mm=>by
    rw[Ek,TU,<-hO,<-hzD,<-hSD,DA];rw[Bh];rfl
   rw[<-hs]
   by_cases hz:m'-y.mass<=0
   ·rw[AX hz]
    rw[AG hz,C3]at p5;refine AM ?_;refine B6 ?_;exact .inr ⟨rfl,m'-y.mass,n+1+1+10,by rw[<-p5];rfl⟩
   ·rw[Ac hz]
    rw[AF hz]at p5;refine AM ?_;refine An ?_;exact .inl ⟨rfl,(z::o++[y.w (min y.mass m')],m'-y.mass,n+1+1+10),⟨by rw[<-p1];simp,p5,by dsimp only;omega,by dsimp only;omega⟩,Gz _⟩
 ·rintro j d H' n' F' hE
  have hE2:∃m' g,H'=HT 2 (D4 L m,m',g)/\(j=none\/j=some (.exit 0)):=by
   rcases hE with⟨hj,⟨o,m',g⟩,⟨p1,p2,-,-⟩,rfl⟩|⟨hj,m',g,rfl⟩
   ·refine⟨m',g,?_,.inl hj⟩
    dsimp only at p2;rw[List.drop_eq_nil_of_le (by omega)]at p2;rw[show o=D4 L m by rw[<-p2];exact(C3 o).symm]
   ·exact⟨m',g,rfl,.inr hj⟩
  obtain⟨m',g,rfl,hj⟩:=hE2;obtain⟨o,hO⟩:∃o,D4 L m=o:=⟨_,rfl⟩
  rw[hO]at hN⊢;rcases o with _|⟨z,o⟩
  ·rw[Zf]
   rcases hj with rfl|rfl
   all_goals
    change AC _ _ _ _ _ _ _;refine sR 700 ?_;refine BD.pure [.sl false 3 []] _ ⟨.nil 3,trivial⟩ hN AJ ?_;refine BN ?_;refine Ah ?_;exact AL rfl pR.out
  ·have hR:=G5 (H:=HT 2 (z::o,m',g)) (Hf:=[]) (k:=408) (g:=g) (T:=80) (sz:=3) (l:=(z::o).map AE.D) rfl
   have hle:((z::o).map AE.D).length=(o.map AE.D).length+1:=rfl;rw[hle]at hR;rw[TU]at hR⊢;rcases hj with rfl|rfl
   all_goals
    change AC _ _ _ _ _ _ _;refine sR 700 ?_;refine BD.own _ (PK [] hN (.drop (.drop (.drop .nil))) ⟨hR,trivial⟩ AJ) ?_;rintro d H2 n2 ⟨rfl,rfl,rfl⟩;refine BN ?_;refine Ah ?_;exact AL rfl pR.out
abbrev LN:Dr:=[(6,[0,1,2,3,4,5,6,7],[8])]
open Go.Proofs Go.RowKit
set_option maxRecDepth 20000
set_option maxHeartbeats 4000000
def Hs (s t:Ay):Bool:=BJ (sb s.lot) (sb t.lot)&&BJ (sb s.part) (sb t.part)
def Fq:List Ay->List Ay->Bool
 | [],[]=>true
 |s::S,t::T=>Hs s t&&Fq S T
 |_,_=>false
theorem X0:∀ {S T:List Ay},S.length≠T.length->Fq S T=false
 | [],[],h=>Ae rfl h
 | [],_::_,_=>rfl
 |_::_,[],_=>rfl
 |s::S,t::T,h=>by
  show(Hs s t&&Fq S T)=false;rw[X0 (S:=S) (T:=T) λq=>h (congrArg (· + 1) q),Bool.and_false]
theorem QN:∀ {S T:List Ay} {i:Nat} {s t:Ay},S[i]?=some s->T[i]?=some t->Hs s t=false->Fq S T=false
 |s::S,t::T,0,_,_,h1,h2,h=>by
  cases h1;cases h2;show(Hs s t&&Fq S T)=false;rw[h,HR]
 |s::S,t::T,i+1,_,_,h1,h2,h=>by
  show(Hs s t&&Fq S T)=false;rw[QN (S:=S) (T:=T) (i:=i) h1 h2 h,Bool.and_false]
theorem Xy:∀ {S T:List Ay},S.length=T.length->(∀(i:Nat) (s t:Ay),S[i]?=some s->T[i]?=some t->Hs s t=true)->Fq S T=true
 | [],[],_,_=>rfl
 | [],_::_,h,_=>by cases h
 |_::_,[],h,_=>by cases h
 |s::S,t::T,h,k=>by
  show(Hs s t&&Fq S T)=true;rw[k 0 s t rfl rfl,Xy (S:=S) (T:=T) (Nat.succ.inj h) λi s t h1 h2=>k (i+1) s t h1 h2];rfl
theorem mT (b1 b2:Bool)(S T:List Ay)(hS:S.length<=1000000)(hT:T.length<=1000000):AI C0 143 [DD b1 S,DD b2 T] (Aq (Fq S T)):=by
 refine Ag.walk w1 Z3 rfl λF=>?_
 have e1:(((S.map Ay.D).length:Nat):Int)=(S.length:Int):=by rw[Ak]
 have e2:(((T.map Ay.D).length:Nat):Int)=(T.length:Int):=by rw[Ak]
 by_cases hl:S.length=T.length
 rotate_left
 ·have hne:((S.length:Int) != (T.length:Int))=true:=bne_iff_ne.2 (by omega)
  rw[X0 hl];refine AH LN (As e1 e2 hne) AB AB AB AB AB AB ?_;exact AL rfl AA.out
 have hne:((S.length:Int) != (T.length:Int))=false:=by rw[hl];exact bne_self_eq_false _
 refine AH LN (As e1 e2 hne) AB AB AB AB AB AB ?_;refine AC.loop (α:=Nat×Nat) (λp=>⟨[(0,DD b1 S),(1,DD b2 T),(12,i64 (S.length:Int)),(13,i64 (p.1:Int))],[],p.2⟩) (λp=>S.length-p.1) (λq=>q.1<=S.length/\∀(j:Nat) (s t:Ay),j<q.1->S[j]?=some s->T[j]?=some t->Hs s t=true) (0,_) ⟨BS _,λj _ _ h=>Ae h (HN j)⟩ AK ?_;rintro⟨i,n⟩ F ⟨hi,ha⟩;dsimp only at hi ha⊢;rcases BG i S.length with h2|h2
 rotate_left
 ·have k1:=CZ h2
  rw[Xy hl λj s t h1 h3=>ha j s t (by have:=(List.getElem?_eq_some_iff.1 h1).1;omega) h1 h3];refine AH LN k1 AB AB AB AB AB AB ?_;exact AL rfl AA.out
 have k1:=Ca h2;have wi:=Cc (i:=i) (by omega);obtain⟨x,hx⟩:=CP h2;obtain⟨y,hy⟩:=CP (show i<T.length by omega);have hm:(S.map Ay.D)[i]?=some (.agg [str (sb x.lot),str (sb x.part)]):=by rw[A7,hx];rfl
 have hm2:(T.map Ay.D)[i]?=some (.agg [str (sb y.lot),str (sb y.part)]):=by rw[A7,hy];rfl
 obtain⟨q1,c1⟩:∃q,BJ (sb x.lot) (sb y.lot)=q:=⟨_,rfl⟩
 obtain⟨q2,c2⟩:∃q,BJ (sb x.part) (sb y.part)=q:=⟨_,rfl⟩
 have hsh:Hs x y=(q1&&q2):=by unfold Hs;rw[c1,c2]
 have b1':(!(true&&(true&&true)))=false:=rfl;have b2':(!(true&&(false&&true)))=true:=rfl;have b3':(!(false&&(true&&true)))=true:=rfl;have b4':(!(false&&(false&&true)))=true:=rfl;cases q1<;>cases q2
 ·rw[QN hx hy hsh]
  refine AH LN (CS k1 wi c1 c2 b1' b2' (As b3' b4' kN)) hm hm2 AB AB AB AB ?_;exact AL rfl AA.out
 ·rw[QN hx hy hsh]
  refine AH LN (CS k1 wi c1 c2 b1' b2' (As b3' b4' kN)) hm hm2 AB AB AB AB ?_;exact AL rfl AA.out
 ·rw[QN hx hy hsh]
  refine AH LN (CS k1 wi c1 c2 b1' b2' (As b3' b4' kN)) hm hm2 AB AB AB AB ?_;exact AL rfl AA.out
 ·refine AH LN (CS k1 wi c1 c2 b1' b2' (As b3' b4' kN)) hm hm2 AB AB AB AB ?_
  refine⟨(i+1,_),⟨h2,λj s t hj h1 h3=>?_⟩,by dsimp only;omega,AK⟩;rcases BG j i with h|h
  ·exact ha j s t h h1 h3
  ·have:j=i:=by dsimp only at hj;omega
   subst this;rw[hx]at h1;rw[hy]at h3;cases h1;cases h3;exact hsh
def Fk (x y:AE):Bool:=BJ (sb x.grain) (sb y.grain)&&Fq x.shs y.shs
theorem nu (x y:AE)(hx:x.shs.length<=1000000)(hy:y.shs.length<=1000000):AI C0 103 [x.D,y.D] (Aq (Fk x y)):=by
 refine Ag.walk w1 aW rfl λF=>?_
 have c:=mT false false x.shs y.shs hx hy;obtain⟨q,hq⟩:∃q,BJ (sb x.grain) (sb y.grain)=q:=⟨_,rfl⟩
 have hb:Fk x y=(q&&Fq x.shs y.shs):=by unfold Fk;rw[hq]
 rw[hb];unfold AE.D;unfold DD at c⊢;obtain⟨S,hS⟩:∃S,x.shs.map Ay.D=S:=⟨_,rfl⟩
 have pS:AA (.sl false 2 S):=by rw[<-hS];exact AJ
 obtain⟨T,hT⟩:∃S,y.shs.map Ay.D=S:=⟨_,rfl⟩
 have pT:AA (.sl false 2 T):=by rw[<-hT];exact AJ
 rw[hS,hT]at c⊢;cases q
 ·refine AH AZ (As hq kT kF) c AB AB AB AB AB ?_
  exact AL rfl AA.out
 ·refine AH AZ (As hq kT kF) c AB AB AB AB AB ?_
  exact AL rfl AA.out
def Rw (H:Hp)(env:Ar):Ar->Prop
 | []=>True
 |(t,d)::r=>DP H (env.get t) d/\Rw H env r
theorem Rw.get {H:Hp}{env:Ar}:∀ {env':Ar},Rw H env env'->∀t,DP H (env.get t) (env'.get t)
 | [],_,t=>λ_ _ _ _ _ _ _ v _=>.any v
 |(k,d)::r,h,t=>by
  simp only[Ar.get];cases hb:Nat.beq k t with
  |true=>
   have:=B3 hb
   subst this;exact h.1
  |false=>exact h.2.get t
theorem fe {C:BC}{B F:Ab}{rd:Option Nat}{c:Code}{s:St}{Q:Exit->Ab->St->Prop}(env':Ar)(he:Rw s.H s.env env')(h:AC C B rd F c ⟨env',[],s.n⟩ Q):AC C B rd F c s Q:=⟨λhB hd ρ a w hs=>by
 have hH:Cg s.H [] s.H []:=by
  generalize s.H=H0
  have:∀H1:Hp,Cg H0 [] H1 []:=λH1=>by
   induction H1 with
   |nil=>exact .nil
   |cons e r ih=>exact .drop ih
  exact this H0
 obtain⟨m,hO,hN⟩:=hH.mem hs.mem;exact h.out hB hd ρ a w ⟨m,hs.fresh,by simp,λt=>he.get t _ _ _ _ hs.mem hO (λe he b hb=>hN e he b hb rfl) _ (hs.env t),hs.nt,hs.dfr⟩⟩
theorem Q2 (B:D)[pB:AA B][pC:AV B](hB:∃a b c d e,B=.agg [a,b,c,d,e])(b:Bool)(ls:List D)[pL:AA (.sl b 1 ls)](i:Nat)(x:Int)(hx:ls[i]?=some (i64 x))(R:D)[pR:AA R](m:Int)
  (cB:AI C0 92 [.sl b 1 ls,i64 (i:Int),.clo (.func 96) [] [.pptr (.sl b 1 ls),.pptr (i64 (i:Int)),.pptr B]] R)
  (cL:AI C0 91 [i64 x,R] (i64 m)):AI C0 49 [B,.sl b 1 ls,i64 (i:Int)] (i64 m):=by
 refine Ag.walk w1 d5 rfl λF=>?_
 obtain⟨a1,a2,a3,a4,a5,rfl⟩:=hB;refine sR 0 ?_;refine AC.seq ?_;refine fe [(3,.pptr (.agg [a1,a2,a3,a4,a5])),(4,.pptr (.sl b 1 ls)),(5,.pptr (i64 (i:Int)))] ⟨.ptr rfl rfl rfl rfl,.ptr rfl rfl rfl rfl,.ptr rfl rfl rfl rfl,trivial⟩ ?_;refine B5 w1 100 [0,1,2,3,4,5,6,7] [8,9] (by kernel_rfl) ?_;refine BN ?_;refine Bq kT hx ?_;refine AD kB ?_;refine BX.same _ (cB) AJ ?_;refine BN ?_;refine cI cL ?_;refine Ah ?_;exact AL rfl AA.out
theorem og (B:D)[pB:AA B][pC:AV B](a1 a2 a4 a5:D)(room:Int)(hB:B=.agg [a1,a2,i64 room,a4,a5])(ls:List D)[pL:AA (.sl false 1 ls)](i:Nat)(x:Int)(hx:ls[i]?=some (i64 x))(R:D)[pR:AA R](m:Int)
  (cC:AI C0 55 [B,.sl true 1 [i64 (i:Int)]] (i64 0)) (cV:AI C0 48 [B] (.sl false 1 ls))
  (cB:AI C0 92 [.sl false 1 ls,i64 (i:Int),.clo (.func 93) [] [.pptr B,.pptr (.sl false 1 ls),.pptr (i64 (i:Int))]] R) (r:Int) (hr:IntKind.i64.wrap (room-x)=r)
  (cL:AI C0 91 [i64 r,R] (i64 m)):AI C0 43 [B,i64 (i:Int)] (.tup [i64 m,i64 0]):=by
 refine Ag.walk w1 dO rfl λF=>?_
 have e0:((0:Int) != 0)=false:=rfl;subst hB;refine sR 0 ?_;refine AC.seq ?_;refine sR 100 ?_;refine cI cC ?_;refine sZ 200 ?_;refine AT e0 ?_;refine AM ?_;refine An ?_;refine sR 400 ?_;refine cI cV ?_;refine AC.seq ?_;refine fe [(2,.pptr (.agg [a1,a2,i64 room,a4,a5])),(3,.pptr (i64 (i:Int))),(7,.pptr (.sl false 1 ls))] ⟨.ptr rfl rfl rfl rfl,.ptr rfl rfl rfl rfl,.ptr rfl rfl rfl rfl,trivial⟩ ?_;refine B5 w1 500 [0,1,2,3,4,5,6,7,8,9,10] [11,12,13] (by kernel_rfl) ?_;refine BN ?_;refine Bq kT hx ?_;refine AD hr ?_;refine BX.same _ (cB) AJ ?_;refine BN ?_;refine cI cL ?_;refine Ah ?_;exact AL rfl AA.out
abbrev Bb (l:List Int):List D:=l.map λx=>i64 x
theorem ic (a1 a2 a3 a4:D)[AA a1][AA a2][AA a3][AA a4](b:Bool)(cs:List D)[pc:AA (.sl b 1 cs)](ls:List Int)(hlen:ls.length=cs.length)(h0:cs≠[])(hl:cs.length<=1000000)
  (hc:∀(i:Nat) (c:D) (m:Int),cs[i]?=some c->ls[i]?=some m->AI C0 57 [c] (i64 m)) (hp:∀c∈cs,∃bb l,c=.sl bb 3 l/\AA c) (g0:Nat) (x:D) (n:Nat):
  Cd C0 48 [.agg [a1,a2,a3,a4,.sl b 1 cs]] [⟨0,g0,24,5,[x]⟩] n (λd H' _=>∃g,d=.osl 504 g 1 0 ls.length/\H'=[⟨504,g,3,1,Bb ls⟩,⟨0,g0,24,5,[x]⟩]):=by
 refine Cd.walk w1 U8 rfl λF=>?_
 refine AH AZ kB AB AB AB AB AB AB ?_;refine AC.loop (α:=Nat×Nat×Nat) (λp=>⟨[(3,Dw 504 p.2.1 1 (Bb (ls.take p.1))),(7,.sl b 1 cs),(8,i64 (cs.length:Int)),(9,i64 (p.1:Int))],Dm 504 p.2.1 3 1 (Bb (ls.take p.1))++[⟨0,g0,24,5,[x]⟩],p.2.2⟩) (λp=>cs.length-p.1) (λq=>q.1<=cs.length) (0,0,_) (BS _) AK ?_;rintro⟨i,g,n⟩ F hi;dsimp only at hi⊢;rcases BG i cs.length with h2|h2
 rotate_left
 ·have e1:=CZ h2
  have hi2:i=cs.length:=by omega
  rw[CA (by omega:ls.length<=i)];have hls:ls≠[]:=λh=>h0 (E5 (by rw[<-hlen,h];rfl))
  obtain⟨z,r,rfl⟩:∃z r,ls=z::r:=by
   cases ls with
   |nil=>exact Ae rfl hls
   |cons z r=>exact⟨z,r,rfl⟩
  rw[show Bb (z::r)=i64 z::Bb r from rfl,HX,HY,Ek,Ft];refine AH AZ e1 AB AB AB AB AB AB ?_;exact⟨_,by rw[Ak],rfl⟩
 have e1:=Ca h2;have wi:=Cc (i:=i) (by omega);obtain⟨c,hm⟩:=CP h2;obtain⟨m,hm2⟩:=CP (show i<ls.length by omega);obtain⟨bb,cl,rfl,pcl⟩:=hp c (Av hm);have cT:=hc i _ m hm hm2;have ht:ls.take (i+1)=ls.take i++[m]:=by rw[Di,hm2];rfl
 obtain⟨R,hR⟩:∃R,ls.take i=R:=⟨_,rfl⟩
 rw[hR]at ht⊢;rcases R with _|⟨z,R⟩
 ·rw[show Bb []=[]from rfl,In,Io,Ft]
  refine AH AZ (As e1 wi kN) hm cT AB AB AB AB ?_;refine⟨(i+1,n+1+1+1+1+1+1+1+1,n+1+1+1+1+1+1+1+1+1+1+1+1),h2,by dsimp only;omega,?_⟩;dsimp only;rw[ht];exact AK
 ·rw[show Bb (z::R)=i64 z::Bb R from rfl,HX,HY,Ek,Ft]
  obtain⟨O,hO⟩:∃O,Bb R=O:=⟨_,rfl⟩
  have hOl:O.length+1=i:=by
   rw[<-hO,Ak]
   have:(z::R).length=i:=by rw[<-hR,Ba];omega
   exact this
  rw[hO];refine AH AZ (As e1 wi kN) hm cT AB AB AB AB ?_;refine⟨(i+1,n+1+1+1+1+1+1+1+1,n+1+1+1+1+1+1+1+1+1+1+1+1),h2,by dsimp only;omega,?_⟩;dsimp only;rw[ht,show Bb (z::R++[m])=i64 z::O++[i64 m]from by rw[<-hO];unfold Bb;rw[DA];rfl];rw[Ek,HX,HY,Bh];rw[show List.take (O.length+1) (i64 z::O)=i64 z::O from DO (l:=i64 z::O)];exact AK
def O3 (k g sz:Nat)(env:Ar):Ar->Prop
 | []=>True
 |(t,d)::r=>(d=env.get t\/(env.get t=CM/\d=.osl k g sz 0 0))/\O3 k g sz env r
theorem O3.get {k g sz:Nat}{env:Ar}:∀ {env':Ar},O3 k g sz env env'->∀t,env'.get t=.any\/env'.get t=env.get t\/(env.get t=CM/\env'.get t=.osl k g sz 0 0)
 | [],_,t=>.inl rfl
 |(q,d)::r,h,t=>by
  rw[IU]
  by_cases hk:q=t
  ·subst hk;rw[AG rfl];exact .inr h.1
  ·rw[AF hk];exact O3.get h.2 t
theorem AC.ghost {C:BC}{B F:Ab}{rd:Option Nat}{c:Code}{s:St}{Q:Exit->Ab->St->Prop}(k T sz:Nat)(env':Ar)(he:O3 k s.n sz s.env env')(h:AC C B rd F c ⟨env',⟨k,s.n,T,sz,[]⟩::s.H,s.n+1⟩ Q):AC C B rd F c s Q:=⟨λhB hd ρ a w hs=>by
 obtain⟨m1,hO⟩:=hs.mem.ghost (k:=k) (n:=s.n) (T:=T) (sz:=sz) (hs.fresh k _ (Af _));refine h.out hB hd ρ a w ⟨m1,λk g hg=>hs.fresh k g (by dsimp only at hg;omega),λe he=>?_,λt=>?_,hs.nt,hs.dfr⟩
 ·rcases A8.1 he with rfl|he
  ·exact HM _
  ·exact DF (hs.gen e he)
 ·have hr:=hs.env t
  dsimp only;rw[hO];rcases he.get t with h|h|⟨h1,h2⟩
  ·rw[h];exact .any _
  ·rw[h];exact hr
  ·rw[h2]
   rw[h1]at hr;generalize a.tmps.getD t undef=v at hr⊢;cases hr;exact .onil _ _ _⟩
def Gc (l:List Int):Nat->Nat
 | 0=>0
 |k+1=>if l.getD (Gc l k) 0<l.getD k 0 then k else Gc l k
def Cb (l:List Int):Nat:=Gc l l.length
theorem Q3 {l:List Int}(h:0<l.length):∀k,k<=l.length->Gc l k<l.length
 | 0,_=>h
 |k+1,hk=>by
  unfold Gc;split
  ·omega
  ·exact Q3 h k (by omega)
def GZ (mf:List Int->Int):Nat->List Int->List (Nat×Int)->List (Nat×Int)×Int
 | 0,_,_=>([],19)
 |k+1,l,out=>if l.getD (Cb l) 0=0 then(out,0)else if mf l=0 then([],7)else if out.length=256 then([],19)else GZ mf k (l.set (Cb l) (l.getD (Cb l) 0-mf l)) (out++[(Cb l,mf l)])
def Ge (p:Nat×Int):D:=.agg [i64 (p.1:Int),i64 p.2]
instance  (p:Nat×Int):AV (Ge p):=by unfold Ge;exact AJ
instance  (p:Nat×Int):AA (Ge p):=by unfold Ge;exact AJ
theorem Oq {l:List Int}{i:Nat}(h:i<l.length):(Bb l)[i]?=some (i64 (l.getD i 0)):=by
 rw[A7,Dj,BE h];rfl
theorem Y5 (a1 a2 a3 a4:D)[AA a1][AA a2][AA a3][AA a4](b:Bool)(cs:List D)[pc:AA (.sl b 1 cs)](ls:List Int)(hlen:ls.length=cs.length)(h0:cs≠[])(hl:cs.length<=1000000)
  (hc:∀(i:Nat) (c:D) (m:Int),cs[i]?=some c->ls[i]?=some m->AI C0 57 [c] (i64 m)) (hp:∀c∈cs,∃bb l,c=.sl bb 3 l/\AA c)
  (cK:AI C0 47 [.agg [a1,a2,a3,a4,.sl b 1 cs]] (i64 0))
  (mf:List Int->Int) (I:List Int->Prop) (hI0:I ls) (hI:∀l,I l->l.getD (Cb l) 0≠0->AI C0 49 [.agg [a1,a2,a3,a4,.sl b 1 cs],.sl false 1 (Bb l),i64 ((Cb l:Nat):Int)] (i64 (mf l))/\IntKind.i64.wrap (l.getD (Cb l) 0-mf l)=l.getD (Cb l) 0-mf l/\I (l.set (Cb l) (l.getD (Cb l) 0-mf l))):
  AI C0 11 [.agg [a1,a2,a3,a4,.sl b 1 cs]] (.tup [.sl false 2 ((GZ mf 257 ls []).1.map Ge),i64 (GZ mf 257 ls []).2]):=by
 refine Ag.walk w1 U7 rfl λF=>?_
 have e0:((0:Int) != 0)=false:=rfl;have cL:=λn=>ic a1 a2 a3 a4 b cs ls hlen h0 hl hc hp 0 (.agg [a1,a2,a3,a4,.sl b 1 cs]) n
 refine AH AZ e0 cK AB AB AB AB AB ?_;refine BD.own _ (cL _) ?_;rintro d H' n' ⟨g,rfl,rfl⟩;refine AH AZ kB AB AB AB AB AB AB ?_;obtain⟨N,hN⟩:∃N,ls.length=N:=⟨_,rfl⟩
 have hN0:0<N:=by rw[<-hN,hlen];exact List.length_pos_iff.2 h0
 have hN1:N<=1000000:=by omega
 rw[hN];clear cL cK hc hp;refine AC.ghost 2005 35 2 [(1,.optr 0 0 5 0 0),(5,.osl 2005 _ 2 0 0),(6,.osl 504 g 1 0 N)] ⟨.inl rfl,.inr ⟨rfl,rfl⟩,.inl rfl,trivial⟩ ?_;refine AC.loop (α:=List Int×List (Nat×Int)×Nat×Nat) (λp=>⟨[(1,.optr 0 0 5 0 0),(5,.osl 2005 p.2.2.1 2 0 p.2.1.length),(6,.osl 504 g 1 0 N)],[⟨2005,p.2.2.1,35,2,p.2.1.map Ge⟩,⟨504,g,3,1,Bb p.1⟩,⟨0,0,24,5,[.agg [a1,a2,a3,a4,.sl b 1 cs]]⟩],p.2.2.2⟩) (λp=>257-p.2.1.length)
  (λp=>p.1.length=N/\I p.1/\p.2.1.length<=256/\GZ mf (257-p.2.1.length) p.1 p.2.1=GZ mf 257 ls []) (ls,[],_,_) ⟨hN,hI0,BS _,rfl⟩ AK ?_
 rintro⟨l,out,go,n⟩ F ⟨hl1,hIl,ho,hR⟩;dsimp only at hl1 hIl ho hR⊢;obtain⟨OD,hOD⟩:∃O,out.map Ge=O:=⟨_,rfl⟩
 have hODl:OD.length=out.length:=by rw[<-hOD,Ak]
 rw[hOD];obtain⟨L,hL⟩:∃L,Bb l=L:=⟨_,rfl⟩
 have hLl:L.length=N:=by rw[<-hL,Ak,hl1]
 rw[hL];refine AH AZ kB AB AB AB AB AB AB ?_;refine AC.loop (α:=Nat×Nat) (λp=>⟨[(1,.optr 0 0 5 0 0),(5,.osl 2005 go 2 0 out.length),(6,.osl 504 g 1 0 N),(18,.osl 504 g 1 0 N),(19,i64 (N:Int)),(20,i64 (p.1:Int)),(7,i64 ((Gc l p.1:Nat):Int))],[⟨2005,go,35,2,OD⟩,⟨504,g,3,1,L⟩,⟨0,0,24,5,[.agg [a1,a2,a3,a4,.sl b 1 cs]]⟩],p.2⟩) (λp=>N-p.1) (λq=>q.1<=N) (0,_) (BS _) AK ?_;rintro⟨k,n⟩ F hk;dsimp only at hk⊢;rcases BG k N with h2|h2
 ·have e1:=Ca h2
  have wi:=Cc (i:=k) (by omega);have hm:=Oq (l:=l) (i:=k) (by omega);have hq:=Q3 (l:=l) (by omega) k (by omega);have hm2:=Oq hq;obtain⟨u,hu⟩:∃u,l.getD k 0=u:=⟨_,rfl⟩
  obtain⟨v,hv⟩:∃v,l.getD (Gc l k) 0=v:=⟨_,rfl⟩
  have hs:Gc l (k+1)=if v<u then k else Gc l k:=by rw[<-hu,<-hv];rfl
  rw[hu]at hm;rw[hv]at hm2;obtain⟨q,hq2⟩:∃q,Gc l k=q:=⟨_,rfl⟩
  rw[hq2]at hm2 hs hq⊢;rw[hL]at hm hm2
  by_cases hlt:v<u
  ·have e2:decide (u>v)=true:=AX hlt
   rw[AG hlt]at hs;refine AH AZ (CS e1 e2 wi kN BU hm hm2) AB AB AB AB AB AB ?_;refine⟨(k+1,n+1000),h2,by dsimp only;omega,?_⟩;dsimp only;rw[hs];exact AK
  ·have e2:decide (u>v)=false:=Ac hlt
   rw[AF hlt]at hs;refine AH AZ (CS e1 e2 wi kN BU hm hm2) AB AB AB AB AB AB ?_;refine⟨(k+1,n+1000),h2,by dsimp only;omega,?_⟩;dsimp only;rw[hs];exact AK
 have e1:=CZ h2
 have:k=N:=by omega
 subst this;have hq:=Q3 (l:=l) (by omega) k (by omega);have hm:=Oq hq;have hmI:Gc l k=Cb l:=by unfold Cb;rw[hl1]
 rw[hmI]at hq hm⊢;have hIm:=hI l hIl;have hRs:GZ mf (257-out.length) l out=if l.getD (Cb l) 0=0 then(out,0)else if mf l=0 then([],7)else if out.length=256 then([],19)else GZ mf (256-out.length) (l.set (Cb l) (l.getD (Cb l) 0-mf l)) (out++[(Cb l,mf l)]):=by
  rw[show 257-out.length=(256-out.length)+1 by omega];rfl
 rw[hR]at hRs;obtain⟨q,hq2⟩:∃q,Cb l=q:=⟨_,rfl⟩
 rw[hq2]at hq hm hIm hRs⊢;obtain⟨v,hv⟩:∃v,l.getD q 0=v:=⟨_,rfl⟩
 rw[hv]at hm hIm hRs;rw[hL]at hm
 by_cases hv0:v=0
 ·have e2:(v==0)=true:=by rw[hv0];rfl
  rw[AG hv0]at hRs;rw[hRs];refine AH AZ (CF e1 e2 kN BU hm) AB AB AB AB AB AB ?_;have hf:=G5 (H:=[⟨2005,go,35,2,OD⟩,⟨504,g,3,1,L⟩,⟨0,0,24,5,[.agg [a1,a2,a3,a4,.sl b 1 cs]]⟩]) (Hf:=[]) (k:=2005) (g:=go) (T:=35) (sz:=2) (l:=OD) rfl;rw[hODl]at hf;rw[hOD];have pO:AA (.sl false 2 OD):=by rw[<-hOD];exact AJ
  exact⟨_,Hb hf (.refl _),AA.out,rfl⟩
 rw[AF hv0]at hRs;have e2:(v==0)=false:=Bs.2 hv0;obtain⟨cM,wm,hI'⟩:=hIm hv0;obtain⟨m,hmm⟩:∃m,mf l=m:=⟨_,rfl⟩
 rw[hmm]at cM wm hI' hRs;have pL:AA (.sl false 1 (Bb l)):=AJ;rw[hL]at cM pL;have hfL:=G5 (H:=[⟨2005,go,35,2,OD⟩,⟨504,g,3,1,L⟩,⟨0,0,24,5,[.agg [a1,a2,a3,a4,.sl b 1 cs]]⟩]) (Hf:=[]) (k:=504) (g:=g) (T:=3) (sz:=1) (l:=L) rfl;rw[hLl]at hfL;refine AH AZ (CF e1 e2 kN BU hm) AB AB AB AB AB AB ?_;refine BD.own _ (MA (H:=[⟨2005,go,35,2,OD⟩,⟨504,g,3,1,L⟩,⟨0,0,24,5,[.agg [a1,a2,a3,a4,.sl b 1 cs]]⟩]) cM rfl (λi a d h1 h2=>by
  match i with
  | 0=>cases h1;cases h2;exact .refl _ _
  | 1=>cases h1;cases h2;exact .of hfL
  | 2=>cases h1;cases h2;exact .refl _ _
  |n+3=>cases h1) AJ (.prim _)) ?_
 rintro d H' n' ⟨rfl,rfl,rfl⟩
 by_cases hm0:m=0
 ·have e3:(m==0)=true:=by rw[hm0];rfl
  rw[AG hm0]at hRs;rw[hRs];refine AH AZ e3 AB AB AB AB AB AB ?_;exact⟨_,Hb (.nil 2) (.refl _),AA.out,rfl⟩
 rw[AF hm0]at hRs;have e3:(m==0)=false:=Bs.2 hm0
 by_cases h256:out.length=256
 ·have e4:((out.length:Int)==256)=true:=by rw[h256];rfl
  rw[AG h256]at hRs;rw[hRs];refine AH AZ (Aj e3 e4) AB AB AB AB AB AB ?_;exact⟨_,Hb (.nil 2) (.refl _),AA.out,rfl⟩
 rw[AF h256]at hRs;have e4:((out.length:Int)==256)=false:=Bs.2 (by omega);refine AH AZ (EM e3 e4 wm kN BU hm) AB AB AB AB AB AB ?_;have hle:out.length<256:=by omega
 refine⟨(l.set q (v-m),out++[(q,m)],n+1+1+1+1+1+1+1+1+1+1+1+1+1+1+1+1+1+1+1+1+1,n+1000),⟨by rw[DE];exact hl1,?_,by rw[Bh];exact hle,?_⟩,?_,?_⟩
 ·exact hI'
 ·dsimp only
  rw[hRs,Bh];rw[show 257-(out.length+[(q,m)].length)=256-out.length by simp only[Bo,HJ];omega]
 ·dsimp only
  rw[Bh];simp only[Bo,HJ];omega
 ·dsimp only
  rw[Bh,DA,hOD,CA (show OD.length<=out.length by omega)];rw[show Bb (l.set q (v-m))=L.set q (i64 (v-m))from by rw[<-hL];unfold Bb;rw[List.map_set]];exact AK
abbrev OQ:Dr:=[(8,[0,1,2,3,4,5,6,7,8],[9,10,11]),(9,[0,1,2,3,4,5,6,7],[8,9,10,11])]
open Go.Proofs Go.RowKit
set_option maxRecDepth 20000
set_option maxHeartbeats 4000000
def Ck (out:List AE)(x:AE):List AE:=match out.getLast? with
 |some y=>if Fk y x then out.dropLast++[y.w (y.mass+x.mass)]else out++[x]
 |none=>[x]
def Bl (l:List AE):List AE:=l.foldl Ck []
theorem jt {R:List AE}{y x:AE}(h:R[R.length-1]?=some y):Ck R x=if Fk y x then R.dropLast++[y.w (y.mass+x.mass)]else R++[x]:=by
 unfold Ck;rw[List.getLast?_eq_getElem?,h]
theorem nD {R:List AE}{y z:AE}(h:R[R.length-1]?=some y):R.set (R.length-1) z=R.dropLast++[z]:=by
 have hl:=(List.getElem?_eq_some_iff.1 h).1;rw[List.set_eq_take_append_cons_drop,AG hl,List.dropLast_eq_take];rw[show R.length-1+1=R.length by omega,IZ]
def NN (i:Nat)(R:List AE):Prop:=R.length<=i/\∀y∈R,0<=y.mass/\y.mass<=(i:Int)*1000000000/\y.shs.length<=1000000
theorem XA {i:Nat}{R:List AE}{x:AE}(hJ:NN i R)(hm:0<=x.mass/\x.mass<=1000000000/\x.shs.length<=1000000):NN (i+1) (Ck R x):=by
 obtain⟨h2,h3⟩:=hJ;refine⟨?_,?_⟩
 ·unfold Ck
  split
  ·split
   ·rw[Bh,List.length_dropLast];simp;omega
   ·rw[Bh];simp;omega
  ·simp
 ·have hR:∀y∈R,0<=y.mass/\y.mass<=((i+1:Nat):Int)*1000000000/\y.shs.length<=1000000:=λy hy=>by
   obtain⟨a,b,c⟩:=h3 y hy;exact⟨a,by omega,c⟩
  have hxx:0<=x.mass/\x.mass<=((i+1:Nat):Int)*1000000000/\x.shs.length<=1000000:=⟨by omega,by omega,hm.2.2⟩
  intro z hz;unfold Ck at hz;split at hz
  ·rename_i y hy
   have hyR:=List.mem_of_getLast? hy;split at hz
   ·rcases List.mem_append.1 hz with hz|hz
    ·exact hR z ((List.dropLast_sublist R).subset hz)
    ·obtain rfl:=List.mem_singleton.1 hz
     obtain⟨a,b,c⟩:=h3 y hyR;refine⟨?_,?_,c⟩
     ·show 0<=y.mass+x.mass;omega
     ·show y.mass+x.mass<=_;omega
   ·rcases List.mem_append.1 hz with hz|hz
    ·exact hR z hz
    ·obtain rfl:=List.mem_singleton.1 hz;exact hxx
  ·obtain rfl:=List.mem_singleton.1 hz;exact hxx
def DG (l:List AE):List AE:=l.filter λx=>x.mass != 0
theorem oM {l:List AE}{i:Nat}{x:AE}(h:l[i]?=some x)(hx:x.mass≠0):DG (l.take (i+1))=DG (l.take i)++[x]:=by
 unfold DG;rw[Di,h,List.filter_append]
 have:(x.mass != 0)=true:=by unfold bne;rw[Bs.2 hx];rfl
 rw[show(some x).toList=[x]from rfl,List.filter_cons,AG this];rfl
theorem oL {l:List AE}{i:Nat}{x:AE}(h:l[i]?=some x)(hx:x.mass=0):DG (l.take (i+1))=DG (l.take i):=by
 unfold DG;rw[Di,h,List.filter_append]
 have:¬(x.mass != 0)=true:=by rw[hx];decide
 rw[show(some x).toList=[x]from rfl,List.filter_cons,AF this];simp
theorem uu {l:List AE}(h:∀x∈l,1<=x.mass):DG l=l:=List.filter_eq_self.2 λx hx=>by
 have:=h x hx
 unfold bne;rw[Bs.2 (by omega)];rfl
theorem TZ (b:Bool)(l:List AE)(hl:l.length<=1000000)(hx:∀x∈l,0<=x.mass/\x.mass<=1000000000/\x.shs.length<=1000000):AI C0 62 [Am b l] (Am false (Bl (DG l))):=by
 refine Ag.walk w1 dh rfl λF=>?_
 have el:(((l.map AE.D).length:Nat):Int)=(l.length:Int):=by rw[Ak]
 refine sR 0 ?_;refine sR 100 ?_;refine AC.seq ?_;refine sZ 200 ?_;refine AT el ?_;refine AC.ghost 606 80 3 [(3,.osl 606 _ 3 0 0),(7,Am b l),(8,i64 (l.length:Int)),(9,i64 ((0:Nat):Int))] ⟨.inr ⟨rfl,rfl⟩,.inl rfl,.inl rfl,.inl rfl,trivial⟩ ?_;refine AC.block ?_;refine AC.loop (α:=Nat×List AE×Nat×Nat) (λp=>⟨[(3,.osl 606 p.2.2.1 3 0 p.2.1.length),(7,Am b l),(8,i64 (l.length:Int)),(9,i64 (p.1:Int))],[⟨606,p.2.2.1,80,3,p.2.1.map AE.D⟩],p.2.2.2⟩) (λp=>l.length-p.1) (λq=>q.1<=l.length/\q.2.1=(DG (l.take q.1)).foldl Ck []/\NN q.1 q.2.1) (0,[],_,_) ⟨BS _,rfl,Af _,λy h=>by cases h⟩ AK ?_;rintro⟨i,R,g,n⟩ F ⟨hi,hJ⟩;dsimp only at hi hJ⊢;rcases BG i l.length with h2|h2
 rotate_left
 ·have k1:=CZ h2
  have:i=l.length:=by omega
  subst this;have hR:=hJ.1;rw[DO]at hR;have hf:=G5 (H:=[⟨606,g,80,3,R.map AE.D⟩]) (Hf:=[]) (k:=606) (g:=g) (T:=80) (sz:=3) (l:=R.map AE.D) rfl;rw[Ak]at hf;refine AH OQ k1 AB AB AB AB AB AB ?_;exact⟨_,hf,AA.out,by rw[hR];rfl⟩
 have k1:=Ca h2;have wi:=Cc (i:=i) (by omega);obtain⟨x,hx'⟩:=CP h2;have hxm:=hx x (Av hx');have hm:(l.map AE.D)[i]?=some (.agg [str (sb x.grain),i64 x.mass,.sl false 2 (x.shs.map Ay.D)]):=by rw[A7,hx'];rfl
 have cO:=Oa x x.mass hxm.2.2
 by_cases hz:x.mass=0
 ·have g0:(x.mass==0)=true:=by rw[hz];rfl
  refine AH OQ (EM k1 g0 wi kN kT kF) hm AB AB AB AB AB ?_;exact⟨(i+1,R,g,n+1000),⟨h2,by dsimp only;rw[oL hx' hz];exact hJ.1,by dsimp only;have:=hJ.2.1;omega,λy hy=>by
   obtain⟨a,b,c⟩:=hJ.2.2 y hy;refine⟨a,?_,c⟩;dsimp only;omega⟩,by dsimp only;omega,AK⟩
 have hJ':Ck R x=(DG (l.take (i+1))).foldl Ck []/\NN (i+1) (Ck R x):=⟨by rw[oM hx' hz,List.foldl_append,<-hJ.1];rfl,XA hJ.2 hxm⟩
 have g0:(x.mass==0)=false:=Bs.2 hz;have hRl:(R.map AE.D).length=R.length:=Ak ..;have hRb:=hJ.2.1;rcases Dk R.length with hR0|hR0
 ·have hRn:R=[]:=E5 hR0
  subst hRn;have g1:decide (((0:Nat):Int)>0)=false:=rfl;unfold AE.D at cO;unfold DD at cO;obtain⟨S,hS⟩:∃S,x.shs.map Ay.D=S:=⟨_,rfl⟩
  have pS:AA (.sl false 2 S):=by rw[<-hS];exact AJ
  rw[hS]at cO hm;rw[HJ,List.map_nil];refine AH OQ (CS k1 g0 g1 wi kN kT kF) hm cO AB AB AB AB ?_;refine⟨(i+1,[x],n+1+1+1+1+1+1+1+1+1+1+1+1+12+1+1+1+1+1+1+1+1+1,n+1000),⟨h2,hJ'⟩,by dsimp only;omega,?_⟩;dsimp only;rw[show[x].map AE.D=[.agg [str (sb x.grain),i64 x.mass,.sl false 2 S]]from by rw[<-hS];rfl];exact AK
 have g1:decide ((R.length:Int)>0)=true:=AX (by omega);obtain⟨y,hy⟩:=CP (show R.length-1<R.length by omega);have hym:=hJ.2.2 y (Av hy);have w2:IntKind.i64.wrap ((R.length:Int)-1)=((R.length-1:Nat):Int):=by rw[wI (by omega) (by omega)];omega
 have w3:IntKind.i64.wrap (y.mass+x.mass)=y.mass+x.mass:=wI (by omega) (by omega);have hm2:(R.map AE.D)[R.length-1]?=some (.agg [str (sb y.grain),i64 y.mass,.sl false 2 (y.shs.map Ay.D)]):=by rw[A7,hy];rfl
 have cK:=nu y x hym.2.2 hxm.2.2;have hN:=jt (x:=x) hy;have hset:=nD (z:=y.w (y.mass+x.mass)) hy;unfold AE.D DD at cO cK;obtain⟨S,hS⟩:∃S,x.shs.map Ay.D=S:=⟨_,rfl⟩
 have pS:AA (.sl false 2 S):=by rw[<-hS];exact AJ
 obtain⟨SY,hSY⟩:∃S,y.shs.map Ay.D=S:=⟨_,rfl⟩
 have pSY:AA (.sl false 2 SY):=by rw[<-hSY];exact AJ
 rw[hS]at cO hm cK;rw[hSY]at cK hm2;obtain⟨RD,hRD⟩:∃T,R.map AE.D=T:=⟨_,rfl⟩
 rw[hRD]at hm2 hRl⊢;have hr:0<=((R.length-1:Nat):Int)/\((R.length-1:Nat):Int)<(R.length:Int):=by omega
 obtain⟨q,hq⟩:∃q,Fk y x=q:=⟨_,rfl⟩
 rw[hq]at cK hN;cases q
 ·rw[hN,AF Bool.false_ne_true]at hJ'
  refine AH OQ (CS k1 g0 g1 w2 wi kN (BW BU hm2 kT kF)) hm cO cK AB AB AB ?_;refine⟨(i+1,R++[x],n+1+1+1+1+1+1+1+1+1+1+1+1+12+1+1+1+1+1+1+1+1+1,n+1000),⟨h2,hJ'⟩,by dsimp only;omega,?_⟩;dsimp only;rw[Bh,DA,hRD,CA (show RD.length<=R.length by omega)];rw[show[x].map AE.D=[.agg [str (sb x.grain),i64 x.mass,.sl false 2 S]]from by rw[<-hS];rfl];exact AK
 ·rw[hN,AG rfl]at hJ'
  refine AH OQ (CS k1 g0 g1 w2 w3 wi (CF kN BU hm2 kT kF)) hm cO cK AB AB AB ?_;refine⟨(i+1,R.dropLast++[y.w (y.mass+x.mass)],g,n+1000),⟨h2,hJ'⟩,by dsimp only;omega,?_⟩;dsimp only;rw[<-hset,DE,List.map_set,hRD];rw[show(y.w (y.mass+x.mass)).D=.agg [str (sb y.grain),i64 (y.mass+x.mass),.sl false 2 SY]from by rw[<-hSY];rfl];exact AK
theorem W9 (b:Bool)(l:List AE)(hl:l.length<=1000000)(hx:∀x∈l,1<=x.mass/\x.mass<=1000000000/\x.shs.length<=1000000):AI C0 62 [Am b l] (Am false (Bl l)):=by
 have h:=TZ b l hl λx h=>⟨by have:=(hx x h).1;omega,(hx x h).2⟩
 rw[uu λx h=>(hx x h).1]at h;exact h
abbrev Gy:Dr:=[(11,[0,1,2,3,4,5,6,7,8,9,10,11,12,13],[14,15])]
open Go.Proofs Go.RowKit
set_option maxRecDepth 20000
set_option maxHeartbeats 4000000
theorem ZW {l:List Ay}:∀i,i<=l.length->(∀j,j<i->CV (Ff l j).part=0)->rk (Ew l i) (601*i+1)
 | 0,_,_=>(Zc 1 (Af _)).rk
 |i+1,hi,h=>(bS (ZW i (by omega) λj hj=>h j (by omega)) (Mn (h i (by omega)))).mono (by omega)
theorem oa {l:List Ay}{i:Nat}(h:FN l i=0):CV (Ff l i).part=0:=by
 unfold FN at h;split at h
 ·cases h
 split at h
 ·cases h
 split at h
 ·exact h
 ·rename_i h1;exact Decidable.not_not.1 h1
theorem yK (b:Bool)(l:List Ay)(hl:l.length<=15\/64<l.length)(hl2:l.length<=9223372036854775807)(hf:∀s∈l,s.few):AI C0 106 [DD b l] (i64 (Hh l:Nat)):=by
 refine Ag.walk w1 q9 rfl λF=>?_
 have el:(((l.map Ay.D).length:Nat):Int)=(l.length:Int):=by rw[Ak]
 have hC:Hh l=if l.length=0 then 2 else if 64<l.length then 5 else if Dh (FN l) l.length≠0 then Dh (FN l) l.length else if Ew l l.length=1 then 0 else 12:=rfl
 rcases Nat.decEq l.length 0 with h0|h0
 rotate_left
 ·rw[AG h0]at hC
  rw[hC];have q1:((l.length:Int)==0)=true:=by rw[h0];rfl
  refine AH Gy (Aj el q1) AB AB AB AB AB AB ?_;exact AL rfl AA.out
 rw[AF h0]at hC;have q1:((l.length:Int)==0)=false:=Bs.2 (by omega)
 by_cases h64:64<l.length
 ·rw[AG h64]at hC
  rw[hC];have q2:decide ((l.length:Int)>64)=true:=AX (by omega);refine AH Gy (As el q1 q2) AB AB AB AB AB AB ?_;exact AL rfl AA.out
 rw[AF h64]at hC;have q2:decide ((l.length:Int)>64)=false:=Ac (by omega);have h15:l.length<=15:=by omega
 refine AH Gy (As el q1 q2) AB AB AB AB AB AB ?_;refine AC.loop (α:=Nat×Nat) (λp=>⟨[(0,DD b l),(3,rR (Ew l p.1)),(4,i64 (p.1:Int))],[],p.2⟩) (λp=>l.length-p.1) (λp=>p.1<=l.length/\∀j,j<p.1->FN l j=0) (0,_)
  ⟨BS _,λj h=>Ae h (HN j)⟩ (by(dsimp only;rw[show rR (Ew l 0)=str ⟨#[48]⟩from pW];exact AK)) ?_
 rintro⟨i,m⟩ F ⟨hi,hz⟩;dsimp only at hi hz⊢;have hSk:=ZW (l:=l) i hi λj hj=>oa (hz j hj)
 rcases BG i l.length with h2|h2
 rotate_left
 ·have e1:=CZ h2
  have:i=l.length:=by omega
  subst this;rw[AF (λh=>h (LC hz))]at hC;have e2:=jT (Ew l l.length);obtain⟨q,hq⟩:∃q,decide (Ew l l.length=1)=q:=⟨_,rfl⟩
  rw[hq]at e2;unfold rR;cases q
  ·rw[AF (DN hq)]at hC
   rw[hC];refine AH Gy (As e1 el e2) AB AB AB AB AB AB ?_;exact AL rfl AA.out
  ·rw[AG (Cz hq)]at hC
   rw[hC];refine AH Gy (As e1 el e2) AB AB AB AB AB AB ?_;exact AL rfl AA.out
 have e1:=Ca h2;have wi:=Cc (i:=i) (by omega);obtain⟨s,hs⟩:=CP h2;have hm:(l.map Ay.D)[i]?=some (.agg [str (sb s.lot),str (sb s.part)]):=by rw[A7,hs];rfl
 obtain⟨f1,f2⟩:=hf s (Av hs);have hE:FN l i=if Db s.lot=false then 8 else if 0<i/\Ov s.lot (Ff l (i-1)).lot=true then 11 else if CV s.part≠0 then CV s.part else if Gq (CO s.part)<=0 then 12 else 0:=by unfold FN;rw[Jb hs]
 have hbad:∀e:Nat,e≠0->FN l i=e->Hh l=e:=λe he h=>by
  have:=OS hz h2 (by rw[h];exact he)
  rw[hC,this,h,AG he]
 have cN:=eJ s.lot (by omega);obtain⟨N,hN⟩:∃q,Db s.lot=q:=⟨_,rfl⟩
 rw[hN]at cN hE;cases N
 ·rw[AG rfl]at hE
  rw[hbad 8 (by decide) hE];refine AH Gy (As e1 el kN) hm cN AB AB AB AB ?_;exact AL rfl AA.out
 rw[AF (by decide)]at hE;have cC:=u6 s.part f2;rcases i with _|q
 ·have g0:decide (((0:Nat):Int)>0)=false:=rfl
  rw[AF (λh=>Ae h.1 (Nat.lt_irrefl 0))]at hE;rcases Nat.decEq (CV s.part) 0 with hc0|hc0
  ·rw[AG hc0]at hE
   have e3:=GO hc0;rw[hbad (CV s.part) hc0 hE];refine AH Gy (CF e1 el g0 kN e3) hm cN cC AB AB AB ?_;exact AL rfl AA.out
  rw[AF (λh=>h hc0)]at hE;have e3:=GP hc0;have cG:=bx (CO s.part) (Yw hc0);have cA:=fL (Ew l 0) (CO s.part) (601*0+1) 600 hSk (Mn hc0) (by omega);rw[Uk hc0]at cG cA;have hnext:Ew l (0+1)=Ew l 0+CO s.part:=by show _+CO (Ff l 0).part=_;rw[Jb hs]
  rw[<-hnext]at cA;obtain⟨sg,hsg⟩:∃q,Gq (CO s.part)=q:=⟨_,rfl⟩
  rw[hsg]at cG hE
  by_cases hs0:sg<=0
  ·rw[AG hs0]at hE
   have e4:decide (sg<=0)=true:=AX hs0;rw[hbad 12 (by decide) hE];refine AH Gy (EM e1 el g0 kN e3 e4) hm cN cC cG AB AB ?_;exact AL rfl AA.out
  rw[AF hs0]at hE;have e4:decide (sg<=0)=false:=Ac hs0;refine AH Gy (CS e1 el g0 kN e3 e4 wi) hm cN cC cG cA AB ?_;exact⟨(0+1,_),⟨h2,λj hj=>by
   rcases Nat.lt_succ_iff_lt_or_eq.1 hj with q|q
   ·exact hz j q
   ·rw[q];exact hE⟩,by dsimp only;omega,AK⟩
 ·have g0:decide (((q+1:Nat):Int)>0)=true:=AX (by omega)
  have g1:IntKind.i64.wrap (((q+1:Nat):Int)-1)=(q:Int):=by rw[wI (by omega) (by omega)];omega
  obtain⟨s0,hs0'⟩:=CP (l:=l) (i:=q) (by omega);have hm0:(l.map Ay.D)[q]?=some (.agg [str (sb s0.lot),str (sb s0.part)]):=by rw[A7,hs0'];rfl
  rw[IW,Jb hs0']at hE;obtain⟨bL,hbL⟩:∃q,Ov s.lot s0.lot=q:=⟨_,rfl⟩
  have g2:(Lu (sb s.lot) (sb s0.lot)||BJ (sb s.lot) (sb s0.lot))=bL:=hbL;rw[hbL]at hE;cases bL
  rotate_left
  ·rw[AG ⟨Nat.succ_pos q,rfl⟩]at hE
   rw[hbad 11 (by decide) hE];refine AH Gy (EM e1 el g0 g1 g2 kN) hm hm0 cN AB AB AB ?_;exact AL rfl AA.out
  rw[AF (λh=>Ae h.2 (by decide))]at hE;rcases Nat.decEq (CV s.part) 0 with hc0|hc0
  ·rw[AG hc0]at hE
   have e3:=GO hc0;rw[hbad (CV s.part) hc0 hE];refine AH Gy (CS e1 el g0 g1 g2 kN e3) hm hm0 cN cC AB AB ?_;exact AL rfl AA.out
  rw[AF (λh=>h hc0)]at hE;have e3:=GP hc0;have cG:=bx (CO s.part) (Yw hc0);have cA:=fL (Ew l (q+1)) (CO s.part) (601*(q+1)+1) 600 hSk (Mn hc0) (by omega);rw[Uk hc0]at cG cA;have hnext:Ew l ((q+1)+1)=Ew l (q+1)+CO s.part:=by show _+CO (Ff l (q+1)).part=_;rw[Jb hs]
  rw[<-hnext]at cA;obtain⟨sg,hsg⟩:∃q,Gq (CO s.part)=q:=⟨_,rfl⟩
  rw[hsg]at cG hE
  by_cases hs0:sg<=0
  ·rw[AG hs0]at hE
   have e4:decide (sg<=0)=true:=AX hs0;rw[hbad 12 (by decide) hE];refine AH Gy (CS e1 el g0 g1 g2 kN (Aj e3 e4)) hm hm0 cN cC cG AB ?_;exact AL rfl AA.out
  rw[AF hs0]at hE;have e4:decide (sg<=0)=false:=Ac hs0;refine AH Gy (CS e1 el g0 g1 g2 kN (As e3 e4 wi)) hm hm0 cN cC cG cA ?_;exact⟨((q+1)+1,_),⟨h2,λj hj=>by
   rcases Nat.lt_succ_iff_lt_or_eq.1 hj with q|q
   ·exact hz j q
   ·rw[q];exact hE⟩,by dsimp only;omega,AK⟩
theorem yA (x:AE)(hs:x.shs.length<=15\/64<x.shs.length)(hf:x.few):AI C0 66 [x.D] (i64 (CW x:Nat)):=by
 refine Ag.walk w1 xQ rfl λF=>?_
 obtain⟨f1,f2,f3⟩:=hf;have cN:=eJ x.grain (by omega);have cS:=yK false x.shs hs f2 f3;have hC:CW x=if Db x.grain=false then 8 else if x.mass<1\/x.mass>999999999 then 3 else Hh x.shs:=rfl
 obtain⟨N,hN⟩:∃q,Db x.grain=q:=⟨_,rfl⟩
 obtain⟨SD,hSD⟩:∃d,DD false x.shs=d:=⟨_,rfl⟩
 have pS:AA SD:=by rw[<-hSD];exact AJ
 have hna:JZ SD=true:=by rw[<-hSD];rfl
 unfold AE.D;rw[hN]at cN hC;rw[hSD]at cS⊢;cases N
 ·rw[AG rfl]at hC
  rw[hC];refine AH AZ kB cN AB AB AB AB AB ?_;exact AL rfl AA.out
 rw[AF (by decide)]at hC
 by_cases h1:x.mass<1
 ·rw[AG (.inl h1)]at hC
  rw[hC];have e1:decide (x.mass<1)=true:=AX h1;refine AH AZ e1 cN AB AB AB AB AB ?_;exact AL rfl AA.out
 have e1:decide (x.mass<1)=false:=Ac h1
 by_cases h2:x.mass>999999999
 ·rw[AG (.inr h2)]at hC
  rw[hC];have e2:decide (x.mass>999999999)=true:=AX h2;refine AH AZ (Aj e1 e2) cN AB AB AB AB AB ?_;exact AL rfl AA.out
 have e2:decide (x.mass>999999999)=false:=Ac h2;rw[AF (by omega)]at hC;rw[hC];refine AH AZ (As e1 e2 hna) cN cS AB AB AB AB ?_;exact AL rfl AA.out
def Ho (lot:List UInt8)(r:Rat):By->By
 | []=>[(lot,r)]
 |p::l=>if ltStr p.1 lot then p::Ho lot r l else if p.1=lot then(p.1,p.2+r)::l else(lot,r)::p::l
def L5 (x:AE)(n:Nat)(q:By):By:=(x.shs.take n).foldl (λacc s=>Ho s.lot (CO s.part*(x.mass:Rat)) acc) q
def Kj (l:List AE):By:=l.foldl (λacc x=>L5 x x.shs.length acc) []
theorem jy (x:AE)(n:Nat)(q:By){s:Ay}(h:x.shs[n]?=some s):L5 x (n+1) q=Ho s.lot (CO s.part*(x.mass:Rat)) (L5 x n q):=by
 unfold L5;rw[Di,h,List.foldl_append];rfl
theorem ij (l:List AE)(n:Nat){x:AE}(h:l[n]?=some x):Kj (l.take (n+1))=L5 x x.shs.length (Kj (l.take n)):=by
 unfold Kj;rw[Di,h,List.foldl_append];rfl
abbrev Gv (q:By):Prop:=q.Pairwise λa b=>ltStr a.1 b.1=true
theorem Gv.nd {q:By}(h:Gv q):(Cn q).Nodup:=by
 rw[Cn,List.Nodup,List.pairwise_map];exact h.imp λ{a b} h e=>by rw[e,swo_ltStr.irrefl]at h;cases h
theorem QF {lot:List UInt8}{o v:Rat}:∀ {q:By},Fl lot q=some o->∃A B,q=A++(lot,o)::B/\GQ lot v q=A++(lot,v)::B
 | [],h=>by simp[Fl]at h
 |p::l,h=>by
  unfold Fl at h;unfold GQ;split at h
  ·rename_i e
   cases h;rw[AG e];exact⟨[],l,by rw[e];rfl,rfl⟩
  ·rename_i e
   rw[AF e];obtain⟨A,B,h1,h2⟩:=QF (v:=v) h;exact⟨p::A,B,by rw[h1];rfl,by rw[h2];rfl⟩
theorem TC {lot:List UInt8}{v:Rat}:∀ {q:By},Fl lot q=none->lot∉Cn q/\GQ lot v q=q++[(lot,v)]
 | [],_=>⟨by simp[Cn],rfl⟩
 |p::l,h=>by
  unfold Fl at h;unfold GQ;split at h
  ·cases h
  ·rename_i e
   rw[AF e];obtain⟨h1,h2⟩:=TC (v:=v) h;exact⟨λq=>by
    rcases A8.1 q with q|q
    ·exact e q
    ·exact h1 q,by rw[h2];rfl⟩
theorem YO {lot:List UInt8}{r:Rat}:∀ {Q:By},Gv Q->(∃A o B,Q=A++(lot,o)::B/\Ho lot r Q=A++(lot,o+r)::B)\/(lot∉Cn Q/\∃A B,Q=A++B/\Ho lot r Q=A++(lot,r)::B)
 | [],_=>.inr ⟨by simp[Cn],[],[],rfl,rfl⟩
 |p::l,h=>by
  have hp:=Dz.1 h;unfold Ho;split
  ·rename_i e
   rcases YO (lot:=lot) (r:=r) hp.2 with⟨A,o,B,h1,h2⟩|⟨h0,A,B,h1,h2⟩
   ·exact .inl ⟨p::A,o,B,by rw[h1];rfl,by rw[h2];rfl⟩
   ·refine .inr ⟨λq=>?_,p::A,B,by rw[h1];rfl,by rw[h2];rfl⟩
    rcases A8.1 q with q|q
    ·rw[show p.1=lot from q.symm,swo_ltStr.irrefl]at e;cases e
    ·exact h0 q
  ·rename_i e
   split
   ·rename_i e2
    exact .inl ⟨[],p.2,l,by rw[<-e2];rfl,by rw[e2];rfl⟩
   ·rename_i e2
    refine .inr ⟨λq=>?_,[],p::l,rfl,rfl⟩;rcases A8.1 q with q|q
    ·exact e2 q.symm
    ·obtain⟨z,hz,rfl⟩:=List.mem_map.1 q
     exact e (hp.1 z hz)
theorem XX {lot:List UInt8}{r:Rat}:∀ {Q:By},∀z∈Ho lot r Q,z.1=lot\/z.1∈Cn Q
 | [],z,hz=>by
  unfold Ho at hz;rw[List.mem_singleton]at hz;exact .inl (by rw[hz])
 |p::l,z,hz=>by
  unfold Ho at hz;split at hz
  ·rcases A8.1 hz with rfl|hz
   ·exact .inr B9
   ·rcases XX z hz with h|h
    ·exact .inl h
    ·exact .inr (CD _ h)
  ·split at hz
   ·rcases A8.1 hz with rfl|hz
    ·exact .inr B9
    ·exact .inr (CD _ (List.mem_map_of_mem hz))
   ·rcases A8.1 hz with rfl|hz
    ·exact .inl rfl
    ·exact .inr (List.mem_map_of_mem hz)
theorem ZF {lot:List UInt8}{r:Rat}:∀ {Q:By},Gv Q->Gv (Ho lot r Q)
 | [],_=>List.pairwise_singleton _ _
 |p::l,h=>by
  have hp:=Dz.1 h;unfold Ho;split
  ·rename_i e
   refine Dz.2 ⟨λz hz=>?_,ZF hp.2⟩;rcases XX z hz with h|h
   ·rw[h];exact e
   ·obtain⟨y,hy,h2⟩:=List.mem_map.1 h
    rw[<-h2];exact hp.1 y hy
  ·rename_i e
   split
   ·exact Dz.2 ⟨hp.1,hp.2⟩
   ·rename_i e2
    have e3:ltStr lot p.1=true:=by
     cases h9:ltStr lot p.1 with
     |true=>rfl
     |false=>exact Ae (Wy (by simpa using e) h9) e2
    refine Dz.2 ⟨λz hz=>?_,h⟩;rcases A8.1 hz with rfl|hz
    ·exact e3
    ·exact swo_ltStr.trans _ _ _ e3 (hp.1 z hz)
theorem nl {Q q:By}(hs:Gv Q)(hp:Q.Perm q)(lot:List UInt8)(r:Rat):(Ho lot r Q).Perm (Js lot r q):=by
 have hnd:(Cn Q).Nodup:=hs.nd;unfold Js;rcases YO (lot:=lot) (r:=r) hs with⟨A,o,B,h1,h2⟩|⟨h0,A,B,h1,h2⟩
 ·have hm:(lot,o)∈q:=hp.mem_iff.1 (by rw[h1];simp)
  have hqn:(Cn q).Nodup:=(hp.map _).nodup_iff.1 hnd;have hlk:=Sz hqn hm;dsimp only at hlk;rw[hlk];dsimp only;obtain⟨A2,B2,h3,h4⟩:=QF (v:=r+o) hlk;rw[h2,h4];have p1:(A++(lot,o)::B).Perm ((lot,o)::(A++B)):=HK;have p2:(A2++(lot,o)::B2).Perm ((lot,o)::(A2++B2)):=HK;have p3:(A++B).Perm (A2++B2):=by
   rw[h1,h3]at hp;exact List.Perm.cons_inv (p1.symm.trans (hp.trans p2))
  rw[Rat.add_comm o r];exact HK.trans ((p3.cons _).trans HK.symm)
 ·have hn:Fl lot q=none:=by
   cases h9:Fl lot q with
   |none=>rfl
   |some o=>
    obtain⟨A2,B2,h3,-⟩:=QF (v:=o) h9;exact Ae ((hp.map (·.1)).mem_iff.2 (by rw[h3];simp)) h0
  rw[hn];dsimp only;rw[(TC (v:=r) hn).2,h2];rw[h1]at hp;exact HK.trans ((hp.cons _).trans (List.perm_append_singleton _ _).symm)
theorem ZG {Q q:By}(hs:Gv Q)(hp:Q.Perm q)(x:AE):∀j,j<=x.shs.length->Gv (L5 x j Q)/\(L5 x j Q).Perm (GH x j q)
 | 0,_=>⟨hs,hp⟩
 |j+1,hj=>by
  obtain⟨s,hsj⟩:∃s,x.shs[j]?=some s:=⟨_,BE hj⟩
  obtain⟨h1,h2⟩:=ZG hs hp x j (by omega);rw[jy x j Q hsj,Nq x j q hsj];exact⟨ZF h1,nl h1 h2 _ _⟩
theorem TX (l:List AE):∀i,i<=l.length->Gv (Kj (l.take i))/\(Kj (l.take i)).Perm (CH (l.take i))
 | 0,_=>⟨List.Pairwise.nil,.refl _⟩
 |i+1,hi=>by
  obtain⟨x,hx⟩:∃x,l[i]?=some x:=⟨_,BE hi⟩
  obtain⟨h1,h2⟩:=TX l i (by omega);rw[ij l i hx,Px l i hx];exact ZG h1 h2 x _ (Af _)
theorem Gv.weak {q:By}(h:Gv q):q.Pairwise λa b=>ltStr b.1 a.1=false:=h.imp λ{a b} h=>by
 cases h9:ltStr b.1 a.1 with
 |false=>rfl
 |true=>have:=swo_ltStr.trans _ _ _ h h9;rw[swo_ltStr.irrefl]at this;cases this
theorem YR (l:List AE):Kj l=FK (CH l):=by
 obtain⟨h1,h2⟩:=TX l l.length (Af _);rw[DO]at h1 h2;exact Sh ((h2.map _).nodup_iff.1 h1.nd) h2 (KF _) h1.weak (Qt _)
theorem lh (l:List AE):Gv (Kj l):=by
 obtain⟨h1,-⟩:=TX l l.length (Af _)
 rwa [DO]at h1
def Ds (g:List UInt8)(x:AE):AE:=⟨g,x.mass,x.shs⟩
def HA (l:List AE)(g:List UInt8):Nat:=if Br l≠0 then Br l else if Db g=false then 8 else if l.length=0 then 13 else 0
def IK (l:List AE)(g:List UInt8):Nat:=if HA l g≠0 then HA l g else Gm (l.map (Ds g))
def Lt (l:List AE)(g:List UInt8):AE:=if HA l g≠0 then⟨[],0,[]⟩else Kr (l.map (Ds g))
theorem p9 (g:List UInt8){l:List AE}{i:Nat}{x:AE}(hx:l[i]?=some x):
  (((l.take i).map (Ds g)++l.drop i).map AE.D).set i (.agg [str (sb g),i64 x.mass,.sl false 2 (x.shs.map Ay.D)])=((l.take (i+1)).map (Ds g)++l.drop (i+1)).map AE.D:=by
 have hi:=(List.getElem?_eq_some_iff.1 hx).1;have hd:l.drop i=x::l.drop (i+1):=by
  rw[EK hi,(List.getElem?_eq_some_iff.1 hx).2]
 rw[Di,hx,hd];simp only[DA,Cq,Option.toList_some,List.map_nil,DZ,Ek,Ft];rw[NV _ _ (by simp;omega)]
 have:i-(((l.take i).map (Ds g)).map AE.D).length=0:=by simp;omega
 rw[this];rfl
theorem eV (b:Bool)(l:List AE)(g:List UInt8)(hl:l.length<=1000000)(hf:∀x∈l,x.lite)(hg:g.length<=100000):AI C0 42 [Am b l,str (sb g)] (.tup [(Lt l g).D,i64 (IK l g:Nat)]):=by
 refine Ag.walk w1 dL rfl λF=>?_
 have el:(((l.map AE.D).length:Nat):Int)=(l.length:Int):=by rw[Ak]
 have cP:=NG b l (by omega) λx hx=>(hf x hx).1
 have cN:=Qp g;have hN:IK l g=if HA l g≠0 then HA l g else Gm (l.map (Ds g)):=rfl
 have hL:Lt l g=if HA l g≠0 then⟨[],0,[]⟩else Kr (l.map (Ds g)):=rfl
 have hE:HA l g=if Br l≠0 then Br l else if Db g=false then 8 else if l.length=0 then 13 else 0:=rfl
 obtain⟨K,hK⟩:∃K,Db g=K:=⟨_,rfl⟩
 have cW1:=G7 (!K) 8;have cW2:=G7 ((l.length:Int)==0) 13;have cF:AI C0 54 [.sl true 1 [i64 (Br l:Nat),i64 (if !K then 8 else 0),i64 (if(l.length:Int)==0 then 13 else 0)]] (i64 (HA l g:Nat)):=by
  have:=Lh [(Br l:Int),if !K then 8 else 0,if(l.length:Int)==0 then 13 else 0] (by simp)
  have he:ES [(Br l:Int),if !K then 8 else 0,if(l.length:Int)==0 then 13 else 0]=((HA l g:Nat):Int):=by
   rw[hE,hK]
   by_cases h1:Br l=0<;>cases K<;>by_cases h3:l.length=0<;>simp[ES,h1,h3]
  rw[he]at this;exact this
 rw[hK]at cN;rcases Nat.decEq (HA l g) 0 with g0|g0
 ·have e1:=GO g0
  rw[AG g0]at hN hL;rw[hN,hL];refine AH AZ (Aj el e1) cP cN cW1 cW2 cF AB ?_;exact⟨_,OJ _ _,AA.out,rfl⟩
 have e1:=GP g0;rw[AF (λh=>h g0)]at hN hL;rw[hN,hL];have h0:l≠[]:=λh=>by
  rw[hE]at g0;split at g0
  ·rename_i h9;exact h9 g0
  ·split at g0
   ·cases g0
   ·split at g0
    ·cases g0
    ·rename_i h9;exact h9 (by rw[h];rfl)
 refine AH AZ (Aj el e1) cP cN cW1 cW2 cF AB ?_;refine BD.own _ (lI b l hl h0 _ _) ?_;rintro d H' n' ⟨gk,rfl,rfl,rfl⟩;refine AH AZ kB AB AB AB AB AB AB ?_;refine AC.loop (α:=Nat×Nat) (λp=>⟨[(1,str (sb g)),(4,.optr 0 0 3 0 0),(7,.osl 302 gk 3 0 l.length),(28,i64 (l.length:Int)),(29,i64 (p.1:Int))],[⟨302,gk,80,3,((l.take p.1).map (Ds g)++l.drop p.1).map AE.D⟩,⟨0,0,80,3,[.agg [.prim (.string ⟨#[]⟩),.prim (.int .i64 0),.prim (.slice none 0 0)]]⟩],p.2⟩) (λp=>l.length-p.1)
  (λp=>p.1<=l.length) (0,_) (BS _) AK ?_
 rintro⟨i,n⟩ F hi;dsimp only at hi⊢;rcases BG i l.length with h2|h2
 rotate_left
 ·have e1:=CZ h2
  have:i=l.length:=by omega
  subst this;rw[DO,IZ,C3];have hlr:(l.map (Ds g)).length=l.length:=Ak ..;have hfr:∀x∈l.map (Ds g),x.lite:=λx hx=>by
   obtain⟨y,hy,rfl⟩:=List.mem_map.1 hx;obtain⟨⟨a1,a2,a3⟩,a4⟩:=hf y hy;exact⟨⟨hg,a2,a3⟩,a4⟩
  have cM:=xw false (l.map (Ds g)) (by rw[hlr];exact hl) hfr;obtain⟨R,hR⟩:∃R,l.map (Ds g)=R:=⟨_,rfl⟩
  rw[hR]at cM hlr⊢;obtain⟨Z,hZ⟩:∃Z:AE,Kr R=Z:=⟨_,rfl⟩
  rw[hZ]at cM⊢;refine AH AZ e1 AB AB AB AB AB AB ?_;have hfz:Fz [⟨302,gk,80,3,R.map AE.D⟩,⟨0,0,80,3,[.agg [.prim (.string ⟨#[]⟩),.prim (.int .i64 0),.prim (.slice none 0 0)]]⟩] [⟨0,0,80,3,[.agg [.prim (.string ⟨#[]⟩),.prim (.int .i64 0),.prim (.slice none 0 0)]]⟩] (.osl 302 gk 3 0 l.length) (Am false R):=by
   have:=G5 (H:=[⟨302,gk,80,3,R.map AE.D⟩,⟨0,0,80,3,[.agg [.prim (.string ⟨#[]⟩),.prim (.int .i64 0),.prim (.slice none 0 0)]]⟩]) (Hf:=[⟨0,0,80,3,[.agg [.prim (.string ⟨#[]⟩),.prim (.int .i64 0),.prim (.slice none 0 0)]]⟩]) (k:=302) (g:=gk) (T:=80) (sz:=3) (l:=R.map AE.D) rfl
   rwa [Ak,hlr]at this
  refine BD.own _ (PK [⟨0,0,80,3,[.agg [.prim (.string ⟨#[]⟩),.prim (.int .i64 0),.prim (.slice none 0 0)]]⟩] cM (.drop (.keep .nil)) ⟨hfz,trivial⟩ AJ) ?_;rintro d H2 n2 ⟨rfl,rfl,rfl⟩;unfold AE.D;refine AH AZ kB AB AB AB AB AB AB ?_;exact AL rfl AA.out
 have e1:=Ca h2;have wi:=Cc (i:=i) (by omega);obtain⟨x,hx⟩:=CP h2;obtain⟨es,hes⟩:∃es,((l.take i).map (Ds g)++l.drop i).map AE.D=es:=⟨_,rfl⟩
 rw[hes];have hm:es[i]?=some (.agg [str (sb x.grain),i64 x.mass,.sl false 2 (x.shs.map Ay.D)]):=by
  rw[<-hes,A7,E6 (by simp;omega)];simp only[Ak,Ba,E8 (J3 h2),Nat.sub_self,HQ,DX,hx,JI];rfl
 refine sZ 600 ?_;refine AD e1 ?_;refine AC.seq ?_;refine AM ?_;refine An ?_;refine AC.seq ?_;refine AC.block ?_;refine sZ 700 ?_;refine AD kB ?_;refine Ao w1 800 (by kernel_rfl) ?_;refine AD (As kN BU hm) ?_;have hset:es.set i (.agg [str (sb g),i64 x.mass,.sl false 2 (x.shs.map Ay.D)])=((l.take (i+1)).map (Ds g)++l.drop (i+1)).map AE.D:=by
  rw[<-hes];exact p9 g hx
 rw[hset];refine AH AZ wi AB AB AB AB AB AB ?_;exact⟨(i+1,_),h2,by dsimp only;omega,AK⟩
theorem mz {g:List UInt8}(hg:g.length<=100000){l:List AE}(hf:∀x∈l,x.lite):∀x∈l.map (Ds g),x.lite:=λx hx=>by
 obtain⟨y,hy,rfl⟩:=List.mem_map.1 hx;obtain⟨⟨a1,a2,a3⟩,a4⟩:=hf y hy;exact⟨⟨hg,a2,a3⟩,a4⟩
theorem oA {l:List AE}(h:Gm l=0):HE l=0/\(CH l).length<=64/\∀p∈FK (CH l),Do (p.2/(Al l:Rat))=false:=by
 unfold Gm at h;split at h
 ·rename_i h9;exact Ae h h9
 ·split at h
  ·cases h
  ·split at h
   ·cases h
   ·rename_i h1 h2 h3
    refine⟨by omega,by omega,λp hp=>?_⟩
    have:=List.any_eq_false.1 ((Bool.not_eq_true _).mp h3) p hp
    exact(Bool.not_eq_true _).mp this
theorem ZA {l:List AE}(h:Gm l=0):Kr l=⟨(CG l 0).grain,Al l,Ej l⟩:=by
 unfold Kr;rw[AF (λq=>q h)]
theorem n9 {l:List UInt8}(h:CV l=0):l.length<=100000:=by
 obtain⟨-,h2,h3,-⟩:=QL h;have h4:(Bz l).length<=(B0 l).length+1:=by
  unfold B0 Bn;split
  ·simp;omega
  ·omega
 unfold Bz BY at*;rw[Ba]at h4;rw[Dq]at h3;omega
theorem oB {l:List AE}(hf:∀x∈l,x.lite)(h:Gm l=0):(Ej l).length<=64/\∀s∈Ej l,s.lot.length<=1000/\s.part.length<=100000/\CV s.part=0/\rk (CO s.part) 600:=by
 obtain⟨h1,h2,h3⟩:=oA h;obtain⟨g1,g2,g3,g4,g5⟩:=Y9 h1;obtain⟨hx,hK⟩:=Wx hf g3 g2;refine⟨by unfold Ej;rw[Ak,(KF _).length_eq];exact h2,λs hs=>?_⟩;unfold Ej at hs;obtain⟨p,hp,rfl⟩:=List.mem_map.1 hs;have hc:=na (h3 p hp);refine⟨hK.all p.1 (List.mem_map_of_mem ((KF _).mem_iff.1 hp)),?_,hc,Mn hc⟩;exact n9 hc
def Fm (l:List AE)(left:Int):AE:=⟨(CG l 0).grain,Al l-left,Ej (l.map (Ds (CG l 0).grain))⟩
def JC (l:List AE)(left:Int):Nat:=if Br l≠0 then Br l else if left<1 then 3 else if Al l<left then 13 else if CJ l=false then 16 else if IK l (CG l 0).grain≠0 then IK l (CG l 0).grain
 else if Al l=left then 0 else IL (CH [Fm l left])
def R8 (l:List AE)(left:Int):AE:=if JC l left≠0 then⟨[],0,[]⟩else⟨(CG l 0).grain,left,Ej (l.map (Ds (CG l 0).grain))⟩
def R7 (l:List AE)(left:Int):By:=if JC l left≠0 then[]else if Al l=left then[]else Je (CH [Fm l left])
theorem MT {H:Hp}{a a' b b' c:D}(h1:Fz H [] a a')(h2:Fz H [] b b'):Fz H [] (.tup [a,b,c]) (.tup [a',b',c]):=.tup rfl λi d d' h h'=>by
 match i with
 | 0=>cases h;cases h';exact h1
 | 1=>cases h;cases h';exact h2
 | 2=>cases h;cases h';exact .refl _
 |n+3=>cases h
theorem Rf (H:Hp):Fz H [] (.agg [str ⟨#[]⟩,i64 0,CM]) (⟨[],0,[]⟩:AE).D:=.agg rfl λi d d' h h'=>by
 match i with
 | 0=>cases h;cases h';exact .refl _
 | 1=>cases h;cases h';exact .refl _
 | 2=>cases h;cases h';exact .nil 2
 |n+3=>cases h
theorem pI (b:Bool)(l:List AE)(left:Int)(hl:l.length<=1000000)(hf:∀x∈l,x.lite):AI C0 44 [Am b l,i64 left] (.tup [(R8 l left).D,.sl false 2 ((R7 l left).map Ci),i64 (JC l left:Nat)]):=by
 refine Ag.walk w1 dX rfl λF=>?_
 have cP:=NG b l (by omega) λx hx=>(hf x hx).1
 have hE:JC l left=if Br l≠0 then Br l else if left<1 then 3 else if Al l<left then 13 else if CJ l=false then 16 else if IK l (CG l 0).grain≠0 then IK l (CG l 0).grain
  else if Al l=left then 0 else IL (CH [Fm l left]):=rfl
 have hX:R8 l left=if JC l left≠0 then⟨[],0,[]⟩else⟨(CG l 0).grain,left,Ej (l.map (Ds (CG l 0).grain))⟩:=rfl
 have hL:R7 l left=if JC l left≠0 then[]else if Al l=left then[]else Je (CH [Fm l left]):=rfl
 have cW1:=G7 (decide (left<1)) 3;obtain⟨E0,hE0⟩:∃e:Nat,(if Br l≠0 then Br l else if left<1 then 3 else 0)=e:=⟨_,rfl⟩
 have cF0:AI C0 54 [.sl true 1 [i64 (Br l:Nat),i64 (if decide (left<1)then 3 else 0)]] (i64 (E0:Nat)):=by
  have:=Lh [(Br l:Int),if decide (left<1)then 3 else 0] (by simp)
  have he:ES [(Br l:Int),if decide (left<1)then 3 else 0]=((E0:Nat):Int):=by
   rw[<-hE0]
   by_cases h1:Br l=0<;>by_cases h2:left<1<;>simp[ES,h1,h2]
  rw[he]at this;exact this
 rcases Nat.decEq E0 0 with g0|g0
 ·have e1:=GO g0
  have hE2:JC l left=E0:=by
   rw[hE,<-hE0];split
   ·rfl
   ·rename_i h1
    rw[<-hE0,AF h1]at g0;split
    ·rfl
    ·rename_i h2;exact Ae (AF h2) g0
  rw[hE2]at hX hL⊢;rw[AG g0]at hX hL;rw[hX,hL];refine AH AZ e1 cP cW1 cF0 AB AB AB ?_;exact⟨_,MT (Rf _) (.nil 2),AA.out,rfl⟩
 have e1:=GP g0;have hp0:Br l=0:=by
  apply DT;intro h;rw[AG h]at hE0;omega
 have hl1:¬left<1:=λh=>by
  rw[AF (λq=>q hp0),AG h]at hE0;omega
 rw[AF (λh=>h hp0),AF hl1]at hE;obtain⟨p1,p2,p3⟩:=Ka hp0;have hsm:IF l:=⟨by omega,λx hx=>by have:=OE (p2 x hx);omega⟩
 have cT:=Zt b l hsm;have cG:=XU b l hl;have cW2:=G7 (decide (Al l<left)) 13;obtain⟨E1,hE1⟩:∃e:Nat,(if Al l<left then 13 else if CJ l=false then 16 else 0)=e:=⟨_,rfl⟩
 have cF1:AI C0 54 [.sl true 1 [i64 (if decide (Al l<left)then 13 else 0),i64 (if CJ l then 0 else 16:Nat)]] (i64 (E1:Nat)):=by
  have:=Lh [if decide (Al l<left)then 13 else 0,((if CJ l then 0 else 16:Nat):Int)] (by simp)
  have he:ES [if decide (Al l<left)then 13 else 0,((if CJ l then 0 else 16:Nat):Int)]=((E1:Nat):Int):=by
   rw[<-hE1]
   by_cases h1:Al l<left<;>cases CJ l<;>simp[ES,h1]
  rw[he]at this;exact this
 rcases Nat.decEq E1 0 with g1|g1
 ·have e2:=GO g1
  have hE2:JC l left=E1:=by
   rw[hE,<-hE1];split
   ·rfl
   ·rename_i h1
    rw[<-hE1,AF h1]at g1;split
    ·rfl
    ·rename_i h2;exact Ae (AF h2) g1
  rw[hE2]at hX hL⊢;rw[AG g1]at hX hL;rw[hX,hL];refine AH AZ e1 cP cW1 cF0 AB AB AB ?_;refine AH AZ e2 cT cW2 cG cF1 AB AB ?_;exact⟨_,MT (Rf _) (.nil 2),AA.out,rfl⟩
 have e2:=GP g1;have hs1:¬Al l<left:=λh=>by
  rw[AG h]at hE1;omega
 have hs2:¬CJ l=false:=λh=>by
  rw[AF hs1,AG h]at hE1;omega
 rw[AF hs1,AF hs2]at hE;have hl0:0<l.length:=by
  rcases l with _|⟨y,l⟩
  ·exfalso;apply hs1
   show(0:Int)<left;omega
  ·simp
 obtain⟨x0,hx0⟩:∃x,l[0]?=some x:=⟨_,BE hl0⟩
 have hm0:(l.map AE.D)[0]?=some (.agg [str (sb x0.grain),i64 x0.mass,.sl false 2 (x0.shs.map Ay.D)]):=by rw[A7,hx0];rfl
 have hgr:(CG l 0).grain=x0.grain:=by rw[FS hx0]
 have hg9:=(hf x0 (Av hx0)).1.1;have cPo:=eV b l x0.grain hl hf hg9;rw[hgr]at hE hX;have hlt:Fm l left=⟨x0.grain,Al l-left,Ej (l.map (Ds x0.grain))⟩:=by unfold Fm;rw[hgr]
 rw[hlt]at hE hL;obtain⟨PN,hPN⟩:∃n,IK l x0.grain=n:=⟨_,rfl⟩
 rw[hPN]at hE cPo;rcases Nat.decEq PN 0 with g2|g2
 ·have e3:=GO g2
  rw[AG g2]at hE;rw[hE]at hX hL⊢;rw[AG g2]at hX hL;rw[hX,hL];obtain⟨Z,hZ⟩:∃Z,Lt l x0.grain=Z:=⟨_,rfl⟩
  rw[hZ]at cPo;unfold AE.D DD at cPo;obtain⟨ZS,hZS⟩:∃d,List.map Ay.D Z.shs=d:=⟨_,rfl⟩
  have pZS:AA (.sl false 2 ZS):=by rw[<-hZS];exact AJ
  rw[hZS]at cPo;refine AH AZ e1 cP cW1 cF0 AB AB AB ?_;refine AH AZ e2 cT cW2 cG cF1 AB AB ?_;refine AH AZ e3 hm0 cPo AB AB AB AB ?_;exact⟨_,MT (Rf _) (.nil 2),AA.out,rfl⟩
 have e3:=GP g2;rw[AF (λh=>h g2)]at hE;have hpe:HA l x0.grain=0:=by
  apply DT;intro h
  have:IK l x0.grain=HA l x0.grain:=AG h
  omega
 have hmn:Gm (l.map (Ds x0.grain))=0:=by
  have:IK l x0.grain=Gm (l.map (Ds x0.grain)):=AF (λh=>h hpe)
  omega
 have hpl:Lt l x0.grain=⟨x0.grain,Al l,Ej (l.map (Ds x0.grain))⟩:=by
  unfold Lt;rw[AF (λh=>h hpe),ZA hmn]
  congr 1
  ·rw[FS (l:=l.map (Ds x0.grain)) (x:=Ds x0.grain x0) (by rw[A7,hx0];rfl)];rfl
  ·unfold Al;rw[List.map_map];rfl
 obtain⟨m1,m2⟩:=oB (mz hg9 hf) hmn;rw[hpl]at cPo;clear hpl hmn hpe hPN hlt;obtain⟨S,hS⟩:∃S,Ej (l.map (Ds x0.grain))=S:=⟨_,rfl⟩
 rw[hS]at cPo hE hX hL m1 m2;have ws:IntKind.i64.wrap (Al l-left)=Al l-left:=wI (by omega) (by omega);unfold AE.D at cPo;dsimp only at cPo;unfold DD at cPo;obtain⟨SD,hSD⟩:∃d,List.map Ay.D S=d:=⟨_,rfl⟩
 have pSD:AA (.sl false 2 SD):=by rw[<-hSD];exact AJ
 rw[hSD]at cPo
 by_cases hz:Al l=left
 ·have e4:((Al l-left)==0)=true:=by rw[EB];omega
  rw[AG hz]at hE;rw[hE]at hX hL⊢;rw[AF (λh=>h rfl)]at hX hL;rw[AG hz]at hL;rw[hX,hL];unfold AE.D;dsimp only;unfold DD;rw[hSD];refine AH AZ e1 cP cW1 cF0 AB AB AB ?_;refine AH AZ e2 cT cW2 cG cF1 AB AB ?_;refine AH AZ (As e3 ws e4) hm0 cPo AB AB AB AB ?_;exact⟨_,MT (.refl _) (.nil 2),AA.out,rfl⟩
 have e4:((Al l-left)==0)=false:=by rw[Bs];omega
 rw[AF hz]at hE hL;have cO:=Oa ⟨x0.grain,left,S⟩ (Al l-left) (by dsimp only;omega);obtain⟨Y,hY⟩:∃Y:AE,(⟨x0.grain,Al l-left,S⟩:AE)=Y:=⟨_,rfl⟩
 rw[hY]at cO hE hL;have hYo:∀x∈[Y],x.okW 602:=λx hx=>by
  rw[List.mem_singleton]at hx;rw[hx,<-hY];exact⟨m1,by unfold Sm;dsimp only;omega,λs hs=>⟨by have:=(m2 s hs).1;omega,(m2 s hs).2.1,(m2 s hs).2.2.1,(m2 s hs).2.2.2⟩⟩
 have cLo:=bO 602 true [Y] (by simp) hYo (by omega) (by simp);have hKY:G6 (λk=>k.length<=1000) (64*[Y].length) (CH [Y]):=Sq λx hx=>by
  rw[List.mem_singleton]at hx;rw[hx,<-hY];exact⟨m1,λs hs=>(m2 s hs).1⟩
 change Ag C0 70 [.sl true 3 [.agg [str (sb Y.grain),i64 Y.mass,.sl false 2 (Y.shs.map Ay.D)]]] _ at cLo;change AI C0 94 [.agg [str (sb x0.grain),i64 left,.sl false 2 (S.map Ay.D)],i64 (Al l-left)] (.agg [str (sb Y.grain),i64 Y.mass,.sl false 2 (Y.shs.map Ay.D)])at cO;obtain⟨YS,hYS⟩:∃d,Y.shs.map Ay.D=d:=⟨_,rfl⟩
 have pYS:AA (.sl false 2 YS):=by rw[<-hYS];exact AJ
 rw[hSD,hYS]at cO;rw[hYS]at cLo;obtain⟨q,hq⟩:∃q,CH [Y]=q:=⟨_,rfl⟩
 rw[hq]at cLo hKY hE hL;refine AH AZ e1 cP cW1 cF0 AB AB AB ?_;refine AH AZ e2 cT cW2 cG cF1 AB AB ?_;refine AH AZ (As e3 ws e4) hm0 cPo cO AB AB AB ?_;refine BD.prop _ _ (EZ.refl _) cLo AJ ?_;rintro d ⟨m,rfl,hQ⟩;have cA:=YA _ (by simp) q m hQ (BQ hKY.len (by simp)) hKY.nd;have pM:AA (mapD m):=⟨hQ.mapD⟩
 unfold Jd at cA;obtain⟨M,hM⟩:∃M,mapD m=M:=⟨_,rfl⟩
 rw[hM]at cA pM⊢;rcases Nat.decEq (IL q) 0 with g4|g4
 ·have e5:=GO g4
  rw[hE]at hX hL⊢;rw[AG g4]at hX hL;rw[hX,hL];refine AH AZ e5 cA AB AB AB AB AB ?_;exact⟨_,MT (Rf _) (.nil 2),AA.out,rfl⟩
 have e5:=GP g4;rw[hE]at hX hL⊢;rw[AF (λh=>h g4)]at hX hL;rw[hX,hL];unfold AE.D;dsimp only;unfold DD;rw[hSD];refine AH AZ e5 cA AB AB AB AB AB ?_;exact⟨_,.refl _,AA.out,by rw[g4];rfl⟩
end Go.Ide
