/- The layer of own lemmas and contracts, part 11. -/
import Derived.Test.YtegpdgcahcikoaaGreatDoorZ9
import Derived.Test.YtegpdgcahcikoaaGreatDoorZ10
import Derived.Test.YtegpdgcahcikoaaGreatDoorZ3
import Derived.Test.YtegpdgcahcikoaaGreatDoorZ7
import Derived.Shelf.RegionOpenPlain
import Derived.Lib.Builder
import Derived.Lib.UnsafeStr
import Derived.Lib.Strings
import Derived.Lib.Slices
import Derived.Lib.Walk
import Derived.Laws.Externs
import Derived.KernelRfl
import Derived.WalkKit
import Derived.Shelf.Strconv.Itoa3
import Derived.Lib.ItoaMem
import Derived.Lib.AppendIntMem
import Derived.BigCall
import Derived.BigGuard
import Derived.Test.YtegpdgcahcikoaaGreatDoorZ8
import Derived.Test.YtegpdgcahcikoaaGreatDoorZ4
import Derived.Shelf.SlSortCmp.WholeK
import Derived.Shelf.Lay
import Derived.Laws.Cover1
import Derived.Shelf.Small.Bits
import Derived.Ground.SlsfProg
import Derived.Ground.NamesProg
import Derived.Shelf.SlIter.Sorted
import Derived.Shelf.SortM.Plain
import Derived.Shelf.SortM.SortNone
import Derived.Ground.GgzProg
import Derived.Ground.SlgmProg
set_option linter.unusedVariables false
set_option linter.unusedSimpArgs false
namespace Go.Ide
open Go.Proofs Go.RowKit
set_option maxRecDepth 20000
set_option maxHeartbeats 4000000
theorem Ce {i n:Nat}(h:i<n):decide ((i:Int)<(n:Int))=true:=AZ (by omega)
theorem Cd {i n:Nat}(h:n<=i):decide ((i:Int)<(n:Int))=false:=Ah (by omega)
theorem Cf {i:Nat}(h:i<9223372036854775807):IntKind.i64.wrap ((i:Int)+1)=((i+1:Nat):Int):=wI (by omega) (by omega)
theorem CK {α:Type}{l:List α}{i:Nat}(h:i<l.length):∃x,l[i]?=some x:=⟨l[i],BG h⟩
instance  (l:List UInt8):AU (GT l).D:=by unfold GF.D;exact AI
theorem GX {a:Nat}(h:a≠0):(((a:Nat):Int) != 0)=true:=Gs (by omega)
theorem GY {a:Nat}(h:a=0):(((a:Nat):Int) != 0)=false:=by subst h;rfl
theorem ym {a:Nat}(h:a≠0):(((a:Nat):Int)==0)=false:=Bu.2 (by omega)
set_option maxHeartbeats 1000000
set_option maxRecDepth 100000
theorem xv {n:Nat}(h:1<=n):liesAt Tryz.prog Tryz.prog.depth 218 n 0 218 1=true:=by
 have hs:sameLayout Tryz.prog Tryz.prog.depth 218 218=true:=by kernel_rfl
 have hc:Tryz.prog.cellsOf 218=2:=by kernel_rfl
 obtain⟨d,hd⟩:∃d,Tryz.prog.depth=d+1:=⟨Tryz.prog.depth-1,by kernel_rfl⟩
 rw[hd]at hs⊢;unfold liesAt;rw[hd];unfold rowAt;simp[hc,hs,h]
theorem o4 (b c:Nat)(hc:2<=c)(w:World)(h0:w.cell? ⟨b,0,none⟩=some (.pointer none))(hsh:w.shape? b=some (218,c))(hfz:w.frozen? ⟨b,0,none⟩=false):
  Calls Tryz.prog 234 #[.pointer (some ⟨b,0,none⟩)] w λe w'=>e=.returned (.tuple #[])/\w'=w.setCell ⟨b,0,none⟩ (.pointer (some ⟨b,0,none⟩)):=by
 obtain⟨j,hj,hjs⟩:=Option.map_eq_some_iff.1 (show(Tryz.prog.info? 218).map (·.size)=some 2 by kernel_rfl);have hl:liesAt Tryz.prog Tryz.prog.depth 218 (c/Tryz.prog.cellsOf 218) 0 218 1=true:=xv (by rw[show Tryz.prog.cellsOf 218=2 by kernel_rfl];omega)
 go_enter Tryz.func234,Tryz.ntmps234
 go_wp2
 rw[Lib.run_to_unsafe w ⟨b,0,none⟩ (t:=218) (by kernel_rfl) (by kernel_rfl) hj (by rw[hjs];decide) hsh (by show 0<c;omega)];simp only[Result.andThen];rw[Oper.upon_value]
 go_wp2
 rw[run_callFunc_extern Tryz.func262 (by kernel_rfl) (by kernel_rfl) (by kernel_rfl) (e:=Extern.AbiNoEscape.same) (by kernel_rfl)];rw[Lib.run_noEscape];simp only[Result.andThen];rw[Oper.upon_value]
 go_wp2
 rw[Lib.run_from_unsafe w ⟨b,0,none⟩ (u:=218) (by kernel_rfl) (by kernel_rfl) hj hsh hl];simp only[Result.andThen];rw[Oper.upon_value]
 go_wp2
 go_end0
 exact⟨rfl,rfl⟩
theorem rp (b:Nat)(w:World)(h0:w.cell? ⟨b,0,none⟩=some (.pointer (some ⟨b,0,none⟩))):
  Calls Tryz.prog 234 #[.pointer (some ⟨b,0,none⟩)] w λe w'=>e=.returned (.tuple #[])/\w'=w:=by
 obtain⟨j,hj,hjs⟩:=Option.map_eq_some_iff.1 (show(Tryz.prog.info? 218).map (·.size)=some 2 by kernel_rfl)
 go_enter Tryz.func234,Tryz.ntmps234
 go_wp2
 rw[Lib.run_neq_ptr_same w _ (te:=218) (by kernel_rfl) hj]
 go_wp2
 go_end0
 exact⟨rfl,rfl⟩
theorem yk (b g:Nat)(cur cs:Array Value)(l:List UInt8)(h0:l≠[])(w:World)(hb:w.heap[b]?=some (.cells cs 218 (0,0)))(hb1:cs[1]?=some (.slice (some ⟨g,0,none⟩) l.length cur.size))
  (hg:w.heap[g]?=some (.cells cur 5 (0,0))) (hl:l.length<=cur.size) (hcap:cur.size<=maxLen) (hcell:∀(j:Nat) (x:UInt8),l[j]?=some x->cur[j]?=some (.int .u8 x.toNat)):
  Calls Tryz.prog 172 #[.pointer (some ⟨b,0,none⟩)] w λe w'=>e=.returned (.string ⟨l.toArray⟩)/\w'=(w.drew.freeze ⟨g,0,none⟩ l.length):=by
 have c1:w.drew.cell? ⟨b,1,none⟩=some (.slice (some ⟨g,0,none⟩) l.length cur.size):=by
  have:w.drew.heap[b]?=some (.cells cs 218 (0,0)):=hb
  rw[Lib.cell_of_heap this];exact hb1
 have h0':l.length≠0:=by simpa using h0
 have hSD:(Builtin.unsafeSliceData_ #[216] 266 #[.slice (some ⟨g,0,none⟩) l.length cur.size]).run Tryz.prog w.drew=.ok (.pointer (some ⟨g,0,none⟩)) w.drew:=
  Lib.run_unsafeSliceData_row _ _ _ _ _ _ (by omega)
 have hUS:(Builtin.unsafeString_ #[266,3] 9 #[.pointer (some ⟨g,0,none⟩),.int .i64 l.length]).run Tryz.prog w.drew=.ok (.string ⟨l.toArray⟩) (w.drew.freeze ⟨g,0,none⟩ l.length):=by
  refine Lib.run_unsafeString_row w.drew 266 3 9 5 (by kernel_rfl) (by kernel_rfl) g cur.size (by have hg':w.drew.heap[g]?=some (.cells cur 5 (0,0)):=hg;simp[World.shape?,hg']) l h0 (by omega) (by unfold maxLen at hcap;omega) ?_;intro j x hx;have hg':w.drew.heap[g]?=some (.cells cur 5 (0,0)):=hg
  have:=hcell j x hx
  rw[Addr.add_lit];simp[World.cell?,hg',this]
 have mixed:Tryz.prog.follows .mixedOrders=true:=by kernel_rfl
 go_enter Tryz.func172,Tryz.ntmps172
 go_wp2
 go_region_o
 all_goals(go_wp2;go_ret;exact⟨rfl,rfl⟩)
def Fv (l:List UInt8):List D:=l.map λb=>.prim (.int .u8 (b.toNat:Int))
abbrev Fj (g:Nat)(p x:D):Ay:=⟨1500,g,218,2,[.agg [p,x]]⟩
theorem gF {vs:Array Value}(h:vs.size=1):vs = #[vs.getD 0 undef]:=by
 match vs,h with
 |⟨[u]⟩,_=>rfl
theorem gG (g n:Nat)(x p:D)(H1 H2:Hp)(hp:p=.prim (.pointer none)\/p=.optr 1500 g 2 0 0):
  Cg C0 234 [.optr 1500 g 2 0 0] (H1++Fj g p x::H2) n (λd H' n'=>d=.prim (.tuple #[])/\H'=H1++Fj g (.optr 1500 g 2 0 0) x::H2/\n'=n):=by
 refine⟨⟨_,_,Tryz.func234,rfl,by kernel_rfl⟩,λF ρ w vs m fr hgn hvs hr=>?_⟩;have h0:=hr 0 _ rfl;rw[gF hvs];generalize hv:vs.getD 0 undef=v at h0;cases h0 with
 |optr hρ=>
  rename_i b;have he:Fj g p x∈H1++Fj g p x::H2:=by simp
  obtain⟨cs,hc,q⟩:=m.at he hρ;have hlen:2<=cs.size:=q.len;have hr0:AW ρ (AN F.X ρ (H1++Fj g p x::H2)) w p (cs.getD 0 undef):=q.rep 0 _ 0 p rfl rfl;have hr1:AW ρ (AN F.X ρ (H1++Fj g p x::H2)) w x (cs.getD 1 undef):=q.rep 0 _ 1 x rfl rfl;have hcell:w.cell? ⟨b,0,none⟩=some (cs.getD 0 undef):=by
   simp[World.cell?,hc,Array.getD,show 0<cs.size by omega]
  rcases hp with rfl|rfl
  ·cases hr0':cs.getD 0 undef with
   |pointer a=>
    rw[hr0']at hr0 hcell;cases hr0;refine(o4 b cs.size hlen w hcell (by simp[World.shape?,hc]) (by simp[World.frozen?,hc])).mono ?_;rintro e w' ⟨rfl,rfl⟩;have hset:w.setCell ⟨b,0,none⟩ (.pointer (some ⟨b,0,none⟩))=World.setBlk w b (cs.setIfInBounds 0 (.pointer (some ⟨b,0,none⟩))) 218:=by
     rw[setCell_eq_setRow w b 0 cs 218 (0,0) _ hc];exact Td hc
    have hop:AW ρ (AN F.X ρ (H1++Fj g (.prim (.pointer none)) x::H2)) w (.optr 1500 g 2 0 0) (.pointer (some ⟨b,0*2+0,none⟩)):=.optr hρ;have ho:DB ρ (AN F.X ρ (H1++Fj g (.prim (.pointer none)) x::H2)) w (Fj g (.optr 1500 g 2 0 0) x) (cs.setIfInBounds 0 (.pointer (some ⟨b,0,none⟩))):=by
     refine⟨by rw[V7];exact q.len,λi d hd=>?_,λi v hv=>?_,λi d j c hd hj=>?_⟩
     ·rcases i with _|i
      ·cases hd;rfl
      ·simp at hd
     ·rw[Ir]at hv
      split at hv
      ·split at hv
       ·cases hv;rfl
       ·cases hv
      ·exact q.one i v hv
     ·rcases i with _|i
      ·cases hd
       rcases j with _|_|j
       ·cases hj
        have:(cs.setIfInBounds 0 (.pointer (some ⟨b,0,none⟩))).getD (0*2+0) undef=.pointer (some ⟨b,0*2+0,none⟩):=by
         simp[A0,show 0<cs.size by omega]
        rw[this];exact hop
       ·cases hj
        have:(cs.setIfInBounds 0 (.pointer (some ⟨b,0,none⟩))).getD (0*2+1) undef=cs.getD 1 undef:=by
         simp[A0]
        rw[this];exact hr1
       ·simp[D.cells]at hj
      ·simp at hd
    obtain⟨m1,x1⟩:=m.write (e':=Fj g (.optr 1500 g 2 0 0) x) hρ hc rfl rfl rfl (V7 ..) ho;rw[hset];exact⟨_,_,_,n,ρ,rfl,⟨rfl,rfl,rfl⟩,m1,x1,fr,λe' he'=>by
     rcases List.mem_append.1 he' with h|h
     ·exact hgn e' (by simp[h])
     ·rcases BA.1 h with rfl|h
      ·exact hgn (Fj g (.prim (.pointer none)) x) he
      ·exact hgn e' (by simp[h]),.prim _⟩
   |_=>rw[hr0']at hr0;cases hr0
  ·cases hr0':cs.getD 0 undef with
   |pointer a=>
    rw[hr0']at hr0 hcell;cases hr0 with
    |optr hρ2=>
     rw[hρ]at hρ2;cases hρ2;refine(rp b w hcell).mono ?_;rintro e w' ⟨rfl,rfl⟩;exact⟨_,_,_,n,ρ,rfl,⟨rfl,rfl,rfl⟩,m,BT.refl _ _ _,fr,hgn,.prim _⟩
   |_=>rw[hr0']at hr0;cases hr0
theorem iX (w:World)(g n:Nat)(hn:n≠0)(cur:Array Value)(T:Nat)(hg:w.heap[g]?=some (.cells cur T (0,0))):
  (w.freeze ⟨g,0,none⟩ n).heap.size=w.heap.size/\(w.freeze ⟨g,0,none⟩ n).os=w.os/\(w.freeze ⟨g,0,none⟩ n).tape=w.tape/\(w.freeze ⟨g,0,none⟩ n).output=w.output /\
  (∀k,k≠g->(w.freeze ⟨g,0,none⟩ n).heap[k]?=w.heap[k]?)/\∃(cs':Array Value) (fz':Nat×Nat),(w.freeze ⟨g,0,none⟩ n).heap[g]?=some (.cells cs' T fz')/\cs'.size=cur.size:=by
 unfold World.freeze;rw[AF hn];refine⟨by simp,rfl,rfl,rfl,λk hk=>?_,?_⟩
 ·dsimp only
  rw[Array.getElem?_modify,AF (λh=>hk h.symm)]
 ·dsimp only
  rw[Array.getElem?_modify,AH rfl,hg];exact⟨cur,_,rfl,rfl⟩
theorem yJ (g gb n:Nat)(l:List UInt8)(h0:l≠[])(p:D)(R:Hp):
  Cg C0 172 [.optr 1500 g 2 0 0] (⟨206,gb,5,1,Fv l⟩::Fj g p (.osl 206 gb 1 0 l.length)::R) n (λd H' n'=>d=str ⟨l.toArray⟩/\H'=Fj g p (.osl 206 gb 1 0 l.length)::R/\n'=n):=by
 refine⟨⟨_,_,Tryz.func172,rfl,by kernel_rfl⟩,λF ρ w vs m fr hgn hvs hr=>?_⟩;have hz:=hr 0 _ rfl;have h0':l.length≠0:=by simpa using h0
 rw[gF hvs];generalize hv:vs.getD 0 undef=v at hz;cases hz with
 |optr hρ=>
  rename_i b;obtain⟨cs,hc,q⟩:=m.at (e:=Fj g p (.osl 206 gb 1 0 l.length)) (by simp) hρ;have hlen:2<=cs.size:=q.len;have hr1:AW ρ (AN F.X ρ (⟨206,gb,5,1,Fv l⟩::Fj g p (.osl 206 gb 1 0 l.length)::R)) w (.osl 206 gb 1 0 l.length) (cs.getD 1 undef):=q.rep 0 _ 1 (.osl 206 gb 1 0 l.length) rfl rfl;generalize hs1:cs.getD 1 undef=sv at hr1;generalize hL:l.length=L at hr1;cases hr1 with
   |onil=>exact Ae hL h0'
   |osl hρ2 hb2 hc2 hs2 hm2=>
    rename_i cap gy T' cs2 fz2;obtain⟨cur,hcur,qy⟩:=m.at (e:=⟨206,gb,5,1,Fv l⟩) (by simp) hρ2;rw[hb2]at hcur;cases hcur;have hcap:cap=cs2.size:=by omega
    subst hcap;have hcell:∀(j:Nat) (x:UInt8),l[j]?=some x->cs2[j]?=some (.int .u8 x.toNat):=λj x hx=>by
     have hr:=qy.rep j (.prim (.int .u8 (x.toNat:Int))) 0 (.prim (.int .u8 (x.toNat:Int))) (by unfold Fv;rw[A7,hx];rfl) rfl;have hlt:j<cs2.size:=by
      have:=(List.getElem?_eq_some_iff.1 hx).1
      omega
     generalize hvv:cs2.getD (j*1+0) undef=vv at hr;cases hr;rw[Bn hlt]
     have:cs2.getD j undef=cs2[j]:=by simp[Array.getD,hlt]
     rw[EG,De,this]at hvv;rw[hvv]
    have hb1:cs[1]?=some (.slice (some ⟨gy,0,none⟩) l.length cs2.size):=by
     have hlt:1<cs.size:=by omega
     rw[Bn hlt]
     have:cs.getD 1 undef=cs[1]:=by simp[Array.getD,hlt]
     rw[this]at hs1;rw[hs1,hL,G8]
    refine(yk b gy cs2 cs l h0 w hc hb1 hb2 (by omega) (by omega) hcell).mono ?_;rintro e w' ⟨rfl,rfl⟩;have md:=m.drew;obtain⟨f1,f2,f3,f4,f5,cs',fz',f6,f7⟩:=iX w.drew gy l.length h0' cs2 5 hb2;obtain⟨m1,x1⟩:=za (H1:=[]) (H2:=Fj g p (.osl 206 gb 1 0 l.length)::R) (w':=w.drew.freeze ⟨gy,0,none⟩ l.length) md hρ2 f1 f2 f3 f4 f5 (λc hcc=>by
     have hb2':w.drew.heap[gy]?=some (.cells cs2 5 (0,0)):=hb2;have hcc':w.drew.heap[gy]?=some (.cells c 5 (0,0)):=hcc;rw[hb2']at hcc';cases hcc';exact⟨cs',fz',f6,f7⟩)
    rw[hL];rw[hL]at m1 x1;exact⟨_,_,_,n,ρ,rfl,⟨rfl,rfl,rfl⟩,m1,(BT.drew _ _ _).trans x1,fr,λe' he'=>hgn e' (by rw[hL];exact CF _ he'),.prim _⟩
set_option maxRecDepth 20000
set_option maxHeartbeats 4000000
def bH (gb g:Nat)(p:D)(L:List UInt8)(R:Hp):Hp:=Dt 206 gb 5 1 (Fv L)++(Fj g p (D3 206 gb 1 (Fv L))::R)
theorem kO (s:List UInt8):IY (sb s)=Fv s:=rfl
theorem OE (l:List UInt8):(Fv l).length=l.length:=Am ..
theorem kM (a b:List UInt8):Fv (a++b)=Fv a++Fv b:=DG
theorem YT {l:List UInt8}(h:l≠[]):∃x r,Fv l=x::r:=by
 cases l with
 |nil=>exact Ae rfl h
 |cons a l=>exact⟨_,_,rfl⟩
theorem gT (g gb n:Nat)(p:D)(hp:p=.prim (.pointer none)\/p=.optr 1500 g 2 0 0)(L s:List UInt8)(hs:s≠[])(R:Hp)(hlen:L.length+s.length<=100000000):
  Cg C0 171 [.optr 1500 g 2 0 0,str (sb s)] (bH gb g p L R) n (λd H' n'=>(∃g',H'=bH g' g (.optr 1500 g 2 0 0) (L++s) R)/\n<=n'):=by
 refine Cg.walk w1 bh rfl λF=>?_
 have hsz:=Ci s;have hb:=kO s;obtain⟨x,r,hx⟩:=YT hs;have hr:s.length=r.length+1:=by rw[<-OE,hx];rfl
 unfold bH;rw[kM];cases hL:Fv L with
 |nil=>
  dsimp only[I6,I7,List.nil_append];refine AG Ag kB AB AB AB AB AB AB ?_;refine BE.own _ (gG g _ CR p [] R hp) ?_;rintro d H' n' ⟨rfl,rfl,rfl⟩;have hL0:L.length=0:=by rw[<-OE,hL];rfl
  refine AG Ag (Ad hsz hb) AB AB AB AB AB AB ?_;refine⟨?_,by omega⟩;apply Exists.intro;rw[hx,hr];rfl
 |cons y l=>
  dsimp only[Hk,Hl,List.cons_append,List.nil_append];have hL1:L.length=l.length+1:=by rw[<-OE,hL];rfl
  have htk:List.take (l.length+1) (y::l)=y::l:=by simp
  refine AG Ag kB AB AB AB AB AB AB ?_;refine BE.own _ (gG g _ (.osl 206 gb 1 0 (l.length+1)) p [⟨206,gb,5,1,y::l⟩] R hp) ?_;rintro d H' n' ⟨rfl,rfl,rfl⟩;refine AG Ag (At hsz hb htk) AB AB AB AB AB AB ?_;refine⟨?_,by omega⟩;apply Exists.intro;have hap:y::l++Fv s=y::(l++Fv s):=rfl;have hl2:(l++Fv s).length+1=l.length+1+s.length:=by rw[Bk,OE];omega
  rw[hl2]
open Go.Sort Go.Shelf
section
open Go.Lib
set_option maxHeartbeats 6400000 in
set_option maxRecDepth 100000 in
theorem yv (u:Nat) (hu64:u<18446744073709551616) (w:World) (htab:Lib.TabIs Tryz.prog w "internal/strconv.uint64pow10" .u64 Lib.pow10Tab):
  Calls Tryz.prog 230 #[.int .u64 u,.int .i64 10] w λe w'=>e=.returned (.string ⟨(Lib.decDigits u).toArray⟩)/\∃k os,w'=grow (w.drewN k) os:=by
 have e283:∀args w,(callFunc 256 args).run Tryz.prog w=.ok (.enter 256 args) w:=enters_of Tryz.func256 (by kernel_rfl) rfl;have e284:∀args w,(callFunc 257 args).run Tryz.prog w=.ok (.enter 257 args) w:=enters_of Tryz.func257 (by kernel_rfl) rfl;have e285:∀args w,(callFunc 258 args).run Tryz.prog w=.ok (.enter 258 args) w:=enters_of Tryz.func258 (by kernel_rfl) rfl
 by_cases hs:u<100
 ·go_enter Tryz.func230,Tryz.ntmps230
  go_wp2_with (go_at_fn 256;refine(Tryz.internal_strconv_small u hs _).mono ?_;rintro e w' ⟨rfl,rfl⟩)
  go_ret
  exact⟨rfl,0,#[],by simp[World.drewN_zero]⟩
 ·have hu1:1<=u:=by omega
  have hnd20:Lib.nDigits u<=20:=by have:=Lib.numDigits_eq u hu1 hu64;split at this<;>omega
  have hb3:Lib.nDigits u<=24:=by omega
  have hal:Tryz.prog.arrayLen 283=24:=by kernel_rfl
  have hsl1:∀W,(Instr.sliceAt 283 (.pointer (some ⟨w.heap.size,0,none⟩)) none (some (.int .i64 (Lib.nDigits u:Int))) none).run Tryz.prog W=.ok (.slice (some ⟨w.heap.size,0,none⟩) (Lib.nDigits u) 24) W:=λW=>by
   rw[run_sliceAt_array_h W 283 ⟨w.heap.size,0,none⟩ (by kernel_rfl) .i64 (Lib.nDigits u:Int) (by omega) (by rw[hal];omega)]
   go_simp
  have hH0:=Lib.holds_zero0 w 283 (Lib.nDigits u) (by omega);have hfmt:=Tryz.internal_strconv_formatBase10 w.heap.size 0 24 u (Array.replicate (Lib.nDigits u) 0) (w.alloc (.cells Lib.zeros24 283)) hH0 (by rw[SS];exact Lib.lt_pow_nDigits u) hu64 (by rw[SS];omega);rw[SS]at hfmt;have HH0:=Lib.hid hH0;clear hH0 hal
  go_enter Tryz.func230,Tryz.ntmps230
  go_wp2_with (first
   |(go_at_fn 257;refine(Tryz.internal_strconv_numDigits u hu1 hu64 _ (Lib.tabIs_alloc htab _)).mono ?_;rintro e w' ⟨rfl,rfl⟩))
  go_at_fn 258
  refine hfmt.mono ?_;rintro e w' ⟨rfl,k,v',dk,rfl,hF⟩;have hcv:(convert 216 9 (.slice (some ⟨w.heap.size,0,none⟩) (Lib.nDigits u) 24)).run Tryz.prog ((putRow (λ(b:UInt8)=>Value.int .u8 (b.toNat:Int)) (w.alloc (.cells Lib.zeros24 283)) w.heap.size 0 dk).drewN k)=.ok (.string ⟨(Lib.decDigits u).toArray⟩) ((putRow (λ(b:UInt8)=>Value.int .u8 (b.toNat:Int)) (w.alloc (.cells Lib.zeros24 283)) w.heap.size 0 dk).drewN k):=by
   have h:=run_convert_bytes_back (P:=Tryz.prog) ((putRow (λ(b:UInt8)=>Value.int .u8 (b.toNat:Int)) (w.alloc (.cells Lib.zeros24 283)) w.heap.size 0 dk).drewN k) 216 9 5 ⟨w.heap.size,0,none⟩ 24 (Lib.decDigits u) (by kernel_rfl) (by kernel_rfl) (by kernel_rfl) (λj hj=>by
    rw[Lib.row_is_numeral hF j hj,Lib.add_plain,World.cell?_drewN];exact cell?_putRow (λ(b:UInt8)=>Value.int .u8 (b.toNat:Int)) _ w.heap.size 0 _ dk HH0.out (by rw[hF.size,SS]) j (by rw[hF.size];rw[Lib.decDigits_length]at hj;exact hj))
   rw[Lib.decDigits_length]at h;exact h
  go_wp2
  go_ret
  obtain⟨os,eo⟩:=Lib.fin_at w (.cells Lib.zeros24 283) dk k 0;exact⟨rfl,k,os,eo⟩
end
theorem jV {O:Nat->Prop}{w:World}{v u:Value}{vs:Array Value}(hn:vs.size=2)(h:∀(i:Nat) (x:D),[D.prim v,.prim u][i]?=some x->AW nol O w x (vs.getD i undef)):vs = #[v,u]:=by
 match vs,hn with
 |⟨[a,b]⟩,_=>
  have h0:=h 0 _ rfl;have h1:=h 1 _ rfl;simp at h0 h1;cases h0;cases h1;rfl
theorem ou (u:Nat)(hu:u<18446744073709551616):AJ C0 230 [.prim (.int .u64 (u:Int)),i64 10] (str ⟨(Lib.decDigits u).toArray⟩):=by
 refine⟨⟨_,_,Tryz.func230,rfl,by kernel_rfl⟩,λY w vs hG hnG hX hvs hr=>?_⟩
 have:=jV hvs hr
 subst this;refine(yv u hu w hG).mono ?_;rintro e w' ⟨rfl,k,os,rfl⟩;exact⟨_,_,rfl,Lib.below_grow _ _ (Ai _) _ _,rfl,.prim _⟩
theorem rJ (u:Nat)(hu:u<18446744073709551616):AJ C0 169 [.prim (.int .u64 (u:Int)),i64 10] (str ⟨(Lib.decDigits u).toArray⟩):=by
 refine Aj.walk w1 be rfl λF=>?_
 refine AG Ag kB (ou u hu) AB AB AB AB AB ?_;exact AK rfl AA.out
theorem rp0:AJ C0 170 [str ⟨#[48]⟩,i64 0] (str ⟨#[]⟩):=CH Da 400 20 (by kernel_rfl)
theorem rp1:AJ C0 170 [str ⟨#[48]⟩,i64 1] (str ⟨#[48]⟩):=CH Da 400 20 (by kernel_rfl)
theorem rp2:AJ C0 170 [str ⟨#[48]⟩,i64 2] (str ⟨#[48,48]⟩):=CH Da 400 20 (by kernel_rfl)
theorem rp3:AJ C0 170 [str ⟨#[48]⟩,i64 3] (str ⟨#[48,48,48]⟩):=CH Da 400 20 (by kernel_rfl)
theorem rp4:AJ C0 170 [str ⟨#[48]⟩,i64 4] (str ⟨#[48,48,48,48]⟩):=CH Da 400 20 (by kernel_rfl)
theorem rp5:AJ C0 170 [str ⟨#[48]⟩,i64 5] (str ⟨#[48,48,48,48,48]⟩):=CH Da 400 20 (by kernel_rfl)
theorem rp6:AJ C0 170 [str ⟨#[48]⟩,i64 6] (str ⟨#[48,48,48,48,48,48]⟩):=CH Da 400 20 (by kernel_rfl)
theorem rp7:AJ C0 170 [str ⟨#[48]⟩,i64 7] (str ⟨#[48,48,48,48,48,48,48]⟩):=CH Da 400 20 (by kernel_rfl)
theorem rp8:AJ C0 170 [str ⟨#[48]⟩,i64 8] (str ⟨#[48,48,48,48,48,48,48,48]⟩):=CH Da 400 20 (by kernel_rfl)
theorem rp9:AJ C0 170 [str ⟨#[48]⟩,i64 9] (str ⟨#[48,48,48,48,48,48,48,48,48]⟩):=CH Da 400 20 (by kernel_rfl)
theorem y6:AJ C0 170 [str ⟨#[48]⟩,i64 10] (str ⟨#[48,48,48,48,48,48,48,48,48,48]⟩):=CH Da 400 20 (by kernel_rfl)
theorem y7:AJ C0 170 [str ⟨#[48]⟩,i64 11] (str ⟨#[48,48,48,48,48,48,48,48,48,48,48]⟩):=CH Da 400 20 (by kernel_rfl)
theorem y8:AJ C0 170 [str ⟨#[48]⟩,i64 12] (str ⟨#[48,48,48,48,48,48,48,48,48,48,48,48]⟩):=CH Da 400 20 (by kernel_rfl)
theorem y9:AJ C0 170 [str ⟨#[48]⟩,i64 13] (str ⟨#[48,48,48,48,48,48,48,48,48,48,48,48,48]⟩):=CH Da 400 20 (by kernel_rfl)
theorem ya:AJ C0 170 [str ⟨#[48]⟩,i64 14] (str ⟨#[48,48,48,48,48,48,48,48,48,48,48,48,48,48]⟩):=CH Da 400 20 (by kernel_rfl)
theorem yb:AJ C0 170 [str ⟨#[48]⟩,i64 15] (str ⟨#[48,48,48,48,48,48,48,48,48,48,48,48,48,48,48]⟩):=CH Da 400 20 (by kernel_rfl)
theorem yc:AJ C0 170 [str ⟨#[48]⟩,i64 16] (str ⟨#[48,48,48,48,48,48,48,48,48,48,48,48,48,48,48,48]⟩):=CH Da 400 20 (by kernel_rfl)
theorem zR:AJ C0 170 [str ⟨#[48]⟩,i64 17] (str ⟨#[48,48,48,48,48,48,48,48,48,48,48,48,48,48,48,48,48]⟩):=CH Da 400 20 (by kernel_rfl)
theorem oy (n:Nat)(h:n<=17):AJ C0 170 [str ⟨#[48]⟩,i64 (n:Int)] (str ⟨(List.replicate n 48).toArray⟩):=by
 match n,h with
 | 0,_=>exact rp0
 | 1,_=>exact rp1
 | 2,_=>exact rp2
 | 3,_=>exact rp3
 | 4,_=>exact rp4
 | 5,_=>exact rp5
 | 6,_=>exact rp6
 | 7,_=>exact rp7
 | 8,_=>exact rp8
 | 9,_=>exact rp9
 | 10,_=>exact y6
 | 11,_=>exact y7
 | 12,_=>exact y8
 | 13,_=>exact y9
 | 14,_=>exact ya
 | 15,_=>exact yb
 | 16,_=>exact yc
 | 17,_=>exact zR
 |n+18,h=>omega
theorem oG {H Hf r r':Hp}{K g T sz:Nat}{l:List D}(h:Ck H Hf r r'):Ck H Hf (Dt K g T sz l++r) r':=by
 cases l with
 |nil=>exact h
 |cons x l=>exact .drop h
set_option maxHeartbeats 8000000
def F3 (q r:Nat):List UInt8:=if q=0 then Lib.decDigits r else List.replicate (18-(Lib.decDigits r).length) 48++Lib.decDigits r
theorem YY:Lib.decDigits 0=[48]:=by unfold Lib.decDigits;rfl
theorem Oq (n:Nat):Lib.decDigits n≠[]:=(EY n).2.2
theorem no (q r:Nat):F3 q r≠[]:=by
 unfold F3;split
 ·exact Oq r
 ·intro h;exact Oq r (List.append_eq_nil_iff.1 h).2
theorem kt {q r:Nat}(hq:q≠0):F3 q r=Ev 18 r []:=by
 unfold F3 Ev MP;rw[AF hq]
 by_cases h:r=0
 ·subst h;rw[YY,AH rfl];rfl
 ·rw[AF h,DE]
theorem mA (B q r:Nat)(hB:B=10^18)(hr:r<B):Lib.decDigits (q*B+r)=if q=0 then F3 q r else Lib.decDigits q++F3 q r:=by
 by_cases hq:q=0
 ·subst hq;rw[AH rfl];unfold F3;rw[AH rfl,G8,BV]
 ·rw[AF hq,kt hq,hB]
  exact UK 18 q r hq (by rw[<-hB];exact hr)
def EM (P:List (List UInt8)):List UInt8:=P.reverse.flatten
theorem XQ (P:List (List UInt8))(p:List UInt8):EM (P++[p])=p++EM P:=by unfold EM;simp
theorem VK (a b:List UInt8):sb a++sb b=sb (a++b):=by
 apply ByteArray.ext;simp[ByteArray.data_append]
theorem kU {P:List (List UInt8)}(h:∀p∈P,p≠[]):P.length<=(EM P).length:=by
 unfold EM;rw[List.length_flatten,<-List.length_reverse];generalize hQ:P.reverse=Q;have h':∀p∈Q,p≠[]:=λp hp=>h p (by rw[<-hQ]at hp;exact List.mem_reverse.1 hp)
 clear hQ h
 induction Q with
 |nil=>exact Ai _
 |cons a r ih=>
  have h1:=ih λp hp=>h' p (CF _ hp)
  have h2:a.length≠0:=λq=>h' a CA (En q)
  rw[Ct,List.sum_cons,Bp];omega
structure M1 (n m:Nat)(P:List (List UInt8)):Prop where
 ne:m≠0->Lib.decDigits n=Lib.decDigits m++EM P
 eq:m=0->Lib.decDigits n=EM P
 all:∀p∈P,p≠[]
 le:m<=n
theorem M1.len {n m:Nat}{P:List (List UInt8)}(h:M1 n m P):P.length<=(Lib.decDigits n).length:=by
 have h1:=kU h.all
 by_cases q:m=0
 ·rw[h.eq q];exact h1
 ·rw[h.ne q,Bk];omega
theorem M1.step {n m:Nat}{P:List (List UInt8)}{B:Nat}(h:M1 n m P)(hm:m≠0)(hB:B=10^18):M1 n (m/B) (P++[F3 (m/B) (m%B)]):=by
 have hB0:0<B:=by rw[hB];decide
 have hd:=mA B (m/B) (m%B) hB (B4 _ hB0);rw[show m/B*B+m%B=m by rw[BS];exact Ec m B]at hd;have hn:=h.ne hm;rw[hd]at hn;refine⟨λq=>?_,λq=>?_,λp hp=>?_,BR (GA _ _) h.le⟩
 ·rw[AF q]at hn;rw[hn,XQ,Di]
 ·rw[AH q]at hn;rw[hn,XQ]
 ·rcases List.mem_append.1 hp with hp|hp
  ·exact h.all p hp
  ·rw[List.mem_singleton]at hp;subst hp;exact no _ _
abbrev FH (P:List (List UInt8)):List D:=P.map λp=>str (sb p)
theorem Tl (x:GI)(h:x.wf)(hf:x.few):AJ C0 125 [x.D] (str (sb (Lib.itoa x.z))):=by
 refine Aj.walk w1 aM rfl λF=>?_
 obtain⟨z,sm⟩:=x;obtain⟨h1,h2⟩:=h;have hp:=Jh ⟨z,sm⟩ ⟨h1,h2⟩;dsimp only[GI.D,GI.few]at*;cases sm with
 |true=>
  obtain⟨h3,h4⟩:=h1 rfl;have c:AJ C0 166 [i64 z] (str (sb (Lib.itoa z))):=oP z h3 (by omega);unfold GI.s GI.w;dsimp only;refine AG Ag kB c AB AB AB AB AB ?_;exact AK rfl AA.out
 |false=>
  have hz:=h2 rfl;have hz0:z.natAbs≠0:=λq=>hz (by obtain rfl:z=0:=(by omega);exact vg rfl)
  have hw:GI.w ⟨z,false⟩=wD z.natAbs:=rfl;have hs:GI.s ⟨z,false⟩=if z<0 then -1 else 1:=rfl
  rw[hw]at hp⊢;obtain⟨sg,hsg⟩:∃s,GI.s ⟨z,false⟩=s:=⟨_,rfl⟩
  rw[hsg]at hp⊢;obtain⟨B,hB⟩:∃B:Nat,B=10^18:=⟨_,rfl⟩
  have hB1:B<BB:=by rw[hB];decide
  have hB0:B≠0:=by rw[hB];decide
  have hB2:1<B:=by rw[hB];decide
  have hBs:u64 1000000000000000000=AR B:=by rw[hB];rfl
  have hBl:Af B=[B]:=Mg hB0 hB1;obtain⟨n,hn⟩:∃n,z.natAbs=n:=⟨_,rfl⟩
  obtain⟨neg,hneg⟩:∃b,decide (z<0)=b:=⟨_,rfl⟩
  rw[hn]at hp hf hz0⊢;rw[hneg]at hp;have hit:Lib.itoa z=(if neg then[45]else[])++Lib.decDigits n:=by
   unfold Lib.itoa
   by_cases q:z<0
   ·rw[AH q,<-hneg,AZ q,hn];rfl
   ·rw[AF q,<-hneg,Ah q,<-hn]
    have:z.toNat=z.natAbs:=by omega
    rw[this];rfl
  rw[hit];have hDL:(Lib.decDigits n).length<=27*1000000+1:=NF (k:=1000000) (by omega);have hmpos:∀m:Nat,m≠0->decide ((((Af m).map AR).length:Int)>0)=true:=λm hm=>AZ (by
   rw[GK hm,Ct,Bp];omega)
  have hm0:decide ((((Af 0).map AR).length:Int)>0)=false:=Ah (by rw[Ft];decide);obtain⟨w0,ws,hws⟩:∃a l,(Af n).map AR=a::l:=by
   cases hl:(Af n).map AR with
   |nil=>exact Ae hl (Hq hz0)
   |cons a l=>exact⟨a,l,rfl⟩
  have hwD:wD n=.sl false 1 (w0::ws):=by unfold wD wL;rw[hws]
  have hbD:wD B=.sl false 1 [u64 1000000000000000000]:=by unfold wD wL;rw[hBl,hBs];rfl
  have pw:AA (.sl false 1 (w0::ws)):=by rw[<-hwD];exact AI
  rw[hwD]at hp⊢;clear hit h1 h2 hz hs hsg;have hne:(w0::ws≠[])=True:=eq_true (List.cons_ne_nil _ _);refine AG Ag hne hp AB AB AB AB AB ?_;rw[<-hwD];refine AC.loop (α:=Nat×List (List UInt8)×Nat×Nat) (λp=>⟨[(3,As neg),(4,wD p.1),(5,wD B),(6,D3 1303 p.2.2.1 1 (FH p.2.1))],Dt 1303 p.2.2.1 9 1 (FH p.2.1),p.2.2.2⟩) (λp=>p.1)
   (λp=>M1 n p.1 p.2.1) (n,[],0,_) ⟨λ_=>by unfold EM;simp,λq=>Ae q hz0,λp hp=>Ae hp Dc,Ai _⟩ (by refine⟨.drop .nil,⟨.refl _,.refl _,?_,.refl _,trivial⟩,Ai _⟩;dsimp only;rw[hbD];exact .nn true 1 _) ?_
  rintro⟨m,P,g,cnt⟩ F I;dsimp only at I⊢;have hPl:=I.len;rcases Nat.decEq m 0 with hm|hm
  rotate_left
  ·subst hm
   have hdn:=I.eq rfl;have hall:=I.all;have hLn:P.length<=27000001:=by omega
   have hP0:P≠[]:=λq=>Oq n (by rw[hdn,q];rfl)
   obtain⟨N,hN⟩:∃N,P.length=N:=⟨_,rfl⟩
   have hN0:N≠0:=λq=>hP0 (En (by omega))
   rw[hdn];clear hwD hbD pw hp hn hPl I;have elP:(((FH P).length:Nat):Int)=(N:Int):=by rw[Am,hN]
   have wN:IntKind.i64.wrap ((N:Int)-1)=((N:Int)-1):=wI (by omega) (by omega);refine AC.seq ?_;refine sZ 600 ?_;refine AV hm0 ?_;refine AM ?_;refine CC ?_;refine AC.weak ⟨[(3,As neg),(6,.sl false 1 (FH P))],[],_⟩ ⟨?_,⟨.refl _,?_,trivial⟩,Ai _⟩ ?_
   ·have:=oG (K:=1303) (g:=g) (T:=9) (sz:=1) (l:=FH P) (r:=[]) (r':=[]) (H:=Dt 1303 g 9 1 (FH P)) (Hf:=[]) .nil
    rwa [DE]at this
   ·exact RO _ _ _ _ _
   obtain⟨c0,hc0⟩:∃c,c=cnt+1+1+1:=⟨_,rfl⟩
   rw[<-hc0];refine sR 1500 ?_;obtain⟨c1,hc1⟩:∃c,c=c0+1:=⟨_,rfl⟩
   refine Cz (α:=D×Nat×Nat) (λq=>⟨[(6,.sl false 1 (FH P)),(10,.optr 1500 c0 2 0 0)],bH q.2.1 c0 q.1 (if neg then[45]else[]) [],q.2.2⟩) (λq=>q.1=.prim (.pointer none)\/q.1=.optr 1500 c0 2 0 0) ?_ ?_
   ·cases neg
    ·refine AG Ag kB AB AB AB AB AB AB ?_
     exact⟨by trivial,(.prim (.pointer none),0,_),.inl rfl,AL⟩
    ·refine AG Ag kB AB AB AB AB AB AB ?_
     refine BE.own _ (gT c0 0 _ (.prim (.pointer none)) (.inl rfl) [] [45] (by decide) [] (by decide)) ?_;rintro d H' n' ⟨⟨g',rfl⟩,hn'⟩;refine BP ?_;exact⟨by trivial,(.optr 1500 c0 2 0 0,g',_),.inr rfl,AL⟩
   rintro⟨p0,gb0,c2⟩ hp0;dsimp only at hp0⊢;obtain⟨pre,hpre⟩:∃l,(if neg then[45]else[]:List UInt8)=l:=⟨_,rfl⟩
   have hpl:pre.length<=1:=by rw[<-hpre];split<;>decide
   rw[hpre];refine AG Ag (Ad elP @wN) AB AB AB AB AB AB ?_;refine AC.loop (α:=Nat×D×Nat×Nat) (λq=>⟨[(6,.sl false 1 (FH P)),(10,.optr 1500 c0 2 0 0),(11,i64 ((q.1:Int)-1))],bH q.2.2.1 c0 q.2.1 (pre++EM (P.drop q.1)) [],q.2.2.2⟩) (λq=>q.1)
    (λq=>q.1<=N/\(q.2.1=.prim (.pointer none)\/q.2.1=.optr 1500 c0 2 0 0)) (N,p0,gb0,_) ⟨Ai _,hp0⟩ (by dsimp only;rw[<-hN,JX];unfold EM;rw[List.reverse_nil,List.flatten_nil,DE];exact AL) ?_
   rintro⟨k,p,gb,c3⟩ F ⟨hk,hp⟩;dsimp only at hk hp⊢;have hjl:∀k,(EM (P.drop k)).length<=(EM P).length:=λk=>by
    unfold EM
    conv=>rhs;rw[<-E8 k P]
    rw[List.reverse_append,List.flatten_append,Bk];omega
   have hjP:(EM P).length<=27000001:=by rw[<-hdn];omega
   rcases Dh k with hk0|hk0
   ·subst hk0
    have e1:decide ((((0:Nat):Int)-1)>=0)=false:=by decide
    rw[Fk];have hL:pre++EM P≠[]:=λq=>by
     have:=(List.append_eq_nil_iff.1 q).2
     rw[<-hdn]at this;exact Oq n this
    obtain⟨L,hLL⟩:∃L,pre++EM P=L:=⟨_,rfl⟩
    rw[hLL]at hL⊢;obtain⟨y,r,hy⟩:=YT hL;have hlr:L.length=r.length+1:=by rw[<-OE,hy];rfl
    refine AG Ag e1 AB AB AB AB AB AB ?_;refine BE.own _ (by
     have:=λn=>yJ c0 gb n L hL p []
     unfold bH;simp only[hy,hlr]at this⊢;exact this _) ?_
    rintro d H' n' ⟨rfl,rfl,rfl⟩;refine AG Ag kB AB AB AB AB AB AB ?_;exact AK rfl AA.out
   ·obtain⟨k',rfl⟩:∃k',k=k'+1:=⟨k-1,by omega⟩
    have e1:decide ((((k'+1:Nat):Int)-1)>=0)=true:=AZ (by omega);have e2:(((k'+1:Nat):Int)-1)=(k':Int):=by omega
    have wk:IntKind.i64.wrap ((k':Int)-1)=((k':Int)-1):=wI (by omega) (by omega);have e3:decide ((k':Int)>=0)=true:=AZ (by omega);obtain⟨t,ht⟩:∃t,P[k']?=some t:=CK (by omega);have hm:(FH P)[k']?=some (str (sb t)):=by rw[A7,ht];rfl
    have htn:=hall t (Aw ht);have hdr:P.drop k'=t::P.drop (k'+1):=by
     rw[EU (List.getElem?_eq_some_iff.1 ht).1,(List.getElem?_eq_some_iff.1 ht).2]
    have hj:pre++EM (P.drop k')=pre++EM (P.drop (k'+1))++t:=by
     rw[hdr,Di]
     congr 1
     unfold EM;rw[List.reverse_cons,List.flatten_append];simp
    have hlt:(pre++EM (P.drop (k'+1))).length+t.length<=100000000:=by
     have h1:=hjl k';have h2:(pre++EM (P.drop k')).length=(pre++EM (P.drop (k'+1))).length+t.length:=by rw[hj,Bk]
     rw[<-h2,Bk];omega
    rw[e2];refine AG Ag (Ad e3 kN) hm AB AB AB AB AB ?_;refine BE.own _ (gT c0 gb _ p hp (pre++EM (P.drop (k'+1))) t htn [] hlt) ?_;rintro d H' n' ⟨⟨g',rfl⟩,hn'⟩;refine BP ?_;refine AG Ag wk AB AB AB AB AB AB ?_;exact⟨(k',.optr 1500 c0 2 0 0,g',_),⟨by dsimp only;omega,.inr rfl⟩,by dsimp only;omega,by(dsimp only;rw[hj];exact AL)⟩
  have e1:=hmpos m hm;have c1:=gI m B hB0 (Db (Hi m n I.le) hf) (by rw[hBl];show 1<1000000;decide);have I2:=I.step hm hB;obtain⟨q,hq⟩:∃q,m/B=q:=⟨_,rfl⟩
  obtain⟨r,hr⟩:∃q,m%B=q:=⟨_,rfl⟩
  have hqm:q<m:=by rw[<-hq];exact IE (D8 hm) hB2
  have hrB:r<B:=by rw[<-hr];exact B4 _ (D8 hB0)
  rw[hq,hr]at c1 I2;have hsz:=Ci (Lib.decDigits r);have hdl:(Lib.decDigits r).length<=18:=Md 17 r (by rw[hB]at hrB;exact hrB);have hdl1:(Lib.decDigits r).length≠0:=λh=>Oq r (En h)
  refine AG Ag e1 AB AB AB AB AB AB ?_;refine cI c1 ?_;refine sR 800 ?_;refine Cz (α:=Nat) (λcnt=>⟨[(3,As neg),(5,wD B),(6,D3 1303 g 1 (FH P)),(7,wD q),(9,str (sb (Lib.decDigits r)))],Dt 1303 g 9 1 (FH P),cnt⟩) (λ_=>True) ?_ ?_
  ·rcases Nat.decEq r 0 with h0|h0
   ·have e2:=hmpos r h0
    have hl1:Af r=[r]:=Mg h0 (GB hrB hB1);have hmm:((Af r).map AR)[0]?=some (u64 (r:Int)):=by rw[hl1];rfl
    have c2:=rJ r (GB hrB hB1);refine AG Ag e2 hmm c2 AB AB AB AB ?_;exact⟨by trivial,_,trivial,AL⟩
   ·subst h0
    rw[YY];refine AG Ag hm0 AB AB AB AB AB AB ?_;exact⟨by trivial,_,trivial,AL⟩
  rintro cnt2 -;refine Cz (α:=Nat) (λcnt=>⟨[(3,As neg),(5,wD B),(6,D3 1303 g 1 (FH P)),(7,wD q),(9,str (sb (F3 q r)))],Dt 1303 g 9 1 (FH P),cnt⟩) (λ_=>True) ?_ ?_
  ·rcases Nat.decEq q 0 with h0|h0
   ·have e2:=hmpos q h0
    have c2:AJ C0 170 [str ⟨#[48]⟩,i64 ((18-(Lib.decDigits r).length:Nat):Int)] (str (sb (List.replicate (18-(Lib.decDigits r).length) 48))):=oy (18-(Lib.decDigits r).length) (by omega);have w18:IntKind.i64.wrap (18-((Lib.decDigits r).length:Int))=((18-(Lib.decDigits r).length:Nat):Int):=by rw[wI (by omega) (by omega)];omega
    have hap:=VK (List.replicate (18-(Lib.decDigits r).length) 48) (Lib.decDigits r);have hsz2:=Ci (List.replicate (18-(Lib.decDigits r).length) 48);have hpt:List.replicate (18-(Lib.decDigits r).length) 48++Lib.decDigits r=F3 q r:=by unfold F3;rw[AF h0]
    rw[hpt]at hap;have hsize:(sb (List.replicate (18-(Lib.decDigits r).length) 48)).size+(sb (Lib.decDigits r)).size<=9223372036854775807:=by
     rw[hsz,hsz2,Iu];omega
    refine AG Ag (BZ e2 hsz w18 hap) c2 AB AB AB AB AB ?_;exact⟨by trivial,_,trivial,AL⟩
   ·subst h0
    have hpt:F3 0 r=Lib.decDigits r:=AH rfl;rw[hpt];refine AG Ag hm0 AB AB AB AB AB AB ?_;exact⟨by trivial,_,trivial,AL⟩
  rintro cnt3 -;have hsn:FH (P++[F3 q r])=FH P++[str (sb (F3 q r))]:=by unfold FH;rw[DG];rfl
  have hPL:(FH P).length=P.length:=Am ..;rcases hPD:FH P with _|⟨y,l⟩
  all_goals
   rw[hPD]at hsn hPL;dsimp only[I6,I7,Hk,Hl,List.nil_append]
  ·refine AG Ag kB AB AB AB AB AB AB ?_
   exact⟨(q,P++[F3 q r],_,_),I2,hqm,by(dsimp only;rw[hsn];exact AL)⟩
  ·have htk:List.take (l.length+1) (y::l)=y::l:=by simp
   have hll:l.length+1<=27000001:=by rw[Bp]at hPL;omega
   refine AG Ag htk AB AB AB AB AB AB ?_;exact⟨(q,P++[F3 q r],_,_),I2,hqm,by(dsimp only;rw[hsn,OC];exact AL)⟩
abbrev Y9:Dr:=[(3,[0,1,2,3,4,5,6],[7,8])]
open Go.Proofs Go.RowKit
set_option maxRecDepth 20000
set_option maxHeartbeats 4000000
theorem nR (x:Nat)(hx:x<BB):AJ C0 194 [AR x] (i64 (Lib.bitLen x:Int)):=by
 refine⟨⟨_,_,Tryz.func194,rfl,by kernel_rfl⟩,λY w vs hG hnG hX hvs hr=>?_⟩
 have:=Ql hvs hr
 subst this;refine(Tryz.bits_Len64 x w (by omega) (by unfold BB at hx;omega)).mono ?_;rintro e w' ⟨rfl,rfl⟩;exact⟨_,_,rfl,.refl _ _,rfl,.prim _⟩
def E5 (n:Nat):Nat:=(Af n).getD ((Af n).length-1) 0
def Ie (n:Nat):Nat:=if n=0 then 0 else 64*((Af n).length-1)+Lib.bitLen (E5 n)
theorem oD (n:Nat):n<2^Ie n:=by
 unfold Ie
 by_cases h:n=0
 ·subst h;rw[AH rfl];decide
 ·rw[AF h]
  have hl:(Af n).length≠0:=λq=>by
   have:=GK h
   rw[this]at q;simp at q
  obtain⟨k,hk⟩:∃k,(Af n).length=k+1:=⟨(Af n).length-1,by omega⟩
  have hat:(Af n)[k]?=some (E5 n):=by
   unfold E5;rw[hk,Ip,Dw,BG (by omega)];rfl
  have hv:=Kt hat;rw[Hb (by omega),Et]at hv;have ht:E5 n<BB:=FG n _ (Aw hat);have h1:AS ((Af n).take k)<BB^k:=by
   have:=Ho (l:=(Af n).take k) λa ha=>FG n a (FX ha)
   rwa [Bb,FC (by omega)]at this
  have h2:E5 n<2^Lib.bitLen (E5 n):=by
   by_cases t0:E5 n=0
   ·rw[t0];exact G7 _
   ·exact(Lib.bitLenAux_bounds 64 (E5 n) ht t0).2.2
  have h3:BB^k=2^(64*k):=by rw[Nat.pow_mul]
  rw[hk,Ip,GC,<-h3];have h4:n=AS ((Af n).take k)+BB^k*E5 n:=by simpa[AS]using hv
  have h5:BB^k*(E5 n+1)<=BB^k*2^Lib.bitLen (E5 n):=Cc _ h2;rw[BN,EG]at h5;omega
def Jv (n:Nat):Bool:=decide (600<(Lib.decDigits n).length)
theorem kW (n:Nat):Jv n=(decide (Ie n>1800)&&Jv n):=by
 by_cases h:Ie n>1800
 ·rw[AZ h,Gi]
 ·rw[Ah h,HX]
  have key:∀k,Ie n<=3*(k+1)->(Lib.decDigits n).length<=k+1:=λk hk=>Md k n (CZ (oD n) (BR (FY (by decide) hk) (by rw[Nat.pow_mul];exact Nr (by decide) (k+1))))
  have h4:=key 599 (by omega);exact Ah (by omega)
theorem r8 (x:GI)(h:x.wf)(hf:x.few):AJ C0 164 [x.D] (i64 (Ie x.z.natAbs:Nat)):=by
 refine Aj.walk w1 ab rfl λF=>?_
 have c1:=Jh x h;obtain⟨n,hn⟩:∃n,x.z.natAbs=n:=⟨_,rfl⟩
 unfold GI.few at hf;rw[hn]at c1 hf⊢;have el:((((Af n).map AR).length:Nat):Int)=((Af n).length:Int):=by rw[Am]
 unfold wD wL at c1;dsimp only[GI.D]at c1⊢
 by_cases h0:n=0
 ·have e1:(((Af n).length:Int)==0)=true:=by rw[h0,Ft];rfl
  have hb:Ie n=0:=AH h0;rw[hb];refine AG Ag (Ad e1 el) c1 AB AB AB AB AB ?_;exact AK rfl AA.out
 ·have hl:(Af n).length≠0:=λq=>by
   have:=GK h0
   rw[this]at q;simp at q
  have e1:(((Af n).length:Int)==0)=false:=ym hl;have wl:IntKind.i64.wrap (((Af n).length:Int)-1)=(((Af n).length-1:Nat):Int):=by rw[wI (by omega) (by omega)];omega
  have wm:IntKind.i64.wrap (64*(((Af n).length-1:Nat):Int))=((64*((Af n).length-1):Nat):Int):=by rw[wI (by omega) (by omega)];omega
  have hat:(Af n)[(Af n).length-1]?=some (E5 n):=by
   unfold E5;rw[Dw,BG (by omega)];rfl
  have hm:((Af n).map AR)[(Af n).length-1]?=some (u64 (E5 n:Int)):=by rw[A7,hat];rfl
  have ht:E5 n<BB:=FG n _ (Aw hat);have c2:=nR (E5 n) ht;have hbl:=Lib.bitLen_le (E5 n) 64 (Ai _) ht;have wa:IntKind.i64.wrap (((64*((Af n).length-1):Nat):Int)+(Lib.bitLen (E5 n):Int))=((Ie n:Nat):Int):=by
   have hb:Ie n=64*((Af n).length-1)+Lib.bitLen (E5 n):=AF h0;rw[hb,wI (by omega) (by omega)];omega
  refine AG Ag (EQ e1 el wl wm wa kN) c1 hm c2 AB AB AB ?_;exact AK rfl AA.out
theorem b9 (x:GI)(h:x.wf)(hf:x.few):AJ C0 123 [x.D] (As (Jv x.z.natAbs)):=by
 refine Aj.walk w1 aK rfl λF=>?_
 have c1:=r8 x h hf;have c2:=Tl x h hf;have hlen:(Lib.decDigits x.z.natAbs).length<=27*1000000+1:=NF (k:=1000000) (by unfold GI.few at hf;omega);have hil:(Lib.itoa x.z).length<=27000002:=by
  unfold Lib.itoa;split
  ·rw[Bp];omega
  ·rw[show x.z.toNat=x.z.natAbs by omega];omega
 have c3:=So (Lib.itoa x.z) (by omega);rw[(Mm x.z).2]at c3;have hsz:=Ci (Lib.decDigits x.z.natAbs);have hlb:=kW x.z.natAbs;obtain⟨b,hb⟩:∃b,Jv x.z.natAbs=b:=⟨_,rfl⟩
 have e2:decide (((Lib.decDigits x.z.natAbs).length:Int)>600)=b:=by rw[<-hb];exact C5.2 (by omega)
 obtain⟨p,hp⟩:∃b,decide (Ie x.z.natAbs>1800)=b:=⟨_,rfl⟩
 have e1:decide (((Ie x.z.natAbs:Nat):Int)>1800)=p:=by rw[<-hp];exact C5.2 (by omega)
 rw[hb,hp]at hlb;rw[hb,hlb];dsimp only[GI.D]at c1 c2⊢;cases p
 ·refine AG Ag e1 c1 AB AB AB AB AB ?_
  exact AK rfl AA.out
 ·refine AG Ag (At e1 e2 hsz) c1 c2 c3 AB AB AB ?_
  exact AK rfl AA.out
theorem bW {r:Rat}{x:GF}{k:Nat}(h:FR r x k)(hk:k<100000):x.n.wf/\x.n.few/\(AX (x.d:Int)).wf/\(AX (x.d:Int)).few/\x.n.z=r.num/\x.d=r.den/\0<x.d:=
 ⟨h.is.1,h.fn (by omega),Cj _,by
  show(Af ((x.d:Int)).natAbs).length<1000000;rw[ET];have:=h.ld;omega,h.is.2.1,h.is.2.2,h.dpos⟩
theorem ZU {r:Rat}{x:GF}{k:Nat}(h:FR r x k)(hk:k<100000):AJ C0 77 [x.D] (As (Du r)):=by
 refine Aj.walk w1 eK rfl λF=>?_
 obtain⟨h1,h2,h3,h4,h5,h6,_⟩:=bW h hk;have c1:=b9 x.n h1 h2;have c2:=b9 (AX (x.d:Int)) h3 h4;have hb:Du r=(Jv x.n.z.natAbs||Jv (AX (x.d:Int)).z.natAbs):=by
  unfold Du Jv;rw[h5,<-h6];rfl
 rw[hb];obtain⟨p,hp⟩:∃b,Jv x.n.z.natAbs=b:=⟨_,rfl⟩
 obtain⟨q,hq⟩:∃b,Jv (AX (x.d:Int)).z.natAbs=b:=⟨_,rfl⟩
 rw[hp]at c1;rw[hq]at c2;rw[hp,hq];dsimp only[GI.D,GF.D]at c1 c2⊢;generalize AX (x.d:Int)=y at c2⊢;cases p<;>cases q
 all_goals
  refine AG Ag kB c1 c2 AB AB AB AB ?_;exact AK rfl AA.out
theorem dg {r:Rat}{x:GF}{k:Nat}(h:FR r x k)(hk:k<100000):AJ C0 78 [x.D] (str (sb (BO r))):=by
 refine Aj.walk w1 eL rfl λF=>?_
 obtain⟨h1,h2,h3,h4,h5,h6,h7⟩:=bW h hk;have c0:=TC x h7;have c1:=Tl x.n h1 h2;have c2:=Tl (AX (x.d:Int)) h3 h4;have hd:Lib.itoa (AX (x.d:Int)).z=Lib.decDigits r.den:=by
  show Lib.itoa (x.d:Int)=_;unfold Lib.itoa;rw[AF (by omega),h6];rfl
 rw[hd]at c2;rw[h5]at c1;have l1:(Lib.itoa r.num).length<=27000002:=by
  have:(Lib.decDigits x.n.z.natAbs).length<=27*1000000+1:=NF (k:=1000000) (by unfold GI.few at h2;omega)
  rw[h5]at this;unfold Lib.itoa;split
  ·rw[Bp];omega
  ·rw[show r.num.toNat=r.num.natAbs by omega];omega
 have l2:(Lib.decDigits r.den).length<=27000001:=by
  have:(Lib.decDigits (AX (x.d:Int)).z.natAbs).length<=27*1000000+1:=NF (k:=1000000) (by unfold GI.few at h4;omega)
  rw[<-h6];exact this
 have s1:=Ci (Lib.itoa r.num);have s2:=Ci (Lib.decDigits r.den);have s3:(sb [47]).size=1:=rfl;have s4:=Ci (Lib.itoa r.num++[47]);have z1:(sb (Lib.itoa r.num)).size+(sb [47]).size<=9223372036854775807:=by rw[s1,s3];omega
 have z2:(sb (Lib.itoa r.num++[47])).size+(sb (Lib.decDigits r.den)).size<=9223372036854775807:=by rw[s4,s2,Bk,Gj];omega
 have a1:sb (Lib.itoa r.num)++(⟨#[47]⟩:ByteArray)=sb (Lib.itoa r.num++[47]):=VK _ [47];have a2:=VK (Lib.itoa r.num++[47]) (Lib.decDigits r.den);rw[Di]at a2;dsimp only[GI.D,GF.D]at c0 c1 c2⊢;generalize AX (x.d:Int)=y at c0 c2⊢;unfold BO
 by_cases g:x.d=1
 ·rw[AZ g]at c0
  rw[AH (h6 ▸ g)];refine AG Y9 kB c0 c1 AB AB AB AB ?_;exact AK rfl AA.out
 ·rw[Ah g]at c0
  rw[AF (λq=>g (h6.trans q))];refine AG Y9 (Ad a1 a2) c0 c1 c2 AB AB AB ?_;exact AK rfl AA.out
set_option maxHeartbeats 4000000
def nb (r:Rat)(n d:Nat):Prop:=r.num.natAbs<=n/\r.den<=d
def P3:Nat:=10^40
theorem pu {l:List UInt8}(h:Cb l=0)(hl:l.length<=40):nb (CT l) P3 P3:=by
 obtain⟨m1,m2,m3,m4⟩:=OF h;obtain⟨p1,p2⟩:=P7 h;have hs1:(B3 l).length<=40:=by
  have:(B3 l).length<=l.length:=by
   unfold B3;have a1:(Bo (B1 l)).length<=(B1 l).length:=by unfold Bo;split<;>simp
   have a2:(B1 l).length<=l.length:=by unfold B1;rw[Bb];omega
   omega
  omega
 have hb:∀k,k<=40->(10:Nat)^k<=P3:=λk hk=>FY (by decide) hk
 refine⟨?_,?_⟩
 ·rw[m1,m4]
  exact BR (KL (GS _ p1)) (hb _ hs1)
 ·rw[m2]
  unfold G1;cases hs:Cu l
  ·exact(by decide:1<=P3)
  ·have hs2:(BY l).length<=40:=by
    have:(BY l).length<=l.length:=by unfold BY;simp
    omega
   exact BR (KL (GS _ (p2 hs))) (hb _ hs2)
theorem xw {r:Rat}{n d k:Nat}(h:nb r n d)(h1:n<BB^k)(h2:d<BB^k):rk r k:=
 ⟨HB (Db h.1 h1),HB (Db h.2 h2)⟩
theorem iC {l:List UInt8}(h:Cb l=0)(hl:l.length<=40):rk (CT l) 3:=xw (pu h hl) (by decide) (by decide)
theorem Z3 (k:Nat)(hk:1<=k):FR 0 ⟨AX 0,1⟩ k:=⟨⟨Cj _,by rw[Dq];rfl,rfl⟩,by
 refine rk.mono (k:=1) ?_ hk;exact⟨HB (k:=1) (by decide),HB (k:=1) (by decide)⟩⟩
abbrev GH:Dr:=[(11,[0,1,2,3,4,5,6,7,8,9,10],[11,12]),(21,[0,1],[2,3])]
open Go.Proofs Go.RowKit
set_option maxRecDepth 20000
set_option maxHeartbeats 4000000
def PC (a b:List UInt8):Bool:=MA (sb a) (sb b)||BF (sb a) (sb b)
def FZ (l:List Av)(i:Nat):Nat:=
 if Dg (Fq l i).lot=false then 8 else if 0<i/\PC (Fq l i).lot (Fq l (i-1)).lot=true then 11 else if Cb (Fq l i).part≠0 then Cb (Fq l i).part else if Gy (CT (Fq l i).part)<=0 then 12 else 0
def E3 (l:List Av):Nat->Rat
 | 0=>0
 |n+1=>E3 l n+CT (Fq l n).part
def Ht (l:List Av):Nat:=if l.length=0 then 2 else if 64<l.length then 5 else if Dm (FZ l) l.length≠0 then Dm (FZ l) l.length else if E3 l l.length=1 then 0 else 12
theorem Qu (l:List UInt8):AJ C0 75 [str (sb l)] (As (Dg l)):=kS (sb l)
theorem o9 (a b:Rat):(MN a b==0)=decide (a=b):=by
 unfold MN
 by_cases h:a<b
 ·rw[AH h,Ah (Rat.ne_of_lt h)];rfl
 ·rw[AF h]
  by_cases h2:b<a
  ·rw[AH h2,Ah λe=>Rat.ne_of_lt h2 e.symm];rfl
  ·rw[AF h2,AZ (Rat.le_antisymm (Rat.not_lt.1 h2) (Rat.not_lt.1 h))];rfl
theorem vM {a b:Rat}{x y:GF}{i j:Nat}(hx:FR a x i)(hy:FR b y j)(hk:i+j<300000):AJ C0 184 [x.D,y.D] (As (decide (a=b))):=by
 refine Aj.walk w1 bq rfl λF=>?_
 have c:=rE hx hy hk;have e:=o9 a b;obtain⟨r,hr⟩:∃r,MN a b=r:=⟨_,rfl⟩
 rw[hr]at c e;obtain⟨xD,hxD⟩:∃d,x.D=d:=⟨_,rfl⟩
 obtain⟨yD,hyD⟩:∃d,y.D=d:=⟨_,rfl⟩
 unfold GF.D at c hxD hyD⊢;refine AG Ag e c AB AB AB AB AB ?_;exact AK rfl AA.out
theorem vX:FR 1 ⟨AX 1,1⟩ 1:=by
 have:=Q9 (z:=1) (by decide)
 exact this
theorem yY (b:Bool)(l:List Av)(hl:l.length<=9223372036854775807)(hf:∀s∈l,s.few):AJ C0 145 [CX b l] (i64 (Ht l:Nat)):=by
 refine Aj.walk w1 aW rfl λF=>?_
 have el:(((l.map Av.D).length:Nat):Int)=(l.length:Int):=by rw[Am]
 have hC:Ht l=if l.length=0 then 2 else if 64<l.length then 5 else if Dm (FZ l) l.length≠0 then Dm (FZ l) l.length else if E3 l l.length=1 then 0 else 12:=rfl
 rcases Nat.decEq l.length 0 with h0|h0
 rotate_left
 ·rw[AH h0]at hC
  rw[hC];have q1:((l.length:Int)==0)=true:=by rw[h0];rfl
  refine AG GH (Ad el q1) AB AB AB AB AB AB ?_;exact AK rfl AA.out
 rw[AF h0]at hC;have q1:((l.length:Int)==0)=false:=Bu.2 (by omega)
 by_cases h64:64<l.length
 ·rw[AH h64]at hC
  rw[hC];have q2:decide ((l.length:Int)>64)=true:=AZ (by omega);refine AG GH (At el q1 q2) AB AB AB AB AB AB ?_;exact AK rfl AA.out
 rw[AF h64]at hC;have q2:decide ((l.length:Int)>64)=false:=Ah (by omega);have c0:=PS 0 ⟨by decide,by decide⟩;have c1:=PS 1 ⟨by decide,by decide⟩;refine AG GH (At el q1 q2) c0 AB AB AB AB AB ?_;refine AC.loop (α:=Nat×GF×Nat) (λp=>⟨[(0,CX b l),(3,.optr 501 8 4 0 0),(15,CX b l),(16,i64 (l.length:Int)),(17,i64 (p.1:Int))],[⟨501,8,122,4,[p.2.1.D]⟩],p.2.2⟩) (λp=>l.length-p.1) (λp=>p.1<=l.length/\(∀j,j<p.1->FZ l j=0)/\FR (E3 l p.1) p.2.1 (601*p.1+1)) (0,⟨AX 0,1⟩,_)
  ⟨BX _,λj h=>Ae h (G6 j),Z3 1 (Ai _)⟩ AL ?_
 rintro⟨i,y,m⟩ F ⟨hi,hz,hS⟩;dsimp only at hi hz hS⊢;rcases BI i l.length with h2|h2
 rotate_left
 ·have e1:=Cd h2
  have:i=l.length:=by omega
  subst this;rw[AF (λh=>h (KY hz))]at hC;have cS:=vM hS vX (by omega);obtain⟨q,hq⟩:∃q,decide (E3 l l.length=1)=q:=⟨_,rfl⟩
  rw[hq]at cS;cases q
  ·rw[AF (DP hq)]at hC
   rw[hC];refine AG GH e1 c1 cS AB AB AB AB ?_;exact AK rfl AA.out
  ·rw[AH (C6 hq)]at hC
   rw[hC];refine AG GH e1 c1 cS AB AB AB AB ?_;exact AK rfl AA.out
 have e1:=Ce h2;have wi:=Cf (i:=i) (by omega);obtain⟨s,hs⟩:=CK h2;have hm:(l.map Av.D)[i]?=some (.agg [str (sb s.lot),str (sb s.part)]):=by rw[A7,hs];rfl
 obtain⟨f1,f2⟩:=hf s (Aw hs);have hE:FZ l i=if Dg s.lot=false then 8 else if 0<i/\PC s.lot (Fq l (i-1)).lot=true then 11 else if Cb s.part≠0 then Cb s.part else if Gy (CT s.part)<=0 then 12 else 0:=by unfold FZ;rw[Jo hs]
 have hbad:∀e:Nat,e≠0->FZ l i=e->Ht l=e:=λe he h=>by
  have:=Oe hz h2 (by rw[h];exact he)
  rw[hC,this,h,AH he]
 have cN:=Qu s.lot;obtain⟨N,hN⟩:∃q,Dg s.lot=q:=⟨_,rfl⟩
 rw[hN]at cN hE;cases N
 ·rw[AH rfl]at hE
  rw[hbad 8 (by decide) hE];refine AG GH (Ad e1 kN) hm cN AB AB AB AB ?_;exact AK rfl AA.out
 rw[AF (by decide)]at hE;have cC:=me s.part f2;rcases i with _|q
 ·have g0:decide (((0:Nat):Int)>0)=false:=rfl
  rw[AF (λh=>Ae h.1 (Nat.lt_irrefl 0))]at hE;rcases Nat.decEq (Cb s.part) 0 with hc0|hc0
  ·rw[AH hc0]at hE
   have e3:=GX hc0;rw[hbad (Cb s.part) hc0 hE];refine AG GH (BZ e1 g0 kN e3) hm cN cC AB AB AB ?_;exact AK rfl AA.out
  rw[AF (λh=>h hc0)]at hE;have e3:=GY hc0;have cP:=RM f2 hc0;have fP:=RY hc0;have cG:=Zc fP.is;have cA:=RG hS fP (by omega);have fA:=Qz hS fP;obtain⟨z,hzz⟩:∃z,KC y (GT s.part)=z:=⟨_,rfl⟩
  rw[hzz]at cA fA;obtain⟨sg,hsg⟩:∃q,Gy (CT s.part)=q:=⟨_,rfl⟩
  rw[hsg]at cG hE
  by_cases hs0:sg<=0
  ·rw[AH hs0]at hE
   have e4:decide (sg<=0)=true:=AZ hs0;rw[hbad 12 (by decide) hE];refine AG GH (CO e1 g0 kN e3 e4) hm cN cC cP cG AB ?_;exact AK rfl AA.out
  rw[AF hs0]at hE;have e4:decide (sg<=0)=false:=Ah hs0;refine AG GH (EQ e1 g0 kN e3 e4 wi) hm cN cC cP cG AB ?_;refine cI cA ?_;refine AG GH wi AB AB AB AB AB AB ?_;exact⟨(0+1,z,_),⟨h2,λj hj=>by
   rcases Nat.lt_succ_iff_lt_or_eq.1 hj with q|q
   ·exact hz j q
   ·rw[q];exact hE,by
   show FR (E3 l 0+CT (Fq l 0).part) z _;rw[Jo hs];exact⟨fA.is,fA.rk.mono (by dsimp only;omega)⟩⟩,by dsimp only;omega,AL⟩
 ·have g0:decide (((q+1:Nat):Int)>0)=true:=AZ (by omega)
  have g1:IntKind.i64.wrap (((q+1:Nat):Int)-1)=(q:Int):=by rw[wI (by omega) (by omega)];omega
  obtain⟨s0,hs0'⟩:=CK (l:=l) (i:=q) (by omega);have hm0:(l.map Av.D)[q]?=some (.agg [str (sb s0.lot),str (sb s0.part)]):=by rw[A7,hs0'];rfl
  rw[Ip,Jo hs0']at hE;obtain⟨bL,hbL⟩:∃q,PC s.lot s0.lot=q:=⟨_,rfl⟩
  have g2:(MA (sb s.lot) (sb s0.lot)||BF (sb s.lot) (sb s0.lot))=bL:=hbL;rw[hbL]at hE;cases bL
  rotate_left
  ·rw[AH ⟨Nat.succ_pos q,rfl⟩]at hE
   rw[hbad 11 (by decide) hE];refine AG GH (CO e1 g0 g1 g2 kN) hm hm0 cN AB AB AB ?_;exact AK rfl AA.out
  rw[AF (λh=>Ae h.2 (by decide))]at hE;rcases Nat.decEq (Cb s.part) 0 with hc0|hc0
  ·rw[AH hc0]at hE
   have e3:=GX hc0;rw[hbad (Cb s.part) hc0 hE];refine AG GH (EQ e1 g0 g1 g2 kN e3) hm hm0 cN cC AB AB ?_;exact AK rfl AA.out
  rw[AF (λh=>h hc0)]at hE;have e3:=GY hc0;have cP:=RM f2 hc0;have fP:=RY hc0;have cG:=Zc fP.is;have cA:=RG hS fP (by omega);have fA:=Qz hS fP;obtain⟨z,hzz⟩:∃z,KC y (GT s.part)=z:=⟨_,rfl⟩
  rw[hzz]at cA fA;obtain⟨sg,hsg⟩:∃q,Gy (CT s.part)=q:=⟨_,rfl⟩
  rw[hsg]at cG hE
  by_cases hs0:sg<=0
  ·rw[AH hs0]at hE
   have e4:decide (sg<=0)=true:=AZ hs0;rw[hbad 12 (by decide) hE];refine AG GH (CJ e1 g0 g1 g2 kN e3 e4) hm hm0 cN cC cP cG ?_;exact AK rfl AA.out
  rw[AF hs0]at hE;have e4:decide (sg<=0)=false:=Ah hs0;refine AG GH (CJ e1 g0 g1 g2 kN e3 (Ad e4 wi)) hm hm0 cN cC cP cG ?_;refine cI cA ?_;refine AG GH wi AB AB AB AB AB AB ?_;exact⟨(q+1+1,z,_),⟨h2,λj hj=>by
   rcases Nat.lt_succ_iff_lt_or_eq.1 hj with q|q
   ·exact hz j q
   ·rw[q];exact hE,by
   show FR (E3 l (q+1)+CT (Fq l (q+1)).part) z _;rw[Jo hs];exact⟨fA.is,fA.rk.mono (by dsimp only;omega)⟩⟩,by dsimp only;omega,AL⟩
def AD.few (x:AD):Prop:=x.grain.length<=100000/\x.shs.length<=9223372036854775807/\∀s∈x.shs,s.few
def Ca (x:AD):Nat:=if Dg x.grain=false then 8 else if x.mass<1\/x.mass>999999999 then 3 else Ht x.shs
def CI (l:List AD)(k:Nat):AD:=l.getD k ⟨[],0,[]⟩
theorem Fg {l:List AD}{k:Nat}{x:AD}(h:l[k]?=some x):CI l k=x:=by unfold CI;rw[Dw,h];rfl
def AT (l:List AD):Int:=(l.map (·.mass)).sum
theorem TN {l:List AD}{i:Nat}{x:AD}(h:l[i]?=some x):AT (l.take (i+1))=AT (l.take i)+x.mass:=by
 unfold AT;rw[Dp,h,DG,List.sum_append];simp
def Ia (l:List AD):Prop:=l.length<=1000000/\∀x∈l,x.mass.natAbs<=1000000000
theorem UE {l:List AD}(h:∀x∈l,x.mass.natAbs<=1000000000):(AT l).natAbs<=l.length*1000000000:=by
 unfold AT
 induction l with
 |nil=>simp
 |cons a l ih=>
  have h1:=h a (by simp);have h2:=ih λx hx=>h x (by simp[hx])
  simp only[Ct,List.sum_cons,Bp];omega
def Be (l:List AD):Nat:=if 64<l.length then 5 else if Dm (λi=>Ca (CI l i)) l.length≠0 then Dm (λi=>Ca (CI l i)) l.length else if AT l>999999999 then 4 else 0
theorem OZ {x:AD}(h:Ca x=0):Dg x.grain=true/\1<=x.mass/\x.mass<=999999999/\Ht x.shs=0:=by
 unfold Ca at h;split at h
 ·cases h
 ·rename_i h1
  split at h
  ·cases h
  ·rename_i h2
   exact⟨by simpa using h1,by omega,by omega,h⟩
theorem GQ (b:Bool)(e:Int):AJ C0 56 [As b,i64 e] (i64 (if b then e else 0)):=by
 refine Aj.walk w1 fH rfl λF=>?_
 cases b
 ·refine AG Ag kB AB AB AB AB AB AB ?_
  exact AK rfl AA.out
 ·refine AG Ag kB AB AB AB AB AB AB ?_
  exact AK rfl AA.out
theorem JI (v:List Int)(hl:v.length<=1000):AJ C0 54 [.sl true 1 (v.map λe=>i64 e)] (i64 (DX v)):=by
 refine Aj.walk w1 fF rfl λF=>?_
 have el:(((v.map λe=>i64 e).length:Nat):Int)=(v.length:Int):=by rw[Am]
 refine AG Ag el AB AB AB AB AB AB ?_;refine AC.loop (α:=Nat×Nat) (λp=>⟨[(5,.sl true 1 (v.map λe=>i64 e)),(6,i64 (v.length:Int)),(7,i64 (p.1:Int))],[],p.2⟩) (λp=>v.length-p.1) (λp=>p.1<=v.length/\∀(j:Nat) (e:Int),j<p.1->v[j]?=some e->e=0) (0,_) ⟨BX _,λj e h=>Ae h (G6 j)⟩ AL ?_;rintro⟨i,m⟩ F ⟨hi,ha⟩;dsimp only at hi ha⊢;rcases BI i v.length with h2|h2
 rotate_left
 ·have e1:=Cd h2
  have:i=v.length:=by omega
  subst this;have hd:DX v=0:=by rw[Wg ha,JX];rfl
  rw[hd];refine AG Ag e1 AB AB AB AB AB AB ?_;exact AK rfl AA.out
 have e1:=Ce h2;have wi:=Cf (i:=i) (by omega);obtain⟨l,hl'⟩:=CK h2;have hm:(v.map λe=>i64 e)[i]?=some (i64 l):=by rw[A7,hl'];rfl
 by_cases g:l=0
 ·have e5:(l != 0)=false:=by rw[g];rfl
  refine AG Ag (BZ e1 wi e5 kN) hm AB AB AB AB AB ?_;exact⟨(i+1,_),⟨h2,λj e hj he=>by
   rcases Nat.lt_succ_iff_lt_or_eq.1 hj with q|q
   ·exact ha j e q he
   ·subst q;rw[hl']at he;cases he;exact g⟩,by dsimp only;omega,AL⟩
 ·have e5:(l != 0)=true:=Gs g
  have hd:DX v=l:=by
   rw[Wg ha,EU h2];rw[BG h2]at hl';rw[F7 hl'];exact AH g
  rw[hd];refine AG Ag (BZ e1 wi e5 kN) hm AB AB AB AB AB ?_;exact AK rfl AA.out
theorem ai (b:Bool)(l:List AD)(hs:Ia l):AJ C0 57 [AY b l] (i64 (AT l)):=by
 refine Aj.walk w1 VR rfl λF=>?_
 have el:(((l.map AD.D).length:Nat):Int)=(l.length:Int):=by rw[Am]
 obtain⟨hl,hm0⟩:=hs;refine AG Ag el AB AB AB AB AB AB ?_;refine AC.loop (α:=Nat×Nat) (λp=>⟨[(3,i64 (AT (l.take p.1))),(6,AY b l),(7,i64 (l.length:Int)),(8,i64 (p.1:Int))],[],p.2⟩) (λp=>l.length-p.1) (λp=>p.1<=l.length) (0,_) (BX _) AL ?_;rintro⟨i,m⟩ F hi;dsimp only at hi⊢;rcases BI i l.length with h2|h2
 rotate_left
 ·have e1:=Cd h2
  have:i=l.length:=by omega
  subst this;rw[DV];refine AG Ag e1 AB AB AB AB AB AB ?_;exact AK rfl AA.out
 have e1:=Ce h2;have wi:=Cf (i:=i) (by omega);obtain⟨x,hx⟩:=CK h2;have hm:(l.map AD.D)[i]?=some (.agg [str (sb x.grain),i64 x.mass,.sl false 2 (x.shs.map Av.D)]):=by rw[A7,hx];rfl
 have hb:=UE (l:=l.take i) λy hy=>hm0 y (FX hy)
 have hxm:=hm0 x (Aw hx);rw[Bb,FC hi]at hb;have wS:IntKind.i64.wrap (AT (l.take i)+x.mass)=AT (l.take (i+1)):=by rw[TN hx,wI (by omega) (by omega)]
 refine AG Ag (BZ e1 wi @wS kN) hm AB AB AB AB AB ?_;exact⟨(i+1,_),h2,by dsimp only;omega,AL⟩
theorem gN (x:AD)(hf:x.few):AJ C0 107 [x.D] (i64 (Ca x:Nat)):=by
 refine Aj.walk w1 aC rfl λF=>?_
 obtain⟨f1,f2,f3⟩:=hf;have cN:=Qu x.grain;have cS:=yY false x.shs f2 f3;have hC:Ca x=if Dg x.grain=false then 8 else if x.mass<1\/x.mass>999999999 then 3 else Ht x.shs:=rfl
 obtain⟨N,hN⟩:∃q,Dg x.grain=q:=⟨_,rfl⟩
 obtain⟨SD,hSD⟩:∃d,CX false x.shs=d:=⟨_,rfl⟩
 have pS:AA SD:=by rw[<-hSD];exact AI
 have hna:Jm SD=true:=by rw[<-hSD];rfl
 unfold AD.D;rw[hN]at cN hC;rw[hSD]at cS⊢;cases N
 ·rw[AH rfl]at hC
  rw[hC];refine AG Ag kB cN AB AB AB AB AB ?_;exact AK rfl AA.out
 rw[AF (by decide)]at hC
 by_cases h1:x.mass<1
 ·rw[AH (.inl h1)]at hC
  rw[hC];have e1:decide (x.mass<1)=true:=AZ h1;refine AG Ag e1 cN AB AB AB AB AB ?_;exact AK rfl AA.out
 have e1:decide (x.mass<1)=false:=Ah h1
 by_cases h2:x.mass>999999999
 ·rw[AH (.inr h2)]at hC
  rw[hC];have e2:decide (x.mass>999999999)=true:=AZ h2;refine AG Ag (Ad e1 e2) cN AB AB AB AB AB ?_;exact AK rfl AA.out
 have e2:decide (x.mass>999999999)=false:=Ah h2;rw[AF (by omega)]at hC;rw[hC];refine AG Ag (At e1 e2 hna) cN cS AB AB AB AB ?_;exact AK rfl AA.out
theorem TW {l:List AD}(h64:¬ 64<l.length)(hz:∀j,j<l.length->Ca (CI l j)=0):Ia l:=by
 refine⟨by omega,λx hx=>?_⟩;obtain⟨j,hj⟩:=List.mem_iff_getElem?.1 hx
 have:=hz j (List.getElem?_eq_some_iff.1 hj).1
 rw[Fg hj]at this
 have:=OZ this
 omega
theorem MK (b:Bool)(l:List AD)(hl:l.length<=9223372036854775807)(hf:∀x∈l,x.few):AJ C0 68 [AY b l] (i64 (Be l:Nat)):=by
 refine Aj.walk w1 eE rfl λF=>?_
 have el:(((l.map AD.D).length:Nat):Int)=(l.length:Int):=by rw[Am]
 have hC:Be l=if 64<l.length then 5 else if Dm (λi=>Ca (CI l i)) l.length≠0 then Dm (λi=>Ca (CI l i)) l.length else if AT l>999999999 then 4 else 0:=rfl
 by_cases h64:64<l.length
 ·rw[AH h64]at hC
  rw[hC];have q2:decide ((l.length:Int)>64)=true:=AZ (by omega);refine AG Ag (Ad el q2) AB AB AB AB AB AB ?_;exact AK rfl AA.out
 rw[AF h64]at hC;have q2:decide ((l.length:Int)>64)=false:=Ah (by omega);refine AG Ag (Ad el q2) AB AB AB AB AB AB ?_;refine AC.loop (α:=Nat×Nat) (λp=>⟨[(0,AY b l),(9,AY b l),(10,i64 (l.length:Int)),(11,i64 (p.1:Int))],[],p.2⟩) (λp=>l.length-p.1) (λp=>p.1<=l.length/\∀j,j<p.1->Ca (CI l j)=0) (0,_) ⟨BX _,λj h=>Ae h (G6 j)⟩ AL ?_;rintro⟨i,m⟩ F ⟨hi,hz⟩;dsimp only at hi hz⊢;rcases BI i l.length with h2|h2
 rotate_left
 ·have e1:=Cd h2
  have:i=l.length:=by omega
  subst this;rw[AF (λh=>h (KY (f:=λi=>Ca (CI l i)) hz))]at hC;have cT:=ai b l (TW h64 hz);obtain⟨q,hq⟩:∃q,decide (AT l>999999999)=q:=⟨_,rfl⟩
  have cW:=GQ q 4;have hR:((Be l:Nat):Int)=if q then 4 else 0:=by
   rw[hC,<-hq]
   by_cases h:AT l>999999999
   ·rw[AH h,AZ h];rfl
   ·rw[AF h,Ah h];rfl
  rw[hR];refine AG Ag (Ad e1 hq) cT cW AB AB AB AB ?_;exact AK rfl AA.out
 have e1:=Ce h2;have wi:=Cf (i:=i) (by omega);obtain⟨x,hx⟩:=CK h2;have hm:(l.map AD.D)[i]?=some (.agg [str (sb x.grain),i64 x.mass,.sl false 2 (x.shs.map Av.D)]):=by rw[A7,hx];rfl
 have cL:=gN x (hf x (Aw hx));unfold AD.D at cL;rcases Nat.decEq (Ca x) 0 with hc0|hc0
 ·have e3:=GX hc0
  have:=Oe (f:=λi=>Ca (CI l i)) hz h2 (by rw[Fg hx];exact hc0)
  rw[Fg hx]at this;rw[this,AH hc0]at hC;rw[hC];refine AG Ag (At e1 e3 kN) hm cL AB AB AB AB ?_;exact AK rfl AA.out
 have e3:=GY hc0;refine AG Ag (BZ e1 e3 wi kN) hm cL AB AB AB AB ?_;exact⟨(i+1,_),⟨h2,λj hj=>by
  rcases Nat.lt_succ_iff_lt_or_eq.1 hj with q|q
  ·exact hz j q
  ·rw[q,Fg hx];exact hc0⟩,by dsimp only;omega,AL⟩
theorem YP {α:Type}{l:List α}{p:α->Bool}{k:Nat}{x:α}(hx:l[k]?=some x)(h:(l.take k).all p=true)(hp:p x=true):(l.take (k+1)).all p=true:=by
 rw[Dp,hx,KO,h];simp[hp]
theorem Ty {α:Type}{l:List α}{p:α->Bool}{k:Nat}{x:α}(hx:l[k]?=some x)(hp:p x=false):l.all p=false:=by
 cases h:l.all p
 ·rfl
 ·rw[CS.1 h x (Aw hx)]at hp;exact hp
abbrev Ms:Dr:=[(8,[0,1,2,3,4,5,6,7],[8])]
open Go.Proofs Go.RowKit
set_option maxRecDepth 20000
set_option maxHeartbeats 4000000
abbrev B0:=List (List UInt8×Rat)
def Fw (lot:List UInt8):B0->Option Rat
 | []=>none
 |p::l=>if lot=p.1 then some p.2 else Fw lot l
def GZ (lot:List UInt8)(r:Rat):B0->B0
 | []=>[(lot,r)]
 |p::l=>if lot=p.1 then(lot,r)::l else p::GZ lot r l
def KE (lot:List UInt8)(r:Rat)(q:B0):B0:=GZ lot (match Fw lot q with|some o=>r+o|none=>r) q
def GU (x:AD)(n:Nat)(q:B0):B0:=(x.shs.take n).foldl (λacc s=>KE s.lot (CT s.part*(x.mass:Rat)) acc) q
def CL (l:List AD):B0:=l.foldl (λacc x=>GU x x.shs.length acc) []
def MQ (B:Nat):B0->C9->Prop
 | [],[]=>True
 |p::q,e::m=>(e.1=sb p.1/\∃y:GF,e.2=y.D/\FR p.2 y B)/\MQ B q m
 |_,_=>False
theorem MQ.mono {B B':Nat}(hB:B<=B'):∀ {q:B0} {m:C9},MQ B q m->MQ B' q m
 | [],[],_=>trivial
 |_::_,_::_,⟨⟨h1,y,h2,h3⟩,h4⟩=>⟨⟨h1,y,h2,h3.is,h3.rk.mono hB⟩,MQ.mono hB h4⟩
theorem MQ.look {B:Nat}(lot:List UInt8):∀ {q:B0} {m:C9},MQ B q m->(II (sb lot) m=none/\Fw lot q=none)\/∃(r:Rat) (y:GF),II (sb lot) m=some y.D/\Fw lot q=some r/\FR r y B
 | [],[],_=>.inl ⟨rfl,rfl⟩
 |p::q,e::m,⟨⟨h1,y,h2,h3⟩,h4⟩=>by
  unfold II Fw;rw[h1,E2]
  by_cases hl:lot=p.1
  ·rw[AZ hl,AH hl]
   exact .inr ⟨p.2,y,by rw[h2];rfl,rfl,h3⟩
  ·rw[Ah hl,AF hl]
   exact MQ.look lot h4
theorem MQ.set {B:Nat}(lot:List UInt8){r:Rat}{y:GF}(hr:FR r y B):∀ {q:B0} {m:C9},MQ B q m->MQ B (GZ lot r q) (FS (sb lot) y.D m)
 | [],[],_=>⟨⟨rfl,y,rfl,hr⟩,trivial⟩
 |p::q,e::m,⟨⟨h1,y',h2,h3⟩,h4⟩=>by
  unfold GZ FS;rw[h1,E2]
  by_cases hl:lot=p.1
  ·rw[AZ hl,AH hl]
   exact⟨⟨rfl,y,rfl,hr⟩,h4⟩
  ·rw[Ah hl,AF hl]
   exact⟨⟨h1,y',h2,h3⟩,MQ.set lot hr h4⟩
theorem MQ.pure {B:Nat}:∀ {q:B0} {m:C9},MQ B q m->∀e∈m,B8 e.2
 | [],[],_,e,he=>by cases he
 |p::q,e::m,⟨⟨_,y,h2,_⟩,h4⟩,x,hx=>by
  rcases BA.1 hx with rfl|hx
  ·rw[h2];exact AA.out
  ·exact MQ.pure h4 x hx
theorem MQ.mapD {B:Nat}{q:B0}{m:C9}(h:MQ B q m):B8 (mapD m):=by
 refine B8.mp (λd hd=>?_) λd hd=>?_
 ·obtain⟨p,-,rfl⟩:=List.mem_map.1 hd;exact AA.out
 ·obtain⟨p,hp,rfl⟩:=List.mem_map.1 hd;exact h.pure p hp
def Av.ok (s:Av):Prop:=s.lot.length<=100000/\s.part.length<=40/\Cb s.part=0
def AD.ok (x:AD):Prop:=x.shs.length<=64/\Sm x.mass/\∀s∈x.shs,s.ok
def AD.okW (w:Nat)(x:AD):Prop:=x.shs.length<=64/\Sm x.mass/\∀s∈x.shs,s.lot.length<=100000/\s.part.length<=100000/\Cb s.part=0/\rk (CT s.part) (w-2)
theorem OI (x:AD)(n:Nat)(q:B0){s:Av}(h:x.shs[n]?=some s):GU x (n+1) q=KE s.lot (CT s.part*(x.mass:Rat)) (GU x n q):=by
 unfold GU;rw[Dp,h,List.foldl_append];rfl
theorem QD (l:List AD)(n:Nat){x:AD}(h:l[n]?=some x):CL (l.take (n+1))=GU x x.shs.length (CL (l.take n)):=by
 unfold CL;rw[Dp,h,List.foldl_append];rfl
theorem dT (w:Nat)(b:Bool)(l:List AD)(hl:l.length<=100)(hx:∀x∈l,x.okW w)(h2w:2<=w)(hw:w*(64*(l.length+1))<=100000):Aj C0 70 [AY b l] (λd=>∃m,d=mapD m/\MQ (w*(64*l.length)) (CL l) m):=by
 refine Aj.walk w1 eG rfl λF0=>?_
 have el:(((l.map AD.D).length:Nat):Int)=(l.length:Int):=by rw[Am]
 refine sZ 0 ?_;refine AE kB ?_;refine AC.seq ?_;refine IC (by kernel_rfl) ?_;change Bd _ _ _ _ _ [0,1] _ _;refine Bd.makeMap 100 rfl rfl rfl (V4 F0) (λF1 it hto hO hr0 hnX hM=>?_);change Bd _ _ _ _ _ ([1]++[]) _ _;refine FW w1 100 [1] [] ?_;refine AE kB ?_;refine Bd.nil ?_;refine AG Ms el AB AB AB AB AB AB ?_;refine Ge (α:=Nat×C9×Obj×Nat) (λp=>⟨[(3,.prim (.map (some it))),(12,AY b l),(13,i64 (l.length:Int)),(14,i64 (p.1:Int))],[],p.2.2.2⟩) (λp=>l.length-p.1)
  (λp F=>p.1<=l.length/\C7 C0 F0 F [⟨100,1,p.2.2.1⟩]/\F.r0 100 1=some it/\Hv F p.2.2.1 p.2.1/\MQ (w*(64*p.1)) (CL (l.take p.1)) p.2.1) (0,[],.map #[] 0,_) ⟨BX _,hO,hr0,hM,trivial⟩ AL ?_
 clear hO hr0 hM hto;rintro⟨i,m,o,n1⟩ F ⟨hi,hO,hr0,hM,hQ⟩;dsimp only at hi hO hr0 hM hQ⊢;rcases BI i l.length with h2|h2
 rotate_left
 ·have e1:=Cd h2
  have:i=l.length:=by omega
  subst this;rw[DV]at hQ;refine sZ 300 ?_;refine AE e1 ?_;refine AC.seq ?_;refine AM ?_;refine CC ?_;refine gh [(3,mapD m)] hO hr0 hnX hM ⟨.inr ⟨rfl,rfl⟩,trivial⟩ (λF2 hto2 hO2=>?_);refine AG Ms kB AB AB AB AB AB AB ?_;exact⟨mapD m,.refl _,hQ.mapD,m,rfl,hQ⟩
 have e1:=Ce h2;have wi:=Cf (i:=i) (by omega);obtain⟨x,hxi⟩:=CK h2;obtain⟨x1,x2,x3⟩:=hx x (Aw hxi);have hm:(l.map AD.D)[i]?=some (.agg [str (sb x.grain),i64 x.mass,.sl false 2 (x.shs.map Av.D)]):=by rw[A7,hxi];rfl
 have es:(((x.shs.map Av.D).length:Nat):Int)=(x.shs.length:Int):=by rw[Am]
 refine AG Ms (At e1 es kN) hm AB AB AB AB AB ?_;obtain⟨ga,hga⟩:∃g,n1+1+1+1=g:=⟨_,rfl⟩
 refine Ge (α:=Nat×C9×Obj×Nat) (λp=>⟨[(3,.prim (.map (some it))),(5,.optr 402 (n1+1+1+1) 3 0 0),(12,AY b l),(13,i64 (l.length:Int)),(14,i64 (i:Int)),(19,.sl false 2 (x.shs.map Av.D)),(20,i64 (x.shs.length:Int)),(21,i64 (p.1:Int))],[⟨402,n1+1+1+1,80,3,[.agg [str (sb x.grain),i64 x.mass,.sl false 2 (x.shs.map Av.D)]]⟩],p.2.2.2⟩) (λp=>x.shs.length-p.1)
  (λp F=>p.1<=x.shs.length/\C7 C0 F0 F [⟨100,1,p.2.2.1⟩]/\F.r0 100 1=some it/\Hv F p.2.2.1 p.2.1/\MQ (w*(64*i+p.1)) (GU x p.1 (CL (l.take i))) p.2.1) (0,m,o,_) ⟨BX _,hO,hr0,hM,hQ⟩ AL ?_
 clear hO hr0 hM hQ;rintro⟨j,m2,o2,n2⟩ F ⟨hj,hO,hr0,hM,hQ⟩;dsimp only at hj hO hr0 hM hQ⊢;rw[hga];rcases BI j x.shs.length with h3|h3
 rotate_left
 ·have e2:=Cd h3
  have:j=x.shs.length:=by omega
  subst this;rw[<-QD l i hxi]at hQ;refine AG Ms (Ad e2 wi) AB AB AB AB AB AB ?_;exact⟨(i+1,m2,o2,_),⟨h2,hO,hr0,hM,hQ.mono (Cc _ (by dsimp only;omega))⟩,by dsimp only;omega,AL⟩
 have e2:=Ce h3;have wj:=Cf (i:=j) (by omega);obtain⟨s,hsj⟩:=CK h3;obtain⟨s1,s2,s3,s4⟩:=x3 s (Aw hsj);have hms:(x.shs.map Av.D)[j]?=some (.agg [str (sb s.lot),str (sb s.part)]):=by rw[A7,hsj];rfl
 have hsn:=OI x j (CL (l.take i)) hsj;have fP:FR (CT s.part) (GT s.part) (w-2):=⟨(RY s3).is,s4⟩
 obtain⟨PW,hPW⟩:∃P,w*(64*i+j)=P:=⟨_,rfl⟩
 have hPW1:w*(64*i+(j+1))=PW+w:=by rw[<-hPW,<-Ed,Nat.mul_succ]
 have hPWb:PW+w<=100000:=by
  rw[<-hPW1];exact BR (Cc _ (by omega)) hw
 rw[hPW]at hQ;have fM:FR ((x.mass:Int):Rat) ⟨AX x.mass,1⟩ 1:=Q9 (by unfold Sm at x2;omega);have c1:=RM s2 s3;have c2:=PS x.mass x2;have c3:=Uk fP fM (by omega);have fZ:FR (CT s.part*(x.mass:Rat)) (Il (GT s.part) ⟨AX x.mass,1⟩) (w-2+1):=T6 fP fM;obtain⟨z,hz⟩:∃z,Il (GT s.part) ⟨AX x.mass,1⟩=z:=⟨_,rfl⟩
 rw[hz]at c3 fZ;obtain⟨d1,hd1⟩:∃d,(GT s.part).D=d:=⟨_,rfl⟩
 obtain⟨d2,hd2⟩:∃d,(⟨AX x.mass,1⟩:GF).D=d:=⟨_,rfl⟩
 have pd1:AA d1:=by rw[<-hd1];exact AI
 have pd2:AA d2:=by rw[<-hd2];exact AI
 rw[hd1]at c1 c3;rw[hd2]at c2 c3;refine sZ 600 ?_;refine AE e2 ?_;refine AC.seq ?_;refine AM ?_;refine Ao ?_;refine AC.seq ?_;refine AC.block ?_;refine sZ 700 ?_;refine Bs kT hms ?_;refine AE kB ?_;refine AC.seq ?_;refine B9 w1 800 [0,1,2,3,4,5,6,7] [8] (by kernel_rfl) ?_;refine AE kB ?_;refine BU.same _ (c1) AI ?_;refine BP ?_;refine AE kB ?_;refine BU.same _ (c2) AI ?_;refine BP ?_;refine AE kB ?_;refine BU.same _ (c3) AI ?_;refine BP ?_;refine AE kB ?_;refine AC.seq ?_;refine AC.seq ?_;refine IC (by kernel_rfl) ?_;change Bd _ _ _ _ _ ([0,1,2]++(3::([4,5,6,7,8,9]++[]))) _ _;refine FW w1 900 [0,1,2] _ ?_;refine AE kB ?_;refine Bd.look (xo:=⟨100,1,o2⟩) (l:=m2) w1 rfl rfl rfl rfl rfl rfl hO CA hr0 hM ?_;rcases hQ.look s.lot with⟨q1,q2⟩|⟨r,y,q1,q2,q3⟩
 ·rw[XT q1]
  refine FW w1 900 [4,5,6,7,8,9] [] ?_;refine AE kB ?_;refine Bd.nil ?_;refine An ?_;refine sZ 1000 ?_;refine AE kB ?_;refine AM ?_;refine Ao ?_;refine IC (by kernel_rfl) ?_;change Bd _ _ _ _ _ ([0,1,2,3]++(4::[])) _ _;refine FW w1 1200 [0,1,2,3] _ ?_;refine AE kB ?_;refine Bd.put (l:=m2) w1 rfl rfl rfl rfl rfl rfl hO hr0 hM (λF3 o3 hto3 hO3 hr3 hM3=>Bd.nil ?_);refine An ?_;have hQ2:MQ (w*(64*i+(j+1))) (GU x (j+1) (CL (l.take i))) (FS (sb s.lot) z.D m2):=by
   rw[hsn,hPW1];unfold KE;rw[q2];exact MQ.set s.lot ⟨fZ.is,fZ.rk.mono (by omega)⟩ (hQ.mono (by omega))
  refine AG Ms wj AB AB AB AB AB AB ?_;exact⟨(j+1,FS (sb s.lot) z.D m2,o3,_),⟨h3,hO3,hr3,hM3,hQ2⟩,by dsimp only;omega,AL⟩
 ·rw[XU q1]
  refine FW w1 900 [4,5,6,7,8,9] [] ?_;refine AE kB ?_;refine Bd.nil ?_;have c4:=RG fZ q3 (by omega);have fA:=Qz fZ q3;obtain⟨z2,hz2⟩:∃z2,KC z y=z2:=⟨_,rfl⟩
  rw[hz2]at c4 fA;refine An ?_;refine sZ 1000 ?_;refine AE kB ?_;refine AM ?_;refine Ap w1 1100 (by kernel_rfl) ?_;refine AE kB ?_;refine cI c4 ?_;refine AE kB ?_;refine IC (by kernel_rfl) ?_;change Bd _ _ _ _ _ ([0,1,2,3]++(4::[])) _ _;refine FW w1 1200 [0,1,2,3] _ ?_;refine AE kB ?_;refine Bd.put (l:=m2) w1 rfl rfl rfl rfl rfl rfl hO hr0 hM (λF3 o3 hto3 hO3 hr3 hM3=>Bd.nil ?_);refine An ?_;have hQ2:MQ (w*(64*i+(j+1))) (GU x (j+1) (CL (l.take i))) (FS (sb s.lot) z2.D m2):=by
   rw[hsn,hPW1];unfold KE;rw[q2];exact MQ.set s.lot ⟨fA.is,fA.rk.mono (by omega)⟩ (hQ.mono (by omega))
  refine AG Ms wj AB AB AB AB AB AB ?_;exact⟨(j+1,FS (sb s.lot) z2.D m2,o3,_),⟨h3,hO3,hr3,hM3,hQ2⟩,by dsimp only;omega,AL⟩
theorem AD.ok.w5 {x:AD}(h:x.ok):x.okW 5:=⟨h.1,h.2.1,λs hs=>by
 obtain⟨a,b,c⟩:=h.2.2 s hs;exact⟨a,by omega,c,iC c b⟩⟩
theorem yB (b:Bool)(l:List AD)(hl:l.length<=100)(hx:∀x∈l,x.ok):Aj C0 70 [AY b l] (λd=>∃m,d=mapD m/\MQ 32000 (CL l) m):=
 (dT 5 b l hl (λx h=>(hx x h).w5) (by omega) (by omega)).mono λd ⟨m,h1,h2⟩=>⟨m,h1,h2.mono (by omega)⟩
def VV (r:Rat):List UInt8:=if Du r=true then[]else BO r
def VU (r:Rat):Nat:=if Du r=true then 4 else 0
set_option maxHeartbeats 8000000
theorem Ux {l:List UInt8}(h:Cb l=0):rR (CT l)=str (sb l):=by unfold rR;rw[(OF h).2.2.1]
set_option maxHeartbeats 4000000
theorem XZ (n:Nat):C8 (Lib.decDigits n)=true:=by
 obtain⟨h1,h2,h3⟩:=EY n;rcases Dh n with h|h
 ·have e:Lib.decDigits n=[48]:=by
   have:=Yn 0
   rw[h];exact C6 (this.trans (AZ rfl))
  rw[e];rfl
 ·obtain⟨c,l,e,hc⟩:=mn (Nat.pos_iff_ne_zero.1 h)
  rw[e]at h1⊢;unfold C8 LA;rw[h1];simp[hc]
theorem Uc {n:Nat}{l:List UInt8}(h:n≠dv l):decide (Lib.decDigits n=l)=false:=Ah λe=>h (by rw[<-e,(EY n).2.1])
theorem o7 {r:Rat}(h:Du r=false):Cb (BO r)=0:=by
 have hs:B3 (BO r)=Lib.decDigits r.num.natAbs:=by unfold B3;rw[Ol,(Mm _).2]
 have hd:=Mx r;have hh:=RA r;unfold Du at h;simp only[JT,Is]at h;have hb:Jl (BO r)=false:=by
  rw[QB,hs,Ua,hh,XZ];have e1:(decide (r.num<0)&&decide (Lib.decDigits r.num.natAbs=[48]))=false:=by
   by_cases g:r.num<0
   ·rw[Uc (show r.num.natAbs≠dv [48] by show r.num.natAbs≠0;omega),Bool.and_false]
   ·rw[Ah g,HX]
  rw[e1]
  by_cases g:r.den=1
  ·rw[AZ g];rfl
  ·rw[hd,AF g,XZ,Uc (show r.den≠dv [48]from r.den_nz),Uc (show r.den≠dv [49]from g),Ah g];rfl
 unfold Cb;rw[hb,AF (by decide),hs]
 by_cases g:r.den=1
 ·rw[hd,AH g,hh,AZ g,AF (by simp;omega),AF (λk=>Ae k.1 (by decide))]
 ·rw[hd,AF g,(EY _).2.1,(EY _).2.1,AF (by omega),AF (λk=>k.2 r.reduced)]
theorem ku (r:Rat):CT (BO r)=r:=by
 unfold CT G1;rw[Ol,Z4,RA,Mx]
 by_cases g:r.den=1
 ·rw[AZ g]
  show mkRat r.num 1=r;rw[<-g];exact Rat.mkRat_self r
 ·rw[Ah g,AF g,(EY _).2.1]
  exact Rat.mkRat_self r
theorem qN:rR 0=str ⟨#[48]⟩:=by
 have h:CT [48]=0:=by kernel_rfl
 rw[<-h,Ux (by kernel_rfl)];all_goals rfl
theorem j7 (r:Rat):BF (sb (BO r)) ⟨#[49]⟩=decide (r=1):=by
 have h1:CT [49]=1:=by kernel_rfl
 have e:(⟨#[49]⟩:ByteArray)=sb [49]:=rfl;rw[e,E2,C5];constructor
 ·intro h
  rw[<-ku r,h,h1]
 ·intro h
  rw[h]
  have:=(OF (l:=[49]) (by kernel_rfl)).2.2.1
  rwa [h1]at this
end Go.Ide
namespace Go.Proofs
open Go.Shelf Go.RowKit Go.Lib Go.Sort
def Tryz.sortAmounts_ren:Go.Shelf.Ren:=⟨fun|6=>108|15=>147|14=>146|28=>193|29=>194|20=>185|21=>186|22=>187|23=>188|24=>189|25=>190|26=>191|27=>192|46=>241|47=>242|48=>243|49=>244|50=>245|57=>274|n=>n,fun|22=>47|24=>88|25=>156|3=>3|39=>189|0=>0|53=>54|55=>210|4=>4|46=>233|45=>232|50=>237|5=>5|9=>9|66=>272|70=>276|76=>297|77=>73|n=>n,fun|n=>n⟩
theorem zh:Go.Proofs.SlLaysF0.n6 Tryz.prog Tryz.sortAmounts_ren:={
 mixed:=by kernel_rfl
 f6:=⟨Tryz.f108.name,by decide,Tryz.func108.trans (congrArg some (by kernel_rfl))⟩
 f14:=⟨Tryz.f146.name,by decide,Tryz.func146.trans (congrArg some (by kernel_rfl))⟩
 f15:=Tryz.func147.trans (congrArg some (by kernel_rfl))
 f20:=⟨Tryz.f185.name,by decide,Tryz.func185.trans (congrArg some (by kernel_rfl))⟩
 f21:=⟨Tryz.f186.name,by decide,Tryz.func186.trans (congrArg some (by kernel_rfl))⟩
 f22:=⟨Tryz.f187.name,by decide,Tryz.func187.trans (congrArg some (by kernel_rfl))⟩
 f23:=⟨Tryz.f188.name,by decide,Tryz.func188.trans (congrArg some (by kernel_rfl))⟩
 f24:=⟨Tryz.f189.name,by decide,Tryz.func189.trans (congrArg some (by kernel_rfl))⟩
 f25:=⟨Tryz.f190.name,by decide,Tryz.func190.trans (congrArg some (by kernel_rfl))⟩
 f26:=⟨Tryz.f191.name,by decide,Tryz.func191.trans (congrArg some (by kernel_rfl))⟩
 f27:=⟨Tryz.f192.name,by decide,Tryz.func192.trans (congrArg some (by kernel_rfl))⟩
 f28:=Tryz.func193.trans (congrArg some (by kernel_rfl))
 f29:=Tryz.func194.trans (congrArg some (by kernel_rfl))
 f46:=⟨Tryz.f241.name,by decide,Tryz.func241.trans (congrArg some (by kernel_rfl))⟩
 f47:=Tryz.func242.trans (congrArg some (by kernel_rfl))
 f48:=Tryz.func243.trans (congrArg some (by kernel_rfl))
 f49:=⟨Tryz.f244.name,by decide,Tryz.func244.trans (congrArg some (by kernel_rfl))⟩
 f50:=⟨Tryz.f245.name,by decide,Tryz.func245.trans (congrArg some (by kernel_rfl))⟩
 f57:=⟨Tryz.f274.name,by decide,Tryz.func274.trans (congrArg some (by kernel_rfl))⟩
 t0:=Tryz.underlying0
 a0:=Tryz.isAgg0
 z0:=Tryz.sizeOf0
 v0:=Tryz.zeroValue0
 t3:=Tryz.underlying3
 a3:=Tryz.isAgg3
 z3:=Tryz.sizeOf3
 v3:=Tryz.zeroValue3
 t4:=Tryz.underlying4
 a4:=Tryz.isAgg4
 z4:=Tryz.sizeOf4
 v4:=Tryz.zeroValue4
 t5:=Tryz.underlying5
 a5:=Tryz.isAgg5
 z5:=Tryz.sizeOf5
 v5:=Tryz.zeroValue5
 t9:=Tryz.underlying9
 a9:=Tryz.isAgg9
 z9:=Tryz.sizeOf9
 v9:=Tryz.zeroValue9
 t22:=Tryz.underlying47
 a22:=Tryz.isAgg47
 z22:=Tryz.sizeOf47
 v22:=Tryz.zeroValue47
 t25:=Tryz.underlying156
 a25:=Tryz.isAgg156
 z25:=Tryz.sizeOf156
 v25:=Tryz.zeroValue156
 t39:=Tryz.underlying189
 a39:=Tryz.isAgg189
 z39:=Tryz.sizeOf189
 v39:=Tryz.zeroValue189
 t45:=Tryz.underlying232
 a45:=Tryz.isAgg232
 z45:=Tryz.sizeOf232
 v45:=Tryz.zeroValue232
 t46:=Tryz.underlying233
 a46:=Tryz.isAgg233
 z46:=Tryz.sizeOf233
 v46:=Tryz.zeroValue233
 t50:=Tryz.underlying237
 a50:=Tryz.isAgg237
 z50:=Tryz.sizeOf237
 v50:=Tryz.zeroValue237
 t53:=Tryz.underlying54
 a53:=Tryz.isAgg54
 z53:=Tryz.sizeOf54
 v53:=Tryz.zeroValue54
 t55:=Tryz.underlying210
 a55:=Tryz.isAgg210
 z55:=Tryz.sizeOf210
 v55:=Tryz.zeroValue210
 t66:=Tryz.underlying272
 a66:=Tryz.isAgg272
 z66:=Tryz.sizeOf272
 v66:=Tryz.zeroValue272
 t70:=Tryz.underlying276
 a70:=Tryz.isAgg276
 z70:=Tryz.sizeOf276
 v70:=Tryz.zeroValue276
 t76:=Tryz.underlying297
 a76:=Tryz.isAgg297
 z76:=Tryz.sizeOf297
 v76:=Tryz.zeroValue297
 t77:=Tryz.underlying73
 a77:=Tryz.isAgg73
 z77:=Tryz.sizeOf73
 v77:=Tryz.zeroValue73 }
end Go.Proofs
namespace Go.Ide
open Go.Proofs Go.RowKit Go.Sort
set_option maxRecDepth 20000
def Cn (p:List UInt8×Rat):D:=.agg [str (sb p.1),str (sb (BO p.2))]
instance d7O (p:List UInt8×Rat):AU (Cn p):=by unfold Cn;exact AI
instance d7P (p:List UInt8×Rat):AA (Cn p):=by unfold Cn;exact AI
def LB (p:List UInt8×Rat):List Value:=[.string (sb p.1),.string (sb (BO p.2))]
def H7 (x y:List UInt8):Int:=if x<y then -1 else if y<x then 1 else 0
theorem QX (x y:List UInt8×Rat):ltOf (λx y:List UInt8×Rat=>H7 x.1 y.1) x y=ltStr x.1 y.1:=by
 unfold ltOf H7 ltStr
 by_cases h:x.1<y.1
 ·simp[h]
 ·by_cases h2:y.1<x.1<;>simp[h,h2]
theorem zU:SWO (ltOf (λx y:List UInt8×Rat=>H7 x.1 y.1)) where
 irrefl x:=by rw[QX];exact swo_ltStr.irrefl _
 trans x y z h1 h2:=by rw[QX]at*;exact swo_ltStr.trans _ _ _ h1 h2
 ntrans x y z h1 h2:=by rw[QX]at*;exact swo_ltStr.ntrans _ _ _ h1 h2
set_option maxHeartbeats 1000000 in
theorem lO (x:ByteArray)(W:World):Calls Tryz.prog 148 #[.string x] W λe w'=>e=.returned (.bool false)/\w'=W:=by
 go_enter Tryz.func148,Tryz.ntmps148
 go_wp2
 go_ret
 exact⟨by simp,rfl⟩
set_option maxHeartbeats 1000000 in
theorem jQ (x y:List UInt8)(W:World):Calls Tryz.prog 110 #[.string (sb x),.string (sb y)] W λe w'=>e=.returned (.int .i64 (H7 x y))/\w'=W:=by
 go_enter Tryz.func110,Tryz.ntmps110
 go_wp2_with (go_at_call 148;refine(lO _ _).mono ?_;rintro e w' ⟨rfl,hw⟩;rw[hw])
 all_goals go_ret
 all_goals(refine⟨?_,rfl⟩)
 ·have h:Op.bytesLess x y=true:=by assumption
  rw[bytesLess_eq,F8]at h;unfold H7;rw[AH h];rfl
 ·have h:Op.bytesLess x y=false:=by assumption
  have h2:(!x==y)=true:=by assumption
  rw[bytesLess_eq,Is]at h;have h3:y<x:=Dd λq=>by
   have:=List.le_antisymm (List.not_lt.1 q) (List.not_lt.1 h)
   simp[this]at h2
  unfold H7;rw[AF h,AH h3];rfl
 ·have h:Op.bytesLess x y=false:=by assumption
  have h2:(!x==y)=false:=by assumption
  rw[bytesLess_eq,Is]at h;have h3:¬y<x:=λq=>by
   have:x=y:=by simpa using h2
   rw[this]at q;exact List.lt_irrefl _ q
  unfold H7;rw[AF h,AF h3];rfl
set_option maxHeartbeats 1000000 in
theorem jP (x y:List UInt8×Rat)(W:World):Calls Tryz.prog 109 #[.agg (LB x).toArray,.agg (LB y).toArray] W λe w'=>e=.returned (.int .i64 (H7 x.1 y.1))/\∃q os',w'=grow (W.drewN q) os':=by
 have hcon:=jQ x.1 y.1;unfold LB;generalize H7 x.1 y.1=r at hcon⊢;generalize sb x.1=a at hcon⊢;generalize sb y.1=b at hcon⊢;generalize sb (BO x.2)=c;generalize sb (BO y.2)=d
 go_enter Tryz.func109,Tryz.ntmps109
 go_wp2_with (go_at_call 110;refine(hcon _).mono ?_;rintro e w' ⟨rfl,rfl⟩)
 go_ret
 exact⟨rfl,0,_,by rw[alloc_eq_grow,alloc_eq_grow,grow_grow];rfl⟩
theorem szA:(Tryz.prog.info? 88).map (λi=>i.size)=some 2:=by kernel_rfl
theorem iO:IZ Tryz.prog 88=true:=by kernel_rfl
theorem unA:(Tryz.prog.underlying 88).isSome=true:=by kernel_rfl
theorem yI (w:World):(Go.sizeOf 88).run Tryz.prog w=.ok 2 w:=by
 obtain⟨i,h1,h2⟩:=Option.map_eq_some_iff.1 szA;rw[Gq h1,h2]
theorem yj (w:World):(isAgg 88).run Tryz.prog w=.ok true w:=by
 obtain⟨u,h1⟩:=Option.isSome_iff_exists.1 unA;rw[QN h1,iO]
theorem vh:aB Tryz.prog 108 109 LB 2 (ltOf λx y:List UInt8×Rat=>H7 x.1 y.1):=λblk cap d w hH hb hd=>
 AnyQ.slices_SortFunc zh 2 yj yI LB (λ_=>rfl) (λx v hv=>by simp[LB]at hv;rcases hv with rfl|rfl<;>rfl)
  (λx y=>H7 x.1 y.1) zU 109 #[] blk 0 cap d w (enters_of Tryz.func109 (by kernel_rfl) rfl) (λ_ _ _ _ x y=>jP x y _) hH hb hd
theorem iz (l:List (List UInt8×Rat))(hl0:l≠[])(hl:l.length<4611686018427387904)(kb gg:Nat)(H:Hp)(n:Nat):
  Cg C0 108 [.osl kb gg 2 0 l.length,.clo (.func 109) [] []] (⟨kb,gg,88,2,l.map Cn⟩::H) n
   (λd H' n'=>d=.tup []/\n'=n+1/\∃l':List (List UInt8×Rat),l'.Perm l/\l'.Pairwise (λa b=>ltStr b.1 a.1=false)/\H'=⟨kb,gg,88,2,l'.map Cn⟩::H):=
 (lj (C:=C0) (f:=108) (g:=109) (enc:=LB) (k:=2) (toD:=Cn) (lt:=ltOf λx y:List UInt8×Rat=>H7 x.1 y.1) (by obtain⟨fn,a1,a2,a3,-⟩:=aD;exact⟨fn,_,a1,a2,a3⟩) (by decide) (λ_=>rfl) (λx v hv=>by simp[LB]at hv;rcases hv with rfl|rfl<;>rfl) (λx=>rfl) vh l hl0 hl kb gg _ H n).mono λd H' n' ⟨h1,h2,l',h3,h4,h5⟩=>
  ⟨h1,h2,l',h3,h4.imp λh=>by rw[QX]at h;exact h,h5⟩
theorem lk:AJ C0 108 [CR,.clo (.func 109) [] []] (.tup []):=CH Da 400 40 (by kernel_rfl)
end Go.Ide
namespace Go.Proofs
open Go.Shelf Go.RowKit Go.Lib Go.Sort
def Tryz.sortedZ_ren:Go.Shelf.Ren:=⟨fun|6=>136|8=>178|9=>179|11=>236|13=>147|12=>237|23=>193|24=>194|14=>263|15=>264|16=>265|17=>266|18=>267|19=>268|20=>269|21=>270|22=>271|25=>290|26=>242|27=>243|28=>291|29=>292|30=>148|31=>301|n=>n,fun|26=>9|28=>180|24=>177|0=>0|3=>3|37=>189|48=>54|50=>210|4=>4|40=>233|39=>232|45=>237|5=>5|9=>9|51=>272|55=>276|57=>297|58=>73|33=>117|n=>n,fun|n=>n⟩
theorem zi:Go.Proofs.SlLaysZ.n6 Tryz.prog Tryz.sortedZ_ren:={
 mixed:=by kernel_rfl
 f6:=⟨Tryz.f136.name,by decide,Tryz.func136.trans (congrArg some (by kernel_rfl))⟩
 f8:=⟨Tryz.f178.name,by decide,Tryz.func178.trans (congrArg some (by kernel_rfl))⟩
 f11:=⟨Tryz.f236.name,by decide,Tryz.func236.trans (congrArg some (by kernel_rfl))⟩
 t0:=Tryz.underlying0
 a0:=Tryz.isAgg0
 z0:=Tryz.sizeOf0
 v0:=Tryz.zeroValue0
 t24:=Tryz.underlying177
 a24:=Tryz.isAgg177
 z24:=Tryz.sizeOf177
 v24:=Tryz.zeroValue177
 t26:=Tryz.underlying9
 a26:=Tryz.isAgg9
 z26:=Tryz.sizeOf9
 v26:=Tryz.zeroValue9
 t28:=Tryz.underlying180
 a28:=Tryz.isAgg180
 z28:=Tryz.sizeOf180
 v28:=Tryz.zeroValue180
 i26:=by kernel_rfl }
def Tryz.keysZ_ren:Go.Shelf.Ren:=⟨fun|10=>180|n=>n,fun|33=>117|23=>112|0=>0|4=>4|26=>9|3=>122|n=>n,fun|n=>n⟩
theorem zg:Go.Proofs.SlLaysZ.n10 Tryz.prog Tryz.keysZ_ren:={
 mixed:=by kernel_rfl
 f10:=⟨Tryz.f180.name,by decide,Tryz.func180.trans (congrArg some (by kernel_rfl))⟩
 t0:=Tryz.underlying0
 a0:=Tryz.isAgg0
 z0:=Tryz.sizeOf0
 v0:=Tryz.zeroValue0
 t4:=Tryz.underlying4
 a4:=Tryz.isAgg4
 z4:=Tryz.sizeOf4
 v4:=Tryz.zeroValue4
 t23:=Tryz.underlying112
 a23:=Tryz.isAgg112
 z23:=Tryz.sizeOf112
 v23:=Tryz.zeroValue112
 t26:=Tryz.underlying9
 a26:=Tryz.isAgg9
 z26:=Tryz.sizeOf9
 v26:=Tryz.zeroValue9
 t33:=Tryz.underlying117
 a33:=Tryz.isAgg117
 z33:=Tryz.sizeOf117
 v33:=Tryz.zeroValue117 }
def Tryz.sortM_ren:Go.Shelf.Ren:=⟨fun|6=>179|8=>147|9=>237|19=>193|20=>194|21=>263|22=>264|23=>265|24=>266|25=>267|26=>268|27=>269|28=>270|29=>271|36=>290|31=>242|32=>243|37=>291|38=>292|39=>148|41=>301|n=>n,fun|27=>177|29=>9|3=>3|32=>189|26=>177|0=>0|44=>54|46=>210|4=>4|36=>233|35=>232|41=>237|5=>5|9=>9|53=>272|57=>276|63=>297|64=>73|n=>n,fun|n=>n⟩
theorem gl:Go.Proofs.SlLaysM.n6 Tryz.prog Tryz.sortM_ren:={
 mixed:=by kernel_rfl
 f6:=⟨Tryz.f179.name,by decide,Tryz.func179.trans (congrArg some (by kernel_rfl))⟩
 f8:=Tryz.func147.trans (congrArg some (by kernel_rfl))
 f9:=⟨Tryz.f237.name,by decide,Tryz.func237.trans (congrArg some (by kernel_rfl))⟩
 f19:=Tryz.func193.trans (congrArg some (by kernel_rfl))
 f20:=Tryz.func194.trans (congrArg some (by kernel_rfl))
 f21:=⟨Tryz.f263.name,by decide,Tryz.func263.trans (congrArg some (by kernel_rfl))⟩
 f22:=⟨Tryz.f264.name,by decide,Tryz.func264.trans (congrArg some (by kernel_rfl))⟩
 f23:=⟨Tryz.f265.name,by decide,Tryz.func265.trans (congrArg some (by kernel_rfl))⟩
 f24:=⟨Tryz.f266.name,by decide,Tryz.func266.trans (congrArg some (by kernel_rfl))⟩
 f25:=⟨Tryz.f267.name,by decide,Tryz.func267.trans (congrArg some (by kernel_rfl))⟩
 f26:=⟨Tryz.f268.name,by decide,Tryz.func268.trans (congrArg some (by kernel_rfl))⟩
 f27:=⟨Tryz.f269.name,by decide,Tryz.func269.trans (congrArg some (by kernel_rfl))⟩
 f28:=⟨Tryz.f270.name,by decide,Tryz.func270.trans (congrArg some (by kernel_rfl))⟩
 f29:=⟨Tryz.f271.name,by decide,Tryz.func271.trans (congrArg some (by kernel_rfl))⟩
 f31:=Tryz.func242.trans (congrArg some (by kernel_rfl))
 f32:=Tryz.func243.trans (congrArg some (by kernel_rfl))
 f36:=⟨Tryz.f290.name,by decide,Tryz.func290.trans (congrArg some (by kernel_rfl))⟩
 f37:=⟨Tryz.f291.name,by decide,Tryz.func291.trans (congrArg some (by kernel_rfl))⟩
 f38:=⟨Tryz.f292.name,by decide,Tryz.func292.trans (congrArg some (by kernel_rfl))⟩
 f39:=⟨Tryz.f148.name,by decide,Tryz.func148.trans (congrArg some (by kernel_rfl))⟩
 f41:=⟨Tryz.f301.name,by decide,Tryz.func301.trans (congrArg some (by kernel_rfl))⟩
 t0:=Tryz.underlying0
 a0:=Tryz.isAgg0
 z0:=Tryz.sizeOf0
 v0:=Tryz.zeroValue0
 t3:=Tryz.underlying3
 a3:=Tryz.isAgg3
 z3:=Tryz.sizeOf3
 v3:=Tryz.zeroValue3
 t4:=Tryz.underlying4
 a4:=Tryz.isAgg4
 z4:=Tryz.sizeOf4
 v4:=Tryz.zeroValue4
 t5:=Tryz.underlying5
 a5:=Tryz.isAgg5
 z5:=Tryz.sizeOf5
 v5:=Tryz.zeroValue5
 t9:=Tryz.underlying9
 a9:=Tryz.isAgg9
 z9:=Tryz.sizeOf9
 v9:=Tryz.zeroValue9
 t26:=Tryz.underlying177
 a26:=Tryz.isAgg177
 z26:=Tryz.sizeOf177
 v26:=Tryz.zeroValue177
 t27:=Tryz.underlying177
 a27:=Tryz.isAgg177
 z27:=Tryz.sizeOf177
 v27:=Tryz.zeroValue177
 t29:=Tryz.underlying9
 a29:=Tryz.isAgg9
 z29:=Tryz.sizeOf9
 v29:=Tryz.zeroValue9
 t32:=Tryz.underlying189
 a32:=Tryz.isAgg189
 z32:=Tryz.sizeOf189
 v32:=Tryz.zeroValue189
 t35:=Tryz.underlying232
 a35:=Tryz.isAgg232
 z35:=Tryz.sizeOf232
 v35:=Tryz.zeroValue232
 t36:=Tryz.underlying233
 a36:=Tryz.isAgg233
 z36:=Tryz.sizeOf233
 v36:=Tryz.zeroValue233
 t41:=Tryz.underlying237
 a41:=Tryz.isAgg237
 z41:=Tryz.sizeOf237
 v41:=Tryz.zeroValue237
 t44:=Tryz.underlying54
 a44:=Tryz.isAgg54
 z44:=Tryz.sizeOf54
 v44:=Tryz.zeroValue54
 t46:=Tryz.underlying210
 a46:=Tryz.isAgg210
 z46:=Tryz.sizeOf210
 v46:=Tryz.zeroValue210
 t53:=Tryz.underlying272
 a53:=Tryz.isAgg272
 z53:=Tryz.sizeOf272
 v53:=Tryz.zeroValue272
 t57:=Tryz.underlying276
 a57:=Tryz.isAgg276
 z57:=Tryz.sizeOf276
 v57:=Tryz.zeroValue276
 t63:=Tryz.underlying297
 a63:=Tryz.isAgg297
 z63:=Tryz.sizeOf297
 v63:=Tryz.zeroValue297
 t64:=Tryz.underlying73
 a64:=Tryz.isAgg73
 z64:=Tryz.sizeOf73
 v64:=Tryz.zeroValue73 }
theorem zk (m:Nat):AnyZ.SortsIn Tryz.prog Tryz.sortedZ_ren Fence.wide m:=
 ⟨λblk off cap ss W hH hblk hsz=>callsIn_wide.2 (AnyM.slices_Sort_string gl blk off cap ss W hH hblk hsz),
  λp cap W=>callsIn_wide.2 (AnyM.slices_Sort_string_none gl p cap W)⟩
theorem zj {H:Type}(Bm b nn:Nat)(D0:DataW H){R:Value->Option (DataW H×List MemPlace)}(w:World)(hBm:Bm<w.heap.size)
  (hm:w.cell? ⟨Bm,0,none⟩=some (.map (some b))) (hown:w.ownsMap Tryz.prog 9 R b nn D0) (hN:Maps.size D0<=10000):
  Calls Tryz.prog 136 #[.func (.func 180) #[] #[.pointer (some ⟨Bm,0,none⟩)]] w λe w'=>∃(v:Value) (ss:List (List UInt8)),e=.returned v/\ss.Perm (strKeys D0) /\
   w'.ownsRow w.heap.size 9 1 v ss.length ((ss.mergeSort (λx y=>decide (x<=y))).map encStr)/\Below w.heap.size w w':=
 (callsIn_wide.1 (AnyZ.sorted_in zi Fence.wide 6 trivial trivial trivial trivial rfl (by omega) (zk _) (enters_of Tryz.func179 (by kernel_rfl) rfl) 180 _ trivial (enters_of Tryz.func180 (by kernel_rfl) rfl) _ _ (Nat.le_trans hN (by decide)) (by omega) w
  (AnyZ.keys_gives zg Fence.wide _ trivial rfl (by omega) Bm b nn D0 w hBm hm hown))).mono λe w' ⟨v,ss,h1,h2,h3,_,h5⟩=>⟨v,ss,h1,h2,h3,h5⟩
end Go.Proofs
namespace Go.Ide
open Go.Proofs Go.RowKit Go.Sort
set_option maxRecDepth 20000
def PA (ks:List (List UInt8)):List (List UInt8):=ks.mergeSort λx y=>decide (x<=y)
theorem ZT (k:List UInt8)(hb:k.length<=maxLen):keyOf Tryz.prog 9 (encStr k)=some (.string k):=by
 simp[keyOf,mapKey,hb,ByteArray.size,encStr]
theorem ib {H:Type}{R:Value->Option (DataW H×List MemPlace)}{z:DataW H}(hR:∀v,R v=some (z,[]))(es:List MapEntry)(ks:List (List UInt8))(hk:es.map (·.key)=ks.map encStr)(hb:∀k∈ks,k.length<=maxLen):
  (strKeys (DataW.map ((es.map (WideElems.rg Tryz.prog 9 R)).foldr DataW.insert []))).Perm ks:=by
 show(((es.map (WideElems.rg Tryz.prog 9 R)).foldr DataW.insert []).map λp=>strOf p.1).Perm ks;refine((WideShapes.sorted_perm _).map _).trans ?_;rw[List.map_map]
 have:es.map ((λp:Lit×DataW H=>strOf p.1) ∘ WideElems.rg Tryz.prog 9 R)=ks:=by
  induction es generalizing ks with
  |nil=>
   cases ks with
   |nil=>rfl
   |cons a l=>simp at hk
  |cons e es ih=>
   cases ks with
   |nil=>simp at hk
   |cons k ks=>
    simp only[Ct,FB]at hk;rw[Ct,ih ks hk.2 λk h=>hb k (CF _ h)]
    congr 1
    have h1:=ZT k (hb k CA);rw[<-hk.1]at h1;show strOf ((WideElems.rd Tryz.prog 9 R e).getD _).1=k;unfold WideElems.rd;rw[h1,hR];rfl
 rw[this]
theorem Fr (l:C9)(ks:List (List UInt8))(hks:l.map (·.1)=ks.map sb)(hl:l.length<=10000)(hb:∀k∈ks,k.length<=1000)(hnd:ks.Nodup)(kb g T:Nat)(H:Hp)(n:Nat):
  Cg C0 136 [.clo (.func 180) [] [.optr kb g 1 0 0]] (⟨kb,g,T,1,[mapD l]⟩::H) n
   (λd H' n'=>d=.sl false 1 ((PA ks).map λx=>str (sb x))/\H'=⟨kb,g,T,1,[mapD l]⟩::H/\n'=n+1):=by
 refine⟨by obtain⟨fn,a1,a2,a3,-⟩:=aP;exact⟨fn,_,a1,a2,a3⟩,λF ρ w vs m fr gn hsz rep=>?_⟩;obtain⟨v0,rfl⟩:∃v0,vs = #[v0]:=by
  match vs,hsz with
  |⟨[a]⟩,_=>exact⟨a,rfl⟩
 have r0:AW ρ _ w (.clo _ [] [.optr kb g 1 0 0]) v0:=rep 0 _ rfl;cases r0 with
 |clo hf1 hc1 _ h2=>
  rename_i fs cs1 _;simp at hf1 hc1;subst hf1;obtain⟨c,rfl⟩:∃c,cs1 = #[c]:=by
   match cs1,hc1 with
   |⟨[a]⟩,_=>exact⟨a,rfl⟩
  have r1:AW ρ _ w (.optr kb g 1 0 0) c:=h2 0 _ rfl;cases r1 with
  |optr hr=>
   rename_i b;have hent:∃cs,w.heap[b]?=some (.cells cs T (0,0))/\DB ρ (AN F.X ρ (⟨kb,g,T,1,[mapD l]⟩::H)) w ⟨kb,g,T,1,[mapD l]⟩ cs:=by
    rcases m.hok.ent _ CA with⟨h,h2⟩|⟨b2,cs2,a1,a2,a3⟩
    ·exact Ae (hr.symm.trans h2) (by simp)
    ·cases hr.symm.trans a1;exact⟨cs2,a2,a3⟩
   obtain⟨cs,hcb,hok⟩:=hent;have hlt:b<w.heap.size:=m.lt CA hr;have hr0:=hok.rep 0 (mapD l) 0 (mapD l) rfl rfl;have h9:1<=cs.size:=by simpa using hok.len
   have hcs:0<cs.size:=h9;rw[A0,Bn (by simpa using hcs)]at hr0;simp only[G8,De,Iv]at hr0;obtain⟨v,hv⟩:∃v,cs[0]=v:=⟨_,rfl⟩
   rw[hv]at hr0;unfold mapD at hr0;cases hr0 with
   |mp hO hrl hb3 h1 h2 hBo hk hvv=>
    rename_i r clock es;rw[Am]at h1;have hkey:es.toList.map (·.key)=ks.map encStr:=by
     apply Pq;intro i;rw[A7,A7];have hli:=congrArg (λq=>q[i]?) hks;simp only[A7]at hli;rcases BI i l.length with hi|hi
     ·have hd:=hk i (.prim (.string l[i].1)) (by rw[A7,BG hi];rfl)
      rw[BG hi]at hli;obtain⟨kk,hkk,hkk2⟩:=Option.map_eq_some_iff.1 hli.symm;have hi2:i<es.size:=by omega
      rw[A0,Bn hi2]at hd;rw[hkk,JS,Bn hi2];simp only[JY,BM,Iv]at hd⊢;generalize es[i].key=kv at hd;cases hd;have h8:sb kk=l[i].1:=hkk2;rw[<-h8]
     ·have h5:ks.length=l.length:=by have:=congrArg List.length hks;simpa using this.symm
      rw[Dk (by simp;omega),Dk (by omega)];rfl
    have hkn:(es.toList.map (·.key)).Nodup:=by
     rw[hkey];exact List.pairwise_map.2 (hnd.imp λh q=>h (encStr_inj q))
    have hbm:∀k∈ks,k.length<=maxLen:=λk h=>BR (hb k h) (by decide)
    let R:Value->Option (DataW Unit×List MemPlace):=λ_=>some (.nil,[])
    have hown:w.ownsMap Tryz.prog 9 R r es.size (.map ((es.toList.map (WideElems.rg Tryz.prog 9 R)).foldr DataW.insert [])):=by
     refine⟨es,clock,hb3,⟨BR (by omega:es.size<=10000) (by decide),⟨λx hx=>?_,hBo.nodup,hkn⟩,λx hx=>?_⟩,Ai _,rfl⟩
     ·obtain⟨j,hj⟩:=List.mem_iff_getElem?.1 hx
      exact hBo.1 j x (by simpa using hj)
     ·have:x.key∈es.toList.map (·.key):=List.mem_map_of_mem hx
      rw[hkey]at this;obtain⟨k,hk1,hk2⟩:=List.mem_map.1 this;have h1:=ZT k (hbm k hk1);rw[hk2]at h1;exact⟨_,by unfold WideElems.rd;rw[h1];rfl⟩
    have hsk:=ib (H:=Unit) (R:=R) (z:=.nil) (λ_=>rfl) es.toList ks hkey hbm;have hcell:w.cell? ⟨b,0,none⟩=some (.map (some r)):=by
     unfold World.cell?;simp only[hcb];rw[Bn hcs,hv];rfl
    have hsize:Maps.size (DataW.map ((es.toList.map (WideElems.rg Tryz.prog 9 R)).foldr DataW.insert []))<=10000:=by
     rw[Maps.size_eq,(WideShapes.sorted_perm _).length_eq,Am,IG];omega
    refine(zj b r es.size _ w hlt hcell hown hsize).mono ?_;rintro e w' ⟨v,ss,rfl,hp,hrow,hbw⟩;have hss:ss.mergeSort (λx y=>decide (x<=y))=PA ks:=mergeSort_of_perm (hp.trans hsk);rw[hss]at hrow;have x:BT ρ (AN F.X ρ (⟨kb,g,T,1,[mapD l]⟩::H)) w ρ (AN F.X ρ (⟨kb,g,T,1,[mapD l]⟩::H)) w':=⟨hbw.size,λ_ _ _ h=>h,λb hb' hO=>⟨hO,hbw.block b hb'⟩,λb cs T fz hh=>⟨cs,_,by
     rw[hbw.block b (Array.getElem?_eq_some_iff.1 hh).1];exact hh,rfl⟩⟩
    refine⟨v,_,_,n+1,ρ,rfl,⟨rfl,rfl,rfl⟩,m.same x hbw.os hbw.tape hbw.output hbw.block,x,λa b h=>fr a b (by omega),λe he=>DD (gn e he),?_⟩;obtain⟨K,hK⟩:∃K,PA ks=K:=⟨_,rfl⟩
    rw[hK]at hrow⊢;obtain⟨hlen,⟨rfl,hz⟩|⟨gb,cap,cur,rfl,hbase,hgb,q1,q2,q3,q4⟩⟩:=hrow
    ·rw[hz,Am]at hlen
     have:K=[]:=List.length_eq_zero_iff.1 (by omega)
     rw[this];exact .nil 1
    ·rw[Am,EG]at hlen
     rw[EG]at q3 q4;have hat:∀j x,K[j]?=some x->cur[j]?=some (Value.string (sb x)):=λj x hx=>by
      have hj:j<K.length:=(List.getElem?_eq_some_iff.1 hx).1
      have:=congrArg (λq=>q[j]?) q4
      simp only[Eo,A7,hx,JY]at this;rw[AH (by omega)]at this;simpa using this
     have hall:∀j,j<ss.length*1->∃x,cur[j]?=some (Value.string (sb x)):=λj hj=>by
      have:j<K.length:=by omega
      exact⟨_,hat j _ (BG this)⟩
     refine .sl (λj=>cur.getD j undef) (by rw[Am,hlen]) q1 ?_ (Array.getElem?_eq_some_iff.1 hgb).1 ?_ ?_ ?_ ?_
     ·rintro(h|⟨e,he,h⟩)
      ·have:=m.xlt _ h;have:=m.size;omega
      ·have:=m.lt he h;omega
     ·intro i e h
      rw[A7]at h;obtain⟨x,-,rfl⟩:=Option.map_eq_some_iff.1 h;rfl
     ·intro j hj
      obtain⟨x,hx⟩:=hall j hj;unfold World.cell?;simp only[hgb,BV];rw[hx,A0,hx];rfl
     ·intro j hj
      obtain⟨x,hx⟩:=hall j hj;rw[A0,hx];rfl
     ·intro i e j d h h2
      rw[A7]at h;obtain⟨x,hx,rfl⟩:=Option.map_eq_some_iff.1 h
      have:j=0:=by
       have:=(List.getElem?_eq_some_iff.1 h2).1
       exact Nat.lt_one_iff.1 this
      subst this;cases h2;show AW _ _ _ _ (cur.getD (i*1+0) undef);rw[EG,De,A0,hat i x hx];exact .prim _
end Go.Ide
namespace Go.Ide
open Go.Proofs Go.RowKit Go.Sort
set_option maxRecDepth 20000
set_option maxHeartbeats 4000000
def qv (q:B0)(j:Nat):List UInt8×Rat:=q.getD j ([],0)
theorem Vh {q:B0}{j:Nat}{p:List UInt8×Rat}(h:q[j]?=some p):qv q j=p:=by unfold qv;rw[Dw,h];rfl
theorem MQ.len {B:Nat}:∀ {q:B0} {m:C9},MQ B q m->q.length=m.length
 | [],[],_=>rfl
 |_::_,_::_,⟨_,h⟩=>by simp[MQ.len h]
theorem MQ.at_ {B:Nat}:∀ {q:B0} {m:C9} (j:Nat) {e:ByteArray×D},MQ B q m->m[j]?=some e->∃(p:List UInt8×Rat) (y:GF),q[j]?=some p/\e=(sb p.1,y.D)/\FR p.2 y B
 | [],[],j,e,_,h=>by simp at h
 |p::q,e'::m,0,e,⟨⟨h1,y,h2,h3⟩,_⟩,h=>by
  simp at h;subst h;exact⟨p,y,rfl,by rw[<-h1,<-h2],h3⟩
 |_::q,_::m,j+1,e,⟨_,h4⟩,h=>by
  obtain⟨p,y,a,b,c⟩:=MQ.at_ j h4 (by simpa using h);exact⟨p,y,by simpa using a,b,c⟩
theorem TU:∀(n:Nat) (l:List Nat),l.Nodup->(∀i∈l,i<n)->l.length<=n
 | 0,[],_,_=>Ai _
 | 0,a::l,_,h=>Ae (h a (by simp)) (G6 a)
 |n+1,l,hd,h=>by
  by_cases hn:n∈l
  ·have h1:=TU n (l.erase n) (hd.erase n) λi hi=>by
    have h2:=h i (List.mem_of_mem_erase hi);have h3:i≠n:=(hd.mem_erase_iff.1 hi).1;omega
   rw[List.length_erase_of_mem hn]at h1;omega
  ·have h1:=TU n l hd λi hi=>by
    have h2:=h i hi;have h3:i≠n:=λe=>hn (e ▸ hi)
    omega
   omega
def FU (q:B0):B0:=q.mergeSort λa b=>!ltStr b.1 a.1
theorem Ka (q:B0):(FU q).Perm q:=List.mergeSort_perm _ _
theorem Qy (q:B0):(FU q).Pairwise λa b=>ltStr b.1 a.1=false:=by
 have:=List.pairwise_mergeSort (le:=λa b:List UInt8×Rat=>!ltStr b.1 a.1) (λa b c h1 h2=>by simp only[Bi]at*;exact swo_ltStr.ntrans _ _ _ h2 h1) (λa b=>by
  cases h1:ltStr b.1 a.1 with
  |false=>rfl
  |true=>
   cases h2:ltStr a.1 b.1 with
   |false=>rfl
   |true=>have:=swo_ltStr.trans _ _ _ h1 h2;rw[swo_ltStr.irrefl]at this;cases this) q
 exact this.imp λh=>by simpa using h
theorem xu {q:B0}(hn:(q.map (·.1)).Nodup){a b:List UInt8×Rat}(ha:a∈q)(hb:b∈q)(h:a.1=b.1):a=b:=by
 obtain⟨i,hi,rfl⟩:=List.mem_iff_getElem.1 ha;obtain⟨j,hj,rfl⟩:=List.mem_iff_getElem.1 hb
 have:i=j:=(List.getElem_inj (h₀:=by simpa using hi) (h₁:=by simpa using hj) hn).1 (by simpa using h)
 subst this;rfl
theorem W0 {a b:List UInt8}(h1:ltStr a b=false)(h2:ltStr b a=false):a=b:=by
 simp only[ltStr,Is,List.not_lt]at h1 h2;exact List.le_antisymm h2 h1
theorem S0 {q l l':B0}(hn:(q.map (·.1)).Nodup)(hp:l.Perm q)(hp':l'.Perm q)(hs:l.Pairwise λa b=>ltStr b.1 a.1=false)(hs':l'.Pairwise λa b=>ltStr b.1 a.1=false):l=l':=
 List.Perm.eq_of_pairwise (le:=λa b:List UInt8×Rat=>ltStr b.1 a.1=false) (λ_ _ ha hb h1 h2=>xu hn (hp.mem_iff.1 ha) (hp'.mem_iff.1 hb) (W0 h2 h1)) hs hs' (hp.trans hp'.symm)
theorem uz (q:B0)(dn:List Nat)(hd:dn.Nodup)(h1:∀i∈dn,i<q.length)(h2:∀i,i<q.length->i∈dn):(dn.map (qv q)).Perm q:=by
 have hp:dn.Perm (List.range q.length):=(List.perm_ext_iff_of_nodup hd List.nodup_range).2 λa=>by
  rw[List.mem_range];exact⟨h1 a,h2 a⟩
 have he:(List.range q.length).map (qv q)=q:=by
  apply List.ext_getElem (by simp);intro i h3 h4;rw[List.getElem_map,List.getElem_range];exact Vh (BG h4)
 have:=hp.map (qv q)
 rwa [he]at this
def Jy (q:B0):B0:=if q.any (λp=>Du p.2)then[]else FU q
def Id (q:B0):Nat:=if q.any (λp=>Du p.2)then 4 else 0
def Jx (q:B0):D:=.tup [.sl false 2 ((Jy q).map Cn),i64 (Id q:Nat)]
instance d5Z (q:B0):AA (Jx q):=by unfold Jx;exact AI
theorem Yt (B:Nat)(hB9:B<100000)(q:B0)(m:C9)(hm:MQ B q m)(hl:q.length<=10000)(hnd:(q.map (·.1)).Nodup):AJ C0 69 [mapD m] (Jx q):=by
 refine Aj.walk w1 eF rfl λF0=>?_
 obtain⟨ks,hks⟩:∃ks:List D,m.map (λp=>(.prim (.string p.1):D))=ks:=⟨_,rfl⟩
 obtain⟨vs,hvs⟩:∃vs:List D,m.map (·.2)=vs:=⟨_,rfl⟩
 have hml:=hm.len;have hkl:ks.length=m.length:=by rw[<-hks,Am]
 unfold mapD;rw[hks,hvs];refine sZ 0 ?_;refine AE kB ?_;refine sZ 100 ?_;refine AE kB ?_;refine AC.seq ?_;refine AC.seq ?_;refine IC (by kernel_rfl) ?_;change Bd _ _ _ _ _ ([0]++(1::[])) _ _;refine FW w1 200 [0] _ ?_;refine AE kB ?_;refine zK 201 (OQ (w1.xt 112 _ rfl)).1 rfl rfl rfl rfl (V4 F0) (λF1 o1 hto hO hI=>Bd.nil ?_);refine An ?_;refine AC.block ?_;refine Ge (α:=List Nat×Obj×Nat×Nat) (λp=>⟨[(8,.optr 201 4 0 0 0),(4,D3 706 p.2.2.1 2 (p.1.map λj=>Cn (qv q j)))],Dt 706 p.2.2.1 88 2 (p.1.map λj=>Cn (qv q j)),p.2.2.2⟩) (λp=>q.length-p.1.length)
  (λp F=>C7 C0 F0 F [⟨201,4,p.2.1⟩]/\NI F p.2.1 ks vs p.1/\∀j∈p.1,Du (qv q j).2=false) ([],o1,0,_) ⟨hO,hI,by simp⟩ AL ?_
 clear hO hI hto;rintro⟨dn,o,g7,n1⟩ F ⟨hO,hI,hB⟩;dsimp only at hO hI hB⊢;refine AC.seq ?_;refine IC (by kernel_rfl) ?_;change Bd _ _ _ _ _ [0,1] _ _;refine zJ rfl rfl rfl rfl hO hI (λhall=>?_) (λj kd vd F2 o2 hjn hkd hvd hto hO2 hI2=>?_)
 ·change Bd _ _ _ _ _ ([1]++[]) _ _
  refine FW w1 300 [1] [] ?_;refine AE kB ?_;refine Bd.nil ?_;refine An ?_;refine AC.seq ?_;refine AM ?_;refine CC ?_;have hq2:∀j,j<q.length->j∈dn:=λj hj=>hall j (by rw[hkl,<-hml];exact hj)
  have hdn:dn.Nodup/\∀i∈dn,i<q.length:=by
   obtain⟨bm,es,clock,since,c0,seen,-,-,-,z4,-,-,-,-,-,-,-,-,z8,z9⟩:=hI;exact⟨z8,λi hi=>by have:=z9 i hi;omega⟩
  have hpm:=uz q dn hdn.1 hdn.2 hq2;have hpl:(dn.map (qv q)).length=q.length:=hpm.length_eq;have hbf:q.any (λp=>Du p.2)=false:=by
   rw[List.any_eq_false];intro p hp;obtain⟨i,hpi⟩:=List.mem_iff_getElem?.1 hp;have hi:=(List.getElem?_eq_some_iff.1 hpi).1
   have:=hB i (hq2 i hi)
   rw[Vh hpi]at this;rw[this];exact Bool.false_ne_true
  have hmm:(dn.map λj=>Cn (qv q j))=(dn.map (qv q)).map Cn:=by rw[List.map_map];rfl
  rw[hmm];generalize hLL:dn.map (qv q)=LL at hpm hpl⊢;have hrs:Jx q=.tup [.sl false 2 ((FU q).map Cn),i64 0]:=by unfold Jx Jy Id;rw[hbf];rfl
  clear hmm hI hO hB hall hq2 hdn;rcases LL with _|⟨z,LL⟩
  ·have hqn:q=[]:=List.length_eq_zero_iff.1 (by rw[<-hpl];rfl)
   subst hqn;rw[show D3 706 g7 2 (List.map Cn [])=CR from rfl,show Dt 706 g7 88 2 (List.map Cn [])=[]from rfl];have cS:=lk;refine AG Ag kB cS AB AB AB AB AB ?_;exact⟨_,Gt (.nil 2) (.refl _),AA.out,by rw[hrs,show FU []=[]from List.mergeSort_nil];rfl⟩
  ·have cS:=λkb gg H n=>iz (z::LL) (by simp) (by rw[hpl];omega) kb gg H n
   rw[Bp]at cS;rw[show D3 706 g7 2 (List.map Cn (z::LL))=.osl 706 g7 2 0 ((LL.map Cn).length+1)from rfl,show Dt 706 g7 88 2 (List.map Cn (z::LL))=[⟨706,g7,88,2,(z::LL).map Cn⟩]from rfl,Am];refine AG Ag kB cS AB AB AB AB AB ?_;refine BE.own _ (cS 706 g7 [] _) ?_;rintro d H' n' ⟨rfl,rfl,l',hp',hs',rfl⟩;have hpq:l'.Perm q:=hp'.trans hpm;have hl':=S0 hnd hpq (Ka q) hs' (Qy q);have hl0:l'≠[]:=λq=>by rw[q]at hp';have:=hp'.length_eq;simp at this
   have hll:LL.length+1=l'.length:=by rw[hp'.length_eq];rfl
   rw[hll];rw[<-hl']at hrs;clear hl' cS hp' hs' hpm hll;refine AG Ag kB AB AB AB AB AB AB ?_;rw[hrs];refine⟨_,Gt (?_:Fz _ [] _ (.sl false 2 (l'.map Cn))) (.refl _),AA.out,rfl⟩;rcases l' with _|⟨z',t'⟩
   ·exact Ae rfl hl0
   ·have:=RO 706 g7 88 2 ((z'::t').map Cn)
    rw[show D3 706 g7 2 ((z'::t').map Cn)=.osl 706 g7 2 0 ((t'.map Cn).length+1)from rfl,show Dt 706 g7 88 2 ((z'::t').map Cn)=[⟨706,g7,88,2,(z'::t').map Cn⟩]from rfl,Am]at this;exact this
 change Bd _ _ _ _ _ ([1]++[]) _ _;refine FW w1 300 [1] [] ?_;refine AE kB ?_;refine Bd.nil ?_;refine An ?_;refine AC.seq ?_;refine AM ?_;refine Ao ?_;obtain⟨p,hp⟩:∃p,m[j]?=some p:=by
  rw[<-hks,A7]at hkd;obtain⟨p,hp,-⟩:=Option.map_eq_some_iff.1 hkd;exact⟨p,hp⟩
 obtain⟨pq,y,hq,rfl,hy⟩:=hm.at_ j hp;have hkd2:kd=str (sb pq.1):=by
  rw[<-hks,A7,hp]at hkd;exact(F7 hkd).symm
 have hvd2:vd=y.D:=by
  rw[<-hvs,A7,hp]at hvd;exact(F7 hvd).symm
 subst hkd2 hvd2;have hqv:=Vh hq;refine AC.block ?_;refine AC.seq ?_;refine IC (by kernel_rfl) ?_;change Bd _ _ _ _ _ (0::([1,2,3,4,5]++[])) _ _;refine zH (xo:=⟨201,4,o2⟩) rfl rfl rfl rfl hO2 CA hI2 hkd hvd ?_;refine FW w1 400 [1,2,3,4,5] [] ?_;refine AE kB ?_;refine Bd.nil ?_;have cL:=ZU hy (by omega);have cT:=dg hy (by omega);obtain⟨bg,hbg⟩:∃b,Du pq.2=b:=⟨_,rfl⟩
 rw[hbg]at cL;refine An ?_;have hdl:dn.length+1<=q.length:=by
  have h1:∀i∈dn++[j],i<q.length:=by
   obtain⟨bm,es,clock,since,c0,seen,-,-,-,z4,-,-,-,-,-,-,-,-,-,z9⟩:=hI2;intro i hi
   have:=z9 i hi
   omega
  have h2:(dn++[j]).Nodup:=by
   obtain⟨bm,es,clock,since,c0,seen,-,-,-,-,-,-,-,-,-,-,-,-,z8,-⟩:=hI2;exact z8
  have:=TU _ _ h2 h1
  simpa using this
 have hsn:(dn++[j]).map (λj=>Cn (qv q j))=dn.map (λj=>Cn (qv q j))++[.agg [str (sb pq.1),str (sb (BO pq.2))]]:=by rw[DG,Ct,List.map_nil,hqv];rfl
 have hTl:(dn.map λj=>Cn (qv q j)).length=dn.length:=Am ..;obtain⟨TL,hTL⟩:∃TL,dn.map (λj=>Cn (qv q j))=TL:=⟨_,rfl⟩
 rw[hTL]at hsn hTl⊢;cases bg
 rotate_left
 ·have hrb:(D.tup [.sl false 2 [],i64 4])=Jx q:=by
   have:q.any (λp=>Du p.2)=true:=by
    rw[List.any_eq_true];exact⟨pq,Aw hq,hbg⟩
   unfold Jx Jy Id;rw[this];rfl
  rcases TL with _|⟨z,TL⟩
  ·dsimp only[I6,I7]
   refine AG Ag kB cL AB AB AB AB AB ?_;exact⟨_,Gt (.nil 2) (.refl _),AA.out,hrb⟩
  ·dsimp only[Hk,Hl]
   refine AG Ag kB cL AB AB AB AB AB ?_;exact⟨_,Gt (.nil 2) (.refl _),AA.out,hrb⟩
 have hB2:∀i∈dn++[j],Du (qv q i).2=false:=λi hi=>by
  rcases List.mem_append.1 hi with hi|hi
  ·exact hB i hi
  ·rw[List.mem_singleton]at hi;rw[hi,hqv];exact hbg
 rcases TL with _|⟨z,TL⟩
 ·dsimp only[I6,I7]
  refine AG Ag kB cL cT AB AB AB AB ?_;exact⟨(dn++[j],o2,_,_),⟨hO2,hI2,hB2⟩,by dsimp only;rw[Bk,Gj];omega,by(dsimp only;rw[hsn];exact AL)⟩
 ·dsimp only[Hk,Hl]
  have htk:List.take (TL.length+1) (z::TL)=z::TL:=by simp
  rw[Bp]at hTl;refine AG Ag htk cL cT AB AB AB AB ?_;exact⟨(dn++[j],o2,_,_),⟨hO2,hI2,hB2⟩,by dsimp only;rw[Bk,Gj];omega,by(dsimp only;rw[hsn,OC];exact AL)⟩
abbrev Cq (q:B0):List (List UInt8):=q.map (·.1)
theorem X7 (lot:List UInt8)(r:Rat):∀q:B0,Cq (GZ lot r q)=if lot∈Cq q then Cq q else Cq q++[lot]
 | []=>by simp[GZ,Cq]
 |p::l=>by
  unfold GZ
  by_cases h:lot=p.1
  ·rw[AH h]
   subst h;simp[Cq]
  ·rw[AF h]
   show p.1::Cq (GZ lot r l)=if lot∈p.1::Cq l then p.1::Cq l else p.1::Cq l++[lot]
   rw[X7 lot r l]
   by_cases h2:lot∈Cq l
   ·rw[AH h2,AH (CF _ h2)]
   ·rw[AF h2,AF (by
     intro q;rcases BA.1 q with q|q
     ·exact h q
     ·exact h2 q)];rfl
structure HL (P:List UInt8->Prop)(n:Nat)(q:B0):Prop where
 nd:(Cq q).Nodup
 all:∀k∈Cq q,P k
 len:q.length<=n
theorem HL.set {P:List UInt8->Prop}{n:Nat}{q:B0}(h:HL P n q){lot:List UInt8}(hl:P lot)(r:Rat):HL P (n+1) (GZ lot r q):=by
 have hk:=X7 lot r q;have hlen:(GZ lot r q).length=(Cq (GZ lot r q)).length:=by simp[Cq]
 have hlen2:q.length=(Cq q).length:=by simp[Cq]
 by_cases hm:lot∈Cq q
 ·rw[AH hm]at hk
  exact⟨by rw[hk];exact h.nd,by rw[hk];exact h.all,by rw[hlen,hk,<-hlen2];have:=h.len;omega⟩
 ·rw[AF hm]at hk
  refine⟨?_,?_,?_⟩
  ·rw[hk,Ep]
   exact⟨h.nd,by simp,λa ha b hb=>by
    rw[List.mem_singleton]at hb;subst hb;exact λe=>hm (e ▸ ha)⟩
  ·rw[hk]
   intro k hk;rcases List.mem_append.1 hk with q|q
   ·exact h.all k q
   ·rw[List.mem_singleton]at q;rw[q];exact hl
  ·rw[hlen,hk,Bk,<-hlen2]
   have:=h.len
   simp;omega
theorem HL.mono {P:List UInt8->Prop}{n n':Nat}{q:B0}(h:HL P n q)(hn:n<=n'):HL P n' q:=⟨h.nd,h.all,BR h.len hn⟩
theorem Wy {P:List UInt8->Prop}{n:Nat}{q:B0}(x:AD)(h:HL P n q)(hp:∀s∈x.shs,P s.lot):∀j,j<=x.shs.length->HL P (n+j) (GU x j q)
 | 0,_=>h
 |j+1,hj=>by
  obtain⟨s,hs⟩:∃s,x.shs[j]?=some s:=⟨_,BG hj⟩
  rw[OI x j q hs];exact(Wy x h hp j (by omega)).set (hp s (Aw hs)) _
theorem Wo {P:List UInt8->Prop}(l:List AD)(hp:∀x∈l,x.shs.length<=64/\∀s∈x.shs,P s.lot):∀i,i<=l.length->HL P (64*i) (CL (l.take i))
 | 0,_=>⟨by simp[CL,Cq],by simp[CL,Cq],by simp[CL]⟩
 |i+1,hi=>by
  obtain⟨x,hx⟩:∃x,l[i]?=some x:=⟨_,BG hi⟩
  rw[QD l i hx];have h1:=hp x (Aw hx);exact(Wy x (Wo l hp i (by omega)) h1.2 _ (Ai _)).mono (by omega)
theorem S2 {P:List UInt8->Prop}{l:List AD}(hp:∀x∈l,x.shs.length<=64/\∀s∈x.shs,P s.lot):HL P (64*l.length) (CL l):=by
 have:=Wo l hp l.length (Ai _)
 rwa [DV]at this
theorem MQ.keys {B:Nat}:∀ {q:B0} {m:C9},MQ B q m->m.map (·.1)=(Cq q).map sb
 | [],[],_=>rfl
 |p::q,e::m,⟨⟨h1,_⟩,h4⟩=>by
  simp only[Ct,Cq];rw[h1]
  congr 1
  exact MQ.keys h4
theorem Wx (s:ByteArray):∀m:C9,Hx s (m.map λp=>.prim (.string p.1)) (m.map (·.2))=some (II s m)
 | []=>rfl
 |p::l=>by
  simp only[Ct,Hx,II];cases BF s p.1 with
  |true=>rfl
  |false=>exact Wx s l
theorem TS:∀ {q:B0} {p:List UInt8×Rat},(Cq q).Nodup->p∈q->Fw p.1 q=some p.2
 |a::q,p,hn,hp=>by
  unfold Fw;have hn:(a.1::Cq q).Nodup:=hn;rw[List.nodup_cons]at hn;rcases BA.1 hp with rfl|hp
  ·rw[AH rfl]
  ·rw[AF λe=>hn.1 (by rw[<-e];exact List.mem_map_of_mem hp)]
   exact TS hn.2 hp
theorem jo (q:B0):PA (Cq q)=(FU q).map (·.1):=by
 unfold PA;refine List.Perm.eq_of_pairwise (le:=λx y:List UInt8=>x<=y) (λ_ _ _ _ h1 h2=>List.le_antisymm h1 h2) ?_ ?_ ?_
 ·have:=List.pairwise_mergeSort (le:=λx y:List UInt8=>decide (x<=y)) (λa b c h1 h2=>by simp only[F8]at*;exact List.le_trans h1 h2) (λa b=>by
   rcases List.le_total a b with h|h<;>simp[h]) (Cq q)
  exact this.imp λh=>by simpa using h
 ·rw[List.pairwise_map]
  exact(Qy q).imp λh=>by simpa[ltStr]using h
 ·exact(List.mergeSort_perm _ _).trans ((Ka q).map _).symm
abbrev Kf:Dr:=[(12,[0,1,2,3,4,5],[6])]
open Go.Proofs Go.RowKit
set_option maxRecDepth 20000
set_option maxHeartbeats 4000000
def B7 (l:List AD):Bool:=l.all λx=>BF (sb x.grain) (sb (CI l 0).grain)
def HW (l:List AD):Nat:=if l.length=0 then 2 else if 64<l.length then 5 else if Dm (λi=>Ca (CI l i)) l.length≠0 then Dm (λi=>Ca (CI l i)) l.length else if B7 l=false then 16 else if AT l>999999999 then 4 else 0
def SA (l:List AD):Int:=if HW l=0 then AT l else 0
theorem kQ (b:Bool)(v:List AD)(hl:v.length<=1000000)(hf:∀x∈v,x.few):AJ C0 177 [.clo (.func 107) [] [],AY b v] (i64 (Dm (λi=>Ca (CI v i)) v.length:Nat)):=by
 refine Aj.walk w1 bl rfl λF=>?_
 have el:(((v.map AD.D).length:Nat):Int)=(v.length:Int):=by rw[Am]
 refine AG Ag el AB AB AB AB AB AB ?_;refine AC.loop (α:=Nat×Nat) (λp=>⟨[(0,.clo (.func 107) [] []),(8,AY b v),(9,i64 (v.length:Int)),(10,i64 (p.1:Int))],[],p.2⟩) (λp=>v.length-p.1)
  (λp=>p.1<=v.length/\∀j,j<p.1->Ca (CI v j)=0) (0,_) ⟨BX _,λj h=>Ae h (G6 j)⟩ AL ?_
 rintro⟨i,m⟩ F ⟨hi,hz⟩;dsimp only at hi hz⊢;rcases BI i v.length with h2|h2
 ·have e1:=Ce h2
  have wi:=Cf (i:=i) (by omega);obtain⟨x,hx⟩:=CK h2;have hm:(v.map AD.D)[i]?=some (.agg [str (sb x.grain),i64 x.mass,.sl false 2 (x.shs.map Av.D)]):=by rw[A7,hx];rfl
  have cL:=gN x (hf x (Aw hx));unfold AD.D at cL;rcases Nat.decEq (Ca x) 0 with hc0|hc0
  ·have e3:=GX hc0
   have hE:=Oe (f:=λi=>Ca (CI v i)) hz h2 (by rw[Fg hx];exact hc0);rw[Fg hx]at hE;rw[hE];refine AG Ag (At e1 e3 kN) hm cL AB AB AB AB ?_;exact AK rfl AA.out
  ·have e3:=GY hc0
   refine AG Ag (BZ e1 e3 wi kN) hm cL AB AB AB AB ?_;exact⟨(i+1,_),⟨h2,λj hj=>by
    rcases Nat.lt_succ_iff_lt_or_eq.1 hj with q|q
    ·exact hz j q
    ·rw[q,Fg hx];exact hc0⟩,by dsimp only;omega,AL⟩
 ·have e1:=Cd h2
  have:i=v.length:=by omega
  subst this;rw[KY (f:=λi=>Ca (CI v i)) hz];refine AG Ag e1 AB AB AB AB AB AB ?_;exact AK rfl AA.out
theorem qI (b:Bool)(l:List AD)(hl:l.length<=1000000)(hf:∀x∈l,x.few):AJ C0 135 [AY b l] (.tup [i64 (SA l),i64 (HW l:Nat)]):=by
 refine Aj.walk w1 aO rfl λF=>?_
 have el:(((l.map AD.D).length:Nat):Int)=(l.length:Int):=by rw[Am]
 have hC:HW l=if l.length=0 then 2 else if 64<l.length then 5 else if Dm (λi=>Ca (CI l i)) l.length≠0 then Dm (λi=>Ca (CI l i)) l.length else if B7 l=false then 16 else if AT l>999999999 then 4 else 0:=rfl
 have hM:SA l=if HW l=0 then AT l else 0:=rfl
 have cA:=kQ b l hl hf
 by_cases h0:l.length=0
 ·rw[AH h0]at hC
  rw[hC]at hM;rw[hM,hC];have q1:((l.length:Int)==0)=true:=by rw[h0];rfl
  refine AG Kf (Ad el q1) AB AB AB AB AB AB ?_;exact AK rfl AA.out
 rw[AF h0]at hC;have q1:((l.length:Int)==0)=false:=by
  rw[Bu];omega
 by_cases h64:64<l.length
 ·rw[AH h64]at hC
  rw[hC]at hM;rw[hM,hC];have q2:decide ((l.length:Int)>64)=true:=AZ (by omega);refine AG Kf (At el q1 q2) AB AB AB AB AB AB ?_;exact AK rfl AA.out
 rw[AF h64]at hC;have q2:decide ((l.length:Int)>64)=false:=Ah (by omega);obtain⟨K,hK⟩:∃K,Dm (λi=>Ca (CI l i)) l.length=K:=⟨_,rfl⟩
 rw[hK]at hC cA;rcases Nat.decEq K 0 with hc0|hc0
 ·have e3:=GX hc0
  rw[AH hc0]at hC;rw[hC]at hM;rw[AF hc0]at hM;rw[hM,hC];refine AG Kf (BZ el q1 q2 e3) cA AB AB AB AB AB ?_;exact AK rfl AA.out
 have e3:=GY hc0;rw[AF (λh=>h hc0)]at hC;have hz:∀j,j<l.length->Ca (CI l j)=0:=Qg (hK.trans hc0);have hsm:=TW h64 hz;obtain⟨x0,hx0⟩:∃x,l[0]?=some x:=⟨_,BG (by omega)⟩
 have hm0:(l.map AD.D)[0]?=some (.agg [str (sb x0.grain),i64 x0.mass,.sl false 2 (x0.shs.map Av.D)]):=by rw[A7,hx0];rfl
 have hv0:=Fg hx0;refine AG Kf (BZ el q1 q2 e3) cA AB AB AB AB AB ?_;refine AC.loop (α:=Nat×Nat) (λp=>⟨[(0,AY b l),(5,i64 (AT (l.take p.1))),(19,AY b l),(20,i64 (l.length:Int)),(21,i64 (p.1:Int))],[],p.2⟩) (λp=>l.length-p.1)
  (λp=>p.1<=l.length/\∀x∈l.take p.1,BF (sb x.grain) (sb x0.grain)=true) (0,_) ⟨BX _,λx h=>by simp at h⟩ AL ?_
 rintro⟨i,m⟩ F ⟨hi,hs⟩;dsimp only at hi hs⊢;rcases BI i l.length with h2|h2
 rotate_left
 ·have e1:=Cd h2
  have:i=l.length:=by omega
  subst this;rw[DV]at hs⊢;have hg:B7 l=true:=by
   unfold B7;rw[CS,hv0];exact hs
  rw[AF (by rw[hg];decide)]at hC
  by_cases h9:AT l>999999999
  ·have e9:decide (AT l>999999999)=true:=AZ h9
   rw[AH h9]at hC;rw[hC]at hM;rw[hM,hC];refine AG Kf (Ad e1 e9) AB AB AB AB AB AB ?_;exact AK rfl AA.out
  ·have e9:decide (AT l>999999999)=false:=Ah h9
   rw[AF h9]at hC;rw[hC]at hM;rw[hM,hC];refine AG Kf (Ad e1 e9) AB AB AB AB AB AB ?_;exact AK rfl AA.out
 have e1:=Ce h2;have wi:=Cf (i:=i) (by omega);obtain⟨x,hx⟩:=CK h2;have hm:(l.map AD.D)[i]?=some (.agg [str (sb x.grain),i64 x.mass,.sl false 2 (x.shs.map Av.D)]):=by rw[A7,hx];rfl
 have hsum:=TN hx;have hs1:=UE (l:=l.take i) λy hy=>hsm.2 y (FX hy)
 have hs2:=hsm.2 x (Aw hx);rw[Bb]at hs1;have ws:IntKind.i64.wrap (AT (l.take i)+x.mass)=AT (l.take i)+x.mass:=wI (by omega) (by omega);obtain⟨bG,hbG⟩:∃q,BF (sb x.grain) (sb x0.grain)=q:=⟨_,rfl⟩
 cases bG
 ·have hg:B7 l=false:=by
   unfold B7;rw[List.all_eq_false];exact⟨x,Aw hx,by rw[hv0,hbG];decide⟩
  rw[AH hg]at hC;rw[hC]at hM;rw[hM,hC];refine AG Kf (At e1 hbG kN) hm hm0 AB AB AB AB ?_;exact AK rfl AA.out
 ·refine AG Kf (CO e1 hbG wi ws kN) hm hm0 AB AB AB AB ?_
  exact⟨(i+1,_),⟨h2,λy hy=>by
   rw[Dp,hx]at hy;rcases List.mem_append.1 hy with q|q
   ·exact hs y q
   ·have:y=x:=by simpa using q
    rw[this];exact hbG⟩,by dsimp only;omega,by(dsimp only;rw[hsum];exact AL)⟩
abbrev Ei:Dr:=[(11,[0,1,2,3,4,5,6,7],[8]),(24,[0,1,2,3,4,5,6,7,8,9,10],[11])]
open Go.Proofs Go.RowKit Go.Sort
set_option maxRecDepth 20000
set_option maxHeartbeats 4000000
def Gz (l:List AD):Nat:=if HW l≠0 then HW l else if 64<(CL l).length then 5 else if(FU (CL l)).any (λp=>Du (p.2/(AT l:Rat)))then 4 else 0
def El (l:List AD):List Av:=(FU (CL l)).map λp=>⟨p.1,BO (p.2/(AT l:Rat))⟩
def LH (l:List AD):AD:=if Gz l≠0 then⟨[],0,[]⟩else⟨(CI l 0).grain,AT l,El l⟩
def AD.lite (x:AD):Prop:=x.few/\∀s∈x.shs,s.lot.length<=1000/\s.part.length<=40
theorem XX {l:List Av}(h:Ht l=0):0<l.length/\l.length<=64/\∀s∈l,Dg s.lot=true/\Cb s.part=0/\0<Gy (CT s.part):=by
 unfold Ht at h;split at h
 ·cases h
 ·split at h
  ·cases h
  ·split at h
   ·rename_i h3;exact Ae h h3
   ·rename_i h1 h2 h3
    refine⟨by omega,by omega,λs hs=>?_⟩;obtain⟨j,hj⟩:=List.mem_iff_getElem?.1 hs;have hE:=Qg (f:=FZ l) (n:=l.length) (by omega) j (List.getElem?_eq_some_iff.1 hj).1;unfold FZ at hE;rw[Jo hj]at hE;split at hE
    ·cases hE
    ·split at hE
     ·cases hE
     ·split at hE
      ·rename_i h6;exact Ae hE h6
      ·split at hE
       ·cases hE
       ·rename_i h4 h5 h6 h7
        exact⟨by simpa using h4,by omega,by omega⟩
theorem b8 {x:AD}(hl:x.lite)(h:Ca x=0):x.ok/\∀s∈x.shs,Dg s.lot=true:=by
 obtain⟨h1,h2,h3,h4⟩:=OZ h;obtain⟨g1,g2,g3⟩:=XX h4;exact⟨⟨g2,by unfold Sm;omega,λs hs=>⟨BR (hl.2 s hs).1 (by omega),(hl.2 s hs).2,(g3 s hs).2.1⟩⟩,λs hs=>(g3 s hs).1⟩
theorem Zo {l:List AD}(h:HW l=0):0<l.length/\l.length<=64/\(∀x∈l,Ca x=0)/\B7 l=true/\AT l<=999999999:=by
 unfold HW at h;split at h
 ·cases h
 ·split at h
  ·cases h
  ·split at h
   ·rename_i h3;exact Ae h h3
   ·split at h
    ·cases h
    ·split at h
     ·cases h
     ·rename_i h1 h2 h3 h4 h5
      refine⟨by omega,by omega,λx hx=>?_,by simpa using h4,by omega⟩;obtain⟨j,hj⟩:=List.mem_iff_getElem?.1 hx
      have:=Qg (f:=λi=>Ca (CI l i)) (n:=l.length) (by omega) j (List.getElem?_eq_some_iff.1 hj).1
      rwa [Fg hj]at this
theorem Yi:∀ {l:List AD},(∀x∈l,Ca x=0)->(l.length:Int)<=AT l
 | [],_=>by simp[AT]
 |x::l,h=>by
  have h1:=(OZ (h x CA)).2.1;have h2:=Yi (l:=l) λy hy=>h y (CF _ hy)
  unfold AT at h2⊢;simp only[Ct,List.sum_cons,Bp];omega
theorem Of (H:Hp)(e:Int):Fz H [] (.tup [.agg [str ⟨#[]⟩,i64 0,CR],i64 e]) (.tup [(⟨[],0,[]⟩:AD).D,i64 e]):=
 Gt (.agg rfl λi d d' h h'=>by
  match i with
  | 0=>cases h;cases h';exact .refl _
  | 1=>cases h;cases h';exact .refl _
  | 2=>cases h;cases h';exact .nil 2
  |n+3=>cases h) (.refl _)
theorem bZ {H:Hp}{gr m sD e:D}{L:List D}(h:Fz H [] sD (.sl false 2 L)):Fz H [] (.tup [.agg [gr,m,sD],e]) (.tup [.agg [gr,m,.sl false 2 L],e]):=
 Gt (.agg rfl λi d d' h1 h2=>by
  match i with
  | 0=>cases h1;cases h2;exact .refl _
  | 1=>cases h1;cases h2;exact .refl _
  | 2=>cases h1;cases h2;exact h
  |n+3=>cases h1) (.refl _)
theorem oF {H:Hp}{k g T sz:Nat}{z:D}{l:List D}(he:Hp.get H k=some ⟨k,g,T,sz,z::l⟩):Fz H [] (.osl k g sz 0 (l.length+1)) (.sl false sz (z::l)):=by
 refine .osl (e:=⟨k,g,T,sz,z::l⟩) he rfl rfl rfl (by simp) (by simp) (λj d d' h1 h2=>?_) λj d d' q c c' h1 h2 h3 h4=>?_
 ·rw[BV]at h1;rw[h1]at h2;cases h2;rfl
 ·rw[BV]at h1;rw[h1]at h2;cases h2;rw[h3]at h4;cases h4;exact Fz.refl _
theorem nQ (l:C9)(H:Hp)(n:Nat):Cg C0 137 [mapD l] H n (λd H' n'=>∃g,d=.clo (.func 180) [] [.optr 77000 g 1 0 0]/\H'=⟨77000,g,112,1,[mapD l]⟩::H/\n'=n+4):=by
 refine Cg.walk w1 aQ rfl λF0=>?_
 obtain⟨M,hM⟩:∃M,mapD l=M:=⟨_,rfl⟩
 have hc:∃ks vs,M=.mp ks vs:=⟨_,_,hM.symm⟩
 obtain⟨ks,vs,hc⟩:=hc;subst hc;rw[hM];refine AC.seq ?_;refine Ap w1 77000 (by kernel_rfl) ?_;refine AE kB ?_;refine An ?_;refine AG Ag kB AB AB AB AB AB AB ?_;exact⟨_,rfl,rfl,trivial⟩
theorem vO {r:Rat}{x:GF}{k:Nat}(h:FR r x k)(hk:k<100000):AJ C0 138 [x.D] (.tup [str (sb (VV r)),i64 (VU r:Nat)]):=by
 refine Aj.walk w1 aR rfl λF=>?_
 have c1:=ZU h hk;have c2:=dg h hk;unfold VV VU;obtain⟨b,hb⟩:∃b,Du r=b:=⟨_,rfl⟩
 rw[hb]at c1⊢;cases b
 all_goals
  refine AG Ag kB c1 c2 AB AB AB AB ?_;exact AK rfl AA.out
theorem yX (b:Bool)(l:List AD)(hl:l.length<=1000000)(hf:∀x∈l,x.lite):AJ C0 90 [AY b l] (.tup [(LH l).D,i64 (Gz l:Nat)]):=by
 refine Aj.walk w1 eO rfl λF0=>?_
 have el:(((l.map AD.D).length:Nat):Int)=(l.length:Int):=by rw[Am]
 have cM:=qI b l hl λx hx=>(hf x hx).1
 have hN:Gz l=if HW l≠0 then HW l else if 64<(CL l).length then 5 else if(FU (CL l)).any (λp=>Du (p.2/(AT l:Rat)))then 4 else 0:=rfl
 have hL:LH l=if Gz l≠0 then⟨[],0,[]⟩else⟨(CI l 0).grain,AT l,El l⟩:=rfl
 rcases Nat.decEq (HW l) 0 with g|g
 ·have e1:=GX g
  rw[AH g]at hN;rw[hN,AH g]at hL;rw[hL,hN];refine AG Ei e1 cM AB AB AB AB AB ?_;exact⟨_,Of _ _,AA.out,rfl⟩
 have e1:=GY g;rw[AF (λh=>h g)]at hN;have hmm:SA l=AT l:=by unfold SA;rw[AH g]
 obtain⟨g1,g2,g3,g4,g5⟩:=Zo g;have hx:∀x∈l,x.ok:=λx h=>(b8 (hf x h) (g3 x h)).1
 have g6:=Yi g3;rw[hmm]at cM;refine sZ 0 ?_;refine AE kB ?_;refine sZ 100 ?_;refine AE kB ?_;refine cI cM ?_;refine AE kB ?_;refine AC.seq ?_;refine sZ 200 ?_;refine AE e1 ?_;refine AM ?_;refine Ao ?_;refine AC.seq ?_;refine IC (by kernel_rfl) ?_;change Bd _ _ _ _ _ [0,1] _ _;refine Bd.makeMap 400 rfl rfl rfl (V4 F0) (λF1 it hto hO hr0 hnX hM=>?_);change Bd _ _ _ _ _ ([1]++[]) _ _;refine FW w1 400 [1] [] ?_;refine AE kB ?_;refine Bd.nil ?_;refine AG Ei el AB AB AB AB AB AB ?_;refine Ge (α:=Nat×C9×Obj×Nat) (λp=>⟨[(0,AY b l),(2,.optr 0 0 3 0 0),(4,i64 (AT l)),(6,.prim (.map (some it))),(29,AY b l),(30,i64 (l.length:Int)),(31,i64 (p.1:Int))],[⟨0,0,80,3,[.agg [.prim (.string ⟨#[]⟩),.prim (.int .i64 0),.prim (.slice none 0 0)]]⟩],p.2.2.2⟩) (λp=>l.length-p.1)
  (λp F=>p.1<=l.length/\C7 C0 F0 F [⟨400,11,p.2.2.1⟩]/\F.r0 400 11=some it/\Hv F p.2.2.1 p.2.1/\MQ (320*p.1) (CL (l.take p.1)) p.2.1) (0,[],.map #[] 0,_) ⟨BX _,hO,hr0,hM,trivial⟩ AL ?_
 clear hO hr0 hM hto;rintro⟨i,m,o,n1⟩ F ⟨hi,hO,hr0,hM,hQ⟩;dsimp only at hi hO hr0 hM hQ⊢;rcases BI i l.length with h2|h2
 rotate_left
 ·have e1:=Cd h2
  have:i=l.length:=by omega
  subst this;rw[DV]at hQ;refine sZ 600 ?_;refine AE e1 ?_;refine AC.seq ?_;refine AM ?_;refine CC ?_;refine gh [(0,AY b l),(2,.optr 0 0 3 0 0),(4,i64 (AT l)),(6,mapD m)] hO hr0 hnX hM ⟨.inl rfl,.inl rfl,.inl rfl,.inr ⟨rfl,rfl⟩,trivial⟩ (λF2 hto2 hO2=>?_);have hKO:HL (λk=>k.length<=1000) (64*l.length) (CL l):=S2 λx h=>⟨(hx x h).1,λs hs=>((hf x h).2 s hs).1⟩
  have hQ2:MQ 32000 (CL l) m:=hQ.mono (by omega);clear hQ hO hM hto2 hO2;obtain⟨q,hq⟩:∃q,CL l=q:=⟨_,rfl⟩
  have hSS:El l=(FU q).map λp=>⟨p.1,BO (p.2/(AT l:Rat))⟩:=by rw[<-hq];rfl
  rw[hq]at hKO hQ2 hN;have hml:=hQ2.len;obtain⟨ks,hks⟩:∃ks:List D,m.map (λp=>(.prim (.string p.1):D))=ks:=⟨_,rfl⟩
  obtain⟨vs,hvs⟩:∃vs:List D,m.map (·.2)=vs:=⟨_,rfl⟩
  have hkl:ks.length=q.length:=by rw[<-hks,Am,hml]
  unfold mapD;rw[hks,hvs];refine AC.seq ?_;refine AC.seq ?_;refine IC (by kernel_rfl) ?_;change Bd _ _ _ _ _ ([0]++(1::([2]++[]))) _ _;refine FW w1 1800 [0] _ ?_;refine AE kB ?_;refine zI (OQ (w1.xt 112 _ rfl)).1 rfl rfl rfl rfl ?_;refine FW w1 1800 [2] _ ?_;refine AE kB ?_;refine Bd.nil ?_;rw[hkl]
  by_cases h64:64<q.length
  ·rw[AH h64]at hN
   rw[hN,AH (by omega)]at hL;rw[hL,hN];have q2:decide ((q.length:Int)>64)=true:=AZ (by omega);refine AG Ei q2 AB AB AB AB AB AB ?_;exact⟨_,Of _ _,AA.out,rfl⟩
  have q2:decide ((q.length:Int)>64)=false:=Ah (by omega);rw[AF h64]at hN;rw[q2];have hmd:mapD m=.mp ks vs:=by unfold mapD;rw[hks,hvs]
  have cK:=nQ m;have cS:=Fr m (Cq q) hQ2.keys (by omega) hKO.all hKO.nd;rw[hmd]at cK cS;obtain⟨x0,hx0⟩:∃x,l[0]?=some x:=⟨_,BG (by omega)⟩
  have hm0:(l.map AD.D)[0]?=some (.agg [str (sb x0.grain),i64 x0.mass,.sl false 2 (x0.shs.map Av.D)]):=by rw[A7,hx0];rfl
  refine AG Ei kB hm0 AB AB AB AB AB ?_;refine BE.own _ (cK _ _) ?_;rintro d H' n' ⟨gk,rfl,rfl,rfl⟩;refine AG Ei kB AB AB AB AB AB AB ?_;refine BE.own _ (cS _ _ _ _ _) ?_;rintro d H' n' ⟨rfl,rfl,rfl⟩;refine AG Ei kB AB AB AB AB AB AB ?_;have hkey:=jo q;have hsl:(FU q).length=q.length:=(Ka q).length_eq;have hsm:∀p∈FU q,p∈q:=λp h=>(Ka q).mem_iff.1 h
  rw[hkey];obtain⟨Q,hQ⟩:∃Q,FU q=Q:=⟨_,rfl⟩
  rw[hQ]at hN hSS hsl hsm⊢;have hMs:Sm (AT l):=by unfold Sm;omega
  have hM0:((AT l:Int):Rat)≠0:=λh=>by
   have:=Rat.intCast_inj.1 (h.trans (Rat.intCast_zero).symm)
   omega
  have fM:FR ((AT l:Int):Rat) ⟨AX (AT l),1⟩ 1:=Q9 (by unfold Sm at hMs;omega);have cF:=PS (AT l) hMs;obtain⟨kl,hkl2⟩:∃kl:List D,(List.map (λx=>str (sb x)) (Q.map (·.1)))=kl:=⟨_,rfl⟩
  have hkll:kl.length=Q.length:=by rw[<-hkl2];simp
  rw[hkl2];obtain⟨M,hMM⟩:∃M,AT l=M:=⟨_,rfl⟩
  have hgr:(CI l 0).grain=x0.grain:=by rw[Fg hx0]
  clear hmd cK cS hm0;rw[hMM]at hN hL hSS hMs hM0 fM cF;rw[hMM,hkll];obtain⟨g14,hg14⟩:∃g,n1+1+1+1+1+1+1+1+1+1+1=g:=⟨_,rfl⟩
  rw[hg14];refine AC.loop (α:=Nat×Nat×Nat) (λp=>⟨[(2,.optr 0 0 3 0 0),(4,i64 M),(6,.mp ks vs),(14,.optr 2006 g14 3 0 0),(78,.sl false 1 kl),(79,i64 (Q.length:Nat)),(80,i64 (p.1:Int))],
    Dt 2706 p.2.1 86 2 ((Q.take p.1).map λz=>(⟨z.1,BO (z.2/(M:Rat))⟩:Av).D)++[⟨2006,g14,80,3,[.agg [str (sb x0.grain),i64 M,D3 2706 p.2.1 2 ((Q.take p.1).map λz=>(⟨z.1,BO (z.2/(M:Rat))⟩:Av).D)]]⟩,⟨0,0,80,3,[.agg [.prim (.string ⟨#[]⟩),.prim (.int .i64 0),.prim (.slice none 0 0)]]⟩],p.2.2⟩) (λp=>Q.length-p.1)
   (λp=>p.1<=Q.length/\∀z∈Q.take p.1,Du (z.2/(M:Rat))=false) (0,0,_) ⟨BX _,λz h=>by simp at h⟩ AL ?_
  clear n1 hg14;rintro⟨i,g,n1⟩ F ⟨hi,hB⟩;dsimp only at hi hB⊢;have hTl:((Q.take i).map λz=>(⟨z.1,BO (z.2/(M:Rat))⟩:Av).D).length=i:=by rw[Am,Bb];omega
  obtain⟨TL,hTL⟩:∃TL,((Q.take i).map λz=>(⟨z.1,BO (z.2/(M:Rat))⟩:Av).D)=TL:=⟨_,rfl⟩
  rcases BI i Q.length with h2|h2
  rotate_left
  ·have e1:=Cd h2
   have:i=Q.length:=by omega
   subst this;rw[DV]at hB hTL⊢;have hany:Q.any (λp=>Du (p.2/(M:Rat)))=false:=by
    rw[List.any_eq_false];intro p hp;rw[hB p hp];decide
   rw[AF (by rw[hany];decide)]at hN;rw[AF (by omega)]at hL;rw[hL,hN,hgr];have hres:((⟨x0.grain,M,El l⟩:AD).D)=.agg [str (sb x0.grain),i64 M,.sl false 2 TL]:=by
    unfold AD.D CX;rw[<-hTL,hSS,List.map_map];rfl
   have pR:B8 (.tup [(⟨x0.grain,M,El l⟩:AD).D,i64 ((0:Nat):Int)]):=AA.out;rw[hres]at pR;rw[hres,hTL];rcases TL with _|⟨z,TL⟩
   ·dsimp only[I6,I7,List.nil_append]
    refine AG Ei e1 AB AB AB AB AB AB ?_;exact⟨_,bZ (.nil 2),pR,rfl⟩
   ·dsimp only[Hk,Hl,List.cons_append,List.nil_append]
    refine AG Ei e1 AB AB AB AB AB AB ?_;exact⟨_,bZ (oF rfl),pR,rfl⟩
  have e1:=Ce h2;have wi:=Cf (i:=i) (by omega);obtain⟨p,hp⟩:=CK h2;have hmk:kl[i]?=some (str (sb p.1)):=by rw[<-hkl2,A7,A7,hp];rfl
  have hlq:=TS hKO.nd (hsm p (Aw hp));rcases hQ2.look p.1 with⟨q1,q3⟩|⟨r,y,q1,q3,q4⟩
  ·rw[hlq]at q3;cases q3
  rw[hlq]at q3;cases q3;have hLk:Hx (sb p.1) ks vs=some (some y.D):=by rw[<-hks,<-hvs,Wx,q1]
  have cDv:=rF q4 fM hM0 (by omega);have fD:=ob q4 fM hM0;obtain⟨z,hz⟩:∃z,R5 y ⟨AX M,1⟩=z:=⟨_,rfl⟩
  rw[hz]at cDv fD;have cG:=vO fD (by omega);obtain⟨dM,hdM⟩:∃d,(⟨AX M,1⟩:GF).D=d:=⟨_,rfl⟩
  have pdM:AA dM:=by rw[<-hdM];exact AI
  obtain⟨dy,hdy⟩:∃d,y.D=d:=⟨_,rfl⟩
  have pdy:AA dy:=by rw[<-hdy];exact AI
  obtain⟨dz,hdz⟩:∃d,z.D=d:=⟨_,rfl⟩
  have pdz:AA dz:=by rw[<-hdz];exact AI
  rw[hdy]at hLk cDv;rw[hdM]at cF cDv;rw[hdz]at cDv cG;unfold VV VU at cG;obtain⟨bg,hbg⟩:∃q,Du (p.2/(M:Rat))=q:=⟨_,rfl⟩
  rw[hbg]at cG;have hsn:((Q.take (i+1)).map λz=>(⟨z.1,BO (z.2/(M:Rat))⟩:Av).D)=TL++[.agg [str (sb p.1),str (sb (BO (p.2/(M:Rat))))]]:=by
   rw[Dp,hp,DG,hTL];rfl
  rw[hTL]at hTl⊢;have n4:((((4:Nat):Int)) != 0)=true:=rfl;have n0:((((0:Nat):Int)) != 0)=false:=rfl;cases bg
  rotate_left
  ·rw[AH rfl,AH rfl]at cG
   have hany:Q.any (λp=>Du (p.2/(M:Rat)))=true:=by
    rw[List.any_eq_true];exact⟨p,Aw hp,hbg⟩
   rw[AH hany]at hN;rw[AH (by omega)]at hL;rw[hL,hN];rcases TL with _|⟨z9,TL⟩
   ·dsimp only[I6,I7,List.nil_append]
    refine AG Ei (Ad e1 kN) hmk AB AB AB AB AB ?_;refine QI (d':=dy) rfl rfl rfl rfl rfl rfl hLk rfl ?_;refine An ?_;refine AG Ei n4 cF cDv cG AB AB AB ?_;exact⟨_,Of _ _,AA.out,rfl⟩
   ·dsimp only[Hk,Hl,List.cons_append,List.nil_append]
    refine AG Ei (Ad e1 kN) hmk AB AB AB AB AB ?_;refine QI (d':=dy) rfl rfl rfl rfl rfl rfl hLk rfl ?_;refine An ?_;refine AG Ei n4 cF cDv cG AB AB AB ?_;exact⟨_,Of _ _,AA.out,rfl⟩
  rw[AF (by decide),AF (by decide)]at cG;have hB2:∀w∈Q.take (i+1),Du (w.2/(M:Rat))=false:=λw hw=>by
   rw[Dp,hp]at hw;rcases List.mem_append.1 hw with h|h
   ·exact hB w h
   ·have:w=p:=by simpa using h
    rw[this];exact hbg
  rcases TL with _|⟨z9,TL⟩
  ·dsimp only[I6,I7,List.nil_append]
   refine AG Ei (Ad e1 kN) hmk AB AB AB AB AB ?_;refine QI (d':=dy) rfl rfl rfl rfl rfl rfl hLk rfl ?_;refine An ?_;refine AG Ei (Ad n0 wi) cF cDv cG AB AB AB ?_;exact⟨(i+1,_,_),⟨h2,hB2⟩,by dsimp only;omega,by(dsimp only;rw[hsn];exact AL)⟩
  ·dsimp only[Hk,Hl,List.cons_append,List.nil_append]
   have htk:List.take (TL.length+1) (z9::TL)=z9::TL:=by simp
   rw[Bp]at hTl;have hb64:TL.length+1<64:=by omega
   refine AG Ei (Ad e1 kN) hmk AB AB AB AB AB ?_;refine QI (d':=dy) rfl rfl rfl rfl rfl rfl hLk rfl ?_;refine An ?_;refine AG Ei (At n0 wi htk) cF cDv cG AB AB AB ?_;exact⟨(i+1,_,_),⟨h2,hB2⟩,by dsimp only;omega,by(dsimp only;rw[hsn,OC];exact AL)⟩
 have e1:=Ce h2;have wi:=Cf (i:=i) (by omega);obtain⟨x,hxi⟩:=CK h2;obtain⟨x1,x2,x3⟩:=hx x (Aw hxi);have hm:(l.map AD.D)[i]?=some (.agg [str (sb x.grain),i64 x.mass,.sl false 2 (x.shs.map Av.D)]):=by rw[A7,hxi];rfl
 have es:(((x.shs.map Av.D).length:Nat):Int)=(x.shs.length:Int):=by rw[Am]
 refine AG Ei (At e1 es kN) hm AB AB AB AB AB ?_;obtain⟨ga,hga⟩:∃g,n1+1+1+1=g:=⟨_,rfl⟩
 refine Ge (α:=Nat×C9×Obj×Nat) (λp=>⟨[(0,AY b l),(2,.optr 0 0 3 0 0),(4,i64 (AT l)),(6,.prim (.map (some it))),(8,.optr 702 (n1+1+1+1) 3 0 0),(29,AY b l),(30,i64 (l.length:Int)),(31,i64 (i:Int)),(36,.sl false 2 (x.shs.map Av.D)),(37,i64 (x.shs.length:Int)),(38,i64 (p.1:Int))],[⟨702,n1+1+1+1,80,3,[.agg [str (sb x.grain),i64 x.mass,.sl false 2 (x.shs.map Av.D)]]⟩,⟨0,0,80,3,[.agg [.prim (.string ⟨#[]⟩),.prim (.int .i64 0),.prim (.slice none 0 0)]]⟩],p.2.2.2⟩) (λp=>x.shs.length-p.1)
  (λp F=>p.1<=x.shs.length/\C7 C0 F0 F [⟨400,11,p.2.2.1⟩]/\F.r0 400 11=some it/\Hv F p.2.2.1 p.2.1/\MQ (320*i+5*p.1) (GU x p.1 (CL (l.take i))) p.2.1) (0,m,o,_) ⟨BX _,hO,hr0,hM,hQ⟩ AL ?_
 clear hO hr0 hM hQ;rintro⟨j,m2,o2,n2⟩ F ⟨hj,hO,hr0,hM,hQ⟩;dsimp only at hj hO hr0 hM hQ⊢;rw[hga];rcases BI j x.shs.length with h3|h3
 rotate_left
 ·have e2:=Cd h3
  have:j=x.shs.length:=by omega
  subst this;rw[<-QD l i hxi]at hQ;refine AG Ei (Ad e2 wi) AB AB AB AB AB AB ?_;exact⟨(i+1,m2,o2,_),⟨h2,hO,hr0,hM,hQ.mono (by dsimp only;omega)⟩,by dsimp only;omega,AL⟩
 have e2:=Ce h3;have wj:=Cf (i:=j) (by omega);obtain⟨s,hsj⟩:=CK h3;obtain⟨s1,s2,s3⟩:=x3 s (Aw hsj);have hms:(x.shs.map Av.D)[j]?=some (.agg [str (sb s.lot),str (sb s.part)]):=by rw[A7,hsj];rfl
 have hsn:=OI x j (CL (l.take i)) hsj;have fP:FR (CT s.part) (GT s.part) 3:=⟨(RY s3).is,iC s3 s2⟩
 have fM:FR ((x.mass:Int):Rat) ⟨AX x.mass,1⟩ 1:=Q9 (by unfold Sm at x2;omega);have c1:=RM (by omega) s3;have c2:=PS x.mass x2;have c3:=Uk fP fM (by decide);have fZ:FR (CT s.part*(x.mass:Rat)) (Il (GT s.part) ⟨AX x.mass,1⟩) 4:=T6 fP fM;obtain⟨z,hz⟩:∃z,Il (GT s.part) ⟨AX x.mass,1⟩=z:=⟨_,rfl⟩
 rw[hz]at c3 fZ;obtain⟨d1,hd1⟩:∃d,(GT s.part).D=d:=⟨_,rfl⟩
 obtain⟨d2,hd2⟩:∃d,(⟨AX x.mass,1⟩:GF).D=d:=⟨_,rfl⟩
 have pd1:AA d1:=by rw[<-hd1];exact AI
 have pd2:AA d2:=by rw[<-hd2];exact AI
 rw[hd1]at c1 c3;rw[hd2]at c2 c3;refine sZ 900 ?_;refine AE e2 ?_;refine AC.seq ?_;refine AM ?_;refine Ao ?_;refine AC.seq ?_;refine AC.block ?_;refine sZ 1000 ?_;refine Bs kT hms ?_;refine AE kB ?_;refine AC.seq ?_;refine B9 w1 1100 [0,1,2,3,4,5,6,7] [8] (by kernel_rfl) ?_;refine AE kB ?_;refine BU.same _ (c1) AI ?_;refine BP ?_;refine AE kB ?_;refine BU.same _ (c2) AI ?_;refine BP ?_;refine AE kB ?_;refine BU.same _ (c3) AI ?_;refine BP ?_;refine AE kB ?_;refine AC.seq ?_;refine AC.seq ?_;refine IC (by kernel_rfl) ?_;change Bd _ _ _ _ _ ([0,1,2]++(3::([4,5,6,7,8,9]++[]))) _ _;refine FW w1 1200 [0,1,2] _ ?_;refine AE kB ?_;refine Bd.look (xo:=⟨400,11,o2⟩) (l:=m2) w1 rfl rfl rfl rfl rfl rfl hO CA hr0 hM ?_;rcases hQ.look s.lot with⟨q1,q2⟩|⟨r,y,q1,q2,q3⟩
 ·rw[XT q1]
  refine FW w1 1200 [4,5,6,7,8,9] [] ?_;refine AE kB ?_;refine Bd.nil ?_;refine An ?_;refine sZ 1300 ?_;refine AE kB ?_;refine AM ?_;refine Ao ?_;refine IC (by kernel_rfl) ?_;change Bd _ _ _ _ _ ([0,1,2,3]++(4::[])) _ _;refine FW w1 1500 [0,1,2,3] _ ?_;refine AE kB ?_;refine Bd.put (l:=m2) w1 rfl rfl rfl rfl rfl rfl hO hr0 hM (λF3 o3 hto3 hO3 hr3 hM3=>Bd.nil ?_);refine An ?_;have hQ2:MQ (320*i+5*(j+1)) (GU x (j+1) (CL (l.take i))) (FS (sb s.lot) z.D m2):=by
   rw[hsn];unfold KE;rw[q2];exact MQ.set s.lot ⟨fZ.is,fZ.rk.mono (by omega)⟩ (hQ.mono (by omega))
  refine AG Ei wj AB AB AB AB AB AB ?_;exact⟨(j+1,FS (sb s.lot) z.D m2,o3,_),⟨h3,hO3,hr3,hM3,hQ2⟩,by dsimp only;omega,AL⟩
 ·rw[XU q1]
  refine FW w1 1200 [4,5,6,7,8,9] [] ?_;refine AE kB ?_;refine Bd.nil ?_;have c4:=RG fZ q3 (by omega);have fA:=Qz fZ q3;obtain⟨z2,hz2⟩:∃z2,KC z y=z2:=⟨_,rfl⟩
  rw[hz2]at c4 fA;refine An ?_;refine sZ 1300 ?_;refine AE kB ?_;refine AM ?_;refine Ap w1 1400 (by kernel_rfl) ?_;refine AE kB ?_;refine cI c4 ?_;refine AE kB ?_;refine IC (by kernel_rfl) ?_;change Bd _ _ _ _ _ ([0,1,2,3]++(4::[])) _ _;refine FW w1 1500 [0,1,2,3] _ ?_;refine AE kB ?_;refine Bd.put (l:=m2) w1 rfl rfl rfl rfl rfl rfl hO hr0 hM (λF3 o3 hto3 hO3 hr3 hM3=>Bd.nil ?_);refine An ?_;have hQ2:MQ (320*i+5*(j+1)) (GU x (j+1) (CL (l.take i))) (FS (sb s.lot) z2.D m2):=by
   rw[hsn];unfold KE;rw[q2];exact MQ.set s.lot ⟨fA.is,fA.rk.mono (by omega)⟩ (hQ.mono (by omega))
  refine AG Ei wj AB AB AB AB AB AB ?_;exact⟨(j+1,FS (sb s.lot) z2.D m2,o3,_),⟨h3,hO3,hr3,hM3,hQ2⟩,by dsimp only;omega,AL⟩
abbrev mK:Dr:=[(1,[0,1,2,3,4,5],[6,7])]
open Go.Proofs Go.RowKit Go.Sort
set_option maxRecDepth 20000
set_option maxHeartbeats 4000000
theorem zm {C:BD}{f sz:Nat}{ds:List D}{Φ:D->Prop}(h1:Aj C f (CR::ds) Φ)(h2:Aj C f (.sl true sz []::ds) Φ):Aj C f (.sl false sz []::ds) Φ:=by
 refine⟨h1.1,λX w vs a b c e g=>?_⟩;have g0:=g 0 _ rfl;generalize hv:vs.getD 0 undef=v at g0;cases g0 with
 |nil=>
  refine h1.2 X w vs a b c e λi d hd=>?_
  match i with
  | 0=>cases hd;rw[hv];exact .prim _
  |i+1=>exact g (i+1) d hd
 |emp a0=>
  refine h2.2 X w vs a b c e λi d hd=>?_
  match i with
  | 0=>cases hd;rw[hv];exact .emp a0
  |i+1=>exact g (i+1) d hd
 |sl f hl hc hO hb hz hcell ho h=>
  refine h2.2 X w vs a b c e λi d hd=>?_
  match i with
  | 0=>cases hd;rw[hv];exact .sl f hl hc hO hb hz hcell ho h
  |i+1=>exact g (i+1) d hd
theorem HI {H Hf:Hp}{k g T sz:Nat}{l:List D}(he:Hp.get H k=some ⟨k,g,T,sz,l⟩)(hf:Hp.get Hf k=none:=by rfl):Fz H Hf (.osl k g sz 0 l.length) (.sl false sz l):=by
 refine .osl (e:=⟨k,g,T,sz,l⟩) he hf rfl rfl (by simp) (by simp) (λj d d' h1 h2=>?_) λj d d' q c c' h1 h2 h3 h4=>?_
 ·rw[BV]at h1;rw[h1]at h2;cases h2;rfl
 ·rw[BV]at h1;rw[h1]at h2;cases h2;rw[h3]at h4;cases h4;exact Fz.refl _
theorem o8 (s:List Av)(hl:s.length<=1000000):AJ C0 140 [CX false s] (CX false s):=by
 unfold CX;rcases s with _|⟨z,s⟩
 ·refine zm ?_ ?_
  ·refine Aj.walk w1 RK rfl λF=>?_
   refine AG Ag kB AB AB AB AB AB AB ?_;exact⟨_,.nil 2,AA.out,rfl⟩
  ·refine Aj.walk w1 RK rfl λF=>?_
   refine AG Ag kB AB AB AB AB AB AB ?_;exact⟨_,.osl (e:=⟨302,5,86,2,[]⟩) rfl rfl rfl rfl (Ai _) rfl (λj d d' h=>by simp at h) (λj d d' q c c' h=>by simp at h),AA.out,rfl⟩
 ·refine Aj.walk w1 RK rfl λF=>?_
  obtain⟨T,hT⟩:∃T,List.map Av.D (z::s)=T:=⟨_,rfl⟩
  have pT:AA (.sl false 2 T):=by rw[<-hT];exact AI
  have hne:T≠[]:=by rw[<-hT];simp
  have hlT:T.length<=1000000:=by rw[<-hT,Am];exact hl
  rw[hT];refine AG Ag hne AB AB AB AB AB AB ?_;exact⟨_,by rw[BV];exact HI rfl,pT.out,rfl⟩
theorem Oz (x:AD)(m:Int)(hl:x.shs.length<=1000000):AJ C0 94 [x.D,i64 m] ((⟨x.grain,m,x.shs⟩:AD).D):=by
 refine Aj.walk w1 eQ rfl λF=>?_
 have cC:=o8 x.shs hl;unfold AD.D;dsimp only;unfold CX at cC⊢;obtain⟨SD,hSD⟩:∃d,x.shs.map Av.D=d:=⟨_,rfl⟩
 have pS:AA (.sl false 2 SD):=by rw[<-hSD];exact AI
 rw[hSD]at cC⊢;refine AG Ag kB cC AB AB AB AB AB ?_;exact AK rfl AA.out
theorem mg (b:Bool)(l:List AD)(hl:l.length<=1000000)(h0:l≠[])(H:Hp)(n:Nat):Cg C0 89 [AY b l] H n
  (λd H' n'=>∃g,d=.osl 302 g 3 0 l.length/\H'=⟨302,g,80,3,l.map AD.D⟩::H/\n'=n+7):=by
 refine Cg.walk w1 eM rfl λF=>?_
 unfold AY;obtain⟨T,hT⟩:∃T,l.map AD.D=T:=⟨_,rfl⟩
 have pT:AA (.sl b 3 T):=by rw[<-hT];exact AI
 have hne:T≠[]:=by rw[<-hT];simpa using h0
 have hlT:T.length<=1000000:=by rw[<-hT,Am];exact hl
 rw[hT,<-Am (f:=AD.D),hT];cases b
 all_goals
  refine sZ 0 ?_;refine AE kB ?_;refine AC.seq ?_;refine sZ 100 ?_;refine AE kB ?_;refine AM ?_;refine Ao ?_;refine sZ 300 ?_;refine AE kB ?_;refine Ak ?_;exact⟨_,by rw[BV],rfl,rfl⟩
theorem u9 (b:Bool)(x y:AD)(l:List AD):AJ C0 120 [x.D,  .pptr (.sl b 3 ((y::l).map AD.D))] (As (!BF (sb x.grain) (sb y.grain))):=by
 refine Aj.walk w1 aI rfl λF=>?_
 have hm:((y::l).map AD.D)[0]?=some (.agg [str (sb y.grain),i64 y.mass,.sl false 2 (y.shs.map Av.D)]):=rfl;obtain⟨T,hT⟩:∃T,(y::l).map AD.D=T:=⟨_,rfl⟩
 have pT:AA (.sl b 3 T):=by rw[<-hT];exact AI
 obtain⟨S,hS⟩:∃S,x.shs.map Av.D=S:=⟨_,rfl⟩
 have pS:AA (.sl false 2 S):=by rw[<-hS];exact AI
 rw[hT]at hm⊢;unfold AD.D CX;rw[hS];refine AG mK kB hm AB AB AB AB AB ?_;exact AK rfl AA.out
theorem uc (b:Bool)(l:List AD)(c:D)[pc:AA c](p:AD->Bool)(hl:l.length<=1000000)(hc:∀x∈l,AJ C0 120 [x.D,c] (As (p x))):AJ C0 163 [AY b l,.clo (.func 120) [] [c]] (i64 (J7 p l)):=by
 refine Aj.walk w1 aa rfl λF=>?_
 have el:(((l.map AD.D).length:Nat):Int)=(l.length:Int):=by rw[Am]
 refine AG Ag el AB AB AB AB AB AB ?_;refine AC.loop (α:=Nat×Nat) (λp=>⟨[(0,AY b l),(1,.clo (.func 120) [] [c]),(7,i64 l.length),(8,i64 (p.1:Int))],[],p.2⟩) (λp=>l.length-p.1) (λq=>q.1<=l.length/\∀(j:Nat) (x:AD),j<q.1->l[j]?=some x->p x=false) (0,_) ⟨BX _,λj x hj=>Ae hj (G6 j)⟩ AL ?_;rintro⟨i,n⟩ F ⟨hi,ha⟩;dsimp only at hi ha⊢;rcases BI i l.length with h2|h2
 rotate_left
 ·have e1:=Cd h2
  have:i=l.length:=by omega
  subst this;refine AG Ag e1 AB AB AB AB AB AB ?_;exact AK (by rw[S7 ha]) AA.out
 have e1:=Ce h2;have wi:=Cf (i:=i) (by omega);obtain⟨x,hx⟩:=CK h2;have hm:(l.map AD.D)[i]?=some (.agg [str (sb x.grain),i64 x.mass,.sl false 2 (x.shs.map Av.D)]):=by rw[A7,hx];rfl
 have cn:=hc x (Aw hx);unfold AD.D at cn;cases hb:p x
 ·rw[hb]at cn
  refine AG Ag (At e1 wi kN) hm cn AB AB AB AB ?_;refine⟨(i+1,_),⟨h2,λj z hj hjz=>?_⟩,by dsimp only;omega,AL⟩;rcases BI j i with h|h
  ·exact ha j z h hjz
  ·have:j=i:=by dsimp only at hj;omega
   subst this;rw[hx]at hjz;cases hjz;exact hb
 ·rw[hb]at cn
  refine AG Ag (At e1 wi kN) hm cn AB AB AB AB ?_;exact AK (by rw[UR hx hb ha]) AA.out
theorem ua (b:Bool)(l:List AD)(c:D)[pc:AA c](p:AD->Bool)(hl:l.length<=1000000)(hc:∀x∈l,AJ C0 120 [x.D,c] (As (p x))):AJ C0 119 [AY b l,.clo (.func 120) [] [c]] (As (l.any p)):=by
 refine Aj.walk w1 aH rfl λF=>?_
 have c1:=uc b l c p hl hc;have e1:=US p l;refine AG Ag e1 c1 AB AB AB AB AB ?_;exact AK rfl AA.out
theorem S9 (b:Bool)(l:List AD)(hl:l.length<=1000000):AJ C0 74 [AY b l] (i64 (if B7 l then 0 else 16:Nat)):=by
 refine Aj.walk w1 eH rfl λF=>?_
 have cH:AJ C0 119 [AY b l,.clo (.func 120) [] [.pptr (AY b l)]] (As (!B7 l)):=by
  have:=ua b l (.pptr (AY b l)) (λx=>!BF (sb x.grain) (sb (CI l 0).grain)) hl λx hx=>by
   rcases l with _|⟨y,l⟩
   ·cases hx
   ·exact u9 b x y l
  have he:(l.any λx=>!BF (sb x.grain) (sb (CI l 0).grain)) = !B7 l:=by
   unfold B7;rw[List.not_all_eq_any_not]
  rwa [he]at this
 have cW:=GQ (!B7 l) 16;refine AG Ag kB cH cW AB AB AB AB ?_;refine BE.own _ (MT cH rfl (λi a d h1 h2=>by
  match i with
  | 0=>cases h1;cases h2;exact .refl _ _
  | 1=>cases h1;cases h2;exact .clo1 (.ptr rfl rfl rfl rfl)
  |n+2=>cases h1) AI (.prim _)) ?_
 rintro d H' n' ⟨rfl,rfl,rfl⟩;refine AG Ag kB cW AB AB AB AB AB ?_;exact AK (by cases B7 l<;>rfl) AA.out
theorem GP {l:List AD}(h:Be l=0):l.length<=64/\(∀x∈l,Ca x=0)/\AT l<=999999999:=by
 unfold Be at h;split at h
 ·cases h
 ·split at h
  ·rename_i h3;exact Ae h h3
  ·split at h
   ·cases h
   ·refine⟨by omega,λx hx=>?_,by omega⟩
    obtain⟨j,hj⟩:=List.mem_iff_getElem?.1 hx
    have:=Qg (f:=λi=>Ca (CI l i)) (n:=l.length) (by omega) j (List.getElem?_eq_some_iff.1 hj).1
    rwa [Fg hj]at this
theorem Wz {l:List AD}(hf:∀x∈l,x.lite)(hz:∀x∈l,Ca x=0)(hl:l.length<=64):(∀x∈l,x.ok)/\HL (λk=>k.length<=1000) 4096 (CL l):=by
 have hx:∀x∈l,x.ok:=λx h=>(b8 (hf x h) (hz x h)).1
 exact⟨hx,(S2 λx h=>⟨(hx x h).1,λs hs=>((hf x h).2 s hs).1⟩).mono (by omega)⟩
def R0 (l:List AD):Nat:=if Be l≠0 then Be l else Id (CL l)
def R1 (l:List AD):B0:=if Be l≠0 then[]else Jy (CL l)
theorem yA (b:Bool)(l:List AD)(hl:l.length<=1000000)(hf:∀x∈l,x.lite):AJ C0 22 [AY b l] (.tup [.sl false 2 ((R1 l).map Cn),i64 (R0 l:Nat)]):=by
 refine Aj.walk w1 eA rfl λF=>?_
 have cP:=MK b l (by omega) λx hx=>(hf x hx).1
 have hR:R1 l=if Be l≠0 then[]else Jy (CL l):=rfl
 have hE:R0 l=if Be l≠0 then Be l else Id (CL l):=rfl
 rcases Nat.decEq (Be l) 0 with g|g
 ·have e1:=GX g
  rw[AH g]at hR hE;rw[hR,hE];refine AG Ag e1 cP AB AB AB AB AB ?_;exact⟨_,Gt (.nil 2) (.refl _),AA.out,rfl⟩
 have e1:=GY g;rw[AF (λh=>h g)]at hR hE;rw[hR,hE];obtain⟨g1,g2,g3⟩:=GP g;obtain⟨hx,hK⟩:=Wz hf g2 g1;have cL:=yB b l (by omega) hx;refine AG Ag e1 cP AB AB AB AB AB ?_;refine BE.prop _ _ (Ee.refl _) cL AI ?_;rintro d ⟨m,rfl,hQ⟩;have cA:=Yt 32000 (by omega) (CL l) m hQ (BR hK.len (by omega)) hK.nd;have pM:AA (mapD m):=⟨hQ.mapD⟩
 unfold Jx at cA;obtain⟨M,hM⟩:∃M,mapD m=M:=⟨_,rfl⟩
 rw[hM]at cA pM⊢;refine AG Ag kB cA AB AB AB AB AB ?_;exact AK rfl AA.out
abbrev UO:Dr:=[(6,[0,1,2,3,4,5,6,7,8,9,10,11,12,13,14,15,16,17,18,19,20,21],[22,23])]
abbrev UN:Dr:=[(6,[0,1,2,3,4,5,6,7,8,9,10,11,12,13,14,15,16,17,18,19],[20,21,22])]
open Go.Proofs Go.RowKit
set_option maxRecDepth 20000
set_option maxHeartbeats 4000000
theorem l8 (b1 b2:Bool)(S:List Av)(hl:S.length<=1000000):AJ C0 45 [CX b1 S,CX b2 S] (As true):=by
 refine Aj.walk w1 VZ rfl λF=>?_
 have el:(((S.map Av.D).length:Nat):Int)=(S.length:Int):=by rw[Am]
 have hne:((S.length:Int) != (S.length:Int))=false:=bne_self_eq_false _;refine AG UO (Ad el hne) AB AB AB AB AB AB ?_;refine AC.loop (α:=Nat×Nat) (λp=>⟨[(0,CX b1 S),(1,CX b2 S),(5,i64 (p.1:Int))],[],p.2⟩) (λp=>S.length-p.1) (λq=>q.1<=S.length) (0,_) (BX _) AL ?_;rintro⟨i,n⟩ F hi;dsimp only at hi⊢;rcases BI i S.length with h2|h2
 rotate_left
 ·have e1:=Cd h2
  refine AG UO (Ad el e1) AB AB AB AB AB AB ?_;exact AK rfl AA.out
 have e1:=Ce h2;have wi:=Cf (i:=i) (by omega);obtain⟨x,hx⟩:=CK h2;have hm:(S.map Av.D)[i]?=some (.agg [str (sb x.lot),str (sb x.part)]):=by rw[A7,hx];rfl
 have s1:=Ld (sb x.lot);have s2:=Ld (sb x.part);refine AG UO (CJ el e1 wi s1 s2 kN (Ad kT kF)) hm AB AB AB AB AB ?_;exact⟨(i+1,_),h2,by dsimp only;omega,AL⟩
theorem m9 (x:AD)(hl:x.shs.length<=1000000):AJ C0 67 [x.D,x.D] (As true):=by
 refine Aj.walk w1 VT rfl λF=>?_
 have c:=l8 false false x.shs hl;have s1:=Ld (sb x.grain);unfold AD.D;unfold CX at c⊢;obtain⟨S,hS⟩:∃S,x.shs.map Av.D=S:=⟨_,rfl⟩
 have pS:AA (.sl false 2 S):=by rw[<-hS];exact AI
 rw[hS]at c⊢;refine AG Ag (At s1 kT kF) c AB AB AB AB AB ?_;exact AK rfl AA.out
theorem pN (b1 b2:Bool)(l:List AD)(hl:l.length<=1000000)(hs:∀x∈l,x.shs.length<=1000000):AJ C0 20 [AY b1 l,AY b2 l] (As true):=by
 refine Aj.walk w1 dx rfl λF=>?_
 have el:(((l.map AD.D).length:Nat):Int)=(l.length:Int):=by rw[Am]
 have hne:((l.length:Int) != (l.length:Int))=false:=bne_self_eq_false _;refine AG UN (Ad el hne) AB AB AB AB AB AB ?_;refine AC.loop (α:=Nat×Nat) (λp=>⟨[(0,AY b1 l),(1,AY b2 l),(5,i64 (p.1:Int))],[],p.2⟩) (λp=>l.length-p.1) (λq=>q.1<=l.length) (0,_) (BX _) AL ?_;rintro⟨i,n⟩ F hi;dsimp only at hi⊢;rcases BI i l.length with h2|h2
 rotate_left
 ·have e1:=Cd h2
  refine AG UN (Ad el e1) AB AB AB AB AB AB ?_;exact AK rfl AA.out
 have e1:=Ce h2;have wi:=Cf (i:=i) (by omega);obtain⟨x,hx⟩:=CK h2;have hm:(l.map AD.D)[i]?=some (.agg [str (sb x.grain),i64 x.mass,.sl false 2 (x.shs.map Av.D)]):=by rw[A7,hx];rfl
 have c:=m9 x (hs x (Aw hx));have s1:(x.mass != x.mass)=false:=bne_self_eq_false _;unfold AD.D CX at c;obtain⟨S,hS⟩:∃S,x.shs.map Av.D=S:=⟨_,rfl⟩
 have pS:AA (.sl false 2 S):=by rw[<-hS];exact AI
 rw[hS]at c hm;refine AG UN (CJ el e1 wi s1 kN kT kF) hm c AB AB AB AB ?_;exact⟨(i+1,_),h2,by dsimp only;omega,AL⟩
def Ek (p:List UInt8×List UInt8):D:=.agg [str (sb p.1),str (sb p.2)]
instance  (p:List UInt8×List UInt8):AU (Ek p):=by unfold Ek;exact AI
instance  (p:List UInt8×List UInt8):AA (Ek p):=by unfold Ek;exact AI
def Av.shB (s:Av):Bool:=decide (s.lot.length<=100)&&decide (s.part.length<=14)
def AD.shB (x:AD):Bool:=decide (x.grain.length<=100)&&(decide (x.shs.length<=8)||decide (64<x.shs.length))&&decide (x.shs.length<=80)&&x.shs.all Av.shB
def Fu (l:List AD):Bool:=l.all AD.shB&&(decide (l.length<=8)||(decide (64<l.length)&&decide (l.length<=80)))
theorem DQ.clo2 {H:Hp}{fn:Fn}{c c' x x':D}(h:DQ H c c')(k:DQ H x x'):DQ H (.clo fn [] [c,x]) (.clo fn [] [c',x']):=λC F ρ w m hO hN v hv=>by
 cases hv with
 |clo hf hc h1 h2=>
  refine .clo hf (by simpa using hc) (λi d hd=>by simp at hd) λi d hd=>?_
  match i with
  | 0=>
   simp at hd;subst hd;exact h C F ρ w m hO hN _ (h2 0 _ rfl)
  | 1=>
   simp at hd;subst hd;exact k C F ρ w m hO hN _ (h2 1 _ rfl)
  |i+2=>simp at hd
theorem Tx (b bk:Bool)(T:List D)[pT:AA (.sl b 3 T)]:AJ C0 102 [.sl b 3 T,As bk] (.clo (.func 142) [] [.pptr (.sl b 3 T),.pptr (As bk)]):=by
 refine zn w1 az rfl λF=>?_
 have hp:B8 (.clo (.func 142) [] [.pptr (.sl b 3 T),.pptr (As bk)]):=(AI:AA (.clo (.func 142) [] [.pptr (.sl b 3 T),.pptr (As bk)])).out;refine fR 0 ?_;refine fR 100 ?_;refine Ak ?_;exact⟨_,.clo2 (.ptr rfl rfl rfl rfl) (.ptr rfl rfl rfl rfl),hp,rfl⟩
theorem Vk {E:Fh}{l:Nat}{R:LR}(hE:Fh.ok E)(b bk:Bool)(T:List D)[pT:AA (.sl b 3 T)](hT:∀x∈T,∃a c d,x=.agg [a,c,d])(hl:T.length<=1000000)
  {σ:Type} (S:Nat->σ->Hp) (P:Nat->σ->Prop) (c:Code) (Z:Hp->Prop) (a0:σ) (h0:P 0 a0) (n0:Nat)
  (hY:∀k a x n,P k a->k<T.length->T[if bk then T.length-1-k else k]?=some x->RU C0 E l R [x] (S k a) n (λj H' _=>(j=none/\∃a',P (k+1) a'/\Ck H' (S (k+1) a') H' (S (k+1) a'))\/(j=some c/\Z H'))):
  Ow C0 E 142 [.clo (.yield l) [] [],.pptr (.sl b 3 T),.pptr (As bk)] l R (S 0 a0) n0 (λj _ H' _=>(j=none/\∃a,P T.length a/\H'=S T.length a)\/(j=some c/\Z H')):=by
 refine Ow.walk w1 hE aU rfl λB F hR=>?_
 obtain⟨N,hN⟩:∃N,T.length=N:=⟨_,rfl⟩
 rw[hN]at hY hl⊢;have el:((T.length:Nat):Int)=(N:Int):=by rw[hN]
 refine sZ 0 ?_;refine AE el ?_;refine AC.block ?_;refine Ge (α:=Nat×σ×Nat) (λp=>⟨[(0,.clo (.yield l) [] []),(1,.pptr (.sl b 3 T)),(2,.pptr (As bk)),(6,i64 (N:Int)),(7,i64 (p.1:Int))],S p.1 p.2.1,p.2.2⟩) (λp=>N-p.1)
  (λp F=>L8 C0 E B F l R/\p.1<=N/\P p.1 p.2.1) (0,a0,_) ⟨hR,BX _,h0⟩ AL ?_
 clear hR;rintro⟨i,a,m⟩ F ⟨hR,h1,hP⟩;dsimp only at h1 hR hP⊢;refine sR 100 ?_;refine AC.seq ?_;refine AM ?_
 (refine By (λh8=>?_) (λh8=>?_))<;>(try simp only[Bi,Bv]at h8)<;>(try simp only[h8])
 ·have hi:i<N:=by
   have:=C6 h8
   omega
  have a3:IntKind.i64.wrap ((i:Int)+1)=((i+1:Nat):Int):=wI (by omega) (by omega);have a4:IntKind.i64.wrap ((N:Int)-1)=((N-1:Nat):Int):=by rw[wI (by omega) (by omega)];omega
  have a5:IntKind.i64.wrap (((N-1:Nat):Int)-(i:Int))=((N-1-i:Nat):Int):=by rw[wI (by omega) (by omega)];omega
  have hq:(if bk then N-1-i else i)<T.length:=by rw[hN];split<;>omega
  obtain⟨x,hx⟩:∃x,T[if bk then N-1-i else i]?=some x:=⟨_,BG hq⟩
  have hy:=λn=>hY i a x n hP hi hx
  obtain⟨x1,x2,x3,rfl⟩:=hT x (Aw hx);refine Ao ?_;refine AC.seq ?_;refine AC.block ?_;refine sR 200 ?_;refine AC.seq ?_;refine sR 300 ?_;cases bk
  ·replace hx:T[i]?=some (.agg [x1,x2,x3]):=hx
   refine AM ?_;refine Ao ?_;refine AC.seq ?_;refine ge w1 500 [0,1,2,3,4] 5 [6] rfl (by kernel_rfl) hR ?_;refine BP ?_;refine Bs kT hx ?_;refine And.intro ⟨rfl,trivial⟩ ?_;refine BP ?_;refine⟨rfl,_,hy _,?_,?_⟩
   ·rintro H2 n2 (⟨_,a',hP',hf⟩|⟨h,-⟩)
    rotate_left
    ·cases h
    refine And.intro (by exact Bx) ?_;refine An ?_;refine AM ?_;refine Ao ?_;refine Ap w1 600 (by kernel_rfl) ?_;refine AV a3 ?_;exact⟨(i+1,a',_),⟨hR,hi,hP'⟩,(by dsimp only;omega),AL (a:=hf)⟩
   ·rintro c2 H2 n2 (⟨h,-⟩|⟨h,hZ⟩) F2 hst
    ·cases h
    cases h;refine BP ?_;refine AM ?_;refine AC.weak ⟨[],H2,_⟩ AL ?_;refine AC.ret ?_;exact⟨_,hst,trivial,.inr ⟨rfl,hZ⟩⟩
  ·replace hx:T[N-1-i]?=some (.agg [x1,x2,x3]):=hx
   refine AM ?_;refine Ap w1 400 (by kernel_rfl) ?_;refine AV (At a4 a5 el) ?_;refine AC.seq ?_;refine ge w1 500 [0,1,2,3,4] 5 [6] rfl (by kernel_rfl) hR ?_;refine BP ?_;refine Bs kT hx ?_;refine And.intro ⟨rfl,trivial⟩ ?_;refine BP ?_;refine⟨rfl,_,hy _,?_,?_⟩
   ·rintro H2 n2 (⟨_,a',hP',hf⟩|⟨h,-⟩)
    rotate_left
    ·cases h
    refine And.intro (by exact Bx) ?_;refine An ?_;refine AM ?_;refine Ao ?_;refine Ap w1 600 (by kernel_rfl) ?_;refine AV a3 ?_;exact⟨(i+1,a',_),⟨hR,hi,hP'⟩,(by dsimp only;omega),AL (a:=hf)⟩
   ·rintro c2 H2 n2 (⟨h,-⟩|⟨h,hZ⟩) F2 hst
    ·cases h
    cases h;refine BP ?_;refine AM ?_;refine AC.weak ⟨[],H2,_⟩ AL ?_;refine AC.ret ?_;exact⟨_,hst,trivial,.inr ⟨rfl,hZ⟩⟩
 ·have hi:i=N:=by
   have:=DP h8
   omega
  subst hi;refine CC ?_;exact⟨none,hR.stat,trivial,.inl ⟨rfl,a,hP,rfl⟩⟩
def AD.w (x:AD)(m:Int):AD:=⟨x.grain,m,x.shs⟩
def D9:List AD->Int->List AD
 | [],_=>[]
 |x::r,m=>x.w (min x.mass m)::if m-x.mass<=0 then[]else D9 r (m-x.mass)
def Hg (g1:Nat)(p:List AD×Int×Nat):Hp:=Dt 408 p.2.2 80 3 (p.1.map AD.D)++[⟨100,g1,38,1,[D3 408 p.2.2 3 (p.1.map AD.D)]⟩,⟨0,0,3,1,[i64 p.2.1]⟩]
theorem Zv (g1:Nat)(m:Int)(g:Nat):Hg g1 ([],m,g)=[⟨100,g1,38,1,[CR]⟩,⟨0,0,3,1,[i64 m]⟩]:=rfl
theorem Tn (g1:Nat)(z:AD)(o:List AD)(m:Int)(g:Nat):Hg g1 (z::o,m,g)=[⟨408,g,80,3,z.D::o.map AD.D⟩,⟨100,g1,38,1,[.osl 408 g 3 0 ((o.map AD.D).length+1)]⟩,⟨0,0,3,1,[i64 m]⟩]:=rfl
def Pz (L:List AD)(m:Int)(k:Nat)(p:List AD×Int×Nat):Prop:=p.1.length=k/\p.1++D9 (L.drop k) p.2.1=D9 L m/\0<=p.2.1/\p.2.1<=1000000000000
def F5 (bk:Bool)(l:List AD):List AD:=if bk then l.reverse else l
theorem vY (bk:Bool)(l:List AD){k:Nat}(hk:k<l.length):(l.map AD.D)[if bk then(l.map AD.D).length-1-k else k]?=((F5 bk l)[k]?).map AD.D:=by
 unfold F5;rw[Am,A7];cases bk
 ·rfl
 ·simp only[if_true]
  rw[List.getElem?_reverse hk]
theorem UG (b bk:Bool)(l:List AD)(m:Int)(hl:l.length<=1000000)(hm:0<=m/\m<=1000000000000)(hx:∀x∈l,0<=x.mass/\x.mass<=1000000000)
  (ho:∀x∈l,∀m,AJ C0 94 [x.D,i64 m] (x.w m).D) (R:D) [pR:AA R] (hN:AJ C0 62 [AY false (D9 (F5 bk l) m)] R):
  AJ C0 105 [AY b l,i64 m,As bk] R:=by
 refine Aj.walk w1 bB rfl λF=>?_
 have cV:=Tx b bk (l.map AD.D);have hT:∀x∈l.map AD.D,∃a c d,x=.agg [a,c,d]:=λx hx=>by
  obtain⟨y,-,rfl⟩:=List.mem_map.1 hx;exact⟨_,_,_,rfl⟩
 have hoL:∀k,k<l.length->∃x,x∈l/\(F5 bk l)[k]?=some x:=λk hk=>by
  unfold F5;cases bk
  ·exact⟨_,List.getElem_mem hk,BG hk⟩
  ·simp only[if_true]
   rw[List.getElem?_reverse hk]
   have:l.length-1-k<l.length:=by omega
   exact⟨_,List.getElem_mem this,BG this⟩
 have hlen:(F5 bk l).length=l.length:=by unfold F5;cases bk<;>simp
 obtain⟨L,hL⟩:∃L,F5 bk l=L:=⟨_,rfl⟩
 have hoA:=λk (hk:k<l.length)=>vY bk l hk
 rw[hL]at hoL hoA hN hlen;unfold AY;obtain⟨T,hTT⟩:∃T,l.map AD.D=T:=⟨_,rfl⟩
 have pT:AA (.sl b 3 T):=by rw[<-hTT];exact AI
 have hTl:T.length=l.length:=by rw[<-hTT,Am]
 rw[hTT]at cV hT hoA⊢;refine sR 0 ?_;refine sR 100 ?_;refine AC.seq ?_;refine sR 200 ?_;refine cI cV ?_;refine AC.block ?_;have h0:Pz L m 0 ([],m,0):=⟨rfl,rfl,hm⟩
 refine AC.rangeFunc (fi:=142) (first:=[]) (captured:=[.pptr (.sl b 3 T),.pptr (As bk)]) (Ψ:=λj _ H' _=>(j=none/\∃a,Pz L m T.length a/\H'=Hg 2 a)\/(j=some (.exit 0)/\∃m' g,H'=Hg 2 (D9 L m,m',g))) rfl
  (λds H n Φ=>∃k a x,Pz L m k a/\k<T.length/\T[if bk then T.length-1-k else k]?=some x/\ds=[x]/\H=Hg 2 a/\Φ=λj H' _=>(j=none/\∃a',Pz L m (k+1) a'/\Ck H' (Hg 2 a') H' (Hg 2 a'))\/(j=some (.exit 0)/\∃m' g,H'=Hg 2 (D9 L m,m',g))) ?_
  (λE l' R' hE hY=>Vk hE b bk T hT (by omega) (λ_ a=>Hg 2 a) (Pz L m) (.exit 0) (λH'=>∃m' g,H'=Hg 2 (D9 L m,m',g)) ([],m,0) h0 _ λk a x n hP hk hx=>hY _ _ _ _ ⟨k,a,x,hP,hk,hx,rfl,rfl,rfl⟩) ?_
 ·rintro l' ds H n Φ ⟨k,⟨o,m',g⟩,x,⟨p1,p2,p3,p4⟩,hk,hxT,rfl,rfl,rfl⟩
  dsimp only at p1 p2 p3 p4;obtain⟨y,hy1,hy2⟩:=hoL k (by omega);rw[hoA k (by omega),hy2]at hxT;cases hxT;have hd:L.drop k=y::L.drop (k+1):=by
   have:=(List.getElem?_eq_some_iff.1 hy2)
   rw[EU this.1,this.2]
  rw[hd]at p2;have hb:=hx y hy1;have cO:=ho y hy1 (min y.mass m');have p5:(o++[y.w (min y.mass m')])++(if m'-y.mass<=0 then[]else D9 (L.drop (k+1)) (m'-y.mass))=D9 L m:=by
   rw[<-p2,Di];rfl
  have a1:IntKind.i64.wrap (m'-y.mass)=m'-y.mass:=wI (by omega) (by omega);refine⟨rfl,λF=>?_⟩;unfold AD.w AD.D at cO;unfold AD.D;dsimp only at cO⊢;obtain⟨SD,hSD⟩:∃d,CX false y.shs=d:=⟨_,rfl⟩
  have pS:AA SD:=by rw[<-hSD];exact AI
  rw[hSD]at cO⊢;rcases o with _|⟨z,o⟩
  ·rw[Zv]
   dsimp only[Gw];refine Ap w1 300 (by kernel_rfl) ?_;refine AE kB ?_;refine⟨trivial,trivial,λF'=>?_⟩;refine AC.block ?_;refine AC.seq ?_;refine B9 w1 400 [0,1,2,3,4,5,6,7] [8,9] (by kernel_rfl) ?_;refine BP ?_;refine BU.same _ (cO) AI ?_;refine BP ?_;refine sZ 500 ?_;refine AV a1 ?_;refine sR 600 ?_;refine AC.weak ⟨[(27,As (decide (m'-y.mass<=0)))],[⟨408,n+1+1+10,80,3,[.agg [str (sb y.grain),i64 (min y.mass m'),SD]]⟩,⟨100,2,38,1,[.osl 408 (n+1+1+10) 3 0 1]⟩,⟨0,0,3,1,[i64 (m'-y.mass)]⟩],_⟩ AL ?_;rw[<-hSD]
   by_cases hz:m'-y.mass<=0
   ·rw[AZ hz]
    rw[AH hz,DE]at p5;refine AM ?_;refine CC ?_;refine .inr ⟨rfl,m'-y.mass,n+1+1+10,?_⟩;rw[<-p5];rfl
   ·rw[Ah hz]
    rw[AF hz]at p5;refine AM ?_;refine Ao ?_;exact .inl ⟨rfl,([y.w (min y.mass m')],m'-y.mass,n+1+1+10),⟨by rw[<-p1];rfl,p5,by dsimp only;omega,by dsimp only;omega⟩,HF _⟩
  ·have wl:AA (.sl false 3 ((z::o).map AD.D)):=AI
   have hol:o.length<=1000000:=by rw[Bp]at p1;omega
   rw[Ct]at wl;rw[Tn];dsimp only[Gw];obtain⟨O,hO⟩:∃O,o.map AD.D=O:=⟨_,rfl⟩
   obtain⟨zD,hzD⟩:∃O,z.D=O:=⟨_,rfl⟩
   have hOl:O.length=o.length:=by rw[<-hO,Am]
   rw[hO,hzD];refine Ap w1 300 (by kernel_rfl) ?_;refine AE kB ?_;refine⟨trivial,trivial,λF'=>?_⟩;refine AC.block ?_;refine AC.seq ?_;refine B9 w1 400 [0,1,2,3,4,5,6,7] [8,9] (by kernel_rfl) ?_;refine BP ?_;refine BU.same _ (cO) AI ?_;refine BP ?_;rw[show List.take (O.length+1) (zD::O)=zD::O from DV (l:=zD::O)];refine sZ 500 ?_;refine AV a1 ?_;refine sR 600 ?_;refine AC.weak ⟨[(27,As (decide (m'-y.mass<=0)))],[⟨408,n+1+1+10,80,3,zD::O++[.agg [str (sb y.grain),i64 (min y.mass m'),SD]]⟩,⟨100,2,38,1,[.osl 408 (n+1+1+10) 3 0 (O.length+1+1)]⟩,⟨0,0,3,1,[i64 (m'-y.mass)]⟩],_⟩ AL ?_;have hs:∀g' mm,Hg 2 (z::o++[y.w (min y.mass m')],mm,g')=[⟨408,g',80,3,zD::O++[.agg [str (sb y.grain),i64 (min y.mass m'),SD]]⟩,⟨100,2,38,1,[.osl 408 g' 3 0 (O.length+1+1)]⟩,⟨0,0,3,1,[i64 mm]⟩]:=λg' mm=>by
    rw[Em,Tn,<-hO,<-hzD,<-hSD,DG];rw[Bk];rfl
   rw[<-hs]
   by_cases hz:m'-y.mass<=0
   ·rw[AZ hz]
    rw[AH hz,DE]at p5;refine AM ?_;refine CC ?_;exact .inr ⟨rfl,m'-y.mass,n+1+1+10,by rw[<-p5];rfl⟩
   ·rw[Ah hz]
    rw[AF hz]at p5;refine AM ?_;refine Ao ?_;exact .inl ⟨rfl,(z::o++[y.w (min y.mass m')],m'-y.mass,n+1+1+10),⟨by rw[<-p1];simp,p5,by dsimp only;omega,by dsimp only;omega⟩,HF _⟩
 ·rintro j d H' n' F' hE
  have hE2:∃m' g,H'=Hg 2 (D9 L m,m',g)/\(j=none\/j=some (.exit 0)):=by
   rcases hE with⟨hj,⟨o,m',g⟩,⟨p1,p2,-,-⟩,rfl⟩|⟨hj,m',g,rfl⟩
   ·refine⟨m',g,?_,.inl hj⟩
    dsimp only at p2;rw[List.drop_eq_nil_of_le (by omega)]at p2;rw[show o=D9 L m by rw[<-p2];exact(DE o).symm]
   ·exact⟨m',g,rfl,.inr hj⟩
  obtain⟨m',g,rfl,hj⟩:=hE2;obtain⟨o,hO⟩:∃o,D9 L m=o:=⟨_,rfl⟩
  rw[hO]at hN⊢;rcases o with _|⟨z,o⟩
  ·rw[Zv]
   rcases hj with rfl|rfl
   all_goals
    change AC _ _ _ _ _ _ _;refine sR 700 ?_;refine BE.pure [.sl false 3 []] _ ⟨.nil 3,trivial⟩ hN AI ?_;refine BP ?_;refine Ak ?_;exact AK rfl pR.out
  ·have hR:=HI (H:=Hg 2 (z::o,m',g)) (Hf:=[]) (k:=408) (g:=g) (T:=80) (sz:=3) (l:=(z::o).map AD.D) rfl
   have hle:((z::o).map AD.D).length=(o.map AD.D).length+1:=rfl;rw[hle]at hR;rw[Tn]at hR⊢;rcases hj with rfl|rfl
   all_goals
    change AC _ _ _ _ _ _ _;refine sR 700 ?_;refine BE.own _ (Pf [] hN (.drop (.drop (.drop .nil))) ⟨hR,trivial⟩ AI) ?_;rintro d H2 n2 ⟨rfl,rfl,rfl⟩;refine BP ?_;refine Ak ?_;exact AK rfl pR.out
abbrev Lm:Dr:=[(6,[0,1,2,3,4,5,6,7],[8])]
abbrev Mt:Dr:=[(6,[0,1,2,3,4,5,6,7,8,9,10,11,12,13,14,15,16,17,18,19,20,21],[22,23])]
open Go.Proofs Go.RowKit
set_option maxRecDepth 20000
set_option maxHeartbeats 4000000
def Ga (s t:Av):Bool:=BF (sb s.lot) (sb t.lot)&&BF (sb s.part) (sb t.part)
def FO:List Av->List Av->Bool
 | [],[]=>true
 |s::S,t::T=>Ga s t&&FO S T
 |_,_=>false
theorem Ts:∀ {S T:List Av},S.length≠T.length->FO S T=false
 | [],[],h=>Ae rfl h
 | [],_::_,_=>rfl
 |_::_,[],_=>rfl
 |s::S,t::T,h=>by
  show(Ga s t&&FO S T)=false;rw[Ts (S:=S) (T:=T) λq=>h (congrArg (· + 1) q),Bool.and_false]
theorem Mj:∀ {S T:List Av} {i:Nat} {s t:Av},S[i]?=some s->T[i]?=some t->Ga s t=false->FO S T=false
 |s::S,t::T,0,_,_,h1,h2,h=>by
  cases h1;cases h2;show(Ga s t&&FO S T)=false;rw[h,HX]
 |s::S,t::T,i+1,_,_,h1,h2,h=>by
  show(Ga s t&&FO S T)=false;rw[Mj (S:=S) (T:=T) (i:=i) h1 h2 h,Bool.and_false]
theorem Tr:∀ {S T:List Av},S.length=T.length->(∀(i:Nat) (s t:Av),S[i]?=some s->T[i]?=some t->Ga s t=true)->FO S T=true
 | [],[],_,_=>rfl
 | [],_::_,h,_=>by cases h
 |_::_,[],h,_=>by cases h
 |s::S,t::T,h,k=>by
  show(Ga s t&&FO S T)=true;rw[k 0 s t rfl rfl,Tr (S:=S) (T:=T) (Nat.succ.inj h) λi s t h1 h2=>k (i+1) s t h1 h2];rfl
theorem mM (b1 b2:Bool)(S T:List Av)(hS:S.length<=1000000)(hT:T.length<=1000000):AJ C0 143 [CX b1 S,CX b2 T] (As (FO S T)):=by
 refine Aj.walk w1 aV rfl λF=>?_
 have e1:(((S.map Av.D).length:Nat):Int)=(S.length:Int):=by rw[Am]
 have e2:(((T.map Av.D).length:Nat):Int)=(T.length:Int):=by rw[Am]
 by_cases hl:S.length=T.length
 rotate_left
 ·have hne:((S.length:Int) != (T.length:Int))=true:=bne_iff_ne.2 (by omega)
  rw[Ts hl];refine AG Lm (At e1 e2 hne) AB AB AB AB AB AB ?_;exact AK rfl AA.out
 have hne:((S.length:Int) != (T.length:Int))=false:=by rw[hl];exact bne_self_eq_false _
 refine AG Lm (At e1 e2 hne) AB AB AB AB AB AB ?_;refine AC.loop (α:=Nat×Nat) (λp=>⟨[(0,CX b1 S),(1,CX b2 T),(12,i64 (S.length:Int)),(13,i64 (p.1:Int))],[],p.2⟩) (λp=>S.length-p.1) (λq=>q.1<=S.length/\∀(j:Nat) (s t:Av),j<q.1->S[j]?=some s->T[j]?=some t->Ga s t=true) (0,_) ⟨BX _,λj _ _ h=>Ae h (G6 j)⟩ AL ?_;rintro⟨i,n⟩ F ⟨hi,ha⟩;dsimp only at hi ha⊢;rcases BI i S.length with h2|h2
 rotate_left
 ·have k1:=Cd h2
  rw[Tr hl λj s t h1 h3=>ha j s t (by have:=(List.getElem?_eq_some_iff.1 h1).1;omega) h1 h3];refine AG Lm k1 AB AB AB AB AB AB ?_;exact AK rfl AA.out
 have k1:=Ce h2;have wi:=Cf (i:=i) (by omega);obtain⟨x,hx⟩:=CK h2;obtain⟨y,hy⟩:=CK (show i<T.length by omega);have hm:(S.map Av.D)[i]?=some (.agg [str (sb x.lot),str (sb x.part)]):=by rw[A7,hx];rfl
 have hm2:(T.map Av.D)[i]?=some (.agg [str (sb y.lot),str (sb y.part)]):=by rw[A7,hy];rfl
 obtain⟨q1,c1⟩:∃q,BF (sb x.lot) (sb y.lot)=q:=⟨_,rfl⟩
 obtain⟨q2,c2⟩:∃q,BF (sb x.part) (sb y.part)=q:=⟨_,rfl⟩
 have hsh:Ga x y=(q1&&q2):=by unfold Ga;rw[c1,c2]
 have b1':(!(true&&(true&&true)))=false:=rfl;have b2':(!(true&&(false&&true)))=true:=rfl;have b3':(!(false&&(true&&true)))=true:=rfl;have b4':(!(false&&(false&&true)))=true:=rfl;cases q1<;>cases q2
 ·rw[Mj hx hy hsh]
  refine AG Lm (CJ k1 wi c1 c2 b1' b2' (At b3' b4' kN)) hm hm2 AB AB AB AB ?_;exact AK rfl AA.out
 ·rw[Mj hx hy hsh]
  refine AG Lm (CJ k1 wi c1 c2 b1' b2' (At b3' b4' kN)) hm hm2 AB AB AB AB ?_;exact AK rfl AA.out
 ·rw[Mj hx hy hsh]
  refine AG Lm (CJ k1 wi c1 c2 b1' b2' (At b3' b4' kN)) hm hm2 AB AB AB AB ?_;exact AK rfl AA.out
 ·refine AG Lm (CJ k1 wi c1 c2 b1' b2' (At b3' b4' kN)) hm hm2 AB AB AB AB ?_
  refine⟨(i+1,_),⟨h2,λj s t hj h1 h3=>?_⟩,by dsimp only;omega,AL⟩;rcases BI j i with h|h
  ·exact ha j s t h h1 h3
  ·have:j=i:=by dsimp only at hj;omega
   subst this;rw[hx]at h1;rw[hy]at h3;cases h1;cases h3;exact hsh
def Ej (x y:AD):Bool:=BF (sb x.grain) (sb y.grain)&&FO x.shs y.shs
theorem oQ (x y:AD)(hx:x.shs.length<=1000000)(hy:y.shs.length<=1000000):AJ C0 103 [x.D,y.D] (As (Ej x y)):=by
 refine Aj.walk w1 bA rfl λF=>?_
 have c:=mM false false x.shs y.shs hx hy;obtain⟨q,hq⟩:∃q,BF (sb x.grain) (sb y.grain)=q:=⟨_,rfl⟩
 have hb:Ej x y=(q&&FO x.shs y.shs):=by unfold Ej;rw[hq]
 rw[hb];unfold AD.D;unfold CX at c⊢;obtain⟨S,hS⟩:∃S,x.shs.map Av.D=S:=⟨_,rfl⟩
 have pS:AA (.sl false 2 S):=by rw[<-hS];exact AI
 obtain⟨T,hT⟩:∃S,y.shs.map Av.D=S:=⟨_,rfl⟩
 have pT:AA (.sl false 2 T):=by rw[<-hT];exact AI
 rw[hS,hT]at c⊢;cases q
 ·refine AG Ag (At hq kT kF) c AB AB AB AB AB ?_
  exact AK rfl AA.out
 ·refine AG Ag (At hq kT kF) c AB AB AB AB AB ?_
  exact AK rfl AA.out
theorem pJ (b1 b2:Bool)(S T:List Av)(hS:S.length<=1000000)(hT:T.length<=1000000):AJ C0 45 [CX b1 S,CX b2 T] (As (FO S T)):=by
 refine Aj.walk w1 VZ rfl λF=>?_
 have e1:(((S.map Av.D).length:Nat):Int)=(S.length:Int):=by rw[Am]
 have e2:(((T.map Av.D).length:Nat):Int)=(T.length:Int):=by rw[Am]
 by_cases hl:S.length=T.length
 rotate_left
 ·have hne:((S.length:Int) != (T.length:Int))=true:=bne_iff_ne.2 (by omega)
  rw[Ts hl];refine AG Mt (At e1 e2 hne) AB AB AB AB AB AB ?_;exact AK rfl AA.out
 have hne:((S.length:Int) != (T.length:Int))=false:=by rw[hl];exact bne_self_eq_false _
 refine AG Mt (At e1 e2 hne) AB AB AB AB AB AB ?_;refine AC.loop (α:=Nat×Nat) (λp=>⟨[(0,CX b1 S),(1,CX b2 T),(5,i64 (p.1:Int))],[],p.2⟩) (λp=>S.length-p.1) (λq=>q.1<=S.length/\∀(j:Nat) (s t:Av),j<q.1->S[j]?=some s->T[j]?=some t->Ga s t=true) (0,_) ⟨BX _,λj _ _ h=>Ae h (G6 j)⟩ AL ?_;rintro⟨i,n⟩ F ⟨hi,ha⟩;dsimp only at hi ha⊢;rcases BI i S.length with h2|h2
 rotate_left
 ·have k1:=Cd h2
  rw[Tr hl λj s t h1 h3=>ha j s t (by have:=(List.getElem?_eq_some_iff.1 h1).1;omega) h1 h3];refine AG Mt (Ad e1 k1) AB AB AB AB AB AB ?_;exact AK rfl AA.out
 have k1:=Ce h2;have wi:=Cf (i:=i) (by omega);obtain⟨x,hx⟩:=CK h2;obtain⟨y,hy⟩:=CK (show i<T.length by omega);have hm:(S.map Av.D)[i]?=some (.agg [str (sb x.lot),str (sb x.part)]):=by rw[A7,hx];rfl
 have hm2:(T.map Av.D)[i]?=some (.agg [str (sb y.lot),str (sb y.part)]):=by rw[A7,hy];rfl
 obtain⟨q1,c1⟩:∃q,BF (sb x.lot) (sb y.lot)=q:=⟨_,rfl⟩
 obtain⟨q2,c2⟩:∃q,BF (sb x.part) (sb y.part)=q:=⟨_,rfl⟩
 have hsh:Ga x y=(q1&&q2):=by unfold Ga;rw[c1,c2]
 cases q1
 ·rw[Mj hx hy hsh]
  refine AG Mt (CJ e1 k1 wi c1 kN kT kF) hm hm2 AB AB AB AB ?_;exact AK rfl AA.out
 cases q2
 ·rw[Mj hx hy hsh]
  refine AG Mt (CJ e1 k1 wi c1 c2 kN (Ad kT kF)) hm hm2 AB AB AB AB ?_;exact AK rfl AA.out
 ·refine AG Mt (CJ e1 k1 wi c1 c2 kN (Ad kT kF)) hm hm2 AB AB AB AB ?_
  refine⟨(i+1,_),⟨h2,λj s t hj h1 h3=>?_⟩,by dsimp only;omega,AL⟩;rcases BI j i with h|h
  ·exact ha j s t h h1 h3
  ·have:j=i:=by dsimp only at hj;omega
   subst this;rw[hx]at h1;rw[hy]at h3;cases h1;cases h3;exact hsh
theorem qV (x y:AD)(hx:x.shs.length<=1000000)(hy:y.shs.length<=1000000):AJ C0 67 [x.D,y.D] (As (Ej x y)):=by
 refine Aj.walk w1 VT rfl λF=>?_
 have c:=pJ false false x.shs y.shs hx hy;obtain⟨q,hq⟩:∃q,BF (sb x.grain) (sb y.grain)=q:=⟨_,rfl⟩
 have hb:Ej x y=(q&&FO x.shs y.shs):=by unfold Ej;rw[hq]
 rw[hb];unfold AD.D;unfold CX at c⊢;obtain⟨S,hS⟩:∃S,x.shs.map Av.D=S:=⟨_,rfl⟩
 have pS:AA (.sl false 2 S):=by rw[<-hS];exact AI
 obtain⟨T,hT⟩:∃S,y.shs.map Av.D=S:=⟨_,rfl⟩
 have pT:AA (.sl false 2 T):=by rw[<-hT];exact AI
 rw[hS,hT]at c⊢;cases q
 ·refine AG Ag (At hq kT kF) c AB AB AB AB AB ?_
  exact AK rfl AA.out
 ·refine AG Ag (At hq kT kF) c AB AB AB AB AB ?_
  exact AK rfl AA.out
def R3 (H:Hp)(env:Au):Au->Prop
 | []=>True
 |(t,d)::r=>DQ H (env.get t) d/\R3 H env r
theorem R3.get {H:Hp}{env:Au}:∀ {env':Au},R3 H env env'->∀t,DQ H (env.get t) (env'.get t)
 | [],_,t=>λ_ _ _ _ _ _ _ v _=>.any v
 |(k,d)::r,h,t=>by
  simp only[Au.get];cases hb:Nat.beq k t with
  |true=>
   have:=B6 hb
   subst this;exact h.1
  |false=>exact h.2.get t
theorem gi {C:BD}{B F:Ac}{rd:Option Nat}{c:Code}{s:St}{Q:Exit->Ac->St->Prop}(env':Au)(he:R3 s.H s.env env')(h:AC C B rd F c ⟨env',[],s.n⟩ Q):AC C B rd F c s Q:=⟨λhB hd ρ a w hs=>by
 have hH:Ck s.H [] s.H []:=by
  generalize s.H=H0
  have:∀H1:Hp,Ck H0 [] H1 []:=λH1=>by
   induction H1 with
   |nil=>exact .nil
   |cons e r ih=>exact .drop ih
  exact this H0
 obtain⟨m,hO,hN⟩:=hH.mem hs.mem;exact h.out hB hd ρ a w ⟨m,hs.fresh,by simp,λt=>he.get t _ _ _ _ hs.mem hO (λe he b hb=>hN e he b hb rfl) _ (hs.env t),hs.nt,hs.dfr⟩⟩
theorem U6 (B:D)[pB:AA B][pC:AU B](hB:∃a b c d e,B=.agg [a,b,c,d,e])(b:Bool)(ls:List D)[pL:AA (.sl b 1 ls)](i:Nat)(x:Int)(hx:ls[i]?=some (i64 x))(R:D)[pR:AA R](m:Int)
  (cB:AJ C0 92 [.sl b 1 ls,i64 (i:Int),.clo (.func 96) [] [.pptr (.sl b 1 ls),.pptr (i64 (i:Int)),.pptr B]] R)
  (cL:AJ C0 91 [i64 x,R] (i64 m)):AJ C0 49 [B,.sl b 1 ls,i64 (i:Int)] (i64 m):=by
 refine Aj.walk w1 fE rfl λF=>?_
 obtain⟨a1,a2,a3,a4,a5,rfl⟩:=hB;refine sR 0 ?_;refine AC.seq ?_;refine gi [(3,.pptr (.agg [a1,a2,a3,a4,a5])),(4,.pptr (.sl b 1 ls)),(5,.pptr (i64 (i:Int)))] ⟨.ptr rfl rfl rfl rfl,.ptr rfl rfl rfl rfl,.ptr rfl rfl rfl rfl,trivial⟩ ?_;refine B9 w1 100 [0,1,2,3,4,5,6,7] [8,9] (by kernel_rfl) ?_;refine BP ?_;refine Bs kT hx ?_;refine AE kB ?_;refine BU.same _ (cB) AI ?_;refine BP ?_;refine cI cL ?_;refine Ak ?_;exact AK rfl AA.out
theorem pV (B:D)[pB:AA B][pC:AU B](a1 a2 a4 a5:D)(room:Int)(hB:B=.agg [a1,a2,i64 room,a4,a5])(ls:List D)[pL:AA (.sl false 1 ls)](i:Nat)(x:Int)(hx:ls[i]?=some (i64 x))(R:D)[pR:AA R](m:Int)
  (cC:AJ C0 55 [B,.sl true 1 [i64 (i:Int)]] (i64 0)) (cV:AJ C0 48 [B] (.sl false 1 ls))
  (cB:AJ C0 92 [.sl false 1 ls,i64 (i:Int),.clo (.func 93) [] [.pptr B,.pptr (.sl false 1 ls),.pptr (i64 (i:Int))]] R) (r:Int) (hr:IntKind.i64.wrap (room-x)=r)
  (cL:AJ C0 91 [i64 r,R] (i64 m)):AJ C0 43 [B,i64 (i:Int)] (.tup [i64 m,i64 0]):=by
 refine Aj.walk w1 eZ rfl λF=>?_
 have e0:((0:Int) != 0)=false:=rfl;subst hB;refine sR 0 ?_;refine AC.seq ?_;refine sR 100 ?_;refine cI cC ?_;refine sZ 200 ?_;refine AV e0 ?_;refine AM ?_;refine Ao ?_;refine sR 400 ?_;refine cI cV ?_;refine AC.seq ?_;refine gi [(2,.pptr (.agg [a1,a2,i64 room,a4,a5])),(3,.pptr (i64 (i:Int))),(7,.pptr (.sl false 1 ls))] ⟨.ptr rfl rfl rfl rfl,.ptr rfl rfl rfl rfl,.ptr rfl rfl rfl rfl,trivial⟩ ?_;refine B9 w1 500 [0,1,2,3,4,5,6,7,8,9,10] [11,12,13] (by kernel_rfl) ?_;refine BP ?_;refine Bs kT hx ?_;refine AE hr ?_;refine BU.same _ (cB) AI ?_;refine BP ?_;refine cI cL ?_;refine Ak ?_;exact AK rfl AA.out
abbrev CP (l:List Int):List D:=l.map λx=>i64 x
theorem jp (a1 a2 a3 a4:D)[AA a1][AA a2][AA a3][AA a4](b:Bool)(cs:List D)[pc:AA (.sl b 1 cs)](ls:List Int)(hlen:ls.length=cs.length)(h0:cs≠[])(hl:cs.length<=1000000)
  (hc:∀(i:Nat) (c:D) (m:Int),cs[i]?=some c->ls[i]?=some m->AJ C0 57 [c] (i64 m)) (hp:∀c∈cs,∃bb l,c=.sl bb 3 l/\AA c) (g0:Nat) (x:D) (n:Nat):
  Cg C0 48 [.agg [a1,a2,a3,a4,.sl b 1 cs]] [⟨0,g0,24,5,[x]⟩] n (λd H' _=>∃g,d=.osl 504 g 1 0 ls.length/\H'=[⟨504,g,3,1,CP ls⟩,⟨0,g0,24,5,[x]⟩]):=by
 refine Cg.walk w1 VQ rfl λF=>?_
 refine AG Ag kB AB AB AB AB AB AB ?_;refine AC.loop (α:=Nat×Nat×Nat) (λp=>⟨[(3,D3 504 p.2.1 1 (CP (ls.take p.1))),(7,.sl b 1 cs),(8,i64 (cs.length:Int)),(9,i64 (p.1:Int))],Dt 504 p.2.1 3 1 (CP (ls.take p.1))++[⟨0,g0,24,5,[x]⟩],p.2.2⟩) (λp=>cs.length-p.1) (λq=>q.1<=cs.length) (0,0,_) (BX _) AL ?_;rintro⟨i,g,n⟩ F hi;dsimp only at hi⊢;rcases BI i cs.length with h2|h2
 rotate_left
 ·have e1:=Cd h2
  have hi2:i=cs.length:=by omega
  rw[CE (by omega:ls.length<=i)];have hls:ls≠[]:=λh=>h0 (En (by rw[<-hlen,h];rfl))
  obtain⟨z,r,rfl⟩:∃z r,ls=z::r:=by
   cases ls with
   |nil=>exact Ae rfl hls
   |cons z r=>exact⟨z,r,rfl⟩
  rw[show CP (z::r)=i64 z::CP r from rfl,Hk,Hl,Em,F6];refine AG Ag e1 AB AB AB AB AB AB ?_;exact⟨_,by rw[Am],rfl⟩
 have e1:=Ce h2;have wi:=Cf (i:=i) (by omega);obtain⟨c,hm⟩:=CK h2;obtain⟨m,hm2⟩:=CK (show i<ls.length by omega);obtain⟨bb,cl,rfl,pcl⟩:=hp c (Aw hm);have cT:=hc i _ m hm hm2;have ht:ls.take (i+1)=ls.take i++[m]:=by rw[Dp,hm2];rfl
 obtain⟨R,hR⟩:∃R,ls.take i=R:=⟨_,rfl⟩
 rw[hR]at ht⊢;rcases R with _|⟨z,R⟩
 ·rw[show CP []=[]from rfl,I6,I7,F6]
  refine AG Ag (At e1 wi kN) hm cT AB AB AB AB ?_;refine⟨(i+1,n+1+1+1+1+1+1+1+1,n+1+1+1+1+1+1+1+1+1+1+1+1),h2,by dsimp only;omega,?_⟩;dsimp only;rw[ht];exact AL
 ·rw[show CP (z::R)=i64 z::CP R from rfl,Hk,Hl,Em,F6]
  obtain⟨O,hO⟩:∃O,CP R=O:=⟨_,rfl⟩
  have hOl:O.length+1=i:=by
   rw[<-hO,Am]
   have:(z::R).length=i:=by rw[<-hR,Bb];omega
   exact this
  rw[hO];refine AG Ag (At e1 wi kN) hm cT AB AB AB AB ?_;refine⟨(i+1,n+1+1+1+1+1+1+1+1,n+1+1+1+1+1+1+1+1+1+1+1+1),h2,by dsimp only;omega,?_⟩;dsimp only;rw[ht,show CP (z::R++[m])=i64 z::O++[i64 m]from by rw[<-hO];unfold CP;rw[DG];rfl];rw[Em,Hk,Hl,Bk];rw[show List.take (O.length+1) (i64 z::O)=i64 z::O from DV (l:=i64 z::O)];exact AL
def PK (k g sz:Nat)(env:Au):Au->Prop
 | []=>True
 |(t,d)::r=>(d=env.get t\/(env.get t=CR/\d=.osl k g sz 0 0))/\PK k g sz env r
theorem PK.get {k g sz:Nat}{env:Au}:∀ {env':Au},PK k g sz env env'->∀t,env'.get t=.any\/env'.get t=env.get t\/(env.get t=CR/\env'.get t=.osl k g sz 0 0)
 | [],_,t=>.inl rfl
 |(q,d)::r,h,t=>by
  rw[In]
  by_cases hk:q=t
  ·subst hk;rw[AH rfl];exact .inr h.1
  ·rw[AF hk];exact PK.get h.2 t
theorem AC.ghost {C:BD}{B F:Ac}{rd:Option Nat}{c:Code}{s:St}{Q:Exit->Ac->St->Prop}(k T sz:Nat)(env':Au)(he:PK k s.n sz s.env env')(h:AC C B rd F c ⟨env',⟨k,s.n,T,sz,[]⟩::s.H,s.n+1⟩ Q):AC C B rd F c s Q:=⟨λhB hd ρ a w hs=>by
 obtain⟨m1,hO⟩:=hs.mem.ghost (k:=k) (n:=s.n) (T:=T) (sz:=sz) (hs.fresh k _ (Ai _));refine h.out hB hd ρ a w ⟨m1,λk g hg=>hs.fresh k g (by dsimp only at hg;omega),λe he=>?_,λt=>?_,hs.nt,hs.dfr⟩
 ·rcases BA.1 he with rfl|he
  ·exact Ha _
  ·exact DD (hs.gen e he)
 ·have hr:=hs.env t
  dsimp only;rw[hO];rcases he.get t with h|h|⟨h1,h2⟩
  ·rw[h];exact .any _
  ·rw[h];exact hr
  ·rw[h2]
   rw[h1]at hr;generalize a.tmps.getD t undef=v at hr⊢;cases hr;exact .onil _ _ _⟩
def Ix (l:List Int):Nat->Nat
 | 0=>0
 |k+1=>if l.getD (Ix l k) 0<l.getD k 0 then k else Ix l k
def Fp (l:List Int):Nat:=Ix l l.length
theorem U7 {l:List Int}(h:0<l.length):∀k,k<=l.length->Ix l k<l.length
 | 0,_=>h
 |k+1,hk=>by
  unfold Ix;split
  ·omega
  ·exact U7 h k (by omega)
def LQ (mf:List Int->Int):Nat->List Int->List (Nat×Int)->List (Nat×Int)×Int
 | 0,_,_=>([],19)
 |k+1,l,out=>if l.getD (Fp l) 0=0 then(out,0)else if mf l=0 then([],7)else if out.length=256 then([],19)else LQ mf k (l.set (Fp l) (l.getD (Fp l) 0-mf l)) (out++[(Fp l,mf l)])
def Gn (p:Nat×Int):D:=.agg [i64 (p.1:Int),i64 p.2]
instance  (p:Nat×Int):AU (Gn p):=by unfold Gn;exact AI
instance  (p:Nat×Int):AA (Gn p):=by unfold Gn;exact AI
theorem O9 {l:List Int}{i:Nat}(h:i<l.length):(CP l)[i]?=some (i64 (l.getD i 0)):=by
 rw[A7,Dw,BG h];rfl
theorem og (a1 a2 a3 a4:D)[AA a1][AA a2][AA a3][AA a4](b:Bool)(cs:List D)[pc:AA (.sl b 1 cs)](ls:List Int)(hlen:ls.length=cs.length)(h0:cs≠[])(hl:cs.length<=1000000)
  (hc:∀(i:Nat) (c:D) (m:Int),cs[i]?=some c->ls[i]?=some m->AJ C0 57 [c] (i64 m)) (hp:∀c∈cs,∃bb l,c=.sl bb 3 l/\AA c)
  (cK:AJ C0 47 [.agg [a1,a2,a3,a4,.sl b 1 cs]] (i64 0))
  (mf:List Int->Int) (I:List Int->Prop) (hI0:I ls) (hI:∀l,I l->l.getD (Fp l) 0≠0->AJ C0 49 [.agg [a1,a2,a3,a4,.sl b 1 cs],.sl false 1 (CP l),i64 ((Fp l:Nat):Int)] (i64 (mf l))/\IntKind.i64.wrap (l.getD (Fp l) 0-mf l)=l.getD (Fp l) 0-mf l/\I (l.set (Fp l) (l.getD (Fp l) 0-mf l))):
  AJ C0 11 [.agg [a1,a2,a3,a4,.sl b 1 cs]] (.tup [.sl false 2 ((LQ mf 257 ls []).1.map Gn),i64 (LQ mf 257 ls []).2]):=by
 refine Aj.walk w1 dt rfl λF=>?_
 have e0:((0:Int) != 0)=false:=rfl;have cL:=λn=>jp a1 a2 a3 a4 b cs ls hlen h0 hl hc hp 0 (.agg [a1,a2,a3,a4,.sl b 1 cs]) n
 refine AG Ag e0 cK AB AB AB AB AB ?_;refine BE.own _ (cL _) ?_;rintro d H' n' ⟨g,rfl,rfl⟩;refine AG Ag kB AB AB AB AB AB AB ?_;obtain⟨N,hN⟩:∃N,ls.length=N:=⟨_,rfl⟩
 have hN0:0<N:=by rw[<-hN,hlen];exact List.length_pos_iff.2 h0
 have hN1:N<=1000000:=by omega
 rw[hN];clear cL cK hc hp;refine AC.ghost 2005 35 2 [(1,.optr 0 0 5 0 0),(5,.osl 2005 _ 2 0 0),(6,.osl 504 g 1 0 N)] ⟨.inl rfl,.inr ⟨rfl,rfl⟩,.inl rfl,trivial⟩ ?_;refine AC.loop (α:=List Int×List (Nat×Int)×Nat×Nat) (λp=>⟨[(1,.optr 0 0 5 0 0),(5,.osl 2005 p.2.2.1 2 0 p.2.1.length),(6,.osl 504 g 1 0 N)],[⟨2005,p.2.2.1,35,2,p.2.1.map Gn⟩,⟨504,g,3,1,CP p.1⟩,⟨0,0,24,5,[.agg [a1,a2,a3,a4,.sl b 1 cs]]⟩],p.2.2.2⟩) (λp=>257-p.2.1.length)
  (λp=>p.1.length=N/\I p.1/\p.2.1.length<=256/\LQ mf (257-p.2.1.length) p.1 p.2.1=LQ mf 257 ls []) (ls,[],_,_) ⟨hN,hI0,BX _,rfl⟩ AL ?_
 rintro⟨l,out,go,n⟩ F ⟨hl1,hIl,ho,hR⟩;dsimp only at hl1 hIl ho hR⊢;obtain⟨OD,hOD⟩:∃O,out.map Gn=O:=⟨_,rfl⟩
 have hODl:OD.length=out.length:=by rw[<-hOD,Am]
 rw[hOD];obtain⟨L,hL⟩:∃L,CP l=L:=⟨_,rfl⟩
 have hLl:L.length=N:=by rw[<-hL,Am,hl1]
 rw[hL];refine AG Ag kB AB AB AB AB AB AB ?_;refine AC.loop (α:=Nat×Nat) (λp=>⟨[(1,.optr 0 0 5 0 0),(5,.osl 2005 go 2 0 out.length),(6,.osl 504 g 1 0 N),(18,.osl 504 g 1 0 N),(19,i64 (N:Int)),(20,i64 (p.1:Int)),(7,i64 ((Ix l p.1:Nat):Int))],[⟨2005,go,35,2,OD⟩,⟨504,g,3,1,L⟩,⟨0,0,24,5,[.agg [a1,a2,a3,a4,.sl b 1 cs]]⟩],p.2⟩) (λp=>N-p.1) (λq=>q.1<=N) (0,_) (BX _) AL ?_;rintro⟨k,n⟩ F hk;dsimp only at hk⊢;rcases BI k N with h2|h2
 ·have e1:=Ce h2
  have wi:=Cf (i:=k) (by omega);have hm:=O9 (l:=l) (i:=k) (by omega);have hq:=U7 (l:=l) (by omega) k (by omega);have hm2:=O9 hq;obtain⟨u,hu⟩:∃u,l.getD k 0=u:=⟨_,rfl⟩
  obtain⟨v,hv⟩:∃v,l.getD (Ix l k) 0=v:=⟨_,rfl⟩
  have hs:Ix l (k+1)=if v<u then k else Ix l k:=by rw[<-hu,<-hv];rfl
  rw[hu]at hm;rw[hv]at hm2;obtain⟨q,hq2⟩:∃q,Ix l k=q:=⟨_,rfl⟩
  rw[hq2]at hm2 hs hq⊢;rw[hL]at hm hm2
  by_cases hlt:v<u
  ·have e2:decide (u>v)=true:=AZ hlt
   rw[AH hlt]at hs;refine AG Ag (CJ e1 e2 wi kN BV hm hm2) AB AB AB AB AB AB ?_;refine⟨(k+1,n+1000),h2,by dsimp only;omega,?_⟩;dsimp only;rw[hs];exact AL
  ·have e2:decide (u>v)=false:=Ah hlt
   rw[AF hlt]at hs;refine AG Ag (CJ e1 e2 wi kN BV hm hm2) AB AB AB AB AB AB ?_;refine⟨(k+1,n+1000),h2,by dsimp only;omega,?_⟩;dsimp only;rw[hs];exact AL
 have e1:=Cd h2
 have:k=N:=by omega
 subst this;have hq:=U7 (l:=l) (by omega) k (by omega);have hm:=O9 hq;have hmI:Ix l k=Fp l:=by unfold Fp;rw[hl1]
 rw[hmI]at hq hm⊢;have hIm:=hI l hIl;have hRs:LQ mf (257-out.length) l out=if l.getD (Fp l) 0=0 then(out,0)else if mf l=0 then([],7)else if out.length=256 then([],19)else LQ mf (256-out.length) (l.set (Fp l) (l.getD (Fp l) 0-mf l)) (out++[(Fp l,mf l)]):=by
  rw[show 257-out.length=(256-out.length)+1 by omega];rfl
 rw[hR]at hRs;obtain⟨q,hq2⟩:∃q,Fp l=q:=⟨_,rfl⟩
 rw[hq2]at hq hm hIm hRs⊢;obtain⟨v,hv⟩:∃v,l.getD q 0=v:=⟨_,rfl⟩
 rw[hv]at hm hIm hRs;rw[hL]at hm
 by_cases hv0:v=0
 ·have e2:(v==0)=true:=by rw[hv0];rfl
  rw[AH hv0]at hRs;rw[hRs];refine AG Ag (CO e1 e2 kN BV hm) AB AB AB AB AB AB ?_;have hf:=HI (H:=[⟨2005,go,35,2,OD⟩,⟨504,g,3,1,L⟩,⟨0,0,24,5,[.agg [a1,a2,a3,a4,.sl b 1 cs]]⟩]) (Hf:=[]) (k:=2005) (g:=go) (T:=35) (sz:=2) (l:=OD) rfl;rw[hODl]at hf;rw[hOD];have pO:AA (.sl false 2 OD):=by rw[<-hOD];exact AI
  exact⟨_,Gt hf (.refl _),AA.out,rfl⟩
 rw[AF hv0]at hRs;have e2:(v==0)=false:=Bu.2 hv0;obtain⟨cM,wm,hI'⟩:=hIm hv0;obtain⟨m,hmm⟩:∃m,mf l=m:=⟨_,rfl⟩
 rw[hmm]at cM wm hI' hRs;have pL:AA (.sl false 1 (CP l)):=AI;rw[hL]at cM pL;have hfL:=HI (H:=[⟨2005,go,35,2,OD⟩,⟨504,g,3,1,L⟩,⟨0,0,24,5,[.agg [a1,a2,a3,a4,.sl b 1 cs]]⟩]) (Hf:=[]) (k:=504) (g:=g) (T:=3) (sz:=1) (l:=L) rfl;rw[hLl]at hfL;refine AG Ag (CO e1 e2 kN BV hm) AB AB AB AB AB AB ?_;refine BE.own _ (MT (H:=[⟨2005,go,35,2,OD⟩,⟨504,g,3,1,L⟩,⟨0,0,24,5,[.agg [a1,a2,a3,a4,.sl b 1 cs]]⟩]) cM rfl (λi a d h1 h2=>by
  match i with
  | 0=>cases h1;cases h2;exact .refl _ _
  | 1=>cases h1;cases h2;exact .of hfL
  | 2=>cases h1;cases h2;exact .refl _ _
  |n+3=>cases h1) AI (.prim _)) ?_
 rintro d H' n' ⟨rfl,rfl,rfl⟩
 by_cases hm0:m=0
 ·have e3:(m==0)=true:=by rw[hm0];rfl
  rw[AH hm0]at hRs;rw[hRs];refine AG Ag e3 AB AB AB AB AB AB ?_;exact⟨_,Gt (.nil 2) (.refl _),AA.out,rfl⟩
 rw[AF hm0]at hRs;have e3:(m==0)=false:=Bu.2 hm0
 by_cases h256:out.length=256
 ·have e4:((out.length:Int)==256)=true:=by rw[h256];rfl
  rw[AH h256]at hRs;rw[hRs];refine AG Ag (Ad e3 e4) AB AB AB AB AB AB ?_;exact⟨_,Gt (.nil 2) (.refl _),AA.out,rfl⟩
 rw[AF h256]at hRs;have e4:((out.length:Int)==256)=false:=Bu.2 (by omega);refine AG Ag (EQ e3 e4 wm kN BV hm) AB AB AB AB AB AB ?_;have hle:out.length<256:=by omega
 refine⟨(l.set q (v-m),out++[(q,m)],n+1+1+1+1+1+1+1+1+1+1+1+1+1+1+1+1+1+1+1+1+1,n+1000),⟨by rw[DF];exact hl1,?_,by rw[Bk];exact hle,?_⟩,?_,?_⟩
 ·exact hI'
 ·dsimp only
  rw[hRs,Bk];rw[show 257-(out.length+[(q,m)].length)=256-out.length by simp only[Bp,G5];omega]
 ·dsimp only
  rw[Bk];simp only[Bp,G5];omega
 ·dsimp only
  rw[Bk,DG,hOD,CE (show OD.length<=out.length by omega)];rw[show CP (l.set q (v-m))=L.set q (i64 (v-m))from by rw[<-hL];unfold CP;rw[List.map_set]];exact AL
abbrev Oc:Dr:=[(8,[0,1,2,3,4,5,6,7,8],[9,10,11]),(9,[0,1,2,3,4,5,6,7],[8,9,10,11])]
open Go.Proofs Go.RowKit
set_option maxRecDepth 20000
set_option maxHeartbeats 4000000
def CW (out:List AD)(x:AD):List AD:=match out.getLast? with
 |some y=>if Ej y x then out.dropLast++[y.w (y.mass+x.mass)]else out++[x]
 |none=>[x]
def A8 (l:List AD):List AD:=l.foldl CW []
theorem nj {l:List AD}{i:Nat}{x:AD}(h:l[i]?=some x):(l.take (i+1)).foldl CW []=CW ((l.take i).foldl CW []) x:=by
 rw[Dp,h];simp
theorem Xw {R:List AD}{y x:AD}(h:R[R.length-1]?=some y):CW R x=if Ej y x then R.dropLast++[y.w (y.mass+x.mass)]else R++[x]:=by
 unfold CW;rw[List.getLast?_eq_getElem?,h]
theorem Y3 {R:List AD}{y z:AD}(h:R[R.length-1]?=some y):R.set (R.length-1) z=R.dropLast++[z]:=by
 have hl:=(List.getElem?_eq_some_iff.1 h).1;rw[List.set_eq_take_append_cons_drop,AH hl,List.dropLast_eq_take];rw[show R.length-1+1=R.length by omega,JX]
def Vx (l:List AD)(i:Nat)(R:List AD):Prop:=R=(l.take i).foldl CW []/\R.length<=i/\∀y∈R,0<=y.mass/\y.mass<=(i:Int)*1000000000/\y.shs.length<=1000000
def NY (i:Nat)(R:List AD):Prop:=R.length<=i/\∀y∈R,0<=y.mass/\y.mass<=(i:Int)*1000000000/\y.shs.length<=1000000
theorem TV {i:Nat}{R:List AD}{x:AD}(hJ:NY i R)(hm:0<=x.mass/\x.mass<=1000000000/\x.shs.length<=1000000):NY (i+1) (CW R x):=by
 obtain⟨h2,h3⟩:=hJ;refine⟨?_,?_⟩
 ·unfold CW
  split
  ·split
   ·rw[Bk,List.length_dropLast];simp;omega
   ·rw[Bk];simp;omega
  ·simp
 ·have hR:∀y∈R,0<=y.mass/\y.mass<=((i+1:Nat):Int)*1000000000/\y.shs.length<=1000000:=λy hy=>by
   obtain⟨a,b,c⟩:=h3 y hy;exact⟨a,by omega,c⟩
  have hxx:0<=x.mass/\x.mass<=((i+1:Nat):Int)*1000000000/\x.shs.length<=1000000:=⟨by omega,by omega,hm.2.2⟩
  intro z hz;unfold CW at hz;split at hz
  ·rename_i y hy
   have hyR:=List.mem_of_getLast? hy;split at hz
   ·rcases List.mem_append.1 hz with hz|hz
    ·exact hR z ((List.dropLast_sublist R).subset hz)
    ·obtain rfl:=List.mem_singleton.1 hz
     obtain⟨a,b,c⟩:=h3 y hyR;refine⟨?_,?_,c⟩
     ·show 0<=y.mass+x.mass;omega
     ·show y.mass+x.mass<=_;omega
   ·rcases List.mem_append.1 hz with hz|hz
    ·exact hR z hz
    ·obtain rfl:=List.mem_singleton.1 hz;exact hxx
  ·obtain rfl:=List.mem_singleton.1 hz;exact hxx
theorem lR {l:List AD}{i:Nat}{R:List AD}{x:AD}(hJ:Vx l i R)(hx:l[i]?=some x)(hm:1<=x.mass/\x.mass<=1000000000/\x.shs.length<=1000000):Vx l (i+1) (CW R x):=
 ⟨by rw[nj hx,<-hJ.1],TV hJ.2 ⟨by omega,hm.2⟩⟩
def DH (l:List AD):List AD:=l.filter λx=>x.mass != 0
theorem qE {l:List AD}{i:Nat}{x:AD}(h:l[i]?=some x)(hx:x.mass≠0):DH (l.take (i+1))=DH (l.take i)++[x]:=by
 unfold DH;rw[Dp,h,List.filter_append]
 have:(x.mass != 0)=true:=by unfold bne;rw[Bu.2 hx];rfl
 rw[show(some x).toList=[x]from rfl,List.filter_cons,AH this];rfl
theorem qD {l:List AD}{i:Nat}{x:AD}(h:l[i]?=some x)(hx:x.mass=0):DH (l.take (i+1))=DH (l.take i):=by
 unfold DH;rw[Dp,h,List.filter_append]
 have:¬(x.mass != 0)=true:=by rw[hx];decide
 rw[show(some x).toList=[x]from rfl,List.filter_cons,AF this];simp
theorem vT {l:List AD}(h:∀x∈l,1<=x.mass):DH l=l:=List.filter_eq_self.2 λx hx=>by
 have:=h x hx
 unfold bne;rw[Bu.2 (by omega)];rfl
theorem Tf (b:Bool)(l:List AD)(hl:l.length<=1000000)(hx:∀x∈l,0<=x.mass/\x.mass<=1000000000/\x.shs.length<=1000000):AJ C0 62 [AY b l] (AY false (A8 (DH l))):=by
 refine Aj.walk w1 fO rfl λF=>?_
 have el:(((l.map AD.D).length:Nat):Int)=(l.length:Int):=by rw[Am]
 refine sR 0 ?_;refine sR 100 ?_;refine AC.seq ?_;refine sZ 200 ?_;refine AV el ?_;refine AC.ghost 606 80 3 [(3,.osl 606 _ 3 0 0),(7,AY b l),(8,i64 (l.length:Int)),(9,i64 ((0:Nat):Int))] ⟨.inr ⟨rfl,rfl⟩,.inl rfl,.inl rfl,.inl rfl,trivial⟩ ?_;refine AC.block ?_;refine AC.loop (α:=Nat×List AD×Nat×Nat) (λp=>⟨[(3,.osl 606 p.2.2.1 3 0 p.2.1.length),(7,AY b l),(8,i64 (l.length:Int)),(9,i64 (p.1:Int))],[⟨606,p.2.2.1,80,3,p.2.1.map AD.D⟩],p.2.2.2⟩) (λp=>l.length-p.1) (λq=>q.1<=l.length/\q.2.1=(DH (l.take q.1)).foldl CW []/\NY q.1 q.2.1) (0,[],_,_) ⟨BX _,rfl,Ai _,λy h=>by cases h⟩ AL ?_;rintro⟨i,R,g,n⟩ F ⟨hi,hJ⟩;dsimp only at hi hJ⊢;rcases BI i l.length with h2|h2
 rotate_left
 ·have k1:=Cd h2
  have:i=l.length:=by omega
  subst this;have hR:=hJ.1;rw[DV]at hR;have hf:=HI (H:=[⟨606,g,80,3,R.map AD.D⟩]) (Hf:=[]) (k:=606) (g:=g) (T:=80) (sz:=3) (l:=R.map AD.D) rfl;rw[Am]at hf;refine AG Oc k1 AB AB AB AB AB AB ?_;exact⟨_,hf,AA.out,by rw[hR];rfl⟩
 have k1:=Ce h2;have wi:=Cf (i:=i) (by omega);obtain⟨x,hx'⟩:=CK h2;have hxm:=hx x (Aw hx');have hm:(l.map AD.D)[i]?=some (.agg [str (sb x.grain),i64 x.mass,.sl false 2 (x.shs.map Av.D)]):=by rw[A7,hx'];rfl
 have cO:=Oz x x.mass hxm.2.2
 by_cases hz:x.mass=0
 ·have g0:(x.mass==0)=true:=by rw[hz];rfl
  refine AG Oc (EQ k1 g0 wi kN kT kF) hm AB AB AB AB AB ?_;exact⟨(i+1,R,g,n+1000),⟨h2,by dsimp only;rw[qD hx' hz];exact hJ.1,by dsimp only;have:=hJ.2.1;omega,λy hy=>by
   obtain⟨a,b,c⟩:=hJ.2.2 y hy;refine⟨a,?_,c⟩;dsimp only;omega⟩,by dsimp only;omega,AL⟩
 have hJ':CW R x=(DH (l.take (i+1))).foldl CW []/\NY (i+1) (CW R x):=⟨by rw[qE hx' hz,List.foldl_append,<-hJ.1];rfl,TV hJ.2 hxm⟩
 have g0:(x.mass==0)=false:=Bu.2 hz;have hRl:(R.map AD.D).length=R.length:=Am ..;have hRb:=hJ.2.1;rcases Dh R.length with hR0|hR0
 ·have hRn:R=[]:=En hR0
  subst hRn;have g1:decide (((0:Nat):Int)>0)=false:=rfl;unfold AD.D at cO;unfold CX at cO;obtain⟨S,hS⟩:∃S,x.shs.map Av.D=S:=⟨_,rfl⟩
  have pS:AA (.sl false 2 S):=by rw[<-hS];exact AI
  rw[hS]at cO hm;rw[G5,List.map_nil];refine AG Oc (CJ k1 g0 g1 wi kN kT kF) hm cO AB AB AB AB ?_;refine⟨(i+1,[x],n+1+1+1+1+1+1+1+1+1+1+1+1+12+1+1+1+1+1+1+1+1+1,n+1000),⟨h2,hJ'⟩,by dsimp only;omega,?_⟩;dsimp only;rw[show[x].map AD.D=[.agg [str (sb x.grain),i64 x.mass,.sl false 2 S]]from by rw[<-hS];rfl];exact AL
 have g1:decide ((R.length:Int)>0)=true:=AZ (by omega);obtain⟨y,hy⟩:=CK (show R.length-1<R.length by omega);have hym:=hJ.2.2 y (Aw hy);have w2:IntKind.i64.wrap ((R.length:Int)-1)=((R.length-1:Nat):Int):=by rw[wI (by omega) (by omega)];omega
 have w3:IntKind.i64.wrap (y.mass+x.mass)=y.mass+x.mass:=wI (by omega) (by omega);have hm2:(R.map AD.D)[R.length-1]?=some (.agg [str (sb y.grain),i64 y.mass,.sl false 2 (y.shs.map Av.D)]):=by rw[A7,hy];rfl
 have cK:=oQ y x hym.2.2 hxm.2.2;have hN:=Xw (x:=x) hy;have hset:=Y3 (z:=y.w (y.mass+x.mass)) hy;unfold AD.D CX at cO cK;obtain⟨S,hS⟩:∃S,x.shs.map Av.D=S:=⟨_,rfl⟩
 have pS:AA (.sl false 2 S):=by rw[<-hS];exact AI
 obtain⟨SY,hSY⟩:∃S,y.shs.map Av.D=S:=⟨_,rfl⟩
 have pSY:AA (.sl false 2 SY):=by rw[<-hSY];exact AI
 rw[hS]at cO hm cK;rw[hSY]at cK hm2;obtain⟨RD,hRD⟩:∃T,R.map AD.D=T:=⟨_,rfl⟩
 rw[hRD]at hm2 hRl⊢;have hr:0<=((R.length-1:Nat):Int)/\((R.length-1:Nat):Int)<(R.length:Int):=by omega
 obtain⟨q,hq⟩:∃q,Ej y x=q:=⟨_,rfl⟩
 rw[hq]at cK hN;cases q
 ·rw[hN,AF Bool.false_ne_true]at hJ'
  refine AG Oc (CJ k1 g0 g1 w2 wi kN (BZ BV hm2 kT kF)) hm cO cK AB AB AB ?_;refine⟨(i+1,R++[x],n+1+1+1+1+1+1+1+1+1+1+1+1+12+1+1+1+1+1+1+1+1+1,n+1000),⟨h2,hJ'⟩,by dsimp only;omega,?_⟩;dsimp only;rw[Bk,DG,hRD,CE (show RD.length<=R.length by omega)];rw[show[x].map AD.D=[.agg [str (sb x.grain),i64 x.mass,.sl false 2 S]]from by rw[<-hS];rfl];exact AL
 ·rw[hN,AH rfl]at hJ'
  refine AG Oc (CJ k1 g0 g1 w2 w3 wi (CO kN BV hm2 kT kF)) hm cO cK AB AB AB ?_;refine⟨(i+1,R.dropLast++[y.w (y.mass+x.mass)],g,n+1000),⟨h2,hJ'⟩,by dsimp only;omega,?_⟩;dsimp only;rw[<-hset,DF,List.map_set,hRD];rw[show(y.w (y.mass+x.mass)).D=.agg [str (sb y.grain),i64 (y.mass+x.mass),.sl false 2 SY]from by rw[<-hSY];rfl];exact AL
theorem QJ (b:Bool)(l:List AD)(hl:l.length<=1000000)(hx:∀x∈l,1<=x.mass/\x.mass<=1000000000/\x.shs.length<=1000000):AJ C0 62 [AY b l] (AY false (A8 l)):=by
 have h:=Tf b l hl λx h=>⟨by have:=(hx x h).1;omega,(hx x h).2⟩
 rw[vT λx h=>(hx x h).1]at h;exact h
abbrev Q4:Dr:=[(6,[0,1,2,3,4,5,6,7,8,9,10,11],[12,13]),(7,[0,1,2,3,4,5,6,7,8,9,10,11,12,13,14],[15,16,17])]
open Go.Proofs Go.RowKit
set_option maxRecDepth 20000
set_option maxHeartbeats 4000000
theorem UB (b:Bool)(l:List AD)(hl:l.length<=1000000)(hx:∀x∈l,1<=x.mass/\x.mass<=1000000000/\x.shs.length<=1000000):AJ C0 21 [AY b l] (AY false (A8 l)):=by
 refine Aj.walk w1 x6 rfl λF=>?_
 have el:(((l.map AD.D).length:Nat):Int)=(l.length:Int):=by rw[Am]
 refine sR 0 ?_;refine sR 100 ?_;refine AC.seq ?_;refine sR 200 ?_;refine AC.ghost 906 80 3 [(0,AY b l),(3,.osl 906 _ 3 0 0),(4,i64 ((0:Nat):Int))] ⟨.inl rfl,.inr ⟨rfl,rfl⟩,.inl rfl,trivial⟩ ?_;refine AC.block ?_;refine AC.loop (α:=Nat×List AD×Nat×Nat) (λp=>⟨[(0,AY b l),(3,.osl 906 p.2.2.1 3 0 p.2.1.length),(4,i64 (p.1:Int))],[⟨906,p.2.2.1,80,3,p.2.1.map AD.D⟩],p.2.2.2⟩) (λp=>l.length-p.1) (λq=>q.1<=l.length/\Vx l q.1 q.2.1) (0,[],_,_) ⟨BX _,rfl,Ai _,λy h=>by cases h⟩ AL ?_;rintro⟨i,R,g,n⟩ F ⟨hi,hJ⟩;dsimp only at hi hJ⊢;rcases BI i l.length with h2|h2
 rotate_left
 ·have k1:=Cd h2
  have:i=l.length:=by omega
  subst this;have hR:=hJ.1;rw[DV]at hR;have hf:=HI (H:=[⟨906,g,80,3,R.map AD.D⟩]) (Hf:=[]) (k:=906) (g:=g) (T:=80) (sz:=3) (l:=R.map AD.D) rfl;rw[Am]at hf;refine AG Q4 (Ad el k1) AB AB AB AB AB AB ?_;exact⟨_,hf,AA.out,by rw[hR];rfl⟩
 have k1:=Ce h2;have wi:=Cf (i:=i) (by omega);obtain⟨x,hx'⟩:=CK h2;have hxm:=hx x (Aw hx');have hJ':=lR hJ hx' hxm;have hm:(l.map AD.D)[i]?=some (.agg [str (sb x.grain),i64 x.mass,.sl false 2 (x.shs.map Av.D)]):=by rw[A7,hx'];rfl
 have g0:decide (x.mass>0)=true:=AZ (by omega);have hRl:(R.map AD.D).length=R.length:=Am ..;have hRb:=hJ.2.1;rcases Dh R.length with hR0|hR0
 ·have hRn:R=[]:=En hR0
  subst hRn;have g1:decide (((0:Nat):Int)>0)=false:=rfl;obtain⟨S,hS⟩:∃S,x.shs.map Av.D=S:=⟨_,rfl⟩
  have pS:AA (.sl false 2 S):=by rw[<-hS];exact AI
  rw[hS]at hm;rw[G5,List.map_nil];refine AG Q4 (CJ el k1 g0 g1 wi kN (Ad kT kF)) hm AB AB AB AB AB ?_;refine⟨(i+1,[x],n+1+1+1+1+1+1+1+14+1+1+1+1+1+1+1+1+1+1+1+1+1+1,n+1000),⟨h2,hJ'⟩,by dsimp only;omega,?_⟩;dsimp only;rw[show[x].map AD.D=[.agg [str (sb x.grain),i64 x.mass,.sl false 2 S]]from by rw[<-hS];rfl];exact AL
 have g1:decide ((R.length:Int)>0)=true:=AZ (by omega);obtain⟨y,hy⟩:=CK (show R.length-1<R.length by omega);have hym:=hJ.2.2 y (Aw hy);have w2:IntKind.i64.wrap ((R.length:Int)-1)=((R.length-1:Nat):Int):=by rw[wI (by omega) (by omega)];omega
 have w3:IntKind.i64.wrap (y.mass+x.mass)=y.mass+x.mass:=wI (by omega) (by omega);have hm2:(R.map AD.D)[R.length-1]?=some (.agg [str (sb y.grain),i64 y.mass,.sl false 2 (y.shs.map Av.D)]):=by rw[A7,hy];rfl
 have cK:=qV y x hym.2.2 hxm.2.2;have hN:=Xw (x:=x) hy;have hset:=Y3 (z:=y.w (y.mass+x.mass)) hy;unfold AD.D CX at cK;obtain⟨S,hS⟩:∃S,x.shs.map Av.D=S:=⟨_,rfl⟩
 have pS:AA (.sl false 2 S):=by rw[<-hS];exact AI
 obtain⟨SY,hSY⟩:∃S,y.shs.map Av.D=S:=⟨_,rfl⟩
 have pSY:AA (.sl false 2 SY):=by rw[<-hSY];exact AI
 rw[hS]at hm cK;rw[hSY]at cK hm2;obtain⟨RD,hRD⟩:∃T,R.map AD.D=T:=⟨_,rfl⟩
 rw[hRD]at hm2 hRl⊢;have hr:0<=((R.length-1:Nat):Int)/\((R.length-1:Nat):Int)<(R.length:Int):=by omega
 obtain⟨q,hq⟩:∃q,Ej y x=q:=⟨_,rfl⟩
 rw[hq]at cK hN;cases q
 ·rw[hN,AF Bool.false_ne_true]at hJ'
  refine AG Q4 (CJ el k1 g0 g1 w2 wi (CO kN BV hm2 kT kF)) hm cK AB AB AB AB ?_;refine⟨(i+1,R++[x],n+1+1+1+1+1+1+1+14+1+1+1+1+1+1+1+1+1+1+1+1+1+1,n+1000),⟨h2,hJ'⟩,by dsimp only;omega,?_⟩;dsimp only;rw[Bk,DG,hRD,CE (show RD.length<=R.length by omega)];rw[show[x].map AD.D=[.agg [str (sb x.grain),i64 x.mass,.sl false 2 S]]from by rw[<-hS];rfl];exact AL
 ·rw[hN,AH rfl]at hJ'
  refine AG Q4 (CJ el k1 g0 g1 w2 w3 (EQ wi kN BV hm2 kT kF)) hm cK AB AB AB AB ?_;refine⟨(i+1,R.dropLast++[y.w (y.mass+x.mass)],g,n+1000),⟨h2,hJ'⟩,by dsimp only;omega,?_⟩;dsimp only;rw[<-hset,DF,List.map_set,hRD];rw[show(y.w (y.mass+x.mass)).D=.agg [str (sb y.grain),i64 (y.mass+x.mass),.sl false 2 SY]from by rw[<-hSY];rfl];exact AL
abbrev HE:Dr:=[(11,[0,1,2,3,4,5,6,7,8,9,10,11,12,13],[14,15])]
open Go.Proofs Go.RowKit
set_option maxRecDepth 20000
set_option maxHeartbeats 4000000
theorem Z9 {l:List Av}:∀i,i<=l.length->(∀j,j<i->Cb (Fq l j).part=0)->rk (E3 l i) (601*i+1)
 | 0,_,_=>(Z3 1 (Ai _)).rk
 |i+1,hi,h=>(dX (Z9 i (by omega) λj hj=>h j (by omega)) (NE (h i (by omega)))).mono (by omega)
theorem pP {l:List Av}{i:Nat}(h:FZ l i=0):Cb (Fq l i).part=0:=by
 unfold FZ at h;split at h
 ·cases h
 split at h
 ·cases h
 split at h
 ·exact h
 ·rename_i h1;exact Decidable.not_not.1 h1
theorem zS (b:Bool)(l:List Av)(hl:l.length<=15\/64<l.length)(hl2:l.length<=9223372036854775807)(hf:∀s∈l,s.few):AJ C0 106 [CX b l] (i64 (Ht l:Nat)):=by
 refine Aj.walk w1 rK rfl λF=>?_
 have el:(((l.map Av.D).length:Nat):Int)=(l.length:Int):=by rw[Am]
 have hC:Ht l=if l.length=0 then 2 else if 64<l.length then 5 else if Dm (FZ l) l.length≠0 then Dm (FZ l) l.length else if E3 l l.length=1 then 0 else 12:=rfl
 rcases Nat.decEq l.length 0 with h0|h0
 rotate_left
 ·rw[AH h0]at hC
  rw[hC];have q1:((l.length:Int)==0)=true:=by rw[h0];rfl
  refine AG HE (Ad el q1) AB AB AB AB AB AB ?_;exact AK rfl AA.out
 rw[AF h0]at hC;have q1:((l.length:Int)==0)=false:=Bu.2 (by omega)
 by_cases h64:64<l.length
 ·rw[AH h64]at hC
  rw[hC];have q2:decide ((l.length:Int)>64)=true:=AZ (by omega);refine AG HE (At el q1 q2) AB AB AB AB AB AB ?_;exact AK rfl AA.out
 rw[AF h64]at hC;have q2:decide ((l.length:Int)>64)=false:=Ah (by omega);have h15:l.length<=15:=by omega
 refine AG HE (At el q1 q2) AB AB AB AB AB AB ?_;refine AC.loop (α:=Nat×Nat) (λp=>⟨[(0,CX b l),(3,rR (E3 l p.1)),(4,i64 (p.1:Int))],[],p.2⟩) (λp=>l.length-p.1) (λp=>p.1<=l.length/\∀j,j<p.1->FZ l j=0) (0,_)
  ⟨BX _,λj h=>Ae h (G6 j)⟩ (by(dsimp only;rw[show rR (E3 l 0)=str ⟨#[48]⟩from qN];exact AL)) ?_
 rintro⟨i,m⟩ F ⟨hi,hz⟩;dsimp only at hi hz⊢;have hSk:=Z9 (l:=l) i hi λj hj=>pP (hz j hj)
 rcases BI i l.length with h2|h2
 rotate_left
 ·have e1:=Cd h2
  have:i=l.length:=by omega
  subst this;rw[AF (λh=>h (KY hz))]at hC;have e2:=j7 (E3 l l.length);obtain⟨q,hq⟩:∃q,decide (E3 l l.length=1)=q:=⟨_,rfl⟩
  rw[hq]at e2;unfold rR;cases q
  ·rw[AF (DP hq)]at hC
   rw[hC];refine AG HE (At e1 el e2) AB AB AB AB AB AB ?_;exact AK rfl AA.out
  ·rw[AH (C6 hq)]at hC
   rw[hC];refine AG HE (At e1 el e2) AB AB AB AB AB AB ?_;exact AK rfl AA.out
 have e1:=Ce h2;have wi:=Cf (i:=i) (by omega);obtain⟨s,hs⟩:=CK h2;have hm:(l.map Av.D)[i]?=some (.agg [str (sb s.lot),str (sb s.part)]):=by rw[A7,hs];rfl
 obtain⟨f1,f2⟩:=hf s (Aw hs);have hE:FZ l i=if Dg s.lot=false then 8 else if 0<i/\PC s.lot (Fq l (i-1)).lot=true then 11 else if Cb s.part≠0 then Cb s.part else if Gy (CT s.part)<=0 then 12 else 0:=by unfold FZ;rw[Jo hs]
 have hbad:∀e:Nat,e≠0->FZ l i=e->Ht l=e:=λe he h=>by
  have:=Oe hz h2 (by rw[h];exact he)
  rw[hC,this,h,AH he]
 have cN:=fY s.lot (by omega);obtain⟨N,hN⟩:∃q,Dg s.lot=q:=⟨_,rfl⟩
 rw[hN]at cN hE;cases N
 ·rw[AH rfl]at hE
  rw[hbad 8 (by decide) hE];refine AG HE (At e1 el kN) hm cN AB AB AB AB ?_;exact AK rfl AA.out
 rw[AF (by decide)]at hE;have cC:=vD s.part f2;rcases i with _|q
 ·have g0:decide (((0:Nat):Int)>0)=false:=rfl
  rw[AF (λh=>Ae h.1 (Nat.lt_irrefl 0))]at hE;rcases Nat.decEq (Cb s.part) 0 with hc0|hc0
  ·rw[AH hc0]at hE
   have e3:=GX hc0;rw[hbad (Cb s.part) hc0 hE];refine AG HE (CO e1 el g0 kN e3) hm cN cC AB AB AB ?_;exact AK rfl AA.out
  rw[AF (λh=>h hc0)]at hE;have e3:=GY hc0;have cG:=d8 (CT s.part) (Y4 hc0);have cA:=gO (E3 l 0) (CT s.part) (601*0+1) 600 hSk (NE hc0) (by omega);rw[Ux hc0]at cG cA;have hnext:E3 l (0+1)=E3 l 0+CT s.part:=by show _+CT (Fq l 0).part=_;rw[Jo hs]
  rw[<-hnext]at cA;obtain⟨sg,hsg⟩:∃q,Gy (CT s.part)=q:=⟨_,rfl⟩
  rw[hsg]at cG hE
  by_cases hs0:sg<=0
  ·rw[AH hs0]at hE
   have e4:decide (sg<=0)=true:=AZ hs0;rw[hbad 12 (by decide) hE];refine AG HE (EQ e1 el g0 kN e3 e4) hm cN cC cG AB AB ?_;exact AK rfl AA.out
  rw[AF hs0]at hE;have e4:decide (sg<=0)=false:=Ah hs0;refine AG HE (CJ e1 el g0 kN e3 e4 wi) hm cN cC cG cA AB ?_;exact⟨(0+1,_),⟨h2,λj hj=>by
   rcases Nat.lt_succ_iff_lt_or_eq.1 hj with q|q
   ·exact hz j q
   ·rw[q];exact hE⟩,by dsimp only;omega,AL⟩
 ·have g0:decide (((q+1:Nat):Int)>0)=true:=AZ (by omega)
  have g1:IntKind.i64.wrap (((q+1:Nat):Int)-1)=(q:Int):=by rw[wI (by omega) (by omega)];omega
  obtain⟨s0,hs0'⟩:=CK (l:=l) (i:=q) (by omega);have hm0:(l.map Av.D)[q]?=some (.agg [str (sb s0.lot),str (sb s0.part)]):=by rw[A7,hs0'];rfl
  rw[Ip,Jo hs0']at hE;obtain⟨bL,hbL⟩:∃q,PC s.lot s0.lot=q:=⟨_,rfl⟩
  have g2:(MA (sb s.lot) (sb s0.lot)||BF (sb s.lot) (sb s0.lot))=bL:=hbL;rw[hbL]at hE;cases bL
  rotate_left
  ·rw[AH ⟨Nat.succ_pos q,rfl⟩]at hE
   rw[hbad 11 (by decide) hE];refine AG HE (EQ e1 el g0 g1 g2 kN) hm hm0 cN AB AB AB ?_;exact AK rfl AA.out
  rw[AF (λh=>Ae h.2 (by decide))]at hE;rcases Nat.decEq (Cb s.part) 0 with hc0|hc0
  ·rw[AH hc0]at hE
   have e3:=GX hc0;rw[hbad (Cb s.part) hc0 hE];refine AG HE (CJ e1 el g0 g1 g2 kN e3) hm hm0 cN cC AB AB ?_;exact AK rfl AA.out
  rw[AF (λh=>h hc0)]at hE;have e3:=GY hc0;have cG:=d8 (CT s.part) (Y4 hc0);have cA:=gO (E3 l (q+1)) (CT s.part) (601*(q+1)+1) 600 hSk (NE hc0) (by omega);rw[Ux hc0]at cG cA;have hnext:E3 l ((q+1)+1)=E3 l (q+1)+CT s.part:=by show _+CT (Fq l (q+1)).part=_;rw[Jo hs]
  rw[<-hnext]at cA;obtain⟨sg,hsg⟩:∃q,Gy (CT s.part)=q:=⟨_,rfl⟩
  rw[hsg]at cG hE
  by_cases hs0:sg<=0
  ·rw[AH hs0]at hE
   have e4:decide (sg<=0)=true:=AZ hs0;rw[hbad 12 (by decide) hE];refine AG HE (CJ e1 el g0 g1 g2 kN (Ad e3 e4)) hm hm0 cN cC cG AB ?_;exact AK rfl AA.out
  rw[AF hs0]at hE;have e4:decide (sg<=0)=false:=Ah hs0;refine AG HE (CJ e1 el g0 g1 g2 kN (At e3 e4 wi)) hm hm0 cN cC cG cA ?_;exact⟨((q+1)+1,_),⟨h2,λj hj=>by
   rcases Nat.lt_succ_iff_lt_or_eq.1 hj with q|q
   ·exact hz j q
   ·rw[q];exact hE⟩,by dsimp only;omega,AL⟩
theorem y5 (x:AD)(hs:x.shs.length<=15\/64<x.shs.length)(hf:x.few):AJ C0 66 [x.D] (i64 (Ca x:Nat)):=by
 refine Aj.walk w1 wX rfl λF=>?_
 obtain⟨f1,f2,f3⟩:=hf;have cN:=fY x.grain (by omega);have cS:=zS false x.shs hs f2 f3;have hC:Ca x=if Dg x.grain=false then 8 else if x.mass<1\/x.mass>999999999 then 3 else Ht x.shs:=rfl
 obtain⟨N,hN⟩:∃q,Dg x.grain=q:=⟨_,rfl⟩
 obtain⟨SD,hSD⟩:∃d,CX false x.shs=d:=⟨_,rfl⟩
 have pS:AA SD:=by rw[<-hSD];exact AI
 have hna:Jm SD=true:=by rw[<-hSD];rfl
 unfold AD.D;rw[hN]at cN hC;rw[hSD]at cS⊢;cases N
 ·rw[AH rfl]at hC
  rw[hC];refine AG Ag kB cN AB AB AB AB AB ?_;exact AK rfl AA.out
 rw[AF (by decide)]at hC
 by_cases h1:x.mass<1
 ·rw[AH (.inl h1)]at hC
  rw[hC];have e1:decide (x.mass<1)=true:=AZ h1;refine AG Ag e1 cN AB AB AB AB AB ?_;exact AK rfl AA.out
 have e1:decide (x.mass<1)=false:=Ah h1
 by_cases h2:x.mass>999999999
 ·rw[AH (.inr h2)]at hC
  rw[hC];have e2:decide (x.mass>999999999)=true:=AZ h2;refine AG Ag (Ad e1 e2) cN AB AB AB AB AB ?_;exact AK rfl AA.out
 have e2:decide (x.mass>999999999)=false:=Ah h2;rw[AF (by omega)]at hC;rw[hC];refine AG Ag (At e1 e2 hna) cN cS AB AB AB AB ?_;exact AK rfl AA.out
def H8 (lot:List UInt8)(r:Rat):B0->B0
 | []=>[(lot,r)]
 |p::l=>if ltStr p.1 lot then p::H8 lot r l else if p.1=lot then(p.1,p.2+r)::l else(lot,r)::p::l
def MM (x:AD)(n:Nat)(q:B0):B0:=(x.shs.take n).foldl (λacc s=>H8 s.lot (CT s.part*(x.mass:Rat)) acc) q
def K7 (l:List AD):B0:=l.foldl (λacc x=>MM x x.shs.length acc) []
theorem kR (x:AD)(n:Nat)(q:B0){s:Av}(h:x.shs[n]?=some s):MM x (n+1) q=H8 s.lot (CT s.part*(x.mass:Rat)) (MM x n q):=by
 unfold MM;rw[Dp,h,List.foldl_append];rfl
theorem jr (l:List AD)(n:Nat){x:AD}(h:l[n]?=some x):K7 (l.take (n+1))=MM x x.shs.length (K7 (l.take n)):=by
 unfold K7;rw[Dp,h,List.foldl_append];rfl
abbrev HA (q:B0):Prop:=q.Pairwise λa b=>ltStr a.1 b.1=true
theorem HA.nd {q:B0}(h:HA q):(Cq q).Nodup:=by
 rw[Cq,List.Nodup,List.pairwise_map];exact h.imp λ{a b} h e=>by rw[e,swo_ltStr.irrefl]at h;cases h
theorem QO {lot:List UInt8}{o v:Rat}:∀ {q:B0},Fw lot q=some o->∃A B,q=A++(lot,o)::B/\GZ lot v q=A++(lot,v)::B
 | [],h=>by simp[Fw]at h
 |p::l,h=>by
  unfold Fw at h;unfold GZ;split at h
  ·rename_i e
   cases h;rw[AH e];exact⟨[],l,by rw[e];rfl,rfl⟩
  ·rename_i e
   rw[AF e];obtain⟨A,B,h1,h2⟩:=QO (v:=v) h;exact⟨p::A,B,by rw[h1];rfl,by rw[h2];rfl⟩
theorem Tc {lot:List UInt8}{v:Rat}:∀ {q:B0},Fw lot q=none->lot∉Cq q/\GZ lot v q=q++[(lot,v)]
 | [],_=>⟨by simp[Cq],rfl⟩
 |p::l,h=>by
  unfold Fw at h;unfold GZ;split at h
  ·cases h
  ·rename_i e
   rw[AF e];obtain⟨h1,h2⟩:=Tc (v:=v) h;exact⟨λq=>by
    rcases BA.1 q with q|q
    ·exact e q
    ·exact h1 q,by rw[h2];rfl⟩
theorem YI {lot:List UInt8}{r:Rat}:∀ {Q:B0},HA Q->(∃A o B,Q=A++(lot,o)::B/\H8 lot r Q=A++(lot,o+r)::B)\/(lot∉Cq Q/\∃A B,Q=A++B/\H8 lot r Q=A++(lot,r)::B)
 | [],_=>.inr ⟨by simp[Cq],[],[],rfl,rfl⟩
 |p::l,h=>by
  have hp:=D7.1 h;unfold H8;split
  ·rename_i e
   rcases YI (lot:=lot) (r:=r) hp.2 with⟨A,o,B,h1,h2⟩|⟨h0,A,B,h1,h2⟩
   ·exact .inl ⟨p::A,o,B,by rw[h1];rfl,by rw[h2];rfl⟩
   ·refine .inr ⟨λq=>?_,p::A,B,by rw[h1];rfl,by rw[h2];rfl⟩
    rcases BA.1 q with q|q
    ·rw[show p.1=lot from q.symm,swo_ltStr.irrefl]at e;cases e
    ·exact h0 q
  ·rename_i e
   split
   ·rename_i e2
    exact .inl ⟨[],p.2,l,by rw[<-e2];rfl,by rw[e2];rfl⟩
   ·rename_i e2
    refine .inr ⟨λq=>?_,[],p::l,rfl,rfl⟩;rcases BA.1 q with q|q
    ·exact e2 q.symm
    ·obtain⟨z,hz,rfl⟩:=List.mem_map.1 q
     exact e (hp.1 z hz)
theorem Xi {lot:List UInt8}{r:Rat}:∀ {Q:B0},∀z∈H8 lot r Q,z.1=lot\/z.1∈Cq Q
 | [],z,hz=>by
  unfold H8 at hz;rw[List.mem_singleton]at hz;exact .inl (by rw[hz])
 |p::l,z,hz=>by
  unfold H8 at hz;split at hz
  ·rcases BA.1 hz with rfl|hz
   ·exact .inr CA
   ·rcases Xi z hz with h|h
    ·exact .inl h
    ·exact .inr (CF _ h)
  ·split at hz
   ·rcases BA.1 hz with rfl|hz
    ·exact .inr CA
    ·exact .inr (CF _ (List.mem_map_of_mem hz))
   ·rcases BA.1 hz with rfl|hz
    ·exact .inl rfl
    ·exact .inr (List.mem_map_of_mem hz)
theorem Zg {lot:List UInt8}{r:Rat}:∀ {Q:B0},HA Q->HA (H8 lot r Q)
 | [],_=>List.pairwise_singleton _ _
 |p::l,h=>by
  have hp:=D7.1 h;unfold H8;split
  ·rename_i e
   refine D7.2 ⟨λz hz=>?_,Zg hp.2⟩;rcases Xi z hz with h|h
   ·rw[h];exact e
   ·obtain⟨y,hy,h2⟩:=List.mem_map.1 h
    rw[<-h2];exact hp.1 y hy
  ·rename_i e
   split
   ·exact D7.2 ⟨hp.1,hp.2⟩
   ·rename_i e2
    have e3:ltStr lot p.1=true:=by
     cases h9:ltStr lot p.1 with
     |true=>rfl
     |false=>exact Ae (W0 (by simpa using e) h9) e2
    refine D7.2 ⟨λz hz=>?_,h⟩;rcases BA.1 hz with rfl|hz
    ·exact e3
    ·exact swo_ltStr.trans _ _ _ e3 (hp.1 z hz)
theorem oL {Q q:B0}(hs:HA Q)(hp:Q.Perm q)(lot:List UInt8)(r:Rat):(H8 lot r Q).Perm (KE lot r q):=by
 have hnd:(Cq Q).Nodup:=hs.nd;unfold KE;rcases YI (lot:=lot) (r:=r) hs with⟨A,o,B,h1,h2⟩|⟨h0,A,B,h1,h2⟩
 ·have hm:(lot,o)∈q:=hp.mem_iff.1 (by rw[h1];simp)
  have hqn:(Cq q).Nodup:=(hp.map _).nodup_iff.1 hnd;have hlk:=TS hqn hm;dsimp only at hlk;rw[hlk];dsimp only;obtain⟨A2,B2,h3,h4⟩:=QO (v:=r+o) hlk;rw[h2,h4];have p1:(A++(lot,o)::B).Perm ((lot,o)::(A++B)):=HY;have p2:(A2++(lot,o)::B2).Perm ((lot,o)::(A2++B2)):=HY;have p3:(A++B).Perm (A2++B2):=by
   rw[h1,h3]at hp;exact List.Perm.cons_inv (p1.symm.trans (hp.trans p2))
  rw[Rat.add_comm o r];exact HY.trans ((p3.cons _).trans HY.symm)
 ·have hn:Fw lot q=none:=by
   cases h9:Fw lot q with
   |none=>rfl
   |some o=>
    obtain⟨A2,B2,h3,-⟩:=QO (v:=o) h9;exact Ae ((hp.map (·.1)).mem_iff.2 (by rw[h3];simp)) h0
  rw[hn];dsimp only;rw[(Tc (v:=r) hn).2,h2];rw[h1]at hp;exact HY.trans ((hp.cons _).trans (List.perm_append_singleton _ _).symm)
theorem ZN {Q q:B0}(hs:HA Q)(hp:Q.Perm q)(x:AD):∀j,j<=x.shs.length->HA (MM x j Q)/\(MM x j Q).Perm (GU x j q)
 | 0,_=>⟨hs,hp⟩
 |j+1,hj=>by
  obtain⟨s,hsj⟩:∃s,x.shs[j]?=some s:=⟨_,BG hj⟩
  obtain⟨h1,h2⟩:=ZN hs hp x j (by omega);rw[kR x j Q hsj,OI x j q hsj];exact⟨Zg h1,oL h1 h2 _ _⟩
theorem Te (l:List AD):∀i,i<=l.length->HA (K7 (l.take i))/\(K7 (l.take i)).Perm (CL (l.take i))
 | 0,_=>⟨List.Pairwise.nil,.refl _⟩
 |i+1,hi=>by
  obtain⟨x,hx⟩:∃x,l[i]?=some x:=⟨_,BG hi⟩
  obtain⟨h1,h2⟩:=Te l i (by omega);rw[jr l i hx,QD l i hx];exact ZN h1 h2 x _ (Ai _)
theorem HA.weak {q:B0}(h:HA q):q.Pairwise λa b=>ltStr b.1 a.1=false:=h.imp λ{a b} h=>by
 cases h9:ltStr b.1 a.1 with
 |false=>rfl
 |true=>have:=swo_ltStr.trans _ _ _ h h9;rw[swo_ltStr.irrefl]at this;cases this
theorem YL (l:List AD):K7 l=FU (CL l):=by
 obtain⟨h1,h2⟩:=Te l l.length (Ai _);rw[DV]at h1 h2;exact S0 ((h2.map _).nodup_iff.1 h1.nd) h2 (Ka _) h1.weak (Qy _)
theorem nW (l:List AD):HA (K7 l):=by
 obtain⟨h1,-⟩:=Te l l.length (Ai _)
 rwa [DV]at h1
end Go.Ide
