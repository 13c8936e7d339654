/- The layer of own lemmas and contracts, part 11. -/
import Derived.Test.YtpghcedmmpcfeaaGreatDoorS9
import Derived.Test.YtpghcedmmpcfeaaGreatDoorS10
import Derived.Test.YtpghcedmmpcfeaaGreatDoorS3
import Derived.Test.YtpghcedmmpcfeaaGreatDoorS7
import Derived.Shelf.RegionOpenPlain
import Derived.Lib.Builder
import Derived.Lib.UnsafeStr
import Derived.Lib.Strings
import Derived.Lib.Slices
import Derived.Lib.Walk
import Derived.Laws.Externs
import Derived.KernelRfl
import Derived.WalkKit
import Derived.Shelf.Strconv.Itoa3
import Derived.Lib.ItoaMem
import Derived.Lib.AppendIntMem
import Derived.BigCall
import Derived.BigGuard
import Derived.Test.YtpghcedmmpcfeaaGreatDoorS8
import Derived.Test.YtpghcedmmpcfeaaGreatDoorS4
import Derived.Shelf.SlSortCmp.WholeK
import Derived.Shelf.Lay
import Derived.Laws.Cover1
import Derived.Shelf.Small.Bits
import Derived.Ground.SlsfProg
import Derived.Ground.NamesProg
import Derived.Shelf.SlIter.Sorted
import Derived.Shelf.SortM.Plain
import Derived.Shelf.SortM.SortNone
import Derived.Ground.GgzProg
import Derived.Ground.SlgmProg
set_option linter.unusedVariables false
set_option linter.unusedSimpArgs false
namespace Go.Ide
open Go.Proofs Go.RowKit
set_option maxRecDepth 20000
set_option maxHeartbeats 4000000
theorem CZ {i n:Nat}(h:i<n):decide ((i:Int)<(n:Int))=true:=BX
theorem Cc {i n:Nat}(h:n<=i):decide ((i:Int)<(n:Int))=false:=Bc
theorem Ce {i:Nat}(h:i<9223372036854775807):IntKind.i64.wrap ((i:Int)+1)=((i+1:Nat):Int):=wI
theorem CJ {α:Type}{l:List α}{i:Nat}(h:i<l.length):∃x,l[i]?=some x:=⟨l[i],Bx h⟩
instance  (l:List UInt8):AX (G3 l).D:=by unfold GF.D;exact AJ
theorem G9 {a:Nat}(h:a≠0):(((a:Nat):Int) != 0)=true:=I7 (by omega)
theorem HA {a:Nat}(h:a=0):(((a:Nat):Int) != 0)=false:=by subst h;rfl
theorem e0j {a:Nat}(h:a≠0):(((a:Nat):Int)==0)=false:=B4.2 (by omega)
set_option maxHeartbeats 1000000
set_option maxRecDepth 100000
theorem zk {n:Nat}(h:1<=n):liesAt Tryz.prog Tryz.prog.depth 198 n 0 198 1=true:=by
 have hs:sameLayout Tryz.prog Tryz.prog.depth 198 198=true:=by kernel_rfl
 have hc:Tryz.prog.cellsOf 198=2:=by kernel_rfl
 obtain⟨d,hd⟩:∃d,Tryz.prog.depth=d+1:=⟨Tryz.prog.depth-1,by kernel_rfl⟩
 rw[hd]at hs⊢;unfold liesAt;rw[hd];unfold rowAt;simp[hc,hs,h]
theorem ro (b c:Nat)(hc:2<=c)(w:World)(h0:w.cell? ⟨b,0,none⟩=some (.pointer none))(hsh:w.shape? b=some (198,c))(hfz:w.frozen? ⟨b,0,none⟩=false):
  Calls Tryz.prog 208 #[.pointer (some ⟨b,0,none⟩)] w λe w'=>e=.returned (.tuple #[])/\w'=w.setCell ⟨b,0,none⟩ (.pointer (some ⟨b,0,none⟩)):=by
 obtain⟨j,hj,hjs⟩:=Ez.1 (show(Tryz.prog.info? 198).map (·.size)=some 2 by kernel_rfl);have hl:liesAt Tryz.prog Tryz.prog.depth 198 (c/Tryz.prog.cellsOf 198) 0 198 1=true:=zk (by rw[show Tryz.prog.cellsOf 198=2 by kernel_rfl];omega)
 go_enter Tryz.func208,Tryz.ntmps208
 go_wp2
 rw[Lib.run_to_unsafe w ⟨b,0,none⟩ (t:=198) (by kernel_rfl) (by kernel_rfl) hj (by rw[hjs];decide) hsh (by show 0<c;omega)];simp only[Result.andThen];rw[Oper.upon_value]
 go_wp2
 rw[run_callFunc_extern Tryz.func241 (by kernel_rfl) (by kernel_rfl) (by kernel_rfl) (e:=Extern.AbiNoEscape.same) (by kernel_rfl)];rw[Lib.run_noEscape];simp only[Result.andThen];rw[Oper.upon_value]
 go_wp2
 rw[Lib.run_from_unsafe w ⟨b,0,none⟩ (u:=198) (by kernel_rfl) (by kernel_rfl) hj hsh hl];simp only[Result.andThen];rw[Oper.upon_value]
 go_wp2
 go_end0
 exact⟨rfl,rfl⟩
theorem uD (b:Nat)(w:World)(h0:w.cell? ⟨b,0,none⟩=some (.pointer (some ⟨b,0,none⟩))):
  Calls Tryz.prog 208 #[.pointer (some ⟨b,0,none⟩)] w λe w'=>e=.returned (.tuple #[])/\w'=w:=by
 obtain⟨j,hj,hjs⟩:=Ez.1 (show(Tryz.prog.info? 198).map (·.size)=some 2 by kernel_rfl)
 go_enter Tryz.func208,Tryz.ntmps208
 go_wp2
 rw[Lib.run_neq_ptr_same w _ (te:=198) (by kernel_rfl) hj]
 go_wp2
 go_end0
 exact⟨rfl,rfl⟩
theorem e0i (b g:Nat)(cur cs:Array Value)(l:List UInt8)(h0:l≠[])(w:World)(hb:w.heap[b]?=some (.cells cs 198 (0,0)))(hb1:cs[1]?=some (.slice (some ⟨g,0,none⟩) l.length cur.size))
  (hg:w.heap[g]?=some (.cells cur 5 (0,0))) (hl:l.length<=cur.size) (hcap:cur.size<=maxLen) (hcell:∀(j:Nat) (x:UInt8),l[j]?=some x->cur[j]?=some (.int .u8 x.toNat)):
  Calls Tryz.prog 152 #[.pointer (some ⟨b,0,none⟩)] w λe w'=>e=.returned (.string ⟨l.toArray⟩)/\w'=(w.drew.freeze ⟨g,0,none⟩ l.length):=by
 have c1:w.drew.cell? ⟨b,1,none⟩=some (.slice (some ⟨g,0,none⟩) l.length cur.size):=by
  have:w.drew.heap[b]?=some (.cells cs 198 (0,0)):=hb
  rw[Lib.cell_of_heap this];exact hb1
 have h0':l.length≠0:=by simpa using h0
 have hSD:(Builtin.unsafeSliceData_ #[196] 244 #[.slice (some ⟨g,0,none⟩) l.length cur.size]).run Tryz.prog w.drew=.ok (.pointer (some ⟨g,0,none⟩)) w.drew:=
  Lib.run_unsafeSliceData_row _ _ _ _ _ _ (by omega)
 have hUS:(Builtin.unsafeString_ #[244,3] 9 #[.pointer (some ⟨g,0,none⟩),.int .i64 l.length]).run Tryz.prog w.drew=.ok (.string ⟨l.toArray⟩) (w.drew.freeze ⟨g,0,none⟩ l.length):=by
  refine Lib.run_unsafeString_row w.drew 244 3 9 5 (by kernel_rfl) (by kernel_rfl) g cur.size (by have hg':w.drew.heap[g]?=some (.cells cur 5 (0,0)):=hg;simp[World.shape?,hg']) l h0 (by omega) (by unfold maxLen at hcap;omega) ?_;intro j x hx;have hg':w.drew.heap[g]?=some (.cells cur 5 (0,0)):=hg
  have:=hcell j x hx
  rw[Addr.add_lit];simp[World.cell?,hg',this]
 have mixed:Tryz.prog.follows .mixedOrders=true:=by kernel_rfl
 go_enter Tryz.func152,Tryz.ntmps152
 go_wp2
 go_region_o
 all_goals(go_wp2;go_ret;exact⟨rfl,rfl⟩)
def Ga (l:List UInt8):List D:=l.map λb=>.prim (.int .u8 (b.toNat:Int))
abbrev GO (g:Nat)(p x:D):At:=⟨1500,g,198,2,[.agg [p,x]]⟩
theorem jb {vs:Array Value}(h:vs.size=1):vs = #[vs.getD 0 undef]:=by
 match vs,h with
 |⟨[u]⟩,_=>rfl
theorem jc (g n:Nat)(x p:D)(H1 H2:Hp)(hp:p=.prim (.pointer none)\/p=.optr 1500 g 2 0 0):
  Cv C0 208 [.optr 1500 g 2 0 0] (H1++GO g p x::H2) n (λd H' n'=>d=.prim (.tuple #[])/\H'=H1++GO g (.optr 1500 g 2 0 0) x::H2/\n'=n):=by
 refine⟨⟨_,_,Tryz.func208,rfl,by kernel_rfl⟩,λF ρ w vs m fr hgn hvs hr=>?_⟩;have h0:=hr 0 _ rfl;rw[jb hvs];generalize hv:vs.getD 0 undef=v at h0;cases h0 with
 |optr hρ=>
  rename_i b;have he:GO g p x∈H1++GO g p x::H2:=by simp
  obtain⟨cs,hc,q⟩:=m.at he hρ;have hlen:2<=cs.size:=q.len;have hr0:AU ρ (AN F.X ρ (H1++GO g p x::H2)) w p (cs.getD 0 undef):=q.rep 0 _ 0 p rfl rfl;have hr1:AU ρ (AN F.X ρ (H1++GO g p x::H2)) w x (cs.getD 1 undef):=q.rep 0 _ 1 x rfl rfl;have hcell:w.cell? ⟨b,0,none⟩=some (cs.getD 0 undef):=by
   simp[World.cell?,hc,Array.getD,show 0<cs.size by omega]
  rcases hp with rfl|rfl
  ·cases hr0':cs.getD 0 undef with
   |pointer a=>
    rw[hr0']at hr0 hcell;cases hr0;refine(ro b cs.size hlen w hcell (by simp[World.shape?,hc]) (by simp[World.frozen?,hc])).mono ?_;rintro e w' ⟨rfl,rfl⟩;have hset:w.setCell ⟨b,0,none⟩ (.pointer (some ⟨b,0,none⟩))=World.setBlk w b (cs.setIfInBounds 0 (.pointer (some ⟨b,0,none⟩))) 198:=by
     rw[setCell_eq_setRow w b 0 cs 198 (0,0) _ hc];exact UM hc
    have hop:AU ρ (AN F.X ρ (H1++GO g (.prim (.pointer none)) x::H2)) w (.optr 1500 g 2 0 0) (.pointer (some ⟨b,0*2+0,none⟩)):=.optr hρ;have ho:Dd ρ (AN F.X ρ (H1++GO g (.prim (.pointer none)) x::H2)) w (GO g (.optr 1500 g 2 0 0) x) (cs.setIfInBounds 0 (.pointer (some ⟨b,0,none⟩))):=by
     refine⟨by rw[XN];exact q.len,λi d hd=>?_,λi v hv=>?_,λi d j c hd hj=>?_⟩
     ·rcases i with _|i
      ·cases hd;rfl
      ·simp at hd
     ·rw[Iq]at hv
      split at hv
      ·split at hv
       ·cases hv;rfl
       ·cases hv
      ·exact q.one i v hv
     ·rcases i with _|i
      ·cases hd
       rcases j with _|_|j
       ·cases hj
        have:(cs.setIfInBounds 0 (.pointer (some ⟨b,0,none⟩))).getD (0*2+0) undef=.pointer (some ⟨b,0*2+0,none⟩):=by
         simp[Aw,show 0<cs.size by omega]
        rw[this];exact hop
       ·cases hj
        have:(cs.setIfInBounds 0 (.pointer (some ⟨b,0,none⟩))).getD (0*2+1) undef=cs.getD 1 undef:=by
         simp[Aw]
        rw[this];exact hr1
       ·simp[D.cells]at hj
      ·simp at hd
    obtain⟨m1,x1⟩:=m.write (e':=GO g (.optr 1500 g 2 0 0) x) hρ hc rfl rfl rfl (XN ..) ho;rw[hset];exact⟨_,_,_,n,ρ,rfl,⟨rfl,rfl,rfl⟩,m1,x1,fr,λe' he'=>by
     rcases Bn.1 he' with h|h
     ·exact hgn e' (by simp[h])
     ·rcases A9.1 h with rfl|h
      ·exact hgn (GO g (.prim (.pointer none)) x) he
      ·exact hgn e' (by simp[h]),.prim _⟩
   |_=>rw[hr0']at hr0;cases hr0
  ·cases hr0':cs.getD 0 undef with
   |pointer a=>
    rw[hr0']at hr0 hcell;cases hr0 with
    |optr hρ2=>
     rw[hρ]at hρ2;cases hρ2;refine(uD b w hcell).mono ?_;rintro e w' ⟨rfl,rfl⟩;exact⟨_,_,_,n,ρ,rfl,⟨rfl,rfl,rfl⟩,m,BY.refl _ _ _,fr,hgn,.prim _⟩
   |_=>rw[hr0']at hr0;cases hr0
theorem kt (w:World)(g n:Nat)(hn:n≠0)(cur:Array Value)(T:Nat)(hg:w.heap[g]?=some (.cells cur T (0,0))):
  (w.freeze ⟨g,0,none⟩ n).heap.size=w.heap.size/\(w.freeze ⟨g,0,none⟩ n).os=w.os/\(w.freeze ⟨g,0,none⟩ n).tape=w.tape/\(w.freeze ⟨g,0,none⟩ n).output=w.output /\
  (∀k,k≠g->(w.freeze ⟨g,0,none⟩ n).heap[k]?=w.heap[k]?)/\∃(cs':Array Value) (fz':Nat×Nat),(w.freeze ⟨g,0,none⟩ n).heap[g]?=some (.cells cs' T fz')/\cs'.size=cur.size:=by
 unfold World.freeze;rw[AG hn];refine⟨by simp,rfl,rfl,rfl,λk hk=>?_,?_⟩
 ·dsimp only
  rw[Array.getElem?_modify,AG (λh=>hk h.symm)]
 ·dsimp only
  rw[Array.getElem?_modify,AI rfl,hg];exact⟨cur,_,rfl,rfl⟩
theorem d9u (g gb n:Nat)(l:List UInt8)(h0:l≠[])(p:D)(R:Hp):
  Cv C0 152 [.optr 1500 g 2 0 0] (⟨206,gb,5,1,Ga l⟩::GO g p (.osl 206 gb 1 0 l.length)::R) n (λd H' n'=>d=str ⟨l.toArray⟩/\H'=GO g p (.osl 206 gb 1 0 l.length)::R/\n'=n):=by
 refine⟨⟨_,_,Tryz.func152,rfl,by kernel_rfl⟩,λF ρ w vs m fr hgn hvs hr=>?_⟩;have hz:=hr 0 _ rfl;have h0':l.length≠0:=by simpa using h0
 rw[jb hvs];generalize hv:vs.getD 0 undef=v at hz;cases hz with
 |optr hρ=>
  rename_i b;obtain⟨cs,hc,q⟩:=m.at (e:=GO g p (.osl 206 gb 1 0 l.length)) (by simp) hρ;have hlen:2<=cs.size:=q.len;have hr1:AU ρ (AN F.X ρ (⟨206,gb,5,1,Ga l⟩::GO g p (.osl 206 gb 1 0 l.length)::R)) w (.osl 206 gb 1 0 l.length) (cs.getD 1 undef):=q.rep 0 _ 1 (.osl 206 gb 1 0 l.length) rfl rfl;generalize hs1:cs.getD 1 undef=sv at hr1;generalize hL:l.length=L at hr1;cases hr1 with
   |onil=>exact Ak hL h0'
   |osl hρ2 hb2 hc2 hs2 hm2=>
    rename_i cap gy T' cs2 fz2;obtain⟨cur,hcur,qy⟩:=m.at (e:=⟨206,gb,5,1,Ga l⟩) (by simp) hρ2;rw[hb2]at hcur;cases hcur;have hcap:cap=cs2.size:=by omega
    subst hcap;have hcell:∀(j:Nat) (x:UInt8),l[j]?=some x->cs2[j]?=some (.int .u8 x.toNat):=λj x hx=>by
     have hr:=qy.rep j (.prim (.int .u8 (x.toNat:Int))) 0 (.prim (.int .u8 (x.toNat:Int))) (by unfold Ga;rw[Az,hx];rfl) rfl;have hlt:j<cs2.size:=by
      have:=(BS.1 hx).1
      omega
     generalize hvv:cs2.getD (j*1+0) undef=vv at hr;cases hr;rw[B8 hlt]
     have:cs2.getD j undef=cs2[j]:=by simp[Array.getD,hlt]
     rw[EY,D6,this]at hvv;rw[hvv]
    have hb1:cs[1]?=some (.slice (some ⟨gy,0,none⟩) l.length cs2.size):=by
     have hlt:1<cs.size:=by omega
     rw[B8 hlt]
     have:cs.getD 1 undef=cs[1]:=by simp[Array.getD,hlt]
     rw[this]at hs1;rw[hs1,hL,Hl]
    refine(e0i b gy cs2 cs l h0 w hc hb1 hb2 (by omega) (by omega) hcell).mono ?_;rintro e w' ⟨rfl,rfl⟩;have md:=m.drew;obtain⟨f1,f2,f3,f4,f5,cs',fz',f6,f7⟩:=kt w.drew gy l.length h0' cs2 5 hb2;obtain⟨m1,x1⟩:=e1u (H1:=[]) (H2:=GO g p (.osl 206 gb 1 0 l.length)::R) (w':=w.drew.freeze ⟨gy,0,none⟩ l.length) md hρ2 f1 f2 f3 f4 f5 (λc hcc=>by
     have hb2':w.drew.heap[gy]?=some (.cells cs2 5 (0,0)):=hb2;have hcc':w.drew.heap[gy]?=some (.cells c 5 (0,0)):=hcc;rw[hb2']at hcc';cases hcc';exact⟨cs',fz',f6,f7⟩)
    rw[hL];rw[hL]at m1 x1;exact⟨_,_,_,n,ρ,rfl,⟨rfl,rfl,rfl⟩,m1,(BY.drew _ _ _).trans x1,fr,λe' he'=>hgn e' (by rw[hL];exact B9 _ he'),.prim _⟩
set_option maxRecDepth 20000
set_option maxHeartbeats 4000000
def bH (gb g:Nat)(p:D)(L:List UInt8)(R:Hp):Hp:=EG 206 gb 5 1 (Ga L)++(GO g p (EL 206 gb 1 (Ga L))::R)
theorem nJ (s:List UInt8):JB (sb s)=Ga s:=rfl
theorem O2 (l:List UInt8):(Ga l).length=l.length:=Ae ..
theorem nI (a b:List UInt8):Ga (a++b)=Ga a++Ga b:=DA
theorem ZV {l:List UInt8}(h:l≠[]):∃x r,Ga l=x::r:=by
 cases l with
 |nil=>exact Ak rfl h
 |cons a l=>exact⟨_,_,rfl⟩
theorem jq (g gb n:Nat)(p:D)(hp:p=.prim (.pointer none)\/p=.optr 1500 g 2 0 0)(L s:List UInt8)(hs:s≠[])(R:Hp)(hlen:L.length+s.length<=100000000):
  Cv C0 151 [.optr 1500 g 2 0 0,str (sb s)] (bH gb g p L R) n (λd H' n'=>(∃g',H'=bH g' g (.optr 1500 g 2 0 0) (L++s) R)/\n<=n'):=by
 refine Cv.walk w1 fO rfl λF=>?_
 have hsz:=Cx s;have hb:=nJ s;obtain⟨x,r,hx⟩:=ZV hs;have hr:s.length=r.length+1:=by rw[<-O2,hx];rfl
 unfold bH;rw[nI];cases hL:Ga L with
 |nil=>
  dsimp only[IW,IX,List.nil_append];refine AH AW kB AB AB AB AB AB AB ?_;refine BE.own _ (jc g _ Cd p [] R hp) ?_;rintro d H' n' ⟨rfl,rfl,rfl⟩;have hL0:L.length=0:=by rw[<-O2,hL];rfl
  refine AH AW (Ab hsz hb) AB AB AB AB AB AB ?_;refine⟨?_,by omega⟩;apply Exists.intro;rw[hx,hr];rfl
 |cons y l=>
  dsimp only[Gu,Gv,List.cons_append,List.nil_append];have hL1:L.length=l.length+1:=by rw[<-O2,hL];rfl
  have htk:List.take (l.length+1) (y::l)=y::l:=by simp
  refine AH AW kB AB AB AB AB AB AB ?_;refine BE.own _ (jc g _ (.osl 206 gb 1 0 (l.length+1)) p [⟨206,gb,5,1,y::l⟩] R hp) ?_;rintro d H' n' ⟨rfl,rfl,rfl⟩;refine AH AW (Ar hsz hb htk) AB AB AB AB AB AB ?_;refine⟨?_,by omega⟩;apply Exists.intro;have hap:y::l++Ga s=y::(l++Ga s):=rfl;have hl2:(l++Ga s).length+1=l.length+1+s.length:=by rw[Be,O2];omega
  rw[hl2]
open Go.Sort Go.Shelf
section
open Go.Lib
set_option maxHeartbeats 6400000 in
set_option maxRecDepth 100000 in
theorem e0q (u:Nat) (hu64:u<18446744073709551616) (w:World) (htab:Lib.TabIs Tryz.prog w "internal/strconv.uint64pow10" .u64 Lib.pow10Tab):
  Calls Tryz.prog 204 #[.int .u64 u,.int .i64 10] w λe w'=>e=.returned (.string ⟨(Lib.decDigits u).toArray⟩)/\∃k os,w'=grow (w.drewN k) os:=by
 have e283:∀args w,(callFunc 235 args).run Tryz.prog w=.ok (.enter 235 args) w:=enters_of Tryz.func235 (by kernel_rfl) rfl;have e284:∀args w,(callFunc 236 args).run Tryz.prog w=.ok (.enter 236 args) w:=enters_of Tryz.func236 (by kernel_rfl) rfl;have e285:∀args w,(callFunc 237 args).run Tryz.prog w=.ok (.enter 237 args) w:=enters_of Tryz.func237 (by kernel_rfl) rfl
 by_cases hs:u<100
 ·go_enter Tryz.func204,Tryz.ntmps204
  go_wp2_with (go_at_fn 235;refine(Tryz.internal_strconv_small u hs _).mono ?_;rintro e w' ⟨rfl,rfl⟩)
  go_ret
  exact⟨rfl,0,#[],by simp[World.drewN_zero]⟩
 ·have hu1:1<=u:=by omega
  have hnd20:Lib.nDigits u<=20:=by have:=Lib.numDigits_eq u hu1 hu64;split at this<;>omega
  have hb3:Lib.nDigits u<=24:=by omega
  have hal:Tryz.prog.arrayLen 262=24:=by kernel_rfl
  have hsl1:∀W,(Instr.sliceAt 262 (.pointer (some ⟨w.heap.size,0,none⟩)) none (some (.int .i64 (Lib.nDigits u:Int))) none).run Tryz.prog W=.ok (.slice (some ⟨w.heap.size,0,none⟩) (Lib.nDigits u) 24) W:=λW=>by
   rw[run_sliceAt_array_h W 262 ⟨w.heap.size,0,none⟩ (by kernel_rfl) .i64 (Lib.nDigits u:Int) (by omega) (by rw[hal];omega)]
   go_simp
  have hH0:=Lib.holds_zero0 w 262 (Lib.nDigits u) (by omega);have hfmt:=Tryz.internal_strconv_formatBase10 w.heap.size 0 24 u (Array.replicate (Lib.nDigits u) 0) (w.alloc (.cells Lib.zeros24 262)) hH0 (by rw[TZ];exact Lib.lt_pow_nDigits u) hu64 (by rw[TZ];omega);rw[TZ]at hfmt;have HH0:=Lib.hid hH0;clear hH0 hal
  go_enter Tryz.func204,Tryz.ntmps204
  go_wp2_with (first
   |(go_at_fn 236;refine(Tryz.internal_strconv_numDigits u hu1 hu64 _ (Lib.tabIs_alloc htab _)).mono ?_;rintro e w' ⟨rfl,rfl⟩))
  go_at_fn 237
  refine hfmt.mono ?_;rintro e w' ⟨rfl,k,v',dk,rfl,hF⟩;have hcv:(convert 196 9 (.slice (some ⟨w.heap.size,0,none⟩) (Lib.nDigits u) 24)).run Tryz.prog ((putRow (λ(b:UInt8)=>Value.int .u8 (b.toNat:Int)) (w.alloc (.cells Lib.zeros24 262)) w.heap.size 0 dk).drewN k)=.ok (.string ⟨(Lib.decDigits u).toArray⟩) ((putRow (λ(b:UInt8)=>Value.int .u8 (b.toNat:Int)) (w.alloc (.cells Lib.zeros24 262)) w.heap.size 0 dk).drewN k):=by
   have h:=run_convert_bytes_back (P:=Tryz.prog) ((putRow (λ(b:UInt8)=>Value.int .u8 (b.toNat:Int)) (w.alloc (.cells Lib.zeros24 262)) w.heap.size 0 dk).drewN k) 196 9 5 ⟨w.heap.size,0,none⟩ 24 (Lib.decDigits u) (by kernel_rfl) (by kernel_rfl) (by kernel_rfl) (λj hj=>by
    rw[Lib.row_is_numeral hF j hj,Lib.add_plain,World.cell?_drewN];exact cell?_putRow (λ(b:UInt8)=>Value.int .u8 (b.toNat:Int)) _ w.heap.size 0 _ dk HH0.out (by rw[hF.size,TZ]) j (by rw[hF.size];rw[Lib.decDigits_length]at hj;exact hj))
   rw[Lib.decDigits_length]at h;exact h
  go_wp2
  go_ret
  obtain⟨os,eo⟩:=Lib.fin_at w (.cells Lib.zeros24 262) dk k 0;exact⟨rfl,k,os,eo⟩
end
theorem mA {O:Nat->Prop}{w:World}{v u:Value}{vs:Array Value}(hn:vs.size=2)(h:∀(i:Nat) (x:D),[D.prim v,.prim u][i]?=some x->AU nol O w x (vs.getD i undef)):vs = #[v,u]:=by
 match vs,hn with
 |⟨[a,b]⟩,_=>
  have h0:=h 0 _ rfl;have h1:=h 1 _ rfl;simp at h0 h1;cases h0;cases h1;rfl
theorem rS (u:Nat)(hu:u<18446744073709551616):AL C0 204 [.prim (.int .u64 (u:Int)),i64 10] (str ⟨(Lib.decDigits u).toArray⟩):=by
 refine⟨⟨_,_,Tryz.func204,rfl,by kernel_rfl⟩,λY w vs hG hnG hX hvs hr=>?_⟩
 have:=mA hvs hr
 subst this;refine(e0q u hu w hG).mono ?_;rintro e w' ⟨rfl,k,os,rfl⟩;exact⟨_,_,rfl,Lib.below_grow _ _ (An _) _ _,rfl,.prim _⟩
theorem vI (u:Nat)(hu:u<18446744073709551616):AL C0 149 [.prim (.int .u64 (u:Int)),i64 10] (str ⟨(Lib.decDigits u).toArray⟩):=by
 refine Ad.walk w1 fN rfl λF=>?_
 refine AH AW kB (rS u hu) AB AB AB AB AB ?_;exact AM rfl AA.out
theorem rp0:AL C0 150 [str ⟨#[48]⟩,i64 0] (str ⟨#[]⟩):=Cb D5 400 20
theorem rp1:AL C0 150 [str ⟨#[48]⟩,i64 1] (str ⟨#[48]⟩):=Cb D5 400 20
theorem rp2:AL C0 150 [str ⟨#[48]⟩,i64 2] (str ⟨#[48,48]⟩):=Cb D5 400 20
theorem rp3:AL C0 150 [str ⟨#[48]⟩,i64 3] (str ⟨#[48,48,48]⟩):=Cb D5 400 20
theorem rp4:AL C0 150 [str ⟨#[48]⟩,i64 4] (str ⟨#[48,48,48,48]⟩):=Cb D5 400 20
theorem rp5:AL C0 150 [str ⟨#[48]⟩,i64 5] (str ⟨#[48,48,48,48,48]⟩):=Cb D5 400 20
theorem rp6:AL C0 150 [str ⟨#[48]⟩,i64 6] (str ⟨#[48,48,48,48,48,48]⟩):=Cb D5 400 20
theorem rp7:AL C0 150 [str ⟨#[48]⟩,i64 7] (str ⟨#[48,48,48,48,48,48,48]⟩):=Cb D5 400 20
theorem rp8:AL C0 150 [str ⟨#[48]⟩,i64 8] (str ⟨#[48,48,48,48,48,48,48,48]⟩):=Cb D5 400 20
theorem rp9:AL C0 150 [str ⟨#[48]⟩,i64 9] (str ⟨#[48,48,48,48,48,48,48,48,48]⟩):=Cb D5 400 20
theorem e0S:AL C0 150 [str ⟨#[48]⟩,i64 10] (str ⟨#[48,48,48,48,48,48,48,48,48,48]⟩):=Cb D5 400 20
theorem e0T:AL C0 150 [str ⟨#[48]⟩,i64 11] (str ⟨#[48,48,48,48,48,48,48,48,48,48,48]⟩):=Cb D5 400 20
theorem e0U:AL C0 150 [str ⟨#[48]⟩,i64 12] (str ⟨#[48,48,48,48,48,48,48,48,48,48,48,48]⟩):=Cb D5 400 20
theorem e0V:AL C0 150 [str ⟨#[48]⟩,i64 13] (str ⟨#[48,48,48,48,48,48,48,48,48,48,48,48,48]⟩):=Cb D5 400 20
theorem e0W:AL C0 150 [str ⟨#[48]⟩,i64 14] (str ⟨#[48,48,48,48,48,48,48,48,48,48,48,48,48,48]⟩):=Cb D5 400 20
theorem e0X:AL C0 150 [str ⟨#[48]⟩,i64 15] (str ⟨#[48,48,48,48,48,48,48,48,48,48,48,48,48,48,48]⟩):=Cb D5 400 20
theorem e0Y:AL C0 150 [str ⟨#[48]⟩,i64 16] (str ⟨#[48,48,48,48,48,48,48,48,48,48,48,48,48,48,48,48]⟩):=Cb D5 400 20
theorem e0Z:AL C0 150 [str ⟨#[48]⟩,i64 17] (str ⟨#[48,48,48,48,48,48,48,48,48,48,48,48,48,48,48,48,48]⟩):=Cb D5 400 20
theorem sU (n:Nat)(h:n<=17):AL C0 150 [str ⟨#[48]⟩,i64 (n:Int)] (str ⟨(List.replicate n 48).toArray⟩):=by
 match n,h with
 | 0,_=>exact rp0
 | 1,_=>exact rp1
 | 2,_=>exact rp2
 | 3,_=>exact rp3
 | 4,_=>exact rp4
 | 5,_=>exact rp5
 | 6,_=>exact rp6
 | 7,_=>exact rp7
 | 8,_=>exact rp8
 | 9,_=>exact rp9
 | 10,_=>exact e0S
 | 11,_=>exact e0T
 | 12,_=>exact e0U
 | 13,_=>exact e0V
 | 14,_=>exact e0W
 | 15,_=>exact e0X
 | 16,_=>exact e0Y
 | 17,_=>exact e0Z
 |n+18,h=>omega
theorem rW {H Hf r r':Hp}{K g T sz:Nat}{l:List D}(h:C3 H Hf r r'):C3 H Hf (EG K g T sz l++r) r':=by
 cases l with
 |nil=>exact h
 |cons x l=>exact .drop h
set_option maxHeartbeats 8000000
def Gf (q r:Nat):List UInt8:=if q=0 then Lib.decDigits r else List.replicate (18-(Lib.decDigits r).length) 48++Lib.decDigits r
theorem Zt:Lib.decDigits 0=[48]:=by unfold Lib.decDigits;rfl
theorem Pj (n:Nat):Lib.decDigits n≠[]:=(E6 n).2.2
theorem qA (q r:Nat):Gf q r≠[]:=by
 unfold Gf;split
 ·exact Pj r
 ·intro h;exact Pj r (List.append_eq_nil_iff.1 h).2
theorem nk {q r:Nat}(hq:q≠0):Gf q r=Fd 18 r []:=by
 unfold Gf Fd M1;rw[AG hq]
 by_cases h:r=0
 ·subst h;rw[Zt,AI rfl];rfl
 ·rw[AG h,Dh]
theorem oo (B q r:Nat)(hB:B=10^18)(hr:r<B):Lib.decDigits (q*B+r)=if q=0 then Gf q r else Lib.decDigits q++Gf q r:=by
 by_cases hq:q=0
 ·subst hq;rw[AI rfl];unfold Gf;rw[AI rfl,Hl,BW]
 ·rw[AG hq,nk hq,hB]
  exact U4 18 q r hq (by rw[<-hB];exact hr)
def Ep (P:List (List UInt8)):List UInt8:=P.reverse.flatten
theorem YP (P:List (List UInt8))(p:List UInt8):Ep (P++[p])=p++Ep P:=by unfold Ep;simp
theorem WL (a b:List UInt8):sb a++sb b=sb (a++b):=by
 apply ByteArray.ext;simp[ByteArray.data_append]
theorem nT {P:List (List UInt8)}(h:∀p∈P,p≠[]):P.length<=(Ep P).length:=by
 unfold Ep;rw[List.length_flatten,<-List.length_reverse];generalize hQ:P.reverse=Q;have h':∀p∈Q,p≠[]:=λp hp=>h p (by rw[<-hQ]at hp;exact List.mem_reverse.1 hp)
 clear hQ h
 induction Q with
 |nil=>exact An _
 |cons a r ih=>
  have h1:=ih λp hp=>h' p (B9 _ hp)
  have h2:a.length≠0:=λq=>h' a B1 (FC q)
  rw[Ci,List.sum_cons,Br];omega
structure Ns (n m:Nat)(P:List (List UInt8)):Prop where
 ne:m≠0->Lib.decDigits n=Lib.decDigits m++Ep P
 eq:m=0->Lib.decDigits n=Ep P
 all:∀p∈P,p≠[]
 le:m<=n
theorem Ns.len {n m:Nat}{P:List (List UInt8)}(h:Ns n m P):P.length<=(Lib.decDigits n).length:=by
 have h1:=nT h.all
 by_cases q:m=0
 ·rw[h.eq q];exact h1
 ·rw[h.ne q,Be];omega
theorem Ns.step {n m:Nat}{P:List (List UInt8)}{B:Nat}(h:Ns n m P)(hm:m≠0)(hB:B=10^18):Ns n (m/B) (P++[Gf (m/B) (m%B)]):=by
 have hB0:0<B:=by rw[hB];decide
 have hd:=oo B (m/B) (m%B) hB (CI _ hB0);rw[show m/B*B+m%B=m by rw[Ba];exact FG m B]at hd;have hn:=h.ne hm;rw[hd]at hn;refine⟨λq=>?_,λq=>?_,λp hp=>?_,BV (GQ _ _) h.le⟩
 ·rw[AG q]at hn;rw[hn,YP,Dt]
 ·rw[AI q]at hn;rw[hn,YP]
 ·rcases Bn.1 hp with hp|hp
  ·exact h.all p hp
  ·rw[Dz]at hp;subst hp;exact qA _ _
abbrev F7 (P:List (List UInt8)):List D:=P.map λp=>str (sb p)
theorem Uz (x:GI)(h:x.wf)(hf:x.few):AL C0 113 [x.D] (str (sb (Lib.itoa x.z))):=by
 refine Ad.walk w1 dJ rfl λF=>?_
 obtain⟨z,sm⟩:=x;obtain⟨h1,h2⟩:=h;have hp:=KJ ⟨z,sm⟩ ⟨h1,h2⟩;dsimp only[GI.D,GI.few]at*;cases sm with
 |true=>
  obtain⟨h3,h4⟩:=h1 rfl;have c:AL C0 146 [i64 z] (str (sb (Lib.itoa z))):=sf z h3 (by omega);unfold GI.s GI.w;dsimp only;refine AH AW kB c AB AB AB AB AB ?_;exact AM rfl AA.out
 |false=>
  have hz:=h2 rfl;have hz0:z.natAbs≠0:=λq=>hz (by obtain rfl:z=0:=(by omega);exact yL rfl)
  have hw:GI.w ⟨z,false⟩=wD z.natAbs:=rfl;have hs:GI.s ⟨z,false⟩=if z<0 then -1 else 1:=rfl
  rw[hw]at hp⊢;obtain⟨sg,hsg⟩:∃s,GI.s ⟨z,false⟩=s:=⟨_,rfl⟩
  rw[hsg]at hp⊢;obtain⟨B,hB⟩:∃B:Nat,B=10^18:=⟨_,rfl⟩
  have hB1:B<BB:=by rw[hB];decide
  have hB0:B≠0:=by rw[hB];decide
  have hB2:1<B:=by rw[hB];decide
  have hBs:u64 1000000000000000000=AS B:=by rw[hB];rfl
  have hBl:Af B=[B]:=NM hB0 hB1;obtain⟨n,hn⟩:∃n,z.natAbs=n:=⟨_,rfl⟩
  obtain⟨neg,hneg⟩:∃b,decide (z<0)=b:=⟨_,rfl⟩
  rw[hn]at hp hf hz0⊢;rw[hneg]at hp;have hit:Lib.itoa z=(if neg then[45]else[])++Lib.decDigits n:=by
   unfold Lib.itoa
   by_cases q:z<0
   ·rw[AI q,<-hneg,Ax q,hn];rfl
   ·rw[AG q,<-hneg,A8 q,<-hn]
    have:z.toNat=z.natAbs:=by omega
    rw[this];rfl
  rw[hit];have hDL:(Lib.decDigits n).length<=27*1000000+1:=Nk (k:=1000000) (by omega);have hmpos:∀m:Nat,m≠0->decide ((((Af m).map AS).length:Int)>0)=true:=λm hm=>Ax (by
   rw[Gw hm,Ci,Br];omega)
  have hm0:decide ((((Af 0).map AS).length:Int)>0)=false:=A8 (by rw[GX];decide);obtain⟨w0,ws,hws⟩:∃a l,(Af n).map AS=a::l:=by
   cases hl:(Af n).map AS with
   |nil=>exact Ak hl (IY hz0)
   |cons a l=>exact⟨a,l,rfl⟩
  have hwD:wD n=.sl false 1 (w0::ws):=by unfold wD wL;rw[hws]
  have hbD:wD B=.sl false 1 [u64 1000000000000000000]:=by unfold wD wL;rw[hBl,hBs];rfl
  have pw:AA (.sl false 1 (w0::ws)):=by rw[<-hwD];exact AJ
  rw[hwD]at hp⊢;clear hit h1 h2 hz hs hsg;have hne:(w0::ws≠[])=True:=eq_true (List.cons_ne_nil _ _);refine AH AW hne hp AB AB AB AB AB ?_;rw[<-hwD];refine AC.loop (α:=Nat×List (List UInt8)×Nat×Nat) (λp=>⟨[(3,Ap neg),(4,wD p.1),(5,wD B),(6,EL 1303 p.2.2.1 1 (F7 p.2.1))],EG 1303 p.2.2.1 9 1 (F7 p.2.1),p.2.2.2⟩) (λp=>p.1)
   (λp=>Ns n p.1 p.2.1) (n,[],0,_) ⟨λ_=>by unfold Ep;simp,λq=>Ak q hz0,λp hp=>Ak hp Dv,An _⟩ (by refine⟨.drop .nil,⟨.refl _,.refl _,?_,.refl _,trivial⟩,An _⟩;dsimp only;rw[hbD];exact .nn true 1 _) ?_
  rintro⟨m,P,g,cnt⟩ F I;dsimp only at I⊢;have hPl:=I.len;rcases Nat.decEq m 0 with hm|hm
  rotate_left
  ·subst hm
   have hdn:=I.eq rfl;have hall:=I.all;have hLn:P.length<=27000001:=by omega
   have hP0:P≠[]:=λq=>Pj n (by rw[hdn,q];rfl)
   obtain⟨N,hN⟩:∃N,P.length=N:=⟨_,rfl⟩
   have hN0:N≠0:=λq=>hP0 (FC (by omega))
   rw[hdn];clear hwD hbD pw hp hn hPl I;have elP:(((F7 P).length:Nat):Int)=(N:Int):=by rw[Ae,hN]
   have wN:IntKind.i64.wrap ((N:Int)-1)=((N:Int)-1):=wI;refine AC.seq ?_;refine sZ 600 ?_;refine AV hm0 ?_;refine AO ?_;refine CO ?_;refine AC.weak ⟨[(3,Ap neg),(6,.sl false 1 (F7 P))],[],_⟩ ⟨?_,⟨.refl _,?_,trivial⟩,An _⟩ ?_
   ·have:=rW (K:=1303) (g:=g) (T:=9) (sz:=1) (l:=F7 P) (r:=[]) (r':=[]) (H:=EG 1303 g 9 1 (F7 P)) (Hf:=[]) .nil
    rwa [Dh]at this
   ·exact SU _ _ _ _ _
   obtain⟨c0,hc0⟩:∃c,c=cnt+1+1+1:=⟨_,rfl⟩
   rw[<-hc0];refine sR 1500 ?_;obtain⟨c1,hc1⟩:∃c,c=c0+1:=⟨_,rfl⟩
   refine DL (α:=D×Nat×Nat) (λq=>⟨[(6,.sl false 1 (F7 P)),(10,.optr 1500 c0 2 0 0)],bH q.2.1 c0 q.1 (if neg then[45]else[]) [],q.2.2⟩) (λq=>q.1=.prim (.pointer none)\/q.1=.optr 1500 c0 2 0 0) ?_ ?_
   ·cases neg
    ·refine AH AW kB AB AB AB AB AB AB ?_
     exact⟨by trivial,(.prim (.pointer none),0,_),.inl rfl,AK⟩
    ·refine AH AW kB AB AB AB AB AB AB ?_
     refine BE.own _ (jq c0 0 _ (.prim (.pointer none)) (.inl rfl) [] [45] (by decide) [] (by decide)) ?_;rintro d H' n' ⟨⟨g',rfl⟩,hn'⟩;refine BR ?_;exact⟨by trivial,(.optr 1500 c0 2 0 0,g',_),.inr rfl,AK⟩
   rintro⟨p0,gb0,c2⟩ hp0;dsimp only at hp0⊢;obtain⟨pre,hpre⟩:∃l,(if neg then[45]else[]:List UInt8)=l:=⟨_,rfl⟩
   have hpl:pre.length<=1:=by rw[<-hpre];split<;>decide
   rw[hpre];refine AH AW (Ab elP @wN) AB AB AB AB AB AB ?_;refine AC.loop (α:=Nat×D×Nat×Nat) (λq=>⟨[(6,.sl false 1 (F7 P)),(10,.optr 1500 c0 2 0 0),(11,i64 ((q.1:Int)-1))],bH q.2.2.1 c0 q.2.1 (pre++Ep (P.drop q.1)) [],q.2.2.2⟩) (λq=>q.1)
    (λq=>q.1<=N/\(q.2.1=.prim (.pointer none)\/q.2.1=.optr 1500 c0 2 0 0)) (N,p0,gb0,_) ⟨An _,hp0⟩ (by dsimp only;rw[<-hN,J5];unfold Ep;rw[List.reverse_nil,List.flatten_nil,Dh];exact AK) ?_
   rintro⟨k,p,gb,c3⟩ F ⟨hk,hp⟩;dsimp only at hk hp⊢;have hjl:∀k,(Ep (P.drop k)).length<=(Ep P).length:=λk=>by
    unfold Ep
    conv=>rhs;rw[<-FB k P]
    rw[List.reverse_append,List.flatten_append,Be];omega
   have hjP:(Ep P).length<=27000001:=by rw[<-hdn];omega
   rcases EC k with hk0|hk0
   ·subst hk0
    have e1:decide ((((0:Nat):Int)-1)>=0)=false:=by decide
    rw[GR];have hL:pre++Ep P≠[]:=λq=>by
     have:=(List.append_eq_nil_iff.1 q).2
     rw[<-hdn]at this;exact Pj n this
    obtain⟨L,hLL⟩:∃L,pre++Ep P=L:=⟨_,rfl⟩
    rw[hLL]at hL⊢;obtain⟨y,r,hy⟩:=ZV hL;have hlr:L.length=r.length+1:=by rw[<-O2,hy];rfl
    refine AH AW e1 AB AB AB AB AB AB ?_;refine BE.own _ (by
     have:=λn=>d9u c0 gb n L hL p []
     unfold bH;simp only[hy,hlr]at this⊢;exact this _) ?_
    rintro d H' n' ⟨rfl,rfl,rfl⟩;refine AH AW kB AB AB AB AB AB AB ?_;exact AM rfl AA.out
   ·obtain⟨k',rfl⟩:∃k',k=k'+1:=⟨k-1,by omega⟩
    have e1:decide ((((k'+1:Nat):Int)-1)>=0)=true:=BX;have e2:(((k'+1:Nat):Int)-1)=(k':Int):=by omega
    have wk:IntKind.i64.wrap ((k':Int)-1)=((k':Int)-1):=wI;have e3:decide ((k':Int)>=0)=true:=BX;obtain⟨t,ht⟩:∃t,P[k']?=some t:=CJ (by omega);have hm:(F7 P)[k']?=some (str (sb t)):=by rw[Az,ht];rfl
    have htn:=hall t (Au ht);have hdr:P.drop k'=t::P.drop (k'+1):=by
     rw[Ey (BS.1 ht).1,(BS.1 ht).2]
    have hj:pre++Ep (P.drop k')=pre++Ep (P.drop (k'+1))++t:=by
     rw[hdr,Dt]
     congr 1
     unfold Ep;rw[List.reverse_cons,List.flatten_append];simp
    have hlt:(pre++Ep (P.drop (k'+1))).length+t.length<=100000000:=by
     have h1:=hjl k';have h2:(pre++Ep (P.drop k')).length=(pre++Ep (P.drop (k'+1))).length+t.length:=by rw[hj,Be]
     rw[<-h2,Be];omega
    rw[e2];refine AH AW (Ab e3 kN) hm AB AB AB AB AB ?_;refine BE.own _ (jq c0 gb _ p hp (pre++Ep (P.drop (k'+1))) t htn [] hlt) ?_;rintro d H' n' ⟨⟨g',rfl⟩,hn'⟩;refine BR ?_;refine AH AW wk AB AB AB AB AB AB ?_;exact⟨(k',.optr 1500 c0 2 0 0,g',_),⟨by dsimp only;omega,.inr rfl⟩,by dsimp only;omega,by(dsimp only;rw[hj];exact AK)⟩
  have e1:=hmpos m hm;have c1:=je m B hB0 (Da (IS m n I.le) hf) (by rw[hBl];show 1<1000000;decide);have I2:=I.step hm hB;obtain⟨q,hq⟩:∃q,m/B=q:=⟨_,rfl⟩
  obtain⟨r,hr⟩:∃q,m%B=q:=⟨_,rfl⟩
  have hqm:q<m:=by rw[<-hq];exact Ir (EX hm) hB2
  have hrB:r<B:=by rw[<-hr];exact CI _ (EX hB0)
  rw[hq,hr]at c1 I2;have hsz:=Cx (Lib.decDigits r);have hdl:(Lib.decDigits r).length<=18:=MB 17 r (by rw[hB]at hrB;exact hrB);have hdl1:(Lib.decDigits r).length≠0:=λh=>Pj r (FC h)
  refine AH AW e1 AB AB AB AB AB AB ?_;refine cI c1 ?_;refine sR 800 ?_;refine DL (α:=Nat) (λcnt=>⟨[(3,Ap neg),(5,wD B),(6,EL 1303 g 1 (F7 P)),(7,wD q),(9,str (sb (Lib.decDigits r)))],EG 1303 g 9 1 (F7 P),cnt⟩) (λ_=>True) ?_ ?_
  ·rcases Nat.decEq r 0 with h0|h0
   ·have e2:=hmpos r h0
    have hl1:Af r=[r]:=NM h0 (Gk hrB hB1);have hmm:((Af r).map AS)[0]?=some (u64 (r:Int)):=by rw[hl1];rfl
    have c2:=vI r (Gk hrB hB1);refine AH AW e2 hmm c2 AB AB AB AB ?_;exact⟨by trivial,_,trivial,AK⟩
   ·subst h0
    rw[Zt];refine AH AW hm0 AB AB AB AB AB AB ?_;exact⟨by trivial,_,trivial,AK⟩
  rintro cnt2 -;refine DL (α:=Nat) (λcnt=>⟨[(3,Ap neg),(5,wD B),(6,EL 1303 g 1 (F7 P)),(7,wD q),(9,str (sb (Gf q r)))],EG 1303 g 9 1 (F7 P),cnt⟩) (λ_=>True) ?_ ?_
  ·rcases Nat.decEq q 0 with h0|h0
   ·have e2:=hmpos q h0
    have c2:AL C0 150 [str ⟨#[48]⟩,i64 ((18-(Lib.decDigits r).length:Nat):Int)] (str (sb (List.replicate (18-(Lib.decDigits r).length) 48))):=sU (18-(Lib.decDigits r).length) (by omega);have w18:IntKind.i64.wrap (18-((Lib.decDigits r).length:Int))=((18-(Lib.decDigits r).length:Nat):Int):=by rw[wI];omega
    have hap:=WL (List.replicate (18-(Lib.decDigits r).length) 48) (Lib.decDigits r);have hsz2:=Cx (List.replicate (18-(Lib.decDigits r).length) 48);have hpt:List.replicate (18-(Lib.decDigits r).length) 48++Lib.decDigits r=Gf q r:=by unfold Gf;rw[AG h0]
    rw[hpt]at hap;have hsize:(sb (List.replicate (18-(Lib.decDigits r).length) 48)).size+(sb (Lib.decDigits r)).size<=9223372036854775807:=by
     rw[hsz,hsz2,JR];omega
    refine AH AW (Bb e2 hsz w18 hap) c2 AB AB AB AB AB ?_;exact⟨by trivial,_,trivial,AK⟩
   ·subst h0
    have hpt:Gf 0 r=Lib.decDigits r:=AI rfl;rw[hpt];refine AH AW hm0 AB AB AB AB AB AB ?_;exact⟨by trivial,_,trivial,AK⟩
  rintro cnt3 -;have hsn:F7 (P++[Gf q r])=F7 P++[str (sb (Gf q r))]:=by unfold F7;rw[DA];rfl
  have hPL:(F7 P).length=P.length:=Ae ..;rcases hPD:F7 P with _|⟨y,l⟩
  all_goals
   rw[hPD]at hsn hPL;dsimp only[IW,IX,Gu,Gv,List.nil_append]
  ·refine AH AW kB AB AB AB AB AB AB ?_
   exact⟨(q,P++[Gf q r],_,_),I2,hqm,by(dsimp only;rw[hsn];exact AK)⟩
  ·have htk:List.take (l.length+1) (y::l)=y::l:=by simp
   have hll:l.length+1<=27000001:=by rw[Br]at hPL;omega
   refine AH AW htk AB AB AB AB AB AB ?_;exact⟨(q,P++[Gf q r],_,_),I2,hqm,by(dsimp only;rw[hsn,O0];exact AK)⟩
abbrev aY:Dr:=[(3,[0,1,2,3,4,5,6],[7,8])]
open Go.Proofs Go.RowKit
set_option maxRecDepth 20000
set_option maxHeartbeats 4000000
theorem qX (x:Nat)(hx:x<BB):AL C0 162 [AS x] (i64 (Lib.bitLen x:Int)):=by
 refine⟨⟨_,_,Tryz.func162,rfl,by kernel_rfl⟩,λY w vs hG hnG hX hvs hr=>?_⟩
 have:=RP hvs hr
 subst this;refine(Tryz.bits_Len64 x w (by omega) (by unfold BB at hx;omega)).mono ?_;rintro e w' ⟨rfl,rfl⟩;exact⟨_,_,rfl,.refl _ _,rfl,.prim _⟩
def Fk (n:Nat):Nat:=(Af n).getD ((Af n).length-1) 0
def JG (n:Nat):Nat:=if n=0 then 0 else 64*((Af n).length-1)+Lib.bitLen (Fk n)
theorem rf (n:Nat):n<2^JG n:=by
 unfold JG
 by_cases h:n=0
 ·subst h;rw[AI rfl];decide
 ·rw[AG h]
  have hl:(Af n).length≠0:=λq=>by
   have:=Gw h
   rw[this]at q;simp at q
  obtain⟨k,hk⟩:∃k,(Af n).length=k+1:=⟨(Af n).length-1,by omega⟩
  have hat:(Af n)[k]?=some (Fk n):=by
   unfold Fk;rw[hk,JT,ED,Cu];rfl
  have hv:=LU hat;rw[IK (by omega),Fc]at hv;have ht:Fk n<BB:=F3 n _ (Au hat);have h1:AT ((Af n).take k)<BB^k:=by
   have:=IV (l:=(Af n).take k) λa ha=>F3 n a (E3 ha)
   rwa [Bd,Ft (by omega)]at this
  have h2:Fk n<2^Lib.bitLen (Fk n):=by
   by_cases t0:Fk n=0
   ·rw[t0];exact Hk _
   ·exact(Lib.bitLenAux_bounds 64 (Fk n) ht t0).2.2
  have h3:BB^k=2^(64*k):=by rw[Nat.pow_mul]
  rw[hk,JT,Gl,<-h3];have h4:n=AT ((Af n).take k)+BB^k*Fk n:=by simpa[AT]using hv
  have h5:BB^k*(Fk n+1)<=BB^k*2^Lib.bitLen (Fk n):=Cs _ h2;rw[BO,EY]at h5;omega
def KY (n:Nat):Bool:=decide (600<(Lib.decDigits n).length)
theorem nW (n:Nat):KY n=(decide (JG n>1800)&&KY n):=by
 by_cases h:JG n>1800
 ·rw[Ax h,HI]
 ·rw[A8 h,II]
  have key:∀k,JG n<=3*(k+1)->(Lib.decDigits n).length<=k+1:=λk hk=>MB k n (Cq (rf n) (BV (FT (by decide) hk) (by rw[Nat.pow_mul];exact Oe (by decide) (k+1))))
  have h4:=key 599 (by omega);exact Bc
theorem u9 (x:GI)(h:x.wf)(hf:x.few):AL C0 144 [x.D] (i64 (JG x.z.natAbs:Nat)):=by
 refine Ad.walk w1 fH rfl λF=>?_
 have c1:=KJ x h;obtain⟨n,hn⟩:∃n,x.z.natAbs=n:=⟨_,rfl⟩
 unfold GI.few at hf;rw[hn]at c1 hf⊢;have el:((((Af n).map AS).length:Nat):Int)=((Af n).length:Int):=by rw[Ae]
 unfold wD wL at c1;dsimp only[GI.D]at c1⊢
 by_cases h0:n=0
 ·have e1:(((Af n).length:Int)==0)=true:=by rw[h0,GX];rfl
  have hb:JG n=0:=AI h0;rw[hb];refine AH AW (Ab e1 el) c1 AB AB AB AB AB ?_;exact AM rfl AA.out
 ·have hl:(Af n).length≠0:=λq=>by
   have:=Gw h0
   rw[this]at q;simp at q
  have e1:(((Af n).length:Int)==0)=false:=e0j hl;have wl:IntKind.i64.wrap (((Af n).length:Int)-1)=(((Af n).length-1:Nat):Int):=by rw[wI];omega
  have wm:IntKind.i64.wrap (64*(((Af n).length-1:Nat):Int))=((64*((Af n).length-1):Nat):Int):=by rw[wI];omega
  have hat:(Af n)[(Af n).length-1]?=some (Fk n):=by
   unfold Fk;rw[ED,Cu];rfl
  have hm:((Af n).map AS)[(Af n).length-1]?=some (u64 (Fk n:Int)):=by rw[Az,hat];rfl
  have ht:Fk n<BB:=F3 n _ (Au hat);have c2:=qX (Fk n) ht;have hbl:=Lib.bitLen_le (Fk n) 64 (An _) ht;have wa:IntKind.i64.wrap (((64*((Af n).length-1):Nat):Int)+(Lib.bitLen (Fk n):Int))=((JG n:Nat):Int):=by
   have hb:JG n=64*((Af n).length-1)+Lib.bitLen (Fk n):=AG h0;rw[hb,wI];omega
  refine AH AW (EP e1 el wl wm wa kN) c1 hm c2 AB AB AB ?_;exact AM rfl AA.out
theorem gN (x:GI)(h:x.wf)(hf:x.few):AL C0 111 [x.D] (Ap (KY x.z.natAbs)):=by
 refine Ad.walk w1 dG rfl λF=>?_
 have c1:=u9 x h hf;have c2:=Uz x h hf;have hlen:(Lib.decDigits x.z.natAbs).length<=27*1000000+1:=Nk (k:=1000000) (by unfold GI.few at hf;omega);have hil:(Lib.itoa x.z).length<=27000002:=by
  unfold Lib.itoa;split
  ·rw[Br];omega
  ·rw[show x.z.toNat=x.z.natAbs by omega];omega
 have c3:=Tp (Lib.itoa x.z) (by omega);rw[(MU x.z).2]at c3;have hsz:=Cx (Lib.decDigits x.z.natAbs);have hlb:=nW x.z.natAbs;obtain⟨b,hb⟩:∃b,KY x.z.natAbs=b:=⟨_,rfl⟩
 have e2:decide (((Lib.decDigits x.z.natAbs).length:Int)>600)=b:=by rw[<-hb];exact DO.2 (by omega)
 obtain⟨p,hp⟩:∃b,decide (JG x.z.natAbs>1800)=b:=⟨_,rfl⟩
 have e1:decide (((JG x.z.natAbs:Nat):Int)>1800)=p:=by rw[<-hp];exact DO.2 (by omega)
 rw[hb,hp]at hlb;rw[hb,hlb];dsimp only[GI.D]at c1 c2⊢;cases p
 ·refine AH AW e1 c1 AB AB AB AB AB ?_
  exact AM rfl AA.out
 ·refine AH AW (Ar e1 e2 hsz) c1 c2 c3 AB AB AB ?_
  exact AM rfl AA.out
theorem eL {r:Rat}{x:GF}{k:Nat}(h:FR r x k)(hk:k<100000):x.n.wf/\x.n.few/\(AY (x.d:Int)).wf/\(AY (x.d:Int)).few/\x.n.z=r.num/\x.d=r.den/\0<x.d:=
 ⟨h.is.1,h.fn (by omega),Cy _,by
  show(Af ((x.d:Int)).natAbs).length<1000000;rw[Ej];have:=h.ld;omega,h.is.2.1,h.is.2.2,h.dpos⟩
theorem ay {r:Rat}{x:GF}{k:Nat}(h:FR r x k)(hk:k<100000):AL C0 80 [x.D] (Ap (DJ r)):=by
 refine Ad.walk w1 jF rfl λF=>?_
 obtain⟨h1,h2,h3,h4,h5,h6,_⟩:=eL h hk;have c1:=gN x.n h1 h2;have c2:=gN (AY (x.d:Int)) h3 h4;have hb:DJ r=(KY x.n.z.natAbs||KY (AY (x.d:Int)).z.natAbs):=by
  unfold DJ KY;rw[h5,<-h6];rfl
 rw[hb];obtain⟨p,hp⟩:∃b,KY x.n.z.natAbs=b:=⟨_,rfl⟩
 obtain⟨q,hq⟩:∃b,KY (AY (x.d:Int)).z.natAbs=b:=⟨_,rfl⟩
 rw[hp]at c1;rw[hq]at c2;rw[hp,hq];dsimp only[GI.D,GF.D]at c1 c2⊢;generalize AY (x.d:Int)=y at c2⊢;cases p<;>cases q
 all_goals
  refine AH AW kB c1 c2 AB AB AB AB ?_;exact AM rfl AA.out
theorem gB {r:Rat}{x:GF}{k:Nat}(h:FR r x k)(hk:k<100000):AL C0 81 [x.D] (str (sb (A0 r))):=by
 refine Ad.walk w1 jG rfl λF=>?_
 obtain⟨h1,h2,h3,h4,h5,h6,h7⟩:=eL h hk;have c0:=UX x h7;have c1:=Uz x.n h1 h2;have c2:=Uz (AY (x.d:Int)) h3 h4;have hd:Lib.itoa (AY (x.d:Int)).z=Lib.decDigits r.den:=by
  show Lib.itoa (x.d:Int)=_;unfold Lib.itoa;rw[CM,h6];rfl
 rw[hd]at c2;rw[h5]at c1;have l1:(Lib.itoa r.num).length<=27000002:=by
  have:(Lib.decDigits x.n.z.natAbs).length<=27*1000000+1:=Nk (k:=1000000) (by unfold GI.few at h2;omega)
  rw[h5]at this;unfold Lib.itoa;split
  ·rw[Br];omega
  ·rw[show r.num.toNat=r.num.natAbs by omega];omega
 have l2:(Lib.decDigits r.den).length<=27000001:=by
  have:(Lib.decDigits (AY (x.d:Int)).z.natAbs).length<=27*1000000+1:=Nk (k:=1000000) (by unfold GI.few at h4;omega)
  rw[<-h6];exact this
 have s1:=Cx (Lib.itoa r.num);have s2:=Cx (Lib.decDigits r.den);have s3:(sb [47]).size=1:=rfl;have s4:=Cx (Lib.itoa r.num++[47]);have z1:(sb (Lib.itoa r.num)).size+(sb [47]).size<=9223372036854775807:=by rw[s1,s3];omega
 have z2:(sb (Lib.itoa r.num++[47])).size+(sb (Lib.decDigits r.den)).size<=9223372036854775807:=by rw[s4,s2,Be,HN];omega
 have a1:sb (Lib.itoa r.num)++(⟨#[47]⟩:ByteArray)=sb (Lib.itoa r.num++[47]):=WL _ [47];have a2:=WL (Lib.itoa r.num++[47]) (Lib.decDigits r.den);rw[Dt]at a2;dsimp only[GI.D,GF.D]at c0 c1 c2⊢;generalize AY (x.d:Int)=y at c0 c2⊢;unfold A0
 by_cases g:x.d=1
 ·rw[Ax g]at c0
  rw[AI (h6 ▸ g)];refine AH aY kB c0 c1 AB AB AB AB ?_;exact AM rfl AA.out
 ·rw[A8 g]at c0
  rw[AG (λq=>g (h6.trans q))];refine AH aY (Ab a1 a2) c0 c1 c2 AB AB AB ?_;exact AM rfl AA.out
set_option maxHeartbeats 4000000
def nb (r:Rat)(n d:Nat):Prop:=r.num.natAbs<=n/\r.den<=d
theorem nb.mono {r:Rat}{n d n' d':Nat}(h:nb r n d)(h1:n<=n')(h2:d<=d'):nb r n' d':=⟨BV h.1 h1,BV h.2 h2⟩
theorem b7 {n:Int}{d N D:Nat}(hd:d≠0)(h1:n.natAbs<=N)(h2:d<=D):nb (Rat.normalize n d hd) N D:=by
 rw[Rat.normalize_eq];exact⟨BV (Int.natAbs_ediv_le_natAbs _ _) h1,BV (GQ _ _) h2⟩
theorem gS {a b:Rat}{n d m e:Nat}(ha:nb a n d)(hb:nb b m e):nb (a+b) (n*e+m*d) (d*e):=by
 rw[Rat.add_def];refine b7 _ (BV (Int.natAbs_add_le _ _) ?_) (GH ha.2 hb.2);rw[Kt,Kt,Ej,Ej];exact Nat.add_le_add (GH ha.1 hb.2) (GH hb.1 ha.2)
theorem xm {a b:Rat}{n d m e:Nat}(ha:nb a n d)(hb:nb b m e):nb (a*b) (n*m) (d*e):=by
 rw[Rat.mul_def];exact b7 _ (by rw[Kt];exact GH ha.1 hb.1) (GH ha.2 hb.2)
theorem xk (z:Int){n:Nat}(h:z.natAbs<=n):nb (z:Rat) n 1:=by
 unfold nb;rw[Rat.num_intCast,Rat.den_intCast];exact⟨h,An _⟩
theorem VV:nb 0 0 1:=⟨by decide,by decide⟩
def S5:Nat:=(10^100)^6
theorem xj {r:Rat}{n d:Nat}(h:nb r n d)(h1:n<S5)(h2:d<S5):DJ r=false:=by
 unfold DJ;have key:∀a b k m,a*b=k+1->m<(10^a)^b->(Lib.decDigits m).length<=k+1:=λa b k m hk h=>MB k m (by rw[<-hk,Nat.pow_mul];exact h)
 have l1:=key 100 6 599 r.num.natAbs rfl (Da h.1 h1);have l2:=key 100 6 599 r.den rfl (Da h.2 h2);rw[Bc,Bc];rfl
def Cg:Nat:=10^40
theorem b8 {l:List UInt8}(h:Cj l=0)(hl:l.length<=40):nb (Bv l) Cg Cg:=by
 obtain⟨m1,m2,m3,m4⟩:=O3 h;obtain⟨p1,p2⟩:=Qr h;have hs1:(CG l).length<=40:=by
  have:(CG l).length<=l.length:=by
   unfold CG;have a1:(Bw (CE l)).length<=(CE l).length:=by unfold Bw;split<;>simp
   have a2:(CE l).length<=l.length:=by unfold CE;rw[Bd];omega
   omega
  omega
 have hb:∀k,k<=40->(10:Nat)^k<=Cg:=λk hk=>FT (by decide) hk
 refine⟨?_,?_⟩
 ·rw[m1,m4]
  exact BV (Jz (G1 _ p1)) (hb _ hs1)
 ·rw[m2]
  unfold Hb;cases hs:DD l
  ·exact(by decide:1<=Cg)
  ·have hs2:(Bg l).length<=40:=by
    have:(Bg l).length<=l.length:=by unfold Bg;simp
    omega
   exact BV (Jz (G1 _ (p2 hs))) (hb _ hs2)
theorem Wh {r:Rat}{n d k:Nat}(h:nb r n d)(h1:n<BB^k)(h2:d<BB^k):rk r k:=
 ⟨Hn (Da h.1 h1),Hn (Da h.2 h2)⟩
theorem kM {l:List UInt8}(h:Cj l=0)(hl:l.length<=40):rk (Bv l) 3:=Wh (b8 h hl) (by decide) (by decide)
theorem cQ (k:Nat)(hk:1<=k):FR 0 ⟨AY 0,1⟩ k:=⟨⟨Cy _,by rw[EK];rfl,rfl⟩,by
 refine rk.mono (k:=1) ?_ hk;exact⟨Hn (k:=1) (by decide),Hn (k:=1) (by decide)⟩⟩
abbrev Gt:Dr:=[(11,[0,1,2,3,4,5,6,7,8,9,10],[11,12]),(21,[0,1],[2,3])]
open Go.Proofs Go.RowKit
set_option maxRecDepth 20000
set_option maxHeartbeats 4000000
def Lf (a b:List UInt8):Bool:=Kc (sb a) (sb b)||BI (sb a) (sb b)
def Fw (l:List As)(i:Nat):Nat:=
 if D8 (D4 l i).lot=false then 8 else if 0<i/\Lf (D4 l i).lot (D4 l (i-1)).lot=true then 11 else if Cj (D4 l i).part≠0 then Cj (D4 l i).part else if HC (Bv (D4 l i).part)<=0 then 12 else 0
def Fh (l:List As):Nat->Rat
 | 0=>0
 |n+1=>Fh l n+Bv (D4 l n).part
def Gy (l:List As):Nat:=if l.length=0 then 2 else if 64<l.length then 5 else if EH (Fw l) l.length≠0 then EH (Fw l) l.length else if Fh l l.length=1 then 0 else 12
theorem R1 (l:List UInt8):AL C0 54 [str (sb l)] (Ap (D8 l)):=nS (sb l)
theorem ru (a b:Rat):(M0 a b==0)=decide (a=b):=by
 unfold M0
 by_cases h:a<b
 ·rw[AI h,A8 (Rat.ne_of_lt h)];rfl
 ·rw[AG h]
  by_cases h2:b<a
  ·rw[AI h2,A8 λe=>Rat.ne_of_lt h2 e.symm];rfl
  ·rw[AG h2,Ax (Rat.le_antisymm (Rat.not_lt.1 h2) (Rat.not_lt.1 h))];rfl
theorem yJ {a b:Rat}{x y:GF}{i j:Nat}(hx:FR a x i)(hy:FR b y j)(hk:i+j<300000):AL C0 143 [x.D,y.D] (Ap (decide (a=b))):=by
 refine Ad.walk w1 fG rfl λF=>?_
 have c:=uN hx hy hk;have e:=ru a b;obtain⟨r,hr⟩:∃r,M0 a b=r:=⟨_,rfl⟩
 rw[hr]at c e;obtain⟨xD,hxD⟩:∃d,x.D=d:=⟨_,rfl⟩
 obtain⟨yD,hyD⟩:∃d,y.D=d:=⟨_,rfl⟩
 unfold GF.D at c hxD hyD⊢;refine AH AW e c AB AB AB AB AB ?_;exact AM rfl AA.out
theorem y8:FR 1 ⟨AY 1,1⟩ 1:=by
 have:=Rq (z:=1) (by decide)
 exact this
theorem e0N (b:Bool)(l:List As)(hl:l.length<=9223372036854775807)(hf:∀s∈l,s.few):AL C0 110 [Co b l] (i64 (Gy l:Nat)):=by
 refine Ad.walk w1 dF rfl λF=>?_
 have el:(((l.map As.D).length:Nat):Int)=(l.length:Int):=by rw[Ae]
 have hC:Gy l=if l.length=0 then 2 else if 64<l.length then 5 else if EH (Fw l) l.length≠0 then EH (Fw l) l.length else if Fh l l.length=1 then 0 else 12:=rfl
 rcases Nat.decEq l.length 0 with h0|h0
 rotate_left
 ·rw[AI h0]at hC
  rw[hC];have q1:((l.length:Int)==0)=true:=by rw[h0];rfl
  refine AH Gt (Ab el q1) AB AB AB AB AB AB ?_;exact AM rfl AA.out
 rw[AG h0]at hC;have q1:((l.length:Int)==0)=false:=B4.2 (by omega)
 by_cases h64:64<l.length
 ·rw[AI h64]at hC
  rw[hC];have q2:decide ((l.length:Int)>64)=true:=BX;refine AH Gt (Ar el q1 q2) AB AB AB AB AB AB ?_;exact AM rfl AA.out
 rw[AG h64]at hC;have q2:decide ((l.length:Int)>64)=false:=Bc;have c0:=QG 0 ⟨by decide,by decide⟩;have c1:=QG 1 ⟨by decide,by decide⟩;refine AH Gt (Ar el q1 q2) c0 AB AB AB AB AB ?_;refine AC.loop (α:=Nat×GF×Nat) (λp=>⟨[(0,Co b l),(3,.optr 501 8 4 0 0),(15,Co b l),(16,i64 (l.length:Int)),(17,i64 (p.1:Int))],[⟨501,8,124,4,[p.2.1.D]⟩],p.2.2⟩) (λp=>l.length-p.1) (λp=>p.1<=l.length/\(∀j,j<p.1->Fw l j=0)/\FR (Fh l p.1) p.2.1 (601*p.1+1)) (0,⟨AY 0,1⟩,_)
  ⟨BT _,λj h=>Ak h (HJ j),cQ 1 (An _)⟩ AK ?_
 rintro⟨i,y,m⟩ F ⟨hi,hz,hS⟩;dsimp only at hi hz hS⊢;rcases BC i l.length with h2|h2
 rotate_left
 ·have e1:=Cc h2
  have:i=l.length:=by omega
  subst this;rw[AG (λh=>h (MK hz))]at hC;have cS:=yJ hS y8 (by omega);obtain⟨q,hq⟩:∃q,decide (Fh l l.length=1)=q:=⟨_,rfl⟩
  rw[hq]at cS;cases q
  ·rw[AG (Ds hq)]at hC
   rw[hC];refine AH Gt e1 c1 cS AB AB AB AB ?_;exact AM rfl AA.out
  ·rw[AI (DN hq)]at hC
   rw[hC];refine AH Gt e1 c1 cS AB AB AB AB ?_;exact AM rfl AA.out
 have e1:=CZ h2;have wi:=Ce (i:=i) (by omega);obtain⟨s,hs⟩:=CJ h2;have hm:(l.map As.D)[i]?=some (.agg [str (sb s.lot),str (sb s.part)]):=by rw[Az,hs];rfl
 obtain⟨f1,f2⟩:=hf s (Au hs);have hE:Fw l i=if D8 s.lot=false then 8 else if 0<i/\Lf s.lot (D4 l (i-1)).lot=true then 11 else if Cj s.part≠0 then Cj s.part else if HC (Bv s.part)<=0 then 12 else 0:=by unfold Fw;rw[KW hs]
 have hbad:∀e:Nat,e≠0->Fw l i=e->Gy l=e:=λe he h=>by
  have:=PZ hz h2 (by rw[h];exact he)
  rw[hC,this,h,AI he]
 have cN:=R1 s.lot;obtain⟨N,hN⟩:∃q,D8 s.lot=q:=⟨_,rfl⟩
 rw[hN]at cN hE;cases N
 ·rw[AI rfl]at hE
  rw[hbad 8 (by decide) hE];refine AH Gt (Ab e1 kN) hm cN AB AB AB AB ?_;exact AM rfl AA.out
 rw[AG (by decide)]at hE;have cC:=o8 s.part f2;rcases i with _|q
 ·have g0:decide (((0:Nat):Int)>0)=false:=rfl
  rw[AG (λh=>Ak h.1 (Nat.lt_irrefl 0))]at hE;rcases Nat.decEq (Cj s.part) 0 with hc0|hc0
  ·rw[AI hc0]at hE
   have e3:=G9 hc0;rw[hbad (Cj s.part) hc0 hE];refine AH Gt (Bb e1 g0 kN e3) hm cN cC AB AB AB ?_;exact AM rfl AA.out
  rw[AG (λh=>h hc0)]at hE;have e3:=HA hc0;have cP:=SS f2 hc0;have fP:=SB hc0;have cG:=bJ fP.is;have cA:=SN hS fP (by omega);have fA:=Rs hS fP;obtain⟨z,hzz⟩:∃z,Ki y (G3 s.part)=z:=⟨_,rfl⟩
  rw[hzz]at cA fA;obtain⟨sg,hsg⟩:∃q,HC (Bv s.part)=q:=⟨_,rfl⟩
  rw[hsg]at cG hE
  by_cases hs0:sg<=0
  ·rw[AI hs0]at hE
   have e4:decide (sg<=0)=true:=Ax hs0;rw[hbad 12 (by decide) hE];refine AH Gt (CN e1 g0 kN e3 e4) hm cN cC cP cG AB ?_;exact AM rfl AA.out
  rw[AG hs0]at hE;have e4:decide (sg<=0)=false:=A8 hs0;refine AH Gt (EP e1 g0 kN e3 e4 wi) hm cN cC cP cG AB ?_;refine cI cA ?_;refine AH Gt wi AB AB AB AB AB AB ?_;exact⟨(0+1,z,_),⟨h2,λj hj=>by
   rcases Kq.1 hj with q|q
   ·exact hz j q
   ·rw[q];exact hE,by
   show FR (Fh l 0+Bv (D4 l 0).part) z _;rw[KW hs];exact⟨fA.is,fA.rk.mono (by dsimp only;omega)⟩⟩,by dsimp only;omega,AK⟩
 ·have g0:decide (((q+1:Nat):Int)>0)=true:=BX
  have g1:IntKind.i64.wrap (((q+1:Nat):Int)-1)=(q:Int):=by rw[wI];omega
  obtain⟨s0,hs0'⟩:=CJ (l:=l) (i:=q) (by omega);have hm0:(l.map As.D)[q]?=some (.agg [str (sb s0.lot),str (sb s0.part)]):=by rw[Az,hs0'];rfl
  rw[JT,KW hs0']at hE;obtain⟨bL,hbL⟩:∃q,Lf s.lot s0.lot=q:=⟨_,rfl⟩
  have g2:(Kc (sb s.lot) (sb s0.lot)||BI (sb s.lot) (sb s0.lot))=bL:=hbL;rw[hbL]at hE;cases bL
  rotate_left
  ·rw[AI ⟨Nat.succ_pos q,rfl⟩]at hE
   rw[hbad 11 (by decide) hE];refine AH Gt (CN e1 g0 g1 g2 kN) hm hm0 cN AB AB AB ?_;exact AM rfl AA.out
  rw[AG (λh=>Ak h.2 (by decide))]at hE;rcases Nat.decEq (Cj s.part) 0 with hc0|hc0
  ·rw[AI hc0]at hE
   have e3:=G9 hc0;rw[hbad (Cj s.part) hc0 hE];refine AH Gt (EP e1 g0 g1 g2 kN e3) hm hm0 cN cC AB AB ?_;exact AM rfl AA.out
  rw[AG (λh=>h hc0)]at hE;have e3:=HA hc0;have cP:=SS f2 hc0;have fP:=SB hc0;have cG:=bJ fP.is;have cA:=SN hS fP (by omega);have fA:=Rs hS fP;obtain⟨z,hzz⟩:∃z,Ki y (G3 s.part)=z:=⟨_,rfl⟩
  rw[hzz]at cA fA;obtain⟨sg,hsg⟩:∃q,HC (Bv s.part)=q:=⟨_,rfl⟩
  rw[hsg]at cG hE
  by_cases hs0:sg<=0
  ·rw[AI hs0]at hE
   have e4:decide (sg<=0)=true:=Ax hs0;rw[hbad 12 (by decide) hE];refine AH Gt (CP e1 g0 g1 g2 kN e3 e4) hm hm0 cN cC cP cG ?_;exact AM rfl AA.out
  rw[AG hs0]at hE;have e4:decide (sg<=0)=false:=A8 hs0;refine AH Gt (CP e1 g0 g1 g2 kN e3 (Ab e4 wi)) hm hm0 cN cC cP cG ?_;refine cI cA ?_;refine AH Gt wi AB AB AB AB AB AB ?_;exact⟨(q+1+1,z,_),⟨h2,λj hj=>by
   rcases Kq.1 hj with q|q
   ·exact hz j q
   ·rw[q];exact hE,by
   show FR (Fh l (q+1)+Bv (D4 l (q+1)).part) z _;rw[KW hs];exact⟨fA.is,fA.rk.mono (by dsimp only;omega)⟩⟩,by dsimp only;omega,AK⟩
def AE.few (x:AE):Prop:=x.grain.length<=100000/\x.shs.length<=9223372036854775807/\∀s∈x.shs,s.few
def Cm (x:AE):Nat:=if D8 x.grain=false then 8 else if x.mass<1\/x.mass>999999999 then 3 else Gy x.shs
def CX (l:List AE)(k:Nat):AE:=l.getD k ⟨[],0,[]⟩
theorem GL {l:List AE}{k:Nat}{x:AE}(h:l[k]?=some x):CX l k=x:=by unfold CX;rw[ED,h];rfl
def Ai (l:List AE):Int:=(l.map (·.mass)).sum
theorem US {l:List AE}{i:Nat}{x:AE}(h:l[i]?=some x):Ai (l.take (i+1))=Ai (l.take i)+x.mass:=by
 unfold Ai;rw[Du,h,DA,List.sum_append];simp
def JE (l:List AE):Prop:=l.length<=1000000/\∀x∈l,x.mass.natAbs<=1000000000
theorem Vc {l:List AE}(h:∀x∈l,x.mass.natAbs<=1000000000):(Ai l).natAbs<=l.length*1000000000:=by
 unfold Ai
 induction l with
 |nil=>simp
 |cons a l ih=>
  have h1:=h a (by simp);have h2:=ih λx hx=>h x (by simp[hx])
  simp only[Ci,List.sum_cons,Br];omega
def Bz (l:List AE):Nat:=if 64<l.length then 5 else if EH (λi=>Cm (CX l i)) l.length≠0 then EH (λi=>Cm (CX l i)) l.length else if Ai l>999999999 then 4 else 0
theorem PJ {x:AE}(h:Cm x=0):D8 x.grain=true/\1<=x.mass/\x.mass<=999999999/\Gy x.shs=0:=by
 unfold Cm at h;split at h
 ·cases h
 ·rename_i h1
  split at h
  ·cases h
  ·rename_i h2
   exact⟨by simpa using h1,by omega,by omega,h⟩
theorem H6 (b:Bool)(e:Int):AL C0 30 [Ap b,i64 e] (i64 (if b then e else 0)):=by
 refine Ad.walk w1 io rfl λF=>?_
 cases b
 ·refine AH AW kB AB AB AB AB AB AB ?_
  exact AM rfl AA.out
 ·refine AH AW kB AB AB AB AB AB AB ?_
  exact AM rfl AA.out
theorem Mg (v:List Int)(hl:v.length<=1000):AL C0 28 [.sl true 1 (v.map λe=>i64 e)] (i64 (E7 v)):=by
 refine Ad.walk w1 il rfl λF=>?_
 have el:(((v.map λe=>i64 e).length:Nat):Int)=(v.length:Int):=by rw[Ae]
 refine AH AW el AB AB AB AB AB AB ?_;refine AC.loop (α:=Nat×Nat) (λp=>⟨[(5,.sl true 1 (v.map λe=>i64 e)),(6,i64 (v.length:Int)),(7,i64 (p.1:Int))],[],p.2⟩) (λp=>v.length-p.1) (λp=>p.1<=v.length/\∀(j:Nat) (e:Int),j<p.1->v[j]?=some e->e=0) (0,_) ⟨BT _,λj e h=>Ak h (HJ j)⟩ AK ?_;rintro⟨i,m⟩ F ⟨hi,ha⟩;dsimp only at hi ha⊢;rcases BC i v.length with h2|h2
 rotate_left
 ·have e1:=Cc h2
  have:i=v.length:=by omega
  subst this;have hd:E7 v=0:=by rw[X3 ha,J5];rfl
  rw[hd];refine AH AW e1 AB AB AB AB AB AB ?_;exact AM rfl AA.out
 have e1:=CZ h2;have wi:=Ce (i:=i) (by omega);obtain⟨l,hl'⟩:=CJ h2;have hm:(v.map λe=>i64 e)[i]?=some (i64 l):=by rw[Az,hl'];rfl
 by_cases g:l=0
 ·have e5:(l != 0)=false:=by rw[g];rfl
  refine AH AW (Bb e1 wi e5 kN) hm AB AB AB AB AB ?_;exact⟨(i+1,_),⟨h2,λj e hj he=>by
   rcases Kq.1 hj with q|q
   ·exact ha j e q he
   ·subst q;rw[hl']at he;cases he;exact g⟩,by dsimp only;omega,AK⟩
 ·have e5:(l != 0)=true:=I7 g
  have hd:E7 v=l:=by
   rw[X3 ha,Ey h2];rw[Bx h2]at hl';rw[FY hl'];exact AI g
  rw[hd];refine AH AW (Bb e1 wi e5 kN) hm AB AB AB AB AB ?_;exact AM rfl AA.out
theorem dW (b:Bool)(l:List AE)(hs:JE l):AL C0 31 [Aj b l] (i64 (Ai l)):=by
 refine Ad.walk w1 WW rfl λF=>?_
 have el:(((l.map AE.D).length:Nat):Int)=(l.length:Int):=by rw[Ae]
 obtain⟨hl,hm0⟩:=hs;refine AH AW el AB AB AB AB AB AB ?_;refine AC.loop (α:=Nat×Nat) (λp=>⟨[(3,i64 (Ai (l.take p.1))),(6,Aj b l),(7,i64 (l.length:Int)),(8,i64 (p.1:Int))],[],p.2⟩) (λp=>l.length-p.1) (λp=>p.1<=l.length) (0,_) (BT _) AK ?_;rintro⟨i,m⟩ F hi;dsimp only at hi⊢;rcases BC i l.length with h2|h2
 rotate_left
 ·have e1:=Cc h2
  have:i=l.length:=by omega
  subst this;rw[Cz];refine AH AW e1 AB AB AB AB AB AB ?_;exact AM rfl AA.out
 have e1:=CZ h2;have wi:=Ce (i:=i) (by omega);obtain⟨x,hx⟩:=CJ h2;have hm:(l.map AE.D)[i]?=some (.agg [str (sb x.grain),i64 x.mass,.sl false 2 (x.shs.map As.D)]):=by rw[Az,hx];rfl
 have hb:=Vc (l:=l.take i) λy hy=>hm0 y (E3 hy)
 have hxm:=hm0 x (Au hx);rw[Bd,Ft hi]at hb;have wS:IntKind.i64.wrap (Ai (l.take i)+x.mass)=Ai (l.take (i+1)):=by rw[US hx,wI]
 refine AH AW (Bb e1 wi @wS kN) hm AB AB AB AB AB ?_;exact⟨(i+1,_),h2,by dsimp only;omega,AK⟩
theorem jm (x:AE)(hf:x.few):AL C0 79 [x.D] (i64 (Cm x:Nat)):=by
 refine Ad.walk w1 jE rfl λF=>?_
 obtain⟨f1,f2,f3⟩:=hf;have cN:=R1 x.grain;have cS:=e0N false x.shs f2 f3;have hC:Cm x=if D8 x.grain=false then 8 else if x.mass<1\/x.mass>999999999 then 3 else Gy x.shs:=rfl
 obtain⟨N,hN⟩:∃q,D8 x.grain=q:=⟨_,rfl⟩
 obtain⟨SD,hSD⟩:∃d,Co false x.shs=d:=⟨_,rfl⟩
 have pS:AA SD:=by rw[<-hSD];exact AJ
 have hna:KR SD=true:=by rw[<-hSD];rfl
 unfold AE.D;rw[hN]at cN hC;rw[hSD]at cS⊢;cases N
 ·rw[AI rfl]at hC
  rw[hC];refine AH AW kB cN AB AB AB AB AB ?_;exact AM rfl AA.out
 rw[AG (by decide)]at hC
 by_cases h1:x.mass<1
 ·rw[AI (.inl h1)]at hC
  rw[hC];have e1:decide (x.mass<1)=true:=Ax h1;refine AH AW e1 cN AB AB AB AB AB ?_;exact AM rfl AA.out
 have e1:decide (x.mass<1)=false:=A8 h1
 by_cases h2:x.mass>999999999
 ·rw[AI (.inr h2)]at hC
  rw[hC];have e2:decide (x.mass>999999999)=true:=Ax h2;refine AH AW (Ab e1 e2) cN AB AB AB AB AB ?_;exact AM rfl AA.out
 have e2:decide (x.mass>999999999)=false:=A8 h2;rw[CM]at hC;rw[hC];refine AH AW (Ar e1 e2 hna) cN cS AB AB AB AB ?_;exact AM rfl AA.out
theorem UG {l:List AE}(h64:¬ 64<l.length)(hz:∀j,j<l.length->Cm (CX l j)=0):JE l:=by
 refine⟨by omega,λx hx=>?_⟩;obtain⟨j,hj⟩:=L1.1 hx
 have:=hz j (BS.1 hj).1
 rw[GL hj]at this
 have:=PJ this
 omega
theorem OR (b:Bool)(l:List AE)(hl:l.length<=9223372036854775807)(hf:∀x∈l,x.few):AL C0 46 [Aj b l] (i64 (Bz l:Nat)):=by
 refine Ad.walk w1 iQ rfl λF=>?_
 have el:(((l.map AE.D).length:Nat):Int)=(l.length:Int):=by rw[Ae]
 have hC:Bz l=if 64<l.length then 5 else if EH (λi=>Cm (CX l i)) l.length≠0 then EH (λi=>Cm (CX l i)) l.length else if Ai l>999999999 then 4 else 0:=rfl
 by_cases h64:64<l.length
 ·rw[AI h64]at hC
  rw[hC];have q2:decide ((l.length:Int)>64)=true:=BX;refine AH AW (Ab el q2) AB AB AB AB AB AB ?_;exact AM rfl AA.out
 rw[AG h64]at hC;have q2:decide ((l.length:Int)>64)=false:=Bc;refine AH AW (Ab el q2) AB AB AB AB AB AB ?_;refine AC.loop (α:=Nat×Nat) (λp=>⟨[(0,Aj b l),(9,Aj b l),(10,i64 (l.length:Int)),(11,i64 (p.1:Int))],[],p.2⟩) (λp=>l.length-p.1) (λp=>p.1<=l.length/\∀j,j<p.1->Cm (CX l j)=0) (0,_) ⟨BT _,λj h=>Ak h (HJ j)⟩ AK ?_;rintro⟨i,m⟩ F ⟨hi,hz⟩;dsimp only at hi hz⊢;rcases BC i l.length with h2|h2
 rotate_left
 ·have e1:=Cc h2
  have:i=l.length:=by omega
  subst this;rw[AG (λh=>h (MK (f:=λi=>Cm (CX l i)) hz))]at hC;have cT:=dW b l (UG h64 hz);obtain⟨q,hq⟩:∃q,decide (Ai l>999999999)=q:=⟨_,rfl⟩
  have cW:=H6 q 4;have hR:((Bz l:Nat):Int)=if q then 4 else 0:=by
   rw[hC,<-hq]
   by_cases h:Ai l>999999999
   ·rw[AI h,Ax h];rfl
   ·rw[AG h,A8 h];rfl
  rw[hR];refine AH AW (Ab e1 hq) cT cW AB AB AB AB ?_;exact AM rfl AA.out
 have e1:=CZ h2;have wi:=Ce (i:=i) (by omega);obtain⟨x,hx⟩:=CJ h2;have hm:(l.map AE.D)[i]?=some (.agg [str (sb x.grain),i64 x.mass,.sl false 2 (x.shs.map As.D)]):=by rw[Az,hx];rfl
 have cL:=jm x (hf x (Au hx));unfold AE.D at cL;rcases Nat.decEq (Cm x) 0 with hc0|hc0
 ·have e3:=G9 hc0
  have:=PZ (f:=λi=>Cm (CX l i)) hz h2 (by rw[GL hx];exact hc0)
  rw[GL hx]at this;rw[this,AI hc0]at hC;rw[hC];refine AH AW (Ar e1 e3 kN) hm cL AB AB AB AB ?_;exact AM rfl AA.out
 have e3:=HA hc0;refine AH AW (Bb e1 e3 wi kN) hm cL AB AB AB AB ?_;exact⟨(i+1,_),⟨h2,λj hj=>by
  rcases Kq.1 hj with q|q
  ·exact hz j q
  ·rw[q,GL hx];exact hc0⟩,by dsimp only;omega,AK⟩
theorem ZT {α:Type}{l:List α}{p:α->Bool}{k:Nat}{x:α}(hx:l[k]?=some x)(h:(l.take k).all p=true)(hp:p x=true):(l.take (k+1)).all p=true:=by
 rw[Du,hx,Ky,h];simp[hp]
theorem VK {α:Type}{l:List α}{p:α->Bool}{k:Nat}{x:α}(hx:l[k]?=some x)(hp:p x=false):l.all p=false:=by
 cases h:l.all p
 ·rfl
 ·rw[CY.1 h x (Au hx)]at hp;exact hp
abbrev Ng:Dr:=[(8,[0,1,2,3,4,5,6,7],[8])]
open Go.Proofs Go.RowKit
set_option maxRecDepth 20000
set_option maxHeartbeats 4000000
abbrev BQ:=List (List UInt8×Rat)
def Gb (lot:List UInt8):BQ->Option Rat
 | []=>none
 |p::l=>if lot=p.1 then some p.2 else Gb lot l
def HB (lot:List UInt8)(r:Rat):BQ->BQ
 | []=>[(lot,r)]
 |p::l=>if lot=p.1 then(lot,r)::l else p::HB lot r l
def Kj (lot:List UInt8)(r:Rat)(q:BQ):BQ:=HB lot (match Gb lot q with|some o=>r+o|none=>r) q
def G4 (x:AE)(n:Nat)(q:BQ):BQ:=(x.shs.take n).foldl (λacc s=>Kj s.lot (Bv s.part*(x.mass:Rat)) acc) q
def CU (l:List AE):BQ:=l.foldl (λacc x=>G4 x x.shs.length acc) []
def MQ (B:Nat):BQ->DV->Prop
 | [],[]=>True
 |p::q,e::m=>(e.1=sb p.1/\∃y:GF,e.2=y.D/\FR p.2 y B)/\MQ B q m
 |_,_=>False
theorem MQ.mono {B B':Nat}(hB:B<=B'):∀ {q:BQ} {m:DV},MQ B q m->MQ B' q m
 | [],[],_=>trivial
 |_::_,_::_,⟨⟨h1,y,h2,h3⟩,h4⟩=>⟨⟨h1,y,h2,h3.is,h3.rk.mono hB⟩,MQ.mono hB h4⟩
theorem MQ.look {B:Nat}(lot:List UInt8):∀ {q:BQ} {m:DV},MQ B q m->(It (sb lot) m=none/\Gb lot q=none)\/∃(r:Rat) (y:GF),It (sb lot) m=some y.D/\Gb lot q=some r/\FR r y B
 | [],[],_=>.inl ⟨rfl,rfl⟩
 |p::q,e::m,⟨⟨h1,y,h2,h3⟩,h4⟩=>by
  unfold It Gb;rw[h1,E8]
  by_cases hl:lot=p.1
  ·rw[Ax hl,AI hl]
   exact .inr ⟨p.2,y,by rw[h2];rfl,rfl,h3⟩
  ·rw[A8 hl,AG hl]
   exact MQ.look lot h4
theorem MQ.set {B:Nat}(lot:List UInt8){r:Rat}{y:GF}(hr:FR r y B):∀ {q:BQ} {m:DV},MQ B q m->MQ B (HB lot r q) (GC (sb lot) y.D m)
 | [],[],_=>⟨⟨rfl,y,rfl,hr⟩,trivial⟩
 |p::q,e::m,⟨⟨h1,y',h2,h3⟩,h4⟩=>by
  unfold HB GC;rw[h1,E8]
  by_cases hl:lot=p.1
  ·rw[Ax hl,AI hl]
   exact⟨⟨rfl,y,rfl,hr⟩,h4⟩
  ·rw[A8 hl,AG hl]
   exact⟨⟨h1,y',h2,h3⟩,MQ.set lot hr h4⟩
theorem MQ.pure {B:Nat}:∀ {q:BQ} {m:DV},MQ B q m->∀e∈m,CK e.2
 | [],[],_,e,he=>by cases he
 |p::q,e::m,⟨⟨_,y,h2,_⟩,h4⟩,x,hx=>by
  rcases A9.1 hx with rfl|hx
  ·rw[h2];exact AA.out
  ·exact MQ.pure h4 x hx
theorem MQ.mapD {B:Nat}{q:BQ}{m:DV}(h:MQ B q m):CK (mapD m):=by
 refine CK.mp (λd hd=>?_) λd hd=>?_
 ·obtain⟨p,-,rfl⟩:=By.1 hd;exact AA.out
 ·obtain⟨p,hp,rfl⟩:=By.1 hd;exact h.pure p hp
def As.ok (s:As):Prop:=s.lot.length<=100000/\s.part.length<=40/\Cj s.part=0
def AE.ok (x:AE):Prop:=x.shs.length<=64/\Sm x.mass/\∀s∈x.shs,s.ok
def AE.okW (w:Nat)(x:AE):Prop:=x.shs.length<=64/\Sm x.mass/\∀s∈x.shs,s.lot.length<=100000/\s.part.length<=100000/\Cj s.part=0/\rk (Bv s.part) (w-2)
theorem O6 (x:AE)(n:Nat)(q:BQ){s:As}(h:x.shs[n]?=some s):G4 x (n+1) q=Kj s.lot (Bv s.part*(x.mass:Rat)) (G4 x n q):=by
 unfold G4;rw[Du,h,List.foldl_append];rfl
theorem Qv (l:List AE)(n:Nat){x:AE}(h:l[n]?=some x):CU (l.take (n+1))=G4 x x.shs.length (CU (l.take n)):=by
 unfold CU;rw[Du,h,List.foldl_append];rfl
theorem gZ (w:Nat)(b:Bool)(l:List AE)(hl:l.length<=100)(hx:∀x∈l,x.okW w)(h2w:2<=w)(hw:w*(64*(l.length+1))<=100000):Ad C0 48 [Aj b l] (λd=>∃m,d=mapD m/\MQ (w*(64*l.length)) (CU l) m):=by
 refine Ad.walk w1 iS rfl λF0=>?_
 have el:(((l.map AE.D).length:Nat):Int)=(l.length:Int):=by rw[Ae]
 refine sZ 0 ?_;refine AF kB ?_;refine AC.seq ?_;refine Il (by kernel_rfl) ?_;change Bk _ _ _ _ _ [0,1] _ _;refine Bk.makeMap 100 rfl rfl rfl (XM F0) (λF1 it hto hO hr0 hnX hM=>?_);change Bk _ _ _ _ _ ([1]++[]) _ _;refine GG w1 100 [1] [] ?_;refine AF kB ?_;refine Bk.nil ?_;refine AH Ng el AB AB AB AB AB AB ?_;refine Gi (α:=Nat×DV×Obj×Nat) (λp=>⟨[(3,.prim (.map (some it))),(12,Aj b l),(13,i64 (l.length:Int)),(14,i64 (p.1:Int))],[],p.2.2.2⟩) (λp=>l.length-p.1)
  (λp F=>p.1<=l.length/\DQ C0 F0 F [⟨100,1,p.2.2.1⟩]/\F.r0 100 1=some it/\Ic F p.2.2.1 p.2.1/\MQ (w*(64*p.1)) (CU (l.take p.1)) p.2.1) (0,[],.map #[] 0,_) ⟨BT _,hO,hr0,hM,trivial⟩ AK ?_
 clear hO hr0 hM hto;rintro⟨i,m,o,n1⟩ F ⟨hi,hO,hr0,hM,hQ⟩;dsimp only at hi hO hr0 hM hQ⊢;rcases BC i l.length with h2|h2
 rotate_left
 ·have e1:=Cc h2
  have:i=l.length:=by omega
  subst this;rw[Cz]at hQ;refine sZ 300 ?_;refine AF e1 ?_;refine AC.seq ?_;refine AO ?_;refine CO ?_;refine kA [(3,mapD m)] hO hr0 hnX hM ⟨.inr ⟨rfl,rfl⟩,trivial⟩ (λF2 hto2 hO2=>?_);refine AH Ng kB AB AB AB AB AB AB ?_;exact⟨mapD m,.refl _,hQ.mapD,m,rfl,hQ⟩
 have e1:=CZ h2;have wi:=Ce (i:=i) (by omega);obtain⟨x,hxi⟩:=CJ h2;obtain⟨x1,x2,x3⟩:=hx x (Au hxi);have hm:(l.map AE.D)[i]?=some (.agg [str (sb x.grain),i64 x.mass,.sl false 2 (x.shs.map As.D)]):=by rw[Az,hxi];rfl
 have es:(((x.shs.map As.D).length:Nat):Int)=(x.shs.length:Int):=by rw[Ae]
 refine AH Ng (Ar e1 es kN) hm AB AB AB AB AB ?_;obtain⟨ga,hga⟩:∃g,n1+1+1+1=g:=⟨_,rfl⟩
 refine Gi (α:=Nat×DV×Obj×Nat) (λp=>⟨[(3,.prim (.map (some it))),(5,.optr 402 (n1+1+1+1) 3 0 0),(12,Aj b l),(13,i64 (l.length:Int)),(14,i64 (i:Int)),(19,.sl false 2 (x.shs.map As.D)),(20,i64 (x.shs.length:Int)),(21,i64 (p.1:Int))],[⟨402,n1+1+1+1,51,3,[.agg [str (sb x.grain),i64 x.mass,.sl false 2 (x.shs.map As.D)]]⟩],p.2.2.2⟩) (λp=>x.shs.length-p.1)
  (λp F=>p.1<=x.shs.length/\DQ C0 F0 F [⟨100,1,p.2.2.1⟩]/\F.r0 100 1=some it/\Ic F p.2.2.1 p.2.1/\MQ (w*(64*i+p.1)) (G4 x p.1 (CU (l.take i))) p.2.1) (0,m,o,_) ⟨BT _,hO,hr0,hM,hQ⟩ AK ?_
 clear hO hr0 hM hQ;rintro⟨j,m2,o2,n2⟩ F ⟨hj,hO,hr0,hM,hQ⟩;dsimp only at hj hO hr0 hM hQ⊢;rw[hga];rcases BC j x.shs.length with h3|h3
 rotate_left
 ·have e2:=Cc h3
  have:j=x.shs.length:=by omega
  subst this;rw[<-Qv l i hxi]at hQ;refine AH Ng (Ab e2 wi) AB AB AB AB AB AB ?_;exact⟨(i+1,m2,o2,_),⟨h2,hO,hr0,hM,hQ.mono (Cs _ (by dsimp only;omega))⟩,by dsimp only;omega,AK⟩
 have e2:=CZ h3;have wj:=Ce (i:=j) (by omega);obtain⟨s,hsj⟩:=CJ h3;obtain⟨s1,s2,s3,s4⟩:=x3 s (Au hsj);have hms:(x.shs.map As.D)[j]?=some (.agg [str (sb s.lot),str (sb s.part)]):=by rw[Az,hsj];rfl
 have hsn:=O6 x j (CU (l.take i)) hsj;have fP:FR (Bv s.part) (G3 s.part) (w-2):=⟨(SB s3).is,s4⟩
 obtain⟨PW,hPW⟩:∃P,w*(64*i+j)=P:=⟨_,rfl⟩
 have hPW1:w*(64*i+(j+1))=PW+w:=by rw[<-hPW,<-FE,Nat.mul_succ]
 have hPWb:PW+w<=100000:=by
  rw[<-hPW1];exact BV (Cs _ (by omega)) hw
 rw[hPW]at hQ;have fM:FR ((x.mass:Int):Rat) ⟨AY x.mass,1⟩ 1:=Rq (by unfold Sm at x2;omega);have c1:=SS s2 s3;have c2:=QG x.mass x2;have c3:=Vp fP fM (by omega);have fZ:FR (Bv s.part*(x.mass:Rat)) (JO (G3 s.part) ⟨AY x.mass,1⟩) (w-2+1):=VU fP fM;obtain⟨z,hz⟩:∃z,JO (G3 s.part) ⟨AY x.mass,1⟩=z:=⟨_,rfl⟩
 rw[hz]at c3 fZ;obtain⟨d1,hd1⟩:∃d,(G3 s.part).D=d:=⟨_,rfl⟩
 obtain⟨d2,hd2⟩:∃d,(⟨AY x.mass,1⟩:GF).D=d:=⟨_,rfl⟩
 have pd1:AA d1:=by rw[<-hd1];exact AJ
 have pd2:AA d2:=by rw[<-hd2];exact AJ
 rw[hd1]at c1 c3;rw[hd2]at c2 c3;refine sZ 600 ?_;refine AF e2 ?_;refine AC.seq ?_;refine AO ?_;refine Am ?_;refine AC.seq ?_;refine AC.block ?_;refine sZ 700 ?_;refine B3 kT hms ?_;refine AF kB ?_;refine AC.seq ?_;refine CR 800 [0,1,2,3,4,5,6,7] [8] ?_;refine AF kB ?_;refine Bf.same _ (c1) AJ ?_;refine BR ?_;refine AF kB ?_;refine Bf.same _ (c2) AJ ?_;refine BR ?_;refine AF kB ?_;refine Bf.same _ (c3) AJ ?_;refine BR ?_;refine AF kB ?_;refine AC.seq ?_;refine AC.seq ?_;refine Il (by kernel_rfl) ?_;change Bk _ _ _ _ _ ([0,1,2]++(3::([4,5,6,7,8,9]++[]))) _ _;refine GG w1 900 [0,1,2] _ ?_;refine AF kB ?_;refine Bk.look (xo:=⟨100,1,o2⟩) (l:=m2) w1 rfl rfl rfl rfl rfl rfl hO B1 hr0 hM ?_;rcases hQ.look s.lot with⟨q1,q2⟩|⟨r,y,q1,q2,q3⟩
 ·rw[YT q1]
  refine GG w1 900 [4,5,6,7,8,9] [] ?_;refine AF kB ?_;refine Bk.nil ?_;refine BM ?_;refine sZ 1000 ?_;refine AF kB ?_;refine AO ?_;refine Am ?_;refine Il (by kernel_rfl) ?_;change Bk _ _ _ _ _ ([0,1,2,3]++(4::[])) _ _;refine GG w1 1200 [0,1,2,3] _ ?_;refine AF kB ?_;refine Bk.put (l:=m2) w1 rfl rfl rfl rfl rfl rfl hO hr0 hM (λF3 o3 hto3 hO3 hr3 hM3=>Bk.nil ?_);refine BM ?_;have hQ2:MQ (w*(64*i+(j+1))) (G4 x (j+1) (CU (l.take i))) (GC (sb s.lot) z.D m2):=by
   rw[hsn,hPW1];unfold Kj;rw[q2];exact MQ.set s.lot ⟨fZ.is,fZ.rk.mono (by omega)⟩ (hQ.mono (by omega))
  refine AH Ng wj AB AB AB AB AB AB ?_;exact⟨(j+1,GC (sb s.lot) z.D m2,o3,_),⟨h3,hO3,hr3,hM3,hQ2⟩,by dsimp only;omega,AK⟩
 ·rw[YU q1]
  refine GG w1 900 [4,5,6,7,8,9] [] ?_;refine AF kB ?_;refine Bk.nil ?_;have c4:=SN fZ q3 (by omega);have fA:=Rs fZ q3;obtain⟨z2,hz2⟩:∃z2,Ki z y=z2:=⟨_,rfl⟩
  rw[hz2]at c4 fA;refine BM ?_;refine sZ 1000 ?_;refine AF kB ?_;refine AO ?_;refine Aq 1100 ?_;refine AF kB ?_;refine cI c4 ?_;refine AF kB ?_;refine Il (by kernel_rfl) ?_;change Bk _ _ _ _ _ ([0,1,2,3]++(4::[])) _ _;refine GG w1 1200 [0,1,2,3] _ ?_;refine AF kB ?_;refine Bk.put (l:=m2) w1 rfl rfl rfl rfl rfl rfl hO hr0 hM (λF3 o3 hto3 hO3 hr3 hM3=>Bk.nil ?_);refine BM ?_;have hQ2:MQ (w*(64*i+(j+1))) (G4 x (j+1) (CU (l.take i))) (GC (sb s.lot) z2.D m2):=by
   rw[hsn,hPW1];unfold Kj;rw[q2];exact MQ.set s.lot ⟨fA.is,fA.rk.mono (by omega)⟩ (hQ.mono (by omega))
  refine AH Ng wj AB AB AB AB AB AB ?_;exact⟨(j+1,GC (sb s.lot) z2.D m2,o3,_),⟨h3,hO3,hr3,hM3,hQ2⟩,by dsimp only;omega,AK⟩
theorem AE.ok.w5 {x:AE}(h:x.ok):x.okW 5:=⟨h.1,h.2.1,λs hs=>by
 obtain⟨a,b,c⟩:=h.2.2 s hs;exact⟨a,by omega,c,kM c b⟩⟩
theorem d9f (b:Bool)(l:List AE)(hl:l.length<=100)(hx:∀x∈l,x.ok):Ad C0 48 [Aj b l] (λd=>∃m,d=mapD m/\MQ 32000 (CU l) m):=
 (gZ 5 b l hl (λx h=>(hx x h).w5) (by omega) (by omega)).mono λd ⟨m,h1,h2⟩=>⟨m,h1,h2.mono (by omega)⟩
def Wc (r:Rat):List UInt8:=if DJ r=true then[]else A0 r
def Wb (r:Rat):Nat:=if DJ r=true then 4 else 0
set_option maxHeartbeats 8000000
theorem V2 {l:List UInt8}(h:Cj l=0):rR (Bv l)=str (sb l):=by unfold rR;rw[(O3 h).2.2.1]
set_option maxHeartbeats 4000000
theorem Yn (n:Nat):DS (Lib.decDigits n)=true:=by
 obtain⟨h1,h2,h3⟩:=E6 n;rcases EC n with h|h
 ·have e:Lib.decDigits n=[48]:=by
   have:=aB 0
   rw[h];exact DN (this.trans (Ax rfl))
  rw[e];rfl
 ·obtain⟨c,l,e,hc⟩:=ol (Nat.pos_iff_ne_zero.1 h)
  rw[e]at h1⊢;unfold DS Lg;rw[h1];simp[hc]
theorem Vh {n:Nat}{l:List UInt8}(h:n≠dv l):decide (Lib.decDigits n=l)=false:=A8 λe=>h (by rw[<-e,(E6 n).2.1])
theorem an {r:Rat}(h:DJ r=false):Cj (A0 r)=0:=by
 have hs:CG (A0 r)=Lib.decDigits r.num.natAbs:=by unfold CG;rw[Pc,(MU _).2]
 have hd:=NZ r;have hh:=Rt r;unfold DJ at h;simp only[Hj,Hh]at h;have hb:KN (A0 r)=false:=by
  rw[Q3,hs,VQ,hh,Yn];have e1:(decide (r.num<0)&&decide (Lib.decDigits r.num.natAbs=[48]))=false:=by
   by_cases g:r.num<0
   ·rw[Vh (show r.num.natAbs≠dv [48] by show r.num.natAbs≠0;omega),Bool.and_false]
   ·rw[A8 g,II]
  rw[e1]
  by_cases g:r.den=1
  ·rw[Ax g];rfl
  ·rw[hd,AG g,Yn,Vh (show r.den≠dv [48]from r.den_nz),Vh (show r.den≠dv [49]from g),A8 g];rfl
 unfold Cj;rw[hb,AG (by decide),hs]
 by_cases g:r.den=1
 ·rw[hd,AI g,hh,Ax g,AG (by simp;omega),AG (λk=>Ak k.1 (by decide))]
 ·rw[hd,AG g,(E6 _).2.1,(E6 _).2.1,CM,AG (λk=>k.2 r.reduced)]
theorem nq (r:Rat):Bv (A0 r)=r:=by
 unfold Bv Hb;rw[Pc,bv,Rt,NZ]
 by_cases g:r.den=1
 ·rw[Ax g]
  show mkRat r.num 1=r;rw[<-g];exact Rat.mkRat_self r
 ·rw[A8 g,AG g,(E6 _).2.1]
  exact Rat.mkRat_self r
theorem sP:rR 0=str ⟨#[48]⟩:=by
 have h:Bv [48]=0:=by kernel_rfl
 rw[<-h,V2 (by kernel_rfl)];all_goals rfl
theorem mJ (r:Rat):BI (sb (A0 r)) ⟨#[49]⟩=decide (r=1):=by
 have h1:Bv [49]=1:=by kernel_rfl
 have e:(⟨#[49]⟩:ByteArray)=sb [49]:=rfl;rw[e,E8,DO];constructor
 ·intro h
  rw[<-nq r,h,h1]
 ·intro h
  rw[h]
  have:=(O3 (l:=[49]) (by kernel_rfl)).2.2.1
  rwa [h1]at this
end Go.Ide
namespace Go.Proofs
open Go.Shelf Go.RowKit Go.Lib Go.Sort
open Tryz
theorem Ck {o:Option Func}{a b:Func}(h:o=some a)(k:a=b:=by kernel_rfl):o=some b:=h.trans (congrArg some k)
def Tryz.sortAmounts_ren:Go.Shelf.Ren:=⟨fun|6=>82|15=>115|14=>114|28=>161|29=>162|20=>153|21=>154|22=>155|23=>156|24=>157|25=>158|26=>159|27=>160|46=>209|47=>210|48=>211|49=>212|50=>213|57=>242|n=>n,fun|22=>40|24=>66|25=>128|3=>3|39=>160|0=>0|53=>212|55=>190|4=>4|46=>205|45=>204|50=>209|5=>5|9=>9|66=>245|70=>249|76=>270|77=>271|n=>n,fun|n=>n⟩
theorem e2m:Go.Proofs.SlLaysF0.n6 Tryz.prog Tryz.sortAmounts_ren:={
 mixed:=by kernel_rfl
 f6:=⟨Tryz.f82.name,by decide,Ck func82⟩
 f14:=⟨Tryz.f114.name,by decide,Ck func114⟩
 f15:=Ck func115
 f20:=⟨Tryz.f153.name,by decide,Ck func153⟩
 f21:=⟨Tryz.f154.name,by decide,Ck func154⟩
 f22:=⟨Tryz.f155.name,by decide,Ck func155⟩
 f23:=⟨Tryz.f156.name,by decide,Ck func156⟩
 f24:=⟨Tryz.f157.name,by decide,Ck func157⟩
 f25:=⟨Tryz.f158.name,by decide,Ck func158⟩
 f26:=⟨Tryz.f159.name,by decide,Ck func159⟩
 f27:=⟨Tryz.f160.name,by decide,Ck func160⟩
 f28:=Ck func161
 f29:=Ck func162
 f46:=⟨Tryz.f209.name,by decide,Ck func209⟩
 f47:=Ck func210
 f48:=Ck func211
 f49:=⟨Tryz.f212.name,by decide,Ck func212⟩
 f50:=⟨Tryz.f213.name,by decide,Ck func213⟩
 f57:=⟨Tryz.f242.name,by decide,Ck func242⟩
 t0:=underlying0
 a0:=isAgg0
 z0:=sizeOf0
 v0:=zeroValue0
 t3:=underlying3
 a3:=isAgg3
 z3:=sizeOf3
 v3:=zeroValue3
 t4:=underlying4
 a4:=isAgg4
 z4:=sizeOf4
 v4:=zeroValue4
 t5:=underlying5
 a5:=isAgg5
 z5:=sizeOf5
 v5:=zeroValue5
 t9:=underlying9
 a9:=isAgg9
 z9:=sizeOf9
 v9:=zeroValue9
 t22:=underlying40
 a22:=isAgg40
 z22:=sizeOf40
 v22:=zeroValue40
 t25:=underlying128
 a25:=isAgg128
 z25:=sizeOf128
 v25:=zeroValue128
 t39:=underlying160
 a39:=isAgg160
 z39:=sizeOf160
 v39:=zeroValue160
 t45:=underlying204
 a45:=isAgg204
 z45:=sizeOf204
 v45:=zeroValue204
 t46:=underlying205
 a46:=isAgg205
 z46:=sizeOf205
 v46:=zeroValue205
 t50:=underlying209
 a50:=isAgg209
 z50:=sizeOf209
 v50:=zeroValue209
 t53:=underlying212
 a53:=isAgg212
 z53:=sizeOf212
 v53:=zeroValue212
 t55:=underlying190
 a55:=isAgg190
 z55:=sizeOf190
 v55:=zeroValue190
 t66:=underlying245
 a66:=isAgg245
 z66:=sizeOf245
 v66:=zeroValue245
 t70:=underlying249
 a70:=isAgg249
 z70:=sizeOf249
 v70:=zeroValue249
 t76:=underlying270
 a76:=isAgg270
 z76:=sizeOf270
 v76:=zeroValue270
 t77:=underlying271
 a77:=isAgg271
 z77:=sizeOf271
 v77:=zeroValue271 }
end Go.Proofs
namespace Go.Ide
open Go.Proofs Go.RowKit Go.Sort
set_option maxRecDepth 20000
def Bl (p:List UInt8×Rat):D:=.agg [str (sb p.1),str (sb (A0 p.2))]
instance d9I (p:List UInt8×Rat):AX (Bl p):=by unfold Bl;exact AJ
instance d9J (p:List UInt8×Rat):AA (Bl p):=by unfold Bl;exact AJ
def Li (p:List UInt8×Rat):List Value:=[.string (sb p.1),.string (sb (A0 p.2))]
def Ii (x y:List UInt8):Int:=if x<y then -1 else if y<x then 1 else 0
theorem RE (x y:List UInt8×Rat):ltOf (λx y:List UInt8×Rat=>Ii x.1 y.1) x y=ltStr x.1 y.1:=by
 unfold ltOf Ii ltStr
 by_cases h:x.1<y.1
 ·simp[h]
 ·by_cases h2:y.1<x.1<;>simp[h,h2]
theorem e1f:SWO (ltOf (λx y:List UInt8×Rat=>Ii x.1 y.1)) where
 irrefl x:=by rw[RE];exact swo_ltStr.irrefl _
 trans x y z h1 h2:=by rw[RE]at*;exact swo_ltStr.trans _ _ _ h1 h2
 ntrans x y z h1 h2:=by rw[RE]at*;exact swo_ltStr.ntrans _ _ _ h1 h2
set_option maxHeartbeats 1000000 in
theorem oH (x:ByteArray)(W:World):Calls Tryz.prog 116 #[.string x] W λe w'=>e=.returned (.bool false)/\w'=W:=by
 go_enter Tryz.func116,Tryz.ntmps116
 go_wp2
 go_ret
 exact⟨by simp,rfl⟩
theorem Yy (x:List UInt8):(sb x).toList=x:=by rw[Lib.toList_data]
set_option maxHeartbeats 1000000 in
theorem li (x y:List UInt8)(W:World):Calls Tryz.prog 84 #[.string (sb x),.string (sb y)] W λe w'=>e=.returned (.int .i64 (Ii x y))/\w'=W:=by
 go_enter Tryz.func84,Tryz.ntmps84
 go_wp2_with (go_at_call 116;refine(oH _ _).mono ?_;rintro e w' ⟨rfl,hw⟩;rw[hw])
 all_goals go_ret
 all_goals(refine⟨?_,rfl⟩)
 ·have h:Op.bytesLess x y=true:=by assumption
  rw[bytesLess_eq,HH]at h;unfold Ii;rw[AI h];rfl
 ·have h:Op.bytesLess x y=false:=by assumption
  have h2:(!x==y)=true:=by assumption
  rw[bytesLess_eq,Hh]at h;have h3:y<x:=DG λq=>by
   have:=List.le_antisymm (List.not_lt.1 q) (List.not_lt.1 h)
   simp[this]at h2
  unfold Ii;rw[AG h,AI h3];rfl
 ·have h:Op.bytesLess x y=false:=by assumption
  have h2:(!x==y)=false:=by assumption
  rw[bytesLess_eq,Hh]at h;have h3:¬y<x:=λq=>by
   have:x=y:=by simpa using h2
   rw[this]at q;exact List.lt_irrefl _ q
  unfold Ii;rw[AG h,AG h3];rfl
set_option maxHeartbeats 1000000 in
theorem lh (x y:List UInt8×Rat)(W:World):Calls Tryz.prog 83 #[.agg (Li x).toArray,.agg (Li y).toArray] W λe w'=>e=.returned (.int .i64 (Ii x.1 y.1))/\∃q os',w'=grow (W.drewN q) os':=by
 have hcon:=li x.1 y.1;unfold Li;generalize Ii x.1 y.1=r at hcon⊢;generalize sb x.1=a at hcon⊢;generalize sb y.1=b at hcon⊢;generalize sb (A0 x.2)=c;generalize sb (A0 y.2)=d
 go_enter Tryz.func83,Tryz.ntmps83
 go_wp2_with (go_at_call 84;refine(hcon _).mono ?_;rintro e w' ⟨rfl,rfl⟩)
 go_ret
 exact⟨rfl,0,_,by rw[alloc_eq_grow,alloc_eq_grow,grow_grow];rfl⟩
theorem szA:(Tryz.prog.info? 66).map (λi=>i.size)=some 2:=by kernel_rfl
theorem kW:JC Tryz.prog 66=true:=by kernel_rfl
theorem unA:(Tryz.prog.underlying 66).isSome=true:=by kernel_rfl
theorem d9t (w:World):(Go.sizeOf 66).run Tryz.prog w=.ok 2 w:=by
 obtain⟨i,h1,h2⟩:=Ez.1 szA;rw[HS h1,h2]
theorem e0h (w:World):(isAgg 66).run Tryz.prog w=.ok true w:=by
 obtain⟨u,h1⟩:=Option.isSome_iff_exists.1 unA;rw[RI h1,kW]
theorem yM:dR Tryz.prog 82 83 Li 2 (ltOf λx y:List UInt8×Rat=>Ii x.1 y.1):=λblk cap d w hH hb hd=>
 AnyQ.slices_SortFunc e2m 2 e0h d9t Li (λ_=>rfl) (λx v hv=>by simp[Li]at hv;rcases hv with rfl|rfl<;>rfl)
  (λx y=>Ii x.1 y.1) e1f 83 #[] blk 0 cap d w (enters_of Tryz.func83 (by kernel_rfl) rfl) (λ_ _ _ _ x y=>lh x y _) hH hb hd
theorem ko (l:List (List UInt8×Rat))(hl0:l≠[])(hl:l.length<4611686018427387904)(kb gg:Nat)(H:Hp)(n:Nat):
  Cv C0 82 [.osl kb gg 2 0 l.length,.clo (.func 83) [] []] (⟨kb,gg,66,2,l.map Bl⟩::H) n
   (λd H' n'=>d=.tup []/\n'=n+1/\∃l':List (List UInt8×Rat),l'.Perm l/\l'.Pairwise (λa b=>ltStr b.1 a.1=false)/\H'=⟨kb,gg,66,2,l'.map Bl⟩::H):=
 (oZ (C:=C0) (f:=82) (g:=83) (enc:=Li) (k:=2) (toD:=Bl) (lt:=ltOf λx y:List UInt8×Rat=>Ii x.1 y.1) (by obtain⟨fn,a1,a2,a3,-⟩:=jH;exact⟨fn,_,a1,a2,a3⟩) (by decide) (λ_=>rfl) (λx v hv=>by simp[Li]at hv;rcases hv with rfl|rfl<;>rfl) (λx=>rfl) yM l hl0 hl kb gg _ H n).mono λd H' n' ⟨h1,h2,l',h3,h4,h5⟩=>
  ⟨h1,h2,l',h3,h4.imp λh=>by rw[RE]at h;exact h,h5⟩
theorem o4:AL C0 82 [Cd,.clo (.func 83) [] []] (.tup []):=Cb D5 400 40
end Go.Ide
namespace Go.Proofs
open Go.Shelf Go.RowKit Go.Lib Go.Sort
open Tryz
def Tryz.sortedZ_ren:Go.Shelf.Ren:=⟨fun|6=>95|8=>134|9=>135|11=>191|13=>115|12=>192|23=>161|24=>162|14=>223|15=>224|16=>225|17=>226|18=>227|19=>228|20=>229|21=>230|22=>231|25=>253|26=>210|27=>211|28=>254|29=>255|30=>116|31=>267|n=>n,fun|26=>9|28=>144|24=>141|0=>0|3=>3|37=>160|48=>212|50=>190|4=>4|40=>205|39=>204|45=>209|5=>5|9=>9|51=>245|55=>249|57=>270|58=>271|33=>95|n=>n,fun|n=>n⟩
theorem e2o:Go.Proofs.SlLaysZ.n6 Tryz.prog Tryz.sortedZ_ren:={
 mixed:=by kernel_rfl
 f6:=⟨Tryz.f95.name,by decide,Ck func95⟩
 f8:=⟨Tryz.f134.name,by decide,Ck func134⟩
 f11:=⟨Tryz.f191.name,by decide,Ck func191⟩
 t0:=underlying0
 a0:=isAgg0
 z0:=sizeOf0
 v0:=zeroValue0
 t24:=underlying141
 a24:=isAgg141
 z24:=sizeOf141
 v24:=zeroValue141
 t26:=underlying9
 a26:=isAgg9
 z26:=sizeOf9
 v26:=zeroValue9
 t28:=underlying144
 a28:=isAgg144
 z28:=sizeOf144
 v28:=zeroValue144
 i26:=by kernel_rfl }
open Tryz
def Tryz.keysZ_ren:Go.Shelf.Ren:=⟨fun|10=>136|n=>n,fun|33=>95|23=>89|0=>0|4=>4|26=>9|3=>124|n=>n,fun|n=>n⟩
theorem e2l:Go.Proofs.SlLaysZ.n10 Tryz.prog Tryz.keysZ_ren:={
 mixed:=by kernel_rfl
 f10:=⟨Tryz.f136.name,by decide,Ck func136⟩
 t0:=underlying0
 a0:=isAgg0
 z0:=sizeOf0
 v0:=zeroValue0
 t4:=underlying4
 a4:=isAgg4
 z4:=sizeOf4
 v4:=zeroValue4
 t23:=underlying89
 a23:=isAgg89
 z23:=sizeOf89
 v23:=zeroValue89
 t26:=underlying9
 a26:=isAgg9
 z26:=sizeOf9
 v26:=zeroValue9
 t33:=underlying95
 a33:=isAgg95
 z33:=sizeOf95
 v33:=zeroValue95 }
open Tryz
def Tryz.sortM_ren:Go.Shelf.Ren:=⟨fun|6=>135|8=>115|9=>192|19=>161|20=>162|21=>223|22=>224|23=>225|24=>226|25=>227|26=>228|27=>229|28=>230|29=>231|36=>253|31=>210|32=>211|37=>254|38=>255|39=>116|41=>267|n=>n,fun|27=>141|29=>9|3=>3|32=>160|26=>141|0=>0|44=>212|46=>190|4=>4|36=>205|35=>204|41=>209|5=>5|9=>9|53=>245|57=>249|63=>270|64=>271|n=>n,fun|n=>n⟩
theorem kE:Go.Proofs.SlLaysM.n6 Tryz.prog Tryz.sortM_ren:={
 mixed:=by kernel_rfl
 f6:=⟨Tryz.f135.name,by decide,Ck func135⟩
 f8:=Ck func115
 f9:=⟨Tryz.f192.name,by decide,Ck func192⟩
 f19:=Ck func161
 f20:=Ck func162
 f21:=⟨Tryz.f223.name,by decide,Ck func223⟩
 f22:=⟨Tryz.f224.name,by decide,Ck func224⟩
 f23:=⟨Tryz.f225.name,by decide,Ck func225⟩
 f24:=⟨Tryz.f226.name,by decide,Ck func226⟩
 f25:=⟨Tryz.f227.name,by decide,Ck func227⟩
 f26:=⟨Tryz.f228.name,by decide,Ck func228⟩
 f27:=⟨Tryz.f229.name,by decide,Ck func229⟩
 f28:=⟨Tryz.f230.name,by decide,Ck func230⟩
 f29:=⟨Tryz.f231.name,by decide,Ck func231⟩
 f31:=Ck func210
 f32:=Ck func211
 f36:=⟨Tryz.f253.name,by decide,Ck func253⟩
 f37:=⟨Tryz.f254.name,by decide,Ck func254⟩
 f38:=⟨Tryz.f255.name,by decide,Ck func255⟩
 f39:=⟨Tryz.f116.name,by decide,Ck func116⟩
 f41:=⟨Tryz.f267.name,by decide,Ck func267⟩
 t0:=underlying0
 a0:=isAgg0
 z0:=sizeOf0
 v0:=zeroValue0
 t3:=underlying3
 a3:=isAgg3
 z3:=sizeOf3
 v3:=zeroValue3
 t4:=underlying4
 a4:=isAgg4
 z4:=sizeOf4
 v4:=zeroValue4
 t5:=underlying5
 a5:=isAgg5
 z5:=sizeOf5
 v5:=zeroValue5
 t9:=underlying9
 a9:=isAgg9
 z9:=sizeOf9
 v9:=zeroValue9
 t26:=underlying141
 a26:=isAgg141
 z26:=sizeOf141
 v26:=zeroValue141
 t27:=underlying141
 a27:=isAgg141
 z27:=sizeOf141
 v27:=zeroValue141
 t29:=underlying9
 a29:=isAgg9
 z29:=sizeOf9
 v29:=zeroValue9
 t32:=underlying160
 a32:=isAgg160
 z32:=sizeOf160
 v32:=zeroValue160
 t35:=underlying204
 a35:=isAgg204
 z35:=sizeOf204
 v35:=zeroValue204
 t36:=underlying205
 a36:=isAgg205
 z36:=sizeOf205
 v36:=zeroValue205
 t41:=underlying209
 a41:=isAgg209
 z41:=sizeOf209
 v41:=zeroValue209
 t44:=underlying212
 a44:=isAgg212
 z44:=sizeOf212
 v44:=zeroValue212
 t46:=underlying190
 a46:=isAgg190
 z46:=sizeOf190
 v46:=zeroValue190
 t53:=underlying245
 a53:=isAgg245
 z53:=sizeOf245
 v53:=zeroValue245
 t57:=underlying249
 a57:=isAgg249
 z57:=sizeOf249
 v57:=zeroValue249
 t63:=underlying270
 a63:=isAgg270
 z63:=sizeOf270
 v63:=zeroValue270
 t64:=underlying271
 a64:=isAgg271
 z64:=sizeOf271
 v64:=zeroValue271 }
theorem e2q (m:Nat):AnyZ.SortsIn Tryz.prog Tryz.sortedZ_ren Fence.wide m:=
 ⟨λblk off cap ss W hH hblk hsz=>callsIn_wide.2 (AnyM.slices_Sort_string kE blk off cap ss W hH hblk hsz),
  λp cap W=>callsIn_wide.2 (AnyM.slices_Sort_string_none kE p cap W)⟩
theorem e2p {H:Type}(Bm b nn:Nat)(D0:DataW H){R:Value->Option (DataW H×List MemPlace)}(w:World)(hBm:Bm<w.heap.size)
  (hm:w.cell? ⟨Bm,0,none⟩=some (.map (some b))) (hown:w.ownsMap Tryz.prog 9 R b nn D0) (hN:Maps.size D0<=10000):
  Calls Tryz.prog 95 #[.func (.func 136) #[] #[.pointer (some ⟨Bm,0,none⟩)]] w λe w'=>∃(v:Value) (ss:List (List UInt8)),e=.returned v/\ss.Perm (strKeys D0) /\
   w'.ownsRow w.heap.size 9 1 v ss.length ((ss.mergeSort (λx y=>decide (x<=y))).map encStr)/\Below w.heap.size w w':=
 (callsIn_wide.1 (AnyZ.sorted_in e2o Fence.wide 6 trivial trivial trivial trivial rfl (by omega) (e2q _) (enters_of Tryz.func135 (by kernel_rfl) rfl) 136 _ trivial (enters_of Tryz.func136 (by kernel_rfl) rfl) _ _ (Nat.le_trans hN (by decide)) (by omega) w
  (AnyZ.keys_gives e2l Fence.wide _ trivial rfl (by omega) Bm b nn D0 w hBm hm hown))).mono λe w' ⟨v,ss,h1,h2,h3,_,h5⟩=>⟨v,ss,h1,h2,h3,h5⟩
end Go.Proofs
namespace Go.Ide
open Go.Proofs Go.RowKit Go.Sort
set_option maxRecDepth 20000
def Px (ks:List (List UInt8)):List (List UInt8):=ks.mergeSort λx y=>decide (x<=y)
theorem ax (k:List UInt8)(hb:k.length<=maxLen):keyOf Tryz.prog 9 (encStr k)=some (.string k):=by
 simp[keyOf,mapKey,hb,ByteArray.size,encStr]
theorem kp {H:Type}{R:Value->Option (DataW H×List MemPlace)}{z:DataW H}(hR:∀v,R v=some (z,[]))(es:List MapEntry)(ks:List (List UInt8))(hk:es.map (·.key)=ks.map encStr)(hb:∀k∈ks,k.length<=maxLen):
  (strKeys (DataW.map ((es.map (WideElems.rg Tryz.prog 9 R)).foldr DataW.insert []))).Perm ks:=by
 show(((es.map (WideElems.rg Tryz.prog 9 R)).foldr DataW.insert []).map λp=>strOf p.1).Perm ks;refine((WideShapes.sorted_perm _).map _).trans ?_;rw[List.map_map]
 have:es.map ((λp:Lit×DataW H=>strOf p.1) ∘ WideElems.rg Tryz.prog 9 R)=ks:=by
  induction es generalizing ks with
  |nil=>
   cases ks with
   |nil=>rfl
   |cons a l=>simp at hk
  |cons e es ih=>
   cases ks with
   |nil=>simp at hk
   |cons k ks=>
    simp only[Ci,FW]at hk;rw[Ci,ih ks hk.2 λk h=>hb k (B9 _ h)]
    congr 1
    have h1:=ax k (hb k B1);rw[<-hk.1]at h1;show strOf ((WideElems.rd Tryz.prog 9 R e).getD _).1=k;unfold WideElems.rd;rw[h1,hR];rfl
 rw[this]
theorem GV (l:DV)(ks:List (List UInt8))(hks:l.map (·.1)=ks.map sb)(hl:l.length<=10000)(hb:∀k∈ks,k.length<=1000)(hnd:ks.Nodup)(kb g T:Nat)(H:Hp)(n:Nat):
  Cv C0 95 [.clo (.func 136) [] [.optr kb g 1 0 0]] (⟨kb,g,T,1,[mapD l]⟩::H) n
   (λd H' n'=>d=.sl false 1 ((Px ks).map λx=>str (sb x))/\H'=⟨kb,g,T,1,[mapD l]⟩::H/\n'=n+1):=by
 refine⟨by obtain⟨fn,a1,a2,a3,-⟩:=jN;exact⟨fn,_,a1,a2,a3⟩,λF ρ w vs m fr gn hsz rep=>?_⟩;obtain⟨v0,rfl⟩:∃v0,vs = #[v0]:=by
  match vs,hsz with
  |⟨[a]⟩,_=>exact⟨a,rfl⟩
 have r0:AU ρ _ w (.clo _ [] [.optr kb g 1 0 0]) v0:=rep 0 _ rfl;cases r0 with
 |clo hf1 hc1 _ h2=>
  rename_i fs cs1 _;simp at hf1 hc1;subst hf1;obtain⟨c,rfl⟩:∃c,cs1 = #[c]:=by
   match cs1,hc1 with
   |⟨[a]⟩,_=>exact⟨a,rfl⟩
  have r1:AU ρ _ w (.optr kb g 1 0 0) c:=h2 0 _ rfl;cases r1 with
  |optr hr=>
   rename_i b;have hent:∃cs,w.heap[b]?=some (.cells cs T (0,0))/\Dd ρ (AN F.X ρ (⟨kb,g,T,1,[mapD l]⟩::H)) w ⟨kb,g,T,1,[mapD l]⟩ cs:=by
    rcases m.hok.ent _ B1 with⟨h,h2⟩|⟨b2,cs2,a1,a2,a3⟩
    ·exact Ak (hr.symm.trans h2) (by simp)
    ·cases hr.symm.trans a1;exact⟨cs2,a2,a3⟩
   obtain⟨cs,hcb,hok⟩:=hent;have hlt:b<w.heap.size:=m.lt B1 hr;have hr0:=hok.rep 0 (mapD l) 0 (mapD l) rfl rfl;have h9:1<=cs.size:=by simpa using hok.len
   have hcs:0<cs.size:=h9;rw[Aw,B8 (by simpa using hcs)]at hr0;simp only[Hl,D6,JV]at hr0;obtain⟨v,hv⟩:∃v,cs[0]=v:=⟨_,rfl⟩
   rw[hv]at hr0;unfold mapD at hr0;cases hr0 with
   |mp hO hrl hb3 h1 h2 hBo hk hvv=>
    rename_i r clock es;rw[Ae]at h1;have hkey:es.toList.map (·.key)=ks.map encStr:=by
     apply Qf;intro i;rw[Az,Az];have hli:=congrArg (λq=>q[i]?) hks;simp only[Az]at hli;rcases BC i l.length with hi|hi
     ·have hd:=hk i (.prim (.string l[i].1)) (by rw[Az,Bx hi];rfl)
      rw[Bx hi]at hli;obtain⟨kk,hkk,hkk2⟩:=Ez.1 hli.symm;have hi2:i<es.size:=by omega
      rw[Aw,B8 hi2]at hd;rw[hkk,Jx,B8 hi2];simp only[J6,BN,JV]at hd⊢;generalize es[i].key=kv at hd;cases hd;have h8:sb kk=l[i].1:=hkk2;rw[<-h8]
     ·have h5:ks.length=l.length:=by have:=congrArg List.length hks;simpa using this.symm
      rw[EB (by simp;omega),EB (by omega)];rfl
    have hkn:(es.toList.map (·.key)).Nodup:=by
     rw[hkey];exact List.pairwise_map.2 (hnd.imp λh q=>h (encStr_inj q))
    have hbm:∀k∈ks,k.length<=maxLen:=λk h=>BV (hb k h) (by decide)
    let R:Value->Option (DataW Unit×List MemPlace):=λ_=>some (.nil,[])
    have hown:w.ownsMap Tryz.prog 9 R r es.size (.map ((es.toList.map (WideElems.rg Tryz.prog 9 R)).foldr DataW.insert [])):=by
     refine⟨es,clock,hb3,⟨BV (by omega:es.size<=10000) (by decide),⟨λx hx=>?_,hBo.nodup,hkn⟩,λx hx=>?_⟩,An _,rfl⟩
     ·obtain⟨j,hj⟩:=L1.1 hx
      exact hBo.1 j x (by simpa using hj)
     ·have:x.key∈es.toList.map (·.key):=List.mem_map_of_mem hx
      rw[hkey]at this;obtain⟨k,hk1,hk2⟩:=By.1 this;have h1:=ax k (hbm k hk1);rw[hk2]at h1;exact⟨_,by unfold WideElems.rd;rw[h1];rfl⟩
    have hsk:=kp (H:=Unit) (R:=R) (z:=.nil) (λ_=>rfl) es.toList ks hkey hbm;have hcell:w.cell? ⟨b,0,none⟩=some (.map (some r)):=by
     unfold World.cell?;simp only[hcb];rw[B8 hcs,hv];rfl
    have hsize:Maps.size (DataW.map ((es.toList.map (WideElems.rg Tryz.prog 9 R)).foldr DataW.insert []))<=10000:=by
     rw[Maps.size_eq,(WideShapes.sorted_perm _).length_eq,Ae,Io];omega
    refine(e2p b r es.size _ w hlt hcell hown hsize).mono ?_;rintro e w' ⟨v,ss,rfl,hp,hrow,hbw⟩;have hss:ss.mergeSort (λx y=>decide (x<=y))=Px ks:=mergeSort_of_perm (hp.trans hsk);rw[hss]at hrow;have x:BY ρ (AN F.X ρ (⟨kb,g,T,1,[mapD l]⟩::H)) w ρ (AN F.X ρ (⟨kb,g,T,1,[mapD l]⟩::H)) w':=⟨hbw.size,λ_ _ _ h=>h,λb hb' hO=>⟨hO,hbw.block b hb'⟩,λb cs T fz hh=>⟨cs,_,by
     rw[hbw.block b (DB.1 hh).1];exact hh,rfl⟩⟩
    refine⟨v,_,_,n+1,ρ,rfl,⟨rfl,rfl,rfl⟩,m.same x hbw.os hbw.tape hbw.output hbw.block,x,λa b h=>fr a b (by omega),λe he=>Dg (gn e he),?_⟩;obtain⟨K,hK⟩:∃K,Px ks=K:=⟨_,rfl⟩
    rw[hK]at hrow⊢;obtain⟨hlen,⟨rfl,hz⟩|⟨gb,cap,cur,rfl,hbase,hgb,q1,q2,q3,q4⟩⟩:=hrow
    ·rw[hz,Ae]at hlen
     have:K=[]:=List.length_eq_zero_iff.1 (by omega)
     rw[this];exact .nil 1
    ·rw[Ae,EY]at hlen
     rw[EY]at q3 q4;have hat:∀j x,K[j]?=some x->cur[j]?=some (Value.string (sb x)):=λj x hx=>by
      have hj:j<K.length:=(BS.1 hx).1
      have:=congrArg (λq=>q[j]?) q4
      simp only[FU,Az,hx,J6]at this;rw[DR]at this;simpa using this
     have hall:∀j,j<ss.length*1->∃x,cur[j]?=some (Value.string (sb x)):=λj hj=>by
      have:j<K.length:=by omega
      exact⟨_,hat j _ (Bx this)⟩
     refine .sl (λj=>cur.getD j undef) (by rw[Ae,hlen]) q1 ?_ (DB.1 hgb).1 ?_ ?_ ?_ ?_
     ·rintro(h|⟨e,he,h⟩)
      ·have:=m.xlt _ h;have:=m.size;omega
      ·have:=m.lt he h;omega
     ·intro i e h
      rw[Az]at h;obtain⟨x,-,rfl⟩:=Ez.1 h;rfl
     ·intro j hj
      obtain⟨x,hx⟩:=hall j hj;unfold World.cell?;simp only[hgb,BW];rw[hx,Aw,hx];rfl
     ·intro j hj
      obtain⟨x,hx⟩:=hall j hj;rw[Aw,hx];rfl
     ·intro i e j d h h2
      rw[Az]at h;obtain⟨x,hx,rfl⟩:=Ez.1 h
      have:j=0:=by
       have:=(BS.1 h2).1
       exact Nat.lt_one_iff.1 this
      subst this;cases h2;show AU _ _ _ _ (cur.getD (i*1+0) undef);rw[EY,D6,Aw,hat i x hx];exact .prim _
end Go.Ide
namespace Go.Ide
open Go.Proofs Go.RowKit Go.Sort
set_option maxRecDepth 20000
set_option maxHeartbeats 4000000
def qv (q:BQ)(j:Nat):List UInt8×Rat:=q.getD j ([],0)
theorem Wl {q:BQ}{j:Nat}{p:List UInt8×Rat}(h:q[j]?=some p):qv q j=p:=by unfold qv;rw[ED,h];rfl
theorem MQ.len {B:Nat}:∀ {q:BQ} {m:DV},MQ B q m->q.length=m.length
 | [],[],_=>rfl
 |_::_,_::_,⟨_,h⟩=>by simp[MQ.len h]
theorem MQ.at_ {B:Nat}:∀ {q:BQ} {m:DV} (j:Nat) {e:ByteArray×D},MQ B q m->m[j]?=some e->∃(p:List UInt8×Rat) (y:GF),q[j]?=some p/\e=(sb p.1,y.D)/\FR p.2 y B
 | [],[],j,e,_,h=>by simp at h
 |p::q,e'::m,0,e,⟨⟨h1,y,h2,h3⟩,_⟩,h=>by
  simp at h;subst h;exact⟨p,y,rfl,by rw[<-h1,<-h2],h3⟩
 |_::q,_::m,j+1,e,⟨_,h4⟩,h=>by
  obtain⟨p,y,a,b,c⟩:=MQ.at_ j h4 (by simpa using h);exact⟨p,y,by simpa using a,b,c⟩
theorem UE:∀(n:Nat) (l:List Nat),l.Nodup->(∀i∈l,i<n)->l.length<=n
 | 0,[],_,_=>An _
 | 0,a::l,_,h=>Ak (h a (by simp)) (HJ a)
 |n+1,l,hd,h=>by
  by_cases hn:n∈l
  ·have h1:=UE n (l.erase n) (hd.erase n) λi hi=>by
    have h2:=h i (List.mem_of_mem_erase hi);have h3:i≠n:=(hd.mem_erase_iff.1 hi).1;omega
   rw[List.length_erase_of_mem hn]at h1;omega
  ·have h1:=UE n l hd λi hi=>by
    have h2:=h i hi;have h3:i≠n:=λe=>hn (e ▸ hi)
    omega
   omega
def GE (q:BQ):BQ:=q.mergeSort λa b=>!ltStr b.1 a.1
theorem LC (q:BQ):(GE q).Perm q:=List.mergeSort_perm _ _
theorem R5 (q:BQ):(GE q).Pairwise λa b=>ltStr b.1 a.1=false:=by
 have:=List.pairwise_mergeSort (le:=λa b:List UInt8×Rat=>!ltStr b.1 a.1) (λa b c h1 h2=>by simp only[Bs]at*;exact swo_ltStr.ntrans _ _ _ h2 h1) (λa b=>by
  cases h1:ltStr b.1 a.1 with
  |false=>rfl
  |true=>
   cases h2:ltStr a.1 b.1 with
   |false=>rfl
   |true=>have:=swo_ltStr.trans _ _ _ h1 h2;rw[swo_ltStr.irrefl]at this;cases this) q
 exact this.imp λh=>by simpa using h
theorem zj {q:BQ}(hn:(q.map (·.1)).Nodup){a b:List UInt8×Rat}(ha:a∈q)(hb:b∈q)(h:a.1=b.1):a=b:=by
 obtain⟨i,hi,rfl⟩:=List.mem_iff_getElem.1 ha;obtain⟨j,hj,rfl⟩:=List.mem_iff_getElem.1 hb
 have:i=j:=(List.getElem_inj (h₀:=by simpa using hi) (h₁:=by simpa using hj) hn).1 (by simpa using h)
 subst this;rfl
theorem Qw {a b:List UInt8}(h1:ltStr a b=false)(h2:ltStr b a=false):a=b:=by
 simp only[ltStr,Hh,List.not_lt]at h1 h2;exact List.le_antisymm h2 h1
theorem Ty {q l l':BQ}(hn:(q.map (·.1)).Nodup)(hp:l.Perm q)(hp':l'.Perm q)(hs:l.Pairwise λa b=>ltStr b.1 a.1=false)(hs':l'.Pairwise λa b=>ltStr b.1 a.1=false):l=l':=
 List.Perm.eq_of_pairwise (le:=λa b:List UInt8×Rat=>ltStr b.1 a.1=false) (λ_ _ ha hb h1 h2=>zj hn (hp.mem_iff.1 ha) (hp'.mem_iff.1 hb) (Qw h2 h1)) hs hs' (hp.trans hp'.symm)
theorem yg (q:BQ)(dn:List Nat)(hd:dn.Nodup)(h1:∀i∈dn,i<q.length)(h2:∀i,i<q.length->i∈dn):(dn.map (qv q)).Perm q:=by
 have hp:dn.Perm (List.range q.length):=(List.perm_ext_iff_of_nodup hd List.nodup_range).2 λa=>by
  rw[List.mem_range];exact⟨h1 a,h2 a⟩
 have he:(List.range q.length).map (qv q)=q:=by
  apply List.ext_getElem (by simp);intro i h3 h4;rw[List.getElem_map,List.getElem_range];exact Wl (Bx h4)
 have:=hp.map (qv q)
 rwa [he]at this
def Jp (q:BQ):BQ:=if q.any (λp=>DJ p.2)then[]else GE q
def Id (q:BQ):Nat:=if q.any (λp=>DJ p.2)then 4 else 0
def Kb (q:BQ):D:=.tup [.sl false 2 ((Jp q).map Bl),i64 (Id q:Nat)]
instance d7O (q:BQ):AA (Kb q):=by unfold Kb;exact AJ
theorem Zs (B:Nat)(hB9:B<100000)(q:BQ)(m:DV)(hm:MQ B q m)(hl:q.length<=10000)(hnd:(q.map (·.1)).Nodup):AL C0 47 [mapD m] (Kb q):=by
 refine Ad.walk w1 iR rfl λF0=>?_
 obtain⟨ks,hks⟩:∃ks:List D,m.map (λp=>(.prim (.string p.1):D))=ks:=⟨_,rfl⟩
 obtain⟨vs,hvs⟩:∃vs:List D,m.map (·.2)=vs:=⟨_,rfl⟩
 have hml:=hm.len;have hkl:ks.length=m.length:=by rw[<-hks,Ae]
 unfold mapD;rw[hks,hvs];refine sZ 0 ?_;refine AF kB ?_;refine sZ 100 ?_;refine AF kB ?_;refine AC.seq ?_;refine AC.seq ?_;refine Il (by kernel_rfl) ?_;change Bk _ _ _ _ _ ([0]++(1::[])) _ _;refine GG w1 200 [0] _ ?_;refine AF kB ?_;refine e1N 201 (PG (w1.xt 89 _ rfl)).1 rfl rfl rfl rfl (XM F0) (λF1 o1 hto hO hI=>Bk.nil ?_);refine BM ?_;refine AC.block ?_;refine Gi (α:=List Nat×Obj×Nat×Nat) (λp=>⟨[(8,.optr 201 4 0 0 0),(4,EL 706 p.2.2.1 2 (p.1.map λj=>Bl (qv q j)))],EG 706 p.2.2.1 66 2 (p.1.map λj=>Bl (qv q j)),p.2.2.2⟩) (λp=>q.length-p.1.length)
  (λp F=>DQ C0 F0 F [⟨201,4,p.2.1⟩]/\OA F p.2.1 ks vs p.1/\∀j∈p.1,DJ (qv q j).2=false) ([],o1,0,_) ⟨hO,hI,by simp⟩ AK ?_
 clear hO hI hto;rintro⟨dn,o,g7,n1⟩ F ⟨hO,hI,hB⟩;dsimp only at hO hI hB⊢;refine AC.seq ?_;refine Il (by kernel_rfl) ?_;change Bk _ _ _ _ _ [0,1] _ _;refine e1M rfl rfl rfl rfl hO hI (λhall=>?_) (λj kd vd F2 o2 hjn hkd hvd hto hO2 hI2=>?_)
 ·change Bk _ _ _ _ _ ([1]++[]) _ _
  refine GG w1 300 [1] [] ?_;refine AF kB ?_;refine Bk.nil ?_;refine BM ?_;refine AC.seq ?_;refine AO ?_;refine CO ?_;have hq2:∀j,j<q.length->j∈dn:=λj hj=>hall j (by rw[hkl,<-hml];exact hj)
  have hdn:dn.Nodup/\∀i∈dn,i<q.length:=by
   obtain⟨bm,es,clock,since,c0,seen,-,-,-,z4,-,-,-,-,-,-,-,-,z8,z9⟩:=hI;exact⟨z8,λi hi=>by have:=z9 i hi;omega⟩
  have hpm:=yg q dn hdn.1 hdn.2 hq2;have hpl:(dn.map (qv q)).length=q.length:=hpm.length_eq;have hbf:q.any (λp=>DJ p.2)=false:=by
   rw[List.any_eq_false];intro p hp;obtain⟨i,hpi⟩:=L1.1 hp;have hi:=(BS.1 hpi).1
   have:=hB i (hq2 i hi)
   rw[Wl hpi]at this;rw[this];exact Bool.false_ne_true
  have hmm:(dn.map λj=>Bl (qv q j))=(dn.map (qv q)).map Bl:=by rw[List.map_map];rfl
  rw[hmm];generalize hLL:dn.map (qv q)=LL at hpm hpl⊢;have hrs:Kb q=.tup [.sl false 2 ((GE q).map Bl),i64 0]:=by unfold Kb Jp Id;rw[hbf];rfl
  clear hmm hI hO hB hall hq2 hdn;rcases LL with _|⟨z,LL⟩
  ·have hqn:q=[]:=List.length_eq_zero_iff.1 (by rw[<-hpl];rfl)
   subst hqn;rw[show EL 706 g7 2 (List.map Bl [])=Cd from rfl,show EG 706 g7 66 2 (List.map Bl [])=[]from rfl];have cS:=o4;refine AH AW kB cS AB AB AB AB AB ?_;exact⟨_,I9 (.nil 2) (.refl _),AA.out,by rw[hrs,show GE []=[]from List.mergeSort_nil];rfl⟩
  ·have cS:=λkb gg H n=>ko (z::LL) (by simp) (by rw[hpl];omega) kb gg H n
   rw[Br]at cS;rw[show EL 706 g7 2 (List.map Bl (z::LL))=.osl 706 g7 2 0 ((LL.map Bl).length+1)from rfl,show EG 706 g7 66 2 (List.map Bl (z::LL))=[⟨706,g7,66,2,(z::LL).map Bl⟩]from rfl,Ae];refine AH AW kB cS AB AB AB AB AB ?_;refine BE.own _ (cS 706 g7 [] _) ?_;rintro d H' n' ⟨rfl,rfl,l',hp',hs',rfl⟩;have hpq:l'.Perm q:=hp'.trans hpm;have hl':=Ty hnd hpq (LC q) hs' (R5 q);have hl0:l'≠[]:=λq=>by rw[q]at hp';have:=hp'.length_eq;simp at this
   have hll:LL.length+1=l'.length:=by rw[hp'.length_eq];rfl
   rw[hll];rw[<-hl']at hrs;clear hl' cS hp' hs' hpm hll;refine AH AW kB AB AB AB AB AB AB ?_;rw[hrs];refine⟨_,I9 (?_:Fz _ [] _ (.sl false 2 (l'.map Bl))) (.refl _),AA.out,rfl⟩;rcases l' with _|⟨z',t'⟩
   ·exact Ak rfl hl0
   ·have:=SU 706 g7 66 2 ((z'::t').map Bl)
    rw[show EL 706 g7 2 ((z'::t').map Bl)=.osl 706 g7 2 0 ((t'.map Bl).length+1)from rfl,show EG 706 g7 66 2 ((z'::t').map Bl)=[⟨706,g7,66,2,(z'::t').map Bl⟩]from rfl,Ae]at this;exact this
 change Bk _ _ _ _ _ ([1]++[]) _ _;refine GG w1 300 [1] [] ?_;refine AF kB ?_;refine Bk.nil ?_;refine BM ?_;refine AC.seq ?_;refine AO ?_;refine Am ?_;obtain⟨p,hp⟩:∃p,m[j]?=some p:=by
  rw[<-hks,Az]at hkd;obtain⟨p,hp,-⟩:=Ez.1 hkd;exact⟨p,hp⟩
 obtain⟨pq,y,hq,rfl,hy⟩:=hm.at_ j hp;have hkd2:kd=str (sb pq.1):=by
  rw[<-hks,Az,hp]at hkd;exact(FY hkd).symm
 have hvd2:vd=y.D:=by
  rw[<-hvs,Az,hp]at hvd;exact(FY hvd).symm
 subst hkd2 hvd2;have hqv:=Wl hq;refine AC.block ?_;refine AC.seq ?_;refine Il (by kernel_rfl) ?_;change Bk _ _ _ _ _ (0::([1,2,3,4,5]++[])) _ _;refine e1K (xo:=⟨201,4,o2⟩) rfl rfl rfl rfl hO2 B1 hI2 hkd hvd ?_;refine GG w1 400 [1,2,3,4,5] [] ?_;refine AF kB ?_;refine Bk.nil ?_;have cL:=ay hy (by omega);have cT:=gB hy (by omega);obtain⟨bg,hbg⟩:∃b,DJ pq.2=b:=⟨_,rfl⟩
 rw[hbg]at cL;refine BM ?_;have hdl:dn.length+1<=q.length:=by
  have h1:∀i∈dn++[j],i<q.length:=by
   obtain⟨bm,es,clock,since,c0,seen,-,-,-,z4,-,-,-,-,-,-,-,-,-,z9⟩:=hI2;intro i hi
   have:=z9 i hi
   omega
  have h2:(dn++[j]).Nodup:=by
   obtain⟨bm,es,clock,since,c0,seen,-,-,-,-,-,-,-,-,-,-,-,-,z8,-⟩:=hI2;exact z8
  have:=UE _ _ h2 h1
  simpa using this
 have hsn:(dn++[j]).map (λj=>Bl (qv q j))=dn.map (λj=>Bl (qv q j))++[.agg [str (sb pq.1),str (sb (A0 pq.2))]]:=by rw[DA,Ci,List.map_nil,hqv];rfl
 have hTl:(dn.map λj=>Bl (qv q j)).length=dn.length:=Ae ..;obtain⟨TL,hTL⟩:∃TL,dn.map (λj=>Bl (qv q j))=TL:=⟨_,rfl⟩
 rw[hTL]at hsn hTl⊢;cases bg
 rotate_left
 ·have hrb:(D.tup [.sl false 2 [],i64 4])=Kb q:=by
   have:q.any (λp=>DJ p.2)=true:=by
    rw[List.any_eq_true];exact⟨pq,Au hq,hbg⟩
   unfold Kb Jp Id;rw[this];rfl
  rcases TL with _|⟨z,TL⟩
  ·dsimp only[IW,IX]
   refine AH AW kB cL AB AB AB AB AB ?_;exact⟨_,I9 (.nil 2) (.refl _),AA.out,hrb⟩
  ·dsimp only[Gu,Gv]
   refine AH AW kB cL AB AB AB AB AB ?_;exact⟨_,I9 (.nil 2) (.refl _),AA.out,hrb⟩
 have hB2:∀i∈dn++[j],DJ (qv q i).2=false:=λi hi=>by
  rcases Bn.1 hi with hi|hi
  ·exact hB i hi
  ·rw[Dz]at hi;rw[hi,hqv];exact hbg
 rcases TL with _|⟨z,TL⟩
 ·dsimp only[IW,IX]
  refine AH AW kB cL cT AB AB AB AB ?_;exact⟨(dn++[j],o2,_,_),⟨hO2,hI2,hB2⟩,by dsimp only;rw[Be,HN];omega,by(dsimp only;rw[hsn];exact AK)⟩
 ·dsimp only[Gu,Gv]
  have htk:List.take (TL.length+1) (z::TL)=z::TL:=by simp
  rw[Br]at hTl;refine AH AW htk cL cT AB AB AB AB ?_;exact⟨(dn++[j],o2,_,_),⟨hO2,hI2,hB2⟩,by dsimp only;rw[Be,HN];omega,by(dsimp only;rw[hsn,O0];exact AK)⟩
abbrev Cw (q:BQ):List (List UInt8):=q.map (·.1)
theorem Yz (lot:List UInt8)(r:Rat):∀q:BQ,Cw (HB lot r q)=if lot∈Cw q then Cw q else Cw q++[lot]
 | []=>by simp[HB,Cw]
 |p::l=>by
  unfold HB
  by_cases h:lot=p.1
  ·rw[AI h]
   subst h;simp[Cw]
  ·rw[AG h]
   show p.1::Cw (HB lot r l)=if lot∈p.1::Cw l then p.1::Cw l else p.1::Cw l++[lot]
   rw[Yz lot r l]
   by_cases h2:lot∈Cw l
   ·rw[AI h2,AI (B9 _ h2)]
   ·rw[AG h2,AG (by
     intro q;rcases A9.1 q with q|q
     ·exact h q
     ·exact h2 q)];rfl
structure H5 (P:List UInt8->Prop)(n:Nat)(q:BQ):Prop where
 nd:(Cw q).Nodup
 all:∀k∈Cw q,P k
 len:q.length<=n
theorem H5.set {P:List UInt8->Prop}{n:Nat}{q:BQ}(h:H5 P n q){lot:List UInt8}(hl:P lot)(r:Rat):H5 P (n+1) (HB lot r q):=by
 have hk:=Yz lot r q;have hlen:(HB lot r q).length=(Cw (HB lot r q)).length:=by simp[Cw]
 have hlen2:q.length=(Cw q).length:=by simp[Cw]
 by_cases hm:lot∈Cw q
 ·rw[AI hm]at hk
  exact⟨by rw[hk];exact h.nd,by rw[hk];exact h.all,by rw[hlen,hk,<-hlen2];have:=h.len;omega⟩
 ·rw[AG hm]at hk
  refine⟨?_,?_,?_⟩
  ·rw[hk,EO]
   exact⟨h.nd,by simp,λa ha b hb=>by
    rw[Dz]at hb;subst hb;exact λe=>hm (e ▸ ha)⟩
  ·rw[hk]
   intro k hk;rcases Bn.1 hk with q|q
   ·exact h.all k q
   ·rw[Dz]at q;rw[q];exact hl
  ·rw[hlen,hk,Be,<-hlen2]
   have:=h.len
   simp;omega
theorem H5.mono {P:List UInt8->Prop}{n n':Nat}{q:BQ}(h:H5 P n q)(hn:n<=n'):H5 P n' q:=⟨h.nd,h.all,BV h.len hn⟩
theorem YY {P:List UInt8->Prop}{n:Nat}{q:BQ}(x:AE)(h:H5 P n q)(hp:∀s∈x.shs,P s.lot):∀j,j<=x.shs.length->H5 P (n+j) (G4 x j q)
 | 0,_=>h
 |j+1,hj=>by
  obtain⟨s,hs⟩:∃s,x.shs[j]?=some s:=⟨_,Bx hj⟩
  rw[O6 x j q hs];exact(YY x h hp j (by omega)).set (hp s (Au hs)) _
theorem YA {P:List UInt8->Prop}(l:List AE)(hp:∀x∈l,x.shs.length<=64/\∀s∈x.shs,P s.lot):∀i,i<=l.length->H5 P (64*i) (CU (l.take i))
 | 0,_=>⟨by simp[CU,Cw],by simp[CU,Cw],by simp[CU]⟩
 |i+1,hi=>by
  obtain⟨x,hx⟩:∃x,l[i]?=some x:=⟨_,Bx hi⟩
  rw[Qv l i hx];have h1:=hp x (Au hx);exact(YY x (YA l hp i (by omega)) h1.2 _ (An _)).mono (by omega)
theorem UB {P:List UInt8->Prop}{l:List AE}(hp:∀x∈l,x.shs.length<=64/\∀s∈x.shs,P s.lot):H5 P (64*l.length) (CU l):=by
 have:=YA l hp l.length (An _)
 rwa [Cz]at this
theorem MQ.keys {B:Nat}:∀ {q:BQ} {m:DV},MQ B q m->m.map (·.1)=(Cw q).map sb
 | [],[],_=>rfl
 |p::q,e::m,⟨⟨h1,_⟩,h4⟩=>by
  simp only[Ci,Cw];rw[h1]
  congr 1
  exact MQ.keys h4
theorem YW (s:ByteArray):∀m:DV,If s (m.map λp=>.prim (.string p.1)) (m.map (·.2))=some (It s m)
 | []=>rfl
 |p::l=>by
  simp only[Ci,If,It];cases BI s p.1 with
  |true=>rfl
  |false=>exact YW s l
theorem Ua:∀ {q:BQ} {p:List UInt8×Rat},(Cw q).Nodup->p∈q->Gb p.1 q=some p.2
 |a::q,p,hn,hp=>by
  unfold Gb;have hn:(a.1::Cw q).Nodup:=hn;rw[List.nodup_cons]at hn;rcases A9.1 hp with rfl|hp
  ·rw[AI rfl]
  ·rw[AG λe=>hn.1 (by rw[<-e];exact List.mem_map_of_mem hp)]
   exact Ua hn.2 hp
theorem m6 (q:BQ):Px (Cw q)=(GE q).map (·.1):=by
 unfold Px;refine List.Perm.eq_of_pairwise (le:=λx y:List UInt8=>x<=y) (λ_ _ _ _ h1 h2=>List.le_antisymm h1 h2) ?_ ?_ ?_
 ·have:=List.pairwise_mergeSort (le:=λx y:List UInt8=>decide (x<=y)) (λa b c h1 h2=>by simp only[HH]at*;exact List.le_trans h1 h2) (λa b=>by
   rcases List.le_total a b with h|h<;>simp[h]) (Cw q)
  exact this.imp λh=>by simpa using h
 ·rw[List.pairwise_map]
  exact(R5 q).imp λh=>by simpa[ltStr]using h
 ·exact(List.mergeSort_perm _ _).trans ((LC q).map _).symm
abbrev LM:Dr:=[(12,[0,1,2,3,4,5],[6])]
open Go.Proofs Go.RowKit
set_option maxRecDepth 20000
set_option maxHeartbeats 4000000
def Ca (l:List AE):Bool:=l.all λx=>BI (sb x.grain) (sb (CX l 0).grain)
def IG (l:List AE):Nat:=if l.length=0 then 2 else if 64<l.length then 5 else if EH (λi=>Cm (CX l i)) l.length≠0 then EH (λi=>Cm (CX l i)) l.length else if Ca l=false then 16 else if Ai l>999999999 then 4 else 0
def TF (l:List AE):Int:=if IG l=0 then Ai l else 0
theorem nM (b:Bool)(v:List AE)(hl:v.length<=1000000)(hf:∀x∈v,x.few):AL C0 133 [.clo (.func 79) [] [],Aj b v] (i64 (EH (λi=>Cm (CX v i)) v.length:Nat)):=by
 refine Ad.walk w1 eW rfl λF=>?_
 have el:(((v.map AE.D).length:Nat):Int)=(v.length:Int):=by rw[Ae]
 refine AH AW el AB AB AB AB AB AB ?_;refine AC.loop (α:=Nat×Nat) (λp=>⟨[(0,.clo (.func 79) [] []),(8,Aj b v),(9,i64 (v.length:Int)),(10,i64 (p.1:Int))],[],p.2⟩) (λp=>v.length-p.1)
  (λp=>p.1<=v.length/\∀j,j<p.1->Cm (CX v j)=0) (0,_) ⟨BT _,λj h=>Ak h (HJ j)⟩ AK ?_
 rintro⟨i,m⟩ F ⟨hi,hz⟩;dsimp only at hi hz⊢;rcases BC i v.length with h2|h2
 ·have e1:=CZ h2
  have wi:=Ce (i:=i) (by omega);obtain⟨x,hx⟩:=CJ h2;have hm:(v.map AE.D)[i]?=some (.agg [str (sb x.grain),i64 x.mass,.sl false 2 (x.shs.map As.D)]):=by rw[Az,hx];rfl
  have cL:=jm x (hf x (Au hx));unfold AE.D at cL;rcases Nat.decEq (Cm x) 0 with hc0|hc0
  ·have e3:=G9 hc0
   have hE:=PZ (f:=λi=>Cm (CX v i)) hz h2 (by rw[GL hx];exact hc0);rw[GL hx]at hE;rw[hE];refine AH AW (Ar e1 e3 kN) hm cL AB AB AB AB ?_;exact AM rfl AA.out
  ·have e3:=HA hc0
   refine AH AW (Bb e1 e3 wi kN) hm cL AB AB AB AB ?_;exact⟨(i+1,_),⟨h2,λj hj=>by
    rcases Kq.1 hj with q|q
    ·exact hz j q
    ·rw[q,GL hx];exact hc0⟩,by dsimp only;omega,AK⟩
 ·have e1:=Cc h2
  have:i=v.length:=by omega
  subst this;rw[MK (f:=λi=>Cm (CX v i)) hz];refine AH AW e1 AB AB AB AB AB AB ?_;exact AM rfl AA.out
theorem sK (b:Bool)(l:List AE)(hl:l.length<=1000000)(hf:∀x∈l,x.few):AL C0 94 [Aj b l] (.tup [i64 (TF l),i64 (IG l:Nat)]):=by
 refine Ad.walk w1 jM rfl λF=>?_
 have el:(((l.map AE.D).length:Nat):Int)=(l.length:Int):=by rw[Ae]
 have hC:IG l=if l.length=0 then 2 else if 64<l.length then 5 else if EH (λi=>Cm (CX l i)) l.length≠0 then EH (λi=>Cm (CX l i)) l.length else if Ca l=false then 16 else if Ai l>999999999 then 4 else 0:=rfl
 have hM:TF l=if IG l=0 then Ai l else 0:=rfl
 have cA:=nM b l hl hf
 by_cases h0:l.length=0
 ·rw[AI h0]at hC
  rw[hC]at hM;rw[hM,hC];have q1:((l.length:Int)==0)=true:=by rw[h0];rfl
  refine AH LM (Ab el q1) AB AB AB AB AB AB ?_;exact AM rfl AA.out
 rw[AG h0]at hC;have q1:((l.length:Int)==0)=false:=by
  rw[B4];omega
 by_cases h64:64<l.length
 ·rw[AI h64]at hC
  rw[hC]at hM;rw[hM,hC];have q2:decide ((l.length:Int)>64)=true:=BX;refine AH LM (Ar el q1 q2) AB AB AB AB AB AB ?_;exact AM rfl AA.out
 rw[AG h64]at hC;have q2:decide ((l.length:Int)>64)=false:=Bc;obtain⟨K,hK⟩:∃K,EH (λi=>Cm (CX l i)) l.length=K:=⟨_,rfl⟩
 rw[hK]at hC cA;rcases Nat.decEq K 0 with hc0|hc0
 ·have e3:=G9 hc0
  rw[AI hc0]at hC;rw[hC]at hM;rw[AG hc0]at hM;rw[hM,hC];refine AH LM (Bb el q1 q2 e3) cA AB AB AB AB AB ?_;exact AM rfl AA.out
 have e3:=HA hc0;rw[AG (λh=>h hc0)]at hC;have hz:∀j,j<l.length->Cm (CX l j)=0:=PI (hK.trans hc0);have hsm:=UG h64 hz;obtain⟨x0,hx0⟩:∃x,l[0]?=some x:=⟨_,Cu⟩
 have hm0:(l.map AE.D)[0]?=some (.agg [str (sb x0.grain),i64 x0.mass,.sl false 2 (x0.shs.map As.D)]):=by rw[Az,hx0];rfl
 have hv0:=GL hx0;refine AH LM (Bb el q1 q2 e3) cA AB AB AB AB AB ?_;refine AC.loop (α:=Nat×Nat) (λp=>⟨[(0,Aj b l),(5,i64 (Ai (l.take p.1))),(19,Aj b l),(20,i64 (l.length:Int)),(21,i64 (p.1:Int))],[],p.2⟩) (λp=>l.length-p.1)
  (λp=>p.1<=l.length/\∀x∈l.take p.1,BI (sb x.grain) (sb x0.grain)=true) (0,_) ⟨BT _,λx h=>by simp at h⟩ AK ?_
 rintro⟨i,m⟩ F ⟨hi,hs⟩;dsimp only at hi hs⊢;rcases BC i l.length with h2|h2
 rotate_left
 ·have e1:=Cc h2
  have:i=l.length:=by omega
  subst this;rw[Cz]at hs⊢;have hg:Ca l=true:=by
   unfold Ca;rw[CY,hv0];exact hs
  rw[AG (by rw[hg];decide)]at hC
  by_cases h9:Ai l>999999999
  ·have e9:decide (Ai l>999999999)=true:=Ax h9
   rw[AI h9]at hC;rw[hC]at hM;rw[hM,hC];refine AH LM (Ab e1 e9) AB AB AB AB AB AB ?_;exact AM rfl AA.out
  ·have e9:decide (Ai l>999999999)=false:=A8 h9
   rw[AG h9]at hC;rw[hC]at hM;rw[hM,hC];refine AH LM (Ab e1 e9) AB AB AB AB AB AB ?_;exact AM rfl AA.out
 have e1:=CZ h2;have wi:=Ce (i:=i) (by omega);obtain⟨x,hx⟩:=CJ h2;have hm:(l.map AE.D)[i]?=some (.agg [str (sb x.grain),i64 x.mass,.sl false 2 (x.shs.map As.D)]):=by rw[Az,hx];rfl
 have hsum:=US hx;have hs1:=Vc (l:=l.take i) λy hy=>hsm.2 y (E3 hy)
 have hs2:=hsm.2 x (Au hx);rw[Bd]at hs1;have ws:IntKind.i64.wrap (Ai (l.take i)+x.mass)=Ai (l.take i)+x.mass:=wI;obtain⟨bG,hbG⟩:∃q,BI (sb x.grain) (sb x0.grain)=q:=⟨_,rfl⟩
 cases bG
 ·have hg:Ca l=false:=by
   unfold Ca;rw[List.all_eq_false];exact⟨x,Au hx,by rw[hv0,hbG];decide⟩
  rw[AI hg]at hC;rw[hC]at hM;rw[hM,hC];refine AH LM (Ar e1 hbG kN) hm hm0 AB AB AB AB ?_;exact AM rfl AA.out
 ·refine AH LM (CN e1 hbG wi ws kN) hm hm0 AB AB AB AB ?_
  exact⟨(i+1,_),⟨h2,λy hy=>by
   rw[Du,hx]at hy;rcases Bn.1 hy with q|q
   ·exact hs y q
   ·have:y=x:=by simpa using q
    rw[this];exact hbG⟩,by dsimp only;omega,by(dsimp only;rw[hsum];exact AK)⟩
abbrev FO:Dr:=[(11,[0,1,2,3,4,5,6,7],[8]),(24,[0,1,2,3,4,5,6,7,8,9,10],[11])]
open Go.Proofs Go.RowKit Go.Sort
set_option maxRecDepth 20000
set_option maxHeartbeats 4000000
def Ha (l:List AE):Nat:=if IG l≠0 then IG l else if 64<(CU l).length then 5 else if(GE (CU l)).any (λp=>DJ (p.2/(Ai l:Rat)))then 4 else 0
def FQ (l:List AE):List As:=(GE (CU l)).map λp=>⟨p.1,A0 (p.2/(Ai l:Rat))⟩
def Lu (l:List AE):AE:=if Ha l≠0 then⟨[],0,[]⟩else⟨(CX l 0).grain,Ai l,FQ l⟩
def AE.lite (x:AE):Prop:=x.few/\∀s∈x.shs,s.lot.length<=1000/\s.part.length<=40
theorem UD {l:List As}(h:Gy l=0):0<l.length/\l.length<=64/\∀s∈l,D8 s.lot=true/\Cj s.part=0/\0<HC (Bv s.part):=by
 unfold Gy at h;split at h
 ·cases h
 ·split at h
  ·cases h
  ·split at h
   ·rename_i h3;exact Ak h h3
   ·rename_i h1 h2 h3
    refine⟨by omega,by omega,λs hs=>?_⟩;obtain⟨j,hj⟩:=L1.1 hs;have hE:=PI (f:=Fw l) (n:=l.length) (by omega) j (BS.1 hj).1;unfold Fw at hE;rw[KW hj]at hE;split at hE
    ·cases hE
    ·split at hE
     ·cases hE
     ·split at hE
      ·rename_i h6;exact Ak hE h6
      ·split at hE
       ·cases hE
       ·rename_i h4 h5 h6 h7
        exact⟨by simpa using h4,by omega,by omega⟩
theorem gM {x:AE}(hl:x.lite)(h:Cm x=0):x.ok/\∀s∈x.shs,D8 s.lot=true:=by
 obtain⟨h1,h2,h3,h4⟩:=PJ h;obtain⟨g1,g2,g3⟩:=UD h4;exact⟨⟨g2,by unfold Sm;omega,λs hs=>⟨BV (hl.2 s hs).1 (by omega),(hl.2 s hs).2,(g3 s hs).2.1⟩⟩,λs hs=>(g3 s hs).1⟩
theorem bZ {l:List AE}(h:IG l=0):0<l.length/\l.length<=64/\(∀x∈l,Cm x=0)/\Ca l=true/\Ai l<=999999999:=by
 unfold IG at h;split at h
 ·cases h
 ·split at h
  ·cases h
  ·split at h
   ·rename_i h3;exact Ak h h3
   ·split at h
    ·cases h
    ·split at h
     ·cases h
     ·rename_i h1 h2 h3 h4 h5
      refine⟨by omega,by omega,λx hx=>?_,by simpa using h4,by omega⟩;obtain⟨j,hj⟩:=L1.1 hx
      have:=PI (f:=λi=>Cm (CX l i)) (n:=l.length) (by omega) j (BS.1 hj).1
      rwa [GL hj]at this
theorem aR:∀ {l:List AE},(∀x∈l,Cm x=0)->(l.length:Int)<=Ai l
 | [],_=>by simp[Ai]
 |x::l,h=>by
  have h1:=(PJ (h x B1)).2.1;have h2:=aR (l:=l) λy hy=>h y (B9 _ hy)
  unfold Ai at h2⊢;simp only[Ci,List.sum_cons,Br];omega
theorem Pa (H:Hp)(e:Int):Fz H [] (.tup [.agg [str ⟨#[]⟩,i64 0,Cd],i64 e]) (.tup [(⟨[],0,[]⟩:AE).D,i64 e]):=
 I9 (.agg rfl λi d d' h h'=>by
  match i with
  | 0=>cases h;cases h';exact .refl _
  | 1=>cases h;cases h';exact .refl _
  | 2=>cases h;cases h';exact .nil 2
  |n+3=>cases h) (.refl _)
theorem eQ {H:Hp}{gr m sD e:D}{L:List D}(h:Fz H [] sD (.sl false 2 L)):Fz H [] (.tup [.agg [gr,m,sD],e]) (.tup [.agg [gr,m,.sl false 2 L],e]):=
 I9 (.agg rfl λi d d' h1 h2=>by
  match i with
  | 0=>cases h1;cases h2;exact .refl _
  | 1=>cases h1;cases h2;exact .refl _
  | 2=>cases h1;cases h2;exact h
  |n+3=>cases h1) (.refl _)
theorem rV {H:Hp}{k g T sz:Nat}{z:D}{l:List D}(he:Hp.get H k=some ⟨k,g,T,sz,z::l⟩):Fz H [] (.osl k g sz 0 (l.length+1)) (.sl false sz (z::l)):=by
 refine .osl (e:=⟨k,g,T,sz,z::l⟩) he rfl rfl rfl (by simp) (by simp) (λj d d' h1 h2=>?_) λj d d' q c c' h1 h2 h3 h4=>?_
 ·rw[BW]at h1;rw[h1]at h2;cases h2;rfl
 ·rw[BW]at h1;rw[h1]at h2;cases h2;rw[h3]at h4;cases h4;exact Fz.refl _
theorem qW (l:DV)(H:Hp)(n:Nat):Cv C0 96 [mapD l] H n (λd H' n'=>∃g,d=.clo (.func 136) [] [.optr 77000 g 1 0 0]/\H'=⟨77000,g,89,1,[mapD l]⟩::H/\n'=n+4):=by
 refine Cv.walk w1 jO rfl λF0=>?_
 obtain⟨M,hM⟩:∃M,mapD l=M:=⟨_,rfl⟩
 have hc:∃ks vs,M=.mp ks vs:=⟨_,_,hM.symm⟩
 obtain⟨ks,vs,hc⟩:=hc;subst hc;rw[hM];refine AC.seq ?_;refine Aq 77000 ?_;refine AF kB ?_;refine BM ?_;refine AH AW kB AB AB AB AB AB AB ?_;exact⟨_,rfl,rfl,trivial⟩
theorem xh {r:Rat}{x:GF}{k:Nat}(h:FR r x k)(hk:k<100000):AL C0 97 [x.D] (.tup [str (sb (Wc r)),i64 (Wb r:Nat)]):=by
 refine Ad.walk w1 jP rfl λF=>?_
 have c1:=ay h hk;have c2:=gB h hk;unfold Wc Wb;obtain⟨b,hb⟩:∃b,DJ r=b:=⟨_,rfl⟩
 rw[hb]at c1⊢;cases b
 all_goals
  refine AH AW kB c1 c2 AB AB AB AB ?_;exact AM rfl AA.out
theorem e0M (b:Bool)(l:List AE)(hl:l.length<=1000000)(hf:∀x∈l,x.lite):AL C0 56 [Aj b l] (.tup [(Lu l).D,i64 (Ha l:Nat)]):=by
 refine Ad.walk w1 iW rfl λF0=>?_
 have el:(((l.map AE.D).length:Nat):Int)=(l.length:Int):=by rw[Ae]
 have cM:=sK b l hl λx hx=>(hf x hx).1
 have hN:Ha l=if IG l≠0 then IG l else if 64<(CU l).length then 5 else if(GE (CU l)).any (λp=>DJ (p.2/(Ai l:Rat)))then 4 else 0:=rfl
 have hL:Lu l=if Ha l≠0 then⟨[],0,[]⟩else⟨(CX l 0).grain,Ai l,FQ l⟩:=rfl
 rcases Nat.decEq (IG l) 0 with g|g
 ·have e1:=G9 g
  rw[AI g]at hN;rw[hN,AI g]at hL;rw[hL,hN];refine AH FO e1 cM AB AB AB AB AB ?_;exact⟨_,Pa _ _,AA.out,rfl⟩
 have e1:=HA g;rw[AG (λh=>h g)]at hN;have hmm:TF l=Ai l:=by unfold TF;rw[AI g]
 obtain⟨g1,g2,g3,g4,g5⟩:=bZ g;have hx:∀x∈l,x.ok:=λx h=>(gM (hf x h) (g3 x h)).1
 have g6:=aR g3;rw[hmm]at cM;refine sZ 0 ?_;refine AF kB ?_;refine sZ 100 ?_;refine AF kB ?_;refine cI cM ?_;refine AF kB ?_;refine AC.seq ?_;refine sZ 200 ?_;refine AF e1 ?_;refine AO ?_;refine Am ?_;refine AC.seq ?_;refine Il (by kernel_rfl) ?_;change Bk _ _ _ _ _ [0,1] _ _;refine Bk.makeMap 400 rfl rfl rfl (XM F0) (λF1 it hto hO hr0 hnX hM=>?_);change Bk _ _ _ _ _ ([1]++[]) _ _;refine GG w1 400 [1] [] ?_;refine AF kB ?_;refine Bk.nil ?_;refine AH FO el AB AB AB AB AB AB ?_;refine Gi (α:=Nat×DV×Obj×Nat) (λp=>⟨[(0,Aj b l),(2,.optr 0 0 3 0 0),(4,i64 (Ai l)),(6,.prim (.map (some it))),(29,Aj b l),(30,i64 (l.length:Int)),(31,i64 (p.1:Int))],[⟨0,0,51,3,[.agg [.prim (.string ⟨#[]⟩),.prim (.int .i64 0),.prim (.slice none 0 0)]]⟩],p.2.2.2⟩) (λp=>l.length-p.1)
  (λp F=>p.1<=l.length/\DQ C0 F0 F [⟨400,11,p.2.2.1⟩]/\F.r0 400 11=some it/\Ic F p.2.2.1 p.2.1/\MQ (320*p.1) (CU (l.take p.1)) p.2.1) (0,[],.map #[] 0,_) ⟨BT _,hO,hr0,hM,trivial⟩ AK ?_
 clear hO hr0 hM hto;rintro⟨i,m,o,n1⟩ F ⟨hi,hO,hr0,hM,hQ⟩;dsimp only at hi hO hr0 hM hQ⊢;rcases BC i l.length with h2|h2
 rotate_left
 ·have e1:=Cc h2
  have:i=l.length:=by omega
  subst this;rw[Cz]at hQ;refine sZ 600 ?_;refine AF e1 ?_;refine AC.seq ?_;refine AO ?_;refine CO ?_;refine kA [(0,Aj b l),(2,.optr 0 0 3 0 0),(4,i64 (Ai l)),(6,mapD m)] hO hr0 hnX hM ⟨.inl rfl,.inl rfl,.inl rfl,.inr ⟨rfl,rfl⟩,trivial⟩ (λF2 hto2 hO2=>?_);have hKO:H5 (λk=>k.length<=1000) (64*l.length) (CU l):=UB λx h=>⟨(hx x h).1,λs hs=>((hf x h).2 s hs).1⟩
  have hQ2:MQ 32000 (CU l) m:=hQ.mono (by omega);clear hQ hO hM hto2 hO2;obtain⟨q,hq⟩:∃q,CU l=q:=⟨_,rfl⟩
  have hSS:FQ l=(GE q).map λp=>⟨p.1,A0 (p.2/(Ai l:Rat))⟩:=by rw[<-hq];rfl
  rw[hq]at hKO hQ2 hN;have hml:=hQ2.len;obtain⟨ks,hks⟩:∃ks:List D,m.map (λp=>(.prim (.string p.1):D))=ks:=⟨_,rfl⟩
  obtain⟨vs,hvs⟩:∃vs:List D,m.map (·.2)=vs:=⟨_,rfl⟩
  have hkl:ks.length=q.length:=by rw[<-hks,Ae,hml]
  unfold mapD;rw[hks,hvs];refine AC.seq ?_;refine AC.seq ?_;refine Il (by kernel_rfl) ?_;change Bk _ _ _ _ _ ([0]++(1::([2]++[]))) _ _;refine GG w1 1800 [0] _ ?_;refine AF kB ?_;refine e1L (PG (w1.xt 89 _ rfl)).1 rfl rfl rfl rfl ?_;refine GG w1 1800 [2] _ ?_;refine AF kB ?_;refine Bk.nil ?_;rw[hkl]
  by_cases h64:64<q.length
  ·rw[AI h64]at hN
   rw[hN,DR]at hL;rw[hL,hN];have q2:decide ((q.length:Int)>64)=true:=BX;refine AH FO q2 AB AB AB AB AB AB ?_;exact⟨_,Pa _ _,AA.out,rfl⟩
  have q2:decide ((q.length:Int)>64)=false:=Bc;rw[AG h64]at hN;rw[q2];have hmd:mapD m=.mp ks vs:=by unfold mapD;rw[hks,hvs]
  have cK:=qW m;have cS:=GV m (Cw q) hQ2.keys (by omega) hKO.all hKO.nd;rw[hmd]at cK cS;obtain⟨x0,hx0⟩:∃x,l[0]?=some x:=⟨_,Cu⟩
  have hm0:(l.map AE.D)[0]?=some (.agg [str (sb x0.grain),i64 x0.mass,.sl false 2 (x0.shs.map As.D)]):=by rw[Az,hx0];rfl
  refine AH FO kB hm0 AB AB AB AB AB ?_;refine BE.own _ (cK _ _) ?_;rintro d H' n' ⟨gk,rfl,rfl,rfl⟩;refine AH FO kB AB AB AB AB AB AB ?_;refine BE.own _ (cS _ _ _ _ _) ?_;rintro d H' n' ⟨rfl,rfl,rfl⟩;refine AH FO kB AB AB AB AB AB AB ?_;have hkey:=m6 q;have hsl:(GE q).length=q.length:=(LC q).length_eq;have hsm:∀p∈GE q,p∈q:=λp h=>(LC q).mem_iff.1 h
  rw[hkey];obtain⟨Q,hQ⟩:∃Q,GE q=Q:=⟨_,rfl⟩
  rw[hQ]at hN hSS hsl hsm⊢;have hMs:Sm (Ai l):=by unfold Sm;omega
  have hM0:((Ai l:Int):Rat)≠0:=λh=>by
   have:=Rat.intCast_inj.1 (h.trans (Rat.intCast_zero).symm)
   omega
  have fM:FR ((Ai l:Int):Rat) ⟨AY (Ai l),1⟩ 1:=Rq (by unfold Sm at hMs;omega);have cF:=QG (Ai l) hMs;obtain⟨kl,hkl2⟩:∃kl:List D,(List.map (λx=>str (sb x)) (Q.map (·.1)))=kl:=⟨_,rfl⟩
  have hkll:kl.length=Q.length:=by rw[<-hkl2];simp
  rw[hkl2];obtain⟨M,hMM⟩:∃M,Ai l=M:=⟨_,rfl⟩
  have hgr:(CX l 0).grain=x0.grain:=by rw[GL hx0]
  clear hmd cK cS hm0;rw[hMM]at hN hL hSS hMs hM0 fM cF;rw[hMM,hkll];obtain⟨g14,hg14⟩:∃g,n1+1+1+1+1+1+1+1+1+1+1=g:=⟨_,rfl⟩
  rw[hg14];refine AC.loop (α:=Nat×Nat×Nat) (λp=>⟨[(2,.optr 0 0 3 0 0),(4,i64 M),(6,.mp ks vs),(14,.optr 2006 g14 3 0 0),(78,.sl false 1 kl),(79,i64 (Q.length:Nat)),(80,i64 (p.1:Int))],
    EG 2706 p.2.1 64 2 ((Q.take p.1).map λz=>(⟨z.1,A0 (z.2/(M:Rat))⟩:As).D)++[⟨2006,g14,51,3,[.agg [str (sb x0.grain),i64 M,EL 2706 p.2.1 2 ((Q.take p.1).map λz=>(⟨z.1,A0 (z.2/(M:Rat))⟩:As).D)]]⟩,⟨0,0,51,3,[.agg [.prim (.string ⟨#[]⟩),.prim (.int .i64 0),.prim (.slice none 0 0)]]⟩],p.2.2⟩) (λp=>Q.length-p.1)
   (λp=>p.1<=Q.length/\∀z∈Q.take p.1,DJ (z.2/(M:Rat))=false) (0,0,_) ⟨BT _,λz h=>by simp at h⟩ AK ?_
  clear n1 hg14;rintro⟨i,g,n1⟩ F ⟨hi,hB⟩;dsimp only at hi hB⊢;have hTl:((Q.take i).map λz=>(⟨z.1,A0 (z.2/(M:Rat))⟩:As).D).length=i:=by rw[Ae,Bd];omega
  obtain⟨TL,hTL⟩:∃TL,((Q.take i).map λz=>(⟨z.1,A0 (z.2/(M:Rat))⟩:As).D)=TL:=⟨_,rfl⟩
  rcases BC i Q.length with h2|h2
  rotate_left
  ·have e1:=Cc h2
   have:i=Q.length:=by omega
   subst this;rw[Cz]at hB hTL⊢;have hany:Q.any (λp=>DJ (p.2/(M:Rat)))=false:=by
    rw[List.any_eq_false];intro p hp;rw[hB p hp];decide
   rw[AG (by rw[hany];decide)]at hN;rw[CM]at hL;rw[hL,hN,hgr];have hres:((⟨x0.grain,M,FQ l⟩:AE).D)=.agg [str (sb x0.grain),i64 M,.sl false 2 TL]:=by
    unfold AE.D Co;rw[<-hTL,hSS,List.map_map];rfl
   have pR:CK (.tup [(⟨x0.grain,M,FQ l⟩:AE).D,i64 ((0:Nat):Int)]):=AA.out;rw[hres]at pR;rw[hres,hTL];rcases TL with _|⟨z,TL⟩
   ·dsimp only[IW,IX,List.nil_append]
    refine AH FO e1 AB AB AB AB AB AB ?_;exact⟨_,eQ (.nil 2),pR,rfl⟩
   ·dsimp only[Gu,Gv,List.cons_append,List.nil_append]
    refine AH FO e1 AB AB AB AB AB AB ?_;exact⟨_,eQ (rV rfl),pR,rfl⟩
  have e1:=CZ h2;have wi:=Ce (i:=i) (by omega);obtain⟨p,hp⟩:=CJ h2;have hmk:kl[i]?=some (str (sb p.1)):=by rw[<-hkl2,Az,Az,hp];rfl
  have hlq:=Ua hKO.nd (hsm p (Au hp));rcases hQ2.look p.1 with⟨q1,q3⟩|⟨r,y,q1,q3,q4⟩
  ·rw[hlq]at q3;cases q3
  rw[hlq]at q3;cases q3;have hLk:If (sb p.1) ks vs=some (some y.D):=by rw[<-hks,<-hvs,YW,q1]
  have cDv:=uO q4 fM hM0 (by omega);have fD:=sA q4 fM hM0;obtain⟨z,hz⟩:∃z,S7 y ⟨AY M,1⟩=z:=⟨_,rfl⟩
  rw[hz]at cDv fD;have cG:=xh fD (by omega);obtain⟨dM,hdM⟩:∃d,(⟨AY M,1⟩:GF).D=d:=⟨_,rfl⟩
  have pdM:AA dM:=by rw[<-hdM];exact AJ
  obtain⟨dy,hdy⟩:∃d,y.D=d:=⟨_,rfl⟩
  have pdy:AA dy:=by rw[<-hdy];exact AJ
  obtain⟨dz,hdz⟩:∃d,z.D=d:=⟨_,rfl⟩
  have pdz:AA dz:=by rw[<-hdz];exact AJ
  rw[hdy]at hLk cDv;rw[hdM]at cF cDv;rw[hdz]at cDv cG;unfold Wc Wb at cG;obtain⟨bg,hbg⟩:∃q,DJ (p.2/(M:Rat))=q:=⟨_,rfl⟩
  rw[hbg]at cG;have hsn:((Q.take (i+1)).map λz=>(⟨z.1,A0 (z.2/(M:Rat))⟩:As).D)=TL++[.agg [str (sb p.1),str (sb (A0 (p.2/(M:Rat))))]]:=by
   rw[Du,hp,DA,hTL];rfl
  rw[hTL]at hTl⊢;have n4:((((4:Nat):Int)) != 0)=true:=rfl;have n0:((((0:Nat):Int)) != 0)=false:=rfl;cases bg
  rotate_left
  ·rw[AI rfl,AI rfl]at cG
   have hany:Q.any (λp=>DJ (p.2/(M:Rat)))=true:=by
    rw[List.any_eq_true];exact⟨p,Au hp,hbg⟩
   rw[AI hany]at hN;rw[DR]at hL;rw[hL,hN];rcases TL with _|⟨z9,TL⟩
   ·dsimp only[IW,IX,List.nil_append]
    refine AH FO (Ab e1 kN) hmk AB AB AB AB AB ?_;refine Q1 (d':=dy) rfl rfl rfl rfl rfl rfl hLk rfl ?_;refine BM ?_;refine AH FO n4 cF cDv cG AB AB AB ?_;exact⟨_,Pa _ _,AA.out,rfl⟩
   ·dsimp only[Gu,Gv,List.cons_append,List.nil_append]
    refine AH FO (Ab e1 kN) hmk AB AB AB AB AB ?_;refine Q1 (d':=dy) rfl rfl rfl rfl rfl rfl hLk rfl ?_;refine BM ?_;refine AH FO n4 cF cDv cG AB AB AB ?_;exact⟨_,Pa _ _,AA.out,rfl⟩
  rw[AG (by decide),AG (by decide)]at cG;have hB2:∀w∈Q.take (i+1),DJ (w.2/(M:Rat))=false:=λw hw=>by
   rw[Du,hp]at hw;rcases Bn.1 hw with h|h
   ·exact hB w h
   ·have:w=p:=by simpa using h
    rw[this];exact hbg
  rcases TL with _|⟨z9,TL⟩
  ·dsimp only[IW,IX,List.nil_append]
   refine AH FO (Ab e1 kN) hmk AB AB AB AB AB ?_;refine Q1 (d':=dy) rfl rfl rfl rfl rfl rfl hLk rfl ?_;refine BM ?_;refine AH FO (Ab n0 wi) cF cDv cG AB AB AB ?_;exact⟨(i+1,_,_),⟨h2,hB2⟩,by dsimp only;omega,by(dsimp only;rw[hsn];exact AK)⟩
  ·dsimp only[Gu,Gv,List.cons_append,List.nil_append]
   have htk:List.take (TL.length+1) (z9::TL)=z9::TL:=by simp
   rw[Br]at hTl;have hb64:TL.length+1<64:=by omega
   refine AH FO (Ab e1 kN) hmk AB AB AB AB AB ?_;refine Q1 (d':=dy) rfl rfl rfl rfl rfl rfl hLk rfl ?_;refine BM ?_;refine AH FO (Ar n0 wi htk) cF cDv cG AB AB AB ?_;exact⟨(i+1,_,_),⟨h2,hB2⟩,by dsimp only;omega,by(dsimp only;rw[hsn,O0];exact AK)⟩
 have e1:=CZ h2;have wi:=Ce (i:=i) (by omega);obtain⟨x,hxi⟩:=CJ h2;obtain⟨x1,x2,x3⟩:=hx x (Au hxi);have hm:(l.map AE.D)[i]?=some (.agg [str (sb x.grain),i64 x.mass,.sl false 2 (x.shs.map As.D)]):=by rw[Az,hxi];rfl
 have es:(((x.shs.map As.D).length:Nat):Int)=(x.shs.length:Int):=by rw[Ae]
 refine AH FO (Ar e1 es kN) hm AB AB AB AB AB ?_;obtain⟨ga,hga⟩:∃g,n1+1+1+1=g:=⟨_,rfl⟩
 refine Gi (α:=Nat×DV×Obj×Nat) (λp=>⟨[(0,Aj b l),(2,.optr 0 0 3 0 0),(4,i64 (Ai l)),(6,.prim (.map (some it))),(8,.optr 702 (n1+1+1+1) 3 0 0),(29,Aj b l),(30,i64 (l.length:Int)),(31,i64 (i:Int)),(36,.sl false 2 (x.shs.map As.D)),(37,i64 (x.shs.length:Int)),(38,i64 (p.1:Int))],[⟨702,n1+1+1+1,51,3,[.agg [str (sb x.grain),i64 x.mass,.sl false 2 (x.shs.map As.D)]]⟩,⟨0,0,51,3,[.agg [.prim (.string ⟨#[]⟩),.prim (.int .i64 0),.prim (.slice none 0 0)]]⟩],p.2.2.2⟩) (λp=>x.shs.length-p.1)
  (λp F=>p.1<=x.shs.length/\DQ C0 F0 F [⟨400,11,p.2.2.1⟩]/\F.r0 400 11=some it/\Ic F p.2.2.1 p.2.1/\MQ (320*i+5*p.1) (G4 x p.1 (CU (l.take i))) p.2.1) (0,m,o,_) ⟨BT _,hO,hr0,hM,hQ⟩ AK ?_
 clear hO hr0 hM hQ;rintro⟨j,m2,o2,n2⟩ F ⟨hj,hO,hr0,hM,hQ⟩;dsimp only at hj hO hr0 hM hQ⊢;rw[hga];rcases BC j x.shs.length with h3|h3
 rotate_left
 ·have e2:=Cc h3
  have:j=x.shs.length:=by omega
  subst this;rw[<-Qv l i hxi]at hQ;refine AH FO (Ab e2 wi) AB AB AB AB AB AB ?_;exact⟨(i+1,m2,o2,_),⟨h2,hO,hr0,hM,hQ.mono (by dsimp only;omega)⟩,by dsimp only;omega,AK⟩
 have e2:=CZ h3;have wj:=Ce (i:=j) (by omega);obtain⟨s,hsj⟩:=CJ h3;obtain⟨s1,s2,s3⟩:=x3 s (Au hsj);have hms:(x.shs.map As.D)[j]?=some (.agg [str (sb s.lot),str (sb s.part)]):=by rw[Az,hsj];rfl
 have hsn:=O6 x j (CU (l.take i)) hsj;have fP:FR (Bv s.part) (G3 s.part) 3:=⟨(SB s3).is,kM s3 s2⟩
 have fM:FR ((x.mass:Int):Rat) ⟨AY x.mass,1⟩ 1:=Rq (by unfold Sm at x2;omega);have c1:=SS (by omega) s3;have c2:=QG x.mass x2;have c3:=Vp fP fM (by decide);have fZ:FR (Bv s.part*(x.mass:Rat)) (JO (G3 s.part) ⟨AY x.mass,1⟩) 4:=VU fP fM;obtain⟨z,hz⟩:∃z,JO (G3 s.part) ⟨AY x.mass,1⟩=z:=⟨_,rfl⟩
 rw[hz]at c3 fZ;obtain⟨d1,hd1⟩:∃d,(G3 s.part).D=d:=⟨_,rfl⟩
 obtain⟨d2,hd2⟩:∃d,(⟨AY x.mass,1⟩:GF).D=d:=⟨_,rfl⟩
 have pd1:AA d1:=by rw[<-hd1];exact AJ
 have pd2:AA d2:=by rw[<-hd2];exact AJ
 rw[hd1]at c1 c3;rw[hd2]at c2 c3;refine sZ 900 ?_;refine AF e2 ?_;refine AC.seq ?_;refine AO ?_;refine Am ?_;refine AC.seq ?_;refine AC.block ?_;refine sZ 1000 ?_;refine B3 kT hms ?_;refine AF kB ?_;refine AC.seq ?_;refine CR 1100 [0,1,2,3,4,5,6,7] [8] ?_;refine AF kB ?_;refine Bf.same _ (c1) AJ ?_;refine BR ?_;refine AF kB ?_;refine Bf.same _ (c2) AJ ?_;refine BR ?_;refine AF kB ?_;refine Bf.same _ (c3) AJ ?_;refine BR ?_;refine AF kB ?_;refine AC.seq ?_;refine AC.seq ?_;refine Il (by kernel_rfl) ?_;change Bk _ _ _ _ _ ([0,1,2]++(3::([4,5,6,7,8,9]++[]))) _ _;refine GG w1 1200 [0,1,2] _ ?_;refine AF kB ?_;refine Bk.look (xo:=⟨400,11,o2⟩) (l:=m2) w1 rfl rfl rfl rfl rfl rfl hO B1 hr0 hM ?_;rcases hQ.look s.lot with⟨q1,q2⟩|⟨r,y,q1,q2,q3⟩
 ·rw[YT q1]
  refine GG w1 1200 [4,5,6,7,8,9] [] ?_;refine AF kB ?_;refine Bk.nil ?_;refine BM ?_;refine sZ 1300 ?_;refine AF kB ?_;refine AO ?_;refine Am ?_;refine Il (by kernel_rfl) ?_;change Bk _ _ _ _ _ ([0,1,2,3]++(4::[])) _ _;refine GG w1 1500 [0,1,2,3] _ ?_;refine AF kB ?_;refine Bk.put (l:=m2) w1 rfl rfl rfl rfl rfl rfl hO hr0 hM (λF3 o3 hto3 hO3 hr3 hM3=>Bk.nil ?_);refine BM ?_;have hQ2:MQ (320*i+5*(j+1)) (G4 x (j+1) (CU (l.take i))) (GC (sb s.lot) z.D m2):=by
   rw[hsn];unfold Kj;rw[q2];exact MQ.set s.lot ⟨fZ.is,fZ.rk.mono (by omega)⟩ (hQ.mono (by omega))
  refine AH FO wj AB AB AB AB AB AB ?_;exact⟨(j+1,GC (sb s.lot) z.D m2,o3,_),⟨h3,hO3,hr3,hM3,hQ2⟩,by dsimp only;omega,AK⟩
 ·rw[YU q1]
  refine GG w1 1200 [4,5,6,7,8,9] [] ?_;refine AF kB ?_;refine Bk.nil ?_;have c4:=SN fZ q3 (by omega);have fA:=Rs fZ q3;obtain⟨z2,hz2⟩:∃z2,Ki z y=z2:=⟨_,rfl⟩
  rw[hz2]at c4 fA;refine BM ?_;refine sZ 1300 ?_;refine AF kB ?_;refine AO ?_;refine Aq 1400 ?_;refine AF kB ?_;refine cI c4 ?_;refine AF kB ?_;refine Il (by kernel_rfl) ?_;change Bk _ _ _ _ _ ([0,1,2,3]++(4::[])) _ _;refine GG w1 1500 [0,1,2,3] _ ?_;refine AF kB ?_;refine Bk.put (l:=m2) w1 rfl rfl rfl rfl rfl rfl hO hr0 hM (λF3 o3 hto3 hO3 hr3 hM3=>Bk.nil ?_);refine BM ?_;have hQ2:MQ (320*i+5*(j+1)) (G4 x (j+1) (CU (l.take i))) (GC (sb s.lot) z2.D m2):=by
   rw[hsn];unfold Kj;rw[q2];exact MQ.set s.lot ⟨fA.is,fA.rk.mono (by omega)⟩ (hQ.mono (by omega))
  refine AH FO wj AB AB AB AB AB AB ?_;exact⟨(j+1,GC (sb s.lot) z2.D m2,o3,_),⟨h3,hO3,hr3,hM3,hQ2⟩,by dsimp only;omega,AK⟩
abbrev oz:Dr:=[(1,[0,1,2,3,4,5],[6,7])]
open Go.Proofs Go.RowKit Go.Sort
set_option maxRecDepth 20000
set_option maxHeartbeats 4000000
theorem e2w {C:BA}{f sz:Nat}{ds:List D}{Φ:D->Prop}(h1:Ad C f (Cd::ds) Φ)(h2:Ad C f (.sl true sz []::ds) Φ):Ad C f (.sl false sz []::ds) Φ:=by
 refine⟨h1.1,λX w vs a b c e g=>?_⟩;have g0:=g 0 _ rfl;generalize hv:vs.getD 0 undef=v at g0;cases g0 with
 |nil=>
  refine h1.2 X w vs a b c e λi d hd=>?_
  match i with
  | 0=>cases hd;rw[hv];exact .prim _
  |i+1=>exact g (i+1) d hd
 |emp a0=>
  refine h2.2 X w vs a b c e λi d hd=>?_
  match i with
  | 0=>cases hd;rw[hv];exact .emp a0
  |i+1=>exact g (i+1) d hd
 |sl f hl hc hO hb hz hcell ho h=>
  refine h2.2 X w vs a b c e λi d hd=>?_
  match i with
  | 0=>cases hd;rw[hv];exact .sl f hl hc hO hb hz hcell ho h
  |i+1=>exact g (i+1) d hd
theorem GZ {H Hf:Hp}{k g T sz:Nat}{l:List D}(he:Hp.get H k=some ⟨k,g,T,sz,l⟩)(hf:Hp.get Hf k=none:=by rfl):Fz H Hf (.osl k g sz 0 l.length) (.sl false sz l):=by
 refine .osl (e:=⟨k,g,T,sz,l⟩) he hf rfl rfl (by simp) (by simp) (λj d d' h1 h2=>?_) λj d d' q c c' h1 h2 h3 h4=>?_
 ·rw[BW]at h1;rw[h1]at h2;cases h2;rfl
 ·rw[BW]at h1;rw[h1]at h2;cases h2;rw[h3]at h4;cases h4;exact Fz.refl _
theorem rt (s:List As)(hl:s.length<=1000000):AL C0 105 [Co false s] (Co false s):=by
 unfold Co;rcases s with _|⟨z,s⟩
 ·refine e2w ?_ ?_
  ·refine Ad.walk w1 SQ rfl λF=>?_
   refine AH AW kB AB AB AB AB AB AB ?_;exact⟨_,.nil 2,AA.out,rfl⟩
  ·refine Ad.walk w1 SQ rfl λF=>?_
   refine AH AW kB AB AB AB AB AB AB ?_;exact⟨_,.osl (e:=⟨302,5,64,2,[]⟩) rfl rfl rfl rfl (An _) rfl (λj d d' h=>by simp at h) (λj d d' q c c' h=>by simp at h),AA.out,rfl⟩
 ·refine Ad.walk w1 SQ rfl λF=>?_
  obtain⟨T,hT⟩:∃T,List.map As.D (z::s)=T:=⟨_,rfl⟩
  have pT:AA (.sl false 2 T):=by rw[<-hT];exact AJ
  have hne:T≠[]:=by rw[<-hT];simp
  have hlT:T.length<=1000000:=by rw[<-hT,Ae];exact hl
  rw[hT];refine AH AW hne AB AB AB AB AB AB ?_;exact⟨_,by rw[BW];exact GZ rfl,pT.out,rfl⟩
theorem Pk (x:AE)(m:Int)(hl:x.shs.length<=1000000):AL C0 67 [x.D,i64 m] ((⟨x.grain,m,x.shs⟩:AE).D):=by
 refine Ad.walk w1 i8 rfl λF=>?_
 have cC:=rt x.shs hl;unfold AE.D;dsimp only;unfold Co at cC⊢;obtain⟨SD,hSD⟩:∃d,x.shs.map As.D=d:=⟨_,rfl⟩
 have pS:AA (.sl false 2 SD):=by rw[<-hSD];exact AJ
 rw[hSD]at cC⊢;refine AH AW kB cC AB AB AB AB AB ?_;exact AM rfl AA.out
theorem o9 (b:Bool)(l:List AE)(hl:l.length<=1000000)(h0:l≠[])(H:Hp)(n:Nat):Cv C0 55 [Aj b l] H n
  (λd H' n'=>∃g,d=.osl 302 g 3 0 l.length/\H'=⟨302,g,51,3,l.map AE.D⟩::H/\n'=n+7):=by
 refine Cv.walk w1 iV rfl λF=>?_
 unfold Aj;obtain⟨T,hT⟩:∃T,l.map AE.D=T:=⟨_,rfl⟩
 have pT:AA (.sl b 3 T):=by rw[<-hT];exact AJ
 have hne:T≠[]:=by rw[<-hT];simpa using h0
 have hlT:T.length<=1000000:=by rw[<-hT,Ae];exact hl
 rw[hT,<-Ae (f:=AE.D),hT];cases b
 all_goals
  refine sZ 0 ?_;refine AF kB ?_;refine AC.seq ?_;refine sZ 100 ?_;refine AF kB ?_;refine AO ?_;refine Am ?_;refine sZ 300 ?_;refine AF kB ?_;refine Ag ?_;exact⟨_,by rw[BW],rfl,rfl⟩
theorem yB (b:Bool)(x y:AE)(l:List AE):AL C0 104 [x.D,  .pptr (.sl b 3 ((y::l).map AE.D))] (Ap (!BI (sb x.grain) (sb y.grain))):=by
 refine Ad.walk w1 dA rfl λF=>?_
 have hm:((y::l).map AE.D)[0]?=some (.agg [str (sb y.grain),i64 y.mass,.sl false 2 (y.shs.map As.D)]):=rfl;obtain⟨T,hT⟩:∃T,(y::l).map AE.D=T:=⟨_,rfl⟩
 have pT:AA (.sl b 3 T):=by rw[<-hT];exact AJ
 obtain⟨S,hS⟩:∃S,x.shs.map As.D=S:=⟨_,rfl⟩
 have pS:AA (.sl false 2 S):=by rw[<-hS];exact AJ
 rw[hT]at hm⊢;unfold AE.D Co;rw[hS];refine AH oz kB hm AB AB AB AB AB ?_;exact AM rfl AA.out
theorem yF (b:Bool)(l:List AE)(c:D)[pc:AA c](p:AE->Bool)(hl:l.length<=1000000)(hc:∀x∈l,AL C0 104 [x.D,c] (Ap (p x))):AL C0 140 [Aj b l,.clo (.func 104) [] [c]] (i64 (Kl p l)):=by
 refine Ad.walk w1 fC rfl λF=>?_
 have el:(((l.map AE.D).length:Nat):Int)=(l.length:Int):=by rw[Ae]
 refine AH AW el AB AB AB AB AB AB ?_;refine AC.loop (α:=Nat×Nat) (λp=>⟨[(0,Aj b l),(1,.clo (.func 104) [] [c]),(7,i64 l.length),(8,i64 (p.1:Int))],[],p.2⟩) (λp=>l.length-p.1) (λq=>q.1<=l.length/\∀(j:Nat) (x:AE),j<q.1->l[j]?=some x->p x=false) (0,_) ⟨BT _,λj x hj=>Ak hj (HJ j)⟩ AK ?_;rintro⟨i,n⟩ F ⟨hi,ha⟩;dsimp only at hi ha⊢;rcases BC i l.length with h2|h2
 rotate_left
 ·have e1:=Cc h2
  have:i=l.length:=by omega
  subst this;refine AH AW e1 AB AB AB AB AB AB ?_;exact AM (by rw[UU ha]) AA.out
 have e1:=CZ h2;have wi:=Ce (i:=i) (by omega);obtain⟨x,hx⟩:=CJ h2;have hm:(l.map AE.D)[i]?=some (.agg [str (sb x.grain),i64 x.mass,.sl false 2 (x.shs.map As.D)]):=by rw[Az,hx];rfl
 have cn:=hc x (Au hx);unfold AE.D at cn;cases hb:p x
 ·rw[hb]at cn
  refine AH AW (Ar e1 wi kN) hm cn AB AB AB AB ?_;refine⟨(i+1,_),⟨h2,λj z hj hjz=>?_⟩,by dsimp only;omega,AK⟩;rcases BC j i with h|h
  ·exact ha j z h hjz
  ·have:j=i:=by dsimp only at hj;omega
   subst this;rw[hx]at hjz;cases hjz;exact hb
 ·rw[hb]at cn
  refine AH AW (Ar e1 wi kN) hm cn AB AB AB AB ?_;exact AM (by rw[VA hx hb ha]) AA.out
theorem yC (b:Bool)(l:List AE)(c:D)[pc:AA c](p:AE->Bool)(hl:l.length<=1000000)(hc:∀x∈l,AL C0 104 [x.D,c] (Ap (p x))):AL C0 103 [Aj b l,.clo (.func 104) [] [c]] (Ap (l.any p)):=by
 refine Ad.walk w1 cz rfl λF=>?_
 have c1:=yF b l c p hl hc;have e1:=VB p l;refine AH AW e1 c1 AB AB AB AB AB ?_;exact AM rfl AA.out
theorem ZA (b:Bool)(l:List AE)(hl:l.length<=1000000):AL C0 66 [Aj b l] (i64 (if Ca l then 0 else 16:Nat)):=by
 refine Ad.walk w1 i7 rfl λF=>?_
 have cH:AL C0 103 [Aj b l,.clo (.func 104) [] [.pptr (Aj b l)]] (Ap (!Ca l)):=by
  have:=yC b l (.pptr (Aj b l)) (λx=>!BI (sb x.grain) (sb (CX l 0).grain)) hl λx hx=>by
   rcases l with _|⟨y,l⟩
   ·cases hx
   ·exact yB b x y l
  have he:(l.any λx=>!BI (sb x.grain) (sb (CX l 0).grain)) = !Ca l:=by
   unfold Ca;rw[List.not_all_eq_any_not]
  rwa [he]at this
 have cW:=H6 (!Ca l) 16;refine AH AW kB cH cW AB AB AB AB ?_;refine BE.own _ (Ly cH rfl (λi a d h1 h2=>by
  match i with
  | 0=>cases h1;cases h2;exact .refl _ _
  | 1=>cases h1;cases h2;exact .clo1 (.ptr rfl rfl rfl rfl)
  |n+2=>cases h1) AJ (.prim _)) ?_
 rintro d H' n' ⟨rfl,rfl,rfl⟩;refine AH AW kB cW AB AB AB AB AB ?_;exact AM (by cases Ca l<;>rfl) AA.out
theorem JD {l:List AE}(h:Bz l=0):l.length<=64/\(∀x∈l,Cm x=0)/\Ai l<=999999999:=by
 unfold Bz at h;split at h
 ·cases h
 ·split at h
  ·rename_i h3;exact Ak h h3
  ·split at h
   ·cases h
   ·refine⟨by omega,λx hx=>?_,by omega⟩
    obtain⟨j,hj⟩:=L1.1 hx
    have:=PI (f:=λi=>Cm (CX l i)) (n:=l.length) (by omega) j (BS.1 hj).1
    rwa [GL hj]at this
theorem Yb {l:List AE}(hf:∀x∈l,x.lite)(hz:∀x∈l,Cm x=0)(hl:l.length<=64):(∀x∈l,x.ok)/\H5 (λk=>k.length<=1000) 4096 (CU l):=by
 have hx:∀x∈l,x.ok:=λx h=>(gM (hf x h) (hz x h)).1
 exact⟨hx,(UB λx h=>⟨(hx x h).1,λs hs=>((hf x h).2 s hs).1⟩).mono (by omega)⟩
def OK (l:List AE):Nat:=if Bz l≠0 then Bz l else Id (CU l)
def OL (l:List AE):BQ:=if Bz l≠0 then[]else Jp (CU l)
theorem jZ (b:Bool)(l:List AE)(hl:l.length<=1000000)(hf:∀x∈l,x.lite):AL C0 14 [Aj b l] (.tup [.sl false 2 ((OL l).map Bl),i64 (OK l:Nat)]):=by
 refine Ad.walk w1 iC rfl λF=>?_
 have cP:=OR b l (by omega) λx hx=>(hf x hx).1
 have hR:OL l=if Bz l≠0 then[]else Jp (CU l):=rfl
 have hE:OK l=if Bz l≠0 then Bz l else Id (CU l):=rfl
 rcases Nat.decEq (Bz l) 0 with g|g
 ·have e1:=G9 g
  rw[AI g]at hR hE;rw[hR,hE];refine AH AW e1 cP AB AB AB AB AB ?_;exact⟨_,I9 (.nil 2) (.refl _),AA.out,rfl⟩
 have e1:=HA g;rw[AG (λh=>h g)]at hR hE;rw[hR,hE];obtain⟨g1,g2,g3⟩:=JD g;obtain⟨hx,hK⟩:=Yb hf g2 g1;have cL:=d9f b l (by omega) hx;refine AH AW e1 cP AB AB AB AB AB ?_;refine BE.prop _ _ (FJ.refl _) cL AJ ?_;rintro d ⟨m,rfl,hQ⟩;have cA:=Zs 32000 (by omega) (CU l) m hQ (BV hK.len (by omega)) hK.nd;have pM:AA (mapD m):=⟨hQ.mapD⟩
 unfold Kb at cA;obtain⟨M,hM⟩:∃M,mapD m=M:=⟨_,rfl⟩
 rw[hM]at cA pM⊢;refine AH AW kB cA AB AB AB AB AB ?_;exact AM rfl AA.out
abbrev U8:Dr:=[(6,[0,1,2,3,4,5,6,7,8,9,10,11,12,13,14,15,16,17,18,19,20,21],[22,23])]
abbrev U7:Dr:=[(6,[0,1,2,3,4,5,6,7,8,9,10,11,12,13,14,15,16,17,18,19],[20,21,22])]
abbrev U9:Dr:=[(6,[0,1,2,3,4,5,6,7,8,9,10,11,12,13,14,15,16,17,18,19,20,21],[22,23])]
open Go.Proofs Go.RowKit
set_option maxRecDepth 20000
set_option maxHeartbeats 4000000
theorem oT (b1 b2:Bool)(S:List As)(hl:S.length<=1000000):AL C0 26 [Co b1 S,Co b2 S] (Ap true):=by
 refine Ad.walk w1 WV rfl λF=>?_
 have el:(((S.map As.D).length:Nat):Int)=(S.length:Int):=by rw[Ae]
 have hne:((S.length:Int) != (S.length:Int))=false:=bne_self_eq_false _;refine AH U8 (Ab el hne) AB AB AB AB AB AB ?_;refine AC.loop (α:=Nat×Nat) (λp=>⟨[(0,Co b1 S),(1,Co b2 S),(5,i64 (p.1:Int))],[],p.2⟩) (λp=>S.length-p.1) (λq=>q.1<=S.length) (0,_) (BT _) AK ?_;rintro⟨i,n⟩ F hi;dsimp only at hi⊢;rcases BC i S.length with h2|h2
 rotate_left
 ·have e1:=Cc h2
  refine AH U8 (Ab el e1) AB AB AB AB AB AB ?_;exact AM rfl AA.out
 have e1:=CZ h2;have wi:=Ce (i:=i) (by omega);obtain⟨x,hx⟩:=CJ h2;have hm:(S.map As.D)[i]?=some (.agg [str (sb x.lot),str (sb x.part)]):=by rw[Az,hx];rfl
 have s1:=KH (sb x.lot);have s2:=KH (sb x.part);refine AH U8 (CP el e1 wi s1 s2 kN (Ab kT kF)) hm AB AB AB AB AB ?_;exact⟨(i+1,_),h2,by dsimp only;omega,AK⟩
theorem p9 (x:AE)(hl:x.shs.length<=1000000):AL C0 45 [x.D,x.D] (Ap true):=by
 refine Ad.walk w1 WZ rfl λF=>?_
 have c:=oT false false x.shs hl;have s1:=KH (sb x.grain);unfold AE.D;unfold Co at c⊢;obtain⟨S,hS⟩:∃S,x.shs.map As.D=S:=⟨_,rfl⟩
 have pS:AA (.sl false 2 S):=by rw[<-hS];exact AJ
 rw[hS]at c⊢;refine AH AW (Ar s1 kT kF) c AB AB AB AB AB ?_;exact AM rfl AA.out
theorem tV (b1 b2:Bool)(l:List AE)(hl:l.length<=1000000)(hs:∀x∈l,x.shs.length<=1000000):AL C0 12 [Aj b1 l,Aj b2 l] (Ap true):=by
 refine Ad.walk w1 iB rfl λF=>?_
 have el:(((l.map AE.D).length:Nat):Int)=(l.length:Int):=by rw[Ae]
 have hne:((l.length:Int) != (l.length:Int))=false:=bne_self_eq_false _;refine AH U7 (Ab el hne) AB AB AB AB AB AB ?_;refine AC.loop (α:=Nat×Nat) (λp=>⟨[(0,Aj b1 l),(1,Aj b2 l),(5,i64 (p.1:Int))],[],p.2⟩) (λp=>l.length-p.1) (λq=>q.1<=l.length) (0,_) (BT _) AK ?_;rintro⟨i,n⟩ F hi;dsimp only at hi⊢;rcases BC i l.length with h2|h2
 rotate_left
 ·have e1:=Cc h2
  refine AH U7 (Ab el e1) AB AB AB AB AB AB ?_;exact AM rfl AA.out
 have e1:=CZ h2;have wi:=Ce (i:=i) (by omega);obtain⟨x,hx⟩:=CJ h2;have hm:(l.map AE.D)[i]?=some (.agg [str (sb x.grain),i64 x.mass,.sl false 2 (x.shs.map As.D)]):=by rw[Az,hx];rfl
 have c:=p9 x (hs x (Au hx));have s1:(x.mass != x.mass)=false:=bne_self_eq_false _;unfold AE.D Co at c;obtain⟨S,hS⟩:∃S,x.shs.map As.D=S:=⟨_,rfl⟩
 have pS:AA (.sl false 2 S):=by rw[<-hS];exact AJ
 rw[hS]at c hm;refine AH U7 (CP el e1 wi s1 kN kT kF) hm c AB AB AB AB ?_;exact⟨(i+1,_),h2,by dsimp only;omega,AK⟩
def Cf (p:List UInt8×List UInt8):D:=.agg [str (sb p.1),str (sb p.2)]
instance  (p:List UInt8×List UInt8):AX (Cf p):=by unfold Cf;exact AJ
instance  (p:List UInt8×List UInt8):AA (Cf p):=by unfold Cf;exact AJ
theorem l7 (b1 b2:Bool)(l:List (List UInt8×List UInt8))(hl:l.length<=1000000):AL C0 49 [.sl b1 2 (l.map Cf),.sl b2 2 (l.map Cf)] (Ap true):=by
 refine Ad.walk w1 iT rfl λF=>?_
 have el:(((l.map Cf).length:Nat):Int)=(l.length:Int):=by rw[Ae]
 have hne:((l.length:Int) != (l.length:Int))=false:=bne_self_eq_false _;refine AH U9 (Ab el hne) AB AB AB AB AB AB ?_;refine AC.loop (α:=Nat×Nat) (λp=>⟨[(0,.sl b1 2 (l.map Cf)),(1,.sl b2 2 (l.map Cf)),(5,i64 (p.1:Int))],[],p.2⟩) (λp=>l.length-p.1) (λq=>q.1<=l.length) (0,_) (BT _) AK ?_;rintro⟨i,n⟩ F hi;dsimp only at hi⊢;rcases BC i l.length with h2|h2
 rotate_left
 ·have e1:=Cc h2
  refine AH U9 (Ab el e1) AB AB AB AB AB AB ?_;exact AM rfl AA.out
 have e1:=CZ h2;have wi:=Ce (i:=i) (by omega);obtain⟨x,hx⟩:=CJ h2;have hm:(l.map Cf)[i]?=some (.agg [str (sb x.1),str (sb x.2)]):=by rw[Az,hx];rfl
 have s1:=KH (sb x.1);have s2:=KH (sb x.2);refine AH U9 (CP el e1 wi s1 s2 kN (Ab kT kF)) hm AB AB AB AB AB ?_;exact⟨(i+1,_),h2,by dsimp only;omega,AK⟩
theorem zl (b1 b2:Bool)(l:List (List UInt8×List UInt8))(hl:l.length<=1000000):AL C0 15 [.sl b1 2 (l.map Cf),.sl b2 2 (l.map Cf)] (Ap true):=by
 refine Ad.walk w1 iD rfl λF=>?_
 have el:(((l.map Cf).length:Nat):Int)=(l.length:Int):=by rw[Ae]
 have cS:=l7 false b2 l hl;refine AH AW el AB AB AB AB AB AB ?_;refine AC.loop (α:=Nat×Nat×Nat) (λp=>⟨[(1,.sl b2 2 (l.map Cf)),(5,EL 503 p.2.1 2 ((l.take p.1).map Cf)),(8,.sl b1 2 (l.map Cf)),(9,i64 (l.length:Int)),(10,i64 (p.1:Int))],EG 503 p.2.1 68 2 ((l.take p.1).map Cf),p.2.2⟩) (λp=>l.length-p.1) (λq=>q.1<=l.length) (0,0,_) (BT _) AK ?_;rintro⟨i,g,n⟩ F hi;dsimp only at hi⊢;rcases BC i l.length with h2|h2
 rotate_left
 ·have e1:=Cc h2
  have:i=l.length:=by omega
  subst this;rw[Cz];obtain⟨N,hN⟩:∃N,l.length=N:=⟨_,rfl⟩
  rw[hN]at e1⊢;clear hN el hi h2 hl;rcases l with _|⟨z,l⟩
  ·rw[List.map_nil]at cS⊢
   rw[IW,IX];refine AH AW e1 AB AB AB AB AB AB ?_;refine BE.pure [.sl false 2 [],.sl b2 2 []] _ ⟨.nil 2,.refl _,trivial⟩ cS AJ ?_;refine AH AW kB AB AB AB AB AB AB ?_;exact AM rfl AA.out
  ·rw[Ci]at cS⊢
   rw[Gu,Gv];have pT:AA (.sl b2 2 (Cf z::l.map Cf)):=(AJ:AA (.sl b2 2 ((z::l).map Cf)))
   have pT2:AA (.sl b1 2 (Cf z::l.map Cf)):=(AJ:AA (.sl b1 2 ((z::l).map Cf)))
   have pT3:AA (.sl false 2 (Cf z::l.map Cf)):=(AJ:AA (.sl false 2 ((z::l).map Cf)))
   obtain⟨T,hT⟩:∃T,l.map Cf=T:=⟨_,rfl⟩
   obtain⟨t,ht⟩:∃t,Cf z=t:=⟨_,rfl⟩
   rw[hT,ht]at cS pT pT2 pT3⊢;have hfz:=GZ (H:=[⟨503,g,68,2,t::T⟩]) (Hf:=[]) (k:=503) (g:=g) (T:=68) (sz:=2) (l:=t::T) rfl;refine AH AW e1 AB AB AB AB AB AB ?_;refine BE.own _ (Ly cS rfl (λi a d h1 h2=>by
    match i with
    | 0=>cases h1;cases h2;exact .of hfz
    | 1=>cases h1;cases h2;exact .refl _ _
    |n+2=>cases h1) AJ (.prim _)) ?_
   rintro d H' n' ⟨rfl,rfl,rfl⟩;refine AH AW kB AB AB AB AB AB AB ?_;exact AM rfl AA.out
 have e1:=CZ h2;have wi:=Ce (i:=i) (by omega);obtain⟨x,hx⟩:=CJ h2;have hm:(l.map Cf)[i]?=some (.agg [str (sb x.1),str (sb x.2)]):=by rw[Az,hx];rfl
 have ht:l.take (i+1)=l.take i++[x]:=by rw[Du,hx];rfl
 have hln:(l.take i).length=i:=by rw[Bd];omega
 obtain⟨R,hR⟩:∃R,l.take i=R:=⟨_,rfl⟩
 rw[hR]at ht hln⊢;rcases R with _|⟨z,R⟩
 ·rw[List.map_nil,IW,IX]
  refine AH AW (Ar e1 wi kN) hm AB AB AB AB AB ?_;refine⟨(i+1,n+1+1+1+1+1+1+1+1,n+1+1+1+1+1+1+1+1+1+1+1+1),h2,by dsimp only;omega,?_⟩;dsimp only;rw[ht];exact AK
 ·rw[Ci,Gu,Gv]
  obtain⟨T,hT⟩:∃T,R.map Cf=T:=⟨_,rfl⟩
  obtain⟨t,hz⟩:∃t,Cf z=t:=⟨_,rfl⟩
  have hTl:T.length+1=i:=by rw[<-hT,Ae];exact hln
  rw[hT,hz];refine AH AW (Ar e1 wi kN) hm AB AB AB AB AB ?_;refine⟨(i+1,n+1+1+1+1+1+1+1+1,n+1+1+1+1+1+1+1+1+1+1+1+1),h2,by dsimp only;omega,?_⟩;dsimp only;rw[ht,DA,Ci,hT,hz,Ci,List.map_nil];rw[E2,Gu,Gv,Be];rw[show List.take (T.length+1) (t::T)=t::T from Cz (l:=t::T)];exact AK
def As.shB (s:As):Bool:=decide (s.lot.length<=100)&&decide (s.part.length<=14)
def AE.shB (x:AE):Bool:=decide (x.grain.length<=100)&&(decide (x.shs.length<=8)||decide (64<x.shs.length))&&decide (x.shs.length<=80)&&x.shs.all As.shB
def HV (l:List AE):Bool:=l.all AE.shB&&(decide (l.length<=8)||(decide (64<l.length)&&decide (l.length<=80)))
theorem Dx.clo2 {H:Hp}{fn:Fn}{c c' x x':D}(h:Dx H c c')(k:Dx H x x'):Dx H (.clo fn [] [c,x]) (.clo fn [] [c',x']):=λC F ρ w m hO hN v hv=>by
 cases hv with
 |clo hf hc h1 h2=>
  refine .clo hf (by simpa using hc) (λi d hd=>by simp at hd) λi d hd=>?_
  match i with
  | 0=>
   simp at hd;subst hd;exact h C F ρ w m hO hN _ (h2 0 _ rfl)
  | 1=>
   simp at hd;subst hd;exact k C F ρ w m hO hN _ (h2 1 _ rfl)
  |i+2=>simp at hd
theorem Ur (b bk:Bool)(T:List D)[pT:AA (.sl b 3 T)]:AL C0 71 [.sl b 3 T,Ap bk] (.clo (.func 107) [] [.pptr (.sl b 3 T),.pptr (Ap bk)]):=by
 refine e2x w1 ij rfl λF=>?_
 have hp:CK (.clo (.func 107) [] [.pptr (.sl b 3 T),.pptr (Ap bk)]):=(AJ:AA (.clo (.func 107) [] [.pptr (.sl b 3 T),.pptr (Ap bk)])).out;refine fR 0 ?_;refine fR 100 ?_;refine Ag ?_;exact⟨_,.clo2 (.ptr rfl rfl rfl rfl) (.ptr rfl rfl rfl rfl),hp,rfl⟩
theorem Wu {E:GM}{l:Nat}{R:LR}(hE:GM.ok E)(b bk:Bool)(T:List D)[pT:AA (.sl b 3 T)](hT:∀x∈T,∃a c d,x=.agg [a,c,d])(hl:T.length<=1000000)
  {σ:Type} (S:Nat->σ->Hp) (P:Nat->σ->Prop) (c:Code) (Z:Hp->Prop) (a0:σ) (h0:P 0 a0) (n0:Nat)
  (hY:∀k a x n,P k a->k<T.length->T[if bk then T.length-1-k else k]?=some x->R7 C0 E l R [x] (S k a) n (λj H' _=>(j=none/\∃a',P (k+1) a'/\C3 H' (S (k+1) a') H' (S (k+1) a'))\/(j=some c/\Z H'))):
  Pg C0 E 107 [.clo (.yield l) [] [],.pptr (.sl b 3 T),.pptr (Ap bk)] l R (S 0 a0) n0 (λj _ H' _=>(j=none/\∃a,P T.length a/\H'=S T.length a)\/(j=some c/\Z H')):=by
 refine Pg.walk w1 hE dC rfl λB F hR=>?_
 obtain⟨N,hN⟩:∃N,T.length=N:=⟨_,rfl⟩
 rw[hN]at hY hl⊢;have el:((T.length:Nat):Int)=(N:Int):=by rw[hN]
 refine sZ 0 ?_;refine AF el ?_;refine AC.block ?_;refine Gi (α:=Nat×σ×Nat) (λp=>⟨[(0,.clo (.yield l) [] []),(1,.pptr (.sl b 3 T)),(2,.pptr (Ap bk)),(6,i64 (N:Int)),(7,i64 (p.1:Int))],S p.1 p.2.1,p.2.2⟩) (λp=>N-p.1)
  (λp F=>Mr C0 E B F l R/\p.1<=N/\P p.1 p.2.1) (0,a0,_) ⟨hR,BT _,h0⟩ AK ?_
 clear hR;rintro⟨i,a,m⟩ F ⟨hR,h1,hP⟩;dsimp only at h1 hR hP⊢;refine sR 100 ?_;refine AC.seq ?_;refine AO ?_
 (refine B7 (λh8=>?_) (λh8=>?_))<;>(try simp only[Bs,B5]at h8)<;>(try simp only[h8])
 ·have hi:i<N:=by
   have:=DN h8
   omega
  have a3:IntKind.i64.wrap ((i:Int)+1)=((i+1:Nat):Int):=wI;have a4:IntKind.i64.wrap ((N:Int)-1)=((N-1:Nat):Int):=by rw[wI];omega
  have a5:IntKind.i64.wrap (((N-1:Nat):Int)-(i:Int))=((N-1-i:Nat):Int):=by rw[wI];omega
  have hq:(if bk then N-1-i else i)<T.length:=by rw[hN];split<;>omega
  obtain⟨x,hx⟩:∃x,T[if bk then N-1-i else i]?=some x:=⟨_,Bx hq⟩
  have hy:=λn=>hY i a x n hP hi hx
  obtain⟨x1,x2,x3,rfl⟩:=hT x (Au hx);refine Am ?_;refine AC.seq ?_;refine AC.block ?_;refine sR 200 ?_;refine AC.seq ?_;refine sR 300 ?_;cases bk
  ·replace hx:T[i]?=some (.agg [x1,x2,x3]):=hx
   refine AO ?_;refine Am ?_;refine AC.seq ?_;refine jz w1 500 [0,1,2,3,4] 5 [6] rfl (by kernel_rfl) hR ?_;refine BR ?_;refine B3 kT hx ?_;refine BK ⟨rfl,trivial⟩ ?_;refine BR ?_;refine⟨rfl,_,hy _,?_,?_⟩
   ·rintro H2 n2 (⟨_,a',hP',hf⟩|⟨h,-⟩)
    rotate_left
    ·cases h
    refine BK (by exact CL) ?_;refine BM ?_;refine AO ?_;refine Am ?_;refine Aq 600 ?_;refine AV a3 ?_;exact⟨(i+1,a',_),⟨hR,hi,hP'⟩,(by dsimp only;omega),AK (a:=hf)⟩
   ·rintro c2 H2 n2 (⟨h,-⟩|⟨h,hZ⟩) F2 hst
    ·cases h
    cases h;refine BR ?_;refine AO ?_;refine AC.weak ⟨[],H2,_⟩ AK ?_;refine AC.ret ?_;exact⟨_,hst,trivial,.inr ⟨rfl,hZ⟩⟩
  ·replace hx:T[N-1-i]?=some (.agg [x1,x2,x3]):=hx
   refine AO ?_;refine Aq 400 ?_;refine AV (Ar a4 a5 el) ?_;refine AC.seq ?_;refine jz w1 500 [0,1,2,3,4] 5 [6] rfl (by kernel_rfl) hR ?_;refine BR ?_;refine B3 kT hx ?_;refine BK ⟨rfl,trivial⟩ ?_;refine BR ?_;refine⟨rfl,_,hy _,?_,?_⟩
   ·rintro H2 n2 (⟨_,a',hP',hf⟩|⟨h,-⟩)
    rotate_left
    ·cases h
    refine BK (by exact CL) ?_;refine BM ?_;refine AO ?_;refine Am ?_;refine Aq 600 ?_;refine AV a3 ?_;exact⟨(i+1,a',_),⟨hR,hi,hP'⟩,(by dsimp only;omega),AK (a:=hf)⟩
   ·rintro c2 H2 n2 (⟨h,-⟩|⟨h,hZ⟩) F2 hst
    ·cases h
    cases h;refine BR ?_;refine AO ?_;refine AC.weak ⟨[],H2,_⟩ AK ?_;refine AC.ret ?_;exact⟨_,hst,trivial,.inr ⟨rfl,hZ⟩⟩
 ·have hi:i=N:=by
   have:=Ds h8
   omega
  subst hi;refine CO ?_;exact⟨none,hR.stat,trivial,.inl ⟨rfl,a,hP,rfl⟩⟩
def AE.w (x:AE)(m:Int):AE:=⟨x.grain,m,x.shs⟩
def Ea:List AE->Int->List AE
 | [],_=>[]
 |x::r,m=>x.w (min x.mass m)::if m-x.mass<=0 then[]else Ea r (m-x.mass)
def IP (g1:Nat)(p:List AE×Int×Nat):Hp:=EG 408 p.2.2 51 3 (p.1.map AE.D)++[⟨100,g1,29,1,[EL 408 p.2.2 3 (p.1.map AE.D)]⟩,⟨0,0,3,1,[i64 p.2.1]⟩]
theorem bn (g1:Nat)(m:Int)(g:Nat):IP g1 ([],m,g)=[⟨100,g1,29,1,[Cd]⟩,⟨0,0,3,1,[i64 m]⟩]:=rfl
theorem U3 (g1:Nat)(z:AE)(o:List AE)(m:Int)(g:Nat):IP g1 (z::o,m,g)=[⟨408,g,51,3,z.D::o.map AE.D⟩,⟨100,g1,29,1,[.osl 408 g 3 0 ((o.map AE.D).length+1)]⟩,⟨0,0,3,1,[i64 m]⟩]:=rfl
def Qk (L:List AE)(m:Int)(k:Nat)(p:List AE×Int×Nat):Prop:=p.1.length=k/\p.1++Ea (L.drop k) p.2.1=Ea L m/\0<=p.2.1/\p.2.1<=1000000000000
def Gh (bk:Bool)(l:List AE):List AE:=if bk then l.reverse else l
theorem y9 (bk:Bool)(l:List AE){k:Nat}(hk:k<l.length):(l.map AE.D)[if bk then(l.map AE.D).length-1-k else k]?=((Gh bk l)[k]?).map AE.D:=by
 unfold Gh;rw[Ae,Az];cases bk
 ·rfl
 ·simp only[if_true]
  rw[List.getElem?_reverse hk]
theorem Ve (b bk:Bool)(l:List AE)(m:Int)(hl:l.length<=1000000)(hm:0<=m/\m<=1000000000000)(hx:∀x∈l,0<=x.mass/\x.mass<=1000000000)
  (ho:∀x∈l,∀m,AL C0 67 [x.D,i64 m] (x.w m).D) (R:D) [pR:AA R] (hN:AL C0 36 [Aj false (Ea (Gh bk l) m)] R):
  AL C0 74 [Aj b l,i64 m,Ap bk] R:=by
 refine Ad.walk w1 jC rfl λF=>?_
 have cV:=Ur b bk (l.map AE.D);have hT:∀x∈l.map AE.D,∃a c d,x=.agg [a,c,d]:=λx hx=>by
  obtain⟨y,-,rfl⟩:=By.1 hx;exact⟨_,_,_,rfl⟩
 have hoL:∀k,k<l.length->∃x,x∈l/\(Gh bk l)[k]?=some x:=λk hk=>by
  unfold Gh;cases bk
  ·exact⟨_,List.getElem_mem hk,Bx hk⟩
  ·simp only[if_true]
   rw[List.getElem?_reverse hk]
   have:l.length-1-k<l.length:=by omega
   exact⟨_,List.getElem_mem this,Bx this⟩
 have hlen:(Gh bk l).length=l.length:=by unfold Gh;cases bk<;>simp
 obtain⟨L,hL⟩:∃L,Gh bk l=L:=⟨_,rfl⟩
 have hoA:=λk (hk:k<l.length)=>y9 bk l hk
 rw[hL]at hoL hoA hN hlen;unfold Aj;obtain⟨T,hTT⟩:∃T,l.map AE.D=T:=⟨_,rfl⟩
 have pT:AA (.sl b 3 T):=by rw[<-hTT];exact AJ
 have hTl:T.length=l.length:=by rw[<-hTT,Ae]
 rw[hTT]at cV hT hoA⊢;refine sR 0 ?_;refine sR 100 ?_;refine AC.seq ?_;refine sR 200 ?_;refine cI cV ?_;refine AC.block ?_;have h0:Qk L m 0 ([],m,0):=⟨rfl,rfl,hm⟩
 refine AC.rangeFunc (fi:=107) (first:=[]) (captured:=[.pptr (.sl b 3 T),.pptr (Ap bk)]) (Ψ:=λj _ H' _=>(j=none/\∃a,Qk L m T.length a/\H'=IP 2 a)\/(j=some (.exit 0)/\∃m' g,H'=IP 2 (Ea L m,m',g))) rfl
  (λds H n Φ=>∃k a x,Qk L m k a/\k<T.length/\T[if bk then T.length-1-k else k]?=some x/\ds=[x]/\H=IP 2 a/\Φ=λj H' _=>(j=none/\∃a',Qk L m (k+1) a'/\C3 H' (IP 2 a') H' (IP 2 a'))\/(j=some (.exit 0)/\∃m' g,H'=IP 2 (Ea L m,m',g))) ?_
  (λE l' R' hE hY=>Wu hE b bk T hT (by omega) (λ_ a=>IP 2 a) (Qk L m) (.exit 0) (λH'=>∃m' g,H'=IP 2 (Ea L m,m',g)) ([],m,0) h0 _ λk a x n hP hk hx=>hY _ _ _ _ ⟨k,a,x,hP,hk,hx,rfl,rfl,rfl⟩) ?_
 ·rintro l' ds H n Φ ⟨k,⟨o,m',g⟩,x,⟨p1,p2,p3,p4⟩,hk,hxT,rfl,rfl,rfl⟩
  dsimp only at p1 p2 p3 p4;obtain⟨y,hy1,hy2⟩:=hoL k (by omega);rw[hoA k (by omega),hy2]at hxT;cases hxT;have hd:L.drop k=y::L.drop (k+1):=by
   have:=(BS.1 hy2)
   rw[Ey this.1,this.2]
  rw[hd]at p2;have hb:=hx y hy1;have cO:=ho y hy1 (min y.mass m');have p5:(o++[y.w (min y.mass m')])++(if m'-y.mass<=0 then[]else Ea (L.drop (k+1)) (m'-y.mass))=Ea L m:=by
   rw[<-p2,Dt];rfl
  have a1:IntKind.i64.wrap (m'-y.mass)=m'-y.mass:=wI;refine⟨rfl,λF=>?_⟩;unfold AE.w AE.D at cO;unfold AE.D;dsimp only at cO⊢;obtain⟨SD,hSD⟩:∃d,Co false y.shs=d:=⟨_,rfl⟩
  have pS:AA SD:=by rw[<-hSD];exact AJ
  rw[hSD]at cO⊢;rcases o with _|⟨z,o⟩
  ·rw[bn]
   dsimp only[HX];refine Aq 300 ?_;refine AF kB ?_;refine⟨trivial,trivial,λF'=>?_⟩;refine AC.block ?_;refine AC.seq ?_;refine CR 400 [0,1,2,3,4,5,6,7] [8,9] ?_;refine BR ?_;refine Bf.same _ (cO) AJ ?_;refine BR ?_;refine sZ 500 ?_;refine AV a1 ?_;refine sR 600 ?_;refine AC.weak ⟨[(27,Ap (decide (m'-y.mass<=0)))],[⟨408,n+1+1+10,51,3,[.agg [str (sb y.grain),i64 (min y.mass m'),SD]]⟩,⟨100,2,29,1,[.osl 408 (n+1+1+10) 3 0 1]⟩,⟨0,0,3,1,[i64 (m'-y.mass)]⟩],_⟩ AK ?_;rw[<-hSD]
   by_cases hz:m'-y.mass<=0
   ·rw[Ax hz]
    rw[AI hz,Dh]at p5;refine AO ?_;refine CO ?_;refine .inr ⟨rfl,m'-y.mass,n+1+1+10,?_⟩;rw[<-p5];rfl
   ·rw[A8 hz]
    rw[AG hz]at p5;refine AO ?_;refine Am ?_;exact .inl ⟨rfl,([y.w (min y.mass m')],m'-y.mass,n+1+1+10),⟨by rw[<-p1];rfl,p5,by dsimp only;omega,by dsimp only;omega⟩,Hq _⟩
  ·have wl:AA (.sl false 3 ((z::o).map AE.D)):=AJ
   have hol:o.length<=1000000:=by rw[Br]at p1;omega
   rw[Ci]at wl;rw[U3];dsimp only[HX];obtain⟨O,hO⟩:∃O,o.map AE.D=O:=⟨_,rfl⟩
   obtain⟨zD,hzD⟩:∃O,z.D=O:=⟨_,rfl⟩
   have hOl:O.length=o.length:=by rw[<-hO,Ae]
   rw[hO,hzD];refine Aq 300 ?_;refine AF kB ?_;refine⟨trivial,trivial,λF'=>?_⟩;refine AC.block ?_;refine AC.seq ?_;refine CR 400 [0,1,2,3,4,5,6,7] [8,9] ?_;refine BR ?_;refine Bf.same _ (cO) AJ ?_;refine BR ?_;rw[show List.take (O.length+1) (zD::O)=zD::O from Cz (l:=zD::O)];refine sZ 500 ?_;refine AV a1 ?_;refine sR 600 ?_;refine AC.weak ⟨[(27,Ap (decide (m'-y.mass<=0)))],[⟨408,n+1+1+10,51,3,zD::O++[.agg [str (sb y.grain),i64 (min y.mass m'),SD]]⟩,⟨100,2,29,1,[.osl 408 (n+1+1+10) 3 0 (O.length+1+1)]⟩,⟨0,0,3,1,[i64 (m'-y.mass)]⟩],_⟩ AK ?_;have hs:∀g' mm,IP 2 (z::o++[y.w (min y.mass m')],mm,g')=[⟨408,g',51,3,zD::O++[.agg [str (sb y.grain),i64 (min y.mass m'),SD]]⟩,⟨100,2,29,1,[.osl 408 g' 3 0 (O.length+1+1)]⟩,⟨0,0,3,1,[i64 mm]⟩]:=λg' mm=>by
    rw[E2,U3,<-hO,<-hzD,<-hSD,DA];rw[Be];rfl
   rw[<-hs]
   by_cases hz:m'-y.mass<=0
   ·rw[Ax hz]
    rw[AI hz,Dh]at p5;refine AO ?_;refine CO ?_;exact .inr ⟨rfl,m'-y.mass,n+1+1+10,by rw[<-p5];rfl⟩
   ·rw[A8 hz]
    rw[AG hz]at p5;refine AO ?_;refine Am ?_;exact .inl ⟨rfl,(z::o++[y.w (min y.mass m')],m'-y.mass,n+1+1+10),⟨by rw[<-p1];simp,p5,by dsimp only;omega,by dsimp only;omega⟩,Hq _⟩
 ·rintro j d H' n' F' hE
  have hE2:∃m' g,H'=IP 2 (Ea L m,m',g)/\(j=none\/j=some (.exit 0)):=by
   rcases hE with⟨hj,⟨o,m',g⟩,⟨p1,p2,-,-⟩,rfl⟩|⟨hj,m',g,rfl⟩
   ·refine⟨m',g,?_,.inl hj⟩
    dsimp only at p2;rw[List.drop_eq_nil_of_le (by omega)]at p2;rw[show o=Ea L m by rw[<-p2];exact(Dh o).symm]
   ·exact⟨m',g,rfl,.inr hj⟩
  obtain⟨m',g,rfl,hj⟩:=hE2;obtain⟨o,hO⟩:∃o,Ea L m=o:=⟨_,rfl⟩
  rw[hO]at hN⊢;rcases o with _|⟨z,o⟩
  ·rw[bn]
   rcases hj with rfl|rfl
   all_goals
    change AC _ _ _ _ _ _ _;refine sR 700 ?_;refine BE.pure [.sl false 3 []] _ ⟨.nil 3,trivial⟩ hN AJ ?_;refine BR ?_;refine Ag ?_;exact AM rfl pR.out
  ·have hR:=GZ (H:=IP 2 (z::o,m',g)) (Hf:=[]) (k:=408) (g:=g) (T:=51) (sz:=3) (l:=(z::o).map AE.D) rfl
   have hle:((z::o).map AE.D).length=(o.map AE.D).length+1:=rfl;rw[hle]at hR;rw[U3]at hR⊢;rcases hj with rfl|rfl
   all_goals
    change AC _ _ _ _ _ _ _;refine sR 700 ?_;refine BE.own _ (QS [] hN (.drop (.drop (.drop .nil))) ⟨hR,trivial⟩ AJ) ?_;rintro d H2 n2 ⟨rfl,rfl,rfl⟩;refine BR ?_;refine Ag ?_;exact AM rfl pR.out
abbrev MR:Dr:=[(6,[0,1,2,3,4,5,6,7],[8])]
abbrev Nh:Dr:=[(6,[0,1,2,3,4,5,6,7,8,9,10,11,12,13,14,15,16,17,18,19,20,21],[22,23])]
open Go.Proofs Go.RowKit
set_option maxRecDepth 20000
set_option maxHeartbeats 4000000
def HD (s t:As):Bool:=BI (sb s.lot) (sb t.lot)&&BI (sb s.part) (sb t.part)
def GB:List As->List As->Bool
 | [],[]=>true
 |s::S,t::T=>HD s t&&GB S T
 |_,_=>false
theorem Ui:∀ {S T:List As},S.length≠T.length->GB S T=false
 | [],[],h=>Ak rfl h
 | [],_::_,_=>rfl
 |_::_,[],_=>rfl
 |s::S,t::T,h=>by
  show(HD s t&&GB S T)=false;rw[Ui (S:=S) (T:=T) λq=>h (congrArg (· + 1) q),Bool.and_false]
theorem NR:∀ {S T:List As} {i:Nat} {s t:As},S[i]?=some s->T[i]?=some t->HD s t=false->GB S T=false
 |s::S,t::T,0,_,_,h1,h2,h=>by
  cases h1;cases h2;show(HD s t&&GB S T)=false;rw[h,II]
 |s::S,t::T,i+1,_,_,h1,h2,h=>by
  show(HD s t&&GB S T)=false;rw[NR (S:=S) (T:=T) (i:=i) h1 h2 h,Bool.and_false]
theorem Uh:∀ {S T:List As},S.length=T.length->(∀(i:Nat) (s t:As),S[i]?=some s->T[i]?=some t->HD s t=true)->GB S T=true
 | [],[],_,_=>rfl
 | [],_::_,h,_=>by cases h
 |_::_,[],h,_=>by cases h
 |s::S,t::T,h,k=>by
  show(HD s t&&GB S T)=true;rw[k 0 s t rfl rfl,Uh (S:=S) (T:=T) (Nat.succ.inj h) λi s t h1 h2=>k (i+1) s t h1 h2];rfl
theorem pI (b1 b2:Bool)(S T:List As)(hS:S.length<=1000000)(hT:T.length<=1000000):AL C0 108 [Co b1 S,Co b2 T] (Ap (GB S T)):=by
 refine Ad.walk w1 dE rfl λF=>?_
 have e1:(((S.map As.D).length:Nat):Int)=(S.length:Int):=by rw[Ae]
 have e2:(((T.map As.D).length:Nat):Int)=(T.length:Int):=by rw[Ae]
 by_cases hl:S.length=T.length
 rotate_left
 ·have hne:((S.length:Int) != (T.length:Int))=true:=bne_iff_ne.2 (by omega)
  rw[Ui hl];refine AH MR (Ar e1 e2 hne) AB AB AB AB AB AB ?_;exact AM rfl AA.out
 have hne:((S.length:Int) != (T.length:Int))=false:=by rw[hl];exact bne_self_eq_false _
 refine AH MR (Ar e1 e2 hne) AB AB AB AB AB AB ?_;refine AC.loop (α:=Nat×Nat) (λp=>⟨[(0,Co b1 S),(1,Co b2 T),(12,i64 (S.length:Int)),(13,i64 (p.1:Int))],[],p.2⟩) (λp=>S.length-p.1) (λq=>q.1<=S.length/\∀(j:Nat) (s t:As),j<q.1->S[j]?=some s->T[j]?=some t->HD s t=true) (0,_) ⟨BT _,λj _ _ h=>Ak h (HJ j)⟩ AK ?_;rintro⟨i,n⟩ F ⟨hi,ha⟩;dsimp only at hi ha⊢;rcases BC i S.length with h2|h2
 rotate_left
 ·have k1:=Cc h2
  rw[Uh hl λj s t h1 h3=>ha j s t (by have:=(BS.1 h1).1;omega) h1 h3];refine AH MR k1 AB AB AB AB AB AB ?_;exact AM rfl AA.out
 have k1:=CZ h2;have wi:=Ce (i:=i) (by omega);obtain⟨x,hx⟩:=CJ h2;obtain⟨y,hy⟩:=CJ (show i<T.length by omega);have hm:(S.map As.D)[i]?=some (.agg [str (sb x.lot),str (sb x.part)]):=by rw[Az,hx];rfl
 have hm2:(T.map As.D)[i]?=some (.agg [str (sb y.lot),str (sb y.part)]):=by rw[Az,hy];rfl
 obtain⟨q1,c1⟩:∃q,BI (sb x.lot) (sb y.lot)=q:=⟨_,rfl⟩
 obtain⟨q2,c2⟩:∃q,BI (sb x.part) (sb y.part)=q:=⟨_,rfl⟩
 have hsh:HD x y=(q1&&q2):=by unfold HD;rw[c1,c2]
 have b1':(!(true&&(true&&true)))=false:=rfl;have b2':(!(true&&(false&&true)))=true:=rfl;have b3':(!(false&&(true&&true)))=true:=rfl;have b4':(!(false&&(false&&true)))=true:=rfl;cases q1<;>cases q2
 ·rw[NR hx hy hsh]
  refine AH MR (CP k1 wi c1 c2 b1' b2' (Ar b3' b4' kN)) hm hm2 AB AB AB AB ?_;exact AM rfl AA.out
 ·rw[NR hx hy hsh]
  refine AH MR (CP k1 wi c1 c2 b1' b2' (Ar b3' b4' kN)) hm hm2 AB AB AB AB ?_;exact AM rfl AA.out
 ·rw[NR hx hy hsh]
  refine AH MR (CP k1 wi c1 c2 b1' b2' (Ar b3' b4' kN)) hm hm2 AB AB AB AB ?_;exact AM rfl AA.out
 ·refine AH MR (CP k1 wi c1 c2 b1' b2' (Ar b3' b4' kN)) hm hm2 AB AB AB AB ?_
  refine⟨(i+1,_),⟨h2,λj s t hj h1 h3=>?_⟩,by dsimp only;omega,AK⟩;rcases BC j i with h|h
  ·exact ha j s t h h1 h3
  ·have:j=i:=by dsimp only at hj;omega
   subst this;rw[hx]at h1;rw[hy]at h3;cases h1;cases h3;exact hsh
def FP (x y:AE):Bool:=BI (sb x.grain) (sb y.grain)&&GB x.shs y.shs
theorem sk (x y:AE)(hx:x.shs.length<=1000000)(hy:y.shs.length<=1000000):AL C0 72 [x.D,y.D] (Ap (FP x y)):=by
 refine Ad.walk w1 ik rfl λF=>?_
 have c:=pI false false x.shs y.shs hx hy;obtain⟨q,hq⟩:∃q,BI (sb x.grain) (sb y.grain)=q:=⟨_,rfl⟩
 have hb:FP x y=(q&&GB x.shs y.shs):=by unfold FP;rw[hq]
 rw[hb];unfold AE.D;unfold Co at c⊢;obtain⟨S,hS⟩:∃S,x.shs.map As.D=S:=⟨_,rfl⟩
 have pS:AA (.sl false 2 S):=by rw[<-hS];exact AJ
 obtain⟨T,hT⟩:∃S,y.shs.map As.D=S:=⟨_,rfl⟩
 have pT:AA (.sl false 2 T):=by rw[<-hT];exact AJ
 rw[hS,hT]at c⊢;cases q
 ·refine AH AW (Ar hq kT kF) c AB AB AB AB AB ?_
  exact AM rfl AA.out
 ·refine AH AW (Ar hq kT kF) c AB AB AB AB AB ?_
  exact AM rfl AA.out
theorem tU (b1 b2:Bool)(S T:List As)(hS:S.length<=1000000)(hT:T.length<=1000000):AL C0 26 [Co b1 S,Co b2 T] (Ap (GB S T)):=by
 refine Ad.walk w1 WV rfl λF=>?_
 have e1:(((S.map As.D).length:Nat):Int)=(S.length:Int):=by rw[Ae]
 have e2:(((T.map As.D).length:Nat):Int)=(T.length:Int):=by rw[Ae]
 by_cases hl:S.length=T.length
 rotate_left
 ·have hne:((S.length:Int) != (T.length:Int))=true:=bne_iff_ne.2 (by omega)
  rw[Ui hl];refine AH Nh (Ar e1 e2 hne) AB AB AB AB AB AB ?_;exact AM rfl AA.out
 have hne:((S.length:Int) != (T.length:Int))=false:=by rw[hl];exact bne_self_eq_false _
 refine AH Nh (Ar e1 e2 hne) AB AB AB AB AB AB ?_;refine AC.loop (α:=Nat×Nat) (λp=>⟨[(0,Co b1 S),(1,Co b2 T),(5,i64 (p.1:Int))],[],p.2⟩) (λp=>S.length-p.1) (λq=>q.1<=S.length/\∀(j:Nat) (s t:As),j<q.1->S[j]?=some s->T[j]?=some t->HD s t=true) (0,_) ⟨BT _,λj _ _ h=>Ak h (HJ j)⟩ AK ?_;rintro⟨i,n⟩ F ⟨hi,ha⟩;dsimp only at hi ha⊢;rcases BC i S.length with h2|h2
 rotate_left
 ·have k1:=Cc h2
  rw[Uh hl λj s t h1 h3=>ha j s t (by have:=(BS.1 h1).1;omega) h1 h3];refine AH Nh (Ab e1 k1) AB AB AB AB AB AB ?_;exact AM rfl AA.out
 have k1:=CZ h2;have wi:=Ce (i:=i) (by omega);obtain⟨x,hx⟩:=CJ h2;obtain⟨y,hy⟩:=CJ (show i<T.length by omega);have hm:(S.map As.D)[i]?=some (.agg [str (sb x.lot),str (sb x.part)]):=by rw[Az,hx];rfl
 have hm2:(T.map As.D)[i]?=some (.agg [str (sb y.lot),str (sb y.part)]):=by rw[Az,hy];rfl
 obtain⟨q1,c1⟩:∃q,BI (sb x.lot) (sb y.lot)=q:=⟨_,rfl⟩
 obtain⟨q2,c2⟩:∃q,BI (sb x.part) (sb y.part)=q:=⟨_,rfl⟩
 have hsh:HD x y=(q1&&q2):=by unfold HD;rw[c1,c2]
 cases q1
 ·rw[NR hx hy hsh]
  refine AH Nh (CP e1 k1 wi c1 kN kT kF) hm hm2 AB AB AB AB ?_;exact AM rfl AA.out
 cases q2
 ·rw[NR hx hy hsh]
  refine AH Nh (CP e1 k1 wi c1 c2 kN (Ab kT kF)) hm hm2 AB AB AB AB ?_;exact AM rfl AA.out
 ·refine AH Nh (CP e1 k1 wi c1 c2 kN (Ab kT kF)) hm hm2 AB AB AB AB ?_
  refine⟨(i+1,_),⟨h2,λj s t hj h1 h3=>?_⟩,by dsimp only;omega,AK⟩;rcases BC j i with h|h
  ·exact ha j s t h h1 h3
  ·have:j=i:=by dsimp only at hj;omega
   subst this;rw[hx]at h1;rw[hy]at h3;cases h1;cases h3;exact hsh
theorem uW (x y:AE)(hx:x.shs.length<=1000000)(hy:y.shs.length<=1000000):AL C0 45 [x.D,y.D] (Ap (FP x y)):=by
 refine Ad.walk w1 WZ rfl λF=>?_
 have c:=tU false false x.shs y.shs hx hy;obtain⟨q,hq⟩:∃q,BI (sb x.grain) (sb y.grain)=q:=⟨_,rfl⟩
 have hb:FP x y=(q&&GB x.shs y.shs):=by unfold FP;rw[hq]
 rw[hb];unfold AE.D;unfold Co at c⊢;obtain⟨S,hS⟩:∃S,x.shs.map As.D=S:=⟨_,rfl⟩
 have pS:AA (.sl false 2 S):=by rw[<-hS];exact AJ
 obtain⟨T,hT⟩:∃S,y.shs.map As.D=S:=⟨_,rfl⟩
 have pT:AA (.sl false 2 T):=by rw[<-hT];exact AJ
 rw[hS,hT]at c⊢;cases q
 ·refine AH AW (Ar hq kT kF) c AB AB AB AB AB ?_
  exact AM rfl AA.out
 ·refine AH AW (Ar hq kT kF) c AB AB AB AB AB ?_
  exact AM rfl AA.out
def S4 (H:Hp)(env:Ao):Ao->Prop
 | []=>True
 |(t,d)::r=>Dx H (env.get t) d/\S4 H env r
theorem S4.get {H:Hp}{env:Ao}:∀ {env':Ao},S4 H env env'->∀t,Dx H (env.get t) (env'.get t)
 | [],_,t=>λ_ _ _ _ _ _ _ v _=>.any v
 |(k,d)::r,h,t=>by
  simp only[Ao.get];cases hb:Nat.beq k t with
  |true=>
   have:=CH hb
   subst this;exact h.1
  |false=>exact h.2.get t
theorem kC {C:BA}{B F:AZ}{rd:Option Nat}{c:Code}{s:St}{Q:Exit->AZ->St->Prop}(env':Ao)(he:S4 s.H s.env env')(h:AC C B rd F c ⟨env',[],s.n⟩ Q):AC C B rd F c s Q:=⟨λhB hd ρ a w hs=>by
 have hH:C3 s.H [] s.H []:=by
  generalize s.H=H0
  have:∀H1:Hp,C3 H0 [] H1 []:=λH1=>by
   induction H1 with
   |nil=>exact .nil
   |cons e r ih=>exact .drop ih
  exact this H0
 obtain⟨m,hO,hN⟩:=hH.mem hs.mem;exact h.out hB hd ρ a w ⟨m,hs.fresh,by simp,λt=>he.get t _ _ _ _ hs.mem hO (λe he b hb=>hN e he b hb rfl) _ (hs.env t),hs.nt,hs.dfr⟩⟩
theorem SG (B:D)[pB:AA B][pC:AX B](hB:∃a b c d e,B=.agg [a,b,c,d,e])(b:Bool)(ls:List D)[pL:AA (.sl b 1 ls)](i:Nat)(x:Int)(hx:ls[i]?=some (i64 x))(R:D)[pR:AA R](m:Int)
  (cB:AL C0 58 [.sl b 1 ls,i64 (i:Int),.clo (.func 75) [] [.pptr (.sl b 1 ls),.pptr (i64 (i:Int)),.pptr B]] R)
  (cL:AL C0 57 [i64 x,R] (i64 m)):AL C0 41 [B,.sl b 1 ls,i64 (i:Int)] (i64 m):=by
 refine Ad.walk w1 iP rfl λF=>?_
 obtain⟨a1,a2,a3,a4,a5,rfl⟩:=hB;refine sR 0 ?_;refine AC.seq ?_;refine kC [(3,.pptr (.agg [a1,a2,a3,a4,a5])),(4,.pptr (.sl b 1 ls)),(5,.pptr (i64 (i:Int)))] ⟨.ptr rfl rfl rfl rfl,.ptr rfl rfl rfl rfl,.ptr rfl rfl rfl rfl,trivial⟩ ?_;refine CR 100 [0,1,2,3,4,5,6,7] [8,9] ?_;refine BR ?_;refine B3 kT hx ?_;refine AF kB ?_;refine Bf.same _ (cB) AJ ?_;refine BR ?_;refine cI cL ?_;refine Ag ?_;exact AM rfl AA.out
theorem t6 (B:D)[pB:AA B][pC:AX B](a1 a2 a4 a5:D)(room:Int)(hB:B=.agg [a1,a2,i64 room,a4,a5])(ls:List D)[pL:AA (.sl false 1 ls)](i:Nat)(x:Int)(hx:ls[i]?=some (i64 x))(R:D)[pR:AA R](m:Int)
  (cC:AL C0 29 [B,.sl true 1 [i64 (i:Int)]] (i64 0)) (cV:AL C0 40 [B] (.sl false 1 ls))
  (cB:AL C0 58 [.sl false 1 ls,i64 (i:Int),.clo (.func 59) [] [.pptr B,.pptr (.sl false 1 ls),.pptr (i64 (i:Int))]] R) (r:Int) (hr:IntKind.i64.wrap (room-x)=r)
  (cL:AL C0 57 [i64 r,R] (i64 m)):AL C0 21 [B,i64 (i:Int)] (.tup [i64 m,i64 0]):=by
 refine Ad.walk w1 iH rfl λF=>?_
 have e0:((0:Int) != 0)=false:=rfl;subst hB;refine sR 0 ?_;refine AC.seq ?_;refine sR 100 ?_;refine cI cC ?_;refine sZ 200 ?_;refine AV e0 ?_;refine AO ?_;refine Am ?_;refine sR 400 ?_;refine cI cV ?_;refine AC.seq ?_;refine kC [(2,.pptr (.agg [a1,a2,i64 room,a4,a5])),(3,.pptr (i64 (i:Int))),(7,.pptr (.sl false 1 ls))] ⟨.ptr rfl rfl rfl rfl,.ptr rfl rfl rfl rfl,.ptr rfl rfl rfl rfl,trivial⟩ ?_;refine CR 500 [0,1,2,3,4,5,6,7,8,9,10] [11,12,13] ?_;refine BR ?_;refine B3 kT hx ?_;refine AF hr ?_;refine Bf.same _ (cB) AJ ?_;refine BR ?_;refine cI cL ?_;refine Ag ?_;exact AM rfl AA.out
abbrev Bi (l:List Int):List D:=l.map λx=>i64 x
theorem m7 (a1 a2 a3 a4:D)[AA a1][AA a2][AA a3][AA a4](b:Bool)(cs:List D)[pc:AA (.sl b 1 cs)](ls:List Int)(hlen:ls.length=cs.length)(h0:cs≠[])(hl:cs.length<=1000000)
  (hc:∀(i:Nat) (c:D) (m:Int),cs[i]?=some c->ls[i]?=some m->AL C0 31 [c] (i64 m)) (hp:∀c∈cs,∃bb l,c=.sl bb 3 l/\AA c) (g0:Nat) (x:D) (n:Nat):
  Cv C0 40 [.agg [a1,a2,a3,a4,.sl b 1 cs]] [⟨0,g0,24,5,[x]⟩] n (λd H' _=>∃g,d=.osl 504 g 1 0 ls.length/\H'=[⟨504,g,3,1,Bi ls⟩,⟨0,g0,24,5,[x]⟩]):=by
 refine Cv.walk w1 WY rfl λF=>?_
 refine AH AW kB AB AB AB AB AB AB ?_;refine AC.loop (α:=Nat×Nat×Nat) (λp=>⟨[(3,EL 504 p.2.1 1 (Bi (ls.take p.1))),(7,.sl b 1 cs),(8,i64 (cs.length:Int)),(9,i64 (p.1:Int))],EG 504 p.2.1 3 1 (Bi (ls.take p.1))++[⟨0,g0,24,5,[x]⟩],p.2.2⟩) (λp=>cs.length-p.1) (λq=>q.1<=cs.length) (0,0,_) (BT _) AK ?_;rintro⟨i,g,n⟩ F hi;dsimp only at hi⊢;rcases BC i cs.length with h2|h2
 rotate_left
 ·have e1:=Cc h2
  have hi2:i=cs.length:=by omega
  rw[Cp (by omega:ls.length<=i)];have hls:ls≠[]:=λh=>h0 (FC (by rw[<-hlen,h];rfl))
  obtain⟨z,r,rfl⟩:∃z r,ls=z::r:=by
   cases ls with
   |nil=>exact Ak rfl hls
   |cons z r=>exact⟨z,r,rfl⟩
  rw[show Bi (z::r)=i64 z::Bi r from rfl,Gu,Gv,E2,FS];refine AH AW e1 AB AB AB AB AB AB ?_;exact⟨_,by rw[Ae],rfl⟩
 have e1:=CZ h2;have wi:=Ce (i:=i) (by omega);obtain⟨c,hm⟩:=CJ h2;obtain⟨m,hm2⟩:=CJ (show i<ls.length by omega);obtain⟨bb,cl,rfl,pcl⟩:=hp c (Au hm);have cT:=hc i _ m hm hm2;have ht:ls.take (i+1)=ls.take i++[m]:=by rw[Du,hm2];rfl
 obtain⟨R,hR⟩:∃R,ls.take i=R:=⟨_,rfl⟩
 rw[hR]at ht⊢;rcases R with _|⟨z,R⟩
 ·rw[show Bi []=[]from rfl,IW,IX,FS]
  refine AH AW (Ar e1 wi kN) hm cT AB AB AB AB ?_;refine⟨(i+1,n+1+1+1+1+1+1+1+1,n+1+1+1+1+1+1+1+1+1+1+1+1),h2,by dsimp only;omega,?_⟩;dsimp only;rw[ht];exact AK
 ·rw[show Bi (z::R)=i64 z::Bi R from rfl,Gu,Gv,E2,FS]
  obtain⟨O,hO⟩:∃O,Bi R=O:=⟨_,rfl⟩
  have hOl:O.length+1=i:=by
   rw[<-hO,Ae]
   have:(z::R).length=i:=by rw[<-hR,Bd];omega
   exact this
  rw[hO];refine AH AW (Ar e1 wi kN) hm cT AB AB AB AB ?_;refine⟨(i+1,n+1+1+1+1+1+1+1+1,n+1+1+1+1+1+1+1+1+1+1+1+1),h2,by dsimp only;omega,?_⟩;dsimp only;rw[ht,show Bi (z::R++[m])=i64 z::O++[i64 m]from by rw[<-hO];unfold Bi;rw[DA];rfl];rw[E2,Gu,Gv,Be];rw[show List.take (O.length+1) (i64 z::O)=i64 z::O from Cz (l:=i64 z::O)];exact AK
def QC (k g sz:Nat)(env:Ao):Ao->Prop
 | []=>True
 |(t,d)::r=>(d=env.get t\/(env.get t=Cd/\d=.osl k g sz 0 0))/\QC k g sz env r
theorem QC.get {k g sz:Nat}{env:Ao}:∀ {env':Ao},QC k g sz env env'->∀t,env'.get t=.any\/env'.get t=env.get t\/(env.get t=Cd/\env'.get t=.osl k g sz 0 0)
 | [],_,t=>.inl rfl
 |(q,d)::r,h,t=>by
  rw[JQ]
  by_cases hk:q=t
  ·subst hk;rw[AI rfl];exact .inr h.1
  ·rw[AG hk];exact QC.get h.2 t
theorem AC.ghost {C:BA}{B F:AZ}{rd:Option Nat}{c:Code}{s:St}{Q:Exit->AZ->St->Prop}(k T sz:Nat)(env':Ao)(he:QC k s.n sz s.env env')(h:AC C B rd F c ⟨env',⟨k,s.n,T,sz,[]⟩::s.H,s.n+1⟩ Q):AC C B rd F c s Q:=⟨λhB hd ρ a w hs=>by
 obtain⟨m1,hO⟩:=hs.mem.ghost (k:=k) (n:=s.n) (T:=T) (sz:=sz) (hs.fresh k _ (An _));refine h.out hB hd ρ a w ⟨m1,λk g hg=>hs.fresh k g (by dsimp only at hg;omega),λe he=>?_,λt=>?_,hs.nt,hs.dfr⟩
 ·rcases A9.1 he with rfl|he
  ·exact IN _
  ·exact Dg (hs.gen e he)
 ·have hr:=hs.env t
  dsimp only;rw[hO];rcases he.get t with h|h|⟨h1,h2⟩
  ·rw[h];exact .any _
  ·rw[h];exact hr
  ·rw[h2]
   rw[h1]at hr;generalize a.tmps.getD t undef=v at hr⊢;cases hr;exact .onil _ _ _⟩
def JX (l:List Int):Nat->Nat
 | 0=>0
 |k+1=>if l.getD (JX l k) 0<l.getD k 0 then k else JX l k
def GT (l:List Int):Nat:=JX l l.length
theorem V7 {l:List Int}(h:0<l.length):∀k,k<=l.length->JX l k<l.length
 | 0,_=>h
 |k+1,hk=>by
  unfold JX;split
  ·omega
  ·exact V7 h k (by omega)
def L4 (mf:List Int->Int):Nat->List Int->List (Nat×Int)->List (Nat×Int)×Int
 | 0,_,_=>([],19)
 |k+1,l,out=>if l.getD (GT l) 0=0 then(out,0)else if mf l=0 then([],7)else if out.length=256 then([],19)else L4 mf k (l.set (GT l) (l.getD (GT l) 0-mf l)) (out++[(GT l,mf l)])
def Iv (p:Nat×Int):D:=.agg [i64 (p.1:Int),i64 p.2]
instance  (p:Nat×Int):AX (Iv p):=by unfold Iv;exact AJ
instance  (p:Nat×Int):AA (Iv p):=by unfold Iv;exact AJ
theorem Pw {l:List Int}{i:Nat}(h:i<l.length):(Bi l)[i]?=some (i64 (l.getD i 0)):=by
 rw[Az,ED,Bx h];rfl
theorem rJ (a1 a2 a3 a4:D)[AA a1][AA a2][AA a3][AA a4](b:Bool)(cs:List D)[pc:AA (.sl b 1 cs)](ls:List Int)(hlen:ls.length=cs.length)(h0:cs≠[])(hl:cs.length<=1000000)
  (hc:∀(i:Nat) (c:D) (m:Int),cs[i]?=some c->ls[i]?=some m->AL C0 31 [c] (i64 m)) (hp:∀c∈cs,∃bb l,c=.sl bb 3 l/\AA c)
  (cK:AL C0 65 [.agg [a1,a2,a3,a4,.sl b 1 cs]] (i64 0))
  (mf:List Int->Int) (I:List Int->Prop) (hI0:I ls) (hI:∀l,I l->l.getD (GT l) 0≠0->AL C0 41 [.agg [a1,a2,a3,a4,.sl b 1 cs],.sl false 1 (Bi l),i64 ((GT l:Nat):Int)] (i64 (mf l))/\IntKind.i64.wrap (l.getD (GT l) 0-mf l)=l.getD (GT l) 0-mf l/\I (l.set (GT l) (l.getD (GT l) 0-mf l))):
  AL C0 24 [.agg [a1,a2,a3,a4,.sl b 1 cs]] (.tup [.sl false 2 ((L4 mf 257 ls []).1.map Iv),i64 (L4 mf 257 ls []).2]):=by
 refine Ad.walk w1 iE rfl λF=>?_
 have e0:((0:Int) != 0)=false:=rfl;have cL:=λn=>m7 a1 a2 a3 a4 b cs ls hlen h0 hl hc hp 0 (.agg [a1,a2,a3,a4,.sl b 1 cs]) n
 refine AH AW e0 cK AB AB AB AB AB ?_;refine BE.own _ (cL _) ?_;rintro d H' n' ⟨g,rfl,rfl⟩;refine AH AW kB AB AB AB AB AB AB ?_;obtain⟨N,hN⟩:∃N,ls.length=N:=⟨_,rfl⟩
 have hN0:0<N:=by rw[<-hN,hlen];exact List.length_pos_iff.2 h0
 have hN1:N<=1000000:=by omega
 rw[hN];clear cL cK hc hp;refine AC.ghost 2005 61 2 [(1,.optr 0 0 5 0 0),(5,.osl 2005 _ 2 0 0),(6,.osl 504 g 1 0 N)] ⟨.inl rfl,.inr ⟨rfl,rfl⟩,.inl rfl,trivial⟩ ?_;refine AC.loop (α:=List Int×List (Nat×Int)×Nat×Nat) (λp=>⟨[(1,.optr 0 0 5 0 0),(5,.osl 2005 p.2.2.1 2 0 p.2.1.length),(6,.osl 504 g 1 0 N)],[⟨2005,p.2.2.1,61,2,p.2.1.map Iv⟩,⟨504,g,3,1,Bi p.1⟩,⟨0,0,24,5,[.agg [a1,a2,a3,a4,.sl b 1 cs]]⟩],p.2.2.2⟩) (λp=>257-p.2.1.length)
  (λp=>p.1.length=N/\I p.1/\p.2.1.length<=256/\L4 mf (257-p.2.1.length) p.1 p.2.1=L4 mf 257 ls []) (ls,[],_,_) ⟨hN,hI0,BT _,rfl⟩ AK ?_
 rintro⟨l,out,go,n⟩ F ⟨hl1,hIl,ho,hR⟩;dsimp only at hl1 hIl ho hR⊢;obtain⟨OD,hOD⟩:∃O,out.map Iv=O:=⟨_,rfl⟩
 have hODl:OD.length=out.length:=by rw[<-hOD,Ae]
 rw[hOD];obtain⟨L,hL⟩:∃L,Bi l=L:=⟨_,rfl⟩
 have hLl:L.length=N:=by rw[<-hL,Ae,hl1]
 rw[hL];refine AH AW kB AB AB AB AB AB AB ?_;refine AC.loop (α:=Nat×Nat) (λp=>⟨[(1,.optr 0 0 5 0 0),(5,.osl 2005 go 2 0 out.length),(6,.osl 504 g 1 0 N),(18,.osl 504 g 1 0 N),(19,i64 (N:Int)),(20,i64 (p.1:Int)),(7,i64 ((JX l p.1:Nat):Int))],[⟨2005,go,61,2,OD⟩,⟨504,g,3,1,L⟩,⟨0,0,24,5,[.agg [a1,a2,a3,a4,.sl b 1 cs]]⟩],p.2⟩) (λp=>N-p.1) (λq=>q.1<=N) (0,_) (BT _) AK ?_;rintro⟨k,n⟩ F hk;dsimp only at hk⊢;rcases BC k N with h2|h2
 ·have e1:=CZ h2
  have wi:=Ce (i:=k) (by omega);have hm:=Pw (l:=l) (i:=k) (by omega);have hq:=V7 (l:=l) (by omega) k (by omega);have hm2:=Pw hq;obtain⟨u,hu⟩:∃u,l.getD k 0=u:=⟨_,rfl⟩
  obtain⟨v,hv⟩:∃v,l.getD (JX l k) 0=v:=⟨_,rfl⟩
  have hs:JX l (k+1)=if v<u then k else JX l k:=by rw[<-hu,<-hv];rfl
  rw[hu]at hm;rw[hv]at hm2;obtain⟨q,hq2⟩:∃q,JX l k=q:=⟨_,rfl⟩
  rw[hq2]at hm2 hs hq⊢;rw[hL]at hm hm2
  by_cases hlt:v<u
  ·have e2:decide (u>v)=true:=Ax hlt
   rw[AI hlt]at hs;refine AH AW (CP e1 e2 wi kN BW hm hm2) AB AB AB AB AB AB ?_;refine⟨(k+1,n+1000),h2,by dsimp only;omega,?_⟩;dsimp only;rw[hs];exact AK
  ·have e2:decide (u>v)=false:=A8 hlt
   rw[AG hlt]at hs;refine AH AW (CP e1 e2 wi kN BW hm hm2) AB AB AB AB AB AB ?_;refine⟨(k+1,n+1000),h2,by dsimp only;omega,?_⟩;dsimp only;rw[hs];exact AK
 have e1:=Cc h2
 have:k=N:=by omega
 subst this;have hq:=V7 (l:=l) (by omega) k (by omega);have hm:=Pw hq;have hmI:JX l k=GT l:=by unfold GT;rw[hl1]
 rw[hmI]at hq hm⊢;have hIm:=hI l hIl;have hRs:L4 mf (257-out.length) l out=if l.getD (GT l) 0=0 then(out,0)else if mf l=0 then([],7)else if out.length=256 then([],19)else L4 mf (256-out.length) (l.set (GT l) (l.getD (GT l) 0-mf l)) (out++[(GT l,mf l)]):=by
  rw[show 257-out.length=(256-out.length)+1 by omega];rfl
 rw[hR]at hRs;obtain⟨q,hq2⟩:∃q,GT l=q:=⟨_,rfl⟩
 rw[hq2]at hq hm hIm hRs⊢;obtain⟨v,hv⟩:∃v,l.getD q 0=v:=⟨_,rfl⟩
 rw[hv]at hm hIm hRs;rw[hL]at hm
 by_cases hv0:v=0
 ·have e2:(v==0)=true:=by rw[hv0];rfl
  rw[AI hv0]at hRs;rw[hRs];refine AH AW (CN e1 e2 kN BW hm) AB AB AB AB AB AB ?_;have hf:=GZ (H:=[⟨2005,go,61,2,OD⟩,⟨504,g,3,1,L⟩,⟨0,0,24,5,[.agg [a1,a2,a3,a4,.sl b 1 cs]]⟩]) (Hf:=[]) (k:=2005) (g:=go) (T:=61) (sz:=2) (l:=OD) rfl;rw[hODl]at hf;rw[hOD];have pO:AA (.sl false 2 OD):=by rw[<-hOD];exact AJ
  exact⟨_,I9 hf (.refl _),AA.out,rfl⟩
 rw[AG hv0]at hRs;have e2:(v==0)=false:=B4.2 hv0;obtain⟨cM,wm,hI'⟩:=hIm hv0;obtain⟨m,hmm⟩:∃m,mf l=m:=⟨_,rfl⟩
 rw[hmm]at cM wm hI' hRs;have pL:AA (.sl false 1 (Bi l)):=AJ;rw[hL]at cM pL;have hfL:=GZ (H:=[⟨2005,go,61,2,OD⟩,⟨504,g,3,1,L⟩,⟨0,0,24,5,[.agg [a1,a2,a3,a4,.sl b 1 cs]]⟩]) (Hf:=[]) (k:=504) (g:=g) (T:=3) (sz:=1) (l:=L) rfl;rw[hLl]at hfL;refine AH AW (CN e1 e2 kN BW hm) AB AB AB AB AB AB ?_;refine BE.own _ (Ly (H:=[⟨2005,go,61,2,OD⟩,⟨504,g,3,1,L⟩,⟨0,0,24,5,[.agg [a1,a2,a3,a4,.sl b 1 cs]]⟩]) cM rfl (λi a d h1 h2=>by
  match i with
  | 0=>cases h1;cases h2;exact .refl _ _
  | 1=>cases h1;cases h2;exact .of hfL
  | 2=>cases h1;cases h2;exact .refl _ _
  |n+3=>cases h1) AJ (.prim _)) ?_
 rintro d H' n' ⟨rfl,rfl,rfl⟩
 by_cases hm0:m=0
 ·have e3:(m==0)=true:=by rw[hm0];rfl
  rw[AI hm0]at hRs;rw[hRs];refine AH AW e3 AB AB AB AB AB AB ?_;exact⟨_,I9 (.nil 2) (.refl _),AA.out,rfl⟩
 rw[AG hm0]at hRs;have e3:(m==0)=false:=B4.2 hm0
 by_cases h256:out.length=256
 ·have e4:((out.length:Int)==256)=true:=by rw[h256];rfl
  rw[AI h256]at hRs;rw[hRs];refine AH AW (Ab e3 e4) AB AB AB AB AB AB ?_;exact⟨_,I9 (.nil 2) (.refl _),AA.out,rfl⟩
 rw[AG h256]at hRs;have e4:((out.length:Int)==256)=false:=B4.2 (by omega);refine AH AW (EP e3 e4 wm kN BW hm) AB AB AB AB AB AB ?_;have hle:out.length<256:=by omega
 refine⟨(l.set q (v-m),out++[(q,m)],n+1+1+1+1+1+1+1+1+1+1+1+1+1+1+1+1+1+1+1+1+1,n+1000),⟨by rw[Db];exact hl1,?_,by rw[Be];exact hle,?_⟩,?_,?_⟩
 ·exact hI'
 ·dsimp only
  rw[hRs,Be];rw[show 257-(out.length+[(q,m)].length)=256-out.length by simp only[Br,Hi];omega]
 ·dsimp only
  rw[Be];simp only[Br,Hi];omega
 ·dsimp only
  rw[Be,DA,hOD,Cp (show OD.length<=out.length by omega)];rw[show Bi (l.set q (v-m))=L.set q (i64 (v-m))from by rw[<-hL];unfold Bi;rw[List.map_set]];exact AK
abbrev PV:Dr:=[(8,[0,1,2,3,4,5,6,7,8],[9,10,11]),(9,[0,1,2,3,4,5,6,7],[8,9,10,11])]
open Go.Proofs Go.RowKit
set_option maxRecDepth 20000
set_option maxHeartbeats 4000000
def Cn (out:List AE)(x:AE):List AE:=match out.getLast? with
 |some y=>if FP y x then out.dropLast++[y.w (y.mass+x.mass)]else out++[x]
 |none=>[x]
def BZ (l:List AE):List AE:=l.foldl Cn []
theorem pt {l:List AE}{i:Nat}{x:AE}(h:l[i]?=some x):(l.take (i+1)).foldl Cn []=Cn ((l.take i).foldl Cn []) x:=by
 rw[Du,h];simp
theorem Yq {R:List AE}{y x:AE}(h:R[R.length-1]?=some y):Cn R x=if FP y x then R.dropLast++[y.w (y.mass+x.mass)]else R++[x]:=by
 unfold Cn;rw[List.getLast?_eq_getElem?,h]
theorem aM {R:List AE}{y z:AE}(h:R[R.length-1]?=some y):R.set (R.length-1) z=R.dropLast++[z]:=by
 have hl:=(BS.1 h).1;rw[List.set_eq_take_append_cons_drop,AI hl,List.dropLast_eq_take];rw[show R.length-1+1=R.length by omega,J5]
def W6 (l:List AE)(i:Nat)(R:List AE):Prop:=R=(l.take i).foldl Cn []/\R.length<=i/\∀y∈R,0<=y.mass/\y.mass<=(i:Int)*1000000000/\y.shs.length<=1000000
def OY (i:Nat)(R:List AE):Prop:=R.length<=i/\∀y∈R,0<=y.mass/\y.mass<=(i:Int)*1000000000/\y.shs.length<=1000000
theorem UF {i:Nat}{R:List AE}{x:AE}(hJ:OY i R)(hm:0<=x.mass/\x.mass<=1000000000/\x.shs.length<=1000000):OY (i+1) (Cn R x):=by
 obtain⟨h2,h3⟩:=hJ;refine⟨?_,?_⟩
 ·unfold Cn
  split
  ·split
   ·rw[Be,List.length_dropLast];simp;omega
   ·rw[Be];simp;omega
  ·simp
 ·have hR:∀y∈R,0<=y.mass/\y.mass<=((i+1:Nat):Int)*1000000000/\y.shs.length<=1000000:=λy hy=>by
   obtain⟨a,b,c⟩:=h3 y hy;exact⟨a,by omega,c⟩
  have hxx:0<=x.mass/\x.mass<=((i+1:Nat):Int)*1000000000/\x.shs.length<=1000000:=⟨by omega,by omega,hm.2.2⟩
  intro z hz;unfold Cn at hz;split at hz
  ·rename_i y hy
   have hyR:=List.mem_of_getLast? hy;split at hz
   ·rcases Bn.1 hz with hz|hz
    ·exact hR z ((List.dropLast_sublist R).subset hz)
    ·obtain rfl:=Dz.1 hz
     obtain⟨a,b,c⟩:=h3 y hyR;refine⟨?_,?_,c⟩
     ·show 0<=y.mass+x.mass;omega
     ·show y.mass+x.mass<=_;omega
   ·rcases Bn.1 hz with hz|hz
    ·exact hR z hz
    ·obtain rfl:=Dz.1 hz;exact hxx
  ·obtain rfl:=Dz.1 hz;exact hxx
theorem oI {l:List AE}{i:Nat}{R:List AE}{x:AE}(hJ:W6 l i R)(hx:l[i]?=some x)(hm:1<=x.mass/\x.mass<=1000000000/\x.shs.length<=1000000):W6 l (i+1) (Cn R x):=
 ⟨by rw[pt hx,<-hJ.1],UF hJ.2 ⟨by omega,hm.2⟩⟩
def Di (l:List AE):List AE:=l.filter λx=>x.mass != 0
theorem sH {l:List AE}{i:Nat}{x:AE}(h:l[i]?=some x)(hx:x.mass≠0):Di (l.take (i+1))=Di (l.take i)++[x]:=by
 unfold Di;rw[Du,h,List.filter_append]
 have:(x.mass != 0)=true:=by unfold bne;rw[B4.2 hx];rfl
 rw[show(some x).toList=[x]from rfl,List.filter_cons,AI this];rfl
theorem sG {l:List AE}{i:Nat}{x:AE}(h:l[i]?=some x)(hx:x.mass=0):Di (l.take (i+1))=Di (l.take i):=by
 unfold Di;rw[Du,h,List.filter_append]
 have:¬(x.mass != 0)=true:=by rw[hx];decide
 rw[show(some x).toList=[x]from rfl,List.filter_cons,AG this];simp
theorem xu {l:List AE}(h:∀x∈l,1<=x.mass):Di l=l:=List.filter_eq_self.2 λx hx=>by
 have:=h x hx
 unfold bne;rw[B4.2 (by omega)];rfl
theorem Uu (b:Bool)(l:List AE)(hl:l.length<=1000000)(hx:∀x∈l,0<=x.mass/\x.mass<=1000000000/\x.shs.length<=1000000):AL C0 36 [Aj b l] (Aj false (BZ (Di l))):=by
 refine Ad.walk w1 iM rfl λF=>?_
 have el:(((l.map AE.D).length:Nat):Int)=(l.length:Int):=by rw[Ae]
 refine sR 0 ?_;refine sR 100 ?_;refine AC.seq ?_;refine sZ 200 ?_;refine AV el ?_;refine AC.ghost 606 51 3 [(3,.osl 606 _ 3 0 0),(7,Aj b l),(8,i64 (l.length:Int)),(9,i64 ((0:Nat):Int))] ⟨.inr ⟨rfl,rfl⟩,.inl rfl,.inl rfl,.inl rfl,trivial⟩ ?_;refine AC.block ?_;refine AC.loop (α:=Nat×List AE×Nat×Nat) (λp=>⟨[(3,.osl 606 p.2.2.1 3 0 p.2.1.length),(7,Aj b l),(8,i64 (l.length:Int)),(9,i64 (p.1:Int))],[⟨606,p.2.2.1,51,3,p.2.1.map AE.D⟩],p.2.2.2⟩) (λp=>l.length-p.1) (λq=>q.1<=l.length/\q.2.1=(Di (l.take q.1)).foldl Cn []/\OY q.1 q.2.1) (0,[],_,_) ⟨BT _,rfl,An _,λy h=>by cases h⟩ AK ?_;rintro⟨i,R,g,n⟩ F ⟨hi,hJ⟩;dsimp only at hi hJ⊢;rcases BC i l.length with h2|h2
 rotate_left
 ·have k1:=Cc h2
  have:i=l.length:=by omega
  subst this;have hR:=hJ.1;rw[Cz]at hR;have hf:=GZ (H:=[⟨606,g,51,3,R.map AE.D⟩]) (Hf:=[]) (k:=606) (g:=g) (T:=51) (sz:=3) (l:=R.map AE.D) rfl;rw[Ae]at hf;refine AH PV k1 AB AB AB AB AB AB ?_;exact⟨_,hf,AA.out,by rw[hR];rfl⟩
 have k1:=CZ h2;have wi:=Ce (i:=i) (by omega);obtain⟨x,hx'⟩:=CJ h2;have hxm:=hx x (Au hx');have hm:(l.map AE.D)[i]?=some (.agg [str (sb x.grain),i64 x.mass,.sl false 2 (x.shs.map As.D)]):=by rw[Az,hx'];rfl
 have cO:=Pk x x.mass hxm.2.2
 by_cases hz:x.mass=0
 ·have g0:(x.mass==0)=true:=by rw[hz];rfl
  refine AH PV (EP k1 g0 wi kN kT kF) hm AB AB AB AB AB ?_;exact⟨(i+1,R,g,n+1000),⟨h2,by dsimp only;rw[sG hx' hz];exact hJ.1,by dsimp only;have:=hJ.2.1;omega,λy hy=>by
   obtain⟨a,b,c⟩:=hJ.2.2 y hy;refine⟨a,?_,c⟩;dsimp only;omega⟩,by dsimp only;omega,AK⟩
 have hJ':Cn R x=(Di (l.take (i+1))).foldl Cn []/\OY (i+1) (Cn R x):=⟨by rw[sH hx' hz,List.foldl_append,<-hJ.1];rfl,UF hJ.2 hxm⟩
 have g0:(x.mass==0)=false:=B4.2 hz;have hRl:(R.map AE.D).length=R.length:=Ae ..;have hRb:=hJ.2.1;rcases EC R.length with hR0|hR0
 ·have hRn:R=[]:=FC hR0
  subst hRn;have g1:decide (((0:Nat):Int)>0)=false:=rfl;unfold AE.D at cO;unfold Co at cO;obtain⟨S,hS⟩:∃S,x.shs.map As.D=S:=⟨_,rfl⟩
  have pS:AA (.sl false 2 S):=by rw[<-hS];exact AJ
  rw[hS]at cO hm;rw[Hi,List.map_nil];refine AH PV (CP k1 g0 g1 wi kN kT kF) hm cO AB AB AB AB ?_;refine⟨(i+1,[x],n+1+1+1+1+1+1+1+1+1+1+1+1+12+1+1+1+1+1+1+1+1+1,n+1000),⟨h2,hJ'⟩,by dsimp only;omega,?_⟩;dsimp only;rw[show[x].map AE.D=[.agg [str (sb x.grain),i64 x.mass,.sl false 2 S]]from by rw[<-hS];rfl];exact AK
 have g1:decide ((R.length:Int)>0)=true:=BX;obtain⟨y,hy⟩:=CJ (show R.length-1<R.length by omega);have hym:=hJ.2.2 y (Au hy);have w2:IntKind.i64.wrap ((R.length:Int)-1)=((R.length-1:Nat):Int):=by rw[wI];omega
 have w3:IntKind.i64.wrap (y.mass+x.mass)=y.mass+x.mass:=wI;have hm2:(R.map AE.D)[R.length-1]?=some (.agg [str (sb y.grain),i64 y.mass,.sl false 2 (y.shs.map As.D)]):=by rw[Az,hy];rfl
 have cK:=sk y x hym.2.2 hxm.2.2;have hN:=Yq (x:=x) hy;have hset:=aM (z:=y.w (y.mass+x.mass)) hy;unfold AE.D Co at cO cK;obtain⟨S,hS⟩:∃S,x.shs.map As.D=S:=⟨_,rfl⟩
 have pS:AA (.sl false 2 S):=by rw[<-hS];exact AJ
 obtain⟨SY,hSY⟩:∃S,y.shs.map As.D=S:=⟨_,rfl⟩
 have pSY:AA (.sl false 2 SY):=by rw[<-hSY];exact AJ
 rw[hS]at cO hm cK;rw[hSY]at cK hm2;obtain⟨RD,hRD⟩:∃T,R.map AE.D=T:=⟨_,rfl⟩
 rw[hRD]at hm2 hRl⊢;have hr:0<=((R.length-1:Nat):Int)/\((R.length-1:Nat):Int)<(R.length:Int):=by omega
 obtain⟨q,hq⟩:∃q,FP y x=q:=⟨_,rfl⟩
 rw[hq]at cK hN;cases q
 ·rw[hN,AG Bool.false_ne_true]at hJ'
  refine AH PV (CP k1 g0 g1 w2 wi kN (Bb BW hm2 kT kF)) hm cO cK AB AB AB ?_;refine⟨(i+1,R++[x],n+1+1+1+1+1+1+1+1+1+1+1+1+12+1+1+1+1+1+1+1+1+1,n+1000),⟨h2,hJ'⟩,by dsimp only;omega,?_⟩;dsimp only;rw[Be,DA,hRD,Cp (show RD.length<=R.length by omega)];rw[show[x].map AE.D=[.agg [str (sb x.grain),i64 x.mass,.sl false 2 S]]from by rw[<-hS];rfl];exact AK
 ·rw[hN,AI rfl]at hJ'
  refine AH PV (CP k1 g0 g1 w2 w3 wi (CN kN BW hm2 kT kF)) hm cO cK AB AB AB ?_;refine⟨(i+1,R.dropLast++[y.w (y.mass+x.mass)],g,n+1000),⟨h2,hJ'⟩,by dsimp only;omega,?_⟩;dsimp only;rw[<-hset,Db,List.map_set,hRD];rw[show(y.w (y.mass+x.mass)).D=.agg [str (sb y.grain),i64 (y.mass+x.mass),.sl false 2 SY]from by rw[<-hSY];rfl];exact AK
theorem Yp (b:Bool)(l:List AE)(hl:l.length<=1000000)(hx:∀x∈l,1<=x.mass/\x.mass<=1000000000/\x.shs.length<=1000000):AL C0 36 [Aj b l] (Aj false (BZ l)):=by
 have h:=Uu b l hl λx h=>⟨by have:=(hx x h).1;omega,(hx x h).2⟩
 rw[xu λx h=>(hx x h).1]at h;exact h
abbrev Rl:Dr:=[(6,[0,1,2,3,4,5,6,7,8,9,10,11],[12,13]),(7,[0,1,2,3,4,5,6,7,8,9,10,11,12,13,14],[15,16,17])]
open Go.Proofs Go.RowKit
set_option maxRecDepth 20000
set_option maxHeartbeats 4000000
theorem tQ (b:Bool)(l:List AE)(hl:l.length<=1000000)(hx:∀x∈l,1<=x.mass/\x.mass<=1000000000/\x.shs.length<=1000000):AL C0 13 [Aj b l] (Aj false (BZ l)):=by
 refine Ad.walk w1 zv rfl λF=>?_
 have el:(((l.map AE.D).length:Nat):Int)=(l.length:Int):=by rw[Ae]
 refine sR 0 ?_;refine sR 100 ?_;refine AC.seq ?_;refine sR 200 ?_;refine AC.ghost 906 51 3 [(0,Aj b l),(3,.osl 906 _ 3 0 0),(4,i64 ((0:Nat):Int))] ⟨.inl rfl,.inr ⟨rfl,rfl⟩,.inl rfl,trivial⟩ ?_;refine AC.block ?_;refine AC.loop (α:=Nat×List AE×Nat×Nat) (λp=>⟨[(0,Aj b l),(3,.osl 906 p.2.2.1 3 0 p.2.1.length),(4,i64 (p.1:Int))],[⟨906,p.2.2.1,51,3,p.2.1.map AE.D⟩],p.2.2.2⟩) (λp=>l.length-p.1) (λq=>q.1<=l.length/\W6 l q.1 q.2.1) (0,[],_,_) ⟨BT _,rfl,An _,λy h=>by cases h⟩ AK ?_;rintro⟨i,R,g,n⟩ F ⟨hi,hJ⟩;dsimp only at hi hJ⊢;rcases BC i l.length with h2|h2
 rotate_left
 ·have k1:=Cc h2
  have:i=l.length:=by omega
  subst this;have hR:=hJ.1;rw[Cz]at hR;have hf:=GZ (H:=[⟨906,g,51,3,R.map AE.D⟩]) (Hf:=[]) (k:=906) (g:=g) (T:=51) (sz:=3) (l:=R.map AE.D) rfl;rw[Ae]at hf;refine AH Rl (Ab el k1) AB AB AB AB AB AB ?_;exact⟨_,hf,AA.out,by rw[hR];rfl⟩
 have k1:=CZ h2;have wi:=Ce (i:=i) (by omega);obtain⟨x,hx'⟩:=CJ h2;have hxm:=hx x (Au hx');have hJ':=oI hJ hx' hxm;have hm:(l.map AE.D)[i]?=some (.agg [str (sb x.grain),i64 x.mass,.sl false 2 (x.shs.map As.D)]):=by rw[Az,hx'];rfl
 have g0:decide (x.mass>0)=true:=BX;have hRl:(R.map AE.D).length=R.length:=Ae ..;have hRb:=hJ.2.1;rcases EC R.length with hR0|hR0
 ·have hRn:R=[]:=FC hR0
  subst hRn;have g1:decide (((0:Nat):Int)>0)=false:=rfl;obtain⟨S,hS⟩:∃S,x.shs.map As.D=S:=⟨_,rfl⟩
  have pS:AA (.sl false 2 S):=by rw[<-hS];exact AJ
  rw[hS]at hm;rw[Hi,List.map_nil];refine AH Rl (CP el k1 g0 g1 wi kN (Ab kT kF)) hm AB AB AB AB AB ?_;refine⟨(i+1,[x],n+1+1+1+1+1+1+1+14+1+1+1+1+1+1+1+1+1+1+1+1+1+1,n+1000),⟨h2,hJ'⟩,by dsimp only;omega,?_⟩;dsimp only;rw[show[x].map AE.D=[.agg [str (sb x.grain),i64 x.mass,.sl false 2 S]]from by rw[<-hS];rfl];exact AK
 have g1:decide ((R.length:Int)>0)=true:=BX;obtain⟨y,hy⟩:=CJ (show R.length-1<R.length by omega);have hym:=hJ.2.2 y (Au hy);have w2:IntKind.i64.wrap ((R.length:Int)-1)=((R.length-1:Nat):Int):=by rw[wI];omega
 have w3:IntKind.i64.wrap (y.mass+x.mass)=y.mass+x.mass:=wI;have hm2:(R.map AE.D)[R.length-1]?=some (.agg [str (sb y.grain),i64 y.mass,.sl false 2 (y.shs.map As.D)]):=by rw[Az,hy];rfl
 have cK:=uW y x hym.2.2 hxm.2.2;have hN:=Yq (x:=x) hy;have hset:=aM (z:=y.w (y.mass+x.mass)) hy;unfold AE.D Co at cK;obtain⟨S,hS⟩:∃S,x.shs.map As.D=S:=⟨_,rfl⟩
 have pS:AA (.sl false 2 S):=by rw[<-hS];exact AJ
 obtain⟨SY,hSY⟩:∃S,y.shs.map As.D=S:=⟨_,rfl⟩
 have pSY:AA (.sl false 2 SY):=by rw[<-hSY];exact AJ
 rw[hS]at hm cK;rw[hSY]at cK hm2;obtain⟨RD,hRD⟩:∃T,R.map AE.D=T:=⟨_,rfl⟩
 rw[hRD]at hm2 hRl⊢;have hr:0<=((R.length-1:Nat):Int)/\((R.length-1:Nat):Int)<(R.length:Int):=by omega
 obtain⟨q,hq⟩:∃q,FP y x=q:=⟨_,rfl⟩
 rw[hq]at cK hN;cases q
 ·rw[hN,AG Bool.false_ne_true]at hJ'
  refine AH Rl (CP el k1 g0 g1 w2 wi (CN kN BW hm2 kT kF)) hm cK AB AB AB AB ?_;refine⟨(i+1,R++[x],n+1+1+1+1+1+1+1+14+1+1+1+1+1+1+1+1+1+1+1+1+1+1,n+1000),⟨h2,hJ'⟩,by dsimp only;omega,?_⟩;dsimp only;rw[Be,DA,hRD,Cp (show RD.length<=R.length by omega)];rw[show[x].map AE.D=[.agg [str (sb x.grain),i64 x.mass,.sl false 2 S]]from by rw[<-hS];rfl];exact AK
 ·rw[hN,AI rfl]at hJ'
  refine AH Rl (CP el k1 g0 g1 w2 w3 (EP wi kN BW hm2 kT kF)) hm cK AB AB AB AB ?_;refine⟨(i+1,R.dropLast++[y.w (y.mass+x.mass)],g,n+1000),⟨h2,hJ'⟩,by dsimp only;omega,?_⟩;dsimp only;rw[<-hset,Db,List.map_set,hRD];rw[show(y.w (y.mass+x.mass)).D=.agg [str (sb y.grain),i64 (y.mass+x.mass),.sl false 2 SY]from by rw[<-hSY];rfl];exact AK
abbrev Ht:Dr:=[(11,[0,1,2,3,4,5,6,7,8,9,10,11,12,13],[14,15])]
open Go.Proofs Go.RowKit
set_option maxRecDepth 20000
set_option maxHeartbeats 4000000
theorem bh {l:List As}:∀i,i<=l.length->(∀j,j<i->Cj (D4 l j).part=0)->rk (Fh l i) (601*i+1)
 | 0,_,_=>(cQ 1 (An _)).rk
 |i+1,hi,h=>(gf (bh i (by omega) λj hj=>h j (by omega)) (Nv (h i (by omega)))).mono (by omega)
theorem tW {l:List As}{i:Nat}(h:Fw l i=0):Cj (D4 l i).part=0:=by
 unfold Fw at h;split at h
 ·cases h
 split at h
 ·cases h
 split at h
 ·exact h
 ·rename_i h1;exact Decidable.not_not.1 h1
theorem e1b (b:Bool)(l:List As)(hl:l.length<=15\/64<l.length)(hl2:l.length<=9223372036854775807)(hf:∀s∈l,s.few):AL C0 78 [Co b l] (i64 (Gy l:Nat)):=by
 refine Ad.walk w1 zU rfl λF=>?_
 have el:(((l.map As.D).length:Nat):Int)=(l.length:Int):=by rw[Ae]
 have hC:Gy l=if l.length=0 then 2 else if 64<l.length then 5 else if EH (Fw l) l.length≠0 then EH (Fw l) l.length else if Fh l l.length=1 then 0 else 12:=rfl
 rcases Nat.decEq l.length 0 with h0|h0
 rotate_left
 ·rw[AI h0]at hC
  rw[hC];have q1:((l.length:Int)==0)=true:=by rw[h0];rfl
  refine AH Ht (Ab el q1) AB AB AB AB AB AB ?_;exact AM rfl AA.out
 rw[AG h0]at hC;have q1:((l.length:Int)==0)=false:=B4.2 (by omega)
 by_cases h64:64<l.length
 ·rw[AI h64]at hC
  rw[hC];have q2:decide ((l.length:Int)>64)=true:=BX;refine AH Ht (Ar el q1 q2) AB AB AB AB AB AB ?_;exact AM rfl AA.out
 rw[AG h64]at hC;have q2:decide ((l.length:Int)>64)=false:=Bc;have h15:l.length<=15:=by omega
 refine AH Ht (Ar el q1 q2) AB AB AB AB AB AB ?_;refine AC.loop (α:=Nat×Nat) (λp=>⟨[(0,Co b l),(3,rR (Fh l p.1)),(4,i64 (p.1:Int))],[],p.2⟩) (λp=>l.length-p.1) (λp=>p.1<=l.length/\∀j,j<p.1->Fw l j=0) (0,_)
  ⟨BT _,λj h=>Ak h (HJ j)⟩ (by(dsimp only;rw[show rR (Fh l 0)=str ⟨#[48]⟩from sP];exact AK)) ?_
 rintro⟨i,m⟩ F ⟨hi,hz⟩;dsimp only at hi hz⊢;have hSk:=bh (l:=l) i hi λj hj=>tW (hz j hj)
 rcases BC i l.length with h2|h2
 rotate_left
 ·have e1:=Cc h2
  have:i=l.length:=by omega
  subst this;rw[AG (λh=>h (MK hz))]at hC;have e2:=mJ (Fh l l.length);obtain⟨q,hq⟩:∃q,decide (Fh l l.length=1)=q:=⟨_,rfl⟩
  rw[hq]at e2;unfold rR;cases q
  ·rw[AG (Ds hq)]at hC
   rw[hC];refine AH Ht (Ar e1 el e2) AB AB AB AB AB AB ?_;exact AM rfl AA.out
  ·rw[AI (DN hq)]at hC
   rw[hC];refine AH Ht (Ar e1 el e2) AB AB AB AB AB AB ?_;exact AM rfl AA.out
 have e1:=CZ h2;have wi:=Ce (i:=i) (by omega);obtain⟨s,hs⟩:=CJ h2;have hm:(l.map As.D)[i]?=some (.agg [str (sb s.lot),str (sb s.part)]):=by rw[Az,hs];rfl
 obtain⟨f1,f2⟩:=hf s (Au hs);have hE:Fw l i=if D8 s.lot=false then 8 else if 0<i/\Lf s.lot (D4 l (i-1)).lot=true then 11 else if Cj s.part≠0 then Cj s.part else if HC (Bv s.part)<=0 then 12 else 0:=by unfold Fw;rw[KW hs]
 have hbad:∀e:Nat,e≠0->Fw l i=e->Gy l=e:=λe he h=>by
  have:=PZ hz h2 (by rw[h];exact he)
  rw[hC,this,h,AI he]
 have cN:=jT s.lot (by omega);obtain⟨N,hN⟩:∃q,D8 s.lot=q:=⟨_,rfl⟩
 rw[hN]at cN hE;cases N
 ·rw[AI rfl]at hE
  rw[hbad 8 (by decide) hE];refine AH Ht (Ar e1 el kN) hm cN AB AB AB AB ?_;exact AM rfl AA.out
 rw[AG (by decide)]at hE;have cC:=g9 s.part f2;rcases i with _|q
 ·have g0:decide (((0:Nat):Int)>0)=false:=rfl
  rw[AG (λh=>Ak h.1 (Nat.lt_irrefl 0))]at hE;rcases Nat.decEq (Cj s.part) 0 with hc0|hc0
  ·rw[AI hc0]at hE
   have e3:=G9 hc0;rw[hbad (Cj s.part) hc0 hE];refine AH Ht (CN e1 el g0 kN e3) hm cN cC AB AB AB ?_;exact AM rfl AA.out
  rw[AG (λh=>h hc0)]at hE;have e3:=HA hc0;have cG:=fo (Bv s.part) (am hc0);have cA:=W9 (Fh l 0) (Bv s.part) (601*0+1) 600 hSk (Nv hc0) (by omega);rw[V2 hc0]at cG cA;have hnext:Fh l (0+1)=Fh l 0+Bv s.part:=by show _+Bv (D4 l 0).part=_;rw[KW hs]
  rw[<-hnext]at cA;obtain⟨sg,hsg⟩:∃q,HC (Bv s.part)=q:=⟨_,rfl⟩
  rw[hsg]at cG hE
  by_cases hs0:sg<=0
  ·rw[AI hs0]at hE
   have e4:decide (sg<=0)=true:=Ax hs0;rw[hbad 12 (by decide) hE];refine AH Ht (EP e1 el g0 kN e3 e4) hm cN cC cG AB AB ?_;exact AM rfl AA.out
  rw[AG hs0]at hE;have e4:decide (sg<=0)=false:=A8 hs0;refine AH Ht (CP e1 el g0 kN e3 e4 wi) hm cN cC cG cA AB ?_;exact⟨(0+1,_),⟨h2,λj hj=>by
   rcases Kq.1 hj with q|q
   ·exact hz j q
   ·rw[q];exact hE⟩,by dsimp only;omega,AK⟩
 ·have g0:decide (((q+1:Nat):Int)>0)=true:=BX
  have g1:IntKind.i64.wrap (((q+1:Nat):Int)-1)=(q:Int):=by rw[wI];omega
  obtain⟨s0,hs0'⟩:=CJ (l:=l) (i:=q) (by omega);have hm0:(l.map As.D)[q]?=some (.agg [str (sb s0.lot),str (sb s0.part)]):=by rw[Az,hs0'];rfl
  rw[JT,KW hs0']at hE;obtain⟨bL,hbL⟩:∃q,Lf s.lot s0.lot=q:=⟨_,rfl⟩
  have g2:(Kc (sb s.lot) (sb s0.lot)||BI (sb s.lot) (sb s0.lot))=bL:=hbL;rw[hbL]at hE;cases bL
  rotate_left
  ·rw[AI ⟨Nat.succ_pos q,rfl⟩]at hE
   rw[hbad 11 (by decide) hE];refine AH Ht (EP e1 el g0 g1 g2 kN) hm hm0 cN AB AB AB ?_;exact AM rfl AA.out
  rw[AG (λh=>Ak h.2 (by decide))]at hE;rcases Nat.decEq (Cj s.part) 0 with hc0|hc0
  ·rw[AI hc0]at hE
   have e3:=G9 hc0;rw[hbad (Cj s.part) hc0 hE];refine AH Ht (CP e1 el g0 g1 g2 kN e3) hm hm0 cN cC AB AB ?_;exact AM rfl AA.out
  rw[AG (λh=>h hc0)]at hE;have e3:=HA hc0;have cG:=fo (Bv s.part) (am hc0);have cA:=W9 (Fh l (q+1)) (Bv s.part) (601*(q+1)+1) 600 hSk (Nv hc0) (by omega);rw[V2 hc0]at cG cA;have hnext:Fh l ((q+1)+1)=Fh l (q+1)+Bv s.part:=by show _+Bv (D4 l (q+1)).part=_;rw[KW hs]
  rw[<-hnext]at cA;obtain⟨sg,hsg⟩:∃q,HC (Bv s.part)=q:=⟨_,rfl⟩
  rw[hsg]at cG hE
  by_cases hs0:sg<=0
  ·rw[AI hs0]at hE
   have e4:decide (sg<=0)=true:=Ax hs0;rw[hbad 12 (by decide) hE];refine AH Ht (CP e1 el g0 g1 g2 kN (Ab e3 e4)) hm hm0 cN cC cG AB ?_;exact AM rfl AA.out
  rw[AG hs0]at hE;have e4:decide (sg<=0)=false:=A8 hs0;refine AH Ht (CP e1 el g0 g1 g2 kN (Ar e3 e4 wi)) hm hm0 cN cC cG cA ?_;exact⟨((q+1)+1,_),⟨h2,λj hj=>by
   rcases Kq.1 hj with q|q
   ·exact hz j q
   ·rw[q];exact hE⟩,by dsimp only;omega,AK⟩
theorem e0R (x:AE)(hs:x.shs.length<=15\/64<x.shs.length)(hf:x.few):AL C0 44 [x.D] (i64 (Cm x:Nat)):=by
 refine Ad.walk w1 d8o rfl λF=>?_
 obtain⟨f1,f2,f3⟩:=hf;have cN:=jT x.grain (by omega);have cS:=e1b false x.shs hs f2 f3;have hC:Cm x=if D8 x.grain=false then 8 else if x.mass<1\/x.mass>999999999 then 3 else Gy x.shs:=rfl
 obtain⟨N,hN⟩:∃q,D8 x.grain=q:=⟨_,rfl⟩
 obtain⟨SD,hSD⟩:∃d,Co false x.shs=d:=⟨_,rfl⟩
 have pS:AA SD:=by rw[<-hSD];exact AJ
 have hna:KR SD=true:=by rw[<-hSD];rfl
 unfold AE.D;rw[hN]at cN hC;rw[hSD]at cS⊢;cases N
 ·rw[AI rfl]at hC
  rw[hC];refine AH AW kB cN AB AB AB AB AB ?_;exact AM rfl AA.out
 rw[AG (by decide)]at hC
 by_cases h1:x.mass<1
 ·rw[AI (.inl h1)]at hC
  rw[hC];have e1:decide (x.mass<1)=true:=Ax h1;refine AH AW e1 cN AB AB AB AB AB ?_;exact AM rfl AA.out
 have e1:decide (x.mass<1)=false:=A8 h1
 by_cases h2:x.mass>999999999
 ·rw[AI (.inr h2)]at hC
  rw[hC];have e2:decide (x.mass>999999999)=true:=Ax h2;refine AH AW (Ab e1 e2) cN AB AB AB AB AB ?_;exact AM rfl AA.out
 have e2:decide (x.mass>999999999)=false:=A8 h2;rw[CM]at hC;rw[hC];refine AH AW (Ar e1 e2 hna) cN cS AB AB AB AB ?_;exact AM rfl AA.out
end Go.Ide
