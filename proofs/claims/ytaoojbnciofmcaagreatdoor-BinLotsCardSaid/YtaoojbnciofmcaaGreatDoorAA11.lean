/- The layer of own lemmas and contracts, part 11. -/
import Derived.Test.YtaoojbnciofmcaaGreatDoorAA9
import Derived.Test.YtaoojbnciofmcaaGreatDoorAA10
import Derived.Test.YtaoojbnciofmcaaGreatDoorAA3
import Derived.Test.YtaoojbnciofmcaaGreatDoorAA7
import Derived.Shelf.RegionOpenPlain
import Derived.Lib.Builder
import Derived.Lib.UnsafeStr
import Derived.Lib.Strings
import Derived.Lib.Slices
import Derived.Lib.Walk
import Derived.Laws.Externs
import Derived.KernelRfl
import Derived.WalkKit
import Derived.Shelf.Strconv.Itoa3
import Derived.Lib.ItoaMem
import Derived.Lib.AppendIntMem
import Derived.BigCall
import Derived.BigGuard
import Derived.Test.YtaoojbnciofmcaaGreatDoorAA8
import Derived.Test.YtaoojbnciofmcaaGreatDoorAA4
import Derived.Shelf.SlSortCmp.WholeK
import Derived.Shelf.Lay
import Derived.Laws.Cover1
import Derived.Shelf.Small.Bits
import Derived.Ground.SlsfProg
import Derived.Ground.NamesProg
import Derived.Shelf.SlIter.Sorted
import Derived.Shelf.SortM.Plain
import Derived.Shelf.SortM.SortNone
import Derived.Ground.GgzProg
import Derived.Ground.SlgmProg
set_option linter.unusedVariables false
set_option linter.unusedSimpArgs false
namespace Go.Ide
open Go.Proofs Go.RowKit
set_option maxRecDepth 20000
set_option maxHeartbeats 4000000
theorem CZ {i n:Nat}(h:i<n):decide ((i:Int)<(n:Int))=true:=BV
theorem Cb {i n:Nat}(h:n<=i):decide ((i:Int)<(n:Int))=false:=Bc
theorem Cc {i:Nat}(h:i<9223372036854775807):IntKind.i64.wrap ((i:Int)+1)=((i+1:Nat):Int):=wI
theorem CU {α:Type}{l:List α}{i:Nat}(h:i<l.length):∃x,l[i]?=some x:=⟨l[i],Bo h⟩
abbrev QP (b:Bool)(v:List (List UInt8)):D:=.sl b 1 (v.map λl=>str (sb l))
instance  (l:List UInt8):AO (Gs l).D:=by unfold GF.D;exact AI
theorem zw {a b:Nat}(h:a=b):(((a:Nat):Int) != (b:Int))=false:=by subst h;simp
theorem GX {a:Nat}(h:a≠0):(((a:Nat):Int) != 0)=true:=Hg (by omega)
theorem Gw {a:Nat}(h:a=0):(((a:Nat):Int) != 0)=false:=by subst h;rfl
theorem zv {a:Nat}(h:a≠0):(((a:Nat):Int)==0)=false:=Br.2 (by omega)
set_option maxHeartbeats 1000000
set_option maxRecDepth 100000
theorem yu {n:Nat}(h:1<=n):liesAt Tryz.prog Tryz.prog.depth 180 n 0 180 1=true:=by
 have hs:sameLayout Tryz.prog Tryz.prog.depth 180 180=true:=by kernel_rfl
 have hc:Tryz.prog.cellsOf 180=2:=by kernel_rfl
 obtain⟨d,hd⟩:∃d,Tryz.prog.depth=d+1:=⟨Tryz.prog.depth-1,by kernel_rfl⟩
 rw[hd]at hs⊢;unfold liesAt;rw[hd];unfold rowAt;simp[hc,hs,h]
theorem ow (b c:Nat)(hc:2<=c)(w:World)(h0:w.cell? ⟨b,0,none⟩=some (.pointer none))(hsh:w.shape? b=some (180,c))(hfz:w.frozen? ⟨b,0,none⟩=false):
  Calls Tryz.prog 180 #[.pointer (some ⟨b,0,none⟩)] w λe w'=>e=.returned (.tuple #[])/\w'=w.setCell ⟨b,0,none⟩ (.pointer (some ⟨b,0,none⟩)):=by
 obtain⟨j,hj,hjs⟩:=Er.1 (show(Tryz.prog.info? 180).map (·.size)=some 2 by kernel_rfl);have hl:liesAt Tryz.prog Tryz.prog.depth 180 (c/Tryz.prog.cellsOf 180) 0 180 1=true:=yu (by rw[show Tryz.prog.cellsOf 180=2 by kernel_rfl];omega)
 go_enter Tryz.func180,Tryz.ntmps180
 go_wp2
 rw[Lib.run_to_unsafe w ⟨b,0,none⟩ (t:=180) (by kernel_rfl) (by kernel_rfl) hj (by rw[hjs];decide) hsh (by show 0<c;omega)];simp only[Result.andThen];rw[Oper.upon_value]
 go_wp2
 rw[run_callFunc_extern Tryz.func220 (by kernel_rfl) (by kernel_rfl) (by kernel_rfl) (e:=Extern.AbiNoEscape.same) (by kernel_rfl)];rw[Lib.run_noEscape];simp only[Result.andThen];rw[Oper.upon_value]
 go_wp2
 rw[Lib.run_from_unsafe w ⟨b,0,none⟩ (u:=180) (by kernel_rfl) (by kernel_rfl) hj hsh hl];simp only[Result.andThen];rw[Oper.upon_value]
 go_wp2
 go_end0
 exact⟨rfl,rfl⟩
theorem ri (b:Nat)(w:World)(h0:w.cell? ⟨b,0,none⟩=some (.pointer (some ⟨b,0,none⟩))):
  Calls Tryz.prog 180 #[.pointer (some ⟨b,0,none⟩)] w λe w'=>e=.returned (.tuple #[])/\w'=w:=by
 obtain⟨j,hj,hjs⟩:=Er.1 (show(Tryz.prog.info? 180).map (·.size)=some 2 by kernel_rfl)
 go_enter Tryz.func180,Tryz.ntmps180
 go_wp2
 rw[Lib.run_neq_ptr_same w _ (te:=180) (by kernel_rfl) hj]
 go_wp2
 go_end0
 exact⟨rfl,rfl⟩
theorem zu (b g:Nat)(cur cs:Array Value)(l:List UInt8)(h0:l≠[])(w:World)(hb:w.heap[b]?=some (.cells cs 180 (0,0)))(hb1:cs[1]?=some (.slice (some ⟨g,0,none⟩) l.length cur.size))
  (hg:w.heap[g]?=some (.cells cur 5 (0,0))) (hl:l.length<=cur.size) (hcap:cur.size<=maxLen) (hcell:∀(j:Nat) (x:UInt8),l[j]?=some x->cur[j]?=some (.int .u8 x.toNat)):
  Calls Tryz.prog 131 #[.pointer (some ⟨b,0,none⟩)] w λe w'=>e=.returned (.string ⟨l.toArray⟩)/\w'=(w.drew.freeze ⟨g,0,none⟩ l.length):=by
 have c1:w.drew.cell? ⟨b,1,none⟩=some (.slice (some ⟨g,0,none⟩) l.length cur.size):=by
  have:w.drew.heap[b]?=some (.cells cs 180 (0,0)):=hb
  rw[Lib.cell_of_heap this];exact hb1
 have h0':l.length≠0:=by simpa using h0
 have hSD:(Builtin.unsafeSliceData_ #[178] 217 #[.slice (some ⟨g,0,none⟩) l.length cur.size]).run Tryz.prog w.drew=.ok (.pointer (some ⟨g,0,none⟩)) w.drew:=
  Lib.run_unsafeSliceData_row _ _ _ _ _ _ (by omega)
 have hUS:(Builtin.unsafeString_ #[217,3] 9 #[.pointer (some ⟨g,0,none⟩),.int .i64 l.length]).run Tryz.prog w.drew=.ok (.string ⟨l.toArray⟩) (w.drew.freeze ⟨g,0,none⟩ l.length):=by
  refine Lib.run_unsafeString_row w.drew 217 3 9 5 (by kernel_rfl) (by kernel_rfl) g cur.size (by have hg':w.drew.heap[g]?=some (.cells cur 5 (0,0)):=hg;simp[World.shape?,hg']) l h0 (by omega) (by unfold maxLen at hcap;omega) ?_;intro j x hx;have hg':w.drew.heap[g]?=some (.cells cur 5 (0,0)):=hg
  have:=hcell j x hx
  rw[Addr.add_lit];simp[World.cell?,hg',this]
 have mixed:Tryz.prog.follows .mixedOrders=true:=by kernel_rfl
 go_enter Tryz.func131,Tryz.ntmps131
 go_wp2
 go_region_o
 all_goals(go_wp2;go_ret;exact⟨rfl,rfl⟩)
def GV (l:List UInt8):List D:=l.map λb=>.prim (.int .u8 (b.toNat:Int))
abbrev GG (g:Nat)(p x:D):Aq:=⟨1500,g,180,2,[.agg [p,x]]⟩
theorem iE {vs:Array Value}(h:vs.size=1):vs = #[vs.getD 0 undef]:=by
 match vs,h with
 |⟨[u]⟩,_=>rfl
theorem iF (g n:Nat)(x p:D)(H1 H2:Hp)(hp:p=.prim (.pointer none)\/p=.optr 1500 g 2 0 0):
  Ct C0 180 [.optr 1500 g 2 0 0] (H1++GG g p x::H2) n (λd H' n'=>d=.prim (.tuple #[])/\H'=H1++GG g (.optr 1500 g 2 0 0) x::H2/\n'=n):=by
 refine⟨⟨_,_,Tryz.func180,rfl,by kernel_rfl⟩,λF ρ w vs m fr hgn hvs hr=>?_⟩;have h0:=hr 0 _ rfl;rw[iE hvs];generalize hv:vs.getD 0 undef=v at h0;cases h0 with
 |optr hρ=>
  rename_i b;have he:GG g p x∈H1++GG g p x::H2:=by simp
  obtain⟨cs,hc,q⟩:=m.at he hρ;have hlen:2<=cs.size:=q.len;have hr0:AV ρ (AM F.X ρ (H1++GG g p x::H2)) w p (cs.getD 0 undef):=q.rep 0 _ 0 p rfl rfl;have hr1:AV ρ (AM F.X ρ (H1++GG g p x::H2)) w x (cs.getD 1 undef):=q.rep 0 _ 1 x rfl rfl;have hcell:w.cell? ⟨b,0,none⟩=some (cs.getD 0 undef):=by
   simp[World.cell?,hc,Array.getD,show 0<cs.size by omega]
  rcases hp with rfl|rfl
  ·cases hr0':cs.getD 0 undef with
   |pointer a=>
    rw[hr0']at hr0 hcell;cases hr0;refine(ow b cs.size hlen w hcell (by simp[World.shape?,hc]) (by simp[World.frozen?,hc])).mono ?_;rintro e w' ⟨rfl,rfl⟩;have hset:w.setCell ⟨b,0,none⟩ (.pointer (some ⟨b,0,none⟩))=World.setBlk w b (cs.setIfInBounds 0 (.pointer (some ⟨b,0,none⟩))) 180:=by
     rw[setCell_eq_setRow w b 0 cs 180 (0,0) _ hc];exact UC hc
    have hop:AV ρ (AM F.X ρ (H1++GG g (.prim (.pointer none)) x::H2)) w (.optr 1500 g 2 0 0) (.pointer (some ⟨b,0*2+0,none⟩)):=.optr hρ;have ho:DY ρ (AM F.X ρ (H1++GG g (.prim (.pointer none)) x::H2)) w (GG g (.optr 1500 g 2 0 0) x) (cs.setIfInBounds 0 (.pointer (some ⟨b,0,none⟩))):=by
     refine⟨by rw[Wb];exact q.len,λi d hd=>?_,λi v hv=>?_,λi d j c hd hj=>?_⟩
     ·rcases i with _|i
      ·cases hd;rfl
      ·simp at hd
     ·rw[IX]at hv
      split at hv
      ·split at hv
       ·cases hv;rfl
       ·cases hv
      ·exact q.one i v hv
     ·rcases i with _|i
      ·cases hd
       rcases j with _|_|j
       ·cases hj
        have:(cs.setIfInBounds 0 (.pointer (some ⟨b,0,none⟩))).getD (0*2+0) undef=.pointer (some ⟨b,0*2+0,none⟩):=by
         simp[At,show 0<cs.size by omega]
        rw[this];exact hop
       ·cases hj
        have:(cs.setIfInBounds 0 (.pointer (some ⟨b,0,none⟩))).getD (0*2+1) undef=cs.getD 1 undef:=by
         simp[At]
        rw[this];exact hr1
       ·simp[D.cells]at hj
      ·simp at hd
    obtain⟨m1,x1⟩:=m.write (e':=GG g (.optr 1500 g 2 0 0) x) hρ hc rfl rfl rfl (Wb ..) ho;rw[hset];exact⟨_,_,_,n,ρ,rfl,⟨rfl,rfl,rfl⟩,m1,x1,fr,λe' he'=>by
     rcases B0.1 he' with h|h
     ·exact hgn e' (by simp[h])
     ·rcases Az.1 h with rfl|h
      ·exact hgn (GG g (.prim (.pointer none)) x) he
      ·exact hgn e' (by simp[h]),.prim _⟩
   |_=>rw[hr0']at hr0;cases hr0
  ·cases hr0':cs.getD 0 undef with
   |pointer a=>
    rw[hr0']at hr0 hcell;cases hr0 with
    |optr hρ2=>
     rw[hρ]at hρ2;cases hρ2;refine(ri b w hcell).mono ?_;rintro e w' ⟨rfl,rfl⟩;exact⟨_,_,_,n,ρ,rfl,⟨rfl,rfl,rfl⟩,m,BX.refl _ _ _,fr,hgn,.prim _⟩
   |_=>rw[hr0']at hr0;cases hr0
theorem jR (w:World)(g n:Nat)(hn:n≠0)(cur:Array Value)(T:Nat)(hg:w.heap[g]?=some (.cells cur T (0,0))):
  (w.freeze ⟨g,0,none⟩ n).heap.size=w.heap.size/\(w.freeze ⟨g,0,none⟩ n).os=w.os/\(w.freeze ⟨g,0,none⟩ n).tape=w.tape/\(w.freeze ⟨g,0,none⟩ n).output=w.output /\
  (∀k,k≠g->(w.freeze ⟨g,0,none⟩ n).heap[k]?=w.heap[k]?)/\∃(cs':Array Value) (fz':Nat×Nat),(w.freeze ⟨g,0,none⟩ n).heap[g]?=some (.cells cs' T fz')/\cs'.size=cur.size:=by
 unfold World.freeze;rw[AG hn];refine⟨by simp,rfl,rfl,rfl,λk hk=>?_,?_⟩
 ·dsimp only
  rw[Array.getElem?_modify,AG (λh=>hk h.symm)]
 ·dsimp only
  rw[Array.getElem?_modify,AH rfl,hg];exact⟨cur,_,rfl,rfl⟩
theorem yh (g gb n:Nat)(l:List UInt8)(h0:l≠[])(p:D)(R:Hp):
  Ct C0 131 [.optr 1500 g 2 0 0] (⟨206,gb,5,1,GV l⟩::GG g p (.osl 206 gb 1 0 l.length)::R) n (λd H' n'=>d=str ⟨l.toArray⟩/\H'=GG g p (.osl 206 gb 1 0 l.length)::R/\n'=n):=by
 refine⟨⟨_,_,Tryz.func131,rfl,by kernel_rfl⟩,λF ρ w vs m fr hgn hvs hr=>?_⟩;have hz:=hr 0 _ rfl;have h0':l.length≠0:=by simpa using h0
 rw[iE hvs];generalize hv:vs.getD 0 undef=v at hz;cases hz with
 |optr hρ=>
  rename_i b;obtain⟨cs,hc,q⟩:=m.at (e:=GG g p (.osl 206 gb 1 0 l.length)) (by simp) hρ;have hlen:2<=cs.size:=q.len;have hr1:AV ρ (AM F.X ρ (⟨206,gb,5,1,GV l⟩::GG g p (.osl 206 gb 1 0 l.length)::R)) w (.osl 206 gb 1 0 l.length) (cs.getD 1 undef):=q.rep 0 _ 1 (.osl 206 gb 1 0 l.length) rfl rfl;generalize hs1:cs.getD 1 undef=sv at hr1;generalize hL:l.length=L at hr1;cases hr1 with
   |onil=>exact Af hL h0'
   |osl hρ2 hb2 hc2 hs2 hm2=>
    rename_i cap gy T' cs2 fz2;obtain⟨cur,hcur,qy⟩:=m.at (e:=⟨206,gb,5,1,GV l⟩) (by simp) hρ2;rw[hb2]at hcur;cases hcur;have hcap:cap=cs2.size:=by omega
    subst hcap;have hcell:∀(j:Nat) (x:UInt8),l[j]?=some x->cs2[j]?=some (.int .u8 x.toNat):=λj x hx=>by
     have hr:=qy.rep j (.prim (.int .u8 (x.toNat:Int))) 0 (.prim (.int .u8 (x.toNat:Int))) (by unfold GV;rw[A8,hx];rfl) rfl;have hlt:j<cs2.size:=by
      have:=(BQ.1 hx).1
      omega
     generalize hvv:cs2.getD (j*1+0) undef=vv at hr;cases hr;rw[B3 hlt]
     have:cs2.getD j undef=cs2[j]:=by simp[Array.getD,hlt]
     rw[EO,Dq,this]at hvv;rw[hvv]
    have hb1:cs[1]?=some (.slice (some ⟨gy,0,none⟩) l.length cs2.size):=by
     have hlt:1<cs.size:=by omega
     rw[B3 hlt]
     have:cs.getD 1 undef=cs[1]:=by simp[Array.getD,hlt]
     rw[this]at hs1;rw[hs1,hL,HS]
    refine(zu b gy cs2 cs l h0 w hc hb1 hb2 (by omega) (by omega) hcell).mono ?_;rintro e w' ⟨rfl,rfl⟩;have md:=m.drew;obtain⟨f1,f2,f3,f4,f5,cs',fz',f6,f7⟩:=jR w.drew gy l.length h0' cs2 5 hb2;obtain⟨m1,x1⟩:=d9D (H1:=[]) (H2:=GG g p (.osl 206 gb 1 0 l.length)::R) (w':=w.drew.freeze ⟨gy,0,none⟩ l.length) md hρ2 f1 f2 f3 f4 f5 (λc hcc=>by
     have hb2':w.drew.heap[gy]?=some (.cells cs2 5 (0,0)):=hb2;have hcc':w.drew.heap[gy]?=some (.cells c 5 (0,0)):=hcc;rw[hb2']at hcc';cases hcc';exact⟨cs',fz',f6,f7⟩)
    rw[hL];rw[hL]at m1 x1;exact⟨_,_,_,n,ρ,rfl,⟨rfl,rfl,rfl⟩,m1,(BX.drew _ _ _).trans x1,fr,λe' he'=>hgn e' (by rw[hL];exact CT _ he'),.prim _⟩
set_option maxRecDepth 20000
set_option maxHeartbeats 4000000
def bH (gb g:Nat)(p:D)(L:List UInt8)(R:Hp):Hp:=EC 206 gb 5 1 (GV L)++(GG g p (EI 206 gb 1 (GV L))::R)
theorem lM (s:List UInt8):Iq (sb s)=GV s:=rfl
theorem OW (l:List UInt8):(GV l).length=l.length:=Ag ..
theorem lL (a b:List UInt8):GV (a++b)=GV a++GV b:=DK
theorem Yw {l:List UInt8}(h:l≠[]):∃x r,GV l=x::r:=by
 cases l with
 |nil=>exact Af rfl h
 |cons a l=>exact⟨_,_,rfl⟩
theorem iV (g gb n:Nat)(p:D)(hp:p=.prim (.pointer none)\/p=.optr 1500 g 2 0 0)(L s:List UInt8)(hs:s≠[])(R:Hp)(hlen:L.length+s.length<=100000000):
  Ct C0 130 [.optr 1500 g 2 0 0,str (sb s)] (bH gb g p L R) n (λd H' n'=>(∃g',H'=bH g' g (.optr 1500 g 2 0 0) (L++s) R)/\n<=n'):=by
 refine Ct.walk w1 bw rfl λF=>?_
 have hsz:=Cd s;have hb:=lM s;obtain⟨x,r,hx⟩:=Yw hs;have hr:s.length=r.length+1:=by rw[<-OW,hx];rfl
 unfold bH;rw[lL];cases hL:GV L with
 |nil=>
  dsimp only[JQ,JR,List.nil_append];refine AF AU kB AB AB AB AB AB AB ?_;refine A7.own _ (iF g _ CS p [] R hp) ?_;rintro d H' n' ⟨rfl,rfl,rfl⟩;have hL0:L.length=0:=by rw[<-OW,hL];rfl
  refine AF AU (Ab hsz hb) AB AB AB AB AB AB ?_;refine⟨?_,by omega⟩;apply Exists.intro;rw[hx,hr];rfl
 |cons y l=>
  dsimp only[H7,H8,List.cons_append,List.nil_append];have hL1:L.length=l.length+1:=by rw[<-OW,hL];rfl
  have htk:List.take (l.length+1) (y::l)=y::l:=by simp
  refine AF AU kB AB AB AB AB AB AB ?_;refine A7.own _ (iF g _ (.osl 206 gb 1 0 (l.length+1)) p [⟨206,gb,5,1,y::l⟩] R hp) ?_;rintro d H' n' ⟨rfl,rfl,rfl⟩;refine AF AU (Ar hsz hb htk) AB AB AB AB AB AB ?_;refine⟨?_,by omega⟩;apply Exists.intro;have hap:y::l++GV s=y::(l++GV s):=rfl;have hl2:(l++GV s).length+1=l.length+1+s.length:=by rw[Bp,OW];omega
  rw[hl2]
open Go.Sort Go.Shelf
section
open Go.Lib
set_option maxHeartbeats 6400000 in
set_option maxRecDepth 100000 in
theorem d8y (u:Nat) (hu64:u<18446744073709551616) (w:World) (htab:Lib.TabIs Tryz.prog w "internal/strconv.uint64pow10" .u64 Lib.pow10Tab):
  Calls Tryz.prog 176 #[.int .u64 u,.int .i64 10] w λe w'=>e=.returned (.string ⟨(Lib.decDigits u).toArray⟩)/\∃k os,w'=grow (w.drewN k) os:=by
 have e283:∀args w,(callFunc 214 args).run Tryz.prog w=.ok (.enter 214 args) w:=enters_of Tryz.func214 (by kernel_rfl) rfl;have e284:∀args w,(callFunc 215 args).run Tryz.prog w=.ok (.enter 215 args) w:=enters_of Tryz.func215 (by kernel_rfl) rfl;have e285:∀args w,(callFunc 216 args).run Tryz.prog w=.ok (.enter 216 args) w:=enters_of Tryz.func216 (by kernel_rfl) rfl
 by_cases hs:u<100
 ·go_enter Tryz.func176,Tryz.ntmps176
  go_wp2_with (go_at_fn 214;refine(Tryz.internal_strconv_small u hs _).mono ?_;rintro e w' ⟨rfl,rfl⟩)
  go_ret
  exact⟨rfl,0,#[],by simp[World.drewN_zero]⟩
 ·have hu1:1<=u:=by omega
  have hnd20:Lib.nDigits u<=20:=by have:=Lib.numDigits_eq u hu1 hu64;split at this<;>omega
  have hb3:Lib.nDigits u<=24:=by omega
  have hal:Tryz.prog.arrayLen 248=24:=by kernel_rfl
  have hsl1:∀W,(Instr.sliceAt 248 (.pointer (some ⟨w.heap.size,0,none⟩)) none (some (.int .i64 (Lib.nDigits u:Int))) none).run Tryz.prog W=.ok (.slice (some ⟨w.heap.size,0,none⟩) (Lib.nDigits u) 24) W:=λW=>by
   rw[run_sliceAt_array_h W 248 ⟨w.heap.size,0,none⟩ (by kernel_rfl) .i64 (Lib.nDigits u:Int) (by omega) (by rw[hal];omega)]
   go_simp
  have hH0:=Lib.holds_zero0 w 248 (Lib.nDigits u) (by omega);have hfmt:=Tryz.internal_strconv_formatBase10 w.heap.size 0 24 u (Array.replicate (Lib.nDigits u) 0) (w.alloc (.cells Lib.zeros24 248)) hH0 (by rw[S8];exact Lib.lt_pow_nDigits u) hu64 (by rw[S8];omega);rw[S8]at hfmt;have HH0:=Lib.hid hH0;clear hH0 hal
  go_enter Tryz.func176,Tryz.ntmps176
  go_wp2_with (first
   |(go_at_fn 215;refine(Tryz.internal_strconv_numDigits u hu1 hu64 _ (Lib.tabIs_alloc htab _)).mono ?_;rintro e w' ⟨rfl,rfl⟩))
  go_at_fn 216
  refine hfmt.mono ?_;rintro e w' ⟨rfl,k,v',dk,rfl,hF⟩;have hcv:(convert 178 9 (.slice (some ⟨w.heap.size,0,none⟩) (Lib.nDigits u) 24)).run Tryz.prog ((putRow (λ(b:UInt8)=>Value.int .u8 (b.toNat:Int)) (w.alloc (.cells Lib.zeros24 248)) w.heap.size 0 dk).drewN k)=.ok (.string ⟨(Lib.decDigits u).toArray⟩) ((putRow (λ(b:UInt8)=>Value.int .u8 (b.toNat:Int)) (w.alloc (.cells Lib.zeros24 248)) w.heap.size 0 dk).drewN k):=by
   have h:=run_convert_bytes_back (P:=Tryz.prog) ((putRow (λ(b:UInt8)=>Value.int .u8 (b.toNat:Int)) (w.alloc (.cells Lib.zeros24 248)) w.heap.size 0 dk).drewN k) 178 9 5 ⟨w.heap.size,0,none⟩ 24 (Lib.decDigits u) (by kernel_rfl) (by kernel_rfl) (by kernel_rfl) (λj hj=>by
    rw[Lib.row_is_numeral hF j hj,Lib.add_plain,World.cell?_drewN];exact cell?_putRow (λ(b:UInt8)=>Value.int .u8 (b.toNat:Int)) _ w.heap.size 0 _ dk HH0.out (by rw[hF.size,S8]) j (by rw[hF.size];rw[Lib.decDigits_length]at hj;exact hj))
   rw[Lib.decDigits_length]at h;exact h
  go_wp2
  go_ret
  obtain⟨os,eo⟩:=Lib.fin_at w (.cells Lib.zeros24 248) dk k 0;exact⟨rfl,k,os,eo⟩
end
theorem ko {O:Nat->Prop}{w:World}{v u:Value}{vs:Array Value}(hn:vs.size=2)(h:∀(i:Nat) (x:D),[D.prim v,.prim u][i]?=some x->AV nol O w x (vs.getD i undef)):vs = #[v,u]:=by
 match vs,hn with
 |⟨[a,b]⟩,_=>
  have h0:=h 0 _ rfl;have h1:=h 1 _ rfl;simp at h0 h1;cases h0;cases h1;rfl
theorem pW (u:Nat)(hu:u<18446744073709551616):AK C0 176 [.prim (.int .u64 (u:Int)),i64 10] (str ⟨(Lib.decDigits u).toArray⟩):=by
 refine⟨⟨_,_,Tryz.func176,rfl,by kernel_rfl⟩,λY w vs hG hnG hX hvs hr=>?_⟩
 have:=ko hvs hr
 subst this;refine(d8y u hu w hG).mono ?_;rintro e w' ⟨rfl,k,os,rfl⟩;exact⟨_,_,rfl,Lib.below_grow _ _ (Al _) _ _,rfl,.prim _⟩
theorem tG (u:Nat)(hu:u<18446744073709551616):AK C0 128 [.prim (.int .u64 (u:Int)),i64 10] (str ⟨(Lib.decDigits u).toArray⟩):=by
 refine AZ.walk w1 bv rfl λF=>?_
 refine AF AU kB (pW u hu) AB AB AB AB AB ?_;exact AJ rfl AA.out
theorem rp0:AK C0 129 [str ⟨#[48]⟩,i64 0] (str ⟨#[]⟩):=CV Dv 400 20
theorem rp1:AK C0 129 [str ⟨#[48]⟩,i64 1] (str ⟨#[48]⟩):=CV Dv 400 20
theorem rp2:AK C0 129 [str ⟨#[48]⟩,i64 2] (str ⟨#[48,48]⟩):=CV Dv 400 20
theorem rp3:AK C0 129 [str ⟨#[48]⟩,i64 3] (str ⟨#[48,48,48]⟩):=CV Dv 400 20
theorem rp4:AK C0 129 [str ⟨#[48]⟩,i64 4] (str ⟨#[48,48,48,48]⟩):=CV Dv 400 20
theorem rp5:AK C0 129 [str ⟨#[48]⟩,i64 5] (str ⟨#[48,48,48,48,48]⟩):=CV Dv 400 20
theorem rp6:AK C0 129 [str ⟨#[48]⟩,i64 6] (str ⟨#[48,48,48,48,48,48]⟩):=CV Dv 400 20
theorem rp7:AK C0 129 [str ⟨#[48]⟩,i64 7] (str ⟨#[48,48,48,48,48,48,48]⟩):=CV Dv 400 20
theorem rp8:AK C0 129 [str ⟨#[48]⟩,i64 8] (str ⟨#[48,48,48,48,48,48,48,48]⟩):=CV Dv 400 20
theorem rp9:AK C0 129 [str ⟨#[48]⟩,i64 9] (str ⟨#[48,48,48,48,48,48,48,48,48]⟩):=CV Dv 400 20
theorem d9c:AK C0 129 [str ⟨#[48]⟩,i64 10] (str ⟨#[48,48,48,48,48,48,48,48,48,48]⟩):=CV Dv 400 20
theorem d9d:AK C0 129 [str ⟨#[48]⟩,i64 11] (str ⟨#[48,48,48,48,48,48,48,48,48,48,48]⟩):=CV Dv 400 20
theorem d9e:AK C0 129 [str ⟨#[48]⟩,i64 12] (str ⟨#[48,48,48,48,48,48,48,48,48,48,48,48]⟩):=CV Dv 400 20
theorem d9f:AK C0 129 [str ⟨#[48]⟩,i64 13] (str ⟨#[48,48,48,48,48,48,48,48,48,48,48,48,48]⟩):=CV Dv 400 20
theorem d9g:AK C0 129 [str ⟨#[48]⟩,i64 14] (str ⟨#[48,48,48,48,48,48,48,48,48,48,48,48,48,48]⟩):=CV Dv 400 20
theorem d9h:AK C0 129 [str ⟨#[48]⟩,i64 15] (str ⟨#[48,48,48,48,48,48,48,48,48,48,48,48,48,48,48]⟩):=CV Dv 400 20
theorem d9i:AK C0 129 [str ⟨#[48]⟩,i64 16] (str ⟨#[48,48,48,48,48,48,48,48,48,48,48,48,48,48,48,48]⟩):=CV Dv 400 20
theorem d9j:AK C0 129 [str ⟨#[48]⟩,i64 17] (str ⟨#[48,48,48,48,48,48,48,48,48,48,48,48,48,48,48,48,48]⟩):=CV Dv 400 20
theorem rC (n:Nat)(h:n<=17):AK C0 129 [str ⟨#[48]⟩,i64 (n:Int)] (str ⟨(List.replicate n 48).toArray⟩):=by
 match n,h with
 | 0,_=>exact rp0
 | 1,_=>exact rp1
 | 2,_=>exact rp2
 | 3,_=>exact rp3
 | 4,_=>exact rp4
 | 5,_=>exact rp5
 | 6,_=>exact rp6
 | 7,_=>exact rp7
 | 8,_=>exact rp8
 | 9,_=>exact rp9
 | 10,_=>exact d9c
 | 11,_=>exact d9d
 | 12,_=>exact d9e
 | 13,_=>exact d9f
 | 14,_=>exact d9g
 | 15,_=>exact d9h
 | 16,_=>exact d9i
 | 17,_=>exact d9j
 |n+18,h=>omega
theorem qO {H Hf r r':Hp}{K g T sz:Nat}{l:List D}(h:Cw H Hf r r'):Cw H Hf (EC K g T sz l++r) r':=by
 cases l with
 |nil=>exact h
 |cons x l=>exact .drop h
set_option maxHeartbeats 8000000
def GU (q r:Nat):List UInt8:=if q=0 then Lib.decDigits r else List.replicate (18-(Lib.decDigits r).length) 48++Lib.decDigits r
theorem Yz:Lib.decDigits 0=[48]:=by unfold Lib.decDigits;rfl
theorem PH (n:Nat):Lib.decDigits n≠[]:=(Eu n).2.2
theorem oT (q r:Nat):GU q r≠[]:=by
 unfold GU;split
 ·exact PH r
 ·intro h;exact PH r (List.append_eq_nil_iff.1 h).2
theorem mb {q r:Nat}(hq:q≠0):GU q r=FT 18 r []:=by
 unfold GU FT Mh;rw[AG hq]
 by_cases h:r=0
 ·subst h;rw[Yz,AH rfl];rfl
 ·rw[AG h,Dm]
theorem oC (B q r:Nat)(hB:B=10^18)(hr:r<B):Lib.decDigits (q*B+r)=if q=0 then GU q r else Lib.decDigits q++GU q r:=by
 by_cases hq:q=0
 ·subst hq;rw[AH rfl];unfold GU;rw[AH rfl,HS,BZ]
 ·rw[AG hq,mb hq,hB]
  exact Ug 18 q r hq (by rw[<-hB];exact hr)
def Ee (P:List (List UInt8)):List UInt8:=P.reverse.flatten
theorem Xl (P:List (List UInt8))(p:List UInt8):Ee (P++[p])=p++Ee P:=by unfold Ee;simp
theorem VX (a b:List UInt8):sb a++sb b=sb (a++b):=by
 apply ByteArray.ext;simp[ByteArray.data_append]
theorem mD {P:List (List UInt8)}(h:∀p∈P,p≠[]):P.length<=(Ee P).length:=by
 unfold Ee;rw[List.length_flatten,<-List.length_reverse];generalize hQ:P.reverse=Q;have h':∀p∈Q,p≠[]:=λp hp=>h p (by rw[<-hQ]at hp;exact List.mem_reverse.1 hp)
 clear hQ h
 induction Q with
 |nil=>exact Al _
 |cons a r ih=>
  have h1:=ih λp hp=>h' p (CT _ hp)
  have h2:a.length≠0:=λq=>h' a CO (F6 q)
  rw[Cs,List.sum_cons,Bq];omega
structure NM (n m:Nat)(P:List (List UInt8)):Prop where
 ne:m≠0->Lib.decDigits n=Lib.decDigits m++Ee P
 eq:m=0->Lib.decDigits n=Ee P
 all:∀p∈P,p≠[]
 le:m<=n
theorem NM.len {n m:Nat}{P:List (List UInt8)}(h:NM n m P):P.length<=(Lib.decDigits n).length:=by
 have h1:=mD h.all
 by_cases q:m=0
 ·rw[h.eq q];exact h1
 ·rw[h.ne q,Bp];omega
theorem NM.step {n m:Nat}{P:List (List UInt8)}{B:Nat}(h:NM n m P)(hm:m≠0)(hB:B=10^18):NM n (m/B) (P++[GU (m/B) (m%B)]):=by
 have hB0:0<B:=by rw[hB];decide
 have hd:=oC B (m/B) (m%B) hB (B7 _ hB0);rw[show m/B*B+m%B=m by rw[BY];exact E3 m B]at hd;have hn:=h.ne hm;rw[hd]at hn;refine⟨λq=>?_,λq=>?_,λp hp=>?_,BT (GJ _ _) h.le⟩
 ·rw[AG q]at hn;rw[hn,Xl,EE]
 ·rw[AH q]at hn;rw[hn,Xl]
 ·rcases B0.1 hp with hp|hp
  ·exact h.all p hp
  ·rw[Eb]at hp;subst hp;exact oT _ _
abbrev Ft (P:List (List UInt8)):List D:=P.map λp=>str (sb p)
theorem UN (x:GI)(h:x.wf)(hf:x.few):AK C0 85 [x.D] (str (sb (Lib.itoa x.z))):=by
 refine AZ.walk w1 gZ rfl λF=>?_
 obtain⟨z,sm⟩:=x;obtain⟨h1,h2⟩:=h;have hp:=J4 ⟨z,sm⟩ ⟨h1,h2⟩;dsimp only[GI.D,GI.few]at*;cases sm with
 |true=>
  obtain⟨h3,h4⟩:=h1 rfl;have c:AK C0 125 [i64 z] (str (sb (Lib.itoa z))):=qW z h3 (by omega);unfold GI.s GI.w;dsimp only;refine AF AU kB c AB AB AB AB AB ?_;exact AJ rfl AA.out
 |false=>
  have hz:=h2 rfl;have hz0:z.natAbs≠0:=λq=>hz (by obtain rfl:z=0:=(by omega);exact vz rfl)
  have hw:GI.w ⟨z,false⟩=wD z.natAbs:=rfl;have hs:GI.s ⟨z,false⟩=if z<0 then -1 else 1:=rfl
  rw[hw]at hp⊢;obtain⟨sg,hsg⟩:∃s,GI.s ⟨z,false⟩=s:=⟨_,rfl⟩
  rw[hsg]at hp⊢;obtain⟨B,hB⟩:∃B:Nat,B=10^18:=⟨_,rfl⟩
  have hB1:B<BB:=by rw[hB];decide
  have hB0:B≠0:=by rw[hB];decide
  have hB2:1<B:=by rw[hB];decide
  have hBs:u64 1000000000000000000=AS B:=by rw[hB];rfl
  have hBl:Ae B=[B]:=M2 hB0 hB1;obtain⟨n,hn⟩:∃n,z.natAbs=n:=⟨_,rfl⟩
  obtain⟨neg,hneg⟩:∃b,decide (z<0)=b:=⟨_,rfl⟩
  rw[hn]at hp hf hz0⊢;rw[hneg]at hp;have hit:Lib.itoa z=(if neg then[45]else[])++Lib.decDigits n:=by
   unfold Lib.itoa
   by_cases q:z<0
   ·rw[AH q,<-hneg,Au q,hn];rfl
   ·rw[AG q,<-hneg,Av q,<-hn]
    have:z.toNat=z.natAbs:=by omega
    rw[this];rfl
  rw[hit];have hDL:(Lib.decDigits n).length<=27*1000000+1:=Nc (k:=1000000) (by omega);have hmpos:∀m:Nat,m≠0->decide ((((Ae m).map AS).length:Int)>0)=true:=λm hm=>Au (by
   rw[Gl hm,Cs,Bq];omega)
  have hm0:decide ((((Ae 0).map AS).length:Int)>0)=false:=Av (by rw[GR];decide);obtain⟨w0,ws,hws⟩:∃a l,(Ae n).map AS=a::l:=by
   cases hl:(Ae n).map AS with
   |nil=>exact Af hl (ID hz0)
   |cons a l=>exact⟨a,l,rfl⟩
  have hwD:wD n=.sl false 1 (w0::ws):=by unfold wD wL;rw[hws]
  have hbD:wD B=.sl false 1 [u64 1000000000000000000]:=by unfold wD wL;rw[hBl,hBs];rfl
  have pw:AA (.sl false 1 (w0::ws)):=by rw[<-hwD];exact AI
  rw[hwD]at hp⊢;clear hit h1 h2 hz hs hsg;have hne:(w0::ws≠[])=True:=eq_true (List.cons_ne_nil _ _);refine AF AU hne hp AB AB AB AB AB ?_;rw[<-hwD];refine AC.loop (α:=Nat×List (List UInt8)×Nat×Nat) (λp=>⟨[(3,Ai neg),(4,wD p.1),(5,wD B),(6,EI 1303 p.2.2.1 1 (Ft p.2.1))],EC 1303 p.2.2.1 9 1 (Ft p.2.1),p.2.2.2⟩) (λp=>p.1)
   (λp=>NM n p.1 p.2.1) (n,[],0,_) ⟨λ_=>by unfold Ee;simp,λq=>Af q hz0,λp hp=>Af hp Dk,Al _⟩ (by refine⟨.drop .nil,⟨.refl _,.refl _,?_,.refl _,trivial⟩,Al _⟩;dsimp only;rw[hbD];exact .nn true 1 _) ?_
  rintro⟨m,P,g,cnt⟩ F I;dsimp only at I⊢;have hPl:=I.len;rcases Nat.decEq m 0 with hm|hm
  rotate_left
  ·subst hm
   have hdn:=I.eq rfl;have hall:=I.all;have hLn:P.length<=27000001:=by omega
   have hP0:P≠[]:=λq=>PH n (by rw[hdn,q];rfl)
   obtain⟨N,hN⟩:∃N,P.length=N:=⟨_,rfl⟩
   have hN0:N≠0:=λq=>hP0 (F6 (by omega))
   rw[hdn];clear hwD hbD pw hp hn hPl I;have elP:(((Ft P).length:Nat):Int)=(N:Int):=by rw[Ag,hN]
   have wN:IntKind.i64.wrap ((N:Int)-1)=((N:Int)-1):=wI;refine AC.seq ?_;refine sZ 600 ?_;refine AW hm0 ?_;refine AN ?_;refine CK ?_;refine AC.weak ⟨[(3,Ai neg),(6,.sl false 1 (Ft P))],[],_⟩ ⟨?_,⟨.refl _,?_,trivial⟩,Al _⟩ ?_
   ·have:=qO (K:=1303) (g:=g) (T:=9) (sz:=1) (l:=Ft P) (r:=[]) (r':=[]) (H:=EC 1303 g 9 1 (Ft P)) (Hf:=[]) .nil
    rwa [Dm]at this
   ·exact Rv _ _ _ _ _
   obtain⟨c0,hc0⟩:∃c,c=cnt+1+1+1:=⟨_,rfl⟩
   rw[<-hc0];refine sR 1500 ?_;obtain⟨c1,hc1⟩:∃c,c=c0+1:=⟨_,rfl⟩
   refine DE (α:=D×Nat×Nat) (λq=>⟨[(6,.sl false 1 (Ft P)),(10,.optr 1500 c0 2 0 0)],bH q.2.1 c0 q.1 (if neg then[45]else[]) [],q.2.2⟩) (λq=>q.1=.prim (.pointer none)\/q.1=.optr 1500 c0 2 0 0) ?_ ?_
   ·cases neg
    ·refine AF AU kB AB AB AB AB AB AB ?_
     exact⟨by trivial,(.prim (.pointer none),0,_),.inl rfl,AL⟩
    ·refine AF AU kB AB AB AB AB AB AB ?_
     refine A7.own _ (iV c0 0 _ (.prim (.pointer none)) (.inl rfl) [] [45] (by decide) [] (by decide)) ?_;rintro d H' n' ⟨⟨g',rfl⟩,hn'⟩;refine BO ?_;exact⟨by trivial,(.optr 1500 c0 2 0 0,g',_),.inr rfl,AL⟩
   rintro⟨p0,gb0,c2⟩ hp0;dsimp only at hp0⊢;obtain⟨pre,hpre⟩:∃l,(if neg then[45]else[]:List UInt8)=l:=⟨_,rfl⟩
   have hpl:pre.length<=1:=by rw[<-hpre];split<;>decide
   rw[hpre];refine AF AU (Ab elP @wN) AB AB AB AB AB AB ?_;refine AC.loop (α:=Nat×D×Nat×Nat) (λq=>⟨[(6,.sl false 1 (Ft P)),(10,.optr 1500 c0 2 0 0),(11,i64 ((q.1:Int)-1))],bH q.2.2.1 c0 q.2.1 (pre++Ee (P.drop q.1)) [],q.2.2.2⟩) (λq=>q.1)
    (λq=>q.1<=N/\(q.2.1=.prim (.pointer none)\/q.2.1=.optr 1500 c0 2 0 0)) (N,p0,gb0,_) ⟨Al _,hp0⟩ (by dsimp only;rw[<-hN,Jr];unfold Ee;rw[List.reverse_nil,List.flatten_nil,Dm];exact AL) ?_
   rintro⟨k,p,gb,c3⟩ F ⟨hk,hp⟩;dsimp only at hk hp⊢;have hjl:∀k,(Ee (P.drop k)).length<=(Ee P).length:=λk=>by
    unfold Ee
    conv=>rhs;rw[<-Fj k P]
    rw[List.reverse_append,List.flatten_append,Bp];omega
   have hjP:(Ee P).length<=27000001:=by rw[<-hdn];omega
   rcases ED k with hk0|hk0
   ·subst hk0
    have e1:decide ((((0:Nat):Int)-1)>=0)=false:=by decide
    rw[Fi];have hL:pre++Ee P≠[]:=λq=>by
     have:=(List.append_eq_nil_iff.1 q).2
     rw[<-hdn]at this;exact PH n this
    obtain⟨L,hLL⟩:∃L,pre++Ee P=L:=⟨_,rfl⟩
    rw[hLL]at hL⊢;obtain⟨y,r,hy⟩:=Yw hL;have hlr:L.length=r.length+1:=by rw[<-OW,hy];rfl
    refine AF AU e1 AB AB AB AB AB AB ?_;refine A7.own _ (by
     have:=λn=>yh c0 gb n L hL p []
     unfold bH;simp only[hy,hlr]at this⊢;exact this _) ?_
    rintro d H' n' ⟨rfl,rfl,rfl⟩;refine AF AU kB AB AB AB AB AB AB ?_;exact AJ rfl AA.out
   ·obtain⟨k',rfl⟩:∃k',k=k'+1:=⟨k-1,by omega⟩
    have e1:decide ((((k'+1:Nat):Int)-1)>=0)=true:=BV;have e2:(((k'+1:Nat):Int)-1)=(k':Int):=by omega
    have wk:IntKind.i64.wrap ((k':Int)-1)=((k':Int)-1):=wI;have e3:decide ((k':Int)>=0)=true:=BV;obtain⟨t,ht⟩:∃t,P[k']?=some t:=CU (by omega);have hm:(Ft P)[k']?=some (str (sb t)):=by rw[A8,ht];rfl
    have htn:=hall t (Ay ht);have hdr:P.drop k'=t::P.drop (k'+1):=by
     rw[EN (BQ.1 ht).1,(BQ.1 ht).2]
    have hj:pre++Ee (P.drop k')=pre++Ee (P.drop (k'+1))++t:=by
     rw[hdr,EE]
     congr 1
     unfold Ee;rw[List.reverse_cons,List.flatten_append];simp
    have hlt:(pre++Ee (P.drop (k'+1))).length+t.length<=100000000:=by
     have h1:=hjl k';have h2:(pre++Ee (P.drop k')).length=(pre++Ee (P.drop (k'+1))).length+t.length:=by rw[hj,Bp]
     rw[<-h2,Bp];omega
    rw[e2];refine AF AU (Ab e3 kN) hm AB AB AB AB AB ?_;refine A7.own _ (iV c0 gb _ p hp (pre++Ee (P.drop (k'+1))) t htn [] hlt) ?_;rintro d H' n' ⟨⟨g',rfl⟩,hn'⟩;refine BO ?_;refine AF AU wk AB AB AB AB AB AB ?_;exact⟨(k',.optr 1500 c0 2 0 0,g',_),⟨by dsimp only;omega,.inr rfl⟩,by dsimp only;omega,by(dsimp only;rw[hj];exact AL)⟩
  have e1:=hmpos m hm;have c1:=iH m B hB0 (DH (H6 m n I.le) hf) (by rw[hBl];show 1<1000000;decide);have I2:=I.step hm hB;obtain⟨q,hq⟩:∃q,m/B=q:=⟨_,rfl⟩
  obtain⟨r,hr⟩:∃q,m%B=q:=⟨_,rfl⟩
  have hqm:q<m:=by rw[<-hq];exact Ia (EP hm) hB2
  have hrB:r<B:=by rw[<-hr];exact B7 _ (EP hB0)
  rw[hq,hr]at c1 I2;have hsz:=Cd (Lib.decDigits r);have hdl:(Lib.decDigits r).length<=18:=Lt 17 r (by rw[hB]at hrB;exact hrB);have hdl1:(Lib.decDigits r).length≠0:=λh=>PH r (F6 h)
  refine AF AU e1 AB AB AB AB AB AB ?_;refine cI c1 ?_;refine sR 800 ?_;refine DE (α:=Nat) (λcnt=>⟨[(3,Ai neg),(5,wD B),(6,EI 1303 g 1 (Ft P)),(7,wD q),(9,str (sb (Lib.decDigits r)))],EC 1303 g 9 1 (Ft P),cnt⟩) (λ_=>True) ?_ ?_
  ·rcases Nat.decEq r 0 with h0|h0
   ·have e2:=hmpos r h0
    have hl1:Ae r=[r]:=M2 h0 (Gf hrB hB1);have hmm:((Ae r).map AS)[0]?=some (u64 (r:Int)):=by rw[hl1];rfl
    have c2:=tG r (Gf hrB hB1);refine AF AU e2 hmm c2 AB AB AB AB ?_;exact⟨by trivial,_,trivial,AL⟩
   ·subst h0
    rw[Yz];refine AF AU hm0 AB AB AB AB AB AB ?_;exact⟨by trivial,_,trivial,AL⟩
  rintro cnt2 -;refine DE (α:=Nat) (λcnt=>⟨[(3,Ai neg),(5,wD B),(6,EI 1303 g 1 (Ft P)),(7,wD q),(9,str (sb (GU q r)))],EC 1303 g 9 1 (Ft P),cnt⟩) (λ_=>True) ?_ ?_
  ·rcases Nat.decEq q 0 with h0|h0
   ·have e2:=hmpos q h0
    have c2:AK C0 129 [str ⟨#[48]⟩,i64 ((18-(Lib.decDigits r).length:Nat):Int)] (str (sb (List.replicate (18-(Lib.decDigits r).length) 48))):=rC (18-(Lib.decDigits r).length) (by omega);have w18:IntKind.i64.wrap (18-((Lib.decDigits r).length:Int))=((18-(Lib.decDigits r).length:Nat):Int):=by rw[wI];omega
    have hap:=VX (List.replicate (18-(Lib.decDigits r).length) 48) (Lib.decDigits r);have hsz2:=Cd (List.replicate (18-(Lib.decDigits r).length) 48);have hpt:List.replicate (18-(Lib.decDigits r).length) 48++Lib.decDigits r=GU q r:=by unfold GU;rw[AG h0]
    rw[hpt]at hap;have hsize:(sb (List.replicate (18-(Lib.decDigits r).length) 48)).size+(sb (Lib.decDigits r)).size<=9223372036854775807:=by
     rw[hsz,hsz2,HR];omega
    refine AF AU (BS e2 hsz w18 hap) c2 AB AB AB AB AB ?_;exact⟨by trivial,_,trivial,AL⟩
   ·subst h0
    have hpt:GU 0 r=Lib.decDigits r:=AH rfl;rw[hpt];refine AF AU hm0 AB AB AB AB AB AB ?_;exact⟨by trivial,_,trivial,AL⟩
  rintro cnt3 -;have hsn:Ft (P++[GU q r])=Ft P++[str (sb (GU q r))]:=by unfold Ft;rw[DK];rfl
  have hPL:(Ft P).length=P.length:=Ag ..;rcases hPD:Ft P with _|⟨y,l⟩
  all_goals
   rw[hPD]at hsn hPL;dsimp only[JQ,JR,H7,H8,List.nil_append]
  ·refine AF AU kB AB AB AB AB AB AB ?_
   exact⟨(q,P++[GU q r],_,_),I2,hqm,by(dsimp only;rw[hsn];exact AL)⟩
  ·have htk:List.take (l.length+1) (y::l)=y::l:=by simp
   have hll:l.length+1<=27000001:=by rw[Bq]at hPL;omega
   refine AF AU htk AB AB AB AB AB AB ?_;exact⟨(q,P++[GU q r],_,_),I2,hqm,by(dsimp only;rw[hsn,OV];exact AL)⟩
abbrev Zn:Dr:=[(3,[0,1,2,3,4,5,6],[7,8])]
open Go.Proofs Go.RowKit
set_option maxRecDepth 20000
set_option maxHeartbeats 4000000
theorem nV (x:Nat)(hx:x<BB):AK C0 168 [AS x] (i64 (Lib.bitLen x:Int)):=by
 refine⟨⟨_,_,Tryz.func168,rfl,by kernel_rfl⟩,λY w vs hG hnG hX hvs hr=>?_⟩
 have:=RH hvs hr
 subst this;refine(Tryz.bits_Len64 x w (by omega) (by unfold BB at hx;omega)).mono ?_;rintro e w' ⟨rfl,rfl⟩;exact⟨_,_,rfl,.refl _ _,rfl,.prim _⟩
def FZ (n:Nat):Nat:=(Ae n).getD ((Ae n).length-1) 0
def Iw (n:Nat):Nat:=if n=0 then 0 else 64*((Ae n).length-1)+Lib.bitLen (FZ n)
theorem pj (n:Nat):n<2^Iw n:=by
 unfold Iw
 by_cases h:n=0
 ·subst h;rw[AH rfl];decide
 ·rw[AG h]
  have hl:(Ae n).length≠0:=λq=>by
   have:=Gl h
   rw[this]at q;simp at q
  obtain⟨k,hk⟩:∃k,(Ae n).length=k+1:=⟨(Ae n).length-1,by omega⟩
  have hat:(Ae n)[k]?=some (FZ n):=by
   unfold FZ;rw[hk,IY,Do,Cf];rfl
  have hv:=K9 hat;rw[HP (by omega),FS]at hv;have ht:FZ n<BB:=Fr n _ (Ay hat);have h1:AT ((Ae n).take k)<BB^k:=by
   have:=IC (l:=(Ae n).take k) λa ha=>Fr n a (JA ha)
   rwa [Bi,Fh (by omega)]at this
  have h2:FZ n<2^Lib.bitLen (FZ n):=by
   by_cases t0:FZ n=0
   ·rw[t0];exact HU _
   ·exact(Lib.bitLenAux_bounds 64 (FZ n) ht t0).2.2
  have h3:BB^k=2^(64*k):=by rw[Nat.pow_mul]
  rw[hk,IY,Ge,<-h3];have h4:n=AT ((Ae n).take k)+BB^k*FZ n:=by simpa[AT]using hv
  have h5:BB^k*(FZ n+1)<=BB^k*2^Lib.bitLen (FZ n):=Cr _ h2;rw[BN,EO]at h5;omega
def KM (n:Nat):Bool:=decide (600<(Lib.decDigits n).length)
theorem lc (n:Nat):KM n=(decide (Iw n>1800)&&KM n):=by
 by_cases h:Iw n>1800
 ·rw[Au h,Gc]
 ·rw[Av h,Hx]
  have key:∀k,Iw n<=3*(k+1)->(Lib.decDigits n).length<=k+1:=λk hk=>Lt k n (Co (pj n) (BT (FO (by decide) hk) (by rw[Nat.pow_mul];exact OA (by decide) (k+1))))
  have h4:=key 599 (by omega);exact Bc
theorem sN (x:GI)(h:x.wf)(hf:x.few):AK C0 123 [x.D] (i64 (Iw x.z.natAbs:Nat)):=by
 refine AZ.walk w1 br rfl λF=>?_
 have c1:=J4 x h;obtain⟨n,hn⟩:∃n,x.z.natAbs=n:=⟨_,rfl⟩
 unfold GI.few at hf;rw[hn]at c1 hf⊢;have el:((((Ae n).map AS).length:Nat):Int)=((Ae n).length:Int):=by rw[Ag]
 unfold wD wL at c1;dsimp only[GI.D]at c1⊢
 by_cases h0:n=0
 ·have e1:(((Ae n).length:Int)==0)=true:=by rw[h0,GR];rfl
  have hb:Iw n=0:=AH h0;rw[hb];refine AF AU (Ab e1 el) c1 AB AB AB AB AB ?_;exact AJ rfl AA.out
 ·have hl:(Ae n).length≠0:=λq=>by
   have:=Gl h0
   rw[this]at q;simp at q
  have e1:(((Ae n).length:Int)==0)=false:=zv hl;have wl:IntKind.i64.wrap (((Ae n).length:Int)-1)=(((Ae n).length-1:Nat):Int):=by rw[wI];omega
  have wm:IntKind.i64.wrap (64*(((Ae n).length-1:Nat):Int))=((64*((Ae n).length-1):Nat):Int):=by rw[wI];omega
  have hat:(Ae n)[(Ae n).length-1]?=some (FZ n):=by
   unfold FZ;rw[Do,Cf];rfl
  have hm:((Ae n).map AS)[(Ae n).length-1]?=some (u64 (FZ n:Int)):=by rw[A8,hat];rfl
  have ht:FZ n<BB:=Fr n _ (Ay hat);have c2:=nV (FZ n) ht;have hbl:=Lib.bitLen_le (FZ n) 64 (Al _) ht;have wa:IntKind.i64.wrap (((64*((Ae n).length-1):Nat):Int)+(Lib.bitLen (FZ n):Int))=((Iw n:Nat):Int):=by
   have hb:Iw n=64*((Ae n).length-1)+Lib.bitLen (FZ n):=AG h0;rw[hb,wI];omega
  refine AF AU (Ek e1 el wl wm wa kN) c1 hm c2 AB AB AB ?_;exact AJ rfl AA.out
theorem eB (x:GI)(h:x.wf)(hf:x.few):AK C0 83 [x.D] (Ai (KM x.z.natAbs)):=by
 refine AZ.walk w1 gX rfl λF=>?_
 have c1:=sN x h hf;have c2:=UN x h hf;have hlen:(Lib.decDigits x.z.natAbs).length<=27*1000000+1:=Nc (k:=1000000) (by unfold GI.few at hf;omega);have hil:(Lib.itoa x.z).length<=27000002:=by
  unfold Lib.itoa;split
  ·rw[Bq];omega
  ·rw[show x.z.toNat=x.z.natAbs by omega];omega
 have c3:=Ta (Lib.itoa x.z) (by omega);rw[(M6 x.z).2]at c3;have hsz:=Cd (Lib.decDigits x.z.natAbs);have hlb:=lc x.z.natAbs;obtain⟨b,hb⟩:∃b,KM x.z.natAbs=b:=⟨_,rfl⟩
 have e2:decide (((Lib.decDigits x.z.natAbs).length:Int)>600)=b:=by rw[<-hb];exact DA.2 (by omega)
 obtain⟨p,hp⟩:∃b,decide (Iw x.z.natAbs>1800)=b:=⟨_,rfl⟩
 have e1:decide (((Iw x.z.natAbs:Nat):Int)>1800)=p:=by rw[<-hp];exact DA.2 (by omega)
 rw[hb,hp]at hlb;rw[hb,hlb];dsimp only[GI.D]at c1 c2⊢;cases p
 ·refine AF AU e1 c1 AB AB AB AB AB ?_
  exact AJ rfl AA.out
 ·refine AF AU (Ar e1 e2 hsz) c1 c2 c3 AB AB AB ?_
  exact AJ rfl AA.out
theorem dq {r:Rat}{x:GF}{k:Nat}(h:FR r x k)(hk:k<100000):x.n.wf/\x.n.few/\(AX (x.d:Int)).wf/\(AX (x.d:Int)).few/\x.n.z=r.num/\x.d=r.den/\0<x.d:=
 ⟨h.is.1,h.fn (by omega),Cv _,by
  show(Ae ((x.d:Int)).natAbs).length<1000000;rw[D7];have:=h.ld;omega,h.is.2.1,h.is.2.2,h.dpos⟩
theorem Uz {r:Rat}{x:GF}{k:Nat}(h:FR r x k)(hk:k<100000):AK C0 37 [x.D] (Ai (DF r)):=by
 refine AZ.walk w1 fe rfl λF=>?_
 obtain⟨h1,h2,h3,h4,h5,h6,_⟩:=dq h hk;have c1:=eB x.n h1 h2;have c2:=eB (AX (x.d:Int)) h3 h4;have hb:DF r=(KM x.n.z.natAbs||KM (AX (x.d:Int)).z.natAbs):=by
  unfold DF KM;rw[h5,<-h6];rfl
 rw[hb];obtain⟨p,hp⟩:∃b,KM x.n.z.natAbs=b:=⟨_,rfl⟩
 obtain⟨q,hq⟩:∃b,KM (AX (x.d:Int)).z.natAbs=b:=⟨_,rfl⟩
 rw[hp]at c1;rw[hq]at c2;rw[hp,hq];dsimp only[GI.D,GF.D]at c1 c2⊢;generalize AX (x.d:Int)=y at c2⊢;cases p<;>cases q
 all_goals
  refine AF AU kB c1 c2 AB AB AB AB ?_;exact AJ rfl AA.out
theorem SP {r:Rat}{x:GF}{k:Nat}(h:FR r x k)(hk:k<100000):AK C0 38 [x.D] (str (sb (An r))):=by
 refine AZ.walk w1 ff rfl λF=>?_
 obtain⟨h1,h2,h3,h4,h5,h6,h7⟩:=dq h hk;have c0:=Tw x h7;have c1:=UN x.n h1 h2;have c2:=UN (AX (x.d:Int)) h3 h4;have hd:Lib.itoa (AX (x.d:Int)).z=Lib.decDigits r.den:=by
  show Lib.itoa (x.d:Int)=_;unfold Lib.itoa;rw[CR,h6];rfl
 rw[hd]at c2;rw[h5]at c1;have l1:(Lib.itoa r.num).length<=27000002:=by
  have:(Lib.decDigits x.n.z.natAbs).length<=27*1000000+1:=Nc (k:=1000000) (by unfold GI.few at h2;omega)
  rw[h5]at this;unfold Lib.itoa;split
  ·rw[Bq];omega
  ·rw[show r.num.toNat=r.num.natAbs by omega];omega
 have l2:(Lib.decDigits r.den).length<=27000001:=by
  have:(Lib.decDigits (AX (x.d:Int)).z.natAbs).length<=27*1000000+1:=Nc (k:=1000000) (by unfold GI.few at h4;omega)
  rw[<-h6];exact this
 have s1:=Cd (Lib.itoa r.num);have s2:=Cd (Lib.decDigits r.den);have s3:(sb [47]).size=1:=rfl;have s4:=Cd (Lib.itoa r.num++[47]);have z1:(sb (Lib.itoa r.num)).size+(sb [47]).size<=9223372036854775807:=by rw[s1,s3];omega
 have z2:(sb (Lib.itoa r.num++[47])).size+(sb (Lib.decDigits r.den)).size<=9223372036854775807:=by rw[s4,s2,Bp,GM];omega
 have a1:sb (Lib.itoa r.num)++(⟨#[47]⟩:ByteArray)=sb (Lib.itoa r.num++[47]):=VX _ [47];have a2:=VX (Lib.itoa r.num++[47]) (Lib.decDigits r.den);rw[EE]at a2;dsimp only[GI.D,GF.D]at c0 c1 c2⊢;generalize AX (x.d:Int)=y at c0 c2⊢;unfold An
 by_cases g:x.d=1
 ·rw[Au g]at c0
  rw[AH (h6 ▸ g)];refine AF Zn kB c0 c1 AB AB AB AB ?_;exact AJ rfl AA.out
 ·rw[Av g]at c0
  rw[AG (λq=>g (h6.trans q))];refine AF Zn (Ab a1 a2) c0 c1 c2 AB AB AB ?_;exact AJ rfl AA.out
set_option maxHeartbeats 4000000
def nb (r:Rat)(n d:Nat):Prop:=r.num.natAbs<=n/\r.den<=d
theorem nb.mono {r:Rat}{n d n' d':Nat}(h:nb r n d)(h1:n<=n')(h2:d<=d'):nb r n' d':=⟨BT h.1 h1,BT h.2 h2⟩
theorem aG {n:Int}{d N D:Nat}(hd:d≠0)(h1:n.natAbs<=N)(h2:d<=D):nb (Rat.normalize n d hd) N D:=by
 rw[Rat.normalize_eq];exact⟨BT (Int.natAbs_ediv_le_natAbs _ _) h1,BT (GJ _ _) h2⟩
theorem vU {a b:Rat}{n d m e:Nat}(ha:nb a n d)(hb:nb b m e):nb (a+b) (n*e+m*d) (d*e):=by
 rw[Rat.add_def];refine aG _ (BT (Int.natAbs_add_le _ _) ?_) (F9 ha.2 hb.2);rw[KZ,KZ,D7,D7];exact Nat.add_le_add (F9 ha.1 hb.2) (F9 hb.1 ha.2)
theorem vX {a b:Rat}{n d m e:Nat}(ha:nb a n d)(hb:nb b m e):nb (a*b) (n*m) (d*e):=by
 rw[Rat.mul_def];exact aG _ (by rw[KZ];exact F9 ha.1 hb.1) (F9 ha.2 hb.2)
theorem vW (z:Int){n:Nat}(h:z.natAbs<=n):nb (z:Rat) n 1:=by
 unfold nb;rw[Rat.num_intCast,Rat.den_intCast];exact⟨h,Al _⟩
theorem aI:nb 0 0 1:=⟨by decide,by decide⟩
def Sf:Nat:=(10^100)^6
theorem vV {r:Rat}{n d:Nat}(h:nb r n d)(h1:n<Sf)(h2:d<Sf):DF r=false:=by
 unfold DF;have key:∀a b k m,a*b=k+1->m<(10^a)^b->(Lib.decDigits m).length<=k+1:=λa b k m hk h=>Lt k m (by rw[<-hk,Nat.pow_mul];exact h)
 have l1:=key 100 6 599 r.num.natAbs rfl (DH h.1 h1);have l2:=key 100 6 599 r.den rfl (DH h.2 h2);rw[Bc,Bc];rfl
def DC:Nat:=10^40
theorem aH {l:List UInt8}(h:Cj l=0)(hl:l.length<=40):nb (Bd l) DC DC:=by
 obtain⟨m1,m2,m3,m4⟩:=M0 h;obtain⟨p1,p2⟩:=QV h;have hs1:(B9 l).length<=40:=by
  have:(B9 l).length<=l.length:=by
   unfold B9;have a1:(Bs (B6 l)).length<=(B6 l).length:=by unfold Bs;split<;>simp
   have a2:(B6 l).length<=l.length:=by unfold B6;rw[Bi];omega
   omega
  omega
 have hb:∀k,k<=40->(10:Nat)^k<=DC:=λk hk=>FO (by decide) hk
 refine⟨?_,?_⟩
 ·rw[m1,m4]
  exact BT (Jn (Gr _ p1)) (hb _ hs1)
 ·rw[m2]
  unfold HM;cases hs:C5 l
  ·exact(by decide:1<=DC)
  ·have hs2:(Be l).length<=40:=by
    have:(Be l).length<=l.length:=by unfold Be;simp
    omega
   exact BT (Jn (Gr _ (p2 hs))) (hb _ hs2)
theorem gM {r:Rat}{n d k:Nat}(h:nb r n d)(h1:n<BB^k)(h2:d<BB^k):rk r k:=
 ⟨G9 (DH h.1 h1),G9 (DH h.2 h2)⟩
theorem TO {l:List UInt8}(h:Cj l=0)(hl:l.length<=40):rk (Bd l) 3:=gM (aH h hl) (by decide) (by decide)
theorem Rp (k:Nat)(hk:1<=k):FR 0 ⟨AX 0,1⟩ k:=⟨⟨Cv _,by rw[EA];rfl,rfl⟩,by
 refine rk.mono (k:=1) ?_ hk;exact⟨G9 (k:=1) (by decide),G9 (k:=1) (by decide)⟩⟩
abbrev Gk:Dr:=[(11,[0,1,2,3,4,5,6,7,8,9,10],[11,12]),(21,[0,1],[2,3])]
open Go.Proofs Go.RowKit
set_option maxRecDepth 20000
set_option maxHeartbeats 4000000
def LG (a b:List UInt8):Bool:=KK (sb a) (sb b)||BI (sb a) (sb b)
def Fo (l:List A0)(i:Nat):Nat:=
 if B4 (Ds l i).lot=false then 8 else if 0<i/\LG (Ds l i).lot (Ds l (i-1)).lot=true then 11 else if Cj (Ds l i).part≠0 then Cj (Ds l i).part else if GH (Bd (Ds l i).part)<=0 then 12 else 0
def FW (l:List A0):Nat->Rat
 | 0=>0
 |n+1=>FW l n+Bd (Ds l n).part
def Gn (l:List A0):Nat:=if l.length=0 then 2 else if 64<l.length then 5 else if D4 (Fo l) l.length≠0 then D4 (Fo l) l.length else if FW l l.length=1 then 0 else 12
theorem MF (l:List UInt8):AK C0 34 [str (sb l)] (Ai (B4 l)):=mC (sb l)
theorem pE (a b:Rat):(MZ a b==0)=decide (a=b):=by
 unfold MZ
 by_cases h:a<b
 ·rw[AH h,Av (Rat.ne_of_lt h)];rfl
 ·rw[AG h]
  by_cases h2:b<a
  ·rw[AH h2,Av λe=>Rat.ne_of_lt h2 e.symm];rfl
  ·rw[AG h2,Au (Rat.le_antisymm (Rat.not_lt.1 h2) (Rat.not_lt.1 h))];rfl
theorem vw {a b:Rat}{x y:GF}{i j:Nat}(hx:FR a x i)(hy:FR b y j)(hk:i+j<300000):AK C0 193 [x.D,y.D] (Ai (decide (a=b))):=by
 refine AZ.walk w1 bW rfl λF=>?_
 have c:=ru hx hy hk;have e:=pE a b;obtain⟨r,hr⟩:∃r,MZ a b=r:=⟨_,rfl⟩
 rw[hr]at c e;obtain⟨xD,hxD⟩:∃d,x.D=d:=⟨_,rfl⟩
 obtain⟨yD,hyD⟩:∃d,y.D=d:=⟨_,rfl⟩
 unfold GF.D at c hxD hyD⊢;refine AF AU e c AB AB AB AB AB ?_;exact AJ rfl AA.out
theorem ve:FR 1 ⟨AX 1,1⟩ 1:=by
 have:=Oy (z:=1) (by decide)
 exact this
theorem zf (b:Bool)(l:List A0)(hl:l.length<=9223372036854775807)(hf:∀s∈l,s.few):AK C0 140 [D5 b l] (i64 (Gn l:Nat)):=by
 refine AZ.walk w1 cJ rfl λF=>?_
 have el:(((l.map A0.D).length:Nat):Int)=(l.length:Int):=by rw[Ag]
 have hC:Gn l=if l.length=0 then 2 else if 64<l.length then 5 else if D4 (Fo l) l.length≠0 then D4 (Fo l) l.length else if FW l l.length=1 then 0 else 12:=rfl
 rcases Nat.decEq l.length 0 with h0|h0
 rotate_left
 ·rw[AH h0]at hC
  rw[hC];have q1:((l.length:Int)==0)=true:=by rw[h0];rfl
  refine AF Gk (Ab el q1) AB AB AB AB AB AB ?_;exact AJ rfl AA.out
 rw[AG h0]at hC;have q1:((l.length:Int)==0)=false:=Br.2 (by omega)
 by_cases h64:64<l.length
 ·rw[AH h64]at hC
  rw[hC];have q2:decide ((l.length:Int)>64)=true:=BV;refine AF Gk (Ar el q1 q2) AB AB AB AB AB AB ?_;exact AJ rfl AA.out
 rw[AG h64]at hC;have q2:decide ((l.length:Int)>64)=false:=Bc;have c0:=Po 0 ⟨by decide,by decide⟩;have c1:=Po 1 ⟨by decide,by decide⟩;refine AF Gk (Ar el q1 q2) c0 AB AB AB AB AB ?_;refine AC.loop (α:=Nat×GF×Nat) (λp=>⟨[(0,D5 b l),(3,.optr 501 8 4 0 0),(15,D5 b l),(16,i64 (l.length:Int)),(17,i64 (p.1:Int))],[⟨501,8,83,4,[p.2.1.D]⟩],p.2.2⟩) (λp=>l.length-p.1) (λp=>p.1<=l.length/\(∀j,j<p.1->Fo l j=0)/\FR (FW l p.1) p.2.1 (601*p.1+1)) (0,⟨AX 0,1⟩,_)
  ⟨BU _,λj h=>Af h (FN j),Rp 1 (Al _)⟩ AL ?_
 rintro⟨i,y,m⟩ F ⟨hi,hz,hS⟩;dsimp only at hi hz hS⊢;rcases BA i l.length with h2|h2
 rotate_left
 ·have e1:=Cb h2
  have:i=l.length:=by omega
  subst this;rw[AG (λh=>h (M1 hz))]at hC;have cS:=vw hS ve (by omega);obtain⟨q,hq⟩:∃q,decide (FW l l.length=1)=q:=⟨_,rfl⟩
  rw[hq]at cS;cases q
  ·rw[AG (Db hq)]at hC
   rw[hC];refine AF Gk e1 c1 cS AB AB AB AB ?_;exact AJ rfl AA.out
  ·rw[AH (DJ hq)]at hC
   rw[hC];refine AF Gk e1 c1 cS AB AB AB AB ?_;exact AJ rfl AA.out
 have e1:=CZ h2;have wi:=Cc (i:=i) (by omega);obtain⟨s,hs⟩:=CU h2;have hm:(l.map A0.D)[i]?=some (.agg [str (sb s.lot),str (sb s.part)]):=by rw[A8,hs];rfl
 obtain⟨f1,f2⟩:=hf s (Ay hs);have hE:Fo l i=if B4 s.lot=false then 8 else if 0<i/\LG s.lot (Ds l (i-1)).lot=true then 11 else if Cj s.part≠0 then Cj s.part else if GH (Bd s.part)<=0 then 12 else 0:=by unfold Fo;rw[KE hs]
 have hbad:∀e:Nat,e≠0->Fo l i=e->Gn l=e:=λe he h=>by
  have:=Ov hz h2 (by rw[h];exact he)
  rw[hC,this,h,AH he]
 have cN:=MF s.lot;obtain⟨N,hN⟩:∃q,B4 s.lot=q:=⟨_,rfl⟩
 rw[hN]at cN hE;cases N
 ·rw[AH rfl]at hE
  rw[hbad 8 (by decide) hE];refine AF Gk (Ab e1 kN) hm cN AB AB AB AB ?_;exact AJ rfl AA.out
 rw[AG (by decide)]at hE;have cC:=nm s.part f2;rcases i with _|q
 ·have g0:decide (((0:Nat):Int)>0)=false:=rfl
  rw[AG (λh=>Af h.1 (Nat.lt_irrefl 0))]at hE;rcases Nat.decEq (Cj s.part) 0 with hc0|hc0
  ·rw[AH hc0]at hE
   have e3:=GX hc0;rw[hbad (Cj s.part) hc0 hE];refine AF Gk (BS e1 g0 kN e3) hm cN cC AB AB AB ?_;exact AJ rfl AA.out
  rw[AG (λh=>h hc0)]at hE;have e3:=Gw hc0;have cP:=Rt f2 hc0;have fP:=R4 hc0;have cG:=Zg fP.is;have cA:=R7 hS fP (by omega);have fA:=RQ hS fP;obtain⟨z,hzz⟩:∃z,KR y (Gs s.part)=z:=⟨_,rfl⟩
  rw[hzz]at cA fA;obtain⟨sg,hsg⟩:∃q,GH (Bd s.part)=q:=⟨_,rfl⟩
  rw[hsg]at cG hE
  by_cases hs0:sg<=0
  ·rw[AH hs0]at hE
   have e4:decide (sg<=0)=true:=Au hs0;rw[hbad 12 (by decide) hE];refine AF Gk (CI e1 g0 kN e3 e4) hm cN cC cP cG AB ?_;exact AJ rfl AA.out
  rw[AG hs0]at hE;have e4:decide (sg<=0)=false:=Av hs0;refine AF Gk (Ek e1 g0 kN e3 e4 wi) hm cN cC cP cG AB ?_;refine cI cA ?_;refine AF Gk wi AB AB AB AB AB AB ?_;exact⟨(0+1,z,_),⟨h2,λj hj=>by
   rcases Jl.1 hj with q|q
   ·exact hz j q
   ·rw[q];exact hE,by
   show FR (FW l 0+Bd (Ds l 0).part) z _;rw[KE hs];exact⟨fA.is,fA.rk.mono (by dsimp only;omega)⟩⟩,by dsimp only;omega,AL⟩
 ·have g0:decide (((q+1:Nat):Int)>0)=true:=BV
  have g1:IntKind.i64.wrap (((q+1:Nat):Int)-1)=(q:Int):=by rw[wI];omega
  obtain⟨s0,hs0'⟩:=CU (l:=l) (i:=q) (by omega);have hm0:(l.map A0.D)[q]?=some (.agg [str (sb s0.lot),str (sb s0.part)]):=by rw[A8,hs0'];rfl
  rw[IY,KE hs0']at hE;obtain⟨bL,hbL⟩:∃q,LG s.lot s0.lot=q:=⟨_,rfl⟩
  have g2:(KK (sb s.lot) (sb s0.lot)||BI (sb s.lot) (sb s0.lot))=bL:=hbL;rw[hbL]at hE;cases bL
  rotate_left
  ·rw[AH ⟨Nat.succ_pos q,rfl⟩]at hE
   rw[hbad 11 (by decide) hE];refine AF Gk (CI e1 g0 g1 g2 kN) hm hm0 cN AB AB AB ?_;exact AJ rfl AA.out
  rw[AG (λh=>Af h.2 (by decide))]at hE;rcases Nat.decEq (Cj s.part) 0 with hc0|hc0
  ·rw[AH hc0]at hE
   have e3:=GX hc0;rw[hbad (Cj s.part) hc0 hE];refine AF Gk (Ek e1 g0 g1 g2 kN e3) hm hm0 cN cC AB AB ?_;exact AJ rfl AA.out
  rw[AG (λh=>h hc0)]at hE;have e3:=Gw hc0;have cP:=Rt f2 hc0;have fP:=R4 hc0;have cG:=Zg fP.is;have cA:=R7 hS fP (by omega);have fA:=RQ hS fP;obtain⟨z,hzz⟩:∃z,KR y (Gs s.part)=z:=⟨_,rfl⟩
  rw[hzz]at cA fA;obtain⟨sg,hsg⟩:∃q,GH (Bd s.part)=q:=⟨_,rfl⟩
  rw[hsg]at cG hE
  by_cases hs0:sg<=0
  ·rw[AH hs0]at hE
   have e4:decide (sg<=0)=true:=Au hs0;rw[hbad 12 (by decide) hE];refine AF Gk (Ci e1 g0 g1 g2 kN e3 e4) hm hm0 cN cC cP cG ?_;exact AJ rfl AA.out
  rw[AG hs0]at hE;have e4:decide (sg<=0)=false:=Av hs0;refine AF Gk (Ci e1 g0 g1 g2 kN e3 (Ab e4 wi)) hm hm0 cN cC cP cG ?_;refine cI cA ?_;refine AF Gk wi AB AB AB AB AB AB ?_;exact⟨(q+1+1,z,_),⟨h2,λj hj=>by
   rcases Jl.1 hj with q|q
   ·exact hz j q
   ·rw[q];exact hE,by
   show FR (FW l (q+1)+Bd (Ds l (q+1)).part) z _;rw[KE hs];exact⟨fA.is,fA.rk.mono (by dsimp only;omega)⟩⟩,by dsimp only;omega,AL⟩
def AE.few (x:AE):Prop:=x.grain.length<=100000/\x.shs.length<=9223372036854775807/\∀s∈x.shs,s.few
def Ce (x:AE):Nat:=if B4 x.grain=false then 8 else if x.mass<1\/x.mass>999999999 then 3 else Gn x.shs
def Ca (l:List AE)(k:Nat):AE:=l.getD k ⟨[],0,[]⟩
theorem GC {l:List AE}{k:Nat}{x:AE}(h:l[k]?=some x):Ca l k=x:=by unfold Ca;rw[Do,h];rfl
def As (l:List AE):Int:=(l.map (·.mass)).sum
theorem T1 {l:List AE}{i:Nat}{x:AE}(h:l[i]?=some x):As (l.take (i+1))=As (l.take i)+x.mass:=by
 unfold As;rw[D8,h,DK,List.sum_append];simp
def Ja (l:List AE):Prop:=l.length<=1000000/\∀x∈l,x.mass.natAbs<=1000000000
theorem Um {l:List AE}(h:∀x∈l,x.mass.natAbs<=1000000000):(As l).natAbs<=l.length*1000000000:=by
 unfold As
 induction l with
 |nil=>simp
 |cons a l ih=>
  have h1:=h a (by simp);have h2:=ih λx hx=>h x (by simp[hx])
  simp only[Cs,List.sum_cons,Bq];omega
def CG (l:List AE):Nat:=if 64<l.length then 5 else if D4 (λi=>Ce (Ca l i)) l.length≠0 then D4 (λi=>Ce (Ca l i)) l.length else if As l>999999999 then 4 else 0
theorem L7 {x:AE}(h:Ce x=0):B4 x.grain=true/\1<=x.mass/\x.mass<=999999999/\Gn x.shs=0:=by
 unfold Ce at h;split at h
 ·cases h
 ·rename_i h1
  split at h
  ·cases h
  ·rename_i h2
   exact⟨by simpa using h1,by omega,by omega,h⟩
theorem Gq (b:Bool)(e:Int):AK C0 33 [Ai b,i64 e] (i64 (if b then e else 0)):=by
 refine AZ.walk w1 fV rfl λF=>?_
 cases b
 ·refine AF AU kB AB AB AB AB AB AB ?_
  exact AJ rfl AA.out
 ·refine AF AU kB AB AB AB AB AB AB ?_
  exact AJ rfl AA.out
theorem LA (v:List Int)(hl:v.length<=1000):AK C0 31 [.sl true 1 (v.map λe=>i64 e)] (i64 (D3 v)):=by
 refine AZ.walk w1 fT rfl λF=>?_
 have el:(((v.map λe=>i64 e).length:Nat):Int)=(v.length:Int):=by rw[Ag]
 refine AF AU el AB AB AB AB AB AB ?_;refine AC.loop (α:=Nat×Nat) (λp=>⟨[(5,.sl true 1 (v.map λe=>i64 e)),(6,i64 (v.length:Int)),(7,i64 (p.1:Int))],[],p.2⟩) (λp=>v.length-p.1) (λp=>p.1<=v.length/\∀(j:Nat) (e:Int),j<p.1->v[j]?=some e->e=0) (0,_) ⟨BU _,λj e h=>Af h (FN j)⟩ AL ?_;rintro⟨i,m⟩ F ⟨hi,ha⟩;dsimp only at hi ha⊢;rcases BA i v.length with h2|h2
 rotate_left
 ·have e1:=Cb h2
  have:i=v.length:=by omega
  subst this;have hd:D3 v=0:=by rw[QU ha,Jr];rfl
  rw[hd];refine AF AU e1 AB AB AB AB AB AB ?_;exact AJ rfl AA.out
 have e1:=CZ h2;have wi:=Cc (i:=i) (by omega);obtain⟨l,hl'⟩:=CU h2;have hm:(v.map λe=>i64 e)[i]?=some (i64 l):=by rw[A8,hl'];rfl
 by_cases g:l=0
 ·have e5:(l != 0)=false:=by rw[g];rfl
  refine AF AU (BS e1 wi e5 kN) hm AB AB AB AB AB ?_;exact⟨(i+1,_),⟨h2,λj e hj he=>by
   rcases Jl.1 hj with q|q
   ·exact ha j e q he
   ·subst q;rw[hl']at he;cases he;exact g⟩,by dsimp only;omega,AL⟩
 ·have e5:(l != 0)=true:=Hg g
  have hd:D3 v=l:=by
   rw[QU ha,EN h2];rw[Bo h2]at hl';rw[F8 hl'];exact AH g
  rw[hd];refine AF AU (BS e1 wi e5 kN) hm AB AB AB AB AB ?_;exact AJ rfl AA.out
theorem R2 (b:Bool)(l:List AE)(hs:Ja l):AK C0 59 [Am b l] (i64 (As l)):=by
 refine AZ.walk w1 V1 rfl λF=>?_
 have el:(((l.map AE.D).length:Nat):Int)=(l.length:Int):=by rw[Ag]
 obtain⟨hl,hm0⟩:=hs;refine AF AU el AB AB AB AB AB AB ?_;refine AC.loop (α:=Nat×Nat) (λp=>⟨[(3,i64 (As (l.take p.1))),(6,Am b l),(7,i64 (l.length:Int)),(8,i64 (p.1:Int))],[],p.2⟩) (λp=>l.length-p.1) (λp=>p.1<=l.length) (0,_) (BU _) AL ?_;rintro⟨i,m⟩ F hi;dsimp only at hi⊢;rcases BA i l.length with h2|h2
 rotate_left
 ·have e1:=Cb h2
  have:i=l.length:=by omega
  subst this;rw[C6];refine AF AU e1 AB AB AB AB AB AB ?_;exact AJ rfl AA.out
 have e1:=CZ h2;have wi:=Cc (i:=i) (by omega);obtain⟨x,hx⟩:=CU h2;have hm:(l.map AE.D)[i]?=some (.agg [str (sb x.grain),i64 x.mass,.sl false 2 (x.shs.map A0.D)]):=by rw[A8,hx];rfl
 have hb:=Um (l:=l.take i) λy hy=>hm0 y (JA hy)
 have hxm:=hm0 x (Ay hx);rw[Bi,Fh hi]at hb;have wS:IntKind.i64.wrap (As (l.take i)+x.mass)=As (l.take (i+1)):=by rw[T1 hx,wI]
 refine AF AU (BS e1 wi @wS kN) hm AB AB AB AB AB ?_;exact⟨(i+1,_),h2,by dsimp only;omega,AL⟩
theorem iQ (x:AE)(hf:x.few):AK C0 99 [x.D] (i64 (Ce x:Nat)):=by
 refine AZ.walk w1 gf rfl λF=>?_
 obtain⟨f1,f2,f3⟩:=hf;have cN:=MF x.grain;have cS:=zf false x.shs f2 f3;have hC:Ce x=if B4 x.grain=false then 8 else if x.mass<1\/x.mass>999999999 then 3 else Gn x.shs:=rfl
 obtain⟨N,hN⟩:∃q,B4 x.grain=q:=⟨_,rfl⟩
 obtain⟨SD,hSD⟩:∃d,D5 false x.shs=d:=⟨_,rfl⟩
 have pS:AA SD:=by rw[<-hSD];exact AI
 have hna:KA SD=true:=by rw[<-hSD];rfl
 unfold AE.D;rw[hN]at cN hC;rw[hSD]at cS⊢;cases N
 ·rw[AH rfl]at hC
  rw[hC];refine AF AU kB cN AB AB AB AB AB ?_;exact AJ rfl AA.out
 rw[AG (by decide)]at hC
 by_cases h1:x.mass<1
 ·rw[AH (.inl h1)]at hC
  rw[hC];have e1:decide (x.mass<1)=true:=Au h1;refine AF AU e1 cN AB AB AB AB AB ?_;exact AJ rfl AA.out
 have e1:decide (x.mass<1)=false:=Av h1
 by_cases h2:x.mass>999999999
 ·rw[AH (.inr h2)]at hC
  rw[hC];have e2:decide (x.mass>999999999)=true:=Au h2;refine AF AU (Ab e1 e2) cN AB AB AB AB AB ?_;exact AJ rfl AA.out
 have e2:decide (x.mass>999999999)=false:=Av h2;rw[CR]at hC;rw[hC];refine AF AU (Ar e1 e2 hna) cN cS AB AB AB AB ?_;exact AJ rfl AA.out
theorem T7 {l:List AE}(h64:¬ 64<l.length)(hz:∀j,j<l.length->Ce (Ca l j)=0):Ja l:=by
 refine⟨by omega,λx hx=>?_⟩;obtain⟨j,hj⟩:=Lh.1 hx
 have:=hz j (BQ.1 hj).1
 rw[GC hj]at this
 have:=L7 this
 omega
theorem Nv (b:Bool)(l:List AE)(hl:l.length<=9223372036854775807)(hf:∀x∈l,x.few):AK C0 54 [Am b l] (i64 (CG l:Nat)):=by
 refine AZ.walk w1 fp rfl λF=>?_
 have el:(((l.map AE.D).length:Nat):Int)=(l.length:Int):=by rw[Ag]
 have hC:CG l=if 64<l.length then 5 else if D4 (λi=>Ce (Ca l i)) l.length≠0 then D4 (λi=>Ce (Ca l i)) l.length else if As l>999999999 then 4 else 0:=rfl
 by_cases h64:64<l.length
 ·rw[AH h64]at hC
  rw[hC];have q2:decide ((l.length:Int)>64)=true:=BV;refine AF AU (Ab el q2) AB AB AB AB AB AB ?_;exact AJ rfl AA.out
 rw[AG h64]at hC;have q2:decide ((l.length:Int)>64)=false:=Bc;refine AF AU (Ab el q2) AB AB AB AB AB AB ?_;refine AC.loop (α:=Nat×Nat) (λp=>⟨[(0,Am b l),(9,Am b l),(10,i64 (l.length:Int)),(11,i64 (p.1:Int))],[],p.2⟩) (λp=>l.length-p.1) (λp=>p.1<=l.length/\∀j,j<p.1->Ce (Ca l j)=0) (0,_) ⟨BU _,λj h=>Af h (FN j)⟩ AL ?_;rintro⟨i,m⟩ F ⟨hi,hz⟩;dsimp only at hi hz⊢;rcases BA i l.length with h2|h2
 rotate_left
 ·have e1:=Cb h2
  have:i=l.length:=by omega
  subst this;rw[AG (λh=>h (M1 (f:=λi=>Ce (Ca l i)) hz))]at hC;have cT:=R2 b l (T7 h64 hz);obtain⟨q,hq⟩:∃q,decide (As l>999999999)=q:=⟨_,rfl⟩
  have cW:=Gq q 4;have hR:((CG l:Nat):Int)=if q then 4 else 0:=by
   rw[hC,<-hq]
   by_cases h:As l>999999999
   ·rw[AH h,Au h];rfl
   ·rw[AG h,Av h];rfl
  rw[hR];refine AF AU (Ab e1 hq) cT cW AB AB AB AB ?_;exact AJ rfl AA.out
 have e1:=CZ h2;have wi:=Cc (i:=i) (by omega);obtain⟨x,hx⟩:=CU h2;have hm:(l.map AE.D)[i]?=some (.agg [str (sb x.grain),i64 x.mass,.sl false 2 (x.shs.map A0.D)]):=by rw[A8,hx];rfl
 have cL:=iQ x (hf x (Ay hx));unfold AE.D at cL;rcases Nat.decEq (Ce x) 0 with hc0|hc0
 ·have e3:=GX hc0
  have:=Ov (f:=λi=>Ce (Ca l i)) hz h2 (by rw[GC hx];exact hc0)
  rw[GC hx]at this;rw[this,AH hc0]at hC;rw[hC];refine AF AU (Ar e1 e3 kN) hm cL AB AB AB AB ?_;exact AJ rfl AA.out
 have e3:=Gw hc0;refine AF AU (BS e1 e3 wi kN) hm cL AB AB AB AB ?_;exact⟨(i+1,_),⟨h2,λj hj=>by
  rcases Jl.1 hj with q|q
  ·exact hz j q
  ·rw[q,GC hx];exact hc0⟩,by dsimp only;omega,AL⟩
theorem Yf {α:Type}{l:List α}{p:α->Bool}{k:Nat}{x:α}(hx:l[k]?=some x)(h:(l.take k).all p=true)(hp:p x=true):(l.take (k+1)).all p=true:=by
 rw[D8,hx,KY,h];simp[hp]
theorem Ud {α:Type}{l:List α}{p:α->Bool}{k:Nat}{x:α}(hx:l[k]?=some x)(hp:p x=false):l.all p=false:=by
 cases h:l.all p
 ·rfl
 ·rw[CY.1 h x (Ay hx)]at hp;exact hp
abbrev ND:Dr:=[(8,[0,1,2,3,4,5,6,7],[8])]
open Go.Proofs Go.RowKit
set_option maxRecDepth 20000
set_option maxHeartbeats 4000000
abbrev BW:=List (List UInt8×Rat)
def Ew (lot:List UInt8):BW->Option Rat
 | []=>none
 |p::l=>if lot=p.1 then some p.2 else Ew lot l
def Gy (lot:List UInt8)(r:Rat):BW->BW
 | []=>[(lot,r)]
 |p::l=>if lot=p.1 then(lot,r)::l else p::Gy lot r l
def KV (lot:List UInt8)(r:Rat)(q:BW):BW:=Gy lot (match Ew lot q with|some o=>r+o|none=>r) q
def Gt (x:AE)(n:Nat)(q:BW):BW:=(x.shs.take n).foldl (λacc s=>KV s.lot (Bd s.part*(x.mass:Rat)) acc) q
def CJ (l:List AE):BW:=l.foldl (λacc x=>Gt x x.shs.length acc) []
def MQ (B:Nat):BW->DV->Prop
 | [],[]=>True
 |p::q,e::m=>(e.1=sb p.1/\∃y:GF,e.2=y.D/\FR p.2 y B)/\MQ B q m
 |_,_=>False
theorem MQ.mono {B B':Nat}(hB:B<=B'):∀ {q:BW} {m:DV},MQ B q m->MQ B' q m
 | [],[],_=>trivial
 |_::_,_::_,⟨⟨h1,y,h2,h3⟩,h4⟩=>⟨⟨h1,y,h2,h3.is,h3.rk.mono hB⟩,MQ.mono hB h4⟩
theorem MQ.look {B:Nat}(lot:List UInt8):∀ {q:BW} {m:DV},MQ B q m->(Ic (sb lot) m=none/\Ew lot q=none)\/∃(r:Rat) (y:GF),Ic (sb lot) m=some y.D/\Ew lot q=some r/\FR r y B
 | [],[],_=>.inl ⟨rfl,rfl⟩
 |p::q,e::m,⟨⟨h1,y,h2,h3⟩,h4⟩=>by
  unfold Ic Ew;rw[h1,Ep]
  by_cases hl:lot=p.1
  ·rw[Au hl,AH hl]
   exact .inr ⟨p.2,y,by rw[h2];rfl,rfl,h3⟩
  ·rw[Av hl,AG hl]
   exact MQ.look lot h4
theorem MQ.set {B:Nat}(lot:List UInt8){r:Rat}{y:GF}(hr:FR r y B):∀ {q:BW} {m:DV},MQ B q m->MQ B (Gy lot r q) (Fx (sb lot) y.D m)
 | [],[],_=>⟨⟨rfl,y,rfl,hr⟩,trivial⟩
 |p::q,e::m,⟨⟨h1,y',h2,h3⟩,h4⟩=>by
  unfold Gy Fx;rw[h1,Ep]
  by_cases hl:lot=p.1
  ·rw[Au hl,AH hl]
   exact⟨⟨rfl,y,rfl,hr⟩,h4⟩
  ·rw[Av hl,AG hl]
   exact⟨⟨h1,y',h2,h3⟩,MQ.set lot hr h4⟩
theorem MQ.pure {B:Nat}:∀ {q:BW} {m:DV},MQ B q m->∀e∈m,CC e.2
 | [],[],_,e,he=>by cases he
 |p::q,e::m,⟨⟨_,y,h2,_⟩,h4⟩,x,hx=>by
  rcases Az.1 hx with rfl|hx
  ·rw[h2];exact AA.out
  ·exact MQ.pure h4 x hx
theorem MQ.mapD {B:Nat}{q:BW}{m:DV}(h:MQ B q m):CC (mapD m):=by
 refine CC.mp (λd hd=>?_) λd hd=>?_
 ·obtain⟨p,-,rfl⟩:=By.1 hd;exact AA.out
 ·obtain⟨p,hp,rfl⟩:=By.1 hd;exact h.pure p hp
def A0.ok (s:A0):Prop:=s.lot.length<=100000/\s.part.length<=40/\Cj s.part=0
def AE.ok (x:AE):Prop:=x.shs.length<=64/\Sm x.mass/\∀s∈x.shs,s.ok
def AE.okW (w:Nat)(x:AE):Prop:=x.shs.length<=64/\Sm x.mass/\∀s∈x.shs,s.lot.length<=100000/\s.part.length<=100000/\Cj s.part=0/\rk (Bd s.part) (w-2)
theorem OR (x:AE)(n:Nat)(q:BW){s:A0}(h:x.shs[n]?=some s):Gt x (n+1) q=KV s.lot (Bd s.part*(x.mass:Rat)) (Gt x n q):=by
 unfold Gt;rw[D8,h,List.foldl_append];rfl
theorem Qd (l:List AE)(n:Nat){x:AE}(h:l[n]?=some x):CJ (l.take (n+1))=Gt x x.shs.length (CJ (l.take n)):=by
 unfold CJ;rw[D8,h,List.foldl_append];rfl
theorem dB (w:Nat)(b:Bool)(l:List AE)(hl:l.length<=100)(hx:∀x∈l,x.okW w)(h2w:2<=w)(hw:w*(64*(l.length+1))<=100000):AZ C0 35 [Am b l] (λd=>∃m,d=mapD m/\MQ (w*(64*l.length)) (CJ l) m):=by
 refine AZ.walk w1 fX rfl λF0=>?_
 have el:(((l.map AE.D).length:Nat):Int)=(l.length:Int):=by rw[Ag]
 refine sZ 0 ?_;refine AD kB ?_;refine AC.seq ?_;refine IS (by kernel_rfl) ?_;change Bh _ _ _ _ _ [0,1] _ _;refine Bh.makeMap 100 rfl rfl rfl (WY F0) (λF1 it hto hO hr0 hnX hM=>?_);change Bh _ _ _ _ _ ([1]++[]) _ _;refine F5 w1 100 [1] [] ?_;refine AD kB ?_;refine Bh.nil ?_;refine AF ND el AB AB AB AB AB AB ?_;refine Gb (α:=Nat×DV×Obj×Nat) (λp=>⟨[(3,.prim (.map (some it))),(12,Am b l),(13,i64 (l.length:Int)),(14,i64 (p.1:Int))],[],p.2.2.2⟩) (λp=>l.length-p.1)
  (λp F=>p.1<=l.length/\DP C0 F0 F [⟨100,1,p.2.2.1⟩]/\F.r0 100 1=some it/\IH F p.2.2.1 p.2.1/\MQ (w*(64*p.1)) (CJ (l.take p.1)) p.2.1) (0,[],.map #[] 0,_) ⟨BU _,hO,hr0,hM,trivial⟩ AL ?_
 clear hO hr0 hM hto;rintro⟨i,m,o,n1⟩ F ⟨hi,hO,hr0,hM,hQ⟩;dsimp only at hi hO hr0 hM hQ⊢;rcases BA i l.length with h2|h2
 rotate_left
 ·have e1:=Cb h2
  have:i=l.length:=by omega
  subst this;rw[C6]at hQ;refine sZ 300 ?_;refine AD e1 ?_;refine AC.seq ?_;refine AN ?_;refine CK ?_;refine il [(3,mapD m)] hO hr0 hnX hM ⟨.inr ⟨rfl,rfl⟩,trivial⟩ (λF2 hto2 hO2=>?_);refine AF ND kB AB AB AB AB AB AB ?_;exact⟨mapD m,.refl _,hQ.mapD,m,rfl,hQ⟩
 have e1:=CZ h2;have wi:=Cc (i:=i) (by omega);obtain⟨x,hxi⟩:=CU h2;obtain⟨x1,x2,x3⟩:=hx x (Ay hxi);have hm:(l.map AE.D)[i]?=some (.agg [str (sb x.grain),i64 x.mass,.sl false 2 (x.shs.map A0.D)]):=by rw[A8,hxi];rfl
 have es:(((x.shs.map A0.D).length:Nat):Int)=(x.shs.length:Int):=by rw[Ag]
 refine AF ND (Ar e1 es kN) hm AB AB AB AB AB ?_;obtain⟨ga,hga⟩:∃g,n1+1+1+1=g:=⟨_,rfl⟩
 refine Gb (α:=Nat×DV×Obj×Nat) (λp=>⟨[(3,.prim (.map (some it))),(5,.optr 402 (n1+1+1+1) 3 0 0),(12,Am b l),(13,i64 (l.length:Int)),(14,i64 (i:Int)),(19,.sl false 2 (x.shs.map A0.D)),(20,i64 (x.shs.length:Int)),(21,i64 (p.1:Int))],[⟨402,n1+1+1+1,52,3,[.agg [str (sb x.grain),i64 x.mass,.sl false 2 (x.shs.map A0.D)]]⟩],p.2.2.2⟩) (λp=>x.shs.length-p.1)
  (λp F=>p.1<=x.shs.length/\DP C0 F0 F [⟨100,1,p.2.2.1⟩]/\F.r0 100 1=some it/\IH F p.2.2.1 p.2.1/\MQ (w*(64*i+p.1)) (Gt x p.1 (CJ (l.take i))) p.2.1) (0,m,o,_) ⟨BU _,hO,hr0,hM,hQ⟩ AL ?_
 clear hO hr0 hM hQ;rintro⟨j,m2,o2,n2⟩ F ⟨hj,hO,hr0,hM,hQ⟩;dsimp only at hj hO hr0 hM hQ⊢;rw[hga];rcases BA j x.shs.length with h3|h3
 rotate_left
 ·have e2:=Cb h3
  have:j=x.shs.length:=by omega
  subst this;rw[<-Qd l i hxi]at hQ;refine AF ND (Ab e2 wi) AB AB AB AB AB AB ?_;exact⟨(i+1,m2,o2,_),⟨h2,hO,hr0,hM,hQ.mono (Cr _ (by dsimp only;omega))⟩,by dsimp only;omega,AL⟩
 have e2:=CZ h3;have wj:=Cc (i:=j) (by omega);obtain⟨s,hsj⟩:=CU h3;obtain⟨s1,s2,s3,s4⟩:=x3 s (Ay hsj);have hms:(x.shs.map A0.D)[j]?=some (.agg [str (sb s.lot),str (sb s.part)]):=by rw[A8,hsj];rfl
 have hsn:=OR x j (CJ (l.take i)) hsj;have fP:FR (Bd s.part) (Gs s.part) (w-2):=⟨(R4 s3).is,s4⟩
 obtain⟨PW,hPW⟩:∃P,w*(64*i+j)=P:=⟨_,rfl⟩
 have hPW1:w*(64*i+(j+1))=PW+w:=by rw[<-hPW,<-E5,Nat.mul_succ]
 have hPWb:PW+w<=100000:=by
  rw[<-hPW1];exact BT (Cr _ (by omega)) hw
 rw[hPW]at hQ;have fM:FR ((x.mass:Int):Rat) ⟨AX x.mass,1⟩ 1:=Oy (by unfold Sm at x2;omega);have c1:=Rt s2 s3;have c2:=Po x.mass x2;have c3:=VB fP fM (by omega);have fZ:FR (Bd s.part*(x.mass:Rat)) (I5 (Gs s.part) ⟨AX x.mass,1⟩) (w-2+1):=U6 fP fM;obtain⟨z,hz⟩:∃z,I5 (Gs s.part) ⟨AX x.mass,1⟩=z:=⟨_,rfl⟩
 rw[hz]at c3 fZ;obtain⟨d1,hd1⟩:∃d,(Gs s.part).D=d:=⟨_,rfl⟩
 obtain⟨d2,hd2⟩:∃d,(⟨AX x.mass,1⟩:GF).D=d:=⟨_,rfl⟩
 have pd1:AA d1:=by rw[<-hd1];exact AI
 have pd2:AA d2:=by rw[<-hd2];exact AI
 rw[hd1]at c1 c3;rw[hd2]at c2 c3;refine sZ 600 ?_;refine AD e2 ?_;refine AC.seq ?_;refine AN ?_;refine Aj ?_;refine AC.seq ?_;refine AC.block ?_;refine sZ 700 ?_;refine Bw kT hms ?_;refine AD kB ?_;refine AC.seq ?_;refine CM 800 [0,1,2,3,4,5,6,7] [8] ?_;refine AD kB ?_;refine Bb.same _ (c1) AI ?_;refine BO ?_;refine AD kB ?_;refine Bb.same _ (c2) AI ?_;refine BO ?_;refine AD kB ?_;refine Bb.same _ (c3) AI ?_;refine BO ?_;refine AD kB ?_;refine AC.seq ?_;refine AC.seq ?_;refine IS (by kernel_rfl) ?_;change Bh _ _ _ _ _ ([0,1,2]++(3::([4,5,6,7,8,9]++[]))) _ _;refine F5 w1 900 [0,1,2] _ ?_;refine AD kB ?_;refine Bh.look (xo:=⟨100,1,o2⟩) (l:=m2) w1 rfl rfl rfl rfl rfl rfl hO CO hr0 hM ?_;rcases hQ.look s.lot with⟨q1,q2⟩|⟨r,y,q1,q2,q3⟩
 ·rw[Xo q1]
  refine F5 w1 900 [4,5,6,7,8,9] [] ?_;refine AD kB ?_;refine Bh.nil ?_;refine BJ ?_;refine sZ 1000 ?_;refine AD kB ?_;refine AN ?_;refine Aj ?_;refine IS (by kernel_rfl) ?_;change Bh _ _ _ _ _ ([0,1,2,3]++(4::[])) _ _;refine F5 w1 1200 [0,1,2,3] _ ?_;refine AD kB ?_;refine Bh.put (l:=m2) w1 rfl rfl rfl rfl rfl rfl hO hr0 hM (λF3 o3 hto3 hO3 hr3 hM3=>Bh.nil ?_);refine BJ ?_;have hQ2:MQ (w*(64*i+(j+1))) (Gt x (j+1) (CJ (l.take i))) (Fx (sb s.lot) z.D m2):=by
   rw[hsn,hPW1];unfold KV;rw[q2];exact MQ.set s.lot ⟨fZ.is,fZ.rk.mono (by omega)⟩ (hQ.mono (by omega))
  refine AF ND wj AB AB AB AB AB AB ?_;exact⟨(j+1,Fx (sb s.lot) z.D m2,o3,_),⟨h3,hO3,hr3,hM3,hQ2⟩,by dsimp only;omega,AL⟩
 ·rw[Xp q1]
  refine F5 w1 900 [4,5,6,7,8,9] [] ?_;refine AD kB ?_;refine Bh.nil ?_;have c4:=R7 fZ q3 (by omega);have fA:=RQ fZ q3;obtain⟨z2,hz2⟩:∃z2,KR z y=z2:=⟨_,rfl⟩
  rw[hz2]at c4 fA;refine BJ ?_;refine sZ 1000 ?_;refine AD kB ?_;refine AN ?_;refine Ao 1100 ?_;refine AD kB ?_;refine cI c4 ?_;refine AD kB ?_;refine IS (by kernel_rfl) ?_;change Bh _ _ _ _ _ ([0,1,2,3]++(4::[])) _ _;refine F5 w1 1200 [0,1,2,3] _ ?_;refine AD kB ?_;refine Bh.put (l:=m2) w1 rfl rfl rfl rfl rfl rfl hO hr0 hM (λF3 o3 hto3 hO3 hr3 hM3=>Bh.nil ?_);refine BJ ?_;have hQ2:MQ (w*(64*i+(j+1))) (Gt x (j+1) (CJ (l.take i))) (Fx (sb s.lot) z2.D m2):=by
   rw[hsn,hPW1];unfold KV;rw[q2];exact MQ.set s.lot ⟨fA.is,fA.rk.mono (by omega)⟩ (hQ.mono (by omega))
  refine AF ND wj AB AB AB AB AB AB ?_;exact⟨(j+1,Fx (sb s.lot) z2.D m2,o3,_),⟨h3,hO3,hr3,hM3,hQ2⟩,by dsimp only;omega,AL⟩
theorem AE.ok.w5 {x:AE}(h:x.ok):x.okW 5:=⟨h.1,h.2.1,λs hs=>by
 obtain⟨a,b,c⟩:=h.2.2 s hs;exact⟨a,by omega,c,TO c b⟩⟩
theorem iA (b:Bool)(l:List AE)(hl:l.length<=100)(hx:∀x∈l,x.ok):AZ C0 35 [Am b l] (λd=>∃m,d=mapD m/\MQ 32000 (CJ l) m):=
 (dB 5 b l hl (λx h=>(hx x h).w5) (by omega) (by omega)).mono λd ⟨m,h1,h2⟩=>⟨m,h1,h2.mono (by omega)⟩
theorem d8x:AK C0 36 [i64 0] (⟨AX 0,1⟩:GF).D:=iJ 0
def V6 (r:Rat):List UInt8:=if DF r=true then[]else An r
def V5 (r:Rat):Nat:=if DF r=true then 4 else 0
abbrev Uq:Dr:=[(6,[0,1,2,3,4,5,6,7],[8])]
open Go.Proofs Go.RowKit
set_option maxRecDepth 20000
set_option maxHeartbeats 8000000
theorem VS {l:List UInt8}(h:Cj l=0):rR (Bd l)=str (sb l):=by unfold rR;rw[(M0 h).2.2.1]
theorem zL (b1 b2:Bool)(L:List (List UInt8))(hl:L.length<=1000000):AK C0 15 [QP b1 L,QP b2 L] (Ai true):=by
 refine AZ.walk w1 yO rfl λF=>?_
 have el:(((L.map λl=>str (sb l)).length:Nat):Int)=(L.length:Int):=by rw[Ag]
 have e0:((L.length:Int) != (L.length:Int))=false:=zw rfl;refine AF Uq (Ab el e0) AB AB AB AB AB AB ?_;refine AC.loop (α:=Nat×Nat) (λp=>⟨[(0,QP b1 L),(1,QP b2 L),(5,i64 (p.1:Int))],[],p.2⟩) (λp=>L.length-p.1) (λp=>p.1<=L.length) (0,_) (BU _) AL ?_;rintro⟨i,m⟩ F hi;dsimp only at hi⊢;rcases BA i L.length with h2|h2
 ·have e1:=CZ h2
  have wi:=Cc (i:=i) (by omega);obtain⟨l,hl2⟩:=CU h2;have hm:(L.map λl=>str (sb l))[i]?=some (str (sb l)):=by rw[A8,hl2];rfl
  have hs:BI (sb l) (sb l)=true:=by rw[Ep];exact Au rfl
  refine AF Uq (CI e1 el wi hs kN) hm AB AB AB AB AB ?_;exact⟨(i+1,_),h2,by dsimp only;omega,AL⟩
 ·have e1:=Cb h2
  refine AF Uq (Ab e1 el) AB AB AB AB AB AB ?_;exact AJ rfl AA.out
theorem YH (n:Nat):DR (Lib.decDigits n)=true:=by
 obtain⟨h1,h2,h3⟩:=Eu n;rcases ED n with h|h
 ·have e:Lib.decDigits n=[48]:=by
   have:=ZU 0
   rw[h];exact DJ (this.trans (Au rfl))
  rw[e];rfl
 ·obtain⟨c,l,e,hc⟩:=oA (Nat.pos_iff_ne_zero.1 h)
  rw[e]at h1⊢;unfold DR LO;rw[h1];simp[hc]
theorem VJ {n:Nat}{l:List UInt8}(h:n≠dv l):decide (Lib.decDigits n=l)=false:=Av λe=>h (by rw[<-e,(Eu n).2.1])
theorem oz {r:Rat}(h:DF r=false):Cj (An r)=0:=by
 have hs:B9 (An r)=Lib.decDigits r.num.natAbs:=by unfold B9;rw[NI,(M6 _).2]
 have hd:=MG r;have hh:=O7 r;unfold DF at h;simp only[I8,IT]at h;have hb:J7 (An r)=false:=by
  rw[Qa,hs,Uo,hh,YH];have e1:(decide (r.num<0)&&decide (Lib.decDigits r.num.natAbs=[48]))=false:=by
   by_cases g:r.num<0
   ·rw[VJ (show r.num.natAbs≠dv [48] by show r.num.natAbs≠0;omega),Bool.and_false]
   ·rw[Av g,Hx]
  rw[e1]
  by_cases g:r.den=1
  ·rw[Au g];rfl
  ·rw[hd,AG g,YH,VJ (show r.den≠dv [48]from r.den_nz),VJ (show r.den≠dv [49]from g),Av g];rfl
 unfold Cj;rw[hb,AG (by decide),hs]
 by_cases g:r.den=1
 ·rw[hd,AH g,hh,Au g,AG (by simp;omega),AG (λk=>Af k.1 (by decide))]
 ·rw[hd,AG g,(Eu _).2.1,(Eu _).2.1,CR,AG (λk=>k.2 r.reduced)]
theorem YV (r:Rat):Bd (An r)=r:=by
 unfold Bd HM;rw[NI,aE,O7,MG]
 by_cases g:r.den=1
 ·rw[Au g]
  show mkRat r.num 1=r;rw[<-g];exact Rat.mkRat_self r
 ·rw[Av g,AG g,(Eu _).2.1]
  exact Rat.mkRat_self r
theorem qI:rR 0=str ⟨#[48]⟩:=by
 have h:Bd [48]=0:=by kernel_rfl
 rw[<-h,VS (by kernel_rfl)];all_goals rfl
theorem kw (r:Rat):BI (sb (An r)) ⟨#[49]⟩=decide (r=1):=by
 have h1:Bd [49]=1:=by kernel_rfl
 have e:(⟨#[49]⟩:ByteArray)=sb [49]:=rfl;rw[e,Ep,DA];constructor
 ·intro h
  rw[<-YV r,h,h1]
 ·intro h
  rw[h]
  have:=(M0 (l:=[49]) (by kernel_rfl)).2.2.1
  rwa [h1]at this
end Go.Ide
namespace Go.Proofs
open Go.Shelf Go.RowKit Go.Lib Go.Sort
open Tryz
theorem Ck {o:Option Func}{a b:Func}(h:o=some a)(k:a=b:=by kernel_rfl):o=some b:=h.trans (congrArg some k)
def Tryz.sortAmounts_ren:Go.Shelf.Ren:=⟨fun|6=>100|15=>142|14=>141|28=>202|29=>168|20=>194|21=>195|22=>196|23=>197|24=>198|25=>199|26=>200|27=>201|46=>235|47=>236|48=>237|49=>238|50=>239|57=>273|n=>n,fun|22=>47|24=>68|25=>145|3=>3|39=>187|0=>0|53=>241|55=>172|4=>4|46=>234|45=>233|50=>238|5=>5|9=>9|66=>265|70=>269|76=>293|77=>42|n=>n,fun|n=>n⟩
theorem e0v:Go.Proofs.SlLaysF0.n6 Tryz.prog Tryz.sortAmounts_ren:={
 mixed:=by kernel_rfl
 f6:=⟨Tryz.f100.name,by decide,Ck func100⟩
 f14:=⟨Tryz.f141.name,by decide,Ck func141⟩
 f15:=Ck func142
 f20:=⟨Tryz.f194.name,by decide,Ck func194⟩
 f21:=⟨Tryz.f195.name,by decide,Ck func195⟩
 f22:=⟨Tryz.f196.name,by decide,Ck func196⟩
 f23:=⟨Tryz.f197.name,by decide,Ck func197⟩
 f24:=⟨Tryz.f198.name,by decide,Ck func198⟩
 f25:=⟨Tryz.f199.name,by decide,Ck func199⟩
 f26:=⟨Tryz.f200.name,by decide,Ck func200⟩
 f27:=⟨Tryz.f201.name,by decide,Ck func201⟩
 f28:=Ck func202
 f29:=Ck func168
 f46:=⟨Tryz.f235.name,by decide,Ck func235⟩
 f47:=Ck func236
 f48:=Ck func237
 f49:=⟨Tryz.f238.name,by decide,Ck func238⟩
 f50:=⟨Tryz.f239.name,by decide,Ck func239⟩
 f57:=⟨Tryz.f273.name,by decide,Ck func273⟩
 t0:=underlying0
 a0:=isAgg0
 z0:=sizeOf0
 v0:=zeroValue0
 t3:=underlying3
 a3:=isAgg3
 z3:=sizeOf3
 v3:=zeroValue3
 t4:=underlying4
 a4:=isAgg4
 z4:=sizeOf4
 v4:=zeroValue4
 t5:=underlying5
 a5:=isAgg5
 z5:=sizeOf5
 v5:=zeroValue5
 t9:=underlying9
 a9:=isAgg9
 z9:=sizeOf9
 v9:=zeroValue9
 t22:=underlying47
 a22:=isAgg47
 z22:=sizeOf47
 v22:=zeroValue47
 t25:=underlying145
 a25:=isAgg145
 z25:=sizeOf145
 v25:=zeroValue145
 t39:=underlying187
 a39:=isAgg187
 z39:=sizeOf187
 v39:=zeroValue187
 t45:=underlying233
 a45:=isAgg233
 z45:=sizeOf233
 v45:=zeroValue233
 t46:=underlying234
 a46:=isAgg234
 z46:=sizeOf234
 v46:=zeroValue234
 t50:=underlying238
 a50:=isAgg238
 z50:=sizeOf238
 v50:=zeroValue238
 t53:=underlying241
 a53:=isAgg241
 z53:=sizeOf241
 v53:=zeroValue241
 t55:=underlying172
 a55:=isAgg172
 z55:=sizeOf172
 v55:=zeroValue172
 t66:=underlying265
 a66:=isAgg265
 z66:=sizeOf265
 v66:=zeroValue265
 t70:=underlying269
 a70:=isAgg269
 z70:=sizeOf269
 v70:=zeroValue269
 t76:=underlying293
 a76:=isAgg293
 z76:=sizeOf293
 v76:=zeroValue293
 t77:=underlying42
 a77:=isAgg42
 z77:=sizeOf42
 v77:=zeroValue42 }
end Go.Proofs
namespace Go.Ide
open Go.Proofs Go.RowKit Go.Sort
set_option maxRecDepth 20000
def Bu (p:List UInt8×Rat):D:=.agg [str (sb p.1),str (sb (An p.2))]
instance d7O (p:List UInt8×Rat):AO (Bu p):=by unfold Bu;exact AI
instance d7P (p:List UInt8×Rat):AA (Bu p):=by unfold Bu;exact AI
def LP (p:List UInt8×Rat):List Value:=[.string (sb p.1),.string (sb (An p.2))]
def IM (x y:List UInt8):Int:=if x<y then -1 else if y<x then 1 else 0
theorem Q3 (x y:List UInt8×Rat):ltOf (λx y:List UInt8×Rat=>IM x.1 y.1) x y=ltStr x.1 y.1:=by
 unfold ltOf IM ltStr
 by_cases h:x.1<y.1
 ·simp[h]
 ·by_cases h2:y.1<x.1<;>simp[h,h2]
theorem d9p:SWO (ltOf (λx y:List UInt8×Rat=>IM x.1 y.1)) where
 irrefl x:=by rw[Q3];exact swo_ltStr.irrefl _
 trans x y z h1 h2:=by rw[Q3]at*;exact swo_ltStr.trans _ _ _ h1 h2
 ntrans x y z h1 h2:=by rw[Q3]at*;exact swo_ltStr.ntrans _ _ _ h1 h2
set_option maxHeartbeats 1000000 in
theorem m8 (x:ByteArray)(W:World):Calls Tryz.prog 143 #[.string x] W λe w'=>e=.returned (.bool false)/\w'=W:=by
 go_enter Tryz.func143,Tryz.ntmps143
 go_wp2
 go_ret
 exact⟨by simp,rfl⟩
theorem YX (x:List UInt8):(sb x).toList=x:=by rw[Lib.toList_data]
set_option maxHeartbeats 1000000 in
theorem jy (x y:List UInt8)(W:World):Calls Tryz.prog 102 #[.string (sb x),.string (sb y)] W λe w'=>e=.returned (.int .i64 (IM x y))/\w'=W:=by
 go_enter Tryz.func102,Tryz.ntmps102
 go_wp2_with (go_at_call 143;refine(m8 _ _).mono ?_;rintro e w' ⟨rfl,hw⟩;rw[hw])
 all_goals go_ret
 all_goals(refine⟨?_,rfl⟩)
 ·have h:Op.bytesLess x y=true:=by assumption
  rw[bytesLess_eq,G4]at h;unfold IM;rw[AH h];rfl
 ·have h:Op.bytesLess x y=false:=by assumption
  have h2:(!x==y)=true:=by assumption
  rw[bytesLess_eq,IT]at h;have h3:y<x:=DB λq=>by
   have:=List.le_antisymm (List.not_lt.1 q) (List.not_lt.1 h)
   simp[this]at h2
  unfold IM;rw[AG h,AH h3];rfl
 ·have h:Op.bytesLess x y=false:=by assumption
  have h2:(!x==y)=false:=by assumption
  rw[bytesLess_eq,IT]at h;have h3:¬y<x:=λq=>by
   have:x=y:=by simpa using h2
   rw[this]at q;exact List.lt_irrefl _ q
  unfold IM;rw[AG h,AG h3];rfl
set_option maxHeartbeats 1000000 in
theorem jx (x y:List UInt8×Rat)(W:World):Calls Tryz.prog 101 #[.agg (LP x).toArray,.agg (LP y).toArray] W λe w'=>e=.returned (.int .i64 (IM x.1 y.1))/\∃q os',w'=grow (W.drewN q) os':=by
 have hcon:=jy x.1 y.1;unfold LP;generalize IM x.1 y.1=r at hcon⊢;generalize sb x.1=a at hcon⊢;generalize sb y.1=b at hcon⊢;generalize sb (An x.2)=c;generalize sb (An y.2)=d
 go_enter Tryz.func101,Tryz.ntmps101
 go_wp2_with (go_at_call 102;refine(hcon _).mono ?_;rintro e w' ⟨rfl,rfl⟩)
 go_ret
 exact⟨rfl,0,_,by rw[alloc_eq_grow,alloc_eq_grow,grow_grow];rfl⟩
theorem szA:(Tryz.prog.info? 68).map (λi=>i.size)=some 2:=by kernel_rfl
theorem jK:Ir Tryz.prog 68=true:=by kernel_rfl
theorem unA:(Tryz.prog.underlying 68).isSome=true:=by kernel_rfl
theorem zM (w:World):(Go.sizeOf 68).run Tryz.prog w=.ok 2 w:=by
 obtain⟨i,h1,h2⟩:=Er.1 szA;rw[HC h1,h2]
theorem zt (w:World):(isAgg 68).run Tryz.prog w=.ok true w:=by
 obtain⟨u,h1⟩:=Option.isSome_iff_exists.1 unA;rw[Qo h1,jK]
theorem wA:ad Tryz.prog 100 101 LP 2 (ltOf λx y:List UInt8×Rat=>IM x.1 y.1):=λblk cap d w hH hb hd=>
 AnyQ.slices_SortFunc e0v 2 zt zM LP (λ_=>rfl) (λx v hv=>by simp[LP]at hv;rcases hv with rfl|rfl<;>rfl)
  (λx y=>IM x.1 y.1) d9p 101 #[] blk 0 cap d w (enters_of Tryz.func101 (by kernel_rfl) rfl) (λ_ _ _ _ x y=>jx x y _) hH hb hd
theorem jc (l:List (List UInt8×Rat))(hl0:l≠[])(hl:l.length<4611686018427387904)(kb gg:Nat)(H:Hp)(n:Nat):
  Ct C0 100 [.osl kb gg 2 0 l.length,.clo (.func 101) [] []] (⟨kb,gg,68,2,l.map Bu⟩::H) n
   (λd H' n'=>d=.tup []/\n'=n+1/\∃l':List (List UInt8×Rat),l'.Perm l/\l'.Pairwise (λa b=>ltStr b.1 a.1=false)/\H'=⟨kb,gg,68,2,l'.map Bu⟩::H):=
 (mz (C:=C0) (f:=100) (g:=101) (enc:=LP) (k:=2) (toD:=Bu) (lt:=ltOf λx y:List UInt8×Rat=>IM x.1 y.1) (by obtain⟨fn,a1,a2,a3,-⟩:=av;exact⟨fn,_,a1,a2,a3⟩) (by decide) (λ_=>rfl) (λx v hv=>by simp[LP]at hv;rcases hv with rfl|rfl<;>rfl) (λx=>rfl) wA l hl0 hl kb gg _ H n).mono λd H' n' ⟨h1,h2,l',h3,h4,h5⟩=>
  ⟨h1,h2,l',h3,h4.imp λh=>by rw[Q3]at h;exact h,h5⟩
theorem nA:AK C0 100 [CS,.clo (.func 101) [] []] (.tup []):=CV Dv 400 40
end Go.Ide
namespace Go.Proofs
open Go.Shelf Go.RowKit Go.Lib Go.Sort
open Tryz
def Tryz.sortedZ_ren:Go.Shelf.Ren:=⟨fun|6=>104|8=>145|9=>146|11=>203|13=>142|12=>204|23=>202|24=>168|14=>240|15=>241|16=>242|17=>243|18=>244|19=>245|20=>246|21=>247|22=>248|25=>274|26=>236|27=>237|28=>275|29=>276|30=>143|31=>286|n=>n,fun|26=>9|28=>150|24=>147|0=>0|3=>3|37=>187|48=>241|50=>172|4=>4|40=>234|39=>233|45=>238|5=>5|9=>9|51=>265|55=>269|57=>293|58=>42|33=>78|n=>n,fun|n=>n⟩
theorem e0x:Go.Proofs.SlLaysZ.n6 Tryz.prog Tryz.sortedZ_ren:={
 mixed:=by kernel_rfl
 f6:=⟨Tryz.f104.name,by decide,Ck func104⟩
 f8:=⟨Tryz.f145.name,by decide,Ck func145⟩
 f11:=⟨Tryz.f203.name,by decide,Ck func203⟩
 t0:=underlying0
 a0:=isAgg0
 z0:=sizeOf0
 v0:=zeroValue0
 t24:=underlying147
 a24:=isAgg147
 z24:=sizeOf147
 v24:=zeroValue147
 t26:=underlying9
 a26:=isAgg9
 z26:=sizeOf9
 v26:=zeroValue9
 t28:=underlying150
 a28:=isAgg150
 z28:=sizeOf150
 v28:=zeroValue150
 i26:=by kernel_rfl }
open Tryz
def Tryz.keysZ_ren:Go.Shelf.Ren:=⟨fun|10=>147|n=>n,fun|33=>78|23=>85|0=>0|4=>4|26=>9|3=>83|n=>n,fun|n=>n⟩
theorem e0u:Go.Proofs.SlLaysZ.n10 Tryz.prog Tryz.keysZ_ren:={
 mixed:=by kernel_rfl
 f10:=⟨Tryz.f147.name,by decide,Ck func147⟩
 t0:=underlying0
 a0:=isAgg0
 z0:=sizeOf0
 v0:=zeroValue0
 t4:=underlying4
 a4:=isAgg4
 z4:=sizeOf4
 v4:=zeroValue4
 t23:=underlying85
 a23:=isAgg85
 z23:=sizeOf85
 v23:=zeroValue85
 t26:=underlying9
 a26:=isAgg9
 z26:=sizeOf9
 v26:=zeroValue9
 t33:=underlying78
 a33:=isAgg78
 z33:=sizeOf78
 v33:=zeroValue78 }
open Tryz
def Tryz.sortM_ren:Go.Shelf.Ren:=⟨fun|6=>146|8=>142|9=>204|19=>202|20=>168|21=>240|22=>241|23=>242|24=>243|25=>244|26=>245|27=>246|28=>247|29=>248|36=>274|31=>236|32=>237|37=>275|38=>276|39=>143|41=>286|n=>n,fun|27=>147|29=>9|3=>3|32=>187|26=>147|0=>0|44=>241|46=>172|4=>4|36=>234|35=>233|41=>238|5=>5|9=>9|53=>265|57=>269|63=>293|64=>42|n=>n,fun|n=>n⟩
theorem io:Go.Proofs.SlLaysM.n6 Tryz.prog Tryz.sortM_ren:={
 mixed:=by kernel_rfl
 f6:=⟨Tryz.f146.name,by decide,Ck func146⟩
 f8:=Ck func142
 f9:=⟨Tryz.f204.name,by decide,Ck func204⟩
 f19:=Ck func202
 f20:=Ck func168
 f21:=⟨Tryz.f240.name,by decide,Ck func240⟩
 f22:=⟨Tryz.f241.name,by decide,Ck func241⟩
 f23:=⟨Tryz.f242.name,by decide,Ck func242⟩
 f24:=⟨Tryz.f243.name,by decide,Ck func243⟩
 f25:=⟨Tryz.f244.name,by decide,Ck func244⟩
 f26:=⟨Tryz.f245.name,by decide,Ck func245⟩
 f27:=⟨Tryz.f246.name,by decide,Ck func246⟩
 f28:=⟨Tryz.f247.name,by decide,Ck func247⟩
 f29:=⟨Tryz.f248.name,by decide,Ck func248⟩
 f31:=Ck func236
 f32:=Ck func237
 f36:=⟨Tryz.f274.name,by decide,Ck func274⟩
 f37:=⟨Tryz.f275.name,by decide,Ck func275⟩
 f38:=⟨Tryz.f276.name,by decide,Ck func276⟩
 f39:=⟨Tryz.f143.name,by decide,Ck func143⟩
 f41:=⟨Tryz.f286.name,by decide,Ck func286⟩
 t0:=underlying0
 a0:=isAgg0
 z0:=sizeOf0
 v0:=zeroValue0
 t3:=underlying3
 a3:=isAgg3
 z3:=sizeOf3
 v3:=zeroValue3
 t4:=underlying4
 a4:=isAgg4
 z4:=sizeOf4
 v4:=zeroValue4
 t5:=underlying5
 a5:=isAgg5
 z5:=sizeOf5
 v5:=zeroValue5
 t9:=underlying9
 a9:=isAgg9
 z9:=sizeOf9
 v9:=zeroValue9
 t26:=underlying147
 a26:=isAgg147
 z26:=sizeOf147
 v26:=zeroValue147
 t27:=underlying147
 a27:=isAgg147
 z27:=sizeOf147
 v27:=zeroValue147
 t29:=underlying9
 a29:=isAgg9
 z29:=sizeOf9
 v29:=zeroValue9
 t32:=underlying187
 a32:=isAgg187
 z32:=sizeOf187
 v32:=zeroValue187
 t35:=underlying233
 a35:=isAgg233
 z35:=sizeOf233
 v35:=zeroValue233
 t36:=underlying234
 a36:=isAgg234
 z36:=sizeOf234
 v36:=zeroValue234
 t41:=underlying238
 a41:=isAgg238
 z41:=sizeOf238
 v41:=zeroValue238
 t44:=underlying241
 a44:=isAgg241
 z44:=sizeOf241
 v44:=zeroValue241
 t46:=underlying172
 a46:=isAgg172
 z46:=sizeOf172
 v46:=zeroValue172
 t53:=underlying265
 a53:=isAgg265
 z53:=sizeOf265
 v53:=zeroValue265
 t57:=underlying269
 a57:=isAgg269
 z57:=sizeOf269
 v57:=zeroValue269
 t63:=underlying293
 a63:=isAgg293
 z63:=sizeOf293
 v63:=zeroValue293
 t64:=underlying42
 a64:=isAgg42
 z64:=sizeOf42
 v64:=zeroValue42 }
theorem e0z (m:Nat):AnyZ.SortsIn Tryz.prog Tryz.sortedZ_ren Fence.wide m:=
 ⟨λblk off cap ss W hH hblk hsz=>callsIn_wide.2 (AnyM.slices_Sort_string io blk off cap ss W hH hblk hsz),
  λp cap W=>callsIn_wide.2 (AnyM.slices_Sort_string_none io p cap W)⟩
theorem e0y {H:Type}(Bm b nn:Nat)(D0:DataW H){R:Value->Option (DataW H×List MemPlace)}(w:World)(hBm:Bm<w.heap.size)
  (hm:w.cell? ⟨Bm,0,none⟩=some (.map (some b))) (hown:w.ownsMap Tryz.prog 9 R b nn D0) (hN:Maps.size D0<=10000):
  Calls Tryz.prog 104 #[.func (.func 147) #[] #[.pointer (some ⟨Bm,0,none⟩)]] w λe w'=>∃(v:Value) (ss:List (List UInt8)),e=.returned v/\ss.Perm (strKeys D0) /\
   w'.ownsRow w.heap.size 9 1 v ss.length ((ss.mergeSort (λx y=>decide (x<=y))).map encStr)/\Below w.heap.size w w':=
 (callsIn_wide.1 (AnyZ.sorted_in e0x Fence.wide 6 trivial trivial trivial trivial rfl (by omega) (e0z _) (enters_of Tryz.func146 (by kernel_rfl) rfl) 147 _ trivial (enters_of Tryz.func147 (by kernel_rfl) rfl) _ _ (Nat.le_trans hN (by decide)) (by omega) w
  (AnyZ.keys_gives e0u Fence.wide _ trivial rfl (by omega) Bm b nn D0 w hBm hm hown))).mono λe w' ⟨v,ss,h1,h2,h3,_,h5⟩=>⟨v,ss,h1,h2,h3,h5⟩
end Go.Proofs
namespace Go.Ide
open Go.Proofs Go.RowKit Go.Sort
set_option maxRecDepth 20000
def PX (ks:List (List UInt8)):List (List UInt8):=ks.mergeSort λx y=>decide (x<=y)
theorem aB (k:List UInt8)(hb:k.length<=maxLen):keyOf Tryz.prog 9 (encStr k)=some (.string k):=by
 simp[keyOf,mapKey,hb,ByteArray.size,encStr]
theorem jd {H:Type}{R:Value->Option (DataW H×List MemPlace)}{z:DataW H}(hR:∀v,R v=some (z,[]))(es:List MapEntry)(ks:List (List UInt8))(hk:es.map (·.key)=ks.map encStr)(hb:∀k∈ks,k.length<=maxLen):
  (strKeys (DataW.map ((es.map (WideElems.rg Tryz.prog 9 R)).foldr DataW.insert []))).Perm ks:=by
 show(((es.map (WideElems.rg Tryz.prog 9 R)).foldr DataW.insert []).map λp=>strOf p.1).Perm ks;refine((WideShapes.sorted_perm _).map _).trans ?_;rw[List.map_map]
 have:es.map ((λp:Lit×DataW H=>strOf p.1) ∘ WideElems.rg Tryz.prog 9 R)=ks:=by
  induction es generalizing ks with
  |nil=>
   cases ks with
   |nil=>rfl
   |cons a l=>simp at hk
  |cons e es ih=>
   cases ks with
   |nil=>simp at hk
   |cons k ks=>
    simp only[Cs,Fg]at hk;rw[Cs,ih ks hk.2 λk h=>hb k (CT _ h)]
    congr 1
    have h1:=aB k (hb k CO);rw[<-hk.1]at h1;show strOf ((WideElems.rd Tryz.prog 9 R e).getD _).1=k;unfold WideElems.rd;rw[h1,hR];rfl
 rw[this]
theorem GP (l:DV)(ks:List (List UInt8))(hks:l.map (·.1)=ks.map sb)(hl:l.length<=10000)(hb:∀k∈ks,k.length<=1000)(hnd:ks.Nodup)(kb g T:Nat)(H:Hp)(n:Nat):
  Ct C0 104 [.clo (.func 147) [] [.optr kb g 1 0 0]] (⟨kb,g,T,1,[mapD l]⟩::H) n
   (λd H' n'=>d=.sl false 1 ((PX ks).map λx=>str (sb x))/\H'=⟨kb,g,T,1,[mapD l]⟩::H/\n'=n+1):=by
 refine⟨by obtain⟨fn,a1,a2,a3,-⟩:=ax;exact⟨fn,_,a1,a2,a3⟩,λF ρ w vs m fr gn hsz rep=>?_⟩;obtain⟨v0,rfl⟩:∃v0,vs = #[v0]:=by
  match vs,hsz with
  |⟨[a]⟩,_=>exact⟨a,rfl⟩
 have r0:AV ρ _ w (.clo _ [] [.optr kb g 1 0 0]) v0:=rep 0 _ rfl;cases r0 with
 |clo hf1 hc1 _ h2=>
  rename_i fs cs1 _;simp at hf1 hc1;subst hf1;obtain⟨c,rfl⟩:∃c,cs1 = #[c]:=by
   match cs1,hc1 with
   |⟨[a]⟩,_=>exact⟨a,rfl⟩
  have r1:AV ρ _ w (.optr kb g 1 0 0) c:=h2 0 _ rfl;cases r1 with
  |optr hr=>
   rename_i b;have hent:∃cs,w.heap[b]?=some (.cells cs T (0,0))/\DY ρ (AM F.X ρ (⟨kb,g,T,1,[mapD l]⟩::H)) w ⟨kb,g,T,1,[mapD l]⟩ cs:=by
    rcases m.hok.ent _ CO with⟨h,h2⟩|⟨b2,cs2,a1,a2,a3⟩
    ·exact Af (hr.symm.trans h2) (by simp)
    ·cases hr.symm.trans a1;exact⟨cs2,a2,a3⟩
   obtain⟨cs,hcb,hok⟩:=hent;have hlt:b<w.heap.size:=m.lt CO hr;have hr0:=hok.rep 0 (mapD l) 0 (mapD l) rfl rfl;have h9:1<=cs.size:=by simpa using hok.len
   have hcs:0<cs.size:=h9;rw[At,B3 (by simpa using hcs)]at hr0;simp only[HS,Dq,IZ]at hr0;obtain⟨v,hv⟩:∃v,cs[0]=v:=⟨_,rfl⟩
   rw[hv]at hr0;unfold mapD at hr0;cases hr0 with
   |mp hO hrl hb3 h1 h2 hBo hk hvv=>
    rename_i r clock es;rw[Ag]at h1;have hkey:es.toList.map (·.key)=ks.map encStr:=by
     apply QE;intro i;rw[A8,A8];have hli:=congrArg (λq=>q[i]?) hks;simp only[A8]at hli;rcases BA i l.length with hi|hi
     ·have hd:=hk i (.prim (.string l[i].1)) (by rw[A8,Bo hi];rfl)
      rw[Bo hi]at hli;obtain⟨kk,hkk,hkk2⟩:=Er.1 hli.symm;have hi2:i<es.size:=by omega
      rw[At,B3 hi2]at hd;rw[hkk,Jo,B3 hi2];simp only[Jm,BL,IZ]at hd⊢;generalize es[i].key=kv at hd;cases hd;have h8:sb kk=l[i].1:=hkk2;rw[<-h8]
     ·have h5:ks.length=l.length:=by have:=congrArg List.length hks;simpa using this.symm
      rw[Dy (by simp;omega),Dy (by omega)];rfl
    have hkn:(es.toList.map (·.key)).Nodup:=by
     rw[hkey];exact List.pairwise_map.2 (hnd.imp λh q=>h (encStr_inj q))
    have hbm:∀k∈ks,k.length<=maxLen:=λk h=>BT (hb k h) (by decide)
    let R:Value->Option (DataW Unit×List MemPlace):=λ_=>some (.nil,[])
    have hown:w.ownsMap Tryz.prog 9 R r es.size (.map ((es.toList.map (WideElems.rg Tryz.prog 9 R)).foldr DataW.insert [])):=by
     refine⟨es,clock,hb3,⟨BT (by omega:es.size<=10000) (by decide),⟨λx hx=>?_,hBo.nodup,hkn⟩,λx hx=>?_⟩,Al _,rfl⟩
     ·obtain⟨j,hj⟩:=Lh.1 hx
      exact hBo.1 j x (by simpa using hj)
     ·have:x.key∈es.toList.map (·.key):=List.mem_map_of_mem hx
      rw[hkey]at this;obtain⟨k,hk1,hk2⟩:=By.1 this;have h1:=aB k (hbm k hk1);rw[hk2]at h1;exact⟨_,by unfold WideElems.rd;rw[h1];rfl⟩
    have hsk:=jd (H:=Unit) (R:=R) (z:=.nil) (λ_=>rfl) es.toList ks hkey hbm;have hcell:w.cell? ⟨b,0,none⟩=some (.map (some r)):=by
     unfold World.cell?;simp only[hcb];rw[B3 hcs,hv];rfl
    have hsize:Maps.size (DataW.map ((es.toList.map (WideElems.rg Tryz.prog 9 R)).foldr DataW.insert []))<=10000:=by
     rw[Maps.size_eq,(WideShapes.sorted_perm _).length_eq,Ag,IW];omega
    refine(e0y b r es.size _ w hlt hcell hown hsize).mono ?_;rintro e w' ⟨v,ss,rfl,hp,hrow,hbw⟩;have hss:ss.mergeSort (λx y=>decide (x<=y))=PX ks:=mergeSort_of_perm (hp.trans hsk);rw[hss]at hrow;have x:BX ρ (AM F.X ρ (⟨kb,g,T,1,[mapD l]⟩::H)) w ρ (AM F.X ρ (⟨kb,g,T,1,[mapD l]⟩::H)) w':=⟨hbw.size,λ_ _ _ h=>h,λb hb' hO=>⟨hO,hbw.block b hb'⟩,λb cs T fz hh=>⟨cs,_,by
     rw[hbw.block b (C7.1 hh).1];exact hh,rfl⟩⟩
    refine⟨v,_,_,n+1,ρ,rfl,⟨rfl,rfl,rfl⟩,m.same x hbw.os hbw.tape hbw.output hbw.block,x,λa b h=>fr a b (by omega),λe he=>Dc (gn e he),?_⟩;obtain⟨K,hK⟩:∃K,PX ks=K:=⟨_,rfl⟩
    rw[hK]at hrow⊢;obtain⟨hlen,⟨rfl,hz⟩|⟨gb,cap,cur,rfl,hbase,hgb,q1,q2,q3,q4⟩⟩:=hrow
    ·rw[hz,Ag]at hlen
     have:K=[]:=List.length_eq_zero_iff.1 (by omega)
     rw[this];exact .nil 1
    ·rw[Ag,EO]at hlen
     rw[EO]at q3 q4;have hat:∀j x,K[j]?=some x->cur[j]?=some (Value.string (sb x)):=λj x hx=>by
      have hj:j<K.length:=(BQ.1 hx).1
      have:=congrArg (λq=>q[j]?) q4
      simp only[FP,A8,hx,Jm]at this;rw[DQ]at this;simpa using this
     have hall:∀j,j<ss.length*1->∃x,cur[j]?=some (Value.string (sb x)):=λj hj=>by
      have:j<K.length:=by omega
      exact⟨_,hat j _ (Bo this)⟩
     refine .sl (λj=>cur.getD j undef) (by rw[Ag,hlen]) q1 ?_ (C7.1 hgb).1 ?_ ?_ ?_ ?_
     ·rintro(h|⟨e,he,h⟩)
      ·have:=m.xlt _ h;have:=m.size;omega
      ·have:=m.lt he h;omega
     ·intro i e h
      rw[A8]at h;obtain⟨x,-,rfl⟩:=Er.1 h;rfl
     ·intro j hj
      obtain⟨x,hx⟩:=hall j hj;unfold World.cell?;simp only[hgb,BZ];rw[hx,At,hx];rfl
     ·intro j hj
      obtain⟨x,hx⟩:=hall j hj;rw[At,hx];rfl
     ·intro i e j d h h2
      rw[A8]at h;obtain⟨x,hx,rfl⟩:=Er.1 h
      have:j=0:=by
       have:=(BQ.1 h2).1
       exact Nat.lt_one_iff.1 this
      subst this;cases h2;show AV _ _ _ _ (cur.getD (i*1+0) undef);rw[EO,Dq,At,hat i x hx];exact .prim _
end Go.Ide
namespace Go.Ide
open Go.Proofs Go.RowKit Go.Sort
set_option maxRecDepth 20000
set_option maxHeartbeats 4000000
def qv (q:BW)(j:Nat):List UInt8×Rat:=q.getD j ([],0)
theorem Vx {q:BW}{j:Nat}{p:List UInt8×Rat}(h:q[j]?=some p):qv q j=p:=by unfold qv;rw[Do,h];rfl
theorem MQ.len {B:Nat}:∀ {q:BW} {m:DV},MQ B q m->q.length=m.length
 | [],[],_=>rfl
 |_::_,_::_,⟨_,h⟩=>by simp[MQ.len h]
theorem MQ.at_ {B:Nat}:∀ {q:BW} {m:DV} (j:Nat) {e:ByteArray×D},MQ B q m->m[j]?=some e->∃(p:List UInt8×Rat) (y:GF),q[j]?=some p/\e=(sb p.1,y.D)/\FR p.2 y B
 | [],[],j,e,_,h=>by simp at h
 |p::q,e'::m,0,e,⟨⟨h1,y,h2,h3⟩,_⟩,h=>by
  simp at h;subst h;exact⟨p,y,rfl,by rw[<-h1,<-h2],h3⟩
 |_::q,_::m,j+1,e,⟨_,h4⟩,h=>by
  obtain⟨p,y,a,b,c⟩:=MQ.at_ j h4 (by simpa using h);exact⟨p,y,by simpa using a,b,c⟩
theorem T6:∀(n:Nat) (l:List Nat),l.Nodup->(∀i∈l,i<n)->l.length<=n
 | 0,[],_,_=>Al _
 | 0,a::l,_,h=>Af (h a (by simp)) (FN a)
 |n+1,l,hd,h=>by
  by_cases hn:n∈l
  ·have h1:=T6 n (l.erase n) (hd.erase n) λi hi=>by
    have h2:=h i (List.mem_of_mem_erase hi);have h3:i≠n:=(hd.mem_erase_iff.1 hi).1;omega
   rw[List.length_erase_of_mem hn]at h1;omega
  ·have h1:=T6 n l hd λi hi=>by
    have h2:=h i hi;have h3:i≠n:=λe=>hn (e ▸ hi)
    omega
   omega
def F3 (q:BW):BW:=q.mergeSort λa b=>!ltStr b.1 a.1
theorem Ku (q:BW):(F3 q).Perm q:=List.mergeSort_perm _ _
theorem RZ (q:BW):(F3 q).Pairwise λa b=>ltStr b.1 a.1=false:=by
 have:=List.pairwise_mergeSort (le:=λa b:List UInt8×Rat=>!ltStr b.1 a.1) (λa b c h1 h2=>by simp only[Bl]at*;exact swo_ltStr.ntrans _ _ _ h2 h1) (λa b=>by
  cases h1:ltStr b.1 a.1 with
  |false=>rfl
  |true=>
   cases h2:ltStr a.1 b.1 with
   |false=>rfl
   |true=>have:=swo_ltStr.trans _ _ _ h1 h2;rw[swo_ltStr.irrefl]at this;cases this) q
 exact this.imp λh=>by simpa using h
theorem yr {q:BW}(hn:(q.map (·.1)).Nodup){a b:List UInt8×Rat}(ha:a∈q)(hb:b∈q)(h:a.1=b.1):a=b:=by
 obtain⟨i,hi,rfl⟩:=List.mem_iff_getElem.1 ha;obtain⟨j,hj,rfl⟩:=List.mem_iff_getElem.1 hb
 have:i=j:=(List.getElem_inj (h₀:=by simpa using hi) (h₁:=by simpa using hj) hn).1 (by simpa using h)
 subst this;rfl
theorem Qe {a b:List UInt8}(h1:ltStr a b=false)(h2:ltStr b a=false):a=b:=by
 simp only[ltStr,IT,List.not_lt]at h1 h2;exact List.le_antisymm h2 h1
theorem Te {q l l':BW}(hn:(q.map (·.1)).Nodup)(hp:l.Perm q)(hp':l'.Perm q)(hs:l.Pairwise λa b=>ltStr b.1 a.1=false)(hs':l'.Pairwise λa b=>ltStr b.1 a.1=false):l=l':=
 List.Perm.eq_of_pairwise (le:=λa b:List UInt8×Rat=>ltStr b.1 a.1=false) (λ_ _ ha hb h1 h2=>yr hn (hp.mem_iff.1 ha) (hp'.mem_iff.1 hb) (Qe h2 h1)) hs hs' (hp.trans hp'.symm)
theorem ww (q:BW)(dn:List Nat)(hd:dn.Nodup)(h1:∀i∈dn,i<q.length)(h2:∀i,i<q.length->i∈dn):(dn.map (qv q)).Perm q:=by
 have hp:dn.Perm (List.range q.length):=(List.perm_ext_iff_of_nodup hd List.nodup_range).2 λa=>by
  rw[List.mem_range];exact⟨h1 a,h2 a⟩
 have he:(List.range q.length).map (qv q)=q:=by
  apply List.ext_getElem (by simp);intro i h3 h4;rw[List.getElem_map,List.getElem_range];exact Vx (Bo h4)
 have:=hp.map (qv q)
 rwa [he]at this
def Jd (q:BW):BW:=if q.any (λp=>DF p.2)then[]else F3 q
def II (q:BW):Nat:=if q.any (λp=>DF p.2)then 4 else 0
def KJ (q:BW):D:=.tup [.sl false 2 ((Jd q).map Bu),i64 (II q:Nat)]
instance d5L (q:BW):AA (KJ q):=by unfold KJ;exact AI
theorem ZC (B:Nat)(hB9:B<100000)(q:BW)(m:DV)(hm:MQ B q m)(hl:q.length<=10000)(hnd:(q.map (·.1)).Nodup):AK C0 55 [mapD m] (KJ q):=by
 refine AZ.walk w1 fv rfl λF0=>?_
 obtain⟨ks,hks⟩:∃ks:List D,m.map (λp=>(.prim (.string p.1):D))=ks:=⟨_,rfl⟩
 obtain⟨vs,hvs⟩:∃vs:List D,m.map (·.2)=vs:=⟨_,rfl⟩
 have hml:=hm.len;have hkl:ks.length=m.length:=by rw[<-hks,Ag]
 unfold mapD;rw[hks,hvs];refine sZ 0 ?_;refine AD kB ?_;refine sZ 100 ?_;refine AD kB ?_;refine AC.seq ?_;refine AC.seq ?_;refine IS (by kernel_rfl) ?_;change Bh _ _ _ _ _ ([0]++(1::[])) _ _;refine F5 w1 200 [0] _ ?_;refine AD kB ?_;refine d9W 201 (Of (w1.xt 85 _ rfl)).1 rfl rfl rfl rfl (WY F0) (λF1 o1 hto hO hI=>Bh.nil ?_);refine BJ ?_;refine AC.block ?_;refine Gb (α:=List Nat×Obj×Nat×Nat) (λp=>⟨[(8,.optr 201 4 0 0 0),(4,EI 706 p.2.2.1 2 (p.1.map λj=>Bu (qv q j)))],EC 706 p.2.2.1 68 2 (p.1.map λj=>Bu (qv q j)),p.2.2.2⟩) (λp=>q.length-p.1.length)
  (λp F=>DP C0 F0 F [⟨201,4,p.2.1⟩]/\Nf F p.2.1 ks vs p.1/\∀j∈p.1,DF (qv q j).2=false) ([],o1,0,_) ⟨hO,hI,by simp⟩ AL ?_
 clear hO hI hto;rintro⟨dn,o,g7,n1⟩ F ⟨hO,hI,hB⟩;dsimp only at hO hI hB⊢;refine AC.seq ?_;refine IS (by kernel_rfl) ?_;change Bh _ _ _ _ _ [0,1] _ _;refine d9V rfl rfl rfl rfl hO hI (λhall=>?_) (λj kd vd F2 o2 hjn hkd hvd hto hO2 hI2=>?_)
 ·change Bh _ _ _ _ _ ([1]++[]) _ _
  refine F5 w1 300 [1] [] ?_;refine AD kB ?_;refine Bh.nil ?_;refine BJ ?_;refine AC.seq ?_;refine AN ?_;refine CK ?_;have hq2:∀j,j<q.length->j∈dn:=λj hj=>hall j (by rw[hkl,<-hml];exact hj)
  have hdn:dn.Nodup/\∀i∈dn,i<q.length:=by
   obtain⟨bm,es,clock,since,c0,seen,-,-,-,z4,-,-,-,-,-,-,-,-,z8,z9⟩:=hI;exact⟨z8,λi hi=>by have:=z9 i hi;omega⟩
  have hpm:=ww q dn hdn.1 hdn.2 hq2;have hpl:(dn.map (qv q)).length=q.length:=hpm.length_eq;have hbf:q.any (λp=>DF p.2)=false:=by
   rw[List.any_eq_false];intro p hp;obtain⟨i,hpi⟩:=Lh.1 hp;have hi:=(BQ.1 hpi).1
   have:=hB i (hq2 i hi)
   rw[Vx hpi]at this;rw[this];exact Bool.false_ne_true
  have hmm:(dn.map λj=>Bu (qv q j))=(dn.map (qv q)).map Bu:=by rw[List.map_map];rfl
  rw[hmm];generalize hLL:dn.map (qv q)=LL at hpm hpl⊢;have hrs:KJ q=.tup [.sl false 2 ((F3 q).map Bu),i64 0]:=by unfold KJ Jd II;rw[hbf];rfl
  clear hmm hI hO hB hall hq2 hdn;rcases LL with _|⟨z,LL⟩
  ·have hqn:q=[]:=List.length_eq_zero_iff.1 (by rw[<-hpl];rfl)
   subst hqn;rw[show EI 706 g7 2 (List.map Bu [])=CS from rfl,show EC 706 g7 68 2 (List.map Bu [])=[]from rfl];have cS:=nA;refine AF AU kB cS AB AB AB AB AB ?_;exact⟨_,Hh (.nil 2) (.refl _),AA.out,by rw[hrs,show F3 []=[]from List.mergeSort_nil];rfl⟩
  ·have cS:=λkb gg H n=>jc (z::LL) (by simp) (by rw[hpl];omega) kb gg H n
   rw[Bq]at cS;rw[show EI 706 g7 2 (List.map Bu (z::LL))=.osl 706 g7 2 0 ((LL.map Bu).length+1)from rfl,show EC 706 g7 68 2 (List.map Bu (z::LL))=[⟨706,g7,68,2,(z::LL).map Bu⟩]from rfl,Ag];refine AF AU kB cS AB AB AB AB AB ?_;refine A7.own _ (cS 706 g7 [] _) ?_;rintro d H' n' ⟨rfl,rfl,l',hp',hs',rfl⟩;have hpq:l'.Perm q:=hp'.trans hpm;have hl':=Te hnd hpq (Ku q) hs' (RZ q);have hl0:l'≠[]:=λq=>by rw[q]at hp';have:=hp'.length_eq;simp at this
   have hll:LL.length+1=l'.length:=by rw[hp'.length_eq];rfl
   rw[hll];rw[<-hl']at hrs;clear hl' cS hp' hs' hpm hll;refine AF AU kB AB AB AB AB AB AB ?_;rw[hrs];refine⟨_,Hh (?_:Fz _ [] _ (.sl false 2 (l'.map Bu))) (.refl _),AA.out,rfl⟩;rcases l' with _|⟨z',t'⟩
   ·exact Af rfl hl0
   ·have:=Rv 706 g7 68 2 ((z'::t').map Bu)
    rw[show EI 706 g7 2 ((z'::t').map Bu)=.osl 706 g7 2 0 ((t'.map Bu).length+1)from rfl,show EC 706 g7 68 2 ((z'::t').map Bu)=[⟨706,g7,68,2,(z'::t').map Bu⟩]from rfl,Ag]at this;exact this
 change Bh _ _ _ _ _ ([1]++[]) _ _;refine F5 w1 300 [1] [] ?_;refine AD kB ?_;refine Bh.nil ?_;refine BJ ?_;refine AC.seq ?_;refine AN ?_;refine Aj ?_;obtain⟨p,hp⟩:∃p,m[j]?=some p:=by
  rw[<-hks,A8]at hkd;obtain⟨p,hp,-⟩:=Er.1 hkd;exact⟨p,hp⟩
 obtain⟨pq,y,hq,rfl,hy⟩:=hm.at_ j hp;have hkd2:kd=str (sb pq.1):=by
  rw[<-hks,A8,hp]at hkd;exact(F8 hkd).symm
 have hvd2:vd=y.D:=by
  rw[<-hvs,A8,hp]at hvd;exact(F8 hvd).symm
 subst hkd2 hvd2;have hqv:=Vx hq;refine AC.block ?_;refine AC.seq ?_;refine IS (by kernel_rfl) ?_;change Bh _ _ _ _ _ (0::([1,2,3,4,5]++[])) _ _;refine d9T (xo:=⟨201,4,o2⟩) rfl rfl rfl rfl hO2 CO hI2 hkd hvd ?_;refine F5 w1 400 [1,2,3,4,5] [] ?_;refine AD kB ?_;refine Bh.nil ?_;have cL:=Uz hy (by omega);have cT:=SP hy (by omega);obtain⟨bg,hbg⟩:∃b,DF pq.2=b:=⟨_,rfl⟩
 rw[hbg]at cL;refine BJ ?_;have hdl:dn.length+1<=q.length:=by
  have h1:∀i∈dn++[j],i<q.length:=by
   obtain⟨bm,es,clock,since,c0,seen,-,-,-,z4,-,-,-,-,-,-,-,-,-,z9⟩:=hI2;intro i hi
   have:=z9 i hi
   omega
  have h2:(dn++[j]).Nodup:=by
   obtain⟨bm,es,clock,since,c0,seen,-,-,-,-,-,-,-,-,-,-,-,-,z8,-⟩:=hI2;exact z8
  have:=T6 _ _ h2 h1
  simpa using this
 have hsn:(dn++[j]).map (λj=>Bu (qv q j))=dn.map (λj=>Bu (qv q j))++[.agg [str (sb pq.1),str (sb (An pq.2))]]:=by rw[DK,Cs,List.map_nil,hqv];rfl
 have hTl:(dn.map λj=>Bu (qv q j)).length=dn.length:=Ag ..;obtain⟨TL,hTL⟩:∃TL,dn.map (λj=>Bu (qv q j))=TL:=⟨_,rfl⟩
 rw[hTL]at hsn hTl⊢;cases bg
 rotate_left
 ·have hrb:(D.tup [.sl false 2 [],i64 4])=KJ q:=by
   have:q.any (λp=>DF p.2)=true:=by
    rw[List.any_eq_true];exact⟨pq,Ay hq,hbg⟩
   unfold KJ Jd II;rw[this];rfl
  rcases TL with _|⟨z,TL⟩
  ·dsimp only[JQ,JR]
   refine AF AU kB cL AB AB AB AB AB ?_;exact⟨_,Hh (.nil 2) (.refl _),AA.out,hrb⟩
  ·dsimp only[H7,H8]
   refine AF AU kB cL AB AB AB AB AB ?_;exact⟨_,Hh (.nil 2) (.refl _),AA.out,hrb⟩
 have hB2:∀i∈dn++[j],DF (qv q i).2=false:=λi hi=>by
  rcases B0.1 hi with hi|hi
  ·exact hB i hi
  ·rw[Eb]at hi;rw[hi,hqv];exact hbg
 rcases TL with _|⟨z,TL⟩
 ·dsimp only[JQ,JR]
  refine AF AU kB cL cT AB AB AB AB ?_;exact⟨(dn++[j],o2,_,_),⟨hO2,hI2,hB2⟩,by dsimp only;rw[Bp,GM];omega,by(dsimp only;rw[hsn];exact AL)⟩
 ·dsimp only[H7,H8]
  have htk:List.take (TL.length+1) (z::TL)=z::TL:=by simp
  rw[Bq]at hTl;refine AF AU htk cL cT AB AB AB AB ?_;exact⟨(dn++[j],o2,_,_),⟨hO2,hI2,hB2⟩,by dsimp only;rw[Bp,GM];omega,by(dsimp only;rw[hsn,OV];exact AL)⟩
abbrev Cu (q:BW):List (List UInt8):=q.map (·.1)
theorem YY (lot:List UInt8)(r:Rat):∀q:BW,Cu (Gy lot r q)=if lot∈Cu q then Cu q else Cu q++[lot]
 | []=>by simp[Gy,Cu]
 |p::l=>by
  unfold Gy
  by_cases h:lot=p.1
  ·rw[AH h]
   subst h;simp[Cu]
  ·rw[AG h]
   show p.1::Cu (Gy lot r l)=if lot∈p.1::Cu l then p.1::Cu l else p.1::Cu l++[lot]
   rw[YY lot r l]
   by_cases h2:lot∈Cu l
   ·rw[AH h2,AH (CT _ h2)]
   ·rw[AG h2,AG (by
     intro q;rcases Az.1 q with q|q
     ·exact h q
     ·exact h2 q)];rfl
structure Hl (P:List UInt8->Prop)(n:Nat)(q:BW):Prop where
 nd:(Cu q).Nodup
 all:∀k∈Cu q,P k
 len:q.length<=n
theorem Hl.set {P:List UInt8->Prop}{n:Nat}{q:BW}(h:Hl P n q){lot:List UInt8}(hl:P lot)(r:Rat):Hl P (n+1) (Gy lot r q):=by
 have hk:=YY lot r q;have hlen:(Gy lot r q).length=(Cu (Gy lot r q)).length:=by simp[Cu]
 have hlen2:q.length=(Cu q).length:=by simp[Cu]
 by_cases hm:lot∈Cu q
 ·rw[AH hm]at hk
  exact⟨by rw[hk];exact h.nd,by rw[hk];exact h.all,by rw[hlen,hk,<-hlen2];have:=h.len;omega⟩
 ·rw[AG hm]at hk
  refine⟨?_,?_,?_⟩
  ·rw[hk,EF]
   exact⟨h.nd,by simp,λa ha b hb=>by
    rw[Eb]at hb;subst hb;exact λe=>hm (e ▸ ha)⟩
  ·rw[hk]
   intro k hk;rcases B0.1 hk with q|q
   ·exact h.all k q
   ·rw[Eb]at q;rw[q];exact hl
  ·rw[hlen,hk,Bp,<-hlen2]
   have:=h.len
   simp;omega
theorem Hl.mono {P:List UInt8->Prop}{n n':Nat}{q:BW}(h:Hl P n q)(hn:n<=n'):Hl P n' q:=⟨h.nd,h.all,BT h.len hn⟩
theorem Xs {P:List UInt8->Prop}{n:Nat}{q:BW}(x:AE)(h:Hl P n q)(hp:∀s∈x.shs,P s.lot):∀j,j<=x.shs.length->Hl P (n+j) (Gt x j q)
 | 0,_=>h
 |j+1,hj=>by
  obtain⟨s,hs⟩:∃s,x.shs[j]?=some s:=⟨_,Bo hj⟩
  rw[OR x j q hs];exact(Xs x h hp j (by omega)).set (hp s (Ay hs)) _
theorem XC {P:List UInt8->Prop}(l:List AE)(hp:∀x∈l,x.shs.length<=64/\∀s∈x.shs,P s.lot):∀i,i<=l.length->Hl P (64*i) (CJ (l.take i))
 | 0,_=>⟨by simp[CJ,Cu],by simp[CJ,Cu],by simp[CJ]⟩
 |i+1,hi=>by
  obtain⟨x,hx⟩:∃x,l[i]?=some x:=⟨_,Bo hi⟩
  rw[Qd l i hx];have h1:=hp x (Ay hx);exact(Xs x (XC l hp i (by omega)) h1.2 _ (Al _)).mono (by omega)
theorem Tm {P:List UInt8->Prop}{l:List AE}(hp:∀x∈l,x.shs.length<=64/\∀s∈x.shs,P s.lot):Hl P (64*l.length) (CJ l):=by
 have:=XC l hp l.length (Al _)
 rwa [C6]at this
theorem MQ.keys {B:Nat}:∀ {q:BW} {m:DV},MQ B q m->m.map (·.1)=(Cu q).map sb
 | [],[],_=>rfl
 |p::q,e::m,⟨⟨h1,_⟩,h4⟩=>by
  simp only[Cs,Cu];rw[h1]
  congr 1
  exact MQ.keys h4
theorem Tl (s:ByteArray):∀m:DV,HH s (m.map λp=>.prim (.string p.1)) (m.map (·.2))=some (Ic s m)
 | []=>rfl
 |p::l=>by
  simp only[Cs,HH,Ic];cases BI s p.1 with
  |true=>rfl
  |false=>exact Tl s l
theorem Tz:∀ {q:BW} {p:List UInt8×Rat},(Cu q).Nodup->p∈q->Ew p.1 q=some p.2
 |a::q,p,hn,hp=>by
  unfold Ew;have hn:(a.1::Cu q).Nodup:=hn;rw[List.nodup_cons]at hn;rcases Az.1 hp with rfl|hp
  ·rw[AH rfl]
  ·rw[AG λe=>hn.1 (by rw[<-e];exact List.mem_map_of_mem hp)]
   exact Tz hn.2 hp
theorem kW (q:BW):PX (Cu q)=(F3 q).map (·.1):=by
 unfold PX;refine List.Perm.eq_of_pairwise (le:=λx y:List UInt8=>x<=y) (λ_ _ _ _ h1 h2=>List.le_antisymm h1 h2) ?_ ?_ ?_
 ·have:=List.pairwise_mergeSort (le:=λx y:List UInt8=>decide (x<=y)) (λa b c h1 h2=>by simp only[G4]at*;exact List.le_trans h1 h2) (λa b=>by
   rcases List.le_total a b with h|h<;>simp[h]) (Cu q)
  exact this.imp λh=>by simpa using h
 ·rw[List.pairwise_map]
  exact(RZ q).imp λh=>by simpa[ltStr]using h
 ·exact(List.mergeSort_perm _ _).trans ((Ku q).map _).symm
abbrev Ky:Dr:=[(12,[0,1,2,3,4,5],[6])]
open Go.Proofs Go.RowKit
set_option maxRecDepth 20000
set_option maxHeartbeats 4000000
def Cm (l:List AE):Bool:=l.all λx=>BI (sb x.grain) (sb (Ca l 0).grain)
def Ht (l:List AE):Nat:=if l.length=0 then 2 else if 64<l.length then 5 else if D4 (λi=>Ce (Ca l i)) l.length≠0 then D4 (λi=>Ce (Ca l i)) l.length else if Cm l=false then 16 else if As l>999999999 then 4 else 0
def Sp (l:List AE):Int:=if Ht l=0 then As l else 0
theorem lR (b:Bool)(v:List AE)(hl:v.length<=1000000)(hf:∀x∈v,x.few):AK C0 144 [.clo (.func 99) [] [],Am b v] (i64 (D4 (λi=>Ce (Ca v i)) v.length:Nat)):=by
 refine AZ.walk w1 cQ rfl λF=>?_
 have el:(((v.map AE.D).length:Nat):Int)=(v.length:Int):=by rw[Ag]
 refine AF AU el AB AB AB AB AB AB ?_;refine AC.loop (α:=Nat×Nat) (λp=>⟨[(0,.clo (.func 99) [] []),(8,Am b v),(9,i64 (v.length:Int)),(10,i64 (p.1:Int))],[],p.2⟩) (λp=>v.length-p.1)
  (λp=>p.1<=v.length/\∀j,j<p.1->Ce (Ca v j)=0) (0,_) ⟨BU _,λj h=>Af h (FN j)⟩ AL ?_
 rintro⟨i,m⟩ F ⟨hi,hz⟩;dsimp only at hi hz⊢;rcases BA i v.length with h2|h2
 ·have e1:=CZ h2
  have wi:=Cc (i:=i) (by omega);obtain⟨x,hx⟩:=CU h2;have hm:(v.map AE.D)[i]?=some (.agg [str (sb x.grain),i64 x.mass,.sl false 2 (x.shs.map A0.D)]):=by rw[A8,hx];rfl
  have cL:=iQ x (hf x (Ay hx));unfold AE.D at cL;rcases Nat.decEq (Ce x) 0 with hc0|hc0
  ·have e3:=GX hc0
   have hE:=Ov (f:=λi=>Ce (Ca v i)) hz h2 (by rw[GC hx];exact hc0);rw[GC hx]at hE;rw[hE];refine AF AU (Ar e1 e3 kN) hm cL AB AB AB AB ?_;exact AJ rfl AA.out
  ·have e3:=Gw hc0
   refine AF AU (BS e1 e3 wi kN) hm cL AB AB AB AB ?_;exact⟨(i+1,_),⟨h2,λj hj=>by
    rcases Jl.1 hj with q|q
    ·exact hz j q
    ·rw[q,GC hx];exact hc0⟩,by dsimp only;omega,AL⟩
 ·have e1:=Cb h2
  have:i=v.length:=by omega
  subst this;rw[M1 (f:=λi=>Ce (Ca v i)) hz];refine AF AU e1 AB AB AB AB AB AB ?_;exact AJ rfl AA.out
theorem qD (b:Bool)(l:List AE)(hl:l.length<=1000000)(hf:∀x∈l,x.few):AK C0 103 [Am b l] (.tup [i64 (Sp l),i64 (Ht l:Nat)]):=by
 refine AZ.walk w1 aw rfl λF=>?_
 have el:(((l.map AE.D).length:Nat):Int)=(l.length:Int):=by rw[Ag]
 have hC:Ht l=if l.length=0 then 2 else if 64<l.length then 5 else if D4 (λi=>Ce (Ca l i)) l.length≠0 then D4 (λi=>Ce (Ca l i)) l.length else if Cm l=false then 16 else if As l>999999999 then 4 else 0:=rfl
 have hM:Sp l=if Ht l=0 then As l else 0:=rfl
 have cA:=lR b l hl hf
 by_cases h0:l.length=0
 ·rw[AH h0]at hC
  rw[hC]at hM;rw[hM,hC];have q1:((l.length:Int)==0)=true:=by rw[h0];rfl
  refine AF Ky (Ab el q1) AB AB AB AB AB AB ?_;exact AJ rfl AA.out
 rw[AG h0]at hC;have q1:((l.length:Int)==0)=false:=by
  rw[Br];omega
 by_cases h64:64<l.length
 ·rw[AH h64]at hC
  rw[hC]at hM;rw[hM,hC];have q2:decide ((l.length:Int)>64)=true:=BV;refine AF Ky (Ar el q1 q2) AB AB AB AB AB AB ?_;exact AJ rfl AA.out
 rw[AG h64]at hC;have q2:decide ((l.length:Int)>64)=false:=Bc;obtain⟨K,hK⟩:∃K,D4 (λi=>Ce (Ca l i)) l.length=K:=⟨_,rfl⟩
 rw[hK]at hC cA;rcases Nat.decEq K 0 with hc0|hc0
 ·have e3:=GX hc0
  rw[AH hc0]at hC;rw[hC]at hM;rw[AG hc0]at hM;rw[hM,hC];refine AF Ky (BS el q1 q2 e3) cA AB AB AB AB AB ?_;exact AJ rfl AA.out
 have e3:=Gw hc0;rw[AG (λh=>h hc0)]at hC;have hz:∀j,j<l.length->Ce (Ca l j)=0:=Om (hK.trans hc0);have hsm:=T7 h64 hz;obtain⟨x0,hx0⟩:∃x,l[0]?=some x:=⟨_,Cf⟩
 have hm0:(l.map AE.D)[0]?=some (.agg [str (sb x0.grain),i64 x0.mass,.sl false 2 (x0.shs.map A0.D)]):=by rw[A8,hx0];rfl
 have hv0:=GC hx0;refine AF Ky (BS el q1 q2 e3) cA AB AB AB AB AB ?_;refine AC.loop (α:=Nat×Nat) (λp=>⟨[(0,Am b l),(5,i64 (As (l.take p.1))),(19,Am b l),(20,i64 (l.length:Int)),(21,i64 (p.1:Int))],[],p.2⟩) (λp=>l.length-p.1)
  (λp=>p.1<=l.length/\∀x∈l.take p.1,BI (sb x.grain) (sb x0.grain)=true) (0,_) ⟨BU _,λx h=>by simp at h⟩ AL ?_
 rintro⟨i,m⟩ F ⟨hi,hs⟩;dsimp only at hi hs⊢;rcases BA i l.length with h2|h2
 rotate_left
 ·have e1:=Cb h2
  have:i=l.length:=by omega
  subst this;rw[C6]at hs⊢;have hg:Cm l=true:=by
   unfold Cm;rw[CY,hv0];exact hs
  rw[AG (by rw[hg];decide)]at hC
  by_cases h9:As l>999999999
  ·have e9:decide (As l>999999999)=true:=Au h9
   rw[AH h9]at hC;rw[hC]at hM;rw[hM,hC];refine AF Ky (Ab e1 e9) AB AB AB AB AB AB ?_;exact AJ rfl AA.out
  ·have e9:decide (As l>999999999)=false:=Av h9
   rw[AG h9]at hC;rw[hC]at hM;rw[hM,hC];refine AF Ky (Ab e1 e9) AB AB AB AB AB AB ?_;exact AJ rfl AA.out
 have e1:=CZ h2;have wi:=Cc (i:=i) (by omega);obtain⟨x,hx⟩:=CU h2;have hm:(l.map AE.D)[i]?=some (.agg [str (sb x.grain),i64 x.mass,.sl false 2 (x.shs.map A0.D)]):=by rw[A8,hx];rfl
 have hsum:=T1 hx;have hs1:=Um (l:=l.take i) λy hy=>hsm.2 y (JA hy)
 have hs2:=hsm.2 x (Ay hx);rw[Bi]at hs1;have ws:IntKind.i64.wrap (As (l.take i)+x.mass)=As (l.take i)+x.mass:=wI;obtain⟨bG,hbG⟩:∃q,BI (sb x.grain) (sb x0.grain)=q:=⟨_,rfl⟩
 cases bG
 ·have hg:Cm l=false:=by
   unfold Cm;rw[List.all_eq_false];exact⟨x,Ay hx,by rw[hv0,hbG];decide⟩
  rw[AH hg]at hC;rw[hC]at hM;rw[hM,hC];refine AF Ky (Ar e1 hbG kN) hm hm0 AB AB AB AB ?_;exact AJ rfl AA.out
 ·refine AF Ky (CI e1 hbG wi ws kN) hm hm0 AB AB AB AB ?_
  exact⟨(i+1,_),⟨h2,λy hy=>by
   rw[D8,hx]at hy;rcases B0.1 hy with q|q
   ·exact hs y q
   ·have:y=x:=by simpa using q
    rw[this];exact hbG⟩,by dsimp only;omega,by(dsimp only;rw[hsum];exact AL)⟩
abbrev FG:Dr:=[(11,[0,1,2,3,4,5,6,7],[8]),(24,[0,1,2,3,4,5,6,7,8,9,10],[11])]
open Go.Proofs Go.RowKit Go.Sort
set_option maxRecDepth 20000
set_option maxHeartbeats 4000000
def HK (l:List AE):Nat:=if Ht l≠0 then Ht l else if 64<(CJ l).length then 5 else if(F3 (CJ l)).any (λp=>DF (p.2/(As l:Rat)))then 4 else 0
def FK (l:List AE):List A0:=(F3 (CJ l)).map λp=>⟨p.1,An (p.2/(As l:Rat))⟩
def Lc (l:List AE):AE:=if HK l≠0 then⟨[],0,[]⟩else⟨(Ca l 0).grain,As l,FK l⟩
def AE.lite (x:AE):Prop:=x.few/\∀s∈x.shs,s.lot.length<=1000/\s.part.length<=40
theorem Qv {l:List A0}(h:Gn l=0):0<l.length/\l.length<=64/\∀s∈l,B4 s.lot=true/\Cj s.part=0/\0<GH (Bd s.part):=by
 unfold Gn at h;split at h
 ·cases h
 ·split at h
  ·cases h
  ·split at h
   ·rename_i h3;exact Af h h3
   ·rename_i h1 h2 h3
    refine⟨by omega,by omega,λs hs=>?_⟩;obtain⟨j,hj⟩:=Lh.1 hs;have hE:=Om (f:=Fo l) (n:=l.length) (by omega) j (BQ.1 hj).1;unfold Fo at hE;rw[KE hj]at hE;split at hE
    ·cases hE
    ·split at hE
     ·cases hE
     ·split at hE
      ·rename_i h6;exact Af hE h6
      ·split at hE
       ·cases hE
       ·rename_i h4 h5 h6 h7
        exact⟨by simpa using h4,by omega,by omega⟩
theorem Rx {x:AE}(hl:x.lite)(h:Ce x=0):x.ok/\∀s∈x.shs,B4 s.lot=true:=by
 obtain⟨h1,h2,h3,h4⟩:=L7 h;obtain⟨g1,g2,g3⟩:=Qv h4;exact⟨⟨g2,by unfold Sm;omega,λs hs=>⟨BT (hl.2 s hs).1 (by omega),(hl.2 s hs).2,(g3 s hs).2.1⟩⟩,λs hs=>(g3 s hs).1⟩
theorem Zw {l:List AE}(h:Ht l=0):0<l.length/\l.length<=64/\(∀x∈l,Ce x=0)/\Cm l=true/\As l<=999999999:=by
 unfold Ht at h;split at h
 ·cases h
 ·split at h
  ·cases h
  ·split at h
   ·rename_i h3;exact Af h h3
   ·split at h
    ·cases h
    ·split at h
     ·cases h
     ·rename_i h1 h2 h3 h4 h5
      refine⟨by omega,by omega,λx hx=>?_,by simpa using h4,by omega⟩;obtain⟨j,hj⟩:=Lh.1 hx
      have:=Om (f:=λi=>Ce (Ca l i)) (n:=l.length) (by omega) j (BQ.1 hj).1
      rwa [GC hj]at this
theorem ZO:∀ {l:List AE},(∀x∈l,Ce x=0)->(l.length:Int)<=As l
 | [],_=>by simp[As]
 |x::l,h=>by
  have h1:=(L7 (h x CO)).2.1;have h2:=ZO (l:=l) λy hy=>h y (CT _ hy)
  unfold As at h2⊢;simp only[Cs,List.sum_cons,Bq];omega
theorem Ow (H:Hp)(e:Int):Fz H [] (.tup [.agg [str ⟨#[]⟩,i64 0,CS],i64 e]) (.tup [(⟨[],0,[]⟩:AE).D,i64 e]):=
 Hh (.agg rfl λi d d' h h'=>by
  match i with
  | 0=>cases h;cases h';exact .refl _
  | 1=>cases h;cases h';exact .refl _
  | 2=>cases h;cases h';exact .nil 2
  |n+3=>cases h) (.refl _)
theorem dw {H:Hp}{gr m sD e:D}{L:List D}(h:Fz H [] sD (.sl false 2 L)):Fz H [] (.tup [.agg [gr,m,sD],e]) (.tup [.agg [gr,m,.sl false 2 L],e]):=
 Hh (.agg rfl λi d d' h1 h2=>by
  match i with
  | 0=>cases h1;cases h2;exact .refl _
  | 1=>cases h1;cases h2;exact .refl _
  | 2=>cases h1;cases h2;exact h
  |n+3=>cases h1) (.refl _)
theorem qN {H:Hp}{k g T sz:Nat}{z:D}{l:List D}(he:Hp.get H k=some ⟨k,g,T,sz,z::l⟩):Fz H [] (.osl k g sz 0 (l.length+1)) (.sl false sz (z::l)):=by
 refine .osl (e:=⟨k,g,T,sz,z::l⟩) he rfl rfl rfl (by simp) (by simp) (λj d d' h1 h2=>?_) λj d d' q c c' h1 h2 h3 h4=>?_
 ·rw[BZ]at h1;rw[h1]at h2;cases h2;rfl
 ·rw[BZ]at h1;rw[h1]at h2;cases h2;rw[h3]at h4;cases h4;exact Fz.refl _
theorem nT (l:DV)(H:Hp)(n:Nat):Ct C0 105 [mapD l] H n (λd H' n'=>∃g,d=.clo (.func 147) [] [.optr 77000 g 1 0 0]/\H'=⟨77000,g,85,1,[mapD l]⟩::H/\n'=n+4):=by
 refine Ct.walk w1 b7 rfl λF0=>?_
 obtain⟨M,hM⟩:∃M,mapD l=M:=⟨_,rfl⟩
 have hc:∃ks vs,M=.mp ks vs:=⟨_,_,hM.symm⟩
 obtain⟨ks,vs,hc⟩:=hc;subst hc;rw[hM];refine AC.seq ?_;refine Ao 77000 ?_;refine AD kB ?_;refine BJ ?_;refine AF AU kB AB AB AB AB AB AB ?_;exact⟨_,rfl,rfl,trivial⟩
theorem vT {r:Rat}{x:GF}{k:Nat}(h:FR r x k)(hk:k<100000):AK C0 106 [x.D] (.tup [str (sb (V6 r)),i64 (V5 r:Nat)]):=by
 refine AZ.walk w1 b8 rfl λF=>?_
 have c1:=Uz h hk;have c2:=SP h hk;unfold V6 V5;obtain⟨b,hb⟩:∃b,DF r=b:=⟨_,rfl⟩
 rw[hb]at c1⊢;cases b
 all_goals
  refine AF AU kB c1 c2 AB AB AB AB ?_;exact AJ rfl AA.out
theorem ze (b:Bool)(l:List AE)(hl:l.length<=1000000)(hf:∀x∈l,x.lite):AK C0 57 [Am b l] (.tup [(Lc l).D,i64 (HK l:Nat)]):=by
 refine AZ.walk w1 gB rfl λF0=>?_
 have el:(((l.map AE.D).length:Nat):Int)=(l.length:Int):=by rw[Ag]
 have cM:=qD b l hl λx hx=>(hf x hx).1
 have hN:HK l=if Ht l≠0 then Ht l else if 64<(CJ l).length then 5 else if(F3 (CJ l)).any (λp=>DF (p.2/(As l:Rat)))then 4 else 0:=rfl
 have hL:Lc l=if HK l≠0 then⟨[],0,[]⟩else⟨(Ca l 0).grain,As l,FK l⟩:=rfl
 rcases Nat.decEq (Ht l) 0 with g|g
 ·have e1:=GX g
  rw[AH g]at hN;rw[hN,AH g]at hL;rw[hL,hN];refine AF FG e1 cM AB AB AB AB AB ?_;exact⟨_,Ow _ _,AA.out,rfl⟩
 have e1:=Gw g;rw[AG (λh=>h g)]at hN;have hmm:Sp l=As l:=by unfold Sp;rw[AH g]
 obtain⟨g1,g2,g3,g4,g5⟩:=Zw g;have hx:∀x∈l,x.ok:=λx h=>(Rx (hf x h) (g3 x h)).1
 have g6:=ZO g3;rw[hmm]at cM;refine sZ 0 ?_;refine AD kB ?_;refine sZ 100 ?_;refine AD kB ?_;refine cI cM ?_;refine AD kB ?_;refine AC.seq ?_;refine sZ 200 ?_;refine AD e1 ?_;refine AN ?_;refine Aj ?_;refine AC.seq ?_;refine IS (by kernel_rfl) ?_;change Bh _ _ _ _ _ [0,1] _ _;refine Bh.makeMap 400 rfl rfl rfl (WY F0) (λF1 it hto hO hr0 hnX hM=>?_);change Bh _ _ _ _ _ ([1]++[]) _ _;refine F5 w1 400 [1] [] ?_;refine AD kB ?_;refine Bh.nil ?_;refine AF FG el AB AB AB AB AB AB ?_;refine Gb (α:=Nat×DV×Obj×Nat) (λp=>⟨[(0,Am b l),(2,.optr 0 0 3 0 0),(4,i64 (As l)),(6,.prim (.map (some it))),(29,Am b l),(30,i64 (l.length:Int)),(31,i64 (p.1:Int))],[⟨0,0,52,3,[.agg [.prim (.string ⟨#[]⟩),.prim (.int .i64 0),.prim (.slice none 0 0)]]⟩],p.2.2.2⟩) (λp=>l.length-p.1)
  (λp F=>p.1<=l.length/\DP C0 F0 F [⟨400,11,p.2.2.1⟩]/\F.r0 400 11=some it/\IH F p.2.2.1 p.2.1/\MQ (320*p.1) (CJ (l.take p.1)) p.2.1) (0,[],.map #[] 0,_) ⟨BU _,hO,hr0,hM,trivial⟩ AL ?_
 clear hO hr0 hM hto;rintro⟨i,m,o,n1⟩ F ⟨hi,hO,hr0,hM,hQ⟩;dsimp only at hi hO hr0 hM hQ⊢;rcases BA i l.length with h2|h2
 rotate_left
 ·have e1:=Cb h2
  have:i=l.length:=by omega
  subst this;rw[C6]at hQ;refine sZ 600 ?_;refine AD e1 ?_;refine AC.seq ?_;refine AN ?_;refine CK ?_;refine il [(0,Am b l),(2,.optr 0 0 3 0 0),(4,i64 (As l)),(6,mapD m)] hO hr0 hnX hM ⟨.inl rfl,.inl rfl,.inl rfl,.inr ⟨rfl,rfl⟩,trivial⟩ (λF2 hto2 hO2=>?_);have hKO:Hl (λk=>k.length<=1000) (64*l.length) (CJ l):=Tm λx h=>⟨(hx x h).1,λs hs=>((hf x h).2 s hs).1⟩
  have hQ2:MQ 32000 (CJ l) m:=hQ.mono (by omega);clear hQ hO hM hto2 hO2;obtain⟨q,hq⟩:∃q,CJ l=q:=⟨_,rfl⟩
  have hSS:FK l=(F3 q).map λp=>⟨p.1,An (p.2/(As l:Rat))⟩:=by rw[<-hq];rfl
  rw[hq]at hKO hQ2 hN;have hml:=hQ2.len;obtain⟨ks,hks⟩:∃ks:List D,m.map (λp=>(.prim (.string p.1):D))=ks:=⟨_,rfl⟩
  obtain⟨vs,hvs⟩:∃vs:List D,m.map (·.2)=vs:=⟨_,rfl⟩
  have hkl:ks.length=q.length:=by rw[<-hks,Ag,hml]
  unfold mapD;rw[hks,hvs];refine AC.seq ?_;refine AC.seq ?_;refine IS (by kernel_rfl) ?_;change Bh _ _ _ _ _ ([0]++(1::([2]++[]))) _ _;refine F5 w1 1800 [0] _ ?_;refine AD kB ?_;refine d9U (Of (w1.xt 85 _ rfl)).1 rfl rfl rfl rfl ?_;refine F5 w1 1800 [2] _ ?_;refine AD kB ?_;refine Bh.nil ?_;rw[hkl]
  by_cases h64:64<q.length
  ·rw[AH h64]at hN
   rw[hN,DQ]at hL;rw[hL,hN];have q2:decide ((q.length:Int)>64)=true:=BV;refine AF FG q2 AB AB AB AB AB AB ?_;exact⟨_,Ow _ _,AA.out,rfl⟩
  have q2:decide ((q.length:Int)>64)=false:=Bc;rw[AG h64]at hN;rw[q2];have hmd:mapD m=.mp ks vs:=by unfold mapD;rw[hks,hvs]
  have cK:=nT m;have cS:=GP m (Cu q) hQ2.keys (by omega) hKO.all hKO.nd;rw[hmd]at cK cS;obtain⟨x0,hx0⟩:∃x,l[0]?=some x:=⟨_,Cf⟩
  have hm0:(l.map AE.D)[0]?=some (.agg [str (sb x0.grain),i64 x0.mass,.sl false 2 (x0.shs.map A0.D)]):=by rw[A8,hx0];rfl
  refine AF FG kB hm0 AB AB AB AB AB ?_;refine A7.own _ (cK _ _) ?_;rintro d H' n' ⟨gk,rfl,rfl,rfl⟩;refine AF FG kB AB AB AB AB AB AB ?_;refine A7.own _ (cS _ _ _ _ _) ?_;rintro d H' n' ⟨rfl,rfl,rfl⟩;refine AF FG kB AB AB AB AB AB AB ?_;have hkey:=kW q;have hsl:(F3 q).length=q.length:=(Ku q).length_eq;have hsm:∀p∈F3 q,p∈q:=λp h=>(Ku q).mem_iff.1 h
  rw[hkey];obtain⟨Q,hQ⟩:∃Q,F3 q=Q:=⟨_,rfl⟩
  rw[hQ]at hN hSS hsl hsm⊢;have hMs:Sm (As l):=by unfold Sm;omega
  have hM0:((As l:Int):Rat)≠0:=λh=>by
   have:=Rat.intCast_inj.1 (h.trans (Rat.intCast_zero).symm)
   omega
  have fM:FR ((As l:Int):Rat) ⟨AX (As l),1⟩ 1:=Oy (by unfold Sm at hMs;omega);have cF:=Po (As l) hMs;obtain⟨kl,hkl2⟩:∃kl:List D,(List.map (λx=>str (sb x)) (Q.map (·.1)))=kl:=⟨_,rfl⟩
  have hkll:kl.length=Q.length:=by rw[<-hkl2];simp
  rw[hkl2];obtain⟨M,hMM⟩:∃M,As l=M:=⟨_,rfl⟩
  have hgr:(Ca l 0).grain=x0.grain:=by rw[GC hx0]
  clear hmd cK cS hm0;rw[hMM]at hN hL hSS hMs hM0 fM cF;rw[hMM,hkll];obtain⟨g14,hg14⟩:∃g,n1+1+1+1+1+1+1+1+1+1+1=g:=⟨_,rfl⟩
  rw[hg14];refine AC.loop (α:=Nat×Nat×Nat) (λp=>⟨[(2,.optr 0 0 3 0 0),(4,i64 M),(6,.mp ks vs),(14,.optr 2006 g14 3 0 0),(78,.sl false 1 kl),(79,i64 (Q.length:Nat)),(80,i64 (p.1:Int))],
    EC 2706 p.2.1 66 2 ((Q.take p.1).map λz=>(⟨z.1,An (z.2/(M:Rat))⟩:A0).D)++[⟨2006,g14,52,3,[.agg [str (sb x0.grain),i64 M,EI 2706 p.2.1 2 ((Q.take p.1).map λz=>(⟨z.1,An (z.2/(M:Rat))⟩:A0).D)]]⟩,⟨0,0,52,3,[.agg [.prim (.string ⟨#[]⟩),.prim (.int .i64 0),.prim (.slice none 0 0)]]⟩],p.2.2⟩) (λp=>Q.length-p.1)
   (λp=>p.1<=Q.length/\∀z∈Q.take p.1,DF (z.2/(M:Rat))=false) (0,0,_) ⟨BU _,λz h=>by simp at h⟩ AL ?_
  clear n1 hg14;rintro⟨i,g,n1⟩ F ⟨hi,hB⟩;dsimp only at hi hB⊢;have hTl:((Q.take i).map λz=>(⟨z.1,An (z.2/(M:Rat))⟩:A0).D).length=i:=by rw[Ag,Bi];omega
  obtain⟨TL,hTL⟩:∃TL,((Q.take i).map λz=>(⟨z.1,An (z.2/(M:Rat))⟩:A0).D)=TL:=⟨_,rfl⟩
  rcases BA i Q.length with h2|h2
  rotate_left
  ·have e1:=Cb h2
   have:i=Q.length:=by omega
   subst this;rw[C6]at hB hTL⊢;have hany:Q.any (λp=>DF (p.2/(M:Rat)))=false:=by
    rw[List.any_eq_false];intro p hp;rw[hB p hp];decide
   rw[AG (by rw[hany];decide)]at hN;rw[CR]at hL;rw[hL,hN,hgr];have hres:((⟨x0.grain,M,FK l⟩:AE).D)=.agg [str (sb x0.grain),i64 M,.sl false 2 TL]:=by
    unfold AE.D D5;rw[<-hTL,hSS,List.map_map];rfl
   have pR:CC (.tup [(⟨x0.grain,M,FK l⟩:AE).D,i64 ((0:Nat):Int)]):=AA.out;rw[hres]at pR;rw[hres,hTL];rcases TL with _|⟨z,TL⟩
   ·dsimp only[JQ,JR,List.nil_append]
    refine AF FG e1 AB AB AB AB AB AB ?_;exact⟨_,dw (.nil 2),pR,rfl⟩
   ·dsimp only[H7,H8,List.cons_append,List.nil_append]
    refine AF FG e1 AB AB AB AB AB AB ?_;exact⟨_,dw (qN rfl),pR,rfl⟩
  have e1:=CZ h2;have wi:=Cc (i:=i) (by omega);obtain⟨p,hp⟩:=CU h2;have hmk:kl[i]?=some (str (sb p.1)):=by rw[<-hkl2,A8,A8,hp];rfl
  have hlq:=Tz hKO.nd (hsm p (Ay hp));rcases hQ2.look p.1 with⟨q1,q3⟩|⟨r,y,q1,q3,q4⟩
  ·rw[hlq]at q3;cases q3
  rw[hlq]at q3;cases q3;have hLk:HH (sb p.1) ks vs=some (some y.D):=by rw[<-hks,<-hvs,Tl,q1]
  have cDv:=rz q4 fM hM0 (by omega);have fD:=pI q4 fM hM0;obtain⟨z,hz⟩:∃z,Sh y ⟨AX M,1⟩=z:=⟨_,rfl⟩
  rw[hz]at cDv fD;have cG:=vT fD (by omega);obtain⟨dM,hdM⟩:∃d,(⟨AX M,1⟩:GF).D=d:=⟨_,rfl⟩
  have pdM:AA dM:=by rw[<-hdM];exact AI
  obtain⟨dy,hdy⟩:∃d,y.D=d:=⟨_,rfl⟩
  have pdy:AA dy:=by rw[<-hdy];exact AI
  obtain⟨dz,hdz⟩:∃d,z.D=d:=⟨_,rfl⟩
  have pdz:AA dz:=by rw[<-hdz];exact AI
  rw[hdy]at hLk cDv;rw[hdM]at cF cDv;rw[hdz]at cDv cG;unfold V6 V5 at cG;obtain⟨bg,hbg⟩:∃q,DF (p.2/(M:Rat))=q:=⟨_,rfl⟩
  rw[hbg]at cG;have hsn:((Q.take (i+1)).map λz=>(⟨z.1,An (z.2/(M:Rat))⟩:A0).D)=TL++[.agg [str (sb p.1),str (sb (An (p.2/(M:Rat))))]]:=by
   rw[D8,hp,DK,hTL];rfl
  rw[hTL]at hTl⊢;have n4:((((4:Nat):Int)) != 0)=true:=rfl;have n0:((((0:Nat):Int)) != 0)=false:=rfl;cases bg
  rotate_left
  ·rw[AH rfl,AH rfl]at cG
   have hany:Q.any (λp=>DF (p.2/(M:Rat)))=true:=by
    rw[List.any_eq_true];exact⟨p,Ay hp,hbg⟩
   rw[AH hany]at hN;rw[DQ]at hL;rw[hL,hN];rcases TL with _|⟨z9,TL⟩
   ·dsimp only[JQ,JR,List.nil_append]
    refine AF FG (Ab e1 kN) hmk AB AB AB AB AB ?_;refine Qk (d':=dy) rfl rfl rfl rfl rfl rfl hLk rfl ?_;refine BJ ?_;refine AF FG n4 cF cDv cG AB AB AB ?_;exact⟨_,Ow _ _,AA.out,rfl⟩
   ·dsimp only[H7,H8,List.cons_append,List.nil_append]
    refine AF FG (Ab e1 kN) hmk AB AB AB AB AB ?_;refine Qk (d':=dy) rfl rfl rfl rfl rfl rfl hLk rfl ?_;refine BJ ?_;refine AF FG n4 cF cDv cG AB AB AB ?_;exact⟨_,Ow _ _,AA.out,rfl⟩
  rw[AG (by decide),AG (by decide)]at cG;have hB2:∀w∈Q.take (i+1),DF (w.2/(M:Rat))=false:=λw hw=>by
   rw[D8,hp]at hw;rcases B0.1 hw with h|h
   ·exact hB w h
   ·have:w=p:=by simpa using h
    rw[this];exact hbg
  rcases TL with _|⟨z9,TL⟩
  ·dsimp only[JQ,JR,List.nil_append]
   refine AF FG (Ab e1 kN) hmk AB AB AB AB AB ?_;refine Qk (d':=dy) rfl rfl rfl rfl rfl rfl hLk rfl ?_;refine BJ ?_;refine AF FG (Ab n0 wi) cF cDv cG AB AB AB ?_;exact⟨(i+1,_,_),⟨h2,hB2⟩,by dsimp only;omega,by(dsimp only;rw[hsn];exact AL)⟩
  ·dsimp only[H7,H8,List.cons_append,List.nil_append]
   have htk:List.take (TL.length+1) (z9::TL)=z9::TL:=by simp
   rw[Bq]at hTl;have hb64:TL.length+1<64:=by omega
   refine AF FG (Ab e1 kN) hmk AB AB AB AB AB ?_;refine Qk (d':=dy) rfl rfl rfl rfl rfl rfl hLk rfl ?_;refine BJ ?_;refine AF FG (Ar n0 wi htk) cF cDv cG AB AB AB ?_;exact⟨(i+1,_,_),⟨h2,hB2⟩,by dsimp only;omega,by(dsimp only;rw[hsn,OV];exact AL)⟩
 have e1:=CZ h2;have wi:=Cc (i:=i) (by omega);obtain⟨x,hxi⟩:=CU h2;obtain⟨x1,x2,x3⟩:=hx x (Ay hxi);have hm:(l.map AE.D)[i]?=some (.agg [str (sb x.grain),i64 x.mass,.sl false 2 (x.shs.map A0.D)]):=by rw[A8,hxi];rfl
 have es:(((x.shs.map A0.D).length:Nat):Int)=(x.shs.length:Int):=by rw[Ag]
 refine AF FG (Ar e1 es kN) hm AB AB AB AB AB ?_;obtain⟨ga,hga⟩:∃g,n1+1+1+1=g:=⟨_,rfl⟩
 refine Gb (α:=Nat×DV×Obj×Nat) (λp=>⟨[(0,Am b l),(2,.optr 0 0 3 0 0),(4,i64 (As l)),(6,.prim (.map (some it))),(8,.optr 702 (n1+1+1+1) 3 0 0),(29,Am b l),(30,i64 (l.length:Int)),(31,i64 (i:Int)),(36,.sl false 2 (x.shs.map A0.D)),(37,i64 (x.shs.length:Int)),(38,i64 (p.1:Int))],[⟨702,n1+1+1+1,52,3,[.agg [str (sb x.grain),i64 x.mass,.sl false 2 (x.shs.map A0.D)]]⟩,⟨0,0,52,3,[.agg [.prim (.string ⟨#[]⟩),.prim (.int .i64 0),.prim (.slice none 0 0)]]⟩],p.2.2.2⟩) (λp=>x.shs.length-p.1)
  (λp F=>p.1<=x.shs.length/\DP C0 F0 F [⟨400,11,p.2.2.1⟩]/\F.r0 400 11=some it/\IH F p.2.2.1 p.2.1/\MQ (320*i+5*p.1) (Gt x p.1 (CJ (l.take i))) p.2.1) (0,m,o,_) ⟨BU _,hO,hr0,hM,hQ⟩ AL ?_
 clear hO hr0 hM hQ;rintro⟨j,m2,o2,n2⟩ F ⟨hj,hO,hr0,hM,hQ⟩;dsimp only at hj hO hr0 hM hQ⊢;rw[hga];rcases BA j x.shs.length with h3|h3
 rotate_left
 ·have e2:=Cb h3
  have:j=x.shs.length:=by omega
  subst this;rw[<-Qd l i hxi]at hQ;refine AF FG (Ab e2 wi) AB AB AB AB AB AB ?_;exact⟨(i+1,m2,o2,_),⟨h2,hO,hr0,hM,hQ.mono (by dsimp only;omega)⟩,by dsimp only;omega,AL⟩
 have e2:=CZ h3;have wj:=Cc (i:=j) (by omega);obtain⟨s,hsj⟩:=CU h3;obtain⟨s1,s2,s3⟩:=x3 s (Ay hsj);have hms:(x.shs.map A0.D)[j]?=some (.agg [str (sb s.lot),str (sb s.part)]):=by rw[A8,hsj];rfl
 have hsn:=OR x j (CJ (l.take i)) hsj;have fP:FR (Bd s.part) (Gs s.part) 3:=⟨(R4 s3).is,TO s3 s2⟩
 have fM:FR ((x.mass:Int):Rat) ⟨AX x.mass,1⟩ 1:=Oy (by unfold Sm at x2;omega);have c1:=Rt (by omega) s3;have c2:=Po x.mass x2;have c3:=VB fP fM (by decide);have fZ:FR (Bd s.part*(x.mass:Rat)) (I5 (Gs s.part) ⟨AX x.mass,1⟩) 4:=U6 fP fM;obtain⟨z,hz⟩:∃z,I5 (Gs s.part) ⟨AX x.mass,1⟩=z:=⟨_,rfl⟩
 rw[hz]at c3 fZ;obtain⟨d1,hd1⟩:∃d,(Gs s.part).D=d:=⟨_,rfl⟩
 obtain⟨d2,hd2⟩:∃d,(⟨AX x.mass,1⟩:GF).D=d:=⟨_,rfl⟩
 have pd1:AA d1:=by rw[<-hd1];exact AI
 have pd2:AA d2:=by rw[<-hd2];exact AI
 rw[hd1]at c1 c3;rw[hd2]at c2 c3;refine sZ 900 ?_;refine AD e2 ?_;refine AC.seq ?_;refine AN ?_;refine Aj ?_;refine AC.seq ?_;refine AC.block ?_;refine sZ 1000 ?_;refine Bw kT hms ?_;refine AD kB ?_;refine AC.seq ?_;refine CM 1100 [0,1,2,3,4,5,6,7] [8] ?_;refine AD kB ?_;refine Bb.same _ (c1) AI ?_;refine BO ?_;refine AD kB ?_;refine Bb.same _ (c2) AI ?_;refine BO ?_;refine AD kB ?_;refine Bb.same _ (c3) AI ?_;refine BO ?_;refine AD kB ?_;refine AC.seq ?_;refine AC.seq ?_;refine IS (by kernel_rfl) ?_;change Bh _ _ _ _ _ ([0,1,2]++(3::([4,5,6,7,8,9]++[]))) _ _;refine F5 w1 1200 [0,1,2] _ ?_;refine AD kB ?_;refine Bh.look (xo:=⟨400,11,o2⟩) (l:=m2) w1 rfl rfl rfl rfl rfl rfl hO CO hr0 hM ?_;rcases hQ.look s.lot with⟨q1,q2⟩|⟨r,y,q1,q2,q3⟩
 ·rw[Xo q1]
  refine F5 w1 1200 [4,5,6,7,8,9] [] ?_;refine AD kB ?_;refine Bh.nil ?_;refine BJ ?_;refine sZ 1300 ?_;refine AD kB ?_;refine AN ?_;refine Aj ?_;refine IS (by kernel_rfl) ?_;change Bh _ _ _ _ _ ([0,1,2,3]++(4::[])) _ _;refine F5 w1 1500 [0,1,2,3] _ ?_;refine AD kB ?_;refine Bh.put (l:=m2) w1 rfl rfl rfl rfl rfl rfl hO hr0 hM (λF3 o3 hto3 hO3 hr3 hM3=>Bh.nil ?_);refine BJ ?_;have hQ2:MQ (320*i+5*(j+1)) (Gt x (j+1) (CJ (l.take i))) (Fx (sb s.lot) z.D m2):=by
   rw[hsn];unfold KV;rw[q2];exact MQ.set s.lot ⟨fZ.is,fZ.rk.mono (by omega)⟩ (hQ.mono (by omega))
  refine AF FG wj AB AB AB AB AB AB ?_;exact⟨(j+1,Fx (sb s.lot) z.D m2,o3,_),⟨h3,hO3,hr3,hM3,hQ2⟩,by dsimp only;omega,AL⟩
 ·rw[Xp q1]
  refine F5 w1 1200 [4,5,6,7,8,9] [] ?_;refine AD kB ?_;refine Bh.nil ?_;have c4:=R7 fZ q3 (by omega);have fA:=RQ fZ q3;obtain⟨z2,hz2⟩:∃z2,KR z y=z2:=⟨_,rfl⟩
  rw[hz2]at c4 fA;refine BJ ?_;refine sZ 1300 ?_;refine AD kB ?_;refine AN ?_;refine Ao 1400 ?_;refine AD kB ?_;refine cI c4 ?_;refine AD kB ?_;refine IS (by kernel_rfl) ?_;change Bh _ _ _ _ _ ([0,1,2,3]++(4::[])) _ _;refine F5 w1 1500 [0,1,2,3] _ ?_;refine AD kB ?_;refine Bh.put (l:=m2) w1 rfl rfl rfl rfl rfl rfl hO hr0 hM (λF3 o3 hto3 hO3 hr3 hM3=>Bh.nil ?_);refine BJ ?_;have hQ2:MQ (320*i+5*(j+1)) (Gt x (j+1) (CJ (l.take i))) (Fx (sb s.lot) z2.D m2):=by
   rw[hsn];unfold KV;rw[q2];exact MQ.set s.lot ⟨fA.is,fA.rk.mono (by omega)⟩ (hQ.mono (by omega))
  refine AF FG wj AB AB AB AB AB AB ?_;exact⟨(j+1,Fx (sb s.lot) z2.D m2,o3,_),⟨h3,hO3,hr3,hM3,hQ2⟩,by dsimp only;omega,AL⟩
abbrev oK:Dr:=[(1,[0,1,2,3,4,5],[6,7])]
open Go.Proofs Go.RowKit Go.Sort
set_option maxRecDepth 20000
set_option maxHeartbeats 4000000
theorem e0F {C:A9}{f sz:Nat}{ds:List D}{Φ:D->Prop}(h1:AZ C f (CS::ds) Φ)(h2:AZ C f (.sl true sz []::ds) Φ):AZ C f (.sl false sz []::ds) Φ:=by
 refine⟨h1.1,λX w vs a b c e g=>?_⟩;have g0:=g 0 _ rfl;generalize hv:vs.getD 0 undef=v at g0;cases g0 with
 |nil=>
  refine h1.2 X w vs a b c e λi d hd=>?_
  match i with
  | 0=>cases hd;rw[hv];exact .prim _
  |i+1=>exact g (i+1) d hd
 |emp a0=>
  refine h2.2 X w vs a b c e λi d hd=>?_
  match i with
  | 0=>cases hd;rw[hv];exact .emp a0
  |i+1=>exact g (i+1) d hd
 |sl f hl hc hO hb hz hcell ho h=>
  refine h2.2 X w vs a b c e λi d hd=>?_
  match i with
  | 0=>cases hd;rw[hv];exact .sl f hl hc hO hb hz hcell ho h
  |i+1=>exact g (i+1) d hd
theorem IA {H Hf:Hp}{k g T sz:Nat}{l:List D}(he:Hp.get H k=some ⟨k,g,T,sz,l⟩)(hf:Hp.get Hf k=none:=by rfl):Fz H Hf (.osl k g sz 0 l.length) (.sl false sz l):=by
 refine .osl (e:=⟨k,g,T,sz,l⟩) he hf rfl rfl (by simp) (by simp) (λj d d' h1 h2=>?_) λj d d' q c c' h1 h2 h3 h4=>?_
 ·rw[BZ]at h1;rw[h1]at h2;cases h2;rfl
 ·rw[BZ]at h1;rw[h1]at h2;cases h2;rw[h3]at h4;cases h4;exact Fz.refl _
theorem pD (s:List A0)(hl:s.length<=1000000):AK C0 117 [D5 false s] (D5 false s):=by
 unfold D5;rcases s with _|⟨z,s⟩
 ·refine e0F ?_ ?_
  ·refine AZ.walk w1 SA rfl λF=>?_
   refine AF AU kB AB AB AB AB AB AB ?_;exact⟨_,.nil 2,AA.out,rfl⟩
  ·refine AZ.walk w1 SA rfl λF=>?_
   refine AF AU kB AB AB AB AB AB AB ?_;exact⟨_,.osl (e:=⟨302,5,66,2,[]⟩) rfl rfl rfl rfl (Al _) rfl (λj d d' h=>by simp at h) (λj d d' q c c' h=>by simp at h),AA.out,rfl⟩
 ·refine AZ.walk w1 SA rfl λF=>?_
  obtain⟨T,hT⟩:∃T,List.map A0.D (z::s)=T:=⟨_,rfl⟩
  have pT:AA (.sl false 2 T):=by rw[<-hT];exact AI
  have hne:T≠[]:=by rw[<-hT];simp
  have hlT:T.length<=1000000:=by rw[<-hT,Ag];exact hl
  rw[hT];refine AF AU hne AB AB AB AB AB AB ?_;exact⟨_,by rw[BZ];exact IA rfl,pT.out,rfl⟩
theorem dA (x:AE)(m:Int)(hl:x.shs.length<=1000000):AK C0 74 [x.D,i64 m] ((⟨x.grain,m,x.shs⟩:AE).D):=by
 refine AZ.walk w1 gR rfl λF=>?_
 have cC:=pD x.shs hl;unfold AE.D;dsimp only;unfold D5 at cC⊢;obtain⟨SD,hSD⟩:∃d,x.shs.map A0.D=d:=⟨_,rfl⟩
 have pS:AA (.sl false 2 SD):=by rw[<-hSD];exact AI
 rw[hSD]at cC⊢;refine AF AU kB cC AB AB AB AB AB ?_;exact AJ rfl AA.out
theorem no (b:Bool)(l:List AE)(hl:l.length<=1000000)(h0:l≠[])(H:Hp)(n:Nat):Ct C0 56 [Am b l] H n
  (λd H' n'=>∃g,d=.osl 302 g 3 0 l.length/\H'=⟨302,g,52,3,l.map AE.D⟩::H/\n'=n+7):=by
 refine Ct.walk w1 gA rfl λF=>?_
 unfold Am;obtain⟨T,hT⟩:∃T,l.map AE.D=T:=⟨_,rfl⟩
 have pT:AA (.sl b 3 T):=by rw[<-hT];exact AI
 have hne:T≠[]:=by rw[<-hT];simpa using h0
 have hlT:T.length<=1000000:=by rw[<-hT,Ag];exact hl
 rw[hT,<-Ag (f:=AE.D),hT];cases b
 all_goals
  refine sZ 0 ?_;refine AD kB ?_;refine AC.seq ?_;refine sZ 100 ?_;refine AD kB ?_;refine AN ?_;refine Aj ?_;refine sZ 300 ?_;refine AD kB ?_;refine Ad ?_;exact⟨_,by rw[BZ],rfl,rfl⟩
theorem vm (b:Bool)(x y:AE)(l:List AE):AK C0 116 [x.D,  .pptr (.sl b 3 ((y::l).map AE.D))] (Ai (!BI (sb x.grain) (sb y.grain))):=by
 refine AZ.walk w1 bn rfl λF=>?_
 have hm:((y::l).map AE.D)[0]?=some (.agg [str (sb y.grain),i64 y.mass,.sl false 2 (y.shs.map A0.D)]):=rfl;obtain⟨T,hT⟩:∃T,(y::l).map AE.D=T:=⟨_,rfl⟩
 have pT:AA (.sl b 3 T):=by rw[<-hT];exact AI
 obtain⟨S,hS⟩:∃S,x.shs.map A0.D=S:=⟨_,rfl⟩
 have pS:AA (.sl false 2 S):=by rw[<-hS];exact AI
 rw[hT]at hm⊢;unfold AE.D D5;rw[hS];refine AF oK kB hm AB AB AB AB AB ?_;exact AJ rfl AA.out
theorem vp (b:Bool)(l:List AE)(c:D)[pc:AA c](p:AE->Bool)(hl:l.length<=1000000)(hc:∀x∈l,AK C0 116 [x.D,c] (Ai (p x))):AK C0 152 [Am b l,.clo (.func 116) [] [c]] (i64 (Ji p l)):=by
 refine AZ.walk w1 cj rfl λF=>?_
 have el:(((l.map AE.D).length:Nat):Int)=(l.length:Int):=by rw[Ag]
 refine AF AU el AB AB AB AB AB AB ?_;refine AC.loop (α:=Nat×Nat) (λp=>⟨[(0,Am b l),(1,.clo (.func 116) [] [c]),(7,i64 l.length),(8,i64 (p.1:Int))],[],p.2⟩) (λp=>l.length-p.1) (λq=>q.1<=l.length/\∀(j:Nat) (x:AE),j<q.1->l[j]?=some x->p x=false) (0,_) ⟨BU _,λj x hj=>Af hj (FN j)⟩ AL ?_;rintro⟨i,n⟩ F ⟨hi,ha⟩;dsimp only at hi ha⊢;rcases BA i l.length with h2|h2
 rotate_left
 ·have e1:=Cb h2
  have:i=l.length:=by omega
  subst this;refine AF AU e1 AB AB AB AB AB AB ?_;exact AJ (by rw[Qx ha]) AA.out
 have e1:=CZ h2;have wi:=Cc (i:=i) (by omega);obtain⟨x,hx⟩:=CU h2;have hm:(l.map AE.D)[i]?=some (.agg [str (sb x.grain),i64 x.mass,.sl false 2 (x.shs.map A0.D)]):=by rw[A8,hx];rfl
 have cn:=hc x (Ay hx);unfold AE.D at cn;cases hb:p x
 ·rw[hb]at cn
  refine AF AU (Ar e1 wi kN) hm cn AB AB AB AB ?_;refine⟨(i+1,_),⟨h2,λj z hj hjz=>?_⟩,by dsimp only;omega,AL⟩;rcases BA j i with h|h
  ·exact ha j z h hjz
  ·have:j=i:=by dsimp only at hj;omega
   subst this;rw[hx]at hjz;cases hjz;exact hb
 ·rw[hb]at cn
  refine AF AU (Ar e1 wi kN) hm cn AB AB AB AB ?_;exact AJ (by rw[Ri hx hb ha]) AA.out
theorem vo (b:Bool)(l:List AE)(c:D)[pc:AA c](p:AE->Bool)(hl:l.length<=1000000)(hc:∀x∈l,AK C0 116 [x.D,c] (Ai (p x))):AK C0 115 [Am b l,.clo (.func 116) [] [c]] (Ai (l.any p)):=by
 refine AZ.walk w1 bj rfl λF=>?_
 have c1:=vp b l c p hl hc;have e1:=Rj p l;refine AF AU e1 c1 AB AB AB AB AB ?_;exact AJ rfl AA.out
theorem Xw (b:Bool)(l:List AE)(hl:l.length<=1000000):AK C0 73 [Am b l] (i64 (if Cm l then 0 else 16:Nat)):=by
 refine AZ.walk w1 gQ rfl λF=>?_
 have cH:AK C0 115 [Am b l,.clo (.func 116) [] [.pptr (Am b l)]] (Ai (!Cm l)):=by
  have:=vo b l (.pptr (Am b l)) (λx=>!BI (sb x.grain) (sb (Ca l 0).grain)) hl λx hx=>by
   rcases l with _|⟨y,l⟩
   ·cases hx
   ·exact vm b x y l
  have he:(l.any λx=>!BI (sb x.grain) (sb (Ca l 0).grain)) = !Cm l:=by
   unfold Cm;rw[List.not_all_eq_any_not]
  rwa [he]at this
 have cW:=Gq (!Cm l) 16;refine AF AU kB cH cW AB AB AB AB ?_;refine A7.own _ (Jk cH rfl (λi a d h1 h2=>by
  match i with
  | 0=>cases h1;cases h2;exact .refl _ _
  | 1=>cases h1;cases h2;exact .clo1 (.ptr rfl rfl rfl rfl)
  |n+2=>cases h1) AI (.prim _)) ?_
 rintro d H' n' ⟨rfl,rfl,rfl⟩;refine AF AU kB cW AB AB AB AB AB ?_;exact AJ (by cases Cm l<;>rfl) AA.out
theorem Is {l:List AE}(h:CG l=0):l.length<=64/\(∀x∈l,Ce x=0)/\As l<=999999999:=by
 unfold CG at h;split at h
 ·cases h
 ·split at h
  ·rename_i h3;exact Af h h3
  ·split at h
   ·cases h
   ·refine⟨by omega,λx hx=>?_,by omega⟩
    obtain⟨j,hj⟩:=Lh.1 hx
    have:=Om (f:=λi=>Ce (Ca l i)) (n:=l.length) (by omega) j (BQ.1 hj).1
    rwa [GC hj]at this
theorem Xt {l:List AE}(hf:∀x∈l,x.lite)(hz:∀x∈l,Ce x=0)(hl:l.length<=64):(∀x∈l,x.ok)/\Hl (λk=>k.length<=1000) 4096 (CJ l):=by
 have hx:∀x∈l,x.ok:=λx h=>(Rx (hf x h) (hz x h)).1
 exact⟨hx,(Tm λx h=>⟨(hx x h).1,λs hs=>((hf x h).2 s hs).1⟩).mono (by omega)⟩
def No (l:List AE):Nat:=if CG l≠0 then CG l else II (CJ l)
def Np (l:List AE):BW:=if CG l≠0 then[]else Jd (CJ l)
theorem zC (b:Bool)(l:List AE)(hl:l.length<=1000000)(hf:∀x∈l,x.lite):AK C0 20 [Am b l] (.tup [.sl false 2 ((Np l).map Bu),i64 (No l:Nat)]):=by
 refine AZ.walk w1 fL rfl λF=>?_
 have cP:=Nv b l (by omega) λx hx=>(hf x hx).1
 have hR:Np l=if CG l≠0 then[]else Jd (CJ l):=rfl
 have hE:No l=if CG l≠0 then CG l else II (CJ l):=rfl
 rcases Nat.decEq (CG l) 0 with g|g
 ·have e1:=GX g
  rw[AH g]at hR hE;rw[hR,hE];refine AF AU e1 cP AB AB AB AB AB ?_;exact⟨_,Hh (.nil 2) (.refl _),AA.out,rfl⟩
 have e1:=Gw g;rw[AG (λh=>h g)]at hR hE;rw[hR,hE];obtain⟨g1,g2,g3⟩:=Is g;obtain⟨hx,hK⟩:=Xt hf g2 g1;have cL:=iA b l (by omega) hx;refine AF AU e1 cP AB AB AB AB AB ?_;refine A7.prop _ _ (Et.refl _) cL AI ?_;rintro d ⟨m,rfl,hQ⟩;have cA:=ZC 32000 (by omega) (CJ l) m hQ (BT hK.len (by omega)) hK.nd;have pM:AA (mapD m):=⟨hQ.mapD⟩
 unfold KJ at cA;obtain⟨M,hM⟩:∃M,mapD m=M:=⟨_,rfl⟩
 rw[hM]at cA pM⊢;refine AF AU kB cA AB AB AB AB AB ?_;exact AJ rfl AA.out
def FL (p:List UInt8×List UInt8):D:=.agg [str (sb p.1),str (sb p.2)]
instance  (p:List UInt8×List UInt8):AO (FL p):=by unfold FL;exact AI
instance  (p:List UInt8×List UInt8):AA (FL p):=by unfold FL;exact AI
theorem yv (l:List UInt8)(hl:l.length<=1000000):AK C0 11 [str (sb l)] (i64 (if B4 l then 0 else 8)):=by
 refine AZ.walk w1 x5 rfl λF=>?_
 have c:=WA l hl;obtain⟨K,hK⟩:∃K,B4 l=K:=⟨_,rfl⟩
 rw[hK]at c⊢;cases K
 ·refine AF AU kB c AB AB AB AB AB ?_
  exact AJ rfl AA.out
 ·refine AF AU kB c AB AB AB AB AB ?_
  exact AJ rfl AA.out
theorem eA (v:List Int)(hl:v.length<=1000):AK C0 9 [.sl true 1 (v.map λe=>i64 e)] (i64 (D3 v)):=by
 refine AZ.walk w1 zP rfl λF=>?_
 have el:(((v.map λe=>i64 e).length:Nat):Int)=(v.length:Int):=by rw[Ag]
 refine AF AU el AB AB AB AB AB AB ?_;refine AC.loop (α:=Nat×Nat) (λp=>⟨[(5,.sl true 1 (v.map λe=>i64 e)),(6,i64 (v.length:Int)),(7,i64 (p.1:Int))],[],p.2⟩) (λp=>v.length-p.1) (λp=>p.1<=v.length/\∀(j:Nat) (e:Int),j<p.1->v[j]?=some e->e=0) (0,_) ⟨BU _,λj e h=>Af h (FN j)⟩ AL ?_;rintro⟨i,m⟩ F ⟨hi,ha⟩;dsimp only at hi ha⊢;rcases BA i v.length with h2|h2
 rotate_left
 ·have e1:=Cb h2
  have:i=v.length:=by omega
  subst this;have hd:D3 v=0:=by rw[QU ha,Jr];rfl
  rw[hd];refine AF AU e1 AB AB AB AB AB AB ?_;exact AJ rfl AA.out
 have e1:=CZ h2;have wi:=Cc (i:=i) (by omega);obtain⟨l,hl'⟩:=CU h2;have hm:(v.map λe=>i64 e)[i]?=some (i64 l):=by rw[A8,hl'];rfl
 by_cases g:l=0
 ·have e5:(l != 0)=false:=by rw[g];rfl
  refine AF AU (BS e1 wi e5 kN) hm AB AB AB AB AB ?_;exact⟨(i+1,_),⟨h2,λj e hj he=>by
   rcases Jl.1 hj with q|q
   ·exact ha j e q he
   ·subst q;rw[hl']at he;cases he;exact g⟩,by dsimp only;omega,AL⟩
 ·have e5:(l != 0)=true:=Hg g
  have hd:D3 v=l:=by
   rw[QU ha,EN h2];rw[Bo h2]at hl';rw[F8 hl'];exact AH g
  rw[hd];refine AF AU (BS e1 wi e5 kN) hm AB AB AB AB AB ?_;exact AJ rfl AA.out
def A0.shB (s:A0):Bool:=decide (s.lot.length<=100)&&decide (s.part.length<=14)
def AE.shB (x:AE):Bool:=decide (x.grain.length<=100)&&(decide (x.shs.length<=8)||decide (64<x.shs.length))&&decide (x.shs.length<=80)&&x.shs.all A0.shB
def HF (l:List AE):Bool:=l.all AE.shB&&(decide (l.length<=8)||(decide (64<l.length)&&decide (l.length<=80)))
theorem DO.clo2 {H:Hp}{fn:Fn}{c c' x x':D}(h:DO H c c')(k:DO H x x'):DO H (.clo fn [] [c,x]) (.clo fn [] [c',x']):=λC F ρ w m hO hN v hv=>by
 cases hv with
 |clo hf hc h1 h2=>
  refine .clo hf (by simpa using hc) (λi d hd=>by simp at hd) λi d hd=>?_
  match i with
  | 0=>
   simp at hd;subst hd;exact h C F ρ w m hO hN _ (h2 0 _ rfl)
  | 1=>
   simp at hd;subst hd;exact k C F ρ w m hO hN _ (h2 1 _ rfl)
  |i+2=>simp at hd
theorem Uc (b bk:Bool)(T:List D)[pT:AA (.sl b 3 T)]:AK C0 110 [.sl b 3 T,Ai bk] (.clo (.func 150) [] [.pptr (.sl b 3 T),.pptr (Ai bk)]):=by
 refine e0G w1 be rfl λF=>?_
 have hp:CC (.clo (.func 150) [] [.pptr (.sl b 3 T),.pptr (Ai bk)]):=(AI:AA (.clo (.func 150) [] [.pptr (.sl b 3 T),.pptr (Ai bk)])).out;refine fR 0 ?_;refine fR 100 ?_;refine Ad ?_;exact⟨_,.clo2 (.ptr rfl rfl rfl rfl) (.ptr rfl rfl rfl rfl),hp,rfl⟩
theorem V8 {E:GD}{l:Nat}{R:LR}(hE:GD.ok E)(b bk:Bool)(T:List D)[pT:AA (.sl b 3 T)](hT:∀x∈T,∃a c d,x=.agg [a,c,d])(hl:T.length<=1000000)
  {σ:Type} (S:Nat->σ->Hp) (P:Nat->σ->Prop) (c:Code) (Z:Hp->Prop) (a0:σ) (h0:P 0 a0) (n0:Nat)
  (hY:∀k a x n,P k a->k<T.length->T[if bk then T.length-1-k else k]?=some x->Rq C0 E l R [x] (S k a) n (λj H' _=>(j=none/\∃a',P (k+1) a'/\Cw H' (S (k+1) a') H' (S (k+1) a'))\/(j=some c/\Z H'))):
  PF C0 E 150 [.clo (.yield l) [] [],.pptr (.sl b 3 T),.pptr (Ai bk)] l R (S 0 a0) n0 (λj _ H' _=>(j=none/\∃a,P T.length a/\H'=S T.length a)\/(j=some c/\Z H')):=by
 refine PF.walk w1 hE ce rfl λB F hR=>?_
 obtain⟨N,hN⟩:∃N,T.length=N:=⟨_,rfl⟩
 rw[hN]at hY hl⊢;have el:((T.length:Nat):Int)=(N:Int):=by rw[hN]
 refine sZ 0 ?_;refine AD el ?_;refine AC.block ?_;refine Gb (α:=Nat×σ×Nat) (λp=>⟨[(0,.clo (.yield l) [] []),(1,.pptr (.sl b 3 T)),(2,.pptr (Ai bk)),(6,i64 (N:Int)),(7,i64 (p.1:Int))],S p.1 p.2.1,p.2.2⟩) (λp=>N-p.1)
  (λp F=>MR C0 E B F l R/\p.1<=N/\P p.1 p.2.1) (0,a0,_) ⟨hR,BU _,h0⟩ AL ?_
 clear hR;rintro⟨i,a,m⟩ F ⟨hR,h1,hP⟩;dsimp only at h1 hR hP⊢;refine sR 100 ?_;refine AC.seq ?_;refine AN ?_
 (refine B1 (λh8=>?_) (λh8=>?_))<;>(try simp only[Bl,Bz]at h8)<;>(try simp only[h8])
 ·have hi:i<N:=by
   have:=DJ h8
   omega
  have a3:IntKind.i64.wrap ((i:Int)+1)=((i+1:Nat):Int):=wI;have a4:IntKind.i64.wrap ((N:Int)-1)=((N-1:Nat):Int):=by rw[wI];omega
  have a5:IntKind.i64.wrap (((N-1:Nat):Int)-(i:Int))=((N-1-i:Nat):Int):=by rw[wI];omega
  have hq:(if bk then N-1-i else i)<T.length:=by rw[hN];split<;>omega
  obtain⟨x,hx⟩:∃x,T[if bk then N-1-i else i]?=some x:=⟨_,Bo hq⟩
  have hy:=λn=>hY i a x n hP hi hx
  obtain⟨x1,x2,x3,rfl⟩:=hT x (Ay hx);refine Aj ?_;refine AC.seq ?_;refine AC.block ?_;refine sR 200 ?_;refine AC.seq ?_;refine sR 300 ?_;cases bk
  ·replace hx:T[i]?=some (.agg [x1,x2,x3]):=hx
   refine AN ?_;refine Aj ?_;refine AC.seq ?_;refine ik w1 500 [0,1,2,3,4] 5 [6] rfl (by kernel_rfl) hR ?_;refine BO ?_;refine Bw kT hx ?_;refine BK ⟨rfl,trivial⟩ ?_;refine BO ?_;refine⟨rfl,_,hy _,?_,?_⟩
   ·rintro H2 n2 (⟨_,a',hP',hf⟩|⟨h,-⟩)
    rotate_left
    ·cases h
    refine BK (by exact CF) ?_;refine BJ ?_;refine AN ?_;refine Aj ?_;refine Ao 600 ?_;refine AW a3 ?_;exact⟨(i+1,a',_),⟨hR,hi,hP'⟩,(by dsimp only;omega),AL (a:=hf)⟩
   ·rintro c2 H2 n2 (⟨h,-⟩|⟨h,hZ⟩) F2 hst
    ·cases h
    cases h;refine BO ?_;refine AN ?_;refine AC.weak ⟨[],H2,_⟩ AL ?_;refine AC.ret ?_;exact⟨_,hst,trivial,.inr ⟨rfl,hZ⟩⟩
  ·replace hx:T[N-1-i]?=some (.agg [x1,x2,x3]):=hx
   refine AN ?_;refine Ao 400 ?_;refine AW (Ar a4 a5 el) ?_;refine AC.seq ?_;refine ik w1 500 [0,1,2,3,4] 5 [6] rfl (by kernel_rfl) hR ?_;refine BO ?_;refine Bw kT hx ?_;refine BK ⟨rfl,trivial⟩ ?_;refine BO ?_;refine⟨rfl,_,hy _,?_,?_⟩
   ·rintro H2 n2 (⟨_,a',hP',hf⟩|⟨h,-⟩)
    rotate_left
    ·cases h
    refine BK (by exact CF) ?_;refine BJ ?_;refine AN ?_;refine Aj ?_;refine Ao 600 ?_;refine AW a3 ?_;exact⟨(i+1,a',_),⟨hR,hi,hP'⟩,(by dsimp only;omega),AL (a:=hf)⟩
   ·rintro c2 H2 n2 (⟨h,-⟩|⟨h,hZ⟩) F2 hst
    ·cases h
    cases h;refine BO ?_;refine AN ?_;refine AC.weak ⟨[],H2,_⟩ AL ?_;refine AC.ret ?_;exact⟨_,hst,trivial,.inr ⟨rfl,hZ⟩⟩
 ·have hi:i=N:=by
   have:=Db h8
   omega
  subst hi;refine CK ?_;exact⟨none,hR.stat,trivial,.inl ⟨rfl,a,hP,rfl⟩⟩
def AE.w (x:AE)(m:Int):AE:=⟨x.grain,m,x.shs⟩
def Id:List AE->Int->List AE
 | [],_=>[]
 |x::r,m=>x.w (min x.mass m)::if m-x.mass<=0 then[]else Id r (m-x.mass)
def H4 (g1:Nat)(p:List AE×Int×Nat):Hp:=EC 408 p.2.2 52 3 (p.1.map AE.D)++[⟨100,g1,37,1,[EI 408 p.2.2 3 (p.1.map AE.D)]⟩,⟨0,0,3,1,[i64 p.2.1]⟩]
theorem aZ (g1:Nat)(m:Int)(g:Nat):H4 g1 ([],m,g)=[⟨100,g1,37,1,[CS]⟩,⟨0,0,3,1,[i64 m]⟩]:=rfl
theorem UQ (g1:Nat)(z:AE)(o:List AE)(m:Int)(g:Nat):H4 g1 (z::o,m,g)=[⟨408,g,52,3,z.D::o.map AE.D⟩,⟨100,g1,37,1,[.osl 408 g 3 0 ((o.map AE.D).length+1)]⟩,⟨0,0,3,1,[i64 m]⟩]:=rfl
def QN (L:List AE)(m:Int)(k:Nat)(p:List AE×Int×Nat):Prop:=p.1.length=k/\p.1++Id (L.drop k) p.2.1=Id L m/\0<=p.2.1/\p.2.1<=1000000000000
def LT (bk:Bool)(l:List AE):List AE:=if bk then l.reverse else l
theorem wT (bk:Bool)(l:List AE){k:Nat}(hk:k<l.length):(l.map AE.D)[if bk then(l.map AE.D).length-1-k else k]?=((LT bk l)[k]?).map AE.D:=by
 unfold LT;rw[Ag,A8];cases bk
 ·rfl
 ·simp only[if_true]
  rw[List.getElem?_reverse hk]
theorem aX (b bk:Bool)(l:List AE)(m:Int)(hl:l.length<=1000000)(hm:0<=m/\m<=1000000000000)(hx:∀x∈l,0<=x.mass/\x.mass<=1000000000)
  (ho:∀x∈l,∀m,AK C0 74 [x.D,i64 m] (x.w m).D) (R:D) [pR:AA R] (hN:AK C0 64 [Am false (Id (LT bk l) m)] R):
  AK C0 113 [Am b l,i64 m,Ai bk] R:=by
 refine AZ.walk w1 bi rfl λF=>?_
 have cV:=Uc b bk (l.map AE.D);have hT:∀x∈l.map AE.D,∃a c d,x=.agg [a,c,d]:=λx hx=>by
  obtain⟨y,-,rfl⟩:=By.1 hx;exact⟨_,_,_,rfl⟩
 have hoL:∀k,k<l.length->∃x,x∈l/\(LT bk l)[k]?=some x:=λk hk=>by
  unfold LT;cases bk
  ·exact⟨_,List.getElem_mem hk,Bo hk⟩
  ·simp only[if_true]
   rw[List.getElem?_reverse hk]
   have:l.length-1-k<l.length:=by omega
   exact⟨_,List.getElem_mem this,Bo this⟩
 have hlen:(LT bk l).length=l.length:=by unfold LT;cases bk<;>simp
 obtain⟨L,hL⟩:∃L,LT bk l=L:=⟨_,rfl⟩
 have hoA:=λk (hk:k<l.length)=>wT bk l hk
 rw[hL]at hoL hoA hN hlen;unfold Am;obtain⟨T,hTT⟩:∃T,l.map AE.D=T:=⟨_,rfl⟩
 have pT:AA (.sl b 3 T):=by rw[<-hTT];exact AI
 have hTl:T.length=l.length:=by rw[<-hTT,Ag]
 rw[hTT]at cV hT hoA⊢;refine sR 0 ?_;refine sR 100 ?_;refine AC.seq ?_;refine sR 200 ?_;refine cI cV ?_;refine AC.block ?_;have h0:QN L m 0 ([],m,0):=⟨rfl,rfl,hm⟩
 refine AC.rangeFunc (fi:=150) (first:=[]) (captured:=[.pptr (.sl b 3 T),.pptr (Ai bk)]) (Ψ:=λj _ H' _=>(j=none/\∃a,QN L m T.length a/\H'=H4 2 a)\/(j=some (.exit 0)/\∃m' g,H'=H4 2 (Id L m,m',g))) rfl
  (λds H n Φ=>∃k a x,QN L m k a/\k<T.length/\T[if bk then T.length-1-k else k]?=some x/\ds=[x]/\H=H4 2 a/\Φ=λj H' _=>(j=none/\∃a',QN L m (k+1) a'/\Cw H' (H4 2 a') H' (H4 2 a'))\/(j=some (.exit 0)/\∃m' g,H'=H4 2 (Id L m,m',g))) ?_
  (λE l' R' hE hY=>V8 hE b bk T hT (by omega) (λ_ a=>H4 2 a) (QN L m) (.exit 0) (λH'=>∃m' g,H'=H4 2 (Id L m,m',g)) ([],m,0) h0 _ λk a x n hP hk hx=>hY _ _ _ _ ⟨k,a,x,hP,hk,hx,rfl,rfl,rfl⟩) ?_
 ·rintro l' ds H n Φ ⟨k,⟨o,m',g⟩,x,⟨p1,p2,p3,p4⟩,hk,hxT,rfl,rfl,rfl⟩
  dsimp only at p1 p2 p3 p4;obtain⟨y,hy1,hy2⟩:=hoL k (by omega);rw[hoA k (by omega),hy2]at hxT;cases hxT;have hd:L.drop k=y::L.drop (k+1):=by
   have:=(BQ.1 hy2)
   rw[EN this.1,this.2]
  rw[hd]at p2;have hb:=hx y hy1;have cO:=ho y hy1 (min y.mass m');have p5:(o++[y.w (min y.mass m')])++(if m'-y.mass<=0 then[]else Id (L.drop (k+1)) (m'-y.mass))=Id L m:=by
   rw[<-p2,EE];rfl
  have a1:IntKind.i64.wrap (m'-y.mass)=m'-y.mass:=wI;refine⟨rfl,λF=>?_⟩;unfold AE.w AE.D at cO;unfold AE.D;dsimp only at cO⊢;obtain⟨SD,hSD⟩:∃d,D5 false y.shs=d:=⟨_,rfl⟩
  have pS:AA SD:=by rw[<-hSD];exact AI
  rw[hSD]at cO⊢;rcases o with _|⟨z,o⟩
  ·rw[aZ]
   dsimp only[HG];refine Ao 300 ?_;refine AD kB ?_;refine⟨trivial,trivial,λF'=>?_⟩;refine AC.block ?_;refine AC.seq ?_;refine CM 400 [0,1,2,3,4,5,6,7] [8,9] ?_;refine BO ?_;refine Bb.same _ (cO) AI ?_;refine BO ?_;refine sZ 500 ?_;refine AW a1 ?_;refine sR 600 ?_;refine AC.weak ⟨[(27,Ai (decide (m'-y.mass<=0)))],[⟨408,n+1+1+10,52,3,[.agg [str (sb y.grain),i64 (min y.mass m'),SD]]⟩,⟨100,2,37,1,[.osl 408 (n+1+1+10) 3 0 1]⟩,⟨0,0,3,1,[i64 (m'-y.mass)]⟩],_⟩ AL ?_;rw[<-hSD]
   by_cases hz:m'-y.mass<=0
   ·rw[Au hz]
    rw[AH hz,Dm]at p5;refine AN ?_;refine CK ?_;refine .inr ⟨rfl,m'-y.mass,n+1+1+10,?_⟩;rw[<-p5];rfl
   ·rw[Av hz]
    rw[AG hz]at p5;refine AN ?_;refine Aj ?_;exact .inl ⟨rfl,([y.w (min y.mass m')],m'-y.mass,n+1+1+10),⟨by rw[<-p1];rfl,p5,by dsimp only;omega,by dsimp only;omega⟩,Hb _⟩
  ·have wl:AA (.sl false 3 ((z::o).map AE.D)):=AI
   have hol:o.length<=1000000:=by rw[Bq]at p1;omega
   rw[Cs]at wl;rw[UQ];dsimp only[HG];obtain⟨O,hO⟩:∃O,o.map AE.D=O:=⟨_,rfl⟩
   obtain⟨zD,hzD⟩:∃O,z.D=O:=⟨_,rfl⟩
   have hOl:O.length=o.length:=by rw[<-hO,Ag]
   rw[hO,hzD];refine Ao 300 ?_;refine AD kB ?_;refine⟨trivial,trivial,λF'=>?_⟩;refine AC.block ?_;refine AC.seq ?_;refine CM 400 [0,1,2,3,4,5,6,7] [8,9] ?_;refine BO ?_;refine Bb.same _ (cO) AI ?_;refine BO ?_;rw[show List.take (O.length+1) (zD::O)=zD::O from C6 (l:=zD::O)];refine sZ 500 ?_;refine AW a1 ?_;refine sR 600 ?_;refine AC.weak ⟨[(27,Ai (decide (m'-y.mass<=0)))],[⟨408,n+1+1+10,52,3,zD::O++[.agg [str (sb y.grain),i64 (min y.mass m'),SD]]⟩,⟨100,2,37,1,[.osl 408 (n+1+1+10) 3 0 (O.length+1+1)]⟩,⟨0,0,3,1,[i64 (m'-y.mass)]⟩],_⟩ AL ?_;have hs:∀g' mm,H4 2 (z::o++[y.w (min y.mass m')],mm,g')=[⟨408,g',52,3,zD::O++[.agg [str (sb y.grain),i64 (min y.mass m'),SD]]⟩,⟨100,2,37,1,[.osl 408 g' 3 0 (O.length+1+1)]⟩,⟨0,0,3,1,[i64 mm]⟩]:=λg' mm=>by
    rw[E2,UQ,<-hO,<-hzD,<-hSD,DK];rw[Bp];rfl
   rw[<-hs]
   by_cases hz:m'-y.mass<=0
   ·rw[Au hz]
    rw[AH hz,Dm]at p5;refine AN ?_;refine CK ?_;exact .inr ⟨rfl,m'-y.mass,n+1+1+10,by rw[<-p5];rfl⟩
   ·rw[Av hz]
    rw[AG hz]at p5;refine AN ?_;refine Aj ?_;exact .inl ⟨rfl,(z::o++[y.w (min y.mass m')],m'-y.mass,n+1+1+10),⟨by rw[<-p1];simp,p5,by dsimp only;omega,by dsimp only;omega⟩,Hb _⟩
 ·rintro j d H' n' F' hE
  have hE2:∃m' g,H'=H4 2 (Id L m,m',g)/\(j=none\/j=some (.exit 0)):=by
   rcases hE with⟨hj,⟨o,m',g⟩,⟨p1,p2,-,-⟩,rfl⟩|⟨hj,m',g,rfl⟩
   ·refine⟨m',g,?_,.inl hj⟩
    dsimp only at p2;rw[List.drop_eq_nil_of_le (by omega)]at p2;rw[show o=Id L m by rw[<-p2];exact(Dm o).symm]
   ·exact⟨m',g,rfl,.inr hj⟩
  obtain⟨m',g,rfl,hj⟩:=hE2;obtain⟨o,hO⟩:∃o,Id L m=o:=⟨_,rfl⟩
  rw[hO]at hN⊢;rcases o with _|⟨z,o⟩
  ·rw[aZ]
   rcases hj with rfl|rfl
   all_goals
    change AC _ _ _ _ _ _ _;refine sR 700 ?_;refine A7.pure [.sl false 3 []] _ ⟨.nil 3,trivial⟩ hN AI ?_;refine BO ?_;refine Ad ?_;exact AJ rfl pR.out
  ·have hR:=IA (H:=H4 2 (z::o,m',g)) (Hf:=[]) (k:=408) (g:=g) (T:=52) (sz:=3) (l:=(z::o).map AE.D) rfl
   have hle:((z::o).map AE.D).length=(o.map AE.D).length+1:=rfl;rw[hle]at hR;rw[UQ]at hR⊢;rcases hj with rfl|rfl
   all_goals
    change AC _ _ _ _ _ _ _;refine sR 700 ?_;refine A7.own _ (Mk [] hN (.drop (.drop (.drop .nil))) ⟨hR,trivial⟩ AI) ?_;rintro d H2 n2 ⟨rfl,rfl,rfl⟩;refine BO ?_;refine Ad ?_;exact AJ rfl pR.out
def Se (H:Hp)(env:Ap):Ap->Prop
 | []=>True
 |(t,d)::r=>DO H (env.get t) d/\Se H env r
theorem Se.get {H:Hp}{env:Ap}:∀ {env':Ap},Se H env env'->∀t,DO H (env.get t) (env'.get t)
 | [],_,t=>λ_ _ _ _ _ _ _ v _=>.any v
 |(k,d)::r,h,t=>by
  simp only[Ap.get];cases hb:Nat.beq k t with
  |true=>
   have:=CA hb
   subst this;exact h.1
  |false=>exact h.2.get t
theorem im {C:A9}{B F:AY}{rd:Option Nat}{c:Code}{s:St}{Q:Exit->AY->St->Prop}(env':Ap)(he:Se s.H s.env env')(h:AC C B rd F c ⟨env',[],s.n⟩ Q):AC C B rd F c s Q:=⟨λhB hd ρ a w hs=>by
 have hH:Cw s.H [] s.H []:=by
  generalize s.H=H0
  have:∀H1:Hp,Cw H0 [] H1 []:=λH1=>by
   induction H1 with
   |nil=>exact .nil
   |cons e r ih=>exact .drop ih
  exact this H0
 obtain⟨m,hO,hN⟩:=hH.mem hs.mem;exact h.out hB hd ρ a w ⟨m,hs.fresh,by simp,λt=>he.get t _ _ _ _ hs.mem hO (λe he b hb=>hN e he b hb rfl) _ (hs.env t),hs.nt,hs.dfr⟩⟩
theorem VP (B:D)[pB:AA B][pC:AO B](hB:∃a b c d e,B=.agg [a,b,c,d,e])(b:Bool)(ls:List D)[pL:AA (.sl b 1 ls)](i:Nat)(x:Int)(hx:ls[i]?=some (i64 x))(R:D)[pR:AA R](m:Int)
  (cB:AK C0 71 [.sl b 1 ls,i64 (i:Int),.clo (.func 114) [] [.pptr (.sl b 1 ls),.pptr (i64 (i:Int)),.pptr B]] R)
  (cL:AK C0 70 [i64 x,R] (i64 m)):AK C0 69 [B,.sl b 1 ls,i64 (i:Int)] (i64 m):=by
 refine AZ.walk w1 gP rfl λF=>?_
 obtain⟨a1,a2,a3,a4,a5,rfl⟩:=hB;refine sR 0 ?_;refine AC.seq ?_;refine im [(3,.pptr (.agg [a1,a2,a3,a4,a5])),(4,.pptr (.sl b 1 ls)),(5,.pptr (i64 (i:Int)))] ⟨.ptr rfl rfl rfl rfl,.ptr rfl rfl rfl rfl,.ptr rfl rfl rfl rfl,trivial⟩ ?_;refine CM 100 [0,1,2,3,4,5,6,7] [8,9] ?_;refine BO ?_;refine Bw kT hx ?_;refine AD kB ?_;refine Bb.same _ (cB) AI ?_;refine BO ?_;refine cI cL ?_;refine Ad ?_;exact AJ rfl AA.out
theorem rQ (B:D)[pB:AA B][pC:AO B](a1 a2 a4 a5:D)(room:Int)(hB:B=.agg [a1,a2,i64 room,a4,a5])(ls:List D)[pL:AA (.sl false 1 ls)](i:Nat)(x:Int)(hx:ls[i]?=some (i64 x))(R:D)[pR:AA R](m:Int)
  (cC:AK C0 58 [B,.sl true 1 [i64 (i:Int)]] (i64 0)) (cV:AK C0 68 [B] (.sl false 1 ls))
  (cB:AK C0 71 [.sl false 1 ls,i64 (i:Int),.clo (.func 72) [] [.pptr B,.pptr (.sl false 1 ls),.pptr (i64 (i:Int))]] R) (r:Int) (hr:IntKind.i64.wrap (room-x)=r)
  (cL:AK C0 70 [i64 r,R] (i64 m)):AK C0 24 [B,i64 (i:Int)] (.tup [i64 m,i64 0]):=by
 refine AZ.walk w1 fS rfl λF=>?_
 have e0:((0:Int) != 0)=false:=rfl;subst hB;refine sR 0 ?_;refine AC.seq ?_;refine sR 100 ?_;refine cI cC ?_;refine sZ 200 ?_;refine AW e0 ?_;refine AN ?_;refine Aj ?_;refine sR 400 ?_;refine cI cV ?_;refine AC.seq ?_;refine im [(2,.pptr (.agg [a1,a2,i64 room,a4,a5])),(3,.pptr (i64 (i:Int))),(7,.pptr (.sl false 1 ls))] ⟨.ptr rfl rfl rfl rfl,.ptr rfl rfl rfl rfl,.ptr rfl rfl rfl rfl,trivial⟩ ?_;refine CM 500 [0,1,2,3,4,5,6,7,8,9,10] [11,12,13] ?_;refine BO ?_;refine Bw kT hx ?_;refine AD hr ?_;refine Bb.same _ (cB) AI ?_;refine BO ?_;refine cI cL ?_;refine Ad ?_;exact AJ rfl AA.out
abbrev CW (l:List Int):List D:=l.map λx=>i64 x
theorem kY (a1 a2 a3 a4:D)[AA a1][AA a2][AA a3][AA a4](b:Bool)(cs:List D)[pc:AA (.sl b 1 cs)](ls:List Int)(hlen:ls.length=cs.length)(h0:cs≠[])(hl:cs.length<=1000000)
  (hc:∀(i:Nat) (c:D) (m:Int),cs[i]?=some c->ls[i]?=some m->AK C0 59 [c] (i64 m)) (hp:∀c∈cs,∃bb l,c=.sl bb 3 l/\AA c) (g0:Nat) (x:D) (n:Nat):
  Ct C0 68 [.agg [a1,a2,a3,a4,.sl b 1 cs]] [⟨0,g0,24,5,[x]⟩] n (λd H' _=>∃g,d=.osl 504 g 1 0 ls.length/\H'=[⟨504,g,3,1,CW ls⟩,⟨0,g0,24,5,[x]⟩]):=by
 refine Ct.walk w1 V2 rfl λF=>?_
 refine AF AU kB AB AB AB AB AB AB ?_;refine AC.loop (α:=Nat×Nat×Nat) (λp=>⟨[(3,EI 504 p.2.1 1 (CW (ls.take p.1))),(7,.sl b 1 cs),(8,i64 (cs.length:Int)),(9,i64 (p.1:Int))],EC 504 p.2.1 3 1 (CW (ls.take p.1))++[⟨0,g0,24,5,[x]⟩],p.2.2⟩) (λp=>cs.length-p.1) (λq=>q.1<=cs.length) (0,0,_) (BU _) AL ?_;rintro⟨i,g,n⟩ F hi;dsimp only at hi⊢;rcases BA i cs.length with h2|h2
 rotate_left
 ·have e1:=Cb h2
  have hi2:i=cs.length:=by omega
  rw[Ch (by omega:ls.length<=i)];have hls:ls≠[]:=λh=>h0 (F6 (by rw[<-hlen,h];rfl))
  obtain⟨z,r,rfl⟩:∃z r,ls=z::r:=by
   cases ls with
   |nil=>exact Af rfl hls
   |cons z r=>exact⟨z,r,rfl⟩
  rw[show CW (z::r)=i64 z::CW r from rfl,H7,H8,E2,GK];refine AF AU e1 AB AB AB AB AB AB ?_;exact⟨_,by rw[Ag],rfl⟩
 have e1:=CZ h2;have wi:=Cc (i:=i) (by omega);obtain⟨c,hm⟩:=CU h2;obtain⟨m,hm2⟩:=CU (show i<ls.length by omega);obtain⟨bb,cl,rfl,pcl⟩:=hp c (Ay hm);have cT:=hc i _ m hm hm2;have ht:ls.take (i+1)=ls.take i++[m]:=by rw[D8,hm2];rfl
 obtain⟨R,hR⟩:∃R,ls.take i=R:=⟨_,rfl⟩
 rw[hR]at ht⊢;rcases R with _|⟨z,R⟩
 ·rw[show CW []=[]from rfl,JQ,JR,GK]
  refine AF AU (Ar e1 wi kN) hm cT AB AB AB AB ?_;refine⟨(i+1,n+1+1+1+1+1+1+1+1,n+1+1+1+1+1+1+1+1+1+1+1+1),h2,by dsimp only;omega,?_⟩;dsimp only;rw[ht];exact AL
 ·rw[show CW (z::R)=i64 z::CW R from rfl,H7,H8,E2,GK]
  obtain⟨O,hO⟩:∃O,CW R=O:=⟨_,rfl⟩
  have hOl:O.length+1=i:=by
   rw[<-hO,Ag]
   have:(z::R).length=i:=by rw[<-hR,Bi];omega
   exact this
  rw[hO];refine AF AU (Ar e1 wi kN) hm cT AB AB AB AB ?_;refine⟨(i+1,n+1+1+1+1+1+1+1+1,n+1+1+1+1+1+1+1+1+1+1+1+1),h2,by dsimp only;omega,?_⟩;dsimp only;rw[ht,show CW (z::R++[m])=i64 z::O++[i64 m]from by rw[<-hO];unfold CW;rw[DK];rfl];rw[E2,H7,H8,Bp];rw[show List.take (O.length+1) (i64 z::O)=i64 z::O from C6 (l:=i64 z::O)];exact AL
def Pi (k g sz:Nat)(env:Ap):Ap->Prop
 | []=>True
 |(t,d)::r=>(d=env.get t\/(env.get t=CS/\d=.osl k g sz 0 0))/\Pi k g sz env r
theorem Pi.get {k g sz:Nat}{env:Ap}:∀ {env':Ap},Pi k g sz env env'->∀t,env'.get t=.any\/env'.get t=env.get t\/(env.get t=CS/\env'.get t=.osl k g sz 0 0)
 | [],_,t=>.inl rfl
 |(q,d)::r,h,t=>by
  rw[I7]
  by_cases hk:q=t
  ·subst hk;rw[AH rfl];exact .inr h.1
  ·rw[AG hk];exact Pi.get h.2 t
theorem AC.ghost {C:A9}{B F:AY}{rd:Option Nat}{c:Code}{s:St}{Q:Exit->AY->St->Prop}(k T sz:Nat)(env':Ap)(he:Pi k s.n sz s.env env')(h:AC C B rd F c ⟨env',⟨k,s.n,T,sz,[]⟩::s.H,s.n+1⟩ Q):AC C B rd F c s Q:=⟨λhB hd ρ a w hs=>by
 obtain⟨m1,hO⟩:=hs.mem.ghost (k:=k) (n:=s.n) (T:=T) (sz:=sz) (hs.fresh k _ (Al _));refine h.out hB hd ρ a w ⟨m1,λk g hg=>hs.fresh k g (by dsimp only at hg;omega),λe he=>?_,λt=>?_,hs.nt,hs.dfr⟩
 ·rcases Az.1 he with rfl|he
  ·exact Hz _
  ·exact Dc (hs.gen e he)
 ·have hr:=hs.env t
  dsimp only;rw[hO];rcases he.get t with h|h|⟨h1,h2⟩
  ·rw[h];exact .any _
  ·rw[h];exact hr
  ·rw[h2]
   rw[h1]at hr;generalize a.tmps.getD t undef=v at hr⊢;cases hr;exact .onil _ _ _⟩
def JG (l:List Int):Nat->Nat
 | 0=>0
 |k+1=>if l.getD (JG l k) 0<l.getD k 0 then k else JG l k
def GO (l:List Int):Nat:=JG l l.length
theorem VY {l:List Int}(h:0<l.length):∀k,k<=l.length->JG l k<l.length
 | 0,_=>h
 |k+1,hk=>by
  unfold JG;split
  ·omega
  ·exact VY h k (by omega)
def Lm (mf:List Int->Int):Nat->List Int->List (Nat×Int)->List (Nat×Int)×Int
 | 0,_,_=>([],19)
 |k+1,l,out=>if l.getD (GO l) 0=0 then(out,0)else if mf l=0 then([],7)else if out.length=256 then([],19)else Lm mf k (l.set (GO l) (l.getD (GO l) 0-mf l)) (out++[(GO l,mf l)])
def Kl (p:Nat×Int):D:=.agg [i64 (p.1:Int),i64 p.2]
instance  (p:Nat×Int):AO (Kl p):=by unfold Kl;exact AI
instance  (p:Nat×Int):AA (Kl p):=by unfold Kl;exact AI
theorem PV {l:List Int}{i:Nat}(h:i<l.length):(CW l)[i]?=some (i64 (l.getD i 0)):=by
 rw[A8,Do,Bo h];rfl
theorem pN (a1 a2 a3 a4:D)[AA a1][AA a2][AA a3][AA a4](b:Bool)(cs:List D)[pc:AA (.sl b 1 cs)](ls:List Int)(hlen:ls.length=cs.length)(h0:cs≠[])(hl:cs.length<=1000000)
  (hc:∀(i:Nat) (c:D) (m:Int),cs[i]?=some c->ls[i]?=some m->AK C0 59 [c] (i64 m)) (hp:∀c∈cs,∃bb l,c=.sl bb 3 l/\AA c)
  (cK:AK C0 32 [.agg [a1,a2,a3,a4,.sl b 1 cs]] (i64 0))
  (mf:List Int->Int) (I:List Int->Prop) (hI0:I ls) (hI:∀l,I l->l.getD (GO l) 0≠0->AK C0 69 [.agg [a1,a2,a3,a4,.sl b 1 cs],.sl false 1 (CW l),i64 ((GO l:Nat):Int)] (i64 (mf l))/\IntKind.i64.wrap (l.getD (GO l) 0-mf l)=l.getD (GO l) 0-mf l/\I (l.set (GO l) (l.getD (GO l) 0-mf l))):
  AK C0 25 [.agg [a1,a2,a3,a4,.sl b 1 cs]] (.tup [.sl false 2 ((Lm mf 257 ls []).1.map Kl),i64 (Lm mf 257 ls []).2]):=by
 refine AZ.walk w1 fN rfl λF=>?_
 have e0:((0:Int) != 0)=false:=rfl;have cL:=λn=>kY a1 a2 a3 a4 b cs ls hlen h0 hl hc hp 0 (.agg [a1,a2,a3,a4,.sl b 1 cs]) n
 refine AF AU e0 cK AB AB AB AB AB ?_;refine A7.own _ (cL _) ?_;rintro d H' n' ⟨g,rfl,rfl⟩;refine AF AU kB AB AB AB AB AB AB ?_;obtain⟨N,hN⟩:∃N,ls.length=N:=⟨_,rfl⟩
 have hN0:0<N:=by rw[<-hN,hlen];exact List.length_pos_iff.2 h0
 have hN1:N<=1000000:=by omega
 rw[hN];clear cL cK hc hp;refine AC.ghost 2005 64 2 [(1,.optr 0 0 5 0 0),(5,.osl 2005 _ 2 0 0),(6,.osl 504 g 1 0 N)] ⟨.inl rfl,.inr ⟨rfl,rfl⟩,.inl rfl,trivial⟩ ?_;refine AC.loop (α:=List Int×List (Nat×Int)×Nat×Nat) (λp=>⟨[(1,.optr 0 0 5 0 0),(5,.osl 2005 p.2.2.1 2 0 p.2.1.length),(6,.osl 504 g 1 0 N)],[⟨2005,p.2.2.1,64,2,p.2.1.map Kl⟩,⟨504,g,3,1,CW p.1⟩,⟨0,0,24,5,[.agg [a1,a2,a3,a4,.sl b 1 cs]]⟩],p.2.2.2⟩) (λp=>257-p.2.1.length)
  (λp=>p.1.length=N/\I p.1/\p.2.1.length<=256/\Lm mf (257-p.2.1.length) p.1 p.2.1=Lm mf 257 ls []) (ls,[],_,_) ⟨hN,hI0,BU _,rfl⟩ AL ?_
 rintro⟨l,out,go,n⟩ F ⟨hl1,hIl,ho,hR⟩;dsimp only at hl1 hIl ho hR⊢;obtain⟨OD,hOD⟩:∃O,out.map Kl=O:=⟨_,rfl⟩
 have hODl:OD.length=out.length:=by rw[<-hOD,Ag]
 rw[hOD];obtain⟨L,hL⟩:∃L,CW l=L:=⟨_,rfl⟩
 have hLl:L.length=N:=by rw[<-hL,Ag,hl1]
 rw[hL];refine AF AU kB AB AB AB AB AB AB ?_;refine AC.loop (α:=Nat×Nat) (λp=>⟨[(1,.optr 0 0 5 0 0),(5,.osl 2005 go 2 0 out.length),(6,.osl 504 g 1 0 N),(18,.osl 504 g 1 0 N),(19,i64 (N:Int)),(20,i64 (p.1:Int)),(7,i64 ((JG l p.1:Nat):Int))],[⟨2005,go,64,2,OD⟩,⟨504,g,3,1,L⟩,⟨0,0,24,5,[.agg [a1,a2,a3,a4,.sl b 1 cs]]⟩],p.2⟩) (λp=>N-p.1) (λq=>q.1<=N) (0,_) (BU _) AL ?_;rintro⟨k,n⟩ F hk;dsimp only at hk⊢;rcases BA k N with h2|h2
 ·have e1:=CZ h2
  have wi:=Cc (i:=k) (by omega);have hm:=PV (l:=l) (i:=k) (by omega);have hq:=VY (l:=l) (by omega) k (by omega);have hm2:=PV hq;obtain⟨u,hu⟩:∃u,l.getD k 0=u:=⟨_,rfl⟩
  obtain⟨v,hv⟩:∃v,l.getD (JG l k) 0=v:=⟨_,rfl⟩
  have hs:JG l (k+1)=if v<u then k else JG l k:=by rw[<-hu,<-hv];rfl
  rw[hu]at hm;rw[hv]at hm2;obtain⟨q,hq2⟩:∃q,JG l k=q:=⟨_,rfl⟩
  rw[hq2]at hm2 hs hq⊢;rw[hL]at hm hm2
  by_cases hlt:v<u
  ·have e2:decide (u>v)=true:=Au hlt
   rw[AH hlt]at hs;refine AF AU (Ci e1 e2 wi kN BZ hm hm2) AB AB AB AB AB AB ?_;refine⟨(k+1,n+1000),h2,by dsimp only;omega,?_⟩;dsimp only;rw[hs];exact AL
  ·have e2:decide (u>v)=false:=Av hlt
   rw[AG hlt]at hs;refine AF AU (Ci e1 e2 wi kN BZ hm hm2) AB AB AB AB AB AB ?_;refine⟨(k+1,n+1000),h2,by dsimp only;omega,?_⟩;dsimp only;rw[hs];exact AL
 have e1:=Cb h2
 have:k=N:=by omega
 subst this;have hq:=VY (l:=l) (by omega) k (by omega);have hm:=PV hq;have hmI:JG l k=GO l:=by unfold GO;rw[hl1]
 rw[hmI]at hq hm⊢;have hIm:=hI l hIl;have hRs:Lm mf (257-out.length) l out=if l.getD (GO l) 0=0 then(out,0)else if mf l=0 then([],7)else if out.length=256 then([],19)else Lm mf (256-out.length) (l.set (GO l) (l.getD (GO l) 0-mf l)) (out++[(GO l,mf l)]):=by
  rw[show 257-out.length=(256-out.length)+1 by omega];rfl
 rw[hR]at hRs;obtain⟨q,hq2⟩:∃q,GO l=q:=⟨_,rfl⟩
 rw[hq2]at hq hm hIm hRs⊢;obtain⟨v,hv⟩:∃v,l.getD q 0=v:=⟨_,rfl⟩
 rw[hv]at hm hIm hRs;rw[hL]at hm
 by_cases hv0:v=0
 ·have e2:(v==0)=true:=by rw[hv0];rfl
  rw[AH hv0]at hRs;rw[hRs];refine AF AU (CI e1 e2 kN BZ hm) AB AB AB AB AB AB ?_;have hf:=IA (H:=[⟨2005,go,64,2,OD⟩,⟨504,g,3,1,L⟩,⟨0,0,24,5,[.agg [a1,a2,a3,a4,.sl b 1 cs]]⟩]) (Hf:=[]) (k:=2005) (g:=go) (T:=64) (sz:=2) (l:=OD) rfl;rw[hODl]at hf;rw[hOD];have pO:AA (.sl false 2 OD):=by rw[<-hOD];exact AI
  exact⟨_,Hh hf (.refl _),AA.out,rfl⟩
 rw[AG hv0]at hRs;have e2:(v==0)=false:=Br.2 hv0;obtain⟨cM,wm,hI'⟩:=hIm hv0;obtain⟨m,hmm⟩:∃m,mf l=m:=⟨_,rfl⟩
 rw[hmm]at cM wm hI' hRs;have pL:AA (.sl false 1 (CW l)):=AI;rw[hL]at cM pL;have hfL:=IA (H:=[⟨2005,go,64,2,OD⟩,⟨504,g,3,1,L⟩,⟨0,0,24,5,[.agg [a1,a2,a3,a4,.sl b 1 cs]]⟩]) (Hf:=[]) (k:=504) (g:=g) (T:=3) (sz:=1) (l:=L) rfl;rw[hLl]at hfL;refine AF AU (CI e1 e2 kN BZ hm) AB AB AB AB AB AB ?_;refine A7.own _ (Jk (H:=[⟨2005,go,64,2,OD⟩,⟨504,g,3,1,L⟩,⟨0,0,24,5,[.agg [a1,a2,a3,a4,.sl b 1 cs]]⟩]) cM rfl (λi a d h1 h2=>by
  match i with
  | 0=>cases h1;cases h2;exact .refl _ _
  | 1=>cases h1;cases h2;exact .of hfL
  | 2=>cases h1;cases h2;exact .refl _ _
  |n+3=>cases h1) AI (.prim _)) ?_
 rintro d H' n' ⟨rfl,rfl,rfl⟩
 by_cases hm0:m=0
 ·have e3:(m==0)=true:=by rw[hm0];rfl
  rw[AH hm0]at hRs;rw[hRs];refine AF AU e3 AB AB AB AB AB AB ?_;exact⟨_,Hh (.nil 2) (.refl _),AA.out,rfl⟩
 rw[AG hm0]at hRs;have e3:(m==0)=false:=Br.2 hm0
 by_cases h256:out.length=256
 ·have e4:((out.length:Int)==256)=true:=by rw[h256];rfl
  rw[AH h256]at hRs;rw[hRs];refine AF AU (Ab e3 e4) AB AB AB AB AB AB ?_;exact⟨_,Hh (.nil 2) (.refl _),AA.out,rfl⟩
 rw[AG h256]at hRs;have e4:((out.length:Int)==256)=false:=Br.2 (by omega);refine AF AU (Ek e3 e4 wm kN BZ hm) AB AB AB AB AB AB ?_;have hle:out.length<256:=by omega
 refine⟨(l.set q (v-m),out++[(q,m)],n+1+1+1+1+1+1+1+1+1+1+1+1+1+1+1+1+1+1+1+1+1,n+1000),⟨by rw[D9];exact hl1,?_,by rw[Bp];exact hle,?_⟩,?_,?_⟩
 ·exact hI'
 ·dsimp only
  rw[hRs,Bp];rw[show 257-(out.length+[(q,m)].length)=256-out.length by simp only[Bq,HQ];omega]
 ·dsimp only
  rw[Bp];simp only[Bq,HQ];omega
 ·dsimp only
  rw[Bp,DK,hOD,Ch (show OD.length<=out.length by omega)];rw[show CW (l.set q (v-m))=L.set q (i64 (v-m))from by rw[<-hL];unfold CW;rw[List.map_set]];exact AL
abbrev Ha:Dr:=[(11,[0,1,2,3,4,5,6,7,8,9,10,11,12,13],[14,15])]
open Go.Proofs Go.RowKit
set_option maxRecDepth 20000
set_option maxHeartbeats 4000000
theorem aU {l:List A0}:∀i,i<=l.length->(∀j,j<i->Cj (Ds l j).part=0)->rk (FW l i) (601*i+1)
 | 0,_,_=>(Rp 1 (Al _)).rk
 |i+1,hi,h=>(VW (aU i (by omega) λj hj=>h j (by omega)) (Na (h i (by omega)))).mono (by omega)
theorem rM {l:List A0}{i:Nat}(h:Fo l i=0):Cj (Ds l i).part=0:=by
 unfold Fo at h;split at h
 ·cases h
 split at h
 ·cases h
 split at h
 ·exact h
 ·rename_i h1;exact Decidable.not_not.1 h1
theorem d9l (b:Bool)(l:List A0)(hl:l.length<=15\/64<l.length)(hl2:l.length<=9223372036854775807)(hf:∀s∈l,s.few):AK C0 134 [D5 b l] (i64 (Gn l:Nat)):=by
 refine AZ.walk w1 tO rfl λF=>?_
 have el:(((l.map A0.D).length:Nat):Int)=(l.length:Int):=by rw[Ag]
 have hC:Gn l=if l.length=0 then 2 else if 64<l.length then 5 else if D4 (Fo l) l.length≠0 then D4 (Fo l) l.length else if FW l l.length=1 then 0 else 12:=rfl
 rcases Nat.decEq l.length 0 with h0|h0
 rotate_left
 ·rw[AH h0]at hC
  rw[hC];have q1:((l.length:Int)==0)=true:=by rw[h0];rfl
  refine AF Ha (Ab el q1) AB AB AB AB AB AB ?_;exact AJ rfl AA.out
 rw[AG h0]at hC;have q1:((l.length:Int)==0)=false:=Br.2 (by omega)
 by_cases h64:64<l.length
 ·rw[AH h64]at hC
  rw[hC];have q2:decide ((l.length:Int)>64)=true:=BV;refine AF Ha (Ar el q1 q2) AB AB AB AB AB AB ?_;exact AJ rfl AA.out
 rw[AG h64]at hC;have q2:decide ((l.length:Int)>64)=false:=Bc;have h15:l.length<=15:=by omega
 refine AF Ha (Ar el q1 q2) AB AB AB AB AB AB ?_;refine AC.loop (α:=Nat×Nat) (λp=>⟨[(0,D5 b l),(3,rR (FW l p.1)),(4,i64 (p.1:Int))],[],p.2⟩) (λp=>l.length-p.1) (λp=>p.1<=l.length/\∀j,j<p.1->Fo l j=0) (0,_)
  ⟨BU _,λj h=>Af h (FN j)⟩ (by(dsimp only;rw[show rR (FW l 0)=str ⟨#[48]⟩from qI];exact AL)) ?_
 rintro⟨i,m⟩ F ⟨hi,hz⟩;dsimp only at hi hz⊢;have hSk:=aU (l:=l) i hi λj hj=>rM (hz j hj)
 rcases BA i l.length with h2|h2
 rotate_left
 ·have e1:=Cb h2
  have:i=l.length:=by omega
  subst this;rw[AG (λh=>h (M1 hz))]at hC;have e2:=kw (FW l l.length);obtain⟨q,hq⟩:∃q,decide (FW l l.length=1)=q:=⟨_,rfl⟩
  rw[hq]at e2;unfold rR;cases q
  ·rw[AG (Db hq)]at hC
   rw[hC];refine AF Ha (Ar e1 el e2) AB AB AB AB AB AB ?_;exact AJ rfl AA.out
  ·rw[AH (DJ hq)]at hC
   rw[hC];refine AF Ha (Ar e1 el e2) AB AB AB AB AB AB ?_;exact AJ rfl AA.out
 have e1:=CZ h2;have wi:=Cc (i:=i) (by omega);obtain⟨s,hs⟩:=CU h2;have hm:(l.map A0.D)[i]?=some (.agg [str (sb s.lot),str (sb s.part)]):=by rw[A8,hs];rfl
 obtain⟨f1,f2⟩:=hf s (Ay hs);have hE:Fo l i=if B4 s.lot=false then 8 else if 0<i/\LG s.lot (Ds l (i-1)).lot=true then 11 else if Cj s.part≠0 then Cj s.part else if GH (Bd s.part)<=0 then 12 else 0:=by unfold Fo;rw[KE hs]
 have hbad:∀e:Nat,e≠0->Fo l i=e->Gn l=e:=λe he h=>by
  have:=Ov hz h2 (by rw[h];exact he)
  rw[hC,this,h,AH he]
 have cN:=WA s.lot (by omega);obtain⟨N,hN⟩:∃q,B4 s.lot=q:=⟨_,rfl⟩
 rw[hN]at cN hE;cases N
 ·rw[AH rfl]at hE
  rw[hbad 8 (by decide) hE];refine AF Ha (Ar e1 el kN) hm cN AB AB AB AB ?_;exact AJ rfl AA.out
 rw[AG (by decide)]at hE;have cC:=xF s.part f2;rcases i with _|q
 ·have g0:decide (((0:Nat):Int)>0)=false:=rfl
  rw[AG (λh=>Af h.1 (Nat.lt_irrefl 0))]at hE;rcases Nat.decEq (Cj s.part) 0 with hc0|hc0
  ·rw[AH hc0]at hE
   have e3:=GX hc0;rw[hbad (Cj s.part) hc0 hE];refine AF Ha (CI e1 el g0 kN e3) hm cN cC AB AB AB ?_;exact AJ rfl AA.out
  rw[AG (λh=>h hc0)]at hE;have e3:=Gw hc0;have cG:=Vk (Bd s.part) (Zi hc0);have cA:=WU (FW l 0) (Bd s.part) (601*0+1) 600 hSk (Na hc0) (by omega);rw[VS hc0]at cG cA;have hnext:FW l (0+1)=FW l 0+Bd s.part:=by show _+Bd (Ds l 0).part=_;rw[KE hs]
  rw[<-hnext]at cA;obtain⟨sg,hsg⟩:∃q,GH (Bd s.part)=q:=⟨_,rfl⟩
  rw[hsg]at cG hE
  by_cases hs0:sg<=0
  ·rw[AH hs0]at hE
   have e4:decide (sg<=0)=true:=Au hs0;rw[hbad 12 (by decide) hE];refine AF Ha (Ek e1 el g0 kN e3 e4) hm cN cC cG AB AB ?_;exact AJ rfl AA.out
  rw[AG hs0]at hE;have e4:decide (sg<=0)=false:=Av hs0;refine AF Ha (Ci e1 el g0 kN e3 e4 wi) hm cN cC cG cA AB ?_;exact⟨(0+1,_),⟨h2,λj hj=>by
   rcases Jl.1 hj with q|q
   ·exact hz j q
   ·rw[q];exact hE⟩,by dsimp only;omega,AL⟩
 ·have g0:decide (((q+1:Nat):Int)>0)=true:=BV
  have g1:IntKind.i64.wrap (((q+1:Nat):Int)-1)=(q:Int):=by rw[wI];omega
  obtain⟨s0,hs0'⟩:=CU (l:=l) (i:=q) (by omega);have hm0:(l.map A0.D)[q]?=some (.agg [str (sb s0.lot),str (sb s0.part)]):=by rw[A8,hs0'];rfl
  rw[IY,KE hs0']at hE;obtain⟨bL,hbL⟩:∃q,LG s.lot s0.lot=q:=⟨_,rfl⟩
  have g2:(KK (sb s.lot) (sb s0.lot)||BI (sb s.lot) (sb s0.lot))=bL:=hbL;rw[hbL]at hE;cases bL
  rotate_left
  ·rw[AH ⟨Nat.succ_pos q,rfl⟩]at hE
   rw[hbad 11 (by decide) hE];refine AF Ha (Ek e1 el g0 g1 g2 kN) hm hm0 cN AB AB AB ?_;exact AJ rfl AA.out
  rw[AG (λh=>Af h.2 (by decide))]at hE;rcases Nat.decEq (Cj s.part) 0 with hc0|hc0
  ·rw[AH hc0]at hE
   have e3:=GX hc0;rw[hbad (Cj s.part) hc0 hE];refine AF Ha (Ci e1 el g0 g1 g2 kN e3) hm hm0 cN cC AB AB ?_;exact AJ rfl AA.out
  rw[AG (λh=>h hc0)]at hE;have e3:=Gw hc0;have cG:=Vk (Bd s.part) (Zi hc0);have cA:=WU (FW l (q+1)) (Bd s.part) (601*(q+1)+1) 600 hSk (Na hc0) (by omega);rw[VS hc0]at cG cA;have hnext:FW l ((q+1)+1)=FW l (q+1)+Bd s.part:=by show _+Bd (Ds l (q+1)).part=_;rw[KE hs]
  rw[<-hnext]at cA;obtain⟨sg,hsg⟩:∃q,GH (Bd s.part)=q:=⟨_,rfl⟩
  rw[hsg]at cG hE
  by_cases hs0:sg<=0
  ·rw[AH hs0]at hE
   have e4:decide (sg<=0)=true:=Au hs0;rw[hbad 12 (by decide) hE];refine AF Ha (Ci e1 el g0 g1 g2 kN (Ab e3 e4)) hm hm0 cN cC cG AB ?_;exact AJ rfl AA.out
  rw[AG hs0]at hE;have e4:decide (sg<=0)=false:=Av hs0;refine AF Ha (Ci e1 el g0 g1 g2 kN (Ar e3 e4 wi)) hm hm0 cN cC cG cA ?_;exact⟨((q+1)+1,_),⟨h2,λj hj=>by
   rcases Jl.1 hj with q|q
   ·exact hz j q
   ·rw[q];exact hE⟩,by dsimp only;omega,AL⟩
theorem d9a (x:AE)(hs:x.shs.length<=15\/64<x.shs.length)(hf:x.few):AK C0 90 [x.D] (i64 (Ce x:Nat)):=by
 refine AZ.walk w1 xn rfl λF=>?_
 obtain⟨f1,f2,f3⟩:=hf;have cN:=WA x.grain (by omega);have cS:=d9l false x.shs hs f2 f3;have hC:Ce x=if B4 x.grain=false then 8 else if x.mass<1\/x.mass>999999999 then 3 else Gn x.shs:=rfl
 obtain⟨N,hN⟩:∃q,B4 x.grain=q:=⟨_,rfl⟩
 obtain⟨SD,hSD⟩:∃d,D5 false x.shs=d:=⟨_,rfl⟩
 have pS:AA SD:=by rw[<-hSD];exact AI
 have hna:KA SD=true:=by rw[<-hSD];rfl
 unfold AE.D;rw[hN]at cN hC;rw[hSD]at cS⊢;cases N
 ·rw[AH rfl]at hC
  rw[hC];refine AF AU kB cN AB AB AB AB AB ?_;exact AJ rfl AA.out
 rw[AG (by decide)]at hC
 by_cases h1:x.mass<1
 ·rw[AH (.inl h1)]at hC
  rw[hC];have e1:decide (x.mass<1)=true:=Au h1;refine AF AU e1 cN AB AB AB AB AB ?_;exact AJ rfl AA.out
 have e1:decide (x.mass<1)=false:=Av h1
 by_cases h2:x.mass>999999999
 ·rw[AH (.inr h2)]at hC
  rw[hC];have e2:decide (x.mass>999999999)=true:=Au h2;refine AF AU (Ab e1 e2) cN AB AB AB AB AB ?_;exact AJ rfl AA.out
 have e2:decide (x.mass>999999999)=false:=Av h2;rw[CR]at hC;rw[hC];refine AF AU (Ar e1 e2 hna) cN cS AB AB AB AB ?_;exact AJ rfl AA.out
abbrev Kz:Dr:=[(8,[0,1,2,3,4,5,6,7,8,9,10,11,12],[13,14])]
open Go.Proofs Go.RowKit Go.Sort
set_option maxRecDepth 20000
set_option maxHeartbeats 4000000
theorem PD {H Hf:Hp}{K g T sz n:Nat}{l:List D}(h:Hp.get H K=some ⟨K,g,T,sz,l⟩)(hf:Hp.get Hf K=none)(hn:n=l.length):Fz H Hf (.osl K g sz 0 n) (.sl false sz l):=by
 subst hn;refine .osl (e:=⟨K,g,T,sz,l⟩) h hf rfl rfl (by simp) (by simp) (λj d d' h1 h2=>?_) λj d d' q c c' h1 h2 h3 h4=>?_
 ·rw[BZ]at h1;rw[h1]at h2;cases h2;rfl
 ·rw[BZ]at h1;rw[h1]at h2;cases h2;rw[h3]at h4;cases h4;exact Fz.refl _
def GS (lot:List UInt8)(l:BW):Nat:=(l.takeWhile λp=>ltStr p.1 lot).length
theorem nZ (lot:List UInt8)(l:BW):GS lot l<=l.length:=by
 unfold GS
 have:=(List.takeWhile_sublist (l:=l) λp=>ltStr p.1 lot).length_le
 exact this
theorem Qc (lot:List UInt8)(p:List UInt8×Rat)(l:BW):GS lot (p::l)=if ltStr p.1 lot then GS lot l+1 else 0:=by
 unfold GS;rw[N9];split<;>simp
theorem Ub {lot:List UInt8}:∀ {l:BW} {i:Nat},(∀j p,j<i->l[j]?=some p->ltStr p.1 lot=true)->i<=l.length->(∀p,l[i]?=some p->ltStr p.1 lot=false)->GS lot l=i
 | [],i,_,h2,_=>by simp at h2;subst h2;rfl
 |q::l,0,_,_,h3=>by
  rw[Qc,AG (by rw[h3 q rfl];decide)]
 |q::l,i+1,h1,h2,h3=>by
  rw[Qc,AH (h1 0 q (by omega) rfl)];rw[Ub (i:=i) (λj p hj hp=>h1 (j+1) p (by omega) (by simpa using hp)) (by simpa using h2) λp hp=>h3 p (by simpa using hp)]
def DG (lot:List UInt8)(r:Rat):BW->BW
 | []=>[(lot,r)]
 |p::l=>if ltStr p.1 lot then p::DG lot r l else if p.1=lot then(p.1,p.2+r)::l else(lot,r)::p::l
theorem Z1 {lot:List UInt8}{r:Rat}:∀ {l:BW} {p:List UInt8×Rat},l[GS lot l]?=some p->p.1=lot->DG lot r l=l.set (GS lot l) (p.1,p.2+r)
 | [],p,h,_=>by simp[GS]at h
 |q::l,p,h,e=>by
  unfold DG;rw[Qc]at h⊢;split at h
  ·rename_i h2
   rw[AH h2,AH h2,List.set_cons_succ,Z1 (by simpa using h) e]
  ·rename_i h2
   rw[AG h2,AG h2];simp at h;subst h;rw[AH e];rfl
theorem Z3 {lot:List UInt8}{r:Rat}:∀ {l:BW},(∀p,l[GS lot l]?=some p->p.1≠lot)->DG lot r l=l.take (GS lot l)++(lot,r)::l.drop (GS lot l)
 | [],_=>rfl
 |q::l,h=>by
  unfold DG;rw[Qc]at h⊢;split at h
  ·rename_i h2
   rw[AH h2,AH h2,Z3 (λp hp=>h p (by simpa using hp))];rfl
  ·rename_i h2
   rw[AG h2,AG h2,AG (h q rfl)];rfl
theorem ZM (a b:List UInt8):KK (sb a) (sb b)=ltStr a b:=by
 unfold KK ltStr;rw[bytesLess_eq,YX,YX]
def WI (E0 E4:Aq)(i:Nat):Option Aq:=match i with
 | 4=>some E0
 | 9=>some E4
 |_=>none
def Pw (i:Nat):Option Nat:=match i with
 | 0=>some 4
 | 4=>some 9
 |_=>none
theorem og {ops:Array Oper}{d0 d1 d2 d3 d4 d5 d6 d7 d8 d9 d10 d11 d12:D}{E0 E4 E9:Aq}(h1:Dx ops 4 0)(h2:Dx ops 9 4):
  NN ops (Mg ops [(0,d0,some E0),(1,d1,none),(2,d2,none),(3,d3,none),(4,d4,some E4),(5,d5,none),(6,d6,none),(7,d7,none),(8,d8,none),(9,d9,some E9),(10,d10,none),(11,d11,none),(12,d12,none)]) (WI E0 E4) Pw:=by
 constructor
 ·intro r hr e he
  simp only[Mg,Cs,List.map_nil,Az,Dk,or_false]at hr;rcases hr with rfl|rfl|rfl|rfl|rfl|rfl|rfl|rfl|rfl|rfl|rfl|rfl|rfl<;>dsimp only[WI]at he<;>first
   |(cases he;done)
   |(cases he;exact⟨⟨0,ops.getD 0 default,d0,some _⟩,by simp[Mg],rfl,rfl⟩)
   |(cases he;exact⟨⟨4,ops.getD 4 default,d4,some _⟩,by simp[Mg],rfl,rfl⟩)
 ·intro r hr j hj
  simp only[Mg,Cs,List.map_nil,Az,Dk,or_false]at hr;rcases hr with rfl|rfl|rfl|rfl|rfl|rfl|rfl|rfl|rfl|rfl|rfl|rfl|rfl<;>dsimp only[Pw]at hj<;>first
   |(cases hj;done)
   |(cases hj;exact⟨by simp[Mg],rfl,by assumption⟩)
 ·intro r hr r' hr' j hj hj'
  have key:∀i k:Nat,Pw i=some k->(i=0/\k=4)\/(i=4/\k=9):=λi k h=>by
   unfold Pw at h;split at h<;>first|(cases h;simp;done)|cases h
  rcases key _ _ hj with⟨a,b⟩|⟨a,b⟩<;>rcases key _ _ hj' with⟨c,d⟩|⟨c,d⟩<;>omega
theorem d9k (l:BW)(lot:List UInt8)(r:Rat)(k:Nat)(hl:l.length<=10000)(hk:∀p∈l,rk p.2 k)(hr:rk r k)(hk2:k+k<=10000):AK C0 135 [.sl false 2 (l.map Bu),str (sb lot),rR r] (.sl false 2 ((DG lot r l).map Bu)):=by
 refine AZ.walk w1 tP rfl λF=>?_
 have el:(((l.map Bu).length:Nat):Int)=(l.length:Int):=by rw[Ag]
 obtain⟨T,hT⟩:∃T,l.map Bu=T:=⟨_,rfl⟩
 have pT:AA (.sl false 2 T):=by rw[<-hT];exact AI
 have hTl:T.length=l.length:=by rw[<-hT,Ag]
 have hTat:∀(i:Nat) (p:List UInt8×Rat),l[i]?=some p->T[i]?=some (D.agg [str (sb p.1),str (sb (An p.2))]):=λi p h=>by rw[<-hT,A8,h];rfl
 rw[hT]at el⊢;unfold rR;refine sZ 0 ?_;refine AD kB ?_;refine sZ 100 ?_;refine AD kB ?_;refine Sz (λn=>⟨[(0,.sl false 2 T),(1,str (sb lot)),(2,str (sb (An r))),(7,i64 (GS lot l:Nat))],[],n⟩) ?_ λn=>?_
 ·refine AC.block ?_
  refine Gb (α:=Nat×Nat) (λp=>⟨[(0,.sl false 2 T),(1,str (sb lot)),(2,str (sb (An r))),(7,i64 (p.1:Nat))],[],p.2⟩) (λp=>l.length-p.1) (λp F1=>F1=F/\p.1<=l.length/\∀j q,j<p.1->l[j]?=some q->ltStr q.1 lot=true) (0,_) ⟨rfl,BU _,λj q h=>Af h (FN j)⟩ AL ?_;rintro⟨i,m⟩ F1 ⟨rfl,hi,ha⟩;dsimp only at hi ha⊢;rcases BA i l.length with h2|h2
  rotate_left
  ·have e1:=Cb h2
   have:i=l.length:=by omega
   subst this;have hat:GS lot l=l.length:=Ub ha (Al _) λp hp=>by simp at hp
   rw[hat];refine AF Kz (Ab e1 el) AB AB AB AB AB AB ?_;exact⟨trivial,_,AL⟩
  have e1:=CZ h2;have wi:=Cc (i:=i) (by omega);obtain⟨q,hq⟩:=CU h2;have hm:=hTat i q hq;have eS:=ZM q.1 lot;obtain⟨bS,hbS⟩:∃b,ltStr q.1 lot=b:=⟨_,rfl⟩
  rw[hbS]at eS;cases bS
  ·have hat:GS lot l=i:=Ub ha (Jn h2) λp hp=>by
    rw[hq]at hp;cases hp;exact hbS
   rw[hat];refine AF Kz (BS e1 el eS kN) hm AB AB AB AB AB ?_;exact⟨trivial,_,AL⟩
  ·refine AF Kz (CI e1 el eS wi kN) hm AB AB AB AB AB ?_
   exact⟨(i+1,_),⟨trivial,h2,λj z hj hz=>by
    rcases Jl.1 hj with g|g
    ·exact ha j z g hz
    ·rw[g,hq]at hz;cases hz;exact hbS⟩,by dsimp only;omega,AL⟩
 obtain⟨A,hA⟩:∃A,GS lot l=A:=⟨_,rfl⟩
 have hAl:=nZ lot l;rw[hA]at hAl⊢
 by_cases hq:∃q,l[A]?=some q/\q.1=lot
 ·obtain⟨q,hq,hql⟩:=hq
  have hAlt:A<l.length:=(BQ.1 hq).1;have e1:=CZ hAlt;have hm:=hTat A q hq;have eE:BI (sb q.1) (sb lot)=true:=by rw[Ep];exact Au hql
  have cA:AK C0 183 [str (sb (An q.2)),str (sb (An r))] (str (sb (An (q.2+r)))):=WU q.2 r k k (hk q (Ay hq)) hr hk2;have hres:(DG lot r l).map Bu=T.set A (.agg [str (sb q.1),str (sb (An (q.2+r)))]):=by
   rw[Z1 (by rw[hA];exact hq) hql,hA,List.map_set,hT];rfl
  rw[hres];refine AC.seq ?_;refine AC.seq ?_;refine AF Kz (BS e1 el eE kN) hm AB AB AB AB AB ?_;rw[show List.take 0 []++T=T from rfl,BZ,BZ];refine AD hm ?_;refine cI cA ?_;refine AD (Ar kN BZ hm) ?_;have pR:CC (.sl false 2 ((DG lot r l).map Bu)):=AA.out;rw[hres]at pR;obtain⟨T2,hT2⟩:∃T2,T.set A (.agg [str (sb q.1),str (sb (An (q.2+r)))])=T2:=⟨_,rfl⟩
  have hT2l:T.length=T2.length:=by rw[<-hT2,D9]
  rw[hT2]at pR;rw[hT2,hT2l];refine AF Kz kB AB AB AB AB AB AB ?_;exact⟨_,PD rfl rfl rfl,pR,rfl⟩
 refine Sz (λn=>⟨[(0,.sl false 2 T),(1,str (sb lot)),(2,str (sb (An r))),(7,i64 (A:Nat))],[],n⟩) ?_ λn2=>?_
 ·rcases BA A l.length with h2|h2
  ·have e1:=CZ h2
   obtain⟨q,hq2⟩:=CU h2;have hm:=hTat A q hq2;have eE:BI (sb q.1) (sb lot)=false:=by
    rw[Ep];exact Av λh=>hq ⟨q,hq2,h⟩
   refine AF Kz (BS e1 el eE kN) hm AB AB AB AB AB ?_;exact⟨trivial,_,AL⟩
  ·have e1:=Cb h2
   refine AF Kz (Ab e1 el) AB AB AB AB AB AB ?_;exact⟨trivial,_,AL⟩
 have hres:(DG lot r l).map Bu=T.take A++[.agg [str (sb lot),str (sb (An r))]]++T.drop A:=by
  rw[Z3 (λp hp h=>hq ⟨p,by rw[<-hA];exact hp,h⟩),hA,<-hT];simp[Bu]
 have pR:CC (.sl false 2 ((DG lot r l).map Bu)):=AA.out;rw[hres]at pR⊢;have hAT:A<=T.length:=by omega
 refine AC.seq ?_;have hA0:(0:Int)<=(A:Nat):=by omega
 have hA1:((A:Nat):Int)<=(T.length:Nat):=by omega
 have hTAl:((T.drop 0).take (((A:Nat):Int).toNat-0)).length<=10000:=by
  rw[Bi]
  have:=Dp (i:=0) (l:=T)
  omega
 refine e0j w1 800 [0,1,2,3,4,5,6,7,8,9,10,11,12] [13,14] (use:=Pw) (con:=WI ⟨800,n2+0,66,2,[]⟩ ⟨804,n2+4,66,2,[].take 0++((T.drop 0).take (((A:Nat):Int).toNat-0))⟩)
  (rs:=Mg _ [(0,.osl 800 (n2+0) 2 0 0,some ⟨800,n2+0,66,2,[]⟩),(1,.sl false 2 T,none),(2,i64 (A:Nat),none),(3,.sl false 2 ((T.drop 0).take (((A:Nat):Int).toNat-0)),none),(4,.osl 804 (n2+4) 2 0 (0+((T.drop 0).take (((A:Nat):Int).toNat-0)).length),some ⟨804,n2+4,66,2,[].take 0++((T.drop 0).take (((A:Nat):Int).toNat-0))⟩),(5,str (sb lot),none),(6,str (sb (An r)),none),(7,(.agg [str (sb lot),str (sb (An r))]),none),(8,.sl true 2 [(.agg [str (sb lot),str (sb (An r))])],none),
   (9,.osl 809 (n2+9) 2 0 (0+((T.drop 0).take (((A:Nat):Int).toNat-0)).length+1),some ⟨809,n2+9,66,2,([].take 0++((T.drop 0).take (((A:Nat):Int).toNat-0))).take (0+((T.drop 0).take (((A:Nat):Int).toNat-0)).length)++[(.agg [str (sb lot),str (sb (An r))])]⟩),(10,.sl false 2 T,none),(11,i64 (A:Nat),none),(12,.sl false 2 ((T.drop ((A:Nat):Int).toNat).take (T.length-((A:Nat):Int).toNat)),none)])
  (N:=[⟨809,n2+9,66,2,([].take 0++((T.drop 0).take (((A:Nat):Int).toNat-0))).take (0+((T.drop 0).take (((A:Nat):Int).toNat-0)).length)++[(.agg [str (sb lot),str (sb (An r))])]⟩])
  (by kernel_rfl) rfl (og (ZH (l:=[0,1,2,3,4,5,6,7,8,9,10,11,12]) (by kernel_rfl)) (ZH (l:=[0,1,2,3,4,5,6,7,8,9,10,11,12]) (by kernel_rfl))) (Ph.at ?_) (List.Perm.refl _) ?_
 ·refine BK (BK rfl (Or.inl (BK rfl (B5.l' 800 w1.tt rfl rfl AB)))) ?_
  refine BK (BK rfl (Or.inl (BK rfl (B5.p w1.tt rfl rfl AB)))) ?_;refine BK (BK rfl (Or.inl (BK rfl (B5.p w1.tt rfl rfl AB)))) ?_;refine BK (BK rfl (Or.inl (BK rfl (B5.p w1.tt rfl rfl ⟨⟨hA0,hA1⟩,rfl⟩)))) ?_;refine BK (BK rfl (Or.inr ⟨_,_,rfl,rfl,O0.app 804 w1.tt rfl rfl ⟨rfl,rfl,rfl,rfl,rfl,Al _,by show(0+((T.drop 0).take (((A:Nat):Int).toNat-0)).length)*32<=140737488355328;omega,by decide,by decide⟩⟩)) ?_;refine BK (BK rfl (Or.inl (BK rfl (B5.p w1.tt rfl rfl AB)))) ?_;refine BK (BK rfl (Or.inl (BK rfl (B5.p w1.tt rfl rfl AB)))) ?_;refine BK (BK rfl (Or.inl (BK rfl (B5.p w1.tt rfl rfl (by exact CF))))) ?_;refine BK (BK rfl (Or.inl (BK rfl (B5.l' 808 w1.tt rfl rfl (by exact CF))))) ?_;refine BK (BK rfl (Or.inr ⟨_,_,rfl,rfl,O0.app 809 w1.tt rfl rfl ⟨rfl,rfl,rfl,rfl,rfl,by show 0+((T.drop 0).take (((A:Nat):Int).toNat-0)).length<=([]++((T.drop 0).take (((A:Nat):Int).toNat-0))).length;rw[GK];omega,by show(0+((T.drop 0).take (((A:Nat):Int).toNat-0)).length+1)*32<=140737488355328;omega,by decide,by decide⟩⟩)) ?_;refine BK (BK rfl (Or.inl (BK rfl (B5.p w1.tt rfl rfl AB)))) ?_;refine BK (BK rfl (Or.inl (BK rfl (B5.p w1.tt rfl rfl AB)))) ?_;refine BK (BK rfl (Or.inl (BK rfl (B5.p w1.tt rfl rfl ⟨⟨hA0,hA1⟩,rfl⟩)))) ?_;exact AB
 change Cz _ _ _ _ _ ⟨(64,.sl false 2 ((T.drop ((A:Nat):Int).toNat).take (T.length-((A:Nat):Int).toNat)))::(63,i64 (A:Nat))::(62,.sl false 2 T)::(61,.osl 809 (n2+9) 2 0 (0+((T.drop 0).take (((A:Nat):Int).toNat-0)).length+1))::(60,.sl true 2 [(.agg [str (sb lot),str (sb (An r))])])::(59,(.agg [str (sb lot),str (sb (An r))]))::(58,str (sb (An r)))::(57,str (sb lot))::(56,.osl 804 (n2+4) 2 0 (0+((T.drop 0).take (((A:Nat):Int).toNat-0)).length))::(55,.sl false 2 ((T.drop 0).take (((A:Nat):Int).toNat-0)))::(54,i64 (A:Nat))::(53,.sl false 2 T)::(52,.osl 800 (n2+0) 2 0 0)::_,[⟨809,n2+9,66,2,([].take 0++((T.drop 0).take (((A:Nat):Int).toNat-0))).take (0+((T.drop 0).take (((A:Nat):Int).toNat-0)).length)++[(.agg [str (sb lot),str (sb (An r))])]⟩],_⟩ _ _;have q1:((T.drop 0).take (((A:Nat):Int).toNat-0))=T.take A:=by simp
 have q2:((T.drop ((A:Nat):Int).toNat).take (T.length-((A:Nat):Int).toNat))=T.drop A:=by
  rw[Mo,Ch];rw[Dp];omega
 rw[q1,q2];obtain⟨P,hP⟩:∃P,T.take A=P:=⟨_,rfl⟩
 obtain⟨S,hS⟩:∃S,T.drop A=S:=⟨_,rfl⟩
 have hPl:P.length<=10000:=by rw[<-hP,Bi];omega
 have hSl:S.length<=10000:=by rw[<-hS,Dp];omega
 have pS:AA (.sl false 2 S):=by
  rw[<-hS,<-hT,<-List.map_drop];exact AI
 rw[hP,hS]at pR⊢;have q3:([].take 0++P).take (0+P.length)=P:=by simp
 rw[q3,BZ];have q5:P.length+1<=(P++[(D.agg [str (sb lot),str (sb (An r))])]).length:=by simp
 have q4:(P++[(D.agg [str (sb lot),str (sb (An r))])]).take (P.length+1)=P++[(D.agg [str (sb lot),str (sb (An r))])]:=by rw[Ch];simp
 refine AF Kz kB AB AB AB AB AB AB ?_;rw[q4];refine⟨_,PD rfl rfl ?_,pR,rfl⟩;rw[Bp,Bp];rfl
abbrev Re:Dr:=[(8,[0,1,2,3,4,5,6,7,8,9,10,11,12,13,14,15,16,17,18,19,20,21,22,23,24,25],[26,27])]
open Go.Proofs Go.RowKit Go.Sort
set_option maxRecDepth 20000
set_option maxHeartbeats 4000000
theorem Z4 {lot:List UInt8}{r:Rat}{k:Nat}(hr:rk r 4):∀ {l:BW},(∀p∈l,rk p.2 k)->∀p∈DG lot r l,rk p.2 (k+5)
 | [],_,p,hp=>by
  unfold DG at hp;rw[Eb]at hp;rw[hp];exact hr.mono (by omega)
 |a::l,h,p,hp=>by
  unfold DG at hp;split at hp
  ·rcases Az.1 hp with rfl|hp
   ·exact(h p CO).mono (by omega)
   ·exact Z4 hr (λq hq=>h q (CT _ hq)) p hp
  ·split at hp
   ·rcases Az.1 hp with rfl|hp
    ·exact(VW (h a CO) hr).mono (by omega)
    ·exact(h p (CT _ hp)).mono (by omega)
   ·rcases Az.1 hp with rfl|hp
    ·exact hr.mono (by omega)
    ·exact(h p hp).mono (by omega)
theorem UX {lot:List UInt8}{r:Rat}:∀ {l:BW},(DG lot r l).length<=l.length+1
 | []=>by simp[DG]
 |a::l=>by
  unfold DG;split
  ·simp only[Bq]
   have:=UX (lot:=lot) (r:=r) (l:=l)
   omega
  ·split<;>simp
def HI (x:AE)(n:Nat)(q:BW):BW:=(x.shs.take n).foldl (λacc s=>DG s.lot (Bd s.part*(x.mass:Rat)) acc) q
def DS (l:List AE):BW:=l.foldl (λacc x=>HI x x.shs.length acc) []
theorem X0 (x:AE)(n:Nat)(q:BW){s:A0}(h:x.shs[n]?=some s):HI x (n+1) q=DG s.lot (Bd s.part*(x.mass:Rat)) (HI x n q):=by
 unfold HI;rw[D8,h,List.foldl_append];rfl
theorem Xr (l:List AE)(n:Nat){x:AE}(h:l[n]?=some x):DS (l.take (n+1))=HI x x.shs.length (DS (l.take n)):=by
 unfold DS;rw[D8,h,List.foldl_append];rfl
def AE.okR (x:AE):Prop:=x.shs.length<=15/\1<=x.mass/\x.mass<=999999999/\∀s∈x.shs,s.ok
theorem qH {s:A0}(h:s.ok):str (sb s.part)=rR (Bd s.part):=by
 unfold rR;rw[(M0 h.2.2).2.2.1]
theorem Zt {z:Int}(h0:1<=z)(h1:z<=999999999):rk (z:Rat) 1:=(Oy (z:=z) (by omega)).rk
theorem qp (n:Nat)(hn:n<1000000000):AK C0 190 [i64 (n:Int)] (rZ (n:Int)):=by
 refine AZ.walk w1 bT rfl λF=>?_
 have q1:decide ((n:Int)<0)=false:=Bc;have q2:((n:Int)).tmod 1000000000=(n:Int):=Int.tmod_eq_of_lt (by omega) (by omega);have q3:((n:Int)).tdiv 1000000000=0:=Int.tdiv_eq_zero_of_lt (by omega) (by omega);have q4:IntKind.i64.wrap 0=0:=rfl;have q5:IntKind.i64.wrap (n:Int)=(n:Int):=wI;have q6:((0:Int) != 0)=false:=rfl;have c0:=RK false [] (λa h=>by cases h) (by decide);have e0:rZ (sg false (AR []))=rZ 0:=rfl;rw[e0]at c0;have cn:n≠0->AK C0 230 [Ai false,rL [n]] (rZ (n:Int)):=λh=>by
  have:=RK false [n] (λa h=>by rw[Eb.1 h];exact hn) (by simp)
  have e:AR [n]=n:=by unfold AR AR;omega
  rw[e]at this;exact this
 rcases Nat.decEq n 0 with h0|h0
 rotate_left
 ·subst h0
  have q7:(((0:Nat):Int) != 0)=false:=rfl;refine AF AU q1 AB AB AB AB AB AB ?_;refine AC.loop (α:=Nat) (λp=>⟨[(0,i64 ((0:Nat):Int)),(2,.optr 0 0 2 0 0),(3,CS),(4,Ai false)],[⟨0,0,223,2,[.agg [Ai false,CS]]⟩],p⟩) (λ_=>0) (λ_=>True) _ AB AL ?_;intro m F _;refine AF AU q7 AB AB AB AB AB AB ?_;refine A7.own _ (Mk [⟨0,0,223,2,[.agg [Ai false,CS]]⟩] c0 (.keep .nil) ⟨.refl _,.nil 1,trivial⟩ AI) ?_;rintro d H' n' ⟨rfl,rfl,rfl⟩;refine AF AU kB AB AB AB AB AB AB ?_;exact AJ rfl AA.out
 have cn:=cn h0;have q7:=GX h0;refine AF AU q1 AB AB AB AB AB AB ?_;refine AC.loop (α:=Bool×Nat×Nat) (λp=>⟨[(0,if p.1 then i64 0 else i64 (n:Int)),(2,.optr 0 0 2 0 0),(3,if p.1 then .osl 703 p.2.1 1 0 1 else CS),(4,Ai false)],(if p.1 then[⟨703,p.2.1,3,1,[i64 (n:Int)]⟩]else[])++[⟨0,0,223,2,[.agg [Ai false,CS]]⟩],p.2.2⟩) (λp=>if p.1 then 0 else 1) (λ_=>True) (false,0,_) AB AL ?_;rintro⟨t,g,m⟩ F -;cases t
 ·dsimp only[Bool.false_eq_true,if_false,List.nil_append]
  refine AF AU (Ek q7 q1 q2 q3 q4 q5) AB AB AB AB AB AB ?_;exact⟨(true,_,_),trivial,Nat.zero_lt_one,AL⟩
 ·dsimp only[if_true,List.cons_append,List.nil_append]
  refine AF AU q6 AB AB AB AB AB AB ?_;refine A7.own _ (Mk [⟨0,0,223,2,[.agg [Ai false,CS]]⟩] cn (.drop (.keep .nil)) ⟨.refl _,UW rfl,trivial⟩ AI) ?_;rintro d H' n' ⟨rfl,rfl,rfl⟩;refine AF AU kB AB AB AB AB AB AB ?_;exact AJ rfl AA.out
theorem vf (z:Int)(h0:0<=z)(h1:z<1000000000):AK C0 137 [i64 z] (rR (z:Rat)):=by
 obtain⟨n,rfl⟩:∃n:Nat,z=(n:Int):=⟨z.toNat,by omega⟩
 refine AZ.walk w1 tR rfl λF=>?_
 have c1:=qp n (by omega);have hr:Ga (n:Int):=by
  unfold Ga;rw[D7];exact DH (Ks (k:=1) (DH (show n<=999999999 by omega) (by decide +kernel))) (by decide)
 have c2:=Vn (n:Int) hr;have e:str (sb (Lib.itoa (n:Int)))=rR ((n:Int):Rat):=by unfold rR;rw[JW]
 rw[e]at c2;unfold rZ at c1 c2;refine AF AU kB c1 c2 AB AB AB AB ?_;exact AJ rfl AA.out
theorem zI (b:Bool)(l:List AE)(hl:l.length<=8)(hx:∀x∈l,x.okR):AK C0 93 [Am b l] (.sl false 2 ((DS l).map Bu)):=by
 refine AZ.walk w1 xu rfl λF=>?_
 have el:(((l.map AE.D).length:Nat):Int)=(l.length:Int):=by rw[Ag]
 refine sZ 0 ?_;refine AD kB ?_;refine sZ 100 ?_;refine AD kB ?_;refine AC.seq ?_;refine sZ 200 ?_;refine AD kB ?_;refine AC.block ?_;refine AC.loop (α:=Nat×Nat) (λp=>⟨[(0,Am b l),(3,.sl false 2 ((DS (l.take p.1)).map Bu)),(4,i64 (p.1:Int))],[],p.2⟩) (λp=>l.length-p.1)
  (λp=>p.1<=l.length/\(∀z∈DS (l.take p.1),rk z.2 (75*p.1))/\(DS (l.take p.1)).length<=15*p.1) (0,_) ⟨BU _,λz h=>by simp[DS]at h,by simp[DS]⟩ (AL (b:=⟨.refl _,.nil 2,.refl _,trivial⟩)) ?_
 rintro⟨i,n1⟩ F ⟨hi,hk,hlen⟩;dsimp only at hi hk hlen⊢;rcases BA i l.length with h2|h2
 rotate_left
 ·have e1:=Cb h2
  have:i=l.length:=by omega
  subst this;rw[C6];refine AF Re (Ab e1 el) AB AB AB AB AB AB ?_;exact AJ rfl AA.out
 have e1:=CZ h2;have wi:=Cc (i:=i) (by omega);obtain⟨x,hxi⟩:=CU h2;obtain⟨x1,x2,x3,x4⟩:=hx x (Ay hxi);have hm:(l.map AE.D)[i]?=some (.agg [str (sb x.grain),i64 x.mass,.sl false 2 (x.shs.map A0.D)]):=by rw[A8,hxi];rfl
 have es:(((x.shs.map A0.D).length:Nat):Int)=(x.shs.length:Int):=by rw[Ag]
 have hsn:=Xr l i hxi;obtain⟨Q,hQ⟩:∃Q,DS (l.take i)=Q:=⟨_,rfl⟩
 rw[hQ]at hk hlen hsn⊢;have cF:=vf x.mass (by omega) (by omega);refine AF Re (Ab e1 el) AB AB AB AB AB AB ?_;refine AC.loop (α:=Nat×Nat) (λp=>⟨[(0,Am b l),(3,.sl false 2 ((HI x p.1 Q).map Bu)),(4,i64 (i:Int)),(5,i64 (p.1:Int))],[],p.2⟩) (λp=>x.shs.length-p.1)
  (λp=>p.1<=x.shs.length/\(∀z∈HI x p.1 Q,rk z.2 (75*i+5*p.1))/\(HI x p.1 Q).length<=15*i+p.1) (0,_) ⟨BU _,hk,hlen⟩ AL ?_
 rintro⟨j,n2⟩ F ⟨hj,hk2,hlen2⟩;dsimp only at hj hk2 hlen2⊢;rcases BA j x.shs.length with h3|h3
 rotate_left
 ·have e2:=Cb h3
  have:j=x.shs.length:=by omega
  subst this;rw[<-hsn]at hk2 hlen2⊢;refine AF Re (BS e2 es wi kN) hm AB AB AB AB AB ?_;exact⟨(i+1,_),⟨h2,λz hz=>(hk2 z hz).mono (by dsimp only;omega),by dsimp only;omega⟩,by dsimp only;omega,AL⟩
 have e2:=CZ h3;have wj:=Cc (i:=j) (by omega);obtain⟨s,hsj⟩:=CU h3;have hms:(x.shs.map A0.D)[j]?=some (.agg [str (sb s.lot),str (sb s.part)]):=by rw[A8,hsj];rfl
 have hso:=x4 s (Ay hsj);have hsn2:=X0 x j Q hsj;have cM:=d9b (Bd s.part) ((x.mass:Int):Rat) 3 1 (TO hso.2.2 hso.2.1) (Zt x2 x3) (by decide);rw[<-qH hso]at cM;have hr4:rk (Bd s.part*((x.mass:Int):Rat)) 4:=dG (TO hso.2.2 hso.2.1) (Zt x2 x3);obtain⟨r,hr⟩:∃r,Bd s.part*((x.mass:Int):Rat)=r:=⟨_,rfl⟩
 rw[hr]at cM hr4 hsn2;obtain⟨Q2,hQ2⟩:∃Q2,HI x j Q=Q2:=⟨_,rfl⟩
 rw[hQ2]at hk2 hlen2 hsn2⊢;have cP:=d9k Q2 s.lot r (75*i+5*j+4) (by omega) (λp hp=>(hk2 p hp).mono (by omega)) (hr4.mono (by omega)) (by omega);have hk3:=Z4 (lot:=s.lot) hr4 hk2;have hl3:=UX (lot:=s.lot) (r:=r) (l:=Q2);rw[<-hsn2]at cP hk3 hl3;obtain⟨q2,hq2⟩:∃d,Q2.map Bu=d:=⟨_,rfl⟩
 have pq2:AA (.sl false 2 q2):=by rw[<-hq2];exact AI
 rw[hq2]at cP⊢;obtain⟨rd,hrd⟩:∃d,rR r=d:=⟨_,rfl⟩
 have prd:AA rd:=by rw[<-hrd];exact AI
 obtain⟨md,hmd⟩:∃d,rR ((x.mass:Int):Rat)=d:=⟨_,rfl⟩
 have pmd:AA md:=by rw[<-hmd];exact AI
 rw[hrd]at cP cM;rw[hmd]at cF cM;refine AF Re (BS e2 es wj kN) hm hms cF cM cP AB ?_;exact⟨(j+1,_),⟨h3,λz hz=>(hk3 z hz).mono (by dsimp only;omega),by dsimp only;omega⟩,by dsimp only;omega,AL⟩
abbrev GQ (q:BW):Prop:=q.Pairwise λa b=>ltStr a.1 b.1=true
theorem GQ.nd {q:BW}(h:GQ q):(Cu q).Nodup:=by
 rw[Cu,List.Nodup,List.pairwise_map];exact h.imp λ{a b} h e=>by rw[e,swo_ltStr.irrefl]at h;cases h
theorem Qp {lot:List UInt8}{o v:Rat}:∀ {q:BW},Ew lot q=some o->∃A B,q=A++(lot,o)::B/\Gy lot v q=A++(lot,v)::B
 | [],h=>by simp[Ew]at h
 |p::l,h=>by
  unfold Ew at h;unfold Gy;split at h
  ·rename_i e
   cases h;rw[AH e];exact⟨[],l,by rw[e];rfl,rfl⟩
  ·rename_i e
   rw[AG e];obtain⟨A,B,h1,h2⟩:=Qp (v:=v) h;exact⟨p::A,B,by rw[h1];rfl,by rw[h2];rfl⟩
theorem UB {lot:List UInt8}{v:Rat}:∀ {q:BW},Ew lot q=none->lot∉Cu q/\Gy lot v q=q++[(lot,v)]
 | [],_=>⟨by simp[Cu],rfl⟩
 |p::l,h=>by
  unfold Ew at h;unfold Gy;split at h
  ·cases h
  ·rename_i e
   rw[AG e];obtain⟨h1,h2⟩:=UB (v:=v) h;exact⟨λq=>by
    rcases Az.1 q with q|q
    ·exact e q
    ·exact h1 q,by rw[h2];rfl⟩
theorem Yi {lot:List UInt8}{r:Rat}:∀ {Q:BW},GQ Q->(∃A o B,Q=A++(lot,o)::B/\DG lot r Q=A++(lot,o+r)::B)\/(lot∉Cu Q/\∃A B,Q=A++B/\DG lot r Q=A++(lot,r)::B)
 | [],_=>.inr ⟨by simp[Cu],[],[],rfl,rfl⟩
 |p::l,h=>by
  have hp:=Da.1 h;unfold DG;split
  ·rename_i e
   rcases Yi (lot:=lot) (r:=r) hp.2 with⟨A,o,B,h1,h2⟩|⟨h0,A,B,h1,h2⟩
   ·exact .inl ⟨p::A,o,B,by rw[h1];rfl,by rw[h2];rfl⟩
   ·refine .inr ⟨λq=>?_,p::A,B,by rw[h1];rfl,by rw[h2];rfl⟩
    rcases Az.1 q with q|q
    ·rw[show p.1=lot from q.symm,swo_ltStr.irrefl]at e;cases e
    ·exact h0 q
  ·rename_i e
   split
   ·rename_i e2
    exact .inl ⟨[],p.2,l,by rw[<-e2];rfl,by rw[e2];rfl⟩
   ·rename_i e2
    refine .inr ⟨λq=>?_,[],p::l,rfl,rfl⟩;rcases Az.1 q with q|q
    ·exact e2 q.symm
    ·obtain⟨z,hz,rfl⟩:=By.1 q
     exact e (hp.1 z hz)
theorem Xz {lot:List UInt8}{r:Rat}:∀ {Q:BW},∀z∈DG lot r Q,z.1=lot\/z.1∈Cu Q
 | [],z,hz=>by
  unfold DG at hz;rw[Eb]at hz;exact .inl (by rw[hz])
 |p::l,z,hz=>by
  unfold DG at hz;split at hz
  ·rcases Az.1 hz with rfl|hz
   ·exact .inr CO
   ·rcases Xz z hz with h|h
    ·exact .inl h
    ·exact .inr (CT _ h)
  ·split at hz
   ·rcases Az.1 hz with rfl|hz
    ·exact .inr CO
    ·exact .inr (CT _ (List.mem_map_of_mem hz))
   ·rcases Az.1 hz with rfl|hz
    ·exact .inl rfl
    ·exact .inr (List.mem_map_of_mem hz)
theorem Ux {lot:List UInt8}{r:Rat}:∀ {Q:BW},GQ Q->GQ (DG lot r Q)
 | [],_=>List.pairwise_singleton _ _
 |p::l,h=>by
  have hp:=Da.1 h;unfold DG;split
  ·rename_i e
   refine Da.2 ⟨λz hz=>?_,Ux hp.2⟩;rcases Xz z hz with h|h
   ·rw[h];exact e
   ·obtain⟨y,hy,h2⟩:=By.1 h
    rw[<-h2];exact hp.1 y hy
  ·rename_i e
   split
   ·exact Da.2 ⟨hp.1,hp.2⟩
   ·rename_i e2
    have e3:ltStr lot p.1=true:=by
     cases h9:ltStr lot p.1 with
     |true=>rfl
     |false=>exact Af (Qe (by simpa using e) h9) e2
    refine Da.2 ⟨λz hz=>?_,h⟩;rcases Az.1 hz with rfl|hz
    ·exact e3
    ·exact swo_ltStr.trans _ _ _ e3 (hp.1 z hz)
theorem qT {Q q:BW}(hs:GQ Q)(hp:Q.Perm q)(lot:List UInt8)(r:Rat):(DG lot r Q).Perm (KV lot r q):=by
 have hnd:(Cu Q).Nodup:=hs.nd;unfold KV;rcases Yi (lot:=lot) (r:=r) hs with⟨A,o,B,h1,h2⟩|⟨h0,A,B,h1,h2⟩
 ·have hm:(lot,o)∈q:=hp.mem_iff.1 (by rw[h1];simp)
  have hqn:(Cu q).Nodup:=(hp.map _).nodup_iff.1 hnd;have hlk:=Tz hqn hm;dsimp only at hlk;rw[hlk];dsimp only;obtain⟨A2,B2,h3,h4⟩:=Qp (v:=r+o) hlk;rw[h2,h4];have p1:(A++(lot,o)::B).Perm ((lot,o)::(A++B)):=HT;have p2:(A2++(lot,o)::B2).Perm ((lot,o)::(A2++B2)):=HT;have p3:(A++B).Perm (A2++B2):=by
   rw[h1,h3]at hp;exact List.Perm.cons_inv (p1.symm.trans (hp.trans p2))
  rw[Rat.add_comm o r];exact HT.trans ((p3.cons _).trans HT.symm)
 ·have hn:Ew lot q=none:=by
   cases h9:Ew lot q with
   |none=>rfl
   |some o=>
    obtain⟨A2,B2,h3,-⟩:=Qp (v:=o) h9;exact Af ((hp.map (·.1)).mem_iff.2 (by rw[h3];simp)) h0
  rw[hn];dsimp only;rw[(UB (v:=r) hn).2,h2];rw[h1]at hp;exact HT.trans ((hp.cons _).trans (List.perm_append_singleton _ _).symm)
theorem Z5 {Q q:BW}(hs:GQ Q)(hp:Q.Perm q)(x:AE):∀j,j<=x.shs.length->GQ (HI x j Q)/\(HI x j Q).Perm (Gt x j q)
 | 0,_=>⟨hs,hp⟩
 |j+1,hj=>by
  obtain⟨s,hsj⟩:∃s,x.shs[j]?=some s:=⟨_,Bo hj⟩
  obtain⟨h1,h2⟩:=Z5 hs hp x j (by omega);rw[X0 x j Q hsj,OR x j q hsj];exact⟨Ux h1,qT h1 h2 _ _⟩
theorem Oo (l:List AE):∀i,i<=l.length->GQ (DS (l.take i))/\(DS (l.take i)).Perm (CJ (l.take i))
 | 0,_=>⟨List.Pairwise.nil,.refl _⟩
 |i+1,hi=>by
  obtain⟨x,hx⟩:∃x,l[i]?=some x:=⟨_,Bo hi⟩
  obtain⟨h1,h2⟩:=Oo l i (by omega);rw[Xr l i hx,Qd l i hx];exact Z5 h1 h2 x _ (Al _)
theorem GQ.weak {q:BW}(h:GQ q):q.Pairwise λa b=>ltStr b.1 a.1=false:=h.imp λ{a b} h=>by
 cases h9:ltStr b.1 a.1 with
 |false=>rfl
 |true=>have:=swo_ltStr.trans _ _ _ h h9;rw[swo_ltStr.irrefl]at this;cases this
theorem UI (l:List AE):DS l=F3 (CJ l):=by
 obtain⟨h1,h2⟩:=Oo l l.length (Al _);rw[C6]at h1 h2;exact Te ((h2.map _).nodup_iff.1 h1.nd) h2 (Ku _) h1.weak (RZ _)
theorem UJ (l:List AE):GQ (DS l):=by
 obtain⟨h1,-⟩:=Oo l l.length (Al _)
 rwa [C6]at h1
def EG (g:List UInt8)(x:AE):AE:=⟨g,x.mass,x.shs⟩
def Ho (l:List AE)(g:List UInt8):Nat:=if CG l≠0 then CG l else if B4 g=false then 8 else if l.length=0 then 13 else 0
def Ix (l:List AE)(g:List UInt8):Nat:=if Ho l g≠0 then Ho l g else HK (l.map (EG g))
def MS (l:List AE)(g:List UInt8):AE:=if Ho l g≠0 then⟨[],0,[]⟩else Lc (l.map (EG g))
theorem qz (g:List UInt8){l:List AE}{i:Nat}{x:AE}(hx:l[i]?=some x):
  (((l.take i).map (EG g)++l.drop i).map AE.D).set i (.agg [str (sb g),i64 x.mass,.sl false 2 (x.shs.map A0.D)])=((l.take (i+1)).map (EG g)++l.drop (i+1)).map AE.D:=by
 have hi:=(BQ.1 hx).1;have hd:l.drop i=x::l.drop (i+1):=by
  rw[EN hi,(BQ.1 hx).2]
 rw[D8,hx,hd];simp only[DK,Cs,Option.toList_some,List.map_nil,EE,E2,GK];rw[P6 _ _ (by simp;omega)]
 have:i-(((l.take i).map (EG g)).map AE.D).length=0:=by simp;omega
 rw[this];rfl
theorem gt (b:Bool)(l:List AE)(g:List UInt8)(hl:l.length<=1000000)(hf:∀x∈l,x.lite)(hg:g.length<=100000):AK C0 21 [Am b l,str (sb g)] (.tup [(MS l g).D,i64 (Ix l g:Nat)]):=by
 refine AZ.walk w1 fQ rfl λF=>?_
 have el:(((l.map AE.D).length:Nat):Int)=(l.length:Int):=by rw[Ag]
 have cP:=Nv b l (by omega) λx hx=>(hf x hx).1
 have cN:=MF g;have hN:Ix l g=if Ho l g≠0 then Ho l g else HK (l.map (EG g)):=rfl
 have hL:MS l g=if Ho l g≠0 then⟨[],0,[]⟩else Lc (l.map (EG g)):=rfl
 have hE:Ho l g=if CG l≠0 then CG l else if B4 g=false then 8 else if l.length=0 then 13 else 0:=rfl
 obtain⟨K,hK⟩:∃K,B4 g=K:=⟨_,rfl⟩
 have cW1:=Gq (!K) 8;have cW2:=Gq ((l.length:Int)==0) 13;have cF:AK C0 31 [.sl true 1 [i64 (CG l:Nat),i64 (if !K then 8 else 0),i64 (if(l.length:Int)==0 then 13 else 0)]] (i64 (Ho l g:Nat)):=by
  have:=LA [(CG l:Int),if !K then 8 else 0,if(l.length:Int)==0 then 13 else 0] (by simp)
  have he:D3 [(CG l:Int),if !K then 8 else 0,if(l.length:Int)==0 then 13 else 0]=((Ho l g:Nat):Int):=by
   rw[hE,hK]
   by_cases h1:CG l=0<;>cases K<;>by_cases h3:l.length=0<;>simp[D3,h1,h3]
  rw[he]at this;exact this
 rw[hK]at cN;rcases Nat.decEq (Ho l g) 0 with g0|g0
 ·have e1:=GX g0
  rw[AH g0]at hN hL;rw[hN,hL];refine AF AU (Ab el e1) cP cN cW1 cW2 cF AB ?_;exact⟨_,Ow _ _,AA.out,rfl⟩
 have e1:=Gw g0;rw[AG (λh=>h g0)]at hN hL;rw[hN,hL];have h0:l≠[]:=λh=>by
  rw[hE]at g0;split at g0
  ·rename_i h9;exact h9 g0
  ·split at g0
   ·cases g0
   ·split at g0
    ·cases g0
    ·rename_i h9;exact h9 (by rw[h];rfl)
 refine AF AU (Ab el e1) cP cN cW1 cW2 cF AB ?_;refine A7.own _ (no b l hl h0 _ _) ?_;rintro d H' n' ⟨gk,rfl,rfl,rfl⟩;refine AF AU kB AB AB AB AB AB AB ?_;refine AC.loop (α:=Nat×Nat) (λp=>⟨[(1,str (sb g)),(4,.optr 0 0 3 0 0),(7,.osl 302 gk 3 0 l.length),(28,i64 (l.length:Int)),(29,i64 (p.1:Int))],[⟨302,gk,52,3,((l.take p.1).map (EG g)++l.drop p.1).map AE.D⟩,⟨0,0,52,3,[.agg [.prim (.string ⟨#[]⟩),.prim (.int .i64 0),.prim (.slice none 0 0)]]⟩],p.2⟩) (λp=>l.length-p.1)
  (λp=>p.1<=l.length) (0,_) (BU _) AL ?_
 rintro⟨i,n⟩ F hi;dsimp only at hi⊢;rcases BA i l.length with h2|h2
 rotate_left
 ·have e1:=Cb h2
  have:i=l.length:=by omega
  subst this;rw[C6,Jr,Dm];have hlr:(l.map (EG g)).length=l.length:=Ag ..;have hfr:∀x∈l.map (EG g),x.lite:=λx hx=>by
   obtain⟨y,hy,rfl⟩:=By.1 hx;obtain⟨⟨a1,a2,a3⟩,a4⟩:=hf y hy;exact⟨⟨hg,a2,a3⟩,a4⟩
  have cM:=ze false (l.map (EG g)) (by rw[hlr];exact hl) hfr;obtain⟨R,hR⟩:∃R,l.map (EG g)=R:=⟨_,rfl⟩
  rw[hR]at cM hlr⊢;obtain⟨Z,hZ⟩:∃Z:AE,Lc R=Z:=⟨_,rfl⟩
  rw[hZ]at cM⊢;refine AF AU e1 AB AB AB AB AB AB ?_;have hfz:Fz [⟨302,gk,52,3,R.map AE.D⟩,⟨0,0,52,3,[.agg [.prim (.string ⟨#[]⟩),.prim (.int .i64 0),.prim (.slice none 0 0)]]⟩] [⟨0,0,52,3,[.agg [.prim (.string ⟨#[]⟩),.prim (.int .i64 0),.prim (.slice none 0 0)]]⟩] (.osl 302 gk 3 0 l.length) (Am false R):=by
   have:=IA (H:=[⟨302,gk,52,3,R.map AE.D⟩,⟨0,0,52,3,[.agg [.prim (.string ⟨#[]⟩),.prim (.int .i64 0),.prim (.slice none 0 0)]]⟩]) (Hf:=[⟨0,0,52,3,[.agg [.prim (.string ⟨#[]⟩),.prim (.int .i64 0),.prim (.slice none 0 0)]]⟩]) (k:=302) (g:=gk) (T:=52) (sz:=3) (l:=R.map AE.D) rfl
   rwa [Ag,hlr]at this
  refine A7.own _ (Mk [⟨0,0,52,3,[.agg [.prim (.string ⟨#[]⟩),.prim (.int .i64 0),.prim (.slice none 0 0)]]⟩] cM (.drop (.keep .nil)) ⟨hfz,trivial⟩ AI) ?_;rintro d H2 n2 ⟨rfl,rfl,rfl⟩;unfold AE.D;refine AF AU kB AB AB AB AB AB AB ?_;exact AJ rfl AA.out
 have e1:=CZ h2;have wi:=Cc (i:=i) (by omega);obtain⟨x,hx⟩:=CU h2;obtain⟨es,hes⟩:∃es,((l.take i).map (EG g)++l.drop i).map AE.D=es:=⟨_,rfl⟩
 rw[hes];have hm:es[i]?=some (.agg [str (sb x.grain),i64 x.mass,.sl false 2 (x.shs.map A0.D)]):=by
  rw[<-hes,A8,Ez (by simp;omega)];simp only[Ag,Bi,Fh (Jn h2),Nat.sub_self,G3,Dq,hx,Jm];rfl
 refine sZ 600 ?_;refine AD e1 ?_;refine AC.seq ?_;refine AN ?_;refine Aj ?_;refine AC.seq ?_;refine AC.block ?_;refine sZ 700 ?_;refine AD kB ?_;refine Ao 800 ?_;refine AD (Ar kN BZ hm) ?_;have hset:es.set i (.agg [str (sb g),i64 x.mass,.sl false 2 (x.shs.map A0.D)])=((l.take (i+1)).map (EG g)++l.drop (i+1)).map AE.D:=by
  rw[<-hes];exact qz g hx
 rw[hset];refine AF AU wi AB AB AB AB AB AB ?_;exact⟨(i+1,_),h2,by dsimp only;omega,AL⟩
end Go.Ide
