/- The layer of own lemmas and contracts, part 11. -/
import Derived.Test.YtegpdgcahcikoaaGreatDoorO9
import Derived.Test.YtegpdgcahcikoaaGreatDoorO10
import Derived.Test.YtegpdgcahcikoaaGreatDoorO3
import Derived.Test.YtegpdgcahcikoaaGreatDoorO7
import Derived.Shelf.RegionOpenPlain
import Derived.Lib.Builder
import Derived.Lib.UnsafeStr
import Derived.Lib.Strings
import Derived.Lib.Slices
import Derived.Lib.Walk
import Derived.Laws.Externs
import Derived.KernelRfl
import Derived.WalkKit
import Derived.Shelf.Strconv.Itoa3
import Derived.Lib.ItoaMem
import Derived.Lib.AppendIntMem
import Derived.BigCall
import Derived.BigGuard
import Derived.Test.YtegpdgcahcikoaaGreatDoorO8
import Derived.Test.YtegpdgcahcikoaaGreatDoorO4
import Derived.Shelf.SlSortCmp.WholeK
import Derived.Shelf.Lay
import Derived.Laws.Cover1
import Derived.Shelf.Small.Bits
import Derived.Ground.SlsfProg
import Derived.Ground.NamesProg
import Derived.Shelf.SlIter.Sorted
import Derived.Shelf.SortM.Plain
import Derived.Shelf.SortM.SortNone
import Derived.Ground.GgzProg
import Derived.Ground.SlgmProg
set_option linter.unusedVariables false
set_option linter.unusedSimpArgs false
namespace Go.Ide
open Go.Proofs Go.RowKit
set_option maxRecDepth 20000
set_option maxHeartbeats 4000000
theorem Ck {i n:Nat}(h:i<n):decide ((i:Int)<(n:Int))=true:=AX (by omega)
theorem Cj {i n:Nat}(h:n<=i):decide ((i:Int)<(n:Int))=false:=Ag (by omega)
theorem Cc {i:Nat}(h:i<9223372036854775807):IntKind.i64.wrap ((i:Int)+1)=((i+1:Nat):Int):=wI (by omega) (by omega)
theorem CU {α:Type}{l:List α}{i:Nat}(h:i<l.length):∃x,l[i]?=some x:=⟨l[i],A9 h⟩
instance  (l:List UInt8):AT (GL l).D:=by unfold GF.D;exact AI
theorem GQ {a:Nat}(h:a≠0):(((a:Nat):Int) != 0)=true:=KQ (by omega)
theorem GR {a:Nat}(h:a=0):(((a:Nat):Int) != 0)=false:=by subst h;rfl
theorem y9 {a:Nat}(h:a≠0):(((a:Nat):Int)==0)=false:=Br.2 (by omega)
set_option maxHeartbeats 1000000
set_option maxRecDepth 100000
theorem xB {n:Nat}(h:1<=n):liesAt Tryz.prog Tryz.prog.depth 218 n 0 218 1=true:=by
 have hs:sameLayout Tryz.prog Tryz.prog.depth 218 218=true:=by kernel_rfl
 have hc:Tryz.prog.cellsOf 218=2:=by kernel_rfl
 obtain⟨d,hd⟩:∃d,Tryz.prog.depth=d+1:=⟨Tryz.prog.depth-1,by kernel_rfl⟩
 rw[hd]at hs⊢;unfold liesAt;rw[hd];unfold rowAt;simp[hc,hs,h]
theorem nk (b c:Nat)(hc:2<=c)(w:World)(h0:w.cell? ⟨b,0,none⟩=some (.pointer none))(hsh:w.shape? b=some (218,c))(hfz:w.frozen? ⟨b,0,none⟩=false):
  Calls Tryz.prog 234 #[.pointer (some ⟨b,0,none⟩)] w λe w'=>e=.returned (.tuple #[])/\w'=w.setCell ⟨b,0,none⟩ (.pointer (some ⟨b,0,none⟩)):=by
 obtain⟨j,hj,hjs⟩:=Option.map_eq_some_iff.1 (show(Tryz.prog.info? 218).map (·.size)=some 2 by kernel_rfl);have hl:liesAt Tryz.prog Tryz.prog.depth 218 (c/Tryz.prog.cellsOf 218) 0 218 1=true:=xB (by rw[show Tryz.prog.cellsOf 218=2 by kernel_rfl];omega)
 go_enter Tryz.func234,Tryz.ntmps234
 go_wp2
 rw[Lib.run_to_unsafe w ⟨b,0,none⟩ (t:=218) (by kernel_rfl) (by kernel_rfl) hj (by rw[hjs];decide) hsh (by show 0<c;omega)];simp only[Result.andThen];rw[Oper.upon_value]
 go_wp2
 rw[run_callFunc_extern Tryz.func262 (by kernel_rfl) (by kernel_rfl) (by kernel_rfl) (e:=Extern.AbiNoEscape.same) (by kernel_rfl)];rw[Lib.run_noEscape];simp only[Result.andThen];rw[Oper.upon_value]
 go_wp2
 rw[Lib.run_from_unsafe w ⟨b,0,none⟩ (u:=218) (by kernel_rfl) (by kernel_rfl) hj hsh hl];simp only[Result.andThen];rw[Oper.upon_value]
 go_wp2
 go_end0
 exact⟨rfl,rfl⟩
theorem q7 (b:Nat)(w:World)(h0:w.cell? ⟨b,0,none⟩=some (.pointer (some ⟨b,0,none⟩))):
  Calls Tryz.prog 234 #[.pointer (some ⟨b,0,none⟩)] w λe w'=>e=.returned (.tuple #[])/\w'=w:=by
 obtain⟨j,hj,hjs⟩:=Option.map_eq_some_iff.1 (show(Tryz.prog.info? 218).map (·.size)=some 2 by kernel_rfl)
 go_enter Tryz.func234,Tryz.ntmps234
 go_wp2
 rw[Lib.run_neq_ptr_same w _ (te:=218) (by kernel_rfl) hj]
 go_wp2
 go_end0
 exact⟨rfl,rfl⟩
theorem y8 (b g:Nat)(cur cs:Array Value)(l:List UInt8)(h0:l≠[])(w:World)(hb:w.heap[b]?=some (.cells cs 218 (0,0)))(hb1:cs[1]?=some (.slice (some ⟨g,0,none⟩) l.length cur.size))
  (hg:w.heap[g]?=some (.cells cur 5 (0,0))) (hl:l.length<=cur.size) (hcap:cur.size<=maxLen) (hcell:∀(j:Nat) (x:UInt8),l[j]?=some x->cur[j]?=some (.int .u8 x.toNat)):
  Calls Tryz.prog 172 #[.pointer (some ⟨b,0,none⟩)] w λe w'=>e=.returned (.string ⟨l.toArray⟩)/\w'=(w.drew.freeze ⟨g,0,none⟩ l.length):=by
 have c1:w.drew.cell? ⟨b,1,none⟩=some (.slice (some ⟨g,0,none⟩) l.length cur.size):=by
  have:w.drew.heap[b]?=some (.cells cs 218 (0,0)):=hb
  rw[Lib.cell_of_heap this];exact hb1
 have h0':l.length≠0:=by simpa using h0
 have hSD:(Builtin.unsafeSliceData_ #[216] 266 #[.slice (some ⟨g,0,none⟩) l.length cur.size]).run Tryz.prog w.drew=.ok (.pointer (some ⟨g,0,none⟩)) w.drew:=
  Lib.run_unsafeSliceData_row _ _ _ _ _ _ (by omega)
 have hUS:(Builtin.unsafeString_ #[266,3] 9 #[.pointer (some ⟨g,0,none⟩),.int .i64 l.length]).run Tryz.prog w.drew=.ok (.string ⟨l.toArray⟩) (w.drew.freeze ⟨g,0,none⟩ l.length):=by
  refine Lib.run_unsafeString_row w.drew 266 3 9 5 (by kernel_rfl) (by kernel_rfl) g cur.size (by have hg':w.drew.heap[g]?=some (.cells cur 5 (0,0)):=hg;simp[World.shape?,hg']) l h0 (by omega) (by unfold maxLen at hcap;omega) ?_;intro j x hx;have hg':w.drew.heap[g]?=some (.cells cur 5 (0,0)):=hg
  have:=hcell j x hx
  rw[Addr.add_lit];simp[World.cell?,hg',this]
 have mixed:Tryz.prog.follows .mixedOrders=true:=by kernel_rfl
 go_enter Tryz.func172,Tryz.ntmps172
 go_wp2
 go_region_o
 all_goals(go_wp2;go_ret;exact⟨rfl,rfl⟩)
def Fs (l:List UInt8):List D:=l.map λb=>.prim (.int .u8 (b.toNat:Int))
abbrev Fg (g:Nat)(p x:D):Ay:=⟨1500,g,218,2,[.agg [p,x]]⟩
theorem fN {vs:Array Value}(h:vs.size=1):vs = #[vs.getD 0 undef]:=by
 match vs,h with
 |⟨[u]⟩,_=>rfl
theorem fQ (g n:Nat)(x p:D)(H1 H2:Hp)(hp:p=.prim (.pointer none)\/p=.optr 1500 g 2 0 0):
  Cd C0 234 [.optr 1500 g 2 0 0] (H1++Fg g p x::H2) n (λd H' n'=>d=.prim (.tuple #[])/\H'=H1++Fg g (.optr 1500 g 2 0 0) x::H2/\n'=n):=by
 refine⟨⟨_,_,Tryz.func234,rfl,by kernel_rfl⟩,λF ρ w vs m fr hgn hvs hr=>?_⟩;have h0:=hr 0 _ rfl;rw[fN hvs];generalize hv:vs.getD 0 undef=v at h0;cases h0 with
 |optr hρ=>
  rename_i b;have he:Fg g p x∈H1++Fg g p x::H2:=by simp
  obtain⟨cs,hc,q⟩:=m.at he hρ;have hlen:2<=cs.size:=q.len;have hr0:AV ρ (AN F.X ρ (H1++Fg g p x::H2)) w p (cs.getD 0 undef):=q.rep 0 _ 0 p rfl rfl;have hr1:AV ρ (AN F.X ρ (H1++Fg g p x::H2)) w x (cs.getD 1 undef):=q.rep 0 _ 1 x rfl rfl;have hcell:w.cell? ⟨b,0,none⟩=some (cs.getD 0 undef):=by
   simp[World.cell?,hc,Array.getD,show 0<cs.size by omega]
  rcases hp with rfl|rfl
  ·cases hr0':cs.getD 0 undef with
   |pointer a=>
    rw[hr0']at hr0 hcell;cases hr0;refine(nk b cs.size hlen w hcell (by simp[World.shape?,hc]) (by simp[World.frozen?,hc])).mono ?_;rintro e w' ⟨rfl,rfl⟩;have hset:w.setCell ⟨b,0,none⟩ (.pointer (some ⟨b,0,none⟩))=World.setBlk w b (cs.setIfInBounds 0 (.pointer (some ⟨b,0,none⟩))) 218:=by
     rw[setCell_eq_setRow w b 0 cs 218 (0,0) _ hc];exact TQ hc
    have hop:AV ρ (AN F.X ρ (H1++Fg g (.prim (.pointer none)) x::H2)) w (.optr 1500 g 2 0 0) (.pointer (some ⟨b,0*2+0,none⟩)):=.optr hρ;have ho:DF ρ (AN F.X ρ (H1++Fg g (.prim (.pointer none)) x::H2)) w (Fg g (.optr 1500 g 2 0 0) x) (cs.setIfInBounds 0 (.pointer (some ⟨b,0,none⟩))):=by
     refine⟨by rw[Vl];exact q.len,λi d hd=>?_,λi v hv=>?_,λi d j c hd hj=>?_⟩
     ·rcases i with _|i
      ·cases hd;rfl
      ·simp at hd
     ·rw[IZ]at hv
      split at hv
      ·split at hv
       ·cases hv;rfl
       ·cases hv
      ·exact q.one i v hv
     ·rcases i with _|i
      ·cases hd
       rcases j with _|_|j
       ·cases hj
        have:(cs.setIfInBounds 0 (.pointer (some ⟨b,0,none⟩))).getD (0*2+0) undef=.pointer (some ⟨b,0*2+0,none⟩):=by
         simp[A7,show 0<cs.size by omega]
        rw[this];exact hop
       ·cases hj
        have:(cs.setIfInBounds 0 (.pointer (some ⟨b,0,none⟩))).getD (0*2+1) undef=cs.getD 1 undef:=by
         simp[A7]
        rw[this];exact hr1
       ·simp[D.cells]at hj
      ·simp at hd
    obtain⟨m1,x1⟩:=m.write (e':=Fg g (.optr 1500 g 2 0 0) x) hρ hc rfl rfl rfl (Vl ..) ho;rw[hset];exact⟨_,_,_,n,ρ,rfl,⟨rfl,rfl,rfl⟩,m1,x1,fr,λe' he'=>by
     rcases List.mem_append.1 he' with h|h
     ·exact hgn e' (by simp[h])
     ·rcases BG.1 h with rfl|h
      ·exact hgn (Fg g (.prim (.pointer none)) x) he
      ·exact hgn e' (by simp[h]),.prim _⟩
   |_=>rw[hr0']at hr0;cases hr0
  ·cases hr0':cs.getD 0 undef with
   |pointer a=>
    rw[hr0']at hr0 hcell;cases hr0 with
    |optr hρ2=>
     rw[hρ]at hρ2;cases hρ2;refine(q7 b w hcell).mono ?_;rintro e w' ⟨rfl,rfl⟩;exact⟨_,_,_,n,ρ,rfl,⟨rfl,rfl,rfl⟩,m,BW.refl _ _ _,fr,hgn,.prim _⟩
   |_=>rw[hr0']at hr0;cases hr0
theorem gz (w:World)(g n:Nat)(hn:n≠0)(cur:Array Value)(T:Nat)(hg:w.heap[g]?=some (.cells cur T (0,0))):
  (w.freeze ⟨g,0,none⟩ n).heap.size=w.heap.size/\(w.freeze ⟨g,0,none⟩ n).os=w.os/\(w.freeze ⟨g,0,none⟩ n).tape=w.tape/\(w.freeze ⟨g,0,none⟩ n).output=w.output /\
  (∀k,k≠g->(w.freeze ⟨g,0,none⟩ n).heap[k]?=w.heap[k]?)/\∃(cs':Array Value) (fz':Nat×Nat),(w.freeze ⟨g,0,none⟩ n).heap[g]?=some (.cells cs' T fz')/\cs'.size=cur.size:=by
 unfold World.freeze;rw[AF hn];refine⟨by simp,rfl,rfl,rfl,λk hk=>?_,?_⟩
 ·dsimp only
  rw[Array.getElem?_modify,AF (λh=>hk h.symm)]
 ·dsimp only
  rw[Array.getElem?_modify,AG rfl,hg];exact⟨cur,_,rfl,rfl⟩
theorem xz (g gb n:Nat)(l:List UInt8)(h0:l≠[])(p:D)(R:Hp):
  Cd C0 172 [.optr 1500 g 2 0 0] (⟨206,gb,5,1,Fs l⟩::Fg g p (.osl 206 gb 1 0 l.length)::R) n (λd H' n'=>d=str ⟨l.toArray⟩/\H'=Fg g p (.osl 206 gb 1 0 l.length)::R/\n'=n):=by
 refine⟨⟨_,_,Tryz.func172,rfl,by kernel_rfl⟩,λF ρ w vs m fr hgn hvs hr=>?_⟩;have hz:=hr 0 _ rfl;have h0':l.length≠0:=by simpa using h0
 rw[fN hvs];generalize hv:vs.getD 0 undef=v at hz;cases hz with
 |optr hρ=>
  rename_i b;obtain⟨cs,hc,q⟩:=m.at (e:=Fg g p (.osl 206 gb 1 0 l.length)) (by simp) hρ;have hlen:2<=cs.size:=q.len;have hr1:AV ρ (AN F.X ρ (⟨206,gb,5,1,Fs l⟩::Fg g p (.osl 206 gb 1 0 l.length)::R)) w (.osl 206 gb 1 0 l.length) (cs.getD 1 undef):=q.rep 0 _ 1 (.osl 206 gb 1 0 l.length) rfl rfl;generalize hs1:cs.getD 1 undef=sv at hr1;generalize hL:l.length=L at hr1;cases hr1 with
   |onil=>exact Ad hL h0'
   |osl hρ2 hb2 hc2 hs2 hm2=>
    rename_i cap gy T' cs2 fz2;obtain⟨cur,hcur,qy⟩:=m.at (e:=⟨206,gb,5,1,Fs l⟩) (by simp) hρ2;rw[hb2]at hcur;cases hcur;have hcap:cap=cs2.size:=by omega
    subst hcap;have hcell:∀(j:Nat) (x:UInt8),l[j]?=some x->cs2[j]?=some (.int .u8 x.toNat):=λj x hx=>by
     have hr:=qy.rep j (.prim (.int .u8 (x.toNat:Int))) 0 (.prim (.int .u8 (x.toNat:Int))) (by unfold Fs;rw[A8,hx];rfl) rfl;have hlt:j<cs2.size:=by
      have:=(List.getElem?_eq_some_iff.1 hx).1
      omega
     generalize hvv:cs2.getD (j*1+0) undef=vv at hr;cases hr;rw[Bn hlt]
     have:cs2.getD j undef=cs2[j]:=by simp[Array.getD,hlt]
     rw[EF,DW,this]at hvv;rw[hvv]
    have hb1:cs[1]?=some (.slice (some ⟨gy,0,none⟩) l.length cs2.size):=by
     have hlt:1<cs.size:=by omega
     rw[Bn hlt]
     have:cs.getD 1 undef=cs[1]:=by simp[Array.getD,hlt]
     rw[this]at hs1;rw[hs1,hL,Gz]
    refine(y8 b gy cs2 cs l h0 w hc hb1 hb2 (by omega) (by omega) hcell).mono ?_;rintro e w' ⟨rfl,rfl⟩;have md:=m.drew;obtain⟨f1,f2,f3,f4,f5,cs',fz',f6,f7⟩:=gz w.drew gy l.length h0' cs2 5 hb2;obtain⟨m1,x1⟩:=zP (H1:=[]) (H2:=Fg g p (.osl 206 gb 1 0 l.length)::R) (w':=w.drew.freeze ⟨gy,0,none⟩ l.length) md hρ2 f1 f2 f3 f4 f5 (λc hcc=>by
     have hb2':w.drew.heap[gy]?=some (.cells cs2 5 (0,0)):=hb2;have hcc':w.drew.heap[gy]?=some (.cells c 5 (0,0)):=hcc;rw[hb2']at hcc';cases hcc';exact⟨cs',fz',f6,f7⟩)
    rw[hL];rw[hL]at m1 x1;exact⟨_,_,_,n,ρ,rfl,⟨rfl,rfl,rfl⟩,m1,(BW.drew _ _ _).trans x1,fr,λe' he'=>hgn e' (by rw[hL];exact CK _ he'),.prim _⟩
set_option maxRecDepth 20000
set_option maxHeartbeats 4000000
def bH (gb g:Nat)(p:D)(L:List UInt8)(R:Hp):Hp:=Dt 206 gb 5 1 (Fs L)++(Fg g p (Dy 206 gb 1 (Fs L))::R)
theorem jP (s:List UInt8):IL (sb s)=Fs s:=rfl
theorem OF (l:List UInt8):(Fs l).length=l.length:=Ac ..
theorem jO (a b:List UInt8):Fs (a++b)=Fs a++Fs b:=Cq
theorem Xq {l:List UInt8}(h:l≠[]):∃x r,Fs l=x::r:=by
 cases l with
 |nil=>exact Ad rfl h
 |cons a l=>exact⟨_,_,rfl⟩
theorem fj (g gb n:Nat)(p:D)(hp:p=.prim (.pointer none)\/p=.optr 1500 g 2 0 0)(L s:List UInt8)(hs:s≠[])(R:Hp)(hlen:L.length+s.length<=100000000):
  Cd C0 171 [.optr 1500 g 2 0 0,str (sb s)] (bH gb g p L R) n (λd H' n'=>(∃g',H'=bH g' g (.optr 1500 g 2 0 0) (L++s) R)/\n<=n'):=by
 refine Cd.walk w1 Z9 rfl λF=>?_
 have hsz:=Cg s;have hb:=jP s;obtain⟨x,r,hx⟩:=Xq hs;have hr:s.length=r.length+1:=by rw[<-OF,hx];rfl
 unfold bH;rw[jO];cases hL:Fs L with
 |nil=>
  dsimp only[Io,Ip,List.nil_append];refine AH AZ kB AB AB AB AB AB AB ?_;refine BE.own _ (fQ g _ CT p [] R hp) ?_;rintro d H' n' ⟨rfl,rfl,rfl⟩;have hL0:L.length=0:=by rw[<-OF,hL];rfl
  refine AH AZ (Ah hsz hb) AB AB AB AB AB AB ?_;refine⟨?_,by omega⟩;apply Exists.intro;rw[hx,hr];rfl
 |cons y l=>
  dsimp only[Hb,Hc,List.cons_append,List.nil_append];have hL1:L.length=l.length+1:=by rw[<-OF,hL];rfl
  have htk:List.take (l.length+1) (y::l)=y::l:=by simp
  refine AH AZ kB AB AB AB AB AB AB ?_;refine BE.own _ (fQ g _ (.osl 206 gb 1 0 (l.length+1)) p [⟨206,gb,5,1,y::l⟩] R hp) ?_;rintro d H' n' ⟨rfl,rfl,rfl⟩;refine AH AZ (As hsz hb htk) AB AB AB AB AB AB ?_;refine⟨?_,by omega⟩;apply Exists.intro;have hap:y::l++Fs s=y::(l++Fs s):=rfl;have hl2:(l++Fs s).length+1=l.length+1+s.length:=by rw[Bc,OF];omega
  rw[hl2]
open Go.Sort Go.Shelf
section
open Go.Lib
set_option maxHeartbeats 6400000 in
set_option maxRecDepth 100000 in
theorem yf (u:Nat) (hu64:u<18446744073709551616) (w:World) (htab:Lib.TabIs Tryz.prog w "internal/strconv.uint64pow10" .u64 Lib.pow10Tab):
  Calls Tryz.prog 230 #[.int .u64 u,.int .i64 10] w λe w'=>e=.returned (.string ⟨(Lib.decDigits u).toArray⟩)/\∃k os,w'=grow (w.drewN k) os:=by
 have e283:∀args w,(callFunc 256 args).run Tryz.prog w=.ok (.enter 256 args) w:=enters_of Tryz.func256 (by kernel_rfl) rfl;have e284:∀args w,(callFunc 257 args).run Tryz.prog w=.ok (.enter 257 args) w:=enters_of Tryz.func257 (by kernel_rfl) rfl;have e285:∀args w,(callFunc 258 args).run Tryz.prog w=.ok (.enter 258 args) w:=enters_of Tryz.func258 (by kernel_rfl) rfl
 by_cases hs:u<100
 ·go_enter Tryz.func230,Tryz.ntmps230
  go_wp2_with (go_at_fn 256;refine(Tryz.internal_strconv_small u hs _).mono ?_;rintro e w' ⟨rfl,rfl⟩)
  go_ret
  exact⟨rfl,0,#[],by simp[World.drewN_zero]⟩
 ·have hu1:1<=u:=by omega
  have hnd20:Lib.nDigits u<=20:=by have:=Lib.numDigits_eq u hu1 hu64;split at this<;>omega
  have hb3:Lib.nDigits u<=24:=by omega
  have hal:Tryz.prog.arrayLen 283=24:=by kernel_rfl
  have hsl1:∀W,(Instr.sliceAt 283 (.pointer (some ⟨w.heap.size,0,none⟩)) none (some (.int .i64 (Lib.nDigits u:Int))) none).run Tryz.prog W=.ok (.slice (some ⟨w.heap.size,0,none⟩) (Lib.nDigits u) 24) W:=λW=>by
   rw[run_sliceAt_array_h W 283 ⟨w.heap.size,0,none⟩ (by kernel_rfl) .i64 (Lib.nDigits u:Int) (by omega) (by rw[hal];omega)]
   go_simp
  have hH0:=Lib.holds_zero0 w 283 (Lib.nDigits u) (by omega);have hfmt:=Tryz.internal_strconv_formatBase10 w.heap.size 0 24 u (Array.replicate (Lib.nDigits u) 0) (w.alloc (.cells Lib.zeros24 283)) hH0 (by rw[SQ];exact Lib.lt_pow_nDigits u) hu64 (by rw[SQ];omega);rw[SQ]at hfmt;have HH0:=Lib.hid hH0;clear hH0 hal
  go_enter Tryz.func230,Tryz.ntmps230
  go_wp2_with (first
   |(go_at_fn 257;refine(Tryz.internal_strconv_numDigits u hu1 hu64 _ (Lib.tabIs_alloc htab _)).mono ?_;rintro e w' ⟨rfl,rfl⟩))
  go_at_fn 258
  refine hfmt.mono ?_;rintro e w' ⟨rfl,k,v',dk,rfl,hF⟩;have hcv:(convert 216 9 (.slice (some ⟨w.heap.size,0,none⟩) (Lib.nDigits u) 24)).run Tryz.prog ((putRow (λ(b:UInt8)=>Value.int .u8 (b.toNat:Int)) (w.alloc (.cells Lib.zeros24 283)) w.heap.size 0 dk).drewN k)=.ok (.string ⟨(Lib.decDigits u).toArray⟩) ((putRow (λ(b:UInt8)=>Value.int .u8 (b.toNat:Int)) (w.alloc (.cells Lib.zeros24 283)) w.heap.size 0 dk).drewN k):=by
   have h:=run_convert_bytes_back (P:=Tryz.prog) ((putRow (λ(b:UInt8)=>Value.int .u8 (b.toNat:Int)) (w.alloc (.cells Lib.zeros24 283)) w.heap.size 0 dk).drewN k) 216 9 5 ⟨w.heap.size,0,none⟩ 24 (Lib.decDigits u) (by kernel_rfl) (by kernel_rfl) (by kernel_rfl) (λj hj=>by
    rw[Lib.row_is_numeral hF j hj,Lib.add_plain,World.cell?_drewN];exact cell?_putRow (λ(b:UInt8)=>Value.int .u8 (b.toNat:Int)) _ w.heap.size 0 _ dk HH0.out (by rw[hF.size,SQ]) j (by rw[hF.size];rw[Lib.decDigits_length]at hj;exact hj))
   rw[Lib.decDigits_length]at h;exact h
  go_wp2
  go_ret
  obtain⟨os,eo⟩:=Lib.fin_at w (.cells Lib.zeros24 283) dk k 0;exact⟨rfl,k,os,eo⟩
end
theorem jW {O:Nat->Prop}{w:World}{v u:Value}{vs:Array Value}(hn:vs.size=2)(h:∀(i:Nat) (x:D),[D.prim v,.prim u][i]?=some x->AV nol O w x (vs.getD i undef)):vs = #[v,u]:=by
 match vs,hn with
 |⟨[a,b]⟩,_=>
  have h0:=h 0 _ rfl;have h1:=h 1 _ rfl;simp at h0 h1;cases h0;cases h1;rfl
theorem oa (u:Nat)(hu:u<18446744073709551616):AK C0 230 [.prim (.int .u64 (u:Int)),i64 10] (str ⟨(Lib.decDigits u).toArray⟩):=by
 refine⟨⟨_,_,Tryz.func230,rfl,by kernel_rfl⟩,λY w vs hG hnG hX hvs hr=>?_⟩
 have:=jW hvs hr
 subst this;refine(yf u hu w hG).mono ?_;rintro e w' ⟨rfl,k,os,rfl⟩;exact⟨_,_,rfl,Lib.below_grow _ _ (Af _) _ _,rfl,.prim _⟩
theorem rq (u:Nat)(hu:u<18446744073709551616):AK C0 169 [.prim (.int .u64 (u:Int)),i64 10] (str ⟨(Lib.decDigits u).toArray⟩):=by
 refine Ak.walk w1 bD rfl λF=>?_
 refine AH AZ kB (oa u hu) AB AB AB AB AB ?_;exact AL rfl AA.out
theorem zw:AK C0 170 [str ⟨#[48]⟩,i64 0] (str ⟨#[]⟩):=CF DY 400 20 (by kernel_rfl)
theorem zx:AK C0 170 [str ⟨#[48]⟩,i64 1] (str ⟨#[48]⟩):=CF DY 400 20 (by kernel_rfl)
theorem zy:AK C0 170 [str ⟨#[48]⟩,i64 2] (str ⟨#[48,48]⟩):=CF DY 400 20 (by kernel_rfl)
theorem zz:AK C0 170 [str ⟨#[48]⟩,i64 3] (str ⟨#[48,48,48]⟩):=CF DY 400 20 (by kernel_rfl)
theorem rp4:AK C0 170 [str ⟨#[48]⟩,i64 4] (str ⟨#[48,48,48,48]⟩):=CF DY 400 20 (by kernel_rfl)
theorem rp5:AK C0 170 [str ⟨#[48]⟩,i64 5] (str ⟨#[48,48,48,48,48]⟩):=CF DY 400 20 (by kernel_rfl)
theorem rp6:AK C0 170 [str ⟨#[48]⟩,i64 6] (str ⟨#[48,48,48,48,48,48]⟩):=CF DY 400 20 (by kernel_rfl)
theorem rp7:AK C0 170 [str ⟨#[48]⟩,i64 7] (str ⟨#[48,48,48,48,48,48,48]⟩):=CF DY 400 20 (by kernel_rfl)
theorem rp8:AK C0 170 [str ⟨#[48]⟩,i64 8] (str ⟨#[48,48,48,48,48,48,48,48]⟩):=CF DY 400 20 (by kernel_rfl)
theorem rp9:AK C0 170 [str ⟨#[48]⟩,i64 9] (str ⟨#[48,48,48,48,48,48,48,48,48]⟩):=CF DY 400 20 (by kernel_rfl)
theorem yL:AK C0 170 [str ⟨#[48]⟩,i64 10] (str ⟨#[48,48,48,48,48,48,48,48,48,48]⟩):=CF DY 400 20 (by kernel_rfl)
theorem yM:AK C0 170 [str ⟨#[48]⟩,i64 11] (str ⟨#[48,48,48,48,48,48,48,48,48,48,48]⟩):=CF DY 400 20 (by kernel_rfl)
theorem yN:AK C0 170 [str ⟨#[48]⟩,i64 12] (str ⟨#[48,48,48,48,48,48,48,48,48,48,48,48]⟩):=CF DY 400 20 (by kernel_rfl)
theorem yO:AK C0 170 [str ⟨#[48]⟩,i64 13] (str ⟨#[48,48,48,48,48,48,48,48,48,48,48,48,48]⟩):=CF DY 400 20 (by kernel_rfl)
theorem yP:AK C0 170 [str ⟨#[48]⟩,i64 14] (str ⟨#[48,48,48,48,48,48,48,48,48,48,48,48,48,48]⟩):=CF DY 400 20 (by kernel_rfl)
theorem yQ:AK C0 170 [str ⟨#[48]⟩,i64 15] (str ⟨#[48,48,48,48,48,48,48,48,48,48,48,48,48,48,48]⟩):=CF DY 400 20 (by kernel_rfl)
theorem yR:AK C0 170 [str ⟨#[48]⟩,i64 16] (str ⟨#[48,48,48,48,48,48,48,48,48,48,48,48,48,48,48,48]⟩):=CF DY 400 20 (by kernel_rfl)
theorem yS:AK C0 170 [str ⟨#[48]⟩,i64 17] (str ⟨#[48,48,48,48,48,48,48,48,48,48,48,48,48,48,48,48,48]⟩):=CF DY 400 20 (by kernel_rfl)
theorem pj (n:Nat)(h:n<=17):AK C0 170 [str ⟨#[48]⟩,i64 (n:Int)] (str ⟨(List.replicate n 48).toArray⟩):=by
 match n,h with
 | 0,_=>exact zw
 | 1,_=>exact zx
 | 2,_=>exact zy
 | 3,_=>exact zz
 | 4,_=>exact rp4
 | 5,_=>exact rp5
 | 6,_=>exact rp6
 | 7,_=>exact rp7
 | 8,_=>exact rp8
 | 9,_=>exact rp9
 | 10,_=>exact yL
 | 11,_=>exact yM
 | 12,_=>exact yN
 | 13,_=>exact yO
 | 14,_=>exact yP
 | 15,_=>exact yQ
 | 16,_=>exact yR
 | 17,_=>exact yS
 |n+18,h=>omega
theorem oe {H Hf r r':Hp}{K g T sz:Nat}{l:List D}(h:Cm H Hf r r'):Cm H Hf (Dt K g T sz l++r) r':=by
 cases l with
 |nil=>exact h
 |cons x l=>exact .drop h
set_option maxHeartbeats 8000000
def Fx (q r:Nat):List UInt8:=if q=0 then Lib.decDigits r else List.replicate (18-(Lib.decDigits r).length) 48++Lib.decDigits r
theorem Xv:Lib.decDigits 0=[48]:=by unfold Lib.decDigits;rfl
theorem Oo (n:Nat):Lib.decDigits n≠[]:=(EU n).2.2
theorem mS (q r:Nat):Fx q r≠[]:=by
 unfold Fx;split
 ·exact Oo r
 ·intro h;exact Oo r (List.append_eq_nil_iff.1 h).2
theorem lE {q r:Nat}(hq:q≠0):Fx q r=Es 18 r []:=by
 unfold Fx Es L6;rw[AF hq]
 by_cases h:r=0
 ·subst h;rw[Xv,AG rfl];rfl
 ·rw[AF h,C5]
theorem m6 (B q r:Nat)(hB:B=10^18)(hr:r<B):Lib.decDigits (q*B+r)=if q=0 then Fx q r else Lib.decDigits q++Fx q r:=by
 by_cases hq:q=0
 ·subst hq;rw[AG rfl];unfold Fx;rw[AG rfl,Gz,BV]
 ·rw[AF hq,lE hq,hB]
  exact Tv 18 q r hq (by rw[<-hB];exact hr)
def EJ (P:List (List UInt8)):List UInt8:=P.reverse.flatten
theorem Wt (P:List (List UInt8))(p:List UInt8):EJ (P++[p])=p++EJ P:=by unfold EJ;simp
theorem Ul (a b:List UInt8):sb a++sb b=sb (a++b):=by
 apply ByteArray.ext;simp[ByteArray.data_append]
theorem kQ {P:List (List UInt8)}(h:∀p∈P,p≠[]):P.length<=(EJ P).length:=by
 unfold EJ;rw[List.length_flatten,<-List.length_reverse];generalize hQ:P.reverse=Q;have h':∀p∈Q,p≠[]:=λp hp=>h p (by rw[<-hQ]at hp;exact List.mem_reverse.1 hp)
 clear hQ h
 induction Q with
 |nil=>exact Af _
 |cons a r ih=>
  have h1:=ih λp hp=>h' p (CK _ hp)
  have h2:a.length≠0:=λq=>h' a CG (FU q)
  rw[Cu,List.sum_cons,Bo];omega
structure Mo (n m:Nat)(P:List (List UInt8)):Prop where
 ne:m≠0->Lib.decDigits n=Lib.decDigits m++EJ P
 eq:m=0->Lib.decDigits n=EJ P
 all:∀p∈P,p≠[]
 le:m<=n
theorem Mo.len {n m:Nat}{P:List (List UInt8)}(h:Mo n m P):P.length<=(Lib.decDigits n).length:=by
 have h1:=kQ h.all
 by_cases q:m=0
 ·rw[h.eq q];exact h1
 ·rw[h.ne q,Bc];omega
theorem Mo.step {n m:Nat}{P:List (List UInt8)}{B:Nat}(h:Mo n m P)(hm:m≠0)(hB:B=10^18):Mo n (m/B) (P++[Fx (m/B) (m%B)]):=by
 have hB0:0<B:=by rw[hB];decide
 have hd:=m6 B (m/B) (m%B) hB (B3 _ hB0);rw[show m/B*B+m%B=m by rw[BT];exact EY m B]at hd;have hn:=h.ne hm;rw[hd]at hn;refine⟨λq=>?_,λq=>?_,λp hp=>?_,BX (Gx _ _) h.le⟩
 ·rw[AF q]at hn;rw[hn,Wt,De]
 ·rw[AG q]at hn;rw[hn,Wt]
 ·rcases List.mem_append.1 hp with hp|hp
  ·exact h.all p hp
  ·rw[List.mem_singleton]at hp;subst hp;exact mS _ _
abbrev FK (P:List (List UInt8)):List D:=P.map λp=>str (sb p)
theorem Te (x:GI)(h:x.wf)(hf:x.few):AK C0 125 [x.D] (str (sb (Lib.itoa x.z))):=by
 refine Ak.walk w1 aj rfl λF=>?_
 obtain⟨z,sm⟩:=x;obtain⟨h1,h2⟩:=h;have hp:=JM ⟨z,sm⟩ ⟨h1,h2⟩;dsimp only[GI.D,GI.few]at*;cases sm with
 |true=>
  obtain⟨h3,h4⟩:=h1 rfl;have c:AK C0 166 [i64 z] (str (sb (Lib.itoa z))):=ow z h3 (by omega);unfold GI.s GI.w;dsimp only;refine AH AZ kB c AB AB AB AB AB ?_;exact AL rfl AA.out
 |false=>
  have hz:=h2 rfl;have hz0:z.natAbs≠0:=λq=>hz (by obtain rfl:z=0:=(by omega);exact uo rfl)
  have hw:GI.w ⟨z,false⟩=wD z.natAbs:=rfl;have hs:GI.s ⟨z,false⟩=if z<0 then -1 else 1:=rfl
  rw[hw]at hp⊢;obtain⟨sg,hsg⟩:∃s,GI.s ⟨z,false⟩=s:=⟨_,rfl⟩
  rw[hsg]at hp⊢;obtain⟨B,hB⟩:∃B:Nat,B=10^18:=⟨_,rfl⟩
  have hB1:B<BB:=by rw[hB];decide
  have hB0:B≠0:=by rw[hB];decide
  have hB2:1<B:=by rw[hB];decide
  have hBs:u64 1000000000000000000=AR B:=by rw[hB];rfl
  have hBl:Ae B=[B]:=MO hB0 hB1;obtain⟨n,hn⟩:∃n,z.natAbs=n:=⟨_,rfl⟩
  obtain⟨neg,hneg⟩:∃b,decide (z<0)=b:=⟨_,rfl⟩
  rw[hn]at hp hf hz0⊢;rw[hneg]at hp;have hit:Lib.itoa z=(if neg then[45]else[])++Lib.decDigits n:=by
   unfold Lib.itoa
   by_cases q:z<0
   ·rw[AG q,<-hneg,AX q,hn];rfl
   ·rw[AF q,<-hneg,Ag q,<-hn]
    have:z.toNat=z.natAbs:=by omega
    rw[this];rfl
  rw[hit];have hDL:(Lib.decDigits n).length<=27*1000000+1:=Ms (k:=1000000) (by omega);have hmpos:∀m:Nat,m≠0->decide ((((Ae m).map AR).length:Int)>0)=true:=λm hm=>AX (by
   rw[GC hm,Cu,Bo];omega)
  have hm0:decide ((((Ae 0).map AR).length:Int)>0)=false:=Ag (by rw[Fq];decide);obtain⟨w0,ws,hws⟩:∃a l,(Ae n).map AR=a::l:=by
   cases hl:(Ae n).map AR with
   |nil=>exact Ad hl (Hd hz0)
   |cons a l=>exact⟨a,l,rfl⟩
  have hwD:wD n=.sl false 1 (w0::ws):=by unfold wD wL;rw[hws]
  have hbD:wD B=.sl false 1 [u64 1000000000000000000]:=by unfold wD wL;rw[hBl,hBs];rfl
  have pw:AA (.sl false 1 (w0::ws)):=by rw[<-hwD];exact AI
  rw[hwD]at hp⊢;clear hit h1 h2 hz hs hsg;have hne:(w0::ws≠[])=True:=eq_true (List.cons_ne_nil _ _);refine AH AZ hne hp AB AB AB AB AB ?_;rw[<-hwD];refine AC.loop (α:=Nat×List (List UInt8)×Nat×Nat) (λp=>⟨[(3,Aq neg),(4,wD p.1),(5,wD B),(6,Dy 1303 p.2.2.1 1 (FK p.2.1))],Dt 1303 p.2.2.1 9 1 (FK p.2.1),p.2.2.2⟩) (λp=>p.1)
   (λp=>Mo n p.1 p.2.1) (n,[],0,_) ⟨λ_=>by unfold EJ;simp,λq=>Ad q hz0,λp hp=>Ad hp Db,Af _⟩ (by refine⟨.drop .nil,⟨.refl _,.refl _,?_,.refl _,trivial⟩,Af _⟩;dsimp only;rw[hbD];exact .nn true 1 _) ?_
  rintro⟨m,P,g,cnt⟩ F I;dsimp only at I⊢;have hPl:=I.len;rcases Nat.decEq m 0 with hm|hm
  rotate_left
  ·subst hm
   have hdn:=I.eq rfl;have hall:=I.all;have hLn:P.length<=27000001:=by omega
   have hP0:P≠[]:=λq=>Oo n (by rw[hdn,q];rfl)
   obtain⟨N,hN⟩:∃N,P.length=N:=⟨_,rfl⟩
   have hN0:N≠0:=λq=>hP0 (FU (by omega))
   rw[hdn];clear hwD hbD pw hp hn hPl I;have elP:(((FK P).length:Nat):Int)=(N:Int):=by rw[Ac,hN]
   have wN:IntKind.i64.wrap ((N:Int)-1)=((N:Int)-1):=wI (by omega) (by omega);refine AC.seq ?_;refine sZ 600 ?_;refine AU hm0 ?_;refine AM ?_;refine B9 ?_;refine AC.weak ⟨[(3,Aq neg),(6,.sl false 1 (FK P))],[],_⟩ ⟨?_,⟨.refl _,?_,trivial⟩,Af _⟩ ?_
   ·have:=oe (K:=1303) (g:=g) (T:=9) (sz:=1) (l:=FK P) (r:=[]) (r':=[]) (H:=Dt 1303 g 9 1 (FK P)) (Hf:=[]) .nil
    rwa [C5]at this
   ·exact RY _ _ _ _ _
   obtain⟨c0,hc0⟩:∃c,c=cnt+1+1+1:=⟨_,rfl⟩
   rw[<-hc0];refine sR 1500 ?_;obtain⟨c1,hc1⟩:∃c,c=c0+1:=⟨_,rfl⟩
   refine C4 (α:=D×Nat×Nat) (λq=>⟨[(6,.sl false 1 (FK P)),(10,.optr 1500 c0 2 0 0)],bH q.2.1 c0 q.1 (if neg then[45]else[]) [],q.2.2⟩) (λq=>q.1=.prim (.pointer none)\/q.1=.optr 1500 c0 2 0 0) ?_ ?_
   ·cases neg
    ·refine AH AZ kB AB AB AB AB AB AB ?_
     exact⟨by trivial,(.prim (.pointer none),0,_),.inl rfl,AJ⟩
    ·refine AH AZ kB AB AB AB AB AB AB ?_
     refine BE.own _ (fj c0 0 _ (.prim (.pointer none)) (.inl rfl) [] [45] (by decide) [] (by decide)) ?_;rintro d H' n' ⟨⟨g',rfl⟩,hn'⟩;refine BP ?_;exact⟨by trivial,(.optr 1500 c0 2 0 0,g',_),.inr rfl,AJ⟩
   rintro⟨p0,gb0,c2⟩ hp0;dsimp only at hp0⊢;obtain⟨pre,hpre⟩:∃l,(if neg then[45]else[]:List UInt8)=l:=⟨_,rfl⟩
   have hpl:pre.length<=1:=by rw[<-hpre];split<;>decide
   rw[hpre];refine AH AZ (Ah elP @wN) AB AB AB AB AB AB ?_;refine AC.loop (α:=Nat×D×Nat×Nat) (λq=>⟨[(6,.sl false 1 (FK P)),(10,.optr 1500 c0 2 0 0),(11,i64 ((q.1:Int)-1))],bH q.2.2.1 c0 q.2.1 (pre++EJ (P.drop q.1)) [],q.2.2.2⟩) (λq=>q.1)
    (λq=>q.1<=N/\(q.2.1=.prim (.pointer none)\/q.2.1=.optr 1500 c0 2 0 0)) (N,p0,gb0,_) ⟨Af _,hp0⟩ (by dsimp only;rw[<-hN,JA];unfold EJ;rw[List.reverse_nil,List.flatten_nil,C5];exact AJ) ?_
   rintro⟨k,p,gb,c3⟩ F ⟨hk,hp⟩;dsimp only at hk hp⊢;have hjl:∀k,(EJ (P.drop k)).length<=(EJ P).length:=λk=>by
    unfold EJ
    conv=>rhs;rw[<-E7 k P]
    rw[List.reverse_append,List.flatten_append,Bc];omega
   have hjP:(EJ P).length<=27000001:=by rw[<-hdn];omega
   rcases Do k with hk0|hk0
   ·subst hk0
    have e1:decide ((((0:Nat):Int)-1)>=0)=false:=by decide
    rw[FW];have hL:pre++EJ P≠[]:=λq=>by
     have:=(List.append_eq_nil_iff.1 q).2
     rw[<-hdn]at this;exact Oo n this
    obtain⟨L,hLL⟩:∃L,pre++EJ P=L:=⟨_,rfl⟩
    rw[hLL]at hL⊢;obtain⟨y,r,hy⟩:=Xq hL;have hlr:L.length=r.length+1:=by rw[<-OF,hy];rfl
    refine AH AZ e1 AB AB AB AB AB AB ?_;refine BE.own _ (by
     have:=λn=>xz c0 gb n L hL p []
     unfold bH;simp only[hy,hlr]at this⊢;exact this _) ?_
    rintro d H' n' ⟨rfl,rfl,rfl⟩;refine AH AZ kB AB AB AB AB AB AB ?_;exact AL rfl AA.out
   ·obtain⟨k',rfl⟩:∃k',k=k'+1:=⟨k-1,by omega⟩
    have e1:decide ((((k'+1:Nat):Int)-1)>=0)=true:=AX (by omega);have e2:(((k'+1:Nat):Int)-1)=(k':Int):=by omega
    have wk:IntKind.i64.wrap ((k':Int)-1)=((k':Int)-1):=wI (by omega) (by omega);have e3:decide ((k':Int)>=0)=true:=AX (by omega);obtain⟨t,ht⟩:∃t,P[k']?=some t:=CU (by omega);have hm:(FK P)[k']?=some (str (sb t)):=by rw[A8,ht];rfl
    have htn:=hall t (Aw ht);have hdr:P.drop k'=t::P.drop (k'+1):=by
     rw[ET (List.getElem?_eq_some_iff.1 ht).1,(List.getElem?_eq_some_iff.1 ht).2]
    have hj:pre++EJ (P.drop k')=pre++EJ (P.drop (k'+1))++t:=by
     rw[hdr,De]
     congr 1
     unfold EJ;rw[List.reverse_cons,List.flatten_append];simp
    have hlt:(pre++EJ (P.drop (k'+1))).length+t.length<=100000000:=by
     have h1:=hjl k';have h2:(pre++EJ (P.drop k')).length=(pre++EJ (P.drop (k'+1))).length+t.length:=by rw[hj,Bc]
     rw[<-h2,Bc];omega
    rw[e2];refine AH AZ (Ah e3 kN) hm AB AB AB AB AB ?_;refine BE.own _ (fj c0 gb _ p hp (pre++EJ (P.drop (k'+1))) t htn [] hlt) ?_;rintro d H' n' ⟨⟨g',rfl⟩,hn'⟩;refine BP ?_;refine AH AZ wk AB AB AB AB AB AB ?_;exact⟨(k',.optr 1500 c0 2 0 0,g',_),⟨by dsimp only;omega,.inr rfl⟩,by dsimp only;omega,by(dsimp only;rw[hj];exact AJ)⟩
  have e1:=hmpos m hm;have c1:=fT m B hB0 (Dd (HZ m n I.le) hf) (by rw[hBl];show 1<1000000;decide);have I2:=I.step hm hB;obtain⟨q,hq⟩:∃q,m/B=q:=⟨_,rfl⟩
  obtain⟨r,hr⟩:∃q,m%B=q:=⟨_,rfl⟩
  have hqm:q<m:=by rw[<-hq];exact H3 (D4 hm) hB2
  have hrB:r<B:=by rw[<-hr];exact B3 _ (D4 hB0)
  rw[hq,hr]at c1 I2;have hsz:=Cg (Lib.decDigits r);have hdl:(Lib.decDigits r).length<=18:=MK 17 r (by rw[hB]at hrB;exact hrB);have hdl1:(Lib.decDigits r).length≠0:=λh=>Oo r (FU h)
  refine AH AZ e1 AB AB AB AB AB AB ?_;refine cI c1 ?_;refine sR 800 ?_;refine C4 (α:=Nat) (λcnt=>⟨[(3,Aq neg),(5,wD B),(6,Dy 1303 g 1 (FK P)),(7,wD q),(9,str (sb (Lib.decDigits r)))],Dt 1303 g 9 1 (FK P),cnt⟩) (λ_=>True) ?_ ?_
  ·rcases Nat.decEq r 0 with h0|h0
   ·have e2:=hmpos r h0
    have hl1:Ae r=[r]:=MO h0 (F3 hrB hB1);have hmm:((Ae r).map AR)[0]?=some (u64 (r:Int)):=by rw[hl1];rfl
    have c2:=rq r (F3 hrB hB1);refine AH AZ e2 hmm c2 AB AB AB AB ?_;exact⟨by trivial,_,trivial,AJ⟩
   ·subst h0
    rw[Xv];refine AH AZ hm0 AB AB AB AB AB AB ?_;exact⟨by trivial,_,trivial,AJ⟩
  rintro cnt2 -;refine C4 (α:=Nat) (λcnt=>⟨[(3,Aq neg),(5,wD B),(6,Dy 1303 g 1 (FK P)),(7,wD q),(9,str (sb (Fx q r)))],Dt 1303 g 9 1 (FK P),cnt⟩) (λ_=>True) ?_ ?_
  ·rcases Nat.decEq q 0 with h0|h0
   ·have e2:=hmpos q h0
    have c2:AK C0 170 [str ⟨#[48]⟩,i64 ((18-(Lib.decDigits r).length:Nat):Int)] (str (sb (List.replicate (18-(Lib.decDigits r).length) 48))):=pj (18-(Lib.decDigits r).length) (by omega);have w18:IntKind.i64.wrap (18-((Lib.decDigits r).length:Int))=((18-(Lib.decDigits r).length:Nat):Int):=by rw[wI (by omega) (by omega)];omega
    have hap:=Ul (List.replicate (18-(Lib.decDigits r).length) 48) (Lib.decDigits r);have hsz2:=Cg (List.replicate (18-(Lib.decDigits r).length) 48);have hpt:List.replicate (18-(Lib.decDigits r).length) 48++Lib.decDigits r=Fx q r:=by unfold Fx;rw[AF h0]
    rw[hpt]at hap;have hsize:(sb (List.replicate (18-(Lib.decDigits r).length) 48)).size+(sb (Lib.decDigits r)).size<=9223372036854775807:=by
     rw[hsz,hsz2,HT];omega
    refine AH AZ (BY e2 hsz w18 hap) c2 AB AB AB AB AB ?_;exact⟨by trivial,_,trivial,AJ⟩
   ·subst h0
    have hpt:Fx 0 r=Lib.decDigits r:=AG rfl;rw[hpt];refine AH AZ hm0 AB AB AB AB AB AB ?_;exact⟨by trivial,_,trivial,AJ⟩
  rintro cnt3 -;have hsn:FK (P++[Fx q r])=FK P++[str (sb (Fx q r))]:=by unfold FK;rw[Cq];rfl
  have hPL:(FK P).length=P.length:=Ac ..;rcases hPD:FK P with _|⟨y,l⟩
  all_goals
   rw[hPD]at hsn hPL;dsimp only[Io,Ip,Hb,Hc,List.nil_append]
  ·refine AH AZ kB AB AB AB AB AB AB ?_
   exact⟨(q,P++[Fx q r],_,_),I2,hqm,by(dsimp only;rw[hsn];exact AJ)⟩
  ·have htk:List.take (l.length+1) (y::l)=y::l:=by simp
   have hll:l.length+1<=27000001:=by rw[Bo]at hPL;omega
   refine AH AZ htk AB AB AB AB AB AB ?_;exact⟨(q,P++[Fx q r],_,_),I2,hqm,by(dsimp only;rw[hsn,OE];exact AJ)⟩
abbrev Y3:Dr:=[(3,[0,1,2,3,4,5,6],[7,8])]
open Go.Proofs Go.RowKit
set_option maxRecDepth 20000
set_option maxHeartbeats 4000000
theorem mC (x:Nat)(hx:x<BB):AK C0 194 [AR x] (i64 (Lib.bitLen x:Int)):=by
 refine⟨⟨_,_,Tryz.func194,rfl,by kernel_rfl⟩,λY w vs hG hnG hX hvs hr=>?_⟩
 have:=Qi hvs hr
 subst this;refine(Tryz.bits_Len64 x w (by omega) (by unfold BB at hx;omega)).mono ?_;rintro e w' ⟨rfl,rfl⟩;exact⟨_,_,rfl,.refl _ _,rfl,.prim _⟩
def E4 (n:Nat):Nat:=(Ae n).getD ((Ae n).length-1) 0
def IR (n:Nat):Nat:=if n=0 then 0 else 64*((Ae n).length-1)+Lib.bitLen (E4 n)
theorem nZ (n:Nat):n<2^IR n:=by
 unfold IR
 by_cases h:n=0
 ·subst h;rw[AG rfl];decide
 ·rw[AF h]
  have hl:(Ae n).length≠0:=λq=>by
   have:=GC h
   rw[this]at q;simp at q
  obtain⟨k,hk⟩:∃k,(Ae n).length=k+1:=⟨(Ae n).length-1,by omega⟩
  have hat:(Ae n)[k]?=some (E4 n):=by
   unfold E4;rw[hk,Ia,DR,A9 (by omega)];rfl
  have hv:=KO hat;rw[HS (by omega),Er]at hv;have ht:E4 n<BB:=FH n _ (Aw hat);have h1:AS ((Ae n).take k)<BB^k:=by
   have:=Hj (l:=(Ae n).take k) λa ha=>FH n a (Fy ha)
   rwa [Bd,FC (by omega)]at this
  have h2:E4 n<2^Lib.bitLen (E4 n):=by
   by_cases t0:E4 n=0
   ·rw[t0];exact Gy _
   ·exact(Lib.bitLenAux_bounds 64 (E4 n) ht t0).2.2
  have h3:BB^k=2^(64*k):=by rw[Nat.pow_mul]
  rw[hk,Ia,F5,<-h3];have h4:n=AS ((Ae n).take k)+BB^k*E4 n:=by simpa[AS]using hv
  have h5:BB^k*(E4 n+1)<=BB^k*2^Lib.bitLen (E4 n):=Cb _ h2;rw[BN,EF]at h5;omega
def Jb (n:Nat):Bool:=decide (600<(Lib.decDigits n).length)
theorem jy (n:Nat):Jb n=(decide (IR n>1800)&&Jb n):=by
 by_cases h:IR n>1800
 ·rw[AX h,Gd]
 ·rw[Ag h,HV]
  have key:∀k,IR n<=3*(k+1)->(Lib.decDigits n).length<=k+1:=λk hk=>MK k n (CX (nZ n) (BX (FT (by decide) hk) (by rw[Nat.pow_mul];exact Ng (by decide) (k+1))))
  have h4:=key 599 (by omega);exact Ag (by omega)
theorem qM (x:GI)(h:x.wf)(hf:x.few):AK C0 164 [x.D] (i64 (IR x.z.natAbs:Nat)):=by
 refine Ak.walk w1 bA rfl λF=>?_
 have c1:=JM x h;obtain⟨n,hn⟩:∃n,x.z.natAbs=n:=⟨_,rfl⟩
 unfold GI.few at hf;rw[hn]at c1 hf⊢;have el:((((Ae n).map AR).length:Nat):Int)=((Ae n).length:Int):=by rw[Ac]
 unfold wD wL at c1;dsimp only[GI.D]at c1⊢
 by_cases h0:n=0
 ·have e1:(((Ae n).length:Int)==0)=true:=by rw[h0,Fq];rfl
  have hb:IR n=0:=AG h0;rw[hb];refine AH AZ (Ah e1 el) c1 AB AB AB AB AB ?_;exact AL rfl AA.out
 ·have hl:(Ae n).length≠0:=λq=>by
   have:=GC h0
   rw[this]at q;simp at q
  have e1:(((Ae n).length:Int)==0)=false:=y9 hl;have wl:IntKind.i64.wrap (((Ae n).length:Int)-1)=(((Ae n).length-1:Nat):Int):=by rw[wI (by omega) (by omega)];omega
  have wm:IntKind.i64.wrap (64*(((Ae n).length-1:Nat):Int))=((64*((Ae n).length-1):Nat):Int):=by rw[wI (by omega) (by omega)];omega
  have hat:(Ae n)[(Ae n).length-1]?=some (E4 n):=by
   unfold E4;rw[DR,A9 (by omega)];rfl
  have hm:((Ae n).map AR)[(Ae n).length-1]?=some (u64 (E4 n:Int)):=by rw[A8,hat];rfl
  have ht:E4 n<BB:=FH n _ (Aw hat);have c2:=mC (E4 n) ht;have hbl:=Lib.bitLen_le (E4 n) 64 (Af _) ht;have wa:IntKind.i64.wrap (((64*((Ae n).length-1):Nat):Int)+(Lib.bitLen (E4 n):Int))=((IR n:Nat):Int):=by
   have hb:IR n=64*((Ae n).length-1)+Lib.bitLen (E4 n):=AF h0;rw[hb,wI (by omega) (by omega)];omega
  refine AH AZ (Dp e1 el wl wm wa kN) c1 hm c2 AB AB AB ?_;exact AL rfl AA.out
theorem bz (x:GI)(h:x.wf)(hf:x.few):AK C0 123 [x.D] (Aq (Jb x.z.natAbs)):=by
 refine Ak.walk w1 ah rfl λF=>?_
 have c1:=qM x h hf;have c2:=Te x h hf;have hlen:(Lib.decDigits x.z.natAbs).length<=27*1000000+1:=Ms (k:=1000000) (by unfold GI.few at hf;omega);have hil:(Lib.itoa x.z).length<=27000002:=by
  unfold Lib.itoa;split
  ·rw[Bo];omega
  ·rw[show x.z.toNat=x.z.natAbs by omega];omega
 have c3:=Sq (Lib.itoa x.z) (by omega);rw[(MV x.z).2]at c3;have hsz:=Cg (Lib.decDigits x.z.natAbs);have hlb:=jy x.z.natAbs;obtain⟨b,hb⟩:∃b,Jb x.z.natAbs=b:=⟨_,rfl⟩
 have e2:decide (((Lib.decDigits x.z.natAbs).length:Int)>600)=b:=by rw[<-hb];exact C8.2 (by omega)
 obtain⟨p,hp⟩:∃b,decide (IR x.z.natAbs>1800)=b:=⟨_,rfl⟩
 have e1:decide (((IR x.z.natAbs:Nat):Int)>1800)=p:=by rw[<-hp];exact C8.2 (by omega)
 rw[hb,hp]at hlb;rw[hb,hlb];dsimp only[GI.D]at c1 c2⊢;cases p
 ·refine AH AZ e1 c1 AB AB AB AB AB ?_
  exact AL rfl AA.out
 ·refine AH AZ (As e1 e2 hsz) c1 c2 c3 AB AB AB ?_
  exact AL rfl AA.out
theorem br {r:Rat}{x:GF}{k:Nat}(h:FR r x k)(hk:k<100000):x.n.wf/\x.n.few/\(AW (x.d:Int)).wf/\(AW (x.d:Int)).few/\x.n.z=r.num/\x.d=r.den/\0<x.d:=
 ⟨h.is.1,h.fn (by omega),Ch _,by
  show(Ae ((x.d:Int)).natAbs).length<1000000;rw[ER];have:=h.ld;omega,h.is.2.1,h.is.2.2,h.dpos⟩
theorem ZP {r:Rat}{x:GF}{k:Nat}(h:FR r x k)(hk:k<100000):AK C0 77 [x.D] (Aq (Du r)):=by
 refine Ak.walk w1 eG rfl λF=>?_
 obtain⟨h1,h2,h3,h4,h5,h6,_⟩:=br h hk;have c1:=bz x.n h1 h2;have c2:=bz (AW (x.d:Int)) h3 h4;have hb:Du r=(Jb x.n.z.natAbs||Jb (AW (x.d:Int)).z.natAbs):=by
  unfold Du Jb;rw[h5,<-h6];rfl
 rw[hb];obtain⟨p,hp⟩:∃b,Jb x.n.z.natAbs=b:=⟨_,rfl⟩
 obtain⟨q,hq⟩:∃b,Jb (AW (x.d:Int)).z.natAbs=b:=⟨_,rfl⟩
 rw[hp]at c1;rw[hq]at c2;rw[hp,hq];dsimp only[GI.D,GF.D]at c1 c2⊢;generalize AW (x.d:Int)=y at c2⊢;cases p<;>cases q
 all_goals
  refine AH AZ kB c1 c2 AB AB AB AB ?_;exact AL rfl AA.out
theorem cZ {r:Rat}{x:GF}{k:Nat}(h:FR r x k)(hk:k<100000):AK C0 78 [x.D] (str (sb (BO r))):=by
 refine Ak.walk w1 eI rfl λF=>?_
 obtain⟨h1,h2,h3,h4,h5,h6,h7⟩:=br h hk;have c0:=S9 x h7;have c1:=Te x.n h1 h2;have c2:=Te (AW (x.d:Int)) h3 h4;have hd:Lib.itoa (AW (x.d:Int)).z=Lib.decDigits r.den:=by
  show Lib.itoa (x.d:Int)=_;unfold Lib.itoa;rw[AF (by omega),h6];rfl
 rw[hd]at c2;rw[h5]at c1;have l1:(Lib.itoa r.num).length<=27000002:=by
  have:(Lib.decDigits x.n.z.natAbs).length<=27*1000000+1:=Ms (k:=1000000) (by unfold GI.few at h2;omega)
  rw[h5]at this;unfold Lib.itoa;split
  ·rw[Bo];omega
  ·rw[show r.num.toNat=r.num.natAbs by omega];omega
 have l2:(Lib.decDigits r.den).length<=27000001:=by
  have:(Lib.decDigits (AW (x.d:Int)).z.natAbs).length<=27*1000000+1:=Ms (k:=1000000) (by unfold GI.few at h4;omega)
  rw[<-h6];exact this
 have s1:=Cg (Lib.itoa r.num);have s2:=Cg (Lib.decDigits r.den);have s3:(sb [47]).size=1:=rfl;have s4:=Cg (Lib.itoa r.num++[47]);have z1:(sb (Lib.itoa r.num)).size+(sb [47]).size<=9223372036854775807:=by rw[s1,s3];omega
 have z2:(sb (Lib.itoa r.num++[47])).size+(sb (Lib.decDigits r.den)).size<=9223372036854775807:=by rw[s4,s2,Bc,Ek];omega
 have a1:sb (Lib.itoa r.num)++(⟨#[47]⟩:ByteArray)=sb (Lib.itoa r.num++[47]):=Ul _ [47];have a2:=Ul (Lib.itoa r.num++[47]) (Lib.decDigits r.den);rw[De]at a2;dsimp only[GI.D,GF.D]at c0 c1 c2⊢;generalize AW (x.d:Int)=y at c0 c2⊢;unfold BO
 by_cases g:x.d=1
 ·rw[AX g]at c0
  rw[AG (h6 ▸ g)];refine AH Y3 kB c0 c1 AB AB AB AB ?_;exact AL rfl AA.out
 ·rw[Ag g]at c0
  rw[AF (λq=>g (h6.trans q))];refine AH Y3 (Ah a1 a2) c0 c1 c2 AB AB AB ?_;exact AL rfl AA.out
set_option maxHeartbeats 4000000
def nb (r:Rat)(n d:Nat):Prop:=r.num.natAbs<=n/\r.den<=d
def Pw:Nat:=10^40
theorem oO {l:List UInt8}(h:CY l=0)(hl:l.length<=40):nb (CR l) Pw Pw:=by
 obtain⟨m1,m2,m3,m4⟩:=OG h;obtain⟨p1,p2⟩:=P3 h;have hs1:(B4 l).length<=40:=by
  have:(B4 l).length<=l.length:=by
   unfold B4;have a1:(Bp (B1 l)).length<=(B1 l).length:=by unfold Bp;split<;>simp
   have a2:(B1 l).length<=l.length:=by unfold B1;rw[Bd];omega
   omega
  omega
 have hb:∀k,k<=40->(10:Nat)^k<=Pw:=λk hk=>FT (by decide) hk
 refine⟨?_,?_⟩
 ·rw[m1,m4]
  exact BX (Jt (GK _ p1)) (hb _ hs1)
 ·rw[m2]
  unfold Gt;cases hs:Cv l
  ·exact(by decide:1<=Pw)
  ·have hs2:(Ba l).length<=40:=by
    have:(Ba l).length<=l.length:=by unfold Ba;simp
    omega
   exact BX (Jt (GK _ (p2 hs))) (hb _ hs2)
theorem xF {r:Rat}{n d k:Nat}(h:nb r n d)(h1:n<BB^k)(h2:d<BB^k):rk r k:=
 ⟨G4 (Dd h.1 h1),G4 (Dd h.2 h2)⟩
theorem gQ {l:List UInt8}(h:CY l=0)(hl:l.length<=40):rk (CR l) 3:=xF (oO h hl) (by decide) (by decide)
theorem Zc (k:Nat)(hk:1<=k):FR 0 ⟨AW 0,1⟩ k:=⟨⟨Ch _,by rw[Dq];rfl,rfl⟩,by
 refine rk.mono (k:=1) ?_ hk;exact⟨G4 (k:=1) (by decide),G4 (k:=1) (by decide)⟩⟩
abbrev GG:Dr:=[(11,[0,1,2,3,4,5,6,7,8,9,10],[11,12]),(21,[0,1],[2,3])]
open Go.Proofs Go.RowKit
set_option maxRecDepth 20000
set_option maxHeartbeats 4000000
def O5 (a b:List UInt8):Bool:=Lx (sb a) (sb b)||BK (sb a) (sb b)
def FX (l:List Av)(i:Nat):Nat:=
 if Dg (Fm l i).lot=false then 8 else if 0<i/\O5 (Fm l i).lot (Fm l (i-1)).lot=true then 11 else if CY (Fm l i).part≠0 then CY (Fm l i).part else if Gv (CR (Fm l i).part)<=0 then 12 else 0
def Ey (l:List Av):Nat->Rat
 | 0=>0
 |n+1=>Ey l n+CR (Fm l n).part
def Hl (l:List Av):Nat:=if l.length=0 then 2 else if 64<l.length then 5 else if Dm (FX l) l.length≠0 then Dm (FX l) l.length else if Ey l l.length=1 then 0 else 12
theorem Q8 (l:List UInt8):AK C0 75 [str (sb l)] (Aq (Dg l)):=kP (sb l)
theorem nu (a b:Rat):(Ly a b==0)=decide (a=b):=by
 unfold Ly
 by_cases h:a<b
 ·rw[AG h,Ag (Rat.ne_of_lt h)];rfl
 ·rw[AF h]
  by_cases h2:b<a
  ·rw[AG h2,Ag λe=>Rat.ne_of_lt h2 e.symm];rfl
  ·rw[AF h2,AX (Rat.le_antisymm (Rat.not_lt.1 h2) (Rat.not_lt.1 h))];rfl
theorem um {a b:Rat}{x y:GF}{i j:Nat}(hx:FR a x i)(hy:FR b y j)(hk:i+j<300000):AK C0 184 [x.D,y.D] (Aq (decide (a=b))):=by
 refine Ak.walk w1 aG rfl λF=>?_
 have c:=rl hx hy hk;have e:=nu a b;obtain⟨r,hr⟩:∃r,Ly a b=r:=⟨_,rfl⟩
 rw[hr]at c e;obtain⟨xD,hxD⟩:∃d,x.D=d:=⟨_,rfl⟩
 obtain⟨yD,hyD⟩:∃d,y.D=d:=⟨_,rfl⟩
 unfold GF.D at c hxD hyD⊢;refine AH AZ e c AB AB AB AB AB ?_;exact AL rfl AA.out
theorem vG:FR 1 ⟨AW 1,1⟩ 1:=by
 have:=Q2 (z:=1) (by decide)
 exact this
theorem yI (b:Bool)(l:List Av)(hl:l.length<=9223372036854775807)(hf:∀s∈l,s.few):AK C0 145 [Ce b l] (i64 (Hl l:Nat)):=by
 refine Ak.walk w1 av rfl λF=>?_
 have el:(((l.map Av.D).length:Nat):Int)=(l.length:Int):=by rw[Ac]
 have hC:Hl l=if l.length=0 then 2 else if 64<l.length then 5 else if Dm (FX l) l.length≠0 then Dm (FX l) l.length else if Ey l l.length=1 then 0 else 12:=rfl
 rcases Nat.decEq l.length 0 with h0|h0
 rotate_left
 ·rw[AG h0]at hC
  rw[hC];have q1:((l.length:Int)==0)=true:=by rw[h0];rfl
  refine AH GG (Ah el q1) AB AB AB AB AB AB ?_;exact AL rfl AA.out
 rw[AF h0]at hC;have q1:((l.length:Int)==0)=false:=Br.2 (by omega)
 by_cases h64:64<l.length
 ·rw[AG h64]at hC
  rw[hC];have q2:decide ((l.length:Int)>64)=true:=AX (by omega);refine AH GG (As el q1 q2) AB AB AB AB AB AB ?_;exact AL rfl AA.out
 rw[AF h64]at hC;have q2:decide ((l.length:Int)>64)=false:=Ag (by omega);have c0:=PM 0 ⟨by decide,by decide⟩;have c1:=PM 1 ⟨by decide,by decide⟩;refine AH GG (As el q1 q2) c0 AB AB AB AB AB ?_;refine AC.loop (α:=Nat×GF×Nat) (λp=>⟨[(0,Ce b l),(3,.optr 501 8 4 0 0),(15,Ce b l),(16,i64 (l.length:Int)),(17,i64 (p.1:Int))],[⟨501,8,122,4,[p.2.1.D]⟩],p.2.2⟩) (λp=>l.length-p.1) (λp=>p.1<=l.length/\(∀j,j<p.1->FX l j=0)/\FR (Ey l p.1) p.2.1 (601*p.1+1)) (0,⟨AW 0,1⟩,_)
  ⟨BU _,λj h=>Ad h (HR j),Zc 1 (Af _)⟩ AJ ?_
 rintro⟨i,y,m⟩ F ⟨hi,hz,hS⟩;dsimp only at hi hz hS⊢;rcases BH i l.length with h2|h2
 rotate_left
 ·have e1:=Cj h2
  have:i=l.length:=by omega
  subst this;rw[AF (λh=>h (LC hz))]at hC;have cS:=um hS vG (by omega);obtain⟨q,hq⟩:∃q,decide (Ey l l.length=1)=q:=⟨_,rfl⟩
  rw[hq]at cS;cases q
  ·rw[AF (DS hq)]at hC
   rw[hC];refine AH GG e1 c1 cS AB AB AB AB ?_;exact AL rfl AA.out
  ·rw[AG (DE hq)]at hC
   rw[hC];refine AH GG e1 c1 cS AB AB AB AB ?_;exact AL rfl AA.out
 have e1:=Ck h2;have wi:=Cc (i:=i) (by omega);obtain⟨s,hs⟩:=CU h2;have hm:(l.map Av.D)[i]?=some (.agg [str (sb s.lot),str (sb s.part)]):=by rw[A8,hs];rfl
 obtain⟨f1,f2⟩:=hf s (Aw hs);have hE:FX l i=if Dg s.lot=false then 8 else if 0<i/\O5 s.lot (Fm l (i-1)).lot=true then 11 else if CY s.part≠0 then CY s.part else if Gv (CR s.part)<=0 then 12 else 0:=by unfold FX;rw[JT hs]
 have hbad:∀e:Nat,e≠0->FX l i=e->Hl l=e:=λe he h=>by
  have:=OU hz h2 (by rw[h];exact he)
  rw[hC,this,h,AG he]
 have cN:=Q8 s.lot;obtain⟨N,hN⟩:∃q,Dg s.lot=q:=⟨_,rfl⟩
 rw[hN]at cN hE;cases N
 ·rw[AG rfl]at hE
  rw[hbad 8 (by decide) hE];refine AH GG (Ah e1 kN) hm cN AB AB AB AB ?_;exact AL rfl AA.out
 rw[AF (by decide)]at hE;have cC:=l6 s.part f2;rcases i with _|q
 ·have g0:decide (((0:Nat):Int)>0)=false:=rfl
  rw[AF (λh=>Ad h.1 (Nat.lt_irrefl 0))]at hE;rcases Nat.decEq (CY s.part) 0 with hc0|hc0
  ·rw[AG hc0]at hE
   have e3:=GQ hc0;rw[hbad (CY s.part) hc0 hE];refine AH GG (BY e1 g0 kN e3) hm cN cC AB AB AB ?_;exact AL rfl AA.out
  rw[AF (λh=>h hc0)]at hE;have e3:=GR hc0;have cP:=RW f2 hc0;have fP:=RH hc0;have cG:=Yx fP.is;have cA:=RQ hS fP (by omega);have fA:=Qn hS fP;obtain⟨z,hzz⟩:∃z,Jg y (GL s.part)=z:=⟨_,rfl⟩
  rw[hzz]at cA fA;obtain⟨sg,hsg⟩:∃q,Gv (CR s.part)=q:=⟨_,rfl⟩
  rw[hsg]at cG hE
  by_cases hs0:sg<=0
  ·rw[AG hs0]at hE
   have e4:decide (sg<=0)=true:=AX hs0;rw[hbad 12 (by decide) hE];refine AH GG (CH e1 g0 kN e3 e4) hm cN cC cP cG AB ?_;exact AL rfl AA.out
  rw[AF hs0]at hE;have e4:decide (sg<=0)=false:=Ag hs0;refine AH GG (Dp e1 g0 kN e3 e4 wi) hm cN cC cP cG AB ?_;refine cI cA ?_;refine AH GG wi AB AB AB AB AB AB ?_;exact⟨(0+1,z,_),⟨h2,λj hj=>by
   rcases Nat.lt_succ_iff_lt_or_eq.1 hj with q|q
   ·exact hz j q
   ·rw[q];exact hE,by
   show FR (Ey l 0+CR (Fm l 0).part) z _;rw[JT hs];exact⟨fA.is,fA.rk.mono (by dsimp only;omega)⟩⟩,by dsimp only;omega,AJ⟩
 ·have g0:decide (((q+1:Nat):Int)>0)=true:=AX (by omega)
  have g1:IntKind.i64.wrap (((q+1:Nat):Int)-1)=(q:Int):=by rw[wI (by omega) (by omega)];omega
  obtain⟨s0,hs0'⟩:=CU (l:=l) (i:=q) (by omega);have hm0:(l.map Av.D)[q]?=some (.agg [str (sb s0.lot),str (sb s0.part)]):=by rw[A8,hs0'];rfl
  rw[Ia,JT hs0']at hE;obtain⟨bL,hbL⟩:∃q,O5 s.lot s0.lot=q:=⟨_,rfl⟩
  have g2:(Lx (sb s.lot) (sb s0.lot)||BK (sb s.lot) (sb s0.lot))=bL:=hbL;rw[hbL]at hE;cases bL
  rotate_left
  ·rw[AG ⟨Nat.succ_pos q,rfl⟩]at hE
   rw[hbad 11 (by decide) hE];refine AH GG (CH e1 g0 g1 g2 kN) hm hm0 cN AB AB AB ?_;exact AL rfl AA.out
  rw[AF (λh=>Ad h.2 (by decide))]at hE;rcases Nat.decEq (CY s.part) 0 with hc0|hc0
  ·rw[AG hc0]at hE
   have e3:=GQ hc0;rw[hbad (CY s.part) hc0 hE];refine AH GG (Dp e1 g0 g1 g2 kN e3) hm hm0 cN cC AB AB ?_;exact AL rfl AA.out
  rw[AF (λh=>h hc0)]at hE;have e3:=GR hc0;have cP:=RW f2 hc0;have fP:=RH hc0;have cG:=Yx fP.is;have cA:=RQ hS fP (by omega);have fA:=Qn hS fP;obtain⟨z,hzz⟩:∃z,Jg y (GL s.part)=z:=⟨_,rfl⟩
  rw[hzz]at cA fA;obtain⟨sg,hsg⟩:∃q,Gv (CR s.part)=q:=⟨_,rfl⟩
  rw[hsg]at cG hE
  by_cases hs0:sg<=0
  ·rw[AG hs0]at hE
   have e4:decide (sg<=0)=true:=AX hs0;rw[hbad 12 (by decide) hE];refine AH GG (CO e1 g0 g1 g2 kN e3 e4) hm hm0 cN cC cP cG ?_;exact AL rfl AA.out
  rw[AF hs0]at hE;have e4:decide (sg<=0)=false:=Ag hs0;refine AH GG (CO e1 g0 g1 g2 kN e3 (Ah e4 wi)) hm hm0 cN cC cP cG ?_;refine cI cA ?_;refine AH GG wi AB AB AB AB AB AB ?_;exact⟨(q+1+1,z,_),⟨h2,λj hj=>by
   rcases Nat.lt_succ_iff_lt_or_eq.1 hj with q|q
   ·exact hz j q
   ·rw[q];exact hE,by
   show FR (Ey l (q+1)+CR (Fm l (q+1)).part) z _;rw[JT hs];exact⟨fA.is,fA.rk.mono (by dsimp only;omega)⟩⟩,by dsimp only;omega,AJ⟩
def AD.few (x:AD):Prop:=x.grain.length<=100000/\x.shs.length<=9223372036854775807/\∀s∈x.shs,s.few
def CZ (x:AD):Nat:=if Dg x.grain=false then 8 else if x.mass<1\/x.mass>999999999 then 3 else Hl x.shs
def CI (l:List AD)(k:Nat):AD:=l.getD k ⟨[],0,[]⟩
theorem Fc {l:List AD}{k:Nat}{x:AD}(h:l[k]?=some x):CI l k=x:=by unfold CI;rw[DR,h];rfl
def Am (l:List AD):Int:=(l.map (·.mass)).sum
theorem TW {l:List AD}{i:Nat}{x:AD}(h:l[i]?=some x):Am (l.take (i+1))=Am (l.take i)+x.mass:=by
 unfold Am;rw[Da,h,Cq,List.sum_append];simp
def IJ (l:List AD):Prop:=l.length<=1000000/\∀x∈l,x.mass.natAbs<=1000000000
theorem UM {l:List AD}(h:∀x∈l,x.mass.natAbs<=1000000000):(Am l).natAbs<=l.length*1000000000:=by
 unfold Am
 induction l with
 |nil=>simp
 |cons a l ih=>
  have h1:=h a (by simp);have h2:=ih λx hx=>h x (by simp[hx])
  simp only[Cu,List.sum_cons,Bo];omega
def Bv (l:List AD):Nat:=if 64<l.length then 5 else if Dm (λi=>CZ (CI l i)) l.length≠0 then Dm (λi=>CZ (CI l i)) l.length else if Am l>999999999 then 4 else 0
theorem ON {x:AD}(h:CZ x=0):Dg x.grain=true/\1<=x.mass/\x.mass<=999999999/\Hl x.shs=0:=by
 unfold CZ at h;split at h
 ·cases h
 ·rename_i h1
  split at h
  ·cases h
  ·rename_i h2
   exact⟨by simpa using h1,by omega,by omega,h⟩
theorem IS (b:Bool)(e:Int):AK C0 56 [Aq b,i64 e] (i64 (if b then e else 0)):=by
 refine Ak.walk w1 d8 rfl λF=>?_
 cases b
 ·refine AH AZ kB AB AB AB AB AB AB ?_
  exact AL rfl AA.out
 ·refine AH AZ kB AB AB AB AB AB AB ?_
  exact AL rfl AA.out
theorem Om (v:List Int)(hl:v.length<=1000):AK C0 54 [.sl true 1 (v.map λe=>i64 e)] (i64 (Et v)):=by
 refine Ak.walk w1 d7 rfl λF=>?_
 have el:(((v.map λe=>i64 e).length:Nat):Int)=(v.length:Int):=by rw[Ac]
 refine AH AZ el AB AB AB AB AB AB ?_;refine AC.loop (α:=Nat×Nat) (λp=>⟨[(5,.sl true 1 (v.map λe=>i64 e)),(6,i64 (v.length:Int)),(7,i64 (p.1:Int))],[],p.2⟩) (λp=>v.length-p.1) (λp=>p.1<=v.length/\∀(j:Nat) (e:Int),j<p.1->v[j]?=some e->e=0) (0,_) ⟨BU _,λj e h=>Ad h (HR j)⟩ AJ ?_;rintro⟨i,m⟩ F ⟨hi,ha⟩;dsimp only at hi ha⊢;rcases BH i v.length with h2|h2
 rotate_left
 ·have e1:=Cj h2
  have:i=v.length:=by omega
  subst this;have hd:Et v=0:=by rw[WH ha,JA];rfl
  rw[hd];refine AH AZ e1 AB AB AB AB AB AB ?_;exact AL rfl AA.out
 have e1:=Ck h2;have wi:=Cc (i:=i) (by omega);obtain⟨l,hl'⟩:=CU h2;have hm:(v.map λe=>i64 e)[i]?=some (i64 l):=by rw[A8,hl'];rfl
 by_cases g:l=0
 ·have e5:(l != 0)=false:=by rw[g];rfl
  refine AH AZ (BY e1 wi e5 kN) hm AB AB AB AB AB ?_;exact⟨(i+1,_),⟨h2,λj e hj he=>by
   rcases Nat.lt_succ_iff_lt_or_eq.1 hj with q|q
   ·exact ha j e q he
   ·subst q;rw[hl']at he;cases he;exact g⟩,by dsimp only;omega,AJ⟩
 ·have e5:(l != 0)=true:=KQ g
  have hd:Et v=l:=by
   rw[WH ha,ET h2];rw[A9 h2]at hl';rw[F7 hl'];exact AG g
  rw[hd];refine AH AZ (BY e1 wi e5 kN) hm AB AB AB AB AB ?_;exact AL rfl AA.out
theorem Zu (b:Bool)(l:List AD)(hs:IJ l):AK C0 57 [Al b l] (i64 (Am l)):=by
 refine Ak.walk w1 VJ rfl λF=>?_
 have el:(((l.map AD.D).length:Nat):Int)=(l.length:Int):=by rw[Ac]
 obtain⟨hl,hm0⟩:=hs;refine AH AZ el AB AB AB AB AB AB ?_;refine AC.loop (α:=Nat×Nat) (λp=>⟨[(3,i64 (Am (l.take p.1))),(6,Al b l),(7,i64 (l.length:Int)),(8,i64 (p.1:Int))],[],p.2⟩) (λp=>l.length-p.1) (λp=>p.1<=l.length) (0,_) (BU _) AJ ?_;rintro⟨i,m⟩ F hi;dsimp only at hi⊢;rcases BH i l.length with h2|h2
 rotate_left
 ·have e1:=Cj h2
  have:i=l.length:=by omega
  subst this;rw[Cf];refine AH AZ e1 AB AB AB AB AB AB ?_;exact AL rfl AA.out
 have e1:=Ck h2;have wi:=Cc (i:=i) (by omega);obtain⟨x,hx⟩:=CU h2;have hm:(l.map AD.D)[i]?=some (.agg [str (sb x.grain),i64 x.mass,.sl false 2 (x.shs.map Av.D)]):=by rw[A8,hx];rfl
 have hb:=UM (l:=l.take i) λy hy=>hm0 y (Fy hy)
 have hxm:=hm0 x (Aw hx);rw[Bd,FC hi]at hb;have wS:IntKind.i64.wrap (Am (l.take i)+x.mass)=Am (l.take (i+1)):=by rw[TW hx,wI (by omega) (by omega)]
 refine AH AZ (BY e1 wi @wS kN) hm AB AB AB AB AB ?_;exact⟨(i+1,_),h2,by dsimp only;omega,AJ⟩
theorem fX (x:AD)(hf:x.few):AK C0 107 [x.D] (i64 (CZ x:Nat)):=by
 refine Ak.walk w1 Z7 rfl λF=>?_
 obtain⟨f1,f2,f3⟩:=hf;have cN:=Q8 x.grain;have cS:=yI false x.shs f2 f3;have hC:CZ x=if Dg x.grain=false then 8 else if x.mass<1\/x.mass>999999999 then 3 else Hl x.shs:=rfl
 obtain⟨N,hN⟩:∃q,Dg x.grain=q:=⟨_,rfl⟩
 obtain⟨SD,hSD⟩:∃d,Ce false x.shs=d:=⟨_,rfl⟩
 have pS:AA SD:=by rw[<-hSD];exact AI
 have hna:JV SD=true:=by rw[<-hSD];rfl
 unfold AD.D;rw[hN]at cN hC;rw[hSD]at cS⊢;cases N
 ·rw[AG rfl]at hC
  rw[hC];refine AH AZ kB cN AB AB AB AB AB ?_;exact AL rfl AA.out
 rw[AF (by decide)]at hC
 by_cases h1:x.mass<1
 ·rw[AG (.inl h1)]at hC
  rw[hC];have e1:decide (x.mass<1)=true:=AX h1;refine AH AZ e1 cN AB AB AB AB AB ?_;exact AL rfl AA.out
 have e1:decide (x.mass<1)=false:=Ag h1
 by_cases h2:x.mass>999999999
 ·rw[AG (.inr h2)]at hC
  rw[hC];have e2:decide (x.mass>999999999)=true:=AX h2;refine AH AZ (Ah e1 e2) cN AB AB AB AB AB ?_;exact AL rfl AA.out
 have e2:decide (x.mass>999999999)=false:=Ag h2;rw[AF (by omega)]at hC;rw[hC];refine AH AZ (As e1 e2 hna) cN cS AB AB AB AB ?_;exact AL rfl AA.out
theorem TG {l:List AD}(h64:¬ 64<l.length)(hz:∀j,j<l.length->CZ (CI l j)=0):IJ l:=by
 refine⟨by omega,λx hx=>?_⟩;obtain⟨j,hj⟩:=List.mem_iff_getElem?.1 hx
 have:=hz j (List.getElem?_eq_some_iff.1 hj).1
 rw[Fc hj]at this
 have:=ON this
 omega
theorem NI (b:Bool)(l:List AD)(hl:l.length<=9223372036854775807)(hf:∀x∈l,x.few):AK C0 68 [Al b l] (i64 (Bv l:Nat)):=by
 refine Ak.walk w1 dx rfl λF=>?_
 have el:(((l.map AD.D).length:Nat):Int)=(l.length:Int):=by rw[Ac]
 have hC:Bv l=if 64<l.length then 5 else if Dm (λi=>CZ (CI l i)) l.length≠0 then Dm (λi=>CZ (CI l i)) l.length else if Am l>999999999 then 4 else 0:=rfl
 by_cases h64:64<l.length
 ·rw[AG h64]at hC
  rw[hC];have q2:decide ((l.length:Int)>64)=true:=AX (by omega);refine AH AZ (Ah el q2) AB AB AB AB AB AB ?_;exact AL rfl AA.out
 rw[AF h64]at hC;have q2:decide ((l.length:Int)>64)=false:=Ag (by omega);refine AH AZ (Ah el q2) AB AB AB AB AB AB ?_;refine AC.loop (α:=Nat×Nat) (λp=>⟨[(0,Al b l),(9,Al b l),(10,i64 (l.length:Int)),(11,i64 (p.1:Int))],[],p.2⟩) (λp=>l.length-p.1) (λp=>p.1<=l.length/\∀j,j<p.1->CZ (CI l j)=0) (0,_) ⟨BU _,λj h=>Ad h (HR j)⟩ AJ ?_;rintro⟨i,m⟩ F ⟨hi,hz⟩;dsimp only at hi hz⊢;rcases BH i l.length with h2|h2
 rotate_left
 ·have e1:=Cj h2
  have:i=l.length:=by omega
  subst this;rw[AF (λh=>h (LC (f:=λi=>CZ (CI l i)) hz))]at hC;have cT:=Zu b l (TG h64 hz);obtain⟨q,hq⟩:∃q,decide (Am l>999999999)=q:=⟨_,rfl⟩
  have cW:=IS q 4;have hR:((Bv l:Nat):Int)=if q then 4 else 0:=by
   rw[hC,<-hq]
   by_cases h:Am l>999999999
   ·rw[AG h,AX h];rfl
   ·rw[AF h,Ag h];rfl
  rw[hR];refine AH AZ (Ah e1 hq) cT cW AB AB AB AB ?_;exact AL rfl AA.out
 have e1:=Ck h2;have wi:=Cc (i:=i) (by omega);obtain⟨x,hx⟩:=CU h2;have hm:(l.map AD.D)[i]?=some (.agg [str (sb x.grain),i64 x.mass,.sl false 2 (x.shs.map Av.D)]):=by rw[A8,hx];rfl
 have cL:=fX x (hf x (Aw hx));unfold AD.D at cL;rcases Nat.decEq (CZ x) 0 with hc0|hc0
 ·have e3:=GQ hc0
  have:=OU (f:=λi=>CZ (CI l i)) hz h2 (by rw[Fc hx];exact hc0)
  rw[Fc hx]at this;rw[this,AG hc0]at hC;rw[hC];refine AH AZ (As e1 e3 kN) hm cL AB AB AB AB ?_;exact AL rfl AA.out
 have e3:=GR hc0;refine AH AZ (BY e1 e3 wi kN) hm cL AB AB AB AB ?_;exact⟨(i+1,_),⟨h2,λj hj=>by
  rcases Nat.lt_succ_iff_lt_or_eq.1 hj with q|q
  ·exact hz j q
  ·rw[q,Fc hx];exact hc0⟩,by dsimp only;omega,AJ⟩
theorem Xo {α:Type}{l:List α}{p:α->Bool}{k:Nat}{x:α}(hx:l[k]?=some x)(h:(l.take k).all p=true)(hp:p x=true):(l.take (k+1)).all p=true:=by
 rw[Da,hx,Js,h];simp[hp]
theorem T6 {α:Type}{l:List α}{p:α->Bool}{k:Nat}{x:α}(hx:l[k]?=some x)(hp:p x=false):l.all p=false:=by
 cases h:l.all p
 ·rfl
 ·rw[CQ.1 h x (Aw hx)]at hp;exact hp
abbrev Mc:Dr:=[(8,[0,1,2,3,4,5,6,7],[8])]
open Go.Proofs Go.RowKit
set_option maxRecDepth 20000
set_option maxHeartbeats 4000000
abbrev B0:=List (List UInt8×Rat)
def Fu (lot:List UInt8):B0->Option Rat
 | []=>none
 |p::l=>if lot=p.1 then some p.2 else Fu lot l
def GT (lot:List UInt8)(r:Rat):B0->B0
 | []=>[(lot,r)]
 |p::l=>if lot=p.1 then(lot,r)::l else p::GT lot r l
def Jk (lot:List UInt8)(r:Rat)(q:B0):B0:=GT lot (match Fu lot q with|some o=>r+o|none=>r) q
def GM (x:AD)(n:Nat)(q:B0):B0:=(x.shs.take n).foldl (λacc s=>Jk s.lot (CR s.part*(x.mass:Rat)) acc) q
def CJ (l:List AD):B0:=l.foldl (λacc x=>GM x x.shs.length acc) []
def MQ (B:Nat):B0->DB->Prop
 | [],[]=>True
 |p::q,e::m=>(e.1=sb p.1/\∃y:GF,e.2=y.D/\FR p.2 y B)/\MQ B q m
 |_,_=>False
theorem MQ.mono {B B':Nat}(hB:B<=B'):∀ {q:B0} {m:DB},MQ B q m->MQ B' q m
 | [],[],_=>trivial
 |_::_,_::_,⟨⟨h1,y,h2,h3⟩,h4⟩=>⟨⟨h1,y,h2,h3.is,h3.rk.mono hB⟩,MQ.mono hB h4⟩
theorem MQ.look {B:Nat}(lot:List UInt8):∀ {q:B0} {m:DB},MQ B q m->(H6 (sb lot) m=none/\Fu lot q=none)\/∃(r:Rat) (y:GF),H6 (sb lot) m=some y.D/\Fu lot q=some r/\FR r y B
 | [],[],_=>.inl ⟨rfl,rfl⟩
 |p::q,e::m,⟨⟨h1,y,h2,h3⟩,h4⟩=>by
  unfold H6 Fu;rw[h1,Ex]
  by_cases hl:lot=p.1
  ·rw[AX hl,AG hl]
   exact .inr ⟨p.2,y,by rw[h2];rfl,rfl,h3⟩
  ·rw[Ag hl,AF hl]
   exact MQ.look lot h4
theorem MQ.set {B:Nat}(lot:List UInt8){r:Rat}{y:GF}(hr:FR r y B):∀ {q:B0} {m:DB},MQ B q m->MQ B (GT lot r q) (FO (sb lot) y.D m)
 | [],[],_=>⟨⟨rfl,y,rfl,hr⟩,trivial⟩
 |p::q,e::m,⟨⟨h1,y',h2,h3⟩,h4⟩=>by
  unfold GT FO;rw[h1,Ex]
  by_cases hl:lot=p.1
  ·rw[AX hl,AG hl]
   exact⟨⟨rfl,y,rfl,hr⟩,h4⟩
  ·rw[Ag hl,AF hl]
   exact⟨⟨h1,y',h2,h3⟩,MQ.set lot hr h4⟩
theorem MQ.pure {B:Nat}:∀ {q:B0} {m:DB},MQ B q m->∀e∈m,B6 e.2
 | [],[],_,e,he=>by cases he
 |p::q,e::m,⟨⟨_,y,h2,_⟩,h4⟩,x,hx=>by
  rcases BG.1 hx with rfl|hx
  ·rw[h2];exact AA.out
  ·exact MQ.pure h4 x hx
theorem MQ.mapD {B:Nat}{q:B0}{m:DB}(h:MQ B q m):B6 (mapD m):=by
 refine B6.mp (λd hd=>?_) λd hd=>?_
 ·obtain⟨p,-,rfl⟩:=List.mem_map.1 hd;exact AA.out
 ·obtain⟨p,hp,rfl⟩:=List.mem_map.1 hd;exact h.pure p hp
def Av.ok (s:Av):Prop:=s.lot.length<=100000/\s.part.length<=40/\CY s.part=0
def AD.ok (x:AD):Prop:=x.shs.length<=64/\Sm x.mass/\∀s∈x.shs,s.ok
def AD.okW (w:Nat)(x:AD):Prop:=x.shs.length<=64/\Sm x.mass/\∀s∈x.shs,s.lot.length<=100000/\s.part.length<=100000/\CY s.part=0/\rk (CR s.part) (w-2)
theorem Nx (x:AD)(n:Nat)(q:B0){s:Av}(h:x.shs[n]?=some s):GM x (n+1) q=Jk s.lot (CR s.part*(x.mass:Rat)) (GM x n q):=by
 unfold GM;rw[Da,h,List.foldl_append];rfl
theorem QC (l:List AD)(n:Nat){x:AD}(h:l[n]?=some x):CJ (l.take (n+1))=GM x x.shs.length (CJ (l.take n)):=by
 unfold CJ;rw[Da,h,List.foldl_append];rfl
theorem bR (w:Nat)(b:Bool)(l:List AD)(hl:l.length<=100)(hx:∀x∈l,x.okW w)(h2w:2<=w)(hw:w*(64*(l.length+1))<=100000):Ak C0 70 [Al b l] (λd=>∃m,d=mapD m/\MQ (w*(64*l.length)) (CJ l) m):=by
 refine Ak.walk w1 eB rfl λF0=>?_
 have el:(((l.map AD.D).length:Nat):Int)=(l.length:Int):=by rw[Ac]
 refine sZ 0 ?_;refine AE kB ?_;refine AC.seq ?_;refine Hz (by kernel_rfl) ?_;change Bf _ _ _ _ _ [0,1] _ _;refine Bf.makeMap 100 rfl rfl rfl (Vi F0) (λF1 it hto hO hr0 hnX hM=>?_);change Bf _ _ _ _ _ ([1]++[]) _ _;refine FS w1 100 [1] [] ?_;refine AE kB ?_;refine Bf.nil ?_;refine AH Mc el AB AB AB AB AB AB ?_;refine GY (α:=Nat×DB×Obj×Nat) (λp=>⟨[(3,.prim (.map (some it))),(12,Al b l),(13,i64 (l.length:Int)),(14,i64 (p.1:Int))],[],p.2.2.2⟩) (λp=>l.length-p.1)
  (λp F=>p.1<=l.length/\C9 C0 F0 F [⟨100,1,p.2.2.1⟩]/\F.r0 100 1=some it/\Hn F p.2.2.1 p.2.1/\MQ (w*(64*p.1)) (CJ (l.take p.1)) p.2.1) (0,[],.map #[] 0,_) ⟨BU _,hO,hr0,hM,trivial⟩ AJ ?_
 clear hO hr0 hM hto;rintro⟨i,m,o,n1⟩ F ⟨hi,hO,hr0,hM,hQ⟩;dsimp only at hi hO hr0 hM hQ⊢;rcases BH i l.length with h2|h2
 rotate_left
 ·have e1:=Cj h2
  have:i=l.length:=by omega
  subst this;rw[Cf]at hQ;refine sZ 300 ?_;refine AE e1 ?_;refine AC.seq ?_;refine AM ?_;refine B9 ?_;refine fp [(3,mapD m)] hO hr0 hnX hM ⟨.inr ⟨rfl,rfl⟩,trivial⟩ (λF2 hto2 hO2=>?_);refine AH Mc kB AB AB AB AB AB AB ?_;exact⟨mapD m,.refl _,hQ.mapD,m,rfl,hQ⟩
 have e1:=Ck h2;have wi:=Cc (i:=i) (by omega);obtain⟨x,hxi⟩:=CU h2;obtain⟨x1,x2,x3⟩:=hx x (Aw hxi);have hm:(l.map AD.D)[i]?=some (.agg [str (sb x.grain),i64 x.mass,.sl false 2 (x.shs.map Av.D)]):=by rw[A8,hxi];rfl
 have es:(((x.shs.map Av.D).length:Nat):Int)=(x.shs.length:Int):=by rw[Ac]
 refine AH Mc (As e1 es kN) hm AB AB AB AB AB ?_;obtain⟨ga,hga⟩:∃g,n1+1+1+1=g:=⟨_,rfl⟩
 refine GY (α:=Nat×DB×Obj×Nat) (λp=>⟨[(3,.prim (.map (some it))),(5,.optr 402 (n1+1+1+1) 3 0 0),(12,Al b l),(13,i64 (l.length:Int)),(14,i64 (i:Int)),(19,.sl false 2 (x.shs.map Av.D)),(20,i64 (x.shs.length:Int)),(21,i64 (p.1:Int))],[⟨402,n1+1+1+1,80,3,[.agg [str (sb x.grain),i64 x.mass,.sl false 2 (x.shs.map Av.D)]]⟩],p.2.2.2⟩) (λp=>x.shs.length-p.1)
  (λp F=>p.1<=x.shs.length/\C9 C0 F0 F [⟨100,1,p.2.2.1⟩]/\F.r0 100 1=some it/\Hn F p.2.2.1 p.2.1/\MQ (w*(64*i+p.1)) (GM x p.1 (CJ (l.take i))) p.2.1) (0,m,o,_) ⟨BU _,hO,hr0,hM,hQ⟩ AJ ?_
 clear hO hr0 hM hQ;rintro⟨j,m2,o2,n2⟩ F ⟨hj,hO,hr0,hM,hQ⟩;dsimp only at hj hO hr0 hM hQ⊢;rw[hga];rcases BH j x.shs.length with h3|h3
 rotate_left
 ·have e2:=Cj h3
  have:j=x.shs.length:=by omega
  subst this;rw[<-QC l i hxi]at hQ;refine AH Mc (Ah e2 wi) AB AB AB AB AB AB ?_;exact⟨(i+1,m2,o2,_),⟨h2,hO,hr0,hM,hQ.mono (Cb _ (by dsimp only;omega))⟩,by dsimp only;omega,AJ⟩
 have e2:=Ck h3;have wj:=Cc (i:=j) (by omega);obtain⟨s,hsj⟩:=CU h3;obtain⟨s1,s2,s3,s4⟩:=x3 s (Aw hsj);have hms:(x.shs.map Av.D)[j]?=some (.agg [str (sb s.lot),str (sb s.part)]):=by rw[A8,hsj];rfl
 have hsn:=Nx x j (CJ (l.take i)) hsj;have fP:FR (CR s.part) (GL s.part) (w-2):=⟨(RH s3).is,s4⟩
 obtain⟨PW,hPW⟩:∃P,w*(64*i+j)=P:=⟨_,rfl⟩
 have hPW1:w*(64*i+(j+1))=PW+w:=by rw[<-hPW,<-Ea,Nat.mul_succ]
 have hPWb:PW+w<=100000:=by
  rw[<-hPW1];exact BX (Cb _ (by omega)) hw
 rw[hPW]at hQ;have fM:FR ((x.mass:Int):Rat) ⟨AW x.mass,1⟩ 1:=Q2 (by unfold Sm at x2;omega);have c1:=RW s2 s3;have c2:=PM x.mass x2;have c3:=UT fP fM (by omega);have fZ:FR (CR s.part*(x.mass:Rat)) (IU (GL s.part) ⟨AW x.mass,1⟩) (w-2+1):=UF fP fM;obtain⟨z,hz⟩:∃z,IU (GL s.part) ⟨AW x.mass,1⟩=z:=⟨_,rfl⟩
 rw[hz]at c3 fZ;obtain⟨d1,hd1⟩:∃d,(GL s.part).D=d:=⟨_,rfl⟩
 obtain⟨d2,hd2⟩:∃d,(⟨AW x.mass,1⟩:GF).D=d:=⟨_,rfl⟩
 have pd1:AA d1:=by rw[<-hd1];exact AI
 have pd2:AA d2:=by rw[<-hd2];exact AI
 rw[hd1]at c1 c3;rw[hd2]at c2 c3;refine sZ 600 ?_;refine AE e2 ?_;refine AC.seq ?_;refine AM ?_;refine An ?_;refine AC.seq ?_;refine AC.block ?_;refine sZ 700 ?_;refine Bq kT hms ?_;refine AE kB ?_;refine AC.seq ?_;refine B7 w1 800 [0,1,2,3,4,5,6,7] [8] (by kernel_rfl) ?_;refine AE kB ?_;refine BZ.same _ (c1) AI ?_;refine BP ?_;refine AE kB ?_;refine BZ.same _ (c2) AI ?_;refine BP ?_;refine AE kB ?_;refine BZ.same _ (c3) AI ?_;refine BP ?_;refine AE kB ?_;refine AC.seq ?_;refine AC.seq ?_;refine Hz (by kernel_rfl) ?_;change Bf _ _ _ _ _ ([0,1,2]++(3::([4,5,6,7,8,9]++[]))) _ _;refine FS w1 900 [0,1,2] _ ?_;refine AE kB ?_;refine Bf.look (xo:=⟨100,1,o2⟩) (l:=m2) w1 rfl rfl rfl rfl rfl rfl hO CG hr0 hM ?_;rcases hQ.look s.lot with⟨q1,q2⟩|⟨r,y,q1,q2,q3⟩
 ·rw[Ww q1]
  refine FS w1 900 [4,5,6,7,8,9] [] ?_;refine AE kB ?_;refine Bf.nil ?_;refine At ?_;refine sZ 1000 ?_;refine AE kB ?_;refine AM ?_;refine An ?_;refine Hz (by kernel_rfl) ?_;change Bf _ _ _ _ _ ([0,1,2,3]++(4::[])) _ _;refine FS w1 1200 [0,1,2,3] _ ?_;refine AE kB ?_;refine Bf.put (l:=m2) w1 rfl rfl rfl rfl rfl rfl hO hr0 hM (λF3 o3 hto3 hO3 hr3 hM3=>Bf.nil ?_);refine At ?_;have hQ2:MQ (w*(64*i+(j+1))) (GM x (j+1) (CJ (l.take i))) (FO (sb s.lot) z.D m2):=by
   rw[hsn,hPW1];unfold Jk;rw[q2];exact MQ.set s.lot ⟨fZ.is,fZ.rk.mono (by omega)⟩ (hQ.mono (by omega))
  refine AH Mc wj AB AB AB AB AB AB ?_;exact⟨(j+1,FO (sb s.lot) z.D m2,o3,_),⟨h3,hO3,hr3,hM3,hQ2⟩,by dsimp only;omega,AJ⟩
 ·rw[Wx q1]
  refine FS w1 900 [4,5,6,7,8,9] [] ?_;refine AE kB ?_;refine Bf.nil ?_;have c4:=RQ fZ q3 (by omega);have fA:=Qn fZ q3;obtain⟨z2,hz2⟩:∃z2,Jg z y=z2:=⟨_,rfl⟩
  rw[hz2]at c4 fA;refine At ?_;refine sZ 1000 ?_;refine AE kB ?_;refine AM ?_;refine Ao w1 1100 (by kernel_rfl) ?_;refine AE kB ?_;refine cI c4 ?_;refine AE kB ?_;refine Hz (by kernel_rfl) ?_;change Bf _ _ _ _ _ ([0,1,2,3]++(4::[])) _ _;refine FS w1 1200 [0,1,2,3] _ ?_;refine AE kB ?_;refine Bf.put (l:=m2) w1 rfl rfl rfl rfl rfl rfl hO hr0 hM (λF3 o3 hto3 hO3 hr3 hM3=>Bf.nil ?_);refine At ?_;have hQ2:MQ (w*(64*i+(j+1))) (GM x (j+1) (CJ (l.take i))) (FO (sb s.lot) z2.D m2):=by
   rw[hsn,hPW1];unfold Jk;rw[q2];exact MQ.set s.lot ⟨fA.is,fA.rk.mono (by omega)⟩ (hQ.mono (by omega))
  refine AH Mc wj AB AB AB AB AB AB ?_;exact⟨(j+1,FO (sb s.lot) z2.D m2,o3,_),⟨h3,hO3,hr3,hM3,hQ2⟩,by dsimp only;omega,AJ⟩
theorem AD.ok.w5 {x:AD}(h:x.ok):x.okW 5:=⟨h.1,h.2.1,λs hs=>by
 obtain⟨a,b,c⟩:=h.2.2 s hs;exact⟨a,by omega,c,gQ c b⟩⟩
theorem xm (b:Bool)(l:List AD)(hl:l.length<=100)(hx:∀x∈l,x.ok):Ak C0 70 [Al b l] (λd=>∃m,d=mapD m/\MQ 32000 (CJ l) m):=
 (bR 5 b l hl (λx h=>(hx x h).w5) (by omega) (by omega)).mono λd ⟨m,h1,h2⟩=>⟨m,h1,h2.mono (by omega)⟩
def VL (r:Rat):List UInt8:=if Du r=true then[]else BO r
def VK (r:Rat):Nat:=if Du r=true then 4 else 0
set_option maxHeartbeats 8000000
theorem Uv {l:List UInt8}(h:CY l=0):rR (CR l)=str (sb l):=by unfold rR;rw[(OG h).2.2.1]
set_option maxHeartbeats 4000000
theorem XV (n:Nat):DA (Lib.decDigits n)=true:=by
 obtain⟨h1,h2,h3⟩:=EU n;rcases Do n with h|h
 ·have e:Lib.decDigits n=[48]:=by
   have:=Yf 0
   rw[h];exact DE (this.trans (AX rfl))
  rw[e];rfl
 ·obtain⟨c,l,e,hc⟩:=mX (Nat.pos_iff_ne_zero.1 h)
  rw[e]at h1⊢;unfold DA Kj;rw[h1];simp[hc]
theorem Ud {n:Nat}{l:List UInt8}(h:n≠dv l):decide (Lib.decDigits n=l)=false:=Ag λe=>h (by rw[<-e,(EU n).2.1])
theorem nq {r:Rat}(h:Du r=false):CY (BO r)=0:=by
 have hs:B4 (BO r)=Lib.decDigits r.num.natAbs:=by unfold B4;rw[Of,(MV _).2]
 have hd:=Mj r;have hh:=Qy r;unfold Du at h;simp only[JC,If]at h;have hb:JO (BO r)=false:=by
  rw[P6,hs,T7,hh,XV];have e1:(decide (r.num<0)&&decide (Lib.decDigits r.num.natAbs=[48]))=false:=by
   by_cases g:r.num<0
   ·rw[Ud (show r.num.natAbs≠dv [48] by show r.num.natAbs≠0;omega),Bool.and_false]
   ·rw[Ag g,HV]
  rw[e1]
  by_cases g:r.den=1
  ·rw[AX g];rfl
  ·rw[hd,AF g,XV,Ud (show r.den≠dv [48]from r.den_nz),Ud (show r.den≠dv [49]from g),Ag g];rfl
 unfold CY;rw[hb,AF (by decide),hs]
 by_cases g:r.den=1
 ·rw[hd,AG g,hh,AX g,AF (by simp;omega),AF (λk=>Ad k.1 (by decide))]
 ·rw[hd,AF g,(EU _).2.1,(EU _).2.1,AF (by omega),AF (λk=>k.2 r.reduced)]
theorem lF (r:Rat):CR (BO r)=r:=by
 unfold CR Gt;rw[Of,ZU,Qy,Mj]
 by_cases g:r.den=1
 ·rw[AX g]
  show mkRat r.num 1=r;rw[<-g];exact Rat.mkRat_self r
 ·rw[Ag g,AF g,(EU _).2.1]
  exact Rat.mkRat_self r
theorem o4:rR 0=str ⟨#[48]⟩:=by
 have h:CR [48]=0:=by kernel_rfl
 rw[<-h,Uv (by kernel_rfl)];all_goals rfl
theorem j8 (r:Rat):BK (sb (BO r)) ⟨#[49]⟩=decide (r=1):=by
 have h1:CR [49]=1:=by kernel_rfl
 have e:(⟨#[49]⟩:ByteArray)=sb [49]:=rfl;rw[e,Ex,C8];constructor
 ·intro h
  rw[<-lF r,h,h1]
 ·intro h
  rw[h]
  have:=(OG (l:=[49]) (by kernel_rfl)).2.2.1
  rwa [h1]at this
end Go.Ide
namespace Go.Proofs
open Go.Shelf Go.RowKit Go.Lib Go.Sort
def Tryz.sortAmounts_ren:Go.Shelf.Ren:=⟨fun|6=>108|15=>147|14=>146|28=>193|29=>194|20=>185|21=>186|22=>187|23=>188|24=>189|25=>190|26=>191|27=>192|46=>241|47=>242|48=>243|49=>244|50=>245|57=>274|n=>n,fun|22=>47|24=>88|25=>156|3=>3|39=>189|0=>0|53=>54|55=>210|4=>4|46=>233|45=>232|50=>237|5=>5|9=>9|66=>272|70=>276|76=>297|77=>73|n=>n,fun|n=>n⟩
theorem za:Go.Proofs.SlLaysF0.n6 Tryz.prog Tryz.sortAmounts_ren:={
 mixed:=by kernel_rfl
 f6:=⟨Tryz.f108.name,by decide,Tryz.func108.trans (congrArg some (by kernel_rfl))⟩
 f14:=⟨Tryz.f146.name,by decide,Tryz.func146.trans (congrArg some (by kernel_rfl))⟩
 f15:=Tryz.func147.trans (congrArg some (by kernel_rfl))
 f20:=⟨Tryz.f185.name,by decide,Tryz.func185.trans (congrArg some (by kernel_rfl))⟩
 f21:=⟨Tryz.f186.name,by decide,Tryz.func186.trans (congrArg some (by kernel_rfl))⟩
 f22:=⟨Tryz.f187.name,by decide,Tryz.func187.trans (congrArg some (by kernel_rfl))⟩
 f23:=⟨Tryz.f188.name,by decide,Tryz.func188.trans (congrArg some (by kernel_rfl))⟩
 f24:=⟨Tryz.f189.name,by decide,Tryz.func189.trans (congrArg some (by kernel_rfl))⟩
 f25:=⟨Tryz.f190.name,by decide,Tryz.func190.trans (congrArg some (by kernel_rfl))⟩
 f26:=⟨Tryz.f191.name,by decide,Tryz.func191.trans (congrArg some (by kernel_rfl))⟩
 f27:=⟨Tryz.f192.name,by decide,Tryz.func192.trans (congrArg some (by kernel_rfl))⟩
 f28:=Tryz.func193.trans (congrArg some (by kernel_rfl))
 f29:=Tryz.func194.trans (congrArg some (by kernel_rfl))
 f46:=⟨Tryz.f241.name,by decide,Tryz.func241.trans (congrArg some (by kernel_rfl))⟩
 f47:=Tryz.func242.trans (congrArg some (by kernel_rfl))
 f48:=Tryz.func243.trans (congrArg some (by kernel_rfl))
 f49:=⟨Tryz.f244.name,by decide,Tryz.func244.trans (congrArg some (by kernel_rfl))⟩
 f50:=⟨Tryz.f245.name,by decide,Tryz.func245.trans (congrArg some (by kernel_rfl))⟩
 f57:=⟨Tryz.f274.name,by decide,Tryz.func274.trans (congrArg some (by kernel_rfl))⟩
 t0:=Tryz.underlying0
 a0:=Tryz.isAgg0
 z0:=Tryz.sizeOf0
 v0:=Tryz.zeroValue0
 t3:=Tryz.underlying3
 a3:=Tryz.isAgg3
 z3:=Tryz.sizeOf3
 v3:=Tryz.zeroValue3
 t4:=Tryz.underlying4
 a4:=Tryz.isAgg4
 z4:=Tryz.sizeOf4
 v4:=Tryz.zeroValue4
 t5:=Tryz.underlying5
 a5:=Tryz.isAgg5
 z5:=Tryz.sizeOf5
 v5:=Tryz.zeroValue5
 t9:=Tryz.underlying9
 a9:=Tryz.isAgg9
 z9:=Tryz.sizeOf9
 v9:=Tryz.zeroValue9
 t22:=Tryz.underlying47
 a22:=Tryz.isAgg47
 z22:=Tryz.sizeOf47
 v22:=Tryz.zeroValue47
 t25:=Tryz.underlying156
 a25:=Tryz.isAgg156
 z25:=Tryz.sizeOf156
 v25:=Tryz.zeroValue156
 t39:=Tryz.underlying189
 a39:=Tryz.isAgg189
 z39:=Tryz.sizeOf189
 v39:=Tryz.zeroValue189
 t45:=Tryz.underlying232
 a45:=Tryz.isAgg232
 z45:=Tryz.sizeOf232
 v45:=Tryz.zeroValue232
 t46:=Tryz.underlying233
 a46:=Tryz.isAgg233
 z46:=Tryz.sizeOf233
 v46:=Tryz.zeroValue233
 t50:=Tryz.underlying237
 a50:=Tryz.isAgg237
 z50:=Tryz.sizeOf237
 v50:=Tryz.zeroValue237
 t53:=Tryz.underlying54
 a53:=Tryz.isAgg54
 z53:=Tryz.sizeOf54
 v53:=Tryz.zeroValue54
 t55:=Tryz.underlying210
 a55:=Tryz.isAgg210
 z55:=Tryz.sizeOf210
 v55:=Tryz.zeroValue210
 t66:=Tryz.underlying272
 a66:=Tryz.isAgg272
 z66:=Tryz.sizeOf272
 v66:=Tryz.zeroValue272
 t70:=Tryz.underlying276
 a70:=Tryz.isAgg276
 z70:=Tryz.sizeOf276
 v70:=Tryz.zeroValue276
 t76:=Tryz.underlying297
 a76:=Tryz.isAgg297
 z76:=Tryz.sizeOf297
 v76:=Tryz.zeroValue297
 t77:=Tryz.underlying73
 a77:=Tryz.isAgg73
 z77:=Tryz.sizeOf73
 v77:=Tryz.zeroValue73 }
end Go.Proofs
namespace Go.Ide
open Go.Proofs Go.RowKit Go.Sort
set_option maxRecDepth 20000
def Co (p:List UInt8×Rat):D:=.agg [str (sb p.1),str (sb (BO p.2))]
instance d7D (p:List UInt8×Rat):AT (Co p):=by unfold Co;exact AI
instance d7E (p:List UInt8×Rat):AA (Co p):=by unfold Co;exact AI
def Kk (p:List UInt8×Rat):List Value:=[.string (sb p.1),.string (sb (BO p.2))]
def Hv (x y:List UInt8):Int:=if x<y then -1 else if y<x then 1 else 0
theorem QQ (x y:List UInt8×Rat):ltOf (λx y:List UInt8×Rat=>Hv x.1 y.1) x y=ltStr x.1 y.1:=by
 unfold ltOf Hv ltStr
 by_cases h:x.1<y.1
 ·simp[h]
 ·by_cases h2:y.1<x.1<;>simp[h,h2]
theorem yV:SWO (ltOf (λx y:List UInt8×Rat=>Hv x.1 y.1)) where
 irrefl x:=by rw[QQ];exact swo_ltStr.irrefl _
 trans x y z h1 h2:=by rw[QQ]at*;exact swo_ltStr.trans _ _ _ h1 h2
 ntrans x y z h1 h2:=by rw[QQ]at*;exact swo_ltStr.ntrans _ _ _ h1 h2
set_option maxHeartbeats 1000000 in
theorem kG (x:ByteArray)(W:World):Calls Tryz.prog 148 #[.string x] W λe w'=>e=.returned (.bool false)/\w'=W:=by
 go_enter Tryz.func148,Tryz.ntmps148
 go_wp2
 go_ret
 exact⟨by simp,rfl⟩
set_option maxHeartbeats 1000000 in
theorem ig (x y:List UInt8)(W:World):Calls Tryz.prog 110 #[.string (sb x),.string (sb y)] W λe w'=>e=.returned (.int .i64 (Hv x y))/\w'=W:=by
 go_enter Tryz.func110,Tryz.ntmps110
 go_wp2_with (go_at_call 148;refine(kG _ _).mono ?_;rintro e w' ⟨rfl,hw⟩;rw[hw])
 all_goals go_ret
 all_goals(refine⟨?_,rfl⟩)
 ·have h:Op.bytesLess x y=true:=by assumption
  rw[bytesLess_eq,Gc]at h;unfold Hv;rw[AG h];rfl
 ·have h:Op.bytesLess x y=false:=by assumption
  have h2:(!x==y)=true:=by assumption
  rw[bytesLess_eq,If]at h;have h3:y<x:=Dc λq=>by
   have:=List.le_antisymm (List.not_lt.1 q) (List.not_lt.1 h)
   simp[this]at h2
  unfold Hv;rw[AF h,AG h3];rfl
 ·have h:Op.bytesLess x y=false:=by assumption
  have h2:(!x==y)=false:=by assumption
  rw[bytesLess_eq,If]at h;have h3:¬y<x:=λq=>by
   have:x=y:=by simpa using h2
   rw[this]at q;exact List.lt_irrefl _ q
  unfold Hv;rw[AF h,AF h3];rfl
set_option maxHeartbeats 1000000 in
theorem ic (x y:List UInt8×Rat)(W:World):Calls Tryz.prog 109 #[.agg (Kk x).toArray,.agg (Kk y).toArray] W λe w'=>e=.returned (.int .i64 (Hv x.1 y.1))/\∃q os',w'=grow (W.drewN q) os':=by
 have hcon:=ig x.1 y.1;unfold Kk;generalize Hv x.1 y.1=r at hcon⊢;generalize sb x.1=a at hcon⊢;generalize sb y.1=b at hcon⊢;generalize sb (BO x.2)=c;generalize sb (BO y.2)=d
 go_enter Tryz.func109,Tryz.ntmps109
 go_wp2_with (go_at_call 110;refine(hcon _).mono ?_;rintro e w' ⟨rfl,rfl⟩)
 go_ret
 exact⟨rfl,0,_,by rw[alloc_eq_grow,alloc_eq_grow,grow_grow];rfl⟩
theorem szA:(Tryz.prog.info? 88).map (λi=>i.size)=some 2:=by kernel_rfl
theorem g8:II Tryz.prog 88=true:=by kernel_rfl
theorem unA:(Tryz.prog.underlying 88).isSome=true:=by kernel_rfl
theorem xy (w:World):(Go.sizeOf 88).run Tryz.prog w=.ok 2 w:=by
 obtain⟨i,h1,h2⟩:=Option.map_eq_some_iff.1 szA;rw[Gh h1,h2]
theorem y7 (w:World):(isAgg 88).run Tryz.prog w=.ok true w:=by
 obtain⟨u,h1⟩:=Option.isSome_iff_exists.1 unA;rw[QU h1,g8]
theorem uq:Zq Tryz.prog 108 109 Kk 2 (ltOf λx y:List UInt8×Rat=>Hv x.1 y.1):=λblk cap d w hH hb hd=>
 AnyQ.slices_SortFunc za 2 y7 xy Kk (λ_=>rfl) (λx v hv=>by simp[Kk]at hv;rcases hv with rfl|rfl<;>rfl)
  (λx y=>Hv x.1 y.1) yV 109 #[] blk 0 cap d w (enters_of Tryz.func109 (by kernel_rfl) rfl) (λ_ _ _ _ x y=>ic x y _) hH hb hd
theorem iN (l:List (List UInt8×Rat))(hl0:l≠[])(hl:l.length<4611686018427387904)(kb gg:Nat)(H:Hp)(n:Nat):
  Cd C0 108 [.osl kb gg 2 0 l.length,.clo (.func 109) [] []] (⟨kb,gg,88,2,l.map Co⟩::H) n
   (λd H' n'=>d=.tup []/\n'=n+1/\∃l':List (List UInt8×Rat),l'.Perm l/\l'.Pairwise (λa b=>ltStr b.1 a.1=false)/\H'=⟨kb,gg,88,2,l'.map Co⟩::H):=
 (kq (C:=C0) (f:=108) (g:=109) (enc:=Kk) (k:=2) (toD:=Co) (lt:=ltOf λx y:List UInt8×Rat=>Hv x.1 y.1) (by obtain⟨fn,a1,a2,a3,-⟩:=Z8;exact⟨fn,_,a1,a2,a3⟩) (by decide) (λ_=>rfl) (λx v hv=>by simp[Kk]at hv;rcases hv with rfl|rfl<;>rfl) (λx=>rfl) uq l hl0 hl kb gg _ H n).mono λd H' n' ⟨h1,h2,l',h3,h4,h5⟩=>
  ⟨h1,h2,l',h3,h4.imp λh=>by rw[QQ]at h;exact h,h5⟩
theorem kr:AK C0 108 [CT,.clo (.func 109) [] []] (.tup []):=CF DY 400 40 (by kernel_rfl)
end Go.Ide
namespace Go.Proofs
open Go.Shelf Go.RowKit Go.Lib Go.Sort
def Tryz.sortedZ_ren:Go.Shelf.Ren:=⟨fun|6=>136|8=>178|9=>179|11=>236|13=>147|12=>237|23=>193|24=>194|14=>263|15=>264|16=>265|17=>266|18=>267|19=>268|20=>269|21=>270|22=>271|25=>290|26=>242|27=>243|28=>291|29=>292|30=>148|31=>301|n=>n,fun|26=>9|28=>180|24=>177|0=>0|3=>3|37=>189|48=>54|50=>210|4=>4|40=>233|39=>232|45=>237|5=>5|9=>9|51=>272|55=>276|57=>297|58=>73|33=>117|n=>n,fun|n=>n⟩
theorem zb:Go.Proofs.SlLaysZ.n6 Tryz.prog Tryz.sortedZ_ren:={
 mixed:=by kernel_rfl
 f6:=⟨Tryz.f136.name,by decide,Tryz.func136.trans (congrArg some (by kernel_rfl))⟩
 f8:=⟨Tryz.f178.name,by decide,Tryz.func178.trans (congrArg some (by kernel_rfl))⟩
 f11:=⟨Tryz.f236.name,by decide,Tryz.func236.trans (congrArg some (by kernel_rfl))⟩
 t0:=Tryz.underlying0
 a0:=Tryz.isAgg0
 z0:=Tryz.sizeOf0
 v0:=Tryz.zeroValue0
 t24:=Tryz.underlying177
 a24:=Tryz.isAgg177
 z24:=Tryz.sizeOf177
 v24:=Tryz.zeroValue177
 t26:=Tryz.underlying9
 a26:=Tryz.isAgg9
 z26:=Tryz.sizeOf9
 v26:=Tryz.zeroValue9
 t28:=Tryz.underlying180
 a28:=Tryz.isAgg180
 z28:=Tryz.sizeOf180
 v28:=Tryz.zeroValue180
 i26:=by kernel_rfl }
def Tryz.keysZ_ren:Go.Shelf.Ren:=⟨fun|10=>180|n=>n,fun|33=>117|23=>112|0=>0|4=>4|26=>9|3=>122|n=>n,fun|n=>n⟩
theorem z7:Go.Proofs.SlLaysZ.n10 Tryz.prog Tryz.keysZ_ren:={
 mixed:=by kernel_rfl
 f10:=⟨Tryz.f180.name,by decide,Tryz.func180.trans (congrArg some (by kernel_rfl))⟩
 t0:=Tryz.underlying0
 a0:=Tryz.isAgg0
 z0:=Tryz.sizeOf0
 v0:=Tryz.zeroValue0
 t4:=Tryz.underlying4
 a4:=Tryz.isAgg4
 z4:=Tryz.sizeOf4
 v4:=Tryz.zeroValue4
 t23:=Tryz.underlying112
 a23:=Tryz.isAgg112
 z23:=Tryz.sizeOf112
 v23:=Tryz.zeroValue112
 t26:=Tryz.underlying9
 a26:=Tryz.isAgg9
 z26:=Tryz.sizeOf9
 v26:=Tryz.zeroValue9
 t33:=Tryz.underlying117
 a33:=Tryz.isAgg117
 z33:=Tryz.sizeOf117
 v33:=Tryz.zeroValue117 }
def Tryz.sortM_ren:Go.Shelf.Ren:=⟨fun|6=>179|8=>147|9=>237|19=>193|20=>194|21=>263|22=>264|23=>265|24=>266|25=>267|26=>268|27=>269|28=>270|29=>271|36=>290|31=>242|32=>243|37=>291|38=>292|39=>148|41=>301|n=>n,fun|27=>177|29=>9|3=>3|32=>189|26=>177|0=>0|44=>54|46=>210|4=>4|36=>233|35=>232|41=>237|5=>5|9=>9|53=>272|57=>276|63=>297|64=>73|n=>n,fun|n=>n⟩
theorem gH:Go.Proofs.SlLaysM.n6 Tryz.prog Tryz.sortM_ren:={
 mixed:=by kernel_rfl
 f6:=⟨Tryz.f179.name,by decide,Tryz.func179.trans (congrArg some (by kernel_rfl))⟩
 f8:=Tryz.func147.trans (congrArg some (by kernel_rfl))
 f9:=⟨Tryz.f237.name,by decide,Tryz.func237.trans (congrArg some (by kernel_rfl))⟩
 f19:=Tryz.func193.trans (congrArg some (by kernel_rfl))
 f20:=Tryz.func194.trans (congrArg some (by kernel_rfl))
 f21:=⟨Tryz.f263.name,by decide,Tryz.func263.trans (congrArg some (by kernel_rfl))⟩
 f22:=⟨Tryz.f264.name,by decide,Tryz.func264.trans (congrArg some (by kernel_rfl))⟩
 f23:=⟨Tryz.f265.name,by decide,Tryz.func265.trans (congrArg some (by kernel_rfl))⟩
 f24:=⟨Tryz.f266.name,by decide,Tryz.func266.trans (congrArg some (by kernel_rfl))⟩
 f25:=⟨Tryz.f267.name,by decide,Tryz.func267.trans (congrArg some (by kernel_rfl))⟩
 f26:=⟨Tryz.f268.name,by decide,Tryz.func268.trans (congrArg some (by kernel_rfl))⟩
 f27:=⟨Tryz.f269.name,by decide,Tryz.func269.trans (congrArg some (by kernel_rfl))⟩
 f28:=⟨Tryz.f270.name,by decide,Tryz.func270.trans (congrArg some (by kernel_rfl))⟩
 f29:=⟨Tryz.f271.name,by decide,Tryz.func271.trans (congrArg some (by kernel_rfl))⟩
 f31:=Tryz.func242.trans (congrArg some (by kernel_rfl))
 f32:=Tryz.func243.trans (congrArg some (by kernel_rfl))
 f36:=⟨Tryz.f290.name,by decide,Tryz.func290.trans (congrArg some (by kernel_rfl))⟩
 f37:=⟨Tryz.f291.name,by decide,Tryz.func291.trans (congrArg some (by kernel_rfl))⟩
 f38:=⟨Tryz.f292.name,by decide,Tryz.func292.trans (congrArg some (by kernel_rfl))⟩
 f39:=⟨Tryz.f148.name,by decide,Tryz.func148.trans (congrArg some (by kernel_rfl))⟩
 f41:=⟨Tryz.f301.name,by decide,Tryz.func301.trans (congrArg some (by kernel_rfl))⟩
 t0:=Tryz.underlying0
 a0:=Tryz.isAgg0
 z0:=Tryz.sizeOf0
 v0:=Tryz.zeroValue0
 t3:=Tryz.underlying3
 a3:=Tryz.isAgg3
 z3:=Tryz.sizeOf3
 v3:=Tryz.zeroValue3
 t4:=Tryz.underlying4
 a4:=Tryz.isAgg4
 z4:=Tryz.sizeOf4
 v4:=Tryz.zeroValue4
 t5:=Tryz.underlying5
 a5:=Tryz.isAgg5
 z5:=Tryz.sizeOf5
 v5:=Tryz.zeroValue5
 t9:=Tryz.underlying9
 a9:=Tryz.isAgg9
 z9:=Tryz.sizeOf9
 v9:=Tryz.zeroValue9
 t26:=Tryz.underlying177
 a26:=Tryz.isAgg177
 z26:=Tryz.sizeOf177
 v26:=Tryz.zeroValue177
 t27:=Tryz.underlying177
 a27:=Tryz.isAgg177
 z27:=Tryz.sizeOf177
 v27:=Tryz.zeroValue177
 t29:=Tryz.underlying9
 a29:=Tryz.isAgg9
 z29:=Tryz.sizeOf9
 v29:=Tryz.zeroValue9
 t32:=Tryz.underlying189
 a32:=Tryz.isAgg189
 z32:=Tryz.sizeOf189
 v32:=Tryz.zeroValue189
 t35:=Tryz.underlying232
 a35:=Tryz.isAgg232
 z35:=Tryz.sizeOf232
 v35:=Tryz.zeroValue232
 t36:=Tryz.underlying233
 a36:=Tryz.isAgg233
 z36:=Tryz.sizeOf233
 v36:=Tryz.zeroValue233
 t41:=Tryz.underlying237
 a41:=Tryz.isAgg237
 z41:=Tryz.sizeOf237
 v41:=Tryz.zeroValue237
 t44:=Tryz.underlying54
 a44:=Tryz.isAgg54
 z44:=Tryz.sizeOf54
 v44:=Tryz.zeroValue54
 t46:=Tryz.underlying210
 a46:=Tryz.isAgg210
 z46:=Tryz.sizeOf210
 v46:=Tryz.zeroValue210
 t53:=Tryz.underlying272
 a53:=Tryz.isAgg272
 z53:=Tryz.sizeOf272
 v53:=Tryz.zeroValue272
 t57:=Tryz.underlying276
 a57:=Tryz.isAgg276
 z57:=Tryz.sizeOf276
 v57:=Tryz.zeroValue276
 t63:=Tryz.underlying297
 a63:=Tryz.isAgg297
 z63:=Tryz.sizeOf297
 v63:=Tryz.zeroValue297
 t64:=Tryz.underlying73
 a64:=Tryz.isAgg73
 z64:=Tryz.sizeOf73
 v64:=Tryz.zeroValue73 }
theorem zd (m:Nat):AnyZ.SortsIn Tryz.prog Tryz.sortedZ_ren Fence.wide m:=
 ⟨λblk off cap ss W hH hblk hsz=>callsIn_wide.2 (AnyM.slices_Sort_string gH blk off cap ss W hH hblk hsz),
  λp cap W=>callsIn_wide.2 (AnyM.slices_Sort_string_none gH p cap W)⟩
theorem zc {H:Type}(Bm b nn:Nat)(D0:DataW H){R:Value->Option (DataW H×List MemPlace)}(w:World)(hBm:Bm<w.heap.size)
  (hm:w.cell? ⟨Bm,0,none⟩=some (.map (some b))) (hown:w.ownsMap Tryz.prog 9 R b nn D0) (hN:Maps.size D0<=10000):
  Calls Tryz.prog 136 #[.func (.func 180) #[] #[.pointer (some ⟨Bm,0,none⟩)]] w λe w'=>∃(v:Value) (ss:List (List UInt8)),e=.returned v/\ss.Perm (strKeys D0) /\
   w'.ownsRow w.heap.size 9 1 v ss.length ((ss.mergeSort (λx y=>decide (x<=y))).map encStr)/\Below w.heap.size w w':=
 (callsIn_wide.1 (AnyZ.sorted_in zb Fence.wide 6 trivial trivial trivial trivial rfl (by omega) (zd _) (enters_of Tryz.func179 (by kernel_rfl) rfl) 180 _ trivial (enters_of Tryz.func180 (by kernel_rfl) rfl) _ _ (Nat.le_trans hN (by decide)) (by omega) w
  (AnyZ.keys_gives z7 Fence.wide _ trivial rfl (by omega) Bm b nn D0 w hBm hm hown))).mono λe w' ⟨v,ss,h1,h2,h3,_,h5⟩=>⟨v,ss,h1,h2,h3,h5⟩
end Go.Proofs
namespace Go.Ide
open Go.Proofs Go.RowKit Go.Sort
set_option maxRecDepth 20000
def O9 (ks:List (List UInt8)):List (List UInt8):=ks.mergeSort λx y=>decide (x<=y)
theorem ZO (k:List UInt8)(hb:k.length<=maxLen):keyOf Tryz.prog 9 (encStr k)=some (.string k):=by
 simp[keyOf,mapKey,hb,ByteArray.size,encStr]
theorem iO {H:Type}{R:Value->Option (DataW H×List MemPlace)}{z:DataW H}(hR:∀v,R v=some (z,[]))(es:List MapEntry)(ks:List (List UInt8))(hk:es.map (·.key)=ks.map encStr)(hb:∀k∈ks,k.length<=maxLen):
  (strKeys (DataW.map ((es.map (WideElems.rg Tryz.prog 9 R)).foldr DataW.insert []))).Perm ks:=by
 show(((es.map (WideElems.rg Tryz.prog 9 R)).foldr DataW.insert []).map λp=>strOf p.1).Perm ks;refine((WideShapes.sorted_perm _).map _).trans ?_;rw[List.map_map]
 have:es.map ((λp:Lit×DataW H=>strOf p.1) ∘ WideElems.rg Tryz.prog 9 R)=ks:=by
  induction es generalizing ks with
  |nil=>
   cases ks with
   |nil=>rfl
   |cons a l=>simp at hk
  |cons e es ih=>
   cases ks with
   |nil=>simp at hk
   |cons k ks=>
    simp only[Cu,FB]at hk;rw[Cu,ih ks hk.2 λk h=>hb k (CK _ h)]
    congr 1
    have h1:=ZO k (hb k CG);rw[<-hk.1]at h1;show strOf ((WideElems.rd Tryz.prog 9 R e).getD _).1=k;unfold WideElems.rd;rw[h1,hR];rfl
 rw[this]
theorem Fo (l:DB)(ks:List (List UInt8))(hks:l.map (·.1)=ks.map sb)(hl:l.length<=10000)(hb:∀k∈ks,k.length<=1000)(hnd:ks.Nodup)(kb g T:Nat)(H:Hp)(n:Nat):
  Cd C0 136 [.clo (.func 180) [] [.optr kb g 1 0 0]] (⟨kb,g,T,1,[mapD l]⟩::H) n
   (λd H' n'=>d=.sl false 1 ((O9 ks).map λx=>str (sb x))/\H'=⟨kb,g,T,1,[mapD l]⟩::H/\n'=n+1):=by
 refine⟨by obtain⟨fn,a1,a2,a3,-⟩:=am;exact⟨fn,_,a1,a2,a3⟩,λF ρ w vs m fr gn hsz rep=>?_⟩;obtain⟨v0,rfl⟩:∃v0,vs = #[v0]:=by
  match vs,hsz with
  |⟨[a]⟩,_=>exact⟨a,rfl⟩
 have r0:AV ρ _ w (.clo _ [] [.optr kb g 1 0 0]) v0:=rep 0 _ rfl;cases r0 with
 |clo hf1 hc1 _ h2=>
  rename_i fs cs1 _;simp at hf1 hc1;subst hf1;obtain⟨c,rfl⟩:∃c,cs1 = #[c]:=by
   match cs1,hc1 with
   |⟨[a]⟩,_=>exact⟨a,rfl⟩
  have r1:AV ρ _ w (.optr kb g 1 0 0) c:=h2 0 _ rfl;cases r1 with
  |optr hr=>
   rename_i b;have hent:∃cs,w.heap[b]?=some (.cells cs T (0,0))/\DF ρ (AN F.X ρ (⟨kb,g,T,1,[mapD l]⟩::H)) w ⟨kb,g,T,1,[mapD l]⟩ cs:=by
    rcases m.hok.ent _ CG with⟨h,h2⟩|⟨b2,cs2,a1,a2,a3⟩
    ·exact Ad (hr.symm.trans h2) (by simp)
    ·cases hr.symm.trans a1;exact⟨cs2,a2,a3⟩
   obtain⟨cs,hcb,hok⟩:=hent;have hlt:b<w.heap.size:=m.lt CG hr;have hr0:=hok.rep 0 (mapD l) 0 (mapD l) rfl rfl;have h9:1<=cs.size:=by simpa using hok.len
   have hcs:0<cs.size:=h9;rw[A7,Bn (by simpa using hcs)]at hr0;simp only[Gz,DW,Id]at hr0;obtain⟨v,hv⟩:∃v,cs[0]=v:=⟨_,rfl⟩
   rw[hv]at hr0;unfold mapD at hr0;cases hr0 with
   |mp hO hrl hb3 h1 h2 hBo hk hvv=>
    rename_i r clock es;rw[Ac]at h1;have hkey:es.toList.map (·.key)=ks.map encStr:=by
     apply Pb;intro i;rw[A8,A8];have hli:=congrArg (λq=>q[i]?) hks;simp only[A8]at hli;rcases BH i l.length with hi|hi
     ·have hd:=hk i (.prim (.string l[i].1)) (by rw[A8,A9 hi];rfl)
      rw[A9 hi]at hli;obtain⟨kk,hkk,hkk2⟩:=Option.map_eq_some_iff.1 hli.symm;have hi2:i<es.size:=by omega
      rw[A7,Bn hi2]at hd;rw[hkk,JB,Bn hi2];simp only[JE,BM,Id]at hd⊢;generalize es[i].key=kv at hd;cases hd;have h8:sb kk=l[i].1:=hkk2;rw[<-h8]
     ·have h5:ks.length=l.length:=by have:=congrArg List.length hks;simpa using this.symm
      rw[Dj (by simp;omega),Dj (by omega)];rfl
    have hkn:(es.toList.map (·.key)).Nodup:=by
     rw[hkey];exact List.pairwise_map.2 (hnd.imp λh q=>h (encStr_inj q))
    have hbm:∀k∈ks,k.length<=maxLen:=λk h=>BX (hb k h) (by decide)
    let R:Value->Option (DataW Unit×List MemPlace):=λ_=>some (.nil,[])
    have hown:w.ownsMap Tryz.prog 9 R r es.size (.map ((es.toList.map (WideElems.rg Tryz.prog 9 R)).foldr DataW.insert [])):=by
     refine⟨es,clock,hb3,⟨BX (by omega:es.size<=10000) (by decide),⟨λx hx=>?_,hBo.nodup,hkn⟩,λx hx=>?_⟩,Af _,rfl⟩
     ·obtain⟨j,hj⟩:=List.mem_iff_getElem?.1 hx
      exact hBo.1 j x (by simpa using hj)
     ·have:x.key∈es.toList.map (·.key):=List.mem_map_of_mem hx
      rw[hkey]at this;obtain⟨k,hk1,hk2⟩:=List.mem_map.1 this;have h1:=ZO k (hbm k hk1);rw[hk2]at h1;exact⟨_,by unfold WideElems.rd;rw[h1];rfl⟩
    have hsk:=iO (H:=Unit) (R:=R) (z:=.nil) (λ_=>rfl) es.toList ks hkey hbm;have hcell:w.cell? ⟨b,0,none⟩=some (.map (some r)):=by
     unfold World.cell?;simp only[hcb];rw[Bn hcs,hv];rfl
    have hsize:Maps.size (DataW.map ((es.toList.map (WideElems.rg Tryz.prog 9 R)).foldr DataW.insert []))<=10000:=by
     rw[Maps.size_eq,(WideShapes.sorted_perm _).length_eq,Ac,H4];omega
    refine(zc b r es.size _ w hlt hcell hown hsize).mono ?_;rintro e w' ⟨v,ss,rfl,hp,hrow,hbw⟩;have hss:ss.mergeSort (λx y=>decide (x<=y))=O9 ks:=mergeSort_of_perm (hp.trans hsk);rw[hss]at hrow;have x:BW ρ (AN F.X ρ (⟨kb,g,T,1,[mapD l]⟩::H)) w ρ (AN F.X ρ (⟨kb,g,T,1,[mapD l]⟩::H)) w':=⟨hbw.size,λ_ _ _ h=>h,λb hb' hO=>⟨hO,hbw.block b hb'⟩,λb cs T fz hh=>⟨cs,_,by
     rw[hbw.block b (Array.getElem?_eq_some_iff.1 hh).1];exact hh,rfl⟩⟩
    refine⟨v,_,_,n+1,ρ,rfl,⟨rfl,rfl,rfl⟩,m.same x hbw.os hbw.tape hbw.output hbw.block,x,λa b h=>fr a b (by omega),λe he=>DJ (gn e he),?_⟩;obtain⟨K,hK⟩:∃K,O9 ks=K:=⟨_,rfl⟩
    rw[hK]at hrow⊢;obtain⟨hlen,⟨rfl,hz⟩|⟨gb,cap,cur,rfl,hbase,hgb,q1,q2,q3,q4⟩⟩:=hrow
    ·rw[hz,Ac]at hlen
     have:K=[]:=List.length_eq_zero_iff.1 (by omega)
     rw[this];exact .nil 1
    ·rw[Ac,EF]at hlen
     rw[EF]at q3 q4;have hat:∀j x,K[j]?=some x->cur[j]?=some (Value.string (sb x)):=λj x hx=>by
      have hj:j<K.length:=(List.getElem?_eq_some_iff.1 hx).1
      have:=congrArg (λq=>q[j]?) q4
      simp only[El,A8,hx,JE]at this;rw[AG (by omega)]at this;simpa using this
     have hall:∀j,j<ss.length*1->∃x,cur[j]?=some (Value.string (sb x)):=λj hj=>by
      have:j<K.length:=by omega
      exact⟨_,hat j _ (A9 this)⟩
     refine .sl (λj=>cur.getD j undef) (by rw[Ac,hlen]) q1 ?_ (Array.getElem?_eq_some_iff.1 hgb).1 ?_ ?_ ?_ ?_
     ·rintro(h|⟨e,he,h⟩)
      ·have:=m.xlt _ h;have:=m.size;omega
      ·have:=m.lt he h;omega
     ·intro i e h
      rw[A8]at h;obtain⟨x,-,rfl⟩:=Option.map_eq_some_iff.1 h;rfl
     ·intro j hj
      obtain⟨x,hx⟩:=hall j hj;unfold World.cell?;simp only[hgb,BV];rw[hx,A7,hx];rfl
     ·intro j hj
      obtain⟨x,hx⟩:=hall j hj;rw[A7,hx];rfl
     ·intro i e j d h h2
      rw[A8]at h;obtain⟨x,hx,rfl⟩:=Option.map_eq_some_iff.1 h
      have:j=0:=by
       have:=(List.getElem?_eq_some_iff.1 h2).1
       exact Nat.lt_one_iff.1 this
      subst this;cases h2;show AV _ _ _ _ (cur.getD (i*1+0) undef);rw[EF,DW,A7,hat i x hx];exact .prim _
end Go.Ide
namespace Go.Ide
open Go.Proofs Go.RowKit Go.Sort
set_option maxRecDepth 20000
set_option maxHeartbeats 4000000
def qv (q:B0)(j:Nat):List UInt8×Rat:=q.getD j ([],0)
theorem VF {q:B0}{j:Nat}{p:List UInt8×Rat}(h:q[j]?=some p):qv q j=p:=by unfold qv;rw[DR,h];rfl
theorem MQ.len {B:Nat}:∀ {q:B0} {m:DB},MQ B q m->q.length=m.length
 | [],[],_=>rfl
 |_::_,_::_,⟨_,h⟩=>by simp[MQ.len h]
theorem MQ.at_ {B:Nat}:∀ {q:B0} {m:DB} (j:Nat) {e:ByteArray×D},MQ B q m->m[j]?=some e->∃(p:List UInt8×Rat) (y:GF),q[j]?=some p/\e=(sb p.1,y.D)/\FR p.2 y B
 | [],[],j,e,_,h=>by simp at h
 |p::q,e'::m,0,e,⟨⟨h1,y,h2,h3⟩,_⟩,h=>by
  simp at h;subst h;exact⟨p,y,rfl,by rw[<-h1,<-h2],h3⟩
 |_::q,_::m,j+1,e,⟨_,h4⟩,h=>by
  obtain⟨p,y,a,b,c⟩:=MQ.at_ j h4 (by simpa using h);exact⟨p,y,by simpa using a,b,c⟩
theorem TF:∀(n:Nat) (l:List Nat),l.Nodup->(∀i∈l,i<n)->l.length<=n
 | 0,[],_,_=>Af _
 | 0,a::l,_,h=>Ad (h a (by simp)) (HR a)
 |n+1,l,hd,h=>by
  by_cases hn:n∈l
  ·have h1:=TF n (l.erase n) (hd.erase n) λi hi=>by
    have h2:=h i (List.mem_of_mem_erase hi);have h3:i≠n:=(hd.mem_erase_iff.1 hi).1;omega
   rw[List.length_erase_of_mem hn]at h1;omega
  ·have h1:=TF n l hd λi hi=>by
    have h2:=h i hi;have h3:i≠n:=λe=>hn (e ▸ hi)
    omega
   omega
def FQ (q:B0):B0:=q.mergeSort λa b=>!ltStr b.1 a.1
theorem J7 (q:B0):(FQ q).Perm q:=List.mergeSort_perm _ _
theorem Qw (q:B0):(FQ q).Pairwise λa b=>ltStr b.1 a.1=false:=by
 have:=List.pairwise_mergeSort (le:=λa b:List UInt8×Rat=>!ltStr b.1 a.1) (λa b c h1 h2=>by simp only[Bj]at*;exact swo_ltStr.ntrans _ _ _ h2 h1) (λa b=>by
  cases h1:ltStr b.1 a.1 with
  |false=>rfl
  |true=>
   cases h2:ltStr a.1 b.1 with
   |false=>rfl
   |true=>have:=swo_ltStr.trans _ _ _ h1 h2;rw[swo_ltStr.irrefl]at this;cases this) q
 exact this.imp λh=>by simpa using h
theorem xA {q:B0}(hn:(q.map (·.1)).Nodup){a b:List UInt8×Rat}(ha:a∈q)(hb:b∈q)(h:a.1=b.1):a=b:=by
 obtain⟨i,hi,rfl⟩:=List.mem_iff_getElem.1 ha;obtain⟨j,hj,rfl⟩:=List.mem_iff_getElem.1 hb
 have:i=j:=(List.getElem_inj (h₀:=by simpa using hi) (h₁:=by simpa using hj) hn).1 (by simpa using h)
 subst this;rfl
theorem W2 {a b:List UInt8}(h1:ltStr a b=false)(h2:ltStr b a=false):a=b:=by
 simp only[ltStr,If,List.not_lt]at h1 h2;exact List.le_antisymm h2 h1
theorem Sw {q l l':B0}(hn:(q.map (·.1)).Nodup)(hp:l.Perm q)(hp':l'.Perm q)(hs:l.Pairwise λa b=>ltStr b.1 a.1=false)(hs':l'.Pairwise λa b=>ltStr b.1 a.1=false):l=l':=
 List.Perm.eq_of_pairwise (le:=λa b:List UInt8×Rat=>ltStr b.1 a.1=false) (λ_ _ ha hb h1 h2=>xA hn (hp.mem_iff.1 ha) (hp'.mem_iff.1 hb) (W2 h2 h1)) hs hs' (hp.trans hp'.symm)
theorem vO (q:B0)(dn:List Nat)(hd:dn.Nodup)(h1:∀i∈dn,i<q.length)(h2:∀i,i<q.length->i∈dn):(dn.map (qv q)).Perm q:=by
 have hp:dn.Perm (List.range q.length):=(List.perm_ext_iff_of_nodup hd List.nodup_range).2 λa=>by
  rw[List.mem_range];exact⟨h1 a,h2 a⟩
 have he:(List.range q.length).map (qv q)=q:=by
  apply List.ext_getElem (by simp);intro i h3 h4;rw[List.getElem_map,List.getElem_range];exact VF (A9 h4)
 have:=hp.map (qv q)
 rwa [he]at this
def JZ (q:B0):B0:=if q.any (λp=>Du p.2)then[]else FQ q
def IQ (q:B0):Nat:=if q.any (λp=>Du p.2)then 4 else 0
def JY (q:B0):D:=.tup [.sl false 2 ((JZ q).map Co),i64 (IQ q:Nat)]
instance d5I (q:B0):AA (JY q):=by unfold JY;exact AI
theorem YC (B:Nat)(hB9:B<100000)(q:B0)(m:DB)(hm:MQ B q m)(hl:q.length<=10000)(hnd:(q.map (·.1)).Nodup):AK C0 69 [mapD m] (JY q):=by
 refine Ak.walk w1 eA rfl λF0=>?_
 obtain⟨ks,hks⟩:∃ks:List D,m.map (λp=>(.prim (.string p.1):D))=ks:=⟨_,rfl⟩
 obtain⟨vs,hvs⟩:∃vs:List D,m.map (·.2)=vs:=⟨_,rfl⟩
 have hml:=hm.len;have hkl:ks.length=m.length:=by rw[<-hks,Ac]
 unfold mapD;rw[hks,hvs];refine sZ 0 ?_;refine AE kB ?_;refine sZ 100 ?_;refine AE kB ?_;refine AC.seq ?_;refine AC.seq ?_;refine Hz (by kernel_rfl) ?_;change Bf _ _ _ _ _ ([0]++(1::[])) _ _;refine FS w1 200 [0] _ ?_;refine AE kB ?_;refine zC 201 (OB (w1.xt 112 _ rfl)).1 rfl rfl rfl rfl (Vi F0) (λF1 o1 hto hO hI=>Bf.nil ?_);refine At ?_;refine AC.block ?_;refine GY (α:=List Nat×Obj×Nat×Nat) (λp=>⟨[(8,.optr 201 4 0 0 0),(4,Dy 706 p.2.2.1 2 (p.1.map λj=>Co (qv q j)))],Dt 706 p.2.2.1 88 2 (p.1.map λj=>Co (qv q j)),p.2.2.2⟩) (λp=>q.length-p.1.length)
  (λp F=>C9 C0 F0 F [⟨201,4,p.2.1⟩]/\M9 F p.2.1 ks vs p.1/\∀j∈p.1,Du (qv q j).2=false) ([],o1,0,_) ⟨hO,hI,by simp⟩ AJ ?_
 clear hO hI hto;rintro⟨dn,o,g7,n1⟩ F ⟨hO,hI,hB⟩;dsimp only at hO hI hB⊢;refine AC.seq ?_;refine Hz (by kernel_rfl) ?_;change Bf _ _ _ _ _ [0,1] _ _;refine zB rfl rfl rfl rfl hO hI (λhall=>?_) (λj kd vd F2 o2 hjn hkd hvd hto hO2 hI2=>?_)
 ·change Bf _ _ _ _ _ ([1]++[]) _ _
  refine FS w1 300 [1] [] ?_;refine AE kB ?_;refine Bf.nil ?_;refine At ?_;refine AC.seq ?_;refine AM ?_;refine B9 ?_;have hq2:∀j,j<q.length->j∈dn:=λj hj=>hall j (by rw[hkl,<-hml];exact hj)
  have hdn:dn.Nodup/\∀i∈dn,i<q.length:=by
   obtain⟨bm,es,clock,since,c0,seen,-,-,-,z4,-,-,-,-,-,-,-,-,z8,z9⟩:=hI;exact⟨z8,λi hi=>by have:=z9 i hi;omega⟩
  have hpm:=vO q dn hdn.1 hdn.2 hq2;have hpl:(dn.map (qv q)).length=q.length:=hpm.length_eq;have hbf:q.any (λp=>Du p.2)=false:=by
   rw[List.any_eq_false];intro p hp;obtain⟨i,hpi⟩:=List.mem_iff_getElem?.1 hp;have hi:=(List.getElem?_eq_some_iff.1 hpi).1
   have:=hB i (hq2 i hi)
   rw[VF hpi]at this;rw[this];exact Bool.false_ne_true
  have hmm:(dn.map λj=>Co (qv q j))=(dn.map (qv q)).map Co:=by rw[List.map_map];rfl
  rw[hmm];generalize hLL:dn.map (qv q)=LL at hpm hpl⊢;have hrs:JY q=.tup [.sl false 2 ((FQ q).map Co),i64 0]:=by unfold JY JZ IQ;rw[hbf];rfl
  clear hmm hI hO hB hall hq2 hdn;rcases LL with _|⟨z,LL⟩
  ·have hqn:q=[]:=List.length_eq_zero_iff.1 (by rw[<-hpl];rfl)
   subst hqn;rw[show Dy 706 g7 2 (List.map Co [])=CT from rfl,show Dt 706 g7 88 2 (List.map Co [])=[]from rfl];have cS:=kr;refine AH AZ kB cS AB AB AB AB AB ?_;exact⟨_,GJ (.nil 2) (.refl _),AA.out,by rw[hrs,show FQ []=[]from List.mergeSort_nil];rfl⟩
  ·have cS:=λkb gg H n=>iN (z::LL) (by simp) (by rw[hpl];omega) kb gg H n
   rw[Bo]at cS;rw[show Dy 706 g7 2 (List.map Co (z::LL))=.osl 706 g7 2 0 ((LL.map Co).length+1)from rfl,show Dt 706 g7 88 2 (List.map Co (z::LL))=[⟨706,g7,88,2,(z::LL).map Co⟩]from rfl,Ac];refine AH AZ kB cS AB AB AB AB AB ?_;refine BE.own _ (cS 706 g7 [] _) ?_;rintro d H' n' ⟨rfl,rfl,l',hp',hs',rfl⟩;have hpq:l'.Perm q:=hp'.trans hpm;have hl':=Sw hnd hpq (J7 q) hs' (Qw q);have hl0:l'≠[]:=λq=>by rw[q]at hp';have:=hp'.length_eq;simp at this
   have hll:LL.length+1=l'.length:=by rw[hp'.length_eq];rfl
   rw[hll];rw[<-hl']at hrs;clear hl' cS hp' hs' hpm hll;refine AH AZ kB AB AB AB AB AB AB ?_;rw[hrs];refine⟨_,GJ (?_:Fz _ [] _ (.sl false 2 (l'.map Co))) (.refl _),AA.out,rfl⟩;rcases l' with _|⟨z',t'⟩
   ·exact Ad rfl hl0
   ·have:=RY 706 g7 88 2 ((z'::t').map Co)
    rw[show Dy 706 g7 2 ((z'::t').map Co)=.osl 706 g7 2 0 ((t'.map Co).length+1)from rfl,show Dt 706 g7 88 2 ((z'::t').map Co)=[⟨706,g7,88,2,(z'::t').map Co⟩]from rfl,Ac]at this;exact this
 change Bf _ _ _ _ _ ([1]++[]) _ _;refine FS w1 300 [1] [] ?_;refine AE kB ?_;refine Bf.nil ?_;refine At ?_;refine AC.seq ?_;refine AM ?_;refine An ?_;obtain⟨p,hp⟩:∃p,m[j]?=some p:=by
  rw[<-hks,A8]at hkd;obtain⟨p,hp,-⟩:=Option.map_eq_some_iff.1 hkd;exact⟨p,hp⟩
 obtain⟨pq,y,hq,rfl,hy⟩:=hm.at_ j hp;have hkd2:kd=str (sb pq.1):=by
  rw[<-hks,A8,hp]at hkd;exact(F7 hkd).symm
 have hvd2:vd=y.D:=by
  rw[<-hvs,A8,hp]at hvd;exact(F7 hvd).symm
 subst hkd2 hvd2;have hqv:=VF hq;refine AC.block ?_;refine AC.seq ?_;refine Hz (by kernel_rfl) ?_;change Bf _ _ _ _ _ (0::([1,2,3,4,5]++[])) _ _;refine zY (xo:=⟨201,4,o2⟩) rfl rfl rfl rfl hO2 CG hI2 hkd hvd ?_;refine FS w1 400 [1,2,3,4,5] [] ?_;refine AE kB ?_;refine Bf.nil ?_;have cL:=ZP hy (by omega);have cT:=cZ hy (by omega);obtain⟨bg,hbg⟩:∃b,Du pq.2=b:=⟨_,rfl⟩
 rw[hbg]at cL;refine At ?_;have hdl:dn.length+1<=q.length:=by
  have h1:∀i∈dn++[j],i<q.length:=by
   obtain⟨bm,es,clock,since,c0,seen,-,-,-,z4,-,-,-,-,-,-,-,-,-,z9⟩:=hI2;intro i hi
   have:=z9 i hi
   omega
  have h2:(dn++[j]).Nodup:=by
   obtain⟨bm,es,clock,since,c0,seen,-,-,-,-,-,-,-,-,-,-,-,-,z8,-⟩:=hI2;exact z8
  have:=TF _ _ h2 h1
  simpa using this
 have hsn:(dn++[j]).map (λj=>Co (qv q j))=dn.map (λj=>Co (qv q j))++[.agg [str (sb pq.1),str (sb (BO pq.2))]]:=by rw[Cq,Cu,List.map_nil,hqv];rfl
 have hTl:(dn.map λj=>Co (qv q j)).length=dn.length:=Ac ..;obtain⟨TL,hTL⟩:∃TL,dn.map (λj=>Co (qv q j))=TL:=⟨_,rfl⟩
 rw[hTL]at hsn hTl⊢;cases bg
 rotate_left
 ·have hrb:(D.tup [.sl false 2 [],i64 4])=JY q:=by
   have:q.any (λp=>Du p.2)=true:=by
    rw[List.any_eq_true];exact⟨pq,Aw hq,hbg⟩
   unfold JY JZ IQ;rw[this];rfl
  rcases TL with _|⟨z,TL⟩
  ·dsimp only[Io,Ip]
   refine AH AZ kB cL AB AB AB AB AB ?_;exact⟨_,GJ (.nil 2) (.refl _),AA.out,hrb⟩
  ·dsimp only[Hb,Hc]
   refine AH AZ kB cL AB AB AB AB AB ?_;exact⟨_,GJ (.nil 2) (.refl _),AA.out,hrb⟩
 have hB2:∀i∈dn++[j],Du (qv q i).2=false:=λi hi=>by
  rcases List.mem_append.1 hi with hi|hi
  ·exact hB i hi
  ·rw[List.mem_singleton]at hi;rw[hi,hqv];exact hbg
 rcases TL with _|⟨z,TL⟩
 ·dsimp only[Io,Ip]
  refine AH AZ kB cL cT AB AB AB AB ?_;exact⟨(dn++[j],o2,_,_),⟨hO2,hI2,hB2⟩,by dsimp only;rw[Bc,Ek];omega,by(dsimp only;rw[hsn];exact AJ)⟩
 ·dsimp only[Hb,Hc]
  have htk:List.take (TL.length+1) (z::TL)=z::TL:=by simp
  rw[Bo]at hTl;refine AH AZ htk cL cT AB AB AB AB ?_;exact⟨(dn++[j],o2,_,_),⟨hO2,hI2,hB2⟩,by dsimp only;rw[Bc,Ek];omega,by(dsimp only;rw[hsn,OE];exact AJ)⟩
abbrev Cs (q:B0):List (List UInt8):=q.map (·.1)
theorem XR (lot:List UInt8)(r:Rat):∀q:B0,Cs (GT lot r q)=if lot∈Cs q then Cs q else Cs q++[lot]
 | []=>by simp[GT,Cs]
 |p::l=>by
  unfold GT
  by_cases h:lot=p.1
  ·rw[AG h]
   subst h;simp[Cs]
  ·rw[AF h]
   show p.1::Cs (GT lot r l)=if lot∈p.1::Cs l then p.1::Cs l else p.1::Cs l++[lot]
   rw[XR lot r l]
   by_cases h2:lot∈Cs l
   ·rw[AG h2,AG (CK _ h2)]
   ·rw[AF h2,AF (by
     intro q;rcases BG.1 q with q|q
     ·exact h q
     ·exact h2 q)];rfl
structure HB (P:List UInt8->Prop)(n:Nat)(q:B0):Prop where
 nd:(Cs q).Nodup
 all:∀k∈Cs q,P k
 len:q.length<=n
theorem HB.set {P:List UInt8->Prop}{n:Nat}{q:B0}(h:HB P n q){lot:List UInt8}(hl:P lot)(r:Rat):HB P (n+1) (GT lot r q):=by
 have hk:=XR lot r q;have hlen:(GT lot r q).length=(Cs (GT lot r q)).length:=by simp[Cs]
 have hlen2:q.length=(Cs q).length:=by simp[Cs]
 by_cases hm:lot∈Cs q
 ·rw[AG hm]at hk
  exact⟨by rw[hk];exact h.nd,by rw[hk];exact h.all,by rw[hlen,hk,<-hlen2];have:=h.len;omega⟩
 ·rw[AF hm]at hk
  refine⟨?_,?_,?_⟩
  ·rw[hk,Em]
   exact⟨h.nd,by simp,λa ha b hb=>by
    rw[List.mem_singleton]at hb;subst hb;exact λe=>hm (e ▸ ha)⟩
  ·rw[hk]
   intro k hk;rcases List.mem_append.1 hk with q|q
   ·exact h.all k q
   ·rw[List.mem_singleton]at q;rw[q];exact hl
  ·rw[hlen,hk,Bc,<-hlen2]
   have:=h.len
   simp;omega
theorem HB.mono {P:List UInt8->Prop}{n n':Nat}{q:B0}(h:HB P n q)(hn:n<=n'):HB P n' q:=⟨h.nd,h.all,BX h.len hn⟩
theorem W0 {P:List UInt8->Prop}{n:Nat}{q:B0}(x:AD)(h:HB P n q)(hp:∀s∈x.shs,P s.lot):∀j,j<=x.shs.length->HB P (n+j) (GM x j q)
 | 0,_=>h
 |j+1,hj=>by
  obtain⟨s,hs⟩:∃s,x.shs[j]?=some s:=⟨_,A9 hj⟩
  rw[Nx x j q hs];exact(W0 x h hp j (by omega)).set (hp s (Aw hs)) _
theorem WM {P:List UInt8->Prop}(l:List AD)(hp:∀x∈l,x.shs.length<=64/\∀s∈x.shs,P s.lot):∀i,i<=l.length->HB P (64*i) (CJ (l.take i))
 | 0,_=>⟨by simp[CJ,Cs],by simp[CJ,Cs],by simp[CJ]⟩
 |i+1,hi=>by
  obtain⟨x,hx⟩:∃x,l[i]?=some x:=⟨_,A9 hi⟩
  rw[QC l i hx];have h1:=hp x (Aw hx);exact(W0 x (WM l hp i (by omega)) h1.2 _ (Af _)).mono (by omega)
theorem S3 {P:List UInt8->Prop}{l:List AD}(hp:∀x∈l,x.shs.length<=64/\∀s∈x.shs,P s.lot):HB P (64*l.length) (CJ l):=by
 have:=WM l hp l.length (Af _)
 rwa [Cf]at this
theorem MQ.keys {B:Nat}:∀ {q:B0} {m:DB},MQ B q m->m.map (·.1)=(Cs q).map sb
 | [],[],_=>rfl
 |p::q,e::m,⟨⟨h1,_⟩,h4⟩=>by
  simp only[Cu,Cs];rw[h1]
  congr 1
  exact MQ.keys h4
theorem Wz (s:ByteArray):∀m:DB,Hq s (m.map λp=>.prim (.string p.1)) (m.map (·.2))=some (H6 s m)
 | []=>rfl
 |p::l=>by
  simp only[Cu,Hq,H6];cases BK s p.1 with
  |true=>rfl
  |false=>exact Wz s l
theorem TE:∀ {q:B0} {p:List UInt8×Rat},(Cs q).Nodup->p∈q->Fu p.1 q=some p.2
 |a::q,p,hn,hp=>by
  unfold Fu;have hn:(a.1::Cs q).Nodup:=hn;rw[List.nodup_cons]at hn;rcases BG.1 hp with rfl|hp
  ·rw[AG rfl]
  ·rw[AF λe=>hn.1 (by rw[<-e];exact List.mem_map_of_mem hp)]
   exact TE hn.2 hp
theorem iz (q:B0):O9 (Cs q)=(FQ q).map (·.1):=by
 unfold O9;refine List.Perm.eq_of_pairwise (le:=λx y:List UInt8=>x<=y) (λ_ _ _ _ h1 h2=>List.le_antisymm h1 h2) ?_ ?_ ?_
 ·have:=List.pairwise_mergeSort (le:=λx y:List UInt8=>decide (x<=y)) (λa b c h1 h2=>by simp only[Gc]at*;exact List.le_trans h1 h2) (λa b=>by
   rcases List.le_total a b with h|h<;>simp[h]) (Cs q)
  exact this.imp λh=>by simpa using h
 ·rw[List.pairwise_map]
  exact(Qw q).imp λh=>by simpa[ltStr]using h
 ·exact(List.mergeSort_perm _ _).trans ((J7 q).map _).symm
abbrev KF:Dr:=[(12,[0,1,2,3,4,5],[6])]
open Go.Proofs Go.RowKit
set_option maxRecDepth 20000
set_option maxHeartbeats 4000000
def CM (l:List AD):Bool:=l.all λx=>BK (sb x.grain) (sb (CI l 0).grain)
def HJ (l:List AD):Nat:=if l.length=0 then 2 else if 64<l.length then 5 else if Dm (λi=>CZ (CI l i)) l.length≠0 then Dm (λi=>CZ (CI l i)) l.length else if CM l=false then 16 else if Am l>999999999 then 4 else 0
def SB (l:List AD):Int:=if HJ l=0 then Am l else 0
theorem jp (b:Bool)(v:List AD)(hl:v.length<=1000000)(hf:∀x∈v,x.few):AK C0 177 [.clo (.func 107) [] [],Al b v] (i64 (Dm (λi=>CZ (CI v i)) v.length:Nat)):=by
 refine Ak.walk w1 aC rfl λF=>?_
 have el:(((v.map AD.D).length:Nat):Int)=(v.length:Int):=by rw[Ac]
 refine AH AZ el AB AB AB AB AB AB ?_;refine AC.loop (α:=Nat×Nat) (λp=>⟨[(0,.clo (.func 107) [] []),(8,Al b v),(9,i64 (v.length:Int)),(10,i64 (p.1:Int))],[],p.2⟩) (λp=>v.length-p.1)
  (λp=>p.1<=v.length/\∀j,j<p.1->CZ (CI v j)=0) (0,_) ⟨BU _,λj h=>Ad h (HR j)⟩ AJ ?_
 rintro⟨i,m⟩ F ⟨hi,hz⟩;dsimp only at hi hz⊢;rcases BH i v.length with h2|h2
 ·have e1:=Ck h2
  have wi:=Cc (i:=i) (by omega);obtain⟨x,hx⟩:=CU h2;have hm:(v.map AD.D)[i]?=some (.agg [str (sb x.grain),i64 x.mass,.sl false 2 (x.shs.map Av.D)]):=by rw[A8,hx];rfl
  have cL:=fX x (hf x (Aw hx));unfold AD.D at cL;rcases Nat.decEq (CZ x) 0 with hc0|hc0
  ·have e3:=GQ hc0
   have hE:=OU (f:=λi=>CZ (CI v i)) hz h2 (by rw[Fc hx];exact hc0);rw[Fc hx]at hE;rw[hE];refine AH AZ (As e1 e3 kN) hm cL AB AB AB AB ?_;exact AL rfl AA.out
  ·have e3:=GR hc0
   refine AH AZ (BY e1 e3 wi kN) hm cL AB AB AB AB ?_;exact⟨(i+1,_),⟨h2,λj hj=>by
    rcases Nat.lt_succ_iff_lt_or_eq.1 hj with q|q
    ·exact hz j q
    ·rw[q,Fc hx];exact hc0⟩,by dsimp only;omega,AJ⟩
 ·have e1:=Cj h2
  have:i=v.length:=by omega
  subst this;rw[LC (f:=λi=>CZ (CI v i)) hz];refine AH AZ e1 AB AB AB AB AB AB ?_;exact AL rfl AA.out
theorem oW (b:Bool)(l:List AD)(hl:l.length<=1000000)(hf:∀x∈l,x.few):AK C0 135 [Al b l] (.tup [i64 (SB l),i64 (HJ l:Nat)]):=by
 refine Ak.walk w1 al rfl λF=>?_
 have el:(((l.map AD.D).length:Nat):Int)=(l.length:Int):=by rw[Ac]
 have hC:HJ l=if l.length=0 then 2 else if 64<l.length then 5 else if Dm (λi=>CZ (CI l i)) l.length≠0 then Dm (λi=>CZ (CI l i)) l.length else if CM l=false then 16 else if Am l>999999999 then 4 else 0:=rfl
 have hM:SB l=if HJ l=0 then Am l else 0:=rfl
 have cA:=jp b l hl hf
 by_cases h0:l.length=0
 ·rw[AG h0]at hC
  rw[hC]at hM;rw[hM,hC];have q1:((l.length:Int)==0)=true:=by rw[h0];rfl
  refine AH KF (Ah el q1) AB AB AB AB AB AB ?_;exact AL rfl AA.out
 rw[AF h0]at hC;have q1:((l.length:Int)==0)=false:=by
  rw[Br];omega
 by_cases h64:64<l.length
 ·rw[AG h64]at hC
  rw[hC]at hM;rw[hM,hC];have q2:decide ((l.length:Int)>64)=true:=AX (by omega);refine AH KF (As el q1 q2) AB AB AB AB AB AB ?_;exact AL rfl AA.out
 rw[AF h64]at hC;have q2:decide ((l.length:Int)>64)=false:=Ag (by omega);obtain⟨K,hK⟩:∃K,Dm (λi=>CZ (CI l i)) l.length=K:=⟨_,rfl⟩
 rw[hK]at hC cA;rcases Nat.decEq K 0 with hc0|hc0
 ·have e3:=GQ hc0
  rw[AG hc0]at hC;rw[hC]at hM;rw[AF hc0]at hM;rw[hM,hC];refine AH KF (BY el q1 q2 e3) cA AB AB AB AB AB ?_;exact AL rfl AA.out
 have e3:=GR hc0;rw[AF (λh=>h hc0)]at hC;have hz:∀j,j<l.length->CZ (CI l j)=0:=Qc (hK.trans hc0);have hsm:=TG h64 hz;obtain⟨x0,hx0⟩:∃x,l[0]?=some x:=⟨_,A9 (by omega)⟩
 have hm0:(l.map AD.D)[0]?=some (.agg [str (sb x0.grain),i64 x0.mass,.sl false 2 (x0.shs.map Av.D)]):=by rw[A8,hx0];rfl
 have hv0:=Fc hx0;refine AH KF (BY el q1 q2 e3) cA AB AB AB AB AB ?_;refine AC.loop (α:=Nat×Nat) (λp=>⟨[(0,Al b l),(5,i64 (Am (l.take p.1))),(19,Al b l),(20,i64 (l.length:Int)),(21,i64 (p.1:Int))],[],p.2⟩) (λp=>l.length-p.1)
  (λp=>p.1<=l.length/\∀x∈l.take p.1,BK (sb x.grain) (sb x0.grain)=true) (0,_) ⟨BU _,λx h=>by simp at h⟩ AJ ?_
 rintro⟨i,m⟩ F ⟨hi,hs⟩;dsimp only at hi hs⊢;rcases BH i l.length with h2|h2
 rotate_left
 ·have e1:=Cj h2
  have:i=l.length:=by omega
  subst this;rw[Cf]at hs⊢;have hg:CM l=true:=by
   unfold CM;rw[CQ,hv0];exact hs
  rw[AF (by rw[hg];decide)]at hC
  by_cases h9:Am l>999999999
  ·have e9:decide (Am l>999999999)=true:=AX h9
   rw[AG h9]at hC;rw[hC]at hM;rw[hM,hC];refine AH KF (Ah e1 e9) AB AB AB AB AB AB ?_;exact AL rfl AA.out
  ·have e9:decide (Am l>999999999)=false:=Ag h9
   rw[AF h9]at hC;rw[hC]at hM;rw[hM,hC];refine AH KF (Ah e1 e9) AB AB AB AB AB AB ?_;exact AL rfl AA.out
 have e1:=Ck h2;have wi:=Cc (i:=i) (by omega);obtain⟨x,hx⟩:=CU h2;have hm:(l.map AD.D)[i]?=some (.agg [str (sb x.grain),i64 x.mass,.sl false 2 (x.shs.map Av.D)]):=by rw[A8,hx];rfl
 have hsum:=TW hx;have hs1:=UM (l:=l.take i) λy hy=>hsm.2 y (Fy hy)
 have hs2:=hsm.2 x (Aw hx);rw[Bd]at hs1;have ws:IntKind.i64.wrap (Am (l.take i)+x.mass)=Am (l.take i)+x.mass:=wI (by omega) (by omega);obtain⟨bG,hbG⟩:∃q,BK (sb x.grain) (sb x0.grain)=q:=⟨_,rfl⟩
 cases bG
 ·have hg:CM l=false:=by
   unfold CM;rw[List.all_eq_false];exact⟨x,Aw hx,by rw[hv0,hbG];decide⟩
  rw[AG hg]at hC;rw[hC]at hM;rw[hM,hC];refine AH KF (As e1 hbG kN) hm hm0 AB AB AB AB ?_;exact AL rfl AA.out
 ·refine AH KF (CH e1 hbG wi ws kN) hm hm0 AB AB AB AB ?_
  exact⟨(i+1,_),⟨h2,λy hy=>by
   rw[Da,hx]at hy;rcases List.mem_append.1 hy with q|q
   ·exact hs y q
   ·have:y=x:=by simpa using q
    rw[this];exact hbG⟩,by dsimp only;omega,by(dsimp only;rw[hsum];exact AJ)⟩
abbrev Eh:Dr:=[(11,[0,1,2,3,4,5,6,7],[8]),(24,[0,1,2,3,4,5,6,7,8,9,10],[11])]
open Go.Proofs Go.RowKit Go.Sort
set_option maxRecDepth 20000
set_option maxHeartbeats 4000000
def Gr (l:List AD):Nat:=if HJ l≠0 then HJ l else if 64<(CJ l).length then 5 else if(FQ (CJ l)).any (λp=>Du (p.2/(Am l:Rat)))then 4 else 0
def Ej (l:List AD):List Av:=(FQ (CJ l)).map λp=>⟨p.1,BO (p.2/(Am l:Rat))⟩
def Kv (l:List AD):AD:=if Gr l≠0 then⟨[],0,[]⟩else⟨(CI l 0).grain,Am l,Ej l⟩
def AD.lite (x:AD):Prop:=x.few/\∀s∈x.shs,s.lot.length<=1000/\s.part.length<=40
theorem XU {l:List Av}(h:Hl l=0):0<l.length/\l.length<=64/\∀s∈l,Dg s.lot=true/\CY s.part=0/\0<Gv (CR s.part):=by
 unfold Hl at h;split at h
 ·cases h
 ·split at h
  ·cases h
  ·split at h
   ·rename_i h3;exact Ad h h3
   ·rename_i h1 h2 h3
    refine⟨by omega,by omega,λs hs=>?_⟩;obtain⟨j,hj⟩:=List.mem_iff_getElem?.1 hs;have hE:=Qc (f:=FX l) (n:=l.length) (by omega) j (List.getElem?_eq_some_iff.1 hj).1;unfold FX at hE;rw[JT hj]at hE;split at hE
    ·cases hE
    ·split at hE
     ·cases hE
     ·split at hE
      ·rename_i h6;exact Ad hE h6
      ·split at hE
       ·cases hE
       ·rename_i h4 h5 h6 h7
        exact⟨by simpa using h4,by omega,by omega⟩
theorem bx {x:AD}(hl:x.lite)(h:CZ x=0):x.ok/\∀s∈x.shs,Dg s.lot=true:=by
 obtain⟨h1,h2,h3,h4⟩:=ON h;obtain⟨g1,g2,g3⟩:=XU h4;exact⟨⟨g2,by unfold Sm;omega,λs hs=>⟨BX (hl.2 s hs).1 (by omega),(hl.2 s hs).2,(g3 s hs).2.1⟩⟩,λs hs=>(g3 s hs).1⟩
theorem ZA {l:List AD}(h:HJ l=0):0<l.length/\l.length<=64/\(∀x∈l,CZ x=0)/\CM l=true/\Am l<=999999999:=by
 unfold HJ at h;split at h
 ·cases h
 ·split at h
  ·cases h
  ·split at h
   ·rename_i h3;exact Ad h h3
   ·split at h
    ·cases h
    ·split at h
     ·cases h
     ·rename_i h1 h2 h3 h4 h5
      refine⟨by omega,by omega,λx hx=>?_,by simpa using h4,by omega⟩;obtain⟨j,hj⟩:=List.mem_iff_getElem?.1 hx
      have:=Qc (f:=λi=>CZ (CI l i)) (n:=l.length) (by omega) j (List.getElem?_eq_some_iff.1 hj).1
      rwa [Fc hj]at this
theorem Yb:∀ {l:List AD},(∀x∈l,CZ x=0)->(l.length:Int)<=Am l
 | [],_=>by simp[Am]
 |x::l,h=>by
  have h1:=(ON (h x CG)).2.1;have h2:=Yb (l:=l) λy hy=>h y (CK _ hy)
  unfold Am at h2⊢;simp only[Cu,List.sum_cons,Bo];omega
theorem OV (H:Hp)(e:Int):Fz H [] (.tup [.agg [str ⟨#[]⟩,i64 0,CT],i64 e]) (.tup [(⟨[],0,[]⟩:AD).D,i64 e]):=
 GJ (.agg rfl λi d d' h h'=>by
  match i with
  | 0=>cases h;cases h';exact .refl _
  | 1=>cases h;cases h';exact .refl _
  | 2=>cases h;cases h';exact .nil 2
  |n+3=>cases h) (.refl _)
theorem bv {H:Hp}{gr m sD e:D}{L:List D}(h:Fz H [] sD (.sl false 2 L)):Fz H [] (.tup [.agg [gr,m,sD],e]) (.tup [.agg [gr,m,.sl false 2 L],e]):=
 GJ (.agg rfl λi d d' h1 h2=>by
  match i with
  | 0=>cases h1;cases h2;exact .refl _
  | 1=>cases h1;cases h2;exact .refl _
  | 2=>cases h1;cases h2;exact h
  |n+3=>cases h1) (.refl _)
theorem oc {H:Hp}{k g T sz:Nat}{z:D}{l:List D}(he:Hp.get H k=some ⟨k,g,T,sz,z::l⟩):Fz H [] (.osl k g sz 0 (l.length+1)) (.sl false sz (z::l)):=by
 refine .osl (e:=⟨k,g,T,sz,z::l⟩) he rfl rfl rfl (by simp) (by simp) (λj d d' h1 h2=>?_) λj d d' q c c' h1 h2 h3 h4=>?_
 ·rw[BV]at h1;rw[h1]at h2;cases h2;rfl
 ·rw[BV]at h1;rw[h1]at h2;cases h2;rw[h3]at h4;cases h4;exact Fz.refl _
theorem lz (l:DB)(H:Hp)(n:Nat):Cd C0 137 [mapD l] H n (λd H' n'=>∃g,d=.clo (.func 180) [] [.optr 77000 g 1 0 0]/\H'=⟨77000,g,112,1,[mapD l]⟩::H/\n'=n+4):=by
 refine Cd.walk w1 an rfl λF0=>?_
 obtain⟨M,hM⟩:∃M,mapD l=M:=⟨_,rfl⟩
 have hc:∃ks vs,M=.mp ks vs:=⟨_,_,hM.symm⟩
 obtain⟨ks,vs,hc⟩:=hc;subst hc;rw[hM];refine AC.seq ?_;refine Ao w1 77000 (by kernel_rfl) ?_;refine AE kB ?_;refine At ?_;refine AH AZ kB AB AB AB AB AB AB ?_;exact⟨_,rfl,rfl,trivial⟩
theorem u9 {r:Rat}{x:GF}{k:Nat}(h:FR r x k)(hk:k<100000):AK C0 138 [x.D] (.tup [str (sb (VL r)),i64 (VK r:Nat)]):=by
 refine Ak.walk w1 ap rfl λF=>?_
 have c1:=ZP h hk;have c2:=cZ h hk;unfold VL VK;obtain⟨b,hb⟩:∃b,Du r=b:=⟨_,rfl⟩
 rw[hb]at c1⊢;cases b
 all_goals
  refine AH AZ kB c1 c2 AB AB AB AB ?_;exact AL rfl AA.out
theorem yH (b:Bool)(l:List AD)(hl:l.length<=1000000)(hf:∀x∈l,x.lite):AK C0 90 [Al b l] (.tup [(Kv l).D,i64 (Gr l:Nat)]):=by
 refine Ak.walk w1 eK rfl λF0=>?_
 have el:(((l.map AD.D).length:Nat):Int)=(l.length:Int):=by rw[Ac]
 have cM:=oW b l hl λx hx=>(hf x hx).1
 have hN:Gr l=if HJ l≠0 then HJ l else if 64<(CJ l).length then 5 else if(FQ (CJ l)).any (λp=>Du (p.2/(Am l:Rat)))then 4 else 0:=rfl
 have hL:Kv l=if Gr l≠0 then⟨[],0,[]⟩else⟨(CI l 0).grain,Am l,Ej l⟩:=rfl
 rcases Nat.decEq (HJ l) 0 with g|g
 ·have e1:=GQ g
  rw[AG g]at hN;rw[hN,AG g]at hL;rw[hL,hN];refine AH Eh e1 cM AB AB AB AB AB ?_;exact⟨_,OV _ _,AA.out,rfl⟩
 have e1:=GR g;rw[AF (λh=>h g)]at hN;have hmm:SB l=Am l:=by unfold SB;rw[AG g]
 obtain⟨g1,g2,g3,g4,g5⟩:=ZA g;have hx:∀x∈l,x.ok:=λx h=>(bx (hf x h) (g3 x h)).1
 have g6:=Yb g3;rw[hmm]at cM;refine sZ 0 ?_;refine AE kB ?_;refine sZ 100 ?_;refine AE kB ?_;refine cI cM ?_;refine AE kB ?_;refine AC.seq ?_;refine sZ 200 ?_;refine AE e1 ?_;refine AM ?_;refine An ?_;refine AC.seq ?_;refine Hz (by kernel_rfl) ?_;change Bf _ _ _ _ _ [0,1] _ _;refine Bf.makeMap 400 rfl rfl rfl (Vi F0) (λF1 it hto hO hr0 hnX hM=>?_);change Bf _ _ _ _ _ ([1]++[]) _ _;refine FS w1 400 [1] [] ?_;refine AE kB ?_;refine Bf.nil ?_;refine AH Eh el AB AB AB AB AB AB ?_;refine GY (α:=Nat×DB×Obj×Nat) (λp=>⟨[(0,Al b l),(2,.optr 0 0 3 0 0),(4,i64 (Am l)),(6,.prim (.map (some it))),(29,Al b l),(30,i64 (l.length:Int)),(31,i64 (p.1:Int))],[⟨0,0,80,3,[.agg [.prim (.string ⟨#[]⟩),.prim (.int .i64 0),.prim (.slice none 0 0)]]⟩],p.2.2.2⟩) (λp=>l.length-p.1)
  (λp F=>p.1<=l.length/\C9 C0 F0 F [⟨400,11,p.2.2.1⟩]/\F.r0 400 11=some it/\Hn F p.2.2.1 p.2.1/\MQ (320*p.1) (CJ (l.take p.1)) p.2.1) (0,[],.map #[] 0,_) ⟨BU _,hO,hr0,hM,trivial⟩ AJ ?_
 clear hO hr0 hM hto;rintro⟨i,m,o,n1⟩ F ⟨hi,hO,hr0,hM,hQ⟩;dsimp only at hi hO hr0 hM hQ⊢;rcases BH i l.length with h2|h2
 rotate_left
 ·have e1:=Cj h2
  have:i=l.length:=by omega
  subst this;rw[Cf]at hQ;refine sZ 600 ?_;refine AE e1 ?_;refine AC.seq ?_;refine AM ?_;refine B9 ?_;refine fp [(0,Al b l),(2,.optr 0 0 3 0 0),(4,i64 (Am l)),(6,mapD m)] hO hr0 hnX hM ⟨.inl rfl,.inl rfl,.inl rfl,.inr ⟨rfl,rfl⟩,trivial⟩ (λF2 hto2 hO2=>?_);have hKO:HB (λk=>k.length<=1000) (64*l.length) (CJ l):=S3 λx h=>⟨(hx x h).1,λs hs=>((hf x h).2 s hs).1⟩
  have hQ2:MQ 32000 (CJ l) m:=hQ.mono (by omega);clear hQ hO hM hto2 hO2;obtain⟨q,hq⟩:∃q,CJ l=q:=⟨_,rfl⟩
  have hSS:Ej l=(FQ q).map λp=>⟨p.1,BO (p.2/(Am l:Rat))⟩:=by rw[<-hq];rfl
  rw[hq]at hKO hQ2 hN;have hml:=hQ2.len;obtain⟨ks,hks⟩:∃ks:List D,m.map (λp=>(.prim (.string p.1):D))=ks:=⟨_,rfl⟩
  obtain⟨vs,hvs⟩:∃vs:List D,m.map (·.2)=vs:=⟨_,rfl⟩
  have hkl:ks.length=q.length:=by rw[<-hks,Ac,hml]
  unfold mapD;rw[hks,hvs];refine AC.seq ?_;refine AC.seq ?_;refine Hz (by kernel_rfl) ?_;change Bf _ _ _ _ _ ([0]++(1::([2]++[]))) _ _;refine FS w1 1800 [0] _ ?_;refine AE kB ?_;refine zA (OB (w1.xt 112 _ rfl)).1 rfl rfl rfl rfl ?_;refine FS w1 1800 [2] _ ?_;refine AE kB ?_;refine Bf.nil ?_;rw[hkl]
  by_cases h64:64<q.length
  ·rw[AG h64]at hN
   rw[hN,AG (by omega)]at hL;rw[hL,hN];have q2:decide ((q.length:Int)>64)=true:=AX (by omega);refine AH Eh q2 AB AB AB AB AB AB ?_;exact⟨_,OV _ _,AA.out,rfl⟩
  have q2:decide ((q.length:Int)>64)=false:=Ag (by omega);rw[AF h64]at hN;rw[q2];have hmd:mapD m=.mp ks vs:=by unfold mapD;rw[hks,hvs]
  have cK:=lz m;have cS:=Fo m (Cs q) hQ2.keys (by omega) hKO.all hKO.nd;rw[hmd]at cK cS;obtain⟨x0,hx0⟩:∃x,l[0]?=some x:=⟨_,A9 (by omega)⟩
  have hm0:(l.map AD.D)[0]?=some (.agg [str (sb x0.grain),i64 x0.mass,.sl false 2 (x0.shs.map Av.D)]):=by rw[A8,hx0];rfl
  refine AH Eh kB hm0 AB AB AB AB AB ?_;refine BE.own _ (cK _ _) ?_;rintro d H' n' ⟨gk,rfl,rfl,rfl⟩;refine AH Eh kB AB AB AB AB AB AB ?_;refine BE.own _ (cS _ _ _ _ _) ?_;rintro d H' n' ⟨rfl,rfl,rfl⟩;refine AH Eh kB AB AB AB AB AB AB ?_;have hkey:=iz q;have hsl:(FQ q).length=q.length:=(J7 q).length_eq;have hsm:∀p∈FQ q,p∈q:=λp h=>(J7 q).mem_iff.1 h
  rw[hkey];obtain⟨Q,hQ⟩:∃Q,FQ q=Q:=⟨_,rfl⟩
  rw[hQ]at hN hSS hsl hsm⊢;have hMs:Sm (Am l):=by unfold Sm;omega
  have hM0:((Am l:Int):Rat)≠0:=λh=>by
   have:=Rat.intCast_inj.1 (h.trans (Rat.intCast_zero).symm)
   omega
  have fM:FR ((Am l:Int):Rat) ⟨AW (Am l),1⟩ 1:=Q2 (by unfold Sm at hMs;omega);have cF:=PM (Am l) hMs;obtain⟨kl,hkl2⟩:∃kl:List D,(List.map (λx=>str (sb x)) (Q.map (·.1)))=kl:=⟨_,rfl⟩
  have hkll:kl.length=Q.length:=by rw[<-hkl2];simp
  rw[hkl2];obtain⟨M,hMM⟩:∃M,Am l=M:=⟨_,rfl⟩
  have hgr:(CI l 0).grain=x0.grain:=by rw[Fc hx0]
  clear hmd cK cS hm0;rw[hMM]at hN hL hSS hMs hM0 fM cF;rw[hMM,hkll];obtain⟨g14,hg14⟩:∃g,n1+1+1+1+1+1+1+1+1+1+1=g:=⟨_,rfl⟩
  rw[hg14];refine AC.loop (α:=Nat×Nat×Nat) (λp=>⟨[(2,.optr 0 0 3 0 0),(4,i64 M),(6,.mp ks vs),(14,.optr 2006 g14 3 0 0),(78,.sl false 1 kl),(79,i64 (Q.length:Nat)),(80,i64 (p.1:Int))],
    Dt 2706 p.2.1 86 2 ((Q.take p.1).map λz=>(⟨z.1,BO (z.2/(M:Rat))⟩:Av).D)++[⟨2006,g14,80,3,[.agg [str (sb x0.grain),i64 M,Dy 2706 p.2.1 2 ((Q.take p.1).map λz=>(⟨z.1,BO (z.2/(M:Rat))⟩:Av).D)]]⟩,⟨0,0,80,3,[.agg [.prim (.string ⟨#[]⟩),.prim (.int .i64 0),.prim (.slice none 0 0)]]⟩],p.2.2⟩) (λp=>Q.length-p.1)
   (λp=>p.1<=Q.length/\∀z∈Q.take p.1,Du (z.2/(M:Rat))=false) (0,0,_) ⟨BU _,λz h=>by simp at h⟩ AJ ?_
  clear n1 hg14;rintro⟨i,g,n1⟩ F ⟨hi,hB⟩;dsimp only at hi hB⊢;have hTl:((Q.take i).map λz=>(⟨z.1,BO (z.2/(M:Rat))⟩:Av).D).length=i:=by rw[Ac,Bd];omega
  obtain⟨TL,hTL⟩:∃TL,((Q.take i).map λz=>(⟨z.1,BO (z.2/(M:Rat))⟩:Av).D)=TL:=⟨_,rfl⟩
  rcases BH i Q.length with h2|h2
  rotate_left
  ·have e1:=Cj h2
   have:i=Q.length:=by omega
   subst this;rw[Cf]at hB hTL⊢;have hany:Q.any (λp=>Du (p.2/(M:Rat)))=false:=by
    rw[List.any_eq_false];intro p hp;rw[hB p hp];decide
   rw[AF (by rw[hany];decide)]at hN;rw[AF (by omega)]at hL;rw[hL,hN,hgr];have hres:((⟨x0.grain,M,Ej l⟩:AD).D)=.agg [str (sb x0.grain),i64 M,.sl false 2 TL]:=by
    unfold AD.D Ce;rw[<-hTL,hSS,List.map_map];rfl
   have pR:B6 (.tup [(⟨x0.grain,M,Ej l⟩:AD).D,i64 ((0:Nat):Int)]):=AA.out;rw[hres]at pR;rw[hres,hTL];rcases TL with _|⟨z,TL⟩
   ·dsimp only[Io,Ip,List.nil_append]
    refine AH Eh e1 AB AB AB AB AB AB ?_;exact⟨_,bv (.nil 2),pR,rfl⟩
   ·dsimp only[Hb,Hc,List.cons_append,List.nil_append]
    refine AH Eh e1 AB AB AB AB AB AB ?_;exact⟨_,bv (oc rfl),pR,rfl⟩
  have e1:=Ck h2;have wi:=Cc (i:=i) (by omega);obtain⟨p,hp⟩:=CU h2;have hmk:kl[i]?=some (str (sb p.1)):=by rw[<-hkl2,A8,A8,hp];rfl
  have hlq:=TE hKO.nd (hsm p (Aw hp));rcases hQ2.look p.1 with⟨q1,q3⟩|⟨r,y,q1,q3,q4⟩
  ·rw[hlq]at q3;cases q3
  rw[hlq]at q3;cases q3;have hLk:Hq (sb p.1) ks vs=some (some y.D):=by rw[<-hks,<-hvs,Wz,q1]
  have cDv:=rm q4 fM hM0 (by omega);have fD:=nz q4 fM hM0;obtain⟨z,hz⟩:∃z,R4 y ⟨AW M,1⟩=z:=⟨_,rfl⟩
  rw[hz]at cDv fD;have cG:=u9 fD (by omega);obtain⟨dM,hdM⟩:∃d,(⟨AW M,1⟩:GF).D=d:=⟨_,rfl⟩
  have pdM:AA dM:=by rw[<-hdM];exact AI
  obtain⟨dy,hdy⟩:∃d,y.D=d:=⟨_,rfl⟩
  have pdy:AA dy:=by rw[<-hdy];exact AI
  obtain⟨dz,hdz⟩:∃d,z.D=d:=⟨_,rfl⟩
  have pdz:AA dz:=by rw[<-hdz];exact AI
  rw[hdy]at hLk cDv;rw[hdM]at cF cDv;rw[hdz]at cDv cG;unfold VL VK at cG;obtain⟨bg,hbg⟩:∃q,Du (p.2/(M:Rat))=q:=⟨_,rfl⟩
  rw[hbg]at cG;have hsn:((Q.take (i+1)).map λz=>(⟨z.1,BO (z.2/(M:Rat))⟩:Av).D)=TL++[.agg [str (sb p.1),str (sb (BO (p.2/(M:Rat))))]]:=by
   rw[Da,hp,Cq,hTL];rfl
  rw[hTL]at hTl⊢;have n4:((((4:Nat):Int)) != 0)=true:=rfl;have n0:((((0:Nat):Int)) != 0)=false:=rfl;cases bg
  rotate_left
  ·rw[AG rfl,AG rfl]at cG
   have hany:Q.any (λp=>Du (p.2/(M:Rat)))=true:=by
    rw[List.any_eq_true];exact⟨p,Aw hp,hbg⟩
   rw[AG hany]at hN;rw[AG (by omega)]at hL;rw[hL,hN];rcases TL with _|⟨z9,TL⟩
   ·dsimp only[Io,Ip,List.nil_append]
    refine AH Eh (Ah e1 kN) hmk AB AB AB AB AB ?_;refine QI (d':=dy) rfl rfl rfl rfl rfl rfl hLk rfl ?_;refine At ?_;refine AH Eh n4 cF cDv cG AB AB AB ?_;exact⟨_,OV _ _,AA.out,rfl⟩
   ·dsimp only[Hb,Hc,List.cons_append,List.nil_append]
    refine AH Eh (Ah e1 kN) hmk AB AB AB AB AB ?_;refine QI (d':=dy) rfl rfl rfl rfl rfl rfl hLk rfl ?_;refine At ?_;refine AH Eh n4 cF cDv cG AB AB AB ?_;exact⟨_,OV _ _,AA.out,rfl⟩
  rw[AF (by decide),AF (by decide)]at cG;have hB2:∀w∈Q.take (i+1),Du (w.2/(M:Rat))=false:=λw hw=>by
   rw[Da,hp]at hw;rcases List.mem_append.1 hw with h|h
   ·exact hB w h
   ·have:w=p:=by simpa using h
    rw[this];exact hbg
  rcases TL with _|⟨z9,TL⟩
  ·dsimp only[Io,Ip,List.nil_append]
   refine AH Eh (Ah e1 kN) hmk AB AB AB AB AB ?_;refine QI (d':=dy) rfl rfl rfl rfl rfl rfl hLk rfl ?_;refine At ?_;refine AH Eh (Ah n0 wi) cF cDv cG AB AB AB ?_;exact⟨(i+1,_,_),⟨h2,hB2⟩,by dsimp only;omega,by(dsimp only;rw[hsn];exact AJ)⟩
  ·dsimp only[Hb,Hc,List.cons_append,List.nil_append]
   have htk:List.take (TL.length+1) (z9::TL)=z9::TL:=by simp
   rw[Bo]at hTl;have hb64:TL.length+1<64:=by omega
   refine AH Eh (Ah e1 kN) hmk AB AB AB AB AB ?_;refine QI (d':=dy) rfl rfl rfl rfl rfl rfl hLk rfl ?_;refine At ?_;refine AH Eh (As n0 wi htk) cF cDv cG AB AB AB ?_;exact⟨(i+1,_,_),⟨h2,hB2⟩,by dsimp only;omega,by(dsimp only;rw[hsn,OE];exact AJ)⟩
 have e1:=Ck h2;have wi:=Cc (i:=i) (by omega);obtain⟨x,hxi⟩:=CU h2;obtain⟨x1,x2,x3⟩:=hx x (Aw hxi);have hm:(l.map AD.D)[i]?=some (.agg [str (sb x.grain),i64 x.mass,.sl false 2 (x.shs.map Av.D)]):=by rw[A8,hxi];rfl
 have es:(((x.shs.map Av.D).length:Nat):Int)=(x.shs.length:Int):=by rw[Ac]
 refine AH Eh (As e1 es kN) hm AB AB AB AB AB ?_;obtain⟨ga,hga⟩:∃g,n1+1+1+1=g:=⟨_,rfl⟩
 refine GY (α:=Nat×DB×Obj×Nat) (λp=>⟨[(0,Al b l),(2,.optr 0 0 3 0 0),(4,i64 (Am l)),(6,.prim (.map (some it))),(8,.optr 702 (n1+1+1+1) 3 0 0),(29,Al b l),(30,i64 (l.length:Int)),(31,i64 (i:Int)),(36,.sl false 2 (x.shs.map Av.D)),(37,i64 (x.shs.length:Int)),(38,i64 (p.1:Int))],[⟨702,n1+1+1+1,80,3,[.agg [str (sb x.grain),i64 x.mass,.sl false 2 (x.shs.map Av.D)]]⟩,⟨0,0,80,3,[.agg [.prim (.string ⟨#[]⟩),.prim (.int .i64 0),.prim (.slice none 0 0)]]⟩],p.2.2.2⟩) (λp=>x.shs.length-p.1)
  (λp F=>p.1<=x.shs.length/\C9 C0 F0 F [⟨400,11,p.2.2.1⟩]/\F.r0 400 11=some it/\Hn F p.2.2.1 p.2.1/\MQ (320*i+5*p.1) (GM x p.1 (CJ (l.take i))) p.2.1) (0,m,o,_) ⟨BU _,hO,hr0,hM,hQ⟩ AJ ?_
 clear hO hr0 hM hQ;rintro⟨j,m2,o2,n2⟩ F ⟨hj,hO,hr0,hM,hQ⟩;dsimp only at hj hO hr0 hM hQ⊢;rw[hga];rcases BH j x.shs.length with h3|h3
 rotate_left
 ·have e2:=Cj h3
  have:j=x.shs.length:=by omega
  subst this;rw[<-QC l i hxi]at hQ;refine AH Eh (Ah e2 wi) AB AB AB AB AB AB ?_;exact⟨(i+1,m2,o2,_),⟨h2,hO,hr0,hM,hQ.mono (by dsimp only;omega)⟩,by dsimp only;omega,AJ⟩
 have e2:=Ck h3;have wj:=Cc (i:=j) (by omega);obtain⟨s,hsj⟩:=CU h3;obtain⟨s1,s2,s3⟩:=x3 s (Aw hsj);have hms:(x.shs.map Av.D)[j]?=some (.agg [str (sb s.lot),str (sb s.part)]):=by rw[A8,hsj];rfl
 have hsn:=Nx x j (CJ (l.take i)) hsj;have fP:FR (CR s.part) (GL s.part) 3:=⟨(RH s3).is,gQ s3 s2⟩
 have fM:FR ((x.mass:Int):Rat) ⟨AW x.mass,1⟩ 1:=Q2 (by unfold Sm at x2;omega);have c1:=RW (by omega) s3;have c2:=PM x.mass x2;have c3:=UT fP fM (by decide);have fZ:FR (CR s.part*(x.mass:Rat)) (IU (GL s.part) ⟨AW x.mass,1⟩) 4:=UF fP fM;obtain⟨z,hz⟩:∃z,IU (GL s.part) ⟨AW x.mass,1⟩=z:=⟨_,rfl⟩
 rw[hz]at c3 fZ;obtain⟨d1,hd1⟩:∃d,(GL s.part).D=d:=⟨_,rfl⟩
 obtain⟨d2,hd2⟩:∃d,(⟨AW x.mass,1⟩:GF).D=d:=⟨_,rfl⟩
 have pd1:AA d1:=by rw[<-hd1];exact AI
 have pd2:AA d2:=by rw[<-hd2];exact AI
 rw[hd1]at c1 c3;rw[hd2]at c2 c3;refine sZ 900 ?_;refine AE e2 ?_;refine AC.seq ?_;refine AM ?_;refine An ?_;refine AC.seq ?_;refine AC.block ?_;refine sZ 1000 ?_;refine Bq kT hms ?_;refine AE kB ?_;refine AC.seq ?_;refine B7 w1 1100 [0,1,2,3,4,5,6,7] [8] (by kernel_rfl) ?_;refine AE kB ?_;refine BZ.same _ (c1) AI ?_;refine BP ?_;refine AE kB ?_;refine BZ.same _ (c2) AI ?_;refine BP ?_;refine AE kB ?_;refine BZ.same _ (c3) AI ?_;refine BP ?_;refine AE kB ?_;refine AC.seq ?_;refine AC.seq ?_;refine Hz (by kernel_rfl) ?_;change Bf _ _ _ _ _ ([0,1,2]++(3::([4,5,6,7,8,9]++[]))) _ _;refine FS w1 1200 [0,1,2] _ ?_;refine AE kB ?_;refine Bf.look (xo:=⟨400,11,o2⟩) (l:=m2) w1 rfl rfl rfl rfl rfl rfl hO CG hr0 hM ?_;rcases hQ.look s.lot with⟨q1,q2⟩|⟨r,y,q1,q2,q3⟩
 ·rw[Ww q1]
  refine FS w1 1200 [4,5,6,7,8,9] [] ?_;refine AE kB ?_;refine Bf.nil ?_;refine At ?_;refine sZ 1300 ?_;refine AE kB ?_;refine AM ?_;refine An ?_;refine Hz (by kernel_rfl) ?_;change Bf _ _ _ _ _ ([0,1,2,3]++(4::[])) _ _;refine FS w1 1500 [0,1,2,3] _ ?_;refine AE kB ?_;refine Bf.put (l:=m2) w1 rfl rfl rfl rfl rfl rfl hO hr0 hM (λF3 o3 hto3 hO3 hr3 hM3=>Bf.nil ?_);refine At ?_;have hQ2:MQ (320*i+5*(j+1)) (GM x (j+1) (CJ (l.take i))) (FO (sb s.lot) z.D m2):=by
   rw[hsn];unfold Jk;rw[q2];exact MQ.set s.lot ⟨fZ.is,fZ.rk.mono (by omega)⟩ (hQ.mono (by omega))
  refine AH Eh wj AB AB AB AB AB AB ?_;exact⟨(j+1,FO (sb s.lot) z.D m2,o3,_),⟨h3,hO3,hr3,hM3,hQ2⟩,by dsimp only;omega,AJ⟩
 ·rw[Wx q1]
  refine FS w1 1200 [4,5,6,7,8,9] [] ?_;refine AE kB ?_;refine Bf.nil ?_;have c4:=RQ fZ q3 (by omega);have fA:=Qn fZ q3;obtain⟨z2,hz2⟩:∃z2,Jg z y=z2:=⟨_,rfl⟩
  rw[hz2]at c4 fA;refine At ?_;refine sZ 1300 ?_;refine AE kB ?_;refine AM ?_;refine Ao w1 1400 (by kernel_rfl) ?_;refine AE kB ?_;refine cI c4 ?_;refine AE kB ?_;refine Hz (by kernel_rfl) ?_;change Bf _ _ _ _ _ ([0,1,2,3]++(4::[])) _ _;refine FS w1 1500 [0,1,2,3] _ ?_;refine AE kB ?_;refine Bf.put (l:=m2) w1 rfl rfl rfl rfl rfl rfl hO hr0 hM (λF3 o3 hto3 hO3 hr3 hM3=>Bf.nil ?_);refine At ?_;have hQ2:MQ (320*i+5*(j+1)) (GM x (j+1) (CJ (l.take i))) (FO (sb s.lot) z2.D m2):=by
   rw[hsn];unfold Jk;rw[q2];exact MQ.set s.lot ⟨fA.is,fA.rk.mono (by omega)⟩ (hQ.mono (by omega))
  refine AH Eh wj AB AB AB AB AB AB ?_;exact⟨(j+1,FO (sb s.lot) z2.D m2,o3,_),⟨h3,hO3,hr3,hM3,hQ2⟩,by dsimp only;omega,AJ⟩
abbrev mg:Dr:=[(1,[0,1,2,3,4,5],[6,7])]
open Go.Proofs Go.RowKit Go.Sort
set_option maxRecDepth 20000
set_option maxHeartbeats 4000000
theorem ze {C:BC}{f sz:Nat}{ds:List D}{Φ:D->Prop}(h1:Ak C f (CT::ds) Φ)(h2:Ak C f (.sl true sz []::ds) Φ):Ak C f (.sl false sz []::ds) Φ:=by
 refine⟨h1.1,λX w vs a b c e g=>?_⟩;have g0:=g 0 _ rfl;generalize hv:vs.getD 0 undef=v at g0;cases g0 with
 |nil=>
  refine h1.2 X w vs a b c e λi d hd=>?_
  match i with
  | 0=>cases hd;rw[hv];exact .prim _
  |i+1=>exact g (i+1) d hd
 |emp a0=>
  refine h2.2 X w vs a b c e λi d hd=>?_
  match i with
  | 0=>cases hd;rw[hv];exact .emp a0
  |i+1=>exact g (i+1) d hd
 |sl f hl hc hO hb hz hcell ho h=>
  refine h2.2 X w vs a b c e λi d hd=>?_
  match i with
  | 0=>cases hd;rw[hv];exact .sl f hl hc hO hb hz hcell ho h
  |i+1=>exact g (i+1) d hd
theorem Gj {H Hf:Hp}{k g T sz:Nat}{l:List D}(he:Hp.get H k=some ⟨k,g,T,sz,l⟩)(hf:Hp.get Hf k=none:=by rfl):Fz H Hf (.osl k g sz 0 l.length) (.sl false sz l):=by
 refine .osl (e:=⟨k,g,T,sz,l⟩) he hf rfl rfl (by simp) (by simp) (λj d d' h1 h2=>?_) λj d d' q c c' h1 h2 h3 h4=>?_
 ·rw[BV]at h1;rw[h1]at h2;cases h2;rfl
 ·rw[BV]at h1;rw[h1]at h2;cases h2;rw[h3]at h4;cases h4;exact Fz.refl _
theorem nr (s:List Av)(hl:s.length<=1000000):AK C0 140 [Ce false s] (Ce false s):=by
 unfold Ce;rcases s with _|⟨z,s⟩
 ·refine ze ?_ ?_
  ·refine Ak.walk w1 RU rfl λF=>?_
   refine AH AZ kB AB AB AB AB AB AB ?_;exact⟨_,.nil 2,AA.out,rfl⟩
  ·refine Ak.walk w1 RU rfl λF=>?_
   refine AH AZ kB AB AB AB AB AB AB ?_;exact⟨_,.osl (e:=⟨302,5,86,2,[]⟩) rfl rfl rfl rfl (Af _) rfl (λj d d' h=>by simp at h) (λj d d' q c c' h=>by simp at h),AA.out,rfl⟩
 ·refine Ak.walk w1 RU rfl λF=>?_
  obtain⟨T,hT⟩:∃T,List.map Av.D (z::s)=T:=⟨_,rfl⟩
  have pT:AA (.sl false 2 T):=by rw[<-hT];exact AI
  have hne:T≠[]:=by rw[<-hT];simp
  have hlT:T.length<=1000000:=by rw[<-hT,Ac];exact hl
  rw[hT];refine AH AZ hne AB AB AB AB AB AB ?_;exact⟨_,by rw[BV];exact Gj rfl,pT.out,rfl⟩
theorem bQ (x:AD)(m:Int)(hl:x.shs.length<=1000000):AK C0 94 [x.D,i64 m] ((⟨x.grain,m,x.shs⟩:AD).D):=by
 refine Ak.walk w1 eQ rfl λF=>?_
 have cC:=nr x.shs hl;unfold AD.D;dsimp only;unfold Ce at cC⊢;obtain⟨SD,hSD⟩:∃d,x.shs.map Av.D=d:=⟨_,rfl⟩
 have pS:AA (.sl false 2 SD):=by rw[<-hSD];exact AI
 rw[hSD]at cC⊢;refine AH AZ kB cC AB AB AB AB AB ?_;exact AL rfl AA.out
theorem l7 (b:Bool)(l:List AD)(hl:l.length<=1000000)(h0:l≠[])(H:Hp)(n:Nat):Cd C0 89 [Al b l] H n
  (λd H' n'=>∃g,d=.osl 302 g 3 0 l.length/\H'=⟨302,g,80,3,l.map AD.D⟩::H/\n'=n+7):=by
 refine Cd.walk w1 eJ rfl λF=>?_
 unfold Al;obtain⟨T,hT⟩:∃T,l.map AD.D=T:=⟨_,rfl⟩
 have pT:AA (.sl b 3 T):=by rw[<-hT];exact AI
 have hne:T≠[]:=by rw[<-hT];simpa using h0
 have hlT:T.length<=1000000:=by rw[<-hT,Ac];exact hl
 rw[hT,<-Ac (f:=AD.D),hT];cases b
 all_goals
  refine sZ 0 ?_;refine AE kB ?_;refine AC.seq ?_;refine sZ 100 ?_;refine AE kB ?_;refine AM ?_;refine An ?_;refine sZ 300 ?_;refine AE kB ?_;refine Ai ?_;exact⟨_,by rw[BV],rfl,rfl⟩
theorem uU (b:Bool)(x y:AD)(l:List AD):AK C0 120 [x.D,  .pptr (.sl b 3 ((y::l).map AD.D))] (Aq (!BK (sb x.grain) (sb y.grain))):=by
 refine Ak.walk w1 ae rfl λF=>?_
 have hm:((y::l).map AD.D)[0]?=some (.agg [str (sb y.grain),i64 y.mass,.sl false 2 (y.shs.map Av.D)]):=rfl;obtain⟨T,hT⟩:∃T,(y::l).map AD.D=T:=⟨_,rfl⟩
 have pT:AA (.sl b 3 T):=by rw[<-hT];exact AI
 obtain⟨S,hS⟩:∃S,x.shs.map Av.D=S:=⟨_,rfl⟩
 have pS:AA (.sl false 2 S):=by rw[<-hS];exact AI
 rw[hT]at hm⊢;unfold AD.D Ce;rw[hS];refine AH mg kB hm AB AB AB AB AB ?_;exact AL rfl AA.out
theorem uX (b:Bool)(l:List AD)(c:D)[pc:AA c](p:AD->Bool)(hl:l.length<=1000000)(hc:∀x∈l,AK C0 120 [x.D,c] (Aq (p x))):AK C0 163 [Al b l,.clo (.func 120) [] [c]] (i64 (Kn p l)):=by
 refine Ak.walk w1 az rfl λF=>?_
 have el:(((l.map AD.D).length:Nat):Int)=(l.length:Int):=by rw[Ac]
 refine AH AZ el AB AB AB AB AB AB ?_;refine AC.loop (α:=Nat×Nat) (λp=>⟨[(0,Al b l),(1,.clo (.func 120) [] [c]),(7,i64 l.length),(8,i64 (p.1:Int))],[],p.2⟩) (λp=>l.length-p.1) (λq=>q.1<=l.length/\∀(j:Nat) (x:AD),j<q.1->l[j]?=some x->p x=false) (0,_) ⟨BU _,λj x hj=>Ad hj (HR j)⟩ AJ ?_;rintro⟨i,n⟩ F ⟨hi,ha⟩;dsimp only at hi ha⊢;rcases BH i l.length with h2|h2
 rotate_left
 ·have e1:=Cj h2
  have:i=l.length:=by omega
  subst this;refine AH AZ e1 AB AB AB AB AB AB ?_;exact AL (by rw[XY ha]) AA.out
 have e1:=Ck h2;have wi:=Cc (i:=i) (by omega);obtain⟨x,hx⟩:=CU h2;have hm:(l.map AD.D)[i]?=some (.agg [str (sb x.grain),i64 x.mass,.sl false 2 (x.shs.map Av.D)]):=by rw[A8,hx];rfl
 have cn:=hc x (Aw hx);unfold AD.D at cn;cases hb:p x
 ·rw[hb]at cn
  refine AH AZ (As e1 wi kN) hm cn AB AB AB AB ?_;refine⟨(i+1,_),⟨h2,λj z hj hjz=>?_⟩,by dsimp only;omega,AJ⟩;rcases BH j i with h|h
  ·exact ha j z h hjz
  ·have:j=i:=by dsimp only at hj;omega
   subst this;rw[hx]at hjz;cases hjz;exact hb
 ·rw[hb]at cn
  refine AH AZ (As e1 wi kN) hm cn AB AB AB AB ?_;exact AL (by rw[Ys hx hb ha]) AA.out
theorem uV (b:Bool)(l:List AD)(c:D)[pc:AA c](p:AD->Bool)(hl:l.length<=1000000)(hc:∀x∈l,AK C0 120 [x.D,c] (Aq (p x))):AK C0 119 [Al b l,.clo (.func 120) [] [c]] (Aq (l.any p)):=by
 refine Ak.walk w1 ad rfl λF=>?_
 have c1:=uX b l c p hl hc;have e1:=Yt p l;refine AH AZ e1 c1 AB AB AB AB AB ?_;exact AL rfl AA.out
theorem Xd (b:Bool)(l:List AD)(hl:l.length<=1000000):AK C0 74 [Al b l] (i64 (if CM l then 0 else 16:Nat)):=by
 refine Ak.walk w1 eC rfl λF=>?_
 have cH:AK C0 119 [Al b l,.clo (.func 120) [] [.pptr (Al b l)]] (Aq (!CM l)):=by
  have:=uV b l (.pptr (Al b l)) (λx=>!BK (sb x.grain) (sb (CI l 0).grain)) hl λx hx=>by
   rcases l with _|⟨y,l⟩
   ·cases hx
   ·exact uU b x y l
  have he:(l.any λx=>!BK (sb x.grain) (sb (CI l 0).grain)) = !CM l:=by
   unfold CM;rw[List.not_all_eq_any_not]
  rwa [he]at this
 have cW:=IS (!CM l) 16;refine AH AZ kB cH cW AB AB AB AB ?_;refine BE.own _ (NT cH rfl (λi a d h1 h2=>by
  match i with
  | 0=>cases h1;cases h2;exact .refl _ _
  | 1=>cases h1;cases h2;exact .clo1 (.ptr rfl rfl rfl rfl)
  |n+2=>cases h1) AI (.prim _)) ?_
 rintro d H' n' ⟨rfl,rfl,rfl⟩;refine AH AZ kB cW AB AB AB AB AB ?_;exact AL (by cases CM l<;>rfl) AA.out
theorem Lh {l:List AD}(h:Bv l=0):l.length<=64/\(∀x∈l,CZ x=0)/\Am l<=999999999:=by
 unfold Bv at h;split at h
 ·cases h
 ·split at h
  ·rename_i h3;exact Ad h h3
  ·split at h
   ·cases h
   ·refine⟨by omega,λx hx=>?_,by omega⟩
    obtain⟨j,hj⟩:=List.mem_iff_getElem?.1 hx
    have:=Qc (f:=λi=>CZ (CI l i)) (n:=l.length) (by omega) j (List.getElem?_eq_some_iff.1 hj).1
    rwa [Fc hj]at this
theorem W1 {l:List AD}(hf:∀x∈l,x.lite)(hz:∀x∈l,CZ x=0)(hl:l.length<=64):(∀x∈l,x.ok)/\HB (λk=>k.length<=1000) 4096 (CJ l):=by
 have hx:∀x∈l,x.ok:=λx h=>(bx (hf x h) (hz x h)).1
 exact⟨hx,(S3 λx h=>⟨(hx x h).1,λs hs=>((hf x h).2 s hs).1⟩).mono (by omega)⟩
def Rp (l:List AD):Nat:=if Bv l≠0 then Bv l else IQ (CJ l)
def Rq (l:List AD):B0:=if Bv l≠0 then[]else JZ (CJ l)
theorem xk (b:Bool)(l:List AD)(hl:l.length<=1000000)(hf:∀x∈l,x.lite):AK C0 22 [Al b l] (.tup [.sl false 2 ((Rq l).map Co),i64 (Rp l:Nat)]):=by
 refine Ak.walk w1 dU rfl λF=>?_
 have cP:=NI b l (by omega) λx hx=>(hf x hx).1
 have hR:Rq l=if Bv l≠0 then[]else JZ (CJ l):=rfl
 have hE:Rp l=if Bv l≠0 then Bv l else IQ (CJ l):=rfl
 rcases Nat.decEq (Bv l) 0 with g|g
 ·have e1:=GQ g
  rw[AG g]at hR hE;rw[hR,hE];refine AH AZ e1 cP AB AB AB AB AB ?_;exact⟨_,GJ (.nil 2) (.refl _),AA.out,rfl⟩
 have e1:=GR g;rw[AF (λh=>h g)]at hR hE;rw[hR,hE];obtain⟨g1,g2,g3⟩:=Lh g;obtain⟨hx,hK⟩:=W1 hf g2 g1;have cL:=xm b l (by omega) hx;refine AH AZ e1 cP AB AB AB AB AB ?_;refine BE.prop _ _ (Ed.refl _) cL AI ?_;rintro d ⟨m,rfl,hQ⟩;have cA:=YC 32000 (by omega) (CJ l) m hQ (BX hK.len (by omega)) hK.nd;have pM:AA (mapD m):=⟨hQ.mapD⟩
 unfold JY at cA;obtain⟨M,hM⟩:∃M,mapD m=M:=⟨_,rfl⟩
 rw[hM]at cA pM⊢;refine AH AZ kB cA AB AB AB AB AB ?_;exact AL rfl AA.out
def Ei (p:List UInt8×List UInt8):D:=.agg [str (sb p.1),str (sb p.2)]
instance  (p:List UInt8×List UInt8):AT (Ei p):=by unfold Ei;exact AI
instance  (p:List UInt8×List UInt8):AA (Ei p):=by unfold Ei;exact AI
def Av.shB (s:Av):Bool:=decide (s.lot.length<=100)&&decide (s.part.length<=14)
def AD.shB (x:AD):Bool:=decide (x.grain.length<=100)&&(decide (x.shs.length<=8)||decide (64<x.shs.length))&&decide (x.shs.length<=80)&&x.shs.all Av.shB
def Gl (l:List AD):Bool:=l.all AD.shB&&(decide (l.length<=8)||(decide (64<l.length)&&decide (l.length<=80)))
theorem DT.clo2 {H:Hp}{fn:Fn}{c c' x x':D}(h:DT H c c')(k:DT H x x'):DT H (.clo fn [] [c,x]) (.clo fn [] [c',x']):=λC F ρ w m hO hN v hv=>by
 cases hv with
 |clo hf hc h1 h2=>
  refine .clo hf (by simpa using hc) (λi d hd=>by simp at hd) λi d hd=>?_
  match i with
  | 0=>
   simp at hd;subst hd;exact h C F ρ w m hO hN _ (h2 0 _ rfl)
  | 1=>
   simp at hd;subst hd;exact k C F ρ w m hO hN _ (h2 1 _ rfl)
  |i+2=>simp at hd
theorem Ti (b bk:Bool)(T:List D)[pT:AA (.sl b 3 T)]:AK C0 102 [.sl b 3 T,Aq bk] (.clo (.func 142) [] [.pptr (.sl b 3 T),.pptr (Aq bk)]):=by
 refine zf w1 Z4 rfl λF=>?_
 have hp:B6 (.clo (.func 142) [] [.pptr (.sl b 3 T),.pptr (Aq bk)]):=(AI:AA (.clo (.func 142) [] [.pptr (.sl b 3 T),.pptr (Aq bk)])).out;refine fR 0 ?_;refine fR 100 ?_;refine Ai ?_;exact⟨_,.clo2 (.ptr rfl rfl rfl rfl) (.ptr rfl rfl rfl rfl),hp,rfl⟩
theorem VN {E:Ff}{l:Nat}{R:LR}(hE:Ff.ok E)(b bk:Bool)(T:List D)[pT:AA (.sl b 3 T)](hT:∀x∈T,∃a c d,x=.agg [a,c,d])(hl:T.length<=1000000)
  {σ:Type} (S:Nat->σ->Hp) (P:Nat->σ->Prop) (c:Code) (Z:Hp->Prop) (a0:σ) (h0:P 0 a0) (n0:Nat)
  (hY:∀k a x n,P k a->k<T.length->T[if bk then T.length-1-k else k]?=some x->RC C0 E l R [x] (S k a) n (λj H' _=>(j=none/\∃a',P (k+1) a'/\Cm H' (S (k+1) a') H' (S (k+1) a'))\/(j=some c/\Z H'))):
  Oh C0 E 142 [.clo (.yield l) [] [],.pptr (.sl b 3 T),.pptr (Aq bk)] l R (S 0 a0) n0 (λj _ H' _=>(j=none/\∃a,P T.length a/\H'=S T.length a)\/(j=some c/\Z H')):=by
 refine Oh.walk w1 hE ar rfl λB F hR=>?_
 obtain⟨N,hN⟩:∃N,T.length=N:=⟨_,rfl⟩
 rw[hN]at hY hl⊢;have el:((T.length:Nat):Int)=(N:Int):=by rw[hN]
 refine sZ 0 ?_;refine AE el ?_;refine AC.block ?_;refine GY (α:=Nat×σ×Nat) (λp=>⟨[(0,.clo (.yield l) [] []),(1,.pptr (.sl b 3 T)),(2,.pptr (Aq bk)),(6,i64 (N:Int)),(7,i64 (p.1:Int))],S p.1 p.2.1,p.2.2⟩) (λp=>N-p.1)
  (λp F=>Lu C0 E B F l R/\p.1<=N/\P p.1 p.2.1) (0,a0,_) ⟨hR,BU _,h0⟩ AJ ?_
 clear hR;rintro⟨i,a,m⟩ F ⟨hR,h1,hP⟩;dsimp only at h1 hR hP⊢;refine sR 100 ?_;refine AC.seq ?_;refine AM ?_
 (refine By (λh8=>?_) (λh8=>?_))<;>(try simp only[Bj,Bw]at h8)<;>(try simp only[h8])
 ·have hi:i<N:=by
   have:=DE h8
   omega
  have a3:IntKind.i64.wrap ((i:Int)+1)=((i+1:Nat):Int):=wI (by omega) (by omega);have a4:IntKind.i64.wrap ((N:Int)-1)=((N-1:Nat):Int):=by rw[wI (by omega) (by omega)];omega
  have a5:IntKind.i64.wrap (((N-1:Nat):Int)-(i:Int))=((N-1-i:Nat):Int):=by rw[wI (by omega) (by omega)];omega
  have hq:(if bk then N-1-i else i)<T.length:=by rw[hN];split<;>omega
  obtain⟨x,hx⟩:∃x,T[if bk then N-1-i else i]?=some x:=⟨_,A9 hq⟩
  have hy:=λn=>hY i a x n hP hi hx
  obtain⟨x1,x2,x3,rfl⟩:=hT x (Aw hx);refine An ?_;refine AC.seq ?_;refine AC.block ?_;refine sR 200 ?_;refine AC.seq ?_;refine sR 300 ?_;cases bk
  ·replace hx:T[i]?=some (.agg [x1,x2,x3]):=hx
   refine AM ?_;refine An ?_;refine AC.seq ?_;refine fk w1 500 [0,1,2,3,4] 5 [6] rfl (by kernel_rfl) hR ?_;refine BP ?_;refine Bq kT hx ?_;refine And.intro ⟨rfl,trivial⟩ ?_;refine BP ?_;refine⟨rfl,_,hy _,?_,?_⟩
   ·rintro H2 n2 (⟨_,a',hP',hf⟩|⟨h,-⟩)
    rotate_left
    ·cases h
    refine And.intro (by exact CC) ?_;refine At ?_;refine AM ?_;refine An ?_;refine Ao w1 600 (by kernel_rfl) ?_;refine AU a3 ?_;exact⟨(i+1,a',_),⟨hR,hi,hP'⟩,(by dsimp only;omega),AJ (a:=hf)⟩
   ·rintro c2 H2 n2 (⟨h,-⟩|⟨h,hZ⟩) F2 hst
    ·cases h
    cases h;refine BP ?_;refine AM ?_;refine AC.weak ⟨[],H2,_⟩ AJ ?_;refine AC.ret ?_;exact⟨_,hst,trivial,.inr ⟨rfl,hZ⟩⟩
  ·replace hx:T[N-1-i]?=some (.agg [x1,x2,x3]):=hx
   refine AM ?_;refine Ao w1 400 (by kernel_rfl) ?_;refine AU (As a4 a5 el) ?_;refine AC.seq ?_;refine fk w1 500 [0,1,2,3,4] 5 [6] rfl (by kernel_rfl) hR ?_;refine BP ?_;refine Bq kT hx ?_;refine And.intro ⟨rfl,trivial⟩ ?_;refine BP ?_;refine⟨rfl,_,hy _,?_,?_⟩
   ·rintro H2 n2 (⟨_,a',hP',hf⟩|⟨h,-⟩)
    rotate_left
    ·cases h
    refine And.intro (by exact CC) ?_;refine At ?_;refine AM ?_;refine An ?_;refine Ao w1 600 (by kernel_rfl) ?_;refine AU a3 ?_;exact⟨(i+1,a',_),⟨hR,hi,hP'⟩,(by dsimp only;omega),AJ (a:=hf)⟩
   ·rintro c2 H2 n2 (⟨h,-⟩|⟨h,hZ⟩) F2 hst
    ·cases h
    cases h;refine BP ?_;refine AM ?_;refine AC.weak ⟨[],H2,_⟩ AJ ?_;refine AC.ret ?_;exact⟨_,hst,trivial,.inr ⟨rfl,hZ⟩⟩
 ·have hi:i=N:=by
   have:=DS h8
   omega
  subst hi;refine B9 ?_;exact⟨none,hR.stat,trivial,.inl ⟨rfl,a,hP,rfl⟩⟩
def AD.w (x:AD)(m:Int):AD:=⟨x.grain,m,x.shs⟩
def Ec:List AD->Int->List AD
 | [],_=>[]
 |x::r,m=>x.w (min x.mass m)::if m-x.mass<=0 then[]else Ec r (m-x.mass)
def HX (g1:Nat)(p:List AD×Int×Nat):Hp:=Dt 408 p.2.2 80 3 (p.1.map AD.D)++[⟨100,g1,38,1,[Dy 408 p.2.2 3 (p.1.map AD.D)]⟩,⟨0,0,3,1,[i64 p.2.1]⟩]
theorem Zi (g1:Nat)(m:Int)(g:Nat):HX g1 ([],m,g)=[⟨100,g1,38,1,[CT]⟩,⟨0,0,3,1,[i64 m]⟩]:=rfl
theorem Tg (g1:Nat)(z:AD)(o:List AD)(m:Int)(g:Nat):HX g1 (z::o,m,g)=[⟨408,g,80,3,z.D::o.map AD.D⟩,⟨100,g1,38,1,[.osl 408 g 3 0 ((o.map AD.D).length+1)]⟩,⟨0,0,3,1,[i64 m]⟩]:=rfl
def Pt (L:List AD)(m:Int)(k:Nat)(p:List AD×Int×Nat):Prop:=p.1.length=k/\p.1++Ec (L.drop k) p.2.1=Ec L m/\0<=p.2.1/\p.2.1<=1000000000000
def Kp (bk:Bool)(l:List AD):List AD:=if bk then l.reverse else l
theorem vH (bk:Bool)(l:List AD){k:Nat}(hk:k<l.length):(l.map AD.D)[if bk then(l.map AD.D).length-1-k else k]?=((Kp bk l)[k]?).map AD.D:=by
 unfold Kp;rw[Ac,A8];cases bk
 ·rfl
 ·simp only[if_true]
  rw[List.getElem?_reverse hk]
theorem Zg (b bk:Bool)(l:List AD)(m:Int)(hl:l.length<=1000000)(hm:0<=m/\m<=1000000000000)(hx:∀x∈l,0<=x.mass/\x.mass<=1000000000)
  (ho:∀x∈l,∀m,AK C0 94 [x.D,i64 m] (x.w m).D) (R:D) [pR:AA R] (hN:AK C0 62 [Al false (Ec (Kp bk l) m)] R):
  AK C0 105 [Al b l,i64 m,Aq bk] R:=by
 refine Ak.walk w1 Z6 rfl λF=>?_
 have cV:=Ti b bk (l.map AD.D);have hT:∀x∈l.map AD.D,∃a c d,x=.agg [a,c,d]:=λx hx=>by
  obtain⟨y,-,rfl⟩:=List.mem_map.1 hx;exact⟨_,_,_,rfl⟩
 have hoL:∀k,k<l.length->∃x,x∈l/\(Kp bk l)[k]?=some x:=λk hk=>by
  unfold Kp;cases bk
  ·exact⟨_,List.getElem_mem hk,A9 hk⟩
  ·simp only[if_true]
   rw[List.getElem?_reverse hk]
   have:l.length-1-k<l.length:=by omega
   exact⟨_,List.getElem_mem this,A9 this⟩
 have hlen:(Kp bk l).length=l.length:=by unfold Kp;cases bk<;>simp
 obtain⟨L,hL⟩:∃L,Kp bk l=L:=⟨_,rfl⟩
 have hoA:=λk (hk:k<l.length)=>vH bk l hk
 rw[hL]at hoL hoA hN hlen;unfold Al;obtain⟨T,hTT⟩:∃T,l.map AD.D=T:=⟨_,rfl⟩
 have pT:AA (.sl b 3 T):=by rw[<-hTT];exact AI
 have hTl:T.length=l.length:=by rw[<-hTT,Ac]
 rw[hTT]at cV hT hoA⊢;refine sR 0 ?_;refine sR 100 ?_;refine AC.seq ?_;refine sR 200 ?_;refine cI cV ?_;refine AC.block ?_;have h0:Pt L m 0 ([],m,0):=⟨rfl,rfl,hm⟩
 refine AC.rangeFunc (fi:=142) (first:=[]) (captured:=[.pptr (.sl b 3 T),.pptr (Aq bk)]) (Ψ:=λj _ H' _=>(j=none/\∃a,Pt L m T.length a/\H'=HX 2 a)\/(j=some (.exit 0)/\∃m' g,H'=HX 2 (Ec L m,m',g))) rfl
  (λds H n Φ=>∃k a x,Pt L m k a/\k<T.length/\T[if bk then T.length-1-k else k]?=some x/\ds=[x]/\H=HX 2 a/\Φ=λj H' _=>(j=none/\∃a',Pt L m (k+1) a'/\Cm H' (HX 2 a') H' (HX 2 a'))\/(j=some (.exit 0)/\∃m' g,H'=HX 2 (Ec L m,m',g))) ?_
  (λE l' R' hE hY=>VN hE b bk T hT (by omega) (λ_ a=>HX 2 a) (Pt L m) (.exit 0) (λH'=>∃m' g,H'=HX 2 (Ec L m,m',g)) ([],m,0) h0 _ λk a x n hP hk hx=>hY _ _ _ _ ⟨k,a,x,hP,hk,hx,rfl,rfl,rfl⟩) ?_
 ·rintro l' ds H n Φ ⟨k,⟨o,m',g⟩,x,⟨p1,p2,p3,p4⟩,hk,hxT,rfl,rfl,rfl⟩
  dsimp only at p1 p2 p3 p4;obtain⟨y,hy1,hy2⟩:=hoL k (by omega);rw[hoA k (by omega),hy2]at hxT;cases hxT;have hd:L.drop k=y::L.drop (k+1):=by
   have:=(List.getElem?_eq_some_iff.1 hy2)
   rw[ET this.1,this.2]
  rw[hd]at p2;have hb:=hx y hy1;have cO:=ho y hy1 (min y.mass m');have p5:(o++[y.w (min y.mass m')])++(if m'-y.mass<=0 then[]else Ec (L.drop (k+1)) (m'-y.mass))=Ec L m:=by
   rw[<-p2,De];rfl
  have a1:IntKind.i64.wrap (m'-y.mass)=m'-y.mass:=wI (by omega) (by omega);refine⟨rfl,λF=>?_⟩;unfold AD.w AD.D at cO;unfold AD.D;dsimp only at cO⊢;obtain⟨SD,hSD⟩:∃d,Ce false y.shs=d:=⟨_,rfl⟩
  have pS:AA SD:=by rw[<-hSD];exact AI
  rw[hSD]at cO⊢;rcases o with _|⟨z,o⟩
  ·rw[Zi]
   dsimp only[Gp];refine Ao w1 300 (by kernel_rfl) ?_;refine AE kB ?_;refine⟨trivial,trivial,λF'=>?_⟩;refine AC.block ?_;refine AC.seq ?_;refine B7 w1 400 [0,1,2,3,4,5,6,7] [8,9] (by kernel_rfl) ?_;refine BP ?_;refine BZ.same _ (cO) AI ?_;refine BP ?_;refine sZ 500 ?_;refine AU a1 ?_;refine sR 600 ?_;refine AC.weak ⟨[(27,Aq (decide (m'-y.mass<=0)))],[⟨408,n+1+1+10,80,3,[.agg [str (sb y.grain),i64 (min y.mass m'),SD]]⟩,⟨100,2,38,1,[.osl 408 (n+1+1+10) 3 0 1]⟩,⟨0,0,3,1,[i64 (m'-y.mass)]⟩],_⟩ AJ ?_;rw[<-hSD]
   by_cases hz:m'-y.mass<=0
   ·rw[AX hz]
    rw[AG hz,C5]at p5;refine AM ?_;refine B9 ?_;refine .inr ⟨rfl,m'-y.mass,n+1+1+10,?_⟩;rw[<-p5];rfl
   ·rw[Ag hz]
    rw[AF hz]at p5;refine AM ?_;refine An ?_;exact .inl ⟨rfl,([y.w (min y.mass m')],m'-y.mass,n+1+1+10),⟨by rw[<-p1];rfl,p5,by dsimp only;omega,by dsimp only;omega⟩,G7 _⟩
  ·have wl:AA (.sl false 3 ((z::o).map AD.D)):=AI
   have hol:o.length<=1000000:=by rw[Bo]at p1;omega
   rw[Cu]at wl;rw[Tg];dsimp only[Gp];obtain⟨O,hO⟩:∃O,o.map AD.D=O:=⟨_,rfl⟩
   obtain⟨zD,hzD⟩:∃O,z.D=O:=⟨_,rfl⟩
   have hOl:O.length=o.length:=by rw[<-hO,Ac]
   rw[hO,hzD];refine Ao w1 300 (by kernel_rfl) ?_;refine AE kB ?_;refine⟨trivial,trivial,λF'=>?_⟩;refine AC.block ?_;refine AC.seq ?_;refine B7 w1 400 [0,1,2,3,4,5,6,7] [8,9] (by kernel_rfl) ?_;refine BP ?_;refine BZ.same _ (cO) AI ?_;refine BP ?_;rw[show List.take (O.length+1) (zD::O)=zD::O from Cf (l:=zD::O)];refine sZ 500 ?_;refine AU a1 ?_;refine sR 600 ?_;refine AC.weak ⟨[(27,Aq (decide (m'-y.mass<=0)))],[⟨408,n+1+1+10,80,3,zD::O++[.agg [str (sb y.grain),i64 (min y.mass m'),SD]]⟩,⟨100,2,38,1,[.osl 408 (n+1+1+10) 3 0 (O.length+1+1)]⟩,⟨0,0,3,1,[i64 (m'-y.mass)]⟩],_⟩ AJ ?_;have hs:∀g' mm,HX 2 (z::o++[y.w (min y.mass m')],mm,g')=[⟨408,g',80,3,zD::O++[.agg [str (sb y.grain),i64 (min y.mass m'),SD]]⟩,⟨100,2,38,1,[.osl 408 g' 3 0 (O.length+1+1)]⟩,⟨0,0,3,1,[i64 mm]⟩]:=λg' mm=>by
    rw[ED,Tg,<-hO,<-hzD,<-hSD,Cq];rw[Bc];rfl
   rw[<-hs]
   by_cases hz:m'-y.mass<=0
   ·rw[AX hz]
    rw[AG hz,C5]at p5;refine AM ?_;refine B9 ?_;exact .inr ⟨rfl,m'-y.mass,n+1+1+10,by rw[<-p5];rfl⟩
   ·rw[Ag hz]
    rw[AF hz]at p5;refine AM ?_;refine An ?_;exact .inl ⟨rfl,(z::o++[y.w (min y.mass m')],m'-y.mass,n+1+1+10),⟨by rw[<-p1];simp,p5,by dsimp only;omega,by dsimp only;omega⟩,G7 _⟩
 ·rintro j d H' n' F' hE
  have hE2:∃m' g,H'=HX 2 (Ec L m,m',g)/\(j=none\/j=some (.exit 0)):=by
   rcases hE with⟨hj,⟨o,m',g⟩,⟨p1,p2,-,-⟩,rfl⟩|⟨hj,m',g,rfl⟩
   ·refine⟨m',g,?_,.inl hj⟩
    dsimp only at p2;rw[List.drop_eq_nil_of_le (by omega)]at p2;rw[show o=Ec L m by rw[<-p2];exact(C5 o).symm]
   ·exact⟨m',g,rfl,.inr hj⟩
  obtain⟨m',g,rfl,hj⟩:=hE2;obtain⟨o,hO⟩:∃o,Ec L m=o:=⟨_,rfl⟩
  rw[hO]at hN⊢;rcases o with _|⟨z,o⟩
  ·rw[Zi]
   rcases hj with rfl|rfl
   all_goals
    change AC _ _ _ _ _ _ _;refine sR 700 ?_;refine BE.pure [.sl false 3 []] _ ⟨.nil 3,trivial⟩ hN AI ?_;refine BP ?_;refine Ai ?_;exact AL rfl pR.out
  ·have hR:=Gj (H:=HX 2 (z::o,m',g)) (Hf:=[]) (k:=408) (g:=g) (T:=80) (sz:=3) (l:=(z::o).map AD.D) rfl
   have hle:((z::o).map AD.D).length=(o.map AD.D).length+1:=rfl;rw[hle]at hR;rw[Tg]at hR⊢;rcases hj with rfl|rfl
   all_goals
    change AC _ _ _ _ _ _ _;refine sR 700 ?_;refine BE.own _ (NS [] hN (.drop (.drop (.drop .nil))) ⟨hR,trivial⟩ AI) ?_;rintro d H2 n2 ⟨rfl,rfl,rfl⟩;refine BP ?_;refine Ai ?_;exact AL rfl pR.out
abbrev LP:Dr:=[(6,[0,1,2,3,4,5,6,7],[8])]
abbrev Md:Dr:=[(6,[0,1,2,3,4,5,6,7,8,9,10,11,12,13,14,15,16,17,18,19,20,21],[22,23])]
open Go.Proofs Go.RowKit
set_option maxRecDepth 20000
set_option maxHeartbeats 4000000
def GU (s t:Av):Bool:=BK (sb s.lot) (sb t.lot)&&BK (sb s.part) (sb t.part)
def Fh:List Av->List Av->Bool
 | [],[]=>true
 |s::S,t::T=>GU s t&&Fh S T
 |_,_=>false
theorem Tc:∀ {S T:List Av},S.length≠T.length->Fh S T=false
 | [],[],h=>Ad rfl h
 | [],_::_,_=>rfl
 |_::_,[],_=>rfl
 |s::S,t::T,h=>by
  show(GU s t&&Fh S T)=false;rw[Tc (S:=S) (T:=T) λq=>h (congrArg (· + 1) q),Bool.and_false]
theorem MS:∀ {S T:List Av} {i:Nat} {s t:Av},S[i]?=some s->T[i]?=some t->GU s t=false->Fh S T=false
 |s::S,t::T,0,_,_,h1,h2,h=>by
  cases h1;cases h2;show(GU s t&&Fh S T)=false;rw[h,HV]
 |s::S,t::T,i+1,_,_,h1,h2,h=>by
  show(GU s t&&Fh S T)=false;rw[MS (S:=S) (T:=T) (i:=i) h1 h2 h,Bool.and_false]
theorem Tb:∀ {S T:List Av},S.length=T.length->(∀(i:Nat) (s t:Av),S[i]?=some s->T[i]?=some t->GU s t=true)->Fh S T=true
 | [],[],_,_=>rfl
 | [],_::_,h,_=>by cases h
 |_::_,[],h,_=>by cases h
 |s::S,t::T,h,k=>by
  show(GU s t&&Fh S T)=true;rw[k 0 s t rfl rfl,Tb (S:=S) (T:=T) (Nat.succ.inj h) λi s t h1 h2=>k (i+1) s t h1 h2];rfl
theorem d5l (b1 b2:Bool)(S T:List Av)(hS:S.length<=1000000)(hT:T.length<=1000000):AK C0 143 [Ce b1 S,Ce b2 T] (Aq (Fh S T)):=by
 refine Ak.walk w1 au rfl λF=>?_
 have e1:(((S.map Av.D).length:Nat):Int)=(S.length:Int):=by rw[Ac]
 have e2:(((T.map Av.D).length:Nat):Int)=(T.length:Int):=by rw[Ac]
 by_cases hl:S.length=T.length
 rotate_left
 ·have hne:((S.length:Int) != (T.length:Int))=true:=bne_iff_ne.2 (by omega)
  rw[Tc hl];refine AH LP (As e1 e2 hne) AB AB AB AB AB AB ?_;exact AL rfl AA.out
 have hne:((S.length:Int) != (T.length:Int))=false:=by rw[hl];exact bne_self_eq_false _
 refine AH LP (As e1 e2 hne) AB AB AB AB AB AB ?_;refine AC.loop (α:=Nat×Nat) (λp=>⟨[(0,Ce b1 S),(1,Ce b2 T),(12,i64 (S.length:Int)),(13,i64 (p.1:Int))],[],p.2⟩) (λp=>S.length-p.1) (λq=>q.1<=S.length/\∀(j:Nat) (s t:Av),j<q.1->S[j]?=some s->T[j]?=some t->GU s t=true) (0,_) ⟨BU _,λj _ _ h=>Ad h (HR j)⟩ AJ ?_;rintro⟨i,n⟩ F ⟨hi,ha⟩;dsimp only at hi ha⊢;rcases BH i S.length with h2|h2
 rotate_left
 ·have k1:=Cj h2
  rw[Tb hl λj s t h1 h3=>ha j s t (by have:=(List.getElem?_eq_some_iff.1 h1).1;omega) h1 h3];refine AH LP k1 AB AB AB AB AB AB ?_;exact AL rfl AA.out
 have k1:=Ck h2;have wi:=Cc (i:=i) (by omega);obtain⟨x,hx⟩:=CU h2;obtain⟨y,hy⟩:=CU (show i<T.length by omega);have hm:(S.map Av.D)[i]?=some (.agg [str (sb x.lot),str (sb x.part)]):=by rw[A8,hx];rfl
 have hm2:(T.map Av.D)[i]?=some (.agg [str (sb y.lot),str (sb y.part)]):=by rw[A8,hy];rfl
 obtain⟨q1,c1⟩:∃q,BK (sb x.lot) (sb y.lot)=q:=⟨_,rfl⟩
 obtain⟨q2,c2⟩:∃q,BK (sb x.part) (sb y.part)=q:=⟨_,rfl⟩
 have hsh:GU x y=(q1&&q2):=by unfold GU;rw[c1,c2]
 have b1':(!(true&&(true&&true)))=false:=rfl;have b2':(!(true&&(false&&true)))=true:=rfl;have b3':(!(false&&(true&&true)))=true:=rfl;have b4':(!(false&&(false&&true)))=true:=rfl;cases q1<;>cases q2
 ·rw[MS hx hy hsh]
  refine AH LP (CO k1 wi c1 c2 b1' b2' (As b3' b4' kN)) hm hm2 AB AB AB AB ?_;exact AL rfl AA.out
 ·rw[MS hx hy hsh]
  refine AH LP (CO k1 wi c1 c2 b1' b2' (As b3' b4' kN)) hm hm2 AB AB AB AB ?_;exact AL rfl AA.out
 ·rw[MS hx hy hsh]
  refine AH LP (CO k1 wi c1 c2 b1' b2' (As b3' b4' kN)) hm hm2 AB AB AB AB ?_;exact AL rfl AA.out
 ·refine AH LP (CO k1 wi c1 c2 b1' b2' (As b3' b4' kN)) hm hm2 AB AB AB AB ?_
  refine⟨(i+1,_),⟨h2,λj s t hj h1 h3=>?_⟩,by dsimp only;omega,AJ⟩;rcases BH j i with h|h
  ·exact ha j s t h h1 h3
  ·have:j=i:=by dsimp only at hj;omega
   subst this;rw[hx]at h1;rw[hy]at h3;cases h1;cases h3;exact hsh
def Ft (x y:AD):Bool:=BK (sb x.grain) (sb y.grain)&&Fh x.shs y.shs
theorem py (b1 b2:Bool)(S T:List Av)(hS:S.length<=1000000)(hT:T.length<=1000000):AK C0 45 [Ce b1 S,Ce b2 T] (Aq (Fh S T)):=by
 refine Ak.walk w1 dZ rfl λF=>?_
 have e1:(((S.map Av.D).length:Nat):Int)=(S.length:Int):=by rw[Ac]
 have e2:(((T.map Av.D).length:Nat):Int)=(T.length:Int):=by rw[Ac]
 by_cases hl:S.length=T.length
 rotate_left
 ·have hne:((S.length:Int) != (T.length:Int))=true:=bne_iff_ne.2 (by omega)
  rw[Tc hl];refine AH Md (As e1 e2 hne) AB AB AB AB AB AB ?_;exact AL rfl AA.out
 have hne:((S.length:Int) != (T.length:Int))=false:=by rw[hl];exact bne_self_eq_false _
 refine AH Md (As e1 e2 hne) AB AB AB AB AB AB ?_;refine AC.loop (α:=Nat×Nat) (λp=>⟨[(0,Ce b1 S),(1,Ce b2 T),(5,i64 (p.1:Int))],[],p.2⟩) (λp=>S.length-p.1) (λq=>q.1<=S.length/\∀(j:Nat) (s t:Av),j<q.1->S[j]?=some s->T[j]?=some t->GU s t=true) (0,_) ⟨BU _,λj _ _ h=>Ad h (HR j)⟩ AJ ?_;rintro⟨i,n⟩ F ⟨hi,ha⟩;dsimp only at hi ha⊢;rcases BH i S.length with h2|h2
 rotate_left
 ·have k1:=Cj h2
  rw[Tb hl λj s t h1 h3=>ha j s t (by have:=(List.getElem?_eq_some_iff.1 h1).1;omega) h1 h3];refine AH Md (Ah e1 k1) AB AB AB AB AB AB ?_;exact AL rfl AA.out
 have k1:=Ck h2;have wi:=Cc (i:=i) (by omega);obtain⟨x,hx⟩:=CU h2;obtain⟨y,hy⟩:=CU (show i<T.length by omega);have hm:(S.map Av.D)[i]?=some (.agg [str (sb x.lot),str (sb x.part)]):=by rw[A8,hx];rfl
 have hm2:(T.map Av.D)[i]?=some (.agg [str (sb y.lot),str (sb y.part)]):=by rw[A8,hy];rfl
 obtain⟨q1,c1⟩:∃q,BK (sb x.lot) (sb y.lot)=q:=⟨_,rfl⟩
 obtain⟨q2,c2⟩:∃q,BK (sb x.part) (sb y.part)=q:=⟨_,rfl⟩
 have hsh:GU x y=(q1&&q2):=by unfold GU;rw[c1,c2]
 cases q1
 ·rw[MS hx hy hsh]
  refine AH Md (CO e1 k1 wi c1 kN kT kF) hm hm2 AB AB AB AB ?_;exact AL rfl AA.out
 cases q2
 ·rw[MS hx hy hsh]
  refine AH Md (CO e1 k1 wi c1 c2 kN (Ah kT kF)) hm hm2 AB AB AB AB ?_;exact AL rfl AA.out
 ·refine AH Md (CO e1 k1 wi c1 c2 kN (Ah kT kF)) hm hm2 AB AB AB AB ?_
  refine⟨(i+1,_),⟨h2,λj s t hj h1 h3=>?_⟩,by dsimp only;omega,AJ⟩;rcases BH j i with h|h
  ·exact ha j s t h h1 h3
  ·have:j=i:=by dsimp only at hj;omega
   subst this;rw[hx]at h1;rw[hy]at h3;cases h1;cases h3;exact hsh
theorem qr (x y:AD)(hx:x.shs.length<=1000000)(hy:y.shs.length<=1000000):AK C0 67 [x.D,y.D] (Aq (Ft x y)):=by
 refine Ak.walk w1 dw rfl λF=>?_
 have c:=py false false x.shs y.shs hx hy;obtain⟨q,hq⟩:∃q,BK (sb x.grain) (sb y.grain)=q:=⟨_,rfl⟩
 have hb:Ft x y=(q&&Fh x.shs y.shs):=by unfold Ft;rw[hq]
 rw[hb];unfold AD.D;unfold Ce at c⊢;obtain⟨S,hS⟩:∃S,x.shs.map Av.D=S:=⟨_,rfl⟩
 have pS:AA (.sl false 2 S):=by rw[<-hS];exact AI
 obtain⟨T,hT⟩:∃S,y.shs.map Av.D=S:=⟨_,rfl⟩
 have pT:AA (.sl false 2 T):=by rw[<-hT];exact AI
 rw[hS,hT]at c⊢;cases q
 ·refine AH AZ (As hq kT kF) c AB AB AB AB AB ?_
  exact AL rfl AA.out
 ·refine AH AZ (As hq kT kF) c AB AB AB AB AB ?_
  exact AL rfl AA.out
def R1 (H:Hp)(env:Ar):Ar->Prop
 | []=>True
 |(t,d)::r=>DT H (env.get t) d/\R1 H env r
theorem R1.get {H:Hp}{env:Ar}:∀ {env':Ar},R1 H env env'->∀t,DT H (env.get t) (env'.get t)
 | [],_,t=>λ_ _ _ _ _ _ _ v _=>.any v
 |(k,d)::r,h,t=>by
  simp only[Ar.get];cases hb:Nat.beq k t with
  |true=>
   have:=B5 hb
   subst this;exact h.1
  |false=>exact h.2.get t
theorem fv {C:BC}{B F:Aa}{rd:Option Nat}{c:Code}{s:St}{Q:Exit->Aa->St->Prop}(env':Ar)(he:R1 s.H s.env env')(h:AC C B rd F c ⟨env',[],s.n⟩ Q):AC C B rd F c s Q:=⟨λhB hd ρ a w hs=>by
 have hH:Cm s.H [] s.H []:=by
  generalize s.H=H0
  have:∀H1:Hp,Cm H0 [] H1 []:=λH1=>by
   induction H1 with
   |nil=>exact .nil
   |cons e r ih=>exact .drop ih
  exact this H0
 obtain⟨m,hO,hN⟩:=hH.mem hs.mem;exact h.out hB hd ρ a w ⟨m,hs.fresh,by simp,λt=>he.get t _ _ _ _ hs.mem hO (λe he b hb=>hN e he b hb rfl) _ (hs.env t),hs.nt,hs.dfr⟩⟩
theorem RK (B:D)[pB:AA B][pC:AT B](hB:∃a b c d e,B=.agg [a,b,c,d,e])(b:Bool)(ls:List D)[pL:AA (.sl b 1 ls)](i:Nat)(x:Int)(hx:ls[i]?=some (i64 x))(R:D)[pR:AA R](m:Int)
  (cB:AK C0 92 [.sl b 1 ls,i64 (i:Int),.clo (.func 96) [] [.pptr (.sl b 1 ls),.pptr (i64 (i:Int)),.pptr B]] R)
  (cL:AK C0 91 [i64 x,R] (i64 m)):AK C0 49 [B,.sl b 1 ls,i64 (i:Int)] (i64 m):=by
 refine Ak.walk w1 d6 rfl λF=>?_
 obtain⟨a1,a2,a3,a4,a5,rfl⟩:=hB;refine sR 0 ?_;refine AC.seq ?_;refine fv [(3,.pptr (.agg [a1,a2,a3,a4,a5])),(4,.pptr (.sl b 1 ls)),(5,.pptr (i64 (i:Int)))] ⟨.ptr rfl rfl rfl rfl,.ptr rfl rfl rfl rfl,.ptr rfl rfl rfl rfl,trivial⟩ ?_;refine B7 w1 100 [0,1,2,3,4,5,6,7] [8,9] (by kernel_rfl) ?_;refine BP ?_;refine Bq kT hx ?_;refine AE kB ?_;refine BZ.same _ (cB) AI ?_;refine BP ?_;refine cI cL ?_;refine Ai ?_;exact AL rfl AA.out
theorem qF (B:D)[pB:AA B][pC:AT B](a1 a2 a4 a5:D)(room:Int)(hB:B=.agg [a1,a2,i64 room,a4,a5])(ls:List D)[pL:AA (.sl false 1 ls)](i:Nat)(x:Int)(hx:ls[i]?=some (i64 x))(R:D)[pR:AA R](m:Int)
  (cC:AK C0 55 [B,.sl true 1 [i64 (i:Int)]] (i64 0)) (cV:AK C0 48 [B] (.sl false 1 ls))
  (cB:AK C0 92 [.sl false 1 ls,i64 (i:Int),.clo (.func 93) [] [.pptr B,.pptr (.sl false 1 ls),.pptr (i64 (i:Int))]] R) (r:Int) (hr:IntKind.i64.wrap (room-x)=r)
  (cL:AK C0 91 [i64 r,R] (i64 m)):AK C0 43 [B,i64 (i:Int)] (.tup [i64 m,i64 0]):=by
 refine Ak.walk w1 dW rfl λF=>?_
 have e0:((0:Int) != 0)=false:=rfl;subst hB;refine sR 0 ?_;refine AC.seq ?_;refine sR 100 ?_;refine cI cC ?_;refine sZ 200 ?_;refine AU e0 ?_;refine AM ?_;refine An ?_;refine sR 400 ?_;refine cI cV ?_;refine AC.seq ?_;refine fv [(2,.pptr (.agg [a1,a2,i64 room,a4,a5])),(3,.pptr (i64 (i:Int))),(7,.pptr (.sl false 1 ls))] ⟨.ptr rfl rfl rfl rfl,.ptr rfl rfl rfl rfl,.ptr rfl rfl rfl rfl,trivial⟩ ?_;refine B7 w1 500 [0,1,2,3,4,5,6,7,8,9,10] [11,12,13] (by kernel_rfl) ?_;refine BP ?_;refine Bq kT hx ?_;refine AE hr ?_;refine BZ.same _ (cB) AI ?_;refine BP ?_;refine cI cL ?_;refine Ai ?_;exact AL rfl AA.out
abbrev Bk (l:List Int):List D:=l.map λx=>i64 x
theorem jB (a1 a2 a3 a4:D)[AA a1][AA a2][AA a3][AA a4](b:Bool)(cs:List D)[pc:AA (.sl b 1 cs)](ls:List Int)(hlen:ls.length=cs.length)(h0:cs≠[])(hl:cs.length<=1000000)
  (hc:∀(i:Nat) (c:D) (m:Int),cs[i]?=some c->ls[i]?=some m->AK C0 57 [c] (i64 m)) (hp:∀c∈cs,∃bb l,c=.sl bb 3 l/\AA c) (g0:Nat) (x:D) (n:Nat):
  Cd C0 48 [.agg [a1,a2,a3,a4,.sl b 1 cs]] [⟨0,g0,24,5,[x]⟩] n (λd H' _=>∃g,d=.osl 504 g 1 0 ls.length/\H'=[⟨504,g,3,1,Bk ls⟩,⟨0,g0,24,5,[x]⟩]):=by
 refine Cd.walk w1 VI rfl λF=>?_
 refine AH AZ kB AB AB AB AB AB AB ?_;refine AC.loop (α:=Nat×Nat×Nat) (λp=>⟨[(3,Dy 504 p.2.1 1 (Bk (ls.take p.1))),(7,.sl b 1 cs),(8,i64 (cs.length:Int)),(9,i64 (p.1:Int))],Dt 504 p.2.1 3 1 (Bk (ls.take p.1))++[⟨0,g0,24,5,[x]⟩],p.2.2⟩) (λp=>cs.length-p.1) (λq=>q.1<=cs.length) (0,0,_) (BU _) AJ ?_;rintro⟨i,g,n⟩ F hi;dsimp only at hi⊢;rcases BH i cs.length with h2|h2
 rotate_left
 ·have e1:=Cj h2
  have hi2:i=cs.length:=by omega
  rw[B8 (by omega:ls.length<=i)];have hls:ls≠[]:=λh=>h0 (FU (by rw[<-hlen,h];rfl))
  obtain⟨z,r,rfl⟩:∃z r,ls=z::r:=by
   cases ls with
   |nil=>exact Ad rfl hls
   |cons z r=>exact⟨z,r,rfl⟩
  rw[show Bk (z::r)=i64 z::Bk r from rfl,Hb,Hc,ED,EZ];refine AH AZ e1 AB AB AB AB AB AB ?_;exact⟨_,by rw[Ac],rfl⟩
 have e1:=Ck h2;have wi:=Cc (i:=i) (by omega);obtain⟨c,hm⟩:=CU h2;obtain⟨m,hm2⟩:=CU (show i<ls.length by omega);obtain⟨bb,cl,rfl,pcl⟩:=hp c (Aw hm);have cT:=hc i _ m hm hm2;have ht:ls.take (i+1)=ls.take i++[m]:=by rw[Da,hm2];rfl
 obtain⟨R,hR⟩:∃R,ls.take i=R:=⟨_,rfl⟩
 rw[hR]at ht⊢;rcases R with _|⟨z,R⟩
 ·rw[show Bk []=[]from rfl,Io,Ip,EZ]
  refine AH AZ (As e1 wi kN) hm cT AB AB AB AB ?_;refine⟨(i+1,n+1+1+1+1+1+1+1+1,n+1+1+1+1+1+1+1+1+1+1+1+1),h2,by dsimp only;omega,?_⟩;dsimp only;rw[ht];exact AJ
 ·rw[show Bk (z::R)=i64 z::Bk R from rfl,Hb,Hc,ED,EZ]
  obtain⟨O,hO⟩:∃O,Bk R=O:=⟨_,rfl⟩
  have hOl:O.length+1=i:=by
   rw[<-hO,Ac]
   have:(z::R).length=i:=by rw[<-hR,Bd];omega
   exact this
  rw[hO];refine AH AZ (As e1 wi kN) hm cT AB AB AB AB ?_;refine⟨(i+1,n+1+1+1+1+1+1+1+1,n+1+1+1+1+1+1+1+1+1+1+1+1),h2,by dsimp only;omega,?_⟩;dsimp only;rw[ht,show Bk (z::R++[m])=i64 z::O++[i64 m]from by rw[<-hO];unfold Bk;rw[Cq];rfl];rw[ED,Hb,Hc,Bc];rw[show List.take (O.length+1) (i64 z::O)=i64 z::O from Cf (l:=i64 z::O)];exact AJ
def PG (k g sz:Nat)(env:Ar):Ar->Prop
 | []=>True
 |(t,d)::r=>(d=env.get t\/(env.get t=CT/\d=.osl k g sz 0 0))/\PG k g sz env r
theorem PG.get {k g sz:Nat}{env:Ar}:∀ {env':Ar},PG k g sz env env'->∀t,env'.get t=.any\/env'.get t=env.get t\/(env.get t=CT/\env'.get t=.osl k g sz 0 0)
 | [],_,t=>.inl rfl
 |(q,d)::r,h,t=>by
  rw[IY]
  by_cases hk:q=t
  ·subst hk;rw[AG rfl];exact .inr h.1
  ·rw[AF hk];exact PG.get h.2 t
theorem AC.ghost {C:BC}{B F:Aa}{rd:Option Nat}{c:Code}{s:St}{Q:Exit->Aa->St->Prop}(k T sz:Nat)(env':Ar)(he:PG k s.n sz s.env env')(h:AC C B rd F c ⟨env',⟨k,s.n,T,sz,[]⟩::s.H,s.n+1⟩ Q):AC C B rd F c s Q:=⟨λhB hd ρ a w hs=>by
 obtain⟨m1,hO⟩:=hs.mem.ghost (k:=k) (n:=s.n) (T:=T) (sz:=sz) (hs.fresh k _ (Af _));refine h.out hB hd ρ a w ⟨m1,λk g hg=>hs.fresh k g (by dsimp only at hg;omega),λe he=>?_,λt=>?_,hs.nt,hs.dfr⟩
 ·rcases BG.1 he with rfl|he
  ·exact HQ _
  ·exact DJ (hs.gen e he)
 ·have hr:=hs.env t
  dsimp only;rw[hO];rcases he.get t with h|h|⟨h1,h2⟩
  ·rw[h];exact .any _
  ·rw[h];exact hr
  ·rw[h2]
   rw[h1]at hr;generalize a.tmps.getD t undef=v at hr⊢;cases hr;exact .onil _ _ _⟩
def FF (l:List Int):Nat->Nat
 | 0=>0
 |k+1=>if l.getD (FF l k) 0<l.getD k 0 then k else FF l k
def Bs (l:List Int):Nat:=FF l l.length
theorem Ol {l:List Int}(h:0<l.length):∀k,k<=l.length->FF l k<l.length
 | 0,_=>h
 |k+1,hk=>by
  unfold FF;split
  ·omega
  ·exact Ol h k (by omega)
def D5 (mf:List Int->Int):Nat->List Int->List (Nat×Int)->List (Nat×Int)×Int
 | 0,_,_=>([],19)
 |k+1,l,out=>if l.getD (Bs l) 0=0 then(out,0)else if mf l=0 then([],7)else if out.length=256 then([],19)else D5 mf k (l.set (Bs l) (l.getD (Bs l) 0-mf l)) (out++[(Bs l,mf l)])
def GA (p:Nat×Int):D:=.agg [i64 (p.1:Int),i64 p.2]
instance  (p:Nat×Int):AT (GA p):=by unfold GA;exact AI
instance  (p:Nat×Int):AA (GA p):=by unfold GA;exact AI
theorem O8 {l:List Int}{i:Nat}(h:i<l.length):(Bk l)[i]?=some (i64 (l.getD i 0)):=by
 rw[A8,DR,A9 h];rfl
theorem Y6 (a1 a2 a3 a4:D)[AA a1][AA a2][AA a3][AA a4](b:Bool)(cs:List D)[pc:AA (.sl b 1 cs)](ls:List Int)(hlen:ls.length=cs.length)(h0:cs≠[])(hl:cs.length<=1000000)
  (hc:∀(i:Nat) (c:D) (m:Int),cs[i]?=some c->ls[i]?=some m->AK C0 57 [c] (i64 m)) (hp:∀c∈cs,∃bb l,c=.sl bb 3 l/\AA c)
  (cK:AK C0 47 [.agg [a1,a2,a3,a4,.sl b 1 cs]] (i64 0))
  (mf:List Int->Int) (I:List Int->Prop) (hI0:I ls) (hI:∀l,I l->l.getD (Bs l) 0≠0->AK C0 49 [.agg [a1,a2,a3,a4,.sl b 1 cs],.sl false 1 (Bk l),i64 ((Bs l:Nat):Int)] (i64 (mf l))/\IntKind.i64.wrap (l.getD (Bs l) 0-mf l)=l.getD (Bs l) 0-mf l/\I (l.set (Bs l) (l.getD (Bs l) 0-mf l))):
  AK C0 11 [.agg [a1,a2,a3,a4,.sl b 1 cs]] (.tup [.sl false 2 ((D5 mf 257 ls []).1.map GA),i64 (D5 mf 257 ls []).2]):=by
 refine Ak.walk w1 VH rfl λF=>?_
 have e0:((0:Int) != 0)=false:=rfl;have cL:=λn=>jB a1 a2 a3 a4 b cs ls hlen h0 hl hc hp 0 (.agg [a1,a2,a3,a4,.sl b 1 cs]) n
 refine AH AZ e0 cK AB AB AB AB AB ?_;refine BE.own _ (cL _) ?_;rintro d H' n' ⟨g,rfl,rfl⟩;refine AH AZ kB AB AB AB AB AB AB ?_;obtain⟨N,hN⟩:∃N,ls.length=N:=⟨_,rfl⟩
 have hN0:0<N:=by rw[<-hN,hlen];exact List.length_pos_iff.2 h0
 have hN1:N<=1000000:=by omega
 rw[hN];clear cL cK hc hp;refine AC.ghost 2005 35 2 [(1,.optr 0 0 5 0 0),(5,.osl 2005 _ 2 0 0),(6,.osl 504 g 1 0 N)] ⟨.inl rfl,.inr ⟨rfl,rfl⟩,.inl rfl,trivial⟩ ?_;refine AC.loop (α:=List Int×List (Nat×Int)×Nat×Nat) (λp=>⟨[(1,.optr 0 0 5 0 0),(5,.osl 2005 p.2.2.1 2 0 p.2.1.length),(6,.osl 504 g 1 0 N)],[⟨2005,p.2.2.1,35,2,p.2.1.map GA⟩,⟨504,g,3,1,Bk p.1⟩,⟨0,0,24,5,[.agg [a1,a2,a3,a4,.sl b 1 cs]]⟩],p.2.2.2⟩) (λp=>257-p.2.1.length)
  (λp=>p.1.length=N/\I p.1/\p.2.1.length<=256/\D5 mf (257-p.2.1.length) p.1 p.2.1=D5 mf 257 ls []) (ls,[],_,_) ⟨hN,hI0,BU _,rfl⟩ AJ ?_
 rintro⟨l,out,go,n⟩ F ⟨hl1,hIl,ho,hR⟩;dsimp only at hl1 hIl ho hR⊢;obtain⟨OD,hOD⟩:∃O,out.map GA=O:=⟨_,rfl⟩
 have hODl:OD.length=out.length:=by rw[<-hOD,Ac]
 rw[hOD];obtain⟨L,hL⟩:∃L,Bk l=L:=⟨_,rfl⟩
 have hLl:L.length=N:=by rw[<-hL,Ac,hl1]
 rw[hL];refine AH AZ kB AB AB AB AB AB AB ?_;refine AC.loop (α:=Nat×Nat) (λp=>⟨[(1,.optr 0 0 5 0 0),(5,.osl 2005 go 2 0 out.length),(6,.osl 504 g 1 0 N),(18,.osl 504 g 1 0 N),(19,i64 (N:Int)),(20,i64 (p.1:Int)),(7,i64 ((FF l p.1:Nat):Int))],[⟨2005,go,35,2,OD⟩,⟨504,g,3,1,L⟩,⟨0,0,24,5,[.agg [a1,a2,a3,a4,.sl b 1 cs]]⟩],p.2⟩) (λp=>N-p.1) (λq=>q.1<=N) (0,_) (BU _) AJ ?_;rintro⟨k,n⟩ F hk;dsimp only at hk⊢;rcases BH k N with h2|h2
 ·have e1:=Ck h2
  have wi:=Cc (i:=k) (by omega);have hm:=O8 (l:=l) (i:=k) (by omega);have hq:=Ol (l:=l) (by omega) k (by omega);have hm2:=O8 hq;obtain⟨u,hu⟩:∃u,l.getD k 0=u:=⟨_,rfl⟩
  obtain⟨v,hv⟩:∃v,l.getD (FF l k) 0=v:=⟨_,rfl⟩
  have hs:FF l (k+1)=if v<u then k else FF l k:=by rw[<-hu,<-hv];rfl
  rw[hu]at hm;rw[hv]at hm2;obtain⟨q,hq2⟩:∃q,FF l k=q:=⟨_,rfl⟩
  rw[hq2]at hm2 hs hq⊢;rw[hL]at hm hm2
  by_cases hlt:v<u
  ·have e2:decide (u>v)=true:=AX hlt
   rw[AG hlt]at hs;refine AH AZ (CO e1 e2 wi kN BV hm hm2) AB AB AB AB AB AB ?_;refine⟨(k+1,n+1000),h2,by dsimp only;omega,?_⟩;dsimp only;rw[hs];exact AJ
  ·have e2:decide (u>v)=false:=Ag hlt
   rw[AF hlt]at hs;refine AH AZ (CO e1 e2 wi kN BV hm hm2) AB AB AB AB AB AB ?_;refine⟨(k+1,n+1000),h2,by dsimp only;omega,?_⟩;dsimp only;rw[hs];exact AJ
 have e1:=Cj h2
 have:k=N:=by omega
 subst this;have hq:=Ol (l:=l) (by omega) k (by omega);have hm:=O8 hq;have hmI:FF l k=Bs l:=by unfold Bs;rw[hl1]
 rw[hmI]at hq hm⊢;have hIm:=hI l hIl;have hRs:D5 mf (257-out.length) l out=if l.getD (Bs l) 0=0 then(out,0)else if mf l=0 then([],7)else if out.length=256 then([],19)else D5 mf (256-out.length) (l.set (Bs l) (l.getD (Bs l) 0-mf l)) (out++[(Bs l,mf l)]):=by
  rw[show 257-out.length=(256-out.length)+1 by omega];rfl
 rw[hR]at hRs;obtain⟨q,hq2⟩:∃q,Bs l=q:=⟨_,rfl⟩
 rw[hq2]at hq hm hIm hRs⊢;obtain⟨v,hv⟩:∃v,l.getD q 0=v:=⟨_,rfl⟩
 rw[hv]at hm hIm hRs;rw[hL]at hm
 by_cases hv0:v=0
 ·have e2:(v==0)=true:=by rw[hv0];rfl
  rw[AG hv0]at hRs;rw[hRs];refine AH AZ (CH e1 e2 kN BV hm) AB AB AB AB AB AB ?_;have hf:=Gj (H:=[⟨2005,go,35,2,OD⟩,⟨504,g,3,1,L⟩,⟨0,0,24,5,[.agg [a1,a2,a3,a4,.sl b 1 cs]]⟩]) (Hf:=[]) (k:=2005) (g:=go) (T:=35) (sz:=2) (l:=OD) rfl;rw[hODl]at hf;rw[hOD];have pO:AA (.sl false 2 OD):=by rw[<-hOD];exact AI
  exact⟨_,GJ hf (.refl _),AA.out,rfl⟩
 rw[AF hv0]at hRs;have e2:(v==0)=false:=Br.2 hv0;obtain⟨cM,wm,hI'⟩:=hIm hv0;obtain⟨m,hmm⟩:∃m,mf l=m:=⟨_,rfl⟩
 rw[hmm]at cM wm hI' hRs;have pL:AA (.sl false 1 (Bk l)):=AI;rw[hL]at cM pL;have hfL:=Gj (H:=[⟨2005,go,35,2,OD⟩,⟨504,g,3,1,L⟩,⟨0,0,24,5,[.agg [a1,a2,a3,a4,.sl b 1 cs]]⟩]) (Hf:=[]) (k:=504) (g:=g) (T:=3) (sz:=1) (l:=L) rfl;rw[hLl]at hfL;refine AH AZ (CH e1 e2 kN BV hm) AB AB AB AB AB AB ?_;refine BE.own _ (NT (H:=[⟨2005,go,35,2,OD⟩,⟨504,g,3,1,L⟩,⟨0,0,24,5,[.agg [a1,a2,a3,a4,.sl b 1 cs]]⟩]) cM rfl (λi a d h1 h2=>by
  match i with
  | 0=>cases h1;cases h2;exact .refl _ _
  | 1=>cases h1;cases h2;exact .of hfL
  | 2=>cases h1;cases h2;exact .refl _ _
  |n+3=>cases h1) AI (.prim _)) ?_
 rintro d H' n' ⟨rfl,rfl,rfl⟩
 by_cases hm0:m=0
 ·have e3:(m==0)=true:=by rw[hm0];rfl
  rw[AG hm0]at hRs;rw[hRs];refine AH AZ e3 AB AB AB AB AB AB ?_;exact⟨_,GJ (.nil 2) (.refl _),AA.out,rfl⟩
 rw[AF hm0]at hRs;have e3:(m==0)=false:=Br.2 hm0
 by_cases h256:out.length=256
 ·have e4:((out.length:Int)==256)=true:=by rw[h256];rfl
  rw[AG h256]at hRs;rw[hRs];refine AH AZ (Ah e3 e4) AB AB AB AB AB AB ?_;exact⟨_,GJ (.nil 2) (.refl _),AA.out,rfl⟩
 rw[AF h256]at hRs;have e4:((out.length:Int)==256)=false:=Br.2 (by omega);refine AH AZ (Dp e3 e4 wm kN BV hm) AB AB AB AB AB AB ?_;have hle:out.length<256:=by omega
 refine⟨(l.set q (v-m),out++[(q,m)],n+1+1+1+1+1+1+1+1+1+1+1+1+1+1+1+1+1+1+1+1+1,n+1000),⟨by rw[DH];exact hl1,?_,by rw[Bc];exact hle,?_⟩,?_,?_⟩
 ·exact hI'
 ·dsimp only
  rw[hRs,Bc];rw[show 257-(out.length+[(q,m)].length)=256-out.length by simp only[Bo,HN];omega]
 ·dsimp only
  rw[Bc];simp only[Bo,HN];omega
 ·dsimp only
  rw[Bc,Cq,hOD,B8 (show OD.length<=out.length by omega)];rw[show Bk (l.set q (v-m))=L.set q (i64 (v-m))from by rw[<-hL];unfold Bk;rw[List.map_set]];exact AJ
def Ci (out:List AD)(x:AD):List AD:=match out.getLast? with
 |some y=>if Ft y x then out.dropLast++[y.w (y.mass+x.mass)]else out++[x]
 |none=>[x]
def BS (l:List AD):List AD:=l.foldl Ci []
theorem mQ {l:List AD}{i:Nat}{x:AD}(h:l[i]?=some x):(l.take (i+1)).foldl Ci []=Ci ((l.take i).foldl Ci []) x:=by
 rw[Da,h];simp
theorem kJ {R:List AD}{y x:AD}(h:R[R.length-1]?=some y):Ci R x=if Ft y x then R.dropLast++[y.w (y.mass+x.mass)]else R++[x]:=by
 unfold Ci;rw[List.getLast?_eq_getElem?,h]
theorem nM {R:List AD}{y z:AD}(h:R[R.length-1]?=some y):R.set (R.length-1) z=R.dropLast++[z]:=by
 have hl:=(List.getElem?_eq_some_iff.1 h).1;rw[List.set_eq_take_append_cons_drop,AG hl,List.dropLast_eq_take];rw[show R.length-1+1=R.length by omega,JA]
def VX (l:List AD)(i:Nat)(R:List AD):Prop:=R=(l.take i).foldl Ci []/\R.length<=i/\∀y∈R,0<=y.mass/\y.mass<=(i:Int)*1000000000/\y.shs.length<=1000000
def SE (i:Nat)(R:List AD):Prop:=R.length<=i/\∀y∈R,0<=y.mass/\y.mass<=(i:Int)*1000000000/\y.shs.length<=1000000
theorem XJ {i:Nat}{R:List AD}{x:AD}(hJ:SE i R)(hm:0<=x.mass/\x.mass<=1000000000/\x.shs.length<=1000000):SE (i+1) (Ci R x):=by
 obtain⟨h2,h3⟩:=hJ;refine⟨?_,?_⟩
 ·unfold Ci
  split
  ·split
   ·rw[Bc,List.length_dropLast];simp;omega
   ·rw[Bc];simp;omega
  ·simp
 ·have hR:∀y∈R,0<=y.mass/\y.mass<=((i+1:Nat):Int)*1000000000/\y.shs.length<=1000000:=λy hy=>by
   obtain⟨a,b,c⟩:=h3 y hy;exact⟨a,by omega,c⟩
  have hxx:0<=x.mass/\x.mass<=((i+1:Nat):Int)*1000000000/\x.shs.length<=1000000:=⟨by omega,by omega,hm.2.2⟩
  intro z hz;unfold Ci at hz;split at hz
  ·rename_i y hy
   have hyR:=List.mem_of_getLast? hy;split at hz
   ·rcases List.mem_append.1 hz with hz|hz
    ·exact hR z ((List.dropLast_sublist R).subset hz)
    ·obtain rfl:=List.mem_singleton.1 hz
     obtain⟨a,b,c⟩:=h3 y hyR;refine⟨?_,?_,c⟩
     ·show 0<=y.mass+x.mass;omega
     ·show y.mass+x.mass<=_;omega
   ·rcases List.mem_append.1 hz with hz|hz
    ·exact hR z hz
    ·obtain rfl:=List.mem_singleton.1 hz;exact hxx
  ·obtain rfl:=List.mem_singleton.1 hz;exact hxx
theorem kH {l:List AD}{i:Nat}{R:List AD}{x:AD}(hJ:VX l i R)(hx:l[i]?=some x)(hm:1<=x.mass/\x.mass<=1000000000/\x.shs.length<=1000000):VX l (i+1) (Ci R x):=
 ⟨by rw[mQ hx,<-hJ.1],XJ hJ.2 ⟨by omega,hm.2⟩⟩
def K4 (l:List AD):List AD:=l.filter λx=>x.mass != 0
abbrev Qr:Dr:=[(6,[0,1,2,3,4,5,6,7,8,9,10,11],[12,13]),(7,[0,1,2,3,4,5,6,7,8,9,10,11,12,13,14],[15,16,17])]
open Go.Proofs Go.RowKit
set_option maxRecDepth 20000
set_option maxHeartbeats 4000000
theorem Qu (b:Bool)(l:List AD)(hl:l.length<=1000000)(hx:∀x∈l,1<=x.mass/\x.mass<=1000000000/\x.shs.length<=1000000):AK C0 21 [Al b l] (Al false (BS l)):=by
 refine Ak.walk w1 xG rfl λF=>?_
 have el:(((l.map AD.D).length:Nat):Int)=(l.length:Int):=by rw[Ac]
 refine sR 0 ?_;refine sR 100 ?_;refine AC.seq ?_;refine sR 200 ?_;refine AC.ghost 906 80 3 [(0,Al b l),(3,.osl 906 _ 3 0 0),(4,i64 ((0:Nat):Int))] ⟨.inl rfl,.inr ⟨rfl,rfl⟩,.inl rfl,trivial⟩ ?_;refine AC.block ?_;refine AC.loop (α:=Nat×List AD×Nat×Nat) (λp=>⟨[(0,Al b l),(3,.osl 906 p.2.2.1 3 0 p.2.1.length),(4,i64 (p.1:Int))],[⟨906,p.2.2.1,80,3,p.2.1.map AD.D⟩],p.2.2.2⟩) (λp=>l.length-p.1) (λq=>q.1<=l.length/\VX l q.1 q.2.1) (0,[],_,_) ⟨BU _,rfl,Af _,λy h=>by cases h⟩ AJ ?_;rintro⟨i,R,g,n⟩ F ⟨hi,hJ⟩;dsimp only at hi hJ⊢;rcases BH i l.length with h2|h2
 rotate_left
 ·have k1:=Cj h2
  have:i=l.length:=by omega
  subst this;have hR:=hJ.1;rw[Cf]at hR;have hf:=Gj (H:=[⟨906,g,80,3,R.map AD.D⟩]) (Hf:=[]) (k:=906) (g:=g) (T:=80) (sz:=3) (l:=R.map AD.D) rfl;rw[Ac]at hf;refine AH Qr (Ah el k1) AB AB AB AB AB AB ?_;exact⟨_,hf,AA.out,by rw[hR];rfl⟩
 have k1:=Ck h2;have wi:=Cc (i:=i) (by omega);obtain⟨x,hx'⟩:=CU h2;have hxm:=hx x (Aw hx');have hJ':=kH hJ hx' hxm;have hm:(l.map AD.D)[i]?=some (.agg [str (sb x.grain),i64 x.mass,.sl false 2 (x.shs.map Av.D)]):=by rw[A8,hx'];rfl
 have g0:decide (x.mass>0)=true:=AX (by omega);have hRl:(R.map AD.D).length=R.length:=Ac ..;have hRb:=hJ.2.1;rcases Do R.length with hR0|hR0
 ·have hRn:R=[]:=FU hR0
  subst hRn;have g1:decide (((0:Nat):Int)>0)=false:=rfl;obtain⟨S,hS⟩:∃S,x.shs.map Av.D=S:=⟨_,rfl⟩
  have pS:AA (.sl false 2 S):=by rw[<-hS];exact AI
  rw[hS]at hm;rw[HN,List.map_nil];refine AH Qr (CO el k1 g0 g1 wi kN (Ah kT kF)) hm AB AB AB AB AB ?_;refine⟨(i+1,[x],n+1+1+1+1+1+1+1+14+1+1+1+1+1+1+1+1+1+1+1+1+1+1,n+1000),⟨h2,hJ'⟩,by dsimp only;omega,?_⟩;dsimp only;rw[show[x].map AD.D=[.agg [str (sb x.grain),i64 x.mass,.sl false 2 S]]from by rw[<-hS];rfl];exact AJ
 have g1:decide ((R.length:Int)>0)=true:=AX (by omega);obtain⟨y,hy⟩:=CU (show R.length-1<R.length by omega);have hym:=hJ.2.2 y (Aw hy);have w2:IntKind.i64.wrap ((R.length:Int)-1)=((R.length-1:Nat):Int):=by rw[wI (by omega) (by omega)];omega
 have w3:IntKind.i64.wrap (y.mass+x.mass)=y.mass+x.mass:=wI (by omega) (by omega);have hm2:(R.map AD.D)[R.length-1]?=some (.agg [str (sb y.grain),i64 y.mass,.sl false 2 (y.shs.map Av.D)]):=by rw[A8,hy];rfl
 have cK:=qr y x hym.2.2 hxm.2.2;have hN:=kJ (x:=x) hy;have hset:=nM (z:=y.w (y.mass+x.mass)) hy;unfold AD.D Ce at cK;obtain⟨S,hS⟩:∃S,x.shs.map Av.D=S:=⟨_,rfl⟩
 have pS:AA (.sl false 2 S):=by rw[<-hS];exact AI
 obtain⟨SY,hSY⟩:∃S,y.shs.map Av.D=S:=⟨_,rfl⟩
 have pSY:AA (.sl false 2 SY):=by rw[<-hSY];exact AI
 rw[hS]at hm cK;rw[hSY]at cK hm2;obtain⟨RD,hRD⟩:∃T,R.map AD.D=T:=⟨_,rfl⟩
 rw[hRD]at hm2 hRl⊢;have hr:0<=((R.length-1:Nat):Int)/\((R.length-1:Nat):Int)<(R.length:Int):=by omega
 obtain⟨q,hq⟩:∃q,Ft y x=q:=⟨_,rfl⟩
 rw[hq]at cK hN;cases q
 ·rw[hN,AF Bool.false_ne_true]at hJ'
  refine AH Qr (CO el k1 g0 g1 w2 wi (CH kN BV hm2 kT kF)) hm cK AB AB AB AB ?_;refine⟨(i+1,R++[x],n+1+1+1+1+1+1+1+14+1+1+1+1+1+1+1+1+1+1+1+1+1+1,n+1000),⟨h2,hJ'⟩,by dsimp only;omega,?_⟩;dsimp only;rw[Bc,Cq,hRD,B8 (show RD.length<=R.length by omega)];rw[show[x].map AD.D=[.agg [str (sb x.grain),i64 x.mass,.sl false 2 S]]from by rw[<-hS];rfl];exact AJ
 ·rw[hN,AG rfl]at hJ'
  refine AH Qr (CO el k1 g0 g1 w2 w3 (Dp wi kN BV hm2 kT kF)) hm cK AB AB AB AB ?_;refine⟨(i+1,R.dropLast++[y.w (y.mass+x.mass)],g,n+1000),⟨h2,hJ'⟩,by dsimp only;omega,?_⟩;dsimp only;rw[<-hset,DH,List.map_set,hRD];rw[show(y.w (y.mass+x.mass)).D=.agg [str (sb y.grain),i64 (y.mass+x.mass),.sl false 2 SY]from by rw[<-hSY];rfl];exact AJ
abbrev G6:Dr:=[(11,[0,1,2,3,4,5,6,7,8,9,10,11,12,13],[14,15])]
open Go.Proofs Go.RowKit
set_option maxRecDepth 20000
set_option maxHeartbeats 4000000
theorem Ze {l:List Av}:∀i,i<=l.length->(∀j,j<i->CY (Fm l j).part=0)->rk (Ey l i) (601*i+1)
 | 0,_,_=>(Zc 1 (Af _)).rk
 |i+1,hi,h=>(bW (Ze i (by omega) λj hj=>h j (by omega)) (Mr (h i (by omega)))).mono (by omega)
theorem qA {l:List Av}{i:Nat}(h:FX l i=0):CY (Fm l i).part=0:=by
 unfold FX at h;split at h
 ·cases h
 split at h
 ·cases h
 split at h
 ·exact h
 ·rename_i h1;exact Decidable.not_not.1 h1
theorem yT (b:Bool)(l:List Av)(hl:l.length<=15\/64<l.length)(hl2:l.length<=9223372036854775807)(hf:∀s∈l,s.few):AK C0 106 [Ce b l] (i64 (Hl l:Nat)):=by
 refine Ak.walk w1 rz rfl λF=>?_
 have el:(((l.map Av.D).length:Nat):Int)=(l.length:Int):=by rw[Ac]
 have hC:Hl l=if l.length=0 then 2 else if 64<l.length then 5 else if Dm (FX l) l.length≠0 then Dm (FX l) l.length else if Ey l l.length=1 then 0 else 12:=rfl
 rcases Nat.decEq l.length 0 with h0|h0
 rotate_left
 ·rw[AG h0]at hC
  rw[hC];have q1:((l.length:Int)==0)=true:=by rw[h0];rfl
  refine AH G6 (Ah el q1) AB AB AB AB AB AB ?_;exact AL rfl AA.out
 rw[AF h0]at hC;have q1:((l.length:Int)==0)=false:=Br.2 (by omega)
 by_cases h64:64<l.length
 ·rw[AG h64]at hC
  rw[hC];have q2:decide ((l.length:Int)>64)=true:=AX (by omega);refine AH G6 (As el q1 q2) AB AB AB AB AB AB ?_;exact AL rfl AA.out
 rw[AF h64]at hC;have q2:decide ((l.length:Int)>64)=false:=Ag (by omega);have h15:l.length<=15:=by omega
 refine AH G6 (As el q1 q2) AB AB AB AB AB AB ?_;refine AC.loop (α:=Nat×Nat) (λp=>⟨[(0,Ce b l),(3,rR (Ey l p.1)),(4,i64 (p.1:Int))],[],p.2⟩) (λp=>l.length-p.1) (λp=>p.1<=l.length/\∀j,j<p.1->FX l j=0) (0,_)
  ⟨BU _,λj h=>Ad h (HR j)⟩ (by(dsimp only;rw[show rR (Ey l 0)=str ⟨#[48]⟩from o4];exact AJ)) ?_
 rintro⟨i,m⟩ F ⟨hi,hz⟩;dsimp only at hi hz⊢;have hSk:=Ze (l:=l) i hi λj hj=>qA (hz j hj)
 rcases BH i l.length with h2|h2
 rotate_left
 ·have e1:=Cj h2
  have:i=l.length:=by omega
  subst this;rw[AF (λh=>h (LC hz))]at hC;have e2:=j8 (Ey l l.length);obtain⟨q,hq⟩:∃q,decide (Ey l l.length=1)=q:=⟨_,rfl⟩
  rw[hq]at e2;unfold rR;cases q
  ·rw[AF (DS hq)]at hC
   rw[hC];refine AH G6 (As e1 el e2) AB AB AB AB AB AB ?_;exact AL rfl AA.out
  ·rw[AG (DE hq)]at hC
   rw[hC];refine AH G6 (As e1 el e2) AB AB AB AB AB AB ?_;exact AL rfl AA.out
 have e1:=Ck h2;have wi:=Cc (i:=i) (by omega);obtain⟨s,hs⟩:=CU h2;have hm:(l.map Av.D)[i]?=some (.agg [str (sb s.lot),str (sb s.part)]):=by rw[A8,hs];rfl
 obtain⟨f1,f2⟩:=hf s (Aw hs);have hE:FX l i=if Dg s.lot=false then 8 else if 0<i/\O5 s.lot (Fm l (i-1)).lot=true then 11 else if CY s.part≠0 then CY s.part else if Gv (CR s.part)<=0 then 12 else 0:=by unfold FX;rw[JT hs]
 have hbad:∀e:Nat,e≠0->FX l i=e->Hl l=e:=λe he h=>by
  have:=OU hz h2 (by rw[h];exact he)
  rw[hC,this,h,AG he]
 have cN:=eZ s.lot (by omega);obtain⟨N,hN⟩:∃q,Dg s.lot=q:=⟨_,rfl⟩
 rw[hN]at cN hE;cases N
 ·rw[AG rfl]at hE
  rw[hbad 8 (by decide) hE];refine AH G6 (As e1 el kN) hm cN AB AB AB AB ?_;exact AL rfl AA.out
 rw[AF (by decide)]at hE;have cC:=vS s.part f2;rcases i with _|q
 ·have g0:decide (((0:Nat):Int)>0)=false:=rfl
  rw[AF (λh=>Ad h.1 (Nat.lt_irrefl 0))]at hE;rcases Nat.decEq (CY s.part) 0 with hc0|hc0
  ·rw[AG hc0]at hE
   have e3:=GQ hc0;rw[hbad (CY s.part) hc0 hE];refine AH G6 (CH e1 el g0 kN e3) hm cN cC AB AB AB ?_;exact AL rfl AA.out
  rw[AF (λh=>h hc0)]at hE;have e3:=GR hc0;have cG:=b5 (CR s.part) (Yy hc0);have cA:=fY (Ey l 0) (CR s.part) (601*0+1) 600 hSk (Mr hc0) (by omega);rw[Uv hc0]at cG cA;have hnext:Ey l (0+1)=Ey l 0+CR s.part:=by show _+CR (Fm l 0).part=_;rw[JT hs]
  rw[<-hnext]at cA;obtain⟨sg,hsg⟩:∃q,Gv (CR s.part)=q:=⟨_,rfl⟩
  rw[hsg]at cG hE
  by_cases hs0:sg<=0
  ·rw[AG hs0]at hE
   have e4:decide (sg<=0)=true:=AX hs0;rw[hbad 12 (by decide) hE];refine AH G6 (Dp e1 el g0 kN e3 e4) hm cN cC cG AB AB ?_;exact AL rfl AA.out
  rw[AF hs0]at hE;have e4:decide (sg<=0)=false:=Ag hs0;refine AH G6 (CO e1 el g0 kN e3 e4 wi) hm cN cC cG cA AB ?_;exact⟨(0+1,_),⟨h2,λj hj=>by
   rcases Nat.lt_succ_iff_lt_or_eq.1 hj with q|q
   ·exact hz j q
   ·rw[q];exact hE⟩,by dsimp only;omega,AJ⟩
 ·have g0:decide (((q+1:Nat):Int)>0)=true:=AX (by omega)
  have g1:IntKind.i64.wrap (((q+1:Nat):Int)-1)=(q:Int):=by rw[wI (by omega) (by omega)];omega
  obtain⟨s0,hs0'⟩:=CU (l:=l) (i:=q) (by omega);have hm0:(l.map Av.D)[q]?=some (.agg [str (sb s0.lot),str (sb s0.part)]):=by rw[A8,hs0'];rfl
  rw[Ia,JT hs0']at hE;obtain⟨bL,hbL⟩:∃q,O5 s.lot s0.lot=q:=⟨_,rfl⟩
  have g2:(Lx (sb s.lot) (sb s0.lot)||BK (sb s.lot) (sb s0.lot))=bL:=hbL;rw[hbL]at hE;cases bL
  rotate_left
  ·rw[AG ⟨Nat.succ_pos q,rfl⟩]at hE
   rw[hbad 11 (by decide) hE];refine AH G6 (Dp e1 el g0 g1 g2 kN) hm hm0 cN AB AB AB ?_;exact AL rfl AA.out
  rw[AF (λh=>Ad h.2 (by decide))]at hE;rcases Nat.decEq (CY s.part) 0 with hc0|hc0
  ·rw[AG hc0]at hE
   have e3:=GQ hc0;rw[hbad (CY s.part) hc0 hE];refine AH G6 (CO e1 el g0 g1 g2 kN e3) hm hm0 cN cC AB AB ?_;exact AL rfl AA.out
  rw[AF (λh=>h hc0)]at hE;have e3:=GR hc0;have cG:=b5 (CR s.part) (Yy hc0);have cA:=fY (Ey l (q+1)) (CR s.part) (601*(q+1)+1) 600 hSk (Mr hc0) (by omega);rw[Uv hc0]at cG cA;have hnext:Ey l ((q+1)+1)=Ey l (q+1)+CR s.part:=by show _+CR (Fm l (q+1)).part=_;rw[JT hs]
  rw[<-hnext]at cA;obtain⟨sg,hsg⟩:∃q,Gv (CR s.part)=q:=⟨_,rfl⟩
  rw[hsg]at cG hE
  by_cases hs0:sg<=0
  ·rw[AG hs0]at hE
   have e4:decide (sg<=0)=true:=AX hs0;rw[hbad 12 (by decide) hE];refine AH G6 (CO e1 el g0 g1 g2 kN (Ah e3 e4)) hm hm0 cN cC cG AB ?_;exact AL rfl AA.out
  rw[AF hs0]at hE;have e4:decide (sg<=0)=false:=Ag hs0;refine AH G6 (CO e1 el g0 g1 g2 kN (As e3 e4 wi)) hm hm0 cN cC cG cA ?_;exact⟨((q+1)+1,_),⟨h2,λj hj=>by
   rcases Nat.lt_succ_iff_lt_or_eq.1 hj with q|q
   ·exact hz j q
   ·rw[q];exact hE⟩,by dsimp only;omega,AJ⟩
theorem yK (x:AD)(hs:x.shs.length<=15\/64<x.shs.length)(hf:x.few):AK C0 66 [x.D] (i64 (CZ x:Nat)):=by
 refine Ak.walk w1 x7 rfl λF=>?_
 obtain⟨f1,f2,f3⟩:=hf;have cN:=eZ x.grain (by omega);have cS:=yT false x.shs hs f2 f3;have hC:CZ x=if Dg x.grain=false then 8 else if x.mass<1\/x.mass>999999999 then 3 else Hl x.shs:=rfl
 obtain⟨N,hN⟩:∃q,Dg x.grain=q:=⟨_,rfl⟩
 obtain⟨SD,hSD⟩:∃d,Ce false x.shs=d:=⟨_,rfl⟩
 have pS:AA SD:=by rw[<-hSD];exact AI
 have hna:JV SD=true:=by rw[<-hSD];rfl
 unfold AD.D;rw[hN]at cN hC;rw[hSD]at cS⊢;cases N
 ·rw[AG rfl]at hC
  rw[hC];refine AH AZ kB cN AB AB AB AB AB ?_;exact AL rfl AA.out
 rw[AF (by decide)]at hC
 by_cases h1:x.mass<1
 ·rw[AG (.inl h1)]at hC
  rw[hC];have e1:decide (x.mass<1)=true:=AX h1;refine AH AZ e1 cN AB AB AB AB AB ?_;exact AL rfl AA.out
 have e1:decide (x.mass<1)=false:=Ag h1
 by_cases h2:x.mass>999999999
 ·rw[AG (.inr h2)]at hC
  rw[hC];have e2:decide (x.mass>999999999)=true:=AX h2;refine AH AZ (Ah e1 e2) cN AB AB AB AB AB ?_;exact AL rfl AA.out
 have e2:decide (x.mass>999999999)=false:=Ag h2;rw[AF (by omega)]at hC;rw[hC];refine AH AZ (As e1 e2 hna) cN cS AB AB AB AB ?_;exact AL rfl AA.out
theorem KX {H Hf:Hp}{K g T sz n:Nat}{l:List D}(h:Hp.get H K=some ⟨K,g,T,sz,l⟩)(hf:Hp.get Hf K=none)(hn:n=l.length):Fz H Hf (.osl K g sz 0 n) (.sl false sz l):=by
 subst hn;refine .osl (e:=⟨K,g,T,sz,l⟩) h hf rfl rfl (by simp) (by simp) (λj d d' h1 h2=>?_) λj d d' q c c' h1 h2 h3 h4=>?_
 ·rw[BV]at h1;rw[h1]at h2;cases h2;rfl
 ·rw[BV]at h1;rw[h1]at h2;cases h2;rw[h3]at h4;cases h4;exact Fz.refl _
def Hw (lot:List UInt8)(r:Rat):B0->B0
 | []=>[(lot,r)]
 |p::l=>if ltStr p.1 lot then p::Hw lot r l else if p.1=lot then(p.1,p.2+r)::l else(lot,r)::p::l
def L8 (x:AD)(n:Nat)(q:B0):B0:=(x.shs.take n).foldl (λacc s=>Hw s.lot (CR s.part*(x.mass:Rat)) acc) q
def Kb (l:List AD):B0:=l.foldl (λacc x=>L8 x x.shs.length acc) []
theorem kO (x:AD)(n:Nat)(q:B0){s:Av}(h:x.shs[n]?=some s):L8 x (n+1) q=Hw s.lot (CR s.part*(x.mass:Rat)) (L8 x n q):=by
 unfold L8;rw[Da,h,List.foldl_append];rfl
theorem jD (l:List AD)(n:Nat){x:AD}(h:l[n]?=some x):Kb (l.take (n+1))=L8 x x.shs.length (Kb (l.take n)):=by
 unfold Kb;rw[Da,h,List.foldl_append];rfl
abbrev G3 (q:B0):Prop:=q.Pairwise λa b=>ltStr a.1 b.1=true
theorem G3.nd {q:B0}(h:G3 q):(Cs q).Nodup:=by
 rw[Cs,List.Nodup,List.pairwise_map];exact h.imp λ{a b} h e=>by rw[e,swo_ltStr.irrefl]at h;cases h
theorem QJ {lot:List UInt8}{o v:Rat}:∀ {q:B0},Fu lot q=some o->∃A B,q=A++(lot,o)::B/\GT lot v q=A++(lot,v)::B
 | [],h=>by simp[Fu]at h
 |p::l,h=>by
  unfold Fu at h;unfold GT;split at h
  ·rename_i e
   cases h;rw[AG e];exact⟨[],l,by rw[e];rfl,rfl⟩
  ·rename_i e
   rw[AF e];obtain⟨A,B,h1,h2⟩:=QJ (v:=v) h;exact⟨p::A,B,by rw[h1];rfl,by rw[h2];rfl⟩
theorem TP {lot:List UInt8}{v:Rat}:∀ {q:B0},Fu lot q=none->lot∉Cs q/\GT lot v q=q++[(lot,v)]
 | [],_=>⟨by simp[Cs],rfl⟩
 |p::l,h=>by
  unfold Fu at h;unfold GT;split at h
  ·cases h
  ·rename_i e
   rw[AF e];obtain⟨h1,h2⟩:=TP (v:=v) h;exact⟨λq=>by
    rcases BG.1 q with q|q
    ·exact e q
    ·exact h1 q,by rw[h2];rfl⟩
theorem YU {lot:List UInt8}{r:Rat}:∀ {Q:B0},G3 Q->(∃A o B,Q=A++(lot,o)::B/\Hw lot r Q=A++(lot,o+r)::B)\/(lot∉Cs Q/\∃A B,Q=A++B/\Hw lot r Q=A++(lot,r)::B)
 | [],_=>.inr ⟨by simp[Cs],[],[],rfl,rfl⟩
 |p::l,h=>by
  have hp:=D3.1 h;unfold Hw;split
  ·rename_i e
   rcases YU (lot:=lot) (r:=r) hp.2 with⟨A,o,B,h1,h2⟩|⟨h0,A,B,h1,h2⟩
   ·exact .inl ⟨p::A,o,B,by rw[h1];rfl,by rw[h2];rfl⟩
   ·refine .inr ⟨λq=>?_,p::A,B,by rw[h1];rfl,by rw[h2];rfl⟩
    rcases BG.1 q with q|q
    ·rw[show p.1=lot from q.symm,swo_ltStr.irrefl]at e;cases e
    ·exact h0 q
  ·rename_i e
   split
   ·rename_i e2
    exact .inl ⟨[],p.2,l,by rw[<-e2];rfl,by rw[e2];rfl⟩
   ·rename_i e2
    refine .inr ⟨λq=>?_,[],p::l,rfl,rfl⟩;rcases BG.1 q with q|q
    ·exact e2 q.symm
    ·obtain⟨z,hz,rfl⟩:=List.mem_map.1 q
     exact e (hp.1 z hz)
theorem W9 {lot:List UInt8}{r:Rat}:∀ {Q:B0},∀z∈Hw lot r Q,z.1=lot\/z.1∈Cs Q
 | [],z,hz=>by
  unfold Hw at hz;rw[List.mem_singleton]at hz;exact .inl (by rw[hz])
 |p::l,z,hz=>by
  unfold Hw at hz;split at hz
  ·rcases BG.1 hz with rfl|hz
   ·exact .inr CG
   ·rcases W9 z hz with h|h
    ·exact .inl h
    ·exact .inr (CK _ h)
  ·split at hz
   ·rcases BG.1 hz with rfl|hz
    ·exact .inr CG
    ·exact .inr (CK _ (List.mem_map_of_mem hz))
   ·rcases BG.1 hz with rfl|hz
    ·exact .inl rfl
    ·exact .inr (List.mem_map_of_mem hz)
theorem ZI {lot:List UInt8}{r:Rat}:∀ {Q:B0},G3 Q->G3 (Hw lot r Q)
 | [],_=>List.pairwise_singleton _ _
 |p::l,h=>by
  have hp:=D3.1 h;unfold Hw;split
  ·rename_i e
   refine D3.2 ⟨λz hz=>?_,ZI hp.2⟩;rcases W9 z hz with h|h
   ·rw[h];exact e
   ·obtain⟨y,hy,h2⟩:=List.mem_map.1 h
    rw[<-h2];exact hp.1 y hy
  ·rename_i e
   split
   ·exact D3.2 ⟨hp.1,hp.2⟩
   ·rename_i e2
    have e3:ltStr lot p.1=true:=by
     cases h9:ltStr lot p.1 with
     |true=>rfl
     |false=>exact Ad (W2 (by simpa using e) h9) e2
    refine D3.2 ⟨λz hz=>?_,h⟩;rcases BG.1 hz with rfl|hz
    ·exact e3
    ·exact swo_ltStr.trans _ _ _ e3 (hp.1 z hz)
theorem oq {Q q:B0}(hs:G3 Q)(hp:Q.Perm q)(lot:List UInt8)(r:Rat):(Hw lot r Q).Perm (Jk lot r q):=by
 have hnd:(Cs Q).Nodup:=hs.nd;unfold Jk;rcases YU (lot:=lot) (r:=r) hs with⟨A,o,B,h1,h2⟩|⟨h0,A,B,h1,h2⟩
 ·have hm:(lot,o)∈q:=hp.mem_iff.1 (by rw[h1];simp)
  have hqn:(Cs q).Nodup:=(hp.map _).nodup_iff.1 hnd;have hlk:=TE hqn hm;dsimp only at hlk;rw[hlk];dsimp only;obtain⟨A2,B2,h3,h4⟩:=QJ (v:=r+o) hlk;rw[h2,h4];have p1:(A++(lot,o)::B).Perm ((lot,o)::(A++B)):=HO;have p2:(A2++(lot,o)::B2).Perm ((lot,o)::(A2++B2)):=HO;have p3:(A++B).Perm (A2++B2):=by
   rw[h1,h3]at hp;exact List.Perm.cons_inv (p1.symm.trans (hp.trans p2))
  rw[Rat.add_comm o r];exact HO.trans ((p3.cons _).trans HO.symm)
 ·have hn:Fu lot q=none:=by
   cases h9:Fu lot q with
   |none=>rfl
   |some o=>
    obtain⟨A2,B2,h3,-⟩:=QJ (v:=o) h9;exact Ad ((hp.map (·.1)).mem_iff.2 (by rw[h3];simp)) h0
  rw[hn];dsimp only;rw[(TP (v:=r) hn).2,h2];rw[h1]at hp;exact HO.trans ((hp.cons _).trans (List.perm_append_singleton _ _).symm)
theorem ZJ {Q q:B0}(hs:G3 Q)(hp:Q.Perm q)(x:AD):∀j,j<=x.shs.length->G3 (L8 x j Q)/\(L8 x j Q).Perm (GM x j q)
 | 0,_=>⟨hs,hp⟩
 |j+1,hj=>by
  obtain⟨s,hsj⟩:∃s,x.shs[j]?=some s:=⟨_,A9 hj⟩
  obtain⟨h1,h2⟩:=ZJ hs hp x j (by omega);rw[kO x j Q hsj,Nx x j q hsj];exact⟨ZI h1,oq h1 h2 _ _⟩
theorem Tm (l:List AD):∀i,i<=l.length->G3 (Kb (l.take i))/\(Kb (l.take i)).Perm (CJ (l.take i))
 | 0,_=>⟨List.Pairwise.nil,.refl _⟩
 |i+1,hi=>by
  obtain⟨x,hx⟩:∃x,l[i]?=some x:=⟨_,A9 hi⟩
  obtain⟨h1,h2⟩:=Tm l i (by omega);rw[jD l i hx,QC l i hx];exact ZJ h1 h2 x _ (Af _)
theorem G3.weak {q:B0}(h:G3 q):q.Pairwise λa b=>ltStr b.1 a.1=false:=h.imp λ{a b} h=>by
 cases h9:ltStr b.1 a.1 with
 |false=>rfl
 |true=>have:=swo_ltStr.trans _ _ _ h h9;rw[swo_ltStr.irrefl]at this;cases this
theorem X6 (l:List AD):Kb l=FQ (CJ l):=by
 obtain⟨h1,h2⟩:=Tm l l.length (Af _);rw[Cf]at h1 h2;exact Sw ((h2.map _).nodup_iff.1 h1.nd) h2 (J7 _) h1.weak (Qw _)
theorem mI (l:List AD):G3 (Kb l):=by
 obtain⟨h1,-⟩:=Tm l l.length (Af _)
 rwa [Cf]at h1
def Dw (g:List UInt8)(x:AD):AD:=⟨g,x.mass,x.shs⟩
def HG (l:List AD)(g:List UInt8):Nat:=if Bv l≠0 then Bv l else if Dg g=false then 8 else if l.length=0 then 13 else 0
def IN (l:List AD)(g:List UInt8):Nat:=if HG l g≠0 then HG l g else Gr (l.map (Dw g))
def Lw (l:List AD)(g:List UInt8):AD:=if HG l g≠0 then⟨[],0,[]⟩else Kv (l.map (Dw g))
theorem ph (g:List UInt8){l:List AD}{i:Nat}{x:AD}(hx:l[i]?=some x):
  (((l.take i).map (Dw g)++l.drop i).map AD.D).set i (.agg [str (sb g),i64 x.mass,.sl false 2 (x.shs.map Av.D)])=((l.take (i+1)).map (Dw g)++l.drop (i+1)).map AD.D:=by
 have hi:=(List.getElem?_eq_some_iff.1 hx).1;have hd:l.drop i=x::l.drop (i+1):=by
  rw[ET hi,(List.getElem?_eq_some_iff.1 hx).2]
 rw[Da,hx,hd];simp only[Cq,Cu,Option.toList_some,List.map_nil,De,ED,EZ];rw[Ph _ _ (by simp;omega)]
 have:i-(((l.take i).map (Dw g)).map AD.D).length=0:=by simp;omega
 rw[this];rfl
theorem fG (b:Bool)(l:List AD)(g:List UInt8)(hl:l.length<=1000000)(hf:∀x∈l,x.lite)(hg:g.length<=100000):AK C0 42 [Al b l,str (sb g)] (.tup [(Lw l g).D,i64 (IN l g:Nat)]):=by
 refine Ak.walk w1 dV rfl λF=>?_
 have el:(((l.map AD.D).length:Nat):Int)=(l.length:Int):=by rw[Ac]
 have cP:=NI b l (by omega) λx hx=>(hf x hx).1
 have cN:=Q8 g;have hN:IN l g=if HG l g≠0 then HG l g else Gr (l.map (Dw g)):=rfl
 have hL:Lw l g=if HG l g≠0 then⟨[],0,[]⟩else Kv (l.map (Dw g)):=rfl
 have hE:HG l g=if Bv l≠0 then Bv l else if Dg g=false then 8 else if l.length=0 then 13 else 0:=rfl
 obtain⟨K,hK⟩:∃K,Dg g=K:=⟨_,rfl⟩
 have cW1:=IS (!K) 8;have cW2:=IS ((l.length:Int)==0) 13;have cF:AK C0 54 [.sl true 1 [i64 (Bv l:Nat),i64 (if !K then 8 else 0),i64 (if(l.length:Int)==0 then 13 else 0)]] (i64 (HG l g:Nat)):=by
  have:=Om [(Bv l:Int),if !K then 8 else 0,if(l.length:Int)==0 then 13 else 0] (by simp)
  have he:Et [(Bv l:Int),if !K then 8 else 0,if(l.length:Int)==0 then 13 else 0]=((HG l g:Nat):Int):=by
   rw[hE,hK]
   by_cases h1:Bv l=0<;>cases K<;>by_cases h3:l.length=0<;>simp[Et,h1,h3]
  rw[he]at this;exact this
 rw[hK]at cN;rcases Nat.decEq (HG l g) 0 with g0|g0
 ·have e1:=GQ g0
  rw[AG g0]at hN hL;rw[hN,hL];refine AH AZ (Ah el e1) cP cN cW1 cW2 cF AB ?_;exact⟨_,OV _ _,AA.out,rfl⟩
 have e1:=GR g0;rw[AF (λh=>h g0)]at hN hL;rw[hN,hL];have h0:l≠[]:=λh=>by
  rw[hE]at g0;split at g0
  ·rename_i h9;exact h9 g0
  ·split at g0
   ·cases g0
   ·split at g0
    ·cases g0
    ·rename_i h9;exact h9 (by rw[h];rfl)
 refine AH AZ (Ah el e1) cP cN cW1 cW2 cF AB ?_;refine BE.own _ (l7 b l hl h0 _ _) ?_;rintro d H' n' ⟨gk,rfl,rfl,rfl⟩;refine AH AZ kB AB AB AB AB AB AB ?_;refine AC.loop (α:=Nat×Nat) (λp=>⟨[(1,str (sb g)),(4,.optr 0 0 3 0 0),(7,.osl 302 gk 3 0 l.length),(28,i64 (l.length:Int)),(29,i64 (p.1:Int))],[⟨302,gk,80,3,((l.take p.1).map (Dw g)++l.drop p.1).map AD.D⟩,⟨0,0,80,3,[.agg [.prim (.string ⟨#[]⟩),.prim (.int .i64 0),.prim (.slice none 0 0)]]⟩],p.2⟩) (λp=>l.length-p.1)
  (λp=>p.1<=l.length) (0,_) (BU _) AJ ?_
 rintro⟨i,n⟩ F hi;dsimp only at hi⊢;rcases BH i l.length with h2|h2
 rotate_left
 ·have e1:=Cj h2
  have:i=l.length:=by omega
  subst this;rw[Cf,JA,C5];have hlr:(l.map (Dw g)).length=l.length:=Ac ..;have hfr:∀x∈l.map (Dw g),x.lite:=λx hx=>by
   obtain⟨y,hy,rfl⟩:=List.mem_map.1 hx;obtain⟨⟨a1,a2,a3⟩,a4⟩:=hf y hy;exact⟨⟨hg,a2,a3⟩,a4⟩
  have cM:=yH false (l.map (Dw g)) (by rw[hlr];exact hl) hfr;obtain⟨R,hR⟩:∃R,l.map (Dw g)=R:=⟨_,rfl⟩
  rw[hR]at cM hlr⊢;obtain⟨Z,hZ⟩:∃Z:AD,Kv R=Z:=⟨_,rfl⟩
  rw[hZ]at cM⊢;refine AH AZ e1 AB AB AB AB AB AB ?_;have hfz:Fz [⟨302,gk,80,3,R.map AD.D⟩,⟨0,0,80,3,[.agg [.prim (.string ⟨#[]⟩),.prim (.int .i64 0),.prim (.slice none 0 0)]]⟩] [⟨0,0,80,3,[.agg [.prim (.string ⟨#[]⟩),.prim (.int .i64 0),.prim (.slice none 0 0)]]⟩] (.osl 302 gk 3 0 l.length) (Al false R):=by
   have:=Gj (H:=[⟨302,gk,80,3,R.map AD.D⟩,⟨0,0,80,3,[.agg [.prim (.string ⟨#[]⟩),.prim (.int .i64 0),.prim (.slice none 0 0)]]⟩]) (Hf:=[⟨0,0,80,3,[.agg [.prim (.string ⟨#[]⟩),.prim (.int .i64 0),.prim (.slice none 0 0)]]⟩]) (k:=302) (g:=gk) (T:=80) (sz:=3) (l:=R.map AD.D) rfl
   rwa [Ac,hlr]at this
  refine BE.own _ (NS [⟨0,0,80,3,[.agg [.prim (.string ⟨#[]⟩),.prim (.int .i64 0),.prim (.slice none 0 0)]]⟩] cM (.drop (.keep .nil)) ⟨hfz,trivial⟩ AI) ?_;rintro d H2 n2 ⟨rfl,rfl,rfl⟩;unfold AD.D;refine AH AZ kB AB AB AB AB AB AB ?_;exact AL rfl AA.out
 have e1:=Ck h2;have wi:=Cc (i:=i) (by omega);obtain⟨x,hx⟩:=CU h2;obtain⟨es,hes⟩:∃es,((l.take i).map (Dw g)++l.drop i).map AD.D=es:=⟨_,rfl⟩
 rw[hes];have hm:es[i]?=some (.agg [str (sb x.grain),i64 x.mass,.sl false 2 (x.shs.map Av.D)]):=by
  rw[<-hes,A8,En (by simp;omega)];simp only[Ac,Bd,FC (Jt h2),Nat.sub_self,Gb,DW,hx,JE];rfl
 refine sZ 600 ?_;refine AE e1 ?_;refine AC.seq ?_;refine AM ?_;refine An ?_;refine AC.seq ?_;refine AC.block ?_;refine sZ 700 ?_;refine AE kB ?_;refine Ao w1 800 (by kernel_rfl) ?_;refine AE (As kN BV hm) ?_;have hset:es.set i (.agg [str (sb g),i64 x.mass,.sl false 2 (x.shs.map Av.D)])=((l.take (i+1)).map (Dw g)++l.drop (i+1)).map AD.D:=by
  rw[<-hes];exact ph g hx
 rw[hset];refine AH AZ wi AB AB AB AB AB AB ?_;exact⟨(i+1,_),h2,by dsimp only;omega,AJ⟩
end Go.Ide
