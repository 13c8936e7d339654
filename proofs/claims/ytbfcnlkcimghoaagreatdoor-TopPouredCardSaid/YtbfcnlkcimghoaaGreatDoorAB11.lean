/- The layer of own lemmas and contracts, part 11. -/
import Derived.Test.YtbfcnlkcimghoaaGreatDoorAB10
import Derived.Test.YtbfcnlkcimghoaaGreatDoorAB9
import Derived.Test.YtbfcnlkcimghoaaGreatDoorAB4
import Derived.Test.YtbfcnlkcimghoaaGreatDoorAB8
import Derived.Test.YtbfcnlkcimghoaaGreatDoorAB7
import Derived.Shelf.RegionOpenPlain
import Derived.Lib.Builder
import Derived.Lib.UnsafeStr
import Derived.Lib.Strings
import Derived.Lib.Slices
import Derived.Lib.Walk
import Derived.Laws.Externs
import Derived.KernelRfl
import Derived.WalkKit
import Derived.Shelf.Strconv.Itoa3
import Derived.Lib.ItoaMem
import Derived.Lib.AppendIntMem
import Derived.BigCall
import Derived.BigGuard
import Derived.Shelf.GgSortFunc.RowK
import Derived.Shelf.GgSortFunc.InsertionK
import Derived.Shelf.SlSortCmp.WholeK
import Derived.Shelf.Lay
import Derived.Laws.Cover1
import Derived.Shelf.Small.Bits
import Derived.Ground.SlsfProg
import Derived.Ground.NamesProg
import Derived.Shelf.SlIter.Sorted
import Derived.Shelf.SortM.Plain
import Derived.Shelf.SortM.SortNone
import Derived.Ground.GgzProg
import Derived.Ground.SlgmProg
import Derived.Test.YtbfcnlkcimghoaaGreatDoorAB3
set_option linter.unusedVariables false
set_option linter.unusedSimpArgs false
namespace Go.Ide
open Go.Proofs Go.RowKit
set_option maxRecDepth 20000
theorem WT:AI C0 248 [.sl true 1 [i64 0,i64 0]] (i64 0):=DR Eh 100 10
theorem e2a {H:Hp}{a b c d:D}(h1:Dw H a c)(h2:Dw H b d):∀(i:Nat) (x y:D),[a,b][i]?=some x->[c,d][i]?=some y->Dw H x y:=λi x y hx hy=>by
 match i with
 | 0=>simp at hx hy;subst hx;subst hy;exact h1
 | 1=>simp at hx hy;subst hx;subst hy;exact h2
 |n+2=>simp at hx
def m8 (E:FT)(l:Nat)(R:LR):Prop:=∀(H:Hp) (n:Nat),QO C0 E l R [i64 0] H n (λj H' n'=>j=none/\H'=H)
set_option maxHeartbeats 4000000
theorem Cs {i n:Nat}(h:i<n):decide ((i:Int)<(n:Int))=true:=BV
theorem Cx {i n:Nat}(h:n<=i):decide ((i:Int)<(n:Int))=false:=BY
theorem Cz {i:Nat}(h:i<9223372036854775807):IntKind.i64.wrap ((i:Int)+1)=((i+1:Nat):Int):=wI
theorem CV {α:Type}{l:List α}{i:Nat}(h:i<l.length):∃x,l[i]?=some x:=⟨l[i],B4 h⟩
abbrev Ud (b:Bool)(v:List (List UInt8)):D:=.sl b 1 (v.map λl=>str (sb l))
instance  (l:List UInt8):Ap (Ij l).D:=by unfold GF.D;exact AJ
theorem e1J {a b:Nat}(h:a=b):(((a:Nat):Int) != (b:Int))=false:=by subst h;simp
theorem IM {a:Nat}(h:a≠0):(((a:Nat):Int) != 0)=true:=Kk (by omega)
theorem Im {a:Nat}(h:a=0):(((a:Nat):Int) != 0)=false:=by subst h;rfl
theorem e1I {a:Nat}(h:a≠0):(((a:Nat):Int)==0)=false:=B8.2 (by omega)
set_option maxHeartbeats 1000000
set_option maxRecDepth 100000
theorem d9W {n:Nat}(h:1<=n):liesAt Tryz.prog Tryz.prog.depth 295 n 0 295 1=true:=by
 have hs:sameLayout Tryz.prog Tryz.prog.depth 295 295=true:=by kernel_rfl
 have hc:Tryz.prog.cellsOf 295=2:=by kernel_rfl
 obtain⟨d,hd⟩:∃d,Tryz.prog.depth=d+1:=⟨Tryz.prog.depth-1,by kernel_rfl⟩
 rw[hd]at hs⊢;unfold liesAt;rw[hd];unfold rowAt;simp[hc,hs,h]
theorem sy (b c:Nat)(hc:2<=c)(w:World)(h0:w.cell? ⟨b,0,none⟩=some (.pointer none))(hsh:w.shape? b=some (295,c))(hfz:w.frozen? ⟨b,0,none⟩=false):
  Calls Tryz.prog 246 #[.pointer (some ⟨b,0,none⟩)] w λe w'=>e=.returned (.tuple #[])/\w'=w.setCell ⟨b,0,none⟩ (.pointer (some ⟨b,0,none⟩)):=by
 obtain⟨j,hj,hjs⟩:=Gc.1 (show(Tryz.prog.info? 295).map (·.size)=some 2 by kernel_rfl);have hl:liesAt Tryz.prog Tryz.prog.depth 295 (c/Tryz.prog.cellsOf 295) 0 295 1=true:=d9W (by rw[show Tryz.prog.cellsOf 295=2 by kernel_rfl];omega)
 go_enter Tryz.func246,Tryz.ntmps246
 go_wp2
 rw[Lib.run_to_unsafe w ⟨b,0,none⟩ (t:=295) (by kernel_rfl) (by kernel_rfl) hj (by rw[hjs];decide) hsh (by show 0<c;omega)];simp only[Result.andThen];rw[Oper.upon_value]
 go_wp2
 rw[run_callFunc_extern Tryz.func280 (by kernel_rfl) (by kernel_rfl) (by kernel_rfl) (e:=Extern.AbiNoEscape.same) (by kernel_rfl)];rw[Lib.run_noEscape];simp only[Result.andThen];rw[Oper.upon_value]
 go_wp2
 rw[Lib.run_from_unsafe w ⟨b,0,none⟩ (u:=295) (by kernel_rfl) (by kernel_rfl) hj hsh hl];simp only[Result.andThen];rw[Oper.upon_value]
 go_wp2
 go_end0
 exact⟨rfl,rfl⟩
theorem vM (b:Nat)(w:World)(h0:w.cell? ⟨b,0,none⟩=some (.pointer (some ⟨b,0,none⟩))):
  Calls Tryz.prog 246 #[.pointer (some ⟨b,0,none⟩)] w λe w'=>e=.returned (.tuple #[])/\w'=w:=by
 obtain⟨j,hj,hjs⟩:=Gc.1 (show(Tryz.prog.info? 295).map (·.size)=some 2 by kernel_rfl)
 go_enter Tryz.func246,Tryz.ntmps246
 go_wp2
 rw[Lib.run_neq_ptr_same w _ (te:=295) (by kernel_rfl) hj]
 go_wp2
 go_end0
 exact⟨rfl,rfl⟩
theorem e1H (b g:Nat)(cur cs:Array Value)(l:List UInt8)(h0:l≠[])(w:World)(hb:w.heap[b]?=some (.cells cs 295 (0,0)))(hb1:cs[1]?=some (.slice (some ⟨g,0,none⟩) l.length cur.size))
  (hg:w.heap[g]?=some (.cells cur 5 (0,0))) (hl:l.length<=cur.size) (hcap:cur.size<=maxLen) (hcell:∀(j:Nat) (x:UInt8),l[j]?=some x->cur[j]?=some (.int .u8 x.toNat)):
  Calls Tryz.prog 206 #[.pointer (some ⟨b,0,none⟩)] w λe w'=>e=.returned (.string ⟨l.toArray⟩)/\w'=(w.drew.freeze ⟨g,0,none⟩ l.length):=by
 have c1:w.drew.cell? ⟨b,1,none⟩=some (.slice (some ⟨g,0,none⟩) l.length cur.size):=by
  have:w.drew.heap[b]?=some (.cells cs 295 (0,0)):=hb
  rw[Lib.cell_of_heap this];exact hb1
 have h0':l.length≠0:=by simpa using h0
 have hSD:(Builtin.unsafeSliceData_ #[293] 329 #[.slice (some ⟨g,0,none⟩) l.length cur.size]).run Tryz.prog w.drew=.ok (.pointer (some ⟨g,0,none⟩)) w.drew:=
  Lib.run_unsafeSliceData_row _ _ _ _ _ _ (by omega)
 have hUS:(Builtin.unsafeString_ #[329,3] 9 #[.pointer (some ⟨g,0,none⟩),.int .i64 l.length]).run Tryz.prog w.drew=.ok (.string ⟨l.toArray⟩) (w.drew.freeze ⟨g,0,none⟩ l.length):=by
  refine Lib.run_unsafeString_row w.drew 329 3 9 5 (by kernel_rfl) (by kernel_rfl) g cur.size (by have hg':w.drew.heap[g]?=some (.cells cur 5 (0,0)):=hg;simp[World.shape?,hg']) l h0 (by omega) (by unfold maxLen at hcap;omega) ?_;intro j x hx;have hg':w.drew.heap[g]?=some (.cells cur 5 (0,0)):=hg
  have:=hcell j x hx
  rw[Addr.add_lit];simp[World.cell?,hg',this]
 have mixed:Tryz.prog.follows .mixedOrders=true:=by kernel_rfl
 go_enter Tryz.func206,Tryz.ntmps206
 go_wp2
 go_region_o
 all_goals(go_wp2;go_ret;exact⟨rfl,rfl⟩)
def Gh (l:List UInt8):List D:=l.map λb=>.prim (.int .u8 (b.toNat:Int))
abbrev GX (g:Nat)(p x:D):Af:=⟨1500,g,295,2,[.agg [p,x]]⟩
theorem kw {vs:Array Value}(h:vs.size=1):vs = #[vs.getD 0 undef]:=by
 match vs,h with
 |⟨[u]⟩,_=>rfl
theorem ky (g n:Nat)(x p:D)(H1 H2:Hp)(hp:p=.prim (.pointer none)\/p=.optr 1500 g 2 0 0):
  C4 C0 246 [.optr 1500 g 2 0 0] (H1++GX g p x::H2) n (λd H' n'=>d=.prim (.tuple #[])/\H'=H1++GX g (.optr 1500 g 2 0 0) x::H2/\n'=n):=by
 refine⟨⟨_,_,Tryz.func246,rfl,by kernel_rfl⟩,λF ρ w vs m fr hgn hvs hr=>?_⟩;have h0:=hr 0 _ rfl;rw[kw hvs];generalize hv:vs.getD 0 undef=v at h0;cases h0 with
 |optr hρ=>
  rename_i b;have he:GX g p x∈H1++GX g p x::H2:=by simp
  obtain⟨cs,hc,q⟩:=m.at he hρ;have hlen:2<=cs.size:=q.len;have hr0:AV ρ (AL F.X ρ (H1++GX g p x::H2)) w p (cs.getD 0 undef):=q.rep 0 _ 0 p rfl rfl;have hr1:AV ρ (AL F.X ρ (H1++GX g p x::H2)) w x (cs.getD 1 undef):=q.rep 0 _ 1 x rfl rfl;have hcell:w.cell? ⟨b,0,none⟩=some (cs.getD 0 undef):=by
   simp[World.cell?,hc,Array.getD,show 0<cs.size by omega]
  rcases hp with rfl|rfl
  ·cases hr0':cs.getD 0 undef with
   |pointer a=>
    rw[hr0']at hr0 hcell;cases hr0;refine(sy b cs.size hlen w hcell (by simp[World.shape?,hc]) (by simp[World.frozen?,hc])).mono ?_;rintro e w' ⟨rfl,rfl⟩;have hset:w.setCell ⟨b,0,none⟩ (.pointer (some ⟨b,0,none⟩))=World.setBlk w b (cs.setIfInBounds 0 (.pointer (some ⟨b,0,none⟩))) 295:=by
     rw[setCell_eq_setRow w b 0 cs 295 (0,0) _ hc];exact R0 hc
    have hop:AV ρ (AL F.X ρ (H1++GX g (.prim (.pointer none)) x::H2)) w (.optr 1500 g 2 0 0) (.pointer (some ⟨b,0*2+0,none⟩)):=.optr hρ;have ho:DS ρ (AL F.X ρ (H1++GX g (.prim (.pointer none)) x::H2)) w (GX g (.optr 1500 g 2 0 0) x) (cs.setIfInBounds 0 (.pointer (some ⟨b,0,none⟩))):=by
     refine⟨by rw[YP];exact q.len,λi d hd=>?_,λi v hv=>?_,λi d j c hd hj=>?_⟩
     ·rcases i with _|i
      ·cases hd;rfl
      ·simp at hd
     ·rw[HM]at hv
      split at hv
      ·split at hv
       ·cases hv;rfl
       ·cases hv
      ·exact q.one i v hv
     ·rcases i with _|i
      ·cases hd
       rcases j with _|_|j
       ·cases hj
        have:(cs.setIfInBounds 0 (.pointer (some ⟨b,0,none⟩))).getD (0*2+0) undef=.pointer (some ⟨b,0*2+0,none⟩):=by
         simp[Ar,show 0<cs.size by omega]
        rw[this];exact hop
       ·cases hj
        have:(cs.setIfInBounds 0 (.pointer (some ⟨b,0,none⟩))).getD (0*2+1) undef=cs.getD 1 undef:=by
         simp[Ar]
        rw[this];exact hr1
       ·simp[D.cells]at hj
      ·simp at hd
    obtain⟨m1,x1⟩:=m.write (e':=GX g (.optr 1500 g 2 0 0) x) hρ hc rfl rfl rfl (YP ..) ho;rw[hset];exact⟨_,_,_,n,ρ,rfl,⟨rfl,rfl,rfl⟩,m1,x1,fr,λe' he'=>by
     rcases Bs.1 he' with h|h
     ·exact hgn e' (by simp[h])
     ·rcases Aw.1 h with rfl|h
      ·exact hgn (GX g (.prim (.pointer none)) x) he
      ·exact hgn e' (by simp[h]),.prim _⟩
   |_=>rw[hr0']at hr0;cases hr0
  ·cases hr0':cs.getD 0 undef with
   |pointer a=>
    rw[hr0']at hr0 hcell;cases hr0 with
    |optr hρ2=>
     rw[hρ]at hρ2;cases hρ2;refine(vM b w hcell).mono ?_;rintro e w' ⟨rfl,rfl⟩;exact⟨_,_,_,n,ρ,rfl,⟨rfl,rfl,rfl⟩,m,BW.refl _ _ _,fr,hgn,.prim _⟩
   |_=>rw[hr0']at hr0;cases hr0
theorem mr (w:World)(g n:Nat)(hn:n≠0)(cur:Array Value)(T:Nat)(hg:w.heap[g]?=some (.cells cur T (0,0))):
  (w.freeze ⟨g,0,none⟩ n).heap.size=w.heap.size/\(w.freeze ⟨g,0,none⟩ n).os=w.os/\(w.freeze ⟨g,0,none⟩ n).tape=w.tape/\(w.freeze ⟨g,0,none⟩ n).output=w.output /\
  (∀k,k≠g->(w.freeze ⟨g,0,none⟩ n).heap[k]?=w.heap[k]?)/\∃(cs':Array Value) (fz':Nat×Nat),(w.freeze ⟨g,0,none⟩ n).heap[g]?=some (.cells cs' T fz')/\cs'.size=cur.size:=by
 unfold World.freeze;rw[AG hn];refine⟨by simp,rfl,rfl,rfl,λk hk=>?_,?_⟩
 ·dsimp only
  rw[Array.getElem?_modify,AG (λh=>hk h.symm)]
 ·dsimp only
  rw[Array.getElem?_modify,AH rfl,hg];exact⟨cur,_,rfl,rfl⟩
theorem e0C (g gb n:Nat)(l:List UInt8)(h0:l≠[])(p:D)(R:Hp):
  C4 C0 206 [.optr 1500 g 2 0 0] (⟨206,gb,5,1,Gh l⟩::GX g p (.osl 206 gb 1 0 l.length)::R) n (λd H' n'=>d=str ⟨l.toArray⟩/\H'=GX g p (.osl 206 gb 1 0 l.length)::R/\n'=n):=by
 refine⟨⟨_,_,Tryz.func206,rfl,by kernel_rfl⟩,λF ρ w vs m fr hgn hvs hr=>?_⟩;have hz:=hr 0 _ rfl;have h0':l.length≠0:=by simpa using h0
 rw[kw hvs];generalize hv:vs.getD 0 undef=v at hz;cases hz with
 |optr hρ=>
  rename_i b;obtain⟨cs,hc,q⟩:=m.at (e:=GX g p (.osl 206 gb 1 0 l.length)) (by simp) hρ;have hlen:2<=cs.size:=q.len;have hr1:AV ρ (AL F.X ρ (⟨206,gb,5,1,Gh l⟩::GX g p (.osl 206 gb 1 0 l.length)::R)) w (.osl 206 gb 1 0 l.length) (cs.getD 1 undef):=q.rep 0 _ 1 (.osl 206 gb 1 0 l.length) rfl rfl;generalize hs1:cs.getD 1 undef=sv at hr1;generalize hL:l.length=L at hr1;cases hr1 with
   |onil=>exact Ah hL h0'
   |osl hρ2 hb2 hc2 hs2 hm2=>
    rename_i cap gy T' cs2 fz2;obtain⟨cur,hcur,qy⟩:=m.at (e:=⟨206,gb,5,1,Gh l⟩) (by simp) hρ2;rw[hb2]at hcur;cases hcur;have hcap:cap=cs2.size:=by omega
    subst hcap;have hcell:∀(j:Nat) (x:UInt8),l[j]?=some x->cs2[j]?=some (.int .u8 x.toNat):=λj x hx=>by
     have hr:=qy.rep j (.prim (.int .u8 (x.toNat:Int))) 0 (.prim (.int .u8 (x.toNat:Int))) (by unfold Gh;rw[BT,hx];rfl) rfl;have hlt:j<cs2.size:=by
      have:=(BR.1 hx).1
      omega
     generalize hvv:cs2.getD (j*1+0) undef=vv at hr;cases hr;rw[CW hlt]
     have:cs2.getD j undef=cs2[j]:=by simp[Array.getD,hlt]
     rw[EQ,Dm,this]at hvv;rw[hvv]
    have hb1:cs[1]?=some (.slice (some ⟨gy,0,none⟩) l.length cs2.size):=by
     have hlt:1<cs.size:=by omega
     rw[CW hlt]
     have:cs.getD 1 undef=cs[1]:=by simp[Array.getD,hlt]
     rw[this]at hs1;rw[hs1,hL,HP]
    refine(e1H b gy cs2 cs l h0 w hc hb1 hb2 (by omega) (by omega) hcell).mono ?_;rintro e w' ⟨rfl,rfl⟩;have md:=m.drew;obtain⟨f1,f2,f3,f4,f5,cs',fz',f6,f7⟩:=mr w.drew gy l.length h0' cs2 5 hb2;obtain⟨m1,x1⟩:=e2P (H1:=[]) (H2:=GX g p (.osl 206 gb 1 0 l.length)::R) (w':=w.drew.freeze ⟨gy,0,none⟩ l.length) md hρ2 f1 f2 f3 f4 f5 (λc hcc=>by
     have hb2':w.drew.heap[gy]?=some (.cells cs2 5 (0,0)):=hb2;have hcc':w.drew.heap[gy]?=some (.cells c 5 (0,0)):=hcc;rw[hb2']at hcc';cases hcc';exact⟨cs',fz',f6,f7⟩)
    rw[hL];rw[hL]at m1 x1;exact⟨_,_,_,n,ρ,rfl,⟨rfl,rfl,rfl⟩,m1,(BW.drew _ _ _).trans x1,fr,λe' he'=>hgn e' (by rw[hL];exact B6 _ he'),.prim _⟩
set_option maxRecDepth 20000
set_option maxHeartbeats 4000000
def bH (gb g:Nat)(p:D)(L:List UInt8)(R:Hp):Hp:=EN 206 gb 5 1 (Gh L)++(GX g p (E2 206 gb 1 (Gh L))::R)
theorem o6 (s:List UInt8):JB (sb s)=Gh s:=rfl
theorem Pd (l:List UInt8):(Gh l).length=l.length:=Al ..
theorem o5 (a b:List UInt8):Gh (a++b)=Gh a++Gh b:=Du
theorem ax {l:List UInt8}(h:l≠[]):∃x r,Gh l=x::r:=by
 cases l with
 |nil=>exact Ah rfl h
 |cons a l=>exact⟨_,_,rfl⟩
theorem lL (g gb n:Nat)(p:D)(hp:p=.prim (.pointer none)\/p=.optr 1500 g 2 0 0)(L s:List UInt8)(hs:s≠[])(R:Hp)(hlen:L.length+s.length<=100000000):
  C4 C0 205 [.optr 1500 g 2 0 0,str (sb s)] (bH gb g p L R) n (λd H' n'=>(∃g',H'=bH g' g (.optr 1500 g 2 0 0) (L++s) R)/\n<=n'):=by
 refine C4.walk w1 gV rfl λF=>?_
 have hsz:=Cd s;have hb:=o6 s;obtain⟨x,r,hx⟩:=ax hs;have hr:s.length=r.length+1:=by rw[<-Pd,hx];rfl
 unfold bH;rw[o5];cases hL:Gh L with
 |nil=>
  dsimp only[Kc,Mz,List.nil_append];refine AR Aq kB AB AB AB AB AB AB ?_;refine BI.own _ (ky g _ CS p [] R hp) ?_;rintro d H' n' ⟨rfl,rfl,rfl⟩;have hL0:L.length=0:=by rw[<-Pd,hL];rfl
  refine AR Aq (Ae hsz hb) AB AB AB AB AB AB ?_;refine⟨?_,by omega⟩;apply Exists.intro;rw[hx,hr];rfl
 |cons y l=>
  dsimp only[Gy,Gz,List.cons_append,List.nil_append];have hL1:L.length=l.length+1:=by rw[<-Pd,hL];rfl
  have htk:List.take (l.length+1) (y::l)=y::l:=by simp
  refine AR Aq kB AB AB AB AB AB AB ?_;refine BI.own _ (ky g _ (.osl 206 gb 1 0 (l.length+1)) p [⟨206,gb,5,1,y::l⟩] R hp) ?_;rintro d H' n' ⟨rfl,rfl,rfl⟩;refine AR Aq (BG hsz hb htk) AB AB AB AB AB AB ?_;refine⟨?_,by omega⟩;apply Exists.intro;have hap:y::l++Gh s=y::(l++Gh s):=rfl;have hl2:(l++Gh s).length+1=l.length+1+s.length:=by rw[Bz,Pd];omega
  rw[hl2]
open Go.Sort Go.Shelf
section
open Go.Lib
set_option maxHeartbeats 6400000 in
set_option maxRecDepth 100000 in
theorem e1S (u:Nat) (hu64:u<18446744073709551616) (w:World) (htab:Lib.TabIs Tryz.prog w "internal/strconv.uint64pow10" .u64 Lib.pow10Tab):
  Calls Tryz.prog 242 #[.int .u64 u,.int .i64 10] w λe w'=>e=.returned (.string ⟨(Lib.decDigits u).toArray⟩)/\∃k os,w'=grow (w.drewN k) os:=by
 have e283:∀args w,(callFunc 274 args).run Tryz.prog w=.ok (.enter 274 args) w:=enters_of Tryz.func274 (by kernel_rfl) rfl;have e284:∀args w,(callFunc 275 args).run Tryz.prog w=.ok (.enter 275 args) w:=enters_of Tryz.func275 (by kernel_rfl) rfl;have e285:∀args w,(callFunc 276 args).run Tryz.prog w=.ok (.enter 276 args) w:=enters_of Tryz.func276 (by kernel_rfl) rfl
 by_cases hs:u<100
 ·go_enter Tryz.func242,Tryz.ntmps242
  go_wp2_with (go_at_fn 274;refine(Tryz.internal_strconv_small u hs _).mono ?_;rintro e w' ⟨rfl,rfl⟩)
  go_ret
  exact⟨rfl,0,#[],by simp[World.drewN_zero]⟩
 ·have hu1:1<=u:=by omega
  have hnd20:Lib.nDigits u<=20:=by have:=Lib.numDigits_eq u hu1 hu64;split at this<;>omega
  have hb3:Lib.nDigits u<=24:=by omega
  have hal:Tryz.prog.arrayLen 351=24:=by kernel_rfl
  have hsl1:∀W,(Instr.sliceAt 351 (.pointer (some ⟨w.heap.size,0,none⟩)) none (some (.int .i64 (Lib.nDigits u:Int))) none).run Tryz.prog W=.ok (.slice (some ⟨w.heap.size,0,none⟩) (Lib.nDigits u) 24) W:=λW=>by
   rw[run_sliceAt_array_h W 351 ⟨w.heap.size,0,none⟩ (by kernel_rfl) .i64 (Lib.nDigits u:Int) (by omega) (by rw[hal];omega)]
   go_simp
  have hH0:=Lib.holds_zero0 w 351 (Lib.nDigits u) (by omega);have hfmt:=Tryz.internal_strconv_formatBase10 w.heap.size 0 24 u (Array.replicate (Lib.nDigits u) 0) (w.alloc (.cells Lib.zeros24 351)) hH0 (by rw[UD];exact Lib.lt_pow_nDigits u) hu64 (by rw[UD];omega);rw[UD]at hfmt;have HH0:=Lib.hid hH0;clear hH0 hal
  go_enter Tryz.func242,Tryz.ntmps242
  go_wp2_with (first
   |(go_at_fn 275;refine(Tryz.internal_strconv_numDigits u hu1 hu64 _ (Lib.tabIs_alloc htab _)).mono ?_;rintro e w' ⟨rfl,rfl⟩))
  go_at_fn 276
  refine hfmt.mono ?_;rintro e w' ⟨rfl,k,v',dk,rfl,hF⟩;have hcv:(convert 293 9 (.slice (some ⟨w.heap.size,0,none⟩) (Lib.nDigits u) 24)).run Tryz.prog ((putRow (λ(b:UInt8)=>Value.int .u8 (b.toNat:Int)) (w.alloc (.cells Lib.zeros24 351)) w.heap.size 0 dk).drewN k)=.ok (.string ⟨(Lib.decDigits u).toArray⟩) ((putRow (λ(b:UInt8)=>Value.int .u8 (b.toNat:Int)) (w.alloc (.cells Lib.zeros24 351)) w.heap.size 0 dk).drewN k):=by
   have h:=run_convert_bytes_back (P:=Tryz.prog) ((putRow (λ(b:UInt8)=>Value.int .u8 (b.toNat:Int)) (w.alloc (.cells Lib.zeros24 351)) w.heap.size 0 dk).drewN k) 293 9 5 ⟨w.heap.size,0,none⟩ 24 (Lib.decDigits u) (by kernel_rfl) (by kernel_rfl) (by kernel_rfl) (λj hj=>by
    rw[Lib.row_is_numeral hF j hj,Lib.add_plain,World.cell?_drewN];exact cell?_putRow (λ(b:UInt8)=>Value.int .u8 (b.toNat:Int)) _ w.heap.size 0 _ dk HH0.out (by rw[hF.size,UD]) j (by rw[hF.size];rw[Lib.decDigits_length]at hj;exact hj))
   rw[Lib.decDigits_length]at h;exact h
  go_wp2
  go_ret
  obtain⟨os,eo⟩:=Lib.fin_at w (.cells Lib.zeros24 351) dk k 0;exact⟨rfl,k,os,eo⟩
end
theorem oA {O:Nat->Prop}{w:World}{v u:Value}{vs:Array Value}(hn:vs.size=2)(h:∀(i:Nat) (x:D),[D.prim v,.prim u][i]?=some x->AV nol O w x (vs.getD i undef)):vs = #[v,u]:=by
 match vs,hn with
 |⟨[a,b]⟩,_=>
  have h0:=h 0 _ rfl;have h1:=h 1 _ rfl;simp at h0 h1;cases h0;cases h1;rfl
theorem uF (u:Nat)(hu:u<18446744073709551616):AI C0 242 [.prim (.int .u64 (u:Int)),i64 10] (str ⟨(Lib.decDigits u).toArray⟩):=by
 refine⟨⟨_,_,Tryz.func242,rfl,by kernel_rfl⟩,λY w vs hG hnG hX hvs hr=>?_⟩
 have:=oA hvs hr
 subst this;refine(e1S u hu w hG).mono ?_;rintro e w' ⟨rfl,k,os,rfl⟩;exact⟨_,_,rfl,Lib.below_grow _ _ (Am _) _ _,rfl,.prim _⟩
theorem wo (u:Nat)(hu:u<18446744073709551616):AI C0 203 [.prim (.int .u64 (u:Int)),i64 10] (str ⟨(Lib.decDigits u).toArray⟩):=by
 refine Ac.walk w1 gU rfl λF=>?_
 refine AR Aq kB (uF u hu) AB AB AB AB AB ?_;exact AM rfl AA.out
theorem rp0:AI C0 204 [str ⟨#[48]⟩,i64 0] (str ⟨#[]⟩):=DR Eh 400 20
theorem rp1:AI C0 204 [str ⟨#[48]⟩,i64 1] (str ⟨#[48]⟩):=DR Eh 400 20
theorem rp2:AI C0 204 [str ⟨#[48]⟩,i64 2] (str ⟨#[48,48]⟩):=DR Eh 400 20
theorem rp3:AI C0 204 [str ⟨#[48]⟩,i64 3] (str ⟨#[48,48,48]⟩):=DR Eh 400 20
theorem rp4:AI C0 204 [str ⟨#[48]⟩,i64 4] (str ⟨#[48,48,48,48]⟩):=DR Eh 400 20
theorem rp5:AI C0 204 [str ⟨#[48]⟩,i64 5] (str ⟨#[48,48,48,48,48]⟩):=DR Eh 400 20
theorem rp6:AI C0 204 [str ⟨#[48]⟩,i64 6] (str ⟨#[48,48,48,48,48,48]⟩):=DR Eh 400 20
theorem rp7:AI C0 204 [str ⟨#[48]⟩,i64 7] (str ⟨#[48,48,48,48,48,48,48]⟩):=DR Eh 400 20
theorem rp8:AI C0 204 [str ⟨#[48]⟩,i64 8] (str ⟨#[48,48,48,48,48,48,48,48]⟩):=DR Eh 400 20
theorem rp9:AI C0 204 [str ⟨#[48]⟩,i64 9] (str ⟨#[48,48,48,48,48,48,48,48,48]⟩):=DR Eh 400 20
theorem e2n:AI C0 204 [str ⟨#[48]⟩,i64 10] (str ⟨#[48,48,48,48,48,48,48,48,48,48]⟩):=DR Eh 400 20
theorem e2o:AI C0 204 [str ⟨#[48]⟩,i64 11] (str ⟨#[48,48,48,48,48,48,48,48,48,48,48]⟩):=DR Eh 400 20
theorem e2p:AI C0 204 [str ⟨#[48]⟩,i64 12] (str ⟨#[48,48,48,48,48,48,48,48,48,48,48,48]⟩):=DR Eh 400 20
theorem e2q:AI C0 204 [str ⟨#[48]⟩,i64 13] (str ⟨#[48,48,48,48,48,48,48,48,48,48,48,48,48]⟩):=DR Eh 400 20
theorem e2r:AI C0 204 [str ⟨#[48]⟩,i64 14] (str ⟨#[48,48,48,48,48,48,48,48,48,48,48,48,48,48]⟩):=DR Eh 400 20
theorem e2s:AI C0 204 [str ⟨#[48]⟩,i64 15] (str ⟨#[48,48,48,48,48,48,48,48,48,48,48,48,48,48,48]⟩):=DR Eh 400 20
theorem e2t:AI C0 204 [str ⟨#[48]⟩,i64 16] (str ⟨#[48,48,48,48,48,48,48,48,48,48,48,48,48,48,48,48]⟩):=DR Eh 400 20
theorem e2u:AI C0 204 [str ⟨#[48]⟩,i64 17] (str ⟨#[48,48,48,48,48,48,48,48,48,48,48,48,48,48,48,48,48]⟩):=DR Eh 400 20
theorem ux (n:Nat)(h:n<=17):AI C0 204 [str ⟨#[48]⟩,i64 (n:Int)] (str ⟨(List.replicate n 48).toArray⟩):=by
 match n,h with
 | 0,_=>exact rp0
 | 1,_=>exact rp1
 | 2,_=>exact rp2
 | 3,_=>exact rp3
 | 4,_=>exact rp4
 | 5,_=>exact rp5
 | 6,_=>exact rp6
 | 7,_=>exact rp7
 | 8,_=>exact rp8
 | 9,_=>exact rp9
 | 10,_=>exact e2n
 | 11,_=>exact e2o
 | 12,_=>exact e2p
 | 13,_=>exact e2q
 | 14,_=>exact e2r
 | 15,_=>exact e2s
 | 16,_=>exact e2t
 | 17,_=>exact e2u
 |n+18,h=>omega
theorem uK {H Hf r r':Hp}{K g T sz:Nat}{l:List D}(h:C2 H Hf r r'):C2 H Hf (EN K g T sz l++r) r':=by
 cases l with
 |nil=>exact h
 |cons x l=>exact .drop h
set_option maxHeartbeats 8000000
def Gk (q r:Nat):List UInt8:=if q=0 then Lib.decDigits r else List.replicate (18-(Lib.decDigits r).length) 48++Lib.decDigits r
theorem bE:Lib.decDigits 0=[48]:=by unfold Lib.decDigits;rfl
theorem QR (n:Nat):Lib.decDigits n≠[]:=(GQ n).2.2
theorem rx (q r:Nat):Gk q r≠[]:=by
 unfold Gk;split
 ·exact QR r
 ·intro h;exact QR r (List.append_eq_nil_iff.1 h).2
theorem qT {q r:Nat}(hq:q≠0):Gk q r=Fj 18 r []:=by
 unfold Gk Fj Nj;rw[AG hq]
 by_cases h:r=0
 ·subst h;rw[bE,AH rfl];rfl
 ·rw[AG h,Dh]
theorem rh (B q r:Nat)(hB:B=10^18)(hr:r<B):Lib.decDigits (q*B+r)=if q=0 then Gk q r else Lib.decDigits q++Gk q r:=by
 by_cases hq:q=0
 ·subst hq;rw[AH rfl];unfold Gk;rw[AH rfl,HP,BX]
 ·rw[AG hq,qT hq,hB]
  exact V9 18 q r hq (by rw[<-hB];exact hr)
def Er (P:List (List UInt8)):List UInt8:=P.reverse.flatten
theorem Zh (P:List (List UInt8))(p:List UInt8):Er (P++[p])=p++Er P:=by unfold Er;simp
theorem XD (a b:List UInt8):sb a++sb b=sb (a++b):=by
 apply ByteArray.ext;simp[ByteArray.data_append]
theorem pv {P:List (List UInt8)}(h:∀p∈P,p≠[]):P.length<=(Er P).length:=by
 unfold Er;rw[List.length_flatten,<-List.length_reverse];generalize hQ:P.reverse=Q;have h':∀p∈Q,p≠[]:=λp hp=>h p (by rw[<-hQ]at hp;exact List.mem_reverse.1 hp)
 clear hQ h
 induction Q with
 |nil=>exact Am _
 |cons a r ih=>
  have h1:=ih λp hp=>h' p (B6 _ hp)
  have h2:a.length≠0:=λq=>h' a CF (FU q)
  rw[CX,List.sum_cons,By];omega
structure OR (n m:Nat)(P:List (List UInt8)):Prop where
 ne:m≠0->Lib.decDigits n=Lib.decDigits m++Er P
 eq:m=0->Lib.decDigits n=Er P
 all:∀p∈P,p≠[]
 le:m<=n
theorem OR.len {n m:Nat}{P:List (List UInt8)}(h:OR n m P):P.length<=(Lib.decDigits n).length:=by
 have h1:=pv h.all
 by_cases q:m=0
 ·rw[h.eq q];exact h1
 ·rw[h.ne q,Bz];omega
theorem OR.step {n m:Nat}{P:List (List UInt8)}{B:Nat}(h:OR n m P)(hm:m≠0)(hB:B=10^18):OR n (m/B) (P++[Gk (m/B) (m%B)]):=by
 have hB0:0<B:=by rw[hB];decide
 have hd:=rh B (m/B) (m%B) hB (CJ _ hB0);rw[show m/B*B+m%B=m by rw[Bd];exact Fq m B]at hd;have hn:=h.ne hm;rw[hd]at hn;refine⟨λq=>?_,λq=>?_,λp hp=>?_,BP (GH _ _) h.le⟩
 ·rw[AG q]at hn;rw[hn,Zh,DO]
 ·rw[AH q]at hn;rw[hn,Zh]
 ·rcases Bs.1 hp with hp|hp
  ·exact h.all p hp
  ·rw[DG]at hp;subst hp;exact rx _ _
abbrev F9 (P:List (List UInt8)):List D:=P.map λp=>str (sb p)
theorem Vk (x:GI)(h:x.wf)(hf:x.few):AI C0 162 [x.D] (str (sb (Lib.itoa x.z))):=by
 refine Ac.walk w1 Ws rfl λF=>?_
 obtain⟨z,sm⟩:=x;obtain⟨h1,h2⟩:=h;have hp:=Ki ⟨z,sm⟩ ⟨h1,h2⟩;dsimp only[GI.D,GI.few]at*;cases sm with
 |true=>
  obtain⟨h3,h4⟩:=h1 rfl;have c:AI C0 201 [i64 z] (str (sb (Lib.itoa z))):=eQ z h3 (by omega);unfold GI.s GI.w;dsimp only;refine AR Aq kB c AB AB AB AB AB ?_;exact AM rfl AA.out
 |false=>
  have hz:=h2 rfl;have hz0:z.natAbs≠0:=λq=>hz (by obtain rfl:z=0:=(by omega);exact Cn rfl)
  have hw:GI.w ⟨z,false⟩=wD z.natAbs:=rfl;have hs:GI.s ⟨z,false⟩=if z<0 then -1 else 1:=rfl
  rw[hw]at hp⊢;obtain⟨sg,hsg⟩:∃s,GI.s ⟨z,false⟩=s:=⟨_,rfl⟩
  rw[hsg]at hp⊢;obtain⟨B,hB⟩:∃B:Nat,B=10^18:=⟨_,rfl⟩
  have hB1:B<BB:=by rw[hB];decide
  have hB0:B≠0:=by rw[hB];decide
  have hB2:1<B:=by rw[hB];decide
  have hBs:u64 1000000000000000000=AS B:=by rw[hB];rfl
  have hBl:Ad B=[B]:=OA hB0 hB1;obtain⟨n,hn⟩:∃n,z.natAbs=n:=⟨_,rfl⟩
  obtain⟨neg,hneg⟩:∃b,decide (z<0)=b:=⟨_,rfl⟩
  rw[hn]at hp hf hz0⊢;rw[hneg]at hp;have hit:Lib.itoa z=(if neg then[45]else[])++Lib.decDigits n:=by
   unfold Lib.itoa
   by_cases q:z<0
   ·rw[AH q,<-hneg,Ax q,hn];rfl
   ·rw[AG q,<-hneg,Az q,<-hn]
    have:z.toNat=z.natAbs:=by omega
    rw[this];rfl
  rw[hit];have hDL:(Lib.decDigits n).length<=27*1000000+1:=Od (k:=1000000) (by omega);have hmpos:∀m:Nat,m≠0->decide ((((Ad m).map AS).length:Int)>0)=true:=λm hm=>Ax (by
   rw[G1 hm,CX,By];omega)
  have hm0:decide ((((Ad 0).map AS).length:Int)>0)=false:=Az (by rw[Gg];decide);obtain⟨w0,ws,hws⟩:∃a l,(Ad n).map AS=a::l:=by
   cases hl:(Ad n).map AS with
   |nil=>exact Ah hl (Ia hz0)
   |cons a l=>exact⟨a,l,rfl⟩
  have hwD:wD n=.sl false 1 (w0::ws):=by unfold wD wL;rw[hws]
  have hbD:wD B=.sl false 1 [u64 1000000000000000000]:=by unfold wD wL;rw[hBl,hBs];rfl
  have pw:AA (.sl false 1 (w0::ws)):=by rw[<-hwD];exact AJ
  rw[hwD]at hp⊢;clear hit h1 h2 hz hs hsg;have hne:(w0::ws≠[])=True:=eq_true (List.cons_ne_nil _ _);refine AR Aq hne hp AB AB AB AB AB ?_;rw[<-hwD];refine AC.loop (α:=Nat×List (List UInt8)×Nat×Nat) (λp=>⟨[(3,Av neg),(4,wD p.1),(5,wD B),(6,E2 1303 p.2.2.1 1 (F9 p.2.1))],EN 1303 p.2.2.1 9 1 (F9 p.2.1),p.2.2.2⟩) (λp=>p.1)
   (λp=>OR n p.1 p.2.1) (n,[],0,_) ⟨λ_=>by unfold Er;simp,λq=>Ah q hz0,λp hp=>Ah hp Ds,Am _⟩ (by refine⟨.drop .nil,⟨.refl _,.refl _,?_,.refl _,trivial⟩,Am _⟩;dsimp only;rw[hbD];exact .nn true 1 _) ?_
  rintro⟨m,P,g,cnt⟩ F I;dsimp only at I⊢;have hPl:=I.len;rcases Nat.decEq m 0 with hm|hm
  rotate_left
  ·subst hm
   have hdn:=I.eq rfl;have hall:=I.all;have hLn:P.length<=27000001:=by omega
   have hP0:P≠[]:=λq=>QR n (by rw[hdn,q];rfl)
   obtain⟨N,hN⟩:∃N,P.length=N:=⟨_,rfl⟩
   have hN0:N≠0:=λq=>hP0 (FU (by omega))
   rw[hdn];clear hwD hbD pw hp hn hPl I;have elP:(((F9 P).length:Nat):Int)=(N:Int):=by rw[Al,hN]
   have wN:IntKind.i64.wrap ((N:Int)-1)=((N:Int)-1):=wI;refine AC.seq ?_;refine sZ 600 ?_;refine AW hm0 ?_;refine AK ?_;refine CM ?_;refine AC.weak ⟨[(3,Av neg),(6,.sl false 1 (F9 P))],[],_⟩ ⟨?_,⟨.refl _,?_,trivial⟩,Am _⟩ ?_
   ·have:=uK (K:=1303) (g:=g) (T:=9) (sz:=1) (l:=F9 P) (r:=[]) (r':=[]) (H:=EN 1303 g 9 1 (F9 P)) (Hf:=[]) .nil
    rwa [Dh]at this
   ·exact W7 _ _ _ _ _
   obtain⟨c0,hc0⟩:∃c,c=cnt+1+1+1:=⟨_,rfl⟩
   rw[<-hc0];refine sR 1500 ?_;obtain⟨c1,hc1⟩:∃c,c=c0+1:=⟨_,rfl⟩
   refine C9 (α:=D×Nat×Nat) (λq=>⟨[(6,.sl false 1 (F9 P)),(10,.optr 1500 c0 2 0 0)],bH q.2.1 c0 q.1 (if neg then[45]else[]) [],q.2.2⟩) (λq=>q.1=.prim (.pointer none)\/q.1=.optr 1500 c0 2 0 0) ?_ ?_
   ·cases neg
    ·refine AR Aq kB AB AB AB AB AB AB ?_
     exact⟨by trivial,(.prim (.pointer none),0,_),.inl rfl,AN⟩
    ·refine AR Aq kB AB AB AB AB AB AB ?_
     refine BI.own _ (lL c0 0 _ (.prim (.pointer none)) (.inl rfl) [] [45] (by decide) [] (by decide)) ?_;rintro d H' n' ⟨⟨g',rfl⟩,hn'⟩;refine Bb ?_;exact⟨by trivial,(.optr 1500 c0 2 0 0,g',_),.inr rfl,AN⟩
   rintro⟨p0,gb0,c2⟩ hp0;dsimp only at hp0⊢;obtain⟨pre,hpre⟩:∃l,(if neg then[45]else[]:List UInt8)=l:=⟨_,rfl⟩
   have hpl:pre.length<=1:=by rw[<-hpre];split<;>decide
   rw[hpre];refine AR Aq (Ae elP @wN) AB AB AB AB AB AB ?_;refine AC.loop (α:=Nat×D×Nat×Nat) (λq=>⟨[(6,.sl false 1 (F9 P)),(10,.optr 1500 c0 2 0 0),(11,i64 ((q.1:Int)-1))],bH q.2.2.1 c0 q.2.1 (pre++Er (P.drop q.1)) [],q.2.2.2⟩) (λq=>q.1)
    (λq=>q.1<=N/\(q.2.1=.prim (.pointer none)\/q.2.1=.optr 1500 c0 2 0 0)) (N,p0,gb0,_) ⟨Am _,hp0⟩ (by dsimp only;rw[<-hN,KH];unfold Er;rw[List.reverse_nil,List.flatten_nil,Dh];exact AN) ?_
   rintro⟨k,p,gb,c3⟩ F ⟨hk,hp⟩;dsimp only at hk hp⊢;have hjl:∀k,(Er (P.drop k)).length<=(Er P).length:=λk=>by
    unfold Er
    conv=>rhs;rw[<-GL k P]
    rw[List.reverse_append,List.flatten_append,Bz];omega
   have hjP:(Er P).length<=27000001:=by rw[<-hdn];omega
   rcases EC k with hk0|hk0
   ·subst hk0
    have e1:decide ((((0:Nat):Int)-1)>=0)=false:=by decide
    rw[Fr];have hL:pre++Er P≠[]:=λq=>by
     have:=(List.append_eq_nil_iff.1 q).2
     rw[<-hdn]at this;exact QR n this
    obtain⟨L,hLL⟩:∃L,pre++Er P=L:=⟨_,rfl⟩
    rw[hLL]at hL⊢;obtain⟨y,r,hy⟩:=ax hL;have hlr:L.length=r.length+1:=by rw[<-Pd,hy];rfl
    refine AR Aq e1 AB AB AB AB AB AB ?_;refine BI.own _ (by
     have:=λn=>e0C c0 gb n L hL p []
     unfold bH;simp only[hy,hlr]at this⊢;exact this _) ?_
    rintro d H' n' ⟨rfl,rfl,rfl⟩;refine AR Aq kB AB AB AB AB AB AB ?_;exact AM rfl AA.out
   ·obtain⟨k',rfl⟩:∃k',k=k'+1:=⟨k-1,by omega⟩
    have e1:decide ((((k'+1:Nat):Int)-1)>=0)=true:=BV;have e2:(((k'+1:Nat):Int)-1)=(k':Int):=by omega
    have wk:IntKind.i64.wrap ((k':Int)-1)=((k':Int)-1):=wI;have e3:decide ((k':Int)>=0)=true:=BV;obtain⟨t,ht⟩:∃t,P[k']?=some t:=CV (by omega);have hm:(F9 P)[k']?=some (str (sb t)):=by rw[BT,ht];rfl
    have htn:=hall t (A8 ht);have hdr:P.drop k'=t::P.drop (k'+1):=by
     rw[E3 (BR.1 ht).1,(BR.1 ht).2]
    have hj:pre++Er (P.drop k')=pre++Er (P.drop (k'+1))++t:=by
     rw[hdr,DO]
     congr 1
     unfold Er;rw[List.reverse_cons,List.flatten_append];simp
    have hlt:(pre++Er (P.drop (k'+1))).length+t.length<=100000000:=by
     have h1:=hjl k';have h2:(pre++Er (P.drop k')).length=(pre++Er (P.drop (k'+1))).length+t.length:=by rw[hj,Bz]
     rw[<-h2,Bz];omega
    rw[e2];refine AR Aq (Ae e3 kN) hm AB AB AB AB AB ?_;refine BI.own _ (lL c0 gb _ p hp (pre++Er (P.drop (k'+1))) t htn [] hlt) ?_;rintro d H' n' ⟨⟨g',rfl⟩,hn'⟩;refine Bb ?_;refine AR Aq wk AB AB AB AB AB AB ?_;exact⟨(k',.optr 1500 c0 2 0 0,g',_),⟨by dsimp only;omega,.inr rfl⟩,by dsimp only;omega,by(dsimp only;rw[hj];exact AN)⟩
  have e1:=hmpos m hm;have c1:=lF m B hB0 (DD (IY m n I.le) hf) (by rw[hBl];show 1<1000000;decide);have I2:=I.step hm hB;obtain⟨q,hq⟩:∃q,m/B=q:=⟨_,rfl⟩
  obtain⟨r,hr⟩:∃q,m%B=q:=⟨_,rfl⟩
  have hqm:q<m:=by rw[<-hq];exact It (ER hm) hB2
  have hrB:r<B:=by rw[<-hr];exact CJ _ (ER hB0)
  rw[hq,hr]at c1 I2;have hsz:=Cd (Lib.decDigits r);have hdl:(Lib.decDigits r).length<=18:=KV 17 r (by rw[hB]at hrB;exact hrB);have hdl1:(Lib.decDigits r).length≠0:=λh=>QR r (FU h)
  refine AR Aq e1 AB AB AB AB AB AB ?_;refine cI c1 ?_;refine sR 800 ?_;refine C9 (α:=Nat) (λcnt=>⟨[(3,Av neg),(5,wD B),(6,E2 1303 g 1 (F9 P)),(7,wD q),(9,str (sb (Lib.decDigits r)))],EN 1303 g 9 1 (F9 P),cnt⟩) (λ_=>True) ?_ ?_
  ·rcases Nat.decEq r 0 with h0|h0
   ·have e2:=hmpos r h0
    have hl1:Ad r=[r]:=OA h0 (Gs hrB hB1);have hmm:((Ad r).map AS)[0]?=some (u64 (r:Int)):=by rw[hl1];rfl
    have c2:=wo r (Gs hrB hB1);refine AR Aq e2 hmm c2 AB AB AB AB ?_;exact⟨by trivial,_,trivial,AN⟩
   ·subst h0
    rw[bE];refine AR Aq hm0 AB AB AB AB AB AB ?_;exact⟨by trivial,_,trivial,AN⟩
  rintro cnt2 -;refine C9 (α:=Nat) (λcnt=>⟨[(3,Av neg),(5,wD B),(6,E2 1303 g 1 (F9 P)),(7,wD q),(9,str (sb (Gk q r)))],EN 1303 g 9 1 (F9 P),cnt⟩) (λ_=>True) ?_ ?_
  ·rcases Nat.decEq q 0 with h0|h0
   ·have e2:=hmpos q h0
    have c2:AI C0 204 [str ⟨#[48]⟩,i64 ((18-(Lib.decDigits r).length:Nat):Int)] (str (sb (List.replicate (18-(Lib.decDigits r).length) 48))):=ux (18-(Lib.decDigits r).length) (by omega);have w18:IntKind.i64.wrap (18-((Lib.decDigits r).length:Int))=((18-(Lib.decDigits r).length:Nat):Int):=by rw[wI];omega
    have hap:=XD (List.replicate (18-(Lib.decDigits r).length) 48) (Lib.decDigits r);have hsz2:=Cd (List.replicate (18-(Lib.decDigits r).length) 48);have hpt:List.replicate (18-(Lib.decDigits r).length) 48++Lib.decDigits r=Gk q r:=by unfold Gk;rw[AG h0]
    rw[hpt]at hap;have hsize:(sb (List.replicate (18-(Lib.decDigits r).length) 48)).size+(sb (Lib.decDigits r)).size<=9223372036854775807:=by
     rw[hsz,hsz2,Is];omega
    refine AR Aq (Bo e2 hsz w18 hap) c2 AB AB AB AB AB ?_;exact⟨by trivial,_,trivial,AN⟩
   ·subst h0
    have hpt:Gk 0 r=Lib.decDigits r:=AH rfl;rw[hpt];refine AR Aq hm0 AB AB AB AB AB AB ?_;exact⟨by trivial,_,trivial,AN⟩
  rintro cnt3 -;have hsn:F9 (P++[Gk q r])=F9 P++[str (sb (Gk q r))]:=by unfold F9;rw[Du];rfl
  have hPL:(F9 P).length=P.length:=Al ..;rcases hPD:F9 P with _|⟨y,l⟩
  all_goals
   rw[hPD]at hsn hPL;dsimp only[Kc,Mz,Gy,Gz,List.nil_append]
  ·refine AR Aq kB AB AB AB AB AB AB ?_
   exact⟨(q,P++[Gk q r],_,_),I2,hqm,by(dsimp only;rw[hsn];exact AN)⟩
  ·have htk:List.take (l.length+1) (y::l)=y::l:=by simp
   have hll:l.length+1<=27000001:=by rw[By]at hPL;omega
   refine AR Aq htk AB AB AB AB AB AB ?_;exact⟨(q,P++[Gk q r],_,_),I2,hqm,by(dsimp only;rw[hsn,R1];exact AN)⟩
abbrev bM:Dr:=[(3,[0,1,2,3,4,5,6],[7,8])]
open Go.Proofs Go.RowKit
set_option maxRecDepth 20000
set_option maxHeartbeats 4000000
theorem sS (x:Nat)(hx:x<BB):AI C0 234 [AS x] (i64 (Lib.bitLen x:Int)):=by
 refine⟨⟨_,_,Tryz.func234,rfl,by kernel_rfl⟩,λY w vs hG hnG hX hvs hr=>?_⟩
 have:=SA hvs hr
 subst this;refine(Tryz.bits_Len64 x w (by omega) (by unfold BB at hx;omega)).mono ?_;rintro e w' ⟨rfl,rfl⟩;exact⟨_,_,rfl,.refl _ _,rfl,.prim _⟩
def Fm (n:Nat):Nat:=(Ad n).getD ((Ad n).length-1) 0
def JF (n:Nat):Nat:=if n=0 then 0 else 64*((Ad n).length-1)+Lib.bitLen (Fm n)
theorem sx (n:Nat):n<2^JF n:=by
 unfold JF
 by_cases h:n=0
 ·subst h;rw[AH rfl];decide
 ·rw[AG h]
  have hl:(Ad n).length≠0:=λq=>by
   have:=G1 h
   rw[this]at q;simp at q
  obtain⟨k,hk⟩:∃k,(Ad n).length=k+1:=⟨(Ad n).length-1,by omega⟩
  have hat:(Ad n)[k]?=some (Fm n):=by
   unfold Fm;rw[hk,JW,FY,Ce];rfl
  have hv:=Ln hat;rw[IR (by omega),Fi]at hv;have ht:Fm n<BB:=F3 n _ (A8 hat);have h1:AT ((Ad n).take k)<BB^k:=by
   have:=Id (l:=(Ad n).take k) λa ha=>F3 n a (HK ha)
   rwa [Be,FW (by omega)]at this
  have h2:Fm n<2^Lib.bitLen (Fm n):=by
   by_cases t0:Fm n=0
   ·rw[t0];exact Ht _
   ·exact(Lib.bitLenAux_bounds 64 (Fm n) ht t0).2.2
  have h3:BB^k=2^(64*k):=by rw[Nat.pow_mul]
  rw[hk,JW,Gt,<-h3];have h4:n=AT ((Ad n).take k)+BB^k*Fm n:=by simpa[AT]using hv
  have h5:BB^k*(Fm n+1)<=BB^k*2^Lib.bitLen (Fm n):=Cj _ h2;rw[BQ,EQ]at h5;omega
def Ku (n:Nat):Bool:=decide (600<(Lib.decDigits n).length)
theorem pW (n:Nat):Ku n=(decide (JF n>1800)&&Ku n):=by
 by_cases h:JF n>1800
 ·rw[Ax h,Hs]
 ·rw[Az h,JV]
  have key:∀k,JF n<=3*(k+1)->(Lib.decDigits n).length<=k+1:=λk hk=>KV k n (Cb (sx n) (BP (Fc (by decide) hk) (by rw[Nat.pow_mul];exact PK (by decide) (k+1))))
  have h4:=key 599 (by omega);exact BY
theorem vK (x:GI)(h:x.wf)(hf:x.few):AI C0 200 [x.D] (i64 (JF x.z.natAbs:Nat)):=by
 refine Ac.walk w1 gT rfl λF=>?_
 have c1:=Ki x h;obtain⟨n,hn⟩:∃n,x.z.natAbs=n:=⟨_,rfl⟩
 unfold GI.few at hf;rw[hn]at c1 hf⊢;have el:((((Ad n).map AS).length:Nat):Int)=((Ad n).length:Int):=by rw[Al]
 unfold wD wL at c1;dsimp only[GI.D]at c1⊢
 by_cases h0:n=0
 ·have e1:(((Ad n).length:Int)==0)=true:=by rw[h0,Gg];rfl
  have hb:JF n=0:=AH h0;rw[hb];refine AR Aq (Ae e1 el) c1 AB AB AB AB AB ?_;exact AM rfl AA.out
 ·have hl:(Ad n).length≠0:=λq=>by
   have:=G1 h0
   rw[this]at q;simp at q
  have e1:(((Ad n).length:Int)==0)=false:=e1I hl;have wl:IntKind.i64.wrap (((Ad n).length:Int)-1)=(((Ad n).length-1:Nat):Int):=by rw[wI];omega
  have wm:IntKind.i64.wrap (64*(((Ad n).length-1:Nat):Int))=((64*((Ad n).length-1):Nat):Int):=by rw[wI];omega
  have hat:(Ad n)[(Ad n).length-1]?=some (Fm n):=by
   unfold Fm;rw[FY,Ce];rfl
  have hm:((Ad n).map AS)[(Ad n).length-1]?=some (u64 (Fm n:Int)):=by rw[BT,hat];rfl
  have ht:Fm n<BB:=F3 n _ (A8 hat);have c2:=sS (Fm n) ht;have hbl:=Lib.bitLen_le (Fm n) 64 (Am _) ht;have wa:IntKind.i64.wrap (((64*((Ad n).length-1):Nat):Int)+(Lib.bitLen (Fm n):Int))=((JF n:Nat):Int):=by
   have hb:JF n=64*((Ad n).length-1)+Lib.bitLen (Fm n):=AG h0;rw[hb,wI];omega
  refine AR Aq (Fd e1 el wl wm wa kN) c1 hm c2 AB AB AB ?_;exact AM rfl AA.out
theorem iL (x:GI)(h:x.wf)(hf:x.few):AI C0 161 [x.D] (Av (Ku x.z.natAbs)):=by
 refine Ac.walk w1 gC rfl λF=>?_
 have c1:=vK x h hf;have c2:=Vk x h hf;have hlen:(Lib.decDigits x.z.natAbs).length<=27*1000000+1:=Od (k:=1000000) (by unfold GI.few at hf;omega);have hil:(Lib.itoa x.z).length<=27000002:=by
  unfold Lib.itoa;split
  ·rw[By];omega
  ·rw[show x.z.toNat=x.z.natAbs by omega];omega
 have c3:=Ug (Lib.itoa x.z) (by omega);rw[(Pu x.z).2]at c3;have hsz:=Cd (Lib.decDigits x.z.natAbs);have hlb:=pW x.z.natAbs;obtain⟨b,hb⟩:∃b,Ku x.z.natAbs=b:=⟨_,rfl⟩
 have e2:decide (((Lib.decDigits x.z.natAbs).length:Int)>600)=b:=by rw[<-hb];exact ED.2 (by omega)
 obtain⟨p,hp⟩:∃b,decide (JF x.z.natAbs>1800)=b:=⟨_,rfl⟩
 have e1:decide (((JF x.z.natAbs:Nat):Int)>1800)=p:=by rw[<-hp];exact ED.2 (by omega)
 rw[hb,hp]at hlb;rw[hb,hlb];dsimp only[GI.D]at c1 c2⊢;cases p
 ·refine AR Aq e1 c1 AB AB AB AB AB ?_
  exact AM rfl AA.out
 ·refine AR Aq (BG e1 e2 hsz) c1 c2 c3 AB AB AB ?_
  exact AM rfl AA.out
theorem jA {r:Rat}{x:GF}{k:Nat}(h:FR r x k)(hk:k<100000):x.n.wf/\x.n.few/\(AY (x.d:Int)).wf/\(AY (x.d:Int)).few/\x.n.z=r.num/\x.d=r.den/\0<x.d:=
 ⟨h.is.1,h.fn (by omega),Ch _,by
  show(Ad ((x.d:Int)).natAbs).length<1000000;rw[Do];have:=h.ld;omega,h.is.2.1,h.is.2.2,h.dpos⟩
theorem tX {r:Rat}{x:GF}{k:Nat}(h:FR r x k)(hk:k<100000):AI C0 103 [x.D] (Av (Et r)):=by
 refine Ac.walk w1 iC rfl λF=>?_
 obtain⟨h1,h2,h3,h4,h5,h6,_⟩:=jA h hk;have c1:=iL x.n h1 h2;have c2:=iL (AY (x.d:Int)) h3 h4;have hb:Et r=(Ku x.n.z.natAbs||Ku (AY (x.d:Int)).z.natAbs):=by
  unfold Et Ku;rw[h5,<-h6];rfl
 rw[hb];obtain⟨p,hp⟩:∃b,Ku x.n.z.natAbs=b:=⟨_,rfl⟩
 obtain⟨q,hq⟩:∃b,Ku (AY (x.d:Int)).z.natAbs=b:=⟨_,rfl⟩
 rw[hp]at c1;rw[hq]at c2;rw[hp,hq];dsimp only[GI.D,GF.D]at c1 c2⊢;generalize AY (x.d:Int)=y at c2⊢;cases p<;>cases q
 all_goals
  refine AR Aq kB c1 c2 AB AB AB AB ?_;exact AM rfl AA.out
theorem d7z {r:Rat}{x:GF}{k:Nat}(h:FR r x k)(hk:k<100000):AI C0 106 [x.D] (str (sb (Ao r))):=by
 refine Ac.walk w1 Wh rfl λF=>?_
 obtain⟨h1,h2,h3,h4,h5,h6,h7⟩:=jA h hk;have c0:=VA x h7;have c1:=Vk x.n h1 h2;have c2:=Vk (AY (x.d:Int)) h3 h4;have hd:Lib.itoa (AY (x.d:Int)).z=Lib.decDigits r.den:=by
  show Lib.itoa (x.d:Int)=_;unfold Lib.itoa;rw[B3,h6];rfl
 rw[hd]at c2;rw[h5]at c1;have l1:(Lib.itoa r.num).length<=27000002:=by
  have:(Lib.decDigits x.n.z.natAbs).length<=27*1000000+1:=Od (k:=1000000) (by unfold GI.few at h2;omega)
  rw[h5]at this;unfold Lib.itoa;split
  ·rw[By];omega
  ·rw[show r.num.toNat=r.num.natAbs by omega];omega
 have l2:(Lib.decDigits r.den).length<=27000001:=by
  have:(Lib.decDigits (AY (x.d:Int)).z.natAbs).length<=27*1000000+1:=Od (k:=1000000) (by unfold GI.few at h4;omega)
  rw[<-h6];exact this
 have s1:=Cd (Lib.itoa r.num);have s2:=Cd (Lib.decDigits r.den);have s3:(sb [47]).size=1:=rfl;have s4:=Cd (Lib.itoa r.num++[47]);have z1:(sb (Lib.itoa r.num)).size+(sb [47]).size<=9223372036854775807:=by rw[s1,s3];omega
 have z2:(sb (Lib.itoa r.num++[47])).size+(sb (Lib.decDigits r.den)).size<=9223372036854775807:=by rw[s4,s2,Bz,Ho];omega
 have a1:sb (Lib.itoa r.num)++(⟨#[47]⟩:ByteArray)=sb (Lib.itoa r.num++[47]):=XD _ [47];have a2:=XD (Lib.itoa r.num++[47]) (Lib.decDigits r.den);rw[DO]at a2;dsimp only[GI.D,GF.D]at c0 c1 c2⊢;generalize AY (x.d:Int)=y at c0 c2⊢;unfold Ao
 by_cases g:x.d=1
 ·rw[Ax g]at c0
  rw[AH (h6 ▸ g)];refine AR bM kB c0 c1 AB AB AB AB ?_;exact AM rfl AA.out
 ·rw[Az g]at c0
  rw[AG (λq=>g (h6.trans q))];refine AR bM (Ae a1 a2) c0 c1 c2 AB AB AB ?_;exact AM rfl AA.out
set_option maxHeartbeats 4000000
def nb (r:Rat)(n d:Nat):Prop:=r.num.natAbs<=n/\r.den<=d
theorem nb.mono {r:Rat}{n d n' d':Nat}(h:nb r n d)(h1:n<=n')(h2:d<=d'):nb r n' d':=⟨BP h.1 h1,BP h.2 h2⟩
theorem Ss {n:Int}{d N D:Nat}(hd:d≠0)(h1:n.natAbs<=N)(h2:d<=D):nb (Rat.normalize n d hd) N D:=by
 rw[Rat.normalize_eq];exact⟨BP (Int.natAbs_ediv_le_natAbs _ _) h1,BP (GH _ _) h2⟩
theorem d6p {a b:Rat}{n d m e:Nat}(ha:nb a n d)(hb:nb b m e):nb (a+b) (n*e+m*d) (d*e):=by
 rw[Rat.add_def];refine Ss _ (BP (Int.natAbs_add_le _ _) ?_) (GK ha.2 hb.2);rw[KJ,KJ,Do,Do];exact Nat.add_le_add (GK ha.1 hb.2) (GK hb.1 ha.2)
theorem iQ {a b:Rat}{n d m e:Nat}(ha:nb a n d)(hb:nb b m e):nb (a*b) (n*m) (d*e):=by
 rw[Rat.mul_def];exact Ss _ (by rw[KJ];exact GK ha.1 hb.1) (GK ha.2 hb.2)
theorem d6r {a:Rat}{n d:Nat}(ha:nb a n d)(h0:a≠0):nb a⁻¹ d n:=by
 rw[Rat.inv_def];obtain⟨h1,h2⟩:=ha;have hn:a.num≠0:=λh=>h0 (Rat.num_eq_zero.1 h)
 rcases Int.lt_or_gt_of_ne hn with h|h
 ·obtain⟨m,hm⟩:∃m,a.num=Int.negSucc m:=by
   cases hy:a.num with
   |ofNat n=>rw[hy]at h;simp at h;omega
   |negSucc k=>exact⟨k,rfl⟩
  rw[hm]at h1⊢;exact Ss (n:=-(a.den:Int)) (d:=m+1) (by omega) (by rw[LG,Do];exact h2) h1
 ·obtain⟨m,hm⟩:∃m:Nat,a.num=(m:Int):=⟨a.num.natAbs,by omega⟩
  rw[hm]at h1 h⊢;rw[Rat.divInt_ofNat,<-Rat.normalize_eq_mkRat (by omega)];exact Ss _ (by rw[Do];exact h2) (by rw[Do]at h1;exact h1)
theorem d6q {a b:Rat}{n d m e:Nat}(ha:nb a n d)(hb:nb b m e)(h0:b≠0):nb (a/b) (n*e) (d*m):=by
 rw[Rat.div_def];exact iQ ha (d6r hb h0)
theorem iP (z:Int){n:Nat}(h:z.natAbs<=n):nb (z:Rat) n 1:=by
 unfold nb;rw[Rat.num_intCast,Rat.den_intCast];exact⟨h,Am _⟩
theorem dq:nb 0 0 1:=⟨by decide,by decide⟩
def Tn:Nat:=(10^100)^6
theorem iO {r:Rat}{n d:Nat}(h:nb r n d)(h1:n<Tn)(h2:d<Tn):Et r=false:=by
 unfold Et;have key:∀a b k m,a*b=k+1->m<(10^a)^b->(Lib.decDigits m).length<=k+1:=λa b k m hk h=>KV k m (by rw[<-hk,Nat.pow_mul];exact h)
 have l1:=key 100 6 599 r.num.natAbs rfl (DD h.1 h1);have l2:=key 100 6 599 r.den rfl (DD h.2 h2);rw[BY,BY];rfl
def DF:Nat:=10^40
theorem dn {l:List UInt8}(h:chk l=0)(hl:l.length<=40):nb (Bc l) DF DF:=by
 obtain⟨m1,m2,m3,m4⟩:=Ml h;obtain⟨p1,p2⟩:=Re h;have hs1:(CO l).length<=40:=by
  have:(CO l).length<=l.length:=by
   unfold CO;have a1:(B5 (CK l)).length<=(CK l).length:=by unfold B5;split<;>simp
   have a2:(CK l).length<=l.length:=by unfold CK;rw[Be];omega
   omega
  omega
 have hb:∀k,k<=40->(10:Nat)^k<=DF:=λk hk=>Fc (by decide) hk
 refine⟨?_,?_⟩
 ·rw[m1,m4]
  exact BP (KO (G8 _ p1)) (hb _ hs1)
 ·rw[m2]
  unfold Hk;cases hs:Cu l
  ·exact(by decide:1<=DF)
  ·have hs2:(Bh l).length<=40:=by
    have:(Bh l).length<=l.length:=by unfold Bh;simp
    omega
   exact BP (KO (G8 _ (p2 hs))) (hb _ hs2)
theorem e0a {r:Rat}{n d k:Nat}(h:nb r n d)(h1:n<BB^k)(h2:d<BB^k):rk r k:=
 ⟨Hx (DD h.1 h1),Hx (DD h.2 h2)⟩
theorem Yk {l:List UInt8}(h:chk l=0)(hl:l.length<=40):rk (Bc l) 3:=e0a (dn h hl) (by decide) (by decide)
theorem fY (k:Nat)(hk:1<=k):FR 0 ⟨AY 0,1⟩ k:=⟨⟨Ch _,by rw[D8];rfl,rfl⟩,by
 refine rk.mono (k:=1) ?_ hk;exact⟨Hx (k:=1) (by decide),Hx (k:=1) (by decide)⟩⟩
abbrev G5:Dr:=[(11,[0,1,2,3,4,5,6,7,8,9,10],[11,12]),(21,[0,1],[2,3])]
open Go.Proofs Go.RowKit
set_option maxRecDepth 20000
set_option maxHeartbeats 4000000
def Ly (a b:List UInt8):Bool:=Ks (sb a) (sb b)||BU (sb a) (sb b)
def Fv (l:List A0)(i:Nat):Nat:=
 if Dk (Dp l i).lot=false then 8 else if 0<i/\Ly (Dp l i).lot (Dp l (i-1)).lot=true then 11 else if chk (Dp l i).part≠0 then chk (Dp l i).part else if Ga (Bc (Dp l i).part)<=0 then 12 else 0
def Fk (l:List A0):Nat->Rat
 | 0=>0
 |n+1=>Fk l n+Bc (Dp l n).part
def G7 (l:List A0):Nat:=if l.length=0 then 2 else if 64<l.length then 5 else if DZ (Fv l) l.length≠0 then DZ (Fv l) l.length else if Fk l l.length=1 then 0 else 12
theorem WC (l:List UInt8):AI C0 41 [str (sb l)] (Av (Dk l)):=Ru (sb l)
theorem tE (a b:Rat):(NV a b==0)=decide (a=b):=by
 unfold NV
 by_cases h:a<b
 ·rw[AH h,Az (Rat.ne_of_lt h)];rfl
 ·rw[AG h]
  by_cases h2:b<a
  ·rw[AH h2,Az λe=>Rat.ne_of_lt h2 e.symm];rfl
  ·rw[AG h2,Ax (Rat.le_antisymm (Rat.not_lt.1 h2) (Rat.not_lt.1 h))];rfl
theorem d7o {a b:Rat}{x y:GF}{i j:Nat}(hx:FR a x i)(hy:FR b y j)(hk:i+j<300000):AI C0 140 [x.D,y.D] (Av (decide (a=b))):=by
 refine Ac.walk w1 gA rfl λF=>?_
 have c:=w9 hx hy hk;have e:=tE a b;obtain⟨r,hr⟩:∃r,NV a b=r:=⟨_,rfl⟩
 rw[hr]at c e;obtain⟨xD,hxD⟩:∃d,x.D=d:=⟨_,rfl⟩
 obtain⟨yD,hyD⟩:∃d,y.D=d:=⟨_,rfl⟩
 unfold GF.D at c hxD hyD⊢;refine AR Aq e c AB AB AB AB AB ?_;exact AM rfl AA.out
theorem zn:FR 1 ⟨AY 1,1⟩ 1:=by
 have:=Sq (z:=1) (by decide)
 exact this
theorem e2i (b:Bool)(l:List A0)(hl:l.length<=9223372036854775807)(hf:∀s∈l,s.few):AI C0 90 [Dq b l] (i64 (G7 l:Nat)):=by
 refine Ac.walk w1 ju rfl λF=>?_
 have el:(((l.map A0.D).length:Nat):Int)=(l.length:Int):=by rw[Al]
 have hC:G7 l=if l.length=0 then 2 else if 64<l.length then 5 else if DZ (Fv l) l.length≠0 then DZ (Fv l) l.length else if Fk l l.length=1 then 0 else 12:=rfl
 rcases Nat.decEq l.length 0 with h0|h0
 rotate_left
 ·rw[AH h0]at hC
  rw[hC];have q1:((l.length:Int)==0)=true:=by rw[h0];rfl
  refine AR G5 (Ae el q1) AB AB AB AB AB AB ?_;exact AM rfl AA.out
 rw[AG h0]at hC;have q1:((l.length:Int)==0)=false:=B8.2 (by omega)
 by_cases h64:64<l.length
 ·rw[AH h64]at hC
  rw[hC];have q2:decide ((l.length:Int)>64)=true:=BV;refine AR G5 (BG el q1 q2) AB AB AB AB AB AB ?_;exact AM rfl AA.out
 rw[AG h64]at hC;have q2:decide ((l.length:Int)>64)=false:=BY;have c0:=Tx 0 ⟨by decide,by decide⟩;have c1:=Tx 1 ⟨by decide,by decide⟩;refine AR G5 (BG el q1 q2) c0 AB AB AB AB AB ?_;refine AC.loop (α:=Nat×GF×Nat) (λp=>⟨[(0,Dq b l),(3,.optr 501 8 4 0 0),(15,Dq b l),(16,i64 (l.length:Int)),(17,i64 (p.1:Int))],[⟨501,8,111,4,[p.2.1.D]⟩],p.2.2⟩) (λp=>l.length-p.1) (λp=>p.1<=l.length/\(∀j,j<p.1->Fv l j=0)/\FR (Fk l p.1) p.2.1 (601*p.1+1)) (0,⟨AY 0,1⟩,_)
  ⟨Bg _,λj h=>Ah h (HR j),fY 1 (Am _)⟩ AN ?_
 rintro⟨i,y,m⟩ F ⟨hi,hz,hS⟩;dsimp only at hi hz hS⊢;rcases BL i l.length with h2|h2
 rotate_left
 ·have e1:=Cx h2
  have:i=l.length:=by omega
  subst this;rw[AG (λh=>h (IZ hz))]at hC;have cS:=d7o hS zn (by omega);obtain⟨q,hq⟩:∃q,decide (Fk l l.length=1)=q:=⟨_,rfl⟩
  rw[hq]at cS;cases q
  ·rw[AG (Da hq)]at hC
   rw[hC];refine AR G5 e1 c1 cS AB AB AB AB ?_;exact AM rfl AA.out
  ·rw[AH (DQ hq)]at hC
   rw[hC];refine AR G5 e1 c1 cS AB AB AB AB ?_;exact AM rfl AA.out
 have e1:=Cs h2;have wi:=Cz (i:=i) (by omega);obtain⟨s,hs⟩:=CV h2;have hm:(l.map A0.D)[i]?=some (.agg [str (sb s.lot),str (sb s.part)]):=by rw[BT,hs];rfl
 obtain⟨f1,f2⟩:=hf s (A8 hs);have hE:Fv l i=if Dk s.lot=false then 8 else if 0<i/\Ly s.lot (Dp l (i-1)).lot=true then 11 else if chk s.part≠0 then chk s.part else if Ga (Bc s.part)<=0 then 12 else 0:=by unfold Fv;rw[Kp hs]
 have hbad:∀e:Nat,e≠0->Fv l i=e->G7 l=e:=λe he h=>by
  have:=OM hz h2 (by rw[h];exact he)
  rw[hC,this,h,AH he]
 have cN:=WC s.lot;obtain⟨N,hN⟩:∃q,Dk s.lot=q:=⟨_,rfl⟩
 rw[hN]at cN hE;cases N
 ·rw[AH rfl]at hE
  rw[hbad 8 (by decide) hE];refine AR G5 (Ae e1 kN) hm cN AB AB AB AB ?_;exact AM rfl AA.out
 rw[AG (by decide)]at hE;have cC:=bA s.part f2;rcases i with _|q
 ·have g0:decide (((0:Nat):Int)>0)=false:=rfl
  rw[AG (λh=>Ah h.1 (Nat.lt_irrefl 0))]at hE;rcases Nat.decEq (chk s.part) 0 with hc0|hc0
  ·rw[AH hc0]at hE
   have e3:=IM hc0;rw[hbad (chk s.part) hc0 hE];refine AR G5 (Bo e1 g0 kN e3) hm cN cC AB AB AB ?_;exact AM rfl AA.out
  rw[AG (λh=>h hc0)]at hE;have e3:=Im hc0;have cP:=S4 f2 hc0;have fP:=Wc hc0;have cG:=dw fP.is;have cA:=Sy hS fP (by omega);have fA:=V6 hS fP;obtain⟨z,hzz⟩:∃z,JJ y (Ij s.part)=z:=⟨_,rfl⟩
  rw[hzz]at cA fA;obtain⟨sg,hsg⟩:∃q,Ga (Bc s.part)=q:=⟨_,rfl⟩
  rw[hsg]at cG hE
  by_cases hs0:sg<=0
  ·rw[AH hs0]at hE
   have e4:decide (sg<=0)=true:=Ax hs0;rw[hbad 12 (by decide) hE];refine AR G5 (Cw e1 g0 kN e3 e4) hm cN cC cP cG AB ?_;exact AM rfl AA.out
  rw[AG hs0]at hE;have e4:decide (sg<=0)=false:=Az hs0;refine AR G5 (Fd e1 g0 kN e3 e4 wi) hm cN cC cP cG AB ?_;refine cI cA ?_;refine AR G5 wi AB AB AB AB AB AB ?_;exact⟨(0+1,z,_),⟨h2,λj hj=>by
   rcases IQ.1 hj with q|q
   ·exact hz j q
   ·rw[q];exact hE,by
   show FR (Fk l 0+Bc (Dp l 0).part) z _;rw[Kp hs];exact⟨fA.is,fA.rk.mono (by dsimp only;omega)⟩⟩,by dsimp only;omega,AN⟩
 ·have g0:decide (((q+1:Nat):Int)>0)=true:=BV
  have g1:IntKind.i64.wrap (((q+1:Nat):Int)-1)=(q:Int):=by rw[wI];omega
  obtain⟨s0,hs0'⟩:=CV (l:=l) (i:=q) (by omega);have hm0:(l.map A0.D)[q]?=some (.agg [str (sb s0.lot),str (sb s0.part)]):=by rw[BT,hs0'];rfl
  rw[JW,Kp hs0']at hE;obtain⟨bL,hbL⟩:∃q,Ly s.lot s0.lot=q:=⟨_,rfl⟩
  have g2:(Ks (sb s.lot) (sb s0.lot)||BU (sb s.lot) (sb s0.lot))=bL:=hbL;rw[hbL]at hE;cases bL
  rotate_left
  ·rw[AH ⟨Nat.succ_pos q,rfl⟩]at hE
   rw[hbad 11 (by decide) hE];refine AR G5 (Cw e1 g0 g1 g2 kN) hm hm0 cN AB AB AB ?_;exact AM rfl AA.out
  rw[AG (λh=>Ah h.2 (by decide))]at hE;rcases Nat.decEq (chk s.part) 0 with hc0|hc0
  ·rw[AH hc0]at hE
   have e3:=IM hc0;rw[hbad (chk s.part) hc0 hE];refine AR G5 (Fd e1 g0 g1 g2 kN e3) hm hm0 cN cC AB AB ?_;exact AM rfl AA.out
  rw[AG (λh=>h hc0)]at hE;have e3:=Im hc0;have cP:=S4 f2 hc0;have fP:=Wc hc0;have cG:=dw fP.is;have cA:=Sy hS fP (by omega);have fA:=V6 hS fP;obtain⟨z,hzz⟩:∃z,JJ y (Ij s.part)=z:=⟨_,rfl⟩
  rw[hzz]at cA fA;obtain⟨sg,hsg⟩:∃q,Ga (Bc s.part)=q:=⟨_,rfl⟩
  rw[hsg]at cG hE
  by_cases hs0:sg<=0
  ·rw[AH hs0]at hE
   have e4:decide (sg<=0)=true:=Ax hs0;rw[hbad 12 (by decide) hE];refine AR G5 (D7 e1 g0 g1 g2 kN e3 e4) hm hm0 cN cC cP cG ?_;exact AM rfl AA.out
  rw[AG hs0]at hE;have e4:decide (sg<=0)=false:=Az hs0;refine AR G5 (D7 e1 g0 g1 g2 kN e3 (Ae e4 wi)) hm hm0 cN cC cP cG ?_;refine cI cA ?_;refine AR G5 wi AB AB AB AB AB AB ?_;exact⟨(q+1+1,z,_),⟨h2,λj hj=>by
   rcases IQ.1 hj with q|q
   ·exact hz j q
   ·rw[q];exact hE,by
   show FR (Fk l (q+1)+Bc (Dp l (q+1)).part) z _;rw[Kp hs];exact⟨fA.is,fA.rk.mono (by dsimp only;omega)⟩⟩,by dsimp only;omega,AN⟩
def AE.few (x:AE):Prop:=x.grain.length<=100000/\x.shs.length<=9223372036854775807/\∀s∈x.shs,s.few
def Bw (x:AE):Nat:=if Dk x.grain=false then 8 else if x.mass<1\/x.mass>999999999 then 3 else G7 x.shs
def CU (l:List AE)(k:Nat):AE:=l.getD k ⟨[],0,[]⟩
theorem FS {l:List AE}{k:Nat}{x:AE}(h:l[k]?=some x):CU l k=x:=by unfold CU;rw[FY,h];rfl
def Ak (l:List AE):Int:=(l.map (·.mass)).sum
theorem R4 {l:List AE}{i:Nat}{x:AE}(h:l[i]?=some x):Ak (l.take (i+1))=Ak (l.take i)+x.mass:=by
 unfold Ak;rw[FV,h,Du,List.sum_append];simp
def NJ (l:List AE):Prop:=l.length<=1000000/\∀x∈l,x.mass.natAbs<=1000000000
theorem WG {l:List AE}(h:∀x∈l,x.mass.natAbs<=1000000000):(Ak l).natAbs<=l.length*1000000000:=by
 unfold Ak
 induction l with
 |nil=>simp
 |cons a l ih=>
  have h1:=h a (by simp);have h2:=ih λx hx=>h x (by simp[hx])
  simp only[CX,List.sum_cons,By];omega
def CR (l:List AE):Nat:=if 64<l.length then 5 else if DZ (λi=>Bw (CU l i)) l.length≠0 then DZ (λi=>Bw (CU l i)) l.length else if Ak l>999999999 then 4 else 0
theorem HZ {x:AE}(h:Bw x=0):Dk x.grain=true/\1<=x.mass/\x.mass<=999999999/\G7 x.shs=0:=by
 unfold Bw at h;split at h
 ·cases h
 ·rename_i h1
  split at h
  ·cases h
  ·rename_i h2
   exact⟨by simpa using h1,by omega,by omega,h⟩
theorem JG (b:Bool)(e:Int):AI C0 29 [Av b,i64 e] (i64 (if b then e else 0)):=by
 refine Ac.walk w1 jg rfl λF=>?_
 cases b
 ·refine AR Aq kB AB AB AB AB AB AB ?_
  exact AM rfl AA.out
 ·refine AR Aq kB AB AB AB AB AB AB ?_
  exact AM rfl AA.out
theorem OU (v:List Int)(hl:v.length<=1000):AI C0 27 [.sl true 1 (v.map λe=>i64 e)] (i64 (En v)):=by
 refine Ac.walk w1 jh rfl λF=>?_
 have el:(((v.map λe=>i64 e).length:Nat):Int)=(v.length:Int):=by rw[Al]
 refine AR Aq el AB AB AB AB AB AB ?_;refine AC.loop (α:=Nat×Nat) (λp=>⟨[(5,.sl true 1 (v.map λe=>i64 e)),(6,i64 (v.length:Int)),(7,i64 (p.1:Int))],[],p.2⟩) (λp=>v.length-p.1) (λp=>p.1<=v.length/\∀(j:Nat) (e:Int),j<p.1->v[j]?=some e->e=0) (0,_) ⟨Bg _,λj e h=>Ah h (HR j)⟩ AN ?_;rintro⟨i,m⟩ F ⟨hi,ha⟩;dsimp only at hi ha⊢;rcases BL i v.length with h2|h2
 rotate_left
 ·have e1:=Cx h2
  have:i=v.length:=by omega
  subst this;have hd:En v=0:=by rw[Rc ha,KH];rfl
  rw[hd];refine AR Aq e1 AB AB AB AB AB AB ?_;exact AM rfl AA.out
 have e1:=Cs h2;have wi:=Cz (i:=i) (by omega);obtain⟨l,hl'⟩:=CV h2;have hm:(v.map λe=>i64 e)[i]?=some (i64 l):=by rw[BT,hl'];rfl
 by_cases g:l=0
 ·have e5:(l != 0)=false:=by rw[g];rfl
  refine AR Aq (Bo e1 wi e5 kN) hm AB AB AB AB AB ?_;exact⟨(i+1,_),⟨h2,λj e hj he=>by
   rcases IQ.1 hj with q|q
   ·exact ha j e q he
   ·subst q;rw[hl']at he;cases he;exact g⟩,by dsimp only;omega,AN⟩
 ·have e5:(l != 0)=true:=Kk g
  have hd:En v=l:=by
   rw[Rc ha,E3 h2];rw[B4 h2]at hl';rw[GJ hl'];exact AH g
  rw[hd];refine AR Aq (Bo e1 wi e5 kN) hm AB AB AB AB AB ?_;exact AM rfl AA.out
theorem vL (b:Bool)(l:List AE)(hs:NJ l):AI C0 30 [Au b l] (i64 (Ak l)):=by
 refine Ac.walk w1 Xm rfl λF=>?_
 have el:(((l.map AE.D).length:Nat):Int)=(l.length:Int):=by rw[Al]
 obtain⟨hl,hm0⟩:=hs;refine AR Aq el AB AB AB AB AB AB ?_;refine AC.loop (α:=Nat×Nat) (λp=>⟨[(3,i64 (Ak (l.take p.1))),(6,Au b l),(7,i64 (l.length:Int)),(8,i64 (p.1:Int))],[],p.2⟩) (λp=>l.length-p.1) (λp=>p.1<=l.length) (0,_) (Bg _) AN ?_;rintro⟨i,m⟩ F hi;dsimp only at hi⊢;rcases BL i l.length with h2|h2
 rotate_left
 ·have e1:=Cx h2
  have:i=l.length:=by omega
  subst this;rw[DH];refine AR Aq e1 AB AB AB AB AB AB ?_;exact AM rfl AA.out
 have e1:=Cs h2;have wi:=Cz (i:=i) (by omega);obtain⟨x,hx⟩:=CV h2;have hm:(l.map AE.D)[i]?=some (.agg [str (sb x.grain),i64 x.mass,.sl false 2 (x.shs.map A0.D)]):=by rw[BT,hx];rfl
 have hb:=WG (l:=l.take i) λy hy=>hm0 y (HK hy)
 have hxm:=hm0 x (A8 hx);rw[Be,FW hi]at hb;have wS:IntKind.i64.wrap (Ak (l.take i)+x.mass)=Ak (l.take (i+1)):=by rw[R4 hx,wI]
 refine AR Aq (Bo e1 wi @wS kN) hm AB AB AB AB AB ?_;exact⟨(i+1,_),h2,by dsimp only;omega,AN⟩
theorem YF (x:AE)(hf:x.few):AI C0 47 [x.D] (i64 (Bw x:Nat)):=by
 refine Ac.walk w1 jm rfl λF=>?_
 obtain⟨f1,f2,f3⟩:=hf;have cN:=WC x.grain;have cS:=e2i false x.shs f2 f3;have hC:Bw x=if Dk x.grain=false then 8 else if x.mass<1\/x.mass>999999999 then 3 else G7 x.shs:=rfl
 obtain⟨N,hN⟩:∃q,Dk x.grain=q:=⟨_,rfl⟩
 obtain⟨SD,hSD⟩:∃d,Dq false x.shs=d:=⟨_,rfl⟩
 have pS:AA SD:=by rw[<-hSD];exact AJ
 have hna:Jx SD=true:=by rw[<-hSD];rfl
 unfold AE.D;rw[hN]at cN hC;rw[hSD]at cS⊢;cases N
 ·rw[AH rfl]at hC
  rw[hC];refine AR Aq kB cN AB AB AB AB AB ?_;exact AM rfl AA.out
 rw[AG (by decide)]at hC
 by_cases h1:x.mass<1
 ·rw[AH (.inl h1)]at hC
  rw[hC];have e1:decide (x.mass<1)=true:=Ax h1;refine AR Aq e1 cN AB AB AB AB AB ?_;exact AM rfl AA.out
 have e1:decide (x.mass<1)=false:=Az h1
 by_cases h2:x.mass>999999999
 ·rw[AH (.inr h2)]at hC
  rw[hC];have e2:decide (x.mass>999999999)=true:=Ax h2;refine AR Aq (Ae e1 e2) cN AB AB AB AB AB ?_;exact AM rfl AA.out
 have e2:decide (x.mass>999999999)=false:=Az h2;rw[B3]at hC;rw[hC];refine AR Aq (BG e1 e2 hna) cN cS AB AB AB AB ?_;exact AM rfl AA.out
theorem VH {l:List AE}(h64:¬ 64<l.length)(hz:∀j,j<l.length->Bw (CU l j)=0):NJ l:=by
 refine⟨by omega,λx hx=>?_⟩;obtain⟨j,hj⟩:=MU.1 hx
 have:=hz j (BR.1 hj).1
 rw[FS hj]at this
 have:=HZ this
 omega
theorem Ts (b:Bool)(l:List AE)(hl:l.length<=9223372036854775807)(hf:∀x∈l,x.few):AI C0 40 [Au b l] (i64 (CR l:Nat)):=by
 refine Ac.walk w1 jy rfl λF=>?_
 have el:(((l.map AE.D).length:Nat):Int)=(l.length:Int):=by rw[Al]
 have hC:CR l=if 64<l.length then 5 else if DZ (λi=>Bw (CU l i)) l.length≠0 then DZ (λi=>Bw (CU l i)) l.length else if Ak l>999999999 then 4 else 0:=rfl
 by_cases h64:64<l.length
 ·rw[AH h64]at hC
  rw[hC];have q2:decide ((l.length:Int)>64)=true:=BV;refine AR Aq (Ae el q2) AB AB AB AB AB AB ?_;exact AM rfl AA.out
 rw[AG h64]at hC;have q2:decide ((l.length:Int)>64)=false:=BY;refine AR Aq (Ae el q2) AB AB AB AB AB AB ?_;refine AC.loop (α:=Nat×Nat) (λp=>⟨[(0,Au b l),(9,Au b l),(10,i64 (l.length:Int)),(11,i64 (p.1:Int))],[],p.2⟩) (λp=>l.length-p.1) (λp=>p.1<=l.length/\∀j,j<p.1->Bw (CU l j)=0) (0,_) ⟨Bg _,λj h=>Ah h (HR j)⟩ AN ?_;rintro⟨i,m⟩ F ⟨hi,hz⟩;dsimp only at hi hz⊢;rcases BL i l.length with h2|h2
 rotate_left
 ·have e1:=Cx h2
  have:i=l.length:=by omega
  subst this;rw[AG (λh=>h (IZ (f:=λi=>Bw (CU l i)) hz))]at hC;have cT:=vL b l (VH h64 hz);obtain⟨q,hq⟩:∃q,decide (Ak l>999999999)=q:=⟨_,rfl⟩
  have cW:=JG q 4;have hR:((CR l:Nat):Int)=if q then 4 else 0:=by
   rw[hC,<-hq]
   by_cases h:Ak l>999999999
   ·rw[AH h,Ax h];rfl
   ·rw[AG h,Az h];rfl
  rw[hR];refine AR Aq (Ae e1 hq) cT cW AB AB AB AB ?_;exact AM rfl AA.out
 have e1:=Cs h2;have wi:=Cz (i:=i) (by omega);obtain⟨x,hx⟩:=CV h2;have hm:(l.map AE.D)[i]?=some (.agg [str (sb x.grain),i64 x.mass,.sl false 2 (x.shs.map A0.D)]):=by rw[BT,hx];rfl
 have cL:=YF x (hf x (A8 hx));unfold AE.D at cL;rcases Nat.decEq (Bw x) 0 with hc0|hc0
 ·have e3:=IM hc0
  have:=OM (f:=λi=>Bw (CU l i)) hz h2 (by rw[FS hx];exact hc0)
  rw[FS hx]at this;rw[this,AH hc0]at hC;rw[hC];refine AR Aq (BG e1 e3 kN) hm cL AB AB AB AB ?_;exact AM rfl AA.out
 have e3:=Im hc0;refine AR Aq (Bo e1 e3 wi kN) hm cL AB AB AB AB ?_;exact⟨(i+1,_),⟨h2,λj hj=>by
  rcases IQ.1 hj with q|q
  ·exact hz j q
  ·rw[q,FS hx];exact hc0⟩,by dsimp only;omega,AN⟩
abbrev Bf:=List (List UInt8×Rat)
def Hc (lot:List UInt8):Bf->Option Rat
 | []=>none
 |p::l=>if lot=p.1 then some p.2 else Hc lot l
def HB (lot:List UInt8)(r:Rat):Bf->Bf
 | []=>[(lot,r)]
 |p::l=>if lot=p.1 then(lot,r)::l else p::HB lot r l
def PA (lot:List UInt8)(r:Rat)(q:Bf):Bf:=HB lot (match Hc lot q with|some o=>r+o|none=>r) q
def J7 (x:AE)(n:Nat)(q:Bf):Bf:=(x.shs.take n).foldl (λacc s=>PA s.lot (Bc s.part*(x.mass:Rat)) acc) q
def DW (l:List AE):Bf:=l.foldl (λacc x=>J7 x x.shs.length acc) []
def MQ (B:Nat):Bf->Dy->Prop
 | [],[]=>True
 |p::q,e::m=>(e.1=sb p.1/\∃y:GF,e.2=y.D/\FR p.2 y B)/\MQ B q m
 |_,_=>False
theorem MQ.mono {B B':Nat}(hB:B<=B'):∀ {q:Bf} {m:Dy},MQ B q m->MQ B' q m
 | [],[],_=>trivial
 |_::_,_::_,⟨⟨h1,y,h2,h3⟩,h4⟩=>⟨⟨h1,y,h2,h3.is,h3.rk.mono hB⟩,MQ.mono hB h4⟩
theorem MQ.look {B:Nat}(lot:List UInt8):∀ {q:Bf} {m:Dy},MQ B q m->(Ix (sb lot) m=none/\Hc lot q=none)\/∃(r:Rat) (y:GF),Ix (sb lot) m=some y.D/\Hc lot q=some r/\FR r y B
 | [],[],_=>.inl ⟨rfl,rfl⟩
 |p::q,e::m,⟨⟨h1,y,h2,h3⟩,h4⟩=>by
  unfold Ix Hc;rw[h1,E1]
  by_cases hl:lot=p.1
  ·rw[Ax hl,AH hl]
   exact .inr ⟨p.2,y,by rw[h2];rfl,rfl,h3⟩
  ·rw[Az hl,AG hl]
   exact MQ.look lot h4
theorem MQ.set {B:Nat}(lot:List UInt8){r:Rat}{y:GF}(hr:FR r y B):∀ {q:Bf} {m:Dy},MQ B q m->MQ B (HB lot r q) (Hj (sb lot) y.D m)
 | [],[],_=>⟨⟨rfl,y,rfl,hr⟩,trivial⟩
 |p::q,e::m,⟨⟨h1,y',h2,h3⟩,h4⟩=>by
  unfold HB Hj;rw[h1,E1]
  by_cases hl:lot=p.1
  ·rw[Ax hl,AH hl]
   exact⟨⟨rfl,y,rfl,hr⟩,h4⟩
  ·rw[Az hl,AG hl]
   exact⟨⟨h1,y',h2,h3⟩,MQ.set lot hr h4⟩
def A0.ok (s:A0):Prop:=s.lot.length<=100000/\s.part.length<=40/\chk s.part=0
def AE.ok (x:AE):Prop:=x.shs.length<=64/\Sm x.mass/\∀s∈x.shs,s.ok
theorem U7 (x:AE)(n:Nat)(q:Bf){s:A0}(h:x.shs[n]?=some s):J7 x (n+1) q=PA s.lot (Bc s.part*(x.mass:Rat)) (J7 x n q):=by
 unfold J7;rw[FV,h,List.foldl_append];rfl
theorem U5 (l:List AE)(n:Nat){x:AE}(h:l[n]?=some x):DW (l.take (n+1))=J7 x x.shs.length (DW (l.take n)):=by
 unfold DW;rw[FV,h,List.foldl_append];rfl
def Xs (r:Rat):List UInt8:=if Et r=true then[]else Ao r
def Xr (r:Rat):Nat:=if Et r=true then 4 else 0
abbrev WM:Dr:=[(6,[0,1,2,3,4,5,6,7],[8])]
open Go.Proofs Go.RowKit
set_option maxRecDepth 20000
set_option maxHeartbeats 8000000
theorem XM {l:List UInt8}(h:chk l=0):rR (Bc l)=str (sb l):=by unfold rR;rw[(Ml h).2.2.1]
theorem e0y (b1 b2:Bool)(L:List (List UInt8))(hl:L.length<=1000000):AI C0 20 [Ud b1 L,Ud b2 L] (Av true):=by
 refine Ac.walk w1 jf rfl λF=>?_
 have el:(((L.map λl=>str (sb l)).length:Nat):Int)=(L.length:Int):=by rw[Al]
 have e0:((L.length:Int) != (L.length:Int))=false:=e1J rfl;refine AR WM (Ae el e0) AB AB AB AB AB AB ?_;refine AC.loop (α:=Nat×Nat) (λp=>⟨[(0,Ud b1 L),(1,Ud b2 L),(5,i64 (p.1:Int))],[],p.2⟩) (λp=>L.length-p.1) (λp=>p.1<=L.length) (0,_) (Bg _) AN ?_;rintro⟨i,m⟩ F hi;dsimp only at hi⊢;rcases BL i L.length with h2|h2
 ·have e1:=Cs h2
  have wi:=Cz (i:=i) (by omega);obtain⟨l,hl2⟩:=CV h2;have hm:(L.map λl=>str (sb l))[i]?=some (str (sb l)):=by rw[BT,hl2];rfl
  have hs:BU (sb l) (sb l)=true:=by rw[E1];exact Ax rfl
  refine AR WM (Cw e1 el wi hs kN) hm AB AB AB AB AB ?_;exact⟨(i+1,_),h2,by dsimp only;omega,AN⟩
 ·have e1:=Cx h2
  refine AR WM (Ae e1 el) AB AB AB AB AB AB ?_;exact AM rfl AA.out
theorem py (r:Rat):Bc (Ao r)=r:=by
 unfold Bc Hk;rw[QH,fB,Sj,OJ]
 by_cases g:r.den=1
 ·rw[Ax g]
  show mkRat r.num 1=r;rw[<-g];exact Rat.mkRat_self r
 ·rw[Az g,AG g,(GQ _).2.1]
  exact Rat.mkRat_self r
theorem us:rR 0=str ⟨#[48]⟩:=by
 have h:Bc [48]=0:=by kernel_rfl
 rw[<-h,XM (by kernel_rfl)];all_goals rfl
theorem oG (r:Rat):BU (sb (Ao r)) ⟨#[49]⟩=decide (r=1):=by
 have h1:Bc [49]=1:=by kernel_rfl
 have e:(⟨#[49]⟩:ByteArray)=sb [49]:=rfl;rw[e,E1,ED];constructor
 ·intro h
  rw[<-py r,h,h1]
 ·intro h
  rw[h]
  have:=(Ml (l:=[49]) (by kernel_rfl)).2.2.1
  rwa [h1]at this
end Go.Ide
namespace Go.Proofs
open Go.Shelf Go.RowKit Go.Lib Go.Sort
end Go.Proofs
namespace Go.Ide
open Go.Proofs Go.RowKit Go.Sort
set_option maxRecDepth 20000
def GC (p:List UInt8×Rat):D:=.agg [str (sb p.1),str (sb (Ao p.2))]
instance e0N (p:List UInt8×Rat):Ap (GC p):=by unfold GC;exact AJ
instance e0O (p:List UInt8×Rat):AA (GC p):=by unfold GC;exact AJ
theorem aS (x:List UInt8):(sb x).toList=x:=by rw[Lib.toList_data]
end Go.Ide
namespace Go.Proofs
open Go.Shelf Go.RowKit Go.Lib Go.Sort
open Tryz
theorem EG {o:Option Func}{a b:Func}(h:o=some a)(k:a=b:=by kernel_rfl):o=some b:=h.trans (congrArg some k)
def Tryz.sortedZ_ren:Go.Shelf.Ren:=⟨fun|6=>87|8=>136|9=>137|11=>193|13=>195|12=>194|23=>233|24=>234|14=>224|15=>225|16=>226|17=>227|18=>228|19=>229|20=>230|21=>231|22=>232|25=>266|26=>267|27=>268|28=>269|29=>270|30=>271|31=>291|n=>n,fun|26=>9|28=>166|24=>163|0=>0|3=>3|37=>283|48=>322|50=>271|4=>4|40=>316|39=>315|45=>284|5=>5|9=>9|51=>344|55=>348|57=>372|58=>373|33=>80|n=>n,fun|n=>n⟩
theorem e3D:Go.Proofs.SlLaysZ.n6 Tryz.prog Tryz.sortedZ_ren:={
 mixed:=by kernel_rfl
 f6:=⟨Tryz.f87.name,by decide,EG func87⟩
 f8:=⟨Tryz.f136.name,by decide,EG func136⟩
 f11:=⟨Tryz.f193.name,by decide,EG func193⟩
 t0:=underlying0
 a0:=isAgg0
 z0:=sizeOf0
 v0:=zeroValue0
 t24:=underlying163
 a24:=isAgg163
 z24:=sizeOf163
 v24:=zeroValue163
 t26:=underlying9
 a26:=isAgg9
 z26:=sizeOf9
 v26:=zeroValue9
 t28:=underlying166
 a28:=isAgg166
 z28:=sizeOf166
 v28:=zeroValue166
 i26:=by kernel_rfl }
open Tryz
def Tryz.keysZ_ren:Go.Shelf.Ren:=⟨fun|10=>138|n=>n,fun|33=>80|23=>160|0=>0|4=>4|26=>9|3=>111|n=>n,fun|n=>n⟩
theorem e3B:Go.Proofs.SlLaysZ.n10 Tryz.prog Tryz.keysZ_ren:={
 mixed:=by kernel_rfl
 f10:=⟨Tryz.f138.name,by decide,EG func138⟩
 t0:=underlying0
 a0:=isAgg0
 z0:=sizeOf0
 v0:=zeroValue0
 t4:=underlying4
 a4:=isAgg4
 z4:=sizeOf4
 v4:=zeroValue4
 t23:=underlying160
 a23:=isAgg160
 z23:=sizeOf160
 v23:=zeroValue160
 t26:=underlying9
 a26:=isAgg9
 z26:=sizeOf9
 v26:=zeroValue9
 t33:=underlying80
 a33:=isAgg80
 z33:=sizeOf80
 v33:=zeroValue80 }
open Tryz
def Tryz.sortM_ren:Go.Shelf.Ren:=⟨fun|6=>137|8=>195|9=>194|19=>233|20=>234|21=>224|22=>225|23=>226|24=>227|25=>228|26=>229|27=>230|28=>231|29=>232|36=>266|31=>267|32=>268|37=>269|38=>270|39=>271|41=>291|n=>n,fun|27=>163|29=>9|3=>3|32=>283|26=>163|0=>0|44=>322|46=>271|4=>4|36=>316|35=>315|41=>284|5=>5|9=>9|53=>344|57=>348|63=>372|64=>373|n=>n,fun|n=>n⟩
theorem mG:Go.Proofs.SlLaysM.n6 Tryz.prog Tryz.sortM_ren:={
 mixed:=by kernel_rfl
 f6:=⟨Tryz.f137.name,by decide,EG func137⟩
 f8:=EG func195
 f9:=⟨Tryz.f194.name,by decide,EG func194⟩
 f19:=EG func233
 f20:=EG func234
 f21:=⟨Tryz.f224.name,by decide,EG func224⟩
 f22:=⟨Tryz.f225.name,by decide,EG func225⟩
 f23:=⟨Tryz.f226.name,by decide,EG func226⟩
 f24:=⟨Tryz.f227.name,by decide,EG func227⟩
 f25:=⟨Tryz.f228.name,by decide,EG func228⟩
 f26:=⟨Tryz.f229.name,by decide,EG func229⟩
 f27:=⟨Tryz.f230.name,by decide,EG func230⟩
 f28:=⟨Tryz.f231.name,by decide,EG func231⟩
 f29:=⟨Tryz.f232.name,by decide,EG func232⟩
 f31:=EG func267
 f32:=EG func268
 f36:=⟨Tryz.f266.name,by decide,EG func266⟩
 f37:=⟨Tryz.f269.name,by decide,EG func269⟩
 f38:=⟨Tryz.f270.name,by decide,EG func270⟩
 f39:=⟨Tryz.f271.name,by decide,EG func271⟩
 f41:=⟨Tryz.f291.name,by decide,EG func291⟩
 t0:=underlying0
 a0:=isAgg0
 z0:=sizeOf0
 v0:=zeroValue0
 t3:=underlying3
 a3:=isAgg3
 z3:=sizeOf3
 v3:=zeroValue3
 t4:=underlying4
 a4:=isAgg4
 z4:=sizeOf4
 v4:=zeroValue4
 t5:=underlying5
 a5:=isAgg5
 z5:=sizeOf5
 v5:=zeroValue5
 t9:=underlying9
 a9:=isAgg9
 z9:=sizeOf9
 v9:=zeroValue9
 t26:=underlying163
 a26:=isAgg163
 z26:=sizeOf163
 v26:=zeroValue163
 t27:=underlying163
 a27:=isAgg163
 z27:=sizeOf163
 v27:=zeroValue163
 t29:=underlying9
 a29:=isAgg9
 z29:=sizeOf9
 v29:=zeroValue9
 t32:=underlying283
 a32:=isAgg283
 z32:=sizeOf283
 v32:=zeroValue283
 t35:=underlying315
 a35:=isAgg315
 z35:=sizeOf315
 v35:=zeroValue315
 t36:=underlying316
 a36:=isAgg316
 z36:=sizeOf316
 v36:=zeroValue316
 t41:=underlying284
 a41:=isAgg284
 z41:=sizeOf284
 v41:=zeroValue284
 t44:=underlying322
 a44:=isAgg322
 z44:=sizeOf322
 v44:=zeroValue322
 t46:=underlying271
 a46:=isAgg271
 z46:=sizeOf271
 v46:=zeroValue271
 t53:=underlying344
 a53:=isAgg344
 z53:=sizeOf344
 v53:=zeroValue344
 t57:=underlying348
 a57:=isAgg348
 z57:=sizeOf348
 v57:=zeroValue348
 t63:=underlying372
 a63:=isAgg372
 z63:=sizeOf372
 v63:=zeroValue372
 t64:=underlying373
 a64:=isAgg373
 z64:=sizeOf373
 v64:=zeroValue373 }
theorem e3F (m:Nat):AnyZ.SortsIn Tryz.prog Tryz.sortedZ_ren Fence.wide m:=
 ⟨λblk off cap ss W hH hblk hsz=>callsIn_wide.2 (AnyM.slices_Sort_string mG blk off cap ss W hH hblk hsz),
  λp cap W=>callsIn_wide.2 (AnyM.slices_Sort_string_none mG p cap W)⟩
theorem e3E {H:Type}(Bm b nn:Nat)(D0:DataW H){R:Value->Option (DataW H×List MemPlace)}(w:World)(hBm:Bm<w.heap.size)
  (hm:w.cell? ⟨Bm,0,none⟩=some (.map (some b))) (hown:w.ownsMap Tryz.prog 9 R b nn D0) (hN:Maps.size D0<=10000):
  Calls Tryz.prog 87 #[.func (.func 138) #[] #[.pointer (some ⟨Bm,0,none⟩)]] w λe w'=>∃(v:Value) (ss:List (List UInt8)),e=.returned v/\ss.Perm (strKeys D0) /\
   w'.ownsRow w.heap.size 9 1 v ss.length ((ss.mergeSort (λx y=>decide (x<=y))).map encStr)/\Below w.heap.size w w':=
 (callsIn_wide.1 (AnyZ.sorted_in e3D Fence.wide 6 trivial trivial trivial trivial rfl (by omega) (e3F _) (enters_of Tryz.func137 (by kernel_rfl) rfl) 138 _ trivial (enters_of Tryz.func138 (by kernel_rfl) rfl) _ _ (Nat.le_trans hN (by decide)) (by omega) w
  (AnyZ.keys_gives e3B Fence.wide _ trivial rfl (by omega) Bm b nn D0 w hBm hm hown))).mono λe w' ⟨v,ss,h1,h2,h3,_,h5⟩=>⟨v,ss,h1,h2,h3,h5⟩
end Go.Proofs
namespace Go.Ide
open Go.Proofs Go.RowKit Go.Sort
set_option maxRecDepth 20000
def Qh (ks:List (List UInt8)):List (List UInt8):=ks.mergeSort λx y=>decide (x<=y)
theorem dX (k:List UInt8)(hb:k.length<=maxLen):keyOf Tryz.prog 9 (encStr k)=some (.string k):=by
 simp[keyOf,mapKey,hb,ByteArray.size,encStr]
theorem nN {H:Type}{R:Value->Option (DataW H×List MemPlace)}{z:DataW H}(hR:∀v,R v=some (z,[]))(es:List MapEntry)(ks:List (List UInt8))(hk:es.map (·.key)=ks.map encStr)(hb:∀k∈ks,k.length<=maxLen):
  (strKeys (DataW.map ((es.map (WideElems.rg Tryz.prog 9 R)).foldr DataW.insert []))).Perm ks:=by
 show(((es.map (WideElems.rg Tryz.prog 9 R)).foldr DataW.insert []).map λp=>strOf p.1).Perm ks;refine((WideShapes.sorted_perm _).map _).trans ?_;rw[List.map_map]
 have:es.map ((λp:Lit×DataW H=>strOf p.1) ∘ WideElems.rg Tryz.prog 9 R)=ks:=by
  induction es generalizing ks with
  |nil=>
   cases ks with
   |nil=>rfl
   |cons a l=>simp at hk
  |cons e es ih=>
   cases ks with
   |nil=>simp at hk
   |cons k ks=>
    simp only[CX,Ev]at hk;rw[CX,ih ks hk.2 λk h=>hb k (B6 _ h)]
    congr 1
    have h1:=dX k (hb k CF);rw[<-hk.1]at h1;show strOf ((WideElems.rd Tryz.prog 9 R e).getD _).1=k;unfold WideElems.rd;rw[h1,hR];rfl
 rw[this]
theorem Gf (l:Dy)(ks:List (List UInt8))(hks:l.map (·.1)=ks.map sb)(hl:l.length<=10000)(hb:∀k∈ks,k.length<=1000)(hnd:ks.Nodup)(kb g T:Nat)(H:Hp)(n:Nat):
  C4 C0 87 [.clo (.func 138) [] [.optr kb g 1 0 0]] (⟨kb,g,T,1,[GZ l]⟩::H) n
   (λd H' n'=>d=.sl false 1 ((Qh ks).map λx=>str (sb x))/\H'=⟨kb,g,T,1,[GZ l]⟩::H/\n'=n+1):=by
 refine⟨by obtain⟨fn,a1,a2,a3,-⟩:=jr;exact⟨fn,_,a1,a2,a3⟩,λF ρ w vs m fr gn hsz rep=>?_⟩;obtain⟨v0,rfl⟩:∃v0,vs = #[v0]:=by
  match vs,hsz with
  |⟨[a]⟩,_=>exact⟨a,rfl⟩
 have r0:AV ρ _ w (.clo _ [] [.optr kb g 1 0 0]) v0:=rep 0 _ rfl;cases r0 with
 |clo hf1 hc1 _ h2=>
  rename_i fs cs1 _;simp at hf1 hc1;subst hf1;obtain⟨c,rfl⟩:∃c,cs1 = #[c]:=by
   match cs1,hc1 with
   |⟨[a]⟩,_=>exact⟨a,rfl⟩
  have r1:AV ρ _ w (.optr kb g 1 0 0) c:=h2 0 _ rfl;cases r1 with
  |optr hr=>
   rename_i b;have hent:∃cs,w.heap[b]?=some (.cells cs T (0,0))/\DS ρ (AL F.X ρ (⟨kb,g,T,1,[GZ l]⟩::H)) w ⟨kb,g,T,1,[GZ l]⟩ cs:=by
    rcases m.hok.ent _ CF with⟨h,h2⟩|⟨b2,cs2,a1,a2,a3⟩
    ·exact Ah (hr.symm.trans h2) (by simp)
    ·cases hr.symm.trans a1;exact⟨cs2,a2,a3⟩
   obtain⟨cs,hcb,hok⟩:=hent;have hlt:b<w.heap.size:=m.lt CF hr;have hr0:=hok.rep 0 (GZ l) 0 (GZ l) rfl rfl;have h9:1<=cs.size:=by simpa using hok.len
   have hcs:0<cs.size:=h9;rw[Ar,CW (by simpa using hcs)]at hr0;simp only[HP,Dm,LF]at hr0;obtain⟨v,hv⟩:∃v,cs[0]=v:=⟨_,rfl⟩
   rw[hv]at hr0;unfold GZ at hr0;cases hr0 with
   |mp hO hrl hb3 h1 h2 hBo hk hvv=>
    rename_i r clock es;rw[Al]at h1;have hkey:es.toList.map (·.key)=ks.map encStr:=by
     apply RH;intro i;rw[BT,BT];have hli:=congrArg (λq=>q[i]?) hks;simp only[BT]at hli;rcases BL i l.length with hi|hi
     ·have hd:=hk i (.prim (.string l[i].1)) (by rw[BT,B4 hi];rfl)
      rw[B4 hi]at hli;obtain⟨kk,hkk,hkk2⟩:=Gc.1 hli.symm;have hi2:i<es.size:=by omega
      rw[Ar,CW hi2]at hd;rw[hkk,MT,CW hi2];simp only[KI,BO,LF]at hd⊢;generalize es[i].key=kv at hd;cases hd;have h8:sb kk=l[i].1:=hkk2;rw[<-h8]
     ·have h5:ks.length=l.length:=by have:=congrArg List.length hks;simpa using this.symm
      rw[D3 (by simp;omega),D3 (by omega)];rfl
    have hkn:(es.toList.map (·.key)).Nodup:=by
     rw[hkey];exact List.pairwise_map.2 (hnd.imp λh q=>h (encStr_inj q))
    have hbm:∀k∈ks,k.length<=maxLen:=λk h=>BP (hb k h) (by decide)
    let R:Value->Option (DataW Unit×List MemPlace):=λ_=>some (.nil,[])
    have hown:w.ownsMap Tryz.prog 9 R r es.size (.map ((es.toList.map (WideElems.rg Tryz.prog 9 R)).foldr DataW.insert [])):=by
     refine⟨es,clock,hb3,⟨BP (by omega:es.size<=10000) (by decide),⟨λx hx=>?_,hBo.nodup,hkn⟩,λx hx=>?_⟩,Am _,rfl⟩
     ·obtain⟨j,hj⟩:=MU.1 hx
      exact hBo.1 j x (by simpa using hj)
     ·have:x.key∈es.toList.map (·.key):=List.mem_map_of_mem hx
      rw[hkey]at this;obtain⟨k,hk1,hk2⟩:=CL.1 this;have h1:=dX k (hbm k hk1);rw[hk2]at h1;exact⟨_,by unfold WideElems.rd;rw[h1];rfl⟩
    have hsk:=nN (H:=Unit) (R:=R) (z:=.nil) (λ_=>rfl) es.toList ks hkey hbm;have hcell:w.cell? ⟨b,0,none⟩=some (.map (some r)):=by
     unfold World.cell?;simp only[hcb];rw[CW hcs,hv];rfl
    have hsize:Maps.size (DataW.map ((es.toList.map (WideElems.rg Tryz.prog 9 R)).foldr DataW.insert []))<=10000:=by
     rw[Maps.size_eq,(WideShapes.sorted_perm _).length_eq,Al,JT];omega
    refine(e3E b r es.size _ w hlt hcell hown hsize).mono ?_;rintro e w' ⟨v,ss,rfl,hp,hrow,hbw⟩;have hss:ss.mergeSort (λx y=>decide (x<=y))=Qh ks:=mergeSort_of_perm (hp.trans hsk);rw[hss]at hrow;have x:BW ρ (AL F.X ρ (⟨kb,g,T,1,[GZ l]⟩::H)) w ρ (AL F.X ρ (⟨kb,g,T,1,[GZ l]⟩::H)) w':=⟨hbw.size,λ_ _ _ h=>h,λb hb' hO=>⟨hO,hbw.block b hb'⟩,λb cs T fz hh=>⟨cs,_,by
     rw[hbw.block b (DE.1 hh).1];exact hh,rfl⟩⟩
    refine⟨v,_,_,n+1,ρ,rfl,⟨rfl,rfl,rfl⟩,m.same x hbw.os hbw.tape hbw.output hbw.block,x,λa b h=>fr a b (by omega),λe he=>DP (gn e he),?_⟩;obtain⟨K,hK⟩:∃K,Qh ks=K:=⟨_,rfl⟩
    rw[hK]at hrow⊢;obtain⟨hlen,⟨rfl,hz⟩|⟨gb,cap,cur,rfl,hbase,hgb,q1,q2,q3,q4⟩⟩:=hrow
    ·rw[hz,Al]at hlen
     have:K=[]:=List.length_eq_zero_iff.1 (by omega)
     rw[this];exact .nil 1
    ·rw[Al,EQ]at hlen
     rw[EQ]at q3 q4;have hat:∀j x,K[j]?=some x->cur[j]?=some (Value.string (sb x)):=λj x hx=>by
      have hj:j<K.length:=(BR.1 hx).1
      have:=congrArg (λq=>q[j]?) q4
      simp only[FH,BT,hx,KI]at this;rw[DJ]at this;simpa using this
     have hall:∀j,j<ss.length*1->∃x,cur[j]?=some (Value.string (sb x)):=λj hj=>by
      have:j<K.length:=by omega
      exact⟨_,hat j _ (B4 this)⟩
     refine .sl (λj=>cur.getD j undef) (by rw[Al,hlen]) q1 ?_ (DE.1 hgb).1 ?_ ?_ ?_ ?_
     ·rintro(h|⟨e,he,h⟩)
      ·have:=m.xlt _ h;have:=m.size;omega
      ·have:=m.lt he h;omega
     ·intro i e h
      rw[BT]at h;obtain⟨x,-,rfl⟩:=Gc.1 h;rfl
     ·intro j hj
      obtain⟨x,hx⟩:=hall j hj;unfold World.cell?;simp only[hgb,BX];rw[hx,Ar,hx];rfl
     ·intro j hj
      obtain⟨x,hx⟩:=hall j hj;rw[Ar,hx];rfl
     ·intro i e j d h h2
      rw[BT]at h;obtain⟨x,hx,rfl⟩:=Gc.1 h
      have:j=0:=by
       have:=(BR.1 h2).1
       exact Nat.lt_one_iff.1 this
      subst this;cases h2;show AV _ _ _ _ (cur.getD (i*1+0) undef);rw[EQ,Dm,Ar,hat i x hx];exact .prim _
end Go.Ide
namespace Go.Ide
open Go.Proofs Go.RowKit Go.Sort
set_option maxRecDepth 20000
set_option maxHeartbeats 4000000
theorem MQ.len {B:Nat}:∀ {q:Bf} {m:Dy},MQ B q m->q.length=m.length
 | [],[],_=>rfl
 |_::_,_::_,⟨_,h⟩=>by simp[MQ.len h]
theorem MQ.at_ {B:Nat}:∀ {q:Bf} {m:Dy} (j:Nat) {e:ByteArray×D},MQ B q m->m[j]?=some e->∃(p:List UInt8×Rat) (y:GF),q[j]?=some p/\e=(sb p.1,y.D)/\FR p.2 y B
 | [],[],j,e,_,h=>by simp at h
 |p::q,e'::m,0,e,⟨⟨h1,y,h2,h3⟩,_⟩,h=>by
  simp at h;subst h;exact⟨p,y,rfl,by rw[<-h1,<-h2],h3⟩
 |_::q,_::m,j+1,e,⟨_,h4⟩,h=>by
  obtain⟨p,y,a,b,c⟩:=MQ.at_ j h4 (by simpa using h);exact⟨p,y,by simpa using a,b,c⟩
def Hh (q:Bf):Bf:=q.mergeSort λa b=>!ltStr b.1 a.1
theorem Pl (q:Bf):(Hh q).Perm q:=List.mergeSort_perm _ _
theorem fe (q:Bf):(Hh q).Pairwise λa b=>ltStr b.1 a.1=false:=by
 have:=List.pairwise_mergeSort (le:=λa b:List UInt8×Rat=>!ltStr b.1 a.1) (λa b c h1 h2=>by simp only[BZ]at*;exact swo_ltStr.ntrans _ _ _ h2 h1) (λa b=>by
  cases h1:ltStr b.1 a.1 with
  |false=>rfl
  |true=>
   cases h2:ltStr a.1 b.1 with
   |false=>rfl
   |true=>have:=swo_ltStr.trans _ _ _ h1 h2;rw[swo_ltStr.irrefl]at this;cases this) q
 exact this.imp λh=>by simpa using h
theorem d9V {q:Bf}(hn:(q.map (·.1)).Nodup){a b:List UInt8×Rat}(ha:a∈q)(hb:b∈q)(h:a.1=b.1):a=b:=by
 obtain⟨i,hi,rfl⟩:=List.mem_iff_getElem.1 ha;obtain⟨j,hj,rfl⟩:=List.mem_iff_getElem.1 hb
 have:i=j:=(List.getElem_inj (h₀:=by simpa using hi) (h₁:=by simpa using hj) hn).1 (by simpa using h)
 subst this;rfl
theorem Rl {a b:List UInt8}(h1:ltStr a b=false)(h2:ltStr b a=false):a=b:=by
 simp only[ltStr,PF,List.not_lt]at h1 h2;exact List.le_antisymm h2 h1
theorem nR {q l l':Bf}(hn:(q.map (·.1)).Nodup)(hp:l.Perm q)(hp':l'.Perm q)(hs:l.Pairwise λa b=>ltStr b.1 a.1=false)(hs':l'.Pairwise λa b=>ltStr b.1 a.1=false):l=l':=
 List.Perm.eq_of_pairwise (le:=λa b:List UInt8×Rat=>ltStr b.1 a.1=false) (λ_ _ ha hb h1 h2=>d9V hn (hp.mem_iff.1 ha) (hp'.mem_iff.1 hb) (Rl h2 h1)) hs hs' (hp.trans hp'.symm)
def jY (q:Bf):Bf:=if q.any (λp=>Et p.2)then[]else Hh q
def jX (q:Bf):Nat:=if q.any (λp=>Et p.2)then 4 else 0
abbrev Cr (q:Bf):List (List UInt8):=q.map (·.1)
theorem aT (lot:List UInt8)(r:Rat):∀q:Bf,Cr (HB lot r q)=if lot∈Cr q then Cr q else Cr q++[lot]
 | []=>by simp[HB,Cr]
 |p::l=>by
  unfold HB
  by_cases h:lot=p.1
  ·rw[AH h]
   subst h;simp[Cr]
  ·rw[AG h]
   show p.1::Cr (HB lot r l)=if lot∈p.1::Cr l then p.1::Cr l else p.1::Cr l++[lot]
   rw[aT lot r l]
   by_cases h2:lot∈Cr l
   ·rw[AH h2,AH (B6 _ h2)]
   ·rw[AG h2,AG (by
     intro q;rcases Aw.1 q with q|q
     ·exact h q
     ·exact h2 q)];rfl
structure JC (P:List UInt8->Prop)(n:Nat)(q:Bf):Prop where
 nd:(Cr q).Nodup
 all:∀k∈Cr q,P k
 len:q.length<=n
theorem JC.set {P:List UInt8->Prop}{n:Nat}{q:Bf}(h:JC P n q){lot:List UInt8}(hl:P lot)(r:Rat):JC P (n+1) (HB lot r q):=by
 have hk:=aT lot r q;have hlen:(HB lot r q).length=(Cr (HB lot r q)).length:=by simp[Cr]
 have hlen2:q.length=(Cr q).length:=by simp[Cr]
 by_cases hm:lot∈Cr q
 ·rw[AH hm]at hk
  exact⟨by rw[hk];exact h.nd,by rw[hk];exact h.all,by rw[hlen,hk,<-hlen2];have:=h.len;omega⟩
 ·rw[AG hm]at hk
  refine⟨?_,?_,?_⟩
  ·rw[hk,EU]
   exact⟨h.nd,by simp,λa ha b hb=>by
    rw[DG]at hb;subst hb;exact λe=>hm (e ▸ ha)⟩
  ·rw[hk]
   intro k hk;rcases Bs.1 hk with q|q
   ·exact h.all k q
   ·rw[DG]at q;rw[q];exact hl
  ·rw[hlen,hk,Bz,<-hlen2]
   have:=h.len
   simp;omega
theorem JC.mono {P:List UInt8->Prop}{n n':Nat}{q:Bf}(h:JC P n q)(hn:n<=n'):JC P n' q:=⟨h.nd,h.all,BP h.len hn⟩
theorem Zm {P:List UInt8->Prop}{n:Nat}{q:Bf}(x:AE)(h:JC P n q)(hp:∀s∈x.shs,P s.lot):∀j,j<=x.shs.length->JC P (n+j) (J7 x j q)
 | 0,_=>h
 |j+1,hj=>by
  obtain⟨s,hs⟩:∃s,x.shs[j]?=some s:=⟨_,B4 hj⟩
  rw[U7 x j q hs];exact(Zm x h hp j (by omega)).set (hp s (A8 hs)) _
theorem Y3 {P:List UInt8->Prop}(l:List AE)(hp:∀x∈l,x.shs.length<=64/\∀s∈x.shs,P s.lot):∀i,i<=l.length->JC P (64*i) (DW (l.take i))
 | 0,_=>⟨by simp[DW,Cr],by simp[DW,Cr],by simp[DW]⟩
 |i+1,hi=>by
  obtain⟨x,hx⟩:∃x,l[i]?=some x:=⟨_,B4 hi⟩
  rw[U5 l i hx];have h1:=hp x (A8 hx);exact(Zm x (Y3 l hp i (by omega)) h1.2 _ (Am _)).mono (by omega)
theorem oX {P:List UInt8->Prop}{l:List AE}(hp:∀x∈l,x.shs.length<=64/\∀s∈x.shs,P s.lot):JC P (64*l.length) (DW l):=by
 have:=Y3 l hp l.length (Am _)
 rwa [DH]at this
theorem MQ.keys {B:Nat}:∀ {q:Bf} {m:Dy},MQ B q m->m.map (·.1)=(Cr q).map sb
 | [],[],_=>rfl
 |p::q,e::m,⟨⟨h1,_⟩,h4⟩=>by
  simp only[CX,Cr];rw[h1]
  congr 1
  exact MQ.keys h4
theorem Zk (s:ByteArray):∀m:Dy,IG s (m.map λp=>.prim (.string p.1)) (m.map (·.2))=some (Ix s m)
 | []=>rfl
 |p::l=>by
  simp only[CX,IG,Ix];cases BU s p.1 with
  |true=>rfl
  |false=>exact Zk s l
theorem VD:∀ {q:Bf} {p:List UInt8×Rat},(Cr q).Nodup->p∈q->Hc p.1 q=some p.2
 |a::q,p,hn,hp=>by
  unfold Hc;have hn:(a.1::Cr q).Nodup:=hn;rw[List.nodup_cons]at hn;rcases Aw.1 hp with rfl|hp
  ·rw[AH rfl]
  ·rw[AG λe=>hn.1 (by rw[<-e];exact List.mem_map_of_mem hp)]
   exact VD hn.2 hp
theorem oT (q:Bf):Qh (Cr q)=(Hh q).map (·.1):=by
 unfold Qh;refine List.Perm.eq_of_pairwise (le:=λx y:List UInt8=>x<=y) (λ_ _ _ _ h1 h2=>List.le_antisymm h1 h2) ?_ ?_ ?_
 ·have:=List.pairwise_mergeSort (le:=λx y:List UInt8=>decide (x<=y)) (λa b c h1 h2=>by simp only[HL]at*;exact List.le_trans h1 h2) (λa b=>by
   rcases List.le_total a b with h|h<;>simp[h]) (Cr q)
  exact this.imp λh=>by simpa using h
 ·rw[List.pairwise_map]
  exact(fe q).imp λh=>by simpa[ltStr]using h
 ·exact(List.mergeSort_perm _ _).trans ((Pl q).map _).symm
abbrev Lf:Dr:=[(12,[0,1,2,3,4,5],[6])]
open Go.Proofs Go.RowKit
set_option maxRecDepth 20000
set_option maxHeartbeats 4000000
def Eb (l:List AE):Bool:=l.all λx=>BU (sb x.grain) (sb (CU l 0).grain)
def Hi (l:List AE):Nat:=if l.length=0 then 2 else if 64<l.length then 5 else if DZ (λi=>Bw (CU l i)) l.length≠0 then DZ (λi=>Bw (CU l i)) l.length else if Eb l=false then 16 else if Ak l>999999999 then 4 else 0
def Ty (l:List AE):Int:=if Hi l=0 then Ak l else 0
theorem o8 (b:Bool)(v:List AE)(hl:v.length<=1000000)(hf:∀x∈v,x.few):AI C0 129 [.clo (.func 47) [] [],Au b v] (i64 (DZ (λi=>Bw (CU v i)) v.length:Nat)):=by
 refine Ac.walk w1 iE rfl λF=>?_
 have el:(((v.map AE.D).length:Nat):Int)=(v.length:Int):=by rw[Al]
 refine AR Aq el AB AB AB AB AB AB ?_;refine AC.loop (α:=Nat×Nat) (λp=>⟨[(0,.clo (.func 47) [] []),(8,Au b v),(9,i64 (v.length:Int)),(10,i64 (p.1:Int))],[],p.2⟩) (λp=>v.length-p.1)
  (λp=>p.1<=v.length/\∀j,j<p.1->Bw (CU v j)=0) (0,_) ⟨Bg _,λj h=>Ah h (HR j)⟩ AN ?_
 rintro⟨i,m⟩ F ⟨hi,hz⟩;dsimp only at hi hz⊢;rcases BL i v.length with h2|h2
 ·have e1:=Cs h2
  have wi:=Cz (i:=i) (by omega);obtain⟨x,hx⟩:=CV h2;have hm:(v.map AE.D)[i]?=some (.agg [str (sb x.grain),i64 x.mass,.sl false 2 (x.shs.map A0.D)]):=by rw[BT,hx];rfl
  have cL:=YF x (hf x (A8 hx));unfold AE.D at cL;rcases Nat.decEq (Bw x) 0 with hc0|hc0
  ·have e3:=IM hc0
   have hE:=OM (f:=λi=>Bw (CU v i)) hz h2 (by rw[FS hx];exact hc0);rw[FS hx]at hE;rw[hE];refine AR Aq (BG e1 e3 kN) hm cL AB AB AB AB ?_;exact AM rfl AA.out
  ·have e3:=Im hc0
   refine AR Aq (Bo e1 e3 wi kN) hm cL AB AB AB AB ?_;exact⟨(i+1,_),⟨h2,λj hj=>by
    rcases IQ.1 hj with q|q
    ·exact hz j q
    ·rw[q,FS hx];exact hc0⟩,by dsimp only;omega,AN⟩
 ·have e1:=Cx h2
  have:i=v.length:=by omega
  subst this;rw[IZ (f:=λi=>Bw (CU v i)) hz];refine AR Aq e1 AB AB AB AB AB AB ?_;exact AM rfl AA.out
theorem uk (b:Bool)(l:List AE)(hl:l.length<=1000000)(hf:∀x∈l,x.few):AI C0 83 [Au b l] (.tup [i64 (Ty l),i64 (Hi l:Nat)]):=by
 refine Ac.walk w1 jp rfl λF=>?_
 have el:(((l.map AE.D).length:Nat):Int)=(l.length:Int):=by rw[Al]
 have hC:Hi l=if l.length=0 then 2 else if 64<l.length then 5 else if DZ (λi=>Bw (CU l i)) l.length≠0 then DZ (λi=>Bw (CU l i)) l.length else if Eb l=false then 16 else if Ak l>999999999 then 4 else 0:=rfl
 have hM:Ty l=if Hi l=0 then Ak l else 0:=rfl
 have cA:=o8 b l hl hf
 by_cases h0:l.length=0
 ·rw[AH h0]at hC
  rw[hC]at hM;rw[hM,hC];have q1:((l.length:Int)==0)=true:=by rw[h0];rfl
  refine AR Lf (Ae el q1) AB AB AB AB AB AB ?_;exact AM rfl AA.out
 rw[AG h0]at hC;have q1:((l.length:Int)==0)=false:=by
  rw[B8];omega
 by_cases h64:64<l.length
 ·rw[AH h64]at hC
  rw[hC]at hM;rw[hM,hC];have q2:decide ((l.length:Int)>64)=true:=BV;refine AR Lf (BG el q1 q2) AB AB AB AB AB AB ?_;exact AM rfl AA.out
 rw[AG h64]at hC;have q2:decide ((l.length:Int)>64)=false:=BY;obtain⟨K,hK⟩:∃K,DZ (λi=>Bw (CU l i)) l.length=K:=⟨_,rfl⟩
 rw[hK]at hC cA;rcases Nat.decEq K 0 with hc0|hc0
 ·have e3:=IM hc0
  rw[AH hc0]at hC;rw[hC]at hM;rw[AG hc0]at hM;rw[hM,hC];refine AR Lf (Bo el q1 q2 e3) cA AB AB AB AB AB ?_;exact AM rfl AA.out
 have e3:=Im hc0;rw[AG (λh=>h hc0)]at hC;have hz:∀j,j<l.length->Bw (CU l j)=0:=Pt (hK.trans hc0);have hsm:=VH h64 hz;obtain⟨x0,hx0⟩:∃x,l[0]?=some x:=⟨_,Ce⟩
 have hm0:(l.map AE.D)[0]?=some (.agg [str (sb x0.grain),i64 x0.mass,.sl false 2 (x0.shs.map A0.D)]):=by rw[BT,hx0];rfl
 have hv0:=FS hx0;refine AR Lf (Bo el q1 q2 e3) cA AB AB AB AB AB ?_;refine AC.loop (α:=Nat×Nat) (λp=>⟨[(0,Au b l),(5,i64 (Ak (l.take p.1))),(19,Au b l),(20,i64 (l.length:Int)),(21,i64 (p.1:Int))],[],p.2⟩) (λp=>l.length-p.1)
  (λp=>p.1<=l.length/\∀x∈l.take p.1,BU (sb x.grain) (sb x0.grain)=true) (0,_) ⟨Bg _,λx h=>by simp at h⟩ AN ?_
 rintro⟨i,m⟩ F ⟨hi,hs⟩;dsimp only at hi hs⊢;rcases BL i l.length with h2|h2
 rotate_left
 ·have e1:=Cx h2
  have:i=l.length:=by omega
  subst this;rw[DH]at hs⊢;have hg:Eb l=true:=by
   unfold Eb;rw[Cc,hv0];exact hs
  rw[AG (by rw[hg];decide)]at hC
  by_cases h9:Ak l>999999999
  ·have e9:decide (Ak l>999999999)=true:=Ax h9
   rw[AH h9]at hC;rw[hC]at hM;rw[hM,hC];refine AR Lf (Ae e1 e9) AB AB AB AB AB AB ?_;exact AM rfl AA.out
  ·have e9:decide (Ak l>999999999)=false:=Az h9
   rw[AG h9]at hC;rw[hC]at hM;rw[hM,hC];refine AR Lf (Ae e1 e9) AB AB AB AB AB AB ?_;exact AM rfl AA.out
 have e1:=Cs h2;have wi:=Cz (i:=i) (by omega);obtain⟨x,hx⟩:=CV h2;have hm:(l.map AE.D)[i]?=some (.agg [str (sb x.grain),i64 x.mass,.sl false 2 (x.shs.map A0.D)]):=by rw[BT,hx];rfl
 have hsum:=R4 hx;have hs1:=WG (l:=l.take i) λy hy=>hsm.2 y (HK hy)
 have hs2:=hsm.2 x (A8 hx);rw[Be]at hs1;have ws:IntKind.i64.wrap (Ak (l.take i)+x.mass)=Ak (l.take i)+x.mass:=wI;obtain⟨bG,hbG⟩:∃q,BU (sb x.grain) (sb x0.grain)=q:=⟨_,rfl⟩
 cases bG
 ·have hg:Eb l=false:=by
   unfold Eb;rw[List.all_eq_false];exact⟨x,A8 hx,by rw[hv0,hbG];decide⟩
  rw[AH hg]at hC;rw[hC]at hM;rw[hM,hC];refine AR Lf (BG e1 hbG kN) hm hm0 AB AB AB AB ?_;exact AM rfl AA.out
 ·refine AR Lf (Cw e1 hbG wi ws kN) hm hm0 AB AB AB AB ?_
  exact⟨(i+1,_),⟨h2,λy hy=>by
   rw[FV,hx]at hy;rcases Bs.1 hy with q|q
   ·exact hs y q
   ·have:y=x:=by simpa using q
    rw[this];exact hbG⟩,by dsimp only;omega,by(dsimp only;rw[hsum];exact AN)⟩
abbrev FO:Dr:=[(11,[0,1,2,3,4,5,6,7],[8]),(24,[0,1,2,3,4,5,6,7,8,9,10],[11])]
open Go.Proofs Go.RowKit Go.Sort
set_option maxRecDepth 20000
set_option maxHeartbeats 4000000
def mixN (l:List AE):Nat:=if Hi l≠0 then Hi l else if 64<(DW l).length then 5 else if(Hh (DW l)).any (λp=>Et (p.2/(Ak l:Rat)))then 4 else 0
def MG (l:List AE):List A0:=(Hh (DW l)).map λp=>⟨p.1,Ao (p.2/(Ak l:Rat))⟩
def mixL (l:List AE):AE:=if mixN l≠0 then⟨[],0,[]⟩else⟨(CU l 0).grain,Ak l,MG l⟩
def AE.lite (x:AE):Prop:=x.few/\∀s∈x.shs,s.lot.length<=1000/\s.part.length<=40
theorem VN {l:List A0}(h:G7 l=0):0<l.length/\l.length<=64/\∀s∈l,Dk s.lot=true/\chk s.part=0/\0<Ga (Bc s.part):=by
 unfold G7 at h;split at h
 ·cases h
 ·split at h
  ·cases h
  ·split at h
   ·rename_i h3;exact Ah h h3
   ·rename_i h1 h2 h3
    refine⟨by omega,by omega,λs hs=>?_⟩;obtain⟨j,hj⟩:=MU.1 hs;have hE:=Pt (f:=Fv l) (n:=l.length) (by omega) j (BR.1 hj).1;unfold Fv at hE;rw[Kp hj]at hE;split at hE
    ·cases hE
    ·split at hE
     ·cases hE
     ·split at hE
      ·rename_i h6;exact Ah hE h6
      ·split at hE
       ·cases hE
       ·rename_i h4 h5 h6 h7
        exact⟨by simpa using h4,by omega,by omega⟩
theorem iH {x:AE}(hl:x.lite)(h:Bw x=0):x.ok/\∀s∈x.shs,Dk s.lot=true:=by
 obtain⟨h1,h2,h3,h4⟩:=HZ h;obtain⟨g1,g2,g3⟩:=VN h4;exact⟨⟨g2,by unfold Sm;omega,λs hs=>⟨BP (hl.2 s hs).1 (by omega),(hl.2 s hs).2,(g3 s hs).2.1⟩⟩,λs hs=>(g3 s hs).1⟩
theorem tc {l:List AE}(h:Hi l=0):0<l.length/\l.length<=64/\(∀x∈l,Bw x=0)/\Eb l=true/\Ak l<=999999999:=by
 unfold Hi at h;split at h
 ·cases h
 ·split at h
  ·cases h
  ·split at h
   ·rename_i h3;exact Ah h h3
   ·split at h
    ·cases h
    ·split at h
     ·cases h
     ·rename_i h1 h2 h3 h4 h5
      refine⟨by omega,by omega,λx hx=>?_,by simpa using h4,by omega⟩;obtain⟨j,hj⟩:=MU.1 hx
      have:=Pt (f:=λi=>Bw (CU l i)) (n:=l.length) (by omega) j (BR.1 hj).1
      rwa [FS hj]at this
theorem SG:∀ {l:List AE},(∀x∈l,Bw x=0)->(l.length:Int)<=Ak l
 | [],_=>by simp[Ak]
 |x::l,h=>by
  have h1:=(HZ (h x CF)).2.1;have h2:=SG (l:=l) λy hy=>h y (B6 _ hy)
  unfold Ak at h2⊢;simp only[CX,List.sum_cons,By];omega
theorem QD (H:Hp)(e:Int):Fz H [] (.tup [.agg [str ⟨#[]⟩,i64 0,CS],i64 e]) (.tup [(⟨[],0,[]⟩:AE).D,i64 e]):=
 QC (.agg rfl λi d d' h h'=>by
  match i with
  | 0=>cases h;cases h';exact .refl _
  | 1=>cases h;cases h';exact .refl _
  | 2=>cases h;cases h';exact .nil 2
  |n+3=>cases h) (.refl _)
theorem jE {H:Hp}{gr m sD e:D}{L:List D}(h:Fz H [] sD (.sl false 2 L)):Fz H [] (.tup [.agg [gr,m,sD],e]) (.tup [.agg [gr,m,.sl false 2 L],e]):=
 QC (.agg rfl λi d d' h1 h2=>by
  match i with
  | 0=>cases h1;cases h2;exact .refl _
  | 1=>cases h1;cases h2;exact .refl _
  | 2=>cases h1;cases h2;exact h
  |n+3=>cases h1) (.refl _)
theorem uJ {H:Hp}{k g T sz:Nat}{z:D}{l:List D}(he:Hp.get H k=some ⟨k,g,T,sz,z::l⟩):Fz H [] (.osl k g sz 0 (l.length+1)) (.sl false sz (z::l)):=by
 refine .osl (e:=⟨k,g,T,sz,z::l⟩) he rfl rfl rfl (by simp) (by simp) (λj d d' h1 h2=>?_) λj d d' q c c' h1 h2 h3 h4=>?_
 ·rw[BX]at h1;rw[h1]at h2;cases h2;rfl
 ·rw[BX]at h1;rw[h1]at h2;cases h2;rw[h3]at h4;cases h4;exact Fz.refl _
theorem rU (l:Dy)(H:Hp)(n:Nat):C4 C0 88 [GZ l] H n (λd H' n'=>∃g,d=.clo (.func 138) [] [.optr 77000 g 1 0 0]/\H'=⟨77000,g,160,1,[GZ l]⟩::H/\n'=n+4):=by
 refine C4.walk w1 js rfl λF0=>?_
 obtain⟨M,hM⟩:∃M,GZ l=M:=⟨_,rfl⟩
 have hc:∃ks vs,M=.mp ks vs:=⟨_,_,hM.symm⟩
 obtain⟨ks,vs,hc⟩:=hc;subst hc;rw[hM];refine AC.seq ?_;refine An 77000 ?_;refine AF kB ?_;refine BA ?_;refine AR Aq kB AB AB AB AB AB AB ?_;exact⟨_,rfl,rfl,trivial⟩
theorem d6l {r:Rat}{x:GF}{k:Nat}(h:FR r x k)(hk:k<100000):AI C0 89 [x.D] (.tup [str (sb (Xs r)),i64 (Xr r:Nat)]):=by
 refine Ac.walk w1 jt rfl λF=>?_
 have c1:=tX h hk;have c2:=d7z h hk;unfold Xs Xr;obtain⟨b,hb⟩:∃b,Et r=b:=⟨_,rfl⟩
 rw[hb]at c1⊢;cases b
 all_goals
  refine AR Aq kB c1 c2 AB AB AB AB ?_;exact AM rfl AA.out
theorem lZ (b:Bool)(l:List AE)(hl:l.length<=1000000)(hf:∀x∈l,x.lite):AI C0 43 [Au b l] (.tup [(mixL l).D,i64 (mixN l:Nat)]):=by
 refine Ac.walk w1 kC rfl λF0=>?_
 have el:(((l.map AE.D).length:Nat):Int)=(l.length:Int):=by rw[Al]
 have cM:=uk b l hl λx hx=>(hf x hx).1
 have hN:mixN l=if Hi l≠0 then Hi l else if 64<(DW l).length then 5 else if(Hh (DW l)).any (λp=>Et (p.2/(Ak l:Rat)))then 4 else 0:=rfl
 have hL:mixL l=if mixN l≠0 then⟨[],0,[]⟩else⟨(CU l 0).grain,Ak l,MG l⟩:=rfl
 rcases Nat.decEq (Hi l) 0 with g|g
 ·have e1:=IM g
  rw[AH g]at hN;rw[hN,AH g]at hL;rw[hL,hN];refine AR FO e1 cM AB AB AB AB AB ?_;exact⟨_,QD _ _,AA.out,rfl⟩
 have e1:=Im g;rw[AG (λh=>h g)]at hN;have hmm:Ty l=Ak l:=by unfold Ty;rw[AH g]
 obtain⟨g1,g2,g3,g4,g5⟩:=tc g;have hx:∀x∈l,x.ok:=λx h=>(iH (hf x h) (g3 x h)).1
 have g6:=SG g3;rw[hmm]at cM;refine sZ 0 ?_;refine AF kB ?_;refine sZ 100 ?_;refine AF kB ?_;refine cI cM ?_;refine AF kB ?_;refine AC.seq ?_;refine sZ 200 ?_;refine AF e1 ?_;refine AK ?_;refine Ag ?_;refine AC.seq ?_;refine RA (by kernel_rfl) ?_;change Cg _ _ _ _ _ [0,1] _ _;refine Cg.makeMap 400 rfl rfl rfl (e2Q F0) (λF1 it hto hO hr0 hnX hM=>?_);change Cg _ _ _ _ _ ([1]++[]) _ _;refine MS w1 400 [1] [] ?_;refine AF kB ?_;refine Cg.nil ?_;refine AR FO el AB AB AB AB AB AB ?_;refine HJ (α:=Nat×Dy×Obj×Nat) (λp=>⟨[(0,Au b l),(2,.optr 0 0 3 0 0),(4,i64 (Ak l)),(6,.prim (.map (some it))),(29,Au b l),(30,i64 (l.length:Int)),(31,i64 (p.1:Int))],[⟨0,0,28,3,[.agg [.prim (.string ⟨#[]⟩),.prim (.int .i64 0),.prim (.slice none 0 0)]]⟩],p.2.2.2⟩) (λp=>l.length-p.1)
  (λp F=>p.1<=l.length/\EI C0 F0 F [⟨400,11,p.2.2.1⟩]/\F.r0 400 11=some it/\J3 F p.2.2.1 p.2.1/\MQ (320*p.1) (DW (l.take p.1)) p.2.1) (0,[],.map #[] 0,_) ⟨Bg _,hO,hr0,hM,trivial⟩ AN ?_
 clear hO hr0 hM hto;rintro⟨i,m,o,n1⟩ F ⟨hi,hO,hr0,hM,hQ⟩;dsimp only at hi hO hr0 hM hQ⊢;rcases BL i l.length with h2|h2
 rotate_left
 ·have e1:=Cx h2
  have:i=l.length:=by omega
  subst this;rw[DH]at hQ;refine sZ 600 ?_;refine AF e1 ?_;refine AC.seq ?_;refine AK ?_;refine CM ?_;refine e3y [(0,Au b l),(2,.optr 0 0 3 0 0),(4,i64 (Ak l)),(6,GZ m)] hO hr0 hnX hM ⟨.inl rfl,.inl rfl,.inl rfl,.inr ⟨rfl,rfl⟩,trivial⟩ (λF2 hto2 hO2=>?_);have hKO:JC (λk=>k.length<=1000) (64*l.length) (DW l):=oX λx h=>⟨(hx x h).1,λs hs=>((hf x h).2 s hs).1⟩
  have hQ2:MQ 32000 (DW l) m:=hQ.mono (by omega);clear hQ hO hM hto2 hO2;obtain⟨q,hq⟩:∃q,DW l=q:=⟨_,rfl⟩
  have hSS:MG l=(Hh q).map λp=>⟨p.1,Ao (p.2/(Ak l:Rat))⟩:=by rw[<-hq];rfl
  rw[hq]at hKO hQ2 hN;have hml:=hQ2.len;obtain⟨ks,hks⟩:∃ks:List D,m.map (λp=>(.prim (.string p.1):D))=ks:=⟨_,rfl⟩
  obtain⟨vs,hvs⟩:∃vs:List D,m.map (·.2)=vs:=⟨_,rfl⟩
  have hkl:ks.length=q.length:=by rw[<-hks,Al,hml]
  unfold GZ;rw[hks,hvs];refine AC.seq ?_;refine AC.seq ?_;refine RA (by kernel_rfl) ?_;change Cg _ _ _ _ _ ([0]++(1::([2]++[]))) _ _;refine MS w1 1800 [0] _ ?_;refine AF kB ?_;refine e3e (Pc (w1.xt 160 _ rfl)).1 rfl rfl rfl rfl ?_;refine MS w1 1800 [2] _ ?_;refine AF kB ?_;refine Cg.nil ?_;rw[hkl]
  by_cases h64:64<q.length
  ·rw[AH h64]at hN
   rw[hN,DJ]at hL;rw[hL,hN];have q2:decide ((q.length:Int)>64)=true:=BV;refine AR FO q2 AB AB AB AB AB AB ?_;exact⟨_,QD _ _,AA.out,rfl⟩
  have q2:decide ((q.length:Int)>64)=false:=BY;rw[AG h64]at hN;rw[q2];have hmd:GZ m=.mp ks vs:=by unfold GZ;rw[hks,hvs]
  have cK:=rU m;have cS:=Gf m (Cr q) hQ2.keys (by omega) hKO.all hKO.nd;rw[hmd]at cK cS;obtain⟨x0,hx0⟩:∃x,l[0]?=some x:=⟨_,Ce⟩
  have hm0:(l.map AE.D)[0]?=some (.agg [str (sb x0.grain),i64 x0.mass,.sl false 2 (x0.shs.map A0.D)]):=by rw[BT,hx0];rfl
  refine AR FO kB hm0 AB AB AB AB AB ?_;refine BI.own _ (cK _ _) ?_;rintro d H' n' ⟨gk,rfl,rfl,rfl⟩;refine AR FO kB AB AB AB AB AB AB ?_;refine BI.own _ (cS _ _ _ _ _) ?_;rintro d H' n' ⟨rfl,rfl,rfl⟩;refine AR FO kB AB AB AB AB AB AB ?_;have hkey:=oT q;have hsl:(Hh q).length=q.length:=(Pl q).length_eq;have hsm:∀p∈Hh q,p∈q:=λp h=>(Pl q).mem_iff.1 h
  rw[hkey];obtain⟨Q,hQ⟩:∃Q,Hh q=Q:=⟨_,rfl⟩
  rw[hQ]at hN hSS hsl hsm⊢;have hMs:Sm (Ak l):=by unfold Sm;omega
  have hM0:((Ak l:Int):Rat)≠0:=λh=>by
   have:=Rat.intCast_inj.1 (h.trans (Rat.intCast_zero).symm)
   omega
  have fM:FR ((Ak l:Int):Rat) ⟨AY (Ak l),1⟩ 1:=Sq (by unfold Sm at hMs;omega);have cF:=Tx (Ak l) hMs;obtain⟨kl,hkl2⟩:∃kl:List D,(List.map (λx=>str (sb x)) (Q.map (·.1)))=kl:=⟨_,rfl⟩
  have hkll:kl.length=Q.length:=by rw[<-hkl2];simp
  rw[hkl2];obtain⟨M,hMM⟩:∃M,Ak l=M:=⟨_,rfl⟩
  have hgr:(CU l 0).grain=x0.grain:=by rw[FS hx0]
  clear hmd cK cS hm0;rw[hMM]at hN hL hSS hMs hM0 fM cF;rw[hMM,hkll];obtain⟨g14,hg14⟩:∃g,n1+1+1+1+1+1+1+1+1+1+1=g:=⟨_,rfl⟩
  rw[hg14];refine AC.loop (α:=Nat×Nat×Nat) (λp=>⟨[(2,.optr 0 0 3 0 0),(4,i64 M),(6,.mp ks vs),(14,.optr 2006 g14 3 0 0),(78,.sl false 1 kl),(79,i64 (Q.length:Nat)),(80,i64 (p.1:Int))],
    EN 2706 p.2.1 32 2 ((Q.take p.1).map λz=>(⟨z.1,Ao (z.2/(M:Rat))⟩:A0).D)++[⟨2006,g14,28,3,[.agg [str (sb x0.grain),i64 M,E2 2706 p.2.1 2 ((Q.take p.1).map λz=>(⟨z.1,Ao (z.2/(M:Rat))⟩:A0).D)]]⟩,⟨0,0,28,3,[.agg [.prim (.string ⟨#[]⟩),.prim (.int .i64 0),.prim (.slice none 0 0)]]⟩],p.2.2⟩) (λp=>Q.length-p.1)
   (λp=>p.1<=Q.length/\∀z∈Q.take p.1,Et (z.2/(M:Rat))=false) (0,0,_) ⟨Bg _,λz h=>by simp at h⟩ AN ?_
  clear n1 hg14;rintro⟨i,g,n1⟩ F ⟨hi,hB⟩;dsimp only at hi hB⊢;have hTl:((Q.take i).map λz=>(⟨z.1,Ao (z.2/(M:Rat))⟩:A0).D).length=i:=by rw[Al,Be];omega
  obtain⟨TL,hTL⟩:∃TL,((Q.take i).map λz=>(⟨z.1,Ao (z.2/(M:Rat))⟩:A0).D)=TL:=⟨_,rfl⟩
  rcases BL i Q.length with h2|h2
  rotate_left
  ·have e1:=Cx h2
   have:i=Q.length:=by omega
   subst this;rw[DH]at hB hTL⊢;have hany:Q.any (λp=>Et (p.2/(M:Rat)))=false:=by
    rw[List.any_eq_false];intro p hp;rw[hB p hp];decide
   rw[AG (by rw[hany];decide)]at hN;rw[B3]at hL;rw[hL,hN,hgr];have hres:((⟨x0.grain,M,MG l⟩:AE).D)=.agg [str (sb x0.grain),i64 M,.sl false 2 TL]:=by
    unfold AE.D Dq;rw[<-hTL,hSS,List.map_map];rfl
   have pR:CI (.tup [(⟨x0.grain,M,MG l⟩:AE).D,i64 ((0:Nat):Int)]):=AA.out;rw[hres]at pR;rw[hres,hTL];rcases TL with _|⟨z,TL⟩
   ·dsimp only[Kc,Mz,List.nil_append]
    refine AR FO e1 AB AB AB AB AB AB ?_;exact⟨_,jE (.nil 2),pR,rfl⟩
   ·dsimp only[Gy,Gz,List.cons_append,List.nil_append]
    refine AR FO e1 AB AB AB AB AB AB ?_;exact⟨_,jE (uJ rfl),pR,rfl⟩
  have e1:=Cs h2;have wi:=Cz (i:=i) (by omega);obtain⟨p,hp⟩:=CV h2;have hmk:kl[i]?=some (str (sb p.1)):=by rw[<-hkl2,BT,BT,hp];rfl
  have hlq:=VD hKO.nd (hsm p (A8 hp));rcases hQ2.look p.1 with⟨q1,q3⟩|⟨r,y,q1,q3,q4⟩
  ·rw[hlq]at q3;cases q3
  rw[hlq]at q3;cases q3;have hLk:IG (sb p.1) ks vs=some (some y.D):=by rw[<-hks,<-hvs,Zk,q1]
  have cDv:=we q4 fM hM0 (by omega);have fD:=tI q4 fM hM0;obtain⟨z,hz⟩:∃z,Tu y ⟨AY M,1⟩=z:=⟨_,rfl⟩
  rw[hz]at cDv fD;have cG:=d6l fD (by omega);obtain⟨dM,hdM⟩:∃d,(⟨AY M,1⟩:GF).D=d:=⟨_,rfl⟩
  have pdM:AA dM:=by rw[<-hdM];exact AJ
  obtain⟨dy,hdy⟩:∃d,y.D=d:=⟨_,rfl⟩
  have pdy:AA dy:=by rw[<-hdy];exact AJ
  obtain⟨dz,hdz⟩:∃d,z.D=d:=⟨_,rfl⟩
  have pdz:AA dz:=by rw[<-hdz];exact AJ
  rw[hdy]at hLk cDv;rw[hdM]at cF cDv;rw[hdz]at cDv cG;unfold Xs Xr at cG;obtain⟨bg,hbg⟩:∃q,Et (p.2/(M:Rat))=q:=⟨_,rfl⟩
  rw[hbg]at cG;have hsn:((Q.take (i+1)).map λz=>(⟨z.1,Ao (z.2/(M:Rat))⟩:A0).D)=TL++[.agg [str (sb p.1),str (sb (Ao (p.2/(M:Rat))))]]:=by
   rw[FV,hp,Du,hTL];rfl
  rw[hTL]at hTl⊢;have n4:((((4:Nat):Int)) != 0)=true:=rfl;have n0:((((0:Nat):Int)) != 0)=false:=rfl;cases bg
  rotate_left
  ·rw[AH rfl,AH rfl]at cG
   have hany:Q.any (λp=>Et (p.2/(M:Rat)))=true:=by
    rw[List.any_eq_true];exact⟨p,A8 hp,hbg⟩
   rw[AH hany]at hN;rw[DJ]at hL;rw[hL,hN];rcases TL with _|⟨z9,TL⟩
   ·dsimp only[Kc,Mz,List.nil_append]
    refine AR FO (Ae e1 kN) hmk AB AB AB AB AB ?_;refine Rr (d':=dy) rfl rfl rfl rfl rfl rfl hLk rfl ?_;refine BA ?_;refine AR FO n4 cF cDv cG AB AB AB ?_;exact⟨_,QD _ _,AA.out,rfl⟩
   ·dsimp only[Gy,Gz,List.cons_append,List.nil_append]
    refine AR FO (Ae e1 kN) hmk AB AB AB AB AB ?_;refine Rr (d':=dy) rfl rfl rfl rfl rfl rfl hLk rfl ?_;refine BA ?_;refine AR FO n4 cF cDv cG AB AB AB ?_;exact⟨_,QD _ _,AA.out,rfl⟩
  rw[AG (by decide),AG (by decide)]at cG;have hB2:∀w∈Q.take (i+1),Et (w.2/(M:Rat))=false:=λw hw=>by
   rw[FV,hp]at hw;rcases Bs.1 hw with h|h
   ·exact hB w h
   ·have:w=p:=by simpa using h
    rw[this];exact hbg
  rcases TL with _|⟨z9,TL⟩
  ·dsimp only[Kc,Mz,List.nil_append]
   refine AR FO (Ae e1 kN) hmk AB AB AB AB AB ?_;refine Rr (d':=dy) rfl rfl rfl rfl rfl rfl hLk rfl ?_;refine BA ?_;refine AR FO (Ae n0 wi) cF cDv cG AB AB AB ?_;exact⟨(i+1,_,_),⟨h2,hB2⟩,by dsimp only;omega,by(dsimp only;rw[hsn];exact AN)⟩
  ·dsimp only[Gy,Gz,List.cons_append,List.nil_append]
   have htk:List.take (TL.length+1) (z9::TL)=z9::TL:=by simp
   rw[By]at hTl;have hb64:TL.length+1<64:=by omega
   refine AR FO (Ae e1 kN) hmk AB AB AB AB AB ?_;refine Rr (d':=dy) rfl rfl rfl rfl rfl rfl hLk rfl ?_;refine BA ?_;refine AR FO (BG n0 wi htk) cF cDv cG AB AB AB ?_;exact⟨(i+1,_,_),⟨h2,hB2⟩,by dsimp only;omega,by(dsimp only;rw[hsn,R1];exact AN)⟩
 have e1:=Cs h2;have wi:=Cz (i:=i) (by omega);obtain⟨x,hxi⟩:=CV h2;obtain⟨x1,x2,x3⟩:=hx x (A8 hxi);have hm:(l.map AE.D)[i]?=some (.agg [str (sb x.grain),i64 x.mass,.sl false 2 (x.shs.map A0.D)]):=by rw[BT,hxi];rfl
 have es:(((x.shs.map A0.D).length:Nat):Int)=(x.shs.length:Int):=by rw[Al]
 refine AR FO (BG e1 es kN) hm AB AB AB AB AB ?_;obtain⟨ga,hga⟩:∃g,n1+1+1+1=g:=⟨_,rfl⟩
 refine HJ (α:=Nat×Dy×Obj×Nat) (λp=>⟨[(0,Au b l),(2,.optr 0 0 3 0 0),(4,i64 (Ak l)),(6,.prim (.map (some it))),(8,.optr 702 (n1+1+1+1) 3 0 0),(29,Au b l),(30,i64 (l.length:Int)),(31,i64 (i:Int)),(36,.sl false 2 (x.shs.map A0.D)),(37,i64 (x.shs.length:Int)),(38,i64 (p.1:Int))],[⟨702,n1+1+1+1,28,3,[.agg [str (sb x.grain),i64 x.mass,.sl false 2 (x.shs.map A0.D)]]⟩,⟨0,0,28,3,[.agg [.prim (.string ⟨#[]⟩),.prim (.int .i64 0),.prim (.slice none 0 0)]]⟩],p.2.2.2⟩) (λp=>x.shs.length-p.1)
  (λp F=>p.1<=x.shs.length/\EI C0 F0 F [⟨400,11,p.2.2.1⟩]/\F.r0 400 11=some it/\J3 F p.2.2.1 p.2.1/\MQ (320*i+5*p.1) (J7 x p.1 (DW (l.take i))) p.2.1) (0,m,o,_) ⟨Bg _,hO,hr0,hM,hQ⟩ AN ?_
 clear hO hr0 hM hQ;rintro⟨j,m2,o2,n2⟩ F ⟨hj,hO,hr0,hM,hQ⟩;dsimp only at hj hO hr0 hM hQ⊢;rw[hga];rcases BL j x.shs.length with h3|h3
 rotate_left
 ·have e2:=Cx h3
  have:j=x.shs.length:=by omega
  subst this;rw[<-U5 l i hxi]at hQ;refine AR FO (Ae e2 wi) AB AB AB AB AB AB ?_;exact⟨(i+1,m2,o2,_),⟨h2,hO,hr0,hM,hQ.mono (by dsimp only;omega)⟩,by dsimp only;omega,AN⟩
 have e2:=Cs h3;have wj:=Cz (i:=j) (by omega);obtain⟨s,hsj⟩:=CV h3;obtain⟨s1,s2,s3⟩:=x3 s (A8 hsj);have hms:(x.shs.map A0.D)[j]?=some (.agg [str (sb s.lot),str (sb s.part)]):=by rw[BT,hsj];rfl
 have hsn:=U7 x j (DW (l.take i)) hsj;have fP:FR (Bc s.part) (Ij s.part) 3:=⟨(Wc s3).is,Yk s3 s2⟩
 have fM:FR ((x.mass:Int):Rat) ⟨AY x.mass,1⟩ 1:=Sq (by unfold Sm at x2;omega);have c1:=S4 (by omega) s3;have c2:=Tx x.mass x2;have c3:=iB fP fM (by decide);have fZ:FR (Bc s.part*(x.mass:Rat)) (K7 (Ij s.part) ⟨AY x.mass,1⟩) 4:=dj fP fM;obtain⟨z,hz⟩:∃z,K7 (Ij s.part) ⟨AY x.mass,1⟩=z:=⟨_,rfl⟩
 rw[hz]at c3 fZ;obtain⟨d1,hd1⟩:∃d,(Ij s.part).D=d:=⟨_,rfl⟩
 obtain⟨d2,hd2⟩:∃d,(⟨AY x.mass,1⟩:GF).D=d:=⟨_,rfl⟩
 have pd1:AA d1:=by rw[<-hd1];exact AJ
 have pd2:AA d2:=by rw[<-hd2];exact AJ
 rw[hd1]at c1 c3;rw[hd2]at c2 c3;refine sZ 900 ?_;refine AF e2 ?_;refine AC.seq ?_;refine AK ?_;refine Ag ?_;refine AC.seq ?_;refine AC.block ?_;refine sZ 1000 ?_;refine CN kT hms ?_;refine AF kB ?_;refine AC.seq ?_;refine B0 1100 [0,1,2,3,4,5,6,7] [8] ?_;refine AF kB ?_;refine BN.same _ (c1) AJ ?_;refine Bb ?_;refine AF kB ?_;refine BN.same _ (c2) AJ ?_;refine Bb ?_;refine AF kB ?_;refine BN.same _ (c3) AJ ?_;refine Bb ?_;refine AF kB ?_;refine AC.seq ?_;refine AC.seq ?_;refine RA (by kernel_rfl) ?_;change Cg _ _ _ _ _ ([0,1,2]++(3::([4,5,6,7,8,9]++[]))) _ _;refine MS w1 1200 [0,1,2] _ ?_;refine AF kB ?_;refine Cg.look (xo:=⟨400,11,o2⟩) (l:=m2) w1 rfl rfl rfl rfl rfl rfl hO CF hr0 hM ?_;rcases hQ.look s.lot with⟨q1,q2⟩|⟨r,y,q1,q2,q3⟩
 ·rw[oU q1]
  refine MS w1 1200 [4,5,6,7,8,9] [] ?_;refine AF kB ?_;refine Cg.nil ?_;refine BA ?_;refine sZ 1300 ?_;refine AF kB ?_;refine AK ?_;refine Ag ?_;refine RA (by kernel_rfl) ?_;change Cg _ _ _ _ _ ([0,1,2,3]++(4::[])) _ _;refine MS w1 1500 [0,1,2,3] _ ?_;refine AF kB ?_;refine Cg.put (l:=m2) w1 rfl rfl rfl rfl rfl rfl hO hr0 hM (λF3 o3 hto3 hO3 hr3 hM3=>Cg.nil ?_);refine BA ?_;have hQ2:MQ (320*i+5*(j+1)) (J7 x (j+1) (DW (l.take i))) (Hj (sb s.lot) z.D m2):=by
   rw[hsn];unfold PA;rw[q2];exact MQ.set s.lot ⟨fZ.is,fZ.rk.mono (by omega)⟩ (hQ.mono (by omega))
  refine AR FO wj AB AB AB AB AB AB ?_;exact⟨(j+1,Hj (sb s.lot) z.D m2,o3,_),⟨h3,hO3,hr3,hM3,hQ2⟩,by dsimp only;omega,AN⟩
 ·rw[oV q1]
  refine MS w1 1200 [4,5,6,7,8,9] [] ?_;refine AF kB ?_;refine Cg.nil ?_;have c4:=Sy fZ q3 (by omega);have fA:=V6 fZ q3;obtain⟨z2,hz2⟩:∃z2,JJ z y=z2:=⟨_,rfl⟩
  rw[hz2]at c4 fA;refine BA ?_;refine sZ 1300 ?_;refine AF kB ?_;refine AK ?_;refine An 1400 ?_;refine AF kB ?_;refine cI c4 ?_;refine AF kB ?_;refine RA (by kernel_rfl) ?_;change Cg _ _ _ _ _ ([0,1,2,3]++(4::[])) _ _;refine MS w1 1500 [0,1,2,3] _ ?_;refine AF kB ?_;refine Cg.put (l:=m2) w1 rfl rfl rfl rfl rfl rfl hO hr0 hM (λF3 o3 hto3 hO3 hr3 hM3=>Cg.nil ?_);refine BA ?_;have hQ2:MQ (320*i+5*(j+1)) (J7 x (j+1) (DW (l.take i))) (Hj (sb s.lot) z2.D m2):=by
   rw[hsn];unfold PA;rw[q2];exact MQ.set s.lot ⟨fA.is,fA.rk.mono (by omega)⟩ (hQ.mono (by omega))
  refine AR FO wj AB AB AB AB AB AB ?_;exact⟨(j+1,Hj (sb s.lot) z2.D m2,o3,_),⟨h3,hO3,hr3,hM3,hQ2⟩,by dsimp only;omega,AN⟩
abbrev rt:Dr:=[(1,[0,1,2,3,4,5],[6,7])]
open Go.Proofs Go.RowKit Go.Sort
set_option maxRecDepth 20000
set_option maxHeartbeats 4000000
theorem e3M {C:BH}{f sz:Nat}{ds:List D}{Φ:D->Prop}(h1:Ac C f (CS::ds) Φ)(h2:Ac C f (.sl true sz []::ds) Φ):Ac C f (.sl false sz []::ds) Φ:=by
 refine⟨h1.1,λX w vs a b c e g=>?_⟩;have g0:=g 0 _ rfl;generalize hv:vs.getD 0 undef=v at g0;cases g0 with
 |nil=>
  refine h1.2 X w vs a b c e λi d hd=>?_
  match i with
  | 0=>cases hd;rw[hv];exact .prim _
  |i+1=>exact g (i+1) d hd
 |emp a0=>
  refine h2.2 X w vs a b c e λi d hd=>?_
  match i with
  | 0=>cases hd;rw[hv];exact .emp a0
  |i+1=>exact g (i+1) d hd
 |sl f hl hc hO hb hz hcell ho h=>
  refine h2.2 X w vs a b c e λi d hd=>?_
  match i with
  | 0=>cases hd;rw[hv];exact .sl f hl hc hO hb hz hcell ho h
  |i+1=>exact g (i+1) d hd
theorem H6 {H Hf:Hp}{k g T sz:Nat}{l:List D}(he:Hp.get H k=some ⟨k,g,T,sz,l⟩)(hf:Hp.get Hf k=none:=by rfl):Fz H Hf (.osl k g sz 0 l.length) (.sl false sz l):=by
 refine .osl (e:=⟨k,g,T,sz,l⟩) he hf rfl rfl (by simp) (by simp) (λj d d' h1 h2=>?_) λj d d' q c c' h1 h2 h3 h4=>?_
 ·rw[BX]at h1;rw[h1]at h2;cases h2;rfl
 ·rw[BX]at h1;rw[h1]at h2;cases h2;rw[h3]at h4;cases h4;exact Fz.refl _
theorem tD (s:List A0)(hl:s.length<=1000000):AI C0 127 [Dq false s] (Dq false s):=by
 unfold Dq;rcases s with _|⟨z,s⟩
 ·refine e3M ?_ ?_
  ·refine Ac.walk w1 Wn rfl λF=>?_
   refine AR Aq kB AB AB AB AB AB AB ?_;exact⟨_,.nil 2,AA.out,rfl⟩
  ·refine Ac.walk w1 Wn rfl λF=>?_
   refine AR Aq kB AB AB AB AB AB AB ?_;exact⟨_,.osl (e:=⟨302,5,32,2,[]⟩) rfl rfl rfl rfl (Am _) rfl (λj d d' h=>by simp at h) (λj d d' q c c' h=>by simp at h),AA.out,rfl⟩
 ·refine Ac.walk w1 Wn rfl λF=>?_
  obtain⟨T,hT⟩:∃T,List.map A0.D (z::s)=T:=⟨_,rfl⟩
  have pT:AA (.sl false 2 T):=by rw[<-hT];exact AJ
  have hne:T≠[]:=by rw[<-hT];simp
  have hlT:T.length<=1000000:=by rw[<-hT,Al];exact hl
  rw[hT];refine AR Aq hne AB AB AB AB AB AB ?_;exact⟨_,by rw[BX];exact H6 rfl,pT.out,rfl⟩
theorem XK (x:AE)(m:Int)(hl:x.shs.length<=1000000):AI C0 79 [x.D,i64 m] ((⟨x.grain,m,x.shs⟩:AE).D):=by
 refine Ac.walk w1 d9D rfl λF=>?_
 have cC:=tD x.shs hl;unfold AE.D;dsimp only;unfold Dq at cC⊢;obtain⟨SD,hSD⟩:∃d,x.shs.map A0.D=d:=⟨_,rfl⟩
 have pS:AA (.sl false 2 SD):=by rw[<-hSD];exact AJ
 rw[hSD]at cC⊢;refine AR Aq kB cC AB AB AB AB AB ?_;exact AM rfl AA.out
theorem r5 (b:Bool)(l:List AE)(hl:l.length<=1000000)(h0:l≠[])(H:Hp)(n:Nat):C4 C0 42 [Au b l] H n
  (λd H' n'=>∃g,d=.osl 302 g 3 0 l.length/\H'=⟨302,g,28,3,l.map AE.D⟩::H/\n'=n+7):=by
 refine C4.walk w1 kA rfl λF=>?_
 unfold Au;obtain⟨T,hT⟩:∃T,l.map AE.D=T:=⟨_,rfl⟩
 have pT:AA (.sl b 3 T):=by rw[<-hT];exact AJ
 have hne:T≠[]:=by rw[<-hT];simpa using h0
 have hlT:T.length<=1000000:=by rw[<-hT,Al];exact hl
 rw[hT,<-Al (f:=AE.D),hT];cases b
 all_goals
  refine sZ 0 ?_;refine AF kB ?_;refine AC.seq ?_;refine sZ 100 ?_;refine AF kB ?_;refine AK ?_;refine Ag ?_;refine sZ 300 ?_;refine AF kB ?_;refine AX ?_;exact⟨_,by rw[BX],rfl,rfl⟩
theorem zN (b:Bool)(x y:AE)(l:List AE):AI C0 177 [x.D,  .pptr (.sl b 3 ((y::l).map AE.D))] (Av (!BU (sb x.grain) (sb y.grain))):=by
 refine Ac.walk w1 yC rfl λF=>?_
 have hm:((y::l).map AE.D)[0]?=some (.agg [str (sb y.grain),i64 y.mass,.sl false 2 (y.shs.map A0.D)]):=rfl;obtain⟨T,hT⟩:∃T,(y::l).map AE.D=T:=⟨_,rfl⟩
 have pT:AA (.sl b 3 T):=by rw[<-hT];exact AJ
 obtain⟨S,hS⟩:∃S,x.shs.map A0.D=S:=⟨_,rfl⟩
 have pS:AA (.sl false 2 S):=by rw[<-hS];exact AJ
 rw[hT]at hm⊢;unfold AE.D Dq;rw[hS];refine AR rt kB hm AB AB AB AB AB ?_;exact AM rfl AA.out
theorem zR (b:Bool)(l:List AE)(c:D)[pc:AA c](p:AE->Bool)(hl:l.length<=1000000)(hc:∀x∈l,AI C0 177 [x.D,c] (Av (p x))):AI C0 213 [Au b l,.clo (.func 177) [] [c]] (i64 (MF p l)):=by
 refine Ac.walk w1 xS rfl λF=>?_
 have el:(((l.map AE.D).length:Nat):Int)=(l.length:Int):=by rw[Al]
 refine AR Aq el AB AB AB AB AB AB ?_;refine AC.loop (α:=Nat×Nat) (λp=>⟨[(0,Au b l),(1,.clo (.func 177) [] [c]),(7,i64 l.length),(8,i64 (p.1:Int))],[],p.2⟩) (λp=>l.length-p.1) (λq=>q.1<=l.length/\∀(j:Nat) (x:AE),j<q.1->l[j]?=some x->p x=false) (0,_) ⟨Bg _,λj x hj=>Ah hj (HR j)⟩ AN ?_;rintro⟨i,n⟩ F ⟨hi,ha⟩;dsimp only at hi ha⊢;rcases BL i l.length with h2|h2
 rotate_left
 ·have e1:=Cx h2
  have:i=l.length:=by omega
  subst this;refine AR Aq e1 AB AB AB AB AB AB ?_;exact AM (by rw[aC ha]) AA.out
 have e1:=Cs h2;have wi:=Cz (i:=i) (by omega);obtain⟨x,hx⟩:=CV h2;have hm:(l.map AE.D)[i]?=some (.agg [str (sb x.grain),i64 x.mass,.sl false 2 (x.shs.map A0.D)]):=by rw[BT,hx];rfl
 have cn:=hc x (A8 hx);unfold AE.D at cn;cases hb:p x
 ·rw[hb]at cn
  refine AR Aq (BG e1 wi kN) hm cn AB AB AB AB ?_;refine⟨(i+1,_),⟨h2,λj z hj hjz=>?_⟩,by dsimp only;omega,AN⟩;rcases BL j i with h|h
  ·exact ha j z h hjz
  ·have:j=i:=by dsimp only at hj;omega
   subst this;rw[hx]at hjz;cases hjz;exact hb
 ·rw[hb]at cn
  refine AR Aq (BG e1 wi kN) hm cn AB AB AB AB ?_;exact AM (by rw[dJ hx hb ha]) AA.out
theorem zP (b:Bool)(l:List AE)(c:D)[pc:AA c](p:AE->Bool)(hl:l.length<=1000000)(hc:∀x∈l,AI C0 177 [x.D,c] (Av (p x))):AI C0 176 [Au b l,.clo (.func 177) [] [c]] (Av (l.any p)):=by
 refine Ac.walk w1 yB rfl λF=>?_
 have c1:=zR b l c p hl hc;have e1:=dK p l;refine AR Aq e1 c1 AB AB AB AB AB ?_;exact AM rfl AA.out
theorem pi (b:Bool)(l:List AE)(hl:l.length<=1000000):AI C0 124 [Au b l] (i64 (if Eb l then 0 else 16:Nat)):=by
 refine Ac.walk w1 vr rfl λF=>?_
 have cH:AI C0 176 [Au b l,.clo (.func 177) [] [.pptr (Au b l)]] (Av (!Eb l)):=by
  have:=zP b l (.pptr (Au b l)) (λx=>!BU (sb x.grain) (sb (CU l 0).grain)) hl λx hx=>by
   rcases l with _|⟨y,l⟩
   ·cases hx
   ·exact zN b x y l
  have he:(l.any λx=>!BU (sb x.grain) (sb (CU l 0).grain)) = !Eb l:=by
   unfold Eb;rw[List.not_all_eq_any_not]
  rwa [he]at this
 have cW:=JG (!Eb l) 16;refine AR Aq kB cH cW AB AB AB AB ?_;refine BI.own _ (Q7 cH rfl (λi a d h1 h2=>by
  match i with
  | 0=>cases h1;cases h2;exact .refl _ _
  | 1=>cases h1;cases h2;exact .clo1 (.ptr rfl rfl rfl rfl)
  |n+2=>cases h1) AJ (.prim _)) ?_
 rintro d H' n' ⟨rfl,rfl,rfl⟩;refine AR Aq kB cW AB AB AB AB AB ?_;exact AM (by cases Eb l<;>rfl) AA.out
theorem IC {l:List AE}(h:CR l=0):l.length<=64/\(∀x∈l,Bw x=0)/\Ak l<=999999999:=by
 unfold CR at h;split at h
 ·cases h
 ·split at h
  ·rename_i h3;exact Ah h h3
  ·split at h
   ·cases h
   ·refine⟨by omega,λx hx=>?_,by omega⟩
    obtain⟨j,hj⟩:=MU.1 hx
    have:=Pt (f:=λi=>Bw (CU l i)) (n:=l.length) (by omega) j (BR.1 hj).1
    rwa [FS hj]at this
def kQ (l:List AE):Nat:=if CR l≠0 then CR l else jX (DW l)
def kR (l:List AE):Bf:=if CR l≠0 then[]else jY (DW l)
abbrev WO:Dr:=[(6,[0,1,2,3,4,5,6,7,8,9,10,11,12,13,14,15,16,17,18,19,20,21],[22,23])]
open Go.Proofs Go.RowKit
set_option maxRecDepth 20000
set_option maxHeartbeats 4000000
theorem aR (b1 b2:Bool)(S:List A0)(hl:S.length<=1000000):AI C0 14 [Dq b1 S,Dq b2 S] (Av true):=by
 refine Ac.walk w1 j9 rfl λF=>?_
 have el:(((S.map A0.D).length:Nat):Int)=(S.length:Int):=by rw[Al]
 have hne:((S.length:Int) != (S.length:Int))=false:=bne_self_eq_false _;refine AR WO (Ae el hne) AB AB AB AB AB AB ?_;refine AC.loop (α:=Nat×Nat) (λp=>⟨[(0,Dq b1 S),(1,Dq b2 S),(5,i64 (p.1:Int))],[],p.2⟩) (λp=>S.length-p.1) (λq=>q.1<=S.length) (0,_) (Bg _) AN ?_;rintro⟨i,n⟩ F hi;dsimp only at hi⊢;rcases BL i S.length with h2|h2
 rotate_left
 ·have e1:=Cx h2
  refine AR WO (Ae el e1) AB AB AB AB AB AB ?_;exact AM rfl AA.out
 have e1:=Cs h2;have wi:=Cz (i:=i) (by omega);obtain⟨x,hx⟩:=CV h2;have hm:(S.map A0.D)[i]?=some (.agg [str (sb x.lot),str (sb x.part)]):=by rw[BT,hx];rfl
 have s1:=ZS (sb x.lot);have s2:=ZS (sb x.part);refine AR WO (D7 el e1 wi s1 s2 kN (Ae kT kF)) hm AB AB AB AB AB ?_;exact⟨(i+1,_),h2,by dsimp only;omega,AN⟩
theorem Dw.clo2 {H:Hp}{fn:Fn}{c c' x x':D}(h:Dw H c c')(k:Dw H x x'):Dw H (.clo fn [] [c,x]) (.clo fn [] [c',x']):=λC F ρ w m hO hN v hv=>by
 cases hv with
 |clo hf hc h1 h2=>
  refine .clo hf (by simpa using hc) (λi d hd=>by simp at hd) λi d hd=>?_
  match i with
  | 0=>
   simp at hd;subst hd;exact h C F ρ w m hO hN _ (h2 0 _ rfl)
  | 1=>
   simp at hd;subst hd;exact k C F ρ w m hO hN _ (h2 1 _ rfl)
  |i+2=>simp at hd
theorem bj (b bk:Bool)(T:List D)[pT:AA (.sl b 3 T)]:AI C0 78 [.sl b 3 T,Av bk] (.clo (.func 126) [] [.pptr (.sl b 3 T),.pptr (Av bk)]):=by
 refine mI w1 d9C rfl λF=>?_
 have hp:CI (.clo (.func 126) [] [.pptr (.sl b 3 T),.pptr (Av bk)]):=(AJ:AA (.clo (.func 126) [] [.pptr (.sl b 3 T),.pptr (Av bk)])).out;refine fR 0 ?_;refine fR 100 ?_;refine AX ?_;exact⟨_,.clo2 (.ptr rfl rfl rfl rfl) (.ptr rfl rfl rfl rfl),hp,rfl⟩
theorem kf {E:FT}{l:Nat}{R:LR}(hE:FT.ok E)(b bk:Bool)(T:List D)[pT:AA (.sl b 3 T)](hT:∀x∈T,∃a c d,x=.agg [a,c,d])(hl:T.length<=1000000)
  {σ:Type} (S:Nat->σ->Hp) (P:Nat->σ->Prop) (c:Code) (Z:Hp->Prop) (a0:σ) (h0:P 0 a0) (n0:Nat)
  (hY:∀k a x n,P k a->k<T.length->T[if bk then T.length-1-k else k]?=some x->QO C0 E l R [x] (S k a) n (λj H' _=>(j=none/\∃a',P (k+1) a'/\C2 H' (S (k+1) a') H' (S (k+1) a'))\/(j=some c/\Z H'))):
  NC C0 E 126 [.clo (.yield l) [] [],.pptr (.sl b 3 T),.pptr (Av bk)] l R (S 0 a0) n0 (λj _ H' _=>(j=none/\∃a,P T.length a/\H'=S T.length a)\/(j=some c/\Z H')):=by
 refine NC.walk w1 hE vw rfl λB F hR=>?_
 obtain⟨N,hN⟩:∃N,T.length=N:=⟨_,rfl⟩
 rw[hN]at hY hl⊢;have el:((T.length:Nat):Int)=(N:Int):=by rw[hN]
 refine sZ 0 ?_;refine AF el ?_;refine AC.block ?_;refine HJ (α:=Nat×σ×Nat) (λp=>⟨[(0,.clo (.yield l) [] []),(1,.pptr (.sl b 3 T)),(2,.pptr (Av bk)),(6,i64 (N:Int)),(7,i64 (p.1:Int))],S p.1 p.2.1,p.2.2⟩) (λp=>N-p.1)
  (λp F=>J4 C0 E B F l R/\p.1<=N/\P p.1 p.2.1) (0,a0,_) ⟨hR,Bg _,h0⟩ AN ?_
 clear hR;rintro⟨i,a,m⟩ F ⟨hR,h1,hP⟩;dsimp only at h1 hR hP⊢;refine sR 100 ?_;refine AC.seq ?_;refine AK ?_
 (refine Bn (λh8=>?_) (λh8=>?_))<;>(try simp only[BZ,Bl]at h8)<;>(try simp only[h8])
 ·have hi:i<N:=by
   have:=DQ h8
   omega
  have a3:IntKind.i64.wrap ((i:Int)+1)=((i+1:Nat):Int):=wI;have a4:IntKind.i64.wrap ((N:Int)-1)=((N-1:Nat):Int):=by rw[wI];omega
  have a5:IntKind.i64.wrap (((N-1:Nat):Int)-(i:Int))=((N-1-i:Nat):Int):=by rw[wI];omega
  have hq:(if bk then N-1-i else i)<T.length:=by rw[hN];split<;>omega
  obtain⟨x,hx⟩:∃x,T[if bk then N-1-i else i]?=some x:=⟨_,B4 hq⟩
  have hy:=λn=>hY i a x n hP hi hx
  obtain⟨x1,x2,x3,rfl⟩:=hT x (A8 hx);refine Ag ?_;refine AC.seq ?_;refine AC.block ?_;refine sR 200 ?_;refine AC.seq ?_;refine sR 300 ?_;cases bk
  ·replace hx:T[i]?=some (.agg [x1,x2,x3]):=hx
   refine AK ?_;refine Ag ?_;refine AC.seq ?_;refine RC w1 500 [0,1,2,3,4] 5 [6] rfl (by kernel_rfl) hR ?_;refine Bb ?_;refine CN kT hx ?_;refine A7 ⟨rfl,trivial⟩ ?_;refine Bb ?_;refine⟨rfl,_,hy _,?_,?_⟩
   ·rintro H2 n2 (⟨_,a',hP',hf⟩|⟨h,-⟩)
    rotate_left
    ·cases h
    refine A7 (by exact Bu) ?_;refine BA ?_;refine AK ?_;refine Ag ?_;refine An 600 ?_;refine AW a3 ?_;exact⟨(i+1,a',_),⟨hR,hi,hP'⟩,(by dsimp only;omega),AN (a:=hf)⟩
   ·rintro c2 H2 n2 (⟨h,-⟩|⟨h,hZ⟩) F2 hst
    ·cases h
    cases h;refine Bb ?_;refine AK ?_;refine AC.weak ⟨[],H2,_⟩ AN ?_;refine AC.ret ?_;exact⟨_,hst,trivial,.inr ⟨rfl,hZ⟩⟩
  ·replace hx:T[N-1-i]?=some (.agg [x1,x2,x3]):=hx
   refine AK ?_;refine An 400 ?_;refine AW (BG a4 a5 el) ?_;refine AC.seq ?_;refine RC w1 500 [0,1,2,3,4] 5 [6] rfl (by kernel_rfl) hR ?_;refine Bb ?_;refine CN kT hx ?_;refine A7 ⟨rfl,trivial⟩ ?_;refine Bb ?_;refine⟨rfl,_,hy _,?_,?_⟩
   ·rintro H2 n2 (⟨_,a',hP',hf⟩|⟨h,-⟩)
    rotate_left
    ·cases h
    refine A7 (by exact Bu) ?_;refine BA ?_;refine AK ?_;refine Ag ?_;refine An 600 ?_;refine AW a3 ?_;exact⟨(i+1,a',_),⟨hR,hi,hP'⟩,(by dsimp only;omega),AN (a:=hf)⟩
   ·rintro c2 H2 n2 (⟨h,-⟩|⟨h,hZ⟩) F2 hst
    ·cases h
    cases h;refine Bb ?_;refine AK ?_;refine AC.weak ⟨[],H2,_⟩ AN ?_;refine AC.ret ?_;exact⟨_,hst,trivial,.inr ⟨rfl,hZ⟩⟩
 ·have hi:i=N:=by
   have:=Da h8
   omega
  subst hi;refine CM ?_;exact⟨none,hR.stat,trivial,.inl ⟨rfl,a,hP,rfl⟩⟩
def AE.w (x:AE)(m:Int):AE:=⟨x.grain,m,x.shs⟩
def EY:List AE->Int->List AE
 | [],_=>[]
 |x::r,m=>x.w (min x.mass m)::if m-x.mass<=0 then[]else EY r (m-x.mass)
def IW (g1:Nat)(p:List AE×Int×Nat):Hp:=EN 408 p.2.2 28 3 (p.1.map AE.D)++[⟨100,g1,22,1,[E2 408 p.2.2 3 (p.1.map AE.D)]⟩,⟨0,0,3,1,[i64 p.2.1]⟩]
theorem fS (g1:Nat)(m:Int)(g:Nat):IW g1 ([],m,g)=[⟨100,g1,22,1,[CS]⟩,⟨0,0,3,1,[i64 m]⟩]:=rfl
theorem Vm (g1:Nat)(z:AE)(o:List AE)(m:Int)(g:Nat):IW g1 (z::o,m,g)=[⟨408,g,28,3,z.D::o.map AE.D⟩,⟨100,g1,22,1,[.osl 408 g 3 0 ((o.map AE.D).length+1)]⟩,⟨0,0,3,1,[i64 m]⟩]:=rfl
def RX (L:List AE)(m:Int)(k:Nat)(p:List AE×Int×Nat):Prop:=p.1.length=k/\p.1++EY (L.drop k) p.2.1=EY L m/\0<=p.2.1/\p.2.1<=1000000000000
def Gn (bk:Bool)(l:List AE):List AE:=if bk then l.reverse else l
theorem zp (bk:Bool)(l:List AE){k:Nat}(hk:k<l.length):(l.map AE.D)[if bk then(l.map AE.D).length-1-k else k]?=((Gn bk l)[k]?).map AE.D:=by
 unfold Gn;rw[Al,BT];cases bk
 ·rfl
 ·simp only[if_true]
  rw[List.getElem?_reverse hk]
theorem uV (b bk:Bool)(l:List AE)(m:Int)(hl:l.length<=1000000)(hm:0<=m/\m<=1000000000000)(hx:∀x∈l,0<=x.mass/\x.mass<=1000000000)
  (ho:∀x∈l,∀m,AI C0 79 [x.D,i64 m] (x.w m).D) (R:D) [pR:AA R] (hN:AI C0 35 [Au false (EY (Gn bk l) m)] R):
  AI C0 82 [Au b l,i64 m,Av bk] R:=by
 refine Ac.walk w1 d9F rfl λF=>?_
 have cV:=bj b bk (l.map AE.D);have hT:∀x∈l.map AE.D,∃a c d,x=.agg [a,c,d]:=λx hx=>by
  obtain⟨y,-,rfl⟩:=CL.1 hx;exact⟨_,_,_,rfl⟩
 have hoL:∀k,k<l.length->∃x,x∈l/\(Gn bk l)[k]?=some x:=λk hk=>by
  unfold Gn;cases bk
  ·exact⟨_,List.getElem_mem hk,B4 hk⟩
  ·simp only[if_true]
   rw[List.getElem?_reverse hk]
   have:l.length-1-k<l.length:=by omega
   exact⟨_,List.getElem_mem this,B4 this⟩
 have hlen:(Gn bk l).length=l.length:=by unfold Gn;cases bk<;>simp
 obtain⟨L,hL⟩:∃L,Gn bk l=L:=⟨_,rfl⟩
 have hoA:=λk (hk:k<l.length)=>zp bk l hk
 rw[hL]at hoL hoA hN hlen;unfold Au;obtain⟨T,hTT⟩:∃T,l.map AE.D=T:=⟨_,rfl⟩
 have pT:AA (.sl b 3 T):=by rw[<-hTT];exact AJ
 have hTl:T.length=l.length:=by rw[<-hTT,Al]
 rw[hTT]at cV hT hoA⊢;refine sR 0 ?_;refine sR 100 ?_;refine AC.seq ?_;refine sR 200 ?_;refine cI cV ?_;refine AC.block ?_;have h0:RX L m 0 ([],m,0):=⟨rfl,rfl,hm⟩
 refine AC.rangeFunc (fi:=126) (first:=[]) (captured:=[.pptr (.sl b 3 T),.pptr (Av bk)]) (Ψ:=λj _ H' _=>(j=none/\∃a,RX L m T.length a/\H'=IW 2 a)\/(j=some (.exit 0)/\∃m' g,H'=IW 2 (EY L m,m',g))) rfl
  (λds H n Φ=>∃k a x,RX L m k a/\k<T.length/\T[if bk then T.length-1-k else k]?=some x/\ds=[x]/\H=IW 2 a/\Φ=λj H' _=>(j=none/\∃a',RX L m (k+1) a'/\C2 H' (IW 2 a') H' (IW 2 a'))\/(j=some (.exit 0)/\∃m' g,H'=IW 2 (EY L m,m',g))) ?_
  (λE l' R' hE hY=>kf hE b bk T hT (by omega) (λ_ a=>IW 2 a) (RX L m) (.exit 0) (λH'=>∃m' g,H'=IW 2 (EY L m,m',g)) ([],m,0) h0 _ λk a x n hP hk hx=>hY _ _ _ _ ⟨k,a,x,hP,hk,hx,rfl,rfl,rfl⟩) ?_
 ·rintro l' ds H n Φ ⟨k,⟨o,m',g⟩,x,⟨p1,p2,p3,p4⟩,hk,hxT,rfl,rfl,rfl⟩
  dsimp only at p1 p2 p3 p4;obtain⟨y,hy1,hy2⟩:=hoL k (by omega);rw[hoA k (by omega),hy2]at hxT;cases hxT;have hd:L.drop k=y::L.drop (k+1):=by
   have:=(BR.1 hy2)
   rw[E3 this.1,this.2]
  rw[hd]at p2;have hb:=hx y hy1;have cO:=ho y hy1 (min y.mass m');have p5:(o++[y.w (min y.mass m')])++(if m'-y.mass<=0 then[]else EY (L.drop (k+1)) (m'-y.mass))=EY L m:=by
   rw[<-p2,DO];rfl
  have a1:IntKind.i64.wrap (m'-y.mass)=m'-y.mass:=wI;refine⟨rfl,λF=>?_⟩;unfold AE.w AE.D at cO;unfold AE.D;dsimp only at cO⊢;obtain⟨SD,hSD⟩:∃d,Dq false y.shs=d:=⟨_,rfl⟩
  have pS:AA SD:=by rw[<-hSD];exact AJ
  rw[hSD]at cO⊢;rcases o with _|⟨z,o⟩
  ·rw[fS]
   dsimp only[Il];refine An 300 ?_;refine AF kB ?_;refine⟨trivial,trivial,λF'=>?_⟩;refine AC.block ?_;refine AC.seq ?_;refine B0 400 [0,1,2,3,4,5,6,7] [8,9] ?_;refine Bb ?_;refine BN.same _ (cO) AJ ?_;refine Bb ?_;refine sZ 500 ?_;refine AW a1 ?_;refine sR 600 ?_;refine AC.weak ⟨[(27,Av (decide (m'-y.mass<=0)))],[⟨408,n+1+1+10,28,3,[.agg [str (sb y.grain),i64 (min y.mass m'),SD]]⟩,⟨100,2,22,1,[.osl 408 (n+1+1+10) 3 0 1]⟩,⟨0,0,3,1,[i64 (m'-y.mass)]⟩],_⟩ AN ?_;rw[<-hSD]
   by_cases hz:m'-y.mass<=0
   ·rw[Ax hz]
    rw[AH hz,Dh]at p5;refine AK ?_;refine CM ?_;refine .inr ⟨rfl,m'-y.mass,n+1+1+10,?_⟩;rw[<-p5];rfl
   ·rw[Az hz]
    rw[AG hz]at p5;refine AK ?_;refine Ag ?_;exact .inl ⟨rfl,([y.w (min y.mass m')],m'-y.mass,n+1+1+10),⟨by rw[<-p1];rfl,p5,by dsimp only;omega,by dsimp only;omega⟩,Kf _⟩
  ·have wl:AA (.sl false 3 ((z::o).map AE.D)):=AJ
   have hol:o.length<=1000000:=by rw[By]at p1;omega
   rw[CX]at wl;rw[Vm];dsimp only[Il];obtain⟨O,hO⟩:∃O,o.map AE.D=O:=⟨_,rfl⟩
   obtain⟨zD,hzD⟩:∃O,z.D=O:=⟨_,rfl⟩
   have hOl:O.length=o.length:=by rw[<-hO,Al]
   rw[hO,hzD];refine An 300 ?_;refine AF kB ?_;refine⟨trivial,trivial,λF'=>?_⟩;refine AC.block ?_;refine AC.seq ?_;refine B0 400 [0,1,2,3,4,5,6,7] [8,9] ?_;refine Bb ?_;refine BN.same _ (cO) AJ ?_;refine Bb ?_;rw[show List.take (O.length+1) (zD::O)=zD::O from DH (l:=zD::O)];refine sZ 500 ?_;refine AW a1 ?_;refine sR 600 ?_;refine AC.weak ⟨[(27,Av (decide (m'-y.mass<=0)))],[⟨408,n+1+1+10,28,3,zD::O++[.agg [str (sb y.grain),i64 (min y.mass m'),SD]]⟩,⟨100,2,22,1,[.osl 408 (n+1+1+10) 3 0 (O.length+1+1)]⟩,⟨0,0,3,1,[i64 (m'-y.mass)]⟩],_⟩ AN ?_;have hs:∀g' mm,IW 2 (z::o++[y.w (min y.mass m')],mm,g')=[⟨408,g',28,3,zD::O++[.agg [str (sb y.grain),i64 (min y.mass m'),SD]]⟩,⟨100,2,22,1,[.osl 408 g' 3 0 (O.length+1+1)]⟩,⟨0,0,3,1,[i64 mm]⟩]:=λg' mm=>by
    rw[Gr,Vm,<-hO,<-hzD,<-hSD,Du];rw[Bz];rfl
   rw[<-hs]
   by_cases hz:m'-y.mass<=0
   ·rw[Ax hz]
    rw[AH hz,Dh]at p5;refine AK ?_;refine CM ?_;exact .inr ⟨rfl,m'-y.mass,n+1+1+10,by rw[<-p5];rfl⟩
   ·rw[Az hz]
    rw[AG hz]at p5;refine AK ?_;refine Ag ?_;exact .inl ⟨rfl,(z::o++[y.w (min y.mass m')],m'-y.mass,n+1+1+10),⟨by rw[<-p1];simp,p5,by dsimp only;omega,by dsimp only;omega⟩,Kf _⟩
 ·rintro j d H' n' F' hE
  have hE2:∃m' g,H'=IW 2 (EY L m,m',g)/\(j=none\/j=some (.exit 0)):=by
   rcases hE with⟨hj,⟨o,m',g⟩,⟨p1,p2,-,-⟩,rfl⟩|⟨hj,m',g,rfl⟩
   ·refine⟨m',g,?_,.inl hj⟩
    dsimp only at p2;rw[List.drop_eq_nil_of_le (by omega)]at p2;rw[show o=EY L m by rw[<-p2];exact(Dh o).symm]
   ·exact⟨m',g,rfl,.inr hj⟩
  obtain⟨m',g,rfl,hj⟩:=hE2;obtain⟨o,hO⟩:∃o,EY L m=o:=⟨_,rfl⟩
  rw[hO]at hN⊢;rcases o with _|⟨z,o⟩
  ·rw[fS]
   rcases hj with rfl|rfl
   all_goals
    change AC _ _ _ _ _ _ _;refine sR 700 ?_;refine BI.pure [.sl false 3 []] _ ⟨.nil 3,trivial⟩ hN AJ ?_;refine Bb ?_;refine AX ?_;exact AM rfl pR.out
  ·have hR:=H6 (H:=IW 2 (z::o,m',g)) (Hf:=[]) (k:=408) (g:=g) (T:=28) (sz:=3) (l:=(z::o).map AE.D) rfl
   have hle:((z::o).map AE.D).length=(o.map AE.D).length+1:=rfl;rw[hle]at hR;rw[Vm]at hR⊢;rcases hj with rfl|rfl
   all_goals
    change AC _ _ _ _ _ _ _;refine sR 700 ?_;refine BI.own _ (LB [] hN (.drop (.drop (.drop .nil))) ⟨hR,trivial⟩ AJ) ?_;rintro d H2 n2 ⟨rfl,rfl,rfl⟩;refine Bb ?_;refine AX ?_;exact AM rfl pR.out
abbrev M0:Dr:=[(6,[0,1,2,3,4,5,6,7],[8])]
open Go.Proofs Go.RowKit
set_option maxRecDepth 20000
set_option maxHeartbeats 4000000
def Ip (s t:A0):Bool:=BU (sb s.lot) (sb t.lot)&&BU (sb s.part) (sb t.part)
def Gm:List A0->List A0->Bool
 | [],[]=>true
 |s::S,t::T=>Ip s t&&Gm S T
 |_,_=>false
theorem bR:∀ {S T:List A0},S.length≠T.length->Gm S T=false
 | [],[],h=>Ah rfl h
 | [],_::_,_=>rfl
 |_::_,[],_=>rfl
 |s::S,t::T,h=>by
  show(Ip s t&&Gm S T)=false;rw[bR (S:=S) (T:=T) λq=>h (congrArg (· + 1) q),Bool.and_false]
theorem SR:∀ {S T:List A0} {i:Nat} {s t:A0},S[i]?=some s->T[i]?=some t->Ip s t=false->Gm S T=false
 |s::S,t::T,0,_,_,h1,h2,h=>by
  cases h1;cases h2;show(Ip s t&&Gm S T)=false;rw[h,JV]
 |s::S,t::T,i+1,_,_,h1,h2,h=>by
  show(Ip s t&&Gm S T)=false;rw[SR (S:=S) (T:=T) (i:=i) h1 h2 h,Bool.and_false]
theorem bP:∀ {S T:List A0},S.length=T.length->(∀(i:Nat) (s t:A0),S[i]?=some s->T[i]?=some t->Ip s t=true)->Gm S T=true
 | [],[],_,_=>rfl
 | [],_::_,h,_=>by cases h
 |_::_,[],h,_=>by cases h
 |s::S,t::T,h,k=>by
  show(Ip s t&&Gm S T)=true;rw[k 0 s t rfl rfl,bP (S:=S) (T:=T) (Nat.succ.inj h) λi s t h1 h2=>k (i+1) s t h1 h2];rfl
theorem qu (b1 b2:Bool)(S T:List A0)(hS:S.length<=1000000)(hT:T.length<=1000000):AI C0 128 [Dq b1 S,Dq b2 T] (Av (Gm S T)):=by
 refine Ac.walk w1 vz rfl λF=>?_
 have e1:(((S.map A0.D).length:Nat):Int)=(S.length:Int):=by rw[Al]
 have e2:(((T.map A0.D).length:Nat):Int)=(T.length:Int):=by rw[Al]
 by_cases hl:S.length=T.length
 rotate_left
 ·have hne:((S.length:Int) != (T.length:Int))=true:=bne_iff_ne.2 (by omega)
  rw[bR hl];refine AR M0 (BG e1 e2 hne) AB AB AB AB AB AB ?_;exact AM rfl AA.out
 have hne:((S.length:Int) != (T.length:Int))=false:=by rw[hl];exact bne_self_eq_false _
 refine AR M0 (BG e1 e2 hne) AB AB AB AB AB AB ?_;refine AC.loop (α:=Nat×Nat) (λp=>⟨[(0,Dq b1 S),(1,Dq b2 T),(12,i64 (S.length:Int)),(13,i64 (p.1:Int))],[],p.2⟩) (λp=>S.length-p.1) (λq=>q.1<=S.length/\∀(j:Nat) (s t:A0),j<q.1->S[j]?=some s->T[j]?=some t->Ip s t=true) (0,_) ⟨Bg _,λj _ _ h=>Ah h (HR j)⟩ AN ?_;rintro⟨i,n⟩ F ⟨hi,ha⟩;dsimp only at hi ha⊢;rcases BL i S.length with h2|h2
 rotate_left
 ·have k1:=Cx h2
  rw[bP hl λj s t h1 h3=>ha j s t (by have:=(BR.1 h1).1;omega) h1 h3];refine AR M0 k1 AB AB AB AB AB AB ?_;exact AM rfl AA.out
 have k1:=Cs h2;have wi:=Cz (i:=i) (by omega);obtain⟨x,hx⟩:=CV h2;obtain⟨y,hy⟩:=CV (show i<T.length by omega);have hm:(S.map A0.D)[i]?=some (.agg [str (sb x.lot),str (sb x.part)]):=by rw[BT,hx];rfl
 have hm2:(T.map A0.D)[i]?=some (.agg [str (sb y.lot),str (sb y.part)]):=by rw[BT,hy];rfl
 obtain⟨q1,c1⟩:∃q,BU (sb x.lot) (sb y.lot)=q:=⟨_,rfl⟩
 obtain⟨q2,c2⟩:∃q,BU (sb x.part) (sb y.part)=q:=⟨_,rfl⟩
 have hsh:Ip x y=(q1&&q2):=by unfold Ip;rw[c1,c2]
 have b1':(!(true&&(true&&true)))=false:=rfl;have b2':(!(true&&(false&&true)))=true:=rfl;have b3':(!(false&&(true&&true)))=true:=rfl;have b4':(!(false&&(false&&true)))=true:=rfl;cases q1<;>cases q2
 ·rw[SR hx hy hsh]
  refine AR M0 (D7 k1 wi c1 c2 b1' b2' (BG b3' b4' kN)) hm hm2 AB AB AB AB ?_;exact AM rfl AA.out
 ·rw[SR hx hy hsh]
  refine AR M0 (D7 k1 wi c1 c2 b1' b2' (BG b3' b4' kN)) hm hm2 AB AB AB AB ?_;exact AM rfl AA.out
 ·rw[SR hx hy hsh]
  refine AR M0 (D7 k1 wi c1 c2 b1' b2' (BG b3' b4' kN)) hm hm2 AB AB AB AB ?_;exact AM rfl AA.out
 ·refine AR M0 (D7 k1 wi c1 c2 b1' b2' (BG b3' b4' kN)) hm hm2 AB AB AB AB ?_
  refine⟨(i+1,_),⟨h2,λj s t hj h1 h3=>?_⟩,by dsimp only;omega,AN⟩;rcases BL j i with h|h
  ·exact ha j s t h h1 h3
  ·have:j=i:=by dsimp only at hj;omega
   subst this;rw[hx]at h1;rw[hy]at h3;cases h1;cases h3;exact hsh
def Gi (x y:AE):Bool:=BU (sb x.grain) (sb y.grain)&&Gm x.shs y.shs
theorem t6 (x y:AE)(hx:x.shs.length<=1000000)(hy:y.shs.length<=1000000):AI C0 80 [x.D,y.D] (Av (Gi x y)):=by
 refine Ac.walk w1 d9E rfl λF=>?_
 have c:=qu false false x.shs y.shs hx hy;obtain⟨q,hq⟩:∃q,BU (sb x.grain) (sb y.grain)=q:=⟨_,rfl⟩
 have hb:Gi x y=(q&&Gm x.shs y.shs):=by unfold Gi;rw[hq]
 rw[hb];unfold AE.D;unfold Dq at c⊢;obtain⟨S,hS⟩:∃S,x.shs.map A0.D=S:=⟨_,rfl⟩
 have pS:AA (.sl false 2 S):=by rw[<-hS];exact AJ
 obtain⟨T,hT⟩:∃S,y.shs.map A0.D=S:=⟨_,rfl⟩
 have pT:AA (.sl false 2 T):=by rw[<-hT];exact AJ
 rw[hS,hT]at c⊢;cases q
 ·refine AR Aq (BG hq kT kF) c AB AB AB AB AB ?_
  exact AM rfl AA.out
 ·refine AR Aq (BG hq kT kF) c AB AB AB AB AB ?_
  exact AM rfl AA.out
abbrev FA (l:List Int):List D:=l.map λx=>i64 x
def Qt (k g sz:Nat)(env:As):As->Prop
 | []=>True
 |(t,d)::r=>(d=env.get t\/(env.get t=CS/\d=.osl k g sz 0 0))/\Qt k g sz env r
theorem Qt.get {k g sz:Nat}{env:As}:∀ {env':As},Qt k g sz env env'->∀t,env'.get t=.any\/env'.get t=env.get t\/(env.get t=CS/\env'.get t=.osl k g sz 0 0)
 | [],_,t=>.inl rfl
 |(q,d)::r,h,t=>by
  rw[JQ]
  by_cases hk:q=t
  ·subst hk;rw[AH rfl];exact .inr h.1
  ·rw[AG hk];exact Qt.get h.2 t
theorem AC.ghost {C:BH}{B F:AZ}{rd:Option Nat}{c:Code}{s:St}{Q:Exit->AZ->St->Prop}(k T sz:Nat)(env':As)(he:Qt k s.n sz s.env env')(h:AC C B rd F c ⟨env',⟨k,s.n,T,sz,[]⟩::s.H,s.n+1⟩ Q):AC C B rd F c s Q:=⟨λhB hd ρ a w hs=>by
 obtain⟨m1,hO⟩:=hs.mem.ghost (k:=k) (n:=s.n) (T:=T) (sz:=sz) (hs.fresh k _ (Am _));refine h.out hB hd ρ a w ⟨m1,λk g hg=>hs.fresh k g (by dsimp only at hg;omega),λe he=>?_,λt=>?_,hs.nt,hs.dfr⟩
 ·rcases Aw.1 he with rfl|he
  ·exact IU _
  ·exact DP (hs.gen e he)
 ·have hr:=hs.env t
  dsimp only;rw[hO];rcases he.get t with h|h|⟨h1,h2⟩
  ·rw[h];exact .any _
  ·rw[h];exact hr
  ·rw[h2]
   rw[h1]at hr;generalize a.tmps.getD t undef=v at hr⊢;cases hr;exact .onil _ _ _⟩
def Nx (p:Nat×Int):D:=.agg [i64 (p.1:Int),i64 p.2]
instance  (p:Nat×Int):Ap (Nx p):=by unfold Nx;exact AJ
instance  (p:Nat×Int):AA (Nx p):=by unfold Nx;exact AJ
theorem kP {l:List Int}{i:Nat}(h:i<l.length):(FA l)[i]?=some (i64 (l.getD i 0)):=by
 rw[BT,FY,B4 h];rfl
abbrev P9:Dr:=[(8,[0,1,2,3,4,5,6,7,8],[9,10,11]),(9,[0,1,2,3,4,5,6,7],[8,9,10,11])]
open Go.Proofs Go.RowKit
set_option maxRecDepth 20000
set_option maxHeartbeats 4000000
def Cv (out:List AE)(x:AE):List AE:=match out.getLast? with
 |some y=>if Gi y x then out.dropLast++[y.w (y.mass+x.mass)]else out++[x]
 |none=>[x]
def BS (l:List AE):List AE:=l.foldl Cv []
theorem qP {R:List AE}{y x:AE}(h:R[R.length-1]?=some y):Cv R x=if Gi y x then R.dropLast++[y.w (y.mass+x.mass)]else R++[x]:=by
 unfold Cv;rw[List.getLast?_eq_getElem?,h]
theorem sG {R:List AE}{y z:AE}(h:R[R.length-1]?=some y):R.set (R.length-1) z=R.dropLast++[z]:=by
 have hl:=(BR.1 h).1;rw[List.set_eq_take_append_cons_drop,AH hl,List.dropLast_eq_take];rw[show R.length-1+1=R.length by omega,KH]
def T1 (i:Nat)(R:List AE):Prop:=R.length<=i/\∀y∈R,0<=y.mass/\y.mass<=(i:Int)*1000000000/\y.shs.length<=1000000
theorem pg {i:Nat}{R:List AE}{x:AE}(hJ:T1 i R)(hm:0<=x.mass/\x.mass<=1000000000/\x.shs.length<=1000000):T1 (i+1) (Cv R x):=by
 obtain⟨h2,h3⟩:=hJ;refine⟨?_,?_⟩
 ·unfold Cv
  split
  ·split
   ·rw[Bz,List.length_dropLast];simp;omega
   ·rw[Bz];simp;omega
  ·simp
 ·have hR:∀y∈R,0<=y.mass/\y.mass<=((i+1:Nat):Int)*1000000000/\y.shs.length<=1000000:=λy hy=>by
   obtain⟨a,b,c⟩:=h3 y hy;exact⟨a,by omega,c⟩
  have hxx:0<=x.mass/\x.mass<=((i+1:Nat):Int)*1000000000/\x.shs.length<=1000000:=⟨by omega,by omega,hm.2.2⟩
  intro z hz;unfold Cv at hz;split at hz
  ·rename_i y hy
   have hyR:=List.mem_of_getLast? hy;split at hz
   ·rcases Bs.1 hz with hz|hz
    ·exact hR z ((List.dropLast_sublist R).subset hz)
    ·obtain rfl:=DG.1 hz
     obtain⟨a,b,c⟩:=h3 y hyR;refine⟨?_,?_,c⟩
     ·show 0<=y.mass+x.mass;omega
     ·show y.mass+x.mass<=_;omega
   ·rcases Bs.1 hz with hz|hz
    ·exact hR z hz
    ·obtain rfl:=DG.1 hz;exact hxx
  ·obtain rfl:=DG.1 hz;exact hxx
def Db (l:List AE):List AE:=l.filter λx=>x.mass != 0
theorem tw {l:List AE}{i:Nat}{x:AE}(h:l[i]?=some x)(hx:x.mass≠0):Db (l.take (i+1))=Db (l.take i)++[x]:=by
 unfold Db;rw[FV,h,List.filter_append]
 have:(x.mass != 0)=true:=by unfold bne;rw[B8.2 hx];rfl
 rw[show(some x).toList=[x]from rfl,List.filter_cons,AH this];rfl
theorem tv {l:List AE}{i:Nat}{x:AE}(h:l[i]?=some x)(hx:x.mass=0):Db (l.take (i+1))=Db (l.take i):=by
 unfold Db;rw[FV,h,List.filter_append]
 have:¬(x.mass != 0)=true:=by rw[hx];decide
 rw[show(some x).toList=[x]from rfl,List.filter_cons,AG this];simp
theorem d6w {l:List AE}(h:∀x∈l,1<=x.mass):Db l=l:=List.filter_eq_self.2 λx hx=>by
 have:=h x hx
 unfold bne;rw[B8.2 (by omega)];rfl
theorem Vz (b:Bool)(l:List AE)(hl:l.length<=1000000)(hx:∀x∈l,0<=x.mass/\x.mass<=1000000000/\x.shs.length<=1000000):AI C0 35 [Au b l] (Au false (BS (Db l))):=by
 refine Ac.walk w1 d8X rfl λF=>?_
 have el:(((l.map AE.D).length:Nat):Int)=(l.length:Int):=by rw[Al]
 refine sR 0 ?_;refine sR 100 ?_;refine AC.seq ?_;refine sZ 200 ?_;refine AW el ?_;refine AC.ghost 606 28 3 [(3,.osl 606 _ 3 0 0),(7,Au b l),(8,i64 (l.length:Int)),(9,i64 ((0:Nat):Int))] ⟨.inr ⟨rfl,rfl⟩,.inl rfl,.inl rfl,.inl rfl,trivial⟩ ?_;refine AC.block ?_;refine AC.loop (α:=Nat×List AE×Nat×Nat) (λp=>⟨[(3,.osl 606 p.2.2.1 3 0 p.2.1.length),(7,Au b l),(8,i64 (l.length:Int)),(9,i64 (p.1:Int))],[⟨606,p.2.2.1,28,3,p.2.1.map AE.D⟩],p.2.2.2⟩) (λp=>l.length-p.1) (λq=>q.1<=l.length/\q.2.1=(Db (l.take q.1)).foldl Cv []/\T1 q.1 q.2.1) (0,[],_,_) ⟨Bg _,rfl,Am _,λy h=>by cases h⟩ AN ?_;rintro⟨i,R,g,n⟩ F ⟨hi,hJ⟩;dsimp only at hi hJ⊢;rcases BL i l.length with h2|h2
 rotate_left
 ·have k1:=Cx h2
  have:i=l.length:=by omega
  subst this;have hR:=hJ.1;rw[DH]at hR;have hf:=H6 (H:=[⟨606,g,28,3,R.map AE.D⟩]) (Hf:=[]) (k:=606) (g:=g) (T:=28) (sz:=3) (l:=R.map AE.D) rfl;rw[Al]at hf;refine AR P9 k1 AB AB AB AB AB AB ?_;exact⟨_,hf,AA.out,by rw[hR];rfl⟩
 have k1:=Cs h2;have wi:=Cz (i:=i) (by omega);obtain⟨x,hx'⟩:=CV h2;have hxm:=hx x (A8 hx');have hm:(l.map AE.D)[i]?=some (.agg [str (sb x.grain),i64 x.mass,.sl false 2 (x.shs.map A0.D)]):=by rw[BT,hx'];rfl
 have cO:=XK x x.mass hxm.2.2
 by_cases hz:x.mass=0
 ·have g0:(x.mass==0)=true:=by rw[hz];rfl
  refine AR P9 (Fd k1 g0 wi kN kT kF) hm AB AB AB AB AB ?_;exact⟨(i+1,R,g,n+1000),⟨h2,by dsimp only;rw[tv hx' hz];exact hJ.1,by dsimp only;have:=hJ.2.1;omega,λy hy=>by
   obtain⟨a,b,c⟩:=hJ.2.2 y hy;refine⟨a,?_,c⟩;dsimp only;omega⟩,by dsimp only;omega,AN⟩
 have hJ':Cv R x=(Db (l.take (i+1))).foldl Cv []/\T1 (i+1) (Cv R x):=⟨by rw[tw hx' hz,List.foldl_append,<-hJ.1];rfl,pg hJ.2 hxm⟩
 have g0:(x.mass==0)=false:=B8.2 hz;have hRl:(R.map AE.D).length=R.length:=Al ..;have hRb:=hJ.2.1;rcases EC R.length with hR0|hR0
 ·have hRn:R=[]:=FU hR0
  subst hRn;have g1:decide (((0:Nat):Int)>0)=false:=rfl;unfold AE.D at cO;unfold Dq at cO;obtain⟨S,hS⟩:∃S,x.shs.map A0.D=S:=⟨_,rfl⟩
  have pS:AA (.sl false 2 S):=by rw[<-hS];exact AJ
  rw[hS]at cO hm;rw[Ir,List.map_nil];refine AR P9 (D7 k1 g0 g1 wi kN kT kF) hm cO AB AB AB AB ?_;refine⟨(i+1,[x],n+1+1+1+1+1+1+1+1+1+1+1+1+12+1+1+1+1+1+1+1+1+1,n+1000),⟨h2,hJ'⟩,by dsimp only;omega,?_⟩;dsimp only;rw[show[x].map AE.D=[.agg [str (sb x.grain),i64 x.mass,.sl false 2 S]]from by rw[<-hS];rfl];exact AN
 have g1:decide ((R.length:Int)>0)=true:=BV;obtain⟨y,hy⟩:=CV (show R.length-1<R.length by omega);have hym:=hJ.2.2 y (A8 hy);have w2:IntKind.i64.wrap ((R.length:Int)-1)=((R.length-1:Nat):Int):=by rw[wI];omega
 have w3:IntKind.i64.wrap (y.mass+x.mass)=y.mass+x.mass:=wI;have hm2:(R.map AE.D)[R.length-1]?=some (.agg [str (sb y.grain),i64 y.mass,.sl false 2 (y.shs.map A0.D)]):=by rw[BT,hy];rfl
 have cK:=t6 y x hym.2.2 hxm.2.2;have hN:=qP (x:=x) hy;have hset:=sG (z:=y.w (y.mass+x.mass)) hy;unfold AE.D Dq at cO cK;obtain⟨S,hS⟩:∃S,x.shs.map A0.D=S:=⟨_,rfl⟩
 have pS:AA (.sl false 2 S):=by rw[<-hS];exact AJ
 obtain⟨SY,hSY⟩:∃S,y.shs.map A0.D=S:=⟨_,rfl⟩
 have pSY:AA (.sl false 2 SY):=by rw[<-hSY];exact AJ
 rw[hS]at cO hm cK;rw[hSY]at cK hm2;obtain⟨RD,hRD⟩:∃T,R.map AE.D=T:=⟨_,rfl⟩
 rw[hRD]at hm2 hRl⊢;have hr:0<=((R.length-1:Nat):Int)/\((R.length-1:Nat):Int)<(R.length:Int):=by omega
 obtain⟨q,hq⟩:∃q,Gi y x=q:=⟨_,rfl⟩
 rw[hq]at cK hN;cases q
 ·rw[hN,AG Bool.false_ne_true]at hJ'
  refine AR P9 (D7 k1 g0 g1 w2 wi kN (Bo BX hm2 kT kF)) hm cO cK AB AB AB ?_;refine⟨(i+1,R++[x],n+1+1+1+1+1+1+1+1+1+1+1+1+12+1+1+1+1+1+1+1+1+1,n+1000),⟨h2,hJ'⟩,by dsimp only;omega,?_⟩;dsimp only;rw[Bz,Du,hRD,Ci (show RD.length<=R.length by omega)];rw[show[x].map AE.D=[.agg [str (sb x.grain),i64 x.mass,.sl false 2 S]]from by rw[<-hS];rfl];exact AN
 ·rw[hN,AH rfl]at hJ'
  refine AR P9 (D7 k1 g0 g1 w2 w3 wi (Cw kN BX hm2 kT kF)) hm cO cK AB AB AB ?_;refine⟨(i+1,R.dropLast++[y.w (y.mass+x.mass)],g,n+1000),⟨h2,hJ'⟩,by dsimp only;omega,?_⟩;dsimp only;rw[<-hset,Dt,List.map_set,hRD];rw[show(y.w (y.mass+x.mass)).D=.agg [str (sb y.grain),i64 (y.mass+x.mass),.sl false 2 SY]from by rw[<-hSY];rfl];exact AN
theorem VG (b:Bool)(l:List AE)(hl:l.length<=1000000)(hx:∀x∈l,1<=x.mass/\x.mass<=1000000000/\x.shs.length<=1000000):AI C0 35 [Au b l] (Au false (BS l)):=by
 have h:=Vz b l hl λx h=>⟨by have:=(hx x h).1;omega,(hx x h).2⟩
 rw[d6w λx h=>(hx x h).1]at h;exact h
abbrev H5:Dr:=[(11,[0,1,2,3,4,5,6,7,8,9,10,11,12,13],[14,15])]
open Go.Proofs Go.RowKit
set_option maxRecDepth 20000
set_option maxHeartbeats 4000000
theorem fj {l:List A0}:∀i,i<=l.length->(∀j,j<i->chk (Dp l j).part=0)->rk (Fk l i) (601*i+1)
 | 0,_,_=>(fY 1 (Am _)).rk
 |i+1,hi,h=>(XC (fj i (by omega) λj hj=>h j (by omega)) (OV (h i (by omega)))).mono (by omega)
theorem vE {l:List A0}{i:Nat}(h:Fv l i=0):chk (Dp l i).part=0:=by
 unfold Fv at h;split at h
 ·cases h
 split at h
 ·cases h
 split at h
 ·exact h
 ·rename_i h1;exact Decidable.not_not.1 h1
theorem e2w (b:Bool)(l:List A0)(hl:l.length<=15\/64<l.length)(hl2:l.length<=9223372036854775807)(hf:∀s∈l,s.lot.length<=9223372036854775807/\s.part.length<=9223372036854775807):AI C0 22 [Dq b l] (i64 (G7 l:Nat)):=by
 refine Ac.walk w1 d8N rfl λF=>?_
 have el:(((l.map A0.D).length:Nat):Int)=(l.length:Int):=by rw[Al]
 have hC:G7 l=if l.length=0 then 2 else if 64<l.length then 5 else if DZ (Fv l) l.length≠0 then DZ (Fv l) l.length else if Fk l l.length=1 then 0 else 12:=rfl
 rcases Nat.decEq l.length 0 with h0|h0
 rotate_left
 ·rw[AH h0]at hC
  rw[hC];have q1:((l.length:Int)==0)=true:=by rw[h0];rfl
  refine AR H5 (Ae el q1) AB AB AB AB AB AB ?_;exact AM rfl AA.out
 rw[AG h0]at hC;have q1:((l.length:Int)==0)=false:=B8.2 (by omega)
 by_cases h64:64<l.length
 ·rw[AH h64]at hC
  rw[hC];have q2:decide ((l.length:Int)>64)=true:=BV;refine AR H5 (BG el q1 q2) AB AB AB AB AB AB ?_;exact AM rfl AA.out
 rw[AG h64]at hC;have q2:decide ((l.length:Int)>64)=false:=BY;have h15:l.length<=15:=by omega
 refine AR H5 (BG el q1 q2) AB AB AB AB AB AB ?_;refine AC.loop (α:=Nat×Nat) (λp=>⟨[(0,Dq b l),(3,rR (Fk l p.1)),(4,i64 (p.1:Int))],[],p.2⟩) (λp=>l.length-p.1) (λp=>p.1<=l.length/\∀j,j<p.1->Fv l j=0) (0,_)
  ⟨Bg _,λj h=>Ah h (HR j)⟩ (by(dsimp only;rw[show rR (Fk l 0)=str ⟨#[48]⟩from us];exact AN)) ?_
 rintro⟨i,m⟩ F ⟨hi,hz⟩;dsimp only at hi hz⊢;have hSk:=fj (l:=l) i hi λj hj=>vE (hz j hj)
 rcases BL i l.length with h2|h2
 rotate_left
 ·have e1:=Cx h2
  have:i=l.length:=by omega
  subst this;rw[AG (λh=>h (IZ hz))]at hC;have e2:=oG (Fk l l.length);obtain⟨q,hq⟩:∃q,decide (Fk l l.length=1)=q:=⟨_,rfl⟩
  rw[hq]at e2;unfold rR;cases q
  ·rw[AG (Da hq)]at hC
   rw[hC];refine AR H5 (BG e1 el e2) AB AB AB AB AB AB ?_;exact AM rfl AA.out
  ·rw[AH (DQ hq)]at hC
   rw[hC];refine AR H5 (BG e1 el e2) AB AB AB AB AB AB ?_;exact AM rfl AA.out
 have e1:=Cs h2;have wi:=Cz (i:=i) (by omega);obtain⟨s,hs⟩:=CV h2;have hm:(l.map A0.D)[i]?=some (.agg [str (sb s.lot),str (sb s.part)]):=by rw[BT,hs];rfl
 obtain⟨f1,f2⟩:=hf s (A8 hs);have hE:Fv l i=if Dk s.lot=false then 8 else if 0<i/\Ly s.lot (Dp l (i-1)).lot=true then 11 else if chk s.part≠0 then chk s.part else if Ga (Bc s.part)<=0 then 12 else 0:=by unfold Fv;rw[Kp hs]
 have hbad:∀e:Nat,e≠0->Fv l i=e->G7 l=e:=λe he h=>by
  have:=OM hz h2 (by rw[h];exact he)
  rw[hC,this,h,AH he]
 have cN:=ib s.lot f1;obtain⟨N,hN⟩:∃q,Dk s.lot=q:=⟨_,rfl⟩
 rw[hN]at cN hE;cases N
 ·rw[AH rfl]at hE
  rw[hbad 8 (by decide) hE];refine AR H5 (BG e1 el kN) hm cN AB AB AB AB ?_;exact AM rfl AA.out
 rw[AG (by decide)]at hE;have cC:=eW s.part f2;rcases i with _|q
 ·have g0:decide (((0:Nat):Int)>0)=false:=rfl
  rw[AG (λh=>Ah h.1 (Nat.lt_irrefl 0))]at hE;rcases Nat.decEq (chk s.part) 0 with hc0|hc0
  ·rw[AH hc0]at hE
   have e3:=IM hc0;rw[hbad (chk s.part) hc0 hE];refine AR H5 (Cw e1 el g0 kN e3) hm cN cC AB AB AB ?_;exact AM rfl AA.out
  rw[AG (λh=>h hc0)]at hE;have e3:=Im hc0;have cG:=XW (Bc s.part) (ck hc0);have cA:=YG (Fk l 0) (Bc s.part) (601*0+1) 600 hSk (OV hc0) (by omega);rw[XM hc0]at cG cA;have hnext:Fk l (0+1)=Fk l 0+Bc s.part:=by show _+Bc (Dp l 0).part=_;rw[Kp hs]
  rw[<-hnext]at cA;obtain⟨sg,hsg⟩:∃q,Ga (Bc s.part)=q:=⟨_,rfl⟩
  rw[hsg]at cG hE
  by_cases hs0:sg<=0
  ·rw[AH hs0]at hE
   have e4:decide (sg<=0)=true:=Ax hs0;rw[hbad 12 (by decide) hE];refine AR H5 (Fd e1 el g0 kN e3 e4) hm cN cC cG AB AB ?_;exact AM rfl AA.out
  rw[AG hs0]at hE;have e4:decide (sg<=0)=false:=Az hs0;refine AR H5 (D7 e1 el g0 kN e3 e4 wi) hm cN cC cG cA AB ?_;exact⟨(0+1,_),⟨h2,λj hj=>by
   rcases IQ.1 hj with q|q
   ·exact hz j q
   ·rw[q];exact hE⟩,by dsimp only;omega,AN⟩
 ·have g0:decide (((q+1:Nat):Int)>0)=true:=BV
  have g1:IntKind.i64.wrap (((q+1:Nat):Int)-1)=(q:Int):=by rw[wI];omega
  obtain⟨s0,hs0'⟩:=CV (l:=l) (i:=q) (by omega);have hm0:(l.map A0.D)[q]?=some (.agg [str (sb s0.lot),str (sb s0.part)]):=by rw[BT,hs0'];rfl
  rw[JW,Kp hs0']at hE;obtain⟨bL,hbL⟩:∃q,Ly s.lot s0.lot=q:=⟨_,rfl⟩
  have g2:(Ks (sb s.lot) (sb s0.lot)||BU (sb s.lot) (sb s0.lot))=bL:=hbL;rw[hbL]at hE;cases bL
  rotate_left
  ·rw[AH ⟨Nat.succ_pos q,rfl⟩]at hE
   rw[hbad 11 (by decide) hE];refine AR H5 (Fd e1 el g0 g1 g2 kN) hm hm0 cN AB AB AB ?_;exact AM rfl AA.out
  rw[AG (λh=>Ah h.2 (by decide))]at hE;rcases Nat.decEq (chk s.part) 0 with hc0|hc0
  ·rw[AH hc0]at hE
   have e3:=IM hc0;rw[hbad (chk s.part) hc0 hE];refine AR H5 (D7 e1 el g0 g1 g2 kN e3) hm hm0 cN cC AB AB ?_;exact AM rfl AA.out
  rw[AG (λh=>h hc0)]at hE;have e3:=Im hc0;have cG:=XW (Bc s.part) (ck hc0);have cA:=YG (Fk l (q+1)) (Bc s.part) (601*(q+1)+1) 600 hSk (OV hc0) (by omega);rw[XM hc0]at cG cA;have hnext:Fk l ((q+1)+1)=Fk l (q+1)+Bc s.part:=by show _+Bc (Dp l (q+1)).part=_;rw[Kp hs]
  rw[<-hnext]at cA;obtain⟨sg,hsg⟩:∃q,Ga (Bc s.part)=q:=⟨_,rfl⟩
  rw[hsg]at cG hE
  by_cases hs0:sg<=0
  ·rw[AH hs0]at hE
   have e4:decide (sg<=0)=true:=Ax hs0;rw[hbad 12 (by decide) hE];refine AR H5 (D7 e1 el g0 g1 g2 kN (Ae e3 e4)) hm hm0 cN cC cG AB ?_;exact AM rfl AA.out
  rw[AG hs0]at hE;have e4:decide (sg<=0)=false:=Az hs0;refine AR H5 (D7 e1 el g0 g1 g2 kN (BG e3 e4 wi)) hm hm0 cN cC cG cA ?_;exact⟨((q+1)+1,_),⟨h2,λj hj=>by
   rcases IQ.1 hj with q|q
   ·exact hz j q
   ·rw[q];exact hE⟩,by dsimp only;omega,AN⟩
theorem kj (x:AE)(hs:x.shs.length<=15\/64<x.shs.length)(hf:x.grain.length<=9223372036854775807/\x.shs.length<=9223372036854775807/\∀s∈x.shs,s.lot.length<=9223372036854775807/\s.part.length<=9223372036854775807):AI C0 5 [x.D] (i64 (Bw x:Nat)):=by
 refine Ac.walk w1 e1V rfl λF=>?_
 obtain⟨f1,f2,f3⟩:=hf;have cN:=ib x.grain f1;have cS:=e2w false x.shs hs f2 f3;have hC:Bw x=if Dk x.grain=false then 8 else if x.mass<1\/x.mass>999999999 then 3 else G7 x.shs:=rfl
 obtain⟨N,hN⟩:∃q,Dk x.grain=q:=⟨_,rfl⟩
 obtain⟨SD,hSD⟩:∃d,Dq false x.shs=d:=⟨_,rfl⟩
 have pS:AA SD:=by rw[<-hSD];exact AJ
 have hna:Jx SD=true:=by rw[<-hSD];rfl
 unfold AE.D;rw[hN]at cN hC;rw[hSD]at cS⊢;cases N
 ·rw[AH rfl]at hC
  rw[hC];refine AR Aq kB cN AB AB AB AB AB ?_;exact AM rfl AA.out
 rw[AG (by decide)]at hC
 by_cases h1:x.mass<1
 ·rw[AH (.inl h1)]at hC
  rw[hC];have e1:decide (x.mass<1)=true:=Ax h1;refine AR Aq e1 cN AB AB AB AB AB ?_;exact AM rfl AA.out
 have e1:decide (x.mass<1)=false:=Az h1
 by_cases h2:x.mass>999999999
 ·rw[AH (.inr h2)]at hC
  rw[hC];have e2:decide (x.mass>999999999)=true:=Ax h2;refine AR Aq (Ae e1 e2) cN AB AB AB AB AB ?_;exact AM rfl AA.out
 have e2:decide (x.mass>999999999)=false:=Az h2;rw[B3]at hC;rw[hC];refine AR Aq (BG e1 e2 hna) cN cS AB AB AB AB ?_;exact AM rfl AA.out
theorem e2l (x:AE)(hs:x.shs.length<=15\/64<x.shs.length)(hf:x.few):AI C0 5 [x.D] (i64 (Bw x:Nat)):=
 kj x hs ⟨BP hf.1 (by decide),hf.2.1,λs h=>⟨BP (hf.2.2 s h).1 (by decide),BP (hf.2.2 s h).2 (by decide)⟩⟩
abbrev Lg:Dr:=[(8,[0,1,2,3,4,5,6,7,8,9,10,11,12],[13,14])]
open Go.Proofs Go.RowKit Go.Sort
set_option maxRecDepth 20000
set_option maxHeartbeats 4000000
theorem jF {H Hf:Hp}{K g T sz n:Nat}{l:List D}(h:Hp.get H K=some ⟨K,g,T,sz,l⟩)(hf:Hp.get Hf K=none)(hn:n=l.length):Fz H Hf (.osl K g sz 0 n) (.sl false sz l):=by
 subst hn;refine .osl (e:=⟨K,g,T,sz,l⟩) h hf rfl rfl (by simp) (by simp) (λj d d' h1 h2=>?_) λj d d' q c c' h1 h2 h3 h4=>?_
 ·rw[BX]at h1;rw[h1]at h2;cases h2;rfl
 ·rw[BX]at h1;rw[h1]at h2;cases h2;rw[h3]at h4;cases h4;exact Fz.refl _
def Gj (lot:List UInt8)(l:Bf):Nat:=(l.takeWhile λp=>ltStr p.1 lot).length
theorem sX (lot:List UInt8)(l:Bf):Gj lot l<=l.length:=by
 unfold Gj
 have:=(List.takeWhile_sublist (l:=l) λp=>ltStr p.1 lot).length_le
 exact this
theorem Rk (lot:List UInt8)(p:List UInt8×Rat)(l:Bf):Gj lot (p::l)=if ltStr p.1 lot then Gj lot l+1 else 0:=by
 unfold Gj;rw[PJ];split<;>simp
theorem Vw {lot:List UInt8}:∀ {l:Bf} {i:Nat},(∀j p,j<i->l[j]?=some p->ltStr p.1 lot=true)->i<=l.length->(∀p,l[i]?=some p->ltStr p.1 lot=false)->Gj lot l=i
 | [],i,_,h2,_=>by simp at h2;subst h2;rfl
 |q::l,0,_,_,h3=>by
  rw[Rk,AG (by rw[h3 q rfl];decide)]
 |q::l,i+1,h1,h2,h3=>by
  rw[Rk,AH (h1 0 q (by omega) rfl)];rw[Vw (i:=i) (λj p hj hp=>h1 (j+1) p (by omega) (by simpa using hp)) (by simpa using h2) λp hp=>h3 p (by simpa using hp)]
def DC (lot:List UInt8)(r:Rat):Bf->Bf
 | []=>[(lot,r)]
 |p::l=>if ltStr p.1 lot then p::DC lot r l else if p.1=lot then(p.1,p.2+r)::l else(lot,r)::p::l
theorem eH {lot:List UInt8}{r:Rat}:∀ {l:Bf} {p:List UInt8×Rat},l[Gj lot l]?=some p->p.1=lot->DC lot r l=l.set (Gj lot l) (p.1,p.2+r)
 | [],p,h,_=>by simp[Gj]at h
 |q::l,p,h,e=>by
  unfold DC;rw[Rk]at h⊢;split at h
  ·rename_i h2
   rw[AH h2,AH h2,List.set_cons_succ,eH (by simpa using h) e]
  ·rename_i h2
   rw[AG h2,AG h2];simp at h;subst h;rw[AH e];rfl
theorem eI {lot:List UInt8}{r:Rat}:∀ {l:Bf},(∀p,l[Gj lot l]?=some p->p.1≠lot)->DC lot r l=l.take (Gj lot l)++(lot,r)::l.drop (Gj lot l)
 | [],_=>rfl
 |q::l,h=>by
  unfold DC;rw[Rk]at h⊢;split at h
  ·rename_i h2
   rw[AH h2,AH h2,eI (λp hp=>h p (by simpa using hp))];rfl
  ·rename_i h2
   rw[AG h2,AG h2,AG (h q rfl)];rfl
theorem bX (a b:List UInt8):Ks (sb a) (sb b)=ltStr a b:=by
 unfold Ks ltStr;rw[bytesLess_eq,aS,aS]
def Xy (E0 E4:Af)(i:Nat):Option Af:=match i with
 | 4=>some E0
 | 9=>some E4
 |_=>none
def Q4 (i:Nat):Option Nat:=match i with
 | 0=>some 4
 | 4=>some 9
 |_=>none
theorem sL {ops:Array Oper}{d0 d1 d2 d3 d4 d5 d6 d7 d8 d9 d10 d11 d12:D}{E0 E4 E9:Af}(h1:DU ops 4 0)(h2:DU ops 9 4):
  OS ops (Nd ops [(0,d0,some E0),(1,d1,none),(2,d2,none),(3,d3,none),(4,d4,some E4),(5,d5,none),(6,d6,none),(7,d7,none),(8,d8,none),(9,d9,some E9),(10,d10,none),(11,d11,none),(12,d12,none)]) (Xy E0 E4) Q4:=by
 constructor
 ·intro r hr e he
  simp only[Nd,CX,List.map_nil,Aw,Ds,or_false]at hr;rcases hr with rfl|rfl|rfl|rfl|rfl|rfl|rfl|rfl|rfl|rfl|rfl|rfl|rfl<;>dsimp only[Xy]at he<;>first
   |(cases he;done)
   |(cases he;exact⟨⟨0,ops.getD 0 default,d0,some _⟩,by simp[Nd],rfl,rfl⟩)
   |(cases he;exact⟨⟨4,ops.getD 4 default,d4,some _⟩,by simp[Nd],rfl,rfl⟩)
 ·intro r hr j hj
  simp only[Nd,CX,List.map_nil,Aw,Ds,or_false]at hr;rcases hr with rfl|rfl|rfl|rfl|rfl|rfl|rfl|rfl|rfl|rfl|rfl|rfl|rfl<;>dsimp only[Q4]at hj<;>first
   |(cases hj;done)
   |(cases hj;exact⟨by simp[Nd],rfl,by assumption⟩)
 ·intro r hr r' hr' j hj hj'
  have key:∀i k:Nat,Q4 i=some k->(i=0/\k=4)\/(i=4/\k=9):=λi k h=>by
   unfold Q4 at h;split at h<;>first|(cases h;simp;done)|cases h
  rcases key _ _ hj with⟨a,b⟩|⟨a,b⟩<;>rcases key _ _ hj' with⟨c,d⟩|⟨c,d⟩<;>omega
theorem e2v (l:Bf)(lot:List UInt8)(r:Rat)(k:Nat)(hl:l.length<=10000)(hk:∀p∈l,rk p.2 k)(hr:rk r k)(hk2:k+k<=10000):AI C0 48 [.sl false 2 (l.map GC),str (sb lot),rR r] (.sl false 2 ((DC lot r l).map GC)):=by
 refine Ac.walk w1 d9b rfl λF=>?_
 have el:(((l.map GC).length:Nat):Int)=(l.length:Int):=by rw[Al]
 obtain⟨T,hT⟩:∃T,l.map GC=T:=⟨_,rfl⟩
 have pT:AA (.sl false 2 T):=by rw[<-hT];exact AJ
 have hTl:T.length=l.length:=by rw[<-hT,Al]
 have hTat:∀(i:Nat) (p:List UInt8×Rat),l[i]?=some p->T[i]?=some (D.agg [str (sb p.1),str (sb (Ao p.2))]):=λi p h=>by rw[<-hT,BT,h];rfl
 rw[hT]at el⊢;unfold rR;refine sZ 0 ?_;refine AF kB ?_;refine sZ 100 ?_;refine AF kB ?_;refine UC (λn=>⟨[(0,.sl false 2 T),(1,str (sb lot)),(2,str (sb (Ao r))),(7,i64 (Gj lot l:Nat))],[],n⟩) ?_ λn=>?_
 ·refine AC.block ?_
  refine HJ (α:=Nat×Nat) (λp=>⟨[(0,.sl false 2 T),(1,str (sb lot)),(2,str (sb (Ao r))),(7,i64 (p.1:Nat))],[],p.2⟩) (λp=>l.length-p.1) (λp F1=>F1=F/\p.1<=l.length/\∀j q,j<p.1->l[j]?=some q->ltStr q.1 lot=true) (0,_) ⟨rfl,Bg _,λj q h=>Ah h (HR j)⟩ AN ?_;rintro⟨i,m⟩ F1 ⟨rfl,hi,ha⟩;dsimp only at hi ha⊢;rcases BL i l.length with h2|h2
  rotate_left
  ·have e1:=Cx h2
   have:i=l.length:=by omega
   subst this;have hat:Gj lot l=l.length:=Vw ha (Am _) λp hp=>by simp at hp
   rw[hat];refine AR Lg (Ae e1 el) AB AB AB AB AB AB ?_;exact⟨trivial,_,AN⟩
  have e1:=Cs h2;have wi:=Cz (i:=i) (by omega);obtain⟨q,hq⟩:=CV h2;have hm:=hTat i q hq;have eS:=bX q.1 lot;obtain⟨bS,hbS⟩:∃b,ltStr q.1 lot=b:=⟨_,rfl⟩
  rw[hbS]at eS;cases bS
  ·have hat:Gj lot l=i:=Vw ha (KO h2) λp hp=>by
    rw[hq]at hp;cases hp;exact hbS
   rw[hat];refine AR Lg (Bo e1 el eS kN) hm AB AB AB AB AB ?_;exact⟨trivial,_,AN⟩
  ·refine AR Lg (Cw e1 el eS wi kN) hm AB AB AB AB AB ?_
   exact⟨(i+1,_),⟨trivial,h2,λj z hj hz=>by
    rcases IQ.1 hj with g|g
    ·exact ha j z g hz
    ·rw[g,hq]at hz;cases hz;exact hbS⟩,by dsimp only;omega,AN⟩
 obtain⟨A,hA⟩:∃A,Gj lot l=A:=⟨_,rfl⟩
 have hAl:=sX lot l;rw[hA]at hAl⊢
 by_cases hq:∃q,l[A]?=some q/\q.1=lot
 ·obtain⟨q,hq,hql⟩:=hq
  have hAlt:A<l.length:=(BR.1 hq).1;have e1:=Cs hAlt;have hm:=hTat A q hq;have eE:BU (sb q.1) (sb lot)=true:=by rw[E1];exact Ax hql
  have cA:AI C0 69 [str (sb (Ao q.2)),str (sb (Ao r))] (str (sb (Ao (q.2+r)))):=YG q.2 r k k (hk q (A8 hq)) hr hk2;have hres:(DC lot r l).map GC=T.set A (.agg [str (sb q.1),str (sb (Ao (q.2+r)))]):=by
   rw[eH (by rw[hA];exact hq) hql,hA,List.map_set,hT];rfl
  rw[hres];refine AC.seq ?_;refine AC.seq ?_;refine AR Lg (Bo e1 el eE kN) hm AB AB AB AB AB ?_;rw[show List.take 0 []++T=T from rfl,BX,BX];refine AF hm ?_;refine cI cA ?_;refine AF (BG kN BX hm) ?_;have pR:CI (.sl false 2 ((DC lot r l).map GC)):=AA.out;rw[hres]at pR;obtain⟨T2,hT2⟩:∃T2,T.set A (.agg [str (sb q.1),str (sb (Ao (q.2+r)))])=T2:=⟨_,rfl⟩
  have hT2l:T.length=T2.length:=by rw[<-hT2,Dt]
  rw[hT2]at pR;rw[hT2,hT2l];refine AR Lg kB AB AB AB AB AB AB ?_;exact⟨_,jF rfl rfl rfl,pR,rfl⟩
 refine UC (λn=>⟨[(0,.sl false 2 T),(1,str (sb lot)),(2,str (sb (Ao r))),(7,i64 (A:Nat))],[],n⟩) ?_ λn2=>?_
 ·rcases BL A l.length with h2|h2
  ·have e1:=Cs h2
   obtain⟨q,hq2⟩:=CV h2;have hm:=hTat A q hq2;have eE:BU (sb q.1) (sb lot)=false:=by
    rw[E1];exact Az λh=>hq ⟨q,hq2,h⟩
   refine AR Lg (Bo e1 el eE kN) hm AB AB AB AB AB ?_;exact⟨trivial,_,AN⟩
  ·have e1:=Cx h2
   refine AR Lg (Ae e1 el) AB AB AB AB AB AB ?_;exact⟨trivial,_,AN⟩
 have hres:(DC lot r l).map GC=T.take A++[.agg [str (sb lot),str (sb (Ao r))]]++T.drop A:=by
  rw[eI (λp hp h=>hq ⟨p,by rw[<-hA];exact hp,h⟩),hA,<-hT];simp[GC]
 have pR:CI (.sl false 2 ((DC lot r l).map GC)):=AA.out;rw[hres]at pR⊢;have hAT:A<=T.length:=by omega
 refine AC.seq ?_;have hA0:(0:Int)<=(A:Nat):=by omega
 have hA1:((A:Nat):Int)<=(T.length:Nat):=by omega
 have hTAl:((T.drop 0).take (((A:Nat):Int).toNat-0)).length<=10000:=by
  rw[Be]
  have:=D4 (i:=0) (l:=T)
  omega
 refine e3q w1 800 [0,1,2,3,4,5,6,7,8,9,10,11,12] [13,14] (use:=Q4) (con:=Xy ⟨800,n2+0,32,2,[]⟩ ⟨804,n2+4,32,2,[].take 0++((T.drop 0).take (((A:Nat):Int).toNat-0))⟩)
  (rs:=Nd _ [(0,.osl 800 (n2+0) 2 0 0,some ⟨800,n2+0,32,2,[]⟩),(1,.sl false 2 T,none),(2,i64 (A:Nat),none),(3,.sl false 2 ((T.drop 0).take (((A:Nat):Int).toNat-0)),none),(4,.osl 804 (n2+4) 2 0 (0+((T.drop 0).take (((A:Nat):Int).toNat-0)).length),some ⟨804,n2+4,32,2,[].take 0++((T.drop 0).take (((A:Nat):Int).toNat-0))⟩),(5,str (sb lot),none),(6,str (sb (Ao r)),none),(7,(.agg [str (sb lot),str (sb (Ao r))]),none),(8,.sl true 2 [(.agg [str (sb lot),str (sb (Ao r))])],none),
   (9,.osl 809 (n2+9) 2 0 (0+((T.drop 0).take (((A:Nat):Int).toNat-0)).length+1),some ⟨809,n2+9,32,2,([].take 0++((T.drop 0).take (((A:Nat):Int).toNat-0))).take (0+((T.drop 0).take (((A:Nat):Int).toNat-0)).length)++[(.agg [str (sb lot),str (sb (Ao r))])]⟩),(10,.sl false 2 T,none),(11,i64 (A:Nat),none),(12,.sl false 2 ((T.drop ((A:Nat):Int).toNat).take (T.length-((A:Nat):Int).toNat)),none)])
  (N:=[⟨809,n2+9,32,2,([].take 0++((T.drop 0).take (((A:Nat):Int).toNat-0))).take (0+((T.drop 0).take (((A:Nat):Int).toNat-0)).length)++[(.agg [str (sb lot),str (sb (Ao r))])]⟩])
  (by kernel_rfl) rfl (sL (bw (l:=[0,1,2,3,4,5,6,7,8,9,10,11,12]) (by kernel_rfl)) (bw (l:=[0,1,2,3,4,5,6,7,8,9,10,11,12]) (by kernel_rfl))) (Qs.at ?_) (List.Perm.refl _) ?_
 ·refine A7 (A7 rfl (Or.inl (A7 rfl (CC.l' 800 w1.tt rfl rfl AB)))) ?_
  refine A7 (A7 rfl (Or.inl (A7 rfl (CC.p w1.tt rfl rfl AB)))) ?_;refine A7 (A7 rfl (Or.inl (A7 rfl (CC.p w1.tt rfl rfl AB)))) ?_;refine A7 (A7 rfl (Or.inl (A7 rfl (CC.p w1.tt rfl rfl ⟨⟨hA0,hA1⟩,rfl⟩)))) ?_;refine A7 (A7 rfl (Or.inr ⟨_,_,rfl,rfl,P1.app 804 w1.tt rfl rfl ⟨rfl,rfl,rfl,rfl,rfl,Am _,by show(0+((T.drop 0).take (((A:Nat):Int).toNat-0)).length)*32<=140737488355328;omega,by decide,by decide⟩⟩)) ?_;refine A7 (A7 rfl (Or.inl (A7 rfl (CC.p w1.tt rfl rfl AB)))) ?_;refine A7 (A7 rfl (Or.inl (A7 rfl (CC.p w1.tt rfl rfl AB)))) ?_;refine A7 (A7 rfl (Or.inl (A7 rfl (CC.p w1.tt rfl rfl (by exact Bu))))) ?_;refine A7 (A7 rfl (Or.inl (A7 rfl (CC.l' 808 w1.tt rfl rfl (by exact Bu))))) ?_;refine A7 (A7 rfl (Or.inr ⟨_,_,rfl,rfl,P1.app 809 w1.tt rfl rfl ⟨rfl,rfl,rfl,rfl,rfl,by show 0+((T.drop 0).take (((A:Nat):Int).toNat-0)).length<=([]++((T.drop 0).take (((A:Nat):Int).toNat-0))).length;rw[E7];omega,by show(0+((T.drop 0).take (((A:Nat):Int).toNat-0)).length+1)*32<=140737488355328;omega,by decide,by decide⟩⟩)) ?_;refine A7 (A7 rfl (Or.inl (A7 rfl (CC.p w1.tt rfl rfl AB)))) ?_;refine A7 (A7 rfl (Or.inl (A7 rfl (CC.p w1.tt rfl rfl AB)))) ?_;refine A7 (A7 rfl (Or.inl (A7 rfl (CC.p w1.tt rfl rfl ⟨⟨hA0,hA1⟩,rfl⟩)))) ?_;exact AB
 change C7 _ _ _ _ _ ⟨(64,.sl false 2 ((T.drop ((A:Nat):Int).toNat).take (T.length-((A:Nat):Int).toNat)))::(63,i64 (A:Nat))::(62,.sl false 2 T)::(61,.osl 809 (n2+9) 2 0 (0+((T.drop 0).take (((A:Nat):Int).toNat-0)).length+1))::(60,.sl true 2 [(.agg [str (sb lot),str (sb (Ao r))])])::(59,(.agg [str (sb lot),str (sb (Ao r))]))::(58,str (sb (Ao r)))::(57,str (sb lot))::(56,.osl 804 (n2+4) 2 0 (0+((T.drop 0).take (((A:Nat):Int).toNat-0)).length))::(55,.sl false 2 ((T.drop 0).take (((A:Nat):Int).toNat-0)))::(54,i64 (A:Nat))::(53,.sl false 2 T)::(52,.osl 800 (n2+0) 2 0 0)::_,[⟨809,n2+9,32,2,([].take 0++((T.drop 0).take (((A:Nat):Int).toNat-0))).take (0+((T.drop 0).take (((A:Nat):Int).toNat-0)).length)++[(.agg [str (sb lot),str (sb (Ao r))])]⟩],_⟩ _ _;have q1:((T.drop 0).take (((A:Nat):Int).toNat-0))=T.take A:=by simp
 have q2:((T.drop ((A:Nat):Int).toNat).take (T.length-((A:Nat):Int).toNat))=T.drop A:=by
  rw[Iv,Ci];rw[D4];omega
 rw[q1,q2];obtain⟨P,hP⟩:∃P,T.take A=P:=⟨_,rfl⟩
 obtain⟨S,hS⟩:∃S,T.drop A=S:=⟨_,rfl⟩
 have hPl:P.length<=10000:=by rw[<-hP,Be];omega
 have hSl:S.length<=10000:=by rw[<-hS,D4];omega
 have pS:AA (.sl false 2 S):=by
  rw[<-hS,<-hT,<-List.map_drop];exact AJ
 rw[hP,hS]at pR⊢;have q3:([].take 0++P).take (0+P.length)=P:=by simp
 rw[q3,BX];have q5:P.length+1<=(P++[(D.agg [str (sb lot),str (sb (Ao r))])]).length:=by simp
 have q4:(P++[(D.agg [str (sb lot),str (sb (Ao r))])]).take (P.length+1)=P++[(D.agg [str (sb lot),str (sb (Ao r))])]:=by rw[Ci];simp
 refine AR Lg kB AB AB AB AB AB AB ?_;rw[q4];refine⟨_,jF rfl rfl ?_,pR,rfl⟩;rw[Bz,Bz];rfl
abbrev Sb:Dr:=[(8,[0,1,2,3,4,5,6,7,8,9,10,11,12,13,14,15,16,17,18,19,20,21,22,23,24,25],[26,27])]
open Go.Proofs Go.RowKit Go.Sort
set_option maxRecDepth 20000
set_option maxHeartbeats 4000000
theorem eJ {lot:List UInt8}{r:Rat}{k:Nat}(hr:rk r 4):∀ {l:Bf},(∀p∈l,rk p.2 k)->∀p∈DC lot r l,rk p.2 (k+5)
 | [],_,p,hp=>by
  unfold DC at hp;rw[DG]at hp;rw[hp];exact hr.mono (by omega)
 |a::l,h,p,hp=>by
  unfold DC at hp;split at hp
  ·rcases Aw.1 hp with rfl|hp
   ·exact(h p CF).mono (by omega)
   ·exact eJ hr (λq hq=>h q (B6 _ hq)) p hp
  ·split at hp
   ·rcases Aw.1 hp with rfl|hp
    ·exact(XC (h a CF) hr).mono (by omega)
    ·exact(h p (B6 _ hp)).mono (by omega)
   ·rcases Aw.1 hp with rfl|hp
    ·exact hr.mono (by omega)
    ·exact(h p hp).mono (by omega)
theorem Vt {lot:List UInt8}{r:Rat}:∀ {l:Bf},(DC lot r l).length<=l.length+1
 | []=>by simp[DC]
 |a::l=>by
  unfold DC;split
  ·simp only[By]
   have:=Vt (lot:=lot) (r:=r) (l:=l)
   omega
  ·split<;>simp
def Hd (x:AE)(n:Nat)(q:Bf):Bf:=(x.shs.take n).foldl (λacc s=>DC s.lot (Bc s.part*(x.mass:Rat)) acc) q
def DX (l:List AE):Bf:=l.foldl (λacc x=>Hd x x.shs.length acc) []
theorem Zw (x:AE)(n:Nat)(q:Bf){s:A0}(h:x.shs[n]?=some s):Hd x (n+1) q=DC s.lot (Bc s.part*(x.mass:Rat)) (Hd x n q):=by
 unfold Hd;rw[FV,h,List.foldl_append];rfl
theorem Zl (l:List AE)(n:Nat){x:AE}(h:l[n]?=some x):DX (l.take (n+1))=Hd x x.shs.length (DX (l.take n)):=by
 unfold DX;rw[FV,h,List.foldl_append];rfl
def AE.okR (x:AE):Prop:=x.shs.length<=15/\1<=x.mass/\x.mass<=999999999/\∀s∈x.shs,s.ok
theorem ur {s:A0}(h:s.ok):str (sb s.part)=rR (Bc s.part):=by
 unfold rR;rw[(Ml h.2.2).2.2.1]
theorem dg {z:Int}(h0:1<=z)(h1:z<=999999999):rk (z:Rat) 1:=(Sq (z:=z) (by omega)).rk
theorem ud (n:Nat)(hn:n<1000000000):AI C0 96 [i64 (n:Int)] (rZ (n:Int)):=by
 refine Ac.walk w1 jv rfl λF=>?_
 have q1:decide ((n:Int)<0)=false:=BY;have q2:((n:Int)).tmod 1000000000=(n:Int):=Int.tmod_eq_of_lt (by omega) (by omega);have q3:((n:Int)).tdiv 1000000000=0:=Int.tdiv_eq_zero_of_lt (by omega) (by omega);have q4:IntKind.i64.wrap 0=0:=rfl;have q5:IntKind.i64.wrap (n:Int)=(n:Int):=wI;have q6:((0:Int) != 0)=false:=rfl;have c0:=SE false [] (λa h=>by cases h) (by decide);have e0:rZ (sg false (AQ []))=rZ 0:=rfl;rw[e0]at c0;have cn:n≠0->AI C0 145 [Av false,rL [n]] (rZ (n:Int)):=λh=>by
  have:=SE false [n] (λa h=>by rw[DG.1 h];exact hn) (by simp)
  have e:AQ [n]=n:=by unfold AQ AQ;omega
  rw[e]at this;exact this
 rcases Nat.decEq n 0 with h0|h0
 rotate_left
 ·subst h0
  have q7:(((0:Nat):Int) != 0)=false:=rfl;refine AR Aq q1 AB AB AB AB AB AB ?_;refine AC.loop (α:=Nat) (λp=>⟨[(0,i64 ((0:Nat):Int)),(2,.optr 0 0 2 0 0),(3,CS),(4,Av false)],[⟨0,0,145,2,[.agg [Av false,CS]]⟩],p⟩) (λ_=>0) (λ_=>True) _ AB AN ?_;intro m F _;refine AR Aq q7 AB AB AB AB AB AB ?_;refine BI.own _ (LB [⟨0,0,145,2,[.agg [Av false,CS]]⟩] c0 (.keep .nil) ⟨.refl _,.nil 1,trivial⟩ AJ) ?_;rintro d H' n' ⟨rfl,rfl,rfl⟩;refine AR Aq kB AB AB AB AB AB AB ?_;exact AM rfl AA.out
 have cn:=cn h0;have q7:=IM h0;refine AR Aq q1 AB AB AB AB AB AB ?_;refine AC.loop (α:=Bool×Nat×Nat) (λp=>⟨[(0,if p.1 then i64 0 else i64 (n:Int)),(2,.optr 0 0 2 0 0),(3,if p.1 then .osl 703 p.2.1 1 0 1 else CS),(4,Av false)],(if p.1 then[⟨703,p.2.1,3,1,[i64 (n:Int)]⟩]else[])++[⟨0,0,145,2,[.agg [Av false,CS]]⟩],p.2.2⟩) (λp=>if p.1 then 0 else 1) (λ_=>True) (false,0,_) AB AN ?_;rintro⟨t,g,m⟩ F -;cases t
 ·dsimp only[Bool.false_eq_true,if_false,List.nil_append]
  refine AR Aq (Fd q7 q1 q2 q3 q4 q5) AB AB AB AB AB AB ?_;exact⟨(true,_,_),trivial,Nat.zero_lt_one,AN⟩
 ·dsimp only[if_true,List.cons_append,List.nil_append]
  refine AR Aq q6 AB AB AB AB AB AB ?_;refine BI.own _ (LB [⟨0,0,145,2,[.agg [Av false,CS]]⟩] cn (.drop (.keep .nil)) ⟨.refl _,Vr rfl,trivial⟩ AJ) ?_;rintro d H' n' ⟨rfl,rfl,rfl⟩;refine AR Aq kB AB AB AB AB AB AB ?_;exact AM rfl AA.out
theorem zG (z:Int)(h0:0<=z)(h1:z<1000000000):AI C0 50 [i64 z] (rR (z:Rat)):=by
 obtain⟨n,rfl⟩:∃n:Nat,z=(n:Int):=⟨z.toNat,by omega⟩
 refine Ac.walk w1 d9d rfl λF=>?_
 have c1:=ud n (by omega);have hr:Gp (n:Int):=by
  unfold Gp;rw[Do];exact DD (LP (k:=1) (DD (show n<=999999999 by omega) (by decide +kernel))) (by decide)
 have c2:=Xb (n:Int) hr;have e:str (sb (Lib.itoa (n:Int)))=rR ((n:Int):Rat):=by unfold rR;rw[Sk]
 rw[e]at c2;unfold rZ at c1 c2;refine AR Aq kB c1 c2 AB AB AB AB ?_;exact AM rfl AA.out
theorem km (b:Bool)(l:List AE)(hl:l.length<=8)(hx:∀x∈l,x.okR):AI C0 15 [Au b l] (.sl false 2 ((DX l).map GC)):=by
 refine Ac.walk w1 d8H rfl λF=>?_
 have el:(((l.map AE.D).length:Nat):Int)=(l.length:Int):=by rw[Al]
 refine sZ 0 ?_;refine AF kB ?_;refine sZ 100 ?_;refine AF kB ?_;refine AC.seq ?_;refine sZ 200 ?_;refine AF kB ?_;refine AC.block ?_;refine AC.loop (α:=Nat×Nat) (λp=>⟨[(0,Au b l),(3,.sl false 2 ((DX (l.take p.1)).map GC)),(4,i64 (p.1:Int))],[],p.2⟩) (λp=>l.length-p.1)
  (λp=>p.1<=l.length/\(∀z∈DX (l.take p.1),rk z.2 (75*p.1))/\(DX (l.take p.1)).length<=15*p.1) (0,_) ⟨Bg _,λz h=>by simp[DX]at h,by simp[DX]⟩ (AN (b:=⟨.refl _,.nil 2,.refl _,trivial⟩)) ?_
 rintro⟨i,n1⟩ F ⟨hi,hk,hlen⟩;dsimp only at hi hk hlen⊢;rcases BL i l.length with h2|h2
 rotate_left
 ·have e1:=Cx h2
  have:i=l.length:=by omega
  subst this;rw[DH];refine AR Sb (Ae e1 el) AB AB AB AB AB AB ?_;exact AM rfl AA.out
 have e1:=Cs h2;have wi:=Cz (i:=i) (by omega);obtain⟨x,hxi⟩:=CV h2;obtain⟨x1,x2,x3,x4⟩:=hx x (A8 hxi);have hm:(l.map AE.D)[i]?=some (.agg [str (sb x.grain),i64 x.mass,.sl false 2 (x.shs.map A0.D)]):=by rw[BT,hxi];rfl
 have es:(((x.shs.map A0.D).length:Nat):Int)=(x.shs.length:Int):=by rw[Al]
 have hsn:=Zl l i hxi;obtain⟨Q,hQ⟩:∃Q,DX (l.take i)=Q:=⟨_,rfl⟩
 rw[hQ]at hk hlen hsn⊢;have cF:=zG x.mass (by omega) (by omega);refine AR Sb (Ae e1 el) AB AB AB AB AB AB ?_;refine AC.loop (α:=Nat×Nat) (λp=>⟨[(0,Au b l),(3,.sl false 2 ((Hd x p.1 Q).map GC)),(4,i64 (i:Int)),(5,i64 (p.1:Int))],[],p.2⟩) (λp=>x.shs.length-p.1)
  (λp=>p.1<=x.shs.length/\(∀z∈Hd x p.1 Q,rk z.2 (75*i+5*p.1))/\(Hd x p.1 Q).length<=15*i+p.1) (0,_) ⟨Bg _,hk,hlen⟩ AN ?_
 rintro⟨j,n2⟩ F ⟨hj,hk2,hlen2⟩;dsimp only at hj hk2 hlen2⊢;rcases BL j x.shs.length with h3|h3
 rotate_left
 ·have e2:=Cx h3
  have:j=x.shs.length:=by omega
  subst this;rw[<-hsn]at hk2 hlen2⊢;refine AR Sb (Bo e2 es wi kN) hm AB AB AB AB AB ?_;exact⟨(i+1,_),⟨h2,λz hz=>(hk2 z hz).mono (by dsimp only;omega),by dsimp only;omega⟩,by dsimp only;omega,AN⟩
 have e2:=Cs h3;have wj:=Cz (i:=j) (by omega);obtain⟨s,hsj⟩:=CV h3;have hms:(x.shs.map A0.D)[j]?=some (.agg [str (sb s.lot),str (sb s.part)]):=by rw[BT,hsj];rfl
 have hso:=x4 s (A8 hsj);have hsn2:=Zw x j Q hsj;have cM:=e2m (Bc s.part) ((x.mass:Int):Rat) 3 1 (Yk hso.2.2 hso.2.1) (dg x2 x3) (by decide);rw[<-ur hso]at cM;have hr4:rk (Bc s.part*((x.mass:Int):Rat)) 4:=i8 (Yk hso.2.2 hso.2.1) (dg x2 x3);obtain⟨r,hr⟩:∃r,Bc s.part*((x.mass:Int):Rat)=r:=⟨_,rfl⟩
 rw[hr]at cM hr4 hsn2;obtain⟨Q2,hQ2⟩:∃Q2,Hd x j Q=Q2:=⟨_,rfl⟩
 rw[hQ2]at hk2 hlen2 hsn2⊢;have cP:=e2v Q2 s.lot r (75*i+5*j+4) (by omega) (λp hp=>(hk2 p hp).mono (by omega)) (hr4.mono (by omega)) (by omega);have hk3:=eJ (lot:=s.lot) hr4 hk2;have hl3:=Vt (lot:=s.lot) (r:=r) (l:=Q2);rw[<-hsn2]at cP hk3 hl3;obtain⟨q2,hq2⟩:∃d,Q2.map GC=d:=⟨_,rfl⟩
 have pq2:AA (.sl false 2 q2):=by rw[<-hq2];exact AJ
 rw[hq2]at cP⊢;obtain⟨rd,hrd⟩:∃d,rR r=d:=⟨_,rfl⟩
 have prd:AA rd:=by rw[<-hrd];exact AJ
 obtain⟨md,hmd⟩:∃d,rR ((x.mass:Int):Rat)=d:=⟨_,rfl⟩
 have pmd:AA md:=by rw[<-hmd];exact AJ
 rw[hrd]at cP cM;rw[hmd]at cF cM;refine AR Sb (Bo e2 es wj kN) hm hms cF cM cP AB ?_;exact⟨(j+1,_),⟨h3,λz hz=>(hk3 z hz).mono (by dsimp only;omega),by dsimp only;omega⟩,by dsimp only;omega,AN⟩
abbrev GO (q:Bf):Prop:=q.Pairwise λa b=>ltStr a.1 b.1=true
theorem GO.nd {q:Bf}(h:GO q):(Cr q).Nodup:=by
 rw[Cr,List.Nodup,List.pairwise_map];exact h.imp λ{a b} h e=>by rw[e,swo_ltStr.irrefl]at h;cases h
theorem VS {lot:List UInt8}{o v:Rat}:∀ {q:Bf},Hc lot q=some o->∃A B,q=A++(lot,o)::B/\HB lot v q=A++(lot,v)::B
 | [],h=>by simp[Hc]at h
 |p::l,h=>by
  unfold Hc at h;unfold HB;split at h
  ·rename_i e
   cases h;rw[AH e];exact⟨[],l,by rw[e];rfl,rfl⟩
  ·rename_i e
   rw[AG e];obtain⟨A,B,h1,h2⟩:=VS (v:=v) h;exact⟨p::A,B,by rw[h1];rfl,by rw[h2];rfl⟩
theorem aU {lot:List UInt8}{v:Rat}:∀ {q:Bf},Hc lot q=none->lot∉Cr q/\HB lot v q=q++[(lot,v)]
 | [],_=>⟨by simp[Cr],rfl⟩
 |p::l,h=>by
  unfold Hc at h;unfold HB;split at h
  ·cases h
  ·rename_i e
   rw[AG e];obtain⟨h1,h2⟩:=aU (v:=v) h;exact⟨λq=>by
    rcases Aw.1 q with q|q
    ·exact e q
    ·exact h1 q,by rw[h2];rfl⟩
theorem ah {lot:List UInt8}{r:Rat}:∀ {Q:Bf},GO Q->(∃A o B,Q=A++(lot,o)::B/\DC lot r Q=A++(lot,o+r)::B)\/(lot∉Cr Q/\∃A B,Q=A++B/\DC lot r Q=A++(lot,r)::B)
 | [],_=>.inr ⟨by simp[Cr],[],[],rfl,rfl⟩
 |p::l,h=>by
  have hp:=DN.1 h;unfold DC;split
  ·rename_i e
   rcases ah (lot:=lot) (r:=r) hp.2 with⟨A,o,B,h1,h2⟩|⟨h0,A,B,h1,h2⟩
   ·exact .inl ⟨p::A,o,B,by rw[h1];rfl,by rw[h2];rfl⟩
   ·refine .inr ⟨λq=>?_,p::A,B,by rw[h1];rfl,by rw[h2];rfl⟩
    rcases Aw.1 q with q|q
    ·rw[show p.1=lot from q.symm,swo_ltStr.irrefl]at e;cases e
    ·exact h0 q
  ·rename_i e
   split
   ·rename_i e2
    exact .inl ⟨[],p.2,l,by rw[<-e2];rfl,by rw[e2];rfl⟩
   ·rename_i e2
    refine .inr ⟨λq=>?_,[],p::l,rfl,rfl⟩;rcases Aw.1 q with q|q
    ·exact e2 q.symm
    ·obtain⟨z,hz,rfl⟩:=CL.1 q
     exact e (hp.1 z hz)
theorem Zv {lot:List UInt8}{r:Rat}:∀ {Q:Bf},∀z∈DC lot r Q,z.1=lot\/z.1∈Cr Q
 | [],z,hz=>by
  unfold DC at hz;rw[DG]at hz;exact .inl (by rw[hz])
 |p::l,z,hz=>by
  unfold DC at hz;split at hz
  ·rcases Aw.1 hz with rfl|hz
   ·exact .inr CF
   ·rcases Zv z hz with h|h
    ·exact .inl h
    ·exact .inr (B6 _ h)
  ·split at hz
   ·rcases Aw.1 hz with rfl|hz
    ·exact .inr CF
    ·exact .inr (B6 _ (List.mem_map_of_mem hz))
   ·rcases Aw.1 hz with rfl|hz
    ·exact .inl rfl
    ·exact .inr (List.mem_map_of_mem hz)
theorem WW {lot:List UInt8}{r:Rat}:∀ {Q:Bf},GO Q->GO (DC lot r Q)
 | [],_=>List.pairwise_singleton _ _
 |p::l,h=>by
  have hp:=DN.1 h;unfold DC;split
  ·rename_i e
   refine DN.2 ⟨λz hz=>?_,WW hp.2⟩;rcases Zv z hz with h|h
   ·rw[h];exact e
   ·obtain⟨y,hy,h2⟩:=CL.1 h
    rw[<-h2];exact hp.1 y hy
  ·rename_i e
   split
   ·exact DN.2 ⟨hp.1,hp.2⟩
   ·rename_i e2
    have e3:ltStr lot p.1=true:=by
     cases h9:ltStr lot p.1 with
     |true=>rfl
     |false=>exact Ah (Rl (by simpa using e) h9) e2
    refine DN.2 ⟨λz hz=>?_,h⟩;rcases Aw.1 hz with rfl|hz
    ·exact e3
    ·exact swo_ltStr.trans _ _ _ e3 (hp.1 z hz)
theorem uO {Q q:Bf}(hs:GO Q)(hp:Q.Perm q)(lot:List UInt8)(r:Rat):(DC lot r Q).Perm (PA lot r q):=by
 have hnd:(Cr Q).Nodup:=hs.nd;unfold PA;rcases ah (lot:=lot) (r:=r) hs with⟨A,o,B,h1,h2⟩|⟨h0,A,B,h1,h2⟩
 ·have hm:(lot,o)∈q:=hp.mem_iff.1 (by rw[h1];simp)
  have hqn:(Cr q).Nodup:=(hp.map _).nodup_iff.1 hnd;have hlk:=VD hqn hm;dsimp only at hlk;rw[hlk];dsimp only;obtain⟨A2,B2,h3,h4⟩:=VS (v:=r+o) hlk;rw[h2,h4];have p1:(A++(lot,o)::B).Perm ((lot,o)::(A++B)):=Hq;have p2:(A2++(lot,o)::B2).Perm ((lot,o)::(A2++B2)):=Hq;have p3:(A++B).Perm (A2++B2):=by
   rw[h1,h3]at hp;exact List.Perm.cons_inv (p1.symm.trans (hp.trans p2))
  rw[Rat.add_comm o r];exact Hq.trans ((p3.cons _).trans Hq.symm)
 ·have hn:Hc lot q=none:=by
   cases h9:Hc lot q with
   |none=>rfl
   |some o=>
    obtain⟨A2,B2,h3,-⟩:=VS (v:=o) h9;exact Ah ((hp.map (·.1)).mem_iff.2 (by rw[h3];simp)) h0
  rw[hn];dsimp only;rw[(aU (v:=r) hn).2,h2];rw[h1]at hp;exact Hq.trans ((hp.cons _).trans (List.perm_append_singleton _ _).symm)
theorem eK {Q q:Bf}(hs:GO Q)(hp:Q.Perm q)(x:AE):∀j,j<=x.shs.length->GO (Hd x j Q)/\(Hd x j Q).Perm (J7 x j q)
 | 0,_=>⟨hs,hp⟩
 |j+1,hj=>by
  obtain⟨s,hsj⟩:∃s,x.shs[j]?=some s:=⟨_,B4 hj⟩
  obtain⟨h1,h2⟩:=eK hs hp x j (by omega);rw[Zw x j Q hsj,U7 x j q hsj];exact⟨WW h1,uO h1 h2 _ _⟩
theorem SV (l:List AE):∀i,i<=l.length->GO (DX (l.take i))/\(DX (l.take i)).Perm (DW (l.take i))
 | 0,_=>⟨List.Pairwise.nil,.refl _⟩
 |i+1,hi=>by
  obtain⟨x,hx⟩:∃x,l[i]?=some x:=⟨_,B4 hi⟩
  obtain⟨h1,h2⟩:=SV l i (by omega);rw[Zl l i hx,U5 l i hx];exact eK h1 h2 x _ (Am _)
theorem GO.weak {q:Bf}(h:GO q):q.Pairwise λa b=>ltStr b.1 a.1=false:=h.imp λ{a b} h=>by
 cases h9:ltStr b.1 a.1 with
 |false=>rfl
 |true=>have:=swo_ltStr.trans _ _ _ h h9;rw[swo_ltStr.irrefl]at this;cases this
theorem Pw (l:List AE):DX l=Hh (DW l):=by
 obtain⟨h1,h2⟩:=SV l l.length (Am _);rw[DH]at h1 h2;exact nR ((h2.map _).nodup_iff.1 h1.nd) h2 (Pl _) h1.weak (fe _)
theorem Vx (l:List AE):GO (DX l):=by
 obtain⟨h1,-⟩:=SV l l.length (Am _)
 rwa [DH]at h1
def GM (g:List UInt8)(x:AE):AE:=⟨g,x.mass,x.shs⟩
def ID (l:List AE)(g:List UInt8):Nat:=if CR l≠0 then CR l else if Dk g=false then 8 else if l.length=0 then 13 else 0
def On (l:List AE)(g:List UInt8):Nat:=if ID l g≠0 then ID l g else mixN (l.map (GM g))
def Om (l:List AE)(g:List UInt8):AE:=if ID l g≠0 then⟨[],0,[]⟩else mixL (l.map (GM g))
theorem uv (g:List UInt8){l:List AE}{i:Nat}{x:AE}(hx:l[i]?=some x):
  (((l.take i).map (GM g)++l.drop i).map AE.D).set i (.agg [str (sb g),i64 x.mass,.sl false 2 (x.shs.map A0.D)])=((l.take (i+1)).map (GM g)++l.drop (i+1)).map AE.D:=by
 have hi:=(BR.1 hx).1;have hd:l.drop i=x::l.drop (i+1):=by
  rw[E3 hi,(BR.1 hx).2]
 rw[FV,hx,hd];simp only[Du,CX,Option.toList_some,List.map_nil,DO,Gr,E7];rw[PG _ _ (by simp;omega)]
 have:i-(((l.take i).map (GM g)).map AE.D).length=0:=by simp;omega
 rw[this];rfl
theorem kK (b:Bool)(l:List AE)(g:List UInt8)(hl:l.length<=1000000)(hf:∀x∈l,x.lite)(hg:g.length<=100000):AI C0 10 [Au b l,str (sb g)] (.tup [(Om l g).D,i64 (On l g:Nat)]):=by
 refine Ac.walk w1 jd rfl λF=>?_
 have el:(((l.map AE.D).length:Nat):Int)=(l.length:Int):=by rw[Al]
 have cP:=Ts b l (by omega) λx hx=>(hf x hx).1
 have cN:=WC g;have hN:On l g=if ID l g≠0 then ID l g else mixN (l.map (GM g)):=rfl
 have hL:Om l g=if ID l g≠0 then⟨[],0,[]⟩else mixL (l.map (GM g)):=rfl
 have hE:ID l g=if CR l≠0 then CR l else if Dk g=false then 8 else if l.length=0 then 13 else 0:=rfl
 obtain⟨K,hK⟩:∃K,Dk g=K:=⟨_,rfl⟩
 have cW1:=JG (!K) 8;have cW2:=JG ((l.length:Int)==0) 13;have cF:AI C0 27 [.sl true 1 [i64 (CR l:Nat),i64 (if !K then 8 else 0),i64 (if(l.length:Int)==0 then 13 else 0)]] (i64 (ID l g:Nat)):=by
  have:=OU [(CR l:Int),if !K then 8 else 0,if(l.length:Int)==0 then 13 else 0] (by simp)
  have he:En [(CR l:Int),if !K then 8 else 0,if(l.length:Int)==0 then 13 else 0]=((ID l g:Nat):Int):=by
   rw[hE,hK]
   by_cases h1:CR l=0<;>cases K<;>by_cases h3:l.length=0<;>simp[En,h1,h3]
  rw[he]at this;exact this
 rw[hK]at cN;rcases Nat.decEq (ID l g) 0 with g0|g0
 ·have e1:=IM g0
  rw[AH g0]at hN hL;rw[hN,hL];refine AR Aq (Ae el e1) cP cN cW1 cW2 cF AB ?_;exact⟨_,QD _ _,AA.out,rfl⟩
 have e1:=Im g0;rw[AG (λh=>h g0)]at hN hL;rw[hN,hL];have h0:l≠[]:=λh=>by
  rw[hE]at g0;split at g0
  ·rename_i h9;exact h9 g0
  ·split at g0
   ·cases g0
   ·split at g0
    ·cases g0
    ·rename_i h9;exact h9 (by rw[h];rfl)
 refine AR Aq (Ae el e1) cP cN cW1 cW2 cF AB ?_;refine BI.own _ (r5 b l hl h0 _ _) ?_;rintro d H' n' ⟨gk,rfl,rfl,rfl⟩;refine AR Aq kB AB AB AB AB AB AB ?_;refine AC.loop (α:=Nat×Nat) (λp=>⟨[(1,str (sb g)),(4,.optr 0 0 3 0 0),(7,.osl 302 gk 3 0 l.length),(28,i64 (l.length:Int)),(29,i64 (p.1:Int))],[⟨302,gk,28,3,((l.take p.1).map (GM g)++l.drop p.1).map AE.D⟩,⟨0,0,28,3,[.agg [.prim (.string ⟨#[]⟩),.prim (.int .i64 0),.prim (.slice none 0 0)]]⟩],p.2⟩) (λp=>l.length-p.1)
  (λp=>p.1<=l.length) (0,_) (Bg _) AN ?_
 rintro⟨i,n⟩ F hi;dsimp only at hi⊢;rcases BL i l.length with h2|h2
 rotate_left
 ·have e1:=Cx h2
  have:i=l.length:=by omega
  subst this;rw[DH,KH,Dh];have hlr:(l.map (GM g)).length=l.length:=Al ..;have hfr:∀x∈l.map (GM g),x.lite:=λx hx=>by
   obtain⟨y,hy,rfl⟩:=CL.1 hx;obtain⟨⟨a1,a2,a3⟩,a4⟩:=hf y hy;exact⟨⟨hg,a2,a3⟩,a4⟩
  have cM:=lZ false (l.map (GM g)) (by rw[hlr];exact hl) hfr;obtain⟨R,hR⟩:∃R,l.map (GM g)=R:=⟨_,rfl⟩
  rw[hR]at cM hlr⊢;obtain⟨Z,hZ⟩:∃Z:AE,mixL R=Z:=⟨_,rfl⟩
  rw[hZ]at cM⊢;refine AR Aq e1 AB AB AB AB AB AB ?_;have hfz:Fz [⟨302,gk,28,3,R.map AE.D⟩,⟨0,0,28,3,[.agg [.prim (.string ⟨#[]⟩),.prim (.int .i64 0),.prim (.slice none 0 0)]]⟩] [⟨0,0,28,3,[.agg [.prim (.string ⟨#[]⟩),.prim (.int .i64 0),.prim (.slice none 0 0)]]⟩] (.osl 302 gk 3 0 l.length) (Au false R):=by
   have:=H6 (H:=[⟨302,gk,28,3,R.map AE.D⟩,⟨0,0,28,3,[.agg [.prim (.string ⟨#[]⟩),.prim (.int .i64 0),.prim (.slice none 0 0)]]⟩]) (Hf:=[⟨0,0,28,3,[.agg [.prim (.string ⟨#[]⟩),.prim (.int .i64 0),.prim (.slice none 0 0)]]⟩]) (k:=302) (g:=gk) (T:=28) (sz:=3) (l:=R.map AE.D) rfl
   rwa [Al,hlr]at this
  refine BI.own _ (LB [⟨0,0,28,3,[.agg [.prim (.string ⟨#[]⟩),.prim (.int .i64 0),.prim (.slice none 0 0)]]⟩] cM (.drop (.keep .nil)) ⟨hfz,trivial⟩ AJ) ?_;rintro d H2 n2 ⟨rfl,rfl,rfl⟩;unfold AE.D;refine AR Aq kB AB AB AB AB AB AB ?_;exact AM rfl AA.out
 have e1:=Cs h2;have wi:=Cz (i:=i) (by omega);obtain⟨x,hx⟩:=CV h2;obtain⟨es,hes⟩:∃es,((l.take i).map (GM g)++l.drop i).map AE.D=es:=⟨_,rfl⟩
 rw[hes];have hm:es[i]?=some (.agg [str (sb x.grain),i64 x.mass,.sl false 2 (x.shs.map A0.D)]):=by
  rw[<-hes,BT,Ek (by simp;omega)];simp only[Al,Be,FW (KO h2),Nat.sub_self,Gb,Dm,hx,KI];rfl
 refine sZ 600 ?_;refine AF e1 ?_;refine AC.seq ?_;refine AK ?_;refine Ag ?_;refine AC.seq ?_;refine AC.block ?_;refine sZ 700 ?_;refine AF kB ?_;refine An 800 ?_;refine AF (BG kN BX hm) ?_;have hset:es.set i (.agg [str (sb g),i64 x.mass,.sl false 2 (x.shs.map A0.D)])=((l.take (i+1)).map (GM g)++l.drop (i+1)).map AE.D:=by
  rw[<-hes];exact uv g hx
 rw[hset];refine AR Aq wi AB AB AB AB AB AB ?_;exact⟨(i+1,_),h2,by dsimp only;omega,AN⟩
theorem di {l:List AE}(h:mixN l=0):mixL l=⟨(CU l 0).grain,Ak l,MG l⟩:=by
 unfold mixL;rw[AG (λq=>q h)]
theorem rM {H:Hp}{a a' b b' c:D}(h1:Fz H [] a a')(h2:Fz H [] b b'):Fz H [] (.tup [a,b,c]) (.tup [a',b',c]):=.tup rfl λi d d' h h'=>by
 match i with
 | 0=>cases h;cases h';exact h1
 | 1=>cases h;cases h';exact h2
 | 2=>cases h;cases h';exact .refl _
 |n+3=>cases h
def AE.modr (x:AE):Prop:=(x.shs.length<=15\/64<x.shs.length)/\x.lite
theorem VW (l:List UInt8):BU (sb l) (sb l)=true:=by rw[E1];exact Ax rfl
theorem Vy {x:AE}(h:x.modr)(hc:Bw x=0):x.okR:=by
 obtain⟨a,b,c,d⟩:=HZ hc;obtain⟨e,-⟩:=iH h.2 hc;refine⟨?_,b,c,e.2.2⟩
 have:=e.1
 rcases h.1 with q|q<;>omega
def D5 (l:List AE):Int:=l.foldl (λa x=>IntKind.i64.wrap (a+x.mass)) 0
theorem Vc {l:List AE}{i:Nat}{x:AE}(h:l[i]?=some x):D5 (l.take (i+1))=IntKind.i64.wrap (D5 (l.take i)+x.mass):=by
 unfold D5;rw[FV,h];simp
theorem Pz {l:List AE}(hs:NJ l):D5 l=Ak l:=by
 obtain⟨hl,hm⟩:=hs
 have:∀i,i<=l.length->D5 (l.take i)=Ak (l.take i):=λi=>by
  induction i with
  |zero=>exact λ_=>rfl
  |succ i ih=>
   intro hi;obtain⟨x,hx⟩:=CV (show i<l.length by omega);have hb:=WG (l:=l.take i) λy hy=>hm y (HK hy)
   have hxm:=hm x (A8 hx);rw[Be,FW (by omega)]at hb;rw[Vc hx,ih (by omega),R4 hx,wI]
 have:=this l.length (Am _)
 rwa [DH]at this
theorem d7k (b:Bool)(l:List AE)(hl:l.length<=9223372036854775807):AI C0 13 [Au b l] (i64 (D5 l)):=by
 refine Ac.walk w1 d8G rfl λF=>?_
 have el:(((l.map AE.D).length:Nat):Int)=(l.length:Int):=by rw[Al]
 refine AR Aq el AB AB AB AB AB AB ?_;refine AC.loop (α:=Nat×Nat) (λp=>⟨[(0,Au b l),(3,i64 (D5 (l.take p.1))),(4,i64 (p.1:Int))],[],p.2⟩) (λp=>l.length-p.1) (λp=>p.1<=l.length) (0,_) (Bg _) AN ?_;rintro⟨i,m⟩ F hi;dsimp only at hi⊢;rcases BL i l.length with h2|h2
 rotate_left
 ·have e1:=Cx h2
  have:i=l.length:=by omega
  subst this;rw[DH];refine AR Aq (Ae e1 el) AB AB AB AB AB AB ?_;exact AM rfl AA.out
 have e1:=Cs h2;have wi:=Cz (i:=i) (by omega);obtain⟨x,hx⟩:=CV h2;have hm:(l.map AE.D)[i]?=some (.agg [str (sb x.grain),i64 x.mass,.sl false 2 (x.shs.map A0.D)]):=by rw[BT,hx];rfl
 have ws:=(Vc hx).symm;refine AR Aq (Cw e1 el wi ws kN) hm AB AB AB AB AB ?_;exact⟨(i+1,_),h2,by dsimp only;omega,AN⟩
theorem kn (b:Bool)(l:List AE)(hs:NJ l):AI C0 13 [Au b l] (i64 (Ak l)):=by
 have h:=d7k b l (by have:=hs.1;omega)
 rwa [Pz hs]at h
theorem YK (b:Bool)(l:List AE)(hl:l.length<=1000000)(hf:∀x∈l,x.modr):AI C0 8 [Au b l] (i64 (CR l:Nat)):=by
 refine Ac.walk w1 e1Y rfl λF=>?_
 have el:(((l.map AE.D).length:Nat):Int)=(l.length:Int):=by rw[Al]
 have hC:CR l=if 64<l.length then 5 else if DZ (λi=>Bw (CU l i)) l.length≠0 then DZ (λi=>Bw (CU l i)) l.length else if Ak l>999999999 then 4 else 0:=rfl
 by_cases h64:64<l.length
 ·rw[AH h64]at hC
  rw[hC];have q2:decide ((l.length:Int)>64)=true:=BV;refine AR Aq (Ae el q2) AB AB AB AB AB AB ?_;exact AM rfl AA.out
 rw[AG h64]at hC;have q2:decide ((l.length:Int)>64)=false:=BY;refine AR Aq (Ae el q2) AB AB AB AB AB AB ?_;refine AC.loop (α:=Nat×Nat) (λp=>⟨[(0,Au b l),(3,i64 (p.1:Int))],[],p.2⟩) (λp=>l.length-p.1) (λp=>p.1<=l.length/\∀j,j<p.1->Bw (CU l j)=0) (0,_) ⟨Bg _,λj h=>Ah h (HR j)⟩ AN ?_;rintro⟨i,m⟩ F ⟨hi,hz⟩;dsimp only at hi hz⊢;rcases BL i l.length with h2|h2
 rotate_left
 ·have e1:=Cx h2
  have:i=l.length:=by omega
  subst this;rw[AG (λh=>h (IZ (f:=λi=>Bw (CU l i)) hz))]at hC;have cT:=kn b l (VH h64 hz)
  by_cases h9:Ak l>999999999
  ·have e9:decide (Ak l>999999999)=true:=Ax h9
   rw[AH h9]at hC;rw[hC];refine AR Aq (BG e1 el e9) cT AB AB AB AB AB ?_;exact AM rfl AA.out
  ·have e9:decide (Ak l>999999999)=false:=Az h9
   rw[AG h9]at hC;rw[hC];refine AR Aq (BG e1 el e9) cT AB AB AB AB AB ?_;exact AM rfl AA.out
 have e1:=Cs h2;have wi:=Cz (i:=i) (by omega);obtain⟨x,hx⟩:=CV h2;have hm:(l.map AE.D)[i]?=some (.agg [str (sb x.grain),i64 x.mass,.sl false 2 (x.shs.map A0.D)]):=by rw[BT,hx];rfl
 have hxm:=hf x (A8 hx);have cL:=e2l x hxm.1 hxm.2.1;unfold AE.D at cL;rcases Nat.decEq (Bw x) 0 with hc0|hc0
 ·have e3:=IM hc0
  have:=OM (f:=λi=>Bw (CU l i)) hz h2 (by rw[FS hx];exact hc0)
  rw[FS hx]at this;rw[this,AH hc0]at hC;rw[hC];refine AR Aq (Bo e1 el e3 kN) hm cL AB AB AB AB ?_;exact AM rfl AA.out
 have e3:=Im hc0;refine AR Aq (Cw e1 el e3 wi kN) hm cL AB AB AB AB ?_;exact⟨(i+1,_),⟨h2,λj hj=>by
  rcases IQ.1 hj with q|q
  ·exact hz j q
  ·rw[q,FS hx];exact hc0⟩,by dsimp only;omega,AN⟩
theorem HY {l:List AE}(h:CR l=0):l.length<=64/\(∀x∈l,1<=x.mass/\x.mass<=1000000000/\x.shs.length<=1000000)/\NJ l:=by
 obtain⟨g1,g2,g3⟩:=IC h;have hx:∀x∈l,1<=x.mass/\x.mass<=1000000000/\x.shs.length<=1000000:=λx q=>by
  obtain⟨a,b,c,d⟩:=HZ (g2 x q)
  have:=(VN d).2.1
  exact⟨by omega,by omega,by omega⟩
 exact⟨g1,hx,by omega,λx q=>by have:=hx x q;omega⟩
abbrev Sc:Dr:=[(4,[0,1,2,3,4,5,6,7,8,9,10,11,12,13,14],[15,16])]
open Go.Proofs Go.RowKit Go.Sort
set_option maxRecDepth 20000
set_option maxHeartbeats 4000000
structure Bp where
 flow:List UInt8
 core:Int
 room:Int
 side:Int
 cells:List (List AE)
abbrev KC (b:Bool)(cs:List (List AE)):D:=.sl b 1 (cs.map (Au false))
def Bp.D (x:Bp):D:=.agg [str (sb x.flow),i64 x.core,i64 x.room,i64 x.side,KC false x.cells]
instance  (x:Bp):Ap x.D:=by unfold Bp.D;exact AJ
instance  (x:Bp):AA x.D:=by unfold Bp.D;exact AJ
theorem QW (b:Bool)(l:List AE)(hl:l.length<=9223372036854775807):AI C0 30 [Au b l] (i64 (D5 l)):=by
 refine Ac.walk w1 Xm rfl λF=>?_
 have el:(((l.map AE.D).length:Nat):Int)=(l.length:Int):=by rw[Al]
 refine AR Aq el AB AB AB AB AB AB ?_;refine AC.loop (α:=Nat×Nat) (λp=>⟨[(3,i64 (D5 (l.take p.1))),(6,Au b l),(7,i64 (l.length:Int)),(8,i64 (p.1:Int))],[],p.2⟩) (λp=>l.length-p.1) (λp=>p.1<=l.length) (0,_) (Bg _) AN ?_;rintro⟨i,m⟩ F hi;dsimp only at hi⊢;rcases BL i l.length with h2|h2
 rotate_left
 ·have e1:=Cx h2
  have:i=l.length:=by omega
  subst this;rw[DH];refine AR Aq e1 AB AB AB AB AB AB ?_;exact AM rfl AA.out
 have e1:=Cs h2;have wi:=Cz (i:=i) (by omega);obtain⟨x,hx⟩:=CV h2;have hm:(l.map AE.D)[i]?=some (.agg [str (sb x.grain),i64 x.mass,.sl false 2 (x.shs.map A0.D)]):=by rw[BT,hx];rfl
 have wS:=(Vc hx).symm;refine AR Aq (Bo e1 wi @wS kN) hm AB AB AB AB AB ?_;exact⟨(i+1,_),h2,by dsimp only;omega,AN⟩
def Eu (n lo hi:Int):Bool:=decide (n>=lo)&&decide (n<=hi)
theorem P7 (n lo hi:Int):AI C0 77 [i64 n,i64 lo,i64 hi] (Av (Eu n lo hi)):=by
 refine Ac.walk w1 d9B rfl λF=>?_
 obtain⟨p,hp⟩:∃p,decide (n>=lo)=p:=⟨_,rfl⟩
 have hb:Eu n lo hi=(p&&decide (n<=hi)):=by unfold Eu;rw[hp]
 rw[hb];cases p
 ·refine AR Aq (BG hp kT kF) AB AB AB AB AB AB ?_
  exact AM rfl AA.out
 ·refine AR Aq (BG hp kT kF) AB AB AB AB AB AB ?_
  exact AM rfl AA.out
def HD (side:Int)(l:List Int):Bool:=(List.range (l.length-1)).any λi=>!Eu (IntKind.i64.wrap (l.getD (i+1) 0-l.getD i 0)) (IntKind.i64.wrap (0-side)) side
theorem d7r {side:Int}{l:List Int}{i:Nat}(h:i+1<l.length)(hb:Eu (IntKind.i64.wrap (l.getD (i+1) 0-l.getD i 0)) (IntKind.i64.wrap (0-side)) side=false):HD side l=true:=by
 unfold HD;rw[List.any_eq_true];exact⟨i,List.mem_range.2 (by omega),by rw[hb];rfl⟩
theorem d7s {side:Int}{l:List Int}(h:∀i,i+1<l.length->Eu (IntKind.i64.wrap (l.getD (i+1) 0-l.getD i 0)) (IntKind.i64.wrap (0-side)) side=true):HD side l=false:=by
 unfold HD;rw[List.any_eq_false];intro i hi
 have:=List.mem_range.1 hi
 rw[h i (by omega)];decide
theorem ge (x:Bp)(b:Bool)(l:List Int)(hl:l.length<=1000000):AI C0 38 [x.D,.sl b 1 (FA l)] (i64 (if HD x.side l then 17 else 0)):=by
 refine Ac.walk w1 d8Z rfl λF=>?_
 have el:((FA l).length:Int)=(l.length:Int):=by rw[Al]
 have elN:(FA l).length=l.length:=Al ..;unfold Bp.D;obtain⟨cd,hcd⟩:∃d,KC false x.cells=d:=⟨_,rfl⟩
 have pcd:AA cd:=by rw[<-hcd];exact AJ
 have ncd:Jx cd=true:=by rw[<-hcd];rfl
 rw[hcd];refine AR Sc el AB AB AB AB AB AB ?_;refine AC.loop (α:=Nat×Nat) (λp=>⟨[(1,.sl b 1 (FA l)),(2,.optr 0 0 5 0 0),(5,i64 ((p.1+1:Nat):Int))],[⟨0,0,37,5,[.agg [str (sb x.flow),i64 x.core,i64 x.room,i64 x.side,cd]]⟩],p.2⟩) (λp=>l.length-p.1) (λp=>p.1<=l.length/\∀j,j<p.1->Eu (IntKind.i64.wrap (l.getD (j+1) 0-l.getD j 0)) (IntKind.i64.wrap (0-x.side)) x.side=true) (0,_) ⟨Bg _,λj h=>Ah h (HR j)⟩ AN ?_;rintro⟨i,m⟩ F ⟨hi,ha⟩;dsimp only at hi ha⊢;rcases BL (i+1) l.length with h2|h2
 rotate_left
 ·have e1:=Cx h2
  rw[d7s λj hj=>ha j (by omega)];refine AR Sc (Ae el e1) AB AB AB AB AB AB ?_;exact AM rfl AA.out
 have e1:=Cs h2;have wi:=Cz (i:=i+1) (by omega);have w2:IntKind.i64.wrap (((i+1:Nat):Int)-1)=((i:Nat):Int):=by rw[wI];omega
 have hm1:=kP (l:=l) (i:=i+1) h2;have hm2:=kP (l:=l) (i:=i) (by omega);have cW:=P7 (IntKind.i64.wrap (l.getD (i+1) 0-l.getD i 0)) (IntKind.i64.wrap (0-x.side)) x.side;have hbad:=d7r (side:=x.side) h2;obtain⟨u,hu⟩:∃u,l.getD (i+1) 0=u:=⟨_,rfl⟩
 obtain⟨v,hv⟩:∃u,l.getD i 0=u:=⟨_,rfl⟩
 have hgood:=λ(hq:Eu (IntKind.i64.wrap (u-v)) (IntKind.i64.wrap (0-x.side)) x.side=true) (j:Nat) (hj:j<i+1)=>show Eu (IntKind.i64.wrap (l.getD (j+1) 0-l.getD j 0)) (IntKind.i64.wrap (0-x.side)) x.side=true from by
  rcases BL j i with h|h
  ·exact ha j h
  ·have:j=i:=by omega
   subst this;rw[hu,hv];exact hq
 rw[hu]at hm1 cW hbad;rw[hv]at hm2 cW hbad;obtain⟨q,hq⟩:∃q,Eu (IntKind.i64.wrap (u-v)) (IntKind.i64.wrap (0-x.side)) x.side=q:=⟨_,rfl⟩
 rw[hq]at cW hbad hgood;obtain⟨L,hL⟩:∃L,FA l=L:=⟨_,rfl⟩
 have pL:AA (.sl b 1 L):=by rw[<-hL];exact AJ
 rw[hL]at hm1 hm2 el⊢;cases q
 ·rw[hbad rfl]
  refine AR Sc (Cw el e1 w2 wi kN) hm1 hm2 cW AB AB AB ?_;exact AM rfl AA.out
 ·refine AR Sc (Cw el e1 w2 wi kN) hm1 hm2 cW AB AB AB ?_
  exact⟨(i+1,_),⟨by omega,hgood rfl⟩,by dsimp only;omega,AN⟩
def Fu (x:Bp):List Int:=x.cells.map D5
theorem cY (x:Bp)(hl:x.cells.length<=1000000)(hc:∀c∈x.cells,c.length<=9223372036854775807):AI C0 39 [x.D] (.sl false 1 (FA (Fu x))):=by
 refine Ac.walk w1 d9a rfl λF=>?_
 obtain⟨cs,hcs⟩:∃c,x.cells=c:=⟨_,rfl⟩
 have hlv:Fu x=cs.map D5:=by unfold Fu;rw[hcs]
 rw[hlv];rw[hcs]at hl hc;have el:(((cs.map (Au false)).length:Nat):Int)=(cs.length:Int):=by rw[Al]
 unfold Bp.D;rw[hcs];refine sR 0 ?_;refine sR 100 ?_;refine AC.seq ?_;refine sZ 200 ?_;refine AW el ?_;refine AC.ghost 504 3 1 [(3,.osl 504 _ 1 0 0),(7,KC false cs),(8,i64 (cs.length:Int)),(9,i64 ((0:Nat):Int))] ⟨.inr ⟨rfl,rfl⟩,.inl rfl,.inl rfl,.inl rfl,trivial⟩ ?_;refine AC.block ?_;refine AC.loop (α:=Nat×Nat×Nat) (λp=>⟨[(3,.osl 504 p.2.1 1 0 p.1),(7,KC false cs),(8,i64 (cs.length:Int)),(9,i64 (p.1:Int))],[⟨504,p.2.1,3,1,FA ((cs.take p.1).map D5)⟩],p.2.2⟩) (λp=>cs.length-p.1) (λq=>q.1<=cs.length) (0,_,_) (Bg _) AN ?_;rintro⟨i,g,n⟩ F hi;dsimp only at hi⊢;rcases BL i cs.length with h2|h2
 rotate_left
 ·have e1:=Cx h2
  have:i=cs.length:=by omega
  subst this;rw[DH];have hf:=H6 (H:=[⟨504,g,3,1,FA (cs.map D5)⟩]) (Hf:=[]) (k:=504) (g:=g) (T:=3) (sz:=1) (l:=FA (cs.map D5)) rfl;rw[Al,Al]at hf;refine AR Aq e1 AB AB AB AB AB AB ?_;exact⟨_,hf,AA.out,rfl⟩
 have e1:=Cs h2;have wi:=Cz (i:=i) (by omega);obtain⟨c,hc'⟩:=CV h2;have hm:(cs.map (Au false))[i]?=some (.sl false 3 (c.map AE.D)):=by rw[BT,hc'];rfl
 have cT:=QW false c (hc c (A8 hc'));have ht:FA ((cs.take (i+1)).map D5)=FA ((cs.take i).map D5)++[i64 (D5 c)]:=by
  rw[FV,hc',Du];unfold FA;rw[Du];rfl
 have htl:(FA ((cs.take i).map D5)).length=i:=by rw[Al,Al,Be];omega
 obtain⟨R,hR⟩:∃R,FA ((cs.take i).map D5)=R:=⟨_,rfl⟩
 rw[hR]at ht htl⊢;refine AR Aq (BG e1 wi kN) hm cT AB AB AB AB ?_;refine⟨(i+1,n+1+1+1+1+1+1+1+1,n+1000),h2,by dsimp only;omega,?_⟩;dsimp only;rw[ht,Ci (show R.length<=i by omega)];exact AN
abbrev M3:Dr:=[(2,[0,1,2,3,4,5,6,7,8,9,10,11,12,13,14,15,16,17,18,19,20,21,22,23,24,25,26,27,28,29,30,31,32],[33,34,35,36]),(8,[0,1,2,3,4,5,6,7],[8,9,10,11,12]),(12,[0,1,2],[3,4])]
open Go.Proofs Go.RowKit Go.Sort
set_option maxRecDepth 20000
set_option maxHeartbeats 4000000
def G9:ByteArray:=⟨#[109,97,115,115]⟩
def Js:ByteArray:=⟨#[102,117,110,110,101,108]⟩
def QY (x:Bp):Bool:=(BU (sb x.flow) G9&&(x.core==0))||(BU (sb x.flow) Js&&Eu x.core 2 999999999)
def Ng (x:Bp):Int:=if !BU (sb x.flow) G9 && !BU (sb x.flow) Js then 20 else 0
def MK (x:Bp):Int:=if !QY x || !Eu x.room 1 999999999 || !Eu x.side 0 999999999 then 3 else 0
def Jb (x:Bp):Int:=En [Ng x,MK x,if(x.cells.length:Int)==0 then 2 else 0,if decide ((x.cells.length:Int)>8)then 5 else 0]
def GY (x:Bp)(c:List AE):Int:=En [(CR c:Int),((if Eb c then 0 else 16:Nat):Int),if decide (D5 c>x.room)then 14 else 0]
def Hb (x:Bp):List (List AE)->Int
 | []=>0
 |c::r=>if GY x c≠0 then GY x c else Hb x r
def FD (x:Bp):Int:=if Jb x≠0 then Jb x else if Hb x x.cells≠0 then Hb x x.cells else if HD x.side (Fu x)then 17 else 0
theorem vH (x:Bp)(hl:x.cells.length<=1000000)(hc:∀c∈x.cells,c.length<=1000000/\∀y∈c,y.few):AI C0 74 [x.D] (i64 (FD x)):=by
 refine Ac.walk w1 d9y rfl λF=>?_
 have cLv:=cY x hl λc h=>by have:=(hc c h).1;omega
 have cSt:=ge x false (Fu x) (by unfold Fu;rw[Al];exact hl);have cC1:=P7 x.core 2 999999999;have cC2:=P7 x.room 1 999999999;have cC3:=P7 x.side 0 999999999;have cF:=OU [Ng x,MK x,if(x.cells.length:Int)==0 then 2 else 0,if decide ((x.cells.length:Int)>8)then 5 else 0] (by simp);have hF:En [Ng x,MK x,if(x.cells.length:Int)==0 then 2 else 0,if decide ((x.cells.length:Int)>8)then 5 else 0]=Jb x:=rfl;rw[hF]at cF;have cW3:=JG ((x.cells.length:Int)==0) 2;have cW4:=JG (decide ((x.cells.length:Int)>8)) 5;obtain⟨cs,hcs⟩:∃c,x.cells=c:=⟨_,rfl⟩
 have el:(((cs.map (Au false)).length:Nat):Int)=(cs.length:Int):=by rw[Al]
 obtain⟨H,hH⟩:∃h,Jb x=h:=⟨_,rfl⟩
 have hB:FD x=if H≠0 then H else if Hb x x.cells≠0 then Hb x x.cells else if HD x.side (Fu x)then 17 else 0:=by unfold FD;rw[hH]
 obtain⟨K1,hK1⟩:∃h,Ng x=h:=⟨_,rfl⟩
 obtain⟨K2,hK2⟩:∃h,MK x=h:=⟨_,rfl⟩
 obtain⟨CB,hCB⟩:∃h,QY x=h:=⟨_,rfl⟩
 rw[hK1,hK2,hH]at cF;rw[hB];rw[hcs]at cF cW3 cW4 hl hc⊢;unfold Bp.D at cLv cSt⊢;rw[hcs]at cLv cSt⊢;refine sR 0 ?_;refine Fp ⟨[(1,.optr 0 0 5 0 0),(3,Av CB)],[⟨0,0,37,5,[.agg [str (sb x.flow),i64 x.core,i64 x.room,i64 x.side,KC false cs]]⟩],100⟩ ?_ ?_
 ·obtain⟨p1,h1⟩:∃q,BU (sb x.flow) ⟨#[109,97,115,115]⟩=q:=⟨_,rfl⟩
  obtain⟨p2,h2⟩:∃q,BU (sb x.flow) ⟨#[102,117,110,110,101,108]⟩=q:=⟨_,rfl⟩
  obtain⟨c0,h0⟩:∃q,(x.core==0)=q:=⟨_,rfl⟩
  have hb:CB=((p1&&c0)||(p2&&Eu x.core 2 999999999)):=by rw[<-hCB,<-h1,<-h2,<-h0];rfl
  rw[hb];cases p1<;>cases p2<;>cases c0
  all_goals
   refine AR M3 (Cw h1 h2 h0 kT kF) cC1 AB AB AB AB AB ?_;exact⟨trivial,AN⟩
 refine Fp ⟨[(1,.optr 0 0 5 0 0),(4,i64 H)],[⟨0,0,37,5,[.agg [str (sb x.flow),i64 x.core,i64 x.room,i64 x.side,KC false cs]]⟩],1000⟩ ?_ ?_
 ·obtain⟨p1,h1⟩:∃q,BU (sb x.flow) ⟨#[109,97,115,115]⟩=q:=⟨_,rfl⟩
  obtain⟨p2,h2⟩:∃q,BU (sb x.flow) ⟨#[102,117,110,110,101,108]⟩=q:=⟨_,rfl⟩
  obtain⟨wr,hr⟩:∃q,Eu x.room 1 999999999=q:=⟨_,rfl⟩
  obtain⟨ws,hw⟩:∃q,Eu x.side 0 999999999=q:=⟨_,rfl⟩
  have e1:Ng x=if !p1 && !p2 then 20 else 0:=by rw[<-h1,<-h2];rfl
  have e2:MK x=if !CB || !wr || !ws then 3 else 0:=by rw[<-hCB,<-hr,<-hw];rfl
  have cA:=JG (!p1 && !p2) 20;have cB:=JG (!CB || !wr || !ws) 3;rw[<-e1,hK1]at cA;rw[<-e2,hK2]at cB;rw[hr]at cC2;rw[hw]at cC3;clear e1 e2 hcs hK1 hK2 hCB hF cC1 cLv cSt hr hw;cases p1<;>cases p2<;>cases CB<;>cases wr
  all_goals
   refine AR M3 (Cw h1 h2 el kT kF) cA cC2 cC3 cB cW3 cW4 ?_;refine BI.same _ cF AJ ?_;refine Bb ?_;exact⟨trivial,AN⟩
 by_cases hH0:H=0
 rotate_left
 ·have e1:(H != 0)=true:=Kk hH0
  rw[AH hH0];refine AR M3 e1 AB AB AB AB AB AB ?_;exact AM rfl AA.out
 have e1:(H != 0)=false:=by rw[hH0];rfl
 rw[AG (λh=>h hH0)];clear cC1 cC2 cC3 cF cW3 cW4 hK1 hK2 hCB hF hB;refine AR M3 (Ae e1 el) AB AB AB AB AB AB ?_;refine AC.loop (α:=Nat×Nat) (λp=>⟨[(1,.optr 0 0 5 0 0),(66,KC false cs),(67,i64 (cs.length:Int)),(68,i64 (p.1:Int))],[⟨0,0,37,5,[.agg [str (sb x.flow),i64 x.core,i64 x.room,i64 x.side,KC false cs]]⟩],p.2⟩) (λp=>cs.length-p.1) (λq=>q.1<=cs.length/\Hb x (cs.drop q.1)=Hb x cs) (0,_) ⟨Bg _,rfl⟩ AN ?_;rintro⟨i,n⟩ F ⟨hi,hJ⟩;dsimp only at hi hJ⊢;rcases BL i cs.length with h2|h2
 rotate_left
 ·have k1:=Cx h2
  have:i=cs.length:=by omega
  subst this;rw[KH]at hJ;rw[AG (λh=>h (by rw[<-hJ];rfl))];have pLv:AA (.sl false 1 (FA (Fu x))):=AJ;refine AR M3 k1 cLv cSt AB AB AB AB ?_;exact AM rfl AA.out
 have k1:=Cs h2;have wi:=Cz (i:=i) (by omega);obtain⟨c,hc'⟩:=CV h2;have hm:(cs.map (Au false))[i]?=some (.sl false 3 (c.map AE.D)):=by rw[BT,hc'];rfl
 obtain⟨hc1,hc2⟩:=hc c (A8 hc');have cP:=Ts false c (by omega) hc2;have cG:=pi false c hc1;have cT:=QW false c (by omega);have cW:=JG (decide (D5 c>x.room)) 14;have cE:=OU [(CR c:Int),((if Eb c then 0 else 16:Nat):Int),if decide (D5 c>x.room)then 14 else 0] (by simp);have hE:En [(CR c:Int),((if Eb c then 0 else 16:Nat):Int),if decide (D5 c>x.room)then 14 else 0]=GY x c:=rfl;rw[hE]at cE;have hd:cs.drop i=c::cs.drop (i+1):=by
  have:=BR.1 hc'
  rw[E3 this.1,this.2]
 rw[hd]at hJ;have hJ2:Hb x cs=if GY x c≠0 then GY x c else Hb x (cs.drop (i+1)):=hJ.symm
 obtain⟨E,hEE⟩:∃E,GY x c=E:=⟨_,rfl⟩
 rw[hEE]at cE hJ2
 by_cases hE0:E=0
 ·have k2:(E != 0)=false:=by rw[hE0];rfl
  rw[AG (λh=>h hE0)]at hJ2;refine AR M3 (Bo k1 k2 wi kN) hm cP cG cT cW cE ?_;exact⟨(i+1,_),⟨h2,hJ2.symm⟩,by dsimp only;omega,AN⟩
 ·have k2:(E != 0)=true:=Kk hE0
  rw[AH hE0]at hJ2;rw[hJ2,AH hE0];refine AR M3 (Bo k1 k2 wi kN) hm cP cG cT cW cE ?_;exact AM rfl AA.out
theorem rJ {l:List UInt8}(h:BU (sb l) G9=true):BU (sb l) Js=false:=by
 have h1:BU (sb l) (sb [109,97,115,115])=true:=h;rw[Mu]at h1;rw[DQ h1];show BU (sb [109,97,115,115]) (sb [102,117,110,110,101,108])=false;rw[Mu];decide
def Q5 (x:Bp):Bool:=(BU (sb x.flow) G9&&(x.core != 0))||(BU (sb x.flow) Js&&(decide (x.core<2)||decide (x.core>999999999)))||decide (x.room<1)||decide (x.room>999999999)||decide (x.side<0)||decide (x.side>999999999)
theorem d7m {x:Bp}(h:(!BU (sb x.flow) G9 && !BU (sb x.flow) Js)=false):MK x=if Q5 x then 3 else 0:=by
 have hx:=@rJ x.flow;unfold MK Q5 QY Eu;obtain⟨p1,h1⟩:∃q,BU (sb x.flow) G9=q:=⟨_,rfl⟩
 obtain⟨p2,h2⟩:∃q,BU (sb x.flow) Js=q:=⟨_,rfl⟩
 rw[h1,h2]at h hx⊢;have e:(!(p1&&x.core==0||p2&&(decide (x.core>=2)&&decide (x.core<=999999999))) || !(decide (x.room>=1)&&decide (x.room<=999999999)) || !(decide (x.side>=0)&&decide (x.side<=999999999)))
   = (p1&&x.core != 0||p2&&(decide (x.core<2)||decide (x.core>999999999))||decide (x.room<1)||decide (x.room>999999999)||decide (x.side<0)||decide (x.side>999999999)):=by
  cases p1<;>cases p2
  ·cases h
  ·rw[E6];simp;omega
  ·rw[E6];simp;omega
  ·cases hx rfl
 rw[e]
theorem zQ (x:Bp):Jb x=if(!BU (sb x.flow) G9 && !BU (sb x.flow) Js)=true then 20 else if Q5 x=true then 3 else if x.cells.length=0 then 2 else if 8<x.cells.length then 5 else 0:=by
 unfold Jb Ng;cases h:(!BU (sb x.flow) G9 && !BU (sb x.flow) Js)
 ·rw[d7m h,AG Bool.false_ne_true,AG Bool.false_ne_true]
  cases Q5 x
  ·rw[AG Bool.false_ne_true,AG Bool.false_ne_true]
   by_cases h0:x.cells.length=0
   ·rw[AH h0,h0];rfl
   ·have:((x.cells.length:Int)==0)=false:=B8.2 (by omega)
    rw[AG h0,this]
    by_cases h8:8<x.cells.length
    ·rw[AH h8,show decide ((x.cells.length:Int)>8)=true from BV];rfl
    ·rw[AG h8,show decide ((x.cells.length:Int)>8)=false from BY];rfl
  ·rfl
 ·rfl
theorem ZL {x:Bp}:∀ {l:List (List AE)},Hb x l=0->∀c∈l,GY x c=0
 | [],_,c,h=>by cases h
 |d::r,h,c,hc=>by
  have h1:(if GY x d≠0 then GY x d else Hb x r)=0:=h
  by_cases h0:GY x d=0
  ·rw[AG (λq=>q h0)]at h1
   rcases Aw.1 hc with rfl|h2
   ·exact h0
   ·exact ZL h1 c h2
  ·rw[AH h0]at h1;exact Ah h1 h0
theorem M9:∀ {l:List AE},(∀x∈l,0<=x.mass)->0<=Ak l
 | [],_=>Int.le_refl _
 |x::l,h=>by
  have h1:=h x (CF ..);have h2:=M9 λy hy=>h y (B6 _ hy)
  have:Ak (x::l)=x.mass+Ak l:=by unfold Ak;rfl
  omega
theorem gf {x:Bp}{c:List AE}(h:GY x c=0):CR c=0/\Eb c=true/\NJ c/\0<=Ak c/\Ak c<=999999999/\Ak c<=x.room:=by
 have h1:(if(CR c:Int)≠0 then(CR c:Int)else if((if Eb c then 0 else 16:Nat):Int)≠0 then((if Eb c then 0 else 16:Nat):Int)else if(if decide (D5 c>x.room)then(14:Int)else 0)≠0 then(if decide (D5 c>x.room)then(14:Int)else 0)else 0)=0:=h
 by_cases hp:CR c=0
 rotate_left
 ·rw[DJ]at h1;omega
 rw[hp,AG (λq=>q rfl)]at h1;obtain⟨g1,g2,g3⟩:=HY hp;have g4:=(IC hp).2.2;have hT:=Pz g3;have g5:0<=Ak c:=M9 λy hy=>by have:=(g2 y hy).1;omega
 cases hg:Eb c
 ·rw[hg]at h1;cases h1
 rw[hg,AG (by decide)]at h1;refine⟨hp,rfl,g3,g5,g4,?_⟩;rw[hT]at h1
 by_cases hr:Ak c>x.room
 ·rw[Ax hr]at h1;cases h1
 ·omega
def KP (x:Bp)(i:Int):Bool:=Eu i 0 ((x.cells.length:Int)-1)
theorem d8y (x:Bp)(hl:x.cells.length<=1000000)(i:Int):AI C0 76 [i64 i,.pptr x.D] (Av (!KP x i)):=by
 refine Ac.walk w1 d9A rfl λF=>?_
 have cW:=P7 i 0 ((x.cells.length:Int)-1);have hb:KP x i=Eu i 0 ((x.cells.length:Int)-1):=rfl;have w2:IntKind.i64.wrap ((x.cells.length:Int)-1)=(x.cells.length:Int)-1:=wI;obtain⟨cs,hcs⟩:∃c,x.cells=c:=⟨_,rfl⟩
 have el:(((cs.map (Au false)).length:Nat):Int)=(cs.length:Int):=by rw[Al]
 unfold Bp.D;rw[hb];rw[hcs]at cW w2⊢;refine AR Aq (Ae el w2) cW AB AB AB AB AB ?_;exact AM rfl AA.out
theorem d9U (b:Bool)(l:List Int)(c:D)[pc:AA c](p:Int->Bool)(hl:l.length<=1000000)(hc:∀x∈l,AI C0 76 [i64 x,c] (Av (p x))):AI C0 125 [.sl b 1 (FA l),.clo (.func 76) [] [c]] (i64 (MF p l)):=by
 refine Ac.walk w1 vu rfl λF=>?_
 have el:(((FA l).length:Nat):Int)=(l.length:Int):=by rw[Al]
 refine AR Aq el AB AB AB AB AB AB ?_;refine AC.loop (α:=Nat×Nat) (λp=>⟨[(0,.sl b 1 (FA l)),(1,.clo (.func 76) [] [c]),(7,i64 l.length),(8,i64 (p.1:Int))],[],p.2⟩) (λp=>l.length-p.1) (λq=>q.1<=l.length/\∀(j:Nat) (x:Int),j<q.1->l[j]?=some x->p x=false) (0,_) ⟨Bg _,λj x hj=>Ah hj (HR j)⟩ AN ?_;rintro⟨i,n⟩ F ⟨hi,ha⟩;dsimp only at hi ha⊢;rcases BL i l.length with h2|h2
 rotate_left
 ·have e1:=Cx h2
  have:i=l.length:=by omega
  subst this;refine AR Aq e1 AB AB AB AB AB AB ?_;exact AM (by rw[aC ha]) AA.out
 have e1:=Cs h2;have wi:=Cz (i:=i) (by omega);obtain⟨x,hx⟩:=CV h2;have hm:(FA l)[i]?=some (i64 x):=by rw[BT,hx];rfl
 have cn:=hc x (A8 hx);cases hb:p x
 ·rw[hb]at cn
  refine AR Aq (BG e1 wi kN) hm cn AB AB AB AB ?_;refine⟨(i+1,_),⟨h2,λj z hj hjz=>?_⟩,by dsimp only;omega,AN⟩;rcases BL j i with h|h
  ·exact ha j z h hjz
  ·have:j=i:=by dsimp only at hj;omega
   subst this;rw[hx]at hjz;cases hjz;exact hb
 ·rw[hb]at cn
  refine AR Aq (BG e1 wi kN) hm cn AB AB AB AB ?_;exact AM (by rw[dJ hx hb ha]) AA.out
theorem d9Q (b:Bool)(l:List Int)(c:D)[pc:AA c](p:Int->Bool)(hl:l.length<=1000000)(hc:∀x∈l,AI C0 76 [i64 x,c] (Av (p x))):AI C0 75 [.sl b 1 (FA l),.clo (.func 76) [] [c]] (Av (l.any p)):=by
 refine Ac.walk w1 d9z rfl λF=>?_
 have c1:=d9U b l c p hl hc;have e1:=dK p l;refine AR Aq e1 c1 AB AB AB AB AB ?_;exact AM rfl AA.out
def K4 (x:Bp)(ns:List Int):Int:=if FD x≠0 then FD x else if ns.any (λi=>!KP x i)then 10 else 0
theorem e0i (x:Bp)(hl:x.cells.length<=1000000)(hc:∀c∈x.cells,c.length<=1000000/\∀y∈c,y.few)(ns:List Int)(hn:ns.length<=1000000):AI C0 28 [x.D,.sl true 1 (FA ns)] (i64 (K4 x ns)):=by
 refine Ac.walk w1 d8S rfl λF=>?_
 have cB:=vH x hl hc;have cH:=d9Q true ns (.pptr x.D) (λi=>!KP x i) hn λi _=>d8y x hl i
 have cW:=JG (ns.any λi=>!KP x i) 10;have hE:K4 x ns=if FD x≠0 then FD x else if ns.any (λi=>!KP x i)then 10 else 0:=rfl
 obtain⟨E,hEE⟩:∃E,FD x=E:=⟨_,rfl⟩
 rw[hEE]at cB hE;have hx:∃a b c d e,x.D=.agg [a,b,c,d,e]:=⟨_,_,_,_,_,rfl⟩
 have px:AA x.D:=AJ;have px2:Ap x.D:=AJ;obtain⟨a1,a2,a3,a4,a5,hx⟩:=hx;rw[hx]at cB cH px px2⊢;rw[hE]
 by_cases h0:E=0
 rotate_left
 ·have k2:(E != 0)=true:=Kk h0
  rw[AH h0];refine AR Aq k2 cB AB AB AB AB AB ?_;exact AM rfl AA.out
 have k2:(E != 0)=false:=by rw[h0];rfl
 rw[AG (λh=>h h0)];refine AR Aq k2 cB AB AB AB AB AB ?_;refine BI.own _ (Q7 cH rfl (λi a d h1 h2=>by
  match i with
  | 0=>cases h1;cases h2;exact .refl _ _
  | 1=>cases h1;cases h2;exact .clo1 (.ptr rfl rfl rfl rfl)
  |n+2=>cases h1) AJ (.prim _)) ?_
 rintro d H' n' ⟨rfl,rfl,rfl⟩;refine AR Aq k2 cW AB AB AB AB AB ?_;exact AM rfl AA.out
end Go.Ide
