/- The layer of own lemmas and contracts, part 4. -/
import Derived.Test.YtbfcnlkcimghoaaGreatDoorAB3
import Derived.ChangeArms
import Derived.ChangeSlices
import Derived.OpenShut
import Derived.Maps.RangeRun
set_option linter.unusedVariables false
set_option linter.unusedSimpArgs false
namespace Go.Ide
open Go.RowKit
section
variable {C:BH} {X:EV} {B F:AZ} {ops:Array Oper} {s:St} {rd:Option Nat} {Q:Exit->AZ->St->Prop}
structure OP (C:BH)(B F:AZ)(k g:Nat)(str:ByteArray)(pos:Nat):Prop where
 ex:∃it,F.r0 k g=some it/\F.X it/\¬F.Wr it/\F.w0.heap[it]?=some (.stringIter str pos)/\C.nG<=it/\∀ {ρ:Lk} {H:Hp} {w:World},Aj C (F.wr it) ρ H w->Aj C B ρ H w
 df:F.df=B.df
theorem BW.putX {ρ:Lk}{O:Nat->Prop}{w:World}{l:Nat}(hO:O l){o0:Obj}(hc:∀cs T fz,o0≠.cells cs T fz)(h:w.heap[l]?=some o0)(o:Obj):BW ρ O w ρ O (w.putObj l o):=
 ⟨by rw[(KT w l o).2.2.2];exact Am _,λ_ _ _ h=>h,λb hb hb'=>⟨hb',World.putObj_heap_other λhbl=>hb' (by rw[hbl];exact hO)⟩,λb cs T fz hh=>⟨cs,_,by
  rw[World.putObj_heap_other λhbl=>by rw[hbl,h]at hh;exact hc _ _ _ (GJ hh)];exact hh,rfl⟩⟩
theorem Aj.putX {ρ:Lk}{H:Hp}{w:World}{l:Nat}(m:Aj C F ρ H w)(hX:F.X l)(hW:F.Wr l){o0:Obj}(hc:∀cs T fz,o0≠.cells cs T fz)(h:w.heap[l]?=some o0)(o:Obj):Aj C F ρ H (w.putObj l o):=by
 have x:=BW.putX (ρ:=ρ) (O:=AL F.X ρ H) (.inl hX) hc h o;exact⟨⟨λe he=>by
  rcases m.hok.ent e he with h|⟨b,cs,a1,a2,a3⟩
  ·exact .inl h
  ·exact .inr ⟨b,cs,a1,by rw[World.putObj_heap_other λhb=>(m.hok.own e he b a1).1 (by rw[hb];exact hX)];exact a2,a3.mono x⟩,m.hok.inj,m.hok.own⟩,
  m.os,m.tape,m.output,by rw[(KT w l o).2.2.2];exact m.size,λb hb hw=>by rw[World.putObj_heap_other λhbl=>hw (by rw[hbl];exact hW)];exact m.blk b hb hw,m.xlt,m.g0,m.gn,m.gw,m.lnk,Ic m.shp x⟩
def W9 (C:BH)(X:EV)(B:AZ)(kb:Nat)(ops:Array Oper)(ir:Nat)(Q:Exit->AZ->St->Prop)(s:St):Prop:=match Dz ops.toList ir with
 |some o=>match o.guard with
  |none=>match o.op with
   | .range t x=>match X.tt t with
    |some i=>match i.ti with
     | .string=>match BE s.env x with
      | .prim (.string str)=>∀F':AZ,OP C B F' kb s.n str 0->Q .normal F' ⟨Bq s.env o.dst (.optr kb s.n 0 0 0),s.H,s.n+1⟩
      |_=>False
     |_=>False
    |none=>False
   |_=>False
  |some _=>False
 |none=>False
theorem ly {F2:AZ}{ρ':Lk}{H':Hp}{w':World}{X':Nat->Prop}(hB:C1 C B F)(hdf:F.df=B.df)(hX:∀b,F.X b->X' b)(hsz:B.w0.heap.size<=w'.heap.size)(hm:∀ {ρ:Lk} {H:Hp} {w:World},Aj C (AZ.subZ ρ' H' w' F.nt X' (λ_=>False) F.df) ρ H w->Aj C B ρ H w)
  (h2:F2=AZ.subZ ρ' H' w' F.nt X' (λ_=>False) F.df):C1 C B F2:=by
 subst h2;exact⟨hB.nt,hsz,hm,λb hb=>hX b (hB.X b hb),[],hdf,[],rfl,.nil,by simp⟩
theorem e3p {i:Nat}(hX:Di C X)(kb:Nat)(l1:List Nat)(ir:Nat)(hl:List.range ops.size=l1++[ir])(hnd:EL ops.toList=true)(hFB:F=B)
  (h:C7 C X kb ops l1 s True λacc s1=>acc/\W9 C X B (kb+ir) ops ir Q s1):AC C B rd F (.region i ops false) s Q:=by
 subst hFB;refine⟨λhB hd ρ a w hs=>wpIn_region ?_⟩;rw[hl];have hlt:∀j∈l1++[ir],j<ops.size:=λj hj=>by rw[<-hl]at hj;exact List.mem_range.1 hj
 have h1:=(FQ (F:=F) (K':=W9 C X F (kb+ir) ops ir Q) hX (λacc s h=>h) h).2.run (λj hj=>hlt j (by simp[hj])) (Jq hB hd) hs;refine GP (rd:=rd) (Q:=GB C F Q) (l2:=[ir]) (λe a w h=>?_) (Ib hnd) _ a w h1;obtain⟨h0,s1,ρ1,h,hs1⟩:=h;refine⟨h0,?_⟩;unfold W9 at h;split at h<;>first|exact h.elim|skip
 rename_i o ho;split at h<;>first|exact h.elim|skip
 rename_i hgd;split at h<;>first|exact h.elim|skip
 rename_i t x hop;split at h<;>first|exact h.elim|skip
 rename_i ti hti;split at h<;>first|exact h.elim|skip
 rename_i hstr;split at h<;>first|exact h.elim|skip
 rename_i str hx;have ho:=Mr ho;have hdo:DL F.nt o=true:=Cc.1 (show ops.toList.all (DL F.nt)=true from hd) o (KM.2 (KK ho));simp only[wpOpsIn,ho];rw[AH (by unfold Region.wanted;rw[hgd])];have hxv:a.eval x=.string str:=by
  have:=Dc hs1.env x
  rw[hx]at this;generalize a.eval x=v at this;cases this;rfl
 have hrun:(execOp a.eval o).run C.P w=.ok (.value (.pointer (some ⟨w.heap.size,0,none⟩))) (w.alloc (.stringIter str 0)):=by
  unfold execOp;simp only[hop];rw[run_bind]
  have:(Instr.range t (a.eval x)).run C.P w=.ok (.pointer (some ⟨w.heap.size,0,none⟩)) (w.alloc (.stringIter str 0)):=by
   unfold Instr.range;rw[run_bind,Ck (Mk (hX.tt _ _ hti) hstr),hxv];dsimp only;rw[run_bind,run_pure];dsimp only;rw[run_bind,run_newObj_alloc];rfl
  rw[this];rfl
 refine Pa hrun ?_;show GB C F Q .normal _ _;have m:=hs1.mem
 let it:=w.heap.size
 let X1:Nat->Prop:=λb=>F.X b\/b=it
 have hown:∀e∈s1.H,∀b,ρ1 e.k e.g=some b->b<w.heap.size:=λe he b hb=>m.lt he hb
 have hfr:ρ1 (kb+ir) s1.n=none:=hs1.fresh _ _ (Am _)
 let ρ2:=ρ1.put (kb+ir) s1.n it
 have hput:∀k g b,ρ1 k g=some b->ρ2 k g=some b:=λk g b hb=>PD hfr hb
 have hown2:∀e∈s1.H,∀b,ρ2 e.k e.g=some b->ρ1 e.k e.g=some b:=λe he b hb=>by
  have hg:=hs1.gen e he
  have:ρ2 e.k e.g=ρ1 e.k e.g:=by
   show(if e.k=kb+ir/\e.g=s1.n then some it else ρ1 e.k e.g)=_;rw[B3]
  rw[<-this];exact hb
 have hw1:(w.alloc (.stringIter str 0)).heap.size=w.heap.size+1:=World.size_alloc ..;have hold:∀b,b<w.heap.size->(w.alloc (.stringIter str 0)).heap[b]?=w.heap[b]?:=λb hb=>by rw[EJ,B3]
 have xx:∀X':Nat->Prop,(∀b,b<w.heap.size->X' b->F.X b)->BW ρ1 (AL F.X ρ1 s1.H) w ρ2 (AL X' ρ2 s1.H) (w.alloc (.stringIter str 0)):=λX' hX'=>by
  refine⟨by omega,hput,λb hb hO=>⟨?_,hold b hb⟩,λb cs T fz hc=>⟨cs,_,by rw[hold b (DE.1 hc).1];exact hc,rfl⟩⟩;rintro(h|⟨e,he,h⟩)
  ·exact hO (.inl (hX' b hb h))
  ·exact hO (.inr ⟨e,he,hown2 e he b h⟩)
 have m1:Aj C F ρ2 s1.H (w.alloc (.stringIter str 0)):=by
  have x1:=xx F.X λ_ _ h=>h
  refine⟨⟨λe he=>?_,m.hok.inj.imp_of_mem λ{e e'} he he' h b b' hb hb'=>h b b' (hown2 e he b hb) (hown2 e' he' b' hb'),λe he b hb=>m.hok.own e he b (hown2 e he b hb)⟩,m.os,m.tape,m.output,by have:=m.size;omega,
   λb hb hW=>by rw[hold b (Cb hb m.size)];exact m.blk b hb hW,m.xlt,m.g0,m.gn,m.gw,λk g b h=>hput _ _ _ (m.lnk k g b h),Ic m.shp x1⟩
  rcases m.hok.ent e he with⟨h1,h2⟩|⟨b,cs,a1,a2,a3⟩
  ·refine .inl ⟨h1,?_⟩
   cases hb:ρ2 e.k e.g with
   |none=>rfl
   |some b=>rw[hown2 e he b hb]at h2;cases h2
  ·exact .inr ⟨b,cs,hput _ _ _ a1,by rw[hold b (m.lt he a1)];exact a2,a3.mono x1⟩
 have hitm:∀e∈s1.H,∀b,ρ2 e.k e.g=some b->b≠it:=λe he b hb=>by have:=hown e he b (hown2 e he b hb);simp only[it];omega
 have hX1lt:∀b,X1 b->b<(w.alloc (.stringIter str 0)).heap.size:=λb hb=>by
  rcases hb with h|h
  ·have:=m.xlt b h;have:=m.size;omega
  ·simp only[it]at h;omega
 have hX1o:∀e∈s1.H,∀b,ρ2 e.k e.g=some b->¬X1 b:=λe he b hb hb'=>by
  rcases hb' with h|h
  ·exact(m.hok.own e he b (hown2 e he b hb)).1 h
  ·exact hitm e he b hb h
 have e2:∀e∈s1.H,∀b,AL F.X ρ2 s1.H b->AL X1 ρ2 s1.H b:=λ_ _ _ h=>h.imp .inl id
 have hng:C.nG<=it:=by have:=m.gn;have:=m.size;simp only[it];omega
 have ent:∀Z:Nat->Prop,(∀b,Z b->b=it)->Aj C (AZ.subZ ρ2 s1.H (w.alloc (.stringIter str 0)) F.nt X1 Z F.df) ρ2 s1.H (w.alloc (.stringIter str 0)):=λZ hZ=>by
  refine⟨⟨λe he=>?_,m1.hok.inj,λe he b hb=>⟨hX1o e he b hb,.inr (.inl ⟨e,he,hb⟩)⟩⟩,rfl,rfl,rfl,Am _,λ_ _ _=>rfl,hX1lt,m1.g,BP m1.gn m1.size,λb hb=>?_,λ_ _ _ h=>h,λ_ cs _ _ h=>⟨cs,_,h,rfl⟩⟩
  ·rcases m.hok.ent e he with⟨h1,h2⟩|⟨b,cs,a1,a2,a3⟩
   ·rcases m1.hok.ent e he with h|⟨b,cs,b1,_⟩
    ·exact .inl h
    ·rw[hown2 e he b b1]at h2;cases h2
   ·exact .inr ⟨b,cs,hput _ _ _ a1,by rw[hold b (m.lt he a1)];exact a2,a3.mono (xx X1 λb hb h=>h.resolve_right λh=>by simp only[it]at h;omega)⟩
  ·rcases hb with⟨e,he,hb⟩|hb
   ·rcases(m1.hok.own e he b hb).2 with h|h
    ·exact BP m1.gn h
    ·exact m1.gw b h
   ·rw[hZ b hb];exact hng
 let F2:=AZ.subZ ρ2 s1.H (w.alloc (.stringIter str 0)) F.nt X1 (λ_=>False) F.df
 have upZ:∀ {ρ:Lk} {H:Hp} {w':World},Aj C (F2.wr it) ρ H w'->Aj C F ρ H w':=λ{ρ H w'} m'=>by
  have m'':Aj C (AZ.subZ ρ2 s1.H (w.alloc (.stringIter str 0)) F.nt X1 (λb=>b=it) F.df) ρ H w':=TM m' rfl rfl rfl (λb hb=>by
   rcases hb with(hb|hb)|hb
   ·exact .inl hb
   ·exact hb.elim
   ·exact .inr hb) (ent _ λ_ h=>h).gw
  exact(m1.leaveZ (λb hb=>.inl hb) (λb hb=>.inl (by rw[hb];exact m.size)) m'').1
 have hit:OP C F F2 (kb+ir) s1.n str 0:=⟨⟨it,Ej ..,.inr rfl,λh=>by
  rcases h with⟨e,he,h⟩|h
  ·exact hitm e he it h rfl
  ·exact h,by show(w.alloc _).heap[it]?=_;rw[EJ,AH rfl],hng,upZ⟩,rfl⟩
 have hF2:C1 C F F2:=ly hB rfl (λb hb=>.inl hb) (by have:=m.size;show _<=(w.alloc _).heap.size;omega) (λm'=>upZ (m'.wr hng)) rfl;refine⟨F2,_,ρ2,hF2,h F2 hit,?_⟩;have hs2:B9 C F2 ρ2 ⟨s1.env,s1.H,s1.n+1⟩ a (w.alloc (.stringIter str 0)):=⟨ent _ λ_ h=>h.elim,λk g hg=>by
  have hg:s1.n+1<=g:=hg;show(if k=kb+ir/\g=s1.n then some it else ρ1 k g)=none;rw[B3];exact hs1.fresh k g (by omega),λe he=>DP (hs1.gen e he),λt=>(hs1.env t).mono (xx X1 λb hb h=>h.resolve_right λh=>by simp only[it]at h;omega),hs1.nt,hs1.dfr⟩
 exact hs2.put (H':=s1.H) hs2.mem (.refl _ _ _) hs2.fresh hs2.gen (.optr (Ej ..)) hdo
def kX (C:BH)(X:EV)(B F:AZ)(kb:Nat)(ops:Array Oper)(i0:Nat)(l2:List Nat)(str:ByteArray)(pos:Nat)(Q:Exit->AZ->St->Prop)(s:St):Prop:=match Dz ops.toList i0 with
 |some o=>match o.guard with
  |none=>match o.op with
   | .next x true=>match BE s.env x with
    | .optr k g 0 0 0=>OP C B F k g str pos /\
     (pos<str.size->∀F':AZ,OP C B F' k g str (pos+(Utf8.decode str pos).2)->C7 C X kb ops l2 ⟨Bq s.env o.dst (.tup [Av true,i64 pos,.prim (.int .i32 (Utf8.decode str pos).1)]),s.H,s.n+1⟩ True λacc s=>acc/\Q .normal F' s) /\
     (¬pos<str.size->C7 C X kb ops l2 ⟨Bq s.env o.dst (.tup [Av false]),s.H,s.n+1⟩ True λacc s=>acc/\Q .normal F s)
    |_=>False
   |_=>False
  |some _=>False
 |none=>False
theorem e3n {i:Nat}(hX:Di C X)(kb:Nat)(i0:Nat)(l2:List Nat)(hl:List.range ops.size=i0::l2)(hnd:EL ops.toList=true)(str:ByteArray)(pos:Nat)
  (h:kX C X B F kb ops i0 l2 str pos Q s):AC C B rd F (.region i ops false) s Q:=by
 refine⟨λhB hd ρ a w hs=>wpIn_region ?_⟩;rw[hl];have hlt:∀j∈i0::l2,j<ops.size:=λj hj=>by rw[<-hl]at hj;exact List.mem_range.1 hj
 unfold kX at h;split at h<;>first|exact h.elim|skip
 rename_i o ho;split at h<;>first|exact h.elim|skip
 rename_i hgd;split at h<;>first|exact h.elim|skip
 rename_i x hop;split at h<;>first|exact h.elim|skip
 rename_i k g hx;obtain⟨⟨⟨it,i1,i2,i3,i4,i5,i6⟩,idf⟩,h1,h2⟩:=h;have ho:=Mr ho;have hdo:DL B.nt o=true:=Cc.1 (show ops.toList.all (DL B.nt)=true from hd) o (KM.2 (KK ho));simp only[wpOpsIn,ho];rw[AH (by unfold Region.wanted;rw[hgd])];have m:=hs.mem;have hlk:ρ k g=some it:=m.lnk _ _ _ i1;have hxv:a.eval x=.pointer (some ⟨it,0,none⟩):=by
  have:=Dc hs.env x
  rw[hx]at this;generalize a.eval x=v at this;cases this with
  |optr hr=>rw[hlk]at hr;cases hr;rfl
 have hob:w.heap[it]?=some (.stringIter str pos):=(m.blk it (m.xlt it i2) i3).trans i4;have hget:(getObj it).run C.P w=.ok (.stringIter str pos) w:=by
  simp[getObj,Sem.run,hob]
 by_cases hp:pos<str.size
 ·have hrun:(execOp a.eval o).run C.P w=.ok (.value (.tuple #[.bool true,.int .i64 pos,.int .i32 (Utf8.decode str pos).1])) (w.putObj it (.stringIter str (pos+(Utf8.decode str pos).2))):=by
   unfold execOp;simp only[hop];rw[run_bind]
   have:(Instr.next (a.eval x) true o.type).run C.P w=.ok (.tuple #[.bool true,.int .i64 pos,.int .i32 (Utf8.decode str pos).1]) (w.putObj it (.stringIter str (pos+(Utf8.decode str pos).2))):=by
    unfold Instr.next;rw[hxv];simp only[];rw[run_bind,hget];dsimp only;rw[AH hp];rw[run_bind]
    have:(setObj it (.stringIter str (pos+(Utf8.decode str pos).2))).run C.P w=.ok () (w.putObj it (.stringIter str (pos+(Utf8.decode str pos).2))):=by
     simp[setObj,Sem.run,hob,World.putObj]
    rw[this];rfl
   rw[this];rfl
  refine Pa hrun ?_;have mp:=(m.wr i5).putX i2 (.inr rfl) (o0:=.stringIter str pos) (by simp) hob (.stringIter str (pos+(Utf8.decode str pos).2));have xp:=BW.putX (ρ:=ρ) (O:=AL F.X ρ s.H) (w:=w) (.inl i2) (o0:=.stringIter str pos) (by simp) hob (.stringIter str (pos+(Utf8.decode str pos).2));have hitw:it<w.heap.size:=(DE.1 hob).1;have hit':(w.putObj it (.stringIter str (pos+(Utf8.decode str pos).2))).heap[it]?=some (.stringIter str (pos+(Utf8.decode str pos).2)):=World.putObj_heap_same hitw;have hszp:=(KT w it (.stringIter str (pos+(Utf8.decode str pos).2))).2.2.2;generalize w.putObj it (.stringIter str (pos+(Utf8.decode str pos).2))=w2 at mp xp hit' hszp⊢
  let F2:=AZ.subZ ρ s.H w2 F.nt F.X (λ_=>False) F.df
  have m2:Aj C F2 ρ s.H w2:=mp.enterZ (.refl _ _ _) rfl rfl rfl (λ_ _ _=>rfl) (λ_ _ _ _ h=>h) (λb hb=>Cb (mp.xlt b hb) mp.size) (λe he b hb=>(mp.hok.own e he b hb).1) (λ_ h=>h.elim) _ _;have mZ:Aj C (AZ.subZ ρ s.H w2 F.nt F.X (λb=>b=it) F.df) ρ s.H w2:=mp.enterZ (.refl _ _ _) rfl rfl rfl (λ_ _ _=>rfl) (λe he b hb hb'=>(mp.hok.own e he b hb).1 (by rw[hb'];exact i2)) (λb hb=>Cb (mp.xlt b hb) mp.size) (λe he b hb=>(mp.hok.own e he b hb).1) (λb hb=>by rw[hb];exact i5) _ _;have upZ:∀ {ρ':Lk} {H':Hp} {w':World},Aj C (F2.wr it) ρ' H' w'->Aj C B ρ' H' w':=λ{ρ' H' w'} m'=>by
   have m'':Aj C (AZ.subZ ρ s.H w2 F.nt F.X (λb=>b=it) F.df) ρ' H' w':=TM m' rfl rfl rfl (λb hb=>by
    rcases hb with(hb|hb)|hb
    ·exact .inl hb
    ·exact hb.elim
    ·exact .inr hb) mZ.gw
   exact i6 (mp.leaveZ (λ_ h=>h) (λb hb=>.inr (.inr hb)) m'').1
  have hiter:OP C B F2 k g str (pos+(Utf8.decode str pos).2):=⟨⟨it,hlk,i2,λh=>by
   rcases h with⟨e,he,h⟩|h
   ·exact(mp.hok.own e he it h).1 i2
   ·exact h,hit',i5,upZ⟩,idf⟩
  have hB2:C1 C B F2:=ly hB idf (λ_ h=>h) (by rw[hszp];exact BP hB.sz m.size) (λm'=>upZ (m'.wr i5)) rfl;have hs1:B9 C F2 ρ ⟨s.env,s.H,s.n+1⟩ a w2:=⟨m2,λk g hg=>hs.fresh k g (by have:s.n+1<=g:=hg;omega),λe he=>DP (hs.gen e he),λt=>(hs.env t).mono xp,hs.nt,hs.dfr⟩
  have hs2:=hs1.put (H':=s.H) (o:=o) (d:=.tup [Av true,i64 pos,.prim (.int .i32 (Utf8.decode str pos).1)]) (v:=.tuple #[.bool true,.int .i64 pos,.int .i32 (Utf8.decode str pos).1]) hs1.mem (.refl _ _ _) hs1.fresh hs1.gen (.tup rfl λi d hd=>by
   match i with
   | 0=>simp at hd;subst hd;exact .prim _
   | 1=>simp at hd;subst hd;exact .prim _
   | 2=>simp at hd;subst hd;exact .prim _
   |n+3=>simp at hd) (by rw[show F2.nt=B.nt from hB.nt];exact hdo)
  have h3:=(FQ (F:=F2) (K':=Q .normal F2) hX (λacc s h=>h) (h1 hp F2 hiter)).2.run (λj hj=>hlt j (by simp[hj])) (Jq hB2 hd) hs2
  have:=GP (rd:=rd) (Q:=GB C B Q) (l2:=[]) (λ_ _ _ h=>LX hB2 (λ_ h=>h) h) (Ib hnd) _ _ _ h3
  rwa [Dh]at this
 ·have hrun:(execOp a.eval o).run C.P w=.ok (.value (.tuple #[.bool false])) w:=by
   unfold execOp;simp only[hop];rw[run_bind]
   have:(Instr.next (a.eval x) true o.type).run C.P w=.ok (.tuple #[.bool false]) w:=by
    unfold Instr.next;rw[hxv];simp only[];rw[run_bind,hget];dsimp only;rw[AG hp];rfl
   rw[this];rfl
  refine Pa hrun ?_;have hs1:B9 C F ρ ⟨s.env,s.H,s.n+1⟩ a w:=⟨m,λk g hg=>hs.fresh k g (by have:s.n+1<=g:=hg;omega),λe he=>DP (hs.gen e he),hs.env,hs.nt,hs.dfr⟩
  have hs2:=hs1.put (H':=s.H) (o:=o) (d:=.tup [Av false]) (v:=.tuple #[.bool false]) hs1.mem (.refl _ _ _) hs1.fresh hs1.gen (.tup rfl λi d hd=>by
   match i with
   | 0=>simp at hd;subst hd;exact .prim _
   |n+1=>simp at hd) (by rw[hB.nt];exact hdo)
  have h3:=(FQ (F:=F) (K':=Q .normal F) hX (λacc s h=>h) (h2 hp)).2.run (λj hj=>hlt j (by simp[hj])) (Jq hB hd) hs2
  have:=GP (rd:=rd) (Q:=GB C B Q) (l2:=[]) (λ_ _ _ h=>LX hB (λ_ h=>h) h) (Ib hnd) _ _ _ h3
  rwa [Dh]at this
end
section
variable {ops:Array Oper}
def Tk (ops:Array Oper):List (Nat×List Nat)->Bool
 | []=>true
 |(i,l)::r=>Tk ops r&&l.all λj=>Co j (GS ops i)||(GS ops i).any λk=>Co j (DV r k)
theorem Un:∀ {clo:List (Nat×List Nat)},Tk ops clo=true->∀i j,j∈DV clo i->DU ops i j
 | [],_,i,j,hj=>by simp[DV]at hj
 |(k,l)::r,h,i,j,hj=>by
  simp only[Tk,BM,Cc]at h;unfold DV at hj;split at hj
  ·rename_i hk
   have:=Bi hk
   subst this
   have:=h.2 j hj
   simp only[Ma,List.any_eq_true]at this;rcases this with h1|⟨q,h1,h2⟩
   ·exact .dep (FB.1 h1)
   ·exact .step h1 (Un h.1 q j (FB.1 h2))
  ·exact Un h.1 i j hj
theorem Z9:∀(l done:List Nat) (acc:List (Nat×List Nat)),NG ops done l=true->(∀k∈done,∀j,DU ops k j->j∈DV acc k) ->
  ∀i,(i∈done\/i∈l)->∀j,DU ops i j->j∈DV (Hg ops l acc) i
 | [],done,acc,_,h,i,hi,j,hr=>h i (hi.resolve_right (by simp)) j hr
 |i::l,done,acc,hf,h,i',hi,j,hr=>by
  simp only[NG,BM]at hf;refine Z9 l (i::done) _ hf.2 (λk hk j hr=>?_) i' ?_ j hr
  ·unfold DV
   split
   ·rename_i hk'
    have:=Bi hk'
    subst this;refine Ro.2 (.inl ?_);rw[Bs];cases hr with
    |dep h1=>exact .inl h1
    |step h1 h2=>exact .inr (List.mem_flatMap.2 ⟨_,h1,h _ (LQ.1 hf.1 _ h1) _ h2⟩)
   ·rename_i hk'
    rcases Aw.1 hk with rfl|hk
    ·simp at hk'
    ·exact h k hk j hr
  ·rcases hi with hi|hi
   ·exact .inl (B6 _ hi)
   ·rcases Aw.1 hi with rfl|hi
    ·exact .inl CF
    ·exact .inr hi
theorem aL {all:List Nat}{clo clo':List (Nat×List Nat)}(h:∀i j,i∈all->j∈DV clo i->j∈DV clo' i):∀(l done:List Nat),(∀i∈l,i∈all)->MI ops all clo done l=true->MI ops all clo' done l=true
 | [],_,_,_=>rfl
 |i::l,done,hl,hp=>by
  simp only[MI,BM]at hp⊢;refine⟨?_,aL h l _ (λk hk=>hl k (B6 _ hk)) hp.2⟩;have hp1:=hp.1;split at hp1
  ·rw[Cc]at hp1⊢
   intro t ht
   have:=hp1 t ht
   rw[Cc]at this⊢;intro j hj
   have:=this j hj
   simp only[Ma,BM,BZ]at this⊢;rcases this with h1|⟨h1,h2⟩|⟨⟨h1,h2⟩,h3⟩
   ·exact .inl h1
   ·exact .inr (.inl ⟨FB.2 (h _ _ (hl i CF) (FB.1 h1)),h2⟩)
   ·exact .inr (.inr ⟨⟨FB.2 (h _ _ hj (FB.1 h1)),h2⟩,h3⟩)
  ·cases hp1
theorem aY {clo clo':List (Nat×List Nat)}{all:List Nat}(h:∀i j,i∈all->j∈DV clo i->j∈DV clo' i):∀(l done:List Nat),(∀i∈l,i∈all)->MP clo done l=true->MP clo' done l=true
 | [],_,_,_=>rfl
 |i::l,done,hl,hp=>by
  simp only[MP,BM]at hp⊢;exact⟨LQ.2 λk hk=>h _ _ (hl i CF) (LQ.1 hp.1 k hk),aY h l _ (λk hk=>hl k (B6 _ hk)) hp.2⟩
def kz (ops:Array Oper)(pre suf:List Nat)(clo:List (Nat×List Nat)):Bool:=
 Lu (pre++suf)&&If (List.range ops.size) (pre++suf)&&(pre++suf).all (λi=>Nat.blt i ops.size)&&NG ops [] (pre++suf) &&
 Lu (pre.flatMap (L4 ops))&&MI ops pre clo [] pre&&MP clo pre suf
theorem cj {pre suf:List Nat}(clo:List (Nat×List Nat))(h:(kz ops pre suf clo&&Tk ops clo&&EL ops.toList)=true):(GD ops pre suf&&EL ops.toList)=true:=by
 simp only[kz,BM]at h;obtain⟨⟨⟨⟨⟨⟨⟨⟨c1,c2⟩,c3⟩,c4⟩,c5⟩,c6⟩,c7⟩,c8⟩,c9⟩:=h;have key:∀i j,i∈pre++suf->j∈DV clo i->j∈DV (Hg ops (pre++suf) []) i:=λi j hi hj=>Z9 (pre++suf) [] [] c4 (by simp) i (.inr hi) j (Un c8 i j hj)
 simp only[GD,BM];exact⟨⟨⟨⟨⟨⟨⟨c1,c2⟩,c3⟩,c4⟩,c5⟩,aL (λi j hi hj=>key i j (IS _ hi) hj) _ _ (λ_ h=>h) c6⟩,
  aY (all:=suf) (λi j hi hj=>key i j (List.mem_append_right _ hi) hj) _ _ (λ_ h=>h) c7⟩,c9⟩
end
section
variable {C:BH} {X:EV} {kb:Nat} {ops:Array Oper} {i:Nat} {l:List Nat} {s:St} {acc:Prop} {K:Prop->St->Prop} {o:Oper}
theorem Pb (h:K acc s):C7 C X kb ops [] s acc K:=h
theorem Ea (h:Dz ops.toList i=some o)(hg:o.guard=none)(hk:GN C X (kb+i) (BE s.env) s.H s.n o.op acc λacc d H n=>C7 C X kb ops l ⟨Bq s.env o.dst d,H,n⟩ acc K):C7 C X kb ops (i::l) s acc K:=by
 unfold C7;simp only[h,hg];exact hk
theorem I4 {g:Nat×Bool}{b:Bool}(h:Dz ops.toList i=some o)(hg:o.guard=some g)(hw:CD ops s.env o=some b)(hb:b=true)(ha:acc)
  (hk:GN C X (kb+i) (BE s.env) s.H s.n o.op True λacc d H n=>C7 C X kb ops l ⟨Bq s.env o.dst d,H,n⟩ acc K):C7 C X kb ops (i::l) s acc K:=by
 unfold C7;simp only[h,hg,hw];subst hb;exact⟨ha,hk⟩
theorem aI {g:Nat×Bool}{b:Bool}(h:Dz ops.toList i=some o)(hg:o.guard=some g)(hw:CD ops s.env o=some b)(hb:b=false)(ha:acc)
  (hk:C7 C X kb ops l ⟨Bq s.env o.dst (.prim (.tuple #[])),s.H,s.n+1⟩ True K):C7 C X kb ops (i::l) s acc K:=by
 unfold C7;simp only[h,hg,hw];subst hb;exact⟨ha,hk⟩
section
variable {g:Operand->D} {H:Hp} {n:Nat} {op:Op} {k:Prop->D->Hp->Nat->Prop}
theorem I9 {P:Prop->Prop}{d:D}{H':Hp}{n':Nat}(hs:∀acc k,GN C X kb g H n op acc k=k (P acc) d H' n')(hk:k (P acc) d H' n'):GN C X kb g H n op acc k:=by rw[hs];exact hk
theorem OG {f:Nat}{ds:List D}(hs:∀acc k,GN C X kb g H n op acc k=(acc/\BI C f ds H n λd H n=>k True d H n))(ha:acc)(hc:BI C f ds H n λd H n=>k True d H n):GN C X kb g H n op acc k:=by
 rw[hs];exact⟨ha,hc⟩
theorem XV {es:List D}{j:Int}{sz esz:Nat}{d:D}(hs:∀acc k,GN C X kb g H n op acc k=(acc/\(sz=esz/\0<=j)/\∃d,es[j.toNat]?=some d/\k True (.pptr d) H (n+1)))(ha:acc)(h1:sz=esz/\0<=j)
  (h2:es[j.toNat]?=some d) (hk:k True (.pptr d) H (n+1)):GN C X kb g H n op acc k:=by
 rw[hs];exact⟨ha,h1,d,h2,hk⟩
end
section
variable {H:Hp} {n:Nat} {env:As} {N:Hp} {K:Prop->As->Hp->Prop}
theorem R5 (h:K acc env N):Ed C X kb ops H n [] env N acc K:=h
theorem FN (h:Dz ops.toList i=some o)(hg:o.guard=none)(hk:Em C X (kb+i) (BE env) H (n+i) o.op acc λacc d ne=>Ed C X kb ops H n l (Bq env o.dst d) (Cp ne N) acc K):Ed C X kb ops H n (i::l) env N acc K:=by
 unfold Ed;simp only[h,hg];exact hk
theorem Ld {g:Nat×Bool}{b:Bool}(h:Dz ops.toList i=some o)(hg:o.guard=some g)(hw:CD ops env o=some b)(hb:b=true)(ha:acc)
  (hk:Em C X (kb+i) (BE env) H (n+i) o.op True λacc d ne=>Ed C X kb ops H n l (Bq env o.dst d) (Cp ne N) acc K):Ed C X kb ops H n (i::l) env N acc K:=by
 unfold Ed;simp only[h,hg,hw];subst hb;exact⟨ha,hk⟩
theorem aH {g:Nat×Bool}{b:Bool}(h:Dz ops.toList i=some o)(hg:o.guard=some g)(hw:CD ops env o=some b)(hb:b=false)(ha:acc)
  (hk:Ed C X kb ops H n l (Bq env o.dst (.prim (.tuple #[]))) N True K):Ed C X kb ops H n (i::l) env N acc K:=by
 unfold Ed;simp only[h,hg,hw];subst hb;exact⟨ha,hk⟩
section
variable {g:Operand->D} {op:Op} {k:Prop->D->Option Af->Prop}
theorem G6 {P:Prop->Prop}{d:D}{ne:Option Af}(hs:∀acc k,Em C X kb g H n op acc k=k (P acc) d ne)(hk:k (P acc) d ne):Em C X kb g H n op acc k:=by rw[hs];exact hk
theorem Mx {f:Nat}{ds:List D}(hs:∀acc k,Em C X kb g H n op acc k=(acc/\BN C f ds λd=>k True d none))(ha:acc)(hc:BN C f ds λd=>k True d none):Em C X kb g H n op acc k:=by
 rw[hs];exact⟨ha,hc⟩
theorem Ob {es:List D}{j:Int}{sz esz:Nat}{d:D}(hs:∀acc k,Em C X kb g H n op acc k=(acc/\(sz=esz/\0<=j)/\∃d,es[j.toNat]?=some d/\k True (.pptr d) none))(ha:acc)(h1:sz=esz/\0<=j)
  (h2:es[j.toNat]?=some d) (hk:k True (.pptr d) none):Em C X kb g H n op acc k:=by
 rw[hs];exact⟨ha,h1,d,h2,hk⟩
end
end
end
def Dw (H:Hp)(d0 d:D):Prop:=∀(C:BH) (F:AZ) (ρ:Lk) (w:World),Aj C F ρ H w->(∀b,AL F.X ρ [] b->AL F.X ρ H b)->(∀e∈H,∀b,ρ e.k e.g=some b->¬AL F.X ρ [] b) ->
 ∀v,AV ρ (AL F.X ρ H) w d0 v->AV ρ (AL F.X ρ []) w d v
theorem Dw.refl (H:Hp)(d:D):Dw H d d:=λ_ _ _ _ _ hO _ _ hv=>hv.anti hO
theorem Dw.clo1 {H:Hp}{fn:Fn}{c c':D}(h:Dw H c c'):Dw H (.clo fn [] [c]) (.clo fn [] [c']):=λC F ρ w m hO hN v hv=>by
 cases hv with
 |clo hf hc h1 h2=>
  refine .clo hf (by simpa using hc) (λi d hd=>by simp at hd) λi d hd=>?_
  match i with
  | 0=>
   simp at hd;subst hd;exact h C F ρ w m hO hN _ (h2 0 _ rfl)
  |i+1=>simp at hd
theorem Dw.ptr {H:Hp}{k g sz:Nat}{e:Af}{x:D}(he:Hp.get H k=some e)(hg:g=e.g)(hs:sz=e.sz)(hx:e.es=[x]):Dw H (.optr k g sz 0 0) (.pptr x):=λC F ρ w m hO hN v hv=>by
 subst hg hs;obtain⟨hm,hk⟩:=Hp.get_mem he;cases hv with
 |optr hr=>
  rename_i b;rw[<-hk]at hr;obtain⟨cs,h1,h2⟩:=m.at hm hr;have hlen:=h2.len;rw[hx]at hlen;have hsz:=h2.siz 0 x (by rw[hx];rfl);have hin:∀n,n<x.cells.length->n<cs.size:=λn hn=>by
   simp only[By,Ir]at hlen;omega
  rw[show 0*e.sz+0=0 from by omega];refine .pptr (λn=>cs.getD n undef) (hN e hm b hr) (m.lt hm hr) (λn hn=>?_) (λn hn=>?_) λj d hd=>?_
  ·rw[BX];simp[World.cell?,h1,hin n hn]
  ·have:=h2.one _ _ (CW (hin n hn))
   simpa[Ar,CW (hin n hn)]using this
  ·have:=h2.rep 0 x j d (by rw[hx];rfl) hd
   rw[HP,BX]at this;exact this.anti hO
def d8r (tt:Nat->Option Ai)(rs:List ResultVar)(Φ:D->Prop)(e:Exit)(_:AZ)(s:St):Prop:=match e with
 | .normal | .ret=>KA tt s rs λd0=>∃d,Dw s.H d0 d/\CI d/\Φ d
 |_=>False
section
variable {C:BH} {X:EV}
theorem mI {f:Nat}{i:FI}{args:List D}{Φ:D->Prop}(hX:Di C X)(hf:KS C.P f i)(hnt:Nat.ble args.length i.nt=true)
  (h:∀F:AZ,AC C F none F i.code ⟨Dd 0 args,[],0⟩ (d8r X.tt i.res Φ)):Ac C f args Φ:=by
 obtain⟨fn,hf,hb,hn,hd,hni,hres⟩:=hf;rw[<-hni]at hnt;refine⟨⟨fn,i.code,hf,hb,hn⟩,λY w vs hG hnG hX' hvs hr=>?_⟩;have hnt:=Cf hnt;refine(LW (rd:=none) (n:=0)).1 (callsIn_of_wp_marks hf hb AB ?_);have hown:∀b,AL Y nol [] b↔Y b:=by simp[AL]
 have hoe:AL Y nol []=Y:=funext λb=>propext (hown b)
 let F0:AZ:=⟨w,Y,λ_=>False,fn.ntmps,nol,[]⟩
 have sat:B9 C F0 nol ⟨Dd 0 args,[],0⟩ { tmps:=vs++Array.replicate (fn.ntmps-vs.size) undef,defers:=[] } w:=by
  refine⟨⟨⟨by simp,.nil,by simp⟩,rfl,rfl,rfl,Am _,λ_ _ _=>rfl,hX',hG,hnG,by simp[F0],λ_ _ _ h=>h,λ_ cs _ _ h=>⟨cs,_,h,rfl⟩⟩,λ_ _ _=>rfl,by simp,λt=>?_,by simp[F0];omega,rfl⟩;show AV nol (AL Y nol []) w _ _;rw[hoe];exact P4 hvs hr t
 refine wpIn_mono ((h F0).out (.refl F0) hd nol _ w sat) ?_;rintro e a' w' ⟨F',s',ρ',hF,hq,hs'⟩;have key:KA X.tt s' i.res (λd0=>∃d,Dw s'.H d0 d/\CI d/\Φ d)->LeavesInM (fw none) 0 C.P fn a'.tmps (λe w'=>∃v d,e=.returned v/\Below w.heap.size w w'/\Φ d/\AV nol Y w' d v) a'.defers .returning w':=λhq=>by
  obtain⟨d0,p,h1,h2,d,h3,h4,h5⟩:=SL hq;rw[<-hres]at h1;obtain⟨v,w2,_,hl,mF,r2,hXX,x,hbl,hsz,F2,m2,hX2⟩:=hF.finish hX.tt rfl hs' h1 h2;refine hl _ ⟨v,d,rfl,⟨mF.os,mF.tape,mF.output,mF.size,λb hb=>mF.blk b hb (by simp[F0])⟩,h5,?_⟩;have hH:C2 s'.H [] s'.H []:=by
   generalize s'.H=H0
   have:∀H1:Hp,C2 H0 [] H1 []:=λH1=>by
    induction H1 with
    |nil=>exact .nil
    |cons e r ih=>exact .drop ih
   exact this H0
  obtain⟨m,hO,hN⟩:=hH.mem m2;have r3:=h3 _ _ _ _ m2 hO (λe he b hb=>hN e he b hb rfl) v (by rw[hX2];exact r2);have r4:=h4 _ nol _ _ _ r3;exact r4.anti λb hb=>.inl (by rw[hX2];exact hXX b hb)
 cases e with
 |normal=>exact key hq
 |ret=>exact key hq
 |_=>exact hq.elim
theorem Q7 {f:Nat}{ds ds':List D}{d:D}{H:Hp}{n:Nat}(hc:AI C f ds' d)(hl:ds'.length=ds.length)(hv:∀(i:Nat) (a b:D),ds[i]?=some a->ds'[i]?=some b->Dw H a b)
  (hp:AU ds') (hflat:D9 d):C4 C f ds H n (λd' H' n'=>d'=d/\H'=H/\n'=n+1):=by
 refine⟨hc.1,λF ρ w vs m hfr hg hvs hr=>?_⟩;have hH:C2 H [] H []:=by
  generalize H=H0
  have:∀H1:Hp,C2 H0 [] H1 []:=λH1=>by
   induction H1 with
   |nil=>exact .nil
   |cons e r ih=>exact .drop ih
  exact this H0
 obtain⟨m',hO,hN⟩:=hH.mem m;refine(hc.2 (AL F.X ρ []) w vs m.g (BP m.gn m.size) (λb hb=>m'.own_lt hb) (by omega) λi x hx=>?_).mono ?_
 ·have hi:i<ds'.length:=(BR.1 hx).1
  have hd0:ds[i]?=some ds[i]:=Ce;exact hp.out x (A8 hx) _ _ _ _ _ (hv i _ x hd0 hx C F ρ w m hO (λe he b hb=>hN e he b hb rfl) _ (hr i _ hd0))
 ·rintro e w' ⟨v,d',rfl,hb,hd',rep⟩
  subst hd';have x:BW ρ (AL F.X ρ H) w ρ (AL F.X ρ H) w':=⟨hb.size,λ_ _ _ h=>h,λb hb' hO=>⟨hO,hb.block b hb'⟩,λb cs T fz hh=>⟨cs,_,by
   rw[hb.block b (DE.1 hh).1];exact hh,rfl⟩⟩
  exact⟨v,_,H,n+1,ρ,rfl,⟨rfl,rfl,rfl⟩,m.same x hb.os hb.tape hb.output hb.block,x,λk g hg'=>hfr k g (by omega),λe he=>DP (hg e he),hflat _ _ _ _ _ _ _ rep⟩
end
abbrev CG (z:Int):D:=.agg [i64 z,CS]
abbrev Cy (a b:Int):D:=.agg [i64 a,CS,i64 b,CS]
theorem J5 {y n:Prop}:Kw true y n=y:=rfl
theorem Oq {y n:Prop}:Kw false y n=n:=rfl
theorem Kf {H Hf:Hp}:∀r:Hp,C2 H Hf r r
 | []=>.nil
 |_::r=>.keep (Kf r)
theorem Bu {P:Prop}(h:P:=by(repeat'(first|exact AB|exact rfl|exact Or.inl rfl|exact Or.inr rfl|exact Eg.agg|exact T9 rfl|exact Cf rfl|refine A7 ?_ ?_|(intro hq;first|exact rfl|exact AB|(exact Ah hq (by decide)))|exact Am _|omega|decide|(dsimp only[List.length_cons,List.length_nil];omega)))):P:=h
structure DM (Q:Prop):Prop where
 out:Q
theorem BA {P Q:Prop}(h:Q)(e:DM Q->P:=by intro hq;(try dsimp only[CG,Cy,Es,Bq,Cp,BE,As.get,F7,Gq,Ez,Kt,J6,Fl,Fh,D.cells,ofV,Hp.get,Hp.set,Hp.del,IE,Dd,IH,cond,J8,Ov,Oa,Ik,Oz,Co,List.map,List.length,List.append,List.nil_append,List.cons_append,List.append_nil,List.size_toArray,List.length_cons,List.length_nil,Value.cells,List.toList_toArray,Array.toList,Nat.reduceAdd,Nat.reduceMul,Nat.beq,Nat.reduceSub,Co,JO,Es,Bool.false_and,Bool.true_and,Bool.true_or,Bool.false_or,Bool.not_true,Bool.not_false]);exact hq.out):P:=e ⟨h⟩
theorem A9 {A P Q:Prop}(h:Q)(a:A:=by exact Bu)(e:DM Q->P:=by intro hq;refine BA ?_;exact hq.out):A/\P:=⟨a,e ⟨h⟩⟩
theorem AN {s s':St}(a:C2 s.H s'.H s.H s'.H:=by(first|(exact Kf _)|(repeat(first|exact .nil|(exact Kf _)|refine .keep ?_|refine .drop ?_))))
  (b:NM s.H s'.H s.env s'.env:=by(repeat'(first|exact AB|exact Fz.refl _|refine A7 ?_ ?_|(refine d9O ?_;dsimp only[CG,Cy,Es,Bq,Cp,BE,As.get,F7,Gq,Ez,Kt,J6,Fl,Fh,D.cells,ofV,Hp.get,Hp.set,Hp.del,IE,Dd,IH,cond,J8,Ov,Oa,Ik,Oz,Co,List.map,List.length,List.append,List.nil_append,List.cons_append,List.append_nil,List.size_toArray,List.length_cons,List.length_nil,Value.cells,List.toList_toArray,Array.toList,Nat.reduceAdd,Nat.reduceMul,Nat.beq,Nat.reduceSub,Co,JO,Es,Bool.false_and,Bool.true_and,Bool.true_or,Bool.false_or,Bool.not_true,Bool.not_false];first|exact rfl|(simp_all;done)))))
  (c:s.n<=s'.n:=by(first|exact Am _|decide|(dsimp only;omega))):Wk s s':=⟨a,b,c⟩
theorem Bb {P Q:Prop}(h:Q)(e:DM Q->P:=by
  intro hq
  repeat(first|(refine Ea rfl rfl ?_;refine I9 (λ_ _=>rfl) ?_)|(refine FN rfl rfl ?_;refine G6 (λ_ _=>rfl) ?_))
  try(refine R5 ?_;repeat(first|(refine Ea rfl rfl ?_;refine I9 (λ_ _=>rfl) ?_)|(refine FN rfl rfl ?_;refine G6 (λ_ _=>rfl) ?_)))
  first|refine Pb (A7 Bu ?_)|(refine Ea rfl rfl ?_;refine OG (λ_ _=>rfl) Bu ?_)|(refine FN rfl rfl ?_;refine Mx (λ_ _=>rfl) Bu ?_)|skip
  refine BA ?_;exact hq.out):P:=e ⟨h⟩
section
variable {C:BH} {X:EV} {kb:Nat} {g:Operand->D} {H:Hp} {n:Nat} {acc:Prop}
theorem R2 {p a:Prop}(hp:p):(p/\a)=a:=propext ⟨And.right,λh=>⟨hp,h⟩⟩
theorem dU {tt:Nat->Option Ai}{t:Nat}{x:Operand}{i:Ai}{k' gg sz j off:Nat}{e:Af}{d d':D}(h1:tt t=some i)(h2:g x=.optr k' gg sz j off)(h3:Hp.get H k'=some e)
  (h4:e.es[j]?=some d) (h5:Ez i.ag i.sz off d.cells=some d'):
  EE tt H n kb g (.load t x)=some (d',none,gg=e.g/\sz=e.sz/\(bif i.ag then Nat.ble (off+i.sz) d.cells.length else true)=true):=by
 simp only[EE,h1,h2,h3,h4,h5]
theorem TK {t:Nat}{x:Operand}{i:Ai}{k' gg sz j off:Nat}{e:Af}{d d':D}{k:Prop->D->Hp->Nat->Prop}(h1:X.tt t=some i)(h2:g x=.optr k' gg sz j off)(h3:Hp.get H k'=some e)
  (h4:e.es[j]?=some d) (hk:k acc d' H (n+1)) (h5:Ez i.ag i.sz off d.cells=some d':=by exact rfl) (h6:gg=e.g/\sz=e.sz/\(bif i.ag then Nat.ble (off+i.sz) d.cells.length else true)=true:=by exact Bu):
  GN C X kb g H n (.load t x) acc k:=by
 unfold GN;simp only[dU h1 h2 h3 h4 h5,R2 h6];exact hk
theorem Lw {t:Nat}{x:Operand}{i:Ai}{k' gg sz j off:Nat}{e:Af}{d d':D}{k:Prop->D->Option Af->Prop}(h1:X.tt t=some i)(h2:g x=.optr k' gg sz j off)(h3:Hp.get H k'=some e)
  (h4:e.es[j]?=some d) (hk:k acc d' none) (h5:Ez i.ag i.sz off d.cells=some d':=by exact rfl) (h6:gg=e.g/\sz=e.sz/\(bif i.ag then Nat.ble (off+i.sz) d.cells.length else true)=true:=by exact Bu):
  Em C X kb g H n (.load t x) acc k:=by
 unfold Em;simp only[dU h1 h2 h3 h4 h5,R2 h6];exact hk
theorem So {fop:Operand}{args:Array Operand}{tys:Array Nat}{f:Nat}{first captured ds:List D}{d:D}{k:Prop->D->Hp->Nat->Prop}(hf:g fop=.clo (.func f) first captured)(hd:first++args.toList.map g++captured=ds)
  (hn:X.nat f ds=some d) (hk:k acc d H (n+1)):GN C X kb g H n (.call ⟨.value fop,args,tys⟩) acc k:=by
 subst hd;unfold GN;simp only[hf,hn];exact hk
theorem QK {fop:Operand}{args:Array Operand}{tys:Array Nat}{f:Nat}{first captured ds:List D}{d:D}{k:Prop->D->Option Af->Prop}(hf:g fop=.clo (.func f) first captured)(hd:first++args.toList.map g++captured=ds)
  (hn:X.nat f ds=some d) (hk:k acc d none):Em C X kb g H n (.call ⟨.value fop,args,tys⟩) acc k:=by
 subst hd;unfold Em;simp only[hf,hn];exact hk
theorem Oc {t:Nat}{x y:Operand}{i:Ai}{k' gg sz j off:Nat}{e:Af}{d d':D}{k:Prop->D->Hp->Nat->Prop}(h1:X.tt t=some i)(h2:g x=.optr k' gg sz j off)(h3:Hp.get H k'=some e)
  (h4:e.es[j]?=some d) (hk:k acc (.prim (.tuple #[])) (Hp.set H k' ⟨e.k,e.g,e.T,e.sz,e.es.set j d'⟩) (n+1))
  (h5:Gq i off sz d (g y)=d':=by exact rfl) (h6:Eg i.ag i.sz (g y)/\gg=e.g/\sz=e.sz/\Nat.ble (off+i.sz) e.sz=true:=by exact Bu):
  GN C X kb g H n (.store t x y) acc k:=by
 subst h5;unfold GN;simp only[E8,h1,h2,h3,h4,R2 h6,Py];exact hk
end
section
variable {C:BH} {X:EV} {kb:Nat} {ops:Array Oper} {iw:Nat} {ia:Option Nat} {R:Hp} {clo:List Nat} {n i:Nat} {l:List Nat} {env:As} {N:Hp} {accE acc':Option Af} {acc:Prop} {K:Prop->As->Hp->Af->Af->Prop} {o:Oper}
theorem Ut {e e':Af}(h:K acc env N e e'):Ep C X kb ops iw ia R clo n [] env N (some e) (some e') acc K:=h
theorem Jn (h:Dz ops.toList i=some o)(hw:Nat.beq i iw=false)(ha:JO ia i=false)(hg:o.guard=none)
  (hk:Em C X (kb+i) (BE env) (Ik ia accE R (Co i clo)) (n+i) o.op acc λacc d ne=>Ep C X kb ops iw ia R clo n l (Bq env o.dst d) (Cp ne N) accE acc' acc K):
  Ep C X kb ops iw ia R clo n (i::l) env N accE acc' acc K:=by
 unfold Ep;simp only[h,hw,ha,hg];exact hk
theorem Vf {e:Af}(h:Dz ops.toList i=some o)(hw:Nat.beq i iw=true)(hg:o.guard=none)
  (hk:MR X (kb+i) e (n+i) (BE env) o.op acc λacc d e'=>Ep C X kb ops iw ia R clo n l (Bq env o.dst d) N (some e) (some e') acc K):
  Ep C X kb ops iw ia R clo n (i::l) env N (some e) none acc K:=by
 unfold Ep;simp only[h,hw,hg];exact hk
theorem Ve (h:Dz ops.toList i=some o)(hw:Nat.beq i iw=false)(ha:JO ia i=true)(hg:o.guard=none)
  (hk:Em C X (kb+i) (BE env) R (n+i) o.op acc λacc d ne=>match ne with
   |some e=>Ep C X kb ops iw ia R clo n l (Bq env o.dst d) N (some e) acc' acc K
   |none=>False):
  Ep C X kb ops iw ia R clo n (i::l) env N none acc' acc K:=by
 unfold Ep;simp only[h,hw,ha,hg];exact hk
theorem Vq {e:Af}{g:Operand->D}{op:Op}{k:Prop->D->Af->Prop}{P:Prop->Prop}{d:D}{e':Af}(hs:∀acc k,MR X kb e n g op acc k=k (P acc) d e')(hk:k (P acc) d e'):MR X kb e n g op acc k:=by rw[hs];exact hk
theorem WL {e:Af}{g:Operand->D}{t:Nat}{x y:Operand}{i:Ai}{k' gg sz j off:Nat}{d d':D}{k:Prop->D->Af->Prop}(h1:X.tt t=some i)(h2:g x=.optr k' gg sz j off)(h3:Hp.get [e] k'=some e)
  (h4:e.es[j]?=some d) (hk:k acc (.prim (.tuple #[])) ⟨e.k,e.g,e.T,e.sz,e.es.set j d'⟩)
  (h5:Gq i off sz d (g y)=d':=by exact rfl) (h6:Eg i.ag i.sz (g y)/\gg=e.g/\sz=e.sz/\Nat.ble (off+i.sz) e.sz=true:=by exact Bu):
  MR X kb e n g (.store t x y) acc k:=by
 subst h5;unfold MR;simp only[E8,h1,h2,h3,h4,R2 h6,Py];exact hk
end
theorem S7 (K g T sz:Nat)(l:List D):Fz [⟨K,g,T,sz,l⟩] [] (.osl K g sz 0 l.length) (.sl false sz l):=by
 refine .osl (e:=⟨K,g,T,sz,l⟩) (by simp[Hp.get]) rfl rfl rfl (by simp) (by simp) (λj d d' h1 h2=>?_) λj d d' q c c' h1 h2 h3 h4=>?_
 ·rw[BX]at h1;rw[h1]at h2;cases h2;rfl
 ·rw[BX]at h1;rw[h1]at h2;cases h2;rw[h3]at h4;cases h4;exact Fz.refl _
section
variable {A B D E F G:Prop}
theorem Ae (a:A)(b:B):A/\B:=⟨a,b⟩
theorem BG (a:A)(b:B)(c:D):A/\B/\D:=⟨a,b,c⟩
theorem Bo (a:A)(b:B)(c:D)(d:E):A/\B/\D/\E:=⟨a,b,c,d⟩
theorem Cw (a:A)(b:B)(c:D)(d:E)(e:F):A/\B/\D/\E/\F:=⟨a,b,c,d,e⟩
theorem Fd (a:A)(b:B)(c:D)(d:E)(e:F)(f:G):A/\B/\D/\E/\F/\G:=⟨a,b,c,d,e,f⟩
theorem kT:(!true)=false:=rfl
theorem kF:(!false)=true:=rfl
theorem kN:∀n:Nat,(n:Int).toNat=n:=Iv
theorem kB:(!true)=false/\(!false)=true:=⟨rfl,rfl⟩
theorem D7 {I:Prop}(a:A)(b:B)(c:D)(d:E)(e:F)(f:G)(g:I):A/\B/\D/\E/\F/\G/\I:=⟨a,b,c,d,e,f,g⟩
end
inductive KB:Nat->Prop
 |mk (n:Nat):KB n
section
variable {C:BH} {X:EV} {B:AZ} {rd:Option Nat} {F:AZ} {ops:Array Oper} {s:St} {Q:Exit->AZ->St->Prop} {i:Nat}
theorem Q9 (hX:Di C X){kb:Nat}(_:KB kb)(hnd:EL ops.toList=true)(h:C7 C X kb ops (List.range ops.size) s True λacc s=>acc/\Q .normal F s):AC C B rd F (.region i ops false) s Q:=LC hX kb hnd h
end
theorem AF {F:Prop}(f:F){P Q:Prop}(h:Q)(e:DM F->DM Q->P:=by
  intro hf hq
  repeat(first
   |(refine Ea rfl rfl ?_;refine I9 (λ_ _=>rfl) ?_)|(refine FN rfl rfl ?_;refine G6 (λ_ _=>rfl) ?_)
   |refine I4 rfl rfl rfl (by first|(simp only[hf.out];done)|fail) Bu (I9 (λ_ _=>rfl) ?_)|refine aI rfl rfl rfl (by first|(simp only[hf.out];done)|fail) Bu ?_
   |refine Ld rfl rfl rfl (by first|(simp only[hf.out];done)|fail) Bu (G6 (λ_ _=>rfl) ?_)|refine aH rfl rfl rfl (by first|(simp only[hf.out];done)|fail) Bu ?_
   |(refine Ea rfl rfl ?_;refine TK rfl rfl rfl (by(try dsimp only);(try simp only[hf.out]);exact rfl) ?_)|(refine Ea rfl rfl ?_;refine Oc rfl rfl rfl (by(try dsimp only);(try simp only[hf.out]);exact rfl) ?_)
   |(refine I4 rfl rfl rfl (by first|(simp only[hf.out];done)|fail) Bu ?_;refine TK rfl rfl rfl (by(try dsimp only);(try simp only[hf.out]);exact rfl) ?_)|(refine I4 rfl rfl rfl (by first|(simp only[hf.out];done)|fail) Bu ?_;refine Oc rfl rfl rfl (by(try dsimp only);(try simp only[hf.out]);exact rfl) ?_)
   |(refine FN rfl rfl ?_;refine Lw rfl rfl rfl (by(try dsimp only);(try simp only[hf.out]);exact rfl) ?_)|(refine Ld rfl rfl rfl (by first|(simp only[hf.out];done)|fail) Bu ?_;refine Lw rfl rfl rfl (by(try dsimp only);(try simp only[hf.out]);exact rfl) ?_))
  try(refine R5 ?_;repeat(first|(refine Ea rfl rfl ?_;refine I9 (λ_ _=>rfl) ?_)|(refine FN rfl rfl ?_;refine G6 (λ_ _=>rfl) ?_)))
  first|refine Pb (A7 Bu ?_)|(refine Ea rfl rfl ?_;refine OG (λ_ _=>rfl) Bu ?_)|(refine FN rfl rfl ?_;refine Mx (λ_ _=>rfl) Bu ?_)|skip
  refine BA ?_
  try simp only[hf.out]
  exact hq.out):P:=e ⟨f⟩ ⟨h⟩
theorem Nv {F:Prop}(f:F){P Q:Prop}(h:Q)(e:DM F->DM Q->P:=by
  intro hf hq
  repeat(first
   |(refine Jn rfl rfl rfl rfl ?_;first|refine G6 (λ_ _=>rfl) ?_|refine Lw rfl rfl rfl (by(try dsimp only);(try simp only[hf.out]);exact rfl) ?_)
   |(refine Vf rfl rfl rfl ?_;first|refine Vq (λ_ _=>rfl) ?_|refine WL rfl rfl rfl (by(try dsimp only);(try simp only[hf.out]);exact rfl) ?_)|(refine Ve rfl rfl rfl rfl ?_;refine G6 (λ_ _=>rfl) ?_))
  try refine Ut ?_
  refine BA ?_
  try simp only[hf.out]
  exact hq.out):P:=e ⟨f⟩ ⟨h⟩
theorem AW {F:Prop}(f:F){P Q:Prop}(h:Q)(e:DM F->DM Q->P:=by
  intro hf hq
  repeat(first
   |(refine Ea rfl rfl ?_;refine I9 (λ_ _=>rfl) ?_)|(refine FN rfl rfl ?_;refine G6 (λ_ _=>rfl) ?_))
  try(refine R5 ?_;repeat(first|(refine Ea rfl rfl ?_;refine I9 (λ_ _=>rfl) ?_)|(refine FN rfl rfl ?_;refine G6 (λ_ _=>rfl) ?_)))
  first|refine Pb (A7 (by((refine BA ?_);(try simp only[hf.out]);all_goals exact Bu)) ?_)|(refine Ea rfl rfl ?_;refine OG (λ_ _=>rfl) (by((refine BA ?_);(try simp only[hf.out]);all_goals exact Bu)) ?_)|(refine FN rfl rfl ?_;refine Mx (λ_ _=>rfl) (by((refine BA ?_);(try simp only[hf.out]);all_goals exact Bu)) ?_)|skip
  refine BA ?_
  try simp only[hf.out]
  exact hq.out):P:=e ⟨f⟩ ⟨h⟩
theorem HS {F:Prop}(f:F){A P Q:Prop}(h:Q)(a:DM F->A:=by intro hf;(refine BA ?_);(try simp only[hf.out]);all_goals exact Bu)(e:DM F->DM Q->P:=by intro hf hq;refine BA ?_;(try simp only[hf.out]);exact hq.out):A/\P:=⟨a ⟨f⟩,e ⟨f⟩ ⟨h⟩⟩
theorem Ya {F:Prop}(f:F){P Q:Prop}(h:Q)(e:DM F->DM Q->P:=by
  intro hf hq
  first|(refine I4 rfl rfl rfl (by first|(simp only[hf.out];done)|fail) Bu ?_;refine OG (λ_ _=>rfl) AB ?_)|(refine Ld rfl rfl rfl (by first|(simp only[hf.out];done)|fail) Bu ?_;refine Mx (λ_ _=>rfl) AB ?_)
  refine BA ?_;exact hq.out):P:=e ⟨f⟩ ⟨h⟩
theorem CN {F:Prop}(f:F){A:Prop}(a:A){P Q:Prop}(h:Q)(e:DM F->A->DM Q->P:=by
  intro hf hx hq
  first|refine Ea rfl rfl ?_|refine I4 rfl rfl rfl (by first|(simp only[hf.out];done)|fail) Bu ?_|refine FN rfl rfl ?_|refine Ld rfl rfl rfl (by first|(simp only[hf.out];done)|fail) Bu ?_
  first|refine XV (λ_ _=>rfl) Bu ⟨rfl,by omega⟩ hx ?_|refine Ob (λ_ _=>rfl) Bu ⟨rfl,by omega⟩ hx ?_
  try dsimp only[D.cells]
  exact hq.out):P:=e ⟨f⟩ a ⟨h⟩
theorem AK {P Q:Prop}(h:Q)(e:DM Q->P:=by intro hq;refine AC.cond ?_;refine BA ?_;exact hq.out):P:=e ⟨h⟩
theorem Ag {P Q:Prop}(h:Q)(e:DM Q->P:=by intro hq;refine AC.skip ?_;refine BA ?_;exact hq.out):P:=e ⟨h⟩
theorem CM {P Q:Prop}(h:Q)(e:DM Q->P:=by intro hq;refine AC.exit ?_;refine BA ?_;exact hq.out):P:=e ⟨h⟩
theorem AX {P Q:Prop}(h:Q)(e:DM Q->P:=by intro hq;refine AC.ret ?_;refine A7 Bu ?_;refine BA ?_;exact hq.out):P:=e ⟨h⟩
theorem rI (kb:Nat){P Q:Prop}(h:Q)(e:KB kb->DM Q->P:=by intro hk hq;refine Q9 w1 hk (by kernel_rfl) ?_;refine Bb ?_;exact hq.out):P:=e (.mk kb) ⟨h⟩
theorem fI (kb:Nat){P Q:Prop}(h:Q)(e:KB kb->DM Q->P:=by intro hk hq;refine Q9 w1 hk (by kernel_rfl) ?_;refine A9 ?_;exact hq.out):P:=e (.mk kb) ⟨h⟩
theorem sR (kb:Nat){P Q:Prop}(h:Q)(e:KB kb->DM Q->P:=by intro hk hq;refine AC.seq ?_;refine Q9 w1 hk (by kernel_rfl) ?_;refine Bb ?_;exact hq.out):P:=e (.mk kb) ⟨h⟩
theorem fR (kb:Nat){P Q:Prop}(h:Q)(e:KB kb->DM Q->P:=by intro hk hq;refine AC.seq ?_;refine Q9 w1 hk (by kernel_rfl) ?_;refine A9 ?_;exact hq.out):P:=e (.mk kb) ⟨h⟩
theorem sZ (kb:Nat){P Q:Prop}(h:Q)(e:KB kb->DM Q->P:=by intro hk hq;refine AC.seq ?_;refine Q9 w1 hk (by kernel_rfl) ?_;exact hq.out):P:=e (.mk kb) ⟨h⟩
theorem cI {C:BH}{f:Nat}{ds:List D}{d:D}{H:Hp}{n:Nat}{k:D->Hp->Nat->Prop}(c:AI C f ds d){Q:Prop}(h:Q)(p:AU ds:=by exact AJ)(e:DM Q->k d H (n+1):=by intro hq;refine Bb ?_;exact hq.out):BI C f ds H n k:=BI.same d c p (e ⟨h⟩)
theorem dI {C:BH}{f:Nat}{ds:List D}{d:D}{H:Hp}{n:Nat}{k:D->Hp->Nat->Prop}(c:AI C f ds d){Q:Prop}(h:Q)(p:AU ds:=by exact AJ)(e:DM Q->k d H (n+1):=by intro hq;refine A9 ?_;exact hq.out):BI C f ds H n k:=BI.same d c p (e ⟨h⟩)
open Go.ChangeShapes Go.WideShapes
structure EA (W:World)(cs:List Value)(ds:List D):Prop where
 len:cs.length=ds.length
 cell:∀(i:Nat) (c:Value) (d:D),cs[i]?=some c->ds[i]?=some d->one c=true/\AV nol (λ_=>False) W d c
theorem EA.one {W:World}{c:Value}{d:D}(ho:one c=true)(h:AV nol (λ_=>False) W d c):EA W [c] [d]:=⟨rfl,λi x y hx hy=>by
 match i with
 | 0=>cases hx;cases hy;exact⟨ho,h⟩
 |i+1=>simp at hx⟩
theorem EA.append {W:World}{a b:List Value}{x y:List D}(h:EA W a x)(k:EA W b y):EA W (a++b) (x++y):=⟨by rw[Bz,Bz,h.len,k.len],λi c d hc hd=>by
 by_cases hi:i<a.length
 ·rw[FZ hi]at hc
  rw[FZ (by rw[<-h.len];exact hi)]at hd;exact h.cell i c d hc hd
 ·rw[Ek (by omega)]at hc
  rw[Ek (by rw[<-h.len];omega),<-h.len]at hd;exact k.cell _ c d hc hd⟩
theorem dZ {α:Type}{p:Nat->α->Prop}:∀ {n:Nat},(∀i,i<n->∃x,p i x)->∃l:List α,l.length=n/\∀(i:Nat) (x:α),l[i]?=some x->p i x
 | 0,_=>⟨[],rfl,λi x h=>by simp at h⟩
 |n+1,h=>by
  obtain⟨l,h1,h2⟩:=dZ (n:=n) λi hi=>h i (by omega)
  obtain⟨x,hx⟩:=h n (by omega);refine⟨l++[x],by simp[h1],λi y hy=>?_⟩
  by_cases hi:i<l.length
  ·rw[FZ hi]at hy;exact h2 i y hy
  ·rw[Ek (by omega)]at hy
   have:i-l.length=0:=by
    have:=(BR.1 hy).1
    simp at this;omega
   rw[this]at hy;simp at hy;rw[show i=n by omega,<-hy];exact hx
theorem g9 {b off k:Nat}:(Addr.mk b off none).add k=⟨b,off+k,none⟩:=by
 unfold Addr.add
 by_cases h:k=0
 ·subst h;rfl
 ·rw[AG h]
theorem ql {W:World}{a:Addr}{v:Value}(h:W.cell? a=some v):∃b off,a=⟨b,off,none⟩/\b<W.heap.size:=by
 obtain⟨b,off,sp⟩:=a;unfold World.cell? at h;split at h
 ·rename_i c t f hb
  split at h
  ·cases h
  ·rename_i hs
   simp at hs;subst hs;exact⟨b,off,rfl,(DE.1 hb).1⟩
 ·cases h
section
variable {H:Type} {enc:TypeId×Value->H} {P:Program} {W:World} {fuel:Nat} {cs:List Value} {x:DataW H×List MemPlace} {t:TypeId}
theorem iZ {k:IntKind}(ht:P.underlying t=some (.int k))(h:DataW.trod enc P W 0 (λ_=>true) true fuel t cs=some x):∃z:Int,cs=[.int k z]/\(Lit.int k z).wf=true/\EA W cs [.prim (.int k z)]:=by
 obtain⟨n,rfl,_,hw⟩:=DataW.trod_int ht h;exact⟨n,rfl,hw,.one rfl (.prim _)⟩
theorem i7 (ht:P.underlying t=some .string)(h:DataW.trod enc P W 0 (λ_=>true) true fuel t cs=some x):∃l:List UInt8,EA W cs [.prim (.string ⟨l.toArray⟩)]/\l.length<=maxLen:=by
 obtain⟨s,rfl,_,hw⟩:=DataW.trod_string ht h;refine⟨s.data.toList,.one rfl ?_,?_⟩
 rotate_left
 ·rw[JT];exact hw
 rw[show(⟨s.data.toList.toArray⟩:ByteArray)=s by cases s;simp];exact .prim _
theorem Xx {α:Type}{g:α->D}{ok:α->Prop}{e:TypeId}{sz:Nat}(ht:P.underlying t=some (.slice e))(hc:P.cellsOf e=sz)(h0:0<sz)
  (he:∀n cs x,DataW.trod enc P W 0 (λ_=>true) true n e cs=some x->∃a,EA W cs (g a).cells/\ok a)
  (h:DataW.trod enc P W 0 (λ_=>true) true fuel t cs=some x):∃l:List α,EA W cs [.sl false sz (l.map g)]/\(∀a∈l,ok a)/\l.length<=maxLen:=by
 rcases DataW.trod_slice ht h with⟨rfl,_⟩|⟨a,len,cap,elems,rest,n,_,rfl,_,_,hl,hm,hlen,hel,hsp,_⟩
 ·exact⟨[],.one rfl (.nil _),λ_ h=>Ah h Ds,Bg _⟩
 rw[hc]at hel hsp;have hE:∀i,i<len->∃ci y,W.cells? 0 (a.add (i*sz)) sz=some ci/\DataW.trod enc P W 0 (λ_=>true) true n e ci=some y:=λi hi=>by
  have h1:=hel i hi;rw[Ce]at h1;obtain⟨ci,h2,h3⟩:=Option.bind_eq_some_iff.1 h1;exact⟨ci,_,h2,h3⟩
 have hA:(len=0/\cap=0)\/∃v,W.cell? a=some v:=by
  by_cases hz:len=0
  ·by_cases hcz:cap=0
   ·exact .inl ⟨hz,hcz⟩
   obtain⟨h1,h2⟩:=hsp rfl;have h3:=h2 0 (by omega);rw[Ce]at h3;obtain⟨ci,h4,_⟩:=Option.bind_eq_some_iff.1 h3;obtain⟨_,h5,h6⟩:=World.cells?_some h4;have h7:=h6 0 h0;rw[show len+0=0 by omega,HP]at h7;rw[show(a.add 0).add 0=a from rfl,Ce]at h7;exact .inr ⟨_,h7⟩
  ·obtain⟨ci,_,h4,_⟩:=hE 0 (by omega)
   obtain⟨_,h5,h6⟩:=World.cells?_some h4;have h7:=h6 0 h0;rw[HP]at h7;rw[show(a.add 0).add 0=a from rfl,Ce]at h7;exact .inr ⟨_,h7⟩
 rcases hA with⟨rfl,rfl⟩|⟨v,hv⟩
 ·exact⟨[],.one rfl (.emp a),λ_ h=>Ah h Ds,Bg _⟩
 obtain⟨b,off,rfl,hb⟩:=ql hv;obtain⟨l,hll,hl2⟩:=dZ (p:=λi x=>∃ci,W.cells? 0 ((Addr.mk b off none).add (i*sz)) sz=some ci/\EA W ci (g x).cells/\ok x) λi hi=>by
  obtain⟨ci,y,h1,h2⟩:=hE i hi;obtain⟨x,h3,h4⟩:=he n ci y h2;exact⟨x,ci,h1,h3,h4⟩
 have hcell:∀i x,l[i]?=some x->(g x).cells.length=sz/\∀j,j<sz->∃c d,W.cell? ⟨b,off+(i*sz+j),none⟩=some c/\(g x).cells[j]?=some d/\Ide.one c=true/\AV nol (λ_=>False) W d c:=λi x hx=>by
  obtain⟨ci,h1,h2,_⟩:=hl2 i x hx;obtain⟨_,h3,h4⟩:=World.cells?_some h1;refine⟨by rw[<-h2.len,h3],λj hj=>?_⟩;have h5:=h4 j hj;rw[g9,g9,Ce,FG]at h5;have h6:(g x).cells[j]?=some ((g x).cells[j]'(by rw[<-h2.len,h3];exact hj)):=B4 _
  have:=h2.cell j _ _ (Ce) h6
  exact⟨_,_,h5,h6,this.1,this.2⟩
 have hsplit:∀k,k<len*sz->∃i j x,k=i*sz+j/\i<len/\j<sz/\l[i]?=some x:=λk hk=>by
  have h1:k/sz<len:=(Nat.div_lt_iff_lt_mul h0).2 hk;exact⟨k/sz,k%sz,_,by rw[Bd];exact(Fq k sz).symm,h1,CJ _ h0,Ce⟩
 refine⟨l,.one rfl (.sl (λk=>(W.cell? ⟨b,off+k,none⟩).getD undef) (by rw[Al,hll]) hl (λh=>h) hb ?_ ?_ ?_ ?_),λx hx=>?_,by omega⟩
 ·intro i d hd
  rw[BT]at hd;obtain⟨x,hx,rfl⟩:=Gc.1 hd;exact(hcell i x hx).1
 ·intro k hk
  obtain⟨i,j,x,rfl,hi,hj,hx⟩:=hsplit k hk;obtain⟨c,d,h1,_⟩:=(hcell i x hx).2 j hj;rw[h1];rfl
 ·intro k hk
  obtain⟨i,j,x,rfl,hi,hj,hx⟩:=hsplit k hk;obtain⟨c,d,h1,_,h3,_⟩:=(hcell i x hx).2 j hj;rw[h1];exact h3
 ·intro i e' j d hd hj
  rw[BT]at hd;obtain⟨x,hx,rfl⟩:=Gc.1 hd;have hjl:j<sz:=by
   have:=(BR.1 hj).1
   rw[(hcell i x hx).1]at this;exact this
  obtain⟨c,d',h1,h2,_,h4⟩:=(hcell i x hx).2 j hjl;rw[h1];rw[h2]at hj;cases hj;exact h4
 ·obtain⟨i,hi⟩:=List.getElem?_of_mem hx
  obtain⟨_,_,_,h⟩:=hl2 i x hi;exact h
theorem qA {fs:Array Field}(ht:P.underlying t=some (.struct fs))(h:DataW.trod enc P W 0 (λ_=>true) true fuel t cs=some x):
  cs.length=P.cellsOf t/\∃n,∀(i:Nat) (f:Field),fs[i]?=some f->∃y,DataW.trod enc P W 0 (λ_=>true) true n f.type ((cs.drop f.offset).take (P.cellsOf f.type))=some y:=by
 obtain⟨xs,n,rfl,_,h1,h2,h3⟩:=DataW.trod_struct ht h;refine⟨h1,n,λi f hf=>?_⟩
 have:=(DE.1 hf).1
 exact⟨xs[i]'(by omega),by rw[h3 i f hf];exact B4 _⟩
end
section
variable {C:BH} {X:EV} {B:AZ} {rd:Option Nat} {F:AZ} {ops:Array Oper} {s:St} {Q:Exit->AZ->St->Prop} {i:Nat}
theorem e3i (hX:Di C X)(hnd:EL ops.toList=true)(h:C7 C X (100*i) ops (List.range ops.size) s True λacc s=>acc/\Q .normal F s):AC C B rd F (.region i ops false) s Q:=LC hX (100*i) hnd h
abbrev Dr:=List (Nat×List Nat×List Nat)
abbrev Aq:Dr:=[]
noncomputable def T8 (L:Dr)(i:Nat):List Nat×List Nat:=List.rec ([],[]) (λa _ r=>cond (Nat.beq a.1 i) a.2 r) L
inductive KD:Dr->Prop
 |mk (L:Dr):KD L
theorem e3k {L:Dr}(hX:Di C X)(_:KD L)(hc:(GD ops (T8 L i).1 (T8 L i).2&&EL ops.toList)=true)
  (h:Ed C X (100*i) ops s.H s.n (T8 L i).1 s.env [] True λacc env N=>C7 C X (100*i) ops (T8 L i).2 ⟨env,N++s.H,s.n+Es ops.toList⟩ acc λacc s=>acc/\Q .normal F s):AC C B rd F (.region i ops true) s Q:=mL hX (100*i) _ _ hc h
theorem idS {c:Code}(h:AC C B rd F c s Q):AC C B rd F c s Q:=h
theorem d9T {kb:Nat}{l:List Nat}{acc:Prop}{K:Prop->St->Prop}(h:C7 C X kb ops l s acc K):C7 C X kb ops l s acc K:=h
theorem d9S {kb n:Nat}{l:List Nat}{H N:Hp}{env:As}{acc:Prop}{K:Prop->As->Hp->Prop}(h:Ed C X kb ops H n l env N acc K):Ed C X kb ops H n l env N acc K:=h
theorem e2b {f n:Nat}{ds:List D}{H:Hp}{k:D->Hp->Nat->Prop}(h:BI C f ds H n k):BI C f ds H n k:=h
theorem e2c {f:Nat}{ds:List D}{k:D->Prop}(h:BN C f ds k):BN C f ds k:=h
theorem FK {F:Prop}(hf:DM F){P:Prop}(h:DM F->P:=by intro hf;first|((repeat'(first|exact AB|exact rfl|exact Or.inl rfl|exact Or.inr rfl|exact Eg.agg|exact T9 rfl|exact Cf rfl|refine A7 ?_ ?_|(intro hq;first|exact rfl|exact AB|(exact Ah hq (by decide)))|exact Am _|omega|decide|(dsimp only[List.length_cons,List.length_nil];omega)));done)|((refine BA ?_);(try simp only[hf.out,kT,kF]);(try(repeat'(first|exact AB|exact rfl|exact Or.inl rfl|exact Or.inr rfl|exact Eg.agg|exact T9 rfl|exact Cf rfl|refine A7 ?_ ?_|(intro hq;first|exact rfl|exact AB|(exact Ah hq (by decide)))|exact Am _|omega|decide|(dsimp only[List.length_cons,List.length_nil];omega))));done)|fail):P:=h hf
theorem JZ {F:Prop}(hf:DM F){P:Prop}(h:DM F->P:=by intro hf;first|(simp only[hf.out,kT,kF];done)|fail):P:=h hf
theorem e1M {y n:Prop}(h:y):Kw true y n:=h
theorem e1L {y n:Prop}(h:n):Kw false y n:=h
end
theorem AR {F A1 A2 A3 A4 A5 A6:Prop}(dr:Dr)(f:F)(c1:A1)(c2:A2)(c3:A3)(c4:A4)(c5:A5)(c6:A6){P Q:Prop}(h:Q)(e:KD dr->DM F->A1->A2->A3->A4->A5->A6->DM Q->P:=by
  intro hd hf c1 c2 c3 c4 c5 c6 hq
  repeat(first
   |((with_reducible refine idS ?_);first|refine AC.seq ?_|refine e3i w1 (by kernel_rfl) ?_|refine e3k w1 hd (by kernel_rfl) ?_|refine AC.block ?_|(refine AC.skip ?_;refine BA ?_;try simp only[hf.out,kT,kF])|(refine AC.exit ?_;refine BA ?_;try simp only[hf.out,kT,kF])|(refine AC.cond ?_;refine BA ?_;try simp only[hf.out,kT,kF,J5,Oq])|(refine AC.ret ?_;refine A7 (FK hf) ?_;refine BA ?_;try simp only[hf.out,kT,kF]))
   |((with_reducible refine d9T ?_);first|(refine Ea rfl rfl ?_;refine I9 (λ_ _=>rfl) ?_)|(refine I4 rfl rfl rfl (JZ hf) (FK hf) ?_;refine I9 (λ_ _=>rfl) ?_)|refine aI rfl rfl rfl (JZ hf) (FK hf) ?_|(refine Ea rfl rfl ?_;refine OG (λ_ _=>rfl) (FK hf) ?_;refine BA ?_;try simp only[hf.out,kT,kF])|(refine Ea rfl rfl ?_;refine XV (λ_ _=>rfl) (FK hf) ⟨rfl,by omega⟩ (by first|exact c1|exact c2|exact c3|exact c4|exact c5|exact c6|fail) ?_;try dsimp only[D.cells])|(refine Ea rfl rfl ?_;refine TK rfl rfl rfl (by(try dsimp only);(try simp only[hf.out,kT,kF]);exact rfl) ?_)|(refine Ea rfl rfl ?_;refine Oc rfl rfl rfl (by(try dsimp only);(try simp only[hf.out,kT,kF]);exact rfl) ?_)|(refine I4 rfl rfl rfl (JZ hf) (FK hf) ?_;refine OG (λ_ _=>rfl) (FK hf) ?_;refine BA ?_;try simp only[hf.out,kT,kF])|(refine I4 rfl rfl rfl (JZ hf) (FK hf) ?_;refine XV (λ_ _=>rfl) (FK hf) ⟨rfl,by omega⟩ (by first|exact c1|exact c2|exact c3|exact c4|exact c5|exact c6|fail) ?_;try dsimp only[D.cells])|(refine I4 rfl rfl rfl (JZ hf) (FK hf) ?_;refine TK rfl rfl rfl (by(try dsimp only);(try simp only[hf.out,kT,kF]);exact rfl) ?_)|(refine I4 rfl rfl rfl (JZ hf) (FK hf) ?_;refine Oc rfl rfl rfl (by(try dsimp only);(try simp only[hf.out,kT,kF]);exact rfl) ?_)|(refine Pb (A7 (FK hf) ?_);refine BA ?_;try simp only[hf.out,kT,kF])|(dsimp only[CG,Cy,Es,Bq,Cp,BE,As.get,F7,Gq,Ez,Kt,J6,Fl,Fh,D.cells,ofV,Hp.get,Hp.set,Hp.del,IE,Dd,IH,cond,J8,Ov,Oa,Ik,Oz,Co,List.map,List.length,List.append,List.nil_append,List.cons_append,List.append_nil,List.size_toArray,List.length_cons,List.length_nil,Value.cells,List.toList_toArray,Array.toList,Nat.reduceAdd,Nat.reduceMul,Nat.beq,Nat.reduceSub,Co,JO,Es,Bool.false_and,Bool.true_and,Bool.true_or,Bool.false_or,Bool.not_true,Bool.not_false])|(simp only[hf.out,kT,kF]))
   |((with_reducible refine d9S ?_);first|(refine FN rfl rfl ?_;refine G6 (λ_ _=>rfl) ?_)|(refine Ld rfl rfl rfl (JZ hf) (FK hf) ?_;refine G6 (λ_ _=>rfl) ?_)|refine aH rfl rfl rfl (JZ hf) (FK hf) ?_|(refine FN rfl rfl ?_;refine Mx (λ_ _=>rfl) (FK hf) ?_;refine BA ?_;try simp only[hf.out,kT,kF])|(refine FN rfl rfl ?_;refine Ob (λ_ _=>rfl) (FK hf) ⟨rfl,by omega⟩ (by first|exact c1|exact c2|exact c3|exact c4|exact c5|exact c6|fail) ?_;try dsimp only[D.cells])|(refine FN rfl rfl ?_;refine Lw rfl rfl rfl (by(try dsimp only);(try simp only[hf.out,kT,kF]);exact rfl) ?_)|(refine Ld rfl rfl rfl (JZ hf) (FK hf) ?_;refine Mx (λ_ _=>rfl) (FK hf) ?_;refine BA ?_;try simp only[hf.out,kT,kF])|(refine Ld rfl rfl rfl (JZ hf) (FK hf) ?_;refine Ob (λ_ _=>rfl) (FK hf) ⟨rfl,by omega⟩ (by first|exact c1|exact c2|exact c3|exact c4|exact c5|exact c6|fail) ?_;try dsimp only[D.cells])|(refine Ld rfl rfl rfl (JZ hf) (FK hf) ?_;refine Lw rfl rfl rfl (by(try dsimp only);(try simp only[hf.out,kT,kF]);exact rfl) ?_)|(refine R5 ?_;refine BA ?_;try simp only[hf.out,kT,kF])|(dsimp only[CG,Cy,Es,Bq,Cp,BE,As.get,F7,Gq,Ez,Kt,J6,Fl,Fh,D.cells,ofV,Hp.get,Hp.set,Hp.del,IE,Dd,IH,cond,J8,Ov,Oa,Ik,Oz,Co,List.map,List.length,List.append,List.nil_append,List.cons_append,List.append_nil,List.size_toArray,List.length_cons,List.length_nil,Value.cells,List.toList_toArray,Array.toList,Nat.reduceAdd,Nat.reduceMul,Nat.beq,Nat.reduceSub,Co,JO,Es,Bool.false_and,Bool.true_and,Bool.true_or,Bool.false_or,Bool.not_true,Bool.not_false])|(simp only[hf.out,kT,kF]))
   |((with_reducible refine e2b ?_);((first|refine BI.same _ c1 AJ ?_|refine BI.same _ c2 AJ ?_|refine BI.same _ c3 AJ ?_|refine BI.same _ c4 AJ ?_|refine BI.same _ c5 AJ ?_|refine BI.same _ c6 AJ ?_|refine BI.same _ (c1 rfl) AJ ?_|refine BI.same _ (c2 rfl) AJ ?_|refine BI.same _ (c3 rfl) AJ ?_|refine BI.same _ (c4 rfl) AJ ?_|refine BI.same _ (c5 rfl) AJ ?_|refine BI.same _ (c6 rfl) AJ ?_);refine BA ?_;try simp only[hf.out,kT,kF]))
   |((with_reducible refine e2c ?_);((first|refine BN.same _ c1 AJ ?_|refine BN.same _ c2 AJ ?_|refine BN.same _ c3 AJ ?_|refine BN.same _ c4 AJ ?_|refine BN.same _ c5 AJ ?_|refine BN.same _ c6 AJ ?_|refine BN.same _ (c1 rfl) AJ ?_|refine BN.same _ (c2 rfl) AJ ?_|refine BN.same _ (c3 rfl) AJ ?_|refine BN.same _ (c4 rfl) AJ ?_|refine BN.same _ (c5 rfl) AJ ?_|refine BN.same _ (c6 rfl) AJ ?_);refine BA ?_;try simp only[hf.out,kT,kF]))
   |(with_reducible refine e1M ?_)
   |(with_reducible refine e1L ?_)
   )
  exact hq.out):P:=e (.mk dr) ⟨f⟩ c1 c2 c3 c4 c5 c6 ⟨h⟩
section
variable {C:BH} {F:AZ} {ρ:Lk} {w w':World}
theorem e2P {H1 H2:Hp}{e:Af}{b:Nat}(m:Aj C F ρ (H1++e::H2) w)(hb:ρ e.k e.g=some b)(hsz:w'.heap.size=w.heap.size)(h1:w'.os=w.os)(h2:w'.tape=w.tape)(h3:w'.output=w.output)
  (ho:∀k,k≠b->w'.heap[k]?=w.heap[k]?) (hs:∀cs,w.heap[b]?=some (.cells cs e.T (0,0))->∃(cs':Array Value) (fz':Nat×Nat),w'.heap[b]?=some (.cells cs' e.T fz')/\cs'.size=cs.size):
  Aj C F ρ (H1++H2) w'/\BW ρ (AL F.X ρ (H1++e::H2)) w ρ (AL F.X ρ (H1++H2)) w':=by
 have he:e∈H1++e::H2:=by simp
 obtain⟨cs,hc,_⟩:=m.at he hb;obtain⟨m0,hO⟩:=m.sub (H':=H1++H2) (RP (LE _) (RL _ _));have hown:AL F.X ρ (H1++e::H2) b:=.inr ⟨e,he,hb⟩;have x:BW ρ (AL F.X ρ (H1++e::H2)) w ρ (AL F.X ρ (H1++H2)) w':=by
  refine⟨by omega,λ_ _ _ h=>h,λk hk hn=>⟨λh=>hn (hO k h),ho k λh=>hn (by rw[h];exact hown)⟩,λk cs1 T fz h=>?_⟩
  by_cases hk:k=b
  ·subst hk
   rw[hc]at h;cases h;obtain⟨cs',fz',q1,q2⟩:=hs cs hc;exact⟨cs',fz',q1,q2⟩
  ·exact⟨cs1,fz,by rw[ho k hk];exact h,rfl⟩
 have hne:∀e'∈H1++H2,ρ e'.k e'.g≠some b:=λe' he' hb'=>by
  have hinj:=m.hok.inj;rw[KN,DN]at hinj;rcases Bs.1 he' with h|h
  ·exact hinj.2.2 e' h e (CF ..) b b hb' hb rfl
  ·exact hinj.2.1.1 e' h b b hb hb' rfl
 refine⟨⟨⟨λe' he'=>?_,m0.hok.inj,m0.hok.own⟩,by rw[h1];exact m.os,by rw[h2];exact m.tape,by rw[h3];exact m.output,by rw[hsz];exact m.size,λk hk hw=>?_,m.xlt,m.g0,m.gn,m.gw,m.lnk,Ic m.shp x⟩,x⟩
 ·rcases m0.hok.ent e' he' with h|⟨b',cs',q1,q2,q3⟩
  ·exact .inl h
  ·refine .inr ⟨b',cs',q1,?_,?_⟩
   ·rw[ho b' λh=>hne e' he' (by rw[q1,h])];exact q2
   ·have he2:e'∈H1++e::H2:=by rcases Bs.1 he' with h|h<;>simp[h]
    obtain⟨cs2,r1,r2⟩:=m.at he2 q1;rw[q2]at r1;cases r1;exact r2.mono x
 ·rw[ho k λh=>?_]
  ·exact m.blk k hk hw
  ·subst h
   have:=m.hok.own e he k hb
   rcases this.2 with h|h
   ·omega
   ·exact hw h
end
structure Jf where
 k:Nat
 g:Nat
 o:Obj
def AZ.wrs (F:AZ)(Z:Nat->Prop):AZ:=⟨F.w0,F.X,λb=>F.Wr b\/Z b,F.nt,F.r0,F.df⟩
def Jg (F:AZ)(L:List Jf)(b:Nat):Prop:=∃x∈L,F.r0 x.k x.g=some b
structure I3 (B F:AZ)(Z:Nat->Prop):Prop where
 os:F.w0.os=B.w0.os
 tape:F.w0.tape=B.w0.tape
 output:F.w0.output=B.w0.output
 size:B.w0.heap.size<=F.w0.heap.size
 blk:∀b,b<B.w0.heap.size->¬B.Wr b->F.w0.heap[b]?=B.w0.heap[b]?
 wr:∀b,F.Wr b\/Z b->B.w0.heap.size<=b\/B.Wr b
 lnk:∀k g b,B.r0 k g=some b->F.r0 k g=some b
 X:∀b,B.X b->F.X b
 shp:∀(b:Nat) (cs:Array Value) (T:Nat) (fz:Nat×Nat),B.w0.heap[b]?=some (.cells cs T fz)->∃(cs':Array Value) (fz':Nat×Nat),F.w0.heap[b]?=some (.cells cs' T fz')/\cs'.size=cs.size
structure Xh (C:BH)(B:AZ):Prop where
 xlt:∀b,B.X b->b<B.w0.heap.size
 g0:C.G B.w0
 gn:C.nG<=B.w0.heap.size
 gw:∀b,B.Wr b->C.nG<=b
structure EI (C:BH)(B F:AZ)(L:List Jf):Prop where
 at_:∀x∈L,∃it,F.r0 x.k x.g=some it/\F.X it/\¬F.Wr it/\F.w0.heap[it]?=some x.o/\C.nG<=it
 nc:∀x∈L,∀cs T fz,x.o≠.cells cs T fz
 dis:L.Pairwise λx y=>F.r0 x.k x.g≠F.r0 y.k y.g
 reb:I3 B F (Jg F L)
 bm:∀ {ρ:Lk} {H:Hp} {w:World},Aj C F ρ H w->Xh C B
 df:F.df=B.df
def L9 (F:AZ)(d:D)(v:Value):Prop:=AV F.r0 (λb=>F.X b\/F.Wr b) F.w0 d v
structure N4 (F F2:AZ):Prop where
 lnk:∀k g b,F.r0 k g=some b->F2.r0 k g=some b
 rep:∀d v,L9 F d v->L9 F2 d v
 blk:∀b o,F.w0.heap[b]?=some o->¬(F.X b\/F.Wr b)->F2.w0.heap[b]?=some o/\¬(F2.X b\/F2.Wr b)
structure NY (ρ:Lk)(O:Nat->Prop)(w:World)(F2:AZ):Prop where
 rep:∀d v,AV ρ O w d v->L9 F2 d v
 blk:∀b o,w.heap[b]?=some o->¬O b->F2.w0.heap[b]?=some o/\¬(F2.X b\/F2.Wr b)
section
variable {C:BH} {B F:AZ} {ρ:Lk} {H:Hp} {w:World} {L:List Jf}
theorem L9.now {d:D}{v:Value}(h:L9 F d v)(m:Aj C F ρ H w):AV ρ (AL F.X ρ H) w d v:=
 AV.mono h ⟨m.size,m.lnk,λb hb hO=>⟨λh=>by
  rcases h with h|⟨e,he,h⟩
  ·exact hO (.inl h)
  ·rcases(m.hok.own e he b h).2 with h|h
   ·omega
   ·exact hO (.inr h),m.blk b hb λh=>hO (.inr h)⟩,m.shp⟩
theorem NY.to {F2:AZ}(h:NY ρ (AL F.X ρ H) w F2)(m:Aj C F ρ H w)(hl:∀k g b,ρ k g=some b->F2.r0 k g=some b):N4 F F2:=
 ⟨λk g b q=>hl _ _ _ (m.lnk _ _ _ q),λd v q=>h.rep d v (q.now m),λb o q r=>by
  have hlt:b<F.w0.heap.size:=(DE.1 q).1;refine h.blk b o ((m.blk b hlt λh=>r (.inr h)).trans q) λho=>?_
  rcases ho with ho|⟨e,he,ho⟩
  ·exact r (.inl ho)
  ·rcases(m.hok.own e he b ho).2 with q|q
   ·omega
   ·exact r (.inr q)⟩
theorem Aj.wrs {Z:Nat->Prop}(m:Aj C F ρ H w)(hZ:∀b,Z b->C.nG<=b):Aj C (F.wrs Z) ρ H w:=
 ⟨⟨m.hok.ent,m.hok.inj,λe he b hb=>⟨(m.hok.own e he b hb).1,(m.hok.own e he b hb).2.imp id .inl⟩⟩,m.os,m.tape,m.output,m.size,λb hb h=>m.blk b hb λh'=>h (.inl h'),m.xlt,m.g0,m.gn,λb h=>h.elim (m.gw b) (hZ b),m.lnk,m.shp⟩
theorem I3.up {Z:Nat->Prop}(h:I3 B F Z)(hb:Xh C B)(m:Aj C (F.wrs Z) ρ H w):Aj C B ρ H w:=by
 have hX:∀b,AL B.X ρ H b->AL F.X ρ H b:=λb hb=>hb.imp (h.X b) id
 refine⟨⟨λe he=>?_,m.hok.inj,λe he b hb'=>?_⟩,m.os.trans h.os,m.tape.trans h.tape,m.output.trans h.output,BP h.size m.size,λb hb1 hb2=>?_,hb.xlt,hb.g0,hb.gn,hb.gw,λk g b q=>m.lnk _ _ _ (h.lnk _ _ _ q),λb cs T fz hc=>?_⟩
 ·rcases m.hok.ent e he with h1|⟨b,cs,a1,a2,a3⟩
  ·exact .inl h1
  ·exact .inr ⟨b,cs,a1,a2,a3.anti hX⟩
 ·obtain⟨q1,q2⟩:=m.hok.own e he b hb'
  refine⟨λq=>q1 (h.X b q),?_⟩;rcases q2 with q2|q2
  ·exact .inl (BP h.size q2)
  ·exact h.wr b q2
 ·refine(m.blk b (Cb hb1 h.size) λq=>?_).trans (h.blk b hb1 hb2)
  rcases h.wr b q with q|q
  ·omega
  ·exact hb2 q
 ·obtain⟨cs1,Ns,c1,c2⟩:=h.shp b cs T fz hc
  obtain⟨cs2,fz2,c3,c4⟩:=m.shp b cs1 T Ns c1;exact⟨cs2,fz2,c3,c4.trans c2⟩
theorem I3.fle {Z:Nat->Prop}(h:I3 B F Z)(hb:Xh C B)(hZ:∀b,Z b->C.nG<=b)(hn:F.nt=B.nt)(hd:F.df=B.df):C1 C B F:=
 ⟨hn,h.size,λm=>h.up hb (m.wrs hZ),h.X,[],hd,[],rfl,.nil,by simp⟩
theorem e2Q (F:AZ):EI C F F [] where
 at_:=by simp
 nc:=by simp
 dis:=.nil
 reb:=⟨rfl,rfl,rfl,Am _,λ_ _ _=>rfl,λb hb=>by
  rcases hb with hb|⟨x,hx,_⟩
  ·exact .inr hb
  ·exact Ah hx (by simp),λ_ _ _ h=>h,λ_ h=>h,λ_ cs _ _ h=>⟨cs,_,h,rfl⟩⟩
 bm:=λm=>⟨m.xlt,m.g0,m.gn,m.gw⟩
 df:=rfl
theorem EI.ng (h:EI C B F L):∀b,Jg F L b->C.nG<=b:=λb ⟨x,hx,hb⟩=>by
 obtain⟨it,a1,-,-,-,a5⟩:=h.at_ x hx;rw[a1]at hb;cases hb;exact a5
theorem EI.now (h:EI C B F L)(m:Aj C F ρ H w){x:Jf}(hx:x∈L):∃it,ρ x.k x.g=some it/\F.r0 x.k x.g=some it/\F.X it/\w.heap[it]?=some x.o:=by
 obtain⟨it,a1,a2,a3,a4,-⟩:=h.at_ x hx;exact⟨it,m.lnk _ _ _ a1,a1,a2,(m.blk it (m.xlt it a2) a3).trans a4⟩
variable {s:St} {a:Act}
theorem I3.now {Z Z2 X2:Nat->Prop}{ρ2:Lk}{w2:World}{nt:Nat}{df:List Deferred}(h:I3 B F Z)(m:Aj C F ρ H w)(hos:w2.os=w.os)(htp:w2.tape=w.tape)(hout:w2.output=w.output)(hsz:w.heap.size<=w2.heap.size)
  (hold:∀b,b<w.heap.size->¬Z b->w2.heap[b]?=w.heap[b]?) (hZc:∀b,Z b->∀cs T fz,w.heap[b]? ≠ some (.cells cs T fz)) (hl:∀k g b,ρ k g=some b->ρ2 k g=some b) (hown:∀e∈H,∀b,ρ2 e.k e.g=some b->ρ e.k e.g=some b) (hX:∀b,B.X b->X2 b) (hZ2:∀b,Z2 b->Z b\/w.heap.size<=b):
  I3 B (AZ.subZ ρ2 H w2 nt X2 (λ_=>False) df) Z2 where
 os:=hos.trans (m.os.trans h.os)
 tape:=htp.trans (m.tape.trans h.tape)
 output:=hout.trans (m.output.trans h.output)
 size:=BP h.size (BP m.size hsz)
 blk:=λb hb1 hb2=>by
  have hn:¬(F.Wr b\/Z b):=λq=>by
   rcases h.wr b q with q|q
   ·omega
   ·exact hb2 q
  have hb3:=Cb hb1 h.size;show w2.heap[b]?=_;rw[hold b (Cb hb3 m.size) λq=>hn (.inr q),m.blk b hb3 λq=>hn (.inl q)];exact h.blk b hb1 hb2
 wr:=λb hb=>by
  rcases hb with(⟨e,he,hb⟩|hb)|hb
  ·rcases(m.hok.own e he b (hown e he b hb)).2 with q|q
   ·exact .inl (BP h.size q)
   ·exact h.wr b (.inl q)
  ·exact hb.elim
  ·rcases hZ2 b hb with q|q
   ·exact h.wr b (.inr q)
   ·exact .inl (BP h.size (BP m.size q))
 lnk:=λk g b q=>hl _ _ _ (m.lnk _ _ _ (h.lnk _ _ _ q))
 X:=hX
 shp:=λb cs T fz hc=>by
  obtain⟨cs1,Ns,c1,c2⟩:=h.shp b cs T fz hc;obtain⟨cs2,fz2,c3,c4⟩:=m.shp b cs1 T Ns c1;have hlt:b<w.heap.size:=(DE.1 c3).1;exact⟨cs2,fz2,by show w2.heap[b]?=_;rw[hold b hlt λq=>hZc b q _ _ _ c3];exact c3,c4.trans c2⟩
theorem EI.cellF (h:EI C B F L)(m:Aj C F ρ H w):∀b,Jg F L b->∀cs T fz,w.heap[b]? ≠ some (.cells cs T fz):=λb ⟨x,hx,hb⟩ cs T fz hc=>by
 obtain⟨it,-,b2,-,b4⟩:=h.now m hx;rw[hb]at b2;cases b2;rw[hc]at b4;exact h.nc x hx _ _ _ (GJ b4).symm
theorem EI.alloc (hO:EI C B F L)(hB:C1 C B F)(hs:B9 C F ρ s a w)(kb:Nat)(o0:Obj)(hc:∀cs T fz,o0≠.cells cs T fz):
  ∃F2 ρ2,C1 C B F2/\F2.nt=F.nt/\N4 F F2/\EI C B F2 (⟨kb,s.n,o0⟩::L)/\B9 C F2 ρ2 ⟨s.env,s.H,s.n+1⟩ a (w.alloc o0)/\ρ2 kb s.n=some w.heap.size/\F2.r0 kb s.n=some w.heap.size/\¬B.X w.heap.size/\NY ρ (AL F.X ρ s.H) w F2:=by
 have m:=hs.mem
 let it:=w.heap.size
 let X1:Nat->Prop:=λb=>F.X b\/b=it
 have hown:∀e∈s.H,∀b,ρ e.k e.g=some b->b<w.heap.size:=λe he b hb=>m.lt he hb
 have hfr:ρ kb s.n=none:=hs.fresh _ _ (Am _)
 let ρ2:=ρ.put kb s.n it
 have hput:∀k g b,ρ k g=some b->ρ2 k g=some b:=λk g b hb=>PD hfr hb
 have hown2:∀e∈s.H,∀b,ρ2 e.k e.g=some b->ρ e.k e.g=some b:=λe he b hb=>by
  have hg:=hs.gen e he
  have:ρ2 e.k e.g=ρ e.k e.g:=by
   show(if e.k=kb/\e.g=s.n then some it else ρ e.k e.g)=_;rw[B3]
  rw[<-this];exact hb
 have hw1:(w.alloc o0).heap.size=w.heap.size+1:=World.size_alloc ..;have hold:∀b,b<w.heap.size->(w.alloc o0).heap[b]?=w.heap[b]?:=λb hb=>by rw[EJ,B3]
 have xx:∀X':Nat->Prop,(∀b,b<w.heap.size->X' b->F.X b)->BW ρ (AL F.X ρ s.H) w ρ2 (AL X' ρ2 s.H) (w.alloc o0):=λX' hX'=>by
  refine⟨by omega,hput,λb hb hO=>⟨?_,hold b hb⟩,λb cs T fz hc=>⟨cs,_,by rw[hold b (DE.1 hc).1];exact hc,rfl⟩⟩;rintro(h|⟨e,he,h⟩)
  ·exact hO (.inl (hX' b hb h))
  ·exact hO (.inr ⟨e,he,hown2 e he b h⟩)
 have m1:Aj C F ρ2 s.H (w.alloc o0):=by
  have x1:=xx F.X λ_ _ h=>h
  refine⟨⟨λe he=>?_,m.hok.inj.imp_of_mem λ{e e'} he he' h b b' hb hb'=>h b b' (hown2 e he b hb) (hown2 e' he' b' hb'),λe he b hb=>m.hok.own e he b (hown2 e he b hb)⟩,m.os,m.tape,m.output,by have:=m.size;omega,
   λb hb hW=>by rw[hold b (Cb hb m.size)];exact m.blk b hb hW,m.xlt,m.g0,m.gn,m.gw,λk g b h=>hput _ _ _ (m.lnk k g b h),Ic m.shp x1⟩
  rcases m.hok.ent e he with⟨h1,h2⟩|⟨b,cs,a1,a2,a3⟩
  ·refine .inl ⟨h1,?_⟩
   cases hb:ρ2 e.k e.g with
   |none=>rfl
   |some b=>rw[hown2 e he b hb]at h2;cases h2
  ·exact .inr ⟨b,cs,hput _ _ _ a1,by rw[hold b (m.lt he a1)];exact a2,a3.mono x1⟩
 have hitm:∀e∈s.H,∀b,ρ2 e.k e.g=some b->b≠it:=λe he b hb=>by have:=hown e he b (hown2 e he b hb);simp only[it];omega
 have hX1lt:∀b,X1 b->b<(w.alloc o0).heap.size:=λb hb=>by
  rcases hb with h|h
  ·have:=m.xlt b h;have:=m.size;omega
  ·simp only[it]at h;omega
 have hX1o:∀e∈s.H,∀b,ρ2 e.k e.g=some b->¬X1 b:=λe he b hb hb'=>by
  rcases hb' with h|h
  ·exact(m.hok.own e he b (hown2 e he b hb)).1 h
  ·exact hitm e he b hb h
 have hng:C.nG<=it:=by have:=m.gn;have:=m.size;simp only[it];omega
 have ent:∀Z:Nat->Prop,(∀b,Z b->C.nG<=b)->Aj C (AZ.subZ ρ2 s.H (w.alloc o0) F.nt X1 Z F.df) ρ2 s.H (w.alloc o0):=λZ hZ=>by
  refine⟨⟨λe he=>?_,m1.hok.inj,λe he b hb=>⟨hX1o e he b hb,.inr (.inl ⟨e,he,hb⟩)⟩⟩,rfl,rfl,rfl,Am _,λ_ _ _=>rfl,hX1lt,m1.g,BP m1.gn m1.size,λb hb=>?_,λ_ _ _ h=>h,λ_ cs _ _ h=>⟨cs,_,h,rfl⟩⟩
  ·rcases m.hok.ent e he with⟨h1,h2⟩|⟨b,cs,a1,a2,a3⟩
   ·rcases m1.hok.ent e he with h|⟨b,cs,b1,_⟩
    ·exact .inl h
    ·rw[hown2 e he b b1]at h2;cases h2
   ·exact .inr ⟨b,cs,hput _ _ _ a1,by rw[hold b (m.lt he a1)];exact a2,a3.mono (xx X1 λb hb h=>h.resolve_right λh=>by simp only[it]at h;omega)⟩
  ·rcases hb with⟨e,he,hb⟩|hb
   ·rcases(m1.hok.own e he b hb).2 with h|h
    ·exact BP m1.gn h
    ·exact m1.gw b h
   ·exact hZ b hb
 let F2:=AZ.subZ ρ2 s.H (w.alloc o0) F.nt X1 (λ_=>False) F.df
 have hr0:F2.r0 kb s.n=some it:=Ej ..;have hold0:∀x∈L,F2.r0 x.k x.g=F.r0 x.k x.g:=λx hx=>by
  obtain⟨i2,a1,-⟩:=hO.at_ x hx;rw[a1];exact hput _ _ _ (m.lnk _ _ _ a1)
 have hlt0:∀x∈L,∀b,F.r0 x.k x.g=some b->b<w.heap.size:=λx hx b hb=>by
  obtain⟨i2,a1,a2,-⟩:=hO.at_ x hx;have h9:i2=b:=GJ (a1.symm.trans hb)
  have:=m.xlt i2 a2;have:=m.size;omega
 have hZ2:∀b,Jg F2 (⟨kb,s.n,o0⟩::L) b->b=it\/Jg F L b:=λb ⟨x,hx,hb⟩=>by
  rcases Aw.1 hx with rfl|hx
  ·rw[hr0]at hb;cases hb;exact .inl rfl
  ·rw[hold0 x hx]at hb;exact .inr ⟨x,hx,hb⟩
 have hbm:=hO.bm m;have hreb:I3 B F2 (Jg F2 (⟨kb,s.n,o0⟩::L)):=hO.reb.now m rfl rfl rfl (by rw[hw1];omega) (λb hb _=>hold b hb) (hO.cellF m) hput hown2 (λb hb=>.inl (hO.reb.X b hb)) λb hb=>by
  rcases hZ2 b hb with h|h
  ·exact .inr (Nat.le_of_eq h.symm)
  ·exact .inl h
 have hobs:EI C B F2 (⟨kb,s.n,o0⟩::L):=by
  refine⟨λx hx=>?_,λx hx=>?_,DN.2 ⟨λx hx e=>?_,?_⟩,hreb,λ_=>hbm,hO.df⟩
  ·rcases Aw.1 hx with rfl|hx
   ·exact⟨it,hr0,.inr rfl,λh=>by
     rcases h with⟨e,he,h⟩|h
     ·exact hitm e he it h rfl
     ·exact h,by show(w.alloc _).heap[it]?=_;rw[EJ,AH rfl],hng⟩
   ·obtain⟨i2,a1,a2,a3,a4,a5⟩:=hO.at_ x hx
    refine⟨i2,(hold0 x hx).trans a1,.inl a2,λh=>?_,?_,a5⟩
    ·rcases h with⟨e,he,h⟩|h
     ·exact hX1o e he i2 h (.inl a2)
     ·exact h
    ·show(w.alloc o0).heap[i2]?=_
     rw[hold i2 (hlt0 x hx i2 a1)];exact(m.blk i2 (m.xlt i2 a2) a3).trans a4
  ·rcases Aw.1 hx with rfl|hx
   ·exact hc
   ·exact hO.nc x hx
  ·obtain⟨i2,a1,-⟩:=hO.at_ x hx
   have e':F2.r0 kb s.n=F2.r0 x.k x.g:=e;rw[hr0,hold0 x hx,a1]at e';have h9:=hlt0 x hx i2 a1;have h8:it=i2:=GJ e';simp only[it]at h8;omega
  ·exact hO.dis.imp_of_mem λ{x y} hx hy h=>by rw[hold0 x hx,hold0 y hy];exact h
 have hF2:C1 C B F2:=hreb.fle hbm (λb hb=>(hZ2 b hb).elim (λh=>by rw[h];exact hng) (hO.ng b)) hB.nt hO.df;have hfr2:∀d v,AV ρ (AL F.X ρ s.H) w d v->L9 F2 d v:=λd v h=>(h.mono (xx X1 λb hb h=>h.resolve_right λh=>by simp only[it]at h;omega)).anti λb hb=>by
  rcases hb with hb|hb|hb
  ·exact .inl hb
  ·exact .inr hb
  ·exact hb.elim
 have hnow:NY ρ (AL F.X ρ s.H) w F2:=⟨hfr2,λb o h1 h2=>by
  have hlt:b<w.heap.size:=(DE.1 h1).1;refine⟨(hold b hlt).trans h1,λq=>?_⟩;rcases q with(q|q)|⟨e,he,q⟩|q
  ·exact h2 (.inl q)
  ·simp only[it]at q;omega
  ·exact h2 (.inr ⟨e,he,hown2 e he b q⟩)
  ·exact q⟩
 refine⟨F2,ρ2,hF2,rfl,hnow.to m hput,hobs,?_,Ej ..,hr0,λq=>by have:=hbm.xlt _ q;have:=hO.reb.size;have:=m.size;omega,hnow⟩;exact⟨ent _ λ_ h=>h.elim,λk g hg=>by
  have hg:s.n+1<=g:=hg;show(if k=kb/\g=s.n then some it else ρ k g)=none;rw[B3];exact hs.fresh k g (by omega),λe he=>DP (hs.gen e he),λt=>(hs.env t).mono (xx X1 λb hb h=>h.resolve_right λh=>by simp only[it]at h;omega),hs.nt,hs.dfr⟩
theorem EI.turn {x:Jf}{o':Obj}{it:Nat}(hO:EI C B F (x::L))(hB:C1 C B F)(hs:B9 C F ρ s a w)(hc:∀cs T fz,o'≠.cells cs T fz)(hit:F.r0 x.k x.g=some it):
  ∃F2,C1 C B F2/\F2.nt=F.nt/\N4 F F2/\EI C B F2 (⟨x.k,x.g,o'⟩::L)/\B9 C F2 ρ ⟨s.env,s.H,s.n+1⟩ a (w.putObj it o')/\F2.r0 x.k x.g=some it/\NY ρ (AL F.X ρ s.H) w F2:=by
 have m:=hs.mem;obtain⟨i1,j1,j2,j3,j4,j5⟩:=hO.at_ x CF;rw[hit]at j1;cases j1;have hob:w.heap[it]?=some x.o:=(m.blk it (m.xlt it j2) j3).trans j4;have hitw:it<w.heap.size:=(DE.1 hob).1;have hx0:=hO.nc x CF;have mW:=m.wrs hO.ng;have mp:=mW.putX j2 (.inr ⟨x,CF,hit⟩) hx0 hob o';have xp:=BW.putX (ρ:=ρ) (O:=AL F.X ρ s.H) (w:=w) (.inl j2) hx0 hob o';have hit':(w.putObj it o').heap[it]?=some o':=World.putObj_heap_same hitw;have hszp:=(KT w it o').2.2.2;have hwos:=(KT w it o').1;have hwtp:=(KT w it o').2.1;have hwout:=(KT w it o').2.2.1;have hoth:∀b,b≠it->(w.putObj it o').heap[b]?=w.heap[b]?:=λb hb=>World.putObj_heap_other hb
 generalize w.putObj it o'=w2 at mp xp hit' hszp hoth hwos hwtp hwout⊢
 let F2:=AZ.subZ ρ s.H w2 F.nt F.X (λ_=>False) F.df
 have ent:∀Z:Nat->Prop,(∀b,Z b->C.nG<=b)->(∀b,Z b->F.X b)->Aj C (AZ.subZ ρ s.H w2 F.nt F.X Z F.df) ρ s.H w2:=λZ hZ hZX=>mp.enterZ (.refl _ _ _) rfl rfl rfl (λ_ _ _=>rfl) (λe he b hb hb'=>(mp.hok.own e he b hb).1 (hZX b hb')) (λb hb=>Cb (mp.xlt b hb) mp.size) (λe he b hb=>(mp.hok.own e he b hb).1) hZ _ _
 have hr0:∀y∈x::L,F2.r0 y.k y.g=F.r0 y.k y.g:=λy hy=>by
  obtain⟨i2,a1,-⟩:=hO.at_ y hy;rw[a1];exact m.lnk _ _ _ a1
 have hZ2:Jg F2 (⟨x.k,x.g,o'⟩::L)=Jg F (x::L):=funext λb=>propext ⟨λ⟨y,hy,hb⟩=>by
   rcases Aw.1 hy with rfl|hy
   ·exact⟨x,CF,by rw[<-hr0 x CF];exact hb⟩
   ·exact⟨y,B6 _ hy,by rw[<-hr0 y (B6 _ hy)];exact hb⟩,λ⟨y,hy,hb⟩=>by
   rcases Aw.1 hy with rfl|hy
   ·exact⟨_,CF,by rw[hr0 y CF];exact hb⟩
   ·exact⟨y,B6 _ hy,by rw[hr0 y (B6 _ hy)];exact hb⟩⟩
 have hbm:=hO.bm m;have hreb:I3 B F2 (Jg F2 (⟨x.k,x.g,o'⟩::L)):=by
  rw[hZ2];exact hO.reb.now m hwos hwtp hwout (by rw[hszp];exact Am _) (λb _ hz=>hoth b λe=>hz ⟨x,CF,by rw[e];exact hit⟩) (hO.cellF m) (λ_ _ _ h=>h) (λ_ _ _ h=>h) (λb hb=>hO.reb.X b hb) λb hb=>.inl hb
 have hobs:EI C B F2 (⟨x.k,x.g,o'⟩::L):=by
  have hd:=DN.1 hO.dis;refine⟨λy hy=>?_,λy hy=>?_,DN.2 ⟨λy hy e=>?_,?_⟩,hreb,λ_=>hbm,hO.df⟩
  ·rcases Aw.1 hy with rfl|hy
   ·exact⟨it,(hr0 x CF).trans hit,j2,λh=>by
     rcases h with⟨e,he,h⟩|h
     ·exact(mp.hok.own e he it h).1 j2
     ·exact h,hit',j5⟩
   ·have hy':=B6 x hy
    obtain⟨i2,a1,a2,a3,a4,a5⟩:=hO.at_ y hy';refine⟨i2,(hr0 y hy').trans a1,a2,λh=>?_,?_,a5⟩
    ·rcases h with⟨e,he,h⟩|h
     ·exact(mp.hok.own e he i2 h).1 a2
     ·exact h
    ·show w2.heap[i2]?=_
     rw[hoth i2 λe=>hd.1 y hy (by rw[hit,a1,e])];exact(m.blk i2 (m.xlt i2 a2) a3).trans a4
  ·rcases Aw.1 hy with rfl|hy
   ·exact hc
   ·exact hO.nc y (B6 _ hy)
  ·have e':F2.r0 x.k x.g=F2.r0 y.k y.g:=e
   rw[hr0 x CF,hr0 y (B6 _ hy)]at e';exact hd.1 y hy e'
  ·exact hd.2.imp_of_mem λ{y z} hy hz h=>by rw[hr0 y (B6 _ hy),hr0 z (B6 _ hz)];exact h
 have hF2:C1 C B F2:=hreb.fle hbm (λb hb=>by rw[hZ2]at hb;exact hO.ng b hb) hB.nt hO.df;have hfr2:∀d v,AV ρ (AL F.X ρ s.H) w d v->L9 F2 d v:=λd v h=>(h.mono xp).anti λb hb=>by
  rcases hb with hb|hb|hb
  ·exact .inl hb
  ·exact .inr hb
  ·exact hb.elim
 have hnow:NY ρ (AL F.X ρ s.H) w F2:=⟨hfr2,λb o h1 h2=>by
  refine⟨(hoth b λe=>h2 (.inl (e ▸ j2))).trans h1,λq=>?_⟩;rcases q with q|⟨e,he,q⟩|q
  ·exact h2 (.inl q)
  ·exact h2 (.inr ⟨e,he,q⟩)
  ·exact q⟩
 refine⟨F2,hF2,rfl,hnow.to m λ_ _ _ h=>h,hobs,?_,(hr0 x CF).trans hit,hnow⟩;exact⟨ent _ (λ_ h=>h.elim) (λ_ h=>h.elim),λk g hg=>hs.fresh k g (by have:s.n+1<=g:=hg;omega),λe he=>DP (hs.gen e he),λt=>(hs.env t).mono xp,hs.nt,hs.dfr⟩
end
section
variable {C:BH} {X:EV} {B F:AZ} {ops:Array Oper} {s:St} {rd:Option Nat} {Q:Exit->AZ->St->Prop} {L:List Jf}
structure Cg (C:BH)(B:AZ)(rd:Option Nat)(F:AZ)(ops:Array Oper)(l:List Nat)(s:St)(Q:Exit->AZ->St->Prop):Prop where
 out:C1 C B F->(∀j∈l,j<ops.size)->ops.toList.all (DL B.nt)=true->EL ops.toList=true->∀(ρ:Lk) (a:Act) (w:World),B9 C F ρ s a w->wpOpsIn (fw rd) 0 C.P ops (GB C B Q) l a w
theorem Cg.nil (h:Q .normal F s):Cg C B rd F ops [] s Q:=⟨λhB _ _ _ ρ _ _ hs=>⟨F,s,ρ,hB,h,hs⟩⟩
theorem MS (hX:Di C X)(kb:Nat)(l1 l2:List Nat)(h:C7 C X kb ops l1 s True λacc s1=>acc/\Cg C B rd F ops l2 s1 Q):Cg C B rd F ops (l1++l2) s Q:=
 ⟨λhB hlt hd hnd ρ a w hs=>GP (rd:=rd) (Q:=GB C B Q) (l2:=l2) (λe a w h=>by
  obtain⟨h0,s1,ρ1,h,hs1⟩:=h;exact⟨h0,Cg.out h hB (λ_ hj=>hlt _ (by simp[hj])) hd hnd ρ1 a w hs1⟩) (Ib hnd) _ a w
   ((FQ (F:=F) (K':=λs1=>Cg C B rd F ops l2 s1 Q) hX (λacc s h=>h) h).2.run (λj hj=>hlt j (by simp[hj])) (by rw[hB.nt];exact hd) hs)⟩
theorem RA {i:Nat}(hnd:EL ops.toList=true)(h:Cg C B rd F ops (List.range ops.size) s Q):AC C B rd F (.region i ops false) s Q:=
 ⟨λhB hd ρ a w hs=>wpIn_region (h.out hB (λj hj=>List.mem_range.1 hj) hd hnd ρ a w hs)⟩
theorem Cg.step {i:Nat}{o:Oper}{l2:List Nat}(ho:Dz ops.toList i=some o)(hg:o.guard=none)
  (h:∀ρ a w,B9 C F ρ s a w->C1 C B F->∃v w2 F2 ρ2 d,((execOp a.eval o).run C.P w=.ok (.value v) w2\/((execOp a.eval o).run C.P w=.ok .skip w2/\v=undef))/\C1 C B F2/\B9 C F2 ρ2 ⟨s.env,s.H,s.n+1⟩ a w2/\AV ρ2 (AL F2.X ρ2 s.H) w2 d v/\Cg C B rd F2 ops l2 ⟨Bq s.env o.dst d,s.H,s.n+1⟩ Q):
  Cg C B rd F ops (i::l2) s Q:=by
 refine⟨λhB hlt hd hnd ρ a w hs=>?_⟩;obtain⟨v,w2,F2,ρ2,d,hr,hB2,hs2,hrep,hk⟩:=h ρ a w hs hB;have ho:=Mr ho;have hdo:DL B.nt o=true:=Cc.1 hd o (KM.2 (KK ho));have hs3:=hs2.put (H':=s.H) (o:=o) (d:=d) (v:=v) hs2.mem (.refl _ _ _) hs2.fresh hs2.gen hrep (by rw[hB2.nt];exact hdo);have hk2:=hk.out hB2 (λj hj=>hlt j (B6 _ hj)) hd hnd ρ2 _ w2 hs3;simp only[wpOpsIn,ho];rw[AH (by unfold Region.wanted;rw[hg])];rcases hr with hr|⟨hr,rfl⟩
 ·exact Pa hr hk2
 ·exact oo hr hk2
abbrev Dy:=List (ByteArray×D)
def GT (key:ByteArray):Dy->Option Nat
 | []=>none
 |p::l=>bif BU key p.1 then some 0 else(GT key l).map (· + 1)
def Ix (key:ByteArray):Dy->Option D
 | []=>none
 |p::l=>bif BU key p.1 then some p.2 else Ix key l
def Hj (key:ByteArray)(d:D):Dy->Dy
 | []=>[(key,d)]
 |p::l=>bif BU key p.1 then(key,d)::l else p::Hj key d l
def J3 (F:AZ)(o:Obj)(l:Dy):Prop:=∃es clock,o=.map es clock/\es.size=l.length/\Lp es clock/\∀(i:Nat) (p:ByteArray×D),l[i]?=some p->(es.getD i default).key=.string p.1/\L9 F p.2 (es.getD i default).val
theorem J3.new (F:AZ):J3 F (.map #[] 0) []:=⟨#[],0,rfl,rfl,⟨by simp,by simp⟩,by simp⟩
theorem WS {key:ByteArray}:∀(l:Dy) (es:List MapEntry) (i:Nat),es.length=l.length->(∀(j:Nat) (p:ByteArray×D),l[j]?=some p->(es.getD j default).key=.string p.1) ->
  Instr.findNow .string (.string key) es i=some ((GT key l).map λj=>(i+j,(es.getD j default).val))
 | [],[],i,_,_=>rfl
 |p::l,e::es,i,h1,h2=>by
  have h0:e.key=.string p.1:=by simpa using h2 0 p rfl
  have h3:Instr.findNow .string (.string key) (e::es) i=(match Instr.sameNow .string (.string key) e.key with
    |some true=>some (some (i,e.val))|some false=>Instr.findNow .string (.string key) es (i+1)|none=>none):=rfl
  have h4:Instr.sameNow .string (.string key) (.string p.1)=some (BU key p.1):=by
   show some (key==p.1)=_;rw[VV]
  rw[h3,h0,h4];unfold GT;cases BU key p.1 with
  |true=>simp
  |false=>
   dsimp only;rw[WS l es (i+1) (by simpa using h1) λj q hq=>by simpa using h2 (j+1) q (by simpa using hq)];cases GT key l with
   |none=>rfl
   |some j=>simp;omega
 | [],_::_,_,h1,_=>by simp at h1
 |_::_,[],_,h1,_=>by simp at h1
theorem S8 {key:ByteArray}:∀(l:Dy),(∀j,GT key l=some j->∃k d,l[j]?=some (k,d)/\Ix key l=some d/\BU key k=true)/\(GT key l=none->Ix key l=none)
 | []=>⟨by simp[GT],λ_=>rfl⟩
 |p::l=>by
  obtain⟨h1,h2⟩:=S8 (key:=key) l;unfold GT Ix;cases hb:BU key p.1 with
  |true=>exact⟨λj hj=>by simp at hj;subst hj;exact⟨p.1,p.2,rfl,rfl,hb⟩,λh=>by simp at h⟩
  |false=>
   refine⟨λj hj=>?_,λh=>?_⟩
   ·simp only[cond_false,Gc]at hj
    obtain⟨q,hq,rfl⟩:=hj;obtain⟨k,d,a1,a2,a3⟩:=h1 q hq;exact⟨k,d,by simpa using a1,by simpa using a2,a3⟩
   ·simp only[cond_false,Option.map_eq_none_iff]at h
    simpa using h2 h
theorem fN (key:ByteArray)(d:D):∀l:Dy,(Hj key d l).length=match GT key l with|some _=>l.length|none=>l.length+1
 | []=>rfl
 |p::l=>by
  unfold Hj GT;cases BU key p.1 with
  |true=>rfl
  |false=>
   simp only[cond_false,By];rw[fN key d l];cases GT key l<;>rfl
theorem iX (key:ByteArray)(d:D):∀(l:Dy) (i:Nat) (p:ByteArray×D),(Hj key d l)[i]?=some p->match GT key l with
  |some j=>(i=j/\p=(key,d))\/(i≠j/\l[i]?=some p)
  |none=>(i=l.length/\p=(key,d))\/(i<l.length/\l[i]?=some p)
 | [],i,p,h=>by
  rcases i with _|i
  ·simp[Hj]at h;subst h;exact .inl ⟨rfl,rfl⟩
  ·simp[Hj]at h
 |q::l,i,p,h=>by
  unfold Hj at h;unfold GT;cases hb:BU key q.1 with
  |true=>
   rw[hb]at h;simp only[cond_true]at h⊢;rcases i with _|i
   ·simp at h;exact .inl ⟨rfl,h.symm⟩
   ·exact .inr ⟨by omega,by simpa using h⟩
  |false=>
   rw[hb]at h;simp only[cond_false]at h⊢;rcases i with _|i
   ·simp at h
    subst h;cases GT key l with
    |none=>exact .inr ⟨by simp,rfl⟩
    |some j=>exact .inr ⟨by show(0:Nat)≠j+1;omega,rfl⟩
   ·have:=iX key d l i p (by simpa using h)
    cases hi:GT key l with
    |none=>
     rw[hi]at this;rcases this with⟨a,b⟩|⟨a,b⟩
     ·exact .inl ⟨by rw[a];rfl,b⟩
     ·exact .inr ⟨by simp;omega,by simpa using b⟩
    |some j=>
     rw[hi]at this;rcases this with⟨a,b⟩|⟨a,b⟩
     ·exact .inl ⟨by rw[a],b⟩
     ·exact .inr ⟨by show i+1≠j+1;omega,by simpa using b⟩
def Kv (ok:Bool)(key:ByteArray)(l:Dy)(z:Value):D:=match Ix key l with
 |some d=>Iz ok d true
 |none=>Iz ok (ofV z) false
theorem oU {ok:Bool}{key:ByteArray}{l:Dy}{z:Value}(h:Ix key l=none):Kv ok key l z=Iz ok (ofV z) false:=by unfold Kv;rw[h]
theorem oV {ok:Bool}{key:ByteArray}{l:Dy}{z:Value}{d:D}(h:Ix key l=some d):Kv ok key l z=Iz ok d true:=by unfold Kv;rw[h]
theorem Cg.makeMap {i:Nat}{o:Oper}{l2:List Nat}{T:Nat}(kb:Nat)(ho:Dz ops.toList i=some o)(hg:o.guard=none)(hop:o.op=.makeMap T none)(hO:EI C B F L)
  (h:∀F2 it,N4 F F2->EI C B F2 (⟨kb,s.n,.map #[] 0⟩::L)->F2.r0 kb s.n=some it->¬B.X it->J3 F2 (.map #[] 0) []->Cg C B rd F2 ops l2 ⟨Bq s.env o.dst (.prim (.map (some it))),s.H,s.n+1⟩ Q):Cg C B rd F ops (i::l2) s Q:=by
 refine Cg.step ho hg λρ a w hs hB=>?_
 obtain⟨F2,ρ2,hB2,-,ht,hO2,hs2,-,hr0,hnX,-⟩:=hO.alloc hB hs kb (.map #[] 0) (by simp);refine⟨.map (some w.heap.size),_,F2,ρ2,.prim (.map (some w.heap.size)),.inl ?_,hB2,hs2,.prim _,h F2 _ ht hO2 hr0 hnX (J3.new _)⟩;unfold execOp;simp only[hop];rw[run_bind];rfl
theorem Cg.look {i:Nat}{o:Oper}{l2:List Nat}{t k e it:Nat}{x ix:Operand}{ok:Bool}{z:Value}{key:ByteArray}{l:Dy}{xo:Jf}(hX:Di C X)(ho:Dz ops.toList i=some o)(hg:o.guard=none)(hop:o.op=.lookup t x ix ok)(hxt:X.xt t=some (.map k e z))
  (hx:BE s.env x=.prim (.map (some it))) (hi:BE s.env ix=.prim (.string key)) (hO:EI C B F L) (hm:xo∈L) (hit:F.r0 xo.k xo.g=some it) (hM:J3 F xo.o l)
  (h:Cg C B rd F ops l2 ⟨Bq s.env o.dst (Kv ok key l z),s.H,s.n+1⟩ Q):Cg C B rd F ops (i::l2) s Q:=by
 refine Cg.step ho hg λρ a w hs hB=>?_
 obtain⟨a1,a2,⟨inf,a3,a4⟩,a5⟩:=Pc (hX.xt _ _ hxt);obtain⟨it',b1,b2,b3,b4⟩:=hO.now hs.mem hm;rw[hit]at b2;cases b2;obtain⟨es,clock,c1,c2,-,c5⟩:=hM;rw[c1]at b4;have ex:a.eval x=.map (some it):=by
  have:=Dc hs.env x
  rw[hx]at this;generalize a.eval x=v at this;cases this;rfl
 have ei:a.eval ix=.string key:=by
  have:=Dc hs.env ix
  rw[hi]at this;generalize a.eval ix=v at this;cases this;rfl
 have hc:(Instr.checkKey es.isEmpty 10000 k (.string key)).run C.P w=.ok () w:=MapKept.run_checkKey (k:=.string key) a2 (by simp[MapKept.IsKey]) _ 9999;have hz:(zeroValue e).run C.P w=.ok z w:=RZ a3 a4 w;have hf:=WS (key:=key) l es.toList 0 (by simpa using c2) λj p hp=>by simpa[Ar]using(c5 j p hp).1
 have sat:B9 C F ρ ⟨s.env,s.H,s.n+1⟩ a w:=⟨hs.mem,λk g hg=>hs.fresh k g (by have:s.n+1<=g:=hg;omega),λe he=>DP (hs.gen e he),hs.env,hs.nt,hs.dfr⟩
 have okR:∀(d:D) (v:Value) (b:Bool),AV ρ (AL F.X ρ s.H) w d v->AV ρ (AL F.X ρ s.H) w (Iz ok d b) (if ok then .tuple #[v,.bool b]else v):=by
  intro d v b hr;cases ok with
  |false=>exact hr
  |true=>
   refine .tup rfl λi d' hd=>?_
   match i with
   | 0=>simp at hd;subst hd;exact hr
   | 1=>simp at hd;subst hd;exact .prim _
   |n+2=>simp at hd
 cases hj:GT key l with
 |none=>
  rw[hj]at hf;have hl:=(S8 (key:=key) l).2 hj;have hlm:Kv ok key l z=Iz ok (ofV z) false:=by unfold Kv;rw[hl]
  rw[hlm]at h;refine⟨_,w,F,ρ,_,.inl ?_,hB,sat,okR _ z false (.ofV λi x hx=>.inl (a5 i x hx)),h⟩;unfold execOp;simp only[hop];rw[run_bind,ex,ei]
  have:(Instr.lookup t (.map (some it)) (.string key) ok).run C.P w=.ok (if ok then .tuple #[z,.bool false]else z) w:=by
   simp[Instr.lookup,Ck a1,MapKept.run_getObj_map b4,hc,MapKept.run_findKey a2 hf,hz,Result.andThen]
  rw[this];rfl
 |some j=>
  rw[hj]at hf;obtain⟨k',d',g1,g2,-⟩:=(S8 (key:=key) l).1 j hj;have hlm:Kv ok key l z=Iz ok d' true:=by unfold Kv;rw[g2]
  rw[hlm]at h;have hv:=(c5 j _ g1).2.now hs.mem;have hval:(es.toList.getD j default).val=(es.getD j default).val:=by simp[Ar,FY]
  simp only[KI]at hf;rw[hval]at hf;refine⟨_,w,F,ρ,_,.inl ?_,hB,sat,okR _ _ true hv,h⟩;unfold execOp;simp only[hop];rw[run_bind,ex,ei]
  have:(Instr.lookup t (.map (some it)) (.string key) ok).run C.P w=.ok (if ok then .tuple #[(es.getD j default).val,.bool true]else(es.getD j default).val) w:=by
   simp[Instr.lookup,Ck a1,MapKept.run_getObj_map b4,hc,MapKept.run_findKey a2 hf,Result.andThen]
  rw[this];rfl
theorem ZS (a:ByteArray):BU a a=true:=by unfold BU;exact beq_self_eq_true _
theorem oC {a b:ByteArray}(h:BU a b=true):BU b a=true:=by
 unfold BU at h⊢;rw[EW]at h⊢;exact h.symm
theorem Cg.put {i:Nat}{o:Oper}{l2:List Nat}{t k e it:Nat}{x kx vx:Operand}{z:Value}{key:ByteArray}{l:Dy}{xo:Jf}(hX:Di C X)(ho:Dz ops.toList i=some o)(hg:o.guard=none)(hop:o.op=.mapUpdate t x kx vx)(hxt:X.xt t=some (.map k e z))
  (hx:BE s.env x=.prim (.map (some it))) (hi:BE s.env kx=.prim (.string key)) (hO:EI C B F (xo::L)) (hit:F.r0 xo.k xo.g=some it) (hM:J3 F xo.o l)
  (h:∀F2 o',N4 F F2->EI C B F2 (⟨xo.k,xo.g,o'⟩::L)->F2.r0 xo.k xo.g=some it->J3 F2 o' (Hj key (BE s.env vx) l)->Cg C B rd F2 ops l2 ⟨Bq s.env o.dst .any,s.H,s.n+1⟩ Q):Cg C B rd F ops (i::l2) s Q:=by
 refine Cg.step ho hg λρ a w hs hB=>?_
 obtain⟨a1,a2,-,-⟩:=Pc (hX.xt _ _ hxt);obtain⟨it',b1,b2,b3,b4⟩:=hO.now hs.mem CF;rw[hit]at b2;cases b2;obtain⟨es,clock,c1,c2,c3,c5⟩:=hM;rw[c1]at b4;have ex:a.eval x=.map (some it):=by
  have:=Dc hs.env x
  rw[hx]at this;generalize a.eval x=v at this;cases this;rfl
 have ei:a.eval kx=.string key:=by
  have:=Dc hs.env kx
  rw[hi]at this;generalize a.eval kx=v at this;cases this;rfl
 have hc:(Instr.checkKey false 10000 k (.string key)).run C.P w=.ok () w:=MapKept.run_checkKey (k:=.string key) a2 (by simp[MapKept.IsKey]) _ 9999;have hf:=WS (key:=key) l es.toList 0 (by simpa using c2) λj p hp=>by simpa[Ar]using(c5 j p hp).1
 have hval:=Dc hs.env vx;have hpl:=fN key (BE s.env vx) l;have hpa:=iX key (BE s.env vx) l;generalize BE s.env vx=d at hval h hpl hpa;generalize hv:a.eval vx=v at hval;cases hj:GT key l with
 |none=>
  rw[hj]at hf hpl;simp only[hj]at hpa;dsimp only at hpl;obtain⟨F2,hB2,-,ht,hO2,hs2,hr0,hfr⟩:=hO.turn (o':=.map (es.push { key:=.string key,val:=v,born:=clock }) (clock+1)) hB hs (by simp) hit;refine⟨undef,_,F2,ρ,.any,.inr ⟨?_,rfl⟩,hB2,hs2,.any _,h F2 _ ht hO2 hr0 ⟨_,_,rfl,by simp[c2,hpl],c3.push _ _,λi p hp=>?_⟩⟩
  ·unfold execOp
   simp only[hop];rw[run_bind,ex,ei,hv]
   have:(Instr.mapUpdate t (.map (some it)) (.string key) v).run C.P w=.ok () (w.putObj it (.map (es.push { key:=.string key,val:=v,born:=clock }) (clock+1))):=by
    simp[Instr.mapUpdate,Ck a1,MapKept.run_getObj_map b4,hc,MapKept.run_findKey a2 hf,MapKept.run_setObj_map _ b4,Result.andThen,World.putObj]
   rw[this];rfl
  ·rcases hpa i p hp with⟨q1,q2⟩|⟨q1,q2⟩
   ·subst q2
    rw[Ar,JS,DJ];exact⟨rfl,hfr.rep _ _ hval⟩
   ·rw[Ar,JS,B3,<-Ar]
    exact⟨(c5 i p q2).1,ht.rep _ _ (c5 i p q2).2⟩
 |some j=>
  rw[hj]at hf hpl;simp only[hj]at hpa;dsimp only at hpl;obtain⟨k',d',g1,-,g3⟩:=(S8 (key:=key) l).1 j hj;have hjl:j<es.size:=by rw[c2];exact(BR.1 g1).1
  obtain⟨ej,hej⟩:∃ej,es[j]?=some ej:=⟨es[j],CW hjl⟩
  have hkj:ej.key=.string k':=by
   have:=(c5 j _ g1).1
   rw[Ar,hej]at this;exact this
  obtain⟨F2,hB2,-,ht,hO2,hs2,hr0,hfr⟩:=hO.turn (o':=.map (es.modify j λe=>{ e with key:=.string key,val:=v }) clock) hB hs (by simp) hit;have hmod:∀i:Nat,(es.modify j λe=>{ e with key:=.string key,val:=v })[i]?=if j=i then(es[i]?).map λe=>{ e with key:=.string key,val:=v }else es[i]?:=λi=>by
   rw[Array.getElem?_modify]
  refine⟨undef,_,F2,ρ,.any,.inr ⟨?_,rfl⟩,hB2,hs2,.any _,h F2 _ ht hO2 hr0 ⟨_,_,rfl,by simp[c2,hpl],⟨λi e he=>?_,λi i' e e' he he' hbb=>?_⟩,λi p hp=>?_⟩⟩
  ·unfold execOp
   simp only[hop];rw[run_bind,ex,ei,hv];have hks:(Instr.keyThatStays (((es[j]?).map (·.key)).getD (.string key)) (.string key)).run C.P w=.ok (.string key) w:=by
    rw[hej];show(Instr.keyThatStays ej.key (.string key)).run C.P w=_;rw[hkj];unfold Instr.keyThatStays
    have:Instr.sameBits 10000 (.string k') (.string key)=true:=by
     show(k'==key)=true;rw[VV];exact oC g3
    rw[AH this];rfl
   have hks2:(Instr.keyThatStays ej.key (.string key)).run C.P w=.ok (.string key) w:=by
    rw[hej]at hks;exact hks
   have:(Instr.mapUpdate t (.map (some it)) (.string key) v).run C.P w=.ok () (w.putObj it (.map (es.modify j λe=>{ e with key:=.string key,val:=v }) clock)):=by
    simp[Instr.mapUpdate,Ck a1,MapKept.run_getObj_map b4,hc,MapKept.run_findKey a2 hf,MapKept.run_setObj_map _ b4,Result.andThen,World.putObj,hej,hks2]
   rw[this];rfl
  ·rw[hmod]at he
   split at he
   ·rename_i q;subst q
    rw[hej]at he;cases he;exact c3.1 j ej hej
   ·exact c3.1 i e he
  ·rw[hmod]at he he'
   have key:∀(i:Nat) (e:MapEntry),(if j=i then(es[i]?).map λe=>{ e with key:=.string key,val:=v }else es[i]?)=some e->∃e0,es[i]?=some e0/\e0.born=e.born:=λi e he=>by
    split at he
    ·rename_i q;subst q
     rw[hej]at he;cases he;exact⟨ej,hej,rfl⟩
    ·exact⟨e,he,rfl⟩
   obtain⟨e0,q1,q2⟩:=key i e he;obtain⟨e1,q3,q4⟩:=key i' e' he';exact c3.2 i i' e0 e1 q1 q3 (by rw[q2,q4,hbb])
  ·rcases hpa i p hp with⟨q1,q2⟩|⟨q1,q2⟩
   ·subst q1 q2
    rw[Ar,hmod,AH rfl,hej];exact⟨rfl,hfr.rep _ _ hval⟩
   ·rw[Ar,hmod,AG (Ne.symm q1),<-Ar]
    exact⟨(c5 i p q2).1,ht.rep _ _ (c5 i p q2).2⟩
end
section
variable {C:BH} {X:EV} {B F:AZ} {ops:Array Oper} {s:St} {rd:Option Nat} {Q:Exit->AZ->St->Prop} {L:List Jf}
def GZ (l:Dy):D:=.mp (l.map λp=>.prim (.string p.1)) (l.map (·.2))
def Qa (it:Nat)(d:D)(env:As):As->Prop
 | []=>True
 |(t,d')::r=>(d'=env.get t\/(env.get t=.prim (.map (some it))/\d'=d))/\Qa it d env r
theorem Qa.get {it:Nat}{d:D}{env:As}:∀ {env':As},Qa it d env env'->∀t,env'.get t=.any\/env'.get t=env.get t\/(env.get t=.prim (.map (some it))/\env'.get t=d)
 | [],_,t=>.inl rfl
 |(t0,d0)::r,h,t=>by
  simp only[As.get];cases hb:Nat.beq t0 t with
  |true=>
   obtain rfl:=Bi hb;exact .inr h.1
  |false=>exact Qa.get h.2 t
theorem e3y {c:Code}{it:Nat}{l:Dy}{xo:Jf}(env':As)(hO:EI C B F (xo::L))(hit:F.r0 xo.k xo.g=some it)(hnB:¬B.X it)(hM:J3 F xo.o l)(he:Qa it (GZ l) s.env env')
  (h:∀F2,N4 F F2->EI C B F2 L->AC C B rd F2 c ⟨env',s.H,s.n⟩ Q):AC C B rd F c s Q:=by
 refine⟨λhB hd ρ a w hs=>?_⟩;have m:=hs.mem;obtain⟨it',b1,b2,b3,b4⟩:=hO.now m CF;rw[hit]at b2;cases b2
 let X2:Nat->Prop:=λb=>F.X b/\b≠it
 have hown:∀b,AL X2 ρ s.H b->AL F.X ρ s.H b:=λb hb=>hb.imp And.left id
 have x:BW ρ (AL F.X ρ s.H) w ρ (AL X2 ρ s.H) w:=⟨Am _,λ_ _ _ h=>h,λb _ hb=>⟨λq=>hb (hown b q),rfl⟩,λ_ cs _ _ h=>⟨cs,_,h,rfl⟩⟩
 let F2:=AZ.subZ ρ s.H w F.nt X2 (λ_=>False) F.df
 have m2:Aj C F2 ρ s.H w:=m.enterZ x rfl rfl rfl (λ_ _ _=>rfl) (λ_ _ _ _ h=>h) (λb hb=>Cb (m.xlt b hb.1) m.size) (λe he b hb q=>(m.hok.own e he b hb).1 q.1) (λ_ h=>h.elim) _ _;have hr0:∀y∈L,F2.r0 y.k y.g=F.r0 y.k y.g:=λy hy=>by
  obtain⟨i2,a1,-⟩:=hO.at_ y (B6 _ hy);rw[a1];exact m.lnk _ _ _ a1
 have hd1:=DN.1 hO.dis;have hne:∀y∈L,∀b,F.r0 y.k y.g=some b->b≠it:=λy hy b hb e=>hd1.1 y hy (by rw[hit,hb,e])
 have hnow:NY ρ (AL F.X ρ s.H) w F2:=by
  have hx:∀b,F2.X b\/F2.Wr b->AL F.X ρ s.H b:=λb hb=>by
   rcases hb with hb|hb|hb
   ·exact .inl hb.1
   ·exact .inr hb
   ·exact hb.elim
  exact⟨λd v h=>AV.anti h hx,λb o h1 h2=>⟨h1,λq=>h2 (hx b q)⟩⟩
 have hbm:=hO.bm m;have hreb:I3 B F2 (Jg F2 L):=hO.reb.now m rfl rfl rfl (Am _) (λ_ _ _=>rfl) (hO.cellF m) (λ_ _ _ h=>h) (λ_ _ _ h=>h) (λb hb=>⟨hO.reb.X b hb,λe=>hnB (e ▸ hb)⟩) λb ⟨y,hy,hb⟩=>.inl ⟨y,B6 _ hy,by rw[<-hr0 y hy];exact hb⟩
 have hobs:EI C B F2 L:=by
  refine⟨λy hy=>?_,λy hy=>hO.nc y (B6 _ hy),hd1.2.imp_of_mem λ{y z} hy hz h=>by rw[hr0 y hy,hr0 z hz];exact h,hreb,λ_=>hbm,hO.df⟩;obtain⟨i2,a1,a2,a3,a4,a5⟩:=hO.at_ y (B6 _ hy);refine⟨i2,(hr0 y hy).trans a1,⟨a2,hne y hy i2 a1⟩,λh=>?_,(m.blk i2 (m.xlt i2 a2) a3).trans a4,a5⟩;rcases h with⟨e,he,h⟩|h
  ·exact(m.hok.own e he i2 h).1 a2
  ·exact h
 have hF2:C1 C B F2:=hreb.fle hbm (λb ⟨y,hy,hb⟩=>by
  rw[hr0 y hy]at hb;exact hO.ng b ⟨y,B6 _ hy,hb⟩) hB.nt hO.df
 refine(h F2 (hnow.to m λ_ _ _ h=>h) hobs).out hF2 hd ρ a w ⟨m2,hs.fresh,hs.gen,λt=>?_,hs.nt,hs.dfr⟩;have ht:=hs.env t;show AV ρ (AL X2 ρ s.H) w (env'.get t) _;rcases he.get t with q|q|⟨q1,q2⟩
 ·rw[q];exact .any _
 ·rw[q];exact AV.anti ht hown
 ·rw[q2]
  rw[q1]at ht;generalize a.tmps.getD t undef=v at ht;cases ht;obtain⟨es,clock,c1,c2,c3,c5⟩:=hM;rw[c1]at b4;have hlt:it<w.heap.size:=(DE.1 b4).1;refine .mp (λq=>?_) hlt b4 (by simpa using c2) (by simpa using c2) c3 (λi d hd=>?_) λi d hd=>?_
  ·rcases q with q|⟨e,he,q⟩
   ·exact q.2 rfl
   ·exact(m.hok.own e he it q).1 b3
  ·rw[BT]at hd
   obtain⟨p,hp,rfl⟩:=Gc.1 hd;rw[(c5 i p hp).1];exact .prim _
  ·rw[BT]at hd
   obtain⟨p,hp,rfl⟩:=Gc.1 hd;exact AV.anti ((c5 i p hp).2.now m) hown
theorem Lp.nodup {es:Array MapEntry}{clock:Nat}(h:Lp es clock):(es.toList.map (·.born)).Nodup:=by
 rw[List.nodup_iff_pairwise_ne,List.pairwise_map,List.pairwise_iff_getElem];intro i j hi hj hij hb
 have:=h.2 i j es.toList[i] es.toList[j] (by simp at hi;simp[hi]) (by simp at hj;simp[hj]) hb
 omega
end
section
variable {C:BH} {B F:AZ} {ops:Array Oper} {s:St} {rd:Option Nat} {Q:Exit->AZ->St->Prop}
theorem e3e {i:Nat}{o:Oper}{l2:List Nat}{t k e:Nat}{x:Operand}{ks vs:List D}(ht:C.P.underlying t=some (.map k e))(ho:Dz ops.toList i=some o)(hg:o.guard=none)(hop:o.op=.call ⟨.builtin .len,#[x],#[t]⟩)(hx:BE s.env x=.mp ks vs)
  (h:Cg C B rd F ops l2 ⟨Bq s.env o.dst (i64 (ks.length:Nat)),s.H,s.n+1⟩ Q):Cg C B rd F ops (i::l2) s Q:=by
 refine Cg.step ho hg λρ a w hs hB=>?_
 have hrep:=Dc hs.env x;rw[hx]at hrep;generalize hev:a.eval x=v at hrep;cases hrep with
 |mp hO hr hb h1 h2 hBo hk hv=>
  rename_i r clock es;refine⟨.int .i64 (ks.length:Nat),w,F,ρ,_,.inl ?_,hB,⟨hs.mem,λk g hg=>hs.fresh k g (by have:s.n+1<=g:=hg;omega),λe he=>DP (hs.gen e he),hs.env,hs.nt,hs.dfr⟩,.prim _,h⟩;unfold execOp;simp only[hop];have hl:(Builtin.len_ #[t] o.type #[.map (some r)]).run C.P w=.ok (.int .i64 (ks.length:Nat)) w:=by
   simp[Builtin.len_,Ck ht,run_getObj_map w r es clock hb,h1,goInt]
  have hl2:∀cst,(builtin .len #[t] o.type cst #[.map (some r)]).run C.P w=.ok (.value (.int .i64 (ks.length:Nat))) w:=λcst=>by
   simp only[builtin];rw[run_bind,hl];rfl
  have hl3:∀cst,(builtin .len #[t] o.type cst (#[x].map a.eval)).run C.P w=.ok (.value (.int .i64 (ks.length:Nat))) w:=λcst=>by
   rw[show #[x].map a.eval = #[a.eval x]from by simp,hev];exact hl2 cst
  exact hl3 (#[x].map fun | .const _=>true|_=>false)
end
section
variable {C:BH} {X:EV} {kb:Nat} {ops:Array Oper} {H N:Hp} {n:Nat} {env:As} {acc:Prop} {K:Prop->As->Hp->Prop} {l:List Nat}
theorem Rr {i:Nat}{o:Oper}{t kT eT:Nat}{z:Value}{x ix:Operand}{ok:Bool}{ks vs:List D}{s:ByteArray}{d d':D}(h:Dz ops.toList i=some o)(hg:o.guard=none)(hop:o.op=.lookup t x ix ok)(hxt:X.xt t=some (.map kT eT z))
  (hx:BE env x=.mp ks vs) (hix:BE env ix=.prim (.string s)) (hl:IG s ks vs=some (some d)) (hd:Iz ok d true=d') (hk:Ed C X kb ops H n l (Bq env o.dst d') N (True/\acc) K):Ed C X kb ops H n (i::l) env N acc K:=by
 refine FN h hg ?_;subst hd;rw[hop];unfold Em;dsimp only;unfold Me
 have:Gv X.tt X.xt (BE env) (.lookup t x ix ok)=some (Iz ok d true,True):=by
  simp only[Gv,hxt,hx,hix,hl]
 rw[this];exact hk
end
end Go.Ide
