/- The layer of own lemmas and contracts, part 4. -/
import Derived.Test.YteeceibhhdapaaaGreatDoorW3
import Derived.Maps.RangeRun
import Derived.Shelf.GgSortFunc.RowK
import Derived.Shelf.GgSortFunc.InsertionK
set_option linter.unusedVariables false
set_option linter.unusedSimpArgs false
namespace Go.Ide
open Go.RowKit
section
variable {C:A8} {X:EV} {B F:Ab} {ops:Array Oper} {s:St} {rd:Option Nat} {Q:Exit->Ab->St->Prop} {L:List HK}
structure Bd (C:A8)(B:Ab)(rd:Option Nat)(F:Ab)(ops:Array Oper)(l:List Nat)(s:St)(Q:Exit->Ab->St->Prop):Prop where
 out:Ct C B F->(∀j∈l,j<ops.size)->ops.toList.all (DC B.nt)=true->ER ops.toList=true->∀(ρ:Lk) (a:Act) (w:World),Bj C F ρ s a w->wpOpsIn (fw rd) 0 C.P ops (FD C B Q) l a w
theorem Bd.nil (h:Q .normal F s):Bd C B rd F ops [] s Q:=⟨λhB _ _ _ ρ _ _ hs=>⟨F,s,ρ,hB,h,hs⟩⟩
theorem FL (hX:DF C X)(kb:Nat)(l1 l2:List Nat)(h:Cq C X kb ops l1 s True λacc s1=>acc/\Bd C B rd F ops l2 s1 Q):Bd C B rd F ops (l1++l2) s Q:=
 ⟨λhB hlt hd hnd ρ a w hs=>FT (rd:=rd) (Q:=FD C B Q) (l2:=l2) (λe a w h=>by
  obtain⟨h0,s1,ρ1,h,hs1⟩:=h;exact⟨h0,Bd.out h hB (λ_ hj=>hlt _ (by simp[hj])) hd hnd ρ1 a w hs1⟩) (HR hnd) _ a w
   ((FB (F:=F) (K':=λs1=>Bd C B rd F ops l2 s1 Q) hX (λacc s h=>h) h).2.run (λj hj=>hlt j (by simp[hj])) (by rw[hB.nt];exact hd) hs)⟩
theorem Hh {i:Nat}(hnd:ER ops.toList=true)(h:Bd C B rd F ops (List.range ops.size) s Q):AC C B rd F (.region i ops false) s Q:=
 ⟨λhB hd ρ a w hs=>wpIn_region (h.out hB (λj hj=>List.mem_range.1 hj) hd hnd ρ a w hs)⟩
theorem Bd.step {i:Nat}{o:Oper}{l2:List Nat}(ho:DL ops.toList i=some o)(hg:o.guard=none)
  (h:∀ρ a w,Bj C F ρ s a w->Ct C B F->∃v w2 F2 ρ2 d,((execOp a.eval o).run C.P w=.ok (.value v) w2\/((execOp a.eval o).run C.P w=.ok .skip w2/\v=undef))/\Ct C B F2/\Bj C F2 ρ2 ⟨s.env,s.H,s.n+1⟩ a w2/\AU ρ2 (AM F2.X ρ2 s.H) w2 d v/\Bd C B rd F2 ops l2 ⟨BZ s.env o.dst d,s.H,s.n+1⟩ Q):
  Bd C B rd F ops (i::l2) s Q:=by
 refine⟨λhB hlt hd hnd ρ a w hs=>?_⟩;obtain⟨v,w2,F2,ρ2,d,hr,hB2,hs2,hrep,hk⟩:=h ρ a w hs hB;have ho:=LF ho;have hdo:DC B.nt o=true:=CQ.1 hd o (Array.mem_toList_iff.2 (Hm ho));have hs3:=hs2.put (H':=s.H) (o:=o) (d:=d) (v:=v) hs2.mem (.refl _ _ _) hs2.fresh hs2.gen hrep (by rw[hB2.nt];exact hdo);have hk2:=hk.out hB2 (λj hj=>hlt j (Cn _ hj)) hd hnd ρ2 _ w2 hs3;simp only[wpOpsIn,ho];rw[AH (by unfold Region.wanted;rw[hg])];rcases hr with hr|⟨hr,rfl⟩
 ·exact Na hr hk2
 ·exact gO hr hk2
abbrev C5:=List (ByteArray×D)
def FY (key:ByteArray):C5->Option Nat
 | []=>none
 |p::l=>bif BK key p.1 then some 0 else(FY key l).map (· + 1)
def Hq (key:ByteArray):C5->Option D
 | []=>none
 |p::l=>bif BK key p.1 then some p.2 else Hq key l
def FH (key:ByteArray)(d:D):C5->C5
 | []=>[(key,d)]
 |p::l=>bif BK key p.1 then(key,d)::l else p::FH key d l
def HV (F:Ab)(o:Obj)(l:C5):Prop:=∃es clock,o=.map es clock/\es.size=l.length/\JN es clock/\∀(i:Nat) (p:ByteArray×D),l[i]?=some p->(es.getD i default).key=.string p.1/\Iu F p.2 (es.getD i default).val
theorem HV.new (F:Ab):HV F (.map #[] 0) []:=⟨#[],0,rfl,rfl,⟨by simp,by simp⟩,by simp⟩
theorem TT {key:ByteArray}:∀(l:C5) (es:List MapEntry) (i:Nat),es.length=l.length->(∀(j:Nat) (p:ByteArray×D),l[j]?=some p->(es.getD j default).key=.string p.1) ->
  Instr.findNow .string (.string key) es i=some ((FY key l).map λj=>(i+j,(es.getD j default).val))
 | [],[],i,_,_=>rfl
 |p::l,e::es,i,h1,h2=>by
  have h0:e.key=.string p.1:=by simpa using h2 0 p rfl
  have h3:Instr.findNow .string (.string key) (e::es) i=(match Instr.sameNow .string (.string key) e.key with
    |some true=>some (some (i,e.val))|some false=>Instr.findNow .string (.string key) es (i+1)|none=>none):=rfl
  have h4:Instr.sameNow .string (.string key) (.string p.1)=some (BK key p.1):=by
   show some (key==p.1)=_;rw[SP]
  rw[h3,h0,h4];unfold FY;cases BK key p.1 with
  |true=>simp
  |false=>
   dsimp only;rw[TT l es (i+1) (by simpa using h1) λj q hq=>by simpa using h2 (j+1) q (by simpa using hq)];cases FY key l with
   |none=>rfl
   |some j=>simp;omega
 | [],_::_,_,h1,_=>by simp at h1
 |_::_,[],_,h1,_=>by simp at h1
theorem Qg {key:ByteArray}:∀(l:C5),(∀j,FY key l=some j->∃k d,l[j]?=some (k,d)/\Hq key l=some d/\BK key k=true)/\(FY key l=none->Hq key l=none)
 | []=>⟨by simp[FY],λ_=>rfl⟩
 |p::l=>by
  obtain⟨h1,h2⟩:=Qg (key:=key) l;unfold FY Hq;cases hb:BK key p.1 with
  |true=>exact⟨λj hj=>by simp at hj;subst hj;exact⟨p.1,p.2,rfl,rfl,hb⟩,λh=>by simp at h⟩
  |false=>
   refine⟨λj hj=>?_,λh=>?_⟩
   ·simp only[cond_false,Option.map_eq_some_iff]at hj
    obtain⟨q,hq,rfl⟩:=hj;obtain⟨k,d,a1,a2,a3⟩:=h1 q hq;exact⟨k,d,by simpa using a1,by simpa using a2,a3⟩
   ·simp only[cond_false,Option.map_eq_none_iff]at h
    simpa using h2 h
theorem YX (key:ByteArray)(d:D):∀l:C5,(FH key d l).length=match FY key l with|some _=>l.length|none=>l.length+1
 | []=>rfl
 |p::l=>by
  unfold FH FY;cases BK key p.1 with
  |true=>rfl
  |false=>
   simp only[cond_false,Bo];rw[YX key d l];cases FY key l<;>rfl
theorem aE (key:ByteArray)(d:D):∀(l:C5) (i:Nat) (p:ByteArray×D),(FH key d l)[i]?=some p->match FY key l with
  |some j=>(i=j/\p=(key,d))\/(i≠j/\l[i]?=some p)
  |none=>(i=l.length/\p=(key,d))\/(i<l.length/\l[i]?=some p)
 | [],i,p,h=>by
  rcases i with _|i
  ·simp[FH]at h;subst h;exact .inl ⟨rfl,rfl⟩
  ·simp[FH]at h
 |q::l,i,p,h=>by
  unfold FH at h;unfold FY;cases hb:BK key q.1 with
  |true=>
   rw[hb]at h;simp only[cond_true]at h⊢;rcases i with _|i
   ·simp at h;exact .inl ⟨rfl,h.symm⟩
   ·exact .inr ⟨by omega,by simpa using h⟩
  |false=>
   rw[hb]at h;simp only[cond_false]at h⊢;rcases i with _|i
   ·simp at h
    subst h;cases FY key l with
    |none=>exact .inr ⟨by simp,rfl⟩
    |some j=>exact .inr ⟨by show(0:Nat)≠j+1;omega,rfl⟩
   ·have:=aE key d l i p (by simpa using h)
    cases hi:FY key l with
    |none=>
     rw[hi]at this;rcases this with⟨a,b⟩|⟨a,b⟩
     ·exact .inl ⟨by rw[a];rfl,b⟩
     ·exact .inr ⟨by simp;omega,by simpa using b⟩
    |some j=>
     rw[hi]at this;rcases this with⟨a,b⟩|⟨a,b⟩
     ·exact .inl ⟨by rw[a],b⟩
     ·exact .inr ⟨by show i+1≠j+1;omega,by simpa using b⟩
def JW (ok:Bool)(key:ByteArray)(l:C5)(z:Value):D:=match Hq key l with
 |some d=>Hs ok d true
 |none=>Hs ok (ofV z) false
theorem Vz {ok:Bool}{key:ByteArray}{l:C5}{z:Value}(h:Hq key l=none):JW ok key l z=Hs ok (ofV z) false:=by unfold JW;rw[h]
theorem V0 {ok:Bool}{key:ByteArray}{l:C5}{z:Value}{d:D}(h:Hq key l=some d):JW ok key l z=Hs ok d true:=by unfold JW;rw[h]
theorem Bd.makeMap {i:Nat}{o:Oper}{l2:List Nat}{T:Nat}(kb:Nat)(ho:DL ops.toList i=some o)(hg:o.guard=none)(hop:o.op=.makeMap T none)(hO:C3 C B F L)
  (h:∀F2 it,J3 F F2->C3 C B F2 (⟨kb,s.n,.map #[] 0⟩::L)->F2.r0 kb s.n=some it->¬B.X it->HV F2 (.map #[] 0) []->Bd C B rd F2 ops l2 ⟨BZ s.env o.dst (.prim (.map (some it))),s.H,s.n+1⟩ Q):Bd C B rd F ops (i::l2) s Q:=by
 refine Bd.step ho hg λρ a w hs hB=>?_
 obtain⟨F2,ρ2,hB2,-,ht,hO2,hs2,-,hr0,hnX,-⟩:=hO.alloc hB hs kb (.map #[] 0) (by simp);refine⟨.map (some w.heap.size),_,F2,ρ2,.prim (.map (some w.heap.size)),.inl ?_,hB2,hs2,.prim _,h F2 _ ht hO2 hr0 hnX (HV.new _)⟩;unfold execOp;simp only[hop];rw[run_bind];rfl
theorem Bd.look {i:Nat}{o:Oper}{l2:List Nat}{t k e it:Nat}{x ix:Operand}{ok:Bool}{z:Value}{key:ByteArray}{l:C5}{xo:HK}(hX:DF C X)(ho:DL ops.toList i=some o)(hg:o.guard=none)(hop:o.op=.lookup t x ix ok)(hxt:X.xt t=some (.map k e z))
  (hx:BE s.env x=.prim (.map (some it))) (hi:BE s.env ix=.prim (.string key)) (hO:C3 C B F L) (hm:xo∈L) (hit:F.r0 xo.k xo.g=some it) (hM:HV F xo.o l)
  (h:Bd C B rd F ops l2 ⟨BZ s.env o.dst (JW ok key l z),s.H,s.n+1⟩ Q):Bd C B rd F ops (i::l2) s Q:=by
 refine Bd.step ho hg λρ a w hs hB=>?_
 obtain⟨a1,a2,⟨inf,a3,a4⟩,a5⟩:=Nk (hX.xt _ _ hxt);obtain⟨it',b1,b2,b3,b4⟩:=hO.now hs.mem hm;rw[hit]at b2;cases b2;obtain⟨es,clock,c1,c2,-,c5⟩:=hM;rw[c1]at b4;have ex:a.eval x=.map (some it):=by
  have:=DG hs.env x
  rw[hx]at this;generalize a.eval x=v at this;cases this;rfl
 have ei:a.eval ix=.string key:=by
  have:=DG hs.env ix
  rw[hi]at this;generalize a.eval ix=v at this;cases this;rfl
 have hc:(Instr.checkKey es.isEmpty 10000 k (.string key)).run C.P w=.ok () w:=MapKept.run_checkKey (k:=.string key) a2 (by simp[MapKept.IsKey]) _ 9999;have hz:(zeroValue e).run C.P w=.ok z w:=PO a3 a4 w;have hf:=TT (key:=key) l es.toList 0 (by simpa using c2) λj p hp=>by simpa[Ax]using(c5 j p hp).1
 have sat:Bj C F ρ ⟨s.env,s.H,s.n+1⟩ a w:=⟨hs.mem,λk g hg=>hs.fresh k g (by have:s.n+1<=g:=hg;omega),λe he=>DE (hs.gen e he),hs.env,hs.nt,hs.dfr⟩
 have okR:∀(d:D) (v:Value) (b:Bool),AU ρ (AM F.X ρ s.H) w d v->AU ρ (AM F.X ρ s.H) w (Hs ok d b) (if ok then .tuple #[v,.bool b]else v):=by
  intro d v b hr;cases ok with
  |false=>exact hr
  |true=>
   refine .tup rfl λi d' hd=>?_
   match i with
   | 0=>simp at hd;subst hd;exact hr
   | 1=>simp at hd;subst hd;exact .prim _
   |n+2=>simp at hd
 cases hj:FY key l with
 |none=>
  rw[hj]at hf;have hl:=(Qg (key:=key) l).2 hj;have hlm:JW ok key l z=Hs ok (ofV z) false:=by unfold JW;rw[hl]
  rw[hlm]at h;refine⟨_,w,F,ρ,_,.inl ?_,hB,sat,okR _ z false (.ofV λi x hx=>.inl (a5 i x hx)),h⟩;unfold execOp;simp only[hop];rw[run_bind,ex,ei]
  have:(Instr.lookup t (.map (some it)) (.string key) ok).run C.P w=.ok (if ok then .tuple #[z,.bool false]else z) w:=by
   simp[Instr.lookup,Cj a1,MapKept.run_getObj_map b4,hc,MapKept.run_findKey a2 hf,hz,Result.andThen]
  rw[this];rfl
 |some j=>
  rw[hj]at hf;obtain⟨k',d',g1,g2,-⟩:=(Qg (key:=key) l).1 j hj;have hlm:JW ok key l z=Hs ok d' true:=by unfold JW;rw[g2]
  rw[hlm]at h;have hv:=(c5 j _ g1).2.now hs.mem;have hval:(es.toList.getD j default).val=(es.getD j default).val:=by simp[Ax,Ei]
  simp only[I5]at hf;rw[hval]at hf;refine⟨_,w,F,ρ,_,.inl ?_,hB,sat,okR _ _ true hv,h⟩;unfold execOp;simp only[hop];rw[run_bind,ex,ei]
  have:(Instr.lookup t (.map (some it)) (.string key) ok).run C.P w=.ok (if ok then .tuple #[(es.getD j default).val,.bool true]else(es.getD j default).val) w:=by
   simp[Instr.lookup,Cj a1,MapKept.run_getObj_map b4,hc,MapKept.run_findKey a2 hf,Result.andThen]
  rw[this];rfl
theorem LA (a:ByteArray):BK a a=true:=by unfold BK;exact beq_self_eq_true _
theorem gm {a b:ByteArray}(h:BK a b=true):BK b a=true:=by
 unfold BK at h⊢;rw[EA]at h⊢;exact h.symm
theorem Bd.put {i:Nat}{o:Oper}{l2:List Nat}{t k e it:Nat}{x kx vx:Operand}{z:Value}{key:ByteArray}{l:C5}{xo:HK}(hX:DF C X)(ho:DL ops.toList i=some o)(hg:o.guard=none)(hop:o.op=.mapUpdate t x kx vx)(hxt:X.xt t=some (.map k e z))
  (hx:BE s.env x=.prim (.map (some it))) (hi:BE s.env kx=.prim (.string key)) (hO:C3 C B F (xo::L)) (hit:F.r0 xo.k xo.g=some it) (hM:HV F xo.o l)
  (h:∀F2 o',J3 F F2->C3 C B F2 (⟨xo.k,xo.g,o'⟩::L)->F2.r0 xo.k xo.g=some it->HV F2 o' (FH key (BE s.env vx) l)->Bd C B rd F2 ops l2 ⟨BZ s.env o.dst .any,s.H,s.n+1⟩ Q):Bd C B rd F ops (i::l2) s Q:=by
 refine Bd.step ho hg λρ a w hs hB=>?_
 obtain⟨a1,a2,-,-⟩:=Nk (hX.xt _ _ hxt);obtain⟨it',b1,b2,b3,b4⟩:=hO.now hs.mem Cg;rw[hit]at b2;cases b2;obtain⟨es,clock,c1,c2,c3,c5⟩:=hM;rw[c1]at b4;have ex:a.eval x=.map (some it):=by
  have:=DG hs.env x
  rw[hx]at this;generalize a.eval x=v at this;cases this;rfl
 have ei:a.eval kx=.string key:=by
  have:=DG hs.env kx
  rw[hi]at this;generalize a.eval kx=v at this;cases this;rfl
 have hc:(Instr.checkKey false 10000 k (.string key)).run C.P w=.ok () w:=MapKept.run_checkKey (k:=.string key) a2 (by simp[MapKept.IsKey]) _ 9999;have hf:=TT (key:=key) l es.toList 0 (by simpa using c2) λj p hp=>by simpa[Ax]using(c5 j p hp).1
 have hval:=DG hs.env vx;have hpl:=YX key (BE s.env vx) l;have hpa:=aE key (BE s.env vx) l;generalize BE s.env vx=d at hval h hpl hpa;generalize hv:a.eval vx=v at hval;cases hj:FY key l with
 |none=>
  rw[hj]at hf hpl;simp only[hj]at hpa;dsimp only at hpl;obtain⟨F2,hB2,-,ht,hO2,hs2,hr0,hfr⟩:=hO.turn (o':=.map (es.push { key:=.string key,val:=v,born:=clock }) (clock+1)) hB hs (by simp) hit;refine⟨undef,_,F2,ρ,.any,.inr ⟨?_,rfl⟩,hB2,hs2,.any _,h F2 _ ht hO2 hr0 ⟨_,_,rfl,by simp[c2,hpl],c3.push _ _,λi p hp=>?_⟩⟩
  ·unfold execOp
   simp only[hop];rw[run_bind,ex,ei,hv]
   have:(Instr.mapUpdate t (.map (some it)) (.string key) v).run C.P w=.ok () (w.putObj it (.map (es.push { key:=.string key,val:=v,born:=clock }) (clock+1))):=by
    simp[Instr.mapUpdate,Cj a1,MapKept.run_getObj_map b4,hc,MapKept.run_findKey a2 hf,MapKept.run_setObj_map _ b4,Result.andThen,World.putObj]
   rw[this];rfl
  ·rcases hpa i p hp with⟨q1,q2⟩|⟨q1,q2⟩
   ·subst q2
    rw[Ax,Ox,AH (by omega)];exact⟨rfl,hfr.rep _ _ hval⟩
   ·rw[Ax,Ox,AG (by omega),<-Ax]
    exact⟨(c5 i p q2).1,ht.rep _ _ (c5 i p q2).2⟩
 |some j=>
  rw[hj]at hf hpl;simp only[hj]at hpa;dsimp only at hpl;obtain⟨k',d',g1,-,g3⟩:=(Qg (key:=key) l).1 j hj;have hjl:j<es.size:=by rw[c2];exact(List.getElem?_eq_some_iff.1 g1).1
  obtain⟨ej,hej⟩:∃ej,es[j]?=some ej:=⟨es[j],Bc hjl⟩
  have hkj:ej.key=.string k':=by
   have:=(c5 j _ g1).1
   rw[Ax,hej]at this;exact this
  obtain⟨F2,hB2,-,ht,hO2,hs2,hr0,hfr⟩:=hO.turn (o':=.map (es.modify j λe=>{ e with key:=.string key,val:=v }) clock) hB hs (by simp) hit;have hmod:∀i:Nat,(es.modify j λe=>{ e with key:=.string key,val:=v })[i]?=if j=i then(es[i]?).map λe=>{ e with key:=.string key,val:=v }else es[i]?:=λi=>by
   rw[Array.getElem?_modify]
  refine⟨undef,_,F2,ρ,.any,.inr ⟨?_,rfl⟩,hB2,hs2,.any _,h F2 _ ht hO2 hr0 ⟨_,_,rfl,by simp[c2,hpl],⟨λi e he=>?_,λi i' e e' he he' hbb=>?_⟩,λi p hp=>?_⟩⟩
  ·unfold execOp
   simp only[hop];rw[run_bind,ex,ei,hv];have hks:(Instr.keyThatStays (((es[j]?).map (·.key)).getD (.string key)) (.string key)).run C.P w=.ok (.string key) w:=by
    rw[hej];show(Instr.keyThatStays ej.key (.string key)).run C.P w=_;rw[hkj];unfold Instr.keyThatStays
    have:Instr.sameBits 10000 (.string k') (.string key)=true:=by
     show(k'==key)=true;rw[SP];exact gm g3
    rw[AH this];rfl
   have hks2:(Instr.keyThatStays ej.key (.string key)).run C.P w=.ok (.string key) w:=by
    rw[hej]at hks;exact hks
   have:(Instr.mapUpdate t (.map (some it)) (.string key) v).run C.P w=.ok () (w.putObj it (.map (es.modify j λe=>{ e with key:=.string key,val:=v }) clock)):=by
    simp[Instr.mapUpdate,Cj a1,MapKept.run_getObj_map b4,hc,MapKept.run_findKey a2 hf,MapKept.run_setObj_map _ b4,Result.andThen,World.putObj,hej,hks2]
   rw[this];rfl
  ·rw[hmod]at he
   split at he
   ·rename_i q;subst q
    rw[hej]at he;cases he;exact c3.1 j ej hej
   ·exact c3.1 i e he
  ·rw[hmod]at he he'
   have key:∀(i:Nat) (e:MapEntry),(if j=i then(es[i]?).map λe=>{ e with key:=.string key,val:=v }else es[i]?)=some e->∃e0,es[i]?=some e0/\e0.born=e.born:=λi e he=>by
    split at he
    ·rename_i q;subst q
     rw[hej]at he;cases he;exact⟨ej,hej,rfl⟩
    ·exact⟨e,he,rfl⟩
   obtain⟨e0,q1,q2⟩:=key i e he;obtain⟨e1,q3,q4⟩:=key i' e' he';exact c3.2 i i' e0 e1 q1 q3 (by rw[q2,q4,hbb])
  ·rcases hpa i p hp with⟨q1,q2⟩|⟨q1,q2⟩
   ·subst q1 q2
    rw[Ax,hmod,AH rfl,hej];exact⟨rfl,hfr.rep _ _ hval⟩
   ·rw[Ax,hmod,AG (Ne.symm q1),<-Ax]
    exact⟨(c5 i p q2).1,ht.rep _ _ (c5 i p q2).2⟩
end
section
variable {C:A8} {X:EV} {B F:Ab} {ops:Array Oper} {s:St} {rd:Option Nat} {Q:Exit->Ab->St->Prop} {L:List HK}
def mapD (l:C5):D:=.mp (l.map λp=>.prim (.string p.1)) (l.map (·.2))
def ON (it:Nat)(d:D)(env:Ar):Ar->Prop
 | []=>True
 |(t,d')::r=>(d'=env.get t\/(env.get t=.prim (.map (some it))/\d'=d))/\ON it d env r
theorem ON.get {it:Nat}{d:D}{env:Ar}:∀ {env':Ar},ON it d env env'->∀t,env'.get t=.any\/env'.get t=env.get t\/(env.get t=.prim (.map (some it))/\env'.get t=d)
 | [],_,t=>.inl rfl
 |(t0,d0)::r,h,t=>by
  simp only[Ar.get];cases hb:Nat.beq t0 t with
  |true=>
   obtain rfl:=B4 hb;exact .inr h.1
  |false=>exact ON.get h.2 t
theorem dS {c:Code}{it:Nat}{l:C5}{xo:HK}(env':Ar)(hO:C3 C B F (xo::L))(hit:F.r0 xo.k xo.g=some it)(hnB:¬B.X it)(hM:HV F xo.o l)(he:ON it (mapD l) s.env env')
  (h:∀F2,J3 F F2->C3 C B F2 L->AC C B rd F2 c ⟨env',s.H,s.n⟩ Q):AC C B rd F c s Q:=by
 refine⟨λhB hd ρ a w hs=>?_⟩;have m:=hs.mem;obtain⟨it',b1,b2,b3,b4⟩:=hO.now m Cg;rw[hit]at b2;cases b2
 let X2:Nat->Prop:=λb=>F.X b/\b≠it
 have hown:∀b,AM X2 ρ s.H b->AM F.X ρ s.H b:=λb hb=>hb.imp And.left id
 have x:BQ ρ (AM F.X ρ s.H) w ρ (AM X2 ρ s.H) w:=⟨Ai _,λ_ _ _ h=>h,λb _ hb=>⟨λq=>hb (hown b q),rfl⟩,λ_ cs _ _ h=>⟨cs,_,h,rfl⟩⟩
 let F2:=Ab.subZ ρ s.H w F.nt X2 (λ_=>False) F.df
 have m2:Ao C F2 ρ s.H w:=m.enterZ x rfl rfl rfl (λ_ _ _=>rfl) (λ_ _ _ _ h=>h) (λb hb=>CV (m.xlt b hb.1) m.size) (λe he b hb q=>(m.hok.own e he b hb).1 q.1) (λ_ h=>h.elim) _ _;have hr0:∀y∈L,F2.r0 y.k y.g=F.r0 y.k y.g:=λy hy=>by
  obtain⟨i2,a1,-⟩:=hO.at_ y (Cn _ hy);rw[a1];exact m.lnk _ _ _ a1
 have hd1:=Dm.1 hO.dis;have hne:∀y∈L,∀b,F.r0 y.k y.g=some b->b≠it:=λy hy b hb e=>hd1.1 y hy (by rw[hit,hb,e])
 have hnow:Ll ρ (AM F.X ρ s.H) w F2:=by
  have hx:∀b,F2.X b\/F2.Wr b->AM F.X ρ s.H b:=λb hb=>by
   rcases hb with hb|hb|hb
   ·exact .inl hb.1
   ·exact .inr hb
   ·exact hb.elim
  exact⟨λd v h=>AU.anti h hx,λb o h1 h2=>⟨h1,λq=>h2 (hx b q)⟩⟩
 have hbm:=hO.bm m;have hreb:Hu B F2 (IZ F2 L):=hO.reb.now m rfl rfl rfl (Ai _) (λ_ _ _=>rfl) (hO.cellF m) (λ_ _ _ h=>h) (λ_ _ _ h=>h) (λb hb=>⟨hO.reb.X b hb,λe=>hnB (e ▸ hb)⟩) λb ⟨y,hy,hb⟩=>.inl ⟨y,Cn _ hy,by rw[<-hr0 y hy];exact hb⟩
 have hobs:C3 C B F2 L:=by
  refine⟨λy hy=>?_,λy hy=>hO.nc y (Cn _ hy),hd1.2.imp_of_mem λ{y z} hy hz h=>by rw[hr0 y hy,hr0 z hz];exact h,hreb,λ_=>hbm,hO.df⟩;obtain⟨i2,a1,a2,a3,a4,a5⟩:=hO.at_ y (Cn _ hy);refine⟨i2,(hr0 y hy).trans a1,⟨a2,hne y hy i2 a1⟩,λh=>?_,(m.blk i2 (m.xlt i2 a2) a3).trans a4,a5⟩;rcases h with⟨e,he,h⟩|h
  ·exact(m.hok.own e he i2 h).1 a2
  ·exact h
 have hF2:Ct C B F2:=hreb.fle hbm (λb ⟨y,hy,hb⟩=>by
  rw[hr0 y hy]at hb;exact hO.ng b ⟨y,Cn _ hy,hb⟩) hB.nt hO.df
 refine(h F2 (hnow.to m λ_ _ _ h=>h) hobs).out hF2 hd ρ a w ⟨m2,hs.fresh,hs.gen,λt=>?_,hs.nt,hs.dfr⟩;have ht:=hs.env t;show AU ρ (AM X2 ρ s.H) w (env'.get t) _;rcases he.get t with q|q|⟨q1,q2⟩
 ·rw[q];exact .any _
 ·rw[q];exact AU.anti ht hown
 ·rw[q2]
  rw[q1]at ht;generalize a.tmps.getD t undef=v at ht;cases ht;obtain⟨es,clock,c1,c2,c3,c5⟩:=hM;rw[c1]at b4;have hlt:it<w.heap.size:=(Array.getElem?_eq_some_iff.1 b4).1;refine .mp (λq=>?_) hlt b4 (by simpa using c2) (by simpa using c2) c3 (λi d hd=>?_) λi d hd=>?_
  ·rcases q with q|⟨e,he,q⟩
   ·exact q.2 rfl
   ·exact(m.hok.own e he it q).1 b3
  ·rw[A7]at hd
   obtain⟨p,hp,rfl⟩:=Option.map_eq_some_iff.1 hd;rw[(c5 i p hp).1];exact .prim _
  ·rw[A7]at hd
   obtain⟨p,hp,rfl⟩:=Option.map_eq_some_iff.1 hd;exact AU.anti ((c5 i p hp).2.now m) hown
def Mq (F:Ab)(o:Obj)(ks vs:List D)(dn:List Nat):Prop:=∃bm es clock since c0 seen,o=.mapIter (some bm) since seen c0/\F.w0.heap[bm]?=some (.map es clock)/\¬(F.X bm\/F.Wr bm)/\es.size=ks.length/\es.size=vs.length/\JN es clock /\
 (∀(i:Nat) (d:D),ks[i]?=some d->Iu F d (es.getD i default).key)/\(∀(i:Nat) (d:D),vs[i]?=some d->Iu F d (es.getD i default).val) /\
 (∀(i:Nat) (e:MapEntry),es[i]?=some e->e.born<since)/\since<=c0/\c0=clock/\seen.toList=dn.map (λi=>(es.getD i default).born)/\dn.Nodup/\∀i∈dn,i<es.size
theorem xA {i:Nat}{o:Oper}{l2:List Nat}{t k e:Nat}{x:Operand}{ks vs:List D}(kb:Nat)(ht:C.P.underlying t=some (.map k e))(ho:DL ops.toList i=some o)(hg:o.guard=none)(hop:o.op=.range t x)(hx:BE s.env x=.mp ks vs)(hO:C3 C B F L)
  (h:∀F2 o2,J3 F F2->C3 C B F2 (⟨kb,s.n,o2⟩::L)->Mq F2 o2 ks vs []->Bd C B rd F2 ops l2 ⟨BZ s.env o.dst (.optr kb s.n 0 0 0),s.H,s.n+1⟩ Q):Bd C B rd F ops (i::l2) s Q:=by
 refine Bd.step ho hg λρ a w hs hB=>?_
 have hrep:=DG hs.env x;rw[hx]at hrep;generalize hev:a.eval x=v at hrep;cases hrep with
 |mp hO' hr hb h1 h2 hBo hk hv=>
  rename_i r clock es;obtain⟨F2,ρ2,hB2,-,hto,hO2,hs2,hlk,hr0,-,hnow⟩:=hO.alloc hB hs kb (.mapIter (some r) clock #[] clock) (by simp);obtain⟨q1,q2⟩:=hnow.blk r _ hb hO';refine⟨_,_,F2,ρ2,.optr kb s.n 0 0 0,.inl ?_,hB2,hs2,.optr hlk,h F2 _ hto hO2 ⟨r,es,clock,clock,clock,#[],rfl,q1,q2,h1,h2,hBo,λi d hd=>hnow.rep _ _ (hk i d hd),λi d hd=>hnow.rep _ _ (hv i d hd),hBo.1,Ai _,rfl,rfl,.nil,by simp⟩⟩;unfold execOp;simp only[hop];rw[run_bind,hev,run_range_map w t k e r es clock ht hb];simp
theorem Bj.drew {ρ:Lk}{a:Act}{w:World}(hs:Bj C F ρ s a w):Bj C F ρ s a w.drew:=⟨hs.mem.drew,hs.fresh,hs.gen,λt=>(hs.env t).mono (.drew _ _ _),hs.nt,hs.dfr⟩
theorem wz {i:Nat}{o:Oper}{l2:List Nat}{x:Operand}{ks vs:List D}{xo:HK}{dn:List Nat}(ho:DL ops.toList i=some o)(hg:o.guard=none)(hop:o.op=.next x false)(hx:BE s.env x=.optr xo.k xo.g 0 0 0)(hO:C3 C B F (xo::L))(hI:Mq F xo.o ks vs dn)
  (h1:(∀j,j<ks.length->j∈dn)->Bd C B rd F ops l2 ⟨BZ s.env o.dst (.tup [As false]),s.H,s.n+1⟩ Q)
  (h2:∀j kd vd F2 o2,j∉dn->ks[j]?=some kd->vs[j]?=some vd->J3 F F2->C3 C B F2 (⟨xo.k,xo.g,o2⟩::L)->Mq F2 o2 ks vs (dn++[j])->Bd C B rd F2 ops l2 ⟨BZ s.env o.dst (.tup [As true,kd,vd]),s.H,s.n+1⟩ Q):
  Bd C B rd F ops (i::l2) s Q:=by
 refine Bd.step ho hg λρ a w hs hB=>?_
 have m:=hs.mem;obtain⟨it,b1,b2,b3,b4⟩:=hO.now m Cg;obtain⟨bm,es,clock,since,c0,seen,e1,e2,e3,e4,e5,e6,e7,e8,e9,e10,e11,e12,e13,e14⟩:=hI;subst e11;rw[e1]at b4;have hlt0:bm<F.w0.heap.size:=(Array.getElem?_eq_some_iff.1 e2).1;have hbm:w.heap[bm]?=some (.map es c0):=(m.blk bm hlt0 λq=>e3 (.inr q)).trans e2;have hxv:a.eval x=.pointer (some ⟨it,0,none⟩):=by
  have:=DG hs.env x
  rw[hx]at this;generalize a.eval x=v at this;cases this with
  |optr hr=>rw[b1]at hr;cases hr;rfl
 have sat:∀w',Bj C F ρ s a w'->Bj C F ρ ⟨s.env,s.H,s.n+1⟩ a w':=λw' hs=>⟨hs.mem,λk g hg=>hs.fresh k g (by have:s.n+1<=g:=hg;omega),λe he=>DE (hs.gen e he),hs.env,hs.nt,hs.dfr⟩
 have hmem:∀e:MapEntry,e∈es.toList->∃j,es[j]?=some e:=λe he=>by
  obtain⟨j,hj⟩:=List.mem_iff_getElem?.1 he;exact⟨j,by simpa using hj⟩
 have hseen:∀b:Nat,seen.contains b=true↔∃j∈dn,(es.getD j default).born=b:=λb=>by
  rw[<-Array.contains_toList,e12,List.contains_iff_mem,List.mem_map]
 rcases run_next_at (P:=C.P) w o.type it bm since c0 seen es c0 b4 hbm (λe he=>by obtain⟨j,hj⟩:=hmem e he;exact e9 j e hj) e10 with⟨q1,q2⟩|⟨e,he,w1,hw1,q2⟩
 ·refine⟨_,w,F,ρ,_,.inl ?_,hB,sat w hs,.tup (vs:=#[.bool false]) rfl λi d hd=>?_,h1 λj hj=>?_⟩
  ·unfold execOp
   simp only[hop];rw[run_bind,hxv,q2];rfl
  ·match i with
   | 0=>simp at hd;subst hd;exact .prim _
   |n+1=>simp at hd
  ·rw[<-e4]at hj
   obtain⟨ej,hej⟩:∃ej,es[j]?=some ej:=⟨es[j],Bc hj⟩
   have hc:seen.contains ej.born=true:=by
    apply Cy;intro hn;have hn:seen.contains ej.born=false:=by simpa using hn
    have:ej∈leftOf es seen:=by
     unfold leftOf;rw[Array.mem_filter];exact⟨Hm hej,by rw[hn];rfl⟩
    have:=Array.size_pos_of_mem this
    omega
   obtain⟨j',hj',hb'⟩:=(hseen _).1 hc;have hlt:=e14 j' hj'
   have:j=j':=e6.2 j j' ej (es.getD j' default) hej (by rw[Ax,Bc hlt];rfl) hb'.symm
   rw[this];exact hj'
 ·have hel:e∈es/\seen.contains e.born=false:=by
   have:e∈leftOf es seen:=Array.mem_toList_iff.1 he
   unfold leftOf at this;rw[Array.mem_filter]at this;exact⟨this.1,by simpa using this.2⟩
  obtain⟨j,hj⟩:=hmem e (Array.mem_toList_iff.2 hel.1);have hjl:j<es.size:=(Array.getElem?_eq_some_iff.1 hj).1;have hgd:es.getD j default=e:=by rw[Ax,hj];rfl
  have hjn:j∉dn:=λq=>by
   have:=(hseen e.born).2 ⟨j,q,by rw[hgd]⟩
   rw[hel.2]at this;cases this
  obtain⟨kd,hkd⟩:∃kd,ks[j]?=some kd:=⟨ks[j]'(by omega),BI _⟩
  obtain⟨vd,hvd⟩:∃vd,vs[j]?=some vd:=⟨vs[j]'(by omega),BI _⟩
  have hs1:Bj C F ρ s a w1:=by
   rcases hw1 with rfl|rfl
   ·exact hs
   ·exact hs.drew
  obtain⟨F2,hB2,-,hto,hO2,hs2,hr0,-⟩:=hO.turn (o':=.mapIter (some bm) since (seen.push e.born) c0) hB hs1 (by simp) b2;obtain⟨p1,p2⟩:=hto.blk _ _ e2 e3;have hit2:Mq F2 (.mapIter (some bm) since (seen.push e.born) c0) ks vs (dn++[j]):=⟨bm,es,c0,since,c0,seen.push e.born,rfl,p1,p2,e4,e5,e6,λi d hd=>hto.rep _ _ (e7 i d hd),λi d hd=>hto.rep _ _ (e8 i d hd),e9,e10,rfl,by
   rw[Array.toList_push,e12,Cv];simp only[Cc,List.map_nil];rw[hgd],by
   rw[Dp];exact⟨e13,by simp,λx hx y hy=>by
    rw[List.mem_singleton]at hy;subst hy;exact λq=>hjn (q ▸ hx)⟩,λi hi=>by
   rcases List.mem_append.1 hi with hi|hi
   ·exact e14 i hi
   ·rw[List.mem_singleton]at hi;subst hi;exact hjl⟩
  have hk:=(hto.rep _ _ (e7 j kd hkd)).now hs2.mem;have hv:=(hto.rep _ _ (e8 j vd hvd)).now hs2.mem;rw[hgd]at hk hv;refine⟨_,_,F2,ρ,_,.inl ?_,hB2,hs2,.tup (vs:=#[.bool true,e.key,e.val]) rfl λi d hd=>?_,h2 j kd vd F2 _ hjn hkd hvd hto hO2 hit2⟩
  ·unfold execOp
   simp only[hop];rw[run_bind,hxv,q2];rfl
  ·match i with
   | 0=>simp at hd;subst hd;exact .prim _
   | 1=>simp at hd;subst hd;exact hk
   | 2=>simp at hd;subst hd;exact hv
   |n+3=>simp at hd
theorem JN.nodup {es:Array MapEntry}{clock:Nat}(h:JN es clock):(es.toList.map (·.born)).Nodup:=by
 rw[List.nodup_iff_pairwise_ne,List.pairwise_map,List.pairwise_iff_getElem];intro i j hi hj hij hb
 have:=h.2 i j es.toList[i] es.toList[j] (by simp at hi;simp[hi]) (by simp at hj;simp[hj]) hb
 omega
theorem wo {i:Nat}{o:Oper}{l2:List Nat}{x:Operand}{ks vs:List D}{xo:HK}{dn:List Nat}{j:Nat}{kd vd:D}(ho:DL ops.toList i=some o)(hg:o.guard=none)(hop:o.op=.entry x)(hx:BE s.env x=.optr xo.k xo.g 0 0 0)(hO:C3 C B F L)(hm:xo∈L)(hI:Mq F xo.o ks vs (dn++[j]))
  (hk:ks[j]?=some kd) (hv:vs[j]?=some vd) (h:Bd C B rd F ops l2 ⟨BZ s.env o.dst (.tup [kd,vd]),s.H,s.n+1⟩ Q):Bd C B rd F ops (i::l2) s Q:=by
 refine Bd.step ho hg λρ a w hs hB=>?_
 have m:=hs.mem;obtain⟨it,b1,b2,b3,b4⟩:=hO.now m hm;obtain⟨bm,es,clock,since,c0,seen,e1,e2,e3,e4,e5,e6,e7,e8,e9,e10,e11,e12,e13,e14⟩:=hI;subst e11;rw[e1]at b4;have hlt0:bm<F.w0.heap.size:=(Array.getElem?_eq_some_iff.1 e2).1;have hbm:w.heap[bm]?=some (.map es c0):=(m.blk bm hlt0 λq=>e3 (.inr q)).trans e2;have hxv:a.eval x=.pointer (some ⟨it,0,none⟩):=by
  have:=DG hs.env x
  rw[hx]at this;generalize a.eval x=v at this;cases this with
  |optr hr=>rw[b1]at hr;cases hr;rfl
 have hjl:=e14 j (by simp);obtain⟨e,he⟩:∃e,es[j]?=some e:=⟨es[j],Bc hjl⟩
 have hgd:es.getD j default=e:=by rw[Ax,he];rfl
 have hpush:seen=((dn.map λi=>(es.getD i default).born).toArray).push e.born:=by
  apply Array.toList_inj.1;rw[e12,Array.toList_push,Cv];simp only[Cc,List.map_nil];rw[hgd]
 rw[hpush]at b4;have hk':=(e7 j kd hk).now m;have hv':=(e8 j vd hv).now m;rw[hgd]at hk' hv';refine⟨_,w,F,ρ,_,.inl ?_,hB,⟨hs.mem,λk g hg=>hs.fresh k g (by have:s.n+1<=g:=hg;omega),λe he=>DE (hs.gen e he),hs.env,hs.nt,hs.dfr⟩,.tup (vs:=#[e.key,e.val]) rfl λi d hd=>?_,h⟩
 ·unfold execOp
  simp only[hop];rw[run_bind,hxv,run_entry_at w it bm since _ es c0 e b4 hbm (Array.mem_toList_iff.2 (Hm he)) e6.nodup];rfl
 ·match i with
  | 0=>simp at hd;subst hd;exact hk'
  | 1=>simp at hd;subst hd;exact hv'
  |n+2=>simp at hd
end
open Go.Sort
section
variable {C:A8} {F:Ab} {ρ:Lk} {H:Hp} {w:World}
theorem ff (w:World)(b:Nat)(FV cs:Array Value)(T:Nat)(fz:Nat×Nat)(hc:w.heap[b]?=some (.cells cs T fz))(n b':Nat):
  (putRow id (Sort.ahead w n) b 0 FV).heap[b']?=if b'=b then some (.cells (putCells id 0 FV cs) T fz)else w.heap[b']?:=by
 show((Sort.ahead w n).heap.modify b _)[b']?=_;rw[Array.getElem?_modify]
 by_cases h:b'=b
 ·subst h
  rw[AH rfl,AH rfl];show Option.map _ w.heap[b']?=_;rw[hc];rfl
 ·rw[AG (λq=>h q.symm),AG h];rfl
theorem VS (FV cs:Array Value)(i:Nat)(hi:i<FV.size)(hle:FV.size<=cs.size):(putCells id 0 FV cs)[i]?=FV[i]?:=by
 have h1:i<cs.size:=by omega
 unfold putCells;rw[Array.getElem?_mapIdx,Bc h1,Bc hi];simp[hi]
theorem eE (FV cs:Array Value)(i:Nat)(hi:FV.size<=i):(putCells id 0 FV cs)[i]?=cs[i]?:=by
 unfold putCells;rw[Array.getElem?_mapIdx]
 have:¬i<FV.size:=by omega
 simp[this]
theorem xT {e:Au}{b:Nat}{cs:Array Value}(m:Ao C F ρ (e::H) w)(hb:ρ e.k e.g=some b)(hc:w.heap[b]?=some (.cells cs e.T (0,0)))(hok:DB ρ (AM F.X ρ (e::H)) w e cs)(FV:Array Value)(es':List D)(hsz:FV.size=es'.length*e.sz)(hle:FV.size<=cs.size)
  (hsiz:∀(i:Nat) (d:D),es'[i]?=some d->d.cells.length=e.sz) (hone:∀(i:Nat) (v:Value),FV[i]?=some v->one v=true)
  (hval:∀(i:Nat) (d:D) (j:Nat) (c:D),es'[i]?=some d->d.cells[j]?=some c->AU ρ (AM F.X ρ (e::H)) w c (FV.getD (i*e.sz+j) undef)) (n:Nat) (os:Array Obj):
  Ao C F ρ (⟨e.k,e.g,e.T,e.sz,es'⟩::H) (Sort.grow (putRow id (Sort.ahead w n) b 0 FV) os) /\
  BQ ρ (AM F.X ρ (e::H)) w ρ (AM F.X ρ (⟨e.k,e.g,e.T,e.sz,es'⟩::H)) (Sort.grow (putRow id (Sort.ahead w n) b 0 FV) os):=by
 have hlt:b<w.heap.size:=m.lt Cg hb;have hps:(putCells id 0 FV cs).size=cs.size:=by unfold putCells;simp
 obtain⟨m1,x1⟩:=Ao.write (H1:=[]) (e':=⟨e.k,e.g,e.T,e.sz,es'⟩) (cs':=putCells id 0 FV cs) m hb hc rfl rfl rfl hps ⟨by rw[hps];exact hsz ▸ hle,hsiz,λi v hv=>by
   rcases BG i FV.size with h|h
   ·rw[VS _ _ _ h hle]at hv;exact hone i v hv
   ·rw[eE _ _ _ h]at hv;exact hok.one i v hv,λi d j c h1 h2=>by
   have hi:i<es'.length:=(List.getElem?_eq_some_iff.1 h1).1;have hj:j<e.sz:=by
    have:=(List.getElem?_eq_some_iff.1 h2).1
    rw[hsiz i d h1]at this;exact this
   have hx:i*e.sz+j<FV.size:=by
    rw[hsz]
    calc i*e.sz+j<i*e.sz+e.sz:=by omega
     _=(i+1)*e.sz:=by rw[Nat.succ_mul]
     _<=es'.length*e.sz:=CI _ hi
   have:=hval i d j c h1 h2
   rw[Ax,VS _ _ _ hx hle,<-Ax];exact this⟩
 have hh:∀b',b'<w.heap.size->(Sort.grow (putRow id (Sort.ahead w n) b 0 FV) os).heap[b']?=(World.setBlk w b (putCells id 0 FV cs) e.T).heap[b']?:=λb' hb'=>by
  rw[heap_grow_old _ _ (by show b'<((Sort.ahead w n).heap.modify b _).size;rw[Array.size_modify];exact hb'),ff w b FV cs _ _ hc,K4 _ _ _ _ _ hlt]
 have hss:(World.setBlk w b (putCells id 0 FV cs) e.T).heap.size=w.heap.size:=by unfold World.setBlk;simp
 have hgs:w.heap.size<=(Sort.grow (putRow id (Sort.ahead w n) b 0 FV) os).heap.size:=by
  rw[size_grow];show w.heap.size<=((Sort.ahead w n).heap.modify b _).size+_;rw[Array.size_modify];exact Nat.le_add_right _ _
 have x2:BQ ρ (AM F.X ρ (⟨e.k,e.g,e.T,e.sz,es'⟩::H)) (World.setBlk w b (putCells id 0 FV cs) e.T) ρ (AM F.X ρ (⟨e.k,e.g,e.T,e.sz,es'⟩::H)) (Sort.grow (putRow id (Sort.ahead w n) b 0 FV) os):=
  ⟨by rw[hss];exact hgs,λ_ _ _ h=>h,λb' hb' h=>⟨h,hh b' (by rw[hss]at hb';exact hb')⟩,λb' c T fz h=>⟨c,fz,by
   rw[hh b' (by have:=(Array.getElem?_eq_some_iff.1 h).1;rw[hss]at this;exact this)];exact h,rfl⟩⟩
 exact⟨m1.same x2 rfl rfl rfl λb' hb'=>hh b' (by rw[hss]at hb';exact hb'),x1.trans x2⟩
end
section
variable {α:Type} [Inhabited α] {enc:α->List Value} {k:Nat} {toD:α->D} {lt:α->α->Bool}
theorem Sk (hk:∀x,(enc x).length=k)(l:List α){i j:Nat}{x:α}(hi:l[i]?=some x)(hj:j<k):(flatK enc k l.toArray)[i*k+j]?=(enc x)[j]?:=by
 have hil:=(List.getElem?_eq_some_iff.1 hi).1;have hlt:i*k+j<l.toArray.size*k:=by
  rw[Jn]
  calc i*k+j<i*k+k:=by omega
   _=(i+1)*k:=by rw[Nat.succ_mul]
   _<=l.length*k:=CI _ hil
 have hd:(i*k+j)/k=i:=by rw[BS,Nat.mul_add_div (by omega),HE hj];rfl
 have hm:(i*k+j)%k=j:=by rw[BS,Nat.mul_add_mod,Dc hj]
 have h1:(flatK enc k l.toArray)[i*k+j]?=some (flatK enc k l.toArray)[i*k+j]!:=by
  rw[getElem!_pos _ _ (by rw[size_flatK];exact hlt),Bc]
 have hx:l.toArray[i]! = x:=by
  rw[getElem!_pos _ _ (by rw[Jn];exact hil)];simpa using(List.getElem?_eq_some_iff.1 hi).2
 rw[h1,get_flatK _ _ _ _ hlt,hd,hm,hx,getElem!_pos _ _ (by rw[hk];exact hj)];exact(BI _).symm
def ZC (P:Program)(f g:Nat)(enc:α->List Value)(k:Nat)(lt:α->α->Bool):Prop:=∀(blk cap:Nat) (d:Array α) (w:World),HoldsK enc k w blk 0 d->blk<w.heap.size->d.size<4611686018427387904 ->
 Calls P f #[.slice (some ⟨blk,0,none⟩) d.size cap,.func (.func g) #[] #[]] w λe w'=>e=.returned (.tuple #[])/\∃d' n os,PermIn 0 d.size d d'/\SortedIn lt 0 d.size d'/\w'=Go.Proofs.sortWorldK enc k w blk 0 n d' os
theorem jB {C:A8}{f g:Nat}(hf:JC C.P f)(hk0:0<k)(hk:∀x,(enc x).length=k)(h1:∀x,∀v∈enc x,one v=true)(hD:∀x,(toD x).cells=(enc x).map .prim)(hc:ZC C.P f g enc k lt)
  (l:List α) (hl0:l≠[]) (hl:l.length<4611686018427387904) (kb gg T:Nat) (H:Hp) (n:Nat):
  CO C f [.osl kb gg k 0 l.length,.clo (.func g) [] []] (⟨kb,gg,T,k,l.map toD⟩::H) n (λd H' n'=>d=.tup []/\n'=n+1/\∃l':List α,l'.Perm l/\l'.Pairwise (λa b=>lt b a=false)/\H'=⟨kb,gg,T,k,l'.map toD⟩::H):=by
 refine⟨hf,λF ρ w vs m fr gn hsz rep=>?_⟩;obtain⟨v0,v1,rfl⟩:∃v0 v1,vs = #[v0,v1]:=by
  match vs,hsz with
  |⟨[a,b]⟩,_=>exact⟨a,b,rfl⟩
 have r0:AU ρ _ w (.osl kb gg k 0 l.length) v0:=rep 0 _ rfl;have r1:AU ρ _ w (.clo (.func g) [] []) v1:=rep 1 _ rfl;obtain⟨x0,l0,hl0'⟩:∃x l0,l=x::l0:=by
  cases l with
  |nil=>exact AZ rfl hl0
  |cons a b=>exact⟨a,b,rfl⟩
 have hlp:0<l.length:=by rw[hl0'];simp
 generalize hlen:l.length=len at*;cases r1 with
 |clo hf1 hc1 _ _=>
  rename_i fs cs1;simp at hf1 hc1;subst hf1 hc1;cases r0 with
  |onil=>exact AZ hlp (Nat.lt_irrefl _)
  |osl hr hb hcl hs hmx=>
   rename_i cap b T' cs fz;have hent:∃cs,w.heap[b]?=some (.cells cs T (0,0))/\DB ρ (AM F.X ρ (⟨kb,gg,T,k,l.map toD⟩::H)) w ⟨kb,gg,T,k,l.map toD⟩ cs:=by
    rcases m.hok.ent _ Cg with⟨h,h2⟩|⟨b2,cs2,a1,a2,a3⟩
    ·exact AZ (hr.symm.trans h2) (by simp)
    ·cases hr.symm.trans a1;exact⟨cs2,a2,a3⟩
   obtain⟨cs2,hb2,hok⟩:=hent;cases hb.symm.trans hb2;have hlt:b<w.heap.size:=m.lt Cg hr;have hcap:len*k<=cs.size:=by rw[<-hs,BP];exact CI _ hcl
   have hH:HoldsK enc k w b 0 l.toArray:=by
    intro t ht;rw[size_flatK,Jn,hlen]at ht;have hi:t/k<l.length:=by rw[hlen];exact(Nat.div_lt_iff_lt_mul hk0).2 ht
    have hj:t%k<k:=B5 _ hk0;obtain⟨x,hx⟩:∃x,l[t/k]?=some x:=⟨l[t/k],BI hi⟩
    have hfl:=Sk hk l hx hj;have htt:t/k*k+t%k=t:=by rw[BS];exact EU t k
    rw[htt]at hfl;obtain⟨v0,hej⟩:∃v0,(enc x)[t%k]?=some v0:=⟨_,BI (by rw[hk];exact hj)⟩
    have hrp:=hok.rep (t/k) (toD x) (t%k) (.prim v0) (by show(l.map toD)[t/k]?=_;rw[A7,hx];rfl) (by rw[hD,A7,hej];rfl);rw[htt]at hrp;have htc:t<cs.size:=by omega
    rw[Ax,Bc htc]at hrp;have hv:cs[t]=v0:=by
     generalize cs[t]=v at hrp;cases hrp;rfl
    rw[hej]at hfl;have hfb:(flatK enc k l.toArray)[t]! = v0:=by
     rw[getElem!_def,hfl]
    refine⟨?_,?_⟩
    ·show w.cell? ⟨b,0+t,none⟩=_
     rw[BP];unfold World.cell?;simp only[hb];rw[Bc htc,hv];show some _=some (id (flatK enc k l.toArray)[t]!);rw[hfb];rfl
    ·unfold World.frozen?
     simp[hb]
   have hcalls:=hc b cap l.toArray w hH hlt (by rw[Jn,hlen];exact hl);rw[Jn,hlen]at hcalls;rw[Gm];refine hcalls.mono ?_;rintro e w' ⟨rfl,d',n0,os,hp,hso,rfl⟩;have hsz':d'.size=len:=by rw[hp.1,Jn,hlen]
   have hperm:d'.toList.Perm l:=by
    have:=hp.2.2
    rw[show d'.extract 0 len=d' from by rw[<-hsz'];simp,show l.toArray.extract 0 len=l.toArray from by rw[<-hlen];simp]at this;exact this
   have hl':d'.toList.toArray=d':=by simp
   obtain⟨m2,x2⟩:=xT (es':=d'.toList.map toD) m hr hb hok (flatK enc k d') (by rw[size_flatK,Am,Hn]) (by rw[size_flatK,hsz'];exact hcap)
    (λi d h=>by
     rw[A7]at h;obtain⟨x,-,rfl⟩:=Option.map_eq_some_iff.1 h;rw[hD,Am,hk])
    (λt v hv=>by
     have ht:t<d'.size*k:=by have:=(Array.getElem?_eq_some_iff.1 hv).1;rwa [size_flatK]at this
     have hi:t/k<d'.toList.length:=by rw[Hn];exact(Nat.div_lt_iff_lt_mul hk0).2 ht
     have hj:t%k<k:=B5 _ hk0;obtain⟨x,hx⟩:∃x,d'.toList[t/k]?=some x:=⟨_,BI hi⟩
     have hfl:=Sk hk d'.toList hx hj;rw[show t/k*k+t%k=t from by rw[BS];exact EU t k,hl',hv]at hfl;exact h1 x v (A0 hfl.symm))
    (λi d j c h h2=>by
     rw[A7]at h;obtain⟨x,hx,rfl⟩:=Option.map_eq_some_iff.1 h;rw[hD,A7]at h2;obtain⟨v,hv,rfl⟩:=Option.map_eq_some_iff.1 h2;have hj:j<k:=by have:=(List.getElem?_eq_some_iff.1 hv).1;rwa [hk]at this
     have hfl:=Sk hk d'.toList hx hj;rw[hl',hv]at hfl;show AU _ _ _ _ ((flatK enc k d').getD (i*k+j) undef);rw[Ax,hfl];exact .prim v) n0 os
   refine⟨_,_,_,_,ρ,rfl,⟨rfl,rfl,d'.toList,hperm,?_,rfl⟩,m2,x2,λa b h=>fr a b (by omega),λe he=>?_,.tup (vs:=#[]) rfl λi d hd=>by simp at hd⟩
   ·rw[List.pairwise_iff_getElem]
    intro i j hi hj hij;rw[Hn]at hi hj
    have:=hso i j (BU _) hij (by rw[<-hsz'];exact hj)
    rw[getElem!_pos d' j hj,getElem!_pos d' i hi]at this;simpa using this
   ·rcases BA.1 he with rfl|he
    ·exact DE (gn ⟨kb,gg,T,k,l.map toD⟩ Cg)
    ·exact DE (gn e (Cn _ he))
end
section
variable {C:A8} {B F:Ab} {ops:Array Oper} {s:St} {rd:Option Nat} {Q:Exit->Ab->St->Prop}
theorem ww {i:Nat}{o:Oper}{l2:List Nat}{t k e:Nat}{x:Operand}{ks vs:List D}(ht:C.P.underlying t=some (.map k e))(ho:DL ops.toList i=some o)(hg:o.guard=none)(hop:o.op=.call ⟨.builtin .len,#[x],#[t]⟩)(hx:BE s.env x=.mp ks vs)
  (h:Bd C B rd F ops l2 ⟨BZ s.env o.dst (i64 (ks.length:Nat)),s.H,s.n+1⟩ Q):Bd C B rd F ops (i::l2) s Q:=by
 refine Bd.step ho hg λρ a w hs hB=>?_
 have hrep:=DG hs.env x;rw[hx]at hrep;generalize hev:a.eval x=v at hrep;cases hrep with
 |mp hO hr hb h1 h2 hBo hk hv=>
  rename_i r clock es;refine⟨.int .i64 (ks.length:Nat),w,F,ρ,_,.inl ?_,hB,⟨hs.mem,λk g hg=>hs.fresh k g (by have:s.n+1<=g:=hg;omega),λe he=>DE (hs.gen e he),hs.env,hs.nt,hs.dfr⟩,.prim _,h⟩;unfold execOp;simp only[hop];have hl:(Builtin.len_ #[t] o.type #[.map (some r)]).run C.P w=.ok (.int .i64 (ks.length:Nat)) w:=by
   simp[Builtin.len_,Cj ht,run_getObj_map w r es clock hb,h1,goInt]
  have hl2:∀cst,(builtin .len #[t] o.type cst #[.map (some r)]).run C.P w=.ok (.value (.int .i64 (ks.length:Nat))) w:=λcst=>by
   simp only[builtin];rw[run_bind,hl];rfl
  have hl3:∀cst,(builtin .len #[t] o.type cst (#[x].map a.eval)).run C.P w=.ok (.value (.int .i64 (ks.length:Nat))) w:=λcst=>by
   rw[show #[x].map a.eval = #[a.eval x]from by simp,hev];exact hl2 cst
  exact hl3 (#[x].map fun | .const _=>true|_=>false)
end
section
variable {C:A8} {X:EV} {kb:Nat} {ops:Array Oper} {H N:Hp} {n:Nat} {env:Ar} {acc:Prop} {K:Prop->Ar->Hp->Prop} {l:List Nat}
theorem Pk {i:Nat}{o:Oper}{t kT eT:Nat}{z:Value}{x ix:Operand}{ok:Bool}{ks vs:List D}{s:ByteArray}{d d':D}(h:DL ops.toList i=some o)(hg:o.guard=none)(hop:o.op=.lookup t x ix ok)(hxt:X.xt t=some (.map kT eT z))
  (hx:BE env x=.mp ks vs) (hix:BE env ix=.prim (.string s)) (hl:HX s ks vs=some (some d)) (hd:Hs ok d true=d') (hk:EM C X kb ops H n l (BZ env o.dst d') N (True/\acc) K):EM C X kb ops H n (i::l) env N acc K:=by
 refine Eb h hg ?_;subst hd;rw[hop];unfold EC;dsimp only;unfold Kx
 have:Fx X.tt X.xt (BE env) (.lookup t x ix ok)=some (Hs ok d true,True):=by
  simp only[Fx,hxt,hx,hix,hl]
 rw[this];exact hk
end
end Go.Ide
