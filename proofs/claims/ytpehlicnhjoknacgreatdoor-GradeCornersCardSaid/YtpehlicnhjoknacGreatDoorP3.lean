/- The layer of own lemmas and contracts, part 3. -/
import Derived.Test.YtpehlicnhjoknacGreatDoorP2
import Derived.RangeFuncIn
import Derived.RangeFuncRecord
import Derived.ChangeArms
import Derived.ChangeSlices
import Derived.OpenShut
set_option linter.unusedVariables false
set_option linter.unusedSimpArgs false
namespace Go.Ide
open Go.RowKit
def brB (b:Bool)(y n:Prop):Prop:=match b with
 | true=>y
 | false=>n
theorem brI {b:Bool}{y n:Prop}(h1:b=true->y)(h2:b=false->n):brB b y n:=by
 cases b
 ·exact h2 rfl
 ·exact h1 rfl
theorem Fz.loose {d d':D}(h:Fz [] [] d d'):∀ {ρ:Lk} {O:Nat->Prop} {w:World} {v:Value},Rep ρ O w d v->Rep ρ O w d' v:=by
 induction h with
 | refl=>exact fun h=>h
 | any=>exact fun _=>.any _
 | nil sz=>intro ρ O w v h;cases h;exact .nil _
 | nn nn sz es =>
  intro ρ O w v h;cases h with
  | nil=>exact .nil _
  | emp a=>exact .emp a
  | sl f hl hc hO hb hz hcell ho h=>exact .sl f hl hc hO hb hz hcell ho h
 | agg hl h ih =>
  intro ρ O w v hr;cases hr with
  | agg hn ho hh =>
   refine .agg (by omega) ho fun i d' hd'=>?_
   have hi:=(List.getElem?_eq_some_iff.1 hd').1;exact ih i _ d' (d9t (by omega)) hd' (hh i _ (d9t (by omega)))
 | tup hl h ih =>
  intro ρ O w v hr;cases hr with
  | tup hn hh =>
   refine .tup (by omega) fun i d' hd'=>?_
   have hi:=(List.getElem?_eq_some_iff.1 hd').1;exact ih i _ d' (d9t (by omega)) hd' (hh i _ (d9t (by omega)))
 | osl he _ _ _ _ _ _ _=>cases he
section
variable {C:Ctx}
inductive a0q (C:Ctx)(f:Nat)(ds:List D)(k:D->Prop):Prop
 | mk (ds':List D) (d:D) (hv:FzL [] [] ds ds') (hc:a0b C f ds' d) (hp:ArePure ds') (hk:k d)
inductive a0j (C:Ctx)(f:Nat)(ds:List D)(H:Hp)(n:Nat)(k:D->Hp->Nat->Prop):Prop
 | pure (ds':List D) (d:D) (hv:FzL [] [] ds ds') (hc:a0b C f ds' d) (hp:ArePure ds') (hk:k d H (n+1))
 | prop (ds':List D) (Φ:D->Prop) (hv:FzL [] [] ds ds') (hc:a0c C f ds' Φ) (hp:ArePure ds') (hk:∀ d,Φ d->k d H (n+1))
 | own (Φ:D->Hp->Nat->Prop) (hc:a0z C f ds H n Φ) (hk:∀ d H' n',Φ d H' n'->k d H' n')
 | lend (Hf:Hp) (ds':List D) (d:D) (hH:FzH H Hf H Hf) (hv:FzL H Hf ds ds') (hc:a0b C f ds' d) (hp:ArePure ds') (hflat:b0a d) (hk:k d H (n+1))
theorem b2O {ds ds':List D}(h:FzL [] [] ds ds'){ρ:Lk}{O:Nat->Prop}{w:World}{vs:Array Value}(hr:∀ (i:Nat) (d:D),ds[i]? = some d->Rep ρ O w d (vs.getD i undef)) :
  ∀ (i:Nat) (d:D),ds'[i]? = some d->Rep ρ O w d (vs.getD i undef):=fun i d hd=>by
 obtain ⟨l1,l2⟩:=h.spec;have hi:=(List.getElem?_eq_some_iff.1 hd).1;have h0:ds[i]? = some ds[i]:=d9t (by omega);exact (l2 i _ d h0 hd).loose (hr i _ h0)
theorem d9e {F:Fra}{ops:Array Oper}{H:Hp}{g:Nat}{env:Env}{o:Oper}{f:Nat}{first captured ds ds':List D}{fop:Operand}{args:Array Operand}{tys:Array Nat}{d:D}(hw:a0S ops env o=some true)(ho:o.op=.call ⟨.value fop,args,tys⟩)
  (hf:a1m env fop=.clo (.func f) first captured) (hds:first++args.toList.map (a1m env)++captured=ds) (hv:FzL [] [] ds ds') (hc:a0b C f ds' d) (hp:ArePure ds'):a0s C F ops H g env o d none:=by
 refine ⟨by simp,fun He ρ a w m hsub fr hne hr=>.inr ⟨a1r hr hw,.inr ?_⟩⟩;obtain ⟨g',h1,h2⟩:=a2y hr;have hfop:fop∈o.op.operands:=by rw [ho];simp [Op.operands,Call.operands]
 have harg:∀ x∈args.toList,a1m env x=g' x:=fun x hx=>h1 x (by rw [ho];simp [Op.operands,Call.operands];right;simpa using hx)
 rw [h1 fop hfop] at hf;rw [a2e harg] at hds;obtain ⟨vs,q1,q2,q3⟩:=a4k (g:=g') ho hf hc.1 h2;rw [hds] at q2 q3;have q4:=b2O hv q3;refine ⟨f,vs,q1,(hc.2 (Own F.X ρ He) w vs m.g (d9V m.gn m.size) (fun b hb=>m.own_lt hb) (by rw [q2];exact hv.spec.1) fun i d hd=>hp.out d (d9r hd) _ _ _ _ _ (q4 i d hd)).mono ?_⟩;rintro e w' ⟨v,d',rfl,hb,rfl,hrep⟩;have x:Ext ρ (Own F.X ρ He) w ρ (Own F.X ρ He) w':=⟨hb.size,fun _ _ _ h=>h,fun b hb' hO=>⟨hO,hb.block b hb'⟩,fun b cs T fz hh=>⟨cs,_,by
  rw [hb.block b (Array.getElem?_eq_some_iff.1 hh).1];exact hh,rfl⟩⟩
 exact ⟨v,rfl,ρ,m.same x hb.os hb.tape hb.output hb.block,x,fun _ _ _=>rfl,hrep.nol⟩
def wpP (X:EV)(g:Operand->D)(op:Op)(acc:Prop)(k:Prop->D->Option Ent->Prop):Prop:=match evP X.tt g op with
 | some (d,p)=>k (p/\acc) d none
 | none=>False
def wpQ (X:EV)(g:Operand->D)(op:Op)(acc:Prop)(k:Prop->D->Option Ent->Prop):Prop:=match evQ X.tt X.xt g op with
 | some (d,p)=>k (p/\acc) d none
 | none=>False
def d3R (X:EV)(g:Operand->D)(op:Op)(acc:Prop)(k:Prop->D->Option Ent->Prop):Prop:=match evP X.tt g op with
 | some (d,p)=>k (p/\acc) d none
 | none=>wpQ X g op acc k
def d3Q (X:EV)(g:Operand->D)(t:Nat)(x ix:Operand)(acc:Prop)(k:Prop->D->Option Ent->Prop):Prop:=match X.tt t with
 | some i=>match i.ti with
  | .slice _ esz _ _=>match g ix with
   | .prim (.int _ j)=>match g x with
    | .sl _ sz es=>acc/\(sz=esz/\0<=j)/\∃ d,es[j.toNat]? = some d/\k True (.pptr d) none
    | _=>False
   | _=>False
  | _=>False
 | none=>False
def wpE (C:Ctx)(X:EV)(kb:Nat)(g:Operand->D)(H:Hp)(n:Nat)(op:Op)(acc:Prop)(k:Prop->D->Option Ent->Prop):Prop:=match op with
 | .call ⟨.value fop,args,_⟩=>match g fop with
  | .clo (.func f) first captured=>match X.nat f (first++args.toList.map g++captured) with
   | some d=>k acc d none
   | none=>acc/\a0q C f (first++args.toList.map g++captured) fun d=>k True d none
  | _=>False
 | .call ⟨.builtin .append,_,_⟩=>match evA X.tt [] n kb g op with
  | some (d,[e],p)=>k (p/\acc) d (some e)
  | _=>False
 | .load _ _ | .alloc _ | .box _ _ | .buildSlice _ _ _=>match evL X.tt H n kb g op with
  | some (d,ne,p)=>k (p/\acc) d ne
  | none=>False
 | .indexAddr t x ix=>match evP X.tt g op with
  | some (d,p)=>k (p/\acc) d none
  | none=>d3Q X g t x ix acc k
 | .makeInterface _ _ | .lookup _ _ _ _=>wpQ X g op acc k
 | .binOp _ _ _ _ _=>d3R X g op acc k
 | _=>wpP X g op acc k
structure WOk (C:Ctx)(X:EV):Prop where
 tt:Tab C.P X.tt
 xt:c3M C.P X.xt
 mixed:C.P.follows .mixedOrders=true
 mt:∀ t name f,X.mt t name=some f->∀ v w,(method (C.P.types.size+Made.depth) t v name).run C.P w=.ok (f,v) w
 nat:∀ f ds d,X.nat f ds=some d->a4I C f ds d
theorem a9R.w {X:EV}(h:a9R C X):WOk C X:=⟨h.tt,h.xt,h.mixed,h.mt,h.nat⟩
variable {F:Fra} {X:EV} {ops:Array Oper}
theorem c1H (hX:WOk C X){kb:Nat}{H:Hp}{n:Nat}{env:Env}{o:Oper}{acc:Prop}{k:Prop->D->Option Ent->Prop}(hw:a0S ops env o=some true)(hk:∀ acc d ne,k acc d ne->acc)
  (h:wpE C X kb (a1m env) H n o.op acc k):acc/\∃ acc' d ne,a0s C F ops H n env o d ne/\k acc' d ne:=by
 have pe:wpP X (a1m env) o.op acc k->acc/\∃ acc' d ne,a0s C F ops H n env o d ne/\k acc' d ne:=fun h=>by
  unfold wpP at h;split at h
  ·rename_i d p he
   have:=hk _ _ _ h
   exact ⟨this.2,_,_,_,a0s.p hX.tt hw he this.1,h⟩
  ·exact h.elim
 have qe:wpQ X (a1m env) o.op acc k->acc/\∃ acc' d ne,a0s C F ops H n env o d ne/\k acc' d ne:=fun h=>by
  unfold wpQ at h;split at h
  ·rename_i d p he
   have:=hk _ _ _ h
   exact ⟨this.2,_,_,_,a0s.q hX.tt hX.xt hw he this.1,h⟩
  ·exact h.elim
 have le:(match evL X.tt H n kb (a1m env) o.op with
   | some (d,ne,p)=>k (p/\acc) d ne
   | none=>False)->acc/\∃ acc' d ne,a0s C F ops H n env o d ne/\k acc' d ne:=fun h=>by
  split at h
  ·rename_i d ne p he
   have:=hk _ _ _ h
   exact ⟨this.2,_,_,_,a0s.l' kb hX.tt hw he this.1,h⟩
  ·exact h.elim
 unfold wpE at h;split at h
 ·rename_i fop args tys ho
  split at h
  ·rename_i f first captured hf
   split at h
   ·rename_i d hn
    exact ⟨hk _ _ _ h,_,_,_,a0s.nat hw ho hf rfl (hX.nat _ _ _ hn),h⟩
   ·obtain ⟨h1,⟨ds',d,hv,hc,hp,h2⟩⟩:=h
    exact ⟨h1,_,_,_,d9e hw ho hf rfl hv hc hp,h2⟩
  ·exact h.elim
 ·split at h
  ·rename_i d e p he
   have:=hk _ _ _ h
   exact ⟨this.2,_,_,_,d9d kb hX.tt hw he this.1,h⟩
  ·exact h.elim
 ·exact le h
 ·exact le h
 ·exact le h
 ·exact le h
 ·rename_i t x ix ho
  split at h
  ·rename_i d p he
   have:=hk _ _ _ h
   exact ⟨this.2,_,_,_,a0s.p hX.tt hw he this.1,h⟩
  ·unfold d3Q at h
   split at h<;>first|exact h.elim|skip
   rename_i i h1;split at h<;>first|exact h.elim|skip
   rename_i e esz eby ez h2;split at h<;>first|exact h.elim|skip
   rename_i kk j h3;split at h<;>first|exact h.elim|skip
   rename_i nn sz es h4;obtain ⟨ha,⟨rfl,hj⟩,d,hd,hk'⟩:=h;exact ⟨ha,_,_,_,a0s.idx hX.tt hw ho h1 h2 h3 h4 hj hd,hk'⟩
 ·exact qe h
 ·exact qe h
 ·unfold d3R at h
  split at h
  ·rename_i d p he
   have:=hk _ _ _ h
   exact ⟨this.2,_,_,_,a0s.p hX.tt hw he this.1,h⟩
  ·exact qe h
 ·exact pe h
def a9Q:List Oper->Nat->Option Oper
 | [],_=>none
 | o::_,0=>some o
 | _::l,i+1=>a9Q l i
theorem c0f:∀ (l:List Oper) (i:Nat),a9Q l i=l[i]?
 | [],_=>by simp [a9Q]
 | o::l,0=>by simp [a9Q]
 | o::l,i+1=>by simp [a9Q,c0f l i]
def a9P:List Oper->Nat
 | []=>0
 | _::l=>a9P l+1
theorem a7b:∀ l:List Oper,a9P l=l.length
 | []=>rfl
 | _::l=>by simp [a9P,a7b l]
theorem a5q {i:Nat}{o:Oper}(h:a9Q ops.toList i=some o):ops[i]? = some o:=by
 rw [c0f] at h;simpa using h
def a3Y (C:Ctx)(X:EV)(kb:Nat)(ops:Array Oper)(H:Hp)(n:Nat):List Nat->Env->Hp->Prop->(Prop->Env->Hp->Prop)->Prop
 | [],env,N,acc,K=>K acc env N
 | i::l,env,N,acc,K=>match a9Q ops.toList i with
  | some o=>match o.guard with
   | none=>wpE C X (kb+i) (a1m env) H (n+i) o.op acc fun acc d ne=>a3Y C X kb ops H n l (a2f env o.dst d) (a4G ne N) acc K
   | some _=>match a0S ops env o with
    | some b=>acc/\brB b (wpE C X (kb+i) (a1m env) H (n+i) o.op True fun acc d ne=>a3Y C X kb ops H n l (a2f env o.dst d) (a4G ne N) acc K)
      (a3Y C X kb ops H n l (a2f env o.dst (.prim (.tuple #[]))) N True K)
    | none=>False
  | none=>False
theorem a5f {kb:Nat}{H:Hp}{n:Nat}(hX:WOk C X){K:Prop->Env->Hp->Prop}(hK:∀ acc env N,K acc env N->acc):∀ {l:List Nat} {env:Env} {N:Hp} {acc:Prop},a3Y C X kb ops H n l env N acc K ->
  acc/\∃ acc' env' N',DTr C F ops H n l env N env' N'/\K acc' env' N'
 | [],env,N,acc,h=>⟨hK _ _ _ h,_,_,_,.nil _ _,h⟩
 | i::l,env,N,acc,h=>by
  simp only [a3Y] at h;split at h<;>first|exact h.elim|skip
  rename_i o ho;have ho:=a5q ho;have step:∀ acc,a0S ops env o=some true->(wpE C X (kb+i) (a1m env) H (n+i) o.op acc fun acc d ne=>a3Y C X kb ops H n l (a2f env o.dst d) (a4G ne N) acc K)->acc/\∃ acc' env' N',DTr C F ops H n (i::l) env N env' N'/\K acc' env' N':=fun acc hw h=>by
   obtain ⟨h1,acc1,d,ne,h2,h3⟩:=c1H (F:=F) hX hw (fun acc d ne h=>(a5f hX hK h).1) h;obtain ⟨_,acc2,env2,N2,h4,h5⟩:=a5f hX hK h3;exact ⟨h1,_,_,_,.cons ho h2 h4,h5⟩
  split at h
  ·rename_i hg
   exact step _ (by unfold a0S;rw [hg]) h
  ·split at h<;>first|exact h.elim|skip
   rename_i b hb;obtain ⟨h0,h⟩:=h;cases b with
   | true =>
    obtain ⟨_,h1⟩:=step _ hb h;exact ⟨h0,h1⟩
   | false =>
    obtain ⟨_,acc2,env2,N2,h4,h5⟩:=a5f hX hK h;exact ⟨h0,_,_,_,.cons ho (a0s.skip hb) h4,h5⟩
theorem a0j.ok {F:Fra}{ops:Array Oper}{s:St}{o:Oper}{os:List Oper}{K:St->Prop}{f:Nat}{ds:List D}{k:D->Hp->Nat->Prop}(hw:a0S ops s.env o=some true)
  (hrun:a3E C.P f->∀ (ρ:Lk) (a:Act) (w:World),Sat C F ρ s a w->∃ vs,(execOp a.eval o).run C.P w=.ok (.enter f vs) w/\vs.size=ds.length/\∀ (i:Nat) (d:D),ds[i]? = some d->Rep ρ (Own F.X ρ s.H) w d (vs.getD i undef))
  (h:a0j C f ds s.H s.n k) (hk:∀ d H n,k d H n->OkL C F ops os ⟨a2f s.env o.dst d,H,n⟩ K):OkL C F ops (o::os) s K:=by
 have prop:∀ (ds':List D) (Φ:D->Prop),FzL [] [] ds ds'->a0c C f ds' Φ->ArePure ds'->(∀ d,Φ d->k d s.H (s.n+1))->OkL C F ops (o::os) s K:=fun ds' Φ hv hc hp hk'=>by
  refine d8C (f:=f) hw (fun ρ a w hs=>?_) fun d hd=>hk _ _ _ (hk' d hd)
  obtain ⟨vs,h1,h2,h3⟩:=hrun hc.1 ρ a w hs;have q4:=b2O hv h3;refine ⟨vs,h1,(hc.2 (Own F.X ρ s.H) w vs hs.mem.g (d9V hs.mem.gn hs.mem.size) (fun b hb=>hs.mem.own_lt hb) (by rw [h2];exact hv.spec.1) fun i d hd=>hp.out d (d9r hd) _ _ _ _ _ (q4 i d hd)).mono ?_⟩;rintro e w' ⟨v,d,a1,a2,a3,a4⟩;exact ⟨v,d,a1,a2,a3,a4.nol⟩
 cases h with
 | pure ds' d hv hc hp hk'=>exact prop ds' _ hv hc hp fun d' hd=>by subst hd;exact hk'
 | prop ds' Φ hv hc hp hk'=>exact prop ds' Φ hv hc hp hk'
 | own Φ hc hk' =>
  intro hd l hl ρ a w hs;cases l with
  | nil=>simp at hl
  | cons i l =>
   simp only [e0I,e0P] at hl;simp only [e1f,d9B] at hd;obtain ⟨vs,h1,h2,h3⟩:=hrun hc.1 ρ a w hs;simp only [wpOps,hl.1];rw [d9l (a2P hs.env hw)];refine .inl ?_;unfold Oper.wp;rw [h1];refine (hc.2 F ρ w vs hs.mem hs.fresh hs.gen h2 h3).mono ?_;rintro e w' ⟨v,d,H',n',ρ',rfl,hΦ,m,x,fr,g,r⟩;exact hk d H' n' (hk' d H' n' hΦ) hd.2 l hl.2 ρ' (a.put o.dst v) w' (hs.put m x fr g r hd.1)
 | lend Hf ds' d hH hv hc hp hflat hk' =>
  refine d8C (f:=f) (Φ:=fun d'=>d'=d) hw (fun ρ a w hs=>?_) fun d' hd=>by subst hd;exact hk _ _ _ hk'
  obtain ⟨vs,h1,h2,h3⟩:=hrun hc.1 ρ a w hs;obtain ⟨m,hO,hN⟩:=hH.mem hs.mem;obtain ⟨l1,l2⟩:=hv.spec;refine ⟨vs,h1,(hc.2 (Own F.X ρ Hf) w vs hs.mem.g (d9V hs.mem.gn hs.mem.size) (fun b hb=>m.own_lt hb) (by omega) fun i d hd=>?_).mono ?_⟩
  ·have hi:i<ds'.length:=(List.getElem?_eq_some_iff.1 hd).1
   have hd0:ds[i]? = some ds[i]:=d9t (by omega);exact hp.out d (d9r hd) _ _ _ _ _ ((l2 i _ d hd0 hd).rep hs.mem hO hN (h3 i _ hd0))
  ·rintro e w' ⟨v,d',a1,a2,a3,a4⟩
   subst a3;exact ⟨v,d',a1,a2,rfl,hflat _ _ _ _ _ _ _ a4⟩
def wpO (C:Ctx)(X:EV)(kb:Nat)(g:Operand->D)(H:Hp)(n:Nat)(op:Op)(acc:Prop)(k:Prop->D->Hp->Nat->Prop):Prop:=match op with
 | .call ⟨.value fop,args,_⟩=>match g fop with
  | .clo (.func f) first captured=>match X.nat f (first++args.toList.map g++captured) with
   | some d=>k acc d H (n+1)
   | none=>acc/\a0j C f (first++args.toList.map g++captured) H n fun d H' n'=>k True d H' n'
  | _=>False
 | .call ⟨.invoke r name,args,_⟩=>match g r with
  | .ifc t d0=>match X.mt t name with
   | some f=>acc/\a0j C f (d0::args.toList.map g) H n fun d H' n'=>k True d H' n'
   | none=>False
  | _=>False
 | .call ⟨.builtin .append,_,_⟩=>match evA X.tt H n kb g op with
  | some (d,H',p)=>k (p/\acc) d H' (n+1)
  | none=>match c8A X.tt H n kb g op with
   | some (d,H',p)=>k (p/\acc) d H' (n+1)
   | none=>False
 | .makeSlice _ _ _=>match evM X.tt n kb g op with
  | some (d,e,p)=>k (p/\acc) d (e::H) (n+1)
  | none=>False
 | .store _ _ _=>match evS X.tt H g op with
  | some (j,e,p)=>k (p/\acc) (.prim (.tuple #[])) (Hp.set H j e) (n+1)
  | none=>False
 | .load _ _ | .alloc _ | .box _ _ | .buildSlice _ _ _=>match evL X.tt H n kb g op with
  | some (d,ne,p)=>k (p/\acc) d (a4G ne H) (n+1)
  | none=>False
 | .indexAddr t x ix=>match evP X.tt g op with
  | some (d,p)=>k (p/\acc) d H (n+1)
  | none=>d3Q X g t x ix acc fun acc d _=>k acc d H (n+1)
 | .makeInterface _ _ | .lookup _ _ _ _=>wpQ X g op acc fun acc d _=>k acc d H (n+1)
 | .binOp _ _ _ _ _=>d3R X g op acc fun acc d _=>k acc d H (n+1)
 | _=>wpP X g op acc fun acc d _=>k acc d H (n+1)
theorem c6f (hX:WOk C X){kb:Nat}{s:St}{o:Oper}{os:List Oper}{acc:Prop}{k:Prop->D->Hp->Nat->Prop}{K:St->Prop}(hw:a0S ops s.env o=some true)(hk:∀ acc d H n,k acc d H n->acc/\OkL C F ops os ⟨a2f s.env o.dst d,H,n⟩ K)
  (h:wpO C X kb (a1m s.env) s.H s.n o.op acc k):acc/\OkL C F ops (o::os) s K:=by
 have pe:wpP X (a1m s.env) o.op acc (fun acc d _=>k acc d s.H (s.n+1))->acc/\OkL C F ops (o::os) s K:=fun h=>by
  unfold wpP at h;split at h
  ·rename_i d p he
   obtain ⟨⟨hp,ha⟩,h2⟩:=hk _ _ _ _ h;exact ⟨ha,OkL.p hX.tt hw he hp h2⟩
  ·exact h.elim
 have qe:wpQ X (a1m s.env) o.op acc (fun acc d _=>k acc d s.H (s.n+1))->acc/\OkL C F ops (o::os) s K:=fun h=>by
  unfold wpQ at h;split at h
  ·rename_i d p he
   obtain ⟨⟨hp,ha⟩,h2⟩:=hk _ _ _ _ h;exact ⟨ha,OkL.q hX.tt hX.xt hw he hp h2⟩
  ·exact h.elim
 have le:(match evL X.tt s.H s.n kb (a1m s.env) o.op with
   | some (d,ne,p)=>k (p/\acc) d (a4G ne s.H) (s.n+1)
   | none=>False)->acc/\OkL C F ops (o::os) s K:=fun h=>by
  split at h
  ·rename_i d ne p he
   obtain ⟨⟨hp,ha⟩,h2⟩:=hk _ _ _ _ h;exact ⟨ha,OkL.l' kb hX.tt hw he hp h2⟩
  ·exact h.elim
 unfold wpO at h;split at h
 ·rename_i fop args tys ho
  split at h
  ·rename_i f first captured hf
   split at h
   ·rename_i d hn
    obtain ⟨ha,h2⟩:=hk _ _ _ _ h;exact ⟨ha,OkL.nat hw ho hf rfl (hX.nat _ _ _ hn) h2⟩
   ·obtain ⟨h1,h⟩:=h
    refine ⟨h1,?_⟩;exact a0j.ok hw (fun hc ρ a w hs=>a7s ho hf hc hs) h fun d H n hk'=>(hk _ _ _ _ hk').2
  ·exact h.elim
 ·rename_i r name args tys ho
  split at h<;>first|exact h.elim|skip
  rename_i t d0 hr;split at h<;>first|exact h.elim|skip
  rename_i f hf;obtain ⟨h1,h⟩:=h;refine ⟨h1,?_⟩;exact a0j.ok hw (fun hc ρ a w hs=>a8U ho hr (hX.mt _ _ _ hf) hc hs) h fun d H n hk'=>(hk _ _ _ _ hk').2
 ·split at h
  ·rename_i d H' p he
   obtain ⟨⟨hp,ha⟩,h2⟩:=hk _ _ _ _ h;exact ⟨ha,d8z kb hX.tt hw he hp h2⟩
  ·split at h<;>first|exact h.elim|skip
   rename_i d H' p he;obtain ⟨⟨hp,ha⟩,h2⟩:=hk _ _ _ _ h;exact ⟨ha,d8A kb hX.tt hw he hp h2⟩
 ·split at h<;>first|exact h.elim|skip
  rename_i d e p he;obtain ⟨⟨hp,ha⟩,h2⟩:=hk _ _ _ _ h;exact ⟨ha,d8E kb hX.tt hw he hp h2⟩
 ·split at h<;>first|exact h.elim|skip
  rename_i j e p he;obtain ⟨⟨hp,ha⟩,h2⟩:=hk _ _ _ _ h;exact ⟨ha,OkL.store hX.tt hw he hp h2⟩
 ·exact le h
 ·exact le h
 ·exact le h
 ·exact le h
 ·rename_i t x ix ho
  split at h
  ·rename_i d p he
   obtain ⟨⟨hp,ha⟩,h2⟩:=hk _ _ _ _ h;exact ⟨ha,OkL.p hX.tt hw he hp h2⟩
  ·unfold d3Q at h
   split at h<;>first|exact h.elim|skip
   rename_i i h1;split at h<;>first|exact h.elim|skip
   rename_i e esz eby ez h2;split at h<;>first|exact h.elim|skip
   rename_i kk j h3;split at h<;>first|exact h.elim|skip
   rename_i nn sz es h4;obtain ⟨ha,⟨rfl,hj⟩,d,hd,hk'⟩:=h;exact ⟨ha,OkL.idx hX.tt hw ho h1 h2 h3 h4 hj hd (hk _ _ _ _ hk').2⟩
 ·exact qe h
 ·exact qe h
 ·unfold d3R at h
  split at h
  ·rename_i d p he
   obtain ⟨⟨hp,ha⟩,h2⟩:=hk _ _ _ _ h;exact ⟨ha,OkL.p hX.tt hw he hp h2⟩
  ·exact qe h
 ·exact pe h
def a2g (C:Ctx)(X:EV)(kb:Nat)(ops:Array Oper):List Nat->St->Prop->(Prop->St->Prop)->Prop
 | [],s,acc,K=>K acc s
 | i::l,s,acc,K=>match a9Q ops.toList i with
  | some o=>match o.guard with
   | none=>wpO C X (kb+i) (a1m s.env) s.H s.n o.op acc fun acc d H n=>a2g C X kb ops l ⟨a2f s.env o.dst d,H,n⟩ acc K
   | some _=>match a0S ops s.env o with
    | some b=>acc/\brB b (wpO C X (kb+i) (a1m s.env) s.H s.n o.op True fun acc d H n=>a2g C X kb ops l ⟨a2f s.env o.dst d,H,n⟩ acc K)
      (a2g C X kb ops l ⟨a2f s.env o.dst (.prim (.tuple #[])),s.H,s.n+1⟩ True K)
    | none=>False
  | none=>False
theorem c6Z {i:Nat}{o:Oper}(h:a9Q ops.toList i=some o):ops.getD i default=o:=by
 have:=a5q h
 simp [d9o,this]
theorem a1i {kb:Nat}(hX:WOk C X){K:Prop->St->Prop}{K':St->Prop}(hK:∀ acc s,K acc s->acc/\K' s):∀ {l:List Nat} {s:St} {acc:Prop},a2g C X kb ops l s acc K ->
  acc/\OkL C F ops (l.map fun j=>ops.getD j default) s K'
 | [],s,acc,h=>⟨(hK _ _ h).1,OkL.nil (hK _ _ h).2⟩
 | i::l,s,acc,h=>by
  simp only [a2g] at h;split at h<;>first|exact h.elim|skip
  rename_i o ho;rw [e0I,c6Z ho];split at h
  ·rename_i hg
   exact c6f hX (by unfold a0S;rw [hg]) (fun acc d H n h=>a1i hX hK h) h
  ·split at h<;>first|exact h.elim|skip
   rename_i b hb;obtain ⟨h0,h⟩:=h;cases b with
   | true=>exact ⟨h0,(c6f hX hb (fun acc d H n h=>a1i hX hK h) h).2⟩
   | false=>exact ⟨h0,OkL.skip hb (a1i hX hK h).2⟩
def c6h (X:EV)(kb:Nat)(e:Ent)(n:Nat)(g:Operand->D)(op:Op)(acc:Prop)(k:Prop->D->Ent->Prop):Prop:=match op with
 | .store _ _ _=>match evS X.tt [e] g op with
  | some (_,e',p)=>k (p/\acc) (.prim (.tuple #[])) e'
  | none=>False
 | _=>match evA X.tt [e] n kb g op with
  | some (d,[e'],p)=>k (p/\acc) d e'
  | _=>False
def a1Y (C:Ctx)(X:EV)(kb:Nat)(ops:Array Oper)(iw:Nat)(ia:Option Nat)(R:Hp)(clo:List Nat)(n:Nat):List Nat->Env->Hp->Option Ent->Option Ent->Prop->(Prop->Env->Hp->Ent->Ent->Prop)->Prop
 | [],env,N,some e,some e',acc,K=>K acc env N e e'
 | [],_,_,_,_,_,_=>False
 | i::l,env,N,accE,acc',acc,K=>match a9Q ops.toList i with
  | some o=>match Nat.beq i iw with
   | true=>match acc' with
    | some _=>False
    | none=>match accE with
     | some e=>match o.guard with
      | none=>c6h X (kb+i) e (n+i) (a1m env) o.op acc fun acc d e'=>a1Y C X kb ops iw ia R clo n l (a2f env o.dst d) N accE (some e') acc K
      | some _=>False
     | none=>False
   | false=>match b9H ia i with
    | true=>match accE with
     | some _=>False
     | none=>match o.guard with
      | none=>wpE C X (kb+i) (a1m env) R (n+i) o.op acc fun acc d ne=>match ne with
       | some e=>a1Y C X kb ops iw ia R clo n l (a2f env o.dst d) N (some e) acc' acc K
       | none=>False
      | some _=>False
    | false=>match o.guard with
     | none=>wpE C X (kb+i) (a1m env) (a7N ia accE R (a3n i clo)) (n+i) o.op acc fun acc d ne=>a1Y C X kb ops iw ia R clo n l (a2f env o.dst d) (a4G ne N) accE acc' acc K
     | some _=>match a0S ops env o with
      | some b=>acc/\brB b (wpE C X (kb+i) (a1m env) (a7N ia accE R (a3n i clo)) (n+i) o.op True fun acc d ne=>a1Y C X kb ops iw ia R clo n l (a2f env o.dst d) (a4G ne N) accE acc' acc K)
        (a1Y C X kb ops iw ia R clo n l (a2f env o.dst (.prim (.tuple #[]))) N accE acc' True K)
      | none=>False
  | none=>False
theorem c8u (hX:WOk C X){kb iw:Nat}{ia:Option Nat}{R:Hp}{e:Ent}{n:Nat}{env:Env}{o:Oper}{acc:Prop}{k:Prop->D->Ent->Prop}(hw:a0S ops env o=some true)(hk:∀ acc d e',k acc d e'->acc)(h:c6h X kb e n (a1m env) o.op acc k) :
  acc/\∃ acc' d e',a3p C F ops ⟨iw,ia,e,e',R⟩ n env o d/\k acc' d e':=by
 unfold c6h at h;split at h
 ·split at h<;>first|exact h.elim|skip
  rename_i e' p he
  have:=hk _ _ _ h
  exact ⟨this.2,_,_,_,a3p.store (W:=⟨iw,ia,e,e',R⟩) hX.tt hw he this.1,h⟩
 ·split at h<;>first|exact h.elim|skip
  rename_i d e' p he
  have:=hk _ _ _ h
  exact ⟨this.2,_,_,_,a3p.app (W:=⟨iw,ia,e,e',R⟩) kb hX.tt hw he this.1,h⟩
theorem a2B (hX:WOk C X){kb iw:Nat}{ia:Option Nat}{R:Hp}{clo:List Nat}{n:Nat}(hwa:ia≠some iw)(hclo:∀ j∈clo,a1Z ops iw j){K:Prop->Env->Hp->Ent->Ent->Prop}(hK:∀ acc env N e e',K acc env N e e'->acc) :
  ∀ {l:List Nat} {env:Env} {N:Hp} {accE acc':Option Ent} {acc:Prop},a1Y C X kb ops iw ia R clo n l env N accE acc' acc K ->
  acc/\∃ q env' N' e e',(∀ a,accE=some a->e=a)/\(∀ a,acc'=some a->e'=a)/\b7S C F ops ⟨iw,ia,e,e',R⟩ n l env N env' N'/\K q env' N' e e'
 | [],env,N,accE,acc',acc,h=>by
  cases accE with
  | none=>simp only [a1Y] at h
  | some e=>cases acc' with
   | none=>simp only [a1Y] at h
   | some e' =>
    simp only [a1Y] at h;exact ⟨hK _ _ _ _ _ h,_,_,_,e,e',fun a ha=>by cases ha;rfl,fun a ha=>by cases ha;rfl,.nil _ _,h⟩
 | i::l,env,N,accE,acc',acc,h=>by
  simp only [a1Y] at h;split at h<;>first|exact h.elim|skip
  rename_i o ho;have ho:=a5q ho;split at h
  ·rename_i hb
   have hb:=d9v hb;split at h<;>first|exact h.elim|skip
   split at h<;>first|exact h.elim|skip
   rename_i e0;split at h<;>first|exact h.elim|skip
   rename_i hg;have hw:a0S ops env o=some true:=by unfold a0S;rw [hg]
   obtain ⟨h1,acc1,d,e1,h2,h3⟩:=c8u (F:=F) (iw:=iw) (ia:=ia) (R:=R) hX hw (fun acc d e' h=>(a2B hX hwa hclo hK h).1) h;obtain ⟨_,q,env',N',e,e',h4,h5,h6,h7⟩:=a2B hX hwa hclo hK h3
   have:=h4 _ rfl
   subst this
   have:=h5 _ rfl
   subst this;exact ⟨h1,q,env',N',_,_,h4,by simp,.cons (ne:=none) ho (.inr (.inl ⟨hb,by rw [hb];exact hwa,rfl,h2⟩)) h6,h7⟩
  ·rename_i hb
   have hne:i≠iw:=fun hi=>by rw [hi,e2p] at hb;cases hb
   split at h
   ·rename_i hi
    have hi:=a8c.1 hi;split at h<;>first|exact h.elim|skip
    split at h<;>first|exact h.elim|skip
    rename_i hg;have hw:a0S ops env o=some true:=by unfold a0S;rw [hg]
    obtain ⟨h1,acc1,d,ne,h2,h3⟩:=c1H (F:=F) hX hw (fun acc d ne h=>by
     split at h
     ·exact (a2B hX hwa hclo hK h).1
     ·exact h.elim) h
    split at h3<;>first|exact h3.elim|skip
    rename_i e0;obtain ⟨_,q,env',N',e,e',h4,h5,h6,h7⟩:=a2B hX hwa hclo hK h3
    have:=h4 _ rfl
    subst this;exact ⟨h1,q,env',N',_,_,by simp,h5,.cons (ne:=none) ho (.inr (.inr ⟨hne,hi,rfl,h2⟩)) h6,h7⟩
   ·rename_i hi
    have hi:ia≠some i:=fun h=>by rw [a8c.2 h] at hi;cases hi
    have st:∀ {e:Ent} {d:D} {ne:Option Ent} (e':Ent),(∀ a,accE=some a->e=a)->a0s C F ops (a7N ia accE R (a3n i clo)) (n+i) env o d ne->c8y C F ops ⟨iw,ia,e,e',R⟩ (n+i) env ⟨i,o,d,ne⟩:=fun {e d ne} e' hacc hst=>by
     refine .inl ⟨hne,hi,?_⟩;unfold a7N at hst;cases ia with
     | some ia=>exact .inr hst
     | none =>
      cases accE with
      | none=>exact .inr hst
      | some a =>
       have:=hacc a rfl
       subst this;dsimp only at hst;cases hm:a3n i clo with
       | true=>rw [hm] at hst;exact .inl ⟨rfl,hclo i (a0T.1 hm),hst⟩
       | false=>rw [hm] at hst;exact .inr hst
    have step:∀ acc,a0S ops env o=some true->(wpE C X (kb+i) (a1m env) (a7N ia accE R (a3n i clo)) (n+i) o.op acc fun acc d ne=>a1Y C X kb ops iw ia R clo n l (a2f env o.dst d) (a4G ne N) accE acc' acc K) ->
      acc/\∃ q env' N' e e',(∀ a,accE=some a->e=a)/\(∀ a,acc'=some a->e'=a)/\b7S C F ops ⟨iw,ia,e,e',R⟩ n (i::l) env N env' N'/\K q env' N' e e':=fun acc hw h=>by
     obtain ⟨h1,acc1,d,ne,h2,h3⟩:=c1H (F:=F) hX hw (fun acc d ne h=>(a2B hX hwa hclo hK h).1) h;obtain ⟨_,q,env',N',e,e',h4,h5,h6,h7⟩:=a2B hX hwa hclo hK h3;exact ⟨h1,q,env',N',e,e',h4,h5,.cons ho (st e' h4 h2) h6,h7⟩
    split at h
    ·rename_i hg
     exact step _ (by unfold a0S;rw [hg]) h
    ·split at h<;>first|exact h.elim|skip
     rename_i b hb;obtain ⟨h0,h⟩:=h;cases b with
     | true=>exact ⟨h0,(step _ hb h).2⟩
     | false =>
      obtain ⟨_,q,env',N',e,e',h4,h5,h6,h7⟩:=a2B hX hwa hclo hK h;exact ⟨h0,q,env',N',e,e',h4,h5,.cons (ne:=none) ho (st e' h4 (a0s.skip hb)) h6,h7⟩
structure Fle (C:Ctx)(F F':Fra):Prop where
 nt:F'.nt=F.nt
 sz:F.w0.heap.size<=F'.w0.heap.size
 mem:∀ {ρ:Lk} {H:Hp} {w:World},Mem C F' ρ H w->Mem C F ρ H w
 X:∀ b,F.X b->F'.X b
 df:∃ ms:List Deferred,F'.df=ms++F.df/\(∃ rs:List Nat,ms=rs.map (fun r=>{ target:=.collected r,args:=#[] })/\rs.Nodup /\
  ∀ r∈rs,F.w0.heap.size<=r/\r<F'.w0.heap.size/\F'.X r/\∀ (ρ:Lk) (H:Hp) (w:World),Mem C F' ρ H w->w.heap[r]? = some (.deferred (some [])))
theorem Fle.refl (F:Fra):Fle C F F:=⟨rfl,d9y _,fun h=>h,fun _ h=>h,[],rfl,[],rfl,.nil,by simp⟩
theorem Fle.trans {F F' F'':Fra}(h:Fle C F F')(k:Fle C F' F''):Fle C F F'':=by
 obtain ⟨h1,h2,h3,h4,ms,e1,rs,e2,n1,q1⟩:=h;obtain ⟨k1,k2,k3,k4,ms',e1',rs',e2',n1',q1'⟩:=k;refine ⟨k1.trans h1,d9V h2 k2,fun h=>h3 (k3 h),fun b hb=>k4 b (h4 b hb),ms'++ms,by rw [e1',e1,e0J],rs'++rs,by rw [e2,e2',e0Q],?_,?_⟩
 ·refine e0z.2 ⟨n1',n1,fun x hx y hy he=>?_⟩
  have:=(q1' x hx).1
  have:=(q1 y hy).2.1
  omega
 ·intro r hr
  rcases List.mem_append.1 hr with hr|hr
  ·obtain ⟨x1,x2,x3,x4⟩:=q1' r hr
   exact ⟨by omega,x2,x3,x4⟩
  ·obtain ⟨x1,x2,x3,x4⟩:=q1 r hr
   exact ⟨x1,by omega,k4 _ x3,fun ρ H w m=>x4 ρ H w (k3 m)⟩
def a5z (C:Ctx)(F:Fra)(Q:Exit->Fra->St->Prop):Exit->Act->World->Prop:=fun e a w=>∃ F' s' ρ',Fle C F F'/\Q e F' s'/\Sat C F' ρ' s' a w
theorem a5z.up {F F':Fra}{Q:Exit->Fra->St->Prop}(h:Fle C F F'){e:Exit}{a:Act}{w:World}:a5z C F' Q e a w->a5z C F Q e a w:=fun ⟨F2,s',ρ',h1,h2,h3⟩=>⟨F2,s',ρ',h.trans h1,h2,h3⟩
structure OkS (C:Ctx)(B:Fra)(rd:Option Nat)(F:Fra)(c:Code)(s:St)(Q:Exit->Fra->St->Prop):Prop where
 out:Fle C B F->a0O B.nt c=true->∀ (ρ:Lk) (a:Act) (w:World),Sat C F ρ s a w->c.wpIn (fw rd) 0 C.P (a5z C B Q) a w
variable {s:St} {rd:Option Nat} {B:Fra} {Q:Exit->Fra->St->Prop}
theorem OkS.mono {c:Code}{Q':Exit->Fra->St->Prop}(h:OkS C B rd F c s Q)(hq:∀ e F s,Q e F s->Q' e F s):OkS C B rd F c s Q' :=
 ⟨fun hB hd ρ a w hs=>wpIn_mono (h.out hB hd ρ a w hs) fun e a w ⟨F',s',ρ',h1,h2,h3⟩=>⟨F',s',ρ',h1,hq _ _ _ h2,h3⟩⟩
theorem OkS.skip (h:Q .normal F s):OkS C B rd F .skip s Q:=⟨fun hB _ ρ _ _ hs=>wpIn_skip ⟨F,s,ρ,hB,h,hs⟩⟩
theorem OkS.ret (h:Q .ret F s):OkS C B rd F .ret s Q:=⟨fun hB _ ρ _ _ hs=>wpIn_ret ⟨F,s,ρ,hB,h,hs⟩⟩
theorem OkS.exit {i:Nat}(h:Q (.exit i) F s):OkS C B rd F (.exit i) s Q:=⟨fun hB _ ρ _ _ hs=>wpIn_exit ⟨F,s,ρ,hB,h,hs⟩⟩
def a9X (n:Prop)(r:Exit->Prop)(e:Exit):Prop:=match e with
 | .normal=>n
 | .ret=>r .ret
 | .exit j=>r (.exit j)
 | .goto l=>r (.goto l)
 | .panic c=>r (.panic c)
 | .outgrown=>r .outgrown
theorem b4h {nt:Nat}{a b:Code}(h:a0O nt (.seq a b)=true):a0O nt a=true/\a0O nt b=true:=by simpa [a0O] using h
theorem OkS.seq {a b:Code}(h:OkS C B rd F a s (fun e F s=>a9X (OkS C B rd F b s Q) (fun e=>Q e F s) e)):OkS C B rd F (.seq a b) s Q :=
 ⟨fun hB hd ρ x w hs=>by
  obtain ⟨d1,d2⟩:=b4h hd;refine wpIn_seq (wpIn_mono (h.out hB d1 ρ x w hs) ?_);rintro e a' w' ⟨F',s',ρ',h1,h2,h3⟩;cases e with
  | normal=>exact (show OkS C B rd F' b s' Q from h2).out h1 d2 ρ' a' w' h3
  | ret=>exact ⟨F',s',ρ',h1,h2,h3⟩
  | exit j=>exact ⟨F',s',ρ',h1,h2,h3⟩
  | goto l=>exact ⟨F',s',ρ',h1,h2,h3⟩
  | panic c=>exact ⟨F',s',ρ',h1,h2,h3⟩
  | outgrown=>exact ⟨F',s',ρ',h1,h2,h3⟩⟩
def b1b (d:D)(y n:Prop):Prop:=match d with
 | .prim (.bool b)=>brB b y n
 | _=>False
theorem OkS.cond {c:Operand}{a b:Code}(h:b1b (a1m s.env c) (OkS C B rd F a s Q) (OkS C B rd F b s Q)):OkS C B rd F (.cond c a b) s Q:=by
 unfold b1b at h;split at h
 ·rename_i t ht
  refine ⟨fun hB hd ρ x w hs=>?_⟩;simp only [a0O,d9B] at hd;have hc:x.eval c=.bool t:=by
   have:=a0Z hs.env c
   rw [ht] at this;generalize x.eval c=v at this;cases this;rfl
  refine wpIn_cond_split hc (fun ht=>?_) fun ht=>?_
  ·subst ht;exact OkS.out h hB hd.1 ρ x w hs
  ·subst ht;exact OkS.out h hB hd.2 ρ x w hs
 ·exact h.elim
def b6N (i:Nat)(n:Prop)(r:Exit->Prop)(e:Exit):Prop:=match e with
 | .exit j=>bif Nat.beq j i then n else r (.exit j)
 | .normal=>r .normal
 | .ret=>r .ret
 | .goto l=>r (.goto l)
 | .panic c=>r (.panic c)
 | .outgrown=>r .outgrown
theorem OkS.block {i:Nat}{b:Code}(h:OkS C B rd F b s (fun e F s=>b6N i (Q .normal F s) (fun e=>Q e F s) e)):OkS C B rd F (.block i b) s Q :=
 ⟨fun hB hd ρ x w hs=>by
  refine wpIn_block (wpIn_mono (h.out hB (by simpa [a0O] using hd) ρ x w hs) ?_);rintro e a' w' ⟨F',s',ρ',h1,h2,h3⟩;cases e with
  | normal=>exact ⟨F',s',ρ',h1,h2,h3⟩
  | ret=>exact ⟨F',s',ρ',h1,h2,h3⟩
  | exit j =>
   simp only [b6N] at h2;simp only [Exit.inBlock];cases hb:Nat.beq j i with
   | true=>rw [hb] at h2;rw [d9l (d9v hb)];exact ⟨F',s',ρ',h1,h2,h3⟩
   | false=>rw [hb] at h2;rw [d9m (fun hj=>by rw [hj,e2p] at hb;cases hb)];exact ⟨F',s',ρ',h1,h2,h3⟩
  | goto l=>exact ⟨F',s',ρ',h1,h2,h3⟩
  | panic c=>exact ⟨F',s',ρ',h1,h2,h3⟩
  | outgrown=>exact ⟨F',s',ρ',h1,h2,h3⟩⟩
def b4A:Op->Bool
 | .defer _=>true
 | _=>false
def a3V:List Oper->Bool
 | []=>true
 | o::l=>match b4A o.op with
  | true=>false
  | false=>a3V l
theorem c2Y {l:List Oper}(h:a3V l=true):∀ o∈l,∀ c,o.op≠.defer c:=by
 induction l with
 | nil=>intro o ho;cases ho
 | cons o l ih =>
  intro o' ho c hc;have h1:b4A o.op=false/\a3V l=true:=by
   rw [a3V] at h;generalize b4A o.op=b at h ⊢;cases b with
   | true=>cases h
   | false=>exact ⟨rfl,h⟩
  rcases d9F.1 ho with h2|h2
  ·rw [<- h2,hc] at h1;cases h1.1
  ·exact ih h1.2 o' h2 c hc
theorem a2z (h:a3V ops.toList=true):∀ (i:Nat) (o:Oper),ops[i]? = some o->∀ c,o.op≠.defer c:=fun i o ho=>c2Y h o (Array.mem_toList_iff.2 (e1u ho))
theorem OkL.run {K:St->Prop}{l:List Nat}(h:OkL C F ops (l.map fun j=>ops.getD j default) s K)(hlt:∀ j∈l,j<ops.size)(hd:ops.toList.all (a2m F.nt)=true){ρ:Lk}{a:Act}{w:World}(hs:Sat C F ρ s a w):wpOps C.P ops (Fin C F K) l a w:=by
 refine h ?_ l ?_ ρ a w hs
 ·rw [d9W]
  intro o' ho';obtain ⟨j,hj,rfl⟩:=List.mem_map.1 ho';refine d9W.1 hd _ ?_;rw [d9o,d9C (hlt j hj)];simp
 ·rw [List.map_map]
  refine e1M fun j hj=>?_
  simp [d9o,d9C (hlt j hj)]
theorem a3K {K:St->Prop}(hB:Fle C B F)(hK:∀ s,K s->Q .normal F s){e:Exit}{a:Act}{w:World}(h:Fin C F K e a w):e=.normal/\a5z C B Q .normal a w:=by
 obtain ⟨h0,s',ρ',h1,h2⟩:=h;exact ⟨h0,F,s',ρ',hB,hK _ h1,h2⟩
theorem a3Q {i:Nat}{d:Bool}(hB:Fle C B F)(h:a0O B.nt (.region i ops d)=true):ops.toList.all (a2m F.nt)=true:=by rw [hB.nt];exact h
theorem d8I {i:Nat}(hX:WOk C X)(kb:Nat)(hnd:a3V ops.toList=true)(h:a2g C X kb ops (List.range ops.size) s True fun acc s=>acc/\Q .normal F s):OkS C B rd F (.region i ops false) s Q:=by
 refine ⟨fun hB hd ρ a w hs=>wpIn_region ?_⟩;have hd:=a3Q hB hd;have h1:=(a1i (F:=F) (K':=Q .normal F) hX (fun acc s h=>h) h).2.run (fun j hj=>List.mem_range.1 hj) hd hs
 have:=a1A (rd:=rd) (Q:=a5z C B Q) (l2:=[]) (fun _ _ _ h=>a3K hB (fun _ h=>h) h) (a2z hnd) _ a w h1
 rwa [e0D] at this
theorem d8K {i:Nat}(hX:WOk C X)(kb:Nat)(pre suf:List Nat)(hc:(b2m ops pre suf&&a3V ops.toList)=true)
  (h:a3Y C X kb ops s.H s.n pre s.env [] True fun acc env N=>a2g C X kb ops suf ⟨env,N++s.H,s.n+a9P ops.toList⟩ acc fun acc s=>acc/\Q .normal F s):OkS C B rd F (.region i ops true) s Q:=by
 have hsz:ops.size=a9P ops.toList:=by rw [a7b,e1w]
 rw [<- hsz] at h;simp only [d9B] at hc;obtain ⟨_,acc,env,N,h1,h2⟩:=a5f (F:=F) hX (fun acc env N h=>(a1i (F:=F) (K':=Q .normal F) hX (fun acc s h=>h) h).1) h;refine ⟨fun hB hd ρ a w hs=>?_⟩;have hd:=a3Q hB hd;refine c9n hX.mixed hc.1 h1 (fun hlt ρ a w hs=>?_) hd ρ a w hs;have h3:=(a1i (F:=F) (K':=Q .normal F) hX (fun acc s h=>h) h2).2.run hlt hd hs
 have:=a1A (rd:=rd) (Q:=a5z C B Q) (l2:=[]) (fun _ _ _ h=>a3K hB (fun _ h=>h) h) (a2z hc.2) _ a w h3
 rwa [e0D] at this
def b7G (H:Hp)(k:Nat)(K:Ent->Hp->Prop):Prop:=match Hp.get H k with
 | some e=>K e (Hp.del H k)
 | none=>False
theorem b5u {i:Nat}{W:WR}{pre suf:List Nat}{envF:Env}{N:Hp}(hm:C.P.follows .mixedOrders=true)(hc:b2m ops pre suf=true)(hnd:a3V ops.toList=true)
  (hH:s.H.Perm W.start) (hga:∀ ia,W.ia=some ia->W.e.g=s.n+ia/\a1Z ops W.iw ia/\ia∈pre) (hiw:W.iw∈pre) (hwg:W.e'.g=W.e.g\/W.e'.g=s.n+W.iw)
  (hpre:b7S C F ops W s.n pre s.env [] envF N)
  (h:OkL C F ops (suf.map fun j=>ops.getD j default) ⟨envF,N++W.e'::W.R,s.n+ops.size⟩ (Q .normal F)):OkS C B rd F (.region i ops true) s Q :=
 ⟨fun hB hd ρ a w hs=>wpIn_region_any hm (a3k (fun _ _ _ h=>a3K (F:=F) hB (fun _ h=>h) h) (a2z hnd) _ _ _ _ (d8x (Q:=fun e s=>Q e F s) hc hH hga hiw hwg hpre h (a3Q hB hd) ρ a w hs))⟩
theorem OkL.perm {os:List Oper}{env:Env}{H H':Hp}{n:Nat}{K:St->Prop}(hp:H.Perm H')(h:OkL C F ops os ⟨env,H,n⟩ K):OkL C F ops os ⟨env,H',n⟩ K:=fun hd l hl ρ a w hs =>
 h hd l hl ρ a w ⟨hs.mem.perm hp.symm,hs.fresh,fun e he=>hs.gen e (hp.mem_iff.1 he),fun t=>by
  show Rep ρ (Own F.X ρ H) w _ _;rw [Own.perm hp];exact hs.env t,hs.nt,hs.dfr⟩
theorem d8R {i:Nat}(hX:WOk C X)(kb:Nat)(pre suf:List Nat)(iw:Nat)(clo:List Nat)(k:Nat)(hc:(b2m ops pre suf&&a3V ops.toList)=true)(hcl:(a3n iw pre&&a4z clo (a2j (b5m ops (pre++suf) []) iw))=true)
  (h:b7G s.H k fun e R=>a1Y C X kb ops iw none R clo s.n pre s.env [] (some e) none True fun acc env N e e'=>(e'.g=e.g\/e'.g=s.n+iw)/\a2g C X kb ops suf ⟨env,N++Hp.set s.H k e',s.n+a9P ops.toList⟩ acc fun acc s=>acc/\Q .normal F s) :
  OkS C B rd F (.region i ops true) s Q:=by
 have hsz:ops.size=a9P ops.toList:=by rw [a7b,e1w]
 rw [<- hsz] at h;unfold b7G at h;split at h<;>first|exact h.elim|skip
 rename_i e0 he0;simp only [d9B] at hcl hc;have hclo:∀ j∈clo,a1Z ops iw j:=fun j hj=>a2J (a3m _ _ (by simp)) _ _ (a2o.1 hcl.2 j hj)
 obtain ⟨_,q,env,N,e,e',h1,h2,h3,h4,h5⟩:=a2B (F:=F) hX (by simp) hclo (fun acc env N e e' h=>(a1i (F:=F) (K':=Q .normal F) hX (fun acc s h=>h) h.2).1) h
 have:=h1 _ rfl
 subst this;obtain ⟨H1,H2,q1,_,q3⟩:=d8q e he0;obtain ⟨H1',H2',q1',q2',q3'⟩:=d8q e' he0;refine b5u (W:=⟨iw,none,e,e',Hp.del s.H k⟩) hX.mixed hc.1 hc.2 ?_ (by simp) (a0T.1 hcl.1) h4 h3 (OkL.perm ?_ (a1i (F:=F) hX (fun acc s h=>h) h5).2)
 ·rw [q3];unfold WR.start
  dsimp only;rw [q1];exact e1S
 ·rw [q2',q3']
  exact List.Perm.append_left _ e1S
theorem d8S {i:Nat}(hX:WOk C X)(kb:Nat)(pre suf:List Nat)(iw ia:Nat)(clo:List Nat)(hc:(b2m ops pre suf&&a3V ops.toList)=true)(hcl:(a3n iw pre&&a3n ia pre&&a3n ia clo && !(Nat.beq ia iw)&&a4z clo (a2j (b5m ops (pre++suf) []) iw))=true)
  (h:a1Y C X kb ops iw (some ia) s.H clo s.n pre s.env [] none none True fun acc env N e e'=>(e.g=s.n+ia/\(e'.g=e.g\/e'.g=s.n+iw))/\a2g C X kb ops suf ⟨env,N++e'::s.H,s.n+a9P ops.toList⟩ acc fun acc s=>acc/\Q .normal F s) :
  OkS C B rd F (.region i ops true) s Q:=by
 have hsz:ops.size=a9P ops.toList:=by rw [a7b,e1w]
 rw [<- hsz] at h;simp only [d9B,d9w] at hcl hc;obtain ⟨⟨⟨⟨c1,c2⟩,c3⟩,c4⟩,c5⟩:=hcl;have hclo:∀ j∈clo,a1Z ops iw j:=fun j hj=>a2J (a3m _ _ (by simp)) _ _ (a2o.1 c5 j hj)
 have hne:ia≠iw:=fun h=>by rw [h,e2p] at c4;cases c4
 obtain ⟨_,q,env,N,e,e',h1,h2,h3,⟨h4,h6⟩,h5⟩:=a2B (F:=F) hX (fun h=>hne (by simpa using h)) hclo (fun acc env N e e' h=>(a1i (F:=F) (K':=Q .normal F) hX (fun acc s h=>h) h.2).1) h;exact b5u (W:=⟨iw,some ia,e,e',s.H⟩) hX.mixed hc.1 hc.2 (List.Perm.refl _) (fun j hj=>by cases hj;exact ⟨h4,hclo ia (a0T.1 c3),a0T.1 c2⟩) (a0T.1 c1) h6 h3 (a1i (F:=F) hX (fun acc s h=>h) h5).2
structure Wk (s s':St):Prop where
 h:FzH s.H s'.H s.H s'.H
 e:b3Q s.H s'.H s.env s'.env
 n:s.n<=s'.n
theorem OkS.weak {c:Code}(s':St)(h:Wk s s')(hk:OkS C B rd F c s' Q):OkS C B rd F c s Q:=⟨fun hB hd ρ a w hs=>hk.out hB hd ρ a w (hs.weak h.h h.e h.n)⟩
theorem b3K {Fe:Fence}{n:Nat}{P:Program}{c:Code}{Q:Exit->Act->World->Prop}(I:Nat->Act->World->Prop){m:Nat}{a:Act}{w:World}(h₀:I m a w)
  (round:∀ m a w,I m a w->c.wpIn Fe n P (Exit.then (fun a' w'=>∃ m',m'<m/\I m' a' w') Q) a w):(Code.loop c).wpIn Fe n P Q a w:=by
 intro b k cs hro hb hr;have key:∀ m a w,I m a w->∃ e a' w',Q e a' w'/\ArrivesIn (Machine.fenced P Fe) P (lone (b.atR a (.code c::.inLoop c::k)) cs w) b k cs e a' w':=by
  intro m
  induction m using Nat.strongRecOn with
  | _ m ih =>
   intro a w hI;obtain ⟨e,a₁,w₁,hq,harr⟩:=round m a w hI b (.inLoop c::k) cs hro hb hr;cases e with
   | normal =>
    obtain ⟨m',hlt,hI₁⟩:=hq;obtain ⟨e₂,a₂,w₂,hq₂,harr₂⟩:=ih m' hlt a₁ w₁ hI₁;exact ⟨e₂,a₂,w₂,hq₂,.of_steps (StepsIn.trans harr (.one (fenced_calm hb hr rfl) stepR_inLoop)) harr₂⟩
   | exit id=>exact ⟨_,a₁,w₁,hq,.pass (x:=.inLoop c) rfl (fun _ _=>.inl (by simp)) harr⟩
   | goto l=>exact ⟨_,a₁,w₁,hq,.pass (x:=.inLoop c) rfl (fun _ _=>.inl (by simp)) harr⟩
   | ret=>exact ⟨_,a₁,w₁,hq,.pass (x:=.inLoop c) rfl (fun _ _=>.inl (by simp)) harr⟩
   | panic ch=>exact ⟨_,a₁,w₁,hq,.pass (x:=.inLoop c) rfl (fun _ _=>.inl (by simp)) harr⟩
   | outgrown=>exact ⟨_,a₁,w₁,hq,.pass (x:=.inLoop c) rfl (fun _ _=>.inl (by simp)) harr⟩
 obtain ⟨e,a',w',hq,harr⟩:=key _ a w h₀;exact ⟨e,a',w',hq,.of_steps (.one (fenced_calm hb hr rfl) stepR_loop) harr⟩
theorem d8H {b:Code}{α:Type}(sh:α->St)(μ:α->Nat)(J:α->Fra->Prop)(a0:α)(h0:J a0 F)(hs:Wk s (sh a0))
  (h:∀ a F',J a F'->OkS C B rd F' b (sh a) (fun e F' s'=>a9X (∃ a',J a' F'/\μ a'<μ a/\Wk s' (sh a')) (fun e=>Q e F' s') e)):OkS C B rd F (.loop b) s Q:=by
 refine ⟨fun hB hd ρ x w hsat=>?_⟩;have hd':a0O B.nt b=true:=by simpa [a0O] using hd
 refine b3K (fun m x w=>∃ (F':Fra) (a:α) (s1:St) (ρ:Lk),μ a=m/\Fle C B F'/\J a F'/\Wk s1 (sh a)/\Sat C F' ρ s1 x w) ⟨F,a0,s,ρ,rfl,hB,h0,hs,hsat⟩ ?_;rintro m x w ⟨F',a,s1,ρ,hm,hF,ha,hw,hsat⟩;refine wpIn_mono ((h a F' ha).out hF hd' ρ x w (hsat.weak hw.h hw.e hw.n)) ?_;rintro e a' w' ⟨F2,s2,ρ2,h1,h2,h3⟩;cases e with
 | normal =>
  obtain ⟨a2,q1,q2,q3⟩:=(show ∃ a',J a' F2/\μ a'<μ a/\Wk s2 (sh a') from h2)
  exact ⟨μ a2,hm ▸ q2,F2,a2,s2,ρ2,rfl,h1,q1,q3,h3⟩
 | ret=>exact ⟨F2,s2,ρ2,h1,h2,h3⟩
 | exit j=>exact ⟨F2,s2,ρ2,h1,h2,h3⟩
 | goto l=>exact ⟨F2,s2,ρ2,h1,h2,h3⟩
 | panic c=>exact ⟨F2,s2,ρ2,h1,h2,h3⟩
 | outgrown=>exact ⟨F2,s2,ρ2,h1,h2,h3⟩
theorem OkS.loop {b:Code}{α:Type}(sh:α->St)(μ:α->Nat)(J:α->Prop)(a0:α)(h0:J a0)(hs:Wk s (sh a0))
  (h:∀ a F',J a->OkS C B rd F' b (sh a) (fun e F' s'=>a9X (∃ a',J a'/\μ a'<μ a/\Wk s' (sh a')) (fun e=>Q e F' s') e)):OkS C B rd F (.loop b) s Q :=
 d8H sh μ (fun a _=>J a) a0 h0 hs h
abbrev i64 (z:Int):D:=.prim (.int .i64 z)
abbrev u64 (z:Int):D:=.prim (.int .u64 z)
abbrev str (s:ByteArray):D:=.prim (.string s)
abbrev boo (b:Bool):D:=.prim (.bool b)
abbrev a1w:D:=.prim (.slice none 0 0)
theorem a0a {H:Hp}{d0 d:D}(hd:d0=d)(hp:a2n d0):∃ d',Fz H [] d0 d'/\a2n d'/\d'=d:=⟨d0,.refl _,hp,hd⟩
theorem FzL.refl {H Hf:Hp}:∀ ds:List D,FzL H Hf ds ds
 | []=>trivial
 | _::l=>⟨.refl _,FzL.refl l⟩
theorem a0q.same {C:Ctx}{f:Nat}{ds:List D}{k:D->Prop}(d:D)(hc:a0b C f ds d)(hp:ArePure ds)(hk:k d):a0q C f ds k:=.mk ds d (FzL.refl _) hc hp hk
theorem a0j.same {C:Ctx}{f:Nat}{ds:List D}{H:Hp}{n:Nat}{k:D->Hp->Nat->Prop}(d:D)(hc:a0b C f ds d)(hp:ArePure ds)(hk:k d H (n+1)):a0j C f ds H n k:=.pure ds d (FzL.refl _) hc hp hk
end
section
variable {C:Ctx} {F:Fra} {ops:Array Oper}
def a5N (C:Ctx)(F:Fra)(ops:Array Oper)(H:Hp)(g:Nat)(env:Env)(o:Oper)(d:D)(e e':Ent):Prop :=
 e'.g=g/\∀ (He:Hp) (ρ:Lk) (a:Act) (w:World),Mem C F ρ (e::He) w->(∀ x∈H,x∈He)->(∀ k,ρ k g=none)->(∀ x∈e::He,x.g≠g) ->
  (∀ t∈o.looksAt ops,Rep ρ (Own F.X ρ (e::He)) w (env.get t) (a.tmps.getD t undef)) ->
  Region.wanted o (yielded ops a.tmps)=true/\∃ v ρ' w',(execOp a.eval o).run C.P w=.ok (.value v) w' /\
   Mem C F ρ' (e'::He) w'/\Ext ρ (Own F.X ρ (e::He)) w ρ' (Own F.X ρ' (e'::He)) w'/\(∀ k g',g'≠g->ρ' k g'=ρ k g')/\Rep ρ' (Own F.X ρ' (e'::He)) w' d v
theorem a5N.app {H:Hp}{g:Nat}{env:Env}{o:Oper}{e e':Ent}{tt:Nat->Option a0n}(k:Nat)(htt:Tab C.P tt){d:D}{p:Prop}(hw:a0S ops env o=some true)(he:evA tt [e] g k (a1m env) o.op=some (d,[e'],p))(hp:p) :
  a5N C F ops H g env o d e e':=by
 refine ⟨(b1q (He:=[]) he).2,fun He ρ a w m _ fr hne hr=>?_⟩;refine ⟨a1r hr hw,?_⟩;obtain ⟨g',h1,h2⟩:=a2y hr;rw [a8D h1] at he;obtain ⟨q1,_⟩:=b1q (He:=He) he;obtain ⟨v,ρ',w',r1,r2⟩:=a6j htt m fr hne h2 q1 hp;exact ⟨v,ρ',w',r1,r2.mem,r2.ext,r2.far,r2.rep⟩
def a3f (use:Nat->Option Nat)(L:Array Bool)(r:Rec):Option Ent :=
 if L.getD r.i false=true/\(∀ j,use r.i=some j->L.getD j false=false) then r.ne else none
structure b0f (ops:Array Oper)(rs:List Rec)(con:Nat->Option Ent)(use:Nat->Option Nat):Prop where
 made:∀ r∈rs,∀ e,con r.i=some e->∃ r0∈rs,r0.ne=some e/\use r0.i=some r.i
 late:∀ r∈rs,∀ j,use r.i=some j->j∈rs.map (·.i)/\con j=r.ne/\a1Z ops j r.i
 one:∀ r∈rs,∀ r'∈rs,∀ j,use r.i=some j->use r'.i=some j->r.i=r'.i
structure DT (C:Ctx)(F:Fra)(H:Hp)(n:Nat)(env:Env)(rs:List Rec)(use:Nat->Option Nat)(L:Array Bool)(a:Act)(w:World)(ρ:Lk)(He:Hp):Prop where
 mem:Mem C F ρ He w
 perm:He.Perm (rs.filterMap (a3f use L)++H)
 reps:∀ r∈rs,Ls L r.i->∀ t,r.o.dst=some t->Rep ρ (Own F.X ρ He) w r.d (a.tmps.getD t undef)
 old:∀ t,(∀ r∈rs,Ls L r.i->r.o.dst≠some t)->Rep ρ (Own F.X ρ He) w (env.get t) (a.tmps.getD t undef)
 fresh:∀ k g,n<=g->ρ k g≠none->∃ r∈rs,Ls L r.i/\g=n+r.i
 nt:a.tmps.size=F.nt
 dfr:a.defers=F.df
theorem c6P {rs:List Rec}(hn:(rs.map (·.i)).Nodup){r:Rec}(hr:r∈rs){f g:Rec->Option Ent}(hg:g r=none)(h:∀ r'∈rs,r'.i≠r.i->f r'=g r'):(rs.filterMap f).Perm ((f r).toList++rs.filterMap g):=by
 obtain ⟨A,B,rfl⟩:=e0v hr;rw [e0Q,e0I,e0z,List.nodup_cons] at hn;have hA:A.filterMap f=A.filterMap g:=a3d fun x hx=>h x (by simp [hx]) fun e=>hn.2.2 x.i (List.mem_map.2 ⟨x,hx,rfl⟩) r.i (by simp) e
 have hB:B.filterMap f=B.filterMap g:=a3d fun x hx=>h x (by simp [hx]) fun e=>hn.2.1.1 (List.mem_map.2 ⟨x,hx,e⟩)
 rw [List.filterMap_append,e1X,List.filterMap_append,e1X,hg,hA,hB];cases f r with
 | none=>exact .refl _
 | some e=>exact e1S
theorem b3d {use:Nat->Option Nat}{L:Array Bool}{i:Nat}(hi:i<L.size){r':Rec}(h1:r'.i≠i)(h2:use r'.i=some i->r'.ne=none):a3f use (L.setIfInBounds i true) r'=a3f use L r':=by
 have hset:∀ j,Ls (L.setIfInBounds i true) j↔j=i\/Ls L j:=fun j=>Ls.set hi
 unfold Ls at hset;unfold a3f
 by_cases h3:use r'.i=some i
 ·rw [h2 h3];split<;>split<;>rfl
 have e1:((L.setIfInBounds i true).getD r'.i false=true)↔L.getD r'.i false=true:=⟨fun h=>((hset _).1 h).resolve_left h1,fun h=>(hset _).2 (.inr h)⟩
 have e2:(∀ j,use r'.i=some j->(L.setIfInBounds i true).getD j false=false)↔∀ j,use r'.i=some j->L.getD j false=false:=by
  constructor
  ·intro h j hj
   have:=h j hj
   cases hb:L.getD j false with
   | false=>rfl
   | true=>rw [(hset j).2 (.inr hb)] at this;cases this
  ·intro h j hj
   have:=h j hj
   cases hb:(L.setIfInBounds i true).getD j false with
   | false=>rfl
   | true =>
    rcases (hset j).1 hb with q|q
    ·exact d9n (q ▸ hj) h3
    ·rw [q] at this;cases this
 by_cases g:L.getD r'.i false=true/\∀ j,use r'.i=some j->L.getD j false=false
 ·rw [d9l g,d9l ⟨e1.2 g.1,e2.2 g.2⟩]
 ·rw [d9m g,d9m fun q=>g ⟨e1.1 q.1,e2.1 q.2⟩]
theorem b1A {use:Nat->Option Nat}{L:Array Bool}{r:Rec}(h:¬ Ls L r.i):a3f use L r=none:=d9m fun q=>h q.1
theorem b3e {use:Nat->Option Nat}{L:Array Bool}{r:Rec}(hi:r.i<L.size)(h:∀ j,use r.i=some j->j≠r.i/\¬ Ls L j):a3f use (L.setIfInBounds r.i true) r=r.ne:=by
 have hset:∀ j,Ls (L.setIfInBounds r.i true) j↔j=r.i\/Ls L j:=fun j=>Ls.set hi
 refine d9l ⟨(hset _).2 (.inl rfl),fun j hj=>?_⟩;cases hb:(L.setIfInBounds r.i true).getD j false with
 | false=>rfl
 | true =>
  rcases (hset j).1 hb with q|q
  ·exact d9n q (h j hj).1
  ·exact d9n q (h j hj).2
theorem c0w {use:Nat->Option Nat}{con:Nat->Option Ent}{rs:List Rec}(ht:b0f ops rs con use)(hn:(rs.map (·.i)).Nodup){r:Rec}(hr:r∈rs){L:Array Bool}(hi:r.i<L.size)(hL:¬ Ls L r.i)(hc:con r.i=none)
  (hu:∀ j,use r.i=some j->j≠r.i/\¬ Ls L j):(rs.filterMap (a3f use (L.setIfInBounds r.i true))).Perm (r.ne.toList++rs.filterMap (a3f use L)):=by
 have:=c6P hn hr (f:=a3f use (L.setIfInBounds r.i true)) (g:=a3f use L) (b1A hL) fun r' hr' h=>b3d hi h fun q=>by rw [<- (ht.late r' hr' _ q).2.1,hc]
 rwa [b3e hi hu] at this
theorem c0x {use:Nat->Option Nat}{con:Nat->Option Ent}{rs:List Rec}(ht:b0f ops rs con use)(hn:(rs.map (·.i)).Nodup){r r0:Rec}(hr:r∈rs)(hr0:r0∈rs){L:Array Bool}(hi:r.i<L.size)(hL:¬ Ls L r.i)(hL0:Ls L r0.i){e:Ent}(he:r0.ne=some e)(hu0:use r0.i=some r.i)
  (hu:∀ j,use r.i=some j->j≠r.i/\¬ Ls L j):∃ X,(rs.filterMap (a3f use L)).Perm (e::X)/\(rs.filterMap (a3f use (L.setIfInBounds r.i true))).Perm (r.ne.toList++X):=by
 have h0:r0.i≠r.i:=fun q=>hL (by rw [<- q];exact hL0)
 let g:Rec->Option Ent:=fun x=>if Nat.beq x.i r0.i=true then none else a3f use L x
 have g0:g r0=none:=d9l (e2p _);have gr:g r=none:=by
  show (if Nat.beq r.i r0.i=true then none else a3f use L r)=none;rw [b1A hL];split<;>rfl
 have gx:∀ x:Rec,x.i≠r0.i->g x=a3f use L x:=fun x hx=>d9m fun q=>hx (d9v q)
 refine ⟨rs.filterMap g,?_,?_⟩
 ·have:=c6P hn hr0 (f:=a3f use L) (g:=g) g0 fun r' _ h=>(gx r' h).symm
  have e1:a3f use L r0=some e:=by
   rw [<- he];refine d9l ⟨hL0,fun j hj=>?_⟩;rw [hu0] at hj;cases hj;unfold Ls at hL;simpa using hL
  rwa [e1] at this
 ·have:=c6P hn hr (f:=a3f use (L.setIfInBounds r.i true)) (g:=g) gr fun r' hr' h=>by
   by_cases q:r'.i=r0.i
   ·have e1:g r'=none:=d9l (by rw [q];exact e2p _)
    rw [e1];refine d9m fun k=>?_
    have:=k.2 r.i (by rw [q];exact hu0)
    have h2:Ls (L.setIfInBounds r.i true) r.i:=(Ls.set hi).2 (.inl rfl);unfold Ls at h2;rw [h2] at this;cases this
   ·rw [gx r' q]
    exact b3d hi h fun k=>d9n (ht.one r' hr' r0 hr0 _ k hu0) q
  rwa [b3e hi hu] at this
theorem DT.nextG {use:Nat->Option Nat}{H:Hp}{n:Nat}{env:Env}{A B:List Rec}{r:Rec}{L:Array Bool}{a:Act}{w:World}{ρ:Lk}{He:Hp}(h:DT C F H n env (A++r::B) use L a w ρ He)(hi:r.i<L.size)(hn:¬ Ls L r.i)
  (hnd:((A++r::B).map (·.i)).Nodup) (hdst:(A++r::B).Pairwise (fun r r'=>∀ t,r.o.dst=some t->r'.o.dst≠some t)) (hok:a2m F.nt r.o=true) {v:Value} {ρ':Lk} {w':World} {He':Hp}
  (pm:Mem C F ρ' He' w') (px:Ext ρ (Own F.X ρ He) w ρ' (Own F.X ρ' He') w') (pf:∀ k g',g'≠n+r.i->ρ' k g'=ρ k g') (pr:Rep ρ' (Own F.X ρ' He') w' r.d v)
  (pp:He'.Perm ((A++r::B).filterMap (a3f use (L.setIfInBounds r.i true))++H)) :
  DT C F H n env (A++r::B) use (L.setIfInBounds r.i true) (a.put r.o.dst v) w' ρ' He':=by
 have hset:∀ j,Ls (L.setIfInBounds r.i true) j↔j=r.i\/Ls L j:=fun j=>Ls.set hi
 have hne:∀ r'∈A++B,r'.i≠r.i:=by
  simp only [e0Q,e0I] at hnd;intro r' hr' he;rw [e0z,List.nodup_cons] at hnd;rcases List.mem_append.1 hr' with hr'|hr'
  ·exact hnd.2.2 r'.i (List.mem_map.2 ⟨r',hr',rfl⟩) r.i (by simp) he
  ·exact hnd.2.1.1 (List.mem_map.2 ⟨r',hr',he⟩)
 have hput:∀ t,(a.put r.o.dst v).tmps.getD t undef=if r.o.dst=some t then v else a.tmps.getD t undef:=by
  intro t;cases hd:r.o.dst with
  | none=>simp [Act.put]
  | some k =>
   have hk:k<a.tmps.size:=by
    rw [h.nt];unfold a2m at hok;rw [hd] at hok;exact Nat.blt_eq.mp hok
   show (a.tmps.setIfInBounds k v).getD t undef=_;rw [d9o,e0q]
   by_cases hkt:k=t
   ·subst hkt;simp [hk]
   ·rw [d9m hkt,d9m (by simpa using hkt),<- d9o]
 refine ⟨pm,pp,fun r' hr' hl t ht=>?_,fun t ht=>?_,fun k g hg hk=>?_,?_,?_⟩
 ·rw [hput]
  by_cases hrr:r'=r
  ·subst hrr;rw [d9l ht];exact pr
  ·have hr2:r'∈A++B:=by
    rcases List.mem_append.1 hr' with h|h
    ·simp [h]
    ·rcases d9F.1 h with h|h
     ·exact d9n h hrr
     ·simp [h]
   have hl2:=((hset r'.i).1 hl).resolve_left (hne r' hr2);rw [d9m]
   ·exact (h.reps r' hr' hl2 t ht).mono px
   ·intro hrt
    rw [e1q,e0U] at hdst;rcases List.mem_append.1 hr2 with h|h
    ·exact hdst.2.2 r' h r (by simp) t ht hrt
    ·exact hdst.2.1.1 r' h t hrt ht
 ·rw [hput,d9m (ht r (by simp) ((hset r.i).2 (.inl rfl)))]
  exact (h.old t fun r' hr' hl=>ht r' hr' ((hset r'.i).2 (.inr hl))).mono px
 ·by_cases hgr:g=n+r.i
  ·exact ⟨r,by simp,(hset r.i).2 (.inl rfl),hgr⟩
  ·rw [pf k g hgr] at hk
   obtain ⟨r',h1,h2,h3⟩:=h.fresh k g hg hk;exact ⟨r',h1,(hset r'.i).2 (.inr h2),h3⟩
 ·cases r.o.dst<;>simp [Act.put,h.nt]
 ·cases r.o.dst<;>simp [Act.put,h.dfr]
theorem DT.look {use:Nat->Option Nat}{H:Hp}{n:Nat}{env:Env}{rs:List Rec}{suf:List Nat}{L:Array Bool}{a:Act}{w:World}{ρ:Lk}{He:Hp}(h:DT C F H n env rs use L a w ρ He)(ho:b3S ops rs suf)(hL:L.size=ops.size)(hc:Cl ops L)
  {A B:List Rec} {r:Rec} (hr:rs=A++r::B) (hrd:r.i∈Region.ready .any ops L):∀ t∈r.o.looksAt ops,Rep ρ (Own F.X ρ He) w ((a3C A env).get t) (a.tmps.getD t undef):=by
 intro t ht;have hpA:A.Pairwise (fun r r'=>∀ t,r.o.dst=some t->r'.o.dst≠some t):=by
  have:=ho.dst
  rw [hr,e1q] at this;exact this.1
 by_cases hw:∃ r'∈rs,r'.o.dst=some t
 ·obtain ⟨r',h1,h2⟩:=hw
  rcases ho.look A r B hr t ht r' h1 h2 with ⟨h3,h4⟩|⟨h3,h4⟩
  ·rw [a4n A env t hpA r' h3 h2]
   exact h.reps r' h1 (a0w hL hc h4 (a0P.1 hrd).2.2) t h2
  ·
   have one:∀ r''∈rs,r''.o.dst=some t->r''=r':=fun r'' hr'' hd=>d9L fun hne=>by
    have hp:=ho.dst;have sym:∀ {l:List Rec},l.Pairwise (fun r r'=>∀ t,r.o.dst=some t->r'.o.dst≠some t)->∀ x∈l,∀ y∈l,x≠y->∀ t,x.o.dst=some t->y.o.dst≠some t:=by
     intro l hl
     induction hl with
     | nil=>intro x hx;simp at hx
     | cons h _ ih =>
      intro x hx y hy hxy t h1 h2;rcases d9F.1 hx with e1|e1
      ·rcases d9F.1 hy with e2|e2
       ·exact hxy (by rw [e1,e2])
       ·rw [e1] at h1;exact h y e2 t h1 h2
      ·rcases d9F.1 hy with e2|e2
       ·rw [e2] at h2;exact h x e1 t h2 h1
       ·exact ih x e1 y e2 hxy t h1 h2
    exact sym hp r'' hr'' r' h1 hne t hd h2
   rw [a1v A env t fun r'' hr'' hd=>h3 (by rw [<- one r'' (by rw [hr];simp [hr'']) hd];exact hr'')];refine h.old t fun r'' hr'' hl hd=>?_
   obtain rfl:=one r'' hr'' hd;have hlt:r''.i<ops.size:=ho.lt r''.i (by simp;exact .inl ⟨r'',hr'',rfl⟩);have hin:=(a0P.1 hrd).2.1;have hrl:L.getD r.i false=true:=by
    refine a0w hL hc h4 fun k hk=>?_
    refine hc r''.i ?_ hlt k hk;unfold Ls at hl;rw [d9o,d9C (by omega)] at hl ⊢;simpa using hl
   have hrlt:r.i<ops.size:=(a0P.1 hrd).1;rw [d9o,d9C (by omega)] at hrl hin;simp at hrl hin;rw [hrl] at hin;cases hin
 ·rw [a1v A env t fun r' hr' hd=>hw ⟨r',by rw [hr];simp [hr'],hd⟩]
  exact h.old t fun r' hr' _ hd=>hw ⟨r',hr',hd⟩
def StT (C:Ctx)(F:Fra)(ops:Array Oper)(H:Hp)(con:Nat->Option Ent)(g:Nat)(env:Env)(r:Rec):Prop :=
 (con r.i=none/\a0s C F ops H g env r.o r.d r.ne)\/∃ e e',con r.i=some e/\r.ne=some e'/\a5N C F ops H g env r.o r.d e e'
theorem StT.gen {H:Hp}{con:Nat->Option Ent}{g:Nat}{env:Env}{r:Rec}(h:StT C F ops H con g env r):∀ e,r.ne=some e->e.g=g:=by
 rcases h with ⟨_,h⟩|⟨e,e',_,h1,h2⟩
 ·exact h.1
 ·intro x hx;rw [h1] at hx;cases hx;exact h2.1
theorem b3W {use:Nat->Option Nat}{con:Nat->Option Ent}{Q:Exit->Act->World->Prop}{H:Hp}{n:Nat}{env:Env}{rs:List Rec}{suf:List Nat}(ho:b3S ops rs suf)(hgen:∀ e∈H,e.g<n)(hd:∀ r∈rs,a2m F.nt r.o=true)
  (ht:b0f ops rs con use) (hst:∀ A r B,rs=A++r::B->ops[r.i]? = some r.o/\StT C F ops H con (n+r.i) (a3C A env) r)
  (hend:∀ (L:Array Bool) (a:Act) (w:World) (ρ:Lk) (He:Hp),L.size=ops.size->(∀ r∈rs,Ls L r.i)->DT C F H n env rs use L a w ρ He->wpOps C.P ops Q suf a w) :
  ∀ (fuel:Nat) (L:Array Bool) (a:Act) (w:World) (ρ:Lk) (He:Hp),L.size=ops.size->((rs.map (·.i)++suf).filter (fun i=>!L.getD i false)).length<=fuel->Cl ops L->(∀ i∈suf,¬ Ls L i) ->
   DT C F H n env rs use L a w ρ He->wpAny C.P .any ops Q fuel L a w:=by
 intro fuel
 induction fuel with
 | zero =>
  intro L a w ρ He hL hf hc hs hi;have h0:(rs.map (·.i)++suf).filter (fun i=>!L.getD i false)=[]:=e0d (by omega);have hall:∀ r∈rs,Ls L r.i:=fun r hr=>by
   have:=List.filter_eq_nil_iff.1 h0 r.i (by simp;exact .inl ⟨r,hr,rfl⟩)
   simpa [Ls] using this
  have hsuf:suf=[]:=by
   apply List.eq_nil_iff_forall_not_mem.2;intro i hi2
   have:=List.filter_eq_nil_iff.1 h0 i (by simp [hi2])
   exact hs i hi2 (by simpa [Ls] using this)
  subst hsuf;refine a2F [] 0 L a w hL (d9y _) (fun i hi2=>⟨fun _=>by simp,fun _=>?_⟩) .nil (fun A i B h=>by cases A<;>simp at h) (by simp) hc (hend L a w ρ He hL hall hi)
  have:=ho.all i hi2
  simp at this;obtain ⟨r,hr,rfl⟩:=this;exact hall r hr
 | succ fuel ih =>
  intro L a w ρ He hL hf hc hs hi
  by_cases hall:∀ r∈rs,Ls L r.i
  ·refine a2F suf (fuel+1) L a w hL ?_ (fun i hi2=>?_) ?_ (fun A i B hAB=>⟨fun j hj=>?_,fun j hj=>ho.suf A i B hAB j (by simp [hj])⟩) (fun i hi2=>ho.lt i (by simp [hi2])) hc (hend L a w ρ He hL hall hi)
   ·refine d9V ?_ hf
    rw [List.filter_append,d9Z];rw [(List.filter_eq_self (l:=suf)).2 fun i hi2=>by have:=hs i hi2;unfold Ls at this;simpa using this];omega
   ·constructor
    ·intro h1 h2;exact hs i h2 h1
    ·intro h1
     have:=ho.all i hi2
     rcases List.mem_append.1 this with h|h
     ·obtain ⟨r,hr,rfl⟩:=List.mem_map.1 h;exact hall r hr
     ·exact d9n h h1
   ·exact (e0z.1 ho.nodup).2.1
   ·have hA:=ho.first (rs.map (·.i)++A) i B (by simp [hAB]) j hj
    refine ⟨ho.lt j (by rw [hAB];rcases List.mem_append.1 hA with h|h<;>simp [h]),fun hB=>?_⟩;have hnd:=ho.nodup;rw [hAB,<- e0J,e0z] at hnd;exact hnd.2.2 j hA j hB rfl
  ·have hnot:∃ r∈rs,¬ Ls L r.i:=by
    apply d9L;intro hn;exact hall fun r hr=>d9L fun h=>hn ⟨r,hr,h⟩
   have hLt:∀ j,j<ops.size->(L.getD j true=true↔Ls L j):=fun j hj=>by
    unfold Ls;rw [d9o,d9o,d9C (by omega)];simp
   have hsome:Region.ready .any ops L≠[]:=by
    obtain ⟨r0,hr0,hn0⟩:=hnot
    have:∀ X:List Rec,∀ Y,rs=X++Y->(∃ r∈Y,¬ Ls L r.i)->(∀ r∈X,Ls L r.i)->∃ A r B,rs=A++r::B/\¬ Ls L r.i/\∀ r∈A,Ls L r.i:=by
     intro X Y
     induction Y generalizing X with
     | nil=>rintro _ ⟨r,hr,_⟩ _;simp at hr
     | cons y Y ihY =>
      intro hXY hex hX
      by_cases hy:Ls L y.i
      ·obtain ⟨r,hr,hrn⟩:=hex
       rcases d9F.1 hr with rfl|hr
       ·exact d9n hy hrn
       ·exact ihY (X++[y]) (by simp [hXY]) ⟨r,hr,hrn⟩ (fun r hr=>by
         rcases List.mem_append.1 hr with h|h
         ·exact hX r h
         ·simp at h;subst h;exact hy)
      ·exact ⟨X,y,Y,hXY,hy,hX⟩
    obtain ⟨A,r,B,h1,h2,h3⟩:=this [] rs rfl ⟨r0,hr0,hn0⟩ (by simp);intro hnil;have hrlt:=ho.lt r.i (by rw [h1];simp)
    have:r.i∈Region.ready .any ops L:=by
     rw [a0P];refine ⟨hrlt,?_,fun j hj=>?_⟩
     ·cases hb:L.getD r.i true with
      | false=>rfl
      | true=>exact d9n ((hLt r.i hrlt).1 hb) h2
     ·have:=ho.first (A.map (·.i)) r.i (B.map (·.i)++suf) (by rw [h1];simp) j hj
      obtain ⟨r',hr',rfl⟩:=List.mem_map.1 this;exact h3 r' hr'
    rw [hnil] at this;simp at this
   refine ⟨fun h0=>d9n h0 hsome,fun i hir=>?_⟩;obtain ⟨hilt,hin,hid⟩:=a0P.1 hir;have hnL:¬ Ls L i:=fun h=>by rw [(hLt i hilt).2 h] at hin;cases hin
   have hpre:i∈rs.map (·.i):=by
    rcases List.mem_append.1 (ho.all i hilt) with h|h
    ·exact h
    ·obtain ⟨A,B,hAB⟩:=e0v h
     obtain ⟨r0,hr0,hn0⟩:=hnot
     have:=a0w hL hc (ho.suf A i B hAB r0.i (e1h _ (List.mem_map.2 ⟨r0,hr0,rfl⟩))) hid
     exact d9n this hn0
   obtain ⟨r,hr,rfl⟩:=List.mem_map.1 hpre;obtain ⟨A,B,hAB⟩:=e0v hr;obtain ⟨hor,hsteady⟩:=hst A r B hAB;have hset:∀ j,Ls (L.setIfInBounds r.i true) j↔j=r.i\/Ls L j:=fun j=>Ls.set (by omega)
   have hndr:(rs.map (·.i)).Nodup:=(e0z.1 ho.nodup).1;have hsub:∀ e∈H,e∈He:=fun e he=>hi.perm.mem_iff.2 (by simp [he])
   have hfr:∀ k,ρ k (n+r.i)=none:=fun k=>by
    apply d9L;intro hk;obtain ⟨r',h1,h2,h3⟩:=hi.fresh k (n+r.i) (by omega) hk
    have:r'.i=r.i:=by omega
    rw [this] at h2;exact hnL h2
   have hne:∀ e∈He,e.g≠n+r.i:=fun e he hg=>by
    rcases List.mem_append.1 (hi.perm.mem_iff.1 he) with h|h
    ·obtain ⟨r',h1,h2⟩:=List.mem_filterMap.1 h
     unfold a3f at h2;split at h2
     ·rename_i hl
      obtain ⟨A',B',hAB'⟩:=e0v h1
      have:=(hst A' r' B' hAB').2.gen e h2
      have:r'.i=r.i:=by omega
      rw [this] at hl;exact hnL hl.1
     ·cases h2
    ·have:=hgen e h;omega
   have hu:∀ j,use r.i=some j->j≠r.i/\¬ Ls L j:=fun j hj=>by
    obtain ⟨q1,-,q2⟩:=ht.late r hr j hj;obtain ⟨rj,hrj,rfl⟩:=List.mem_map.1 q1;have hjl:rj.i<ops.size:=ho.lt rj.i (by simp;exact .inl ⟨rj,hrj,rfl⟩);refine ⟨fun e=>hnL ?_,fun e=>hnL ?_⟩
    ·rw [e] at q2;exact a0w hL hc q2 hid
    ·exact a0w hL hc q2 fun k hk=>hc rj.i ((hLt rj.i hjl).2 e) hjl k hk
   have next:∀ v ρ' w' He',Mem C F ρ' He' w'->Ext ρ (Own F.X ρ He) w ρ' (Own F.X ρ' He') w'->(∀ k g',g'≠n+r.i->ρ' k g'=ρ k g')->Rep ρ' (Own F.X ρ' He') w' r.d v->He'.Perm (rs.filterMap (a3f use (L.setIfInBounds r.i true))++H)->wpAny C.P .any ops Q fuel (L.setIfInBounds r.i true) (a.put r.o.dst v) w':=by
    intro v ρ' w' He' pm px pf pr pp;have hi':=hi;rw [hAB] at hi' hndr pp;have hdst:=ho.dst;rw [hAB] at hdst;have hn':=DT.nextG hi' (by omega) hnL hndr hdst (hd r hr) pm px pf pr pp;rw [<- hAB] at hn';refine ih _ _ _ ρ' He' (by simp [hL]) ?_ ?_ (fun j hj=>?_) hn'
    ·have:((rs.map (·.i)++suf).filter (fun i=>!(L.setIfInBounds r.i true).getD i false)).length<((rs.map (·.i)++suf).filter (fun i=>!L.getD i false)).length:=by
      have sub:(rs.map (·.i)++suf).filter (fun i=>!(L.setIfInBounds r.i true).getD i false)=((rs.map (·.i)++suf).filter (fun i=>!L.getD i false)).filter (fun i=>!Nat.beq i r.i):=by
       rw [List.filter_filter];apply List.filter_congr;intro x hx;have h1:=hset x;unfold Ls at h1
       by_cases hxr:x=r.i
       ·subst hxr
        have:(L.setIfInBounds r.i true).getD r.i false=true:=h1.2 (.inl rfl)
        simp [this]
       ·have hb:Nat.beq x r.i=false:=by
         cases hb:Nat.beq x r.i with
         | false=>rfl
         | true=>exact d9n (d9v hb) hxr
        rw [hb]
        by_cases hlx:L.getD x false=true
        ·rw [h1.2 (.inr hlx),hlx];rfl
        ·have:¬ (L.setIfInBounds r.i true).getD x false=true:=fun h=>hlx ((h1.1 h).resolve_left hxr)
         simp only [Bool.not_eq_true] at this hlx;rw [this,hlx];rfl
      rw [sub];apply List.length_filter_lt_length_iff_exists.2;exact ⟨r.i,by rw [List.mem_filter];exact ⟨by simp;exact .inl ⟨r,hr,rfl⟩,by unfold Ls at hnL;simpa using hnL⟩,by simp⟩
     omega
    ·intro k hk2 hks x hx
     have hk3:Ls (L.setIfInBounds r.i true) k:=by
      unfold Ls;rw [d9o,d9C (by simp;omega)] at hk2 ⊢;simpa using hk2
     show Ls _ x;rw [hset];rcases (hset k).1 hk3 with rfl|hk3
     ·exact .inr (hid x hx)
     ·exact .inr (hc k ((hLt k hks).2 hk3) hks x hx)
    ·rw [hset]
     rintro (rfl|h)
     ·have hnd:=ho.nodup
      rw [e0z] at hnd;exact hnd.2.2 r.i (List.mem_map.2 ⟨r,hr,rfl⟩) r.i hj rfl
     ·exact hs j hj h
   unfold wpOp;simp only [hor];rcases hsteady with ⟨hc0,hsteady⟩|⟨e,e',hc0,hne',hsteady⟩
   ·have pF:=c0w ht hndr hr (by omega) hnL hc0 hu
    have pH:(a4G r.ne He).Perm (rs.filterMap (a3f use (L.setIfInBounds r.i true))++H):=by
     refine List.Perm.trans ?_ (List.Perm.append_right H pF.symm);rw [e0J];cases r.ne with
     | none=>exact hi.perm
     | some e=>exact hi.perm.cons e
    rcases hsteady.2 He ρ a w hi.mem hsub hfr hne (hi.look ho hL hc hAB hir) with ⟨hw,hn0,hrep⟩|⟨hw,hout⟩
    ·rw [d9m (by rw [hw];simp)]
     rw [hn0] at pH;exact next undef ρ w He hi.mem (.refl _ _ _) (fun _ _ _=>rfl) hrep pH
    ·rw [d9l hw]
     refine .inl ?_;unfold Oper.wp;rcases hout with ⟨v,ρ',w',h1,h2⟩|⟨f,vs,h1,h2⟩
     ·rw [h1];exact next v ρ' w' _ h2.mem h2.ext h2.far h2.rep pH
     ·rw [h1]
      refine h2.mono ?_;rintro e w' ⟨v,rfl,ρ',h3⟩;exact next v ρ' w' _ h3.mem h3.ext h3.far h3.rep pH
   ·obtain ⟨r0,hr0,he0,hu0⟩:=ht.made r hr e hc0
    obtain ⟨-,-,hreach⟩:=ht.late r0 hr0 _ hu0;have hL0:Ls L r0.i:=a0w hL hc hreach hid;obtain ⟨X,p1,p2⟩:=c0x ht hndr hr hr0 (by omega) hnL hL0 he0 hu0 hu;have pe:He.Perm (e::(X++H)):=hi.perm.trans (List.Perm.append_right H p1);have hlook:=hi.look ho hL hc hAB hir;have hO:=Own.perm (X:=F.X) (ρ:=ρ) pe;rw [hO] at hlook;obtain ⟨hw,v,ρ',w',h1,h2,h3,h4,h5⟩:=hsteady.2 (X++H) ρ a w (hi.mem.perm pe) (fun x hx=>List.mem_append_right _ hx) hfr (fun x hx=>hne x (pe.mem_iff.2 hx)) hlook;rw [d9l hw];refine .inl ?_;unfold Oper.wp;rw [h1];rw [<- hO] at h3;refine next v ρ' w' _ h2 h3 h4 h5 ?_;rw [hne'] at p2;exact (List.Perm.append_right H p2.symm)
theorem d8v {use:Nat->Option Nat}{con:Nat->Option Ent}{rs:List Rec}{s:St}{Q:Exit->St->Prop}{pre suf:List Nat}{N:Hp}(hc:b2m ops pre suf=true)
  (h1:rs.map (·.i)=pre) (ht:b0f ops rs con use) (h4:∀ A r B,rs=A++r::B->ops[r.i]? = some r.o/\StT C F ops s.H con (s.n+r.i) (a3C A s.env) r) (h3:(rs.filterMap fun r=>if (use r.i).isNone then r.ne else none).Perm N)
  (h:OkL C F ops (suf.map fun j=>ops.getD j default) ⟨a3C rs s.env,N++s.H,s.n+ops.size⟩ (Q .normal)) (hd:ops.toList.all (a2m F.nt)=true) (ρ:Lk) (a:Act) (w:World) (hs:Sat C F ρ s a w) :
  wpAny C.P .any ops (Fin C F (Q .normal)) ops.size (Array.replicate ops.size false) a w.drew:=by
 have hor:∀ r∈rs,ops[r.i]? = some r.o:=fun r hr=>by
  obtain ⟨A,B,hAB⟩:=e0v hr;exact (h4 A r B hAB).1
 have ho:=a8f h1 hor hc;have hds:∀ r∈rs,a2m F.nt r.o=true:=fun r hr=>by
  refine d9W.1 hd r.o ?_
  have:=hor r hr
  exact Array.mem_toList_iff.2 (e1u this)
 have hrep:∀ j,(Array.replicate ops.size false).getD j false=false:=fun j=>by
  rw [d9o];rw [e1r];split<;>rfl
 have hnL:∀ j,¬ Ls (Array.replicate ops.size false) j:=fun j hj=>by unfold Ls at hj;rw [hrep] at hj;cases hj
 have hin:DT C F s.H s.n s.env rs use (Array.replicate ops.size false) a w.drew ρ s.H:=by
  refine ⟨hs.mem.drew,?_,fun r _ hl=>d9n hl (hnL _),fun t _=>(hs.env t).mono (.drew _ _ _),fun k g hg hk=>d9n (hs.fresh k g hg) hk,hs.nt,hs.dfr⟩
  have:rs.filterMap (a3f use (Array.replicate ops.size false))=[]:=by
   rw [e2s];intro r _;exact b1A (hnL _)
  rw [this];exact List.Perm.refl _
 refine b3W ho hs.gen hds ht h4 ?_ ops.size _ a w.drew ρ s.H (by simp) ?_ ?_ (fun j _=>hnL j) hin
 ·intro L a' w' ρ' He hL hall hi
  have hN:He.Perm (N++s.H):=by
   refine hi.perm.trans (List.Perm.append_right _ ?_);have e:rs.filterMap (a3f use L)=rs.filterMap (fun r=>if (use r.i).isNone then r.ne else none):=a3d fun r hr=>by
    have h9:=hall r hr;cases hu:use r.i with
    | none=>exact d9l ⟨h9,fun j hj=>by rw [hu] at hj;cases hj⟩
    | some j =>
     refine d9m fun k=>?_
     have h8:=k.2 j hu;obtain ⟨q1,-,-⟩:=ht.late r hr j hu;obtain ⟨rj,hrj,rfl⟩:=List.mem_map.1 q1;have h7:=hall rj hrj;unfold Ls at h7;rw [h7] at h8;cases h8
   rw [e];exact h3
  refine h ?_ suf ?_ ρ' a' w' ⟨hi.mem.perm hN,?_,?_,fun t=>?_,hi.nt,hi.dfr⟩
  ·rw [d9W]
   intro o' ho';obtain ⟨j,hj,rfl⟩:=List.mem_map.1 ho';have hlt:=ho.lt j (by simp [hj]);refine d9W.1 hd _ ?_;rw [d9o,d9C hlt];simp
  ·rw [List.map_map]
   refine e1M fun j hj=>?_
   have hlt:=ho.lt j (by simp [hj]);simp [d9o,d9C hlt]
  ·intro k g hg
   apply d9L;intro hk;obtain ⟨r,hr,_,he⟩:=hi.fresh k g (by simp at hg;omega) hk
   have:=ho.lt r.i (by simp;exact .inl ⟨r,hr,rfl⟩)
   simp at hg;omega
  ·intro e he
   rcases List.mem_append.1 he with he|he
   ·have he:=h3.mem_iff.2 he
    obtain ⟨r,hr,hre⟩:=List.mem_filterMap.1 he;obtain ⟨A,B,hAB⟩:=e0v hr;split at hre
    ·have:=(h4 A r B hAB).2.gen e hre
     have:=ho.lt r.i (by simp;exact .inl ⟨r,hr,rfl⟩)
     show e.g<s.n+ops.size;omega
    ·cases hre
   ·have:=hs.gen e he
    show e.g<s.n+ops.size;omega
  ·show Rep ρ' (Own F.X ρ' (N++s.H)) w' ((a3C rs s.env).get t) _
   rw [<- Own.perm hN]
   by_cases hw:∃ r∈rs,r.o.dst=some t
   ·obtain ⟨r,hr,hrd⟩:=hw
    rw [a4n rs s.env t ho.dst r hr hrd];exact hi.reps r hr (hall r hr) t hrd
   ·rw [a1v rs s.env t fun r hr hrd=>hw ⟨r,hr,hrd⟩]
    exact hi.old t fun r hr _ hrd=>hw ⟨r,hr,hrd⟩
 ·refine d9V (List.length_filter_le _ _) ?_
  have hsub:∀ (l:List Nat) (n:Nat),l.Nodup->(∀ x∈l,x<n)->l.length<=n:=by
   intro l n
   induction n generalizing l with
   | zero=>intro _ h;cases l with
    | nil=>simp
    | cons x l=>exact d9n (h x (by simp)) (by omega)
   | succ n ihn =>
    intro hnd hlt;have h1:=ihn (l.erase n) (hnd.erase n) fun x hx=>by
     have:=hlt x (List.mem_of_mem_erase hx)
     have:x≠n:=fun h=>by subst h;exact (e2v hnd) hx
     omega
    have:=List.length_erase (a:=n) (l:=l)
    split at this<;>omega
  exact hsub _ _ ho.nodup ho.lt
 ·intro k hk
  have:k<ops.size\/¬ k<ops.size:=by omega
  rcases this with hlt|hlt
  ·rw [d9o,e1r,d9l hlt] at hk;cases hk
  ·intro h;exact d9n h hlt
def c8K (C:Ctx)(F:Fra)(ops:Array Oper)(H:Hp)(con:Nat->Option Ent)(n:Nat):List Rec->Env->Prop
 | [],_=>True
 | r::B,env=>(ops[r.i]? = some r.o/\StT C F ops H con (n+r.i) env r)/\c8K C F ops H con n B (a2f env r.o.dst r.d)
theorem c8K.at {H:Hp}{con:Nat->Option Ent}{n:Nat}:∀ {rs:List Rec} {env:Env},c8K C F ops H con n rs env->∀ A r B,rs=A++r::B->ops[r.i]? = some r.o/\StT C F ops H con (n+r.i) (a3C A env) r
 | [],_,_,A,r,B,he=>by cases A<;>simp at he
 | x::rs,env,h,[],r,B,he=>by
  rw [e0p] at he;cases he;exact h.1
 | x::rs,env,h,y::A,r,B,he=>by
  rw [e0M] at he;cases he;exact c8K.at h.2 A r B rfl
def c2V (ops:Array Oper)(l:List (Nat × D × Option Ent)):List Rec:=l.map fun p=>⟨p.1,ops.getD p.1 default,p.2.1,p.2.2⟩
theorem a8g {l:List Nat}{i j:Nat}(h:a3n j (a2j (b5m ops l []) i)=true):a1Z ops i j:=a2J (a3m _ _ (by simp)) i j (a0T.1 h)
variable {X:EV} {s:St} {rd:Option Nat} {B:Fra} {Q:Exit->Fra->St->Prop}
theorem d8Q {i:Nat}(hX:WOk C X)(kb:Nat)(pre suf:List Nat){use:Nat->Option Nat}{con:Nat->Option Ent}{rs:List Rec}{N:Hp}(hc:(b2m ops pre suf&&a3V ops.toList)=true)(h1:rs.map (·.i)=pre)(ht:b0f ops rs con use)
  (h4:∀ A r B,rs=A++r::B->ops[r.i]? = some r.o/\StT C F ops s.H con (s.n+r.i) (a3C A s.env) r) (h3:(rs.filterMap fun r=>if (use r.i).isNone then r.ne else none).Perm N)
  (h:a2g C X kb ops suf ⟨a3C rs s.env,N++s.H,s.n+a9P ops.toList⟩ True fun acc s=>acc/\Q .normal F s):OkS C B rd F (.region i ops true) s Q:=by
 have hsz:ops.size=a9P ops.toList:=by rw [a7b,e1w]
 rw [<- hsz] at h;simp only [d9B] at hc;have h5:=(a1i (F:=F) (K':=Q .normal F) hX (fun acc s h=>h) h).2;exact ⟨fun hB hd ρ a w hs=>wpIn_region_any hX.mixed (a3k (fun _ _ _ h=>a3K (F:=F) hB (fun _ h=>h) h) (a2z hc.2) _ _ _ _ (d8v (Q:=fun e s=>Q e F s) hc.1 h1 ht h4 h3 h5 (a3Q hB hd) ρ a w hs))⟩
end
def Fra.subZ (ρ:Lk)(H:Hp)(w:World)(nt:Nat)(X' Z:Nat->Prop)(df:List Deferred):Fra:=⟨w,X',fun b=>(∃ e∈H,ρ e.k e.g=some b)\/Z b,nt,ρ,df⟩
section
variable {C:Ctx} {F:Fra} {ρ:Lk} {H:Hp} {w w1:World} {X' Z:Nat->Prop}
theorem Mem.enterZ (m:Mem C F ρ H w)(x:Ext ρ (Own F.X ρ H) w ρ (Own X' ρ H) w1)(h1:w1.os=w.os)(h2:w1.tape=w.tape)(h3:w1.output=w.output)
  (h4:∀ b,b<w.heap.size->¬ Z b->w1.heap[b]? = w.heap[b]?) (hZo:∀ e∈H,∀ b,ρ e.k e.g=some b->¬ Z b) (hX:∀ b,X' b->b<w1.heap.size) (hXo:∀ e∈H,∀ b,ρ e.k e.g=some b->¬ X' b) (hZ:∀ b,Z b->C.nG<=b) (nt:Nat) (df:List Deferred) :
  Mem C (Fra.subZ ρ H w1 nt X' Z df) ρ H w1 where
 hok:=⟨fun e he=>by
  rcases m.hok.ent e he with h|⟨b,cs,a1,a2,a3⟩
  ·exact .inl h
  ·exact .inr ⟨b,cs,a1,by rw [h4 b (m.lt he a1) (hZo e he b a1)];exact a2,a3.mono x⟩,m.hok.inj,fun e he b hb=>⟨hXo e he b hb,.inr (.inl ⟨e,he,hb⟩)⟩⟩
 os:=rfl
 tape:=rfl
 output:=rfl
 size:=d9y _
 blk:=fun _ _ _=>rfl
 xlt:=hX
 g0:=C.hG _ _ m.g ⟨h1,h2,h3,x.size,fun b hb=>h4 b (e0a hb (d9V m.gn m.size)) fun hz=>d9n (hZ b hz) (by omega)⟩
 gn:=d9V m.gn (d9V m.size x.size)
 gw:=fun b h=>by
  rcases h with ⟨e,he,hb⟩|h
  ·rcases (m.hok.own e he b hb).2 with h|h
   ·exact d9V m.gn h
   ·exact m.gw b h
  ·exact hZ b h
 lnk:=fun _ _ _ h=>h
 shp:=fun _ cs _ _ h=>⟨cs,_,h,rfl⟩
theorem Mem.leaveZ {nt:Nat}{df:List Deferred}{ρ':Lk}{H':Hp}{w':World}(m:Mem C F ρ H w1)(hX:∀ b,F.X b->X' b)(hZ:∀ b,Z b->F.w0.heap.size<=b\/F.Wr b)(m':Mem C (Fra.subZ ρ H w1 nt X' Z df) ρ' H' w') :
  Mem C F ρ' H' w'/\Ext ρ (fun b=>Own F.X ρ H b\/Z b) w1 ρ' (Own F.X ρ' H') w':=by
 have hwr:∀ b,(∃ e∈H,ρ e.k e.g=some b)->¬ F.X b/\(F.w0.heap.size<=b\/F.Wr b):=fun b ⟨e,he,hb⟩=>m.hok.own e he b hb
 have x:Ext ρ (fun b=>Own F.X ρ H b\/Z b) w1 ρ' (Own F.X ρ' H') w':=by
  refine ⟨m'.size,m'.lnk,fun b hb hO=>⟨?_,m'.blk b hb fun h=>?_⟩,m'.shp⟩
  ·rintro (h|⟨e,he,h⟩)
   ·exact hO (.inl (.inl h))
   ·rcases (m'.hok.own e he b h).2 with h'|h'|h'
    ·exact d9n hb (Nat.not_lt.2 h')
    ·exact hO (.inl (.inr h'))
    ·exact hO (.inr h')
  ·rcases h with h|h
   ·exact hO (.inl (.inr h))
   ·exact hO (.inr h)
 refine ⟨⟨⟨fun e he=>?_,m'.hok.inj,fun e he b hb=>?_⟩,m'.os.trans m.os,m'.tape.trans m.tape,m'.output.trans m.output,d9V m.size m'.size,fun b hb hw=>?_,m.xlt,m.g0,m.gn,m.gw,
  fun _ _ _ h=>m'.lnk _ _ _ (m.lnk _ _ _ h),a3W m.shp x⟩,x⟩
 ·rcases m'.hok.ent e he with h|⟨b,cs,a1,a2,a3⟩
  ·exact .inl h
  ·exact .inr ⟨b,cs,a1,a2,a3.anti fun b hb=>hb.imp (hX b) id⟩
 ·have h:=m'.hok.own e he b hb
  refine ⟨fun hx=>h.1 (hX b hx),?_⟩;rcases h.2 with h'|h'|h'
  ·exact .inl (d9V m.size h')
  ·exact (hwr b h').2
  ·exact hZ b h'
 ·have h1:=m'.blk b (e0a hb m.size) fun h=>by
   rcases h with h|h
   ·rcases (hwr b h).2 with h'|h'
    ·omega
    ·exact hw h'
   ·rcases hZ b h with h'|h'
    ·omega
    ·exact hw h'
  exact h1.trans (m.blk b hb hw)
theorem Fle.subZ (m:Mem C F ρ H w1)(hX:∀ b,F.X b->X' b)(hZ:∀ b,Z b->F.w0.heap.size<=b\/F.Wr b)(rs:List Nat)(hn:rs.Nodup)
  (hr:∀ r∈rs,F.w0.heap.size<=r/\r<w1.heap.size/\X' r/\(¬ Z r/\∀ e∈H,ρ e.k e.g≠some r)/\w1.heap[r]? = some (.deferred (some []))) :
  Fle C F (Fra.subZ ρ H w1 F.nt X' Z (rs.map (fun r=>{ target:=.collected r,args:=#[] })++F.df)) :=
 ⟨rfl,m.size,fun h=>(m.leaveZ hX hZ h).1,hX,_,rfl,rs,rfl,hn,fun r hr'=>by
  obtain ⟨a1,a2,a3,⟨a4,a5⟩,a6⟩:=hr r hr';refine ⟨a1,a2,a3,fun ρ' H' w' m'=>?_⟩;have hb:=m'.blk r a2 fun h=>by
   rcases h with ⟨e,he,h⟩|h
   ·exact a5 e he h
   ·exact a4 h
  exact hb.trans a6⟩
def b2c (w:World):List Nat->World
 | []=>w
 | r::rs=>b2c (w.putObj r (.deferred none)) rs
theorem a5a:∀ (rs:List Nat) (w:World),(b2c w rs).heap.size=w.heap.size
 | [],_=>rfl
 | r::rs,w=>by rw [b2c,a5a rs];simp [World.putObj]
theorem a3y:∀ (rs:List Nat) (w:World) (b:Nat),b∉rs->(b2c w rs).heap[b]? = w.heap[b]?
 | [],_,_,_=>rfl
 | r::rs,w,b,h=>by
  rw [b2c,a3y rs _ b (fun hb=>h (by simp [hb])),World.putObj_heap_other (fun hb=>h (by simp [hb]))]
theorem b3z:∀ (rs:List Nat) (w:World),(b2c w rs).os=w.os/\(b2c w rs).tape=w.tape/\(b2c w rs).output=w.output
 | [],_=>⟨rfl,rfl,rfl⟩
 | r::rs,w=>by rw [b2c];exact b3z rs _
theorem a7x {P:Program}{fn:Func}{tmps:Array Value}{R:Ending->World->Prop}:∀ (rs:List Nat) (w:World),rs.Nodup->(∀ r∈rs,w.heap[r]? = some (.deferred (some []))) ->
  (∃ v,(results fn tmps).run P (b2c w rs)=.ok v (b2c w rs)/\R (.returned v) (b2c w rs))->LeavesInM (fw none) 0 P fn tmps R (rs.map (fun r=>{ target:=.collected r,args:=#[] })) .returning w
 | [],w,_,_,h=>h
 | r::rs,w,hn,hr,h=>by
  obtain ⟨n1,n2⟩:=List.nodup_cons.1 hn;refine ⟨by simp,.inl ⟨r,_,rfl,run_takeDeferred (hr r (by simp)),a7x rs _ n2 (fun q hq=>?_) h⟩⟩;rw [World.putObj_heap_other (fun hb=>by subst hb;exact n1 hq)];exact hr q (by simp [hq])
theorem Fle.finish {fn:Func}{s:St}{a:Act}{tt:Nat->Option a0n}{d:D}{p:Prop}{F':Fra}(htt:Tab C.P tt)(hF:Fle C F F')(hd0:F.df=[])(hs:Sat C F' ρ s a w)(h:c0T tt s fn.results.toList=some (d,p))(hp:p) :
  ∃ v w',LeavesIn (fw none) 0 C.P fn a.tmps (fun e w2=>e=.returned v/\w2=w') [] .returning w' /\
   (∀ R:Ending->World->Prop,R (.returned v) w'->LeavesInM (fw none) 0 C.P fn a.tmps R a.defers .returning w) /\
   Mem C F ρ s.H w'/\Rep ρ (Own F'.X ρ s.H) w' d v/\(∀ b,F.X b->F'.X b)/\Ext ρ (Own F'.X ρ s.H) w ρ (Own F'.X ρ s.H) w' /\
   (∀ b,b<F.w0.heap.size->w'.heap[b]? = w.heap[b]?)/\w'.heap.size=w.heap.size/\∃ F2,Mem C F2 ρ s.H w'/\F2.X=F'.X:=by
 obtain ⟨ms,e1,rs,e2,hn,hr⟩:=hF.df;rw [hd0,e0D] at e1;have hdf:a.defers=rs.map (fun r=>{ target:=.collected r,args:=#[] }):=by rw [hs.dfr,e1,e2]
 have mF:=hF.mem hs.mem;have hZ:∀ b,b∈rs->F.w0.heap.size<=b\/F.Wr b:=fun b hb=>.inl (hr b hb).1
 have hXr:∀ b,b∈rs->F'.X b:=fun b hb=>(hr b hb).2.2.1
 have hdr:∀ r∈rs,w.heap[r]? = some (.deferred (some [])):=fun r h=>(hr r h).2.2.2 _ _ _ hs.mem
 have hno:∀ e∈s.H,∀ b,ρ e.k e.g=some b->b∉rs:=fun e he b hb hb'=>(hs.mem.hok.own e he b hb).1 (hXr b hb')
 have x:Ext ρ (Own F'.X ρ s.H) w ρ (Own F'.X ρ s.H) (b2c w rs):=by
  refine ⟨by rw [a5a];exact d9y _,fun _ _ _ h=>h,fun b hb hO=>⟨hO,a3y _ _ _ fun h=>hO (.inl (hXr b h))⟩,fun b cs T fz h=>⟨cs,fz,?_,rfl⟩⟩;rw [a3y _ _ _ fun hb=>by rw [hdr b hb] at h;cases h];exact h
 obtain ⟨o1,o2,o3⟩:=b3z rs w;have m2:=hs.mem.enterZ (Z:=fun b=>b∈rs) (X':=F'.X) x o1 o2 o3 (fun b _ hb=>a3y _ _ _ hb) hno (fun b hb=>by rw [a5a];exact e0a (hs.mem.xlt b hb) hs.mem.size)
  (fun e he b hb=>(hs.mem.hok.own e he b hb).1) (fun b hb=>d9V mF.gn (hr b hb).1) F'.nt F'.df
 have hs2:Sat C (Fra.subZ ρ s.H (b2c w rs) F'.nt F'.X (fun b=>b∈rs) F'.df) ρ s a (b2c w rs):=⟨m2,hs.fresh,hs.gen,fun t=>(hs.env t).mono x,hs.nt,hs.dfr⟩
 obtain ⟨v,r1,r2⟩:=b4M htt hs2 h hp;have mF2:Mem C F ρ s.H (b2c w rs):=by
  have mw:Mem C (Fra.subZ ρ s.H w F'.nt F'.X (fun b=>b∈rs) F'.df) ρ s.H w:=hs.mem.enterZ (.refl _ _ _) rfl rfl rfl (fun _ _ _=>rfl) hno (fun b hb=>e0a (hs.mem.xlt b hb) hs.mem.size) (fun e he b hb=>(hs.mem.hok.own e he b hb).1)
   (fun b hb=>d9V mF.gn (hr b hb).1) _ _
  refine (mF.leaveZ hF.X hZ (nt:=F'.nt) (df:=F'.df) (ρ':=ρ) (H':=s.H) (w':=b2c w rs) ⟨⟨fun e he=>?_,mw.hok.inj,mw.hok.own⟩,o1,o2,o3,by rw [a5a];exact d9y _,fun b hb hw=>a3y _ _ _ fun h=>hw (.inr h),mw.xlt,mw.g0,mw.gn,mw.gw,fun _ _ _ h=>h,a3W mw.shp x⟩).1;rcases mw.hok.ent e he with h|⟨b,cs,a1,a2,a3⟩
  ·exact .inl h
  ·exact .inr ⟨b,cs,a1,by rw [a3y _ _ _ (hno e he b a1)];exact a2,a3.mono x⟩
 refine ⟨v,b2c w rs,⟨v,r1,rfl,rfl⟩,fun R hR=>?_,mF2,r2,hF.X,x,fun b hb=>a3y _ _ _ fun h=>?_,a5a _ _,_,m2,rfl⟩
 ·rw [hdf];exact a7x rs w hn hdr ⟨v,r1,hR⟩
 ·have:=(hr b h).1;omega
end
section
variable {C:Ctx} {X:EV}
def a9Z (tt:Nat->Option a0n)(s:St)(rs:List ResultVar)(k:D->Prop):Prop:=match c0T tt s rs with
 | some (d,p)=>p/\k d
 | none=>False
def c1T (tt:Nat->Option a0n)(rs:List ResultVar)(Φ:D->Prop)(e:Exit)(_:Fra)(s:St):Prop:=match e with
 | .normal | .ret=>a9Z tt s rs fun d0=>∃ d,Fz s.H [] d0 d/\a2n d/\Φ d
 | _=>False
def c8O (tt:Nat->Option a0n)(rs:List ResultVar)(Φ:D->Hp->Nat->Prop)(e:Exit)(_:Fra)(s:St):Prop:=match e with
 | .normal | .ret=>a9Z tt s rs fun d=>Φ d s.H s.n
 | _=>False
theorem a8l {tt:Nat->Option a0n}{s:St}{rs:List ResultVar}{k:D->Prop}(h:a9Z tt s rs k):∃ d p,c0T tt s rs=some (d,p)/\p/\k d:=by
 unfold a9Z at h;split at h
 ·rename_i d p he;exact ⟨d,p,he,h.1,h.2⟩
 ·exact h.elim
theorem a0c.walk {f:Nat}{i:FI}{args:List D}{Φ:D->Prop}(hX:WOk C X)(hf:FOk C.P f i)(hnt:Nat.ble args.length i.nt=true)
  (h:∀ F:Fra,OkS C F none F i.code ⟨a1n 0 args,[],0⟩ (c1T X.tt i.res Φ)):a0c C f args Φ:=by
 obtain ⟨fn,hf,hb,hn,hd,hni,hres⟩:=hf;rw [<- hni] at hnt;refine ⟨⟨fn,i.code,hf,hb,hn⟩,fun Y w vs hG hnG hX' hvs hr=>?_⟩;have hnt:=d9A hnt;refine (a3G (rd:=none) (n:=0)).1 (callsIn_of_wp_marks hf hb d9j ?_);have hown:∀ b,Own Y nol [] b↔Y b:=by simp [Own]
 have hoe:Own Y nol []=Y:=funext fun b=>propext (hown b)
 let F0:Fra:=⟨w,Y,fun _=>False,fn.ntmps,nol,[]⟩
 have sat:Sat C F0 nol ⟨a1n 0 args,[],0⟩ { tmps:=vs++Array.replicate (fn.ntmps - vs.size) undef,defers:=[] } w:=by
  refine ⟨⟨⟨by simp,.nil,by simp⟩,rfl,rfl,rfl,d9y _,fun _ _ _=>rfl,hX',hG,hnG,by simp [F0],fun _ _ _ h=>h,fun _ cs _ _ h=>⟨cs,_,h,rfl⟩⟩,fun _ _ _=>rfl,by simp,fun t=>?_,by simp [F0];omega,rfl⟩;show Rep nol (Own Y nol []) w _ _;rw [hoe];exact a8r hvs hr t
 refine wpIn_mono ((h F0).out (.refl F0) hd nol _ w sat) ?_;rintro e a' w' ⟨F',s',ρ',hF,hq,hs'⟩;have key:a9Z X.tt s' i.res (fun d0=>∃ d,Fz s'.H [] d0 d/\a2n d/\Φ d)->LeavesInM (fw none) 0 C.P fn a'.tmps (fun e w'=>∃ v d,e=.returned v/\Below w.heap.size w w'/\Φ d/\Rep nol Y w' d v) a'.defers .returning w':=fun hq=>by
  obtain ⟨d0,p,h1,h2,d,h3,h4,h5⟩:=a8l hq;rw [<- hres] at h1;obtain ⟨v,w2,_,hl,mF,r2,hXX,x,hbl,hsz,F2,m2,hX2⟩:=hF.finish hX.tt rfl hs' h1 h2;refine hl _ ⟨v,d,rfl,⟨mF.os,mF.tape,mF.output,mF.size,fun b hb=>mF.blk b hb (by simp [F0])⟩,h5,?_⟩;have hH:FzH s'.H [] s'.H []:=by
   generalize s'.H=H0
   have:∀ H1:Hp,FzH H0 [] H1 []:=fun H1=>by
    induction H1 with
    | nil=>exact .nil
    | cons e r ih=>exact .drop ih
   exact this H0
  obtain ⟨m,hO,hN⟩:=hH.mem m2;have r3:=h3.rep m2 hO hN (by rw [hX2];exact r2);have r4:=h4 _ nol _ _ _ r3;exact r4.anti fun b hb=>.inl (by rw [hX2];exact hXX b hb)
 cases e with
 | normal=>exact key hq
 | ret=>exact key hq
 | _=>exact hq.elim
theorem a0z.walk {f:Nat}{i:FI}{args:List D}{H:Hp}{n:Nat}{Φ:D->Hp->Nat->Prop}(hX:WOk C X)(hf:FOk C.P f i)(hnt:Nat.ble args.length i.nt=true)
  (h:∀ F:Fra,OkS C F none F i.code ⟨a1n 0 args,H,n⟩ (c8O X.tt i.res Φ)):a0z C f args H n Φ:=by
 obtain ⟨fn,hf,hb,hn,hd,hni,hres⟩:=hf;rw [<- hni] at hnt;refine ⟨⟨fn,i.code,hf,hb,hn⟩,fun F ρ w vs m hfr hg hvs hr=>?_⟩;have hnt:=d9A hnt;refine (a3G (rd:=none) (n:=0)).1 (callsIn_of_wp_marks hf hb d9j ?_);have sat:Sat C (F.sub ρ H w fn.ntmps) ρ ⟨a1n 0 args,H,n⟩ { tmps:=vs++Array.replicate (fn.ntmps - vs.size) undef,defers:=[] } w :=
  ⟨m.enter _,hfr,hg,a8r hvs hr,by simp [Fra.sub];omega,rfl⟩
 refine wpIn_mono ((h (F.sub ρ H w fn.ntmps)).out (.refl _) hd ρ _ w sat) ?_;rintro e a' w' ⟨F',s',ρ',hF,hq,hs'⟩;have key:a9Z X.tt s' i.res (fun d=>Φ d s'.H s'.n)->LeavesInM (fw none) 0 C.P fn a'.tmps (fun e w'=>∃ v d H' n' ρ',e=.returned v/\Φ d H' n'/\Mem C F ρ' H' w'/\Ext ρ (Own F.X ρ H) w ρ' (Own F.X ρ' H') w'/\a9S ρ' n'/\(∀ e∈H',e.g<n') /\
   Rep ρ' (Own F.X ρ' H') w' d v) a'.defers .returning w':=fun hq=>by
  obtain ⟨d,p,h1,h2,h3⟩:=a8l hq;rw [<- hres] at h1;obtain ⟨v,w2,_,hl,mF,r2,hXX,x,hbl,hsz,F2,m2,hX2⟩:=hF.finish hX.tt rfl hs' h1 h2;obtain ⟨m',x'⟩:=m.leave mF;exact hl _ ⟨v,d,_,_,ρ',rfl,h3,m',x',hs'.fresh,hs'.gen,r2.anti fun b hb=>hb.imp (hXX b) id⟩
 cases e with
 | normal=>exact key hq
 | ret=>exact key hq
 | _=>exact hq.elim
variable {B F:Fra} {s:St} {rd:Option Nat} {Q:Exit->Fra->St->Prop}
theorem d8V {a b:Code}(s':St)(h1:OkS C B rd F a s (fun e F1 s1=>a9X (F1=F/\Wk s1 s') (fun e=>Q e F1 s1) e))(h2:OkS C B rd F b s' Q):OkS C B rd F (.seq a b) s Q :=
 OkS.seq (h1.mono fun e F1 s1 h=>by
  cases e with
  | normal =>
   obtain ⟨h0,h3⟩:=(show F1=F/\Wk s1 s' from h)
   rw [h0];exact OkS.weak s' h3 h2
  | ret=>exact h
  | exit j=>exact h
  | goto l=>exact h
  | panic c=>exact h
  | outgrown=>exact h)
theorem d5f {H Hf:Hp}{d d':D}(h:d=d'):Fz H Hf d d':=h ▸ .refl d
end
structure LR where
 fn:Nat
 tmps:Array Value
 ps:Array Nat
 as:Code
 bd:Code
 dfs:Nat
def LR.lp (R:LR)(st:LoopState)(j:Option Code):Loop:={ state:=st,pending:=j,fn:=R.fn,tmps:=R.tmps,params:=R.ps,assign:=R.as,body:=R.bd,defers:=R.dfs }
def LR.obj (R:LR)(j:Option Code):Obj:=.loop (R.lp (if j.isNone then .ready else .done) j)
def Fra.wr (F:Fra)(l:Nat):Fra:=⟨F.w0,F.X,fun b=>F.Wr b\/b=l,F.nt,F.r0,F.df⟩
section
variable {C:Ctx} {F B:Fra} {ρ:Lk} {H:Hp} {w:World} {l:Nat} {R:LR}
theorem Mem.wr (m:Mem C F ρ H w)(hl:C.nG<=l):Mem C (F.wr l) ρ H w :=
 ⟨⟨m.hok.ent,m.hok.inj,fun e he b hb=>⟨(m.hok.own e he b hb).1,(m.hok.own e he b hb).2.imp id .inl⟩⟩,m.os,m.tape,m.output,m.size,fun b hb h=>m.blk b hb fun h'=>h (.inl h'),m.xlt,m.g0,m.gn,fun b h=>by
  rcases h with h|rfl
  ·exact m.gw b h
  ·exact hl,m.lnk,m.shp⟩
theorem Mem.unwr (m:Mem C (F.wr l) ρ H w)(hX:F.X l)(hb:w.heap[l]? = F.w0.heap[l]?):Mem C F ρ H w :=
 ⟨⟨m.hok.ent,m.hok.inj,fun e he b hb=>⟨(m.hok.own e he b hb).1,by
  rcases (m.hok.own e he b hb).2 with h|h|h
  ·exact .inl h
  ·exact .inr h
  ·exact d9n (h ▸ hX) (m.hok.own e he b hb).1⟩⟩,m.os,m.tape,m.output,m.size,fun b hb' h=>by
   by_cases hl:b=l
   ·subst hl;exact hb
   ·exact m.blk b hb' fun h'=>h'.elim h hl,m.xlt,m.g0,m.gn,fun b h=>m.gw b (.inl h),m.lnk,m.shp⟩
theorem a3x (w:World)(l:Nat)(o:Obj):(w.putObj l o).os=w.os/\(w.putObj l o).tape=w.tape/\(w.putObj l o).output=w.output/\(w.putObj l o).heap.size=w.heap.size:=⟨rfl,rfl,rfl,by simp [World.putObj]⟩
theorem Ext.putL {O:Nat->Prop}(hO:O l){r:Loop}(h:w.heap[l]? = some (.loop r))(o:Obj):Ext ρ O w ρ O (w.putObj l o) :=
 ⟨by rw [(a3x w l o).2.2.2];exact d9y _,fun _ _ _ h=>h,fun b hb hb'=>⟨hb',World.putObj_heap_other fun hbl=>hb' (by rw [hbl];exact hO)⟩,fun b cs T fz hc=>⟨cs,_,by
  rw [World.putObj_heap_other fun hbl=>by rw [hbl,h] at hc;cases hc];exact hc,rfl⟩⟩
theorem Mem.putL (m:Mem C F ρ H w)(hX:F.X l)(hW:F.Wr l){r:Loop}(h:w.heap[l]? = some (.loop r))(o:Obj):Mem C F ρ H (w.putObj l o):=by
 have x:=Ext.putL (ρ:=ρ) (O:=Own F.X ρ H) (.inl hX) h o;exact ⟨⟨fun e he=>by
  rcases m.hok.ent e he with h|⟨b,cs,a1,a2,a3⟩
  ·exact .inl h
  ·exact .inr ⟨b,cs,a1,by rw [World.putObj_heap_other fun hb=>(m.hok.own e he b a1).1 (by rw [hb];exact hX)];exact a2,a3.mono x⟩,m.hok.inj,m.hok.own⟩,
  m.os,m.tape,m.output,by rw [(a3x w l o).2.2.2];exact m.size,fun b hb hw=>by rw [World.putObj_heap_other fun hbl=>hw (by rw [hbl];exact hW)];exact m.blk b hb hw,m.xlt,m.g0,m.gn,m.gw,m.lnk,a3W m.shp x⟩
def b5c (C:Ctx)(F:Fra)(l:Nat)(R:LR)(ρ:Lk)(H:Hp)(w:World)(Φ:Option Code->D->Hp->Nat->Prop):Ending->World->Prop:=fun e w' =>
 ∃ v j d H' n' ρ',e=.returned v/\Φ j d H' n'/\w'.heap[l]? = some (R.obj j)/\Mem C (F.wr l) ρ' H' w'/\Ext ρ (Own F.X ρ H) w ρ' (Own F.X ρ' H') w'/\a9S ρ' n'/\(∀ e∈H',e.g<n')/\Rep ρ' (Own F.X ρ' H') w' d v
abbrev a3a:=Lk->(Nat->Prop)->World->Prop
def a3a.ok (E:a3a):Prop:=∀ ρ O w ρ' O' w',E ρ O w->Ext ρ O w ρ' O' w'->E ρ' O' w'
def a6f (C:Ctx)(E:a3a)(f:Nat)(args:List D)(l:Nat)(R:LR)(H:Hp)(n:Nat)(Φ:Option Code->D->Hp->Nat->Prop):Prop :=
 a3E C.P f/\∀ (F:Fra) (ρ:Lk) (w:World) (vs:Array Value),Mem C F ρ H w->F.X l->C.nG<=l->E ρ (Own F.X ρ H) w->w.heap[l]? = some (R.obj none)->a9S ρ n->(∀ e∈H,e.g<n)->vs.size=args.length ->
  (∀ (i:Nat) (d:D),args[i]? = some d->Rep ρ (Own F.X ρ H) w d (vs.getD i undef))->Calls C.P f vs w (b5c C F l R ρ H w Φ)
def b0b (C:Ctx)(E:a3a)(l:Nat)(R:LR)(ds:List D)(H:Hp)(n:Nat)(Φ:Option Code->Hp->Nat->Prop):Prop :=
 ∀ (F:Fra) (ρ:Lk) (w:World) (vs:Array Value),Mem C F ρ H w->F.X l->C.nG<=l->E ρ (Own F.X ρ H) w->w.heap[l]? = some (R.obj none)->a9S ρ n->(∀ e∈H,e.g<n)->vs.size=ds.length ->
  (∀ (i:Nat) (d:D),ds[i]? = some d->Rep ρ (Own F.X ρ H) w d (vs.getD i undef))->vs.size=R.ps.size /\
  RoundIn (fw none) 0 C.P l R.fn ((R.ps.zip vs).foldl (fun tmps (t,a)=>tmps.setIfInBounds t a) R.tmps) R.as R.bd w (b5c C F l R ρ H w fun j d H' n'=>d=boo j.isNone/\Φ j H' n')
structure a7L (C:Ctx)(E:a3a)(B F:Fra)(l:Nat)(R:LR):Prop where
 X:F.X l
 nw:¬ F.Wr l
 at0:F.w0.heap[l]? = some (R.obj none)
 up:∀ {ρ:Lk} {H:Hp} {w:World},Mem C (F.wr l) ρ H w->Mem C B ρ H w
 ng:C.nG<=l
 df:F.df=B.df
 ext:∀ {ρ:Lk} {H:Hp} {w:World},Mem C F ρ H w->E ρ (Own F.X ρ H) w
def c8Q (C:Ctx)(l:Nat)(R:LR)(j:Option Code)(F:Fra):Prop:=∀ {ρ:Lk} {H:Hp} {w:World},Mem C F ρ H w->w.heap[l]? = some (R.obj j)
theorem a7L.stat {E:a3a}(h:a7L C E B F l R):c8Q C l R none F:=fun m=>(m.blk l (m.xlt l h.X) h.nw).trans h.at0
theorem Sat.reframe {F':Fra}{s:St}{a:Act}(h:Sat C F ρ s a w)(m:Mem C F' ρ s.H w)(hX:F'.X=F.X)(hn:F'.nt=F.nt)(hd:F'.df=F.df):Sat C F' ρ s a w :=
 ⟨m,h.fresh,h.gen,fun t=>by rw [hX];exact h.env t,h.nt.trans hn.symm,h.dfr.trans hd.symm⟩
theorem c1L {s:St}{o:Oper}{fop:Operand}{args:Array Operand}{tys:Array Nat}{a:Act}(ho:o.op=.call ⟨.value fop,args,tys⟩)(hf:a1m s.env fop=.clo (.yield l) [] [])(hs:Sat C F ρ s a w) :
  ∃ vs,(execOp a.eval o).run C.P w=(Instr.yield l vs).run C.P w/\vs.size=(args.toList.map (a1m s.env)).length /\
   ∀ (i:Nat) (d:D),(args.toList.map (a1m s.env))[i]? = some d->Rep ρ (Own F.X ρ s.H) w d (vs.getD i undef):=by
 have hfr:=a0Z hs.env fop;rw [hf] at hfr;generalize hv:a.eval fop=v at hfr;cases hfr with
 | clo hn hc h1 h2 =>
  rename_i fs cs;have hfs:fs = #[]:=Array.eq_empty_of_size_eq_zero (by simpa using hn);subst hfs;refine ⟨args.map a.eval,?_,by simp,fun i d hd=>?_⟩
  ·unfold execOp
   simp only [ho];rw [run_bind]
   have:(resolve a.eval ⟨.value fop,args,tys⟩ o.type).run C.P w=.ok { target:=.fn (.yield l) cs,args:=#[]++args.map a.eval } w:=by
    unfold resolve;simp only [hv];rfl
   rw [this];dsimp only;unfold invoke;simp
  ·simp only [d9E,e1t,Option.map_eq_some_iff] at hd
   obtain ⟨x,hx,rfl⟩:=hd
   have:(args.map a.eval).getD i undef=a.eval x:=by simp [d9o,hx]
   rw [this];exact a0Z hs.env x
variable {X:EV} {ops:Array Oper} {s:St} {E:a3a} {Q:Exit->Fra->St->Prop}
def a9O (C:Ctx)(X:EV)(E:a3a)(F:Fra)(l:Nat)(R:LR)(kb:Nat)(ops:Array Oper)(iy:Nat)(l2:List Nat)(Q:Exit->Fra->St->Prop)(s:St):Prop:=match a9Q ops.toList iy with
 | some o=>match o.guard with
  | none=>match o.op with
   | .call ⟨.value fop,args,_⟩=>a1m s.env fop=.clo (.yield l) [] []/\∃ Φ,b0b C E l R (args.toList.map (a1m s.env)) s.H s.n Φ /\
     (∀ H' n',Φ none H' n'->a2g C X kb ops l2 ⟨a2f s.env o.dst (boo true),H',n'⟩ True fun acc s=>acc/\Q .normal F s) /\
     (∀ c H' n',Φ (some c) H' n'->∀ F2:Fra,c8Q C l R (some c) F2->a2g C X kb ops l2 ⟨a2f s.env o.dst (boo false),H',n'⟩ True fun acc s=>acc/\Q .normal F2 s)
   | _=>False
  | some _=>False
 | none=>False
theorem b1d (hX:WOk C X){kb iy:Nat}{l2:List Nat}{a:Act}(hR:a7L C E B F l R)(hB:Fle C B F)(hnd:a3V ops.toList=true)(hlt:∀ j∈l2,j<ops.size)(hd:ops.toList.all (a2m B.nt)=true)
  (h:a9O C X E F l R kb ops iy l2 Q s) (hs:Sat C F ρ s a w):wpOpsIn (fw none) 0 C.P ops (a5z C B Q) (iy::l2) a w:=by
 unfold a9O at h;split at h<;>first|exact h.elim|skip
 rename_i o ho;split at h<;>first|exact h.elim|skip
 rename_i hgd;split at h<;>first|exact h.elim|skip
 rename_i fop args tys hop;obtain ⟨hf,Φ,hY,h1,h2⟩:=h;have ho:=a5q ho;have hdo:a2m B.nt o=true:=d9W.1 hd o (Array.mem_toList_iff.2 (e1u ho));simp only [wpOpsIn,ho];rw [d9l (by unfold Region.wanted;rw [hgd])];obtain ⟨vs,r1,r2,r3⟩:=c1L hop hf hs;have hst:=hR.stat hs.mem;obtain ⟨q1,q2⟩:=hY F ρ w vs hs.mem hR.X hR.ng (hR.ext hs.mem) hst hs.fresh hs.gen r2 r3;have hrun:(execOp a.eval o).run C.P w=.ok (.round l R.fn ((R.ps.zip vs).foldl (fun tmps (t,a)=>tmps.setIfInBounds t a) R.tmps) R.as R.bd) w:=by
  rw [r1,run_yield (r:=R.lp .ready none) hst q1];rfl
 refine b7K hrun (q2.mono ?_);rintro e w' ⟨v,j,d,H',n',ρ',rfl,⟨rfl,hΦ⟩,hl,m',x,fr,gn,rep⟩;refine ⟨v,rfl,?_⟩;have hsw:Sat C (F.wr l) ρ s a w:=hs.reframe (hs.mem.wr hR.ng) rfl rfl rfl;have hs1:Sat C (F.wr l) ρ' ⟨a2f s.env o.dst (boo j.isNone),H',n'⟩ (a.put o.dst v) w':=hsw.put m' x fr gn rep (by rw [show (F.wr l).nt=B.nt from hB.nt];exact hdo);cases j with
 | none =>
  have hs2:Sat C F ρ' ⟨a2f s.env o.dst (boo true),H',n'⟩ (a.put o.dst v) w':=hs1.reframe (m'.unwr hR.X (by rw [hl,hR.at0])) rfl rfl rfl;have h3:=(a1i (F:=F) (K':=Q .normal F) hX (fun acc s h=>h) (h1 _ _ hΦ)).2.run hlt (by rw [hB.nt];exact hd) hs2
  have:=a1A (rd:=none) (Q:=a5z C B Q) (l2:=[]) (fun _ _ _ h=>a3K hB (fun _ h=>h) h) (a2z hnd) _ _ _ h3
  rwa [e0D] at this
 | some c =>
  let F2:=Fra.subZ ρ' H' w' F.nt F.X (fun _=>False) F.df
  have m2:Mem C F2 ρ' H' w':=m'.enterZ (.refl _ _ _) rfl rfl rfl (fun _ _ _=>rfl) (fun _ _ _ _ h=>h) (fun b hb=>e0a (m'.xlt b hb) m'.size) (fun e he b hb=>(m'.hok.own e he b hb).1) (fun _ h=>h.elim) _ _;have hlw:l<w'.heap.size:=(Array.getElem?_eq_some_iff.1 hl).1;have hst2:c8Q C l R (some c) F2:=fun {ρ'' H'' w''} m3=>by
   have:=m3.blk l hlw (by
    rintro (⟨e,he,h⟩|h)
    ·exact (m'.hok.own e he l h).1 hR.X
    ·exact h)
   exact this.trans hl
  have hB2:Fle C B F2:=⟨hB.nt,d9V hB.sz (d9V hs.mem.size x.size),fun m3=>hR.up (m'.leaveZ (fun _ h=>h) (fun _ h=>h.elim) m3).1,hB.X,[],hR.df,[],rfl,.nil,by simp⟩
  have hs2:Sat C F2 ρ' ⟨a2f s.env o.dst (boo false),H',n'⟩ (a.put o.dst v) w':=hs1.reframe m2 rfl rfl rfl;have h3:=(a1i (F:=F2) (K':=Q .normal F2) hX (fun acc s h=>h) (h2 _ _ _ hΦ F2 hst2)).2.run hlt (by rw [hB2.nt];exact hd) hs2
  have:=a1A (rd:=none) (Q:=a5z C B Q) (l2:=[]) (fun _ _ _ h=>a3K hB2 (fun _ h=>h) h) (a2z hnd) _ _ _ h3
  rwa [e0D] at this
theorem d8T {i:Nat}(hX:WOk C X)(kb:Nat)(l1:List Nat)(iy:Nat)(l2:List Nat)(hl:List.range ops.size=l1++iy::l2)(hnd:a3V ops.toList=true)(hR:a7L C E B F l R)
  (h:a2g C X kb ops l1 s True fun acc s1=>acc/\a9O C X E F l R kb ops iy l2 Q s1):OkS C B none F (.region i ops false) s Q:=by
 refine ⟨fun hB hd ρ a w hs=>wpIn_region ?_⟩;rw [hl];have hlt:∀ j∈l1++iy::l2,j<ops.size:=fun j hj=>by rw [<- hl] at hj;exact List.mem_range.1 hj
 have h1:=(a1i (F:=F) (K':=a9O C X E F l R kb ops iy l2 Q) hX (fun acc s h=>h) h).2.run (fun j hj=>hlt j (by simp [hj])) (a3Q hB hd) hs;refine a1A (rd:=none) (Q:=a5z C B Q) (l2:=iy::l2) (fun e a w h=>?_) (a2z hnd) _ a w h1;obtain ⟨h0,s1,ρ1,k1,k2⟩:=h;exact ⟨h0,b1d hX hR hB hnd (fun j hj=>hlt j (by simp [hj])) hd k1 k2⟩
theorem d8M {i:Nat}(hX:WOk C X)(kb:Nat)(pre l1:List Nat)(iy:Nat)(l2:List Nat)(hc:(b2m ops pre (l1++iy::l2)&&a3V ops.toList)=true)(hR:a7L C E B F l R)
  (h:a3Y C X kb ops s.H s.n pre s.env [] True fun acc env N=>a2g C X kb ops l1 ⟨env,N++s.H,s.n+a9P ops.toList⟩ acc fun acc s1=>acc/\a9O C X E F l R kb ops iy l2 Q s1):OkS C B none F (.region i ops true) s Q:=by
 have hsz:ops.size=a9P ops.toList:=by rw [a7b,e1w]
 rw [<- hsz] at h;simp only [d9B] at hc;obtain ⟨_,acc,env,N,h1,h2⟩:=a5f (F:=F) hX (fun acc env N h=>(a1i (F:=F) (K':=a9O C X E F l R kb ops iy l2 Q) hX (fun acc s h=>h) h).1) h;refine ⟨fun hB hd ρ a w hs=>c9n hX.mixed hc.1 h1 (fun hlt ρ a w hs=>?_) (a3Q hB hd) ρ a w hs⟩;have h3:=(a1i (F:=F) (K':=a9O C X E F l R kb ops iy l2 Q) hX (fun acc s h=>h) h2).2.run (fun j hj=>hlt j (by simp [hj])) (a3Q hB hd) hs;refine a1A (rd:=none) (Q:=a5z C B Q) (l2:=iy::l2) (fun e a w h=>?_) (a2z hc.2) _ a w h3;obtain ⟨h0,s1,ρ1,k1,k2⟩:=h;exact ⟨h0,b1d hX hR hB hc.2 (fun j hj=>hlt j (by simp [hj])) hd k1 k2⟩
end
section
variable {C:Ctx} {X:EV} {E:a3a} {l:Nat} {R:LR}
theorem b6z {F F':Fra}{ρ:Lk}{H:Hp}{w:World}(m:Mem C F ρ H w)(h0:F'.w0=F.w0)(hX:F'.X=F.X)(hr:F'.r0=F.r0)(hW:∀ b,F.Wr b->F'.Wr b)(hg:∀ b,F'.Wr b->C.nG<=b):Mem C F' ρ H w:=by
 obtain ⟨a1,a2,a3,a4,a5,a6,a7,a8,a9,a10,a11,a12⟩:=m;refine ⟨⟨?_,a1.inj,?_⟩,?_,?_,?_,?_,?_,?_,?_,?_,hg,?_,?_⟩
 ·rw [hX];exact a1.ent
 ·intro e he b hb
  rw [hX,h0];exact ⟨(a1.own e he b hb).1,(a1.own e he b hb).2.imp id (hW b)⟩
 ·rw [h0];exact a2
 ·rw [h0];exact a3
 ·rw [h0];exact a4
 ·rw [h0];exact a5
 ·rw [h0];exact fun b hb h=>a6 b hb fun h'=>h (hW b h')
 ·rw [h0,hX];exact a7
 ·rw [h0];exact a8
 ·rw [h0];exact a9
 ·rw [hr];exact a11
 ·rw [h0];exact a12
def c8P (C:Ctx)(l:Nat)(R:LR)(tt:Nat->Option a0n)(rs:List ResultVar)(Φ:Option Code->D->Hp->Nat->Prop)(e:Exit)(F:Fra)(s:St):Prop:=match e with
 | .normal | .ret=>∃ j,c8Q C l R j F/\a9Z tt s rs fun d=>Φ j d s.H s.n
 | _=>False
theorem a6f.walk {f:Nat}{i:FI}{args:List D}{H:Hp}{n:Nat}{Φ:Option Code->D->Hp->Nat->Prop}(hX:WOk C X)(hE:a3a.ok E)(hf:FOk C.P f i)(hnt:Nat.ble args.length i.nt=true)
  (h:∀ B F:Fra,a7L C E B F l R->OkS C B none F i.code ⟨a1n 0 args,H,n⟩ (c8P C l R X.tt i.res Φ)):a6f C E f args l R H n Φ:=by
 obtain ⟨fn,hf,hb,hn,hd,hni,hres⟩:=hf;rw [<- hni] at hnt;refine ⟨⟨fn,i.code,hf,hb,hn⟩,fun F ρ w vs m hFl hng hEw hlw hfr hg hvs hr=>?_⟩;have hnt:=d9A hnt;refine (a3G (rd:=none) (n:=0)).1 (callsIn_of_wp_marks hf hb d9j ?_);have hltl:l<w.heap.size:=(Array.getElem?_eq_some_iff.1 hlw).1;have hol:∀ e∈H,∀ b,ρ e.k e.g=some b->b≠l:=fun e he b hb hbl=>(m.hok.own e he b hb).1 (by rw [hbl];exact hFl)
 have ent:∀ Z:Nat->Prop,(∀ b,Z b->b=l)->Mem C (Fra.subZ ρ H w fn.ntmps F.X Z []) ρ H w:=fun Z hZ=>m.enterZ (.refl _ _ _) rfl rfl rfl (fun _ _ _=>rfl) (fun e he b hb hz=>hol e he b hb (hZ b hz)) (fun b hb=>e0a (m.xlt b hb) m.size)
  (fun e he b hb=>(m.hok.own e he b hb).1) (fun b hz=>by rw [hZ b hz];exact hng) _ _
 let B:=Fra.subZ ρ H w fn.ntmps F.X (fun b=>b=l) []
 let F0:=Fra.subZ ρ H w fn.ntmps F.X (fun _=>False) []
 have mB:Mem C B ρ H w:=ent _ fun _ h=>h
 have mF:Mem C F0 ρ H w:=ent _ fun _ h=>h.elim
 have hBg:∀ b,B.Wr b->C.nG<=b:=mB.gw;have upB:∀ {ρ':Lk} {H':Hp} {w':World},Mem C (F0.wr l) ρ' H' w'->Mem C B ρ' H' w':=fun m'=>b6z m' rfl rfl rfl (fun b hb=>by
  rcases hb with (hb|hb)|hb
  ·exact .inl hb
  ·exact hb.elim
  ·exact .inr hb) hBg
 have upF:∀ {ρ':Lk} {H':Hp} {w':World},Mem C F0 ρ' H' w'->Mem C B ρ' H' w':=fun m'=>upB (m'.wr hng)
 have hB:Fle C B F0:=⟨rfl,d9y _,upF,fun _ h=>h,[],rfl,[],rfl,.nil,by simp⟩
 have mw:=m.wr hng;have lv:∀ {ρ':Lk} {H':Hp} {w':World},Mem C B ρ' H' w'->Mem C (F.wr l) ρ' H' w'/\Ext ρ (Own F.X ρ H) w ρ' (Own F.X ρ' H') w':=fun {ρ' H' w'} m'=>by
  obtain ⟨q1,q2⟩:=mw.leaveZ (X':=F.X) (Z:=fun b=>b=l) (fun _ h=>h) (fun b hb=>.inr (.inr hb)) m';refine ⟨q1,?_⟩
  have:(fun b=>Own F.X ρ H b\/b=l)=Own F.X ρ H:=funext fun b=>propext ⟨fun h=>h.elim id fun h=>.inl (by rw [h];exact hFl),.inl⟩
  have q2:Ext ρ (fun b=>Own F.X ρ H b\/b=l) w ρ' (Own F.X ρ' H') w':=q2
  rwa [this] at q2
 have hR:a7L C E B F0 l R:=⟨hFl,fun h=>by
  rcases h with ⟨e,he,h⟩|h
  ·exact hol e he l h rfl
  ·exact h.elim,hlw,upB,hng,rfl,fun {ρ' H' w'} m'=>hE _ _ _ _ _ _ hEw (lv (upF m')).2⟩
 have sat:Sat C F0 ρ ⟨a1n 0 args,H,n⟩ { tmps:=vs++Array.replicate (fn.ntmps - vs.size) undef,defers:=[] } w :=
  ⟨mF,hfr,hg,a8r hvs hr,by simp [F0,Fra.subZ];omega,rfl⟩
 refine wpIn_mono ((h B F0 hR).out hB hd ρ _ w sat) ?_;rintro e a' w' ⟨F',s',ρ',hF,hq,hs'⟩;have key:(∃ j,c8Q C l R j F'/\a9Z X.tt s' i.res fun d=>Φ j d s'.H s'.n)->LeavesInM (fw none) 0 C.P fn a'.tmps (b5c C F l R ρ H w Φ) a'.defers .returning w':=fun ⟨j,hst,hq⟩=>by
  obtain ⟨d,p,h1,h2,h3⟩:=a8l hq;rw [<- hres] at h1;obtain ⟨v,w2,_,hl,mB2,r2,hXX,x,hbl,hsz,F2,m2,hX2⟩:=hF.finish hX.tt rfl hs' h1 h2;obtain ⟨m',x'⟩:=lv mB2;exact hl _ ⟨v,j,d,_,_,ρ',rfl,h3,(hbl l hltl).trans (hst hs'.mem),m',x',hs'.fresh,hs'.gen,r2.anti fun b hb=>hb.imp (hXX b) id⟩
 cases e with
 | normal=>exact key hq
 | ret=>exact key hq
 | _=>exact hq.elim
def a9Y:List Nat->List D->Env->Env
 | t::ts,d::ds,env=>a9Y ts ds ((t,d)::env)
 | _,_,env=>env
theorem b3p:∀ (ps:List Nat) (ds:List D) (env:Env) (tm:Array Value) (vs:List Value) {ρ:Lk} {O:Nat->Prop} {w:World},vs.length=ds.length->(∀ t∈ps,t<tm.size) ->
  (∀ t,Rep ρ O w (env.get t) (tm.getD t undef))->(∀ (i:Nat) (d:D),ds[i]? = some d->Rep ρ O w d (vs.getD i undef)) ->
  ∀ t,Rep ρ O w ((a9Y ps ds env).get t) (((ps.zip vs).foldl (fun tmps (x:Nat × Value)=>tmps.setIfInBounds x.1 x.2) tm).getD t undef)
 | [],_,_,_,_,_,_,_,_,_,h,_=>by simpa [a9Y] using h
 | p::ps,[],env,tm,vs,_,_,_,hl,_,h,_=>by
  have:vs=[]:=e0d (by simpa using hl)
  subst this;simpa [a9Y] using h
 | p::ps,d::ds,env,tm,[],_,_,_,hl,_,_,_=>by simp at hl
 | p::ps,d::ds,env,tm,v::vs,ρ,O,w,hl,hp,h,hr=>by
  intro t;simp only [a9Y,List.zip_cons_cons,List.foldl_cons];refine b3p ps ds _ _ vs (by simpa using hl) (fun t ht=>by simp;exact hp t (by simp [ht])) (fun t=>?_) (fun i d hd=>?_) t
  ·rw [d8k]
   have h0:=hr 0 d (by simp);simp at h0
   by_cases hpt:p=t
   ·subst hpt
    rw [d9l rfl,d9o,e0q,d9l rfl,d9l (hp p (by simp))];exact h0
   ·rw [d9m hpt,d9o,e0q,d9m hpt,<- d9o]
    exact h t
  ·have:=hr (i+1) d (by simpa using hd)
   simpa using this
theorem a8K:∀ (l:List (Nat × Value)) (tm:Array Value),(l.foldl (fun tmps (x:Nat × Value)=>tmps.setIfInBounds x.1 x.2) tm).size=tm.size
 | [],_=>rfl
 | x::l,tm=>by rw [List.foldl_cons,a8K l];simp
def c2z:Exit->Option (Option Code)
 | .normal=>some none
 | .ret=>some (some .ret)
 | .exit i=>some (some (.exit i))
 | .goto t=>some (some (.goto t))
 | _=>none
def c3L (Φ:Option Code->Hp->Nat->Prop)(e:Exit)(_:Fra)(s:St):Prop:=match c2z e with
 | some j=>Φ j s.H s.n
 | none=>False
variable {F:Fra}
theorem c3q {ps:Array Nat}{as bd:Code}{fn dfs:Nat}{tm:Array Value}{env:Env}{ρ1:Lk}{O1:Nat->Prop}{w1:World}{nt:Nat}(htm:tm.size=nt)(hps:∀ t∈ps,t<nt)(hda:a0O nt as=true)(hdb:a0O nt bd=true)
  (henv:∀ t,Rep ρ1 O1 w1 (env.get t) (tm.getD t undef)) {ds:List D} {H:Hp} {n:Nat} {Φ:Option Code->Hp->Nat->Prop} (hds:ds.length=ps.size)
  (h:∀ F:Fra,OkS C F (some l) F as ⟨a9Y ps.toList ds env,H,n⟩ fun e F' s=>e=.normal/\F'=F/\∀ F':Fra,OkS C F' (some l) F' bd s (c3L Φ)) :
  b0b C (fun ρ O w=>Ext ρ1 O1 w1 ρ O w) l ⟨fn,tm,ps,as,bd,dfs⟩ ds H n Φ:=by
 intro F ρ w vs m hFl hng hEw hlw hfr hg hvs hr;refine ⟨hvs.trans hds,?_⟩;have hltl:l<w.heap.size:=(Array.getElem?_eq_some_iff.1 hlw).1;have mw:=m.wr hng;have hol:∀ {ρ':Lk} {H':Hp} {w':World},Mem C (F.wr l) ρ' H' w'->∀ e∈H',∀ b,ρ' e.k e.g=some b->b≠l:=fun m' e he b hb hbl=>(m'.hok.own e he b hb).1 (by show F.X b;rw [hbl];exact hFl)
 have ent:∀ {ρ':Lk} {H':Hp} {w':World},Mem C (F.wr l) ρ' H' w'->Mem C (Fra.subZ ρ' H' w' nt F.X (fun _=>False) []) ρ' H' w':=fun m'=>m'.enterZ (.refl _ _ _) rfl rfl rfl (fun _ _ _=>rfl) (fun _ _ _ _ h=>h) (fun b hb=>e0a (m'.xlt b hb) m'.size)
  (fun e he b hb=>(m'.hok.own e he b hb).1) (fun b hz=>hz.elim) _ _
 have lv:∀ {ρ':Lk} {H':Hp} {w':World} {ρ2:Lk} {H2:Hp} {w2:World},Mem C (F.wr l) ρ' H' w'->Mem C (Fra.subZ ρ' H' w' nt F.X (fun _=>False) []) ρ2 H2 w2->Mem C (F.wr l) ρ2 H2 w2/\Ext ρ' (Own F.X ρ' H') w' ρ2 (Own F.X ρ2 H2) w2:=fun {ρ' H' w' ρ2 H2 w2} m' m2=>by
  obtain ⟨q1,q2⟩:=m'.leaveZ (X':=F.X) (Z:=fun _=>False) (fun _ h=>h) (fun b hb=>hb.elim) m2;refine ⟨q1,?_⟩
  have:(fun b=>Own F.X ρ' H' b\/False)=Own F.X ρ' H':=funext fun b=>propext ⟨fun h=>h.elim id False.elim,.inl⟩
  have q2:Ext ρ' (fun b=>Own F.X ρ' H' b\/False) w' ρ2 (Own F.X ρ2 H2) w2:=q2
  rwa [this] at q2
 have lat:∀ {ρ':Lk} {H':Hp} {w':World} {ρ2:Lk} {H2:Hp} {w2:World},Mem C (F.wr l) ρ' H' w'->l<w'.heap.size->Mem C (Fra.subZ ρ' H' w' nt F.X (fun _=>False) []) ρ2 H2 w2->w2.heap[l]? = w'.heap[l]?:=fun m' hl m2=>m2.blk l hl fun h=>by
  rcases h with ⟨e,he,h⟩|h
  ·exact hol m' e he l h rfl
  ·exact h
 refine roundIn_of_wpIn d9j ?_
 let Fa:=Fra.subZ ρ H w nt F.X (fun _=>False) []
 have sata:Sat C Fa ρ ⟨a9Y ps.toList ds env,H,n⟩ { tmps:=(ps.zip vs).foldl (fun tmps (t,a)=>tmps.setIfInBounds t a) tm,defers:=[] } w:=by
  refine ⟨ent mw,hfr,hg,fun t=>?_,?_,rfl⟩
  ·have:=b3p ps.toList ds env tm vs.toList (ρ:=ρ) (O:=Own F.X ρ H) (w:=w) (by simpa using hvs) (fun t ht=>by rw [htm];exact hps t (by simpa using ht)) (fun t=>(henv t).mono hEw) (fun i d hd=>by
    have:=hr i d hd
    simpa [d9o,d9T] using this) t
   rw [<- Array.foldl_toList,Array.toList_zip];exact this
  ·show ((ps.zip vs).foldl (fun tmps (t,a)=>tmps.setIfInBounds t a) tm).size=nt
   rw [<- Array.foldl_toList];exact (a8K _ _).trans htm
 refine wpIn_mono ((h Fa).out (.refl Fa) hda ρ _ w sata) ?_;rintro e a2 w2 ⟨F2,s2,ρ2,hF2,⟨rfl,hFF,hbody⟩,hs2⟩;subst hFF;obtain ⟨m2,x2⟩:=lv mw (hF2.mem hs2.mem);have hl2:w2.heap[l]? = some (LR.obj ⟨fn,tm,ps,as,bd,dfs⟩ none):=(lat mw hltl (hF2.mem hs2.mem)).trans hlw;refine ⟨_,run_beginRound (r:=LR.lp ⟨fn,tm,ps,as,bd,dfs⟩ .ready none) hl2 rfl,?_⟩;have m3:=m2.putL hFl (.inr rfl) (r:=LR.lp ⟨fn,tm,ps,as,bd,dfs⟩ .ready none) hl2 (.loop { LR.lp ⟨fn,tm,ps,as,bd,dfs⟩ .ready none with state:=.busy });have x3:=Ext.putL (ρ:=ρ2) (O:=Own F.X ρ2 s2.H) (w:=w2) (.inl hFl) (r:=LR.lp ⟨fn,tm,ps,as,bd,dfs⟩ .ready none) hl2 (.loop { LR.lp ⟨fn,tm,ps,as,bd,dfs⟩ .ready none with state:=.busy });generalize hw3:w2.putObj l (.loop { LR.lp ⟨fn,tm,ps,as,bd,dfs⟩ .ready none with state:=.busy })=w3 at m3 x3 ⊢;have hlt2:l<w2.heap.size:=(Array.getElem?_eq_some_iff.1 hl2).1;have hl3:w3.heap[l]? = some (.loop { LR.lp ⟨fn,tm,ps,as,bd,dfs⟩ .ready none with state:=.busy }):=by rw [<- hw3];exact World.putObj_heap_same hlt2
 let Fb:=Fra.subZ ρ2 s2.H w3 nt F.X (fun _=>False) []
 have satb:Sat C Fb ρ2 s2 a2 w3:=⟨ent m3,hs2.fresh,hs2.gen,fun t=>(hs2.env t).mono x3,hs2.nt,hs2.dfr⟩
 refine wpIn_mono ((hbody Fb).out (.refl Fb) hdb ρ2 _ w3 satb) ?_;rintro e a4 w4 ⟨F4,s4,ρ4,hF4,hq,hs4⟩;obtain ⟨m4,x4⟩:=lv m3 (hF4.mem hs4.mem);have hl4:w4.heap[l]? = some (.loop { LR.lp ⟨fn,tm,ps,as,bd,dfs⟩ .ready none with state:=.busy }):=(lat m3 (Array.getElem?_eq_some_iff.1 hl3).1 (hF4.mem hs4.mem)).trans hl3;have fin:∀ j,Φ j s4.H s4.n->∃ v w',(Instr.endRound l j).run C.P w4=.ok v w'/\b5c C F l ⟨fn,tm,ps,as,bd,dfs⟩ ρ H w (fun j d H' n'=>d=boo j.isNone/\Φ j H' n') (.returned v) w':=fun j hj=>by
  refine ⟨_,_,run_endRound j hl4,_,j,boo j.isNone,s4.H,s4.n,ρ4,rfl,⟨rfl,hj⟩,World.putObj_heap_same (Array.getElem?_eq_some_iff.1 hl4).1,m4.putL hFl (.inr rfl) hl4 _,((x2.trans x3).trans x4).trans (Ext.putL (.inl hFl) hl4 _),hs4.fresh,hs4.gen,.prim _⟩
 cases e with
 | normal=>exact fin none hq
 | ret=>exact fin _ hq
 | exit i=>exact fin _ hq
 | goto t=>exact fin _ hq
 | panic c=>exact hq.elim
 | outgrown=>exact hq.elim
def c9p (Q:Exit->Fra->St->Prop)(F:Fra)(s:St)(j:Option Code):Prop:=match j with
 | none=>Q .normal F s
 | some .ret=>Q .ret F s
 | some (.exit i)=>Q (.exit i) F s
 | some (.goto t)=>Q (.goto t) F s
 | some _=>False
theorem a3a.ext {ρ1:Lk}{O1:Nat->Prop}{w1:World}:a3a.ok (fun ρ O w=>Ext ρ1 O1 w1 ρ O w):=fun _ _ _ _ _ _ h k=>h.trans k
theorem OkS.rangeFunc {B:Fra}{s:St}{Q:Exit->Fra->St->Prop}{g:Operand}{ps:Array Nat}{as bd:Code}{fi:Nat}{first captured:List D}{Ψ:Option Code->D->Hp->Nat->Prop}(hg:a1m s.env g=.clo (.func fi) first captured)
  (YS:List D->Hp->Nat->(Option Code->Hp->Nat->Prop)->Prop)
  (hbody:∀ l ds H n Φ,YS ds H n Φ->ds.length=ps.size/\∀ F:Fra,OkS C F (some l) F as ⟨a9Y ps.toList ds s.env,H,n⟩ fun e F' s=>e=.normal/\F'=F/\∀ F':Fra,OkS C F' (some l) F' bd s (c3L Φ))
  (hiter:∀ (E:a3a) (l:Nat) (R:LR),a3a.ok E->(∀ ds H n Φ,YS ds H n Φ->b0b C E l R ds H n Φ)->a6f C E fi (first++[.clo (.yield l) [] []]++captured) l R s.H s.n Ψ)
  (hend:∀ j d H' n' F',Ψ j d H' n'->c9p Q F' ⟨s.env,H',n'⟩ j):OkS C B none F (.rangeFunc g ps as bd) s Q:=by
 refine ⟨fun hB hd ρ a w hs=>?_⟩;simp only [a0O,d9B] at hd;have hps:∀ t∈ps,t<B.nt:=fun t ht=>Nat.blt_eq.mp (d9W.1 hd.1 t (by simpa using ht))
 have hgr:=a0Z hs.env g;rw [hg] at hgr;generalize hv:a.eval g=gv at hgr;cases hgr with
 | clo hnf hnc hr1 hr2 =>
 rename_i fs cs;refine wpIn_rangeFunc fun fn _=>?_
 let l:=w.heap.size+1
 let d:=w.heap.size
 let R:LR:=⟨fn,a.tmps,ps,as,bd,d⟩
 let w1:=(w.alloc (.deferred (some []))).alloc (R.obj none)
 have hw1s:w1.heap.size=w.heap.size+2:=by simp only [w1,World.size_alloc]
 have hold:∀ b,b<w.heap.size->w1.heap[b]? = w.heap[b]?:=fun b hb=>by
  show ((w.alloc _).alloc _).heap[b]? = _;rw [a0A,d9m (by rw [World.size_alloc];omega),a0A,d9m (by omega)]
 have hdw:w1.heap[d]? = some (.deferred (some [])):=by
  show ((w.alloc _).alloc _).heap[w.heap.size]? = _;rw [a0A,d9m (by rw [World.size_alloc];omega),a0A,d9l rfl]
 have hlw:w1.heap[l]? = some (R.obj none):=by
  show ((w.alloc _).alloc _).heap[w.heap.size+1]? = _;rw [a0A,d9l (by rw [World.size_alloc])]
 have m:=hs.mem
 let X1:Nat->Prop:=fun b=>F.X b\/b=l\/b=d
 have hown:∀ e∈s.H,∀ b,ρ e.k e.g=some b->b<w.heap.size:=fun e he b hb=>m.lt he hb
 have x:Ext ρ (Own F.X ρ s.H) w ρ (Own X1 ρ s.H) w1:=by
  refine ⟨by omega,fun _ _ _ h=>h,fun b hb hO=>⟨?_,hold b hb⟩,fun b cs T fz h=>⟨cs,fz,?_,rfl⟩⟩
  ·rintro ((h|h|h)|h)
   ·exact hO (.inl h)
   ·simp only [l] at h;omega
   ·simp only [d] at h;omega
   ·exact hO (.inr h)
  ·rw [hold b (Array.getElem?_eq_some_iff.1 h).1];exact h
 have hng:C.nG<=l:=by
  have:=m.gn;have:=m.size
  simp only [l];omega
 have m1:Mem C (Fra.subZ ρ s.H w1 F.nt X1 (fun b=>b=l) ([d].map (fun r=>({ target:=.collected r,args:=#[] }:Deferred))++F.df)) ρ s.H w1:=by
  refine m.enterZ x rfl rfl rfl (fun b hb _=>hold b hb) (fun e he b hb hbl=>?_) (fun b hb=>?_) (fun e he b hb hb'=>?_) (fun b hb=>by rw [hb];exact hng) _ _
  ·have:=hown e he b hb
   simp only [l] at hbl;omega
  ·rcases hb with h|h|h
   ·have:=m.xlt b h;have:=m.size;omega
   ·simp only [l] at h;omega
   ·simp only [d] at h;omega
  ·have h1:=hown e he b hb
   rcases hb' with h|h|h
   ·exact (m.hok.own e he b hb).1 h
   ·simp only [l] at h;omega
   ·simp only [d] at h;omega
 have mo:Mem C F ρ s.H w1:=m.same ⟨by omega,fun _ _ _ h=>h,fun b hb hO=>⟨hO,hold b hb⟩,fun b cs T fz h=>⟨cs,_,by rw [hold b (Array.getElem?_eq_some_iff.1 h).1];exact h,rfl⟩⟩ rfl rfl rfl hold;have hF1:Fle C F (Fra.subZ ρ s.H w1 F.nt X1 (fun b=>b=l) ([d].map (fun r=>({ target:=.collected r,args:=#[] }:Deferred))++F.df)):=by
  refine Fle.subZ mo (fun b hb=>.inl hb) (fun b hb=>.inl ?_) [d] (by simp) fun r hr=>?_
  ·have:=m.size
   rw [hb];simp only [l];omega
  ·simp only [List.mem_singleton] at hr
   subst hr;refine ⟨m.size,by simp only [d];omega,.inr (.inr rfl),⟨by simp only [d,l];omega,fun e he h=>?_⟩,hdw⟩
   have:=hown e he d h
   simp only [d] at this;omega
 have hB1:=hB.trans hF1;generalize hF1d:Fra.subZ ρ s.H w1 F.nt X1 (fun b=>b=l) ([d].map (fun r=>({ target:=.collected r,args:=#[] }:Deferred))++F.df)=F1 at m1 hF1 hB1;have hF1X:F1.X=X1:=by rw [<- hF1d];rfl
 have hF1W:F1.Wr l:=by rw [<- hF1d];exact .inr rfl
 have hXl:F1.X l:=by rw [hF1X];exact .inr (.inl rfl)
 have henv1:∀ t,Rep ρ (Own F1.X ρ s.H) w1 (s.env.get t) (a.tmps.getD t undef):=fun t=>by rw [hF1X];exact (hs.env t).mono x
 have hc:=hiter (fun ρ' O w'=>Ext ρ (Own F1.X ρ s.H) w1 ρ' O w') l R a3a.ext fun ds H n Φ hY=>by
  obtain ⟨q1,q2⟩:=hbody l ds H n Φ hY;exact c3q (nt:=B.nt) (by rw [hs.nt];exact hB.nt) hps hd.2.1 hd.2.2 henv1 q1 q2
 have hargs:(fs ++ #[Value.func (.yield l) #[] #[]]++cs).size=(first++[D.clo (.yield l) [] []]++captured).length:=by simp [hnf,hnc];omega
 have hcall:=hc.2 F1 ρ w1 (fs ++ #[Value.func (.yield l) #[] #[]]++cs) m1 hXl hng (.refl _ _ _) hlw hs.fresh hs.gen hargs fun i dd hdd=>by
  rw [e0J] at hdd;rw [e2b];rcases d9H i first.length with hi|hi
  ·rw [e0g hi] at hdd
   have:(fs++(#[Value.func (.yield l) #[] #[]]++cs)).getD i undef=fs.getD i undef:=by
    simp only [d9o];rw [e0F (by omega)]
   rw [this,hF1X];exact (hr1 i dd hdd).mono x
  ·rw [e0b hi] at hdd
   have e1:(fs++(#[Value.func (.yield l) #[] #[]]++cs)).getD i undef=(#[Value.func (.yield l) #[] #[]]++cs).getD (i - first.length) undef:=by
    simp only [d9o];rw [e0y (by omega),hnf]
   rw [e1];cases hk:i - first.length with
   | zero =>
    rw [hk] at hdd;simp at hdd;subst hdd
    have:(#[Value.func (.yield l) #[] #[]]++cs).getD 0 undef=Value.func (.yield l) #[] #[]:=by
     rw [d9o,e0F (by simp)];rfl
    rw [this];exact .clo rfl rfl (by simp) (by simp)
   | succ k =>
    rw [hk] at hdd;have hdd:captured[k]? = some dd:=by simpa using hdd
    have:(#[Value.func (.yield l) #[] #[]]++cs).getD (k+1) undef=cs.getD k undef:=by
     simp only [d9o];rw [e0y (by simp)];simp
    rw [this,hF1X];exact (hr2 k dd hdd).mono x
 refine ⟨l,[{ target:=.collected d,args:=#[] }],w1,{ target:=.fn (.func fi) cs,args:=fs ++ #[Value.func (.yield l) #[] #[]] },w1,fi,fs ++ #[Value.func (.yield l) #[] #[]]++cs,w1,run_enterLoop_outer _ _ _ _ _,?_,fun _ _=>trivial,?_,a4o,a3G.2 (hcall.mono ?_)⟩
 ·unfold resolve
  simp only [hv];have e:(#[Operand.const (Value.func (.yield l) #[] #[])]).map a.eval = #[Value.func (.yield l) #[] #[]]:=by simp [Act.eval]
  rw [e];rfl
 ·unfold invoke
  exact a4N hc.1 _ w1
 ·rintro e w' ⟨v,j,dd,H',n',ρ',rfl,hΨ,hl',m',x',fr,gn,rep⟩
  have hend':=hend j dd H' n' F1 hΨ;have m'':Mem C F1 ρ' H' w':=b6z m' rfl rfl rfl (fun b hb=>by
   rcases hb with hb|hb
   ·exact hb
   ·rw [hb];exact hF1W) m1.gw
  have m3:=m''.putL hXl hF1W (r:=R.lp (if j.isNone then .ready else .done) j) hl' (.loop { R.lp (if j.isNone then .ready else .done) j with state:=.exhausted });have x3:=Ext.putL (ρ:=ρ') (O:=Own F1.X ρ' H') (w:=w') (.inl hXl) (r:=R.lp (if j.isNone then .ready else .done) j) hl' (.loop { R.lp (if j.isNone then .ready else .done) j with state:=.exhausted });refine ⟨j,_,run_endLoop (r:=R.lp (if j.isNone then .ready else .done) j) hl' (by cases j<;>simp [LR.lp]),?_⟩;generalize w'.putObj l (.loop { R.lp (if j.isNone then .ready else .done) j with state:=.exhausted })=w3 at m3 x3 ⊢;have sat:Sat C F1 ρ' ⟨s.env,H',n'⟩ { a with defers:=[{ target:=.collected d,args:=#[] }]++a.defers } w3:=by
   refine ⟨m3,fr,gn,fun t=>((henv1 t).mono x').mono x3,?_,?_⟩
   ·show a.tmps.size=_
    rw [hs.nt,hF1.nt]
   ·show _++a.defers=_
    rw [hs.dfr,<- hF1d];rfl
  cases j with
  | none=>exact ⟨F1,_,ρ',hB1,hend',sat⟩
  | some c =>
   cases c<;>first|exact hend'.elim|skip
   ·exact wpIn_exit ⟨F1,_,ρ',hB1,hend',sat⟩
   ·exact wpIn_goto ⟨F1,_,ρ',hB1,hend',sat⟩
   ·exact wpIn_ret ⟨F1,_,ρ',hB1,hend',sat⟩
end
section
variable {C:Ctx} {X:EV} {B F:Fra} {ops:Array Oper} {s:St} {rd:Option Nat} {Q:Exit->Fra->St->Prop}
structure b0c (C:Ctx)(B F:Fra)(k g:Nat)(str:ByteArray)(pos:Nat):Prop where
 ex:∃ it,F.r0 k g=some it/\F.X it/\¬ F.Wr it/\F.w0.heap[it]? = some (.stringIter str pos)/\C.nG<=it/\∀ {ρ:Lk} {H:Hp} {w:World},Mem C (F.wr it) ρ H w->Mem C B ρ H w
 df:F.df=B.df
theorem Ext.putX {ρ:Lk}{O:Nat->Prop}{w:World}{l:Nat}(hO:O l){o0:Obj}(hc:∀ cs T fz,o0≠.cells cs T fz)(h:w.heap[l]? = some o0)(o:Obj):Ext ρ O w ρ O (w.putObj l o) :=
 ⟨by rw [(a3x w l o).2.2.2];exact d9y _,fun _ _ _ h=>h,fun b hb hb'=>⟨hb',World.putObj_heap_other fun hbl=>hb' (by rw [hbl];exact hO)⟩,fun b cs T fz hh=>⟨cs,_,by
  rw [World.putObj_heap_other fun hbl=>by rw [hbl,h] at hh;exact hc _ _ _ (e1K hh)];exact hh,rfl⟩⟩
theorem Mem.putX {ρ:Lk}{H:Hp}{w:World}{l:Nat}(m:Mem C F ρ H w)(hX:F.X l)(hW:F.Wr l){o0:Obj}(hc:∀ cs T fz,o0≠.cells cs T fz)(h:w.heap[l]? = some o0)(o:Obj):Mem C F ρ H (w.putObj l o):=by
 have x:=Ext.putX (ρ:=ρ) (O:=Own F.X ρ H) (.inl hX) hc h o;exact ⟨⟨fun e he=>by
  rcases m.hok.ent e he with h|⟨b,cs,a1,a2,a3⟩
  ·exact .inl h
  ·exact .inr ⟨b,cs,a1,by rw [World.putObj_heap_other fun hb=>(m.hok.own e he b a1).1 (by rw [hb];exact hX)];exact a2,a3.mono x⟩,m.hok.inj,m.hok.own⟩,
  m.os,m.tape,m.output,by rw [(a3x w l o).2.2.2];exact m.size,fun b hb hw=>by rw [World.putObj_heap_other fun hbl=>hw (by rw [hbl];exact hW)];exact m.blk b hb hw,m.xlt,m.g0,m.gn,m.gw,m.lnk,a3W m.shp x⟩
def c0G (C:Ctx)(X:EV)(B:Fra)(kb:Nat)(ops:Array Oper)(ir:Nat)(Q:Exit->Fra->St->Prop)(s:St):Prop:=match a9Q ops.toList ir with
 | some o=>match o.guard with
  | none=>match o.op with
   | .range t x=>match X.tt t with
    | some i=>match i.ti with
     | .string=>match a1m s.env x with
      | .prim (.string str)=>∀ F':Fra,b0c C B F' kb s.n str 0->Q .normal F' ⟨a2f s.env o.dst (.optr kb s.n 0 0 0),s.H,s.n+1⟩
      | _=>False
     | _=>False
    | none=>False
   | _=>False
  | some _=>False
 | none=>False
theorem d8l {F2:Fra}{ρ':Lk}{H':Hp}{w':World}{X':Nat->Prop}(hB:Fle C B F)(hdf:F.df=B.df)(hX:∀ b,F.X b->X' b)(hsz:B.w0.heap.size<=w'.heap.size)(hm:∀ {ρ:Lk} {H:Hp} {w:World},Mem C (Fra.subZ ρ' H' w' F.nt X' (fun _=>False) F.df) ρ H w->Mem C B ρ H w)
  (h2:F2=Fra.subZ ρ' H' w' F.nt X' (fun _=>False) F.df):Fle C B F2:=by
 subst h2;exact ⟨hB.nt,hsz,hm,fun b hb=>hX b (hB.X b hb),[],hdf,[],rfl,.nil,by simp⟩
theorem d8P {i:Nat}(hX:WOk C X)(kb:Nat)(l1:List Nat)(ir:Nat)(hl:List.range ops.size=l1++[ir])(hnd:a3V ops.toList=true)(hFB:F=B)
  (h:a2g C X kb ops l1 s True fun acc s1=>acc/\c0G C X B (kb+ir) ops ir Q s1):OkS C B rd F (.region i ops false) s Q:=by
 subst hFB;refine ⟨fun hB hd ρ a w hs=>wpIn_region ?_⟩;rw [hl];have hlt:∀ j∈l1++[ir],j<ops.size:=fun j hj=>by rw [<- hl] at hj;exact List.mem_range.1 hj
 have h1:=(a1i (F:=F) (K':=c0G C X F (kb+ir) ops ir Q) hX (fun acc s h=>h) h).2.run (fun j hj=>hlt j (by simp [hj])) (a3Q hB hd) hs;refine a1A (rd:=rd) (Q:=a5z C F Q) (l2:=[ir]) (fun e a w h=>?_) (a2z hnd) _ a w h1;obtain ⟨h0,s1,ρ1,h,hs1⟩:=h;refine ⟨h0,?_⟩;unfold c0G at h;split at h<;>first|exact h.elim|skip
 rename_i o ho;split at h<;>first|exact h.elim|skip
 rename_i hgd;split at h<;>first|exact h.elim|skip
 rename_i t x hop;split at h<;>first|exact h.elim|skip
 rename_i ti hti;split at h<;>first|exact h.elim|skip
 rename_i hstr;split at h<;>first|exact h.elim|skip
 rename_i str hx;have ho:=a5q ho;have hdo:a2m F.nt o=true:=d9W.1 (show ops.toList.all (a2m F.nt)=true from hd) o (Array.mem_toList_iff.2 (e1u ho));simp only [wpOpsIn,ho];rw [d9l (by unfold Region.wanted;rw [hgd])];have hxv:a.eval x=.string str:=by
  have:=a0Z hs1.env x
  rw [hx] at this;generalize a.eval x=v at this;cases this;rfl
 have hrun:(execOp a.eval o).run C.P w=.ok (.value (.pointer (some ⟨w.heap.size,0,none⟩))) (w.alloc (.stringIter str 0)):=by
  unfold execOp;simp only [hop];rw [run_bind]
  have:(Instr.range t (a.eval x)).run C.P w=.ok (.pointer (some ⟨w.heap.size,0,none⟩)) (w.alloc (.stringIter str 0)):=by
   unfold Instr.range;rw [run_bind,a0g (a1W (hX.tt _ _ hti) hstr),hxv];dsimp only;rw [run_bind,run_pure];dsimp only;rw [run_bind,run_newObj_alloc];rfl
  rw [this];rfl
 refine a5x hrun ?_;show a5z C F Q .normal _ _;have m:=hs1.mem
 let it:=w.heap.size
 let X1:Nat->Prop:=fun b=>F.X b\/b=it
 have hown:∀ e∈s1.H,∀ b,ρ1 e.k e.g=some b->b<w.heap.size:=fun e he b hb=>m.lt he hb
 have hfr:ρ1 (kb+ir) s1.n=none:=hs1.fresh _ _ (d9y _)
 let ρ2:=ρ1.put (kb+ir) s1.n it
 have hput:∀ k g b,ρ1 k g=some b->ρ2 k g=some b:=fun k g b hb=>d8r hfr hb
 have hown2:∀ e∈s1.H,∀ b,ρ2 e.k e.g=some b->ρ1 e.k e.g=some b:=fun e he b hb=>by
  have hg:=hs1.gen e he
  have:ρ2 e.k e.g=ρ1 e.k e.g:=by
   show (if e.k=kb+ir/\e.g=s1.n then some it else ρ1 e.k e.g)=_;rw [d9m (by omega)]
  rw [<- this];exact hb
 have hw1:(w.alloc (.stringIter str 0)).heap.size=w.heap.size+1:=World.size_alloc ..;have hold:∀ b,b<w.heap.size->(w.alloc (.stringIter str 0)).heap[b]? = w.heap[b]?:=fun b hb=>by rw [a0A,d9m (by omega)]
 have xx:∀ X':Nat->Prop,(∀ b,b<w.heap.size->X' b->F.X b)->Ext ρ1 (Own F.X ρ1 s1.H) w ρ2 (Own X' ρ2 s1.H) (w.alloc (.stringIter str 0)):=fun X' hX'=>by
  refine ⟨by omega,hput,fun b hb hO=>⟨?_,hold b hb⟩,fun b cs T fz hc=>⟨cs,_,by rw [hold b (Array.getElem?_eq_some_iff.1 hc).1];exact hc,rfl⟩⟩;rintro (h|⟨e,he,h⟩)
  ·exact hO (.inl (hX' b hb h))
  ·exact hO (.inr ⟨e,he,hown2 e he b h⟩)
 have m1:Mem C F ρ2 s1.H (w.alloc (.stringIter str 0)):=by
  have x1:=xx F.X fun _ _ h=>h
  refine ⟨⟨fun e he=>?_,m.hok.inj.imp_of_mem fun {e e'} he he' h b b' hb hb'=>h b b' (hown2 e he b hb) (hown2 e' he' b' hb'),fun e he b hb=>m.hok.own e he b (hown2 e he b hb)⟩,m.os,m.tape,m.output,by have:=m.size;omega,
   fun b hb hW=>by rw [hold b (e0a hb m.size)];exact m.blk b hb hW,m.xlt,m.g0,m.gn,m.gw,fun k g b h=>hput _ _ _ (m.lnk k g b h),a3W m.shp x1⟩
  rcases m.hok.ent e he with ⟨h1,h2⟩|⟨b,cs,a1,a2,a3⟩
  ·refine .inl ⟨h1,?_⟩
   cases hb:ρ2 e.k e.g with
   | none=>rfl
   | some b=>rw [hown2 e he b hb] at h2;cases h2
  ·exact .inr ⟨b,cs,hput _ _ _ a1,by rw [hold b (m.lt he a1)];exact a2,a3.mono x1⟩
 have hitm:∀ e∈s1.H,∀ b,ρ2 e.k e.g=some b->b≠it:=fun e he b hb=>by have:=hown e he b (hown2 e he b hb);simp only [it];omega
 have hX1lt:∀ b,X1 b->b<(w.alloc (.stringIter str 0)).heap.size:=fun b hb=>by
  rcases hb with h|h
  ·have:=m.xlt b h;have:=m.size;omega
  ·simp only [it] at h;omega
 have hX1o:∀ e∈s1.H,∀ b,ρ2 e.k e.g=some b->¬ X1 b:=fun e he b hb hb'=>by
  rcases hb' with h|h
  ·exact (m.hok.own e he b (hown2 e he b hb)).1 h
  ·exact hitm e he b hb h
 have e2:∀ e∈s1.H,∀ b,Own F.X ρ2 s1.H b->Own X1 ρ2 s1.H b:=fun _ _ _ h=>h.imp .inl id
 have hng:C.nG<=it:=by have:=m.gn;have:=m.size;simp only [it];omega
 have ent:∀ Z:Nat->Prop,(∀ b,Z b->b=it)->Mem C (Fra.subZ ρ2 s1.H (w.alloc (.stringIter str 0)) F.nt X1 Z F.df) ρ2 s1.H (w.alloc (.stringIter str 0)):=fun Z hZ=>by
  refine ⟨⟨fun e he=>?_,m1.hok.inj,fun e he b hb=>⟨hX1o e he b hb,.inr (.inl ⟨e,he,hb⟩)⟩⟩,rfl,rfl,rfl,d9y _,fun _ _ _=>rfl,hX1lt,m1.g,d9V m1.gn m1.size,fun b hb=>?_,fun _ _ _ h=>h,fun _ cs _ _ h=>⟨cs,_,h,rfl⟩⟩
  ·rcases m.hok.ent e he with ⟨h1,h2⟩|⟨b,cs,a1,a2,a3⟩
   ·rcases m1.hok.ent e he with h|⟨b,cs,b1,_⟩
    ·exact .inl h
    ·rw [hown2 e he b b1] at h2;cases h2
   ·exact .inr ⟨b,cs,hput _ _ _ a1,by rw [hold b (m.lt he a1)];exact a2,a3.mono (xx X1 fun b hb h=>h.resolve_right fun h=>by simp only [it] at h;omega)⟩
  ·rcases hb with ⟨e,he,hb⟩|hb
   ·rcases (m1.hok.own e he b hb).2 with h|h
    ·exact d9V m1.gn h
    ·exact m1.gw b h
   ·rw [hZ b hb];exact hng
 let F2:=Fra.subZ ρ2 s1.H (w.alloc (.stringIter str 0)) F.nt X1 (fun _=>False) F.df
 have upZ:∀ {ρ:Lk} {H:Hp} {w':World},Mem C (F2.wr it) ρ H w'->Mem C F ρ H w':=fun {ρ H w'} m'=>by
  have m'':Mem C (Fra.subZ ρ2 s1.H (w.alloc (.stringIter str 0)) F.nt X1 (fun b=>b=it) F.df) ρ H w':=b6z m' rfl rfl rfl (fun b hb=>by
   rcases hb with (hb|hb)|hb
   ·exact .inl hb
   ·exact hb.elim
   ·exact .inr hb) (ent _ fun _ h=>h).gw
  exact (m1.leaveZ (fun b hb=>.inl hb) (fun b hb=>.inl (by rw [hb];exact m.size)) m'').1
 have hit:b0c C F F2 (kb+ir) s1.n str 0:=⟨⟨it,d8s ..,.inr rfl,fun h=>by
  rcases h with ⟨e,he,h⟩|h
  ·exact hitm e he it h rfl
  ·exact h,by show (w.alloc _).heap[it]? = _;rw [a0A,d9l rfl],hng,upZ⟩,rfl⟩
 have hF2:Fle C F F2:=d8l hB rfl (fun b hb=>.inl hb) (by have:=m.size;show _<=(w.alloc _).heap.size;omega) (fun m'=>upZ (m'.wr hng)) rfl;refine ⟨F2,_,ρ2,hF2,h F2 hit,?_⟩;have hs2:Sat C F2 ρ2 ⟨s1.env,s1.H,s1.n+1⟩ a (w.alloc (.stringIter str 0)):=⟨ent _ fun _ h=>h.elim,fun k g hg=>by
  have hg:s1.n+1<=g:=hg;show (if k=kb+ir/\g=s1.n then some it else ρ1 k g)=none;rw [d9m (by omega)];exact hs1.fresh k g (by omega),fun e he=>e0G (hs1.gen e he),fun t=>(hs1.env t).mono (xx X1 fun b hb h=>h.resolve_right fun h=>by simp only [it] at h;omega),hs1.nt,hs1.dfr⟩
 exact hs2.put (H':=s1.H) hs2.mem (.refl _ _ _) hs2.fresh hs2.gen (.optr (d8s ..)) hdo
def d2K (C:Ctx)(X:EV)(B F:Fra)(kb:Nat)(ops:Array Oper)(i0:Nat)(l2:List Nat)(str:ByteArray)(pos:Nat)(Q:Exit->Fra->St->Prop)(s:St):Prop:=match a9Q ops.toList i0 with
 | some o=>match o.guard with
  | none=>match o.op with
   | .next x true=>match a1m s.env x with
    | .optr k g 0 0 0=>b0c C B F k g str pos /\
     (pos<str.size->∀ F':Fra,b0c C B F' k g str (pos+(Utf8.decode str pos).2)->a2g C X kb ops l2 ⟨a2f s.env o.dst (.tup [boo true,i64 pos,.prim (.int .i32 (Utf8.decode str pos).1)]),s.H,s.n+1⟩ True fun acc s=>acc/\Q .normal F' s) /\
     (¬ pos<str.size->a2g C X kb ops l2 ⟨a2f s.env o.dst (.tup [boo false]),s.H,s.n+1⟩ True fun acc s=>acc/\Q .normal F s)
    | _=>False
   | _=>False
  | some _=>False
 | none=>False
theorem d8O {i:Nat}(hX:WOk C X)(kb:Nat)(i0:Nat)(l2:List Nat)(hl:List.range ops.size=i0::l2)(hnd:a3V ops.toList=true)(str:ByteArray)(pos:Nat)
  (h:d2K C X B F kb ops i0 l2 str pos Q s):OkS C B rd F (.region i ops false) s Q:=by
 refine ⟨fun hB hd ρ a w hs=>wpIn_region ?_⟩;rw [hl];have hlt:∀ j∈i0::l2,j<ops.size:=fun j hj=>by rw [<- hl] at hj;exact List.mem_range.1 hj
 unfold d2K at h;split at h<;>first|exact h.elim|skip
 rename_i o ho;split at h<;>first|exact h.elim|skip
 rename_i hgd;split at h<;>first|exact h.elim|skip
 rename_i x hop;split at h<;>first|exact h.elim|skip
 rename_i k g hx;obtain ⟨⟨⟨it,i1,i2,i3,i4,i5,i6⟩,idf⟩,h1,h2⟩:=h;have ho:=a5q ho;have hdo:a2m B.nt o=true:=d9W.1 (show ops.toList.all (a2m B.nt)=true from hd) o (Array.mem_toList_iff.2 (e1u ho));simp only [wpOpsIn,ho];rw [d9l (by unfold Region.wanted;rw [hgd])];have m:=hs.mem;have hlk:ρ k g=some it:=m.lnk _ _ _ i1;have hxv:a.eval x=.pointer (some ⟨it,0,none⟩):=by
  have:=a0Z hs.env x
  rw [hx] at this;generalize a.eval x=v at this;cases this with
  | optr hr=>rw [hlk] at hr;cases hr;rfl
 have hob:w.heap[it]? = some (.stringIter str pos):=(m.blk it (m.xlt it i2) i3).trans i4;have hget:(getObj it).run C.P w=.ok (.stringIter str pos) w:=by
  simp [getObj,Sem.run,hob]
 by_cases hp:pos<str.size
 ·have hrun:(execOp a.eval o).run C.P w=.ok (.value (.tuple #[.bool true,.int .i64 pos,.int .i32 (Utf8.decode str pos).1])) (w.putObj it (.stringIter str (pos+(Utf8.decode str pos).2))):=by
   unfold execOp;simp only [hop];rw [run_bind]
   have:(Instr.next (a.eval x) true o.type).run C.P w=.ok (.tuple #[.bool true,.int .i64 pos,.int .i32 (Utf8.decode str pos).1]) (w.putObj it (.stringIter str (pos+(Utf8.decode str pos).2))):=by
    unfold Instr.next;rw [hxv];simp only [];rw [run_bind,hget];dsimp only;rw [d9l hp];rw [run_bind]
    have:(setObj it (.stringIter str (pos+(Utf8.decode str pos).2))).run C.P w=.ok () (w.putObj it (.stringIter str (pos+(Utf8.decode str pos).2))):=by
     simp [setObj,Sem.run,hob,World.putObj]
    rw [this];rfl
   rw [this];rfl
  refine a5x hrun ?_;have mp:=(m.wr i5).putX i2 (.inr rfl) (o0:=.stringIter str pos) (by simp) hob (.stringIter str (pos+(Utf8.decode str pos).2));have xp:=Ext.putX (ρ:=ρ) (O:=Own F.X ρ s.H) (w:=w) (.inl i2) (o0:=.stringIter str pos) (by simp) hob (.stringIter str (pos+(Utf8.decode str pos).2));have hitw:it<w.heap.size:=(Array.getElem?_eq_some_iff.1 hob).1;have hit':(w.putObj it (.stringIter str (pos+(Utf8.decode str pos).2))).heap[it]? = some (.stringIter str (pos+(Utf8.decode str pos).2)):=World.putObj_heap_same hitw;have hszp:=(a3x w it (.stringIter str (pos+(Utf8.decode str pos).2))).2.2.2;generalize w.putObj it (.stringIter str (pos+(Utf8.decode str pos).2))=w2 at mp xp hit' hszp ⊢
  let F2:=Fra.subZ ρ s.H w2 F.nt F.X (fun _=>False) F.df
  have m2:Mem C F2 ρ s.H w2:=mp.enterZ (.refl _ _ _) rfl rfl rfl (fun _ _ _=>rfl) (fun _ _ _ _ h=>h) (fun b hb=>e0a (mp.xlt b hb) mp.size) (fun e he b hb=>(mp.hok.own e he b hb).1) (fun _ h=>h.elim) _ _;have mZ:Mem C (Fra.subZ ρ s.H w2 F.nt F.X (fun b=>b=it) F.df) ρ s.H w2:=mp.enterZ (.refl _ _ _) rfl rfl rfl (fun _ _ _=>rfl) (fun e he b hb hb'=>(mp.hok.own e he b hb).1 (by rw [hb'];exact i2)) (fun b hb=>e0a (mp.xlt b hb) mp.size) (fun e he b hb=>(mp.hok.own e he b hb).1) (fun b hb=>by rw [hb];exact i5) _ _;have upZ:∀ {ρ':Lk} {H':Hp} {w':World},Mem C (F2.wr it) ρ' H' w'->Mem C B ρ' H' w':=fun {ρ' H' w'} m'=>by
   have m'':Mem C (Fra.subZ ρ s.H w2 F.nt F.X (fun b=>b=it) F.df) ρ' H' w':=b6z m' rfl rfl rfl (fun b hb=>by
    rcases hb with (hb|hb)|hb
    ·exact .inl hb
    ·exact hb.elim
    ·exact .inr hb) mZ.gw
   exact i6 (mp.leaveZ (fun _ h=>h) (fun b hb=>.inr (.inr hb)) m'').1
  have hiter:b0c C B F2 k g str (pos+(Utf8.decode str pos).2):=⟨⟨it,hlk,i2,fun h=>by
   rcases h with ⟨e,he,h⟩|h
   ·exact (mp.hok.own e he it h).1 i2
   ·exact h,hit',i5,upZ⟩,idf⟩
  have hB2:Fle C B F2:=d8l hB idf (fun _ h=>h) (by rw [hszp];exact d9V hB.sz m.size) (fun m'=>upZ (m'.wr i5)) rfl;have hs1:Sat C F2 ρ ⟨s.env,s.H,s.n+1⟩ a w2:=⟨m2,fun k g hg=>hs.fresh k g (by have:s.n+1<=g:=hg;omega),fun e he=>e0G (hs.gen e he),fun t=>(hs.env t).mono xp,hs.nt,hs.dfr⟩
  have hs2:=hs1.put (H':=s.H) (o:=o) (d:=.tup [boo true,i64 pos,.prim (.int .i32 (Utf8.decode str pos).1)]) (v:=.tuple #[.bool true,.int .i64 pos,.int .i32 (Utf8.decode str pos).1]) hs1.mem (.refl _ _ _) hs1.fresh hs1.gen (.tup rfl fun i d hd=>by
   match i with
   | 0=>simp at hd;subst hd;exact .prim _
   | 1=>simp at hd;subst hd;exact .prim _
   | 2=>simp at hd;subst hd;exact .prim _
   | n+3=>simp at hd) (by rw [show F2.nt=B.nt from hB.nt];exact hdo)
  have h3:=(a1i (F:=F2) (K':=Q .normal F2) hX (fun acc s h=>h) (h1 hp F2 hiter)).2.run (fun j hj=>hlt j (by simp [hj])) (a3Q hB2 hd) hs2
  have:=a1A (rd:=rd) (Q:=a5z C B Q) (l2:=[]) (fun _ _ _ h=>a3K hB2 (fun _ h=>h) h) (a2z hnd) _ _ _ h3
  rwa [e0D] at this
 ·have hrun:(execOp a.eval o).run C.P w=.ok (.value (.tuple #[.bool false])) w:=by
   unfold execOp;simp only [hop];rw [run_bind]
   have:(Instr.next (a.eval x) true o.type).run C.P w=.ok (.tuple #[.bool false]) w:=by
    unfold Instr.next;rw [hxv];simp only [];rw [run_bind,hget];dsimp only;rw [d9m hp];rfl
   rw [this];rfl
  refine a5x hrun ?_;have hs1:Sat C F ρ ⟨s.env,s.H,s.n+1⟩ a w:=⟨m,fun k g hg=>hs.fresh k g (by have:s.n+1<=g:=hg;omega),fun e he=>e0G (hs.gen e he),hs.env,hs.nt,hs.dfr⟩
  have hs2:=hs1.put (H':=s.H) (o:=o) (d:=.tup [boo false]) (v:=.tuple #[.bool false]) hs1.mem (.refl _ _ _) hs1.fresh hs1.gen (.tup rfl fun i d hd=>by
   match i with
   | 0=>simp at hd;subst hd;exact .prim _
   | n+1=>simp at hd) (by rw [hB.nt];exact hdo)
  have h3:=(a1i (F:=F) (K':=Q .normal F) hX (fun acc s h=>h) (h2 hp)).2.run (fun j hj=>hlt j (by simp [hj])) (a3Q hB hd) hs2
  have:=a1A (rd:=rd) (Q:=a5z C B Q) (l2:=[]) (fun _ _ _ h=>a3K hB (fun _ h=>h) h) (a2z hnd) _ _ _ h3
  rwa [e0D] at this
end
section
variable {ops:Array Oper}
def c3a (ops:Array Oper):List (Nat × List Nat)->Bool
 | []=>true
 | (i,l)::r=>c3a ops r&&l.all fun j=>a3n j (a2S ops i)||(a2S ops i).any fun k=>a3n j (a2j r k)
theorem a5W:∀ {clo:List (Nat × List Nat)},c3a ops clo=true->∀ i j,j∈a2j clo i->a1Z ops i j
 | [],_,i,j,hj=>by simp [a2j] at hj
 | (k,l)::r,h,i,j,hj=>by
  simp only [c3a,d9B,d9W] at h;unfold a2j at hj;split at hj
  ·rename_i hk
   have:=d9v hk
   subst this
   have:=h.2 j hj
   simp only [e2d,List.any_eq_true] at this;rcases this with h1|⟨q,h1,h2⟩
   ·exact .dep (a0T.1 h1)
   ·exact .step h1 (a5W h.1 q j (a0T.1 h2))
  ·exact a5W h.1 i j hj
theorem b2q:∀ (l done:List Nat) (acc:List (Nat × List Nat)),a8H ops done l=true->(∀ k∈done,∀ j,a1Z ops k j->j∈a2j acc k) ->
  ∀ i,(i∈done\/i∈l)->∀ j,a1Z ops i j->j∈a2j (b5m ops l acc) i
 | [],done,acc,_,h,i,hi,j,hr=>h i (hi.resolve_right (by simp)) j hr
 | i::l,done,acc,hf,h,i',hi,j,hr=>by
  simp only [a8H,d9B] at hf;refine b2q l (i::done) _ hf.2 (fun k hk j hr=>?_) i' ?_ j hr
  ·unfold a2j
   split
   ·rename_i hk'
    have:=d9v hk'
    subst this;refine a5t.2 (.inl ?_);rw [List.mem_append];cases hr with
    | dep h1=>exact .inl h1
    | step h1 h2=>exact .inr (List.mem_flatMap.2 ⟨_,h1,h _ (a2o.1 hf.1 _ h1) _ h2⟩)
   ·rename_i hk'
    rcases d9F.1 hk with rfl|hk
    ·simp at hk'
    ·exact h k hk j hr
  ·rcases hi with hi|hi
   ·exact .inl (e0t _ hi)
   ·rcases d9F.1 hi with rfl|hi
    ·exact .inl e0T
    ·exact .inr hi
theorem b3m {all:List Nat}{clo clo':List (Nat × List Nat)}(h:∀ i j,i∈all->j∈a2j clo i->j∈a2j clo' i):∀ (l done:List Nat),(∀ i∈l,i∈all)->c5K ops all clo done l=true->c5K ops all clo' done l=true
 | [],_,_,_=>rfl
 | i::l,done,hl,hp=>by
  simp only [c5K,d9B] at hp ⊢;refine ⟨?_,b3m h l _ (fun k hk=>hl k (e0t _ hk)) hp.2⟩;have hp1:=hp.1;split at hp1
  ·rw [d9W] at hp1 ⊢
   intro t ht
   have:=hp1 t ht
   rw [d9W] at this ⊢;intro j hj
   have:=this j hj
   simp only [e2d,d9B,d9w] at this ⊢;rcases this with h1|⟨h1,h2⟩|⟨⟨h1,h2⟩,h3⟩
   ·exact .inl h1
   ·exact .inr (.inl ⟨a0T.2 (h _ _ (hl i e0T) (a0T.1 h1)),h2⟩)
   ·exact .inr (.inr ⟨⟨a0T.2 (h _ _ hj (a0T.1 h1)),h2⟩,h3⟩)
  ·cases hp1
theorem b3F {clo clo':List (Nat × List Nat)}{all:List Nat}(h:∀ i j,i∈all->j∈a2j clo i->j∈a2j clo' i):∀ (l done:List Nat),(∀ i∈l,i∈all)->c5W clo done l=true->c5W clo' done l=true
 | [],_,_,_=>rfl
 | i::l,done,hl,hp=>by
  simp only [c5W,d9B] at hp ⊢;exact ⟨a2o.2 fun k hk=>h _ _ (hl i e0T) (a2o.1 hp.1 k hk),b3F h l _ (fun k hk=>hl k (e0t _ hk)) hp.2⟩
def d6e (ops:Array Oper)(pre suf:List Nat)(clo:List (Nat × List Nat)):Bool :=
 a7C (pre++suf)&&a4z (List.range ops.size) (pre++suf)&&(pre++suf).all (fun i=>Nat.blt i ops.size)&&a8H ops [] (pre++suf) &&
 a7C (pre.flatMap (b2y ops))&&c5K ops pre clo [] pre&&c5W clo pre suf
theorem b1i {pre suf:List Nat}(clo:List (Nat × List Nat))(h:(d6e ops pre suf clo&&c3a ops clo&&a3V ops.toList)=true):(b2m ops pre suf&&a3V ops.toList)=true:=by
 simp only [d6e,d9B] at h;obtain ⟨⟨⟨⟨⟨⟨⟨⟨c1,c2⟩,c3⟩,c4⟩,c5⟩,c6⟩,c7⟩,c8⟩,c9⟩:=h;have key:∀ i j,i∈pre++suf->j∈a2j clo i->j∈a2j (b5m ops (pre++suf) []) i:=fun i j hi hj=>b2q (pre++suf) [] [] c4 (by simp) i (.inr hi) j (a5W c8 i j hj)
 simp only [b2m,d9B];exact ⟨⟨⟨⟨⟨⟨⟨c1,c2⟩,c3⟩,c4⟩,c5⟩,b3m (fun i j hi hj=>key i j (e1h _ hi) hj) _ _ (fun _ h=>h) c6⟩,
  b3F (all:=suf) (fun i j hi hj=>key i j (List.mem_append_right _ hi) hj) _ _ (fun _ h=>h) c7⟩,c9⟩
end
section
variable {C:Ctx} {X:EV} {kb:Nat} {ops:Array Oper} {i:Nat} {l:List Nat} {s:St} {acc:Prop} {K:Prop->St->Prop} {o:Oper}
theorem a5g (h:K acc s):a2g C X kb ops [] s acc K:=h
theorem a0v (h:a9Q ops.toList i=some o)(hg:o.guard=none)(hk:wpO C X (kb+i) (a1m s.env) s.H s.n o.op acc fun acc d H n=>a2g C X kb ops l ⟨a2f s.env o.dst d,H,n⟩ acc K):a2g C X kb ops (i::l) s acc K:=by
 unfold a2g;simp only [h,hg];exact hk
theorem a1R {g:Nat × Bool}{b:Bool}(h:a9Q ops.toList i=some o)(hg:o.guard=some g)(hw:a0S ops s.env o=some b)(hb:b=true)(ha:acc)
  (hk:wpO C X (kb+i) (a1m s.env) s.H s.n o.op True fun acc d H n=>a2g C X kb ops l ⟨a2f s.env o.dst d,H,n⟩ acc K):a2g C X kb ops (i::l) s acc K:=by
 unfold a2g;simp only [h,hg,hw];subst hb;exact ⟨ha,hk⟩
theorem a9N {g:Nat × Bool}{b:Bool}(h:a9Q ops.toList i=some o)(hg:o.guard=some g)(hw:a0S ops s.env o=some b)(hb:b=false)(ha:acc)
  (hk:a2g C X kb ops l ⟨a2f s.env o.dst (.prim (.tuple #[])),s.H,s.n+1⟩ True K):a2g C X kb ops (i::l) s acc K:=by
 unfold a2g;simp only [h,hg,hw];subst hb;exact ⟨ha,hk⟩
section
variable {g:Operand->D} {H:Hp} {n:Nat} {op:Op} {k:Prop->D->Hp->Nat->Prop}
theorem a2N {P:Prop->Prop}{d:D}{H':Hp}{n':Nat}(hs:∀ acc k,wpO C X kb g H n op acc k=k (P acc) d H' n')(hk:k (P acc) d H' n'):wpO C X kb g H n op acc k:=by rw [hs];exact hk
theorem a5y {f:Nat}{ds:List D}(hs:∀ acc k,wpO C X kb g H n op acc k=(acc/\a0j C f ds H n fun d H n=>k True d H n))(ha:acc)(hc:a0j C f ds H n fun d H n=>k True d H n):wpO C X kb g H n op acc k:=by
 rw [hs];exact ⟨ha,hc⟩
theorem c1I {es:List D}{j:Int}{sz esz:Nat}{d:D}(hs:∀ acc k,wpO C X kb g H n op acc k=(acc/\(sz=esz/\0<=j)/\∃ d,es[j.toNat]? = some d/\k True (.pptr d) H (n+1)))(ha:acc)(h1:sz=esz/\0<=j)
  (h2:es[j.toNat]? = some d) (hk:k True (.pptr d) H (n+1)):wpO C X kb g H n op acc k:=by
 rw [hs];exact ⟨ha,h1,d,h2,hk⟩
end
section
variable {H:Hp} {n:Nat} {env:Env} {N:Hp} {K:Prop->Env->Hp->Prop}
theorem a6K (h:K acc env N):a3Y C X kb ops H n [] env N acc K:=h
theorem a0B (h:a9Q ops.toList i=some o)(hg:o.guard=none)(hk:wpE C X (kb+i) (a1m env) H (n+i) o.op acc fun acc d ne=>a3Y C X kb ops H n l (a2f env o.dst d) (a4G ne N) acc K):a3Y C X kb ops H n (i::l) env N acc K:=by
 unfold a3Y;simp only [h,hg];exact hk
theorem a2Q {g:Nat × Bool}{b:Bool}(h:a9Q ops.toList i=some o)(hg:o.guard=some g)(hw:a0S ops env o=some b)(hb:b=true)(ha:acc)
  (hk:wpE C X (kb+i) (a1m env) H (n+i) o.op True fun acc d ne=>a3Y C X kb ops H n l (a2f env o.dst d) (a4G ne N) acc K):a3Y C X kb ops H n (i::l) env N acc K:=by
 unfold a3Y;simp only [h,hg,hw];subst hb;exact ⟨ha,hk⟩
theorem a9M {g:Nat × Bool}{b:Bool}(h:a9Q ops.toList i=some o)(hg:o.guard=some g)(hw:a0S ops env o=some b)(hb:b=false)(ha:acc)
  (hk:a3Y C X kb ops H n l (a2f env o.dst (.prim (.tuple #[]))) N True K):a3Y C X kb ops H n (i::l) env N acc K:=by
 unfold a3Y;simp only [h,hg,hw];subst hb;exact ⟨ha,hk⟩
section
variable {g:Operand->D} {op:Op} {k:Prop->D->Option Ent->Prop}
theorem a2M {P:Prop->Prop}{d:D}{ne:Option Ent}(hs:∀ acc k,wpE C X kb g H n op acc k=k (P acc) d ne)(hk:k (P acc) d ne):wpE C X kb g H n op acc k:=by rw [hs];exact hk
theorem a4x {f:Nat}{ds:List D}(hs:∀ acc k,wpE C X kb g H n op acc k=(acc/\a0q C f ds fun d=>k True d none))(ha:acc)(hc:a0q C f ds fun d=>k True d none):wpE C X kb g H n op acc k:=by
 rw [hs];exact ⟨ha,hc⟩
theorem a2Z {es:List D}{j:Int}{sz esz:Nat}{d:D}(hs:∀ acc k,wpE C X kb g H n op acc k=(acc/\(sz=esz/\0<=j)/\∃ d,es[j.toNat]? = some d/\k True (.pptr d) none))(ha:acc)(h1:sz=esz/\0<=j)
  (h2:es[j.toNat]? = some d) (hk:k True (.pptr d) none):wpE C X kb g H n op acc k:=by
 rw [hs];exact ⟨ha,h1,d,h2,hk⟩
end
end
end
def FzS (H:Hp)(d0 d:D):Prop:=∀ (C:Ctx) (F:Fra) (ρ:Lk) (w:World),Mem C F ρ H w->(∀ b,Own F.X ρ [] b->Own F.X ρ H b)->(∀ e∈H,∀ b,ρ e.k e.g=some b->¬ Own F.X ρ [] b) ->
 ∀ v,Rep ρ (Own F.X ρ H) w d0 v->Rep ρ (Own F.X ρ []) w d v
theorem FzS.refl (H:Hp)(d:D):FzS H d d:=fun _ _ _ _ _ hO _ _ hv=>hv.anti hO
theorem FzS.clo1 {H:Hp}{fn:Fn}{c c':D}(h:FzS H c c'):FzS H (.clo fn [] [c]) (.clo fn [] [c']):=fun C F ρ w m hO hN v hv=>by
 cases hv with
 | clo hf hc h1 h2 =>
  refine .clo hf (by simpa using hc) (fun i d hd=>by simp at hd) fun i d hd=>?_
  match i with
  | 0 =>
   simp at hd;subst hd;exact h C F ρ w m hO hN _ (h2 0 _ rfl)
  | i+1=>simp at hd
theorem FzS.ptr {H:Hp}{k g sz:Nat}{e:Ent}{x:D}(he:Hp.get H k=some e)(hg:g=e.g)(hs:sz=e.sz)(hx:e.es=[x]):FzS H (.optr k g sz 0 0) (.pptr x):=fun C F ρ w m hO hN v hv=>by
 subst hg hs;obtain ⟨hm,hk⟩:=Hp.get_mem he;cases hv with
 | optr hr =>
  rename_i b;rw [<- hk] at hr;obtain ⟨cs,h1,h2⟩:=m.at hm hr;have hlen:=h2.len;rw [hx] at hlen;have hsz:=h2.siz 0 x (by rw [hx];rfl);have hin:∀ n,n<x.cells.length->n<cs.size:=fun n hn=>by
   simp only [d9u,d9R] at hlen;omega
  rw [show 0*e.sz+0=0 from by omega];refine .pptr (fun n=>cs.getD n undef) (hN e hm b hr) (m.lt hm hr) (fun n hn=>?_) (fun n hn=>?_) fun j d hd=>?_
  ·rw [d9S];simp [World.cell?,h1,hin n hn]
  ·have:=h2.one _ _ (d9C (hin n hn))
   simpa [d9o,d9C (hin n hn)] using this
  ·have:=h2.rep 0 x j d (by rw [hx];rfl) hd
   rw [e2a,d9S] at this;exact this.anti hO
def d3U (tt:Nat->Option a0n)(rs:List ResultVar)(Φ:D->Prop)(e:Exit)(_:Fra)(s:St):Prop:=match e with
 | .normal | .ret=>a9Z tt s rs fun d0=>∃ d,FzS s.H d0 d/\a2n d/\Φ d
 | _=>False
section
variable {C:Ctx} {X:EV}
theorem d9c {f:Nat}{i:FI}{args:List D}{Φ:D->Prop}(hX:WOk C X)(hf:FOk C.P f i)(hnt:Nat.ble args.length i.nt=true)
  (h:∀ F:Fra,OkS C F none F i.code ⟨a1n 0 args,[],0⟩ (d3U X.tt i.res Φ)):a0c C f args Φ:=by
 obtain ⟨fn,hf,hb,hn,hd,hni,hres⟩:=hf;rw [<- hni] at hnt;refine ⟨⟨fn,i.code,hf,hb,hn⟩,fun Y w vs hG hnG hX' hvs hr=>?_⟩;have hnt:=d9A hnt;refine (a3G (rd:=none) (n:=0)).1 (callsIn_of_wp_marks hf hb d9j ?_);have hown:∀ b,Own Y nol [] b↔Y b:=by simp [Own]
 have hoe:Own Y nol []=Y:=funext fun b=>propext (hown b)
 let F0:Fra:=⟨w,Y,fun _=>False,fn.ntmps,nol,[]⟩
 have sat:Sat C F0 nol ⟨a1n 0 args,[],0⟩ { tmps:=vs++Array.replicate (fn.ntmps - vs.size) undef,defers:=[] } w:=by
  refine ⟨⟨⟨by simp,.nil,by simp⟩,rfl,rfl,rfl,d9y _,fun _ _ _=>rfl,hX',hG,hnG,by simp [F0],fun _ _ _ h=>h,fun _ cs _ _ h=>⟨cs,_,h,rfl⟩⟩,fun _ _ _=>rfl,by simp,fun t=>?_,by simp [F0];omega,rfl⟩;show Rep nol (Own Y nol []) w _ _;rw [hoe];exact a8r hvs hr t
 refine wpIn_mono ((h F0).out (.refl F0) hd nol _ w sat) ?_;rintro e a' w' ⟨F',s',ρ',hF,hq,hs'⟩;have key:a9Z X.tt s' i.res (fun d0=>∃ d,FzS s'.H d0 d/\a2n d/\Φ d)->LeavesInM (fw none) 0 C.P fn a'.tmps (fun e w'=>∃ v d,e=.returned v/\Below w.heap.size w w'/\Φ d/\Rep nol Y w' d v) a'.defers .returning w':=fun hq=>by
  obtain ⟨d0,p,h1,h2,d,h3,h4,h5⟩:=a8l hq;rw [<- hres] at h1;obtain ⟨v,w2,_,hl,mF,r2,hXX,x,hbl,hsz,F2,m2,hX2⟩:=hF.finish hX.tt rfl hs' h1 h2;refine hl _ ⟨v,d,rfl,⟨mF.os,mF.tape,mF.output,mF.size,fun b hb=>mF.blk b hb (by simp [F0])⟩,h5,?_⟩;have hH:FzH s'.H [] s'.H []:=by
   generalize s'.H=H0
   have:∀ H1:Hp,FzH H0 [] H1 []:=fun H1=>by
    induction H1 with
    | nil=>exact .nil
    | cons e r ih=>exact .drop ih
   exact this H0
  obtain ⟨m,hO,hN⟩:=hH.mem m2;have r3:=h3 _ _ _ _ m2 hO (fun e he b hb=>hN e he b hb rfl) v (by rw [hX2];exact r2);have r4:=h4 _ nol _ _ _ r3;exact r4.anti fun b hb=>.inl (by rw [hX2];exact hXX b hb)
 cases e with
 | normal=>exact key hq
 | ret=>exact key hq
 | _=>exact hq.elim
theorem d9h {f:Nat}{ds ds':List D}{d:D}{H:Hp}{n:Nat}(hc:a0b C f ds' d)(hl:ds'.length=ds.length)(hv:∀ (i:Nat) (a b:D),ds[i]? = some a->ds'[i]? = some b->FzS H a b)
  (hp:ArePure ds') (hflat:b0a d):a0z C f ds H n (fun d' H' n'=>d'=d/\H'=H/\n'=n+1):=by
 refine ⟨hc.1,fun F ρ w vs m hfr hg hvs hr=>?_⟩;have hH:FzH H [] H []:=by
  generalize H=H0
  have:∀ H1:Hp,FzH H0 [] H1 []:=fun H1=>by
   induction H1 with
   | nil=>exact .nil
   | cons e r ih=>exact .drop ih
  exact this H0
 obtain ⟨m',hO,hN⟩:=hH.mem m;refine (hc.2 (Own F.X ρ []) w vs m.g (d9V m.gn m.size) (fun b hb=>m'.own_lt hb) (by omega) fun i x hx=>?_).mono ?_
 ·have hi:i<ds'.length:=(List.getElem?_eq_some_iff.1 hx).1
  have hd0:ds[i]? = some ds[i]:=d9t (by omega);exact hp.out x (d9r hx) _ _ _ _ _ (hv i _ x hd0 hx C F ρ w m hO (fun e he b hb=>hN e he b hb rfl) _ (hr i _ hd0))
 ·rintro e w' ⟨v,d',rfl,hb,hd',rep⟩
  subst hd';have x:Ext ρ (Own F.X ρ H) w ρ (Own F.X ρ H) w':=⟨hb.size,fun _ _ _ h=>h,fun b hb' hO=>⟨hO,hb.block b hb'⟩,fun b cs T fz hh=>⟨cs,_,by
   rw [hb.block b (Array.getElem?_eq_some_iff.1 hh).1];exact hh,rfl⟩⟩
  exact ⟨v,_,H,n+1,ρ,rfl,⟨rfl,rfl,rfl⟩,m.same x hb.os hb.tape hb.output hb.block,x,fun k g hg'=>hfr k g (by omega),fun e he=>e0G (hg e he),hflat _ _ _ _ _ _ _ rep⟩
end
abbrev smI (z:Int):D:=.agg [i64 z,a1w]
abbrev smF (a b:Int):D:=.agg [i64 a,a1w,i64 b,a1w]
theorem b6C {y n:Prop}:brB true y n=y:=rfl
theorem c2b {y n:Prop}:brB false y n=n:=rfl
theorem a5l {H Hf:Hp}:∀ r:Hp,FzH H Hf r r
 | []=>.nil
 | _::r=>.keep (a5l r)
theorem sdI {P:Prop}(h:P:=by (repeat' (first|exact d9j|exact rfl|exact Or.inl rfl|exact Or.inr rfl|exact a0Y.agg|exact d9a rfl|exact d9A rfl|refine And.intro ?_ ?_|(intro hq;first|exact rfl|exact d9j|(exact d9n hq (by decide)))|exact d9y _|omega|decide|(dsimp only [List.length_cons,List.length_nil];omega)))):P:=h
structure a6e (Q:Prop):Prop where
 out:Q
theorem dsI {P Q:Prop}(h:Q)(e:a6e Q->P:=by intro hq;(try dsimp only [smI,smF,a9P,a2f,a4G,a1m,Env.get,a7t,b7A,a5D,b3G,b1p,b1P,a0R,D.cells,ofV,Hp.get,Hp.set,Hp.del,a7R,a1n,asB,cond,a9X,b6N,b1b,a7N,b7G,a3n,List.map,List.length,List.append,List.nil_append,List.cons_append,List.append_nil,List.size_toArray,List.length_cons,List.length_nil,Value.cells,List.toList_toArray,Array.toList,Nat.reduceAdd,Nat.reduceMul,Nat.beq,Nat.reduceSub,a3n,b9H,a9P,Bool.false_and,Bool.true_and,Bool.true_or,Bool.false_or,Bool.not_true,Bool.not_false]);exact hq.out):P:=e ⟨h⟩
theorem nxI {A P Q:Prop}(h:Q)(a:A:=by exact sdI)(e:a6e Q->P:=by intro hq;refine dsI ?_;exact hq.out):A/\P:=⟨a,e ⟨h⟩⟩
theorem wkI {s s':St}(a:FzH s.H s'.H s.H s'.H:=by (first|(exact a5l _)|(repeat (first|exact .nil|(exact a5l _)|refine .keep ?_|refine .drop ?_))))
  (b:b3Q s.H s'.H s.env s'.env:=by (repeat' (first|exact d9j|exact Fz.refl _|refine And.intro ?_ ?_|(refine d5f ?_;dsimp only [smI,smF,a9P,a2f,a4G,a1m,Env.get,a7t,b7A,a5D,b3G,b1p,b1P,a0R,D.cells,ofV,Hp.get,Hp.set,Hp.del,a7R,a1n,asB,cond,a9X,b6N,b1b,a7N,b7G,a3n,List.map,List.length,List.append,List.nil_append,List.cons_append,List.append_nil,List.size_toArray,List.length_cons,List.length_nil,Value.cells,List.toList_toArray,Array.toList,Nat.reduceAdd,Nat.reduceMul,Nat.beq,Nat.reduceSub,a3n,b9H,a9P,Bool.false_and,Bool.true_and,Bool.true_or,Bool.false_or,Bool.not_true,Bool.not_false];first|exact rfl|(simp_all;done)))))
  (c:s.n<=s'.n:=by (first|exact d9y _|decide|(dsimp only;omega))):Wk s s':=⟨a,b,c⟩
theorem stI {P Q:Prop}(h:Q)(e:a6e Q->P:=by
  intro hq
  repeat (first|(refine a0v rfl rfl ?_;refine a2N (fun _ _=>rfl) ?_)|(refine a0B rfl rfl ?_;refine a2M (fun _ _=>rfl) ?_))
  try (refine a6K ?_;repeat (first|(refine a0v rfl rfl ?_;refine a2N (fun _ _=>rfl) ?_)|(refine a0B rfl rfl ?_;refine a2M (fun _ _=>rfl) ?_)))
  first|refine a5g (And.intro sdI ?_)|(refine a0v rfl rfl ?_;refine a5y (fun _ _=>rfl) sdI ?_)|(refine a0B rfl rfl ?_;refine a4x (fun _ _=>rfl) sdI ?_)|skip
  refine dsI ?_;exact hq.out):P:=e ⟨h⟩
section
variable {C:Ctx} {X:EV} {kb:Nat} {g:Operand->D} {H:Hp} {n:Nat} {acc:Prop}
theorem a6h {p a:Prop}(hp:p):(p/\a)=a:=propext ⟨And.right,fun h=>⟨hp,h⟩⟩
theorem b1r {tt:Nat->Option a0n}{t:Nat}{x:Operand}{i:a0n}{k' gg sz j off:Nat}{e:Ent}{d d':D}(h1:tt t=some i)(h2:g x=.optr k' gg sz j off)(h3:Hp.get H k'=some e)
  (h4:e.es[j]? = some d) (h5:a5D i.ag i.sz off d.cells=some d') :
  evL tt H n kb g (.load t x)=some (d',none,gg=e.g/\sz=e.sz/\(bif i.ag then Nat.ble (off+i.sz) d.cells.length else true)=true):=by
 simp only [evL,h1,h2,h3,h4,h5]
theorem b1c {t:Nat}{x:Operand}{i:a0n}{k' gg sz j off:Nat}{e:Ent}{d d':D}{k:Prop->D->Hp->Nat->Prop}(h1:X.tt t=some i)(h2:g x=.optr k' gg sz j off)(h3:Hp.get H k'=some e)
  (h4:e.es[j]? = some d) (hk:k acc d' H (n+1)) (h5:a5D i.ag i.sz off d.cells=some d':=by exact rfl) (h6:gg=e.g/\sz=e.sz/\(bif i.ag then Nat.ble (off+i.sz) d.cells.length else true)=true:=by exact sdI) :
  wpO C X kb g H n (.load t x) acc k:=by
 unfold wpO;simp only [b1r h1 h2 h3 h4 h5,a6h h6];exact hk
theorem a9K {t:Nat}{x:Operand}{i:a0n}{k' gg sz j off:Nat}{e:Ent}{d d':D}{k:Prop->D->Option Ent->Prop}(h1:X.tt t=some i)(h2:g x=.optr k' gg sz j off)(h3:Hp.get H k'=some e)
  (h4:e.es[j]? = some d) (hk:k acc d' none) (h5:a5D i.ag i.sz off d.cells=some d':=by exact rfl) (h6:gg=e.g/\sz=e.sz/\(bif i.ag then Nat.ble (off+i.sz) d.cells.length else true)=true:=by exact sdI) :
  wpE C X kb g H n (.load t x) acc k:=by
 unfold wpE;simp only [b1r h1 h2 h3 h4 h5,a6h h6];exact hk
theorem b1Z {fop:Operand}{args:Array Operand}{tys:Array Nat}{f:Nat}{first captured ds:List D}{d:D}{k:Prop->D->Hp->Nat->Prop}(hf:g fop=.clo (.func f) first captured)(hd:first++args.toList.map g++captured=ds)
  (hn:X.nat f ds=some d) (hk:k acc d H (n+1)):wpO C X kb g H n (.call ⟨.value fop,args,tys⟩) acc k:=by
 subst hd;unfold wpO;simp only [hf,hn];exact hk
theorem a9L {fop:Operand}{args:Array Operand}{tys:Array Nat}{f:Nat}{first captured ds:List D}{d:D}{k:Prop->D->Option Ent->Prop}(hf:g fop=.clo (.func f) first captured)(hd:first++args.toList.map g++captured=ds)
  (hn:X.nat f ds=some d) (hk:k acc d none):wpE C X kb g H n (.call ⟨.value fop,args,tys⟩) acc k:=by
 subst hd;unfold wpE;simp only [hf,hn];exact hk
theorem a7J {t:Nat}{x y:Operand}{i:a0n}{k' gg sz j off:Nat}{e:Ent}{d d':D}{k:Prop->D->Hp->Nat->Prop}(h1:X.tt t=some i)(h2:g x=.optr k' gg sz j off)(h3:Hp.get H k'=some e)
  (h4:e.es[j]? = some d) (hk:k acc (.prim (.tuple #[])) (Hp.set H k' ⟨e.k,e.g,e.T,e.sz,e.es.set j d'⟩) (n+1))
  (h5:b7A i off sz d (g y)=d':=by exact rfl) (h6:a0Y i.ag i.sz (g y)/\gg=e.g/\sz=e.sz/\Nat.ble (off+i.sz) e.sz=true:=by exact sdI) :
  wpO C X kb g H n (.store t x y) acc k:=by
 subst h5;unfold wpO;simp only [evS,h1,h2,h3,h4,a6h h6,a6H];exact hk
end
section
variable {C:Ctx} {X:EV} {kb:Nat} {ops:Array Oper} {iw:Nat} {ia:Option Nat} {R:Hp} {clo:List Nat} {n i:Nat} {l:List Nat} {env:Env} {N:Hp} {accE acc':Option Ent} {acc:Prop} {K:Prop->Env->Hp->Ent->Ent->Prop} {o:Oper}
theorem b7L {e e':Ent}(h:K acc env N e e'):a1Y C X kb ops iw ia R clo n [] env N (some e) (some e') acc K:=h
theorem a0N (h:a9Q ops.toList i=some o)(hw:Nat.beq i iw=false)(ha:b9H ia i=false)(hg:o.guard=none)
  (hk:wpE C X (kb+i) (a1m env) (a7N ia accE R (a3n i clo)) (n+i) o.op acc fun acc d ne=>a1Y C X kb ops iw ia R clo n l (a2f env o.dst d) (a4G ne N) accE acc' acc K) :
  a1Y C X kb ops iw ia R clo n (i::l) env N accE acc' acc K:=by
 unfold a1Y;simp only [h,hw,ha,hg];exact hk
theorem c1K {e:Ent}(h:a9Q ops.toList i=some o)(hw:Nat.beq i iw=true)(hg:o.guard=none)
  (hk:c6h X (kb+i) e (n+i) (a1m env) o.op acc fun acc d e'=>a1Y C X kb ops iw ia R clo n l (a2f env o.dst d) N (some e) (some e') acc K) :
  a1Y C X kb ops iw ia R clo n (i::l) env N (some e) none acc K:=by
 unfold a1Y;simp only [h,hw,hg];exact hk
theorem c1J (h:a9Q ops.toList i=some o)(hw:Nat.beq i iw=false)(ha:b9H ia i=true)(hg:o.guard=none)
  (hk:wpE C X (kb+i) (a1m env) R (n+i) o.op acc fun acc d ne=>match ne with
   | some e=>a1Y C X kb ops iw ia R clo n l (a2f env o.dst d) N (some e) acc' acc K
   | none=>False) :
  a1Y C X kb ops iw ia R clo n (i::l) env N none acc' acc K:=by
 unfold a1Y;simp only [h,hw,ha,hg];exact hk
theorem c3K {e:Ent}{g:Operand->D}{op:Op}{k:Prop->D->Ent->Prop}{P:Prop->Prop}{d:D}{e':Ent}(hs:∀ acc k,c6h X kb e n g op acc k=k (P acc) d e')(hk:k (P acc) d e'):c6h X kb e n g op acc k:=by rw [hs];exact hk
theorem c8v {e:Ent}{g:Operand->D}{t:Nat}{x y:Operand}{i:a0n}{k' gg sz j off:Nat}{d d':D}{k:Prop->D->Ent->Prop}(h1:X.tt t=some i)(h2:g x=.optr k' gg sz j off)(h3:Hp.get [e] k'=some e)
  (h4:e.es[j]? = some d) (hk:k acc (.prim (.tuple #[])) ⟨e.k,e.g,e.T,e.sz,e.es.set j d'⟩)
  (h5:b7A i off sz d (g y)=d':=by exact rfl) (h6:a0Y i.ag i.sz (g y)/\gg=e.g/\sz=e.sz/\Nat.ble (off+i.sz) e.sz=true:=by exact sdI) :
  c6h X kb e n g (.store t x y) acc k:=by
 subst h5;unfold c6h;simp only [evS,h1,h2,h3,h4,a6h h6,a6H];exact hk
end
theorem b0y (K g T sz:Nat)(l:List D):Fz [⟨K,g,T,sz,l⟩] [] (.osl K g sz 0 l.length) (.sl false sz l):=by
 refine .osl (e:=⟨K,g,T,sz,l⟩) (by simp [Hp.get]) rfl rfl rfl (by simp) (by simp) (fun j d d' h1 h2=>?_) fun j d d' q c c' h1 h2 h3 h4=>?_
 ·rw [d9S] at h1;rw [h1] at h2;cases h2;rfl
 ·rw [d9S] at h1;rw [h1] at h2;cases h2;rw [h3] at h4;cases h4;exact Fz.refl _
section
variable {A B D E F G:Prop}
theorem ff2 (a:A)(b:B):A/\B:=⟨a,b⟩
theorem ff3 (a:A)(b:B)(c:D):A/\B/\D:=⟨a,b,c⟩
theorem ff4 (a:A)(b:B)(c:D)(d:E):A/\B/\D/\E:=⟨a,b,c,d⟩
theorem ff5 (a:A)(b:B)(c:D)(d:E)(e:F):A/\B/\D/\E/\F:=⟨a,b,c,d,e⟩
theorem ff6 (a:A)(b:B)(c:D)(d:E)(e:F)(f:G):A/\B/\D/\E/\F/\G:=⟨a,b,c,d,e,f⟩
theorem kT:(!true)=false:=rfl
theorem kF:(!false)=true:=rfl
theorem kN:∀ n:Nat,(n:Int).toNat=n:=e1W
theorem kB:(!true)=false/\(!false)=true:=⟨rfl,rfl⟩
theorem ff7 {I:Prop}(a:A)(b:B)(c:D)(d:E)(e:F)(f:G)(g:I):A/\B/\D/\E/\F/\G/\I:=⟨a,b,c,d,e,f,g⟩
end
inductive KB:Nat->Prop
 | mk (n:Nat):KB n
section
variable {C:Ctx} {X:EV} {B:Fra} {rd:Option Nat} {F:Fra} {ops:Array Oper} {s:St} {Q:Exit->Fra->St->Prop} {i:Nat}
theorem d8N (hX:WOk C X){kb:Nat}(_:KB kb)(hnd:a3V ops.toList=true)(h:a2g C X kb ops (List.range ops.size) s True fun acc s=>acc/\Q .normal F s):OkS C B rd F (.region i ops false) s Q:=d8I hX kb hnd h
end
theorem gwI {F:Prop}(f:F){P Q:Prop}(h:Q)(e:a6e F->a6e Q->P:=by
  intro hf hq
  repeat (first
   | (refine a0v rfl rfl ?_;refine a2N (fun _ _=>rfl) ?_)|(refine a0B rfl rfl ?_;refine a2M (fun _ _=>rfl) ?_)
   | refine a1R rfl rfl rfl (by first|(simp only [hf.out];done)|fail) sdI (a2N (fun _ _=>rfl) ?_)|refine a9N rfl rfl rfl (by first|(simp only [hf.out];done)|fail) sdI ?_
   | refine a2Q rfl rfl rfl (by first|(simp only [hf.out];done)|fail) sdI (a2M (fun _ _=>rfl) ?_)|refine a9M rfl rfl rfl (by first|(simp only [hf.out];done)|fail) sdI ?_
   | (refine a0v rfl rfl ?_;refine b1c rfl rfl rfl (by (try dsimp only);(try simp only [hf.out]);exact rfl) ?_)|(refine a0v rfl rfl ?_;refine a7J rfl rfl rfl (by (try dsimp only);(try simp only [hf.out]);exact rfl) ?_)
   | (refine a1R rfl rfl rfl (by first|(simp only [hf.out];done)|fail) sdI ?_;refine b1c rfl rfl rfl (by (try dsimp only);(try simp only [hf.out]);exact rfl) ?_)|(refine a1R rfl rfl rfl (by first|(simp only [hf.out];done)|fail) sdI ?_;refine a7J rfl rfl rfl (by (try dsimp only);(try simp only [hf.out]);exact rfl) ?_)
   | (refine a0B rfl rfl ?_;refine a9K rfl rfl rfl (by (try dsimp only);(try simp only [hf.out]);exact rfl) ?_)|(refine a2Q rfl rfl rfl (by first|(simp only [hf.out];done)|fail) sdI ?_;refine a9K rfl rfl rfl (by (try dsimp only);(try simp only [hf.out]);exact rfl) ?_))
  try (refine a6K ?_;repeat (first|(refine a0v rfl rfl ?_;refine a2N (fun _ _=>rfl) ?_)|(refine a0B rfl rfl ?_;refine a2M (fun _ _=>rfl) ?_)))
  first|refine a5g (And.intro sdI ?_)|(refine a0v rfl rfl ?_;refine a5y (fun _ _=>rfl) sdI ?_)|(refine a0B rfl rfl ?_;refine a4x (fun _ _=>rfl) sdI ?_)|skip
  refine dsI ?_
  try simp only [hf.out]
  exact hq.out):P:=e ⟨f⟩ ⟨h⟩
theorem gvI {F:Prop}(f:F){P Q:Prop}(h:Q)(e:a6e F->a6e Q->P:=by
  intro hf hq
  repeat (first
   | (refine a0N rfl rfl rfl rfl ?_;first|refine a2M (fun _ _=>rfl) ?_|refine a9K rfl rfl rfl (by (try dsimp only);(try simp only [hf.out]);exact rfl) ?_)
   | (refine c1K rfl rfl rfl ?_;first|refine c3K (fun _ _=>rfl) ?_|refine c8v rfl rfl rfl (by (try dsimp only);(try simp only [hf.out]);exact rfl) ?_)|(refine c1J rfl rfl rfl rfl ?_;refine a2M (fun _ _=>rfl) ?_))
  try refine b7L ?_
  refine dsI ?_
  try simp only [hf.out]
  exact hq.out):P:=e ⟨f⟩ ⟨h⟩
theorem nwI {F:Prop}(f:F){P Q:Prop}(h:Q)(e:a6e F->a6e Q->P:=by
  intro hf hq
  repeat (first
   | (refine a0v rfl rfl ?_;refine a2N (fun _ _=>rfl) ?_)|(refine a0B rfl rfl ?_;refine a2M (fun _ _=>rfl) ?_))
  try (refine a6K ?_;repeat (first|(refine a0v rfl rfl ?_;refine a2N (fun _ _=>rfl) ?_)|(refine a0B rfl rfl ?_;refine a2M (fun _ _=>rfl) ?_)))
  first|refine a5g (And.intro (by ((refine dsI ?_);(try simp only [hf.out]);all_goals exact sdI)) ?_)|(refine a0v rfl rfl ?_;refine a5y (fun _ _=>rfl) (by ((refine dsI ?_);(try simp only [hf.out]);all_goals exact sdI)) ?_)|(refine a0B rfl rfl ?_;refine a4x (fun _ _=>rfl) (by ((refine dsI ?_);(try simp only [hf.out]);all_goals exact sdI)) ?_)|skip
  refine dsI ?_
  try simp only [hf.out]
  exact hq.out):P:=e ⟨f⟩ ⟨h⟩
theorem mwI {F:Prop}(f:F){A P Q:Prop}(h:Q)(a:a6e F->A:=by intro hf;(refine dsI ?_);(try simp only [hf.out]);all_goals exact sdI)(e:a6e F->a6e Q->P:=by intro hf hq;refine dsI ?_;(try simp only [hf.out]);exact hq.out):A/\P:=⟨a ⟨f⟩,e ⟨f⟩ ⟨h⟩⟩
theorem gcI {F:Prop}(f:F){P Q:Prop}(h:Q)(e:a6e F->a6e Q->P:=by
  intro hf hq
  first|(refine a1R rfl rfl rfl (by first|(simp only [hf.out];done)|fail) sdI ?_;refine a5y (fun _ _=>rfl) d9j ?_)|(refine a2Q rfl rfl rfl (by first|(simp only [hf.out];done)|fail) sdI ?_;refine a4x (fun _ _=>rfl) d9j ?_)
  refine dsI ?_;exact hq.out):P:=e ⟨f⟩ ⟨h⟩
theorem ixI {F:Prop}(f:F){A:Prop}(a:A){P Q:Prop}(h:Q)(e:a6e F->A->a6e Q->P:=by
  intro hf hx hq
  first|refine a0v rfl rfl ?_|refine a1R rfl rfl rfl (by first|(simp only [hf.out];done)|fail) sdI ?_|refine a0B rfl rfl ?_|refine a2Q rfl rfl rfl (by first|(simp only [hf.out];done)|fail) sdI ?_
  first|refine c1I (fun _ _=>rfl) sdI ⟨rfl,by omega⟩ hx ?_|refine a2Z (fun _ _=>rfl) sdI ⟨rfl,by omega⟩ hx ?_
  try dsimp only [D.cells]
  exact hq.out):P:=e ⟨f⟩ a ⟨h⟩
theorem ifI {P Q:Prop}(h:Q)(e:a6e Q->P:=by intro hq;refine OkS.cond ?_;refine dsI ?_;exact hq.out):P:=e ⟨h⟩
theorem skI {P Q:Prop}(h:Q)(e:a6e Q->P:=by intro hq;refine OkS.skip ?_;refine dsI ?_;exact hq.out):P:=e ⟨h⟩
theorem exI {P Q:Prop}(h:Q)(e:a6e Q->P:=by intro hq;refine OkS.exit ?_;refine dsI ?_;exact hq.out):P:=e ⟨h⟩
theorem rtI {P Q:Prop}(h:Q)(e:a6e Q->P:=by intro hq;refine OkS.ret ?_;refine And.intro sdI ?_;refine dsI ?_;exact hq.out):P:=e ⟨h⟩
theorem rI (kb:Nat){P Q:Prop}(h:Q)(e:KB kb->a6e Q->P:=by intro hk hq;refine d8N w1 hk (by kernel_rfl) ?_;refine stI ?_;exact hq.out):P:=e (.mk kb) ⟨h⟩
theorem fI (kb:Nat){P Q:Prop}(h:Q)(e:KB kb->a6e Q->P:=by intro hk hq;refine d8N w1 hk (by kernel_rfl) ?_;refine nxI ?_;exact hq.out):P:=e (.mk kb) ⟨h⟩
theorem sR (kb:Nat){P Q:Prop}(h:Q)(e:KB kb->a6e Q->P:=by intro hk hq;refine OkS.seq ?_;refine d8N w1 hk (by kernel_rfl) ?_;refine stI ?_;exact hq.out):P:=e (.mk kb) ⟨h⟩
theorem fR (kb:Nat){P Q:Prop}(h:Q)(e:KB kb->a6e Q->P:=by intro hk hq;refine OkS.seq ?_;refine d8N w1 hk (by kernel_rfl) ?_;refine nxI ?_;exact hq.out):P:=e (.mk kb) ⟨h⟩
theorem sZ (kb:Nat){P Q:Prop}(h:Q)(e:KB kb->a6e Q->P:=by intro hk hq;refine OkS.seq ?_;refine d8N w1 hk (by kernel_rfl) ?_;exact hq.out):P:=e (.mk kb) ⟨h⟩
theorem cI {C:Ctx}{f:Nat}{ds:List D}{d:D}{H:Hp}{n:Nat}{k:D->Hp->Nat->Prop}(c:a0b C f ds d){Q:Prop}(h:Q)(p:ArePure ds:=by exact d9k)(e:a6e Q->k d H (n+1):=by intro hq;refine stI ?_;exact hq.out):a0j C f ds H n k:=a0j.same d c p (e ⟨h⟩)
theorem dI {C:Ctx}{f:Nat}{ds:List D}{d:D}{H:Hp}{n:Nat}{k:D->Hp->Nat->Prop}(c:a0b C f ds d){Q:Prop}(h:Q)(p:ArePure ds:=by exact d9k)(e:a6e Q->k d H (n+1):=by intro hq;refine nxI ?_;exact hq.out):a0j C f ds H n k:=a0j.same d c p (e ⟨h⟩)
open Go.ChangeShapes Go.WideShapes
structure a6O (W:World)(cs:List Value)(ds:List D):Prop where
 len:cs.length=ds.length
 cell:∀ (i:Nat) (c:Value) (d:D),cs[i]? = some c->ds[i]? = some d->one c=true/\Rep nol (fun _=>False) W d c
theorem a6O.one {W:World}{c:Value}{d:D}(ho:one c=true)(h:Rep nol (fun _=>False) W d c):a6O W [c] [d]:=⟨rfl,fun i x y hx hy=>by
 match i with
 | 0=>cases hx;cases hy;exact ⟨ho,h⟩
 | i+1=>simp at hx⟩
theorem a6O.append {W:World}{a b:List Value}{x y:List D}(h:a6O W a x)(k:a6O W b y):a6O W (a++b) (x++y):=⟨by rw [d9Z,d9Z,h.len,k.len],fun i c d hc hd=>by
 by_cases hi:i<a.length
 ·rw [e0g hi] at hc
  rw [e0g (by rw [<- h.len];exact hi)] at hd;exact h.cell i c d hc hd
 ·rw [e0b (by omega)] at hc
  rw [e0b (by rw [<- h.len];omega),<- h.len] at hd;exact k.cell _ c d hc hd⟩
theorem a6O.agg {W:World}{cs:Array Value}{ds:List D}(h:a6O W cs.toList ds):Rep nol (fun _=>False) W (.agg ds) (.agg cs):=by
 have hl:cs.size=ds.length:=by rw [<- h.len];simp
 refine .agg hl (fun i v hv=>?_) fun i d hd=>?_
 ·have hi:i<ds.length:=by
   have:=(Array.getElem?_eq_some_iff.1 hv).1
   omega
  exact (h.cell i v _ (by rw [e1t];exact hv) (d9t hi)).1
 ·have hi:i<cs.size:=by
   have:=(List.getElem?_eq_some_iff.1 hd).1
   omega
  have hv:cs[i]? = some cs[i]:=d9C hi
  have:=(h.cell i _ d (by rw [e1t];exact hv) hd).2
  rw [show cs.getD i undef=cs[i] by simp [Array.getD,hi]];exact this
theorem b9Q {α:Type}{p:Nat->α->Prop}:∀ {n:Nat},(∀ i,i<n->∃ x,p i x)->∃ l:List α,l.length=n/\∀ (i:Nat) (x:α),l[i]? = some x->p i x
 | 0,_=>⟨[],rfl,fun i x h=>by simp at h⟩
 | n+1,h=>by
  obtain ⟨l,h1,h2⟩:=b9Q (n:=n) fun i hi=>h i (by omega)
  obtain ⟨x,hx⟩:=h n (by omega);refine ⟨l++[x],by simp [h1],fun i y hy=>?_⟩
  by_cases hi:i<l.length
  ·rw [e0g hi] at hy;exact h2 i y hy
  ·rw [e0b (by omega)] at hy
   have:i - l.length=0:=by
    have:=(List.getElem?_eq_some_iff.1 hy).1
    simp at this;omega
   rw [this] at hy;simp at hy;rw [show i=n by omega,<- hy];exact hx
theorem c3P {b off k:Nat}:(Addr.mk b off none).add k=⟨b,off+k,none⟩:=by
 unfold Addr.add
 by_cases h:k=0
 ·subst h;rfl
 ·rw [d9m h]
theorem c1o {W:World}{a:Addr}{v:Value}(h:W.cell? a=some v):∃ b off,a=⟨b,off,none⟩/\b<W.heap.size:=by
 obtain ⟨b,off,sp⟩:=a;unfold World.cell? at h;split at h
 ·rename_i c t f hb
  split at h
  ·cases h
  ·rename_i hs
   simp at hs;subst hs;exact ⟨b,off,rfl,(Array.getElem?_eq_some_iff.1 hb).1⟩
 ·cases h
section
variable {H:Type} {enc:TypeId × Value->H} {P:Program} {W:World} {fuel:Nat} {cs:List Value} {x:DataW H × List MemPlace} {t:TypeId}
theorem c5L (ht:P.underlying t=some .string)(h:DataW.trod enc P W 0 (fun _=>true) true fuel t cs=some x):∃ l:List UInt8,a6O W cs [.prim (.string ⟨l.toArray⟩)]/\l.length<=maxLen:=by
 obtain ⟨s,rfl,_,hw⟩:=DataW.trod_string ht h;refine ⟨s.data.toList,.one rfl ?_,?_⟩
 rotate_left
 ·rw [e1w];exact hw
 rw [show (⟨s.data.toList.toArray⟩:ByteArray)=s by cases s;simp];exact .prim _
theorem c3l {α:Type}{g:α->D}{ok:α->Prop}{e:TypeId}{sz:Nat}(ht:P.underlying t=some (.slice e))(hc:P.cellsOf e=sz)(h0:0<sz)
  (he:∀ n cs x,DataW.trod enc P W 0 (fun _=>true) true n e cs=some x->∃ a,a6O W cs (g a).cells/\ok a)
  (h:DataW.trod enc P W 0 (fun _=>true) true fuel t cs=some x):∃ l:List α,a6O W cs [.sl false sz (l.map g)]/\(∀ a∈l,ok a)/\l.length<=maxLen:=by
 rcases DataW.trod_slice ht h with ⟨rfl,_⟩|⟨a,len,cap,elems,rest,n,_,rfl,_,_,hl,hm,hlen,hel,hsp,_⟩
 ·exact ⟨[],.one rfl (.nil _),fun _ h=>d9n h e0j,d9U _⟩
 rw [hc] at hel hsp;have hE:∀ i,i<len->∃ ci y,W.cells? 0 (a.add (i*sz)) sz=some ci/\DataW.trod enc P W 0 (fun _=>true) true n e ci=some y:=fun i hi=>by
  have h1:=hel i hi;rw [d9t (by omega)] at h1;obtain ⟨ci,h2,h3⟩:=Option.bind_eq_some_iff.1 h1;exact ⟨ci,_,h2,h3⟩
 have hA:(len=0/\cap=0)\/∃ v,W.cell? a=some v:=by
  by_cases hz:len=0
  ·by_cases hcz:cap=0
   ·exact .inl ⟨hz,hcz⟩
   obtain ⟨h1,h2⟩:=hsp rfl;have h3:=h2 0 (by omega);rw [d9t (by omega)] at h3;obtain ⟨ci,h4,_⟩:=Option.bind_eq_some_iff.1 h3;obtain ⟨_,h5,h6⟩:=World.cells?_some h4;have h7:=h6 0 h0;rw [show len+0=0 by omega,e2a] at h7;rw [show (a.add 0).add 0=a from rfl,d9t (by omega)] at h7;exact .inr ⟨_,h7⟩
  ·obtain ⟨ci,_,h4,_⟩:=hE 0 (by omega)
   obtain ⟨_,h5,h6⟩:=World.cells?_some h4;have h7:=h6 0 h0;rw [e2a] at h7;rw [show (a.add 0).add 0=a from rfl,d9t (by omega)] at h7;exact .inr ⟨_,h7⟩
 rcases hA with ⟨rfl,rfl⟩|⟨v,hv⟩
 ·exact ⟨[],.one rfl (.emp a),fun _ h=>d9n h e0j,d9U _⟩
 obtain ⟨b,off,rfl,hb⟩:=c1o hv;obtain ⟨l,hll,hl2⟩:=b9Q (p:=fun i x=>∃ ci,W.cells? 0 ((Addr.mk b off none).add (i*sz)) sz=some ci/\a6O W ci (g x).cells/\ok x) fun i hi=>by
  obtain ⟨ci,y,h1,h2⟩:=hE i hi;obtain ⟨x,h3,h4⟩:=he n ci y h2;exact ⟨x,ci,h1,h3,h4⟩
 have hcell:∀ i x,l[i]? = some x->(g x).cells.length=sz/\∀ j,j<sz->∃ c d,W.cell? ⟨b,off+(i*sz+j),none⟩=some c/\(g x).cells[j]? = some d/\Ide.one c=true/\Rep nol (fun _=>False) W d c:=fun i x hx=>by
  obtain ⟨ci,h1,h2,_⟩:=hl2 i x hx;obtain ⟨_,h3,h4⟩:=World.cells?_some h1;refine ⟨by rw [<- h2.len,h3],fun j hj=>?_⟩;have h5:=h4 j hj;rw [c3P,c3P,d9t (by omega),e1d] at h5;have h6:(g x).cells[j]? = some ((g x).cells[j]'(by rw [<- h2.len,h3];exact hj)):=d9t _
  have:=h2.cell j _ _ (d9t (by omega)) h6
  exact ⟨_,_,h5,h6,this.1,this.2⟩
 have hsplit:∀ k,k<len*sz->∃ i j x,k=i*sz+j/\i<len/\j<sz/\l[i]? = some x:=fun k hk=>by
  have h1:k / sz<len:=(Nat.div_lt_iff_lt_mul h0).2 hk;exact ⟨k / sz,k%sz,_,by rw [d9O];exact (e0X k sz).symm,h1,e0k _ h0,d9t (by omega)⟩
 refine ⟨l,.one rfl (.sl (fun k=>(W.cell? ⟨b,off+k,none⟩).getD undef) (by rw [d9s,hll]) hl (fun h=>h) hb ?_ ?_ ?_ ?_),fun x hx=>?_,by omega⟩
 ·intro i d hd
  rw [d9E] at hd;obtain ⟨x,hx,rfl⟩:=Option.map_eq_some_iff.1 hd;exact (hcell i x hx).1
 ·intro k hk
  obtain ⟨i,j,x,rfl,hi,hj,hx⟩:=hsplit k hk;obtain ⟨c,d,h1,_⟩:=(hcell i x hx).2 j hj;rw [h1];rfl
 ·intro k hk
  obtain ⟨i,j,x,rfl,hi,hj,hx⟩:=hsplit k hk;obtain ⟨c,d,h1,_,h3,_⟩:=(hcell i x hx).2 j hj;rw [h1];exact h3
 ·intro i e' j d hd hj
  rw [d9E] at hd;obtain ⟨x,hx,rfl⟩:=Option.map_eq_some_iff.1 hd;have hjl:j<sz:=by
   have:=(List.getElem?_eq_some_iff.1 hj).1
   rw [(hcell i x hx).1] at this;exact this
  obtain ⟨c,d',h1,h2,_,h4⟩:=(hcell i x hx).2 j hjl;rw [h1];rw [h2] at hj;cases hj;exact h4
 ·obtain ⟨i,hi⟩:=List.getElem?_of_mem hx
  obtain ⟨_,_,_,h⟩:=hl2 i x hi;exact h
theorem c0L {fs:Array Field}(ht:P.underlying t=some (.struct fs))(h:DataW.trod enc P W 0 (fun _=>true) true fuel t cs=some x) :
  cs.length=P.cellsOf t/\∃ n,∀ (i:Nat) (f:Field),fs[i]? = some f->∃ y,DataW.trod enc P W 0 (fun _=>true) true n f.type ((cs.drop f.offset).take (P.cellsOf f.type))=some y:=by
 obtain ⟨xs,n,rfl,_,h1,h2,h3⟩:=DataW.trod_struct ht h;refine ⟨h1,n,fun i f hf=>?_⟩
 have:=(Array.getElem?_eq_some_iff.1 hf).1
 exact ⟨xs[i]'(by omega),by rw [h3 i f hf];exact d9t _⟩
end
section
variable {C:Ctx} {X:EV} {B:Fra} {rd:Option Nat} {F:Fra} {ops:Array Oper} {s:St} {Q:Exit->Fra->St->Prop} {i:Nat}
theorem d8J (hX:WOk C X)(hnd:a3V ops.toList=true)(h:a2g C X (100*i) ops (List.range ops.size) s True fun acc s=>acc/\Q .normal F s):OkS C B rd F (.region i ops false) s Q:=d8I hX (100*i) hnd h
abbrev Dr:=List (Nat × List Nat × List Nat)
abbrev dr0:Dr:=[]
noncomputable def drL (L:Dr)(i:Nat):List Nat × List Nat:=List.rec ([],[]) (fun a _ r=>cond (Nat.beq a.1 i) a.2 r) L
theorem OkS.perm {c:Code}{H':Hp}(hp:s.H.Perm H')(h:OkS C B rd F c ⟨s.env,H',s.n⟩ Q):OkS C B rd F c s Q :=
 ⟨fun hB hd ρ a w hs=>h.out hB hd ρ a w ⟨hs.mem.perm hp,hs.fresh,fun e he=>hs.gen e (hp.mem_iff.2 he),fun t=>by
  show Rep ρ (Own F.X ρ H') w _ _;rw [<- Own.perm hp];exact hs.env t,hs.nt,hs.dfr⟩⟩
inductive KD:Dr->Prop
 | mk (L:Dr):KD L
theorem d8L {L:Dr}(hX:WOk C X)(_:KD L)(hc:(b2m ops (drL L i).1 (drL L i).2&&a3V ops.toList)=true)
  (h:a3Y C X (100*i) ops s.H s.n (drL L i).1 s.env [] True fun acc env N=>a2g C X (100*i) ops (drL L i).2 ⟨env,N++s.H,s.n+a9P ops.toList⟩ acc fun acc s=>acc/\Q .normal F s):OkS C B rd F (.region i ops true) s Q:=d8K hX (100*i) _ _ hc h
theorem idS {c:Code}(h:OkS C B rd F c s Q):OkS C B rd F c s Q:=h
theorem d5k {kb:Nat}{l:List Nat}{acc:Prop}{K:Prop->St->Prop}(h:a2g C X kb ops l s acc K):a2g C X kb ops l s acc K:=h
theorem d5j {kb n:Nat}{l:List Nat}{H N:Hp}{env:Env}{acc:Prop}{K:Prop->Env->Hp->Prop}(h:a3Y C X kb ops H n l env N acc K):a3Y C X kb ops H n l env N acc K:=h
theorem d7f {f n:Nat}{ds:List D}{H:Hp}{k:D->Hp->Nat->Prop}(h:a0j C f ds H n k):a0j C f ds H n k:=h
theorem d7g {f:Nat}{ds:List D}{k:D->Prop}(h:a0q C f ds k):a0q C f ds k:=h
theorem d6Q {y n:Prop}(h:y):brB true y n:=h
theorem d6P {y n:Prop}(h:n):brB false y n:=h
end
theorem goI {F A1 A2 A3 A4 A5 A6:Prop}(dr:Dr)(f:F)(c1:A1)(c2:A2)(c3:A3)(c4:A4)(c5:A5)(c6:A6){P Q:Prop}(h:Q)(e:KD dr->a6e F->A1->A2->A3->A4->A5->A6->a6e Q->P:=by
  intro hd hf c1 c2 c3 c4 c5 c6 hq
  repeat (first
   | ((with_reducible refine idS ?_);first|refine OkS.seq ?_|refine d8J w1 (by kernel_rfl) ?_|refine d8L w1 hd (by kernel_rfl) ?_|refine OkS.block ?_|(refine OkS.skip ?_;refine dsI ?_;try simp only [hf.out,kT,kF])|(refine OkS.exit ?_;refine dsI ?_;try simp only [hf.out,kT,kF])|(refine OkS.cond ?_;refine dsI ?_;try simp only [hf.out,kT,kF,b6C,c2b])|(refine OkS.ret ?_;refine And.intro (by first|((repeat' (first|exact d9j|exact rfl|exact Or.inl rfl|exact Or.inr rfl|exact a0Y.agg|exact d9a rfl|exact d9A rfl|refine And.intro ?_ ?_|(intro hq;first|exact rfl|exact d9j|(exact d9n hq (by decide)))|exact d9y _|omega|decide|(dsimp only [List.length_cons,List.length_nil];omega)));done)|((refine dsI ?_);(try simp only [hf.out,kT,kF]);(try (repeat' (first|exact d9j|exact rfl|exact Or.inl rfl|exact Or.inr rfl|exact a0Y.agg|exact d9a rfl|exact d9A rfl|refine And.intro ?_ ?_|(intro hq;first|exact rfl|exact d9j|(exact d9n hq (by decide)))|exact d9y _|omega|decide|(dsimp only [List.length_cons,List.length_nil];omega))));done)|fail) ?_;refine dsI ?_;try simp only [hf.out,kT,kF]))
   | ((with_reducible refine d5k ?_);first|(refine a0v rfl rfl ?_;refine a2N (fun _ _=>rfl) ?_)|(refine a1R rfl rfl rfl (by first|(simp only [hf.out,kT,kF];done)|fail) (by first|((repeat' (first|exact d9j|exact rfl|exact Or.inl rfl|exact Or.inr rfl|exact a0Y.agg|exact d9a rfl|exact d9A rfl|refine And.intro ?_ ?_|(intro hq;first|exact rfl|exact d9j|(exact d9n hq (by decide)))|exact d9y _|omega|decide|(dsimp only [List.length_cons,List.length_nil];omega)));done)|((refine dsI ?_);(try simp only [hf.out,kT,kF]);(try (repeat' (first|exact d9j|exact rfl|exact Or.inl rfl|exact Or.inr rfl|exact a0Y.agg|exact d9a rfl|exact d9A rfl|refine And.intro ?_ ?_|(intro hq;first|exact rfl|exact d9j|(exact d9n hq (by decide)))|exact d9y _|omega|decide|(dsimp only [List.length_cons,List.length_nil];omega))));done)|fail) ?_;refine a2N (fun _ _=>rfl) ?_)|refine a9N rfl rfl rfl (by first|(simp only [hf.out,kT,kF];done)|fail) (by first|((repeat' (first|exact d9j|exact rfl|exact Or.inl rfl|exact Or.inr rfl|exact a0Y.agg|exact d9a rfl|exact d9A rfl|refine And.intro ?_ ?_|(intro hq;first|exact rfl|exact d9j|(exact d9n hq (by decide)))|exact d9y _|omega|decide|(dsimp only [List.length_cons,List.length_nil];omega)));done)|((refine dsI ?_);(try simp only [hf.out,kT,kF]);(try (repeat' (first|exact d9j|exact rfl|exact Or.inl rfl|exact Or.inr rfl|exact a0Y.agg|exact d9a rfl|exact d9A rfl|refine And.intro ?_ ?_|(intro hq;first|exact rfl|exact d9j|(exact d9n hq (by decide)))|exact d9y _|omega|decide|(dsimp only [List.length_cons,List.length_nil];omega))));done)|fail) ?_|(refine a0v rfl rfl ?_;refine a5y (fun _ _=>rfl) (by first|((repeat' (first|exact d9j|exact rfl|exact Or.inl rfl|exact Or.inr rfl|exact a0Y.agg|exact d9a rfl|exact d9A rfl|refine And.intro ?_ ?_|(intro hq;first|exact rfl|exact d9j|(exact d9n hq (by decide)))|exact d9y _|omega|decide|(dsimp only [List.length_cons,List.length_nil];omega)));done)|((refine dsI ?_);(try simp only [hf.out,kT,kF]);(try (repeat' (first|exact d9j|exact rfl|exact Or.inl rfl|exact Or.inr rfl|exact a0Y.agg|exact d9a rfl|exact d9A rfl|refine And.intro ?_ ?_|(intro hq;first|exact rfl|exact d9j|(exact d9n hq (by decide)))|exact d9y _|omega|decide|(dsimp only [List.length_cons,List.length_nil];omega))));done)|fail) ?_;refine dsI ?_;try simp only [hf.out,kT,kF])|(refine a0v rfl rfl ?_;refine c1I (fun _ _=>rfl) (by first|((repeat' (first|exact d9j|exact rfl|exact Or.inl rfl|exact Or.inr rfl|exact a0Y.agg|exact d9a rfl|exact d9A rfl|refine And.intro ?_ ?_|(intro hq;first|exact rfl|exact d9j|(exact d9n hq (by decide)))|exact d9y _|omega|decide|(dsimp only [List.length_cons,List.length_nil];omega)));done)|((refine dsI ?_);(try simp only [hf.out,kT,kF]);(try (repeat' (first|exact d9j|exact rfl|exact Or.inl rfl|exact Or.inr rfl|exact a0Y.agg|exact d9a rfl|exact d9A rfl|refine And.intro ?_ ?_|(intro hq;first|exact rfl|exact d9j|(exact d9n hq (by decide)))|exact d9y _|omega|decide|(dsimp only [List.length_cons,List.length_nil];omega))));done)|fail) ⟨rfl,by omega⟩ (by first|exact c1|exact c2|exact c3|exact c4|exact c5|exact c6|fail) ?_;try dsimp only [D.cells])|(refine a0v rfl rfl ?_;refine b1c rfl rfl rfl (by (try dsimp only);(try simp only [hf.out,kT,kF]);exact rfl) ?_)|(refine a0v rfl rfl ?_;refine a7J rfl rfl rfl (by (try dsimp only);(try simp only [hf.out,kT,kF]);exact rfl) ?_)|(refine a1R rfl rfl rfl (by first|(simp only [hf.out,kT,kF];done)|fail) (by first|((repeat' (first|exact d9j|exact rfl|exact Or.inl rfl|exact Or.inr rfl|exact a0Y.agg|exact d9a rfl|exact d9A rfl|refine And.intro ?_ ?_|(intro hq;first|exact rfl|exact d9j|(exact d9n hq (by decide)))|exact d9y _|omega|decide|(dsimp only [List.length_cons,List.length_nil];omega)));done)|((refine dsI ?_);(try simp only [hf.out,kT,kF]);(try (repeat' (first|exact d9j|exact rfl|exact Or.inl rfl|exact Or.inr rfl|exact a0Y.agg|exact d9a rfl|exact d9A rfl|refine And.intro ?_ ?_|(intro hq;first|exact rfl|exact d9j|(exact d9n hq (by decide)))|exact d9y _|omega|decide|(dsimp only [List.length_cons,List.length_nil];omega))));done)|fail) ?_;refine a5y (fun _ _=>rfl) (by first|((repeat' (first|exact d9j|exact rfl|exact Or.inl rfl|exact Or.inr rfl|exact a0Y.agg|exact d9a rfl|exact d9A rfl|refine And.intro ?_ ?_|(intro hq;first|exact rfl|exact d9j|(exact d9n hq (by decide)))|exact d9y _|omega|decide|(dsimp only [List.length_cons,List.length_nil];omega)));done)|((refine dsI ?_);(try simp only [hf.out,kT,kF]);(try (repeat' (first|exact d9j|exact rfl|exact Or.inl rfl|exact Or.inr rfl|exact a0Y.agg|exact d9a rfl|exact d9A rfl|refine And.intro ?_ ?_|(intro hq;first|exact rfl|exact d9j|(exact d9n hq (by decide)))|exact d9y _|omega|decide|(dsimp only [List.length_cons,List.length_nil];omega))));done)|fail) ?_;refine dsI ?_;try simp only [hf.out,kT,kF])|(refine a1R rfl rfl rfl (by first|(simp only [hf.out,kT,kF];done)|fail) (by first|((repeat' (first|exact d9j|exact rfl|exact Or.inl rfl|exact Or.inr rfl|exact a0Y.agg|exact d9a rfl|exact d9A rfl|refine And.intro ?_ ?_|(intro hq;first|exact rfl|exact d9j|(exact d9n hq (by decide)))|exact d9y _|omega|decide|(dsimp only [List.length_cons,List.length_nil];omega)));done)|((refine dsI ?_);(try simp only [hf.out,kT,kF]);(try (repeat' (first|exact d9j|exact rfl|exact Or.inl rfl|exact Or.inr rfl|exact a0Y.agg|exact d9a rfl|exact d9A rfl|refine And.intro ?_ ?_|(intro hq;first|exact rfl|exact d9j|(exact d9n hq (by decide)))|exact d9y _|omega|decide|(dsimp only [List.length_cons,List.length_nil];omega))));done)|fail) ?_;refine c1I (fun _ _=>rfl) (by first|((repeat' (first|exact d9j|exact rfl|exact Or.inl rfl|exact Or.inr rfl|exact a0Y.agg|exact d9a rfl|exact d9A rfl|refine And.intro ?_ ?_|(intro hq;first|exact rfl|exact d9j|(exact d9n hq (by decide)))|exact d9y _|omega|decide|(dsimp only [List.length_cons,List.length_nil];omega)));done)|((refine dsI ?_);(try simp only [hf.out,kT,kF]);(try (repeat' (first|exact d9j|exact rfl|exact Or.inl rfl|exact Or.inr rfl|exact a0Y.agg|exact d9a rfl|exact d9A rfl|refine And.intro ?_ ?_|(intro hq;first|exact rfl|exact d9j|(exact d9n hq (by decide)))|exact d9y _|omega|decide|(dsimp only [List.length_cons,List.length_nil];omega))));done)|fail) ⟨rfl,by omega⟩ (by first|exact c1|exact c2|exact c3|exact c4|exact c5|exact c6|fail) ?_;try dsimp only [D.cells])|(refine a1R rfl rfl rfl (by first|(simp only [hf.out,kT,kF];done)|fail) (by first|((repeat' (first|exact d9j|exact rfl|exact Or.inl rfl|exact Or.inr rfl|exact a0Y.agg|exact d9a rfl|exact d9A rfl|refine And.intro ?_ ?_|(intro hq;first|exact rfl|exact d9j|(exact d9n hq (by decide)))|exact d9y _|omega|decide|(dsimp only [List.length_cons,List.length_nil];omega)));done)|((refine dsI ?_);(try simp only [hf.out,kT,kF]);(try (repeat' (first|exact d9j|exact rfl|exact Or.inl rfl|exact Or.inr rfl|exact a0Y.agg|exact d9a rfl|exact d9A rfl|refine And.intro ?_ ?_|(intro hq;first|exact rfl|exact d9j|(exact d9n hq (by decide)))|exact d9y _|omega|decide|(dsimp only [List.length_cons,List.length_nil];omega))));done)|fail) ?_;refine b1c rfl rfl rfl (by (try dsimp only);(try simp only [hf.out,kT,kF]);exact rfl) ?_)|(refine a1R rfl rfl rfl (by first|(simp only [hf.out,kT,kF];done)|fail) (by first|((repeat' (first|exact d9j|exact rfl|exact Or.inl rfl|exact Or.inr rfl|exact a0Y.agg|exact d9a rfl|exact d9A rfl|refine And.intro ?_ ?_|(intro hq;first|exact rfl|exact d9j|(exact d9n hq (by decide)))|exact d9y _|omega|decide|(dsimp only [List.length_cons,List.length_nil];omega)));done)|((refine dsI ?_);(try simp only [hf.out,kT,kF]);(try (repeat' (first|exact d9j|exact rfl|exact Or.inl rfl|exact Or.inr rfl|exact a0Y.agg|exact d9a rfl|exact d9A rfl|refine And.intro ?_ ?_|(intro hq;first|exact rfl|exact d9j|(exact d9n hq (by decide)))|exact d9y _|omega|decide|(dsimp only [List.length_cons,List.length_nil];omega))));done)|fail) ?_;refine a7J rfl rfl rfl (by (try dsimp only);(try simp only [hf.out,kT,kF]);exact rfl) ?_)|(refine a5g (And.intro (by first|((repeat' (first|exact d9j|exact rfl|exact Or.inl rfl|exact Or.inr rfl|exact a0Y.agg|exact d9a rfl|exact d9A rfl|refine And.intro ?_ ?_|(intro hq;first|exact rfl|exact d9j|(exact d9n hq (by decide)))|exact d9y _|omega|decide|(dsimp only [List.length_cons,List.length_nil];omega)));done)|((refine dsI ?_);(try simp only [hf.out,kT,kF]);(try (repeat' (first|exact d9j|exact rfl|exact Or.inl rfl|exact Or.inr rfl|exact a0Y.agg|exact d9a rfl|exact d9A rfl|refine And.intro ?_ ?_|(intro hq;first|exact rfl|exact d9j|(exact d9n hq (by decide)))|exact d9y _|omega|decide|(dsimp only [List.length_cons,List.length_nil];omega))));done)|fail) ?_);refine dsI ?_;try simp only [hf.out,kT,kF])|(dsimp only [smI,smF,a9P,a2f,a4G,a1m,Env.get,a7t,b7A,a5D,b3G,b1p,b1P,a0R,D.cells,ofV,Hp.get,Hp.set,Hp.del,a7R,a1n,asB,cond,a9X,b6N,b1b,a7N,b7G,a3n,List.map,List.length,List.append,List.nil_append,List.cons_append,List.append_nil,List.size_toArray,List.length_cons,List.length_nil,Value.cells,List.toList_toArray,Array.toList,Nat.reduceAdd,Nat.reduceMul,Nat.beq,Nat.reduceSub,a3n,b9H,a9P,Bool.false_and,Bool.true_and,Bool.true_or,Bool.false_or,Bool.not_true,Bool.not_false])|(simp only [hf.out,kT,kF]))
   | ((with_reducible refine d5j ?_);first|(refine a0B rfl rfl ?_;refine a2M (fun _ _=>rfl) ?_)|(refine a2Q rfl rfl rfl (by first|(simp only [hf.out,kT,kF];done)|fail) (by first|((repeat' (first|exact d9j|exact rfl|exact Or.inl rfl|exact Or.inr rfl|exact a0Y.agg|exact d9a rfl|exact d9A rfl|refine And.intro ?_ ?_|(intro hq;first|exact rfl|exact d9j|(exact d9n hq (by decide)))|exact d9y _|omega|decide|(dsimp only [List.length_cons,List.length_nil];omega)));done)|((refine dsI ?_);(try simp only [hf.out,kT,kF]);(try (repeat' (first|exact d9j|exact rfl|exact Or.inl rfl|exact Or.inr rfl|exact a0Y.agg|exact d9a rfl|exact d9A rfl|refine And.intro ?_ ?_|(intro hq;first|exact rfl|exact d9j|(exact d9n hq (by decide)))|exact d9y _|omega|decide|(dsimp only [List.length_cons,List.length_nil];omega))));done)|fail) ?_;refine a2M (fun _ _=>rfl) ?_)|refine a9M rfl rfl rfl (by first|(simp only [hf.out,kT,kF];done)|fail) (by first|((repeat' (first|exact d9j|exact rfl|exact Or.inl rfl|exact Or.inr rfl|exact a0Y.agg|exact d9a rfl|exact d9A rfl|refine And.intro ?_ ?_|(intro hq;first|exact rfl|exact d9j|(exact d9n hq (by decide)))|exact d9y _|omega|decide|(dsimp only [List.length_cons,List.length_nil];omega)));done)|((refine dsI ?_);(try simp only [hf.out,kT,kF]);(try (repeat' (first|exact d9j|exact rfl|exact Or.inl rfl|exact Or.inr rfl|exact a0Y.agg|exact d9a rfl|exact d9A rfl|refine And.intro ?_ ?_|(intro hq;first|exact rfl|exact d9j|(exact d9n hq (by decide)))|exact d9y _|omega|decide|(dsimp only [List.length_cons,List.length_nil];omega))));done)|fail) ?_|(refine a0B rfl rfl ?_;refine a4x (fun _ _=>rfl) (by first|((repeat' (first|exact d9j|exact rfl|exact Or.inl rfl|exact Or.inr rfl|exact a0Y.agg|exact d9a rfl|exact d9A rfl|refine And.intro ?_ ?_|(intro hq;first|exact rfl|exact d9j|(exact d9n hq (by decide)))|exact d9y _|omega|decide|(dsimp only [List.length_cons,List.length_nil];omega)));done)|((refine dsI ?_);(try simp only [hf.out,kT,kF]);(try (repeat' (first|exact d9j|exact rfl|exact Or.inl rfl|exact Or.inr rfl|exact a0Y.agg|exact d9a rfl|exact d9A rfl|refine And.intro ?_ ?_|(intro hq;first|exact rfl|exact d9j|(exact d9n hq (by decide)))|exact d9y _|omega|decide|(dsimp only [List.length_cons,List.length_nil];omega))));done)|fail) ?_;refine dsI ?_;try simp only [hf.out,kT,kF])|(refine a0B rfl rfl ?_;refine a2Z (fun _ _=>rfl) (by first|((repeat' (first|exact d9j|exact rfl|exact Or.inl rfl|exact Or.inr rfl|exact a0Y.agg|exact d9a rfl|exact d9A rfl|refine And.intro ?_ ?_|(intro hq;first|exact rfl|exact d9j|(exact d9n hq (by decide)))|exact d9y _|omega|decide|(dsimp only [List.length_cons,List.length_nil];omega)));done)|((refine dsI ?_);(try simp only [hf.out,kT,kF]);(try (repeat' (first|exact d9j|exact rfl|exact Or.inl rfl|exact Or.inr rfl|exact a0Y.agg|exact d9a rfl|exact d9A rfl|refine And.intro ?_ ?_|(intro hq;first|exact rfl|exact d9j|(exact d9n hq (by decide)))|exact d9y _|omega|decide|(dsimp only [List.length_cons,List.length_nil];omega))));done)|fail) ⟨rfl,by omega⟩ (by first|exact c1|exact c2|exact c3|exact c4|exact c5|exact c6|fail) ?_;try dsimp only [D.cells])|(refine a0B rfl rfl ?_;refine a9K rfl rfl rfl (by (try dsimp only);(try simp only [hf.out,kT,kF]);exact rfl) ?_)|(refine a2Q rfl rfl rfl (by first|(simp only [hf.out,kT,kF];done)|fail) (by first|((repeat' (first|exact d9j|exact rfl|exact Or.inl rfl|exact Or.inr rfl|exact a0Y.agg|exact d9a rfl|exact d9A rfl|refine And.intro ?_ ?_|(intro hq;first|exact rfl|exact d9j|(exact d9n hq (by decide)))|exact d9y _|omega|decide|(dsimp only [List.length_cons,List.length_nil];omega)));done)|((refine dsI ?_);(try simp only [hf.out,kT,kF]);(try (repeat' (first|exact d9j|exact rfl|exact Or.inl rfl|exact Or.inr rfl|exact a0Y.agg|exact d9a rfl|exact d9A rfl|refine And.intro ?_ ?_|(intro hq;first|exact rfl|exact d9j|(exact d9n hq (by decide)))|exact d9y _|omega|decide|(dsimp only [List.length_cons,List.length_nil];omega))));done)|fail) ?_;refine a4x (fun _ _=>rfl) (by first|((repeat' (first|exact d9j|exact rfl|exact Or.inl rfl|exact Or.inr rfl|exact a0Y.agg|exact d9a rfl|exact d9A rfl|refine And.intro ?_ ?_|(intro hq;first|exact rfl|exact d9j|(exact d9n hq (by decide)))|exact d9y _|omega|decide|(dsimp only [List.length_cons,List.length_nil];omega)));done)|((refine dsI ?_);(try simp only [hf.out,kT,kF]);(try (repeat' (first|exact d9j|exact rfl|exact Or.inl rfl|exact Or.inr rfl|exact a0Y.agg|exact d9a rfl|exact d9A rfl|refine And.intro ?_ ?_|(intro hq;first|exact rfl|exact d9j|(exact d9n hq (by decide)))|exact d9y _|omega|decide|(dsimp only [List.length_cons,List.length_nil];omega))));done)|fail) ?_;refine dsI ?_;try simp only [hf.out,kT,kF])|(refine a2Q rfl rfl rfl (by first|(simp only [hf.out,kT,kF];done)|fail) (by first|((repeat' (first|exact d9j|exact rfl|exact Or.inl rfl|exact Or.inr rfl|exact a0Y.agg|exact d9a rfl|exact d9A rfl|refine And.intro ?_ ?_|(intro hq;first|exact rfl|exact d9j|(exact d9n hq (by decide)))|exact d9y _|omega|decide|(dsimp only [List.length_cons,List.length_nil];omega)));done)|((refine dsI ?_);(try simp only [hf.out,kT,kF]);(try (repeat' (first|exact d9j|exact rfl|exact Or.inl rfl|exact Or.inr rfl|exact a0Y.agg|exact d9a rfl|exact d9A rfl|refine And.intro ?_ ?_|(intro hq;first|exact rfl|exact d9j|(exact d9n hq (by decide)))|exact d9y _|omega|decide|(dsimp only [List.length_cons,List.length_nil];omega))));done)|fail) ?_;refine a2Z (fun _ _=>rfl) (by first|((repeat' (first|exact d9j|exact rfl|exact Or.inl rfl|exact Or.inr rfl|exact a0Y.agg|exact d9a rfl|exact d9A rfl|refine And.intro ?_ ?_|(intro hq;first|exact rfl|exact d9j|(exact d9n hq (by decide)))|exact d9y _|omega|decide|(dsimp only [List.length_cons,List.length_nil];omega)));done)|((refine dsI ?_);(try simp only [hf.out,kT,kF]);(try (repeat' (first|exact d9j|exact rfl|exact Or.inl rfl|exact Or.inr rfl|exact a0Y.agg|exact d9a rfl|exact d9A rfl|refine And.intro ?_ ?_|(intro hq;first|exact rfl|exact d9j|(exact d9n hq (by decide)))|exact d9y _|omega|decide|(dsimp only [List.length_cons,List.length_nil];omega))));done)|fail) ⟨rfl,by omega⟩ (by first|exact c1|exact c2|exact c3|exact c4|exact c5|exact c6|fail) ?_;try dsimp only [D.cells])|(refine a2Q rfl rfl rfl (by first|(simp only [hf.out,kT,kF];done)|fail) (by first|((repeat' (first|exact d9j|exact rfl|exact Or.inl rfl|exact Or.inr rfl|exact a0Y.agg|exact d9a rfl|exact d9A rfl|refine And.intro ?_ ?_|(intro hq;first|exact rfl|exact d9j|(exact d9n hq (by decide)))|exact d9y _|omega|decide|(dsimp only [List.length_cons,List.length_nil];omega)));done)|((refine dsI ?_);(try simp only [hf.out,kT,kF]);(try (repeat' (first|exact d9j|exact rfl|exact Or.inl rfl|exact Or.inr rfl|exact a0Y.agg|exact d9a rfl|exact d9A rfl|refine And.intro ?_ ?_|(intro hq;first|exact rfl|exact d9j|(exact d9n hq (by decide)))|exact d9y _|omega|decide|(dsimp only [List.length_cons,List.length_nil];omega))));done)|fail) ?_;refine a9K rfl rfl rfl (by (try dsimp only);(try simp only [hf.out,kT,kF]);exact rfl) ?_)|(refine a6K ?_;refine dsI ?_;try simp only [hf.out,kT,kF])|(dsimp only [smI,smF,a9P,a2f,a4G,a1m,Env.get,a7t,b7A,a5D,b3G,b1p,b1P,a0R,D.cells,ofV,Hp.get,Hp.set,Hp.del,a7R,a1n,asB,cond,a9X,b6N,b1b,a7N,b7G,a3n,List.map,List.length,List.append,List.nil_append,List.cons_append,List.append_nil,List.size_toArray,List.length_cons,List.length_nil,Value.cells,List.toList_toArray,Array.toList,Nat.reduceAdd,Nat.reduceMul,Nat.beq,Nat.reduceSub,a3n,b9H,a9P,Bool.false_and,Bool.true_and,Bool.true_or,Bool.false_or,Bool.not_true,Bool.not_false])|(simp only [hf.out,kT,kF]))
   | ((with_reducible refine d7f ?_);first|(refine a0j.same _ c1 d9k ?_;refine dsI ?_;try simp only [hf.out,kT,kF])|(refine a0j.same _ c2 d9k ?_;refine dsI ?_;try simp only [hf.out,kT,kF])|(refine a0j.same _ c3 d9k ?_;refine dsI ?_;try simp only [hf.out,kT,kF])|(refine a0j.same _ c4 d9k ?_;refine dsI ?_;try simp only [hf.out,kT,kF])|(refine a0j.same _ c5 d9k ?_;refine dsI ?_;try simp only [hf.out,kT,kF])|(refine a0j.same _ c6 d9k ?_;refine dsI ?_;try simp only [hf.out,kT,kF])|(refine a0j.same _ (c1 rfl) d9k ?_;refine dsI ?_;try simp only [hf.out,kT,kF])|(refine a0j.same _ (c2 rfl) d9k ?_;refine dsI ?_;try simp only [hf.out,kT,kF])|(refine a0j.same _ (c3 rfl) d9k ?_;refine dsI ?_;try simp only [hf.out,kT,kF])|(refine a0j.same _ (c4 rfl) d9k ?_;refine dsI ?_;try simp only [hf.out,kT,kF])|(refine a0j.same _ (c5 rfl) d9k ?_;refine dsI ?_;try simp only [hf.out,kT,kF])|(refine a0j.same _ (c6 rfl) d9k ?_;refine dsI ?_;try simp only [hf.out,kT,kF]))
   | ((with_reducible refine d7g ?_);first|(refine a0q.same _ c1 d9k ?_;refine dsI ?_;try simp only [hf.out,kT,kF])|(refine a0q.same _ c2 d9k ?_;refine dsI ?_;try simp only [hf.out,kT,kF])|(refine a0q.same _ c3 d9k ?_;refine dsI ?_;try simp only [hf.out,kT,kF])|(refine a0q.same _ c4 d9k ?_;refine dsI ?_;try simp only [hf.out,kT,kF])|(refine a0q.same _ c5 d9k ?_;refine dsI ?_;try simp only [hf.out,kT,kF])|(refine a0q.same _ c6 d9k ?_;refine dsI ?_;try simp only [hf.out,kT,kF])|(refine a0q.same _ (c1 rfl) d9k ?_;refine dsI ?_;try simp only [hf.out,kT,kF])|(refine a0q.same _ (c2 rfl) d9k ?_;refine dsI ?_;try simp only [hf.out,kT,kF])|(refine a0q.same _ (c3 rfl) d9k ?_;refine dsI ?_;try simp only [hf.out,kT,kF])|(refine a0q.same _ (c4 rfl) d9k ?_;refine dsI ?_;try simp only [hf.out,kT,kF])|(refine a0q.same _ (c5 rfl) d9k ?_;refine dsI ?_;try simp only [hf.out,kT,kF])|(refine a0q.same _ (c6 rfl) d9k ?_;refine dsI ?_;try simp only [hf.out,kT,kF]))
   | (with_reducible refine d6Q ?_)
   | (with_reducible refine d6P ?_)
   )
  exact hq.out):P:=e (.mk dr) ⟨f⟩ c1 c2 c3 c4 c5 c6 ⟨h⟩
section
variable {C:Ctx} {F:Fra} {ρ:Lk} {w w':World}
theorem d8t {H1 H2:Hp}{e:Ent}{b:Nat}(m:Mem C F ρ (H1++e::H2) w)(hb:ρ e.k e.g=some b)(hsz:w'.heap.size=w.heap.size)(h1:w'.os=w.os)(h2:w'.tape=w.tape)(h3:w'.output=w.output)
  (ho:∀ k,k≠b->w'.heap[k]? = w.heap[k]?) (hs:∀ cs,w.heap[b]? = some (.cells cs e.T (0,0))->∃ (cs':Array Value) (fz':Nat × Nat),w'.heap[b]? = some (.cells cs' e.T fz')/\cs'.size=cs.size) :
  Mem C F ρ (H1++H2) w'/\Ext ρ (Own F.X ρ (H1++e::H2)) w ρ (Own F.X ρ (H1++H2)) w':=by
 have he:e∈H1++e::H2:=by simp
 obtain ⟨cs,hc,_⟩:=m.at he hb;obtain ⟨m0,hO⟩:=m.sub (H':=H1++H2) (e2A (e2N _) (e2j _ _));have hown:Own F.X ρ (H1++e::H2) b:=.inr ⟨e,he,hb⟩;have x:Ext ρ (Own F.X ρ (H1++e::H2)) w ρ (Own F.X ρ (H1++H2)) w':=by
  refine ⟨by omega,fun _ _ _ h=>h,fun k hk hn=>⟨fun h=>hn (hO k h),ho k fun h=>hn (by rw [h];exact hown)⟩,fun k cs1 T fz h=>?_⟩
  by_cases hk:k=b
  ·subst hk
   rw [hc] at h;cases h;obtain ⟨cs',fz',q1,q2⟩:=hs cs hc;exact ⟨cs',fz',q1,q2⟩
  ·exact ⟨cs1,fz,by rw [ho k hk];exact h,rfl⟩
 have hne:∀ e'∈H1++H2,ρ e'.k e'.g≠some b:=fun e' he' hb'=>by
  have hinj:=m.hok.inj;rw [e1q,e0U] at hinj;rcases List.mem_append.1 he' with h|h
  ·exact hinj.2.2 e' h e (e0T ..) b b hb' hb rfl
  ·exact hinj.2.1.1 e' h b b hb hb' rfl
 refine ⟨⟨⟨fun e' he'=>?_,m0.hok.inj,m0.hok.own⟩,by rw [h1];exact m.os,by rw [h2];exact m.tape,by rw [h3];exact m.output,by rw [hsz];exact m.size,fun k hk hw=>?_,m.xlt,m.g0,m.gn,m.gw,m.lnk,a3W m.shp x⟩,x⟩
 ·rcases m0.hok.ent e' he' with h|⟨b',cs',q1,q2,q3⟩
  ·exact .inl h
  ·refine .inr ⟨b',cs',q1,?_,?_⟩
   ·rw [ho b' fun h=>hne e' he' (by rw [q1,h])];exact q2
   ·have he2:e'∈H1++e::H2:=by rcases List.mem_append.1 he' with h|h<;>simp [h]
    obtain ⟨cs2,r1,r2⟩:=m.at he2 q1;rw [q2] at r1;cases r1;exact r2.mono x
 ·rw [ho k fun h=>?_]
  ·exact m.blk k hk hw
  ·subst h
   have:=m.hok.own e he k hb
   rcases this.2 with h|h
   ·omega
   ·exact hw h
end
end Go.Ide
