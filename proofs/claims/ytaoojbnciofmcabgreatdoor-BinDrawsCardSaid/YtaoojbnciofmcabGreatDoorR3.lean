/- The layer of own lemmas and contracts, part 3. -/
import Derived.Test.YtaoojbnciofmcabGreatDoorR2
import Derived.RangeFuncIn
import Derived.RangeFuncRecord
import Derived.ChangeArms
import Derived.ChangeSlices
import Derived.OpenShut
set_option linter.unusedVariables false
set_option linter.unusedSimpArgs false
namespace Go.Ide
open Go.RowKit
def Kc (b:Bool)(y n:Prop):Prop:=match b with
 |true=>y
 |false=>n
theorem B1 {b:Bool}{y n:Prop}(h1:b=true->y)(h2:b=false->n):Kc b y n:=by
 cases b
 ·exact h2 rfl
 ·exact h1 rfl
theorem Fz.loose {d d':D}(h:Fz [] [] d d'):∀ {ρ:Lk} {O:Nat->Prop} {w:World} {v:Value},AW ρ O w d v->AW ρ O w d' v:=by
 induction h with
 |refl=>exact λh=>h
 |any=>exact λ_=>.any _
 |nil sz=>intro ρ O w v h;cases h;exact .nil _
 |nn nn sz es=>
  intro ρ O w v h;cases h with
  |nil=>exact .nil _
  |emp a=>exact .emp a
  |sl f hl hc hO hb hz hcell ho h=>exact .sl f hl hc hO hb hz hcell ho h
 |agg hl h ih=>
  intro ρ O w v hr;cases hr with
  |agg hn ho hh=>
   refine .agg (by omega) ho λi d' hd'=>?_
   have hi:=(BS.1 hd').1;exact ih i _ d' (Ce) hd' (hh i _ (Ce))
 |tup hl h ih=>
  intro ρ O w v hr;cases hr with
  |tup hn hh=>
   refine .tup (by omega) λi d' hd'=>?_
   have hi:=(BS.1 hd').1;exact ih i _ d' (Ce) hd' (hh i _ (Ce))
 |osl he _ _ _ _ _ _ _=>cases he
section
variable {C:BA}
inductive Bf (C:BA)(f:Nat)(ds:List D)(k:D->Prop):Prop
 |mk (ds':List D) (d:D) (hv:FH [] [] ds ds') (hc:AL C f ds' d) (hp:Ai ds') (hk:k d)
inductive BF (C:BA)(f:Nat)(ds:List D)(H:Hp)(n:Nat)(k:D->Hp->Nat->Prop):Prop
 |pure (ds':List D) (d:D) (hv:FH [] [] ds ds') (hc:AL C f ds' d) (hp:Ai ds') (hk:k d H (n+1))
 |prop (ds':List D) (Φ:D->Prop) (hv:FH [] [] ds ds') (hc:Af C f ds' Φ) (hp:Ai ds') (hk:∀d,Φ d->k d H (n+1))
 |own (Φ:D->Hp->Nat->Prop) (hc:CX C f ds H n Φ) (hk:∀d H' n',Φ d H' n'->k d H' n')
 |lend (Hf:Hp) (ds':List D) (d:D) (hH:Cs H Hf H Hf) (hv:FH H Hf ds ds') (hc:AL C f ds' d) (hp:Ai ds') (hflat:Kf d) (hk:k d H (n+1))
theorem Yr {ds ds':List D}(h:FH [] [] ds ds'){ρ:Lk}{O:Nat->Prop}{w:World}{vs:Array Value}(hr:∀(i:Nat) (d:D),ds[i]?=some d->AW ρ O w d (vs.getD i undef)):
  ∀(i:Nat) (d:D),ds'[i]?=some d->AW ρ O w d (vs.getD i undef):=λi d hd=>by
 obtain⟨l1,l2⟩:=h.spec;have hi:=(BS.1 hd).1;have h0:ds[i]?=some ds[i]:=Ce;exact(l2 i _ d h0 hd).loose (hr i _ h0)
theorem e1z {F:Ad}{ops:Array Oper}{H:Hp}{g:Nat}{env:Ap}{o:Oper}{f:Nat}{first captured ds ds':List D}{fop:Operand}{args:Array Operand}{tys:Array Nat}{d:D}(hw:CJ ops env o=some true)(ho:o.op=.call ⟨.value fop,args,tys⟩)
  (hf:BG env fop=.clo (.func f) first captured) (hds:first++args.toList.map (BG env)++captured=ds) (hv:FH [] [] ds ds') (hc:AL C f ds' d) (hp:Ai ds'):B9 C F ops H g env o d none:=by
 refine⟨by simp,λHe ρ a w m hsub fr hne hr=>.inr ⟨Hx hr hw,.inr ?_⟩⟩;obtain⟨g',h1,h2⟩:=IW hr;have hfop:fop∈o.op.operands:=by rw[ho];simp[Op.operands,Call.operands]
 have harg:∀x∈args.toList,BG env x=g' x:=λx hx=>h1 x (by rw[ho];simp[Op.operands,Call.operands];right;simpa using hx)
 rw[h1 fop hfop]at hf;rw[MD harg]at hds;obtain⟨vs,q1,q2,q3⟩:=Qp (g:=g') ho hf hc.1 h2;rw[hds]at q2 q3;have q4:=Yr hv q3;refine⟨f,vs,q1,(hc.2 (AN F.X ρ He) w vs m.g (BY m.gn m.size) (λb hb=>m.own_lt hb) (by rw[q2];exact hv.spec.1) λi d hd=>hp.out d (Ax hd) _ _ _ _ _ (q4 i d hd)).mono ?_⟩;rintro e w' ⟨v,d',rfl,hb,rfl,hrep⟩;have x:BX ρ (AN F.X ρ He) w ρ (AN F.X ρ He) w':=⟨hb.size,λ_ _ _ h=>h,λb hb' hO=>⟨hO,hb.block b hb'⟩,λb cs T fz hh=>⟨cs,_,by
  rw[hb.block b (DB.1 hh).1];exact hh,rfl⟩⟩
 exact⟨v,rfl,ρ,m.same x hb.os hb.tape hb.output hb.block,x,λ_ _ _=>rfl,hrep.nol⟩
def Ou (X:EV)(g:Operand->D)(op:Op)(acc:Prop)(k:Prop->D->Option At->Prop):Prop:=match HO X.tt g op with
 |some (d,p)=>k (p/\acc) d none
 |none=>False
def MA (X:EV)(g:Operand->D)(op:Op)(acc:Prop)(k:Prop->D->Option At->Prop):Prop:=match Gs X.tt X.xt g op with
 |some (d,p)=>k (p/\acc) d none
 |none=>False
def S8 (X:EV)(g:Operand->D)(op:Op)(acc:Prop)(k:Prop->D->Option At->Prop):Prop:=match HO X.tt g op with
 |some (d,p)=>k (p/\acc) d none
 |none=>MA X g op acc k
def S7 (X:EV)(g:Operand->D)(t:Nat)(x ix:Operand)(acc:Prop)(k:Prop->D->Option At->Prop):Prop:=match X.tt t with
 |some i=>match i.ti with
  | .slice _ esz _ _=>match g ix with
   | .prim (.int _ j)=>match g x with
    | .sl _ sz es=>acc/\(sz=esz/\0<=j)/\∃d,es[j.toNat]?=some d/\k True (.pptr d) none
    |_=>False
   |_=>False
  |_=>False
 |none=>False
def Ek (C:BA)(X:EV)(kb:Nat)(g:Operand->D)(H:Hp)(n:Nat)(op:Op)(acc:Prop)(k:Prop->D->Option At->Prop):Prop:=match op with
 | .call ⟨.value fop,args,_⟩=>match g fop with
  | .clo (.func f) first captured=>match X.nat f (first++args.toList.map g++captured)with
   |some d=>k acc d none
   |none=>acc/\Bf C f (first++args.toList.map g++captured) λd=>k True d none
  |_=>False
 | .call ⟨.builtin .append,_,_⟩=>match EY X.tt [] n kb g op with
  |some (d,[e],p)=>k (p/\acc) d (some e)
  |_=>False
 | .load _ _ | .alloc _ | .box _ _ | .buildSlice _ _ _=>match Ev X.tt H n kb g op with
  |some (d,ne,p)=>k (p/\acc) d ne
  |none=>False
 | .indexAddr t x ix=>match HO X.tt g op with
  |some (d,p)=>k (p/\acc) d none
  |none=>S7 X g t x ix acc k
 | .makeInterface _ _ | .lookup _ _ _ _=>MA X g op acc k
 | .binOp _ _ _ _ _=>S8 X g op acc k
 |_=>Ou X g op acc k
structure Dg (C:BA)(X:EV):Prop where
 tt:C5 C.P X.tt
 xt:M0 C.P X.xt
 mixed:C.P.follows .mixedOrders=true
 mt:∀t name f,X.mt t name=some f->∀v w,(method (C.P.types.size+Made.depth) t v name).run C.P w=.ok (f,v) w
 nat:∀f ds d,X.nat f ds=some d->LJ C f ds d
theorem Fk.w {X:EV}(h:Fk C X):Dg C X:=⟨h.tt,h.xt,h.mixed,h.mt,h.nat⟩
variable {F:Ad} {X:EV} {ops:Array Oper}
theorem WE (hX:Dg C X){kb:Nat}{H:Hp}{n:Nat}{env:Ap}{o:Oper}{acc:Prop}{k:Prop->D->Option At->Prop}(hw:CJ ops env o=some true)(hk:∀acc d ne,k acc d ne->acc)
  (h:Ek C X kb (BG env) H n o.op acc k):acc/\∃acc' d ne,B9 C F ops H n env o d ne/\k acc' d ne:=by
 have pe:Ou X (BG env) o.op acc k->acc/\∃acc' d ne,B9 C F ops H n env o d ne/\k acc' d ne:=λh=>by
  unfold Ou at h;split at h
  ·rename_i d p he
   have:=hk _ _ _ h
   exact⟨this.2,_,_,_,B9.p hX.tt hw he this.1,h⟩
  ·exact h.elim
 have qe:MA X (BG env) o.op acc k->acc/\∃acc' d ne,B9 C F ops H n env o d ne/\k acc' d ne:=λh=>by
  unfold MA at h;split at h
  ·rename_i d p he
   have:=hk _ _ _ h
   exact⟨this.2,_,_,_,B9.q hX.tt hX.xt hw he this.1,h⟩
  ·exact h.elim
 have le:(match Ev X.tt H n kb (BG env) o.op with
   |some (d,ne,p)=>k (p/\acc) d ne
   |none=>False)->acc/\∃acc' d ne,B9 C F ops H n env o d ne/\k acc' d ne:=λh=>by
  split at h
  ·rename_i d ne p he
   have:=hk _ _ _ h
   exact⟨this.2,_,_,_,B9.l' kb hX.tt hw he this.1,h⟩
  ·exact h.elim
 unfold Ek at h;split at h
 ·rename_i fop args tys ho
  split at h
  ·rename_i f first captured hf
   split at h
   ·rename_i d hn
    exact⟨hk _ _ _ h,_,_,_,B9.nat hw ho hf rfl (hX.nat _ _ _ hn),h⟩
   ·obtain⟨h1,⟨ds',d,hv,hc,hp,h2⟩⟩:=h
    exact⟨h1,_,_,_,e1z hw ho hf rfl hv hc hp,h2⟩
  ·exact h.elim
 ·split at h
  ·rename_i d e p he
   have:=hk _ _ _ h
   exact⟨this.2,_,_,_,jS kb hX.tt hw he this.1,h⟩
  ·exact h.elim
 ·exact le h
 ·exact le h
 ·exact le h
 ·exact le h
 ·rename_i t x ix ho
  split at h
  ·rename_i d p he
   have:=hk _ _ _ h
   exact⟨this.2,_,_,_,B9.p hX.tt hw he this.1,h⟩
  ·unfold S7 at h
   split at h<;>first|exact h.elim|skip
   rename_i i h1;split at h<;>first|exact h.elim|skip
   rename_i e esz eby ez h2;split at h<;>first|exact h.elim|skip
   rename_i kk j h3;split at h<;>first|exact h.elim|skip
   rename_i nn sz es h4;obtain⟨ha,⟨rfl,hj⟩,d,hd,hk'⟩:=h;exact⟨ha,_,_,_,B9.idx hX.tt hw ho h1 h2 h3 h4 hj hd,hk'⟩
 ·exact qe h
 ·exact qe h
 ·unfold S8 at h
  split at h
  ·rename_i d p he
   have:=hk _ _ _ h
   exact⟨this.2,_,_,_,B9.p hX.tt hw he this.1,h⟩
  ·exact qe h
 ·exact pe h
def Dl:List Oper->Nat->Option Oper
 | [],_=>none
 |o::_,0=>some o
 |_::l,i+1=>Dl l i
theorem aU:∀(l:List Oper) (i:Nat),Dl l i=l[i]?
 | [],_=>by simp[Dl]
 |o::l,0=>by simp[Dl]
 |o::l,i+1=>by simp[Dl,aU l i]
def Fj:List Oper->Nat
 | []=>0
 |_::l=>Fj l+1
theorem Rt:∀l:List Oper,Fj l=l.length
 | []=>rfl
 |_::l=>by simp[Fj,Rt l]
theorem Ma {i:Nat}{o:Oper}(h:Dl ops.toList i=some o):ops[i]?=some o:=by
 rw[aU]at h;simpa using h
def Em (C:BA)(X:EV)(kb:Nat)(ops:Array Oper)(H:Hp)(n:Nat):List Nat->Ap->Hp->Prop->(Prop->Ap->Hp->Prop)->Prop
 | [],env,N,acc,K=>K acc env N
 |i::l,env,N,acc,K=>match Dl ops.toList i with
  |some o=>match o.guard with
   |none=>Ek C X (kb+i) (BG env) H (n+i) o.op acc λacc d ne=>Em C X kb ops H n l (Bh env o.dst d) (DF ne N) acc K
   |some _=>match CJ ops env o with
    |some b=>acc/\Kc b (Ek C X (kb+i) (BG env) H (n+i) o.op True λacc d ne=>Em C X kb ops H n l (Bh env o.dst d) (DF ne N) acc K)
      (Em C X kb ops H n l (Bh env o.dst (.prim (.tuple #[]))) N True K)
    |none=>False
  |none=>False
theorem RO {kb:Nat}{H:Hp}{n:Nat}(hX:Dg C X){K:Prop->Ap->Hp->Prop}(hK:∀acc env N,K acc env N->acc):∀ {l:List Nat} {env:Ap} {N:Hp} {acc:Prop},Em C X kb ops H n l env N acc K ->
  acc/\∃acc' env' N',JX C F ops H n l env N env' N'/\K acc' env' N'
 | [],env,N,acc,h=>⟨hK _ _ _ h,_,_,_,.nil _ _,h⟩
 |i::l,env,N,acc,h=>by
  simp only[Em]at h;split at h<;>first|exact h.elim|skip
  rename_i o ho;have ho:=Ma ho;have step:∀acc,CJ ops env o=some true->(Ek C X (kb+i) (BG env) H (n+i) o.op acc λacc d ne=>Em C X kb ops H n l (Bh env o.dst d) (DF ne N) acc K)->acc/\∃acc' env' N',JX C F ops H n (i::l) env N env' N'/\K acc' env' N':=λacc hw h=>by
   obtain⟨h1,acc1,d,ne,h2,h3⟩:=WE (F:=F) hX hw (λacc d ne h=>(RO hX hK h).1) h;obtain⟨_,acc2,env2,N2,h4,h5⟩:=RO hX hK h3;exact⟨h1,_,_,_,.cons ho h2 h4,h5⟩
  split at h
  ·rename_i hg
   exact step _ (by unfold CJ;rw[hg]) h
  ·split at h<;>first|exact h.elim|skip
   rename_i b hb;obtain⟨h0,h⟩:=h;cases b with
   |true=>
    obtain⟨_,h1⟩:=step _ hb h;exact⟨h0,h1⟩
   |false=>
    obtain⟨_,acc2,env2,N2,h4,h5⟩:=RO hX hK h;exact⟨h0,_,_,_,.cons ho (B9.skip hb) h4,h5⟩
theorem BF.ok {F:Ad}{ops:Array Oper}{s:St}{o:Oper}{os:List Oper}{K:St->Prop}{f:Nat}{ds:List D}{k:D->Hp->Nat->Prop}(hw:CJ ops s.env o=some true)
  (hrun:KA C.P f->∀(ρ:Lk) (a:Act) (w:World),Br C F ρ s a w->∃vs,(execOp a.eval o).run C.P w=.ok (.enter f vs) w/\vs.size=ds.length/\∀(i:Nat) (d:D),ds[i]?=some d->AW ρ (AN F.X ρ s.H) w d (vs.getD i undef))
  (h:BF C f ds s.H s.n k) (hk:∀d H n,k d H n->BK C F ops os ⟨Bh s.env o.dst d,H,n⟩ K):BK C F ops (o::os) s K:=by
 have prop:∀(ds':List D) (Φ:D->Prop),FH [] [] ds ds'->Af C f ds' Φ->Ai ds'->(∀d,Φ d->k d s.H (s.n+1))->BK C F ops (o::os) s K:=λds' Φ hv hc hp hk'=>by
  refine jF (f:=f) hw (λρ a w hs=>?_) λd hd=>hk _ _ _ (hk' d hd)
  obtain⟨vs,h1,h2,h3⟩:=hrun hc.1 ρ a w hs;have q4:=Yr hv h3;refine⟨vs,h1,(hc.2 (AN F.X ρ s.H) w vs hs.mem.g (BY hs.mem.gn hs.mem.size) (λb hb=>hs.mem.own_lt hb) (by rw[h2];exact hv.spec.1) λi d hd=>hp.out d (Ax hd) _ _ _ _ _ (q4 i d hd)).mono ?_⟩;rintro e w' ⟨v,d,a1,a2,a3,a4⟩;exact⟨v,d,a1,a2,a3,a4.nol⟩
 cases h with
 |pure ds' d hv hc hp hk'=>exact prop ds' _ hv hc hp λd' hd=>by subst hd;exact hk'
 |prop ds' Φ hv hc hp hk'=>exact prop ds' Φ hv hc hp hk'
 |own Φ hc hk'=>
  intro hd l hl ρ a w hs;cases l with
  |nil=>simp at hl
  |cons i l=>
   simp only[Cx,Eu]at hl;simp only[GX,BZ]at hd;obtain⟨vs,h1,h2,h3⟩:=hrun hc.1 ρ a w hs;simp only[wpOps,hl.1];rw[AI (MT hs.env hw)];refine .inl ?_;unfold Oper.wp;rw[h1];refine(hc.2 F ρ w vs hs.mem hs.fresh hs.gen h2 h3).mono ?_;rintro e w' ⟨v,d,H',n',ρ',rfl,hΦ,m,x,fr,g,r⟩;exact hk d H' n' (hk' d H' n' hΦ) hd.2 l hl.2 ρ' (a.put o.dst v) w' (hs.put m x fr g r hd.1)
 |lend Hf ds' d hH hv hc hp hflat hk'=>
  refine jF (f:=f) (Φ:=λd'=>d'=d) hw (λρ a w hs=>?_) λd' hd=>by subst hd;exact hk _ _ _ hk'
  obtain⟨vs,h1,h2,h3⟩:=hrun hc.1 ρ a w hs;obtain⟨m,hO,hN⟩:=hH.mem hs.mem;obtain⟨l1,l2⟩:=hv.spec;refine⟨vs,h1,(hc.2 (AN F.X ρ Hf) w vs hs.mem.g (BY hs.mem.gn hs.mem.size) (λb hb=>m.own_lt hb) (by omega) λi d hd=>?_).mono ?_⟩
  ·have hi:i<ds'.length:=(BS.1 hd).1
   have hd0:ds[i]?=some ds[i]:=Ce;exact hp.out d (Ax hd) _ _ _ _ _ ((l2 i _ d hd0 hd).rep hs.mem hO hN (h3 i _ hd0))
  ·rintro e w' ⟨v,d',a1,a2,a3,a4⟩
   subst a3;exact⟨v,d',a1,a2,rfl,hflat _ _ _ _ _ _ _ a4⟩
def GM (C:BA)(X:EV)(kb:Nat)(g:Operand->D)(H:Hp)(n:Nat)(op:Op)(acc:Prop)(k:Prop->D->Hp->Nat->Prop):Prop:=match op with
 | .call ⟨.value fop,args,_⟩=>match g fop with
  | .clo (.func f) first captured=>match X.nat f (first++args.toList.map g++captured)with
   |some d=>k acc d H (n+1)
   |none=>acc/\BF C f (first++args.toList.map g++captured) H n λd H' n'=>k True d H' n'
  |_=>False
 | .call ⟨.invoke r name,args,_⟩=>match g r with
  | .ifc t d0=>match X.mt t name with
   |some f=>acc/\BF C f (d0::args.toList.map g) H n λd H' n'=>k True d H' n'
   |none=>False
  |_=>False
 | .call ⟨.builtin .append,_,_⟩=>match EY X.tt H n kb g op with
  |some (d,H',p)=>k (p/\acc) d H' (n+1)
  |none=>match OQ X.tt H n kb g op with
   |some (d,H',p)=>k (p/\acc) d H' (n+1)
   |none=>False
 | .makeSlice _ _ _=>match Kx X.tt n kb g op with
  |some (d,e,p)=>k (p/\acc) d (e::H) (n+1)
  |none=>False
 | .store _ _ _=>match Fu X.tt H g op with
  |some (j,e,p)=>k (p/\acc) (.prim (.tuple #[])) (Hp.set H j e) (n+1)
  |none=>False
 | .load _ _ | .alloc _ | .box _ _ | .buildSlice _ _ _=>match Ev X.tt H n kb g op with
  |some (d,ne,p)=>k (p/\acc) d (DF ne H) (n+1)
  |none=>False
 | .indexAddr t x ix=>match HO X.tt g op with
  |some (d,p)=>k (p/\acc) d H (n+1)
  |none=>S7 X g t x ix acc λacc d _=>k acc d H (n+1)
 | .makeInterface _ _ | .lookup _ _ _ _=>MA X g op acc λacc d _=>k acc d H (n+1)
 | .binOp _ _ _ _ _=>S8 X g op acc λacc d _=>k acc d H (n+1)
 |_=>Ou X g op acc λacc d _=>k acc d H (n+1)
theorem fe (hX:Dg C X){kb:Nat}{s:St}{o:Oper}{os:List Oper}{acc:Prop}{k:Prop->D->Hp->Nat->Prop}{K:St->Prop}(hw:CJ ops s.env o=some true)(hk:∀acc d H n,k acc d H n->acc/\BK C F ops os ⟨Bh s.env o.dst d,H,n⟩ K)
  (h:GM C X kb (BG s.env) s.H s.n o.op acc k):acc/\BK C F ops (o::os) s K:=by
 have pe:Ou X (BG s.env) o.op acc (λacc d _=>k acc d s.H (s.n+1))->acc/\BK C F ops (o::os) s K:=λh=>by
  unfold Ou at h;split at h
  ·rename_i d p he
   obtain⟨⟨hp,ha⟩,h2⟩:=hk _ _ _ _ h;exact⟨ha,BK.p hX.tt hw he hp h2⟩
  ·exact h.elim
 have qe:MA X (BG s.env) o.op acc (λacc d _=>k acc d s.H (s.n+1))->acc/\BK C F ops (o::os) s K:=λh=>by
  unfold MA at h;split at h
  ·rename_i d p he
   obtain⟨⟨hp,ha⟩,h2⟩:=hk _ _ _ _ h;exact⟨ha,BK.q hX.tt hX.xt hw he hp h2⟩
  ·exact h.elim
 have le:(match Ev X.tt s.H s.n kb (BG s.env) o.op with
   |some (d,ne,p)=>k (p/\acc) d (DF ne s.H) (s.n+1)
   |none=>False)->acc/\BK C F ops (o::os) s K:=λh=>by
  split at h
  ·rename_i d ne p he
   obtain⟨⟨hp,ha⟩,h2⟩:=hk _ _ _ _ h;exact⟨ha,BK.l' kb hX.tt hw he hp h2⟩
  ·exact h.elim
 unfold GM at h;split at h
 ·rename_i fop args tys ho
  split at h
  ·rename_i f first captured hf
   split at h
   ·rename_i d hn
    obtain⟨ha,h2⟩:=hk _ _ _ _ h;exact⟨ha,BK.nat hw ho hf rfl (hX.nat _ _ _ hn) h2⟩
   ·obtain⟨h1,h⟩:=h
    refine⟨h1,?_⟩;exact BF.ok hw (λhc ρ a w hs=>XR ho hf hc hs) h λd H n hk'=>(hk _ _ _ _ hk').2
  ·exact h.elim
 ·rename_i r name args tys ho
  split at h<;>first|exact h.elim|skip
  rename_i t d0 hr;split at h<;>first|exact h.elim|skip
  rename_i f hf;obtain⟨h1,h⟩:=h;refine⟨h1,?_⟩;exact BF.ok hw (λhc ρ a w hs=>Xs ho hr (hX.mt _ _ _ hf) hc hs) h λd H n hk'=>(hk _ _ _ _ hk').2
 ·split at h
  ·rename_i d H' p he
   obtain⟨⟨hp,ha⟩,h2⟩:=hk _ _ _ _ h;exact⟨ha,jE kb hX.tt hw he hp h2⟩
  ·split at h<;>first|exact h.elim|skip
   rename_i d H' p he;obtain⟨⟨hp,ha⟩,h2⟩:=hk _ _ _ _ h;exact⟨ha,e0J kb hX.tt hw he hp h2⟩
 ·split at h<;>first|exact h.elim|skip
  rename_i d e p he;obtain⟨⟨hp,ha⟩,h2⟩:=hk _ _ _ _ h;exact⟨ha,jG kb hX.tt hw he hp h2⟩
 ·split at h<;>first|exact h.elim|skip
  rename_i j e p he;obtain⟨⟨hp,ha⟩,h2⟩:=hk _ _ _ _ h;exact⟨ha,BK.store hX.tt hw he hp h2⟩
 ·exact le h
 ·exact le h
 ·exact le h
 ·exact le h
 ·rename_i t x ix ho
  split at h
  ·rename_i d p he
   obtain⟨⟨hp,ha⟩,h2⟩:=hk _ _ _ _ h;exact⟨ha,BK.p hX.tt hw he hp h2⟩
  ·unfold S7 at h
   split at h<;>first|exact h.elim|skip
   rename_i i h1;split at h<;>first|exact h.elim|skip
   rename_i e esz eby ez h2;split at h<;>first|exact h.elim|skip
   rename_i kk j h3;split at h<;>first|exact h.elim|skip
   rename_i nn sz es h4;obtain⟨ha,⟨rfl,hj⟩,d,hd,hk'⟩:=h;exact⟨ha,BK.idx hX.tt hw ho h1 h2 h3 h4 hj hd (hk _ _ _ _ hk').2⟩
 ·exact qe h
 ·exact qe h
 ·unfold S8 at h
  split at h
  ·rename_i d p he
   obtain⟨⟨hp,ha⟩,h2⟩:=hk _ _ _ _ h;exact⟨ha,BK.p hX.tt hw he hp h2⟩
  ·exact qe h
 ·exact pe h
def C7 (C:BA)(X:EV)(kb:Nat)(ops:Array Oper):List Nat->St->Prop->(Prop->St->Prop)->Prop
 | [],s,acc,K=>K acc s
 |i::l,s,acc,K=>match Dl ops.toList i with
  |some o=>match o.guard with
   |none=>GM C X (kb+i) (BG s.env) s.H s.n o.op acc λacc d H n=>C7 C X kb ops l ⟨Bh s.env o.dst d,H,n⟩ acc K
   |some _=>match CJ ops s.env o with
    |some b=>acc/\Kc b (GM C X (kb+i) (BG s.env) s.H s.n o.op True λacc d H n=>C7 C X kb ops l ⟨Bh s.env o.dst d,H,n⟩ acc K)
      (C7 C X kb ops l ⟨Bh s.env o.dst (.prim (.tuple #[])),s.H,s.n+1⟩ True K)
    |none=>False
  |none=>False
theorem rO {i:Nat}{o:Oper}(h:Dl ops.toList i=some o):ops.getD i default=o:=by
 have:=Ma h
 simp[Av,this]
theorem F5 {kb:Nat}(hX:Dg C X){K:Prop->St->Prop}{K':St->Prop}(hK:∀acc s,K acc s->acc/\K' s):∀ {l:List Nat} {s:St} {acc:Prop},C7 C X kb ops l s acc K ->
  acc/\BK C F ops (l.map λj=>ops.getD j default) s K'
 | [],s,acc,h=>⟨(hK _ _ h).1,BK.nil (hK _ _ h).2⟩
 |i::l,s,acc,h=>by
  simp only[C7]at h;split at h<;>first|exact h.elim|skip
  rename_i o ho;rw[Cx,rO ho];split at h
  ·rename_i hg
   exact fe hX (by unfold CJ;rw[hg]) (λacc d H n h=>F5 hX hK h) h
  ·split at h<;>first|exact h.elim|skip
   rename_i b hb;obtain⟨h0,h⟩:=h;cases b with
   |true=>exact⟨h0,(fe hX hb (λacc d H n h=>F5 hX hK h) h).2⟩
   |false=>exact⟨h0,BK.skip hb (F5 hX hK h).2⟩
def Lz (X:EV)(kb:Nat)(e:At)(n:Nat)(g:Operand->D)(op:Op)(acc:Prop)(k:Prop->D->At->Prop):Prop:=match op with
 | .store _ _ _=>match Fu X.tt [e] g op with
  |some (_,e',p)=>k (p/\acc) (.prim (.tuple #[])) e'
  |none=>False
 |_=>match EY X.tt [e] n kb g op with
  |some (d,[e'],p)=>k (p/\acc) d e'
  |_=>False
def Ex (C:BA)(X:EV)(kb:Nat)(ops:Array Oper)(iw:Nat)(ia:Option Nat)(R:Hp)(clo:List Nat)(n:Nat):List Nat->Ap->Hp->Option At->Option At->Prop->(Prop->Ap->Hp->At->At->Prop)->Prop
 | [],env,N,some e,some e',acc,K=>K acc env N e e'
 | [],_,_,_,_,_,_=>False
 |i::l,env,N,accE,acc',acc,K=>match Dl ops.toList i with
  |some o=>match Nat.beq i iw with
   |true=>match acc' with
    |some _=>False
    |none=>match accE with
     |some e=>match o.guard with
      |none=>Lz X (kb+i) e (n+i) (BG env) o.op acc λacc d e'=>Ex C X kb ops iw ia R clo n l (Bh env o.dst d) N accE (some e') acc K
      |some _=>False
     |none=>False
   |false=>match JJ ia i with
    |true=>match accE with
     |some _=>False
     |none=>match o.guard with
      |none=>Ek C X (kb+i) (BG env) R (n+i) o.op acc λacc d ne=>match ne with
       |some e=>Ex C X kb ops iw ia R clo n l (Bh env o.dst d) N (some e) acc' acc K
       |none=>False
      |some _=>False
    |false=>match o.guard with
     |none=>Ek C X (kb+i) (BG env) (If ia accE R (Cq i clo)) (n+i) o.op acc λacc d ne=>Ex C X kb ops iw ia R clo n l (Bh env o.dst d) (DF ne N) accE acc' acc K
     |some _=>match CJ ops env o with
      |some b=>acc/\Kc b (Ek C X (kb+i) (BG env) (If ia accE R (Cq i clo)) (n+i) o.op True λacc d ne=>Ex C X kb ops iw ia R clo n l (Bh env o.dst d) (DF ne N) accE acc' acc K)
        (Ex C X kb ops iw ia R clo n l (Bh env o.dst (.prim (.tuple #[]))) N accE acc' True K)
      |none=>False
  |none=>False
theorem sE (hX:Dg C X){kb iw:Nat}{ia:Option Nat}{R:Hp}{e:At}{n:Nat}{env:Ap}{o:Oper}{acc:Prop}{k:Prop->D->At->Prop}(hw:CJ ops env o=some true)(hk:∀acc d e',k acc d e'->acc)(h:Lz X kb e n (BG env) o.op acc k):
  acc/\∃acc' d e',I1 C F ops ⟨iw,ia,e,e',R⟩ n env o d/\k acc' d e':=by
 unfold Lz at h;split at h
 ·split at h<;>first|exact h.elim|skip
  rename_i e' p he
  have:=hk _ _ _ h
  exact⟨this.2,_,_,_,I1.store (W:=⟨iw,ia,e,e',R⟩) hX.tt hw he this.1,h⟩
 ·split at h<;>first|exact h.elim|skip
  rename_i d e' p he
  have:=hk _ _ _ h
  exact⟨this.2,_,_,_,I1.app (W:=⟨iw,ia,e,e',R⟩) kb hX.tt hw he this.1,h⟩
theorem LA (hX:Dg C X){kb iw:Nat}{ia:Option Nat}{R:Hp}{clo:List Nat}{n:Nat}(hwa:ia≠some iw)(hclo:∀j∈clo,Dw ops iw j){K:Prop->Ap->Hp->At->At->Prop}(hK:∀acc env N e e',K acc env N e e'->acc):
  ∀ {l:List Nat} {env:Ap} {N:Hp} {accE acc':Option At} {acc:Prop},Ex C X kb ops iw ia R clo n l env N accE acc' acc K ->
  acc/\∃q env' N' e e',(∀a,accE=some a->e=a)/\(∀a,acc'=some a->e'=a)/\JG C F ops ⟨iw,ia,e,e',R⟩ n l env N env' N'/\K q env' N' e e'
 | [],env,N,accE,acc',acc,h=>by
  cases accE with
  |none=>simp only[Ex]at h
  |some e=>cases acc' with
   |none=>simp only[Ex]at h
   |some e'=>
    simp only[Ex]at h;exact⟨hK _ _ _ _ _ h,_,_,_,e,e',λa ha=>by cases ha;rfl,λa ha=>by cases ha;rfl,.nil _ _,h⟩
 |i::l,env,N,accE,acc',acc,h=>by
  simp only[Ex]at h;split at h<;>first|exact h.elim|skip
  rename_i o ho;have ho:=Ma ho;split at h
  ·rename_i hb
   have hb:=CC hb;split at h<;>first|exact h.elim|skip
   split at h<;>first|exact h.elim|skip
   rename_i e0;split at h<;>first|exact h.elim|skip
   rename_i hg;have hw:CJ ops env o=some true:=by unfold CJ;rw[hg]
   obtain⟨h1,acc1,d,e1,h2,h3⟩:=sE (F:=F) (iw:=iw) (ia:=ia) (R:=R) hX hw (λacc d e' h=>(LA hX hwa hclo hK h).1) h;obtain⟨_,q,env',N',e,e',h4,h5,h6,h7⟩:=LA hX hwa hclo hK h3
   have:=h4 _ rfl
   subst this
   have:=h5 _ rfl
   subst this;exact⟨h1,q,env',N',_,_,h4,by simp,.cons (ne:=none) ho (.inr (.inl ⟨hb,by rw[hb];exact hwa,rfl,h2⟩)) h6,h7⟩
  ·rename_i hb
   have hne:i≠iw:=λhi=>by rw[hi,L5]at hb;cases hb
   split at h
   ·rename_i hi
    have hi:=Rh.1 hi;split at h<;>first|exact h.elim|skip
    split at h<;>first|exact h.elim|skip
    rename_i hg;have hw:CJ ops env o=some true:=by unfold CJ;rw[hg]
    obtain⟨h1,acc1,d,ne,h2,h3⟩:=WE (F:=F) hX hw (λacc d ne h=>by
     split at h
     ·exact(LA hX hwa hclo hK h).1
     ·exact h.elim) h
    split at h3<;>first|exact h3.elim|skip
    rename_i e0;obtain⟨_,q,env',N',e,e',h4,h5,h6,h7⟩:=LA hX hwa hclo hK h3
    have:=h4 _ rfl
    subst this;exact⟨h1,q,env',N',_,_,by simp,h5,.cons (ne:=none) ho (.inr (.inr ⟨hne,hi,rfl,h2⟩)) h6,h7⟩
   ·rename_i hi
    have hi:ia≠some i:=λh=>by rw[Rh.2 h]at hi;cases hi
    have st:∀ {e:At} {d:D} {ne:Option At} (e':At),(∀a,accE=some a->e=a)->B9 C F ops (If ia accE R (Cq i clo)) (n+i) env o d ne->OO C F ops ⟨iw,ia,e,e',R⟩ (n+i) env ⟨i,o,d,ne⟩:=λ{e d ne} e' hacc hst=>by
     refine .inl ⟨hne,hi,?_⟩;unfold If at hst;cases ia with
     |some ia=>exact .inr hst
     |none=>
      cases accE with
      |none=>exact .inr hst
      |some a=>
       have:=hacc a rfl
       subst this;dsimp only at hst;cases hm:Cq i clo with
       |true=>rw[hm]at hst;exact .inl ⟨rfl,hclo i (H4.1 hm),hst⟩
       |false=>rw[hm]at hst;exact .inr hst
    have step:∀acc,CJ ops env o=some true->(Ek C X (kb+i) (BG env) (If ia accE R (Cq i clo)) (n+i) o.op acc λacc d ne=>Ex C X kb ops iw ia R clo n l (Bh env o.dst d) (DF ne N) accE acc' acc K) ->
      acc/\∃q env' N' e e',(∀a,accE=some a->e=a)/\(∀a,acc'=some a->e'=a)/\JG C F ops ⟨iw,ia,e,e',R⟩ n (i::l) env N env' N'/\K q env' N' e e':=λacc hw h=>by
     obtain⟨h1,acc1,d,ne,h2,h3⟩:=WE (F:=F) hX hw (λacc d ne h=>(LA hX hwa hclo hK h).1) h;obtain⟨_,q,env',N',e,e',h4,h5,h6,h7⟩:=LA hX hwa hclo hK h3;exact⟨h1,q,env',N',e,e',h4,h5,.cons ho (st e' h4 h2) h6,h7⟩
    split at h
    ·rename_i hg
     exact step _ (by unfold CJ;rw[hg]) h
    ·split at h<;>first|exact h.elim|skip
     rename_i b hb;obtain⟨h0,h⟩:=h;cases b with
     |true=>exact⟨h0,(step _ hb h).2⟩
     |false=>
      obtain⟨_,q,env',N',e,e',h4,h5,h6,h7⟩:=LA hX hwa hclo hK h;exact⟨h0,q,env',N',e,e',h4,h5,.cons (ne:=none) ho (st e' h4 (B9.skip hb)) h6,h7⟩
structure DG (C:BA)(F F':Ad):Prop where
 nt:F'.nt=F.nt
 sz:F.w0.heap.size<=F'.w0.heap.size
 mem:∀ {ρ:Lk} {H:Hp} {w:World},Am C F' ρ H w->Am C F ρ H w
 X:∀b,F.X b->F'.X b
 df:∃ms:List Deferred,F'.df=ms++F.df/\(∃rs:List Nat,ms=rs.map (λr=>{ target:=.collected r,args:=#[] })/\rs.Nodup /\
  ∀r∈rs,F.w0.heap.size<=r/\r<F'.w0.heap.size/\F'.X r/\∀(ρ:Lk) (H:Hp) (w:World),Am C F' ρ H w->w.heap[r]?=some (.deferred (some [])))
theorem DG.refl (F:Ad):DG C F F:=⟨rfl,Ar _,λh=>h,λ_ h=>h,[],rfl,[],rfl,.nil,by simp⟩
theorem DG.trans {F F' F'':Ad}(h:DG C F F')(k:DG C F' F''):DG C F F'':=by
 obtain⟨h1,h2,h3,h4,ms,e1,rs,e2,n1,q1⟩:=h;obtain⟨k1,k2,k3,k4,ms',e1',rs',e2',n1',q1'⟩:=k;refine⟨k1.trans h1,BY h2 k2,λh=>h3 (k3 h),λb hb=>k4 b (h4 b hb),ms'++ms,by rw[e1',e1,Du],rs'++rs,by rw[e2,e2',Cz],?_,?_⟩
 ·refine EM.2 ⟨n1',n1,λx hx y hy he=>?_⟩
  have:=(q1' x hx).1
  have:=(q1 y hy).2.1
  omega
 ·intro r hr
  rcases Bp.1 hr with hr|hr
  ·obtain⟨x1,x2,x3,x4⟩:=q1' r hr
   exact⟨by omega,x2,x3,x4⟩
  ·obtain⟨x1,x2,x3,x4⟩:=q1 r hr
   exact⟨x1,by omega,k4 _ x3,λρ H w m=>x4 ρ H w (k3 m)⟩
def F8 (C:BA)(F:Ad)(Q:Exit->Ad->St->Prop):Exit->Act->World->Prop:=λe a w=>∃F' s' ρ',DG C F F'/\Q e F' s'/\Br C F' ρ' s' a w
theorem F8.up {F F':Ad}{Q:Exit->Ad->St->Prop}(h:DG C F F'){e:Exit}{a:Act}{w:World}:F8 C F' Q e a w->F8 C F Q e a w:=λ⟨F2,s',ρ',h1,h2,h3⟩=>⟨F2,s',ρ',h.trans h1,h2,h3⟩
structure AC (C:BA)(B:Ad)(rd:Option Nat)(F:Ad)(c:Code)(s:St)(Q:Exit->Ad->St->Prop):Prop where
 out:DG C B F->Di B.nt c=true->∀(ρ:Lk) (a:Act) (w:World),Br C F ρ s a w->c.wpIn (fw rd) 0 C.P (F8 C B Q) a w
variable {s:St} {rd:Option Nat} {B:Ad} {Q:Exit->Ad->St->Prop}
theorem AC.mono {c:Code}{Q':Exit->Ad->St->Prop}(h:AC C B rd F c s Q)(hq:∀e F s,Q e F s->Q' e F s):AC C B rd F c s Q':=
 ⟨λhB hd ρ a w hs=>wpIn_mono (h.out hB hd ρ a w hs) λe a w ⟨F',s',ρ',h1,h2,h3⟩=>⟨F',s',ρ',h1,hq _ _ _ h2,h3⟩⟩
theorem AC.skip (h:Q .normal F s):AC C B rd F .skip s Q:=⟨λhB _ ρ _ _ hs=>wpIn_skip ⟨F,s,ρ,hB,h,hs⟩⟩
theorem AC.ret (h:Q .ret F s):AC C B rd F .ret s Q:=⟨λhB _ ρ _ _ hs=>wpIn_ret ⟨F,s,ρ,hB,h,hs⟩⟩
theorem AC.exit {i:Nat}(h:Q (.exit i) F s):AC C B rd F (.exit i) s Q:=⟨λhB _ ρ _ _ hs=>wpIn_exit ⟨F,s,ρ,hB,h,hs⟩⟩
def Jr (n:Prop)(r:Exit->Prop)(e:Exit):Prop:=match e with
 | .normal=>n
 | .ret=>r .ret
 | .exit j=>r (.exit j)
 | .goto l=>r (.goto l)
 | .panic c=>r (.panic c)
 | .outgrown=>r .outgrown
theorem kL {nt:Nat}{a b:Code}(h:Di nt (.seq a b)=true):Di nt a=true/\Di nt b=true:=by simpa[Di]using h
theorem AC.seq {a b:Code}(h:AC C B rd F a s (λe F s=>Jr (AC C B rd F b s Q) (λe=>Q e F s) e)):AC C B rd F (.seq a b) s Q:=
 ⟨λhB hd ρ x w hs=>by
  obtain⟨d1,d2⟩:=kL hd;refine wpIn_seq (wpIn_mono (h.out hB d1 ρ x w hs) ?_);rintro e a' w' ⟨F',s',ρ',h1,h2,h3⟩;cases e with
  |normal=>exact(show AC C B rd F' b s' Q from h2).out h1 d2 ρ' a' w' h3
  |ret=>exact⟨F',s',ρ',h1,h2,h3⟩
  |exit j=>exact⟨F',s',ρ',h1,h2,h3⟩
  |goto l=>exact⟨F',s',ρ',h1,h2,h3⟩
  |panic c=>exact⟨F',s',ρ',h1,h2,h3⟩
  |outgrown=>exact⟨F',s',ρ',h1,h2,h3⟩⟩
def N7 (d:D)(y n:Prop):Prop:=match d with
 | .prim (.bool b)=>Kc b y n
 |_=>False
theorem AC.cond {c:Operand}{a b:Code}(h:N7 (BG s.env c) (AC C B rd F a s Q) (AC C B rd F b s Q)):AC C B rd F (.cond c a b) s Q:=by
 unfold N7 at h;split at h
 ·rename_i t ht
  refine⟨λhB hd ρ x w hs=>?_⟩;simp only[Di,BZ]at hd;have hc:x.eval c=.bool t:=by
   have:=Dh hs.env c
   rw[ht]at this;generalize x.eval c=v at this;cases this;rfl
  refine wpIn_cond_split hc (λht=>?_) λht=>?_
  ·subst ht;exact AC.out h hB hd.1 ρ x w hs
  ·subst ht;exact AC.out h hB hd.2 ρ x w hs
 ·exact h.elim
def OB (i:Nat)(n:Prop)(r:Exit->Prop)(e:Exit):Prop:=match e with
 | .exit j=>bif Nat.beq j i then n else r (.exit j)
 | .normal=>r .normal
 | .ret=>r .ret
 | .goto l=>r (.goto l)
 | .panic c=>r (.panic c)
 | .outgrown=>r .outgrown
theorem AC.block {i:Nat}{b:Code}(h:AC C B rd F b s (λe F s=>OB i (Q .normal F s) (λe=>Q e F s) e)):AC C B rd F (.block i b) s Q:=
 ⟨λhB hd ρ x w hs=>by
  refine wpIn_block (wpIn_mono (h.out hB (by simpa[Di]using hd) ρ x w hs) ?_);rintro e a' w' ⟨F',s',ρ',h1,h2,h3⟩;cases e with
  |normal=>exact⟨F',s',ρ',h1,h2,h3⟩
  |ret=>exact⟨F',s',ρ',h1,h2,h3⟩
  |exit j=>
   simp only[OB]at h2;simp only[Exit.inBlock];cases hb:Nat.beq j i with
   |true=>rw[hb]at h2;rw[AI (CC hb)];exact⟨F',s',ρ',h1,h2,h3⟩
   |false=>rw[hb]at h2;rw[AH (λhj=>by rw[hj,L5]at hb;cases hb)];exact⟨F',s',ρ',h1,h2,h3⟩
  |goto l=>exact⟨F',s',ρ',h1,h2,h3⟩
  |panic c=>exact⟨F',s',ρ',h1,h2,h3⟩
  |outgrown=>exact⟨F',s',ρ',h1,h2,h3⟩⟩
def VA:Op->Bool
 | .defer _=>true
 |_=>false
def Eo:List Oper->Bool
 | []=>true
 |o::l=>match VA o.op with
  |true=>false
  |false=>Eo l
theorem oV {l:List Oper}(h:Eo l=true):∀o∈l,∀c,o.op≠.defer c:=by
 induction l with
 |nil=>intro o ho;cases ho
 |cons o l ih=>
  intro o' ho c hc;have h1:VA o.op=false/\Eo l=true:=by
   rw[Eo]at h;generalize VA o.op=b at h⊢;cases b with
   |true=>cases h
   |false=>exact⟨rfl,h⟩
  rcases A8.1 ho with h2|h2
  ·rw[<-h2,hc]at h1;cases h1.1
  ·exact ih h1.2 o' h2 c hc
theorem IX (h:Eo ops.toList=true):∀(i:Nat) (o:Oper),ops[i]?=some o->∀c,o.op≠.defer c:=λi o ho=>oV h o (IH.2 (Io ho))
theorem BK.run {K:St->Prop}{l:List Nat}(h:BK C F ops (l.map λj=>ops.getD j default) s K)(hlt:∀j∈l,j<ops.size)(hd:ops.toList.all (DY F.nt)=true){ρ:Lk}{a:Act}{w:World}(hs:Br C F ρ s a w):wpOps C.P ops (K5 C F K) l a w:=by
 refine h ?_ l ?_ ρ a w hs
 ·rw[CW]
  intro o' ho';obtain⟨j,hj,rfl⟩:=Bx.1 ho';refine CW.1 hd _ ?_;rw[Av,B3 (hlt j hj)];simp
 ·rw[List.map_map]
  refine Qc λj hj=>?_
  simp[Av,B3 (hlt j hj)]
theorem KC {K:St->Prop}(hB:DG C B F)(hK:∀s,K s->Q .normal F s){e:Exit}{a:Act}{w:World}(h:K5 C F K e a w):e=.normal/\F8 C B Q .normal a w:=by
 obtain⟨h0,s',ρ',h1,h2⟩:=h;exact⟨h0,F,s',ρ',hB,hK _ h1,h2⟩
theorem KL {i:Nat}{d:Bool}(hB:DG C B F)(h:Di B.nt (.region i ops d)=true):ops.toList.all (DY F.nt)=true:=by rw[hB.nt];exact h
theorem Kn {i:Nat}(hX:Dg C X)(kb:Nat)(hnd:Eo ops.toList=true)(h:C7 C X kb ops (List.range ops.size) s True λacc s=>acc/\Q .normal F s):AC C B rd F (.region i ops false) s Q:=by
 refine⟨λhB hd ρ a w hs=>wpIn_region ?_⟩;have hd:=KL hB hd;have h1:=(F5 (F:=F) (K':=Q .normal F) hX (λacc s h=>h) h).2.run (λj hj=>List.mem_range.1 hj) hd hs
 have:=GN (rd:=rd) (Q:=F8 C B Q) (l2:=[]) (λ_ _ _ h=>KC hB (λ_ h=>h) h) (IX hnd) _ a w h1
 rwa [De]at this
theorem jI {i:Nat}(hX:Dg C X)(kb:Nat)(pre suf:List Nat)(hc:(HZ ops pre suf&&Eo ops.toList)=true)
  (h:Em C X kb ops s.H s.n pre s.env [] True λacc env N=>C7 C X kb ops suf ⟨env,N++s.H,s.n+Fj ops.toList⟩ acc λacc s=>acc/\Q .normal F s):AC C B rd F (.region i ops true) s Q:=by
 have hsz:ops.size=Fj ops.toList:=by rw[Rt,Ip]
 rw[<-hsz]at h;simp only[BZ]at hc;obtain⟨_,acc,env,N,h1,h2⟩:=RO (F:=F) hX (λacc env N h=>(F5 (F:=F) (K':=Q .normal F) hX (λacc s h=>h) h).1) h;refine⟨λhB hd ρ a w hs=>?_⟩;have hd:=KL hB hd;refine zF hX.mixed hc.1 h1 (λhlt ρ a w hs=>?_) hd ρ a w hs;have h3:=(F5 (F:=F) (K':=Q .normal F) hX (λacc s h=>h) h2).2.run hlt hd hs
 have:=GN (rd:=rd) (Q:=F8 C B Q) (l2:=[]) (λ_ _ _ h=>KC hB (λ_ h=>h) h) (IX hc.2) _ a w h3
 rwa [De]at this
def OM (H:Hp)(k:Nat)(K:At->Hp->Prop):Prop:=match Hp.get H k with
 |some e=>K e (Hp.del H k)
 |none=>False
theorem ou {i:Nat}{W:WR}{pre suf:List Nat}{envF:Ap}{N:Hp}(hm:C.P.follows .mixedOrders=true)(hc:HZ ops pre suf=true)(hnd:Eo ops.toList=true)
  (hH:s.H.Perm W.start) (hga:∀ia,W.ia=some ia->W.e.g=s.n+ia/\Dw ops W.iw ia/\ia∈pre) (hiw:W.iw∈pre) (hwg:W.e'.g=W.e.g\/W.e'.g=s.n+W.iw)
  (hpre:JG C F ops W s.n pre s.env [] envF N)
  (h:BK C F ops (suf.map λj=>ops.getD j default) ⟨envF,N++W.e'::W.R,s.n+ops.size⟩ (Q .normal F)):AC C B rd F (.region i ops true) s Q:=
 ⟨λhB hd ρ a w hs=>wpIn_region_any hm (KI (λ_ _ _ h=>KC (F:=F) hB (λ_ h=>h) h) (IX hnd) _ _ _ _ (jD (Q:=λe s=>Q e F s) hc hH hga hiw hwg hpre h (KL hB hd) ρ a w hs))⟩
theorem BK.perm {os:List Oper}{env:Ap}{H H':Hp}{n:Nat}{K:St->Prop}(hp:H.Perm H')(h:BK C F ops os ⟨env,H,n⟩ K):BK C F ops os ⟨env,H',n⟩ K:=λhd l hl ρ a w hs=>
 h hd l hl ρ a w ⟨hs.mem.perm hp.symm,hs.fresh,λe he=>hs.gen e (hp.mem_iff.1 he),λt=>by
  show AW ρ (AN F.X ρ H) w _ _;rw[AN.perm hp];exact hs.env t,hs.nt,hs.dfr⟩
theorem QR {i:Nat}(hX:Dg C X)(kb:Nat)(pre suf:List Nat)(iw:Nat)(clo:List Nat)(k:Nat)(hc:(HZ ops pre suf&&Eo ops.toList)=true)(hcl:(Cq iw pre&&Jl clo (F9 (JH ops (pre++suf) []) iw))=true)
  (h:OM s.H k λe R=>Ex C X kb ops iw none R clo s.n pre s.env [] (some e) none True λacc env N e e'=>(e'.g=e.g\/e'.g=s.n+iw)/\C7 C X kb ops suf ⟨env,N++Hp.set s.H k e',s.n+Fj ops.toList⟩ acc λacc s=>acc/\Q .normal F s):
  AC C B rd F (.region i ops true) s Q:=by
 have hsz:ops.size=Fj ops.toList:=by rw[Rt,Ip]
 rw[<-hsz]at h;unfold OM at h;split at h<;>first|exact h.elim|skip
 rename_i e0 he0;simp only[BZ]at hcl hc;have hclo:∀j∈clo,Dw ops iw j:=λj hj=>Oz (Oy _ _ (by simp)) _ _ (Q5.1 hcl.2 j hj)
 obtain⟨_,q,env,N,e,e',h1,h2,h3,h4,h5⟩:=LA (F:=F) hX (by simp) hclo (λacc env N e e' h=>(F5 (F:=F) (K':=Q .normal F) hX (λacc s h=>h) h.2).1) h
 have:=h1 _ rfl
 subst this;obtain⟨H1,H2,q1,_,q3⟩:=M8 e he0;obtain⟨H1',H2',q1',q2',q3'⟩:=M8 e' he0;refine ou (W:=⟨iw,none,e,e',Hp.del s.H k⟩) hX.mixed hc.1 hc.2 ?_ (by simp) (H4.1 hcl.1) h4 h3 (BK.perm ?_ (F5 (F:=F) hX (λacc s h=>h) h5).2)
 ·rw[q3];unfold WR.start
  dsimp only;rw[q1];exact Hl
 ·rw[q2',q3']
  exact List.Perm.append_left _ Hl
structure Wk (s s':St):Prop where
 h:Cs s.H s'.H s.H s'.H
 e:Mo s.H s'.H s.env s'.env
 n:s.n<=s'.n
theorem AC.weak {c:Code}(s':St)(h:Wk s s')(hk:AC C B rd F c s' Q):AC C B rd F c s Q:=⟨λhB hd ρ a w hs=>hk.out hB hd ρ a w (hs.weak h.h h.e h.n)⟩
theorem kE {Fe:Fence}{n:Nat}{P:Program}{c:Code}{Q:Exit->Act->World->Prop}(I:Nat->Act->World->Prop){m:Nat}{a:Act}{w:World}(h₀:I m a w)
  (round:∀m a w,I m a w->c.wpIn Fe n P (Exit.then (λa' w'=>∃m',m'<m/\I m' a' w') Q) a w):(Code.loop c).wpIn Fe n P Q a w:=by
 intro b k cs hro hb hr;have key:∀m a w,I m a w->∃e a' w',Q e a' w'/\ArrivesIn (Machine.fenced P Fe) P (lone (b.atR a (.code c::.inLoop c::k)) cs w) b k cs e a' w':=by
  intro m
  induction m using Nat.strongRecOn with
  |_ m ih=>
   intro a w hI;obtain⟨e,a₁,w₁,hq,harr⟩:=round m a w hI b (.inLoop c::k) cs hro hb hr;cases e with
   |normal=>
    obtain⟨m',hlt,hI₁⟩:=hq;obtain⟨e₂,a₂,w₂,hq₂,harr₂⟩:=ih m' hlt a₁ w₁ hI₁;exact⟨e₂,a₂,w₂,hq₂,.of_steps (StepsIn.trans harr (.one (fenced_calm hb hr rfl) stepR_inLoop)) harr₂⟩
   |exit id=>exact⟨_,a₁,w₁,hq,.pass (x:=.inLoop c) rfl (λ_ _=>.inl (by simp)) harr⟩
   |goto l=>exact⟨_,a₁,w₁,hq,.pass (x:=.inLoop c) rfl (λ_ _=>.inl (by simp)) harr⟩
   |ret=>exact⟨_,a₁,w₁,hq,.pass (x:=.inLoop c) rfl (λ_ _=>.inl (by simp)) harr⟩
   |panic ch=>exact⟨_,a₁,w₁,hq,.pass (x:=.inLoop c) rfl (λ_ _=>.inl (by simp)) harr⟩
   |outgrown=>exact⟨_,a₁,w₁,hq,.pass (x:=.inLoop c) rfl (λ_ _=>.inl (by simp)) harr⟩
 obtain⟨e,a',w',hq,harr⟩:=key _ a w h₀;exact⟨e,a',w',hq,.of_steps (.one (fenced_calm hb hr rfl) stepR_loop) harr⟩
theorem HH {b:Code}{α:Type}(sh:α->St)(μ:α->Nat)(J:α->Ad->Prop)(a0:α)(h0:J a0 F)(hs:Wk s (sh a0))
  (h:∀a F',J a F'->AC C B rd F' b (sh a) (λe F' s'=>Jr (∃a',J a' F'/\μ a'<μ a/\Wk s' (sh a')) (λe=>Q e F' s') e)):AC C B rd F (.loop b) s Q:=by
 refine⟨λhB hd ρ x w hsat=>?_⟩;have hd':Di B.nt b=true:=by simpa[Di]using hd
 refine kE (λm x w=>∃(F':Ad) (a:α) (s1:St) (ρ:Lk),μ a=m/\DG C B F'/\J a F'/\Wk s1 (sh a)/\Br C F' ρ s1 x w) ⟨F,a0,s,ρ,rfl,hB,h0,hs,hsat⟩ ?_;rintro m x w ⟨F',a,s1,ρ,hm,hF,ha,hw,hsat⟩;refine wpIn_mono ((h a F' ha).out hF hd' ρ x w (hsat.weak hw.h hw.e hw.n)) ?_;rintro e a' w' ⟨F2,s2,ρ2,h1,h2,h3⟩;cases e with
 |normal=>
  obtain⟨a2,q1,q2,q3⟩:=(show ∃a',J a' F2/\μ a'<μ a/\Wk s2 (sh a')from h2)
  exact⟨μ a2,hm ▸ q2,F2,a2,s2,ρ2,rfl,h1,q1,q3,h3⟩
 |ret=>exact⟨F2,s2,ρ2,h1,h2,h3⟩
 |exit j=>exact⟨F2,s2,ρ2,h1,h2,h3⟩
 |goto l=>exact⟨F2,s2,ρ2,h1,h2,h3⟩
 |panic c=>exact⟨F2,s2,ρ2,h1,h2,h3⟩
 |outgrown=>exact⟨F2,s2,ρ2,h1,h2,h3⟩
theorem AC.loop {b:Code}{α:Type}(sh:α->St)(μ:α->Nat)(J:α->Prop)(a0:α)(h0:J a0)(hs:Wk s (sh a0))
  (h:∀a F',J a->AC C B rd F' b (sh a) (λe F' s'=>Jr (∃a',J a'/\μ a'<μ a/\Wk s' (sh a')) (λe=>Q e F' s') e)):AC C B rd F (.loop b) s Q:=
 HH sh μ (λa _=>J a) a0 h0 hs h
abbrev i64 (z:Int):D:=.prim (.int .i64 z)
abbrev u64 (z:Int):D:=.prim (.int .u64 z)
abbrev str (s:ByteArray):D:=.prim (.string s)
abbrev Al (b:Bool):D:=.prim (.bool b)
abbrev CK:D:=.prim (.slice none 0 0)
theorem AM {H:Hp}{d0 d:D}(hd:d0=d)(hp:CE d0):∃d',Fz H [] d0 d'/\CE d'/\d'=d:=⟨d0,.refl _,hp,hd⟩
theorem FH.refl {H Hf:Hp}:∀ds:List D,FH H Hf ds ds
 | []=>trivial
 |_::l=>⟨.refl _,FH.refl l⟩
theorem Bf.same {C:BA}{f:Nat}{ds:List D}{k:D->Prop}(d:D)(hc:AL C f ds d)(hp:Ai ds)(hk:k d):Bf C f ds k:=.mk ds d (FH.refl _) hc hp hk
theorem BF.same {C:BA}{f:Nat}{ds:List D}{H:Hp}{n:Nat}{k:D->Hp->Nat->Prop}(d:D)(hc:AL C f ds d)(hp:Ai ds)(hk:k d H (n+1)):BF C f ds H n k:=.pure ds d (FH.refl _) hc hp hk
end
section
variable {C:BA} {F:Ad} {ops:Array Oper}
def Wi (C:BA)(F:Ad)(He:Hp)(ρ:Lk)(w:World)(g:Nat)(d:D)(e e':At)(v:Value)(ρ':Lk)(w':World):Prop:=
 Am C F ρ' (e'::He) w'/\BX ρ (AN F.X ρ (e::He)) w ρ' (AN F.X ρ' (e'::He)) w'/\(∀k g',g'≠g->ρ' k g'=ρ k g')/\AW ρ' (AN F.X ρ' (e'::He)) w' d v
def LK (C:BA)(F:Ad)(ops:Array Oper)(H:Hp)(g:Nat)(env:Ap)(o:Oper)(d:D)(e e':At):Prop:=
 e'.g=g/\∀(He:Hp) (ρ:Lk) (a:Act) (w:World),Am C F ρ (e::He) w->(∀x∈H,x∈He)->(∀k,ρ k g=none)->(∀x∈e::He,x.g≠g) ->
  (∀t∈o.looksAt ops,AW ρ (AN F.X ρ (e::He)) w (env.get t) (a.tmps.getD t undef)) ->
  Region.wanted o (yielded ops a.tmps)=true/\((∃v ρ' w',(execOp a.eval o).run C.P w=.ok (.value v) w'/\Wi C F He ρ w g d e e' v ρ' w') \/
   ∃f vs,(execOp a.eval o).run C.P w=.ok (.enter f vs) w/\Calls C.P f vs w (λex w'=>∃v,ex=.returned v/\∃ρ',Wi C F He ρ w g d e e' v ρ' w'))
theorem LK.app {H:Hp}{g:Nat}{env:Ap}{o:Oper}{e e':At}{tt:Nat->Option A7}(k:Nat)(htt:C5 C.P tt){d:D}{p:Prop}(hw:CJ ops env o=some true)(he:EY tt [e] g k (BG env) o.op=some (d,[e'],p))(hp:p):
  LK C F ops H g env o d e e':=by
 refine⟨(Ue (He:=[]) he).2,λHe ρ a w m _ fr hne hr=>?_⟩;refine⟨Hx hr hw,?_⟩;obtain⟨g',h1,h2⟩:=IW hr;rw[UM h1]at he;obtain⟨q1,_⟩:=Ue (He:=He) he;obtain⟨v,ρ',w',r1,r2⟩:=RK htt m fr hne h2 q1 hp;exact .inl ⟨v,ρ',w',r1,r2.mem,r2.ext,r2.far,r2.rep⟩
def J6 (C:BA)(F:Ad)(e:At)(d d':D):Prop:=∀(ρ:Lk) (He:Hp) (w:World),Am C F ρ (e::He) w->∀v,AW ρ (AN F.X ρ (e::He)) w d v->AW ρ (AN F.X ρ He) w d' v
theorem J6.refl {e:At}(d:D):J6 C F e d d:=λρ He w m v h=>h.anti λb hb=>by
 rcases hb with hb|⟨x,h1,h2⟩
 ·exact .inl hb
 ·exact .inr ⟨x,CL _ h1,h2⟩
theorem J6.osl {e:At}{len:Nat}(hl:e.es.length=len):J6 C F e (.osl e.k e.g e.sz 0 len) (.sl false e.sz e.es):=λρ He w m v hv=>by
 have hm:e∈e::He:=CF ..;cases hv with
 |onil=>
  rw[FB hl];exact .nil _
 |osl hr hb hcap hsz hmx=>
  rename_i cap b T cs fz;obtain⟨cs',h1,h2⟩:=m.at hm hr;rw[hb]at h1;simp only[BP,Obj.cells.injEq]at h1;obtain⟨rfl,_,_⟩:=h1;have hN:¬AN F.X ρ He b:=by
   rintro(h|⟨x,h3,h4⟩)
   ·exact(m.hok.own e hm b hr).1 h
   ·exact(EL.1 m.hok.inj).1 x h3 b b hr h4 rfl
  have hin:∀n,n<len*e.sz->n<cs.size:=λn hn=>by have:=h2.len;rw[hl]at this;omega
  refine .sl (λn=>cs.getD n undef) hl hcap hN (m.lt hm hr) (λj d' hd'=>h2.siz _ _ hd') (λn hn=>?_) (λn hn=>?_) λj d' q c hd' hc'=>?_
  ·simp[World.cell?,hb,hin n hn]
  ·have:=h2.one _ _ (B3 (hin n hn))
   simpa[Av,B3 (hin n hn)]using this
  ·have:=h2.rep j d' q c hd' hc'
   exact J6.refl c ρ He w m _ this
theorem LK.give {H:Hp}{g:Nat}{env:Ap}{o:Oper}{f:Nat}{first captured ds ds':List D}{fop:Operand}{args:Array Operand}{tys:Array Nat}{d:D}{e:At}(k' T sz:Nat)(hw:CJ ops env o=some true)(ho:o.op=.call ⟨.value fop,args,tys⟩)
  (hf:BG env fop=.clo (.func f) first captured) (hds:first++args.toList.map (BG env)++captured=ds) (hl:ds'.length=ds.length) (hv:∀(i:Nat) (a b:D),ds[i]?=some a->ds'[i]?=some b->J6 C F e a b) (hc:AL C f ds' d) (hp:Ai ds'):
  LK C F ops H g env o d e ⟨k',g,T,sz,[]⟩:=by
 refine⟨rfl,λHe ρ a w m hsub fr hne hr=>⟨Hx hr hw,.inr ?_⟩⟩;obtain⟨g',h1,h2⟩:=IW hr;have hfop:fop∈o.op.operands:=by rw[ho];simp[Op.operands,Call.operands]
 have harg:∀x∈args.toList,BG env x=g' x:=λx hx=>h1 x (by rw[ho];simp[Op.operands,Call.operands];right;simpa using hx)
 rw[h1 fop hfop]at hf;rw[MD harg]at hds;have hfr:=h2 fop;rw[hf]at hfr;obtain⟨vs,q1,q2,q3⟩:=Qp (g:=g') ho hf hc.1 h2;rw[hds]at q2 q3;obtain⟨m1,hO⟩:=m.sub (Oa e He);refine⟨f,vs,q1,(hc.2 (AN F.X ρ He) w vs m.g (BY m.gn m.size) (λb hb=>m1.own_lt hb) (by omega) λi d hd=>?_).mono ?_⟩
 ·have hi:i<ds'.length:=(BS.1 hd).1
  have hd0:ds[i]?=some ds[i]:=Ce;exact hp.out d (Ax hd) _ _ _ _ _ (hv i _ d hd0 hd ρ He w m _ (q3 i _ hd0))
 rintro ex w' ⟨v,d',rfl,hb,rfl,hrep⟩;have hb2:∀(b:Nat) (cs:Array Value) (T:Nat) (fz:Nat×Nat),w.heap[b]?=some (.cells cs T fz)->∃(cs':Array Value) (fz':Nat×Nat),w'.heap[b]?=some (.cells cs' T fz')/\cs'.size=cs.size:=λb cs T fz hh=>⟨cs,_,by
  rw[hb.block b (DB.1 hh).1];exact hh,rfl⟩
 have x':BX ρ (AN F.X ρ He) w ρ (AN F.X ρ He) w':=⟨hb.size,λ_ _ _ h=>h,λb hb' hO2=>⟨hO2,hb.block b hb'⟩,hb2⟩
 obtain⟨m3,hG⟩:=(m1.same x' hb.os hb.tape hb.output hb.block).ghost (k:=k') (n:=g) (T:=T) (sz:=sz) (fr k');refine⟨v,rfl,ρ,m3,?_,λ_ _ _=>rfl,?_⟩
 ·rw[hG];exact⟨hb.size,λ_ _ _ h=>h,λb hb' hO2=>⟨λh=>hO2 (hO b h),hb.block b hb'⟩,hb2⟩
 ·rw[hG];exact hrep.nol
def Ee (use:Nat->Option Nat)(L:Array Bool)(r:B8):Option At:=
 if L.getD r.i false=true/\(∀j,use r.i=some j->L.getD j false=false)then r.ne else none
structure Nv (ops:Array Oper)(rs:List B8)(con:Nat->Option At)(use:Nat->Option Nat):Prop where
 made:∀r∈rs,∀e,con r.i=some e->∃r0∈rs,r0.ne=some e/\use r0.i=some r.i
 late:∀r∈rs,∀j,use r.i=some j->j∈rs.map (·.i)/\con j=r.ne/\Dw ops j r.i
 one:∀r∈rs,∀r'∈rs,∀j,use r.i=some j->use r'.i=some j->r.i=r'.i
structure DT (C:BA)(F:Ad)(H:Hp)(n:Nat)(env:Ap)(rs:List B8)(use:Nat->Option Nat)(L:Array Bool)(a:Act)(w:World)(ρ:Lk)(He:Hp):Prop where
 mem:Am C F ρ He w
 perm:He.Perm (rs.filterMap (Ee use L)++H)
 reps:∀r∈rs,Ls L r.i->∀t,r.o.dst=some t->AW ρ (AN F.X ρ He) w r.d (a.tmps.getD t undef)
 old:∀t,(∀r∈rs,Ls L r.i->r.o.dst≠some t)->AW ρ (AN F.X ρ He) w (env.get t) (a.tmps.getD t undef)
 fresh:∀k g,n<=g->ρ k g≠none->∃r∈rs,Ls L r.i/\g=n+r.i
 nt:a.tmps.size=F.nt
 dfr:a.defers=F.df
theorem WI {rs:List B8}(hn:(rs.map (·.i)).Nodup){r:B8}(hr:r∈rs){f g:B8->Option At}(hg:g r=none)(h:∀r'∈rs,r'.i≠r.i->f r'=g r'):(rs.filterMap f).Perm ((f r).toList++rs.filterMap g):=by
 obtain⟨A,B,rfl⟩:=EW hr;rw[Cz,Cx,EM,List.nodup_cons]at hn;have hA:A.filterMap f=A.filterMap g:=KE λx hx=>h x (by simp[hx]) λe=>hn.2.2 x.i (Bx.2 ⟨x,hx,rfl⟩) r.i (by simp) e
 have hB:B.filterMap f=B.filterMap g:=KE λx hx=>h x (by simp[hx]) λe=>hn.2.1.1 (Bx.2 ⟨x,hx,e⟩)
 rw[List.filterMap_append,NA,List.filterMap_append,NA,hg,hA,hB];cases f r with
 |none=>exact .refl _
 |some e=>exact Hl
theorem Y0 {use:Nat->Option Nat}{L:Array Bool}{i:Nat}(hi:i<L.size){r':B8}(h1:r'.i≠i)(h2:use r'.i=some i->r'.ne=none):Ee use (L.setIfInBounds i true) r'=Ee use L r':=by
 have hset:∀j,Ls (L.setIfInBounds i true) j↔j=i\/Ls L j:=λj=>Ls.set hi
 unfold Ls at hset;unfold Ee
 by_cases h3:use r'.i=some i
 ·rw[h2 h3];split<;>split<;>rfl
 have e1:((L.setIfInBounds i true).getD r'.i false=true)↔L.getD r'.i false=true:=⟨λh=>((hset _).1 h).resolve_left h1,λh=>(hset _).2 (.inr h)⟩
 have e2:(∀j,use r'.i=some j->(L.setIfInBounds i true).getD j false=false)↔∀j,use r'.i=some j->L.getD j false=false:=by
  constructor
  ·intro h j hj
   have:=h j hj
   cases hb:L.getD j false with
   |false=>rfl
   |true=>rw[(hset j).2 (.inr hb)]at this;cases this
  ·intro h j hj
   have:=h j hj
   cases hb:(L.setIfInBounds i true).getD j false with
   |false=>rfl
   |true=>
    rcases(hset j).1 hb with q|q
    ·exact Ak (q ▸ hj) h3
    ·rw[q]at this;cases this
 by_cases g:L.getD r'.i false=true/\∀j,use r'.i=some j->L.getD j false=false
 ·rw[AI g,AI ⟨e1.2 g.1,e2.2 g.2⟩]
 ·rw[AH g,AH λq=>g ⟨e1.1 q.1,e2.1 q.2⟩]
theorem Uj {use:Nat->Option Nat}{L:Array Bool}{r:B8}(h:¬Ls L r.i):Ee use L r=none:=AH λq=>h q.1
theorem Y1 {use:Nat->Option Nat}{L:Array Bool}{r:B8}(hi:r.i<L.size)(h:∀j,use r.i=some j->j≠r.i/\¬Ls L j):Ee use (L.setIfInBounds r.i true) r=r.ne:=by
 have hset:∀j,Ls (L.setIfInBounds r.i true) j↔j=r.i\/Ls L j:=λj=>Ls.set hi
 refine AI ⟨(hset _).2 (.inl rfl),λj hj=>?_⟩;cases hb:(L.setIfInBounds r.i true).getD j false with
 |false=>rfl
 |true=>
  rcases(hset j).1 hb with q|q
  ·exact Ak q (h j hj).1
  ·exact Ak q (h j hj).2
theorem nL {use:Nat->Option Nat}{con:Nat->Option At}{rs:List B8}(ht:Nv ops rs con use)(hn:(rs.map (·.i)).Nodup){r:B8}(hr:r∈rs){L:Array Bool}(hi:r.i<L.size)(hL:¬Ls L r.i)(hc:con r.i=none)
  (hu:∀j,use r.i=some j->j≠r.i/\¬Ls L j):(rs.filterMap (Ee use (L.setIfInBounds r.i true))).Perm (r.ne.toList++rs.filterMap (Ee use L)):=by
 have:=WI hn hr (f:=Ee use (L.setIfInBounds r.i true)) (g:=Ee use L) (Uj hL) λr' hr' h=>Y0 hi h λq=>by rw[<-(ht.late r' hr' _ q).2.1,hc]
 rwa [Y1 hi hu]at this
theorem nM {use:Nat->Option Nat}{con:Nat->Option At}{rs:List B8}(ht:Nv ops rs con use)(hn:(rs.map (·.i)).Nodup){r r0:B8}(hr:r∈rs)(hr0:r0∈rs){L:Array Bool}(hi:r.i<L.size)(hL:¬Ls L r.i)(hL0:Ls L r0.i){e:At}(he:r0.ne=some e)(hu0:use r0.i=some r.i)
  (hu:∀j,use r.i=some j->j≠r.i/\¬Ls L j):∃X,(rs.filterMap (Ee use L)).Perm (e::X)/\(rs.filterMap (Ee use (L.setIfInBounds r.i true))).Perm (r.ne.toList++X):=by
 have h0:r0.i≠r.i:=λq=>hL (by rw[<-q];exact hL0)
 let g:B8->Option At:=λx=>if Nat.beq x.i r0.i=true then none else Ee use L x
 have g0:g r0=none:=AI (L5 _);have gr:g r=none:=by
  show(if Nat.beq r.i r0.i=true then none else Ee use L r)=none;rw[Uj hL];split<;>rfl
 have gx:∀x:B8,x.i≠r0.i->g x=Ee use L x:=λx hx=>AH λq=>hx (CC q)
 refine⟨rs.filterMap g,?_,?_⟩
 ·have:=WI hn hr0 (f:=Ee use L) (g:=g) g0 λr' _ h=>(gx r' h).symm
  have e1:Ee use L r0=some e:=by
   rw[<-he];refine AI ⟨hL0,λj hj=>?_⟩;rw[hu0]at hj;cases hj;unfold Ls at hL;simpa using hL
  rwa [e1]at this
 ·have:=WI hn hr (f:=Ee use (L.setIfInBounds r.i true)) (g:=g) gr λr' hr' h=>by
   by_cases q:r'.i=r0.i
   ·have e1:g r'=none:=AI (by rw[q];exact L5 _)
    rw[e1];refine AH λk=>?_
    have:=k.2 r.i (by rw[q];exact hu0)
    have h2:Ls (L.setIfInBounds r.i true) r.i:=(Ls.set hi).2 (.inl rfl);unfold Ls at h2;rw[h2]at this;cases this
   ·rw[gx r' q]
    exact Y0 hi h λk=>Ak (ht.one r' hr' r0 hr0 _ k hu0) q
  rwa [Y1 hi hu]at this
theorem DT.nextG {use:Nat->Option Nat}{H:Hp}{n:Nat}{env:Ap}{A B:List B8}{r:B8}{L:Array Bool}{a:Act}{w:World}{ρ:Lk}{He:Hp}(h:DT C F H n env (A++r::B) use L a w ρ He)(hi:r.i<L.size)(hn:¬Ls L r.i)
  (hnd:((A++r::B).map (·.i)).Nodup) (hdst:(A++r::B).Pairwise (λr r'=>∀t,r.o.dst=some t->r'.o.dst≠some t)) (hok:DY F.nt r.o=true) {v:Value} {ρ':Lk} {w':World} {He':Hp}
  (pm:Am C F ρ' He' w') (px:BX ρ (AN F.X ρ He) w ρ' (AN F.X ρ' He') w') (pf:∀k g',g'≠n+r.i->ρ' k g'=ρ k g') (pr:AW ρ' (AN F.X ρ' He') w' r.d v)
  (pp:He'.Perm ((A++r::B).filterMap (Ee use (L.setIfInBounds r.i true))++H)):
  DT C F H n env (A++r::B) use (L.setIfInBounds r.i true) (a.put r.o.dst v) w' ρ' He':=by
 have hset:∀j,Ls (L.setIfInBounds r.i true) j↔j=r.i\/Ls L j:=λj=>Ls.set hi
 have hne:∀r'∈A++B,r'.i≠r.i:=by
  simp only[Cz,Cx]at hnd;intro r' hr' he;rw[EM,List.nodup_cons]at hnd;rcases Bp.1 hr' with hr'|hr'
  ·exact hnd.2.2 r'.i (Bx.2 ⟨r',hr',rfl⟩) r.i (by simp) he
  ·exact hnd.2.1.1 (Bx.2 ⟨r',hr',he⟩)
 have hput:∀t,(a.put r.o.dst v).tmps.getD t undef=if r.o.dst=some t then v else a.tmps.getD t undef:=by
  intro t;cases hd:r.o.dst with
  |none=>simp[Act.put]
  |some k=>
   have hk:k<a.tmps.size:=by
    rw[h.nt];unfold DY at hok;rw[hd]at hok;exact Nat.blt_eq.mp hok
   show(a.tmps.setIfInBounds k v).getD t undef=_;rw[Av,Iq]
   by_cases hkt:k=t
   ·subst hkt;simp[hk]
   ·rw[AH hkt,AH (by simpa using hkt),<-Av]
 refine⟨pm,pp,λr' hr' hl t ht=>?_,λt ht=>?_,λk g hg hk=>?_,?_,?_⟩
 ·rw[hput]
  by_cases hrr:r'=r
  ·subst hrr;rw[AI ht];exact pr
  ·have hr2:r'∈A++B:=by
    rcases Bp.1 hr' with h|h
    ·simp[h]
    ·rcases A8.1 h with h|h
     ·exact Ak h hrr
     ·simp[h]
   have hl2:=((hset r'.i).1 hl).resolve_left (hne r' hr2);rw[AH]
   ·exact(h.reps r' hr' hl2 t ht).mono px
   ·intro hrt
    rw[Jx,EL]at hdst;rcases Bp.1 hr2 with h|h
    ·exact hdst.2.2 r' h r (by simp) t ht hrt
    ·exact hdst.2.1.1 r' h t hrt ht
 ·rw[hput,AH (ht r (by simp) ((hset r.i).2 (.inl rfl)))]
  exact(h.old t λr' hr' hl=>ht r' hr' ((hset r'.i).2 (.inr hl))).mono px
 ·by_cases hgr:g=n+r.i
  ·exact⟨r,by simp,(hset r.i).2 (.inl rfl),hgr⟩
  ·rw[pf k g hgr]at hk
   obtain⟨r',h1,h2,h3⟩:=h.fresh k g hg hk;exact⟨r',h1,(hset r'.i).2 (.inr h2),h3⟩
 ·cases r.o.dst<;>simp[Act.put,h.nt]
 ·cases r.o.dst<;>simp[Act.put,h.dfr]
theorem DT.look {use:Nat->Option Nat}{H:Hp}{n:Nat}{env:Ap}{rs:List B8}{suf:List Nat}{L:Array Bool}{a:Act}{w:World}{ρ:Lk}{He:Hp}(h:DT C F H n env rs use L a w ρ He)(ho:Mq ops rs suf)(hL:L.size=ops.size)(hc:Cl ops L)
  {A B:List B8} {r:B8} (hr:rs=A++r::B) (hrd:r.i∈Region.ready .any ops L):∀t∈r.o.looksAt ops,AW ρ (AN F.X ρ He) w ((Ez A env).get t) (a.tmps.getD t undef):=by
 intro t ht;have hpA:A.Pairwise (λr r'=>∀t,r.o.dst=some t->r'.o.dst≠some t):=by
  have:=ho.dst
  rw[hr,Jx]at this;exact this.1
 by_cases hw:∃r'∈rs,r'.o.dst=some t
 ·obtain⟨r',h1,h2⟩:=hw
  rcases ho.look A r B hr t ht r' h1 h2 with⟨h3,h4⟩|⟨h3,h4⟩
  ·rw[MX A env t hpA r' h3 h2]
   exact h.reps r' h1 (Fw hL hc h4 (FM.1 hrd).2.2) t h2
  ·
   have one:∀r''∈rs,r''.o.dst=some t->r''=r':=λr'' hr'' hd=>DH λhne=>by
    have hp:=ho.dst;have sym:∀ {l:List B8},l.Pairwise (λr r'=>∀t,r.o.dst=some t->r'.o.dst≠some t)->∀x∈l,∀y∈l,x≠y->∀t,x.o.dst=some t->y.o.dst≠some t:=by
     intro l hl
     induction hl with
     |nil=>intro x hx;simp at hx
     |cons h _ ih=>
      intro x hx y hy hxy t h1 h2;rcases A8.1 hx with e1|e1
      ·rcases A8.1 hy with e2|e2
       ·exact hxy (by rw[e1,e2])
       ·rw[e1]at h1;exact h y e2 t h1 h2
      ·rcases A8.1 hy with e2|e2
       ·rw[e2]at h2;exact h x e1 t h2 h1
       ·exact ih x e1 y e2 hxy t h1 h2
    exact sym hp r'' hr'' r' h1 hne t hd h2
   rw[Jb A env t λr'' hr'' hd=>h3 (by rw[<-one r'' (by rw[hr];simp[hr'']) hd];exact hr'')];refine h.old t λr'' hr'' hl hd=>?_
   obtain rfl:=one r'' hr'' hd;have hlt:r''.i<ops.size:=ho.lt r''.i (by simp;exact .inl ⟨r'',hr'',rfl⟩);have hin:=(FM.1 hrd).2.1;have hrl:L.getD r.i false=true:=by
    refine Fw hL hc h4 λk hk=>?_
    refine hc r''.i ?_ hlt k hk;unfold Ls at hl;rw[Av,HQ]at hl⊢;simpa using hl
   have hrlt:r.i<ops.size:=(FM.1 hrd).1;rw[Av,HQ]at hrl hin;simp at hrl hin;rw[hrl]at hin;cases hin
 ·rw[Jb A env t λr' hr' hd=>hw ⟨r',by rw[hr];simp[hr'],hd⟩]
  exact h.old t λr' hr' _ hd=>hw ⟨r',hr',hd⟩
def MB (C:BA)(F:Ad)(ops:Array Oper)(H:Hp)(con:Nat->Option At)(g:Nat)(env:Ap)(r:B8):Prop:=
 (con r.i=none/\B9 C F ops H g env r.o r.d r.ne)\/∃e e',con r.i=some e/\r.ne=some e'/\LK C F ops H g env r.o r.d e e'
theorem MB.gen {H:Hp}{con:Nat->Option At}{g:Nat}{env:Ap}{r:B8}(h:MB C F ops H con g env r):∀e,r.ne=some e->e.g=g:=by
 rcases h with⟨_,h⟩|⟨e,e',_,h1,h2⟩
 ·exact h.1
 ·intro x hx;rw[h1]at hx;cases hx;exact h2.1
theorem kH {use:Nat->Option Nat}{con:Nat->Option At}{Q:Exit->Act->World->Prop}{H:Hp}{n:Nat}{env:Ap}{rs:List B8}{suf:List Nat}(ho:Mq ops rs suf)(hgen:∀e∈H,e.g<n)(hd:∀r∈rs,DY F.nt r.o=true)
  (ht:Nv ops rs con use) (hst:∀A r B,rs=A++r::B->ops[r.i]?=some r.o/\MB C F ops H con (n+r.i) (Ez A env) r)
  (hend:∀(L:Array Bool) (a:Act) (w:World) (ρ:Lk) (He:Hp),L.size=ops.size->(∀r∈rs,Ls L r.i)->DT C F H n env rs use L a w ρ He->wpOps C.P ops Q suf a w):
  ∀(fuel:Nat) (L:Array Bool) (a:Act) (w:World) (ρ:Lk) (He:Hp),L.size=ops.size->((rs.map (·.i)++suf).filter (λi=>!L.getD i false)).length<=fuel->Cl ops L->(∀i∈suf,¬Ls L i) ->
   DT C F H n env rs use L a w ρ He->wpAny C.P .any ops Q fuel L a w:=by
 intro fuel
 induction fuel with
 |zero=>
  intro L a w ρ He hL hf hc hs hi;have h0:(rs.map (·.i)++suf).filter (λi=>!L.getD i false)=[]:=FB (by omega);have hall:∀r∈rs,Ls L r.i:=λr hr=>by
   have:=List.filter_eq_nil_iff.1 h0 r.i (by simp;exact .inl ⟨r,hr,rfl⟩)
   simpa[Ls]using this
  have hsuf:suf=[]:=by
   apply List.eq_nil_iff_forall_not_mem.2;intro i hi2
   have:=List.filter_eq_nil_iff.1 h0 i (by simp[hi2])
   exact hs i hi2 (by simpa[Ls]using this)
  subst hsuf;refine ME [] 0 L a w hL (Ar _) (λi hi2=>⟨λ_=>by simp,λ_=>?_⟩) .nil (λA i B h=>by cases A<;>simp at h) (by simp) hc (hend L a w ρ He hL hall hi)
  have:=ho.all i hi2
  simp at this;obtain⟨r,hr,rfl⟩:=this;exact hall r hr
 |succ fuel ih=>
  intro L a w ρ He hL hf hc hs hi
  by_cases hall:∀r∈rs,Ls L r.i
  ·refine ME suf (fuel+1) L a w hL ?_ (λi hi2=>?_) ?_ (λA i B hAB=>⟨λj hj=>?_,λj hj=>ho.suf A i B hAB j (by simp[hj])⟩) (λi hi2=>ho.lt i (by simp[hi2])) hc (hend L a w ρ He hL hall hi)
   ·refine BY ?_ hf
    rw[List.filter_append,Be];rw[(List.filter_eq_self (l:=suf)).2 λi hi2=>by have:=hs i hi2;unfold Ls at this;simpa using this];omega
   ·constructor
    ·intro h1 h2;exact hs i h2 h1
    ·intro h1
     have:=ho.all i hi2
     rcases Bp.1 this with h|h
     ·obtain⟨r,hr,rfl⟩:=Bx.1 h;exact hall r hr
     ·exact Ak h h1
   ·exact(EM.1 ho.nodup).2.1
   ·have hA:=ho.first (rs.map (·.i)++A) i B (by simp[hAB]) j hj
    refine⟨ho.lt j (by rw[hAB];rcases Bp.1 hA with h|h<;>simp[h]),λhB=>?_⟩;have hnd:=ho.nodup;rw[hAB,<-Du,EM]at hnd;exact hnd.2.2 j hA j hB rfl
  ·have hnot:∃r∈rs,¬Ls L r.i:=by
    apply DH;intro hn;exact hall λr hr=>DH λh=>hn ⟨r,hr,h⟩
   have hLt:∀j,j<ops.size->(L.getD j true=true↔Ls L j):=λj hj=>by
    unfold Ls;rw[Av,Av,HQ];simp
   have hsome:Region.ready .any ops L≠[]:=by
    obtain⟨r0,hr0,hn0⟩:=hnot
    have:∀X:List B8,∀Y,rs=X++Y->(∃r∈Y,¬Ls L r.i)->(∀r∈X,Ls L r.i)->∃A r B,rs=A++r::B/\¬Ls L r.i/\∀r∈A,Ls L r.i:=by
     intro X Y
     induction Y generalizing X with
     |nil=>rintro _ ⟨r,hr,_⟩ _;simp at hr
     |cons y Y ihY=>
      intro hXY hex hX
      by_cases hy:Ls L y.i
      ·obtain⟨r,hr,hrn⟩:=hex
       rcases A8.1 hr with rfl|hr
       ·exact Ak hy hrn
       ·exact ihY (X++[y]) (by simp[hXY]) ⟨r,hr,hrn⟩ (λr hr=>by
         rcases Bp.1 hr with h|h
         ·exact hX r h
         ·simp at h;subst h;exact hy)
      ·exact⟨X,y,Y,hXY,hy,hX⟩
    obtain⟨A,r,B,h1,h2,h3⟩:=this [] rs rfl ⟨r0,hr0,hn0⟩ (by simp);intro hnil;have hrlt:=ho.lt r.i (by rw[h1];simp)
    have:r.i∈Region.ready .any ops L:=by
     rw[FM];refine⟨hrlt,?_,λj hj=>?_⟩
     ·cases hb:L.getD r.i true with
      |false=>rfl
      |true=>exact Ak ((hLt r.i hrlt).1 hb) h2
     ·have:=ho.first (A.map (·.i)) r.i (B.map (·.i)++suf) (by rw[h1];simp) j hj
      obtain⟨r',hr',rfl⟩:=Bx.1 this;exact h3 r' hr'
    rw[hnil]at this;simp at this
   refine⟨λh0=>Ak h0 hsome,λi hir=>?_⟩;obtain⟨hilt,hin,hid⟩:=FM.1 hir;have hnL:¬Ls L i:=λh=>by rw[(hLt i hilt).2 h]at hin;cases hin
   have hpre:i∈rs.map (·.i):=by
    rcases Bp.1 (ho.all i hilt)with h|h
    ·exact h
    ·obtain⟨A,B,hAB⟩:=EW h
     obtain⟨r0,hr0,hn0⟩:=hnot
     have:=Fw hL hc (ho.suf A i B hAB r0.i (II _ (Bx.2 ⟨r0,hr0,rfl⟩))) hid
     exact Ak this hn0
   obtain⟨r,hr,rfl⟩:=Bx.1 hpre;obtain⟨A,B,hAB⟩:=EW hr;obtain⟨hor,hsteady⟩:=hst A r B hAB;have hset:∀j,Ls (L.setIfInBounds r.i true) j↔j=r.i\/Ls L j:=λj=>Ls.set (by omega)
   have hndr:(rs.map (·.i)).Nodup:=(EM.1 ho.nodup).1;have hsub:∀e∈H,e∈He:=λe he=>hi.perm.mem_iff.2 (by simp[he])
   have hfr:∀k,ρ k (n+r.i)=none:=λk=>by
    apply DH;intro hk;obtain⟨r',h1,h2,h3⟩:=hi.fresh k (n+r.i) (by omega) hk
    have:r'.i=r.i:=by omega
    rw[this]at h2;exact hnL h2
   have hne:∀e∈He,e.g≠n+r.i:=λe he hg=>by
    rcases Bp.1 (hi.perm.mem_iff.1 he)with h|h
    ·obtain⟨r',h1,h2⟩:=List.mem_filterMap.1 h
     unfold Ee at h2;split at h2
     ·rename_i hl
      obtain⟨A',B',hAB'⟩:=EW h1
      have:=(hst A' r' B' hAB').2.gen e h2
      have:r'.i=r.i:=by omega
      rw[this]at hl;exact hnL hl.1
     ·cases h2
    ·have:=hgen e h;omega
   have hu:∀j,use r.i=some j->j≠r.i/\¬Ls L j:=λj hj=>by
    obtain⟨q1,-,q2⟩:=ht.late r hr j hj;obtain⟨rj,hrj,rfl⟩:=Bx.1 q1;have hjl:rj.i<ops.size:=ho.lt rj.i (by simp;exact .inl ⟨rj,hrj,rfl⟩);refine⟨λe=>hnL ?_,λe=>hnL ?_⟩
    ·rw[e]at q2;exact Fw hL hc q2 hid
    ·exact Fw hL hc q2 λk hk=>hc rj.i ((hLt rj.i hjl).2 e) hjl k hk
   have next:∀v ρ' w' He',Am C F ρ' He' w'->BX ρ (AN F.X ρ He) w ρ' (AN F.X ρ' He') w'->(∀k g',g'≠n+r.i->ρ' k g'=ρ k g')->AW ρ' (AN F.X ρ' He') w' r.d v->He'.Perm (rs.filterMap (Ee use (L.setIfInBounds r.i true))++H)->wpAny C.P .any ops Q fuel (L.setIfInBounds r.i true) (a.put r.o.dst v) w':=by
    intro v ρ' w' He' pm px pf pr pp;have hi':=hi;rw[hAB]at hi' hndr pp;have hdst:=ho.dst;rw[hAB]at hdst;have hn':=DT.nextG hi' (by omega) hnL hndr hdst (hd r hr) pm px pf pr pp;rw[<-hAB]at hn';refine ih _ _ _ ρ' He' (by simp[hL]) ?_ ?_ (λj hj=>?_) hn'
    ·have:((rs.map (·.i)++suf).filter (λi=>!(L.setIfInBounds r.i true).getD i false)).length<((rs.map (·.i)++suf).filter (λi=>!L.getD i false)).length:=by
      have sub:(rs.map (·.i)++suf).filter (λi=>!(L.setIfInBounds r.i true).getD i false)=((rs.map (·.i)++suf).filter (λi=>!L.getD i false)).filter (λi=>!Nat.beq i r.i):=by
       rw[List.filter_filter];apply List.filter_congr;intro x hx;have h1:=hset x;unfold Ls at h1
       by_cases hxr:x=r.i
       ·subst hxr
        have:(L.setIfInBounds r.i true).getD r.i false=true:=h1.2 (.inl rfl)
        simp[this]
       ·have hb:Nat.beq x r.i=false:=by
         cases hb:Nat.beq x r.i with
         |false=>rfl
         |true=>exact Ak (CC hb) hxr
        rw[hb]
        by_cases hlx:L.getD x false=true
        ·rw[h1.2 (.inr hlx),hlx];rfl
        ·have:¬(L.setIfInBounds r.i true).getD x false=true:=λh=>hlx ((h1.1 h).resolve_left hxr)
         simp only[Bool.not_eq_true]at this hlx;rw[this,hlx];rfl
      rw[sub];apply List.length_filter_lt_length_iff_exists.2;exact⟨r.i,by rw[List.mem_filter];exact⟨by simp;exact .inl ⟨r,hr,rfl⟩,by unfold Ls at hnL;simpa using hnL⟩,by simp⟩
     omega
    ·intro k hk2 hks x hx
     have hk3:Ls (L.setIfInBounds r.i true) k:=by
      unfold Ls;rw[Av,B3 (by simp;omega)]at hk2⊢;simpa using hk2
     show Ls _ x;rw[hset];rcases(hset k).1 hk3 with rfl|hk3
     ·exact .inr (hid x hx)
     ·exact .inr (hc k ((hLt k hks).2 hk3) hks x hx)
    ·rw[hset]
     rintro(rfl|h)
     ·have hnd:=ho.nodup
      rw[EM]at hnd;exact hnd.2.2 r.i (Bx.2 ⟨r,hr,rfl⟩) r.i hj rfl
     ·exact hs j hj h
   unfold wpOp;simp only[hor];rcases hsteady with⟨hc0,hsteady⟩|⟨e,e',hc0,hne',hsteady⟩
   ·have pF:=nL ht hndr hr (by omega) hnL hc0 hu
    have pH:(DF r.ne He).Perm (rs.filterMap (Ee use (L.setIfInBounds r.i true))++H):=by
     refine List.Perm.trans ?_ (List.Perm.append_right H pF.symm);rw[Du];cases r.ne with
     |none=>exact hi.perm
     |some e=>exact hi.perm.cons e
    rcases hsteady.2 He ρ a w hi.mem hsub hfr hne (hi.look ho hL hc hAB hir)with⟨hw,hn0,hrep⟩|⟨hw,hout⟩
    ·rw[AH (by rw[hw];simp)]
     rw[hn0]at pH;exact next undef ρ w He hi.mem (.refl _ _ _) (λ_ _ _=>rfl) hrep pH
    ·rw[AI hw]
     refine .inl ?_;unfold Oper.wp;rcases hout with⟨v,ρ',w',h1,h2⟩|⟨f,vs,h1,h2⟩
     ·rw[h1];exact next v ρ' w' _ h2.mem h2.ext h2.far h2.rep pH
     ·rw[h1]
      refine h2.mono ?_;rintro e w' ⟨v,rfl,ρ',h3⟩;exact next v ρ' w' _ h3.mem h3.ext h3.far h3.rep pH
   ·obtain⟨r0,hr0,he0,hu0⟩:=ht.made r hr e hc0
    obtain⟨-,-,hreach⟩:=ht.late r0 hr0 _ hu0;have hL0:Ls L r0.i:=Fw hL hc hreach hid;obtain⟨X,p1,p2⟩:=nM ht hndr hr hr0 (by omega) hnL hL0 he0 hu0 hu;have pe:He.Perm (e::(X++H)):=hi.perm.trans (List.Perm.append_right H p1);have hlook:=hi.look ho hL hc hAB hir;have hO:=AN.perm (X:=F.X) (ρ:=ρ) pe;rw[hO]at hlook;obtain⟨hw,hout⟩:=hsteady.2 (X++H) ρ a w (hi.mem.perm pe) (λx hx=>List.mem_append_right _ hx) hfr (λx hx=>hne x (pe.mem_iff.2 hx)) hlook;rw[AI hw];refine .inl ?_;unfold Oper.wp;have fin:∀v ρ' w',Wi C F (X++H) ρ w (n+r.i) r.d e e' v ρ' w'->wpAny C.P .any ops Q fuel (L.setIfInBounds r.i true) (a.put r.o.dst v) w':=λv ρ' w' h=>by
     obtain⟨h2,h3,h4,h5⟩:=h;rw[<-hO]at h3;refine next v ρ' w' _ h2 h3 h4 h5 ?_;rw[hne']at p2;exact(List.Perm.append_right H p2.symm)
    rcases hout with⟨v,ρ',w',h1,h⟩|⟨f,vs,h1,h⟩
    ·rw[h1];exact fin v ρ' w' h
    ·rw[h1]
     refine h.mono ?_;rintro ex w' ⟨v,rfl,ρ',h3⟩;exact fin v ρ' w' h3
theorem e0E {use:Nat->Option Nat}{con:Nat->Option At}{rs:List B8}{s:St}{Q:Exit->St->Prop}{pre suf:List Nat}{N:Hp}(hc:HZ ops pre suf=true)
  (h1:rs.map (·.i)=pre) (ht:Nv ops rs con use) (h4:∀A r B,rs=A++r::B->ops[r.i]?=some r.o/\MB C F ops s.H con (s.n+r.i) (Ez A s.env) r) (h3:(rs.filterMap λr=>if(use r.i).isNone then r.ne else none).Perm N)
  (h:BK C F ops (suf.map λj=>ops.getD j default) ⟨Ez rs s.env,N++s.H,s.n+ops.size⟩ (Q .normal)) (hd:ops.toList.all (DY F.nt)=true) (ρ:Lk) (a:Act) (w:World) (hs:Br C F ρ s a w):
  wpAny C.P .any ops (K5 C F (Q .normal)) ops.size (Array.replicate ops.size false) a w.drew:=by
 have hor:∀r∈rs,ops[r.i]?=some r.o:=λr hr=>by
  obtain⟨A,B,hAB⟩:=EW hr;exact(h4 A r B hAB).1
 have ho:=RR h1 hor hc;have hds:∀r∈rs,DY F.nt r.o=true:=λr hr=>by
  refine CW.1 hd r.o ?_
  have:=hor r hr
  exact IH.2 (Io this)
 have hrep:∀j,(Array.replicate ops.size false).getD j false=false:=λj=>by
  rw[Av];rw[L0];split<;>rfl
 have hnL:∀j,¬Ls (Array.replicate ops.size false) j:=λj hj=>by unfold Ls at hj;rw[hrep]at hj;cases hj
 have hin:DT C F s.H s.n s.env rs use (Array.replicate ops.size false) a w.drew ρ s.H:=by
  refine⟨hs.mem.drew,?_,λr _ hl=>Ak hl (hnL _),λt _=>(hs.env t).mono (.drew _ _ _),λk g hg hk=>Ak (hs.fresh k g hg) hk,hs.nt,hs.dfr⟩
  have:rs.filterMap (Ee use (Array.replicate ops.size false))=[]:=by
   rw[TO];intro r _;exact Uj (hnL _)
  rw[this];exact List.Perm.refl _
 refine kH ho hs.gen hds ht h4 ?_ ops.size _ a w.drew ρ s.H (by simp) ?_ ?_ (λj _=>hnL j) hin
 ·intro L a' w' ρ' He hL hall hi
  have hN:He.Perm (N++s.H):=by
   refine hi.perm.trans (List.Perm.append_right _ ?_);have e:rs.filterMap (Ee use L)=rs.filterMap (λr=>if(use r.i).isNone then r.ne else none):=KE λr hr=>by
    have h9:=hall r hr;cases hu:use r.i with
    |none=>exact AI ⟨h9,λj hj=>by rw[hu]at hj;cases hj⟩
    |some j=>
     refine AH λk=>?_
     have h8:=k.2 j hu;obtain⟨q1,-,-⟩:=ht.late r hr j hu;obtain⟨rj,hrj,rfl⟩:=Bx.1 q1;have h7:=hall rj hrj;unfold Ls at h7;rw[h7]at h8;cases h8
   rw[e];exact h3
  refine h ?_ suf ?_ ρ' a' w' ⟨hi.mem.perm hN,?_,?_,λt=>?_,hi.nt,hi.dfr⟩
  ·rw[CW]
   intro o' ho';obtain⟨j,hj,rfl⟩:=Bx.1 ho';have hlt:=ho.lt j (by simp[hj]);refine CW.1 hd _ ?_;rw[Av,B3 hlt];simp
  ·rw[List.map_map]
   refine Qc λj hj=>?_
   have hlt:=ho.lt j (by simp[hj]);simp[Av,B3 hlt]
  ·intro k g hg
   apply DH;intro hk;obtain⟨r,hr,_,he⟩:=hi.fresh k g (by simp at hg;omega) hk
   have:=ho.lt r.i (by simp;exact .inl ⟨r,hr,rfl⟩)
   simp at hg;omega
  ·intro e he
   rcases Bp.1 he with he|he
   ·have he:=h3.mem_iff.2 he
    obtain⟨r,hr,hre⟩:=List.mem_filterMap.1 he;obtain⟨A,B,hAB⟩:=EW hr;split at hre
    ·have:=(h4 A r B hAB).2.gen e hre
     have:=ho.lt r.i (by simp;exact .inl ⟨r,hr,rfl⟩)
     show e.g<s.n+ops.size;omega
    ·cases hre
   ·have:=hs.gen e he
    show e.g<s.n+ops.size;omega
  ·show AW ρ' (AN F.X ρ' (N++s.H)) w' ((Ez rs s.env).get t) _
   rw[<-AN.perm hN]
   by_cases hw:∃r∈rs,r.o.dst=some t
   ·obtain⟨r,hr,hrd⟩:=hw
    rw[MX rs s.env t ho.dst r hr hrd];exact hi.reps r hr (hall r hr) t hrd
   ·rw[Jb rs s.env t λr hr hrd=>hw ⟨r,hr,hrd⟩]
    exact hi.old t λr hr _ hrd=>hw ⟨r,hr,hrd⟩
 ·refine BY (List.length_filter_le _ _) ?_
  have hsub:∀(l:List Nat) (n:Nat),l.Nodup->(∀x∈l,x<n)->l.length<=n:=by
   intro l n
   induction n generalizing l with
   |zero=>intro _ h;cases l with
    |nil=>simp
    |cons x l=>exact Ak (h x (by simp)) (by omega)
   |succ n ihn=>
    intro hnd hlt;have h1:=ihn (l.erase n) (hnd.erase n) λx hx=>by
     have:=hlt x (List.mem_of_mem_erase hx)
     have:x≠n:=λh=>by subst h;exact(TQ hnd) hx
     omega
    have:=List.length_erase (a:=n) (l:=l)
    split at this<;>omega
  exact hsub _ _ ho.nodup ho.lt
 ·intro k hk
  have:k<ops.size\/¬k<ops.size:=by omega
  rcases this with hlt|hlt
  ·rw[Av,L0,AI hlt]at hk;cases hk
  ·intro h;exact Ak h hlt
def QA (C:BA)(F:Ad)(ops:Array Oper)(H:Hp)(con:Nat->Option At)(n:Nat):List B8->Ap->Prop
 | [],_=>True
 |r::B,env=>(ops[r.i]?=some r.o/\MB C F ops H con (n+r.i) env r)/\QA C F ops H con n B (Bh env r.o.dst r.d)
theorem QA.at {H:Hp}{con:Nat->Option At}{n:Nat}:∀ {rs:List B8} {env:Ap},QA C F ops H con n rs env->∀A r B,rs=A++r::B->ops[r.i]?=some r.o/\MB C F ops H con (n+r.i) (Ez A env) r
 | [],_,_,A,r,B,he=>by cases A<;>simp at he
 |x::rs,env,h,[],r,B,he=>by
  rw[Ei]at he;cases he;exact h.1
 |x::rs,env,h,y::A,r,B,he=>by
  rw[EU]at he;cases he;exact QA.at h.2 A r B rfl
def Lx (ops:Array Oper)(l:List (Nat×D×Option At)):List B8:=l.map λp=>⟨p.1,ops.getD p.1 default,p.2.1,p.2.2⟩
theorem Us {l:List Nat}{i j:Nat}(h:Cq j (F9 (JH ops l []) i)=true):Dw ops i j:=Oz (Oy _ _ (by simp)) i j (H4.1 h)
variable {X:EV} {s:St} {rd:Option Nat} {B:Ad} {Q:Exit->Ad->St->Prop}
theorem e1g {i:Nat}(hX:Dg C X)(kb:Nat)(pre suf:List Nat){use:Nat->Option Nat}{con:Nat->Option At}{rs:List B8}{N:Hp}(hc:(HZ ops pre suf&&Eo ops.toList)=true)(h1:rs.map (·.i)=pre)(ht:Nv ops rs con use)
  (h4:∀A r B,rs=A++r::B->ops[r.i]?=some r.o/\MB C F ops s.H con (s.n+r.i) (Ez A s.env) r) (h3:(rs.filterMap λr=>if(use r.i).isNone then r.ne else none).Perm N)
  (h:C7 C X kb ops suf ⟨Ez rs s.env,N++s.H,s.n+Fj ops.toList⟩ True λacc s=>acc/\Q .normal F s):AC C B rd F (.region i ops true) s Q:=by
 have hsz:ops.size=Fj ops.toList:=by rw[Rt,Ip]
 rw[<-hsz]at h;simp only[BZ]at hc;have h5:=(F5 (F:=F) (K':=Q .normal F) hX (λacc s h=>h) h).2;exact⟨λhB hd ρ a w hs=>wpIn_region_any hX.mixed (KI (λ_ _ _ h=>KC (F:=F) hB (λ_ h=>h) h) (IX hc.2) _ _ _ _ (e0E (Q:=λe s=>Q e F s) hc.1 h1 ht h4 h3 h5 (KL hB hd) ρ a w hs))⟩
end
def Ad.subZ (ρ:Lk)(H:Hp)(w:World)(nt:Nat)(X' Z:Nat->Prop)(df:List Deferred):Ad:=⟨w,X',λb=>(∃e∈H,ρ e.k e.g=some b)\/Z b,nt,ρ,df⟩
section
variable {C:BA} {F:Ad} {ρ:Lk} {H:Hp} {w w1:World} {X' Z:Nat->Prop}
theorem Am.enterZ (m:Am C F ρ H w)(x:BX ρ (AN F.X ρ H) w ρ (AN X' ρ H) w1)(h1:w1.os=w.os)(h2:w1.tape=w.tape)(h3:w1.output=w.output)
  (h4:∀b,b<w.heap.size->¬Z b->w1.heap[b]?=w.heap[b]?) (hZo:∀e∈H,∀b,ρ e.k e.g=some b->¬Z b) (hX:∀b,X' b->b<w1.heap.size) (hXo:∀e∈H,∀b,ρ e.k e.g=some b->¬X' b) (hZ:∀b,Z b->C.nG<=b) (nt:Nat) (df:List Deferred):
  Am C (Ad.subZ ρ H w1 nt X' Z df) ρ H w1 where
 hok:=⟨λe he=>by
  rcases m.hok.ent e he with h|⟨b,cs,a1,a2,a3⟩
  ·exact .inl h
  ·exact .inr ⟨b,cs,a1,by rw[h4 b (m.lt he a1) (hZo e he b a1)];exact a2,a3.mono x⟩,m.hok.inj,λe he b hb=>⟨hXo e he b hb,.inr (.inl ⟨e,he,hb⟩)⟩⟩
 os:=rfl
 tape:=rfl
 output:=rfl
 size:=Ar _
 blk:=λ_ _ _=>rfl
 xlt:=hX
 g0:=C.hG _ _ m.g ⟨h1,h2,h3,x.size,λb hb=>h4 b (Co hb (BY m.gn m.size)) λhz=>Ak (hZ b hz) (by omega)⟩
 gn:=BY m.gn (BY m.size x.size)
 gw:=λb h=>by
  rcases h with⟨e,he,hb⟩|h
  ·rcases(m.hok.own e he b hb).2 with h|h
   ·exact BY m.gn h
   ·exact m.gw b h
  ·exact hZ b h
 lnk:=λ_ _ _ h=>h
 shp:=λ_ cs _ _ h=>⟨cs,_,h,rfl⟩
theorem Am.leaveZ {nt:Nat}{df:List Deferred}{ρ':Lk}{H':Hp}{w':World}(m:Am C F ρ H w1)(hX:∀b,F.X b->X' b)(hZ:∀b,Z b->F.w0.heap.size<=b\/F.Wr b)(m':Am C (Ad.subZ ρ H w1 nt X' Z df) ρ' H' w'):
  Am C F ρ' H' w'/\BX ρ (λb=>AN F.X ρ H b\/Z b) w1 ρ' (AN F.X ρ' H') w':=by
 have hwr:∀b,(∃e∈H,ρ e.k e.g=some b)->¬F.X b/\(F.w0.heap.size<=b\/F.Wr b):=λb ⟨e,he,hb⟩=>m.hok.own e he b hb
 have x:BX ρ (λb=>AN F.X ρ H b\/Z b) w1 ρ' (AN F.X ρ' H') w':=by
  refine⟨m'.size,m'.lnk,λb hb hO=>⟨?_,m'.blk b hb λh=>?_⟩,m'.shp⟩
  ·rintro(h|⟨e,he,h⟩)
   ·exact hO (.inl (.inl h))
   ·rcases(m'.hok.own e he b h).2 with h'|h'|h'
    ·exact Ak hb (Nat.not_lt.2 h')
    ·exact hO (.inl (.inr h'))
    ·exact hO (.inr h')
  ·rcases h with h|h
   ·exact hO (.inl (.inr h))
   ·exact hO (.inr h)
 refine⟨⟨⟨λe he=>?_,m'.hok.inj,λe he b hb=>?_⟩,m'.os.trans m.os,m'.tape.trans m.tape,m'.output.trans m.output,BY m.size m'.size,λb hb hw=>?_,m.xlt,m.g0,m.gn,m.gw,
  λ_ _ _ h=>m'.lnk _ _ _ (m.lnk _ _ _ h),I5 m.shp x⟩,x⟩
 ·rcases m'.hok.ent e he with h|⟨b,cs,a1,a2,a3⟩
  ·exact .inl h
  ·exact .inr ⟨b,cs,a1,a2,a3.anti λb hb=>hb.imp (hX b) id⟩
 ·have h:=m'.hok.own e he b hb
  refine⟨λhx=>h.1 (hX b hx),?_⟩;rcases h.2 with h'|h'|h'
  ·exact .inl (BY m.size h')
  ·exact(hwr b h').2
  ·exact hZ b h'
 ·have h1:=m'.blk b (Co hb m.size) λh=>by
   rcases h with h|h
   ·rcases(hwr b h).2 with h'|h'
    ·omega
    ·exact hw h'
   ·rcases hZ b h with h'|h'
    ·omega
    ·exact hw h'
  exact h1.trans (m.blk b hb hw)
theorem DG.subZ (m:Am C F ρ H w1)(hX:∀b,F.X b->X' b)(hZ:∀b,Z b->F.w0.heap.size<=b\/F.Wr b)(rs:List Nat)(hn:rs.Nodup)
  (hr:∀r∈rs,F.w0.heap.size<=r/\r<w1.heap.size/\X' r/\(¬Z r/\∀e∈H,ρ e.k e.g≠some r)/\w1.heap[r]?=some (.deferred (some []))):
  DG C F (Ad.subZ ρ H w1 F.nt X' Z (rs.map (λr=>{ target:=.collected r,args:=#[] })++F.df)):=
 ⟨rfl,m.size,λh=>(m.leaveZ hX hZ h).1,hX,_,rfl,rs,rfl,hn,λr hr'=>by
  obtain⟨a1,a2,a3,⟨a4,a5⟩,a6⟩:=hr r hr';refine⟨a1,a2,a3,λρ' H' w' m'=>?_⟩;have hb:=m'.blk r a2 λh=>by
   rcases h with⟨e,he,h⟩|h
   ·exact a5 e he h
   ·exact a4 h
  exact hb.trans a6⟩
def GD (w:World):List Nat->World
 | []=>w
 |r::rs=>GD (w.putObj r (.deferred none)) rs
theorem PB:∀(rs:List Nat) (w:World),(GD w rs).heap.size=w.heap.size
 | [],_=>rfl
 |r::rs,w=>by rw[GD,PB rs];simp[World.putObj]
theorem MM:∀(rs:List Nat) (w:World) (b:Nat),b∉rs->(GD w rs).heap[b]?=w.heap[b]?
 | [],_,_,_=>rfl
 |r::rs,w,b,h=>by
  rw[GD,MM rs _ b (λhb=>h (by simp[hb])),World.putObj_heap_other (λhb=>h (by simp[hb]))]
theorem Yj:∀(rs:List Nat) (w:World),(GD w rs).os=w.os/\(GD w rs).tape=w.tape/\(GD w rs).output=w.output
 | [],_=>⟨rfl,rfl,rfl⟩
 |r::rs,w=>by rw[GD];exact Yj rs _
theorem XT {P:Program}{fn:Func}{tmps:Array Value}{R:Ending->World->Prop}:∀(rs:List Nat) (w:World),rs.Nodup->(∀r∈rs,w.heap[r]?=some (.deferred (some []))) ->
  (∃v,(results fn tmps).run P (GD w rs)=.ok v (GD w rs)/\R (.returned v) (GD w rs))->LeavesInM (fw none) 0 P fn tmps R (rs.map (λr=>{ target:=.collected r,args:=#[] })) .returning w
 | [],w,_,_,h=>h
 |r::rs,w,hn,hr,h=>by
  obtain⟨n1,n2⟩:=List.nodup_cons.1 hn;refine⟨by simp,.inl ⟨r,_,rfl,run_takeDeferred (hr r (by simp)),XT rs _ n2 (λq hq=>?_) h⟩⟩;rw[World.putObj_heap_other (λhb=>by subst hb;exact n1 hq)];exact hr q (by simp[hq])
theorem DG.finish {fn:Func}{s:St}{a:Act}{tt:Nat->Option A7}{d:D}{p:Prop}{F':Ad}(htt:C5 C.P tt)(hF:DG C F F')(hd0:F.df=[])(hs:Br C F' ρ s a w)(h:JL tt s fn.results.toList=some (d,p))(hp:p):
  ∃v w',LeavesIn (fw none) 0 C.P fn a.tmps (λe w2=>e=.returned v/\w2=w') [] .returning w' /\
   (∀R:Ending->World->Prop,R (.returned v) w'->LeavesInM (fw none) 0 C.P fn a.tmps R a.defers .returning w) /\
   Am C F ρ s.H w'/\AW ρ (AN F'.X ρ s.H) w' d v/\(∀b,F.X b->F'.X b)/\BX ρ (AN F'.X ρ s.H) w ρ (AN F'.X ρ s.H) w' /\
   (∀b,b<F.w0.heap.size->w'.heap[b]?=w.heap[b]?)/\w'.heap.size=w.heap.size/\∃F2,Am C F2 ρ s.H w'/\F2.X=F'.X:=by
 obtain⟨ms,e1,rs,e2,hn,hr⟩:=hF.df;rw[hd0,De]at e1;have hdf:a.defers=rs.map (λr=>{ target:=.collected r,args:=#[] }):=by rw[hs.dfr,e1,e2]
 have mF:=hF.mem hs.mem;have hZ:∀b,b∈rs->F.w0.heap.size<=b\/F.Wr b:=λb hb=>.inl (hr b hb).1
 have hXr:∀b,b∈rs->F'.X b:=λb hb=>(hr b hb).2.2.1
 have hdr:∀r∈rs,w.heap[r]?=some (.deferred (some [])):=λr h=>(hr r h).2.2.2 _ _ _ hs.mem
 have hno:∀e∈s.H,∀b,ρ e.k e.g=some b->b∉rs:=λe he b hb hb'=>(hs.mem.hok.own e he b hb).1 (hXr b hb')
 have x:BX ρ (AN F'.X ρ s.H) w ρ (AN F'.X ρ s.H) (GD w rs):=by
  refine⟨by rw[PB];exact Ar _,λ_ _ _ h=>h,λb hb hO=>⟨hO,MM _ _ _ λh=>hO (.inl (hXr b h))⟩,λb cs T fz h=>⟨cs,fz,?_,rfl⟩⟩;rw[MM _ _ _ λhb=>by rw[hdr b hb]at h;cases h];exact h
 obtain⟨o1,o2,o3⟩:=Yj rs w;have m2:=hs.mem.enterZ (Z:=λb=>b∈rs) (X':=F'.X) x o1 o2 o3 (λb _ hb=>MM _ _ _ hb) hno (λb hb=>by rw[PB];exact Co (hs.mem.xlt b hb) hs.mem.size)
  (λe he b hb=>(hs.mem.hok.own e he b hb).1) (λb hb=>BY mF.gn (hr b hb).1) F'.nt F'.df
 have hs2:Br C (Ad.subZ ρ s.H (GD w rs) F'.nt F'.X (λb=>b∈rs) F'.df) ρ s a (GD w rs):=⟨m2,hs.fresh,hs.gen,λt=>(hs.env t).mono x,hs.nt,hs.dfr⟩
 obtain⟨v,r1,r2⟩:=VO htt hs2 h hp;have mF2:Am C F ρ s.H (GD w rs):=by
  have mw:Am C (Ad.subZ ρ s.H w F'.nt F'.X (λb=>b∈rs) F'.df) ρ s.H w:=hs.mem.enterZ (.refl _ _ _) rfl rfl rfl (λ_ _ _=>rfl) hno (λb hb=>Co (hs.mem.xlt b hb) hs.mem.size) (λe he b hb=>(hs.mem.hok.own e he b hb).1)
   (λb hb=>BY mF.gn (hr b hb).1) _ _
  refine(mF.leaveZ hF.X hZ (nt:=F'.nt) (df:=F'.df) (ρ':=ρ) (H':=s.H) (w':=GD w rs) ⟨⟨λe he=>?_,mw.hok.inj,mw.hok.own⟩,o1,o2,o3,by rw[PB];exact Ar _,λb hb hw=>MM _ _ _ λh=>hw (.inr h),mw.xlt,mw.g0,mw.gn,mw.gw,λ_ _ _ h=>h,I5 mw.shp x⟩).1;rcases mw.hok.ent e he with h|⟨b,cs,a1,a2,a3⟩
  ·exact .inl h
  ·exact .inr ⟨b,cs,a1,by rw[MM _ _ _ (hno e he b a1)];exact a2,a3.mono x⟩
 refine⟨v,GD w rs,⟨v,r1,rfl,rfl⟩,λR hR=>?_,mF2,r2,hF.X,x,λb hb=>MM _ _ _ λh=>?_,PB _ _,_,m2,rfl⟩
 ·rw[hdf];exact XT rs w hn hdr ⟨v,r1,hR⟩
 ·have:=(hr b h).1;omega
end
section
variable {C:BA} {X:EV}
def Js (tt:Nat->Option A7)(s:St)(rs:List ResultVar)(k:D->Prop):Prop:=match JL tt s rs with
 |some (d,p)=>p/\k d
 |none=>False
def Se (tt:Nat->Option A7)(rs:List ResultVar)(Φ:D->Prop)(e:Exit)(_:Ad)(s:St):Prop:=match e with
 | .normal | .ret=>Js tt s rs λd0=>∃d,Fz s.H [] d0 d/\CE d/\Φ d
 |_=>False
def tU (tt:Nat->Option A7)(rs:List ResultVar)(Φ:D->Hp->Nat->Prop)(e:Exit)(_:Ad)(s:St):Prop:=match e with
 | .normal | .ret=>Js tt s rs λd=>Φ d s.H s.n
 |_=>False
theorem RY {tt:Nat->Option A7}{s:St}{rs:List ResultVar}{k:D->Prop}(h:Js tt s rs k):∃d p,JL tt s rs=some (d,p)/\p/\k d:=by
 unfold Js at h;split at h
 ·rename_i d p he;exact⟨d,p,he,h.1,h.2⟩
 ·exact h.elim
theorem Af.walk {f:Nat}{i:FI}{args:List D}{Φ:D->Prop}(hX:Dg C X)(hf:J5 C.P f i)(hnt:Nat.ble args.length i.nt=true)
  (h:∀F:Ad,AC C F none F i.code ⟨Dj 0 args,[],0⟩ (Se X.tt i.res Φ)):Af C f args Φ:=by
 obtain⟨fn,hf,hb,hn,hd,hni,hres⟩:=hf;rw[<-hni]at hnt;refine⟨⟨fn,i.code,hf,hb,hn⟩,λY w vs hG hnG hX' hvs hr=>?_⟩;have hnt:=Dm hnt;refine(LG (rd:=none) (n:=0)).1 (callsIn_of_wp_marks hf hb AB ?_);have hown:∀b,AN Y nol [] b↔Y b:=by simp[AN]
 have hoe:AN Y nol []=Y:=funext λb=>propext (hown b)
 let F0:Ad:=⟨w,Y,λ_=>False,fn.ntmps,nol,[]⟩
 have sat:Br C F0 nol ⟨Dj 0 args,[],0⟩ { tmps:=vs++Array.replicate (fn.ntmps-vs.size) undef,defers:=[] } w:=by
  refine⟨⟨⟨by simp,.nil,by simp⟩,rfl,rfl,rfl,Ar _,λ_ _ _=>rfl,hX',hG,hnG,by simp[F0],λ_ _ _ h=>h,λ_ cs _ _ h=>⟨cs,_,h,rfl⟩⟩,λ_ _ _=>rfl,by simp,λt=>?_,by simp[F0];omega,rfl⟩;show AW nol (AN Y nol []) w _ _;rw[hoe];exact PR hvs hr t
 refine wpIn_mono ((h F0).out (.refl F0) hd nol _ w sat) ?_;rintro e a' w' ⟨F',s',ρ',hF,hq,hs'⟩;have key:Js X.tt s' i.res (λd0=>∃d,Fz s'.H [] d0 d/\CE d/\Φ d)->LeavesInM (fw none) 0 C.P fn a'.tmps (λe w'=>∃v d,e=.returned v/\Below w.heap.size w w'/\Φ d/\AW nol Y w' d v) a'.defers .returning w':=λhq=>by
  obtain⟨d0,p,h1,h2,d,h3,h4,h5⟩:=RY hq;rw[<-hres]at h1;obtain⟨v,w2,_,hl,mF,r2,hXX,x,hbl,hsz,F2,m2,hX2⟩:=hF.finish hX.tt rfl hs' h1 h2;refine hl _ ⟨v,d,rfl,⟨mF.os,mF.tape,mF.output,mF.size,λb hb=>mF.blk b hb (by simp[F0])⟩,h5,?_⟩;have hH:Cs s'.H [] s'.H []:=by
   generalize s'.H=H0
   have:∀H1:Hp,Cs H0 [] H1 []:=λH1=>by
    induction H1 with
    |nil=>exact .nil
    |cons e r ih=>exact .drop ih
   exact this H0
  obtain⟨m,hO,hN⟩:=hH.mem m2;have r3:=h3.rep m2 hO hN (by rw[hX2];exact r2);have r4:=h4 _ nol _ _ _ r3;exact r4.anti λb hb=>.inl (by rw[hX2];exact hXX b hb)
 cases e with
 |normal=>exact key hq
 |ret=>exact key hq
 |_=>exact hq.elim
theorem CX.walk {f:Nat}{i:FI}{args:List D}{H:Hp}{n:Nat}{Φ:D->Hp->Nat->Prop}(hX:Dg C X)(hf:J5 C.P f i)(hnt:Nat.ble args.length i.nt=true)
  (h:∀F:Ad,AC C F none F i.code ⟨Dj 0 args,H,n⟩ (tU X.tt i.res Φ)):CX C f args H n Φ:=by
 obtain⟨fn,hf,hb,hn,hd,hni,hres⟩:=hf;rw[<-hni]at hnt;refine⟨⟨fn,i.code,hf,hb,hn⟩,λF ρ w vs m hfr hg hvs hr=>?_⟩;have hnt:=Dm hnt;refine(LG (rd:=none) (n:=0)).1 (callsIn_of_wp_marks hf hb AB ?_);have sat:Br C (F.sub ρ H w fn.ntmps) ρ ⟨Dj 0 args,H,n⟩ { tmps:=vs++Array.replicate (fn.ntmps-vs.size) undef,defers:=[] } w:=
  ⟨m.enter _,hfr,hg,PR hvs hr,by simp[Ad.sub];omega,rfl⟩
 refine wpIn_mono ((h (F.sub ρ H w fn.ntmps)).out (.refl _) hd ρ _ w sat) ?_;rintro e a' w' ⟨F',s',ρ',hF,hq,hs'⟩;have key:Js X.tt s' i.res (λd=>Φ d s'.H s'.n)->LeavesInM (fw none) 0 C.P fn a'.tmps (λe w'=>∃v d H' n' ρ',e=.returned v/\Φ d H' n'/\Am C F ρ' H' w'/\BX ρ (AN F.X ρ H) w ρ' (AN F.X ρ' H') w'/\Jp ρ' n'/\(∀e∈H',e.g<n') /\
   AW ρ' (AN F.X ρ' H') w' d v) a'.defers .returning w':=λhq=>by
  obtain⟨d,p,h1,h2,h3⟩:=RY hq;rw[<-hres]at h1;obtain⟨v,w2,_,hl,mF,r2,hXX,x,hbl,hsz,F2,m2,hX2⟩:=hF.finish hX.tt rfl hs' h1 h2;obtain⟨m',x'⟩:=m.leave mF;exact hl _ ⟨v,d,_,_,ρ',rfl,h3,m',x',hs'.fresh,hs'.gen,r2.anti λb hb=>hb.imp (hXX b) id⟩
 cases e with
 |normal=>exact key hq
 |ret=>exact key hq
 |_=>exact hq.elim
variable {B F:Ad} {s:St} {rd:Option Nat} {Q:Exit->Ad->St->Prop}
theorem DA {a b:Code}(s':St)(h1:AC C B rd F a s (λe F1 s1=>Jr (F1=F/\Wk s1 s') (λe=>Q e F1 s1) e))(h2:AC C B rd F b s' Q):AC C B rd F (.seq a b) s Q:=
 AC.seq (h1.mono λe F1 s1 h=>by
  cases e with
  |normal=>
   obtain⟨h0,h3⟩:=(show F1=F/\Wk s1 s' from h)
   rw[h0];exact AC.weak s' h3 h2
  |ret=>exact h
  |exit j=>exact h
  |goto l=>exact h
  |panic c=>exact h
  |outgrown=>exact h)
theorem yy {H Hf:Hp}{d d':D}(h:d=d'):Fz H Hf d d':=h ▸ .refl d
end
structure LR where
 fn:Nat
 tmps:Array Value
 ps:Array Nat
 as:Code
 bd:Code
 dfs:Nat
def LR.lp (R:LR)(st:LoopState)(j:Option Code):Loop:={ state:=st,pending:=j,fn:=R.fn,tmps:=R.tmps,params:=R.ps,assign:=R.as,body:=R.bd,defers:=R.dfs }
def LR.obj (R:LR)(j:Option Code):Obj:=.loop (R.lp (if j.isNone then .ready else .done) j)
def Ad.wr (F:Ad)(l:Nat):Ad:=⟨F.w0,F.X,λb=>F.Wr b\/b=l,F.nt,F.r0,F.df⟩
section
variable {C:BA} {F B:Ad} {ρ:Lk} {H:Hp} {w:World} {l:Nat} {R:LR}
theorem Am.wr (m:Am C F ρ H w)(hl:C.nG<=l):Am C (F.wr l) ρ H w:=
 ⟨⟨m.hok.ent,m.hok.inj,λe he b hb=>⟨(m.hok.own e he b hb).1,(m.hok.own e he b hb).2.imp id .inl⟩⟩,m.os,m.tape,m.output,m.size,λb hb h=>m.blk b hb λh'=>h (.inl h'),m.xlt,m.g0,m.gn,λb h=>by
  rcases h with h|rfl
  ·exact m.gw b h
  ·exact hl,m.lnk,m.shp⟩
theorem Am.unwr (m:Am C (F.wr l) ρ H w)(hX:F.X l)(hb:w.heap[l]?=F.w0.heap[l]?):Am C F ρ H w:=
 ⟨⟨m.hok.ent,m.hok.inj,λe he b hb=>⟨(m.hok.own e he b hb).1,by
  rcases(m.hok.own e he b hb).2 with h|h|h
  ·exact .inl h
  ·exact .inr h
  ·exact Ak (h ▸ hX) (m.hok.own e he b hb).1⟩⟩,m.os,m.tape,m.output,m.size,λb hb' h=>by
   by_cases hl:b=l
   ·subst hl;exact hb
   ·exact m.blk b hb' λh'=>h'.elim h hl,m.xlt,m.g0,m.gn,λb h=>m.gw b (.inl h),m.lnk,m.shp⟩
theorem J7 (w:World)(l:Nat)(o:Obj):(w.putObj l o).os=w.os/\(w.putObj l o).tape=w.tape/\(w.putObj l o).output=w.output/\(w.putObj l o).heap.size=w.heap.size:=⟨rfl,rfl,rfl,by simp[World.putObj]⟩
theorem BX.putL {O:Nat->Prop}(hO:O l){r:Loop}(h:w.heap[l]?=some (.loop r))(o:Obj):BX ρ O w ρ O (w.putObj l o):=
 ⟨by rw[(J7 w l o).2.2.2];exact Ar _,λ_ _ _ h=>h,λb hb hb'=>⟨hb',World.putObj_heap_other λhbl=>hb' (by rw[hbl];exact hO)⟩,λb cs T fz hc=>⟨cs,_,by
  rw[World.putObj_heap_other λhbl=>by rw[hbl,h]at hc;cases hc];exact hc,rfl⟩⟩
theorem Am.putL (m:Am C F ρ H w)(hX:F.X l)(hW:F.Wr l){r:Loop}(h:w.heap[l]?=some (.loop r))(o:Obj):Am C F ρ H (w.putObj l o):=by
 have x:=BX.putL (ρ:=ρ) (O:=AN F.X ρ H) (.inl hX) h o;exact⟨⟨λe he=>by
  rcases m.hok.ent e he with h|⟨b,cs,a1,a2,a3⟩
  ·exact .inl h
  ·exact .inr ⟨b,cs,a1,by rw[World.putObj_heap_other λhb=>(m.hok.own e he b a1).1 (by rw[hb];exact hX)];exact a2,a3.mono x⟩,m.hok.inj,m.hok.own⟩,
  m.os,m.tape,m.output,by rw[(J7 w l o).2.2.2];exact m.size,λb hb hw=>by rw[World.putObj_heap_other λhbl=>hw (by rw[hbl];exact hW)];exact m.blk b hb hw,m.xlt,m.g0,m.gn,m.gw,m.lnk,I5 m.shp x⟩
def R8 (C:BA)(F:Ad)(l:Nat)(R:LR)(ρ:Lk)(H:Hp)(w:World)(Φ:Option Code->D->Hp->Nat->Prop):Ending->World->Prop:=λe w'=>
 ∃v j d H' n' ρ',e=.returned v/\Φ j d H' n'/\w'.heap[l]?=some (R.obj j)/\Am C (F.wr l) ρ' H' w'/\BX ρ (AN F.X ρ H) w ρ' (AN F.X ρ' H') w'/\Jp ρ' n'/\(∀e∈H',e.g<n')/\AW ρ' (AN F.X ρ' H') w' d v
abbrev GP:=Lk->(Nat->Prop)->World->Prop
def GP.ok (E:GP):Prop:=∀ρ O w ρ' O' w',E ρ O w->BX ρ O w ρ' O' w'->E ρ' O' w'
def Pi (C:BA)(E:GP)(f:Nat)(args:List D)(l:Nat)(R:LR)(H:Hp)(n:Nat)(Φ:Option Code->D->Hp->Nat->Prop):Prop:=
 KA C.P f/\∀(F:Ad) (ρ:Lk) (w:World) (vs:Array Value),Am C F ρ H w->F.X l->C.nG<=l->E ρ (AN F.X ρ H) w->w.heap[l]?=some (R.obj none)->Jp ρ n->(∀e∈H,e.g<n)->vs.size=args.length ->
  (∀(i:Nat) (d:D),args[i]?=some d->AW ρ (AN F.X ρ H) w d (vs.getD i undef))->Calls C.P f vs w (R8 C F l R ρ H w Φ)
def R7 (C:BA)(E:GP)(l:Nat)(R:LR)(ds:List D)(H:Hp)(n:Nat)(Φ:Option Code->Hp->Nat->Prop):Prop:=
 ∀(F:Ad) (ρ:Lk) (w:World) (vs:Array Value),Am C F ρ H w->F.X l->C.nG<=l->E ρ (AN F.X ρ H) w->w.heap[l]?=some (R.obj none)->Jp ρ n->(∀e∈H,e.g<n)->vs.size=ds.length ->
  (∀(i:Nat) (d:D),ds[i]?=some d->AW ρ (AN F.X ρ H) w d (vs.getD i undef))->vs.size=R.ps.size /\
  RoundIn (fw none) 0 C.P l R.fn ((R.ps.zip vs).foldl (λtmps (t,a)=>tmps.setIfInBounds t a) R.tmps) R.as R.bd w (R8 C F l R ρ H w λj d H' n'=>d=Al j.isNone/\Φ j H' n')
structure Mr (C:BA)(E:GP)(B F:Ad)(l:Nat)(R:LR):Prop where
 X:F.X l
 nw:¬F.Wr l
 at0:F.w0.heap[l]?=some (R.obj none)
 up:∀ {ρ:Lk} {H:Hp} {w:World},Am C (F.wr l) ρ H w->Am C B ρ H w
 ng:C.nG<=l
 df:F.df=B.df
 ext:∀ {ρ:Lk} {H:Hp} {w:World},Am C F ρ H w->E ρ (AN F.X ρ H) w
def QD (C:BA)(l:Nat)(R:LR)(j:Option Code)(F:Ad):Prop:=∀ {ρ:Lk} {H:Hp} {w:World},Am C F ρ H w->w.heap[l]?=some (R.obj j)
theorem Mr.stat {E:GP}(h:Mr C E B F l R):QD C l R none F:=λm=>(m.blk l (m.xlt l h.X) h.nw).trans h.at0
theorem Br.reframe {F':Ad}{s:St}{a:Act}(h:Br C F ρ s a w)(m:Am C F' ρ s.H w)(hX:F'.X=F.X)(hn:F'.nt=F.nt)(hd:F'.df=F.df):Br C F' ρ s a w:=
 ⟨m,h.fresh,h.gen,λt=>by rw[hX];exact h.env t,h.nt.trans hn.symm,h.dfr.trans hd.symm⟩
theorem oH {s:St}{o:Oper}{fop:Operand}{args:Array Operand}{tys:Array Nat}{a:Act}(ho:o.op=.call ⟨.value fop,args,tys⟩)(hf:BG s.env fop=.clo (.yield l) [] [])(hs:Br C F ρ s a w):
  ∃vs,(execOp a.eval o).run C.P w=(Instr.yield l vs).run C.P w/\vs.size=(args.toList.map (BG s.env)).length /\
   ∀(i:Nat) (d:D),(args.toList.map (BG s.env))[i]?=some d->AW ρ (AN F.X ρ s.H) w d (vs.getD i undef):=by
 have hfr:=Dh hs.env fop;rw[hf]at hfr;generalize hv:a.eval fop=v at hfr;cases hfr with
 |clo hn hc h1 h2=>
  rename_i fs cs;have hfs:fs = #[]:=Array.eq_empty_of_size_eq_zero (by simpa using hn);subst hfs;refine⟨args.map a.eval,?_,by simp,λi d hd=>?_⟩
  ·unfold execOp
   simp only[ho];rw[run_bind]
   have:(resolve a.eval ⟨.value fop,args,tys⟩ o.type).run C.P w=.ok { target:=.fn (.yield l) cs,args:=#[]++args.map a.eval } w:=by
    unfold resolve;simp only[hv];rfl
   rw[this];dsimp only;unfold invoke;simp
  ·simp only[Ay,Jv,E4]at hd
   obtain⟨x,hx,rfl⟩:=hd
   have:(args.map a.eval).getD i undef=a.eval x:=by simp[Av,hx]
   rw[this];exact Dh hs.env x
variable {X:EV} {ops:Array Oper} {s:St} {E:GP} {Q:Exit->Ad->St->Prop}
def Sd (C:BA)(X:EV)(E:GP)(F:Ad)(l:Nat)(R:LR)(kb:Nat)(ops:Array Oper)(iy:Nat)(l2:List Nat)(Q:Exit->Ad->St->Prop)(s:St):Prop:=match Dl ops.toList iy with
 |some o=>match o.guard with
  |none=>match o.op with
   | .call ⟨.value fop,args,_⟩=>BG s.env fop=.clo (.yield l) [] []/\∃Φ,R7 C E l R (args.toList.map (BG s.env)) s.H s.n Φ /\
     (∀H' n',Φ none H' n'->C7 C X kb ops l2 ⟨Bh s.env o.dst (Al true),H',n'⟩ True λacc s=>acc/\Q .normal F s) /\
     (∀c H' n',Φ (some c) H' n'->∀F2:Ad,QD C l R (some c) F2->C7 C X kb ops l2 ⟨Bh s.env o.dst (Al false),H',n'⟩ True λacc s=>acc/\Q .normal F2 s)
   |_=>False
  |some _=>False
 |none=>False
theorem ll (hX:Dg C X){kb iy:Nat}{l2:List Nat}{a:Act}(hR:Mr C E B F l R)(hB:DG C B F)(hnd:Eo ops.toList=true)(hlt:∀j∈l2,j<ops.size)(hd:ops.toList.all (DY B.nt)=true)
  (h:Sd C X E F l R kb ops iy l2 Q s) (hs:Br C F ρ s a w):wpOpsIn (fw none) 0 C.P ops (F8 C B Q) (iy::l2) a w:=by
 unfold Sd at h;split at h<;>first|exact h.elim|skip
 rename_i o ho;split at h<;>first|exact h.elim|skip
 rename_i hgd;split at h<;>first|exact h.elim|skip
 rename_i fop args tys hop;obtain⟨hf,Φ,hY,h1,h2⟩:=h;have ho:=Ma ho;have hdo:DY B.nt o=true:=CW.1 hd o (IH.2 (Io ho));simp only[wpOpsIn,ho];rw[AI (by unfold Region.wanted;rw[hgd])];obtain⟨vs,r1,r2,r3⟩:=oH hop hf hs;have hst:=hR.stat hs.mem;obtain⟨q1,q2⟩:=hY F ρ w vs hs.mem hR.X hR.ng (hR.ext hs.mem) hst hs.fresh hs.gen r2 r3;have hrun:(execOp a.eval o).run C.P w=.ok (.round l R.fn ((R.ps.zip vs).foldl (λtmps (t,a)=>tmps.setIfInBounds t a) R.tmps) R.as R.bd) w:=by
  rw[r1,run_yield (r:=R.lp .ready none) hst q1];rfl
 refine lg hrun (q2.mono ?_);rintro e w' ⟨v,j,d,H',n',ρ',rfl,⟨rfl,hΦ⟩,hl,m',x,fr,gn,rep⟩;refine⟨v,rfl,?_⟩;have hsw:Br C (F.wr l) ρ s a w:=hs.reframe (hs.mem.wr hR.ng) rfl rfl rfl;have hs1:Br C (F.wr l) ρ' ⟨Bh s.env o.dst (Al j.isNone),H',n'⟩ (a.put o.dst v) w':=hsw.put m' x fr gn rep (by rw[show(F.wr l).nt=B.nt from hB.nt];exact hdo);cases j with
 |none=>
  have hs2:Br C F ρ' ⟨Bh s.env o.dst (Al true),H',n'⟩ (a.put o.dst v) w':=hs1.reframe (m'.unwr hR.X (by rw[hl,hR.at0])) rfl rfl rfl;have h3:=(F5 (F:=F) (K':=Q .normal F) hX (λacc s h=>h) (h1 _ _ hΦ)).2.run hlt (by rw[hB.nt];exact hd) hs2
  have:=GN (rd:=none) (Q:=F8 C B Q) (l2:=[]) (λ_ _ _ h=>KC hB (λ_ h=>h) h) (IX hnd) _ _ _ h3
  rwa [De]at this
 |some c=>
  let F2:=Ad.subZ ρ' H' w' F.nt F.X (λ_=>False) F.df
  have m2:Am C F2 ρ' H' w':=m'.enterZ (.refl _ _ _) rfl rfl rfl (λ_ _ _=>rfl) (λ_ _ _ _ h=>h) (λb hb=>Co (m'.xlt b hb) m'.size) (λe he b hb=>(m'.hok.own e he b hb).1) (λ_ h=>h.elim) _ _;have hlw:l<w'.heap.size:=(DB.1 hl).1;have hst2:QD C l R (some c) F2:=λ{ρ'' H'' w''} m3=>by
   have:=m3.blk l hlw (by
    rintro(⟨e,he,h⟩|h)
    ·exact(m'.hok.own e he l h).1 hR.X
    ·exact h)
   exact this.trans hl
  have hB2:DG C B F2:=⟨hB.nt,BY hB.sz (BY hs.mem.size x.size),λm3=>hR.up (m'.leaveZ (λ_ h=>h) (λ_ h=>h.elim) m3).1,hB.X,[],hR.df,[],rfl,.nil,by simp⟩
  have hs2:Br C F2 ρ' ⟨Bh s.env o.dst (Al false),H',n'⟩ (a.put o.dst v) w':=hs1.reframe m2 rfl rfl rfl;have h3:=(F5 (F:=F2) (K':=Q .normal F2) hX (λacc s h=>h) (h2 _ _ _ hΦ F2 hst2)).2.run hlt (by rw[hB2.nt];exact hd) hs2
  have:=GN (rd:=none) (Q:=F8 C B Q) (l2:=[]) (λ_ _ _ h=>KC hB2 (λ_ h=>h) h) (IX hnd) _ _ _ h3
  rwa [De]at this
theorem jL {i:Nat}(hX:Dg C X)(kb:Nat)(l1:List Nat)(iy:Nat)(l2:List Nat)(hl:List.range ops.size=l1++iy::l2)(hnd:Eo ops.toList=true)(hR:Mr C E B F l R)
  (h:C7 C X kb ops l1 s True λacc s1=>acc/\Sd C X E F l R kb ops iy l2 Q s1):AC C B none F (.region i ops false) s Q:=by
 refine⟨λhB hd ρ a w hs=>wpIn_region ?_⟩;rw[hl];have hlt:∀j∈l1++iy::l2,j<ops.size:=λj hj=>by rw[<-hl]at hj;exact List.mem_range.1 hj
 have h1:=(F5 (F:=F) (K':=Sd C X E F l R kb ops iy l2 Q) hX (λacc s h=>h) h).2.run (λj hj=>hlt j (by simp[hj])) (KL hB hd) hs;refine GN (rd:=none) (Q:=F8 C B Q) (l2:=iy::l2) (λe a w h=>?_) (IX hnd) _ a w h1;obtain⟨h0,s1,ρ1,k1,k2⟩:=h;exact⟨h0,ll hX hR hB hnd (λj hj=>hlt j (by simp[hj])) hd k1 k2⟩
end
section
variable {C:BA} {X:EV} {E:GP} {l:Nat} {R:LR}
theorem Sc {F F':Ad}{ρ:Lk}{H:Hp}{w:World}(m:Am C F ρ H w)(h0:F'.w0=F.w0)(hX:F'.X=F.X)(hr:F'.r0=F.r0)(hW:∀b,F.Wr b->F'.Wr b)(hg:∀b,F'.Wr b->C.nG<=b):Am C F' ρ H w:=by
 obtain⟨a1,a2,a3,a4,a5,a6,a7,a8,a9,a10,a11,a12⟩:=m;refine⟨⟨?_,a1.inj,?_⟩,?_,?_,?_,?_,?_,?_,?_,?_,hg,?_,?_⟩
 ·rw[hX];exact a1.ent
 ·intro e he b hb
  rw[hX,h0];exact⟨(a1.own e he b hb).1,(a1.own e he b hb).2.imp id (hW b)⟩
 ·rw[h0];exact a2
 ·rw[h0];exact a3
 ·rw[h0];exact a4
 ·rw[h0];exact a5
 ·rw[h0];exact λb hb h=>a6 b hb λh'=>h (hW b h')
 ·rw[h0,hX];exact a7
 ·rw[h0];exact a8
 ·rw[h0];exact a9
 ·rw[hr];exact a11
 ·rw[h0];exact a12
def tV (C:BA)(l:Nat)(R:LR)(tt:Nat->Option A7)(rs:List ResultVar)(Φ:Option Code->D->Hp->Nat->Prop)(e:Exit)(F:Ad)(s:St):Prop:=match e with
 | .normal | .ret=>∃j,QD C l R j F/\Js tt s rs λd=>Φ j d s.H s.n
 |_=>False
theorem Pi.walk {f:Nat}{i:FI}{args:List D}{H:Hp}{n:Nat}{Φ:Option Code->D->Hp->Nat->Prop}(hX:Dg C X)(hE:GP.ok E)(hf:J5 C.P f i)(hnt:Nat.ble args.length i.nt=true)
  (h:∀B F:Ad,Mr C E B F l R->AC C B none F i.code ⟨Dj 0 args,H,n⟩ (tV C l R X.tt i.res Φ)):Pi C E f args l R H n Φ:=by
 obtain⟨fn,hf,hb,hn,hd,hni,hres⟩:=hf;rw[<-hni]at hnt;refine⟨⟨fn,i.code,hf,hb,hn⟩,λF ρ w vs m hFl hng hEw hlw hfr hg hvs hr=>?_⟩;have hnt:=Dm hnt;refine(LG (rd:=none) (n:=0)).1 (callsIn_of_wp_marks hf hb AB ?_);have hltl:l<w.heap.size:=(DB.1 hlw).1;have hol:∀e∈H,∀b,ρ e.k e.g=some b->b≠l:=λe he b hb hbl=>(m.hok.own e he b hb).1 (by rw[hbl];exact hFl)
 have ent:∀Z:Nat->Prop,(∀b,Z b->b=l)->Am C (Ad.subZ ρ H w fn.ntmps F.X Z []) ρ H w:=λZ hZ=>m.enterZ (.refl _ _ _) rfl rfl rfl (λ_ _ _=>rfl) (λe he b hb hz=>hol e he b hb (hZ b hz)) (λb hb=>Co (m.xlt b hb) m.size)
  (λe he b hb=>(m.hok.own e he b hb).1) (λb hz=>by rw[hZ b hz];exact hng) _ _
 let B:=Ad.subZ ρ H w fn.ntmps F.X (λb=>b=l) []
 let F0:=Ad.subZ ρ H w fn.ntmps F.X (λ_=>False) []
 have mB:Am C B ρ H w:=ent _ λ_ h=>h
 have mF:Am C F0 ρ H w:=ent _ λ_ h=>h.elim
 have hBg:∀b,B.Wr b->C.nG<=b:=mB.gw;have upB:∀ {ρ':Lk} {H':Hp} {w':World},Am C (F0.wr l) ρ' H' w'->Am C B ρ' H' w':=λm'=>Sc m' rfl rfl rfl (λb hb=>by
  rcases hb with(hb|hb)|hb
  ·exact .inl hb
  ·exact hb.elim
  ·exact .inr hb) hBg
 have upF:∀ {ρ':Lk} {H':Hp} {w':World},Am C F0 ρ' H' w'->Am C B ρ' H' w':=λm'=>upB (m'.wr hng)
 have hB:DG C B F0:=⟨rfl,Ar _,upF,λ_ h=>h,[],rfl,[],rfl,.nil,by simp⟩
 have mw:=m.wr hng;have lv:∀ {ρ':Lk} {H':Hp} {w':World},Am C B ρ' H' w'->Am C (F.wr l) ρ' H' w'/\BX ρ (AN F.X ρ H) w ρ' (AN F.X ρ' H') w':=λ{ρ' H' w'} m'=>by
  obtain⟨q1,q2⟩:=mw.leaveZ (X':=F.X) (Z:=λb=>b=l) (λ_ h=>h) (λb hb=>.inr (.inr hb)) m';refine⟨q1,?_⟩
  have:(λb=>AN F.X ρ H b\/b=l)=AN F.X ρ H:=funext λb=>propext ⟨λh=>h.elim id λh=>.inl (by rw[h];exact hFl),.inl⟩
  have q2:BX ρ (λb=>AN F.X ρ H b\/b=l) w ρ' (AN F.X ρ' H') w':=q2
  rwa [this]at q2
 have hR:Mr C E B F0 l R:=⟨hFl,λh=>by
  rcases h with⟨e,he,h⟩|h
  ·exact hol e he l h rfl
  ·exact h.elim,hlw,upB,hng,rfl,λ{ρ' H' w'} m'=>hE _ _ _ _ _ _ hEw (lv (upF m')).2⟩
 have sat:Br C F0 ρ ⟨Dj 0 args,H,n⟩ { tmps:=vs++Array.replicate (fn.ntmps-vs.size) undef,defers:=[] } w:=
  ⟨mF,hfr,hg,PR hvs hr,by simp[F0,Ad.subZ];omega,rfl⟩
 refine wpIn_mono ((h B F0 hR).out hB hd ρ _ w sat) ?_;rintro e a' w' ⟨F',s',ρ',hF,hq,hs'⟩;have key:(∃j,QD C l R j F'/\Js X.tt s' i.res λd=>Φ j d s'.H s'.n)->LeavesInM (fw none) 0 C.P fn a'.tmps (R8 C F l R ρ H w Φ) a'.defers .returning w':=λ⟨j,hst,hq⟩=>by
  obtain⟨d,p,h1,h2,h3⟩:=RY hq;rw[<-hres]at h1;obtain⟨v,w2,_,hl,mB2,r2,hXX,x,hbl,hsz,F2,m2,hX2⟩:=hF.finish hX.tt rfl hs' h1 h2;obtain⟨m',x'⟩:=lv mB2;exact hl _ ⟨v,j,d,_,_,ρ',rfl,h3,(hbl l hltl).trans (hst hs'.mem),m',x',hs'.fresh,hs'.gen,r2.anti λb hb=>hb.imp (hXX b) id⟩
 cases e with
 |normal=>exact key hq
 |ret=>exact key hq
 |_=>exact hq.elim
def HY:List Nat->List D->Ap->Ap
 |t::ts,d::ds,env=>HY ts ds ((t,d)::env)
 |_,_,env=>env
theorem Yf:∀(ps:List Nat) (ds:List D) (env:Ap) (tm:Array Value) (vs:List Value) {ρ:Lk} {O:Nat->Prop} {w:World},vs.length=ds.length->(∀t∈ps,t<tm.size) ->
  (∀t,AW ρ O w (env.get t) (tm.getD t undef))->(∀(i:Nat) (d:D),ds[i]?=some d->AW ρ O w d (vs.getD i undef)) ->
  ∀t,AW ρ O w ((HY ps ds env).get t) (((ps.zip vs).foldl (λtmps (x:Nat×Value)=>tmps.setIfInBounds x.1 x.2) tm).getD t undef)
 | [],_,_,_,_,_,_,_,_,_,h,_=>by simpa[HY]using h
 |p::ps,[],env,tm,vs,_,_,_,hl,_,h,_=>by
  have:vs=[]:=FB (by simpa using hl)
  subst this;simpa[HY]using h
 |p::ps,d::ds,env,tm,[],_,_,_,hl,_,_,_=>by simp at hl
 |p::ps,d::ds,env,tm,v::vs,ρ,O,w,hl,hp,h,hr=>by
  intro t;simp only[HY,List.zip_cons_cons,List.foldl_cons];refine Yf ps ds _ _ vs (by simpa using hl) (λt ht=>by simp;exact hp t (by simp[ht])) (λt=>?_) (λi d hd=>?_) t
  ·rw[JM]
   have h0:=hr 0 d (by simp);simp at h0
   by_cases hpt:p=t
   ·subst hpt
    rw[AI rfl,Av,Iq,AI rfl,AI (hp p (by simp))];exact h0
   ·rw[AH hpt,Av,Iq,AH hpt,<-Av]
    exact h t
  ·have:=hr (i+1) d (by simpa using hd)
   simpa using this
theorem Xp:∀(l:List (Nat×Value)) (tm:Array Value),(l.foldl (λtmps (x:Nat×Value)=>tmps.setIfInBounds x.1 x.2) tm).size=tm.size
 | [],_=>rfl
 |x::l,tm=>by rw[List.foldl_cons,Xp l];simp
def oz:Exit->Option (Option Code)
 | .normal=>some none
 | .ret=>some (some .ret)
 | .exit i=>some (some (.exit i))
 | .goto t=>some (some (.goto t))
 |_=>none
def bI (Φ:Option Code->Hp->Nat->Prop)(e:Exit)(_:Ad)(s:St):Prop:=match oz e with
 |some j=>Φ j s.H s.n
 |none=>False
variable {F:Ad}
theorem pg {ps:Array Nat}{as bd:Code}{fn dfs:Nat}{tm:Array Value}{env:Ap}{ρ1:Lk}{O1:Nat->Prop}{w1:World}{nt:Nat}(htm:tm.size=nt)(hps:∀t∈ps,t<nt)(hda:Di nt as=true)(hdb:Di nt bd=true)
  (henv:∀t,AW ρ1 O1 w1 (env.get t) (tm.getD t undef)) {ds:List D} {H:Hp} {n:Nat} {Φ:Option Code->Hp->Nat->Prop} (hds:ds.length=ps.size)
  (h:∀F:Ad,AC C F (some l) F as ⟨HY ps.toList ds env,H,n⟩ λe F' s=>e=.normal/\F'=F/\∀F':Ad,AC C F' (some l) F' bd s (bI Φ)):
  R7 C (λρ O w=>BX ρ1 O1 w1 ρ O w) l ⟨fn,tm,ps,as,bd,dfs⟩ ds H n Φ:=by
 intro F ρ w vs m hFl hng hEw hlw hfr hg hvs hr;refine⟨hvs.trans hds,?_⟩;have hltl:l<w.heap.size:=(DB.1 hlw).1;have mw:=m.wr hng;have hol:∀ {ρ':Lk} {H':Hp} {w':World},Am C (F.wr l) ρ' H' w'->∀e∈H',∀b,ρ' e.k e.g=some b->b≠l:=λm' e he b hb hbl=>(m'.hok.own e he b hb).1 (by show F.X b;rw[hbl];exact hFl)
 have ent:∀ {ρ':Lk} {H':Hp} {w':World},Am C (F.wr l) ρ' H' w'->Am C (Ad.subZ ρ' H' w' nt F.X (λ_=>False) []) ρ' H' w':=λm'=>m'.enterZ (.refl _ _ _) rfl rfl rfl (λ_ _ _=>rfl) (λ_ _ _ _ h=>h) (λb hb=>Co (m'.xlt b hb) m'.size)
  (λe he b hb=>(m'.hok.own e he b hb).1) (λb hz=>hz.elim) _ _
 have lv:∀ {ρ':Lk} {H':Hp} {w':World} {ρ2:Lk} {H2:Hp} {w2:World},Am C (F.wr l) ρ' H' w'->Am C (Ad.subZ ρ' H' w' nt F.X (λ_=>False) []) ρ2 H2 w2->Am C (F.wr l) ρ2 H2 w2/\BX ρ' (AN F.X ρ' H') w' ρ2 (AN F.X ρ2 H2) w2:=λ{ρ' H' w' ρ2 H2 w2} m' m2=>by
  obtain⟨q1,q2⟩:=m'.leaveZ (X':=F.X) (Z:=λ_=>False) (λ_ h=>h) (λb hb=>hb.elim) m2;refine⟨q1,?_⟩
  have:(λb=>AN F.X ρ' H' b\/False)=AN F.X ρ' H':=funext λb=>propext ⟨λh=>h.elim id False.elim,.inl⟩
  have q2:BX ρ' (λb=>AN F.X ρ' H' b\/False) w' ρ2 (AN F.X ρ2 H2) w2:=q2
  rwa [this]at q2
 have lat:∀ {ρ':Lk} {H':Hp} {w':World} {ρ2:Lk} {H2:Hp} {w2:World},Am C (F.wr l) ρ' H' w'->l<w'.heap.size->Am C (Ad.subZ ρ' H' w' nt F.X (λ_=>False) []) ρ2 H2 w2->w2.heap[l]?=w'.heap[l]?:=λm' hl m2=>m2.blk l hl λh=>by
  rcases h with⟨e,he,h⟩|h
  ·exact hol m' e he l h rfl
  ·exact h
 refine roundIn_of_wpIn AB ?_
 let Fa:=Ad.subZ ρ H w nt F.X (λ_=>False) []
 have sata:Br C Fa ρ ⟨HY ps.toList ds env,H,n⟩ { tmps:=(ps.zip vs).foldl (λtmps (t,a)=>tmps.setIfInBounds t a) tm,defers:=[] } w:=by
  refine⟨ent mw,hfr,hg,λt=>?_,?_,rfl⟩
  ·have:=Yf ps.toList ds env tm vs.toList (ρ:=ρ) (O:=AN F.X ρ H) (w:=w) (by simpa using hvs) (λt ht=>by rw[htm];exact hps t (by simpa using ht)) (λt=>(henv t).mono hEw) (λi d hd=>by
    have:=hr i d hd
    simpa[Av,EK]using this) t
   rw[<-Array.foldl_toList,Array.toList_zip];exact this
  ·show((ps.zip vs).foldl (λtmps (t,a)=>tmps.setIfInBounds t a) tm).size=nt
   rw[<-Array.foldl_toList];exact(Xp _ _).trans htm
 refine wpIn_mono ((h Fa).out (.refl Fa) hda ρ _ w sata) ?_;rintro e a2 w2 ⟨F2,s2,ρ2,hF2,⟨rfl,hFF,hbody⟩,hs2⟩;subst hFF;obtain⟨m2,x2⟩:=lv mw (hF2.mem hs2.mem);have hl2:w2.heap[l]?=some (LR.obj ⟨fn,tm,ps,as,bd,dfs⟩ none):=(lat mw hltl (hF2.mem hs2.mem)).trans hlw;refine⟨_,run_beginRound (r:=LR.lp ⟨fn,tm,ps,as,bd,dfs⟩ .ready none) hl2 rfl,?_⟩;have m3:=m2.putL hFl (.inr rfl) (r:=LR.lp ⟨fn,tm,ps,as,bd,dfs⟩ .ready none) hl2 (.loop { LR.lp ⟨fn,tm,ps,as,bd,dfs⟩ .ready none with state:=.busy });have x3:=BX.putL (ρ:=ρ2) (O:=AN F.X ρ2 s2.H) (w:=w2) (.inl hFl) (r:=LR.lp ⟨fn,tm,ps,as,bd,dfs⟩ .ready none) hl2 (.loop { LR.lp ⟨fn,tm,ps,as,bd,dfs⟩ .ready none with state:=.busy });generalize hw3:w2.putObj l (.loop { LR.lp ⟨fn,tm,ps,as,bd,dfs⟩ .ready none with state:=.busy })=w3 at m3 x3⊢;have hlt2:l<w2.heap.size:=(DB.1 hl2).1;have hl3:w3.heap[l]?=some (.loop { LR.lp ⟨fn,tm,ps,as,bd,dfs⟩ .ready none with state:=.busy }):=by rw[<-hw3];exact World.putObj_heap_same hlt2
 let Fb:=Ad.subZ ρ2 s2.H w3 nt F.X (λ_=>False) []
 have satb:Br C Fb ρ2 s2 a2 w3:=⟨ent m3,hs2.fresh,hs2.gen,λt=>(hs2.env t).mono x3,hs2.nt,hs2.dfr⟩
 refine wpIn_mono ((hbody Fb).out (.refl Fb) hdb ρ2 _ w3 satb) ?_;rintro e a4 w4 ⟨F4,s4,ρ4,hF4,hq,hs4⟩;obtain⟨m4,x4⟩:=lv m3 (hF4.mem hs4.mem);have hl4:w4.heap[l]?=some (.loop { LR.lp ⟨fn,tm,ps,as,bd,dfs⟩ .ready none with state:=.busy }):=(lat m3 (DB.1 hl3).1 (hF4.mem hs4.mem)).trans hl3;have fin:∀j,Φ j s4.H s4.n->∃v w',(Instr.endRound l j).run C.P w4=.ok v w'/\R8 C F l ⟨fn,tm,ps,as,bd,dfs⟩ ρ H w (λj d H' n'=>d=Al j.isNone/\Φ j H' n') (.returned v) w':=λj hj=>by
  refine⟨_,_,run_endRound j hl4,_,j,Al j.isNone,s4.H,s4.n,ρ4,rfl,⟨rfl,hj⟩,World.putObj_heap_same (DB.1 hl4).1,m4.putL hFl (.inr rfl) hl4 _,((x2.trans x3).trans x4).trans (BX.putL (.inl hFl) hl4 _),hs4.fresh,hs4.gen,.prim _⟩
 cases e with
 |normal=>exact fin none hq
 |ret=>exact fin _ hq
 |exit i=>exact fin _ hq
 |goto t=>exact fin _ hq
 |panic c=>exact hq.elim
 |outgrown=>exact hq.elim
def d9x (Q:Exit->Ad->St->Prop)(F:Ad)(s:St)(j:Option Code):Prop:=match j with
 |none=>Q .normal F s
 |some .ret=>Q .ret F s
 |some (.exit i)=>Q (.exit i) F s
 |some (.goto t)=>Q (.goto t) F s
 |some _=>False
theorem GP.ext {ρ1:Lk}{O1:Nat->Prop}{w1:World}:GP.ok (λρ O w=>BX ρ1 O1 w1 ρ O w):=λ_ _ _ _ _ _ h k=>h.trans k
theorem AC.rangeFunc {B:Ad}{s:St}{Q:Exit->Ad->St->Prop}{g:Operand}{ps:Array Nat}{as bd:Code}{fi:Nat}{first captured:List D}{Ψ:Option Code->D->Hp->Nat->Prop}(hg:BG s.env g=.clo (.func fi) first captured)
  (YS:List D->Hp->Nat->(Option Code->Hp->Nat->Prop)->Prop)
  (hbody:∀l ds H n Φ,YS ds H n Φ->ds.length=ps.size/\∀F:Ad,AC C F (some l) F as ⟨HY ps.toList ds s.env,H,n⟩ λe F' s=>e=.normal/\F'=F/\∀F':Ad,AC C F' (some l) F' bd s (bI Φ))
  (hiter:∀(E:GP) (l:Nat) (R:LR),GP.ok E->(∀ds H n Φ,YS ds H n Φ->R7 C E l R ds H n Φ)->Pi C E fi (first++[.clo (.yield l) [] []]++captured) l R s.H s.n Ψ)
  (hend:∀j d H' n' F',Ψ j d H' n'->d9x Q F' ⟨s.env,H',n'⟩ j):AC C B none F (.rangeFunc g ps as bd) s Q:=by
 refine⟨λhB hd ρ a w hs=>?_⟩;simp only[Di,BZ]at hd;have hps:∀t∈ps,t<B.nt:=λt ht=>Nat.blt_eq.mp (CW.1 hd.1 t (by simpa using ht))
 have hgr:=Dh hs.env g;rw[hg]at hgr;generalize hv:a.eval g=gv at hgr;cases hgr with
 |clo hnf hnc hr1 hr2=>
 rename_i fs cs;refine wpIn_rangeFunc λfn _=>?_
 let l:=w.heap.size+1
 let d:=w.heap.size
 let R:LR:=⟨fn,a.tmps,ps,as,bd,d⟩
 let w1:=(w.alloc (.deferred (some []))).alloc (R.obj none)
 have hw1s:w1.heap.size=w.heap.size+2:=by simp only[w1,World.size_alloc]
 have hold:∀b,b<w.heap.size->w1.heap[b]?=w.heap[b]?:=λb hb=>by
  show((w.alloc _).alloc _).heap[b]?=_;rw[El,AH (by rw[World.size_alloc];omega),El,CP]
 have hdw:w1.heap[d]?=some (.deferred (some [])):=by
  show((w.alloc _).alloc _).heap[w.heap.size]?=_;rw[El,AH (by rw[World.size_alloc];omega),El,AI rfl]
 have hlw:w1.heap[l]?=some (R.obj none):=by
  show((w.alloc _).alloc _).heap[w.heap.size+1]?=_;rw[El,AI (by rw[World.size_alloc])]
 have m:=hs.mem
 let X1:Nat->Prop:=λb=>F.X b\/b=l\/b=d
 have hown:∀e∈s.H,∀b,ρ e.k e.g=some b->b<w.heap.size:=λe he b hb=>m.lt he hb
 have x:BX ρ (AN F.X ρ s.H) w ρ (AN X1 ρ s.H) w1:=by
  refine⟨by omega,λ_ _ _ h=>h,λb hb hO=>⟨?_,hold b hb⟩,λb cs T fz h=>⟨cs,fz,?_,rfl⟩⟩
  ·rintro((h|h|h)|h)
   ·exact hO (.inl h)
   ·simp only[l]at h;omega
   ·simp only[d]at h;omega
   ·exact hO (.inr h)
  ·rw[hold b (DB.1 h).1];exact h
 have hng:C.nG<=l:=by
  have:=m.gn;have:=m.size
  simp only[l];omega
 have m1:Am C (Ad.subZ ρ s.H w1 F.nt X1 (λb=>b=l) ([d].map (λr=>({ target:=.collected r,args:=#[] }:Deferred))++F.df)) ρ s.H w1:=by
  refine m.enterZ x rfl rfl rfl (λb hb _=>hold b hb) (λe he b hb hbl=>?_) (λb hb=>?_) (λe he b hb hb'=>?_) (λb hb=>by rw[hb];exact hng) _ _
  ·have:=hown e he b hb
   simp only[l]at hbl;omega
  ·rcases hb with h|h|h
   ·have:=m.xlt b h;have:=m.size;omega
   ·simp only[l]at h;omega
   ·simp only[d]at h;omega
  ·have h1:=hown e he b hb
   rcases hb' with h|h|h
   ·exact(m.hok.own e he b hb).1 h
   ·simp only[l]at h;omega
   ·simp only[d]at h;omega
 have mo:Am C F ρ s.H w1:=m.same ⟨by omega,λ_ _ _ h=>h,λb hb hO=>⟨hO,hold b hb⟩,λb cs T fz h=>⟨cs,_,by rw[hold b (DB.1 h).1];exact h,rfl⟩⟩ rfl rfl rfl hold;have hF1:DG C F (Ad.subZ ρ s.H w1 F.nt X1 (λb=>b=l) ([d].map (λr=>({ target:=.collected r,args:=#[] }:Deferred))++F.df)):=by
  refine DG.subZ mo (λb hb=>.inl hb) (λb hb=>.inl ?_) [d] (by simp) λr hr=>?_
  ·have:=m.size
   rw[hb];simp only[l];omega
  ·simp only[EJ]at hr
   subst hr;refine⟨m.size,by simp only[d];omega,.inr (.inr rfl),⟨by simp only[d,l];omega,λe he h=>?_⟩,hdw⟩
   have:=hown e he d h
   simp only[d]at this;omega
 have hB1:=hB.trans hF1;generalize hF1d:Ad.subZ ρ s.H w1 F.nt X1 (λb=>b=l) ([d].map (λr=>({ target:=.collected r,args:=#[] }:Deferred))++F.df)=F1 at m1 hF1 hB1;have hF1X:F1.X=X1:=by rw[<-hF1d];rfl
 have hF1W:F1.Wr l:=by rw[<-hF1d];exact .inr rfl
 have hXl:F1.X l:=by rw[hF1X];exact .inr (.inl rfl)
 have henv1:∀t,AW ρ (AN F1.X ρ s.H) w1 (s.env.get t) (a.tmps.getD t undef):=λt=>by rw[hF1X];exact(hs.env t).mono x
 have hc:=hiter (λρ' O w'=>BX ρ (AN F1.X ρ s.H) w1 ρ' O w') l R GP.ext λds H n Φ hY=>by
  obtain⟨q1,q2⟩:=hbody l ds H n Φ hY;exact pg (nt:=B.nt) (by rw[hs.nt];exact hB.nt) hps hd.2.1 hd.2.2 henv1 q1 q2
 have hargs:(fs ++ #[Value.func (.yield l) #[] #[]]++cs).size=(first++[D.clo (.yield l) [] []]++captured).length:=by simp[hnf,hnc];omega
 have hcall:=hc.2 F1 ρ w1 (fs ++ #[Value.func (.yield l) #[] #[]]++cs) m1 hXl hng (.refl _ _ _) hlw hs.fresh hs.gen hargs λi dd hdd=>by
  rw[Du]at hdd;rw[NB];rcases BE i first.length with hi|hi
  ·rw[GW hi]at hdd
   have:(fs++(#[Value.func (.yield l) #[] #[]]++cs)).getD i undef=fs.getD i undef:=by
    simp only[Av];rw[HM (by omega)]
   rw[this,hF1X];exact(hr1 i dd hdd).mono x
  ·rw[FC hi]at hdd
   have e1:(fs++(#[Value.func (.yield l) #[] #[]]++cs)).getD i undef=(#[Value.func (.yield l) #[] #[]]++cs).getD (i-first.length) undef:=by
    simp only[Av];rw[HL (by omega),hnf]
   rw[e1];cases hk:i-first.length with
   |zero=>
    rw[hk]at hdd;simp at hdd;subst hdd
    have:(#[Value.func (.yield l) #[] #[]]++cs).getD 0 undef=Value.func (.yield l) #[] #[]:=by
     rw[Av,HM (by simp)];rfl
    rw[this];exact .clo rfl rfl (by simp) (by simp)
   |succ k=>
    rw[hk]at hdd;have hdd:captured[k]?=some dd:=by simpa using hdd
    have:(#[Value.func (.yield l) #[] #[]]++cs).getD (k+1) undef=cs.getD k undef:=by
     simp only[Av];rw[HL (by simp)];simp
    rw[this,hF1X];exact(hr2 k dd hdd).mono x
 refine⟨l,[{ target:=.collected d,args:=#[] }],w1,{ target:=.fn (.func fi) cs,args:=fs ++ #[Value.func (.yield l) #[] #[]] },w1,fi,fs ++ #[Value.func (.yield l) #[] #[]]++cs,w1,run_enterLoop_outer _ _ _ _ _,?_,λ_ _=>trivial,?_,MY,LG.2 (hcall.mono ?_)⟩
 ·unfold resolve
  simp only[hv];have e:(#[Operand.const (Value.func (.yield l) #[] #[])]).map a.eval = #[Value.func (.yield l) #[] #[]]:=by simp[Act.eval]
  rw[e];rfl
 ·unfold invoke
  exact Tm hc.1 _ w1
 ·rintro e w' ⟨v,j,dd,H',n',ρ',rfl,hΨ,hl',m',x',fr,gn,rep⟩
  have hend':=hend j dd H' n' F1 hΨ;have m'':Am C F1 ρ' H' w':=Sc m' rfl rfl rfl (λb hb=>by
   rcases hb with hb|hb
   ·exact hb
   ·rw[hb];exact hF1W) m1.gw
  have m3:=m''.putL hXl hF1W (r:=R.lp (if j.isNone then .ready else .done) j) hl' (.loop { R.lp (if j.isNone then .ready else .done) j with state:=.exhausted });have x3:=BX.putL (ρ:=ρ') (O:=AN F1.X ρ' H') (w:=w') (.inl hXl) (r:=R.lp (if j.isNone then .ready else .done) j) hl' (.loop { R.lp (if j.isNone then .ready else .done) j with state:=.exhausted });refine⟨j,_,run_endLoop (r:=R.lp (if j.isNone then .ready else .done) j) hl' (by cases j<;>simp[LR.lp]),?_⟩;generalize w'.putObj l (.loop { R.lp (if j.isNone then .ready else .done) j with state:=.exhausted })=w3 at m3 x3⊢;have sat:Br C F1 ρ' ⟨s.env,H',n'⟩ { a with defers:=[{ target:=.collected d,args:=#[] }]++a.defers } w3:=by
   refine⟨m3,fr,gn,λt=>((henv1 t).mono x').mono x3,?_,?_⟩
   ·show a.tmps.size=_
    rw[hs.nt,hF1.nt]
   ·show _++a.defers=_
    rw[hs.dfr,<-hF1d];rfl
  cases j with
  |none=>exact⟨F1,_,ρ',hB1,hend',sat⟩
  |some c=>
   cases c<;>first|exact hend'.elim|skip
   ·exact wpIn_exit ⟨F1,_,ρ',hB1,hend',sat⟩
   ·exact wpIn_goto ⟨F1,_,ρ',hB1,hend',sat⟩
   ·exact wpIn_ret ⟨F1,_,ρ',hB1,hend',sat⟩
end
section
variable {C:BA} {X:EV} {B F:Ad} {ops:Array Oper} {s:St} {rd:Option Nat} {Q:Exit->Ad->St->Prop}
structure Ns (C:BA)(B F:Ad)(k g:Nat)(str:ByteArray)(pos:Nat):Prop where
 ex:∃it,F.r0 k g=some it/\F.X it/\¬F.Wr it/\F.w0.heap[it]?=some (.stringIter str pos)/\C.nG<=it/\∀ {ρ:Lk} {H:Hp} {w:World},Am C (F.wr it) ρ H w->Am C B ρ H w
 df:F.df=B.df
theorem BX.putX {ρ:Lk}{O:Nat->Prop}{w:World}{l:Nat}(hO:O l){o0:Obj}(hc:∀cs T fz,o0≠.cells cs T fz)(h:w.heap[l]?=some o0)(o:Obj):BX ρ O w ρ O (w.putObj l o):=
 ⟨by rw[(J7 w l o).2.2.2];exact Ar _,λ_ _ _ h=>h,λb hb hb'=>⟨hb',World.putObj_heap_other λhbl=>hb' (by rw[hbl];exact hO)⟩,λb cs T fz hh=>⟨cs,_,by
  rw[World.putObj_heap_other λhbl=>by rw[hbl,h]at hh;exact hc _ _ _ (GV hh)];exact hh,rfl⟩⟩
theorem Am.putX {ρ:Lk}{H:Hp}{w:World}{l:Nat}(m:Am C F ρ H w)(hX:F.X l)(hW:F.Wr l){o0:Obj}(hc:∀cs T fz,o0≠.cells cs T fz)(h:w.heap[l]?=some o0)(o:Obj):Am C F ρ H (w.putObj l o):=by
 have x:=BX.putX (ρ:=ρ) (O:=AN F.X ρ H) (.inl hX) hc h o;exact⟨⟨λe he=>by
  rcases m.hok.ent e he with h|⟨b,cs,a1,a2,a3⟩
  ·exact .inl h
  ·exact .inr ⟨b,cs,a1,by rw[World.putObj_heap_other λhb=>(m.hok.own e he b a1).1 (by rw[hb];exact hX)];exact a2,a3.mono x⟩,m.hok.inj,m.hok.own⟩,
  m.os,m.tape,m.output,by rw[(J7 w l o).2.2.2];exact m.size,λb hb hw=>by rw[World.putObj_heap_other λhbl=>hw (by rw[hbl];exact hW)];exact m.blk b hb hw,m.xlt,m.g0,m.gn,m.gw,m.lnk,I5 m.shp x⟩
def V6 (C:BA)(X:EV)(B:Ad)(kb:Nat)(ops:Array Oper)(ir:Nat)(Q:Exit->Ad->St->Prop)(s:St):Prop:=match Dl ops.toList ir with
 |some o=>match o.guard with
  |none=>match o.op with
   | .range t x=>match X.tt t with
    |some i=>match i.ti with
     | .string=>match BG s.env x with
      | .prim (.string str)=>∀F':Ad,Ns C B F' kb s.n str 0->Q .normal F' ⟨Bh s.env o.dst (.optr kb s.n 0 0 0),s.H,s.n+1⟩
      |_=>False
     |_=>False
    |none=>False
   |_=>False
  |some _=>False
 |none=>False
theorem jJ {F2:Ad}{ρ':Lk}{H':Hp}{w':World}{X':Nat->Prop}(hB:DG C B F)(hdf:F.df=B.df)(hX:∀b,F.X b->X' b)(hsz:B.w0.heap.size<=w'.heap.size)(hm:∀ {ρ:Lk} {H:Hp} {w:World},Am C (Ad.subZ ρ' H' w' F.nt X' (λ_=>False) F.df) ρ H w->Am C B ρ H w)
  (h2:F2=Ad.subZ ρ' H' w' F.nt X' (λ_=>False) F.df):DG C B F2:=by
 subst h2;exact⟨hB.nt,hsz,hm,λb hb=>hX b (hB.X b hb),[],hdf,[],rfl,.nil,by simp⟩
theorem e1f {i:Nat}(hX:Dg C X)(kb:Nat)(l1:List Nat)(ir:Nat)(hl:List.range ops.size=l1++[ir])(hnd:Eo ops.toList=true)(hFB:F=B)
  (h:C7 C X kb ops l1 s True λacc s1=>acc/\V6 C X B (kb+ir) ops ir Q s1):AC C B rd F (.region i ops false) s Q:=by
 subst hFB;refine⟨λhB hd ρ a w hs=>wpIn_region ?_⟩;rw[hl];have hlt:∀j∈l1++[ir],j<ops.size:=λj hj=>by rw[<-hl]at hj;exact List.mem_range.1 hj
 have h1:=(F5 (F:=F) (K':=V6 C X F (kb+ir) ops ir Q) hX (λacc s h=>h) h).2.run (λj hj=>hlt j (by simp[hj])) (KL hB hd) hs;refine GN (rd:=rd) (Q:=F8 C F Q) (l2:=[ir]) (λe a w h=>?_) (IX hnd) _ a w h1;obtain⟨h0,s1,ρ1,h,hs1⟩:=h;refine⟨h0,?_⟩;unfold V6 at h;split at h<;>first|exact h.elim|skip
 rename_i o ho;split at h<;>first|exact h.elim|skip
 rename_i hgd;split at h<;>first|exact h.elim|skip
 rename_i t x hop;split at h<;>first|exact h.elim|skip
 rename_i ti hti;split at h<;>first|exact h.elim|skip
 rename_i hstr;split at h<;>first|exact h.elim|skip
 rename_i str hx;have ho:=Ma ho;have hdo:DY F.nt o=true:=CW.1 (show ops.toList.all (DY F.nt)=true from hd) o (IH.2 (Io ho));simp only[wpOpsIn,ho];rw[AI (by unfold Region.wanted;rw[hgd])];have hxv:a.eval x=.string str:=by
  have:=Dh hs1.env x
  rw[hx]at this;generalize a.eval x=v at this;cases this;rfl
 have hrun:(execOp a.eval o).run C.P w=.ok (.value (.pointer (some ⟨w.heap.size,0,none⟩))) (w.alloc (.stringIter str 0)):=by
  unfold execOp;simp only[hop];rw[run_bind]
  have:(Instr.range t (a.eval x)).run C.P w=.ok (.pointer (some ⟨w.heap.size,0,none⟩)) (w.alloc (.stringIter str 0)):=by
   unfold Instr.range;rw[run_bind,C6 (MK (hX.tt _ _ hti) hstr),hxv];dsimp only;rw[run_bind,run_pure];dsimp only;rw[run_bind,run_newObj_alloc];rfl
  rw[this];rfl
 refine O6 hrun ?_;show F8 C F Q .normal _ _;have m:=hs1.mem
 let it:=w.heap.size
 let X1:Nat->Prop:=λb=>F.X b\/b=it
 have hown:∀e∈s1.H,∀b,ρ1 e.k e.g=some b->b<w.heap.size:=λe he b hb=>m.lt he hb
 have hfr:ρ1 (kb+ir) s1.n=none:=hs1.fresh _ _ (Ar _)
 let ρ2:=ρ1.put (kb+ir) s1.n it
 have hput:∀k g b,ρ1 k g=some b->ρ2 k g=some b:=λk g b hb=>OZ hfr hb
 have hown2:∀e∈s1.H,∀b,ρ2 e.k e.g=some b->ρ1 e.k e.g=some b:=λe he b hb=>by
  have hg:=hs1.gen e he
  have:ρ2 e.k e.g=ρ1 e.k e.g:=by
   show(if e.k=kb+ir/\e.g=s1.n then some it else ρ1 e.k e.g)=_;rw[CP]
  rw[<-this];exact hb
 have hw1:(w.alloc (.stringIter str 0)).heap.size=w.heap.size+1:=World.size_alloc ..;have hold:∀b,b<w.heap.size->(w.alloc (.stringIter str 0)).heap[b]?=w.heap[b]?:=λb hb=>by rw[El,CP]
 have xx:∀X':Nat->Prop,(∀b,b<w.heap.size->X' b->F.X b)->BX ρ1 (AN F.X ρ1 s1.H) w ρ2 (AN X' ρ2 s1.H) (w.alloc (.stringIter str 0)):=λX' hX'=>by
  refine⟨by omega,hput,λb hb hO=>⟨?_,hold b hb⟩,λb cs T fz hc=>⟨cs,_,by rw[hold b (DB.1 hc).1];exact hc,rfl⟩⟩;rintro(h|⟨e,he,h⟩)
  ·exact hO (.inl (hX' b hb h))
  ·exact hO (.inr ⟨e,he,hown2 e he b h⟩)
 have m1:Am C F ρ2 s1.H (w.alloc (.stringIter str 0)):=by
  have x1:=xx F.X λ_ _ h=>h
  refine⟨⟨λe he=>?_,m.hok.inj.imp_of_mem λ{e e'} he he' h b b' hb hb'=>h b b' (hown2 e he b hb) (hown2 e' he' b' hb'),λe he b hb=>m.hok.own e he b (hown2 e he b hb)⟩,m.os,m.tape,m.output,by have:=m.size;omega,
   λb hb hW=>by rw[hold b (Co hb m.size)];exact m.blk b hb hW,m.xlt,m.g0,m.gn,m.gw,λk g b h=>hput _ _ _ (m.lnk k g b h),I5 m.shp x1⟩
  rcases m.hok.ent e he with⟨h1,h2⟩|⟨b,cs,a1,a2,a3⟩
  ·refine .inl ⟨h1,?_⟩
   cases hb:ρ2 e.k e.g with
   |none=>rfl
   |some b=>rw[hown2 e he b hb]at h2;cases h2
  ·exact .inr ⟨b,cs,hput _ _ _ a1,by rw[hold b (m.lt he a1)];exact a2,a3.mono x1⟩
 have hitm:∀e∈s1.H,∀b,ρ2 e.k e.g=some b->b≠it:=λe he b hb=>by have:=hown e he b (hown2 e he b hb);simp only[it];omega
 have hX1lt:∀b,X1 b->b<(w.alloc (.stringIter str 0)).heap.size:=λb hb=>by
  rcases hb with h|h
  ·have:=m.xlt b h;have:=m.size;omega
  ·simp only[it]at h;omega
 have hX1o:∀e∈s1.H,∀b,ρ2 e.k e.g=some b->¬X1 b:=λe he b hb hb'=>by
  rcases hb' with h|h
  ·exact(m.hok.own e he b (hown2 e he b hb)).1 h
  ·exact hitm e he b hb h
 have e2:∀e∈s1.H,∀b,AN F.X ρ2 s1.H b->AN X1 ρ2 s1.H b:=λ_ _ _ h=>h.imp .inl id
 have hng:C.nG<=it:=by have:=m.gn;have:=m.size;simp only[it];omega
 have ent:∀Z:Nat->Prop,(∀b,Z b->b=it)->Am C (Ad.subZ ρ2 s1.H (w.alloc (.stringIter str 0)) F.nt X1 Z F.df) ρ2 s1.H (w.alloc (.stringIter str 0)):=λZ hZ=>by
  refine⟨⟨λe he=>?_,m1.hok.inj,λe he b hb=>⟨hX1o e he b hb,.inr (.inl ⟨e,he,hb⟩)⟩⟩,rfl,rfl,rfl,Ar _,λ_ _ _=>rfl,hX1lt,m1.g,BY m1.gn m1.size,λb hb=>?_,λ_ _ _ h=>h,λ_ cs _ _ h=>⟨cs,_,h,rfl⟩⟩
  ·rcases m.hok.ent e he with⟨h1,h2⟩|⟨b,cs,a1,a2,a3⟩
   ·rcases m1.hok.ent e he with h|⟨b,cs,b1,_⟩
    ·exact .inl h
    ·rw[hown2 e he b b1]at h2;cases h2
   ·exact .inr ⟨b,cs,hput _ _ _ a1,by rw[hold b (m.lt he a1)];exact a2,a3.mono (xx X1 λb hb h=>h.resolve_right λh=>by simp only[it]at h;omega)⟩
  ·rcases hb with⟨e,he,hb⟩|hb
   ·rcases(m1.hok.own e he b hb).2 with h|h
    ·exact BY m1.gn h
    ·exact m1.gw b h
   ·rw[hZ b hb];exact hng
 let F2:=Ad.subZ ρ2 s1.H (w.alloc (.stringIter str 0)) F.nt X1 (λ_=>False) F.df
 have upZ:∀ {ρ:Lk} {H:Hp} {w':World},Am C (F2.wr it) ρ H w'->Am C F ρ H w':=λ{ρ H w'} m'=>by
  have m'':Am C (Ad.subZ ρ2 s1.H (w.alloc (.stringIter str 0)) F.nt X1 (λb=>b=it) F.df) ρ H w':=Sc m' rfl rfl rfl (λb hb=>by
   rcases hb with(hb|hb)|hb
   ·exact .inl hb
   ·exact hb.elim
   ·exact .inr hb) (ent _ λ_ h=>h).gw
  exact(m1.leaveZ (λb hb=>.inl hb) (λb hb=>.inl (by rw[hb];exact m.size)) m'').1
 have hit:Ns C F F2 (kb+ir) s1.n str 0:=⟨⟨it,Es ..,.inr rfl,λh=>by
  rcases h with⟨e,he,h⟩|h
  ·exact hitm e he it h rfl
  ·exact h,by show(w.alloc _).heap[it]?=_;rw[El,AI rfl],hng,upZ⟩,rfl⟩
 have hF2:DG C F F2:=jJ hB rfl (λb hb=>.inl hb) (by have:=m.size;show _<=(w.alloc _).heap.size;omega) (λm'=>upZ (m'.wr hng)) rfl;refine⟨F2,_,ρ2,hF2,h F2 hit,?_⟩;have hs2:Br C F2 ρ2 ⟨s1.env,s1.H,s1.n+1⟩ a (w.alloc (.stringIter str 0)):=⟨ent _ λ_ h=>h.elim,λk g hg=>by
  have hg:s1.n+1<=g:=hg;show(if k=kb+ir/\g=s1.n then some it else ρ1 k g)=none;rw[CP];exact hs1.fresh k g (by omega),λe he=>Dd (hs1.gen e he),λt=>(hs1.env t).mono (xx X1 λb hb h=>h.resolve_right λh=>by simp only[it]at h;omega),hs1.nt,hs1.dfr⟩
 exact hs2.put (H':=s1.H) hs2.mem (.refl _ _ _) hs2.fresh hs2.gen (.optr (Es ..)) hdo
def gX (C:BA)(X:EV)(B F:Ad)(kb:Nat)(ops:Array Oper)(i0:Nat)(l2:List Nat)(str:ByteArray)(pos:Nat)(Q:Exit->Ad->St->Prop)(s:St):Prop:=match Dl ops.toList i0 with
 |some o=>match o.guard with
  |none=>match o.op with
   | .next x true=>match BG s.env x with
    | .optr k g 0 0 0=>Ns C B F k g str pos /\
     (pos<str.size->∀F':Ad,Ns C B F' k g str (pos+(Utf8.decode str pos).2)->C7 C X kb ops l2 ⟨Bh s.env o.dst (.tup [Al true,i64 pos,.prim (.int .i32 (Utf8.decode str pos).1)]),s.H,s.n+1⟩ True λacc s=>acc/\Q .normal F' s) /\
     (¬pos<str.size->C7 C X kb ops l2 ⟨Bh s.env o.dst (.tup [Al false]),s.H,s.n+1⟩ True λacc s=>acc/\Q .normal F s)
    |_=>False
   |_=>False
  |some _=>False
 |none=>False
theorem e1d {i:Nat}(hX:Dg C X)(kb:Nat)(i0:Nat)(l2:List Nat)(hl:List.range ops.size=i0::l2)(hnd:Eo ops.toList=true)(str:ByteArray)(pos:Nat)
  (h:gX C X B F kb ops i0 l2 str pos Q s):AC C B rd F (.region i ops false) s Q:=by
 refine⟨λhB hd ρ a w hs=>wpIn_region ?_⟩;rw[hl];have hlt:∀j∈i0::l2,j<ops.size:=λj hj=>by rw[<-hl]at hj;exact List.mem_range.1 hj
 unfold gX at h;split at h<;>first|exact h.elim|skip
 rename_i o ho;split at h<;>first|exact h.elim|skip
 rename_i hgd;split at h<;>first|exact h.elim|skip
 rename_i x hop;split at h<;>first|exact h.elim|skip
 rename_i k g hx;obtain⟨⟨⟨it,i1,i2,i3,i4,i5,i6⟩,idf⟩,h1,h2⟩:=h;have ho:=Ma ho;have hdo:DY B.nt o=true:=CW.1 (show ops.toList.all (DY B.nt)=true from hd) o (IH.2 (Io ho));simp only[wpOpsIn,ho];rw[AI (by unfold Region.wanted;rw[hgd])];have m:=hs.mem;have hlk:ρ k g=some it:=m.lnk _ _ _ i1;have hxv:a.eval x=.pointer (some ⟨it,0,none⟩):=by
  have:=Dh hs.env x
  rw[hx]at this;generalize a.eval x=v at this;cases this with
  |optr hr=>rw[hlk]at hr;cases hr;rfl
 have hob:w.heap[it]?=some (.stringIter str pos):=(m.blk it (m.xlt it i2) i3).trans i4;have hget:(getObj it).run C.P w=.ok (.stringIter str pos) w:=by
  simp[getObj,Sem.run,hob]
 by_cases hp:pos<str.size
 ·have hrun:(execOp a.eval o).run C.P w=.ok (.value (.tuple #[.bool true,.int .i64 pos,.int .i32 (Utf8.decode str pos).1])) (w.putObj it (.stringIter str (pos+(Utf8.decode str pos).2))):=by
   unfold execOp;simp only[hop];rw[run_bind]
   have:(Instr.next (a.eval x) true o.type).run C.P w=.ok (.tuple #[.bool true,.int .i64 pos,.int .i32 (Utf8.decode str pos).1]) (w.putObj it (.stringIter str (pos+(Utf8.decode str pos).2))):=by
    unfold Instr.next;rw[hxv];simp only[];rw[run_bind,hget];dsimp only;rw[AI hp];rw[run_bind]
    have:(setObj it (.stringIter str (pos+(Utf8.decode str pos).2))).run C.P w=.ok () (w.putObj it (.stringIter str (pos+(Utf8.decode str pos).2))):=by
     simp[setObj,Sem.run,hob,World.putObj]
    rw[this];rfl
   rw[this];rfl
  refine O6 hrun ?_;have mp:=(m.wr i5).putX i2 (.inr rfl) (o0:=.stringIter str pos) (by simp) hob (.stringIter str (pos+(Utf8.decode str pos).2));have xp:=BX.putX (ρ:=ρ) (O:=AN F.X ρ s.H) (w:=w) (.inl i2) (o0:=.stringIter str pos) (by simp) hob (.stringIter str (pos+(Utf8.decode str pos).2));have hitw:it<w.heap.size:=(DB.1 hob).1;have hit':(w.putObj it (.stringIter str (pos+(Utf8.decode str pos).2))).heap[it]?=some (.stringIter str (pos+(Utf8.decode str pos).2)):=World.putObj_heap_same hitw;have hszp:=(J7 w it (.stringIter str (pos+(Utf8.decode str pos).2))).2.2.2;generalize w.putObj it (.stringIter str (pos+(Utf8.decode str pos).2))=w2 at mp xp hit' hszp⊢
  let F2:=Ad.subZ ρ s.H w2 F.nt F.X (λ_=>False) F.df
  have m2:Am C F2 ρ s.H w2:=mp.enterZ (.refl _ _ _) rfl rfl rfl (λ_ _ _=>rfl) (λ_ _ _ _ h=>h) (λb hb=>Co (mp.xlt b hb) mp.size) (λe he b hb=>(mp.hok.own e he b hb).1) (λ_ h=>h.elim) _ _;have mZ:Am C (Ad.subZ ρ s.H w2 F.nt F.X (λb=>b=it) F.df) ρ s.H w2:=mp.enterZ (.refl _ _ _) rfl rfl rfl (λ_ _ _=>rfl) (λe he b hb hb'=>(mp.hok.own e he b hb).1 (by rw[hb'];exact i2)) (λb hb=>Co (mp.xlt b hb) mp.size) (λe he b hb=>(mp.hok.own e he b hb).1) (λb hb=>by rw[hb];exact i5) _ _;have upZ:∀ {ρ':Lk} {H':Hp} {w':World},Am C (F2.wr it) ρ' H' w'->Am C B ρ' H' w':=λ{ρ' H' w'} m'=>by
   have m'':Am C (Ad.subZ ρ s.H w2 F.nt F.X (λb=>b=it) F.df) ρ' H' w':=Sc m' rfl rfl rfl (λb hb=>by
    rcases hb with(hb|hb)|hb
    ·exact .inl hb
    ·exact hb.elim
    ·exact .inr hb) mZ.gw
   exact i6 (mp.leaveZ (λ_ h=>h) (λb hb=>.inr (.inr hb)) m'').1
  have hiter:Ns C B F2 k g str (pos+(Utf8.decode str pos).2):=⟨⟨it,hlk,i2,λh=>by
   rcases h with⟨e,he,h⟩|h
   ·exact(mp.hok.own e he it h).1 i2
   ·exact h,hit',i5,upZ⟩,idf⟩
  have hB2:DG C B F2:=jJ hB idf (λ_ h=>h) (by rw[hszp];exact BY hB.sz m.size) (λm'=>upZ (m'.wr i5)) rfl;have hs1:Br C F2 ρ ⟨s.env,s.H,s.n+1⟩ a w2:=⟨m2,λk g hg=>hs.fresh k g (by have:s.n+1<=g:=hg;omega),λe he=>Dd (hs.gen e he),λt=>(hs.env t).mono xp,hs.nt,hs.dfr⟩
  have hs2:=hs1.put (H':=s.H) (o:=o) (d:=.tup [Al true,i64 pos,.prim (.int .i32 (Utf8.decode str pos).1)]) (v:=.tuple #[.bool true,.int .i64 pos,.int .i32 (Utf8.decode str pos).1]) hs1.mem (.refl _ _ _) hs1.fresh hs1.gen (.tup rfl λi d hd=>by
   match i with
   | 0=>simp at hd;subst hd;exact .prim _
   | 1=>simp at hd;subst hd;exact .prim _
   | 2=>simp at hd;subst hd;exact .prim _
   |n+3=>simp at hd) (by rw[show F2.nt=B.nt from hB.nt];exact hdo)
  have h3:=(F5 (F:=F2) (K':=Q .normal F2) hX (λacc s h=>h) (h1 hp F2 hiter)).2.run (λj hj=>hlt j (by simp[hj])) (KL hB2 hd) hs2
  have:=GN (rd:=rd) (Q:=F8 C B Q) (l2:=[]) (λ_ _ _ h=>KC hB2 (λ_ h=>h) h) (IX hnd) _ _ _ h3
  rwa [De]at this
 ·have hrun:(execOp a.eval o).run C.P w=.ok (.value (.tuple #[.bool false])) w:=by
   unfold execOp;simp only[hop];rw[run_bind]
   have:(Instr.next (a.eval x) true o.type).run C.P w=.ok (.tuple #[.bool false]) w:=by
    unfold Instr.next;rw[hxv];simp only[];rw[run_bind,hget];dsimp only;rw[AH hp];rfl
   rw[this];rfl
  refine O6 hrun ?_;have hs1:Br C F ρ ⟨s.env,s.H,s.n+1⟩ a w:=⟨m,λk g hg=>hs.fresh k g (by have:s.n+1<=g:=hg;omega),λe he=>Dd (hs.gen e he),hs.env,hs.nt,hs.dfr⟩
  have hs2:=hs1.put (H':=s.H) (o:=o) (d:=.tup [Al false]) (v:=.tuple #[.bool false]) hs1.mem (.refl _ _ _) hs1.fresh hs1.gen (.tup rfl λi d hd=>by
   match i with
   | 0=>simp at hd;subst hd;exact .prim _
   |n+1=>simp at hd) (by rw[hB.nt];exact hdo)
  have h3:=(F5 (F:=F) (K':=Q .normal F) hX (λacc s h=>h) (h2 hp)).2.run (λj hj=>hlt j (by simp[hj])) (KL hB hd) hs2
  have:=GN (rd:=rd) (Q:=F8 C B Q) (l2:=[]) (λ_ _ _ h=>KC hB (λ_ h=>h) h) (IX hnd) _ _ _ h3
  rwa [De]at this
end
section
variable {C:BA} {X:EV} {kb:Nat} {ops:Array Oper} {i:Nat} {l:List Nat} {s:St} {acc:Prop} {K:Prop->St->Prop} {o:Oper}
theorem PE (h:K acc s):C7 C X kb ops [] s acc K:=h
theorem Eb (h:Dl ops.toList i=some o)(hg:o.guard=none)(hk:GM C X (kb+i) (BG s.env) s.H s.n o.op acc λacc d H n=>C7 C X kb ops l ⟨Bh s.env o.dst d,H,n⟩ acc K):C7 C X kb ops (i::l) s acc K:=by
 unfold C7;simp only[h,hg];exact hk
theorem Iw {g:Nat×Bool}{b:Bool}(h:Dl ops.toList i=some o)(hg:o.guard=some g)(hw:CJ ops s.env o=some b)(hb:b=true)(ha:acc)
  (hk:GM C X (kb+i) (BG s.env) s.H s.n o.op True λacc d H n=>C7 C X kb ops l ⟨Bh s.env o.dst d,H,n⟩ acc K):C7 C X kb ops (i::l) s acc K:=by
 unfold C7;simp only[h,hg,hw];subst hb;exact⟨ha,hk⟩
theorem Y6 {g:Nat×Bool}{b:Bool}(h:Dl ops.toList i=some o)(hg:o.guard=some g)(hw:CJ ops s.env o=some b)(hb:b=false)(ha:acc)
  (hk:C7 C X kb ops l ⟨Bh s.env o.dst (.prim (.tuple #[])),s.H,s.n+1⟩ True K):C7 C X kb ops (i::l) s acc K:=by
 unfold C7;simp only[h,hg,hw];subst hb;exact⟨ha,hk⟩
section
variable {g:Operand->D} {H:Hp} {n:Nat} {op:Op} {k:Prop->D->Hp->Nat->Prop}
theorem Iz {P:Prop->Prop}{d:D}{H':Hp}{n':Nat}(hs:∀acc k,GM C X kb g H n op acc k=k (P acc) d H' n')(hk:k (P acc) d H' n'):GM C X kb g H n op acc k:=by rw[hs];exact hk
theorem NX {f:Nat}{ds:List D}(hs:∀acc k,GM C X kb g H n op acc k=(acc/\BF C f ds H n λd H n=>k True d H n))(ha:acc)(hc:BF C f ds H n λd H n=>k True d H n):GM C X kb g H n op acc k:=by
 rw[hs];exact⟨ha,hc⟩
theorem WF {es:List D}{j:Int}{sz esz:Nat}{d:D}(hs:∀acc k,GM C X kb g H n op acc k=(acc/\(sz=esz/\0<=j)/\∃d,es[j.toNat]?=some d/\k True (.pptr d) H (n+1)))(ha:acc)(h1:sz=esz/\0<=j)
  (h2:es[j.toNat]?=some d) (hk:k True (.pptr d) H (n+1)):GM C X kb g H n op acc k:=by
 rw[hs];exact⟨ha,h1,d,h2,hk⟩
end
section
variable {H:Hp} {n:Nat} {env:Ap} {N:Hp} {K:Prop->Ap->Hp->Prop}
theorem RP (h:K acc env N):Em C X kb ops H n [] env N acc K:=h
theorem FL (h:Dl ops.toList i=some o)(hg:o.guard=none)(hk:Ek C X (kb+i) (BG env) H (n+i) o.op acc λacc d ne=>Em C X kb ops H n l (Bh env o.dst d) (DF ne N) acc K):Em C X kb ops H n (i::l) env N acc K:=by
 unfold Em;simp only[h,hg];exact hk
theorem LI {g:Nat×Bool}{b:Bool}(h:Dl ops.toList i=some o)(hg:o.guard=some g)(hw:CJ ops env o=some b)(hb:b=true)(ha:acc)
  (hk:Ek C X (kb+i) (BG env) H (n+i) o.op True λacc d ne=>Em C X kb ops H n l (Bh env o.dst d) (DF ne N) acc K):Em C X kb ops H n (i::l) env N acc K:=by
 unfold Em;simp only[h,hg,hw];subst hb;exact⟨ha,hk⟩
theorem Y5 {g:Nat×Bool}{b:Bool}(h:Dl ops.toList i=some o)(hg:o.guard=some g)(hw:CJ ops env o=some b)(hb:b=false)(ha:acc)
  (hk:Em C X kb ops H n l (Bh env o.dst (.prim (.tuple #[]))) N True K):Em C X kb ops H n (i::l) env N acc K:=by
 unfold Em;simp only[h,hg,hw];subst hb;exact⟨ha,hk⟩
section
variable {g:Operand->D} {op:Op} {k:Prop->D->Option At->Prop}
theorem Iy {P:Prop->Prop}{d:D}{ne:Option At}(hs:∀acc k,Ek C X kb g H n op acc k=k (P acc) d ne)(hk:k (P acc) d ne):Ek C X kb g H n op acc k:=by rw[hs];exact hk
theorem MU {f:Nat}{ds:List D}(hs:∀acc k,Ek C X kb g H n op acc k=(acc/\Bf C f ds λd=>k True d none))(ha:acc)(hc:Bf C f ds λd=>k True d none):Ek C X kb g H n op acc k:=by
 rw[hs];exact⟨ha,hc⟩
theorem N8 {es:List D}{j:Int}{sz esz:Nat}{d:D}(hs:∀acc k,Ek C X kb g H n op acc k=(acc/\(sz=esz/\0<=j)/\∃d,es[j.toNat]?=some d/\k True (.pptr d) none))(ha:acc)(h1:sz=esz/\0<=j)
  (h2:es[j.toNat]?=some d) (hk:k True (.pptr d) none):Ek C X kb g H n op acc k:=by
 rw[hs];exact⟨ha,h1,d,h2,hk⟩
end
end
end
def Ds (H:Hp)(d0 d:D):Prop:=∀(C:BA) (F:Ad) (ρ:Lk) (w:World),Am C F ρ H w->(∀b,AN F.X ρ [] b->AN F.X ρ H b)->(∀e∈H,∀b,ρ e.k e.g=some b->¬AN F.X ρ [] b) ->
 ∀v,AW ρ (AN F.X ρ H) w d0 v->AW ρ (AN F.X ρ []) w d v
theorem Ds.refl (H:Hp)(d:D):Ds H d d:=λ_ _ _ _ _ hO _ _ hv=>hv.anti hO
theorem Ds.clo1 {H:Hp}{fn:Fn}{c c':D}(h:Ds H c c'):Ds H (.clo fn [] [c]) (.clo fn [] [c']):=λC F ρ w m hO hN v hv=>by
 cases hv with
 |clo hf hc h1 h2=>
  refine .clo hf (by simpa using hc) (λi d hd=>by simp at hd) λi d hd=>?_
  match i with
  | 0=>
   simp at hd;subst hd;exact h C F ρ w m hO hN _ (h2 0 _ rfl)
  |i+1=>simp at hd
theorem Ds.ptr {H:Hp}{k g sz:Nat}{e:At}{x:D}(he:Hp.get H k=some e)(hg:g=e.g)(hs:sz=e.sz)(hx:e.es=[x]):Ds H (.optr k g sz 0 0) (.pptr x):=λC F ρ w m hO hN v hv=>by
 subst hg hs;obtain⟨hm,hk⟩:=Hp.get_mem he;cases hv with
 |optr hr=>
  rename_i b;rw[<-hk]at hr;obtain⟨cs,h1,h2⟩:=m.at hm hr;have hlen:=h2.len;rw[hx]at hlen;have hsz:=h2.siz 0 x (by rw[hx];rfl);have hin:∀n,n<x.cells.length->n<cs.size:=λn hn=>by
   simp only[Bu,Hm]at hlen;omega
  rw[show 0*e.sz+0=0 from by omega];refine .pptr (λn=>cs.getD n undef) (hN e hm b hr) (m.lt hm hr) (λn hn=>?_) (λn hn=>?_) λj d hd=>?_
  ·rw[BV];simp[World.cell?,h1,hin n hn]
  ·have:=h2.one _ _ (B3 (hin n hn))
   simpa[Av,B3 (hin n hn)]using this
  ·have:=h2.rep 0 x j d (by rw[hx];rfl) hd
   rw[Hq,BV]at this;exact this.anti hO
def yF (tt:Nat->Option A7)(rs:List ResultVar)(Φ:D->Prop)(e:Exit)(_:Ad)(s:St):Prop:=match e with
 | .normal | .ret=>Js tt s rs λd0=>∃d,Ds s.H d0 d/\CE d/\Φ d
 |_=>False
section
variable {C:BA} {X:EV}
theorem e1E {f:Nat}{i:FI}{args:List D}{Φ:D->Prop}(hX:Dg C X)(hf:J5 C.P f i)(hnt:Nat.ble args.length i.nt=true)
  (h:∀F:Ad,AC C F none F i.code ⟨Dj 0 args,[],0⟩ (yF X.tt i.res Φ)):Af C f args Φ:=by
 obtain⟨fn,hf,hb,hn,hd,hni,hres⟩:=hf;rw[<-hni]at hnt;refine⟨⟨fn,i.code,hf,hb,hn⟩,λY w vs hG hnG hX' hvs hr=>?_⟩;have hnt:=Dm hnt;refine(LG (rd:=none) (n:=0)).1 (callsIn_of_wp_marks hf hb AB ?_);have hown:∀b,AN Y nol [] b↔Y b:=by simp[AN]
 have hoe:AN Y nol []=Y:=funext λb=>propext (hown b)
 let F0:Ad:=⟨w,Y,λ_=>False,fn.ntmps,nol,[]⟩
 have sat:Br C F0 nol ⟨Dj 0 args,[],0⟩ { tmps:=vs++Array.replicate (fn.ntmps-vs.size) undef,defers:=[] } w:=by
  refine⟨⟨⟨by simp,.nil,by simp⟩,rfl,rfl,rfl,Ar _,λ_ _ _=>rfl,hX',hG,hnG,by simp[F0],λ_ _ _ h=>h,λ_ cs _ _ h=>⟨cs,_,h,rfl⟩⟩,λ_ _ _=>rfl,by simp,λt=>?_,by simp[F0];omega,rfl⟩;show AW nol (AN Y nol []) w _ _;rw[hoe];exact PR hvs hr t
 refine wpIn_mono ((h F0).out (.refl F0) hd nol _ w sat) ?_;rintro e a' w' ⟨F',s',ρ',hF,hq,hs'⟩;have key:Js X.tt s' i.res (λd0=>∃d,Ds s'.H d0 d/\CE d/\Φ d)->LeavesInM (fw none) 0 C.P fn a'.tmps (λe w'=>∃v d,e=.returned v/\Below w.heap.size w w'/\Φ d/\AW nol Y w' d v) a'.defers .returning w':=λhq=>by
  obtain⟨d0,p,h1,h2,d,h3,h4,h5⟩:=RY hq;rw[<-hres]at h1;obtain⟨v,w2,_,hl,mF,r2,hXX,x,hbl,hsz,F2,m2,hX2⟩:=hF.finish hX.tt rfl hs' h1 h2;refine hl _ ⟨v,d,rfl,⟨mF.os,mF.tape,mF.output,mF.size,λb hb=>mF.blk b hb (by simp[F0])⟩,h5,?_⟩;have hH:Cs s'.H [] s'.H []:=by
   generalize s'.H=H0
   have:∀H1:Hp,Cs H0 [] H1 []:=λH1=>by
    induction H1 with
    |nil=>exact .nil
    |cons e r ih=>exact .drop ih
   exact this H0
  obtain⟨m,hO,hN⟩:=hH.mem m2;have r3:=h3 _ _ _ _ m2 hO (λe he b hb=>hN e he b hb rfl) v (by rw[hX2];exact r2);have r4:=h4 _ nol _ _ _ r3;exact r4.anti λb hb=>.inl (by rw[hX2];exact hXX b hb)
 cases e with
 |normal=>exact key hq
 |ret=>exact key hq
 |_=>exact hq.elim
theorem M9 {f:Nat}{ds ds':List D}{d:D}{H:Hp}{n:Nat}(hc:AL C f ds' d)(hl:ds'.length=ds.length)(hv:∀(i:Nat) (a b:D),ds[i]?=some a->ds'[i]?=some b->Ds H a b)
  (hp:Ai ds') (hflat:Kf d):CX C f ds H n (λd' H' n'=>d'=d/\H'=H/\n'=n+1):=by
 refine⟨hc.1,λF ρ w vs m hfr hg hvs hr=>?_⟩;have hH:Cs H [] H []:=by
  generalize H=H0
  have:∀H1:Hp,Cs H0 [] H1 []:=λH1=>by
   induction H1 with
   |nil=>exact .nil
   |cons e r ih=>exact .drop ih
  exact this H0
 obtain⟨m',hO,hN⟩:=hH.mem m;refine(hc.2 (AN F.X ρ []) w vs m.g (BY m.gn m.size) (λb hb=>m'.own_lt hb) (by omega) λi x hx=>?_).mono ?_
 ·have hi:i<ds'.length:=(BS.1 hx).1
  have hd0:ds[i]?=some ds[i]:=Ce;exact hp.out x (Ax hx) _ _ _ _ _ (hv i _ x hd0 hx C F ρ w m hO (λe he b hb=>hN e he b hb rfl) _ (hr i _ hd0))
 ·rintro e w' ⟨v,d',rfl,hb,hd',rep⟩
  subst hd';have x:BX ρ (AN F.X ρ H) w ρ (AN F.X ρ H) w':=⟨hb.size,λ_ _ _ h=>h,λb hb' hO=>⟨hO,hb.block b hb'⟩,λb cs T fz hh=>⟨cs,_,by
   rw[hb.block b (DB.1 hh).1];exact hh,rfl⟩⟩
  exact⟨v,_,H,n+1,ρ,rfl,⟨rfl,rfl,rfl⟩,m.same x hb.os hb.tape hb.output hb.block,x,λk g hg'=>hfr k g (by omega),λe he=>Dd (hg e he),hflat _ _ _ _ _ _ _ rep⟩
end
abbrev DL (z:Int):D:=.agg [i64 z,CK]
abbrev NJ (a b:Int):D:=.agg [i64 a,CK,i64 b,CK]
theorem OJ {y n:Prop}:Kc true y n=y:=rfl
theorem Sg {y n:Prop}:Kc false y n=n:=rfl
theorem Hz {H Hf:Hp}:∀r:Hp,Cs H Hf r r
 | []=>.nil
 |_::r=>.keep (Hz r)
theorem CD {P:Prop}(h:P:=by(repeat'(first|exact AB|exact rfl|exact Or.inl rfl|exact Or.inr rfl|exact Eg.agg|exact TK rfl|exact Dm rfl|refine BM ?_ ?_|(intro hq;first|exact rfl|exact AB|(exact Ak hq (by decide)))|exact Ar _|omega|decide|(dsimp only[List.length_cons,List.length_nil];omega)))):P:=h
structure DS (Q:Prop):Prop where
 out:Q
theorem BO {P Q:Prop}(h:Q)(e:DS Q->P:=by intro hq;(try dsimp only[DL,NJ,Fj,Bh,DF,BG,Ap.get,LX,IE,Gh,Lf,KW,Fm,FX,D.cells,ofV,Hp.get,Hp.set,Hp.del,Ih,Dj,IB,cond,Jr,OB,N7,If,OM,Cq,List.map,List.length,List.append,List.nil_append,List.cons_append,List.append_nil,List.size_toArray,List.length_cons,List.length_nil,Value.cells,List.toList_toArray,Array.toList,Nat.reduceAdd,Nat.reduceMul,Nat.beq,Nat.reduceSub,Cq,JJ,Fj,Bool.false_and,Bool.true_and,Bool.true_or,Bool.false_or,Bool.not_true,Bool.not_false]);exact hq.out):P:=e ⟨h⟩
theorem CH {A P Q:Prop}(h:Q)(a:A:=by exact CD)(e:DS Q->P:=by intro hq;refine BO ?_;exact hq.out):A/\P:=⟨a,e ⟨h⟩⟩
theorem AK {s s':St}(a:Cs s.H s'.H s.H s'.H:=by(first|(exact Hz _)|(repeat(first|exact .nil|(exact Hz _)|refine .keep ?_|refine .drop ?_))))
  (b:Mo s.H s'.H s.env s'.env:=by(repeat'(first|exact AB|exact Fz.refl _|refine BM ?_ ?_|(refine yy ?_;dsimp only[DL,NJ,Fj,Bh,DF,BG,Ap.get,LX,IE,Gh,Lf,KW,Fm,FX,D.cells,ofV,Hp.get,Hp.set,Hp.del,Ih,Dj,IB,cond,Jr,OB,N7,If,OM,Cq,List.map,List.length,List.append,List.nil_append,List.cons_append,List.append_nil,List.size_toArray,List.length_cons,List.length_nil,Value.cells,List.toList_toArray,Array.toList,Nat.reduceAdd,Nat.reduceMul,Nat.beq,Nat.reduceSub,Cq,JJ,Fj,Bool.false_and,Bool.true_and,Bool.true_or,Bool.false_or,Bool.not_true,Bool.not_false];first|exact rfl|(simp_all;done)))))
  (c:s.n<=s'.n:=by(first|exact Ar _|decide|(dsimp only;omega))):Wk s s':=⟨a,b,c⟩
theorem BU {P Q:Prop}(h:Q)(e:DS Q->P:=by
  intro hq
  repeat(first|(refine Eb rfl rfl ?_;refine Iz (λ_ _=>rfl) ?_)|(refine FL rfl rfl ?_;refine Iy (λ_ _=>rfl) ?_))
  try(refine RP ?_;repeat(first|(refine Eb rfl rfl ?_;refine Iz (λ_ _=>rfl) ?_)|(refine FL rfl rfl ?_;refine Iy (λ_ _=>rfl) ?_)))
  first|refine PE (BM CD ?_)|(refine Eb rfl rfl ?_;refine NX (λ_ _=>rfl) CD ?_)|(refine FL rfl rfl ?_;refine MU (λ_ _=>rfl) CD ?_)|skip
  refine BO ?_;exact hq.out):P:=e ⟨h⟩
section
variable {C:BA} {X:EV} {kb:Nat} {g:Operand->D} {H:Hp} {n:Nat} {acc:Prop}
theorem RJ {p a:Prop}(hp:p):(p/\a)=a:=propext ⟨And.right,λh=>⟨hp,h⟩⟩
theorem aQ {tt:Nat->Option A7}{t:Nat}{x:Operand}{i:A7}{k' gg sz j off:Nat}{e:At}{d d':D}(h1:tt t=some i)(h2:g x=.optr k' gg sz j off)(h3:Hp.get H k'=some e)
  (h4:e.es[j]?=some d) (h5:Gh i.ag i.sz off d.cells=some d'):
  Ev tt H n kb g (.load t x)=some (d',none,gg=e.g/\sz=e.sz/\(bif i.ag then Nat.ble (off+i.sz) d.cells.length else true)=true):=by
 simp only[Ev,h1,h2,h3,h4,h5]
theorem Sb {t:Nat}{x:Operand}{i:A7}{k' gg sz j off:Nat}{e:At}{d d':D}{k:Prop->D->Hp->Nat->Prop}(h1:X.tt t=some i)(h2:g x=.optr k' gg sz j off)(h3:Hp.get H k'=some e)
  (h4:e.es[j]?=some d) (hk:k acc d' H (n+1)) (h5:Gh i.ag i.sz off d.cells=some d':=by exact rfl) (h6:gg=e.g/\sz=e.sz/\(bif i.ag then Nat.ble (off+i.sz) d.cells.length else true)=true:=by exact CD):
  GM C X kb g H n (.load t x) acc k:=by
 unfold GM;simp only[aQ h1 h2 h3 h4 h5,RJ h6];exact hk
theorem Pt {t:Nat}{x:Operand}{i:A7}{k' gg sz j off:Nat}{e:At}{d d':D}{k:Prop->D->Option At->Prop}(h1:X.tt t=some i)(h2:g x=.optr k' gg sz j off)(h3:Hp.get H k'=some e)
  (h4:e.es[j]?=some d) (hk:k acc d' none) (h5:Gh i.ag i.sz off d.cells=some d':=by exact rfl) (h6:gg=e.g/\sz=e.sz/\(bif i.ag then Nat.ble (off+i.sz) d.cells.length else true)=true:=by exact CD):
  Ek C X kb g H n (.load t x) acc k:=by
 unfold Ek;simp only[aQ h1 h2 h3 h4 h5,RJ h6];exact hk
theorem Rx {fop:Operand}{args:Array Operand}{tys:Array Nat}{f:Nat}{first captured ds:List D}{d:D}{k:Prop->D->Hp->Nat->Prop}(hf:g fop=.clo (.func f) first captured)(hd:first++args.toList.map g++captured=ds)
  (hn:X.nat f ds=some d) (hk:k acc d H (n+1)):GM C X kb g H n (.call ⟨.value fop,args,tys⟩) acc k:=by
 subst hd;unfold GM;simp only[hf,hn];exact hk
theorem Pg {fop:Operand}{args:Array Operand}{tys:Array Nat}{f:Nat}{first captured ds:List D}{d:D}{k:Prop->D->Option At->Prop}(hf:g fop=.clo (.func f) first captured)(hd:first++args.toList.map g++captured=ds)
  (hn:X.nat f ds=some d) (hk:k acc d none):Ek C X kb g H n (.call ⟨.value fop,args,tys⟩) acc k:=by
 subst hd;unfold Ek;simp only[hf,hn];exact hk
theorem N9 {t:Nat}{x y:Operand}{i:A7}{k' gg sz j off:Nat}{e:At}{d d':D}{k:Prop->D->Hp->Nat->Prop}(h1:X.tt t=some i)(h2:g x=.optr k' gg sz j off)(h3:Hp.get H k'=some e)
  (h4:e.es[j]?=some d) (hk:k acc (.prim (.tuple #[])) (Hp.set H k' ⟨e.k,e.g,e.T,e.sz,e.es.set j d'⟩) (n+1))
  (h5:IE i off sz d (g y)=d':=by exact rfl) (h6:Eg i.ag i.sz (g y)/\gg=e.g/\sz=e.sz/\Nat.ble (off+i.sz) e.sz=true:=by exact CD):
  GM C X kb g H n (.store t x y) acc k:=by
 subst h5;unfold GM;simp only[Fu,h1,h2,h3,h4,RJ h6,PO];exact hk
end
section
variable {C:BA} {X:EV} {kb:Nat} {ops:Array Oper} {iw:Nat} {ia:Option Nat} {R:Hp} {clo:List Nat} {n i:Nat} {l:List Nat} {env:Ap} {N:Hp} {accE acc':Option At} {acc:Prop} {K:Prop->Ap->Hp->At->At->Prop} {o:Oper}
theorem li {e e':At}(h:K acc env N e e'):Ex C X kb ops iw ia R clo n [] env N (some e) (some e') acc K:=h
theorem NQ (h:Dl ops.toList i=some o)(hw:Nat.beq i iw=false)(ha:JJ ia i=false)(hg:o.guard=none)
  (hk:Ek C X (kb+i) (BG env) (If ia accE R (Cq i clo)) (n+i) o.op acc λacc d ne=>Ex C X kb ops iw ia R clo n l (Bh env o.dst d) (DF ne N) accE acc' acc K):
  Ex C X kb ops iw ia R clo n (i::l) env N accE acc' acc K:=by
 unfold Ex;simp only[h,hw,ha,hg];exact hk
theorem oG {e:At}(h:Dl ops.toList i=some o)(hw:Nat.beq i iw=true)(hg:o.guard=none)
  (hk:Lz X (kb+i) e (n+i) (BG env) o.op acc λacc d e'=>Ex C X kb ops iw ia R clo n l (Bh env o.dst d) N (some e) (some e') acc K):
  Ex C X kb ops iw ia R clo n (i::l) env N (some e) none acc K:=by
 unfold Ex;simp only[h,hw,hg];exact hk
theorem oF (h:Dl ops.toList i=some o)(hw:Nat.beq i iw=false)(ha:JJ ia i=true)(hg:o.guard=none)
  (hk:Ek C X (kb+i) (BG env) R (n+i) o.op acc λacc d ne=>match ne with
   |some e=>Ex C X kb ops iw ia R clo n l (Bh env o.dst d) N (some e) acc' acc K
   |none=>False):
  Ex C X kb ops iw ia R clo n (i::l) env N none acc' acc K:=by
 unfold Ex;simp only[h,hw,ha,hg];exact hk
theorem pP {e:At}{g:Operand->D}{op:Op}{k:Prop->D->At->Prop}{P:Prop->Prop}{d:D}{e':At}(hs:∀acc k,Lz X kb e n g op acc k=k (P acc) d e')(hk:k (P acc) d e'):Lz X kb e n g op acc k:=by rw[hs];exact hk
theorem sF {e:At}{g:Operand->D}{t:Nat}{x y:Operand}{i:A7}{k' gg sz j off:Nat}{d d':D}{k:Prop->D->At->Prop}(h1:X.tt t=some i)(h2:g x=.optr k' gg sz j off)(h3:Hp.get [e] k'=some e)
  (h4:e.es[j]?=some d) (hk:k acc (.prim (.tuple #[])) ⟨e.k,e.g,e.T,e.sz,e.es.set j d'⟩)
  (h5:IE i off sz d (g y)=d':=by exact rfl) (h6:Eg i.ag i.sz (g y)/\gg=e.g/\sz=e.sz/\Nat.ble (off+i.sz) e.sz=true:=by exact CD):
  Lz X kb e n g (.store t x y) acc k:=by
 subst h5;unfold Lz;simp only[Fu,h1,h2,h3,h4,RJ h6,PO];exact hk
end
theorem SU (K g T sz:Nat)(l:List D):Fz [⟨K,g,T,sz,l⟩] [] (.osl K g sz 0 l.length) (.sl false sz l):=by
 refine .osl (e:=⟨K,g,T,sz,l⟩) (by simp[Hp.get]) rfl rfl rfl (by simp) (by simp) (λj d d' h1 h2=>?_) λj d d' q c c' h1 h2 h3 h4=>?_
 ·rw[BV]at h1;rw[h1]at h2;cases h2;rfl
 ·rw[BV]at h1;rw[h1]at h2;cases h2;rw[h3]at h4;cases h4;exact Fz.refl _
section
variable {A B D E F G:Prop}
theorem Aa (a:A)(b:B):A/\B:=⟨a,b⟩
theorem Ao (a:A)(b:B)(c:D):A/\B/\D:=⟨a,b,c⟩
theorem Bb (a:A)(b:B)(c:D)(d:E):A/\B/\D/\E:=⟨a,b,c,d⟩
theorem CS (a:A)(b:B)(c:D)(d:E)(e:F):A/\B/\D/\E/\F:=⟨a,b,c,d,e⟩
theorem D9 (a:A)(b:B)(c:D)(d:E)(e:F)(f:G):A/\B/\D/\E/\F/\G:=⟨a,b,c,d,e,f⟩
theorem kT:(!true)=false:=rfl
theorem kF:(!false)=true:=rfl
theorem kN:∀n:Nat,(n:Int).toNat=n:=JQ
theorem kB:(!true)=false/\(!false)=true:=⟨rfl,rfl⟩
theorem CM {I:Prop}(a:A)(b:B)(c:D)(d:E)(e:F)(f:G)(g:I):A/\B/\D/\E/\F/\G/\I:=⟨a,b,c,d,e,f,g⟩
end
inductive KB:Nat->Prop
 |mk (n:Nat):KB n
section
variable {C:BA} {X:EV} {B:Ad} {rd:Option Nat} {F:Ad} {ops:Array Oper} {s:St} {Q:Exit->Ad->St->Prop} {i:Nat}
theorem QQ (hX:Dg C X){kb:Nat}(_:KB kb)(hnd:Eo ops.toList=true)(h:C7 C X kb ops (List.range ops.size) s True λacc s=>acc/\Q .normal F s):AC C B rd F (.region i ops false) s Q:=Kn hX kb hnd h
end
theorem AG {F:Prop}(f:F){P Q:Prop}(h:Q)(e:DS F->DS Q->P:=by
  intro hf hq
  repeat(first
   |(refine Eb rfl rfl ?_;refine Iz (λ_ _=>rfl) ?_)|(refine FL rfl rfl ?_;refine Iy (λ_ _=>rfl) ?_)
   |refine Iw rfl rfl rfl (by first|(simp only[hf.out];done)|fail) CD (Iz (λ_ _=>rfl) ?_)|refine Y6 rfl rfl rfl (by first|(simp only[hf.out];done)|fail) CD ?_
   |refine LI rfl rfl rfl (by first|(simp only[hf.out];done)|fail) CD (Iy (λ_ _=>rfl) ?_)|refine Y5 rfl rfl rfl (by first|(simp only[hf.out];done)|fail) CD ?_
   |(refine Eb rfl rfl ?_;refine Sb rfl rfl rfl (by(try dsimp only);(try simp only[hf.out]);exact rfl) ?_)|(refine Eb rfl rfl ?_;refine N9 rfl rfl rfl (by(try dsimp only);(try simp only[hf.out]);exact rfl) ?_)
   |(refine Iw rfl rfl rfl (by first|(simp only[hf.out];done)|fail) CD ?_;refine Sb rfl rfl rfl (by(try dsimp only);(try simp only[hf.out]);exact rfl) ?_)|(refine Iw rfl rfl rfl (by first|(simp only[hf.out];done)|fail) CD ?_;refine N9 rfl rfl rfl (by(try dsimp only);(try simp only[hf.out]);exact rfl) ?_)
   |(refine FL rfl rfl ?_;refine Pt rfl rfl rfl (by(try dsimp only);(try simp only[hf.out]);exact rfl) ?_)|(refine LI rfl rfl rfl (by first|(simp only[hf.out];done)|fail) CD ?_;refine Pt rfl rfl rfl (by(try dsimp only);(try simp only[hf.out]);exact rfl) ?_))
  try(refine RP ?_;repeat(first|(refine Eb rfl rfl ?_;refine Iz (λ_ _=>rfl) ?_)|(refine FL rfl rfl ?_;refine Iy (λ_ _=>rfl) ?_)))
  first|refine PE (BM CD ?_)|(refine Eb rfl rfl ?_;refine NX (λ_ _=>rfl) CD ?_)|(refine FL rfl rfl ?_;refine MU (λ_ _=>rfl) CD ?_)|skip
  refine BO ?_
  try simp only[hf.out]
  exact hq.out):P:=e ⟨f⟩ ⟨h⟩
theorem NH {F:Prop}(f:F){P Q:Prop}(h:Q)(e:DS F->DS Q->P:=by
  intro hf hq
  repeat(first
   |(refine NQ rfl rfl rfl rfl ?_;first|refine Iy (λ_ _=>rfl) ?_|refine Pt rfl rfl rfl (by(try dsimp only);(try simp only[hf.out]);exact rfl) ?_)
   |(refine oG rfl rfl rfl ?_;first|refine pP (λ_ _=>rfl) ?_|refine sF rfl rfl rfl (by(try dsimp only);(try simp only[hf.out]);exact rfl) ?_)|(refine oF rfl rfl rfl rfl ?_;refine Iy (λ_ _=>rfl) ?_))
  try refine li ?_
  refine BO ?_
  try simp only[hf.out]
  exact hq.out):P:=e ⟨f⟩ ⟨h⟩
theorem AX {F:Prop}(f:F){P Q:Prop}(h:Q)(e:DS F->DS Q->P:=by
  intro hf hq
  repeat(first
   |(refine Eb rfl rfl ?_;refine Iz (λ_ _=>rfl) ?_)|(refine FL rfl rfl ?_;refine Iy (λ_ _=>rfl) ?_))
  try(refine RP ?_;repeat(first|(refine Eb rfl rfl ?_;refine Iz (λ_ _=>rfl) ?_)|(refine FL rfl rfl ?_;refine Iy (λ_ _=>rfl) ?_)))
  first|refine PE (BM (by((refine BO ?_);(try simp only[hf.out]);all_goals exact CD)) ?_)|(refine Eb rfl rfl ?_;refine NX (λ_ _=>rfl) (by((refine BO ?_);(try simp only[hf.out]);all_goals exact CD)) ?_)|(refine FL rfl rfl ?_;refine MU (λ_ _=>rfl) (by((refine BO ?_);(try simp only[hf.out]);all_goals exact CD)) ?_)|skip
  refine BO ?_
  try simp only[hf.out]
  exact hq.out):P:=e ⟨f⟩ ⟨h⟩
theorem K0 {F:Prop}(f:F){A P Q:Prop}(h:Q)(a:DS F->A:=by intro hf;(refine BO ?_);(try simp only[hf.out]);all_goals exact CD)(e:DS F->DS Q->P:=by intro hf hq;refine BO ?_;(try simp only[hf.out]);exact hq.out):A/\P:=⟨a ⟨f⟩,e ⟨f⟩ ⟨h⟩⟩
theorem Oq {F:Prop}(f:F){P Q:Prop}(h:Q)(e:DS F->DS Q->P:=by
  intro hf hq
  first|(refine Iw rfl rfl rfl (by first|(simp only[hf.out];done)|fail) CD ?_;refine NX (λ_ _=>rfl) AB ?_)|(refine LI rfl rfl rfl (by first|(simp only[hf.out];done)|fail) CD ?_;refine MU (λ_ _=>rfl) AB ?_)
  refine BO ?_;exact hq.out):P:=e ⟨f⟩ ⟨h⟩
theorem By {F:Prop}(f:F){A:Prop}(a:A){P Q:Prop}(h:Q)(e:DS F->A->DS Q->P:=by
  intro hf hx hq
  first|refine Eb rfl rfl ?_|refine Iw rfl rfl rfl (by first|(simp only[hf.out];done)|fail) CD ?_|refine FL rfl rfl ?_|refine LI rfl rfl rfl (by first|(simp only[hf.out];done)|fail) CD ?_
  first|refine WF (λ_ _=>rfl) CD ⟨rfl,by omega⟩ hx ?_|refine N8 (λ_ _=>rfl) CD ⟨rfl,by omega⟩ hx ?_
  try dsimp only[D.cells]
  exact hq.out):P:=e ⟨f⟩ a ⟨h⟩
theorem AO {P Q:Prop}(h:Q)(e:DS Q->P:=by intro hq;refine AC.cond ?_;refine BO ?_;exact hq.out):P:=e ⟨h⟩
theorem An {P Q:Prop}(h:Q)(e:DS Q->P:=by intro hq;refine AC.skip ?_;refine BO ?_;exact hq.out):P:=e ⟨h⟩
theorem CG {P Q:Prop}(h:Q)(e:DS Q->P:=by intro hq;refine AC.exit ?_;refine BO ?_;exact hq.out):P:=e ⟨h⟩
theorem Aj {P Q:Prop}(h:Q)(e:DS Q->P:=by intro hq;refine AC.ret ?_;refine BM CD ?_;refine BO ?_;exact hq.out):P:=e ⟨h⟩
theorem rI (kb:Nat){P Q:Prop}(h:Q)(e:KB kb->DS Q->P:=by intro hk hq;refine QQ w1 hk (by kernel_rfl) ?_;refine BU ?_;exact hq.out):P:=e (.mk kb) ⟨h⟩
theorem fI (kb:Nat){P Q:Prop}(h:Q)(e:KB kb->DS Q->P:=by intro hk hq;refine QQ w1 hk (by kernel_rfl) ?_;refine CH ?_;exact hq.out):P:=e (.mk kb) ⟨h⟩
theorem sR (kb:Nat){P Q:Prop}(h:Q)(e:KB kb->DS Q->P:=by intro hk hq;refine AC.seq ?_;refine QQ w1 hk (by kernel_rfl) ?_;refine BU ?_;exact hq.out):P:=e (.mk kb) ⟨h⟩
theorem fR (kb:Nat){P Q:Prop}(h:Q)(e:KB kb->DS Q->P:=by intro hk hq;refine AC.seq ?_;refine QQ w1 hk (by kernel_rfl) ?_;refine CH ?_;exact hq.out):P:=e (.mk kb) ⟨h⟩
theorem sZ (kb:Nat){P Q:Prop}(h:Q)(e:KB kb->DS Q->P:=by intro hk hq;refine AC.seq ?_;refine QQ w1 hk (by kernel_rfl) ?_;exact hq.out):P:=e (.mk kb) ⟨h⟩
theorem cI {C:BA}{f:Nat}{ds:List D}{d:D}{H:Hp}{n:Nat}{k:D->Hp->Nat->Prop}(c:AL C f ds d){Q:Prop}(h:Q)(p:Ai ds:=by exact AJ)(e:DS Q->k d H (n+1):=by intro hq;refine BU ?_;exact hq.out):BF C f ds H n k:=BF.same d c p (e ⟨h⟩)
theorem dI {C:BA}{f:Nat}{ds:List D}{d:D}{H:Hp}{n:Nat}{k:D->Hp->Nat->Prop}(c:AL C f ds d){Q:Prop}(h:Q)(p:Ai ds:=by exact AJ)(e:DS Q->k d H (n+1):=by intro hq;refine CH ?_;exact hq.out):BF C f ds H n k:=BF.same d c p (e ⟨h⟩)
open Go.ChangeShapes Go.WideShapes
structure D5 (W:World)(cs:List Value)(ds:List D):Prop where
 len:cs.length=ds.length
 cell:∀(i:Nat) (c:Value) (d:D),cs[i]?=some c->ds[i]?=some d->one c=true/\AW nol (λ_=>False) W d c
theorem D5.one {W:World}{c:Value}{d:D}(ho:one c=true)(h:AW nol (λ_=>False) W d c):D5 W [c] [d]:=⟨rfl,λi x y hx hy=>by
 match i with
 | 0=>cases hx;cases hy;exact⟨ho,h⟩
 |i+1=>simp at hx⟩
theorem D5.append {W:World}{a b:List Value}{x y:List D}(h:D5 W a x)(k:D5 W b y):D5 W (a++b) (x++y):=⟨by rw[Be,Be,h.len,k.len],λi c d hc hd=>by
 by_cases hi:i<a.length
 ·rw[GW hi]at hc
  rw[GW (by rw[<-h.len];exact hi)]at hd;exact h.cell i c d hc hd
 ·rw[FC (by omega)]at hc
  rw[FC (by rw[<-h.len];omega),<-h.len]at hd;exact k.cell _ c d hc hd⟩
theorem D5.agg {W:World}{cs:Array Value}{ds:List D}(h:D5 W cs.toList ds):AW nol (λ_=>False) W (.agg ds) (.agg cs):=by
 have hl:cs.size=ds.length:=by rw[<-h.len];simp
 refine .agg hl (λi v hv=>?_) λi d hd=>?_
 ·have hi:i<ds.length:=by
   have:=(DB.1 hv).1
   omega
  exact(h.cell i v _ (by rw[Jv];exact hv) (Bs hi)).1
 ·have hi:i<cs.size:=by
   have:=(BS.1 hd).1
   omega
  have hv:cs[i]?=some cs[i]:=B3 hi
  have:=(h.cell i _ d (by rw[Jv];exact hv) hd).2
  rw[show cs.getD i undef=cs[i] by simp[Array.getD,hi]];exact this
theorem ad {α:Type}{p:Nat->α->Prop}:∀ {n:Nat},(∀i,i<n->∃x,p i x)->∃l:List α,l.length=n/\∀(i:Nat) (x:α),l[i]?=some x->p i x
 | 0,_=>⟨[],rfl,λi x h=>by simp at h⟩
 |n+1,h=>by
  obtain⟨l,h1,h2⟩:=ad (n:=n) λi hi=>h i (by omega)
  obtain⟨x,hx⟩:=h n (by omega);refine⟨l++[x],by simp[h1],λi y hy=>?_⟩
  by_cases hi:i<l.length
  ·rw[GW hi]at hy;exact h2 i y hy
  ·rw[FC (by omega)]at hy
   have:i-l.length=0:=by
    have:=(BS.1 hy).1
    simp at this;omega
   rw[this]at hy;simp at hy;rw[show i=n by omega,<-hy];exact hx
theorem bK {b off k:Nat}:(Addr.mk b off none).add k=⟨b,off+k,none⟩:=by
 unfold Addr.add
 by_cases h:k=0
 ·subst h;rfl
 ·rw[AH h]
theorem nD {W:World}{a:Addr}{v:Value}(h:W.cell? a=some v):∃b off,a=⟨b,off,none⟩/\b<W.heap.size:=by
 obtain⟨b,off,sp⟩:=a;unfold World.cell? at h;split at h
 ·rename_i c t f hb
  split at h
  ·cases h
  ·rename_i hs
   simp at hs;subst hs;exact⟨b,off,rfl,(DB.1 hb).1⟩
 ·cases h
section
variable {H:Type} {enc:TypeId×Value->H} {P:Program} {W:World} {fuel:Nat} {cs:List Value} {x:DataW H×List MemPlace} {t:TypeId}
theorem xV {k:IntKind}(ht:P.underlying t=some (.int k))(h:DataW.trod enc P W 0 (λ_=>true) true fuel t cs=some x):∃z:Int,cs=[.int k z]/\(Lit.int k z).wf=true/\D5 W cs [.prim (.int k z)]:=by
 obtain⟨n,rfl,_,hw⟩:=DataW.trod_int ht h;exact⟨n,rfl,hw,.one rfl (.prim _)⟩
theorem dj (ht:P.underlying t=some .string)(h:DataW.trod enc P W 0 (λ_=>true) true fuel t cs=some x):∃l:List UInt8,D5 W cs [.prim (.string ⟨l.toArray⟩)]/\l.length<=maxLen:=by
 obtain⟨s,rfl,_,hw⟩:=DataW.trod_string ht h;refine⟨s.data.toList,.one rfl ?_,?_⟩
 rotate_left
 ·rw[Ip];exact hw
 rw[show(⟨s.data.toList.toArray⟩:ByteArray)=s by cases s;simp];exact .prim _
theorem Wf {α:Type}{g:α->D}{ok:α->Prop}{e:TypeId}{sz:Nat}(ht:P.underlying t=some (.slice e))(hc:P.cellsOf e=sz)(h0:0<sz)
  (he:∀n cs x,DataW.trod enc P W 0 (λ_=>true) true n e cs=some x->∃a,D5 W cs (g a).cells/\ok a)
  (h:DataW.trod enc P W 0 (λ_=>true) true fuel t cs=some x):∃l:List α,D5 W cs [.sl false sz (l.map g)]/\(∀a∈l,ok a)/\l.length<=maxLen:=by
 rcases DataW.trod_slice ht h with⟨rfl,_⟩|⟨a,len,cap,elems,rest,n,_,rfl,_,_,hl,hm,hlen,hel,hsp,_⟩
 ·exact⟨[],.one rfl (.nil _),λ_ h=>Ak h Dq,BW _⟩
 rw[hc]at hel hsp;have hE:∀i,i<len->∃ci y,W.cells? 0 (a.add (i*sz)) sz=some ci/\DataW.trod enc P W 0 (λ_=>true) true n e ci=some y:=λi hi=>by
  have h1:=hel i hi;rw[Ce]at h1;obtain⟨ci,h2,h3⟩:=Option.bind_eq_some_iff.1 h1;exact⟨ci,_,h2,h3⟩
 have hA:(len=0/\cap=0)\/∃v,W.cell? a=some v:=by
  by_cases hz:len=0
  ·by_cases hcz:cap=0
   ·exact .inl ⟨hz,hcz⟩
   obtain⟨h1,h2⟩:=hsp rfl;have h3:=h2 0 (by omega);rw[Ce]at h3;obtain⟨ci,h4,_⟩:=Option.bind_eq_some_iff.1 h3;obtain⟨_,h5,h6⟩:=World.cells?_some h4;have h7:=h6 0 h0;rw[show len+0=0 by omega,Hq]at h7;rw[show(a.add 0).add 0=a from rfl,Ce]at h7;exact .inr ⟨_,h7⟩
  ·obtain⟨ci,_,h4,_⟩:=hE 0 (by omega)
   obtain⟨_,h5,h6⟩:=World.cells?_some h4;have h7:=h6 0 h0;rw[Hq]at h7;rw[show(a.add 0).add 0=a from rfl,Ce]at h7;exact .inr ⟨_,h7⟩
 rcases hA with⟨rfl,rfl⟩|⟨v,hv⟩
 ·exact⟨[],.one rfl (.emp a),λ_ h=>Ak h Dq,BW _⟩
 obtain⟨b,off,rfl,hb⟩:=nD hv;obtain⟨l,hll,hl2⟩:=ad (p:=λi x=>∃ci,W.cells? 0 ((Addr.mk b off none).add (i*sz)) sz=some ci/\D5 W ci (g x).cells/\ok x) λi hi=>by
  obtain⟨ci,y,h1,h2⟩:=hE i hi;obtain⟨x,h3,h4⟩:=he n ci y h2;exact⟨x,ci,h1,h3,h4⟩
 have hcell:∀i x,l[i]?=some x->(g x).cells.length=sz/\∀j,j<sz->∃c d,W.cell? ⟨b,off+(i*sz+j),none⟩=some c/\(g x).cells[j]?=some d/\Ide.one c=true/\AW nol (λ_=>False) W d c:=λi x hx=>by
  obtain⟨ci,h1,h2,_⟩:=hl2 i x hx;obtain⟨_,h3,h4⟩:=World.cells?_some h1;refine⟨by rw[<-h2.len,h3],λj hj=>?_⟩;have h5:=h4 j hj;rw[bK,bK,Ce,FD]at h5;have h6:(g x).cells[j]?=some ((g x).cells[j]'(by rw[<-h2.len,h3];exact hj)):=Bs _
  have:=h2.cell j _ _ (Ce) h6
  exact⟨_,_,h5,h6,this.1,this.2⟩
 have hsplit:∀k,k<len*sz->∃i j x,k=i*sz+j/\i<len/\j<sz/\l[i]?=some x:=λk hk=>by
  have h1:k/sz<len:=(Nat.div_lt_iff_lt_mul h0).2 hk;exact⟨k/sz,k%sz,_,by rw[Ba];exact(FF k sz).symm,h1,B7 _ h0,Ce⟩
 refine⟨l,.one rfl (.sl (λk=>(W.cell? ⟨b,off+k,none⟩).getD undef) (by rw[Ab,hll]) hl (λh=>h) hb ?_ ?_ ?_ ?_),λx hx=>?_,by omega⟩
 ·intro i d hd
  rw[Ay]at hd;obtain⟨x,hx,rfl⟩:=E4.1 hd;exact(hcell i x hx).1
 ·intro k hk
  obtain⟨i,j,x,rfl,hi,hj,hx⟩:=hsplit k hk;obtain⟨c,d,h1,_⟩:=(hcell i x hx).2 j hj;rw[h1];rfl
 ·intro k hk
  obtain⟨i,j,x,rfl,hi,hj,hx⟩:=hsplit k hk;obtain⟨c,d,h1,_,h3,_⟩:=(hcell i x hx).2 j hj;rw[h1];exact h3
 ·intro i e' j d hd hj
  rw[Ay]at hd;obtain⟨x,hx,rfl⟩:=E4.1 hd;have hjl:j<sz:=by
   have:=(BS.1 hj).1
   rw[(hcell i x hx).1]at this;exact this
  obtain⟨c,d',h1,h2,_,h4⟩:=(hcell i x hx).2 j hjl;rw[h1];rw[h2]at hj;cases hj;exact h4
 ·obtain⟨i,hi⟩:=List.getElem?_of_mem hx
  obtain⟨_,_,_,h⟩:=hl2 i x hi;exact h
theorem nO {fs:Array Field}(ht:P.underlying t=some (.struct fs))(h:DataW.trod enc P W 0 (λ_=>true) true fuel t cs=some x):
  cs.length=P.cellsOf t/\∃n,∀(i:Nat) (f:Field),fs[i]?=some f->∃y,DataW.trod enc P W 0 (λ_=>true) true n f.type ((cs.drop f.offset).take (P.cellsOf f.type))=some y:=by
 obtain⟨xs,n,rfl,_,h1,h2,h3⟩:=DataW.trod_struct ht h;refine⟨h1,n,λi f hf=>?_⟩
 have:=(DB.1 hf).1
 exact⟨xs[i]'(by omega),by rw[h3 i f hf];exact Bs _⟩
end
section
variable {C:BA} {X:EV} {B:Ad} {rd:Option Nat} {F:Ad} {ops:Array Oper} {s:St} {Q:Exit->Ad->St->Prop} {i:Nat}
theorem e0X (hX:Dg C X)(hnd:Eo ops.toList=true)(h:C7 C X (100*i) ops (List.range ops.size) s True λacc s=>acc/\Q .normal F s):AC C B rd F (.region i ops false) s Q:=Kn hX (100*i) hnd h
abbrev Dr:=List (Nat×List Nat×List Nat)
abbrev AY:Dr:=[]
noncomputable def TJ (L:Dr)(i:Nat):List Nat×List Nat:=List.rec ([],[]) (λa _ r=>cond (Nat.beq a.1 i) a.2 r) L
inductive KD:Dr->Prop
 |mk (L:Dr):KD L
theorem e0Z {L:Dr}(hX:Dg C X)(_:KD L)(hc:(HZ ops (TJ L i).1 (TJ L i).2&&Eo ops.toList)=true)
  (h:Em C X (100*i) ops s.H s.n (TJ L i).1 s.env [] True λacc env N=>C7 C X (100*i) ops (TJ L i).2 ⟨env,N++s.H,s.n+Fj ops.toList⟩ acc λacc s=>acc/\Q .normal F s):AC C B rd F (.region i ops true) s Q:=jI hX (100*i) _ _ hc h
theorem idS {c:Code}(h:AC C B rd F c s Q):AC C B rd F c s Q:=h
theorem zE {kb:Nat}{l:List Nat}{acc:Prop}{K:Prop->St->Prop}(h:C7 C X kb ops l s acc K):C7 C X kb ops l s acc K:=h
theorem zC {kb n:Nat}{l:List Nat}{H N:Hp}{env:Ap}{acc:Prop}{K:Prop->Ap->Hp->Prop}(h:Em C X kb ops H n l env N acc K):Em C X kb ops H n l env N acc K:=h
theorem d9F {f n:Nat}{ds:List D}{H:Hp}{k:D->Hp->Nat->Prop}(h:BF C f ds H n k):BF C f ds H n k:=h
theorem d9G {f:Nat}{ds:List D}{k:D->Prop}(h:Bf C f ds k):Bf C f ds k:=h
theorem FG {F:Prop}(hf:DS F){P:Prop}(h:DS F->P:=by intro hf;first|((repeat'(first|exact AB|exact rfl|exact Or.inl rfl|exact Or.inr rfl|exact Eg.agg|exact TK rfl|exact Dm rfl|refine BM ?_ ?_|(intro hq;first|exact rfl|exact AB|(exact Ak hq (by decide)))|exact Ar _|omega|decide|(dsimp only[List.length_cons,List.length_nil];omega)));done)|((refine BO ?_);(try simp only[hf.out,kT,kF]);(try(repeat'(first|exact AB|exact rfl|exact Or.inl rfl|exact Or.inr rfl|exact Eg.agg|exact TK rfl|exact Dm rfl|refine BM ?_ ?_|(intro hq;first|exact rfl|exact AB|(exact Ak hq (by decide)))|exact Ar _|omega|decide|(dsimp only[List.length_cons,List.length_nil];omega))));done)|fail):P:=h hf
theorem JV {F:Prop}(hf:DS F){P:Prop}(h:DS F->P:=by intro hf;first|(simp only[hf.out,kT,kF];done)|fail):P:=h hf
theorem d9t {y n:Prop}(h:y):Kc true y n:=h
theorem d9s {y n:Prop}(h:n):Kc false y n:=h
end
theorem AF {F A1 A2 A3 A4 A5 A6:Prop}(dr:Dr)(f:F)(c1:A1)(c2:A2)(c3:A3)(c4:A4)(c5:A5)(c6:A6){P Q:Prop}(h:Q)(e:KD dr->DS F->A1->A2->A3->A4->A5->A6->DS Q->P:=by
  intro hd hf c1 c2 c3 c4 c5 c6 hq
  repeat(first
   |((with_reducible refine idS ?_);first|refine AC.seq ?_|refine e0X w1 (by kernel_rfl) ?_|refine e0Z w1 hd (by kernel_rfl) ?_|refine AC.block ?_|(refine AC.skip ?_;refine BO ?_;try simp only[hf.out,kT,kF])|(refine AC.exit ?_;refine BO ?_;try simp only[hf.out,kT,kF])|(refine AC.cond ?_;refine BO ?_;try simp only[hf.out,kT,kF,OJ,Sg])|(refine AC.ret ?_;refine BM (FG hf) ?_;refine BO ?_;try simp only[hf.out,kT,kF]))
   |((with_reducible refine zE ?_);first|(refine Eb rfl rfl ?_;refine Iz (λ_ _=>rfl) ?_)|(refine Iw rfl rfl rfl (JV hf) (FG hf) ?_;refine Iz (λ_ _=>rfl) ?_)|refine Y6 rfl rfl rfl (JV hf) (FG hf) ?_|(refine Eb rfl rfl ?_;refine NX (λ_ _=>rfl) (FG hf) ?_;refine BO ?_;try simp only[hf.out,kT,kF])|(refine Eb rfl rfl ?_;refine WF (λ_ _=>rfl) (FG hf) ⟨rfl,by omega⟩ (by first|exact c1|exact c2|exact c3|exact c4|exact c5|exact c6|fail) ?_;try dsimp only[D.cells])|(refine Eb rfl rfl ?_;refine Sb rfl rfl rfl (by(try dsimp only);(try simp only[hf.out,kT,kF]);exact rfl) ?_)|(refine Eb rfl rfl ?_;refine N9 rfl rfl rfl (by(try dsimp only);(try simp only[hf.out,kT,kF]);exact rfl) ?_)|(refine Iw rfl rfl rfl (JV hf) (FG hf) ?_;refine NX (λ_ _=>rfl) (FG hf) ?_;refine BO ?_;try simp only[hf.out,kT,kF])|(refine Iw rfl rfl rfl (JV hf) (FG hf) ?_;refine WF (λ_ _=>rfl) (FG hf) ⟨rfl,by omega⟩ (by first|exact c1|exact c2|exact c3|exact c4|exact c5|exact c6|fail) ?_;try dsimp only[D.cells])|(refine Iw rfl rfl rfl (JV hf) (FG hf) ?_;refine Sb rfl rfl rfl (by(try dsimp only);(try simp only[hf.out,kT,kF]);exact rfl) ?_)|(refine Iw rfl rfl rfl (JV hf) (FG hf) ?_;refine N9 rfl rfl rfl (by(try dsimp only);(try simp only[hf.out,kT,kF]);exact rfl) ?_)|(refine PE (BM (FG hf) ?_);refine BO ?_;try simp only[hf.out,kT,kF])|(dsimp only[DL,NJ,Fj,Bh,DF,BG,Ap.get,LX,IE,Gh,Lf,KW,Fm,FX,D.cells,ofV,Hp.get,Hp.set,Hp.del,Ih,Dj,IB,cond,Jr,OB,N7,If,OM,Cq,List.map,List.length,List.append,List.nil_append,List.cons_append,List.append_nil,List.size_toArray,List.length_cons,List.length_nil,Value.cells,List.toList_toArray,Array.toList,Nat.reduceAdd,Nat.reduceMul,Nat.beq,Nat.reduceSub,Cq,JJ,Fj,Bool.false_and,Bool.true_and,Bool.true_or,Bool.false_or,Bool.not_true,Bool.not_false])|(simp only[hf.out,kT,kF]))
   |((with_reducible refine zC ?_);first|(refine FL rfl rfl ?_;refine Iy (λ_ _=>rfl) ?_)|(refine LI rfl rfl rfl (JV hf) (FG hf) ?_;refine Iy (λ_ _=>rfl) ?_)|refine Y5 rfl rfl rfl (JV hf) (FG hf) ?_|(refine FL rfl rfl ?_;refine MU (λ_ _=>rfl) (FG hf) ?_;refine BO ?_;try simp only[hf.out,kT,kF])|(refine FL rfl rfl ?_;refine N8 (λ_ _=>rfl) (FG hf) ⟨rfl,by omega⟩ (by first|exact c1|exact c2|exact c3|exact c4|exact c5|exact c6|fail) ?_;try dsimp only[D.cells])|(refine FL rfl rfl ?_;refine Pt rfl rfl rfl (by(try dsimp only);(try simp only[hf.out,kT,kF]);exact rfl) ?_)|(refine LI rfl rfl rfl (JV hf) (FG hf) ?_;refine MU (λ_ _=>rfl) (FG hf) ?_;refine BO ?_;try simp only[hf.out,kT,kF])|(refine LI rfl rfl rfl (JV hf) (FG hf) ?_;refine N8 (λ_ _=>rfl) (FG hf) ⟨rfl,by omega⟩ (by first|exact c1|exact c2|exact c3|exact c4|exact c5|exact c6|fail) ?_;try dsimp only[D.cells])|(refine LI rfl rfl rfl (JV hf) (FG hf) ?_;refine Pt rfl rfl rfl (by(try dsimp only);(try simp only[hf.out,kT,kF]);exact rfl) ?_)|(refine RP ?_;refine BO ?_;try simp only[hf.out,kT,kF])|(dsimp only[DL,NJ,Fj,Bh,DF,BG,Ap.get,LX,IE,Gh,Lf,KW,Fm,FX,D.cells,ofV,Hp.get,Hp.set,Hp.del,Ih,Dj,IB,cond,Jr,OB,N7,If,OM,Cq,List.map,List.length,List.append,List.nil_append,List.cons_append,List.append_nil,List.size_toArray,List.length_cons,List.length_nil,Value.cells,List.toList_toArray,Array.toList,Nat.reduceAdd,Nat.reduceMul,Nat.beq,Nat.reduceSub,Cq,JJ,Fj,Bool.false_and,Bool.true_and,Bool.true_or,Bool.false_or,Bool.not_true,Bool.not_false])|(simp only[hf.out,kT,kF]))
   |((with_reducible refine d9F ?_);((first|refine BF.same _ c1 AJ ?_|refine BF.same _ c2 AJ ?_|refine BF.same _ c3 AJ ?_|refine BF.same _ c4 AJ ?_|refine BF.same _ c5 AJ ?_|refine BF.same _ c6 AJ ?_|refine BF.same _ (c1 rfl) AJ ?_|refine BF.same _ (c2 rfl) AJ ?_|refine BF.same _ (c3 rfl) AJ ?_|refine BF.same _ (c4 rfl) AJ ?_|refine BF.same _ (c5 rfl) AJ ?_|refine BF.same _ (c6 rfl) AJ ?_);refine BO ?_;try simp only[hf.out,kT,kF]))
   |((with_reducible refine d9G ?_);((first|refine Bf.same _ c1 AJ ?_|refine Bf.same _ c2 AJ ?_|refine Bf.same _ c3 AJ ?_|refine Bf.same _ c4 AJ ?_|refine Bf.same _ c5 AJ ?_|refine Bf.same _ c6 AJ ?_|refine Bf.same _ (c1 rfl) AJ ?_|refine Bf.same _ (c2 rfl) AJ ?_|refine Bf.same _ (c3 rfl) AJ ?_|refine Bf.same _ (c4 rfl) AJ ?_|refine Bf.same _ (c5 rfl) AJ ?_|refine Bf.same _ (c6 rfl) AJ ?_);refine BO ?_;try simp only[hf.out,kT,kF]))
   |(with_reducible refine d9t ?_)
   |(with_reducible refine d9s ?_)
   )
  exact hq.out):P:=e (.mk dr) ⟨f⟩ c1 c2 c3 c4 c5 c6 ⟨h⟩
section
variable {C:BA} {F:Ad} {ρ:Lk} {w w':World}
theorem e0A {H1 H2:Hp}{e:At}{b:Nat}(m:Am C F ρ (H1++e::H2) w)(hb:ρ e.k e.g=some b)(hsz:w'.heap.size=w.heap.size)(h1:w'.os=w.os)(h2:w'.tape=w.tape)(h3:w'.output=w.output)
  (ho:∀k,k≠b->w'.heap[k]?=w.heap[k]?) (hs:∀cs,w.heap[b]?=some (.cells cs e.T (0,0))->∃(cs':Array Value) (fz':Nat×Nat),w'.heap[b]?=some (.cells cs' e.T fz')/\cs'.size=cs.size):
  Am C F ρ (H1++H2) w'/\BX ρ (AN F.X ρ (H1++e::H2)) w ρ (AN F.X ρ (H1++H2)) w':=by
 have he:e∈H1++e::H2:=by simp
 obtain⟨cs,hc,_⟩:=m.at he hb;obtain⟨m0,hO⟩:=m.sub (H':=H1++H2) (Qb (Qe _) (Oa _ _));have hown:AN F.X ρ (H1++e::H2) b:=.inr ⟨e,he,hb⟩;have x:BX ρ (AN F.X ρ (H1++e::H2)) w ρ (AN F.X ρ (H1++H2)) w':=by
  refine⟨by omega,λ_ _ _ h=>h,λk hk hn=>⟨λh=>hn (hO k h),ho k λh=>hn (by rw[h];exact hown)⟩,λk cs1 T fz h=>?_⟩
  by_cases hk:k=b
  ·subst hk
   rw[hc]at h;cases h;obtain⟨cs',fz',q1,q2⟩:=hs cs hc;exact⟨cs',fz',q1,q2⟩
  ·exact⟨cs1,fz,by rw[ho k hk];exact h,rfl⟩
 have hne:∀e'∈H1++H2,ρ e'.k e'.g≠some b:=λe' he' hb'=>by
  have hinj:=m.hok.inj;rw[Jx,EL]at hinj;rcases Bp.1 he' with h|h
  ·exact hinj.2.2 e' h e (CF ..) b b hb' hb rfl
  ·exact hinj.2.1.1 e' h b b hb hb' rfl
 refine⟨⟨⟨λe' he'=>?_,m0.hok.inj,m0.hok.own⟩,by rw[h1];exact m.os,by rw[h2];exact m.tape,by rw[h3];exact m.output,by rw[hsz];exact m.size,λk hk hw=>?_,m.xlt,m.g0,m.gn,m.gw,m.lnk,I5 m.shp x⟩,x⟩
 ·rcases m0.hok.ent e' he' with h|⟨b',cs',q1,q2,q3⟩
  ·exact .inl h
  ·refine .inr ⟨b',cs',q1,?_,?_⟩
   ·rw[ho b' λh=>hne e' he' (by rw[q1,h])];exact q2
   ·have he2:e'∈H1++e::H2:=by rcases Bp.1 he' with h|h<;>simp[h]
    obtain⟨cs2,r1,r2⟩:=m.at he2 q1;rw[q2]at r1;cases r1;exact r2.mono x
 ·rw[ho k λh=>?_]
  ·exact m.blk k hk hw
  ·subst h
   have:=m.hok.own e he k hb
   rcases this.2 with h|h
   ·omega
   ·exact hw h
end
structure IP where
 k:Nat
 g:Nat
 o:Obj
def Ad.wrs (F:Ad)(Z:Nat->Prop):Ad:=⟨F.w0,F.X,λb=>F.Wr b\/Z b,F.nt,F.r0,F.df⟩
def JY (F:Ad)(L:List IP)(b:Nat):Prop:=∃x∈L,F.r0 x.k x.g=some b
structure Iv (B F:Ad)(Z:Nat->Prop):Prop where
 os:F.w0.os=B.w0.os
 tape:F.w0.tape=B.w0.tape
 output:F.w0.output=B.w0.output
 size:B.w0.heap.size<=F.w0.heap.size
 blk:∀b,b<B.w0.heap.size->¬B.Wr b->F.w0.heap[b]?=B.w0.heap[b]?
 wr:∀b,F.Wr b\/Z b->B.w0.heap.size<=b\/B.Wr b
 lnk:∀k g b,B.r0 k g=some b->F.r0 k g=some b
 X:∀b,B.X b->F.X b
 shp:∀(b:Nat) (cs:Array Value) (T:Nat) (fz:Nat×Nat),B.w0.heap[b]?=some (.cells cs T fz)->∃(cs':Array Value) (fz':Nat×Nat),F.w0.heap[b]?=some (.cells cs' T fz')/\cs'.size=cs.size
structure WP (C:BA)(B:Ad):Prop where
 xlt:∀b,B.X b->b<B.w0.heap.size
 g0:C.G B.w0
 gn:C.nG<=B.w0.heap.size
 gw:∀b,B.Wr b->C.nG<=b
structure DP (C:BA)(B F:Ad)(L:List IP):Prop where
 at_:∀x∈L,∃it,F.r0 x.k x.g=some it/\F.X it/\¬F.Wr it/\F.w0.heap[it]?=some x.o/\C.nG<=it
 nc:∀x∈L,∀cs T fz,x.o≠.cells cs T fz
 dis:L.Pairwise λx y=>F.r0 x.k x.g≠F.r0 y.k y.g
 reb:Iv B F (JY F L)
 bm:∀ {ρ:Lk} {H:Hp} {w:World},Am C F ρ H w->WP C B
 df:F.df=B.df
def Jt (F:Ad)(d:D)(v:Value):Prop:=AW F.r0 (λb=>F.X b\/F.Wr b) F.w0 d v
structure K6 (F F2:Ad):Prop where
 lnk:∀k g b,F.r0 k g=some b->F2.r0 k g=some b
 rep:∀d v,Jt F d v->Jt F2 d v
 blk:∀b o,F.w0.heap[b]?=some o->¬(F.X b\/F.Wr b)->F2.w0.heap[b]?=some o/\¬(F2.X b\/F2.Wr b)
structure Mx (ρ:Lk)(O:Nat->Prop)(w:World)(F2:Ad):Prop where
 rep:∀d v,AW ρ O w d v->Jt F2 d v
 blk:∀b o,w.heap[b]?=some o->¬O b->F2.w0.heap[b]?=some o/\¬(F2.X b\/F2.Wr b)
section
variable {C:BA} {B F:Ad} {ρ:Lk} {H:Hp} {w:World} {L:List IP}
theorem Jt.now {d:D}{v:Value}(h:Jt F d v)(m:Am C F ρ H w):AW ρ (AN F.X ρ H) w d v:=
 AW.mono h ⟨m.size,m.lnk,λb hb hO=>⟨λh=>by
  rcases h with h|⟨e,he,h⟩
  ·exact hO (.inl h)
  ·rcases(m.hok.own e he b h).2 with h|h
   ·omega
   ·exact hO (.inr h),m.blk b hb λh=>hO (.inr h)⟩,m.shp⟩
theorem Mx.to {F2:Ad}(h:Mx ρ (AN F.X ρ H) w F2)(m:Am C F ρ H w)(hl:∀k g b,ρ k g=some b->F2.r0 k g=some b):K6 F F2:=
 ⟨λk g b q=>hl _ _ _ (m.lnk _ _ _ q),λd v q=>h.rep d v (q.now m),λb o q r=>by
  have hlt:b<F.w0.heap.size:=(DB.1 q).1;refine h.blk b o ((m.blk b hlt λh=>r (.inr h)).trans q) λho=>?_
  rcases ho with ho|⟨e,he,ho⟩
  ·exact r (.inl ho)
  ·rcases(m.hok.own e he b ho).2 with q|q
   ·omega
   ·exact r (.inr q)⟩
theorem Am.wrs {Z:Nat->Prop}(m:Am C F ρ H w)(hZ:∀b,Z b->C.nG<=b):Am C (F.wrs Z) ρ H w:=
 ⟨⟨m.hok.ent,m.hok.inj,λe he b hb=>⟨(m.hok.own e he b hb).1,(m.hok.own e he b hb).2.imp id .inl⟩⟩,m.os,m.tape,m.output,m.size,λb hb h=>m.blk b hb λh'=>h (.inl h'),m.xlt,m.g0,m.gn,λb h=>h.elim (m.gw b) (hZ b),m.lnk,m.shp⟩
theorem Iv.up {Z:Nat->Prop}(h:Iv B F Z)(hb:WP C B)(m:Am C (F.wrs Z) ρ H w):Am C B ρ H w:=by
 have hX:∀b,AN B.X ρ H b->AN F.X ρ H b:=λb hb=>hb.imp (h.X b) id
 refine⟨⟨λe he=>?_,m.hok.inj,λe he b hb'=>?_⟩,m.os.trans h.os,m.tape.trans h.tape,m.output.trans h.output,BY h.size m.size,λb hb1 hb2=>?_,hb.xlt,hb.g0,hb.gn,hb.gw,λk g b q=>m.lnk _ _ _ (h.lnk _ _ _ q),λb cs T fz hc=>?_⟩
 ·rcases m.hok.ent e he with h1|⟨b,cs,a1,a2,a3⟩
  ·exact .inl h1
  ·exact .inr ⟨b,cs,a1,a2,a3.anti hX⟩
 ·obtain⟨q1,q2⟩:=m.hok.own e he b hb'
  refine⟨λq=>q1 (h.X b q),?_⟩;rcases q2 with q2|q2
  ·exact .inl (BY h.size q2)
  ·exact h.wr b q2
 ·refine(m.blk b (Co hb1 h.size) λq=>?_).trans (h.blk b hb1 hb2)
  rcases h.wr b q with q|q
  ·omega
  ·exact hb2 q
 ·obtain⟨cs1,L8,c1,c2⟩:=h.shp b cs T fz hc
  obtain⟨cs2,fz2,c3,c4⟩:=m.shp b cs1 T L8 c1;exact⟨cs2,fz2,c3,c4.trans c2⟩
theorem Iv.fle {Z:Nat->Prop}(h:Iv B F Z)(hb:WP C B)(hZ:∀b,Z b->C.nG<=b)(hn:F.nt=B.nt)(hd:F.df=B.df):DG C B F:=
 ⟨hn,h.size,λm=>h.up hb (m.wrs hZ),h.X,[],hd,[],rfl,.nil,by simp⟩
theorem W2 (F:Ad):DP C F F [] where
 at_:=by simp
 nc:=by simp
 dis:=.nil
 reb:=⟨rfl,rfl,rfl,Ar _,λ_ _ _=>rfl,λb hb=>by
  rcases hb with hb|⟨x,hx,_⟩
  ·exact .inr hb
  ·exact Ak hx (by simp),λ_ _ _ h=>h,λ_ h=>h,λ_ cs _ _ h=>⟨cs,_,h,rfl⟩⟩
 bm:=λm=>⟨m.xlt,m.g0,m.gn,m.gw⟩
 df:=rfl
theorem DP.ng (h:DP C B F L):∀b,JY F L b->C.nG<=b:=λb ⟨x,hx,hb⟩=>by
 obtain⟨it,a1,-,-,-,a5⟩:=h.at_ x hx;rw[a1]at hb;cases hb;exact a5
theorem DP.now (h:DP C B F L)(m:Am C F ρ H w){x:IP}(hx:x∈L):∃it,ρ x.k x.g=some it/\F.r0 x.k x.g=some it/\F.X it/\w.heap[it]?=some x.o:=by
 obtain⟨it,a1,a2,a3,a4,-⟩:=h.at_ x hx;exact⟨it,m.lnk _ _ _ a1,a1,a2,(m.blk it (m.xlt it a2) a3).trans a4⟩
variable {s:St} {a:Act}
theorem Iv.now {Z Z2 X2:Nat->Prop}{ρ2:Lk}{w2:World}{nt:Nat}{df:List Deferred}(h:Iv B F Z)(m:Am C F ρ H w)(hos:w2.os=w.os)(htp:w2.tape=w.tape)(hout:w2.output=w.output)(hsz:w.heap.size<=w2.heap.size)
  (hold:∀b,b<w.heap.size->¬Z b->w2.heap[b]?=w.heap[b]?) (hZc:∀b,Z b->∀cs T fz,w.heap[b]? ≠ some (.cells cs T fz)) (hl:∀k g b,ρ k g=some b->ρ2 k g=some b) (hown:∀e∈H,∀b,ρ2 e.k e.g=some b->ρ e.k e.g=some b) (hX:∀b,B.X b->X2 b) (hZ2:∀b,Z2 b->Z b\/w.heap.size<=b):
  Iv B (Ad.subZ ρ2 H w2 nt X2 (λ_=>False) df) Z2 where
 os:=hos.trans (m.os.trans h.os)
 tape:=htp.trans (m.tape.trans h.tape)
 output:=hout.trans (m.output.trans h.output)
 size:=BY h.size (BY m.size hsz)
 blk:=λb hb1 hb2=>by
  have hn:¬(F.Wr b\/Z b):=λq=>by
   rcases h.wr b q with q|q
   ·omega
   ·exact hb2 q
  have hb3:=Co hb1 h.size;show w2.heap[b]?=_;rw[hold b (Co hb3 m.size) λq=>hn (.inr q),m.blk b hb3 λq=>hn (.inl q)];exact h.blk b hb1 hb2
 wr:=λb hb=>by
  rcases hb with(⟨e,he,hb⟩|hb)|hb
  ·rcases(m.hok.own e he b (hown e he b hb)).2 with q|q
   ·exact .inl (BY h.size q)
   ·exact h.wr b (.inl q)
  ·exact hb.elim
  ·rcases hZ2 b hb with q|q
   ·exact h.wr b (.inr q)
   ·exact .inl (BY h.size (BY m.size q))
 lnk:=λk g b q=>hl _ _ _ (m.lnk _ _ _ (h.lnk _ _ _ q))
 X:=hX
 shp:=λb cs T fz hc=>by
  obtain⟨cs1,L8,c1,c2⟩:=h.shp b cs T fz hc;obtain⟨cs2,fz2,c3,c4⟩:=m.shp b cs1 T L8 c1;have hlt:b<w.heap.size:=(DB.1 c3).1;exact⟨cs2,fz2,by show w2.heap[b]?=_;rw[hold b hlt λq=>hZc b q _ _ _ c3];exact c3,c4.trans c2⟩
theorem DP.cellF (h:DP C B F L)(m:Am C F ρ H w):∀b,JY F L b->∀cs T fz,w.heap[b]? ≠ some (.cells cs T fz):=λb ⟨x,hx,hb⟩ cs T fz hc=>by
 obtain⟨it,-,b2,-,b4⟩:=h.now m hx;rw[hb]at b2;cases b2;rw[hc]at b4;exact h.nc x hx _ _ _ (GV b4).symm
theorem DP.alloc (hO:DP C B F L)(hB:DG C B F)(hs:Br C F ρ s a w)(kb:Nat)(o0:Obj)(hc:∀cs T fz,o0≠.cells cs T fz):
  ∃F2 ρ2,DG C B F2/\F2.nt=F.nt/\K6 F F2/\DP C B F2 (⟨kb,s.n,o0⟩::L)/\Br C F2 ρ2 ⟨s.env,s.H,s.n+1⟩ a (w.alloc o0)/\ρ2 kb s.n=some w.heap.size/\F2.r0 kb s.n=some w.heap.size/\¬B.X w.heap.size/\Mx ρ (AN F.X ρ s.H) w F2:=by
 have m:=hs.mem
 let it:=w.heap.size
 let X1:Nat->Prop:=λb=>F.X b\/b=it
 have hown:∀e∈s.H,∀b,ρ e.k e.g=some b->b<w.heap.size:=λe he b hb=>m.lt he hb
 have hfr:ρ kb s.n=none:=hs.fresh _ _ (Ar _)
 let ρ2:=ρ.put kb s.n it
 have hput:∀k g b,ρ k g=some b->ρ2 k g=some b:=λk g b hb=>OZ hfr hb
 have hown2:∀e∈s.H,∀b,ρ2 e.k e.g=some b->ρ e.k e.g=some b:=λe he b hb=>by
  have hg:=hs.gen e he
  have:ρ2 e.k e.g=ρ e.k e.g:=by
   show(if e.k=kb/\e.g=s.n then some it else ρ e.k e.g)=_;rw[CP]
  rw[<-this];exact hb
 have hw1:(w.alloc o0).heap.size=w.heap.size+1:=World.size_alloc ..;have hold:∀b,b<w.heap.size->(w.alloc o0).heap[b]?=w.heap[b]?:=λb hb=>by rw[El,CP]
 have xx:∀X':Nat->Prop,(∀b,b<w.heap.size->X' b->F.X b)->BX ρ (AN F.X ρ s.H) w ρ2 (AN X' ρ2 s.H) (w.alloc o0):=λX' hX'=>by
  refine⟨by omega,hput,λb hb hO=>⟨?_,hold b hb⟩,λb cs T fz hc=>⟨cs,_,by rw[hold b (DB.1 hc).1];exact hc,rfl⟩⟩;rintro(h|⟨e,he,h⟩)
  ·exact hO (.inl (hX' b hb h))
  ·exact hO (.inr ⟨e,he,hown2 e he b h⟩)
 have m1:Am C F ρ2 s.H (w.alloc o0):=by
  have x1:=xx F.X λ_ _ h=>h
  refine⟨⟨λe he=>?_,m.hok.inj.imp_of_mem λ{e e'} he he' h b b' hb hb'=>h b b' (hown2 e he b hb) (hown2 e' he' b' hb'),λe he b hb=>m.hok.own e he b (hown2 e he b hb)⟩,m.os,m.tape,m.output,by have:=m.size;omega,
   λb hb hW=>by rw[hold b (Co hb m.size)];exact m.blk b hb hW,m.xlt,m.g0,m.gn,m.gw,λk g b h=>hput _ _ _ (m.lnk k g b h),I5 m.shp x1⟩
  rcases m.hok.ent e he with⟨h1,h2⟩|⟨b,cs,a1,a2,a3⟩
  ·refine .inl ⟨h1,?_⟩
   cases hb:ρ2 e.k e.g with
   |none=>rfl
   |some b=>rw[hown2 e he b hb]at h2;cases h2
  ·exact .inr ⟨b,cs,hput _ _ _ a1,by rw[hold b (m.lt he a1)];exact a2,a3.mono x1⟩
 have hitm:∀e∈s.H,∀b,ρ2 e.k e.g=some b->b≠it:=λe he b hb=>by have:=hown e he b (hown2 e he b hb);simp only[it];omega
 have hX1lt:∀b,X1 b->b<(w.alloc o0).heap.size:=λb hb=>by
  rcases hb with h|h
  ·have:=m.xlt b h;have:=m.size;omega
  ·simp only[it]at h;omega
 have hX1o:∀e∈s.H,∀b,ρ2 e.k e.g=some b->¬X1 b:=λe he b hb hb'=>by
  rcases hb' with h|h
  ·exact(m.hok.own e he b (hown2 e he b hb)).1 h
  ·exact hitm e he b hb h
 have hng:C.nG<=it:=by have:=m.gn;have:=m.size;simp only[it];omega
 have ent:∀Z:Nat->Prop,(∀b,Z b->C.nG<=b)->Am C (Ad.subZ ρ2 s.H (w.alloc o0) F.nt X1 Z F.df) ρ2 s.H (w.alloc o0):=λZ hZ=>by
  refine⟨⟨λe he=>?_,m1.hok.inj,λe he b hb=>⟨hX1o e he b hb,.inr (.inl ⟨e,he,hb⟩)⟩⟩,rfl,rfl,rfl,Ar _,λ_ _ _=>rfl,hX1lt,m1.g,BY m1.gn m1.size,λb hb=>?_,λ_ _ _ h=>h,λ_ cs _ _ h=>⟨cs,_,h,rfl⟩⟩
  ·rcases m.hok.ent e he with⟨h1,h2⟩|⟨b,cs,a1,a2,a3⟩
   ·rcases m1.hok.ent e he with h|⟨b,cs,b1,_⟩
    ·exact .inl h
    ·rw[hown2 e he b b1]at h2;cases h2
   ·exact .inr ⟨b,cs,hput _ _ _ a1,by rw[hold b (m.lt he a1)];exact a2,a3.mono (xx X1 λb hb h=>h.resolve_right λh=>by simp only[it]at h;omega)⟩
  ·rcases hb with⟨e,he,hb⟩|hb
   ·rcases(m1.hok.own e he b hb).2 with h|h
    ·exact BY m1.gn h
    ·exact m1.gw b h
   ·exact hZ b hb
 let F2:=Ad.subZ ρ2 s.H (w.alloc o0) F.nt X1 (λ_=>False) F.df
 have hr0:F2.r0 kb s.n=some it:=Es ..;have hold0:∀x∈L,F2.r0 x.k x.g=F.r0 x.k x.g:=λx hx=>by
  obtain⟨i2,a1,-⟩:=hO.at_ x hx;rw[a1];exact hput _ _ _ (m.lnk _ _ _ a1)
 have hlt0:∀x∈L,∀b,F.r0 x.k x.g=some b->b<w.heap.size:=λx hx b hb=>by
  obtain⟨i2,a1,a2,-⟩:=hO.at_ x hx;have h9:i2=b:=GV (a1.symm.trans hb)
  have:=m.xlt i2 a2;have:=m.size;omega
 have hZ2:∀b,JY F2 (⟨kb,s.n,o0⟩::L) b->b=it\/JY F L b:=λb ⟨x,hx,hb⟩=>by
  rcases A8.1 hx with rfl|hx
  ·rw[hr0]at hb;cases hb;exact .inl rfl
  ·rw[hold0 x hx]at hb;exact .inr ⟨x,hx,hb⟩
 have hbm:=hO.bm m;have hreb:Iv B F2 (JY F2 (⟨kb,s.n,o0⟩::L)):=hO.reb.now m rfl rfl rfl (by rw[hw1];omega) (λb hb _=>hold b hb) (hO.cellF m) hput hown2 (λb hb=>.inl (hO.reb.X b hb)) λb hb=>by
  rcases hZ2 b hb with h|h
  ·exact .inr (Nat.le_of_eq h.symm)
  ·exact .inl h
 have hobs:DP C B F2 (⟨kb,s.n,o0⟩::L):=by
  refine⟨λx hx=>?_,λx hx=>?_,EL.2 ⟨λx hx e=>?_,?_⟩,hreb,λ_=>hbm,hO.df⟩
  ·rcases A8.1 hx with rfl|hx
   ·exact⟨it,hr0,.inr rfl,λh=>by
     rcases h with⟨e,he,h⟩|h
     ·exact hitm e he it h rfl
     ·exact h,by show(w.alloc _).heap[it]?=_;rw[El,AI rfl],hng⟩
   ·obtain⟨i2,a1,a2,a3,a4,a5⟩:=hO.at_ x hx
    refine⟨i2,(hold0 x hx).trans a1,.inl a2,λh=>?_,?_,a5⟩
    ·rcases h with⟨e,he,h⟩|h
     ·exact hX1o e he i2 h (.inl a2)
     ·exact h
    ·show(w.alloc o0).heap[i2]?=_
     rw[hold i2 (hlt0 x hx i2 a1)];exact(m.blk i2 (m.xlt i2 a2) a3).trans a4
  ·rcases A8.1 hx with rfl|hx
   ·exact hc
   ·exact hO.nc x hx
  ·obtain⟨i2,a1,-⟩:=hO.at_ x hx
   have e':F2.r0 kb s.n=F2.r0 x.k x.g:=e;rw[hr0,hold0 x hx,a1]at e';have h9:=hlt0 x hx i2 a1;have h8:it=i2:=GV e';simp only[it]at h8;omega
  ·exact hO.dis.imp_of_mem λ{x y} hx hy h=>by rw[hold0 x hx,hold0 y hy];exact h
 have hF2:DG C B F2:=hreb.fle hbm (λb hb=>(hZ2 b hb).elim (λh=>by rw[h];exact hng) (hO.ng b)) hB.nt hO.df;have hfr2:∀d v,AW ρ (AN F.X ρ s.H) w d v->Jt F2 d v:=λd v h=>(h.mono (xx X1 λb hb h=>h.resolve_right λh=>by simp only[it]at h;omega)).anti λb hb=>by
  rcases hb with hb|hb|hb
  ·exact .inl hb
  ·exact .inr hb
  ·exact hb.elim
 have hnow:Mx ρ (AN F.X ρ s.H) w F2:=⟨hfr2,λb o h1 h2=>by
  have hlt:b<w.heap.size:=(DB.1 h1).1;refine⟨(hold b hlt).trans h1,λq=>?_⟩;rcases q with(q|q)|⟨e,he,q⟩|q
  ·exact h2 (.inl q)
  ·simp only[it]at q;omega
  ·exact h2 (.inr ⟨e,he,hown2 e he b q⟩)
  ·exact q⟩
 refine⟨F2,ρ2,hF2,rfl,hnow.to m hput,hobs,?_,Es ..,hr0,λq=>by have:=hbm.xlt _ q;have:=hO.reb.size;have:=m.size;omega,hnow⟩;exact⟨ent _ λ_ h=>h.elim,λk g hg=>by
  have hg:s.n+1<=g:=hg;show(if k=kb/\g=s.n then some it else ρ k g)=none;rw[CP];exact hs.fresh k g (by omega),λe he=>Dd (hs.gen e he),λt=>(hs.env t).mono (xx X1 λb hb h=>h.resolve_right λh=>by simp only[it]at h;omega),hs.nt,hs.dfr⟩
theorem DP.turn {x:IP}{o':Obj}{it:Nat}(hO:DP C B F (x::L))(hB:DG C B F)(hs:Br C F ρ s a w)(hc:∀cs T fz,o'≠.cells cs T fz)(hit:F.r0 x.k x.g=some it):
  ∃F2,DG C B F2/\F2.nt=F.nt/\K6 F F2/\DP C B F2 (⟨x.k,x.g,o'⟩::L)/\Br C F2 ρ ⟨s.env,s.H,s.n+1⟩ a (w.putObj it o')/\F2.r0 x.k x.g=some it/\Mx ρ (AN F.X ρ s.H) w F2:=by
 have m:=hs.mem;obtain⟨i1,j1,j2,j3,j4,j5⟩:=hO.at_ x CF;rw[hit]at j1;cases j1;have hob:w.heap[it]?=some x.o:=(m.blk it (m.xlt it j2) j3).trans j4;have hitw:it<w.heap.size:=(DB.1 hob).1;have hx0:=hO.nc x CF;have mW:=m.wrs hO.ng;have mp:=mW.putX j2 (.inr ⟨x,CF,hit⟩) hx0 hob o';have xp:=BX.putX (ρ:=ρ) (O:=AN F.X ρ s.H) (w:=w) (.inl j2) hx0 hob o';have hit':(w.putObj it o').heap[it]?=some o':=World.putObj_heap_same hitw;have hszp:=(J7 w it o').2.2.2;have hwos:=(J7 w it o').1;have hwtp:=(J7 w it o').2.1;have hwout:=(J7 w it o').2.2.1;have hoth:∀b,b≠it->(w.putObj it o').heap[b]?=w.heap[b]?:=λb hb=>World.putObj_heap_other hb
 generalize w.putObj it o'=w2 at mp xp hit' hszp hoth hwos hwtp hwout⊢
 let F2:=Ad.subZ ρ s.H w2 F.nt F.X (λ_=>False) F.df
 have ent:∀Z:Nat->Prop,(∀b,Z b->C.nG<=b)->(∀b,Z b->F.X b)->Am C (Ad.subZ ρ s.H w2 F.nt F.X Z F.df) ρ s.H w2:=λZ hZ hZX=>mp.enterZ (.refl _ _ _) rfl rfl rfl (λ_ _ _=>rfl) (λe he b hb hb'=>(mp.hok.own e he b hb).1 (hZX b hb')) (λb hb=>Co (mp.xlt b hb) mp.size) (λe he b hb=>(mp.hok.own e he b hb).1) hZ _ _
 have hr0:∀y∈x::L,F2.r0 y.k y.g=F.r0 y.k y.g:=λy hy=>by
  obtain⟨i2,a1,-⟩:=hO.at_ y hy;rw[a1];exact m.lnk _ _ _ a1
 have hZ2:JY F2 (⟨x.k,x.g,o'⟩::L)=JY F (x::L):=funext λb=>propext ⟨λ⟨y,hy,hb⟩=>by
   rcases A8.1 hy with rfl|hy
   ·exact⟨x,CF,by rw[<-hr0 x CF];exact hb⟩
   ·exact⟨y,CL _ hy,by rw[<-hr0 y (CL _ hy)];exact hb⟩,λ⟨y,hy,hb⟩=>by
   rcases A8.1 hy with rfl|hy
   ·exact⟨_,CF,by rw[hr0 y CF];exact hb⟩
   ·exact⟨y,CL _ hy,by rw[hr0 y (CL _ hy)];exact hb⟩⟩
 have hbm:=hO.bm m;have hreb:Iv B F2 (JY F2 (⟨x.k,x.g,o'⟩::L)):=by
  rw[hZ2];exact hO.reb.now m hwos hwtp hwout (by rw[hszp];exact Ar _) (λb _ hz=>hoth b λe=>hz ⟨x,CF,by rw[e];exact hit⟩) (hO.cellF m) (λ_ _ _ h=>h) (λ_ _ _ h=>h) (λb hb=>hO.reb.X b hb) λb hb=>.inl hb
 have hobs:DP C B F2 (⟨x.k,x.g,o'⟩::L):=by
  have hd:=EL.1 hO.dis;refine⟨λy hy=>?_,λy hy=>?_,EL.2 ⟨λy hy e=>?_,?_⟩,hreb,λ_=>hbm,hO.df⟩
  ·rcases A8.1 hy with rfl|hy
   ·exact⟨it,(hr0 x CF).trans hit,j2,λh=>by
     rcases h with⟨e,he,h⟩|h
     ·exact(mp.hok.own e he it h).1 j2
     ·exact h,hit',j5⟩
   ·have hy':=CL x hy
    obtain⟨i2,a1,a2,a3,a4,a5⟩:=hO.at_ y hy';refine⟨i2,(hr0 y hy').trans a1,a2,λh=>?_,?_,a5⟩
    ·rcases h with⟨e,he,h⟩|h
     ·exact(mp.hok.own e he i2 h).1 a2
     ·exact h
    ·show w2.heap[i2]?=_
     rw[hoth i2 λe=>hd.1 y hy (by rw[hit,a1,e])];exact(m.blk i2 (m.xlt i2 a2) a3).trans a4
  ·rcases A8.1 hy with rfl|hy
   ·exact hc
   ·exact hO.nc y (CL _ hy)
  ·have e':F2.r0 x.k x.g=F2.r0 y.k y.g:=e
   rw[hr0 x CF,hr0 y (CL _ hy)]at e';exact hd.1 y hy e'
  ·exact hd.2.imp_of_mem λ{y z} hy hz h=>by rw[hr0 y (CL _ hy),hr0 z (CL _ hz)];exact h
 have hF2:DG C B F2:=hreb.fle hbm (λb hb=>by rw[hZ2]at hb;exact hO.ng b hb) hB.nt hO.df;have hfr2:∀d v,AW ρ (AN F.X ρ s.H) w d v->Jt F2 d v:=λd v h=>(h.mono xp).anti λb hb=>by
  rcases hb with hb|hb|hb
  ·exact .inl hb
  ·exact .inr hb
  ·exact hb.elim
 have hnow:Mx ρ (AN F.X ρ s.H) w F2:=⟨hfr2,λb o h1 h2=>by
  refine⟨(hoth b λe=>h2 (.inl (e ▸ j2))).trans h1,λq=>?_⟩;rcases q with q|⟨e,he,q⟩|q
  ·exact h2 (.inl q)
  ·exact h2 (.inr ⟨e,he,q⟩)
  ·exact q⟩
 refine⟨F2,hF2,rfl,hnow.to m λ_ _ _ h=>h,hobs,?_,(hr0 x CF).trans hit,hnow⟩;exact⟨ent _ (λ_ h=>h.elim) (λ_ h=>h.elim),λk g hg=>hs.fresh k g (by have:s.n+1<=g:=hg;omega),λe he=>Dd (hs.gen e he),λt=>(hs.env t).mono xp,hs.nt,hs.dfr⟩
end
section
variable {C:BA} {X:EV} {B F:Ad} {ops:Array Oper} {s:St} {rd:Option Nat} {Q:Exit->Ad->St->Prop} {L:List IP}
structure Bk (C:BA)(B:Ad)(rd:Option Nat)(F:Ad)(ops:Array Oper)(l:List Nat)(s:St)(Q:Exit->Ad->St->Prop):Prop where
 out:DG C B F->(∀j∈l,j<ops.size)->ops.toList.all (DY B.nt)=true->Eo ops.toList=true->∀(ρ:Lk) (a:Act) (w:World),Br C F ρ s a w->wpOpsIn (fw rd) 0 C.P ops (F8 C B Q) l a w
theorem Bk.nil (h:Q .normal F s):Bk C B rd F ops [] s Q:=⟨λhB _ _ _ ρ _ _ hs=>⟨F,s,ρ,hB,h,hs⟩⟩
theorem GG (hX:Dg C X)(kb:Nat)(l1 l2:List Nat)(h:C7 C X kb ops l1 s True λacc s1=>acc/\Bk C B rd F ops l2 s1 Q):Bk C B rd F ops (l1++l2) s Q:=
 ⟨λhB hlt hd hnd ρ a w hs=>GN (rd:=rd) (Q:=F8 C B Q) (l2:=l2) (λe a w h=>by
  obtain⟨h0,s1,ρ1,h,hs1⟩:=h;exact⟨h0,Bk.out h hB (λ_ hj=>hlt _ (by simp[hj])) hd hnd ρ1 a w hs1⟩) (IX hnd) _ a w
   ((F5 (F:=F) (K':=λs1=>Bk C B rd F ops l2 s1 Q) hX (λacc s h=>h) h).2.run (λj hj=>hlt j (by simp[hj])) (by rw[hB.nt];exact hd) hs)⟩
theorem In {i:Nat}(hnd:Eo ops.toList=true)(h:Bk C B rd F ops (List.range ops.size) s Q):AC C B rd F (.region i ops false) s Q:=
 ⟨λhB hd ρ a w hs=>wpIn_region (h.out hB (λj hj=>List.mem_range.1 hj) hd hnd ρ a w hs)⟩
theorem Bk.step {i:Nat}{o:Oper}{l2:List Nat}(ho:Dl ops.toList i=some o)(hg:o.guard=none)
  (h:∀ρ a w,Br C F ρ s a w->DG C B F->∃v w2 F2 ρ2 d,((execOp a.eval o).run C.P w=.ok (.value v) w2\/((execOp a.eval o).run C.P w=.ok .skip w2/\v=undef))/\DG C B F2/\Br C F2 ρ2 ⟨s.env,s.H,s.n+1⟩ a w2/\AW ρ2 (AN F2.X ρ2 s.H) w2 d v/\Bk C B rd F2 ops l2 ⟨Bh s.env o.dst d,s.H,s.n+1⟩ Q):
  Bk C B rd F ops (i::l2) s Q:=by
 refine⟨λhB hlt hd hnd ρ a w hs=>?_⟩;obtain⟨v,w2,F2,ρ2,d,hr,hB2,hs2,hrep,hk⟩:=h ρ a w hs hB;have ho:=Ma ho;have hdo:DY B.nt o=true:=CW.1 hd o (IH.2 (Io ho));have hs3:=hs2.put (H':=s.H) (o:=o) (d:=d) (v:=v) hs2.mem (.refl _ _ _) hs2.fresh hs2.gen hrep (by rw[hB2.nt];exact hdo);have hk2:=hk.out hB2 (λj hj=>hlt j (CL _ hj)) hd hnd ρ2 _ w2 hs3;simp only[wpOpsIn,ho];rw[AI (by unfold Region.wanted;rw[hg])];rcases hr with hr|⟨hr,rfl⟩
 ·exact O6 hr hk2
 ·exact lh hr hk2
abbrev DU:=List (ByteArray×D)
def GT (key:ByteArray):DU->Option Nat
 | []=>none
 |p::l=>bif BJ key p.1 then some 0 else(GT key l).map (· + 1)
def It (key:ByteArray):DU->Option D
 | []=>none
 |p::l=>bif BJ key p.1 then some p.2 else It key l
def GC (key:ByteArray)(d:D):DU->DU
 | []=>[(key,d)]
 |p::l=>bif BJ key p.1 then(key,d)::l else p::GC key d l
def Id (F:Ad)(o:Obj)(l:DU):Prop:=∃es clock,o=.map es clock/\es.size=l.length/\KS es clock/\∀(i:Nat) (p:ByteArray×D),l[i]?=some p->(es.getD i default).key=.string p.1/\Jt F p.2 (es.getD i default).val
theorem Id.new (F:Ad):Id F (.map #[] 0) []:=⟨#[],0,rfl,rfl,⟨by simp,by simp⟩,by simp⟩
theorem U7 {key:ByteArray}:∀(l:DU) (es:List MapEntry) (i:Nat),es.length=l.length->(∀(j:Nat) (p:ByteArray×D),l[j]?=some p->(es.getD j default).key=.string p.1) ->
  Instr.findNow .string (.string key) es i=some ((GT key l).map λj=>(i+j,(es.getD j default).val))
 | [],[],i,_,_=>rfl
 |p::l,e::es,i,h1,h2=>by
  have h0:e.key=.string p.1:=by simpa using h2 0 p rfl
  have h3:Instr.findNow .string (.string key) (e::es) i=(match Instr.sameNow .string (.string key) e.key with
    |some true=>some (some (i,e.val))|some false=>Instr.findNow .string (.string key) es (i+1)|none=>none):=rfl
  have h4:Instr.sameNow .string (.string key) (.string p.1)=some (BJ key p.1):=by
   show some (key==p.1)=_;rw[UV]
  rw[h3,h0,h4];unfold GT;cases BJ key p.1 with
  |true=>simp
  |false=>
   dsimp only;rw[U7 l es (i+1) (by simpa using h1) λj q hq=>by simpa using h2 (j+1) q (by simpa using hq)];cases GT key l with
   |none=>rfl
   |some j=>simp;omega
 | [],_::_,_,h1,_=>by simp at h1
 |_::_,[],_,h1,_=>by simp at h1
theorem SX {key:ByteArray}:∀(l:DU),(∀j,GT key l=some j->∃k d,l[j]?=some (k,d)/\It key l=some d/\BJ key k=true)/\(GT key l=none->It key l=none)
 | []=>⟨by simp[GT],λ_=>rfl⟩
 |p::l=>by
  obtain⟨h1,h2⟩:=SX (key:=key) l;unfold GT It;cases hb:BJ key p.1 with
  |true=>exact⟨λj hj=>by simp at hj;subst hj;exact⟨p.1,p.2,rfl,rfl,hb⟩,λh=>by simp at h⟩
  |false=>
   refine⟨λj hj=>?_,λh=>?_⟩
   ·simp only[cond_false,E4]at hj
    obtain⟨q,hq,rfl⟩:=hj;obtain⟨k,d,a1,a2,a3⟩:=h1 q hq;exact⟨k,d,by simpa using a1,by simpa using a2,a3⟩
   ·simp only[cond_false,Option.map_eq_none_iff]at h
    simpa using h2 h
theorem aq (key:ByteArray)(d:D):∀l:DU,(GC key d l).length=match GT key l with|some _=>l.length|none=>l.length+1
 | []=>rfl
 |p::l=>by
  unfold GC GT;cases BJ key p.1 with
  |true=>rfl
  |false=>
   simp only[cond_false,Bu];rw[aq key d l];cases GT key l<;>rfl
theorem dh (key:ByteArray)(d:D):∀(l:DU) (i:Nat) (p:ByteArray×D),(GC key d l)[i]?=some p->match GT key l with
  |some j=>(i=j/\p=(key,d))\/(i≠j/\l[i]?=some p)
  |none=>(i=l.length/\p=(key,d))\/(i<l.length/\l[i]?=some p)
 | [],i,p,h=>by
  rcases i with _|i
  ·simp[GC]at h;subst h;exact .inl ⟨rfl,rfl⟩
  ·simp[GC]at h
 |q::l,i,p,h=>by
  unfold GC at h;unfold GT;cases hb:BJ key q.1 with
  |true=>
   rw[hb]at h;simp only[cond_true]at h⊢;rcases i with _|i
   ·simp at h;exact .inl ⟨rfl,h.symm⟩
   ·exact .inr ⟨by omega,by simpa using h⟩
  |false=>
   rw[hb]at h;simp only[cond_false]at h⊢;rcases i with _|i
   ·simp at h
    subst h;cases GT key l with
    |none=>exact .inr ⟨by simp,rfl⟩
    |some j=>exact .inr ⟨by show(0:Nat)≠j+1;omega,rfl⟩
   ·have:=dh key d l i p (by simpa using h)
    cases hi:GT key l with
    |none=>
     rw[hi]at this;rcases this with⟨a,b⟩|⟨a,b⟩
     ·exact .inl ⟨by rw[a];rfl,b⟩
     ·exact .inr ⟨by simp;omega,by simpa using b⟩
    |some j=>
     rw[hi]at this;rcases this with⟨a,b⟩|⟨a,b⟩
     ·exact .inl ⟨by rw[a],b⟩
     ·exact .inr ⟨by show i+1≠j+1;omega,by simpa using b⟩
def Kb (ok:Bool)(key:ByteArray)(l:DU)(z:Value):D:=match It key l with
 |some d=>Iu ok d true
 |none=>Iu ok (ofV z) false
theorem YE {ok:Bool}{key:ByteArray}{l:DU}{z:Value}(h:It key l=none):Kb ok key l z=Iu ok (ofV z) false:=by unfold Kb;rw[h]
theorem YF {ok:Bool}{key:ByteArray}{l:DU}{z:Value}{d:D}(h:It key l=some d):Kb ok key l z=Iu ok d true:=by unfold Kb;rw[h]
theorem Bk.makeMap {i:Nat}{o:Oper}{l2:List Nat}{T:Nat}(kb:Nat)(ho:Dl ops.toList i=some o)(hg:o.guard=none)(hop:o.op=.makeMap T none)(hO:DP C B F L)
  (h:∀F2 it,K6 F F2->DP C B F2 (⟨kb,s.n,.map #[] 0⟩::L)->F2.r0 kb s.n=some it->¬B.X it->Id F2 (.map #[] 0) []->Bk C B rd F2 ops l2 ⟨Bh s.env o.dst (.prim (.map (some it))),s.H,s.n+1⟩ Q):Bk C B rd F ops (i::l2) s Q:=by
 refine Bk.step ho hg λρ a w hs hB=>?_
 obtain⟨F2,ρ2,hB2,-,ht,hO2,hs2,-,hr0,hnX,-⟩:=hO.alloc hB hs kb (.map #[] 0) (by simp);refine⟨.map (some w.heap.size),_,F2,ρ2,.prim (.map (some w.heap.size)),.inl ?_,hB2,hs2,.prim _,h F2 _ ht hO2 hr0 hnX (Id.new _)⟩;unfold execOp;simp only[hop];rw[run_bind];rfl
theorem Bk.look {i:Nat}{o:Oper}{l2:List Nat}{t k e it:Nat}{x ix:Operand}{ok:Bool}{z:Value}{key:ByteArray}{l:DU}{xo:IP}(hX:Dg C X)(ho:Dl ops.toList i=some o)(hg:o.guard=none)(hop:o.op=.lookup t x ix ok)(hxt:X.xt t=some (.map k e z))
  (hx:BG s.env x=.prim (.map (some it))) (hi:BG s.env ix=.prim (.string key)) (hO:DP C B F L) (hm:xo∈L) (hit:F.r0 xo.k xo.g=some it) (hM:Id F xo.o l)
  (h:Bk C B rd F ops l2 ⟨Bh s.env o.dst (Kb ok key l z),s.H,s.n+1⟩ Q):Bk C B rd F ops (i::l2) s Q:=by
 refine Bk.step ho hg λρ a w hs hB=>?_
 obtain⟨a1,a2,⟨inf,a3,a4⟩,a5⟩:=PF (hX.xt _ _ hxt);obtain⟨it',b1,b2,b3,b4⟩:=hO.now hs.mem hm;rw[hit]at b2;cases b2;obtain⟨es,clock,c1,c2,-,c5⟩:=hM;rw[c1]at b4;have ex:a.eval x=.map (some it):=by
  have:=Dh hs.env x
  rw[hx]at this;generalize a.eval x=v at this;cases this;rfl
 have ei:a.eval ix=.string key:=by
  have:=Dh hs.env ix
  rw[hi]at this;generalize a.eval ix=v at this;cases this;rfl
 have hc:(Instr.checkKey es.isEmpty 10000 k (.string key)).run C.P w=.ok () w:=MapKept.run_checkKey (k:=.string key) a2 (by simp[MapKept.IsKey]) _ 9999;have hz:(zeroValue e).run C.P w=.ok z w:=Qr a3 a4 w;have hf:=U7 (key:=key) l es.toList 0 (by simpa using c2) λj p hp=>by simpa[Av]using(c5 j p hp).1
 have sat:Br C F ρ ⟨s.env,s.H,s.n+1⟩ a w:=⟨hs.mem,λk g hg=>hs.fresh k g (by have:s.n+1<=g:=hg;omega),λe he=>Dd (hs.gen e he),hs.env,hs.nt,hs.dfr⟩
 have okR:∀(d:D) (v:Value) (b:Bool),AW ρ (AN F.X ρ s.H) w d v->AW ρ (AN F.X ρ s.H) w (Iu ok d b) (if ok then .tuple #[v,.bool b]else v):=by
  intro d v b hr;cases ok with
  |false=>exact hr
  |true=>
   refine .tup rfl λi d' hd=>?_
   match i with
   | 0=>simp at hd;subst hd;exact hr
   | 1=>simp at hd;subst hd;exact .prim _
   |n+2=>simp at hd
 cases hj:GT key l with
 |none=>
  rw[hj]at hf;have hl:=(SX (key:=key) l).2 hj;have hlm:Kb ok key l z=Iu ok (ofV z) false:=by unfold Kb;rw[hl]
  rw[hlm]at h;refine⟨_,w,F,ρ,_,.inl ?_,hB,sat,okR _ z false (.ofV λi x hx=>.inl (a5 i x hx)),h⟩;unfold execOp;simp only[hop];rw[run_bind,ex,ei]
  have:(Instr.lookup t (.map (some it)) (.string key) ok).run C.P w=.ok (if ok then .tuple #[z,.bool false]else z) w:=by
   simp[Instr.lookup,C6 a1,MapKept.run_getObj_map b4,hc,MapKept.run_findKey a2 hf,hz,Result.andThen]
  rw[this];rfl
 |some j=>
  rw[hj]at hf;obtain⟨k',d',g1,g2,-⟩:=(SX (key:=key) l).1 j hj;have hlm:Kb ok key l z=Iu ok d' true:=by unfold Kb;rw[g2]
  rw[hlm]at h;have hv:=(c5 j _ g1).2.now hs.mem;have hval:(es.toList.getD j default).val=(es.getD j default).val:=by simp[Av,EK]
  simp only[J3]at hf;rw[hval]at hf;refine⟨_,w,F,ρ,_,.inl ?_,hB,sat,okR _ _ true hv,h⟩;unfold execOp;simp only[hop];rw[run_bind,ex,ei]
  have:(Instr.lookup t (.map (some it)) (.string key) ok).run C.P w=.ok (if ok then .tuple #[(es.getD j default).val,.bool true]else(es.getD j default).val) w:=by
   simp[Instr.lookup,C6 a1,MapKept.run_getObj_map b4,hc,MapKept.run_findKey a2 hf,Result.andThen]
  rw[this];rfl
theorem MJ (a:ByteArray):BJ a a=true:=by unfold BJ;exact beq_self_eq_true _
theorem lZ {a b:ByteArray}(h:BJ a b=true):BJ b a=true:=by
 unfold BJ at h⊢;rw[ED]at h⊢;exact h.symm
theorem Bk.put {i:Nat}{o:Oper}{l2:List Nat}{t k e it:Nat}{x kx vx:Operand}{z:Value}{key:ByteArray}{l:DU}{xo:IP}(hX:Dg C X)(ho:Dl ops.toList i=some o)(hg:o.guard=none)(hop:o.op=.mapUpdate t x kx vx)(hxt:X.xt t=some (.map k e z))
  (hx:BG s.env x=.prim (.map (some it))) (hi:BG s.env kx=.prim (.string key)) (hO:DP C B F (xo::L)) (hit:F.r0 xo.k xo.g=some it) (hM:Id F xo.o l)
  (h:∀F2 o',K6 F F2->DP C B F2 (⟨xo.k,xo.g,o'⟩::L)->F2.r0 xo.k xo.g=some it->Id F2 o' (GC key (BG s.env vx) l)->Bk C B rd F2 ops l2 ⟨Bh s.env o.dst .any,s.H,s.n+1⟩ Q):Bk C B rd F ops (i::l2) s Q:=by
 refine Bk.step ho hg λρ a w hs hB=>?_
 obtain⟨a1,a2,-,-⟩:=PF (hX.xt _ _ hxt);obtain⟨it',b1,b2,b3,b4⟩:=hO.now hs.mem CF;rw[hit]at b2;cases b2;obtain⟨es,clock,c1,c2,c3,c5⟩:=hM;rw[c1]at b4;have ex:a.eval x=.map (some it):=by
  have:=Dh hs.env x
  rw[hx]at this;generalize a.eval x=v at this;cases this;rfl
 have ei:a.eval kx=.string key:=by
  have:=Dh hs.env kx
  rw[hi]at this;generalize a.eval kx=v at this;cases this;rfl
 have hc:(Instr.checkKey false 10000 k (.string key)).run C.P w=.ok () w:=MapKept.run_checkKey (k:=.string key) a2 (by simp[MapKept.IsKey]) _ 9999;have hf:=U7 (key:=key) l es.toList 0 (by simpa using c2) λj p hp=>by simpa[Av]using(c5 j p hp).1
 have hval:=Dh hs.env vx;have hpl:=aq key (BG s.env vx) l;have hpa:=dh key (BG s.env vx) l;generalize BG s.env vx=d at hval h hpl hpa;generalize hv:a.eval vx=v at hval;cases hj:GT key l with
 |none=>
  rw[hj]at hf hpl;simp only[hj]at hpa;dsimp only at hpl;obtain⟨F2,hB2,-,ht,hO2,hs2,hr0,hfr⟩:=hO.turn (o':=.map (es.push { key:=.string key,val:=v,born:=clock }) (clock+1)) hB hs (by simp) hit;refine⟨undef,_,F2,ρ,.any,.inr ⟨?_,rfl⟩,hB2,hs2,.any _,h F2 _ ht hO2 hr0 ⟨_,_,rfl,by simp[c2,hpl],c3.push _ _,λi p hp=>?_⟩⟩
  ·unfold execOp
   simp only[hop];rw[run_bind,ex,ei,hv]
   have:(Instr.mapUpdate t (.map (some it)) (.string key) v).run C.P w=.ok () (w.putObj it (.map (es.push { key:=.string key,val:=v,born:=clock }) (clock+1))):=by
    simp[Instr.mapUpdate,C6 a1,MapKept.run_getObj_map b4,hc,MapKept.run_findKey a2 hf,MapKept.run_setObj_map _ b4,Result.andThen,World.putObj]
   rw[this];rfl
  ·rcases hpa i p hp with⟨q1,q2⟩|⟨q1,q2⟩
   ·subst q2
    rw[Av,Qa,DQ];exact⟨rfl,hfr.rep _ _ hval⟩
   ·rw[Av,Qa,CP,<-Av]
    exact⟨(c5 i p q2).1,ht.rep _ _ (c5 i p q2).2⟩
 |some j=>
  rw[hj]at hf hpl;simp only[hj]at hpa;dsimp only at hpl;obtain⟨k',d',g1,-,g3⟩:=(SX (key:=key) l).1 j hj;have hjl:j<es.size:=by rw[c2];exact(BS.1 g1).1
  obtain⟨ej,hej⟩:∃ej,es[j]?=some ej:=⟨es[j],B3 hjl⟩
  have hkj:ej.key=.string k':=by
   have:=(c5 j _ g1).1
   rw[Av,hej]at this;exact this
  obtain⟨F2,hB2,-,ht,hO2,hs2,hr0,hfr⟩:=hO.turn (o':=.map (es.modify j λe=>{ e with key:=.string key,val:=v }) clock) hB hs (by simp) hit;have hmod:∀i:Nat,(es.modify j λe=>{ e with key:=.string key,val:=v })[i]?=if j=i then(es[i]?).map λe=>{ e with key:=.string key,val:=v }else es[i]?:=λi=>by
   rw[Array.getElem?_modify]
  refine⟨undef,_,F2,ρ,.any,.inr ⟨?_,rfl⟩,hB2,hs2,.any _,h F2 _ ht hO2 hr0 ⟨_,_,rfl,by simp[c2,hpl],⟨λi e he=>?_,λi i' e e' he he' hbb=>?_⟩,λi p hp=>?_⟩⟩
  ·unfold execOp
   simp only[hop];rw[run_bind,ex,ei,hv];have hks:(Instr.keyThatStays (((es[j]?).map (·.key)).getD (.string key)) (.string key)).run C.P w=.ok (.string key) w:=by
    rw[hej];show(Instr.keyThatStays ej.key (.string key)).run C.P w=_;rw[hkj];unfold Instr.keyThatStays
    have:Instr.sameBits 10000 (.string k') (.string key)=true:=by
     show(k'==key)=true;rw[UV];exact lZ g3
    rw[AI this];rfl
   have hks2:(Instr.keyThatStays ej.key (.string key)).run C.P w=.ok (.string key) w:=by
    rw[hej]at hks;exact hks
   have:(Instr.mapUpdate t (.map (some it)) (.string key) v).run C.P w=.ok () (w.putObj it (.map (es.modify j λe=>{ e with key:=.string key,val:=v }) clock)):=by
    simp[Instr.mapUpdate,C6 a1,MapKept.run_getObj_map b4,hc,MapKept.run_findKey a2 hf,MapKept.run_setObj_map _ b4,Result.andThen,World.putObj,hej,hks2]
   rw[this];rfl
  ·rw[hmod]at he
   split at he
   ·rename_i q;subst q
    rw[hej]at he;cases he;exact c3.1 j ej hej
   ·exact c3.1 i e he
  ·rw[hmod]at he he'
   have key:∀(i:Nat) (e:MapEntry),(if j=i then(es[i]?).map λe=>{ e with key:=.string key,val:=v }else es[i]?)=some e->∃e0,es[i]?=some e0/\e0.born=e.born:=λi e he=>by
    split at he
    ·rename_i q;subst q
     rw[hej]at he;cases he;exact⟨ej,hej,rfl⟩
    ·exact⟨e,he,rfl⟩
   obtain⟨e0,q1,q2⟩:=key i e he;obtain⟨e1,q3,q4⟩:=key i' e' he';exact c3.2 i i' e0 e1 q1 q3 (by rw[q2,q4,hbb])
  ·rcases hpa i p hp with⟨q1,q2⟩|⟨q1,q2⟩
   ·subst q1 q2
    rw[Av,hmod,AI rfl,hej];exact⟨rfl,hfr.rep _ _ hval⟩
   ·rw[Av,hmod,AH (Ne.symm q1),<-Av]
    exact⟨(c5 i p q2).1,ht.rep _ _ (c5 i p q2).2⟩
end
end Go.Ide
