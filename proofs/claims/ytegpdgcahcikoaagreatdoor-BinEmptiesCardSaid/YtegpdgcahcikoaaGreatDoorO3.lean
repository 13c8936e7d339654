/- The layer of own lemmas and contracts, part 3. -/
import Derived.Test.YtegpdgcahcikoaaGreatDoorO2
import Derived.RangeFuncIn
import Derived.RangeFuncRecord
import Derived.ChangeArms
import Derived.ChangeSlices
import Derived.OpenShut
import Derived.Maps.RangeRun
set_option linter.unusedVariables false
set_option linter.unusedSimpArgs false
namespace Go.Ide
open Go.RowKit
def Jd (b:Bool)(y n:Prop):Prop:=match b with
 |true=>y
 |false=>n
theorem By {b:Bool}{y n:Prop}(h1:b=true->y)(h2:b=false->n):Jd b y n:=by
 cases b
 ·exact h2 rfl
 ·exact h1 rfl
theorem Fz.loose {d d':D}(h:Fz [] [] d d'):∀ {ρ:Lk} {O:Nat->Prop} {w:World} {v:Value},AV ρ O w d v->AV ρ O w d' v:=by
 induction h with
 |refl=>exact λh=>h
 |any=>exact λ_=>.any _
 |nil sz=>intro ρ O w v h;cases h;exact .nil _
 |nn nn sz es=>
  intro ρ O w v h;cases h with
  |nil=>exact .nil _
  |emp a=>exact .emp a
  |sl f hl hc hO hb hz hcell ho h=>exact .sl f hl hc hO hb hz hcell ho h
 |agg hl h ih=>
  intro ρ O w v hr;cases hr with
  |agg hn ho hh=>
   refine .agg (by omega) ho λi d' hd'=>?_
   have hi:=(List.getElem?_eq_some_iff.1 hd').1;exact ih i _ d' (A9 (by omega)) hd' (hh i _ (A9 (by omega)))
 |tup hl h ih=>
  intro ρ O w v hr;cases hr with
  |tup hn hh=>
   refine .tup (by omega) λi d' hd'=>?_
   have hi:=(List.getElem?_eq_some_iff.1 hd').1;exact ih i _ d' (A9 (by omega)) hd' (hh i _ (A9 (by omega)))
 |osl he _ _ _ _ _ _ _=>cases he
section
variable {C:BC}
inductive BZ (C:BC)(f:Nat)(ds:List D)(k:D->Prop):Prop
 |mk (ds':List D) (d:D) (hv:Ed [] [] ds ds') (hc:AK C f ds' d) (hp:Aj ds') (hk:k d)
inductive BE (C:BC)(f:Nat)(ds:List D)(H:Hp)(n:Nat)(k:D->Hp->Nat->Prop):Prop
 |pure (ds':List D) (d:D) (hv:Ed [] [] ds ds') (hc:AK C f ds' d) (hp:Aj ds') (hk:k d H (n+1))
 |prop (ds':List D) (Φ:D->Prop) (hv:Ed [] [] ds ds') (hc:Ak C f ds' Φ) (hp:Aj ds') (hk:∀d,Φ d->k d H (n+1))
 |own (Φ:D->Hp->Nat->Prop) (hc:Cd C f ds H n Φ) (hk:∀d H' n',Φ d H' n'->k d H' n')
 |lend (Hf:Hp) (ds':List D) (d:D) (hH:Cm H Hf H Hf) (hv:Ed H Hf ds ds') (hc:AK C f ds' d) (hp:Aj ds') (hflat:Jf d) (hk:k d H (n+1))
theorem Xc {ds ds':List D}(h:Ed [] [] ds ds'){ρ:Lk}{O:Nat->Prop}{w:World}{vs:Array Value}(hr:∀(i:Nat) (d:D),ds[i]?=some d->AV ρ O w d (vs.getD i undef)):
  ∀(i:Nat) (d:D),ds'[i]?=some d->AV ρ O w d (vs.getD i undef):=λi d hd=>by
 obtain⟨l1,l2⟩:=h.spec;have hi:=(List.getElem?_eq_some_iff.1 hd).1;have h0:ds[i]?=some ds[i]:=A9 (by omega);exact(l2 i _ d h0 hd).loose (hr i _ h0)
theorem zh {F:Aa}{ops:Array Oper}{H:Hp}{g:Nat}{env:Ar}{o:Oper}{f:Nat}{first captured ds ds':List D}{fop:Operand}{args:Array Operand}{tys:Array Nat}{d:D}(hw:CD ops env o=some true)(ho:o.op=.call ⟨.value fop,args,tys⟩)
  (hf:BI env fop=.clo (.func f) first captured) (hds:first++args.toList.map (BI env)++captured=ds) (hv:Ed [] [] ds ds') (hc:AK C f ds' d) (hp:Aj ds'):CP C F ops H g env o d none:=by
 refine⟨by simp,λHe ρ a w m hsub fr hne hr=>.inr ⟨IB hr hw,.inr ?_⟩⟩;obtain⟨g',h1,h2⟩:=Iq hr;have hfop:fop∈o.op.operands:=by rw[ho];simp[Op.operands,Call.operands]
 have harg:∀x∈args.toList,BI env x=g' x:=λx hx=>h1 x (by rw[ho];simp[Op.operands,Call.operands];right;simpa using hx)
 rw[h1 fop hfop]at hf;rw[ML harg]at hds;obtain⟨vs,q1,q2,q3⟩:=Sj (g:=g') ho hf hc.1 h2;rw[hds]at q2 q3;have q4:=Xc hv q3;refine⟨f,vs,q1,(hc.2 (AN F.X ρ He) w vs m.g (BX m.gn m.size) (λb hb=>m.own_lt hb) (by rw[q2];exact hv.spec.1) λi d hd=>hp.out d (Aw hd) _ _ _ _ _ (q4 i d hd)).mono ?_⟩;rintro e w' ⟨v,d',rfl,hb,rfl,hrep⟩;have x:BW ρ (AN F.X ρ He) w ρ (AN F.X ρ He) w':=⟨hb.size,λ_ _ _ h=>h,λb hb' hO=>⟨hO,hb.block b hb'⟩,λb cs T fz hh=>⟨cs,_,by
  rw[hb.block b (Array.getElem?_eq_some_iff.1 hh).1];exact hh,rfl⟩⟩
 exact⟨v,rfl,ρ,m.same x hb.os hb.tape hb.output hb.block,x,λ_ _ _=>rfl,hrep.nol⟩
def Nq (X:EV)(g:Operand->D)(op:Op)(acc:Prop)(k:Prop->D->Option Ay->Prop):Prop:=match Gf X.tt g op with
 |some (d,p)=>k (p/\acc) d none
 |none=>False
def K6 (X:EV)(g:Operand->D)(op:Op)(acc:Prop)(k:Prop->D->Option Ay->Prop):Prop:=match F8 X.tt X.xt g op with
 |some (d,p)=>k (p/\acc) d none
 |none=>False
def Rz (X:EV)(g:Operand->D)(op:Op)(acc:Prop)(k:Prop->D->Option Ay->Prop):Prop:=match Gf X.tt g op with
 |some (d,p)=>k (p/\acc) d none
 |none=>K6 X g op acc k
def SM (X:EV)(g:Operand->D)(t:Nat)(x ix:Operand)(acc:Prop)(k:Prop->D->Option Ay->Prop):Prop:=match X.tt t with
 |some i=>match i.ti with
  | .slice _ esz _ _=>match g ix with
   | .prim (.int _ j)=>match g x with
    | .sl _ sz es=>acc/\(sz=esz/\0<=j)/\∃d,es[j.toNat]?=some d/\k True (.pptr d) none
    |_=>False
   |_=>False
  |_=>False
 |none=>False
def EH (C:BC)(X:EV)(kb:Nat)(g:Operand->D)(H:Hp)(n:Nat)(op:Op)(acc:Prop)(k:Prop->D->Option Ay->Prop):Prop:=match op with
 | .call ⟨.value fop,args,_⟩=>match g fop with
  | .clo (.func f) first captured=>match X.nat f (first++args.toList.map g++captured)with
   |some d=>k acc d none
   |none=>acc/\BZ C f (first++args.toList.map g++captured) λd=>k True d none
  |_=>False
 | .call ⟨.builtin .append,_,_⟩=>match EG X.tt [] n kb g op with
  |some (d,[e],p)=>k (p/\acc) d (some e)
  |_=>False
 | .load _ _ | .alloc _ | .box _ _ | .buildSlice _ _ _=>match EO X.tt H n kb g op with
  |some (d,ne,p)=>k (p/\acc) d ne
  |none=>False
 | .indexAddr t x ix=>match Gf X.tt g op with
  |some (d,p)=>k (p/\acc) d none
  |none=>SM X g t x ix acc k
 | .makeInterface _ _ | .lookup _ _ _ _=>K6 X g op acc k
 | .binOp _ _ _ _ _=>Rz X g op acc k
 |_=>Nq X g op acc k
structure DK (C:BC)(X:EV):Prop where
 tt:Cr C.P X.tt
 xt:L4 C.P X.xt
 mixed:C.P.follows .mixedOrders=true
 mt:∀t name f,X.mt t name=some f->∀v w,(method (C.P.types.size+Made.depth) t v name).run C.P w=.ok (f,v) w
 nat:∀f ds d,X.nat f ds=some d->KP C f ds d
theorem FM.w {X:EV}(h:FM C X):DK C X:=⟨h.tt,h.xt,h.mixed,h.mt,h.nat⟩
variable {F:Aa} {X:EV} {ops:Array Oper}
theorem U5 (hX:DK C X){kb:Nat}{H:Hp}{n:Nat}{env:Ar}{o:Oper}{acc:Prop}{k:Prop->D->Option Ay->Prop}(hw:CD ops env o=some true)(hk:∀acc d ne,k acc d ne->acc)
  (h:EH C X kb (BI env) H n o.op acc k):acc/\∃acc' d ne,CP C F ops H n env o d ne/\k acc' d ne:=by
 have pe:Nq X (BI env) o.op acc k->acc/\∃acc' d ne,CP C F ops H n env o d ne/\k acc' d ne:=λh=>by
  unfold Nq at h;split at h
  ·rename_i d p he
   have:=hk _ _ _ h
   exact⟨this.2,_,_,_,CP.p hX.tt hw he this.1,h⟩
  ·exact h.elim
 have qe:K6 X (BI env) o.op acc k->acc/\∃acc' d ne,CP C F ops H n env o d ne/\k acc' d ne:=λh=>by
  unfold K6 at h;split at h
  ·rename_i d p he
   have:=hk _ _ _ h
   exact⟨this.2,_,_,_,CP.q hX.tt hX.xt hw he this.1,h⟩
  ·exact h.elim
 have le:(match EO X.tt H n kb (BI env) o.op with
   |some (d,ne,p)=>k (p/\acc) d ne
   |none=>False)->acc/\∃acc' d ne,CP C F ops H n env o d ne/\k acc' d ne:=λh=>by
  split at h
  ·rename_i d ne p he
   have:=hk _ _ _ h
   exact⟨this.2,_,_,_,CP.l' kb hX.tt hw he this.1,h⟩
  ·exact h.elim
 unfold EH at h;split at h
 ·rename_i fop args tys ho
  split at h
  ·rename_i f first captured hf
   split at h
   ·rename_i d hn
    exact⟨hk _ _ _ h,_,_,_,CP.nat hw ho hf rfl (hX.nat _ _ _ hn),h⟩
   ·obtain⟨h1,⟨ds',d,hv,hc,hp,h2⟩⟩:=h
    exact⟨h1,_,_,_,zh hw ho hf rfl hv hc hp,h2⟩
  ·exact h.elim
 ·split at h
  ·rename_i d e p he
   have:=hk _ _ _ h
   exact⟨this.2,_,_,_,gJ kb hX.tt hw he this.1,h⟩
  ·exact h.elim
 ·exact le h
 ·exact le h
 ·exact le h
 ·exact le h
 ·rename_i t x ix ho
  split at h
  ·rename_i d p he
   have:=hk _ _ _ h
   exact⟨this.2,_,_,_,CP.p hX.tt hw he this.1,h⟩
  ·unfold SM at h
   split at h<;>first|exact h.elim|skip
   rename_i i h1;split at h<;>first|exact h.elim|skip
   rename_i e esz eby ez h2;split at h<;>first|exact h.elim|skip
   rename_i kk j h3;split at h<;>first|exact h.elim|skip
   rename_i nn sz es h4;obtain⟨ha,⟨rfl,hj⟩,d,hd,hk'⟩:=h;exact⟨ha,_,_,_,CP.idx hX.tt hw ho h1 h2 h3 h4 hj hd,hk'⟩
 ·exact qe h
 ·exact qe h
 ·unfold Rz at h
  split at h
  ·rename_i d p he
   have:=hk _ _ _ h
   exact⟨this.2,_,_,_,CP.p hX.tt hw he this.1,h⟩
  ·exact qe h
 ·exact pe h
def DQ:List Oper->Nat->Option Oper
 | [],_=>none
 |o::_,0=>some o
 |_::l,i+1=>DQ l i
theorem ZE:∀(l:List Oper) (i:Nat),DQ l i=l[i]?
 | [],_=>by simp[DQ]
 |o::l,0=>by simp[DQ]
 |o::l,i+1=>by simp[DQ,ZE l i]
def FN:List Oper->Nat
 | []=>0
 |_::l=>FN l+1
theorem Q3:∀l:List Oper,FN l=l.length
 | []=>rfl
 |_::l=>by simp[FN,Q3 l]
theorem LS {i:Nat}{o:Oper}(h:DQ ops.toList i=some o):ops[i]?=some o:=by
 rw[ZE]at h;simpa using h
def EL (C:BC)(X:EV)(kb:Nat)(ops:Array Oper)(H:Hp)(n:Nat):List Nat->Ar->Hp->Prop->(Prop->Ar->Hp->Prop)->Prop
 | [],env,N,acc,K=>K acc env N
 |i::l,env,N,acc,K=>match DQ ops.toList i with
  |some o=>match o.guard with
   |none=>EH C X (kb+i) (BI env) H (n+i) o.op acc λacc d ne=>EL C X kb ops H n l (Bb env o.dst d) (Cz ne N) acc K
   |some _=>match CD ops env o with
    |some b=>acc/\Jd b (EH C X (kb+i) (BI env) H (n+i) o.op True λacc d ne=>EL C X kb ops H n l (Bb env o.dst d) (Cz ne N) acc K)
      (EL C X kb ops H n l (Bb env o.dst (.prim (.tuple #[]))) N True K)
    |none=>False
  |none=>False
theorem N9 {kb:Nat}{H:Hp}{n:Nat}(hX:DK C X){K:Prop->Ar->Hp->Prop}(hK:∀acc env N,K acc env N->acc):∀ {l:List Nat} {env:Ar} {N:Hp} {acc:Prop},EL C X kb ops H n l env N acc K ->
  acc/\∃acc' env' N',Ii C F ops H n l env N env' N'/\K acc' env' N'
 | [],env,N,acc,h=>⟨hK _ _ _ h,_,_,_,.nil _ _,h⟩
 |i::l,env,N,acc,h=>by
  simp only[EL]at h;split at h<;>first|exact h.elim|skip
  rename_i o ho;have ho:=LS ho;have step:∀acc,CD ops env o=some true->(EH C X (kb+i) (BI env) H (n+i) o.op acc λacc d ne=>EL C X kb ops H n l (Bb env o.dst d) (Cz ne N) acc K)->acc/\∃acc' env' N',Ii C F ops H n (i::l) env N env' N'/\K acc' env' N':=λacc hw h=>by
   obtain⟨h1,acc1,d,ne,h2,h3⟩:=U5 (F:=F) hX hw (λacc d ne h=>(N9 hX hK h).1) h;obtain⟨_,acc2,env2,N2,h4,h5⟩:=N9 hX hK h3;exact⟨h1,_,_,_,.cons ho h2 h4,h5⟩
  split at h
  ·rename_i hg
   exact step _ (by unfold CD;rw[hg]) h
  ·split at h<;>first|exact h.elim|skip
   rename_i b hb;obtain⟨h0,h⟩:=h;cases b with
   |true=>
    obtain⟨_,h1⟩:=step _ hb h;exact⟨h0,h1⟩
   |false=>
    obtain⟨_,acc2,env2,N2,h4,h5⟩:=N9 hX hK h;exact⟨h0,_,_,_,.cons ho (CP.skip hb) h4,h5⟩
theorem BE.ok {F:Aa}{ops:Array Oper}{s:St}{o:Oper}{os:List Oper}{K:St->Prop}{f:Nat}{ds:List D}{k:D->Hp->Nat->Prop}(hw:CD ops s.env o=some true)
  (hrun:JJ C.P f->∀(ρ:Lk) (a:Act) (w:World),Bl C F ρ s a w->∃vs,(execOp a.eval o).run C.P w=.ok (.enter f vs) w/\vs.size=ds.length/\∀(i:Nat) (d:D),ds[i]?=some d->AV ρ (AN F.X ρ s.H) w d (vs.getD i undef))
  (h:BE C f ds s.H s.n k) (hk:∀d H n,k d H n->BJ C F ops os ⟨Bb s.env o.dst d,H,n⟩ K):BJ C F ops (o::os) s K:=by
 have prop:∀(ds':List D) (Φ:D->Prop),Ed [] [] ds ds'->Ak C f ds' Φ->Aj ds'->(∀d,Φ d->k d s.H (s.n+1))->BJ C F ops (o::os) s K:=λds' Φ hv hc hp hk'=>by
  refine gF (f:=f) hw (λρ a w hs=>?_) λd hd=>hk _ _ _ (hk' d hd)
  obtain⟨vs,h1,h2,h3⟩:=hrun hc.1 ρ a w hs;have q4:=Xc hv h3;refine⟨vs,h1,(hc.2 (AN F.X ρ s.H) w vs hs.mem.g (BX hs.mem.gn hs.mem.size) (λb hb=>hs.mem.own_lt hb) (by rw[h2];exact hv.spec.1) λi d hd=>hp.out d (Aw hd) _ _ _ _ _ (q4 i d hd)).mono ?_⟩;rintro e w' ⟨v,d,a1,a2,a3,a4⟩;exact⟨v,d,a1,a2,a3,a4.nol⟩
 cases h with
 |pure ds' d hv hc hp hk'=>exact prop ds' _ hv hc hp λd' hd=>by subst hd;exact hk'
 |prop ds' Φ hv hc hp hk'=>exact prop ds' Φ hv hc hp hk'
 |own Φ hc hk'=>
  intro hd l hl ρ a w hs;cases l with
  |nil=>simp at hl
  |cons i l=>
   simp only[Cu,FB]at hl;simp only[Fl,BR]at hd;obtain⟨vs,h1,h2,h3⟩:=hrun hc.1 ρ a w hs;simp only[wpOps,hl.1];rw[AG (LX hs.env hw)];refine .inl ?_;unfold Oper.wp;rw[h1];refine(hc.2 F ρ w vs hs.mem hs.fresh hs.gen h2 h3).mono ?_;rintro e w' ⟨v,d,H',n',ρ',rfl,hΦ,m,x,fr,g,r⟩;exact hk d H' n' (hk' d H' n' hΦ) hd.2 l hl.2 ρ' (a.put o.dst v) w' (hs.put m x fr g r hd.1)
 |lend Hf ds' d hH hv hc hp hflat hk'=>
  refine gF (f:=f) (Φ:=λd'=>d'=d) hw (λρ a w hs=>?_) λd' hd=>by subst hd;exact hk _ _ _ hk'
  obtain⟨vs,h1,h2,h3⟩:=hrun hc.1 ρ a w hs;obtain⟨m,hO,hN⟩:=hH.mem hs.mem;obtain⟨l1,l2⟩:=hv.spec;refine⟨vs,h1,(hc.2 (AN F.X ρ Hf) w vs hs.mem.g (BX hs.mem.gn hs.mem.size) (λb hb=>m.own_lt hb) (by omega) λi d hd=>?_).mono ?_⟩
  ·have hi:i<ds'.length:=(List.getElem?_eq_some_iff.1 hd).1
   have hd0:ds[i]?=some ds[i]:=A9 (by omega);exact hp.out d (Aw hd) _ _ _ _ _ ((l2 i _ d hd0 hd).rep hs.mem hO hN (h3 i _ hd0))
  ·rintro e w' ⟨v,d',a1,a2,a3,a4⟩
   subst a3;exact⟨v,d',a1,a2,rfl,hflat _ _ _ _ _ _ _ a4⟩
def FY (C:BC)(X:EV)(kb:Nat)(g:Operand->D)(H:Hp)(n:Nat)(op:Op)(acc:Prop)(k:Prop->D->Hp->Nat->Prop):Prop:=match op with
 | .call ⟨.value fop,args,_⟩=>match g fop with
  | .clo (.func f) first captured=>match X.nat f (first++args.toList.map g++captured)with
   |some d=>k acc d H (n+1)
   |none=>acc/\BE C f (first++args.toList.map g++captured) H n λd H' n'=>k True d H' n'
  |_=>False
 | .call ⟨.invoke r name,args,_⟩=>match g r with
  | .ifc t d0=>match X.mt t name with
   |some f=>acc/\BE C f (d0::args.toList.map g) H n λd H' n'=>k True d H' n'
   |none=>False
  |_=>False
 | .call ⟨.builtin .append,_,_⟩=>match EG X.tt H n kb g op with
  |some (d,H',p)=>k (p/\acc) d H' (n+1)
  |none=>match NK X.tt H n kb g op with
   |some (d,H',p)=>k (p/\acc) d H' (n+1)
   |none=>False
 | .makeSlice _ _ _=>match Ju X.tt n kb g op with
  |some (d,e,p)=>k (p/\acc) d (e::H) (n+1)
  |none=>False
 | .store _ _ _=>match FD X.tt H g op with
  |some (j,e,p)=>k (p/\acc) (.prim (.tuple #[])) (Hp.set H j e) (n+1)
  |none=>False
 | .load _ _ | .alloc _ | .box _ _ | .buildSlice _ _ _=>match EO X.tt H n kb g op with
  |some (d,ne,p)=>k (p/\acc) d (Cz ne H) (n+1)
  |none=>False
 | .indexAddr t x ix=>match Gf X.tt g op with
  |some (d,p)=>k (p/\acc) d H (n+1)
  |none=>SM X g t x ix acc λacc d _=>k acc d H (n+1)
 | .makeInterface _ _ | .lookup _ _ _ _=>K6 X g op acc λacc d _=>k acc d H (n+1)
 | .binOp _ _ _ _ _=>Rz X g op acc λacc d _=>k acc d H (n+1)
 |_=>Nq X g op acc λacc d _=>k acc d H (n+1)
theorem dF (hX:DK C X){kb:Nat}{s:St}{o:Oper}{os:List Oper}{acc:Prop}{k:Prop->D->Hp->Nat->Prop}{K:St->Prop}(hw:CD ops s.env o=some true)(hk:∀acc d H n,k acc d H n->acc/\BJ C F ops os ⟨Bb s.env o.dst d,H,n⟩ K)
  (h:FY C X kb (BI s.env) s.H s.n o.op acc k):acc/\BJ C F ops (o::os) s K:=by
 have pe:Nq X (BI s.env) o.op acc (λacc d _=>k acc d s.H (s.n+1))->acc/\BJ C F ops (o::os) s K:=λh=>by
  unfold Nq at h;split at h
  ·rename_i d p he
   obtain⟨⟨hp,ha⟩,h2⟩:=hk _ _ _ _ h;exact⟨ha,BJ.p hX.tt hw he hp h2⟩
  ·exact h.elim
 have qe:K6 X (BI s.env) o.op acc (λacc d _=>k acc d s.H (s.n+1))->acc/\BJ C F ops (o::os) s K:=λh=>by
  unfold K6 at h;split at h
  ·rename_i d p he
   obtain⟨⟨hp,ha⟩,h2⟩:=hk _ _ _ _ h;exact⟨ha,BJ.q hX.tt hX.xt hw he hp h2⟩
  ·exact h.elim
 have le:(match EO X.tt s.H s.n kb (BI s.env) o.op with
   |some (d,ne,p)=>k (p/\acc) d (Cz ne s.H) (s.n+1)
   |none=>False)->acc/\BJ C F ops (o::os) s K:=λh=>by
  split at h
  ·rename_i d ne p he
   obtain⟨⟨hp,ha⟩,h2⟩:=hk _ _ _ _ h;exact⟨ha,BJ.l' kb hX.tt hw he hp h2⟩
  ·exact h.elim
 unfold FY at h;split at h
 ·rename_i fop args tys ho
  split at h
  ·rename_i f first captured hf
   split at h
   ·rename_i d hn
    obtain⟨ha,h2⟩:=hk _ _ _ _ h;exact⟨ha,BJ.nat hw ho hf rfl (hX.nat _ _ _ hn) h2⟩
   ·obtain⟨h1,h⟩:=h
    refine⟨h1,?_⟩;exact BE.ok hw (λhc ρ a w hs=>V6 ho hf hc hs) h λd H n hk'=>(hk _ _ _ _ hk').2
  ·exact h.elim
 ·rename_i r name args tys ho
  split at h<;>first|exact h.elim|skip
  rename_i t d0 hr;split at h<;>first|exact h.elim|skip
  rename_i f hf;obtain⟨h1,h⟩:=h;refine⟨h1,?_⟩;exact BE.ok hw (λhc ρ a w hs=>WL ho hr (hX.mt _ _ _ hf) hc hs) h λd H n hk'=>(hk _ _ _ _ hk').2
 ·split at h
  ·rename_i d H' p he
   obtain⟨⟨hp,ha⟩,h2⟩:=hk _ _ _ _ h;exact⟨ha,gE kb hX.tt hw he hp h2⟩
  ·split at h<;>first|exact h.elim|skip
   rename_i d H' p he;obtain⟨⟨hp,ha⟩,h2⟩:=hk _ _ _ _ h;exact⟨ha,zU kb hX.tt hw he hp h2⟩
 ·split at h<;>first|exact h.elim|skip
  rename_i d e p he;obtain⟨⟨hp,ha⟩,h2⟩:=hk _ _ _ _ h;exact⟨ha,gG kb hX.tt hw he hp h2⟩
 ·split at h<;>first|exact h.elim|skip
  rename_i j e p he;obtain⟨⟨hp,ha⟩,h2⟩:=hk _ _ _ _ h;exact⟨ha,BJ.store hX.tt hw he hp h2⟩
 ·exact le h
 ·exact le h
 ·exact le h
 ·exact le h
 ·rename_i t x ix ho
  split at h
  ·rename_i d p he
   obtain⟨⟨hp,ha⟩,h2⟩:=hk _ _ _ _ h;exact⟨ha,BJ.p hX.tt hw he hp h2⟩
  ·unfold SM at h
   split at h<;>first|exact h.elim|skip
   rename_i i h1;split at h<;>first|exact h.elim|skip
   rename_i e esz eby ez h2;split at h<;>first|exact h.elim|skip
   rename_i kk j h3;split at h<;>first|exact h.elim|skip
   rename_i nn sz es h4;obtain⟨ha,⟨rfl,hj⟩,d,hd,hk'⟩:=h;exact⟨ha,BJ.idx hX.tt hw ho h1 h2 h3 h4 hj hd (hk _ _ _ _ hk').2⟩
 ·exact qe h
 ·exact qe h
 ·unfold Rz at h
  split at h
  ·rename_i d p he
   obtain⟨⟨hp,ha⟩,h2⟩:=hk _ _ _ _ h;exact⟨ha,BJ.p hX.tt hw he hp h2⟩
  ·exact qe h
 ·exact pe h
def Cy (C:BC)(X:EV)(kb:Nat)(ops:Array Oper):List Nat->St->Prop->(Prop->St->Prop)->Prop
 | [],s,acc,K=>K acc s
 |i::l,s,acc,K=>match DQ ops.toList i with
  |some o=>match o.guard with
   |none=>FY C X (kb+i) (BI s.env) s.H s.n o.op acc λacc d H n=>Cy C X kb ops l ⟨Bb s.env o.dst d,H,n⟩ acc K
   |some _=>match CD ops s.env o with
    |some b=>acc/\Jd b (FY C X (kb+i) (BI s.env) s.H s.n o.op True λacc d H n=>Cy C X kb ops l ⟨Bb s.env o.dst d,H,n⟩ acc K)
      (Cy C X kb ops l ⟨Bb s.env o.dst (.prim (.tuple #[])),s.H,s.n+1⟩ True K)
    |none=>False
  |none=>False
theorem og {i:Nat}{o:Oper}(h:DQ ops.toList i=some o):ops.getD i default=o:=by
 have:=LS h
 simp[A7,this]
theorem FZ {kb:Nat}(hX:DK C X){K:Prop->St->Prop}{K':St->Prop}(hK:∀acc s,K acc s->acc/\K' s):∀ {l:List Nat} {s:St} {acc:Prop},Cy C X kb ops l s acc K ->
  acc/\BJ C F ops (l.map λj=>ops.getD j default) s K'
 | [],s,acc,h=>⟨(hK _ _ h).1,BJ.nil (hK _ _ h).2⟩
 |i::l,s,acc,h=>by
  simp only[Cy]at h;split at h<;>first|exact h.elim|skip
  rename_i o ho;rw[Cu,og ho];split at h
  ·rename_i hg
   exact dF hX (by unfold CD;rw[hg]) (λacc d H n h=>FZ hX hK h) h
  ·split at h<;>first|exact h.elim|skip
   rename_i b hb;obtain⟨h0,h⟩:=h;cases b with
   |true=>exact⟨h0,(dF hX hb (λacc d H n h=>FZ hX hK h) h).2⟩
   |false=>exact⟨h0,BJ.skip hb (FZ hX hK h).2⟩
def Kw (X:EV)(kb:Nat)(e:Ay)(n:Nat)(g:Operand->D)(op:Op)(acc:Prop)(k:Prop->D->Ay->Prop):Prop:=match op with
 | .store _ _ _=>match FD X.tt [e] g op with
  |some (_,e',p)=>k (p/\acc) (.prim (.tuple #[])) e'
  |none=>False
 |_=>match EG X.tt [e] n kb g op with
  |some (d,[e'],p)=>k (p/\acc) d e'
  |_=>False
def EP (C:BC)(X:EV)(kb:Nat)(ops:Array Oper)(iw:Nat)(ia:Option Nat)(R:Hp)(clo:List Nat)(n:Nat):List Nat->Ar->Hp->Option Ay->Option Ay->Prop->(Prop->Ar->Hp->Ay->Ay->Prop)->Prop
 | [],env,N,some e,some e',acc,K=>K acc env N e e'
 | [],_,_,_,_,_,_=>False
 |i::l,env,N,accE,acc',acc,K=>match DQ ops.toList i with
  |some o=>match Nat.beq i iw with
   |true=>match acc' with
    |some _=>False
    |none=>match accE with
     |some e=>match o.guard with
      |none=>Kw X (kb+i) e (n+i) (BI env) o.op acc λacc d e'=>EP C X kb ops iw ia R clo n l (Bb env o.dst d) N accE (some e') acc K
      |some _=>False
     |none=>False
   |false=>match IV ia i with
    |true=>match accE with
     |some _=>False
     |none=>match o.guard with
      |none=>EH C X (kb+i) (BI env) R (n+i) o.op acc λacc d ne=>match ne with
       |some e=>EP C X kb ops iw ia R clo n l (Bb env o.dst d) N (some e) acc' acc K
       |none=>False
      |some _=>False
    |false=>match o.guard with
     |none=>EH C X (kb+i) (BI env) (Ho ia accE R (Ca i clo)) (n+i) o.op acc λacc d ne=>EP C X kb ops iw ia R clo n l (Bb env o.dst d) (Cz ne N) accE acc' acc K
     |some _=>match CD ops env o with
      |some b=>acc/\Jd b (EH C X (kb+i) (BI env) (Ho ia accE R (Ca i clo)) (n+i) o.op True λacc d ne=>EP C X kb ops iw ia R clo n l (Bb env o.dst d) (Cz ne N) accE acc' acc K)
        (EP C X kb ops iw ia R clo n l (Bb env o.dst (.prim (.tuple #[]))) N accE acc' True K)
      |none=>False
  |none=>False
theorem pZ (hX:DK C X){kb iw:Nat}{ia:Option Nat}{R:Hp}{e:Ay}{n:Nat}{env:Ar}{o:Oper}{acc:Prop}{k:Prop->D->Ay->Prop}(hw:CD ops env o=some true)(hk:∀acc d e',k acc d e'->acc)(h:Kw X kb e n (BI env) o.op acc k):
  acc/\∃acc' d e',J9 C F ops ⟨iw,ia,e,e',R⟩ n env o d/\k acc' d e':=by
 unfold Kw at h;split at h
 ·split at h<;>first|exact h.elim|skip
  rename_i e' p he
  have:=hk _ _ _ h
  exact⟨this.2,_,_,_,J9.store (W:=⟨iw,ia,e,e',R⟩) hX.tt hw he this.1,h⟩
 ·split at h<;>first|exact h.elim|skip
  rename_i d e' p he
  have:=hk _ _ _ h
  exact⟨this.2,_,_,_,gL (W:=⟨iw,ia,e,e',R⟩) kb hX.tt hw he this.1,h⟩
theorem J8 (hX:DK C X){kb iw:Nat}{ia:Option Nat}{R:Hp}{clo:List Nat}{n:Nat}(hwa:ia≠some iw)(hclo:∀j∈clo,EA ops iw j){K:Prop->Ar->Hp->Ay->Ay->Prop}(hK:∀acc env N e e',K acc env N e e'->acc):
  ∀ {l:List Nat} {env:Ar} {N:Hp} {accE acc':Option Ay} {acc:Prop},EP C X kb ops iw ia R clo n l env N accE acc' acc K ->
  acc/\∃q env' N' e e',(∀a,accE=some a->e=a)/\(∀a,acc'=some a->e'=a)/\IT C F ops ⟨iw,ia,e,e',R⟩ n l env N env' N'/\K q env' N' e e'
 | [],env,N,accE,acc',acc,h=>by
  cases accE with
  |none=>simp only[EP]at h
  |some e=>cases acc' with
   |none=>simp only[EP]at h
   |some e'=>
    simp only[EP]at h;exact⟨hK _ _ _ _ _ h,_,_,_,e,e',λa ha=>by cases ha;rfl,λa ha=>by cases ha;rfl,.nil _ _,h⟩
 |i::l,env,N,accE,acc',acc,h=>by
  simp only[EP]at h;split at h<;>first|exact h.elim|skip
  rename_i o ho;have ho:=LS ho;split at h
  ·rename_i hb
   have hb:=B5 hb;split at h<;>first|exact h.elim|skip
   split at h<;>first|exact h.elim|skip
   rename_i e0;split at h<;>first|exact h.elim|skip
   rename_i hg;have hw:CD ops env o=some true:=by unfold CD;rw[hg]
   obtain⟨h1,acc1,d,e1,h2,h3⟩:=pZ (F:=F) (iw:=iw) (ia:=ia) (R:=R) hX hw (λacc d e' h=>(J8 hX hwa hclo hK h).1) h;obtain⟨_,q,env',N',e,e',h4,h5,h6,h7⟩:=J8 hX hwa hclo hK h3
   have:=h4 _ rfl
   subst this
   have:=h5 _ rfl
   subst this;exact⟨h1,q,env',N',_,_,h4,by simp,.cons (ne:=none) ho (.inr (.inl ⟨hb,by rw[hb];exact hwa,rfl,h2⟩)) h6,h7⟩
  ·rename_i hb
   have hne:i≠iw:=λhi=>by rw[hi,NZ]at hb;cases hb
   split at h
   ·rename_i hi
    have hi:=Qd.1 hi;split at h<;>first|exact h.elim|skip
    split at h<;>first|exact h.elim|skip
    rename_i hg;have hw:CD ops env o=some true:=by unfold CD;rw[hg]
    obtain⟨h1,acc1,d,ne,h2,h3⟩:=U5 (F:=F) hX hw (λacc d ne h=>by
     split at h
     ·exact(J8 hX hwa hclo hK h).1
     ·exact h.elim) h
    split at h3<;>first|exact h3.elim|skip
    rename_i e0;obtain⟨_,q,env',N',e,e',h4,h5,h6,h7⟩:=J8 hX hwa hclo hK h3
    have:=h4 _ rfl
    subst this;exact⟨h1,q,env',N',_,_,by simp,h5,.cons (ne:=none) ho (.inr (.inr ⟨hne,hi,rfl,h2⟩)) h6,h7⟩
   ·rename_i hi
    have hi:ia≠some i:=λh=>by rw[Qd.2 h]at hi;cases hi
    have st:∀ {e:Ay} {d:D} {ne:Option Ay} (e':Ay),(∀a,accE=some a->e=a)->CP C F ops (Ho ia accE R (Ca i clo)) (n+i) env o d ne->NG C F ops ⟨iw,ia,e,e',R⟩ (n+i) env ⟨i,o,d,ne⟩:=λ{e d ne} e' hacc hst=>by
     refine .inl ⟨hne,hi,?_⟩;unfold Ho at hst;cases ia with
     |some ia=>exact .inr hst
     |none=>
      cases accE with
      |none=>exact .inr hst
      |some a=>
       have:=hacc a rfl
       subst this;dsimp only at hst;cases hm:Ca i clo with
       |true=>rw[hm]at hst;exact .inl ⟨rfl,hclo i (Hg.1 hm),hst⟩
       |false=>rw[hm]at hst;exact .inr hst
    have step:∀acc,CD ops env o=some true->(EH C X (kb+i) (BI env) (Ho ia accE R (Ca i clo)) (n+i) o.op acc λacc d ne=>EP C X kb ops iw ia R clo n l (Bb env o.dst d) (Cz ne N) accE acc' acc K) ->
      acc/\∃q env' N' e e',(∀a,accE=some a->e=a)/\(∀a,acc'=some a->e'=a)/\IT C F ops ⟨iw,ia,e,e',R⟩ n (i::l) env N env' N'/\K q env' N' e e':=λacc hw h=>by
     obtain⟨h1,acc1,d,ne,h2,h3⟩:=U5 (F:=F) hX hw (λacc d ne h=>(J8 hX hwa hclo hK h).1) h;obtain⟨_,q,env',N',e,e',h4,h5,h6,h7⟩:=J8 hX hwa hclo hK h3;exact⟨h1,q,env',N',e,e',h4,h5,.cons ho (st e' h4 h2) h6,h7⟩
    split at h
    ·rename_i hg
     exact step _ (by unfold CD;rw[hg]) h
    ·split at h<;>first|exact h.elim|skip
     rename_i b hb;obtain⟨h0,h⟩:=h;cases b with
     |true=>exact⟨h0,(step _ hb h).2⟩
     |false=>
      obtain⟨_,q,env',N',e,e',h4,h5,h6,h7⟩:=J8 hX hwa hclo hK h;exact⟨h0,q,env',N',e,e',h4,h5,.cons (ne:=none) ho (st e' h4 (CP.skip hb)) h6,h7⟩
structure Cx (C:BC)(F F':Aa):Prop where
 nt:F'.nt=F.nt
 sz:F.w0.heap.size<=F'.w0.heap.size
 mem:∀ {ρ:Lk} {H:Hp} {w:World},Ap C F' ρ H w->Ap C F ρ H w
 X:∀b,F.X b->F'.X b
 df:∃ms:List Deferred,F'.df=ms++F.df/\(∃rs:List Nat,ms=rs.map (λr=>{ target:=.collected r,args:=#[] })/\rs.Nodup /\
  ∀r∈rs,F.w0.heap.size<=r/\r<F'.w0.heap.size/\F'.X r/\∀(ρ:Lk) (H:Hp) (w:World),Ap C F' ρ H w->w.heap[r]?=some (.deferred (some [])))
theorem Cx.refl (F:Aa):Cx C F F:=⟨rfl,Af _,λh=>h,λ_ h=>h,[],rfl,[],rfl,.nil,by simp⟩
theorem Cx.trans {F F' F'':Aa}(h:Cx C F F')(k:Cx C F' F''):Cx C F F'':=by
 obtain⟨h1,h2,h3,h4,ms,e1,rs,e2,n1,q1⟩:=h;obtain⟨k1,k2,k3,k4,ms',e1',rs',e2',n1',q1'⟩:=k;refine⟨k1.trans h1,BX h2 k2,λh=>h3 (k3 h),λb hb=>k4 b (h4 b hb),ms'++ms,by rw[e1',e1,De],rs'++rs,by rw[e2,e2',Cq],?_,?_⟩
 ·refine Em.2 ⟨n1',n1,λx hx y hy he=>?_⟩
  have:=(q1' x hx).1
  have:=(q1 y hy).2.1
  omega
 ·intro r hr
  rcases List.mem_append.1 hr with hr|hr
  ·obtain⟨x1,x2,x3,x4⟩:=q1' r hr
   exact⟨by omega,x2,x3,x4⟩
  ·obtain⟨x1,x2,x3,x4⟩:=q1 r hr
   exact⟨x1,by omega,k4 _ x3,λρ H w m=>x4 ρ H w (k3 m)⟩
def Ew (C:BC)(F:Aa)(Q:Exit->Aa->St->Prop):Exit->Act->World->Prop:=λe a w=>∃F' s' ρ',Cx C F F'/\Q e F' s'/\Bl C F' ρ' s' a w
theorem Ew.up {F F':Aa}{Q:Exit->Aa->St->Prop}(h:Cx C F F'){e:Exit}{a:Act}{w:World}:Ew C F' Q e a w->Ew C F Q e a w:=λ⟨F2,s',ρ',h1,h2,h3⟩=>⟨F2,s',ρ',h.trans h1,h2,h3⟩
structure AC (C:BC)(B:Aa)(rd:Option Nat)(F:Aa)(c:Code)(s:St)(Q:Exit->Aa->St->Prop):Prop where
 out:Cx C B F->DM B.nt c=true->∀(ρ:Lk) (a:Act) (w:World),Bl C F ρ s a w->c.wpIn (fw rd) 0 C.P (Ew C B Q) a w
variable {s:St} {rd:Option Nat} {B:Aa} {Q:Exit->Aa->St->Prop}
theorem AC.mono {c:Code}{Q':Exit->Aa->St->Prop}(h:AC C B rd F c s Q)(hq:∀e F s,Q e F s->Q' e F s):AC C B rd F c s Q':=
 ⟨λhB hd ρ a w hs=>wpIn_mono (h.out hB hd ρ a w hs) λe a w ⟨F',s',ρ',h1,h2,h3⟩=>⟨F',s',ρ',h1,hq _ _ _ h2,h3⟩⟩
theorem AC.skip (h:Q .normal F s):AC C B rd F .skip s Q:=⟨λhB _ ρ _ _ hs=>wpIn_skip ⟨F,s,ρ,hB,h,hs⟩⟩
theorem AC.ret (h:Q .ret F s):AC C B rd F .ret s Q:=⟨λhB _ ρ _ _ hs=>wpIn_ret ⟨F,s,ρ,hB,h,hs⟩⟩
theorem AC.exit {i:Nat}(h:Q (.exit i) F s):AC C B rd F (.exit i) s Q:=⟨λhB _ ρ _ _ hs=>wpIn_exit ⟨F,s,ρ,hB,h,hs⟩⟩
def I1 (n:Prop)(r:Exit->Prop)(e:Exit):Prop:=match e with
 | .normal=>n
 | .ret=>r .ret
 | .exit j=>r (.exit j)
 | .goto l=>r (.goto l)
 | .panic c=>r (.panic c)
 | .outgrown=>r .outgrown
theorem iD {nt:Nat}{a b:Code}(h:DM nt (.seq a b)=true):DM nt a=true/\DM nt b=true:=by simpa[DM]using h
theorem AC.seq {a b:Code}(h:AC C B rd F a s (λe F s=>I1 (AC C B rd F b s Q) (λe=>Q e F s) e)):AC C B rd F (.seq a b) s Q:=
 ⟨λhB hd ρ x w hs=>by
  obtain⟨d1,d2⟩:=iD hd;refine wpIn_seq (wpIn_mono (h.out hB d1 ρ x w hs) ?_);rintro e a' w' ⟨F',s',ρ',h1,h2,h3⟩;cases e with
  |normal=>exact(show AC C B rd F' b s' Q from h2).out h1 d2 ρ' a' w' h3
  |ret=>exact⟨F',s',ρ',h1,h2,h3⟩
  |exit j=>exact⟨F',s',ρ',h1,h2,h3⟩
  |goto l=>exact⟨F',s',ρ',h1,h2,h3⟩
  |panic c=>exact⟨F',s',ρ',h1,h2,h3⟩
  |outgrown=>exact⟨F',s',ρ',h1,h2,h3⟩⟩
def Mw (d:D)(y n:Prop):Prop:=match d with
 | .prim (.bool b)=>Jd b y n
 |_=>False
theorem AC.cond {c:Operand}{a b:Code}(h:Mw (BI s.env c) (AC C B rd F a s Q) (AC C B rd F b s Q)):AC C B rd F (.cond c a b) s Q:=by
 unfold Mw at h;split at h
 ·rename_i t ht
  refine⟨λhB hd ρ x w hs=>?_⟩;simp only[DM,BR]at hd;have hc:x.eval c=.bool t:=by
   have:=DL hs.env c
   rw[ht]at this;generalize x.eval c=v at this;cases this;rfl
  refine wpIn_cond_split hc (λht=>?_) λht=>?_
  ·subst ht;exact AC.out h hB hd.1 ρ x w hs
  ·subst ht;exact AC.out h hB hd.2 ρ x w hs
 ·exact h.elim
def M6 (i:Nat)(n:Prop)(r:Exit->Prop)(e:Exit):Prop:=match e with
 | .exit j=>bif Nat.beq j i then n else r (.exit j)
 | .normal=>r .normal
 | .ret=>r .ret
 | .goto l=>r (.goto l)
 | .panic c=>r (.panic c)
 | .outgrown=>r .outgrown
theorem AC.block {i:Nat}{b:Code}(h:AC C B rd F b s (λe F s=>M6 i (Q .normal F s) (λe=>Q e F s) e)):AC C B rd F (.block i b) s Q:=
 ⟨λhB hd ρ x w hs=>by
  refine wpIn_block (wpIn_mono (h.out hB (by simpa[DM]using hd) ρ x w hs) ?_);rintro e a' w' ⟨F',s',ρ',h1,h2,h3⟩;cases e with
  |normal=>exact⟨F',s',ρ',h1,h2,h3⟩
  |ret=>exact⟨F',s',ρ',h1,h2,h3⟩
  |exit j=>
   simp only[M6]at h2;simp only[Exit.inBlock];cases hb:Nat.beq j i with
   |true=>rw[hb]at h2;rw[AG (B5 hb)];exact⟨F',s',ρ',h1,h2,h3⟩
   |false=>rw[hb]at h2;rw[AF (λhj=>by rw[hj,NZ]at hb;cases hb)];exact⟨F',s',ρ',h1,h2,h3⟩
  |goto l=>exact⟨F',s',ρ',h1,h2,h3⟩
  |panic c=>exact⟨F',s',ρ',h1,h2,h3⟩
  |outgrown=>exact⟨F',s',ρ',h1,h2,h3⟩⟩
def T4:Op->Bool
 | .defer _=>true
 |_=>false
def EW:List Oper->Bool
 | []=>true
 |o::l=>match T4 o.op with
  |true=>false
  |false=>EW l
theorem mN {l:List Oper}(h:EW l=true):∀o∈l,∀c,o.op≠.defer c:=by
 induction l with
 |nil=>intro o ho;cases ho
 |cons o l ih=>
  intro o' ho c hc;have h1:T4 o.op=false/\EW l=true:=by
   rw[EW]at h;generalize T4 o.op=b at h⊢;cases b with
   |true=>cases h
   |false=>exact⟨rfl,h⟩
  rcases BG.1 ho with h2|h2
  ·rw[<-h2,hc]at h1;cases h1.1
  ·exact ih h1.2 o' h2 c hc
theorem Hh (h:EW ops.toList=true):∀(i:Nat) (o:Oper),ops[i]?=some o->∀c,o.op≠.defer c:=λi o ho=>mN h o (Array.mem_toList_iff.2 (Ig ho))
theorem BJ.run {K:St->Prop}{l:List Nat}(h:BJ C F ops (l.map λj=>ops.getD j default) s K)(hlt:∀j∈l,j<ops.size)(hd:ops.toList.all (Dk F.nt)=true){ρ:Lk}{a:Act}{w:World}(hs:Bl C F ρ s a w):wpOps C.P ops (K7 C F K) l a w:=by
 refine h ?_ l ?_ ρ a w hs
 ·rw[CQ]
  intro o' ho';obtain⟨j,hj,rfl⟩:=List.mem_map.1 ho';refine CQ.1 hd _ ?_;rw[A7,Bn (hlt j hj)];simp
 ·rw[List.map_map]
  refine Nf λj hj=>?_
  simp[A7,Bn (hlt j hj)]
theorem JK {K:St->Prop}(hB:Cx C B F)(hK:∀s,K s->Q .normal F s){e:Exit}{a:Act}{w:World}(h:K7 C F K e a w):e=.normal/\Ew C B Q .normal a w:=by
 obtain⟨h0,s',ρ',h1,h2⟩:=h;exact⟨h0,F,s',ρ',hB,hK _ h1,h2⟩
theorem Is {i:Nat}{d:Bool}(hB:Cx C B F)(h:DM B.nt (.region i ops d)=true):ops.toList.all (Dk F.nt)=true:=by rw[hB.nt];exact h
theorem Ao {i:Nat}(hX:DK C X)(kb:Nat)(hnd:EW ops.toList=true)(h:Cy C X kb ops (List.range ops.size) s True λacc s=>acc/\Q .normal F s):AC C B rd F (.region i ops false) s Q:=by
 refine⟨λhB hd ρ a w hs=>wpIn_region ?_⟩;have hd:=Is hB hd;have h1:=(FZ (F:=F) (K':=Q .normal F) hX (λacc s h=>h) h).2.run (λj hj=>List.mem_range.1 hj) hd hs
 have:=FJ (rd:=rd) (Q:=Ew C B Q) (l2:=[]) (λ_ _ _ h=>JK hB (λ_ h=>h) h) (Hh hnd) _ a w h1
 rwa [C5]at this
theorem B7 {i:Nat}(hX:DK C X)(kb:Nat)(pre suf:List Nat)(hc:(Hu ops pre suf&&EW ops.toList)=true)
  (h:EL C X kb ops s.H s.n pre s.env [] True λacc env N=>Cy C X kb ops suf ⟨env,N++s.H,s.n+FN ops.toList⟩ acc λacc s=>acc/\Q .normal F s):AC C B rd F (.region i ops true) s Q:=by
 have hsz:ops.size=FN ops.toList:=by rw[Q3,H4]
 rw[<-hsz]at h;simp only[BR]at hc;obtain⟨_,acc,env,N,h1,h2⟩:=N9 (F:=F) hX (λacc env N h=>(FZ (F:=F) (K':=Q .normal F) hX (λacc s h=>h) h).1) h;refine⟨λhB hd ρ a w hs=>?_⟩;have hd:=Is hB hd;refine dR hX.mixed hc.1 h1 (λhlt ρ a w hs=>?_) hd ρ a w hs;have h3:=(FZ (F:=F) (K':=Q .normal F) hX (λacc s h=>h) h2).2.run hlt hd hs
 have:=FJ (rd:=rd) (Q:=Ew C B Q) (l2:=[]) (λ_ _ _ h=>JK hB (λ_ h=>h) h) (Hh hc.2) _ a w h3
 rwa [C5]at this
def NE (H:Hp)(k:Nat)(K:Ay->Hp->Prop):Prop:=match Hp.get H k with
 |some e=>K e (Hp.del H k)
 |none=>False
theorem mh {i:Nat}{W:WR}{pre suf:List Nat}{envF:Ar}{N:Hp}(hm:C.P.follows .mixedOrders=true)(hc:Hu ops pre suf=true)(hnd:EW ops.toList=true)
  (hH:s.H.Perm W.start) (hga:∀ia,W.ia=some ia->W.e.g=s.n+ia/\EA ops W.iw ia/\ia∈pre) (hiw:W.iw∈pre) (hwg:W.e'.g=W.e.g\/W.e'.g=s.n+W.iw)
  (hpre:IT C F ops W s.n pre s.env [] envF N)
  (h:BJ C F ops (suf.map λj=>ops.getD j default) ⟨envF,N++W.e'::W.R,s.n+ops.size⟩ (Q .normal F)):AC C B rd F (.region i ops true) s Q:=
 ⟨λhB hd ρ a w hs=>wpIn_region_any hm (KH (λ_ _ _ h=>JK (F:=F) hB (λ_ h=>h) h) (Hh hnd) _ _ _ _ (gD (Q:=λe s=>Q e F s) hc hH hga hiw hwg hpre h (Is hB hd) ρ a w hs))⟩
theorem BJ.perm {os:List Oper}{env:Ar}{H H':Hp}{n:Nat}{K:St->Prop}(hp:H.Perm H')(h:BJ C F ops os ⟨env,H,n⟩ K):BJ C F ops os ⟨env,H',n⟩ K:=λhd l hl ρ a w hs=>
 h hd l hl ρ a w ⟨hs.mem.perm hp.symm,hs.fresh,λe he=>hs.gen e (hp.mem_iff.1 he),λt=>by
  show AV ρ (AN F.X ρ H) w _ _;rw[AN.perm hp];exact hs.env t,hs.nt,hs.dfr⟩
theorem PX {i:Nat}(hX:DK C X)(kb:Nat)(pre suf:List Nat)(iw:Nat)(clo:List Nat)(k:Nat)(hc:(Hu ops pre suf&&EW ops.toList)=true)(hcl:(Ca iw pre&&Iw clo (Fd (I6 ops (pre++suf) []) iw))=true)
  (h:NE s.H k λe R=>EP C X kb ops iw none R clo s.n pre s.env [] (some e) none True λacc env N e e'=>(e'.g=e.g\/e'.g=s.n+iw)/\Cy C X kb ops suf ⟨env,N++Hp.set s.H k e',s.n+FN ops.toList⟩ acc λacc s=>acc/\Q .normal F s):
  AC C B rd F (.region i ops true) s Q:=by
 have hsz:ops.size=FN ops.toList:=by rw[Q3,H4]
 rw[<-hsz]at h;unfold NE at h;split at h<;>first|exact h.elim|skip
 rename_i e0 he0;simp only[BR]at hcl hc;have hclo:∀j∈clo,EA ops iw j:=λj hj=>P1 (P7 _ _ (by simp)) _ _ (P5.1 hcl.2 j hj)
 obtain⟨_,q,env,N,e,e',h1,h2,h3,h4,h5⟩:=J8 (F:=F) hX (by simp) hclo (λacc env N e e' h=>(FZ (F:=F) (K':=Q .normal F) hX (λacc s h=>h) h.2).1) h
 have:=h1 _ rfl
 subst this;obtain⟨H1,H2,q1,_,q3⟩:=MB e he0;obtain⟨H1',H2',q1',q2',q3'⟩:=MB e' he0;refine mh (W:=⟨iw,none,e,e',Hp.del s.H k⟩) hX.mixed hc.1 hc.2 ?_ (by simp) (Hg.1 hcl.1) h4 h3 (BJ.perm ?_ (FZ (F:=F) hX (λacc s h=>h) h5).2)
 ·rw[q3];unfold WR.start
  dsimp only;rw[q1];exact HO
 ·rw[q2',q3']
  exact List.Perm.append_left _ HO
structure Wk (s s':St):Prop where
 h:Cm s.H s'.H s.H s'.H
 e:Lr s.H s'.H s.env s'.env
 n:s.n<=s'.n
theorem AC.weak {c:Code}(s':St)(h:Wk s s')(hk:AC C B rd F c s' Q):AC C B rd F c s Q:=⟨λhB hd ρ a w hs=>hk.out hB hd ρ a w (hs.weak h.h h.e h.n)⟩
theorem iR {Fe:Fence}{n:Nat}{P:Program}{c:Code}{Q:Exit->Act->World->Prop}(I:Nat->Act->World->Prop){m:Nat}{a:Act}{w:World}(h₀:I m a w)
  (round:∀m a w,I m a w->c.wpIn Fe n P (Exit.then (λa' w'=>∃m',m'<m/\I m' a' w') Q) a w):(Code.loop c).wpIn Fe n P Q a w:=by
 intro b k cs hro hb hr;have key:∀m a w,I m a w->∃e a' w',Q e a' w'/\ArrivesIn (Machine.fenced P Fe) P (lone (b.atR a (.code c::.inLoop c::k)) cs w) b k cs e a' w':=by
  intro m
  induction m using Nat.strongRecOn with
  |_ m ih=>
   intro a w hI;obtain⟨e,a₁,w₁,hq,harr⟩:=round m a w hI b (.inLoop c::k) cs hro hb hr;cases e with
   |normal=>
    obtain⟨m',hlt,hI₁⟩:=hq;obtain⟨e₂,a₂,w₂,hq₂,harr₂⟩:=ih m' hlt a₁ w₁ hI₁;exact⟨e₂,a₂,w₂,hq₂,.of_steps (StepsIn.trans harr (.one (fenced_calm hb hr rfl) stepR_inLoop)) harr₂⟩
   |exit id=>exact⟨_,a₁,w₁,hq,.pass (x:=.inLoop c) rfl (λ_ _=>.inl (by simp)) harr⟩
   |goto l=>exact⟨_,a₁,w₁,hq,.pass (x:=.inLoop c) rfl (λ_ _=>.inl (by simp)) harr⟩
   |ret=>exact⟨_,a₁,w₁,hq,.pass (x:=.inLoop c) rfl (λ_ _=>.inl (by simp)) harr⟩
   |panic ch=>exact⟨_,a₁,w₁,hq,.pass (x:=.inLoop c) rfl (λ_ _=>.inl (by simp)) harr⟩
   |outgrown=>exact⟨_,a₁,w₁,hq,.pass (x:=.inLoop c) rfl (λ_ _=>.inl (by simp)) harr⟩
 obtain⟨e,a',w',hq,harr⟩:=key _ a w h₀;exact⟨e,a',w',hq,.of_steps (.one (fenced_calm hb hr rfl) stepR_loop) harr⟩
theorem GY {b:Code}{α:Type}(sh:α->St)(μ:α->Nat)(J:α->Aa->Prop)(a0:α)(h0:J a0 F)(hs:Wk s (sh a0))
  (h:∀a F',J a F'->AC C B rd F' b (sh a) (λe F' s'=>I1 (∃a',J a' F'/\μ a'<μ a/\Wk s' (sh a')) (λe=>Q e F' s') e)):AC C B rd F (.loop b) s Q:=by
 refine⟨λhB hd ρ x w hsat=>?_⟩;have hd':DM B.nt b=true:=by simpa[DM]using hd
 refine iR (λm x w=>∃(F':Aa) (a:α) (s1:St) (ρ:Lk),μ a=m/\Cx C B F'/\J a F'/\Wk s1 (sh a)/\Bl C F' ρ s1 x w) ⟨F,a0,s,ρ,rfl,hB,h0,hs,hsat⟩ ?_;rintro m x w ⟨F',a,s1,ρ,hm,hF,ha,hw,hsat⟩;refine wpIn_mono ((h a F' ha).out hF hd' ρ x w (hsat.weak hw.h hw.e hw.n)) ?_;rintro e a' w' ⟨F2,s2,ρ2,h1,h2,h3⟩;cases e with
 |normal=>
  obtain⟨a2,q1,q2,q3⟩:=(show ∃a',J a' F2/\μ a'<μ a/\Wk s2 (sh a')from h2)
  exact⟨μ a2,hm ▸ q2,F2,a2,s2,ρ2,rfl,h1,q1,q3,h3⟩
 |ret=>exact⟨F2,s2,ρ2,h1,h2,h3⟩
 |exit j=>exact⟨F2,s2,ρ2,h1,h2,h3⟩
 |goto l=>exact⟨F2,s2,ρ2,h1,h2,h3⟩
 |panic c=>exact⟨F2,s2,ρ2,h1,h2,h3⟩
 |outgrown=>exact⟨F2,s2,ρ2,h1,h2,h3⟩
theorem AC.loop {b:Code}{α:Type}(sh:α->St)(μ:α->Nat)(J:α->Prop)(a0:α)(h0:J a0)(hs:Wk s (sh a0))
  (h:∀a F',J a->AC C B rd F' b (sh a) (λe F' s'=>I1 (∃a',J a'/\μ a'<μ a/\Wk s' (sh a')) (λe=>Q e F' s') e)):AC C B rd F (.loop b) s Q:=
 GY sh μ (λa _=>J a) a0 h0 hs h
abbrev i64 (z:Int):D:=.prim (.int .i64 z)
abbrev u64 (z:Int):D:=.prim (.int .u64 z)
abbrev str (s:ByteArray):D:=.prim (.string s)
abbrev Aq (b:Bool):D:=.prim (.bool b)
abbrev CT:D:=.prim (.slice none 0 0)
theorem AL {H:Hp}{d0 d:D}(hd:d0=d)(hp:B6 d0):∃d',Fz H [] d0 d'/\B6 d'/\d'=d:=⟨d0,.refl _,hp,hd⟩
theorem Ed.refl {H Hf:Hp}:∀ds:List D,Ed H Hf ds ds
 | []=>trivial
 |_::l=>⟨.refl _,Ed.refl l⟩
theorem BZ.same {C:BC}{f:Nat}{ds:List D}{k:D->Prop}(d:D)(hc:AK C f ds d)(hp:Aj ds)(hk:k d):BZ C f ds k:=.mk ds d (Ed.refl _) hc hp hk
theorem BE.same {C:BC}{f:Nat}{ds:List D}{H:Hp}{n:Nat}{k:D->Hp->Nat->Prop}(d:D)(hc:AK C f ds d)(hp:Aj ds)(hk:k d H (n+1)):BE C f ds H n k:=.pure ds d (Ed.refl _) hc hp hk
end
section
variable {C:BC} {F:Aa} {ops:Array Oper}
def Nr (C:BC)(F:Aa)(e:Ay)(d d':D):Prop:=∀(ρ:Lk) (He:Hp) (w:World),Ap C F ρ (e::He) w->∀v,AV ρ (AN F.X ρ (e::He)) w d v->AV ρ (AN F.X ρ He) w d' v
theorem Nr.refl {e:Ay}(d:D):Nr C F e d d:=λρ He w m v h=>h.anti λb hb=>by
 rcases hb with hb|⟨x,h1,h2⟩
 ·exact .inl hb
 ·exact .inr ⟨x,CK _ h1,h2⟩
theorem Nr.osl {e:Ay}{len:Nat}(hl:e.es.length=len):Nr C F e (.osl e.k e.g e.sz 0 len) (.sl false e.sz e.es):=λρ He w m v hv=>by
 have hm:e∈e::He:=CG ..;cases hv with
 |onil=>
  rw[FU hl];exact .nil _
 |osl hr hb hcap hsz hmx=>
  rename_i cap b T cs fz;obtain⟨cs',h1,h2⟩:=m.at hm hr;rw[hb]at h1;simp only[BM,Obj.cells.injEq]at h1;obtain⟨rfl,_,_⟩:=h1;have hN:¬AN F.X ρ He b:=by
   rintro(h|⟨x,h3,h4⟩)
   ·exact(m.hok.own e hm b hr).1 h
   ·exact(D3.1 m.hok.inj).1 x h3 b b hr h4 rfl
  have hin:∀n,n<len*e.sz->n<cs.size:=λn hn=>by have:=h2.len;rw[hl]at this;omega
  refine .sl (λn=>cs.getD n undef) hl hcap hN (m.lt hm hr) (λj d' hd'=>h2.siz _ _ hd') (λn hn=>?_) (λn hn=>?_) λj d' q c hd' hc'=>?_
  ·simp[World.cell?,hb,hin n hn]
  ·have:=h2.one _ _ (Bn (hin n hn))
   simpa[A7,Bn (hin n hn)]using this
  ·have:=h2.rep j d' q c hd' hc'
   exact Nr.refl c ρ He w m _ this
variable {X:EV} {s:St} {rd:Option Nat} {B:Aa} {Q:Exit->Aa->St->Prop}
end
def Aa.subZ (ρ:Lk)(H:Hp)(w:World)(nt:Nat)(X' Z:Nat->Prop)(df:List Deferred):Aa:=⟨w,X',λb=>(∃e∈H,ρ e.k e.g=some b)\/Z b,nt,ρ,df⟩
section
variable {C:BC} {F:Aa} {ρ:Lk} {H:Hp} {w w1:World} {X' Z:Nat->Prop}
theorem Ap.enterZ (m:Ap C F ρ H w)(x:BW ρ (AN F.X ρ H) w ρ (AN X' ρ H) w1)(h1:w1.os=w.os)(h2:w1.tape=w.tape)(h3:w1.output=w.output)
  (h4:∀b,b<w.heap.size->¬Z b->w1.heap[b]?=w.heap[b]?) (hZo:∀e∈H,∀b,ρ e.k e.g=some b->¬Z b) (hX:∀b,X' b->b<w1.heap.size) (hXo:∀e∈H,∀b,ρ e.k e.g=some b->¬X' b) (hZ:∀b,Z b->C.nG<=b) (nt:Nat) (df:List Deferred):
  Ap C (Aa.subZ ρ H w1 nt X' Z df) ρ H w1 where
 hok:=⟨λe he=>by
  rcases m.hok.ent e he with h|⟨b,cs,a1,a2,a3⟩
  ·exact .inl h
  ·exact .inr ⟨b,cs,a1,by rw[h4 b (m.lt he a1) (hZo e he b a1)];exact a2,a3.mono x⟩,m.hok.inj,λe he b hb=>⟨hXo e he b hb,.inr (.inl ⟨e,he,hb⟩)⟩⟩
 os:=rfl
 tape:=rfl
 output:=rfl
 size:=Af _
 blk:=λ_ _ _=>rfl
 xlt:=hX
 g0:=C.hG _ _ m.g ⟨h1,h2,h3,x.size,λb hb=>h4 b (CX hb (BX m.gn m.size)) λhz=>Ad (hZ b hz) (by omega)⟩
 gn:=BX m.gn (BX m.size x.size)
 gw:=λb h=>by
  rcases h with⟨e,he,hb⟩|h
  ·rcases(m.hok.own e he b hb).2 with h|h
   ·exact BX m.gn h
   ·exact m.gw b h
  ·exact hZ b h
 lnk:=λ_ _ _ h=>h
 shp:=λ_ cs _ _ h=>⟨cs,_,h,rfl⟩
theorem Ap.leaveZ {nt:Nat}{df:List Deferred}{ρ':Lk}{H':Hp}{w':World}(m:Ap C F ρ H w1)(hX:∀b,F.X b->X' b)(hZ:∀b,Z b->F.w0.heap.size<=b\/F.Wr b)(m':Ap C (Aa.subZ ρ H w1 nt X' Z df) ρ' H' w'):
  Ap C F ρ' H' w'/\BW ρ (λb=>AN F.X ρ H b\/Z b) w1 ρ' (AN F.X ρ' H') w':=by
 have hwr:∀b,(∃e∈H,ρ e.k e.g=some b)->¬F.X b/\(F.w0.heap.size<=b\/F.Wr b):=λb ⟨e,he,hb⟩=>m.hok.own e he b hb
 have x:BW ρ (λb=>AN F.X ρ H b\/Z b) w1 ρ' (AN F.X ρ' H') w':=by
  refine⟨m'.size,m'.lnk,λb hb hO=>⟨?_,m'.blk b hb λh=>?_⟩,m'.shp⟩
  ·rintro(h|⟨e,he,h⟩)
   ·exact hO (.inl (.inl h))
   ·rcases(m'.hok.own e he b h).2 with h'|h'|h'
    ·exact Ad hb (Nat.not_lt.2 h')
    ·exact hO (.inl (.inr h'))
    ·exact hO (.inr h')
  ·rcases h with h|h
   ·exact hO (.inl (.inr h))
   ·exact hO (.inr h)
 refine⟨⟨⟨λe he=>?_,m'.hok.inj,λe he b hb=>?_⟩,m'.os.trans m.os,m'.tape.trans m.tape,m'.output.trans m.output,BX m.size m'.size,λb hb hw=>?_,m.xlt,m.g0,m.gn,m.gw,
  λ_ _ _ h=>m'.lnk _ _ _ (m.lnk _ _ _ h),IF m.shp x⟩,x⟩
 ·rcases m'.hok.ent e he with h|⟨b,cs,a1,a2,a3⟩
  ·exact .inl h
  ·exact .inr ⟨b,cs,a1,a2,a3.anti λb hb=>hb.imp (hX b) id⟩
 ·have h:=m'.hok.own e he b hb
  refine⟨λhx=>h.1 (hX b hx),?_⟩;rcases h.2 with h'|h'|h'
  ·exact .inl (BX m.size h')
  ·exact(hwr b h').2
  ·exact hZ b h'
 ·have h1:=m'.blk b (CX hb m.size) λh=>by
   rcases h with h|h
   ·rcases(hwr b h).2 with h'|h'
    ·omega
    ·exact hw h'
   ·rcases hZ b h with h'|h'
    ·omega
    ·exact hw h'
  exact h1.trans (m.blk b hb hw)
theorem Cx.subZ (m:Ap C F ρ H w1)(hX:∀b,F.X b->X' b)(hZ:∀b,Z b->F.w0.heap.size<=b\/F.Wr b)(rs:List Nat)(hn:rs.Nodup)
  (hr:∀r∈rs,F.w0.heap.size<=r/\r<w1.heap.size/\X' r/\(¬Z r/\∀e∈H,ρ e.k e.g≠some r)/\w1.heap[r]?=some (.deferred (some []))):
  Cx C F (Aa.subZ ρ H w1 F.nt X' Z (rs.map (λr=>{ target:=.collected r,args:=#[] })++F.df)):=
 ⟨rfl,m.size,λh=>(m.leaveZ hX hZ h).1,hX,_,rfl,rs,rfl,hn,λr hr'=>by
  obtain⟨a1,a2,a3,⟨a4,a5⟩,a6⟩:=hr r hr';refine⟨a1,a2,a3,λρ' H' w' m'=>?_⟩;have hb:=m'.blk r a2 λh=>by
   rcases h with⟨e,he,h⟩|h
   ·exact a5 e he h
   ·exact a4 h
  exact hb.trans a6⟩
def FP (w:World):List Nat->World
 | []=>w
 |r::rs=>FP (w.putObj r (.deferred none)) rs
theorem N6:∀(rs:List Nat) (w:World),(FP w rs).heap.size=w.heap.size
 | [],_=>rfl
 |r::rs,w=>by rw[FP,N6 rs];simp[World.putObj]
theorem LU:∀(rs:List Nat) (w:World) (b:Nat),b∉rs->(FP w rs).heap[b]?=w.heap[b]?
 | [],_,_,_=>rfl
 |r::rs,w,b,h=>by
  rw[FP,LU rs _ b (λhb=>h (by simp[hb])),World.putObj_heap_other (λhb=>h (by simp[hb]))]
theorem XS:∀(rs:List Nat) (w:World),(FP w rs).os=w.os/\(FP w rs).tape=w.tape/\(FP w rs).output=w.output
 | [],_=>⟨rfl,rfl,rfl⟩
 |r::rs,w=>by rw[FP];exact XS rs _
theorem V8 {P:Program}{fn:Func}{tmps:Array Value}{R:Ending->World->Prop}:∀(rs:List Nat) (w:World),rs.Nodup->(∀r∈rs,w.heap[r]?=some (.deferred (some []))) ->
  (∃v,(results fn tmps).run P (FP w rs)=.ok v (FP w rs)/\R (.returned v) (FP w rs))->LeavesInM (fw none) 0 P fn tmps R (rs.map (λr=>{ target:=.collected r,args:=#[] })) .returning w
 | [],w,_,_,h=>h
 |r::rs,w,hn,hr,h=>by
  obtain⟨n1,n2⟩:=List.nodup_cons.1 hn;refine⟨by simp,.inl ⟨r,_,rfl,run_takeDeferred (hr r (by simp)),V8 rs _ n2 (λq hq=>?_) h⟩⟩;rw[World.putObj_heap_other (λhb=>by subst hb;exact n1 hq)];exact hr q (by simp[hq])
theorem Cx.finish {fn:Func}{s:St}{a:Act}{tt:Nat->Option A0}{d:D}{p:Prop}{F':Aa}(htt:Cr C.P tt)(hF:Cx C F F')(hd0:F.df=[])(hs:Bl C F' ρ s a w)(h:IW tt s fn.results.toList=some (d,p))(hp:p):
  ∃v w',LeavesIn (fw none) 0 C.P fn a.tmps (λe w2=>e=.returned v/\w2=w') [] .returning w' /\
   (∀R:Ending->World->Prop,R (.returned v) w'->LeavesInM (fw none) 0 C.P fn a.tmps R a.defers .returning w) /\
   Ap C F ρ s.H w'/\AV ρ (AN F'.X ρ s.H) w' d v/\(∀b,F.X b->F'.X b)/\BW ρ (AN F'.X ρ s.H) w ρ (AN F'.X ρ s.H) w' /\
   (∀b,b<F.w0.heap.size->w'.heap[b]?=w.heap[b]?)/\w'.heap.size=w.heap.size/\∃F2,Ap C F2 ρ s.H w'/\F2.X=F'.X:=by
 obtain⟨ms,e1,rs,e2,hn,hr⟩:=hF.df;rw[hd0,C5]at e1;have hdf:a.defers=rs.map (λr=>{ target:=.collected r,args:=#[] }):=by rw[hs.dfr,e1,e2]
 have mF:=hF.mem hs.mem;have hZ:∀b,b∈rs->F.w0.heap.size<=b\/F.Wr b:=λb hb=>.inl (hr b hb).1
 have hXr:∀b,b∈rs->F'.X b:=λb hb=>(hr b hb).2.2.1
 have hdr:∀r∈rs,w.heap[r]?=some (.deferred (some [])):=λr h=>(hr r h).2.2.2 _ _ _ hs.mem
 have hno:∀e∈s.H,∀b,ρ e.k e.g=some b->b∉rs:=λe he b hb hb'=>(hs.mem.hok.own e he b hb).1 (hXr b hb')
 have x:BW ρ (AN F'.X ρ s.H) w ρ (AN F'.X ρ s.H) (FP w rs):=by
  refine⟨by rw[N6];exact Af _,λ_ _ _ h=>h,λb hb hO=>⟨hO,LU _ _ _ λh=>hO (.inl (hXr b h))⟩,λb cs T fz h=>⟨cs,fz,?_,rfl⟩⟩;rw[LU _ _ _ λhb=>by rw[hdr b hb]at h;cases h];exact h
 obtain⟨o1,o2,o3⟩:=XS rs w;have m2:=hs.mem.enterZ (Z:=λb=>b∈rs) (X':=F'.X) x o1 o2 o3 (λb _ hb=>LU _ _ _ hb) hno (λb hb=>by rw[N6];exact CX (hs.mem.xlt b hb) hs.mem.size)
  (λe he b hb=>(hs.mem.hok.own e he b hb).1) (λb hb=>BX mF.gn (hr b hb).1) F'.nt F'.df
 have hs2:Bl C (Aa.subZ ρ s.H (FP w rs) F'.nt F'.X (λb=>b∈rs) F'.df) ρ s a (FP w rs):=⟨m2,hs.fresh,hs.gen,λt=>(hs.env t).mono x,hs.nt,hs.dfr⟩
 obtain⟨v,r1,r2⟩:=UK htt hs2 h hp;have mF2:Ap C F ρ s.H (FP w rs):=by
  have mw:Ap C (Aa.subZ ρ s.H w F'.nt F'.X (λb=>b∈rs) F'.df) ρ s.H w:=hs.mem.enterZ (.refl _ _ _) rfl rfl rfl (λ_ _ _=>rfl) hno (λb hb=>CX (hs.mem.xlt b hb) hs.mem.size) (λe he b hb=>(hs.mem.hok.own e he b hb).1)
   (λb hb=>BX mF.gn (hr b hb).1) _ _
  refine(mF.leaveZ hF.X hZ (nt:=F'.nt) (df:=F'.df) (ρ':=ρ) (H':=s.H) (w':=FP w rs) ⟨⟨λe he=>?_,mw.hok.inj,mw.hok.own⟩,o1,o2,o3,by rw[N6];exact Af _,λb hb hw=>LU _ _ _ λh=>hw (.inr h),mw.xlt,mw.g0,mw.gn,mw.gw,λ_ _ _ h=>h,IF mw.shp x⟩).1;rcases mw.hok.ent e he with h|⟨b,cs,a1,a2,a3⟩
  ·exact .inl h
  ·exact .inr ⟨b,cs,a1,by rw[LU _ _ _ (hno e he b a1)];exact a2,a3.mono x⟩
 refine⟨v,FP w rs,⟨v,r1,rfl,rfl⟩,λR hR=>?_,mF2,r2,hF.X,x,λb hb=>LU _ _ _ λh=>?_,N6 _ _,_,m2,rfl⟩
 ·rw[hdf];exact V8 rs w hn hdr ⟨v,r1,hR⟩
 ·have:=(hr b h).1;omega
end
section
variable {C:BC} {X:EV}
def I3 (tt:Nat->Option A0)(s:St)(rs:List ResultVar)(k:D->Prop):Prop:=match IW tt s rs with
 |some (d,p)=>p/\k d
 |none=>False
def Rl (tt:Nat->Option A0)(rs:List ResultVar)(Φ:D->Prop)(e:Exit)(_:Aa)(s:St):Prop:=match e with
 | .normal | .ret=>I3 tt s rs λd0=>∃d,Fz s.H [] d0 d/\B6 d/\Φ d
 |_=>False
def ql (tt:Nat->Option A0)(rs:List ResultVar)(Φ:D->Hp->Nat->Prop)(e:Exit)(_:Aa)(s:St):Prop:=match e with
 | .normal | .ret=>I3 tt s rs λd=>Φ d s.H s.n
 |_=>False
theorem Qm {tt:Nat->Option A0}{s:St}{rs:List ResultVar}{k:D->Prop}(h:I3 tt s rs k):∃d p,IW tt s rs=some (d,p)/\p/\k d:=by
 unfold I3 at h;split at h
 ·rename_i d p he;exact⟨d,p,he,h.1,h.2⟩
 ·exact h.elim
theorem Ak.walk {f:Nat}{i:FI}{args:List D}{Φ:D->Prop}(hX:DK C X)(hf:JF C.P f i)(hnt:Nat.ble args.length i.nt=true)
  (h:∀F:Aa,AC C F none F i.code ⟨DN 0 args,[],0⟩ (Rl X.tt i.res Φ)):Ak C f args Φ:=by
 obtain⟨fn,hf,hb,hn,hd,hni,hres⟩:=hf;rw[<-hni]at hnt;refine⟨⟨fn,i.code,hf,hb,hn⟩,λY w vs hG hnG hX' hvs hr=>?_⟩;have hnt:=Bi hnt;refine(KE (rd:=none) (n:=0)).1 (callsIn_of_wp_marks hf hb AB ?_);have hown:∀b,AN Y nol [] b↔Y b:=by simp[AN]
 have hoe:AN Y nol []=Y:=funext λb=>propext (hown b)
 let F0:Aa:=⟨w,Y,λ_=>False,fn.ntmps,nol,[]⟩
 have sat:Bl C F0 nol ⟨DN 0 args,[],0⟩ { tmps:=vs++Array.replicate (fn.ntmps-vs.size) undef,defers:=[] } w:=by
  refine⟨⟨⟨by simp,.nil,by simp⟩,rfl,rfl,rfl,Af _,λ_ _ _=>rfl,hX',hG,hnG,by simp[F0],λ_ _ _ h=>h,λ_ cs _ _ h=>⟨cs,_,h,rfl⟩⟩,λ_ _ _=>rfl,by simp,λt=>?_,by simp[F0];omega,rfl⟩;show AV nol (AN Y nol []) w _ _;rw[hoe];exact OZ hvs hr t
 refine wpIn_mono ((h F0).out (.refl F0) hd nol _ w sat) ?_;rintro e a' w' ⟨F',s',ρ',hF,hq,hs'⟩;have key:I3 X.tt s' i.res (λd0=>∃d,Fz s'.H [] d0 d/\B6 d/\Φ d)->LeavesInM (fw none) 0 C.P fn a'.tmps (λe w'=>∃v d,e=.returned v/\Below w.heap.size w w'/\Φ d/\AV nol Y w' d v) a'.defers .returning w':=λhq=>by
  obtain⟨d0,p,h1,h2,d,h3,h4,h5⟩:=Qm hq;rw[<-hres]at h1;obtain⟨v,w2,_,hl,mF,r2,hXX,x,hbl,hsz,F2,m2,hX2⟩:=hF.finish hX.tt rfl hs' h1 h2;refine hl _ ⟨v,d,rfl,⟨mF.os,mF.tape,mF.output,mF.size,λb hb=>mF.blk b hb (by simp[F0])⟩,h5,?_⟩;have hH:Cm s'.H [] s'.H []:=by
   generalize s'.H=H0
   have:∀H1:Hp,Cm H0 [] H1 []:=λH1=>by
    induction H1 with
    |nil=>exact .nil
    |cons e r ih=>exact .drop ih
   exact this H0
  obtain⟨m,hO,hN⟩:=hH.mem m2;have r3:=h3.rep m2 hO hN (by rw[hX2];exact r2);have r4:=h4 _ nol _ _ _ r3;exact r4.anti λb hb=>.inl (by rw[hX2];exact hXX b hb)
 cases e with
 |normal=>exact key hq
 |ret=>exact key hq
 |_=>exact hq.elim
theorem Cd.walk {f:Nat}{i:FI}{args:List D}{H:Hp}{n:Nat}{Φ:D->Hp->Nat->Prop}(hX:DK C X)(hf:JF C.P f i)(hnt:Nat.ble args.length i.nt=true)
  (h:∀F:Aa,AC C F none F i.code ⟨DN 0 args,H,n⟩ (ql X.tt i.res Φ)):Cd C f args H n Φ:=by
 obtain⟨fn,hf,hb,hn,hd,hni,hres⟩:=hf;rw[<-hni]at hnt;refine⟨⟨fn,i.code,hf,hb,hn⟩,λF ρ w vs m hfr hg hvs hr=>?_⟩;have hnt:=Bi hnt;refine(KE (rd:=none) (n:=0)).1 (callsIn_of_wp_marks hf hb AB ?_);have sat:Bl C (F.sub ρ H w fn.ntmps) ρ ⟨DN 0 args,H,n⟩ { tmps:=vs++Array.replicate (fn.ntmps-vs.size) undef,defers:=[] } w:=
  ⟨m.enter _,hfr,hg,OZ hvs hr,by simp[Aa.sub];omega,rfl⟩
 refine wpIn_mono ((h (F.sub ρ H w fn.ntmps)).out (.refl _) hd ρ _ w sat) ?_;rintro e a' w' ⟨F',s',ρ',hF,hq,hs'⟩;have key:I3 X.tt s' i.res (λd=>Φ d s'.H s'.n)->LeavesInM (fw none) 0 C.P fn a'.tmps (λe w'=>∃v d H' n' ρ',e=.returned v/\Φ d H' n'/\Ap C F ρ' H' w'/\BW ρ (AN F.X ρ H) w ρ' (AN F.X ρ' H') w'/\Iy ρ' n'/\(∀e∈H',e.g<n') /\
   AV ρ' (AN F.X ρ' H') w' d v) a'.defers .returning w':=λhq=>by
  obtain⟨d,p,h1,h2,h3⟩:=Qm hq;rw[<-hres]at h1;obtain⟨v,w2,_,hl,mF,r2,hXX,x,hbl,hsz,F2,m2,hX2⟩:=hF.finish hX.tt rfl hs' h1 h2;obtain⟨m',x'⟩:=m.leave mF;exact hl _ ⟨v,d,_,_,ρ',rfl,h3,m',x',hs'.fresh,hs'.gen,r2.anti λb hb=>hb.imp (hXX b) id⟩
 cases e with
 |normal=>exact key hq
 |ret=>exact key hq
 |_=>exact hq.elim
variable {B F:Aa} {s:St} {rd:Option Nat} {Q:Exit->Aa->St->Prop}
theorem EX {a b:Code}(s':St)(h1:AC C B rd F a s (λe F1 s1=>I1 (F1=F/\Wk s1 s') (λe=>Q e F1 s1) e))(h2:AC C B rd F b s' Q):AC C B rd F (.seq a b) s Q:=
 AC.seq (h1.mono λe F1 s1 h=>by
  cases e with
  |normal=>
   obtain⟨h0,h3⟩:=(show F1=F/\Wk s1 s' from h)
   rw[h0];exact AC.weak s' h3 h2
  |ret=>exact h
  |exit j=>exact h
  |goto l=>exact h
  |panic c=>exact h
  |outgrown=>exact h)
theorem w9 {H Hf:Hp}{d d':D}(h:d=d'):Fz H Hf d d':=h ▸ .refl d
end
structure LR where
 fn:Nat
 tmps:Array Value
 ps:Array Nat
 as:Code
 bd:Code
 dfs:Nat
def LR.lp (R:LR)(st:LoopState)(j:Option Code):Loop:={ state:=st,pending:=j,fn:=R.fn,tmps:=R.tmps,params:=R.ps,assign:=R.as,body:=R.bd,defers:=R.dfs }
def LR.obj (R:LR)(j:Option Code):Obj:=.loop (R.lp (if j.isNone then .ready else .done) j)
def Aa.wr (F:Aa)(l:Nat):Aa:=⟨F.w0,F.X,λb=>F.Wr b\/b=l,F.nt,F.r0,F.df⟩
section
variable {C:BC} {F B:Aa} {ρ:Lk} {H:Hp} {w:World} {l:Nat} {R:LR}
theorem Ap.wr (m:Ap C F ρ H w)(hl:C.nG<=l):Ap C (F.wr l) ρ H w:=
 ⟨⟨m.hok.ent,m.hok.inj,λe he b hb=>⟨(m.hok.own e he b hb).1,(m.hok.own e he b hb).2.imp id .inl⟩⟩,m.os,m.tape,m.output,m.size,λb hb h=>m.blk b hb λh'=>h (.inl h'),m.xlt,m.g0,m.gn,λb h=>by
  rcases h with h|rfl
  ·exact m.gw b h
  ·exact hl,m.lnk,m.shp⟩
theorem Ap.unwr (m:Ap C (F.wr l) ρ H w)(hX:F.X l)(hb:w.heap[l]?=F.w0.heap[l]?):Ap C F ρ H w:=
 ⟨⟨m.hok.ent,m.hok.inj,λe he b hb=>⟨(m.hok.own e he b hb).1,by
  rcases(m.hok.own e he b hb).2 with h|h|h
  ·exact .inl h
  ·exact .inr h
  ·exact Ad (h ▸ hX) (m.hok.own e he b hb).1⟩⟩,m.os,m.tape,m.output,m.size,λb hb' h=>by
   by_cases hl:b=l
   ·subst hl;exact hb
   ·exact m.blk b hb' λh'=>h'.elim h hl,m.xlt,m.g0,m.gn,λb h=>m.gw b (.inl h),m.lnk,m.shp⟩
theorem JI (w:World)(l:Nat)(o:Obj):(w.putObj l o).os=w.os/\(w.putObj l o).tape=w.tape/\(w.putObj l o).output=w.output/\(w.putObj l o).heap.size=w.heap.size:=⟨rfl,rfl,rfl,by simp[World.putObj]⟩
theorem BW.putL {O:Nat->Prop}(hO:O l){r:Loop}(h:w.heap[l]?=some (.loop r))(o:Obj):BW ρ O w ρ O (w.putObj l o):=
 ⟨by rw[(JI w l o).2.2.2];exact Af _,λ_ _ _ h=>h,λb hb hb'=>⟨hb',World.putObj_heap_other λhbl=>hb' (by rw[hbl];exact hO)⟩,λb cs T fz hc=>⟨cs,_,by
  rw[World.putObj_heap_other λhbl=>by rw[hbl,h]at hc;cases hc];exact hc,rfl⟩⟩
theorem Ap.putL (m:Ap C F ρ H w)(hX:F.X l)(hW:F.Wr l){r:Loop}(h:w.heap[l]?=some (.loop r))(o:Obj):Ap C F ρ H (w.putObj l o):=by
 have x:=BW.putL (ρ:=ρ) (O:=AN F.X ρ H) (.inl hX) h o;exact⟨⟨λe he=>by
  rcases m.hok.ent e he with h|⟨b,cs,a1,a2,a3⟩
  ·exact .inl h
  ·exact .inr ⟨b,cs,a1,by rw[World.putObj_heap_other λhb=>(m.hok.own e he b a1).1 (by rw[hb];exact hX)];exact a2,a3.mono x⟩,m.hok.inj,m.hok.own⟩,
  m.os,m.tape,m.output,by rw[(JI w l o).2.2.2];exact m.size,λb hb hw=>by rw[World.putObj_heap_other λhbl=>hw (by rw[hbl];exact hW)];exact m.blk b hb hw,m.xlt,m.g0,m.gn,m.gw,m.lnk,IF m.shp x⟩
def RE (C:BC)(F:Aa)(l:Nat)(R:LR)(ρ:Lk)(H:Hp)(w:World)(Φ:Option Code->D->Hp->Nat->Prop):Ending->World->Prop:=λe w'=>
 ∃v j d H' n' ρ',e=.returned v/\Φ j d H' n'/\w'.heap[l]?=some (R.obj j)/\Ap C (F.wr l) ρ' H' w'/\BW ρ (AN F.X ρ H) w ρ' (AN F.X ρ' H') w'/\Iy ρ' n'/\(∀e∈H',e.g<n')/\AV ρ' (AN F.X ρ' H') w' d v
abbrev Ff:=Lk->(Nat->Prop)->World->Prop
def Ff.ok (E:Ff):Prop:=∀ρ O w ρ' O' w',E ρ O w->BW ρ O w ρ' O' w'->E ρ' O' w'
def Oh (C:BC)(E:Ff)(f:Nat)(args:List D)(l:Nat)(R:LR)(H:Hp)(n:Nat)(Φ:Option Code->D->Hp->Nat->Prop):Prop:=
 JJ C.P f/\∀(F:Aa) (ρ:Lk) (w:World) (vs:Array Value),Ap C F ρ H w->F.X l->C.nG<=l->E ρ (AN F.X ρ H) w->w.heap[l]?=some (R.obj none)->Iy ρ n->(∀e∈H,e.g<n)->vs.size=args.length ->
  (∀(i:Nat) (d:D),args[i]?=some d->AV ρ (AN F.X ρ H) w d (vs.getD i undef))->Calls C.P f vs w (RE C F l R ρ H w Φ)
def RC (C:BC)(E:Ff)(l:Nat)(R:LR)(ds:List D)(H:Hp)(n:Nat)(Φ:Option Code->Hp->Nat->Prop):Prop:=
 ∀(F:Aa) (ρ:Lk) (w:World) (vs:Array Value),Ap C F ρ H w->F.X l->C.nG<=l->E ρ (AN F.X ρ H) w->w.heap[l]?=some (R.obj none)->Iy ρ n->(∀e∈H,e.g<n)->vs.size=ds.length ->
  (∀(i:Nat) (d:D),ds[i]?=some d->AV ρ (AN F.X ρ H) w d (vs.getD i undef))->vs.size=R.ps.size /\
  RoundIn (fw none) 0 C.P l R.fn ((R.ps.zip vs).foldl (λtmps (t,a)=>tmps.setIfInBounds t a) R.tmps) R.as R.bd w (RE C F l R ρ H w λj d H' n'=>d=Aq j.isNone/\Φ j H' n')
structure Lu (C:BC)(E:Ff)(B F:Aa)(l:Nat)(R:LR):Prop where
 X:F.X l
 nw:¬F.Wr l
 at0:F.w0.heap[l]?=some (R.obj none)
 up:∀ {ρ:Lk} {H:Hp} {w:World},Ap C (F.wr l) ρ H w->Ap C B ρ H w
 ng:C.nG<=l
 df:F.df=B.df
 ext:∀ {ρ:Lk} {H:Hp} {w:World},Ap C F ρ H w->E ρ (AN F.X ρ H) w
def PI (C:BC)(l:Nat)(R:LR)(j:Option Code)(F:Aa):Prop:=∀ {ρ:Lk} {H:Hp} {w:World},Ap C F ρ H w->w.heap[l]?=some (R.obj j)
theorem Lu.stat {E:Ff}(h:Lu C E B F l R):PI C l R none F:=λm=>(m.blk l (m.xlt l h.X) h.nw).trans h.at0
theorem Bl.reframe {F':Aa}{s:St}{a:Act}(h:Bl C F ρ s a w)(m:Ap C F' ρ s.H w)(hX:F'.X=F.X)(hn:F'.nt=F.nt)(hd:F'.df=F.df):Bl C F' ρ s a w:=
 ⟨m,h.fresh,h.gen,λt=>by rw[hX];exact h.env t,h.nt.trans hn.symm,h.dfr.trans hd.symm⟩
theorem lR {s:St}{o:Oper}{fop:Operand}{args:Array Operand}{tys:Array Nat}{a:Act}(ho:o.op=.call ⟨.value fop,args,tys⟩)(hf:BI s.env fop=.clo (.yield l) [] [])(hs:Bl C F ρ s a w):
  ∃vs,(execOp a.eval o).run C.P w=(Instr.yield l vs).run C.P w/\vs.size=(args.toList.map (BI s.env)).length /\
   ∀(i:Nat) (d:D),(args.toList.map (BI s.env))[i]?=some d->AV ρ (AN F.X ρ s.H) w d (vs.getD i undef):=by
 have hfr:=DL hs.env fop;rw[hf]at hfr;generalize hv:a.eval fop=v at hfr;cases hfr with
 |clo hn hc h1 h2=>
  rename_i fs cs;have hfs:fs = #[]:=Array.eq_empty_of_size_eq_zero (by simpa using hn);subst hfs;refine⟨args.map a.eval,?_,by simp,λi d hd=>?_⟩
  ·unfold execOp
   simp only[ho];rw[run_bind]
   have:(resolve a.eval ⟨.value fop,args,tys⟩ o.type).run C.P w=.ok { target:=.fn (.yield l) cs,args:=#[]++args.map a.eval } w:=by
    unfold resolve;simp only[hv];rfl
   rw[this];dsimp only;unfold invoke;simp
  ·simp only[A8,JB,Option.map_eq_some_iff]at hd
   obtain⟨x,hx,rfl⟩:=hd
   have:(args.map a.eval).getD i undef=a.eval x:=by simp[A7,hx]
   rw[this];exact DL hs.env x
variable {X:EV} {ops:Array Oper} {s:St} {E:Ff} {Q:Exit->Aa->St->Prop}
def Rk (C:BC)(X:EV)(E:Ff)(F:Aa)(l:Nat)(R:LR)(kb:Nat)(ops:Array Oper)(iy:Nat)(l2:List Nat)(Q:Exit->Aa->St->Prop)(s:St):Prop:=match DQ ops.toList iy with
 |some o=>match o.guard with
  |none=>match o.op with
   | .call ⟨.value fop,args,_⟩=>BI s.env fop=.clo (.yield l) [] []/\∃Φ,RC C E l R (args.toList.map (BI s.env)) s.H s.n Φ /\
     (∀H' n',Φ none H' n'->Cy C X kb ops l2 ⟨Bb s.env o.dst (Aq true),H',n'⟩ True λacc s=>acc/\Q .normal F s) /\
     (∀c H' n',Φ (some c) H' n'->∀F2:Aa,PI C l R (some c) F2->Cy C X kb ops l2 ⟨Bb s.env o.dst (Aq false),H',n'⟩ True λacc s=>acc/\Q .normal F2 s)
   |_=>False
  |some _=>False
 |none=>False
theorem jK (hX:DK C X){kb iy:Nat}{l2:List Nat}{a:Act}(hR:Lu C E B F l R)(hB:Cx C B F)(hnd:EW ops.toList=true)(hlt:∀j∈l2,j<ops.size)(hd:ops.toList.all (Dk B.nt)=true)
  (h:Rk C X E F l R kb ops iy l2 Q s) (hs:Bl C F ρ s a w):wpOpsIn (fw none) 0 C.P ops (Ew C B Q) (iy::l2) a w:=by
 unfold Rk at h;split at h<;>first|exact h.elim|skip
 rename_i o ho;split at h<;>first|exact h.elim|skip
 rename_i hgd;split at h<;>first|exact h.elim|skip
 rename_i fop args tys hop;obtain⟨hf,Φ,hY,h1,h2⟩:=h;have ho:=LS ho;have hdo:Dk B.nt o=true:=CQ.1 hd o (Array.mem_toList_iff.2 (Ig ho));simp only[wpOpsIn,ho];rw[AG (by unfold Region.wanted;rw[hgd])];obtain⟨vs,r1,r2,r3⟩:=lR hop hf hs;have hst:=hR.stat hs.mem;obtain⟨q1,q2⟩:=hY F ρ w vs hs.mem hR.X hR.ng (hR.ext hs.mem) hst hs.fresh hs.gen r2 r3;have hrun:(execOp a.eval o).run C.P w=.ok (.round l R.fn ((R.ps.zip vs).foldl (λtmps (t,a)=>tmps.setIfInBounds t a) R.tmps) R.as R.bd) w:=by
  rw[r1,run_yield (r:=R.lp .ready none) hst q1];rfl
 refine jb hrun (q2.mono ?_);rintro e w' ⟨v,j,d,H',n',ρ',rfl,⟨rfl,hΦ⟩,hl,m',x,fr,gn,rep⟩;refine⟨v,rfl,?_⟩;have hsw:Bl C (F.wr l) ρ s a w:=hs.reframe (hs.mem.wr hR.ng) rfl rfl rfl;have hs1:Bl C (F.wr l) ρ' ⟨Bb s.env o.dst (Aq j.isNone),H',n'⟩ (a.put o.dst v) w':=hsw.put m' x fr gn rep (by rw[show(F.wr l).nt=B.nt from hB.nt];exact hdo);cases j with
 |none=>
  have hs2:Bl C F ρ' ⟨Bb s.env o.dst (Aq true),H',n'⟩ (a.put o.dst v) w':=hs1.reframe (m'.unwr hR.X (by rw[hl,hR.at0])) rfl rfl rfl;have h3:=(FZ (F:=F) (K':=Q .normal F) hX (λacc s h=>h) (h1 _ _ hΦ)).2.run hlt (by rw[hB.nt];exact hd) hs2
  have:=FJ (rd:=none) (Q:=Ew C B Q) (l2:=[]) (λ_ _ _ h=>JK hB (λ_ h=>h) h) (Hh hnd) _ _ _ h3
  rwa [C5]at this
 |some c=>
  let F2:=Aa.subZ ρ' H' w' F.nt F.X (λ_=>False) F.df
  have m2:Ap C F2 ρ' H' w':=m'.enterZ (.refl _ _ _) rfl rfl rfl (λ_ _ _=>rfl) (λ_ _ _ _ h=>h) (λb hb=>CX (m'.xlt b hb) m'.size) (λe he b hb=>(m'.hok.own e he b hb).1) (λ_ h=>h.elim) _ _;have hlw:l<w'.heap.size:=(Array.getElem?_eq_some_iff.1 hl).1;have hst2:PI C l R (some c) F2:=λ{ρ'' H'' w''} m3=>by
   have:=m3.blk l hlw (by
    rintro(⟨e,he,h⟩|h)
    ·exact(m'.hok.own e he l h).1 hR.X
    ·exact h)
   exact this.trans hl
  have hB2:Cx C B F2:=⟨hB.nt,BX hB.sz (BX hs.mem.size x.size),λm3=>hR.up (m'.leaveZ (λ_ h=>h) (λ_ h=>h.elim) m3).1,hB.X,[],hR.df,[],rfl,.nil,by simp⟩
  have hs2:Bl C F2 ρ' ⟨Bb s.env o.dst (Aq false),H',n'⟩ (a.put o.dst v) w':=hs1.reframe m2 rfl rfl rfl;have h3:=(FZ (F:=F2) (K':=Q .normal F2) hX (λacc s h=>h) (h2 _ _ _ hΦ F2 hst2)).2.run hlt (by rw[hB2.nt];exact hd) hs2
  have:=FJ (rd:=none) (Q:=Ew C B Q) (l2:=[]) (λ_ _ _ h=>JK hB2 (λ_ h=>h) h) (Hh hnd) _ _ _ h3
  rwa [C5]at this
theorem fk {i:Nat}(hX:DK C X)(kb:Nat)(l1:List Nat)(iy:Nat)(l2:List Nat)(hl:List.range ops.size=l1++iy::l2)(hnd:EW ops.toList=true)(hR:Lu C E B F l R)
  (h:Cy C X kb ops l1 s True λacc s1=>acc/\Rk C X E F l R kb ops iy l2 Q s1):AC C B none F (.region i ops false) s Q:=by
 refine⟨λhB hd ρ a w hs=>wpIn_region ?_⟩;rw[hl];have hlt:∀j∈l1++iy::l2,j<ops.size:=λj hj=>by rw[<-hl]at hj;exact List.mem_range.1 hj
 have h1:=(FZ (F:=F) (K':=Rk C X E F l R kb ops iy l2 Q) hX (λacc s h=>h) h).2.run (λj hj=>hlt j (by simp[hj])) (Is hB hd) hs;refine FJ (rd:=none) (Q:=Ew C B Q) (l2:=iy::l2) (λe a w h=>?_) (Hh hnd) _ a w h1;obtain⟨h0,s1,ρ1,k1,k2⟩:=h;exact⟨h0,jK hX hR hB hnd (λj hj=>hlt j (by simp[hj])) hd k1 k2⟩
end
section
variable {C:BC} {X:EV} {E:Ff} {l:Nat} {R:LR}
theorem Rj {F F':Aa}{ρ:Lk}{H:Hp}{w:World}(m:Ap C F ρ H w)(h0:F'.w0=F.w0)(hX:F'.X=F.X)(hr:F'.r0=F.r0)(hW:∀b,F.Wr b->F'.Wr b)(hg:∀b,F'.Wr b->C.nG<=b):Ap C F' ρ H w:=by
 obtain⟨a1,a2,a3,a4,a5,a6,a7,a8,a9,a10,a11,a12⟩:=m;refine⟨⟨?_,a1.inj,?_⟩,?_,?_,?_,?_,?_,?_,?_,?_,hg,?_,?_⟩
 ·rw[hX];exact a1.ent
 ·intro e he b hb
  rw[hX,h0];exact⟨(a1.own e he b hb).1,(a1.own e he b hb).2.imp id (hW b)⟩
 ·rw[h0];exact a2
 ·rw[h0];exact a3
 ·rw[h0];exact a4
 ·rw[h0];exact a5
 ·rw[h0];exact λb hb h=>a6 b hb λh'=>h (hW b h')
 ·rw[h0,hX];exact a7
 ·rw[h0];exact a8
 ·rw[h0];exact a9
 ·rw[hr];exact a11
 ·rw[h0];exact a12
def qm (C:BC)(l:Nat)(R:LR)(tt:Nat->Option A0)(rs:List ResultVar)(Φ:Option Code->D->Hp->Nat->Prop)(e:Exit)(F:Aa)(s:St):Prop:=match e with
 | .normal | .ret=>∃j,PI C l R j F/\I3 tt s rs λd=>Φ j d s.H s.n
 |_=>False
theorem Oh.walk {f:Nat}{i:FI}{args:List D}{H:Hp}{n:Nat}{Φ:Option Code->D->Hp->Nat->Prop}(hX:DK C X)(hE:Ff.ok E)(hf:JF C.P f i)(hnt:Nat.ble args.length i.nt=true)
  (h:∀B F:Aa,Lu C E B F l R->AC C B none F i.code ⟨DN 0 args,H,n⟩ (qm C l R X.tt i.res Φ)):Oh C E f args l R H n Φ:=by
 obtain⟨fn,hf,hb,hn,hd,hni,hres⟩:=hf;rw[<-hni]at hnt;refine⟨⟨fn,i.code,hf,hb,hn⟩,λF ρ w vs m hFl hng hEw hlw hfr hg hvs hr=>?_⟩;have hnt:=Bi hnt;refine(KE (rd:=none) (n:=0)).1 (callsIn_of_wp_marks hf hb AB ?_);have hltl:l<w.heap.size:=(Array.getElem?_eq_some_iff.1 hlw).1;have hol:∀e∈H,∀b,ρ e.k e.g=some b->b≠l:=λe he b hb hbl=>(m.hok.own e he b hb).1 (by rw[hbl];exact hFl)
 have ent:∀Z:Nat->Prop,(∀b,Z b->b=l)->Ap C (Aa.subZ ρ H w fn.ntmps F.X Z []) ρ H w:=λZ hZ=>m.enterZ (.refl _ _ _) rfl rfl rfl (λ_ _ _=>rfl) (λe he b hb hz=>hol e he b hb (hZ b hz)) (λb hb=>CX (m.xlt b hb) m.size)
  (λe he b hb=>(m.hok.own e he b hb).1) (λb hz=>by rw[hZ b hz];exact hng) _ _
 let B:=Aa.subZ ρ H w fn.ntmps F.X (λb=>b=l) []
 let F0:=Aa.subZ ρ H w fn.ntmps F.X (λ_=>False) []
 have mB:Ap C B ρ H w:=ent _ λ_ h=>h
 have mF:Ap C F0 ρ H w:=ent _ λ_ h=>h.elim
 have hBg:∀b,B.Wr b->C.nG<=b:=mB.gw;have upB:∀ {ρ':Lk} {H':Hp} {w':World},Ap C (F0.wr l) ρ' H' w'->Ap C B ρ' H' w':=λm'=>Rj m' rfl rfl rfl (λb hb=>by
  rcases hb with(hb|hb)|hb
  ·exact .inl hb
  ·exact hb.elim
  ·exact .inr hb) hBg
 have upF:∀ {ρ':Lk} {H':Hp} {w':World},Ap C F0 ρ' H' w'->Ap C B ρ' H' w':=λm'=>upB (m'.wr hng)
 have hB:Cx C B F0:=⟨rfl,Af _,upF,λ_ h=>h,[],rfl,[],rfl,.nil,by simp⟩
 have mw:=m.wr hng;have lv:∀ {ρ':Lk} {H':Hp} {w':World},Ap C B ρ' H' w'->Ap C (F.wr l) ρ' H' w'/\BW ρ (AN F.X ρ H) w ρ' (AN F.X ρ' H') w':=λ{ρ' H' w'} m'=>by
  obtain⟨q1,q2⟩:=mw.leaveZ (X':=F.X) (Z:=λb=>b=l) (λ_ h=>h) (λb hb=>.inr (.inr hb)) m';refine⟨q1,?_⟩
  have:(λb=>AN F.X ρ H b\/b=l)=AN F.X ρ H:=funext λb=>propext ⟨λh=>h.elim id λh=>.inl (by rw[h];exact hFl),.inl⟩
  have q2:BW ρ (λb=>AN F.X ρ H b\/b=l) w ρ' (AN F.X ρ' H') w':=q2
  rwa [this]at q2
 have hR:Lu C E B F0 l R:=⟨hFl,λh=>by
  rcases h with⟨e,he,h⟩|h
  ·exact hol e he l h rfl
  ·exact h.elim,hlw,upB,hng,rfl,λ{ρ' H' w'} m'=>hE _ _ _ _ _ _ hEw (lv (upF m')).2⟩
 have sat:Bl C F0 ρ ⟨DN 0 args,H,n⟩ { tmps:=vs++Array.replicate (fn.ntmps-vs.size) undef,defers:=[] } w:=
  ⟨mF,hfr,hg,OZ hvs hr,by simp[F0,Aa.subZ];omega,rfl⟩
 refine wpIn_mono ((h B F0 hR).out hB hd ρ _ w sat) ?_;rintro e a' w' ⟨F',s',ρ',hF,hq,hs'⟩;have key:(∃j,PI C l R j F'/\I3 X.tt s' i.res λd=>Φ j d s'.H s'.n)->LeavesInM (fw none) 0 C.P fn a'.tmps (RE C F l R ρ H w Φ) a'.defers .returning w':=λ⟨j,hst,hq⟩=>by
  obtain⟨d,p,h1,h2,h3⟩:=Qm hq;rw[<-hres]at h1;obtain⟨v,w2,_,hl,mB2,r2,hXX,x,hbl,hsz,F2,m2,hX2⟩:=hF.finish hX.tt rfl hs' h1 h2;obtain⟨m',x'⟩:=lv mB2;exact hl _ ⟨v,j,d,_,_,ρ',rfl,h3,(hbl l hltl).trans (hst hs'.mem),m',x',hs'.fresh,hs'.gen,r2.anti λb hb=>hb.imp (hXX b) id⟩
 cases e with
 |normal=>exact key hq
 |ret=>exact key hq
 |_=>exact hq.elim
def Gp:List Nat->List D->Ar->Ar
 |t::ts,d::ds,env=>Gp ts ds ((t,d)::env)
 |_,_,env=>env
theorem XO:∀(ps:List Nat) (ds:List D) (env:Ar) (tm:Array Value) (vs:List Value) {ρ:Lk} {O:Nat->Prop} {w:World},vs.length=ds.length->(∀t∈ps,t<tm.size) ->
  (∀t,AV ρ O w (env.get t) (tm.getD t undef))->(∀(i:Nat) (d:D),ds[i]?=some d->AV ρ O w d (vs.getD i undef)) ->
  ∀t,AV ρ O w ((Gp ps ds env).get t) (((ps.zip vs).foldl (λtmps (x:Nat×Value)=>tmps.setIfInBounds x.1 x.2) tm).getD t undef)
 | [],_,_,_,_,_,_,_,_,_,h,_=>by simpa[Gp]using h
 |p::ps,[],env,tm,vs,_,_,_,hl,_,h,_=>by
  have:vs=[]:=FU (by simpa using hl)
  subst this;simpa[Gp]using h
 |p::ps,d::ds,env,tm,[],_,_,_,hl,_,_,_=>by simp at hl
 |p::ps,d::ds,env,tm,v::vs,ρ,O,w,hl,hp,h,hr=>by
  intro t;simp only[Gp,List.zip_cons_cons,List.foldl_cons];refine XO ps ds _ _ vs (by simpa using hl) (λt ht=>by simp;exact hp t (by simp[ht])) (λt=>?_) (λi d hd=>?_) t
  ·rw[IY]
   have h0:=hr 0 d (by simp);simp at h0
   by_cases hpt:p=t
   ·subst hpt
    rw[AG rfl,A7,IZ,AG rfl,AG (hp p (by simp))];exact h0
   ·rw[AF hpt,A7,IZ,AF hpt,<-A7]
    exact h t
  ·have:=hr (i+1) d (by simpa using hd)
   simpa using this
theorem WI:∀(l:List (Nat×Value)) (tm:Array Value),(l.foldl (λtmps (x:Nat×Value)=>tmps.setIfInBounds x.1 x.2) tm).size=tm.size
 | [],_=>rfl
 |x::l,tm=>by rw[List.foldl_cons,WI l];simp
def mr:Exit->Option (Option Code)
 | .normal=>some none
 | .ret=>some (some .ret)
 | .exit i=>some (some (.exit i))
 | .goto t=>some (some (.goto t))
 |_=>none
def Zp (Φ:Option Code->Hp->Nat->Prop)(e:Exit)(_:Aa)(s:St):Prop:=match mr e with
 |some j=>Φ j s.H s.n
 |none=>False
variable {F:Aa}
theorem nJ {ps:Array Nat}{as bd:Code}{fn dfs:Nat}{tm:Array Value}{env:Ar}{ρ1:Lk}{O1:Nat->Prop}{w1:World}{nt:Nat}(htm:tm.size=nt)(hps:∀t∈ps,t<nt)(hda:DM nt as=true)(hdb:DM nt bd=true)
  (henv:∀t,AV ρ1 O1 w1 (env.get t) (tm.getD t undef)) {ds:List D} {H:Hp} {n:Nat} {Φ:Option Code->Hp->Nat->Prop} (hds:ds.length=ps.size)
  (h:∀F:Aa,AC C F (some l) F as ⟨Gp ps.toList ds env,H,n⟩ λe F' s=>e=.normal/\F'=F/\∀F':Aa,AC C F' (some l) F' bd s (Zp Φ)):
  RC C (λρ O w=>BW ρ1 O1 w1 ρ O w) l ⟨fn,tm,ps,as,bd,dfs⟩ ds H n Φ:=by
 intro F ρ w vs m hFl hng hEw hlw hfr hg hvs hr;refine⟨hvs.trans hds,?_⟩;have hltl:l<w.heap.size:=(Array.getElem?_eq_some_iff.1 hlw).1;have mw:=m.wr hng;have hol:∀ {ρ':Lk} {H':Hp} {w':World},Ap C (F.wr l) ρ' H' w'->∀e∈H',∀b,ρ' e.k e.g=some b->b≠l:=λm' e he b hb hbl=>(m'.hok.own e he b hb).1 (by show F.X b;rw[hbl];exact hFl)
 have ent:∀ {ρ':Lk} {H':Hp} {w':World},Ap C (F.wr l) ρ' H' w'->Ap C (Aa.subZ ρ' H' w' nt F.X (λ_=>False) []) ρ' H' w':=λm'=>m'.enterZ (.refl _ _ _) rfl rfl rfl (λ_ _ _=>rfl) (λ_ _ _ _ h=>h) (λb hb=>CX (m'.xlt b hb) m'.size)
  (λe he b hb=>(m'.hok.own e he b hb).1) (λb hz=>hz.elim) _ _
 have lv:∀ {ρ':Lk} {H':Hp} {w':World} {ρ2:Lk} {H2:Hp} {w2:World},Ap C (F.wr l) ρ' H' w'->Ap C (Aa.subZ ρ' H' w' nt F.X (λ_=>False) []) ρ2 H2 w2->Ap C (F.wr l) ρ2 H2 w2/\BW ρ' (AN F.X ρ' H') w' ρ2 (AN F.X ρ2 H2) w2:=λ{ρ' H' w' ρ2 H2 w2} m' m2=>by
  obtain⟨q1,q2⟩:=m'.leaveZ (X':=F.X) (Z:=λ_=>False) (λ_ h=>h) (λb hb=>hb.elim) m2;refine⟨q1,?_⟩
  have:(λb=>AN F.X ρ' H' b\/False)=AN F.X ρ' H':=funext λb=>propext ⟨λh=>h.elim id False.elim,.inl⟩
  have q2:BW ρ' (λb=>AN F.X ρ' H' b\/False) w' ρ2 (AN F.X ρ2 H2) w2:=q2
  rwa [this]at q2
 have lat:∀ {ρ':Lk} {H':Hp} {w':World} {ρ2:Lk} {H2:Hp} {w2:World},Ap C (F.wr l) ρ' H' w'->l<w'.heap.size->Ap C (Aa.subZ ρ' H' w' nt F.X (λ_=>False) []) ρ2 H2 w2->w2.heap[l]?=w'.heap[l]?:=λm' hl m2=>m2.blk l hl λh=>by
  rcases h with⟨e,he,h⟩|h
  ·exact hol m' e he l h rfl
  ·exact h
 refine roundIn_of_wpIn AB ?_
 let Fa:=Aa.subZ ρ H w nt F.X (λ_=>False) []
 have sata:Bl C Fa ρ ⟨Gp ps.toList ds env,H,n⟩ { tmps:=(ps.zip vs).foldl (λtmps (t,a)=>tmps.setIfInBounds t a) tm,defers:=[] } w:=by
  refine⟨ent mw,hfr,hg,λt=>?_,?_,rfl⟩
  ·have:=XO ps.toList ds env tm vs.toList (ρ:=ρ) (O:=AN F.X ρ H) (w:=w) (by simpa using hvs) (λt ht=>by rw[htm];exact hps t (by simpa using ht)) (λt=>(henv t).mono hEw) (λi d hd=>by
    have:=hr i d hd
    simpa[A7,DR]using this) t
   rw[<-Array.foldl_toList,Array.toList_zip];exact this
  ·show((ps.zip vs).foldl (λtmps (t,a)=>tmps.setIfInBounds t a) tm).size=nt
   rw[<-Array.foldl_toList];exact(WI _ _).trans htm
 refine wpIn_mono ((h Fa).out (.refl Fa) hda ρ _ w sata) ?_;rintro e a2 w2 ⟨F2,s2,ρ2,hF2,⟨rfl,hFF,hbody⟩,hs2⟩;subst hFF;obtain⟨m2,x2⟩:=lv mw (hF2.mem hs2.mem);have hl2:w2.heap[l]?=some (LR.obj ⟨fn,tm,ps,as,bd,dfs⟩ none):=(lat mw hltl (hF2.mem hs2.mem)).trans hlw;refine⟨_,run_beginRound (r:=LR.lp ⟨fn,tm,ps,as,bd,dfs⟩ .ready none) hl2 rfl,?_⟩;have m3:=m2.putL hFl (.inr rfl) (r:=LR.lp ⟨fn,tm,ps,as,bd,dfs⟩ .ready none) hl2 (.loop { LR.lp ⟨fn,tm,ps,as,bd,dfs⟩ .ready none with state:=.busy });have x3:=BW.putL (ρ:=ρ2) (O:=AN F.X ρ2 s2.H) (w:=w2) (.inl hFl) (r:=LR.lp ⟨fn,tm,ps,as,bd,dfs⟩ .ready none) hl2 (.loop { LR.lp ⟨fn,tm,ps,as,bd,dfs⟩ .ready none with state:=.busy });generalize hw3:w2.putObj l (.loop { LR.lp ⟨fn,tm,ps,as,bd,dfs⟩ .ready none with state:=.busy })=w3 at m3 x3⊢;have hlt2:l<w2.heap.size:=(Array.getElem?_eq_some_iff.1 hl2).1;have hl3:w3.heap[l]?=some (.loop { LR.lp ⟨fn,tm,ps,as,bd,dfs⟩ .ready none with state:=.busy }):=by rw[<-hw3];exact World.putObj_heap_same hlt2
 let Fb:=Aa.subZ ρ2 s2.H w3 nt F.X (λ_=>False) []
 have satb:Bl C Fb ρ2 s2 a2 w3:=⟨ent m3,hs2.fresh,hs2.gen,λt=>(hs2.env t).mono x3,hs2.nt,hs2.dfr⟩
 refine wpIn_mono ((hbody Fb).out (.refl Fb) hdb ρ2 _ w3 satb) ?_;rintro e a4 w4 ⟨F4,s4,ρ4,hF4,hq,hs4⟩;obtain⟨m4,x4⟩:=lv m3 (hF4.mem hs4.mem);have hl4:w4.heap[l]?=some (.loop { LR.lp ⟨fn,tm,ps,as,bd,dfs⟩ .ready none with state:=.busy }):=(lat m3 (Array.getElem?_eq_some_iff.1 hl3).1 (hF4.mem hs4.mem)).trans hl3;have fin:∀j,Φ j s4.H s4.n->∃v w',(Instr.endRound l j).run C.P w4=.ok v w'/\RE C F l ⟨fn,tm,ps,as,bd,dfs⟩ ρ H w (λj d H' n'=>d=Aq j.isNone/\Φ j H' n') (.returned v) w':=λj hj=>by
  refine⟨_,_,run_endRound j hl4,_,j,Aq j.isNone,s4.H,s4.n,ρ4,rfl,⟨rfl,hj⟩,World.putObj_heap_same (Array.getElem?_eq_some_iff.1 hl4).1,m4.putL hFl (.inr rfl) hl4 _,((x2.trans x3).trans x4).trans (BW.putL (.inl hFl) hl4 _),hs4.fresh,hs4.gen,.prim _⟩
 cases e with
 |normal=>exact fin none hq
 |ret=>exact fin _ hq
 |exit i=>exact fin _ hq
 |goto t=>exact fin _ hq
 |panic c=>exact hq.elim
 |outgrown=>exact hq.elim
def yd (Q:Exit->Aa->St->Prop)(F:Aa)(s:St)(j:Option Code):Prop:=match j with
 |none=>Q .normal F s
 |some .ret=>Q .ret F s
 |some (.exit i)=>Q (.exit i) F s
 |some (.goto t)=>Q (.goto t) F s
 |some _=>False
theorem Ff.ext {ρ1:Lk}{O1:Nat->Prop}{w1:World}:Ff.ok (λρ O w=>BW ρ1 O1 w1 ρ O w):=λ_ _ _ _ _ _ h k=>h.trans k
theorem AC.rangeFunc {B:Aa}{s:St}{Q:Exit->Aa->St->Prop}{g:Operand}{ps:Array Nat}{as bd:Code}{fi:Nat}{first captured:List D}{Ψ:Option Code->D->Hp->Nat->Prop}(hg:BI s.env g=.clo (.func fi) first captured)
  (YS:List D->Hp->Nat->(Option Code->Hp->Nat->Prop)->Prop)
  (hbody:∀l ds H n Φ,YS ds H n Φ->ds.length=ps.size/\∀F:Aa,AC C F (some l) F as ⟨Gp ps.toList ds s.env,H,n⟩ λe F' s=>e=.normal/\F'=F/\∀F':Aa,AC C F' (some l) F' bd s (Zp Φ))
  (hiter:∀(E:Ff) (l:Nat) (R:LR),Ff.ok E->(∀ds H n Φ,YS ds H n Φ->RC C E l R ds H n Φ)->Oh C E fi (first++[.clo (.yield l) [] []]++captured) l R s.H s.n Ψ)
  (hend:∀j d H' n' F',Ψ j d H' n'->yd Q F' ⟨s.env,H',n'⟩ j):AC C B none F (.rangeFunc g ps as bd) s Q:=by
 refine⟨λhB hd ρ a w hs=>?_⟩;simp only[DM,BR]at hd;have hps:∀t∈ps,t<B.nt:=λt ht=>Nat.blt_eq.mp (CQ.1 hd.1 t (by simpa using ht))
 have hgr:=DL hs.env g;rw[hg]at hgr;generalize hv:a.eval g=gv at hgr;cases hgr with
 |clo hnf hnc hr1 hr2=>
 rename_i fs cs;refine wpIn_rangeFunc λfn _=>?_
 let l:=w.heap.size+1
 let d:=w.heap.size
 let R:LR:=⟨fn,a.tmps,ps,as,bd,d⟩
 let w1:=(w.alloc (.deferred (some []))).alloc (R.obj none)
 have hw1s:w1.heap.size=w.heap.size+2:=by simp only[w1,World.size_alloc]
 have hold:∀b,b<w.heap.size->w1.heap[b]?=w.heap[b]?:=λb hb=>by
  show((w.alloc _).alloc _).heap[b]?=_;rw[EI,AF (by rw[World.size_alloc];omega),EI,AF (by omega)]
 have hdw:w1.heap[d]?=some (.deferred (some [])):=by
  show((w.alloc _).alloc _).heap[w.heap.size]?=_;rw[EI,AF (by rw[World.size_alloc];omega),EI,AG rfl]
 have hlw:w1.heap[l]?=some (R.obj none):=by
  show((w.alloc _).alloc _).heap[w.heap.size+1]?=_;rw[EI,AG (by rw[World.size_alloc])]
 have m:=hs.mem
 let X1:Nat->Prop:=λb=>F.X b\/b=l\/b=d
 have hown:∀e∈s.H,∀b,ρ e.k e.g=some b->b<w.heap.size:=λe he b hb=>m.lt he hb
 have x:BW ρ (AN F.X ρ s.H) w ρ (AN X1 ρ s.H) w1:=by
  refine⟨by omega,λ_ _ _ h=>h,λb hb hO=>⟨?_,hold b hb⟩,λb cs T fz h=>⟨cs,fz,?_,rfl⟩⟩
  ·rintro((h|h|h)|h)
   ·exact hO (.inl h)
   ·simp only[l]at h;omega
   ·simp only[d]at h;omega
   ·exact hO (.inr h)
  ·rw[hold b (Array.getElem?_eq_some_iff.1 h).1];exact h
 have hng:C.nG<=l:=by
  have:=m.gn;have:=m.size
  simp only[l];omega
 have m1:Ap C (Aa.subZ ρ s.H w1 F.nt X1 (λb=>b=l) ([d].map (λr=>({ target:=.collected r,args:=#[] }:Deferred))++F.df)) ρ s.H w1:=by
  refine m.enterZ x rfl rfl rfl (λb hb _=>hold b hb) (λe he b hb hbl=>?_) (λb hb=>?_) (λe he b hb hb'=>?_) (λb hb=>by rw[hb];exact hng) _ _
  ·have:=hown e he b hb
   simp only[l]at hbl;omega
  ·rcases hb with h|h|h
   ·have:=m.xlt b h;have:=m.size;omega
   ·simp only[l]at h;omega
   ·simp only[d]at h;omega
  ·have h1:=hown e he b hb
   rcases hb' with h|h|h
   ·exact(m.hok.own e he b hb).1 h
   ·simp only[l]at h;omega
   ·simp only[d]at h;omega
 have mo:Ap C F ρ s.H w1:=m.same ⟨by omega,λ_ _ _ h=>h,λb hb hO=>⟨hO,hold b hb⟩,λb cs T fz h=>⟨cs,_,by rw[hold b (Array.getElem?_eq_some_iff.1 h).1];exact h,rfl⟩⟩ rfl rfl rfl hold;have hF1:Cx C F (Aa.subZ ρ s.H w1 F.nt X1 (λb=>b=l) ([d].map (λr=>({ target:=.collected r,args:=#[] }:Deferred))++F.df)):=by
  refine Cx.subZ mo (λb hb=>.inl hb) (λb hb=>.inl ?_) [d] (by simp) λr hr=>?_
  ·have:=m.size
   rw[hb];simp only[l];omega
  ·simp only[List.mem_singleton]at hr
   subst hr;refine⟨m.size,by simp only[d];omega,.inr (.inr rfl),⟨by simp only[d,l];omega,λe he h=>?_⟩,hdw⟩
   have:=hown e he d h
   simp only[d]at this;omega
 have hB1:=hB.trans hF1;generalize hF1d:Aa.subZ ρ s.H w1 F.nt X1 (λb=>b=l) ([d].map (λr=>({ target:=.collected r,args:=#[] }:Deferred))++F.df)=F1 at m1 hF1 hB1;have hF1X:F1.X=X1:=by rw[<-hF1d];rfl
 have hF1W:F1.Wr l:=by rw[<-hF1d];exact .inr rfl
 have hXl:F1.X l:=by rw[hF1X];exact .inr (.inl rfl)
 have henv1:∀t,AV ρ (AN F1.X ρ s.H) w1 (s.env.get t) (a.tmps.getD t undef):=λt=>by rw[hF1X];exact(hs.env t).mono x
 have hc:=hiter (λρ' O w'=>BW ρ (AN F1.X ρ s.H) w1 ρ' O w') l R Ff.ext λds H n Φ hY=>by
  obtain⟨q1,q2⟩:=hbody l ds H n Φ hY;exact nJ (nt:=B.nt) (by rw[hs.nt];exact hB.nt) hps hd.2.1 hd.2.2 henv1 q1 q2
 have hargs:(fs ++ #[Value.func (.yield l) #[] #[]]++cs).size=(first++[D.clo (.yield l) [] []]++captured).length:=by simp[hnf,hnc];omega
 have hcall:=hc.2 F1 ρ w1 (fs ++ #[Value.func (.yield l) #[] #[]]++cs) m1 hXl hng (.refl _ _ _) hlw hs.fresh hs.gen hargs λi dd hdd=>by
  rw[De]at hdd;rw[ME];rcases BH i first.length with hi|hi
  ·rw[Fj hi]at hdd
   have:(fs++(#[Value.func (.yield l) #[] #[]]++cs)).getD i undef=fs.getD i undef:=by
    simp only[A7];rw[Ga (by omega)]
   rw[this,hF1X];exact(hr1 i dd hdd).mono x
  ·rw[En hi]at hdd
   have e1:(fs++(#[Value.func (.yield l) #[] #[]]++cs)).getD i undef=(#[Value.func (.yield l) #[] #[]]++cs).getD (i-first.length) undef:=by
    simp only[A7];rw[GZ (by omega),hnf]
   rw[e1];cases hk:i-first.length with
   |zero=>
    rw[hk]at hdd;simp at hdd;subst hdd
    have:(#[Value.func (.yield l) #[] #[]]++cs).getD 0 undef=Value.func (.yield l) #[] #[]:=by
     rw[A7,Ga (by simp)];rfl
    rw[this];exact .clo rfl rfl (by simp) (by simp)
   |succ k=>
    rw[hk]at hdd;have hdd:captured[k]?=some dd:=by simpa using hdd
    have:(#[Value.func (.yield l) #[] #[]]++cs).getD (k+1) undef=cs.getD k undef:=by
     simp only[A7];rw[GZ (by simp)];simp
    rw[this,hF1X];exact(hr2 k dd hdd).mono x
 refine⟨l,[{ target:=.collected d,args:=#[] }],w1,{ target:=.fn (.func fi) cs,args:=fs ++ #[Value.func (.yield l) #[] #[]] },w1,fi,fs ++ #[Value.func (.yield l) #[] #[]]++cs,w1,run_enterLoop_outer _ _ _ _ _,?_,λ_ _=>trivial,?_,LQ,KE.2 (hcall.mono ?_)⟩
 ·unfold resolve
  simp only[hv];have e:(#[Operand.const (Value.func (.yield l) #[] #[])]).map a.eval = #[Value.func (.yield l) #[] #[]]:=by simp[Act.eval]
  rw[e];rfl
 ·unfold invoke
  exact Sr hc.1 _ w1
 ·rintro e w' ⟨v,j,dd,H',n',ρ',rfl,hΨ,hl',m',x',fr,gn,rep⟩
  have hend':=hend j dd H' n' F1 hΨ;have m'':Ap C F1 ρ' H' w':=Rj m' rfl rfl rfl (λb hb=>by
   rcases hb with hb|hb
   ·exact hb
   ·rw[hb];exact hF1W) m1.gw
  have m3:=m''.putL hXl hF1W (r:=R.lp (if j.isNone then .ready else .done) j) hl' (.loop { R.lp (if j.isNone then .ready else .done) j with state:=.exhausted });have x3:=BW.putL (ρ:=ρ') (O:=AN F1.X ρ' H') (w:=w') (.inl hXl) (r:=R.lp (if j.isNone then .ready else .done) j) hl' (.loop { R.lp (if j.isNone then .ready else .done) j with state:=.exhausted });refine⟨j,_,run_endLoop (r:=R.lp (if j.isNone then .ready else .done) j) hl' (by cases j<;>simp[LR.lp]),?_⟩;generalize w'.putObj l (.loop { R.lp (if j.isNone then .ready else .done) j with state:=.exhausted })=w3 at m3 x3⊢;have sat:Bl C F1 ρ' ⟨s.env,H',n'⟩ { a with defers:=[{ target:=.collected d,args:=#[] }]++a.defers } w3:=by
   refine⟨m3,fr,gn,λt=>((henv1 t).mono x').mono x3,?_,?_⟩
   ·show a.tmps.size=_
    rw[hs.nt,hF1.nt]
   ·show _++a.defers=_
    rw[hs.dfr,<-hF1d];rfl
  cases j with
  |none=>exact⟨F1,_,ρ',hB1,hend',sat⟩
  |some c=>
   cases c<;>first|exact hend'.elim|skip
   ·exact wpIn_exit ⟨F1,_,ρ',hB1,hend',sat⟩
   ·exact wpIn_goto ⟨F1,_,ρ',hB1,hend',sat⟩
   ·exact wpIn_ret ⟨F1,_,ρ',hB1,hend',sat⟩
end
section
variable {C:BC} {X:EV} {B F:Aa} {ops:Array Oper} {s:St} {rd:Option Nat} {Q:Exit->Aa->St->Prop}
structure Mm (C:BC)(B F:Aa)(k g:Nat)(str:ByteArray)(pos:Nat):Prop where
 ex:∃it,F.r0 k g=some it/\F.X it/\¬F.Wr it/\F.w0.heap[it]?=some (.stringIter str pos)/\C.nG<=it/\∀ {ρ:Lk} {H:Hp} {w:World},Ap C (F.wr it) ρ H w->Ap C B ρ H w
 df:F.df=B.df
theorem BW.putX {ρ:Lk}{O:Nat->Prop}{w:World}{l:Nat}(hO:O l){o0:Obj}(hc:∀cs T fz,o0≠.cells cs T fz)(h:w.heap[l]?=some o0)(o:Obj):BW ρ O w ρ O (w.putObj l o):=
 ⟨by rw[(JI w l o).2.2.2];exact Af _,λ_ _ _ h=>h,λb hb hb'=>⟨hb',World.putObj_heap_other λhbl=>hb' (by rw[hbl];exact hO)⟩,λb cs T fz hh=>⟨cs,_,by
  rw[World.putObj_heap_other λhbl=>by rw[hbl,h]at hh;exact hc _ _ _ (F7 hh)];exact hh,rfl⟩⟩
theorem Ap.putX {ρ:Lk}{H:Hp}{w:World}{l:Nat}(m:Ap C F ρ H w)(hX:F.X l)(hW:F.Wr l){o0:Obj}(hc:∀cs T fz,o0≠.cells cs T fz)(h:w.heap[l]?=some o0)(o:Obj):Ap C F ρ H (w.putObj l o):=by
 have x:=BW.putX (ρ:=ρ) (O:=AN F.X ρ H) (.inl hX) hc h o;exact⟨⟨λe he=>by
  rcases m.hok.ent e he with h|⟨b,cs,a1,a2,a3⟩
  ·exact .inl h
  ·exact .inr ⟨b,cs,a1,by rw[World.putObj_heap_other λhb=>(m.hok.own e he b a1).1 (by rw[hb];exact hX)];exact a2,a3.mono x⟩,m.hok.inj,m.hok.own⟩,
  m.os,m.tape,m.output,by rw[(JI w l o).2.2.2];exact m.size,λb hb hw=>by rw[World.putObj_heap_other λhbl=>hw (by rw[hbl];exact hW)];exact m.blk b hb hw,m.xlt,m.g0,m.gn,m.gw,m.lnk,IF m.shp x⟩
def Ux (C:BC)(X:EV)(B:Aa)(kb:Nat)(ops:Array Oper)(ir:Nat)(Q:Exit->Aa->St->Prop)(s:St):Prop:=match DQ ops.toList ir with
 |some o=>match o.guard with
  |none=>match o.op with
   | .range t x=>match X.tt t with
    |some i=>match i.ti with
     | .string=>match BI s.env x with
      | .prim (.string str)=>∀F':Aa,Mm C B F' kb s.n str 0->Q .normal F' ⟨Bb s.env o.dst (.optr kb s.n 0 0 0),s.H,s.n+1⟩
      |_=>False
     |_=>False
    |none=>False
   |_=>False
  |some _=>False
 |none=>False
theorem gB {F2:Aa}{ρ':Lk}{H':Hp}{w':World}{X':Nat->Prop}(hB:Cx C B F)(hdf:F.df=B.df)(hX:∀b,F.X b->X' b)(hsz:B.w0.heap.size<=w'.heap.size)(hm:∀ {ρ:Lk} {H:Hp} {w:World},Ap C (Aa.subZ ρ' H' w' F.nt X' (λ_=>False) F.df) ρ H w->Ap C B ρ H w)
  (h2:F2=Aa.subZ ρ' H' w' F.nt X' (λ_=>False) F.df):Cx C B F2:=by
 subst h2;exact⟨hB.nt,hsz,hm,λb hb=>hX b (hB.X b hb),[],hdf,[],rfl,.nil,by simp⟩
theorem zK {i:Nat}(hX:DK C X)(kb:Nat)(l1:List Nat)(ir:Nat)(hl:List.range ops.size=l1++[ir])(hnd:EW ops.toList=true)(hFB:F=B)
  (h:Cy C X kb ops l1 s True λacc s1=>acc/\Ux C X B (kb+ir) ops ir Q s1):AC C B rd F (.region i ops false) s Q:=by
 subst hFB;refine⟨λhB hd ρ a w hs=>wpIn_region ?_⟩;rw[hl];have hlt:∀j∈l1++[ir],j<ops.size:=λj hj=>by rw[<-hl]at hj;exact List.mem_range.1 hj
 have h1:=(FZ (F:=F) (K':=Ux C X F (kb+ir) ops ir Q) hX (λacc s h=>h) h).2.run (λj hj=>hlt j (by simp[hj])) (Is hB hd) hs;refine FJ (rd:=rd) (Q:=Ew C F Q) (l2:=[ir]) (λe a w h=>?_) (Hh hnd) _ a w h1;obtain⟨h0,s1,ρ1,h,hs1⟩:=h;refine⟨h0,?_⟩;unfold Ux at h;split at h<;>first|exact h.elim|skip
 rename_i o ho;split at h<;>first|exact h.elim|skip
 rename_i hgd;split at h<;>first|exact h.elim|skip
 rename_i t x hop;split at h<;>first|exact h.elim|skip
 rename_i ti hti;split at h<;>first|exact h.elim|skip
 rename_i hstr;split at h<;>first|exact h.elim|skip
 rename_i str hx;have ho:=LS ho;have hdo:Dk F.nt o=true:=CQ.1 (show ops.toList.all (Dk F.nt)=true from hd) o (Array.mem_toList_iff.2 (Ig ho));simp only[wpOpsIn,ho];rw[AG (by unfold Region.wanted;rw[hgd])];have hxv:a.eval x=.string str:=by
  have:=DL hs1.env x
  rw[hx]at this;generalize a.eval x=v at this;cases this;rfl
 have hrun:(execOp a.eval o).run C.P w=.ok (.value (.pointer (some ⟨w.heap.size,0,none⟩))) (w.alloc (.stringIter str 0)):=by
  unfold execOp;simp only[hop];rw[run_bind]
  have:(Instr.range t (a.eval x)).run C.P w=.ok (.pointer (some ⟨w.heap.size,0,none⟩)) (w.alloc (.stringIter str 0)):=by
   unfold Instr.range;rw[run_bind,Cn (K9 (hX.tt _ _ hti) hstr),hxv];dsimp only;rw[run_bind,run_pure];dsimp only;rw[run_bind,run_newObj_alloc];rfl
  rw[this];rfl
 refine Nz hrun ?_;show Ew C F Q .normal _ _;have m:=hs1.mem
 let it:=w.heap.size
 let X1:Nat->Prop:=λb=>F.X b\/b=it
 have hown:∀e∈s1.H,∀b,ρ1 e.k e.g=some b->b<w.heap.size:=λe he b hb=>m.lt he hb
 have hfr:ρ1 (kb+ir) s1.n=none:=hs1.fresh _ _ (Af _)
 let ρ2:=ρ1.put (kb+ir) s1.n it
 have hput:∀k g b,ρ1 k g=some b->ρ2 k g=some b:=λk g b hb=>NR hfr hb
 have hown2:∀e∈s1.H,∀b,ρ2 e.k e.g=some b->ρ1 e.k e.g=some b:=λe he b hb=>by
  have hg:=hs1.gen e he
  have:ρ2 e.k e.g=ρ1 e.k e.g:=by
   show(if e.k=kb+ir/\e.g=s1.n then some it else ρ1 e.k e.g)=_;rw[AF (by omega)]
  rw[<-this];exact hb
 have hw1:(w.alloc (.stringIter str 0)).heap.size=w.heap.size+1:=World.size_alloc ..;have hold:∀b,b<w.heap.size->(w.alloc (.stringIter str 0)).heap[b]?=w.heap[b]?:=λb hb=>by rw[EI,AF (by omega)]
 have xx:∀X':Nat->Prop,(∀b,b<w.heap.size->X' b->F.X b)->BW ρ1 (AN F.X ρ1 s1.H) w ρ2 (AN X' ρ2 s1.H) (w.alloc (.stringIter str 0)):=λX' hX'=>by
  refine⟨by omega,hput,λb hb hO=>⟨?_,hold b hb⟩,λb cs T fz hc=>⟨cs,_,by rw[hold b (Array.getElem?_eq_some_iff.1 hc).1];exact hc,rfl⟩⟩;rintro(h|⟨e,he,h⟩)
  ·exact hO (.inl (hX' b hb h))
  ·exact hO (.inr ⟨e,he,hown2 e he b h⟩)
 have m1:Ap C F ρ2 s1.H (w.alloc (.stringIter str 0)):=by
  have x1:=xx F.X λ_ _ h=>h
  refine⟨⟨λe he=>?_,m.hok.inj.imp_of_mem λ{e e'} he he' h b b' hb hb'=>h b b' (hown2 e he b hb) (hown2 e' he' b' hb'),λe he b hb=>m.hok.own e he b (hown2 e he b hb)⟩,m.os,m.tape,m.output,by have:=m.size;omega,
   λb hb hW=>by rw[hold b (CX hb m.size)];exact m.blk b hb hW,m.xlt,m.g0,m.gn,m.gw,λk g b h=>hput _ _ _ (m.lnk k g b h),IF m.shp x1⟩
  rcases m.hok.ent e he with⟨h1,h2⟩|⟨b,cs,a1,a2,a3⟩
  ·refine .inl ⟨h1,?_⟩
   cases hb:ρ2 e.k e.g with
   |none=>rfl
   |some b=>rw[hown2 e he b hb]at h2;cases h2
  ·exact .inr ⟨b,cs,hput _ _ _ a1,by rw[hold b (m.lt he a1)];exact a2,a3.mono x1⟩
 have hitm:∀e∈s1.H,∀b,ρ2 e.k e.g=some b->b≠it:=λe he b hb=>by have:=hown e he b (hown2 e he b hb);simp only[it];omega
 have hX1lt:∀b,X1 b->b<(w.alloc (.stringIter str 0)).heap.size:=λb hb=>by
  rcases hb with h|h
  ·have:=m.xlt b h;have:=m.size;omega
  ·simp only[it]at h;omega
 have hX1o:∀e∈s1.H,∀b,ρ2 e.k e.g=some b->¬X1 b:=λe he b hb hb'=>by
  rcases hb' with h|h
  ·exact(m.hok.own e he b (hown2 e he b hb)).1 h
  ·exact hitm e he b hb h
 have e2:∀e∈s1.H,∀b,AN F.X ρ2 s1.H b->AN X1 ρ2 s1.H b:=λ_ _ _ h=>h.imp .inl id
 have hng:C.nG<=it:=by have:=m.gn;have:=m.size;simp only[it];omega
 have ent:∀Z:Nat->Prop,(∀b,Z b->b=it)->Ap C (Aa.subZ ρ2 s1.H (w.alloc (.stringIter str 0)) F.nt X1 Z F.df) ρ2 s1.H (w.alloc (.stringIter str 0)):=λZ hZ=>by
  refine⟨⟨λe he=>?_,m1.hok.inj,λe he b hb=>⟨hX1o e he b hb,.inr (.inl ⟨e,he,hb⟩)⟩⟩,rfl,rfl,rfl,Af _,λ_ _ _=>rfl,hX1lt,m1.g,BX m1.gn m1.size,λb hb=>?_,λ_ _ _ h=>h,λ_ cs _ _ h=>⟨cs,_,h,rfl⟩⟩
  ·rcases m.hok.ent e he with⟨h1,h2⟩|⟨b,cs,a1,a2,a3⟩
   ·rcases m1.hok.ent e he with h|⟨b,cs,b1,_⟩
    ·exact .inl h
    ·rw[hown2 e he b b1]at h2;cases h2
   ·exact .inr ⟨b,cs,hput _ _ _ a1,by rw[hold b (m.lt he a1)];exact a2,a3.mono (xx X1 λb hb h=>h.resolve_right λh=>by simp only[it]at h;omega)⟩
  ·rcases hb with⟨e,he,hb⟩|hb
   ·rcases(m1.hok.own e he b hb).2 with h|h
    ·exact BX m1.gn h
    ·exact m1.gw b h
   ·rw[hZ b hb];exact hng
 let F2:=Aa.subZ ρ2 s1.H (w.alloc (.stringIter str 0)) F.nt X1 (λ_=>False) F.df
 have upZ:∀ {ρ:Lk} {H:Hp} {w':World},Ap C (F2.wr it) ρ H w'->Ap C F ρ H w':=λ{ρ H w'} m'=>by
  have m'':Ap C (Aa.subZ ρ2 s1.H (w.alloc (.stringIter str 0)) F.nt X1 (λb=>b=it) F.df) ρ H w':=Rj m' rfl rfl rfl (λb hb=>by
   rcases hb with(hb|hb)|hb
   ·exact .inl hb
   ·exact hb.elim
   ·exact .inr hb) (ent _ λ_ h=>h).gw
  exact(m1.leaveZ (λb hb=>.inl hb) (λb hb=>.inl (by rw[hb];exact m.size)) m'').1
 have hit:Mm C F F2 (kb+ir) s1.n str 0:=⟨⟨it,EN ..,.inr rfl,λh=>by
  rcases h with⟨e,he,h⟩|h
  ·exact hitm e he it h rfl
  ·exact h,by show(w.alloc _).heap[it]?=_;rw[EI,AG rfl],hng,upZ⟩,rfl⟩
 have hF2:Cx C F F2:=gB hB rfl (λb hb=>.inl hb) (by have:=m.size;show _<=(w.alloc _).heap.size;omega) (λm'=>upZ (m'.wr hng)) rfl;refine⟨F2,_,ρ2,hF2,h F2 hit,?_⟩;have hs2:Bl C F2 ρ2 ⟨s1.env,s1.H,s1.n+1⟩ a (w.alloc (.stringIter str 0)):=⟨ent _ λ_ h=>h.elim,λk g hg=>by
  have hg:s1.n+1<=g:=hg;show(if k=kb+ir/\g=s1.n then some it else ρ1 k g)=none;rw[AF (by omega)];exact hs1.fresh k g (by omega),λe he=>DJ (hs1.gen e he),λt=>(hs1.env t).mono (xx X1 λb hb h=>h.resolve_right λh=>by simp only[it]at h;omega),hs1.nt,hs1.dfr⟩
 exact hs2.put (H':=s1.H) hs2.mem (.refl _ _ _) hs2.fresh hs2.gen (.optr (EN ..)) hdo
def dh (C:BC)(X:EV)(B F:Aa)(kb:Nat)(ops:Array Oper)(i0:Nat)(l2:List Nat)(str:ByteArray)(pos:Nat)(Q:Exit->Aa->St->Prop)(s:St):Prop:=match DQ ops.toList i0 with
 |some o=>match o.guard with
  |none=>match o.op with
   | .next x true=>match BI s.env x with
    | .optr k g 0 0 0=>Mm C B F k g str pos /\
     (pos<str.size->∀F':Aa,Mm C B F' k g str (pos+(Utf8.decode str pos).2)->Cy C X kb ops l2 ⟨Bb s.env o.dst (.tup [Aq true,i64 pos,.prim (.int .i32 (Utf8.decode str pos).1)]),s.H,s.n+1⟩ True λacc s=>acc/\Q .normal F' s) /\
     (¬pos<str.size->Cy C X kb ops l2 ⟨Bb s.env o.dst (.tup [Aq false]),s.H,s.n+1⟩ True λacc s=>acc/\Q .normal F s)
    |_=>False
   |_=>False
  |some _=>False
 |none=>False
theorem zJ {i:Nat}(hX:DK C X)(kb:Nat)(i0:Nat)(l2:List Nat)(hl:List.range ops.size=i0::l2)(hnd:EW ops.toList=true)(str:ByteArray)(pos:Nat)
  (h:dh C X B F kb ops i0 l2 str pos Q s):AC C B rd F (.region i ops false) s Q:=by
 refine⟨λhB hd ρ a w hs=>wpIn_region ?_⟩;rw[hl];have hlt:∀j∈i0::l2,j<ops.size:=λj hj=>by rw[<-hl]at hj;exact List.mem_range.1 hj
 unfold dh at h;split at h<;>first|exact h.elim|skip
 rename_i o ho;split at h<;>first|exact h.elim|skip
 rename_i hgd;split at h<;>first|exact h.elim|skip
 rename_i x hop;split at h<;>first|exact h.elim|skip
 rename_i k g hx;obtain⟨⟨⟨it,i1,i2,i3,i4,i5,i6⟩,idf⟩,h1,h2⟩:=h;have ho:=LS ho;have hdo:Dk B.nt o=true:=CQ.1 (show ops.toList.all (Dk B.nt)=true from hd) o (Array.mem_toList_iff.2 (Ig ho));simp only[wpOpsIn,ho];rw[AG (by unfold Region.wanted;rw[hgd])];have m:=hs.mem;have hlk:ρ k g=some it:=m.lnk _ _ _ i1;have hxv:a.eval x=.pointer (some ⟨it,0,none⟩):=by
  have:=DL hs.env x
  rw[hx]at this;generalize a.eval x=v at this;cases this with
  |optr hr=>rw[hlk]at hr;cases hr;rfl
 have hob:w.heap[it]?=some (.stringIter str pos):=(m.blk it (m.xlt it i2) i3).trans i4;have hget:(getObj it).run C.P w=.ok (.stringIter str pos) w:=by
  simp[getObj,Sem.run,hob]
 by_cases hp:pos<str.size
 ·have hrun:(execOp a.eval o).run C.P w=.ok (.value (.tuple #[.bool true,.int .i64 pos,.int .i32 (Utf8.decode str pos).1])) (w.putObj it (.stringIter str (pos+(Utf8.decode str pos).2))):=by
   unfold execOp;simp only[hop];rw[run_bind]
   have:(Instr.next (a.eval x) true o.type).run C.P w=.ok (.tuple #[.bool true,.int .i64 pos,.int .i32 (Utf8.decode str pos).1]) (w.putObj it (.stringIter str (pos+(Utf8.decode str pos).2))):=by
    unfold Instr.next;rw[hxv];simp only[];rw[run_bind,hget];dsimp only;rw[AG hp];rw[run_bind]
    have:(setObj it (.stringIter str (pos+(Utf8.decode str pos).2))).run C.P w=.ok () (w.putObj it (.stringIter str (pos+(Utf8.decode str pos).2))):=by
     simp[setObj,Sem.run,hob,World.putObj]
    rw[this];rfl
   rw[this];rfl
  refine Nz hrun ?_;have mp:=(m.wr i5).putX i2 (.inr rfl) (o0:=.stringIter str pos) (by simp) hob (.stringIter str (pos+(Utf8.decode str pos).2));have xp:=BW.putX (ρ:=ρ) (O:=AN F.X ρ s.H) (w:=w) (.inl i2) (o0:=.stringIter str pos) (by simp) hob (.stringIter str (pos+(Utf8.decode str pos).2));have hitw:it<w.heap.size:=(Array.getElem?_eq_some_iff.1 hob).1;have hit':(w.putObj it (.stringIter str (pos+(Utf8.decode str pos).2))).heap[it]?=some (.stringIter str (pos+(Utf8.decode str pos).2)):=World.putObj_heap_same hitw;have hszp:=(JI w it (.stringIter str (pos+(Utf8.decode str pos).2))).2.2.2;generalize w.putObj it (.stringIter str (pos+(Utf8.decode str pos).2))=w2 at mp xp hit' hszp⊢
  let F2:=Aa.subZ ρ s.H w2 F.nt F.X (λ_=>False) F.df
  have m2:Ap C F2 ρ s.H w2:=mp.enterZ (.refl _ _ _) rfl rfl rfl (λ_ _ _=>rfl) (λ_ _ _ _ h=>h) (λb hb=>CX (mp.xlt b hb) mp.size) (λe he b hb=>(mp.hok.own e he b hb).1) (λ_ h=>h.elim) _ _;have mZ:Ap C (Aa.subZ ρ s.H w2 F.nt F.X (λb=>b=it) F.df) ρ s.H w2:=mp.enterZ (.refl _ _ _) rfl rfl rfl (λ_ _ _=>rfl) (λe he b hb hb'=>(mp.hok.own e he b hb).1 (by rw[hb'];exact i2)) (λb hb=>CX (mp.xlt b hb) mp.size) (λe he b hb=>(mp.hok.own e he b hb).1) (λb hb=>by rw[hb];exact i5) _ _;have upZ:∀ {ρ':Lk} {H':Hp} {w':World},Ap C (F2.wr it) ρ' H' w'->Ap C B ρ' H' w':=λ{ρ' H' w'} m'=>by
   have m'':Ap C (Aa.subZ ρ s.H w2 F.nt F.X (λb=>b=it) F.df) ρ' H' w':=Rj m' rfl rfl rfl (λb hb=>by
    rcases hb with(hb|hb)|hb
    ·exact .inl hb
    ·exact hb.elim
    ·exact .inr hb) mZ.gw
   exact i6 (mp.leaveZ (λ_ h=>h) (λb hb=>.inr (.inr hb)) m'').1
  have hiter:Mm C B F2 k g str (pos+(Utf8.decode str pos).2):=⟨⟨it,hlk,i2,λh=>by
   rcases h with⟨e,he,h⟩|h
   ·exact(mp.hok.own e he it h).1 i2
   ·exact h,hit',i5,upZ⟩,idf⟩
  have hB2:Cx C B F2:=gB hB idf (λ_ h=>h) (by rw[hszp];exact BX hB.sz m.size) (λm'=>upZ (m'.wr i5)) rfl;have hs1:Bl C F2 ρ ⟨s.env,s.H,s.n+1⟩ a w2:=⟨m2,λk g hg=>hs.fresh k g (by have:s.n+1<=g:=hg;omega),λe he=>DJ (hs.gen e he),λt=>(hs.env t).mono xp,hs.nt,hs.dfr⟩
  have hs2:=hs1.put (H':=s.H) (o:=o) (d:=.tup [Aq true,i64 pos,.prim (.int .i32 (Utf8.decode str pos).1)]) (v:=.tuple #[.bool true,.int .i64 pos,.int .i32 (Utf8.decode str pos).1]) hs1.mem (.refl _ _ _) hs1.fresh hs1.gen (.tup rfl λi d hd=>by
   match i with
   | 0=>simp at hd;subst hd;exact .prim _
   | 1=>simp at hd;subst hd;exact .prim _
   | 2=>simp at hd;subst hd;exact .prim _
   |n+3=>simp at hd) (by rw[show F2.nt=B.nt from hB.nt];exact hdo)
  have h3:=(FZ (F:=F2) (K':=Q .normal F2) hX (λacc s h=>h) (h1 hp F2 hiter)).2.run (λj hj=>hlt j (by simp[hj])) (Is hB2 hd) hs2
  have:=FJ (rd:=rd) (Q:=Ew C B Q) (l2:=[]) (λ_ _ _ h=>JK hB2 (λ_ h=>h) h) (Hh hnd) _ _ _ h3
  rwa [C5]at this
 ·have hrun:(execOp a.eval o).run C.P w=.ok (.value (.tuple #[.bool false])) w:=by
   unfold execOp;simp only[hop];rw[run_bind]
   have:(Instr.next (a.eval x) true o.type).run C.P w=.ok (.tuple #[.bool false]) w:=by
    unfold Instr.next;rw[hxv];simp only[];rw[run_bind,hget];dsimp only;rw[AF hp];rfl
   rw[this];rfl
  refine Nz hrun ?_;have hs1:Bl C F ρ ⟨s.env,s.H,s.n+1⟩ a w:=⟨m,λk g hg=>hs.fresh k g (by have:s.n+1<=g:=hg;omega),λe he=>DJ (hs.gen e he),hs.env,hs.nt,hs.dfr⟩
  have hs2:=hs1.put (H':=s.H) (o:=o) (d:=.tup [Aq false]) (v:=.tuple #[.bool false]) hs1.mem (.refl _ _ _) hs1.fresh hs1.gen (.tup rfl λi d hd=>by
   match i with
   | 0=>simp at hd;subst hd;exact .prim _
   |n+1=>simp at hd) (by rw[hB.nt];exact hdo)
  have h3:=(FZ (F:=F) (K':=Q .normal F) hX (λacc s h=>h) (h2 hp)).2.run (λj hj=>hlt j (by simp[hj])) (Is hB hd) hs2
  have:=FJ (rd:=rd) (Q:=Ew C B Q) (l2:=[]) (λ_ _ _ h=>JK hB (λ_ h=>h) h) (Hh hnd) _ _ _ h3
  rwa [C5]at this
end
section
variable {C:BC} {X:EV} {kb:Nat} {ops:Array Oper} {i:Nat} {l:List Nat} {s:St} {acc:Prop} {K:Prop->St->Prop} {o:Oper}
theorem OA (h:K acc s):Cy C X kb ops [] s acc K:=h
theorem D7 (h:DQ ops.toList i=some o)(hg:o.guard=none)(hk:FY C X (kb+i) (BI s.env) s.H s.n o.op acc λacc d H n=>Cy C X kb ops l ⟨Bb s.env o.dst d,H,n⟩ acc K):Cy C X kb ops (i::l) s acc K:=by
 unfold Cy;simp only[h,hg];exact hk
theorem IE {g:Nat×Bool}{b:Bool}(h:DQ ops.toList i=some o)(hg:o.guard=some g)(hw:CD ops s.env o=some b)(hb:b=true)(ha:acc)
  (hk:FY C X (kb+i) (BI s.env) s.H s.n o.op True λacc d H n=>Cy C X kb ops l ⟨Bb s.env o.dst d,H,n⟩ acc K):Cy C X kb ops (i::l) s acc K:=by
 unfold Cy;simp only[h,hg,hw];subst hb;exact⟨ha,hk⟩
theorem Xl {g:Nat×Bool}{b:Bool}(h:DQ ops.toList i=some o)(hg:o.guard=some g)(hw:CD ops s.env o=some b)(hb:b=false)(ha:acc)
  (hk:Cy C X kb ops l ⟨Bb s.env o.dst (.prim (.tuple #[])),s.H,s.n+1⟩ True K):Cy C X kb ops (i::l) s acc K:=by
 unfold Cy;simp only[h,hg,hw];subst hb;exact⟨ha,hk⟩
section
variable {g:Operand->D} {H:Hp} {n:Nat} {op:Op} {k:Prop->D->Hp->Nat->Prop}
theorem IH {P:Prop->Prop}{d:D}{H':Hp}{n':Nat}(hs:∀acc k,FY C X kb g H n op acc k=k (P acc) d H' n')(hk:k (P acc) d H' n'):FY C X kb g H n op acc k:=by rw[hs];exact hk
theorem MZ {f:Nat}{ds:List D}(hs:∀acc k,FY C X kb g H n op acc k=(acc/\BE C f ds H n λd H n=>k True d H n))(ha:acc)(hc:BE C f ds H n λd H n=>k True d H n):FY C X kb g H n op acc k:=by
 rw[hs];exact⟨ha,hc⟩
theorem U6 {es:List D}{j:Int}{sz esz:Nat}{d:D}(hs:∀acc k,FY C X kb g H n op acc k=(acc/\(sz=esz/\0<=j)/\∃d,es[j.toNat]?=some d/\k True (.pptr d) H (n+1)))(ha:acc)(h1:sz=esz/\0<=j)
  (h2:es[j.toNat]?=some d) (hk:k True (.pptr d) H (n+1)):FY C X kb g H n op acc k:=by
 rw[hs];exact⟨ha,h1,d,h2,hk⟩
end
section
variable {H:Hp} {n:Nat} {env:Ar} {N:Hp} {K:Prop->Ar->Hp->Prop}
theorem QK (h:K acc env N):EL C X kb ops H n [] env N acc K:=h
theorem Ef (h:DQ ops.toList i=some o)(hg:o.guard=none)(hk:EH C X (kb+i) (BI env) H (n+i) o.op acc λacc d ne=>EL C X kb ops H n l (Bb env o.dst d) (Cz ne N) acc K):EL C X kb ops H n (i::l) env N acc K:=by
 unfold EL;simp only[h,hg];exact hk
theorem KI {g:Nat×Bool}{b:Bool}(h:DQ ops.toList i=some o)(hg:o.guard=some g)(hw:CD ops env o=some b)(hb:b=true)(ha:acc)
  (hk:EH C X (kb+i) (BI env) H (n+i) o.op True λacc d ne=>EL C X kb ops H n l (Bb env o.dst d) (Cz ne N) acc K):EL C X kb ops H n (i::l) env N acc K:=by
 unfold EL;simp only[h,hg,hw];subst hb;exact⟨ha,hk⟩
theorem Xk {g:Nat×Bool}{b:Bool}(h:DQ ops.toList i=some o)(hg:o.guard=some g)(hw:CD ops env o=some b)(hb:b=false)(ha:acc)
  (hk:EL C X kb ops H n l (Bb env o.dst (.prim (.tuple #[]))) N True K):EL C X kb ops H n (i::l) env N acc K:=by
 unfold EL;simp only[h,hg,hw];subst hb;exact⟨ha,hk⟩
section
variable {g:Operand->D} {op:Op} {k:Prop->D->Option Ay->Prop}
theorem IG {P:Prop->Prop}{d:D}{ne:Option Ay}(hs:∀acc k,EH C X kb g H n op acc k=k (P acc) d ne)(hk:k (P acc) d ne):EH C X kb g H n op acc k:=by rw[hs];exact hk
theorem LY {f:Nat}{ds:List D}(hs:∀acc k,EH C X kb g H n op acc k=(acc/\BZ C f ds λd=>k True d none))(ha:acc)(hc:BZ C f ds λd=>k True d none):EH C X kb g H n op acc k:=by
 rw[hs];exact⟨ha,hc⟩
theorem Mx {es:List D}{j:Int}{sz esz:Nat}{d:D}(hs:∀acc k,EH C X kb g H n op acc k=(acc/\(sz=esz/\0<=j)/\∃d,es[j.toNat]?=some d/\k True (.pptr d) none))(ha:acc)(h1:sz=esz/\0<=j)
  (h2:es[j.toNat]?=some d) (hk:k True (.pptr d) none):EH C X kb g H n op acc k:=by
 rw[hs];exact⟨ha,h1,d,h2,hk⟩
end
end
end
def DT (H:Hp)(d0 d:D):Prop:=∀(C:BC) (F:Aa) (ρ:Lk) (w:World),Ap C F ρ H w->(∀b,AN F.X ρ [] b->AN F.X ρ H b)->(∀e∈H,∀b,ρ e.k e.g=some b->¬AN F.X ρ [] b) ->
 ∀v,AV ρ (AN F.X ρ H) w d0 v->AV ρ (AN F.X ρ []) w d v
theorem DT.refl (H:Hp)(d:D):DT H d d:=λ_ _ _ _ _ hO _ _ hv=>hv.anti hO
theorem DT.clo1 {H:Hp}{fn:Fn}{c c':D}(h:DT H c c'):DT H (.clo fn [] [c]) (.clo fn [] [c']):=λC F ρ w m hO hN v hv=>by
 cases hv with
 |clo hf hc h1 h2=>
  refine .clo hf (by simpa using hc) (λi d hd=>by simp at hd) λi d hd=>?_
  match i with
  | 0=>
   simp at hd;subst hd;exact h C F ρ w m hO hN _ (h2 0 _ rfl)
  |i+1=>simp at hd
theorem DT.ptr {H:Hp}{k g sz:Nat}{e:Ay}{x:D}(he:Hp.get H k=some e)(hg:g=e.g)(hs:sz=e.sz)(hx:e.es=[x]):DT H (.optr k g sz 0 0) (.pptr x):=λC F ρ w m hO hN v hv=>by
 subst hg hs;obtain⟨hm,hk⟩:=Hp.get_mem he;cases hv with
 |optr hr=>
  rename_i b;rw[<-hk]at hr;obtain⟨cs,h1,h2⟩:=m.at hm hr;have hlen:=h2.len;rw[hx]at hlen;have hsz:=h2.siz 0 x (by rw[hx];rfl);have hin:∀n,n<x.cells.length->n<cs.size:=λn hn=>by
   simp only[Bo,HN]at hlen;omega
  rw[show 0*e.sz+0=0 from by omega];refine .pptr (λn=>cs.getD n undef) (hN e hm b hr) (m.lt hm hr) (λn hn=>?_) (λn hn=>?_) λj d hd=>?_
  ·rw[BV];simp[World.cell?,h1,hin n hn]
  ·have:=h2.one _ _ (Bn (hin n hn))
   simpa[A7,Bn (hin n hn)]using this
  ·have:=h2.rep 0 x j d (by rw[hx];rfl) hd
   rw[Gz,BV]at this;exact this.anti hO
def ve (tt:Nat->Option A0)(rs:List ResultVar)(Φ:D->Prop)(e:Exit)(_:Aa)(s:St):Prop:=match e with
 | .normal | .ret=>I3 tt s rs λd0=>∃d,DT s.H d0 d/\B6 d/\Φ d
 |_=>False
section
variable {C:BC} {X:EV}
theorem zf {f:Nat}{i:FI}{args:List D}{Φ:D->Prop}(hX:DK C X)(hf:JF C.P f i)(hnt:Nat.ble args.length i.nt=true)
  (h:∀F:Aa,AC C F none F i.code ⟨DN 0 args,[],0⟩ (ve X.tt i.res Φ)):Ak C f args Φ:=by
 obtain⟨fn,hf,hb,hn,hd,hni,hres⟩:=hf;rw[<-hni]at hnt;refine⟨⟨fn,i.code,hf,hb,hn⟩,λY w vs hG hnG hX' hvs hr=>?_⟩;have hnt:=Bi hnt;refine(KE (rd:=none) (n:=0)).1 (callsIn_of_wp_marks hf hb AB ?_);have hown:∀b,AN Y nol [] b↔Y b:=by simp[AN]
 have hoe:AN Y nol []=Y:=funext λb=>propext (hown b)
 let F0:Aa:=⟨w,Y,λ_=>False,fn.ntmps,nol,[]⟩
 have sat:Bl C F0 nol ⟨DN 0 args,[],0⟩ { tmps:=vs++Array.replicate (fn.ntmps-vs.size) undef,defers:=[] } w:=by
  refine⟨⟨⟨by simp,.nil,by simp⟩,rfl,rfl,rfl,Af _,λ_ _ _=>rfl,hX',hG,hnG,by simp[F0],λ_ _ _ h=>h,λ_ cs _ _ h=>⟨cs,_,h,rfl⟩⟩,λ_ _ _=>rfl,by simp,λt=>?_,by simp[F0];omega,rfl⟩;show AV nol (AN Y nol []) w _ _;rw[hoe];exact OZ hvs hr t
 refine wpIn_mono ((h F0).out (.refl F0) hd nol _ w sat) ?_;rintro e a' w' ⟨F',s',ρ',hF,hq,hs'⟩;have key:I3 X.tt s' i.res (λd0=>∃d,DT s'.H d0 d/\B6 d/\Φ d)->LeavesInM (fw none) 0 C.P fn a'.tmps (λe w'=>∃v d,e=.returned v/\Below w.heap.size w w'/\Φ d/\AV nol Y w' d v) a'.defers .returning w':=λhq=>by
  obtain⟨d0,p,h1,h2,d,h3,h4,h5⟩:=Qm hq;rw[<-hres]at h1;obtain⟨v,w2,_,hl,mF,r2,hXX,x,hbl,hsz,F2,m2,hX2⟩:=hF.finish hX.tt rfl hs' h1 h2;refine hl _ ⟨v,d,rfl,⟨mF.os,mF.tape,mF.output,mF.size,λb hb=>mF.blk b hb (by simp[F0])⟩,h5,?_⟩;have hH:Cm s'.H [] s'.H []:=by
   generalize s'.H=H0
   have:∀H1:Hp,Cm H0 [] H1 []:=λH1=>by
    induction H1 with
    |nil=>exact .nil
    |cons e r ih=>exact .drop ih
   exact this H0
  obtain⟨m,hO,hN⟩:=hH.mem m2;have r3:=h3 _ _ _ _ m2 hO (λe he b hb=>hN e he b hb rfl) v (by rw[hX2];exact r2);have r4:=h4 _ nol _ _ _ r3;exact r4.anti λb hb=>.inl (by rw[hX2];exact hXX b hb)
 cases e with
 |normal=>exact key hq
 |ret=>exact key hq
 |_=>exact hq.elim
theorem NT {f:Nat}{ds ds':List D}{d:D}{H:Hp}{n:Nat}(hc:AK C f ds' d)(hl:ds'.length=ds.length)(hv:∀(i:Nat) (a b:D),ds[i]?=some a->ds'[i]?=some b->DT H a b)
  (hp:Aj ds') (hflat:Jf d):Cd C f ds H n (λd' H' n'=>d'=d/\H'=H/\n'=n+1):=by
 refine⟨hc.1,λF ρ w vs m hfr hg hvs hr=>?_⟩;have hH:Cm H [] H []:=by
  generalize H=H0
  have:∀H1:Hp,Cm H0 [] H1 []:=λH1=>by
   induction H1 with
   |nil=>exact .nil
   |cons e r ih=>exact .drop ih
  exact this H0
 obtain⟨m',hO,hN⟩:=hH.mem m;refine(hc.2 (AN F.X ρ []) w vs m.g (BX m.gn m.size) (λb hb=>m'.own_lt hb) (by omega) λi x hx=>?_).mono ?_
 ·have hi:i<ds'.length:=(List.getElem?_eq_some_iff.1 hx).1
  have hd0:ds[i]?=some ds[i]:=A9 (by omega);exact hp.out x (Aw hx) _ _ _ _ _ (hv i _ x hd0 hx C F ρ w m hO (λe he b hb=>hN e he b hb rfl) _ (hr i _ hd0))
 ·rintro e w' ⟨v,d',rfl,hb,hd',rep⟩
  subst hd';have x:BW ρ (AN F.X ρ H) w ρ (AN F.X ρ H) w':=⟨hb.size,λ_ _ _ h=>h,λb hb' hO=>⟨hO,hb.block b hb'⟩,λb cs T fz hh=>⟨cs,_,by
   rw[hb.block b (Array.getElem?_eq_some_iff.1 hh).1];exact hh,rfl⟩⟩
  exact⟨v,_,H,n+1,ρ,rfl,⟨rfl,rfl,rfl⟩,m.same x hb.os hb.tape hb.output hb.block,x,λk g hg'=>hfr k g (by omega),λe he=>DJ (hg e he),hflat _ _ _ _ _ _ _ rep⟩
end
abbrev C6 (z:Int):D:=.agg [i64 z,CT]
abbrev MI (a b:Int):D:=.agg [i64 a,CT,i64 b,CT]
theorem NA {y n:Prop}:Jd true y n=y:=rfl
theorem Rn {y n:Prop}:Jd false y n=n:=rfl
theorem G7 {H Hf:Hp}:∀r:Hp,Cm H Hf r r
 | []=>.nil
 |_::r=>.keep (G7 r)
theorem CC {P:Prop}(h:P:=by(repeat'(first|exact AB|exact rfl|exact Or.inl rfl|exact Or.inr rfl|exact Bu.agg|exact CW rfl|exact Bi rfl|refine And.intro ?_ ?_|(intro hq;first|exact rfl|exact AB|(exact Ad hq (by decide)))|exact Af _|omega|decide|(dsimp only[List.length_cons,List.length_nil];omega)))):P:=h
structure DX (Q:Prop):Prop where
 out:Q
theorem At {P Q:Prop}(h:Q)(e:DX Q->P:=by intro hq;(try dsimp only[C6,MI,FN,Bb,Cz,BI,Ar.get,KV,HM,Fw,Kh,Ja,E3,Ep,D.cells,ofV,Hp.get,Hp.set,Hp.del,Hs,DN,HI,cond,I1,M6,Mw,Ho,NE,Ca,List.map,List.length,List.append,List.nil_append,List.cons_append,List.append_nil,List.size_toArray,List.length_cons,List.length_nil,Value.cells,List.toList_toArray,Array.toList,Nat.reduceAdd,Nat.reduceMul,Nat.beq,Nat.reduceSub,Ca,IV,FN,Bool.false_and,Bool.true_and,Bool.true_or,Bool.false_or,Bool.not_true,Bool.not_false]);exact hq.out):P:=e ⟨h⟩
theorem CA {A P Q:Prop}(h:Q)(a:A:=by exact CC)(e:DX Q->P:=by intro hq;refine At ?_;exact hq.out):A/\P:=⟨a,e ⟨h⟩⟩
theorem AJ {s s':St}(a:Cm s.H s'.H s.H s'.H:=by(first|(exact G7 _)|(repeat(first|exact .nil|(exact G7 _)|refine .keep ?_|refine .drop ?_))))
  (b:Lr s.H s'.H s.env s'.env:=by(repeat'(first|exact AB|exact Fz.refl _|refine And.intro ?_ ?_|(refine w9 ?_;dsimp only[C6,MI,FN,Bb,Cz,BI,Ar.get,KV,HM,Fw,Kh,Ja,E3,Ep,D.cells,ofV,Hp.get,Hp.set,Hp.del,Hs,DN,HI,cond,I1,M6,Mw,Ho,NE,Ca,List.map,List.length,List.append,List.nil_append,List.cons_append,List.append_nil,List.size_toArray,List.length_cons,List.length_nil,Value.cells,List.toList_toArray,Array.toList,Nat.reduceAdd,Nat.reduceMul,Nat.beq,Nat.reduceSub,Ca,IV,FN,Bool.false_and,Bool.true_and,Bool.true_or,Bool.false_or,Bool.not_true,Bool.not_false];first|exact rfl|(simp_all;done)))))
  (c:s.n<=s'.n:=by(first|exact Af _|decide|(dsimp only;omega))):Wk s s':=⟨a,b,c⟩
theorem BP {P Q:Prop}(h:Q)(e:DX Q->P:=by
  intro hq
  repeat(first|(refine D7 rfl rfl ?_;refine IH (λ_ _=>rfl) ?_)|(refine Ef rfl rfl ?_;refine IG (λ_ _=>rfl) ?_))
  try(refine QK ?_;repeat(first|(refine D7 rfl rfl ?_;refine IH (λ_ _=>rfl) ?_)|(refine Ef rfl rfl ?_;refine IG (λ_ _=>rfl) ?_)))
  first|refine OA (And.intro CC ?_)|(refine D7 rfl rfl ?_;refine MZ (λ_ _=>rfl) CC ?_)|(refine Ef rfl rfl ?_;refine LY (λ_ _=>rfl) CC ?_)|skip
  refine At ?_;exact hq.out):P:=e ⟨h⟩
section
variable {C:BC} {X:EV} {kb:Nat} {g:Operand->D} {H:Hp} {n:Nat} {acc:Prop}
theorem QB {p a:Prop}(hp:p):(p/\a)=a:=propext ⟨And.right,λh=>⟨hp,h⟩⟩
theorem Yq {tt:Nat->Option A0}{t:Nat}{x:Operand}{i:A0}{k' gg sz j off:Nat}{e:Ay}{d d':D}(h1:tt t=some i)(h2:g x=.optr k' gg sz j off)(h3:Hp.get H k'=some e)
  (h4:e.es[j]?=some d) (h5:Fw i.ag i.sz off d.cells=some d'):
  EO tt H n kb g (.load t x)=some (d',none,gg=e.g/\sz=e.sz/\(bif i.ag then Nat.ble (off+i.sz) d.cells.length else true)=true):=by
 simp only[EO,h1,h2,h3,h4,h5]
theorem Ri {t:Nat}{x:Operand}{i:A0}{k' gg sz j off:Nat}{e:Ay}{d d':D}{k:Prop->D->Hp->Nat->Prop}(h1:X.tt t=some i)(h2:g x=.optr k' gg sz j off)(h3:Hp.get H k'=some e)
  (h4:e.es[j]?=some d) (hk:k acc d' H (n+1)) (h5:Fw i.ag i.sz off d.cells=some d':=by exact rfl) (h6:gg=e.g/\sz=e.sz/\(bif i.ag then Nat.ble (off+i.sz) d.cells.length else true)=true:=by exact CC):
  FY C X kb g H n (.load t x) acc k:=by
 unfold FY;simp only[Yq h1 h2 h3 h4 h5,QB h6];exact hk
theorem Ox {t:Nat}{x:Operand}{i:A0}{k' gg sz j off:Nat}{e:Ay}{d d':D}{k:Prop->D->Option Ay->Prop}(h1:X.tt t=some i)(h2:g x=.optr k' gg sz j off)(h3:Hp.get H k'=some e)
  (h4:e.es[j]?=some d) (hk:k acc d' none) (h5:Fw i.ag i.sz off d.cells=some d':=by exact rfl) (h6:gg=e.g/\sz=e.sz/\(bif i.ag then Nat.ble (off+i.sz) d.cells.length else true)=true:=by exact CC):
  EH C X kb g H n (.load t x) acc k:=by
 unfold EH;simp only[Yq h1 h2 h3 h4 h5,QB h6];exact hk
theorem Q0 {fop:Operand}{args:Array Operand}{tys:Array Nat}{f:Nat}{first captured ds:List D}{d:D}{k:Prop->D->Hp->Nat->Prop}(hf:g fop=.clo (.func f) first captured)(hd:first++args.toList.map g++captured=ds)
  (hn:X.nat f ds=some d) (hk:k acc d H (n+1)):FY C X kb g H n (.call ⟨.value fop,args,tys⟩) acc k:=by
 subst hd;unfold FY;simp only[hf,hn];exact hk
theorem Od {fop:Operand}{args:Array Operand}{tys:Array Nat}{f:Nat}{first captured ds:List D}{d:D}{k:Prop->D->Option Ay->Prop}(hf:g fop=.clo (.func f) first captured)(hd:first++args.toList.map g++captured=ds)
  (hn:X.nat f ds=some d) (hk:k acc d none):EH C X kb g H n (.call ⟨.value fop,args,tys⟩) acc k:=by
 subst hd;unfold EH;simp only[hf,hn];exact hk
theorem My {t:Nat}{x y:Operand}{i:A0}{k' gg sz j off:Nat}{e:Ay}{d d':D}{k:Prop->D->Hp->Nat->Prop}(h1:X.tt t=some i)(h2:g x=.optr k' gg sz j off)(h3:Hp.get H k'=some e)
  (h4:e.es[j]?=some d) (hk:k acc (.prim (.tuple #[])) (Hp.set H k' ⟨e.k,e.g,e.T,e.sz,e.es.set j d'⟩) (n+1))
  (h5:HM i off sz d (g y)=d':=by exact rfl) (h6:Bu i.ag i.sz (g y)/\gg=e.g/\sz=e.sz/\Nat.ble (off+i.sz) e.sz=true:=by exact CC):
  FY C X kb g H n (.store t x y) acc k:=by
 subst h5;unfold FY;simp only[FD,h1,h2,h3,h4,QB h6,OS];exact hk
end
section
variable {C:BC} {X:EV} {kb:Nat} {ops:Array Oper} {iw:Nat} {ia:Option Nat} {R:Hp} {clo:List Nat} {n i:Nat} {l:List Nat} {env:Ar} {N:Hp} {accE acc':Option Ay} {acc:Prop} {K:Prop->Ar->Hp->Ay->Ay->Prop} {o:Oper}
theorem jd {e e':Ay}(h:K acc env N e e'):EP C X kb ops iw ia R clo n [] env N (some e) (some e') acc K:=h
theorem MR (h:DQ ops.toList i=some o)(hw:Nat.beq i iw=false)(ha:IV ia i=false)(hg:o.guard=none)
  (hk:EH C X (kb+i) (BI env) (Ho ia accE R (Ca i clo)) (n+i) o.op acc λacc d ne=>EP C X kb ops iw ia R clo n l (Bb env o.dst d) (Cz ne N) accE acc' acc K):
  EP C X kb ops iw ia R clo n (i::l) env N accE acc' acc K:=by
 unfold EP;simp only[h,hw,ha,hg];exact hk
theorem lO {e:Ay}(h:DQ ops.toList i=some o)(hw:Nat.beq i iw=true)(hg:o.guard=none)
  (hk:Kw X (kb+i) e (n+i) (BI env) o.op acc λacc d e'=>EP C X kb ops iw ia R clo n l (Bb env o.dst d) N (some e) (some e') acc K):
  EP C X kb ops iw ia R clo n (i::l) env N (some e) none acc K:=by
 unfold EP;simp only[h,hw,hg];exact hk
theorem ll (h:DQ ops.toList i=some o)(hw:Nat.beq i iw=false)(ha:IV ia i=true)(hg:o.guard=none)
  (hk:EH C X (kb+i) (BI env) R (n+i) o.op acc λacc d ne=>match ne with
   |some e=>EP C X kb ops iw ia R clo n l (Bb env o.dst d) N (some e) acc' acc K
   |none=>False):
  EP C X kb ops iw ia R clo n (i::l) env N none acc' acc K:=by
 unfold EP;simp only[h,hw,ha,hg];exact hk
theorem mz {e:Ay}{g:Operand->D}{op:Op}{k:Prop->D->Ay->Prop}{P:Prop->Prop}{d:D}{e':Ay}(hs:∀acc k,Kw X kb e n g op acc k=k (P acc) d e')(hk:k (P acc) d e'):Kw X kb e n g op acc k:=by rw[hs];exact hk
theorem p9 {e:Ay}{g:Operand->D}{t:Nat}{x y:Operand}{i:A0}{k' gg sz j off:Nat}{d d':D}{k:Prop->D->Ay->Prop}(h1:X.tt t=some i)(h2:g x=.optr k' gg sz j off)(h3:Hp.get [e] k'=some e)
  (h4:e.es[j]?=some d) (hk:k acc (.prim (.tuple #[])) ⟨e.k,e.g,e.T,e.sz,e.es.set j d'⟩)
  (h5:HM i off sz d (g y)=d':=by exact rfl) (h6:Bu i.ag i.sz (g y)/\gg=e.g/\sz=e.sz/\Nat.ble (off+i.sz) e.sz=true:=by exact CC):
  Kw X kb e n g (.store t x y) acc k:=by
 subst h5;unfold Kw;simp only[FD,h1,h2,h3,h4,QB h6,OS];exact hk
end
theorem RZ (K g T sz:Nat)(l:List D):Fz [⟨K,g,T,sz,l⟩] [] (.osl K g sz 0 l.length) (.sl false sz l):=by
 refine .osl (e:=⟨K,g,T,sz,l⟩) (by simp[Hp.get]) rfl rfl rfl (by simp) (by simp) (λj d d' h1 h2=>?_) λj d d' q c c' h1 h2 h3 h4=>?_
 ·rw[BV]at h1;rw[h1]at h2;cases h2;rfl
 ·rw[BV]at h1;rw[h1]at h2;cases h2;rw[h3]at h4;cases h4;exact Fz.refl _
section
variable {A B D E F G:Prop}
theorem Ah (a:A)(b:B):A/\B:=⟨a,b⟩
theorem As (a:A)(b:B)(c:D):A/\B/\D:=⟨a,b,c⟩
theorem BY (a:A)(b:B)(c:D)(d:E):A/\B/\D/\E:=⟨a,b,c,d⟩
theorem CH (a:A)(b:B)(c:D)(d:E)(e:F):A/\B/\D/\E/\F:=⟨a,b,c,d,e⟩
theorem Dp (a:A)(b:B)(c:D)(d:E)(e:F)(f:G):A/\B/\D/\E/\F/\G:=⟨a,b,c,d,e,f⟩
theorem kT:(!true)=false:=rfl
theorem kF:(!false)=true:=rfl
theorem kN:∀n:Nat,(n:Int).toNat=n:=Ib
theorem kB:(!true)=false/\(!false)=true:=⟨rfl,rfl⟩
theorem CO {I:Prop}(a:A)(b:B)(c:D)(d:E)(e:F)(f:G)(g:I):A/\B/\D/\E/\F/\G/\I:=⟨a,b,c,d,e,f,g⟩
end
inductive KB:Nat->Prop
 |mk (n:Nat):KB n
section
variable {C:BC} {X:EV} {B:Aa} {rd:Option Nat} {F:Aa} {ops:Array Oper} {s:St} {Q:Exit->Aa->St->Prop} {i:Nat}
theorem PV (hX:DK C X){kb:Nat}(_:KB kb)(hnd:EW ops.toList=true)(h:Cy C X kb ops (List.range ops.size) s True λacc s=>acc/\Q .normal F s):AC C B rd F (.region i ops false) s Q:=Ao hX kb hnd h
end
theorem AE {F:Prop}(f:F){P Q:Prop}(h:Q)(e:DX F->DX Q->P:=by
  intro hf hq
  repeat(first
   |(refine D7 rfl rfl ?_;refine IH (λ_ _=>rfl) ?_)|(refine Ef rfl rfl ?_;refine IG (λ_ _=>rfl) ?_)
   |refine IE rfl rfl rfl (by first|(simp only[hf.out];done)|fail) CC (IH (λ_ _=>rfl) ?_)|refine Xl rfl rfl rfl (by first|(simp only[hf.out];done)|fail) CC ?_
   |refine KI rfl rfl rfl (by first|(simp only[hf.out];done)|fail) CC (IG (λ_ _=>rfl) ?_)|refine Xk rfl rfl rfl (by first|(simp only[hf.out];done)|fail) CC ?_
   |(refine D7 rfl rfl ?_;refine Ri rfl rfl rfl (by(try dsimp only);(try simp only[hf.out]);exact rfl) ?_)|(refine D7 rfl rfl ?_;refine My rfl rfl rfl (by(try dsimp only);(try simp only[hf.out]);exact rfl) ?_)
   |(refine IE rfl rfl rfl (by first|(simp only[hf.out];done)|fail) CC ?_;refine Ri rfl rfl rfl (by(try dsimp only);(try simp only[hf.out]);exact rfl) ?_)|(refine IE rfl rfl rfl (by first|(simp only[hf.out];done)|fail) CC ?_;refine My rfl rfl rfl (by(try dsimp only);(try simp only[hf.out]);exact rfl) ?_)
   |(refine Ef rfl rfl ?_;refine Ox rfl rfl rfl (by(try dsimp only);(try simp only[hf.out]);exact rfl) ?_)|(refine KI rfl rfl rfl (by first|(simp only[hf.out];done)|fail) CC ?_;refine Ox rfl rfl rfl (by(try dsimp only);(try simp only[hf.out]);exact rfl) ?_))
  try(refine QK ?_;repeat(first|(refine D7 rfl rfl ?_;refine IH (λ_ _=>rfl) ?_)|(refine Ef rfl rfl ?_;refine IG (λ_ _=>rfl) ?_)))
  first|refine OA (And.intro CC ?_)|(refine D7 rfl rfl ?_;refine MZ (λ_ _=>rfl) CC ?_)|(refine Ef rfl rfl ?_;refine LY (λ_ _=>rfl) CC ?_)|skip
  refine At ?_
  try simp only[hf.out]
  exact hq.out):P:=e ⟨f⟩ ⟨h⟩
theorem MG {F:Prop}(f:F){P Q:Prop}(h:Q)(e:DX F->DX Q->P:=by
  intro hf hq
  repeat(first
   |(refine MR rfl rfl rfl rfl ?_;first|refine IG (λ_ _=>rfl) ?_|refine Ox rfl rfl rfl (by(try dsimp only);(try simp only[hf.out]);exact rfl) ?_)
   |(refine lO rfl rfl rfl ?_;first|refine mz (λ_ _=>rfl) ?_|refine p9 rfl rfl rfl (by(try dsimp only);(try simp only[hf.out]);exact rfl) ?_)|(refine ll rfl rfl rfl rfl ?_;refine IG (λ_ _=>rfl) ?_))
  try refine jd ?_
  refine At ?_
  try simp only[hf.out]
  exact hq.out):P:=e ⟨f⟩ ⟨h⟩
theorem AU {F:Prop}(f:F){P Q:Prop}(h:Q)(e:DX F->DX Q->P:=by
  intro hf hq
  repeat(first
   |(refine D7 rfl rfl ?_;refine IH (λ_ _=>rfl) ?_)|(refine Ef rfl rfl ?_;refine IG (λ_ _=>rfl) ?_))
  try(refine QK ?_;repeat(first|(refine D7 rfl rfl ?_;refine IH (λ_ _=>rfl) ?_)|(refine Ef rfl rfl ?_;refine IG (λ_ _=>rfl) ?_)))
  first|refine OA (And.intro (by((refine At ?_);(try simp only[hf.out]);all_goals exact CC)) ?_)|(refine D7 rfl rfl ?_;refine MZ (λ_ _=>rfl) (by((refine At ?_);(try simp only[hf.out]);all_goals exact CC)) ?_)|(refine Ef rfl rfl ?_;refine LY (λ_ _=>rfl) (by((refine At ?_);(try simp only[hf.out]);all_goals exact CC)) ?_)|skip
  refine At ?_
  try simp only[hf.out]
  exact hq.out):P:=e ⟨f⟩ ⟨h⟩
theorem Jx {F:Prop}(f:F){A P Q:Prop}(h:Q)(a:DX F->A:=by intro hf;(refine At ?_);(try simp only[hf.out]);all_goals exact CC)(e:DX F->DX Q->P:=by intro hf hq;refine At ?_;(try simp only[hf.out]);exact hq.out):A/\P:=⟨a ⟨f⟩,e ⟨f⟩ ⟨h⟩⟩
theorem No {F:Prop}(f:F){P Q:Prop}(h:Q)(e:DX F->DX Q->P:=by
  intro hf hq
  first|(refine IE rfl rfl rfl (by first|(simp only[hf.out];done)|fail) CC ?_;refine MZ (λ_ _=>rfl) AB ?_)|(refine KI rfl rfl rfl (by first|(simp only[hf.out];done)|fail) CC ?_;refine LY (λ_ _=>rfl) AB ?_)
  refine At ?_;exact hq.out):P:=e ⟨f⟩ ⟨h⟩
theorem Bq {F:Prop}(f:F){A:Prop}(a:A){P Q:Prop}(h:Q)(e:DX F->A->DX Q->P:=by
  intro hf hx hq
  first|refine D7 rfl rfl ?_|refine IE rfl rfl rfl (by first|(simp only[hf.out];done)|fail) CC ?_|refine Ef rfl rfl ?_|refine KI rfl rfl rfl (by first|(simp only[hf.out];done)|fail) CC ?_
  first|refine U6 (λ_ _=>rfl) CC ⟨rfl,by omega⟩ hx ?_|refine Mx (λ_ _=>rfl) CC ⟨rfl,by omega⟩ hx ?_
  try dsimp only[D.cells]
  exact hq.out):P:=e ⟨f⟩ a ⟨h⟩
theorem AM {P Q:Prop}(h:Q)(e:DX Q->P:=by intro hq;refine AC.cond ?_;refine At ?_;exact hq.out):P:=e ⟨h⟩
theorem An {P Q:Prop}(h:Q)(e:DX Q->P:=by intro hq;refine AC.skip ?_;refine At ?_;exact hq.out):P:=e ⟨h⟩
theorem B9 {P Q:Prop}(h:Q)(e:DX Q->P:=by intro hq;refine AC.exit ?_;refine At ?_;exact hq.out):P:=e ⟨h⟩
theorem Ai {P Q:Prop}(h:Q)(e:DX Q->P:=by intro hq;refine AC.ret ?_;refine And.intro CC ?_;refine At ?_;exact hq.out):P:=e ⟨h⟩
theorem rI (kb:Nat){P Q:Prop}(h:Q)(e:KB kb->DX Q->P:=by intro hk hq;refine PV w1 hk (by kernel_rfl) ?_;refine BP ?_;exact hq.out):P:=e (.mk kb) ⟨h⟩
theorem fI (kb:Nat){P Q:Prop}(h:Q)(e:KB kb->DX Q->P:=by intro hk hq;refine PV w1 hk (by kernel_rfl) ?_;refine CA ?_;exact hq.out):P:=e (.mk kb) ⟨h⟩
theorem sR (kb:Nat){P Q:Prop}(h:Q)(e:KB kb->DX Q->P:=by intro hk hq;refine AC.seq ?_;refine PV w1 hk (by kernel_rfl) ?_;refine BP ?_;exact hq.out):P:=e (.mk kb) ⟨h⟩
theorem fR (kb:Nat){P Q:Prop}(h:Q)(e:KB kb->DX Q->P:=by intro hk hq;refine AC.seq ?_;refine PV w1 hk (by kernel_rfl) ?_;refine CA ?_;exact hq.out):P:=e (.mk kb) ⟨h⟩
theorem sZ (kb:Nat){P Q:Prop}(h:Q)(e:KB kb->DX Q->P:=by intro hk hq;refine AC.seq ?_;refine PV w1 hk (by kernel_rfl) ?_;exact hq.out):P:=e (.mk kb) ⟨h⟩
theorem cI {C:BC}{f:Nat}{ds:List D}{d:D}{H:Hp}{n:Nat}{k:D->Hp->Nat->Prop}(c:AK C f ds d){Q:Prop}(h:Q)(p:Aj ds:=by exact AI)(e:DX Q->k d H (n+1):=by intro hq;refine BP ?_;exact hq.out):BE C f ds H n k:=BE.same d c p (e ⟨h⟩)
theorem dI {C:BC}{f:Nat}{ds:List D}{d:D}{H:Hp}{n:Nat}{k:D->Hp->Nat->Prop}(c:AK C f ds d){Q:Prop}(h:Q)(p:Aj ds:=by exact AI)(e:DX Q->k d H (n+1):=by intro hq;refine CA ?_;exact hq.out):BE C f ds H n k:=BE.same d c p (e ⟨h⟩)
open Go.ChangeShapes Go.WideShapes
structure Dl (W:World)(cs:List Value)(ds:List D):Prop where
 len:cs.length=ds.length
 cell:∀(i:Nat) (c:Value) (d:D),cs[i]?=some c->ds[i]?=some d->one c=true/\AV nol (λ_=>False) W d c
theorem Dl.one {W:World}{c:Value}{d:D}(ho:one c=true)(h:AV nol (λ_=>False) W d c):Dl W [c] [d]:=⟨rfl,λi x y hx hy=>by
 match i with
 | 0=>cases hx;cases hy;exact⟨ho,h⟩
 |i+1=>simp at hx⟩
theorem Dl.append {W:World}{a b:List Value}{x y:List D}(h:Dl W a x)(k:Dl W b y):Dl W (a++b) (x++y):=⟨by rw[Bc,Bc,h.len,k.len],λi c d hc hd=>by
 by_cases hi:i<a.length
 ·rw[Fj hi]at hc
  rw[Fj (by rw[<-h.len];exact hi)]at hd;exact h.cell i c d hc hd
 ·rw[En (by omega)]at hc
  rw[En (by rw[<-h.len];omega),<-h.len]at hd;exact k.cell _ c d hc hd⟩
theorem Dl.agg {W:World}{cs:Array Value}{ds:List D}(h:Dl W cs.toList ds):AV nol (λ_=>False) W (.agg ds) (.agg cs):=by
 have hl:cs.size=ds.length:=by rw[<-h.len];simp
 refine .agg hl (λi v hv=>?_) λi d hd=>?_
 ·have hi:i<ds.length:=by
   have:=(Array.getElem?_eq_some_iff.1 hv).1
   omega
  exact(h.cell i v _ (by rw[JB];exact hv) (A9 hi)).1
 ·have hi:i<cs.size:=by
   have:=(List.getElem?_eq_some_iff.1 hd).1
   omega
  have hv:cs[i]?=some cs[i]:=Bn hi
  have:=(h.cell i _ d (by rw[JB];exact hv) hd).2
  rw[show cs.getD i undef=cs[i] by simp[Array.getD,hi]];exact this
theorem ZQ {α:Type}{p:Nat->α->Prop}:∀ {n:Nat},(∀i,i<n->∃x,p i x)->∃l:List α,l.length=n/\∀(i:Nat) (x:α),l[i]?=some x->p i x
 | 0,_=>⟨[],rfl,λi x h=>by simp at h⟩
 |n+1,h=>by
  obtain⟨l,h1,h2⟩:=ZQ (n:=n) λi hi=>h i (by omega)
  obtain⟨x,hx⟩:=h n (by omega);refine⟨l++[x],by simp[h1],λi y hy=>?_⟩
  by_cases hi:i<l.length
  ·rw[Fj hi]at hy;exact h2 i y hy
  ·rw[En (by omega)]at hy
   have:i-l.length=0:=by
    have:=(List.getElem?_eq_some_iff.1 hy).1
    simp at this;omega
   rw[this]at hy;simp at hy;rw[show i=n by omega,<-hy];exact hx
theorem Zr {b off k:Nat}:(Addr.mk b off none).add k=⟨b,off+k,none⟩:=by
 unfold Addr.add
 by_cases h:k=0
 ·subst h;rfl
 ·rw[AF h]
theorem kt {W:World}{a:Addr}{v:Value}(h:W.cell? a=some v):∃b off,a=⟨b,off,none⟩/\b<W.heap.size:=by
 obtain⟨b,off,sp⟩:=a;unfold World.cell? at h;split at h
 ·rename_i c t f hb
  split at h
  ·cases h
  ·rename_i hs
   simp at hs;subst hs;exact⟨b,off,rfl,(Array.getElem?_eq_some_iff.1 hb).1⟩
 ·cases h
section
variable {H:Type} {enc:TypeId×Value->H} {P:Program} {W:World} {fuel:Nat} {cs:List Value} {x:DataW H×List MemPlace} {t:TypeId}
theorem vU {k:IntKind}(ht:P.underlying t=some (.int k))(h:DataW.trod enc P W 0 (λ_=>true) true fuel t cs=some x):∃z:Int,cs=[.int k z]/\(Lit.int k z).wf=true/\Dl W cs [.prim (.int k z)]:=by
 obtain⟨n,rfl,_,hw⟩:=DataW.trod_int ht h;exact⟨n,rfl,hw,.one rfl (.prim _)⟩
theorem bU (ht:P.underlying t=some .string)(h:DataW.trod enc P W 0 (λ_=>true) true fuel t cs=some x):∃l:List UInt8,Dl W cs [.prim (.string ⟨l.toArray⟩)]/\l.length<=maxLen:=by
 obtain⟨s,rfl,_,hw⟩:=DataW.trod_string ht h;refine⟨s.data.toList,.one rfl ?_,?_⟩
 rotate_left
 ·rw[H4];exact hw
 rw[show(⟨s.data.toList.toArray⟩:ByteArray)=s by cases s;simp];exact .prim _
theorem VO {α:Type}{g:α->D}{ok:α->Prop}{e:TypeId}{sz:Nat}(ht:P.underlying t=some (.slice e))(hc:P.cellsOf e=sz)(h0:0<sz)
  (he:∀n cs x,DataW.trod enc P W 0 (λ_=>true) true n e cs=some x->∃a,Dl W cs (g a).cells/\ok a)
  (h:DataW.trod enc P W 0 (λ_=>true) true fuel t cs=some x):∃l:List α,Dl W cs [.sl false sz (l.map g)]/\(∀a∈l,ok a)/\l.length<=maxLen:=by
 rcases DataW.trod_slice ht h with⟨rfl,_⟩|⟨a,len,cap,elems,rest,n,_,rfl,_,_,hl,hm,hlen,hel,hsp,_⟩
 ·exact⟨[],.one rfl (.nil _),λ_ h=>Ad h Db,BU _⟩
 rw[hc]at hel hsp;have hE:∀i,i<len->∃ci y,W.cells? 0 (a.add (i*sz)) sz=some ci/\DataW.trod enc P W 0 (λ_=>true) true n e ci=some y:=λi hi=>by
  have h1:=hel i hi;rw[A9 (by omega)]at h1;obtain⟨ci,h2,h3⟩:=Option.bind_eq_some_iff.1 h1;exact⟨ci,_,h2,h3⟩
 have hA:(len=0/\cap=0)\/∃v,W.cell? a=some v:=by
  by_cases hz:len=0
  ·by_cases hcz:cap=0
   ·exact .inl ⟨hz,hcz⟩
   obtain⟨h1,h2⟩:=hsp rfl;have h3:=h2 0 (by omega);rw[A9 (by omega)]at h3;obtain⟨ci,h4,_⟩:=Option.bind_eq_some_iff.1 h3;obtain⟨_,h5,h6⟩:=World.cells?_some h4;have h7:=h6 0 h0;rw[show len+0=0 by omega,Gz]at h7;rw[show(a.add 0).add 0=a from rfl,A9 (by omega)]at h7;exact .inr ⟨_,h7⟩
  ·obtain⟨ci,_,h4,_⟩:=hE 0 (by omega)
   obtain⟨_,h5,h6⟩:=World.cells?_some h4;have h7:=h6 0 h0;rw[Gz]at h7;rw[show(a.add 0).add 0=a from rfl,A9 (by omega)]at h7;exact .inr ⟨_,h7⟩
 rcases hA with⟨rfl,rfl⟩|⟨v,hv⟩
 ·exact⟨[],.one rfl (.emp a),λ_ h=>Ad h Db,BU _⟩
 obtain⟨b,off,rfl,hb⟩:=kt hv;obtain⟨l,hll,hl2⟩:=ZQ (p:=λi x=>∃ci,W.cells? 0 ((Addr.mk b off none).add (i*sz)) sz=some ci/\Dl W ci (g x).cells/\ok x) λi hi=>by
  obtain⟨ci,y,h1,h2⟩:=hE i hi;obtain⟨x,h3,h4⟩:=he n ci y h2;exact⟨x,ci,h1,h3,h4⟩
 have hcell:∀i x,l[i]?=some x->(g x).cells.length=sz/\∀j,j<sz->∃c d,W.cell? ⟨b,off+(i*sz+j),none⟩=some c/\(g x).cells[j]?=some d/\Ide.one c=true/\AV nol (λ_=>False) W d c:=λi x hx=>by
  obtain⟨ci,h1,h2,_⟩:=hl2 i x hx;obtain⟨_,h3,h4⟩:=World.cells?_some h1;refine⟨by rw[<-h2.len,h3],λj hj=>?_⟩;have h5:=h4 j hj;rw[Zr,Zr,A9 (by omega),Ea]at h5;have h6:(g x).cells[j]?=some ((g x).cells[j]'(by rw[<-h2.len,h3];exact hj)):=A9 _
  have:=h2.cell j _ _ (A9 (by omega)) h6
  exact⟨_,_,h5,h6,this.1,this.2⟩
 have hsplit:∀k,k<len*sz->∃i j x,k=i*sz+j/\i<len/\j<sz/\l[i]?=some x:=λk hk=>by
  have h1:k/sz<len:=(Nat.div_lt_iff_lt_mul h0).2 hk;exact⟨k/sz,k%sz,_,by rw[BT];exact(EY k sz).symm,h1,B3 _ h0,A9 (by omega)⟩
 refine⟨l,.one rfl (.sl (λk=>(W.cell? ⟨b,off+k,none⟩).getD undef) (by rw[Ac,hll]) hl (λh=>h) hb ?_ ?_ ?_ ?_),λx hx=>?_,by omega⟩
 ·intro i d hd
  rw[A8]at hd;obtain⟨x,hx,rfl⟩:=Option.map_eq_some_iff.1 hd;exact(hcell i x hx).1
 ·intro k hk
  obtain⟨i,j,x,rfl,hi,hj,hx⟩:=hsplit k hk;obtain⟨c,d,h1,_⟩:=(hcell i x hx).2 j hj;rw[h1];rfl
 ·intro k hk
  obtain⟨i,j,x,rfl,hi,hj,hx⟩:=hsplit k hk;obtain⟨c,d,h1,_,h3,_⟩:=(hcell i x hx).2 j hj;rw[h1];exact h3
 ·intro i e' j d hd hj
  rw[A8]at hd;obtain⟨x,hx,rfl⟩:=Option.map_eq_some_iff.1 hd;have hjl:j<sz:=by
   have:=(List.getElem?_eq_some_iff.1 hj).1
   rw[(hcell i x hx).1]at this;exact this
  obtain⟨c,d',h1,h2,_,h4⟩:=(hcell i x hx).2 j hjl;rw[h1];rw[h2]at hj;cases hj;exact h4
 ·obtain⟨i,hi⟩:=List.getElem?_of_mem hx
  obtain⟨_,_,_,h⟩:=hl2 i x hi;exact h
theorem lG {fs:Array Field}(ht:P.underlying t=some (.struct fs))(h:DataW.trod enc P W 0 (λ_=>true) true fuel t cs=some x):
  cs.length=P.cellsOf t/\∃n,∀(i:Nat) (f:Field),fs[i]?=some f->∃y,DataW.trod enc P W 0 (λ_=>true) true n f.type ((cs.drop f.offset).take (P.cellsOf f.type))=some y:=by
 obtain⟨xs,n,rfl,_,h1,h2,h3⟩:=DataW.trod_struct ht h;refine⟨h1,n,λi f hf=>?_⟩
 have:=(Array.getElem?_eq_some_iff.1 hf).1
 exact⟨xs[i]'(by omega),by rw[h3 i f hf];exact A9 _⟩
end
section
variable {C:BC} {X:EV} {B:Aa} {rd:Option Nat} {F:Aa} {ops:Array Oper} {s:St} {Q:Exit->Aa->St->Prop} {i:Nat}
theorem zE (hX:DK C X)(hnd:EW ops.toList=true)(h:Cy C X (100*i) ops (List.range ops.size) s True λacc s=>acc/\Q .normal F s):AC C B rd F (.region i ops false) s Q:=Ao hX (100*i) hnd h
abbrev Dr:=List (Nat×List Nat×List Nat)
abbrev AZ:Dr:=[]
noncomputable def SN (L:Dr)(i:Nat):List Nat×List Nat:=List.rec ([],[]) (λa _ r=>cond (Nat.beq a.1 i) a.2 r) L
inductive KD:Dr->Prop
 |mk (L:Dr):KD L
theorem zF {L:Dr}(hX:DK C X)(_:KD L)(hc:(Hu ops (SN L i).1 (SN L i).2&&EW ops.toList)=true)
  (h:EL C X (100*i) ops s.H s.n (SN L i).1 s.env [] True λacc env N=>Cy C X (100*i) ops (SN L i).2 ⟨env,N++s.H,s.n+FN ops.toList⟩ acc λacc s=>acc/\Q .normal F s):AC C B rd F (.region i ops true) s Q:=B7 hX (100*i) _ _ hc h
theorem zi {c:Code}(h:AC C B rd F c s Q):AC C B rd F c s Q:=h
theorem ww {kb:Nat}{l:List Nat}{acc:Prop}{K:Prop->St->Prop}(h:Cy C X kb ops l s acc K):Cy C X kb ops l s acc K:=h
theorem wo {kb n:Nat}{l:List Nat}{H N:Hp}{env:Ar}{acc:Prop}{K:Prop->Ar->Hp->Prop}(h:EL C X kb ops H n l env N acc K):EL C X kb ops H n l env N acc K:=h
theorem yj {f n:Nat}{ds:List D}{H:Hp}{k:D->Hp->Nat->Prop}(h:BE C f ds H n k):BE C f ds H n k:=h
theorem yk {f:Nat}{ds:List D}{k:D->Prop}(h:BZ C f ds k):BZ C f ds k:=h
theorem fO {y n:Prop}(h:y):Jd true y n:=h
theorem ya {y n:Prop}(h:n):Jd false y n:=h
end
theorem AH {F A1 A2 A3 A4 A5 A6:Prop}(dr:Dr)(f:F)(c1:A1)(c2:A2)(c3:A3)(c4:A4)(c5:A5)(c6:A6){P Q:Prop}(h:Q)(e:KD dr->DX F->A1->A2->A3->A4->A5->A6->DX Q->P:=by
  intro hd hf c1 c2 c3 c4 c5 c6 hq
  repeat(first
   |((with_reducible refine zi ?_);first|refine AC.seq ?_|refine zE w1 (by kernel_rfl) ?_|refine zF w1 hd (by kernel_rfl) ?_|refine AC.block ?_|(refine AC.skip ?_;refine At ?_;try simp only[hf.out,kT,kF])|(refine AC.exit ?_;refine At ?_;try simp only[hf.out,kT,kF])|(refine AC.cond ?_;refine At ?_;try simp only[hf.out,kT,kF,NA,Rn])|(refine AC.ret ?_;refine And.intro (by first|((repeat'(first|exact AB|exact rfl|exact Or.inl rfl|exact Or.inr rfl|exact Bu.agg|exact CW rfl|exact Bi rfl|refine And.intro ?_ ?_|(intro hq;first|exact rfl|exact AB|(exact Ad hq (by decide)))|exact Af _|omega|decide|(dsimp only[List.length_cons,List.length_nil];omega)));done)|((refine At ?_);(try simp only[hf.out,kT,kF]);(try(repeat'(first|exact AB|exact rfl|exact Or.inl rfl|exact Or.inr rfl|exact Bu.agg|exact CW rfl|exact Bi rfl|refine And.intro ?_ ?_|(intro hq;first|exact rfl|exact AB|(exact Ad hq (by decide)))|exact Af _|omega|decide|(dsimp only[List.length_cons,List.length_nil];omega))));done)|fail) ?_;refine At ?_;try simp only[hf.out,kT,kF]))
   |((with_reducible refine ww ?_);first|(refine D7 rfl rfl ?_;refine IH (λ_ _=>rfl) ?_)|(refine IE rfl rfl rfl (by first|(simp only[hf.out,kT,kF];done)|fail) (by first|((repeat'(first|exact AB|exact rfl|exact Or.inl rfl|exact Or.inr rfl|exact Bu.agg|exact CW rfl|exact Bi rfl|refine And.intro ?_ ?_|(intro hq;first|exact rfl|exact AB|(exact Ad hq (by decide)))|exact Af _|omega|decide|(dsimp only[List.length_cons,List.length_nil];omega)));done)|((refine At ?_);(try simp only[hf.out,kT,kF]);(try(repeat'(first|exact AB|exact rfl|exact Or.inl rfl|exact Or.inr rfl|exact Bu.agg|exact CW rfl|exact Bi rfl|refine And.intro ?_ ?_|(intro hq;first|exact rfl|exact AB|(exact Ad hq (by decide)))|exact Af _|omega|decide|(dsimp only[List.length_cons,List.length_nil];omega))));done)|fail) ?_;refine IH (λ_ _=>rfl) ?_)|refine Xl rfl rfl rfl (by first|(simp only[hf.out,kT,kF];done)|fail) (by first|((repeat'(first|exact AB|exact rfl|exact Or.inl rfl|exact Or.inr rfl|exact Bu.agg|exact CW rfl|exact Bi rfl|refine And.intro ?_ ?_|(intro hq;first|exact rfl|exact AB|(exact Ad hq (by decide)))|exact Af _|omega|decide|(dsimp only[List.length_cons,List.length_nil];omega)));done)|((refine At ?_);(try simp only[hf.out,kT,kF]);(try(repeat'(first|exact AB|exact rfl|exact Or.inl rfl|exact Or.inr rfl|exact Bu.agg|exact CW rfl|exact Bi rfl|refine And.intro ?_ ?_|(intro hq;first|exact rfl|exact AB|(exact Ad hq (by decide)))|exact Af _|omega|decide|(dsimp only[List.length_cons,List.length_nil];omega))));done)|fail) ?_|(refine D7 rfl rfl ?_;refine MZ (λ_ _=>rfl) (by first|((repeat'(first|exact AB|exact rfl|exact Or.inl rfl|exact Or.inr rfl|exact Bu.agg|exact CW rfl|exact Bi rfl|refine And.intro ?_ ?_|(intro hq;first|exact rfl|exact AB|(exact Ad hq (by decide)))|exact Af _|omega|decide|(dsimp only[List.length_cons,List.length_nil];omega)));done)|((refine At ?_);(try simp only[hf.out,kT,kF]);(try(repeat'(first|exact AB|exact rfl|exact Or.inl rfl|exact Or.inr rfl|exact Bu.agg|exact CW rfl|exact Bi rfl|refine And.intro ?_ ?_|(intro hq;first|exact rfl|exact AB|(exact Ad hq (by decide)))|exact Af _|omega|decide|(dsimp only[List.length_cons,List.length_nil];omega))));done)|fail) ?_;refine At ?_;try simp only[hf.out,kT,kF])|(refine D7 rfl rfl ?_;refine U6 (λ_ _=>rfl) (by first|((repeat'(first|exact AB|exact rfl|exact Or.inl rfl|exact Or.inr rfl|exact Bu.agg|exact CW rfl|exact Bi rfl|refine And.intro ?_ ?_|(intro hq;first|exact rfl|exact AB|(exact Ad hq (by decide)))|exact Af _|omega|decide|(dsimp only[List.length_cons,List.length_nil];omega)));done)|((refine At ?_);(try simp only[hf.out,kT,kF]);(try(repeat'(first|exact AB|exact rfl|exact Or.inl rfl|exact Or.inr rfl|exact Bu.agg|exact CW rfl|exact Bi rfl|refine And.intro ?_ ?_|(intro hq;first|exact rfl|exact AB|(exact Ad hq (by decide)))|exact Af _|omega|decide|(dsimp only[List.length_cons,List.length_nil];omega))));done)|fail) ⟨rfl,by omega⟩ (by first|exact c1|exact c2|exact c3|exact c4|exact c5|exact c6|fail) ?_;try dsimp only[D.cells])|(refine D7 rfl rfl ?_;refine Ri rfl rfl rfl (by(try dsimp only);(try simp only[hf.out,kT,kF]);exact rfl) ?_)|(refine D7 rfl rfl ?_;refine My rfl rfl rfl (by(try dsimp only);(try simp only[hf.out,kT,kF]);exact rfl) ?_)|(refine IE rfl rfl rfl (by first|(simp only[hf.out,kT,kF];done)|fail) (by first|((repeat'(first|exact AB|exact rfl|exact Or.inl rfl|exact Or.inr rfl|exact Bu.agg|exact CW rfl|exact Bi rfl|refine And.intro ?_ ?_|(intro hq;first|exact rfl|exact AB|(exact Ad hq (by decide)))|exact Af _|omega|decide|(dsimp only[List.length_cons,List.length_nil];omega)));done)|((refine At ?_);(try simp only[hf.out,kT,kF]);(try(repeat'(first|exact AB|exact rfl|exact Or.inl rfl|exact Or.inr rfl|exact Bu.agg|exact CW rfl|exact Bi rfl|refine And.intro ?_ ?_|(intro hq;first|exact rfl|exact AB|(exact Ad hq (by decide)))|exact Af _|omega|decide|(dsimp only[List.length_cons,List.length_nil];omega))));done)|fail) ?_;refine MZ (λ_ _=>rfl) (by first|((repeat'(first|exact AB|exact rfl|exact Or.inl rfl|exact Or.inr rfl|exact Bu.agg|exact CW rfl|exact Bi rfl|refine And.intro ?_ ?_|(intro hq;first|exact rfl|exact AB|(exact Ad hq (by decide)))|exact Af _|omega|decide|(dsimp only[List.length_cons,List.length_nil];omega)));done)|((refine At ?_);(try simp only[hf.out,kT,kF]);(try(repeat'(first|exact AB|exact rfl|exact Or.inl rfl|exact Or.inr rfl|exact Bu.agg|exact CW rfl|exact Bi rfl|refine And.intro ?_ ?_|(intro hq;first|exact rfl|exact AB|(exact Ad hq (by decide)))|exact Af _|omega|decide|(dsimp only[List.length_cons,List.length_nil];omega))));done)|fail) ?_;refine At ?_;try simp only[hf.out,kT,kF])|(refine IE rfl rfl rfl (by first|(simp only[hf.out,kT,kF];done)|fail) (by first|((repeat'(first|exact AB|exact rfl|exact Or.inl rfl|exact Or.inr rfl|exact Bu.agg|exact CW rfl|exact Bi rfl|refine And.intro ?_ ?_|(intro hq;first|exact rfl|exact AB|(exact Ad hq (by decide)))|exact Af _|omega|decide|(dsimp only[List.length_cons,List.length_nil];omega)));done)|((refine At ?_);(try simp only[hf.out,kT,kF]);(try(repeat'(first|exact AB|exact rfl|exact Or.inl rfl|exact Or.inr rfl|exact Bu.agg|exact CW rfl|exact Bi rfl|refine And.intro ?_ ?_|(intro hq;first|exact rfl|exact AB|(exact Ad hq (by decide)))|exact Af _|omega|decide|(dsimp only[List.length_cons,List.length_nil];omega))));done)|fail) ?_;refine U6 (λ_ _=>rfl) (by first|((repeat'(first|exact AB|exact rfl|exact Or.inl rfl|exact Or.inr rfl|exact Bu.agg|exact CW rfl|exact Bi rfl|refine And.intro ?_ ?_|(intro hq;first|exact rfl|exact AB|(exact Ad hq (by decide)))|exact Af _|omega|decide|(dsimp only[List.length_cons,List.length_nil];omega)));done)|((refine At ?_);(try simp only[hf.out,kT,kF]);(try(repeat'(first|exact AB|exact rfl|exact Or.inl rfl|exact Or.inr rfl|exact Bu.agg|exact CW rfl|exact Bi rfl|refine And.intro ?_ ?_|(intro hq;first|exact rfl|exact AB|(exact Ad hq (by decide)))|exact Af _|omega|decide|(dsimp only[List.length_cons,List.length_nil];omega))));done)|fail) ⟨rfl,by omega⟩ (by first|exact c1|exact c2|exact c3|exact c4|exact c5|exact c6|fail) ?_;try dsimp only[D.cells])|(refine IE rfl rfl rfl (by first|(simp only[hf.out,kT,kF];done)|fail) (by first|((repeat'(first|exact AB|exact rfl|exact Or.inl rfl|exact Or.inr rfl|exact Bu.agg|exact CW rfl|exact Bi rfl|refine And.intro ?_ ?_|(intro hq;first|exact rfl|exact AB|(exact Ad hq (by decide)))|exact Af _|omega|decide|(dsimp only[List.length_cons,List.length_nil];omega)));done)|((refine At ?_);(try simp only[hf.out,kT,kF]);(try(repeat'(first|exact AB|exact rfl|exact Or.inl rfl|exact Or.inr rfl|exact Bu.agg|exact CW rfl|exact Bi rfl|refine And.intro ?_ ?_|(intro hq;first|exact rfl|exact AB|(exact Ad hq (by decide)))|exact Af _|omega|decide|(dsimp only[List.length_cons,List.length_nil];omega))));done)|fail) ?_;refine Ri rfl rfl rfl (by(try dsimp only);(try simp only[hf.out,kT,kF]);exact rfl) ?_)|(refine IE rfl rfl rfl (by first|(simp only[hf.out,kT,kF];done)|fail) (by first|((repeat'(first|exact AB|exact rfl|exact Or.inl rfl|exact Or.inr rfl|exact Bu.agg|exact CW rfl|exact Bi rfl|refine And.intro ?_ ?_|(intro hq;first|exact rfl|exact AB|(exact Ad hq (by decide)))|exact Af _|omega|decide|(dsimp only[List.length_cons,List.length_nil];omega)));done)|((refine At ?_);(try simp only[hf.out,kT,kF]);(try(repeat'(first|exact AB|exact rfl|exact Or.inl rfl|exact Or.inr rfl|exact Bu.agg|exact CW rfl|exact Bi rfl|refine And.intro ?_ ?_|(intro hq;first|exact rfl|exact AB|(exact Ad hq (by decide)))|exact Af _|omega|decide|(dsimp only[List.length_cons,List.length_nil];omega))));done)|fail) ?_;refine My rfl rfl rfl (by(try dsimp only);(try simp only[hf.out,kT,kF]);exact rfl) ?_)|(refine OA (And.intro (by first|((repeat'(first|exact AB|exact rfl|exact Or.inl rfl|exact Or.inr rfl|exact Bu.agg|exact CW rfl|exact Bi rfl|refine And.intro ?_ ?_|(intro hq;first|exact rfl|exact AB|(exact Ad hq (by decide)))|exact Af _|omega|decide|(dsimp only[List.length_cons,List.length_nil];omega)));done)|((refine At ?_);(try simp only[hf.out,kT,kF]);(try(repeat'(first|exact AB|exact rfl|exact Or.inl rfl|exact Or.inr rfl|exact Bu.agg|exact CW rfl|exact Bi rfl|refine And.intro ?_ ?_|(intro hq;first|exact rfl|exact AB|(exact Ad hq (by decide)))|exact Af _|omega|decide|(dsimp only[List.length_cons,List.length_nil];omega))));done)|fail) ?_);refine At ?_;try simp only[hf.out,kT,kF])|(dsimp only[C6,MI,FN,Bb,Cz,BI,Ar.get,KV,HM,Fw,Kh,Ja,E3,Ep,D.cells,ofV,Hp.get,Hp.set,Hp.del,Hs,DN,HI,cond,I1,M6,Mw,Ho,NE,Ca,List.map,List.length,List.append,List.nil_append,List.cons_append,List.append_nil,List.size_toArray,List.length_cons,List.length_nil,Value.cells,List.toList_toArray,Array.toList,Nat.reduceAdd,Nat.reduceMul,Nat.beq,Nat.reduceSub,Ca,IV,FN,Bool.false_and,Bool.true_and,Bool.true_or,Bool.false_or,Bool.not_true,Bool.not_false])|(simp only[hf.out,kT,kF]))
   |((with_reducible refine wo ?_);first|(refine Ef rfl rfl ?_;refine IG (λ_ _=>rfl) ?_)|(refine KI rfl rfl rfl (by first|(simp only[hf.out,kT,kF];done)|fail) (by first|((repeat'(first|exact AB|exact rfl|exact Or.inl rfl|exact Or.inr rfl|exact Bu.agg|exact CW rfl|exact Bi rfl|refine And.intro ?_ ?_|(intro hq;first|exact rfl|exact AB|(exact Ad hq (by decide)))|exact Af _|omega|decide|(dsimp only[List.length_cons,List.length_nil];omega)));done)|((refine At ?_);(try simp only[hf.out,kT,kF]);(try(repeat'(first|exact AB|exact rfl|exact Or.inl rfl|exact Or.inr rfl|exact Bu.agg|exact CW rfl|exact Bi rfl|refine And.intro ?_ ?_|(intro hq;first|exact rfl|exact AB|(exact Ad hq (by decide)))|exact Af _|omega|decide|(dsimp only[List.length_cons,List.length_nil];omega))));done)|fail) ?_;refine IG (λ_ _=>rfl) ?_)|refine Xk rfl rfl rfl (by first|(simp only[hf.out,kT,kF];done)|fail) (by first|((repeat'(first|exact AB|exact rfl|exact Or.inl rfl|exact Or.inr rfl|exact Bu.agg|exact CW rfl|exact Bi rfl|refine And.intro ?_ ?_|(intro hq;first|exact rfl|exact AB|(exact Ad hq (by decide)))|exact Af _|omega|decide|(dsimp only[List.length_cons,List.length_nil];omega)));done)|((refine At ?_);(try simp only[hf.out,kT,kF]);(try(repeat'(first|exact AB|exact rfl|exact Or.inl rfl|exact Or.inr rfl|exact Bu.agg|exact CW rfl|exact Bi rfl|refine And.intro ?_ ?_|(intro hq;first|exact rfl|exact AB|(exact Ad hq (by decide)))|exact Af _|omega|decide|(dsimp only[List.length_cons,List.length_nil];omega))));done)|fail) ?_|(refine Ef rfl rfl ?_;refine LY (λ_ _=>rfl) (by first|((repeat'(first|exact AB|exact rfl|exact Or.inl rfl|exact Or.inr rfl|exact Bu.agg|exact CW rfl|exact Bi rfl|refine And.intro ?_ ?_|(intro hq;first|exact rfl|exact AB|(exact Ad hq (by decide)))|exact Af _|omega|decide|(dsimp only[List.length_cons,List.length_nil];omega)));done)|((refine At ?_);(try simp only[hf.out,kT,kF]);(try(repeat'(first|exact AB|exact rfl|exact Or.inl rfl|exact Or.inr rfl|exact Bu.agg|exact CW rfl|exact Bi rfl|refine And.intro ?_ ?_|(intro hq;first|exact rfl|exact AB|(exact Ad hq (by decide)))|exact Af _|omega|decide|(dsimp only[List.length_cons,List.length_nil];omega))));done)|fail) ?_;refine At ?_;try simp only[hf.out,kT,kF])|(refine Ef rfl rfl ?_;refine Mx (λ_ _=>rfl) (by first|((repeat'(first|exact AB|exact rfl|exact Or.inl rfl|exact Or.inr rfl|exact Bu.agg|exact CW rfl|exact Bi rfl|refine And.intro ?_ ?_|(intro hq;first|exact rfl|exact AB|(exact Ad hq (by decide)))|exact Af _|omega|decide|(dsimp only[List.length_cons,List.length_nil];omega)));done)|((refine At ?_);(try simp only[hf.out,kT,kF]);(try(repeat'(first|exact AB|exact rfl|exact Or.inl rfl|exact Or.inr rfl|exact Bu.agg|exact CW rfl|exact Bi rfl|refine And.intro ?_ ?_|(intro hq;first|exact rfl|exact AB|(exact Ad hq (by decide)))|exact Af _|omega|decide|(dsimp only[List.length_cons,List.length_nil];omega))));done)|fail) ⟨rfl,by omega⟩ (by first|exact c1|exact c2|exact c3|exact c4|exact c5|exact c6|fail) ?_;try dsimp only[D.cells])|(refine Ef rfl rfl ?_;refine Ox rfl rfl rfl (by(try dsimp only);(try simp only[hf.out,kT,kF]);exact rfl) ?_)|(refine KI rfl rfl rfl (by first|(simp only[hf.out,kT,kF];done)|fail) (by first|((repeat'(first|exact AB|exact rfl|exact Or.inl rfl|exact Or.inr rfl|exact Bu.agg|exact CW rfl|exact Bi rfl|refine And.intro ?_ ?_|(intro hq;first|exact rfl|exact AB|(exact Ad hq (by decide)))|exact Af _|omega|decide|(dsimp only[List.length_cons,List.length_nil];omega)));done)|((refine At ?_);(try simp only[hf.out,kT,kF]);(try(repeat'(first|exact AB|exact rfl|exact Or.inl rfl|exact Or.inr rfl|exact Bu.agg|exact CW rfl|exact Bi rfl|refine And.intro ?_ ?_|(intro hq;first|exact rfl|exact AB|(exact Ad hq (by decide)))|exact Af _|omega|decide|(dsimp only[List.length_cons,List.length_nil];omega))));done)|fail) ?_;refine LY (λ_ _=>rfl) (by first|((repeat'(first|exact AB|exact rfl|exact Or.inl rfl|exact Or.inr rfl|exact Bu.agg|exact CW rfl|exact Bi rfl|refine And.intro ?_ ?_|(intro hq;first|exact rfl|exact AB|(exact Ad hq (by decide)))|exact Af _|omega|decide|(dsimp only[List.length_cons,List.length_nil];omega)));done)|((refine At ?_);(try simp only[hf.out,kT,kF]);(try(repeat'(first|exact AB|exact rfl|exact Or.inl rfl|exact Or.inr rfl|exact Bu.agg|exact CW rfl|exact Bi rfl|refine And.intro ?_ ?_|(intro hq;first|exact rfl|exact AB|(exact Ad hq (by decide)))|exact Af _|omega|decide|(dsimp only[List.length_cons,List.length_nil];omega))));done)|fail) ?_;refine At ?_;try simp only[hf.out,kT,kF])|(refine KI rfl rfl rfl (by first|(simp only[hf.out,kT,kF];done)|fail) (by first|((repeat'(first|exact AB|exact rfl|exact Or.inl rfl|exact Or.inr rfl|exact Bu.agg|exact CW rfl|exact Bi rfl|refine And.intro ?_ ?_|(intro hq;first|exact rfl|exact AB|(exact Ad hq (by decide)))|exact Af _|omega|decide|(dsimp only[List.length_cons,List.length_nil];omega)));done)|((refine At ?_);(try simp only[hf.out,kT,kF]);(try(repeat'(first|exact AB|exact rfl|exact Or.inl rfl|exact Or.inr rfl|exact Bu.agg|exact CW rfl|exact Bi rfl|refine And.intro ?_ ?_|(intro hq;first|exact rfl|exact AB|(exact Ad hq (by decide)))|exact Af _|omega|decide|(dsimp only[List.length_cons,List.length_nil];omega))));done)|fail) ?_;refine Mx (λ_ _=>rfl) (by first|((repeat'(first|exact AB|exact rfl|exact Or.inl rfl|exact Or.inr rfl|exact Bu.agg|exact CW rfl|exact Bi rfl|refine And.intro ?_ ?_|(intro hq;first|exact rfl|exact AB|(exact Ad hq (by decide)))|exact Af _|omega|decide|(dsimp only[List.length_cons,List.length_nil];omega)));done)|((refine At ?_);(try simp only[hf.out,kT,kF]);(try(repeat'(first|exact AB|exact rfl|exact Or.inl rfl|exact Or.inr rfl|exact Bu.agg|exact CW rfl|exact Bi rfl|refine And.intro ?_ ?_|(intro hq;first|exact rfl|exact AB|(exact Ad hq (by decide)))|exact Af _|omega|decide|(dsimp only[List.length_cons,List.length_nil];omega))));done)|fail) ⟨rfl,by omega⟩ (by first|exact c1|exact c2|exact c3|exact c4|exact c5|exact c6|fail) ?_;try dsimp only[D.cells])|(refine KI rfl rfl rfl (by first|(simp only[hf.out,kT,kF];done)|fail) (by first|((repeat'(first|exact AB|exact rfl|exact Or.inl rfl|exact Or.inr rfl|exact Bu.agg|exact CW rfl|exact Bi rfl|refine And.intro ?_ ?_|(intro hq;first|exact rfl|exact AB|(exact Ad hq (by decide)))|exact Af _|omega|decide|(dsimp only[List.length_cons,List.length_nil];omega)));done)|((refine At ?_);(try simp only[hf.out,kT,kF]);(try(repeat'(first|exact AB|exact rfl|exact Or.inl rfl|exact Or.inr rfl|exact Bu.agg|exact CW rfl|exact Bi rfl|refine And.intro ?_ ?_|(intro hq;first|exact rfl|exact AB|(exact Ad hq (by decide)))|exact Af _|omega|decide|(dsimp only[List.length_cons,List.length_nil];omega))));done)|fail) ?_;refine Ox rfl rfl rfl (by(try dsimp only);(try simp only[hf.out,kT,kF]);exact rfl) ?_)|(refine QK ?_;refine At ?_;try simp only[hf.out,kT,kF])|(dsimp only[C6,MI,FN,Bb,Cz,BI,Ar.get,KV,HM,Fw,Kh,Ja,E3,Ep,D.cells,ofV,Hp.get,Hp.set,Hp.del,Hs,DN,HI,cond,I1,M6,Mw,Ho,NE,Ca,List.map,List.length,List.append,List.nil_append,List.cons_append,List.append_nil,List.size_toArray,List.length_cons,List.length_nil,Value.cells,List.toList_toArray,Array.toList,Nat.reduceAdd,Nat.reduceMul,Nat.beq,Nat.reduceSub,Ca,IV,FN,Bool.false_and,Bool.true_and,Bool.true_or,Bool.false_or,Bool.not_true,Bool.not_false])|(simp only[hf.out,kT,kF]))
   |((with_reducible refine yj ?_);first|(refine BE.same _ c1 AI ?_;refine At ?_;try simp only[hf.out,kT,kF])|(refine BE.same _ c2 AI ?_;refine At ?_;try simp only[hf.out,kT,kF])|(refine BE.same _ c3 AI ?_;refine At ?_;try simp only[hf.out,kT,kF])|(refine BE.same _ c4 AI ?_;refine At ?_;try simp only[hf.out,kT,kF])|(refine BE.same _ c5 AI ?_;refine At ?_;try simp only[hf.out,kT,kF])|(refine BE.same _ c6 AI ?_;refine At ?_;try simp only[hf.out,kT,kF])|(refine BE.same _ (c1 rfl) AI ?_;refine At ?_;try simp only[hf.out,kT,kF])|(refine BE.same _ (c2 rfl) AI ?_;refine At ?_;try simp only[hf.out,kT,kF])|(refine BE.same _ (c3 rfl) AI ?_;refine At ?_;try simp only[hf.out,kT,kF])|(refine BE.same _ (c4 rfl) AI ?_;refine At ?_;try simp only[hf.out,kT,kF])|(refine BE.same _ (c5 rfl) AI ?_;refine At ?_;try simp only[hf.out,kT,kF])|(refine BE.same _ (c6 rfl) AI ?_;refine At ?_;try simp only[hf.out,kT,kF]))
   |((with_reducible refine yk ?_);first|(refine BZ.same _ c1 AI ?_;refine At ?_;try simp only[hf.out,kT,kF])|(refine BZ.same _ c2 AI ?_;refine At ?_;try simp only[hf.out,kT,kF])|(refine BZ.same _ c3 AI ?_;refine At ?_;try simp only[hf.out,kT,kF])|(refine BZ.same _ c4 AI ?_;refine At ?_;try simp only[hf.out,kT,kF])|(refine BZ.same _ c5 AI ?_;refine At ?_;try simp only[hf.out,kT,kF])|(refine BZ.same _ c6 AI ?_;refine At ?_;try simp only[hf.out,kT,kF])|(refine BZ.same _ (c1 rfl) AI ?_;refine At ?_;try simp only[hf.out,kT,kF])|(refine BZ.same _ (c2 rfl) AI ?_;refine At ?_;try simp only[hf.out,kT,kF])|(refine BZ.same _ (c3 rfl) AI ?_;refine At ?_;try simp only[hf.out,kT,kF])|(refine BZ.same _ (c4 rfl) AI ?_;refine At ?_;try simp only[hf.out,kT,kF])|(refine BZ.same _ (c5 rfl) AI ?_;refine At ?_;try simp only[hf.out,kT,kF])|(refine BZ.same _ (c6 rfl) AI ?_;refine At ?_;try simp only[hf.out,kT,kF]))
   |(with_reducible refine fO ?_)
   |(with_reducible refine ya ?_)
   )
  exact hq.out):P:=e (.mk dr) ⟨f⟩ c1 c2 c3 c4 c5 c6 ⟨h⟩
section
variable {C:BC} {F:Aa} {ρ:Lk} {w w':World}
theorem zP {H1 H2:Hp}{e:Ay}{b:Nat}(m:Ap C F ρ (H1++e::H2) w)(hb:ρ e.k e.g=some b)(hsz:w'.heap.size=w.heap.size)(h1:w'.os=w.os)(h2:w'.tape=w.tape)(h3:w'.output=w.output)
  (ho:∀k,k≠b->w'.heap[k]?=w.heap[k]?) (hs:∀cs,w.heap[b]?=some (.cells cs e.T (0,0))->∃(cs':Array Value) (fz':Nat×Nat),w'.heap[b]?=some (.cells cs' e.T fz')/\cs'.size=cs.size):
  Ap C F ρ (H1++H2) w'/\BW ρ (AN F.X ρ (H1++e::H2)) w ρ (AN F.X ρ (H1++H2)) w':=by
 have he:e∈H1++e::H2:=by simp
 obtain⟨cs,hc,_⟩:=m.at he hb;obtain⟨m0,hO⟩:=m.sub (H':=H1++H2) (Pl (Pa _) (Pf _ _));have hown:AN F.X ρ (H1++e::H2) b:=.inr ⟨e,he,hb⟩;have x:BW ρ (AN F.X ρ (H1++e::H2)) w ρ (AN F.X ρ (H1++H2)) w':=by
  refine⟨by omega,λ_ _ _ h=>h,λk hk hn=>⟨λh=>hn (hO k h),ho k λh=>hn (by rw[h];exact hown)⟩,λk cs1 T fz h=>?_⟩
  by_cases hk:k=b
  ·subst hk
   rw[hc]at h;cases h;obtain⟨cs',fz',q1,q2⟩:=hs cs hc;exact⟨cs',fz',q1,q2⟩
  ·exact⟨cs1,fz,by rw[ho k hk];exact h,rfl⟩
 have hne:∀e'∈H1++H2,ρ e'.k e'.g≠some b:=λe' he' hb'=>by
  have hinj:=m.hok.inj;rw[Ky,D3]at hinj;rcases List.mem_append.1 he' with h|h
  ·exact hinj.2.2 e' h e (CG ..) b b hb' hb rfl
  ·exact hinj.2.1.1 e' h b b hb hb' rfl
 refine⟨⟨⟨λe' he'=>?_,m0.hok.inj,m0.hok.own⟩,by rw[h1];exact m.os,by rw[h2];exact m.tape,by rw[h3];exact m.output,by rw[hsz];exact m.size,λk hk hw=>?_,m.xlt,m.g0,m.gn,m.gw,m.lnk,IF m.shp x⟩,x⟩
 ·rcases m0.hok.ent e' he' with h|⟨b',cs',q1,q2,q3⟩
  ·exact .inl h
  ·refine .inr ⟨b',cs',q1,?_,?_⟩
   ·rw[ho b' λh=>hne e' he' (by rw[q1,h])];exact q2
   ·have he2:e'∈H1++e::H2:=by rcases List.mem_append.1 he' with h|h<;>simp[h]
    obtain⟨cs2,r1,r2⟩:=m.at he2 q1;rw[q2]at r1;cases r1;exact r2.mono x
 ·rw[ho k λh=>?_]
  ·exact m.blk k hk hw
  ·subst h
   have:=m.hok.own e he k hb
   rcases this.2 with h|h
   ·omega
   ·exact hw h
end
structure HY where
 k:Nat
 g:Nat
 o:Obj
def Aa.wrs (F:Aa)(Z:Nat->Prop):Aa:=⟨F.w0,F.X,λb=>F.Wr b\/Z b,F.nt,F.r0,F.df⟩
def Ij (F:Aa)(L:List HY)(b:Nat):Prop:=∃x∈L,F.r0 x.k x.g=some b
structure H9 (B F:Aa)(Z:Nat->Prop):Prop where
 os:F.w0.os=B.w0.os
 tape:F.w0.tape=B.w0.tape
 output:F.w0.output=B.w0.output
 size:B.w0.heap.size<=F.w0.heap.size
 blk:∀b,b<B.w0.heap.size->¬B.Wr b->F.w0.heap[b]?=B.w0.heap[b]?
 wr:∀b,F.Wr b\/Z b->B.w0.heap.size<=b\/B.Wr b
 lnk:∀k g b,B.r0 k g=some b->F.r0 k g=some b
 X:∀b,B.X b->F.X b
 shp:∀(b:Nat) (cs:Array Value) (T:Nat) (fz:Nat×Nat),B.w0.heap[b]?=some (.cells cs T fz)->∃(cs':Array Value) (fz':Nat×Nat),F.w0.heap[b]?=some (.cells cs' T fz')/\cs'.size=cs.size
structure VA (C:BC)(B:Aa):Prop where
 xlt:∀b,B.X b->b<B.w0.heap.size
 g0:C.G B.w0
 gn:C.nG<=B.w0.heap.size
 gw:∀b,B.Wr b->C.nG<=b
structure C9 (C:BC)(B F:Aa)(L:List HY):Prop where
 at_:∀x∈L,∃it,F.r0 x.k x.g=some it/\F.X it/\¬F.Wr it/\F.w0.heap[it]?=some x.o/\C.nG<=it
 nc:∀x∈L,∀cs T fz,x.o≠.cells cs T fz
 dis:L.Pairwise λx y=>F.r0 x.k x.g≠F.r0 y.k y.g
 reb:H9 B F (Ij F L)
 bm:∀ {ρ:Lk} {H:Hp} {w:World},Ap C F ρ H w->VA C B
 df:F.df=B.df
def I4 (F:Aa)(d:D)(v:Value):Prop:=AV F.r0 (λb=>F.X b\/F.Wr b) F.w0 d v
structure J3 (F F2:Aa):Prop where
 lnk:∀k g b,F.r0 k g=some b->F2.r0 k g=some b
 rep:∀d v,I4 F d v->I4 F2 d v
 blk:∀b o,F.w0.heap[b]?=some o->¬(F.X b\/F.Wr b)->F2.w0.heap[b]?=some o/\¬(F2.X b\/F2.Wr b)
structure L0 (ρ:Lk)(O:Nat->Prop)(w:World)(F2:Aa):Prop where
 rep:∀d v,AV ρ O w d v->I4 F2 d v
 blk:∀b o,w.heap[b]?=some o->¬O b->F2.w0.heap[b]?=some o/\¬(F2.X b\/F2.Wr b)
section
variable {C:BC} {B F:Aa} {ρ:Lk} {H:Hp} {w:World} {L:List HY}
theorem I4.now {d:D}{v:Value}(h:I4 F d v)(m:Ap C F ρ H w):AV ρ (AN F.X ρ H) w d v:=
 AV.mono h ⟨m.size,m.lnk,λb hb hO=>⟨λh=>by
  rcases h with h|⟨e,he,h⟩
  ·exact hO (.inl h)
  ·rcases(m.hok.own e he b h).2 with h|h
   ·omega
   ·exact hO (.inr h),m.blk b hb λh=>hO (.inr h)⟩,m.shp⟩
theorem L0.to {F2:Aa}(h:L0 ρ (AN F.X ρ H) w F2)(m:Ap C F ρ H w)(hl:∀k g b,ρ k g=some b->F2.r0 k g=some b):J3 F F2:=
 ⟨λk g b q=>hl _ _ _ (m.lnk _ _ _ q),λd v q=>h.rep d v (q.now m),λb o q r=>by
  have hlt:b<F.w0.heap.size:=(Array.getElem?_eq_some_iff.1 q).1;refine h.blk b o ((m.blk b hlt λh=>r (.inr h)).trans q) λho=>?_
  rcases ho with ho|⟨e,he,ho⟩
  ·exact r (.inl ho)
  ·rcases(m.hok.own e he b ho).2 with q|q
   ·omega
   ·exact r (.inr q)⟩
theorem Ap.wrs {Z:Nat->Prop}(m:Ap C F ρ H w)(hZ:∀b,Z b->C.nG<=b):Ap C (F.wrs Z) ρ H w:=
 ⟨⟨m.hok.ent,m.hok.inj,λe he b hb=>⟨(m.hok.own e he b hb).1,(m.hok.own e he b hb).2.imp id .inl⟩⟩,m.os,m.tape,m.output,m.size,λb hb h=>m.blk b hb λh'=>h (.inl h'),m.xlt,m.g0,m.gn,λb h=>h.elim (m.gw b) (hZ b),m.lnk,m.shp⟩
theorem H9.up {Z:Nat->Prop}(h:H9 B F Z)(hb:VA C B)(m:Ap C (F.wrs Z) ρ H w):Ap C B ρ H w:=by
 have hX:∀b,AN B.X ρ H b->AN F.X ρ H b:=λb hb=>hb.imp (h.X b) id
 refine⟨⟨λe he=>?_,m.hok.inj,λe he b hb'=>?_⟩,m.os.trans h.os,m.tape.trans h.tape,m.output.trans h.output,BX h.size m.size,λb hb1 hb2=>?_,hb.xlt,hb.g0,hb.gn,hb.gw,λk g b q=>m.lnk _ _ _ (h.lnk _ _ _ q),λb cs T fz hc=>?_⟩
 ·rcases m.hok.ent e he with h1|⟨b,cs,a1,a2,a3⟩
  ·exact .inl h1
  ·exact .inr ⟨b,cs,a1,a2,a3.anti hX⟩
 ·obtain⟨q1,q2⟩:=m.hok.own e he b hb'
  refine⟨λq=>q1 (h.X b q),?_⟩;rcases q2 with q2|q2
  ·exact .inl (BX h.size q2)
  ·exact h.wr b q2
 ·refine(m.blk b (CX hb1 h.size) λq=>?_).trans (h.blk b hb1 hb2)
  rcases h.wr b q with q|q
  ·omega
  ·exact hb2 q
 ·obtain⟨cs1,K3,c1,c2⟩:=h.shp b cs T fz hc
  obtain⟨cs2,fz2,c3,c4⟩:=m.shp b cs1 T K3 c1;exact⟨cs2,fz2,c3,c4.trans c2⟩
theorem H9.fle {Z:Nat->Prop}(h:H9 B F Z)(hb:VA C B)(hZ:∀b,Z b->C.nG<=b)(hn:F.nt=B.nt)(hd:F.df=B.df):Cx C B F:=
 ⟨hn,h.size,λm=>h.up hb (m.wrs hZ),h.X,[],hd,[],rfl,.nil,by simp⟩
theorem Vi (F:Aa):C9 C F F [] where
 at_:=by simp
 nc:=by simp
 dis:=.nil
 reb:=⟨rfl,rfl,rfl,Af _,λ_ _ _=>rfl,λb hb=>by
  rcases hb with hb|⟨x,hx,_⟩
  ·exact .inr hb
  ·exact Ad hx (by simp),λ_ _ _ h=>h,λ_ h=>h,λ_ cs _ _ h=>⟨cs,_,h,rfl⟩⟩
 bm:=λm=>⟨m.xlt,m.g0,m.gn,m.gw⟩
 df:=rfl
theorem C9.ng (h:C9 C B F L):∀b,Ij F L b->C.nG<=b:=λb ⟨x,hx,hb⟩=>by
 obtain⟨it,a1,-,-,-,a5⟩:=h.at_ x hx;rw[a1]at hb;cases hb;exact a5
theorem C9.now (h:C9 C B F L)(m:Ap C F ρ H w){x:HY}(hx:x∈L):∃it,ρ x.k x.g=some it/\F.r0 x.k x.g=some it/\F.X it/\w.heap[it]?=some x.o:=by
 obtain⟨it,a1,a2,a3,a4,-⟩:=h.at_ x hx;exact⟨it,m.lnk _ _ _ a1,a1,a2,(m.blk it (m.xlt it a2) a3).trans a4⟩
variable {s:St} {a:Act}
theorem H9.now {Z Z2 X2:Nat->Prop}{ρ2:Lk}{w2:World}{nt:Nat}{df:List Deferred}(h:H9 B F Z)(m:Ap C F ρ H w)(hos:w2.os=w.os)(htp:w2.tape=w.tape)(hout:w2.output=w.output)(hsz:w.heap.size<=w2.heap.size)
  (hold:∀b,b<w.heap.size->¬Z b->w2.heap[b]?=w.heap[b]?) (hZc:∀b,Z b->∀cs T fz,w.heap[b]? ≠ some (.cells cs T fz)) (hl:∀k g b,ρ k g=some b->ρ2 k g=some b) (hown:∀e∈H,∀b,ρ2 e.k e.g=some b->ρ e.k e.g=some b) (hX:∀b,B.X b->X2 b) (hZ2:∀b,Z2 b->Z b\/w.heap.size<=b):
  H9 B (Aa.subZ ρ2 H w2 nt X2 (λ_=>False) df) Z2 where
 os:=hos.trans (m.os.trans h.os)
 tape:=htp.trans (m.tape.trans h.tape)
 output:=hout.trans (m.output.trans h.output)
 size:=BX h.size (BX m.size hsz)
 blk:=λb hb1 hb2=>by
  have hn:¬(F.Wr b\/Z b):=λq=>by
   rcases h.wr b q with q|q
   ·omega
   ·exact hb2 q
  have hb3:=CX hb1 h.size;show w2.heap[b]?=_;rw[hold b (CX hb3 m.size) λq=>hn (.inr q),m.blk b hb3 λq=>hn (.inl q)];exact h.blk b hb1 hb2
 wr:=λb hb=>by
  rcases hb with(⟨e,he,hb⟩|hb)|hb
  ·rcases(m.hok.own e he b (hown e he b hb)).2 with q|q
   ·exact .inl (BX h.size q)
   ·exact h.wr b (.inl q)
  ·exact hb.elim
  ·rcases hZ2 b hb with q|q
   ·exact h.wr b (.inr q)
   ·exact .inl (BX h.size (BX m.size q))
 lnk:=λk g b q=>hl _ _ _ (m.lnk _ _ _ (h.lnk _ _ _ q))
 X:=hX
 shp:=λb cs T fz hc=>by
  obtain⟨cs1,K3,c1,c2⟩:=h.shp b cs T fz hc;obtain⟨cs2,fz2,c3,c4⟩:=m.shp b cs1 T K3 c1;have hlt:b<w.heap.size:=(Array.getElem?_eq_some_iff.1 c3).1;exact⟨cs2,fz2,by show w2.heap[b]?=_;rw[hold b hlt λq=>hZc b q _ _ _ c3];exact c3,c4.trans c2⟩
theorem C9.cellF (h:C9 C B F L)(m:Ap C F ρ H w):∀b,Ij F L b->∀cs T fz,w.heap[b]? ≠ some (.cells cs T fz):=λb ⟨x,hx,hb⟩ cs T fz hc=>by
 obtain⟨it,-,b2,-,b4⟩:=h.now m hx;rw[hb]at b2;cases b2;rw[hc]at b4;exact h.nc x hx _ _ _ (F7 b4).symm
theorem C9.alloc (hO:C9 C B F L)(hB:Cx C B F)(hs:Bl C F ρ s a w)(kb:Nat)(o0:Obj)(hc:∀cs T fz,o0≠.cells cs T fz):
  ∃F2 ρ2,Cx C B F2/\F2.nt=F.nt/\J3 F F2/\C9 C B F2 (⟨kb,s.n,o0⟩::L)/\Bl C F2 ρ2 ⟨s.env,s.H,s.n+1⟩ a (w.alloc o0)/\ρ2 kb s.n=some w.heap.size/\F2.r0 kb s.n=some w.heap.size/\¬B.X w.heap.size/\L0 ρ (AN F.X ρ s.H) w F2:=by
 have m:=hs.mem
 let it:=w.heap.size
 let X1:Nat->Prop:=λb=>F.X b\/b=it
 have hown:∀e∈s.H,∀b,ρ e.k e.g=some b->b<w.heap.size:=λe he b hb=>m.lt he hb
 have hfr:ρ kb s.n=none:=hs.fresh _ _ (Af _)
 let ρ2:=ρ.put kb s.n it
 have hput:∀k g b,ρ k g=some b->ρ2 k g=some b:=λk g b hb=>NR hfr hb
 have hown2:∀e∈s.H,∀b,ρ2 e.k e.g=some b->ρ e.k e.g=some b:=λe he b hb=>by
  have hg:=hs.gen e he
  have:ρ2 e.k e.g=ρ e.k e.g:=by
   show(if e.k=kb/\e.g=s.n then some it else ρ e.k e.g)=_;rw[AF (by omega)]
  rw[<-this];exact hb
 have hw1:(w.alloc o0).heap.size=w.heap.size+1:=World.size_alloc ..;have hold:∀b,b<w.heap.size->(w.alloc o0).heap[b]?=w.heap[b]?:=λb hb=>by rw[EI,AF (by omega)]
 have xx:∀X':Nat->Prop,(∀b,b<w.heap.size->X' b->F.X b)->BW ρ (AN F.X ρ s.H) w ρ2 (AN X' ρ2 s.H) (w.alloc o0):=λX' hX'=>by
  refine⟨by omega,hput,λb hb hO=>⟨?_,hold b hb⟩,λb cs T fz hc=>⟨cs,_,by rw[hold b (Array.getElem?_eq_some_iff.1 hc).1];exact hc,rfl⟩⟩;rintro(h|⟨e,he,h⟩)
  ·exact hO (.inl (hX' b hb h))
  ·exact hO (.inr ⟨e,he,hown2 e he b h⟩)
 have m1:Ap C F ρ2 s.H (w.alloc o0):=by
  have x1:=xx F.X λ_ _ h=>h
  refine⟨⟨λe he=>?_,m.hok.inj.imp_of_mem λ{e e'} he he' h b b' hb hb'=>h b b' (hown2 e he b hb) (hown2 e' he' b' hb'),λe he b hb=>m.hok.own e he b (hown2 e he b hb)⟩,m.os,m.tape,m.output,by have:=m.size;omega,
   λb hb hW=>by rw[hold b (CX hb m.size)];exact m.blk b hb hW,m.xlt,m.g0,m.gn,m.gw,λk g b h=>hput _ _ _ (m.lnk k g b h),IF m.shp x1⟩
  rcases m.hok.ent e he with⟨h1,h2⟩|⟨b,cs,a1,a2,a3⟩
  ·refine .inl ⟨h1,?_⟩
   cases hb:ρ2 e.k e.g with
   |none=>rfl
   |some b=>rw[hown2 e he b hb]at h2;cases h2
  ·exact .inr ⟨b,cs,hput _ _ _ a1,by rw[hold b (m.lt he a1)];exact a2,a3.mono x1⟩
 have hitm:∀e∈s.H,∀b,ρ2 e.k e.g=some b->b≠it:=λe he b hb=>by have:=hown e he b (hown2 e he b hb);simp only[it];omega
 have hX1lt:∀b,X1 b->b<(w.alloc o0).heap.size:=λb hb=>by
  rcases hb with h|h
  ·have:=m.xlt b h;have:=m.size;omega
  ·simp only[it]at h;omega
 have hX1o:∀e∈s.H,∀b,ρ2 e.k e.g=some b->¬X1 b:=λe he b hb hb'=>by
  rcases hb' with h|h
  ·exact(m.hok.own e he b (hown2 e he b hb)).1 h
  ·exact hitm e he b hb h
 have hng:C.nG<=it:=by have:=m.gn;have:=m.size;simp only[it];omega
 have ent:∀Z:Nat->Prop,(∀b,Z b->C.nG<=b)->Ap C (Aa.subZ ρ2 s.H (w.alloc o0) F.nt X1 Z F.df) ρ2 s.H (w.alloc o0):=λZ hZ=>by
  refine⟨⟨λe he=>?_,m1.hok.inj,λe he b hb=>⟨hX1o e he b hb,.inr (.inl ⟨e,he,hb⟩)⟩⟩,rfl,rfl,rfl,Af _,λ_ _ _=>rfl,hX1lt,m1.g,BX m1.gn m1.size,λb hb=>?_,λ_ _ _ h=>h,λ_ cs _ _ h=>⟨cs,_,h,rfl⟩⟩
  ·rcases m.hok.ent e he with⟨h1,h2⟩|⟨b,cs,a1,a2,a3⟩
   ·rcases m1.hok.ent e he with h|⟨b,cs,b1,_⟩
    ·exact .inl h
    ·rw[hown2 e he b b1]at h2;cases h2
   ·exact .inr ⟨b,cs,hput _ _ _ a1,by rw[hold b (m.lt he a1)];exact a2,a3.mono (xx X1 λb hb h=>h.resolve_right λh=>by simp only[it]at h;omega)⟩
  ·rcases hb with⟨e,he,hb⟩|hb
   ·rcases(m1.hok.own e he b hb).2 with h|h
    ·exact BX m1.gn h
    ·exact m1.gw b h
   ·exact hZ b hb
 let F2:=Aa.subZ ρ2 s.H (w.alloc o0) F.nt X1 (λ_=>False) F.df
 have hr0:F2.r0 kb s.n=some it:=EN ..;have hold0:∀x∈L,F2.r0 x.k x.g=F.r0 x.k x.g:=λx hx=>by
  obtain⟨i2,a1,-⟩:=hO.at_ x hx;rw[a1];exact hput _ _ _ (m.lnk _ _ _ a1)
 have hlt0:∀x∈L,∀b,F.r0 x.k x.g=some b->b<w.heap.size:=λx hx b hb=>by
  obtain⟨i2,a1,a2,-⟩:=hO.at_ x hx;have h9:i2=b:=F7 (a1.symm.trans hb)
  have:=m.xlt i2 a2;have:=m.size;omega
 have hZ2:∀b,Ij F2 (⟨kb,s.n,o0⟩::L) b->b=it\/Ij F L b:=λb ⟨x,hx,hb⟩=>by
  rcases BG.1 hx with rfl|hx
  ·rw[hr0]at hb;cases hb;exact .inl rfl
  ·rw[hold0 x hx]at hb;exact .inr ⟨x,hx,hb⟩
 have hbm:=hO.bm m;have hreb:H9 B F2 (Ij F2 (⟨kb,s.n,o0⟩::L)):=hO.reb.now m rfl rfl rfl (by rw[hw1];omega) (λb hb _=>hold b hb) (hO.cellF m) hput hown2 (λb hb=>.inl (hO.reb.X b hb)) λb hb=>by
  rcases hZ2 b hb with h|h
  ·exact .inr (Nat.le_of_eq h.symm)
  ·exact .inl h
 have hobs:C9 C B F2 (⟨kb,s.n,o0⟩::L):=by
  refine⟨λx hx=>?_,λx hx=>?_,D3.2 ⟨λx hx e=>?_,?_⟩,hreb,λ_=>hbm,hO.df⟩
  ·rcases BG.1 hx with rfl|hx
   ·exact⟨it,hr0,.inr rfl,λh=>by
     rcases h with⟨e,he,h⟩|h
     ·exact hitm e he it h rfl
     ·exact h,by show(w.alloc _).heap[it]?=_;rw[EI,AG rfl],hng⟩
   ·obtain⟨i2,a1,a2,a3,a4,a5⟩:=hO.at_ x hx
    refine⟨i2,(hold0 x hx).trans a1,.inl a2,λh=>?_,?_,a5⟩
    ·rcases h with⟨e,he,h⟩|h
     ·exact hX1o e he i2 h (.inl a2)
     ·exact h
    ·show(w.alloc o0).heap[i2]?=_
     rw[hold i2 (hlt0 x hx i2 a1)];exact(m.blk i2 (m.xlt i2 a2) a3).trans a4
  ·rcases BG.1 hx with rfl|hx
   ·exact hc
   ·exact hO.nc x hx
  ·obtain⟨i2,a1,-⟩:=hO.at_ x hx
   have e':F2.r0 kb s.n=F2.r0 x.k x.g:=e;rw[hr0,hold0 x hx,a1]at e';have h9:=hlt0 x hx i2 a1;have h8:it=i2:=F7 e';simp only[it]at h8;omega
  ·exact hO.dis.imp_of_mem λ{x y} hx hy h=>by rw[hold0 x hx,hold0 y hy];exact h
 have hF2:Cx C B F2:=hreb.fle hbm (λb hb=>(hZ2 b hb).elim (λh=>by rw[h];exact hng) (hO.ng b)) hB.nt hO.df;have hfr2:∀d v,AV ρ (AN F.X ρ s.H) w d v->I4 F2 d v:=λd v h=>(h.mono (xx X1 λb hb h=>h.resolve_right λh=>by simp only[it]at h;omega)).anti λb hb=>by
  rcases hb with hb|hb|hb
  ·exact .inl hb
  ·exact .inr hb
  ·exact hb.elim
 have hnow:L0 ρ (AN F.X ρ s.H) w F2:=⟨hfr2,λb o h1 h2=>by
  have hlt:b<w.heap.size:=(Array.getElem?_eq_some_iff.1 h1).1;refine⟨(hold b hlt).trans h1,λq=>?_⟩;rcases q with(q|q)|⟨e,he,q⟩|q
  ·exact h2 (.inl q)
  ·simp only[it]at q;omega
  ·exact h2 (.inr ⟨e,he,hown2 e he b q⟩)
  ·exact q⟩
 refine⟨F2,ρ2,hF2,rfl,hnow.to m hput,hobs,?_,EN ..,hr0,λq=>by have:=hbm.xlt _ q;have:=hO.reb.size;have:=m.size;omega,hnow⟩;exact⟨ent _ λ_ h=>h.elim,λk g hg=>by
  have hg:s.n+1<=g:=hg;show(if k=kb/\g=s.n then some it else ρ k g)=none;rw[AF (by omega)];exact hs.fresh k g (by omega),λe he=>DJ (hs.gen e he),λt=>(hs.env t).mono (xx X1 λb hb h=>h.resolve_right λh=>by simp only[it]at h;omega),hs.nt,hs.dfr⟩
theorem C9.turn {x:HY}{o':Obj}{it:Nat}(hO:C9 C B F (x::L))(hB:Cx C B F)(hs:Bl C F ρ s a w)(hc:∀cs T fz,o'≠.cells cs T fz)(hit:F.r0 x.k x.g=some it):
  ∃F2,Cx C B F2/\F2.nt=F.nt/\J3 F F2/\C9 C B F2 (⟨x.k,x.g,o'⟩::L)/\Bl C F2 ρ ⟨s.env,s.H,s.n+1⟩ a (w.putObj it o')/\F2.r0 x.k x.g=some it/\L0 ρ (AN F.X ρ s.H) w F2:=by
 have m:=hs.mem;obtain⟨i1,j1,j2,j3,j4,j5⟩:=hO.at_ x CG;rw[hit]at j1;cases j1;have hob:w.heap[it]?=some x.o:=(m.blk it (m.xlt it j2) j3).trans j4;have hitw:it<w.heap.size:=(Array.getElem?_eq_some_iff.1 hob).1;have hx0:=hO.nc x CG;have mW:=m.wrs hO.ng;have mp:=mW.putX j2 (.inr ⟨x,CG,hit⟩) hx0 hob o';have xp:=BW.putX (ρ:=ρ) (O:=AN F.X ρ s.H) (w:=w) (.inl j2) hx0 hob o';have hit':(w.putObj it o').heap[it]?=some o':=World.putObj_heap_same hitw;have hszp:=(JI w it o').2.2.2;have hwos:=(JI w it o').1;have hwtp:=(JI w it o').2.1;have hwout:=(JI w it o').2.2.1;have hoth:∀b,b≠it->(w.putObj it o').heap[b]?=w.heap[b]?:=λb hb=>World.putObj_heap_other hb
 generalize w.putObj it o'=w2 at mp xp hit' hszp hoth hwos hwtp hwout⊢
 let F2:=Aa.subZ ρ s.H w2 F.nt F.X (λ_=>False) F.df
 have ent:∀Z:Nat->Prop,(∀b,Z b->C.nG<=b)->(∀b,Z b->F.X b)->Ap C (Aa.subZ ρ s.H w2 F.nt F.X Z F.df) ρ s.H w2:=λZ hZ hZX=>mp.enterZ (.refl _ _ _) rfl rfl rfl (λ_ _ _=>rfl) (λe he b hb hb'=>(mp.hok.own e he b hb).1 (hZX b hb')) (λb hb=>CX (mp.xlt b hb) mp.size) (λe he b hb=>(mp.hok.own e he b hb).1) hZ _ _
 have hr0:∀y∈x::L,F2.r0 y.k y.g=F.r0 y.k y.g:=λy hy=>by
  obtain⟨i2,a1,-⟩:=hO.at_ y hy;rw[a1];exact m.lnk _ _ _ a1
 have hZ2:Ij F2 (⟨x.k,x.g,o'⟩::L)=Ij F (x::L):=funext λb=>propext ⟨λ⟨y,hy,hb⟩=>by
   rcases BG.1 hy with rfl|hy
   ·exact⟨x,CG,by rw[<-hr0 x CG];exact hb⟩
   ·exact⟨y,CK _ hy,by rw[<-hr0 y (CK _ hy)];exact hb⟩,λ⟨y,hy,hb⟩=>by
   rcases BG.1 hy with rfl|hy
   ·exact⟨_,CG,by rw[hr0 y CG];exact hb⟩
   ·exact⟨y,CK _ hy,by rw[hr0 y (CK _ hy)];exact hb⟩⟩
 have hbm:=hO.bm m;have hreb:H9 B F2 (Ij F2 (⟨x.k,x.g,o'⟩::L)):=by
  rw[hZ2];exact hO.reb.now m hwos hwtp hwout (by rw[hszp];exact Af _) (λb _ hz=>hoth b λe=>hz ⟨x,CG,by rw[e];exact hit⟩) (hO.cellF m) (λ_ _ _ h=>h) (λ_ _ _ h=>h) (λb hb=>hO.reb.X b hb) λb hb=>.inl hb
 have hobs:C9 C B F2 (⟨x.k,x.g,o'⟩::L):=by
  have hd:=D3.1 hO.dis;refine⟨λy hy=>?_,λy hy=>?_,D3.2 ⟨λy hy e=>?_,?_⟩,hreb,λ_=>hbm,hO.df⟩
  ·rcases BG.1 hy with rfl|hy
   ·exact⟨it,(hr0 x CG).trans hit,j2,λh=>by
     rcases h with⟨e,he,h⟩|h
     ·exact(mp.hok.own e he it h).1 j2
     ·exact h,hit',j5⟩
   ·have hy':=CK x hy
    obtain⟨i2,a1,a2,a3,a4,a5⟩:=hO.at_ y hy';refine⟨i2,(hr0 y hy').trans a1,a2,λh=>?_,?_,a5⟩
    ·rcases h with⟨e,he,h⟩|h
     ·exact(mp.hok.own e he i2 h).1 a2
     ·exact h
    ·show w2.heap[i2]?=_
     rw[hoth i2 λe=>hd.1 y hy (by rw[hit,a1,e])];exact(m.blk i2 (m.xlt i2 a2) a3).trans a4
  ·rcases BG.1 hy with rfl|hy
   ·exact hc
   ·exact hO.nc y (CK _ hy)
  ·have e':F2.r0 x.k x.g=F2.r0 y.k y.g:=e
   rw[hr0 x CG,hr0 y (CK _ hy)]at e';exact hd.1 y hy e'
  ·exact hd.2.imp_of_mem λ{y z} hy hz h=>by rw[hr0 y (CK _ hy),hr0 z (CK _ hz)];exact h
 have hF2:Cx C B F2:=hreb.fle hbm (λb hb=>by rw[hZ2]at hb;exact hO.ng b hb) hB.nt hO.df;have hfr2:∀d v,AV ρ (AN F.X ρ s.H) w d v->I4 F2 d v:=λd v h=>(h.mono xp).anti λb hb=>by
  rcases hb with hb|hb|hb
  ·exact .inl hb
  ·exact .inr hb
  ·exact hb.elim
 have hnow:L0 ρ (AN F.X ρ s.H) w F2:=⟨hfr2,λb o h1 h2=>by
  refine⟨(hoth b λe=>h2 (.inl (e ▸ j2))).trans h1,λq=>?_⟩;rcases q with q|⟨e,he,q⟩|q
  ·exact h2 (.inl q)
  ·exact h2 (.inr ⟨e,he,q⟩)
  ·exact q⟩
 refine⟨F2,hF2,rfl,hnow.to m λ_ _ _ h=>h,hobs,?_,(hr0 x CG).trans hit,hnow⟩;exact⟨ent _ (λ_ h=>h.elim) (λ_ h=>h.elim),λk g hg=>hs.fresh k g (by have:s.n+1<=g:=hg;omega),λe he=>DJ (hs.gen e he),λt=>(hs.env t).mono xp,hs.nt,hs.dfr⟩
end
section
variable {C:BC} {X:EV} {B F:Aa} {ops:Array Oper} {s:St} {rd:Option Nat} {Q:Exit->Aa->St->Prop} {L:List HY}
structure Bf (C:BC)(B:Aa)(rd:Option Nat)(F:Aa)(ops:Array Oper)(l:List Nat)(s:St)(Q:Exit->Aa->St->Prop):Prop where
 out:Cx C B F->(∀j∈l,j<ops.size)->ops.toList.all (Dk B.nt)=true->EW ops.toList=true->∀(ρ:Lk) (a:Act) (w:World),Bl C F ρ s a w->wpOpsIn (fw rd) 0 C.P ops (Ew C B Q) l a w
theorem Bf.nil (h:Q .normal F s):Bf C B rd F ops [] s Q:=⟨λhB _ _ _ ρ _ _ hs=>⟨F,s,ρ,hB,h,hs⟩⟩
theorem FS (hX:DK C X)(kb:Nat)(l1 l2:List Nat)(h:Cy C X kb ops l1 s True λacc s1=>acc/\Bf C B rd F ops l2 s1 Q):Bf C B rd F ops (l1++l2) s Q:=
 ⟨λhB hlt hd hnd ρ a w hs=>FJ (rd:=rd) (Q:=Ew C B Q) (l2:=l2) (λe a w h=>by
  obtain⟨h0,s1,ρ1,h,hs1⟩:=h;exact⟨h0,Bf.out h hB (λ_ hj=>hlt _ (by simp[hj])) hd hnd ρ1 a w hs1⟩) (Hh hnd) _ a w
   ((FZ (F:=F) (K':=λs1=>Bf C B rd F ops l2 s1 Q) hX (λacc s h=>h) h).2.run (λj hj=>hlt j (by simp[hj])) (by rw[hB.nt];exact hd) hs)⟩
theorem Hz {i:Nat}(hnd:EW ops.toList=true)(h:Bf C B rd F ops (List.range ops.size) s Q):AC C B rd F (.region i ops false) s Q:=
 ⟨λhB hd ρ a w hs=>wpIn_region (h.out hB (λj hj=>List.mem_range.1 hj) hd hnd ρ a w hs)⟩
theorem Bf.step {i:Nat}{o:Oper}{l2:List Nat}(ho:DQ ops.toList i=some o)(hg:o.guard=none)
  (h:∀ρ a w,Bl C F ρ s a w->Cx C B F->∃v w2 F2 ρ2 d,((execOp a.eval o).run C.P w=.ok (.value v) w2\/((execOp a.eval o).run C.P w=.ok .skip w2/\v=undef))/\Cx C B F2/\Bl C F2 ρ2 ⟨s.env,s.H,s.n+1⟩ a w2/\AV ρ2 (AN F2.X ρ2 s.H) w2 d v/\Bf C B rd F2 ops l2 ⟨Bb s.env o.dst d,s.H,s.n+1⟩ Q):
  Bf C B rd F ops (i::l2) s Q:=by
 refine⟨λhB hlt hd hnd ρ a w hs=>?_⟩;obtain⟨v,w2,F2,ρ2,d,hr,hB2,hs2,hrep,hk⟩:=h ρ a w hs hB;have ho:=LS ho;have hdo:Dk B.nt o=true:=CQ.1 hd o (Array.mem_toList_iff.2 (Ig ho));have hs3:=hs2.put (H':=s.H) (o:=o) (d:=d) (v:=v) hs2.mem (.refl _ _ _) hs2.fresh hs2.gen hrep (by rw[hB2.nt];exact hdo);have hk2:=hk.out hB2 (λj hj=>hlt j (CK _ hj)) hd hnd ρ2 _ w2 hs3;simp only[wpOpsIn,ho];rw[AG (by unfold Region.wanted;rw[hg])];rcases hr with hr|⟨hr,rfl⟩
 ·exact Nz hr hk2
 ·exact jc hr hk2
abbrev DB:=List (ByteArray×D)
def Fi (key:ByteArray):DB->Option Nat
 | []=>none
 |p::l=>bif BK key p.1 then some 0 else(Fi key l).map (· + 1)
def H6 (key:ByteArray):DB->Option D
 | []=>none
 |p::l=>bif BK key p.1 then some p.2 else H6 key l
def FO (key:ByteArray)(d:D):DB->DB
 | []=>[(key,d)]
 |p::l=>bif BK key p.1 then(key,d)::l else p::FO key d l
def Hn (F:Aa)(o:Obj)(l:DB):Prop:=∃es clock,o=.map es clock/\es.size=l.length/\JQ es clock/\∀(i:Nat) (p:ByteArray×D),l[i]?=some p->(es.getD i default).key=.string p.1/\I4 F p.2 (es.getD i default).val
theorem Hn.new (F:Aa):Hn F (.map #[] 0) []:=⟨#[],0,rfl,rfl,⟨by simp,by simp⟩,by simp⟩
theorem Tz {key:ByteArray}:∀(l:DB) (es:List MapEntry) (i:Nat),es.length=l.length->(∀(j:Nat) (p:ByteArray×D),l[j]?=some p->(es.getD j default).key=.string p.1) ->
  Instr.findNow .string (.string key) es i=some ((Fi key l).map λj=>(i+j,(es.getD j default).val))
 | [],[],i,_,_=>rfl
 |p::l,e::es,i,h1,h2=>by
  have h0:e.key=.string p.1:=by simpa using h2 0 p rfl
  have h3:Instr.findNow .string (.string key) (e::es) i=(match Instr.sameNow .string (.string key) e.key with
    |some true=>some (some (i,e.val))|some false=>Instr.findNow .string (.string key) es (i+1)|none=>none):=rfl
  have h4:Instr.sameNow .string (.string key) (.string p.1)=some (BK key p.1):=by
   show some (key==p.1)=_;rw[TU]
  rw[h3,h0,h4];unfold Fi;cases BK key p.1 with
  |true=>simp
  |false=>
   dsimp only;rw[Tz l es (i+1) (by simpa using h1) λj q hq=>by simpa using h2 (j+1) q (by simpa using hq)];cases Fi key l with
   |none=>rfl
   |some j=>simp;omega
 | [],_::_,_,h1,_=>by simp at h1
 |_::_,[],_,h1,_=>by simp at h1
theorem RI {key:ByteArray}:∀(l:DB),(∀j,Fi key l=some j->∃k d,l[j]?=some (k,d)/\H6 key l=some d/\BK key k=true)/\(Fi key l=none->H6 key l=none)
 | []=>⟨by simp[Fi],λ_=>rfl⟩
 |p::l=>by
  obtain⟨h1,h2⟩:=RI (key:=key) l;unfold Fi H6;cases hb:BK key p.1 with
  |true=>exact⟨λj hj=>by simp at hj;subst hj;exact⟨p.1,p.2,rfl,rfl,hb⟩,λh=>by simp at h⟩
  |false=>
   refine⟨λj hj=>?_,λh=>?_⟩
   ·simp only[cond_false,Option.map_eq_some_iff]at hj
    obtain⟨q,hq,rfl⟩:=hj;obtain⟨k,d,a1,a2,a3⟩:=h1 q hq;exact⟨k,d,by simpa using a1,by simpa using a2,a3⟩
   ·simp only[cond_false,Option.map_eq_none_iff]at h
    simpa using h2 h
theorem ZZ (key:ByteArray)(d:D):∀l:DB,(FO key d l).length=match Fi key l with|some _=>l.length|none=>l.length+1
 | []=>rfl
 |p::l=>by
  unfold FO Fi;cases BK key p.1 with
  |true=>rfl
  |false=>
   simp only[cond_false,Bo];rw[ZZ key d l];cases Fi key l<;>rfl
theorem bS (key:ByteArray)(d:D):∀(l:DB) (i:Nat) (p:ByteArray×D),(FO key d l)[i]?=some p->match Fi key l with
  |some j=>(i=j/\p=(key,d))\/(i≠j/\l[i]?=some p)
  |none=>(i=l.length/\p=(key,d))\/(i<l.length/\l[i]?=some p)
 | [],i,p,h=>by
  rcases i with _|i
  ·simp[FO]at h;subst h;exact .inl ⟨rfl,rfl⟩
  ·simp[FO]at h
 |q::l,i,p,h=>by
  unfold FO at h;unfold Fi;cases hb:BK key q.1 with
  |true=>
   rw[hb]at h;simp only[cond_true]at h⊢;rcases i with _|i
   ·simp at h;exact .inl ⟨rfl,h.symm⟩
   ·exact .inr ⟨by omega,by simpa using h⟩
  |false=>
   rw[hb]at h;simp only[cond_false]at h⊢;rcases i with _|i
   ·simp at h
    subst h;cases Fi key l with
    |none=>exact .inr ⟨by simp,rfl⟩
    |some j=>exact .inr ⟨by show(0:Nat)≠j+1;omega,rfl⟩
   ·have:=bS key d l i p (by simpa using h)
    cases hi:Fi key l with
    |none=>
     rw[hi]at this;rcases this with⟨a,b⟩|⟨a,b⟩
     ·exact .inl ⟨by rw[a];rfl,b⟩
     ·exact .inr ⟨by simp;omega,by simpa using b⟩
    |some j=>
     rw[hi]at this;rcases this with⟨a,b⟩|⟨a,b⟩
     ·exact .inl ⟨by rw[a],b⟩
     ·exact .inr ⟨by show i+1≠j+1;omega,by simpa using b⟩
def Jc (ok:Bool)(key:ByteArray)(l:DB)(z:Value):D:=match H6 key l with
 |some d=>H8 ok d true
 |none=>H8 ok (ofV z) false
theorem Ww {ok:Bool}{key:ByteArray}{l:DB}{z:Value}(h:H6 key l=none):Jc ok key l z=H8 ok (ofV z) false:=by unfold Jc;rw[h]
theorem Wx {ok:Bool}{key:ByteArray}{l:DB}{z:Value}{d:D}(h:H6 key l=some d):Jc ok key l z=H8 ok d true:=by unfold Jc;rw[h]
theorem Bf.makeMap {i:Nat}{o:Oper}{l2:List Nat}{T:Nat}(kb:Nat)(ho:DQ ops.toList i=some o)(hg:o.guard=none)(hop:o.op=.makeMap T none)(hO:C9 C B F L)
  (h:∀F2 it,J3 F F2->C9 C B F2 (⟨kb,s.n,.map #[] 0⟩::L)->F2.r0 kb s.n=some it->¬B.X it->Hn F2 (.map #[] 0) []->Bf C B rd F2 ops l2 ⟨Bb s.env o.dst (.prim (.map (some it))),s.H,s.n+1⟩ Q):Bf C B rd F ops (i::l2) s Q:=by
 refine Bf.step ho hg λρ a w hs hB=>?_
 obtain⟨F2,ρ2,hB2,-,ht,hO2,hs2,-,hr0,hnX,-⟩:=hO.alloc hB hs kb (.map #[] 0) (by simp);refine⟨.map (some w.heap.size),_,F2,ρ2,.prim (.map (some w.heap.size)),.inl ?_,hB2,hs2,.prim _,h F2 _ ht hO2 hr0 hnX (Hn.new _)⟩;unfold execOp;simp only[hop];rw[run_bind];rfl
theorem Bf.look {i:Nat}{o:Oper}{l2:List Nat}{t k e it:Nat}{x ix:Operand}{ok:Bool}{z:Value}{key:ByteArray}{l:DB}{xo:HY}(hX:DK C X)(ho:DQ ops.toList i=some o)(hg:o.guard=none)(hop:o.op=.lookup t x ix ok)(hxt:X.xt t=some (.map k e z))
  (hx:BI s.env x=.prim (.map (some it))) (hi:BI s.env ix=.prim (.string key)) (hO:C9 C B F L) (hm:xo∈L) (hit:F.r0 xo.k xo.g=some it) (hM:Hn F xo.o l)
  (h:Bf C B rd F ops l2 ⟨Bb s.env o.dst (Jc ok key l z),s.H,s.n+1⟩ Q):Bf C B rd F ops (i::l2) s Q:=by
 refine Bf.step ho hg λρ a w hs hB=>?_
 obtain⟨a1,a2,⟨inf,a3,a4⟩,a5⟩:=OB (hX.xt _ _ hxt);obtain⟨it',b1,b2,b3,b4⟩:=hO.now hs.mem hm;rw[hit]at b2;cases b2;obtain⟨es,clock,c1,c2,-,c5⟩:=hM;rw[c1]at b4;have ex:a.eval x=.map (some it):=by
  have:=DL hs.env x
  rw[hx]at this;generalize a.eval x=v at this;cases this;rfl
 have ei:a.eval ix=.string key:=by
  have:=DL hs.env ix
  rw[hi]at this;generalize a.eval ix=v at this;cases this;rfl
 have hc:(Instr.checkKey es.isEmpty 10000 k (.string key)).run C.P w=.ok () w:=MapKept.run_checkKey (k:=.string key) a2 (by simp[MapKept.IsKey]) _ 9999;have hz:(zeroValue e).run C.P w=.ok z w:=Pz a3 a4 w;have hf:=Tz (key:=key) l es.toList 0 (by simpa using c2) λj p hp=>by simpa[A7]using(c5 j p hp).1
 have sat:Bl C F ρ ⟨s.env,s.H,s.n+1⟩ a w:=⟨hs.mem,λk g hg=>hs.fresh k g (by have:s.n+1<=g:=hg;omega),λe he=>DJ (hs.gen e he),hs.env,hs.nt,hs.dfr⟩
 have okR:∀(d:D) (v:Value) (b:Bool),AV ρ (AN F.X ρ s.H) w d v->AV ρ (AN F.X ρ s.H) w (H8 ok d b) (if ok then .tuple #[v,.bool b]else v):=by
  intro d v b hr;cases ok with
  |false=>exact hr
  |true=>
   refine .tup rfl λi d' hd=>?_
   match i with
   | 0=>simp at hd;subst hd;exact hr
   | 1=>simp at hd;subst hd;exact .prim _
   |n+2=>simp at hd
 cases hj:Fi key l with
 |none=>
  rw[hj]at hf;have hl:=(RI (key:=key) l).2 hj;have hlm:Jc ok key l z=H8 ok (ofV z) false:=by unfold Jc;rw[hl]
  rw[hlm]at h;refine⟨_,w,F,ρ,_,.inl ?_,hB,sat,okR _ z false (.ofV λi x hx=>.inl (a5 i x hx)),h⟩;unfold execOp;simp only[hop];rw[run_bind,ex,ei]
  have:(Instr.lookup t (.map (some it)) (.string key) ok).run C.P w=.ok (if ok then .tuple #[z,.bool false]else z) w:=by
   simp[Instr.lookup,Cn a1,MapKept.run_getObj_map b4,hc,MapKept.run_findKey a2 hf,hz,Result.andThen]
  rw[this];rfl
 |some j=>
  rw[hj]at hf;obtain⟨k',d',g1,g2,-⟩:=(RI (key:=key) l).1 j hj;have hlm:Jc ok key l z=H8 ok d' true:=by unfold Jc;rw[g2]
  rw[hlm]at h;have hv:=(c5 j _ g1).2.now hs.mem;have hval:(es.toList.getD j default).val=(es.getD j default).val:=by simp[A7,DR]
  simp only[JE]at hf;rw[hval]at hf;refine⟨_,w,F,ρ,_,.inl ?_,hB,sat,okR _ _ true hv,h⟩;unfold execOp;simp only[hop];rw[run_bind,ex,ei]
  have:(Instr.lookup t (.map (some it)) (.string key) ok).run C.P w=.ok (if ok then .tuple #[(es.getD j default).val,.bool true]else(es.getD j default).val) w:=by
   simp[Instr.lookup,Cn a1,MapKept.run_getObj_map b4,hc,MapKept.run_findKey a2 hf,Result.andThen]
  rw[this];rfl
theorem QF (a:ByteArray):BK a a=true:=by unfold BK;exact beq_self_eq_true _
theorem jZ {a b:ByteArray}(h:BK a b=true):BK b a=true:=by
 unfold BK at h⊢;rw[EE]at h⊢;exact h.symm
theorem Bf.put {i:Nat}{o:Oper}{l2:List Nat}{t k e it:Nat}{x kx vx:Operand}{z:Value}{key:ByteArray}{l:DB}{xo:HY}(hX:DK C X)(ho:DQ ops.toList i=some o)(hg:o.guard=none)(hop:o.op=.mapUpdate t x kx vx)(hxt:X.xt t=some (.map k e z))
  (hx:BI s.env x=.prim (.map (some it))) (hi:BI s.env kx=.prim (.string key)) (hO:C9 C B F (xo::L)) (hit:F.r0 xo.k xo.g=some it) (hM:Hn F xo.o l)
  (h:∀F2 o',J3 F F2->C9 C B F2 (⟨xo.k,xo.g,o'⟩::L)->F2.r0 xo.k xo.g=some it->Hn F2 o' (FO key (BI s.env vx) l)->Bf C B rd F2 ops l2 ⟨Bb s.env o.dst .any,s.H,s.n+1⟩ Q):Bf C B rd F ops (i::l2) s Q:=by
 refine Bf.step ho hg λρ a w hs hB=>?_
 obtain⟨a1,a2,-,-⟩:=OB (hX.xt _ _ hxt);obtain⟨it',b1,b2,b3,b4⟩:=hO.now hs.mem CG;rw[hit]at b2;cases b2;obtain⟨es,clock,c1,c2,c3,c5⟩:=hM;rw[c1]at b4;have ex:a.eval x=.map (some it):=by
  have:=DL hs.env x
  rw[hx]at this;generalize a.eval x=v at this;cases this;rfl
 have ei:a.eval kx=.string key:=by
  have:=DL hs.env kx
  rw[hi]at this;generalize a.eval kx=v at this;cases this;rfl
 have hc:(Instr.checkKey false 10000 k (.string key)).run C.P w=.ok () w:=MapKept.run_checkKey (k:=.string key) a2 (by simp[MapKept.IsKey]) _ 9999;have hf:=Tz (key:=key) l es.toList 0 (by simpa using c2) λj p hp=>by simpa[A7]using(c5 j p hp).1
 have hval:=DL hs.env vx;have hpl:=ZZ key (BI s.env vx) l;have hpa:=bS key (BI s.env vx) l;generalize BI s.env vx=d at hval h hpl hpa;generalize hv:a.eval vx=v at hval;cases hj:Fi key l with
 |none=>
  rw[hj]at hf hpl;simp only[hj]at hpa;dsimp only at hpl;obtain⟨F2,hB2,-,ht,hO2,hs2,hr0,hfr⟩:=hO.turn (o':=.map (es.push { key:=.string key,val:=v,born:=clock }) (clock+1)) hB hs (by simp) hit;refine⟨undef,_,F2,ρ,.any,.inr ⟨?_,rfl⟩,hB2,hs2,.any _,h F2 _ ht hO2 hr0 ⟨_,_,rfl,by simp[c2,hpl],c3.push _ _,λi p hp=>?_⟩⟩
  ·unfold execOp
   simp only[hop];rw[run_bind,ex,ei,hv]
   have:(Instr.mapUpdate t (.map (some it)) (.string key) v).run C.P w=.ok () (w.putObj it (.map (es.push { key:=.string key,val:=v,born:=clock }) (clock+1))):=by
    simp[Instr.mapUpdate,Cn a1,MapKept.run_getObj_map b4,hc,MapKept.run_findKey a2 hf,MapKept.run_setObj_map _ b4,Result.andThen,World.putObj]
   rw[this];rfl
  ·rcases hpa i p hp with⟨q1,q2⟩|⟨q1,q2⟩
   ·subst q2
    rw[A7,Pk,AG (by omega)];exact⟨rfl,hfr.rep _ _ hval⟩
   ·rw[A7,Pk,AF (by omega),<-A7]
    exact⟨(c5 i p q2).1,ht.rep _ _ (c5 i p q2).2⟩
 |some j=>
  rw[hj]at hf hpl;simp only[hj]at hpa;dsimp only at hpl;obtain⟨k',d',g1,-,g3⟩:=(RI (key:=key) l).1 j hj;have hjl:j<es.size:=by rw[c2];exact(List.getElem?_eq_some_iff.1 g1).1
  obtain⟨ej,hej⟩:∃ej,es[j]?=some ej:=⟨es[j],Bn hjl⟩
  have hkj:ej.key=.string k':=by
   have:=(c5 j _ g1).1
   rw[A7,hej]at this;exact this
  obtain⟨F2,hB2,-,ht,hO2,hs2,hr0,hfr⟩:=hO.turn (o':=.map (es.modify j λe=>{ e with key:=.string key,val:=v }) clock) hB hs (by simp) hit;have hmod:∀i:Nat,(es.modify j λe=>{ e with key:=.string key,val:=v })[i]?=if j=i then(es[i]?).map λe=>{ e with key:=.string key,val:=v }else es[i]?:=λi=>by
   rw[Array.getElem?_modify]
  refine⟨undef,_,F2,ρ,.any,.inr ⟨?_,rfl⟩,hB2,hs2,.any _,h F2 _ ht hO2 hr0 ⟨_,_,rfl,by simp[c2,hpl],⟨λi e he=>?_,λi i' e e' he he' hbb=>?_⟩,λi p hp=>?_⟩⟩
  ·unfold execOp
   simp only[hop];rw[run_bind,ex,ei,hv];have hks:(Instr.keyThatStays (((es[j]?).map (·.key)).getD (.string key)) (.string key)).run C.P w=.ok (.string key) w:=by
    rw[hej];show(Instr.keyThatStays ej.key (.string key)).run C.P w=_;rw[hkj];unfold Instr.keyThatStays
    have:Instr.sameBits 10000 (.string k') (.string key)=true:=by
     show(k'==key)=true;rw[TU];exact jZ g3
    rw[AG this];rfl
   have hks2:(Instr.keyThatStays ej.key (.string key)).run C.P w=.ok (.string key) w:=by
    rw[hej]at hks;exact hks
   have:(Instr.mapUpdate t (.map (some it)) (.string key) v).run C.P w=.ok () (w.putObj it (.map (es.modify j λe=>{ e with key:=.string key,val:=v }) clock)):=by
    simp[Instr.mapUpdate,Cn a1,MapKept.run_getObj_map b4,hc,MapKept.run_findKey a2 hf,MapKept.run_setObj_map _ b4,Result.andThen,World.putObj,hej,hks2]
   rw[this];rfl
  ·rw[hmod]at he
   split at he
   ·rename_i q;subst q
    rw[hej]at he;cases he;exact c3.1 j ej hej
   ·exact c3.1 i e he
  ·rw[hmod]at he he'
   have key:∀(i:Nat) (e:MapEntry),(if j=i then(es[i]?).map λe=>{ e with key:=.string key,val:=v }else es[i]?)=some e->∃e0,es[i]?=some e0/\e0.born=e.born:=λi e he=>by
    split at he
    ·rename_i q;subst q
     rw[hej]at he;cases he;exact⟨ej,hej,rfl⟩
    ·exact⟨e,he,rfl⟩
   obtain⟨e0,q1,q2⟩:=key i e he;obtain⟨e1,q3,q4⟩:=key i' e' he';exact c3.2 i i' e0 e1 q1 q3 (by rw[q2,q4,hbb])
  ·rcases hpa i p hp with⟨q1,q2⟩|⟨q1,q2⟩
   ·subst q1 q2
    rw[A7,hmod,AG rfl,hej];exact⟨rfl,hfr.rep _ _ hval⟩
   ·rw[A7,hmod,AF (Ne.symm q1),<-A7]
    exact⟨(c5 i p q2).1,ht.rep _ _ (c5 i p q2).2⟩
end
section
variable {C:BC} {X:EV} {B F:Aa} {ops:Array Oper} {s:St} {rd:Option Nat} {Q:Exit->Aa->St->Prop} {L:List HY}
def mapD (l:DB):D:=.mp (l.map λp=>.prim (.string p.1)) (l.map (·.2))
def Oz (it:Nat)(d:D)(env:Ar):Ar->Prop
 | []=>True
 |(t,d')::r=>(d'=env.get t\/(env.get t=.prim (.map (some it))/\d'=d))/\Oz it d env r
theorem Oz.get {it:Nat}{d:D}{env:Ar}:∀ {env':Ar},Oz it d env env'->∀t,env'.get t=.any\/env'.get t=env.get t\/(env.get t=.prim (.map (some it))/\env'.get t=d)
 | [],_,t=>.inl rfl
 |(t0,d0)::r,h,t=>by
  simp only[Ar.get];cases hb:Nat.beq t0 t with
  |true=>
   obtain rfl:=B5 hb;exact .inr h.1
  |false=>exact Oz.get h.2 t
theorem fp {c:Code}{it:Nat}{l:DB}{xo:HY}(env':Ar)(hO:C9 C B F (xo::L))(hit:F.r0 xo.k xo.g=some it)(hnB:¬B.X it)(hM:Hn F xo.o l)(he:Oz it (mapD l) s.env env')
  (h:∀F2,J3 F F2->C9 C B F2 L->AC C B rd F2 c ⟨env',s.H,s.n⟩ Q):AC C B rd F c s Q:=by
 refine⟨λhB hd ρ a w hs=>?_⟩;have m:=hs.mem;obtain⟨it',b1,b2,b3,b4⟩:=hO.now m CG;rw[hit]at b2;cases b2
 let X2:Nat->Prop:=λb=>F.X b/\b≠it
 have hown:∀b,AN X2 ρ s.H b->AN F.X ρ s.H b:=λb hb=>hb.imp And.left id
 have x:BW ρ (AN F.X ρ s.H) w ρ (AN X2 ρ s.H) w:=⟨Af _,λ_ _ _ h=>h,λb _ hb=>⟨λq=>hb (hown b q),rfl⟩,λ_ cs _ _ h=>⟨cs,_,h,rfl⟩⟩
 let F2:=Aa.subZ ρ s.H w F.nt X2 (λ_=>False) F.df
 have m2:Ap C F2 ρ s.H w:=m.enterZ x rfl rfl rfl (λ_ _ _=>rfl) (λ_ _ _ _ h=>h) (λb hb=>CX (m.xlt b hb.1) m.size) (λe he b hb q=>(m.hok.own e he b hb).1 q.1) (λ_ h=>h.elim) _ _;have hr0:∀y∈L,F2.r0 y.k y.g=F.r0 y.k y.g:=λy hy=>by
  obtain⟨i2,a1,-⟩:=hO.at_ y (CK _ hy);rw[a1];exact m.lnk _ _ _ a1
 have hd1:=D3.1 hO.dis;have hne:∀y∈L,∀b,F.r0 y.k y.g=some b->b≠it:=λy hy b hb e=>hd1.1 y hy (by rw[hit,hb,e])
 have hnow:L0 ρ (AN F.X ρ s.H) w F2:=by
  have hx:∀b,F2.X b\/F2.Wr b->AN F.X ρ s.H b:=λb hb=>by
   rcases hb with hb|hb|hb
   ·exact .inl hb.1
   ·exact .inr hb
   ·exact hb.elim
  exact⟨λd v h=>AV.anti h hx,λb o h1 h2=>⟨h1,λq=>h2 (hx b q)⟩⟩
 have hbm:=hO.bm m;have hreb:H9 B F2 (Ij F2 L):=hO.reb.now m rfl rfl rfl (Af _) (λ_ _ _=>rfl) (hO.cellF m) (λ_ _ _ h=>h) (λ_ _ _ h=>h) (λb hb=>⟨hO.reb.X b hb,λe=>hnB (e ▸ hb)⟩) λb ⟨y,hy,hb⟩=>.inl ⟨y,CK _ hy,by rw[<-hr0 y hy];exact hb⟩
 have hobs:C9 C B F2 L:=by
  refine⟨λy hy=>?_,λy hy=>hO.nc y (CK _ hy),hd1.2.imp_of_mem λ{y z} hy hz h=>by rw[hr0 y hy,hr0 z hz];exact h,hreb,λ_=>hbm,hO.df⟩;obtain⟨i2,a1,a2,a3,a4,a5⟩:=hO.at_ y (CK _ hy);refine⟨i2,(hr0 y hy).trans a1,⟨a2,hne y hy i2 a1⟩,λh=>?_,(m.blk i2 (m.xlt i2 a2) a3).trans a4,a5⟩;rcases h with⟨e,he,h⟩|h
  ·exact(m.hok.own e he i2 h).1 a2
  ·exact h
 have hF2:Cx C B F2:=hreb.fle hbm (λb ⟨y,hy,hb⟩=>by
  rw[hr0 y hy]at hb;exact hO.ng b ⟨y,CK _ hy,hb⟩) hB.nt hO.df
 refine(h F2 (hnow.to m λ_ _ _ h=>h) hobs).out hF2 hd ρ a w ⟨m2,hs.fresh,hs.gen,λt=>?_,hs.nt,hs.dfr⟩;have ht:=hs.env t;show AV ρ (AN X2 ρ s.H) w (env'.get t) _;rcases he.get t with q|q|⟨q1,q2⟩
 ·rw[q];exact .any _
 ·rw[q];exact AV.anti ht hown
 ·rw[q2]
  rw[q1]at ht;generalize a.tmps.getD t undef=v at ht;cases ht;obtain⟨es,clock,c1,c2,c3,c5⟩:=hM;rw[c1]at b4;have hlt:it<w.heap.size:=(Array.getElem?_eq_some_iff.1 b4).1;refine .mp (λq=>?_) hlt b4 (by simpa using c2) (by simpa using c2) c3 (λi d hd=>?_) λi d hd=>?_
  ·rcases q with q|⟨e,he,q⟩
   ·exact q.2 rfl
   ·exact(m.hok.own e he it q).1 b3
  ·rw[A8]at hd
   obtain⟨p,hp,rfl⟩:=Option.map_eq_some_iff.1 hd;rw[(c5 i p hp).1];exact .prim _
  ·rw[A8]at hd
   obtain⟨p,hp,rfl⟩:=Option.map_eq_some_iff.1 hd;exact AV.anti ((c5 i p hp).2.now m) hown
def M9 (F:Aa)(o:Obj)(ks vs:List D)(dn:List Nat):Prop:=∃bm es clock since c0 seen,o=.mapIter (some bm) since seen c0/\F.w0.heap[bm]?=some (.map es clock)/\¬(F.X bm\/F.Wr bm)/\es.size=ks.length/\es.size=vs.length/\JQ es clock /\
 (∀(i:Nat) (d:D),ks[i]?=some d->I4 F d (es.getD i default).key)/\(∀(i:Nat) (d:D),vs[i]?=some d->I4 F d (es.getD i default).val) /\
 (∀(i:Nat) (e:MapEntry),es[i]?=some e->e.born<since)/\since<=c0/\c0=clock/\seen.toList=dn.map (λi=>(es.getD i default).born)/\dn.Nodup/\∀i∈dn,i<es.size
theorem zC {i:Nat}{o:Oper}{l2:List Nat}{t k e:Nat}{x:Operand}{ks vs:List D}(kb:Nat)(ht:C.P.underlying t=some (.map k e))(ho:DQ ops.toList i=some o)(hg:o.guard=none)(hop:o.op=.range t x)(hx:BI s.env x=.mp ks vs)(hO:C9 C B F L)
  (h:∀F2 o2,J3 F F2->C9 C B F2 (⟨kb,s.n,o2⟩::L)->M9 F2 o2 ks vs []->Bf C B rd F2 ops l2 ⟨Bb s.env o.dst (.optr kb s.n 0 0 0),s.H,s.n+1⟩ Q):Bf C B rd F ops (i::l2) s Q:=by
 refine Bf.step ho hg λρ a w hs hB=>?_
 have hrep:=DL hs.env x;rw[hx]at hrep;generalize hev:a.eval x=v at hrep;cases hrep with
 |mp hO' hr hb h1 h2 hBo hk hv=>
  rename_i r clock es;obtain⟨F2,ρ2,hB2,-,hto,hO2,hs2,hlk,hr0,-,hnow⟩:=hO.alloc hB hs kb (.mapIter (some r) clock #[] clock) (by simp);obtain⟨q1,q2⟩:=hnow.blk r _ hb hO';refine⟨_,_,F2,ρ2,.optr kb s.n 0 0 0,.inl ?_,hB2,hs2,.optr hlk,h F2 _ hto hO2 ⟨r,es,clock,clock,clock,#[],rfl,q1,q2,h1,h2,hBo,λi d hd=>hnow.rep _ _ (hk i d hd),λi d hd=>hnow.rep _ _ (hv i d hd),hBo.1,Af _,rfl,rfl,.nil,by simp⟩⟩;unfold execOp;simp only[hop];rw[run_bind,hev,run_range_map w t k e r es clock ht hb];simp
theorem Bl.drew {ρ:Lk}{a:Act}{w:World}(hs:Bl C F ρ s a w):Bl C F ρ s a w.drew:=⟨hs.mem.drew,hs.fresh,hs.gen,λt=>(hs.env t).mono (.drew _ _ _),hs.nt,hs.dfr⟩
theorem zB {i:Nat}{o:Oper}{l2:List Nat}{x:Operand}{ks vs:List D}{xo:HY}{dn:List Nat}(ho:DQ ops.toList i=some o)(hg:o.guard=none)(hop:o.op=.next x false)(hx:BI s.env x=.optr xo.k xo.g 0 0 0)(hO:C9 C B F (xo::L))(hI:M9 F xo.o ks vs dn)
  (h1:(∀j,j<ks.length->j∈dn)->Bf C B rd F ops l2 ⟨Bb s.env o.dst (.tup [Aq false]),s.H,s.n+1⟩ Q)
  (h2:∀j kd vd F2 o2,j∉dn->ks[j]?=some kd->vs[j]?=some vd->J3 F F2->C9 C B F2 (⟨xo.k,xo.g,o2⟩::L)->M9 F2 o2 ks vs (dn++[j])->Bf C B rd F2 ops l2 ⟨Bb s.env o.dst (.tup [Aq true,kd,vd]),s.H,s.n+1⟩ Q):
  Bf C B rd F ops (i::l2) s Q:=by
 refine Bf.step ho hg λρ a w hs hB=>?_
 have m:=hs.mem;obtain⟨it,b1,b2,b3,b4⟩:=hO.now m CG;obtain⟨bm,es,clock,since,c0,seen,e1,e2,e3,e4,e5,e6,e7,e8,e9,e10,e11,e12,e13,e14⟩:=hI;subst e11;rw[e1]at b4;have hlt0:bm<F.w0.heap.size:=(Array.getElem?_eq_some_iff.1 e2).1;have hbm:w.heap[bm]?=some (.map es c0):=(m.blk bm hlt0 λq=>e3 (.inr q)).trans e2;have hxv:a.eval x=.pointer (some ⟨it,0,none⟩):=by
  have:=DL hs.env x
  rw[hx]at this;generalize a.eval x=v at this;cases this with
  |optr hr=>rw[b1]at hr;cases hr;rfl
 have sat:∀w',Bl C F ρ s a w'->Bl C F ρ ⟨s.env,s.H,s.n+1⟩ a w':=λw' hs=>⟨hs.mem,λk g hg=>hs.fresh k g (by have:s.n+1<=g:=hg;omega),λe he=>DJ (hs.gen e he),hs.env,hs.nt,hs.dfr⟩
 have hmem:∀e:MapEntry,e∈es.toList->∃j,es[j]?=some e:=λe he=>by
  obtain⟨j,hj⟩:=List.mem_iff_getElem?.1 he;exact⟨j,by simpa using hj⟩
 have hseen:∀b:Nat,seen.contains b=true↔∃j∈dn,(es.getD j default).born=b:=λb=>by
  rw[<-Array.contains_toList,e12,List.contains_iff_mem,List.mem_map]
 rcases run_next_at (P:=C.P) w o.type it bm since c0 seen es c0 b4 hbm (λe he=>by obtain⟨j,hj⟩:=hmem e he;exact e9 j e hj) e10 with⟨q1,q2⟩|⟨e,he,w1,hw1,q2⟩
 ·refine⟨_,w,F,ρ,_,.inl ?_,hB,sat w hs,.tup (vs:=#[.bool false]) rfl λi d hd=>?_,h1 λj hj=>?_⟩
  ·unfold execOp
   simp only[hop];rw[run_bind,hxv,q2];rfl
  ·match i with
   | 0=>simp at hd;subst hd;exact .prim _
   |n+1=>simp at hd
  ·rw[<-e4]at hj
   obtain⟨ej,hej⟩:∃ej,es[j]?=some ej:=⟨es[j],Bn hj⟩
   have hc:seen.contains ej.born=true:=by
    apply Dc;intro hn;have hn:seen.contains ej.born=false:=by simpa using hn
    have:ej∈leftOf es seen:=by
     unfold leftOf;rw[Array.mem_filter];exact⟨Ig hej,by rw[hn];rfl⟩
    have:=Array.size_pos_of_mem this
    omega
   obtain⟨j',hj',hb'⟩:=(hseen _).1 hc;have hlt:=e14 j' hj'
   have:j=j':=e6.2 j j' ej (es.getD j' default) hej (by rw[A7,Bn hlt];rfl) hb'.symm
   rw[this];exact hj'
 ·have hel:e∈es/\seen.contains e.born=false:=by
   have:e∈leftOf es seen:=Array.mem_toList_iff.1 he
   unfold leftOf at this;rw[Array.mem_filter]at this;exact⟨this.1,by simpa using this.2⟩
  obtain⟨j,hj⟩:=hmem e (Array.mem_toList_iff.2 hel.1);have hjl:j<es.size:=(Array.getElem?_eq_some_iff.1 hj).1;have hgd:es.getD j default=e:=by rw[A7,hj];rfl
  have hjn:j∉dn:=λq=>by
   have:=(hseen e.born).2 ⟨j,q,by rw[hgd]⟩
   rw[hel.2]at this;cases this
  obtain⟨kd,hkd⟩:∃kd,ks[j]?=some kd:=⟨ks[j]'(by omega),A9 _⟩
  obtain⟨vd,hvd⟩:∃vd,vs[j]?=some vd:=⟨vs[j]'(by omega),A9 _⟩
  have hs1:Bl C F ρ s a w1:=by
   rcases hw1 with rfl|rfl
   ·exact hs
   ·exact hs.drew
  obtain⟨F2,hB2,-,hto,hO2,hs2,hr0,-⟩:=hO.turn (o':=.mapIter (some bm) since (seen.push e.born) c0) hB hs1 (by simp) b2;obtain⟨p1,p2⟩:=hto.blk _ _ e2 e3;have hit2:M9 F2 (.mapIter (some bm) since (seen.push e.born) c0) ks vs (dn++[j]):=⟨bm,es,c0,since,c0,seen.push e.born,rfl,p1,p2,e4,e5,e6,λi d hd=>hto.rep _ _ (e7 i d hd),λi d hd=>hto.rep _ _ (e8 i d hd),e9,e10,rfl,by
   rw[Array.toList_push,e12,Cq];simp only[Cu,List.map_nil];rw[hgd],by
   rw[Em];exact⟨e13,by simp,λx hx y hy=>by
    rw[List.mem_singleton]at hy;subst hy;exact λq=>hjn (q ▸ hx)⟩,λi hi=>by
   rcases List.mem_append.1 hi with hi|hi
   ·exact e14 i hi
   ·rw[List.mem_singleton]at hi;subst hi;exact hjl⟩
  have hk:=(hto.rep _ _ (e7 j kd hkd)).now hs2.mem;have hv:=(hto.rep _ _ (e8 j vd hvd)).now hs2.mem;rw[hgd]at hk hv;refine⟨_,_,F2,ρ,_,.inl ?_,hB2,hs2,.tup (vs:=#[.bool true,e.key,e.val]) rfl λi d hd=>?_,h2 j kd vd F2 _ hjn hkd hvd hto hO2 hit2⟩
  ·unfold execOp
   simp only[hop];rw[run_bind,hxv,q2];rfl
  ·match i with
   | 0=>simp at hd;subst hd;exact .prim _
   | 1=>simp at hd;subst hd;exact hk
   | 2=>simp at hd;subst hd;exact hv
   |n+3=>simp at hd
theorem JQ.nodup {es:Array MapEntry}{clock:Nat}(h:JQ es clock):(es.toList.map (·.born)).Nodup:=by
 rw[List.nodup_iff_pairwise_ne,List.pairwise_map,List.pairwise_iff_getElem];intro i j hi hj hij hb
 have:=h.2 i j es.toList[i] es.toList[j] (by simp at hi;simp[hi]) (by simp at hj;simp[hj]) hb
 omega
theorem zY {i:Nat}{o:Oper}{l2:List Nat}{x:Operand}{ks vs:List D}{xo:HY}{dn:List Nat}{j:Nat}{kd vd:D}(ho:DQ ops.toList i=some o)(hg:o.guard=none)(hop:o.op=.entry x)(hx:BI s.env x=.optr xo.k xo.g 0 0 0)(hO:C9 C B F L)(hm:xo∈L)(hI:M9 F xo.o ks vs (dn++[j]))
  (hk:ks[j]?=some kd) (hv:vs[j]?=some vd) (h:Bf C B rd F ops l2 ⟨Bb s.env o.dst (.tup [kd,vd]),s.H,s.n+1⟩ Q):Bf C B rd F ops (i::l2) s Q:=by
 refine Bf.step ho hg λρ a w hs hB=>?_
 have m:=hs.mem;obtain⟨it,b1,b2,b3,b4⟩:=hO.now m hm;obtain⟨bm,es,clock,since,c0,seen,e1,e2,e3,e4,e5,e6,e7,e8,e9,e10,e11,e12,e13,e14⟩:=hI;subst e11;rw[e1]at b4;have hlt0:bm<F.w0.heap.size:=(Array.getElem?_eq_some_iff.1 e2).1;have hbm:w.heap[bm]?=some (.map es c0):=(m.blk bm hlt0 λq=>e3 (.inr q)).trans e2;have hxv:a.eval x=.pointer (some ⟨it,0,none⟩):=by
  have:=DL hs.env x
  rw[hx]at this;generalize a.eval x=v at this;cases this with
  |optr hr=>rw[b1]at hr;cases hr;rfl
 have hjl:=e14 j (by simp);obtain⟨e,he⟩:∃e,es[j]?=some e:=⟨es[j],Bn hjl⟩
 have hgd:es.getD j default=e:=by rw[A7,he];rfl
 have hpush:seen=((dn.map λi=>(es.getD i default).born).toArray).push e.born:=by
  apply Array.toList_inj.1;rw[e12,Array.toList_push,Cq];simp only[Cu,List.map_nil];rw[hgd]
 rw[hpush]at b4;have hk':=(e7 j kd hk).now m;have hv':=(e8 j vd hv).now m;rw[hgd]at hk' hv';refine⟨_,w,F,ρ,_,.inl ?_,hB,⟨hs.mem,λk g hg=>hs.fresh k g (by have:s.n+1<=g:=hg;omega),λe he=>DJ (hs.gen e he),hs.env,hs.nt,hs.dfr⟩,.tup (vs:=#[e.key,e.val]) rfl λi d hd=>?_,h⟩
 ·unfold execOp
  simp only[hop];rw[run_bind,hxv,run_entry_at w it bm since _ es c0 e b4 hbm (Array.mem_toList_iff.2 (Ig he)) e6.nodup];rfl
 ·match i with
  | 0=>simp at hd;subst hd;exact hk'
  | 1=>simp at hd;subst hd;exact hv'
  |n+2=>simp at hd
end
end Go.Ide
