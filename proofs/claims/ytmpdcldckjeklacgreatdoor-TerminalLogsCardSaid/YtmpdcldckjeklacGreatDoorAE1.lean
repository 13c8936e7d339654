/- The layer of own lemmas and contracts, part 1. -/
import Derived.WalkKit
set_option linter.unusedVariables false
set_option linter.unusedSimpArgs false
namespace Go.Ide
open Go.RowKit
abbrev AT:=@Array.getD_eq_getD_getElem?
abbrev Ae:=@Nat.eq_of_beq_eq_true
abbrev Ay:=@List.getElem?_eq_some_iff
abbrev Af:=@Option.some.injEq
abbrev Ag:=@Bool.and_eq_true
abbrev BF:=@Array.getElem?_eq_getElem
abbrev BI:=@List.getElem?_eq_getElem
abbrev BD:=@Nat.le_of_ble_eq_true
abbrev Ah:=@List.mem_cons
abbrev Bo:=@Array.getElem?_eq_some_iff
abbrev Ad:=@Nat.le_refl
abbrev Aq:=@Nat.lt_or_ge
abbrev BK:=@Nat.lt_succ_of_lt
abbrev Au:=@Prod.mk.injEq
abbrev B8:=@List.getElem?_append_right
abbrev Bh:=@List.mem_of_getElem?
abbrev Bi:=@beq_eq_false_iff_ne
abbrev Br:=@Nat.mul_le_mul_right
abbrev BP:=@List.length_map
abbrev BR:=@List.mem_append
abbrev CT:=@List.getElem?_append_left
abbrev Bf:=@List.getElem?_map
abbrev Az:=@Nat.le_trans
abbrev DE:=@Array.getElem?_setIfInBounds
abbrev BW:=@decide_eq_true
abbrev CD:=@List.length_cons
abbrev B9:=@List.length_append
abbrev BY:=@List.map_cons
abbrev C3:=@List.take_of_length_le
abbrev D4:=@Array.getElem?_append_right
abbrev CU:=@Nat.lt_of_lt_of_le
abbrev Dt:=@Classical.byContradiction
abbrev D5:=@Array.getElem?_append_left
abbrev B4:=@decide_eq_false
abbrev CF:=@List.all_eq_true
abbrev Ba:=@Nat.add_mul
abbrev Cx:=@List.getElem?_take
abbrev Cr:=@List.append_assoc
abbrev Du:=@List.getElem?_eq_none
abbrev Bw:=@List.mem_map
abbrev Dc:=@Array.mem_toList_iff
abbrev DF:=@List.mem_cons_self
abbrev Fv:=@List.cons_append
abbrev CZ:=@List.cons.injEq
abbrev GP:=@List.nil_append
abbrev Dv:=@List.mem_cons_of_mem
abbrev Bu:=@Nat.zero_le
abbrev D6:=@Array.toArray_toList
abbrev EI:=@List.getElem?_toArray
abbrev B5:=@Nat.zero_add
abbrev DP:=@Array.size_append
abbrev Dd:=@List.append_nil
abbrev De:=@List.nodup_append
abbrev D3:=@List.pairwise_cons
abbrev EF:=@List.append_of_mem
abbrev GN:=@List.getD_eq_getElem?_getD
abbrev FC:=@Array.getElem?_toList
abbrev FD:=@Array.mem_of_getElem?
abbrev Ds:=@List.length_take
abbrev Eb:=@List.mem_singleton
abbrev EG:=@List.take_add_one
abbrev Es:=@List.getElem?_drop
abbrev Ec:=@Bool.not_eq_true'
abbrev FY:=@Array.getElem?_push
abbrev Hz:=@List.eq_nil_of_length_eq_zero
abbrev FZ:=@List.getElem?_range
abbrev Gl:=@List.length_nil
abbrev EH:=@List.map_append
abbrev Db:=@List.all_cons
abbrev FE:=@decide_eq_true_eq
abbrev Et:=@List.length_drop
abbrev Gm:=@Option.map_eq_some_iff
abbrev GO:=@Array.length_toList
abbrev H5:=@Array.getElem?_replicate
abbrev HI:=@List.length_singleton
abbrev HJ:=@List.mem_iff_getElem?
abbrev Ft:=@Nat.lt_succ_self
abbrev Fu:=@Option.map_some
abbrev Ix:=@Array.getElem?_eq_none
abbrev DG:=@And.intro
abbrev Gp:=@Option.getD_some
abbrev Fw:=@Nat.add_assoc
abbrev Iy:=@List.pairwise_append
abbrev Fc:=@Nat.add_zero
abbrev H6:=@Int.toNat_natCast
abbrev H7:=@List.Sublist.refl
abbrev Fx:=@Nat.beq_refl
abbrev Iz:=@Array.append_assoc
abbrev I0:=@Bool.not_eq_false'
abbrev J1:=@List.mem_append_left
abbrev LW:=@List.getElem?_cons_succ
abbrev GQ:=@Nat.zero_mul
abbrev Pn:=@List.size_toArray
abbrev H8:=@List.all_append
abbrev J2:=@List.dropWhile_cons
abbrev J3:=@List.filterMap_cons
abbrev J4:=@List.getElem_of_mem
abbrev J5:=@Nat.mul_le_mul_left
abbrev H9:=@Option.some.inj
abbrev Fd:=@beq_iff_eq
abbrev LX:=@Bool.true_and
abbrev LY:=@Bool.or_eq_false_iff
abbrev LZ:=@Int.ofNat_eq_natCast
abbrev I1:=@Bool.eq_iff_iff
abbrev NN:=@List.getElem?_cons_zero
abbrev LQ:=@List.map_congr_left
abbrev Jy:=@List.perm_middle
abbrev NH:=@List.sublist_cons_self
abbrev LS:=@Bool.false_eq_true
abbrev LU:=@Nat.eq_zero_or_pos
abbrev Gn:=@Nat.mod_lt
abbrev Pj:=@List.filterMap_eq_nil_iff
abbrev Jz:=@List.take_zero
abbrev NI:=@List.Sublist.append
abbrev NJ:=@List.takeWhile_cons
abbrev d1K:=@List.toList_toArray
abbrev Pk:=@List.Nodup.not_mem_erase
abbrev LV:=@Bool.or_eq_true
abbrev Pl:=@decide_eq_false_iff_not
abbrev Pm:=@List.drop_of_length_le
abbrev ib:=@Bool.false_and
abbrev J0:=@Nat.mul_comm
abbrev NK:=@List.not_mem_nil
abbrev NM:=@Nat.mod_eq_of_lt
abbrev ic:=@Bool.not_true
abbrev d1U:=@Bool.not_false
abbrev AA:=trivial
abbrev An:=@inferInstance
abbrev AM:=@if_pos
abbrev AN:=@if_neg
abbrev AW:=@absurd
theorem DK {c:Prop}{d:Decidable c}(h:c:=by omega){α:Sort _}{t e:α}:@ite α c d t e=t:=AM h
theorem BU {c:Prop}{d:Decidable c}(h:¬c:=by omega){α:Sort _}{t e:α}:@ite α c d t e=e:=AN h
theorem Av {p:Prop}[Decidable p](h:p:=by omega)  : decide p=true:=BW h
theorem Ap {p:Prop}[Decidable p](h:¬p:=by omega)  : decide p=false:=B4 h
theorem B3 {α:Type _}{l:List α}{i:Nat}(h:i<l.length:=by omega)  : l[i]?=some l[i]:=BI h
theorem D8 {α:Type _}{l:Array α}{i:Nat}(h:i<l.size:=by omega)  : l[i]?=some l[i]:=BF h
theorem Lg {α:Type _}{i:Nat}{l:List α}(h:l.length<=i:=by omega)  : l.take i=l:=C3 h
inductive D where
 |any
 |prim (v:Value)
 |agg (ds:List D)
 |tup (ds:List D)
 |sl (nn:Bool) (sz:Nat) (es:List D)
 |pptr (d:D)
 |osl (k g sz i len:Nat)
 |optr (k g sz i off:Nat)
 |clo (fn:Fn) (first captured:List D)
 |gd (t:Bool) (d:D)
 |mp (ks vs:List D)
 |ifc (t:Nat) (d:D)
 |omp (k g:Nat)
 |oxl (k g sz i len cap:Nat)
 |oyl (k g:Nat)
 deriving Inhabited
def one:Value->Bool
 | .agg _ | .tuple _=>false
 |_=>true
def D.cells:D->List D
 | .agg ds=>ds
 |d=>[d]
structure AK where
 k:Nat
 g:Nat
 T:Nat
 sz:Nat
 es:List D
abbrev Hp:=List AK
abbrev Lk:=Nat->Nat->Option Nat
def EQ (es:Array MapEntry)(clock:Nat):Prop:=(∀(i:Nat) (e:MapEntry),es[i]?=some e->e.born<clock)/\∀(i j:Nat) (e e':MapEntry),es[i]?=some e->es[j]?=some e'->e.born=e'.born->i=j
inductive AG (ρ:Lk)(O:Nat->Prop)(w:World):D->Value->Prop
 |any (v:Value):AG ρ O w .any v
 |prim (v:Value):AG ρ O w (.prim v) v
 |agg {ds:List D} {vs:Array Value} (hn:vs.size=ds.length) (ho:∀(i:Nat) (v:Value),vs[i]?=some v->one v=true)
   (h:∀(i:Nat) (d:D),ds[i]?=some d->AG ρ O w d (vs.getD i undef)):AG ρ O w (.agg ds) (.agg vs)
 |tup {ds:List D} {vs:Array Value} (hn:vs.size=ds.length)
   (h:∀(i:Nat) (d:D),ds[i]?=some d->AG ρ O w d (vs.getD i undef)):AG ρ O w (.tup ds) (.tuple vs)
 |nil (sz:Nat):AG ρ O w (.sl false sz []) (.slice none 0 0)
 |onil (k g sz:Nat):AG ρ O w (.osl k g sz 0 0) (.slice none 0 0)
 |emp {nn:Bool} {sz:Nat} (a:Addr):AG ρ O w (.sl nn sz []) (.slice (some a) 0 0)
 |mp {ks vs:List D} {r clock:Nat} {es:Array MapEntry} (hO:¬O r) (hr:r<w.heap.size) (hb:w.heap[r]?=some (.map es clock)) (h1:es.size=ks.length) (h2:es.size=vs.length) (hB:EQ es clock)
   (hk:∀(i:Nat) (d:D),ks[i]?=some d->AG ρ O w d (es.getD i default).key)
   (hv:∀(i:Nat) (d:D),vs[i]?=some d->AG ρ O w d (es.getD i default).val):AG ρ O w (.mp ks vs) (.map (some r))
 |sl {nn:Bool} {sz:Nat} {es:List D} {b off len cap:Nat} (f:Nat->Value) (hl:es.length=len) (hc:len<=cap) (hO:¬O b) (hb:b<w.heap.size)
   (hz:∀(i:Nat) (e:D),es[i]?=some e->e.cells.length=sz)
   (hcell:∀n,n<len*sz->w.cell? ⟨b,off+n,none⟩=some (f n))
   (ho:∀n,n<len*sz->one (f n)=true)
   (h:∀(i:Nat) (e:D) (j:Nat) (d:D),es[i]?=some e->e.cells[j]?=some d->AG ρ O w d (f (i*sz+j))):
   AG ρ O w (.sl nn sz es) (.slice (some ⟨b,off,none⟩) len cap)
 |pptr {e:D} {b off:Nat} (f:Nat->Value) (hO:¬O b) (hb:b<w.heap.size)
   (hcell:∀n,n<e.cells.length->w.cell? ⟨b,off+n,none⟩=some (f n))
   (ho:∀n,n<e.cells.length->one (f n)=true)
   (h:∀(j:Nat) (d:D),e.cells[j]?=some d->AG ρ O w d (f j)):AG ρ O w (.pptr e) (.pointer (some ⟨b,off,none⟩))
 |osl {k g sz i len cap b T:Nat} {cs:Array Value} {fz:Nat×Nat} (hr:ρ k g=some b) (hb:w.heap[b]?=some (.cells cs T fz)) (hc:len<=cap)
   (hs:(i+cap)*sz=cs.size) (hm:i+cap<=maxLen):AG ρ O w (.osl k g sz i len) (.slice (some ⟨b,i*sz,none⟩) len cap)
 |optr {k g sz i off b:Nat} (hr:ρ k g=some b):AG ρ O w (.optr k g sz i off) (.pointer (some ⟨b,i*sz+off,none⟩))
 |clo {fn:Fn} {first captured:List D} {fs cs:Array Value} (hf:fs.size=first.length) (hc:cs.size=captured.length)
   (h1:∀(i:Nat) (d:D),first[i]?=some d->AG ρ O w d (fs.getD i undef))
   (h2:∀(i:Nat) (d:D),captured[i]?=some d->AG ρ O w d (cs.getD i undef)):AG ρ O w (.clo fn first captured) (.func fn fs cs)
 |gd {t:Bool} {d:D} {v:Value} (h1:t=true->AG ρ O w d v) (h2:t=false->v=undef):AG ρ O w (.gd t d) v
 |ifc {t:Nat} {d:D} {v:Value} (h:AG ρ O w d v):AG ρ O w (.ifc t d) (.iface t v)
 |omp {k g b:Nat} (hr:ρ k g=some b):AG ρ O w (.omp k g) (.map (some b))
 |oxl {k g sz i len cap b T:Nat} {cs:Array Value} {fz:Nat×Nat} (hr:ρ k g=some b) (hb:w.heap[b]?=some (.cells cs T fz)) (hc:len<=cap)
   (hs:(i+cap)*sz=cs.size) (hm:i+cap<=maxLen):AG ρ O w (.oxl k g sz i len cap) (.slice (some ⟨b,i*sz,none⟩) len cap)
 |oyl {k g l:Nat} (hr:ρ k g=some l):AG ρ O w (.oyl k g) (.func (.yield l) #[] #[])
structure Ao (ρ:Lk)(O:Nat->Prop)(w:World)(ρ':Lk)(O':Nat->Prop)(w':World):Prop where
 size:w.heap.size<=w'.heap.size
 link:∀k g b,ρ k g=some b->ρ' k g=some b
 pure:∀b,b<w.heap.size->¬O b->¬O' b/\w'.heap[b]?=w.heap[b]?
 shape:∀(b:Nat) (cs:Array Value) (T:Nat) (fz:Nat×Nat),w.heap[b]?=some (.cells cs T fz) ->
  ∃(cs':Array Value) (fz':Nat×Nat),w'.heap[b]?=some (.cells cs' T fz')/\cs'.size=cs.size
theorem AG.mono {ρ ρ':Lk}{O O':Nat->Prop}{w w':World}{d:D}{v:Value}(h:AG ρ O w d v)(x:Ao ρ O w ρ' O' w'):AG ρ' O' w' d v:=by
 induction h with
 |any v=>exact .any v
 |prim v=>exact .prim v
 |agg hn ho _ ih=>exact .agg hn ho ih
 |tup hn _ ih=>exact .tup hn ih
 |nil sz=>exact .nil sz
 |onil k g sz=>exact .onil k g sz
 |emp a=>exact .emp a
 |mp hO hr hb h1 h2 hB _ _ ih1 ih2=>
  obtain⟨a1,a2⟩:=x.pure _ hr hO;exact .mp a1 (CU hr x.size) (a2.trans hb) h1 h2 hB ih1 ih2
 |sl f hl hc hO hb hz hcell ho _ ih=>
  obtain⟨h1,h2⟩:=x.pure _ hb hO;refine .sl f hl hc h1 (CU hb x.size) hz (λn hn=>?_) ho ih
  have:=hcell n hn
  unfold World.cell? at*;simp only[h2];exact this
 |pptr f hO hb hcell ho _ ih=>
  obtain⟨h1,h2⟩:=x.pure _ hb hO;refine .pptr f h1 (CU hb x.size) (λn hn=>?_) ho ih
  have:=hcell n hn
  unfold World.cell? at*;simp only[h2];exact this
 |osl hr hb hc hs hm=>
  obtain⟨cs',fz',h1,h2⟩:=x.shape _ _ _ _ hb;exact .osl (x.link _ _ _ hr) h1 hc (by omega) hm
 |optr hr=>exact .optr (x.link _ _ _ hr)
 |omp hr=>exact .omp (x.link _ _ _ hr)
 |oxl hr hb hc hs hm=>
  obtain⟨cs',fz',h1,h2⟩:=x.shape _ _ _ _ hb;exact .oxl (x.link _ _ _ hr) h1 hc (by omega) hm
 |oyl hr=>exact .oyl (x.link _ _ _ hr)
 |clo hf hc _ _ ih1 ih2=>exact .clo hf hc ih1 ih2
 |gd _ h2 ih=>exact .gd ih h2
 |ifc _ ih=>exact .ifc ih
theorem AG.wk {ρ:Lk}{O:Nat->Prop}{w:World}{k g sz i len cap:Nat}{v:Value}(h:AG ρ O w (.oxl k g sz i len cap) v):AG ρ O w (.osl k g sz i len) v:=by
 cases h with
 |oxl hr hb hc hs hm=>exact .osl hr hb hc hs hm
def wkD:D->D
 | .oxl k g sz i len _=>.osl k g sz i len
 |d=>d
theorem AG.wkD {ρ:Lk}{O:Nat->Prop}{w:World}{d:D}{v:Value}(h:AG ρ O w d v):AG ρ O w (wkD d) v:=by
 cases h<;>first|(rename_i hr hb hc hs hm;exact(AG.oxl hr hb hc hs hm).wk)|(constructor<;>assumption)
theorem AG.anti {ρ:Lk}{O O':Nat->Prop}{w:World}{d:D}{v:Value}(h:AG ρ O w d v)(x:∀b,O' b->O b):AG ρ O' w d v:=by
 induction h with
 |any v=>exact .any v
 |prim v=>exact .prim v
 |agg hn ho _ ih=>exact .agg hn ho ih
 |tup hn _ ih=>exact .tup hn ih
 |nil sz=>exact .nil sz
 |onil k g sz=>exact .onil k g sz
 |emp a=>exact .emp a
 |mp hO hr hb h1 h2 hB _ _ ih1 ih2=>exact .mp (λh=>hO (x _ h)) hr hb h1 h2 hB ih1 ih2
 |sl f hl hc hO hb hz hcell ho _ ih=>exact .sl f hl hc (λh=>hO (x _ h)) hb hz hcell ho ih
 |pptr f hO hb hcell ho _ ih=>exact .pptr f (λh=>hO (x _ h)) hb hcell ho ih
 |osl hr hb hc hs hm=>exact .osl hr hb hc hs hm
 |optr hr=>exact .optr hr
 |omp hr=>exact .omp hr
 |oxl hr hb hc hs hm=>exact .oxl hr hb hc hs hm
 |oyl hr=>exact .oyl hr
 |clo hf hc _ _ ih1 ih2=>exact .clo hf hc ih1 ih2
 |gd _ h2 ih=>exact .gd ih h2
 |ifc _ ih=>exact .ifc ih
def BX (d:D):Prop:=∀(ρ ρ':Lk) (O:Nat->Prop) (w:World) (v:Value),AG ρ O w d v->AG ρ' O w d v
theorem BX.any:BX .any:=λ_ _ _ _ v _=>.any v
theorem BX.prim (v:Value):BX (.prim v):=λ_ _ _ _ _ h=>by cases h;exact .prim v
theorem BX.agg {ds:List D}(h:∀d∈ds,BX d):BX (.agg ds):=λ_ _ _ _ _ hr=>by
 cases hr with|agg hn ho hh=>exact .agg hn ho λi d hd=>h d (Bh hd) _ _ _ _ _ (hh i d hd)
theorem BX.tup {ds:List D}(h:∀d∈ds,BX d):BX (.tup ds):=λ_ _ _ _ _ hr=>by
 cases hr with|tup hn hh=>exact .tup hn λi d hd=>h d (Bh hd) _ _ _ _ _ (hh i d hd)
theorem BX.sl {nn:Bool}{sz:Nat}{es:List D}(h:∀e∈es,∀d∈e.cells,BX d):BX (.sl nn sz es):=λ_ _ _ _ _ hr=>by
 cases hr with
 |nil=>exact .nil _
 |emp a=>exact .emp a
 |sl f hl hc hO hb hz hcell ho hh=>
  exact .sl f hl hc hO hb hz hcell ho λi e j d he hd=>h e (Bh he) d (Bh hd) _ _ _ _ _ (hh i e j d he hd)
theorem BX.pptr {e:D}(h:∀d∈e.cells,BX d):BX (.pptr e):=λ_ _ _ _ _ hr=>by
 cases hr with
 |pptr f hO hb hcell ho hh=>exact .pptr f hO hb hcell ho λj d hd=>h d (Bh hd) _ _ _ _ _ (hh j d hd)
theorem BX.clo {fn:Fn}{first captured:List D}(h1:∀d∈first,BX d)(h2:∀d∈captured,BX d):BX (.clo fn first captured):=λ_ _ _ _ _ hr=>by
 cases hr with
 |clo hf hc a1 a2=>exact .clo hf hc (λi d hd=>h1 d (Bh hd) _ _ _ _ _ (a1 i d hd)) (λi d hd=>h2 d (Bh hd) _ _ _ _ _ (a2 i d hd))
theorem BX.ifc {t:Nat}{d:D}(h:BX d):BX (.ifc t d):=λ_ _ _ _ _ hr=>by
 cases hr with|ifc a=>exact .ifc (h _ _ _ _ _ a)
theorem BX.mp {ks vs:List D}(h1:∀d∈ks,BX d)(h2:∀d∈vs,BX d):BX (.mp ks vs):=λ_ _ _ _ _ hr=>by
 cases hr with
 |mp hO hr hb a1 a2 hB hk hv=>exact .mp hO hr hb a1 a2 hB (λi d hd=>h1 d (Bh hd) _ _ _ _ _ (hk i d hd)) (λi d hd=>h2 d (Bh hd) _ _ _ _ _ (hv i d hd))
theorem Vo {v:Value}(h:one v=true):v.cells = #[v]:=by
 cases v<;>first|rfl|simp[one]at h
def ofV:Value->D
 | .agg vs=>.agg (vs.toList.map .prim)
 |v=>.prim v
theorem AG.ofV {ρ:Lk}{O:Nat->Prop}{w:World}{v:Value}(h:∀(i:Nat) (x:Value),v.cells[i]?=some x->one x=true\/¬ ∃vs,v=.agg vs):AG ρ O w (ofV v) v:=by
 cases v
 case agg vs=>
  refine .agg (by simp) (λi x hx=>(h i x hx).resolve_right (by simp)) λi d hd=>?_
  simp at hd;obtain⟨x,hx,rfl⟩:=hd;simp[hx];exact .prim x
 all_goals exact .prim _
def HC:Nat->List D->List D
 | 0,_=>[]
 |n+1,d::l=>d::HC n l
 |_,[]=>[]
def Gf:Nat->List D->List D
 | 0,l=>l
 |n+1,_::l=>Gf n l
 |_,[]=>[]
def DB (ag:Bool)(sz off:Nat)(cs:List D):Option D:=
 match ag with
 |true=>some (.agg (HC sz (Gf off cs)))
 |false=>match Gf off cs with
  |d::_=>some d
  | []=>none
theorem Rc (n:Nat)(l:List D):HC n l=l.take n:=by
 induction n generalizing l with
 |zero=>cases l<;>rfl
 |succ n ih=>cases l<;>simp[HC,ih]
theorem L7 (n:Nat)(l:List D):Gf n l=l.drop n:=by
 induction n generalizing l with
 |zero=>cases l<;>rfl
 |succ n ih=>cases l<;>simp[Gf,ih]
def Do:List D->Nat->List D->List D
 |l,_,[]=>l
 | [],_,_=>[]
 |_::l,0,c::cs=>c::Do l 0 cs
 |x::l,n+1,c::cs=>x::Do l n (c::cs)
def FQ:List D->Nat->D->List D
 | [],_,_=>[]
 |_::l,0,d=>d::l
 |x::l,n+1,d=>x::FQ l n d
theorem Kg (l:List D)(i:Nat)(d:D):FQ l i d=l.set i d:=by
 induction l generalizing i with
 |nil=>simp[FQ]
 |cons x l ih=>cases i<;>simp[FQ,ih]
theorem QK (l:List D)(off:Nat)(cs:List D):(Do l off cs).length=l.length:=by
 fun_induction Do l off cs<;>simp_all
theorem RX (l:List D)(off:Nat)(cs:List D)(j:Nat):
  (Do l off cs)[j]?=if j<l.length/\off<=j/\j<off+cs.length then cs[j-off]? else l[j]?:=by
 fun_induction Do l off cs generalizing j with
 |case1 l off=>simp;omega
 |case2 off cs h=>simp
 |case3 x l c cs ih=>
  cases j with
  |zero=>simp
  |succ j=>
   simp only[LW,ih,CD]
   by_cases h:j<l.length/\j<cs.length
   ·rw[DK,DK];simp
   ·rw[BU,BU]
 |case4 x l n c cs ih=>
  cases j with
  |zero=>simp
  |succ j=>
   simp only[LW,ih,CD]
   by_cases h:j<l.length/\n<=j/\j<n+(cs.length+1)
   ·rw[DK,DK]
    congr 1;omega
   ·rw[BU,BU]
structure AZ where
 P:Program
 G:World->Prop
 nG:Nat
 hG:∀w w',G w->Below nG w w'->G w'
structure AI where
 w0:World
 X:Nat->Prop
 Wr:Nat->Prop
 nt:Nat
 r0:Lk
 df:List Deferred
def AF (X:Nat->Prop)(ρ:Lk)(H:Hp)(b:Nat):Prop:=X b\/∃e∈H,ρ e.k e.g=some b
structure B2 (ρ:Lk)(O:Nat->Prop)(w:World)(e:AK)(cs:Array Value):Prop where
 len:e.es.length*e.sz<=cs.size
 siz:∀(i:Nat) (d:D),e.es[i]?=some d->d.cells.length=e.sz
 one:∀(i:Nat) (v:Value),cs[i]?=some v->one v=true
 rep:∀(i:Nat) (d:D) (j:Nat) (c:D),e.es[i]?=some d->d.cells[j]?=some c->AG ρ O w c (cs.getD (i*e.sz+j) undef)
structure PH (ρ:Lk)(O:Nat->Prop)(w:World)(e:AK)(es:Array MapEntry)(clock:Nat):Prop where
 len:es.size=e.es.length
 born:EQ es clock
 siz:∀(i:Nat) (d:D),e.es[i]?=some d->d.cells.length=2
 key:∀(i:Nat) (d c:D),e.es[i]?=some d->d.cells[0]?=some c->AG ρ O w c (es.getD i default).key
 val:∀(i:Nat) (d c:D),e.es[i]?=some d->d.cells[1]?=some c->AG ρ O w c (es.getD i default).val
def Df (dn:List Nat):D:=.agg (dn.map λ(i:Nat)=>.prim (.int .i64 (Int.ofNat i)))
structure G8 (ρ:Lk)(O:Nat->Prop)(w:World)(e:AK)(bm since:Nat)(seen:Array Nat)(c0:Nat):Prop where
 it:∃ks vs dn es,e.es=[.mp ks vs,Df dn]/\AG ρ O w (.mp ks vs) (.map (some bm))/\w.heap[bm]?=some (.map es c0)/\(∀(i:Nat) (e:MapEntry),es[i]?=some e->e.born<since)/\since<=c0 /\
  seen.toList=dn.map (λi=>(es.getD i default).born)/\dn.Nodup/\∀i∈dn,i<es.size
def C9 (ρ:Lk)(O:Nat->Prop)(w:World)(e:AK):Obj->Prop
 | .cells cs T fz=>T=e.T/\fz=(0,0)/\e.sz≠0/\B2 ρ O w e cs
 | .map es clock=>e.sz=0/\e.T=0/\PH ρ O w e es clock
 | .mapIter (some bm) since seen c0=>e.sz=0/\e.T=1/\G8 ρ O w e bm since seen c0
 |_=>False
structure Uc (F:AI)(ρ:Lk)(H:Hp)(w:World):Prop where
 ent:∀e∈H,(e.es=[]/\ρ e.k e.g=none)\/∃b o,ρ e.k e.g=some b/\w.heap[b]?=some o/\C9 ρ (AF F.X ρ H) w e o
 inj:H.Pairwise λe e'=>∀b b',ρ e.k e.g=some b->ρ e'.k e'.g=some b'->b≠b'
 own:∀e∈H,∀b,ρ e.k e.g=some b->¬F.X b/\(F.w0.heap.size<=b\/F.Wr b)
structure AQ (C:AZ)(F:AI)(ρ:Lk)(H:Hp)(w:World):Prop where
 hok:Uc F ρ H w
 os:w.os=F.w0.os
 tape:w.tape=F.w0.tape
 output:w.output=F.w0.output
 size:F.w0.heap.size<=w.heap.size
 blk:∀b,b<F.w0.heap.size->¬F.Wr b->w.heap[b]?=F.w0.heap[b]?
 xlt:∀b,F.X b->b<F.w0.heap.size
 g0:C.G F.w0
 gn:C.nG<=F.w0.heap.size
 gw:∀b,F.Wr b->C.nG<=b
 lnk:∀k g b,F.r0 k g=some b->ρ k g=some b
 shp:∀(b:Nat) (cs:Array Value) (T:Nat) (fz:Nat×Nat),F.w0.heap[b]?=some (.cells cs T fz)->∃(cs':Array Value) (fz':Nat×Nat),w.heap[b]?=some (.cells cs' T fz')/\cs'.size=cs.size
theorem AQ.below {C:AZ}{F:AI}{ρ:Lk}{H:Hp}{w:World}(m:AQ C F ρ H w):Below C.nG F.w0 w:=
 ⟨m.os,m.tape,m.output,m.size,λb hb=>m.blk b (CU hb m.gn) λh=>AW (m.gw b h) (by omega)⟩
theorem AQ.g {C:AZ}{F:AI}{ρ:Lk}{H:Hp}{w:World}(m:AQ C F ρ H w):C.G w:=C.hG _ _ m.g0 m.below
theorem B2.mono {ρ ρ':Lk}{O O':Nat->Prop}{w w':World}{e:AK}{cs:Array Value}(h:B2 ρ O w e cs)(x:Ao ρ O w ρ' O' w'):B2 ρ' O' w' e cs:=
 ⟨h.len,h.siz,h.one,λi d j c hi hj=>(h.rep i d j c hi hj).mono x⟩
theorem B2.anti {ρ:Lk}{O O':Nat->Prop}{w:World}{e:AK}{cs:Array Value}(h:B2 ρ O w e cs)(x:∀b,O' b->O b):B2 ρ O' w e cs:=
 ⟨h.len,h.siz,h.one,λi d j c hi hj=>(h.rep i d j c hi hj).anti x⟩
theorem G8.mono {ρ ρ':Lk}{O O':Nat->Prop}{w w':World}{e:AK}{bm since c0:Nat}{seen:Array Nat}(h:G8 ρ O w e bm since seen c0)(x:Ao ρ O w ρ' O' w'):G8 ρ' O' w' e bm since seen c0:=by
 obtain⟨ks,vs,dn,es,h1,h2,h3,h4⟩:=h.it;refine⟨ks,vs,dn,es,h1,h2.mono x,?_,h4⟩;cases h2 with
 |mp hO hr hb _ _ _ _ _=>exact(x.pure bm hr hO).2.trans h3
theorem G8.anti {ρ:Lk}{O O':Nat->Prop}{w:World}{e:AK}{bm since c0:Nat}{seen:Array Nat}(h:G8 ρ O w e bm since seen c0)(x:∀b,O' b->O b):G8 ρ O' w e bm since seen c0:=by
 obtain⟨ks,vs,dn,es,h1,h2,h3,h4⟩:=h.it;exact⟨ks,vs,dn,es,h1,h2.anti x,h3,h4⟩
theorem C9.cas {ρ:Lk}{O:Nat->Prop}{w:World}{e:AK}{o:Obj}(h:C9 ρ O w e o):
  (∃cs,o=.cells cs e.T (0,0)/\e.sz≠0/\B2 ρ O w e cs)\/(∃es clock,o=.map es clock/\e.sz=0/\e.T=0/\PH ρ O w e es clock) \/
  ∃bm since seen c0,o=.mapIter (some bm) since seen c0/\e.sz=0/\e.T=1/\G8 ρ O w e bm since seen c0:=by
 unfold C9 at h;split at h
 ·obtain⟨rfl,rfl,h⟩:=h;exact .inl ⟨_,rfl,h⟩
 ·exact .inr (.inl ⟨_,_,rfl,h⟩)
 ·exact .inr (.inr ⟨_,_,_,_,rfl,h⟩)
 ·exact h.elim
theorem C9.mono {ρ ρ':Lk}{O O':Nat->Prop}{w w':World}{e:AK}{o:Obj}(h:C9 ρ O w e o)(x:Ao ρ O w ρ' O' w'):C9 ρ' O' w' e o:=by
 rcases h.cas with⟨cs,rfl,c,d⟩|⟨es,cl,rfl,a,t,b⟩|⟨bm,si,se,c0,rfl,a,t,b⟩
 ·exact⟨rfl,rfl,c,d.mono x⟩
 ·exact⟨a,t,b.len,b.born,b.siz,λi d c hd hc=>(b.key i d c hd hc).mono x,λi d c hd hc=>(b.val i d c hd hc).mono x⟩
 ·exact⟨a,t,b.mono x⟩
theorem C9.anti {ρ:Lk}{O O':Nat->Prop}{w:World}{e:AK}{o:Obj}(h:C9 ρ O w e o)(x:∀b,O' b->O b):C9 ρ O' w e o:=by
 rcases h.cas with⟨cs,rfl,c,d⟩|⟨es,cl,rfl,a,t,b⟩|⟨bm,si,se,c0,rfl,a,t,b⟩
 ·exact⟨rfl,rfl,c,d.anti x⟩
 ·exact⟨a,t,b.len,b.born,b.siz,λi d c hd hc=>(b.key i d c hd hc).anti x,λi d c hd hc=>(b.val i d c hd hc).anti x⟩
 ·exact⟨a,t,b.anti x⟩
theorem C9.ren {ρ:Lk}{O:Nat->Prop}{w:World}{e:AK}{o:Obj}(h:C9 ρ O w e o)(k g:Nat):C9 ρ O w ⟨k,g,e.T,e.sz,e.es⟩ o:=by
 rcases h.cas with⟨cs,rfl,c,d⟩|⟨es,cl,rfl,a,t,b⟩|⟨bm,si,se,c0,rfl,a,t,b⟩
 ·exact⟨rfl,rfl,c,d.len,d.siz,d.one,d.rep⟩
 ·exact⟨a,t,b.len,b.born,b.siz,b.key,b.val⟩
 ·exact⟨a,t,⟨b.it⟩⟩
theorem B2.obj {ρ:Lk}{O:Nat->Prop}{w:World}{e:AK}{cs:Array Value}(h:B2 ρ O w e cs)(hz:e.sz≠0):C9 ρ O w e (.cells cs e.T (0,0)):=⟨rfl,rfl,hz,h⟩
theorem Ao.refl (ρ:Lk)(O:Nat->Prop)(w:World):Ao ρ O w ρ O w:=⟨Ad _,λ_ _ _ h=>h,λ_ _ h=>⟨h,rfl⟩,λ_ cs _ _ h=>⟨cs,_,h,rfl⟩⟩
theorem Ao.trans {ρ ρ' ρ'':Lk}{O O' O'':Nat->Prop}{w w' w'':World}(h:Ao ρ O w ρ' O' w')(k:Ao ρ' O' w' ρ'' O'' w''):Ao ρ O w ρ'' O'' w'':=
 ⟨Az h.size k.size,λ_ _ _ x=>k.link _ _ _ (h.link _ _ _ x),
  λb hb hO=>⟨(k.pure b (CU hb h.size) (h.pure b hb hO).1).1,((k.pure b (CU hb h.size) (h.pure b hb hO).1).2).trans (h.pure b hb hO).2⟩,
  λb cs T fz x=>by
   obtain⟨c1,f1,h1,h2⟩:=h.shape b cs T fz x;obtain⟨c2,f2,h3,h4⟩:=k.shape b c1 T f1 h1;exact⟨c2,f2,h3,h4.trans h2⟩⟩
def Lk.put (ρ:Lk)(k g b:Nat):Lk:=λk' g'=>if k'=k/\g'=g then some b else ρ k' g'
theorem CO (ρ:Lk)(k g b:Nat):ρ.put k g b k g=some b:=by simp[Lk.put]
theorem Jw {ρ:Lk}{k g b:Nat}(h:ρ k g=none){k' g' b':Nat}(h':ρ k' g'=some b'):ρ.put k g b k' g'=some b':=by
 unfold Lk.put;split
 ·rename_i hh;obtain⟨rfl,rfl⟩:=hh;rw[h]at h';cases h'
 ·exact h'
theorem GC {F:AI}{ρ ρ':Lk}{O O':Nat->Prop}{w w':World}
  (h:∀(b:Nat) (cs:Array Value) (T:Nat) (fz:Nat×Nat),F.w0.heap[b]?=some (.cells cs T fz)->∃(cs':Array Value) (fz':Nat×Nat),w.heap[b]?=some (.cells cs' T fz')/\cs'.size=cs.size) (x:Ao ρ O w ρ' O' w'):
  ∀(b:Nat) (cs:Array Value) (T:Nat) (fz:Nat×Nat),F.w0.heap[b]?=some (.cells cs T fz)->∃(cs':Array Value) (fz':Nat×Nat),w'.heap[b]?=some (.cells cs' T fz')/\cs'.size=cs.size:=λb cs T fz hb=>by
 obtain⟨c1,f1,h1,h2⟩:=h b cs T fz hb;obtain⟨c2,f2,h3,h4⟩:=x.shape b c1 T f1 h1;exact⟨c2,f2,h3,h4.trans h2⟩
section mem
variable {C:AZ} {F:AI} {ρ:Lk} {H:Hp} {w:World}
theorem AQ.atO (m:AQ C F ρ H w){e:AK}(he:e∈H){b:Nat}(hb:ρ e.k e.g=some b):
  ∃o,w.heap[b]?=some o/\C9 ρ (AF F.X ρ H) w e o:=by
 rcases m.hok.ent e he with⟨_,h⟩|⟨b',o,h1,h2,h3⟩
 ·rw[hb]at h;cases h
 ·rw[hb]at h1;cases h1;exact⟨o,h2,h3⟩
theorem AQ.at (m:AQ C F ρ H w){e:AK}(he:e∈H){b:Nat}(hb:ρ e.k e.g=some b)(hz:e.sz≠0):
  ∃cs,w.heap[b]?=some (.cells cs e.T (0,0))/\B2 ρ (AF F.X ρ H) w e cs:=by
 obtain⟨o,h1,h2⟩:=m.atO he hb;rcases h2.cas with⟨cs,rfl,c,d⟩|⟨es,cl,rfl,a,t,b⟩|⟨bm,si,se,c0,rfl,a,t,b⟩
 ·exact⟨_,h1,d⟩
 ·exact AW a hz
 ·exact AW a hz
theorem AQ.atC (m:AQ C F ρ H w){e:AK}(he:e∈H){b:Nat}(hb:ρ e.k e.g=some b){cs:Array Value}{T:Nat}{fz:Nat×Nat}(hc:w.heap[b]?=some (.cells cs T fz)):
  ∃cs,w.heap[b]?=some (.cells cs e.T (0,0))/\B2 ρ (AF F.X ρ H) w e cs:=by
 obtain⟨o,h1,h2⟩:=m.atO he hb;rw[hc]at h1;cases h1;obtain⟨rfl,rfl,-,h⟩:=h2;exact⟨_,hc,h⟩
theorem AQ.szC (m:AQ C F ρ H w){e:AK}(he:e∈H){b:Nat}(hb:ρ e.k e.g=some b){cs:Array Value}{T:Nat}{fz:Nat×Nat}(hc:w.heap[b]?=some (.cells cs T fz)):e.sz≠0:=by
 obtain⟨o,h1,h2⟩:=m.atO he hb;rw[hc]at h1;cases h1;exact h2.2.2.1
theorem AQ.atM (m:AQ C F ρ H w){e:AK}(he:e∈H){b:Nat}(hb:ρ e.k e.g=some b)(hz:e.sz=0)(hT:e.T=0):
  ∃es clock,w.heap[b]?=some (.map es clock)/\PH ρ (AF F.X ρ H) w e es clock:=by
 obtain⟨o,h1,h2⟩:=m.atO he hb;rcases h2.cas with⟨cs,rfl,c,d⟩|⟨es,cl,rfl,a,t,b⟩|⟨bm,si,se,c0,rfl,a,t,b⟩
 ·exact AW hz c
 ·exact⟨_,_,h1,b⟩
 ·rw[hT]at t;cases t
theorem AQ.atI (m:AQ C F ρ H w){e:AK}(he:e∈H){b:Nat}(hb:ρ e.k e.g=some b)(hz:e.sz=0)(hT:e.T=1):
  ∃bm since seen c0,w.heap[b]?=some (.mapIter (some bm) since seen c0)/\G8 ρ (AF F.X ρ H) w e bm since seen c0:=by
 obtain⟨o,h1,h2⟩:=m.atO he hb;rcases h2.cas with⟨cs,rfl,c,d⟩|⟨es,cl,rfl,a,t,b⟩|⟨bm,si,se,c0,rfl,a,t,b⟩
 ·exact AW hz c
 ·rw[hT]at t;cases t
 ·exact⟨_,_,_,_,h1,b⟩
theorem AQ.lt (m:AQ C F ρ H w){e:AK}(he:e∈H){b:Nat}(hb:ρ e.k e.g=some b):b<w.heap.size:=by
 obtain⟨cs,h2,_⟩:=m.atO he hb;rcases Aq b w.heap.size with h|h
 ·exact h
 ·simp[Ix h]at h2
theorem AQ.own_lt (m:AQ C F ρ H w){b:Nat}(h:AF F.X ρ H b):b<w.heap.size:=by
 rcases h with h|⟨e,he,hb⟩
 ·exact CU (m.xlt b h) m.size
 ·exact m.lt he hb
theorem Cc (w:World)(o:Obj)(b:Nat):(w.alloc o).heap[b]?=if b=w.heap.size then some o else w.heap[b]?:=by
 show(w.heap.push o)[b]?=_;rw[FY]
theorem Ao.allocPure (o:Obj):Ao ρ (AF F.X ρ H) w ρ (AF F.X ρ H) (w.alloc o):=
 ⟨by simp,λ_ _ _ h=>h,λb hb hO=>⟨hO,by rw[Cc,BU]⟩,λb cs T fz h=>⟨cs,_,by
  rw[Cc,AN];exact h;intro hb;subst hb;simp at h,rfl⟩⟩
theorem AQ.same {w':World}(m:AQ C F ρ H w)(x:Ao ρ (AF F.X ρ H) w ρ (AF F.X ρ H) w')(h1:w'.os=w.os)(h2:w'.tape=w.tape)(h3:w'.output=w.output)
  (h4:∀b,b<w.heap.size->w'.heap[b]?=w.heap[b]?):AQ C F ρ H w' where
 hok:=⟨λe he=>by
  rcases m.hok.ent e he with h|⟨b,cs,a1,a2,a3⟩
  ·exact .inl h
  ·exact .inr ⟨b,cs,a1,by rw[h4 b (m.lt he a1)];exact a2,a3.mono x⟩,m.hok.inj,m.hok.own⟩
 os:=h1.trans m.os
 tape:=h2.trans m.tape
 output:=h3.trans m.output
 size:=Az m.size x.size
 blk:=λb hb hw=>by rw[h4 b (CU hb m.size)];exact m.blk b hb hw
 xlt:=m.xlt
 g0:=m.g0
 gn:=m.gn
 gw:=m.gw
 lnk:=m.lnk
 shp:=GC m.shp x
theorem AQ.allocPure (m:AQ C F ρ H w)(o:Obj):AQ C F ρ H (w.alloc o):=
 m.same (.allocPure o) rfl rfl rfl λb hb=>by rw[Cc,BU]
theorem AQ.drew (m:AQ C F ρ H w):AQ C F ρ H w.drew:=
 m.same ⟨Ad _,λ_ _ _ h=>h,λ_ _ h=>⟨h,rfl⟩,λ_ cs _ _ h=>⟨cs,_,h,rfl⟩⟩ rfl rfl rfl λ_ _=>rfl
theorem Ao.drew (ρ:Lk)(O:Nat->Prop)(w:World):Ao ρ O w ρ O w.drew:=⟨Ad _,λ_ _ _ h=>h,λ_ _ h=>⟨h,rfl⟩,λ_ cs _ _ h=>⟨cs,_,h,rfl⟩⟩
theorem AQ.allocO (m:AQ C F ρ H w)(e:AK)(o:Obj)(hn:ρ e.k e.g=none)(hnew:∀e'∈H,¬(e'.k=e.k/\e'.g=e.g))(ho:C9 ρ (AF F.X ρ H) w e o):
  AQ C F (ρ.put e.k e.g w.heap.size) (e::H) (w.alloc o) /\
  Ao ρ (AF F.X ρ H) w (ρ.put e.k e.g w.heap.size) (AF F.X (ρ.put e.k e.g w.heap.size) (e::H)) (w.alloc o):=by
 have hne:∀e'∈H,∀b,ρ e'.k e'.g=some b->ρ.put e.k e.g w.heap.size e'.k e'.g=some b:=λe' _ b h=>Jw hn h
 have hinv:∀e'∈H,∀b,ρ.put e.k e.g w.heap.size e'.k e'.g=some b->ρ e'.k e'.g=some b:=λe' he' b h=>by
  unfold Lk.put at h;rw[AN (hnew e' he')]at h;exact h
 have x:Ao ρ (AF F.X ρ H) w (ρ.put e.k e.g w.heap.size) (AF F.X (ρ.put e.k e.g w.heap.size) (e::H)) (w.alloc o):=by
  refine⟨by simp,λ_ _ _ h=>Jw hn h,λb hb hO=>⟨?_,by rw[Cc,BU]⟩,λb cs' T fz h=>⟨cs',fz,?_,rfl⟩⟩
  ·rintro(h|⟨e',he',hb'⟩)
   ·exact hO (.inl h)
   ·rcases Ah.1 he' with rfl|he'
    ·rw[CO]at hb';cases hb';omega
    ·exact hO (.inr ⟨e',he',hinv e' he' b hb'⟩)
  ·rw[Cc,AN]
   ·exact h
   ·intro hb;subst hb;simp at h
 refine⟨⟨⟨?_,?_,?_⟩,m.os,m.tape,m.output,Az m.size (by simp),?_,m.xlt,m.g0,m.gn,m.gw,λ_ _ _ h=>x.link _ _ _ (m.lnk _ _ _ h),GC m.shp x⟩,x⟩
 ·intro e' he'
  rcases Ah.1 he' with rfl|he'
  ·exact .inr ⟨w.heap.size,o,CO _ _ _ _,by rw[Cc,AM rfl],ho.mono x⟩
  ·rcases m.hok.ent e' he' with⟨h1,h2⟩|⟨b,cs',h1,h2,h3⟩
   ·exact .inl ⟨h1,by unfold Lk.put;rw[AN (hnew e' he')];exact h2⟩
   ·have:=m.lt he' h1
    exact .inr ⟨b,cs',hne e' he' b h1,by rw[Cc,BU];exact h2,h3.mono x⟩
 ·refine D3.2 ⟨λe' he' b b' h h'=>?_,?_⟩
  ·rw[CO]at h;cases h
   have:=m.lt he' (hinv e' he' b' h')
   omega
  ·refine m.hok.inj.imp_of_mem λ{e1 e2} h1 h2 h b b' hb hb'=>h b b' (hinv e1 h1 b hb) (hinv e2 h2 b' hb')
 ·intro e' he' b hb
  rcases Ah.1 he' with rfl|he'
  ·rw[CO]at hb;cases hb
   exact⟨λh=>AW (m.xlt _ h) (by have:=m.size;omega),.inl m.size⟩
  ·exact m.hok.own e' he' b (hinv e' he' b hb)
 ·intro b hb hw
  have:=m.size
  rw[Cc,BU];exact m.blk b hb hw
theorem AQ.alloc (m:AQ C F ρ H w)(e:AK)(cs:Array Value)(hn:ρ e.k e.g=none)(hnew:∀e'∈H,¬(e'.k=e.k/\e'.g=e.g))(hz:e.sz≠0)(ho:B2 ρ (AF F.X ρ H) w e cs):
  AQ C F (ρ.put e.k e.g w.heap.size) (e::H) (w.alloc (.cells cs e.T)) /\
  Ao ρ (AF F.X ρ H) w (ρ.put e.k e.g w.heap.size) (AF F.X (ρ.put e.k e.g w.heap.size) (e::H)) (w.alloc (.cells cs e.T)):=
 m.allocO e _ hn hnew (ho.obj hz)
def World.setBlk (w:World)(b:Nat)(cs:Array Value)(T:Nat):World:={ w with heap:=w.heap.setIfInBounds b (.cells cs T (0,0)) }
theorem Ur (w:World)(b:Nat)(cs:Array Value)(T:Nat)(b':Nat)(hb:b<w.heap.size):
  (World.setBlk w b cs T).heap[b']?=if b'=b then some (.cells cs T (0,0))else w.heap[b']?:=by
 simp only[World.setBlk,DE]
 by_cases h:b'=b
 ·subst h;simp[hb]
 ·rw[AN (Ne.symm h),AN h]
def World.setO (w:World)(b:Nat)(o:Obj):World:={ w with heap:=w.heap.setIfInBounds b o }
theorem KN (w:World)(b:Nat)(o:Obj)(b':Nat)(hb:b<w.heap.size):(World.setO w b o).heap[b']?=if b'=b then some o else w.heap[b']?:=by
 simp only[World.setO,DE]
 by_cases h:b'=b
 ·subst h;simp[hb]
 ·rw[AN (Ne.symm h),AN h]
theorem AQ.writeO {H1 H2:Hp}{e e':AK}{b:Nat}{o:Obj}(m:AQ C F ρ (H1++e::H2) w)(hb:ρ e.k e.g=some b)
  (hk:e'.k=e.k) (hg:e'.g=e.g) (hs:∀cs T fz,w.heap[b]?=some (.cells cs T fz)->∃cs' fz',o=.cells cs' T fz'/\cs'.size=cs.size) (ho:C9 ρ (AF F.X ρ (H1++e::H2)) w e' o):
  AQ C F ρ (H1++e'::H2) (World.setO w b o) /\
  Ao ρ (AF F.X ρ (H1++e::H2)) w ρ (AF F.X ρ (H1++e'::H2)) (World.setO w b o):=by
 have hlt:b<w.heap.size:=m.lt (by simp) hb;have hO:∀b,AF F.X ρ (H1++e'::H2) b↔AF F.X ρ (H1++e::H2) b:=by
  intro b;simp[AF,or_and_right,exists_or,hk,hg]
 have hOe:AF F.X ρ (H1++e'::H2)=AF F.X ρ (H1++e::H2):=funext λb=>propext (hO b)
 have hown:AF F.X ρ (H1++e::H2) b:=.inr ⟨e,by simp,hb⟩;have x:Ao ρ (AF F.X ρ (H1++e::H2)) w ρ (AF F.X ρ (H1++e'::H2)) (World.setO w b o):=by
  refine⟨by simp[World.setO],λ_ _ _ h=>h,λb' hb' hn=>⟨by rw[hOe];exact hn,?_⟩,λb' c T fz h=>?_⟩
  ·rw[KN _ _ _ _ hlt,AN]
   rintro rfl;exact hn hown
  ·rw[KN _ _ _ _ hlt]
   by_cases hbb:b'=b
   ·subst hbb
    obtain⟨cs',fz',h1,h2⟩:=hs _ _ _ h;subst h1;rw[AM rfl];exact⟨cs',fz',rfl,h2⟩
   ·rw[AN hbb];exact⟨c,_,h,rfl⟩
 have hinj:=m.hok.inj;rw[Iy,D3]at hinj;obtain⟨p1,⟨p2,p3⟩,p4⟩:=hinj;refine⟨⟨⟨?_,?_,?_⟩,m.os,m.tape,m.output,Az m.size (by simp[World.setO]),?_,m.xlt,m.g0,m.gn,m.gw,λ_ _ _ h=>x.link _ _ _ (m.lnk _ _ _ h),GC m.shp x⟩,x⟩
 ·intro e1 he1
  have other:e1∈H1\/e1∈H2->_:=λh=>(show(e1.es=[]/\ρ e1.k e1.g=none)\/∃b1 o1,ρ e1.k e1.g=some b1/\(World.setO w b o).heap[b1]?=some o1/\C9 ρ (AF F.X ρ (H1++e'::H2)) (World.setO w b o) e1 o1 from by
   rcases m.hok.ent e1 (by rcases h with h|h<;>simp[h])with h0|⟨b1,cs1,a1,a2,a3⟩
   ·exact .inl h0
   refine .inr ⟨b1,cs1,a1,?_,a3.mono x⟩;rw[KN _ _ _ _ hlt,AN]
   ·exact a2
   ·rintro rfl
    rcases h with h|h
    ·exact p4 e1 h e (by simp) _ _ a1 hb rfl
    ·exact p2 e1 h _ _ hb a1 rfl)
  rcases BR.1 he1 with h|h
  ·exact other (.inl h)
  ·rcases Ah.1 h with rfl|h
   ·exact .inr ⟨b,o,by rw[hk,hg];exact hb,by rw[KN _ _ _ _ hlt,AM rfl],ho.mono x⟩
   ·exact other (.inr h)
 ·rw[Iy,D3]
  refine⟨p1,⟨λe2 h2 b1 b2 hb1 hb2=>p2 e2 h2 b1 b2 (by rw[<-hk,<-hg];exact hb1) hb2,p3⟩,λe1 h1 e2 h2=>?_⟩;rcases Ah.1 h2 with rfl|h2
  ·intro b1 b2 hb1 hb2;exact p4 e1 h1 e (by simp) b1 b2 hb1 (by rw[<-hk,<-hg];exact hb2)
  ·exact p4 e1 h1 e2 (by simp[h2])
 ·intro e1 he1 b1 hb1
  rcases BR.1 he1 with h|h
  ·exact m.hok.own e1 (by simp[h]) b1 hb1
  ·rcases Ah.1 h with rfl|h
   ·exact m.hok.own e (by simp) b1 (by rw[<-hk,<-hg];exact hb1)
   ·exact m.hok.own e1 (by simp[h]) b1 hb1
 ·intro b1 hb1 hw
  rw[KN _ _ _ _ hlt,AN]
  ·exact m.blk b1 hb1 hw
  ·rintro rfl
   rcases(m.hok.own e (by simp) b1 hb).2 with h|h
   ·omega
   ·exact hw h
theorem AQ.write {H1 H2:Hp}{e e':AK}{b:Nat}{cs cs':Array Value}(m:AQ C F ρ (H1++e::H2) w)(hb:ρ e.k e.g=some b)(hc:w.heap[b]?=some (.cells cs e.T (0,0)))
  (hk:e'.k=e.k) (hg:e'.g=e.g) (hT:e'.T=e.T) (hz:e'.sz=e.sz) (hs:cs'.size=cs.size) (ho:B2 ρ (AF F.X ρ (H1++e::H2)) w e' cs'):
  AQ C F ρ (H1++e'::H2) (World.setBlk w b cs' e.T) /\
  Ao ρ (AF F.X ρ (H1++e::H2)) w ρ (AF F.X ρ (H1++e'::H2)) (World.setBlk w b cs' e.T):=
 m.writeO (o:=.cells cs' e.T (0,0)) hb hk hg (λc T fz h=>by rw[hc]at h;cases h;exact⟨cs',(0,0),rfl,hs⟩) ⟨hT.symm,rfl,by rw[hz];exact m.szC (by simp) hb hc,ho⟩
theorem AQ.sub {H':Hp}(m:AQ C F ρ H w)(hs:H'.Sublist H):AQ C F ρ H' w/\∀b,AF F.X ρ H' b->AF F.X ρ H b:=by
 have hO:∀b,AF F.X ρ H' b->AF F.X ρ H b:=λb h=>h.imp id λ⟨e,he,hb⟩=>⟨e,hs.subset he,hb⟩
 refine⟨⟨⟨λe he=>?_,m.hok.inj.sublist hs,λe he=>m.hok.own e (hs.subset he)⟩,m.os,m.tape,m.output,m.size,m.blk,m.xlt,m.g0,m.gn,m.gw,m.lnk,m.shp⟩,hO⟩;rcases m.hok.ent e (hs.subset he)with h|⟨b,cs,h1,h2,h3⟩
 ·exact .inl h
 ·exact .inr ⟨b,cs,h1,h2,h3.anti hO⟩
end mem
abbrev Ab:=List (Nat×D)
def Ab.get:Ab->Nat->D
 | [],_=>.any
 |(k,d)::r,t=>match Nat.beq k t with
  |true=>d
  |false=>Ab.get r t
theorem Gk (k:Nat)(d:D)(r:Ab)(t:Nat):Ab.get ((k,d)::r) t=if k=t then d else Ab.get r t:=by
 simp only[Ab.get]
 by_cases h:k=t
 ·subst h;simp
 ·cases hb:Nat.beq k t with
  |true=>exact AW (Ae hb) h
  |false=>simp[h]
structure St where
 env:Ab
 H:Hp
 n:Nat
def Ge (ρ:Lk)(n:Nat):Prop:=∀k g,n<=g->ρ k g=none
structure Aw (C:AZ)(F:AI)(ρ:Lk)(s:St)(a:Act)(w:World):Prop where
 mem:AQ C F ρ s.H w
 fresh:Ge ρ s.n
 gen:∀e∈s.H,e.g<s.n
 env:∀t,AG ρ (AF F.X ρ s.H) w (s.env.get t) (a.tmps.getD t undef)
 nt:a.tmps.size=F.nt
 dfr:a.defers=F.df
def CB (nt:Nat)(o:Oper):Bool:=match o.dst with
 |some d=>Nat.blt d nt
 |none=>true
def B6 (nt:Nat):Code->Bool
 | .region _ ops _=>ops.toList.all (CB nt)
 | .seq a b=>B6 nt a&&B6 nt b
 | .cond _ a b=>B6 nt a&&B6 nt b
 | .block _ b=>B6 nt b
 | .loop b=>B6 nt b
 | .scope b=>B6 nt b
 | .rangeFunc _ ps a b=>ps.toList.all (λt=>Nat.blt t nt)&&(B6 nt a&&B6 nt b)
 |_=>true
def Ok (C:AZ)(F:AI)(c:Code)(s:St)(Q:Exit->St->Prop):Prop:=
 B6 F.nt c=true->∀ρ a w,Aw C F ρ s a w->c.wp C.P (λe a' w'=>∃s' ρ',Q e s'/\Aw C F ρ' s' a' w') a w
section
variable {C:AZ} {F:AI} {s:St} {Q:Exit->St->Prop}
theorem Ok.mono {c:Code}{Q':Exit->St->Prop}(h:Ok C F c s Q)(hq:∀e s,Q e s->Q' e s):Ok C F c s Q':=
 λhd ρ a w hs=>wp_mono (h hd ρ a w hs) λ_ _ _ ⟨s',ρ',q,x⟩=>⟨s',ρ',hq _ _ q,x⟩
theorem Ok.skip (h:Q .normal s):Ok C F .skip s Q:=λ_ ρ _ _ hs=>wp_skip ⟨s,ρ,h,hs⟩
theorem Ok.ret (h:Q .ret s):Ok C F .ret s Q:=λ_ ρ _ _ hs=>wp_ret ⟨s,ρ,h,hs⟩
theorem Ok.exit {i:Nat}(h:Q (.exit i) s):Ok C F (.exit i) s Q:=λ_ ρ _ _ hs=>wp_exit ⟨s,ρ,h,hs⟩
theorem Ok.seq {a b:Code}(h:Ok C F a s (λe s=>match e with | .normal=>Ok C F b s Q|e=>Q e s)):Ok C F (.seq a b) s Q:=by
 intro hd ρ ac w hs;simp only[B6,Ag]at hd;refine wp_seq (wp_mono (h hd.1 ρ ac w hs) ?_);rintro e a' w' ⟨s',ρ',hq,hs'⟩;cases e with
 |normal=>exact hq hd.2 ρ' a' w' hs'
 |_=>exact⟨s',ρ',hq,hs'⟩
theorem Ok.cond {c:Operand}{x y:Code}(t:Bool)(hc:∀ρ a w,Aw C F ρ s a w->a.eval c=.bool t)(h1:t=true->Ok C F x s Q)(h2:t=false->Ok C F y s Q):
  Ok C F (.cond c x y) s Q:=by
 intro hd ρ a w hs;simp only[B6,Ag]at hd;exact wp_cond_split (hc ρ a w hs) (λht=>h1 ht hd.1 ρ a w hs) (λht=>h2 ht hd.2 ρ a w hs)
theorem Ok.block {i:Nat}{b:Code}(h:Ok C F b s (λe s=>match e with | .exit j=>if j=i then Q .normal s else Q (.exit j) s|e=>Q e s)):Ok C F (.block i b) s Q:=by
 intro hd ρ a w hs;refine wp_block (wp_mono (h hd ρ a w hs) ?_);rintro e a' w' ⟨s',ρ',hq,hs'⟩;cases e with
 |exit j=>
  simp only[Exit.inBlock]at hq⊢;split
  ·rename_i hj;rw[AM hj]at hq;exact⟨s',ρ',hq,hs'⟩
  ·rename_i hj;rw[AN hj]at hq;exact⟨s',ρ',hq,hs'⟩
 |_=>exact⟨s',ρ',hq,hs'⟩
theorem Vj {P:Program}{R:Exit->Act->World->Prop}{c:Code}(I:Nat->Act->World->Prop){m:Nat}{a:Act}{w:World}(h0:I m a w)
  (round:∀m a w,I m a w->c.wp P (Exit.then (λa' w'=>∃m',m'<m/\I m' a' w') R) a w):(Code.loop c).wp P R a w:=by
 intro b k cs;have key:∀m a w,I m a w->∃e a' w',R e a' w'/\Arrives P (lone (b.at a (.code c::.inLoop c::k)) cs w) b k cs e a' w':=by
  intro m
  induction m using Nat.strongRecOn with
  |_ m ih=>
   intro a w hI;obtain⟨e,a₁,w₁,hq,harr⟩:=round m a w hI b (.inLoop c::k) cs;cases e with
   |normal=>
    obtain⟨m',hlt,hI'⟩:=hq;obtain⟨e₂,a₂,w₂,hq₂,harr₂⟩:=ih m' hlt a₁ w₁ hI';exact⟨e₂,a₂,w₂,hq₂,.of_steps (Steps.trans harr (.one step_inLoop)) harr₂⟩
   |exit id=>exact⟨_,a₁,w₁,hq,.pass (x:=.inLoop c) rfl (λ_ _=>.inl (by simp)) harr⟩
   |goto l=>exact⟨_,a₁,w₁,hq,.pass (x:=.inLoop c) rfl (λ_ _=>.inl (by simp)) harr⟩
   |ret=>exact⟨_,a₁,w₁,hq,.pass (x:=.inLoop c) rfl (λ_ _=>.inl (by simp)) harr⟩
   |panic ch=>exact⟨_,a₁,w₁,hq,.pass (x:=.inLoop c) rfl (λ_ _=>.inl (by simp)) harr⟩
   |outgrown=>exact⟨_,a₁,w₁,hq,.pass (x:=.inLoop c) rfl (λ_ _=>.inl (by simp)) harr⟩
 obtain⟨e,a',w',hq,harr⟩:=key m a w h0;exact⟨e,a',w',hq,.of_steps (.one step_loop) harr⟩
theorem Ok.loop {b:Code}(I:Nat->St->Prop){m:Nat}(h0:I m s)
  (round:∀m s,I m s->Ok C F b s (λe s'=>match e with | .normal=>∃m',m'<m/\I m' s'|e=>Q e s')):Ok C F (.loop b) s Q:=by
 intro hd ρ a w hs;refine Vj (λm a w=>∃s ρ,I m s/\Aw C F ρ s a w) ⟨s,ρ,h0,hs⟩ ?_;rintro m a w ⟨s,ρ,hI,hs⟩;refine wp_mono (round m s hI hd ρ a w hs) ?_;rintro e a' w' ⟨s',ρ',hq,hs'⟩;cases e with
 |normal=>obtain⟨m',hm,hI'⟩:=hq;exact⟨m',hm,s',ρ',hI',hs'⟩
 |_=>exact⟨s',ρ',hq,hs'⟩
end
inductive TI where
 |int (k:IntKind)|bool|string
 |struct (fs:List (Nat×Nat×Bool))
 |slice (e esz eby:Nat) (ez:Value)
 |arr (n esz:Nat) (eag:Bool)
 |ptr|other|fn
structure AL where
 ti:TI
 sz:Nat
 bts:Nat
 ag:Bool
 zero:Value
def Gd (P:Program)(t:Nat):Bool:=match P.underlying t with
 |some (.struct _)|some (.array _ _)=>true
 |_=>false
def Hh (v:Value)(n:Nat):Bool:=v.cells.size==n&&v.cells.toList.all one
def Kn (P:Program)(f:Field):Option (Nat×Nat×Bool):=match P.info? f.type with
 |some i=>match P.underlying f.type with
  |some _=>if i.size=0 then none else some (f.offset,i.size,Gd P f.type)
  |none=>none
 |none=>none
def Fr (P:Program):List Field->Option (List (Nat×Nat×Bool))
 | []=>some []
 |f::fs=>match Kn P f with
  |some x=>match Fr P fs with
   |some l=>some (x::l)
   |none=>none
  |none=>none
def Ea (P:Program):TypeDesc->Option (TI×Bool)
 | .int k=>some (.int k,false)
 | .bool=>some (.bool,false)
 | .string=>some (.string,false)
 | .pointer _=>some (.ptr,false)
 | .struct fs=>match Fr P fs.toList with
  |some l=>some (.struct l,true)
  |none=>none
 | .array n e=>match P.info? e with
  |some ie=>some (.arr n ie.size (Gd P e),true)
  |none=>none
 | .slice e=>match P.info? e with
  |some ie=>match ie.zero with
   |some ez=>if Hh ez ie.size then some (.slice e ie.size ie.bytes ez,false)else none
   |none=>none
  |none=>none
 | .func _ _ _=>some (.fn,false)
 |_=>some (.other,false)
def Cm (P:Program)(t:Nat):Option AL:=
 match P.info? t with
 |some i=>match P.underlying t with
  |some u=>match i.zero with
   |some z=>match Hh z i.size with
    |true=>match Ea P u with
     |some (ti,ag)=>some ⟨ti,i.size,i.bytes,ag,z⟩
     |none=>none
    |false=>none
   |none=>none
  |none=>none
 |none=>none
theorem Ez {P:Program}{t:Nat}{i:AL}(h:Cm P t=some i):
  ∃inf u,P.info? t=some inf/\P.underlying t=some u/\inf.zero=some i.zero/\inf.size=i.sz/\inf.bytes=i.bts/\Hh i.zero i.sz=true/\Ea P u=some (i.ti,i.ag):=by
 unfold Cm at h;cases h1:P.info? t with
 |none=>simp[h1]at h
 |some inf=>
  cases h2:P.underlying t with
  |none=>simp[h1,h2]at h
  |some u=>
   cases h3:inf.zero with
   |none=>simp[h1,h2,h3]at h
   |some z=>
    cases h4:Hh z inf.size with
    |false=>simp[h1,h2,h3,h4]at h
    |true=>
     cases h5:Ea P u with
     |none=>simp[h1,h2,h3,h4,h5]at h
     |some p=>
      obtain⟨ti,ag⟩:=p;simp[h1,h2,h3,h4,h5]at h;subst h;exact⟨inf,u,rfl,rfl,h3,rfl,rfl,h4,h5⟩
structure YM (P:Program)(t:Nat)(i:AL):Prop where
 info:∃inf,P.info? t=some inf/\inf.size=i.sz/\inf.bytes=i.bts/\inf.zero=some i.zero
 agg:Gd P t=i.ag
 zsz:i.zero.cells.size=i.sz
 zone:∀(j:Nat) (x:Value),i.zero.cells[j]?=some x->one x=true
theorem KX {v:Value}{n:Nat}(h:Hh v n=true):v.cells.size=n/\∀(j:Nat) (x:Value),v.cells[j]?=some x->one x=true:=by
 simp only[Hh,Ag,Fd,CF]at h;refine⟨h.1,λj x hx=>h.2 x ?_⟩;rw[Dc];exact FD hx
theorem U9 {P:Program}{t:Nat}{i:AL}(h:Cm P t=some i):YM P t i:=by
 obtain⟨inf,u,h1,h2,h3,h4,h5,h6,h7⟩:=Ez h;obtain⟨h8,h9⟩:=KX h6;refine⟨⟨inf,h1,h4,h5,h3⟩,?_,h8,h9⟩;unfold Gd;rw[h2];cases u<;>simp only[Ea]at h7<;>(repeat' split at h7)<;>simp_all
theorem OF {P:Program}{t:Nat}{i:AL}{k:IntKind}(h:Cm P t=some i)(hk:i.ti=.int k):P.underlying t=some (.int k):=by
 obtain⟨inf,u,h1,h2,h3,h4,h5,h6,h7⟩:=Ez h;rw[hk]at h7;cases u<;>simp only[Ea]at h7<;>(repeat' split at h7)<;>simp_all
theorem QW {P:Program}{t:Nat}{i:AL}(h:Cm P t=some i)(hk:i.ti=.bool):P.underlying t=some .bool:=by
 obtain⟨inf,u,h1,h2,h3,h4,h5,h6,h7⟩:=Ez h;rw[hk]at h7;cases u<;>simp only[Ea]at h7<;>(repeat' split at h7)<;>simp_all
theorem IF {P:Program}{t:Nat}{i:AL}(h:Cm P t=some i)(hk:i.ti=.string):P.underlying t=some .string:=by
 obtain⟨inf,u,h1,h2,h3,h4,h5,h6,h7⟩:=Ez h;rw[hk]at h7;cases u<;>simp only[Ea]at h7<;>(repeat' split at h7)<;>simp_all
theorem OG {P:Program}{t:Nat}{i:AL}(h:Cm P t=some i)(hk:i.ti=.ptr):∃e,P.underlying t=some (.pointer e):=by
 obtain⟨inf,u,h1,h2,h3,h4,h5,h6,h7⟩:=Ez h;rw[hk]at h7;cases u<;>simp only[Ea]at h7<;>(repeat' split at h7)<;>simp_all
theorem Rd {P:Program}{t:Nat}{i:AL}(h:Cm P t=some i)(hk:i.ti=.fn):∃a b c,P.underlying t=some (.func a b c):=by
 obtain⟨inf,u,h1,h2,h3,h4,h5,h6,h7⟩:=Ez h;rw[hk]at h7;cases u<;>simp only[Ea]at h7<;>(repeat' split at h7)<;>simp_all
theorem CM {P:Program}{t:Nat}{i:AL}{e esz eby:Nat}{ez:Value}(h:Cm P t=some i)(hk:i.ti=.slice e esz eby ez):
  P.underlying t=some (.slice e)/\(∃inf,P.info? e=some inf/\inf.size=esz/\inf.bytes=eby/\inf.zero=some ez) /\
  ez.cells.size=esz/\∀(j:Nat) (x:Value),ez.cells[j]?=some x->one x=true:=by
 obtain⟨inf,u,h1,h2,h3,h4,h5,h6,h7⟩:=Ez h;rw[hk]at h7;cases u
 case slice e'=>
  simp only[Ea]at h7;cases g1:P.info? e' with
  |none=>simp[g1]at h7
  |some ie=>
   cases g2:ie.zero with
   |none=>simp[g1,g2]at h7
   |some z=>
    cases g3:Hh z ie.size with
    |false=>simp[g1,g2,g3]at h7
    |true=>
     simp[g1,g2,g3]at h7;obtain⟨⟨rfl,rfl,rfl,rfl⟩,_⟩:=h7;obtain⟨h8,h9⟩:=KX g3;exact⟨h2,⟨ie,g1,rfl,rfl,g2⟩,h8,h9⟩
 all_goals(simp only[Ea]at h7;(repeat' split at h7)<;>simp_all)
theorem OE {P:Program}{t:Nat}{i:AL}{n esz:Nat}{eag:Bool}(h:Cm P t=some i)(hk:i.ti=.arr n esz eag):
  ∃e,P.underlying t=some (.array n e)/\Gd P e=eag/\∃inf,P.info? e=some inf/\inf.size=esz:=by
 obtain⟨inf,u,h1,h2,h3,h4,h5,h6,h7⟩:=Ez h;rw[hk]at h7;cases u
 case array n' e'=>
  simp only[Ea]at h7;cases g1:P.info? e' with
  |none=>simp[g1]at h7
  |some ie=>
   simp[g1]at h7;obtain⟨⟨rfl,rfl,rfl⟩,_⟩:=h7;exact⟨e',h2,rfl,ie,g1,rfl⟩
 all_goals(simp only[Ea]at h7;(repeat' split at h7)<;>simp_all)
theorem V6 {P:Program}:∀(fs:List Field) (l:List (Nat×Nat×Bool)),Fr P fs=some l->fs.length=l.length /\
  ∀(j:Nat) (x:Nat×Nat×Bool),l[j]?=some x->∃f,fs[j]?=some f/\f.offset=x.1/\Gd P f.type=x.2.2/\x.2.1≠0/\(∃inf,P.info? f.type=some inf/\inf.size=x.2.1)/\∃u,P.underlying f.type=some u:=by
 intro fs
 induction fs with
 |nil=>intro l hl;simp[Fr]at hl;subst hl;simp
 |cons f fs ih=>
  intro l hl;simp only[Fr]at hl;cases hx:Kn P f with
  |none=>simp[hx]at hl
  |some x=>
   cases hl2:Fr P fs with
   |none=>simp[hx,hl2]at hl
   |some l2=>
    simp[hx,hl2]at hl;subst hl;obtain⟨i1,i2⟩:=ih l2 hl2;refine⟨by simp[i1],λj y hy=>?_⟩;cases j with
    |zero=>
     simp at hy;subst hy;unfold Kn at hx;cases hinf:P.info? f.type with
     |none=>simp[hinf]at hx
     |some inf=>
      cases hu:P.underlying f.type with
      |none=>simp[hinf,hu]at hx
      |some u=>
       simp only[hinf,hu]at hx;split at hx
       ·cases hx
       ·cases hx;exact⟨f,rfl,rfl,rfl,by assumption,⟨inf,hinf,rfl⟩,u,hu⟩
    |succ j=>simpa using i2 j y (by simpa using hy)
theorem Nt {P:Program}{t:Nat}{i:AL}{l:List (Nat×Nat×Bool)}(h:Cm P t=some i)(hk:i.ti=.struct l):
  ∃fs:Array Field,P.underlying t=some (.struct fs)/\fs.size=l.length /\
   ∀(j:Nat) (x:Nat×Nat×Bool),l[j]?=some x->∃f,fs[j]?=some f/\f.offset=x.1/\Gd P f.type=x.2.2/\x.2.1≠0/\(∃inf,P.info? f.type=some inf/\inf.size=x.2.1)/\∃u,P.underlying f.type=some u:=by
 obtain⟨inf,u,h1,h2,h3,h4,h5,h6,h7⟩:=Ez h;rw[hk]at h7;cases u
 case struct fs=>
  simp only[Ea]at h7;cases g1:Fr P fs.toList with
  |none=>simp[g1]at h7
  |some l'=>
   simp[g1]at h7;obtain⟨rfl,_⟩:=h7;obtain⟨k1,k2⟩:=V6 _ _ g1;exact⟨fs,h2,by simpa using k1,by simpa using k2⟩
 all_goals(simp only[Ea]at h7;(repeat' split at h7)<;>simp_all)
def Mh:List Value->Bool
 | []=>true
 |v::l=>match one v with
  |true=>Mh l
  |false=>false
def Dz (v:Value):D:=match v with
 | .agg vs=>match Mh vs.toList with
  |true=>.agg (vs.toList.map .prim)
  |false=>.any
 |v=>.prim v
def AV (env:Ab):Operand->D
 | .tmp t=>env.get t
 | .const v=>Dz v
 | .global g=>.prim (.pointer (some ⟨g,0,none⟩))
 | .func f=>.clo (.func f) [] []
def FR:D->Bool×Bool
 | .prim (.bool x)=>(x,true)
 | .gd u (.prim (.bool x))=>(x,u)
 |_=>(false,false)
def JE (op:BinOp)(k:IntKind)(x y:Int):Int:=
 let a:=BitVec.ofInt k.bits x
 let b:=BitVec.ofInt k.bits y
 match op with
 | .and=>k.wrap (a &&& b).toNat
 | .or=>k.wrap (a ||| b).toNat
 | .xor=>k.wrap (a ^^^ b).toNat
 |_=>k.wrap (a &&& ~~~b).toNat
def T1 (k:IntKind)(x y:Int):Int:=k.wrap (x*2^(min y.toNat k.bits))
def T2 (k:IntKind)(x y:Int):Int:=x.fdiv (2^(min y.toNat k.bits))
def BL (a b:ByteArray):Bool:=a.toList==b.toList
def Ms (a b:ByteArray):Bool:=Op.bytesLess a.toList b.toList
def Ip (op:BinOp)(x y:Value):Option (Value×Prop):=
 match x,y with
 | .int k a,.int k' b=>match op with
  | .add=>some (.int k (k.wrap (a+b)),k=k')
  | .sub=>some (.int k (k.wrap (a-b)),k=k')
  | .mul=>some (.int k (k.wrap (a*b)),k=k')
  | .quo=>some (.int k (k.wrap (a.tdiv b)),k=k'/\b≠0)
  | .rem=>some (.int k (a.tmod b),k=k'/\b≠0)
  | .and=>some (.int k (JE .and k a b),k=k')
  | .or=>some (.int k (JE .or k a b),k=k')
  | .xor=>some (.int k (JE .xor k a b),k=k')
  | .andNot=>some (.int k (JE .andNot k a b),k=k')
  | .shl=>some (.int k (T1 k a b),0<=b)
  | .shr=>some (.int k (T2 k a b),0<=b)
  | .eql=>some (.bool (a==b),k=k')
  | .neq=>some (.bool (a != b),k=k')
  | .lss=>some (.bool (decide (a<b)),k=k')
  | .leq=>some (.bool (decide (a<=b)),k=k')
  | .gtr=>some (.bool (decide (a>b)),k=k')
  | .geq=>some (.bool (decide (a>=b)),k=k')
 | .string a,.string b=>match op with
  | .add=>some (.string (a++b),a.size+b.size<=9223372036854775807)
  | .eql=>some (.bool (BL a b),True)
  | .neq=>some (.bool (!BL a b),True)
  | .lss=>some (.bool (Ms a b),True)
  | .leq=>some (.bool (Ms a b||BL a b),True)
  | .gtr=>some (.bool (!(Ms a b||BL a b)),True)
  | .geq=>some (.bool (!Ms a b),True)
  |_=>none
 |_,_=>none
def Gj (op:BinOp)(b:Bool):Option Bool:=match op with
 | .eql=>some b
 | .neq=>some (!b)
 |_=>none
def I2 (ti:TI)(x y:D):Option (Bool×Prop):=
 match ti,x,y with
 | .bool,.prim (.bool a),.prim (.bool b)=>some (a==b,True)
 | .slice ..,.prim (.slice none _ _),.prim (.slice none _ _)=>some (true,True)
 | .slice ..,.sl true _ _,.prim (.slice none _ _)=>some (false,True)
 | .slice ..,.sl false _ es,.prim (.slice none _ _)=>some (false,es≠[])
 | .ptr,.prim (.pointer none),.prim (.pointer none)=>some (true,True)
 | .ptr,.pptr _,.prim (.pointer none)=>some (false,True)
 | .ptr,.optr ..,.prim (.pointer none)=>some (false,True)
 | .fn,.prim .nilFunc,.prim .nilFunc=>some (true,True)
 | .fn,.clo ..,.prim .nilFunc=>some (false,True)
 |_,_,_=>none
def Io (tt:Nat->Option AL)(op:BinOp)(t:Nat)(x y:D):Option (D×Prop):=
 match x,y with
 | .prim (.int k a),.prim (.int k' b)=>match Ip op (.int k a) (.int k' b)with
  |some (v,p)=>some (.prim v,p)
  |none=>none
 | .prim (.string a),.prim (.string b)=>match Ip op (.string a) (.string b)with
  |some (v,p)=>some (.prim v,p)
  |none=>none
 |x,y=>match tt t with
  |some i=>match I2 i.ti x y with
   |some (b,p)=>match Gj op b with
    |some c=>some (.prim (.bool c),p)
    |none=>none
   |none=>none
  |none=>none
def Py (op:UnOp)(x:D):Option D:=
 match op,x with
 | .neg,.prim (.int k a)=>some (.prim (.int k (k.wrap (0-a))))
 | .xor,.prim (.int k a)=>some (.prim (.int k (JE .xor k (if k.signed then -1 else k.max) a)))
 | .not,.prim (.bool b)=>some (.prim (.bool !b))
 |_,_=>none
def PI (tt:Nat->Option AL)(dst:Nat)(x:D):Option D:=
 match tt dst with
 |some i=>match i.ti,x with
  | .int k,.prim (.int _ n)=>some (.prim (.int k (k.wrap n)))
  | .string,.prim (.string s)=>some (.prim (.string s))
  |_,_=>none
 |none=>none
theorem AG.cells_self {ρ:Lk}{O:Nat->Prop}{w:World}{d:D}{v:Value}(h:AG ρ O w d v)(ho:one v=true):d.cells=[d]:=by
 cases h<;>first|rfl|simp[Ide.one]at ho
def Di (ag:Bool)(d:D):List D:=match ag with
 |true=>d.cells
 |false=>[d]
def Cv (ag:Bool)(sz:Nat)(d:D):Prop:=∀ρ O w v,AG ρ O w d v->v.cells.size=sz/\(∀(i:Nat) (x:Value),v.cells[i]?=some x->one x=true) /\
 (Di ag d).length=sz/\(∀(j:Nat) (c:D),(Di ag d)[j]?=some c->AG ρ O w c (v.cells.getD j undef))/\Di ag d=d.cells
theorem Cv.agg {ds:List D}:Cv true ds.length (.agg ds):=λρ O w v h=>by
 cases h with|agg hn ho hh=>exact⟨hn,ho,rfl,hh,rfl⟩
theorem Cv.one {d:D}(h:∀ρ O w v,AG ρ O w d v->one v=true):Cv false 1 d:=λρ O w v hr=>by
 have ho:=h ρ O w v hr;rw[Vo ho];refine⟨rfl,λi x hx=>?_,rfl,λj c hc=>?_,(hr.cells_self ho).symm⟩
 ·cases i with
  |zero=>simp at hx;subst hx;exact ho
  |succ i=>simp at hx
 ·cases j with
  |zero=>simp[Di]at hc;subst hc;exact hr
  |succ j=>simp[Di]at hc
def D.one:D->Bool
 | .prim v=>Ide.one v
 | .any | .agg _ | .tup _ | .gd _ _=>false
 |_=>true
theorem NF {d:D}(h:d.one=true):Cv false 1 d:=Cv.one λρ O w v hr=>by
 cases hr<;>first|exact h|rfl|simp[D.one]at h
def FP (fs:List (Nat×Nat×Bool))(g:Operand->D):List (Nat×Operand)->List D->Option (List D×Prop)
 | [],cs=>some (cs,True)
 |(i,x)::r,cs=>match fs[i]? with
  |some (o,sz,ag)=>match FP fs g r (Do cs o (Di ag (g x)))with
   |some (cs',q)=>some (cs',(Cv ag sz (g x)/\o+sz<=cs.length)/\q)
   |none=>none
  |none=>none
def MN:TI->Option (List (Nat×Nat×Bool))
 | .struct fs=>some fs
 | .arr n esz eag=>some ((List.range n).map λi=>(i*esz,esz,eag))
 |_=>none
def Kv (tt:Nat->Option AL)(t:Nat)(g:Operand->D)(ps:List (Nat×Operand)):Option (D×Prop):=
 match tt t with
 |some i=>match MN i.ti with
  |some fs=>match FP fs g ps (i.zero.cells.toList.map .prim)with
   |some (cs,p)=>some (.agg cs,p)
   |none=>none
  |none=>none
 |none=>none
def JO (o sz:Nat)(ag:Bool):D->Option D
 | .optr k g esz i off=>some (.optr k g esz i (off+o))
 | .pptr d=>match DB ag sz o d.cells with
  |some c=>some (.pptr c)
  |none=>none
 |_=>none
def Hm (n:Nat):D->Option (Nat×Prop)
 | .prim (.int _ x)=>some (x.toNat,0<=x/\x<=n)
 |_=>none
def FN (n:Nat)(lo hi:Option D):Option (Nat×Nat×Prop):=
 match hi with
 |none=>match lo with
  |none=>some (0,n,True)
  |some l=>match Hm n l with
   |some (l,p)=>some (l,n,p)
   |none=>none
 |some h=>match Hm n h with
  |some (h,p)=>match lo with
   |none=>some (0,h,p)
   |some l=>match Hm h l with
    |some (l,q)=>some (l,h,p/\q)
    |none=>none
  |none=>none
def K0 (tt:Nat->Option AL)(t:Nat)(x:D)(lo hi:Option D):Option (D×Prop):=
 match tt t with
 |some i=>match i.ti,x with
  | .string,.prim (.string s)=>match FN s.size lo hi with
   |some (l,h,p)=>some (.prim (.string (s.extract l h)),p)
   |none=>none
  | .slice _ esz _ _,.sl nn sz es=>match FN es.length lo hi with
   |some (l,h,p)=>some (.sl nn sz ((es.drop l).take (h-l)),p/\esz=sz)
   |none=>none
  | .slice _ esz _ _,.osl k g sz j len=>match FN len lo hi with
   |some (l,h,p)=>some (.osl k g sz (j+l) (h-l),p/\esz=sz/\(l<h\/l=0))
   |none=>none
  |_,_=>none
 |none=>none
def HW (k:IntKind)(a:Int):List D->Option (D×Prop)
 | []=>some (.prim (.int k a),True)
 | .prim (.int _ b)::r=>HW k (min a b) r
 |_=>none
def HV (k:IntKind)(a:Int):List D->Option (D×Prop)
 | []=>some (.prim (.int k a),True)
 | .prim (.int _ b)::r=>HV k (max a b) r
 |_=>none
def Kj (tt:Nat->Option AL)(b:Builtin)(tys:List Nat)(args:List D):Option (D×Prop):=
 match b,args with
 | .len,[x]=>match tys with
  | [t]=>match tt t with
   |some i=>match i.ti,x with
    | .string,.prim (.string s)=>some (.prim (.int .i64 s.size),True)
    | .slice ..,.sl _ _ es=>some (.prim (.int .i64 es.length),True)
    | .slice ..,.osl _ _ _ _ len=>some (.prim (.int .i64 len),True)
    | .slice ..,.prim (.slice none n _)=>some (.prim (.int .i64 n),True)
    |_,_=>none
   |none=>none
  |_=>none
 | .min,.prim (.int k a)::r=>HW k a r
 | .max,.prim (.int k a)::r=>HV k a r
 |_,_=>none
def CG (tt:Nat->Option AL)(g:Operand->D):Op->Option (D×Prop)
 | .move x | .assign x=>some (g x,True)
 | .pick c a b=>match g c with
  | .prim (.bool t)=>some (.prim (.bool (bif t then(FR (g a)).1 else(FR (g b)).1)),(t=true->(FR (g a)).2=true)/\(t=false->(FR (g b)).2=true))
  |_=>none
 | .build t ps=>Kv tt t g ps.toList
 | .nilCheck x=>match g x with
  | .pptr d=>some (.pptr d,True)
  | .optr k gg sz i off=>some (.optr k gg sz i off,True)
  | .clo (.func f) a b=>some (.clo (.func f) a b,True)
  |_=>none
 | .binOp op t x y _=>Io tt op t (g x) (g y)
 | .unOp op _ x=>match Py op (g x)with
  |some d=>some (d,True)
  |none=>none
 | .convert src dst x=>match tt src with
  |some _=>match PI tt dst (g x)with
   |some d=>some (d,True)
   |none=>none
  |none=>none
 | .makeFunc (.func f) a b=>some (.clo (.func f) (a.toList.map g) (b.toList.map g),True)
 | .slice t x lo hi none=>K0 tt t (g x) (lo.map g) (hi.map g)
 | .fieldAddr t x f=>match tt t with
  |some i=>match i.ti with
   | .struct fs=>match fs[f]? with
    |some (o,sz,ag)=>match JO o sz ag (g x)with
     |some d=>some (d,True)
     |none=>none
    |none=>none
   |_=>none
  |none=>none
 | .field t x f=>match tt t with
  |some i=>match i.ti with
   | .struct fs=>match fs[f]? with
    |some (o,sz,ag)=>match g x with
     | .agg cs=>match DB ag sz o cs with
      |some d=>some (d,True)
      |none=>none
     |_=>none
    |none=>none
   |_=>none
  |none=>none
 | .indexAddr t x ix=>match tt t with
  |some i=>match i.ti,g ix with
   | .arr n esz ag,.prim (.int _ j)=>match JO (j.toNat*esz) esz ag (g x)with
    |some d=>some (d,0<=j/\j<n)
    |none=>none
   | .slice _ esz _ _,.prim (.int _ j)=>match g x with
    | .osl k gg sz i len=>some (.optr k gg sz (i+j.toNat) 0,0<=j/\j<len/\esz=sz)
    |_=>none
   |_,_=>none
  |none=>none
 | .index t x ix=>match tt t with
  |some i=>match i.ti,g x,g ix with
   | .string,.prim (.string s),.prim (.int _ j)=>some (.prim (.int .u8 (s.data.toList.getD j.toNat 0).toNat),0<=j/\j<s.size)
   |_,_,_=>none
  |none=>none
 | .extract x i=>match g x with
  | .tup ds=>match ds[i]? with
   |some d=>some (d,True)
   |none=>none
  |_=>none
 | .call ⟨.builtin b,args,tys⟩=>Kj tt b tys.toList (args.toList.map g)
 |_=>none
def A7 (P:Program)(tt:Nat->Option AL):Prop:=∀t i,tt t=some i->Cm P t=some i
section
variable {P:Program} {tt:Nat->Option AL} {ρ:Lk} {O:Nat->Prop} {w:World}
theorem run_pure {α:Type}(a:α)(w:World):(pure a:Sem α).run P w=.ok a w:=rfl
theorem run_bind {α β:Type}(x:Sem α)(f:α->Sem β)(w:World):(x >>= f).run P w=match x.run P w with | .ok a w'=>(f a).run P w' | .halt h w'=>.halt h w':=by
 show(Sem.bind x f).run P w=_
 induction x generalizing w with
 |pure a=>rfl
 |load m a k ih=>
  simp only[Sem.bind,Sem.run];cases w.cell? a with
  |some v=>exact ih v w
  |none=>dsimp only;cases w.farLoad P a (m==.atomic)with
   |ok r=>exact ih _ _
   |error e=>rfl
 |store m a v k ih=>
  cases v<;>simp only[Sem.bind,Sem.run]<;>first
   |rfl
   |(cases w.cell? a with
    |some u=>dsimp only;split<;>first|rfl|exact ih _
    |none=>dsimp only;cases w.farStore P a _ (m==.atomic)with
     |ok r=>exact ih _
     |error e=>rfl)
 |new o k ih=>exact ih _ _
 |shape r k ih=>exact ih _ _
 |freeze a n k ih=>exact ih _
 |frozen a k ih=>exact ih _ _
 |getObj r k ih=>
  simp only[Sem.bind,Sem.run];cases w.heap[r]? with
  |none=>rfl
  |some o=>cases o<;>first|rfl|exact ih _ _
 |setObj r o k ih=>
  simp only[Sem.bind,Sem.run];cases w.heap[r]? with
  |none=>rfl
  |some o=>cases o<;>first|rfl|exact ih _
 |choose q k ih=>simp only[Sem.bind,Sem.run];split<;>exact ih _ _
 |sys c k ih=>exact ih _ _
 |program k ih=>exact ih _ _
 |mark m k ih=>exact ih _
 |halt h=>rfl
theorem Li (w:World):(program).run P w=.ok P w:=rfl
theorem BS {t:Nat}{u:TypeDesc}(h:P.underlying t=some u)(w:World):(underlying t).run P w=.ok u w:=by
 unfold underlying;rw[run_bind,Li];simp only[h];rfl
theorem P3 {t:Nat}{i:TypeInfo}(h:P.info? t=some i)(w:World):(typeInfo t).run P w=.ok i w:=by
 unfold typeInfo;rw[run_bind,Li];simp only[h];rfl
theorem Ei {t:Nat}{i:TypeInfo}(h:P.info? t=some i)(w:World):(sizeOf t).run P w=.ok i.size w:=by
 unfold sizeOf;rw[run_bind,P3 h];rfl
theorem KJ {t:Nat}{i:TypeInfo}{z:Value}(h:P.info? t=some i)(hz:i.zero=some z)(w:World):(zeroValue t).run P w=.ok z w:=by
 unfold zeroValue;rw[run_bind,P3 h];simp only[hz];rfl
theorem OP {t:Nat}{u:TypeDesc}(h:P.underlying t=some u)(w:World):(isAgg t).run P w=.ok (Gd P t) w:=by
 unfold isAgg Gd;rw[run_bind,BS h];simp only[h];cases u<;>rfl
theorem QA (v:Value):AG ρ O w (Dz v) v:=by
 unfold Dz;split
 ·rename_i vs
  split
  ·rename_i h
   have key:∀l:List Value,Mh l=true->∀(i:Nat) (x:Value),l[i]?=some x->one x=true:=by
    intro l
    induction l with
    |nil=>simp
    |cons a l ih=>
     intro hl i x hx;simp only[Mh]at hl;cases ha:one a with
     |false=>simp[ha]at hl
     |true=>
      simp[ha]at hl;cases i with
      |zero=>simp at hx;subst hx;exact ha
      |succ i=>exact ih hl i x (by simpa using hx)
   refine .agg (by simp) (λi x hx=>key _ h i x (by simpa using hx)) λi d hd=>?_
   simp at hd;obtain⟨x,hx,rfl⟩:=hd;simp[hx];exact .prim x
  ·exact .any _
 ·exact .prim _
theorem BN {env:Ab}{a:Act}(h:∀t,AG ρ O w (env.get t) (a.tmps.getD t undef))(x:Operand):AG ρ O w (AV env x) (a.eval x):=by
 cases x with
 |tmp t=>exact h t
 |const v=>exact QA v
 |global g=>exact .prim _
 |func f=>exact .clo rfl rfl (by simp) (by simp)
def Eh (P:Program)(ρ:Lk)(O:Nat->Prop)(w:World)(s:Sem Value)(d:D):Prop:=∃v,s.run P w=.ok v w/\AG ρ O w d v
theorem Rp {d:D}{v:Value}(h:AG ρ O w d v)(hb:(FR d).2=true):v=.bool (FR d).1:=by
 unfold FR at*;split at hb
 ·cases h;rfl
 ·rename_i u x
  cases h with
  |gd h1 h2=>have:=h1 hb;cases this;rfl
 ·cases hb
theorem Rr {op:BinOp}{t:Nat}{x y v:Value}{p:Prop}(h:Ip op x y=some (v,p))(hp:p):(binOp op t x y).run P w=.ok v w:=by
 unfold Ip at h;split at h
 ·cases op<;>simp only[Af,Au]at h<;>obtain⟨rfl,rfl⟩:=h <;>
   first
    |(subst hp;simp[binOp,Op.intArith,Op.intCmp,Op.intBits,JE,pure];done)
    |(obtain⟨rfl,h0⟩:=hp;simp[binOp,Op.intDiv,h0,pure];done)
    |(simp only[binOp,Op.shift,T1,T2];rw[BU];rfl)
 ·have hm:IntKind.i64.max=9223372036854775807:=by decide
  cases op<;>simp only[Af,Au,reduceCtorEq]at h
  all_goals(obtain⟨rfl,rfl⟩:=h)
  all_goals(simp only[binOp,Op.stringOp])
  all_goals first
   |(rw[AN (by rw[hm];omega)];rfl)
   |rfl
 ·cases h
theorem F9 {t:Nat}{u:TypeDesc}(h:P.underlying t=some u){a b:Value}{c:Bool}(w:World)
  (hc:(match u,a,b with
   | .bool,.bool a,.bool b=>some (a==b)
   | .pointer _,.pointer none,.pointer none=>some true
   | .pointer _,.pointer (some _),.pointer none=>some false
   | .slice _,.slice none _ _,.slice none _ _=>some true
   | .slice _,.slice (some _) _ _,.slice none _ _=>some false
   | .func _ _ _,.nilFunc,.nilFunc=>some true
   | .func _ _ _,.func _ _ _,.nilFunc=>some false
   |_,_,_=>none:Option Bool)=some c):(Op.equal t a b).run P w=.ok c w:=by
 show(Op.equalIn (9999+1) t a b).run P w=_;rw[Op.equalIn,run_bind,BS h];split at hc<;>first|(cases hc;done)|(cases hc;rfl)
theorem YQ {t:Nat}{i:AL}{x y:D}{a b:Value}{c:Bool}{p:Prop}(ht:Cm P t=some i)(h:I2 i.ti x y=some (c,p))(hp:p)
  (hx:AG ρ O w x a) (hy:AG ρ O w y b):(Op.equal t a b).run P w=.ok c w:=by
 unfold I2 at h;split at h<;>try(cases h;done)
 all_goals(rename_i hti;simp only[Af,Au]at h;obtain⟨rfl,rfl⟩:=h;cases hy)
 ·cases hx;exact F9 (QW ht hti) w rfl
 ·cases hx<;>exact F9 (CM ht hti).1 w rfl
 ·cases hx<;>exact F9 (CM ht hti).1 w rfl
 ·cases hx with
  |nil=>exact AW rfl hp
  |sl=>exact F9 (CM ht hti).1 w rfl
  |emp=>exact F9 (CM ht hti).1 w rfl
 ·cases hx;obtain⟨e,he⟩:=OG ht hti;exact F9 he w rfl
 ·cases hx;obtain⟨e,he⟩:=OG ht hti;exact F9 he w rfl
 ·cases hx;obtain⟨e,he⟩:=OG ht hti;exact F9 he w rfl
 ·cases hx;obtain⟨e1,e2,e3,he⟩:=Rd ht hti;exact F9 he w rfl
 ·cases hx;obtain⟨e1,e2,e3,he⟩:=Rd ht hti;exact F9 he w rfl
theorem Ol {op:BinOp}{t:Nat}{a b:Value}{c e:Bool}(h:Gj op c=some e)(hq:(Op.equal t a b).run P w=.ok c w)
  (hne:(∀k n,a≠.int k n)/\(∀s,a≠.string s)/\(∀k n,a≠.float k n)/\(∀k m n,a≠.complex k m n)):(binOp op t a b).run P w=.ok (.bool e) w:=by
 obtain⟨h1,h2,h3,h4⟩:=hne;unfold Gj at h;cases op<;>simp only[Af,reduceCtorEq]at h
 ·subst h
  cases a<;>first|exact AW rfl (h1 _ _)|exact AW rfl (h2 _)|exact AW rfl (h3 _ _)|exact AW rfl (h4 _ _ _)|skip
  all_goals(simp only[binOp];rw[run_bind,hq];rfl)
 ·subst h
  cases a<;>first|exact AW rfl (h1 _ _)|exact AW rfl (h2 _)|exact AW rfl (h3 _ _)|exact AW rfl (h4 _ _ _)|skip
  all_goals(simp only[binOp];rw[run_bind,hq];rfl)
theorem XG {op:BinOp}{t:Nat}{X Y:Operand}{x y d:D}{a b:Value}{p:Prop}(htt:A7 P tt)(h:Io tt op t x y=some (d,p))(hp:p)
  (hx:AG ρ O w x a) (hy:AG ρ O w y b):Eh P ρ O w (do eqGuard op t X Y a b;binOp op t a b) d:=by
 have guard:a≠.nilIface->(∀v,a≠.agg v)->∀r,(binOp op t a b).run P w=.ok r w->(do eqGuard op t X Y a b;binOp op t a b).run P w=.ok r w:=by
  intro g1 g2 r hr
  have:(eqGuard op t X Y a b).run P w=.ok () w:=by
   unfold eqGuard;cases op<;>first
    |rfl
    |(cases a<;>first|exact AW rfl g1|exact AW rfl (g2 _)|rfl)
  rw[run_bind,this];exact hr
 unfold Io at h;split at h
 ·cases hx;cases hy
  split at h
  ·rename_i v q hv
   simp only[Af,Au]at h;obtain⟨rfl,rfl⟩:=h;exact⟨v,guard (by simp) (by simp) _ (Rr hv hp),.prim _⟩
  ·cases h
 ·cases hx;cases hy
  split at h
  ·rename_i v q hv
   simp only[Af,Au]at h;obtain⟨rfl,rfl⟩:=h;exact⟨v,guard (by simp) (by simp) _ (Rr hv hp),.prim _⟩
  ·cases h
 ·cases hi:tt t with
  |none=>simp[hi]at h
  |some i=>
   cases hc:I2 i.ti x y with
   |none=>simp[hi,hc]at h
   |some r=>
    obtain⟨c,q⟩:=r;cases he:Gj op c with
    |none=>simp[hi,hc,he]at h
    |some e=>
     simp only[hi,hc,he,Af,Au]at h;obtain⟨rfl,rfl⟩:=h;have hq:=YQ (htt _ _ hi) hc hp hx hy;have shape:((∀k n,a≠.int k n)/\(∀s,a≠.string s)/\(∀k n,a≠.float k n)/\(∀k m n,a≠.complex k m n))/\a≠.nilIface/\(∀v,a≠.agg v):=by
      unfold I2 at hc;split at hc<;>try(cases hc;done)
      all_goals(cases hx<;>simp)
     exact⟨_,guard shape.2.1 shape.2.2 _ (Ol he hq shape.1),.prim _⟩
theorem dm {op:UnOp}{x d:D}{a:Value}(h:Py op x=some d)(hx:AG ρ O w x a):Eh P ρ O w (Op.unary op a) d:=by
 unfold Py at h;split at h<;>try(cases h;done)
 all_goals(cases hx;simp only[Af]at h;subst h)
 ·exact⟨_,rfl,.prim _⟩
 ·exact⟨_,rfl,.prim _⟩
 ·exact⟨_,rfl,.prim _⟩
theorem WG {src dst:Nat}{su:TypeDesc}{x d:D}{a:Value}(htt:A7 P tt)(h:PI tt dst x=some d)(hx:AG ρ O w x a)
  (hs:P.underlying src=some su):Eh P ρ O w (convert src dst a) d:=by
 unfold PI at h;cases hi:tt dst with
 |none=>simp[hi]at h
 |some i=>
  simp only[hi]at h;split at h<;>try(cases h;done)
  ·rename_i k k' n hk
   cases hx;simp only[Af]at h;subst h;refine⟨.int k (k.wrap n),?_,.prim _⟩;unfold convert;rw[run_bind,BS hs];dsimp only;rw[run_bind,BS (OF (htt _ _ hi) hk)];dsimp only;cases su<;>rfl
  ·rename_i s hk
   cases hx;simp only[Af]at h;subst h;refine⟨.string s,?_,.prim _⟩;unfold convert;rw[run_bind,BS hs];dsimp only;rw[run_bind,BS (IF (htt _ _ hi) hk)];dsimp only;cases su<;>rfl
theorem Lz {ag:Bool}{sz off:Nat}{cs:List D}{d:D}(h:DB ag sz off cs=some d):
  (ag=true/\d=.agg ((cs.drop off).take sz))\/(ag=false/\cs[off]?=some d):=by
 unfold DB at h;cases ag with
 |true=>simp only[Af]at h;exact .inl ⟨rfl,by rw[<-h,Rc,L7]⟩
 |false=>
  refine .inr ⟨rfl,?_⟩;dsimp only at h;rw[L7]at h;split at h
  ·rename_i x l hd
   cases h
   have:=congrArg (·[0]?) hd
   simpa using this
  ·cases h
theorem Xq {t o:Nat}{inf:TypeInfo}{u:TypeDesc}{ag:Bool}{ds:List D}{vs:Array Value}{d:D}(hi:P.info? t=some inf)(hu:P.underlying t=some u)
  (hag:Gd P t=ag) (h:DB ag inf.size o ds=some d) (hx:AG ρ O w (.agg ds) (.agg vs)):Eh P ρ O w (part t vs o) d:=by
 cases hx with
 |agg hn ho hh=>
  unfold Eh part;rcases Lz h with⟨rfl,rfl⟩|⟨rfl,h1⟩
  ·refine⟨.agg (vs.extract o (o+inf.size)),?_,?_⟩
   ·rw[run_bind,OP hu,hag];dsimp only;rw[AM rfl,run_bind,Ei hi];rfl
   ·refine .agg (by simp;omega) (λi x hx=>?_) λi c hc=>?_
    ·rw[Array.getElem?_extract]at hx
     split at hx
     ·exact ho _ _ hx
     ·cases hx
    ·have hc':=hc
     rw[Cx]at hc;split at hc
     ·rename_i hlt
      rw[Es]at hc
      have:=hh _ _ hc
      have hlen:o+i<vs.size:=by
       rw[hn];rcases Aq (o+i) ds.length with h'|h'
       ·exact h'
       ·rw[Du h']at hc;cases hc
      have e:(vs.extract o (o+inf.size)).getD i undef=vs.getD (o+i) undef:=by
       simp only[AT,Array.getElem?_extract];rw[DK]
      rw[e];exact this
     ·cases hc
  ·have:=hh _ _ h1
   have hlen:o<vs.size:=by
    rw[hn];rcases Aq o ds.length with h'|h'
    ·exact h'
    ·rw[Du h']at h1;cases h1
   refine⟨vs.getD o undef,?_,this⟩;rw[run_bind,OP hu,hag];dsimp only;simp[hlen,pure]
end
section
variable {P:Program} {tt:Nat->Option AL} {ρ:Lk} {O:Nat->Prop} {w:World}
theorem KM (A:Addr)(w:World):(Instr.sureAddr (.pointer (some A))).run P w=.ok A w:=rfl
theorem V0 (vs:Array Value)(w:World):(asAgg (.agg vs)).run P w=.ok vs w:=rfl
theorem KQ (k:IntKind)(n:Int)(w:World):(asIntOf (.int k n)).run P w=.ok (k,n) w:=rfl
theorem E0 (b o n:Nat):(⟨b,o,none⟩:Addr).add n=⟨b,o+n,none⟩:=by
 unfold Addr.add;split
 ·subst n;rfl
 ·rfl
theorem QP {o sz:Nat}{ag:Bool}{x d:D}{a:Value}(h:JO o sz ag x=some d)(hx:AG ρ O w x a):
  ∃A:Addr,a=.pointer (some A)/\AG ρ O w d (.pointer (some (A.add o))):=by
 unfold JO at h;split at h
 ·simp only[Af]at h;subst h
  cases hx with
  |optr hr=>
   refine⟨_,rfl,?_⟩;rw[E0,Fw];exact .optr hr
 ·rename_i e
  split at h
  ·rename_i c hc
   simp only[Af]at h;subst h;cases hx with
   |pptr f hO hb hcell ho hh=>
    refine⟨_,rfl,?_⟩;rw[E0];have hself:∀j c',c.cells[j]?=some c'->e.cells[o+j]?=some c':=by
     rcases Lz hc with⟨rfl,rfl⟩|⟨rfl,h2⟩
     ·intro j c' hj
      simp only[D.cells]at hj;rw[Cx]at hj;split at hj
      ·rwa [Es]at hj
      ·cases hj
     ·intro j c' hj
      have hlt:o<e.cells.length:=by
       rcases Aq o e.cells.length with h'|h'
       ·exact h'
       ·rw[Du h']at h2;cases h2
      rw[(hh o c h2).cells_self (ho o hlt)]at hj;cases j with
      |zero=>simp at hj;subst hj;exact h2
      |succ j=>simp at hj
    have hlen:∀n,n<c.cells.length->o+n<e.cells.length:=λn hn=>by
     have:=hself n _ (BI hn)
     rcases Aq (o+n) e.cells.length with h'|h'
     ·exact h'
     ·rw[Du h']at this;cases this
    exact .pptr (λn=>f (o+n)) hO hb (λn hn=>by rw[Fw];exact hcell _ (hlen n hn)) (λn hn=>ho _ (hlen n hn)) λj d hd=>hh _ _ (hself j d hd)
  ·cases h
 ·cases h
theorem VD {t f:Nat}{i:AL}{fs:List (Nat×Nat×Bool)}{o sz:Nat}{ag:Bool}{x d:D}{a:Value}(ht:Cm P t=some i)(hk:i.ti=.struct fs)(hf:fs[f]?=some (o,sz,ag))
  (h:JO o sz ag x=some d) (hx:AG ρ O w x a):Eh P ρ O w (Instr.fieldAt t a f) d:=by
 obtain⟨fa,h1,h2,h3⟩:=Nt ht hk;obtain⟨g,g1,g2,g3,g4,⟨inf,g5,g6⟩,u,hu⟩:=h3 f _ hf;obtain⟨A,rfl,hr⟩:=QP h hx;refine⟨_,?_,hr⟩;unfold Instr.fieldAt;rw[run_bind,BS h1];dsimp only;simp only[g1];rw[run_bind,KM];dsimp only;rw[run_bind]
 have:(fieldPlace A g).run P w=.ok (A.add o) w:=by
  unfold fieldPlace;rw[run_bind,Ei g5];dsimp only;rw[AN (by rw[g6];exact g4),g2];rfl
 rw[this];rfl
theorem Wx {t f:Nat}{i:AL}{fs:List (Nat×Nat×Bool)}{o sz:Nat}{ag:Bool}{cs:List D}{d:D}{a:Value}(ht:Cm P t=some i)(hk:i.ti=.struct fs)(hf:fs[f]?=some (o,sz,ag))
  (h:DB ag sz o cs=some d) (hx:AG ρ O w (.agg cs) a):Eh P ρ O w (Instr.field t a f) d:=by
 obtain⟨fa,h1,h2,h3⟩:=Nt ht hk;obtain⟨g,g1,g2,g3,g4,⟨inf,g5,g6⟩,u,hu⟩:=h3 f _ hf;cases hx with
 |agg hn ho hh=>
  obtain⟨v,e1,e2⟩:=Xq (d:=d) g5 hu g3 (by rw[g6];exact h) (.agg hn ho hh);refine⟨v,?_,e2⟩;unfold Instr.field;rw[run_bind,BS h1];dsimp only;simp only[g1];rw[run_bind,V0];dsimp only;rw[show g.offset=o from g2];exact e1
theorem Us {t n esz:Nat}{i:AL}{ag:Bool}{k:IntKind}{j:Int}{x d:D}{a:Value}(ht:Cm P t=some i)(hk:i.ti=.arr n esz ag)
  (h:JO (j.toNat*esz) esz ag x=some d) (h0:0<=j) (h1:j<n) (hx:AG ρ O w x a):Eh P ρ O w (Instr.indexAt t a (.int k j)) d:=by
 obtain⟨e,e1,e2,inf,e3,e4⟩:=OE ht hk;obtain⟨A,rfl,hr⟩:=QP h hx;refine⟨_,?_,hr⟩;unfold Instr.indexAt;rw[run_bind,KQ];dsimp only;rw[run_bind,BS e1];dsimp only;rw[run_bind,KM];dsimp only;rw[run_bind,run_pure];dsimp only;rw[run_bind,BS e1];dsimp only;rw[AM ⟨h0,h1⟩,run_bind,Ei e3,e4];rfl
theorem Ut {t e esz eby:Nat}{ez:Value}{i:AL}{k':IntKind}{j:Int}{k g p len:Nat}{a:Value}(ht:Cm P t=some i)(hk:i.ti=.slice e esz eby ez)
  (h0:0<=j) (h1:j<len) (hx:AG ρ O w (.osl k g esz p len) a):Eh P ρ O w (Instr.indexAt t a (.int k' j)) (.optr k g esz (p+j.toNat) 0):=by
 obtain⟨e1,⟨inf,e3,e4,_⟩,_⟩:=CM ht hk;cases hx with
 |onil=>omega
 |osl hr hb hc hs hm=>
  refine⟨_,?_,.optr hr⟩;unfold Instr.indexAt;rw[run_bind,KQ];dsimp only;rw[run_bind,BS e1];dsimp only;rw[run_bind,run_pure];dsimp only;rw[run_bind,BS e1];dsimp only;rw[AM ⟨h0,h1⟩,run_bind,Ei e3,e4];dsimp only;rw[E0,Ba];rfl
theorem QO {t e esz eby:Nat}{ez:Value}{i:AL}{k':IntKind}{j:Int}{nn:Bool}{es:List D}{d:D}{a:Value}(ht:Cm P t=some i)(hk:i.ti=.slice e esz eby ez)
  (h0:0<=j) (h1:es[j.toNat]?=some d) (hx:AG ρ O w (.sl nn esz es) a):Eh P ρ O w (Instr.indexAt t a (.int k' j)) (.pptr d):=by
 obtain⟨e1,⟨inf,e3,e4,_⟩,_⟩:=CM ht hk;cases hx with
 |nil=>simp at h1
 |emp=>simp at h1
 |sl f hl hc hO hb hz hcell ho hh=>
  have hlt:j.toNat<es.length:=by
   rcases Aq j.toNat es.length with h'|h'
   ·exact h'
   ·rw[Du h']at h1;cases h1
  rename_i b off len cap;have hd:=hz _ _ h1;have hin:∀n,n<d.cells.length->j.toNat*esz+n<len*esz:=λn hn=>by
   have:(j.toNat+1)*esz<=len*esz:=Br _ (by omega)
   rw[Ba]at this;omega
  refine⟨.pointer (some ⟨b,off+j.toNat*esz,none⟩),?_,.pptr (λn=>f (j.toNat*esz+n)) hO hb (λn hn=>?_) (λn hn=>ho _ (hin n hn)) λn c hn=>hh _ _ _ _ h1 hn⟩
  ·unfold Instr.indexAt
   rw[run_bind,KQ];dsimp only;rw[run_bind,BS e1];dsimp only;rw[run_bind,run_pure];dsimp only;rw[run_bind,BS e1];dsimp only;rw[AM ⟨h0,by omega⟩,run_bind,Ei e3,e4];dsimp only;rw[E0];rfl
  ·rw[Fw];exact hcell _ (hin n hn)
theorem L5 {n m:Nat}{x:D}{a:Value}{l:Nat}{p:Prop}(code:BoundsCode)(h:Hm n x=some (l,p))(hp:p)(hnm:n<=m)(hx:AG ρ O w x a):
  (Instr.sliceBound a m code).run P w=.ok l w/\l<=n:=by
 unfold Hm at h;split at h
 ·rename_i k q
  simp only[Af,Au]at h;obtain⟨rfl,rfl⟩:=h;cases hx;refine⟨?_,by omega⟩;unfold Instr.sliceBound;rw[run_bind,KQ];dsimp only;rw[AM ⟨hp.1,by omega⟩];rfl
 ·cases h
theorem HR {n m:Nat}{lo hi:Option Operand}{g:Operand->D}{ev:Operand->Value}{l h:Nat}{p:Prop}(hg:∀x,AG ρ O w (g x) (ev x))(hb:FN n (lo.map g) (hi.map g)=some (l,h,p))
  (hp:p) (isS:Bool) (hnm:n<=m):(Instr.sliceBounds isS n m (lo.map ev) (hi.map ev) none).run P w=.ok (l,h,m) w/\l<=h/\h<=n:=by
 unfold Instr.sliceBounds;cases hi with
 |none=>
  cases lo with
  |none=>
   simp only[Option.map,FN,Af,Au]at hb;obtain⟨rfl,rfl,rfl⟩:=hb;exact⟨rfl,by omega,by omega⟩
  |some lo=>
   simp only[Option.map,FN]at hb;split at hb
   ·rename_i l' q hl
    simp only[Af,Au]at hb;obtain⟨rfl,rfl,rfl⟩:=hb;obtain⟨h1,h2⟩:=L5 (P:=P) .sliceB hl hp (Ad _) (hg lo);refine⟨?_,by omega,by omega⟩;simp only[Option.map];rw[run_bind,run_pure];dsimp only;rw[run_bind,run_pure];dsimp only;rw[run_bind,AN (by simp),h1];rfl
   ·cases hb
 |some hi=>
  cases lo with
  |none=>
   simp only[Option.map,FN]at hb;split at hb
   ·rename_i h' q hh
    simp only[Af,Au]at hb;obtain⟨rfl,rfl,rfl⟩:=hb;obtain⟨h1,h2⟩:=L5 (P:=P) (m:=m) (if isS then .sliceAcap else .sliceAlen) hh hp hnm (hg hi);refine⟨?_,by omega,by omega⟩;simp only[Option.map];rw[run_bind,run_pure];dsimp only;rw[run_bind,h1];rfl
   ·cases hb
  |some lo=>
   simp only[Option.map,FN]at hb;split at hb
   ·rename_i h' q hh
    split at hb
    ·rename_i l' q' hl
     simp only[Af,Au]at hb;obtain⟨rfl,rfl,rfl⟩:=hb;obtain⟨h1,h2⟩:=L5 (P:=P) (m:=m) (if isS then .sliceAcap else .sliceAlen) hh hp.1 hnm (hg hi);obtain⟨h3,h4⟩:=L5 (P:=P) .sliceB hl hp.2 (Ad _) (hg lo);refine⟨?_,by omega,by omega⟩;simp only[Option.map];rw[run_bind,run_pure];dsimp only;rw[run_bind,h1];dsimp only;rw[run_bind,AN (by simp),h3];rfl
    ·cases hb
   ·cases hb
theorem HN {t:Nat}{u:TypeDesc}(hu:P.underlying t=some u)(hn:∀n e,u≠.array n e)(x:Value)(lo hi:Option Value):
  (Instr.sliceAt t x lo hi none).run P w=(Instr.slice t x lo hi none).run P w:=by
 unfold Instr.sliceAt;rw[run_bind,BS hu];dsimp only;cases u<;>first|rfl|exact AW rfl (hn _ _)
theorem Wa {t:Nat}{x d:D}{a:Value}{lo hi:Option Operand}{g:Operand->D}{ev:Operand->Value}{p:Prop}(htt:A7 P tt)(hg:∀x,AG ρ O w (g x) (ev x))
  (h:K0 tt t x (lo.map g) (hi.map g)=some (d,p)) (hp:p) (hx:AG ρ O w x a):Eh P ρ O w (Instr.sliceAt t a (lo.map ev) (hi.map ev) none) d:=by
 unfold K0 at h;cases hi':tt t with
 |none=>simp[hi']at h
 |some i=>
  simp only[hi']at h;split at h<;>try(cases h;done)
  ·rename_i s hk
   split at h<;>try(cases h;done)
   rename_i l hh q hb;simp only[Af,Au]at h;obtain⟨rfl,rfl⟩:=h;cases hx;have hu:=IF (htt _ _ hi') hk;obtain⟨h1,h2,h3⟩:=HR (P:=P) hg hb hp false (Ad _);refine⟨_,?_,.prim _⟩;rw[HN hu (by simp)];unfold Instr.slice;rw[run_bind,BS hu];dsimp only;rw[AN (by simp),run_bind,h1];rfl
  ·rename_i e esz eby ez nn sz es hk
   split at h<;>try(cases h;done)
   rename_i l hh q hb;simp only[Af,Au]at h;obtain⟨rfl,rfl⟩:=h;obtain⟨hp,rfl⟩:=hp;obtain⟨hu,⟨inf,e3,e4,_⟩,_⟩:=CM (htt _ _ hi') hk;cases hx with
   |nil=>
    obtain⟨h1,h2,h3⟩:=HR (P:=P) hg hb hp true (Ad _);have hz:l=0/\hh=0:=by simp at h3;omega
    obtain⟨rfl,rfl⟩:=hz;simp only[Gl]at h1;refine⟨.slice none 0 0,?_,by simpa using .nil _⟩;rw[HN hu (by simp)];unfold Instr.slice;rw[run_bind,BS hu];dsimp only;rw[run_bind,h1];dsimp only;rw[run_bind,Ei e3];rfl
   |emp a=>
    obtain⟨h1,h2,h3⟩:=HR (P:=P) hg hb hp true (Ad _);have hz:l=0/\hh=0:=by simp at h3;omega
    obtain⟨rfl,rfl⟩:=hz;simp only[Gl]at h1;refine⟨.slice (some a) 0 0,?_,by simpa using .emp a⟩;rw[HN hu (by simp)];unfold Instr.slice;rw[run_bind,BS hu];dsimp only;rw[run_bind,h1];dsimp only;rw[run_bind,Ei e3,e4];dsimp only;rw[run_pure];simp
   |sl f hl hc hO hbk hz hcell ho hr=>
    rename_i b off len cap;subst hl;obtain⟨h1,h2,h3⟩:=HR (P:=P) hg hb hp true hc;have hlen:((es.drop l).take (hh-l)).length=hh-l:=by simp;omega
    have hget:∀(i:Nat) (e:D),((es.drop l).take (hh-l))[i]?=some e->i<hh-l/\es[l+i]?=some e:=λi e hi=>by
     rw[Cx]at hi;split at hi
     ·rw[Es]at hi;exact⟨by assumption,hi⟩
     ·cases hi
    have hin:∀n,n<(hh-l)*esz->l*esz+n<es.length*esz:=λn hn=>by
     have:(l+(hh-l))*esz<=es.length*esz:=Br _ (by omega)
     rw[Ba]at this;omega
    have run:(Instr.sliceAt t (.slice (some ⟨b,off,none⟩) es.length cap) (lo.map ev) (hi.map ev) none).run P w =
      .ok (.slice (some (if cap=l then⟨b,off,none⟩else⟨b,off+l*esz,none⟩)) (hh-l) (cap-l)) w:=by
     rw[HN hu (by simp)];unfold Instr.slice;rw[run_bind,BS hu];dsimp only;rw[run_bind,h1];dsimp only;rw[run_bind,Ei e3,e4];dsimp only;rw[run_pure]
     by_cases hcl:cap=l
     ·simp[hcl]
     ·simp[hcl,E0]
    refine⟨_,run,?_⟩
    by_cases hcl:cap=l
    ·rw[AM hcl]
     have h0:hh-l=0:=by omega
     exact .sl (λ_=>undef) hlen (by omega) hO hbk (λi e hi=>by have:=(hget i e hi).1;omega) (λn hn=>by rw[h0]at hn;simp at hn) (λn hn=>by rw[h0]at hn;simp at hn)
      λi e j d hi=>by have:=(hget i e hi).1;omega
    ·rw[AN hcl]
     exact .sl (λn=>f (l*esz+n)) hlen (by omega) hO hbk (λi e hi=>hz _ _ (hget i e hi).2) (λn hn=>by rw[Fw];exact hcell _ (hin n hn)) (λn hn=>ho _ (hin n hn))
      λi e j d hi hj=>by have:=hr _ _ j d (hget i e hi).2 hj;rwa [Ba,Fw]at this
  ·rename_i e esz eby ez k gg sz j len hk
   split at h<;>try(cases h;done)
   rename_i l hh q hb;simp only[Af,Au]at h;obtain⟨rfl,rfl⟩:=h;obtain⟨hp,rfl,hlh⟩:=hp;obtain⟨hu,⟨inf,e3,e4,_⟩,_⟩:=CM (htt _ _ hi') hk;cases hx with
   |onil=>
    obtain⟨h1,h2,h3⟩:=HR (P:=P) hg hb hp true (Ad _);have hz:l=0/\hh=0:=by omega
    obtain⟨rfl,rfl⟩:=hz;refine⟨.slice none 0 0,?_,.onil _ _ _⟩;rw[HN hu (by simp)];unfold Instr.slice;rw[run_bind,BS hu];dsimp only;rw[run_bind,h1];dsimp only;rw[run_bind,Ei e3];rfl
   |osl hr hbk hc hs hm=>
    rename_i cap b T cs fz;obtain⟨h1,h2,h3⟩:=HR (P:=P) hg hb hp true hc;refine⟨.slice (some ⟨b,(j+l)*esz,none⟩) (hh-l) (cap-l),?_,.osl hr hbk (by omega) ?_ (by omega)⟩
    ·rw[HN hu (by simp)]
     unfold Instr.slice;rw[run_bind,BS hu];dsimp only;rw[run_bind,h1];dsimp only;rw[run_bind,Ei e3,e4];dsimp only;rw[run_pure];rcases hlh with hlh|rfl
     ·rw[BU,Ba]
      simp[E0]
     ·simp[E0]
    ·rw[<-hs];congr 1;omega
theorem OR (off:Nat):∀(vs:List Value) (k:Nat) (cells:Array Value) (j:Nat),
  ((vs.zipIdx k).foldl (λcs (x:Value×Nat)=>cs.setIfInBounds (off+x.2) x.1) cells)[j]?=(if off+k<=j/\j<off+k+vs.length/\j<cells.size then vs[j-off-k]? else cells[j]?)
 | [],k,cells,j=>by simp;omega
 |v::vs,k,cells,j=>by
  simp only[List.zipIdx_cons,List.foldl_cons];rw[OR off vs (k+1)];simp only[Array.size_setIfInBounds,CD,DE]
  by_cases h1:off+(k+1)<=j/\j<off+(k+1)+vs.length/\j<cells.size
  ·rw[AM h1,DK,show j-off-k=(j-off-(k+1))+1 from by omega,LW]
  ·rw[AN h1]
   by_cases h2:off+k=j
   ·rw[AM h2]
    subst h2
    by_cases h3:off+k<cells.size
    ·rw[AM h3,DK,show off+k-off-k=0 from by omega];rfl
    ·rw[AN h3,BU]
     rw[Ix (by omega)]
   ·rw[AN h2,BU]
theorem Lp (off:Nat):∀(vs:List (Value×Nat)) (cells:Array Value),(vs.foldl (λcs (x:Value×Nat)=>cs.setIfInBounds (off+x.2) x.1) cells).size=cells.size
 | [],_=>rfl
 |v::vs,cells=>by simp only[List.foldl_cons];rw[Lp off vs];simp
structure HB (ρ:Lk)(O:Nat->Prop)(w:World)(cs:List D)(vs:Array Value):Prop where
 len:vs.size=cs.length
 one:∀(i:Nat) (v:Value),vs[i]?=some v->one v=true
 rep:∀(i:Nat) (d:D),cs[i]?=some d->AG ρ O w d (vs.getD i undef)
theorem HB.set {cs:List D}{vs:Array Value}(h:HB ρ O w cs vs){ag:Bool}{sz off:Nat}{d:D}{v:Value}(hf:Cv ag sz d)(hx:AG ρ O w d v)(hl:off+sz<=cs.length):
  HB ρ O w (Do cs off (Di ag d)) (v.cells.toList.zipIdx.foldl (λcs (x:Value×Nat)=>cs.setIfInBounds (off+x.2) x.1) vs):=by
 obtain⟨h1,h2,h3,h4,_⟩:=hf ρ O w v hx;have get:∀j,(v.cells.toList.zipIdx.foldl (λcs (x:Value×Nat)=>cs.setIfInBounds (off+x.2) x.1) vs)[j]?=if off<=j/\j<off+sz then v.cells[j-off]? else vs[j]?:=λj=>by
  rw[OR]
  have:=h.len
  by_cases hj:off<=j/\j<off+sz
  ·rw[AM hj,AM (by simp[h1];omega)];simp
  ·rw[AN hj,AN (by simp[h1];omega)]
 refine⟨by rw[Lp,QK];exact h.len,λi x hx'=>?_,λi c hc=>?_⟩
 ·rw[get]at hx'
  split at hx'
  ·exact h2 _ _ hx'
  ·exact h.one _ _ hx'
 ·rw[AT,get]
  rw[RX,h3]at hc;split at hc
  ·rename_i hj
   rw[DK]
   have:=h4 _ _ hc
   rwa [AT]at this
  ·rename_i hj
   by_cases hj':off<=i/\i<off+sz
   ·exact AW ⟨by omega,hj'.1,hj'.2⟩ hj
   ·rw[AN hj']
    have:=h.rep _ _ hc
    rwa [AT]at this
theorem Od {fs:List (Nat×Nat×Bool)}{g:Operand->D}{ev:Operand->Value}(hg:∀x,AG ρ O w (g x) (ev x)){place:Nat->Option (Nat×Nat)}
  (hpl:∀i x,fs[i]?=some x->place i=some (x.1,x.2.1)):∀(ps:List (Nat×Operand)) (cs cs':List D) (p:Prop) (vs:Array Value),FP fs g ps cs=some (cs',p)->p->HB ρ O w cs vs ->
   ∃vs',Instr.fill place vs (ps.map λx=>(x.1,ev x.2))=some vs'/\HB ρ O w cs' vs'
 | [],cs,cs',p,vs,h,hp,hs=>by
  simp only[FP,Af,Au]at h;obtain⟨rfl,rfl⟩:=h;exact⟨vs,rfl,hs⟩
 |(i,x)::r,cs,cs',p,vs,h,hp,hs=>by
  simp only[FP]at h;cases hfi:fs[i]? with
  |none=>simp[hfi]at h
  |some q=>
   obtain⟨o,sz,ag⟩:=q;simp only[hfi]at h;cases hr:FP fs g r (Do cs o (Di ag (g x)))with
   |none=>simp[hr]at h
   |some q=>
    obtain⟨c2,q2⟩:=q;simp only[hr,Af,Au]at h;obtain⟨rfl,rfl⟩:=h;obtain⟨⟨hfit,hlen⟩,hq⟩:=hp;obtain⟨h1,_⟩:=hfit ρ O w _ (hg x);obtain⟨vs',e1,e2⟩:=Od hg hpl r _ _ _ _ hr hq (hs.set hfit (hg x) hlen);refine⟨vs',?_,e2⟩;simp only[BY,Instr.fill,hpl i _ hfi];have hl:=hs.len;rw[AN (by simp[h1];omega)];rw[<-Array.foldl_toList,Array.toList_zipIdx];exact e1
theorem HB.zero {z:Value}(h2:∀(j:Nat) (x:Value),z.cells[j]?=some x->Ide.one x=true):HB ρ O w (z.cells.toList.map .prim) z.cells:=
 ⟨by simp,h2,λi d hd=>by
  simp at hd;obtain⟨x,hx,rfl⟩:=hd;simp[hx];exact .prim x⟩
theorem QI {P:Program}:∀(fs:List Field) (l:List (Nat×Nat×Bool)),Fr P fs=some l ->
  fs.mapM (λf=>(P.info? f.type).map λi=>(f.offset,i.size))=some (l.map λx=>(x.1,x.2.1))
 | [],l,h=>by simp[Fr]at h;subst h;rfl
 |f::fs,l,h=>by
  simp only[Fr]at h;cases hx:Kn P f with
  |none=>simp[hx]at h
  |some x=>
   cases hl:Fr P fs with
   |none=>simp[hx,hl]at h
   |some l2=>
    simp[hx,hl]at h;subst h
    have:=QI fs l2 hl
    unfold Kn at hx;cases hi:P.info? f.type with
    |none=>simp[hi]at hx
    |some i=>
     simp only[hi]at hx;split at hx<;>try(cases hx;done)
     split at hx
     ·cases hx
     ·cases hx
      simp[List.mapM_cons,hi,this]
theorem Vn {t:Nat}{g:Operand->D}{ev:Operand->Value}{ps:Array (Nat×Operand)}{d:D}{p:Prop}(htt:A7 P tt)(hg:∀x,AG ρ O w (g x) (ev x))
  (h:Kv tt t g ps.toList=some (d,p)) (hp:p):Eh P ρ O w (Instr.build t (ps.map λ(i,x)=>(i,ev x))) d:=by
 unfold Kv at h;cases hi:tt t with
 |none=>simp[hi]at h
 |some i=>
  simp only[hi]at h;split at h<;>try(cases h;done)
  rename_i fs hk;split at h<;>try(cases h;done)
  rename_i cs q hf;simp only[Af,Au]at h;obtain⟨rfl,rfl⟩:=h;have ht:=htt _ _ hi;obtain⟨inf,u,h1,h2,h3,h4,h5,h6,h7⟩:=Ez ht;obtain⟨h8,h9⟩:=KX h6;unfold MN at hk;split at hk<;>try(cases hk;done)
  rotate_left
  ·rename_i n esz eag hti
   cases hk;obtain⟨e,g1,g2,inf2,g3,g4⟩:=OE ht hti;obtain⟨vs',e1,e2⟩:=Od hg (place:=λi=>some (i*inf2.size,inf2.size)) (λi x hx=>by
    rw[Bf]at hx;cases hr:(List.range n)[i]? with
    |none=>rw[hr]at hx;cases hx
    |some j=>
     rw[hr]at hx;have hj:j=i:=by
      obtain⟨q1,q2⟩:=Ay.1 hr;simp at q2;exact q2.symm
     subst hj;cases hx;rw[g4]) ps.toList _ _ _ _ hf hp (HB.zero h9)
   refine⟨.agg vs',?_,.agg e2.len e2.one e2.rep⟩;apply run_build;unfold Program.built;simp only[h1,g1,h3,g3];rw[<-e1];simp
  rename_i fs' hk';cases hk;have hk:=hk';rw[hk]at h7;have hu:∃fa,u=.struct fa/\Fr P fa.toList=some fs:=by
   cases u<;>simp only[Ea]at h7<;>(repeat' split at h7)<;>simp_all
  obtain⟨fa,rfl,hm⟩:=hu;have hpl:=QI _ _ hm;obtain⟨vs',e1,e2⟩:=Od hg (place:=((fs.map λx=>(x.1,x.2.1)).toArray[·]?)) (λi x hx=>by simp[hx]) ps.toList _ _ _ _ hf hp (HB.zero h9);refine⟨.agg vs',?_,.agg e2.len e2.one e2.rep⟩;apply run_build;unfold Program.built;simp only[h1,h2,h3,hpl];rw[<-e1];simp
theorem QN:∀(l:List D) (vs:List Value) (k:IntKind) (a:Int) (d:D) (p:Prop),HW k a l=some (d,p)->vs.length=l.length->(∀(i:Nat) (c:D),l[i]?=some c->AG ρ O w c (vs.getD i undef)) ->
  Eh P ρ O w (vs.foldlM Builtin.min2 (.int k a)) d
 | [],[],k,a,d,p,h,_,_=>by
  simp only[HW,Af,Au]at h;obtain⟨rfl,rfl⟩:=h;exact⟨_,rfl,.prim _⟩
 |c::l,v::vs,k,a,d,p,h,hl,hr=>by
  unfold HW at h;split at h<;>try(cases h;done)
  ·rename_i heq;cases heq
  ·rename_i kk b r heq
   cases heq
   have:=hr 0 _ rfl
   simp at this;cases this;obtain⟨u,h1,h2⟩:=QN l vs k (min a b) d p h (by simpa using hl) (λi c hc=>by have:=hr (i+1) c (by simpa using hc);simpa using this);refine⟨u,?_,h2⟩;rw[List.foldlM_cons,run_bind];have e:(Builtin.min2 (.int k a) (.int kk b)).run P w=.ok (.int k (min a b)) w:=by
    simp only[Builtin.min2];rw[run_pure];congr 2
    by_cases hab:b<a
    ·rw[AM hab];omega
    ·rw[AN hab];omega
   rw[e];exact h1
 | [],_::_,_,_,_,_,_,hl,_=>by simp at hl
 |_::_,[],_,_,_,_,_,hl,_=>by simp at hl
theorem QM:∀(l:List D) (vs:List Value) (k:IntKind) (a:Int) (d:D) (p:Prop),HV k a l=some (d,p)->vs.length=l.length->(∀(i:Nat) (c:D),l[i]?=some c->AG ρ O w c (vs.getD i undef)) ->
  Eh P ρ O w (vs.foldlM Builtin.max2 (.int k a)) d
 | [],[],k,a,d,p,h,_,_=>by
  simp only[HV,Af,Au]at h;obtain⟨rfl,rfl⟩:=h;exact⟨_,rfl,.prim _⟩
 |c::l,v::vs,k,a,d,p,h,hl,hr=>by
  unfold HV at h;split at h<;>try(cases h;done)
  ·rename_i heq;cases heq
  ·rename_i kk b r heq
   cases heq
   have:=hr 0 _ rfl
   simp at this;cases this;obtain⟨u,h1,h2⟩:=QM l vs k (max a b) d p h (by simpa using hl) (λi c hc=>by have:=hr (i+1) c (by simpa using hc);simpa using this);refine⟨u,?_,h2⟩;rw[List.foldlM_cons,run_bind];have e:(Builtin.max2 (.int k a) (.int kk b)).run P w=.ok (.int k (max a b)) w:=by
    simp only[Builtin.max2];rw[run_pure];congr 2
    by_cases hab:b>a
    ·rw[AM hab];omega
    ·rw[AN hab];omega
   rw[e];exact h1
 | [],_::_,_,_,_,_,_,hl,_=>by simp at hl
 |_::_,[],_,_,_,_,_,hl,_=>by simp at hl
theorem Id {t:Nat}{u:TypeDesc}(hu:P.underlying t=some u){a:Value}{n:Nat}{ty:Nat}{cst:Array Bool}
  (hm:(match u,a with | .string,.string s=>some s.size | .slice _,.slice _ n _=>some n|_,_=>none)=some n):(builtin .len #[t] ty cst #[a]).run P w=.ok (.value (.int .i64 n)) w:=by
 simp only[builtin];rw[run_bind]
 have:(Builtin.len_ #[t] ty #[a]).run P w=.ok (.int .i64 n) w:=by
  unfold Builtin.len_;simp only[EI,NN];rw[run_bind,BS hu];dsimp only;split at hm<;>first|(cases hm;done)|(simp only[Af]at hm;subst hm;rfl)
 rw[this];rfl
theorem Um {b:Builtin}{tys:Array Nat}{ty:Nat}{cst:Array Bool}{args:Array Operand}{g:Operand->D}{ev:Operand->Value}{d:D}{p:Prop}(htt:A7 P tt)(hg:∀x,AG ρ O w (g x) (ev x))
  (h:Kj tt b tys.toList (args.toList.map g)=some (d,p)):∃v,(builtin b tys ty cst (args.map ev)).run P w=.ok (.value v) w/\AG ρ O w d v:=by
 obtain⟨args⟩:=args;obtain⟨tys⟩:=tys;dsimp only at h;unfold Kj at h;split at h<;>try(cases h;done)
 ·rename_i x hargs
  obtain⟨X,rfl,rfl⟩:∃X,args=[X]/\g X=x:=by
   cases args with
   |nil=>simp at hargs
   |cons X r=>cases r with
    |nil=>simp at hargs;exact⟨X,rfl,hargs⟩
    |cons=>simp at hargs
  split at h<;>try(cases h;done)
  rename_i t;have hX:=hg X;rw[show Array.map ev ⟨[X]⟩ = #[ev X]from by simp];generalize ev X=a at hX⊢;generalize g X=x at h hX;cases hi:tt t with
  |none=>simp[hi]at h
  |some i=>
   simp only[hi]at h;have ht:=htt _ _ hi;split at h<;>try(cases h;done)
   all_goals(simp only[Af,Au]at h;obtain⟨rfl,rfl⟩:=h)
   ·rename_i s hk
    cases hX;exact⟨_,Id (IF ht hk) rfl,.prim _⟩
   ·rename_i nn sz es hk
    cases hX with
    |nil=>exact⟨_,Id (CM ht hk).1 rfl,.prim _⟩
    |sl f hl=>subst hl;exact⟨_,Id (CM ht hk).1 rfl,.prim _⟩
    |emp=>exact⟨_,Id (CM ht hk).1 rfl,.prim _⟩
   ·rename_i k g sz i len' hk
    cases hX with
    |onil=>exact⟨_,Id (CM ht hk).1 rfl,.prim _⟩
    |osl=>exact⟨_,Id (CM ht hk).1 rfl,.prim _⟩
   ·rename_i n c hk
    cases hX;exact⟨_,Id (CM ht hk).1 rfl,.prim _⟩
 ·rename_i k a r hargs
  cases args with
  |nil=>simp at hargs
  |cons X xs=>
   simp only[BY,CZ]at hargs;obtain⟨h1,h2⟩:=hargs;have hX:=hg X;rw[h1]at hX;generalize hv:ev X=v at hX;cases hX;obtain⟨u,e1,e2⟩:=QN (P:=P) (ρ:=ρ) (O:=O) (w:=w) r (xs.map ev) k a d p h (by simp[<-h2]) (λi c hc=>by
    rw[<-h2]at hc;simp at hc;obtain⟨y,hy,rfl⟩:=hc;simp[hy];exact hg y)
   refine⟨u,?_,e2⟩;simp only[builtin];rw[run_bind]
   have:(Builtin.min_ ⟨tys⟩ ty (Array.map ev ⟨X::xs⟩)).run P w=.ok u w:=by
    unfold Builtin.min_;simp only[List.map_toArray,BY,hv];exact e1
   rw[this];rfl
 ·rename_i k a r hargs
  cases args with
  |nil=>simp at hargs
  |cons X xs=>
   simp only[BY,CZ]at hargs;obtain⟨h1,h2⟩:=hargs;have hX:=hg X;rw[h1]at hX;generalize hv:ev X=v at hX;cases hX;obtain⟨u,e1,e2⟩:=QM (P:=P) (ρ:=ρ) (O:=O) (w:=w) r (xs.map ev) k a d p h (by simp[<-h2]) (λi c hc=>by
    rw[<-h2]at hc;simp at hc;obtain⟨y,hy,rfl⟩:=hc;simp[hy];exact hg y)
   refine⟨u,?_,e2⟩;simp only[builtin];rw[run_bind]
   have:(Builtin.max_ ⟨tys⟩ ty (Array.map ev ⟨X::xs⟩)).run P w=.ok u w:=by
    unfold Builtin.max_;simp only[List.map_toArray,BY,hv];exact e1
   rw[this];rfl
theorem Ky {o:Oper}{g:Operand->D}{ev:Operand->Value}{d:D}{p:Prop}(htt:A7 P tt)(hg:∀x,AG ρ O w (g x) (ev x))(h:CG tt g o.op=some (d,p))(hp:p):
  ∃v,(execOp ev o).run P w=.ok (.value v) w/\AG ρ O w d v:=by
 have lift:∀(s:Sem Value),Eh P ρ O w s d->∃v,(do pure (Next.value (<-s)):Sem Next).run P w=.ok (.value v) w/\AG ρ O w d v:=λs ⟨v,h1,h2⟩=>⟨v,by rw[run_bind,h1];rfl,h2⟩
 unfold execOp;unfold CG at h;split at h<;>try(cases h;done)
 ·rename_i x ho
  simp only[Af,Au]at h;obtain⟨rfl,rfl⟩:=h;simp only[ho];exact⟨_,rfl,hg x⟩
 ·rename_i x ho
  simp only[Af,Au]at h;obtain⟨rfl,rfl⟩:=h;simp only[ho];exact⟨_,rfl,hg x⟩
 ·rename_i c a b ho
  simp only[ho];split at h<;>try(cases h;done)
  rename_i t hc;simp only[Af,Au]at h;obtain⟨rfl,rfl⟩:=h
  have:=hg c
  rw[hc]at this;generalize hv:ev c=v at this;cases this;refine⟨if t then ev a else ev b,rfl,?_⟩;cases t with
  |true=>rw[AM rfl,Rp (hg a) (hp.1 rfl)];exact .prim _
  |false=>rw[AN (by simp),Rp (hg b) (hp.2 rfl)];exact .prim _
 ·rename_i t ps ho
  simp only[ho];exact lift _ (Vn htt hg h hp)
 ·rename_i x ho
  simp only[ho];split at h<;>try(cases h;done)
  all_goals(rename_i hx;simp only[Af,Au]at h;obtain⟨rfl,rfl⟩:=h;have:=hg x;rw[hx]at this;generalize hv:ev x=v at this)
  ·cases this with|pptr f hO hb hcell ho hh=>exact⟨_,rfl,.pptr f hO hb hcell ho hh⟩
  ·cases this with|optr hr=>exact⟨_,rfl,.optr hr⟩
  ·cases this with|clo a b c d=>exact⟨_,rfl,.clo a b c d⟩
 ·rename_i op t x y yt ho
  simp only[ho];exact lift _ (XG htt h hp (hg x) (hg y))
 ·rename_i op t x ho
  simp only[ho];split at h<;>try(cases h;done)
  rename_i e he;simp only[Af,Au]at h;obtain⟨rfl,rfl⟩:=h;exact lift _ (dm he (hg x))
 ·rename_i src dst x ho
  simp only[ho];cases hs:tt src with
  |none=>simp[hs]at h
  |some si=>
   simp only[hs]at h;split at h<;>try(cases h;done)
   rename_i e he;simp only[Af,Au]at h;obtain⟨rfl,rfl⟩:=h;obtain⟨_,u,_,hu,_⟩:=Ez (htt _ _ hs);exact lift _ (WG htt he (hg x) hu)
 ·rename_i f a b ho
  simp only[ho];simp only[Af,Au]at h;obtain⟨rfl,rfl⟩:=h;refine lift _ ⟨_,rfl,.clo (by simp) (by simp) (λi d hd=>?_) λi d hd=>?_⟩
  ·simp at hd;obtain⟨y,hy,rfl⟩:=hd;simp[hy];exact hg y
  ·simp at hd;obtain⟨y,hy,rfl⟩:=hd;simp[hy];exact hg y
 ·rename_i t x lo hi ho
  simp only[ho];exact lift _ (Wa htt hg h hp (hg x))
 ·rename_i t x f ho
  simp only[ho];cases hi:tt t with
  |none=>simp[hi]at h
  |some i=>
   simp only[hi]at h;split at h<;>try(cases h;done)
   rename_i fs hk;split at h<;>try(cases h;done)
   rename_i o' sz ag hf;split at h<;>try(cases h;done)
   rename_i e he;simp only[Af,Au]at h;obtain⟨rfl,rfl⟩:=h;exact lift _ (VD (htt _ _ hi) hk hf he (hg x))
 ·rename_i t x f ho
  simp only[ho];cases hi:tt t with
  |none=>simp[hi]at h
  |some i=>
   simp only[hi]at h;split at h<;>try(cases h;done)
   rename_i fs hk;split at h<;>try(cases h;done)
   rename_i o' sz ag hf;split at h<;>try(cases h;done)
   rename_i cs hx;split at h<;>try(cases h;done)
   rename_i e he;simp only[Af,Au]at h;obtain⟨rfl,rfl⟩:=h;exact lift _ (Wx (htt _ _ hi) hk hf he (by rw[<-hx];exact hg x))
 ·rename_i t x ix ho
  simp only[ho];cases hi:tt t with
  |none=>simp[hi]at h
  |some i=>
   simp only[hi]at h;have hix:=hg ix;split at h<;>try(cases h;done)
   ·rename_i n esz ag k j hk hx
    rw[hx]at hix;generalize hv:ev ix=v at hix;cases hix;split at h<;>try(cases h;done)
    rename_i e he;simp only[Af,Au]at h;obtain⟨rfl,rfl⟩:=h;exact lift _ (Us (htt _ _ hi) hk he hp.1 hp.2 (hg x))
   ·rename_i e esz eby ez k j hk hx
    rw[hx]at hix;generalize hv:ev ix=v at hix;cases hix;split at h<;>try(cases h;done)
    rename_i k' gg sz i' len hy;simp only[Af,Au]at h;obtain⟨rfl,rfl⟩:=h;obtain⟨p1,p2,rfl⟩:=hp;exact lift _ (Ut (htt _ _ hi) hk p1 p2 (by rw[<-hy];exact hg x))
 ·rename_i t x ix ho
  simp only[ho];cases hi:tt t with
  |none=>simp[hi]at h
  |some i=>
   simp only[hi]at h;have hix:=hg ix;have hxx:=hg x;split at h<;>try(cases h;done)
   rename_i s k j hk h1 h2;rw[h2]at hix;rw[h1]at hxx;generalize hv:ev ix=v at hix;cases hix;generalize hv':ev x=v' at hxx;cases hxx;simp only[Af,Au]at h;obtain⟨rfl,rfl⟩:=h;refine lift _ ⟨_,?_,.prim _⟩;unfold Instr.index;rw[run_bind,KQ];dsimp only;rw[run_bind,BS (IF (htt _ _ hi) hk)];dsimp only;have hlt:j.toNat<s.size:=by omega
   have e:(if 0<=j then s[j.toNat]? else none)=some (s.data.toList.getD j.toNat 0):=by
    rw[AM hp.1];have hlt':j.toNat<s.data.size:=hlt;rw[getElem?_pos s j.toNat hlt];simp;rw[BF hlt'];rfl
   rw[e];rfl
 ·rename_i x ix ho
  simp only[ho];have hxx:=hg x;split at h<;>try(cases h;done)
  rename_i ds h1;rw[h1]at hxx;generalize hv':ev x=v' at hxx;split at h<;>try(cases h;done)
  rename_i e he;simp only[Af,Au]at h;obtain⟨rfl,rfl⟩:=h;cases hxx with
  |tup hn hh=>
   rename_i vs;have hlt:ix<ds.length:=by
    rcases Aq ix ds.length with h'|h'
    ·exact h'
    ·rw[Du h']at he;cases he
   refine lift _ ⟨vs.getD ix undef,?_,hh _ _ he⟩;unfold Instr.extract
   have:vs[ix]?=some (vs.getD ix undef):=by
    rw[AT,D8];rfl
   simp only[this];rfl
 ·rename_i b args tys ho
  simp only[ho];obtain⟨v,e1,e2⟩:=Um (ty:=o.type) (cst:=args.map fun | .const _=>true|_=>false) htt hg h;exact⟨v,e1,e2⟩
end
def Hp.get:Hp->Nat->Option AK
 | [],_=>none
 |e::r,k=>match Nat.beq e.k k with
  |true=>some e
  |false=>Hp.get r k
theorem Hp.get_mem:∀ {H:Hp} {k:Nat} {e:AK},Hp.get H k=some e->e∈H/\e.k=k
 |e::r,k,e',h=>by
  simp only[Hp.get]at h;cases hb:Nat.beq e.k k with
  |true=>simp[hb]at h;subst h;exact⟨by simp,Ae hb⟩
  |false=>simp[hb]at h;obtain⟨h1,h2⟩:=Hp.get_mem h;exact⟨by simp[h1],h2⟩
 | [],_,_,h=>by simp[Hp.get]at h
def Ie:D->Bool
 | .agg _=>false
 |_=>true
def EO (g:Operand->D):Nat->List (Nat×Operand)->Option (List D)
 |_,[]=>some []
 |i,(j,x)::r=>match Nat.beq i j with
  |true=>match EO g (i+1) r with
   |some l=>some (g x::l)
   |none=>none
  |false=>none
def Hb (ag:Bool)(sz:Nat):List D->Prop
 | []=>True
 | [d]=>Cv ag sz d
 |d::l=>Cv ag sz d/\Hb ag sz l
def Cg (tt:Nat->Option AL)(H:Hp)(n k:Nat)(g:Operand->D):Op->Option (D×Option AK×Prop)
 | .load t x=>match tt t with
  |some i=>match g x with
   | .optr k' gg sz j off=>match Hp.get H k' with
    |some e=>match e.es[j]? with
     |some d=>match DB i.ag i.sz off d.cells with
      |some d'=>some (d',none,gg=e.g/\sz=e.sz/\(bif Nat.ble 1 e.sz then bif i.ag then Nat.ble (off+i.sz) d.cells.length else true else false)=true)
      |none=>none
     |none=>none
    |none=>none
   | .pptr d=>match i.ag with
    |true=>match d with
     | .agg ds=>some (d,none,Nat.beq ds.length i.sz=true)
     |_=>none
    |false=>some (d,none,Ie d=true)
   |_=>none
  |none=>none
 | .alloc t=>match tt t with
  |some i=>some (.optr k n i.sz 0 0,some ⟨k,n,t,i.sz,[ofV i.zero]⟩,Nat.ble 1 i.sz=true)
  |none=>none
 | .box t x=>match tt t with
  |some i=>some (.optr k n i.sz 0 0,some ⟨k,n,t,i.sz,[g x]⟩,Cv i.ag i.sz (g x)/\Nat.ble 1 i.sz=true)
  |none=>none
 | .buildSlice t len ps=>match tt t with
  |some i=>match i.ti with
   | .slice e esz _ _=>match len with
    | 0=>match ps.toList with
     | []=>some (.osl k n esz 0 0,some ⟨k,n,e,esz,[]⟩,Nat.ble 1 esz=true)
     |_=>none
    |len+1=>match tt e with
     |some ie=>match EO g 0 ps.toList with
      |some es=>some (.sl true esz es,none,Hb ie.ag esz es/\es.length=len+1/\Nat.ble ((len+1)*esz) 16777216=true/\Nat.ble 1 esz=true)
      |none=>none
     |none=>none
   |_=>none
  |none=>none
 |_=>none
section
variable {C:AZ} {F:AI} {ρ:Lk} {H:Hp} {w:World}
def Bk:Option AK->Hp->Hp
 |some e,H=>e::H
 |none,H=>H
structure Le (C:AZ)(F:AI)(ρ:Lk)(H:Hp)(w:World)(n:Nat)(d:D)(H':Hp)(n':Nat)(v:Value)(ρ':Lk)(w':World):Prop where
 mem:AQ C F ρ' H' w'
 ext:Ao ρ (AF F.X ρ H) w ρ' (AF F.X ρ' H') w'
 fresh:Ge ρ' n'
 rep:AG ρ' (AF F.X ρ' H') w' d v
structure E5 (C:AZ)(F:AI)(He:Hp)(ρ:Lk)(w:World)(g:Nat)(d:D)(ne:Option AK)(v:Value)(ρ':Lk)(w':World):Prop where
 mem:AQ C F ρ' (Bk ne He) w'
 ext:Ao ρ (AF F.X ρ He) w ρ' (AF F.X ρ' (Bk ne He)) w'
 far:∀k g',g'≠g->ρ' k g'=ρ k g'
 rep:AG ρ' (AF F.X ρ' (Bk ne He)) w' d v
theorem WA {ag:Bool}{sz off:Nat}{cs:List D}{d:D}{O:Nat->Prop}{f:Nat->Value}(h:DB ag sz off cs=some d)(hlen:ag=true->off+sz<=cs.length)
  (ho:∀j,j<cs.length->one (f j)=true) (hr:∀j c,cs[j]?=some c->AG ρ O w c (f j)):
  AG ρ O w d (match ag with|true=>.agg ((List.range sz).map λj=>f (off+j)).toArray|false=>f off):=by
 rcases Lz h with⟨rfl,rfl⟩|⟨rfl,h1⟩
 ·have hl:=hlen rfl
  refine .agg (by simp;omega) (λi v hv=>?_) λi c hc=>?_
  ·rw[EI,Bf]at hv
   by_cases hi:i<sz
   ·rw[FZ hi]at hv
    cases hv;exact ho _ (by omega)
   ·rw[Du (by simp;omega)]at hv;cases hv
  ·rw[Cx]at hc
   split at hc
   ·rename_i hlt
    rw[Es]at hc;simp[hlt];exact hr _ _ hc
   ·cases hc
 ·exact hr _ _ h1
theorem OM {P:Program}{t:Nat}{i:AL}{b o:Nat}{f:Nat->Value}(ht:Cm P t=some i)(hi:∀n,n<(if i.ag then i.sz else 1)->w.cell? ⟨b,o+n,none⟩=some (f n)):
  (Instr.loadAt t (.pointer (some ⟨b,o,none⟩))).run P w=.ok (match i.ag with|true=>.agg ((List.range i.sz).map f).toArray|false=>f 0) w:=by
 obtain⟨inf,u,h1,h2,h3,h4,h5,h6,h7⟩:=Ez ht;have hag:=(U9 ht).agg;unfold Instr.loadAt;rw[run_bind,KM];dsimp only;unfold loadVar;rw[run_bind,OP h2,hag];dsimp only;cases ha:i.ag with
 |true=>
  rw[AM rfl,run_bind,Ei h1,h4];dsimp only;rw[run_bind,run_loadCells (P:=P) w _ _ f (λj hj=>by rw[E0];exact hi j (by rw[ha];exact hj))];rfl
 |false=>
  rw[AN (by simp)]
  have:=hi 0 (by rw[ha];simp)
  rw[Fc]at this;unfold load;simp only[Sem.run,this]
theorem Jm {a b:Bool}(h:(bif a then b else false)=true):a=true/\b=true:=by cases a<;>cases b<;>simp_all
theorem Gi {n:Nat}(h:Nat.ble 1 n=true):n≠0:=by have:=BD h;omega
theorem RE {P:Program}{t:Nat}{i:AL}{k g sz j off:Nat}{d d':D}{e:AK}{a:Value}(m:AQ C F ρ H w)(ht:Cm P t=some i)(hm:e∈H)(hk:e.k=k)(hd:e.es[j]?=some d)
  (hp:DB i.ag i.sz off d.cells=some d') (hg:g=e.g) (hs:sz=e.sz) (hz:e.sz≠0) (hlen:i.ag=true->off+i.sz<=d.cells.length) (hx:AG ρ (AF F.X ρ H) w (.optr k g sz j off) a):
  ∃v,(Instr.loadAt t a).run P w=.ok v w/\AG ρ (AF F.X ρ H) w d' v:=by
 subst hg hs;cases hx with
 |optr hr=>
  rename_i b;rw[<-hk]at hr;obtain⟨cs,h1,h2⟩:=m.at hm hr hz;have hdl:=h2.siz j d hd;have hjl:j<e.es.length:=by
   rcases Aq j e.es.length with h'|h'
   ·exact h'
   ·rw[Du h']at hd;cases hd
  have hin:∀n,n<e.sz->j*e.sz+n<cs.size:=λn hn=>by
   have:(j+1)*e.sz<=e.es.length*e.sz:=Br _ hjl
   rw[Ba]at this;have:=h2.len;omega
  have hcell:∀n,n<e.sz->w.cell? ⟨b,j*e.sz+n,none⟩=some (cs.getD (j*e.sz+n) undef):=λn hn=>by
   have:=hin n hn
   simp[World.cell?,h1,this]
  have hoff:off<e.sz\/i.ag=true:=by
   cases ha:i.ag with
   |true=>exact .inr rfl
   |false=>
    left;rw[ha]at hp;rcases Lz hp with⟨h,_⟩|⟨_,h⟩
    ·cases h
    ·rw[<-hdl]
     rcases Aq off d.cells.length with h'|h'
     ·exact h'
     ·rw[Du h']at h;cases h
  have run:=OM (P:=P) (w:=w) (b:=b) (o:=j*e.sz+off) (f:=λn=>cs.getD (j*e.sz+off+n) undef) ht (λn hn=>by
   have:off+n<e.sz:=by
    cases ha:i.ag with
    |true=>rw[ha]at hn;have:=hlen ha;simp at hn;omega
    |false=>
     rw[ha]at hn;simp at hn;rcases hoff with h|h
     ·omega
     ·rw[ha]at h;cases h
   rw[Fw,hcell _ this])
  refine⟨_,run,?_⟩
  have:=WA (ρ:=ρ) (w:=w) (O:=AF F.X ρ H) (f:=λn=>cs.getD (j*e.sz+n) undef) hp hlen (λn hn=>by
   have h':=hin n (by omega)
   have:=h2.one (j*e.sz+n) (cs[j*e.sz+n]) (BF h')
   simpa[AT,BF h']using this) (λn c hc=>h2.rep j d n c hd hc)
  cases ha:i.ag with
  |true=>rw[ha]at this;simpa[Fw]using this
  |false=>rw[ha]at this;simpa using this
theorem Lr {P:Program}{t:Nat}{i:AL}{d:D}{a:Value}{O:Nat->Prop}(ht:Cm P t=some i)(h1:i.ag=true->∃ds,d=.agg ds/\ds.length=i.sz)(h2:i.ag=false->Ie d=true)
  (hx:AG ρ O w (.pptr d) a):∃v,(Instr.loadAt t a).run P w=.ok v w/\AG ρ O w d v:=by
 cases hx with
 |pptr f hO hb hcell ho hh=>
  rename_i b off;cases ha:i.ag with
  |true=>
   obtain⟨ds,rfl,hl⟩:=h1 ha;have run:=OM (P:=P) (w:=w) (b:=b) (o:=off) (f:=f) ht (λn hn=>by rw[ha]at hn;simp at hn;exact hcell n (by simp[D.cells];omega));rw[ha]at run;refine⟨_,run,.agg (by simp[hl]) (λj v hv=>?_) λj c hc=>?_⟩
   ·rw[EI,Bf]at hv
    by_cases hi:j<i.sz
    ·rw[FZ hi]at hv
     cases hv;exact ho _ (by simp[D.cells];omega)
    ·rw[Du (by simp;omega)]at hv;cases hv
   ·have hj:j<i.sz:=by
     rw[<-hl];rcases Aq j ds.length with h'|h'
     ·exact h'
     ·rw[Du h']at hc;cases hc
    have e:(List.map f (List.range i.sz)).toArray.getD j undef=f j:=by simp[hj]
    rw[e];exact hh j c hc
  |false=>
   have hc:d.cells=[d]:=by
    have:=h2 ha
    cases d<;>first|rfl|simp[Ie]at this
   have run:=OM (P:=P) (w:=w) (b:=b) (o:=off) (f:=f) ht (λn hn=>by rw[ha]at hn;simp at hn;subst hn;exact hcell 0 (by rw[hc];simp));rw[ha]at run;exact⟨_,run,hh 0 d (by rw[hc];rfl)⟩
theorem B2.new {e:AK}{v:Value}{d:D}{ag:Bool}(he:e.es=[d])(hf:Cv ag e.sz d)(hx:AG ρ (AF F.X ρ H) w d v):B2 ρ (AF F.X ρ H) w e v.cells:=by
 obtain⟨h1,h2,h3,h4,h5⟩:=hf _ _ _ _ hx;rw[h5]at h3 h4;refine⟨by rw[he];simp[h1],λi d' hd=>?_,h2,λi d' j c hd hc=>?_⟩
 ·rw[he]at hd
  cases i with
  |zero=>simp at hd;subst hd;exact h3
  |succ i=>simp at hd
 ·rw[he]at hd
  cases i with
  |zero=>simp at hd;subst hd;simpa using h4 j c hc
  |succ i=>simp at hd
theorem N5 {ag:Bool}{sz:Nat}:∀ {l:List D},Hb ag sz l->∀(i:Nat) (d:D),l[i]?=some d->Cv ag sz d
 | [],_,i,d,h=>by simp at h
 | [x],hf,i,d,h=>by
  cases i with
  |zero=>simp at h;subst h;exact hf
  |succ i=>simp at h
 |x::y::l,hf,i,d,h=>by
  cases i with
  |zero=>simp at h;subst h;exact hf.1
  |succ i=>exact N5 hf.2 i d (by simpa using h)
theorem Oc {O:Nat->Prop}{ag:Bool}{esz:Nat}{g:Operand->D}{ev:Operand->Value}(hg:∀x,AG ρ O w (g x) (ev x)):∀(ps:List (Nat×Operand)) (i:Nat) (l:List D) (vs:Array Value),
  EO g i ps=some l->(∀(q:Nat) (d:D),l[q]?=some d->Cv ag esz d)->vs.size=(i+l.length)*esz ->
  ∃vs',Instr.fill (λi=>some (i*esz,esz)) vs (ps.map λx=>(x.1,ev x.2))=some vs'/\vs'.size=vs.size/\(∀j,j<i*esz->vs'[j]?=vs[j]?) /\
   ∀(q:Nat) (d:D),l[q]?=some d->d.cells.length=esz/\(∀(j:Nat) (c:D),d.cells[j]?=some c->AG ρ O w c (vs'.getD ((i+q)*esz+j) undef)) /\
    ∀j,j<esz->one (vs'.getD ((i+q)*esz+j) undef)=true
 | [],i,l,vs,h,hf,hs=>by
  simp only[EO,Af]at h;subst h;exact⟨vs,rfl,rfl,λ_ _=>rfl,by simp⟩
 |(j,x)::r,i,l,vs,h,hf,hs=>by
  simp only[EO]at h;cases hb:Nat.beq i j with
  |false=>simp[hb]at h
  |true=>
   obtain rfl:=Ae hb;cases hr:EO g (i+1) r with
   |none=>simp[hr]at h
   |some l2=>
    simp[hr]at h;subst h;obtain⟨h1,h2,h3,h4,h5⟩:=hf 0 _ rfl ρ O w _ (hg x);rw[h5]at h3 h4;have hsz:(i+1)*esz<=vs.size:=by rw[hs];exact Br _ (by simp)
    have hsz':i*esz+esz<=vs.size:=by rw[Ba]at hsz;omega
    have get:∀j,((ev x).cells.toList.zipIdx.foldl (λcs (x:Value×Nat)=>cs.setIfInBounds (i*esz+x.2) x.1) vs)[j]?=if i*esz<=j/\j<i*esz+esz then(ev x).cells[j-i*esz]? else vs[j]?:=λj=>by
     rw[OR]
     by_cases hj:i*esz<=j/\j<i*esz+esz
     ·rw[AM hj,AM (by simp[h1];omega)];simp
     ·rw[AN hj,AN (by simp[h1];omega)]
    obtain⟨vs',e1,e2,e3,e4⟩:=Oc hg r (i+1) l2 ((ev x).cells.toList.zipIdx.foldl (λcs (x:Value×Nat)=>cs.setIfInBounds (i*esz+x.2) x.1) vs) hr
     (λq d hd=>hf (q+1) d (by simpa using hd)) (by rw[Lp,hs];congr 1;simp;omega)
    have e0:(i+1)*esz=i*esz+esz:=by rw[Ba];omega
    refine⟨vs',?_,by rw[e2,Lp],λj hj=>?_,λq d hd=>?_⟩
    ·simp only[BY,Instr.fill]
     rw[AN (by simp[h1];omega),<-Array.foldl_toList,Array.toList_zipIdx];exact e1
    ·rw[e3 j (by omega),get,BU]
    ·cases q with
     |zero=>
      simp at hd;subst hd;have hcell:∀j,j<esz->vs'.getD (i*esz+j) undef=(ev x).cells.getD j undef:=λj hj=>by
       simp only[AT];rw[e3 _ (by omega),get,DK,show i*esz+j-i*esz=j from by omega]
      refine⟨h3,λj c hc=>?_,λj hj=>?_⟩
      ·have hj:j<esz:=by
        rw[<-h3];rcases Aq j (g x).cells.length with h'|h'
        ·exact h'
        ·rw[Du h']at hc;cases hc
       rw[Fc,hcell j hj];exact h4 j c hc
      ·rw[Fc,hcell j hj]
       have:j<(ev x).cells.size:=by omega
       have:=h2 j _ (BF this)
       simp[AT, *]
     |succ q=>
      have:=e4 q d (by simpa using hd)
      rw[show i+(q+1)=i+1+q from by omega];exact this
theorem Nq {t e:Nat}{esz eby:Nat}{ez:Value}{i:AL}{len:Nat}{parts:Array (Nat×Value)}{cells:Array Value}(ht:Cm C.P t=some i)(hk:i.ti=.slice e esz eby ez)
  (hl:len*esz<=16777216) (hf:Instr.fill (λi=>some (i*esz,esz)) ((Array.range (len*esz)).map (λj=>(if len*esz=0 then #[]else ez.cells)[j%(if len*esz=0 then #[]else ez.cells).size]!)) parts.toList=some cells):
  (Instr.buildSlice t len parts).run C.P w=.ok (.slice (some ⟨w.heap.size,0,none⟩) len len) (w.alloc (.cells cells e)):=by
 obtain⟨hu,⟨inf,e3,e4,e5,e6⟩,e7,e8⟩:=CM ht hk;unfold Instr.buildSlice;rw[run_bind,BS hu];dsimp only;rw[run_bind,Ei e3,e4];dsimp only;rw[BU]
 by_cases h0:len*esz=0
 ·simp only[h0,if_true]at hf⊢
  rw[run_bind,run_pure];dsimp only;rw[hf];rfl
 ·simp only[h0,if_false]at hf⊢
  rw[run_bind,KJ e3 e6];dsimp only;rw[run_bind,run_pure];dsimp only;rw[hf];rfl
theorem SL {tt:Nat->Option AL}{o:Oper}{g:Operand->D}{ev:Operand->Value}{n k:Nat}{d:D}{ne:Option AK}{p:Prop}{H0:Hp}(hsub:∀e∈H0,e∈H)(htt:A7 C.P tt)(m:AQ C F ρ H w)(fr:∀k,ρ k n=none)(hlt:∀e∈H,e.g≠n)
  (hg:∀x,AG ρ (AF F.X ρ H) w (g x) (ev x)) (h:Cg tt H0 n k g o.op=some (d,ne,p)) (hp:p):
  ∃v ρ' w',(execOp ev o).run C.P w=.ok (.value v) w'/\E5 C F H ρ w n d ne v ρ' w':=by
 unfold execOp;unfold Cg at h;split at h<;>try(cases h;done)
 ·rename_i t x ho
  simp only[ho];cases hi:tt t with
  |none=>simp[hi]at h
  |some i=>
   simp only[hi]at h;have ht:=htt _ _ hi;have hx:=hg x;have same:∀(s:Sem Value) (d':D),(∃v,s.run C.P w=.ok v w/\AG ρ (AF F.X ρ H) w d' v)->∃v ρ' w',(do pure (Next.value (<-s)):Sem Next).run C.P w=.ok (.value v) w'/\E5 C F H ρ w n d' none v ρ' w':=
    λs d' ⟨v,h1,h2⟩=>⟨v,ρ,w,by rw[run_bind,h1];rfl,m,.refl _ _ _,λ_ _ _=>rfl,h2⟩
   split at h<;>try(cases h;done)
   ·rename_i k' gg sz j off hgx
    rw[hgx]at hx;split at h<;>try(cases h;done)
    rename_i e he;split at h<;>try(cases h;done)
    rename_i d1 hd1;split at h<;>try(cases h;done)
    rename_i d2 hd2;simp only[Af,Au]at h;obtain⟨rfl,rfl,rfl⟩:=h;refine same _ _ (RE m ht (hsub _ (Hp.get_mem he).1) (Hp.get_mem he).2 hd1 hd2 hp.1 hp.2.1 (Gi (Jm hp.2.2).1) (λha=>?_) hx)
    have:=(Jm hp.2.2).2
    rw[ha]at this;exact BD this
   ·rename_i d1 hgx
    rw[hgx]at hx;split at h
    ·rename_i ha
     split at h<;>try(cases h;done)
     rename_i ds;simp only[Af,Au]at h;obtain⟨rfl,rfl,rfl⟩:=h;exact same _ _ (Lr ht (λ_=>⟨ds,rfl,Ae hp⟩) (λh'=>by rw[ha]at h';cases h') hx)
    ·rename_i ha
     simp only[Af,Au]at h;obtain⟨rfl,rfl,rfl⟩:=h;exact same _ _ (Lr ht (λh'=>by rw[ha]at h';cases h') (λ_=>hp) hx)
 ·rename_i t ho
  simp only[ho];cases hi:tt t with
  |none=>simp[hi]at h
  |some i=>
   simp only[hi,Af,Au]at h;obtain⟨rfl,rfl,rfl⟩:=h;have ht:=htt _ _ hi;obtain⟨inf,u,h1,h2,h3,h4,h5,h6,h7⟩:=Ez ht;obtain⟨h8,h9⟩:=KX h6;have hz:AG ρ (AF F.X ρ H) w (ofV i.zero) i.zero:=AG.ofV λj x hx=>.inl (h9 j x hx)
   have hcl:(ofV i.zero).cells.length=i.sz:=by rw[<-h8];cases i.zero<;>simp[ofV,D.cells,Value.cells]
   have hok:B2 ρ (AF F.X ρ H) w ⟨k,n,t,i.sz,[ofV i.zero]⟩ i.zero.cells:=by
    refine⟨by simp[h8],λj d hd=>?_,h9,λj d jj c hd hc=>?_⟩
    ·cases j with
     |zero=>simp at hd;subst hd;exact hcl
     |succ j=>simp at hd
    ·cases j with
     |zero=>
      simp at hd;subst hd;cases hzv:i.zero with
      |agg vs=>
       rw[hzv]at hc hz;cases hz with
       |agg hn ho hh=>simpa[Value.cells]using hh jj c hc
      |_=>
       rw[hzv]at hc;simp only[ofV,D.cells]at hc;cases jj with
       |zero=>simp at hc;subst hc;simp[Value.cells];exact .prim _
       |succ jj=>simp at hc
     |succ j=>simp at hd
   obtain⟨a1,a2⟩:=m.alloc ⟨k,n,t,i.sz,[ofV i.zero]⟩ i.zero.cells (fr k) (λe he hh=>hlt e he hh.2) (Gi hp) hok;refine⟨.pointer (some ⟨w.heap.size,0,none⟩),_,_,?_,a1,a2,?_,?_⟩
   ·rw[run_bind]
    have:(Instr.alloc t true (.tuple #[])).run C.P w=.ok (.pointer (some ⟨w.heap.size,0,none⟩)) (w.alloc (.cells i.zero.cells t)):=by
     unfold Instr.alloc;rw[run_bind,KJ h1 h3];rfl
    rw[this];rfl
   ·intro k' g' hg'
    unfold Lk.put;rw[AN (by dsimp only;omega)]
   ·have:=AG.optr (sz:=i.sz) (i:=0) (off:=0) (O:=AF F.X (ρ.put k n w.heap.size) (⟨k,n,t,i.sz,[ofV i.zero]⟩::H)) (w:=w.alloc (.cells i.zero.cells t)) (CO ρ k n w.heap.size)
    simpa[Bk]using this
 ·rename_i t x ho
  simp only[ho];cases hi:tt t with
  |none=>simp[hi]at h
  |some i=>
   simp only[hi,Af,Au]at h;obtain⟨rfl,rfl,rfl⟩:=h;have hok:B2 ρ (AF F.X ρ H) w ⟨k,n,t,i.sz,[g x]⟩ (ev x).cells:=B2.new rfl hp.1 (hg x);obtain⟨a1,a2⟩:=m.alloc ⟨k,n,t,i.sz,[g x]⟩ (ev x).cells (fr k) (λe he hh=>hlt e he hh.2) (Gi hp.2) hok;refine⟨.pointer (some ⟨w.heap.size,0,none⟩),_,_,?_,a1,a2,?_,?_⟩
   ·rw[run_bind];rfl
   ·intro k' g' hg'
    unfold Lk.put;rw[AN (by dsimp only;omega)]
   ·have:=AG.optr (sz:=i.sz) (i:=0) (off:=0) (O:=AF F.X (ρ.put k n w.heap.size) (⟨k,n,t,i.sz,[g x]⟩::H)) (w:=w.alloc (.cells (ev x).cells t)) (CO ρ k n w.heap.size)
    simpa[Bk]using this
 ·rename_i t len ps ho
  simp only[ho];cases hi:tt t with
  |none=>simp[hi]at h
  |some i=>
   simp only[hi]at h;have ht:=htt _ _ hi;split at h<;>try(cases h;done)
   rename_i e esz eby ez hk;split at h
   ·split at h<;>try(cases h;done)
    rename_i hps;simp only[Af,Au]at h;obtain⟨rfl,rfl,rfl⟩:=h;have run:=Nq (C:=C) (w:=w) (len:=0) (parts:=ps.map λ(i,x)=>(i,ev x)) (cells:=#[]) ht hk (by omega) (by simp[hps,Instr.fill]);have hok:B2 ρ (AF F.X ρ H) w ⟨k,n,e,esz,[]⟩ #[]:=⟨by simp,by simp,by simp,by simp⟩
    obtain⟨a1,a2⟩:=m.alloc ⟨k,n,e,esz,[]⟩ #[] (fr k) (λe he hh=>hlt e he hh.2) (Gi hp) hok;refine⟨_,_,_,by rw[run_bind,run];rfl,a1,a2,?_,?_⟩
    ·intro k' g' hg'
     unfold Lk.put;rw[AN (by dsimp only;omega)]
    ·have:=AG.osl (sz:=esz) (i:=0) (len:=0) (cap:=0) (O:=AF F.X (ρ.put k n w.heap.size) (⟨k,n,e,esz,[]⟩::H)) (w:=w.alloc (.cells #[] e)) (T:=e) (cs:=#[]) (fz:=(0,0)) (CO ρ k n w.heap.size)
      (by rw[Cc,AM rfl]) (Ad _) (by simp) (by simp[maxLen])
     simpa[Bk]using this
   ·rename_i len
    split at h<;>try(cases h;done)
    rename_i ie hie;split at h<;>try(cases h;done)
    rename_i es hes;simp only[Af,Au]at h;obtain⟨rfl,rfl,rfl⟩:=h;obtain⟨p1,p2,p3,p4⟩:=hp;have p3:=BD p3;have p4:=BD p4;have hpos:(len+1)*esz≠0:=by
     intro h0
     have:=Nat.mul_eq_zero.1 h0;omega
    obtain⟨vs',f1,f2,f3,f4⟩:=Oc (ρ:=ρ) (w:=w) (O:=AF F.X ρ H) hg ps.toList 0 es ((Array.range ((len+1)*esz)).map (λj=>(if(len+1)*esz=0 then #[]else ez.cells)[j%(if(len+1)*esz=0 then #[]else ez.cells).size]!)) hes
     (N5 p1) (by simp[p2])
    have run:=Nq (C:=C) (w:=w) (len:=len+1) (parts:=ps.map λ(i,x)=>(i,ev x)) (cells:=vs') ht hk p3 (by rw[<-f1];simp);refine⟨_,ρ,_,by rw[run_bind,run];rfl,m.allocPure _,.allocPure _,λ_ _ _=>rfl,?_⟩;have hsz:vs'.size=(len+1)*esz:=by rw[f2];simp
    have x:Ao ρ (AF F.X ρ H) w ρ (AF F.X ρ H) (w.alloc (.cells vs' e)):=.allocPure _;refine .sl (λj=>vs'.getD j undef) p2 (Ad _) (λho=>by have:=m.own_lt ho;omega) (by simp) (λq d hd=>(f4 q d hd).1) (λj hj=>?_) (λj hj=>?_) λq d j c hd hc=>?_
    ·have:j<vs'.size:=by omega
     rw[B5,World.cell?_alloc_new,AT,BF this];rfl
    ·have hq:j/esz<es.length:=by rw[p2];exact(Nat.div_lt_iff_lt_mul (by omega)).2 hj
     have:=(f4 (j/esz) _ (BI hq)).2.2 (j%esz) (Gn _ (by omega))
     rw[B5,Nat.div_add_mod']at this;exact this
    ·have:=(f4 q d hd).2.1 j c hc
     rw[B5]at this;exact this.mono x
end
def Ak (env:Ab):Option Nat->D->Ab
 |some t,d=>(t,d)::env
 |none,_=>env
def Am (ops:Array Oper)(env:Ab)(o:Oper):Option Bool:=match o.guard with
 |none=>some true
 |some (j,want)=>match ops[j]? with
  |none=>some false
  |some oj=>match oj.dst with
   |none=>some false
   |some t=>match env.get t with
    | .prim (.bool b)=>match want with
     |true=>some b
     |false=>some (!b)
    | .prim (.tuple _)=>some false
    | .gd u (.prim (.bool b))=>match want with
     |true=>some (u&&b)
     |false=>some (u && !b)
    |_=>none
section
variable {C:AZ} {F:AI} {s:St} {ops:Array Oper} {o:Oper} {os:List Oper} {K:St->Prop}
theorem FK {env:Ab}{a:Act}{ρ:Lk}{O:Nat->Prop}{w:World}{b:Bool}(he:∀t,AG ρ O w (env.get t) (a.tmps.getD t undef))(h:Am ops env o=some b):
  Region.wanted o (yielded ops a.tmps)=b:=by
 unfold Am at h;unfold Region.wanted;split at h
 ·rename_i hg;simp only[hg];simpa using h
 ·rename_i j want hg
  simp only[hg];cases hj:ops[j]? with
  |none=>simp only[hj]at h;cases h;simp[yielded,hj]
  |some oj=>
   simp only[hj]at h;cases hd:oj.dst with
   |none=>simp only[hd]at h;cases h;simp[yielded,hj,hd]
   |some t=>
    simp only[hd]at h;have hr:=he t;have hy:∀x,a.tmps.getD t undef=.bool x->yielded ops a.tmps j=some x:=by
     intro x hx;have hlt:t<a.tmps.size:=by
      rcases Aq t a.tmps.size with h'|h'
      ·exact h'
      ·rw[AT,Ix h']at hx;cases hx
     have:a.tmps[t]?=some (.bool x):=by
      rw[BF hlt];rw[AT,BF hlt]at hx;exact congrArg some hx
     simp[yielded,hj,hd,this]
    have hn:(∀x,a.tmps.getD t undef≠.bool x)->yielded ops a.tmps j=none:=by
     intro hx;unfold yielded;simp only[hj,hd,Option.bind_some];cases ht:a.tmps[t]? with
     |none=>rfl
     |some v=>
      cases v<;>first|rfl|(rename_i x;exact AW (by simp[ht]) (hx x))
    split at h
    ·rename_i x hx
     rw[hx]at hr;generalize hv:a.tmps.getD t undef=v at hr;have e:v=.bool x:=by cases hr;rfl
     subst e;rw[hy _ hv];cases want<;>cases x<;>cases h<;>rfl
    ·rename_i x hx
     rw[hx]at hr;generalize hv:a.tmps.getD t undef=v at hr;have e:v=.tuple x:=by cases hr;rfl
     subst e;cases h;rw[hn (λy hy'=>by rw[hv]at hy';cases hy')];rfl
    ·rename_i u x hx
     rw[hx]at hr;generalize hv:a.tmps.getD t undef=v at hr;cases hr with
     |gd h1 h2=>
      cases u with
      |true=>
       have e:v=.bool x:=by have:=h1 rfl;cases this;rfl
       subst e;rw[hy _ hv];cases want<;>cases x<;>cases h<;>rfl
      |false=>
       have:=h2 rfl
       subst this;rw[hn (λy hy'=>by rw[hv]at hy';cases hy')];cases want<;>cases x<;>cases h<;>rfl
    ·cases h
theorem Aw.put {ρ ρ':Lk}{a:Act}{w w':World}{H':Hp}{n':Nat}{d:D}{v:Value}(h:Aw C F ρ s a w)(m:AQ C F ρ' H' w')(x:Ao ρ (AF F.X ρ s.H) w ρ' (AF F.X ρ' H') w')(fr:Ge ρ' n')
  (hg:∀e∈H',e.g<n') (hv:AG ρ' (AF F.X ρ' H') w' d v) (hd:CB F.nt o=true):Aw C F ρ' ⟨Ak s.env o.dst d,H',n'⟩ (a.put o.dst v) w':=by
 refine⟨m,fr,hg,λt=>?_,?_,?_⟩
 ·cases ho:o.dst with
  |none=>exact(h.env t).mono x
  |some k=>
   have hk:k<a.tmps.size:=by
    rw[h.nt];unfold CB at hd;rw[ho]at hd;exact Nat.blt_eq.mp hd
   show AG _ _ _ (Ab.get ((k,d)::s.env) t) ((a.tmps.setIfInBounds k v).getD t undef);rw[Gk,AT,DE]
   by_cases hkt:k=t
   ·subst hkt;rw[AM rfl,AM rfl,AM hk];exact hv
   ·rw[AN hkt,AN hkt,<-AT];exact(h.env t).mono x
 ·cases ho:o.dst<;>simp[Act.put,h.nt]
 ·cases ho:o.dst<;>simp[Act.put,h.dfr]
def Gt (C:AZ)(F:AI)(K:St->Prop):Exit->Act->World->Prop:=λe a' w'=>e=.normal/\∃s' ρ',K s'/\Aw C F ρ' s' a' w'
def AR (C:AZ)(F:AI)(ops:Array Oper)(os:List Oper)(s:St)(K:St->Prop):Prop:=
 os.all (CB F.nt)=true->∀(l:List Nat),l.map (ops[·]?)=os.map some->∀ρ a w,Aw C F ρ s a w->wpOps C.P ops (Gt C F K) l a w
theorem Q4 {Q:Exit->St->Prop}:∀(l:List Nat) (a:Act) (w:World),wpOps C.P ops (Gt C F (Q .normal)) l a w->wpOps C.P ops (λe a' w'=>∃s' ρ',Q e s'/\Aw C F ρ' s' a' w') l a w:=by
  intro l
  induction l with
  |nil=>rintro a w ⟨_,s',ρ',hq,hs'⟩;exact⟨s',ρ',hq,hs'⟩
  |cons i l ih=>
   intro a w h;simp only[wpOps]at h⊢;cases ho:ops[i]? with
   |none=>simp only[ho]at h⊢;exact ih a w h
   |some o=>
    simp only[ho]at h⊢;split
    ·rename_i hw
     rw[AM hw]at h;rcases h with h|⟨_,⟨a0,w0,h0⟩⟩
     ·refine .inl ?_
      unfold Oper.wp Oper.upon at h⊢;split<;>rename_i hr<;>simp only[hr]at h
      ·exact ih _ _ h
      ·exact ih _ _ h
      ·exact ih _ _ h
      ·refine Calls.mono h λe w'' he=>?_
       cases e with
       |returned v=>exact ih _ _ he
       |panicked c=>cases he.1
       |outgrown=>obtain⟨a0,w0,h0⟩:=he;cases h0.1
      ·exact Rows.mono h λ_ _ he=>ih _ _ he
      ·cases h.1
     ·cases h0.1
    ·rename_i hw
     rw[AN hw]at h;exact ih _ _ h
theorem Ok.region {i:Nat}{Q:Exit->St->Prop}(h:AR C F ops ops.toList s (Q .normal)):Ok C F (.region i ops false) s Q:=by
 intro hd ρ a w hs;refine wp_region ?_
 have:=h hd (List.range ops.size) (by
  apply List.ext_getElem?;intro j;simp only[Bf]
  by_cases hj:j<ops.size
  ·rw[FZ hj];simp[hj]
  ·rw[Du (by simp;omega),Du (by simp;omega)];rfl) ρ a w hs
 exact Q4 _ _ _ this
theorem AR.nil (h:K s):AR C F ops [] s K:=λ_ l hl ρ a w hs=>by
 cases l with
 |nil=>exact⟨rfl,s,ρ,h,hs⟩
 |cons=>simp at hl
theorem AR.step {d:D}{H':Hp}{n':Nat}(hw:Am ops s.env o=some true)(hg:∀(ρ:Lk) (a:Act) (w:World),Aw C F ρ s a w ->
   ∃v ρ' w',((execOp a.eval o).run C.P w=.ok (.value v) w'\/((execOp a.eval o).run C.P w=.ok .skip w'/\v=undef))/\Le C F ρ s.H w 0 d H' n' v ρ' w'/\∀e∈H',e.g<n')
  (h:AR C F ops os ⟨Ak s.env o.dst d,H',n'⟩ K):AR C F ops (o::os) s K:=by
 intro hd l hl ρ a w hs;cases l with
 |nil=>simp at hl
 |cons i l=>
  simp only[BY,CZ]at hl;simp only[Db,Ag]at hd;obtain⟨v,ρ',w',hrun,hdid,hgen⟩:=hg ρ a w hs;simp only[wpOps,hl.1];rw[AM (FK hs.env hw)];refine .inl ?_;have next:=h hd.2 l hl.2 ρ' (a.put o.dst v) w' (hs.put hdid.mem hdid.ext hdid.fresh hgen hdid.rep hd.1);unfold Oper.wp;rcases hrun with hrun|⟨hrun,rfl⟩
  ·rw[hrun];exact next
  ·rw[hrun];exact next
theorem Le.pure {ρ:Lk}{w:World}{d:D}{v:Value}{a:Act}(hs:Aw C F ρ s a w)(h:AG ρ (AF F.X ρ s.H) w d v):Le C F ρ s.H w 0 d s.H (s.n+1) v ρ w:=
 ⟨hs.mem,.refl _ _ _,λk g hg=>hs.fresh k g (by omega),h⟩
theorem AR.p {tt:Nat->Option AL}(htt:A7 C.P tt){d:D}{p:Prop}(hw:Am ops s.env o=some true)(he:CG tt (AV s.env) o.op=some (d,p))(hp:p)
  (h:AR C F ops os ⟨Ak s.env o.dst d,s.H,s.n+1⟩ K):AR C F ops (o::os) s K:=
 AR.step hw (λρ a w hs=>by
  obtain⟨v,h1,h2⟩:=Ky (ρ:=ρ) (O:=AF F.X ρ s.H) (w:=w) htt (BN hs.env) he hp;exact⟨v,ρ,w,.inl h1,.pure hs h2,λe he=>BK (hs.gen e he)⟩) h
theorem Ri {tt:Nat->Option AL}{H:Hp}{n k:Nat}{g:Operand->D}{op:Op}{d:D}{e:AK}{p:Prop}(he:Cg tt H n k g op=some (d,some e,p)):e.g=n:=by
 unfold Cg at he
 (repeat' split at he)<;>first|(cases he;done)|(cases he;rfl)
theorem AR.skip (hw:Am ops s.env o=some false)(h:AR C F ops os ⟨Ak s.env o.dst (.prim (.tuple #[])),s.H,s.n+1⟩ K):AR C F ops (o::os) s K:=by
 intro hd l hl ρ a w hs;cases l with
 |nil=>simp at hl
 |cons i l=>
  simp only[BY,CZ]at hl;simp only[Db,Ag]at hd;simp only[wpOps,hl.1];rw[AN (by rw[FK hs.env hw];simp)];exact h hd.2 l hl.2 ρ (a.put o.dst undef) w (hs.put hs.mem (.refl _ _ _) (λk g hg=>hs.fresh k g (by omega)) (λe he=>BK (hs.gen e he)) (.prim _) hd.1)
end
inductive Fz (H Hf:Hp):D->D->Prop
 |refl (d:D):Fz H Hf d d
 |any (d:D):Fz H Hf d .any
 |nil (sz:Nat):Fz H Hf (.prim (.slice none 0 0)) (.sl false sz [])
 |nn (nn:Bool) (sz:Nat) (es:List D):Fz H Hf (.sl nn sz es) (.sl false sz es)
 |agg {ds ds':List D} (hl:ds.length=ds'.length) (h:∀(i:Nat) (d d':D),ds[i]?=some d->ds'[i]?=some d'->Fz H Hf d d'):Fz H Hf (.agg ds) (.agg ds')
 |tup {ds ds':List D} (hl:ds.length=ds'.length) (h:∀(i:Nat) (d d':D),ds[i]?=some d->ds'[i]?=some d'->Fz H Hf d d'):Fz H Hf (.tup ds) (.tup ds')
 |osl {k g sz i len:Nat} {e:AK} {es':List D} (he:Hp.get H k=some e) (hf:Hp.get Hf k=none) (hg:g=e.g) (hs:sz=e.sz) (hi:i+len<=e.es.length) (hl:es'.length=len)
   (hc:∀(j:Nat) (d d':D),e.es[i+j]?=some d->es'[j]?=some d'->d'.cells.length=d.cells.length)
   (h:∀(j:Nat) (d d':D) (q:Nat) (c c':D),e.es[i+j]?=some d->es'[j]?=some d'->d.cells[q]?=some c->d'.cells[q]?=some c'->Fz H Hf c c'):
   Fz H Hf (.osl k g sz i len) (.sl false sz es')
 |optr {k g sz i:Nat} {e:AK} {x x':D} (he:Hp.get H k=some e) (hf:Hp.get Hf k=none) (hg:g=e.g) (hs:sz=e.sz) (hz:e.sz≠0) (hx:e.es[i]?=some x) (hc:x'.cells.length=x.cells.length)
   (h:∀(q:Nat) (c c':D),x.cells[q]?=some c->x'.cells[q]?=some c'->Fz H Hf c c'):Fz H Hf (.optr k g sz i 0) (.pptr x')
 |clo {fn:Fn} {a a' c c':List D} (ha:a.length=a'.length) (hc:c.length=c'.length) (h1:∀(i:Nat) (d d':D),a[i]?=some d->a'[i]?=some d'->Fz H Hf d d')
   (h2:∀(i:Nat) (d d':D),c[i]?=some d->c'[i]?=some d'->Fz H Hf d d'):Fz H Hf (.clo fn a c) (.clo fn a' c')
 |omp {k g:Nat} {e:AK} {ks vs:List D} (he:Hp.get H k=some e) (hf:Hp.get Hf k=none) (hg:g=e.g) (hs:e.sz=0) (hT:e.T=0) (h1:ks.length=e.es.length) (h2:vs.length=e.es.length)
   (hk:∀(i:Nat) (d c c':D),e.es[i]?=some d->d.cells[0]?=some c->ks[i]?=some c'->Fz H Hf c c')
   (hv:∀(i:Nat) (d c c':D),e.es[i]?=some d->d.cells[1]?=some c->vs[i]?=some c'->Fz H Hf c c'):Fz H Hf (.omp k g) (.mp ks vs)
 |oxl {k g sz i len cap:Nat} {d':D} (h:Fz H Hf (.osl k g sz i len) d'):Fz H Hf (.oxl k g sz i len cap) d'
inductive Ci (H Hf:Hp):Hp->Hp->Prop
 |nil:Ci H Hf [] []
 |drop {e:AK} {r r':Hp} (h:Ci H Hf r r'):Ci H Hf (e::r) r'
 |keep {e:AK} {r r':Hp} (h:Ci H Hf r r'):Ci H Hf (e::r) (e::r')
 |turn {e:AK} {r r':Hp} {es':List D} (hl:es'.length=e.es.length)
   (hc:∀(j:Nat) (d d':D),e.es[j]?=some d->es'[j]?=some d'->d'.cells.length=d.cells.length)
   (hh:∀(j:Nat) (d d':D) (q:Nat) (c c':D),e.es[j]?=some d->es'[j]?=some d'->d.cells[q]?=some c->d'.cells[q]?=some c'->Fz H Hf c c')
   (h:Ci H Hf r r') (ht:e.sz=0->e.T=0:=by(intro h;first|(cases h;done)|exact rfl|omega)):Ci H Hf (e::r) (⟨e.k,e.g,e.T,e.sz,es'⟩::r')
section
variable {C:AZ} {F:AI} {ρ:Lk} {H:Hp} {w:World}
theorem UH:∀ {H:Hp} {k:Nat},Hp.get H k=none->∀e∈H,e.k≠k
 |e::r,k,h,e',he'=>by
  simp only[Hp.get]at h;cases hb:Nat.beq e.k k with
  |true=>simp[hb]at h
  |false=>
   simp[hb]at h;rcases Ah.1 he' with rfl|he'
   ·intro hk;rw[hk]at hb;simp at hb
   ·exact UH h e' he'
theorem Ci.names {Hf H1 H2:Hp}(h:Ci H Hf H1 H2):∀e∈H2,∃e'∈H1,e'.k=e.k/\e'.g=e.g/\e'.T=e.T/\e'.sz=e.sz:=by
 induction h with
 |nil=>simp
 |drop _ ih=>intro e he;obtain⟨e',h1,h2⟩:=ih e he;exact⟨e',by simp[h1],h2⟩
 |keep _ ih=>
  intro e he;rcases Ah.1 he with rfl|he
  ·exact⟨_,by simp,rfl,rfl,rfl,rfl⟩
  ·obtain⟨e',h1,h2⟩:=ih e he;exact⟨e',by simp[h1],h2⟩
 | @turn e0 r r' es' hl hc hh _ _ ih=>
  intro e he;rcases Ah.1 he with rfl|he
  ·exact⟨e0,by simp,rfl,rfl,rfl,rfl⟩
  ·obtain⟨e',h1,h2⟩:=ih e he;exact⟨e',by simp[h1],h2⟩
theorem Fz.rep {Hf:Hp}(m:AQ C F ρ H w)(hO:∀b,AF F.X ρ Hf b->AF F.X ρ H b)(hN:∀e∈H,∀b,ρ e.k e.g=some b->Hp.get Hf e.k=none->¬AF F.X ρ Hf b)
  {d d':D} (h:Fz H Hf d d'):∀ {v:Value},AG ρ (AF F.X ρ H) w d v->AG ρ (AF F.X ρ Hf) w d' v:=by
 induction h with
 |refl d=>intro v hv;exact hv.anti hO
 |any d=>intro v _;exact .any v
 |nil sz=>intro v hv;cases hv;exact .nil sz
 |nn nn sz es=>
  intro v hv;cases hv with
  |nil=>exact .nil sz
  |emp a=>exact .emp a
  |sl f hl hc hO' hb hz hcell ho hh=>exact .sl f hl hc (λh=>hO' (hO _ h)) hb hz hcell ho λi e j d a b=>(hh i e j d a b).anti hO
 |agg hl _ ih=>
  intro v hv;cases hv with
  |agg hn ho hh=>
   refine .agg (by omega) ho λi d' hd'=>?_
   have:i<_:=(Ay.1 hd').1
   exact ih i _ d' (B3) hd' (hh i _ (B3))
 |tup hl _ ih=>
  intro v hv;cases hv with
  |tup hn hh=>
   refine .tup (by omega) λi d' hd'=>?_
   have:i<_:=(Ay.1 hd').1
   exact ih i _ d' (B3) hd' (hh i _ (B3))
 | @osl k g sz i len e es' he hf hg hs hi hl hc hfz ih=>
  intro v hv;subst hg hs;obtain⟨hm,hk⟩:=Hp.get_mem he;cases hv with
  |onil=>
   have:es'=[]:=Hz hl
   subst this;exact .nil _
  |osl hr hb hcap hsz hmx=>
   rename_i cap b T cs fz;rw[<-hk]at hr;obtain⟨cs',h1,h2⟩:=m.atC hm hr hb;rw[hb]at h1;simp only[Af,Obj.cells.injEq]at h1;obtain⟨rfl,_,_⟩:=h1;have get:∀j (d':D),es'[j]?=some d'->∃d,e.es[i+j]?=some d:=λj d' hd'=>by
    have:j<es'.length:=(Ay.1 hd').1
    exact⟨_,B3⟩
   have hin:∀n,n<len*e.sz->i*e.sz+n<cs.size:=λn hn=>by
    have:(i+len)*e.sz<=e.es.length*e.sz:=Br _ hi
    rw[Ba]at this;have:=h2.len;omega
   refine .sl (λn=>cs.getD (i*e.sz+n) undef) hl hcap (hN e hm b hr (by rw[hk];exact hf)) (m.lt hm hr) (λj d' hd'=>?_) (λn hn=>?_) (λn hn=>?_) λj d' q c hd' hc'=>?_
   ·obtain⟨d,hd⟩:=get j d' hd'
    rw[hc j d d' hd hd'];exact h2.siz _ _ hd
   ·simp[World.cell?,hb,hin n hn]
   ·have:=h2.one _ _ (BF (hin n hn))
    simpa[AT,BF (hin n hn)]using this
   ·obtain⟨d,hd⟩:=get j d' hd'
    have hq:q<d'.cells.length:=(Ay.1 hc').1;have hcc:=hc j d d' hd hd';have hcd:d.cells[q]?=some d.cells[q]:=B3
    have:=h2.rep (i+j) d q _ hd hcd
    rw[Ba,Fw]at this;exact ih j d d' q _ c hd hd' hcd hc' this
 | @optr k g sz i e x x' he hf hg hs hz hx hc hfz ih=>
  intro v hv;subst hg hs;obtain⟨hm,hk⟩:=Hp.get_mem he;cases hv with
  |optr hr=>
   rename_i b;rw[<-hk]at hr;obtain⟨cs,h1,h2⟩:=m.at hm hr hz;have hsz:=h2.siz i x hx;have hin:∀n,n<x.cells.length->i*e.sz+n<cs.size:=λn hn=>by
    have:=h2.len
    have hi:i<e.es.length:=(Ay.1 hx).1;have q:(i+1)*e.sz<=e.es.length*e.sz:=Br _ hi;rw[Ba,Nat.one_mul]at q;omega
   refine .pptr (λn=>cs.getD (i*e.sz+n) undef) (hN e hm b hr (by rw[hk];exact hf)) (m.lt hm hr) (λn hn=>?_) (λn hn=>?_) λq c' hc'=>?_
   ·rw[hc]at hn
    simp[World.cell?,h1,hin n hn]
   ·rw[hc]at hn
    have:=h2.one _ _ (BF (hin n hn))
    simpa[AT,BF (hin n hn)]using this
   ·have hq:q<x.cells.length:=by rw[<-hc];exact(Ay.1 hc').1
    have hcq:x.cells[q]?=some (x.cells[q]):=BI hq;exact ih q _ c' hcq hc' (h2.rep i x q _ hx hcq)
 | @clo fn a a' c c' ha hc _ _ ih1 ih2=>
  intro v hv;cases hv with
  |clo hf1 hc1 r1 r2=>
   refine .clo (by omega) (by omega) (λi d' hd'=>?_) λi d' hd'=>?_
   ·have hi:i<a.length:=by rw[ha];exact(Ay.1 hd').1
    exact ih1 i _ d' (BI hi) hd' (r1 i _ (BI hi))
   ·have hi:i<c.length:=by rw[hc];exact(Ay.1 hd').1
    exact ih2 i _ d' (BI hi) hd' (r2 i _ (BI hi))
 | @omp k g e ks vs he hf hg hs hT h1 h2 hk hv ihk ihv=>
  intro v hv';subst hg;obtain⟨hm,hkk⟩:=Hp.get_mem he;cases hv' with
  |omp hr=>
   rename_i b;rw[<-hkk]at hr;obtain⟨es,clock,a1,a2⟩:=m.atM hm hr hs hT;have get:∀i,i<e.es.length->∃d c c2,e.es[i]?=some d/\d.cells[0]?=some c/\d.cells[1]?=some c2:=λi hi=>by
    have hd:=BI hi;have hsz:=a2.siz i _ hd;exact⟨_,_,_,hd,B3,B3⟩
   refine .mp (hN e hm b hr (by rw[hkk];exact hf)) (m.lt hm hr) a1 (by rw[a2.len,h1]) (by rw[a2.len,h2]) a2.born (λi d' hd'=>?_) λi d' hd'=>?_
   ·obtain⟨d,c,c2,b1,b2,b3⟩:=get i (by have:=(Ay.1 hd').1;omega)
    exact ihk i d c d' b1 b2 hd' (a2.key i d c b1 b2)
   ·obtain⟨d,c,c2,b1,b2,b3⟩:=get i (by have:=(Ay.1 hd').1;omega)
    exact ihv i d c2 d' b1 b3 hd' (a2.val i d c2 b1 b3)
 |oxl _ ih=>exact λhv=>ih hv.wk
theorem Ci.mem {Hf:Hp}(m:AQ C F ρ H w)(h:Ci H Hf H Hf):AQ C F ρ Hf w/\(∀b,AF F.X ρ Hf b->AF F.X ρ H b) /\
  ∀e∈H,∀b,ρ e.k e.g=some b->Hp.get Hf e.k=none->¬AF F.X ρ Hf b:=by
 have hO:∀b,AF F.X ρ Hf b->AF F.X ρ H b:=λb hb=>hb.imp id λ⟨e,he,hb⟩=>by
  obtain⟨e',h1,h2,h3,_⟩:=h.names e he;exact⟨e',h1,by rw[h2,h3];exact hb⟩
 have hN:∀e∈H,∀b,ρ e.k e.g=some b->Hp.get Hf e.k=none->¬AF F.X ρ Hf b:=by
  rintro e he b hb hn (hx|⟨e2,he2,hb2⟩)
  ·exact(m.hok.own e he b hb).1 hx
  ·obtain⟨e3,h1,h2,h3,_⟩:=h.names e2 he2
   have hne:e3.k≠e.k:=by rw[h2];exact UH hn e2 he2
   have hp:=m.hok.inj
   have:e≠e3:=λh=>hne (by rw[h])
   rw[<-h2,<-h3]at hb2;rcases List.pairwise_iff_getElem.1 hp with hp;obtain⟨i,hi,rfl⟩:=J4 he;obtain⟨j,hj,rfl⟩:=J4 h1;rcases Nat.lt_trichotomy i j with hij|rfl|hij
   ·exact hp i j hi hj hij b b hb hb2 rfl
   ·exact this rfl
   ·exact hp j i hj hi hij b b hb2 hb rfl
 refine⟨⟨⟨?_,?_,?_⟩,m.os,m.tape,m.output,m.size,m.blk,m.xlt,m.g0,m.gn,m.gw,m.lnk,m.shp⟩,hO,hN⟩
 ·have gen:∀ {H1 H2:Hp},Ci H Hf H1 H2->(∀e∈H1,e∈H)->∀e∈H2,(e.es=[]/\ρ e.k e.g=none)\/∃b o,ρ e.k e.g=some b/\w.heap[b]?=some o/\C9 ρ (AF F.X ρ Hf) w e o:=by
   intro H1 H2 h
   induction h with
   |nil=>simp
   |drop _ ih=>intro hs;exact ih λe he=>hs e (by simp[he])
   |keep _ ih=>
    intro hs e he;rcases Ah.1 he with rfl|he
    ·rcases m.hok.ent e (hs e (by simp))with h|⟨b,cs,h1,h2,h3⟩
     ·exact .inl h
     ·exact .inr ⟨b,cs,h1,h2,h3.anti hO⟩
    ·exact ih (λe he=>hs e (by simp[he])) e he
   | @turn e0 r r' es' hl hc hh _ ht ih=>
    intro hs e he;rcases Ah.1 he with rfl|he
    ·rcases m.hok.ent e0 (hs e0 (by simp))with⟨h1,h2⟩|⟨b,cs,h1,h2,h3⟩
     ·left
      refine⟨?_,h2⟩;rw[h1]at hl;exact Hz (by simpa using hl)
     ·right
      have get:∀j (d':D),es'[j]?=some d'->∃d,e0.es[j]?=some d:=λj d' hd'=>by
       have:j<es'.length:=(Ay.1 hd').1
       exact⟨_,B3⟩
      refine⟨b,cs,h1,h2,?_⟩;rcases h3.cas with⟨cs1,rfl,r3,h3⟩|⟨es1,cl1,rfl,r1,r2,h3⟩|⟨bm,si,se,c0,rfl,r1,r2,h3⟩
      ·refine⟨rfl,rfl,r3,by rw[hl];exact h3.len,λi d' hd'=>?_,h3.one,λi d' q c hd' hc'=>?_⟩
       ·obtain⟨d,hd⟩:=get i d' hd'
        rw[hc i d d' hd hd'];exact h3.siz _ _ hd
       ·obtain⟨d,hd⟩:=get i d' hd'
        have hq:q<d'.cells.length:=(Ay.1 hc').1;have hcc:=hc i d d' hd hd';have hcd:d.cells[q]?=some d.cells[q]:=B3;exact(hh i d d' q _ c hd hd' hcd hc').rep m hO hN (h3.rep i d q _ hd hcd)
      ·refine⟨r1,r2,by rw[hl];exact h3.len,h3.born,λi d' hd'=>?_,λi d' c hd' hc'=>?_,λi d' c hd' hc'=>?_⟩
       ·obtain⟨d,hd⟩:=get i d' hd'
        rw[hc i d d' hd hd'];exact h3.siz _ _ hd
       ·obtain⟨d,hd⟩:=get i d' hd'
        have hcc:=hc i d d' hd hd';have hsz:=h3.siz _ _ hd;have hcd:d.cells[0]?=some d.cells[0]:=B3;exact(hh i d d' 0 _ c hd hd' hcd hc').rep m hO hN (h3.key i d _ hd hcd)
       ·obtain⟨d,hd⟩:=get i d' hd'
        have hcc:=hc i d d' hd hd';have hsz:=h3.siz _ _ hd;have hcd:d.cells[1]?=some d.cells[1]:=B3;exact(hh i d d' 1 _ c hd hd' hcd hc').rep m hO hN (h3.val i d _ hd hcd)
      ·rw[ht r1]at r2;cases r2
    ·exact ih (λe he=>hs e (by simp[he])) e he
  exact gen h λ_ h=>h
 ·have gen:∀ {H1 H2:Hp},Ci H Hf H1 H2->H1.Pairwise (λe e'=>∀b b',ρ e.k e.g=some b->ρ e'.k e'.g=some b'->b≠b')->H2.Pairwise (λe e'=>∀b b',ρ e.k e.g=some b->ρ e'.k e'.g=some b'->b≠b'):=by
   intro H1 H2 h
   induction h with
   |nil=>intro h;exact h
   |drop _ ih=>intro h;exact ih (D3.1 h).2
   |keep h0 ih=>
    intro h;obtain⟨p1,p2⟩:=D3.1 h;refine D3.2 ⟨λe2 he2 b b' hb hb'=>?_,ih p2⟩;obtain⟨e3,a1,a2,a3,_⟩:=h0.names e2 he2;exact p1 e3 a1 b b' hb (by rw[a2,a3];exact hb')
   |turn hl hc hh h0 _ ih=>
    intro h;obtain⟨p1,p2⟩:=D3.1 h;refine D3.2 ⟨λe2 he2 b b' hb hb'=>?_,ih p2⟩;obtain⟨e3,a1,a2,a3,_⟩:=h0.names e2 he2;exact p1 e3 a1 b b' hb (by rw[a2,a3];exact hb')
  exact gen h m.hok.inj
 ·intro e he b hb
  obtain⟨e',h1,h2,h3,_⟩:=h.names e he;exact m.hok.own e' h1 b (by rw[h2,h3];exact hb)
def Ih (H Hf:Hp)(env:Ab):Ab->Prop
 | []=>True
 |(t,d')::r=>Fz H Hf (env.get t) d'/\Ih H Hf env r
theorem Ih.get {Hf:Hp}{env:Ab}:∀ {env':Ab},Ih H Hf env env'->∀t,Fz H Hf (env.get t) (env'.get t)
 | [],_,t=>.any _
 |(k,d')::r,h,t=>by
  rw[Gk]
  by_cases hk:k=t
  ·subst hk;rw[AM rfl];exact h.1
  ·rw[AN hk];exact Ih.get h.2 t
theorem Aw.weak {s:St}{a:Act}{env':Ab}{Hf:Hp}{n':Nat}(hs:Aw C F ρ s a w)(h:Ci s.H Hf s.H Hf)(he:Ih s.H Hf s.env env')(hn:s.n<=n'):Aw C F ρ ⟨env',Hf,n'⟩ a w:=by
 obtain⟨m,hO,hN⟩:=h.mem hs.mem;refine⟨m,λk g hg=>hs.fresh k g (Az hn hg),λe he'=>?_,λt=>(he.get t).rep hs.mem hO hN (hs.env t),hs.nt,hs.dfr⟩;obtain⟨e2,h1,h2,h3,_⟩:=h.names e he'
 have:=hs.gen e2 h1
 exact CU (by omega) hn
end
class AB (d:D):Prop where
 out:BX d
class AS (l:List D):Prop where
 out:∀d∈l,BX d
class Aj (d:D):Prop where
 out:∀c∈d.cells,BX c
instance  (v:Value):AB (.prim v):=⟨.prim v⟩
instance:AB .any:=⟨.any⟩
instance  (l:List D)[h:AS l]:AB (.agg l):=⟨.agg h.out⟩
instance  (l:List D)[h:AS l]:AB (.tup l):=⟨.tup h.out⟩
instance  (fn:Fn)(a b:List D)[h:AS a][k:AS b]:AB (.clo fn a b):=⟨.clo h.out k.out⟩
instance  (t:Nat)(d:D)[h:AB d]:AB (.ifc t d):=⟨.ifc h.out⟩
instance  (a b:List D)[h:AS a][k:AS b]:AB (.mp a b):=⟨.mp h.out k.out⟩
instance  (d:D)[h:Aj d]:AB (.pptr d):=⟨.pptr h.out⟩
instance:AS []:=⟨by simp⟩
instance  (d:D)(l:List D)[h:AB d][k:AS l]:AS (d::l):=⟨λx hx=>by
 rcases Ah.1 hx with rfl|hx
 ·exact h.out
 ·exact k.out x hx⟩
instance  (a b:List D)[h:AS a][k:AS b]:AS (a++b):=⟨λx hx=>(BR.1 hx).elim (h.out x) (k.out x)⟩
instance  (v:Value):Aj (.prim v):=⟨λc hc=>by simp[D.cells]at hc;subst hc;exact .prim v⟩
instance  (l:List D)[h:AS l]:Aj (.agg l):=⟨λc hc=>h.out c hc⟩
instance  (nn:Bool)(sz:Nat)(es:List D)[h:AB (.sl nn sz es)]:Aj (.sl nn sz es):=⟨λc hc=>by simp[D.cells]at hc;subst hc;exact h.out⟩
class AC (l:List D):Prop where
 out:∀e∈l,∀c∈e.cells,BX c
instance:AC []:=⟨by simp⟩
instance  (d:D)(l:List D)[h:Aj d][k:AC l]:AC (d::l):=⟨λx hx=>by
 rcases Ah.1 hx with rfl|hx
 ·exact h.out
 ·exact k.out x hx⟩
instance  {α:Type}(f:α->D)(l:List α)[h:∀x,Aj (f x)]:AC (l.map f):=⟨λe he=>by
 obtain⟨x,_,rfl⟩:=Bw.1 he;exact(h x).out⟩
instance  (a b:List D)[h:AC a][k:AC b]:AC (a++b):=⟨λx hx=>(BR.1 hx).elim (h.out x) (k.out x)⟩
instance  (nn:Bool)(sz:Nat)(es:List D)[h:AC es]:AB (.sl nn sz es):=⟨.sl h.out⟩
def nol:Lk:=λ_ _=>none
theorem AG.nol {ρ:Lk}{O:Nat->Prop}{w:World}{d:D}{v:Value}(h:AG nol O w d v):AG ρ O w d v:=by
 induction h with
 |any v=>exact .any v
 |prim v=>exact .prim v
 |agg hn ho _ ih=>exact .agg hn ho ih
 |tup hn _ ih=>exact .tup hn ih
 |nil sz=>exact .nil sz
 |onil k g sz=>exact .onil k g sz
 |emp a=>exact .emp a
 |mp hO hr hb h1 h2 hB _ _ ih1 ih2=>exact .mp hO hr hb h1 h2 hB ih1 ih2
 |sl f hl hc hO hb hz hcell ho _ ih=>exact .sl f hl hc hO hb hz hcell ho ih
 |pptr f hO hb hcell ho _ ih=>exact .pptr f hO hb hcell ho ih
 |osl hr=>cases hr
 |optr hr=>cases hr
 |omp hr=>cases hr
 |oxl hr=>cases hr
 |oyl hr=>cases hr
 |clo hf hc _ _ ih1 ih2=>exact .clo hf hc ih1 ih2
 |gd _ h2 ih=>exact .gd ih h2
 |ifc _ ih=>exact .ifc ih
def GY (P:Program) (f:Nat):Prop:=∃fn c,P.funcs[f]?=some fn/\fn.body=some c/\(fn.name == "runtime.NumGoroutine")=false
def Ax (C:AZ)(f:Nat)(args:List D)(Φ:D->Prop):Prop:=
 GY C.P f/\∀(X:Nat->Prop) (w:World) (vs:Array Value),C.G w->C.nG<=w.heap.size->(∀b,X b->b<w.heap.size)->vs.size=args.length ->
  (∀(i:Nat) (d:D),args[i]?=some d->AG nol X w d (vs.getD i undef)) ->
  Calls C.P f vs w (λe w'=>∃v d,e=.returned v/\Below w.heap.size w w'/\Φ d/\AG nol X w' d v)
def Aa (C:AZ)(f:Nat)(args:List D)(d:D):Prop:=Ax C f args (· = d)
section
variable {C:AZ} {F:AI} {s:St} {ops:Array Oper} {o:Oper} {os:List Oper} {K:St->Prop}
theorem Ns {f:Nat}(h:GY C.P f)(vs:Array Value)(w:World):(callFunc f vs).run C.P w=.ok (.enter f vs) w:=by
 obtain⟨fn,c,h1,h2,h3⟩:=h;unfold callFunc;rw[run_bind,Li];dsimp only;simp only[h1];rw[AN (by simp[h3]),AN (by simp[h2])];rfl
theorem Ph {f:Nat}{Φ:D->Prop}(hw:Am ops s.env o=some true)
  (hrun:∀(ρ:Lk) (a:Act) (w:World),Aw C F ρ s a w->∃vs,(execOp a.eval o).run C.P w=.ok (.enter f vs) w /\
   Calls C.P f vs w (λe w'=>∃v d,e=.returned v/\Below w.heap.size w w'/\Φ d/\AG ρ (AF F.X ρ s.H) w' d v))
  (h:∀d,Φ d->AR C F ops os ⟨Ak s.env o.dst d,s.H,s.n+1⟩ K):AR C F ops (o::os) s K:=by
 intro hd l hl ρ a w hs;cases l with
 |nil=>simp at hl
 |cons i l=>
  simp only[BY,CZ]at hl;simp only[Db,Ag]at hd;obtain⟨vs,h1,h2⟩:=hrun ρ a w hs;simp only[wpOps,hl.1];rw[AM (FK hs.env hw)];refine .inl ?_;unfold Oper.wp;rw[h1];refine h2.mono ?_;rintro e w' ⟨v,d,rfl,hb,hΦ,hr⟩;have x:Ao ρ (AF F.X ρ s.H) w ρ (AF F.X ρ s.H) w':=⟨hb.size,λ_ _ _ h=>h,λb hb' hO=>⟨hO,hb.block b hb'⟩,λb cs T fz hh=>⟨cs,_,by
   rw[hb.block b (Bo.1 hh).1];exact hh,rfl⟩⟩
  exact h d hΦ hd.2 l hl.2 ρ (a.put o.dst v) w' (hs.put (hs.mem.same x hb.os hb.tape hb.output hb.block) x (λk g hg=>hs.fresh k g (by omega)) (λe he=>BK (hs.gen e he)) hr hd.1)
theorem IH {f:Nat}{g:Operand->D}{O:Nat->Prop}{first captured:List D}{fop:Operand}{args:Array Operand}{tys:Array Nat}{ρ:Lk}{a:Act}{w:World}(ho:o.op=.call ⟨.value fop,args,tys⟩)
  (hf:g fop=.clo (.func f) first captured) (hcall:GY C.P f) (hg:∀x,AG ρ O w (g x) (a.eval x)):
  ∃vs,(execOp a.eval o).run C.P w=.ok (.enter f vs) w/\vs.size=(first++args.toList.map g++captured).length /\
   ∀(i:Nat) (d:D),(first++args.toList.map g++captured)[i]?=some d->AG ρ O w d (vs.getD i undef):=by
 have hfr:=hg fop;rw[hf]at hfr;generalize hv:a.eval fop=v at hfr;cases hfr with
 |clo hn hc h1 h2=>
  rename_i fs cs;refine⟨fs++args.map a.eval++cs,?_,by simp[hn,hc],λi d hd=>?_⟩
  ·unfold execOp
   simp only[ho];rw[run_bind]
   have:(resolve a.eval ⟨.value fop,args,tys⟩ o.type).run C.P w=.ok { target:=.fn (.func f) cs,args:=fs++args.map a.eval } w:=by
    unfold resolve;simp only[hv];rfl
   rw[this];dsimp only;unfold invoke;exact Ns hcall _ w
  ·rw[Cr]at hd
   rcases Aq i first.length with hi|hi
   ·rw[CT hi]at hd
    have:(fs++args.map a.eval++cs).getD i undef=fs.getD i undef:=by
     simp only[AT];rw[Iz,D5 (by omega)]
    rw[this];exact h1 i d hd
   ·rw[B8 hi]at hd
    rcases Aq (i-first.length) args.size with hj|hj
    ·rw[CT (by simpa using hj)]at hd
     simp at hd;obtain⟨x,hx,rfl⟩:=hd
     have:(fs++args.map a.eval++cs).getD i undef=a.eval x:=by
      simp only[AT];rw[Iz,D4 (by omega),D5 (by simp;omega),hn];simp[hx]
     rw[this];exact hg x
    ·rw[B8 (by simpa using hj)]at hd
     have:(fs++args.map a.eval++cs).getD i undef=cs.getD (i-first.length-args.size) undef:=by
      simp only[AT];rw[Iz,D4 (by omega),D4 (by simp;omega),hn];simp
     rw[this];exact h2 _ d (by simpa using hd)
theorem P7 {f:Nat}{first captured:List D}{fop:Operand}{args:Array Operand}{tys:Array Nat}{ρ:Lk}{a:Act}{w:World}(ho:o.op=.call ⟨.value fop,args,tys⟩)
  (hf:AV s.env fop=.clo (.func f) first captured) (hcall:GY C.P f) (hs:Aw C F ρ s a w):
  ∃vs,(execOp a.eval o).run C.P w=.ok (.enter f vs) w/\vs.size=(first++args.toList.map (AV s.env)++captured).length /\
   ∀(i:Nat) (d:D),(first++args.toList.map (AV s.env)++captured)[i]?=some d->AG ρ (AF F.X ρ s.H) w d (vs.getD i undef):=
 IH ho hf hcall (BN hs.env)
def Cw (d:D):Prop:=∀(ρ ρ':Lk) (O O':Nat->Prop) (w w':World) (v:Value),AG ρ O w d v->AG ρ' O' w' d v
theorem Cw.prim (v:Value):Cw (.prim v):=λ_ _ _ _ _ _ _ h=>by cases h;exact .prim v
theorem Cw.tup {l:List D}(h:∀d∈l,Cw d):Cw (.tup l):=λ_ _ _ _ _ _ _ hr=>by
 cases hr with|tup hn hh=>exact .tup hn λi d hd=>h d (Bh hd) _ _ _ _ _ _ _ (hh i d hd)
def EL (H Hf:Hp):List D->List D->Prop
 | [],[]=>True
 |d::l,d'::l'=>Fz H Hf d d'/\EL H Hf l l'
 |_,_=>False
theorem EL.spec {H Hf:Hp}:∀ {l l':List D},EL H Hf l l'->l.length=l'.length/\∀(i:Nat) (d d':D),l[i]?=some d->l'[i]?=some d'->Fz H Hf d d'
 | [],[],_=>by simp
 |d::l,d'::l',h=>by
  obtain⟨h1,h2⟩:=EL.spec h.2;refine⟨by simp[h1],λi a b ha hb=>?_⟩;cases i with
  |zero=>simp at ha hb;subst ha hb;exact h.1
  |succ i=>exact h2 i a b (by simpa using ha) (by simpa using hb)
 | [],_::_,h=>h.elim
 |_::_,[],h=>h.elim
def G6 (tt:Nat->Option AL)(s:St):ResultVar->Option (D×Prop)
 | .tmp t=>some (s.env.get t,True)
 | .cell a t=>match Cg tt s.H 0 0 (λ_=>s.env.get a) (.load t (.tmp 0))with
  |some (d,none,p)=>some (d,p)
  |_=>none
def Fl (tt:Nat->Option AL)(s:St):List ResultVar->Option (List D×Prop)
 | []=>some ([],True)
 |r::rs=>match G6 tt s r with
  |some (d,p)=>match Fl tt s rs with
   |some (l,q)=>some (d::l,p/\q)
   |none=>none
  |none=>none
def FA (tt:Nat->Option AL)(s:St)(rs:List ResultVar):Option (D×Prop):=match Fl tt s rs with
 |some ([d],p)=>some (d,p)
 |some (l,p)=>some (.tup l,p)
 |none=>none
def gh (tt:Nat->Option AL)(rs:List ResultVar)(Φ:D->Prop):Exit->St->Prop:=λe s=>
 (e=.normal\/e=.ret)/\∃d0 p,FA tt s rs=some (d0,p)/\p/\∃d,Fz s.H [] d0 d/\BX d/\Φ d
def Ck:Nat->List D->Ab
 |_,[]=>[]
 |i,d::l=>(i,d)::Ck (i+1) l
theorem Ny:∀(l:List D) (i t:Nat),(Ck i l).get t=if i<=t then(l[t-i]?).getD .any else .any
 | [],i,t=>by simp[Ck,Ab.get]
 |d::l,i,t=>by
  simp only[Ck];rw[Gk,Ny l (i+1) t]
  by_cases h:i=t
  ·subst h;simp
  ·rw[AN h]
   by_cases h2:i+1<=t
   ·rw[AM h2,DK,show t-i=(t-(i+1))+1 from by omega,LW]
   ·rw[AN h2,BU]
end
section
variable {C:AZ} {F:AI} {s:St} {ops:Array Oper} {o:Oper} {os:List Oper} {K:St->Prop}
theorem QT {α:Type}{P:Program}{w:World}(f:α->Sem Value):∀(l:List α) (vs:List Value),vs.length=l.length->(∀(i:Nat) (x:α) (v:Value),l[i]?=some x->vs[i]?=some v->(f x).run P w=.ok v w) ->
  (l.mapM f).run P w=.ok vs w
 | [],[],_,_=>by rw[List.mapM_nil];rfl
 |x::l,v::vs,hl,h=>by
  rw[List.mapM_cons,run_bind,h 0 x v rfl rfl];dsimp only;rw[run_bind,QT f l vs (by simpa using hl) λi y u hy hu=>h (i+1) y u (by simpa using hy) (by simpa using hu)];rfl
 | [],_::_,hl,_=>by simp at hl
 |_::_,[],hl,_=>by simp at hl
theorem Vv {tt:Nat->Option AL}(htt:A7 C.P tt){ρ:Lk}{a:Act}{w:World}(hs:Aw C F ρ s a w){r:ResultVar}{d:D}{p:Prop}(h:G6 tt s r=some (d,p))(hp:p):
  ∃v,(match r with | .tmp t=>pure (a.tmps.getD t undef) | .cell b t=>do loadVar t (<-asAddr (a.tmps.getD b undef)):Sem Value).run C.P w=.ok v w/\AG ρ (AF F.X ρ s.H) w d v:=by
 cases r with
 |tmp t=>
  simp only[G6,Af,Au]at h;obtain⟨rfl,rfl⟩:=h;exact⟨_,rfl,hs.env t⟩
 |cell b t=>
  simp only[G6]at h;split at h<;>try(cases h;done)
  rename_i d' q he;simp only[Af,Au]at h;obtain⟨rfl,rfl⟩:=h;have hb:=hs.env b;simp only[Cg]at he;cases hi:tt t with
  |none=>simp[hi]at he
  |some i=>
   simp only[hi]at he;have ht:=htt _ _ hi;have fin:∀v,a.tmps.getD b undef=v->(∃A,v=.pointer (some A))->(∃u,(Instr.loadAt t v).run C.P w=.ok u w/\AG ρ (AF F.X ρ s.H) w d' u) ->
     ∃v,(do loadVar t (<-asAddr (a.tmps.getD b undef)):Sem Value).run C.P w=.ok v w/\AG ρ (AF F.X ρ s.H) w d' v:=by
    rintro v hv ⟨A,rfl⟩ ⟨u,h1,h2⟩;refine⟨u,?_,h2⟩;rw[hv,run_bind];show(loadVar t A).run C.P w=_;unfold Instr.loadAt at h1;rw[run_bind,KM]at h1;exact h1
   split at he<;>try(cases he;done)
   ·rename_i k' gg sz j off hgx
    rw[hgx]at hb;split at he<;>try(cases he;done)
    rename_i e he1;split at he<;>try(cases he;done)
    rename_i d1 hd1;split at he<;>try(cases he;done)
    rename_i d2 hd2;simp only[Af,Au]at he;obtain⟨rfl,_,rfl⟩:=he;refine fin _ rfl (by generalize a.tmps.getD b undef=v at hb;cases hb;exact⟨_,rfl⟩) (RE hs.mem ht (Hp.get_mem he1).1 (Hp.get_mem he1).2 hd1 hd2 hp.1 hp.2.1 (Gi (Jm hp.2.2).1) (λha=>?_) hb)
    have:=(Jm hp.2.2).2
    rw[ha]at this;exact BD this
   ·rename_i d1 hgx
    rw[hgx]at hb;split at he
    ·rename_i ha
     split at he<;>try(cases he;done)
     rename_i ds;simp only[Af,Au]at he;obtain⟨rfl,_,rfl⟩:=he;exact fin _ rfl (by generalize a.tmps.getD b undef=v at hb;cases hb;exact⟨_,rfl⟩) (Lr ht (λ_=>⟨ds,rfl,Ae hp⟩) (λh'=>by rw[ha]at h';cases h') hb)
    ·rename_i ha
     simp only[Af,Au]at he;obtain⟨rfl,_,rfl⟩:=he;exact fin _ rfl (by generalize a.tmps.getD b undef=v at hb;cases hb;exact⟨_,rfl⟩) (Lr ht (λh'=>by rw[ha]at h';cases h') (λ_=>hp) hb)
theorem Qw {tt:Nat->Option AL}(htt:A7 C.P tt){ρ:Lk}{a:Act}{w:World}(hs:Aw C F ρ s a w):∀ {rs:List ResultVar} {l:List D} {p:Prop},Fl tt s rs=some (l,p)->p ->
  ∃vs:List Value,vs.length=rs.length/\l.length=rs.length/\(∀(i:Nat) (r:ResultVar) (v:Value),rs[i]?=some r->vs[i]?=some v ->
   (match r with | .tmp t=>pure (a.tmps.getD t undef) | .cell b t=>do loadVar t (<-asAddr (a.tmps.getD b undef)):Sem Value).run C.P w=.ok v w) /\
   ∀(i:Nat) (d:D),l[i]?=some d->AG ρ (AF F.X ρ s.H) w d (vs.getD i undef)
 | [],l,p,h,hp=>by
  simp only[Fl,Af,Au]at h;obtain⟨rfl,rfl⟩:=h;exact⟨[],rfl,rfl,by simp,by simp⟩
 |r::rs,l,p,h,hp=>by
  simp only[Fl]at h;split at h<;>try(cases h;done)
  rename_i d q h1;split at h<;>try(cases h;done)
  rename_i l' q' h2;simp only[Af,Au]at h;obtain⟨rfl,rfl⟩:=h;obtain⟨v,a1,a2⟩:=Vv htt hs h1 hp.1;obtain⟨vs,b1,b2,b3,b4⟩:=Qw htt hs h2 hp.2;refine⟨v::vs,by simp[b1],by simp[b2],λi r' v' hr hv=>?_,λi d' hd=>?_⟩
  ·cases i with
   |zero=>simp at hr hv;subst hr hv;exact a1
   |succ i=>exact b3 i r' v' (by simpa using hr) (by simpa using hv)
  ·cases i with
   |zero=>simp at hd;subst hd;exact a2
   |succ i=>simpa using b4 i d' (by simpa using hd)
theorem Oq {tt:Nat->Option AL}(htt:A7 C.P tt){ρ:Lk}{a:Act}{w:World}(hs:Aw C F ρ s a w){fn:Func}{d:D}{p:Prop}(h:FA tt s fn.results.toList=some (d,p))(hp:p):
  ∃v,(results fn a.tmps).run C.P w=.ok v w/\AG ρ (AF F.X ρ s.H) w d v:=by
 unfold FA at h;have fin:∀(l:List D) (q:Prop),Fl tt s fn.results.toList=some (l,q)->q->∃vs:List Value,vs.length=l.length/\(∀(i:Nat) (d:D),l[i]?=some d->AG ρ (AF F.X ρ s.H) w d (vs.getD i undef)) /\
   (results fn a.tmps).run C.P w=.ok (if h:vs.length=1 then vs[0]else .tuple vs.toArray) w:=by
  intro l q hr hq;obtain⟨vs,b1,b2,b3,b4⟩:=Qw htt hs hr hq;refine⟨vs,by omega,b4,?_⟩;unfold results;rw[run_bind,Array.mapM_eq_mapM_toList];have hm:=QT (P:=C.P) (w:=w) (λr:ResultVar=>(match r with | .tmp t=>pure (a.tmps.getD t undef) | .cell b t=>do loadVar t (<-asAddr (a.tmps.getD b undef)):Sem Value)) fn.results.toList vs b1 b3;rw[map_eq_pure_bind,run_bind]
  erw [hm]
  dsimp only;rw[run_pure];dsimp only;rw[run_pure]
  congr 1
 split at h<;>try(cases h;done)
 ·rename_i d' p' hr
  simp only[Af,Au]at h;obtain⟨rfl,rfl⟩:=h;obtain⟨vs,c1,c2,c3⟩:=fin _ _ hr hp
  match vs,c1 with
  | [v],_=>exact⟨v,c3,by simpa using c2 0 _ rfl⟩
 ·rename_i l p' hne hr
  simp only[Af,Au]at h;obtain⟨rfl,rfl⟩:=h;obtain⟨vs,c1,c2,c3⟩:=fin _ _ hr hp;refine⟨_,c3,?_⟩;rw[dif_neg]
  ·exact .tup (by simp[c1]) λi d hd=>by simpa using c2 i d hd
  ·intro h1
   match l,c1 with
   | [d'],_=>exact hne d' rfl
   | [],h0=>simp at h0;rw[h0]at h1;simp at h1
   |_::_::_,h0=>simp at h0;omega
theorem Ax.intro {f:Nat}{fn:Func}{c:Code}{args:List D}{Φ:D->Prop}{tt:Nat->Option AL}(htt:A7 C.P tt)(hf:C.P.funcs[f]?=some fn)(hb:fn.body=some c)
  (hn:(fn.name == "runtime.NumGoroutine")=false) (hd:B6 fn.ntmps c=true) (hnt:Nat.ble args.length fn.ntmps=true)
  (h:∀F:AI,Ok C F c ⟨Ck 0 args,[],0⟩ (gh tt fn.results.toList Φ)):Ax C f args Φ:=by
 refine⟨⟨fn,c,hf,hb,hn⟩,λX w vs hG hnG hX hvs hr=>?_⟩;have hnt:=BD hnt;refine calls_of_wp hf hb ?_;have hown:∀b,AF X nol [] b↔X b:=by simp[AF]
 have hoe:AF X nol []=X:=funext λb=>propext (hown b)
 have sat:Aw C ⟨w,X,λ_=>False,fn.ntmps,nol,[]⟩ nol ⟨Ck 0 args,[],0⟩ { tmps:=vs++Array.replicate (fn.ntmps-vs.size) undef,defers:=[] } w:=by
  refine⟨⟨⟨by simp,.nil,by simp⟩,rfl,rfl,rfl,Ad _,λ_ _ _=>rfl,hX,hG,hnG,by simp,λ_ _ _ h=>h,λ_ cs _ _ h=>⟨cs,_,h,rfl⟩⟩,λ_ _ _=>rfl,by simp,λt=>?_,by simp;omega,rfl⟩;dsimp only;rw[hoe,Ny,AM (Bu _),Nat.sub_zero];cases ha:args[t]? with
  |none=>exact .any _
  |some d=>
   have ht:t<args.length:=(Ay.1 ha).1
   have:(vs++Array.replicate (fn.ntmps-vs.size) undef).getD t undef=vs.getD t undef:=by
    simp only[AT];rw[D5 (by omega)]
   rw[this];exact hr t d ha
 refine wp_mono (h ⟨w,X,λ_=>False,fn.ntmps,nol,[]⟩ hd nol _ w sat) ?_;rintro e a' w' ⟨s',ρ',⟨he,d0,p,h1,h2,d,h3,h4,h5⟩,hs'⟩;obtain⟨v,r1,r2⟩:=Oq htt hs' h1 h2;have hH:Ci s'.H [] s'.H []:=by
  generalize s'.H=H0
  have:∀H1:Hp,Ci H0 [] H1 []:=λH1=>by
   induction H1 with
   |nil=>exact .nil
   |cons e r ih=>exact .drop ih
  exact this H0
 obtain⟨m,hO,hN⟩:=hH.mem hs'.mem;have r3:=h3.rep hs'.mem hO hN r2;have hoe':AF X ρ' []=X:=funext λb=>propext (by simp[AF])
 have r4:AG nol X w' d v:=by
  have:=h4 _ nol _ _ _ r3
  rwa [hoe']at this
 have bel:Below w.heap.size w w':=⟨hs'.mem.os,hs'.mem.tape,hs'.mem.output,hs'.mem.size,λb hb=>hs'.mem.blk b hb (by simp)⟩
 rcases he with rfl|rfl
 ·exact⟨hs'.dfr,v,r1,v,d,rfl,bel,h5,r4⟩
 ·exact⟨hs'.dfr,v,r1,v,d,rfl,bel,h5,r4⟩
end
def Hp.set:Hp->Nat->AK->Hp
 | [],_,_=>[]
 |e::r,k,e'=>match Nat.beq e.k k with
  |true=>e'::r
  |false=>e::Hp.set r k e'
def Hp.del:Hp->Nat->Hp
 | [],_=>[]
 |e::r,k=>match Nat.beq e.k k with
  |true=>r
  |false=>e::Hp.del r k
theorem GM:∀ {H:Hp} {k:Nat} {e:AK} (e':AK),Hp.get H k=some e->∃H1 H2,H=H1++e::H2/\Hp.set H k e'=H1++e'::H2/\Hp.del H k=H1++H2
 |e::r,k,e0,e',h=>by
  simp only[Hp.get]at h;cases hb:Nat.beq e.k k with
  |true=>simp[hb]at h;subst h;exact⟨[],r,rfl,by simp[Hp.set,hb],by simp[Hp.del,hb]⟩
  |false=>
   simp[hb]at h;obtain⟨H1,H2,h1,h2,h3⟩:=GM e' h;exact⟨e::H1,H2,by simp[h1],by simp[Hp.set,hb,h2],by simp[Hp.del,hb,h3]⟩
 | [],_,_,_,h=>by simp[Hp.get]at h
def EZ (i:AL)(off sz:Nat)(d y:D):D:=match off with
 | 0=>match Nat.beq i.sz sz with
  |true=>y
  |false=>.agg (Do d.cells 0 (Di i.ag y))
 |n+1=>.agg (Do d.cells (n+1) (Di i.ag y))
def DH (tt:Nat->Option AL)(H:Hp)(g:Operand->D):Op->Option (Nat×AK×Prop)
 | .store t x y=>match tt t with
  |some i=>match g x with
   | .optr k gg sz j off=>match Hp.get H k with
    |some e=>match e.es[j]? with
     |some d=>some (k,⟨e.k,e.g,e.T,e.sz,FQ e.es j (EZ i off sz d (g y))⟩,Cv i.ag i.sz (g y)/\gg=e.g/\sz=e.sz/\(bif Nat.ble 1 e.sz then Nat.ble (off+i.sz) e.sz else false)=true)
     |none=>none
    |none=>none
   |_=>none
  |none=>none
 |_=>none
section
variable {C:AZ} {F:AI} {s:St} {ops:Array Oper} {o:Oper} {os:List Oper} {K:St->Prop}
theorem Mb (v:Value):v.oneCell'=one v:=by cases v<;>rfl
theorem Lx {w:World}{b:Nat}{cs cs':Array Value}{T:Nat}(h:w.heap[b]?=some (.cells cs T (0,0))):w.setRow b cs'=World.setBlk w b cs' T:=by
 have hb:b<w.heap.size:=(Bo.1 h).1;unfold World.setRow World.setBlk;cases w with
 |mk heap tape drawn os output=>
  congr 1
  apply Array.ext_getElem?;intro i;dsimp only at h hb;rw[Array.getElem?_modify,DE]
  by_cases hi:b=i
  ·subst hi;rw[AM rfl,AM rfl,AM hb,h];rfl
  ·rw[AN hi,AN hi]
theorem Q0 {ρ:Lk}{w:World}{tt:Nat->Option AL}{g:Operand->D}{ev:Operand->Value}{k:Nat}{e':AK}{p:Prop}(htt:A7 C.P tt)(m:AQ C F ρ s.H w)(hg:∀x,AG ρ (AF F.X ρ s.H) w (g x) (ev x))
  (h:DH tt s.H g o.op=some (k,e',p)) (hp:p):
  ∃w',(execOp ev o).run C.P w=.ok .skip w'/\AQ C F ρ (Hp.set s.H k e') w'/\Ao ρ (AF F.X ρ s.H) w ρ (AF F.X ρ (Hp.set s.H k e')) w'/\∀e∈Hp.set s.H k e',∃e2∈s.H,e2.g=e.g:=by
 unfold DH at h;split at h<;>try(cases h;done)
 rename_i t x y ho;cases hi:tt t with
 |none=>simp[hi]at h
 |some i=>
  simp only[hi]at h;split at h<;>try(cases h;done)
  rename_i k' gg sz j off hgx;split at h<;>try(cases h;done)
  rename_i e he;split at h<;>try(cases h;done)
  rename_i d hd;simp only[Af,Au]at h;obtain⟨rfl,rfl,rfl⟩:=h;obtain⟨hfit,rfl,rfl,hle⟩:=hp;have hz1:=Gi (Jm hle).1;have hle:=BD (Jm hle).2;have hx:=hg x;rw[hgx]at hx;generalize hv:ev x=v at hx;obtain⟨hm,hk⟩:=Hp.get_mem he;obtain⟨H1,H2,q1,q2,q3⟩:=GM (⟨e.k,e.g,e.T,e.sz,FQ e.es j (EZ i off e.sz d (g y))⟩:AK) he;cases hx with
  |optr hr=>
   rename_i b;rw[<-hk]at hr;obtain⟨cs,h1,h2⟩:=m.at hm hr hz1;obtain⟨f1,f2,f3,f4,f5⟩:=hfit _ _ _ _ (hg y);have hdl:=h2.siz j d hd;have hjl:j<e.es.length:=(Ay.1 hd).1;have hrow:j*e.sz+e.sz<=cs.size:=by
    have:(j+1)*e.sz<=e.es.length*e.sz:=Br _ hjl
    rw[Ba]at this;have:=h2.len;omega
   have hyl:(ev y).cells.toList.length=i.sz:=by simpa using f1
   have run:=run_storeCells_at C.P b (j*e.sz+off) e.T (ev y).cells.toList 0 cs w h1 (by simp[f1];omega) (λu hu=>by
    rw[Mb];obtain⟨q,hq,rfl⟩:=J4 hu;exact f2 q _ (by simp at hq;simp[hq]))
   simp only[Fc]at run;generalize hcs':(cs.toList.take (j*e.sz+off)++(ev y).cells.toList++cs.toList.drop (j*e.sz+off+(ev y).cells.toList.length)).toArray=cs' at run;have get:∀q,cs'[q]?=if j*e.sz+off<=q/\q<j*e.sz+off+i.sz then(ev y).cells[q-(j*e.sz+off)]? else cs[q]?:=λq=>by
    rw[<-hcs'];simp only[EI];rw[Cr];have hlt:(cs.toList.take (j*e.sz+off)).length=j*e.sz+off:=by simp;omega
    rcases Aq q (j*e.sz+off)with hq|hq
    ·rw[CT (by omega),BU,Cx,AM hq];simp
    ·rw[B8 (by omega),hlt]
     rcases Aq (q-(j*e.sz+off)) i.sz with hq2|hq2
     ·rw[CT (by omega),DK];simp
     ·rw[B8 (by omega),BU,hyl,Es]
      rw[show j*e.sz+off+i.sz+(q-(j*e.sz+off)-i.sz)=q from by omega];simp
   have hsz:cs'.size=cs.size:=by rw[<-hcs'];simp[f1];omega
   have hpc:(Di i.ag (g y)).length=i.sz:=f3;have hrep:B2 ρ (AF F.X ρ s.H) w ⟨e.k,e.g,e.T,e.sz,FQ e.es j (EZ i off e.sz d (g y))⟩ cs':=by
    have hnew:(EZ i off e.sz d (g y)).cells.length=e.sz/\∀(q:Nat) (c:D),(EZ i off e.sz d (g y)).cells[q]?=some c->AG ρ (AF F.X ρ s.H) w c (cs'.getD (j*e.sz+q) undef):=by
     have part:∀d2:D,d2=.agg (Do d.cells off (Di i.ag (g y)))->d2.cells.length=e.sz/\∀(q:Nat) (c:D),d2.cells[q]?=some c->AG ρ (AF F.X ρ s.H) w c (cs'.getD (j*e.sz+q) undef):=by
      rintro d2 rfl;refine⟨by simp only[D.cells,QK];exact hdl,λq c hc=>?_⟩;change(Do d.cells off (Di i.ag (g y)))[q]?=some c at hc;rw[RX,hpc]at hc;rw[AT,get];split at hc
      ·rename_i hq
       rw[DK,show j*e.sz+q-(j*e.sz+off)=q-off from by omega,<-AT];exact f4 _ _ hc
      ·rename_i hq
       have hql:q<d.cells.length:=(Ay.1 hc).1;rw[BU,<-AT];exact h2.rep j d q c hd hc
     unfold EZ;split
     ·split
      ·rename_i hbe
       have hbe:=Ae hbe;rw[f5]at f3 f4;refine⟨by omega,λq c hc=>?_⟩;have hq:q<(g y).cells.length:=(Ay.1 hc).1;rw[AT,get,DK,show j*e.sz+q-(j*e.sz+0)=q from by omega,<-AT];exact f4 q c hc
      ·exact part _ rfl
     ·exact part _ rfl
    refine⟨by dsimp only;rw[Kg,List.length_set,hsz];exact h2.len,λq d2 hq=>?_,λq u hu=>?_,λq d2 qq c hq hc=>?_⟩
    ·dsimp only at hq⊢
     rw[Kg,List.getElem?_set]at hq;split at hq
     ·rename_i hjq;subst hjq
      cases hq;exact hnew.1
     ·exact h2.siz q d2 hq
    ·rw[get]at hu
     split at hu
     ·exact f2 _ _ hu
     ·exact h2.one _ _ hu
    ·dsimp only at hq⊢
     rw[Kg,List.getElem?_set]at hq;split at hq
     ·rename_i hjq;subst hjq
      cases hq;exact hnew.2 qq c hc
     ·rename_i hjq
      have hq2:qq<e.sz:=by rw[<-h2.siz q d2 hq];exact(Ay.1 hc).1
      rw[AT,get,AN,<-AT]
      ·exact h2.rep q d2 qq c hq hc
      ·intro hin
       rcases Nat.lt_trichotomy j q with hlt|rfl|hlt
       ·have:(j+1)*e.sz<=q*e.sz:=Br _ hlt
        rw[Ba]at this;omega
       ·exact hjq rfl
       ·have:(q+1)*e.sz<=j*e.sz:=Br _ hlt
        rw[Ba]at this;omega
   rw[q1]at m hrep;obtain⟨a1,a2⟩:=m.write (e':=⟨e.k,e.g,e.T,e.sz,FQ e.es j (EZ i off e.sz d (g y))⟩) hr h1 rfl rfl rfl rfl hsz hrep;refine⟨_,?_,by rw[q2];exact a1,by rw[q2,q1];exact a2,λe2 he2=>?_⟩
   ·unfold execOp
    simp only[ho];rw[run_bind]
    have:(Instr.storeAt t (ev x) (ev y)).run C.P w=.ok () (World.setBlk w b cs' e.T):=by
     unfold Instr.storeAt;rw[hv,run_bind,KM];dsimp only;unfold storeVar;obtain⟨inf,u,t1,t2,t3,t4,_⟩:=Ez (htt _ _ hi);rw[run_bind,Ei t1,t4];dsimp only;rw[AN (by simp[f1]),run,Lx h1]
    rw[this];rfl
   ·rw[q2]at he2
    rcases BR.1 he2 with h|h
    ·exact⟨e2,by rw[q1];simp[h],rfl⟩
    ·rcases Ah.1 h with rfl|h
     ·exact⟨e,hm,rfl⟩
     ·exact⟨e2,by rw[q1];simp[h],rfl⟩
theorem AR.store {tt:Nat->Option AL}(htt:A7 C.P tt){k:Nat}{e':AK}{p:Prop}(hw:Am ops s.env o=some true)(he:DH tt s.H (AV s.env) o.op=some (k,e',p))(hp:p)
  (h:AR C F ops os ⟨Ak s.env o.dst (.prim (.tuple #[])),Hp.set s.H k e',s.n+1⟩ K):AR C F ops (o::os) s K:=
 AR.step hw (λρ a w hs=>by
  obtain⟨w',h1,h2,h3,h4⟩:=Q0 htt hs.mem (BN hs.env) he hp;refine⟨undef,ρ,w',.inr ⟨h1,rfl⟩,⟨h2,h3,λk g hg=>hs.fresh k g (by omega),.prim _⟩,λe he'=>?_⟩;obtain⟨e2,a1,a2⟩:=h4 e he'
  have:=hs.gen e2 a1
  omega) h
theorem AR.idx {tt:Nat->Option AL}(htt:A7 C.P tt){t:Nat}{x ix:Operand}{i:AL}{e esz eby:Nat}{ez:Value}{kk:IntKind}{j:Int}{nn:Bool}{es:List D}{d:D}(hw:Am ops s.env o=some true)
  (ho:o.op=.indexAddr t x ix) (hi:tt t=some i) (hk:i.ti=.slice e esz eby ez) (h1:AV s.env ix=.prim (.int kk j)) (h2:AV s.env x=.sl nn esz es) (h0:0<=j) (hd:es[j.toNat]?=some d)
  (h:AR C F ops os ⟨Ak s.env o.dst (.pptr d),s.H,s.n+1⟩ K):AR C F ops (o::os) s K:=
 AR.step hw (λρ a w hs=>by
  have a1:=BN hs.env ix;have a2:=BN hs.env x;rw[h1]at a1;rw[h2]at a2;generalize hv:a.eval ix=v at a1;cases a1;obtain⟨u,r1,r2⟩:=QO (P:=C.P) (htt _ _ hi) hk h0 hd a2;refine⟨u,ρ,w,.inl ?_,.pure hs r2,λe he=>BK (hs.gen e he)⟩;unfold execOp;simp only[ho,hv];rw[run_bind,r1];rfl) h
end
theorem Nv {g g':Operand->D}:∀(i:Nat) (ps:List (Nat×Operand)),(∀x∈ps.map (·.2),g x=g' x)->EO g i ps=EO g' i ps
 |_,[],_=>rfl
 |i,(j,x)::r,h=>by
  simp only[EO];rw[Nv (i+1) r λy hy=>h y (by simp at hy⊢;exact .inr hy),h x (by simp)]
theorem QF {fs:List (Nat×Nat×Bool)}{g g':Operand->D}:∀(ps:List (Nat×Operand)) (cs:List D),(∀x∈ps.map (·.2),g x=g' x)->FP fs g ps cs=FP fs g' ps cs
 | [],_,_=>rfl
 |(i,x)::r,cs,h=>by
  simp only[FP];rw[h x (by simp)];cases fs[i]? with
  |none=>rfl
  |some q=>
   obtain⟨o,sz,ag⟩:=q;dsimp only;rw[QF r _ λy hy=>h y (by simp at hy⊢;exact .inr hy)]
theorem HO {g g':Operand->D}{l:List Operand}(h:∀x∈l,g x=g' x):l.map g=l.map g':=LQ h
theorem Qr {tt:Nat->Option AL}{g g':Operand->D}{op:Op}(h:∀x∈op.operands,g x=g' x):CG tt g op=CG tt g' op:=by
 cases op<;>simp only[Op.operands]at h<;>simp only[CG]
 case move x=>rw[h x (by simp)]
 case assign x=>rw[h x (by simp)]
 case pick c a b=>rw[h c (by simp),h a (by simp),h b (by simp)]
 case build t ps=>
  unfold Kv;cases tt t with
  |none=>rfl
  |some i=>
   dsimp only;cases MN i.ti<;>try rfl
   dsimp only;rw[QF ps.toList _ λx hx=>h x (by simpa using hx)]
 case nilCheck x=>rw[h x (by simp)]
 case binOp op t x y yt=>rw[h x (by simp),h y (by simp)]
 case unOp op t x=>rw[h x (by simp)]
 case convert s d x=>rw[h x (by simp)]
 case makeFunc fn a b=>
  cases fn<;>try rfl
  dsimp only;rw[HO (l:=a.toList) λx hx=>h x (by simp at hx;simp[hx]),HO (l:=b.toList) λx hx=>h x (by simp at hx;simp[hx])]
 case slice t x lo hi mx=>
  cases mx<;>try rfl
  dsimp only;rw[h x (by simp)];cases lo<;>cases hi<;>simp_all
 case fieldAddr t x f=>rw[h x (by simp)]
 case field t x f=>rw[h x (by simp)]
 case indexAddr t x i=>rw[h x (by simp),h i (by simp)]
 case index t x i=>rw[h x (by simp),h i (by simp)]
 case extract x i=>rw[h x (by simp)]
 case call c=>
  obtain⟨callee,args,tys⟩:=c;cases callee<;>try rfl
  dsimp only;rw[HO (l:=args.toList) λx hx=>h x (by simp at hx;simp[Call.operands,hx])]
theorem Va {tt:Nat->Option AL}{H:Hp}{n k:Nat}{g g':Operand->D}{op:Op}(h:∀x∈op.operands,g x=g' x):Cg tt H n k g op=Cg tt H n k g' op:=by
 cases op<;>simp only[Op.operands]at h<;>simp only[Cg]
 case load t x=>rw[h x (by simp)]
 case box t x=>rw[h x (by simp)]
 case buildSlice t n ps=>rw[Nv 0 ps.toList λx hx=>h x (by simpa using hx)]
section
variable {C:AZ} {F:AI} {ops:Array Oper}
def Tc (C:AZ)(F:AI)(He:Hp)(ρ:Lk)(w:World)(g:Nat)(d:D)(ne:Option AK)(o:Oper)(a:Act):Prop:=
 (∃v ρ' w',(execOp a.eval o).run C.P w=.ok (.value v) w'/\E5 C F He ρ w g d ne v ρ' w') \/
 (∃f vs,(execOp a.eval o).run C.P w=.ok (.enter f vs) w/\Calls C.P f vs w (λe w'=>∃v,e=.returned v/\∃ρ',E5 C F He ρ w g d ne v ρ' w'))
def A0 (C:AZ)(F:AI)(ops:Array Oper)(H:Hp)(g:Nat)(env:Ab)(o:Oper)(d:D)(ne:Option AK):Prop:=
 (∀e,ne=some e->e.g=g) /\
 ∀(He:Hp) (ρ:Lk) (a:Act) (w:World),AQ C F ρ He w->(∀e∈H,e∈He)->(∀k,ρ k g=none)->(∀e∈He,e.g≠g)->(∀t∈o.looksAt ops,AG ρ (AF F.X ρ He) w (env.get t) (a.tmps.getD t undef)) ->
  (Region.wanted o (yielded ops a.tmps)=false/\ne=none/\AG ρ (AF F.X ρ He) w d undef)\/(Region.wanted o (yielded ops a.tmps)=true/\Tc C F He ρ w g d ne o a)
theorem Dx {o:Oper}{env:Ab}{a:Act}{ρ:Lk}{O:Nat->Prop}{w:World}{b:Bool}(he:∀t∈o.looksAt ops,AG ρ O w (env.get t) (a.tmps.getD t undef))(h:Am ops env o=some b):
  Region.wanted o (yielded ops a.tmps)=b:=by
 let env':Ab:=(o.looksAt ops).map λt=>(t,env.get t)
 have hget:∀t,env'.get t=if t∈o.looksAt ops then env.get t else .any:=by
  intro t
  have:∀l:List Nat,Ab.get (l.map λt=>(t,env.get t)) t=if t∈l then env.get t else .any:=by
   intro l
   induction l with
   |nil=>simp[Ab.get]
   |cons x l ih=>
    simp only[BY];rw[Gk,ih]
    by_cases hx:x=t
    ·subst hx;simp
    ·rw[AN hx];simp[Ne.symm hx]
  exact this _
 have hrep:∀t,AG ρ O w (env'.get t) (a.tmps.getD t undef):=λt=>by
  rw[hget]
  by_cases ht:t∈o.looksAt ops
  ·rw[AM ht];exact he t ht
  ·rw[AN ht];exact .any _
 refine FK hrep (o:=o) (ops:=ops) ?_;rw[<-h];unfold Am;split
 ·rfl
 ·rename_i j want hg
  cases hj:ops[j]? with
  |none=>rfl
  |some oj=>
   cases hd:oj.dst with
   |none=>simp only[hd]
   |some t=>
    have ht:t∈o.looksAt ops:=by
     unfold Oper.looksAt;simp[hg,hj,hd]
    simp only[hd];rw[hget,AM ht]
theorem EA {o:Oper}{env:Ab}{a:Act}{ρ:Lk}{O:Nat->Prop}{w:World}(he:∀t∈o.looksAt ops,AG ρ O w (env.get t) (a.tmps.getD t undef)):
  ∃g':Operand->D,(∀x∈o.op.operands,AV env x=g' x)/\∀x,AG ρ O w (g' x) (a.eval x):=by
 classical
 refine⟨λx=>if x∈o.op.operands.toList then AV env x else .any,λx hx=>by dsimp only;rw[AM (by simpa using hx)],λx=>?_⟩;dsimp only
 by_cases hx:x∈o.op.operands.toList
 ·rw[AM hx]
  cases x with
  |tmp t=>exact he t (by unfold Oper.looksAt;exact J1 _ (List.mem_filterMap.2 ⟨.tmp t,hx,rfl⟩))
  |const v=>exact QA v
  |global g=>exact .prim _
  |func f=>exact .clo rfl rfl (by simp) (by simp)
 ·rw[AN hx];exact .any _
variable {H:Hp} {g:Nat} {env:Ab} {o:Oper} {tt:Nat->Option AL}
theorem A0.p (htt:A7 C.P tt){d:D}{p:Prop}(hw:Am ops env o=some true)(he:CG tt (AV env) o.op=some (d,p))(hp:p):A0 C F ops H g env o d none:=by
 refine⟨by simp,λHe ρ a w m _ _ _ hr=>.inr ⟨Dx hr hw,.inl ?_⟩⟩;obtain⟨g',h1,h2⟩:=EA hr;obtain⟨v,r1,r2⟩:=Ky (g:=g') htt h2 (by rw[<-Qr h1];exact he) hp;exact⟨v,ρ,w,r1,m,.refl _ _ _,λ_ _ _=>rfl,r2⟩
theorem A0.skip (hw:Am ops env o=some false):A0 C F ops H g env o (.prim (.tuple #[])) none:=
 ⟨by simp,λHe ρ a w m _ _ _ hr=>.inl ⟨Dx hr hw,rfl,.prim _⟩⟩
theorem A0.call {f:Nat}{first captured ds:List D}{fop:Operand}{args:Array Operand}{tys:Array Nat}{d:D}(hw:Am ops env o=some true)(ho:o.op=.call ⟨.value fop,args,tys⟩)
  (hf:AV env fop=.clo (.func f) first captured) (hds:first++args.toList.map (AV env)++captured=ds) (hc:Aa C f ds d) (hp:AS ds):A0 C F ops H g env o d none:=by
 refine⟨by simp,λHe ρ a w m hsub fr hne hr=>.inr ⟨Dx hr hw,.inr ?_⟩⟩;obtain⟨g',h1,h2⟩:=EA hr;have hfop:fop∈o.op.operands:=by rw[ho];simp[Op.operands,Call.operands]
 have harg:∀x∈args.toList,AV env x=g' x:=λx hx=>h1 x (by rw[ho];simp[Op.operands,Call.operands];right;simpa using hx)
 rw[h1 fop hfop]at hf;rw[HO harg]at hds;have hfr:=h2 fop;rw[hf]at hfr;obtain⟨vs,q1,q2,q3⟩:=IH (g:=g') ho hf hc.1 h2;rw[hds]at q2 q3;refine⟨f,vs,q1,(hc.2 (AF F.X ρ He) w vs m.g (Az m.gn m.size) (λb hb=>m.own_lt hb) q2 λi d hd=>hp.out d (Bh hd) _ _ _ _ _ (q3 i d hd)).mono ?_⟩;rintro e w' ⟨v,d',rfl,hb,rfl,hrep⟩;have x:Ao ρ (AF F.X ρ He) w ρ (AF F.X ρ He) w':=⟨hb.size,λ_ _ _ h=>h,λb hb' hO=>⟨hO,hb.block b hb'⟩,λb cs T fz hh=>⟨cs,_,by
  rw[hb.block b (Bo.1 hh).1];exact hh,rfl⟩⟩
 exact⟨v,rfl,ρ,m.same x hb.os hb.tape hb.output hb.block,x,λ_ _ _=>rfl,hrep.nol⟩
theorem A0.idx (htt:A7 C.P tt){t:Nat}{x ix:Operand}{i:AL}{e esz eby:Nat}{ez:Value}{kk:IntKind}{j:Int}{nn:Bool}{es:List D}{d:D}(hw:Am ops env o=some true)
  (ho:o.op=.indexAddr t x ix) (hi:tt t=some i) (hk:i.ti=.slice e esz eby ez) (h1:AV env ix=.prim (.int kk j)) (h2:AV env x=.sl nn esz es) (h0:0<=j) (hd:es[j.toNat]?=some d):
  A0 C F ops H g env o (.pptr d) none:=by
 refine⟨by simp,λHe ρ a w m hsub fr hne hr=>.inr ⟨Dx hr hw,.inl ?_⟩⟩;obtain⟨g',e1,e2⟩:=EA hr;have a1:=e2 ix;have a2:=e2 x;rw[<-e1 ix (by rw[ho];simp[Op.operands]),h1]at a1;rw[<-e1 x (by rw[ho];simp[Op.operands]),h2]at a2;generalize hv:a.eval ix=v at a1;cases a1;obtain⟨u,r1,r2⟩:=QO (P:=C.P) (htt _ _ hi) hk h0 hd a2;refine⟨u,ρ,w,?_,m,.refl _ _ _,λ_ _ _=>rfl,r2⟩;unfold execOp;simp only[ho,hv];rw[run_bind,r1];rfl
def Bd (ops:Array Oper)(i:Nat):List Nat:=match ops[i]? with
 |some o=>o.after.toList.filterMap λe=>if Region.binds .any e then some e.on else none
 |none=>[]
inductive Cd (ops:Array Oper):Nat->Nat->Prop
 |dep {i j:Nat} (h:j∈Bd ops i):Cd ops i j
 |step {i j k:Nat} (h:j∈Bd ops i) (h':Cd ops j k):Cd ops i k
def Cu:List (Nat×List Nat)->Nat->List Nat
 | [],_=>[]
 |(k,l)::r,i=>match Nat.beq k i with
  |true=>l
  |false=>Cu r i
def BT (i:Nat):List Nat->Bool
 | []=>false
 |j::l=>match Nat.beq i j with
  |true=>true
  |false=>BT i l
def FM (l m:List Nat):Bool:=match l with
 | []=>true
 |i::l=>BT i m&&FM l m
def Ja:List Nat->List Nat->List Nat
 | [],acc=>acc
 |i::l,acc=>match BT i acc with
  |true=>Ja l acc
  |false=>Ja l (i::acc)
def FB (ops:Array Oper):List Nat->List (Nat×List Nat)->List (Nat×List Nat)
 | [],acc=>acc
 |i::l,acc=>FB ops l ((i,Ja (Bd ops i++(Bd ops i).flatMap (Cu acc)) [])::acc)
def JV:List Nat->Bool
 | []=>true
 |i::l=>!BT i l&&JV l
def Ig (ops:Array Oper)(i:Nat):List Nat:=match ops[i]? with
 |some o=>o.dst.toList
 |none=>[]
def Kr (ops:Array Oper):List Nat->List Nat->Bool
 |_,[]=>true
 |done,i::l=>FM (Bd ops i) done&&Kr ops (i::done) l
def M6 (ops:Array Oper)(all:List Nat)(clo:List (Nat×List Nat)):List Nat->List Nat->Bool
 |_,[]=>true
 |done,i::l=>(match ops[i]? with
  |some o=>(o.looksAt ops).all λt=>all.all λj=>!BT t (Ig ops j)||((BT j (Cu clo i)&&BT j done)||(BT i (Cu clo j) && !BT j done && !BT j [i]))
  |none=>false)&&M6 ops all clo (i::done) l
def NA (clo:List (Nat×List Nat)):List Nat->List Nat->Bool
 |_,[]=>true
 |done,i::l=>FM done (Cu clo i)&&NA clo (i::done) l
def FX (ops:Array Oper)(pre suf:List Nat):Bool:=
 JV (pre++suf)&&FM (List.range ops.size) (pre++suf)&&(pre++suf).all (λi=>Nat.blt i ops.size)&&Kr ops [] (pre++suf) &&
 JV (pre.flatMap (Ig ops))&&M6 ops pre (FB ops (pre++suf) []) [] pre&&NA (FB ops (pre++suf) []) pre suf
theorem DU {i:Nat}{l:List Nat}:BT i l=true↔i∈l:=by
 induction l with
 |nil=>simp[BT]
 |cons j l ih=>
  simp only[BT];cases hb:Nat.beq i j with
  |true=>simp[Ae hb]
  |false=>
   simp only[ih,Ah];constructor
   ·exact .inr
   ·rintro(rfl|h)
    ·simp at hb
    ·exact h
theorem JA {l m:List Nat}:FM l m=true↔∀i∈l,i∈m:=by
 induction l with
 |nil=>simp[FM]
 |cons i l ih=>simp[FM,DU,ih]
theorem N8 {l:List Nat}:JV l=true↔l.Nodup:=by
 induction l with
 |nil=>simp[JV]
 |cons i l ih=>
  simp only[JV,Ag,List.nodup_cons,ih]
  have:=@DU i l
  cases h:BT i l<;>simp_all
theorem KK {acc:List (Nat×List Nat)}(h:∀p∈acc,∀j∈p.2,Cd ops p.1 j)(i j:Nat)(hj:j∈Cu acc i):Cd ops i j:=by
 induction acc with
 |nil=>simp[Cu]at hj
 |cons p r ih=>
  obtain⟨k,l⟩:=p;simp only[Cu]at hj;cases hb:Nat.beq k i with
  |true=>simp[hb]at hj;obtain rfl:=Ae hb;exact h (k,l) (by simp) j hj
  |false=>simp[hb]at hj;exact ih (λp hp=>h p (by simp[hp])) hj
theorem OA {j:Nat}:∀ {l acc:List Nat},j∈Ja l acc↔j∈l\/j∈acc
 | [],acc=>by simp[Ja]
 |i::l,acc=>by
  simp only[Ja];split
  ·rename_i h
   rw[OA,Ah];constructor
   ·rintro(h1|h1)
    ·exact .inl (.inr h1)
    ·exact .inr h1
   ·rintro((rfl|h1)|h1)
    ·exact .inr (DU.1 h)
    ·exact .inl h1
    ·exact .inr h1
  ·rw[OA,Ah,Ah]
   constructor
   ·rintro(h1|h1|h1)
    ·exact .inl (.inr h1)
    ·exact .inl (.inl h1)
    ·exact .inr h1
   ·rintro((h1|h1)|h1)
    ·exact .inr (.inl h1)
    ·exact .inl h1
    ·exact .inr (.inr h1)
theorem KW:∀(l:List Nat) (acc:List (Nat×List Nat)),(∀p∈acc,∀j∈p.2,Cd ops p.1 j)->∀p∈FB ops l acc,∀j∈p.2,Cd ops p.1 j
 | [],acc,h=>h
 |i::l,acc,h=>KW l _ (λp hp j hj=>by
  rcases Ah.1 hp with rfl|hp
  ·rcases BR.1 ((OA.1 hj).resolve_right (by simp))with hj|hj
   ·exact .dep hj
   ·obtain⟨k,hk,hj⟩:=List.mem_flatMap.1 hj
    exact .step hk (KK h k j hj)
  ·exact h p hp j hj)
def Cl (ops:Array Oper)(L:Array Bool):Prop:=∀i,L.getD i true=true->i<ops.size->∀j∈Bd ops i,L.getD j false=true
theorem CP {L:Array Bool}{i:Nat}:i∈Region.ready .any ops L↔i<ops.size/\L.getD i true=false/\∀j∈Bd ops i,L.getD j false=true:=by
 unfold Region.ready;simp only[List.mem_filter,List.mem_range,Ag,Ec];constructor
 ·rintro⟨h1,h2,h3⟩
  refine⟨h1,h2,λj hj=>?_⟩;unfold Bd at hj;have ho:ops[i]?=some ops[i]:=BF h1;simp only[ho,Fu,Gp]at hj h3;obtain⟨e,he,hje⟩:=List.mem_filterMap.1 hj;have h4:=(Array.all_eq_true'.1 h3) e (by simpa using he);split at hje
  ·rename_i hb
   cases hje;simpa[hb]using h4
  ·cases hje
 ·rintro⟨h1,h2,h3⟩
  refine⟨h1,h2,?_⟩;have ho:ops[i]?=some ops[i]:=BF h1;simp only[ho,Fu,Gp];refine Array.all_eq_true'.2 λe he=>?_
  by_cases hb:Region.binds .any e=true
  ·have:=h3 e.on (by unfold Bd;simp only[ho];exact List.mem_filterMap.2 ⟨e,by simpa using he,by simp[hb]⟩)
   simp[this]
  ·simp[hb]
theorem FJ {L:Array Bool}(hL:L.size=ops.size)(hc:Cl ops L){i j:Nat}(h:Cd ops i j):(∀k∈Bd ops i,L.getD k false=true)->L.getD j false=true:=by
 induction h with
 |dep h=>intro hd;exact hd _ h
 |step h _ ih=>
  intro hd;have hj:=hd _ h;rename_i i j k _;have hlt:j<L.size:=by
   rcases Aq j L.size with h'|h'
   ·exact h'
   ·simp[Ix h']at hj
  exact ih (hc j (by simp[BF hlt]at hj⊢;exact hj) (by omega))
inductive Eg (C:AZ)(F:AI)(ops:Array Oper)(H:Hp)(n:Nat):List Nat->Ab->Hp->Ab->Hp->Prop
 |nil (env:Ab) (N:Hp):Eg C F ops H n [] env N env N
 |cons {i:Nat} {l:List Nat} {o:Oper} {d:D} {ne:Option AK} {env env':Ab} {N N':Hp} (ho:ops[i]?=some o) (hs:A0 C F ops H (n+i) env o d ne)
   (h:Eg C F ops H n l (Ak env o.dst d) (Bk ne N) env' N'):Eg C F ops H n (i::l) env N env' N'
structure CH where
 i:Nat
 o:Oper
 d:D
 ne:Option AK
def E3:List CH->Ab->Ab
 | [],e=>e
 |r::A,e=>E3 A (Ak e r.o.dst r.d)
def Jh:List CH->Hp->Hp
 | [],N=>N
 |r::A,N=>Jh A (Bk r.ne N)
theorem Eg.recs {H:Hp}{n:Nat}{l:List Nat}{env env':Ab}{N N':Hp}(h:Eg C F ops H n l env N env' N'):
  ∃rs:List CH,rs.map (·.i)=l/\env'=E3 rs env/\N'=Jh rs N /\
   ∀A r B,rs=A++r::B->ops[r.i]?=some r.o/\A0 C F ops H (n+r.i) (E3 A env) r.o r.d r.ne:=by
 induction h with
 |nil env N=>exact⟨[],rfl,rfl,rfl,λA r B h=>by cases A<;>simp at h⟩
 | @cons i l o d ne env env' N N' ho hs _ ih=>
  obtain⟨rs,h1,h2,h3,h4⟩:=ih;refine⟨⟨i,o,d,ne⟩::rs,by simp[h1],h2,h3,λA r B hr=>?_⟩;cases A with
  |nil=>
   simp only[GP,CZ]at hr;obtain⟨rfl,rfl⟩:=hr;exact⟨ho,hs⟩
  |cons r0 A=>
   simp only[Fv,CZ]at hr;obtain⟨rfl,rfl⟩:=hr;exact h4 A r B rfl
theorem RJ (env:Ab)(dst:Option Nat)(d:D)(t:Nat):(Ak env dst d).get t=if dst=some t then d else env.get t:=by
 cases dst with
 |none=>simp[Ak]
 |some k=>
  simp only[Ak];rw[Gk]
  by_cases h:k=t
  ·subst h;simp
  ·rw[AN h,AN (by simpa using h)]
theorem IG:∀(A:List CH) (e:Ab) (t:Nat),(∀r∈A,r.o.dst≠some t)->(E3 A e).get t=e.get t
 | [],_,_,_=>rfl
 |r::A,e,t,h=>by
  simp only[E3];rw[IG A _ t λr' hr'=>h r' (by simp[hr']),RJ,AN (h r (by simp))]
theorem Kb:∀(A:List CH) (e:Ab) (t:Nat),A.Pairwise (λr r'=>∀t,r.o.dst=some t->r'.o.dst≠some t)->∀r∈A,r.o.dst=some t->(E3 A e).get t=r.d
 | [],_,_,_,r,hr,_=>by simp at hr
 |r0::A,e,t,hp,r,hr,hd=>by
  obtain⟨p1,p2⟩:=D3.1 hp;simp only[E3];rcases Ah.1 hr with rfl|hr
  ·rw[IG A _ t λr' hr'=>p1 r' hr' t hd,RJ,AM hd]
  ·exact Kb A _ t p2 r hr hd
theorem IN:∀(A:List CH) (N:Hp),(Jh A N).Perm (A.filterMap (·.ne)++N)
 | [],N=>by simp[Jh]
 |r::A,N=>by
  simp only[Jh];refine(IN A _).trans ?_;cases h:r.ne with
  |none=>simp[Bk,h]
  |some e=>simp only[Bk,J3,h];exact Jy
theorem AF.perm {X:Nat->Prop}{ρ:Lk}{H H':Hp}(h:H.Perm H'):AF X ρ H=AF X ρ H':=funext λb=>propext (by simp only[AF,h.mem_iff])
theorem AQ.perm {ρ:Lk}{H H':Hp}{w:World}(m:AQ C F ρ H w)(h:H.Perm H'):AQ C F ρ H' w:=by
 refine⟨⟨λe he=>?_,?_,λe he=>m.hok.own e (h.mem_iff.2 he)⟩,m.os,m.tape,m.output,m.size,m.blk,m.xlt,m.g0,m.gn,m.gw,m.lnk,m.shp⟩
 ·rw[<-AF.perm h];exact m.hok.ent e (h.mem_iff.2 he)
 ·exact h.pairwise m.hok.inj λ{a b} hab b1 b2 h1 h2=>(hab b2 b1 h2 h1).symm
def Ls (L:Array Bool)(i:Nat):Prop:=L.getD i false=true
theorem JC {α β:Type}{f g:α->Option β}:∀ {l:List α},(∀x∈l,f x=g x)->l.filterMap f=l.filterMap g
 | [],_=>rfl
 |x::l,h=>by
  rw[J3,J3,h x (by simp),JC (l:=l) λy hy=>h y (by simp[hy])]
structure DI (C:AZ)(F:AI)(H:Hp)(n:Nat)(env:Ab)(rs:List CH)(L:Array Bool)(a:Act)(w:World)(ρ:Lk)(He:Hp):Prop where
 mem:AQ C F ρ He w
 perm:He.Perm (rs.filterMap (λr=>if L.getD r.i false then r.ne else none)++H)
 reps:∀r∈rs,Ls L r.i->∀t,r.o.dst=some t->AG ρ (AF F.X ρ He) w r.d (a.tmps.getD t undef)
 old:∀t,(∀r∈rs,Ls L r.i->r.o.dst≠some t)->AG ρ (AF F.X ρ He) w (env.get t) (a.tmps.getD t undef)
 fresh:∀k g,n<=g->ρ k g≠none->∃r∈rs,Ls L r.i/\g=n+r.i
 nt:a.tmps.size=F.nt
 dfr:a.defers=F.df
theorem Ls.set {L:Array Bool}{i j:Nat}(hi:i<L.size):Ls (L.setIfInBounds i true) j↔j=i\/Ls L j:=by
 unfold Ls;rw[AT,DE,AT]
 by_cases h:i=j
 ·subst h;simp[hi]
 ·rw[AN h];simp[Ne.symm h]
theorem DI.next {H:Hp}{n:Nat}{env:Ab}{A B:List CH}{r:CH}{L:Array Bool}{a:Act}{w:World}{ρ:Lk}{He:Hp}(h:DI C F H n env (A++r::B) L a w ρ He)(hi:r.i<L.size)(hn:¬Ls L r.i)
  (hnd:((A++r::B).map (·.i)).Nodup) (hdst:(A++r::B).Pairwise (λr r'=>∀t,r.o.dst=some t->r'.o.dst≠some t)) (hok:CB F.nt r.o=true) {v:Value} {ρ':Lk} {w':World}
  (p:E5 C F He ρ w (n+r.i) r.d r.ne v ρ' w'):DI C F H n env (A++r::B) (L.setIfInBounds r.i true) (a.put r.o.dst v) w' ρ' (Bk r.ne He):=by
 have hset:∀j,Ls (L.setIfInBounds r.i true) j↔j=r.i\/Ls L j:=λj=>Ls.set hi
 have hne:∀r'∈A++B,r'.i≠r.i:=by
  simp only[EH,BY]at hnd;intro r' hr' he;rw[De,List.nodup_cons]at hnd;rcases BR.1 hr' with hr'|hr'
  ·exact hnd.2.2 r'.i (Bw.2 ⟨r',hr',rfl⟩) r.i (by simp) he
  ·exact hnd.2.1.1 (Bw.2 ⟨r',hr',he⟩)
 have hput:∀t,(a.put r.o.dst v).tmps.getD t undef=if r.o.dst=some t then v else a.tmps.getD t undef:=by
  intro t;cases hd:r.o.dst with
  |none=>simp[Act.put]
  |some k=>
   have hk:k<a.tmps.size:=by
    rw[h.nt];unfold CB at hok;rw[hd]at hok;exact Nat.blt_eq.mp hok
   show(a.tmps.setIfInBounds k v).getD t undef=_;rw[AT,DE]
   by_cases hkt:k=t
   ·subst hkt;simp[hk]
   ·rw[AN hkt,AN (by simpa using hkt),<-AT]
 refine⟨p.mem,?_,λr' hr' hl t ht=>?_,λt ht=>?_,λk g hg hk=>?_,?_,?_⟩
 ·have fm:∀X:List CH,(∀r'∈X,r'.i≠r.i)->X.filterMap (λr'=>if(L.setIfInBounds r.i true).getD r'.i false then r'.ne else none)=X.filterMap (λr'=>if L.getD r'.i false then r'.ne else none):=by
   intro X hX;refine JC λr' hr'=>?_
   have:=hset r'.i
   have h2:=hX r' hr';unfold Ls at this
   by_cases hl:L.getD r'.i false=true
   ·rw[AM (this.2 (.inr hl)),AM hl]
   ·rw[AN (λh=>hl ((this.1 h).resolve_left h2)),AN hl]
  have hself:(L.setIfInBounds r.i true).getD r.i false=true:=(hset r.i).2 (.inl rfl);have hold:¬L.getD r.i false=true:=hn;have e1:=h.perm;rw[List.filterMap_append,J3]at e1;simp only[AN hold]at e1;rw[List.filterMap_append,J3,fm A (λr' hr'=>hne r' (by simp[hr'])),fm B (λr' hr'=>hne r' (by simp[hr']))];simp only[AM hself];cases hre:r.ne with
  |none=>simpa[Bk]using e1
  |some e=>
   simp only[Bk];refine(List.Perm.cons e e1).trans ?_;simp only[Cr,Fv];exact Jy.symm
 ·rw[hput]
  by_cases hrr:r'=r
  ·subst hrr;rw[AM ht];exact p.rep
  ·have hr2:r'∈A++B:=by
    rcases BR.1 hr' with h|h
    ·simp[h]
    ·rcases Ah.1 h with h|h
     ·exact AW h hrr
     ·simp[h]
   have hl2:=((hset r'.i).1 hl).resolve_left (hne r' hr2);rw[AN]
   ·exact(h.reps r' hr' hl2 t ht).mono p.ext
   ·intro hrt
    rw[Iy,D3]at hdst;rcases BR.1 hr2 with h|h
    ·exact hdst.2.2 r' h r (by simp) t ht hrt
    ·exact hdst.2.1.1 r' h t hrt ht
 ·rw[hput,AN (ht r (by simp) ((hset r.i).2 (.inl rfl)))]
  exact(h.old t λr' hr' hl=>ht r' hr' ((hset r'.i).2 (.inr hl))).mono p.ext
 ·by_cases hgr:g=n+r.i
  ·exact⟨r,by simp,(hset r.i).2 (.inl rfl),hgr⟩
  ·rw[p.far k g hgr]at hk
   obtain⟨r',h1,h2,h3⟩:=h.fresh k g hg hk;exact⟨r',h1,(hset r'.i).2 (.inr h2),h3⟩
 ·cases r.o.dst<;>simp[Act.put,h.nt]
 ·cases r.o.dst<;>simp[Act.put,h.dfr]
theorem KV {Q:Exit->Act->World->Prop}:∀(l:List Nat) (fuel:Nat) (L:Array Bool) (a:Act) (w:World),L.size=ops.size->l.length<=fuel->(∀i,i<ops.size->(Ls L i↔i∉l))->l.Nodup ->
  (∀A i B,l=A++i::B->(∀j∈Bd ops i,j<ops.size/\j∉i::B)/\∀j∈A,Cd ops i j)->(∀i∈l,i<ops.size)->Cl ops L ->
  wpOps C.P ops Q l a w->wpAny C.P .any ops Q fuel L a w
 | [],fuel,L,a,w,hs,_,hl,_,_,_,_,h=>by
  have hr:Region.ready .any ops L=[]:=by
   apply List.eq_nil_iff_forall_not_mem.2;intro i hi;obtain⟨h1,h2,_⟩:=CP.1 hi
   have:=(hl i h1).2 (by simp)
   unfold Ls at this;rw[AT,D8]at this h2;simp at this h2;rw[this]at h2;cases h2
  cases fuel with
  |zero=>exact⟨hr,h⟩
  |succ fuel=>exact⟨λ_=>h,λi hi=>by rw[hr]at hi;simp at hi⟩
 |i::l,0,_,_,_,_,hf,_,_,_,_,_,_=>by simp at hf
 |i::l,fuel+1,L,a,w,hs,hf,hl,hnd,hd,hlt,hcl,h=>by
  have hil:=hlt i (by simp);have hLi:∀j,j<ops.size->(L.getD j true=true↔Ls L j):=λj hj=>by
   unfold Ls;rw[AT,AT,D8];simp
  have hready:∀j,j∈Region.ready .any ops L↔j=i:=by
   intro j;rw[CP];constructor
   ·rintro⟨h1,h2,h3⟩
    have hj:j∈i::l:=by
     apply Dt;intro hn
     have:=(hLi j h1).2 ((hl j h1).2 hn)
     rw[h2]at this;cases this
    apply Dt;intro hne;have hjl:j∈l:=by simpa[hne]using hj
    obtain⟨A,B,rfl⟩:=EF hjl;have hreach:=(hd (i::A) j B (by simp)).2 i (by simp)
    have:=FJ hs hcl hreach h3
    exact AW ((hl i hil).1 this) (by simp)
   ·rintro rfl
    refine⟨hil,?_,λk hk=>?_⟩
    ·cases hb:L.getD j true with
     |false=>rfl
     |true=>exact AW ((hl j hil).1 ((hLi j hil).1 hb)) (by simp)
    ·have hk2:=(hd [] j l rfl).1 k hk
     exact(hl k hk2.1).2 hk2.2
  have hset:∀j,Ls (L.setIfInBounds i true) j↔j=i\/Ls L j:=λj=>Ls.set (by omega)
  refine⟨λh0=>?_,λj hj=>?_⟩
  ·have:=(hready i).2 rfl
   rw[h0]at this;simp at this
  ·obtain rfl:=(hready j).1 hj
   rw[wpOps_cons]at h;obtain⟨n1,n2⟩:=List.nodup_cons.1 hnd;refine wpOp_mono (λa w hk=>?_) h;refine KV l fuel _ a w (by simp[hs]) (by simp at hf;omega) (λk hk2=>?_) n2 (λA k B hAB=>?_) (λk hk2=>hlt k (by simp[hk2])) ?_ hk
   ·rw[hset,hl k hk2]
    by_cases hkj:k=j
    ·subst hkj;simp[n1]
    ·simp[hkj]
   ·obtain⟨q1,q2⟩:=hd (j::A) k B (by simp[hAB])
    exact⟨q1,λx hx=>q2 x (by simp[hx])⟩
   ·intro k hk2 hks x hx
    have hk3:Ls (L.setIfInBounds j true) k:=by
     unfold Ls;rw[AT,BF (by simp;omega)]at hk2⊢;simpa using hk2
    show Ls _ x;rw[hset];rcases(hset k).1 hk3 with rfl|hk3
    ·exact .inr ((CP.1 hj).2.2 x hx)
    ·exact .inr (hcl k ((hLi k hks).2 hk3) hks x hx)
structure K4 (ops:Array Oper)(rs:List CH)(suf:List Nat):Prop where
 nodup:(rs.map (·.i)++suf).Nodup
 lt:∀i∈rs.map (·.i)++suf,i<ops.size
 all:∀i,i<ops.size->i∈rs.map (·.i)++suf
 first:∀A i B,rs.map (·.i)++suf=A++i::B->∀j∈Bd ops i,j∈A
 dst:rs.Pairwise λr r'=>∀t,r.o.dst=some t->r'.o.dst≠some t
 look:∀A r B,rs=A++r::B->∀t∈r.o.looksAt ops,∀r'∈rs,r'.o.dst=some t->(r'∈A/\Cd ops r.i r'.i)\/(r'∉A/\Cd ops r'.i r.i)
 suf:∀A i B,suf=A++i::B->∀j∈rs.map (·.i)++A,Cd ops i j
theorem DI.look {H:Hp}{n:Nat}{env:Ab}{rs:List CH}{suf:List Nat}{L:Array Bool}{a:Act}{w:World}{ρ:Lk}{He:Hp}(h:DI C F H n env rs L a w ρ He)(ho:K4 ops rs suf)(hL:L.size=ops.size)(hc:Cl ops L)
  {A B:List CH} {r:CH} (hr:rs=A++r::B) (hrd:r.i∈Region.ready .any ops L):∀t∈r.o.looksAt ops,AG ρ (AF F.X ρ He) w ((E3 A env).get t) (a.tmps.getD t undef):=by
 intro t ht;have hpA:A.Pairwise (λr r'=>∀t,r.o.dst=some t->r'.o.dst≠some t):=by
  have:=ho.dst
  rw[hr,Iy]at this;exact this.1
 by_cases hw:∃r'∈rs,r'.o.dst=some t
 ·obtain⟨r',h1,h2⟩:=hw
  rcases ho.look A r B hr t ht r' h1 h2 with⟨h3,h4⟩|⟨h3,h4⟩
  ·rw[Kb A env t hpA r' h3 h2]
   exact h.reps r' h1 (FJ hL hc h4 (CP.1 hrd).2.2) t h2
  ·
   have one:∀r''∈rs,r''.o.dst=some t->r''=r':=λr'' hr'' hd=>Dt λhne=>by
    have hp:=ho.dst;have sym:∀ {l:List CH},l.Pairwise (λr r'=>∀t,r.o.dst=some t->r'.o.dst≠some t)->∀x∈l,∀y∈l,x≠y->∀t,x.o.dst=some t->y.o.dst≠some t:=by
     intro l hl
     induction hl with
     |nil=>intro x hx;simp at hx
     |cons h _ ih=>
      intro x hx y hy hxy t h1 h2;rcases Ah.1 hx with e1|e1
      ·rcases Ah.1 hy with e2|e2
       ·exact hxy (by rw[e1,e2])
       ·rw[e1]at h1;exact h y e2 t h1 h2
      ·rcases Ah.1 hy with e2|e2
       ·rw[e2]at h2;exact h x e1 t h2 h1
       ·exact ih x e1 y e2 hxy t h1 h2
    exact sym hp r'' hr'' r' h1 hne t hd h2
   rw[IG A env t λr'' hr'' hd=>h3 (by rw[<-one r'' (by rw[hr];simp[hr'']) hd];exact hr'')];refine h.old t λr'' hr'' hl hd=>?_
   obtain rfl:=one r'' hr'' hd;have hlt:r''.i<ops.size:=ho.lt r''.i (by simp;exact .inl ⟨r'',hr'',rfl⟩);have hin:=(CP.1 hrd).2.1;have hrl:L.getD r.i false=true:=by
    refine FJ hL hc h4 λk hk=>?_
    refine hc r''.i ?_ hlt k hk;unfold Ls at hl;rw[AT,D8]at hl⊢;simpa using hl
   have hrlt:r.i<ops.size:=(CP.1 hrd).1;rw[AT,D8]at hrl hin;simp at hrl hin;rw[hrl]at hin;cases hin
 ·rw[IG A env t λr' hr' hd=>hw ⟨r',by rw[hr];simp[hr'],hd⟩]
  exact h.old t λr' hr' _ hd=>hw ⟨r',hr',hd⟩
theorem VS {Q:Exit->Act->World->Prop}{H:Hp}{n:Nat}{env:Ab}{rs:List CH}{suf:List Nat}(ho:K4 ops rs suf)(hgen:∀e∈H,e.g<n)(hd:∀r∈rs,CB F.nt r.o=true)
  (hst:∀A r B,rs=A++r::B->ops[r.i]?=some r.o/\A0 C F ops H (n+r.i) (E3 A env) r.o r.d r.ne)
  (hend:∀(L:Array Bool) (a:Act) (w:World) (ρ:Lk) (He:Hp),L.size=ops.size->(∀r∈rs,Ls L r.i)->DI C F H n env rs L a w ρ He->wpOps C.P ops Q suf a w):
  ∀(fuel:Nat) (L:Array Bool) (a:Act) (w:World) (ρ:Lk) (He:Hp),L.size=ops.size->((rs.map (·.i)++suf).filter (λi=>!L.getD i false)).length<=fuel->Cl ops L->(∀i∈suf,¬Ls L i) ->
   DI C F H n env rs L a w ρ He->wpAny C.P .any ops Q fuel L a w:=by
 intro fuel
 induction fuel with
 |zero=>
  intro L a w ρ He hL hf hc hs hi;have h0:(rs.map (·.i)++suf).filter (λi=>!L.getD i false)=[]:=Hz (by omega);have hall:∀r∈rs,Ls L r.i:=λr hr=>by
   have:=List.filter_eq_nil_iff.1 h0 r.i (by simp;exact .inl ⟨r,hr,rfl⟩)
   simpa[Ls]using this
  have hsuf:suf=[]:=by
   apply List.eq_nil_iff_forall_not_mem.2;intro i hi2
   have:=List.filter_eq_nil_iff.1 h0 i (by simp[hi2])
   exact hs i hi2 (by simpa[Ls]using this)
  subst hsuf;refine KV [] 0 L a w hL (Ad _) (λi hi2=>⟨λ_=>by simp,λ_=>?_⟩) .nil (λA i B h=>by cases A<;>simp at h) (by simp) hc (hend L a w ρ He hL hall hi)
  have:=ho.all i hi2
  simp at this;obtain⟨r,hr,rfl⟩:=this;exact hall r hr
 |succ fuel ih=>
  intro L a w ρ He hL hf hc hs hi
  by_cases hall:∀r∈rs,Ls L r.i
  ·refine KV suf (fuel+1) L a w hL ?_ (λi hi2=>?_) ?_ (λA i B hAB=>⟨λj hj=>?_,λj hj=>ho.suf A i B hAB j (by simp[hj])⟩) (λi hi2=>ho.lt i (by simp[hi2])) hc (hend L a w ρ He hL hall hi)
   ·refine Az ?_ hf
    rw[List.filter_append,B9];rw[(List.filter_eq_self (l:=suf)).2 λi hi2=>by have:=hs i hi2;unfold Ls at this;simpa using this];omega
   ·constructor
    ·intro h1 h2;exact hs i h2 h1
    ·intro h1
     have:=ho.all i hi2
     rcases BR.1 this with h|h
     ·obtain⟨r,hr,rfl⟩:=Bw.1 h;exact hall r hr
     ·exact AW h h1
   ·exact(De.1 ho.nodup).2.1
   ·have hA:=ho.first (rs.map (·.i)++A) i B (by simp[hAB]) j hj
    refine⟨ho.lt j (by rw[hAB];rcases BR.1 hA with h|h<;>simp[h]),λhB=>?_⟩;have hnd:=ho.nodup;rw[hAB,<-Cr,De]at hnd;exact hnd.2.2 j hA j hB rfl
  ·have hnot:∃r∈rs,¬Ls L r.i:=by
    apply Dt;intro hn;exact hall λr hr=>Dt λh=>hn ⟨r,hr,h⟩
   have hLt:∀j,j<ops.size->(L.getD j true=true↔Ls L j):=λj hj=>by
    unfold Ls;rw[AT,AT,D8];simp
   have hsome:Region.ready .any ops L≠[]:=by
    obtain⟨r0,hr0,hn0⟩:=hnot
    have:∀X:List CH,∀Y,rs=X++Y->(∃r∈Y,¬Ls L r.i)->(∀r∈X,Ls L r.i)->∃A r B,rs=A++r::B/\¬Ls L r.i/\∀r∈A,Ls L r.i:=by
     intro X Y
     induction Y generalizing X with
     |nil=>rintro _ ⟨r,hr,_⟩ _;simp at hr
     |cons y Y ihY=>
      intro hXY hex hX
      by_cases hy:Ls L y.i
      ·obtain⟨r,hr,hrn⟩:=hex
       rcases Ah.1 hr with rfl|hr
       ·exact AW hy hrn
       ·exact ihY (X++[y]) (by simp[hXY]) ⟨r,hr,hrn⟩ (λr hr=>by
         rcases BR.1 hr with h|h
         ·exact hX r h
         ·simp at h;subst h;exact hy)
      ·exact⟨X,y,Y,hXY,hy,hX⟩
    obtain⟨A,r,B,h1,h2,h3⟩:=this [] rs rfl ⟨r0,hr0,hn0⟩ (by simp);intro hnil;have hrlt:=ho.lt r.i (by rw[h1];simp)
    have:r.i∈Region.ready .any ops L:=by
     rw[CP];refine⟨hrlt,?_,λj hj=>?_⟩
     ·cases hb:L.getD r.i true with
      |false=>rfl
      |true=>exact AW ((hLt r.i hrlt).1 hb) h2
     ·have:=ho.first (A.map (·.i)) r.i (B.map (·.i)++suf) (by rw[h1];simp) j hj
      obtain⟨r',hr',rfl⟩:=Bw.1 this;exact h3 r' hr'
    rw[hnil]at this;simp at this
   refine⟨λh0=>AW h0 hsome,λi hir=>?_⟩;obtain⟨hilt,hin,hid⟩:=CP.1 hir;have hnL:¬Ls L i:=λh=>by rw[(hLt i hilt).2 h]at hin;cases hin
   have hpre:i∈rs.map (·.i):=by
    rcases BR.1 (ho.all i hilt)with h|h
    ·exact h
    ·obtain⟨A,B,hAB⟩:=EF h
     obtain⟨r0,hr0,hn0⟩:=hnot
     have:=FJ hL hc (ho.suf A i B hAB r0.i (J1 _ (Bw.2 ⟨r0,hr0,rfl⟩))) hid
     exact AW this hn0
   obtain⟨r,hr,rfl⟩:=Bw.1 hpre;obtain⟨A,B,hAB⟩:=EF hr;obtain⟨hor,hgen2,hsteady⟩:=hst A r B hAB;have hset:∀j,Ls (L.setIfInBounds r.i true) j↔j=r.i\/Ls L j:=λj=>Ls.set (by omega)
   have hndr:(rs.map (·.i)).Nodup:=(De.1 ho.nodup).1;have hsub:∀e∈H,e∈He:=λe he=>hi.perm.mem_iff.2 (by simp[he])
   have hfr:∀k,ρ k (n+r.i)=none:=λk=>by
    apply Dt;intro hk;obtain⟨r',h1,h2,h3⟩:=hi.fresh k (n+r.i) (by omega) hk
    have:r'.i=r.i:=by omega
    rw[this]at h2;exact hnL h2
   have hne:∀e∈He,e.g≠n+r.i:=λe he hg=>by
    rcases BR.1 (hi.perm.mem_iff.1 he)with h|h
    ·obtain⟨r',h1,h2⟩:=List.mem_filterMap.1 h
     split at h2
     ·rename_i hl
      obtain⟨A',B',hAB'⟩:=EF h1
      have:=(hst A' r' B' hAB').2.1 e h2
      have:r'.i=r.i:=by omega
      rw[this]at hl;exact hnL hl
     ·cases h2
    ·have:=hgen e h;omega
   have next:∀v ρ' w',E5 C F He ρ w (n+r.i) r.d r.ne v ρ' w'->wpAny C.P .any ops Q fuel (L.setIfInBounds r.i true) (a.put r.o.dst v) w':=by
    intro v ρ' w' p;have hi':=hi;rw[hAB]at hi' hndr;have hdst:=ho.dst;rw[hAB]at hdst;have hn':=DI.next hi' (by omega) hnL hndr hdst (hd r hr) p;rw[<-hAB]at hn';refine ih _ _ _ ρ' (Bk r.ne He) (by simp[hL]) ?_ ?_ (λj hj=>?_) hn'
    ·have:((rs.map (·.i)++suf).filter (λi=>!(L.setIfInBounds r.i true).getD i false)).length<((rs.map (·.i)++suf).filter (λi=>!L.getD i false)).length:=by
      have sub:(rs.map (·.i)++suf).filter (λi=>!(L.setIfInBounds r.i true).getD i false)=((rs.map (·.i)++suf).filter (λi=>!L.getD i false)).filter (λi=>!Nat.beq i r.i):=by
       rw[List.filter_filter];apply List.filter_congr;intro x hx;have h1:=hset x;unfold Ls at h1
       by_cases hxr:x=r.i
       ·subst hxr
        have:(L.setIfInBounds r.i true).getD r.i false=true:=h1.2 (.inl rfl)
        simp[this]
       ·have hb:Nat.beq x r.i=false:=by
         cases hb:Nat.beq x r.i with
         |false=>rfl
         |true=>exact AW (Ae hb) hxr
        rw[hb]
        by_cases hlx:L.getD x false=true
        ·rw[h1.2 (.inr hlx),hlx];rfl
        ·have:¬(L.setIfInBounds r.i true).getD x false=true:=λh=>hlx ((h1.1 h).resolve_left hxr)
         simp only[Bool.not_eq_true]at this hlx;rw[this,hlx];rfl
      rw[sub];apply List.length_filter_lt_length_iff_exists.2;exact⟨r.i,by rw[List.mem_filter];exact⟨by simp;exact .inl ⟨r,hr,rfl⟩,by unfold Ls at hnL;simpa using hnL⟩,by simp⟩
     omega
    ·intro k hk2 hks x hx
     have hk3:Ls (L.setIfInBounds r.i true) k:=by
      unfold Ls;rw[AT,BF (by simp;omega)]at hk2⊢;simpa using hk2
     show Ls _ x;rw[hset];rcases(hset k).1 hk3 with rfl|hk3
     ·exact .inr (hid x hx)
     ·exact .inr (hc k ((hLt k hks).2 hk3) hks x hx)
    ·rw[hset]
     rintro(rfl|h)
     ·have hnd:=ho.nodup
      rw[De]at hnd;exact hnd.2.2 r.i (Bw.2 ⟨r,hr,rfl⟩) r.i hj rfl
     ·exact hs j hj h
   unfold wpOp;simp only[hor];rcases hsteady He ρ a w hi.mem hsub hfr hne (hi.look ho hL hc hAB hir)with⟨hw,hn0,hrep⟩|⟨hw,hout⟩
   ·rw[AN (by rw[hw];simp)]
    exact next undef ρ w ⟨by rw[hn0];exact hi.mem,by rw[hn0];exact .refl _ _ _,λ_ _ _=>rfl,by rw[hn0];exact hrep⟩
   ·rw[AM hw]
    refine .inl ?_;unfold Oper.wp;rcases hout with⟨v,ρ',w',h1,h2⟩|⟨f,vs,h1,h2⟩
    ·rw[h1];exact next v ρ' w' h2
    ·rw[h1]
     refine h2.mono ?_;rintro e w' ⟨v,rfl,ρ',h3⟩;exact next v ρ' w' h3
theorem N4:∀(l done:List Nat),Kr ops done l=true->∀A i B,l=A++i::B->∀j∈Bd ops i,j∈done\/j∈A
 | [],_,_,A,i,B,h=>by cases A<;>simp at h
 |k::l,done,h,A,i,B,hl=>by
  simp only[Kr,Ag]at h;cases A with
  |nil=>
   simp only[GP,CZ]at hl;obtain⟨rfl,rfl⟩:=hl;exact λj hj=>.inl (JA.1 h.1 j hj)
  |cons k' A=>
   simp only[Fv,CZ]at hl;obtain⟨rfl,rfl⟩:=hl;intro j hj;rcases N4 _ _ h.2 A i B rfl j hj with h'|h'
   ·rcases Ah.1 h' with rfl|h'
    ·exact .inr (by simp)
    ·exact .inl h'
   ·exact .inr (by simp[h'])
theorem Rb {clo:List (Nat×List Nat)}:∀(l done:List Nat),NA clo done l=true->∀A i B,l=A++i::B->∀j,j∈done\/j∈A->j∈Cu clo i
 | [],_,_,A,i,B,h=>by cases A<;>simp at h
 |k::l,done,h,A,i,B,hl=>by
  simp only[NA,Ag]at h;cases A with
  |nil=>
   simp only[GP,CZ]at hl;obtain⟨rfl,rfl⟩:=hl;rintro j (hj|hj)
   ·exact JA.1 h.1 j hj
   ·simp at hj
  |cons k' A=>
   simp only[Fv,CZ]at hl;obtain⟨rfl,rfl⟩:=hl;intro j hj;refine Rb _ _ h.2 A i B rfl j ?_;rcases hj with hj|hj
   ·exact .inl (by simp[hj])
   ·rcases Ah.1 hj with rfl|hj
    ·exact .inl (by simp)
    ·exact .inr hj
theorem RI {all:List Nat}{clo:List (Nat×List Nat)}:∀(l done:List Nat),M6 ops all clo done l=true->∀A i B,l=A++i::B->∃o,ops[i]?=some o /\
   ∀t∈o.looksAt ops,∀j∈all,t∈Ig ops j->(j∈Cu clo i/\(j∈done\/j∈A))\/(i∈Cu clo j/\¬(j∈done\/j∈A)/\j≠i)
 | [],_,_,A,i,B,h=>by cases A<;>simp at h
 |k::l,done,h,A,i,B,hl=>by
  simp only[M6,Ag]at h;cases A with
  |nil=>
   simp only[GP,CZ]at hl;obtain⟨rfl,rfl⟩:=hl;have h1:=h.1;cases ho:ops[k]? with
   |none=>simp[ho]at h1
   |some o=>
    simp only[ho]at h1;refine⟨o,rfl,λt ht j hj hd=>?_⟩
    have:=CF.1 (CF.1 h1 t ht) j hj
    rw[DU.2 hd]at this;simp only[ic,Bool.false_or,LV,Ag,DU,Ec,Bool.eq_false_iff,ne_eq,Eb]at this;rcases this with h|h
    ·exact .inl ⟨h.1,.inl h.2⟩
    ·exact .inr ⟨h.1.1,by rintro(h'|h');exact h.1.2 h';simp at h',h.2⟩
  |cons k' A=>
   simp only[Fv,CZ]at hl;obtain⟨rfl,rfl⟩:=hl;obtain⟨o,h1,h2⟩:=RI _ _ h.2 A i B rfl;refine⟨o,h1,λt ht j hj hd=>?_⟩;rcases h2 t ht j hj hd with⟨h3,h4⟩|⟨h3,h4,h5⟩
   ·refine .inl ⟨h3,?_⟩
    rcases h4 with h4|h4
    ·rcases Ah.1 h4 with rfl|h4
     ·exact .inr (by simp)
     ·exact .inl h4
    ·exact .inr (by simp[h4])
   ·refine .inr ⟨h3,λh=>h4 ?_,h5⟩
    rcases h with h|h
    ·exact .inl (by simp[h])
    ·rcases Ah.1 h with rfl|h
     ·exact .inl (by simp)
     ·exact .inr h
theorem Qo:∀(rs:List CH),(∀r∈rs,ops[r.i]?=some r.o)->((rs.map (·.i)).flatMap (Ig ops)).Nodup->rs.Pairwise λr r'=>∀t,r.o.dst=some t->r'.o.dst≠some t
 | [],_,_=>.nil
 |r::rs,h,hn=>by
  simp only[BY,List.flatMap_cons,De]at hn;refine .cons (λr' hr' t ht ht'=>?_) (Qo rs (λr hr=>h r (by simp[hr])) hn.2.1);refine hn.2.2 t ?_ t ?_ rfl
  ·unfold Ig;rw[h r (by simp)];simp[ht]
  ·refine List.mem_flatMap.2 ⟨r'.i,Bw.2 ⟨r',hr',rfl⟩,?_⟩
   unfold Ig;rw[h r' (by simp[hr'])];simp[ht']
theorem OU {rs:List CH}{pre suf:List Nat}(hp:rs.map (·.i)=pre)(ho:∀r∈rs,ops[r.i]?=some r.o)(hc:FX ops pre suf=true):K4 ops rs suf:=by
 simp only[FX,Ag]at hc;obtain⟨⟨⟨⟨⟨⟨c1,c2⟩,c3⟩,c4⟩,c5⟩,c6⟩,c7⟩:=hc;have hreach:∀i j,j∈Cu (FB ops (pre++suf) []) i->Cd ops i j:=λi j h=>KK (KW _ _ (by simp)) i j h
 subst hp;refine⟨N8.1 c1,λi hi=>by simpa using CF.1 c3 i hi,λi hi=>JA.1 c2 i (List.mem_range.2 hi),λA i B h j hj=>?_,?_,?_,λA i B h j hj=>?_⟩
 ·exact(N4 _ _ c4 A i B h j hj).resolve_left (by simp)
 ·exact Qo rs ho (N8.1 c5)
 ·intro A r B hr t ht r' hr' hd
  obtain⟨o,h1,h2⟩:=RI _ _ c6 (A.map (·.i)) r.i (B.map (·.i)) (by rw[hr];simp);have e:o=r.o:=by rw[ho r (by rw[hr];simp)]at h1;exact(H9 h1).symm
  subst e;rcases h2 t ht r'.i (Bw.2 ⟨r',hr',rfl⟩) (by unfold Ig;rw[ho r' hr'];simp[hd])with⟨h3,h4⟩|⟨h3,h4,h5⟩
  ·refine .inl ⟨?_,hreach _ _ h3⟩
   have h4:=h4.resolve_left (by simp);have hnd:=(De.1 (N8.1 c1)).1;rw[hr]at hnd hr';rcases BR.1 hr' with h5|h5
   ·exact h5
   ·rw[EH,De]at hnd
    exact AW rfl (hnd.2.2 r'.i h4 r'.i (Bw.2 ⟨r',h5,rfl⟩))
  ·exact .inr ⟨λhA=>h4 (.inr (Bw.2 ⟨r',hA,rfl⟩)),hreach _ _ h3⟩
 ·refine hreach _ _ (Rb _ _ c7 A i B h j ?_)
  simpa using hj
def Eu (C:AZ)(F:AI)(ops:Array Oper)(s:St)(Q:Exit->St->Prop):Prop:=ops.toList.all (CB F.nt)=true->∀ρ a w,Aw C F ρ s a w ->
 wpAny C.P .any ops (λe a' w'=>∃s' ρ',Q e s'/\Aw C F ρ' s' a' w') ops.size (Array.replicate ops.size false) a w.drew
theorem Eu.ok {i:Nat}{s:St}{Q:Exit->St->Prop}(hm:C.P.follows .mixedOrders=true)(h:Eu C F ops s Q):Ok C F (.region i ops true) s Q:=λhd ρ a w hs=>wp_region_any hm (h hd ρ a w hs)
theorem iI {s:St}{Q:Exit->St->Prop}{pre suf:List Nat}{envF:Ab}{N:Hp}(hc:FX ops pre suf=true)
  (hpre:Eg C F ops s.H s.n pre s.env [] envF N)
  (h:AR C F ops (suf.map λj=>ops.getD j default) ⟨envF,N++s.H,s.n+ops.size⟩ (Q .normal)):Eu C F ops s Q:=by
 intro hd ρ a w hs;obtain⟨rs,h1,h2,h3,h4⟩:=hpre.recs;have hor:∀r∈rs,ops[r.i]?=some r.o:=λr hr=>by
  obtain⟨A,B,hAB⟩:=EF hr;exact(h4 A r B hAB).1
 have ho:=OU h1 hor hc;have hds:∀r∈rs,CB F.nt r.o=true:=λr hr=>by
  refine CF.1 hd r.o ?_
  have:=hor r hr
  exact Dc.2 (FD this)
 have hrep:∀j,(Array.replicate ops.size false).getD j false=false:=λj=>by
  rw[AT];rw[H5];split<;>rfl
 have hnL:∀j,¬Ls (Array.replicate ops.size false) j:=λj hj=>by unfold Ls at hj;rw[hrep]at hj;cases hj
 have hin:DI C F s.H s.n s.env rs (Array.replicate ops.size false) a w.drew ρ s.H:=by
  refine⟨hs.mem.drew,?_,λr _ hl=>AW hl (hnL _),λt _=>(hs.env t).mono (.drew _ _ _),λk g hg hk=>AW (hs.fresh k g hg) hk,hs.nt,hs.dfr⟩
  have:rs.filterMap (λr=>if(Array.replicate ops.size false).getD r.i false then r.ne else none)=[]:=by
   rw[Pj];intro r _;rw[hrep];rfl
  rw[this];exact List.Perm.refl _
 refine VS ho hs.gen hds h4 ?_ ops.size _ a w.drew ρ s.H (by simp) ?_ ?_ (λj _=>hnL j) hin
 ·intro L a' w' ρ' He hL hall hi
  have hN:He.Perm (N++s.H):=by
   refine hi.perm.trans (List.Perm.append_right _ ?_);have e:rs.filterMap (λr=>if L.getD r.i false then r.ne else none)=rs.filterMap (·.ne):=JC λr hr=>by
    have:=hall r hr;unfold Ls at this;rw[this];rfl
   rw[e,h3]
   have:=IN rs []
   rw[Dd]at this;exact this.symm
  refine Q4 _ _ _ (h ?_ suf ?_ ρ' a' w' ⟨hi.mem.perm hN,?_,?_,λt=>?_,hi.nt,hi.dfr⟩)
  ·rw[CF]
   intro o' ho';obtain⟨j,hj,rfl⟩:=Bw.1 ho';have hlt:=ho.lt j (by simp[hj]);refine CF.1 hd _ ?_;rw[AT,BF hlt];simp
  ·rw[List.map_map]
   refine LQ λj hj=>?_
   have hlt:=ho.lt j (by simp[hj]);simp[AT,BF hlt]
  ·intro k g hg
   apply Dt;intro hk;obtain⟨r,hr,_,he⟩:=hi.fresh k g (by simp at hg;omega) hk
   have:=ho.lt r.i (by simp;exact .inl ⟨r,hr,rfl⟩)
   simp at hg;omega
  ·intro e he
   rcases BR.1 he with he|he
   ·rw[h3]at he
    have he:=(IN rs []).mem_iff.1 he;rw[Dd]at he;obtain⟨r,hr,hre⟩:=List.mem_filterMap.1 he;obtain⟨A,B,hAB⟩:=EF hr
    have:=(h4 A r B hAB).2.1 e hre
    have:=ho.lt r.i (by simp;exact .inl ⟨r,hr,rfl⟩)
    show e.g<s.n+ops.size;omega
   ·have:=hs.gen e he
    show e.g<s.n+ops.size;omega
  ·show AG ρ' (AF F.X ρ' (N++s.H)) w' (envF.get t) _
   rw[<-AF.perm hN,h2]
   by_cases hw:∃r∈rs,r.o.dst=some t
   ·obtain⟨r,hr,hrd⟩:=hw
    rw[Kb rs s.env t ho.dst r hr hrd];exact hi.reps r hr (hall r hr) t hrd
   ·rw[IG rs s.env t λr hr hrd=>hw ⟨r,hr,hrd⟩]
    exact hi.old t λr hr _ hrd=>hw ⟨r,hr,hrd⟩
 ·refine Az (List.length_filter_le _ _) ?_
  have hsub:∀(l:List Nat) (n:Nat),l.Nodup->(∀x∈l,x<n)->l.length<=n:=by
   intro l n
   induction n generalizing l with
   |zero=>intro _ h;cases l with
    |nil=>simp
    |cons x l=>exact AW (h x (by simp)) (by omega)
   |succ n ihn=>
    intro hnd hlt;have h1:=ihn (l.erase n) (hnd.erase n) λx hx=>by
     have:=hlt x (List.mem_of_mem_erase hx)
     have:x≠n:=λh=>by subst h;exact(Pk hnd) hx
     omega
    have:=List.length_erase (a:=n) (l:=l)
    split at this<;>omega
  exact hsub _ _ ho.nodup ho.lt
 ·intro k hk
  have:k<ops.size\/¬k<ops.size:=by omega
  rcases this with hlt|hlt
  ·rw[AT,H5,AM hlt]at hk;cases hk
  ·intro h;exact AW h hlt
end
def look:List (Nat×AL)->Nat->Option AL
 | [],_=>none
 |(k,i)::r,t=>match Nat.beq k t with
  |true=>some i
  |false=>look r t
end Go.Ide
