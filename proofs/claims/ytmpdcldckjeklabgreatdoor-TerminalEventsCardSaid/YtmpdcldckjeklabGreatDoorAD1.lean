/- The layer of own lemmas and contracts, part 1. -/
import Derived.WalkKit
set_option linter.unusedVariables false
set_option linter.unusedSimpArgs false
namespace Go.Ide
open Go.RowKit
abbrev AS:=@Array.getD_eq_getD_getElem?
abbrev Ab:=@Nat.eq_of_beq_eq_true
abbrev As:=@List.getElem?_eq_some_iff
abbrev Ac:=@Option.some.injEq
abbrev A9:=@Array.getElem?_eq_getElem
abbrev Aj:=@Bool.and_eq_true
abbrev BK:=@List.getElem?_eq_getElem
abbrev A7:=@Nat.le_of_ble_eq_true
abbrev Ae:=@List.mem_cons
abbrev Be:=@Array.getElem?_eq_some_iff
abbrev BE:=@Nat.lt_succ_of_lt
abbrev Ah:=@Nat.le_refl
abbrev An:=@Prod.mk.injEq
abbrev B3:=@List.getElem?_append_right
abbrev Bf:=@List.mem_of_getElem?
abbrev Bl:=@Nat.mul_le_mul_right
abbrev Ar:=@Nat.lt_or_ge
abbrev BL:=@List.mem_append
abbrev CM:=@List.getElem?_append_left
abbrev BW:=@List.getElem?_map
abbrev Ax:=@Nat.le_trans
abbrev C4:=@Array.getElem?_setIfInBounds
abbrev Bx:=@beq_eq_false_iff_ne
abbrev BP:=@List.map_cons
abbrev BX:=@decide_eq_true
abbrev CP:=@List.length_cons
abbrev Bi:=@List.length_map
abbrev Dn:=@Array.getElem?_append_right
abbrev CN:=@Nat.lt_of_lt_of_le
abbrev Db:=@Classical.byContradiction
abbrev Do:=@Array.getElem?_append_left
abbrev CG:=@List.all_eq_true
abbrev BS:=@Nat.add_mul
abbrev Cn:=@List.getElem?_take
abbrev Co:=@List.length_append
abbrev Bj:=@List.mem_map
abbrev CH:=@decide_eq_false
abbrev Dd:=@List.getElem?_eq_none
abbrev DP:=@Array.mem_toList_iff
abbrev C5:=@List.mem_cons_self
abbrev CQ:=@List.cons.injEq
abbrev De:=@List.mem_cons_of_mem
abbrev C6:=@List.append_assoc
abbrev Dp:=@Array.toArray_toList
abbrev D1:=@List.getElem?_toArray
abbrev EJ:=@List.take_of_length_le
abbrev DD:=@Array.size_append
abbrev DQ:=@List.nodup_append
abbrev B6:=@Nat.zero_add
abbrev Dq:=@List.pairwise_cons
abbrev Ds:=@List.append_nil
abbrev D2:=@List.append_of_mem
abbrev Fs:=@List.getD_eq_getElem?_getD
abbrev Er:=@Array.getElem?_toList
abbrev Es:=@Array.mem_of_getElem?
abbrev EK:=@List.mem_singleton
abbrev Ft:=@List.cons_append
abbrev GN:=@List.nil_append
abbrev EZ:=@Bool.not_eq_true'
abbrev Ep:=@List.getElem?_drop
abbrev FC:=@Array.getElem?_push
abbrev FD:=@List.getElem?_range
abbrev GJ:=@List.length_nil
abbrev GK:=@Option.map_eq_some_iff
abbrev Cv:=@Nat.zero_le
abbrev IQ:=@List.eq_nil_of_length_eq_zero
abbrev Fq:=@Array.length_toList
abbrev D0:=@List.all_cons
abbrev HZ:=@Array.getElem?_replicate
abbrev FQ:=@decide_eq_true_eq
abbrev Gu:=@List.mem_iff_getElem?
abbrev FR:=@Nat.lt_succ_self
abbrev Fr:=@List.take_add_one
abbrev FS:=@Option.map_some
abbrev IR:=@Array.getElem?_eq_none
abbrev GL:=@Option.getD_some
abbrev IS:=@List.length_singleton
abbrev DO:=@And.intro
abbrev GM:=@List.map_append
abbrev FT:=@Nat.add_assoc
abbrev IT:=@List.pairwise_append
abbrev FE:=@Nat.add_zero
abbrev Ha:=@List.Sublist.refl
abbrev FU:=@Nat.beq_refl
abbrev IU:=@Array.append_assoc
abbrev IV:=@Bool.not_eq_false'
abbrev JV:=@List.mem_append_left
abbrev K7:=@List.getElem?_cons_succ
abbrev IW:=@Int.toNat_natCast
abbrev PF:=@List.size_toArray
abbrev JW:=@List.dropWhile_cons
abbrev JX:=@List.filterMap_cons
abbrev JY:=@List.getElem_of_mem
abbrev JZ:=@List.map_congr_left
abbrev Ja:=@Nat.mul_le_mul_left
abbrev Hb:=@Option.some.inj
abbrev GO:=@Nat.zero_mul
abbrev K8:=@Bool.or_eq_false_iff
abbrev K9:=@Int.ofNat_eq_natCast
abbrev IX:=@Bool.eq_iff_iff
abbrev Ms:=@Bool.true_and
abbrev Mu:=@List.getElem?_cons_zero
abbrev Jb:=@List.length_take
abbrev Jc:=@List.perm_middle
abbrev Mv:=@List.sublist_cons_self
abbrev GP:=@Nat.mod_lt
abbrev PG:=@List.filterMap_eq_nil_iff
abbrev Jd:=@List.take_zero
abbrev LA:=@List.length_drop
abbrev Mw:=@List.Sublist.append
abbrev d0z:=@List.toList_toArray
abbrev PD:=@List.Nodup.not_mem_erase
abbrev Gv:=@beq_iff_eq
abbrev Mo:=@Bool.false_eq_true
abbrev K4:=@Bool.or_eq_true
abbrev K5:=@List.all_append
abbrev Mp:=@Nat.eq_zero_or_pos
abbrev PE:=@decide_eq_false_iff_not
abbrev Mq:=@List.not_mem_nil
abbrev Mr:=@Nat.mod_eq_of_lt
abbrev gF:=@Bool.not_true
abbrev K6:=@Nat.mul_comm
abbrev d0L:=@Bool.false_and
abbrev d0M:=@Bool.not_false
abbrev AA:=trivial
abbrev Ao:=@inferInstance
abbrev AQ:=@if_pos
abbrev AP:=@if_neg
abbrev AY:=@absurd
theorem C9 {c:Prop}{d:Decidable c}(h:c:=by omega){α:Sort _}{t e:α}:@ite α c d t e=t:=AQ h
theorem Ba {c:Prop}{d:Decidable c}(h:¬c:=by omega){α:Sort _}{t e:α}:@ite α c d t e=e:=AP h
theorem BB {p:Prop}[Decidable p](h:p:=by omega)  : decide p=true:=BX h
theorem Au {p:Prop}[Decidable p](h:¬p:=by omega)  : decide p=false:=CH h
theorem Bu {α:Type _}{l:List α}{i:Nat}(h:i<l.length:=by omega)  : l[i]?=some l[i]:=BK h
theorem Du {α:Type _}{l:Array α}{i:Nat}(h:i<l.size:=by omega)  : l[i]?=some l[i]:=A9 h
theorem NN {α:Type _}{i:Nat}{l:List α}(h:l.length<=i:=by omega)  : l.take i=l:=EJ h
inductive D where
 |any
 |prim (v:Value)
 |agg (ds:List D)
 |tup (ds:List D)
 |sl (nn:Bool) (sz:Nat) (es:List D)
 |pptr (d:D)
 |osl (k g sz i len:Nat)
 |optr (k g sz i off:Nat)
 |clo (fn:Fn) (first captured:List D)
 |gd (t:Bool) (d:D)
 |mp (ks vs:List D)
 |ifc (t:Nat) (d:D)
 |omp (k g:Nat)
 |oxl (k g sz i len cap:Nat)
 |oyl (k g:Nat)
 deriving Inhabited
def one:Value->Bool
 | .agg _ | .tuple _=>false
 |_=>true
def D.cells:D->List D
 | .agg ds=>ds
 |d=>[d]
structure AI where
 k:Nat
 g:Nat
 T:Nat
 sz:Nat
 es:List D
abbrev Hp:=List AI
abbrev Lk:=Nat->Nat->Option Nat
def EB (es:Array MapEntry)(clock:Nat):Prop:=(∀(i:Nat) (e:MapEntry),es[i]?=some e->e.born<clock)/\∀(i j:Nat) (e e':MapEntry),es[i]?=some e->es[j]?=some e'->e.born=e'.born->i=j
inductive AF (ρ:Lk)(O:Nat->Prop)(w:World):D->Value->Prop
 |any (v:Value):AF ρ O w .any v
 |prim (v:Value):AF ρ O w (.prim v) v
 |agg {ds:List D} {vs:Array Value} (hn:vs.size=ds.length) (ho:∀(i:Nat) (v:Value),vs[i]?=some v->one v=true)
   (h:∀(i:Nat) (d:D),ds[i]?=some d->AF ρ O w d (vs.getD i undef)):AF ρ O w (.agg ds) (.agg vs)
 |tup {ds:List D} {vs:Array Value} (hn:vs.size=ds.length)
   (h:∀(i:Nat) (d:D),ds[i]?=some d->AF ρ O w d (vs.getD i undef)):AF ρ O w (.tup ds) (.tuple vs)
 |nil (sz:Nat):AF ρ O w (.sl false sz []) (.slice none 0 0)
 |onil (k g sz:Nat):AF ρ O w (.osl k g sz 0 0) (.slice none 0 0)
 |emp {nn:Bool} {sz:Nat} (a:Addr):AF ρ O w (.sl nn sz []) (.slice (some a) 0 0)
 |mp {ks vs:List D} {r clock:Nat} {es:Array MapEntry} (hO:¬O r) (hr:r<w.heap.size) (hb:w.heap[r]?=some (.map es clock)) (h1:es.size=ks.length) (h2:es.size=vs.length) (hB:EB es clock)
   (hk:∀(i:Nat) (d:D),ks[i]?=some d->AF ρ O w d (es.getD i default).key)
   (hv:∀(i:Nat) (d:D),vs[i]?=some d->AF ρ O w d (es.getD i default).val):AF ρ O w (.mp ks vs) (.map (some r))
 |sl {nn:Bool} {sz:Nat} {es:List D} {b off len cap:Nat} (f:Nat->Value) (hl:es.length=len) (hc:len<=cap) (hO:¬O b) (hb:b<w.heap.size)
   (hz:∀(i:Nat) (e:D),es[i]?=some e->e.cells.length=sz)
   (hcell:∀n,n<len*sz->w.cell? ⟨b,off+n,none⟩=some (f n))
   (ho:∀n,n<len*sz->one (f n)=true)
   (h:∀(i:Nat) (e:D) (j:Nat) (d:D),es[i]?=some e->e.cells[j]?=some d->AF ρ O w d (f (i*sz+j))):
   AF ρ O w (.sl nn sz es) (.slice (some ⟨b,off,none⟩) len cap)
 |pptr {e:D} {b off:Nat} (f:Nat->Value) (hO:¬O b) (hb:b<w.heap.size)
   (hcell:∀n,n<e.cells.length->w.cell? ⟨b,off+n,none⟩=some (f n))
   (ho:∀n,n<e.cells.length->one (f n)=true)
   (h:∀(j:Nat) (d:D),e.cells[j]?=some d->AF ρ O w d (f j)):AF ρ O w (.pptr e) (.pointer (some ⟨b,off,none⟩))
 |osl {k g sz i len cap b T:Nat} {cs:Array Value} {fz:Nat×Nat} (hr:ρ k g=some b) (hb:w.heap[b]?=some (.cells cs T fz)) (hc:len<=cap)
   (hs:(i+cap)*sz=cs.size) (hm:i+cap<=maxLen):AF ρ O w (.osl k g sz i len) (.slice (some ⟨b,i*sz,none⟩) len cap)
 |optr {k g sz i off b:Nat} (hr:ρ k g=some b):AF ρ O w (.optr k g sz i off) (.pointer (some ⟨b,i*sz+off,none⟩))
 |clo {fn:Fn} {first captured:List D} {fs cs:Array Value} (hf:fs.size=first.length) (hc:cs.size=captured.length)
   (h1:∀(i:Nat) (d:D),first[i]?=some d->AF ρ O w d (fs.getD i undef))
   (h2:∀(i:Nat) (d:D),captured[i]?=some d->AF ρ O w d (cs.getD i undef)):AF ρ O w (.clo fn first captured) (.func fn fs cs)
 |gd {t:Bool} {d:D} {v:Value} (h1:t=true->AF ρ O w d v) (h2:t=false->v=undef):AF ρ O w (.gd t d) v
 |ifc {t:Nat} {d:D} {v:Value} (h:AF ρ O w d v):AF ρ O w (.ifc t d) (.iface t v)
 |omp {k g b:Nat} (hr:ρ k g=some b):AF ρ O w (.omp k g) (.map (some b))
 |oxl {k g sz i len cap b T:Nat} {cs:Array Value} {fz:Nat×Nat} (hr:ρ k g=some b) (hb:w.heap[b]?=some (.cells cs T fz)) (hc:len<=cap)
   (hs:(i+cap)*sz=cs.size) (hm:i+cap<=maxLen):AF ρ O w (.oxl k g sz i len cap) (.slice (some ⟨b,i*sz,none⟩) len cap)
 |oyl {k g l:Nat} (hr:ρ k g=some l):AF ρ O w (.oyl k g) (.func (.yield l) #[] #[])
structure Al (ρ:Lk)(O:Nat->Prop)(w:World)(ρ':Lk)(O':Nat->Prop)(w':World):Prop where
 size:w.heap.size<=w'.heap.size
 link:∀k g b,ρ k g=some b->ρ' k g=some b
 pure:∀b,b<w.heap.size->¬O b->¬O' b/\w'.heap[b]?=w.heap[b]?
 shape:∀(b:Nat) (cs:Array Value) (T:Nat) (fz:Nat×Nat),w.heap[b]?=some (.cells cs T fz) ->
  ∃(cs':Array Value) (fz':Nat×Nat),w'.heap[b]?=some (.cells cs' T fz')/\cs'.size=cs.size
theorem AF.mono {ρ ρ':Lk}{O O':Nat->Prop}{w w':World}{d:D}{v:Value}(h:AF ρ O w d v)(x:Al ρ O w ρ' O' w'):AF ρ' O' w' d v:=by
 induction h with
 |any v=>exact .any v
 |prim v=>exact .prim v
 |agg hn ho _ ih=>exact .agg hn ho ih
 |tup hn _ ih=>exact .tup hn ih
 |nil sz=>exact .nil sz
 |onil k g sz=>exact .onil k g sz
 |emp a=>exact .emp a
 |mp hO hr hb h1 h2 hB _ _ ih1 ih2=>
  obtain⟨a1,a2⟩:=x.pure _ hr hO;exact .mp a1 (CN hr x.size) (a2.trans hb) h1 h2 hB ih1 ih2
 |sl f hl hc hO hb hz hcell ho _ ih=>
  obtain⟨h1,h2⟩:=x.pure _ hb hO;refine .sl f hl hc h1 (CN hb x.size) hz (λn hn=>?_) ho ih
  have:=hcell n hn
  unfold World.cell? at*;simp only[h2];exact this
 |pptr f hO hb hcell ho _ ih=>
  obtain⟨h1,h2⟩:=x.pure _ hb hO;refine .pptr f h1 (CN hb x.size) (λn hn=>?_) ho ih
  have:=hcell n hn
  unfold World.cell? at*;simp only[h2];exact this
 |osl hr hb hc hs hm=>
  obtain⟨cs',fz',h1,h2⟩:=x.shape _ _ _ _ hb;exact .osl (x.link _ _ _ hr) h1 hc (by omega) hm
 |optr hr=>exact .optr (x.link _ _ _ hr)
 |omp hr=>exact .omp (x.link _ _ _ hr)
 |oxl hr hb hc hs hm=>
  obtain⟨cs',fz',h1,h2⟩:=x.shape _ _ _ _ hb;exact .oxl (x.link _ _ _ hr) h1 hc (by omega) hm
 |oyl hr=>exact .oyl (x.link _ _ _ hr)
 |clo hf hc _ _ ih1 ih2=>exact .clo hf hc ih1 ih2
 |gd _ h2 ih=>exact .gd ih h2
 |ifc _ ih=>exact .ifc ih
theorem AF.wk {ρ:Lk}{O:Nat->Prop}{w:World}{k g sz i len cap:Nat}{v:Value}(h:AF ρ O w (.oxl k g sz i len cap) v):AF ρ O w (.osl k g sz i len) v:=by
 cases h with
 |oxl hr hb hc hs hm=>exact .osl hr hb hc hs hm
def wkD:D->D
 | .oxl k g sz i len _=>.osl k g sz i len
 |d=>d
theorem AF.wkD {ρ:Lk}{O:Nat->Prop}{w:World}{d:D}{v:Value}(h:AF ρ O w d v):AF ρ O w (wkD d) v:=by
 cases h<;>first|(rename_i hr hb hc hs hm;exact(AF.oxl hr hb hc hs hm).wk)|(constructor<;>assumption)
theorem AF.anti {ρ:Lk}{O O':Nat->Prop}{w:World}{d:D}{v:Value}(h:AF ρ O w d v)(x:∀b,O' b->O b):AF ρ O' w d v:=by
 induction h with
 |any v=>exact .any v
 |prim v=>exact .prim v
 |agg hn ho _ ih=>exact .agg hn ho ih
 |tup hn _ ih=>exact .tup hn ih
 |nil sz=>exact .nil sz
 |onil k g sz=>exact .onil k g sz
 |emp a=>exact .emp a
 |mp hO hr hb h1 h2 hB _ _ ih1 ih2=>exact .mp (λh=>hO (x _ h)) hr hb h1 h2 hB ih1 ih2
 |sl f hl hc hO hb hz hcell ho _ ih=>exact .sl f hl hc (λh=>hO (x _ h)) hb hz hcell ho ih
 |pptr f hO hb hcell ho _ ih=>exact .pptr f (λh=>hO (x _ h)) hb hcell ho ih
 |osl hr hb hc hs hm=>exact .osl hr hb hc hs hm
 |optr hr=>exact .optr hr
 |omp hr=>exact .omp hr
 |oxl hr hb hc hs hm=>exact .oxl hr hb hc hs hm
 |oyl hr=>exact .oyl hr
 |clo hf hc _ _ ih1 ih2=>exact .clo hf hc ih1 ih2
 |gd _ h2 ih=>exact .gd ih h2
 |ifc _ ih=>exact .ifc ih
def BV (d:D):Prop:=∀(ρ ρ':Lk) (O:Nat->Prop) (w:World) (v:Value),AF ρ O w d v->AF ρ' O w d v
theorem BV.any:BV .any:=λ_ _ _ _ v _=>.any v
theorem BV.prim (v:Value):BV (.prim v):=λ_ _ _ _ _ h=>by cases h;exact .prim v
theorem BV.agg {ds:List D}(h:∀d∈ds,BV d):BV (.agg ds):=λ_ _ _ _ _ hr=>by
 cases hr with|agg hn ho hh=>exact .agg hn ho λi d hd=>h d (Bf hd) _ _ _ _ _ (hh i d hd)
theorem BV.tup {ds:List D}(h:∀d∈ds,BV d):BV (.tup ds):=λ_ _ _ _ _ hr=>by
 cases hr with|tup hn hh=>exact .tup hn λi d hd=>h d (Bf hd) _ _ _ _ _ (hh i d hd)
theorem BV.sl {nn:Bool}{sz:Nat}{es:List D}(h:∀e∈es,∀d∈e.cells,BV d):BV (.sl nn sz es):=λ_ _ _ _ _ hr=>by
 cases hr with
 |nil=>exact .nil _
 |emp a=>exact .emp a
 |sl f hl hc hO hb hz hcell ho hh=>
  exact .sl f hl hc hO hb hz hcell ho λi e j d he hd=>h e (Bf he) d (Bf hd) _ _ _ _ _ (hh i e j d he hd)
theorem BV.pptr {e:D}(h:∀d∈e.cells,BV d):BV (.pptr e):=λ_ _ _ _ _ hr=>by
 cases hr with
 |pptr f hO hb hcell ho hh=>exact .pptr f hO hb hcell ho λj d hd=>h d (Bf hd) _ _ _ _ _ (hh j d hd)
theorem BV.clo {fn:Fn}{first captured:List D}(h1:∀d∈first,BV d)(h2:∀d∈captured,BV d):BV (.clo fn first captured):=λ_ _ _ _ _ hr=>by
 cases hr with
 |clo hf hc a1 a2=>exact .clo hf hc (λi d hd=>h1 d (Bf hd) _ _ _ _ _ (a1 i d hd)) (λi d hd=>h2 d (Bf hd) _ _ _ _ _ (a2 i d hd))
theorem BV.ifc {t:Nat}{d:D}(h:BV d):BV (.ifc t d):=λ_ _ _ _ _ hr=>by
 cases hr with|ifc a=>exact .ifc (h _ _ _ _ _ a)
theorem BV.mp {ks vs:List D}(h1:∀d∈ks,BV d)(h2:∀d∈vs,BV d):BV (.mp ks vs):=λ_ _ _ _ _ hr=>by
 cases hr with
 |mp hO hr hb a1 a2 hB hk hv=>exact .mp hO hr hb a1 a2 hB (λi d hd=>h1 d (Bf hd) _ _ _ _ _ (hk i d hd)) (λi d hd=>h2 d (Bf hd) _ _ _ _ _ (hv i d hd))
theorem Uf {v:Value}(h:one v=true):v.cells = #[v]:=by
 cases v<;>first|rfl|simp[one]at h
def ofV:Value->D
 | .agg vs=>.agg (vs.toList.map .prim)
 |v=>.prim v
theorem AF.ofV {ρ:Lk}{O:Nat->Prop}{w:World}{v:Value}(h:∀(i:Nat) (x:Value),v.cells[i]?=some x->one x=true\/¬ ∃vs,v=.agg vs):AF ρ O w (ofV v) v:=by
 cases v
 case agg vs=>
  refine .agg (by simp) (λi x hx=>(h i x hx).resolve_right (by simp)) λi d hd=>?_
  simp at hd;obtain⟨x,hx,rfl⟩:=hd;simp[hx];exact .prim x
 all_goals exact .prim _
def Gi:Nat->List D->List D
 | 0,_=>[]
 |n+1,d::l=>d::Gi n l
 |_,[]=>[]
def GE:Nat->List D->List D
 | 0,l=>l
 |n+1,_::l=>GE n l
 |_,[]=>[]
def Cz (ag:Bool)(sz off:Nat)(cs:List D):Option D:=
 match ag with
 |true=>some (.agg (Gi sz (GE off cs)))
 |false=>match GE off cs with
  |d::_=>some d
  | []=>none
theorem Qv (n:Nat)(l:List D):Gi n l=l.take n:=by
 induction n generalizing l with
 |zero=>cases l<;>rfl
 |succ n ih=>cases l<;>simp[Gi,ih]
theorem Lr (n:Nat)(l:List D):GE n l=l.drop n:=by
 induction n generalizing l with
 |zero=>cases l<;>rfl
 |succ n ih=>cases l<;>simp[GE,ih]
def Da:List D->Nat->List D->List D
 |l,_,[]=>l
 | [],_,_=>[]
 |_::l,0,c::cs=>c::Da l 0 cs
 |x::l,n+1,c::cs=>x::Da l n (c::cs)
def E5:List D->Nat->D->List D
 | [],_,_=>[]
 |_::l,0,d=>d::l
 |x::l,n+1,d=>x::E5 l n d
theorem J8 (l:List D)(i:Nat)(d:D):E5 l i d=l.set i d:=by
 induction l generalizing i with
 |nil=>simp[E5]
 |cons x l ih=>cases i<;>simp[E5,ih]
theorem Pu (l:List D)(off:Nat)(cs:List D):(Da l off cs).length=l.length:=by
 fun_induction Da l off cs<;>simp_all
theorem Qq (l:List D)(off:Nat)(cs:List D)(j:Nat):
  (Da l off cs)[j]?=if j<l.length/\off<=j/\j<off+cs.length then cs[j-off]? else l[j]?:=by
 fun_induction Da l off cs generalizing j with
 |case1 l off=>simp;omega
 |case2 off cs h=>simp
 |case3 x l c cs ih=>
  cases j with
  |zero=>simp
  |succ j=>
   simp only[K7,ih,CP]
   by_cases h:j<l.length/\j<cs.length
   ·rw[C9,C9];simp
   ·rw[Ba,Ba]
 |case4 x l n c cs ih=>
  cases j with
  |zero=>simp
  |succ j=>
   simp only[K7,ih,CP]
   by_cases h:j<l.length/\n<=j/\j<n+(cs.length+1)
   ·rw[C9,C9]
    congr 1;omega
   ·rw[Ba,Ba]
structure AX where
 P:Program
 G:World->Prop
 nG:Nat
 hG:∀w w',G w->Below nG w w'->G w'
structure AH where
 w0:World
 X:Nat->Prop
 Wr:Nat->Prop
 nt:Nat
 r0:Lk
 df:List Deferred
def AE (X:Nat->Prop)(ρ:Lk)(H:Hp)(b:Nat):Prop:=X b\/∃e∈H,ρ e.k e.g=some b
structure Bq (ρ:Lk)(O:Nat->Prop)(w:World)(e:AI)(cs:Array Value):Prop where
 len:e.es.length*e.sz<=cs.size
 siz:∀(i:Nat) (d:D),e.es[i]?=some d->d.cells.length=e.sz
 one:∀(i:Nat) (v:Value),cs[i]?=some v->one v=true
 rep:∀(i:Nat) (d:D) (j:Nat) (c:D),e.es[i]?=some d->d.cells[j]?=some c->AF ρ O w c (cs.getD (i*e.sz+j) undef)
structure Oh (ρ:Lk)(O:Nat->Prop)(w:World)(e:AI)(es:Array MapEntry)(clock:Nat):Prop where
 len:es.size=e.es.length
 born:EB es clock
 siz:∀(i:Nat) (d:D),e.es[i]?=some d->d.cells.length=2
 key:∀(i:Nat) (d c:D),e.es[i]?=some d->d.cells[0]?=some c->AF ρ O w c (es.getD i default).key
 val:∀(i:Nat) (d c:D),e.es[i]?=some d->d.cells[1]?=some c->AF ρ O w c (es.getD i default).val
def DR (dn:List Nat):D:=.agg (dn.map λ(i:Nat)=>.prim (.int .i64 (Int.ofNat i)))
structure Gf (ρ:Lk)(O:Nat->Prop)(w:World)(e:AI)(bm since:Nat)(seen:Array Nat)(c0:Nat):Prop where
 it:∃ks vs dn es,e.es=[.mp ks vs,DR dn]/\AF ρ O w (.mp ks vs) (.map (some bm))/\w.heap[bm]?=some (.map es c0)/\(∀(i:Nat) (e:MapEntry),es[i]?=some e->e.born<since)/\since<=c0 /\
  seen.toList=dn.map (λi=>(es.getD i default).born)/\dn.Nodup/\∀i∈dn,i<es.size
def C1 (ρ:Lk)(O:Nat->Prop)(w:World)(e:AI):Obj->Prop
 | .cells cs T fz=>T=e.T/\fz=(0,0)/\e.sz≠0/\Bq ρ O w e cs
 | .map es clock=>e.sz=0/\e.T=0/\Oh ρ O w e es clock
 | .mapIter (some bm) since seen c0=>e.sz=0/\e.T=1/\Gf ρ O w e bm since seen c0
 |_=>False
structure Ts (F:AH)(ρ:Lk)(H:Hp)(w:World):Prop where
 ent:∀e∈H,(e.es=[]/\ρ e.k e.g=none)\/∃b o,ρ e.k e.g=some b/\w.heap[b]?=some o/\C1 ρ (AE F.X ρ H) w e o
 inj:H.Pairwise λe e'=>∀b b',ρ e.k e.g=some b->ρ e'.k e'.g=some b'->b≠b'
 own:∀e∈H,∀b,ρ e.k e.g=some b->¬F.X b/\(F.w0.heap.size<=b\/F.Wr b)
structure AL (C:AX)(F:AH)(ρ:Lk)(H:Hp)(w:World):Prop where
 hok:Ts F ρ H w
 os:w.os=F.w0.os
 tape:w.tape=F.w0.tape
 output:w.output=F.w0.output
 size:F.w0.heap.size<=w.heap.size
 blk:∀b,b<F.w0.heap.size->¬F.Wr b->w.heap[b]?=F.w0.heap[b]?
 xlt:∀b,F.X b->b<F.w0.heap.size
 g0:C.G F.w0
 gn:C.nG<=F.w0.heap.size
 gw:∀b,F.Wr b->C.nG<=b
 lnk:∀k g b,F.r0 k g=some b->ρ k g=some b
 shp:∀(b:Nat) (cs:Array Value) (T:Nat) (fz:Nat×Nat),F.w0.heap[b]?=some (.cells cs T fz)->∃(cs':Array Value) (fz':Nat×Nat),w.heap[b]?=some (.cells cs' T fz')/\cs'.size=cs.size
theorem AL.below {C:AX}{F:AH}{ρ:Lk}{H:Hp}{w:World}(m:AL C F ρ H w):Below C.nG F.w0 w:=
 ⟨m.os,m.tape,m.output,m.size,λb hb=>m.blk b (CN hb m.gn) λh=>AY (m.gw b h) (by omega)⟩
theorem AL.g {C:AX}{F:AH}{ρ:Lk}{H:Hp}{w:World}(m:AL C F ρ H w):C.G w:=C.hG _ _ m.g0 m.below
theorem Bq.mono {ρ ρ':Lk}{O O':Nat->Prop}{w w':World}{e:AI}{cs:Array Value}(h:Bq ρ O w e cs)(x:Al ρ O w ρ' O' w'):Bq ρ' O' w' e cs:=
 ⟨h.len,h.siz,h.one,λi d j c hi hj=>(h.rep i d j c hi hj).mono x⟩
theorem Bq.anti {ρ:Lk}{O O':Nat->Prop}{w:World}{e:AI}{cs:Array Value}(h:Bq ρ O w e cs)(x:∀b,O' b->O b):Bq ρ O' w e cs:=
 ⟨h.len,h.siz,h.one,λi d j c hi hj=>(h.rep i d j c hi hj).anti x⟩
theorem Gf.mono {ρ ρ':Lk}{O O':Nat->Prop}{w w':World}{e:AI}{bm since c0:Nat}{seen:Array Nat}(h:Gf ρ O w e bm since seen c0)(x:Al ρ O w ρ' O' w'):Gf ρ' O' w' e bm since seen c0:=by
 obtain⟨ks,vs,dn,es,h1,h2,h3,h4⟩:=h.it;refine⟨ks,vs,dn,es,h1,h2.mono x,?_,h4⟩;cases h2 with
 |mp hO hr hb _ _ _ _ _=>exact(x.pure bm hr hO).2.trans h3
theorem Gf.anti {ρ:Lk}{O O':Nat->Prop}{w:World}{e:AI}{bm since c0:Nat}{seen:Array Nat}(h:Gf ρ O w e bm since seen c0)(x:∀b,O' b->O b):Gf ρ O' w e bm since seen c0:=by
 obtain⟨ks,vs,dn,es,h1,h2,h3,h4⟩:=h.it;exact⟨ks,vs,dn,es,h1,h2.anti x,h3,h4⟩
theorem C1.cas {ρ:Lk}{O:Nat->Prop}{w:World}{e:AI}{o:Obj}(h:C1 ρ O w e o):
  (∃cs,o=.cells cs e.T (0,0)/\e.sz≠0/\Bq ρ O w e cs)\/(∃es clock,o=.map es clock/\e.sz=0/\e.T=0/\Oh ρ O w e es clock) \/
  ∃bm since seen c0,o=.mapIter (some bm) since seen c0/\e.sz=0/\e.T=1/\Gf ρ O w e bm since seen c0:=by
 unfold C1 at h;split at h
 ·obtain⟨rfl,rfl,h⟩:=h;exact .inl ⟨_,rfl,h⟩
 ·exact .inr (.inl ⟨_,_,rfl,h⟩)
 ·exact .inr (.inr ⟨_,_,_,_,rfl,h⟩)
 ·exact h.elim
theorem C1.mono {ρ ρ':Lk}{O O':Nat->Prop}{w w':World}{e:AI}{o:Obj}(h:C1 ρ O w e o)(x:Al ρ O w ρ' O' w'):C1 ρ' O' w' e o:=by
 rcases h.cas with⟨cs,rfl,c,d⟩|⟨es,cl,rfl,a,t,b⟩|⟨bm,si,se,c0,rfl,a,t,b⟩
 ·exact⟨rfl,rfl,c,d.mono x⟩
 ·exact⟨a,t,b.len,b.born,b.siz,λi d c hd hc=>(b.key i d c hd hc).mono x,λi d c hd hc=>(b.val i d c hd hc).mono x⟩
 ·exact⟨a,t,b.mono x⟩
theorem C1.anti {ρ:Lk}{O O':Nat->Prop}{w:World}{e:AI}{o:Obj}(h:C1 ρ O w e o)(x:∀b,O' b->O b):C1 ρ O' w e o:=by
 rcases h.cas with⟨cs,rfl,c,d⟩|⟨es,cl,rfl,a,t,b⟩|⟨bm,si,se,c0,rfl,a,t,b⟩
 ·exact⟨rfl,rfl,c,d.anti x⟩
 ·exact⟨a,t,b.len,b.born,b.siz,λi d c hd hc=>(b.key i d c hd hc).anti x,λi d c hd hc=>(b.val i d c hd hc).anti x⟩
 ·exact⟨a,t,b.anti x⟩
theorem C1.ren {ρ:Lk}{O:Nat->Prop}{w:World}{e:AI}{o:Obj}(h:C1 ρ O w e o)(k g:Nat):C1 ρ O w ⟨k,g,e.T,e.sz,e.es⟩ o:=by
 rcases h.cas with⟨cs,rfl,c,d⟩|⟨es,cl,rfl,a,t,b⟩|⟨bm,si,se,c0,rfl,a,t,b⟩
 ·exact⟨rfl,rfl,c,d.len,d.siz,d.one,d.rep⟩
 ·exact⟨a,t,b.len,b.born,b.siz,b.key,b.val⟩
 ·exact⟨a,t,⟨b.it⟩⟩
theorem Bq.obj {ρ:Lk}{O:Nat->Prop}{w:World}{e:AI}{cs:Array Value}(h:Bq ρ O w e cs)(hz:e.sz≠0):C1 ρ O w e (.cells cs e.T (0,0)):=⟨rfl,rfl,hz,h⟩
theorem Al.refl (ρ:Lk)(O:Nat->Prop)(w:World):Al ρ O w ρ O w:=⟨Ah _,λ_ _ _ h=>h,λ_ _ h=>⟨h,rfl⟩,λ_ cs _ _ h=>⟨cs,_,h,rfl⟩⟩
theorem Al.trans {ρ ρ' ρ'':Lk}{O O' O'':Nat->Prop}{w w' w'':World}(h:Al ρ O w ρ' O' w')(k:Al ρ' O' w' ρ'' O'' w''):Al ρ O w ρ'' O'' w'':=
 ⟨Ax h.size k.size,λ_ _ _ x=>k.link _ _ _ (h.link _ _ _ x),
  λb hb hO=>⟨(k.pure b (CN hb h.size) (h.pure b hb hO).1).1,((k.pure b (CN hb h.size) (h.pure b hb hO).1).2).trans (h.pure b hb hO).2⟩,
  λb cs T fz x=>by
   obtain⟨c1,f1,h1,h2⟩:=h.shape b cs T fz x;obtain⟨c2,f2,h3,h4⟩:=k.shape b c1 T f1 h1;exact⟨c2,f2,h3,h4.trans h2⟩⟩
def Lk.put (ρ:Lk)(k g b:Nat):Lk:=λk' g'=>if k'=k/\g'=g then some b else ρ k' g'
theorem CF (ρ:Lk)(k g b:Nat):ρ.put k g b k g=some b:=by simp[Lk.put]
theorem JU {ρ:Lk}{k g b:Nat}(h:ρ k g=none){k' g' b':Nat}(h':ρ k' g'=some b'):ρ.put k g b k' g'=some b':=by
 unfold Lk.put;split
 ·rename_i hh;obtain⟨rfl,rfl⟩:=hh;rw[h]at h';cases h'
 ·exact h'
theorem Fg {F:AH}{ρ ρ':Lk}{O O':Nat->Prop}{w w':World}
  (h:∀(b:Nat) (cs:Array Value) (T:Nat) (fz:Nat×Nat),F.w0.heap[b]?=some (.cells cs T fz)->∃(cs':Array Value) (fz':Nat×Nat),w.heap[b]?=some (.cells cs' T fz')/\cs'.size=cs.size) (x:Al ρ O w ρ' O' w'):
  ∀(b:Nat) (cs:Array Value) (T:Nat) (fz:Nat×Nat),F.w0.heap[b]?=some (.cells cs T fz)->∃(cs':Array Value) (fz':Nat×Nat),w'.heap[b]?=some (.cells cs' T fz')/\cs'.size=cs.size:=λb cs T fz hb=>by
 obtain⟨c1,f1,h1,h2⟩:=h b cs T fz hb;obtain⟨c2,f2,h3,h4⟩:=x.shape b c1 T f1 h1;exact⟨c2,f2,h3,h4.trans h2⟩
section mem
variable {C:AX} {F:AH} {ρ:Lk} {H:Hp} {w:World}
theorem AL.atO (m:AL C F ρ H w){e:AI}(he:e∈H){b:Nat}(hb:ρ e.k e.g=some b):
  ∃o,w.heap[b]?=some o/\C1 ρ (AE F.X ρ H) w e o:=by
 rcases m.hok.ent e he with⟨_,h⟩|⟨b',o,h1,h2,h3⟩
 ·rw[hb]at h;cases h
 ·rw[hb]at h1;cases h1;exact⟨o,h2,h3⟩
theorem AL.at (m:AL C F ρ H w){e:AI}(he:e∈H){b:Nat}(hb:ρ e.k e.g=some b)(hz:e.sz≠0):
  ∃cs,w.heap[b]?=some (.cells cs e.T (0,0))/\Bq ρ (AE F.X ρ H) w e cs:=by
 obtain⟨o,h1,h2⟩:=m.atO he hb;rcases h2.cas with⟨cs,rfl,c,d⟩|⟨es,cl,rfl,a,t,b⟩|⟨bm,si,se,c0,rfl,a,t,b⟩
 ·exact⟨_,h1,d⟩
 ·exact AY a hz
 ·exact AY a hz
theorem AL.atC (m:AL C F ρ H w){e:AI}(he:e∈H){b:Nat}(hb:ρ e.k e.g=some b){cs:Array Value}{T:Nat}{fz:Nat×Nat}(hc:w.heap[b]?=some (.cells cs T fz)):
  ∃cs,w.heap[b]?=some (.cells cs e.T (0,0))/\Bq ρ (AE F.X ρ H) w e cs:=by
 obtain⟨o,h1,h2⟩:=m.atO he hb;rw[hc]at h1;cases h1;obtain⟨rfl,rfl,-,h⟩:=h2;exact⟨_,hc,h⟩
theorem AL.szC (m:AL C F ρ H w){e:AI}(he:e∈H){b:Nat}(hb:ρ e.k e.g=some b){cs:Array Value}{T:Nat}{fz:Nat×Nat}(hc:w.heap[b]?=some (.cells cs T fz)):e.sz≠0:=by
 obtain⟨o,h1,h2⟩:=m.atO he hb;rw[hc]at h1;cases h1;exact h2.2.2.1
theorem AL.atM (m:AL C F ρ H w){e:AI}(he:e∈H){b:Nat}(hb:ρ e.k e.g=some b)(hz:e.sz=0)(hT:e.T=0):
  ∃es clock,w.heap[b]?=some (.map es clock)/\Oh ρ (AE F.X ρ H) w e es clock:=by
 obtain⟨o,h1,h2⟩:=m.atO he hb;rcases h2.cas with⟨cs,rfl,c,d⟩|⟨es,cl,rfl,a,t,b⟩|⟨bm,si,se,c0,rfl,a,t,b⟩
 ·exact AY hz c
 ·exact⟨_,_,h1,b⟩
 ·rw[hT]at t;cases t
theorem AL.atI (m:AL C F ρ H w){e:AI}(he:e∈H){b:Nat}(hb:ρ e.k e.g=some b)(hz:e.sz=0)(hT:e.T=1):
  ∃bm since seen c0,w.heap[b]?=some (.mapIter (some bm) since seen c0)/\Gf ρ (AE F.X ρ H) w e bm since seen c0:=by
 obtain⟨o,h1,h2⟩:=m.atO he hb;rcases h2.cas with⟨cs,rfl,c,d⟩|⟨es,cl,rfl,a,t,b⟩|⟨bm,si,se,c0,rfl,a,t,b⟩
 ·exact AY hz c
 ·rw[hT]at t;cases t
 ·exact⟨_,_,_,_,h1,b⟩
theorem AL.lt (m:AL C F ρ H w){e:AI}(he:e∈H){b:Nat}(hb:ρ e.k e.g=some b):b<w.heap.size:=by
 obtain⟨cs,h2,_⟩:=m.atO he hb;rcases Ar b w.heap.size with h|h
 ·exact h
 ·simp[IR h]at h2
theorem AL.own_lt (m:AL C F ρ H w){b:Nat}(h:AE F.X ρ H b):b<w.heap.size:=by
 rcases h with h|⟨e,he,hb⟩
 ·exact CN (m.xlt b h) m.size
 ·exact m.lt he hb
theorem CS (w:World)(o:Obj)(b:Nat):(w.alloc o).heap[b]?=if b=w.heap.size then some o else w.heap[b]?:=by
 show(w.heap.push o)[b]?=_;rw[FC]
theorem Al.allocPure (o:Obj):Al ρ (AE F.X ρ H) w ρ (AE F.X ρ H) (w.alloc o):=
 ⟨by simp,λ_ _ _ h=>h,λb hb hO=>⟨hO,by rw[CS,Ba]⟩,λb cs T fz h=>⟨cs,_,by
  rw[CS,AP];exact h;intro hb;subst hb;simp at h,rfl⟩⟩
theorem AL.same {w':World}(m:AL C F ρ H w)(x:Al ρ (AE F.X ρ H) w ρ (AE F.X ρ H) w')(h1:w'.os=w.os)(h2:w'.tape=w.tape)(h3:w'.output=w.output)
  (h4:∀b,b<w.heap.size->w'.heap[b]?=w.heap[b]?):AL C F ρ H w' where
 hok:=⟨λe he=>by
  rcases m.hok.ent e he with h|⟨b,cs,a1,a2,a3⟩
  ·exact .inl h
  ·exact .inr ⟨b,cs,a1,by rw[h4 b (m.lt he a1)];exact a2,a3.mono x⟩,m.hok.inj,m.hok.own⟩
 os:=h1.trans m.os
 tape:=h2.trans m.tape
 output:=h3.trans m.output
 size:=Ax m.size x.size
 blk:=λb hb hw=>by rw[h4 b (CN hb m.size)];exact m.blk b hb hw
 xlt:=m.xlt
 g0:=m.g0
 gn:=m.gn
 gw:=m.gw
 lnk:=m.lnk
 shp:=Fg m.shp x
theorem AL.allocPure (m:AL C F ρ H w)(o:Obj):AL C F ρ H (w.alloc o):=
 m.same (.allocPure o) rfl rfl rfl λb hb=>by rw[CS,Ba]
theorem AL.drew (m:AL C F ρ H w):AL C F ρ H w.drew:=
 m.same ⟨Ah _,λ_ _ _ h=>h,λ_ _ h=>⟨h,rfl⟩,λ_ cs _ _ h=>⟨cs,_,h,rfl⟩⟩ rfl rfl rfl λ_ _=>rfl
theorem Al.drew (ρ:Lk)(O:Nat->Prop)(w:World):Al ρ O w ρ O w.drew:=⟨Ah _,λ_ _ _ h=>h,λ_ _ h=>⟨h,rfl⟩,λ_ cs _ _ h=>⟨cs,_,h,rfl⟩⟩
theorem AL.allocO (m:AL C F ρ H w)(e:AI)(o:Obj)(hn:ρ e.k e.g=none)(hnew:∀e'∈H,¬(e'.k=e.k/\e'.g=e.g))(ho:C1 ρ (AE F.X ρ H) w e o):
  AL C F (ρ.put e.k e.g w.heap.size) (e::H) (w.alloc o) /\
  Al ρ (AE F.X ρ H) w (ρ.put e.k e.g w.heap.size) (AE F.X (ρ.put e.k e.g w.heap.size) (e::H)) (w.alloc o):=by
 have hne:∀e'∈H,∀b,ρ e'.k e'.g=some b->ρ.put e.k e.g w.heap.size e'.k e'.g=some b:=λe' _ b h=>JU hn h
 have hinv:∀e'∈H,∀b,ρ.put e.k e.g w.heap.size e'.k e'.g=some b->ρ e'.k e'.g=some b:=λe' he' b h=>by
  unfold Lk.put at h;rw[AP (hnew e' he')]at h;exact h
 have x:Al ρ (AE F.X ρ H) w (ρ.put e.k e.g w.heap.size) (AE F.X (ρ.put e.k e.g w.heap.size) (e::H)) (w.alloc o):=by
  refine⟨by simp,λ_ _ _ h=>JU hn h,λb hb hO=>⟨?_,by rw[CS,Ba]⟩,λb cs' T fz h=>⟨cs',fz,?_,rfl⟩⟩
  ·rintro(h|⟨e',he',hb'⟩)
   ·exact hO (.inl h)
   ·rcases Ae.1 he' with rfl|he'
    ·rw[CF]at hb';cases hb';omega
    ·exact hO (.inr ⟨e',he',hinv e' he' b hb'⟩)
  ·rw[CS,AP]
   ·exact h
   ·intro hb;subst hb;simp at h
 refine⟨⟨⟨?_,?_,?_⟩,m.os,m.tape,m.output,Ax m.size (by simp),?_,m.xlt,m.g0,m.gn,m.gw,λ_ _ _ h=>x.link _ _ _ (m.lnk _ _ _ h),Fg m.shp x⟩,x⟩
 ·intro e' he'
  rcases Ae.1 he' with rfl|he'
  ·exact .inr ⟨w.heap.size,o,CF _ _ _ _,by rw[CS,AQ rfl],ho.mono x⟩
  ·rcases m.hok.ent e' he' with⟨h1,h2⟩|⟨b,cs',h1,h2,h3⟩
   ·exact .inl ⟨h1,by unfold Lk.put;rw[AP (hnew e' he')];exact h2⟩
   ·have:=m.lt he' h1
    exact .inr ⟨b,cs',hne e' he' b h1,by rw[CS,Ba];exact h2,h3.mono x⟩
 ·refine Dq.2 ⟨λe' he' b b' h h'=>?_,?_⟩
  ·rw[CF]at h;cases h
   have:=m.lt he' (hinv e' he' b' h')
   omega
  ·refine m.hok.inj.imp_of_mem λ{e1 e2} h1 h2 h b b' hb hb'=>h b b' (hinv e1 h1 b hb) (hinv e2 h2 b' hb')
 ·intro e' he' b hb
  rcases Ae.1 he' with rfl|he'
  ·rw[CF]at hb;cases hb
   exact⟨λh=>AY (m.xlt _ h) (by have:=m.size;omega),.inl m.size⟩
  ·exact m.hok.own e' he' b (hinv e' he' b hb)
 ·intro b hb hw
  have:=m.size
  rw[CS,Ba];exact m.blk b hb hw
theorem AL.alloc (m:AL C F ρ H w)(e:AI)(cs:Array Value)(hn:ρ e.k e.g=none)(hnew:∀e'∈H,¬(e'.k=e.k/\e'.g=e.g))(hz:e.sz≠0)(ho:Bq ρ (AE F.X ρ H) w e cs):
  AL C F (ρ.put e.k e.g w.heap.size) (e::H) (w.alloc (.cells cs e.T)) /\
  Al ρ (AE F.X ρ H) w (ρ.put e.k e.g w.heap.size) (AE F.X (ρ.put e.k e.g w.heap.size) (e::H)) (w.alloc (.cells cs e.T)):=
 m.allocO e _ hn hnew (ho.obj hz)
def World.setBlk (w:World)(b:Nat)(cs:Array Value)(T:Nat):World:={ w with heap:=w.heap.setIfInBounds b (.cells cs T (0,0)) }
theorem UD (w:World)(b:Nat)(cs:Array Value)(T:Nat)(b':Nat)(hb:b<w.heap.size):
  (World.setBlk w b cs T).heap[b']?=if b'=b then some (.cells cs T (0,0))else w.heap[b']?:=by
 simp only[World.setBlk,C4]
 by_cases h:b'=b
 ·subst h;simp[hb]
 ·rw[AP (Ne.symm h),AP h]
def World.setO (w:World)(b:Nat)(o:Obj):World:={ w with heap:=w.heap.setIfInBounds b o }
theorem J1 (w:World)(b:Nat)(o:Obj)(b':Nat)(hb:b<w.heap.size):(World.setO w b o).heap[b']?=if b'=b then some o else w.heap[b']?:=by
 simp only[World.setO,C4]
 by_cases h:b'=b
 ·subst h;simp[hb]
 ·rw[AP (Ne.symm h),AP h]
theorem AL.writeO {H1 H2:Hp}{e e':AI}{b:Nat}{o:Obj}(m:AL C F ρ (H1++e::H2) w)(hb:ρ e.k e.g=some b)
  (hk:e'.k=e.k) (hg:e'.g=e.g) (hs:∀cs T fz,w.heap[b]?=some (.cells cs T fz)->∃cs' fz',o=.cells cs' T fz'/\cs'.size=cs.size) (ho:C1 ρ (AE F.X ρ (H1++e::H2)) w e' o):
  AL C F ρ (H1++e'::H2) (World.setO w b o) /\
  Al ρ (AE F.X ρ (H1++e::H2)) w ρ (AE F.X ρ (H1++e'::H2)) (World.setO w b o):=by
 have hlt:b<w.heap.size:=m.lt (by simp) hb;have hO:∀b,AE F.X ρ (H1++e'::H2) b↔AE F.X ρ (H1++e::H2) b:=by
  intro b;simp[AE,or_and_right,exists_or,hk,hg]
 have hOe:AE F.X ρ (H1++e'::H2)=AE F.X ρ (H1++e::H2):=funext λb=>propext (hO b)
 have hown:AE F.X ρ (H1++e::H2) b:=.inr ⟨e,by simp,hb⟩;have x:Al ρ (AE F.X ρ (H1++e::H2)) w ρ (AE F.X ρ (H1++e'::H2)) (World.setO w b o):=by
  refine⟨by simp[World.setO],λ_ _ _ h=>h,λb' hb' hn=>⟨by rw[hOe];exact hn,?_⟩,λb' c T fz h=>?_⟩
  ·rw[J1 _ _ _ _ hlt,AP]
   rintro rfl;exact hn hown
  ·rw[J1 _ _ _ _ hlt]
   by_cases hbb:b'=b
   ·subst hbb
    obtain⟨cs',fz',h1,h2⟩:=hs _ _ _ h;subst h1;rw[AQ rfl];exact⟨cs',fz',rfl,h2⟩
   ·rw[AP hbb];exact⟨c,_,h,rfl⟩
 have hinj:=m.hok.inj;rw[IT,Dq]at hinj;obtain⟨p1,⟨p2,p3⟩,p4⟩:=hinj;refine⟨⟨⟨?_,?_,?_⟩,m.os,m.tape,m.output,Ax m.size (by simp[World.setO]),?_,m.xlt,m.g0,m.gn,m.gw,λ_ _ _ h=>x.link _ _ _ (m.lnk _ _ _ h),Fg m.shp x⟩,x⟩
 ·intro e1 he1
  have other:e1∈H1\/e1∈H2->_:=λh=>(show(e1.es=[]/\ρ e1.k e1.g=none)\/∃b1 o1,ρ e1.k e1.g=some b1/\(World.setO w b o).heap[b1]?=some o1/\C1 ρ (AE F.X ρ (H1++e'::H2)) (World.setO w b o) e1 o1 from by
   rcases m.hok.ent e1 (by rcases h with h|h<;>simp[h])with h0|⟨b1,cs1,a1,a2,a3⟩
   ·exact .inl h0
   refine .inr ⟨b1,cs1,a1,?_,a3.mono x⟩;rw[J1 _ _ _ _ hlt,AP]
   ·exact a2
   ·rintro rfl
    rcases h with h|h
    ·exact p4 e1 h e (by simp) _ _ a1 hb rfl
    ·exact p2 e1 h _ _ hb a1 rfl)
  rcases BL.1 he1 with h|h
  ·exact other (.inl h)
  ·rcases Ae.1 h with rfl|h
   ·exact .inr ⟨b,o,by rw[hk,hg];exact hb,by rw[J1 _ _ _ _ hlt,AQ rfl],ho.mono x⟩
   ·exact other (.inr h)
 ·rw[IT,Dq]
  refine⟨p1,⟨λe2 h2 b1 b2 hb1 hb2=>p2 e2 h2 b1 b2 (by rw[<-hk,<-hg];exact hb1) hb2,p3⟩,λe1 h1 e2 h2=>?_⟩;rcases Ae.1 h2 with rfl|h2
  ·intro b1 b2 hb1 hb2;exact p4 e1 h1 e (by simp) b1 b2 hb1 (by rw[<-hk,<-hg];exact hb2)
  ·exact p4 e1 h1 e2 (by simp[h2])
 ·intro e1 he1 b1 hb1
  rcases BL.1 he1 with h|h
  ·exact m.hok.own e1 (by simp[h]) b1 hb1
  ·rcases Ae.1 h with rfl|h
   ·exact m.hok.own e (by simp) b1 (by rw[<-hk,<-hg];exact hb1)
   ·exact m.hok.own e1 (by simp[h]) b1 hb1
 ·intro b1 hb1 hw
  rw[J1 _ _ _ _ hlt,AP]
  ·exact m.blk b1 hb1 hw
  ·rintro rfl
   rcases(m.hok.own e (by simp) b1 hb).2 with h|h
   ·omega
   ·exact hw h
theorem AL.write {H1 H2:Hp}{e e':AI}{b:Nat}{cs cs':Array Value}(m:AL C F ρ (H1++e::H2) w)(hb:ρ e.k e.g=some b)(hc:w.heap[b]?=some (.cells cs e.T (0,0)))
  (hk:e'.k=e.k) (hg:e'.g=e.g) (hT:e'.T=e.T) (hz:e'.sz=e.sz) (hs:cs'.size=cs.size) (ho:Bq ρ (AE F.X ρ (H1++e::H2)) w e' cs'):
  AL C F ρ (H1++e'::H2) (World.setBlk w b cs' e.T) /\
  Al ρ (AE F.X ρ (H1++e::H2)) w ρ (AE F.X ρ (H1++e'::H2)) (World.setBlk w b cs' e.T):=
 m.writeO (o:=.cells cs' e.T (0,0)) hb hk hg (λc T fz h=>by rw[hc]at h;cases h;exact⟨cs',(0,0),rfl,hs⟩) ⟨hT.symm,rfl,by rw[hz];exact m.szC (by simp) hb hc,ho⟩
theorem AL.sub {H':Hp}(m:AL C F ρ H w)(hs:H'.Sublist H):AL C F ρ H' w/\∀b,AE F.X ρ H' b->AE F.X ρ H b:=by
 have hO:∀b,AE F.X ρ H' b->AE F.X ρ H b:=λb h=>h.imp id λ⟨e,he,hb⟩=>⟨e,hs.subset he,hb⟩
 refine⟨⟨⟨λe he=>?_,m.hok.inj.sublist hs,λe he=>m.hok.own e (hs.subset he)⟩,m.os,m.tape,m.output,m.size,m.blk,m.xlt,m.g0,m.gn,m.gw,m.lnk,m.shp⟩,hO⟩;rcases m.hok.ent e (hs.subset he)with h|⟨b,cs,h1,h2,h3⟩
 ·exact .inl h
 ·exact .inr ⟨b,cs,h1,h2,h3.anti hO⟩
end mem
abbrev AZ:=List (Nat×D)
def AZ.get:AZ->Nat->D
 | [],_=>.any
 |(k,d)::r,t=>match Nat.beq k t with
  |true=>d
  |false=>AZ.get r t
theorem GI (k:Nat)(d:D)(r:AZ)(t:Nat):AZ.get ((k,d)::r) t=if k=t then d else AZ.get r t:=by
 simp only[AZ.get]
 by_cases h:k=t
 ·subst h;simp
 ·cases hb:Nat.beq k t with
  |true=>exact AY (Ab hb) h
  |false=>simp[h]
structure St where
 env:AZ
 H:Hp
 n:Nat
def GD (ρ:Lk)(n:Nat):Prop:=∀k g,n<=g->ρ k g=none
structure Aq (C:AX)(F:AH)(ρ:Lk)(s:St)(a:Act)(w:World):Prop where
 mem:AL C F ρ s.H w
 fresh:GD ρ s.n
 gen:∀e∈s.H,e.g<s.n
 env:∀t,AF ρ (AE F.X ρ s.H) w (s.env.get t) (a.tmps.getD t undef)
 nt:a.tmps.size=F.nt
 dfr:a.defers=F.df
def B0 (nt:Nat)(o:Oper):Bool:=match o.dst with
 |some d=>Nat.blt d nt
 |none=>true
def Bw (nt:Nat):Code->Bool
 | .region _ ops _=>ops.toList.all (B0 nt)
 | .seq a b=>Bw nt a&&Bw nt b
 | .cond _ a b=>Bw nt a&&Bw nt b
 | .block _ b=>Bw nt b
 | .loop b=>Bw nt b
 | .scope b=>Bw nt b
 | .rangeFunc _ ps a b=>ps.toList.all (λt=>Nat.blt t nt)&&(Bw nt a&&Bw nt b)
 |_=>true
def Ok (C:AX)(F:AH)(c:Code)(s:St)(Q:Exit->St->Prop):Prop:=
 Bw F.nt c=true->∀ρ a w,Aq C F ρ s a w->c.wp C.P (λe a' w'=>∃s' ρ',Q e s'/\Aq C F ρ' s' a' w') a w
section
variable {C:AX} {F:AH} {s:St} {Q:Exit->St->Prop}
theorem Ok.mono {c:Code}{Q':Exit->St->Prop}(h:Ok C F c s Q)(hq:∀e s,Q e s->Q' e s):Ok C F c s Q':=
 λhd ρ a w hs=>wp_mono (h hd ρ a w hs) λ_ _ _ ⟨s',ρ',q,x⟩=>⟨s',ρ',hq _ _ q,x⟩
theorem Ok.skip (h:Q .normal s):Ok C F .skip s Q:=λ_ ρ _ _ hs=>wp_skip ⟨s,ρ,h,hs⟩
theorem Ok.ret (h:Q .ret s):Ok C F .ret s Q:=λ_ ρ _ _ hs=>wp_ret ⟨s,ρ,h,hs⟩
theorem Ok.exit {i:Nat}(h:Q (.exit i) s):Ok C F (.exit i) s Q:=λ_ ρ _ _ hs=>wp_exit ⟨s,ρ,h,hs⟩
theorem Ok.seq {a b:Code}(h:Ok C F a s (λe s=>match e with | .normal=>Ok C F b s Q|e=>Q e s)):Ok C F (.seq a b) s Q:=by
 intro hd ρ ac w hs;simp only[Bw,Aj]at hd;refine wp_seq (wp_mono (h hd.1 ρ ac w hs) ?_);rintro e a' w' ⟨s',ρ',hq,hs'⟩;cases e with
 |normal=>exact hq hd.2 ρ' a' w' hs'
 |_=>exact⟨s',ρ',hq,hs'⟩
theorem Ok.cond {c:Operand}{x y:Code}(t:Bool)(hc:∀ρ a w,Aq C F ρ s a w->a.eval c=.bool t)(h1:t=true->Ok C F x s Q)(h2:t=false->Ok C F y s Q):
  Ok C F (.cond c x y) s Q:=by
 intro hd ρ a w hs;simp only[Bw,Aj]at hd;exact wp_cond_split (hc ρ a w hs) (λht=>h1 ht hd.1 ρ a w hs) (λht=>h2 ht hd.2 ρ a w hs)
theorem Ok.block {i:Nat}{b:Code}(h:Ok C F b s (λe s=>match e with | .exit j=>if j=i then Q .normal s else Q (.exit j) s|e=>Q e s)):Ok C F (.block i b) s Q:=by
 intro hd ρ a w hs;refine wp_block (wp_mono (h hd ρ a w hs) ?_);rintro e a' w' ⟨s',ρ',hq,hs'⟩;cases e with
 |exit j=>
  simp only[Exit.inBlock]at hq⊢;split
  ·rename_i hj;rw[AQ hj]at hq;exact⟨s',ρ',hq,hs'⟩
  ·rename_i hj;rw[AP hj]at hq;exact⟨s',ρ',hq,hs'⟩
 |_=>exact⟨s',ρ',hq,hs'⟩
theorem Uz {P:Program}{R:Exit->Act->World->Prop}{c:Code}(I:Nat->Act->World->Prop){m:Nat}{a:Act}{w:World}(h0:I m a w)
  (round:∀m a w,I m a w->c.wp P (Exit.then (λa' w'=>∃m',m'<m/\I m' a' w') R) a w):(Code.loop c).wp P R a w:=by
 intro b k cs;have key:∀m a w,I m a w->∃e a' w',R e a' w'/\Arrives P (lone (b.at a (.code c::.inLoop c::k)) cs w) b k cs e a' w':=by
  intro m
  induction m using Nat.strongRecOn with
  |_ m ih=>
   intro a w hI;obtain⟨e,a₁,w₁,hq,harr⟩:=round m a w hI b (.inLoop c::k) cs;cases e with
   |normal=>
    obtain⟨m',hlt,hI'⟩:=hq;obtain⟨e₂,a₂,w₂,hq₂,harr₂⟩:=ih m' hlt a₁ w₁ hI';exact⟨e₂,a₂,w₂,hq₂,.of_steps (Steps.trans harr (.one step_inLoop)) harr₂⟩
   |exit id=>exact⟨_,a₁,w₁,hq,.pass (x:=.inLoop c) rfl (λ_ _=>.inl (by simp)) harr⟩
   |goto l=>exact⟨_,a₁,w₁,hq,.pass (x:=.inLoop c) rfl (λ_ _=>.inl (by simp)) harr⟩
   |ret=>exact⟨_,a₁,w₁,hq,.pass (x:=.inLoop c) rfl (λ_ _=>.inl (by simp)) harr⟩
   |panic ch=>exact⟨_,a₁,w₁,hq,.pass (x:=.inLoop c) rfl (λ_ _=>.inl (by simp)) harr⟩
   |outgrown=>exact⟨_,a₁,w₁,hq,.pass (x:=.inLoop c) rfl (λ_ _=>.inl (by simp)) harr⟩
 obtain⟨e,a',w',hq,harr⟩:=key m a w h0;exact⟨e,a',w',hq,.of_steps (.one step_loop) harr⟩
theorem Ok.loop {b:Code}(I:Nat->St->Prop){m:Nat}(h0:I m s)
  (round:∀m s,I m s->Ok C F b s (λe s'=>match e with | .normal=>∃m',m'<m/\I m' s'|e=>Q e s')):Ok C F (.loop b) s Q:=by
 intro hd ρ a w hs;refine Uz (λm a w=>∃s ρ,I m s/\Aq C F ρ s a w) ⟨s,ρ,h0,hs⟩ ?_;rintro m a w ⟨s,ρ,hI,hs⟩;refine wp_mono (round m s hI hd ρ a w hs) ?_;rintro e a' w' ⟨s',ρ',hq,hs'⟩;cases e with
 |normal=>obtain⟨m',hm,hI'⟩:=hq;exact⟨m',hm,s',ρ',hI',hs'⟩
 |_=>exact⟨s',ρ',hq,hs'⟩
end
inductive TI where
 |int (k:IntKind)|bool|string
 |struct (fs:List (Nat×Nat×Bool))
 |slice (e esz eby:Nat) (ez:Value)
 |arr (n esz:Nat) (eag:Bool)
 |ptr|other|fn
structure AJ where
 ti:TI
 sz:Nat
 bts:Nat
 ag:Bool
 zero:Value
def GC (P:Program)(t:Nat):Bool:=match P.underlying t with
 |some (.struct _)|some (.array _ _)=>true
 |_=>false
def HO (v:Value)(n:Nat):Bool:=v.cells.size==n&&v.cells.toList.all one
def KO (P:Program)(f:Field):Option (Nat×Nat×Bool):=match P.info? f.type with
 |some i=>match P.underlying f.type with
  |some _=>if i.size=0 then none else some (f.offset,i.size,GC P f.type)
  |none=>none
 |none=>none
def FP (P:Program):List Field->Option (List (Nat×Nat×Bool))
 | []=>some []
 |f::fs=>match KO P f with
  |some x=>match FP P fs with
   |some l=>some (x::l)
   |none=>none
  |none=>none
def EI (P:Program):TypeDesc->Option (TI×Bool)
 | .int k=>some (.int k,false)
 | .bool=>some (.bool,false)
 | .string=>some (.string,false)
 | .pointer _=>some (.ptr,false)
 | .struct fs=>match FP P fs.toList with
  |some l=>some (.struct l,true)
  |none=>none
 | .array n e=>match P.info? e with
  |some ie=>some (.arr n ie.size (GC P e),true)
  |none=>none
 | .slice e=>match P.info? e with
  |some ie=>match ie.zero with
   |some ez=>if HO ez ie.size then some (.slice e ie.size ie.bytes ez,false)else none
   |none=>none
  |none=>none
 | .func _ _ _=>some (.fn,false)
 |_=>some (.other,false)
def Cd (P:Program)(t:Nat):Option AJ:=
 match P.info? t with
 |some i=>match P.underlying t with
  |some u=>match i.zero with
   |some z=>match HO z i.size with
    |true=>match EI P u with
     |some (ti,ag)=>some ⟨ti,i.size,i.bytes,ag,z⟩
     |none=>none
    |false=>none
   |none=>none
  |none=>none
 |none=>none
theorem Ed {P:Program}{t:Nat}{i:AJ}(h:Cd P t=some i):
  ∃inf u,P.info? t=some inf/\P.underlying t=some u/\inf.zero=some i.zero/\inf.size=i.sz/\inf.bytes=i.bts/\HO i.zero i.sz=true/\EI P u=some (i.ti,i.ag):=by
 unfold Cd at h;cases h1:P.info? t with
 |none=>simp[h1]at h
 |some inf=>
  cases h2:P.underlying t with
  |none=>simp[h1,h2]at h
  |some u=>
   cases h3:inf.zero with
   |none=>simp[h1,h2,h3]at h
   |some z=>
    cases h4:HO z inf.size with
    |false=>simp[h1,h2,h3,h4]at h
    |true=>
     cases h5:EI P u with
     |none=>simp[h1,h2,h3,h4,h5]at h
     |some p=>
      obtain⟨ti,ag⟩:=p;simp[h1,h2,h3,h4,h5]at h;subst h;exact⟨inf,u,rfl,rfl,h3,rfl,rfl,h4,h5⟩
structure XO (P:Program)(t:Nat)(i:AJ):Prop where
 info:∃inf,P.info? t=some inf/\inf.size=i.sz/\inf.bytes=i.bts/\inf.zero=some i.zero
 agg:GC P t=i.ag
 zsz:i.zero.cells.size=i.sz
 zone:∀(j:Nat) (x:Value),i.zero.cells[j]?=some x->one x=true
theorem Jt {v:Value}{n:Nat}(h:HO v n=true):v.cells.size=n/\∀(j:Nat) (x:Value),v.cells[j]?=some x->one x=true:=by
 simp only[HO,Aj,Gv,CG]at h;refine⟨h.1,λj x hx=>h.2 x ?_⟩;rw[DP];exact Es hx
theorem T9 {P:Program}{t:Nat}{i:AJ}(h:Cd P t=some i):XO P t i:=by
 obtain⟨inf,u,h1,h2,h3,h4,h5,h6,h7⟩:=Ed h;obtain⟨h8,h9⟩:=Jt h6;refine⟨⟨inf,h1,h4,h5,h3⟩,?_,h8,h9⟩;unfold GC;rw[h2];cases u<;>simp only[EI]at h7<;>(repeat' split at h7)<;>simp_all
theorem Nr {P:Program}{t:Nat}{i:AJ}{k:IntKind}(h:Cd P t=some i)(hk:i.ti=.int k):P.underlying t=some (.int k):=by
 obtain⟨inf,u,h1,h2,h3,h4,h5,h6,h7⟩:=Ed h;rw[hk]at h7;cases u<;>simp only[EI]at h7<;>(repeat' split at h7)<;>simp_all
theorem Pr {P:Program}{t:Nat}{i:AJ}(h:Cd P t=some i)(hk:i.ti=.bool):P.underlying t=some .bool:=by
 obtain⟨inf,u,h1,h2,h3,h4,h5,h6,h7⟩:=Ed h;rw[hk]at h7;cases u<;>simp only[EI]at h7<;>(repeat' split at h7)<;>simp_all
theorem Hn {P:Program}{t:Nat}{i:AJ}(h:Cd P t=some i)(hk:i.ti=.string):P.underlying t=some .string:=by
 obtain⟨inf,u,h1,h2,h3,h4,h5,h6,h7⟩:=Ed h;rw[hk]at h7;cases u<;>simp only[EI]at h7<;>(repeat' split at h7)<;>simp_all
theorem Ns {P:Program}{t:Nat}{i:AJ}(h:Cd P t=some i)(hk:i.ti=.ptr):∃e,P.underlying t=some (.pointer e):=by
 obtain⟨inf,u,h1,h2,h3,h4,h5,h6,h7⟩:=Ed h;rw[hk]at h7;cases u<;>simp only[EI]at h7<;>(repeat' split at h7)<;>simp_all
theorem Qw {P:Program}{t:Nat}{i:AJ}(h:Cd P t=some i)(hk:i.ti=.fn):∃a b c,P.underlying t=some (.func a b c):=by
 obtain⟨inf,u,h1,h2,h3,h4,h5,h6,h7⟩:=Ed h;rw[hk]at h7;cases u<;>simp only[EI]at h7<;>(repeat' split at h7)<;>simp_all
theorem CC {P:Program}{t:Nat}{i:AJ}{e esz eby:Nat}{ez:Value}(h:Cd P t=some i)(hk:i.ti=.slice e esz eby ez):
  P.underlying t=some (.slice e)/\(∃inf,P.info? e=some inf/\inf.size=esz/\inf.bytes=eby/\inf.zero=some ez) /\
  ez.cells.size=esz/\∀(j:Nat) (x:Value),ez.cells[j]?=some x->one x=true:=by
 obtain⟨inf,u,h1,h2,h3,h4,h5,h6,h7⟩:=Ed h;rw[hk]at h7;cases u
 case slice e'=>
  simp only[EI]at h7;cases g1:P.info? e' with
  |none=>simp[g1]at h7
  |some ie=>
   cases g2:ie.zero with
   |none=>simp[g1,g2]at h7
   |some z=>
    cases g3:HO z ie.size with
    |false=>simp[g1,g2,g3]at h7
    |true=>
     simp[g1,g2,g3]at h7;obtain⟨⟨rfl,rfl,rfl,rfl⟩,_⟩:=h7;obtain⟨h8,h9⟩:=Jt g3;exact⟨h2,⟨ie,g1,rfl,rfl,g2⟩,h8,h9⟩
 all_goals(simp only[EI]at h7;(repeat' split at h7)<;>simp_all)
theorem Nq {P:Program}{t:Nat}{i:AJ}{n esz:Nat}{eag:Bool}(h:Cd P t=some i)(hk:i.ti=.arr n esz eag):
  ∃e,P.underlying t=some (.array n e)/\GC P e=eag/\∃inf,P.info? e=some inf/\inf.size=esz:=by
 obtain⟨inf,u,h1,h2,h3,h4,h5,h6,h7⟩:=Ed h;rw[hk]at h7;cases u
 case array n' e'=>
  simp only[EI]at h7;cases g1:P.info? e' with
  |none=>simp[g1]at h7
  |some ie=>
   simp[g1]at h7;obtain⟨⟨rfl,rfl,rfl⟩,_⟩:=h7;exact⟨e',h2,rfl,ie,g1,rfl⟩
 all_goals(simp only[EI]at h7;(repeat' split at h7)<;>simp_all)
theorem VM {P:Program}:∀(fs:List Field) (l:List (Nat×Nat×Bool)),FP P fs=some l->fs.length=l.length /\
  ∀(j:Nat) (x:Nat×Nat×Bool),l[j]?=some x->∃f,fs[j]?=some f/\f.offset=x.1/\GC P f.type=x.2.2/\x.2.1≠0/\(∃inf,P.info? f.type=some inf/\inf.size=x.2.1)/\∃u,P.underlying f.type=some u:=by
 intro fs
 induction fs with
 |nil=>intro l hl;simp[FP]at hl;subst hl;simp
 |cons f fs ih=>
  intro l hl;simp only[FP]at hl;cases hx:KO P f with
  |none=>simp[hx]at hl
  |some x=>
   cases hl2:FP P fs with
   |none=>simp[hx,hl2]at hl
   |some l2=>
    simp[hx,hl2]at hl;subst hl;obtain⟨i1,i2⟩:=ih l2 hl2;refine⟨by simp[i1],λj y hy=>?_⟩;cases j with
    |zero=>
     simp at hy;subst hy;unfold KO at hx;cases hinf:P.info? f.type with
     |none=>simp[hinf]at hx
     |some inf=>
      cases hu:P.underlying f.type with
      |none=>simp[hinf,hu]at hx
      |some u=>
       simp only[hinf,hu]at hx;split at hx
       ·cases hx
       ·cases hx;exact⟨f,rfl,rfl,rfl,by assumption,⟨inf,hinf,rfl⟩,u,hu⟩
    |succ j=>simpa using i2 j y (by simpa using hy)
theorem NS {P:Program}{t:Nat}{i:AJ}{l:List (Nat×Nat×Bool)}(h:Cd P t=some i)(hk:i.ti=.struct l):
  ∃fs:Array Field,P.underlying t=some (.struct fs)/\fs.size=l.length /\
   ∀(j:Nat) (x:Nat×Nat×Bool),l[j]?=some x->∃f,fs[j]?=some f/\f.offset=x.1/\GC P f.type=x.2.2/\x.2.1≠0/\(∃inf,P.info? f.type=some inf/\inf.size=x.2.1)/\∃u,P.underlying f.type=some u:=by
 obtain⟨inf,u,h1,h2,h3,h4,h5,h6,h7⟩:=Ed h;rw[hk]at h7;cases u
 case struct fs=>
  simp only[EI]at h7;cases g1:FP P fs.toList with
  |none=>simp[g1]at h7
  |some l'=>
   simp[g1]at h7;obtain⟨rfl,_⟩:=h7;obtain⟨k1,k2⟩:=VM _ _ g1;exact⟨fs,h2,by simpa using k1,by simpa using k2⟩
 all_goals(simp only[EI]at h7;(repeat' split at h7)<;>simp_all)
def MA:List Value->Bool
 | []=>true
 |v::l=>match one v with
  |true=>MA l
  |false=>false
def Di (v:Value):D:=match v with
 | .agg vs=>match MA vs.toList with
  |true=>.agg (vs.toList.map .prim)
  |false=>.any
 |v=>.prim v
def AU (env:AZ):Operand->D
 | .tmp t=>env.get t
 | .const v=>Di v
 | .global g=>.prim (.pointer (some ⟨g,0,none⟩))
 | .func f=>.clo (.func f) [] []
def E6:D->Bool×Bool
 | .prim (.bool x)=>(x,true)
 | .gd u (.prim (.bool x))=>(x,u)
 |_=>(false,false)
def Ik (op:BinOp)(k:IntKind)(x y:Int):Int:=
 let a:=BitVec.ofInt k.bits x
 let b:=BitVec.ofInt k.bits y
 match op with
 | .and=>k.wrap (a &&& b).toNat
 | .or=>k.wrap (a ||| b).toNat
 | .xor=>k.wrap (a ^^^ b).toNat
 |_=>k.wrap (a &&& ~~~b).toNat
def TE (k:IntKind)(x y:Int):Int:=k.wrap (x*2^(min y.toNat k.bits))
def TF (k:IntKind)(x y:Int):Int:=x.fdiv (2^(min y.toNat k.bits))
def BD (a b:ByteArray):Bool:=a.toList==b.toList
def MR (a b:ByteArray):Bool:=Op.bytesLess a.toList b.toList
def IJ (op:BinOp)(x y:Value):Option (Value×Prop):=
 match x,y with
 | .int k a,.int k' b=>match op with
  | .add=>some (.int k (k.wrap (a+b)),k=k')
  | .sub=>some (.int k (k.wrap (a-b)),k=k')
  | .mul=>some (.int k (k.wrap (a*b)),k=k')
  | .quo=>some (.int k (k.wrap (a.tdiv b)),k=k'/\b≠0)
  | .rem=>some (.int k (a.tmod b),k=k'/\b≠0)
  | .and=>some (.int k (Ik .and k a b),k=k')
  | .or=>some (.int k (Ik .or k a b),k=k')
  | .xor=>some (.int k (Ik .xor k a b),k=k')
  | .andNot=>some (.int k (Ik .andNot k a b),k=k')
  | .shl=>some (.int k (TE k a b),0<=b)
  | .shr=>some (.int k (TF k a b),0<=b)
  | .eql=>some (.bool (a==b),k=k')
  | .neq=>some (.bool (a != b),k=k')
  | .lss=>some (.bool (decide (a<b)),k=k')
  | .leq=>some (.bool (decide (a<=b)),k=k')
  | .gtr=>some (.bool (decide (a>b)),k=k')
  | .geq=>some (.bool (decide (a>=b)),k=k')
 | .string a,.string b=>match op with
  | .add=>some (.string (a++b),a.size+b.size<=9223372036854775807)
  | .eql=>some (.bool (BD a b),True)
  | .neq=>some (.bool (!BD a b),True)
  | .lss=>some (.bool (MR a b),True)
  | .leq=>some (.bool (MR a b||BD a b),True)
  | .gtr=>some (.bool (!(MR a b||BD a b)),True)
  | .geq=>some (.bool (!MR a b),True)
  |_=>none
 |_,_=>none
def GH (op:BinOp)(b:Bool):Option Bool:=match op with
 | .eql=>some b
 | .neq=>some (!b)
 |_=>none
def IY (ti:TI)(x y:D):Option (Bool×Prop):=
 match ti,x,y with
 | .bool,.prim (.bool a),.prim (.bool b)=>some (a==b,True)
 | .slice ..,.prim (.slice none _ _),.prim (.slice none _ _)=>some (true,True)
 | .slice ..,.sl true _ _,.prim (.slice none _ _)=>some (false,True)
 | .slice ..,.sl false _ es,.prim (.slice none _ _)=>some (false,es≠[])
 | .ptr,.prim (.pointer none),.prim (.pointer none)=>some (true,True)
 | .ptr,.pptr _,.prim (.pointer none)=>some (false,True)
 | .ptr,.optr ..,.prim (.pointer none)=>some (false,True)
 | .fn,.prim .nilFunc,.prim .nilFunc=>some (true,True)
 | .fn,.clo ..,.prim .nilFunc=>some (false,True)
 |_,_,_=>none
def II (tt:Nat->Option AJ)(op:BinOp)(t:Nat)(x y:D):Option (D×Prop):=
 match x,y with
 | .prim (.int k a),.prim (.int k' b)=>match IJ op (.int k a) (.int k' b)with
  |some (v,p)=>some (.prim v,p)
  |none=>none
 | .prim (.string a),.prim (.string b)=>match IJ op (.string a) (.string b)with
  |some (v,p)=>some (.prim v,p)
  |none=>none
 |x,y=>match tt t with
  |some i=>match IY i.ti x y with
   |some (b,p)=>match GH op b with
    |some c=>some (.prim (.bool c),p)
    |none=>none
   |none=>none
  |none=>none
def PR (op:UnOp)(x:D):Option D:=
 match op,x with
 | .neg,.prim (.int k a)=>some (.prim (.int k (k.wrap (0-a))))
 | .xor,.prim (.int k a)=>some (.prim (.int k (Ik .xor k (if k.signed then -1 else k.max) a)))
 | .not,.prim (.bool b)=>some (.prim (.bool !b))
 |_,_=>none
def Oi (tt:Nat->Option AJ)(dst:Nat)(x:D):Option D:=
 match tt dst with
 |some i=>match i.ti,x with
  | .int k,.prim (.int _ n)=>some (.prim (.int k (k.wrap n)))
  | .string,.prim (.string s)=>some (.prim (.string s))
  |_,_=>none
 |none=>none
theorem AF.cells_self {ρ:Lk}{O:Nat->Prop}{w:World}{d:D}{v:Value}(h:AF ρ O w d v)(ho:one v=true):d.cells=[d]:=by
 cases h<;>first|rfl|simp[Ide.one]at ho
def DU (ag:Bool)(d:D):List D:=match ag with
 |true=>d.cells
 |false=>[d]
def Ck (ag:Bool)(sz:Nat)(d:D):Prop:=∀ρ O w v,AF ρ O w d v->v.cells.size=sz/\(∀(i:Nat) (x:Value),v.cells[i]?=some x->one x=true) /\
 (DU ag d).length=sz/\(∀(j:Nat) (c:D),(DU ag d)[j]?=some c->AF ρ O w c (v.cells.getD j undef))/\DU ag d=d.cells
theorem Ck.agg {ds:List D}:Ck true ds.length (.agg ds):=λρ O w v h=>by
 cases h with|agg hn ho hh=>exact⟨hn,ho,rfl,hh,rfl⟩
theorem Ck.one {d:D}(h:∀ρ O w v,AF ρ O w d v->one v=true):Ck false 1 d:=λρ O w v hr=>by
 have ho:=h ρ O w v hr;rw[Uf ho];refine⟨rfl,λi x hx=>?_,rfl,λj c hc=>?_,(hr.cells_self ho).symm⟩
 ·cases i with
  |zero=>simp at hx;subst hx;exact ho
  |succ i=>simp at hx
 ·cases j with
  |zero=>simp[DU]at hc;subst hc;exact hr
  |succ j=>simp[DU]at hc
def D.one:D->Bool
 | .prim v=>Ide.one v
 | .any | .agg _ | .tup _ | .gd _ _=>false
 |_=>true
theorem Mm {d:D}(h:d.one=true):Ck false 1 d:=Ck.one λρ O w v hr=>by
 cases hr<;>first|exact h|rfl|simp[D.one]at h
def E4 (fs:List (Nat×Nat×Bool))(g:Operand->D):List (Nat×Operand)->List D->Option (List D×Prop)
 | [],cs=>some (cs,True)
 |(i,x)::r,cs=>match fs[i]? with
  |some (o,sz,ag)=>match E4 fs g r (Da cs o (DU ag (g x)))with
   |some (cs',q)=>some (cs',(Ck ag sz (g x)/\o+sz<=cs.length)/\q)
   |none=>none
  |none=>none
def L2:TI->Option (List (Nat×Nat×Bool))
 | .struct fs=>some fs
 | .arr n esz eag=>some ((List.range n).map λi=>(i*esz,esz,eag))
 |_=>none
def KT (tt:Nat->Option AJ)(t:Nat)(g:Operand->D)(ps:List (Nat×Operand)):Option (D×Prop):=
 match tt t with
 |some i=>match L2 i.ti with
  |some fs=>match E4 fs g ps (i.zero.cells.toList.map .prim)with
   |some (cs,p)=>some (.agg cs,p)
   |none=>none
  |none=>none
 |none=>none
def Ir (o sz:Nat)(ag:Bool):D->Option D
 | .optr k g esz i off=>some (.optr k g esz i (off+o))
 | .pptr d=>match Cz ag sz o d.cells with
  |some c=>some (.pptr c)
  |none=>none
 |_=>none
def HJ (n:Nat):D->Option (Nat×Prop)
 | .prim (.int _ x)=>some (x.toNat,0<=x/\x<=n)
 |_=>none
def E1 (n:Nat)(lo hi:Option D):Option (Nat×Nat×Prop):=
 match hi with
 |none=>match lo with
  |none=>some (0,n,True)
  |some l=>match HJ n l with
   |some (l,p)=>some (l,n,p)
   |none=>none
 |some h=>match HJ n h with
  |some (h,p)=>match lo with
   |none=>some (0,h,p)
   |some l=>match HJ h l with
    |some (l,q)=>some (l,h,p/\q)
    |none=>none
  |none=>none
def Kc (tt:Nat->Option AJ)(t:Nat)(x:D)(lo hi:Option D):Option (D×Prop):=
 match tt t with
 |some i=>match i.ti,x with
  | .string,.prim (.string s)=>match E1 s.size lo hi with
   |some (l,h,p)=>some (.prim (.string (s.extract l h)),p)
   |none=>none
  | .slice _ esz _ _,.sl nn sz es=>match E1 es.length lo hi with
   |some (l,h,p)=>some (.sl nn sz ((es.drop l).take (h-l)),p/\esz=sz)
   |none=>none
  | .slice _ esz _ _,.osl k g sz j len=>match E1 len lo hi with
   |some (l,h,p)=>some (.osl k g sz (j+l) (h-l),p/\esz=sz/\(l<h\/l=0))
   |none=>none
  |_,_=>none
 |none=>none
def HB (k:IntKind)(a:Int):List D->Option (D×Prop)
 | []=>some (.prim (.int k a),True)
 | .prim (.int _ b)::r=>HB k (min a b) r
 |_=>none
def HA (k:IntKind)(a:Int):List D->Option (D×Prop)
 | []=>some (.prim (.int k a),True)
 | .prim (.int _ b)::r=>HA k (max a b) r
 |_=>none
def KF (tt:Nat->Option AJ)(b:Builtin)(tys:List Nat)(args:List D):Option (D×Prop):=
 match b,args with
 | .len,[x]=>match tys with
  | [t]=>match tt t with
   |some i=>match i.ti,x with
    | .string,.prim (.string s)=>some (.prim (.int .i64 s.size),True)
    | .slice ..,.sl _ _ es=>some (.prim (.int .i64 es.length),True)
    | .slice ..,.osl _ _ _ _ len=>some (.prim (.int .i64 len),True)
    | .slice ..,.prim (.slice none n _)=>some (.prim (.int .i64 n),True)
    |_,_=>none
   |none=>none
  |_=>none
 | .min,.prim (.int k a)::r=>HB k a r
 | .max,.prim (.int k a)::r=>HA k a r
 |_,_=>none
def B7 (tt:Nat->Option AJ)(g:Operand->D):Op->Option (D×Prop)
 | .move x | .assign x=>some (g x,True)
 | .pick c a b=>match g c with
  | .prim (.bool t)=>some (.prim (.bool (bif t then(E6 (g a)).1 else(E6 (g b)).1)),(t=true->(E6 (g a)).2=true)/\(t=false->(E6 (g b)).2=true))
  |_=>none
 | .build t ps=>KT tt t g ps.toList
 | .nilCheck x=>match g x with
  | .pptr d=>some (.pptr d,True)
  | .optr k gg sz i off=>some (.optr k gg sz i off,True)
  | .clo (.func f) a b=>some (.clo (.func f) a b,True)
  |_=>none
 | .binOp op t x y _=>II tt op t (g x) (g y)
 | .unOp op _ x=>match PR op (g x)with
  |some d=>some (d,True)
  |none=>none
 | .convert src dst x=>match tt src with
  |some _=>match Oi tt dst (g x)with
   |some d=>some (d,True)
   |none=>none
  |none=>none
 | .makeFunc (.func f) a b=>some (.clo (.func f) (a.toList.map g) (b.toList.map g),True)
 | .slice t x lo hi none=>Kc tt t (g x) (lo.map g) (hi.map g)
 | .fieldAddr t x f=>match tt t with
  |some i=>match i.ti with
   | .struct fs=>match fs[f]? with
    |some (o,sz,ag)=>match Ir o sz ag (g x)with
     |some d=>some (d,True)
     |none=>none
    |none=>none
   |_=>none
  |none=>none
 | .field t x f=>match tt t with
  |some i=>match i.ti with
   | .struct fs=>match fs[f]? with
    |some (o,sz,ag)=>match g x with
     | .agg cs=>match Cz ag sz o cs with
      |some d=>some (d,True)
      |none=>none
     |_=>none
    |none=>none
   |_=>none
  |none=>none
 | .indexAddr t x ix=>match tt t with
  |some i=>match i.ti,g ix with
   | .arr n esz ag,.prim (.int _ j)=>match Ir (j.toNat*esz) esz ag (g x)with
    |some d=>some (d,0<=j/\j<n)
    |none=>none
   | .slice _ esz _ _,.prim (.int _ j)=>match g x with
    | .osl k gg sz i len=>some (.optr k gg sz (i+j.toNat) 0,0<=j/\j<len/\esz=sz)
    |_=>none
   |_,_=>none
  |none=>none
 | .index t x ix=>match tt t with
  |some i=>match i.ti,g x,g ix with
   | .string,.prim (.string s),.prim (.int _ j)=>some (.prim (.int .u8 (s.data.toList.getD j.toNat 0).toNat),0<=j/\j<s.size)
   |_,_,_=>none
  |none=>none
 | .extract x i=>match g x with
  | .tup ds=>match ds[i]? with
   |some d=>some (d,True)
   |none=>none
  |_=>none
 | .call ⟨.builtin b,args,tys⟩=>KF tt b tys.toList (args.toList.map g)
 |_=>none
def Aw (P:Program)(tt:Nat->Option AJ):Prop:=∀t i,tt t=some i->Cd P t=some i
section
variable {P:Program} {tt:Nat->Option AJ} {ρ:Lk} {O:Nat->Prop} {w:World}
theorem run_pure {α:Type}(a:α)(w:World):(pure a:Sem α).run P w=.ok a w:=rfl
theorem run_bind {α β:Type}(x:Sem α)(f:α->Sem β)(w:World):(x >>= f).run P w=match x.run P w with | .ok a w'=>(f a).run P w' | .halt h w'=>.halt h w':=by
 show(Sem.bind x f).run P w=_
 induction x generalizing w with
 |pure a=>rfl
 |load m a k ih=>
  simp only[Sem.bind,Sem.run];cases w.cell? a with
  |some v=>exact ih v w
  |none=>dsimp only;cases w.farLoad P a (m==.atomic)with
   |ok r=>exact ih _ _
   |error e=>rfl
 |store m a v k ih=>
  cases v<;>simp only[Sem.bind,Sem.run]<;>first
   |rfl
   |(cases w.cell? a with
    |some u=>dsimp only;split<;>first|rfl|exact ih _
    |none=>dsimp only;cases w.farStore P a _ (m==.atomic)with
     |ok r=>exact ih _
     |error e=>rfl)
 |new o k ih=>exact ih _ _
 |shape r k ih=>exact ih _ _
 |freeze a n k ih=>exact ih _
 |frozen a k ih=>exact ih _ _
 |getObj r k ih=>
  simp only[Sem.bind,Sem.run];cases w.heap[r]? with
  |none=>rfl
  |some o=>cases o<;>first|rfl|exact ih _ _
 |setObj r o k ih=>
  simp only[Sem.bind,Sem.run];cases w.heap[r]? with
  |none=>rfl
  |some o=>cases o<;>first|rfl|exact ih _
 |choose q k ih=>simp only[Sem.bind,Sem.run];split<;>exact ih _ _
 |sys c k ih=>exact ih _ _
 |program k ih=>exact ih _ _
 |mark m k ih=>exact ih _
 |halt h=>rfl
theorem LQ (w:World):(program).run P w=.ok P w:=rfl
theorem BM {t:Nat}{u:TypeDesc}(h:P.underlying t=some u)(w:World):(underlying t).run P w=.ok u w:=by
 unfold underlying;rw[run_bind,LQ];simp only[h];rfl
theorem Pe {t:Nat}{i:TypeInfo}(h:P.info? t=some i)(w:World):(typeInfo t).run P w=.ok i w:=by
 unfold typeInfo;rw[run_bind,LQ];simp only[h];rfl
theorem EQ {t:Nat}{i:TypeInfo}(h:P.info? t=some i)(w:World):(sizeOf t).run P w=.ok i.size w:=by
 unfold sizeOf;rw[run_bind,Pe h];rfl
theorem Jp {t:Nat}{i:TypeInfo}{z:Value}(h:P.info? t=some i)(hz:i.zero=some z)(w:World):(zeroValue t).run P w=.ok z w:=by
 unfold zeroValue;rw[run_bind,Pe h];simp only[hz];rfl
theorem Nn {t:Nat}{u:TypeDesc}(h:P.underlying t=some u)(w:World):(isAgg t).run P w=.ok (GC P t) w:=by
 unfold isAgg GC;rw[run_bind,BM h];simp only[h];cases u<;>rfl
theorem Pg (v:Value):AF ρ O w (Di v) v:=by
 unfold Di;split
 ·rename_i vs
  split
  ·rename_i h
   have key:∀l:List Value,MA l=true->∀(i:Nat) (x:Value),l[i]?=some x->one x=true:=by
    intro l
    induction l with
    |nil=>simp
    |cons a l ih=>
     intro hl i x hx;simp only[MA]at hl;cases ha:one a with
     |false=>simp[ha]at hl
     |true=>
      simp[ha]at hl;cases i with
      |zero=>simp at hx;subst hx;exact ha
      |succ i=>exact ih hl i x (by simpa using hx)
   refine .agg (by simp) (λi x hx=>key _ h i x (by simpa using hx)) λi d hd=>?_
   simp at hd;obtain⟨x,hx,rfl⟩:=hd;simp[hx];exact .prim x
  ·exact .any _
 ·exact .prim _
theorem BH {env:AZ}{a:Act}(h:∀t,AF ρ O w (env.get t) (a.tmps.getD t undef))(x:Operand):AF ρ O w (AU env x) (a.eval x):=by
 cases x with
 |tmp t=>exact h t
 |const v=>exact Pg v
 |global g=>exact .prim _
 |func f=>exact .clo rfl rfl (by simp) (by simp)
def EP (P:Program)(ρ:Lk)(O:Nat->Prop)(w:World)(s:Sem Value)(d:D):Prop:=∃v,s.run P w=.ok v w/\AF ρ O w d v
theorem RA {d:D}{v:Value}(h:AF ρ O w d v)(hb:(E6 d).2=true):v=.bool (E6 d).1:=by
 unfold E6 at*;split at hb
 ·cases h;rfl
 ·rename_i u x
  cases h with
  |gd h1 h2=>have:=h1 hb;cases this;rfl
 ·cases hb
theorem Qy {op:BinOp}{t:Nat}{x y v:Value}{p:Prop}(h:IJ op x y=some (v,p))(hp:p):(binOp op t x y).run P w=.ok v w:=by
 unfold IJ at h;split at h
 ·cases op<;>simp only[Ac,An]at h<;>obtain⟨rfl,rfl⟩:=h <;>
   first
    |(subst hp;simp[binOp,Op.intArith,Op.intCmp,Op.intBits,Ik,pure];done)
    |(obtain⟨rfl,h0⟩:=hp;simp[binOp,Op.intDiv,h0,pure];done)
    |(simp only[binOp,Op.shift,TE,TF];rw[Ba];rfl)
 ·have hm:IntKind.i64.max=9223372036854775807:=by decide
  cases op<;>simp only[Ac,An,reduceCtorEq]at h
  all_goals(obtain⟨rfl,rfl⟩:=h)
  all_goals(simp only[binOp,Op.stringOp])
  all_goals first
   |(rw[AP (by rw[hm];omega)];rfl)
   |rfl
 ·cases h
theorem Fc {t:Nat}{u:TypeDesc}(h:P.underlying t=some u){a b:Value}{c:Bool}(w:World)
  (hc:(match u,a,b with
   | .bool,.bool a,.bool b=>some (a==b)
   | .pointer _,.pointer none,.pointer none=>some true
   | .pointer _,.pointer (some _),.pointer none=>some false
   | .slice _,.slice none _ _,.slice none _ _=>some true
   | .slice _,.slice (some _) _ _,.slice none _ _=>some false
   | .func _ _ _,.nilFunc,.nilFunc=>some true
   | .func _ _ _,.func _ _ _,.nilFunc=>some false
   |_,_,_=>none:Option Bool)=some c):(Op.equal t a b).run P w=.ok c w:=by
 show(Op.equalIn (9999+1) t a b).run P w=_;rw[Op.equalIn,run_bind,BM h];split at hc<;>first|(cases hc;done)|(cases hc;rfl)
theorem XS {t:Nat}{i:AJ}{x y:D}{a b:Value}{c:Bool}{p:Prop}(ht:Cd P t=some i)(h:IY i.ti x y=some (c,p))(hp:p)
  (hx:AF ρ O w x a) (hy:AF ρ O w y b):(Op.equal t a b).run P w=.ok c w:=by
 unfold IY at h;split at h<;>try(cases h;done)
 all_goals(rename_i hti;simp only[Ac,An]at h;obtain⟨rfl,rfl⟩:=h;cases hy)
 ·cases hx;exact Fc (Pr ht hti) w rfl
 ·cases hx<;>exact Fc (CC ht hti).1 w rfl
 ·cases hx<;>exact Fc (CC ht hti).1 w rfl
 ·cases hx with
  |nil=>exact AY rfl hp
  |sl=>exact Fc (CC ht hti).1 w rfl
  |emp=>exact Fc (CC ht hti).1 w rfl
 ·cases hx;obtain⟨e,he⟩:=Ns ht hti;exact Fc he w rfl
 ·cases hx;obtain⟨e,he⟩:=Ns ht hti;exact Fc he w rfl
 ·cases hx;obtain⟨e,he⟩:=Ns ht hti;exact Fc he w rfl
 ·cases hx;obtain⟨e1,e2,e3,he⟩:=Qw ht hti;exact Fc he w rfl
 ·cases hx;obtain⟨e1,e2,e3,he⟩:=Qw ht hti;exact Fc he w rfl
theorem OM {op:BinOp}{t:Nat}{a b:Value}{c e:Bool}(h:GH op c=some e)(hq:(Op.equal t a b).run P w=.ok c w)
  (hne:(∀k n,a≠.int k n)/\(∀s,a≠.string s)/\(∀k n,a≠.float k n)/\(∀k m n,a≠.complex k m n)):(binOp op t a b).run P w=.ok (.bool e) w:=by
 obtain⟨h1,h2,h3,h4⟩:=hne;unfold GH at h;cases op<;>simp only[Ac,reduceCtorEq]at h
 ·subst h
  cases a<;>first|exact AY rfl (h1 _ _)|exact AY rfl (h2 _)|exact AY rfl (h3 _ _)|exact AY rfl (h4 _ _ _)|skip
  all_goals(simp only[binOp];rw[run_bind,hq];rfl)
 ·subst h
  cases a<;>first|exact AY rfl (h1 _ _)|exact AY rfl (h2 _)|exact AY rfl (h3 _ _)|exact AY rfl (h4 _ _ _)|skip
  all_goals(simp only[binOp];rw[run_bind,hq];rfl)
theorem WM {op:BinOp}{t:Nat}{X Y:Operand}{x y d:D}{a b:Value}{p:Prop}(htt:Aw P tt)(h:II tt op t x y=some (d,p))(hp:p)
  (hx:AF ρ O w x a) (hy:AF ρ O w y b):EP P ρ O w (do eqGuard op t X Y a b;binOp op t a b) d:=by
 have guard:a≠.nilIface->(∀v,a≠.agg v)->∀r,(binOp op t a b).run P w=.ok r w->(do eqGuard op t X Y a b;binOp op t a b).run P w=.ok r w:=by
  intro g1 g2 r hr
  have:(eqGuard op t X Y a b).run P w=.ok () w:=by
   unfold eqGuard;cases op<;>first
    |rfl
    |(cases a<;>first|exact AY rfl g1|exact AY rfl (g2 _)|rfl)
  rw[run_bind,this];exact hr
 unfold II at h;split at h
 ·cases hx;cases hy
  split at h
  ·rename_i v q hv
   simp only[Ac,An]at h;obtain⟨rfl,rfl⟩:=h;exact⟨v,guard (by simp) (by simp) _ (Qy hv hp),.prim _⟩
  ·cases h
 ·cases hx;cases hy
  split at h
  ·rename_i v q hv
   simp only[Ac,An]at h;obtain⟨rfl,rfl⟩:=h;exact⟨v,guard (by simp) (by simp) _ (Qy hv hp),.prim _⟩
  ·cases h
 ·cases hi:tt t with
  |none=>simp[hi]at h
  |some i=>
   cases hc:IY i.ti x y with
   |none=>simp[hi,hc]at h
   |some r=>
    obtain⟨c,q⟩:=r;cases he:GH op c with
    |none=>simp[hi,hc,he]at h
    |some e=>
     simp only[hi,hc,he,Ac,An]at h;obtain⟨rfl,rfl⟩:=h;have hq:=XS (htt _ _ hi) hc hp hx hy;have shape:((∀k n,a≠.int k n)/\(∀s,a≠.string s)/\(∀k n,a≠.float k n)/\(∀k m n,a≠.complex k m n))/\a≠.nilIface/\(∀v,a≠.agg v):=by
      unfold IY at hc;split at hc<;>try(cases hc;done)
      all_goals(cases hx<;>simp)
     exact⟨_,guard shape.2.1 shape.2.2 _ (OM he hq shape.1),.prim _⟩
theorem c9 {op:UnOp}{x d:D}{a:Value}(h:PR op x=some d)(hx:AF ρ O w x a):EP P ρ O w (Op.unary op a) d:=by
 unfold PR at h;split at h<;>try(cases h;done)
 all_goals(cases hx;simp only[Ac]at h;subst h)
 ·exact⟨_,rfl,.prim _⟩
 ·exact⟨_,rfl,.prim _⟩
 ·exact⟨_,rfl,.prim _⟩
theorem VU {src dst:Nat}{su:TypeDesc}{x d:D}{a:Value}(htt:Aw P tt)(h:Oi tt dst x=some d)(hx:AF ρ O w x a)
  (hs:P.underlying src=some su):EP P ρ O w (convert src dst a) d:=by
 unfold Oi at h;cases hi:tt dst with
 |none=>simp[hi]at h
 |some i=>
  simp only[hi]at h;split at h<;>try(cases h;done)
  ·rename_i k k' n hk
   cases hx;simp only[Ac]at h;subst h;refine⟨.int k (k.wrap n),?_,.prim _⟩;unfold convert;rw[run_bind,BM hs];dsimp only;rw[run_bind,BM (Nr (htt _ _ hi) hk)];dsimp only;cases su<;>rfl
  ·rename_i s hk
   cases hx;simp only[Ac]at h;subst h;refine⟨.string s,?_,.prim _⟩;unfold convert;rw[run_bind,BM hs];dsimp only;rw[run_bind,BM (Hn (htt _ _ hi) hk)];dsimp only;cases su<;>rfl
theorem LL {ag:Bool}{sz off:Nat}{cs:List D}{d:D}(h:Cz ag sz off cs=some d):
  (ag=true/\d=.agg ((cs.drop off).take sz))\/(ag=false/\cs[off]?=some d):=by
 unfold Cz at h;cases ag with
 |true=>simp only[Ac]at h;exact .inl ⟨rfl,by rw[<-h,Qv,Lr]⟩
 |false=>
  refine .inr ⟨rfl,?_⟩;dsimp only at h;rw[Lr]at h;split at h
  ·rename_i x l hd
   cases h
   have:=congrArg (·[0]?) hd
   simpa using this
  ·cases h
theorem Wy {t o:Nat}{inf:TypeInfo}{u:TypeDesc}{ag:Bool}{ds:List D}{vs:Array Value}{d:D}(hi:P.info? t=some inf)(hu:P.underlying t=some u)
  (hag:GC P t=ag) (h:Cz ag inf.size o ds=some d) (hx:AF ρ O w (.agg ds) (.agg vs)):EP P ρ O w (part t vs o) d:=by
 cases hx with
 |agg hn ho hh=>
  unfold EP part;rcases LL h with⟨rfl,rfl⟩|⟨rfl,h1⟩
  ·refine⟨.agg (vs.extract o (o+inf.size)),?_,?_⟩
   ·rw[run_bind,Nn hu,hag];dsimp only;rw[AQ rfl,run_bind,EQ hi];rfl
   ·refine .agg (by simp;omega) (λi x hx=>?_) λi c hc=>?_
    ·rw[Array.getElem?_extract]at hx
     split at hx
     ·exact ho _ _ hx
     ·cases hx
    ·have hc':=hc
     rw[Cn]at hc;split at hc
     ·rename_i hlt
      rw[Ep]at hc
      have:=hh _ _ hc
      have hlen:o+i<vs.size:=by
       rw[hn];rcases Ar (o+i) ds.length with h'|h'
       ·exact h'
       ·rw[Dd h']at hc;cases hc
      have e:(vs.extract o (o+inf.size)).getD i undef=vs.getD (o+i) undef:=by
       simp only[AS,Array.getElem?_extract];rw[C9]
      rw[e];exact this
     ·cases hc
  ·have:=hh _ _ h1
   have hlen:o<vs.size:=by
    rw[hn];rcases Ar o ds.length with h'|h'
    ·exact h'
    ·rw[Dd h']at h1;cases h1
   refine⟨vs.getD o undef,?_,this⟩;rw[run_bind,Nn hu,hag];dsimp only;simp[hlen,pure]
end
section
variable {P:Program} {tt:Nat->Option AJ} {ρ:Lk} {O:Nat->Prop} {w:World}
theorem Jv (A:Addr)(w:World):(Instr.sureAddr (.pointer (some A))).run P w=.ok A w:=rfl
theorem Ve (vs:Array Value)(w:World):(asAgg (.agg vs)).run P w=.ok vs w:=rfl
theorem J4 (k:IntKind)(n:Int)(w:World):(asIntOf (.int k n)).run P w=.ok (k,n) w:=rfl
theorem Ee (b o n:Nat):(⟨b,o,none⟩:Addr).add n=⟨b,o+n,none⟩:=by
 unfold Addr.add;split
 ·subst n;rfl
 ·rfl
theorem Pn {o sz:Nat}{ag:Bool}{x d:D}{a:Value}(h:Ir o sz ag x=some d)(hx:AF ρ O w x a):
  ∃A:Addr,a=.pointer (some A)/\AF ρ O w d (.pointer (some (A.add o))):=by
 unfold Ir at h;split at h
 ·simp only[Ac]at h;subst h
  cases hx with
  |optr hr=>
   refine⟨_,rfl,?_⟩;rw[Ee,FT];exact .optr hr
 ·rename_i e
  split at h
  ·rename_i c hc
   simp only[Ac]at h;subst h;cases hx with
   |pptr f hO hb hcell ho hh=>
    refine⟨_,rfl,?_⟩;rw[Ee];have hself:∀j c',c.cells[j]?=some c'->e.cells[o+j]?=some c':=by
     rcases LL hc with⟨rfl,rfl⟩|⟨rfl,h2⟩
     ·intro j c' hj
      simp only[D.cells]at hj;rw[Cn]at hj;split at hj
      ·rwa [Ep]at hj
      ·cases hj
     ·intro j c' hj
      have hlt:o<e.cells.length:=by
       rcases Ar o e.cells.length with h'|h'
       ·exact h'
       ·rw[Dd h']at h2;cases h2
      rw[(hh o c h2).cells_self (ho o hlt)]at hj;cases j with
      |zero=>simp at hj;subst hj;exact h2
      |succ j=>simp at hj
    have hlen:∀n,n<c.cells.length->o+n<e.cells.length:=λn hn=>by
     have:=hself n _ (BK hn)
     rcases Ar (o+n) e.cells.length with h'|h'
     ·exact h'
     ·rw[Dd h']at this;cases this
    exact .pptr (λn=>f (o+n)) hO hb (λn hn=>by rw[FT];exact hcell _ (hlen n hn)) (λn hn=>ho _ (hlen n hn)) λj d hd=>hh _ _ (hself j d hd)
  ·cases h
 ·cases h
theorem UY {t f:Nat}{i:AJ}{fs:List (Nat×Nat×Bool)}{o sz:Nat}{ag:Bool}{x d:D}{a:Value}(ht:Cd P t=some i)(hk:i.ti=.struct fs)(hf:fs[f]?=some (o,sz,ag))
  (h:Ir o sz ag x=some d) (hx:AF ρ O w x a):EP P ρ O w (Instr.fieldAt t a f) d:=by
 obtain⟨fa,h1,h2,h3⟩:=NS ht hk;obtain⟨g,g1,g2,g3,g4,⟨inf,g5,g6⟩,u,hu⟩:=h3 f _ hf;obtain⟨A,rfl,hr⟩:=Pn h hx;refine⟨_,?_,hr⟩;unfold Instr.fieldAt;rw[run_bind,BM h1];dsimp only;simp only[g1];rw[run_bind,Jv];dsimp only;rw[run_bind]
 have:(fieldPlace A g).run P w=.ok (A.add o) w:=by
  unfold fieldPlace;rw[run_bind,EQ g5];dsimp only;rw[AP (by rw[g6];exact g4),g2];rfl
 rw[this];rfl
theorem V9 {t f:Nat}{i:AJ}{fs:List (Nat×Nat×Bool)}{o sz:Nat}{ag:Bool}{cs:List D}{d:D}{a:Value}(ht:Cd P t=some i)(hk:i.ti=.struct fs)(hf:fs[f]?=some (o,sz,ag))
  (h:Cz ag sz o cs=some d) (hx:AF ρ O w (.agg cs) a):EP P ρ O w (Instr.field t a f) d:=by
 obtain⟨fa,h1,h2,h3⟩:=NS ht hk;obtain⟨g,g1,g2,g3,g4,⟨inf,g5,g6⟩,u,hu⟩:=h3 f _ hf;cases hx with
 |agg hn ho hh=>
  obtain⟨v,e1,e2⟩:=Wy (d:=d) g5 hu g3 (by rw[g6];exact h) (.agg hn ho hh);refine⟨v,?_,e2⟩;unfold Instr.field;rw[run_bind,BM h1];dsimp only;simp only[g1];rw[run_bind,Ve];dsimp only;rw[show g.offset=o from g2];exact e1
theorem UE {t n esz:Nat}{i:AJ}{ag:Bool}{k:IntKind}{j:Int}{x d:D}{a:Value}(ht:Cd P t=some i)(hk:i.ti=.arr n esz ag)
  (h:Ir (j.toNat*esz) esz ag x=some d) (h0:0<=j) (h1:j<n) (hx:AF ρ O w x a):EP P ρ O w (Instr.indexAt t a (.int k j)) d:=by
 obtain⟨e,e1,e2,inf,e3,e4⟩:=Nq ht hk;obtain⟨A,rfl,hr⟩:=Pn h hx;refine⟨_,?_,hr⟩;unfold Instr.indexAt;rw[run_bind,J4];dsimp only;rw[run_bind,BM e1];dsimp only;rw[run_bind,Jv];dsimp only;rw[run_bind,run_pure];dsimp only;rw[run_bind,BM e1];dsimp only;rw[AQ ⟨h0,h1⟩,run_bind,EQ e3,e4];rfl
theorem UF {t e esz eby:Nat}{ez:Value}{i:AJ}{k':IntKind}{j:Int}{k g p len:Nat}{a:Value}(ht:Cd P t=some i)(hk:i.ti=.slice e esz eby ez)
  (h0:0<=j) (h1:j<len) (hx:AF ρ O w (.osl k g esz p len) a):EP P ρ O w (Instr.indexAt t a (.int k' j)) (.optr k g esz (p+j.toNat) 0):=by
 obtain⟨e1,⟨inf,e3,e4,_⟩,_⟩:=CC ht hk;cases hx with
 |onil=>omega
 |osl hr hb hc hs hm=>
  refine⟨_,?_,.optr hr⟩;unfold Instr.indexAt;rw[run_bind,J4];dsimp only;rw[run_bind,BM e1];dsimp only;rw[run_bind,run_pure];dsimp only;rw[run_bind,BM e1];dsimp only;rw[AQ ⟨h0,h1⟩,run_bind,EQ e3,e4];dsimp only;rw[Ee,BS];rfl
theorem Pm {t e esz eby:Nat}{ez:Value}{i:AJ}{k':IntKind}{j:Int}{nn:Bool}{es:List D}{d:D}{a:Value}(ht:Cd P t=some i)(hk:i.ti=.slice e esz eby ez)
  (h0:0<=j) (h1:es[j.toNat]?=some d) (hx:AF ρ O w (.sl nn esz es) a):EP P ρ O w (Instr.indexAt t a (.int k' j)) (.pptr d):=by
 obtain⟨e1,⟨inf,e3,e4,_⟩,_⟩:=CC ht hk;cases hx with
 |nil=>simp at h1
 |emp=>simp at h1
 |sl f hl hc hO hb hz hcell ho hh=>
  have hlt:j.toNat<es.length:=by
   rcases Ar j.toNat es.length with h'|h'
   ·exact h'
   ·rw[Dd h']at h1;cases h1
  rename_i b off len cap;have hd:=hz _ _ h1;have hin:∀n,n<d.cells.length->j.toNat*esz+n<len*esz:=λn hn=>by
   have:(j.toNat+1)*esz<=len*esz:=Bl _ (by omega)
   rw[BS]at this;omega
  refine⟨.pointer (some ⟨b,off+j.toNat*esz,none⟩),?_,.pptr (λn=>f (j.toNat*esz+n)) hO hb (λn hn=>?_) (λn hn=>ho _ (hin n hn)) λn c hn=>hh _ _ _ _ h1 hn⟩
  ·unfold Instr.indexAt
   rw[run_bind,J4];dsimp only;rw[run_bind,BM e1];dsimp only;rw[run_bind,run_pure];dsimp only;rw[run_bind,BM e1];dsimp only;rw[AQ ⟨h0,by omega⟩,run_bind,EQ e3,e4];dsimp only;rw[Ee];rfl
  ·rw[FT];exact hcell _ (hin n hn)
theorem Lq {n m:Nat}{x:D}{a:Value}{l:Nat}{p:Prop}(code:BoundsCode)(h:HJ n x=some (l,p))(hp:p)(hnm:n<=m)(hx:AF ρ O w x a):
  (Instr.sliceBound a m code).run P w=.ok l w/\l<=n:=by
 unfold HJ at h;split at h
 ·rename_i k q
  simp only[Ac,An]at h;obtain⟨rfl,rfl⟩:=h;cases hx;refine⟨?_,by omega⟩;unfold Instr.sliceBound;rw[run_bind,J4];dsimp only;rw[AQ ⟨hp.1,by omega⟩];rfl
 ·cases h
theorem G6 {n m:Nat}{lo hi:Option Operand}{g:Operand->D}{ev:Operand->Value}{l h:Nat}{p:Prop}(hg:∀x,AF ρ O w (g x) (ev x))(hb:E1 n (lo.map g) (hi.map g)=some (l,h,p))
  (hp:p) (isS:Bool) (hnm:n<=m):(Instr.sliceBounds isS n m (lo.map ev) (hi.map ev) none).run P w=.ok (l,h,m) w/\l<=h/\h<=n:=by
 unfold Instr.sliceBounds;cases hi with
 |none=>
  cases lo with
  |none=>
   simp only[Option.map,E1,Ac,An]at hb;obtain⟨rfl,rfl,rfl⟩:=hb;exact⟨rfl,by omega,by omega⟩
  |some lo=>
   simp only[Option.map,E1]at hb;split at hb
   ·rename_i l' q hl
    simp only[Ac,An]at hb;obtain⟨rfl,rfl,rfl⟩:=hb;obtain⟨h1,h2⟩:=Lq (P:=P) .sliceB hl hp (Ah _) (hg lo);refine⟨?_,by omega,by omega⟩;simp only[Option.map];rw[run_bind,run_pure];dsimp only;rw[run_bind,run_pure];dsimp only;rw[run_bind,AP (by simp),h1];rfl
   ·cases hb
 |some hi=>
  cases lo with
  |none=>
   simp only[Option.map,E1]at hb;split at hb
   ·rename_i h' q hh
    simp only[Ac,An]at hb;obtain⟨rfl,rfl,rfl⟩:=hb;obtain⟨h1,h2⟩:=Lq (P:=P) (m:=m) (if isS then .sliceAcap else .sliceAlen) hh hp hnm (hg hi);refine⟨?_,by omega,by omega⟩;simp only[Option.map];rw[run_bind,run_pure];dsimp only;rw[run_bind,h1];rfl
   ·cases hb
  |some lo=>
   simp only[Option.map,E1]at hb;split at hb
   ·rename_i h' q hh
    split at hb
    ·rename_i l' q' hl
     simp only[Ac,An]at hb;obtain⟨rfl,rfl,rfl⟩:=hb;obtain⟨h1,h2⟩:=Lq (P:=P) (m:=m) (if isS then .sliceAcap else .sliceAlen) hh hp.1 hnm (hg hi);obtain⟨h3,h4⟩:=Lq (P:=P) .sliceB hl hp.2 (Ah _) (hg lo);refine⟨?_,by omega,by omega⟩;simp only[Option.map];rw[run_bind,run_pure];dsimp only;rw[run_bind,h1];dsimp only;rw[run_bind,AP (by simp),h3];rfl
    ·cases hb
   ·cases hb
theorem G3 {t:Nat}{u:TypeDesc}(hu:P.underlying t=some u)(hn:∀n e,u≠.array n e)(x:Value)(lo hi:Option Value):
  (Instr.sliceAt t x lo hi none).run P w=(Instr.slice t x lo hi none).run P w:=by
 unfold Instr.sliceAt;rw[run_bind,BM hu];dsimp only;cases u<;>first|rfl|exact AY rfl (hn _ _)
theorem Vg {t:Nat}{x d:D}{a:Value}{lo hi:Option Operand}{g:Operand->D}{ev:Operand->Value}{p:Prop}(htt:Aw P tt)(hg:∀x,AF ρ O w (g x) (ev x))
  (h:Kc tt t x (lo.map g) (hi.map g)=some (d,p)) (hp:p) (hx:AF ρ O w x a):EP P ρ O w (Instr.sliceAt t a (lo.map ev) (hi.map ev) none) d:=by
 unfold Kc at h;cases hi':tt t with
 |none=>simp[hi']at h
 |some i=>
  simp only[hi']at h;split at h<;>try(cases h;done)
  ·rename_i s hk
   split at h<;>try(cases h;done)
   rename_i l hh q hb;simp only[Ac,An]at h;obtain⟨rfl,rfl⟩:=h;cases hx;have hu:=Hn (htt _ _ hi') hk;obtain⟨h1,h2,h3⟩:=G6 (P:=P) hg hb hp false (Ah _);refine⟨_,?_,.prim _⟩;rw[G3 hu (by simp)];unfold Instr.slice;rw[run_bind,BM hu];dsimp only;rw[AP (by simp),run_bind,h1];rfl
  ·rename_i e esz eby ez nn sz es hk
   split at h<;>try(cases h;done)
   rename_i l hh q hb;simp only[Ac,An]at h;obtain⟨rfl,rfl⟩:=h;obtain⟨hp,rfl⟩:=hp;obtain⟨hu,⟨inf,e3,e4,_⟩,_⟩:=CC (htt _ _ hi') hk;cases hx with
   |nil=>
    obtain⟨h1,h2,h3⟩:=G6 (P:=P) hg hb hp true (Ah _);have hz:l=0/\hh=0:=by simp at h3;omega
    obtain⟨rfl,rfl⟩:=hz;simp only[GJ]at h1;refine⟨.slice none 0 0,?_,by simpa using .nil _⟩;rw[G3 hu (by simp)];unfold Instr.slice;rw[run_bind,BM hu];dsimp only;rw[run_bind,h1];dsimp only;rw[run_bind,EQ e3];rfl
   |emp a=>
    obtain⟨h1,h2,h3⟩:=G6 (P:=P) hg hb hp true (Ah _);have hz:l=0/\hh=0:=by simp at h3;omega
    obtain⟨rfl,rfl⟩:=hz;simp only[GJ]at h1;refine⟨.slice (some a) 0 0,?_,by simpa using .emp a⟩;rw[G3 hu (by simp)];unfold Instr.slice;rw[run_bind,BM hu];dsimp only;rw[run_bind,h1];dsimp only;rw[run_bind,EQ e3,e4];dsimp only;rw[run_pure];simp
   |sl f hl hc hO hbk hz hcell ho hr=>
    rename_i b off len cap;subst hl;obtain⟨h1,h2,h3⟩:=G6 (P:=P) hg hb hp true hc;have hlen:((es.drop l).take (hh-l)).length=hh-l:=by simp;omega
    have hget:∀(i:Nat) (e:D),((es.drop l).take (hh-l))[i]?=some e->i<hh-l/\es[l+i]?=some e:=λi e hi=>by
     rw[Cn]at hi;split at hi
     ·rw[Ep]at hi;exact⟨by assumption,hi⟩
     ·cases hi
    have hin:∀n,n<(hh-l)*esz->l*esz+n<es.length*esz:=λn hn=>by
     have:(l+(hh-l))*esz<=es.length*esz:=Bl _ (by omega)
     rw[BS]at this;omega
    have run:(Instr.sliceAt t (.slice (some ⟨b,off,none⟩) es.length cap) (lo.map ev) (hi.map ev) none).run P w =
      .ok (.slice (some (if cap=l then⟨b,off,none⟩else⟨b,off+l*esz,none⟩)) (hh-l) (cap-l)) w:=by
     rw[G3 hu (by simp)];unfold Instr.slice;rw[run_bind,BM hu];dsimp only;rw[run_bind,h1];dsimp only;rw[run_bind,EQ e3,e4];dsimp only;rw[run_pure]
     by_cases hcl:cap=l
     ·simp[hcl]
     ·simp[hcl,Ee]
    refine⟨_,run,?_⟩
    by_cases hcl:cap=l
    ·rw[AQ hcl]
     have h0:hh-l=0:=by omega
     exact .sl (λ_=>undef) hlen (by omega) hO hbk (λi e hi=>by have:=(hget i e hi).1;omega) (λn hn=>by rw[h0]at hn;simp at hn) (λn hn=>by rw[h0]at hn;simp at hn)
      λi e j d hi=>by have:=(hget i e hi).1;omega
    ·rw[AP hcl]
     exact .sl (λn=>f (l*esz+n)) hlen (by omega) hO hbk (λi e hi=>hz _ _ (hget i e hi).2) (λn hn=>by rw[FT];exact hcell _ (hin n hn)) (λn hn=>ho _ (hin n hn))
      λi e j d hi hj=>by have:=hr _ _ j d (hget i e hi).2 hj;rwa [BS,FT]at this
  ·rename_i e esz eby ez k gg sz j len hk
   split at h<;>try(cases h;done)
   rename_i l hh q hb;simp only[Ac,An]at h;obtain⟨rfl,rfl⟩:=h;obtain⟨hp,rfl,hlh⟩:=hp;obtain⟨hu,⟨inf,e3,e4,_⟩,_⟩:=CC (htt _ _ hi') hk;cases hx with
   |onil=>
    obtain⟨h1,h2,h3⟩:=G6 (P:=P) hg hb hp true (Ah _);have hz:l=0/\hh=0:=by omega
    obtain⟨rfl,rfl⟩:=hz;refine⟨.slice none 0 0,?_,.onil _ _ _⟩;rw[G3 hu (by simp)];unfold Instr.slice;rw[run_bind,BM hu];dsimp only;rw[run_bind,h1];dsimp only;rw[run_bind,EQ e3];rfl
   |osl hr hbk hc hs hm=>
    rename_i cap b T cs fz;obtain⟨h1,h2,h3⟩:=G6 (P:=P) hg hb hp true hc;refine⟨.slice (some ⟨b,(j+l)*esz,none⟩) (hh-l) (cap-l),?_,.osl hr hbk (by omega) ?_ (by omega)⟩
    ·rw[G3 hu (by simp)]
     unfold Instr.slice;rw[run_bind,BM hu];dsimp only;rw[run_bind,h1];dsimp only;rw[run_bind,EQ e3,e4];dsimp only;rw[run_pure];rcases hlh with hlh|rfl
     ·rw[Ba,BS]
      simp[Ee]
     ·simp[Ee]
    ·rw[<-hs];congr 1;omega
theorem Nw (off:Nat):∀(vs:List Value) (k:Nat) (cells:Array Value) (j:Nat),
  ((vs.zipIdx k).foldl (λcs (x:Value×Nat)=>cs.setIfInBounds (off+x.2) x.1) cells)[j]?=(if off+k<=j/\j<off+k+vs.length/\j<cells.size then vs[j-off-k]? else cells[j]?)
 | [],k,cells,j=>by simp;omega
 |v::vs,k,cells,j=>by
  simp only[List.zipIdx_cons,List.foldl_cons];rw[Nw off vs (k+1)];simp only[Array.size_setIfInBounds,CP,C4]
  by_cases h1:off+(k+1)<=j/\j<off+(k+1)+vs.length/\j<cells.size
  ·rw[AQ h1,C9,show j-off-k=(j-off-(k+1))+1 from by omega,K7]
  ·rw[AP h1]
   by_cases h2:off+k=j
   ·rw[AQ h2]
    subst h2
    by_cases h3:off+k<cells.size
    ·rw[AQ h3,C9,show off+k-off-k=0 from by omega];rfl
    ·rw[AP h3,Ba]
     rw[IR (by omega)]
   ·rw[AP h2,Ba]
theorem Lc (off:Nat):∀(vs:List (Value×Nat)) (cells:Array Value),(vs.foldl (λcs (x:Value×Nat)=>cs.setIfInBounds (off+x.2) x.1) cells).size=cells.size
 | [],_=>rfl
 |v::vs,cells=>by simp only[List.foldl_cons];rw[Lc off vs];simp
structure Gk (ρ:Lk)(O:Nat->Prop)(w:World)(cs:List D)(vs:Array Value):Prop where
 len:vs.size=cs.length
 one:∀(i:Nat) (v:Value),vs[i]?=some v->one v=true
 rep:∀(i:Nat) (d:D),cs[i]?=some d->AF ρ O w d (vs.getD i undef)
theorem Gk.set {cs:List D}{vs:Array Value}(h:Gk ρ O w cs vs){ag:Bool}{sz off:Nat}{d:D}{v:Value}(hf:Ck ag sz d)(hx:AF ρ O w d v)(hl:off+sz<=cs.length):
  Gk ρ O w (Da cs off (DU ag d)) (v.cells.toList.zipIdx.foldl (λcs (x:Value×Nat)=>cs.setIfInBounds (off+x.2) x.1) vs):=by
 obtain⟨h1,h2,h3,h4,_⟩:=hf ρ O w v hx;have get:∀j,(v.cells.toList.zipIdx.foldl (λcs (x:Value×Nat)=>cs.setIfInBounds (off+x.2) x.1) vs)[j]?=if off<=j/\j<off+sz then v.cells[j-off]? else vs[j]?:=λj=>by
  rw[Nw]
  have:=h.len
  by_cases hj:off<=j/\j<off+sz
  ·rw[AQ hj,AQ (by simp[h1];omega)];simp
  ·rw[AP hj,AP (by simp[h1];omega)]
 refine⟨by rw[Lc,Pu];exact h.len,λi x hx'=>?_,λi c hc=>?_⟩
 ·rw[get]at hx'
  split at hx'
  ·exact h2 _ _ hx'
  ·exact h.one _ _ hx'
 ·rw[AS,get]
  rw[Qq,h3]at hc;split at hc
  ·rename_i hj
   rw[C9]
   have:=h4 _ _ hc
   rwa [AS]at this
  ·rename_i hj
   by_cases hj':off<=i/\i<off+sz
   ·exact AY ⟨by omega,hj'.1,hj'.2⟩ hj
   ·rw[AP hj']
    have:=h.rep _ _ hc
    rwa [AS]at this
theorem OD {fs:List (Nat×Nat×Bool)}{g:Operand->D}{ev:Operand->Value}(hg:∀x,AF ρ O w (g x) (ev x)){place:Nat->Option (Nat×Nat)}
  (hpl:∀i x,fs[i]?=some x->place i=some (x.1,x.2.1)):∀(ps:List (Nat×Operand)) (cs cs':List D) (p:Prop) (vs:Array Value),E4 fs g ps cs=some (cs',p)->p->Gk ρ O w cs vs ->
   ∃vs',Instr.fill place vs (ps.map λx=>(x.1,ev x.2))=some vs'/\Gk ρ O w cs' vs'
 | [],cs,cs',p,vs,h,hp,hs=>by
  simp only[E4,Ac,An]at h;obtain⟨rfl,rfl⟩:=h;exact⟨vs,rfl,hs⟩
 |(i,x)::r,cs,cs',p,vs,h,hp,hs=>by
  simp only[E4]at h;cases hfi:fs[i]? with
  |none=>simp[hfi]at h
  |some q=>
   obtain⟨o,sz,ag⟩:=q;simp only[hfi]at h;cases hr:E4 fs g r (Da cs o (DU ag (g x)))with
   |none=>simp[hr]at h
   |some q=>
    obtain⟨c2,q2⟩:=q;simp only[hr,Ac,An]at h;obtain⟨rfl,rfl⟩:=h;obtain⟨⟨hfit,hlen⟩,hq⟩:=hp;obtain⟨h1,_⟩:=hfit ρ O w _ (hg x);obtain⟨vs',e1,e2⟩:=OD hg hpl r _ _ _ _ hr hq (hs.set hfit (hg x) hlen);refine⟨vs',?_,e2⟩;simp only[BP,Instr.fill,hpl i _ hfi];have hl:=hs.len;rw[AP (by simp[h1];omega)];rw[<-Array.foldl_toList,Array.toList_zipIdx];exact e1
theorem Gk.zero {z:Value}(h2:∀(j:Nat) (x:Value),z.cells[j]?=some x->Ide.one x=true):Gk ρ O w (z.cells.toList.map .prim) z.cells:=
 ⟨by simp,h2,λi d hd=>by
  simp at hd;obtain⟨x,hx,rfl⟩:=hd;simp[hx];exact .prim x⟩
theorem Pt {P:Program}:∀(fs:List Field) (l:List (Nat×Nat×Bool)),FP P fs=some l ->
  fs.mapM (λf=>(P.info? f.type).map λi=>(f.offset,i.size))=some (l.map λx=>(x.1,x.2.1))
 | [],l,h=>by simp[FP]at h;subst h;rfl
 |f::fs,l,h=>by
  simp only[FP]at h;cases hx:KO P f with
  |none=>simp[hx]at h
  |some x=>
   cases hl:FP P fs with
   |none=>simp[hx,hl]at h
   |some l2=>
    simp[hx,hl]at h;subst h
    have:=Pt fs l2 hl
    unfold KO at hx;cases hi:P.info? f.type with
    |none=>simp[hi]at hx
    |some i=>
     simp only[hi]at hx;split at hx<;>try(cases hx;done)
     split at hx
     ·cases hx
     ·cases hx
      simp[List.mapM_cons,hi,this]
theorem Ue {t:Nat}{g:Operand->D}{ev:Operand->Value}{ps:Array (Nat×Operand)}{d:D}{p:Prop}(htt:Aw P tt)(hg:∀x,AF ρ O w (g x) (ev x))
  (h:KT tt t g ps.toList=some (d,p)) (hp:p):EP P ρ O w (Instr.build t (ps.map λ(i,x)=>(i,ev x))) d:=by
 unfold KT at h;cases hi:tt t with
 |none=>simp[hi]at h
 |some i=>
  simp only[hi]at h;split at h<;>try(cases h;done)
  rename_i fs hk;split at h<;>try(cases h;done)
  rename_i cs q hf;simp only[Ac,An]at h;obtain⟨rfl,rfl⟩:=h;have ht:=htt _ _ hi;obtain⟨inf,u,h1,h2,h3,h4,h5,h6,h7⟩:=Ed ht;obtain⟨h8,h9⟩:=Jt h6;unfold L2 at hk;split at hk<;>try(cases hk;done)
  rotate_left
  ·rename_i n esz eag hti
   cases hk;obtain⟨e,g1,g2,inf2,g3,g4⟩:=Nq ht hti;obtain⟨vs',e1,e2⟩:=OD hg (place:=λi=>some (i*inf2.size,inf2.size)) (λi x hx=>by
    rw[BW]at hx;cases hr:(List.range n)[i]? with
    |none=>rw[hr]at hx;cases hx
    |some j=>
     rw[hr]at hx;have hj:j=i:=by
      obtain⟨q1,q2⟩:=As.1 hr;simp at q2;exact q2.symm
     subst hj;cases hx;rw[g4]) ps.toList _ _ _ _ hf hp (Gk.zero h9)
   refine⟨.agg vs',?_,.agg e2.len e2.one e2.rep⟩;apply run_build;unfold Program.built;simp only[h1,g1,h3,g3];rw[<-e1];simp
  rename_i fs' hk';cases hk;have hk:=hk';rw[hk]at h7;have hu:∃fa,u=.struct fa/\FP P fa.toList=some fs:=by
   cases u<;>simp only[EI]at h7<;>(repeat' split at h7)<;>simp_all
  obtain⟨fa,rfl,hm⟩:=hu;have hpl:=Pt _ _ hm;obtain⟨vs',e1,e2⟩:=OD hg (place:=((fs.map λx=>(x.1,x.2.1)).toArray[·]?)) (λi x hx=>by simp[hx]) ps.toList _ _ _ _ hf hp (Gk.zero h9);refine⟨.agg vs',?_,.agg e2.len e2.one e2.rep⟩;apply run_build;unfold Program.built;simp only[h1,h2,h3,hpl];rw[<-e1];simp
theorem Pl:∀(l:List D) (vs:List Value) (k:IntKind) (a:Int) (d:D) (p:Prop),HB k a l=some (d,p)->vs.length=l.length->(∀(i:Nat) (c:D),l[i]?=some c->AF ρ O w c (vs.getD i undef)) ->
  EP P ρ O w (vs.foldlM Builtin.min2 (.int k a)) d
 | [],[],k,a,d,p,h,_,_=>by
  simp only[HB,Ac,An]at h;obtain⟨rfl,rfl⟩:=h;exact⟨_,rfl,.prim _⟩
 |c::l,v::vs,k,a,d,p,h,hl,hr=>by
  unfold HB at h;split at h<;>try(cases h;done)
  ·rename_i heq;cases heq
  ·rename_i kk b r heq
   cases heq
   have:=hr 0 _ rfl
   simp at this;cases this;obtain⟨u,h1,h2⟩:=Pl l vs k (min a b) d p h (by simpa using hl) (λi c hc=>by have:=hr (i+1) c (by simpa using hc);simpa using this);refine⟨u,?_,h2⟩;rw[List.foldlM_cons,run_bind];have e:(Builtin.min2 (.int k a) (.int kk b)).run P w=.ok (.int k (min a b)) w:=by
    simp only[Builtin.min2];rw[run_pure];congr 2
    by_cases hab:b<a
    ·rw[AQ hab];omega
    ·rw[AP hab];omega
   rw[e];exact h1
 | [],_::_,_,_,_,_,_,hl,_=>by simp at hl
 |_::_,[],_,_,_,_,_,hl,_=>by simp at hl
theorem Pk:∀(l:List D) (vs:List Value) (k:IntKind) (a:Int) (d:D) (p:Prop),HA k a l=some (d,p)->vs.length=l.length->(∀(i:Nat) (c:D),l[i]?=some c->AF ρ O w c (vs.getD i undef)) ->
  EP P ρ O w (vs.foldlM Builtin.max2 (.int k a)) d
 | [],[],k,a,d,p,h,_,_=>by
  simp only[HA,Ac,An]at h;obtain⟨rfl,rfl⟩:=h;exact⟨_,rfl,.prim _⟩
 |c::l,v::vs,k,a,d,p,h,hl,hr=>by
  unfold HA at h;split at h<;>try(cases h;done)
  ·rename_i heq;cases heq
  ·rename_i kk b r heq
   cases heq
   have:=hr 0 _ rfl
   simp at this;cases this;obtain⟨u,h1,h2⟩:=Pk l vs k (max a b) d p h (by simpa using hl) (λi c hc=>by have:=hr (i+1) c (by simpa using hc);simpa using this);refine⟨u,?_,h2⟩;rw[List.foldlM_cons,run_bind];have e:(Builtin.max2 (.int k a) (.int kk b)).run P w=.ok (.int k (max a b)) w:=by
    simp only[Builtin.max2];rw[run_pure];congr 2
    by_cases hab:b>a
    ·rw[AQ hab];omega
    ·rw[AP hab];omega
   rw[e];exact h1
 | [],_::_,_,_,_,_,_,hl,_=>by simp at hl
 |_::_,[],_,_,_,_,_,hl,_=>by simp at hl
theorem H5 {t:Nat}{u:TypeDesc}(hu:P.underlying t=some u){a:Value}{n:Nat}{ty:Nat}{cst:Array Bool}
  (hm:(match u,a with | .string,.string s=>some s.size | .slice _,.slice _ n _=>some n|_,_=>none)=some n):(builtin .len #[t] ty cst #[a]).run P w=.ok (.value (.int .i64 n)) w:=by
 simp only[builtin];rw[run_bind]
 have:(Builtin.len_ #[t] ty #[a]).run P w=.ok (.int .i64 n) w:=by
  unfold Builtin.len_;simp only[D1,Mu];rw[run_bind,BM hu];dsimp only;split at hm<;>first|(cases hm;done)|(simp only[Ac]at hm;subst hm;rfl)
 rw[this];rfl
theorem T5 {b:Builtin}{tys:Array Nat}{ty:Nat}{cst:Array Bool}{args:Array Operand}{g:Operand->D}{ev:Operand->Value}{d:D}{p:Prop}(htt:Aw P tt)(hg:∀x,AF ρ O w (g x) (ev x))
  (h:KF tt b tys.toList (args.toList.map g)=some (d,p)):∃v,(builtin b tys ty cst (args.map ev)).run P w=.ok (.value v) w/\AF ρ O w d v:=by
 obtain⟨args⟩:=args;obtain⟨tys⟩:=tys;dsimp only at h;unfold KF at h;split at h<;>try(cases h;done)
 ·rename_i x hargs
  obtain⟨X,rfl,rfl⟩:∃X,args=[X]/\g X=x:=by
   cases args with
   |nil=>simp at hargs
   |cons X r=>cases r with
    |nil=>simp at hargs;exact⟨X,rfl,hargs⟩
    |cons=>simp at hargs
  split at h<;>try(cases h;done)
  rename_i t;have hX:=hg X;rw[show Array.map ev ⟨[X]⟩ = #[ev X]from by simp];generalize ev X=a at hX⊢;generalize g X=x at h hX;cases hi:tt t with
  |none=>simp[hi]at h
  |some i=>
   simp only[hi]at h;have ht:=htt _ _ hi;split at h<;>try(cases h;done)
   all_goals(simp only[Ac,An]at h;obtain⟨rfl,rfl⟩:=h)
   ·rename_i s hk
    cases hX;exact⟨_,H5 (Hn ht hk) rfl,.prim _⟩
   ·rename_i nn sz es hk
    cases hX with
    |nil=>exact⟨_,H5 (CC ht hk).1 rfl,.prim _⟩
    |sl f hl=>subst hl;exact⟨_,H5 (CC ht hk).1 rfl,.prim _⟩
    |emp=>exact⟨_,H5 (CC ht hk).1 rfl,.prim _⟩
   ·rename_i k g sz i len' hk
    cases hX with
    |onil=>exact⟨_,H5 (CC ht hk).1 rfl,.prim _⟩
    |osl=>exact⟨_,H5 (CC ht hk).1 rfl,.prim _⟩
   ·rename_i n c hk
    cases hX;exact⟨_,H5 (CC ht hk).1 rfl,.prim _⟩
 ·rename_i k a r hargs
  cases args with
  |nil=>simp at hargs
  |cons X xs=>
   simp only[BP,CQ]at hargs;obtain⟨h1,h2⟩:=hargs;have hX:=hg X;rw[h1]at hX;generalize hv:ev X=v at hX;cases hX;obtain⟨u,e1,e2⟩:=Pl (P:=P) (ρ:=ρ) (O:=O) (w:=w) r (xs.map ev) k a d p h (by simp[<-h2]) (λi c hc=>by
    rw[<-h2]at hc;simp at hc;obtain⟨y,hy,rfl⟩:=hc;simp[hy];exact hg y)
   refine⟨u,?_,e2⟩;simp only[builtin];rw[run_bind]
   have:(Builtin.min_ ⟨tys⟩ ty (Array.map ev ⟨X::xs⟩)).run P w=.ok u w:=by
    unfold Builtin.min_;simp only[List.map_toArray,BP,hv];exact e1
   rw[this];rfl
 ·rename_i k a r hargs
  cases args with
  |nil=>simp at hargs
  |cons X xs=>
   simp only[BP,CQ]at hargs;obtain⟨h1,h2⟩:=hargs;have hX:=hg X;rw[h1]at hX;generalize hv:ev X=v at hX;cases hX;obtain⟨u,e1,e2⟩:=Pk (P:=P) (ρ:=ρ) (O:=O) (w:=w) r (xs.map ev) k a d p h (by simp[<-h2]) (λi c hc=>by
    rw[<-h2]at hc;simp at hc;obtain⟨y,hy,rfl⟩:=hc;simp[hy];exact hg y)
   refine⟨u,?_,e2⟩;simp only[builtin];rw[run_bind]
   have:(Builtin.max_ ⟨tys⟩ ty (Array.map ev ⟨X::xs⟩)).run P w=.ok u w:=by
    unfold Builtin.max_;simp only[List.map_toArray,BP,hv];exact e1
   rw[this];rfl
theorem KV {o:Oper}{g:Operand->D}{ev:Operand->Value}{d:D}{p:Prop}(htt:Aw P tt)(hg:∀x,AF ρ O w (g x) (ev x))(h:B7 tt g o.op=some (d,p))(hp:p):
  ∃v,(execOp ev o).run P w=.ok (.value v) w/\AF ρ O w d v:=by
 have lift:∀(s:Sem Value),EP P ρ O w s d->∃v,(do pure (Next.value (<-s)):Sem Next).run P w=.ok (.value v) w/\AF ρ O w d v:=λs ⟨v,h1,h2⟩=>⟨v,by rw[run_bind,h1];rfl,h2⟩
 unfold execOp;unfold B7 at h;split at h<;>try(cases h;done)
 ·rename_i x ho
  simp only[Ac,An]at h;obtain⟨rfl,rfl⟩:=h;simp only[ho];exact⟨_,rfl,hg x⟩
 ·rename_i x ho
  simp only[Ac,An]at h;obtain⟨rfl,rfl⟩:=h;simp only[ho];exact⟨_,rfl,hg x⟩
 ·rename_i c a b ho
  simp only[ho];split at h<;>try(cases h;done)
  rename_i t hc;simp only[Ac,An]at h;obtain⟨rfl,rfl⟩:=h
  have:=hg c
  rw[hc]at this;generalize hv:ev c=v at this;cases this;refine⟨if t then ev a else ev b,rfl,?_⟩;cases t with
  |true=>rw[AQ rfl,RA (hg a) (hp.1 rfl)];exact .prim _
  |false=>rw[AP (by simp),RA (hg b) (hp.2 rfl)];exact .prim _
 ·rename_i t ps ho
  simp only[ho];exact lift _ (Ue htt hg h hp)
 ·rename_i x ho
  simp only[ho];split at h<;>try(cases h;done)
  all_goals(rename_i hx;simp only[Ac,An]at h;obtain⟨rfl,rfl⟩:=h;have:=hg x;rw[hx]at this;generalize hv:ev x=v at this)
  ·cases this with|pptr f hO hb hcell ho hh=>exact⟨_,rfl,.pptr f hO hb hcell ho hh⟩
  ·cases this with|optr hr=>exact⟨_,rfl,.optr hr⟩
  ·cases this with|clo a b c d=>exact⟨_,rfl,.clo a b c d⟩
 ·rename_i op t x y yt ho
  simp only[ho];exact lift _ (WM htt h hp (hg x) (hg y))
 ·rename_i op t x ho
  simp only[ho];split at h<;>try(cases h;done)
  rename_i e he;simp only[Ac,An]at h;obtain⟨rfl,rfl⟩:=h;exact lift _ (c9 he (hg x))
 ·rename_i src dst x ho
  simp only[ho];cases hs:tt src with
  |none=>simp[hs]at h
  |some si=>
   simp only[hs]at h;split at h<;>try(cases h;done)
   rename_i e he;simp only[Ac,An]at h;obtain⟨rfl,rfl⟩:=h;obtain⟨_,u,_,hu,_⟩:=Ed (htt _ _ hs);exact lift _ (VU htt he (hg x) hu)
 ·rename_i f a b ho
  simp only[ho];simp only[Ac,An]at h;obtain⟨rfl,rfl⟩:=h;refine lift _ ⟨_,rfl,.clo (by simp) (by simp) (λi d hd=>?_) λi d hd=>?_⟩
  ·simp at hd;obtain⟨y,hy,rfl⟩:=hd;simp[hy];exact hg y
  ·simp at hd;obtain⟨y,hy,rfl⟩:=hd;simp[hy];exact hg y
 ·rename_i t x lo hi ho
  simp only[ho];exact lift _ (Vg htt hg h hp (hg x))
 ·rename_i t x f ho
  simp only[ho];cases hi:tt t with
  |none=>simp[hi]at h
  |some i=>
   simp only[hi]at h;split at h<;>try(cases h;done)
   rename_i fs hk;split at h<;>try(cases h;done)
   rename_i o' sz ag hf;split at h<;>try(cases h;done)
   rename_i e he;simp only[Ac,An]at h;obtain⟨rfl,rfl⟩:=h;exact lift _ (UY (htt _ _ hi) hk hf he (hg x))
 ·rename_i t x f ho
  simp only[ho];cases hi:tt t with
  |none=>simp[hi]at h
  |some i=>
   simp only[hi]at h;split at h<;>try(cases h;done)
   rename_i fs hk;split at h<;>try(cases h;done)
   rename_i o' sz ag hf;split at h<;>try(cases h;done)
   rename_i cs hx;split at h<;>try(cases h;done)
   rename_i e he;simp only[Ac,An]at h;obtain⟨rfl,rfl⟩:=h;exact lift _ (V9 (htt _ _ hi) hk hf he (by rw[<-hx];exact hg x))
 ·rename_i t x ix ho
  simp only[ho];cases hi:tt t with
  |none=>simp[hi]at h
  |some i=>
   simp only[hi]at h;have hix:=hg ix;split at h<;>try(cases h;done)
   ·rename_i n esz ag k j hk hx
    rw[hx]at hix;generalize hv:ev ix=v at hix;cases hix;split at h<;>try(cases h;done)
    rename_i e he;simp only[Ac,An]at h;obtain⟨rfl,rfl⟩:=h;exact lift _ (UE (htt _ _ hi) hk he hp.1 hp.2 (hg x))
   ·rename_i e esz eby ez k j hk hx
    rw[hx]at hix;generalize hv:ev ix=v at hix;cases hix;split at h<;>try(cases h;done)
    rename_i k' gg sz i' len hy;simp only[Ac,An]at h;obtain⟨rfl,rfl⟩:=h;obtain⟨p1,p2,rfl⟩:=hp;exact lift _ (UF (htt _ _ hi) hk p1 p2 (by rw[<-hy];exact hg x))
 ·rename_i t x ix ho
  simp only[ho];cases hi:tt t with
  |none=>simp[hi]at h
  |some i=>
   simp only[hi]at h;have hix:=hg ix;have hxx:=hg x;split at h<;>try(cases h;done)
   rename_i s k j hk h1 h2;rw[h2]at hix;rw[h1]at hxx;generalize hv:ev ix=v at hix;cases hix;generalize hv':ev x=v' at hxx;cases hxx;simp only[Ac,An]at h;obtain⟨rfl,rfl⟩:=h;refine lift _ ⟨_,?_,.prim _⟩;unfold Instr.index;rw[run_bind,J4];dsimp only;rw[run_bind,BM (Hn (htt _ _ hi) hk)];dsimp only;have hlt:j.toNat<s.size:=by omega
   have e:(if 0<=j then s[j.toNat]? else none)=some (s.data.toList.getD j.toNat 0):=by
    rw[AQ hp.1];have hlt':j.toNat<s.data.size:=hlt;rw[getElem?_pos s j.toNat hlt];simp;rw[A9 hlt'];rfl
   rw[e];rfl
 ·rename_i x ix ho
  simp only[ho];have hxx:=hg x;split at h<;>try(cases h;done)
  rename_i ds h1;rw[h1]at hxx;generalize hv':ev x=v' at hxx;split at h<;>try(cases h;done)
  rename_i e he;simp only[Ac,An]at h;obtain⟨rfl,rfl⟩:=h;cases hxx with
  |tup hn hh=>
   rename_i vs;have hlt:ix<ds.length:=by
    rcases Ar ix ds.length with h'|h'
    ·exact h'
    ·rw[Dd h']at he;cases he
   refine lift _ ⟨vs.getD ix undef,?_,hh _ _ he⟩;unfold Instr.extract
   have:vs[ix]?=some (vs.getD ix undef):=by
    rw[AS,Du];rfl
   simp only[this];rfl
 ·rename_i b args tys ho
  simp only[ho];obtain⟨v,e1,e2⟩:=T5 (ty:=o.type) (cst:=args.map fun | .const _=>true|_=>false) htt hg h;exact⟨v,e1,e2⟩
end
def Hp.get:Hp->Nat->Option AI
 | [],_=>none
 |e::r,k=>match Nat.beq e.k k with
  |true=>some e
  |false=>Hp.get r k
theorem Hp.get_mem:∀ {H:Hp} {k:Nat} {e:AI},Hp.get H k=some e->e∈H/\e.k=k
 |e::r,k,e',h=>by
  simp only[Hp.get]at h;cases hb:Nat.beq e.k k with
  |true=>simp[hb]at h;subst h;exact⟨by simp,Ab hb⟩
  |false=>simp[hb]at h;obtain⟨h1,h2⟩:=Hp.get_mem h;exact⟨by simp[h1],h2⟩
 | [],_,_,h=>by simp[Hp.get]at h
def H6:D->Bool
 | .agg _=>false
 |_=>true
def D9 (g:Operand->D):Nat->List (Nat×Operand)->Option (List D)
 |_,[]=>some []
 |i,(j,x)::r=>match Nat.beq i j with
  |true=>match D9 g (i+1) r with
   |some l=>some (g x::l)
   |none=>none
  |false=>none
def HE (ag:Bool)(sz:Nat):List D->Prop
 | []=>True
 | [d]=>Ck ag sz d
 |d::l=>Ck ag sz d/\HE ag sz l
def CX (tt:Nat->Option AJ)(H:Hp)(n k:Nat)(g:Operand->D):Op->Option (D×Option AI×Prop)
 | .load t x=>match tt t with
  |some i=>match g x with
   | .optr k' gg sz j off=>match Hp.get H k' with
    |some e=>match e.es[j]? with
     |some d=>match Cz i.ag i.sz off d.cells with
      |some d'=>some (d',none,gg=e.g/\sz=e.sz/\(bif Nat.ble 1 e.sz then bif i.ag then Nat.ble (off+i.sz) d.cells.length else true else false)=true)
      |none=>none
     |none=>none
    |none=>none
   | .pptr d=>match i.ag with
    |true=>match d with
     | .agg ds=>some (d,none,Nat.beq ds.length i.sz=true)
     |_=>none
    |false=>some (d,none,H6 d=true)
   |_=>none
  |none=>none
 | .alloc t=>match tt t with
  |some i=>some (.optr k n i.sz 0 0,some ⟨k,n,t,i.sz,[ofV i.zero]⟩,Nat.ble 1 i.sz=true)
  |none=>none
 | .box t x=>match tt t with
  |some i=>some (.optr k n i.sz 0 0,some ⟨k,n,t,i.sz,[g x]⟩,Ck i.ag i.sz (g x)/\Nat.ble 1 i.sz=true)
  |none=>none
 | .buildSlice t len ps=>match tt t with
  |some i=>match i.ti with
   | .slice e esz _ _=>match len with
    | 0=>match ps.toList with
     | []=>some (.osl k n esz 0 0,some ⟨k,n,e,esz,[]⟩,Nat.ble 1 esz=true)
     |_=>none
    |len+1=>match tt e with
     |some ie=>match D9 g 0 ps.toList with
      |some es=>some (.sl true esz es,none,HE ie.ag esz es/\es.length=len+1/\Nat.ble ((len+1)*esz) 16777216=true/\Nat.ble 1 esz=true)
      |none=>none
     |none=>none
   |_=>none
  |none=>none
 |_=>none
section
variable {C:AX} {F:AH} {ρ:Lk} {H:Hp} {w:World}
def BZ:Option AI->Hp->Hp
 |some e,H=>e::H
 |none,H=>H
structure LF (C:AX)(F:AH)(ρ:Lk)(H:Hp)(w:World)(n:Nat)(d:D)(H':Hp)(n':Nat)(v:Value)(ρ':Lk)(w':World):Prop where
 mem:AL C F ρ' H' w'
 ext:Al ρ (AE F.X ρ H) w ρ' (AE F.X ρ' H') w'
 fresh:GD ρ' n'
 rep:AF ρ' (AE F.X ρ' H') w' d v
structure Ek (C:AX)(F:AH)(He:Hp)(ρ:Lk)(w:World)(g:Nat)(d:D)(ne:Option AI)(v:Value)(ρ':Lk)(w':World):Prop where
 mem:AL C F ρ' (BZ ne He) w'
 ext:Al ρ (AE F.X ρ He) w ρ' (AE F.X ρ' (BZ ne He)) w'
 far:∀k g',g'≠g->ρ' k g'=ρ k g'
 rep:AF ρ' (AE F.X ρ' (BZ ne He)) w' d v
theorem U5 {ag:Bool}{sz off:Nat}{cs:List D}{d:D}{O:Nat->Prop}{f:Nat->Value}(h:Cz ag sz off cs=some d)(hlen:ag=true->off+sz<=cs.length)
  (ho:∀j,j<cs.length->one (f j)=true) (hr:∀j c,cs[j]?=some c->AF ρ O w c (f j)):
  AF ρ O w d (match ag with|true=>.agg ((List.range sz).map λj=>f (off+j)).toArray|false=>f off):=by
 rcases LL h with⟨rfl,rfl⟩|⟨rfl,h1⟩
 ·have hl:=hlen rfl
  refine .agg (by simp;omega) (λi v hv=>?_) λi c hc=>?_
  ·rw[D1,BW]at hv
   by_cases hi:i<sz
   ·rw[FD hi]at hv
    cases hv;exact ho _ (by omega)
   ·rw[Dd (by simp;omega)]at hv;cases hv
  ·rw[Cn]at hc
   split at hc
   ·rename_i hlt
    rw[Ep]at hc;simp[hlt];exact hr _ _ hc
   ·cases hc
 ·exact hr _ _ h1
theorem Nk {P:Program}{t:Nat}{i:AJ}{b o:Nat}{f:Nat->Value}(ht:Cd P t=some i)(hi:∀n,n<(if i.ag then i.sz else 1)->w.cell? ⟨b,o+n,none⟩=some (f n)):
  (Instr.loadAt t (.pointer (some ⟨b,o,none⟩))).run P w=.ok (match i.ag with|true=>.agg ((List.range i.sz).map f).toArray|false=>f 0) w:=by
 obtain⟨inf,u,h1,h2,h3,h4,h5,h6,h7⟩:=Ed ht;have hag:=(T9 ht).agg;unfold Instr.loadAt;rw[run_bind,Jv];dsimp only;unfold loadVar;rw[run_bind,Nn h2,hag];dsimp only;cases ha:i.ag with
 |true=>
  rw[AQ rfl,run_bind,EQ h1,h4];dsimp only;rw[run_bind,run_loadCells (P:=P) w _ _ f (λj hj=>by rw[Ee];exact hi j (by rw[ha];exact hj))];rfl
 |false=>
  rw[AP (by simp)]
  have:=hi 0 (by rw[ha];simp)
  rw[FE]at this;unfold load;simp only[Sem.run,this]
theorem JI {a b:Bool}(h:(bif a then b else false)=true):a=true/\b=true:=by cases a<;>cases b<;>simp_all
theorem GG {n:Nat}(h:Nat.ble 1 n=true):n≠0:=by have:=A7 h;omega
theorem Qi {P:Program}{t:Nat}{i:AJ}{k g sz j off:Nat}{d d':D}{e:AI}{a:Value}(m:AL C F ρ H w)(ht:Cd P t=some i)(hm:e∈H)(hk:e.k=k)(hd:e.es[j]?=some d)
  (hp:Cz i.ag i.sz off d.cells=some d') (hg:g=e.g) (hs:sz=e.sz) (hz:e.sz≠0) (hlen:i.ag=true->off+i.sz<=d.cells.length) (hx:AF ρ (AE F.X ρ H) w (.optr k g sz j off) a):
  ∃v,(Instr.loadAt t a).run P w=.ok v w/\AF ρ (AE F.X ρ H) w d' v:=by
 subst hg hs;cases hx with
 |optr hr=>
  rename_i b;rw[<-hk]at hr;obtain⟨cs,h1,h2⟩:=m.at hm hr hz;have hdl:=h2.siz j d hd;have hjl:j<e.es.length:=by
   rcases Ar j e.es.length with h'|h'
   ·exact h'
   ·rw[Dd h']at hd;cases hd
  have hin:∀n,n<e.sz->j*e.sz+n<cs.size:=λn hn=>by
   have:(j+1)*e.sz<=e.es.length*e.sz:=Bl _ hjl
   rw[BS]at this;have:=h2.len;omega
  have hcell:∀n,n<e.sz->w.cell? ⟨b,j*e.sz+n,none⟩=some (cs.getD (j*e.sz+n) undef):=λn hn=>by
   have:=hin n hn
   simp[World.cell?,h1,this]
  have hoff:off<e.sz\/i.ag=true:=by
   cases ha:i.ag with
   |true=>exact .inr rfl
   |false=>
    left;rw[ha]at hp;rcases LL hp with⟨h,_⟩|⟨_,h⟩
    ·cases h
    ·rw[<-hdl]
     rcases Ar off d.cells.length with h'|h'
     ·exact h'
     ·rw[Dd h']at h;cases h
  have run:=Nk (P:=P) (w:=w) (b:=b) (o:=j*e.sz+off) (f:=λn=>cs.getD (j*e.sz+off+n) undef) ht (λn hn=>by
   have:off+n<e.sz:=by
    cases ha:i.ag with
    |true=>rw[ha]at hn;have:=hlen ha;simp at hn;omega
    |false=>
     rw[ha]at hn;simp at hn;rcases hoff with h|h
     ·omega
     ·rw[ha]at h;cases h
   rw[FT,hcell _ this])
  refine⟨_,run,?_⟩
  have:=U5 (ρ:=ρ) (w:=w) (O:=AE F.X ρ H) (f:=λn=>cs.getD (j*e.sz+n) undef) hp hlen (λn hn=>by
   have h':=hin n (by omega)
   have:=h2.one (j*e.sz+n) (cs[j*e.sz+n]) (A9 h')
   simpa[AS,A9 h']using this) (λn c hc=>h2.rep j d n c hd hc)
  cases ha:i.ag with
  |true=>rw[ha]at this;simpa[FT]using this
  |false=>rw[ha]at this;simpa using this
theorem Le {P:Program}{t:Nat}{i:AJ}{d:D}{a:Value}{O:Nat->Prop}(ht:Cd P t=some i)(h1:i.ag=true->∃ds,d=.agg ds/\ds.length=i.sz)(h2:i.ag=false->H6 d=true)
  (hx:AF ρ O w (.pptr d) a):∃v,(Instr.loadAt t a).run P w=.ok v w/\AF ρ O w d v:=by
 cases hx with
 |pptr f hO hb hcell ho hh=>
  rename_i b off;cases ha:i.ag with
  |true=>
   obtain⟨ds,rfl,hl⟩:=h1 ha;have run:=Nk (P:=P) (w:=w) (b:=b) (o:=off) (f:=f) ht (λn hn=>by rw[ha]at hn;simp at hn;exact hcell n (by simp[D.cells];omega));rw[ha]at run;refine⟨_,run,.agg (by simp[hl]) (λj v hv=>?_) λj c hc=>?_⟩
   ·rw[D1,BW]at hv
    by_cases hi:j<i.sz
    ·rw[FD hi]at hv
     cases hv;exact ho _ (by simp[D.cells];omega)
    ·rw[Dd (by simp;omega)]at hv;cases hv
   ·have hj:j<i.sz:=by
     rw[<-hl];rcases Ar j ds.length with h'|h'
     ·exact h'
     ·rw[Dd h']at hc;cases hc
    have e:(List.map f (List.range i.sz)).toArray.getD j undef=f j:=by simp[hj]
    rw[e];exact hh j c hc
  |false=>
   have hc:d.cells=[d]:=by
    have:=h2 ha
    cases d<;>first|rfl|simp[H6]at this
   have run:=Nk (P:=P) (w:=w) (b:=b) (o:=off) (f:=f) ht (λn hn=>by rw[ha]at hn;simp at hn;subst hn;exact hcell 0 (by rw[hc];simp));rw[ha]at run;exact⟨_,run,hh 0 d (by rw[hc];rfl)⟩
theorem Bq.new {e:AI}{v:Value}{d:D}{ag:Bool}(he:e.es=[d])(hf:Ck ag e.sz d)(hx:AF ρ (AE F.X ρ H) w d v):Bq ρ (AE F.X ρ H) w e v.cells:=by
 obtain⟨h1,h2,h3,h4,h5⟩:=hf _ _ _ _ hx;rw[h5]at h3 h4;refine⟨by rw[he];simp[h1],λi d' hd=>?_,h2,λi d' j c hd hc=>?_⟩
 ·rw[he]at hd
  cases i with
  |zero=>simp at hd;subst hd;exact h3
  |succ i=>simp at hd
 ·rw[he]at hd
  cases i with
  |zero=>simp at hd;subst hd;simpa using h4 j c hc
  |succ i=>simp at hd
theorem Na {ag:Bool}{sz:Nat}:∀ {l:List D},HE ag sz l->∀(i:Nat) (d:D),l[i]?=some d->Ck ag sz d
 | [],_,i,d,h=>by simp at h
 | [x],hf,i,d,h=>by
  cases i with
  |zero=>simp at h;subst h;exact hf
  |succ i=>simp at h
 |x::y::l,hf,i,d,h=>by
  cases i with
  |zero=>simp at h;subst h;exact hf.1
  |succ i=>exact Na hf.2 i d (by simpa using h)
theorem OC {O:Nat->Prop}{ag:Bool}{esz:Nat}{g:Operand->D}{ev:Operand->Value}(hg:∀x,AF ρ O w (g x) (ev x)):∀(ps:List (Nat×Operand)) (i:Nat) (l:List D) (vs:Array Value),
  D9 g i ps=some l->(∀(q:Nat) (d:D),l[q]?=some d->Ck ag esz d)->vs.size=(i+l.length)*esz ->
  ∃vs',Instr.fill (λi=>some (i*esz,esz)) vs (ps.map λx=>(x.1,ev x.2))=some vs'/\vs'.size=vs.size/\(∀j,j<i*esz->vs'[j]?=vs[j]?) /\
   ∀(q:Nat) (d:D),l[q]?=some d->d.cells.length=esz/\(∀(j:Nat) (c:D),d.cells[j]?=some c->AF ρ O w c (vs'.getD ((i+q)*esz+j) undef)) /\
    ∀j,j<esz->one (vs'.getD ((i+q)*esz+j) undef)=true
 | [],i,l,vs,h,hf,hs=>by
  simp only[D9,Ac]at h;subst h;exact⟨vs,rfl,rfl,λ_ _=>rfl,by simp⟩
 |(j,x)::r,i,l,vs,h,hf,hs=>by
  simp only[D9]at h;cases hb:Nat.beq i j with
  |false=>simp[hb]at h
  |true=>
   obtain rfl:=Ab hb;cases hr:D9 g (i+1) r with
   |none=>simp[hr]at h
   |some l2=>
    simp[hr]at h;subst h;obtain⟨h1,h2,h3,h4,h5⟩:=hf 0 _ rfl ρ O w _ (hg x);rw[h5]at h3 h4;have hsz:(i+1)*esz<=vs.size:=by rw[hs];exact Bl _ (by simp)
    have hsz':i*esz+esz<=vs.size:=by rw[BS]at hsz;omega
    have get:∀j,((ev x).cells.toList.zipIdx.foldl (λcs (x:Value×Nat)=>cs.setIfInBounds (i*esz+x.2) x.1) vs)[j]?=if i*esz<=j/\j<i*esz+esz then(ev x).cells[j-i*esz]? else vs[j]?:=λj=>by
     rw[Nw]
     by_cases hj:i*esz<=j/\j<i*esz+esz
     ·rw[AQ hj,AQ (by simp[h1];omega)];simp
     ·rw[AP hj,AP (by simp[h1];omega)]
    obtain⟨vs',e1,e2,e3,e4⟩:=OC hg r (i+1) l2 ((ev x).cells.toList.zipIdx.foldl (λcs (x:Value×Nat)=>cs.setIfInBounds (i*esz+x.2) x.1) vs) hr
     (λq d hd=>hf (q+1) d (by simpa using hd)) (by rw[Lc,hs];congr 1;simp;omega)
    have e0:(i+1)*esz=i*esz+esz:=by rw[BS];omega
    refine⟨vs',?_,by rw[e2,Lc],λj hj=>?_,λq d hd=>?_⟩
    ·simp only[BP,Instr.fill]
     rw[AP (by simp[h1];omega),<-Array.foldl_toList,Array.toList_zipIdx];exact e1
    ·rw[e3 j (by omega),get,Ba]
    ·cases q with
     |zero=>
      simp at hd;subst hd;have hcell:∀j,j<esz->vs'.getD (i*esz+j) undef=(ev x).cells.getD j undef:=λj hj=>by
       simp only[AS];rw[e3 _ (by omega),get,C9,show i*esz+j-i*esz=j from by omega]
      refine⟨h3,λj c hc=>?_,λj hj=>?_⟩
      ·have hj:j<esz:=by
        rw[<-h3];rcases Ar j (g x).cells.length with h'|h'
        ·exact h'
        ·rw[Dd h']at hc;cases hc
       rw[FE,hcell j hj];exact h4 j c hc
      ·rw[FE,hcell j hj]
       have:j<(ev x).cells.size:=by omega
       have:=h2 j _ (A9 this)
       simp[AS, *]
     |succ q=>
      have:=e4 q d (by simpa using hd)
      rw[show i+(q+1)=i+1+q from by omega];exact this
theorem NP {t e:Nat}{esz eby:Nat}{ez:Value}{i:AJ}{len:Nat}{parts:Array (Nat×Value)}{cells:Array Value}(ht:Cd C.P t=some i)(hk:i.ti=.slice e esz eby ez)
  (hl:len*esz<=16777216) (hf:Instr.fill (λi=>some (i*esz,esz)) ((Array.range (len*esz)).map (λj=>(if len*esz=0 then #[]else ez.cells)[j%(if len*esz=0 then #[]else ez.cells).size]!)) parts.toList=some cells):
  (Instr.buildSlice t len parts).run C.P w=.ok (.slice (some ⟨w.heap.size,0,none⟩) len len) (w.alloc (.cells cells e)):=by
 obtain⟨hu,⟨inf,e3,e4,e5,e6⟩,e7,e8⟩:=CC ht hk;unfold Instr.buildSlice;rw[run_bind,BM hu];dsimp only;rw[run_bind,EQ e3,e4];dsimp only;rw[Ba]
 by_cases h0:len*esz=0
 ·simp only[h0,if_true]at hf⊢
  rw[run_bind,run_pure];dsimp only;rw[hf];rfl
 ·simp only[h0,if_false]at hf⊢
  rw[run_bind,Jp e3 e6];dsimp only;rw[run_bind,run_pure];dsimp only;rw[hf];rfl
theorem Rb {tt:Nat->Option AJ}{o:Oper}{g:Operand->D}{ev:Operand->Value}{n k:Nat}{d:D}{ne:Option AI}{p:Prop}{H0:Hp}(hsub:∀e∈H0,e∈H)(htt:Aw C.P tt)(m:AL C F ρ H w)(fr:∀k,ρ k n=none)(hlt:∀e∈H,e.g≠n)
  (hg:∀x,AF ρ (AE F.X ρ H) w (g x) (ev x)) (h:CX tt H0 n k g o.op=some (d,ne,p)) (hp:p):
  ∃v ρ' w',(execOp ev o).run C.P w=.ok (.value v) w'/\Ek C F H ρ w n d ne v ρ' w':=by
 unfold execOp;unfold CX at h;split at h<;>try(cases h;done)
 ·rename_i t x ho
  simp only[ho];cases hi:tt t with
  |none=>simp[hi]at h
  |some i=>
   simp only[hi]at h;have ht:=htt _ _ hi;have hx:=hg x;have same:∀(s:Sem Value) (d':D),(∃v,s.run C.P w=.ok v w/\AF ρ (AE F.X ρ H) w d' v)->∃v ρ' w',(do pure (Next.value (<-s)):Sem Next).run C.P w=.ok (.value v) w'/\Ek C F H ρ w n d' none v ρ' w':=
    λs d' ⟨v,h1,h2⟩=>⟨v,ρ,w,by rw[run_bind,h1];rfl,m,.refl _ _ _,λ_ _ _=>rfl,h2⟩
   split at h<;>try(cases h;done)
   ·rename_i k' gg sz j off hgx
    rw[hgx]at hx;split at h<;>try(cases h;done)
    rename_i e he;split at h<;>try(cases h;done)
    rename_i d1 hd1;split at h<;>try(cases h;done)
    rename_i d2 hd2;simp only[Ac,An]at h;obtain⟨rfl,rfl,rfl⟩:=h;refine same _ _ (Qi m ht (hsub _ (Hp.get_mem he).1) (Hp.get_mem he).2 hd1 hd2 hp.1 hp.2.1 (GG (JI hp.2.2).1) (λha=>?_) hx)
    have:=(JI hp.2.2).2
    rw[ha]at this;exact A7 this
   ·rename_i d1 hgx
    rw[hgx]at hx;split at h
    ·rename_i ha
     split at h<;>try(cases h;done)
     rename_i ds;simp only[Ac,An]at h;obtain⟨rfl,rfl,rfl⟩:=h;exact same _ _ (Le ht (λ_=>⟨ds,rfl,Ab hp⟩) (λh'=>by rw[ha]at h';cases h') hx)
    ·rename_i ha
     simp only[Ac,An]at h;obtain⟨rfl,rfl,rfl⟩:=h;exact same _ _ (Le ht (λh'=>by rw[ha]at h';cases h') (λ_=>hp) hx)
 ·rename_i t ho
  simp only[ho];cases hi:tt t with
  |none=>simp[hi]at h
  |some i=>
   simp only[hi,Ac,An]at h;obtain⟨rfl,rfl,rfl⟩:=h;have ht:=htt _ _ hi;obtain⟨inf,u,h1,h2,h3,h4,h5,h6,h7⟩:=Ed ht;obtain⟨h8,h9⟩:=Jt h6;have hz:AF ρ (AE F.X ρ H) w (ofV i.zero) i.zero:=AF.ofV λj x hx=>.inl (h9 j x hx)
   have hcl:(ofV i.zero).cells.length=i.sz:=by rw[<-h8];cases i.zero<;>simp[ofV,D.cells,Value.cells]
   have hok:Bq ρ (AE F.X ρ H) w ⟨k,n,t,i.sz,[ofV i.zero]⟩ i.zero.cells:=by
    refine⟨by simp[h8],λj d hd=>?_,h9,λj d jj c hd hc=>?_⟩
    ·cases j with
     |zero=>simp at hd;subst hd;exact hcl
     |succ j=>simp at hd
    ·cases j with
     |zero=>
      simp at hd;subst hd;cases hzv:i.zero with
      |agg vs=>
       rw[hzv]at hc hz;cases hz with
       |agg hn ho hh=>simpa[Value.cells]using hh jj c hc
      |_=>
       rw[hzv]at hc;simp only[ofV,D.cells]at hc;cases jj with
       |zero=>simp at hc;subst hc;simp[Value.cells];exact .prim _
       |succ jj=>simp at hc
     |succ j=>simp at hd
   obtain⟨a1,a2⟩:=m.alloc ⟨k,n,t,i.sz,[ofV i.zero]⟩ i.zero.cells (fr k) (λe he hh=>hlt e he hh.2) (GG hp) hok;refine⟨.pointer (some ⟨w.heap.size,0,none⟩),_,_,?_,a1,a2,?_,?_⟩
   ·rw[run_bind]
    have:(Instr.alloc t true (.tuple #[])).run C.P w=.ok (.pointer (some ⟨w.heap.size,0,none⟩)) (w.alloc (.cells i.zero.cells t)):=by
     unfold Instr.alloc;rw[run_bind,Jp h1 h3];rfl
    rw[this];rfl
   ·intro k' g' hg'
    unfold Lk.put;rw[AP (by dsimp only;omega)]
   ·have:=AF.optr (sz:=i.sz) (i:=0) (off:=0) (O:=AE F.X (ρ.put k n w.heap.size) (⟨k,n,t,i.sz,[ofV i.zero]⟩::H)) (w:=w.alloc (.cells i.zero.cells t)) (CF ρ k n w.heap.size)
    simpa[BZ]using this
 ·rename_i t x ho
  simp only[ho];cases hi:tt t with
  |none=>simp[hi]at h
  |some i=>
   simp only[hi,Ac,An]at h;obtain⟨rfl,rfl,rfl⟩:=h;have hok:Bq ρ (AE F.X ρ H) w ⟨k,n,t,i.sz,[g x]⟩ (ev x).cells:=Bq.new rfl hp.1 (hg x);obtain⟨a1,a2⟩:=m.alloc ⟨k,n,t,i.sz,[g x]⟩ (ev x).cells (fr k) (λe he hh=>hlt e he hh.2) (GG hp.2) hok;refine⟨.pointer (some ⟨w.heap.size,0,none⟩),_,_,?_,a1,a2,?_,?_⟩
   ·rw[run_bind];rfl
   ·intro k' g' hg'
    unfold Lk.put;rw[AP (by dsimp only;omega)]
   ·have:=AF.optr (sz:=i.sz) (i:=0) (off:=0) (O:=AE F.X (ρ.put k n w.heap.size) (⟨k,n,t,i.sz,[g x]⟩::H)) (w:=w.alloc (.cells (ev x).cells t)) (CF ρ k n w.heap.size)
    simpa[BZ]using this
 ·rename_i t len ps ho
  simp only[ho];cases hi:tt t with
  |none=>simp[hi]at h
  |some i=>
   simp only[hi]at h;have ht:=htt _ _ hi;split at h<;>try(cases h;done)
   rename_i e esz eby ez hk;split at h
   ·split at h<;>try(cases h;done)
    rename_i hps;simp only[Ac,An]at h;obtain⟨rfl,rfl,rfl⟩:=h;have run:=NP (C:=C) (w:=w) (len:=0) (parts:=ps.map λ(i,x)=>(i,ev x)) (cells:=#[]) ht hk (by omega) (by simp[hps,Instr.fill]);have hok:Bq ρ (AE F.X ρ H) w ⟨k,n,e,esz,[]⟩ #[]:=⟨by simp,by simp,by simp,by simp⟩
    obtain⟨a1,a2⟩:=m.alloc ⟨k,n,e,esz,[]⟩ #[] (fr k) (λe he hh=>hlt e he hh.2) (GG hp) hok;refine⟨_,_,_,by rw[run_bind,run];rfl,a1,a2,?_,?_⟩
    ·intro k' g' hg'
     unfold Lk.put;rw[AP (by dsimp only;omega)]
    ·have:=AF.osl (sz:=esz) (i:=0) (len:=0) (cap:=0) (O:=AE F.X (ρ.put k n w.heap.size) (⟨k,n,e,esz,[]⟩::H)) (w:=w.alloc (.cells #[] e)) (T:=e) (cs:=#[]) (fz:=(0,0)) (CF ρ k n w.heap.size)
      (by rw[CS,AQ rfl]) (Ah _) (by simp) (by simp[maxLen])
     simpa[BZ]using this
   ·rename_i len
    split at h<;>try(cases h;done)
    rename_i ie hie;split at h<;>try(cases h;done)
    rename_i es hes;simp only[Ac,An]at h;obtain⟨rfl,rfl,rfl⟩:=h;obtain⟨p1,p2,p3,p4⟩:=hp;have p3:=A7 p3;have p4:=A7 p4;have hpos:(len+1)*esz≠0:=by
     intro h0
     have:=Nat.mul_eq_zero.1 h0;omega
    obtain⟨vs',f1,f2,f3,f4⟩:=OC (ρ:=ρ) (w:=w) (O:=AE F.X ρ H) hg ps.toList 0 es ((Array.range ((len+1)*esz)).map (λj=>(if(len+1)*esz=0 then #[]else ez.cells)[j%(if(len+1)*esz=0 then #[]else ez.cells).size]!)) hes
     (Na p1) (by simp[p2])
    have run:=NP (C:=C) (w:=w) (len:=len+1) (parts:=ps.map λ(i,x)=>(i,ev x)) (cells:=vs') ht hk p3 (by rw[<-f1];simp);refine⟨_,ρ,_,by rw[run_bind,run];rfl,m.allocPure _,.allocPure _,λ_ _ _=>rfl,?_⟩;have hsz:vs'.size=(len+1)*esz:=by rw[f2];simp
    have x:Al ρ (AE F.X ρ H) w ρ (AE F.X ρ H) (w.alloc (.cells vs' e)):=.allocPure _;refine .sl (λj=>vs'.getD j undef) p2 (Ah _) (λho=>by have:=m.own_lt ho;omega) (by simp) (λq d hd=>(f4 q d hd).1) (λj hj=>?_) (λj hj=>?_) λq d j c hd hc=>?_
    ·have:j<vs'.size:=by omega
     rw[B6,World.cell?_alloc_new,AS,A9 this];rfl
    ·have hq:j/esz<es.length:=by rw[p2];exact(Nat.div_lt_iff_lt_mul (by omega)).2 hj
     have:=(f4 (j/esz) _ (BK hq)).2.2 (j%esz) (GP _ (by omega))
     rw[B6,Nat.div_add_mod']at this;exact this
    ·have:=(f4 q d hd).2.1 j c hc
     rw[B6]at this;exact this.mono x
end
def Ag (env:AZ):Option Nat->D->AZ
 |some t,d=>(t,d)::env
 |none,_=>env
def Ai (ops:Array Oper)(env:AZ)(o:Oper):Option Bool:=match o.guard with
 |none=>some true
 |some (j,want)=>match ops[j]? with
  |none=>some false
  |some oj=>match oj.dst with
   |none=>some false
   |some t=>match env.get t with
    | .prim (.bool b)=>match want with
     |true=>some b
     |false=>some (!b)
    | .prim (.tuple _)=>some false
    | .gd u (.prim (.bool b))=>match want with
     |true=>some (u&&b)
     |false=>some (u && !b)
    |_=>none
section
variable {C:AX} {F:AH} {s:St} {ops:Array Oper} {o:Oper} {os:List Oper} {K:St->Prop}
theorem Ez {env:AZ}{a:Act}{ρ:Lk}{O:Nat->Prop}{w:World}{b:Bool}(he:∀t,AF ρ O w (env.get t) (a.tmps.getD t undef))(h:Ai ops env o=some b):
  Region.wanted o (yielded ops a.tmps)=b:=by
 unfold Ai at h;unfold Region.wanted;split at h
 ·rename_i hg;simp only[hg];simpa using h
 ·rename_i j want hg
  simp only[hg];cases hj:ops[j]? with
  |none=>simp only[hj]at h;cases h;simp[yielded,hj]
  |some oj=>
   simp only[hj]at h;cases hd:oj.dst with
   |none=>simp only[hd]at h;cases h;simp[yielded,hj,hd]
   |some t=>
    simp only[hd]at h;have hr:=he t;have hy:∀x,a.tmps.getD t undef=.bool x->yielded ops a.tmps j=some x:=by
     intro x hx;have hlt:t<a.tmps.size:=by
      rcases Ar t a.tmps.size with h'|h'
      ·exact h'
      ·rw[AS,IR h']at hx;cases hx
     have:a.tmps[t]?=some (.bool x):=by
      rw[A9 hlt];rw[AS,A9 hlt]at hx;exact congrArg some hx
     simp[yielded,hj,hd,this]
    have hn:(∀x,a.tmps.getD t undef≠.bool x)->yielded ops a.tmps j=none:=by
     intro hx;unfold yielded;simp only[hj,hd,Option.bind_some];cases ht:a.tmps[t]? with
     |none=>rfl
     |some v=>
      cases v<;>first|rfl|(rename_i x;exact AY (by simp[ht]) (hx x))
    split at h
    ·rename_i x hx
     rw[hx]at hr;generalize hv:a.tmps.getD t undef=v at hr;have e:v=.bool x:=by cases hr;rfl
     subst e;rw[hy _ hv];cases want<;>cases x<;>cases h<;>rfl
    ·rename_i x hx
     rw[hx]at hr;generalize hv:a.tmps.getD t undef=v at hr;have e:v=.tuple x:=by cases hr;rfl
     subst e;cases h;rw[hn (λy hy'=>by rw[hv]at hy';cases hy')];rfl
    ·rename_i u x hx
     rw[hx]at hr;generalize hv:a.tmps.getD t undef=v at hr;cases hr with
     |gd h1 h2=>
      cases u with
      |true=>
       have e:v=.bool x:=by have:=h1 rfl;cases this;rfl
       subst e;rw[hy _ hv];cases want<;>cases x<;>cases h<;>rfl
      |false=>
       have:=h2 rfl
       subst this;rw[hn (λy hy'=>by rw[hv]at hy';cases hy')];cases want<;>cases x<;>cases h<;>rfl
    ·cases h
theorem Aq.put {ρ ρ':Lk}{a:Act}{w w':World}{H':Hp}{n':Nat}{d:D}{v:Value}(h:Aq C F ρ s a w)(m:AL C F ρ' H' w')(x:Al ρ (AE F.X ρ s.H) w ρ' (AE F.X ρ' H') w')(fr:GD ρ' n')
  (hg:∀e∈H',e.g<n') (hv:AF ρ' (AE F.X ρ' H') w' d v) (hd:B0 F.nt o=true):Aq C F ρ' ⟨Ag s.env o.dst d,H',n'⟩ (a.put o.dst v) w':=by
 refine⟨m,fr,hg,λt=>?_,?_,?_⟩
 ·cases ho:o.dst with
  |none=>exact(h.env t).mono x
  |some k=>
   have hk:k<a.tmps.size:=by
    rw[h.nt];unfold B0 at hd;rw[ho]at hd;exact Nat.blt_eq.mp hd
   show AF _ _ _ (AZ.get ((k,d)::s.env) t) ((a.tmps.setIfInBounds k v).getD t undef);rw[GI,AS,C4]
   by_cases hkt:k=t
   ·subst hkt;rw[AQ rfl,AQ rfl,AQ hk];exact hv
   ·rw[AP hkt,AP hkt,<-AS];exact(h.env t).mono x
 ·cases ho:o.dst<;>simp[Act.put,h.nt]
 ·cases ho:o.dst<;>simp[Act.put,h.dfr]
def GT (C:AX)(F:AH)(K:St->Prop):Exit->Act->World->Prop:=λe a' w'=>e=.normal/\∃s' ρ',K s'/\Aq C F ρ' s' a' w'
def AM (C:AX)(F:AH)(ops:Array Oper)(os:List Oper)(s:St)(K:St->Prop):Prop:=
 os.all (B0 F.nt)=true->∀(l:List Nat),l.map (ops[·]?)=os.map some->∀ρ a w,Aq C F ρ s a w->wpOps C.P ops (GT C F K) l a w
theorem P8 {Q:Exit->St->Prop}:∀(l:List Nat) (a:Act) (w:World),wpOps C.P ops (GT C F (Q .normal)) l a w->wpOps C.P ops (λe a' w'=>∃s' ρ',Q e s'/\Aq C F ρ' s' a' w') l a w:=by
  intro l
  induction l with
  |nil=>rintro a w ⟨_,s',ρ',hq,hs'⟩;exact⟨s',ρ',hq,hs'⟩
  |cons i l ih=>
   intro a w h;simp only[wpOps]at h⊢;cases ho:ops[i]? with
   |none=>simp only[ho]at h⊢;exact ih a w h
   |some o=>
    simp only[ho]at h⊢;split
    ·rename_i hw
     rw[AQ hw]at h;rcases h with h|⟨_,⟨a0,w0,h0⟩⟩
     ·refine .inl ?_
      unfold Oper.wp Oper.upon at h⊢;split<;>rename_i hr<;>simp only[hr]at h
      ·exact ih _ _ h
      ·exact ih _ _ h
      ·exact ih _ _ h
      ·refine Calls.mono h λe w'' he=>?_
       cases e with
       |returned v=>exact ih _ _ he
       |panicked c=>cases he.1
       |outgrown=>obtain⟨a0,w0,h0⟩:=he;cases h0.1
      ·exact Rows.mono h λ_ _ he=>ih _ _ he
      ·cases h.1
     ·cases h0.1
    ·rename_i hw
     rw[AP hw]at h;exact ih _ _ h
theorem Ok.region {i:Nat}{Q:Exit->St->Prop}(h:AM C F ops ops.toList s (Q .normal)):Ok C F (.region i ops false) s Q:=by
 intro hd ρ a w hs;refine wp_region ?_
 have:=h hd (List.range ops.size) (by
  apply List.ext_getElem?;intro j;simp only[BW]
  by_cases hj:j<ops.size
  ·rw[FD hj];simp[hj]
  ·rw[Dd (by simp;omega),Dd (by simp;omega)];rfl) ρ a w hs
 exact P8 _ _ _ this
theorem AM.nil (h:K s):AM C F ops [] s K:=λ_ l hl ρ a w hs=>by
 cases l with
 |nil=>exact⟨rfl,s,ρ,h,hs⟩
 |cons=>simp at hl
theorem AM.step {d:D}{H':Hp}{n':Nat}(hw:Ai ops s.env o=some true)(hg:∀(ρ:Lk) (a:Act) (w:World),Aq C F ρ s a w ->
   ∃v ρ' w',((execOp a.eval o).run C.P w=.ok (.value v) w'\/((execOp a.eval o).run C.P w=.ok .skip w'/\v=undef))/\LF C F ρ s.H w 0 d H' n' v ρ' w'/\∀e∈H',e.g<n')
  (h:AM C F ops os ⟨Ag s.env o.dst d,H',n'⟩ K):AM C F ops (o::os) s K:=by
 intro hd l hl ρ a w hs;cases l with
 |nil=>simp at hl
 |cons i l=>
  simp only[BP,CQ]at hl;simp only[D0,Aj]at hd;obtain⟨v,ρ',w',hrun,hdid,hgen⟩:=hg ρ a w hs;simp only[wpOps,hl.1];rw[AQ (Ez hs.env hw)];refine .inl ?_;have next:=h hd.2 l hl.2 ρ' (a.put o.dst v) w' (hs.put hdid.mem hdid.ext hdid.fresh hgen hdid.rep hd.1);unfold Oper.wp;rcases hrun with hrun|⟨hrun,rfl⟩
  ·rw[hrun];exact next
  ·rw[hrun];exact next
theorem LF.pure {ρ:Lk}{w:World}{d:D}{v:Value}{a:Act}(hs:Aq C F ρ s a w)(h:AF ρ (AE F.X ρ s.H) w d v):LF C F ρ s.H w 0 d s.H (s.n+1) v ρ w:=
 ⟨hs.mem,.refl _ _ _,λk g hg=>hs.fresh k g (by omega),h⟩
theorem AM.p {tt:Nat->Option AJ}(htt:Aw C.P tt){d:D}{p:Prop}(hw:Ai ops s.env o=some true)(he:B7 tt (AU s.env) o.op=some (d,p))(hp:p)
  (h:AM C F ops os ⟨Ag s.env o.dst d,s.H,s.n+1⟩ K):AM C F ops (o::os) s K:=
 AM.step hw (λρ a w hs=>by
  obtain⟨v,h1,h2⟩:=KV (ρ:=ρ) (O:=AE F.X ρ s.H) (w:=w) htt (BH hs.env) he hp;exact⟨v,ρ,w,.inl h1,.pure hs h2,λe he=>BE (hs.gen e he)⟩) h
theorem Q5 {tt:Nat->Option AJ}{H:Hp}{n k:Nat}{g:Operand->D}{op:Op}{d:D}{e:AI}{p:Prop}(he:CX tt H n k g op=some (d,some e,p)):e.g=n:=by
 unfold CX at he
 (repeat' split at he)<;>first|(cases he;done)|(cases he;rfl)
theorem AM.skip (hw:Ai ops s.env o=some false)(h:AM C F ops os ⟨Ag s.env o.dst (.prim (.tuple #[])),s.H,s.n+1⟩ K):AM C F ops (o::os) s K:=by
 intro hd l hl ρ a w hs;cases l with
 |nil=>simp at hl
 |cons i l=>
  simp only[BP,CQ]at hl;simp only[D0,Aj]at hd;simp only[wpOps,hl.1];rw[AP (by rw[Ez hs.env hw];simp)];exact h hd.2 l hl.2 ρ (a.put o.dst undef) w (hs.put hs.mem (.refl _ _ _) (λk g hg=>hs.fresh k g (by omega)) (λe he=>BE (hs.gen e he)) (.prim _) hd.1)
end
inductive Fz (H Hf:Hp):D->D->Prop
 |refl (d:D):Fz H Hf d d
 |any (d:D):Fz H Hf d .any
 |nil (sz:Nat):Fz H Hf (.prim (.slice none 0 0)) (.sl false sz [])
 |nn (nn:Bool) (sz:Nat) (es:List D):Fz H Hf (.sl nn sz es) (.sl false sz es)
 |agg {ds ds':List D} (hl:ds.length=ds'.length) (h:∀(i:Nat) (d d':D),ds[i]?=some d->ds'[i]?=some d'->Fz H Hf d d'):Fz H Hf (.agg ds) (.agg ds')
 |tup {ds ds':List D} (hl:ds.length=ds'.length) (h:∀(i:Nat) (d d':D),ds[i]?=some d->ds'[i]?=some d'->Fz H Hf d d'):Fz H Hf (.tup ds) (.tup ds')
 |osl {k g sz i len:Nat} {e:AI} {es':List D} (he:Hp.get H k=some e) (hf:Hp.get Hf k=none) (hg:g=e.g) (hs:sz=e.sz) (hi:i+len<=e.es.length) (hl:es'.length=len)
   (hc:∀(j:Nat) (d d':D),e.es[i+j]?=some d->es'[j]?=some d'->d'.cells.length=d.cells.length)
   (h:∀(j:Nat) (d d':D) (q:Nat) (c c':D),e.es[i+j]?=some d->es'[j]?=some d'->d.cells[q]?=some c->d'.cells[q]?=some c'->Fz H Hf c c'):
   Fz H Hf (.osl k g sz i len) (.sl false sz es')
 |optr {k g sz i:Nat} {e:AI} {x x':D} (he:Hp.get H k=some e) (hf:Hp.get Hf k=none) (hg:g=e.g) (hs:sz=e.sz) (hz:e.sz≠0) (hx:e.es[i]?=some x) (hc:x'.cells.length=x.cells.length)
   (h:∀(q:Nat) (c c':D),x.cells[q]?=some c->x'.cells[q]?=some c'->Fz H Hf c c'):Fz H Hf (.optr k g sz i 0) (.pptr x')
 |clo {fn:Fn} {a a' c c':List D} (ha:a.length=a'.length) (hc:c.length=c'.length) (h1:∀(i:Nat) (d d':D),a[i]?=some d->a'[i]?=some d'->Fz H Hf d d')
   (h2:∀(i:Nat) (d d':D),c[i]?=some d->c'[i]?=some d'->Fz H Hf d d'):Fz H Hf (.clo fn a c) (.clo fn a' c')
 |omp {k g:Nat} {e:AI} {ks vs:List D} (he:Hp.get H k=some e) (hf:Hp.get Hf k=none) (hg:g=e.g) (hs:e.sz=0) (hT:e.T=0) (h1:ks.length=e.es.length) (h2:vs.length=e.es.length)
   (hk:∀(i:Nat) (d c c':D),e.es[i]?=some d->d.cells[0]?=some c->ks[i]?=some c'->Fz H Hf c c')
   (hv:∀(i:Nat) (d c c':D),e.es[i]?=some d->d.cells[1]?=some c->vs[i]?=some c'->Fz H Hf c c'):Fz H Hf (.omp k g) (.mp ks vs)
 |oxl {k g sz i len cap:Nat} {d':D} (h:Fz H Hf (.osl k g sz i len) d'):Fz H Hf (.oxl k g sz i len cap) d'
inductive Ca (H Hf:Hp):Hp->Hp->Prop
 |nil:Ca H Hf [] []
 |drop {e:AI} {r r':Hp} (h:Ca H Hf r r'):Ca H Hf (e::r) r'
 |keep {e:AI} {r r':Hp} (h:Ca H Hf r r'):Ca H Hf (e::r) (e::r')
 |turn {e:AI} {r r':Hp} {es':List D} (hl:es'.length=e.es.length)
   (hc:∀(j:Nat) (d d':D),e.es[j]?=some d->es'[j]?=some d'->d'.cells.length=d.cells.length)
   (hh:∀(j:Nat) (d d':D) (q:Nat) (c c':D),e.es[j]?=some d->es'[j]?=some d'->d.cells[q]?=some c->d'.cells[q]?=some c'->Fz H Hf c c')
   (h:Ca H Hf r r') (ht:e.sz=0->e.T=0:=by(intro h;first|(cases h;done)|exact rfl|omega)):Ca H Hf (e::r) (⟨e.k,e.g,e.T,e.sz,es'⟩::r')
section
variable {C:AX} {F:AH} {ρ:Lk} {H:Hp} {w:World}
theorem TT:∀ {H:Hp} {k:Nat},Hp.get H k=none->∀e∈H,e.k≠k
 |e::r,k,h,e',he'=>by
  simp only[Hp.get]at h;cases hb:Nat.beq e.k k with
  |true=>simp[hb]at h
  |false=>
   simp[hb]at h;rcases Ae.1 he' with rfl|he'
   ·intro hk;rw[hk]at hb;simp at hb
   ·exact TT h e' he'
theorem Ca.names {Hf H1 H2:Hp}(h:Ca H Hf H1 H2):∀e∈H2,∃e'∈H1,e'.k=e.k/\e'.g=e.g/\e'.T=e.T/\e'.sz=e.sz:=by
 induction h with
 |nil=>simp
 |drop _ ih=>intro e he;obtain⟨e',h1,h2⟩:=ih e he;exact⟨e',by simp[h1],h2⟩
 |keep _ ih=>
  intro e he;rcases Ae.1 he with rfl|he
  ·exact⟨_,by simp,rfl,rfl,rfl,rfl⟩
  ·obtain⟨e',h1,h2⟩:=ih e he;exact⟨e',by simp[h1],h2⟩
 | @turn e0 r r' es' hl hc hh _ _ ih=>
  intro e he;rcases Ae.1 he with rfl|he
  ·exact⟨e0,by simp,rfl,rfl,rfl,rfl⟩
  ·obtain⟨e',h1,h2⟩:=ih e he;exact⟨e',by simp[h1],h2⟩
theorem Fz.rep {Hf:Hp}(m:AL C F ρ H w)(hO:∀b,AE F.X ρ Hf b->AE F.X ρ H b)(hN:∀e∈H,∀b,ρ e.k e.g=some b->Hp.get Hf e.k=none->¬AE F.X ρ Hf b)
  {d d':D} (h:Fz H Hf d d'):∀ {v:Value},AF ρ (AE F.X ρ H) w d v->AF ρ (AE F.X ρ Hf) w d' v:=by
 induction h with
 |refl d=>intro v hv;exact hv.anti hO
 |any d=>intro v _;exact .any v
 |nil sz=>intro v hv;cases hv;exact .nil sz
 |nn nn sz es=>
  intro v hv;cases hv with
  |nil=>exact .nil sz
  |emp a=>exact .emp a
  |sl f hl hc hO' hb hz hcell ho hh=>exact .sl f hl hc (λh=>hO' (hO _ h)) hb hz hcell ho λi e j d a b=>(hh i e j d a b).anti hO
 |agg hl _ ih=>
  intro v hv;cases hv with
  |agg hn ho hh=>
   refine .agg (by omega) ho λi d' hd'=>?_
   have:i<_:=(As.1 hd').1
   exact ih i _ d' (Bu) hd' (hh i _ (Bu))
 |tup hl _ ih=>
  intro v hv;cases hv with
  |tup hn hh=>
   refine .tup (by omega) λi d' hd'=>?_
   have:i<_:=(As.1 hd').1
   exact ih i _ d' (Bu) hd' (hh i _ (Bu))
 | @osl k g sz i len e es' he hf hg hs hi hl hc hfz ih=>
  intro v hv;subst hg hs;obtain⟨hm,hk⟩:=Hp.get_mem he;cases hv with
  |onil=>
   have:es'=[]:=IQ hl
   subst this;exact .nil _
  |osl hr hb hcap hsz hmx=>
   rename_i cap b T cs fz;rw[<-hk]at hr;obtain⟨cs',h1,h2⟩:=m.atC hm hr hb;rw[hb]at h1;simp only[Ac,Obj.cells.injEq]at h1;obtain⟨rfl,_,_⟩:=h1;have get:∀j (d':D),es'[j]?=some d'->∃d,e.es[i+j]?=some d:=λj d' hd'=>by
    have:j<es'.length:=(As.1 hd').1
    exact⟨_,Bu⟩
   have hin:∀n,n<len*e.sz->i*e.sz+n<cs.size:=λn hn=>by
    have:(i+len)*e.sz<=e.es.length*e.sz:=Bl _ hi
    rw[BS]at this;have:=h2.len;omega
   refine .sl (λn=>cs.getD (i*e.sz+n) undef) hl hcap (hN e hm b hr (by rw[hk];exact hf)) (m.lt hm hr) (λj d' hd'=>?_) (λn hn=>?_) (λn hn=>?_) λj d' q c hd' hc'=>?_
   ·obtain⟨d,hd⟩:=get j d' hd'
    rw[hc j d d' hd hd'];exact h2.siz _ _ hd
   ·simp[World.cell?,hb,hin n hn]
   ·have:=h2.one _ _ (A9 (hin n hn))
    simpa[AS,A9 (hin n hn)]using this
   ·obtain⟨d,hd⟩:=get j d' hd'
    have hq:q<d'.cells.length:=(As.1 hc').1;have hcc:=hc j d d' hd hd';have hcd:d.cells[q]?=some d.cells[q]:=Bu
    have:=h2.rep (i+j) d q _ hd hcd
    rw[BS,FT]at this;exact ih j d d' q _ c hd hd' hcd hc' this
 | @optr k g sz i e x x' he hf hg hs hz hx hc hfz ih=>
  intro v hv;subst hg hs;obtain⟨hm,hk⟩:=Hp.get_mem he;cases hv with
  |optr hr=>
   rename_i b;rw[<-hk]at hr;obtain⟨cs,h1,h2⟩:=m.at hm hr hz;have hsz:=h2.siz i x hx;have hin:∀n,n<x.cells.length->i*e.sz+n<cs.size:=λn hn=>by
    have:=h2.len
    have hi:i<e.es.length:=(As.1 hx).1;have q:(i+1)*e.sz<=e.es.length*e.sz:=Bl _ hi;rw[BS,Nat.one_mul]at q;omega
   refine .pptr (λn=>cs.getD (i*e.sz+n) undef) (hN e hm b hr (by rw[hk];exact hf)) (m.lt hm hr) (λn hn=>?_) (λn hn=>?_) λq c' hc'=>?_
   ·rw[hc]at hn
    simp[World.cell?,h1,hin n hn]
   ·rw[hc]at hn
    have:=h2.one _ _ (A9 (hin n hn))
    simpa[AS,A9 (hin n hn)]using this
   ·have hq:q<x.cells.length:=by rw[<-hc];exact(As.1 hc').1
    have hcq:x.cells[q]?=some (x.cells[q]):=BK hq;exact ih q _ c' hcq hc' (h2.rep i x q _ hx hcq)
 | @clo fn a a' c c' ha hc _ _ ih1 ih2=>
  intro v hv;cases hv with
  |clo hf1 hc1 r1 r2=>
   refine .clo (by omega) (by omega) (λi d' hd'=>?_) λi d' hd'=>?_
   ·have hi:i<a.length:=by rw[ha];exact(As.1 hd').1
    exact ih1 i _ d' (BK hi) hd' (r1 i _ (BK hi))
   ·have hi:i<c.length:=by rw[hc];exact(As.1 hd').1
    exact ih2 i _ d' (BK hi) hd' (r2 i _ (BK hi))
 | @omp k g e ks vs he hf hg hs hT h1 h2 hk hv ihk ihv=>
  intro v hv';subst hg;obtain⟨hm,hkk⟩:=Hp.get_mem he;cases hv' with
  |omp hr=>
   rename_i b;rw[<-hkk]at hr;obtain⟨es,clock,a1,a2⟩:=m.atM hm hr hs hT;have get:∀i,i<e.es.length->∃d c c2,e.es[i]?=some d/\d.cells[0]?=some c/\d.cells[1]?=some c2:=λi hi=>by
    have hd:=BK hi;have hsz:=a2.siz i _ hd;exact⟨_,_,_,hd,Bu,Bu⟩
   refine .mp (hN e hm b hr (by rw[hkk];exact hf)) (m.lt hm hr) a1 (by rw[a2.len,h1]) (by rw[a2.len,h2]) a2.born (λi d' hd'=>?_) λi d' hd'=>?_
   ·obtain⟨d,c,c2,b1,b2,b3⟩:=get i (by have:=(As.1 hd').1;omega)
    exact ihk i d c d' b1 b2 hd' (a2.key i d c b1 b2)
   ·obtain⟨d,c,c2,b1,b2,b3⟩:=get i (by have:=(As.1 hd').1;omega)
    exact ihv i d c2 d' b1 b3 hd' (a2.val i d c2 b1 b3)
 |oxl _ ih=>exact λhv=>ih hv.wk
theorem Ca.mem {Hf:Hp}(m:AL C F ρ H w)(h:Ca H Hf H Hf):AL C F ρ Hf w/\(∀b,AE F.X ρ Hf b->AE F.X ρ H b) /\
  ∀e∈H,∀b,ρ e.k e.g=some b->Hp.get Hf e.k=none->¬AE F.X ρ Hf b:=by
 have hO:∀b,AE F.X ρ Hf b->AE F.X ρ H b:=λb hb=>hb.imp id λ⟨e,he,hb⟩=>by
  obtain⟨e',h1,h2,h3,_⟩:=h.names e he;exact⟨e',h1,by rw[h2,h3];exact hb⟩
 have hN:∀e∈H,∀b,ρ e.k e.g=some b->Hp.get Hf e.k=none->¬AE F.X ρ Hf b:=by
  rintro e he b hb hn (hx|⟨e2,he2,hb2⟩)
  ·exact(m.hok.own e he b hb).1 hx
  ·obtain⟨e3,h1,h2,h3,_⟩:=h.names e2 he2
   have hne:e3.k≠e.k:=by rw[h2];exact TT hn e2 he2
   have hp:=m.hok.inj
   have:e≠e3:=λh=>hne (by rw[h])
   rw[<-h2,<-h3]at hb2;rcases List.pairwise_iff_getElem.1 hp with hp;obtain⟨i,hi,rfl⟩:=JY he;obtain⟨j,hj,rfl⟩:=JY h1;rcases Nat.lt_trichotomy i j with hij|rfl|hij
   ·exact hp i j hi hj hij b b hb hb2 rfl
   ·exact this rfl
   ·exact hp j i hj hi hij b b hb2 hb rfl
 refine⟨⟨⟨?_,?_,?_⟩,m.os,m.tape,m.output,m.size,m.blk,m.xlt,m.g0,m.gn,m.gw,m.lnk,m.shp⟩,hO,hN⟩
 ·have gen:∀ {H1 H2:Hp},Ca H Hf H1 H2->(∀e∈H1,e∈H)->∀e∈H2,(e.es=[]/\ρ e.k e.g=none)\/∃b o,ρ e.k e.g=some b/\w.heap[b]?=some o/\C1 ρ (AE F.X ρ Hf) w e o:=by
   intro H1 H2 h
   induction h with
   |nil=>simp
   |drop _ ih=>intro hs;exact ih λe he=>hs e (by simp[he])
   |keep _ ih=>
    intro hs e he;rcases Ae.1 he with rfl|he
    ·rcases m.hok.ent e (hs e (by simp))with h|⟨b,cs,h1,h2,h3⟩
     ·exact .inl h
     ·exact .inr ⟨b,cs,h1,h2,h3.anti hO⟩
    ·exact ih (λe he=>hs e (by simp[he])) e he
   | @turn e0 r r' es' hl hc hh _ ht ih=>
    intro hs e he;rcases Ae.1 he with rfl|he
    ·rcases m.hok.ent e0 (hs e0 (by simp))with⟨h1,h2⟩|⟨b,cs,h1,h2,h3⟩
     ·left
      refine⟨?_,h2⟩;rw[h1]at hl;exact IQ (by simpa using hl)
     ·right
      have get:∀j (d':D),es'[j]?=some d'->∃d,e0.es[j]?=some d:=λj d' hd'=>by
       have:j<es'.length:=(As.1 hd').1
       exact⟨_,Bu⟩
      refine⟨b,cs,h1,h2,?_⟩;rcases h3.cas with⟨cs1,rfl,r3,h3⟩|⟨es1,cl1,rfl,r1,r2,h3⟩|⟨bm,si,se,c0,rfl,r1,r2,h3⟩
      ·refine⟨rfl,rfl,r3,by rw[hl];exact h3.len,λi d' hd'=>?_,h3.one,λi d' q c hd' hc'=>?_⟩
       ·obtain⟨d,hd⟩:=get i d' hd'
        rw[hc i d d' hd hd'];exact h3.siz _ _ hd
       ·obtain⟨d,hd⟩:=get i d' hd'
        have hq:q<d'.cells.length:=(As.1 hc').1;have hcc:=hc i d d' hd hd';have hcd:d.cells[q]?=some d.cells[q]:=Bu;exact(hh i d d' q _ c hd hd' hcd hc').rep m hO hN (h3.rep i d q _ hd hcd)
      ·refine⟨r1,r2,by rw[hl];exact h3.len,h3.born,λi d' hd'=>?_,λi d' c hd' hc'=>?_,λi d' c hd' hc'=>?_⟩
       ·obtain⟨d,hd⟩:=get i d' hd'
        rw[hc i d d' hd hd'];exact h3.siz _ _ hd
       ·obtain⟨d,hd⟩:=get i d' hd'
        have hcc:=hc i d d' hd hd';have hsz:=h3.siz _ _ hd;have hcd:d.cells[0]?=some d.cells[0]:=Bu;exact(hh i d d' 0 _ c hd hd' hcd hc').rep m hO hN (h3.key i d _ hd hcd)
       ·obtain⟨d,hd⟩:=get i d' hd'
        have hcc:=hc i d d' hd hd';have hsz:=h3.siz _ _ hd;have hcd:d.cells[1]?=some d.cells[1]:=Bu;exact(hh i d d' 1 _ c hd hd' hcd hc').rep m hO hN (h3.val i d _ hd hcd)
      ·rw[ht r1]at r2;cases r2
    ·exact ih (λe he=>hs e (by simp[he])) e he
  exact gen h λ_ h=>h
 ·have gen:∀ {H1 H2:Hp},Ca H Hf H1 H2->H1.Pairwise (λe e'=>∀b b',ρ e.k e.g=some b->ρ e'.k e'.g=some b'->b≠b')->H2.Pairwise (λe e'=>∀b b',ρ e.k e.g=some b->ρ e'.k e'.g=some b'->b≠b'):=by
   intro H1 H2 h
   induction h with
   |nil=>intro h;exact h
   |drop _ ih=>intro h;exact ih (Dq.1 h).2
   |keep h0 ih=>
    intro h;obtain⟨p1,p2⟩:=Dq.1 h;refine Dq.2 ⟨λe2 he2 b b' hb hb'=>?_,ih p2⟩;obtain⟨e3,a1,a2,a3,_⟩:=h0.names e2 he2;exact p1 e3 a1 b b' hb (by rw[a2,a3];exact hb')
   |turn hl hc hh h0 _ ih=>
    intro h;obtain⟨p1,p2⟩:=Dq.1 h;refine Dq.2 ⟨λe2 he2 b b' hb hb'=>?_,ih p2⟩;obtain⟨e3,a1,a2,a3,_⟩:=h0.names e2 he2;exact p1 e3 a1 b b' hb (by rw[a2,a3];exact hb')
  exact gen h m.hok.inj
 ·intro e he b hb
  obtain⟨e',h1,h2,h3,_⟩:=h.names e he;exact m.hok.own e' h1 b (by rw[h2,h3];exact hb)
def H9 (H Hf:Hp)(env:AZ):AZ->Prop
 | []=>True
 |(t,d')::r=>Fz H Hf (env.get t) d'/\H9 H Hf env r
theorem H9.get {Hf:Hp}{env:AZ}:∀ {env':AZ},H9 H Hf env env'->∀t,Fz H Hf (env.get t) (env'.get t)
 | [],_,t=>.any _
 |(k,d')::r,h,t=>by
  rw[GI]
  by_cases hk:k=t
  ·subst hk;rw[AQ rfl];exact h.1
  ·rw[AP hk];exact H9.get h.2 t
theorem Aq.weak {s:St}{a:Act}{env':AZ}{Hf:Hp}{n':Nat}(hs:Aq C F ρ s a w)(h:Ca s.H Hf s.H Hf)(he:H9 s.H Hf s.env env')(hn:s.n<=n'):Aq C F ρ ⟨env',Hf,n'⟩ a w:=by
 obtain⟨m,hO,hN⟩:=h.mem hs.mem;refine⟨m,λk g hg=>hs.fresh k g (Ax hn hg),λe he'=>?_,λt=>(he.get t).rep hs.mem hO hN (hs.env t),hs.nt,hs.dfr⟩;obtain⟨e2,h1,h2,h3,_⟩:=h.names e he'
 have:=hs.gen e2 h1
 exact CN (by omega) hn
end
class AB (d:D):Prop where
 out:BV d
class AO (l:List D):Prop where
 out:∀d∈l,BV d
class Af (d:D):Prop where
 out:∀c∈d.cells,BV c
instance  (v:Value):AB (.prim v):=⟨.prim v⟩
instance:AB .any:=⟨.any⟩
instance  (l:List D)[h:AO l]:AB (.agg l):=⟨.agg h.out⟩
instance  (l:List D)[h:AO l]:AB (.tup l):=⟨.tup h.out⟩
instance  (fn:Fn)(a b:List D)[h:AO a][k:AO b]:AB (.clo fn a b):=⟨.clo h.out k.out⟩
instance  (t:Nat)(d:D)[h:AB d]:AB (.ifc t d):=⟨.ifc h.out⟩
instance  (a b:List D)[h:AO a][k:AO b]:AB (.mp a b):=⟨.mp h.out k.out⟩
instance  (d:D)[h:Af d]:AB (.pptr d):=⟨.pptr h.out⟩
instance:AO []:=⟨by simp⟩
instance  (d:D)(l:List D)[h:AB d][k:AO l]:AO (d::l):=⟨λx hx=>by
 rcases Ae.1 hx with rfl|hx
 ·exact h.out
 ·exact k.out x hx⟩
instance  (a b:List D)[h:AO a][k:AO b]:AO (a++b):=⟨λx hx=>(BL.1 hx).elim (h.out x) (k.out x)⟩
instance  (v:Value):Af (.prim v):=⟨λc hc=>by simp[D.cells]at hc;subst hc;exact .prim v⟩
instance  (l:List D)[h:AO l]:Af (.agg l):=⟨λc hc=>h.out c hc⟩
instance  (nn:Bool)(sz:Nat)(es:List D)[h:AB (.sl nn sz es)]:Af (.sl nn sz es):=⟨λc hc=>by simp[D.cells]at hc;subst hc;exact h.out⟩
class AG (l:List D):Prop where
 out:∀e∈l,∀c∈e.cells,BV c
instance:AG []:=⟨by simp⟩
instance  (d:D)(l:List D)[h:Af d][k:AG l]:AG (d::l):=⟨λx hx=>by
 rcases Ae.1 hx with rfl|hx
 ·exact h.out
 ·exact k.out x hx⟩
instance  {α:Type}(f:α->D)(l:List α)[h:∀x,Af (f x)]:AG (l.map f):=⟨λe he=>by
 obtain⟨x,_,rfl⟩:=Bj.1 he;exact(h x).out⟩
instance  (a b:List D)[h:AG a][k:AG b]:AG (a++b):=⟨λx hx=>(BL.1 hx).elim (h.out x) (k.out x)⟩
instance  (nn:Bool)(sz:Nat)(es:List D)[h:AG es]:AB (.sl nn sz es):=⟨.sl h.out⟩
def nol:Lk:=λ_ _=>none
theorem AF.nol {ρ:Lk}{O:Nat->Prop}{w:World}{d:D}{v:Value}(h:AF nol O w d v):AF ρ O w d v:=by
 induction h with
 |any v=>exact .any v
 |prim v=>exact .prim v
 |agg hn ho _ ih=>exact .agg hn ho ih
 |tup hn _ ih=>exact .tup hn ih
 |nil sz=>exact .nil sz
 |onil k g sz=>exact .onil k g sz
 |emp a=>exact .emp a
 |mp hO hr hb h1 h2 hB _ _ ih1 ih2=>exact .mp hO hr hb h1 h2 hB ih1 ih2
 |sl f hl hc hO hb hz hcell ho _ ih=>exact .sl f hl hc hO hb hz hcell ho ih
 |pptr f hO hb hcell ho _ ih=>exact .pptr f hO hb hcell ho ih
 |osl hr=>cases hr
 |optr hr=>cases hr
 |omp hr=>cases hr
 |oxl hr=>cases hr
 |oyl hr=>cases hr
 |clo hf hc _ _ ih1 ih2=>exact .clo hf hc ih1 ih2
 |gd _ h2 ih=>exact .gd ih h2
 |ifc _ ih=>exact .ifc ih
def F5 (P:Program) (f:Nat):Prop:=∃fn c,P.funcs[f]?=some fn/\fn.body=some c/\(fn.name == "runtime.NumGoroutine")=false
def A0 (C:AX)(f:Nat)(args:List D)(Φ:D->Prop):Prop:=
 F5 C.P f/\∀(X:Nat->Prop) (w:World) (vs:Array Value),C.G w->C.nG<=w.heap.size->(∀b,X b->b<w.heap.size)->vs.size=args.length ->
  (∀(i:Nat) (d:D),args[i]?=some d->AF nol X w d (vs.getD i undef)) ->
  Calls C.P f vs w (λe w'=>∃v d,e=.returned v/\Below w.heap.size w w'/\Φ d/\AF nol X w' d v)
def Aa (C:AX)(f:Nat)(args:List D)(d:D):Prop:=A0 C f args (· = d)
section
variable {C:AX} {F:AH} {s:St} {ops:Array Oper} {o:Oper} {os:List Oper} {K:St->Prop}
theorem NW {f:Nat}(h:F5 C.P f)(vs:Array Value)(w:World):(callFunc f vs).run C.P w=.ok (.enter f vs) w:=by
 obtain⟨fn,c,h1,h2,h3⟩:=h;unfold callFunc;rw[run_bind,LQ];dsimp only;simp only[h1];rw[AP (by simp[h3]),AP (by simp[h2])];rfl
theorem PC {f:Nat}{Φ:D->Prop}(hw:Ai ops s.env o=some true)
  (hrun:∀(ρ:Lk) (a:Act) (w:World),Aq C F ρ s a w->∃vs,(execOp a.eval o).run C.P w=.ok (.enter f vs) w /\
   Calls C.P f vs w (λe w'=>∃v d,e=.returned v/\Below w.heap.size w w'/\Φ d/\AF ρ (AE F.X ρ s.H) w' d v))
  (h:∀d,Φ d->AM C F ops os ⟨Ag s.env o.dst d,s.H,s.n+1⟩ K):AM C F ops (o::os) s K:=by
 intro hd l hl ρ a w hs;cases l with
 |nil=>simp at hl
 |cons i l=>
  simp only[BP,CQ]at hl;simp only[D0,Aj]at hd;obtain⟨vs,h1,h2⟩:=hrun ρ a w hs;simp only[wpOps,hl.1];rw[AQ (Ez hs.env hw)];refine .inl ?_;unfold Oper.wp;rw[h1];refine h2.mono ?_;rintro e w' ⟨v,d,rfl,hb,hΦ,hr⟩;have x:Al ρ (AE F.X ρ s.H) w ρ (AE F.X ρ s.H) w':=⟨hb.size,λ_ _ _ h=>h,λb hb' hO=>⟨hO,hb.block b hb'⟩,λb cs T fz hh=>⟨cs,_,by
   rw[hb.block b (Be.1 hh).1];exact hh,rfl⟩⟩
  exact h d hΦ hd.2 l hl.2 ρ (a.put o.dst v) w' (hs.put (hs.mem.same x hb.os hb.tape hb.output hb.block) x (λk g hg=>hs.fresh k g (by omega)) (λe he=>BE (hs.gen e he)) hr hd.1)
theorem Hm {f:Nat}{g:Operand->D}{O:Nat->Prop}{first captured:List D}{fop:Operand}{args:Array Operand}{tys:Array Nat}{ρ:Lk}{a:Act}{w:World}(ho:o.op=.call ⟨.value fop,args,tys⟩)
  (hf:g fop=.clo (.func f) first captured) (hcall:F5 C.P f) (hg:∀x,AF ρ O w (g x) (a.eval x)):
  ∃vs,(execOp a.eval o).run C.P w=.ok (.enter f vs) w/\vs.size=(first++args.toList.map g++captured).length /\
   ∀(i:Nat) (d:D),(first++args.toList.map g++captured)[i]?=some d->AF ρ O w d (vs.getD i undef):=by
 have hfr:=hg fop;rw[hf]at hfr;generalize hv:a.eval fop=v at hfr;cases hfr with
 |clo hn hc h1 h2=>
  rename_i fs cs;refine⟨fs++args.map a.eval++cs,?_,by simp[hn,hc],λi d hd=>?_⟩
  ·unfold execOp
   simp only[ho];rw[run_bind]
   have:(resolve a.eval ⟨.value fop,args,tys⟩ o.type).run C.P w=.ok { target:=.fn (.func f) cs,args:=fs++args.map a.eval } w:=by
    unfold resolve;simp only[hv];rfl
   rw[this];dsimp only;unfold invoke;exact NW hcall _ w
  ·rw[C6]at hd
   rcases Ar i first.length with hi|hi
   ·rw[CM hi]at hd
    have:(fs++args.map a.eval++cs).getD i undef=fs.getD i undef:=by
     simp only[AS];rw[IU,Do (by omega)]
    rw[this];exact h1 i d hd
   ·rw[B3 hi]at hd
    rcases Ar (i-first.length) args.size with hj|hj
    ·rw[CM (by simpa using hj)]at hd
     simp at hd;obtain⟨x,hx,rfl⟩:=hd
     have:(fs++args.map a.eval++cs).getD i undef=a.eval x:=by
      simp only[AS];rw[IU,Dn (by omega),Do (by simp;omega),hn];simp[hx]
     rw[this];exact hg x
    ·rw[B3 (by simpa using hj)]at hd
     have:(fs++args.map a.eval++cs).getD i undef=cs.getD (i-first.length-args.size) undef:=by
      simp only[AS];rw[IU,Dn (by omega),Dn (by simp;omega),hn];simp
     rw[this];exact h2 _ d (by simpa using hd)
theorem Pb {f:Nat}{first captured:List D}{fop:Operand}{args:Array Operand}{tys:Array Nat}{ρ:Lk}{a:Act}{w:World}(ho:o.op=.call ⟨.value fop,args,tys⟩)
  (hf:AU s.env fop=.clo (.func f) first captured) (hcall:F5 C.P f) (hs:Aq C F ρ s a w):
  ∃vs,(execOp a.eval o).run C.P w=.ok (.enter f vs) w/\vs.size=(first++args.toList.map (AU s.env)++captured).length /\
   ∀(i:Nat) (d:D),(first++args.toList.map (AU s.env)++captured)[i]?=some d->AF ρ (AE F.X ρ s.H) w d (vs.getD i undef):=
 Hm ho hf hcall (BH hs.env)
def Cm (d:D):Prop:=∀(ρ ρ':Lk) (O O':Nat->Prop) (w w':World) (v:Value),AF ρ O w d v->AF ρ' O' w' d v
theorem Cm.prim (v:Value):Cm (.prim v):=λ_ _ _ _ _ _ _ h=>by cases h;exact .prim v
theorem Cm.tup {l:List D}(h:∀d∈l,Cm d):Cm (.tup l):=λ_ _ _ _ _ _ _ hr=>by
 cases hr with|tup hn hh=>exact .tup hn λi d hd=>h d (Bf hd) _ _ _ _ _ _ _ (hh i d hd)
def D5 (H Hf:Hp):List D->List D->Prop
 | [],[]=>True
 |d::l,d'::l'=>Fz H Hf d d'/\D5 H Hf l l'
 |_,_=>False
theorem D5.spec {H Hf:Hp}:∀ {l l':List D},D5 H Hf l l'->l.length=l'.length/\∀(i:Nat) (d d':D),l[i]?=some d->l'[i]?=some d'->Fz H Hf d d'
 | [],[],_=>by simp
 |d::l,d'::l',h=>by
  obtain⟨h1,h2⟩:=D5.spec h.2;refine⟨by simp[h1],λi a b ha hb=>?_⟩;cases i with
  |zero=>simp at ha hb;subst ha hb;exact h.1
  |succ i=>exact h2 i a b (by simpa using ha) (by simpa using hb)
 | [],_::_,h=>h.elim
 |_::_,[],h=>h.elim
def Gd (tt:Nat->Option AJ)(s:St):ResultVar->Option (D×Prop)
 | .tmp t=>some (s.env.get t,True)
 | .cell a t=>match CX tt s.H 0 0 (λ_=>s.env.get a) (.load t (.tmp 0))with
  |some (d,none,p)=>some (d,p)
  |_=>none
def FK (tt:Nat->Option AJ)(s:St):List ResultVar->Option (List D×Prop)
 | []=>some ([],True)
 |r::rs=>match Gd tt s r with
  |some (d,p)=>match FK tt s rs with
   |some (l,q)=>some (d::l,p/\q)
   |none=>none
  |none=>none
def Eo (tt:Nat->Option AJ)(s:St)(rs:List ResultVar):Option (D×Prop):=match FK tt s rs with
 |some ([d],p)=>some (d,p)
 |some (l,p)=>some (.tup l,p)
 |none=>none
def eu (tt:Nat->Option AJ)(rs:List ResultVar)(Φ:D->Prop):Exit->St->Prop:=λe s=>
 (e=.normal\/e=.ret)/\∃d0 p,Eo tt s rs=some (d0,p)/\p/\∃d,Fz s.H [] d0 d/\BV d/\Φ d
def Cc:Nat->List D->AZ
 |_,[]=>[]
 |i,d::l=>(i,d)::Cc (i+1) l
theorem NX:∀(l:List D) (i t:Nat),(Cc i l).get t=if i<=t then(l[t-i]?).getD .any else .any
 | [],i,t=>by simp[Cc,AZ.get]
 |d::l,i,t=>by
  simp only[Cc];rw[GI,NX l (i+1) t]
  by_cases h:i=t
  ·subst h;simp
  ·rw[AP h]
   by_cases h2:i+1<=t
   ·rw[AQ h2,C9,show t-i=(t-(i+1))+1 from by omega,K7]
   ·rw[AP h2,Ba]
end
section
variable {C:AX} {F:AH} {s:St} {ops:Array Oper} {o:Oper} {os:List Oper} {K:St->Prop}
theorem Pp {α:Type}{P:Program}{w:World}(f:α->Sem Value):∀(l:List α) (vs:List Value),vs.length=l.length->(∀(i:Nat) (x:α) (v:Value),l[i]?=some x->vs[i]?=some v->(f x).run P w=.ok v w) ->
  (l.mapM f).run P w=.ok vs w
 | [],[],_,_=>by rw[List.mapM_nil];rfl
 |x::l,v::vs,hl,h=>by
  rw[List.mapM_cons,run_bind,h 0 x v rfl rfl];dsimp only;rw[run_bind,Pp f l vs (by simpa using hl) λi y u hy hu=>h (i+1) y u (by simpa using hy) (by simpa using hu)];rfl
 | [],_::_,hl,_=>by simp at hl
 |_::_,[],hl,_=>by simp at hl
theorem U9 {tt:Nat->Option AJ}(htt:Aw C.P tt){ρ:Lk}{a:Act}{w:World}(hs:Aq C F ρ s a w){r:ResultVar}{d:D}{p:Prop}(h:Gd tt s r=some (d,p))(hp:p):
  ∃v,(match r with | .tmp t=>pure (a.tmps.getD t undef) | .cell b t=>do loadVar t (<-asAddr (a.tmps.getD b undef)):Sem Value).run C.P w=.ok v w/\AF ρ (AE F.X ρ s.H) w d v:=by
 cases r with
 |tmp t=>
  simp only[Gd,Ac,An]at h;obtain⟨rfl,rfl⟩:=h;exact⟨_,rfl,hs.env t⟩
 |cell b t=>
  simp only[Gd]at h;split at h<;>try(cases h;done)
  rename_i d' q he;simp only[Ac,An]at h;obtain⟨rfl,rfl⟩:=h;have hb:=hs.env b;simp only[CX]at he;cases hi:tt t with
  |none=>simp[hi]at he
  |some i=>
   simp only[hi]at he;have ht:=htt _ _ hi;have fin:∀v,a.tmps.getD b undef=v->(∃A,v=.pointer (some A))->(∃u,(Instr.loadAt t v).run C.P w=.ok u w/\AF ρ (AE F.X ρ s.H) w d' u) ->
     ∃v,(do loadVar t (<-asAddr (a.tmps.getD b undef)):Sem Value).run C.P w=.ok v w/\AF ρ (AE F.X ρ s.H) w d' v:=by
    rintro v hv ⟨A,rfl⟩ ⟨u,h1,h2⟩;refine⟨u,?_,h2⟩;rw[hv,run_bind];show(loadVar t A).run C.P w=_;unfold Instr.loadAt at h1;rw[run_bind,Jv]at h1;exact h1
   split at he<;>try(cases he;done)
   ·rename_i k' gg sz j off hgx
    rw[hgx]at hb;split at he<;>try(cases he;done)
    rename_i e he1;split at he<;>try(cases he;done)
    rename_i d1 hd1;split at he<;>try(cases he;done)
    rename_i d2 hd2;simp only[Ac,An]at he;obtain⟨rfl,_,rfl⟩:=he;refine fin _ rfl (by generalize a.tmps.getD b undef=v at hb;cases hb;exact⟨_,rfl⟩) (Qi hs.mem ht (Hp.get_mem he1).1 (Hp.get_mem he1).2 hd1 hd2 hp.1 hp.2.1 (GG (JI hp.2.2).1) (λha=>?_) hb)
    have:=(JI hp.2.2).2
    rw[ha]at this;exact A7 this
   ·rename_i d1 hgx
    rw[hgx]at hb;split at he
    ·rename_i ha
     split at he<;>try(cases he;done)
     rename_i ds;simp only[Ac,An]at he;obtain⟨rfl,_,rfl⟩:=he;exact fin _ rfl (by generalize a.tmps.getD b undef=v at hb;cases hb;exact⟨_,rfl⟩) (Le ht (λ_=>⟨ds,rfl,Ab hp⟩) (λh'=>by rw[ha]at h';cases h') hb)
    ·rename_i ha
     simp only[Ac,An]at he;obtain⟨rfl,_,rfl⟩:=he;exact fin _ rfl (by generalize a.tmps.getD b undef=v at hb;cases hb;exact⟨_,rfl⟩) (Le ht (λh'=>by rw[ha]at h';cases h') (λ_=>hp) hb)
theorem QS {tt:Nat->Option AJ}(htt:Aw C.P tt){ρ:Lk}{a:Act}{w:World}(hs:Aq C F ρ s a w):∀ {rs:List ResultVar} {l:List D} {p:Prop},FK tt s rs=some (l,p)->p ->
  ∃vs:List Value,vs.length=rs.length/\l.length=rs.length/\(∀(i:Nat) (r:ResultVar) (v:Value),rs[i]?=some r->vs[i]?=some v ->
   (match r with | .tmp t=>pure (a.tmps.getD t undef) | .cell b t=>do loadVar t (<-asAddr (a.tmps.getD b undef)):Sem Value).run C.P w=.ok v w) /\
   ∀(i:Nat) (d:D),l[i]?=some d->AF ρ (AE F.X ρ s.H) w d (vs.getD i undef)
 | [],l,p,h,hp=>by
  simp only[FK,Ac,An]at h;obtain⟨rfl,rfl⟩:=h;exact⟨[],rfl,rfl,by simp,by simp⟩
 |r::rs,l,p,h,hp=>by
  simp only[FK]at h;split at h<;>try(cases h;done)
  rename_i d q h1;split at h<;>try(cases h;done)
  rename_i l' q' h2;simp only[Ac,An]at h;obtain⟨rfl,rfl⟩:=h;obtain⟨v,a1,a2⟩:=U9 htt hs h1 hp.1;obtain⟨vs,b1,b2,b3,b4⟩:=QS htt hs h2 hp.2;refine⟨v::vs,by simp[b1],by simp[b2],λi r' v' hr hv=>?_,λi d' hd=>?_⟩
  ·cases i with
   |zero=>simp at hr hv;subst hr hv;exact a1
   |succ i=>exact b3 i r' v' (by simpa using hr) (by simpa using hv)
  ·cases i with
   |zero=>simp at hd;subst hd;exact a2
   |succ i=>simpa using b4 i d' (by simpa using hd)
theorem N7 {tt:Nat->Option AJ}(htt:Aw C.P tt){ρ:Lk}{a:Act}{w:World}(hs:Aq C F ρ s a w){fn:Func}{d:D}{p:Prop}(h:Eo tt s fn.results.toList=some (d,p))(hp:p):
  ∃v,(results fn a.tmps).run C.P w=.ok v w/\AF ρ (AE F.X ρ s.H) w d v:=by
 unfold Eo at h;have fin:∀(l:List D) (q:Prop),FK tt s fn.results.toList=some (l,q)->q->∃vs:List Value,vs.length=l.length/\(∀(i:Nat) (d:D),l[i]?=some d->AF ρ (AE F.X ρ s.H) w d (vs.getD i undef)) /\
   (results fn a.tmps).run C.P w=.ok (if h:vs.length=1 then vs[0]else .tuple vs.toArray) w:=by
  intro l q hr hq;obtain⟨vs,b1,b2,b3,b4⟩:=QS htt hs hr hq;refine⟨vs,by omega,b4,?_⟩;unfold results;rw[run_bind,Array.mapM_eq_mapM_toList];have hm:=Pp (P:=C.P) (w:=w) (λr:ResultVar=>(match r with | .tmp t=>pure (a.tmps.getD t undef) | .cell b t=>do loadVar t (<-asAddr (a.tmps.getD b undef)):Sem Value)) fn.results.toList vs b1 b3;rw[map_eq_pure_bind,run_bind]
  erw [hm]
  dsimp only;rw[run_pure];dsimp only;rw[run_pure]
  congr 1
 split at h<;>try(cases h;done)
 ·rename_i d' p' hr
  simp only[Ac,An]at h;obtain⟨rfl,rfl⟩:=h;obtain⟨vs,c1,c2,c3⟩:=fin _ _ hr hp
  match vs,c1 with
  | [v],_=>exact⟨v,c3,by simpa using c2 0 _ rfl⟩
 ·rename_i l p' hne hr
  simp only[Ac,An]at h;obtain⟨rfl,rfl⟩:=h;obtain⟨vs,c1,c2,c3⟩:=fin _ _ hr hp;refine⟨_,c3,?_⟩;rw[dif_neg]
  ·exact .tup (by simp[c1]) λi d hd=>by simpa using c2 i d hd
  ·intro h1
   match l,c1 with
   | [d'],_=>exact hne d' rfl
   | [],h0=>simp at h0;rw[h0]at h1;simp at h1
   |_::_::_,h0=>simp at h0;omega
theorem A0.intro {f:Nat}{fn:Func}{c:Code}{args:List D}{Φ:D->Prop}{tt:Nat->Option AJ}(htt:Aw C.P tt)(hf:C.P.funcs[f]?=some fn)(hb:fn.body=some c)
  (hn:(fn.name == "runtime.NumGoroutine")=false) (hd:Bw fn.ntmps c=true) (hnt:Nat.ble args.length fn.ntmps=true)
  (h:∀F:AH,Ok C F c ⟨Cc 0 args,[],0⟩ (eu tt fn.results.toList Φ)):A0 C f args Φ:=by
 refine⟨⟨fn,c,hf,hb,hn⟩,λX w vs hG hnG hX hvs hr=>?_⟩;have hnt:=A7 hnt;refine calls_of_wp hf hb ?_;have hown:∀b,AE X nol [] b↔X b:=by simp[AE]
 have hoe:AE X nol []=X:=funext λb=>propext (hown b)
 have sat:Aq C ⟨w,X,λ_=>False,fn.ntmps,nol,[]⟩ nol ⟨Cc 0 args,[],0⟩ { tmps:=vs++Array.replicate (fn.ntmps-vs.size) undef,defers:=[] } w:=by
  refine⟨⟨⟨by simp,.nil,by simp⟩,rfl,rfl,rfl,Ah _,λ_ _ _=>rfl,hX,hG,hnG,by simp,λ_ _ _ h=>h,λ_ cs _ _ h=>⟨cs,_,h,rfl⟩⟩,λ_ _ _=>rfl,by simp,λt=>?_,by simp;omega,rfl⟩;dsimp only;rw[hoe,NX,AQ (Cv _),Nat.sub_zero];cases ha:args[t]? with
  |none=>exact .any _
  |some d=>
   have ht:t<args.length:=(As.1 ha).1
   have:(vs++Array.replicate (fn.ntmps-vs.size) undef).getD t undef=vs.getD t undef:=by
    simp only[AS];rw[Do (by omega)]
   rw[this];exact hr t d ha
 refine wp_mono (h ⟨w,X,λ_=>False,fn.ntmps,nol,[]⟩ hd nol _ w sat) ?_;rintro e a' w' ⟨s',ρ',⟨he,d0,p,h1,h2,d,h3,h4,h5⟩,hs'⟩;obtain⟨v,r1,r2⟩:=N7 htt hs' h1 h2;have hH:Ca s'.H [] s'.H []:=by
  generalize s'.H=H0
  have:∀H1:Hp,Ca H0 [] H1 []:=λH1=>by
   induction H1 with
   |nil=>exact .nil
   |cons e r ih=>exact .drop ih
  exact this H0
 obtain⟨m,hO,hN⟩:=hH.mem hs'.mem;have r3:=h3.rep hs'.mem hO hN r2;have hoe':AE X ρ' []=X:=funext λb=>propext (by simp[AE])
 have r4:AF nol X w' d v:=by
  have:=h4 _ nol _ _ _ r3
  rwa [hoe']at this
 have bel:Below w.heap.size w w':=⟨hs'.mem.os,hs'.mem.tape,hs'.mem.output,hs'.mem.size,λb hb=>hs'.mem.blk b hb (by simp)⟩
 rcases he with rfl|rfl
 ·exact⟨hs'.dfr,v,r1,v,d,rfl,bel,h5,r4⟩
 ·exact⟨hs'.dfr,v,r1,v,d,rfl,bel,h5,r4⟩
end
def Hp.set:Hp->Nat->AI->Hp
 | [],_,_=>[]
 |e::r,k,e'=>match Nat.beq e.k k with
  |true=>e'::r
  |false=>e::Hp.set r k e'
def Hp.del:Hp->Nat->Hp
 | [],_=>[]
 |e::r,k=>match Nat.beq e.k k with
  |true=>r
  |false=>e::Hp.del r k
theorem Fp:∀ {H:Hp} {k:Nat} {e:AI} (e':AI),Hp.get H k=some e->∃H1 H2,H=H1++e::H2/\Hp.set H k e'=H1++e'::H2/\Hp.del H k=H1++H2
 |e::r,k,e0,e',h=>by
  simp only[Hp.get]at h;cases hb:Nat.beq e.k k with
  |true=>simp[hb]at h;subst h;exact⟨[],r,rfl,by simp[Hp.set,hb],by simp[Hp.del,hb]⟩
  |false=>
   simp[hb]at h;obtain⟨H1,H2,h1,h2,h3⟩:=Fp e' h;exact⟨e::H1,H2,by simp[h1],by simp[Hp.set,hb,h2],by simp[Hp.del,hb,h3]⟩
 | [],_,_,_,h=>by simp[Hp.get]at h
def EH (i:AJ)(off sz:Nat)(d y:D):D:=match off with
 | 0=>match Nat.beq i.sz sz with
  |true=>y
  |false=>.agg (Da d.cells 0 (DU i.ag y))
 |n+1=>.agg (Da d.cells (n+1) (DU i.ag y))
def C7 (tt:Nat->Option AJ)(H:Hp)(g:Operand->D):Op->Option (Nat×AI×Prop)
 | .store t x y=>match tt t with
  |some i=>match g x with
   | .optr k gg sz j off=>match Hp.get H k with
    |some e=>match e.es[j]? with
     |some d=>some (k,⟨e.k,e.g,e.T,e.sz,E5 e.es j (EH i off sz d (g y))⟩,Ck i.ag i.sz (g y)/\gg=e.g/\sz=e.sz/\(bif Nat.ble 1 e.sz then Nat.ble (off+i.sz) e.sz else false)=true)
     |none=>none
    |none=>none
   |_=>none
  |none=>none
 |_=>none
section
variable {C:AX} {F:AH} {s:St} {ops:Array Oper} {o:Oper} {os:List Oper} {K:St->Prop}
theorem MH (v:Value):v.oneCell'=one v:=by cases v<;>rfl
theorem LU {w:World}{b:Nat}{cs cs':Array Value}{T:Nat}(h:w.heap[b]?=some (.cells cs T (0,0))):w.setRow b cs'=World.setBlk w b cs' T:=by
 have hb:b<w.heap.size:=(Be.1 h).1;unfold World.setRow World.setBlk;cases w with
 |mk heap tape drawn os output=>
  congr 1
  apply Array.ext_getElem?;intro i;dsimp only at h hb;rw[Array.getElem?_modify,C4]
  by_cases hi:b=i
  ·subst hi;rw[AQ rfl,AQ rfl,AQ hb,h];rfl
  ·rw[AP hi,AP hi]
theorem P4 {ρ:Lk}{w:World}{tt:Nat->Option AJ}{g:Operand->D}{ev:Operand->Value}{k:Nat}{e':AI}{p:Prop}(htt:Aw C.P tt)(m:AL C F ρ s.H w)(hg:∀x,AF ρ (AE F.X ρ s.H) w (g x) (ev x))
  (h:C7 tt s.H g o.op=some (k,e',p)) (hp:p):
  ∃w',(execOp ev o).run C.P w=.ok .skip w'/\AL C F ρ (Hp.set s.H k e') w'/\Al ρ (AE F.X ρ s.H) w ρ (AE F.X ρ (Hp.set s.H k e')) w'/\∀e∈Hp.set s.H k e',∃e2∈s.H,e2.g=e.g:=by
 unfold C7 at h;split at h<;>try(cases h;done)
 rename_i t x y ho;cases hi:tt t with
 |none=>simp[hi]at h
 |some i=>
  simp only[hi]at h;split at h<;>try(cases h;done)
  rename_i k' gg sz j off hgx;split at h<;>try(cases h;done)
  rename_i e he;split at h<;>try(cases h;done)
  rename_i d hd;simp only[Ac,An]at h;obtain⟨rfl,rfl,rfl⟩:=h;obtain⟨hfit,rfl,rfl,hle⟩:=hp;have hz1:=GG (JI hle).1;have hle:=A7 (JI hle).2;have hx:=hg x;rw[hgx]at hx;generalize hv:ev x=v at hx;obtain⟨hm,hk⟩:=Hp.get_mem he;obtain⟨H1,H2,q1,q2,q3⟩:=Fp (⟨e.k,e.g,e.T,e.sz,E5 e.es j (EH i off e.sz d (g y))⟩:AI) he;cases hx with
  |optr hr=>
   rename_i b;rw[<-hk]at hr;obtain⟨cs,h1,h2⟩:=m.at hm hr hz1;obtain⟨f1,f2,f3,f4,f5⟩:=hfit _ _ _ _ (hg y);have hdl:=h2.siz j d hd;have hjl:j<e.es.length:=(As.1 hd).1;have hrow:j*e.sz+e.sz<=cs.size:=by
    have:(j+1)*e.sz<=e.es.length*e.sz:=Bl _ hjl
    rw[BS]at this;have:=h2.len;omega
   have hyl:(ev y).cells.toList.length=i.sz:=by simpa using f1
   have run:=run_storeCells_at C.P b (j*e.sz+off) e.T (ev y).cells.toList 0 cs w h1 (by simp[f1];omega) (λu hu=>by
    rw[MH];obtain⟨q,hq,rfl⟩:=JY hu;exact f2 q _ (by simp at hq;simp[hq]))
   simp only[FE]at run;generalize hcs':(cs.toList.take (j*e.sz+off)++(ev y).cells.toList++cs.toList.drop (j*e.sz+off+(ev y).cells.toList.length)).toArray=cs' at run;have get:∀q,cs'[q]?=if j*e.sz+off<=q/\q<j*e.sz+off+i.sz then(ev y).cells[q-(j*e.sz+off)]? else cs[q]?:=λq=>by
    rw[<-hcs'];simp only[D1];rw[C6];have hlt:(cs.toList.take (j*e.sz+off)).length=j*e.sz+off:=by simp;omega
    rcases Ar q (j*e.sz+off)with hq|hq
    ·rw[CM (by omega),Ba,Cn,AQ hq];simp
    ·rw[B3 (by omega),hlt]
     rcases Ar (q-(j*e.sz+off)) i.sz with hq2|hq2
     ·rw[CM (by omega),C9];simp
     ·rw[B3 (by omega),Ba,hyl,Ep]
      rw[show j*e.sz+off+i.sz+(q-(j*e.sz+off)-i.sz)=q from by omega];simp
   have hsz:cs'.size=cs.size:=by rw[<-hcs'];simp[f1];omega
   have hpc:(DU i.ag (g y)).length=i.sz:=f3;have hrep:Bq ρ (AE F.X ρ s.H) w ⟨e.k,e.g,e.T,e.sz,E5 e.es j (EH i off e.sz d (g y))⟩ cs':=by
    have hnew:(EH i off e.sz d (g y)).cells.length=e.sz/\∀(q:Nat) (c:D),(EH i off e.sz d (g y)).cells[q]?=some c->AF ρ (AE F.X ρ s.H) w c (cs'.getD (j*e.sz+q) undef):=by
     have part:∀d2:D,d2=.agg (Da d.cells off (DU i.ag (g y)))->d2.cells.length=e.sz/\∀(q:Nat) (c:D),d2.cells[q]?=some c->AF ρ (AE F.X ρ s.H) w c (cs'.getD (j*e.sz+q) undef):=by
      rintro d2 rfl;refine⟨by simp only[D.cells,Pu];exact hdl,λq c hc=>?_⟩;change(Da d.cells off (DU i.ag (g y)))[q]?=some c at hc;rw[Qq,hpc]at hc;rw[AS,get];split at hc
      ·rename_i hq
       rw[C9,show j*e.sz+q-(j*e.sz+off)=q-off from by omega,<-AS];exact f4 _ _ hc
      ·rename_i hq
       have hql:q<d.cells.length:=(As.1 hc).1;rw[Ba,<-AS];exact h2.rep j d q c hd hc
     unfold EH;split
     ·split
      ·rename_i hbe
       have hbe:=Ab hbe;rw[f5]at f3 f4;refine⟨by omega,λq c hc=>?_⟩;have hq:q<(g y).cells.length:=(As.1 hc).1;rw[AS,get,C9,show j*e.sz+q-(j*e.sz+0)=q from by omega,<-AS];exact f4 q c hc
      ·exact part _ rfl
     ·exact part _ rfl
    refine⟨by dsimp only;rw[J8,List.length_set,hsz];exact h2.len,λq d2 hq=>?_,λq u hu=>?_,λq d2 qq c hq hc=>?_⟩
    ·dsimp only at hq⊢
     rw[J8,List.getElem?_set]at hq;split at hq
     ·rename_i hjq;subst hjq
      cases hq;exact hnew.1
     ·exact h2.siz q d2 hq
    ·rw[get]at hu
     split at hu
     ·exact f2 _ _ hu
     ·exact h2.one _ _ hu
    ·dsimp only at hq⊢
     rw[J8,List.getElem?_set]at hq;split at hq
     ·rename_i hjq;subst hjq
      cases hq;exact hnew.2 qq c hc
     ·rename_i hjq
      have hq2:qq<e.sz:=by rw[<-h2.siz q d2 hq];exact(As.1 hc).1
      rw[AS,get,AP,<-AS]
      ·exact h2.rep q d2 qq c hq hc
      ·intro hin
       rcases Nat.lt_trichotomy j q with hlt|rfl|hlt
       ·have:(j+1)*e.sz<=q*e.sz:=Bl _ hlt
        rw[BS]at this;omega
       ·exact hjq rfl
       ·have:(q+1)*e.sz<=j*e.sz:=Bl _ hlt
        rw[BS]at this;omega
   rw[q1]at m hrep;obtain⟨a1,a2⟩:=m.write (e':=⟨e.k,e.g,e.T,e.sz,E5 e.es j (EH i off e.sz d (g y))⟩) hr h1 rfl rfl rfl rfl hsz hrep;refine⟨_,?_,by rw[q2];exact a1,by rw[q2,q1];exact a2,λe2 he2=>?_⟩
   ·unfold execOp
    simp only[ho];rw[run_bind]
    have:(Instr.storeAt t (ev x) (ev y)).run C.P w=.ok () (World.setBlk w b cs' e.T):=by
     unfold Instr.storeAt;rw[hv,run_bind,Jv];dsimp only;unfold storeVar;obtain⟨inf,u,t1,t2,t3,t4,_⟩:=Ed (htt _ _ hi);rw[run_bind,EQ t1,t4];dsimp only;rw[AP (by simp[f1]),run,LU h1]
    rw[this];rfl
   ·rw[q2]at he2
    rcases BL.1 he2 with h|h
    ·exact⟨e2,by rw[q1];simp[h],rfl⟩
    ·rcases Ae.1 h with rfl|h
     ·exact⟨e,hm,rfl⟩
     ·exact⟨e2,by rw[q1];simp[h],rfl⟩
theorem AM.store {tt:Nat->Option AJ}(htt:Aw C.P tt){k:Nat}{e':AI}{p:Prop}(hw:Ai ops s.env o=some true)(he:C7 tt s.H (AU s.env) o.op=some (k,e',p))(hp:p)
  (h:AM C F ops os ⟨Ag s.env o.dst (.prim (.tuple #[])),Hp.set s.H k e',s.n+1⟩ K):AM C F ops (o::os) s K:=
 AM.step hw (λρ a w hs=>by
  obtain⟨w',h1,h2,h3,h4⟩:=P4 htt hs.mem (BH hs.env) he hp;refine⟨undef,ρ,w',.inr ⟨h1,rfl⟩,⟨h2,h3,λk g hg=>hs.fresh k g (by omega),.prim _⟩,λe he'=>?_⟩;obtain⟨e2,a1,a2⟩:=h4 e he'
  have:=hs.gen e2 a1
  omega) h
theorem AM.idx {tt:Nat->Option AJ}(htt:Aw C.P tt){t:Nat}{x ix:Operand}{i:AJ}{e esz eby:Nat}{ez:Value}{kk:IntKind}{j:Int}{nn:Bool}{es:List D}{d:D}(hw:Ai ops s.env o=some true)
  (ho:o.op=.indexAddr t x ix) (hi:tt t=some i) (hk:i.ti=.slice e esz eby ez) (h1:AU s.env ix=.prim (.int kk j)) (h2:AU s.env x=.sl nn esz es) (h0:0<=j) (hd:es[j.toNat]?=some d)
  (h:AM C F ops os ⟨Ag s.env o.dst (.pptr d),s.H,s.n+1⟩ K):AM C F ops (o::os) s K:=
 AM.step hw (λρ a w hs=>by
  have a1:=BH hs.env ix;have a2:=BH hs.env x;rw[h1]at a1;rw[h2]at a2;generalize hv:a.eval ix=v at a1;cases a1;obtain⟨u,r1,r2⟩:=Pm (P:=C.P) (htt _ _ hi) hk h0 hd a2;refine⟨u,ρ,w,.inl ?_,.pure hs r2,λe he=>BE (hs.gen e he)⟩;unfold execOp;simp only[ho,hv];rw[run_bind,r1];rfl) h
end
theorem NV {g g':Operand->D}:∀(i:Nat) (ps:List (Nat×Operand)),(∀x∈ps.map (·.2),g x=g' x)->D9 g i ps=D9 g' i ps
 |_,[],_=>rfl
 |i,(j,x)::r,h=>by
  simp only[D9];rw[NV (i+1) r λy hy=>h y (by simp at hy⊢;exact .inr hy),h x (by simp)]
theorem PX {fs:List (Nat×Nat×Bool)}{g g':Operand->D}:∀(ps:List (Nat×Operand)) (cs:List D),(∀x∈ps.map (·.2),g x=g' x)->E4 fs g ps cs=E4 fs g' ps cs
 | [],_,_=>rfl
 |(i,x)::r,cs,h=>by
  simp only[E4];rw[h x (by simp)];cases fs[i]? with
  |none=>rfl
  |some q=>
   obtain⟨o,sz,ag⟩:=q;dsimp only;rw[PX r _ λy hy=>h y (by simp at hy⊢;exact .inr hy)]
theorem G2 {g g':Operand->D}{l:List Operand}(h:∀x∈l,g x=g' x):l.map g=l.map g':=JZ h
theorem Pz {tt:Nat->Option AJ}{g g':Operand->D}{op:Op}(h:∀x∈op.operands,g x=g' x):B7 tt g op=B7 tt g' op:=by
 cases op<;>simp only[Op.operands]at h<;>simp only[B7]
 case move x=>rw[h x (by simp)]
 case assign x=>rw[h x (by simp)]
 case pick c a b=>rw[h c (by simp),h a (by simp),h b (by simp)]
 case build t ps=>
  unfold KT;cases tt t with
  |none=>rfl
  |some i=>
   dsimp only;cases L2 i.ti<;>try rfl
   dsimp only;rw[PX ps.toList _ λx hx=>h x (by simpa using hx)]
 case nilCheck x=>rw[h x (by simp)]
 case binOp op t x y yt=>rw[h x (by simp),h y (by simp)]
 case unOp op t x=>rw[h x (by simp)]
 case convert s d x=>rw[h x (by simp)]
 case makeFunc fn a b=>
  cases fn<;>try rfl
  dsimp only;rw[G2 (l:=a.toList) λx hx=>h x (by simp at hx;simp[hx]),G2 (l:=b.toList) λx hx=>h x (by simp at hx;simp[hx])]
 case slice t x lo hi mx=>
  cases mx<;>try rfl
  dsimp only;rw[h x (by simp)];cases lo<;>cases hi<;>simp_all
 case fieldAddr t x f=>rw[h x (by simp)]
 case field t x f=>rw[h x (by simp)]
 case indexAddr t x i=>rw[h x (by simp),h i (by simp)]
 case index t x i=>rw[h x (by simp),h i (by simp)]
 case extract x i=>rw[h x (by simp)]
 case call c=>
  obtain⟨callee,args,tys⟩:=c;cases callee<;>try rfl
  dsimp only;rw[G2 (l:=args.toList) λx hx=>h x (by simp at hx;simp[Call.operands,hx])]
theorem Un {tt:Nat->Option AJ}{H:Hp}{n k:Nat}{g g':Operand->D}{op:Op}(h:∀x∈op.operands,g x=g' x):CX tt H n k g op=CX tt H n k g' op:=by
 cases op<;>simp only[Op.operands]at h<;>simp only[CX]
 case load t x=>rw[h x (by simp)]
 case box t x=>rw[h x (by simp)]
 case buildSlice t n ps=>rw[NV 0 ps.toList λx hx=>h x (by simpa using hx)]
section
variable {C:AX} {F:AH} {ops:Array Oper}
def Sm (C:AX)(F:AH)(He:Hp)(ρ:Lk)(w:World)(g:Nat)(d:D)(ne:Option AI)(o:Oper)(a:Act):Prop:=
 (∃v ρ' w',(execOp a.eval o).run C.P w=.ok (.value v) w'/\Ek C F He ρ w g d ne v ρ' w') \/
 (∃f vs,(execOp a.eval o).run C.P w=.ok (.enter f vs) w/\Calls C.P f vs w (λe w'=>∃v,e=.returned v/\∃ρ',Ek C F He ρ w g d ne v ρ' w'))
def Av (C:AX)(F:AH)(ops:Array Oper)(H:Hp)(g:Nat)(env:AZ)(o:Oper)(d:D)(ne:Option AI):Prop:=
 (∀e,ne=some e->e.g=g) /\
 ∀(He:Hp) (ρ:Lk) (a:Act) (w:World),AL C F ρ He w->(∀e∈H,e∈He)->(∀k,ρ k g=none)->(∀e∈He,e.g≠g)->(∀t∈o.looksAt ops,AF ρ (AE F.X ρ He) w (env.get t) (a.tmps.getD t undef)) ->
  (Region.wanted o (yielded ops a.tmps)=false/\ne=none/\AF ρ (AE F.X ρ He) w d undef)\/(Region.wanted o (yielded ops a.tmps)=true/\Sm C F He ρ w g d ne o a)
theorem Dh {o:Oper}{env:AZ}{a:Act}{ρ:Lk}{O:Nat->Prop}{w:World}{b:Bool}(he:∀t∈o.looksAt ops,AF ρ O w (env.get t) (a.tmps.getD t undef))(h:Ai ops env o=some b):
  Region.wanted o (yielded ops a.tmps)=b:=by
 let env':AZ:=(o.looksAt ops).map λt=>(t,env.get t)
 have hget:∀t,env'.get t=if t∈o.looksAt ops then env.get t else .any:=by
  intro t
  have:∀l:List Nat,AZ.get (l.map λt=>(t,env.get t)) t=if t∈l then env.get t else .any:=by
   intro l
   induction l with
   |nil=>simp[AZ.get]
   |cons x l ih=>
    simp only[BP];rw[GI,ih]
    by_cases hx:x=t
    ·subst hx;simp
    ·rw[AP hx];simp[Ne.symm hx]
  exact this _
 have hrep:∀t,AF ρ O w (env'.get t) (a.tmps.getD t undef):=λt=>by
  rw[hget]
  by_cases ht:t∈o.looksAt ops
  ·rw[AQ ht];exact he t ht
  ·rw[AP ht];exact .any _
 refine Ez hrep (o:=o) (ops:=ops) ?_;rw[<-h];unfold Ai;split
 ·rfl
 ·rename_i j want hg
  cases hj:ops[j]? with
  |none=>rfl
  |some oj=>
   cases hd:oj.dst with
   |none=>simp only[hd]
   |some t=>
    have ht:t∈o.looksAt ops:=by
     unfold Oper.looksAt;simp[hg,hj,hd]
    simp only[hd];rw[hget,AQ ht]
theorem Dt {o:Oper}{env:AZ}{a:Act}{ρ:Lk}{O:Nat->Prop}{w:World}(he:∀t∈o.looksAt ops,AF ρ O w (env.get t) (a.tmps.getD t undef)):
  ∃g':Operand->D,(∀x∈o.op.operands,AU env x=g' x)/\∀x,AF ρ O w (g' x) (a.eval x):=by
 classical
 refine⟨λx=>if x∈o.op.operands.toList then AU env x else .any,λx hx=>by dsimp only;rw[AQ (by simpa using hx)],λx=>?_⟩;dsimp only
 by_cases hx:x∈o.op.operands.toList
 ·rw[AQ hx]
  cases x with
  |tmp t=>exact he t (by unfold Oper.looksAt;exact JV _ (List.mem_filterMap.2 ⟨.tmp t,hx,rfl⟩))
  |const v=>exact Pg v
  |global g=>exact .prim _
  |func f=>exact .clo rfl rfl (by simp) (by simp)
 ·rw[AP hx];exact .any _
variable {H:Hp} {g:Nat} {env:AZ} {o:Oper} {tt:Nat->Option AJ}
theorem Av.p (htt:Aw C.P tt){d:D}{p:Prop}(hw:Ai ops env o=some true)(he:B7 tt (AU env) o.op=some (d,p))(hp:p):Av C F ops H g env o d none:=by
 refine⟨by simp,λHe ρ a w m _ _ _ hr=>.inr ⟨Dh hr hw,.inl ?_⟩⟩;obtain⟨g',h1,h2⟩:=Dt hr;obtain⟨v,r1,r2⟩:=KV (g:=g') htt h2 (by rw[<-Pz h1];exact he) hp;exact⟨v,ρ,w,r1,m,.refl _ _ _,λ_ _ _=>rfl,r2⟩
theorem Av.skip (hw:Ai ops env o=some false):Av C F ops H g env o (.prim (.tuple #[])) none:=
 ⟨by simp,λHe ρ a w m _ _ _ hr=>.inl ⟨Dh hr hw,rfl,.prim _⟩⟩
theorem Av.call {f:Nat}{first captured ds:List D}{fop:Operand}{args:Array Operand}{tys:Array Nat}{d:D}(hw:Ai ops env o=some true)(ho:o.op=.call ⟨.value fop,args,tys⟩)
  (hf:AU env fop=.clo (.func f) first captured) (hds:first++args.toList.map (AU env)++captured=ds) (hc:Aa C f ds d) (hp:AO ds):Av C F ops H g env o d none:=by
 refine⟨by simp,λHe ρ a w m hsub fr hne hr=>.inr ⟨Dh hr hw,.inr ?_⟩⟩;obtain⟨g',h1,h2⟩:=Dt hr;have hfop:fop∈o.op.operands:=by rw[ho];simp[Op.operands,Call.operands]
 have harg:∀x∈args.toList,AU env x=g' x:=λx hx=>h1 x (by rw[ho];simp[Op.operands,Call.operands];right;simpa using hx)
 rw[h1 fop hfop]at hf;rw[G2 harg]at hds;have hfr:=h2 fop;rw[hf]at hfr;obtain⟨vs,q1,q2,q3⟩:=Hm (g:=g') ho hf hc.1 h2;rw[hds]at q2 q3;refine⟨f,vs,q1,(hc.2 (AE F.X ρ He) w vs m.g (Ax m.gn m.size) (λb hb=>m.own_lt hb) q2 λi d hd=>hp.out d (Bf hd) _ _ _ _ _ (q3 i d hd)).mono ?_⟩;rintro e w' ⟨v,d',rfl,hb,rfl,hrep⟩;have x:Al ρ (AE F.X ρ He) w ρ (AE F.X ρ He) w':=⟨hb.size,λ_ _ _ h=>h,λb hb' hO=>⟨hO,hb.block b hb'⟩,λb cs T fz hh=>⟨cs,_,by
  rw[hb.block b (Be.1 hh).1];exact hh,rfl⟩⟩
 exact⟨v,rfl,ρ,m.same x hb.os hb.tape hb.output hb.block,x,λ_ _ _=>rfl,hrep.nol⟩
theorem Av.idx (htt:Aw C.P tt){t:Nat}{x ix:Operand}{i:AJ}{e esz eby:Nat}{ez:Value}{kk:IntKind}{j:Int}{nn:Bool}{es:List D}{d:D}(hw:Ai ops env o=some true)
  (ho:o.op=.indexAddr t x ix) (hi:tt t=some i) (hk:i.ti=.slice e esz eby ez) (h1:AU env ix=.prim (.int kk j)) (h2:AU env x=.sl nn esz es) (h0:0<=j) (hd:es[j.toNat]?=some d):
  Av C F ops H g env o (.pptr d) none:=by
 refine⟨by simp,λHe ρ a w m hsub fr hne hr=>.inr ⟨Dh hr hw,.inl ?_⟩⟩;obtain⟨g',e1,e2⟩:=Dt hr;have a1:=e2 ix;have a2:=e2 x;rw[<-e1 ix (by rw[ho];simp[Op.operands]),h1]at a1;rw[<-e1 x (by rw[ho];simp[Op.operands]),h2]at a2;generalize hv:a.eval ix=v at a1;cases a1;obtain⟨u,r1,r2⟩:=Pm (P:=C.P) (htt _ _ hi) hk h0 hd a2;refine⟨u,ρ,w,?_,m,.refl _ _ _,λ_ _ _=>rfl,r2⟩;unfold execOp;simp only[ho,hv];rw[run_bind,r1];rfl
def BU (ops:Array Oper)(i:Nat):List Nat:=match ops[i]? with
 |some o=>o.after.toList.filterMap λe=>if Region.binds .any e then some e.on else none
 |none=>[]
inductive CU (ops:Array Oper):Nat->Nat->Prop
 |dep {i j:Nat} (h:j∈BU ops i):CU ops i j
 |step {i j k:Nat} (h:j∈BU ops i) (h':CU ops j k):CU ops i k
def Cj:List (Nat×List Nat)->Nat->List Nat
 | [],_=>[]
 |(k,l)::r,i=>match Nat.beq k i with
  |true=>l
  |false=>Cj r i
def BN (i:Nat):List Nat->Bool
 | []=>false
 |j::l=>match Nat.beq i j with
  |true=>true
  |false=>BN i l
def E0 (l m:List Nat):Bool:=match l with
 | []=>true
 |i::l=>BN i m&&E0 l m
def I3:List Nat->List Nat->List Nat
 | [],acc=>acc
 |i::l,acc=>match BN i acc with
  |true=>I3 l acc
  |false=>I3 l (i::acc)
def Em (ops:Array Oper):List Nat->List (Nat×List Nat)->List (Nat×List Nat)
 | [],acc=>acc
 |i::l,acc=>Em ops l ((i,I3 (BU ops i++(BU ops i).flatMap (Cj acc)) [])::acc)
def Iy:List Nat->Bool
 | []=>true
 |i::l=>!BN i l&&Iy l
def IC (ops:Array Oper)(i:Nat):List Nat:=match ops[i]? with
 |some o=>o.dst.toList
 |none=>[]
def KW (ops:Array Oper):List Nat->List Nat->Bool
 |_,[]=>true
 |done,i::l=>E0 (BU ops i) done&&KW ops (i::done) l
def Me (ops:Array Oper)(all:List Nat)(clo:List (Nat×List Nat)):List Nat->List Nat->Bool
 |_,[]=>true
 |done,i::l=>(match ops[i]? with
  |some o=>(o.looksAt ops).all λt=>all.all λj=>!BN t (IC ops j)||((BN j (Cj clo i)&&BN j done)||(BN i (Cj clo j) && !BN j done && !BN j [i]))
  |none=>false)&&Me ops all clo (i::done) l
def Mi (clo:List (Nat×List Nat)):List Nat->List Nat->Bool
 |_,[]=>true
 |done,i::l=>E0 done (Cj clo i)&&Mi clo (i::done) l
def E8 (ops:Array Oper)(pre suf:List Nat):Bool:=
 Iy (pre++suf)&&E0 (List.range ops.size) (pre++suf)&&(pre++suf).all (λi=>Nat.blt i ops.size)&&KW ops [] (pre++suf) &&
 Iy (pre.flatMap (IC ops))&&Me ops pre (Em ops (pre++suf) []) [] pre&&Mi (Em ops (pre++suf) []) pre suf
theorem DG {i:Nat}{l:List Nat}:BN i l=true↔i∈l:=by
 induction l with
 |nil=>simp[BN]
 |cons j l ih=>
  simp only[BN];cases hb:Nat.beq i j with
  |true=>simp[Ab hb]
  |false=>
   simp only[ih,Ae];constructor
   ·exact .inr
   ·rintro(rfl|h)
    ·simp at hb
    ·exact h
theorem Ig {l m:List Nat}:E0 l m=true↔∀i∈l,i∈m:=by
 induction l with
 |nil=>simp[E0]
 |cons i l ih=>simp[E0,DG,ih]
theorem Nd {l:List Nat}:Iy l=true↔l.Nodup:=by
 induction l with
 |nil=>simp[Iy]
 |cons i l ih=>
  simp only[Iy,Aj,List.nodup_cons,ih]
  have:=@DG i l
  cases h:BN i l<;>simp_all
theorem Jw {acc:List (Nat×List Nat)}(h:∀p∈acc,∀j∈p.2,CU ops p.1 j)(i j:Nat)(hj:j∈Cj acc i):CU ops i j:=by
 induction acc with
 |nil=>simp[Cj]at hj
 |cons p r ih=>
  obtain⟨k,l⟩:=p;simp only[Cj]at hj;cases hb:Nat.beq k i with
  |true=>simp[hb]at hj;obtain rfl:=Ab hb;exact h (k,l) (by simp) j hj
  |false=>simp[hb]at hj;exact ih (λp hp=>h p (by simp[hp])) hj
theorem Nj {j:Nat}:∀ {l acc:List Nat},j∈I3 l acc↔j∈l\/j∈acc
 | [],acc=>by simp[I3]
 |i::l,acc=>by
  simp only[I3];split
  ·rename_i h
   rw[Nj,Ae];constructor
   ·rintro(h1|h1)
    ·exact .inl (.inr h1)
    ·exact .inr h1
   ·rintro((rfl|h1)|h1)
    ·exact .inr (DG.1 h)
    ·exact .inl h1
    ·exact .inr h1
  ·rw[Nj,Ae,Ae]
   constructor
   ·rintro(h1|h1|h1)
    ·exact .inl (.inr h1)
    ·exact .inl (.inl h1)
    ·exact .inr h1
   ·rintro((h1|h1)|h1)
    ·exact .inr (.inl h1)
    ·exact .inl h1
    ·exact .inr (.inr h1)
theorem Js:∀(l:List Nat) (acc:List (Nat×List Nat)),(∀p∈acc,∀j∈p.2,CU ops p.1 j)->∀p∈Em ops l acc,∀j∈p.2,CU ops p.1 j
 | [],acc,h=>h
 |i::l,acc,h=>Js l _ (λp hp j hj=>by
  rcases Ae.1 hp with rfl|hp
  ·rcases BL.1 ((Nj.1 hj).resolve_right (by simp))with hj|hj
   ·exact .dep hj
   ·obtain⟨k,hk,hj⟩:=List.mem_flatMap.1 hj
    exact .step hk (Jw h k j hj)
  ·exact h p hp j hj)
def Cl (ops:Array Oper)(L:Array Bool):Prop:=∀i,L.getD i true=true->i<ops.size->∀j∈BU ops i,L.getD j false=true
theorem CI {L:Array Bool}{i:Nat}:i∈Region.ready .any ops L↔i<ops.size/\L.getD i true=false/\∀j∈BU ops i,L.getD j false=true:=by
 unfold Region.ready;simp only[List.mem_filter,List.mem_range,Aj,EZ];constructor
 ·rintro⟨h1,h2,h3⟩
  refine⟨h1,h2,λj hj=>?_⟩;unfold BU at hj;have ho:ops[i]?=some ops[i]:=A9 h1;simp only[ho,FS,GL]at hj h3;obtain⟨e,he,hje⟩:=List.mem_filterMap.1 hj;have h4:=(Array.all_eq_true'.1 h3) e (by simpa using he);split at hje
  ·rename_i hb
   cases hje;simpa[hb]using h4
  ·cases hje
 ·rintro⟨h1,h2,h3⟩
  refine⟨h1,h2,?_⟩;have ho:ops[i]?=some ops[i]:=A9 h1;simp only[ho,FS,GL];refine Array.all_eq_true'.2 λe he=>?_
  by_cases hb:Region.binds .any e=true
  ·have:=h3 e.on (by unfold BU;simp only[ho];exact List.mem_filterMap.2 ⟨e,by simpa using he,by simp[hb]⟩)
   simp[this]
  ·simp[hb]
theorem Ew {L:Array Bool}(hL:L.size=ops.size)(hc:Cl ops L){i j:Nat}(h:CU ops i j):(∀k∈BU ops i,L.getD k false=true)->L.getD j false=true:=by
 induction h with
 |dep h=>intro hd;exact hd _ h
 |step h _ ih=>
  intro hd;have hj:=hd _ h;rename_i i j k _;have hlt:j<L.size:=by
   rcases Ar j L.size with h'|h'
   ·exact h'
   ·simp[IR h']at hj
  exact ih (hc j (by simp[A9 hlt]at hj⊢;exact hj) (by omega))
inductive EO (C:AX)(F:AH)(ops:Array Oper)(H:Hp)(n:Nat):List Nat->AZ->Hp->AZ->Hp->Prop
 |nil (env:AZ) (N:Hp):EO C F ops H n [] env N env N
 |cons {i:Nat} {l:List Nat} {o:Oper} {d:D} {ne:Option AI} {env env':AZ} {N N':Hp} (ho:ops[i]?=some o) (hs:Av C F ops H (n+i) env o d ne)
   (h:EO C F ops H n l (Ag env o.dst d) (BZ ne N) env' N'):EO C F ops H n (i::l) env N env' N'
structure B8 where
 i:Nat
 o:Oper
 d:D
 ne:Option AI
def El:List B8->AZ->AZ
 | [],e=>e
 |r::A,e=>El A (Ag e r.o.dst r.d)
def JE:List B8->Hp->Hp
 | [],N=>N
 |r::A,N=>JE A (BZ r.ne N)
theorem EO.recs {H:Hp}{n:Nat}{l:List Nat}{env env':AZ}{N N':Hp}(h:EO C F ops H n l env N env' N'):
  ∃rs:List B8,rs.map (·.i)=l/\env'=El rs env/\N'=JE rs N /\
   ∀A r B,rs=A++r::B->ops[r.i]?=some r.o/\Av C F ops H (n+r.i) (El A env) r.o r.d r.ne:=by
 induction h with
 |nil env N=>exact⟨[],rfl,rfl,rfl,λA r B h=>by cases A<;>simp at h⟩
 | @cons i l o d ne env env' N N' ho hs _ ih=>
  obtain⟨rs,h1,h2,h3,h4⟩:=ih;refine⟨⟨i,o,d,ne⟩::rs,by simp[h1],h2,h3,λA r B hr=>?_⟩;cases A with
  |nil=>
   simp only[GN,CQ]at hr;obtain⟨rfl,rfl⟩:=hr;exact⟨ho,hs⟩
  |cons r0 A=>
   simp only[Ft,CQ]at hr;obtain⟨rfl,rfl⟩:=hr;exact h4 A r B rfl
theorem Qm (env:AZ)(dst:Option Nat)(d:D)(t:Nat):(Ag env dst d).get t=if dst=some t then d else env.get t:=by
 cases dst with
 |none=>simp[Ag]
 |some k=>
  simp only[Ag];rw[GI]
  by_cases h:k=t
  ·subst h;simp
  ·rw[AP h,AP (by simpa using h)]
theorem Hj:∀(A:List B8) (e:AZ) (t:Nat),(∀r∈A,r.o.dst≠some t)->(El A e).get t=e.get t
 | [],_,_,_=>rfl
 |r::A,e,t,h=>by
  simp only[El];rw[Hj A _ t λr' hr'=>h r' (by simp[hr']),Qm,AP (h r (by simp))]
theorem KG:∀(A:List B8) (e:AZ) (t:Nat),A.Pairwise (λr r'=>∀t,r.o.dst=some t->r'.o.dst≠some t)->∀r∈A,r.o.dst=some t->(El A e).get t=r.d
 | [],_,_,_,r,hr,_=>by simp at hr
 |r0::A,e,t,hp,r,hr,hd=>by
  obtain⟨p1,p2⟩:=Dq.1 hp;simp only[El];rcases Ae.1 hr with rfl|hr
  ·rw[Hj A _ t λr' hr'=>p1 r' hr' t hd,Qm,AQ hd]
  ·exact KG A _ t p2 r hr hd
theorem Hl:∀(A:List B8) (N:Hp),(JE A N).Perm (A.filterMap (·.ne)++N)
 | [],N=>by simp[JE]
 |r::A,N=>by
  simp only[JE];refine(Hl A _).trans ?_;cases h:r.ne with
  |none=>simp[BZ,h]
  |some e=>simp only[BZ,JX,h];exact Jc
theorem AE.perm {X:Nat->Prop}{ρ:Lk}{H H':Hp}(h:H.Perm H'):AE X ρ H=AE X ρ H':=funext λb=>propext (by simp only[AE,h.mem_iff])
theorem AL.perm {ρ:Lk}{H H':Hp}{w:World}(m:AL C F ρ H w)(h:H.Perm H'):AL C F ρ H' w:=by
 refine⟨⟨λe he=>?_,?_,λe he=>m.hok.own e (h.mem_iff.2 he)⟩,m.os,m.tape,m.output,m.size,m.blk,m.xlt,m.g0,m.gn,m.gw,m.lnk,m.shp⟩
 ·rw[<-AE.perm h];exact m.hok.ent e (h.mem_iff.2 he)
 ·exact h.pairwise m.hok.inj λ{a b} hab b1 b2 h1 h2=>(hab b2 b1 h2 h1).symm
def Ls (L:Array Bool)(i:Nat):Prop:=L.getD i false=true
theorem Ii {α β:Type}{f g:α->Option β}:∀ {l:List α},(∀x∈l,f x=g x)->l.filterMap f=l.filterMap g
 | [],_=>rfl
 |x::l,h=>by
  rw[JX,JX,h x (by simp),Ii (l:=l) λy hy=>h y (by simp[hy])]
structure DI (C:AX)(F:AH)(H:Hp)(n:Nat)(env:AZ)(rs:List B8)(L:Array Bool)(a:Act)(w:World)(ρ:Lk)(He:Hp):Prop where
 mem:AL C F ρ He w
 perm:He.Perm (rs.filterMap (λr=>if L.getD r.i false then r.ne else none)++H)
 reps:∀r∈rs,Ls L r.i->∀t,r.o.dst=some t->AF ρ (AE F.X ρ He) w r.d (a.tmps.getD t undef)
 old:∀t,(∀r∈rs,Ls L r.i->r.o.dst≠some t)->AF ρ (AE F.X ρ He) w (env.get t) (a.tmps.getD t undef)
 fresh:∀k g,n<=g->ρ k g≠none->∃r∈rs,Ls L r.i/\g=n+r.i
 nt:a.tmps.size=F.nt
 dfr:a.defers=F.df
theorem Ls.set {L:Array Bool}{i j:Nat}(hi:i<L.size):Ls (L.setIfInBounds i true) j↔j=i\/Ls L j:=by
 unfold Ls;rw[AS,C4,AS]
 by_cases h:i=j
 ·subst h;simp[hi]
 ·rw[AP h];simp[Ne.symm h]
theorem DI.next {H:Hp}{n:Nat}{env:AZ}{A B:List B8}{r:B8}{L:Array Bool}{a:Act}{w:World}{ρ:Lk}{He:Hp}(h:DI C F H n env (A++r::B) L a w ρ He)(hi:r.i<L.size)(hn:¬Ls L r.i)
  (hnd:((A++r::B).map (·.i)).Nodup) (hdst:(A++r::B).Pairwise (λr r'=>∀t,r.o.dst=some t->r'.o.dst≠some t)) (hok:B0 F.nt r.o=true) {v:Value} {ρ':Lk} {w':World}
  (p:Ek C F He ρ w (n+r.i) r.d r.ne v ρ' w'):DI C F H n env (A++r::B) (L.setIfInBounds r.i true) (a.put r.o.dst v) w' ρ' (BZ r.ne He):=by
 have hset:∀j,Ls (L.setIfInBounds r.i true) j↔j=r.i\/Ls L j:=λj=>Ls.set hi
 have hne:∀r'∈A++B,r'.i≠r.i:=by
  simp only[GM,BP]at hnd;intro r' hr' he;rw[DQ,List.nodup_cons]at hnd;rcases BL.1 hr' with hr'|hr'
  ·exact hnd.2.2 r'.i (Bj.2 ⟨r',hr',rfl⟩) r.i (by simp) he
  ·exact hnd.2.1.1 (Bj.2 ⟨r',hr',he⟩)
 have hput:∀t,(a.put r.o.dst v).tmps.getD t undef=if r.o.dst=some t then v else a.tmps.getD t undef:=by
  intro t;cases hd:r.o.dst with
  |none=>simp[Act.put]
  |some k=>
   have hk:k<a.tmps.size:=by
    rw[h.nt];unfold B0 at hok;rw[hd]at hok;exact Nat.blt_eq.mp hok
   show(a.tmps.setIfInBounds k v).getD t undef=_;rw[AS,C4]
   by_cases hkt:k=t
   ·subst hkt;simp[hk]
   ·rw[AP hkt,AP (by simpa using hkt),<-AS]
 refine⟨p.mem,?_,λr' hr' hl t ht=>?_,λt ht=>?_,λk g hg hk=>?_,?_,?_⟩
 ·have fm:∀X:List B8,(∀r'∈X,r'.i≠r.i)->X.filterMap (λr'=>if(L.setIfInBounds r.i true).getD r'.i false then r'.ne else none)=X.filterMap (λr'=>if L.getD r'.i false then r'.ne else none):=by
   intro X hX;refine Ii λr' hr'=>?_
   have:=hset r'.i
   have h2:=hX r' hr';unfold Ls at this
   by_cases hl:L.getD r'.i false=true
   ·rw[AQ (this.2 (.inr hl)),AQ hl]
   ·rw[AP (λh=>hl ((this.1 h).resolve_left h2)),AP hl]
  have hself:(L.setIfInBounds r.i true).getD r.i false=true:=(hset r.i).2 (.inl rfl);have hold:¬L.getD r.i false=true:=hn;have e1:=h.perm;rw[List.filterMap_append,JX]at e1;simp only[AP hold]at e1;rw[List.filterMap_append,JX,fm A (λr' hr'=>hne r' (by simp[hr'])),fm B (λr' hr'=>hne r' (by simp[hr']))];simp only[AQ hself];cases hre:r.ne with
  |none=>simpa[BZ]using e1
  |some e=>
   simp only[BZ];refine(List.Perm.cons e e1).trans ?_;simp only[C6,Ft];exact Jc.symm
 ·rw[hput]
  by_cases hrr:r'=r
  ·subst hrr;rw[AQ ht];exact p.rep
  ·have hr2:r'∈A++B:=by
    rcases BL.1 hr' with h|h
    ·simp[h]
    ·rcases Ae.1 h with h|h
     ·exact AY h hrr
     ·simp[h]
   have hl2:=((hset r'.i).1 hl).resolve_left (hne r' hr2);rw[AP]
   ·exact(h.reps r' hr' hl2 t ht).mono p.ext
   ·intro hrt
    rw[IT,Dq]at hdst;rcases BL.1 hr2 with h|h
    ·exact hdst.2.2 r' h r (by simp) t ht hrt
    ·exact hdst.2.1.1 r' h t hrt ht
 ·rw[hput,AP (ht r (by simp) ((hset r.i).2 (.inl rfl)))]
  exact(h.old t λr' hr' hl=>ht r' hr' ((hset r'.i).2 (.inr hl))).mono p.ext
 ·by_cases hgr:g=n+r.i
  ·exact⟨r,by simp,(hset r.i).2 (.inl rfl),hgr⟩
  ·rw[p.far k g hgr]at hk
   obtain⟨r',h1,h2,h3⟩:=h.fresh k g hg hk;exact⟨r',h1,(hset r'.i).2 (.inr h2),h3⟩
 ·cases r.o.dst<;>simp[Act.put,h.nt]
 ·cases r.o.dst<;>simp[Act.put,h.dfr]
theorem Jr {Q:Exit->Act->World->Prop}:∀(l:List Nat) (fuel:Nat) (L:Array Bool) (a:Act) (w:World),L.size=ops.size->l.length<=fuel->(∀i,i<ops.size->(Ls L i↔i∉l))->l.Nodup ->
  (∀A i B,l=A++i::B->(∀j∈BU ops i,j<ops.size/\j∉i::B)/\∀j∈A,CU ops i j)->(∀i∈l,i<ops.size)->Cl ops L ->
  wpOps C.P ops Q l a w->wpAny C.P .any ops Q fuel L a w
 | [],fuel,L,a,w,hs,_,hl,_,_,_,_,h=>by
  have hr:Region.ready .any ops L=[]:=by
   apply List.eq_nil_iff_forall_not_mem.2;intro i hi;obtain⟨h1,h2,_⟩:=CI.1 hi
   have:=(hl i h1).2 (by simp)
   unfold Ls at this;rw[AS,Du]at this h2;simp at this h2;rw[this]at h2;cases h2
  cases fuel with
  |zero=>exact⟨hr,h⟩
  |succ fuel=>exact⟨λ_=>h,λi hi=>by rw[hr]at hi;simp at hi⟩
 |i::l,0,_,_,_,_,hf,_,_,_,_,_,_=>by simp at hf
 |i::l,fuel+1,L,a,w,hs,hf,hl,hnd,hd,hlt,hcl,h=>by
  have hil:=hlt i (by simp);have hLi:∀j,j<ops.size->(L.getD j true=true↔Ls L j):=λj hj=>by
   unfold Ls;rw[AS,AS,Du];simp
  have hready:∀j,j∈Region.ready .any ops L↔j=i:=by
   intro j;rw[CI];constructor
   ·rintro⟨h1,h2,h3⟩
    have hj:j∈i::l:=by
     apply Db;intro hn
     have:=(hLi j h1).2 ((hl j h1).2 hn)
     rw[h2]at this;cases this
    apply Db;intro hne;have hjl:j∈l:=by simpa[hne]using hj
    obtain⟨A,B,rfl⟩:=D2 hjl;have hreach:=(hd (i::A) j B (by simp)).2 i (by simp)
    have:=Ew hs hcl hreach h3
    exact AY ((hl i hil).1 this) (by simp)
   ·rintro rfl
    refine⟨hil,?_,λk hk=>?_⟩
    ·cases hb:L.getD j true with
     |false=>rfl
     |true=>exact AY ((hl j hil).1 ((hLi j hil).1 hb)) (by simp)
    ·have hk2:=(hd [] j l rfl).1 k hk
     exact(hl k hk2.1).2 hk2.2
  have hset:∀j,Ls (L.setIfInBounds i true) j↔j=i\/Ls L j:=λj=>Ls.set (by omega)
  refine⟨λh0=>?_,λj hj=>?_⟩
  ·have:=(hready i).2 rfl
   rw[h0]at this;simp at this
  ·obtain rfl:=(hready j).1 hj
   rw[wpOps_cons]at h;obtain⟨n1,n2⟩:=List.nodup_cons.1 hnd;refine wpOp_mono (λa w hk=>?_) h;refine Jr l fuel _ a w (by simp[hs]) (by simp at hf;omega) (λk hk2=>?_) n2 (λA k B hAB=>?_) (λk hk2=>hlt k (by simp[hk2])) ?_ hk
   ·rw[hset,hl k hk2]
    by_cases hkj:k=j
    ·subst hkj;simp[n1]
    ·simp[hkj]
   ·obtain⟨q1,q2⟩:=hd (j::A) k B (by simp[hAB])
    exact⟨q1,λx hx=>q2 x (by simp[hx])⟩
   ·intro k hk2 hks x hx
    have hk3:Ls (L.setIfInBounds j true) k:=by
     unfold Ls;rw[AS,A9 (by simp;omega)]at hk2⊢;simpa using hk2
    show Ls _ x;rw[hset];rcases(hset k).1 hk3 with rfl|hk3
    ·exact .inr ((CI.1 hj).2.2 x hx)
    ·exact .inr (hcl k ((hLi k hks).2 hk3) hks x hx)
structure Ke (ops:Array Oper)(rs:List B8)(suf:List Nat):Prop where
 nodup:(rs.map (·.i)++suf).Nodup
 lt:∀i∈rs.map (·.i)++suf,i<ops.size
 all:∀i,i<ops.size->i∈rs.map (·.i)++suf
 first:∀A i B,rs.map (·.i)++suf=A++i::B->∀j∈BU ops i,j∈A
 dst:rs.Pairwise λr r'=>∀t,r.o.dst=some t->r'.o.dst≠some t
 look:∀A r B,rs=A++r::B->∀t∈r.o.looksAt ops,∀r'∈rs,r'.o.dst=some t->(r'∈A/\CU ops r.i r'.i)\/(r'∉A/\CU ops r'.i r.i)
 suf:∀A i B,suf=A++i::B->∀j∈rs.map (·.i)++A,CU ops i j
theorem DI.look {H:Hp}{n:Nat}{env:AZ}{rs:List B8}{suf:List Nat}{L:Array Bool}{a:Act}{w:World}{ρ:Lk}{He:Hp}(h:DI C F H n env rs L a w ρ He)(ho:Ke ops rs suf)(hL:L.size=ops.size)(hc:Cl ops L)
  {A B:List B8} {r:B8} (hr:rs=A++r::B) (hrd:r.i∈Region.ready .any ops L):∀t∈r.o.looksAt ops,AF ρ (AE F.X ρ He) w ((El A env).get t) (a.tmps.getD t undef):=by
 intro t ht;have hpA:A.Pairwise (λr r'=>∀t,r.o.dst=some t->r'.o.dst≠some t):=by
  have:=ho.dst
  rw[hr,IT]at this;exact this.1
 by_cases hw:∃r'∈rs,r'.o.dst=some t
 ·obtain⟨r',h1,h2⟩:=hw
  rcases ho.look A r B hr t ht r' h1 h2 with⟨h3,h4⟩|⟨h3,h4⟩
  ·rw[KG A env t hpA r' h3 h2]
   exact h.reps r' h1 (Ew hL hc h4 (CI.1 hrd).2.2) t h2
  ·
   have one:∀r''∈rs,r''.o.dst=some t->r''=r':=λr'' hr'' hd=>Db λhne=>by
    have hp:=ho.dst;have sym:∀ {l:List B8},l.Pairwise (λr r'=>∀t,r.o.dst=some t->r'.o.dst≠some t)->∀x∈l,∀y∈l,x≠y->∀t,x.o.dst=some t->y.o.dst≠some t:=by
     intro l hl
     induction hl with
     |nil=>intro x hx;simp at hx
     |cons h _ ih=>
      intro x hx y hy hxy t h1 h2;rcases Ae.1 hx with e1|e1
      ·rcases Ae.1 hy with e2|e2
       ·exact hxy (by rw[e1,e2])
       ·rw[e1]at h1;exact h y e2 t h1 h2
      ·rcases Ae.1 hy with e2|e2
       ·rw[e2]at h2;exact h x e1 t h2 h1
       ·exact ih x e1 y e2 hxy t h1 h2
    exact sym hp r'' hr'' r' h1 hne t hd h2
   rw[Hj A env t λr'' hr'' hd=>h3 (by rw[<-one r'' (by rw[hr];simp[hr'']) hd];exact hr'')];refine h.old t λr'' hr'' hl hd=>?_
   obtain rfl:=one r'' hr'' hd;have hlt:r''.i<ops.size:=ho.lt r''.i (by simp;exact .inl ⟨r'',hr'',rfl⟩);have hin:=(CI.1 hrd).2.1;have hrl:L.getD r.i false=true:=by
    refine Ew hL hc h4 λk hk=>?_
    refine hc r''.i ?_ hlt k hk;unfold Ls at hl;rw[AS,Du]at hl⊢;simpa using hl
   have hrlt:r.i<ops.size:=(CI.1 hrd).1;rw[AS,Du]at hrl hin;simp at hrl hin;rw[hrl]at hin;cases hin
 ·rw[Hj A env t λr' hr' hd=>hw ⟨r',by rw[hr];simp[hr'],hd⟩]
  exact h.old t λr' hr' _ hd=>hw ⟨r',hr',hd⟩
theorem UQ {Q:Exit->Act->World->Prop}{H:Hp}{n:Nat}{env:AZ}{rs:List B8}{suf:List Nat}(ho:Ke ops rs suf)(hgen:∀e∈H,e.g<n)(hd:∀r∈rs,B0 F.nt r.o=true)
  (hst:∀A r B,rs=A++r::B->ops[r.i]?=some r.o/\Av C F ops H (n+r.i) (El A env) r.o r.d r.ne)
  (hend:∀(L:Array Bool) (a:Act) (w:World) (ρ:Lk) (He:Hp),L.size=ops.size->(∀r∈rs,Ls L r.i)->DI C F H n env rs L a w ρ He->wpOps C.P ops Q suf a w):
  ∀(fuel:Nat) (L:Array Bool) (a:Act) (w:World) (ρ:Lk) (He:Hp),L.size=ops.size->((rs.map (·.i)++suf).filter (λi=>!L.getD i false)).length<=fuel->Cl ops L->(∀i∈suf,¬Ls L i) ->
   DI C F H n env rs L a w ρ He->wpAny C.P .any ops Q fuel L a w:=by
 intro fuel
 induction fuel with
 |zero=>
  intro L a w ρ He hL hf hc hs hi;have h0:(rs.map (·.i)++suf).filter (λi=>!L.getD i false)=[]:=IQ (by omega);have hall:∀r∈rs,Ls L r.i:=λr hr=>by
   have:=List.filter_eq_nil_iff.1 h0 r.i (by simp;exact .inl ⟨r,hr,rfl⟩)
   simpa[Ls]using this
  have hsuf:suf=[]:=by
   apply List.eq_nil_iff_forall_not_mem.2;intro i hi2
   have:=List.filter_eq_nil_iff.1 h0 i (by simp[hi2])
   exact hs i hi2 (by simpa[Ls]using this)
  subst hsuf;refine Jr [] 0 L a w hL (Ah _) (λi hi2=>⟨λ_=>by simp,λ_=>?_⟩) .nil (λA i B h=>by cases A<;>simp at h) (by simp) hc (hend L a w ρ He hL hall hi)
  have:=ho.all i hi2
  simp at this;obtain⟨r,hr,rfl⟩:=this;exact hall r hr
 |succ fuel ih=>
  intro L a w ρ He hL hf hc hs hi
  by_cases hall:∀r∈rs,Ls L r.i
  ·refine Jr suf (fuel+1) L a w hL ?_ (λi hi2=>?_) ?_ (λA i B hAB=>⟨λj hj=>?_,λj hj=>ho.suf A i B hAB j (by simp[hj])⟩) (λi hi2=>ho.lt i (by simp[hi2])) hc (hend L a w ρ He hL hall hi)
   ·refine Ax ?_ hf
    rw[List.filter_append,Co];rw[(List.filter_eq_self (l:=suf)).2 λi hi2=>by have:=hs i hi2;unfold Ls at this;simpa using this];omega
   ·constructor
    ·intro h1 h2;exact hs i h2 h1
    ·intro h1
     have:=ho.all i hi2
     rcases BL.1 this with h|h
     ·obtain⟨r,hr,rfl⟩:=Bj.1 h;exact hall r hr
     ·exact AY h h1
   ·exact(DQ.1 ho.nodup).2.1
   ·have hA:=ho.first (rs.map (·.i)++A) i B (by simp[hAB]) j hj
    refine⟨ho.lt j (by rw[hAB];rcases BL.1 hA with h|h<;>simp[h]),λhB=>?_⟩;have hnd:=ho.nodup;rw[hAB,<-C6,DQ]at hnd;exact hnd.2.2 j hA j hB rfl
  ·have hnot:∃r∈rs,¬Ls L r.i:=by
    apply Db;intro hn;exact hall λr hr=>Db λh=>hn ⟨r,hr,h⟩
   have hLt:∀j,j<ops.size->(L.getD j true=true↔Ls L j):=λj hj=>by
    unfold Ls;rw[AS,AS,Du];simp
   have hsome:Region.ready .any ops L≠[]:=by
    obtain⟨r0,hr0,hn0⟩:=hnot
    have:∀X:List B8,∀Y,rs=X++Y->(∃r∈Y,¬Ls L r.i)->(∀r∈X,Ls L r.i)->∃A r B,rs=A++r::B/\¬Ls L r.i/\∀r∈A,Ls L r.i:=by
     intro X Y
     induction Y generalizing X with
     |nil=>rintro _ ⟨r,hr,_⟩ _;simp at hr
     |cons y Y ihY=>
      intro hXY hex hX
      by_cases hy:Ls L y.i
      ·obtain⟨r,hr,hrn⟩:=hex
       rcases Ae.1 hr with rfl|hr
       ·exact AY hy hrn
       ·exact ihY (X++[y]) (by simp[hXY]) ⟨r,hr,hrn⟩ (λr hr=>by
         rcases BL.1 hr with h|h
         ·exact hX r h
         ·simp at h;subst h;exact hy)
      ·exact⟨X,y,Y,hXY,hy,hX⟩
    obtain⟨A,r,B,h1,h2,h3⟩:=this [] rs rfl ⟨r0,hr0,hn0⟩ (by simp);intro hnil;have hrlt:=ho.lt r.i (by rw[h1];simp)
    have:r.i∈Region.ready .any ops L:=by
     rw[CI];refine⟨hrlt,?_,λj hj=>?_⟩
     ·cases hb:L.getD r.i true with
      |false=>rfl
      |true=>exact AY ((hLt r.i hrlt).1 hb) h2
     ·have:=ho.first (A.map (·.i)) r.i (B.map (·.i)++suf) (by rw[h1];simp) j hj
      obtain⟨r',hr',rfl⟩:=Bj.1 this;exact h3 r' hr'
    rw[hnil]at this;simp at this
   refine⟨λh0=>AY h0 hsome,λi hir=>?_⟩;obtain⟨hilt,hin,hid⟩:=CI.1 hir;have hnL:¬Ls L i:=λh=>by rw[(hLt i hilt).2 h]at hin;cases hin
   have hpre:i∈rs.map (·.i):=by
    rcases BL.1 (ho.all i hilt)with h|h
    ·exact h
    ·obtain⟨A,B,hAB⟩:=D2 h
     obtain⟨r0,hr0,hn0⟩:=hnot
     have:=Ew hL hc (ho.suf A i B hAB r0.i (JV _ (Bj.2 ⟨r0,hr0,rfl⟩))) hid
     exact AY this hn0
   obtain⟨r,hr,rfl⟩:=Bj.1 hpre;obtain⟨A,B,hAB⟩:=D2 hr;obtain⟨hor,hgen2,hsteady⟩:=hst A r B hAB;have hset:∀j,Ls (L.setIfInBounds r.i true) j↔j=r.i\/Ls L j:=λj=>Ls.set (by omega)
   have hndr:(rs.map (·.i)).Nodup:=(DQ.1 ho.nodup).1;have hsub:∀e∈H,e∈He:=λe he=>hi.perm.mem_iff.2 (by simp[he])
   have hfr:∀k,ρ k (n+r.i)=none:=λk=>by
    apply Db;intro hk;obtain⟨r',h1,h2,h3⟩:=hi.fresh k (n+r.i) (by omega) hk
    have:r'.i=r.i:=by omega
    rw[this]at h2;exact hnL h2
   have hne:∀e∈He,e.g≠n+r.i:=λe he hg=>by
    rcases BL.1 (hi.perm.mem_iff.1 he)with h|h
    ·obtain⟨r',h1,h2⟩:=List.mem_filterMap.1 h
     split at h2
     ·rename_i hl
      obtain⟨A',B',hAB'⟩:=D2 h1
      have:=(hst A' r' B' hAB').2.1 e h2
      have:r'.i=r.i:=by omega
      rw[this]at hl;exact hnL hl
     ·cases h2
    ·have:=hgen e h;omega
   have next:∀v ρ' w',Ek C F He ρ w (n+r.i) r.d r.ne v ρ' w'->wpAny C.P .any ops Q fuel (L.setIfInBounds r.i true) (a.put r.o.dst v) w':=by
    intro v ρ' w' p;have hi':=hi;rw[hAB]at hi' hndr;have hdst:=ho.dst;rw[hAB]at hdst;have hn':=DI.next hi' (by omega) hnL hndr hdst (hd r hr) p;rw[<-hAB]at hn';refine ih _ _ _ ρ' (BZ r.ne He) (by simp[hL]) ?_ ?_ (λj hj=>?_) hn'
    ·have:((rs.map (·.i)++suf).filter (λi=>!(L.setIfInBounds r.i true).getD i false)).length<((rs.map (·.i)++suf).filter (λi=>!L.getD i false)).length:=by
      have sub:(rs.map (·.i)++suf).filter (λi=>!(L.setIfInBounds r.i true).getD i false)=((rs.map (·.i)++suf).filter (λi=>!L.getD i false)).filter (λi=>!Nat.beq i r.i):=by
       rw[List.filter_filter];apply List.filter_congr;intro x hx;have h1:=hset x;unfold Ls at h1
       by_cases hxr:x=r.i
       ·subst hxr
        have:(L.setIfInBounds r.i true).getD r.i false=true:=h1.2 (.inl rfl)
        simp[this]
       ·have hb:Nat.beq x r.i=false:=by
         cases hb:Nat.beq x r.i with
         |false=>rfl
         |true=>exact AY (Ab hb) hxr
        rw[hb]
        by_cases hlx:L.getD x false=true
        ·rw[h1.2 (.inr hlx),hlx];rfl
        ·have:¬(L.setIfInBounds r.i true).getD x false=true:=λh=>hlx ((h1.1 h).resolve_left hxr)
         simp only[Bool.not_eq_true]at this hlx;rw[this,hlx];rfl
      rw[sub];apply List.length_filter_lt_length_iff_exists.2;exact⟨r.i,by rw[List.mem_filter];exact⟨by simp;exact .inl ⟨r,hr,rfl⟩,by unfold Ls at hnL;simpa using hnL⟩,by simp⟩
     omega
    ·intro k hk2 hks x hx
     have hk3:Ls (L.setIfInBounds r.i true) k:=by
      unfold Ls;rw[AS,A9 (by simp;omega)]at hk2⊢;simpa using hk2
     show Ls _ x;rw[hset];rcases(hset k).1 hk3 with rfl|hk3
     ·exact .inr (hid x hx)
     ·exact .inr (hc k ((hLt k hks).2 hk3) hks x hx)
    ·rw[hset]
     rintro(rfl|h)
     ·have hnd:=ho.nodup
      rw[DQ]at hnd;exact hnd.2.2 r.i (Bj.2 ⟨r,hr,rfl⟩) r.i hj rfl
     ·exact hs j hj h
   unfold wpOp;simp only[hor];rcases hsteady He ρ a w hi.mem hsub hfr hne (hi.look ho hL hc hAB hir)with⟨hw,hn0,hrep⟩|⟨hw,hout⟩
   ·rw[AP (by rw[hw];simp)]
    exact next undef ρ w ⟨by rw[hn0];exact hi.mem,by rw[hn0];exact .refl _ _ _,λ_ _ _=>rfl,by rw[hn0];exact hrep⟩
   ·rw[AQ hw]
    refine .inl ?_;unfold Oper.wp;rcases hout with⟨v,ρ',w',h1,h2⟩|⟨f,vs,h1,h2⟩
    ·rw[h1];exact next v ρ' w' h2
    ·rw[h1]
     refine h2.mono ?_;rintro e w' ⟨v,rfl,ρ',h3⟩;exact next v ρ' w' h3
theorem NZ:∀(l done:List Nat),KW ops done l=true->∀A i B,l=A++i::B->∀j∈BU ops i,j∈done\/j∈A
 | [],_,_,A,i,B,h=>by cases A<;>simp at h
 |k::l,done,h,A,i,B,hl=>by
  simp only[KW,Aj]at h;cases A with
  |nil=>
   simp only[GN,CQ]at hl;obtain⟨rfl,rfl⟩:=hl;exact λj hj=>.inl (Ig.1 h.1 j hj)
  |cons k' A=>
   simp only[Ft,CQ]at hl;obtain⟨rfl,rfl⟩:=hl;intro j hj;rcases NZ _ _ h.2 A i B rfl j hj with h'|h'
   ·rcases Ae.1 h' with rfl|h'
    ·exact .inr (by simp)
    ·exact .inl h'
   ·exact .inr (by simp[h'])
theorem Qu {clo:List (Nat×List Nat)}:∀(l done:List Nat),Mi clo done l=true->∀A i B,l=A++i::B->∀j,j∈done\/j∈A->j∈Cj clo i
 | [],_,_,A,i,B,h=>by cases A<;>simp at h
 |k::l,done,h,A,i,B,hl=>by
  simp only[Mi,Aj]at h;cases A with
  |nil=>
   simp only[GN,CQ]at hl;obtain⟨rfl,rfl⟩:=hl;rintro j (hj|hj)
   ·exact Ig.1 h.1 j hj
   ·simp at hj
  |cons k' A=>
   simp only[Ft,CQ]at hl;obtain⟨rfl,rfl⟩:=hl;intro j hj;refine Qu _ _ h.2 A i B rfl j ?_;rcases hj with hj|hj
   ·exact .inl (by simp[hj])
   ·rcases Ae.1 hj with rfl|hj
    ·exact .inl (by simp)
    ·exact .inr hj
theorem Ql {all:List Nat}{clo:List (Nat×List Nat)}:∀(l done:List Nat),Me ops all clo done l=true->∀A i B,l=A++i::B->∃o,ops[i]?=some o /\
   ∀t∈o.looksAt ops,∀j∈all,t∈IC ops j->(j∈Cj clo i/\(j∈done\/j∈A))\/(i∈Cj clo j/\¬(j∈done\/j∈A)/\j≠i)
 | [],_,_,A,i,B,h=>by cases A<;>simp at h
 |k::l,done,h,A,i,B,hl=>by
  simp only[Me,Aj]at h;cases A with
  |nil=>
   simp only[GN,CQ]at hl;obtain⟨rfl,rfl⟩:=hl;have h1:=h.1;cases ho:ops[k]? with
   |none=>simp[ho]at h1
   |some o=>
    simp only[ho]at h1;refine⟨o,rfl,λt ht j hj hd=>?_⟩
    have:=CG.1 (CG.1 h1 t ht) j hj
    rw[DG.2 hd]at this;simp only[gF,Bool.false_or,K4,Aj,DG,EZ,Bool.eq_false_iff,ne_eq,EK]at this;rcases this with h|h
    ·exact .inl ⟨h.1,.inl h.2⟩
    ·exact .inr ⟨h.1.1,by rintro(h'|h');exact h.1.2 h';simp at h',h.2⟩
  |cons k' A=>
   simp only[Ft,CQ]at hl;obtain⟨rfl,rfl⟩:=hl;obtain⟨o,h1,h2⟩:=Ql _ _ h.2 A i B rfl;refine⟨o,h1,λt ht j hj hd=>?_⟩;rcases h2 t ht j hj hd with⟨h3,h4⟩|⟨h3,h4,h5⟩
   ·refine .inl ⟨h3,?_⟩
    rcases h4 with h4|h4
    ·rcases Ae.1 h4 with rfl|h4
     ·exact .inr (by simp)
     ·exact .inl h4
    ·exact .inr (by simp[h4])
   ·refine .inr ⟨h3,λh=>h4 ?_,h5⟩
    rcases h with h|h
    ·exact .inl (by simp[h])
    ·rcases Ae.1 h with rfl|h
     ·exact .inl (by simp)
     ·exact .inr h
theorem Px:∀(rs:List B8),(∀r∈rs,ops[r.i]?=some r.o)->((rs.map (·.i)).flatMap (IC ops)).Nodup->rs.Pairwise λr r'=>∀t,r.o.dst=some t->r'.o.dst≠some t
 | [],_,_=>.nil
 |r::rs,h,hn=>by
  simp only[BP,List.flatMap_cons,DQ]at hn;refine .cons (λr' hr' t ht ht'=>?_) (Px rs (λr hr=>h r (by simp[hr])) hn.2.1);refine hn.2.2 t ?_ t ?_ rfl
  ·unfold IC;rw[h r (by simp)];simp[ht]
  ·refine List.mem_flatMap.2 ⟨r'.i,Bj.2 ⟨r',hr',rfl⟩,?_⟩
   unfold IC;rw[h r' (by simp[hr'])];simp[ht']
theorem Nz {rs:List B8}{pre suf:List Nat}(hp:rs.map (·.i)=pre)(ho:∀r∈rs,ops[r.i]?=some r.o)(hc:E8 ops pre suf=true):Ke ops rs suf:=by
 simp only[E8,Aj]at hc;obtain⟨⟨⟨⟨⟨⟨c1,c2⟩,c3⟩,c4⟩,c5⟩,c6⟩,c7⟩:=hc;have hreach:∀i j,j∈Cj (Em ops (pre++suf) []) i->CU ops i j:=λi j h=>Jw (Js _ _ (by simp)) i j h
 subst hp;refine⟨Nd.1 c1,λi hi=>by simpa using CG.1 c3 i hi,λi hi=>Ig.1 c2 i (List.mem_range.2 hi),λA i B h j hj=>?_,?_,?_,λA i B h j hj=>?_⟩
 ·exact(NZ _ _ c4 A i B h j hj).resolve_left (by simp)
 ·exact Px rs ho (Nd.1 c5)
 ·intro A r B hr t ht r' hr' hd
  obtain⟨o,h1,h2⟩:=Ql _ _ c6 (A.map (·.i)) r.i (B.map (·.i)) (by rw[hr];simp);have e:o=r.o:=by rw[ho r (by rw[hr];simp)]at h1;exact(Hb h1).symm
  subst e;rcases h2 t ht r'.i (Bj.2 ⟨r',hr',rfl⟩) (by unfold IC;rw[ho r' hr'];simp[hd])with⟨h3,h4⟩|⟨h3,h4,h5⟩
  ·refine .inl ⟨?_,hreach _ _ h3⟩
   have h4:=h4.resolve_left (by simp);have hnd:=(DQ.1 (Nd.1 c1)).1;rw[hr]at hnd hr';rcases BL.1 hr' with h5|h5
   ·exact h5
   ·rw[GM,DQ]at hnd
    exact AY rfl (hnd.2.2 r'.i h4 r'.i (Bj.2 ⟨r',h5,rfl⟩))
  ·exact .inr ⟨λhA=>h4 (.inr (Bj.2 ⟨r',hA,rfl⟩)),hreach _ _ h3⟩
 ·refine hreach _ _ (Qu _ _ c7 A i B h j ?_)
  simpa using hj
def Eb (C:AX)(F:AH)(ops:Array Oper)(s:St)(Q:Exit->St->Prop):Prop:=ops.toList.all (B0 F.nt)=true->∀ρ a w,Aq C F ρ s a w ->
 wpAny C.P .any ops (λe a' w'=>∃s' ρ',Q e s'/\Aq C F ρ' s' a' w') ops.size (Array.replicate ops.size false) a w.drew
theorem Eb.ok {i:Nat}{s:St}{Q:Exit->St->Prop}(hm:C.P.follows .mixedOrders=true)(h:Eb C F ops s Q):Ok C F (.region i ops true) s Q:=λhd ρ a w hs=>wp_region_any hm (h hd ρ a w hs)
theorem fZ {s:St}{Q:Exit->St->Prop}{pre suf:List Nat}{envF:AZ}{N:Hp}(hc:E8 ops pre suf=true)
  (hpre:EO C F ops s.H s.n pre s.env [] envF N)
  (h:AM C F ops (suf.map λj=>ops.getD j default) ⟨envF,N++s.H,s.n+ops.size⟩ (Q .normal)):Eb C F ops s Q:=by
 intro hd ρ a w hs;obtain⟨rs,h1,h2,h3,h4⟩:=hpre.recs;have hor:∀r∈rs,ops[r.i]?=some r.o:=λr hr=>by
  obtain⟨A,B,hAB⟩:=D2 hr;exact(h4 A r B hAB).1
 have ho:=Nz h1 hor hc;have hds:∀r∈rs,B0 F.nt r.o=true:=λr hr=>by
  refine CG.1 hd r.o ?_
  have:=hor r hr
  exact DP.2 (Es this)
 have hrep:∀j,(Array.replicate ops.size false).getD j false=false:=λj=>by
  rw[AS];rw[HZ];split<;>rfl
 have hnL:∀j,¬Ls (Array.replicate ops.size false) j:=λj hj=>by unfold Ls at hj;rw[hrep]at hj;cases hj
 have hin:DI C F s.H s.n s.env rs (Array.replicate ops.size false) a w.drew ρ s.H:=by
  refine⟨hs.mem.drew,?_,λr _ hl=>AY hl (hnL _),λt _=>(hs.env t).mono (.drew _ _ _),λk g hg hk=>AY (hs.fresh k g hg) hk,hs.nt,hs.dfr⟩
  have:rs.filterMap (λr=>if(Array.replicate ops.size false).getD r.i false then r.ne else none)=[]:=by
   rw[PG];intro r _;rw[hrep];rfl
  rw[this];exact List.Perm.refl _
 refine UQ ho hs.gen hds h4 ?_ ops.size _ a w.drew ρ s.H (by simp) ?_ ?_ (λj _=>hnL j) hin
 ·intro L a' w' ρ' He hL hall hi
  have hN:He.Perm (N++s.H):=by
   refine hi.perm.trans (List.Perm.append_right _ ?_);have e:rs.filterMap (λr=>if L.getD r.i false then r.ne else none)=rs.filterMap (·.ne):=Ii λr hr=>by
    have:=hall r hr;unfold Ls at this;rw[this];rfl
   rw[e,h3]
   have:=Hl rs []
   rw[Ds]at this;exact this.symm
  refine P8 _ _ _ (h ?_ suf ?_ ρ' a' w' ⟨hi.mem.perm hN,?_,?_,λt=>?_,hi.nt,hi.dfr⟩)
  ·rw[CG]
   intro o' ho';obtain⟨j,hj,rfl⟩:=Bj.1 ho';have hlt:=ho.lt j (by simp[hj]);refine CG.1 hd _ ?_;rw[AS,A9 hlt];simp
  ·rw[List.map_map]
   refine JZ λj hj=>?_
   have hlt:=ho.lt j (by simp[hj]);simp[AS,A9 hlt]
  ·intro k g hg
   apply Db;intro hk;obtain⟨r,hr,_,he⟩:=hi.fresh k g (by simp at hg;omega) hk
   have:=ho.lt r.i (by simp;exact .inl ⟨r,hr,rfl⟩)
   simp at hg;omega
  ·intro e he
   rcases BL.1 he with he|he
   ·rw[h3]at he
    have he:=(Hl rs []).mem_iff.1 he;rw[Ds]at he;obtain⟨r,hr,hre⟩:=List.mem_filterMap.1 he;obtain⟨A,B,hAB⟩:=D2 hr
    have:=(h4 A r B hAB).2.1 e hre
    have:=ho.lt r.i (by simp;exact .inl ⟨r,hr,rfl⟩)
    show e.g<s.n+ops.size;omega
   ·have:=hs.gen e he
    show e.g<s.n+ops.size;omega
  ·show AF ρ' (AE F.X ρ' (N++s.H)) w' (envF.get t) _
   rw[<-AE.perm hN,h2]
   by_cases hw:∃r∈rs,r.o.dst=some t
   ·obtain⟨r,hr,hrd⟩:=hw
    rw[KG rs s.env t ho.dst r hr hrd];exact hi.reps r hr (hall r hr) t hrd
   ·rw[Hj rs s.env t λr hr hrd=>hw ⟨r,hr,hrd⟩]
    exact hi.old t λr hr _ hrd=>hw ⟨r,hr,hrd⟩
 ·refine Ax (List.length_filter_le _ _) ?_
  have hsub:∀(l:List Nat) (n:Nat),l.Nodup->(∀x∈l,x<n)->l.length<=n:=by
   intro l n
   induction n generalizing l with
   |zero=>intro _ h;cases l with
    |nil=>simp
    |cons x l=>exact AY (h x (by simp)) (by omega)
   |succ n ihn=>
    intro hnd hlt;have h1:=ihn (l.erase n) (hnd.erase n) λx hx=>by
     have:=hlt x (List.mem_of_mem_erase hx)
     have:x≠n:=λh=>by subst h;exact(PD hnd) hx
     omega
    have:=List.length_erase (a:=n) (l:=l)
    split at this<;>omega
  exact hsub _ _ ho.nodup ho.lt
 ·intro k hk
  have:k<ops.size\/¬k<ops.size:=by omega
  rcases this with hlt|hlt
  ·rw[AS,HZ,AQ hlt]at hk;cases hk
  ·intro h;exact AY h hlt
end
def look:List (Nat×AJ)->Nat->Option AJ
 | [],_=>none
 |(k,i)::r,t=>match Nat.beq k t with
  |true=>some i
  |false=>look r t
end Go.Ide
