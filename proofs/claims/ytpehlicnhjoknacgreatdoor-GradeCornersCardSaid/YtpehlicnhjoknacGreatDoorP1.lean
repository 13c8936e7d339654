/- The layer of own lemmas and contracts, part 1. -/
import Derived.WalkKit
set_option linter.unusedVariables false
set_option linter.unusedSimpArgs false
namespace Go.Ide
open Go.RowKit
abbrev d9o:=@Array.getD_eq_getD_getElem?
abbrev d9p:=@decide_eq_false
abbrev d9q:=@decide_eq_true
abbrev d9r:=@List.mem_of_getElem?
abbrev d9s:=@List.length_map
abbrev d9t:=@List.getElem?_eq_getElem
abbrev d9u:=@List.length_cons
abbrev d9v:=@Nat.eq_of_beq_eq_true
abbrev d9w:=@Bool.not_eq_true'
abbrev d9x:=@Bool.not_eq_false'
abbrev d9y:=@Nat.le_refl
abbrev d9z:=@Option.some.injEq
abbrev d9A:=@Nat.le_of_ble_eq_true
abbrev d9B:=@Bool.and_eq_true
abbrev d9C:=@Array.getElem?_eq_getElem
abbrev d9D:=@beq_eq_false_iff_ne
abbrev d9E:=@List.getElem?_map
abbrev d9F:=@List.mem_cons
abbrev d9G:=@List.take_of_length_le
abbrev d9H:=@Nat.lt_or_ge
abbrev d9I:=@of_decide_eq_false
abbrev d9J:=@List.length_take
abbrev d9K:=@Nat.mul_le_mul_right
abbrev d9L:=@Classical.byContradiction
abbrev d9M:=@Nat.mul_add
abbrev d9N:=@of_decide_eq_true
abbrev d9O:=@Nat.mul_comm
abbrev d9P:=@implies_true
abbrev d9Q:=@Prod.mk.injEq
abbrev d9R:=@List.length_nil
abbrev d9S:=@Nat.zero_add
abbrev d9T:=@List.getD_eq_getElem?_getD
abbrev d9U:=@Nat.zero_le
abbrev d9V:=@Nat.le_trans
abbrev d9W:=@List.all_eq_true
abbrev d9X:=@Nat.mul_le_mul_left
abbrev d9Y:=@Nat.mul_assoc
abbrev d9Z:=@List.length_append
abbrev e0a:=@Nat.lt_of_lt_of_le
abbrev e0b:=@List.getElem?_append_right
abbrev e0c:=@List.getElem?_eq_none
abbrev e0d:=@List.eq_nil_of_length_eq_zero
abbrev e0e:=@Nat.add_mul
abbrev e0f:=@Nat.lt_of_le_of_lt
abbrev e0g:=@List.getElem?_append_left
abbrev e0h:=@Nat.pow_succ
abbrev e0i:=@List.length_set
abbrev e0j:=@List.not_mem_nil
abbrev e0k:=@Nat.mod_lt
abbrev e0l:=@decide_eq_true_eq
abbrev e0m:=@Nat.eq_zero_or_pos
abbrev e0n:=@List.drop_eq_getElem_cons
abbrev e0o:=@Bool.not_false
abbrev e0p:=@List.nil_append
abbrev e0q:=@Array.getElem?_setIfInBounds
abbrev e0r:=@Nat.pos_of_ne_zero
abbrev e0s:=@Bool.not_true
abbrev e0t:=@List.mem_cons_of_mem
abbrev e0u:=@Nat.mod_eq_of_lt
abbrev e0v:=@List.append_of_mem
abbrev e0w:=@Nat.pow_le_pow_right
abbrev e0x:=@List.length_drop
abbrev e0y:=@Array.getElem?_append_right
abbrev e0z:=@List.nodup_append
abbrev e0A:=@not_false_eq_true
abbrev e0B:=@Int.natAbs_natCast
abbrev e0C:=@decide_eq_decide
abbrev e0D:=@List.append_nil
abbrev e0E:=@Nat.div_lt_of_lt_mul
abbrev e0F:=@Array.getElem?_append_left
abbrev e0G:=@Nat.lt_succ_of_lt
abbrev e0H:=@List.take_append_drop
abbrev e0I:=@List.map_cons
abbrev e0J:=@List.append_assoc
abbrev e0K:=@List.getElem?_take
abbrev e0L:=@Nat.not_lt_zero
abbrev e0M:=@List.cons_append
abbrev e0N:=@List.getElem?_set_ne
abbrev e0O:=@Int.natCast_mul
abbrev e0P:=@List.cons.injEq
abbrev e0Q:=@List.map_append
abbrev e0R:=@List.drop_of_length_le
abbrev e0S:=@List.take_length
abbrev e0T:=@List.mem_cons_self
abbrev e0U:=@List.pairwise_cons
abbrev e0V:=@Nat.mod_add_div
abbrev e0W:=@Nat.add_zero
abbrev e0X:=@Nat.div_add_mod
abbrev e0Y:=@List.getElem?_range
abbrev e0Z:=@List.take_add_one
abbrev e1a:=@List.length_singleton
abbrev e1b:=@Bool.true_and
abbrev e1c:=@List.drop_zero
abbrev e1d:=@Nat.add_assoc
abbrev e1e:=@Nat.div_le_self
abbrev e1f:=@List.all_cons
abbrev e1g:=@Nat.mul_zero
abbrev e1h:=@List.mem_append_left
abbrev e1i:=@beq_iff_eq
abbrev e1j:=@Bool.eq_iff_iff
abbrev e1k:=@Bool.false_eq_true
abbrev e1l:=@List.getElem?_cons_succ
abbrev e1m:=@List.getElem?_drop
abbrev e1n:=@Nat.min_eq_left
abbrev e1o:=@Bool.false_and
abbrev e1p:=@Nat.mul_le_mul
abbrev e1q:=@List.pairwise_append
abbrev e1r:=@Array.getElem?_replicate
abbrev e1s:=@Nat.two_pow_pos
abbrev e1t:=@Array.getElem?_toList
abbrev e1u:=@Array.mem_of_getElem?
abbrev e1v:=@List.getElem?_toArray
abbrev e1w:=@Array.length_toList
abbrev e1x:=@List.getElem_of_mem
abbrev e1y:=@Nat.add_sub_cancel_left
abbrev e1z:=@Nat.mul_one
abbrev e1A:=@Nat.div_eq_of_lt
abbrev e1B:=@Nat.mul_left_comm
abbrev e1C:=@Bool.or_eq_false_iff
abbrev e1D:=@Nat.gcd_pos_of_pos_right
abbrev e1E:=@List.length_replicate
abbrev e1F:=@Nat.div_lt_self
abbrev e1G:=@Nat.lt_trans
abbrev e1H:=@decide_eq_false_iff_not
abbrev e1I:=@List.mem_of_mem_drop
abbrev e1J:=@List.map_replicate
abbrev e1K:=@Option.some.inj
abbrev e1L:=@Nat.lt_succ_self
abbrev e1M:=@List.map_congr_left
abbrev e1N:=@List.concat_eq_append
abbrev e1O:=@List.eq_nil_or_concat
abbrev e1P:=@Nat.add_sub_cancel
abbrev e1Q:=@Nat.pow_add
abbrev e1R:=@List.mem_of_mem_take
abbrev e1S:=@List.perm_middle
abbrev e1T:=@List.getElem?_set_self
abbrev e1U:=@Array.getElem?_push
abbrev e1V:=@Array.size_append
abbrev e1W:=@Int.toNat_natCast
abbrev e1X:=@List.filterMap_cons
abbrev e1Y:=@List.length_range
abbrev e1Z:=@Int.natAbs_mul
abbrev e2a:=@Nat.zero_mul
abbrev e2b:=@Array.append_assoc
abbrev e2c:=@List.eq_of_mem_replicate
abbrev e2d:=@Bool.or_eq_true
abbrev e2e:=@List.dropWhile_cons
abbrev e2f:=@List.drop_succ_cons
abbrev e2g:=@Nat.mul_lt_mul_of_pos_right
abbrev e2h:=@Nat.mul_pos
abbrev e2i:=@Array.getElem?_eq_none
abbrev e2j:=@List.sublist_cons_self
abbrev e2k:=@Int.mul_nonneg_of_nonpos_of_nonpos
abbrev e2l:=@Int.mul_nonpos_of_nonneg_of_nonpos
abbrev e2m:=@Int.mul_nonpos_of_nonpos_of_nonneg
abbrev e2n:=@List.drop_length
abbrev e2o:=@Option.getD_some
abbrev e2p:=@Nat.beq_refl
abbrev e2q:=@Nat.mul_div_mul_right
abbrev e2r:=@Nat.mul_mod_mul_right
abbrev e2s:=@List.filterMap_eq_nil_iff
abbrev e2t:=@List.mem_or_eq_of_mem_set
abbrev e2u:=@Nat.add_mul_mod_self_left
abbrev e2v:=@List.Nodup.not_mem_erase
abbrev e2w:=@List.ext_getElem?
abbrev e2x:=@List.size_toArray
abbrev e2y:=@Nat.le_of_lt_succ
abbrev e2z:=@Option.map_some
abbrev e2A:=@List.Sublist.append
abbrev e2B:=@List.getElem?_cons_zero
abbrev e2C:=@List.map_take
abbrev e2D:=@List.takeWhile_cons
abbrev e2E:=@Nat.one_mul
abbrev e2F:=@Nat.pow_le_pow_left
abbrev e2G:=@Int.natAbs_neg
abbrev e2H:=@List.take_zero
abbrev e2I:=@List.all_append
abbrev e2J:=@List.set_append_right
abbrev e2K:=@Nat.add_comm
abbrev e2L:=@Nat.gcd_comm
abbrev e2M:=@Nat.le_of_lt
abbrev e2N:=@List.Sublist.refl
abbrev e2O:=@Array.size_replicate
abbrev e2P:=@Array.toArray_toList
abbrev e2Q:=@Int.ofNat_eq_natCast
abbrev e2R:=@Nat.add_mul_div_left
abbrev e2S:=@Nat.gcd_le_right
abbrev e2T:=@List.toList_toArray
abbrev e2U:=@Array.size_setIfInBounds
abbrev e2V:=@Nat.pow_zero
abbrev d9j:=trivial
abbrev d9k:=@inferInstance
abbrev d9l:=@if_pos
abbrev d9m:=@if_neg
abbrev d9n:=@absurd
inductive D where
 | any
 | prim (v:Value)
 | agg (ds:List D)
 | tup (ds:List D)
 | sl (nn:Bool) (sz:Nat) (es:List D)
 | pptr (d:D)
 | osl (k g sz i len:Nat)
 | optr (k g sz i off:Nat)
 | clo (fn:Fn) (first captured:List D)
 | gd (t:Bool) (d:D)
 | mp (ks vs:List D)
 | ifc (t:Nat) (d:D)
 deriving Inhabited
def one:Value->Bool
 | .agg _ | .tuple _=>false
 | _=>true
def D.cells:D->List D
 | .agg ds=>ds
 | d=>[d]
structure Ent where
 k:Nat
 g:Nat
 T:Nat
 sz:Nat
 es:List D
abbrev Hp:=List Ent
abbrev Lk:=Nat->Nat->Option Nat
inductive Rep (ρ:Lk)(O:Nat->Prop)(w:World):D->Value->Prop
 | any (v:Value):Rep ρ O w .any v
 | prim (v:Value):Rep ρ O w (.prim v) v
 | agg {ds:List D} {vs:Array Value} (hn:vs.size=ds.length) (ho:∀ (i:Nat) (v:Value),vs[i]? = some v->one v=true)
   (h:∀ (i:Nat) (d:D),ds[i]? = some d->Rep ρ O w d (vs.getD i undef)):Rep ρ O w (.agg ds) (.agg vs)
 | tup {ds:List D} {vs:Array Value} (hn:vs.size=ds.length)
   (h:∀ (i:Nat) (d:D),ds[i]? = some d->Rep ρ O w d (vs.getD i undef)):Rep ρ O w (.tup ds) (.tuple vs)
 | nil (sz:Nat):Rep ρ O w (.sl false sz []) (.slice none 0 0)
 | onil (k g sz:Nat):Rep ρ O w (.osl k g sz 0 0) (.slice none 0 0)
 | emp {nn:Bool} {sz:Nat} (a:Addr):Rep ρ O w (.sl nn sz []) (.slice (some a) 0 0)
 | mp {ks vs:List D} {r clock:Nat} {es:Array MapEntry} (hO:¬ O r) (hr:r<w.heap.size) (hb:w.heap[r]? = some (.map es clock)) (h1:es.size=ks.length) (h2:es.size=vs.length)
   (hk:∀ (i:Nat) (d:D),ks[i]? = some d->Rep ρ O w d (es.getD i default).key)
   (hv:∀ (i:Nat) (d:D),vs[i]? = some d->Rep ρ O w d (es.getD i default).val):Rep ρ O w (.mp ks vs) (.map (some r))
 | sl {nn:Bool} {sz:Nat} {es:List D} {b off len cap:Nat} (f:Nat->Value) (hl:es.length=len) (hc:len<=cap) (hO:¬ O b) (hb:b<w.heap.size)
   (hz:∀ (i:Nat) (e:D),es[i]? = some e->e.cells.length=sz)
   (hcell:∀ n,n<len*sz->w.cell? ⟨b,off+n,none⟩=some (f n))
   (ho:∀ n,n<len*sz->one (f n)=true)
   (h:∀ (i:Nat) (e:D) (j:Nat) (d:D),es[i]? = some e->e.cells[j]? = some d->Rep ρ O w d (f (i*sz+j))) :
   Rep ρ O w (.sl nn sz es) (.slice (some ⟨b,off,none⟩) len cap)
 | pptr {e:D} {b off:Nat} (f:Nat->Value) (hO:¬ O b) (hb:b<w.heap.size)
   (hcell:∀ n,n<e.cells.length->w.cell? ⟨b,off+n,none⟩=some (f n))
   (ho:∀ n,n<e.cells.length->one (f n)=true)
   (h:∀ (j:Nat) (d:D),e.cells[j]? = some d->Rep ρ O w d (f j)):Rep ρ O w (.pptr e) (.pointer (some ⟨b,off,none⟩))
 | osl {k g sz i len cap b T:Nat} {cs:Array Value} {fz:Nat × Nat} (hr:ρ k g=some b) (hb:w.heap[b]? = some (.cells cs T fz)) (hc:len<=cap)
   (hs:(i+cap)*sz=cs.size) (hm:i+cap<=maxLen):Rep ρ O w (.osl k g sz i len) (.slice (some ⟨b,i*sz,none⟩) len cap)
 | optr {k g sz i off b:Nat} (hr:ρ k g=some b):Rep ρ O w (.optr k g sz i off) (.pointer (some ⟨b,i*sz+off,none⟩))
 | clo {fn:Fn} {first captured:List D} {fs cs:Array Value} (hf:fs.size=first.length) (hc:cs.size=captured.length)
   (h1:∀ (i:Nat) (d:D),first[i]? = some d->Rep ρ O w d (fs.getD i undef))
   (h2:∀ (i:Nat) (d:D),captured[i]? = some d->Rep ρ O w d (cs.getD i undef)):Rep ρ O w (.clo fn first captured) (.func fn fs cs)
 | gd {t:Bool} {d:D} {v:Value} (h1:t=true->Rep ρ O w d v) (h2:t=false->v=undef):Rep ρ O w (.gd t d) v
 | ifc {t:Nat} {d:D} {v:Value} (h:Rep ρ O w d v):Rep ρ O w (.ifc t d) (.iface t v)
structure Ext (ρ:Lk)(O:Nat->Prop)(w:World)(ρ':Lk)(O':Nat->Prop)(w':World):Prop where
 size:w.heap.size<=w'.heap.size
 link:∀ k g b,ρ k g=some b->ρ' k g=some b
 pure:∀ b,b<w.heap.size->¬ O b->¬ O' b/\w'.heap[b]? = w.heap[b]?
 shape:∀ (b:Nat) (cs:Array Value) (T:Nat) (fz:Nat × Nat),w.heap[b]? = some (.cells cs T fz) ->
  ∃ (cs':Array Value) (fz':Nat × Nat),w'.heap[b]? = some (.cells cs' T fz')/\cs'.size=cs.size
theorem Rep.mono {ρ ρ':Lk}{O O':Nat->Prop}{w w':World}{d:D}{v:Value}(h:Rep ρ O w d v)(x:Ext ρ O w ρ' O' w'):Rep ρ' O' w' d v:=by
 induction h with
 | any v=>exact .any v
 | prim v=>exact .prim v
 | agg hn ho _ ih=>exact .agg hn ho ih
 | tup hn _ ih=>exact .tup hn ih
 | nil sz=>exact .nil sz
 | onil k g sz=>exact .onil k g sz
 | emp a=>exact .emp a
 | mp hO hr hb h1 h2 _ _ ih1 ih2 =>
  obtain ⟨a1,a2⟩:=x.pure _ hr hO;exact .mp a1 (e0a hr x.size) (a2.trans hb) h1 h2 ih1 ih2
 | sl f hl hc hO hb hz hcell ho _ ih =>
  obtain ⟨h1,h2⟩:=x.pure _ hb hO;refine .sl f hl hc h1 (e0a hb x.size) hz (fun n hn=>?_) ho ih
  have:=hcell n hn
  unfold World.cell? at *;simp only [h2];exact this
 | pptr f hO hb hcell ho _ ih =>
  obtain ⟨h1,h2⟩:=x.pure _ hb hO;refine .pptr f h1 (e0a hb x.size) (fun n hn=>?_) ho ih
  have:=hcell n hn
  unfold World.cell? at *;simp only [h2];exact this
 | osl hr hb hc hs hm =>
  obtain ⟨cs',fz',h1,h2⟩:=x.shape _ _ _ _ hb;exact .osl (x.link _ _ _ hr) h1 hc (by omega) hm
 | optr hr=>exact .optr (x.link _ _ _ hr)
 | clo hf hc _ _ ih1 ih2=>exact .clo hf hc ih1 ih2
 | gd _ h2 ih=>exact .gd ih h2
 | ifc _ ih=>exact .ifc ih
theorem Rep.anti {ρ:Lk}{O O':Nat->Prop}{w:World}{d:D}{v:Value}(h:Rep ρ O w d v)(x:∀ b,O' b->O b):Rep ρ O' w d v:=by
 induction h with
 | any v=>exact .any v
 | prim v=>exact .prim v
 | agg hn ho _ ih=>exact .agg hn ho ih
 | tup hn _ ih=>exact .tup hn ih
 | nil sz=>exact .nil sz
 | onil k g sz=>exact .onil k g sz
 | emp a=>exact .emp a
 | mp hO hr hb h1 h2 _ _ ih1 ih2=>exact .mp (fun h=>hO (x _ h)) hr hb h1 h2 ih1 ih2
 | sl f hl hc hO hb hz hcell ho _ ih=>exact .sl f hl hc (fun h=>hO (x _ h)) hb hz hcell ho ih
 | pptr f hO hb hcell ho _ ih=>exact .pptr f (fun h=>hO (x _ h)) hb hcell ho ih
 | osl hr hb hc hs hm=>exact .osl hr hb hc hs hm
 | optr hr=>exact .optr hr
 | clo hf hc _ _ ih1 ih2=>exact .clo hf hc ih1 ih2
 | gd _ h2 ih=>exact .gd ih h2
 | ifc _ ih=>exact .ifc ih
def a2n (d:D):Prop:=∀ (ρ ρ':Lk) (O:Nat->Prop) (w:World) (v:Value),Rep ρ O w d v->Rep ρ' O w d v
theorem a2n.any:a2n .any:=fun _ _ _ _ v _=>.any v
theorem a2n.prim (v:Value):a2n (.prim v):=fun _ _ _ _ _ h=>by cases h;exact .prim v
theorem a2n.agg {ds:List D}(h:∀ d∈ds,a2n d):a2n (.agg ds):=fun _ _ _ _ _ hr=>by
 cases hr with|agg hn ho hh=>exact .agg hn ho fun i d hd=>h d (d9r hd) _ _ _ _ _ (hh i d hd)
theorem a2n.tup {ds:List D}(h:∀ d∈ds,a2n d):a2n (.tup ds):=fun _ _ _ _ _ hr=>by
 cases hr with|tup hn hh=>exact .tup hn fun i d hd=>h d (d9r hd) _ _ _ _ _ (hh i d hd)
theorem a2n.sl {nn:Bool}{sz:Nat}{es:List D}(h:∀ e∈es,∀ d∈e.cells,a2n d):a2n (.sl nn sz es):=fun _ _ _ _ _ hr=>by
 cases hr with
 | nil=>exact .nil _
 | emp a=>exact .emp a
 | sl f hl hc hO hb hz hcell ho hh =>
  exact .sl f hl hc hO hb hz hcell ho fun i e j d he hd=>h e (d9r he) d (d9r hd) _ _ _ _ _ (hh i e j d he hd)
theorem a2n.pptr {e:D}(h:∀ d∈e.cells,a2n d):a2n (.pptr e):=fun _ _ _ _ _ hr=>by
 cases hr with
 | pptr f hO hb hcell ho hh=>exact .pptr f hO hb hcell ho fun j d hd=>h d (d9r hd) _ _ _ _ _ (hh j d hd)
theorem a2n.clo {fn:Fn}{first captured:List D}(h1:∀ d∈first,a2n d)(h2:∀ d∈captured,a2n d):a2n (.clo fn first captured):=fun _ _ _ _ _ hr=>by
 cases hr with
 | clo hf hc a1 a2=>exact .clo hf hc (fun i d hd=>h1 d (d9r hd) _ _ _ _ _ (a1 i d hd)) (fun i d hd=>h2 d (d9r hd) _ _ _ _ _ (a2 i d hd))
theorem a2n.ifc {t:Nat}{d:D}(h:a2n d):a2n (.ifc t d):=fun _ _ _ _ _ hr=>by
 cases hr with|ifc a=>exact .ifc (h _ _ _ _ _ a)
theorem a2n.mp {ks vs:List D}(h1:∀ d∈ks,a2n d)(h2:∀ d∈vs,a2n d):a2n (.mp ks vs):=fun _ _ _ _ _ hr=>by
 cases hr with
 | mp hO hr hb a1 a2 hk hv=>exact .mp hO hr hb a1 a2 (fun i d hd=>h1 d (d9r hd) _ _ _ _ _ (hk i d hd)) (fun i d hd=>h2 d (d9r hd) _ _ _ _ _ (hv i d hd))
theorem b8o {v:Value}(h:one v=true):v.cells = #[v]:=by
 cases v<;>first|rfl|simp [one] at h
def ofV:Value->D
 | .agg vs=>.agg (vs.toList.map .prim)
 | v=>.prim v
theorem Rep.ofV {ρ:Lk}{O:Nat->Prop}{w:World}{v:Value}(h:∀ (i:Nat) (x:Value),v.cells[i]? = some x->one x=true\/¬ ∃ vs,v=.agg vs):Rep ρ O w (ofV v) v:=by
 cases v
 case agg vs =>
  refine .agg (by simp) (fun i x hx=>(h i x hx).resolve_right (by simp)) fun i d hd=>?_
  simp at hd;obtain ⟨x,hx,rfl⟩:=hd;simp [hx];exact .prim x
 all_goals exact .prim _
def b3G:Nat->List D->List D
 | 0,_=>[]
 | n+1,d::l=>d::b3G n l
 | _,[]=>[]
def b1p:Nat->List D->List D
 | 0,l=>l
 | n+1,_::l=>b1p n l
 | _,[]=>[]
def a5D (ag:Bool)(sz off:Nat)(cs:List D):Option D :=
 match ag with
 | true=>some (.agg (b3G sz (b1p off cs)))
 | false=>match b1p off cs with
  | d::_=>some d
  | []=>none
theorem c3A (n:Nat)(l:List D):b3G n l=l.take n:=by
 induction n generalizing l with
 | zero=>cases l<;>rfl
 | succ n ih=>cases l<;>simp [b3G,ih]
theorem b5v (n:Nat)(l:List D):b1p n l=l.drop n:=by
 induction n generalizing l with
 | zero=>cases l<;>rfl
 | succ n ih=>cases l<;>simp [b1p,ih]
def b1P:List D->Nat->List D->List D
 | l,_,[]=>l
 | [],_,_=>[]
 | _::l,0,c::cs=>c::b1P l 0 cs
 | x::l,n+1,c::cs=>x::b1P l n (c::cs)
def a7R:List D->Nat->D->List D
 | [],_,_=>[]
 | _::l,0,d=>d::l
 | x::l,n+1,d=>x::a7R l n d
theorem a6H (l:List D)(i:Nat)(d:D):a7R l i d=l.set i d:=by
 induction l generalizing i with
 | nil=>simp [a7R]
 | cons x l ih=>cases i<;>simp [a7R,ih]
theorem a9w (l:List D)(off:Nat)(cs:List D):(b1P l off cs).length=l.length:=by
 fun_induction b1P l off cs<;>simp_all
theorem b6l (l:List D)(off:Nat)(cs:List D)(j:Nat) :
  (b1P l off cs)[j]? = if j<l.length/\off<=j/\j<off+cs.length then cs[j - off]? else l[j]?:=by
 fun_induction b1P l off cs generalizing j with
 | case1 l off=>simp;omega
 | case2 off cs h=>simp
 | case3 x l c cs ih =>
  cases j with
  | zero=>simp
  | succ j =>
   simp only [e1l,ih,d9u]
   by_cases h:j<l.length/\j<cs.length
   ·rw [d9l (by omega),d9l (by omega)];simp
   ·rw [d9m (by omega),d9m (by omega)]
 | case4 x l n c cs ih =>
  cases j with
  | zero=>simp
  | succ j =>
   simp only [e1l,ih,d9u]
   by_cases h:j<l.length/\n<=j/\j<n+(cs.length+1)
   ·rw [d9l (by omega),d9l (by omega)]
    congr 1;omega
   ·rw [d9m (by omega),d9m (by omega)]
structure Ctx where
 P:Program
 G:World->Prop
 nG:Nat
 hG:∀ w w',G w->Below nG w w'->G w'
structure Fra where
 w0:World
 X:Nat->Prop
 Wr:Nat->Prop
 nt:Nat
 r0:Lk
 df:List Deferred
def Own (X:Nat->Prop)(ρ:Lk)(H:Hp)(b:Nat):Prop:=X b\/∃ e∈H,ρ e.k e.g=some b
structure a2C (ρ:Lk)(O:Nat->Prop)(w:World)(e:Ent)(cs:Array Value):Prop where
 len:e.es.length*e.sz<=cs.size
 siz:∀ (i:Nat) (d:D),e.es[i]? = some d->d.cells.length=e.sz
 one:∀ (i:Nat) (v:Value),cs[i]? = some v->one v=true
 rep:∀ (i:Nat) (d:D) (j:Nat) (c:D),e.es[i]? = some d->d.cells[j]? = some c->Rep ρ O w c (cs.getD (i*e.sz+j) undef)
structure HOK (F:Fra)(ρ:Lk)(H:Hp)(w:World):Prop where
 ent:∀ e∈H,(e.es=[]/\ρ e.k e.g=none)\/∃ b cs,ρ e.k e.g=some b/\w.heap[b]? = some (.cells cs e.T (0,0))/\a2C ρ (Own F.X ρ H) w e cs
 inj:H.Pairwise fun e e'=>∀ b b',ρ e.k e.g=some b->ρ e'.k e'.g=some b'->b≠b'
 own:∀ e∈H,∀ b,ρ e.k e.g=some b->¬ F.X b/\(F.w0.heap.size<=b\/F.Wr b)
structure Mem (C:Ctx)(F:Fra)(ρ:Lk)(H:Hp)(w:World):Prop where
 hok:HOK F ρ H w
 os:w.os=F.w0.os
 tape:w.tape=F.w0.tape
 output:w.output=F.w0.output
 size:F.w0.heap.size<=w.heap.size
 blk:∀ b,b<F.w0.heap.size->¬ F.Wr b->w.heap[b]? = F.w0.heap[b]?
 xlt:∀ b,F.X b->b<F.w0.heap.size
 g0:C.G F.w0
 gn:C.nG<=F.w0.heap.size
 gw:∀ b,F.Wr b->C.nG<=b
 lnk:∀ k g b,F.r0 k g=some b->ρ k g=some b
 shp:∀ (b:Nat) (cs:Array Value) (T:Nat) (fz:Nat × Nat),F.w0.heap[b]? = some (.cells cs T fz)->∃ (cs':Array Value) (fz':Nat × Nat),w.heap[b]? = some (.cells cs' T fz')/\cs'.size=cs.size
theorem Mem.below {C:Ctx}{F:Fra}{ρ:Lk}{H:Hp}{w:World}(m:Mem C F ρ H w):Below C.nG F.w0 w :=
 ⟨m.os,m.tape,m.output,m.size,fun b hb=>m.blk b (e0a hb m.gn) fun h=>d9n (m.gw b h) (by omega)⟩
theorem Mem.g {C:Ctx}{F:Fra}{ρ:Lk}{H:Hp}{w:World}(m:Mem C F ρ H w):C.G w:=C.hG _ _ m.g0 m.below
theorem a2C.mono {ρ ρ':Lk}{O O':Nat->Prop}{w w':World}{e:Ent}{cs:Array Value}(h:a2C ρ O w e cs)(x:Ext ρ O w ρ' O' w'):a2C ρ' O' w' e cs :=
 ⟨h.len,h.siz,h.one,fun i d j c hi hj=>(h.rep i d j c hi hj).mono x⟩
theorem a2C.anti {ρ:Lk}{O O':Nat->Prop}{w:World}{e:Ent}{cs:Array Value}(h:a2C ρ O w e cs)(x:∀ b,O' b->O b):a2C ρ O' w e cs :=
 ⟨h.len,h.siz,h.one,fun i d j c hi hj=>(h.rep i d j c hi hj).anti x⟩
theorem Ext.refl (ρ:Lk)(O:Nat->Prop)(w:World):Ext ρ O w ρ O w:=⟨d9y _,fun _ _ _ h=>h,fun _ _ h=>⟨h,rfl⟩,fun _ cs _ _ h=>⟨cs,_,h,rfl⟩⟩
theorem Ext.trans {ρ ρ' ρ'':Lk}{O O' O'':Nat->Prop}{w w' w'':World}(h:Ext ρ O w ρ' O' w')(k:Ext ρ' O' w' ρ'' O'' w''):Ext ρ O w ρ'' O'' w'' :=
 ⟨d9V h.size k.size,fun _ _ _ x=>k.link _ _ _ (h.link _ _ _ x),
  fun b hb hO=>⟨(k.pure b (e0a hb h.size) (h.pure b hb hO).1).1,((k.pure b (e0a hb h.size) (h.pure b hb hO).1).2).trans (h.pure b hb hO).2⟩,
  fun b cs T fz x=>by
   obtain ⟨c1,f1,h1,h2⟩:=h.shape b cs T fz x;obtain ⟨c2,f2,h3,h4⟩:=k.shape b c1 T f1 h1;exact ⟨c2,f2,h3,h4.trans h2⟩⟩
def Lk.put (ρ:Lk)(k g b:Nat):Lk:=fun k' g'=>if k'=k/\g'=g then some b else ρ k' g'
theorem d8s (ρ:Lk)(k g b:Nat):ρ.put k g b k g=some b:=by simp [Lk.put]
theorem d8r {ρ:Lk}{k g b:Nat}(h:ρ k g=none){k' g' b':Nat}(h':ρ k' g'=some b'):ρ.put k g b k' g'=some b':=by
 unfold Lk.put;split
 ·rename_i hh;obtain ⟨rfl,rfl⟩:=hh;rw [h] at h';cases h'
 ·exact h'
theorem a3W {F:Fra}{ρ ρ':Lk}{O O':Nat->Prop}{w w':World}
  (h:∀ (b:Nat) (cs:Array Value) (T:Nat) (fz:Nat × Nat),F.w0.heap[b]? = some (.cells cs T fz)->∃ (cs':Array Value) (fz':Nat × Nat),w.heap[b]? = some (.cells cs' T fz')/\cs'.size=cs.size) (x:Ext ρ O w ρ' O' w') :
  ∀ (b:Nat) (cs:Array Value) (T:Nat) (fz:Nat × Nat),F.w0.heap[b]? = some (.cells cs T fz)->∃ (cs':Array Value) (fz':Nat × Nat),w'.heap[b]? = some (.cells cs' T fz')/\cs'.size=cs.size:=fun b cs T fz hb=>by
 obtain ⟨c1,f1,h1,h2⟩:=h b cs T fz hb;obtain ⟨c2,f2,h3,h4⟩:=x.shape b c1 T f1 h1;exact ⟨c2,f2,h3,h4.trans h2⟩
section mem
variable {C:Ctx} {F:Fra} {ρ:Lk} {H:Hp} {w:World}
theorem Mem.at (m:Mem C F ρ H w){e:Ent}(he:e∈H){b:Nat}(hb:ρ e.k e.g=some b) :
  ∃ cs,w.heap[b]? = some (.cells cs e.T (0,0))/\a2C ρ (Own F.X ρ H) w e cs:=by
 rcases m.hok.ent e he with ⟨_,h⟩|⟨b',cs,h1,h2,h3⟩
 ·rw [hb] at h;cases h
 ·rw [hb] at h1;cases h1;exact ⟨cs,h2,h3⟩
theorem Mem.lt (m:Mem C F ρ H w){e:Ent}(he:e∈H){b:Nat}(hb:ρ e.k e.g=some b):b<w.heap.size:=by
 obtain ⟨cs,h2,_⟩:=m.at he hb;rcases d9H b w.heap.size with h|h
 ·exact h
 ·simp [e2i h] at h2
theorem Mem.own_lt (m:Mem C F ρ H w){b:Nat}(h:Own F.X ρ H b):b<w.heap.size:=by
 rcases h with h|⟨e,he,hb⟩
 ·exact e0a (m.xlt b h) m.size
 ·exact m.lt he hb
theorem a0A (w:World)(o:Obj)(b:Nat):(w.alloc o).heap[b]? = if b=w.heap.size then some o else w.heap[b]?:=by
 show (w.heap.push o)[b]? = _;rw [e1U]
theorem Ext.allocPure (o:Obj):Ext ρ (Own F.X ρ H) w ρ (Own F.X ρ H) (w.alloc o) :=
 ⟨by simp,fun _ _ _ h=>h,fun b hb hO=>⟨hO,by rw [a0A,d9m (by omega)]⟩,fun b cs T fz h=>⟨cs,_,by
  rw [a0A,d9m];exact h;intro hb;subst hb;simp at h,rfl⟩⟩
theorem Mem.same {w':World}(m:Mem C F ρ H w)(x:Ext ρ (Own F.X ρ H) w ρ (Own F.X ρ H) w')(h1:w'.os=w.os)(h2:w'.tape=w.tape)(h3:w'.output=w.output)
  (h4:∀ b,b<w.heap.size->w'.heap[b]? = w.heap[b]?):Mem C F ρ H w' where
 hok:=⟨fun e he=>by
  rcases m.hok.ent e he with h|⟨b,cs,a1,a2,a3⟩
  ·exact .inl h
  ·exact .inr ⟨b,cs,a1,by rw [h4 b (m.lt he a1)];exact a2,a3.mono x⟩,m.hok.inj,m.hok.own⟩
 os:=h1.trans m.os
 tape:=h2.trans m.tape
 output:=h3.trans m.output
 size:=d9V m.size x.size
 blk:=fun b hb hw=>by rw [h4 b (e0a hb m.size)];exact m.blk b hb hw
 xlt:=m.xlt
 g0:=m.g0
 gn:=m.gn
 gw:=m.gw
 lnk:=m.lnk
 shp:=a3W m.shp x
theorem Mem.allocPure (m:Mem C F ρ H w)(o:Obj):Mem C F ρ H (w.alloc o) :=
 m.same (.allocPure o) rfl rfl rfl fun b hb=>by rw [a0A,d9m (by omega)]
theorem Mem.drew (m:Mem C F ρ H w):Mem C F ρ H w.drew :=
 m.same ⟨d9y _,fun _ _ _ h=>h,fun _ _ h=>⟨h,rfl⟩,fun _ cs _ _ h=>⟨cs,_,h,rfl⟩⟩ rfl rfl rfl fun _ _=>rfl
theorem Ext.drew (ρ:Lk)(O:Nat->Prop)(w:World):Ext ρ O w ρ O w.drew:=⟨d9y _,fun _ _ _ h=>h,fun _ _ h=>⟨h,rfl⟩,fun _ cs _ _ h=>⟨cs,_,h,rfl⟩⟩
theorem Mem.alloc (m:Mem C F ρ H w)(e:Ent)(cs:Array Value)(hn:ρ e.k e.g=none)(hnew:∀ e'∈H,¬ (e'.k=e.k/\e'.g=e.g))(ho:a2C ρ (Own F.X ρ H) w e cs) :
  Mem C F (ρ.put e.k e.g w.heap.size) (e::H) (w.alloc (.cells cs e.T)) /\
  Ext ρ (Own F.X ρ H) w (ρ.put e.k e.g w.heap.size) (Own F.X (ρ.put e.k e.g w.heap.size) (e::H)) (w.alloc (.cells cs e.T)):=by
 have hne:∀ e'∈H,∀ b,ρ e'.k e'.g=some b->ρ.put e.k e.g w.heap.size e'.k e'.g=some b:=fun e' _ b h=>d8r hn h
 have hinv:∀ e'∈H,∀ b,ρ.put e.k e.g w.heap.size e'.k e'.g=some b->ρ e'.k e'.g=some b:=fun e' he' b h=>by
  unfold Lk.put at h;rw [d9m (hnew e' he')] at h;exact h
 have x:Ext ρ (Own F.X ρ H) w (ρ.put e.k e.g w.heap.size) (Own F.X (ρ.put e.k e.g w.heap.size) (e::H)) (w.alloc (.cells cs e.T)):=by
  refine ⟨by simp,fun _ _ _ h=>d8r hn h,fun b hb hO=>⟨?_,by rw [a0A,d9m (by omega)]⟩,fun b cs' T fz h=>⟨cs',fz,?_,rfl⟩⟩
  ·rintro (h|⟨e',he',hb'⟩)
   ·exact hO (.inl h)
   ·rcases d9F.1 he' with rfl|he'
    ·rw [d8s] at hb';cases hb';omega
    ·exact hO (.inr ⟨e',he',hinv e' he' b hb'⟩)
  ·rw [a0A,d9m]
   ·exact h
   ·intro hb;subst hb;simp at h
 refine ⟨⟨⟨?_,?_,?_⟩,m.os,m.tape,m.output,d9V m.size (by simp),?_,m.xlt,m.g0,m.gn,m.gw,fun _ _ _ h=>x.link _ _ _ (m.lnk _ _ _ h),a3W m.shp x⟩,x⟩
 ·intro e' he'
  rcases d9F.1 he' with rfl|he'
  ·exact .inr ⟨w.heap.size,cs,d8s _ _ _ _,by rw [a0A,d9l rfl],ho.mono x⟩
  ·rcases m.hok.ent e' he' with ⟨h1,h2⟩|⟨b,cs',h1,h2,h3⟩
   ·exact .inl ⟨h1,by unfold Lk.put;rw [d9m (hnew e' he')];exact h2⟩
   ·have:=m.lt he' h1
    exact .inr ⟨b,cs',hne e' he' b h1,by rw [a0A,d9m (by omega)];exact h2,h3.mono x⟩
 ·refine e0U.2 ⟨fun e' he' b b' h h'=>?_,?_⟩
  ·rw [d8s] at h;cases h
   have:=m.lt he' (hinv e' he' b' h')
   omega
  ·refine m.hok.inj.imp_of_mem fun {e1 e2} h1 h2 h b b' hb hb'=>h b b' (hinv e1 h1 b hb) (hinv e2 h2 b' hb')
 ·intro e' he' b hb
  rcases d9F.1 he' with rfl|he'
  ·rw [d8s] at hb;cases hb
   exact ⟨fun h=>d9n (m.xlt _ h) (by have:=m.size;omega),.inl m.size⟩
  ·exact m.hok.own e' he' b (hinv e' he' b hb)
 ·intro b hb hw
  have:=m.size
  rw [a0A,d9m (by omega)];exact m.blk b hb hw
def World.setBlk (w:World)(b:Nat)(cs:Array Value)(T:Nat):World:={ w with heap:=w.heap.setIfInBounds b (.cells cs T (0,0)) }
theorem a2I (w:World)(b:Nat)(cs:Array Value)(T:Nat)(b':Nat)(hb:b<w.heap.size) :
  (World.setBlk w b cs T).heap[b']? = if b'=b then some (.cells cs T (0,0)) else w.heap[b']?:=by
 simp only [World.setBlk,e0q]
 by_cases h:b'=b
 ·subst h;simp [hb]
 ·rw [d9m (Ne.symm h),d9m h]
theorem Mem.write {H1 H2:Hp}{e e':Ent}{b:Nat}{cs cs':Array Value}(m:Mem C F ρ (H1++e::H2) w)(hb:ρ e.k e.g=some b)(hc:w.heap[b]? = some (.cells cs e.T (0,0)))
  (hk:e'.k=e.k) (hg:e'.g=e.g) (hT:e'.T=e.T) (hs:cs'.size=cs.size) (ho:a2C ρ (Own F.X ρ (H1++e::H2)) w e' cs') :
  Mem C F ρ (H1++e'::H2) (World.setBlk w b cs' e.T) /\
  Ext ρ (Own F.X ρ (H1++e::H2)) w ρ (Own F.X ρ (H1++e'::H2)) (World.setBlk w b cs' e.T):=by
 have hlt:b<w.heap.size:=m.lt (by simp) hb;have hO:∀ b,Own F.X ρ (H1++e'::H2) b↔Own F.X ρ (H1++e::H2) b:=by
  intro b;simp [Own,or_and_right,exists_or,hk,hg]
 have hOe:Own F.X ρ (H1++e'::H2)=Own F.X ρ (H1++e::H2):=funext fun b=>propext (hO b)
 have hown:Own F.X ρ (H1++e::H2) b:=.inr ⟨e,by simp,hb⟩;have x:Ext ρ (Own F.X ρ (H1++e::H2)) w ρ (Own F.X ρ (H1++e'::H2)) (World.setBlk w b cs' e.T):=by
  refine ⟨by simp [World.setBlk],fun _ _ _ h=>h,fun b' hb' hn=>⟨by rw [hOe];exact hn,?_⟩,fun b' c T fz h=>?_⟩
  ·rw [a2I _ _ _ _ _ hlt,d9m]
   rintro rfl;exact hn hown
  ·rw [a2I _ _ _ _ _ hlt]
   by_cases hbb:b'=b
   ·subst hbb;rw [hc] at h;cases h;rw [d9l rfl];exact ⟨cs',_,rfl,hs⟩
   ·rw [d9m hbb];exact ⟨c,_,h,rfl⟩
 have hinj:=m.hok.inj;rw [e1q,e0U] at hinj;obtain ⟨p1,⟨p2,p3⟩,p4⟩:=hinj;refine ⟨⟨⟨?_,?_,?_⟩,m.os,m.tape,m.output,d9V m.size (by simp [World.setBlk]),?_,m.xlt,m.g0,m.gn,m.gw,fun _ _ _ h=>x.link _ _ _ (m.lnk _ _ _ h),a3W m.shp x⟩,x⟩
 ·intro e1 he1
  have other:e1∈H1\/e1∈H2->_:=fun h=>(show (e1.es=[]/\ρ e1.k e1.g=none)\/∃ b1 cs1,ρ e1.k e1.g=some b1/\(World.setBlk w b cs' e.T).heap[b1]? = some (.cells cs1 e1.T (0,0))/\a2C ρ (Own F.X ρ (H1++e'::H2)) (World.setBlk w b cs' e.T) e1 cs1 from by
   rcases m.hok.ent e1 (by rcases h with h|h<;>simp [h]) with h0|⟨b1,cs1,a1,a2,a3⟩
   ·exact .inl h0
   refine .inr ⟨b1,cs1,a1,?_,a3.mono x⟩;rw [a2I _ _ _ _ _ hlt,d9m]
   ·exact a2
   ·rintro rfl
    rcases h with h|h
    ·exact p4 e1 h e (by simp) _ _ a1 hb rfl
    ·exact p2 e1 h _ _ hb a1 rfl)
  rcases List.mem_append.1 he1 with h|h
  ·exact other (.inl h)
  ·rcases d9F.1 h with rfl|h
   ·exact .inr ⟨b,cs',by rw [hk,hg];exact hb,by rw [a2I _ _ _ _ _ hlt,d9l rfl,hT],ho.mono x⟩
   ·exact other (.inr h)
 ·rw [e1q,e0U]
  refine ⟨p1,⟨fun e2 h2 b1 b2 hb1 hb2=>p2 e2 h2 b1 b2 (by rw [<- hk,<- hg];exact hb1) hb2,p3⟩,fun e1 h1 e2 h2=>?_⟩;rcases d9F.1 h2 with rfl|h2
  ·intro b1 b2 hb1 hb2;exact p4 e1 h1 e (by simp) b1 b2 hb1 (by rw [<- hk,<- hg];exact hb2)
  ·exact p4 e1 h1 e2 (by simp [h2])
 ·intro e1 he1 b1 hb1
  rcases List.mem_append.1 he1 with h|h
  ·exact m.hok.own e1 (by simp [h]) b1 hb1
  ·rcases d9F.1 h with rfl|h
   ·exact m.hok.own e (by simp) b1 (by rw [<- hk,<- hg];exact hb1)
   ·exact m.hok.own e1 (by simp [h]) b1 hb1
 ·intro b1 hb1 hw
  rw [a2I _ _ _ _ _ hlt,d9m]
  ·exact m.blk b1 hb1 hw
  ·rintro rfl
   rcases (m.hok.own e (by simp) b1 hb).2 with h|h
   ·omega
   ·exact hw h
theorem Mem.sub {H':Hp}(m:Mem C F ρ H w)(hs:H'.Sublist H):Mem C F ρ H' w/\∀ b,Own F.X ρ H' b->Own F.X ρ H b:=by
 have hO:∀ b,Own F.X ρ H' b->Own F.X ρ H b:=fun b h=>h.imp id fun ⟨e,he,hb⟩=>⟨e,hs.subset he,hb⟩
 refine ⟨⟨⟨fun e he=>?_,m.hok.inj.sublist hs,fun e he=>m.hok.own e (hs.subset he)⟩,m.os,m.tape,m.output,m.size,m.blk,m.xlt,m.g0,m.gn,m.gw,m.lnk,m.shp⟩,hO⟩;rcases m.hok.ent e (hs.subset he) with h|⟨b,cs,h1,h2,h3⟩
 ·exact .inl h
 ·exact .inr ⟨b,cs,h1,h2,h3.anti hO⟩
end mem
abbrev Env:=List (Nat × D)
def Env.get:Env->Nat->D
 | [],_=>.any
 | (k,d)::r,t=>match Nat.beq k t with
  | true=>d
  | false=>Env.get r t
theorem d8k (k:Nat)(d:D)(r:Env)(t:Nat):Env.get ((k,d)::r) t=if k=t then d else Env.get r t:=by
 simp only [Env.get]
 by_cases h:k=t
 ·subst h;simp
 ·cases hb:Nat.beq k t with
  | true=>exact d9n (d9v hb) h
  | false=>simp [h]
structure St where
 env:Env
 H:Hp
 n:Nat
def a9S (ρ:Lk)(n:Nat):Prop:=∀ k g,n<=g->ρ k g=none
structure Sat (C:Ctx)(F:Fra)(ρ:Lk)(s:St)(a:Act)(w:World):Prop where
 mem:Mem C F ρ s.H w
 fresh:a9S ρ s.n
 gen:∀ e∈s.H,e.g<s.n
 env:∀ t,Rep ρ (Own F.X ρ s.H) w (s.env.get t) (a.tmps.getD t undef)
 nt:a.tmps.size=F.nt
 dfr:a.defers=F.df
def a2m (nt:Nat)(o:Oper):Bool:=match o.dst with
 | some d=>Nat.blt d nt
 | none=>true
def a0O (nt:Nat):Code->Bool
 | .region _ ops _=>ops.toList.all (a2m nt)
 | .seq a b=>a0O nt a&&a0O nt b
 | .cond _ a b=>a0O nt a&&a0O nt b
 | .block _ b=>a0O nt b
 | .loop b=>a0O nt b
 | .scope b=>a0O nt b
 | .rangeFunc _ ps a b=>ps.toList.all (fun t=>Nat.blt t nt)&&(a0O nt a&&a0O nt b)
 | _=>true
def Ok (C:Ctx)(F:Fra)(c:Code)(s:St)(Q:Exit->St->Prop):Prop :=
 a0O F.nt c=true->∀ ρ a w,Sat C F ρ s a w->c.wp C.P (fun e a' w'=>∃ s' ρ',Q e s'/\Sat C F ρ' s' a' w') a w
section
variable {C:Ctx} {F:Fra} {s:St} {Q:Exit->St->Prop}
theorem Ok.mono {c:Code}{Q':Exit->St->Prop}(h:Ok C F c s Q)(hq:∀ e s,Q e s->Q' e s):Ok C F c s Q' :=
 fun hd ρ a w hs=>wp_mono (h hd ρ a w hs) fun _ _ _ ⟨s',ρ',q,x⟩=>⟨s',ρ',hq _ _ q,x⟩
theorem Ok.skip (h:Q .normal s):Ok C F .skip s Q:=fun _ ρ _ _ hs=>wp_skip ⟨s,ρ,h,hs⟩
theorem Ok.ret (h:Q .ret s):Ok C F .ret s Q:=fun _ ρ _ _ hs=>wp_ret ⟨s,ρ,h,hs⟩
theorem Ok.exit {i:Nat}(h:Q (.exit i) s):Ok C F (.exit i) s Q:=fun _ ρ _ _ hs=>wp_exit ⟨s,ρ,h,hs⟩
theorem Ok.seq {a b:Code}(h:Ok C F a s (fun e s=>match e with | .normal=>Ok C F b s Q|e=>Q e s)):Ok C F (.seq a b) s Q:=by
 intro hd ρ ac w hs;simp only [a0O,d9B] at hd;refine wp_seq (wp_mono (h hd.1 ρ ac w hs) ?_);rintro e a' w' ⟨s',ρ',hq,hs'⟩;cases e with
 | normal=>exact hq hd.2 ρ' a' w' hs'
 | _=>exact ⟨s',ρ',hq,hs'⟩
theorem Ok.cond {c:Operand}{x y:Code}(t:Bool)(hc:∀ ρ a w,Sat C F ρ s a w->a.eval c=.bool t)(h1:t=true->Ok C F x s Q)(h2:t=false->Ok C F y s Q) :
  Ok C F (.cond c x y) s Q:=by
 intro hd ρ a w hs;simp only [a0O,d9B] at hd;exact wp_cond_split (hc ρ a w hs) (fun ht=>h1 ht hd.1 ρ a w hs) (fun ht=>h2 ht hd.2 ρ a w hs)
theorem Ok.block {i:Nat}{b:Code}(h:Ok C F b s (fun e s=>match e with | .exit j=>if j=i then Q .normal s else Q (.exit j) s|e=>Q e s)):Ok C F (.block i b) s Q:=by
 intro hd ρ a w hs;refine wp_block (wp_mono (h hd ρ a w hs) ?_);rintro e a' w' ⟨s',ρ',hq,hs'⟩;cases e with
 | exit j =>
  simp only [Exit.inBlock] at hq ⊢;split
  ·rename_i hj;rw [d9l hj] at hq;exact ⟨s',ρ',hq,hs'⟩
  ·rename_i hj;rw [d9m hj] at hq;exact ⟨s',ρ',hq,hs'⟩
 | _=>exact ⟨s',ρ',hq,hs'⟩
theorem b7M {P:Program}{R:Exit->Act->World->Prop}{c:Code}(I:Nat->Act->World->Prop){m:Nat}{a:Act}{w:World}(h0:I m a w)
  (round:∀ m a w,I m a w->c.wp P (Exit.then (fun a' w'=>∃ m',m'<m/\I m' a' w') R) a w):(Code.loop c).wp P R a w:=by
 intro b k cs;have key:∀ m a w,I m a w->∃ e a' w',R e a' w'/\Arrives P (lone (b.at a (.code c::.inLoop c::k)) cs w) b k cs e a' w':=by
  intro m
  induction m using Nat.strongRecOn with
  | _ m ih =>
   intro a w hI;obtain ⟨e,a₁,w₁,hq,harr⟩:=round m a w hI b (.inLoop c::k) cs;cases e with
   | normal =>
    obtain ⟨m',hlt,hI'⟩:=hq;obtain ⟨e₂,a₂,w₂,hq₂,harr₂⟩:=ih m' hlt a₁ w₁ hI';exact ⟨e₂,a₂,w₂,hq₂,.of_steps (Steps.trans harr (.one step_inLoop)) harr₂⟩
   | exit id=>exact ⟨_,a₁,w₁,hq,.pass (x:=.inLoop c) rfl (fun _ _=>.inl (by simp)) harr⟩
   | goto l=>exact ⟨_,a₁,w₁,hq,.pass (x:=.inLoop c) rfl (fun _ _=>.inl (by simp)) harr⟩
   | ret=>exact ⟨_,a₁,w₁,hq,.pass (x:=.inLoop c) rfl (fun _ _=>.inl (by simp)) harr⟩
   | panic ch=>exact ⟨_,a₁,w₁,hq,.pass (x:=.inLoop c) rfl (fun _ _=>.inl (by simp)) harr⟩
   | outgrown=>exact ⟨_,a₁,w₁,hq,.pass (x:=.inLoop c) rfl (fun _ _=>.inl (by simp)) harr⟩
 obtain ⟨e,a',w',hq,harr⟩:=key m a w h0;exact ⟨e,a',w',hq,.of_steps (.one step_loop) harr⟩
theorem Ok.loop {b:Code}(I:Nat->St->Prop){m:Nat}(h0:I m s)
  (round:∀ m s,I m s->Ok C F b s (fun e s'=>match e with | .normal=>∃ m',m'<m/\I m' s'|e=>Q e s')):Ok C F (.loop b) s Q:=by
 intro hd ρ a w hs;refine b7M (fun m a w=>∃ s ρ,I m s/\Sat C F ρ s a w) ⟨s,ρ,h0,hs⟩ ?_;rintro m a w ⟨s,ρ,hI,hs⟩;refine wp_mono (round m s hI hd ρ a w hs) ?_;rintro e a' w' ⟨s',ρ',hq,hs'⟩;cases e with
 | normal=>obtain ⟨m',hm,hI'⟩:=hq;exact ⟨m',hm,s',ρ',hI',hs'⟩
 | _=>exact ⟨s',ρ',hq,hs'⟩
end
inductive TI where
 | int (k:IntKind)|bool|string
 | struct (fs:List (Nat × Nat × Bool))
 | slice (e esz eby:Nat) (ez:Value)
 | arr (n esz:Nat) (eag:Bool)
 | ptr|other
structure a0n where
 ti:TI
 sz:Nat
 bts:Nat
 ag:Bool
 zero:Value
def a5J (P:Program)(t:Nat):Bool:=match P.underlying t with
 | some (.struct _)|some (.array _ _)=>true
 | _=>false
def b2I (v:Value)(n:Nat):Bool:=v.cells.size==n&&v.cells.toList.all one
def a8F (P:Program)(f:Field):Option (Nat × Nat × Bool):=match P.info? f.type with
 | some i=>match P.underlying f.type with
  | some _=>if i.size=0 then none else some (f.offset,i.size,a5J P f.type)
  | none=>none
 | none=>none
def b7Q (P:Program):List Field->Option (List (Nat × Nat × Bool))
 | []=>some []
 | f::fs=>match a8F P f with
  | some x=>match b7Q P fs with
   | some l=>some (x::l)
   | none=>none
  | none=>none
def b4W (P:Program):TypeDesc->Option (TI × Bool)
 | .int k=>some (.int k,false)
 | .bool=>some (.bool,false)
 | .string=>some (.string,false)
 | .pointer _=>some (.ptr,false)
 | .struct fs=>match b7Q P fs.toList with
  | some l=>some (.struct l,true)
  | none=>none
 | .array n e=>match P.info? e with
  | some ie=>some (.arr n ie.size (a5J P e),true)
  | none=>none
 | .slice e=>match P.info? e with
  | some ie=>match ie.zero with
   | some ez=>if b2I ez ie.size then some (.slice e ie.size ie.bytes ez,false) else none
   | none=>none
  | none=>none
 | _=>some (.other,false)
def a3i (P:Program)(t:Nat):Option a0n :=
 match P.info? t with
 | some i=>match P.underlying t with
  | some u=>match i.zero with
   | some z=>match b2I z i.size with
    | true=>match b4W P u with
     | some (ti,ag)=>some ⟨ti,i.size,i.bytes,ag,z⟩
     | none=>none
    | false=>none
   | none=>none
  | none=>none
 | none=>none
theorem a1F {P:Program}{t:Nat}{i:a0n}(h:a3i P t=some i) :
  ∃ inf u,P.info? t=some inf/\P.underlying t=some u/\inf.zero=some i.zero/\inf.size=i.sz/\inf.bytes=i.bts/\b2I i.zero i.sz=true/\b4W P u=some (i.ti,i.ag):=by
 unfold a3i at h;cases h1:P.info? t with
 | none=>simp [h1] at h
 | some inf =>
  cases h2:P.underlying t with
  | none=>simp [h1,h2] at h
  | some u =>
   cases h3:inf.zero with
   | none=>simp [h1,h2,h3] at h
   | some z =>
    cases h4:b2I z inf.size with
    | false=>simp [h1,h2,h3,h4] at h
    | true =>
     cases h5:b4W P u with
     | none=>simp [h1,h2,h3,h4,h5] at h
     | some p =>
      obtain ⟨ti,ag⟩:=p;simp [h1,h2,h3,h4,h5] at h;subst h;exact ⟨inf,u,rfl,rfl,h3,rfl,rfl,h4,h5⟩
structure c8R (P:Program)(t:Nat)(i:a0n):Prop where
 info:∃ inf,P.info? t=some inf/\inf.size=i.sz/\inf.bytes=i.bts/\inf.zero=some i.zero
 agg:a5J P t=i.ag
 zsz:i.zero.cells.size=i.sz
 zone:∀ (j:Nat) (x:Value),i.zero.cells[j]? = some x->one x=true
theorem a4a {v:Value}{n:Nat}(h:b2I v n=true):v.cells.size=n/\∀ (j:Nat) (x:Value),v.cells[j]? = some x->one x=true:=by
 simp only [b2I,d9B,e1i,d9W] at h;refine ⟨h.1,fun j x hx=>h.2 x ?_⟩;rw [Array.mem_toList_iff];exact e1u hx
theorem b4X {P:Program}{t:Nat}{i:a0n}(h:a3i P t=some i):c8R P t i:=by
 obtain ⟨inf,u,h1,h2,h3,h4,h5,h6,h7⟩:=a1F h;obtain ⟨h8,h9⟩:=a4a h6;refine ⟨⟨inf,h1,h4,h5,h3⟩,?_,h8,h9⟩;unfold a5J;rw [h2];cases u<;>simp only [b4W] at h7<;>(repeat' split at h7)<;>simp_all
theorem b3H {P:Program}{t:Nat}{i:a0n}{k:IntKind}(h:a3i P t=some i)(hk:i.ti=.int k):P.underlying t=some (.int k):=by
 obtain ⟨inf,u,h1,h2,h3,h4,h5,h6,h7⟩:=a1F h;rw [hk] at h7;cases u<;>simp only [b4W] at h7<;>(repeat' split at h7)<;>simp_all
theorem b0X {P:Program}{t:Nat}{i:a0n}(h:a3i P t=some i)(hk:i.ti=.bool):P.underlying t=some .bool:=by
 obtain ⟨inf,u,h1,h2,h3,h4,h5,h6,h7⟩:=a1F h;rw [hk] at h7;cases u<;>simp only [b4W] at h7<;>(repeat' split at h7)<;>simp_all
theorem a1W {P:Program}{t:Nat}{i:a0n}(h:a3i P t=some i)(hk:i.ti=.string):P.underlying t=some .string:=by
 obtain ⟨inf,u,h1,h2,h3,h4,h5,h6,h7⟩:=a1F h;rw [hk] at h7;cases u<;>simp only [b4W] at h7<;>(repeat' split at h7)<;>simp_all
theorem a9G {P:Program}{t:Nat}{i:a0n}(h:a3i P t=some i)(hk:i.ti=.ptr):∃ e,P.underlying t=some (.pointer e):=by
 obtain ⟨inf,u,h1,h2,h3,h4,h5,h6,h7⟩:=a1F h;rw [hk] at h7;cases u<;>simp only [b4W] at h7<;>(repeat' split at h7)<;>simp_all
theorem a0y {P:Program}{t:Nat}{i:a0n}{e esz eby:Nat}{ez:Value}(h:a3i P t=some i)(hk:i.ti=.slice e esz eby ez) :
  P.underlying t=some (.slice e)/\(∃ inf,P.info? e=some inf/\inf.size=esz/\inf.bytes=eby/\inf.zero=some ez) /\
  ez.cells.size=esz/\∀ (j:Nat) (x:Value),ez.cells[j]? = some x->one x=true:=by
 obtain ⟨inf,u,h1,h2,h3,h4,h5,h6,h7⟩:=a1F h;rw [hk] at h7;cases u
 case slice e' =>
  simp only [b4W] at h7;cases g1:P.info? e' with
  | none=>simp [g1] at h7
  | some ie =>
   cases g2:ie.zero with
   | none=>simp [g1,g2] at h7
   | some z =>
    cases g3:b2I z ie.size with
    | false=>simp [g1,g2,g3] at h7
    | true =>
     simp [g1,g2,g3] at h7;obtain ⟨⟨rfl,rfl,rfl,rfl⟩,_⟩:=h7;obtain ⟨h8,h9⟩:=a4a g3;exact ⟨h2,⟨ie,g1,rfl,rfl,g2⟩,h8,h9⟩
 all_goals (simp only [b4W] at h7;(repeat' split at h7)<;>simp_all)
theorem a9F {P:Program}{t:Nat}{i:a0n}{n esz:Nat}{eag:Bool}(h:a3i P t=some i)(hk:i.ti=.arr n esz eag) :
  ∃ e,P.underlying t=some (.array n e)/\a5J P e=eag/\∃ inf,P.info? e=some inf/\inf.size=esz:=by
 obtain ⟨inf,u,h1,h2,h3,h4,h5,h6,h7⟩:=a1F h;rw [hk] at h7;cases u
 case array n' e' =>
  simp only [b4W] at h7;cases g1:P.info? e' with
  | none=>simp [g1] at h7
  | some ie =>
   simp [g1] at h7;obtain ⟨⟨rfl,rfl,rfl⟩,_⟩:=h7;exact ⟨e',h2,rfl,ie,g1,rfl⟩
 all_goals (simp only [b4W] at h7;(repeat' split at h7)<;>simp_all)
theorem b9S {P:Program}:∀ (fs:List Field) (l:List (Nat × Nat × Bool)),b7Q P fs=some l->fs.length=l.length /\
  ∀ (j:Nat) (x:Nat × Nat × Bool),l[j]? = some x->∃ f,fs[j]? = some f/\f.offset=x.1/\a5J P f.type=x.2.2/\x.2.1≠0/\(∃ inf,P.info? f.type=some inf/\inf.size=x.2.1)/\∃ u,P.underlying f.type=some u:=by
 intro fs
 induction fs with
 | nil=>intro l hl;simp [b7Q] at hl;subst hl;simp
 | cons f fs ih =>
  intro l hl;simp only [b7Q] at hl;cases hx:a8F P f with
  | none=>simp [hx] at hl
  | some x =>
   cases hl2:b7Q P fs with
   | none=>simp [hx,hl2] at hl
   | some l2 =>
    simp [hx,hl2] at hl;subst hl;obtain ⟨i1,i2⟩:=ih l2 hl2;refine ⟨by simp [i1],fun j y hy=>?_⟩;cases j with
    | zero =>
     simp at hy;subst hy;unfold a8F at hx;cases hinf:P.info? f.type with
     | none=>simp [hinf] at hx
     | some inf =>
      cases hu:P.underlying f.type with
      | none=>simp [hinf,hu] at hx
      | some u =>
       simp only [hinf,hu] at hx;split at hx
       ·cases hx
       ·cases hx;exact ⟨f,rfl,rfl,rfl,by assumption,⟨inf,hinf,rfl⟩,u,hu⟩
    | succ j=>simpa using i2 j y (by simpa using hy)
theorem a5d {P:Program}{t:Nat}{i:a0n}{l:List (Nat × Nat × Bool)}(h:a3i P t=some i)(hk:i.ti=.struct l) :
  ∃ fs:Array Field,P.underlying t=some (.struct fs)/\fs.size=l.length /\
   ∀ (j:Nat) (x:Nat × Nat × Bool),l[j]? = some x->∃ f,fs[j]? = some f/\f.offset=x.1/\a5J P f.type=x.2.2/\x.2.1≠0/\(∃ inf,P.info? f.type=some inf/\inf.size=x.2.1)/\∃ u,P.underlying f.type=some u:=by
 obtain ⟨inf,u,h1,h2,h3,h4,h5,h6,h7⟩:=a1F h;rw [hk] at h7;cases u
 case struct fs =>
  simp only [b4W] at h7;cases g1:b7Q P fs.toList with
  | none=>simp [g1] at h7
  | some l' =>
   simp [g1] at h7;obtain ⟨rfl,_⟩:=h7;obtain ⟨k1,k2⟩:=b9S _ _ g1;exact ⟨fs,h2,by simpa using k1,by simpa using k2⟩
 all_goals (simp only [b4W] at h7;(repeat' split at h7)<;>simp_all)
def b5g:List Value->Bool
 | []=>true
 | v::l=>match one v with
  | true=>b5g l
  | false=>false
def a7t (v:Value):D:=match v with
 | .agg vs=>match b5g vs.toList with
  | true=>.agg (vs.toList.map .prim)
  | false=>.any
 | v=>.prim v
def a1m (env:Env):Operand->D
 | .tmp t=>env.get t
 | .const v=>a7t v
 | .global g=>.prim (.pointer (some ⟨g,0,none⟩))
 | .func f=>.clo (.func f) [] []
def asB:D->Bool × Bool
 | .prim (.bool x)=>(x,true)
 | .gd u (.prim (.bool x))=>(x,u)
 | _=>(false,false)
def a2d (op:BinOp)(k:IntKind)(x y:Int):Int :=
 let a:=BitVec.ofInt k.bits x
 let b:=BitVec.ofInt k.bits y
 match op with
 | .and=>k.wrap (a &&& b).toNat
 | .or=>k.wrap (a ||| b).toNat
 | .xor=>k.wrap (a ^^^ b).toNat
 | _=>k.wrap (a &&& ~~~b).toNat
def c5R (k:IntKind)(x y:Int):Int:=k.wrap (x*2^(min y.toNat k.bits))
def c7Y (k:IntKind)(x y:Int):Int:=x.fdiv (2^(min y.toNat k.bits))
def a1G (a b:ByteArray):Bool:=a.toList==b.toList
def c3x (a b:ByteArray):Bool:=Op.bytesLess a.toList b.toList
def c8z (op:BinOp)(x y:Value):Option (Value × Prop) :=
 match x,y with
 | .int k a,.int k' b=>match op with
  | .add=>some (.int k (k.wrap (a+b)),k=k')
  | .sub=>some (.int k (k.wrap (a - b)),k=k')
  | .mul=>some (.int k (k.wrap (a*b)),k=k')
  | .quo=>some (.int k (k.wrap (a.tdiv b)),k=k'/\b≠0)
  | .rem=>some (.int k (a.tmod b),k=k'/\b≠0)
  | .and=>some (.int k (a2d .and k a b),k=k')
  | .or=>some (.int k (a2d .or k a b),k=k')
  | .xor=>some (.int k (a2d .xor k a b),k=k')
  | .andNot=>some (.int k (a2d .andNot k a b),k=k')
  | .shl=>some (.int k (c5R k a b),0<=b)
  | .shr=>some (.int k (c7Y k a b),0<=b)
  | .eql=>some (.bool (a==b),k=k')
  | .neq=>some (.bool (a != b),k=k')
  | .lss=>some (.bool (decide (a<b)),k=k')
  | .leq=>some (.bool (decide (a<=b)),k=k')
  | .gtr=>some (.bool (decide (a>b)),k=k')
  | .geq=>some (.bool (decide (a>=b)),k=k')
 | .string a,.string b=>match op with
  | .add=>some (.string (a++b),a.size+b.size<=9223372036854775807)
  | .eql=>some (.bool (a1G a b),True)
  | .neq=>some (.bool (!a1G a b),True)
  | .lss=>some (.bool (c3x a b),True)
  | .leq=>some (.bool (c3x a b||a1G a b),True)
  | .gtr=>some (.bool (!(c3x a b||a1G a b)),True)
  | .geq=>some (.bool (!c3x a b),True)
  | _=>none
 | _,_=>none
def c8G (op:BinOp)(b:Bool):Option Bool:=match op with
 | .eql=>some b
 | .neq=>some (!b)
 | _=>none
def eqV (ti:TI)(x y:D):Option (Bool × Prop) :=
 match ti,x,y with
 | .bool,.prim (.bool a),.prim (.bool b)=>some (a==b,True)
 | .slice ..,.prim (.slice none _ _),.prim (.slice none _ _)=>some (true,True)
 | .slice ..,.sl true _ _,.prim (.slice none _ _)=>some (false,True)
 | .slice ..,.sl false _ es,.prim (.slice none _ _)=>some (false,es≠[])
 | .ptr,.prim (.pointer none),.prim (.pointer none)=>some (true,True)
 | .ptr,.pptr _,.prim (.pointer none)=>some (false,True)
 | .ptr,.optr ..,.prim (.pointer none)=>some (false,True)
 | _,_,_=>none
def c9a (tt:Nat->Option a0n)(op:BinOp)(t:Nat)(x y:D):Option (D × Prop) :=
 match x,y with
 | .prim (.int k a),.prim (.int k' b)=>match c8z op (.int k a) (.int k' b) with
  | some (v,p)=>some (.prim v,p)
  | none=>none
 | .prim (.string a),.prim (.string b)=>match c8z op (.string a) (.string b) with
  | some (v,p)=>some (.prim v,p)
  | none=>none
 | x,y=>match tt t with
  | some i=>match eqV i.ti x y with
   | some (b,p)=>match c8G op b with
    | some c=>some (.prim (.bool c),p)
    | none=>none
   | none=>none
  | none=>none
def unD (op:UnOp)(x:D):Option D :=
 match op,x with
 | .neg,.prim (.int k a)=>some (.prim (.int k (k.wrap (0 - a))))
 | .xor,.prim (.int k a)=>some (.prim (.int k (a2d .xor k (if k.signed then -1 else k.max) a)))
 | .not,.prim (.bool b)=>some (.prim (.bool !b))
 | _,_=>none
def c6A (tt:Nat->Option a0n)(dst:Nat)(x:D):Option D :=
 match tt dst with
 | some i=>match i.ti,x with
  | .int k,.prim (.int _ n)=>some (.prim (.int k (k.wrap n)))
  | .string,.prim (.string s)=>some (.prim (.string s))
  | _,_=>none
 | none=>none
theorem Rep.cells_self {ρ:Lk}{O:Nat->Prop}{w:World}{d:D}{v:Value}(h:Rep ρ O w d v)(ho:one v=true):d.cells=[d]:=by
 cases h<;>first|rfl|simp [Ide.one] at ho
def a0R (ag:Bool)(d:D):List D:=match ag with
 | true=>d.cells
 | false=>[d]
def a0Y (ag:Bool)(sz:Nat)(d:D):Prop:=∀ ρ O w v,Rep ρ O w d v->v.cells.size=sz/\(∀ (i:Nat) (x:Value),v.cells[i]? = some x->one x=true) /\
 (a0R ag d).length=sz/\(∀ (j:Nat) (c:D),(a0R ag d)[j]? = some c->Rep ρ O w c (v.cells.getD j undef))/\a0R ag d=d.cells
theorem a0Y.agg {ds:List D}:a0Y true ds.length (.agg ds):=fun ρ O w v h=>by
 cases h with|agg hn ho hh=>exact ⟨hn,ho,rfl,hh,rfl⟩
theorem a0Y.one {d:D}(h:∀ ρ O w v,Rep ρ O w d v->one v=true):a0Y false 1 d:=fun ρ O w v hr=>by
 have ho:=h ρ O w v hr;rw [b8o ho];refine ⟨rfl,fun i x hx=>?_,rfl,fun j c hc=>?_,(hr.cells_self ho).symm⟩
 ·cases i with
  | zero=>simp at hx;subst hx;exact ho
  | succ i=>simp at hx
 ·cases j with
  | zero=>simp [a0R] at hc;subst hc;exact hr
  | succ j=>simp [a0R] at hc
def D.one:D->Bool
 | .prim v=>Ide.one v
 | .any | .agg _ | .tup _ | .gd _ _=>false
 | _=>true
theorem d9a {d:D}(h:d.one=true):a0Y false 1 d:=a0Y.one fun ρ O w v hr=>by
 cases hr<;>first|exact h|rfl|simp [D.one] at h
def a6Y (fs:List (Nat × Nat × Bool))(g:Operand->D):List (Nat × Operand)->List D->Option (List D × Prop)
 | [],cs=>some (cs,True)
 | (i,x)::r,cs=>match fs[i]? with
  | some (o,sz,ag)=>match a6Y fs g r (b1P cs o (a0R ag (g x))) with
   | some (cs',q)=>some (cs',(a0Y ag sz (g x)/\o+sz<=cs.length)/\q)
   | none=>none
  | none=>none
def b1F:TI->Option (List (Nat × Nat × Bool))
 | .struct fs=>some fs
 | .arr n esz eag=>some ((List.range n).map fun i=>(i*esz,esz,eag))
 | _=>none
def b2k (tt:Nat->Option a0n)(t:Nat)(g:Operand->D)(ps:List (Nat × Operand)):Option (D × Prop) :=
 match tt t with
 | some i=>match b1F i.ti with
  | some fs=>match a6Y fs g ps (i.zero.cells.toList.map .prim) with
   | some (cs,p)=>some (.agg cs,p)
   | none=>none
  | none=>none
 | none=>none
def a7j (o sz:Nat)(ag:Bool):D->Option D
 | .optr k g esz i off=>some (.optr k g esz i (off+o))
 | .pptr d=>match a5D ag sz o d.cells with
  | some c=>some (.pptr c)
  | none=>none
 | _=>none
def b2j (n:Nat):D->Option (Nat × Prop)
 | .prim (.int _ x)=>some (x.toNat,0<=x/\x<=n)
 | _=>none
def a4K (n:Nat)(lo hi:Option D):Option (Nat × Nat × Prop) :=
 match hi with
 | none=>match lo with
  | none=>some (0,n,True)
  | some l=>match b2j n l with
   | some (l,p)=>some (l,n,p)
   | none=>none
 | some h=>match b2j n h with
  | some (h,p)=>match lo with
   | none=>some (0,h,p)
   | some l=>match b2j h l with
    | some (l,q)=>some (l,h,p/\q)
    | none=>none
  | none=>none
def b3B (tt:Nat->Option a0n)(t:Nat)(x:D)(lo hi:Option D):Option (D × Prop) :=
 match tt t with
 | some i=>match i.ti,x with
  | .string,.prim (.string s)=>match a4K s.size lo hi with
   | some (l,h,p)=>some (.prim (.string (s.extract l h)),p)
   | none=>none
  | .slice _ esz _ _,.sl nn sz es=>match a4K es.length lo hi with
   | some (l,h,p)=>some (.sl nn sz ((es.drop l).take (h - l)),p/\esz=sz)
   | none=>none
  | .slice _ esz _ _,.osl k g sz j len=>match a4K len lo hi with
   | some (l,h,p)=>some (.osl k g sz (j+l) (h - l),p/\esz=sz/\(l<h\/l=0))
   | none=>none
  | _,_=>none
 | none=>none
def a4S (k:IntKind)(a:Int):List D->Option (D × Prop)
 | []=>some (.prim (.int k a),True)
 | .prim (.int _ b)::r=>a4S k (min a b) r
 | _=>none
def a4R (k:IntKind)(a:Int):List D->Option (D × Prop)
 | []=>some (.prim (.int k a),True)
 | .prim (.int _ b)::r=>a4R k (max a b) r
 | _=>none
def a6k (tt:Nat->Option a0n)(b:Builtin)(tys:List Nat)(args:List D):Option (D × Prop) :=
 match b,args with
 | .len,[x]=>match tys with
  | [t]=>match tt t with
   | some i=>match i.ti,x with
    | .string,.prim (.string s)=>some (.prim (.int .i64 s.size),True)
    | .slice ..,.sl _ _ es=>some (.prim (.int .i64 es.length),True)
    | .slice ..,.osl _ _ _ _ len=>some (.prim (.int .i64 len),True)
    | .slice ..,.prim (.slice none n _)=>some (.prim (.int .i64 n),True)
    | _,_=>none
   | none=>none
  | _=>none
 | .min,.prim (.int k a)::r=>a4S k a r
 | .max,.prim (.int k a)::r=>a4R k a r
 | _,_=>none
def evP (tt:Nat->Option a0n)(g:Operand->D):Op->Option (D × Prop)
 | .move x | .assign x=>some (g x,True)
 | .pick c a b=>match g c with
  | .prim (.bool t)=>some (.prim (.bool (bif t then (asB (g a)).1 else (asB (g b)).1)),(t=true->(asB (g a)).2=true)/\(t=false->(asB (g b)).2=true))
  | _=>none
 | .build t ps=>b2k tt t g ps.toList
 | .nilCheck x=>match g x with
  | .pptr d=>some (.pptr d,True)
  | .optr k gg sz i off=>some (.optr k gg sz i off,True)
  | .clo (.func f) a b=>some (.clo (.func f) a b,True)
  | _=>none
 | .binOp op t x y _=>c9a tt op t (g x) (g y)
 | .unOp op _ x=>match unD op (g x) with
  | some d=>some (d,True)
  | none=>none
 | .convert src dst x=>match tt src with
  | some _=>match c6A tt dst (g x) with
   | some d=>some (d,True)
   | none=>none
  | none=>none
 | .makeFunc (.func f) a b=>some (.clo (.func f) (a.toList.map g) (b.toList.map g),True)
 | .slice t x lo hi none=>b3B tt t (g x) (lo.map g) (hi.map g)
 | .fieldAddr t x f=>match tt t with
  | some i=>match i.ti with
   | .struct fs=>match fs[f]? with
    | some (o,sz,ag)=>match a7j o sz ag (g x) with
     | some d=>some (d,True)
     | none=>none
    | none=>none
   | _=>none
  | none=>none
 | .field t x f=>match tt t with
  | some i=>match i.ti with
   | .struct fs=>match fs[f]? with
    | some (o,sz,ag)=>match g x with
     | .agg cs=>match a5D ag sz o cs with
      | some d=>some (d,True)
      | none=>none
     | _=>none
    | none=>none
   | _=>none
  | none=>none
 | .indexAddr t x ix=>match tt t with
  | some i=>match i.ti,g ix with
   | .arr n esz ag,.prim (.int _ j)=>match a7j (j.toNat*esz) esz ag (g x) with
    | some d=>some (d,0<=j/\j<n)
    | none=>none
   | .slice _ esz _ _,.prim (.int _ j)=>match g x with
    | .osl k gg sz i len=>some (.optr k gg sz (i+j.toNat) 0,0<=j/\j<len/\esz=sz)
    | _=>none
   | _,_=>none
  | none=>none
 | .index t x ix=>match tt t with
  | some i=>match i.ti,g x,g ix with
   | .string,.prim (.string s),.prim (.int _ j)=>some (.prim (.int .u8 (s.data.toList.getD j.toNat 0).toNat),0<=j/\j<s.size)
   | _,_,_=>none
  | none=>none
 | .extract x i=>match g x with
  | .tup ds=>match ds[i]? with
   | some d=>some (d,True)
   | none=>none
  | _=>none
 | .call ⟨.builtin b,args,tys⟩=>a6k tt b tys.toList (args.toList.map g)
 | _=>none
def Tab (P:Program)(tt:Nat->Option a0n):Prop:=∀ t i,tt t=some i->a3i P t=some i
section
variable {P:Program} {tt:Nat->Option a0n} {ρ:Lk} {O:Nat->Prop} {w:World}
theorem run_pure {α:Type}(a:α)(w:World):(pure a:Sem α).run P w=.ok a w:=rfl
theorem run_bind {α β:Type}(x:Sem α)(f:α->Sem β)(w:World):(x >>= f).run P w=match x.run P w with | .ok a w'=>(f a).run P w' | .halt h w'=>.halt h w':=by
 show (Sem.bind x f).run P w=_
 induction x generalizing w with
 | pure a=>rfl
 | load m a k ih =>
  simp only [Sem.bind,Sem.run];cases w.cell? a with
  | some v=>exact ih v w
  | none=>dsimp only;cases w.farLoad P a (m==.atomic) with
   | ok r=>exact ih _ _
   | error e=>rfl
 | store m a v k ih =>
  cases v<;>simp only [Sem.bind,Sem.run]<;>first
   | rfl
   | (cases w.cell? a with
    | some u=>dsimp only;split<;>first|rfl|exact ih _
    | none=>dsimp only;cases w.farStore P a _ (m==.atomic) with
     | ok r=>exact ih _
     | error e=>rfl)
 | new o k ih=>exact ih _ _
 | shape r k ih=>exact ih _ _
 | freeze a n k ih=>exact ih _
 | frozen a k ih=>exact ih _ _
 | getObj r k ih =>
  simp only [Sem.bind,Sem.run];cases w.heap[r]? with
  | none=>rfl
  | some o=>cases o<;>first|rfl|exact ih _ _
 | setObj r o k ih =>
  simp only [Sem.bind,Sem.run];cases w.heap[r]? with
  | none=>rfl
  | some o=>cases o<;>first|rfl|exact ih _
 | choose q k ih=>simp only [Sem.bind,Sem.run];split<;>exact ih _ _
 | sys c k ih=>exact ih _ _
 | program k ih=>exact ih _ _
 | mark m k ih=>exact ih _
 | halt h=>rfl
theorem a4t (w:World):(program).run P w=.ok P w:=rfl
theorem a0g {t:Nat}{u:TypeDesc}(h:P.underlying t=some u)(w:World):(underlying t).run P w=.ok u w:=by
 unfold underlying;rw [run_bind,a4t];simp only [h];rfl
theorem a7I {t:Nat}{i:TypeInfo}(h:P.info? t=some i)(w:World):(typeInfo t).run P w=.ok i w:=by
 unfold typeInfo;rw [run_bind,a4t];simp only [h];rfl
theorem a1k {t:Nat}{i:TypeInfo}(h:P.info? t=some i)(w:World):(sizeOf t).run P w=.ok i.size w:=by
 unfold sizeOf;rw [run_bind,a7I h];rfl
theorem a4u {t:Nat}{i:TypeInfo}{z:Value}(h:P.info? t=some i)(hz:i.zero=some z)(w:World):(zeroValue t).run P w=.ok z w:=by
 unfold zeroValue;rw [run_bind,a7I h];simp only [hz];rfl
theorem a9u {t:Nat}{u:TypeDesc}(h:P.underlying t=some u)(w:World):(isAgg t).run P w=.ok (a5J P t) w:=by
 unfold isAgg a5J;rw [run_bind,a0g h];simp only [h];cases u<;>rfl
theorem b0l (v:Value):Rep ρ O w (a7t v) v:=by
 unfold a7t;split
 ·rename_i vs
  split
  ·rename_i h
   have key:∀ l:List Value,b5g l=true->∀ (i:Nat) (x:Value),l[i]? = some x->one x=true:=by
    intro l
    induction l with
    | nil=>simp
    | cons a l ih =>
     intro hl i x hx;simp only [b5g] at hl;cases ha:one a with
     | false=>simp [ha] at hl
     | true =>
      simp [ha] at hl;cases i with
      | zero=>simp at hx;subst hx;exact ha
      | succ i=>exact ih hl i x (by simpa using hx)
   refine .agg (by simp) (fun i x hx=>key _ h i x (by simpa using hx)) fun i d hd=>?_
   simp at hd;obtain ⟨x,hx,rfl⟩:=hd;simp [hx];exact .prim x
  ·exact .any _
 ·exact .prim _
theorem a0Z {env:Env}{a:Act}(h:∀ t,Rep ρ O w (env.get t) (a.tmps.getD t undef))(x:Operand):Rep ρ O w (a1m env x) (a.eval x):=by
 cases x with
 | tmp t=>exact h t
 | const v=>exact b0l v
 | global g=>exact .prim _
 | func f=>exact .clo rfl rfl (by simp) (by simp)
def Yes (P:Program)(ρ:Lk)(O:Nat->Prop)(w:World)(s:Sem Value)(d:D):Prop:=∃ v,s.run P w=.ok v w/\Rep ρ O w d v
theorem b8b {d:D}{v:Value}(h:Rep ρ O w d v)(hb:(asB d).2=true):v=.bool (asB d).1:=by
 unfold asB at *;split at hb
 ·cases h;rfl
 ·rename_i u x
  cases h with
  | gd h1 h2=>have:=h1 hb;cases this;rfl
 ·cases hb
theorem b8f {op:BinOp}{t:Nat}{x y v:Value}{p:Prop}(h:c8z op x y=some (v,p))(hp:p):(binOp op t x y).run P w=.ok v w:=by
 unfold c8z at h;split at h
 ·cases op<;>simp only [d9z,d9Q] at h<;>obtain ⟨rfl,rfl⟩:=h <;>
   first
    | (subst hp;simp [binOp,Op.intArith,Op.intCmp,Op.intBits,a2d,pure];done)
    | (obtain ⟨rfl,h0⟩:=hp;simp [binOp,Op.intDiv,h0,pure];done)
    | (simp only [binOp,Op.shift,c5R,c7Y];rw [d9m (by omega)];rfl)
 ·have hm:IntKind.i64.max=9223372036854775807:=by decide
  cases op<;>simp only [d9z,d9Q,reduceCtorEq] at h
  all_goals (obtain ⟨rfl,rfl⟩:=h)
  all_goals (simp only [binOp,Op.stringOp])
  all_goals first
   | (rw [d9m (by rw [hm];omega)];rfl)
   | rfl
 ·cases h
theorem a2p {t:Nat}{u:TypeDesc}(h:P.underlying t=some u){a b:Value}{c:Bool}(w:World)
  (hc:(match u,a,b with
   | .bool,.bool a,.bool b=>some (a==b)
   | .pointer _,.pointer none,.pointer none=>some true
   | .pointer _,.pointer (some _),.pointer none=>some false
   | .slice _,.slice none _ _,.slice none _ _=>some true
   | .slice _,.slice (some _) _ _,.slice none _ _=>some false
   | _,_,_=>none:Option Bool)=some c):(Op.equal t a b).run P w=.ok c w:=by
 show (Op.equalIn (9999+1) t a b).run P w=_;rw [Op.equalIn,run_bind,a0g h];split at hc<;>first|(cases hc;done)|(cases hc;rfl)
theorem c9q {t:Nat}{i:a0n}{x y:D}{a b:Value}{c:Bool}{p:Prop}(ht:a3i P t=some i)(h:eqV i.ti x y=some (c,p))(hp:p)
  (hx:Rep ρ O w x a) (hy:Rep ρ O w y b):(Op.equal t a b).run P w=.ok c w:=by
 unfold eqV at h;split at h<;>try(cases h;done)
 all_goals (rename_i hti;simp only [d9z,d9Q] at h;obtain ⟨rfl,rfl⟩:=h;cases hy)
 ·cases hx;exact a2p (b0X ht hti) w rfl
 ·cases hx<;>exact a2p (a0y ht hti).1 w rfl
 ·cases hx<;>exact a2p (a0y ht hti).1 w rfl
 ·cases hx with
  | nil=>exact d9n rfl hp
  | sl=>exact a2p (a0y ht hti).1 w rfl
  | emp=>exact a2p (a0y ht hti).1 w rfl
 ·cases hx;obtain ⟨e,he⟩:=a9G ht hti;exact a2p he w rfl
 ·cases hx;obtain ⟨e,he⟩:=a9G ht hti;exact a2p he w rfl
 ·cases hx;obtain ⟨e,he⟩:=a9G ht hti;exact a2p he w rfl
theorem c7t {op:BinOp}{t:Nat}{a b:Value}{c e:Bool}(h:c8G op c=some e)(hq:(Op.equal t a b).run P w=.ok c w)
  (hne:(∀ k n,a≠.int k n)/\(∀ s,a≠.string s)/\(∀ k n,a≠.float k n)/\(∀ k m n,a≠.complex k m n)):(binOp op t a b).run P w=.ok (.bool e) w:=by
 obtain ⟨h1,h2,h3,h4⟩:=hne;unfold c8G at h;cases op<;>simp only [d9z,reduceCtorEq] at h
 ·subst h
  cases a<;>first|exact d9n rfl (h1 _ _)|exact d9n rfl (h2 _)|exact d9n rfl (h3 _ _)|exact d9n rfl (h4 _ _ _)|skip
  all_goals (simp only [binOp];rw [run_bind,hq];rfl)
 ·subst h
  cases a<;>first|exact d9n rfl (h1 _ _)|exact d9n rfl (h2 _)|exact d9n rfl (h3 _ _)|exact d9n rfl (h4 _ _ _)|skip
  all_goals (simp only [binOp];rw [run_bind,hq];rfl)
theorem c6q {op:BinOp}{t:Nat}{X Y:Operand}{x y d:D}{a b:Value}{p:Prop}(htt:Tab P tt)(h:c9a tt op t x y=some (d,p))(hp:p)
  (hx:Rep ρ O w x a) (hy:Rep ρ O w y b):Yes P ρ O w (do eqGuard op t X Y a b;binOp op t a b) d:=by
 have guard:a≠.nilIface->(∀ v,a≠.agg v)->∀ r,(binOp op t a b).run P w=.ok r w->(do eqGuard op t X Y a b;binOp op t a b).run P w=.ok r w:=by
  intro g1 g2 r hr
  have:(eqGuard op t X Y a b).run P w=.ok () w:=by
   unfold eqGuard;cases op<;>first
    | rfl
    | (cases a<;>first|exact d9n rfl g1|exact d9n rfl (g2 _)|rfl)
  rw [run_bind,this];exact hr
 unfold c9a at h;split at h
 ·cases hx;cases hy
  split at h
  ·rename_i v q hv
   simp only [d9z,d9Q] at h;obtain ⟨rfl,rfl⟩:=h;exact ⟨v,guard (by simp) (by simp) _ (b8f hv hp),.prim _⟩
  ·cases h
 ·cases hx;cases hy
  split at h
  ·rename_i v q hv
   simp only [d9z,d9Q] at h;obtain ⟨rfl,rfl⟩:=h;exact ⟨v,guard (by simp) (by simp) _ (b8f hv hp),.prim _⟩
  ·cases h
 ·cases hi:tt t with
  | none=>simp [hi] at h
  | some i =>
   cases hc:eqV i.ti x y with
   | none=>simp [hi,hc] at h
   | some r =>
    obtain ⟨c,q⟩:=r;cases he:c8G op c with
    | none=>simp [hi,hc,he] at h
    | some e =>
     simp only [hi,hc,he,d9z,d9Q] at h;obtain ⟨rfl,rfl⟩:=h;have hq:=c9q (htt _ _ hi) hc hp hx hy;have shape:((∀ k n,a≠.int k n)/\(∀ s,a≠.string s)/\(∀ k n,a≠.float k n)/\(∀ k m n,a≠.complex k m n))/\a≠.nilIface/\(∀ v,a≠.agg v):=by
      unfold eqV at hc;split at hc<;>try(cases hc;done)
      all_goals (cases hx<;>simp)
     exact ⟨_,guard shape.2.1 shape.2.2 _ (c7t he hq shape.1),.prim _⟩
theorem d3u {op:UnOp}{x d:D}{a:Value}(h:unD op x=some d)(hx:Rep ρ O w x a):Yes P ρ O w (Op.unary op a) d:=by
 unfold unD at h;split at h<;>try(cases h;done)
 all_goals (cases hx;simp only [d9z] at h;subst h)
 ·exact ⟨_,rfl,.prim _⟩
 ·exact ⟨_,rfl,.prim _⟩
 ·exact ⟨_,rfl,.prim _⟩
theorem c2i {src dst:Nat}{su:TypeDesc}{x d:D}{a:Value}(htt:Tab P tt)(h:c6A tt dst x=some d)(hx:Rep ρ O w x a)
  (hs:P.underlying src=some su):Yes P ρ O w (convert src dst a) d:=by
 unfold c6A at h;cases hi:tt dst with
 | none=>simp [hi] at h
 | some i =>
  simp only [hi] at h;split at h<;>try(cases h;done)
  ·rename_i k k' n hk
   cases hx;simp only [d9z] at h;subst h;refine ⟨.int k (k.wrap n),?_,.prim _⟩;unfold convert;rw [run_bind,a0g hs];dsimp only;rw [run_bind,a0g (b3H (htt _ _ hi) hk)];dsimp only;cases su<;>rfl
  ·rename_i s hk
   cases hx;simp only [d9z] at h;subst h;refine ⟨.string s,?_,.prim _⟩;unfold convert;rw [run_bind,a0g hs];dsimp only;rw [run_bind,a0g (a1W (htt _ _ hi) hk)];dsimp only;cases su<;>rfl
theorem a5r {ag:Bool}{sz off:Nat}{cs:List D}{d:D}(h:a5D ag sz off cs=some d) :
  (ag=true/\d=.agg ((cs.drop off).take sz))\/(ag=false/\cs[off]? = some d):=by
 unfold a5D at h;cases ag with
 | true=>simp only [d9z] at h;exact .inl ⟨rfl,by rw [<- h,c3A,b5v]⟩
 | false =>
  refine .inr ⟨rfl,?_⟩;dsimp only at h;rw [b5v] at h;split at h
  ·rename_i x l hd
   cases h
   have:=congrArg (·[0]?) hd
   simpa using this
  ·cases h
theorem c7A {t o:Nat}{inf:TypeInfo}{u:TypeDesc}{ag:Bool}{ds:List D}{vs:Array Value}{d:D}(hi:P.info? t=some inf)(hu:P.underlying t=some u)
  (hag:a5J P t=ag) (h:a5D ag inf.size o ds=some d) (hx:Rep ρ O w (.agg ds) (.agg vs)):Yes P ρ O w (part t vs o) d:=by
 cases hx with
 | agg hn ho hh =>
  unfold Yes part;rcases a5r h with ⟨rfl,rfl⟩|⟨rfl,h1⟩
  ·refine ⟨.agg (vs.extract o (o+inf.size)),?_,?_⟩
   ·rw [run_bind,a9u hu,hag];dsimp only;rw [d9l rfl,run_bind,a1k hi];rfl
   ·refine .agg (by simp;omega) (fun i x hx=>?_) fun i c hc=>?_
    ·rw [Array.getElem?_extract] at hx
     split at hx
     ·exact ho _ _ hx
     ·cases hx
    ·have hc':=hc
     rw [e0K] at hc;split at hc
     ·rename_i hlt
      rw [e1m] at hc
      have:=hh _ _ hc
      have hlen:o+i<vs.size:=by
       rw [hn];rcases d9H (o+i) ds.length with h'|h'
       ·exact h'
       ·rw [e0c h'] at hc;cases hc
      have e:(vs.extract o (o+inf.size)).getD i undef=vs.getD (o+i) undef:=by
       simp only [d9o,Array.getElem?_extract];rw [d9l (by omega)]
      rw [e];exact this
     ·cases hc
  ·have:=hh _ _ h1
   have hlen:o<vs.size:=by
    rw [hn];rcases d9H o ds.length with h'|h'
    ·exact h'
    ·rw [e0c h'] at h1;cases h1
   refine ⟨vs.getD o undef,?_,this⟩;rw [run_bind,a9u hu,hag];dsimp only;simp [hlen,pure]
end
section
variable {P:Program} {tt:Nat->Option a0n} {ρ:Lk} {O:Nat->Prop} {w:World}
theorem a2W (A:Addr)(w:World):(Instr.sureAddr (.pointer (some A))).run P w=.ok A w:=rfl
theorem c0Y (vs:Array Value)(w:World):(asAgg (.agg vs)).run P w=.ok vs w:=rfl
theorem a4Z (k:IntKind)(n:Int)(w:World):(asIntOf (.int k n)).run P w=.ok (k,n) w:=rfl
theorem a4y (b o n:Nat):(⟨b,o,none⟩:Addr).add n=⟨b,o+n,none⟩:=by
 unfold Addr.add;split
 ·subst n;rfl
 ·rfl
theorem b0M {o sz:Nat}{ag:Bool}{x d:D}{a:Value}(h:a7j o sz ag x=some d)(hx:Rep ρ O w x a) :
  ∃ A:Addr,a=.pointer (some A)/\Rep ρ O w d (.pointer (some (A.add o))):=by
 unfold a7j at h;split at h
 ·simp only [d9z] at h;subst h
  cases hx with
  | optr hr =>
   refine ⟨_,rfl,?_⟩;rw [a4y,e1d];exact .optr hr
 ·rename_i e
  split at h
  ·rename_i c hc
   simp only [d9z] at h;subst h;cases hx with
   | pptr f hO hb hcell ho hh =>
    refine ⟨_,rfl,?_⟩;rw [a4y];have hself:∀ j c',c.cells[j]? = some c'->e.cells[o+j]? = some c':=by
     rcases a5r hc with ⟨rfl,rfl⟩|⟨rfl,h2⟩
     ·intro j c' hj
      simp only [D.cells] at hj;rw [e0K] at hj;split at hj
      ·rwa [e1m] at hj
      ·cases hj
     ·intro j c' hj
      have hlt:o<e.cells.length:=by
       rcases d9H o e.cells.length with h'|h'
       ·exact h'
       ·rw [e0c h'] at h2;cases h2
      rw [(hh o c h2).cells_self (ho o hlt)] at hj;cases j with
      | zero=>simp at hj;subst hj;exact h2
      | succ j=>simp at hj
    have hlen:∀ n,n<c.cells.length->o+n<e.cells.length:=fun n hn=>by
     have:=hself n _ (d9t hn)
     rcases d9H (o+n) e.cells.length with h'|h'
     ·exact h'
     ·rw [e0c h'] at this;cases this
    exact .pptr (fun n=>f (o+n)) hO hb (fun n hn=>by rw [e1d];exact hcell _ (hlen n hn)) (fun n hn=>ho _ (hlen n hn)) fun j d hd=>hh _ _ (hself j d hd)
  ·cases h
 ·cases h
theorem b6P {t f:Nat}{i:a0n}{fs:List (Nat × Nat × Bool)}{o sz:Nat}{ag:Bool}{x d:D}{a:Value}(ht:a3i P t=some i)(hk:i.ti=.struct fs)(hf:fs[f]? = some (o,sz,ag))
  (h:a7j o sz ag x=some d) (hx:Rep ρ O w x a):Yes P ρ O w (Instr.fieldAt t a f) d:=by
 obtain ⟨fa,h1,h2,h3⟩:=a5d ht hk;obtain ⟨g,g1,g2,g3,g4,⟨inf,g5,g6⟩,u,hu⟩:=h3 f _ hf;obtain ⟨A,rfl,hr⟩:=b0M h hx;refine ⟨_,?_,hr⟩;unfold Instr.fieldAt;rw [run_bind,a0g h1];dsimp only;simp only [g1];rw [run_bind,a2W];dsimp only;rw [run_bind]
 have:(fieldPlace A g).run P w=.ok (A.add o) w:=by
  unfold fieldPlace;rw [run_bind,a1k g5];dsimp only;rw [d9m (by rw [g6];exact g4),g2];rfl
 rw [this];rfl
theorem c2B {t f:Nat}{i:a0n}{fs:List (Nat × Nat × Bool)}{o sz:Nat}{ag:Bool}{cs:List D}{d:D}{a:Value}(ht:a3i P t=some i)(hk:i.ti=.struct fs)(hf:fs[f]? = some (o,sz,ag))
  (h:a5D ag sz o cs=some d) (hx:Rep ρ O w (.agg cs) a):Yes P ρ O w (Instr.field t a f) d:=by
 obtain ⟨fa,h1,h2,h3⟩:=a5d ht hk;obtain ⟨g,g1,g2,g3,g4,⟨inf,g5,g6⟩,u,hu⟩:=h3 f _ hf;cases hx with
 | agg hn ho hh =>
  obtain ⟨v,e1,e2⟩:=c7A (d:=d) g5 hu g3 (by rw [g6];exact h) (.agg hn ho hh);refine ⟨v,?_,e2⟩;unfold Instr.field;rw [run_bind,a0g h1];dsimp only;simp only [g1];rw [run_bind,c0Y];dsimp only;rw [show g.offset=o from g2];exact e1
theorem b4y {t n esz:Nat}{i:a0n}{ag:Bool}{k:IntKind}{j:Int}{x d:D}{a:Value}(ht:a3i P t=some i)(hk:i.ti=.arr n esz ag)
  (h:a7j (j.toNat*esz) esz ag x=some d) (h0:0<=j) (h1:j<n) (hx:Rep ρ O w x a):Yes P ρ O w (Instr.indexAt t a (.int k j)) d:=by
 obtain ⟨e,e1,e2,inf,e3,e4⟩:=a9F ht hk;obtain ⟨A,rfl,hr⟩:=b0M h hx;refine ⟨_,?_,hr⟩;unfold Instr.indexAt;rw [run_bind,a4Z];dsimp only;rw [run_bind,a0g e1];dsimp only;rw [run_bind,a2W];dsimp only;rw [run_bind,run_pure];dsimp only;rw [run_bind,a0g e1];dsimp only;rw [d9l ⟨h0,h1⟩,run_bind,a1k e3,e4];rfl
theorem b4z {t e esz eby:Nat}{ez:Value}{i:a0n}{k':IntKind}{j:Int}{k g p len:Nat}{a:Value}(ht:a3i P t=some i)(hk:i.ti=.slice e esz eby ez)
  (h0:0<=j) (h1:j<len) (hx:Rep ρ O w (.osl k g esz p len) a):Yes P ρ O w (Instr.indexAt t a (.int k' j)) (.optr k g esz (p+j.toNat) 0):=by
 obtain ⟨e1,⟨inf,e3,e4,_⟩,_⟩:=a0y ht hk;cases hx with
 | onil=>omega
 | osl hr hb hc hs hm =>
  refine ⟨_,?_,.optr hr⟩;unfold Instr.indexAt;rw [run_bind,a4Z];dsimp only;rw [run_bind,a0g e1];dsimp only;rw [run_bind,run_pure];dsimp only;rw [run_bind,a0g e1];dsimp only;rw [d9l ⟨h0,h1⟩,run_bind,a1k e3,e4];dsimp only;rw [a4y,e0e];rfl
theorem b0E {t e esz eby:Nat}{ez:Value}{i:a0n}{k':IntKind}{j:Int}{nn:Bool}{es:List D}{d:D}{a:Value}(ht:a3i P t=some i)(hk:i.ti=.slice e esz eby ez)
  (h0:0<=j) (h1:es[j.toNat]? = some d) (hx:Rep ρ O w (.sl nn esz es) a):Yes P ρ O w (Instr.indexAt t a (.int k' j)) (.pptr d):=by
 obtain ⟨e1,⟨inf,e3,e4,_⟩,_⟩:=a0y ht hk;cases hx with
 | nil=>simp at h1
 | emp=>simp at h1
 | sl f hl hc hO hb hz hcell ho hh =>
  have hlt:j.toNat<es.length:=by
   rcases d9H j.toNat es.length with h'|h'
   ·exact h'
   ·rw [e0c h'] at h1;cases h1
  rename_i b off len cap;have hd:=hz _ _ h1;have hin:∀ n,n<d.cells.length->j.toNat*esz+n<len*esz:=fun n hn=>by
   have:(j.toNat+1)*esz<=len*esz:=d9K _ (by omega)
   rw [e0e] at this;omega
  refine ⟨.pointer (some ⟨b,off+j.toNat*esz,none⟩),?_,.pptr (fun n=>f (j.toNat*esz+n)) hO hb (fun n hn=>?_) (fun n hn=>ho _ (hin n hn)) fun n c hn=>hh _ _ _ _ h1 hn⟩
  ·unfold Instr.indexAt
   rw [run_bind,a4Z];dsimp only;rw [run_bind,a0g e1];dsimp only;rw [run_bind,run_pure];dsimp only;rw [run_bind,a0g e1];dsimp only;rw [d9l ⟨h0,by omega⟩,run_bind,a1k e3,e4];dsimp only;rw [a4y];rfl
  ·rw [e1d];exact hcell _ (hin n hn)
theorem a7U {n m:Nat}{x:D}{a:Value}{l:Nat}{p:Prop}(code:BoundsCode)(h:b2j n x=some (l,p))(hp:p)(hnm:n<=m)(hx:Rep ρ O w x a) :
  (Instr.sliceBound a m code).run P w=.ok l w/\l<=n:=by
 unfold b2j at h;split at h
 ·rename_i k q
  simp only [d9z,d9Q] at h;obtain ⟨rfl,rfl⟩:=h;cases hx;refine ⟨?_,by omega⟩;unfold Instr.sliceBound;rw [run_bind,a4Z];dsimp only;rw [d9l ⟨hp.1,by omega⟩];rfl
 ·cases h
theorem a3Z {n m:Nat}{lo hi:Option Operand}{g:Operand->D}{ev:Operand->Value}{l h:Nat}{p:Prop}(hg:∀ x,Rep ρ O w (g x) (ev x))(hb:a4K n (lo.map g) (hi.map g)=some (l,h,p))
  (hp:p) (isS:Bool) (hnm:n<=m):(Instr.sliceBounds isS n m (lo.map ev) (hi.map ev) none).run P w=.ok (l,h,m) w/\l<=h/\h<=n:=by
 unfold Instr.sliceBounds;cases hi with
 | none =>
  cases lo with
  | none =>
   simp only [Option.map,a4K,d9z,d9Q] at hb;obtain ⟨rfl,rfl,rfl⟩:=hb;exact ⟨rfl,by omega,by omega⟩
  | some lo =>
   simp only [Option.map,a4K] at hb;split at hb
   ·rename_i l' q hl
    simp only [d9z,d9Q] at hb;obtain ⟨rfl,rfl,rfl⟩:=hb;obtain ⟨h1,h2⟩:=a7U (P:=P) .sliceB hl hp (d9y _) (hg lo);refine ⟨?_,by omega,by omega⟩;simp only [Option.map];rw [run_bind,run_pure];dsimp only;rw [run_bind,run_pure];dsimp only;rw [run_bind,d9m (by simp),h1];rfl
   ·cases hb
 | some hi =>
  cases lo with
  | none =>
   simp only [Option.map,a4K] at hb;split at hb
   ·rename_i h' q hh
    simp only [d9z,d9Q] at hb;obtain ⟨rfl,rfl,rfl⟩:=hb;obtain ⟨h1,h2⟩:=a7U (P:=P) (m:=m) (if isS then .sliceAcap else .sliceAlen) hh hp hnm (hg hi);refine ⟨?_,by omega,by omega⟩;simp only [Option.map];rw [run_bind,run_pure];dsimp only;rw [run_bind,h1];rfl
   ·cases hb
  | some lo =>
   simp only [Option.map,a4K] at hb;split at hb
   ·rename_i h' q hh
    split at hb
    ·rename_i l' q' hl
     simp only [d9z,d9Q] at hb;obtain ⟨rfl,rfl,rfl⟩:=hb;obtain ⟨h1,h2⟩:=a7U (P:=P) (m:=m) (if isS then .sliceAcap else .sliceAlen) hh hp.1 hnm (hg hi);obtain ⟨h3,h4⟩:=a7U (P:=P) .sliceB hl hp.2 (d9y _) (hg lo);refine ⟨?_,by omega,by omega⟩;simp only [Option.map];rw [run_bind,run_pure];dsimp only;rw [run_bind,h1];dsimp only;rw [run_bind,d9m (by simp),h3];rfl
    ·cases hb
   ·cases hb
theorem a3o {t:Nat}{u:TypeDesc}(hu:P.underlying t=some u)(hn:∀ n e,u≠.array n e)(x:Value)(lo hi:Option Value) :
  (Instr.sliceAt t x lo hi none).run P w=(Instr.slice t x lo hi none).run P w:=by
 unfold Instr.sliceAt;rw [run_bind,a0g hu];dsimp only;cases u<;>first|rfl|exact d9n rfl (hn _ _)
theorem c1k {t:Nat}{x d:D}{a:Value}{lo hi:Option Operand}{g:Operand->D}{ev:Operand->Value}{p:Prop}(htt:Tab P tt)(hg:∀ x,Rep ρ O w (g x) (ev x))
  (h:b3B tt t x (lo.map g) (hi.map g)=some (d,p)) (hp:p) (hx:Rep ρ O w x a):Yes P ρ O w (Instr.sliceAt t a (lo.map ev) (hi.map ev) none) d:=by
 unfold b3B at h;cases hi':tt t with
 | none=>simp [hi'] at h
 | some i =>
  simp only [hi'] at h;split at h<;>try(cases h;done)
  ·rename_i s hk
   split at h<;>try(cases h;done)
   rename_i l hh q hb;simp only [d9z,d9Q] at h;obtain ⟨rfl,rfl⟩:=h;cases hx;have hu:=a1W (htt _ _ hi') hk;obtain ⟨h1,h2,h3⟩:=a3Z (P:=P) hg hb hp false (d9y _);refine ⟨_,?_,.prim _⟩;rw [a3o hu (by simp)];unfold Instr.slice;rw [run_bind,a0g hu];dsimp only;rw [d9m (by simp),run_bind,h1];rfl
  ·rename_i e esz eby ez nn sz es hk
   split at h<;>try(cases h;done)
   rename_i l hh q hb;simp only [d9z,d9Q] at h;obtain ⟨rfl,rfl⟩:=h;obtain ⟨hp,rfl⟩:=hp;obtain ⟨hu,⟨inf,e3,e4,_⟩,_⟩:=a0y (htt _ _ hi') hk;cases hx with
   | nil =>
    obtain ⟨h1,h2,h3⟩:=a3Z (P:=P) hg hb hp true (d9y _);have hz:l=0/\hh=0:=by simp at h3;omega
    obtain ⟨rfl,rfl⟩:=hz;simp only [d9R] at h1;refine ⟨.slice none 0 0,?_,by simpa using .nil _⟩;rw [a3o hu (by simp)];unfold Instr.slice;rw [run_bind,a0g hu];dsimp only;rw [run_bind,h1];dsimp only;rw [run_bind,a1k e3];rfl
   | emp a =>
    obtain ⟨h1,h2,h3⟩:=a3Z (P:=P) hg hb hp true (d9y _);have hz:l=0/\hh=0:=by simp at h3;omega
    obtain ⟨rfl,rfl⟩:=hz;simp only [d9R] at h1;refine ⟨.slice (some a) 0 0,?_,by simpa using .emp a⟩;rw [a3o hu (by simp)];unfold Instr.slice;rw [run_bind,a0g hu];dsimp only;rw [run_bind,h1];dsimp only;rw [run_bind,a1k e3,e4];dsimp only;rw [run_pure];simp
   | sl f hl hc hO hbk hz hcell ho hr =>
    rename_i b off len cap;subst hl;obtain ⟨h1,h2,h3⟩:=a3Z (P:=P) hg hb hp true hc;have hlen:((es.drop l).take (hh - l)).length=hh - l:=by simp;omega
    have hget:∀ (i:Nat) (e:D),((es.drop l).take (hh - l))[i]? = some e->i<hh - l/\es[l+i]? = some e:=fun i e hi=>by
     rw [e0K] at hi;split at hi
     ·rw [e1m] at hi;exact ⟨by assumption,hi⟩
     ·cases hi
    have hin:∀ n,n<(hh - l)*esz->l*esz+n<es.length*esz:=fun n hn=>by
     have:(l+(hh - l))*esz<=es.length*esz:=d9K _ (by omega)
     rw [e0e] at this;omega
    have run:(Instr.sliceAt t (.slice (some ⟨b,off,none⟩) es.length cap) (lo.map ev) (hi.map ev) none).run P w =
      .ok (.slice (some (if cap=l then ⟨b,off,none⟩ else ⟨b,off+l*esz,none⟩)) (hh - l) (cap - l)) w:=by
     rw [a3o hu (by simp)];unfold Instr.slice;rw [run_bind,a0g hu];dsimp only;rw [run_bind,h1];dsimp only;rw [run_bind,a1k e3,e4];dsimp only;rw [run_pure]
     by_cases hcl:cap=l
     ·simp [hcl]
     ·simp [hcl,a4y]
    refine ⟨_,run,?_⟩
    by_cases hcl:cap=l
    ·rw [d9l hcl]
     have h0:hh - l=0:=by omega
     exact .sl (fun _=>undef) hlen (by omega) hO hbk (fun i e hi=>by have:=(hget i e hi).1;omega) (fun n hn=>by rw [h0] at hn;simp at hn) (fun n hn=>by rw [h0] at hn;simp at hn)
      fun i e j d hi=>by have:=(hget i e hi).1;omega
    ·rw [d9m hcl]
     exact .sl (fun n=>f (l*esz+n)) hlen (by omega) hO hbk (fun i e hi=>hz _ _ (hget i e hi).2) (fun n hn=>by rw [e1d];exact hcell _ (hin n hn)) (fun n hn=>ho _ (hin n hn))
      fun i e j d hi hj=>by have:=hr _ _ j d (hget i e hi).2 hj;rwa [e0e,e1d] at this
  ·rename_i e esz eby ez k gg sz j len hk
   split at h<;>try(cases h;done)
   rename_i l hh q hb;simp only [d9z,d9Q] at h;obtain ⟨rfl,rfl⟩:=h;obtain ⟨hp,rfl,hlh⟩:=hp;obtain ⟨hu,⟨inf,e3,e4,_⟩,_⟩:=a0y (htt _ _ hi') hk;cases hx with
   | onil =>
    obtain ⟨h1,h2,h3⟩:=a3Z (P:=P) hg hb hp true (d9y _);have hz:l=0/\hh=0:=by omega
    obtain ⟨rfl,rfl⟩:=hz;refine ⟨.slice none 0 0,?_,.onil _ _ _⟩;rw [a3o hu (by simp)];unfold Instr.slice;rw [run_bind,a0g hu];dsimp only;rw [run_bind,h1];dsimp only;rw [run_bind,a1k e3];rfl
   | osl hr hbk hc hs hm =>
    rename_i cap b T cs fz;obtain ⟨h1,h2,h3⟩:=a3Z (P:=P) hg hb hp true hc;refine ⟨.slice (some ⟨b,(j+l)*esz,none⟩) (hh - l) (cap - l),?_,.osl hr hbk (by omega) ?_ (by omega)⟩
    ·rw [a3o hu (by simp)]
     unfold Instr.slice;rw [run_bind,a0g hu];dsimp only;rw [run_bind,h1];dsimp only;rw [run_bind,a1k e3,e4];dsimp only;rw [run_pure];rcases hlh with hlh|rfl
     ·rw [d9m (by omega),e0e]
      simp [a4y]
     ·simp [a4y]
    ·rw [<- hs];congr 1;omega
theorem b1u (off:Nat):∀ (vs:List Value) (k:Nat) (cells:Array Value) (j:Nat),
  ((vs.zipIdx k).foldl (fun cs (x:Value × Nat)=>cs.setIfInBounds (off+x.2) x.1) cells)[j]? = (if off+k<=j/\j<off+k+vs.length/\j<cells.size then vs[j - off - k]? else cells[j]?)
 | [],k,cells,j=>by simp;omega
 | v::vs,k,cells,j=>by
  simp only [List.zipIdx_cons,List.foldl_cons];rw [b1u off vs (k+1)];simp only [e2U,d9u,e0q]
  by_cases h1:off+(k+1)<=j/\j<off+(k+1)+vs.length/\j<cells.size
  ·rw [d9l h1,d9l (by omega),show j - off - k=(j - off - (k+1))+1 from by omega,e1l]
  ·rw [d9m h1]
   by_cases h2:off+k=j
   ·rw [d9l h2]
    subst h2
    by_cases h3:off+k<cells.size
    ·rw [d9l h3,d9l (by omega),show off+k - off - k=0 from by omega];rfl
    ·rw [d9m h3,d9m (by omega)]
     rw [e2i (by omega)]
   ·rw [d9m h2,d9m (by omega)]
theorem a6q (off:Nat):∀ (vs:List (Value × Nat)) (cells:Array Value),(vs.foldl (fun cs (x:Value × Nat)=>cs.setIfInBounds (off+x.2) x.1) cells).size=cells.size
 | [],_=>rfl
 | v::vs,cells=>by simp only [List.foldl_cons];rw [a6q off vs];simp
structure b1e (ρ:Lk)(O:Nat->Prop)(w:World)(cs:List D)(vs:Array Value):Prop where
 len:vs.size=cs.length
 one:∀ (i:Nat) (v:Value),vs[i]? = some v->one v=true
 rep:∀ (i:Nat) (d:D),cs[i]? = some d->Rep ρ O w d (vs.getD i undef)
theorem b1e.set {cs:List D}{vs:Array Value}(h:b1e ρ O w cs vs){ag:Bool}{sz off:Nat}{d:D}{v:Value}(hf:a0Y ag sz d)(hx:Rep ρ O w d v)(hl:off+sz<=cs.length) :
  b1e ρ O w (b1P cs off (a0R ag d)) (v.cells.toList.zipIdx.foldl (fun cs (x:Value × Nat)=>cs.setIfInBounds (off+x.2) x.1) vs):=by
 obtain ⟨h1,h2,h3,h4,_⟩:=hf ρ O w v hx;have get:∀ j,(v.cells.toList.zipIdx.foldl (fun cs (x:Value × Nat)=>cs.setIfInBounds (off+x.2) x.1) vs)[j]? = if off<=j/\j<off+sz then v.cells[j - off]? else vs[j]?:=fun j=>by
  rw [b1u]
  have:=h.len
  by_cases hj:off<=j/\j<off+sz
  ·rw [d9l hj,d9l (by simp [h1];omega)];simp
  ·rw [d9m hj,d9m (by simp [h1];omega)]
 refine ⟨by rw [a6q,a9w];exact h.len,fun i x hx'=>?_,fun i c hc=>?_⟩
 ·rw [get] at hx'
  split at hx'
  ·exact h2 _ _ hx'
  ·exact h.one _ _ hx'
 ·rw [d9o,get]
  rw [b6l,h3] at hc;split at hc
  ·rename_i hj
   rw [d9l (by omega)]
   have:=h4 _ _ hc
   rwa [d9o] at this
  ·rename_i hj
   by_cases hj':off<=i/\i<off+sz
   ·exact d9n ⟨by omega,hj'.1,hj'.2⟩ hj
   ·rw [d9m hj']
    have:=h.rep _ _ hc
    rwa [d9o] at this
theorem b4o {fs:List (Nat × Nat × Bool)}{g:Operand->D}{ev:Operand->Value}(hg:∀ x,Rep ρ O w (g x) (ev x)){place:Nat->Option (Nat × Nat)}
  (hpl:∀ i x,fs[i]? = some x->place i=some (x.1,x.2.1)):∀ (ps:List (Nat × Operand)) (cs cs':List D) (p:Prop) (vs:Array Value),a6Y fs g ps cs=some (cs',p)->p->b1e ρ O w cs vs ->
   ∃ vs',Instr.fill place vs (ps.map fun x=>(x.1,ev x.2))=some vs'/\b1e ρ O w cs' vs'
 | [],cs,cs',p,vs,h,hp,hs=>by
  simp only [a6Y,d9z,d9Q] at h;obtain ⟨rfl,rfl⟩:=h;exact ⟨vs,rfl,hs⟩
 | (i,x)::r,cs,cs',p,vs,h,hp,hs=>by
  simp only [a6Y] at h;cases hfi:fs[i]? with
  | none=>simp [hfi] at h
  | some q =>
   obtain ⟨o,sz,ag⟩:=q;simp only [hfi] at h;cases hr:a6Y fs g r (b1P cs o (a0R ag (g x))) with
   | none=>simp [hr] at h
   | some q =>
    obtain ⟨c2,q2⟩:=q;simp only [hr,d9z,d9Q] at h;obtain ⟨rfl,rfl⟩:=h;obtain ⟨⟨hfit,hlen⟩,hq⟩:=hp;obtain ⟨h1,_⟩:=hfit ρ O w _ (hg x);obtain ⟨vs',e1,e2⟩:=b4o hg hpl r _ _ _ _ hr hq (hs.set hfit (hg x) hlen);refine ⟨vs',?_,e2⟩;simp only [e0I,Instr.fill,hpl i _ hfi];have hl:=hs.len;rw [d9m (by simp [h1];omega)];rw [<- Array.foldl_toList,Array.toList_zipIdx];exact e1
theorem b1e.zero {z:Value}(h2:∀ (j:Nat) (x:Value),z.cells[j]? = some x->Ide.one x=true):b1e ρ O w (z.cells.toList.map .prim) z.cells :=
 ⟨by simp,h2,fun i d hd=>by
  simp at hd;obtain ⟨x,hx,rfl⟩:=hd;simp [hx];exact .prim x⟩
theorem a9b {P:Program}:∀ (fs:List Field) (l:List (Nat × Nat × Bool)),b7Q P fs=some l ->
  fs.mapM (fun f=>(P.info? f.type).map fun i=>(f.offset,i.size))=some (l.map fun x=>(x.1,x.2.1))
 | [],l,h=>by simp [b7Q] at h;subst h;rfl
 | f::fs,l,h=>by
  simp only [b7Q] at h;cases hx:a8F P f with
  | none=>simp [hx] at h
  | some x =>
   cases hl:b7Q P fs with
   | none=>simp [hx,hl] at h
   | some l2 =>
    simp [hx,hl] at h;subst h
    have:=a9b fs l2 hl
    unfold a8F at hx;cases hi:P.info? f.type with
    | none=>simp [hi] at hx
    | some i =>
     simp only [hi] at hx;split at hx<;>try(cases hx;done)
     split at hx
     ·cases hx
     ·cases hx
      simp [List.mapM_cons,hi,this]
theorem b8k {t:Nat}{g:Operand->D}{ev:Operand->Value}{ps:Array (Nat × Operand)}{d:D}{p:Prop}(htt:Tab P tt)(hg:∀ x,Rep ρ O w (g x) (ev x))
  (h:b2k tt t g ps.toList=some (d,p)) (hp:p):Yes P ρ O w (Instr.build t (ps.map fun (i,x)=>(i,ev x))) d:=by
 unfold b2k at h;cases hi:tt t with
 | none=>simp [hi] at h
 | some i =>
  simp only [hi] at h;split at h<;>try(cases h;done)
  rename_i fs hk;split at h<;>try(cases h;done)
  rename_i cs q hf;simp only [d9z,d9Q] at h;obtain ⟨rfl,rfl⟩:=h;have ht:=htt _ _ hi;obtain ⟨inf,u,h1,h2,h3,h4,h5,h6,h7⟩:=a1F ht;obtain ⟨h8,h9⟩:=a4a h6;unfold b1F at hk;split at hk<;>try(cases hk;done)
  rotate_left
  ·rename_i n esz eag hti
   cases hk;obtain ⟨e,g1,g2,inf2,g3,g4⟩:=a9F ht hti;obtain ⟨vs',e1,e2⟩:=b4o hg (place:=fun i=>some (i*inf2.size,inf2.size)) (fun i x hx=>by
    rw [d9E] at hx;cases hr:(List.range n)[i]? with
    | none=>rw [hr] at hx;cases hx
    | some j =>
     rw [hr] at hx;have hj:j=i:=by
      obtain ⟨q1,q2⟩:=List.getElem?_eq_some_iff.1 hr;simp at q2;exact q2.symm
     subst hj;cases hx;rw [g4]) ps.toList _ _ _ _ hf hp (b1e.zero h9)
   refine ⟨.agg vs',?_,.agg e2.len e2.one e2.rep⟩;apply run_build;unfold Program.built;simp only [h1,g1,h3,g3];rw [<- e1];simp
  rename_i fs' hk';cases hk;have hk:=hk';rw [hk] at h7;have hu:∃ fa,u=.struct fa/\b7Q P fa.toList=some fs:=by
   cases u<;>simp only [b4W] at h7<;>(repeat' split at h7)<;>simp_all
  obtain ⟨fa,rfl,hm⟩:=hu;have hpl:=a9b _ _ hm;obtain ⟨vs',e1,e2⟩:=b4o hg (place:=((fs.map fun x=>(x.1,x.2.1)).toArray[·]?)) (fun i x hx=>by simp [hx]) ps.toList _ _ _ _ hf hp (b1e.zero h9);refine ⟨.agg vs',?_,.agg e2.len e2.one e2.rep⟩;apply run_build;unfold Program.built;simp only [h1,h2,h3,hpl];rw [<- e1];simp
theorem b0v:∀ (l:List D) (vs:List Value) (k:IntKind) (a:Int) (d:D) (p:Prop),a4S k a l=some (d,p)->vs.length=l.length->(∀ (i:Nat) (c:D),l[i]? = some c->Rep ρ O w c (vs.getD i undef)) ->
  Yes P ρ O w (vs.foldlM Builtin.min2 (.int k a)) d
 | [],[],k,a,d,p,h,_,_=>by
  simp only [a4S,d9z,d9Q] at h;obtain ⟨rfl,rfl⟩:=h;exact ⟨_,rfl,.prim _⟩
 | c::l,v::vs,k,a,d,p,h,hl,hr=>by
  unfold a4S at h;split at h<;>try(cases h;done)
  ·rename_i heq;cases heq
  ·rename_i kk b r heq
   cases heq
   have:=hr 0 _ rfl
   simp at this;cases this;obtain ⟨u,h1,h2⟩:=b0v l vs k (min a b) d p h (by simpa using hl) (fun i c hc=>by have:=hr (i+1) c (by simpa using hc);simpa using this);refine ⟨u,?_,h2⟩;rw [List.foldlM_cons,run_bind];have e:(Builtin.min2 (.int k a) (.int kk b)).run P w=.ok (.int k (min a b)) w:=by
    simp only [Builtin.min2];rw [run_pure];congr 2
    by_cases hab:b<a
    ·rw [d9l hab];omega
    ·rw [d9m hab];omega
   rw [e];exact h1
 | [],_::_,_,_,_,_,_,hl,_=>by simp at hl
 | _::_,[],_,_,_,_,_,hl,_=>by simp at hl
theorem b0u:∀ (l:List D) (vs:List Value) (k:IntKind) (a:Int) (d:D) (p:Prop),a4R k a l=some (d,p)->vs.length=l.length->(∀ (i:Nat) (c:D),l[i]? = some c->Rep ρ O w c (vs.getD i undef)) ->
  Yes P ρ O w (vs.foldlM Builtin.max2 (.int k a)) d
 | [],[],k,a,d,p,h,_,_=>by
  simp only [a4R,d9z,d9Q] at h;obtain ⟨rfl,rfl⟩:=h;exact ⟨_,rfl,.prim _⟩
 | c::l,v::vs,k,a,d,p,h,hl,hr=>by
  unfold a4R at h;split at h<;>try(cases h;done)
  ·rename_i heq;cases heq
  ·rename_i kk b r heq
   cases heq
   have:=hr 0 _ rfl
   simp at this;cases this;obtain ⟨u,h1,h2⟩:=b0u l vs k (max a b) d p h (by simpa using hl) (fun i c hc=>by have:=hr (i+1) c (by simpa using hc);simpa using this);refine ⟨u,?_,h2⟩;rw [List.foldlM_cons,run_bind];have e:(Builtin.max2 (.int k a) (.int kk b)).run P w=.ok (.int k (max a b)) w:=by
    simp only [Builtin.max2];rw [run_pure];congr 2
    by_cases hab:b>a
    ·rw [d9l hab];omega
    ·rw [d9m hab];omega
   rw [e];exact h1
 | [],_::_,_,_,_,_,_,hl,_=>by simp at hl
 | _::_,[],_,_,_,_,_,hl,_=>by simp at hl
theorem a8W {t:Nat}{u:TypeDesc}(hu:P.underlying t=some u){a:Value}{n:Nat}{ty:Nat}{cst:Array Bool}
  (hm:(match u,a with | .string,.string s=>some s.size | .slice _,.slice _ n _=>some n|_,_=>none)=some n):(builtin .len #[t] ty cst #[a]).run P w=.ok (.value (.int .i64 n)) w:=by
 simp only [builtin];rw [run_bind]
 have:(Builtin.len_ #[t] ty #[a]).run P w=.ok (.int .i64 n) w:=by
  unfold Builtin.len_;simp only [e1v,e2B];rw [run_bind,a0g hu];dsimp only;split at hm<;>first|(cases hm;done)|(simp only [d9z] at hm;subst hm;rfl)
 rw [this];rfl
theorem b4d {b:Builtin}{tys:Array Nat}{ty:Nat}{cst:Array Bool}{args:Array Operand}{g:Operand->D}{ev:Operand->Value}{d:D}{p:Prop}(htt:Tab P tt)(hg:∀ x,Rep ρ O w (g x) (ev x))
  (h:a6k tt b tys.toList (args.toList.map g)=some (d,p)):∃ v,(builtin b tys ty cst (args.map ev)).run P w=.ok (.value v) w/\Rep ρ O w d v:=by
 obtain ⟨args⟩:=args;obtain ⟨tys⟩:=tys;dsimp only at h;unfold a6k at h;split at h<;>try(cases h;done)
 ·rename_i x hargs
  obtain ⟨X,rfl,rfl⟩:∃ X,args=[X]/\g X=x:=by
   cases args with
   | nil=>simp at hargs
   | cons X r=>cases r with
    | nil=>simp at hargs;exact ⟨X,rfl,hargs⟩
    | cons=>simp at hargs
  split at h<;>try(cases h;done)
  rename_i t;have hX:=hg X;rw [show Array.map ev ⟨[X]⟩ = #[ev X] from by simp];generalize ev X=a at hX ⊢;generalize g X=x at h hX;cases hi:tt t with
  | none=>simp [hi] at h
  | some i =>
   simp only [hi] at h;have ht:=htt _ _ hi;split at h<;>try(cases h;done)
   all_goals (simp only [d9z,d9Q] at h;obtain ⟨rfl,rfl⟩:=h)
   ·rename_i s hk
    cases hX;exact ⟨_,a8W (a1W ht hk) rfl,.prim _⟩
   ·rename_i nn sz es hk
    cases hX with
    | nil=>exact ⟨_,a8W (a0y ht hk).1 rfl,.prim _⟩
    | sl f hl=>subst hl;exact ⟨_,a8W (a0y ht hk).1 rfl,.prim _⟩
    | emp=>exact ⟨_,a8W (a0y ht hk).1 rfl,.prim _⟩
   ·rename_i k g sz i len' hk
    cases hX with
    | onil=>exact ⟨_,a8W (a0y ht hk).1 rfl,.prim _⟩
    | osl=>exact ⟨_,a8W (a0y ht hk).1 rfl,.prim _⟩
   ·rename_i n c hk
    cases hX;exact ⟨_,a8W (a0y ht hk).1 rfl,.prim _⟩
 ·rename_i k a r hargs
  cases args with
  | nil=>simp at hargs
  | cons X xs =>
   simp only [e0I,e0P] at hargs;obtain ⟨h1,h2⟩:=hargs;have hX:=hg X;rw [h1] at hX;generalize hv:ev X=v at hX;cases hX;obtain ⟨u,e1,e2⟩:=b0v (P:=P) (ρ:=ρ) (O:=O) (w:=w) r (xs.map ev) k a d p h (by simp [<- h2]) (fun i c hc=>by
    rw [<- h2] at hc;simp at hc;obtain ⟨y,hy,rfl⟩:=hc;simp [hy];exact hg y)
   refine ⟨u,?_,e2⟩;simp only [builtin];rw [run_bind]
   have:(Builtin.min_ ⟨tys⟩ ty (Array.map ev ⟨X::xs⟩)).run P w=.ok u w:=by
    unfold Builtin.min_;simp only [List.map_toArray,e0I,hv];exact e1
   rw [this];rfl
 ·rename_i k a r hargs
  cases args with
  | nil=>simp at hargs
  | cons X xs =>
   simp only [e0I,e0P] at hargs;obtain ⟨h1,h2⟩:=hargs;have hX:=hg X;rw [h1] at hX;generalize hv:ev X=v at hX;cases hX;obtain ⟨u,e1,e2⟩:=b0u (P:=P) (ρ:=ρ) (O:=O) (w:=w) r (xs.map ev) k a d p h (by simp [<- h2]) (fun i c hc=>by
    rw [<- h2] at hc;simp at hc;obtain ⟨y,hy,rfl⟩:=hc;simp [hy];exact hg y)
   refine ⟨u,?_,e2⟩;simp only [builtin];rw [run_bind]
   have:(Builtin.max_ ⟨tys⟩ ty (Array.map ev ⟨X::xs⟩)).run P w=.ok u w:=by
    unfold Builtin.max_;simp only [List.map_toArray,e0I,hv];exact e1
   rw [this];rfl
theorem b8T {o:Oper}{g:Operand->D}{ev:Operand->Value}{d:D}{p:Prop}(htt:Tab P tt)(hg:∀ x,Rep ρ O w (g x) (ev x))(h:evP tt g o.op=some (d,p))(hp:p) :
  ∃ v,(execOp ev o).run P w=.ok (.value v) w/\Rep ρ O w d v:=by
 have lift:∀ (s:Sem Value),Yes P ρ O w s d->∃ v,(do pure (Next.value (<- s)):Sem Next).run P w=.ok (.value v) w/\Rep ρ O w d v:=fun s ⟨v,h1,h2⟩=>⟨v,by rw [run_bind,h1];rfl,h2⟩
 unfold execOp;unfold evP at h;split at h<;>try(cases h;done)
 ·rename_i x ho
  simp only [d9z,d9Q] at h;obtain ⟨rfl,rfl⟩:=h;simp only [ho];exact ⟨_,rfl,hg x⟩
 ·rename_i x ho
  simp only [d9z,d9Q] at h;obtain ⟨rfl,rfl⟩:=h;simp only [ho];exact ⟨_,rfl,hg x⟩
 ·rename_i c a b ho
  simp only [ho];split at h<;>try(cases h;done)
  rename_i t hc;simp only [d9z,d9Q] at h;obtain ⟨rfl,rfl⟩:=h
  have:=hg c
  rw [hc] at this;generalize hv:ev c=v at this;cases this;refine ⟨if t then ev a else ev b,rfl,?_⟩;cases t with
  | true=>rw [d9l rfl,b8b (hg a) (hp.1 rfl)];exact .prim _
  | false=>rw [d9m (by simp),b8b (hg b) (hp.2 rfl)];exact .prim _
 ·rename_i t ps ho
  simp only [ho];exact lift _ (b8k htt hg h hp)
 ·rename_i x ho
  simp only [ho];split at h<;>try(cases h;done)
  all_goals (rename_i hx;simp only [d9z,d9Q] at h;obtain ⟨rfl,rfl⟩:=h;have:=hg x;rw [hx] at this;generalize hv:ev x=v at this)
  ·cases this with|pptr f hO hb hcell ho hh=>exact ⟨_,rfl,.pptr f hO hb hcell ho hh⟩
  ·cases this with|optr hr=>exact ⟨_,rfl,.optr hr⟩
  ·cases this with|clo a b c d=>exact ⟨_,rfl,.clo a b c d⟩
 ·rename_i op t x y yt ho
  simp only [ho];exact lift _ (c6q htt h hp (hg x) (hg y))
 ·rename_i op t x ho
  simp only [ho];split at h<;>try(cases h;done)
  rename_i e he;simp only [d9z,d9Q] at h;obtain ⟨rfl,rfl⟩:=h;exact lift _ (d3u he (hg x))
 ·rename_i src dst x ho
  simp only [ho];cases hs:tt src with
  | none=>simp [hs] at h
  | some si =>
   simp only [hs] at h;split at h<;>try(cases h;done)
   rename_i e he;simp only [d9z,d9Q] at h;obtain ⟨rfl,rfl⟩:=h;obtain ⟨_,u,_,hu,_⟩:=a1F (htt _ _ hs);exact lift _ (c2i htt he (hg x) hu)
 ·rename_i f a b ho
  simp only [ho];simp only [d9z,d9Q] at h;obtain ⟨rfl,rfl⟩:=h;refine lift _ ⟨_,rfl,.clo (by simp) (by simp) (fun i d hd=>?_) fun i d hd=>?_⟩
  ·simp at hd;obtain ⟨y,hy,rfl⟩:=hd;simp [hy];exact hg y
  ·simp at hd;obtain ⟨y,hy,rfl⟩:=hd;simp [hy];exact hg y
 ·rename_i t x lo hi ho
  simp only [ho];exact lift _ (c1k htt hg h hp (hg x))
 ·rename_i t x f ho
  simp only [ho];cases hi:tt t with
  | none=>simp [hi] at h
  | some i =>
   simp only [hi] at h;split at h<;>try(cases h;done)
   rename_i fs hk;split at h<;>try(cases h;done)
   rename_i o' sz ag hf;split at h<;>try(cases h;done)
   rename_i e he;simp only [d9z,d9Q] at h;obtain ⟨rfl,rfl⟩:=h;exact lift _ (b6P (htt _ _ hi) hk hf he (hg x))
 ·rename_i t x f ho
  simp only [ho];cases hi:tt t with
  | none=>simp [hi] at h
  | some i =>
   simp only [hi] at h;split at h<;>try(cases h;done)
   rename_i fs hk;split at h<;>try(cases h;done)
   rename_i o' sz ag hf;split at h<;>try(cases h;done)
   rename_i cs hx;split at h<;>try(cases h;done)
   rename_i e he;simp only [d9z,d9Q] at h;obtain ⟨rfl,rfl⟩:=h;exact lift _ (c2B (htt _ _ hi) hk hf he (by rw [<- hx];exact hg x))
 ·rename_i t x ix ho
  simp only [ho];cases hi:tt t with
  | none=>simp [hi] at h
  | some i =>
   simp only [hi] at h;have hix:=hg ix;split at h<;>try(cases h;done)
   ·rename_i n esz ag k j hk hx
    rw [hx] at hix;generalize hv:ev ix=v at hix;cases hix;split at h<;>try(cases h;done)
    rename_i e he;simp only [d9z,d9Q] at h;obtain ⟨rfl,rfl⟩:=h;exact lift _ (b4y (htt _ _ hi) hk he hp.1 hp.2 (hg x))
   ·rename_i e esz eby ez k j hk hx
    rw [hx] at hix;generalize hv:ev ix=v at hix;cases hix;split at h<;>try(cases h;done)
    rename_i k' gg sz i' len hy;simp only [d9z,d9Q] at h;obtain ⟨rfl,rfl⟩:=h;obtain ⟨p1,p2,rfl⟩:=hp;exact lift _ (b4z (htt _ _ hi) hk p1 p2 (by rw [<- hy];exact hg x))
 ·rename_i t x ix ho
  simp only [ho];cases hi:tt t with
  | none=>simp [hi] at h
  | some i =>
   simp only [hi] at h;have hix:=hg ix;have hxx:=hg x;split at h<;>try(cases h;done)
   rename_i s k j hk h1 h2;rw [h2] at hix;rw [h1] at hxx;generalize hv:ev ix=v at hix;cases hix;generalize hv':ev x=v' at hxx;cases hxx;simp only [d9z,d9Q] at h;obtain ⟨rfl,rfl⟩:=h;refine lift _ ⟨_,?_,.prim _⟩;unfold Instr.index;rw [run_bind,a4Z];dsimp only;rw [run_bind,a0g (a1W (htt _ _ hi) hk)];dsimp only;have hlt:j.toNat<s.size:=by omega
   have e:(if 0<=j then s[j.toNat]? else none)=some (s.data.toList.getD j.toNat 0):=by
    rw [d9l hp.1];have hlt':j.toNat<s.data.size:=hlt;rw [getElem?_pos s j.toNat hlt];simp;rw [d9C hlt'];rfl
   rw [e];rfl
 ·rename_i x ix ho
  simp only [ho];have hxx:=hg x;split at h<;>try(cases h;done)
  rename_i ds h1;rw [h1] at hxx;generalize hv':ev x=v' at hxx;split at h<;>try(cases h;done)
  rename_i e he;simp only [d9z,d9Q] at h;obtain ⟨rfl,rfl⟩:=h;cases hxx with
  | tup hn hh =>
   rename_i vs;have hlt:ix<ds.length:=by
    rcases d9H ix ds.length with h'|h'
    ·exact h'
    ·rw [e0c h'] at he;cases he
   refine lift _ ⟨vs.getD ix undef,?_,hh _ _ he⟩;unfold Instr.extract
   have:vs[ix]? = some (vs.getD ix undef):=by
    rw [d9o,d9C (by omega)];rfl
   simp only [this];rfl
 ·rename_i b args tys ho
  simp only [ho];obtain ⟨v,e1,e2⟩:=b4d (ty:=o.type) (cst:=args.map fun | .const _=>true|_=>false) htt hg h;exact ⟨v,e1,e2⟩
end
def Hp.get:Hp->Nat->Option Ent
 | [],_=>none
 | e::r,k=>match Nat.beq e.k k with
  | true=>some e
  | false=>Hp.get r k
theorem Hp.get_mem:∀ {H:Hp} {k:Nat} {e:Ent},Hp.get H k=some e->e∈H/\e.k=k
 | e::r,k,e',h=>by
  simp only [Hp.get] at h;cases hb:Nat.beq e.k k with
  | true=>simp [hb] at h;subst h;exact ⟨by simp,d9v hb⟩
  | false=>simp [hb] at h;obtain ⟨h1,h2⟩:=Hp.get_mem h;exact ⟨by simp [h1],h2⟩
 | [],_,_,h=>by simp [Hp.get] at h
def a6A:D->Bool
 | .agg _=>false
 | _=>true
def a3T (g:Operand->D):Nat->List (Nat × Operand)->Option (List D)
 | _,[]=>some []
 | i,(j,x)::r=>match Nat.beq i j with
  | true=>match a3T g (i+1) r with
   | some l=>some (g x::l)
   | none=>none
  | false=>none
def b5B (ag:Bool)(sz:Nat):List D->Prop
 | []=>True
 | [d]=>a0Y ag sz d
 | d::l=>a0Y ag sz d/\b5B ag sz l
def evL (tt:Nat->Option a0n)(H:Hp)(n k:Nat)(g:Operand->D):Op->Option (D × Option Ent × Prop)
 | .load t x=>match tt t with
  | some i=>match g x with
   | .optr k' gg sz j off=>match Hp.get H k' with
    | some e=>match e.es[j]? with
     | some d=>match a5D i.ag i.sz off d.cells with
      | some d'=>some (d',none,gg=e.g/\sz=e.sz/\(bif i.ag then Nat.ble (off+i.sz) d.cells.length else true)=true)
      | none=>none
     | none=>none
    | none=>none
   | .pptr d=>match i.ag with
    | true=>match d with
     | .agg ds=>some (d,none,Nat.beq ds.length i.sz=true)
     | _=>none
    | false=>some (d,none,a6A d=true)
   | _=>none
  | none=>none
 | .alloc t=>match tt t with
  | some i=>some (.optr k n i.sz 0 0,some ⟨k,n,t,i.sz,[ofV i.zero]⟩,True)
  | none=>none
 | .box t x=>match tt t with
  | some i=>some (.optr k n i.sz 0 0,some ⟨k,n,t,i.sz,[g x]⟩,a0Y i.ag i.sz (g x))
  | none=>none
 | .buildSlice t len ps=>match tt t with
  | some i=>match i.ti with
   | .slice e esz _ _=>match len with
    | 0=>match ps.toList with
     | []=>some (.osl k n esz 0 0,some ⟨k,n,e,esz,[]⟩,True)
     | _=>none
    | len+1=>match tt e with
     | some ie=>match a3T g 0 ps.toList with
      | some es=>some (.sl true esz es,none,b5B ie.ag esz es/\es.length=len+1/\Nat.ble ((len+1)*esz) 16777216=true/\Nat.ble 1 esz=true)
      | none=>none
     | none=>none
   | _=>none
  | none=>none
 | _=>none
section
variable {C:Ctx} {F:Fra} {ρ:Lk} {H:Hp} {w:World}
def a4G:Option Ent->Hp->Hp
 | some e,H=>e::H
 | none,H=>H
structure Did (C:Ctx)(F:Fra)(ρ:Lk)(H:Hp)(w:World)(n:Nat)(d:D)(H':Hp)(n':Nat)(v:Value)(ρ':Lk)(w':World):Prop where
 mem:Mem C F ρ' H' w'
 ext:Ext ρ (Own F.X ρ H) w ρ' (Own F.X ρ' H') w'
 fresh:a9S ρ' n'
 rep:Rep ρ' (Own F.X ρ' H') w' d v
structure a9T (C:Ctx)(F:Fra)(He:Hp)(ρ:Lk)(w:World)(g:Nat)(d:D)(ne:Option Ent)(v:Value)(ρ':Lk)(w':World):Prop where
 mem:Mem C F ρ' (a4G ne He) w'
 ext:Ext ρ (Own F.X ρ He) w ρ' (Own F.X ρ' (a4G ne He)) w'
 far:∀ k g',g'≠g->ρ' k g'=ρ k g'
 rep:Rep ρ' (Own F.X ρ' (a4G ne He)) w' d v
theorem c0u {ag:Bool}{sz off:Nat}{cs:List D}{d:D}{O:Nat->Prop}{f:Nat->Value}(h:a5D ag sz off cs=some d)(hlen:ag=true->off+sz<=cs.length)
  (ho:∀ j,j<cs.length->one (f j)=true) (hr:∀ j c,cs[j]? = some c->Rep ρ O w c (f j)) :
  Rep ρ O w d (match ag with|true=>.agg ((List.range sz).map fun j=>f (off+j)).toArray|false=>f off):=by
 rcases a5r h with ⟨rfl,rfl⟩|⟨rfl,h1⟩
 ·have hl:=hlen rfl
  refine .agg (by simp;omega) (fun i v hv=>?_) fun i c hc=>?_
  ·rw [e1v,d9E] at hv
   by_cases hi:i<sz
   ·rw [e0Y hi] at hv
    cases hv;exact ho _ (by omega)
   ·rw [e0c (by simp;omega)] at hv;cases hv
  ·rw [e0K] at hc
   split at hc
   ·rename_i hlt
    rw [e1m] at hc;simp [hlt];exact hr _ _ hc
   ·cases hc
 ·exact hr _ _ h1
theorem a8Y {P:Program}{t:Nat}{i:a0n}{b o:Nat}{f:Nat->Value}(ht:a3i P t=some i)(hi:∀ n,n<(if i.ag then i.sz else 1)->w.cell? ⟨b,o+n,none⟩=some (f n)) :
  (Instr.loadAt t (.pointer (some ⟨b,o,none⟩))).run P w=.ok (match i.ag with|true=>.agg ((List.range i.sz).map f).toArray|false=>f 0) w:=by
 obtain ⟨inf,u,h1,h2,h3,h4,h5,h6,h7⟩:=a1F ht;have hag:=(b4X ht).agg;unfold Instr.loadAt;rw [run_bind,a2W];dsimp only;unfold loadVar;rw [run_bind,a9u h2,hag];dsimp only;cases ha:i.ag with
 | true =>
  rw [d9l rfl,run_bind,a1k h1,h4];dsimp only;rw [run_bind,run_loadCells (P:=P) w _ _ f (fun j hj=>by rw [a4y];exact hi j (by rw [ha];exact hj))];rfl
 | false =>
  rw [d9m (by simp)]
  have:=hi 0 (by rw [ha];simp)
  rw [e0W] at this;unfold load;simp only [Sem.run,this]
theorem b5N {P:Program}{t:Nat}{i:a0n}{k g sz j off:Nat}{d d':D}{e:Ent}{a:Value}(m:Mem C F ρ H w)(ht:a3i P t=some i)(hm:e∈H)(hk:e.k=k)(hd:e.es[j]? = some d)
  (hp:a5D i.ag i.sz off d.cells=some d') (hg:g=e.g) (hs:sz=e.sz) (hlen:i.ag=true->off+i.sz<=d.cells.length) (hx:Rep ρ (Own F.X ρ H) w (.optr k g sz j off) a) :
  ∃ v,(Instr.loadAt t a).run P w=.ok v w/\Rep ρ (Own F.X ρ H) w d' v:=by
 subst hg hs;cases hx with
 | optr hr =>
  rename_i b;rw [<- hk] at hr;obtain ⟨cs,h1,h2⟩:=m.at hm hr;have hdl:=h2.siz j d hd;have hjl:j<e.es.length:=by
   rcases d9H j e.es.length with h'|h'
   ·exact h'
   ·rw [e0c h'] at hd;cases hd
  have hin:∀ n,n<e.sz->j*e.sz+n<cs.size:=fun n hn=>by
   have:(j+1)*e.sz<=e.es.length*e.sz:=d9K _ hjl
   rw [e0e] at this;have:=h2.len;omega
  have hcell:∀ n,n<e.sz->w.cell? ⟨b,j*e.sz+n,none⟩=some (cs.getD (j*e.sz+n) undef):=fun n hn=>by
   have:=hin n hn
   simp [World.cell?,h1,this]
  have hoff:off<e.sz\/i.ag=true:=by
   cases ha:i.ag with
   | true=>exact .inr rfl
   | false =>
    left;rw [ha] at hp;rcases a5r hp with ⟨h,_⟩|⟨_,h⟩
    ·cases h
    ·rw [<- hdl]
     rcases d9H off d.cells.length with h'|h'
     ·exact h'
     ·rw [e0c h'] at h;cases h
  have run:=a8Y (P:=P) (w:=w) (b:=b) (o:=j*e.sz+off) (f:=fun n=>cs.getD (j*e.sz+off+n) undef) ht (fun n hn=>by
   have:off+n<e.sz:=by
    cases ha:i.ag with
    | true=>rw [ha] at hn;have:=hlen ha;simp at hn;omega
    | false =>
     rw [ha] at hn;simp at hn;rcases hoff with h|h
     ·omega
     ·rw [ha] at h;cases h
   rw [e1d,hcell _ this])
  refine ⟨_,run,?_⟩
  have:=c0u (ρ:=ρ) (w:=w) (O:=Own F.X ρ H) (f:=fun n=>cs.getD (j*e.sz+n) undef) hp hlen (fun n hn=>by
   have h':=hin n (by omega)
   have:=h2.one (j*e.sz+n) (cs[j*e.sz+n]) (d9C h')
   simpa [d9o,d9C h'] using this) (fun n c hc=>h2.rep j d n c hd hc)
  cases ha:i.ag with
  | true=>rw [ha] at this;simpa [e1d] using this
  | false=>rw [ha] at this;simpa using this
theorem a6x {P:Program}{t:Nat}{i:a0n}{d:D}{a:Value}{O:Nat->Prop}(ht:a3i P t=some i)(h1:i.ag=true->∃ ds,d=.agg ds/\ds.length=i.sz)(h2:i.ag=false->a6A d=true)
  (hx:Rep ρ O w (.pptr d) a):∃ v,(Instr.loadAt t a).run P w=.ok v w/\Rep ρ O w d v:=by
 cases hx with
 | pptr f hO hb hcell ho hh =>
  rename_i b off;cases ha:i.ag with
  | true =>
   obtain ⟨ds,rfl,hl⟩:=h1 ha;have run:=a8Y (P:=P) (w:=w) (b:=b) (o:=off) (f:=f) ht (fun n hn=>by rw [ha] at hn;simp at hn;exact hcell n (by simp [D.cells];omega));rw [ha] at run;refine ⟨_,run,.agg (by simp [hl]) (fun j v hv=>?_) fun j c hc=>?_⟩
   ·rw [e1v,d9E] at hv
    by_cases hi:j<i.sz
    ·rw [e0Y hi] at hv
     cases hv;exact ho _ (by simp [D.cells];omega)
    ·rw [e0c (by simp;omega)] at hv;cases hv
   ·have hj:j<i.sz:=by
     rw [<- hl];rcases d9H j ds.length with h'|h'
     ·exact h'
     ·rw [e0c h'] at hc;cases hc
    have e:(List.map f (List.range i.sz)).toArray.getD j undef=f j:=by simp [hj]
    rw [e];exact hh j c hc
  | false =>
   have hc:d.cells=[d]:=by
    have:=h2 ha
    cases d<;>first|rfl|simp [a6A] at this
   have run:=a8Y (P:=P) (w:=w) (b:=b) (o:=off) (f:=f) ht (fun n hn=>by rw [ha] at hn;simp at hn;subst hn;exact hcell 0 (by rw [hc];simp));rw [ha] at run;exact ⟨_,run,hh 0 d (by rw [hc];rfl)⟩
theorem d9i {e:Ent}{v:Value}{d:D}{ag:Bool}(he:e.es=[d])(hf:a0Y ag e.sz d)(hx:Rep ρ (Own F.X ρ H) w d v):a2C ρ (Own F.X ρ H) w e v.cells:=by
 obtain ⟨h1,h2,h3,h4,h5⟩:=hf _ _ _ _ hx;rw [h5] at h3 h4;refine ⟨by rw [he];simp [h1],fun i d' hd=>?_,h2,fun i d' j c hd hc=>?_⟩
 ·rw [he] at hd
  cases i with
  | zero=>simp at hd;subst hd;exact h3
  | succ i=>simp at hd
 ·rw [he] at hd
  cases i with
  | zero=>simp at hd;subst hd;simpa using h4 j c hc
  | succ i=>simp at hd
theorem b0t {ag:Bool}{sz:Nat}:∀ {l:List D},b5B ag sz l->∀ (i:Nat) (d:D),l[i]? = some d->a0Y ag sz d
 | [],_,i,d,h=>by simp at h
 | [x],hf,i,d,h=>by
  cases i with
  | zero=>simp at h;subst h;exact hf
  | succ i=>simp at h
 | x::y::l,hf,i,d,h=>by
  cases i with
  | zero=>simp at h;subst h;exact hf.1
  | succ i=>exact b0t hf.2 i d (by simpa using h)
theorem b9g {O:Nat->Prop}{ag:Bool}{esz:Nat}{g:Operand->D}{ev:Operand->Value}(hg:∀ x,Rep ρ O w (g x) (ev x)):∀ (ps:List (Nat × Operand)) (i:Nat) (l:List D) (vs:Array Value),
  a3T g i ps=some l->(∀ (q:Nat) (d:D),l[q]? = some d->a0Y ag esz d)->vs.size=(i+l.length)*esz ->
  ∃ vs',Instr.fill (fun i=>some (i*esz,esz)) vs (ps.map fun x=>(x.1,ev x.2))=some vs'/\vs'.size=vs.size/\(∀ j,j<i*esz->vs'[j]? = vs[j]?) /\
   ∀ (q:Nat) (d:D),l[q]? = some d->d.cells.length=esz/\(∀ (j:Nat) (c:D),d.cells[j]? = some c->Rep ρ O w c (vs'.getD ((i+q)*esz+j) undef)) /\
    ∀ j,j<esz->one (vs'.getD ((i+q)*esz+j) undef)=true
 | [],i,l,vs,h,hf,hs=>by
  simp only [a3T,d9z] at h;subst h;exact ⟨vs,rfl,rfl,fun _ _=>rfl,by simp⟩
 | (j,x)::r,i,l,vs,h,hf,hs=>by
  simp only [a3T] at h;cases hb:Nat.beq i j with
  | false=>simp [hb] at h
  | true =>
   obtain rfl:=d9v hb;cases hr:a3T g (i+1) r with
   | none=>simp [hr] at h
   | some l2 =>
    simp [hr] at h;subst h;obtain ⟨h1,h2,h3,h4,h5⟩:=hf 0 _ rfl ρ O w _ (hg x);rw [h5] at h3 h4;have hsz:(i+1)*esz<=vs.size:=by rw [hs];exact d9K _ (by simp)
    have hsz':i*esz+esz<=vs.size:=by rw [e0e] at hsz;omega
    have get:∀ j,((ev x).cells.toList.zipIdx.foldl (fun cs (x:Value × Nat)=>cs.setIfInBounds (i*esz+x.2) x.1) vs)[j]? = if i*esz<=j/\j<i*esz+esz then (ev x).cells[j - i*esz]? else vs[j]?:=fun j=>by
     rw [b1u]
     by_cases hj:i*esz<=j/\j<i*esz+esz
     ·rw [d9l hj,d9l (by simp [h1];omega)];simp
     ·rw [d9m hj,d9m (by simp [h1];omega)]
    obtain ⟨vs',e1,e2,e3,e4⟩:=b9g hg r (i+1) l2 ((ev x).cells.toList.zipIdx.foldl (fun cs (x:Value × Nat)=>cs.setIfInBounds (i*esz+x.2) x.1) vs) hr
     (fun q d hd=>hf (q+1) d (by simpa using hd)) (by rw [a6q,hs];congr 1;simp;omega)
    have e0:(i+1)*esz=i*esz+esz:=by rw [e0e];omega
    refine ⟨vs',?_,by rw [e2,a6q],fun j hj=>?_,fun q d hd=>?_⟩
    ·simp only [e0I,Instr.fill]
     rw [d9m (by simp [h1];omega),<- Array.foldl_toList,Array.toList_zipIdx];exact e1
    ·rw [e3 j (by omega),get,d9m (by omega)]
    ·cases q with
     | zero =>
      simp at hd;subst hd;have hcell:∀ j,j<esz->vs'.getD (i*esz+j) undef=(ev x).cells.getD j undef:=fun j hj=>by
       simp only [d9o];rw [e3 _ (by omega),get,d9l (by omega),show i*esz+j - i*esz=j from by omega]
      refine ⟨h3,fun j c hc=>?_,fun j hj=>?_⟩
      ·have hj:j<esz:=by
        rw [<- h3];rcases d9H j (g x).cells.length with h'|h'
        ·exact h'
        ·rw [e0c h'] at hc;cases hc
       rw [e0W,hcell j hj];exact h4 j c hc
      ·rw [e0W,hcell j hj]
       have:j<(ev x).cells.size:=by omega
       have:=h2 j _ (d9C this)
       simp [d9o, *]
     | succ q =>
      have:=e4 q d (by simpa using hd)
      rw [show i+(q+1)=i+1+q from by omega];exact this
theorem a5G {t e:Nat}{esz eby:Nat}{ez:Value}{i:a0n}{len:Nat}{parts:Array (Nat × Value)}{cells:Array Value}(ht:a3i C.P t=some i)(hk:i.ti=.slice e esz eby ez)
  (hl:len*esz<=16777216) (hf:Instr.fill (fun i=>some (i*esz,esz)) ((Array.range (len*esz)).map (fun j=>(if len*esz=0 then #[] else ez.cells)[j%(if len*esz=0 then #[] else ez.cells).size]!)) parts.toList=some cells) :
  (Instr.buildSlice t len parts).run C.P w=.ok (.slice (some ⟨w.heap.size,0,none⟩) len len) (w.alloc (.cells cells e)):=by
 obtain ⟨hu,⟨inf,e3,e4,e5,e6⟩,e7,e8⟩:=a0y ht hk;unfold Instr.buildSlice;rw [run_bind,a0g hu];dsimp only;rw [run_bind,a1k e3,e4];dsimp only;rw [d9m (by omega)]
 by_cases h0:len*esz=0
 ·simp only [h0,if_true] at hf ⊢
  rw [run_bind,run_pure];dsimp only;rw [hf];rfl
 ·simp only [h0,if_false] at hf ⊢
  rw [run_bind,a4u e3 e6];dsimp only;rw [run_bind,run_pure];dsimp only;rw [hf];rfl
theorem c3Y {tt:Nat->Option a0n}{o:Oper}{g:Operand->D}{ev:Operand->Value}{n k:Nat}{d:D}{ne:Option Ent}{p:Prop}{H0:Hp}(hsub:∀ e∈H0,e∈H)(htt:Tab C.P tt)(m:Mem C F ρ H w)(fr:∀ k,ρ k n=none)(hlt:∀ e∈H,e.g≠n)
  (hg:∀ x,Rep ρ (Own F.X ρ H) w (g x) (ev x)) (h:evL tt H0 n k g o.op=some (d,ne,p)) (hp:p) :
  ∃ v ρ' w',(execOp ev o).run C.P w=.ok (.value v) w'/\a9T C F H ρ w n d ne v ρ' w':=by
 unfold execOp;unfold evL at h;split at h<;>try(cases h;done)
 ·rename_i t x ho
  simp only [ho];cases hi:tt t with
  | none=>simp [hi] at h
  | some i =>
   simp only [hi] at h;have ht:=htt _ _ hi;have hx:=hg x;have same:∀ (s:Sem Value) (d':D),(∃ v,s.run C.P w=.ok v w/\Rep ρ (Own F.X ρ H) w d' v)->∃ v ρ' w',(do pure (Next.value (<- s)):Sem Next).run C.P w=.ok (.value v) w'/\a9T C F H ρ w n d' none v ρ' w' :=
    fun s d' ⟨v,h1,h2⟩=>⟨v,ρ,w,by rw [run_bind,h1];rfl,m,.refl _ _ _,fun _ _ _=>rfl,h2⟩
   split at h<;>try(cases h;done)
   ·rename_i k' gg sz j off hgx
    rw [hgx] at hx;split at h<;>try(cases h;done)
    rename_i e he;split at h<;>try(cases h;done)
    rename_i d1 hd1;split at h<;>try(cases h;done)
    rename_i d2 hd2;simp only [d9z,d9Q] at h;obtain ⟨rfl,rfl,rfl⟩:=h;refine same _ _ (b5N m ht (hsub _ (Hp.get_mem he).1) (Hp.get_mem he).2 hd1 hd2 hp.1 hp.2.1 (fun ha=>?_) hx)
    have:=hp.2.2
    rw [ha] at this;exact d9A this
   ·rename_i d1 hgx
    rw [hgx] at hx;split at h
    ·rename_i ha
     split at h<;>try(cases h;done)
     rename_i ds;simp only [d9z,d9Q] at h;obtain ⟨rfl,rfl,rfl⟩:=h;exact same _ _ (a6x ht (fun _=>⟨ds,rfl,d9v hp⟩) (fun h'=>by rw [ha] at h';cases h') hx)
    ·rename_i ha
     simp only [d9z,d9Q] at h;obtain ⟨rfl,rfl,rfl⟩:=h;exact same _ _ (a6x ht (fun h'=>by rw [ha] at h';cases h') (fun _=>hp) hx)
 ·rename_i t ho
  simp only [ho];cases hi:tt t with
  | none=>simp [hi] at h
  | some i =>
   simp only [hi,d9z,d9Q] at h;obtain ⟨rfl,rfl,rfl⟩:=h;have ht:=htt _ _ hi;obtain ⟨inf,u,h1,h2,h3,h4,h5,h6,h7⟩:=a1F ht;obtain ⟨h8,h9⟩:=a4a h6;have hz:Rep ρ (Own F.X ρ H) w (ofV i.zero) i.zero:=Rep.ofV fun j x hx=>.inl (h9 j x hx)
   have hcl:(ofV i.zero).cells.length=i.sz:=by rw [<- h8];cases i.zero<;>simp [ofV,D.cells,Value.cells]
   have hok:a2C ρ (Own F.X ρ H) w ⟨k,n,t,i.sz,[ofV i.zero]⟩ i.zero.cells:=by
    refine ⟨by simp [h8],fun j d hd=>?_,h9,fun j d jj c hd hc=>?_⟩
    ·cases j with
     | zero=>simp at hd;subst hd;exact hcl
     | succ j=>simp at hd
    ·cases j with
     | zero =>
      simp at hd;subst hd;cases hzv:i.zero with
      | agg vs =>
       rw [hzv] at hc hz;cases hz with
       | agg hn ho hh=>simpa [Value.cells] using hh jj c hc
      | _ =>
       rw [hzv] at hc;simp only [ofV,D.cells] at hc;cases jj with
       | zero=>simp at hc;subst hc;simp [Value.cells];exact .prim _
       | succ jj=>simp at hc
     | succ j=>simp at hd
   obtain ⟨a1,a2⟩:=m.alloc ⟨k,n,t,i.sz,[ofV i.zero]⟩ i.zero.cells (fr k) (fun e he hh=>hlt e he hh.2) hok;refine ⟨.pointer (some ⟨w.heap.size,0,none⟩),_,_,?_,a1,a2,?_,?_⟩
   ·rw [run_bind]
    have:(Instr.alloc t true (.tuple #[])).run C.P w=.ok (.pointer (some ⟨w.heap.size,0,none⟩)) (w.alloc (.cells i.zero.cells t)):=by
     unfold Instr.alloc;rw [run_bind,a4u h1 h3];rfl
    rw [this];rfl
   ·intro k' g' hg'
    unfold Lk.put;rw [d9m (by dsimp only;omega)]
   ·have:=Rep.optr (sz:=i.sz) (i:=0) (off:=0) (O:=Own F.X (ρ.put k n w.heap.size) (⟨k,n,t,i.sz,[ofV i.zero]⟩::H)) (w:=w.alloc (.cells i.zero.cells t)) (d8s ρ k n w.heap.size)
    simpa [a4G] using this
 ·rename_i t x ho
  simp only [ho];cases hi:tt t with
  | none=>simp [hi] at h
  | some i =>
   simp only [hi,d9z,d9Q] at h;obtain ⟨rfl,rfl,rfl⟩:=h;have hok:a2C ρ (Own F.X ρ H) w ⟨k,n,t,i.sz,[g x]⟩ (ev x).cells:=d9i rfl hp (hg x);obtain ⟨a1,a2⟩:=m.alloc ⟨k,n,t,i.sz,[g x]⟩ (ev x).cells (fr k) (fun e he hh=>hlt e he hh.2) hok;refine ⟨.pointer (some ⟨w.heap.size,0,none⟩),_,_,?_,a1,a2,?_,?_⟩
   ·rw [run_bind];rfl
   ·intro k' g' hg'
    unfold Lk.put;rw [d9m (by dsimp only;omega)]
   ·have:=Rep.optr (sz:=i.sz) (i:=0) (off:=0) (O:=Own F.X (ρ.put k n w.heap.size) (⟨k,n,t,i.sz,[g x]⟩::H)) (w:=w.alloc (.cells (ev x).cells t)) (d8s ρ k n w.heap.size)
    simpa [a4G] using this
 ·rename_i t len ps ho
  simp only [ho];cases hi:tt t with
  | none=>simp [hi] at h
  | some i =>
   simp only [hi] at h;have ht:=htt _ _ hi;split at h<;>try(cases h;done)
   rename_i e esz eby ez hk;split at h
   ·split at h<;>try(cases h;done)
    rename_i hps;simp only [d9z,d9Q] at h;obtain ⟨rfl,rfl,rfl⟩:=h;have run:=a5G (C:=C) (w:=w) (len:=0) (parts:=ps.map fun (i,x)=>(i,ev x)) (cells:=#[]) ht hk (by omega) (by simp [hps,Instr.fill]);have hok:a2C ρ (Own F.X ρ H) w ⟨k,n,e,esz,[]⟩ #[]:=⟨by simp,by simp,by simp,by simp⟩
    obtain ⟨a1,a2⟩:=m.alloc ⟨k,n,e,esz,[]⟩ #[] (fr k) (fun e he hh=>hlt e he hh.2) hok;refine ⟨_,_,_,by rw [run_bind,run];rfl,a1,a2,?_,?_⟩
    ·intro k' g' hg'
     unfold Lk.put;rw [d9m (by dsimp only;omega)]
    ·have:=Rep.osl (sz:=esz) (i:=0) (len:=0) (cap:=0) (O:=Own F.X (ρ.put k n w.heap.size) (⟨k,n,e,esz,[]⟩::H)) (w:=w.alloc (.cells #[] e)) (T:=e) (cs:=#[]) (fz:=(0,0)) (d8s ρ k n w.heap.size)
      (by rw [a0A,d9l rfl]) (d9y _) (by simp) (by simp [maxLen])
     simpa [a4G] using this
   ·rename_i len
    split at h<;>try(cases h;done)
    rename_i ie hie;split at h<;>try(cases h;done)
    rename_i es hes;simp only [d9z,d9Q] at h;obtain ⟨rfl,rfl,rfl⟩:=h;obtain ⟨p1,p2,p3,p4⟩:=hp;have p3:=d9A p3;have p4:=d9A p4;have hpos:(len+1)*esz≠0:=by
     intro h0
     have:=Nat.mul_eq_zero.1 h0;omega
    obtain ⟨vs',f1,f2,f3,f4⟩:=b9g (ρ:=ρ) (w:=w) (O:=Own F.X ρ H) hg ps.toList 0 es ((Array.range ((len+1)*esz)).map (fun j=>(if (len+1)*esz=0 then #[] else ez.cells)[j%(if (len+1)*esz=0 then #[] else ez.cells).size]!)) hes
     (b0t p1) (by simp [p2])
    have run:=a5G (C:=C) (w:=w) (len:=len+1) (parts:=ps.map fun (i,x)=>(i,ev x)) (cells:=vs') ht hk p3 (by rw [<- f1];simp);refine ⟨_,ρ,_,by rw [run_bind,run];rfl,m.allocPure _,.allocPure _,fun _ _ _=>rfl,?_⟩;have hsz:vs'.size=(len+1)*esz:=by rw [f2];simp
    have x:Ext ρ (Own F.X ρ H) w ρ (Own F.X ρ H) (w.alloc (.cells vs' e)):=.allocPure _;refine .sl (fun j=>vs'.getD j undef) p2 (d9y _) (fun ho=>by have:=m.own_lt ho;omega) (by simp) (fun q d hd=>(f4 q d hd).1) (fun j hj=>?_) (fun j hj=>?_) fun q d j c hd hc=>?_
    ·have:j<vs'.size:=by omega
     rw [d9S,World.cell?_alloc_new,d9o,d9C this];rfl
    ·have hq:j / esz<es.length:=by rw [p2];exact (Nat.div_lt_iff_lt_mul (by omega)).2 hj
     have:=(f4 (j / esz) _ (d9t hq)).2.2 (j%esz) (e0k _ (by omega))
     rw [d9S,Nat.div_add_mod'] at this;exact this
    ·have:=(f4 q d hd).2.1 j c hc
     rw [d9S] at this;exact this.mono x
end
def a2f (env:Env):Option Nat->D->Env
 | some t,d=>(t,d)::env
 | none,_=>env
def a0S (ops:Array Oper)(env:Env)(o:Oper):Option Bool:=match o.guard with
 | none=>some true
 | some (j,want)=>match ops[j]? with
  | none=>some false
  | some oj=>match oj.dst with
   | none=>some false
   | some t=>match env.get t with
    | .prim (.bool b)=>match want with
     | true=>some b
     | false=>some (!b)
    | .prim (.tuple _)=>some false
    | .gd u (.prim (.bool b))=>match want with
     | true=>some (u&&b)
     | false=>some (u && !b)
    | _=>none
section
variable {C:Ctx} {F:Fra} {s:St} {ops:Array Oper} {o:Oper} {os:List Oper} {K:St->Prop}
theorem a2P {env:Env}{a:Act}{ρ:Lk}{O:Nat->Prop}{w:World}{b:Bool}(he:∀ t,Rep ρ O w (env.get t) (a.tmps.getD t undef))(h:a0S ops env o=some b) :
  Region.wanted o (yielded ops a.tmps)=b:=by
 unfold a0S at h;unfold Region.wanted;split at h
 ·rename_i hg;simp only [hg];simpa using h
 ·rename_i j want hg
  simp only [hg];cases hj:ops[j]? with
  | none=>simp only [hj] at h;cases h;simp [yielded,hj]
  | some oj =>
   simp only [hj] at h;cases hd:oj.dst with
   | none=>simp only [hd] at h;cases h;simp [yielded,hj,hd]
   | some t =>
    simp only [hd] at h;have hr:=he t;have hy:∀ x,a.tmps.getD t undef=.bool x->yielded ops a.tmps j=some x:=by
     intro x hx;have hlt:t<a.tmps.size:=by
      rcases d9H t a.tmps.size with h'|h'
      ·exact h'
      ·rw [d9o,e2i h'] at hx;cases hx
     have:a.tmps[t]? = some (.bool x):=by
      rw [d9C hlt];rw [d9o,d9C hlt] at hx;exact congrArg some hx
     simp [yielded,hj,hd,this]
    have hn:(∀ x,a.tmps.getD t undef≠.bool x)->yielded ops a.tmps j=none:=by
     intro hx;unfold yielded;simp only [hj,hd,Option.bind_some];cases ht:a.tmps[t]? with
     | none=>rfl
     | some v =>
      cases v<;>first|rfl|(rename_i x;exact d9n (by simp [ht]) (hx x))
    split at h
    ·rename_i x hx
     rw [hx] at hr;generalize hv:a.tmps.getD t undef=v at hr;have e:v=.bool x:=by cases hr;rfl
     subst e;rw [hy _ hv];cases want<;>cases x<;>cases h<;>rfl
    ·rename_i x hx
     rw [hx] at hr;generalize hv:a.tmps.getD t undef=v at hr;have e:v=.tuple x:=by cases hr;rfl
     subst e;cases h;rw [hn (fun y hy'=>by rw [hv] at hy';cases hy')];rfl
    ·rename_i u x hx
     rw [hx] at hr;generalize hv:a.tmps.getD t undef=v at hr;cases hr with
     | gd h1 h2 =>
      cases u with
      | true =>
       have e:v=.bool x:=by have:=h1 rfl;cases this;rfl
       subst e;rw [hy _ hv];cases want<;>cases x<;>cases h<;>rfl
      | false =>
       have:=h2 rfl
       subst this;rw [hn (fun y hy'=>by rw [hv] at hy';cases hy')];cases want<;>cases x<;>cases h<;>rfl
    ·cases h
theorem Sat.put {ρ ρ':Lk}{a:Act}{w w':World}{H':Hp}{n':Nat}{d:D}{v:Value}(h:Sat C F ρ s a w)(m:Mem C F ρ' H' w')(x:Ext ρ (Own F.X ρ s.H) w ρ' (Own F.X ρ' H') w')(fr:a9S ρ' n')
  (hg:∀ e∈H',e.g<n') (hv:Rep ρ' (Own F.X ρ' H') w' d v) (hd:a2m F.nt o=true):Sat C F ρ' ⟨a2f s.env o.dst d,H',n'⟩ (a.put o.dst v) w':=by
 refine ⟨m,fr,hg,fun t=>?_,?_,?_⟩
 ·cases ho:o.dst with
  | none=>exact (h.env t).mono x
  | some k =>
   have hk:k<a.tmps.size:=by
    rw [h.nt];unfold a2m at hd;rw [ho] at hd;exact Nat.blt_eq.mp hd
   show Rep _ _ _ (Env.get ((k,d)::s.env) t) ((a.tmps.setIfInBounds k v).getD t undef);rw [d8k,d9o,e0q]
   by_cases hkt:k=t
   ·subst hkt;rw [d9l rfl,d9l rfl,d9l hk];exact hv
   ·rw [d9m hkt,d9m hkt,<- d9o];exact (h.env t).mono x
 ·cases ho:o.dst<;>simp [Act.put,h.nt]
 ·cases ho:o.dst<;>simp [Act.put,h.dfr]
def Fin (C:Ctx)(F:Fra)(K:St->Prop):Exit->Act->World->Prop:=fun e a' w'=>e=.normal/\∃ s' ρ',K s'/\Sat C F ρ' s' a' w'
def OkL (C:Ctx)(F:Fra)(ops:Array Oper)(os:List Oper)(s:St)(K:St->Prop):Prop :=
 os.all (a2m F.nt)=true->∀ (l:List Nat),l.map (ops[·]?)=os.map some->∀ ρ a w,Sat C F ρ s a w->wpOps C.P ops (Fin C F K) l a w
theorem b3L {Q:Exit->St->Prop}:∀ (l:List Nat) (a:Act) (w:World),wpOps C.P ops (Fin C F (Q .normal)) l a w->wpOps C.P ops (fun e a' w'=>∃ s' ρ',Q e s'/\Sat C F ρ' s' a' w') l a w:=by
  intro l
  induction l with
  | nil=>rintro a w ⟨_,s',ρ',hq,hs'⟩;exact ⟨s',ρ',hq,hs'⟩
  | cons i l ih =>
   intro a w h;simp only [wpOps] at h ⊢;cases ho:ops[i]? with
   | none=>simp only [ho] at h ⊢;exact ih a w h
   | some o =>
    simp only [ho] at h ⊢;split
    ·rename_i hw
     rw [d9l hw] at h;rcases h with h|⟨_,⟨a0,w0,h0⟩⟩
     ·refine .inl ?_
      unfold Oper.wp Oper.upon at h ⊢;split<;>rename_i hr<;>simp only [hr] at h
      ·exact ih _ _ h
      ·exact ih _ _ h
      ·exact ih _ _ h
      ·refine Calls.mono h fun e w'' he=>?_
       cases e with
       | returned v=>exact ih _ _ he
       | panicked c=>cases he.1
       | outgrown=>obtain ⟨a0,w0,h0⟩:=he;cases h0.1
      ·exact Rows.mono h fun _ _ he=>ih _ _ he
      ·cases h.1
     ·cases h0.1
    ·rename_i hw
     rw [d9m hw] at h;exact ih _ _ h
theorem Ok.region {i:Nat}{Q:Exit->St->Prop}(h:OkL C F ops ops.toList s (Q .normal)):Ok C F (.region i ops false) s Q:=by
 intro hd ρ a w hs;refine wp_region ?_
 have:=h hd (List.range ops.size) (by
  apply e2w;intro j;simp only [d9E]
  by_cases hj:j<ops.size
  ·rw [e0Y hj];simp [hj]
  ·rw [e0c (by simp;omega),e0c (by simp;omega)];rfl) ρ a w hs
 exact b3L _ _ _ this
theorem OkL.nil (h:K s):OkL C F ops [] s K:=fun _ l hl ρ a w hs=>by
 cases l with
 | nil=>exact ⟨rfl,s,ρ,h,hs⟩
 | cons=>simp at hl
theorem OkL.step {d : D} {H' : Hp} {n' : Nat} (hw : a0S ops s.env o = some true) (hg : ∀ (ρ : Lk) (a : Act) (w : World), Sat C F ρ s a w ->
      ∃ v ρ' w', ((execOp a.eval o).run C.P w = .ok (.value v) w' \/ ((execOp a.eval o).run C.P w = .ok .skip w' /\ v = undef)) /\ Did C F ρ s.H w 0 d H' n' v ρ' w' /\ ∀ e ∈ H', e.g < n')
    (h : OkL C F ops os ⟨a2f s.env o.dst d, H', n'⟩ K) : OkL C F ops (o :: os) s K := by
  intro hd l hl ρ a w hs
  cases l with
  | nil => simp at hl
  | cons i l =>
    simp only [e0I, e0P] at hl
    simp only [e1f, d9B] at hd
    obtain ⟨v, ρ', w', hrun, hdid, hgen⟩ := hg ρ a w hs
    simp only [wpOps, hl.1]
    rw [d9l (a2P hs.env hw)]
    refine .inl ?_
    have next := h hd.2 l hl.2 ρ' (a.put o.dst v) w' (hs.put hdid.mem hdid.ext hdid.fresh hgen hdid.rep hd.1)
    unfold Oper.wp
    rcases hrun with hrun | ⟨hrun, rfl⟩
    · rw [hrun]; exact next
    · rw [hrun]; exact next
theorem Did.pure {ρ:Lk}{w:World}{d:D}{v:Value}{a:Act}(hs:Sat C F ρ s a w)(h:Rep ρ (Own F.X ρ s.H) w d v):Did C F ρ s.H w 0 d s.H (s.n+1) v ρ w :=
 ⟨hs.mem,.refl _ _ _,fun k g hg=>hs.fresh k g (by omega),h⟩
theorem OkL.p {tt:Nat->Option a0n}(htt:Tab C.P tt){d:D}{p:Prop}(hw:a0S ops s.env o=some true)(he:evP tt (a1m s.env) o.op=some (d,p))(hp:p)
  (h:OkL C F ops os ⟨a2f s.env o.dst d,s.H,s.n+1⟩ K):OkL C F ops (o::os) s K :=
 OkL.step hw (fun ρ a w hs=>by
  obtain ⟨v,h1,h2⟩:=b8T (ρ:=ρ) (O:=Own F.X ρ s.H) (w:=w) htt (a0Z hs.env) he hp;exact ⟨v,ρ,w,.inl h1,.pure hs h2,fun e he=>e0G (hs.gen e he)⟩) h
theorem b8R {tt:Nat->Option a0n}{H:Hp}{n k:Nat}{g:Operand->D}{op:Op}{d:D}{e:Ent}{p:Prop}(he:evL tt H n k g op=some (d,some e,p)):e.g=n:=by
 unfold evL at he
 (repeat' split at he)<;>first|(cases he;done)|(cases he;rfl)
theorem OkL.skip (hw:a0S ops s.env o=some false)(h:OkL C F ops os ⟨a2f s.env o.dst (.prim (.tuple #[])),s.H,s.n+1⟩ K):OkL C F ops (o::os) s K:=by
 intro hd l hl ρ a w hs;cases l with
 | nil=>simp at hl
 | cons i l =>
  simp only [e0I,e0P] at hl;simp only [e1f,d9B] at hd;simp only [wpOps,hl.1];rw [d9m (by rw [a2P hs.env hw];simp)];exact h hd.2 l hl.2 ρ (a.put o.dst undef) w (hs.put hs.mem (.refl _ _ _) (fun k g hg=>hs.fresh k g (by omega)) (fun e he=>e0G (hs.gen e he)) (.prim _) hd.1)
end
inductive Fz (H Hf:Hp):D->D->Prop
 | refl (d:D):Fz H Hf d d
 | any (d:D):Fz H Hf d .any
 | nil (sz:Nat):Fz H Hf (.prim (.slice none 0 0)) (.sl false sz [])
 | nn (nn:Bool) (sz:Nat) (es:List D):Fz H Hf (.sl nn sz es) (.sl false sz es)
 | agg {ds ds':List D} (hl:ds.length=ds'.length) (h:∀ (i:Nat) (d d':D),ds[i]? = some d->ds'[i]? = some d'->Fz H Hf d d'):Fz H Hf (.agg ds) (.agg ds')
 | tup {ds ds':List D} (hl:ds.length=ds'.length) (h:∀ (i:Nat) (d d':D),ds[i]? = some d->ds'[i]? = some d'->Fz H Hf d d'):Fz H Hf (.tup ds) (.tup ds')
 | osl {k g sz i len:Nat} {e:Ent} {es':List D} (he:Hp.get H k=some e) (hf:Hp.get Hf k=none) (hg:g=e.g) (hs:sz=e.sz) (hi:i+len<=e.es.length) (hl:es'.length=len)
   (hc:∀ (j:Nat) (d d':D),e.es[i+j]? = some d->es'[j]? = some d'->d'.cells.length=d.cells.length)
   (h:∀ (j:Nat) (d d':D) (q:Nat) (c c':D),e.es[i+j]? = some d->es'[j]? = some d'->d.cells[q]? = some c->d'.cells[q]? = some c'->Fz H Hf c c') :
   Fz H Hf (.osl k g sz i len) (.sl false sz es')
inductive FzH (H Hf:Hp):Hp->Hp->Prop
 | nil:FzH H Hf [] []
 | drop {e:Ent} {r r':Hp} (h:FzH H Hf r r'):FzH H Hf (e::r) r'
 | keep {e:Ent} {r r':Hp} (h:FzH H Hf r r'):FzH H Hf (e::r) (e::r')
 | turn {e:Ent} {r r':Hp} {es':List D} (hl:es'.length=e.es.length)
   (hc:∀ (j:Nat) (d d':D),e.es[j]? = some d->es'[j]? = some d'->d'.cells.length=d.cells.length)
   (hh:∀ (j:Nat) (d d':D) (q:Nat) (c c':D),e.es[j]? = some d->es'[j]? = some d'->d.cells[q]? = some c->d'.cells[q]? = some c'->Fz H Hf c c')
   (h:FzH H Hf r r'):FzH H Hf (e::r) (⟨e.k,e.g,e.T,e.sz,es'⟩::r')
section
variable {C:Ctx} {F:Fra} {ρ:Lk} {H:Hp} {w:World}
theorem d8p:∀ {H:Hp} {k:Nat},Hp.get H k=none->∀ e∈H,e.k≠k
 | e::r,k,h,e',he'=>by
  simp only [Hp.get] at h;cases hb:Nat.beq e.k k with
  | true=>simp [hb] at h
  | false =>
   simp [hb] at h;rcases d9F.1 he' with rfl|he'
   ·intro hk;rw [hk] at hb;simp at hb
   ·exact d8p h e' he'
theorem FzH.names {Hf H1 H2:Hp}(h:FzH H Hf H1 H2):∀ e∈H2,∃ e'∈H1,e'.k=e.k/\e'.g=e.g/\e'.T=e.T/\e'.sz=e.sz:=by
 induction h with
 | nil=>simp
 | drop _ ih=>intro e he;obtain ⟨e',h1,h2⟩:=ih e he;exact ⟨e',by simp [h1],h2⟩
 | keep _ ih =>
  intro e he;rcases d9F.1 he with rfl|he
  ·exact ⟨_,by simp,rfl,rfl,rfl,rfl⟩
  ·obtain ⟨e',h1,h2⟩:=ih e he;exact ⟨e',by simp [h1],h2⟩
 | @turn e0 r r' es' hl hc hh _ ih =>
  intro e he;rcases d9F.1 he with rfl|he
  ·exact ⟨e0,by simp,rfl,rfl,rfl,rfl⟩
  ·obtain ⟨e',h1,h2⟩:=ih e he;exact ⟨e',by simp [h1],h2⟩
theorem Fz.rep {Hf:Hp}(m:Mem C F ρ H w)(hO:∀ b,Own F.X ρ Hf b->Own F.X ρ H b)(hN:∀ e∈H,∀ b,ρ e.k e.g=some b->Hp.get Hf e.k=none->¬ Own F.X ρ Hf b)
  {d d':D} (h:Fz H Hf d d'):∀ {v:Value},Rep ρ (Own F.X ρ H) w d v->Rep ρ (Own F.X ρ Hf) w d' v:=by
 induction h with
 | refl d=>intro v hv;exact hv.anti hO
 | any d=>intro v _;exact .any v
 | nil sz=>intro v hv;cases hv;exact .nil sz
 | nn nn sz es =>
  intro v hv;cases hv with
  | nil=>exact .nil sz
  | emp a=>exact .emp a
  | sl f hl hc hO' hb hz hcell ho hh=>exact .sl f hl hc (fun h=>hO' (hO _ h)) hb hz hcell ho fun i e j d a b=>(hh i e j d a b).anti hO
 | agg hl _ ih =>
  intro v hv;cases hv with
  | agg hn ho hh =>
   refine .agg (by omega) ho fun i d' hd'=>?_
   have:i<_:=(List.getElem?_eq_some_iff.1 hd').1
   exact ih i _ d' (d9t (by omega)) hd' (hh i _ (d9t (by omega)))
 | tup hl _ ih =>
  intro v hv;cases hv with
  | tup hn hh =>
   refine .tup (by omega) fun i d' hd'=>?_
   have:i<_:=(List.getElem?_eq_some_iff.1 hd').1
   exact ih i _ d' (d9t (by omega)) hd' (hh i _ (d9t (by omega)))
 | @osl k g sz i len e es' he hf hg hs hi hl hc hfz ih =>
  intro v hv;subst hg hs;obtain ⟨hm,hk⟩:=Hp.get_mem he;cases hv with
  | onil =>
   have:es'=[]:=e0d hl
   subst this;exact .nil _
  | osl hr hb hcap hsz hmx =>
   rename_i cap b T cs fz;rw [<- hk] at hr;obtain ⟨cs',h1,h2⟩:=m.at hm hr;rw [hb] at h1;simp only [d9z,Obj.cells.injEq] at h1;obtain ⟨rfl,_,_⟩:=h1;have get:∀ j (d':D),es'[j]? = some d'->∃ d,e.es[i+j]? = some d:=fun j d' hd'=>by
    have:j<es'.length:=(List.getElem?_eq_some_iff.1 hd').1
    exact ⟨_,d9t (by omega)⟩
   have hin:∀ n,n<len*e.sz->i*e.sz+n<cs.size:=fun n hn=>by
    have:(i+len)*e.sz<=e.es.length*e.sz:=d9K _ hi
    rw [e0e] at this;have:=h2.len;omega
   refine .sl (fun n=>cs.getD (i*e.sz+n) undef) hl hcap (hN e hm b hr (by rw [hk];exact hf)) (m.lt hm hr) (fun j d' hd'=>?_) (fun n hn=>?_) (fun n hn=>?_) fun j d' q c hd' hc'=>?_
   ·obtain ⟨d,hd⟩:=get j d' hd'
    rw [hc j d d' hd hd'];exact h2.siz _ _ hd
   ·simp [World.cell?,hb,hin n hn]
   ·have:=h2.one _ _ (d9C (hin n hn))
    simpa [d9o,d9C (hin n hn)] using this
   ·obtain ⟨d,hd⟩:=get j d' hd'
    have hq:q<d'.cells.length:=(List.getElem?_eq_some_iff.1 hc').1;have hcc:=hc j d d' hd hd';have hcd:d.cells[q]? = some d.cells[q]:=d9t (by omega)
    have:=h2.rep (i+j) d q _ hd hcd
    rw [e0e,e1d] at this;exact ih j d d' q _ c hd hd' hcd hc' this
theorem FzH.mem {Hf:Hp}(m:Mem C F ρ H w)(h:FzH H Hf H Hf):Mem C F ρ Hf w/\(∀ b,Own F.X ρ Hf b->Own F.X ρ H b) /\
  ∀ e∈H,∀ b,ρ e.k e.g=some b->Hp.get Hf e.k=none->¬ Own F.X ρ Hf b:=by
 have hO:∀ b,Own F.X ρ Hf b->Own F.X ρ H b:=fun b hb=>hb.imp id fun ⟨e,he,hb⟩=>by
  obtain ⟨e',h1,h2,h3,_⟩:=h.names e he;exact ⟨e',h1,by rw [h2,h3];exact hb⟩
 have hN:∀ e∈H,∀ b,ρ e.k e.g=some b->Hp.get Hf e.k=none->¬ Own F.X ρ Hf b:=by
  rintro e he b hb hn (hx|⟨e2,he2,hb2⟩)
  ·exact (m.hok.own e he b hb).1 hx
  ·obtain ⟨e3,h1,h2,h3,_⟩:=h.names e2 he2
   have hne:e3.k≠e.k:=by rw [h2];exact d8p hn e2 he2
   have hp:=m.hok.inj
   have:e≠e3:=fun h=>hne (by rw [h])
   rw [<- h2,<- h3] at hb2;rcases List.pairwise_iff_getElem.1 hp with hp;obtain ⟨i,hi,rfl⟩:=e1x he;obtain ⟨j,hj,rfl⟩:=e1x h1;rcases Nat.lt_trichotomy i j with hij|rfl|hij
   ·exact hp i j hi hj hij b b hb hb2 rfl
   ·exact this rfl
   ·exact hp j i hj hi hij b b hb2 hb rfl
 refine ⟨⟨⟨?_,?_,?_⟩,m.os,m.tape,m.output,m.size,m.blk,m.xlt,m.g0,m.gn,m.gw,m.lnk,m.shp⟩,hO,hN⟩
 ·have gen:∀ {H1 H2:Hp},FzH H Hf H1 H2->(∀ e∈H1,e∈H)->∀ e∈H2,(e.es=[]/\ρ e.k e.g=none)\/∃ b cs,ρ e.k e.g=some b/\w.heap[b]? = some (.cells cs e.T (0,0))/\a2C ρ (Own F.X ρ Hf) w e cs:=by
   intro H1 H2 h
   induction h with
   | nil=>simp
   | drop _ ih=>intro hs;exact ih fun e he=>hs e (by simp [he])
   | keep _ ih =>
    intro hs e he;rcases d9F.1 he with rfl|he
    ·rcases m.hok.ent e (hs e (by simp)) with h|⟨b,cs,h1,h2,h3⟩
     ·exact .inl h
     ·exact .inr ⟨b,cs,h1,h2,h3.anti hO⟩
    ·exact ih (fun e he=>hs e (by simp [he])) e he
   | @turn e0 r r' es' hl hc hh _ ih =>
    intro hs e he;rcases d9F.1 he with rfl|he
    ·rcases m.hok.ent e0 (hs e0 (by simp)) with ⟨h1,h2⟩|⟨b,cs,h1,h2,h3⟩
     ·left
      refine ⟨?_,h2⟩;rw [h1] at hl;exact e0d (by simpa using hl)
     ·right
      have get:∀ j (d':D),es'[j]? = some d'->∃ d,e0.es[j]? = some d:=fun j d' hd'=>by
       have:j<es'.length:=(List.getElem?_eq_some_iff.1 hd').1
       exact ⟨_,d9t (by omega)⟩
      refine ⟨b,cs,h1,h2,by rw [hl];exact h3.len,fun i d' hd'=>?_,h3.one,fun i d' q c hd' hc'=>?_⟩
      ·obtain ⟨d,hd⟩:=get i d' hd'
       rw [hc i d d' hd hd'];exact h3.siz _ _ hd
      ·obtain ⟨d,hd⟩:=get i d' hd'
       have hq:q<d'.cells.length:=(List.getElem?_eq_some_iff.1 hc').1;have hcc:=hc i d d' hd hd';have hcd:d.cells[q]? = some d.cells[q]:=d9t (by omega);exact (hh i d d' q _ c hd hd' hcd hc').rep m hO hN (h3.rep i d q _ hd hcd)
    ·exact ih (fun e he=>hs e (by simp [he])) e he
  exact gen h fun _ h=>h
 ·have gen:∀ {H1 H2:Hp},FzH H Hf H1 H2->H1.Pairwise (fun e e'=>∀ b b',ρ e.k e.g=some b->ρ e'.k e'.g=some b'->b≠b')->H2.Pairwise (fun e e'=>∀ b b',ρ e.k e.g=some b->ρ e'.k e'.g=some b'->b≠b'):=by
   intro H1 H2 h
   induction h with
   | nil=>intro h;exact h
   | drop _ ih=>intro h;exact ih (e0U.1 h).2
   | keep h0 ih =>
    intro h;obtain ⟨p1,p2⟩:=e0U.1 h;refine e0U.2 ⟨fun e2 he2 b b' hb hb'=>?_,ih p2⟩;obtain ⟨e3,a1,a2,a3,_⟩:=h0.names e2 he2;exact p1 e3 a1 b b' hb (by rw [a2,a3];exact hb')
   | turn hl hc hh h0 ih =>
    intro h;obtain ⟨p1,p2⟩:=e0U.1 h;refine e0U.2 ⟨fun e2 he2 b b' hb hb'=>?_,ih p2⟩;obtain ⟨e3,a1,a2,a3,_⟩:=h0.names e2 he2;exact p1 e3 a1 b b' hb (by rw [a2,a3];exact hb')
  exact gen h m.hok.inj
 ·intro e he b hb
  obtain ⟨e',h1,h2,h3,_⟩:=h.names e he;exact m.hok.own e' h1 b (by rw [h2,h3];exact hb)
def b3Q (H Hf:Hp)(env:Env):Env->Prop
 | []=>True
 | (t,d')::r=>Fz H Hf (env.get t) d'/\b3Q H Hf env r
theorem b3Q.get {Hf:Hp}{env:Env}:∀ {env':Env},b3Q H Hf env env'->∀ t,Fz H Hf (env.get t) (env'.get t)
 | [],_,t=>.any _
 | (k,d')::r,h,t=>by
  rw [d8k]
  by_cases hk:k=t
  ·subst hk;rw [d9l rfl];exact h.1
  ·rw [d9m hk];exact b3Q.get h.2 t
theorem Sat.weak {s:St}{a:Act}{env':Env}{Hf:Hp}{n':Nat}(hs:Sat C F ρ s a w)(h:FzH s.H Hf s.H Hf)(he:b3Q s.H Hf s.env env')(hn:s.n<=n'):Sat C F ρ ⟨env',Hf,n'⟩ a w:=by
 obtain ⟨m,hO,hN⟩:=h.mem hs.mem;refine ⟨m,fun k g hg=>hs.fresh k g (d9V hn hg),fun e he'=>?_,fun t=>(he.get t).rep hs.mem hO hN (hs.env t),hs.nt,hs.dfr⟩;obtain ⟨e2,h1,h2,h3,_⟩:=h.names e he'
 have:=hs.gen e2 h1
 exact e0a (by omega) hn
end
class IsPure (d:D):Prop where
 out:a2n d
class ArePure (l:List D):Prop where
 out:∀ d∈l,a2n d
class CellsPure (d:D):Prop where
 out:∀ c∈d.cells,a2n c
instance  (v:Value):IsPure (.prim v):=⟨.prim v⟩
instance:IsPure .any:=⟨.any⟩
instance  (l:List D)[h:ArePure l]:IsPure (.agg l):=⟨.agg h.out⟩
instance  (l:List D)[h:ArePure l]:IsPure (.tup l):=⟨.tup h.out⟩
instance  (fn:Fn)(a b:List D)[h:ArePure a][k:ArePure b]:IsPure (.clo fn a b):=⟨.clo h.out k.out⟩
instance  (t:Nat)(d:D)[h:IsPure d]:IsPure (.ifc t d):=⟨.ifc h.out⟩
instance  (a b:List D)[h:ArePure a][k:ArePure b]:IsPure (.mp a b):=⟨.mp h.out k.out⟩
instance  (d:D)[h:CellsPure d]:IsPure (.pptr d):=⟨.pptr h.out⟩
instance:ArePure []:=⟨by simp⟩
instance  (d:D)(l:List D)[h:IsPure d][k:ArePure l]:ArePure (d::l):=⟨fun x hx=>by
 rcases d9F.1 hx with rfl|hx
 ·exact h.out
 ·exact k.out x hx⟩
instance  (a b:List D)[h:ArePure a][k:ArePure b]:ArePure (a++b):=⟨fun x hx=>(List.mem_append.1 hx).elim (h.out x) (k.out x)⟩
instance  (v:Value):CellsPure (.prim v):=⟨fun c hc=>by simp [D.cells] at hc;subst hc;exact .prim v⟩
instance  (l:List D)[h:ArePure l]:CellsPure (.agg l):=⟨fun c hc=>h.out c hc⟩
instance  (nn:Bool)(sz:Nat)(es:List D)[h:IsPure (.sl nn sz es)]:CellsPure (.sl nn sz es):=⟨fun c hc=>by simp [D.cells] at hc;subst hc;exact h.out⟩
class ElemsPure (l:List D):Prop where
 out:∀ e∈l,∀ c∈e.cells,a2n c
instance:ElemsPure []:=⟨by simp⟩
instance  (d:D)(l:List D)[h:CellsPure d][k:ElemsPure l]:ElemsPure (d::l):=⟨fun x hx=>by
 rcases d9F.1 hx with rfl|hx
 ·exact h.out
 ·exact k.out x hx⟩
instance  {α:Type}(f:α->D)(l:List α)[h:∀ x,CellsPure (f x)]:ElemsPure (l.map f):=⟨fun e he=>by
 obtain ⟨x,_,rfl⟩:=List.mem_map.1 he;exact (h x).out⟩
instance  (a b:List D)[h:ElemsPure a][k:ElemsPure b]:ElemsPure (a++b):=⟨fun x hx=>(List.mem_append.1 hx).elim (h.out x) (k.out x)⟩
instance  (nn:Bool)(sz:Nat)(es:List D)[h:ElemsPure es]:IsPure (.sl nn sz es):=⟨.sl h.out⟩
def nol:Lk:=fun _ _=>none
theorem Rep.nol {ρ:Lk}{O:Nat->Prop}{w:World}{d:D}{v:Value}(h:Rep nol O w d v):Rep ρ O w d v:=by
 induction h with
 | any v=>exact .any v
 | prim v=>exact .prim v
 | agg hn ho _ ih=>exact .agg hn ho ih
 | tup hn _ ih=>exact .tup hn ih
 | nil sz=>exact .nil sz
 | onil k g sz=>exact .onil k g sz
 | emp a=>exact .emp a
 | mp hO hr hb h1 h2 _ _ ih1 ih2=>exact .mp hO hr hb h1 h2 ih1 ih2
 | sl f hl hc hO hb hz hcell ho _ ih=>exact .sl f hl hc hO hb hz hcell ho ih
 | pptr f hO hb hcell ho _ ih=>exact .pptr f hO hb hcell ho ih
 | osl hr=>cases hr
 | optr hr=>cases hr
 | clo hf hc _ _ ih1 ih2=>exact .clo hf hc ih1 ih2
 | gd _ h2 ih=>exact .gd ih h2
 | ifc _ ih=>exact .ifc ih
def a3E (P:Program) (f:Nat):Prop:=∃ fn c,P.funcs[f]? = some fn/\fn.body=some c/\(fn.name == "runtime.NumGoroutine")=false
def a0c (C:Ctx)(f:Nat)(args:List D)(Φ:D->Prop):Prop :=
 a3E C.P f/\∀ (X:Nat->Prop) (w:World) (vs:Array Value),C.G w->C.nG<=w.heap.size->(∀ b,X b->b<w.heap.size)->vs.size=args.length ->
  (∀ (i:Nat) (d:D),args[i]? = some d->Rep nol X w d (vs.getD i undef)) ->
  Calls C.P f vs w (fun e w'=>∃ v d,e=.returned v/\Below w.heap.size w w'/\Φ d/\Rep nol X w' d v)
def a0b (C:Ctx)(f:Nat)(args:List D)(d:D):Prop:=a0c C f args (· = d)
section
variable {C:Ctx} {F:Fra} {s:St} {ops:Array Oper} {o:Oper} {os:List Oper} {K:St->Prop}
theorem a4N {f:Nat}(h:a3E C.P f)(vs:Array Value)(w:World):(callFunc f vs).run C.P w=.ok (.enter f vs) w:=by
 obtain ⟨fn,c,h1,h2,h3⟩:=h;unfold callFunc;rw [run_bind,a4t];dsimp only;simp only [h1];rw [d9m (by simp [h3]),d9m (by simp [h2])];rfl
theorem d8C {f:Nat}{Φ:D->Prop}(hw:a0S ops s.env o=some true)
  (hrun:∀ (ρ:Lk) (a:Act) (w:World),Sat C F ρ s a w->∃ vs,(execOp a.eval o).run C.P w=.ok (.enter f vs) w /\
   Calls C.P f vs w (fun e w'=>∃ v d,e=.returned v/\Below w.heap.size w w'/\Φ d/\Rep ρ (Own F.X ρ s.H) w' d v))
  (h:∀ d,Φ d->OkL C F ops os ⟨a2f s.env o.dst d,s.H,s.n+1⟩ K):OkL C F ops (o::os) s K:=by
 intro hd l hl ρ a w hs;cases l with
 | nil=>simp at hl
 | cons i l =>
  simp only [e0I,e0P] at hl;simp only [e1f,d9B] at hd;obtain ⟨vs,h1,h2⟩:=hrun ρ a w hs;simp only [wpOps,hl.1];rw [d9l (a2P hs.env hw)];refine .inl ?_;unfold Oper.wp;rw [h1];refine h2.mono ?_;rintro e w' ⟨v,d,rfl,hb,hΦ,hr⟩;have x:Ext ρ (Own F.X ρ s.H) w ρ (Own F.X ρ s.H) w':=⟨hb.size,fun _ _ _ h=>h,fun b hb' hO=>⟨hO,hb.block b hb'⟩,fun b cs T fz hh=>⟨cs,_,by
   rw [hb.block b (Array.getElem?_eq_some_iff.1 hh).1];exact hh,rfl⟩⟩
  exact h d hΦ hd.2 l hl.2 ρ (a.put o.dst v) w' (hs.put (hs.mem.same x hb.os hb.tape hb.output hb.block) x (fun k g hg=>hs.fresh k g (by omega)) (fun e he=>e0G (hs.gen e he)) hr hd.1)
theorem a4k {f:Nat}{g:Operand->D}{O:Nat->Prop}{first captured:List D}{fop:Operand}{args:Array Operand}{tys:Array Nat}{ρ:Lk}{a:Act}{w:World}(ho:o.op=.call ⟨.value fop,args,tys⟩)
  (hf:g fop=.clo (.func f) first captured) (hcall:a3E C.P f) (hg:∀ x,Rep ρ O w (g x) (a.eval x)) :
  ∃ vs,(execOp a.eval o).run C.P w=.ok (.enter f vs) w/\vs.size=(first++args.toList.map g++captured).length /\
   ∀ (i:Nat) (d:D),(first++args.toList.map g++captured)[i]? = some d->Rep ρ O w d (vs.getD i undef):=by
 have hfr:=hg fop;rw [hf] at hfr;generalize hv:a.eval fop=v at hfr;cases hfr with
 | clo hn hc h1 h2 =>
  rename_i fs cs;refine ⟨fs++args.map a.eval++cs,?_,by simp [hn,hc],fun i d hd=>?_⟩
  ·unfold execOp
   simp only [ho];rw [run_bind]
   have:(resolve a.eval ⟨.value fop,args,tys⟩ o.type).run C.P w=.ok { target:=.fn (.func f) cs,args:=fs++args.map a.eval } w:=by
    unfold resolve;simp only [hv];rfl
   rw [this];dsimp only;unfold invoke;exact a4N hcall _ w
  ·rw [e0J] at hd
   rcases d9H i first.length with hi|hi
   ·rw [e0g hi] at hd
    have:(fs++args.map a.eval++cs).getD i undef=fs.getD i undef:=by
     simp only [d9o];rw [e2b,e0F (by omega)]
    rw [this];exact h1 i d hd
   ·rw [e0b hi] at hd
    rcases d9H (i - first.length) args.size with hj|hj
    ·rw [e0g (by simpa using hj)] at hd
     simp at hd;obtain ⟨x,hx,rfl⟩:=hd
     have:(fs++args.map a.eval++cs).getD i undef=a.eval x:=by
      simp only [d9o];rw [e2b,e0y (by omega),e0F (by simp;omega),hn];simp [hx]
     rw [this];exact hg x
    ·rw [e0b (by simpa using hj)] at hd
     have:(fs++args.map a.eval++cs).getD i undef=cs.getD (i - first.length - args.size) undef:=by
      simp only [d9o];rw [e2b,e0y (by omega),e0y (by simp;omega),hn];simp
     rw [this];exact h2 _ d (by simpa using hd)
theorem a7s {f:Nat}{first captured:List D}{fop:Operand}{args:Array Operand}{tys:Array Nat}{ρ:Lk}{a:Act}{w:World}(ho:o.op=.call ⟨.value fop,args,tys⟩)
  (hf:a1m s.env fop=.clo (.func f) first captured) (hcall:a3E C.P f) (hs:Sat C F ρ s a w) :
  ∃ vs,(execOp a.eval o).run C.P w=.ok (.enter f vs) w/\vs.size=(first++args.toList.map (a1m s.env)++captured).length /\
   ∀ (i:Nat) (d:D),(first++args.toList.map (a1m s.env)++captured)[i]? = some d->Rep ρ (Own F.X ρ s.H) w d (vs.getD i undef) :=
 a4k ho hf hcall (a0Z hs.env)
def b0a (d:D):Prop:=∀ (ρ ρ':Lk) (O O':Nat->Prop) (w w':World) (v:Value),Rep ρ O w d v->Rep ρ' O' w' d v
theorem b0a.prim (v:Value):b0a (.prim v):=fun _ _ _ _ _ _ _ h=>by cases h;exact .prim v
def FzL (H Hf:Hp):List D->List D->Prop
 | [],[]=>True
 | d::l,d'::l'=>Fz H Hf d d'/\FzL H Hf l l'
 | _,_=>False
theorem FzL.spec {H Hf:Hp}:∀ {l l':List D},FzL H Hf l l'->l.length=l'.length/\∀ (i:Nat) (d d':D),l[i]? = some d->l'[i]? = some d'->Fz H Hf d d'
 | [],[],_=>by simp
 | d::l,d'::l',h=>by
  obtain ⟨h1,h2⟩:=FzL.spec h.2;refine ⟨by simp [h1],fun i a b ha hb=>?_⟩;cases i with
  | zero=>simp at ha hb;subst ha hb;exact h.1
  | succ i=>exact h2 i a b (by simpa using ha) (by simpa using hb)
 | [],_::_,h=>h.elim
 | _::_,[],h=>h.elim
def b0Q (tt:Nat->Option a0n)(s:St):ResultVar->Option (D × Prop)
 | .tmp t=>some (s.env.get t,True)
 | .cell a t=>match evL tt s.H 0 0 (fun _=>s.env.get a) (.load t (.tmp 0)) with
  | some (d,none,p)=>some (d,p)
  | _=>none
def a6F (tt:Nat->Option a0n)(s:St):List ResultVar->Option (List D × Prop)
 | []=>some ([],True)
 | r::rs=>match b0Q tt s r with
  | some (d,p)=>match a6F tt s rs with
   | some (l,q)=>some (d::l,p/\q)
   | none=>none
  | none=>none
def c0T (tt:Nat->Option a0n)(s:St)(rs:List ResultVar):Option (D × Prop):=match a6F tt s rs with
 | some ([d],p)=>some (d,p)
 | some (l,p)=>some (.tup l,p)
 | none=>none
def d6A (tt:Nat->Option a0n)(rs:List ResultVar)(Φ:D->Prop):Exit->St->Prop:=fun e s =>
 (e=.normal\/e=.ret)/\∃ d0 p,c0T tt s rs=some (d0,p)/\p/\∃ d,Fz s.H [] d0 d/\a2n d/\Φ d
def a1n:Nat->List D->Env
 | _,[]=>[]
 | i,d::l=>(i,d)::a1n (i+1) l
theorem a6Q:∀ (l:List D) (i t:Nat),(a1n i l).get t=if i<=t then (l[t - i]?).getD .any else .any
 | [],i,t=>by simp [a1n,Env.get]
 | d::l,i,t=>by
  simp only [a1n];rw [d8k,a6Q l (i+1) t]
  by_cases h:i=t
  ·subst h;simp
  ·rw [d9m h]
   by_cases h2:i+1<=t
   ·rw [d9l h2,d9l (by omega),show t - i=(t - (i+1))+1 from by omega,e1l]
   ·rw [d9m h2,d9m (by omega)]
end
section
variable {C:Ctx} {F:Fra} {s:St} {ops:Array Oper} {o:Oper} {os:List Oper} {K:St->Prop}
theorem b0S {α:Type}{P:Program}{w:World}(f:α->Sem Value):∀ (l:List α) (vs:List Value),vs.length=l.length->(∀ (i:Nat) (x:α) (v:Value),l[i]? = some x->vs[i]? = some v->(f x).run P w=.ok v w) ->
  (l.mapM f).run P w=.ok vs w
 | [],[],_,_=>by rw [List.mapM_nil];rfl
 | x::l,v::vs,hl,h=>by
  rw [List.mapM_cons,run_bind,h 0 x v rfl rfl];dsimp only;rw [run_bind,b0S f l vs (by simpa using hl) fun i y u hy hu=>h (i+1) y u (by simpa using hy) (by simpa using hu)];rfl
 | [],_::_,hl,_=>by simp at hl
 | _::_,[],hl,_=>by simp at hl
theorem c0V {tt:Nat->Option a0n}(htt:Tab C.P tt){ρ:Lk}{a:Act}{w:World}(hs:Sat C F ρ s a w){r:ResultVar}{d:D}{p:Prop}(h:b0Q tt s r=some (d,p))(hp:p) :
  ∃ v,(match r with | .tmp t=>pure (a.tmps.getD t undef) | .cell b t=>do loadVar t (<- asAddr (a.tmps.getD b undef)):Sem Value).run C.P w=.ok v w/\Rep ρ (Own F.X ρ s.H) w d v:=by
 cases r with
 | tmp t =>
  simp only [b0Q,d9z,d9Q] at h;obtain ⟨rfl,rfl⟩:=h;exact ⟨_,rfl,hs.env t⟩
 | cell b t =>
  simp only [b0Q] at h;split at h<;>try(cases h;done)
  rename_i d' q he;simp only [d9z,d9Q] at h;obtain ⟨rfl,rfl⟩:=h;have hb:=hs.env b;simp only [evL] at he;cases hi:tt t with
  | none=>simp [hi] at he
  | some i =>
   simp only [hi] at he;have ht:=htt _ _ hi;have fin:∀ v,a.tmps.getD b undef=v->(∃ A,v=.pointer (some A))->(∃ u,(Instr.loadAt t v).run C.P w=.ok u w/\Rep ρ (Own F.X ρ s.H) w d' u) ->
     ∃ v,(do loadVar t (<- asAddr (a.tmps.getD b undef)):Sem Value).run C.P w=.ok v w/\Rep ρ (Own F.X ρ s.H) w d' v:=by
    rintro v hv ⟨A,rfl⟩ ⟨u,h1,h2⟩;refine ⟨u,?_,h2⟩;rw [hv,run_bind];show (loadVar t A).run C.P w=_;unfold Instr.loadAt at h1;rw [run_bind,a2W] at h1;exact h1
   split at he<;>try(cases he;done)
   ·rename_i k' gg sz j off hgx
    rw [hgx] at hb;split at he<;>try(cases he;done)
    rename_i e he1;split at he<;>try(cases he;done)
    rename_i d1 hd1;split at he<;>try(cases he;done)
    rename_i d2 hd2;simp only [d9z,d9Q] at he;obtain ⟨rfl,_,rfl⟩:=he;refine fin _ rfl (by generalize a.tmps.getD b undef=v at hb;cases hb;exact ⟨_,rfl⟩) (b5N hs.mem ht (Hp.get_mem he1).1 (Hp.get_mem he1).2 hd1 hd2 hp.1 hp.2.1 (fun ha=>?_) hb)
    have:=hp.2.2
    rw [ha] at this;exact d9A this
   ·rename_i d1 hgx
    rw [hgx] at hb;split at he
    ·rename_i ha
     split at he<;>try(cases he;done)
     rename_i ds;simp only [d9z,d9Q] at he;obtain ⟨rfl,_,rfl⟩:=he;exact fin _ rfl (by generalize a.tmps.getD b undef=v at hb;cases hb;exact ⟨_,rfl⟩) (a6x ht (fun _=>⟨ds,rfl,d9v hp⟩) (fun h'=>by rw [ha] at h';cases h') hb)
    ·rename_i ha
     simp only [d9z,d9Q] at he;obtain ⟨rfl,_,rfl⟩:=he;exact fin _ rfl (by generalize a.tmps.getD b undef=v at hb;cases hb;exact ⟨_,rfl⟩) (a6x ht (fun h'=>by rw [ha] at h';cases h') (fun _=>hp) hb)
theorem b3x {tt:Nat->Option a0n}(htt:Tab C.P tt){ρ:Lk}{a:Act}{w:World}(hs:Sat C F ρ s a w):∀ {rs:List ResultVar} {l:List D} {p:Prop},a6F tt s rs=some (l,p)->p ->
  ∃ vs:List Value,vs.length=rs.length/\l.length=rs.length/\(∀ (i:Nat) (r:ResultVar) (v:Value),rs[i]? = some r->vs[i]? = some v ->
   (match r with | .tmp t=>pure (a.tmps.getD t undef) | .cell b t=>do loadVar t (<- asAddr (a.tmps.getD b undef)):Sem Value).run C.P w=.ok v w) /\
   ∀ (i:Nat) (d:D),l[i]? = some d->Rep ρ (Own F.X ρ s.H) w d (vs.getD i undef)
 | [],l,p,h,hp=>by
  simp only [a6F,d9z,d9Q] at h;obtain ⟨rfl,rfl⟩:=h;exact ⟨[],rfl,rfl,by simp,by simp⟩
 | r::rs,l,p,h,hp=>by
  simp only [a6F] at h;split at h<;>try(cases h;done)
  rename_i d q h1;split at h<;>try(cases h;done)
  rename_i l' q' h2;simp only [d9z,d9Q] at h;obtain ⟨rfl,rfl⟩:=h;obtain ⟨v,a1,a2⟩:=c0V htt hs h1 hp.1;obtain ⟨vs,b1,b2,b3,b4⟩:=b3x htt hs h2 hp.2;refine ⟨v::vs,by simp [b1],by simp [b2],fun i r' v' hr hv=>?_,fun i d' hd=>?_⟩
  ·cases i with
   | zero=>simp at hr hv;subst hr hv;exact a1
   | succ i=>exact b3 i r' v' (by simpa using hr) (by simpa using hv)
  ·cases i with
   | zero=>simp at hd;subst hd;exact a2
   | succ i=>simpa using b4 i d' (by simpa using hd)
theorem b4M {tt:Nat->Option a0n}(htt:Tab C.P tt){ρ:Lk}{a:Act}{w:World}(hs:Sat C F ρ s a w){fn:Func}{d:D}{p:Prop}(h:c0T tt s fn.results.toList=some (d,p))(hp:p) :
  ∃ v,(results fn a.tmps).run C.P w=.ok v w/\Rep ρ (Own F.X ρ s.H) w d v:=by
 unfold c0T at h;have fin:∀ (l:List D) (q:Prop),a6F tt s fn.results.toList=some (l,q)->q->∃ vs:List Value,vs.length=l.length/\(∀ (i:Nat) (d:D),l[i]? = some d->Rep ρ (Own F.X ρ s.H) w d (vs.getD i undef)) /\
   (results fn a.tmps).run C.P w=.ok (if h:vs.length=1 then vs[0] else .tuple vs.toArray) w:=by
  intro l q hr hq;obtain ⟨vs,b1,b2,b3,b4⟩:=b3x htt hs hr hq;refine ⟨vs,by omega,b4,?_⟩;unfold results;rw [run_bind,Array.mapM_eq_mapM_toList];have hm:=b0S (P:=C.P) (w:=w) (fun r:ResultVar=>(match r with | .tmp t=>pure (a.tmps.getD t undef) | .cell b t=>do loadVar t (<- asAddr (a.tmps.getD b undef)):Sem Value)) fn.results.toList vs b1 b3;rw [map_eq_pure_bind,run_bind]
  erw [hm]
  dsimp only;rw [run_pure];dsimp only;rw [run_pure]
  congr 1
 split at h<;>try(cases h;done)
 ·rename_i d' p' hr
  simp only [d9z,d9Q] at h;obtain ⟨rfl,rfl⟩:=h;obtain ⟨vs,c1,c2,c3⟩:=fin _ _ hr hp
  match vs,c1 with
  | [v],_=>exact ⟨v,c3,by simpa using c2 0 _ rfl⟩
 ·rename_i l p' hne hr
  simp only [d9z,d9Q] at h;obtain ⟨rfl,rfl⟩:=h;obtain ⟨vs,c1,c2,c3⟩:=fin _ _ hr hp;refine ⟨_,c3,?_⟩;rw [dif_neg]
  ·exact .tup (by simp [c1]) fun i d hd=>by simpa using c2 i d hd
  ·intro h1
   match l,c1 with
   | [d'],_=>exact hne d' rfl
   | [],h0=>simp at h0;rw [h0] at h1;simp at h1
   | _::_::_,h0=>simp at h0;omega
theorem a0c.intro {f:Nat}{fn:Func}{c:Code}{args:List D}{Φ:D->Prop}{tt:Nat->Option a0n}(htt:Tab C.P tt)(hf:C.P.funcs[f]? = some fn)(hb:fn.body=some c)
  (hn:(fn.name == "runtime.NumGoroutine")=false) (hd:a0O fn.ntmps c=true) (hnt:Nat.ble args.length fn.ntmps=true)
  (h:∀ F:Fra,Ok C F c ⟨a1n 0 args,[],0⟩ (d6A tt fn.results.toList Φ)):a0c C f args Φ:=by
 refine ⟨⟨fn,c,hf,hb,hn⟩,fun X w vs hG hnG hX hvs hr=>?_⟩;have hnt:=d9A hnt;refine calls_of_wp hf hb ?_;have hown:∀ b,Own X nol [] b↔X b:=by simp [Own]
 have hoe:Own X nol []=X:=funext fun b=>propext (hown b)
 have sat:Sat C ⟨w,X,fun _=>False,fn.ntmps,nol,[]⟩ nol ⟨a1n 0 args,[],0⟩ { tmps:=vs++Array.replicate (fn.ntmps - vs.size) undef,defers:=[] } w:=by
  refine ⟨⟨⟨by simp,.nil,by simp⟩,rfl,rfl,rfl,d9y _,fun _ _ _=>rfl,hX,hG,hnG,by simp,fun _ _ _ h=>h,fun _ cs _ _ h=>⟨cs,_,h,rfl⟩⟩,fun _ _ _=>rfl,by simp,fun t=>?_,by simp;omega,rfl⟩;dsimp only;rw [hoe,a6Q,d9l (d9U _),Nat.sub_zero];cases ha:args[t]? with
  | none=>exact .any _
  | some d =>
   have ht:t<args.length:=(List.getElem?_eq_some_iff.1 ha).1
   have:(vs++Array.replicate (fn.ntmps - vs.size) undef).getD t undef=vs.getD t undef:=by
    simp only [d9o];rw [e0F (by omega)]
   rw [this];exact hr t d ha
 refine wp_mono (h ⟨w,X,fun _=>False,fn.ntmps,nol,[]⟩ hd nol _ w sat) ?_;rintro e a' w' ⟨s',ρ',⟨he,d0,p,h1,h2,d,h3,h4,h5⟩,hs'⟩;obtain ⟨v,r1,r2⟩:=b4M htt hs' h1 h2;have hH:FzH s'.H [] s'.H []:=by
  generalize s'.H=H0
  have:∀ H1:Hp,FzH H0 [] H1 []:=fun H1=>by
   induction H1 with
   | nil=>exact .nil
   | cons e r ih=>exact .drop ih
  exact this H0
 obtain ⟨m,hO,hN⟩:=hH.mem hs'.mem;have r3:=h3.rep hs'.mem hO hN r2;have hoe':Own X ρ' []=X:=funext fun b=>propext (by simp [Own])
 have r4:Rep nol X w' d v:=by
  have:=h4 _ nol _ _ _ r3
  rwa [hoe'] at this
 have bel:Below w.heap.size w w':=⟨hs'.mem.os,hs'.mem.tape,hs'.mem.output,hs'.mem.size,fun b hb=>hs'.mem.blk b hb (by simp)⟩
 rcases he with rfl|rfl
 ·exact ⟨hs'.dfr,v,r1,v,d,rfl,bel,h5,r4⟩
 ·exact ⟨hs'.dfr,v,r1,v,d,rfl,bel,h5,r4⟩
end
def Hp.set:Hp->Nat->Ent->Hp
 | [],_,_=>[]
 | e::r,k,e'=>match Nat.beq e.k k with
  | true=>e'::r
  | false=>e::Hp.set r k e'
def Hp.del:Hp->Nat->Hp
 | [],_=>[]
 | e::r,k=>match Nat.beq e.k k with
  | true=>r
  | false=>e::Hp.del r k
theorem d8q:∀ {H:Hp} {k:Nat} {e:Ent} (e':Ent),Hp.get H k=some e->∃ H1 H2,H=H1++e::H2/\Hp.set H k e'=H1++e'::H2/\Hp.del H k=H1++H2
 | e::r,k,e0,e',h=>by
  simp only [Hp.get] at h;cases hb:Nat.beq e.k k with
  | true=>simp [hb] at h;subst h;exact ⟨[],r,rfl,by simp [Hp.set,hb],by simp [Hp.del,hb]⟩
  | false =>
   simp [hb] at h;obtain ⟨H1,H2,h1,h2,h3⟩:=d8q e' h;exact ⟨e::H1,H2,by simp [h1],by simp [Hp.set,hb,h2],by simp [Hp.del,hb,h3]⟩
 | [],_,_,_,h=>by simp [Hp.get] at h
def b7A (i:a0n)(off sz:Nat)(d y:D):D:=match off with
 | 0=>match Nat.beq i.sz sz with
  | true=>y
  | false=>.agg (b1P d.cells 0 (a0R i.ag y))
 | n+1=>.agg (b1P d.cells (n+1) (a0R i.ag y))
def evS (tt:Nat->Option a0n)(H:Hp)(g:Operand->D):Op->Option (Nat × Ent × Prop)
 | .store t x y=>match tt t with
  | some i=>match g x with
   | .optr k gg sz j off=>match Hp.get H k with
    | some e=>match e.es[j]? with
     | some d=>some (k,⟨e.k,e.g,e.T,e.sz,a7R e.es j (b7A i off sz d (g y))⟩,a0Y i.ag i.sz (g y)/\gg=e.g/\sz=e.sz/\Nat.ble (off+i.sz) e.sz=true)
     | none=>none
    | none=>none
   | _=>none
  | none=>none
 | _=>none
section
variable {C:Ctx} {F:Fra} {s:St} {ops:Array Oper} {o:Oper} {os:List Oper} {K:St->Prop}
theorem c5F (v:Value):v.oneCell'=one v:=by cases v<;>rfl
theorem a9x {w:World}{b:Nat}{cs cs':Array Value}{T:Nat}(h:w.heap[b]? = some (.cells cs T (0,0))):w.setRow b cs'=World.setBlk w b cs' T:=by
 have hb:b<w.heap.size:=(Array.getElem?_eq_some_iff.1 h).1;unfold World.setRow World.setBlk;cases w with
 | mk heap tape drawn os output =>
  congr 1
  apply Array.ext_getElem?;intro i;dsimp only at h hb;rw [Array.getElem?_modify,e0q]
  by_cases hi:b=i
  ·subst hi;rw [d9l rfl,d9l rfl,d9l hb,h];rfl
  ·rw [d9m hi,d9m hi]
theorem b3E {ρ:Lk}{w:World}{tt:Nat->Option a0n}{g:Operand->D}{ev:Operand->Value}{k:Nat}{e':Ent}{p:Prop}(htt:Tab C.P tt)(m:Mem C F ρ s.H w)(hg:∀ x,Rep ρ (Own F.X ρ s.H) w (g x) (ev x))
  (h:evS tt s.H g o.op=some (k,e',p)) (hp:p) :
  ∃ w',(execOp ev o).run C.P w=.ok .skip w'/\Mem C F ρ (Hp.set s.H k e') w'/\Ext ρ (Own F.X ρ s.H) w ρ (Own F.X ρ (Hp.set s.H k e')) w'/\∀ e∈Hp.set s.H k e',∃ e2∈s.H,e2.g=e.g:=by
 unfold evS at h;split at h<;>try(cases h;done)
 rename_i t x y ho;cases hi:tt t with
 | none=>simp [hi] at h
 | some i =>
  simp only [hi] at h;split at h<;>try(cases h;done)
  rename_i k' gg sz j off hgx;split at h<;>try(cases h;done)
  rename_i e he;split at h<;>try(cases h;done)
  rename_i d hd;simp only [d9z,d9Q] at h;obtain ⟨rfl,rfl,rfl⟩:=h;obtain ⟨hfit,rfl,rfl,hle⟩:=hp;have hle:=d9A hle;have hx:=hg x;rw [hgx] at hx;generalize hv:ev x=v at hx;obtain ⟨hm,hk⟩:=Hp.get_mem he;obtain ⟨H1,H2,q1,q2,q3⟩:=d8q (⟨e.k,e.g,e.T,e.sz,a7R e.es j (b7A i off e.sz d (g y))⟩:Ent) he;cases hx with
  | optr hr =>
   rename_i b;rw [<- hk] at hr;obtain ⟨cs,h1,h2⟩:=m.at hm hr;obtain ⟨f1,f2,f3,f4,f5⟩:=hfit _ _ _ _ (hg y);have hdl:=h2.siz j d hd;have hjl:j<e.es.length:=(List.getElem?_eq_some_iff.1 hd).1;have hrow:j*e.sz+e.sz<=cs.size:=by
    have:(j+1)*e.sz<=e.es.length*e.sz:=d9K _ hjl
    rw [e0e] at this;have:=h2.len;omega
   have hyl:(ev y).cells.toList.length=i.sz:=by simpa using f1
   have run:=run_storeCells_at C.P b (j*e.sz+off) e.T (ev y).cells.toList 0 cs w h1 (by simp [f1];omega) (fun u hu=>by
    rw [c5F];obtain ⟨q,hq,rfl⟩:=e1x hu;exact f2 q _ (by simp at hq;simp [hq]))
   simp only [e0W] at run;generalize hcs':(cs.toList.take (j*e.sz+off)++(ev y).cells.toList++cs.toList.drop (j*e.sz+off+(ev y).cells.toList.length)).toArray=cs' at run;have get:∀ q,cs'[q]? = if j*e.sz+off<=q/\q<j*e.sz+off+i.sz then (ev y).cells[q - (j*e.sz+off)]? else cs[q]?:=fun q=>by
    rw [<- hcs'];simp only [e1v];rw [e0J];have hlt:(cs.toList.take (j*e.sz+off)).length=j*e.sz+off:=by simp;omega
    rcases d9H q (j*e.sz+off) with hq|hq
    ·rw [e0g (by omega),d9m (by omega),e0K,d9l hq];simp
    ·rw [e0b (by omega),hlt]
     rcases d9H (q - (j*e.sz+off)) i.sz with hq2|hq2
     ·rw [e0g (by omega),d9l (by omega)];simp
     ·rw [e0b (by omega),d9m (by omega),hyl,e1m]
      rw [show j*e.sz+off+i.sz+(q - (j*e.sz+off) - i.sz)=q from by omega];simp
   have hsz:cs'.size=cs.size:=by rw [<- hcs'];simp [f1];omega
   have hpc:(a0R i.ag (g y)).length=i.sz:=f3;have hrep:a2C ρ (Own F.X ρ s.H) w ⟨e.k,e.g,e.T,e.sz,a7R e.es j (b7A i off e.sz d (g y))⟩ cs':=by
    have hnew:(b7A i off e.sz d (g y)).cells.length=e.sz/\∀ (q:Nat) (c:D),(b7A i off e.sz d (g y)).cells[q]? = some c->Rep ρ (Own F.X ρ s.H) w c (cs'.getD (j*e.sz+q) undef):=by
     have part:∀ d2:D,d2=.agg (b1P d.cells off (a0R i.ag (g y)))->d2.cells.length=e.sz/\∀ (q:Nat) (c:D),d2.cells[q]? = some c->Rep ρ (Own F.X ρ s.H) w c (cs'.getD (j*e.sz+q) undef):=by
      rintro d2 rfl;refine ⟨by simp only [D.cells,a9w];exact hdl,fun q c hc=>?_⟩;change (b1P d.cells off (a0R i.ag (g y)))[q]? = some c at hc;rw [b6l,hpc] at hc;rw [d9o,get];split at hc
      ·rename_i hq
       rw [d9l (by omega),show j*e.sz+q - (j*e.sz+off)=q - off from by omega,<- d9o];exact f4 _ _ hc
      ·rename_i hq
       have hql:q<d.cells.length:=(List.getElem?_eq_some_iff.1 hc).1;rw [d9m (by omega),<- d9o];exact h2.rep j d q c hd hc
     unfold b7A;split
     ·split
      ·rename_i hbe
       have hbe:=d9v hbe;rw [f5] at f3 f4;refine ⟨by omega,fun q c hc=>?_⟩;have hq:q<(g y).cells.length:=(List.getElem?_eq_some_iff.1 hc).1;rw [d9o,get,d9l (by omega),show j*e.sz+q - (j*e.sz+0)=q from by omega,<- d9o];exact f4 q c hc
      ·exact part _ rfl
     ·exact part _ rfl
    refine ⟨by dsimp only;rw [a6H,e0i,hsz];exact h2.len,fun q d2 hq=>?_,fun q u hu=>?_,fun q d2 qq c hq hc=>?_⟩
    ·dsimp only at hq ⊢
     rw [a6H,List.getElem?_set] at hq;split at hq
     ·rename_i hjq;subst hjq
      cases hq;exact hnew.1
     ·exact h2.siz q d2 hq
    ·rw [get] at hu
     split at hu
     ·exact f2 _ _ hu
     ·exact h2.one _ _ hu
    ·dsimp only at hq ⊢
     rw [a6H,List.getElem?_set] at hq;split at hq
     ·rename_i hjq;subst hjq
      cases hq;exact hnew.2 qq c hc
     ·rename_i hjq
      have hq2:qq<e.sz:=by rw [<- h2.siz q d2 hq];exact (List.getElem?_eq_some_iff.1 hc).1
      rw [d9o,get,d9m,<- d9o]
      ·exact h2.rep q d2 qq c hq hc
      ·intro hin
       rcases Nat.lt_trichotomy j q with hlt|rfl|hlt
       ·have:(j+1)*e.sz<=q*e.sz:=d9K _ hlt
        rw [e0e] at this;omega
       ·exact hjq rfl
       ·have:(q+1)*e.sz<=j*e.sz:=d9K _ hlt
        rw [e0e] at this;omega
   rw [q1] at m hrep;obtain ⟨a1,a2⟩:=m.write (e':=⟨e.k,e.g,e.T,e.sz,a7R e.es j (b7A i off e.sz d (g y))⟩) hr h1 rfl rfl rfl hsz hrep;refine ⟨_,?_,by rw [q2];exact a1,by rw [q2,q1];exact a2,fun e2 he2=>?_⟩
   ·unfold execOp
    simp only [ho];rw [run_bind]
    have:(Instr.storeAt t (ev x) (ev y)).run C.P w=.ok () (World.setBlk w b cs' e.T):=by
     unfold Instr.storeAt;rw [hv,run_bind,a2W];dsimp only;unfold storeVar;obtain ⟨inf,u,t1,t2,t3,t4,_⟩:=a1F (htt _ _ hi);rw [run_bind,a1k t1,t4];dsimp only;rw [d9m (by simp [f1]),run,a9x h1]
    rw [this];rfl
   ·rw [q2] at he2
    rcases List.mem_append.1 he2 with h|h
    ·exact ⟨e2,by rw [q1];simp [h],rfl⟩
    ·rcases d9F.1 h with rfl|h
     ·exact ⟨e,hm,rfl⟩
     ·exact ⟨e2,by rw [q1];simp [h],rfl⟩
theorem OkL.store {tt:Nat->Option a0n}(htt:Tab C.P tt){k:Nat}{e':Ent}{p:Prop}(hw:a0S ops s.env o=some true)(he:evS tt s.H (a1m s.env) o.op=some (k,e',p))(hp:p)
  (h:OkL C F ops os ⟨a2f s.env o.dst (.prim (.tuple #[])),Hp.set s.H k e',s.n+1⟩ K):OkL C F ops (o::os) s K :=
 OkL.step hw (fun ρ a w hs=>by
  obtain ⟨w',h1,h2,h3,h4⟩:=b3E htt hs.mem (a0Z hs.env) he hp;refine ⟨undef,ρ,w',.inr ⟨h1,rfl⟩,⟨h2,h3,fun k g hg=>hs.fresh k g (by omega),.prim _⟩,fun e he'=>?_⟩;obtain ⟨e2,a1,a2⟩:=h4 e he'
  have:=hs.gen e2 a1
  omega) h
theorem OkL.idx {tt:Nat->Option a0n}(htt:Tab C.P tt){t:Nat}{x ix:Operand}{i:a0n}{e esz eby:Nat}{ez:Value}{kk:IntKind}{j:Int}{nn:Bool}{es:List D}{d:D}(hw:a0S ops s.env o=some true)
  (ho:o.op=.indexAddr t x ix) (hi:tt t=some i) (hk:i.ti=.slice e esz eby ez) (h1:a1m s.env ix=.prim (.int kk j)) (h2:a1m s.env x=.sl nn esz es) (h0:0<=j) (hd:es[j.toNat]? = some d)
  (h:OkL C F ops os ⟨a2f s.env o.dst (.pptr d),s.H,s.n+1⟩ K):OkL C F ops (o::os) s K :=
 OkL.step hw (fun ρ a w hs=>by
  have a1:=a0Z hs.env ix;have a2:=a0Z hs.env x;rw [h1] at a1;rw [h2] at a2;generalize hv:a.eval ix=v at a1;cases a1;obtain ⟨u,r1,r2⟩:=b0E (P:=C.P) (htt _ _ hi) hk h0 hd a2;refine ⟨u,ρ,w,.inl ?_,.pure hs r2,fun e he=>e0G (hs.gen e he)⟩;unfold execOp;simp only [ho,hv];rw [run_bind,r1];rfl) h
end
theorem a6s {g g':Operand->D}:∀ (i:Nat) (ps:List (Nat × Operand)),(∀ x∈ps.map (·.2),g x=g' x)->a3T g i ps=a3T g' i ps
 | _,[],_=>rfl
 | i,(j,x)::r,h=>by
  simp only [a3T];rw [a6s (i+1) r fun y hy=>h y (by simp at hy ⊢;exact .inr hy),h x (by simp)]
theorem a8G {fs:List (Nat × Nat × Bool)}{g g':Operand->D}:∀ (ps:List (Nat × Operand)) (cs:List D),(∀ x∈ps.map (·.2),g x=g' x)->a6Y fs g ps cs=a6Y fs g' ps cs
 | [],_,_=>rfl
 | (i,x)::r,cs,h=>by
  simp only [a6Y];rw [h x (by simp)];cases fs[i]? with
  | none=>rfl
  | some q =>
   obtain ⟨o,sz,ag⟩:=q;dsimp only;rw [a8G r _ fun y hy=>h y (by simp at hy ⊢;exact .inr hy)]
theorem a2e {g g':Operand->D}{l:List Operand}(h:∀ x∈l,g x=g' x):l.map g=l.map g':=e1M h
theorem b8S {tt:Nat->Option a0n}{g g':Operand->D}{op:Op}(h:∀ x∈op.operands,g x=g' x):evP tt g op=evP tt g' op:=by
 cases op<;>simp only [Op.operands] at h<;>simp only [evP]
 case move x=>rw [h x (by simp)]
 case assign x=>rw [h x (by simp)]
 case pick c a b=>rw [h c (by simp),h a (by simp),h b (by simp)]
 case build t ps =>
  unfold b2k;cases tt t with
  | none=>rfl
  | some i =>
   dsimp only;cases b1F i.ti<;>try rfl
   dsimp only;rw [a8G ps.toList _ fun x hx=>h x (by simpa using hx)]
 case nilCheck x=>rw [h x (by simp)]
 case binOp op t x y yt=>rw [h x (by simp),h y (by simp)]
 case unOp op t x=>rw [h x (by simp)]
 case convert s d x=>rw [h x (by simp)]
 case makeFunc fn a b =>
  cases fn<;>try rfl
  dsimp only;rw [a2e (l:=a.toList) fun x hx=>h x (by simp at hx;simp [hx]),a2e (l:=b.toList) fun x hx=>h x (by simp at hx;simp [hx])]
 case slice t x lo hi mx =>
  cases mx<;>try rfl
  dsimp only;rw [h x (by simp)];cases lo<;>cases hi<;>simp_all
 case fieldAddr t x f=>rw [h x (by simp)]
 case field t x f=>rw [h x (by simp)]
 case indexAddr t x i=>rw [h x (by simp),h i (by simp)]
 case index t x i=>rw [h x (by simp),h i (by simp)]
 case extract x i=>rw [h x (by simp)]
 case call c =>
  obtain ⟨callee,args,tys⟩:=c;cases callee<;>try rfl
  dsimp only;rw [a2e (l:=args.toList) fun x hx=>h x (by simp at hx;simp [Call.operands,hx])]
theorem b8Q {tt:Nat->Option a0n}{H:Hp}{n k:Nat}{g g':Operand->D}{op:Op}(h:∀ x∈op.operands,g x=g' x):evL tt H n k g op=evL tt H n k g' op:=by
 cases op<;>simp only [Op.operands] at h<;>simp only [evL]
 case load t x=>rw [h x (by simp)]
 case box t x=>rw [h x (by simp)]
 case buildSlice t n ps=>rw [a6s 0 ps.toList fun x hx=>h x (by simpa using hx)]
section
variable {C:Ctx} {F:Fra} {ops:Array Oper}
def d5X (C:Ctx)(F:Fra)(He:Hp)(ρ:Lk)(w:World)(g:Nat)(d:D)(ne:Option Ent)(o:Oper)(a:Act):Prop :=
 (∃ v ρ' w',(execOp a.eval o).run C.P w=.ok (.value v) w'/\a9T C F He ρ w g d ne v ρ' w') \/
 (∃ f vs,(execOp a.eval o).run C.P w=.ok (.enter f vs) w/\Calls C.P f vs w (fun e w'=>∃ v,e=.returned v/\∃ ρ',a9T C F He ρ w g d ne v ρ' w'))
def a0s (C:Ctx)(F:Fra)(ops:Array Oper)(H:Hp)(g:Nat)(env:Env)(o:Oper)(d:D)(ne:Option Ent):Prop :=
 (∀ e,ne=some e->e.g=g) /\
 ∀ (He:Hp) (ρ:Lk) (a:Act) (w:World),Mem C F ρ He w->(∀ e∈H,e∈He)->(∀ k,ρ k g=none)->(∀ e∈He,e.g≠g)->(∀ t∈o.looksAt ops,Rep ρ (Own F.X ρ He) w (env.get t) (a.tmps.getD t undef)) ->
  (Region.wanted o (yielded ops a.tmps)=false/\ne=none/\Rep ρ (Own F.X ρ He) w d undef)\/(Region.wanted o (yielded ops a.tmps)=true/\d5X C F He ρ w g d ne o a)
theorem a1r {o:Oper}{env:Env}{a:Act}{ρ:Lk}{O:Nat->Prop}{w:World}{b:Bool}(he:∀ t∈o.looksAt ops,Rep ρ O w (env.get t) (a.tmps.getD t undef))(h:a0S ops env o=some b) :
  Region.wanted o (yielded ops a.tmps)=b:=by
 let env':Env:=(o.looksAt ops).map fun t=>(t,env.get t)
 have hget:∀ t,env'.get t=if t∈o.looksAt ops then env.get t else .any:=by
  intro t
  have:∀ l:List Nat,Env.get (l.map fun t=>(t,env.get t)) t=if t∈l then env.get t else .any:=by
   intro l
   induction l with
   | nil=>simp [Env.get]
   | cons x l ih =>
    simp only [e0I];rw [d8k,ih]
    by_cases hx:x=t
    ·subst hx;simp
    ·rw [d9m hx];simp [Ne.symm hx]
  exact this _
 have hrep:∀ t,Rep ρ O w (env'.get t) (a.tmps.getD t undef):=fun t=>by
  rw [hget]
  by_cases ht:t∈o.looksAt ops
  ·rw [d9l ht];exact he t ht
  ·rw [d9m ht];exact .any _
 refine a2P hrep (o:=o) (ops:=ops) ?_;rw [<- h];unfold a0S;split
 ·rfl
 ·rename_i j want hg
  cases hj:ops[j]? with
  | none=>rfl
  | some oj =>
   cases hd:oj.dst with
   | none=>simp only [hd]
   | some t =>
    have ht:t∈o.looksAt ops:=by
     unfold Oper.looksAt;simp [hg,hj,hd]
    simp only [hd];rw [hget,d9l ht]
theorem a2y {o:Oper}{env:Env}{a:Act}{ρ:Lk}{O:Nat->Prop}{w:World}(he:∀ t∈o.looksAt ops,Rep ρ O w (env.get t) (a.tmps.getD t undef)) :
  ∃ g':Operand->D,(∀ x∈o.op.operands,a1m env x=g' x)/\∀ x,Rep ρ O w (g' x) (a.eval x):=by
 classical
 refine ⟨fun x=>if x∈o.op.operands.toList then a1m env x else .any,fun x hx=>by dsimp only;rw [d9l (by simpa using hx)],fun x=>?_⟩;dsimp only
 by_cases hx:x∈o.op.operands.toList
 ·rw [d9l hx]
  cases x with
  | tmp t=>exact he t (by unfold Oper.looksAt;exact e1h _ (List.mem_filterMap.2 ⟨.tmp t,hx,rfl⟩))
  | const v=>exact b0l v
  | global g=>exact .prim _
  | func f=>exact .clo rfl rfl (by simp) (by simp)
 ·rw [d9m hx];exact .any _
variable {H:Hp} {g:Nat} {env:Env} {o:Oper} {tt:Nat->Option a0n}
theorem a0s.p (htt:Tab C.P tt){d:D}{p:Prop}(hw:a0S ops env o=some true)(he:evP tt (a1m env) o.op=some (d,p))(hp:p):a0s C F ops H g env o d none:=by
 refine ⟨by simp,fun He ρ a w m _ _ _ hr=>.inr ⟨a1r hr hw,.inl ?_⟩⟩;obtain ⟨g',h1,h2⟩:=a2y hr;obtain ⟨v,r1,r2⟩:=b8T (g:=g') htt h2 (by rw [<- b8S h1];exact he) hp;exact ⟨v,ρ,w,r1,m,.refl _ _ _,fun _ _ _=>rfl,r2⟩
theorem a0s.skip (hw:a0S ops env o=some false):a0s C F ops H g env o (.prim (.tuple #[])) none :=
 ⟨by simp,fun He ρ a w m _ _ _ hr=>.inl ⟨a1r hr hw,rfl,.prim _⟩⟩
theorem a0s.call {f:Nat}{first captured ds:List D}{fop:Operand}{args:Array Operand}{tys:Array Nat}{d:D}(hw:a0S ops env o=some true)(ho:o.op=.call ⟨.value fop,args,tys⟩)
  (hf:a1m env fop=.clo (.func f) first captured) (hds:first++args.toList.map (a1m env)++captured=ds) (hc:a0b C f ds d) (hp:ArePure ds):a0s C F ops H g env o d none:=by
 refine ⟨by simp,fun He ρ a w m hsub fr hne hr=>.inr ⟨a1r hr hw,.inr ?_⟩⟩;obtain ⟨g',h1,h2⟩:=a2y hr;have hfop:fop∈o.op.operands:=by rw [ho];simp [Op.operands,Call.operands]
 have harg:∀ x∈args.toList,a1m env x=g' x:=fun x hx=>h1 x (by rw [ho];simp [Op.operands,Call.operands];right;simpa using hx)
 rw [h1 fop hfop] at hf;rw [a2e harg] at hds;have hfr:=h2 fop;rw [hf] at hfr;obtain ⟨vs,q1,q2,q3⟩:=a4k (g:=g') ho hf hc.1 h2;rw [hds] at q2 q3;refine ⟨f,vs,q1,(hc.2 (Own F.X ρ He) w vs m.g (d9V m.gn m.size) (fun b hb=>m.own_lt hb) q2 fun i d hd=>hp.out d (d9r hd) _ _ _ _ _ (q3 i d hd)).mono ?_⟩;rintro e w' ⟨v,d',rfl,hb,rfl,hrep⟩;have x:Ext ρ (Own F.X ρ He) w ρ (Own F.X ρ He) w':=⟨hb.size,fun _ _ _ h=>h,fun b hb' hO=>⟨hO,hb.block b hb'⟩,fun b cs T fz hh=>⟨cs,_,by
  rw [hb.block b (Array.getElem?_eq_some_iff.1 hh).1];exact hh,rfl⟩⟩
 exact ⟨v,rfl,ρ,m.same x hb.os hb.tape hb.output hb.block,x,fun _ _ _=>rfl,hrep.nol⟩
theorem a0s.idx (htt:Tab C.P tt){t:Nat}{x ix:Operand}{i:a0n}{e esz eby:Nat}{ez:Value}{kk:IntKind}{j:Int}{nn:Bool}{es:List D}{d:D}(hw:a0S ops env o=some true)
  (ho:o.op=.indexAddr t x ix) (hi:tt t=some i) (hk:i.ti=.slice e esz eby ez) (h1:a1m env ix=.prim (.int kk j)) (h2:a1m env x=.sl nn esz es) (h0:0<=j) (hd:es[j.toNat]? = some d) :
  a0s C F ops H g env o (.pptr d) none:=by
 refine ⟨by simp,fun He ρ a w m hsub fr hne hr=>.inr ⟨a1r hr hw,.inl ?_⟩⟩;obtain ⟨g',e1,e2⟩:=a2y hr;have a1:=e2 ix;have a2:=e2 x;rw [<- e1 ix (by rw [ho];simp [Op.operands]),h1] at a1;rw [<- e1 x (by rw [ho];simp [Op.operands]),h2] at a2;generalize hv:a.eval ix=v at a1;cases a1;obtain ⟨u,r1,r2⟩:=b0E (P:=C.P) (htt _ _ hi) hk h0 hd a2;refine ⟨u,ρ,w,?_,m,.refl _ _ _,fun _ _ _=>rfl,r2⟩;unfold execOp;simp only [ho,hv];rw [run_bind,r1];rfl
def a2S (ops:Array Oper)(i:Nat):List Nat:=match ops[i]? with
 | some o=>o.after.toList.filterMap fun e=>if Region.binds .any e then some e.on else none
 | none=>[]
inductive a1Z (ops:Array Oper):Nat->Nat->Prop
 | dep {i j:Nat} (h:j∈a2S ops i):a1Z ops i j
 | step {i j k:Nat} (h:j∈a2S ops i) (h':a1Z ops j k):a1Z ops i k
def a2j:List (Nat × List Nat)->Nat->List Nat
 | [],_=>[]
 | (k,l)::r,i=>match Nat.beq k i with
  | true=>l
  | false=>a2j r i
def a3n (i:Nat):List Nat->Bool
 | []=>false
 | j::l=>match Nat.beq i j with
  | true=>true
  | false=>a3n i l
def a4z (l m:List Nat):Bool:=match l with
 | []=>true
 | i::l=>a3n i m&&a4z l m
def b0Y:List Nat->List Nat->List Nat
 | [],acc=>acc
 | i::l,acc=>match a3n i acc with
  | true=>b0Y l acc
  | false=>b0Y l (i::acc)
def b5m (ops:Array Oper):List Nat->List (Nat × List Nat)->List (Nat × List Nat)
 | [],acc=>acc
 | i::l,acc=>b5m ops l ((i,b0Y (a2S ops i++(a2S ops i).flatMap (a2j acc)) [])::acc)
def a7C:List Nat->Bool
 | []=>true
 | i::l=>!a3n i l&&a7C l
def b2y (ops:Array Oper)(i:Nat):List Nat:=match ops[i]? with
 | some o=>o.dst.toList
 | none=>[]
def a8H (ops:Array Oper):List Nat->List Nat->Bool
 | _,[]=>true
 | done,i::l=>a4z (a2S ops i) done&&a8H ops (i::done) l
def c5K (ops:Array Oper)(all:List Nat)(clo:List (Nat × List Nat)):List Nat->List Nat->Bool
 | _,[]=>true
 | done,i::l=>(match ops[i]? with
  | some o=>(o.looksAt ops).all fun t=>all.all fun j=>!a3n t (b2y ops j)||((a3n j (a2j clo i)&&a3n j done)||(a3n i (a2j clo j) && !a3n j done && !a3n j [i]))
  | none=>false)&&c5K ops all clo (i::done) l
def c5W (clo:List (Nat × List Nat)):List Nat->List Nat->Bool
 | _,[]=>true
 | done,i::l=>a4z done (a2j clo i)&&c5W clo (i::done) l
def b2m (ops:Array Oper)(pre suf:List Nat):Bool :=
 a7C (pre++suf)&&a4z (List.range ops.size) (pre++suf)&&(pre++suf).all (fun i=>Nat.blt i ops.size)&&a8H ops [] (pre++suf) &&
 a7C (pre.flatMap (b2y ops))&&c5K ops pre (b5m ops (pre++suf) []) [] pre&&c5W (b5m ops (pre++suf) []) pre suf
theorem a0T {i : Nat} {l : List Nat} : a3n i l = true ↔ i ∈ l := by
  induction l with
  | nil => simp [a3n]
  | cons j l ih =>
    simp only [a3n]
    cases hb : Nat.beq i j with
    | true => simp [d9v hb]
    | false => simp only [ih, d9F]; constructor
               · exact .inr
               · rintro (rfl | h)
                 · simp at hb
                 · exact h
theorem a2o {l m:List Nat}:a4z l m=true↔∀ i∈l,i∈m:=by
 induction l with
 | nil=>simp [a4z]
 | cons i l ih=>simp [a4z,a0T,ih]
theorem a7i {l:List Nat}:a7C l=true↔l.Nodup:=by
 induction l with
 | nil=>simp [a7C]
 | cons i l ih =>
  simp only [a7C,d9B,List.nodup_cons,ih]
  have:=@a0T i l
  cases h:a3n i l<;>simp_all
theorem a2J {acc:List (Nat × List Nat)}(h:∀ p∈acc,∀ j∈p.2,a1Z ops p.1 j)(i j:Nat)(hj:j∈a2j acc i):a1Z ops i j:=by
 induction acc with
 | nil=>simp [a2j] at hj
 | cons p r ih =>
  obtain ⟨k,l⟩:=p;simp only [a2j] at hj;cases hb:Nat.beq k i with
  | true=>simp [hb] at hj;obtain rfl:=d9v hb;exact h (k,l) (by simp) j hj
  | false=>simp [hb] at hj;exact ih (fun p hp=>h p (by simp [hp])) hj
theorem a5t {j:Nat}:∀ {l acc:List Nat},j∈b0Y l acc↔j∈l\/j∈acc
 | [],acc=>by simp [b0Y]
 | i::l,acc=>by
  simp only [b0Y];split
  ·rename_i h
   rw [a5t,d9F];constructor
   ·rintro (h1|h1)
    ·exact .inl (.inr h1)
    ·exact .inr h1
   ·rintro ((rfl|h1)|h1)
    ·exact .inr (a0T.1 h)
    ·exact .inl h1
    ·exact .inr h1
  ·rw [a5t,d9F,d9F]
   constructor
   ·rintro (h1|h1|h1)
    ·exact .inl (.inr h1)
    ·exact .inl (.inl h1)
    ·exact .inr h1
   ·rintro ((h1|h1)|h1)
    ·exact .inr (.inl h1)
    ·exact .inl h1
    ·exact .inr (.inr h1)
theorem a3m:∀ (l:List Nat) (acc:List (Nat × List Nat)),(∀ p∈acc,∀ j∈p.2,a1Z ops p.1 j)->∀ p∈b5m ops l acc,∀ j∈p.2,a1Z ops p.1 j
 | [],acc,h=>h
 | i::l,acc,h=>a3m l _ (fun p hp j hj=>by
  rcases d9F.1 hp with rfl|hp
  ·rcases List.mem_append.1 ((a5t.1 hj).resolve_right (by simp)) with hj|hj
   ·exact .dep hj
   ·obtain ⟨k,hk,hj⟩:=List.mem_flatMap.1 hj
    exact .step hk (a2J h k j hj)
  ·exact h p hp j hj)
def Cl (ops:Array Oper)(L:Array Bool):Prop:=∀ i,L.getD i true=true->i<ops.size->∀ j∈a2S ops i,L.getD j false=true
theorem a0P {L:Array Bool}{i:Nat}:i∈Region.ready .any ops L↔i<ops.size/\L.getD i true=false/\∀ j∈a2S ops i,L.getD j false=true:=by
 unfold Region.ready;simp only [List.mem_filter,List.mem_range,d9B,d9w];constructor
 ·rintro ⟨h1,h2,h3⟩
  refine ⟨h1,h2,fun j hj=>?_⟩;unfold a2S at hj;have ho:ops[i]? = some ops[i]:=d9C h1;simp only [ho,e2z,e2o] at hj h3;obtain ⟨e,he,hje⟩:=List.mem_filterMap.1 hj;have h4:=(Array.all_eq_true'.1 h3) e (by simpa using he);split at hje
  ·rename_i hb
   cases hje;simpa [hb] using h4
  ·cases hje
 ·rintro ⟨h1,h2,h3⟩
  refine ⟨h1,h2,?_⟩;have ho:ops[i]? = some ops[i]:=d9C h1;simp only [ho,e2z,e2o];refine Array.all_eq_true'.2 fun e he=>?_
  by_cases hb:Region.binds .any e=true
  ·have:=h3 e.on (by unfold a2S;simp only [ho];exact List.mem_filterMap.2 ⟨e,by simpa using he,by simp [hb]⟩)
   simp [this]
  ·simp [hb]
theorem a0w {L:Array Bool}(hL:L.size=ops.size)(hc:Cl ops L){i j:Nat}(h:a1Z ops i j):(∀ k∈a2S ops i,L.getD k false=true)->L.getD j false=true:=by
 induction h with
 | dep h=>intro hd;exact hd _ h
 | step h _ ih =>
  intro hd;have hj:=hd _ h;rename_i i j k _;have hlt:j<L.size:=by
   rcases d9H j L.size with h'|h'
   ·exact h'
   ·simp [e2i h'] at hj
  exact ih (hc j (by simp [d9C hlt] at hj ⊢;exact hj) (by omega))
inductive DTr (C:Ctx)(F:Fra)(ops:Array Oper)(H:Hp)(n:Nat):List Nat->Env->Hp->Env->Hp->Prop
 | nil (env:Env) (N:Hp):DTr C F ops H n [] env N env N
 | cons {i:Nat} {l:List Nat} {o:Oper} {d:D} {ne:Option Ent} {env env':Env} {N N':Hp} (ho:ops[i]? = some o) (hs:a0s C F ops H (n+i) env o d ne)
   (h:DTr C F ops H n l (a2f env o.dst d) (a4G ne N) env' N'):DTr C F ops H n (i::l) env N env' N'
structure Rec where
 i:Nat
 o:Oper
 d:D
 ne:Option Ent
def a3C:List Rec->Env->Env
 | [],e=>e
 | r::A,e=>a3C A (a2f e r.o.dst r.d)
def b7h:List Rec->Hp->Hp
 | [],N=>N
 | r::A,N=>b7h A (a4G r.ne N)
theorem DTr.recs {H:Hp}{n:Nat}{l:List Nat}{env env':Env}{N N':Hp}(h:DTr C F ops H n l env N env' N') :
  ∃ rs:List Rec,rs.map (·.i)=l/\env'=a3C rs env/\N'=b7h rs N /\
   ∀ A r B,rs=A++r::B->ops[r.i]? = some r.o/\a0s C F ops H (n+r.i) (a3C A env) r.o r.d r.ne:=by
 induction h with
 | nil env N=>exact ⟨[],rfl,rfl,rfl,fun A r B h=>by cases A<;>simp at h⟩
 | @cons i l o d ne env env' N N' ho hs _ ih =>
  obtain ⟨rs,h1,h2,h3,h4⟩:=ih;refine ⟨⟨i,o,d,ne⟩::rs,by simp [h1],h2,h3,fun A r B hr=>?_⟩;cases A with
  | nil =>
   simp only [e0p,e0P] at hr;obtain ⟨rfl,rfl⟩:=hr;exact ⟨ho,hs⟩
  | cons r0 A =>
   simp only [e0M,e0P] at hr;obtain ⟨rfl,rfl⟩:=hr;exact h4 A r B rfl
theorem b6e (env:Env)(dst:Option Nat)(d:D)(t:Nat):(a2f env dst d).get t=if dst=some t then d else env.get t:=by
 cases dst with
 | none=>simp [a2f]
 | some k =>
  simp only [a2f];rw [d8k]
  by_cases h:k=t
  ·subst h;simp
  ·rw [d9m h,d9m (by simpa using h)]
theorem a1v:∀ (A:List Rec) (e:Env) (t:Nat),(∀ r∈A,r.o.dst≠some t)->(a3C A e).get t=e.get t
 | [],_,_,_=>rfl
 | r::A,e,t,h=>by
  simp only [a3C];rw [a1v A _ t fun r' hr'=>h r' (by simp [hr']),b6e,d9m (h r (by simp))]
theorem a4n:∀ (A:List Rec) (e:Env) (t:Nat),A.Pairwise (fun r r'=>∀ t,r.o.dst=some t->r'.o.dst≠some t)->∀ r∈A,r.o.dst=some t->(a3C A e).get t=r.d
 | [],_,_,_,r,hr,_=>by simp at hr
 | r0::A,e,t,hp,r,hr,hd=>by
  obtain ⟨p1,p2⟩:=e0U.1 hp;simp only [a3C];rcases d9F.1 hr with rfl|hr
  ·rw [a1v A _ t fun r' hr'=>p1 r' hr' t hd,b6e,d9l hd]
  ·exact a4n A _ t p2 r hr hd
theorem a2K:∀ (A:List Rec) (N:Hp),(b7h A N).Perm (A.filterMap (·.ne)++N)
 | [],N=>by simp [b7h]
 | r::A,N=>by
  simp only [b7h];refine (a2K A _).trans ?_;cases h:r.ne with
  | none=>simp [a4G,h]
  | some e=>simp only [a4G,e1X,h];exact e1S
theorem Own.perm {X:Nat->Prop}{ρ:Lk}{H H':Hp}(h:H.Perm H'):Own X ρ H=Own X ρ H':=funext fun b=>propext (by simp only [Own,h.mem_iff])
theorem Mem.perm {ρ:Lk}{H H':Hp}{w:World}(m:Mem C F ρ H w)(h:H.Perm H'):Mem C F ρ H' w:=by
 refine ⟨⟨fun e he=>?_,?_,fun e he=>m.hok.own e (h.mem_iff.2 he)⟩,m.os,m.tape,m.output,m.size,m.blk,m.xlt,m.g0,m.gn,m.gw,m.lnk,m.shp⟩
 ·rw [<- Own.perm h];exact m.hok.ent e (h.mem_iff.2 he)
 ·exact h.pairwise m.hok.inj fun {a b} hab b1 b2 h1 h2=>(hab b2 b1 h2 h1).symm
def Ls (L:Array Bool)(i:Nat):Prop:=L.getD i false=true
theorem a3d {α β:Type}{f g:α->Option β}:∀ {l:List α},(∀ x∈l,f x=g x)->l.filterMap f=l.filterMap g
 | [],_=>rfl
 | x::l,h=>by
  rw [e1X,e1X,h x (by simp),a3d (l:=l) fun y hy=>h y (by simp [hy])]
structure DI (C:Ctx)(F:Fra)(H:Hp)(n:Nat)(env:Env)(rs:List Rec)(L:Array Bool)(a:Act)(w:World)(ρ:Lk)(He:Hp):Prop where
 mem:Mem C F ρ He w
 perm:He.Perm (rs.filterMap (fun r=>if L.getD r.i false then r.ne else none)++H)
 reps:∀ r∈rs,Ls L r.i->∀ t,r.o.dst=some t->Rep ρ (Own F.X ρ He) w r.d (a.tmps.getD t undef)
 old:∀ t,(∀ r∈rs,Ls L r.i->r.o.dst≠some t)->Rep ρ (Own F.X ρ He) w (env.get t) (a.tmps.getD t undef)
 fresh:∀ k g,n<=g->ρ k g≠none->∃ r∈rs,Ls L r.i/\g=n+r.i
 nt:a.tmps.size=F.nt
 dfr:a.defers=F.df
theorem Ls.set {L:Array Bool}{i j:Nat}(hi:i<L.size):Ls (L.setIfInBounds i true) j↔j=i\/Ls L j:=by
 unfold Ls;rw [d9o,e0q,d9o]
 by_cases h:i=j
 ·subst h;simp [hi]
 ·rw [d9m h];simp [Ne.symm h]
theorem DI.next {H:Hp}{n:Nat}{env:Env}{A B:List Rec}{r:Rec}{L:Array Bool}{a:Act}{w:World}{ρ:Lk}{He:Hp}(h:DI C F H n env (A++r::B) L a w ρ He)(hi:r.i<L.size)(hn:¬ Ls L r.i)
  (hnd:((A++r::B).map (·.i)).Nodup) (hdst:(A++r::B).Pairwise (fun r r'=>∀ t,r.o.dst=some t->r'.o.dst≠some t)) (hok:a2m F.nt r.o=true) {v:Value} {ρ':Lk} {w':World}
  (p:a9T C F He ρ w (n+r.i) r.d r.ne v ρ' w'):DI C F H n env (A++r::B) (L.setIfInBounds r.i true) (a.put r.o.dst v) w' ρ' (a4G r.ne He):=by
 have hset:∀ j,Ls (L.setIfInBounds r.i true) j↔j=r.i\/Ls L j:=fun j=>Ls.set hi
 have hne:∀ r'∈A++B,r'.i≠r.i:=by
  simp only [e0Q,e0I] at hnd;intro r' hr' he;rw [e0z,List.nodup_cons] at hnd;rcases List.mem_append.1 hr' with hr'|hr'
  ·exact hnd.2.2 r'.i (List.mem_map.2 ⟨r',hr',rfl⟩) r.i (by simp) he
  ·exact hnd.2.1.1 (List.mem_map.2 ⟨r',hr',he⟩)
 have hput:∀ t,(a.put r.o.dst v).tmps.getD t undef=if r.o.dst=some t then v else a.tmps.getD t undef:=by
  intro t;cases hd:r.o.dst with
  | none=>simp [Act.put]
  | some k =>
   have hk:k<a.tmps.size:=by
    rw [h.nt];unfold a2m at hok;rw [hd] at hok;exact Nat.blt_eq.mp hok
   show (a.tmps.setIfInBounds k v).getD t undef=_;rw [d9o,e0q]
   by_cases hkt:k=t
   ·subst hkt;simp [hk]
   ·rw [d9m hkt,d9m (by simpa using hkt),<- d9o]
 refine ⟨p.mem,?_,fun r' hr' hl t ht=>?_,fun t ht=>?_,fun k g hg hk=>?_,?_,?_⟩
 ·have fm:∀ X:List Rec,(∀ r'∈X,r'.i≠r.i)->X.filterMap (fun r'=>if (L.setIfInBounds r.i true).getD r'.i false then r'.ne else none)=X.filterMap (fun r'=>if L.getD r'.i false then r'.ne else none):=by
   intro X hX;refine a3d fun r' hr'=>?_
   have:=hset r'.i
   have h2:=hX r' hr';unfold Ls at this
   by_cases hl:L.getD r'.i false=true
   ·rw [d9l (this.2 (.inr hl)),d9l hl]
   ·rw [d9m (fun h=>hl ((this.1 h).resolve_left h2)),d9m hl]
  have hself:(L.setIfInBounds r.i true).getD r.i false=true:=(hset r.i).2 (.inl rfl);have hold:¬ L.getD r.i false=true:=hn;have e1:=h.perm;rw [List.filterMap_append,e1X] at e1;simp only [d9m hold] at e1;rw [List.filterMap_append,e1X,fm A (fun r' hr'=>hne r' (by simp [hr'])),fm B (fun r' hr'=>hne r' (by simp [hr']))];simp only [d9l hself];cases hre:r.ne with
  | none=>simpa [a4G] using e1
  | some e =>
   simp only [a4G];refine (List.Perm.cons e e1).trans ?_;simp only [e0J,e0M];exact e1S.symm
 ·rw [hput]
  by_cases hrr:r'=r
  ·subst hrr;rw [d9l ht];exact p.rep
  ·have hr2:r'∈A++B:=by
    rcases List.mem_append.1 hr' with h|h
    ·simp [h]
    ·rcases d9F.1 h with h|h
     ·exact d9n h hrr
     ·simp [h]
   have hl2:=((hset r'.i).1 hl).resolve_left (hne r' hr2);rw [d9m]
   ·exact (h.reps r' hr' hl2 t ht).mono p.ext
   ·intro hrt
    rw [e1q,e0U] at hdst;rcases List.mem_append.1 hr2 with h|h
    ·exact hdst.2.2 r' h r (by simp) t ht hrt
    ·exact hdst.2.1.1 r' h t hrt ht
 ·rw [hput,d9m (ht r (by simp) ((hset r.i).2 (.inl rfl)))]
  exact (h.old t fun r' hr' hl=>ht r' hr' ((hset r'.i).2 (.inr hl))).mono p.ext
 ·by_cases hgr:g=n+r.i
  ·exact ⟨r,by simp,(hset r.i).2 (.inl rfl),hgr⟩
  ·rw [p.far k g hgr] at hk
   obtain ⟨r',h1,h2,h3⟩:=h.fresh k g hg hk;exact ⟨r',h1,(hset r'.i).2 (.inr h2),h3⟩
 ·cases r.o.dst<;>simp [Act.put,h.nt]
 ·cases r.o.dst<;>simp [Act.put,h.dfr]
theorem a2F {Q:Exit->Act->World->Prop}:∀ (l:List Nat) (fuel:Nat) (L:Array Bool) (a:Act) (w:World),L.size=ops.size->l.length<=fuel->(∀ i,i<ops.size->(Ls L i↔i∉l))->l.Nodup ->
  (∀ A i B,l=A++i::B->(∀ j∈a2S ops i,j<ops.size/\j∉i::B)/\∀ j∈A,a1Z ops i j)->(∀ i∈l,i<ops.size)->Cl ops L ->
  wpOps C.P ops Q l a w->wpAny C.P .any ops Q fuel L a w
 | [],fuel,L,a,w,hs,_,hl,_,_,_,_,h=>by
  have hr:Region.ready .any ops L=[]:=by
   apply List.eq_nil_iff_forall_not_mem.2;intro i hi;obtain ⟨h1,h2,_⟩:=a0P.1 hi
   have:=(hl i h1).2 (by simp)
   unfold Ls at this;rw [d9o,d9C (by omega)] at this h2;simp at this h2;rw [this] at h2;cases h2
  cases fuel with
  | zero=>exact ⟨hr,h⟩
  | succ fuel=>exact ⟨fun _=>h,fun i hi=>by rw [hr] at hi;simp at hi⟩
 | i::l,0,_,_,_,_,hf,_,_,_,_,_,_=>by simp at hf
 | i::l,fuel+1,L,a,w,hs,hf,hl,hnd,hd,hlt,hcl,h=>by
  have hil:=hlt i (by simp);have hLi:∀ j,j<ops.size->(L.getD j true=true↔Ls L j):=fun j hj=>by
   unfold Ls;rw [d9o,d9o,d9C (by omega)];simp
  have hready:∀ j,j∈Region.ready .any ops L↔j=i:=by
   intro j;rw [a0P];constructor
   ·rintro ⟨h1,h2,h3⟩
    have hj:j∈i::l:=by
     apply d9L;intro hn
     have:=(hLi j h1).2 ((hl j h1).2 hn)
     rw [h2] at this;cases this
    apply d9L;intro hne;have hjl:j∈l:=by simpa [hne] using hj
    obtain ⟨A,B,rfl⟩:=e0v hjl;have hreach:=(hd (i::A) j B (by simp)).2 i (by simp)
    have:=a0w hs hcl hreach h3
    exact d9n ((hl i hil).1 this) (by simp)
   ·rintro rfl
    refine ⟨hil,?_,fun k hk=>?_⟩
    ·cases hb:L.getD j true with
     | false=>rfl
     | true=>exact d9n ((hl j hil).1 ((hLi j hil).1 hb)) (by simp)
    ·have hk2:=(hd [] j l rfl).1 k hk
     exact (hl k hk2.1).2 hk2.2
  have hset:∀ j,Ls (L.setIfInBounds i true) j↔j=i\/Ls L j:=fun j=>Ls.set (by omega)
  refine ⟨fun h0=>?_,fun j hj=>?_⟩
  ·have:=(hready i).2 rfl
   rw [h0] at this;simp at this
  ·obtain rfl:=(hready j).1 hj
   rw [wpOps_cons] at h;obtain ⟨n1,n2⟩:=List.nodup_cons.1 hnd;refine wpOp_mono (fun a w hk=>?_) h;refine a2F l fuel _ a w (by simp [hs]) (by simp at hf;omega) (fun k hk2=>?_) n2 (fun A k B hAB=>?_) (fun k hk2=>hlt k (by simp [hk2])) ?_ hk
   ·rw [hset,hl k hk2]
    by_cases hkj:k=j
    ·subst hkj;simp [n1]
    ·simp [hkj]
   ·obtain ⟨q1,q2⟩:=hd (j::A) k B (by simp [hAB])
    exact ⟨q1,fun x hx=>q2 x (by simp [hx])⟩
   ·intro k hk2 hks x hx
    have hk3:Ls (L.setIfInBounds j true) k:=by
     unfold Ls;rw [d9o,d9C (by simp;omega)] at hk2 ⊢;simpa using hk2
    show Ls _ x;rw [hset];rcases (hset k).1 hk3 with rfl|hk3
    ·exact .inr ((a0P.1 hj).2.2 x hx)
    ·exact .inr (hcl k ((hLi k hks).2 hk3) hks x hx)
structure b3S (ops:Array Oper)(rs:List Rec)(suf:List Nat):Prop where
 nodup:(rs.map (·.i)++suf).Nodup
 lt:∀ i∈rs.map (·.i)++suf,i<ops.size
 all:∀ i,i<ops.size->i∈rs.map (·.i)++suf
 first:∀ A i B,rs.map (·.i)++suf=A++i::B->∀ j∈a2S ops i,j∈A
 dst:rs.Pairwise fun r r'=>∀ t,r.o.dst=some t->r'.o.dst≠some t
 look:∀ A r B,rs=A++r::B->∀ t∈r.o.looksAt ops,∀ r'∈rs,r'.o.dst=some t->(r'∈A/\a1Z ops r.i r'.i)\/(r'∉A/\a1Z ops r'.i r.i)
 suf:∀ A i B,suf=A++i::B->∀ j∈rs.map (·.i)++A,a1Z ops i j
theorem DI.look {H:Hp}{n:Nat}{env:Env}{rs:List Rec}{suf:List Nat}{L:Array Bool}{a:Act}{w:World}{ρ:Lk}{He:Hp}(h:DI C F H n env rs L a w ρ He)(ho:b3S ops rs suf)(hL:L.size=ops.size)(hc:Cl ops L)
  {A B:List Rec} {r:Rec} (hr:rs=A++r::B) (hrd:r.i∈Region.ready .any ops L):∀ t∈r.o.looksAt ops,Rep ρ (Own F.X ρ He) w ((a3C A env).get t) (a.tmps.getD t undef):=by
 intro t ht;have hpA:A.Pairwise (fun r r'=>∀ t,r.o.dst=some t->r'.o.dst≠some t):=by
  have:=ho.dst
  rw [hr,e1q] at this;exact this.1
 by_cases hw:∃ r'∈rs,r'.o.dst=some t
 ·obtain ⟨r',h1,h2⟩:=hw
  rcases ho.look A r B hr t ht r' h1 h2 with ⟨h3,h4⟩|⟨h3,h4⟩
  ·rw [a4n A env t hpA r' h3 h2]
   exact h.reps r' h1 (a0w hL hc h4 (a0P.1 hrd).2.2) t h2
  ·
   have one:∀ r''∈rs,r''.o.dst=some t->r''=r':=fun r'' hr'' hd=>d9L fun hne=>by
    have hp:=ho.dst;have sym:∀ {l:List Rec},l.Pairwise (fun r r'=>∀ t,r.o.dst=some t->r'.o.dst≠some t)->∀ x∈l,∀ y∈l,x≠y->∀ t,x.o.dst=some t->y.o.dst≠some t:=by
     intro l hl
     induction hl with
     | nil=>intro x hx;simp at hx
     | cons h _ ih =>
      intro x hx y hy hxy t h1 h2;rcases d9F.1 hx with e1|e1
      ·rcases d9F.1 hy with e2|e2
       ·exact hxy (by rw [e1,e2])
       ·rw [e1] at h1;exact h y e2 t h1 h2
      ·rcases d9F.1 hy with e2|e2
       ·rw [e2] at h2;exact h x e1 t h2 h1
       ·exact ih x e1 y e2 hxy t h1 h2
    exact sym hp r'' hr'' r' h1 hne t hd h2
   rw [a1v A env t fun r'' hr'' hd=>h3 (by rw [<- one r'' (by rw [hr];simp [hr'']) hd];exact hr'')];refine h.old t fun r'' hr'' hl hd=>?_
   obtain rfl:=one r'' hr'' hd;have hlt:r''.i<ops.size:=ho.lt r''.i (by simp;exact .inl ⟨r'',hr'',rfl⟩);have hin:=(a0P.1 hrd).2.1;have hrl:L.getD r.i false=true:=by
    refine a0w hL hc h4 fun k hk=>?_
    refine hc r''.i ?_ hlt k hk;unfold Ls at hl;rw [d9o,d9C (by omega)] at hl ⊢;simpa using hl
   have hrlt:r.i<ops.size:=(a0P.1 hrd).1;rw [d9o,d9C (by omega)] at hrl hin;simp at hrl hin;rw [hrl] at hin;cases hin
 ·rw [a1v A env t fun r' hr' hd=>hw ⟨r',by rw [hr];simp [hr'],hd⟩]
  exact h.old t fun r' hr' _ hd=>hw ⟨r',hr',hd⟩
theorem b6A {Q:Exit->Act->World->Prop}{H:Hp}{n:Nat}{env:Env}{rs:List Rec}{suf:List Nat}(ho:b3S ops rs suf)(hgen:∀ e∈H,e.g<n)(hd:∀ r∈rs,a2m F.nt r.o=true)
  (hst:∀ A r B,rs=A++r::B->ops[r.i]? = some r.o/\a0s C F ops H (n+r.i) (a3C A env) r.o r.d r.ne)
  (hend:∀ (L:Array Bool) (a:Act) (w:World) (ρ:Lk) (He:Hp),L.size=ops.size->(∀ r∈rs,Ls L r.i)->DI C F H n env rs L a w ρ He->wpOps C.P ops Q suf a w) :
  ∀ (fuel:Nat) (L:Array Bool) (a:Act) (w:World) (ρ:Lk) (He:Hp),L.size=ops.size->((rs.map (·.i)++suf).filter (fun i=>!L.getD i false)).length<=fuel->Cl ops L->(∀ i∈suf,¬ Ls L i) ->
   DI C F H n env rs L a w ρ He->wpAny C.P .any ops Q fuel L a w:=by
 intro fuel
 induction fuel with
 | zero =>
  intro L a w ρ He hL hf hc hs hi;have h0:(rs.map (·.i)++suf).filter (fun i=>!L.getD i false)=[]:=e0d (by omega);have hall:∀ r∈rs,Ls L r.i:=fun r hr=>by
   have:=List.filter_eq_nil_iff.1 h0 r.i (by simp;exact .inl ⟨r,hr,rfl⟩)
   simpa [Ls] using this
  have hsuf:suf=[]:=by
   apply List.eq_nil_iff_forall_not_mem.2;intro i hi2
   have:=List.filter_eq_nil_iff.1 h0 i (by simp [hi2])
   exact hs i hi2 (by simpa [Ls] using this)
  subst hsuf;refine a2F [] 0 L a w hL (d9y _) (fun i hi2=>⟨fun _=>by simp,fun _=>?_⟩) .nil (fun A i B h=>by cases A<;>simp at h) (by simp) hc (hend L a w ρ He hL hall hi)
  have:=ho.all i hi2
  simp at this;obtain ⟨r,hr,rfl⟩:=this;exact hall r hr
 | succ fuel ih =>
  intro L a w ρ He hL hf hc hs hi
  by_cases hall:∀ r∈rs,Ls L r.i
  ·refine a2F suf (fuel+1) L a w hL ?_ (fun i hi2=>?_) ?_ (fun A i B hAB=>⟨fun j hj=>?_,fun j hj=>ho.suf A i B hAB j (by simp [hj])⟩) (fun i hi2=>ho.lt i (by simp [hi2])) hc (hend L a w ρ He hL hall hi)
   ·refine d9V ?_ hf
    rw [List.filter_append,d9Z];rw [(List.filter_eq_self (l:=suf)).2 fun i hi2=>by have:=hs i hi2;unfold Ls at this;simpa using this];omega
   ·constructor
    ·intro h1 h2;exact hs i h2 h1
    ·intro h1
     have:=ho.all i hi2
     rcases List.mem_append.1 this with h|h
     ·obtain ⟨r,hr,rfl⟩:=List.mem_map.1 h;exact hall r hr
     ·exact d9n h h1
   ·exact (e0z.1 ho.nodup).2.1
   ·have hA:=ho.first (rs.map (·.i)++A) i B (by simp [hAB]) j hj
    refine ⟨ho.lt j (by rw [hAB];rcases List.mem_append.1 hA with h|h<;>simp [h]),fun hB=>?_⟩;have hnd:=ho.nodup;rw [hAB,<- e0J,e0z] at hnd;exact hnd.2.2 j hA j hB rfl
  ·have hnot:∃ r∈rs,¬ Ls L r.i:=by
    apply d9L;intro hn;exact hall fun r hr=>d9L fun h=>hn ⟨r,hr,h⟩
   have hLt:∀ j,j<ops.size->(L.getD j true=true↔Ls L j):=fun j hj=>by
    unfold Ls;rw [d9o,d9o,d9C (by omega)];simp
   have hsome:Region.ready .any ops L≠[]:=by
    obtain ⟨r0,hr0,hn0⟩:=hnot
    have:∀ X:List Rec,∀ Y,rs=X++Y->(∃ r∈Y,¬ Ls L r.i)->(∀ r∈X,Ls L r.i)->∃ A r B,rs=A++r::B/\¬ Ls L r.i/\∀ r∈A,Ls L r.i:=by
     intro X Y
     induction Y generalizing X with
     | nil=>rintro _ ⟨r,hr,_⟩ _;simp at hr
     | cons y Y ihY =>
      intro hXY hex hX
      by_cases hy:Ls L y.i
      ·obtain ⟨r,hr,hrn⟩:=hex
       rcases d9F.1 hr with rfl|hr
       ·exact d9n hy hrn
       ·exact ihY (X++[y]) (by simp [hXY]) ⟨r,hr,hrn⟩ (fun r hr=>by
         rcases List.mem_append.1 hr with h|h
         ·exact hX r h
         ·simp at h;subst h;exact hy)
      ·exact ⟨X,y,Y,hXY,hy,hX⟩
    obtain ⟨A,r,B,h1,h2,h3⟩:=this [] rs rfl ⟨r0,hr0,hn0⟩ (by simp);intro hnil;have hrlt:=ho.lt r.i (by rw [h1];simp)
    have:r.i∈Region.ready .any ops L:=by
     rw [a0P];refine ⟨hrlt,?_,fun j hj=>?_⟩
     ·cases hb:L.getD r.i true with
      | false=>rfl
      | true=>exact d9n ((hLt r.i hrlt).1 hb) h2
     ·have:=ho.first (A.map (·.i)) r.i (B.map (·.i)++suf) (by rw [h1];simp) j hj
      obtain ⟨r',hr',rfl⟩:=List.mem_map.1 this;exact h3 r' hr'
    rw [hnil] at this;simp at this
   refine ⟨fun h0=>d9n h0 hsome,fun i hir=>?_⟩;obtain ⟨hilt,hin,hid⟩:=a0P.1 hir;have hnL:¬ Ls L i:=fun h=>by rw [(hLt i hilt).2 h] at hin;cases hin
   have hpre:i∈rs.map (·.i):=by
    rcases List.mem_append.1 (ho.all i hilt) with h|h
    ·exact h
    ·obtain ⟨A,B,hAB⟩:=e0v h
     obtain ⟨r0,hr0,hn0⟩:=hnot
     have:=a0w hL hc (ho.suf A i B hAB r0.i (e1h _ (List.mem_map.2 ⟨r0,hr0,rfl⟩))) hid
     exact d9n this hn0
   obtain ⟨r,hr,rfl⟩:=List.mem_map.1 hpre;obtain ⟨A,B,hAB⟩:=e0v hr;obtain ⟨hor,hgen2,hsteady⟩:=hst A r B hAB;have hset:∀ j,Ls (L.setIfInBounds r.i true) j↔j=r.i\/Ls L j:=fun j=>Ls.set (by omega)
   have hndr:(rs.map (·.i)).Nodup:=(e0z.1 ho.nodup).1;have hsub:∀ e∈H,e∈He:=fun e he=>hi.perm.mem_iff.2 (by simp [he])
   have hfr:∀ k,ρ k (n+r.i)=none:=fun k=>by
    apply d9L;intro hk;obtain ⟨r',h1,h2,h3⟩:=hi.fresh k (n+r.i) (by omega) hk
    have:r'.i=r.i:=by omega
    rw [this] at h2;exact hnL h2
   have hne:∀ e∈He,e.g≠n+r.i:=fun e he hg=>by
    rcases List.mem_append.1 (hi.perm.mem_iff.1 he) with h|h
    ·obtain ⟨r',h1,h2⟩:=List.mem_filterMap.1 h
     split at h2
     ·rename_i hl
      obtain ⟨A',B',hAB'⟩:=e0v h1
      have:=(hst A' r' B' hAB').2.1 e h2
      have:r'.i=r.i:=by omega
      rw [this] at hl;exact hnL hl
     ·cases h2
    ·have:=hgen e h;omega
   have next:∀ v ρ' w',a9T C F He ρ w (n+r.i) r.d r.ne v ρ' w'->wpAny C.P .any ops Q fuel (L.setIfInBounds r.i true) (a.put r.o.dst v) w':=by
    intro v ρ' w' p;have hi':=hi;rw [hAB] at hi' hndr;have hdst:=ho.dst;rw [hAB] at hdst;have hn':=DI.next hi' (by omega) hnL hndr hdst (hd r hr) p;rw [<- hAB] at hn';refine ih _ _ _ ρ' (a4G r.ne He) (by simp [hL]) ?_ ?_ (fun j hj=>?_) hn'
    ·have:((rs.map (·.i)++suf).filter (fun i=>!(L.setIfInBounds r.i true).getD i false)).length<((rs.map (·.i)++suf).filter (fun i=>!L.getD i false)).length:=by
      have sub:(rs.map (·.i)++suf).filter (fun i=>!(L.setIfInBounds r.i true).getD i false)=((rs.map (·.i)++suf).filter (fun i=>!L.getD i false)).filter (fun i=>!Nat.beq i r.i):=by
       rw [List.filter_filter];apply List.filter_congr;intro x hx;have h1:=hset x;unfold Ls at h1
       by_cases hxr:x=r.i
       ·subst hxr
        have:(L.setIfInBounds r.i true).getD r.i false=true:=h1.2 (.inl rfl)
        simp [this]
       ·have hb:Nat.beq x r.i=false:=by
         cases hb:Nat.beq x r.i with
         | false=>rfl
         | true=>exact d9n (d9v hb) hxr
        rw [hb]
        by_cases hlx:L.getD x false=true
        ·rw [h1.2 (.inr hlx),hlx];rfl
        ·have:¬ (L.setIfInBounds r.i true).getD x false=true:=fun h=>hlx ((h1.1 h).resolve_left hxr)
         simp only [Bool.not_eq_true] at this hlx;rw [this,hlx];rfl
      rw [sub];apply List.length_filter_lt_length_iff_exists.2;exact ⟨r.i,by rw [List.mem_filter];exact ⟨by simp;exact .inl ⟨r,hr,rfl⟩,by unfold Ls at hnL;simpa using hnL⟩,by simp⟩
     omega
    ·intro k hk2 hks x hx
     have hk3:Ls (L.setIfInBounds r.i true) k:=by
      unfold Ls;rw [d9o,d9C (by simp;omega)] at hk2 ⊢;simpa using hk2
     show Ls _ x;rw [hset];rcases (hset k).1 hk3 with rfl|hk3
     ·exact .inr (hid x hx)
     ·exact .inr (hc k ((hLt k hks).2 hk3) hks x hx)
    ·rw [hset]
     rintro (rfl|h)
     ·have hnd:=ho.nodup
      rw [e0z] at hnd;exact hnd.2.2 r.i (List.mem_map.2 ⟨r,hr,rfl⟩) r.i hj rfl
     ·exact hs j hj h
   unfold wpOp;simp only [hor];rcases hsteady He ρ a w hi.mem hsub hfr hne (hi.look ho hL hc hAB hir) with ⟨hw,hn0,hrep⟩|⟨hw,hout⟩
   ·rw [d9m (by rw [hw];simp)]
    exact next undef ρ w ⟨by rw [hn0];exact hi.mem,by rw [hn0];exact .refl _ _ _,fun _ _ _=>rfl,by rw [hn0];exact hrep⟩
   ·rw [d9l hw]
    refine .inl ?_;unfold Oper.wp;rcases hout with ⟨v,ρ',w',h1,h2⟩|⟨f,vs,h1,h2⟩
    ·rw [h1];exact next v ρ' w' h2
    ·rw [h1]
     refine h2.mono ?_;rintro e w' ⟨v,rfl,ρ',h3⟩;exact next v ρ' w' h3
theorem b0s:∀ (l done:List Nat),a8H ops done l=true->∀ A i B,l=A++i::B->∀ j∈a2S ops i,j∈done\/j∈A
 | [],_,_,A,i,B,h=>by cases A<;>simp at h
 | k::l,done,h,A,i,B,hl=>by
  simp only [a8H,d9B] at h;cases A with
  | nil =>
   simp only [e0p,e0P] at hl;obtain ⟨rfl,rfl⟩:=hl;exact fun j hj=>.inl (a2o.1 h.1 j hj)
  | cons k' A =>
   simp only [e0M,e0P] at hl;obtain ⟨rfl,rfl⟩:=hl;intro j hj;rcases b0s _ _ h.2 A i B rfl j hj with h'|h'
   ·rcases d9F.1 h' with rfl|h'
    ·exact .inr (by simp)
    ·exact .inl h'
   ·exact .inr (by simp [h'])
theorem b6s {clo:List (Nat × List Nat)}:∀ (l done:List Nat),c5W clo done l=true->∀ A i B,l=A++i::B->∀ j,j∈done\/j∈A->j∈a2j clo i
 | [],_,_,A,i,B,h=>by cases A<;>simp at h
 | k::l,done,h,A,i,B,hl=>by
  simp only [c5W,d9B] at h;cases A with
  | nil =>
   simp only [e0p,e0P] at hl;obtain ⟨rfl,rfl⟩:=hl;rintro j (hj|hj)
   ·exact a2o.1 h.1 j hj
   ·simp at hj
  | cons k' A =>
   simp only [e0M,e0P] at hl;obtain ⟨rfl,rfl⟩:=hl;intro j hj;refine b6s _ _ h.2 A i B rfl j ?_;rcases hj with hj|hj
   ·exact .inl (by simp [hj])
   ·rcases d9F.1 hj with rfl|hj
    ·exact .inl (by simp)
    ·exact .inr hj
theorem b6b {all : List Nat} {clo : List (Nat × List Nat)} : ∀ (l done : List Nat), c5K ops all clo done l = true -> ∀ A i B, l = A ++ i :: B -> ∃ o, ops[i]? = some o /\
      ∀ t ∈ o.looksAt ops, ∀ j ∈ all, t ∈ b2y ops j -> (j ∈ a2j clo i /\ (j ∈ done \/ j ∈ A)) \/ (i ∈ a2j clo j /\ ¬ (j ∈ done \/ j ∈ A) /\ j ≠ i)
  | [], _, _, A, i, B, h => by cases A <;> simp at h
  | k :: l, done, h, A, i, B, hl => by
    simp only [c5K, d9B] at h
    cases A with
    | nil =>
      simp only [e0p, e0P] at hl
      obtain ⟨rfl, rfl⟩ := hl
      have h1 := h.1
      cases ho : ops[k]? with
      | none => simp [ho] at h1
      | some o =>
        simp only [ho] at h1
        refine ⟨o, rfl, fun t ht j hj hd => ?_⟩
        have := d9W.1 (d9W.1 h1 t ht) j hj
        rw [a0T.2 hd] at this
        simp only [e0s, Bool.false_or, e2d, d9B, a0T, d9w, Bool.eq_false_iff, ne_eq, List.mem_singleton] at this
        rcases this with h | h
        · exact .inl ⟨h.1, .inl h.2⟩
        · exact .inr ⟨h.1.1, by rintro (h' | h'); exact h.1.2 h'; simp at h', h.2⟩
    | cons k' A =>
      simp only [e0M, e0P] at hl
      obtain ⟨rfl, rfl⟩ := hl
      obtain ⟨o, h1, h2⟩ := b6b _ _ h.2 A i B rfl
      refine ⟨o, h1, fun t ht j hj hd => ?_⟩
      rcases h2 t ht j hj hd with ⟨h3, h4⟩ | ⟨h3, h4, h5⟩
      · refine .inl ⟨h3, ?_⟩
        rcases h4 with h4 | h4
        · rcases d9F.1 h4 with rfl | h4
          · exact .inr (by simp)
          · exact .inl h4
        · exact .inr (by simp [h4])
      · refine .inr ⟨h3, fun h => h4 ?_, h5⟩
        rcases h with h | h
        · exact .inl (by simp [h])
        · rcases d9F.1 h with rfl | h
          · exact .inl (by simp)
          · exact .inr h
theorem b2z:∀ (rs:List Rec),(∀ r∈rs,ops[r.i]? = some r.o)->((rs.map (·.i)).flatMap (b2y ops)).Nodup->rs.Pairwise fun r r'=>∀ t,r.o.dst=some t->r'.o.dst≠some t
 | [],_,_=>.nil
 | r::rs,h,hn=>by
  simp only [e0I,List.flatMap_cons,e0z] at hn;refine .cons (fun r' hr' t ht ht'=>?_) (b2z rs (fun r hr=>h r (by simp [hr])) hn.2.1);refine hn.2.2 t ?_ t ?_ rfl
  ·unfold b2y;rw [h r (by simp)];simp [ht]
  ·refine List.mem_flatMap.2 ⟨r'.i,List.mem_map.2 ⟨r',hr',rfl⟩,?_⟩
   unfold b2y;rw [h r' (by simp [hr'])];simp [ht']
theorem a8f {rs:List Rec}{pre suf:List Nat}(hp:rs.map (·.i)=pre)(ho:∀ r∈rs,ops[r.i]? = some r.o)(hc:b2m ops pre suf=true):b3S ops rs suf:=by
 simp only [b2m,d9B] at hc;obtain ⟨⟨⟨⟨⟨⟨c1,c2⟩,c3⟩,c4⟩,c5⟩,c6⟩,c7⟩:=hc;have hreach:∀ i j,j∈a2j (b5m ops (pre++suf) []) i->a1Z ops i j:=fun i j h=>a2J (a3m _ _ (by simp)) i j h
 subst hp;refine ⟨a7i.1 c1,fun i hi=>by simpa using d9W.1 c3 i hi,fun i hi=>a2o.1 c2 i (List.mem_range.2 hi),fun A i B h j hj=>?_,?_,?_,fun A i B h j hj=>?_⟩
 ·exact (b0s _ _ c4 A i B h j hj).resolve_left (by simp)
 ·exact b2z rs ho (a7i.1 c5)
 ·intro A r B hr t ht r' hr' hd
  obtain ⟨o,h1,h2⟩:=b6b _ _ c6 (A.map (·.i)) r.i (B.map (·.i)) (by rw [hr];simp);have e:o=r.o:=by rw [ho r (by rw [hr];simp)] at h1;exact (e1K h1).symm
  subst e;rcases h2 t ht r'.i (List.mem_map.2 ⟨r',hr',rfl⟩) (by unfold b2y;rw [ho r' hr'];simp [hd]) with ⟨h3,h4⟩|⟨h3,h4,h5⟩
  ·refine .inl ⟨?_,hreach _ _ h3⟩
   have h4:=h4.resolve_left (by simp);have hnd:=(e0z.1 (a7i.1 c1)).1;rw [hr] at hnd hr';rcases List.mem_append.1 hr' with h5|h5
   ·exact h5
   ·rw [e0Q,e0z] at hnd
    exact d9n rfl (hnd.2.2 r'.i h4 r'.i (List.mem_map.2 ⟨r',h5,rfl⟩))
  ·exact .inr ⟨fun hA=>h4 (.inr (List.mem_map.2 ⟨r',hA,rfl⟩)),hreach _ _ h3⟩
 ·refine hreach _ _ (b6s _ _ c7 A i B h j ?_)
  simpa using hj
theorem d8u {i:Nat}{s:St}{Q:Exit->St->Prop}{pre suf:List Nat}{envF:Env}{N:Hp}(hm:C.P.follows .mixedOrders=true)(hc:b2m ops pre suf=true)
  (hpre:DTr C F ops s.H s.n pre s.env [] envF N)
  (h:OkL C F ops (suf.map fun j=>ops.getD j default) ⟨envF,N++s.H,s.n+ops.size⟩ (Q .normal)):Ok C F (.region i ops true) s Q:=by
 intro hd ρ a w hs;obtain ⟨rs,h1,h2,h3,h4⟩:=hpre.recs;have hor:∀ r∈rs,ops[r.i]? = some r.o:=fun r hr=>by
  obtain ⟨A,B,hAB⟩:=e0v hr;exact (h4 A r B hAB).1
 have ho:=a8f h1 hor hc;have hds:∀ r∈rs,a2m F.nt r.o=true:=fun r hr=>by
  refine d9W.1 hd r.o ?_
  have:=hor r hr
  exact Array.mem_toList_iff.2 (e1u this)
 have hrep:∀ j,(Array.replicate ops.size false).getD j false=false:=fun j=>by
  rw [d9o];rw [e1r];split<;>rfl
 have hnL:∀ j,¬ Ls (Array.replicate ops.size false) j:=fun j hj=>by unfold Ls at hj;rw [hrep] at hj;cases hj
 refine wp_region_any hm ?_;have hin:DI C F s.H s.n s.env rs (Array.replicate ops.size false) a w.drew ρ s.H:=by
  refine ⟨hs.mem.drew,?_,fun r _ hl=>d9n hl (hnL _),fun t _=>(hs.env t).mono (.drew _ _ _),fun k g hg hk=>d9n (hs.fresh k g hg) hk,hs.nt,hs.dfr⟩
  have:rs.filterMap (fun r=>if (Array.replicate ops.size false).getD r.i false then r.ne else none)=[]:=by
   rw [e2s];intro r _;rw [hrep];rfl
  rw [this];exact List.Perm.refl _
 refine b6A ho hs.gen hds h4 ?_ ops.size _ a w.drew ρ s.H (by simp) ?_ ?_ (fun j _=>hnL j) hin
 ·intro L a' w' ρ' He hL hall hi
  have hN:He.Perm (N++s.H):=by
   refine hi.perm.trans (List.Perm.append_right _ ?_);have e:rs.filterMap (fun r=>if L.getD r.i false then r.ne else none)=rs.filterMap (·.ne):=a3d fun r hr=>by
    have:=hall r hr;unfold Ls at this;rw [this];rfl
   rw [e,h3]
   have:=a2K rs []
   rw [e0D] at this;exact this.symm
  refine b3L _ _ _ (h ?_ suf ?_ ρ' a' w' ⟨hi.mem.perm hN,?_,?_,fun t=>?_,hi.nt,hi.dfr⟩)
  ·rw [d9W]
   intro o' ho';obtain ⟨j,hj,rfl⟩:=List.mem_map.1 ho';have hlt:=ho.lt j (by simp [hj]);refine d9W.1 hd _ ?_;rw [d9o,d9C hlt];simp
  ·rw [List.map_map]
   refine e1M fun j hj=>?_
   have hlt:=ho.lt j (by simp [hj]);simp [d9o,d9C hlt]
  ·intro k g hg
   apply d9L;intro hk;obtain ⟨r,hr,_,he⟩:=hi.fresh k g (by simp at hg;omega) hk
   have:=ho.lt r.i (by simp;exact .inl ⟨r,hr,rfl⟩)
   simp at hg;omega
  ·intro e he
   rcases List.mem_append.1 he with he|he
   ·rw [h3] at he
    have he:=(a2K rs []).mem_iff.1 he;rw [e0D] at he;obtain ⟨r,hr,hre⟩:=List.mem_filterMap.1 he;obtain ⟨A,B,hAB⟩:=e0v hr
    have:=(h4 A r B hAB).2.1 e hre
    have:=ho.lt r.i (by simp;exact .inl ⟨r,hr,rfl⟩)
    show e.g<s.n+ops.size;omega
   ·have:=hs.gen e he
    show e.g<s.n+ops.size;omega
  ·show Rep ρ' (Own F.X ρ' (N++s.H)) w' (envF.get t) _
   rw [<- Own.perm hN,h2]
   by_cases hw:∃ r∈rs,r.o.dst=some t
   ·obtain ⟨r,hr,hrd⟩:=hw
    rw [a4n rs s.env t ho.dst r hr hrd];exact hi.reps r hr (hall r hr) t hrd
   ·rw [a1v rs s.env t fun r hr hrd=>hw ⟨r,hr,hrd⟩]
    exact hi.old t fun r hr _ hrd=>hw ⟨r,hr,hrd⟩
 ·refine d9V (List.length_filter_le _ _) ?_
  have hsub:∀ (l:List Nat) (n:Nat),l.Nodup->(∀ x∈l,x<n)->l.length<=n:=by
   intro l n
   induction n generalizing l with
   | zero=>intro _ h;cases l with
    | nil=>simp
    | cons x l=>exact d9n (h x (by simp)) (by omega)
   | succ n ihn =>
    intro hnd hlt;have h1:=ihn (l.erase n) (hnd.erase n) fun x hx=>by
     have:=hlt x (List.mem_of_mem_erase hx)
     have:x≠n:=fun h=>by subst h;exact (e2v hnd) hx
     omega
    have:=List.length_erase (a:=n) (l:=l)
    split at this<;>omega
  exact hsub _ _ ho.nodup ho.lt
 ·intro k hk
  have:k<ops.size\/¬ k<ops.size:=by omega
  rcases this with hlt|hlt
  ·rw [d9o,e1r,d9l hlt] at hk;cases hk
  ·intro h;exact d9n h hlt
end
def look:List (Nat × a0n)->Nat->Option a0n
 | [],_=>none
 | (k,i)::r,t=>match Nat.beq k t with
  | true=>some i
  | false=>look r t
end Go.Ide
