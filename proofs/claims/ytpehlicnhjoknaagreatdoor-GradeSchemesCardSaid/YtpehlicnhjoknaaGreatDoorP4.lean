/- The layer of own lemmas and contracts, part 4. -/
import Derived.Test.YtpehlicnhjoknaaGreatDoorP3
import Derived.ChangeArms
import Derived.ChangeSlices
import Derived.OpenShut
set_option linter.unusedVariables false
set_option linter.unusedSimpArgs false
namespace Go.Ide
open Go.RowKit Go.ChangeShapes Go.WideShapes
structure RdOk (W:World)(cs:List Value)(ds:List D):Prop where
 len:cs.length=ds.length
 cell:∀ (i:Nat) (c:Value) (d:D),cs[i]? = some c→ds[i]? = some d→one c=true∧Rep nol (fun _=>False) W d c
theorem RdOk.one {W:World}{c:Value}{d:D}(ho:one c=true)(h:Rep nol (fun _=>False) W d c):RdOk W [c] [d]:=⟨rfl,fun i x y hx hy=>by
 match i with
 | 0=>cases hx;cases hy;exact ⟨ho,h⟩
 | i+1=>simp at hx⟩
theorem RdOk.append {W:World}{a b:List Value}{x y:List D}(h:RdOk W a x)(k:RdOk W b y):RdOk W (a++b) (x++y):=⟨by rw [List.length_append,List.length_append,h.len,k.len],fun i c d hc hd=>by
 by_cases hi:i<a.length
 ·rw [List.getElem?_append_left hi] at hc
  rw [List.getElem?_append_left (by rw [← h.len];exact hi)] at hd;exact h.cell i c d hc hd
 ·rw [List.getElem?_append_right (by omega)] at hc
  rw [List.getElem?_append_right (by rw [← h.len];omega),← h.len] at hd;exact k.cell _ c d hc hd⟩
theorem RdOk.agg {W:World}{cs:Array Value}{ds:List D}(h:RdOk W cs.toList ds):Rep nol (fun _=>False) W (.agg ds) (.agg cs):=by
 have hl:cs.size=ds.length:=by rw [← h.len];simp
 refine .agg hl (fun i v hv=>?_) fun i d hd=>?_
 ·have hi:i<ds.length:=by
   have:=(Array.getElem?_eq_some_iff.1 hv).1
   omega
  exact (h.cell i v _ (by rw [Array.getElem?_toList];exact hv) (List.getElem?_eq_getElem hi)).1
 ·have hi:i<cs.size:=by
   have:=(List.getElem?_eq_some_iff.1 hd).1
   omega
  have hv:cs[i]? = some cs[i]:=Array.getElem?_eq_getElem hi
  have:=(h.cell i _ d (by rw [Array.getElem?_toList];exact hv) hd).2
  rw [show cs.getD i undef=cs[i] by simp [Array.getD,hi]];exact this
theorem list_of {α:Type}{p:Nat→α→Prop}:∀ {n:Nat},(∀ i,i<n→∃ x,p i x)→∃ l:List α,l.length=n∧∀ (i:Nat) (x:α),l[i]? = some x→p i x
 | 0,_=>⟨[],rfl,fun i x h=>by simp at h⟩
 | n+1,h=>by
  obtain ⟨l,h1,h2⟩:=list_of (n:=n) fun i hi=>h i (by omega)
  obtain ⟨x,hx⟩:=h n (by omega);refine ⟨l++[x],by simp [h1],fun i y hy=>?_⟩
  by_cases hi:i<l.length
  ·rw [List.getElem?_append_left hi] at hy;exact h2 i y hy
  ·rw [List.getElem?_append_right (by omega)] at hy
   have:i - l.length=0:=by
    have:=(List.getElem?_eq_some_iff.1 hy).1
    simp at this;omega
   rw [this] at hy;simp at hy;rw [show i=n by omega,← hy];exact hx
theorem add_at {b off k:Nat}:(Addr.mk b off none).add k=⟨b,off+k,none⟩:=by
 unfold Addr.add
 by_cases h:k=0
 ·subst h;rfl
 ·rw [if_neg h]
theorem spot_none {W:World}{a:Addr}{v:Value}(h:W.cell? a=some v):∃ b off,a=⟨b,off,none⟩∧b<W.heap.size:=by
 obtain ⟨b,off,sp⟩:=a;unfold World.cell? at h;split at h
 ·rename_i c t f hb
  split at h
  ·cases h
  ·rename_i hs
   simp at hs;subst hs;exact ⟨b,off,rfl,(Array.getElem?_eq_some_iff.1 hb).1⟩
 ·cases h
section
variable {H:Type} {enc:TypeId × Value→H} {P:Program} {W:World} {fuel:Nat} {cs:List Value} {x:DataW H × List MemPlace} {t:TypeId}
theorem rd_str (ht:P.underlying t=some .string)(h:DataW.trod enc P W 0 (fun _=>true) true fuel t cs=some x):∃ l:List UInt8,RdOk W cs [.prim (.string ⟨l.toArray⟩)]∧l.length≤maxLen:=by
 obtain ⟨s,rfl,_,hw⟩:=DataW.trod_string ht h;refine ⟨s.data.toList,.one rfl ?_,?_⟩
 rotate_left
 ·rw [Array.length_toList];exact hw
 rw [show (⟨s.data.toList.toArray⟩:ByteArray)=s by cases s;simp];exact .prim _
theorem rd_sl {α:Type}{g:α→D}{ok:α→Prop}{e:TypeId}{sz:Nat}(ht:P.underlying t=some (.slice e))(hc:P.cellsOf e=sz)(h0:0<sz)
  (he:∀ n cs x,DataW.trod enc P W 0 (fun _=>true) true n e cs=some x→∃ a,RdOk W cs (g a).cells∧ok a)
  (h:DataW.trod enc P W 0 (fun _=>true) true fuel t cs=some x):∃ l:List α,RdOk W cs [.sl false sz (l.map g)]∧(∀ a∈l,ok a)∧l.length≤maxLen:=by
 rcases DataW.trod_slice ht h with ⟨rfl,_⟩|⟨a,len,cap,elems,rest,n,_,rfl,_,_,hl,hm,hlen,hel,hsp,_⟩
 ·exact ⟨[],.one rfl (.nil _),fun _ h=>absurd h List.not_mem_nil,Nat.zero_le _⟩
 rw [hc] at hel hsp;have hE:∀ i,i<len→∃ ci y,W.cells? 0 (a.add (i*sz)) sz=some ci∧DataW.trod enc P W 0 (fun _=>true) true n e ci=some y:=fun i hi=>by
  have h1:=hel i hi;rw [List.getElem?_eq_getElem (by omega)] at h1;obtain ⟨ci,h2,h3⟩:=Option.bind_eq_some_iff.1 h1;exact ⟨ci,_,h2,h3⟩
 have hA:(len=0∧cap=0)∨∃ v,W.cell? a=some v:=by
  by_cases hz:len=0
  ·by_cases hcz:cap=0
   ·exact .inl ⟨hz,hcz⟩
   obtain ⟨h1,h2⟩:=hsp rfl;have h3:=h2 0 (by omega);rw [List.getElem?_eq_getElem (by omega)] at h3;obtain ⟨ci,h4,_⟩:=Option.bind_eq_some_iff.1 h3;obtain ⟨_,h5,h6⟩:=World.cells?_some h4;have h7:=h6 0 h0;rw [show len+0=0 by omega,Nat.zero_mul] at h7;rw [show (a.add 0).add 0=a from rfl,List.getElem?_eq_getElem (by omega)] at h7;exact .inr ⟨_,h7⟩
  ·obtain ⟨ci,_,h4,_⟩:=hE 0 (by omega)
   obtain ⟨_,h5,h6⟩:=World.cells?_some h4;have h7:=h6 0 h0;rw [Nat.zero_mul] at h7;rw [show (a.add 0).add 0=a from rfl,List.getElem?_eq_getElem (by omega)] at h7;exact .inr ⟨_,h7⟩
 rcases hA with ⟨rfl,rfl⟩|⟨v,hv⟩
 ·exact ⟨[],.one rfl (.emp a),fun _ h=>absurd h List.not_mem_nil,Nat.zero_le _⟩
 obtain ⟨b,off,rfl,hb⟩:=spot_none hv;obtain ⟨l,hll,hl2⟩:=list_of (p:=fun i x=>∃ ci,W.cells? 0 ((Addr.mk b off none).add (i*sz)) sz=some ci∧RdOk W ci (g x).cells∧ok x) fun i hi=>by
  obtain ⟨ci,y,h1,h2⟩:=hE i hi;obtain ⟨x,h3,h4⟩:=he n ci y h2;exact ⟨x,ci,h1,h3,h4⟩
 have hcell:∀ i x,l[i]? = some x→(g x).cells.length=sz∧∀ j,j<sz→∃ c d,W.cell? ⟨b,off+(i*sz+j),none⟩=some c∧(g x).cells[j]? = some d∧Ide.one c=true∧Rep nol (fun _=>False) W d c:=fun i x hx=>by
  obtain ⟨ci,h1,h2,_⟩:=hl2 i x hx;obtain ⟨_,h3,h4⟩:=World.cells?_some h1;refine ⟨by rw [← h2.len,h3],fun j hj=>?_⟩;have h5:=h4 j hj;rw [add_at,add_at,List.getElem?_eq_getElem (by omega),Nat.add_assoc] at h5;have h6:(g x).cells[j]? = some ((g x).cells[j]'(by rw [← h2.len,h3];exact hj)):=List.getElem?_eq_getElem _
  have:=h2.cell j _ _ (List.getElem?_eq_getElem (by omega)) h6
  exact ⟨_,_,h5,h6,this.1,this.2⟩
 have hsplit:∀ k,k<len*sz→∃ i j x,k=i*sz+j∧i<len∧j<sz∧l[i]? = some x:=fun k hk=>by
  have h1:k / sz<len:=(Nat.div_lt_iff_lt_mul h0).2 hk;exact ⟨k / sz,k%sz,_,by rw [Nat.mul_comm];exact (Nat.div_add_mod k sz).symm,h1,Nat.mod_lt _ h0,List.getElem?_eq_getElem (by omega)⟩
 refine ⟨l,.one rfl (.sl (fun k=>(W.cell? ⟨b,off+k,none⟩).getD undef) (by rw [List.length_map,hll]) hl (fun h=>h) hb ?_ ?_ ?_ ?_),fun x hx=>?_,by omega⟩
 ·intro i d hd
  rw [List.getElem?_map] at hd;obtain ⟨x,hx,rfl⟩:=Option.map_eq_some_iff.1 hd;exact (hcell i x hx).1
 ·intro k hk
  obtain ⟨i,j,x,rfl,hi,hj,hx⟩:=hsplit k hk;obtain ⟨c,d,h1,_⟩:=(hcell i x hx).2 j hj;rw [h1];rfl
 ·intro k hk
  obtain ⟨i,j,x,rfl,hi,hj,hx⟩:=hsplit k hk;obtain ⟨c,d,h1,_,h3,_⟩:=(hcell i x hx).2 j hj;rw [h1];exact h3
 ·intro i e' j d hd hj
  rw [List.getElem?_map] at hd;obtain ⟨x,hx,rfl⟩:=Option.map_eq_some_iff.1 hd;have hjl:j<sz:=by
   have:=(List.getElem?_eq_some_iff.1 hj).1
   rw [(hcell i x hx).1] at this;exact this
  obtain ⟨c,d',h1,h2,_,h4⟩:=(hcell i x hx).2 j hjl;rw [h1];rw [h2] at hj;cases hj;exact h4
 ·obtain ⟨i,hi⟩:=List.getElem?_of_mem hx
  obtain ⟨_,_,_,h⟩:=hl2 i x hi;exact h
theorem rd_fields {fs:Array Field}(ht:P.underlying t=some (.struct fs))(h:DataW.trod enc P W 0 (fun _=>true) true fuel t cs=some x) :
  cs.length=P.cellsOf t∧∃ n,∀ (i:Nat) (f:Field),fs[i]? = some f→∃ y,DataW.trod enc P W 0 (fun _=>true) true n f.type ((cs.drop f.offset).take (P.cellsOf f.type))=some y:=by
 obtain ⟨xs,n,rfl,_,h1,h2,h3⟩:=DataW.trod_struct ht h;refine ⟨h1,n,fun i f hf=>?_⟩
 have:=(Array.getElem?_eq_some_iff.1 hf).1
 exact ⟨xs[i]'(by omega),by rw [h3 i f hf];exact List.getElem?_eq_getElem _⟩
end
end Go.Ide
