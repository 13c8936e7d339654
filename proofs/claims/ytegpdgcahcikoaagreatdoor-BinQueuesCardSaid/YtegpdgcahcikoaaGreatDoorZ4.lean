/- The layer of own lemmas and contracts, part 4. -/
import Derived.Test.YtegpdgcahcikoaaGreatDoorZ3
import Derived.Shelf.GgSortFunc.RowK
import Derived.Shelf.GgSortFunc.InsertionK
set_option linter.unusedVariables false
set_option linter.unusedSimpArgs false
namespace Go.Ide
open Go.RowKit Go.Sort
section
variable {C:BD} {F:Ac} {ρ:Lk} {H:Hp} {w:World}
theorem jH (w:World)(b:Nat)(FV cs:Array Value)(T:Nat)(fz:Nat×Nat)(hc:w.heap[b]?=some (.cells cs T fz))(n b':Nat):
  (putRow id (Sort.ahead w n) b 0 FV).heap[b']?=if b'=b then some (.cells (putCells id 0 FV cs) T fz)else w.heap[b']?:=by
 show((Sort.ahead w n).heap.modify b _)[b']?=_;rw[Array.getElem?_modify]
 by_cases h:b'=b
 ·subst h
  rw[AH rfl,AH rfl];show Option.map _ w.heap[b']?=_;rw[hc];rfl
 ·rw[AF (λq=>h q.symm),AF h];rfl
theorem WT (FV cs:Array Value)(i:Nat)(hi:i<FV.size)(hle:FV.size<=cs.size):(putCells id 0 FV cs)[i]?=FV[i]?:=by
 have h1:i<cs.size:=by omega
 unfold putCells;rw[Array.getElem?_mapIdx,Bn h1,Bn hi];simp[hi]
theorem iQ (FV cs:Array Value)(i:Nat)(hi:FV.size<=i):(putCells id 0 FV cs)[i]?=cs[i]?:=by
 unfold putCells;rw[Array.getElem?_mapIdx]
 have:¬i<FV.size:=by omega
 simp[this]
theorem zb {e:Ay}{b:Nat}{cs:Array Value}(m:Aq C F ρ (e::H) w)(hb:ρ e.k e.g=some b)(hc:w.heap[b]?=some (.cells cs e.T (0,0)))(hok:DB ρ (AN F.X ρ (e::H)) w e cs)(FV:Array Value)(es':List D)(hsz:FV.size=es'.length*e.sz)(hle:FV.size<=cs.size)
  (hsiz:∀(i:Nat) (d:D),es'[i]?=some d->d.cells.length=e.sz) (hone:∀(i:Nat) (v:Value),FV[i]?=some v->one v=true)
  (hval:∀(i:Nat) (d:D) (j:Nat) (c:D),es'[i]?=some d->d.cells[j]?=some c->AW ρ (AN F.X ρ (e::H)) w c (FV.getD (i*e.sz+j) undef)) (n:Nat) (os:Array Obj):
  Aq C F ρ (⟨e.k,e.g,e.T,e.sz,es'⟩::H) (Sort.grow (putRow id (Sort.ahead w n) b 0 FV) os) /\
  BT ρ (AN F.X ρ (e::H)) w ρ (AN F.X ρ (⟨e.k,e.g,e.T,e.sz,es'⟩::H)) (Sort.grow (putRow id (Sort.ahead w n) b 0 FV) os):=by
 have hlt:b<w.heap.size:=m.lt CA hb;have hps:(putCells id 0 FV cs).size=cs.size:=by unfold putCells;simp
 obtain⟨m1,x1⟩:=Aq.write (H1:=[]) (e':=⟨e.k,e.g,e.T,e.sz,es'⟩) (cs':=putCells id 0 FV cs) m hb hc rfl rfl rfl hps ⟨by rw[hps];exact hsz ▸ hle,hsiz,λi v hv=>by
   rcases BI i FV.size with h|h
   ·rw[WT _ _ _ h hle]at hv;exact hone i v hv
   ·rw[iQ _ _ _ h]at hv;exact hok.one i v hv,λi d j c h1 h2=>by
   have hi:i<es'.length:=(List.getElem?_eq_some_iff.1 h1).1;have hj:j<e.sz:=by
    have:=(List.getElem?_eq_some_iff.1 h2).1
    rw[hsiz i d h1]at this;exact this
   have hx:i*e.sz+j<FV.size:=by
    rw[hsz]
    calc i*e.sz+j<i*e.sz+e.sz:=by omega
     _=(i+1)*e.sz:=by rw[Nat.succ_mul]
     _<=es'.length*e.sz:=CM _ hi
   have:=hval i d j c h1 h2
   rw[A0,WT _ _ _ hx hle,<-A0];exact this⟩
 have hh:∀b',b'<w.heap.size->(Sort.grow (putRow id (Sort.ahead w n) b 0 FV) os).heap[b']?=(World.setBlk w b (putCells id 0 FV cs) e.T).heap[b']?:=λb' hb'=>by
  rw[heap_grow_old _ _ (by show b'<((Sort.ahead w n).heap.modify b _).size;rw[Array.size_modify];exact hb'),jH w b FV cs _ _ hc,Lf _ _ _ _ _ hlt]
 have hss:(World.setBlk w b (putCells id 0 FV cs) e.T).heap.size=w.heap.size:=by unfold World.setBlk;simp
 have hgs:w.heap.size<=(Sort.grow (putRow id (Sort.ahead w n) b 0 FV) os).heap.size:=by
  rw[size_grow];show w.heap.size<=((Sort.ahead w n).heap.modify b _).size+_;rw[Array.size_modify];exact Nat.le_add_right _ _
 have x2:BT ρ (AN F.X ρ (⟨e.k,e.g,e.T,e.sz,es'⟩::H)) (World.setBlk w b (putCells id 0 FV cs) e.T) ρ (AN F.X ρ (⟨e.k,e.g,e.T,e.sz,es'⟩::H)) (Sort.grow (putRow id (Sort.ahead w n) b 0 FV) os):=
  ⟨by rw[hss];exact hgs,λ_ _ _ h=>h,λb' hb' h=>⟨h,hh b' (by rw[hss]at hb';exact hb')⟩,λb' c T fz h=>⟨c,fz,by
   rw[hh b' (by have:=(Array.getElem?_eq_some_iff.1 h).1;rw[hss]at this;exact this)];exact h,rfl⟩⟩
 exact⟨m1.same x2 rfl rfl rfl λb' hb'=>hh b' (by rw[hss]at hb';exact hb'),x1.trans x2⟩
end
section
variable {α:Type} [Inhabited α] {enc:α->List Value} {k:Nat} {toD:α->D} {lt:α->α->Bool}
theorem Tu (hk:∀x,(enc x).length=k)(l:List α){i j:Nat}{x:α}(hi:l[i]?=some x)(hj:j<k):(flatK enc k l.toArray)[i*k+j]?=(enc x)[j]?:=by
 have hil:=(List.getElem?_eq_some_iff.1 hi).1;have hlt:i*k+j<l.toArray.size*k:=by
  rw[KH]
  calc i*k+j<i*k+k:=by omega
   _=(i+1)*k:=by rw[Nat.succ_mul]
   _<=l.length*k:=CM _ hil
 have hd:(i*k+j)/k=i:=by rw[BS,Nat.mul_add_div (by omega),HZ hj];rfl
 have hm:(i*k+j)%k=j:=by rw[BS,Nat.mul_add_mod,Dj hj]
 have h1:(flatK enc k l.toArray)[i*k+j]?=some (flatK enc k l.toArray)[i*k+j]!:=by
  rw[getElem!_pos _ _ (by rw[size_flatK];exact hlt),Bn]
 have hx:l.toArray[i]! = x:=by
  rw[getElem!_pos _ _ (by rw[KH];exact hil)];simpa using(List.getElem?_eq_some_iff.1 hi).2
 rw[h1,get_flatK _ _ _ _ hlt,hd,hm,hx,getElem!_pos _ _ (by rw[hk];exact hj)];exact(BG _).symm
def aB (P:Program)(f g:Nat)(enc:α->List Value)(k:Nat)(lt:α->α->Bool):Prop:=∀(blk cap:Nat) (d:Array α) (w:World),HoldsK enc k w blk 0 d->blk<w.heap.size->d.size<4611686018427387904 ->
 Calls P f #[.slice (some ⟨blk,0,none⟩) d.size cap,.func (.func g) #[] #[]] w λe w'=>e=.returned (.tuple #[])/\∃d' n os,PermIn 0 d.size d d'/\SortedIn lt 0 d.size d'/\w'=Go.Proofs.sortWorldK enc k w blk 0 n d' os
theorem lj {C:BD}{f g:Nat}(hf:Je C.P f)(hk0:0<k)(hk:∀x,(enc x).length=k)(h1:∀x,∀v∈enc x,one v=true)(hD:∀x,(toD x).cells=(enc x).map .prim)(hc:aB C.P f g enc k lt)
  (l:List α) (hl0:l≠[]) (hl:l.length<4611686018427387904) (kb gg T:Nat) (H:Hp) (n:Nat):
  Cg C f [.osl kb gg k 0 l.length,.clo (.func g) [] []] (⟨kb,gg,T,k,l.map toD⟩::H) n (λd H' n'=>d=.tup []/\n'=n+1/\∃l':List α,l'.Perm l/\l'.Pairwise (λa b=>lt b a=false)/\H'=⟨kb,gg,T,k,l'.map toD⟩::H):=by
 refine⟨hf,λF ρ w vs m fr gn hsz rep=>?_⟩;obtain⟨v0,v1,rfl⟩:∃v0 v1,vs = #[v0,v1]:=by
  match vs,hsz with
  |⟨[a,b]⟩,_=>exact⟨a,b,rfl⟩
 have r0:AW ρ _ w (.osl kb gg k 0 l.length) v0:=rep 0 _ rfl;have r1:AW ρ _ w (.clo (.func g) [] []) v1:=rep 1 _ rfl;obtain⟨x0,l0,hl0'⟩:∃x l0,l=x::l0:=by
  cases l with
  |nil=>exact Ae rfl hl0
  |cons a b=>exact⟨a,b,rfl⟩
 have hlp:0<l.length:=by rw[hl0'];simp
 generalize hlen:l.length=len at*;cases r1 with
 |clo hf1 hc1 _ _=>
  rename_i fs cs1;simp at hf1 hc1;subst hf1 hc1;cases r0 with
  |onil=>exact Ae hlp (Nat.lt_irrefl _)
  |osl hr hb hcl hs hmx=>
   rename_i cap b T' cs fz;have hent:∃cs,w.heap[b]?=some (.cells cs T (0,0))/\DB ρ (AN F.X ρ (⟨kb,gg,T,k,l.map toD⟩::H)) w ⟨kb,gg,T,k,l.map toD⟩ cs:=by
    rcases m.hok.ent _ CA with⟨h,h2⟩|⟨b2,cs2,a1,a2,a3⟩
    ·exact Ae (hr.symm.trans h2) (by simp)
    ·cases hr.symm.trans a1;exact⟨cs2,a2,a3⟩
   obtain⟨cs2,hb2,hok⟩:=hent;cases hb.symm.trans hb2;have hlt:b<w.heap.size:=m.lt CA hr;have hcap:len*k<=cs.size:=by rw[<-hs,BV];exact CM _ hcl
   have hH:HoldsK enc k w b 0 l.toArray:=by
    intro t ht;rw[size_flatK,KH,hlen]at ht;have hi:t/k<l.length:=by rw[hlen];exact(Nat.div_lt_iff_lt_mul hk0).2 ht
    have hj:t%k<k:=B4 _ hk0;obtain⟨x,hx⟩:∃x,l[t/k]?=some x:=⟨l[t/k],BG hi⟩
    have hfl:=Tu hk l hx hj;have htt:t/k*k+t%k=t:=by rw[BS];exact Ec t k
    rw[htt]at hfl;obtain⟨v0,hej⟩:∃v0,(enc x)[t%k]?=some v0:=⟨_,BG (by rw[hk];exact hj)⟩
    have hrp:=hok.rep (t/k) (toD x) (t%k) (.prim v0) (by show(l.map toD)[t/k]?=_;rw[A7,hx];rfl) (by rw[hD,A7,hej];rfl);rw[htt]at hrp;have htc:t<cs.size:=by omega
    rw[A0,Bn htc]at hrp;have hv:cs[t]=v0:=by
     generalize cs[t]=v at hrp;cases hrp;rfl
    rw[hej]at hfl;have hfb:(flatK enc k l.toArray)[t]! = v0:=by
     rw[getElem!_def,hfl]
    refine⟨?_,?_⟩
    ·show w.cell? ⟨b,0+t,none⟩=_
     rw[BV];unfold World.cell?;simp only[hb];rw[Bn htc,hv];show some _=some (id (flatK enc k l.toArray)[t]!);rw[hfb];rfl
    ·unfold World.frozen?
     simp[hb]
   have hcalls:=hc b cap l.toArray w hH hlt (by rw[KH,hlen];exact hl);rw[KH,hlen]at hcalls;rw[G8];refine hcalls.mono ?_;rintro e w' ⟨rfl,d',n0,os,hp,hso,rfl⟩;have hsz':d'.size=len:=by rw[hp.1,KH,hlen]
   have hperm:d'.toList.Perm l:=by
    have:=hp.2.2
    rw[show d'.extract 0 len=d' from by rw[<-hsz'];simp,show l.toArray.extract 0 len=l.toArray from by rw[<-hlen];simp]at this;exact this
   have hl':d'.toList.toArray=d':=by simp
   obtain⟨m2,x2⟩:=zb (es':=d'.toList.map toD) m hr hb hok (flatK enc k d') (by rw[size_flatK,Am,IG]) (by rw[size_flatK,hsz'];exact hcap)
    (λi d h=>by
     rw[A7]at h;obtain⟨x,-,rfl⟩:=Option.map_eq_some_iff.1 h;rw[hD,Am,hk])
    (λt v hv=>by
     have ht:t<d'.size*k:=by have:=(Array.getElem?_eq_some_iff.1 hv).1;rwa [size_flatK]at this
     have hi:t/k<d'.toList.length:=by rw[IG];exact(Nat.div_lt_iff_lt_mul hk0).2 ht
     have hj:t%k<k:=B4 _ hk0;obtain⟨x,hx⟩:∃x,d'.toList[t/k]?=some x:=⟨_,BG hi⟩
     have hfl:=Tu hk d'.toList hx hj;rw[show t/k*k+t%k=t from by rw[BS];exact Ec t k,hl',hv]at hfl;exact h1 x v (Aw hfl.symm))
    (λi d j c h h2=>by
     rw[A7]at h;obtain⟨x,hx,rfl⟩:=Option.map_eq_some_iff.1 h;rw[hD,A7]at h2;obtain⟨v,hv,rfl⟩:=Option.map_eq_some_iff.1 h2;have hj:j<k:=by have:=(List.getElem?_eq_some_iff.1 hv).1;rwa [hk]at this
     have hfl:=Tu hk d'.toList hx hj;rw[hl',hv]at hfl;show AW _ _ _ _ ((flatK enc k d').getD (i*k+j) undef);rw[A0,hfl];exact .prim v) n0 os
   refine⟨_,_,_,_,ρ,rfl,⟨rfl,rfl,d'.toList,hperm,?_,rfl⟩,m2,x2,λa b h=>fr a b (by omega),λe he=>?_,.tup (vs:=#[]) rfl λi d hd=>by simp at hd⟩
   ·rw[List.pairwise_iff_getElem]
    intro i j hi hj hij;rw[IG]at hi hj
    have:=hso i j (BX _) hij (by rw[<-hsz'];exact hj)
    rw[getElem!_pos d' j hj,getElem!_pos d' i hi]at this;simpa using this
   ·rcases BA.1 he with rfl|he
    ·exact DD (gn ⟨kb,gg,T,k,l.map toD⟩ CA)
    ·exact DD (gn e (CF _ he))
end
section
variable {C:BD} {B F:Ac} {ops:Array Oper} {s:St} {rd:Option Nat} {Q:Exit->Ac->St->Prop}
theorem zI {i:Nat}{o:Oper}{l2:List Nat}{t k e:Nat}{x:Operand}{ks vs:List D}(ht:C.P.underlying t=some (.map k e))(ho:DO ops.toList i=some o)(hg:o.guard=none)(hop:o.op=.call ⟨.builtin .len,#[x],#[t]⟩)(hx:BH s.env x=.mp ks vs)
  (h:Bd C B rd F ops l2 ⟨Ba s.env o.dst (i64 (ks.length:Nat)),s.H,s.n+1⟩ Q):Bd C B rd F ops (i::l2) s Q:=by
 refine Bd.step ho hg λρ a w hs hB=>?_
 have hrep:=DK hs.env x;rw[hx]at hrep;generalize hev:a.eval x=v at hrep;cases hrep with
 |mp hO hr hb h1 h2 hBo hk hv=>
  rename_i r clock es;refine⟨.int .i64 (ks.length:Nat),w,F,ρ,_,.inl ?_,hB,⟨hs.mem,λk g hg=>hs.fresh k g (by have:s.n+1<=g:=hg;omega),λe he=>DD (hs.gen e he),hs.env,hs.nt,hs.dfr⟩,.prim _,h⟩;unfold execOp;simp only[hop];have hl:(Builtin.len_ #[t] o.type #[.map (some r)]).run C.P w=.ok (.int .i64 (ks.length:Nat)) w:=by
   simp[Builtin.len_,Cm ht,run_getObj_map w r es clock hb,h1,goInt]
  have hl2:∀cst,(builtin .len #[t] o.type cst #[.map (some r)]).run C.P w=.ok (.value (.int .i64 (ks.length:Nat))) w:=λcst=>by
   simp only[builtin];rw[run_bind,hl];rfl
  have hl3:∀cst,(builtin .len #[t] o.type cst (#[x].map a.eval)).run C.P w=.ok (.value (.int .i64 (ks.length:Nat))) w:=λcst=>by
   rw[show #[x].map a.eval = #[a.eval x]from by simp,hev];exact hl2 cst
  exact hl3 (#[x].map fun | .const _=>true|_=>false)
end
section
variable {C:BD} {X:EV} {kb:Nat} {ops:Array Oper} {H N:Hp} {n:Nat} {env:Au} {acc:Prop} {K:Prop->Au->Hp->Prop} {l:List Nat}
theorem QI {i:Nat}{o:Oper}{t kT eT:Nat}{z:Value}{x ix:Operand}{ok:Bool}{ks vs:List D}{s:ByteArray}{d d':D}(h:DO ops.toList i=some o)(hg:o.guard=none)(hop:o.op=.lookup t x ix ok)(hxt:X.xt t=some (.map kT eT z))
  (hx:BH env x=.mp ks vs) (hix:BH env ix=.prim (.string s)) (hl:Hx s ks vs=some (some d)) (hd:IJ ok d true=d') (hk:ER C X kb ops H n l (Ba env o.dst d') N (True/\acc) K):ER C X kb ops H n (i::l) env N acc K:=by
 refine Eh h hg ?_;subst hd;rw[hop];unfold EJ;dsimp only;unfold LV
 have:GD X.tt X.xt (BH env) (.lookup t x ix ok)=some (IJ ok d true,True):=by
  simp only[GD,hxt,hx,hix,hl]
 rw[this];exact hk
end
end Go.Ide
