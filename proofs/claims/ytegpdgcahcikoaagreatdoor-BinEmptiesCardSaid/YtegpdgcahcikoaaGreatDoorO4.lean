/- The layer of own lemmas and contracts, part 4. -/
import Derived.Test.YtegpdgcahcikoaaGreatDoorO3
import Derived.Shelf.GgSortFunc.RowK
import Derived.Shelf.GgSortFunc.InsertionK
set_option linter.unusedVariables false
set_option linter.unusedSimpArgs false
namespace Go.Ide
open Go.RowKit Go.Sort
section
variable {C:BC} {F:Aa} {ρ:Lk} {H:Hp} {w:World}
theorem iJ (w:World)(b:Nat)(FV cs:Array Value)(T:Nat)(fz:Nat×Nat)(hc:w.heap[b]?=some (.cells cs T fz))(n b':Nat):
  (putRow id (Sort.ahead w n) b 0 FV).heap[b']?=if b'=b then some (.cells (putCells id 0 FV cs) T fz)else w.heap[b']?:=by
 show((Sort.ahead w n).heap.modify b _)[b']?=_;rw[Array.getElem?_modify]
 by_cases h:b'=b
 ·subst h
  rw[AG rfl,AG rfl];show Option.map _ w.heap[b']?=_;rw[hc];rfl
 ·rw[AF (λq=>h q.symm),AF h];rfl
theorem WC (FV cs:Array Value)(i:Nat)(hi:i<FV.size)(hle:FV.size<=cs.size):(putCells id 0 FV cs)[i]?=FV[i]?:=by
 have h1:i<cs.size:=by omega
 unfold putCells;rw[Array.getElem?_mapIdx,Bn h1,Bn hi];simp[hi]
theorem gm (FV cs:Array Value)(i:Nat)(hi:FV.size<=i):(putCells id 0 FV cs)[i]?=cs[i]?:=by
 unfold putCells;rw[Array.getElem?_mapIdx]
 have:¬i<FV.size:=by omega
 simp[this]
theorem zQ {e:Ay}{b:Nat}{cs:Array Value}(m:Ap C F ρ (e::H) w)(hb:ρ e.k e.g=some b)(hc:w.heap[b]?=some (.cells cs e.T (0,0)))(hok:DF ρ (AN F.X ρ (e::H)) w e cs)(FV:Array Value)(es':List D)(hsz:FV.size=es'.length*e.sz)(hle:FV.size<=cs.size)
  (hsiz:∀(i:Nat) (d:D),es'[i]?=some d->d.cells.length=e.sz) (hone:∀(i:Nat) (v:Value),FV[i]?=some v->one v=true)
  (hval:∀(i:Nat) (d:D) (j:Nat) (c:D),es'[i]?=some d->d.cells[j]?=some c->AV ρ (AN F.X ρ (e::H)) w c (FV.getD (i*e.sz+j) undef)) (n:Nat) (os:Array Obj):
  Ap C F ρ (⟨e.k,e.g,e.T,e.sz,es'⟩::H) (Sort.grow (putRow id (Sort.ahead w n) b 0 FV) os) /\
  BW ρ (AN F.X ρ (e::H)) w ρ (AN F.X ρ (⟨e.k,e.g,e.T,e.sz,es'⟩::H)) (Sort.grow (putRow id (Sort.ahead w n) b 0 FV) os):=by
 have hlt:b<w.heap.size:=m.lt CG hb;have hps:(putCells id 0 FV cs).size=cs.size:=by unfold putCells;simp
 obtain⟨m1,x1⟩:=Ap.write (H1:=[]) (e':=⟨e.k,e.g,e.T,e.sz,es'⟩) (cs':=putCells id 0 FV cs) m hb hc rfl rfl rfl hps ⟨by rw[hps];exact hsz ▸ hle,hsiz,λi v hv=>by
   rcases BH i FV.size with h|h
   ·rw[WC _ _ _ h hle]at hv;exact hone i v hv
   ·rw[gm _ _ _ h]at hv;exact hok.one i v hv,λi d j c h1 h2=>by
   have hi:i<es'.length:=(List.getElem?_eq_some_iff.1 h1).1;have hj:j<e.sz:=by
    have:=(List.getElem?_eq_some_iff.1 h2).1
    rw[hsiz i d h1]at this;exact this
   have hx:i*e.sz+j<FV.size:=by
    rw[hsz]
    calc i*e.sz+j<i*e.sz+e.sz:=by omega
     _=(i+1)*e.sz:=by rw[Nat.succ_mul]
     _<=es'.length*e.sz:=CL _ hi
   have:=hval i d j c h1 h2
   rw[A7,WC _ _ _ hx hle,<-A7];exact this⟩
 have hh:∀b',b'<w.heap.size->(Sort.grow (putRow id (Sort.ahead w n) b 0 FV) os).heap[b']?=(World.setBlk w b (putCells id 0 FV cs) e.T).heap[b']?:=λb' hb'=>by
  rw[heap_grow_old _ _ (by show b'<((Sort.ahead w n).heap.modify b _).size;rw[Array.size_modify];exact hb'),iJ w b FV cs _ _ hc,LG _ _ _ _ _ hlt]
 have hss:(World.setBlk w b (putCells id 0 FV cs) e.T).heap.size=w.heap.size:=by unfold World.setBlk;simp
 have hgs:w.heap.size<=(Sort.grow (putRow id (Sort.ahead w n) b 0 FV) os).heap.size:=by
  rw[size_grow];show w.heap.size<=((Sort.ahead w n).heap.modify b _).size+_;rw[Array.size_modify];exact Nat.le_add_right _ _
 have x2:BW ρ (AN F.X ρ (⟨e.k,e.g,e.T,e.sz,es'⟩::H)) (World.setBlk w b (putCells id 0 FV cs) e.T) ρ (AN F.X ρ (⟨e.k,e.g,e.T,e.sz,es'⟩::H)) (Sort.grow (putRow id (Sort.ahead w n) b 0 FV) os):=
  ⟨by rw[hss];exact hgs,λ_ _ _ h=>h,λb' hb' h=>⟨h,hh b' (by rw[hss]at hb';exact hb')⟩,λb' c T fz h=>⟨c,fz,by
   rw[hh b' (by have:=(Array.getElem?_eq_some_iff.1 h).1;rw[hss]at this;exact this)];exact h,rfl⟩⟩
 exact⟨m1.same x2 rfl rfl rfl λb' hb'=>hh b' (by rw[hss]at hb';exact hb'),x1.trans x2⟩
end
section
variable {α:Type} [Inhabited α] {enc:α->List Value} {k:Nat} {toD:α->D} {lt:α->α->Bool}
theorem Tj (hk:∀x,(enc x).length=k)(l:List α){i j:Nat}{x:α}(hi:l[i]?=some x)(hj:j<k):(flatK enc k l.toArray)[i*k+j]?=(enc x)[j]?:=by
 have hil:=(List.getElem?_eq_some_iff.1 hi).1;have hlt:i*k+j<l.toArray.size*k:=by
  rw[Jp]
  calc i*k+j<i*k+k:=by omega
   _=(i+1)*k:=by rw[Nat.succ_mul]
   _<=l.length*k:=CL _ hil
 have hd:(i*k+j)/k=i:=by rw[BT,Nat.mul_add_div (by omega),HP hj];rfl
 have hm:(i*k+j)%k=j:=by rw[BT,Nat.mul_add_mod,Di hj]
 have h1:(flatK enc k l.toArray)[i*k+j]?=some (flatK enc k l.toArray)[i*k+j]!:=by
  rw[getElem!_pos _ _ (by rw[size_flatK];exact hlt),Bn]
 have hx:l.toArray[i]! = x:=by
  rw[getElem!_pos _ _ (by rw[Jp];exact hil)];simpa using(List.getElem?_eq_some_iff.1 hi).2
 rw[h1,get_flatK _ _ _ _ hlt,hd,hm,hx,getElem!_pos _ _ (by rw[hk];exact hj)];exact(A9 _).symm
def Zq (P:Program)(f g:Nat)(enc:α->List Value)(k:Nat)(lt:α->α->Bool):Prop:=∀(blk cap:Nat) (d:Array α) (w:World),HoldsK enc k w blk 0 d->blk<w.heap.size->d.size<4611686018427387904 ->
 Calls P f #[.slice (some ⟨blk,0,none⟩) d.size cap,.func (.func g) #[] #[]] w λe w'=>e=.returned (.tuple #[])/\∃d' n os,PermIn 0 d.size d d'/\SortedIn lt 0 d.size d'/\w'=Go.Proofs.sortWorldK enc k w blk 0 n d' os
theorem kq {C:BC}{f g:Nat}(hf:JJ C.P f)(hk0:0<k)(hk:∀x,(enc x).length=k)(h1:∀x,∀v∈enc x,one v=true)(hD:∀x,(toD x).cells=(enc x).map .prim)(hc:Zq C.P f g enc k lt)
  (l:List α) (hl0:l≠[]) (hl:l.length<4611686018427387904) (kb gg T:Nat) (H:Hp) (n:Nat):
  Cd C f [.osl kb gg k 0 l.length,.clo (.func g) [] []] (⟨kb,gg,T,k,l.map toD⟩::H) n (λd H' n'=>d=.tup []/\n'=n+1/\∃l':List α,l'.Perm l/\l'.Pairwise (λa b=>lt b a=false)/\H'=⟨kb,gg,T,k,l'.map toD⟩::H):=by
 refine⟨hf,λF ρ w vs m fr gn hsz rep=>?_⟩;obtain⟨v0,v1,rfl⟩:∃v0 v1,vs = #[v0,v1]:=by
  match vs,hsz with
  |⟨[a,b]⟩,_=>exact⟨a,b,rfl⟩
 have r0:AV ρ _ w (.osl kb gg k 0 l.length) v0:=rep 0 _ rfl;have r1:AV ρ _ w (.clo (.func g) [] []) v1:=rep 1 _ rfl;obtain⟨x0,l0,hl0'⟩:∃x l0,l=x::l0:=by
  cases l with
  |nil=>exact Ad rfl hl0
  |cons a b=>exact⟨a,b,rfl⟩
 have hlp:0<l.length:=by rw[hl0'];simp
 generalize hlen:l.length=len at*;cases r1 with
 |clo hf1 hc1 _ _=>
  rename_i fs cs1;simp at hf1 hc1;subst hf1 hc1;cases r0 with
  |onil=>exact Ad hlp (Nat.lt_irrefl _)
  |osl hr hb hcl hs hmx=>
   rename_i cap b T' cs fz;have hent:∃cs,w.heap[b]?=some (.cells cs T (0,0))/\DF ρ (AN F.X ρ (⟨kb,gg,T,k,l.map toD⟩::H)) w ⟨kb,gg,T,k,l.map toD⟩ cs:=by
    rcases m.hok.ent _ CG with⟨h,h2⟩|⟨b2,cs2,a1,a2,a3⟩
    ·exact Ad (hr.symm.trans h2) (by simp)
    ·cases hr.symm.trans a1;exact⟨cs2,a2,a3⟩
   obtain⟨cs2,hb2,hok⟩:=hent;cases hb.symm.trans hb2;have hlt:b<w.heap.size:=m.lt CG hr;have hcap:len*k<=cs.size:=by rw[<-hs,BV];exact CL _ hcl
   have hH:HoldsK enc k w b 0 l.toArray:=by
    intro t ht;rw[size_flatK,Jp,hlen]at ht;have hi:t/k<l.length:=by rw[hlen];exact(Nat.div_lt_iff_lt_mul hk0).2 ht
    have hj:t%k<k:=B3 _ hk0;obtain⟨x,hx⟩:∃x,l[t/k]?=some x:=⟨l[t/k],A9 hi⟩
    have hfl:=Tj hk l hx hj;have htt:t/k*k+t%k=t:=by rw[BT];exact EY t k
    rw[htt]at hfl;obtain⟨v0,hej⟩:∃v0,(enc x)[t%k]?=some v0:=⟨_,A9 (by rw[hk];exact hj)⟩
    have hrp:=hok.rep (t/k) (toD x) (t%k) (.prim v0) (by show(l.map toD)[t/k]?=_;rw[A8,hx];rfl) (by rw[hD,A8,hej];rfl);rw[htt]at hrp;have htc:t<cs.size:=by omega
    rw[A7,Bn htc]at hrp;have hv:cs[t]=v0:=by
     generalize cs[t]=v at hrp;cases hrp;rfl
    rw[hej]at hfl;have hfb:(flatK enc k l.toArray)[t]! = v0:=by
     rw[getElem!_def,hfl]
    refine⟨?_,?_⟩
    ·show w.cell? ⟨b,0+t,none⟩=_
     rw[BV];unfold World.cell?;simp only[hb];rw[Bn htc,hv];show some _=some (id (flatK enc k l.toArray)[t]!);rw[hfb];rfl
    ·unfold World.frozen?
     simp[hb]
   have hcalls:=hc b cap l.toArray w hH hlt (by rw[Jp,hlen];exact hl);rw[Jp,hlen]at hcalls;rw[Gz];refine hcalls.mono ?_;rintro e w' ⟨rfl,d',n0,os,hp,hso,rfl⟩;have hsz':d'.size=len:=by rw[hp.1,Jp,hlen]
   have hperm:d'.toList.Perm l:=by
    have:=hp.2.2
    rw[show d'.extract 0 len=d' from by rw[<-hsz'];simp,show l.toArray.extract 0 len=l.toArray from by rw[<-hlen];simp]at this;exact this
   have hl':d'.toList.toArray=d':=by simp
   obtain⟨m2,x2⟩:=zQ (es':=d'.toList.map toD) m hr hb hok (flatK enc k d') (by rw[size_flatK,Ac,H4]) (by rw[size_flatK,hsz'];exact hcap)
    (λi d h=>by
     rw[A8]at h;obtain⟨x,-,rfl⟩:=Option.map_eq_some_iff.1 h;rw[hD,Ac,hk])
    (λt v hv=>by
     have ht:t<d'.size*k:=by have:=(Array.getElem?_eq_some_iff.1 hv).1;rwa [size_flatK]at this
     have hi:t/k<d'.toList.length:=by rw[H4];exact(Nat.div_lt_iff_lt_mul hk0).2 ht
     have hj:t%k<k:=B3 _ hk0;obtain⟨x,hx⟩:∃x,d'.toList[t/k]?=some x:=⟨_,A9 hi⟩
     have hfl:=Tj hk d'.toList hx hj;rw[show t/k*k+t%k=t from by rw[BT];exact EY t k,hl',hv]at hfl;exact h1 x v (Aw hfl.symm))
    (λi d j c h h2=>by
     rw[A8]at h;obtain⟨x,hx,rfl⟩:=Option.map_eq_some_iff.1 h;rw[hD,A8]at h2;obtain⟨v,hv,rfl⟩:=Option.map_eq_some_iff.1 h2;have hj:j<k:=by have:=(List.getElem?_eq_some_iff.1 hv).1;rwa [hk]at this
     have hfl:=Tj hk d'.toList hx hj;rw[hl',hv]at hfl;show AV _ _ _ _ ((flatK enc k d').getD (i*k+j) undef);rw[A7,hfl];exact .prim v) n0 os
   refine⟨_,_,_,_,ρ,rfl,⟨rfl,rfl,d'.toList,hperm,?_,rfl⟩,m2,x2,λa b h=>fr a b (by omega),λe he=>?_,.tup (vs:=#[]) rfl λi d hd=>by simp at hd⟩
   ·rw[List.pairwise_iff_getElem]
    intro i j hi hj hij;rw[H4]at hi hj
    have:=hso i j (BU _) hij (by rw[<-hsz'];exact hj)
    rw[getElem!_pos d' j hj,getElem!_pos d' i hi]at this;simpa using this
   ·rcases BG.1 he with rfl|he
    ·exact DJ (gn ⟨kb,gg,T,k,l.map toD⟩ CG)
    ·exact DJ (gn e (CK _ he))
end
section
variable {C:BC} {B F:Aa} {ops:Array Oper} {s:St} {rd:Option Nat} {Q:Exit->Aa->St->Prop}
theorem zA {i:Nat}{o:Oper}{l2:List Nat}{t k e:Nat}{x:Operand}{ks vs:List D}(ht:C.P.underlying t=some (.map k e))(ho:DQ ops.toList i=some o)(hg:o.guard=none)(hop:o.op=.call ⟨.builtin .len,#[x],#[t]⟩)(hx:BI s.env x=.mp ks vs)
  (h:Bf C B rd F ops l2 ⟨Bb s.env o.dst (i64 (ks.length:Nat)),s.H,s.n+1⟩ Q):Bf C B rd F ops (i::l2) s Q:=by
 refine Bf.step ho hg λρ a w hs hB=>?_
 have hrep:=DL hs.env x;rw[hx]at hrep;generalize hev:a.eval x=v at hrep;cases hrep with
 |mp hO hr hb h1 h2 hBo hk hv=>
  rename_i r clock es;refine⟨.int .i64 (ks.length:Nat),w,F,ρ,_,.inl ?_,hB,⟨hs.mem,λk g hg=>hs.fresh k g (by have:s.n+1<=g:=hg;omega),λe he=>DJ (hs.gen e he),hs.env,hs.nt,hs.dfr⟩,.prim _,h⟩;unfold execOp;simp only[hop];have hl:(Builtin.len_ #[t] o.type #[.map (some r)]).run C.P w=.ok (.int .i64 (ks.length:Nat)) w:=by
   simp[Builtin.len_,Cn ht,run_getObj_map w r es clock hb,h1,goInt]
  have hl2:∀cst,(builtin .len #[t] o.type cst #[.map (some r)]).run C.P w=.ok (.value (.int .i64 (ks.length:Nat))) w:=λcst=>by
   simp only[builtin];rw[run_bind,hl];rfl
  have hl3:∀cst,(builtin .len #[t] o.type cst (#[x].map a.eval)).run C.P w=.ok (.value (.int .i64 (ks.length:Nat))) w:=λcst=>by
   rw[show #[x].map a.eval = #[a.eval x]from by simp,hev];exact hl2 cst
  exact hl3 (#[x].map fun | .const _=>true|_=>false)
end
section
variable {C:BC} {X:EV} {kb:Nat} {ops:Array Oper} {H N:Hp} {n:Nat} {env:Ar} {acc:Prop} {K:Prop->Ar->Hp->Prop} {l:List Nat}
theorem QI {i:Nat}{o:Oper}{t kT eT:Nat}{z:Value}{x ix:Operand}{ok:Bool}{ks vs:List D}{s:ByteArray}{d d':D}(h:DQ ops.toList i=some o)(hg:o.guard=none)(hop:o.op=.lookup t x ix ok)(hxt:X.xt t=some (.map kT eT z))
  (hx:BI env x=.mp ks vs) (hix:BI env ix=.prim (.string s)) (hl:Hq s ks vs=some (some d)) (hd:H8 ok d true=d') (hk:EL C X kb ops H n l (Bb env o.dst d') N (True/\acc) K):EL C X kb ops H n (i::l) env N acc K:=by
 refine Ef h hg ?_;subst hd;rw[hop];unfold EH;dsimp only;unfold K6
 have:F8 X.tt X.xt (BI env) (.lookup t x ix ok)=some (H8 ok d true,True):=by
  simp only[F8,hxt,hx,hix,hl]
 rw[this];exact hk
end
end Go.Ide
