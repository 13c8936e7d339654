/- The layer of own lemmas and contracts, part 4. -/
import Derived.Test.YtaoojbnciofmcabGreatDoorR3
import Derived.Maps.RangeRun
import Derived.Shelf.GgSortFunc.RowK
import Derived.Shelf.GgSortFunc.InsertionK
set_option linter.unusedVariables false
set_option linter.unusedSimpArgs false
namespace Go.Ide
open Go.RowKit
section
variable {C:BA} {X:EV} {B F:Ad} {ops:Array Oper} {s:St} {rd:Option Nat} {Q:Exit->Ad->St->Prop} {L:List IP}
def mapD (l:DU):D:=.mp (l.map λp=>.prim (.string p.1)) (l.map (·.2))
def Pv (it:Nat)(d:D)(env:Ap):Ap->Prop
 | []=>True
 |(t,d')::r=>(d'=env.get t\/(env.get t=.prim (.map (some it))/\d'=d))/\Pv it d env r
theorem Pv.get {it:Nat}{d:D}{env:Ap}:∀ {env':Ap},Pv it d env env'->∀t,env'.get t=.any\/env'.get t=env.get t\/(env.get t=.prim (.map (some it))/\env'.get t=d)
 | [],_,t=>.inl rfl
 |(t0,d0)::r,h,t=>by
  simp only[Ap.get];cases hb:Nat.beq t0 t with
  |true=>
   obtain rfl:=CC hb;exact .inr h.1
  |false=>exact Pv.get h.2 t
theorem jN {c:Code}{it:Nat}{l:DU}{xo:IP}(env':Ap)(hO:DP C B F (xo::L))(hit:F.r0 xo.k xo.g=some it)(hnB:¬B.X it)(hM:Id F xo.o l)(he:Pv it (mapD l) s.env env')
  (h:∀F2,K6 F F2->DP C B F2 L->AC C B rd F2 c ⟨env',s.H,s.n⟩ Q):AC C B rd F c s Q:=by
 refine⟨λhB hd ρ a w hs=>?_⟩;have m:=hs.mem;obtain⟨it',b1,b2,b3,b4⟩:=hO.now m CF;rw[hit]at b2;cases b2
 let X2:Nat->Prop:=λb=>F.X b/\b≠it
 have hown:∀b,AN X2 ρ s.H b->AN F.X ρ s.H b:=λb hb=>hb.imp And.left id
 have x:BX ρ (AN F.X ρ s.H) w ρ (AN X2 ρ s.H) w:=⟨Ar _,λ_ _ _ h=>h,λb _ hb=>⟨λq=>hb (hown b q),rfl⟩,λ_ cs _ _ h=>⟨cs,_,h,rfl⟩⟩
 let F2:=Ad.subZ ρ s.H w F.nt X2 (λ_=>False) F.df
 have m2:Am C F2 ρ s.H w:=m.enterZ x rfl rfl rfl (λ_ _ _=>rfl) (λ_ _ _ _ h=>h) (λb hb=>Co (m.xlt b hb.1) m.size) (λe he b hb q=>(m.hok.own e he b hb).1 q.1) (λ_ h=>h.elim) _ _;have hr0:∀y∈L,F2.r0 y.k y.g=F.r0 y.k y.g:=λy hy=>by
  obtain⟨i2,a1,-⟩:=hO.at_ y (CL _ hy);rw[a1];exact m.lnk _ _ _ a1
 have hd1:=EL.1 hO.dis;have hne:∀y∈L,∀b,F.r0 y.k y.g=some b->b≠it:=λy hy b hb e=>hd1.1 y hy (by rw[hit,hb,e])
 have hnow:Mx ρ (AN F.X ρ s.H) w F2:=by
  have hx:∀b,F2.X b\/F2.Wr b->AN F.X ρ s.H b:=λb hb=>by
   rcases hb with hb|hb|hb
   ·exact .inl hb.1
   ·exact .inr hb
   ·exact hb.elim
  exact⟨λd v h=>AW.anti h hx,λb o h1 h2=>⟨h1,λq=>h2 (hx b q)⟩⟩
 have hbm:=hO.bm m;have hreb:Iv B F2 (JY F2 L):=hO.reb.now m rfl rfl rfl (Ar _) (λ_ _ _=>rfl) (hO.cellF m) (λ_ _ _ h=>h) (λ_ _ _ h=>h) (λb hb=>⟨hO.reb.X b hb,λe=>hnB (e ▸ hb)⟩) λb ⟨y,hy,hb⟩=>.inl ⟨y,CL _ hy,by rw[<-hr0 y hy];exact hb⟩
 have hobs:DP C B F2 L:=by
  refine⟨λy hy=>?_,λy hy=>hO.nc y (CL _ hy),hd1.2.imp_of_mem λ{y z} hy hz h=>by rw[hr0 y hy,hr0 z hz];exact h,hreb,λ_=>hbm,hO.df⟩;obtain⟨i2,a1,a2,a3,a4,a5⟩:=hO.at_ y (CL _ hy);refine⟨i2,(hr0 y hy).trans a1,⟨a2,hne y hy i2 a1⟩,λh=>?_,(m.blk i2 (m.xlt i2 a2) a3).trans a4,a5⟩;rcases h with⟨e,he,h⟩|h
  ·exact(m.hok.own e he i2 h).1 a2
  ·exact h
 have hF2:DG C B F2:=hreb.fle hbm (λb ⟨y,hy,hb⟩=>by
  rw[hr0 y hy]at hb;exact hO.ng b ⟨y,CL _ hy,hb⟩) hB.nt hO.df
 refine(h F2 (hnow.to m λ_ _ _ h=>h) hobs).out hF2 hd ρ a w ⟨m2,hs.fresh,hs.gen,λt=>?_,hs.nt,hs.dfr⟩;have ht:=hs.env t;show AW ρ (AN X2 ρ s.H) w (env'.get t) _;rcases he.get t with q|q|⟨q1,q2⟩
 ·rw[q];exact .any _
 ·rw[q];exact AW.anti ht hown
 ·rw[q2]
  rw[q1]at ht;generalize a.tmps.getD t undef=v at ht;cases ht;obtain⟨es,clock,c1,c2,c3,c5⟩:=hM;rw[c1]at b4;have hlt:it<w.heap.size:=(DB.1 b4).1;refine .mp (λq=>?_) hlt b4 (by simpa using c2) (by simpa using c2) c3 (λi d hd=>?_) λi d hd=>?_
  ·rcases q with q|⟨e,he,q⟩
   ·exact q.2 rfl
   ·exact(m.hok.own e he it q).1 b3
  ·rw[Ay]at hd
   obtain⟨p,hp,rfl⟩:=E4.1 hd;rw[(c5 i p hp).1];exact .prim _
  ·rw[Ay]at hd
   obtain⟨p,hp,rfl⟩:=E4.1 hd;exact AW.anti ((c5 i p hp).2.now m) hown
def OI (F:Ad)(o:Obj)(ks vs:List D)(dn:List Nat):Prop:=∃bm es clock since c0 seen,o=.mapIter (some bm) since seen c0/\F.w0.heap[bm]?=some (.map es clock)/\¬(F.X bm\/F.Wr bm)/\es.size=ks.length/\es.size=vs.length/\KS es clock /\
 (∀(i:Nat) (d:D),ks[i]?=some d->Jt F d (es.getD i default).key)/\(∀(i:Nat) (d:D),vs[i]?=some d->Jt F d (es.getD i default).val) /\
 (∀(i:Nat) (e:MapEntry),es[i]?=some e->e.born<since)/\since<=c0/\c0=clock/\seen.toList=dn.map (λi=>(es.getD i default).born)/\dn.Nodup/\∀i∈dn,i<es.size
theorem e0T {i:Nat}{o:Oper}{l2:List Nat}{t k e:Nat}{x:Operand}{ks vs:List D}(kb:Nat)(ht:C.P.underlying t=some (.map k e))(ho:Dl ops.toList i=some o)(hg:o.guard=none)(hop:o.op=.range t x)(hx:BG s.env x=.mp ks vs)(hO:DP C B F L)
  (h:∀F2 o2,K6 F F2->DP C B F2 (⟨kb,s.n,o2⟩::L)->OI F2 o2 ks vs []->Bk C B rd F2 ops l2 ⟨Bh s.env o.dst (.optr kb s.n 0 0 0),s.H,s.n+1⟩ Q):Bk C B rd F ops (i::l2) s Q:=by
 refine Bk.step ho hg λρ a w hs hB=>?_
 have hrep:=Dh hs.env x;rw[hx]at hrep;generalize hev:a.eval x=v at hrep;cases hrep with
 |mp hO' hr hb h1 h2 hBo hk hv=>
  rename_i r clock es;obtain⟨F2,ρ2,hB2,-,hto,hO2,hs2,hlk,hr0,-,hnow⟩:=hO.alloc hB hs kb (.mapIter (some r) clock #[] clock) (by simp);obtain⟨q1,q2⟩:=hnow.blk r _ hb hO';refine⟨_,_,F2,ρ2,.optr kb s.n 0 0 0,.inl ?_,hB2,hs2,.optr hlk,h F2 _ hto hO2 ⟨r,es,clock,clock,clock,#[],rfl,q1,q2,h1,h2,hBo,λi d hd=>hnow.rep _ _ (hk i d hd),λi d hd=>hnow.rep _ _ (hv i d hd),hBo.1,Ar _,rfl,rfl,.nil,by simp⟩⟩;unfold execOp;simp only[hop];rw[run_bind,hev,run_range_map w t k e r es clock ht hb];simp
theorem Br.drew {ρ:Lk}{a:Act}{w:World}(hs:Br C F ρ s a w):Br C F ρ s a w.drew:=⟨hs.mem.drew,hs.fresh,hs.gen,λt=>(hs.env t).mono (.drew _ _ _),hs.nt,hs.dfr⟩
theorem e0S {i:Nat}{o:Oper}{l2:List Nat}{x:Operand}{ks vs:List D}{xo:IP}{dn:List Nat}(ho:Dl ops.toList i=some o)(hg:o.guard=none)(hop:o.op=.next x false)(hx:BG s.env x=.optr xo.k xo.g 0 0 0)(hO:DP C B F (xo::L))(hI:OI F xo.o ks vs dn)
  (h1:(∀j,j<ks.length->j∈dn)->Bk C B rd F ops l2 ⟨Bh s.env o.dst (.tup [Al false]),s.H,s.n+1⟩ Q)
  (h2:∀j kd vd F2 o2,j∉dn->ks[j]?=some kd->vs[j]?=some vd->K6 F F2->DP C B F2 (⟨xo.k,xo.g,o2⟩::L)->OI F2 o2 ks vs (dn++[j])->Bk C B rd F2 ops l2 ⟨Bh s.env o.dst (.tup [Al true,kd,vd]),s.H,s.n+1⟩ Q):
  Bk C B rd F ops (i::l2) s Q:=by
 refine Bk.step ho hg λρ a w hs hB=>?_
 have m:=hs.mem;obtain⟨it,b1,b2,b3,b4⟩:=hO.now m CF;obtain⟨bm,es,clock,since,c0,seen,e1,e2,e3,e4,e5,e6,e7,e8,e9,e10,e11,e12,e13,e14⟩:=hI;subst e11;rw[e1]at b4;have hlt0:bm<F.w0.heap.size:=(DB.1 e2).1;have hbm:w.heap[bm]?=some (.map es c0):=(m.blk bm hlt0 λq=>e3 (.inr q)).trans e2;have hxv:a.eval x=.pointer (some ⟨it,0,none⟩):=by
  have:=Dh hs.env x
  rw[hx]at this;generalize a.eval x=v at this;cases this with
  |optr hr=>rw[b1]at hr;cases hr;rfl
 have sat:∀w',Br C F ρ s a w'->Br C F ρ ⟨s.env,s.H,s.n+1⟩ a w':=λw' hs=>⟨hs.mem,λk g hg=>hs.fresh k g (by have:s.n+1<=g:=hg;omega),λe he=>Dd (hs.gen e he),hs.env,hs.nt,hs.dfr⟩
 have hmem:∀e:MapEntry,e∈es.toList->∃j,es[j]?=some e:=λe he=>by
  obtain⟨j,hj⟩:=L3.1 he;exact⟨j,by simpa using hj⟩
 have hseen:∀b:Nat,seen.contains b=true↔∃j∈dn,(es.getD j default).born=b:=λb=>by
  rw[<-Array.contains_toList,e12,List.contains_iff_mem,Bx]
 rcases run_next_at (P:=C.P) w o.type it bm since c0 seen es c0 b4 hbm (λe he=>by obtain⟨j,hj⟩:=hmem e he;exact e9 j e hj) e10 with⟨q1,q2⟩|⟨e,he,w1,hw1,q2⟩
 ·refine⟨_,w,F,ρ,_,.inl ?_,hB,sat w hs,.tup (vs:=#[.bool false]) rfl λi d hd=>?_,h1 λj hj=>?_⟩
  ·unfold execOp
   simp only[hop];rw[run_bind,hxv,q2];rfl
  ·match i with
   | 0=>simp at hd;subst hd;exact .prim _
   |n+1=>simp at hd
  ·rw[<-e4]at hj
   obtain⟨ej,hej⟩:∃ej,es[j]?=some ej:=⟨es[j],B3 hj⟩
   have hc:seen.contains ej.born=true:=by
    apply DH;intro hn;have hn:seen.contains ej.born=false:=by simpa using hn
    have:ej∈leftOf es seen:=by
     unfold leftOf;rw[Array.mem_filter];exact⟨Io hej,by rw[hn];rfl⟩
    have:=Array.size_pos_of_mem this
    omega
   obtain⟨j',hj',hb'⟩:=(hseen _).1 hc;have hlt:=e14 j' hj'
   have:j=j':=e6.2 j j' ej (es.getD j' default) hej (by rw[Av,B3 hlt];rfl) hb'.symm
   rw[this];exact hj'
 ·have hel:e∈es/\seen.contains e.born=false:=by
   have:e∈leftOf es seen:=IH.1 he
   unfold leftOf at this;rw[Array.mem_filter]at this;exact⟨this.1,by simpa using this.2⟩
  obtain⟨j,hj⟩:=hmem e (IH.2 hel.1);have hjl:j<es.size:=(DB.1 hj).1;have hgd:es.getD j default=e:=by rw[Av,hj];rfl
  have hjn:j∉dn:=λq=>by
   have:=(hseen e.born).2 ⟨j,q,by rw[hgd]⟩
   rw[hel.2]at this;cases this
  obtain⟨kd,hkd⟩:∃kd,ks[j]?=some kd:=⟨ks[j]'(by omega),Bs _⟩
  obtain⟨vd,hvd⟩:∃vd,vs[j]?=some vd:=⟨vs[j]'(by omega),Bs _⟩
  have hs1:Br C F ρ s a w1:=by
   rcases hw1 with rfl|rfl
   ·exact hs
   ·exact hs.drew
  obtain⟨F2,hB2,-,hto,hO2,hs2,hr0,-⟩:=hO.turn (o':=.mapIter (some bm) since (seen.push e.born) c0) hB hs1 (by simp) b2;obtain⟨p1,p2⟩:=hto.blk _ _ e2 e3;have hit2:OI F2 (.mapIter (some bm) since (seen.push e.born) c0) ks vs (dn++[j]):=⟨bm,es,c0,since,c0,seen.push e.born,rfl,p1,p2,e4,e5,e6,λi d hd=>hto.rep _ _ (e7 i d hd),λi d hd=>hto.rep _ _ (e8 i d hd),e9,e10,rfl,by
   rw[Array.toList_push,e12,Cz];simp only[Cx,List.map_nil];rw[hgd],by
   rw[EM];exact⟨e13,by simp,λx hx y hy=>by
    rw[EJ]at hy;subst hy;exact λq=>hjn (q ▸ hx)⟩,λi hi=>by
   rcases Bp.1 hi with hi|hi
   ·exact e14 i hi
   ·rw[EJ]at hi;subst hi;exact hjl⟩
  have hk:=(hto.rep _ _ (e7 j kd hkd)).now hs2.mem;have hv:=(hto.rep _ _ (e8 j vd hvd)).now hs2.mem;rw[hgd]at hk hv;refine⟨_,_,F2,ρ,_,.inl ?_,hB2,hs2,.tup (vs:=#[.bool true,e.key,e.val]) rfl λi d hd=>?_,h2 j kd vd F2 _ hjn hkd hvd hto hO2 hit2⟩
  ·unfold execOp
   simp only[hop];rw[run_bind,hxv,q2];rfl
  ·match i with
   | 0=>simp at hd;subst hd;exact .prim _
   | 1=>simp at hd;subst hd;exact hk
   | 2=>simp at hd;subst hd;exact hv
   |n+3=>simp at hd
theorem KS.nodup {es:Array MapEntry}{clock:Nat}(h:KS es clock):(es.toList.map (·.born)).Nodup:=by
 rw[List.nodup_iff_pairwise_ne,List.pairwise_map,List.pairwise_iff_getElem];intro i j hi hj hij hb
 have:=h.2 i j es.toList[i] es.toList[j] (by simp at hi;simp[hi]) (by simp at hj;simp[hj]) hb
 omega
theorem e0Q {i:Nat}{o:Oper}{l2:List Nat}{x:Operand}{ks vs:List D}{xo:IP}{dn:List Nat}{j:Nat}{kd vd:D}(ho:Dl ops.toList i=some o)(hg:o.guard=none)(hop:o.op=.entry x)(hx:BG s.env x=.optr xo.k xo.g 0 0 0)(hO:DP C B F L)(hm:xo∈L)(hI:OI F xo.o ks vs (dn++[j]))
  (hk:ks[j]?=some kd) (hv:vs[j]?=some vd) (h:Bk C B rd F ops l2 ⟨Bh s.env o.dst (.tup [kd,vd]),s.H,s.n+1⟩ Q):Bk C B rd F ops (i::l2) s Q:=by
 refine Bk.step ho hg λρ a w hs hB=>?_
 have m:=hs.mem;obtain⟨it,b1,b2,b3,b4⟩:=hO.now m hm;obtain⟨bm,es,clock,since,c0,seen,e1,e2,e3,e4,e5,e6,e7,e8,e9,e10,e11,e12,e13,e14⟩:=hI;subst e11;rw[e1]at b4;have hlt0:bm<F.w0.heap.size:=(DB.1 e2).1;have hbm:w.heap[bm]?=some (.map es c0):=(m.blk bm hlt0 λq=>e3 (.inr q)).trans e2;have hxv:a.eval x=.pointer (some ⟨it,0,none⟩):=by
  have:=Dh hs.env x
  rw[hx]at this;generalize a.eval x=v at this;cases this with
  |optr hr=>rw[b1]at hr;cases hr;rfl
 have hjl:=e14 j (by simp);obtain⟨e,he⟩:∃e,es[j]?=some e:=⟨es[j],B3 hjl⟩
 have hgd:es.getD j default=e:=by rw[Av,he];rfl
 have hpush:seen=((dn.map λi=>(es.getD i default).born).toArray).push e.born:=by
  apply Array.toList_inj.1;rw[e12,Array.toList_push,Cz];simp only[Cx,List.map_nil];rw[hgd]
 rw[hpush]at b4;have hk':=(e7 j kd hk).now m;have hv':=(e8 j vd hv).now m;rw[hgd]at hk' hv';refine⟨_,w,F,ρ,_,.inl ?_,hB,⟨hs.mem,λk g hg=>hs.fresh k g (by have:s.n+1<=g:=hg;omega),λe he=>Dd (hs.gen e he),hs.env,hs.nt,hs.dfr⟩,.tup (vs:=#[e.key,e.val]) rfl λi d hd=>?_,h⟩
 ·unfold execOp
  simp only[hop];rw[run_bind,hxv,run_entry_at w it bm since _ es c0 e b4 hbm (IH.2 (Io he)) e6.nodup];rfl
 ·match i with
  | 0=>simp at hd;subst hd;exact hk'
  | 1=>simp at hd;subst hd;exact hv'
  |n+2=>simp at hd
end
open Go.Sort
section
variable {C:BA} {F:Ad} {ρ:Lk} {H:Hp} {w:World}
theorem jz (w:World)(b:Nat)(FV cs:Array Value)(T:Nat)(fz:Nat×Nat)(hc:w.heap[b]?=some (.cells cs T fz))(n b':Nat):
  (putRow id (Sort.ahead w n) b 0 FV).heap[b']?=if b'=b then some (.cells (putCells id 0 FV cs) T fz)else w.heap[b']?:=by
 show((Sort.ahead w n).heap.modify b _)[b']?=_;rw[Array.getElem?_modify]
 by_cases h:b'=b
 ·subst h
  rw[AI rfl,AI rfl];show Option.map _ w.heap[b']?=_;rw[hc];rfl
 ·rw[AH (λq=>h q.symm),AH h];rfl
theorem XX (FV cs:Array Value)(i:Nat)(hi:i<FV.size)(hle:FV.size<=cs.size):(putCells id 0 FV cs)[i]?=FV[i]?:=by
 have h1:i<cs.size:=by omega
 unfold putCells;rw[Array.getElem?_mapIdx,B3 h1,B3 hi];simp[hi]
theorem jk (FV cs:Array Value)(i:Nat)(hi:FV.size<=i):(putCells id 0 FV cs)[i]?=cs[i]?:=by
 unfold putCells;rw[Array.getElem?_mapIdx]
 have:¬i<FV.size:=by omega
 simp[this]
theorem e0B {e:At}{b:Nat}{cs:Array Value}(m:Am C F ρ (e::H) w)(hb:ρ e.k e.g=some b)(hc:w.heap[b]?=some (.cells cs e.T (0,0)))(hok:DX ρ (AN F.X ρ (e::H)) w e cs)(FV:Array Value)(es':List D)(hsz:FV.size=es'.length*e.sz)(hle:FV.size<=cs.size)
  (hsiz:∀(i:Nat) (d:D),es'[i]?=some d->d.cells.length=e.sz) (hone:∀(i:Nat) (v:Value),FV[i]?=some v->one v=true)
  (hval:∀(i:Nat) (d:D) (j:Nat) (c:D),es'[i]?=some d->d.cells[j]?=some c->AW ρ (AN F.X ρ (e::H)) w c (FV.getD (i*e.sz+j) undef)) (n:Nat) (os:Array Obj):
  Am C F ρ (⟨e.k,e.g,e.T,e.sz,es'⟩::H) (Sort.grow (putRow id (Sort.ahead w n) b 0 FV) os) /\
  BX ρ (AN F.X ρ (e::H)) w ρ (AN F.X ρ (⟨e.k,e.g,e.T,e.sz,es'⟩::H)) (Sort.grow (putRow id (Sort.ahead w n) b 0 FV) os):=by
 have hlt:b<w.heap.size:=m.lt CF hb;have hps:(putCells id 0 FV cs).size=cs.size:=by unfold putCells;simp
 obtain⟨m1,x1⟩:=Am.write (H1:=[]) (e':=⟨e.k,e.g,e.T,e.sz,es'⟩) (cs':=putCells id 0 FV cs) m hb hc rfl rfl rfl hps ⟨by rw[hps];exact hsz ▸ hle,hsiz,λi v hv=>by
   rcases BE i FV.size with h|h
   ·rw[XX _ _ _ h hle]at hv;exact hone i v hv
   ·rw[jk _ _ _ h]at hv;exact hok.one i v hv,λi d j c h1 h2=>by
   have hi:i<es'.length:=(BS.1 h1).1;have hj:j<e.sz:=by
    have:=(BS.1 h2).1
    rw[hsiz i d h1]at this;exact this
   have hx:i*e.sz+j<FV.size:=by
    rw[hsz]
    calc i*e.sz+j<i*e.sz+e.sz:=by omega
     _=(i+1)*e.sz:=by rw[Nat.succ_mul]
     _<=es'.length*e.sz:=CV _ hi
   have:=hval i d j c h1 h2
   rw[Av,XX _ _ _ hx hle,<-Av];exact this⟩
 have hh:∀b',b'<w.heap.size->(Sort.grow (putRow id (Sort.ahead w n) b 0 FV) os).heap[b']?=(World.setBlk w b (putCells id 0 FV cs) e.T).heap[b']?:=λb' hb'=>by
  rw[heap_grow_old _ _ (by show b'<((Sort.ahead w n).heap.modify b _).size;rw[Array.size_modify];exact hb'),jz w b FV cs _ _ hc,ML _ _ _ _ _ hlt]
 have hss:(World.setBlk w b (putCells id 0 FV cs) e.T).heap.size=w.heap.size:=by unfold World.setBlk;simp
 have hgs:w.heap.size<=(Sort.grow (putRow id (Sort.ahead w n) b 0 FV) os).heap.size:=by
  rw[size_grow];show w.heap.size<=((Sort.ahead w n).heap.modify b _).size+_;rw[Array.size_modify];exact Nat.le_add_right _ _
 have x2:BX ρ (AN F.X ρ (⟨e.k,e.g,e.T,e.sz,es'⟩::H)) (World.setBlk w b (putCells id 0 FV cs) e.T) ρ (AN F.X ρ (⟨e.k,e.g,e.T,e.sz,es'⟩::H)) (Sort.grow (putRow id (Sort.ahead w n) b 0 FV) os):=
  ⟨by rw[hss];exact hgs,λ_ _ _ h=>h,λb' hb' h=>⟨h,hh b' (by rw[hss]at hb';exact hb')⟩,λb' c T fz h=>⟨c,fz,by
   rw[hh b' (by have:=(DB.1 h).1;rw[hss]at this;exact this)];exact h,rfl⟩⟩
 exact⟨m1.same x2 rfl rfl rfl λb' hb'=>hh b' (by rw[hss]at hb';exact hb'),x1.trans x2⟩
end
section
variable {α:Type} [Inhabited α] {enc:α->List Value} {k:Nat} {toD:α->D} {lt:α->α->Bool}
theorem Ug (hk:∀x,(enc x).length=k)(l:List α){i j:Nat}{x:α}(hi:l[i]?=some x)(hj:j<k):(flatK enc k l.toArray)[i*k+j]?=(enc x)[j]?:=by
 have hil:=(BS.1 hi).1;have hlt:i*k+j<l.toArray.size*k:=by
  rw[Kp]
  calc i*k+j<i*k+k:=by omega
   _=(i+1)*k:=by rw[Nat.succ_mul]
   _<=l.length*k:=CV _ hil
 have hd:(i*k+j)/k=i:=by rw[Ba,Nat.mul_add_div (by omega),IL hj];rfl
 have hm:(i*k+j)%k=j:=by rw[Ba,Nat.mul_add_mod,Ft hj]
 have h1:(flatK enc k l.toArray)[i*k+j]?=some (flatK enc k l.toArray)[i*k+j]!:=by
  rw[getElem!_pos _ _ (by rw[size_flatK];exact hlt),B3]
 have hx:l.toArray[i]! = x:=by
  rw[getElem!_pos _ _ (by rw[Kp];exact hil)];simpa using(BS.1 hi).2
 rw[h1,get_flatK _ _ _ _ hlt,hd,hm,hx,getElem!_pos _ _ (by rw[hk];exact hj)];exact(Bs _).symm
def bJ (P:Program)(f g:Nat)(enc:α->List Value)(k:Nat)(lt:α->α->Bool):Prop:=∀(blk cap:Nat) (d:Array α) (w:World),HoldsK enc k w blk 0 d->blk<w.heap.size->d.size<4611686018427387904 ->
 Calls P f #[.slice (some ⟨blk,0,none⟩) d.size cap,.func (.func g) #[] #[]] w λe w'=>e=.returned (.tuple #[])/\∃d' n os,PermIn 0 d.size d d'/\SortedIn lt 0 d.size d'/\w'=Go.Proofs.sortWorldK enc k w blk 0 n d' os
theorem nB {C:BA}{f g:Nat}(hf:KA C.P f)(hk0:0<k)(hk:∀x,(enc x).length=k)(h1:∀x,∀v∈enc x,one v=true)(hD:∀x,(toD x).cells=(enc x).map .prim)(hc:bJ C.P f g enc k lt)
  (l:List α) (hl0:l≠[]) (hl:l.length<4611686018427387904) (kb gg T:Nat) (H:Hp) (n:Nat):
  CX C f [.osl kb gg k 0 l.length,.clo (.func g) [] []] (⟨kb,gg,T,k,l.map toD⟩::H) n (λd H' n'=>d=.tup []/\n'=n+1/\∃l':List α,l'.Perm l/\l'.Pairwise (λa b=>lt b a=false)/\H'=⟨kb,gg,T,k,l'.map toD⟩::H):=by
 refine⟨hf,λF ρ w vs m fr gn hsz rep=>?_⟩;obtain⟨v0,v1,rfl⟩:∃v0 v1,vs = #[v0,v1]:=by
  match vs,hsz with
  |⟨[a,b]⟩,_=>exact⟨a,b,rfl⟩
 have r0:AW ρ _ w (.osl kb gg k 0 l.length) v0:=rep 0 _ rfl;have r1:AW ρ _ w (.clo (.func g) [] []) v1:=rep 1 _ rfl;obtain⟨x0,l0,hl0'⟩:∃x l0,l=x::l0:=by
  cases l with
  |nil=>exact Ak rfl hl0
  |cons a b=>exact⟨a,b,rfl⟩
 have hlp:0<l.length:=by rw[hl0'];simp
 generalize hlen:l.length=len at*;cases r1 with
 |clo hf1 hc1 _ _=>
  rename_i fs cs1;simp at hf1 hc1;subst hf1 hc1;cases r0 with
  |onil=>exact Ak hlp (Nat.lt_irrefl _)
  |osl hr hb hcl hs hmx=>
   rename_i cap b T' cs fz;have hent:∃cs,w.heap[b]?=some (.cells cs T (0,0))/\DX ρ (AN F.X ρ (⟨kb,gg,T,k,l.map toD⟩::H)) w ⟨kb,gg,T,k,l.map toD⟩ cs:=by
    rcases m.hok.ent _ CF with⟨h,h2⟩|⟨b2,cs2,a1,a2,a3⟩
    ·exact Ak (hr.symm.trans h2) (by simp)
    ·cases hr.symm.trans a1;exact⟨cs2,a2,a3⟩
   obtain⟨cs2,hb2,hok⟩:=hent;cases hb.symm.trans hb2;have hlt:b<w.heap.size:=m.lt CF hr;have hcap:len*k<=cs.size:=by rw[<-hs,BV];exact CV _ hcl
   have hH:HoldsK enc k w b 0 l.toArray:=by
    intro t ht;rw[size_flatK,Kp,hlen]at ht;have hi:t/k<l.length:=by rw[hlen];exact(Nat.div_lt_iff_lt_mul hk0).2 ht
    have hj:t%k<k:=B7 _ hk0;obtain⟨x,hx⟩:∃x,l[t/k]?=some x:=⟨l[t/k],Bs hi⟩
    have hfl:=Ug hk l hx hj;have htt:t/k*k+t%k=t:=by rw[Ba];exact FF t k
    rw[htt]at hfl;obtain⟨v0,hej⟩:∃v0,(enc x)[t%k]?=some v0:=⟨_,Bs (by rw[hk];exact hj)⟩
    have hrp:=hok.rep (t/k) (toD x) (t%k) (.prim v0) (by show(l.map toD)[t/k]?=_;rw[Ay,hx];rfl) (by rw[hD,Ay,hej];rfl);rw[htt]at hrp;have htc:t<cs.size:=by omega
    rw[Av,B3 htc]at hrp;have hv:cs[t]=v0:=by
     generalize cs[t]=v at hrp;cases hrp;rfl
    rw[hej]at hfl;have hfb:(flatK enc k l.toArray)[t]! = v0:=by
     rw[getElem!_def,hfl]
    refine⟨?_,?_⟩
    ·show w.cell? ⟨b,0+t,none⟩=_
     rw[BV];unfold World.cell?;simp only[hb];rw[B3 htc,hv];show some _=some (id (flatK enc k l.toArray)[t]!);rw[hfb];rfl
    ·unfold World.frozen?
     simp[hb]
   have hcalls:=hc b cap l.toArray w hH hlt (by rw[Kp,hlen];exact hl);rw[Kp,hlen]at hcalls;rw[Hq];refine hcalls.mono ?_;rintro e w' ⟨rfl,d',n0,os,hp,hso,rfl⟩;have hsz':d'.size=len:=by rw[hp.1,Kp,hlen]
   have hperm:d'.toList.Perm l:=by
    have:=hp.2.2
    rw[show d'.extract 0 len=d' from by rw[<-hsz'];simp,show l.toArray.extract 0 len=l.toArray from by rw[<-hlen];simp]at this;exact this
   have hl':d'.toList.toArray=d':=by simp
   obtain⟨m2,x2⟩:=e0B (es':=d'.toList.map toD) m hr hb hok (flatK enc k d') (by rw[size_flatK,Ab,Ip]) (by rw[size_flatK,hsz'];exact hcap)
    (λi d h=>by
     rw[Ay]at h;obtain⟨x,-,rfl⟩:=E4.1 h;rw[hD,Ab,hk])
    (λt v hv=>by
     have ht:t<d'.size*k:=by have:=(DB.1 hv).1;rwa [size_flatK]at this
     have hi:t/k<d'.toList.length:=by rw[Ip];exact(Nat.div_lt_iff_lt_mul hk0).2 ht
     have hj:t%k<k:=B7 _ hk0;obtain⟨x,hx⟩:∃x,d'.toList[t/k]?=some x:=⟨_,Bs hi⟩
     have hfl:=Ug hk d'.toList hx hj;rw[show t/k*k+t%k=t from by rw[Ba];exact FF t k,hl',hv]at hfl;exact h1 x v (Ax hfl.symm))
    (λi d j c h h2=>by
     rw[Ay]at h;obtain⟨x,hx,rfl⟩:=E4.1 h;rw[hD,Ay]at h2;obtain⟨v,hv,rfl⟩:=E4.1 h2;have hj:j<k:=by have:=(BS.1 hv).1;rwa [hk]at this
     have hfl:=Ug hk d'.toList hx hj;rw[hl',hv]at hfl;show AW _ _ _ _ ((flatK enc k d').getD (i*k+j) undef);rw[Av,hfl];exact .prim v) n0 os
   refine⟨_,_,_,_,ρ,rfl,⟨rfl,rfl,d'.toList,hperm,?_,rfl⟩,m2,x2,λa b h=>fr a b (by omega),λe he=>?_,.tup (vs:=#[]) rfl λi d hd=>by simp at hd⟩
   ·rw[List.pairwise_iff_getElem]
    intro i j hi hj hij;rw[Ip]at hi hj
    have:=hso i j (BW _) hij (by rw[<-hsz'];exact hj)
    rw[getElem!_pos d' j hj,getElem!_pos d' i hi]at this;simpa using this
   ·rcases A8.1 he with rfl|he
    ·exact Dd (gn ⟨kb,gg,T,k,l.map toD⟩ CF)
    ·exact Dd (gn e (CL _ he))
end
section
variable {C:BA} {B F:Ad} {ops:Array Oper} {s:St} {rd:Option Nat} {Q:Exit->Ad->St->Prop}
theorem e0R {i:Nat}{o:Oper}{l2:List Nat}{t k e:Nat}{x:Operand}{ks vs:List D}(ht:C.P.underlying t=some (.map k e))(ho:Dl ops.toList i=some o)(hg:o.guard=none)(hop:o.op=.call ⟨.builtin .len,#[x],#[t]⟩)(hx:BG s.env x=.mp ks vs)
  (h:Bk C B rd F ops l2 ⟨Bh s.env o.dst (i64 (ks.length:Nat)),s.H,s.n+1⟩ Q):Bk C B rd F ops (i::l2) s Q:=by
 refine Bk.step ho hg λρ a w hs hB=>?_
 have hrep:=Dh hs.env x;rw[hx]at hrep;generalize hev:a.eval x=v at hrep;cases hrep with
 |mp hO hr hb h1 h2 hBo hk hv=>
  rename_i r clock es;refine⟨.int .i64 (ks.length:Nat),w,F,ρ,_,.inl ?_,hB,⟨hs.mem,λk g hg=>hs.fresh k g (by have:s.n+1<=g:=hg;omega),λe he=>Dd (hs.gen e he),hs.env,hs.nt,hs.dfr⟩,.prim _,h⟩;unfold execOp;simp only[hop];have hl:(Builtin.len_ #[t] o.type #[.map (some r)]).run C.P w=.ok (.int .i64 (ks.length:Nat)) w:=by
   simp[Builtin.len_,C6 ht,run_getObj_map w r es clock hb,h1,goInt]
  have hl2:∀cst,(builtin .len #[t] o.type cst #[.map (some r)]).run C.P w=.ok (.value (.int .i64 (ks.length:Nat))) w:=λcst=>by
   simp only[builtin];rw[run_bind,hl];rfl
  have hl3:∀cst,(builtin .len #[t] o.type cst (#[x].map a.eval)).run C.P w=.ok (.value (.int .i64 (ks.length:Nat))) w:=λcst=>by
   rw[show #[x].map a.eval = #[a.eval x]from by simp,hev];exact hl2 cst
  exact hl3 (#[x].map fun | .const _=>true|_=>false)
end
section
variable {C:BA} {X:EV} {kb:Nat} {ops:Array Oper} {H N:Hp} {n:Nat} {env:Ap} {acc:Prop} {K:Prop->Ap->Hp->Prop} {l:List Nat}
theorem Q4 {i:Nat}{o:Oper}{t kT eT:Nat}{z:Value}{x ix:Operand}{ok:Bool}{ks vs:List D}{s:ByteArray}{d d':D}(h:Dl ops.toList i=some o)(hg:o.guard=none)(hop:o.op=.lookup t x ix ok)(hxt:X.xt t=some (.map kT eT z))
  (hx:BG env x=.mp ks vs) (hix:BG env ix=.prim (.string s)) (hl:Ig s ks vs=some (some d)) (hd:Iu ok d true=d') (hk:Em C X kb ops H n l (Bh env o.dst d') N (True/\acc) K):Em C X kb ops H n (i::l) env N acc K:=by
 refine FL h hg ?_;subst hd;rw[hop];unfold Ek;dsimp only;unfold MA
 have:Gs X.tt X.xt (BG env) (.lookup t x ix ok)=some (Iu ok d true,True):=by
  simp only[Gs,hxt,hx,hix,hl]
 rw[this];exact hk
end
end Go.Ide
