/- The layer of own lemmas and contracts, part 3. -/
import Derived.Test.YtmpdcldckjeklacGreatDoorAE2
import Derived.Maps.RangeRun
import Derived.RangeFuncRecord
import Derived.Lib.AppendZerosOnto
set_option linter.unusedVariables false
set_option linter.unusedSimpArgs false
namespace Go.Ide
open Go.RowKit
abbrev HA (k:ByteArray)(d:D):D:=.agg [.prim (.string k),d]
def HM (key:ByteArray):List D->Option (Option D)
 | []=>some none
 | .agg [.prim (.string k),d]::l=>match BL key k with
  |true=>some (some d)
  |false=>HM key l
 |_=>none
def Jg (key:ByteArray)(d:D):List D->Option (List D)
 | []=>some [HA key d]
 | .agg [.prim (.string k),d0]::l=>match BL key k with
  |true=>some (HA key d::l)
  |false=>match Jg key d l with
   |some r=>some (HA k d0::r)
   |none=>none
 |_=>none
section
variable {C:AZ} {F:AI} {ρ:Lk} {O:Nat->Prop} {w:World} {H:Hp} {s:St} {ops:Array Oper} {o:Oper} {os:List Oper} {K:St->Prop}
theorem RW {key k:ByteArray}:Instr.sameNow .string (.string key) (.string k)=some (BL key k):=by
 show some (key==k)=_;rw[OD]
theorem Oe {key:ByteArray}:∀(l:List D) (mes:List MapEntry) (i:Nat) (r:Option D),mes.length=l.length ->
  (∀(j:Nat) (d c:D),l[j]?=some d->d.cells[0]?=some c->AG ρ O w c (mes.getD j default).key)->HM key l=some r ->
  (r=none/\Instr.findNow .string (.string key) mes i=some none) \/
  ∃j d k,l[j]?=some (HA k d)/\r=some d/\Instr.findNow .string (.string key) mes i=some (some (i+j,(mes.getD j default).val))
 | [],[],i,r,_,_,h=>by
  simp only[HM,Af]at h;subst h;exact .inl ⟨rfl,rfl⟩
 |d::l,e::mes,i,r,hl,hk,h=>by
  have h3:Instr.findNow .string (.string key) (e::mes) i=(match Instr.sameNow .string (.string key) e.key with
    |some true=>some (some (i,e.val))|some false=>Instr.findNow .string (.string key) mes (i+1)|none=>none):=rfl
  unfold HM at h;split at h<;>try(cases h;done)
  ·rename_i heq;cases heq
  ·rename_i k d0 l' heq
   cases heq;have h0:e.key=.string k:=by
    have:=hk 0 _ (.prim (.string k)) rfl rfl
    have:AG ρ O w (.prim (.string k)) e.key:=this
    generalize e.key=v at this;cases this;rfl
   rw[h3,h0,RW];split at h
   ·rename_i hb
    cases h;rw[hb];exact .inr ⟨0,d0,k,rfl,rfl,rfl⟩
   ·rename_i hb
    rw[hb];dsimp only;rcases Oe l mes (i+1) r (by simpa using hl) (λj d c h1 h2=>by have:=hk (j+1) d c (by simpa using h1) h2;simpa using this) h with⟨a,b⟩|⟨j,d1,k1,a1,a2,a3⟩
    ·exact .inl ⟨a,b⟩
    ·exact .inr ⟨j+1,d1,k1,by simpa using a1,a2,by rw[a3];simp;omega⟩
 | [],_::_,_,_,hl,_,_=>by simp at hl
 |_::_,[],_,_,hl,_,_=>by simp at hl
theorem SU {key:ByteArray}{d:D}:∀(l l':List D) (mes:List MapEntry) (i:Nat),mes.length=l.length ->
  (∀(j:Nat) (d c:D),l[j]?=some d->d.cells[0]?=some c->AG ρ O w c (mes.getD j default).key)->Jg key d l=some l' ->
  (l'=l++[HA key d]/\Instr.findNow .string (.string key) mes i=some none) \/
  ∃j k d0,l[j]?=some (HA k d0)/\BL key k=true/\l'=l.set j (HA key d)/\Instr.findNow .string (.string key) mes i=some (some (i+j,(mes.getD j default).val))
 | [],l',[],i,_,_,h=>by
  simp only[Jg,Af]at h;subst h;exact .inl ⟨rfl,rfl⟩
 |x::l,l',e::mes,i,hl,hk,h=>by
  have h3:Instr.findNow .string (.string key) (e::mes) i=(match Instr.sameNow .string (.string key) e.key with
    |some true=>some (some (i,e.val))|some false=>Instr.findNow .string (.string key) mes (i+1)|none=>none):=rfl
  unfold Jg at h;split at h<;>try(cases h;done)
  ·rename_i heq;cases heq
  ·rename_i k d0 l1 heq
   cases heq;have h0:e.key=.string k:=by
    have:=hk 0 _ (.prim (.string k)) rfl rfl
    have:AG ρ O w (.prim (.string k)) e.key:=this
    generalize e.key=v at this;cases this;rfl
   rw[h3,h0,RW];split at h
   ·rename_i hb
    cases h;rw[hb];exact .inr ⟨0,k,d0,rfl,hb,rfl,rfl⟩
   ·rename_i hb
    rw[hb];dsimp only;split at h<;>try(cases h;done)
    rename_i r hr;cases h;rcases SU l r mes (i+1) (by simpa using hl) (λj d c h1 h2=>by have:=hk (j+1) d c (by simpa using h1) h2;simpa using this) hr with⟨a,b⟩|⟨j,k1,d1,a1,a2,a3,a4⟩
    ·exact .inl ⟨by rw[a];rfl,b⟩
    ·exact .inr ⟨j+1,k1,d1,by simpa using a1,a2,by rw[a3];rfl,by rw[a4];simp;omega⟩
 | [],_,_::_,_,hl,_,_=>by simp at hl
 |_::_,_,[],_,hl,_,_=>by simp at hl
theorem MP {k g:Nat}{v:Value}(h:AG ρ O w (.omp k g) v):∃b,v=.map (some b)/\ρ k g=some b:=by cases h;exact⟨_,rfl,by assumption⟩
theorem MQ {k:ByteArray}{v:Value}(h:AG ρ O w (.prim (.string k)) v):v=.string k:=by cases h;rfl
theorem gq {T:Nat}(k:Nat)(hw:Am ops s.env o=some true)(ho:o.op=.makeMap T none)
  (h:AR C F ops os ⟨Ak s.env o.dst (.omp k s.n),⟨k,s.n,0,0,[]⟩::s.H,s.n+1⟩ K):AR C F ops (o::os) s K:=
 AR.step hw (λρ a w hs=>by
  have m:=hs.mem;obtain⟨a1,a2⟩:=m.allocO ⟨k,s.n,0,0,[]⟩ (.map #[] 0) (hs.fresh k _ (Ad _)) (λe he hh=>AW hh.2 (Nat.ne_of_lt (hs.gen e he))) ⟨rfl,rfl,rfl,⟨by simp,by simp⟩,by simp,by simp,by simp⟩;refine⟨.map (some w.heap.size),_,_,.inl ?_,⟨a1,a2,λk' g hg=>?_,.omp (CO _ _ _ _)⟩,λe he=>?_⟩
  ·unfold execOp
   simp only[ho];rw[run_bind];rfl
  ·unfold Lk.put
   have hg1:s.n+1<=g:=hg;rw[AN λhh=>by have h2:g=s.n:=hh.2;omega];exact hs.fresh k' g (by omega)
  ·rcases Ah.1 he with rfl|he
   ·exact Ft _
   ·exact BK (hs.gen e he)) h
theorem UB {xt:Nat->Option XI}(hxt:Er C.P xt){t kT eT:Nat}{z:Value}{x ix:Operand}{ok:Bool}{key:ByteArray}{k g:Nat}{e:AK}{r:Option D}(hw:Am ops s.env o=some true)(ho:o.op=.lookup t x ix ok)(ht:xt t=some (.map kT eT z))
  (hx:AV s.env x=.omp k g) (hi:AV s.env ix=.prim (.string key)) (he:Hp.get s.H k=some e) (hg:g=e.g) (hz:e.sz=0) (hT:e.T=0) (hr:HM key e.es=some r)
  (h:AR C F ops os ⟨Ak s.env o.dst (match r with|some d=>Dh ok d true|none=>Dh ok (ofV z) false),s.H,s.n+1⟩ K):AR C F ops (o::os) s K:=
 AR.step hw (λρ a w hs=>by
  have m:=hs.mem;obtain⟨hm,hk⟩:=Hp.get_mem he;obtain⟨b,ex,hb⟩:=MP (hx ▸ BN hs.env x);have ei:=MQ (hi ▸ BN hs.env ix);obtain⟨es,clock,b4,M⟩:=m.atM hm (by rw[hk,<-hg];exact hb) hz hT;obtain⟨a1,a2,⟨inf,a3,a4⟩,a5⟩:=Gz (hxt _ _ ht);have hc:(Instr.checkKey es.isEmpty 10000 kT (.string key)).run C.P w=.ok () w:=MapKept.run_checkKey (k:=.string key) a2 (by simp[MapKept.IsKey]) _ 9999;have hzv:(zeroValue eT).run C.P w=.ok z w:=KJ a3 a4 w;have okR:∀(d:D) (v:Value) (b:Bool),AG ρ (AF F.X ρ s.H) w d v->AG ρ (AF F.X ρ s.H) w (Dh ok d b) (if ok then .tuple #[v,.bool b]else v):=by
   intro d v b hr;cases ok with
   |false=>exact hr
   |true=>
    refine .tup rfl λi d' hd=>?_
    match i with
    | 0=>simp at hd;subst hd;exact hr
    | 1=>simp at hd;subst hd;exact .prim _
    |n+2=>simp at hd
  rcases Oe (ρ:=ρ) (O:=AF F.X ρ s.H) (w:=w) e.es es.toList 0 r (by simpa using M.len) (λj d c h1 h2=>by
    have:=M.key j d c h1 h2
    simpa[AT,GN]using this) hr with⟨rfl,hf⟩|⟨j,d,kk,h1,rfl,hf⟩
  ·refine⟨_,ρ,w,.inl ?_,.pure hs (okR _ z false (.ofV λi x hx=>.inl (a5 i x hx))),λe he=>BK (hs.gen e he)⟩
   unfold execOp;simp only[ho];rw[run_bind,ex,ei]
   have:(Instr.lookup t (.map (some b)) (.string key) ok).run C.P w=.ok (if ok then .tuple #[z,.bool false]else z) w:=by
    simp[Instr.lookup,BS a1,MapKept.run_getObj_map b4,hc,MapKept.run_findKey a2 hf,hzv,Result.andThen]
   rw[this];rfl
  ·have hv:=M.val j _ d h1 rfl
   have hval:(es.toList.getD j default).val=(es.getD j default).val:=by simp[AT,GN]
   rw[hval]at hf;refine⟨_,ρ,w,.inl ?_,.pure hs (okR _ _ true hv),λe he=>BK (hs.gen e he)⟩;unfold execOp;simp only[ho];rw[run_bind,ex,ei]
   have:(Instr.lookup t (.map (some b)) (.string key) ok).run C.P w=.ok (if ok then .tuple #[(es.getD j default).val,.bool true]else(es.getD j default).val) w:=by
    simp[Instr.lookup,BS a1,MapKept.run_getObj_map b4,hc,MapKept.run_findKey a2 hf,Result.andThen]
   rw[this];rfl) h
theorem di {a b:ByteArray}(h:BL a b=true):BL b a=true:=by
 unfold BL at h⊢;rw[Fd]at h⊢;exact h.symm
theorem UE {xt:Nat->Option XI}(hxt:Er C.P xt){t kT eT:Nat}{z:Value}{x kx vx:Operand}{key:ByteArray}{k g:Nat}{e:AK}{l':List D}(hw:Am ops s.env o=some true)(ho:o.op=.mapUpdate t x kx vx\/o.op=.insert t x kx vx)(ht:xt t=some (.map kT eT z))
  (hx:AV s.env x=.omp k g) (hi:AV s.env kx=.prim (.string key)) (he:Hp.get s.H k=some e) (hg:g=e.g) (hz:e.sz=0) (hT:e.T=0) (hr:Jg key (AV s.env vx) e.es=some l')
  (h:AR C F ops os ⟨Ak s.env o.dst .any,Hp.set s.H k ⟨e.k,e.g,e.T,e.sz,l'⟩,s.n+1⟩ K):AR C F ops (o::os) s K:=
 AR.step hw (λρ a w hs=>by
  have m:=hs.mem;obtain⟨hm,hk⟩:=Hp.get_mem he;obtain⟨b,ex,hb⟩:=MP (hx ▸ BN hs.env x);have ei:=MQ (hi ▸ BN hs.env kx);have hb:ρ e.k e.g=some b:=by rw[hk,<-hg];exact hb
  obtain⟨es,clock,b4,M⟩:=m.atM hm hb hz hT;obtain⟨a1,a2,-,-⟩:=Gz (hxt _ _ ht);have hc:(Instr.checkKey false 10000 kT (.string key)).run C.P w=.ok () w:=MapKept.run_checkKey (k:=.string key) a2 (by simp[MapKept.IsKey]) _ 9999;have hvr:=BN hs.env vx;generalize AV s.env vx=dv at hvr hr;generalize hv:a.eval vx=v at hvr;obtain⟨H1,H2,q1,q2,q3⟩:=GM (⟨e.k,e.g,e.T,e.sz,l'⟩:AK) he;have fin:∀o',(∀t' x' y' z',(o.op=.mapUpdate t' x' y' z'\/o.op=.insert t' x' y' z')->(Instr.mapUpdate t' (a.eval x') (a.eval y') (a.eval z')).run C.P w=.ok () (w.putObj b o')) ->
    C9 ρ (AF F.X ρ s.H) w ⟨e.k,e.g,e.T,e.sz,l'⟩ o'->∃v ρ' w',((execOp a.eval o).run C.P w=.ok (.value v) w'\/((execOp a.eval o).run C.P w=.ok .skip w'/\v=undef))/\Le C F ρ s.H w 0 .any (Hp.set s.H k ⟨e.k,e.g,e.T,e.sz,l'⟩) (s.n+1) v ρ' w'/\∀e'∈Hp.set s.H k ⟨e.k,e.g,e.T,e.sz,l'⟩,e'.g<s.n+1:=λo' hrun hO=>by
   have hgen:∀e'∈Hp.set s.H k ⟨e.k,e.g,e.T,e.sz,l'⟩,e'.g<s.n+1:=λe' he'=>by
    rw[q2]at he';have hge:=hs.gen;rw[q1]at hge;rcases BR.1 he' with h|h
    ·exact BK (hge e' (BR.2 (.inl h)))
    ·rcases Ah.1 h with rfl|h
     ·exact BK (hge e (by simp))
     ·exact BK (hge e' (by simp[h]))
   have m':=m;rw[q1]at m' hO;obtain⟨c1,c2⟩:=m'.writeO (e':=⟨e.k,e.g,e.T,e.sz,l'⟩) hb rfl rfl (λcs T fz hh=>by rw[b4]at hh;cases hh) hO;refine⟨undef,ρ,w.putObj b o',.inr ⟨?_,rfl⟩,⟨by rw[q2];exact c1,by rw[q2];have c3:=c2;rw[<-q1]at c3;exact c3,λk g hg=>hs.fresh k g (by omega),.any _⟩,hgen⟩;unfold execOp;rcases ho with ho|ho
   ·simp only[ho]
    rw[run_bind,hrun _ _ _ _ (.inl ho)];rfl
   ·simp only[ho]
    rw[run_bind,hrun _ _ _ _ (.inr ho)];rfl
  rcases SU (ρ:=ρ) (O:=AF F.X ρ s.H) (w:=w) e.es l' es.toList 0 (by simpa using M.len) (λj d c h1 h2=>by
    have:=M.key j d c h1 h2
    simpa[AT,GN]using this) hr with⟨rfl,hf⟩|⟨j,k',d0,g1,g3,rfl,hf⟩
  ·refine fin (.map (es.push { key:=.string key,val:=v,born:=clock }) (clock+1)) (λt' x' y' z' ho'=>?_) ⟨hz,hT,by simp[M.len],M.born.push _ _,λi d hd=>?_,λi d c hd hc=>?_,λi d c hd hc=>?_⟩
   ·have:t'=t/\x'=x/\y'=kx/\z'=vx:=by
     rcases ho with ho|ho<;>rcases ho' with ho'|ho'<;>rw[ho]at ho'<;>cases ho'<;>exact⟨rfl,rfl,rfl,rfl⟩
    obtain⟨rfl,rfl,rfl,rfl⟩:=this;rw[ex,ei,hv];simp[Instr.mapUpdate,BS a1,MapKept.run_getObj_map b4,hc,MapKept.run_findKey a2 hf,MapKept.run_setObj_map _ b4,Result.andThen,World.putObj]
   ·rcases Aq i e.es.length with hi|hi
    ·rw[CT hi]at hd;exact M.siz i d hd
    ·rw[B8 hi]at hd
     have:=Bh hd
     rw[Eb]at this;subst this;rfl
   ·rcases Aq i e.es.length with hi|hi
    ·rw[CT hi]at hd
     rw[AT,FY,AN (by rw[M.len];omega),<-AT];exact M.key i d c hd hc
    ·rw[B8 hi]at hd
     have h1:=Bh hd;have h2:=(Ay.1 hd).1;rw[Eb]at h1;subst h1;simp only[HI]at h2;rw[AT,FY,AM (by rw[M.len];omega)];cases hc;exact .prim _
   ·rcases Aq i e.es.length with hi|hi
    ·rw[CT hi]at hd
     rw[AT,FY,AN (by rw[M.len];omega),<-AT];exact M.val i d c hd hc
    ·rw[B8 hi]at hd
     have h1:=Bh hd;have h2:=(Ay.1 hd).1;rw[Eb]at h1;subst h1;simp only[HI]at h2;rw[AT,FY,AM (by rw[M.len];omega)];cases hc;exact hvr
  ·have hjl:j<es.size:=by rw[M.len];exact(Ay.1 g1).1
   obtain⟨ej,hej⟩:∃ej,es[j]?=some ej:=⟨es[j],BF hjl⟩
   have hkj:ej.key=.string k':=by
    have:=M.key j _ _ g1 rfl
    rw[AT,hej]at this;exact MQ this
   have hmod:∀i:Nat,(es.modify j λe=>{ e with key:=.string key,val:=v })[i]?=if j=i then(es[i]?).map λe=>{ e with key:=.string key,val:=v }else es[i]?:=λi=>by
    rw[Array.getElem?_modify]
   have hset:∀(i:Nat) (d:D),(e.es.set j (HA key dv))[i]?=some d->(i=j/\d=HA key dv)\/(i≠j/\e.es[i]?=some d):=λi d hd=>by
    rw[List.getElem?_set]at hd;split at hd
    ·rename_i q
     split at hd
     ·cases hd;exact .inl ⟨q.symm,rfl⟩
     ·cases hd
    ·rename_i q;exact .inr ⟨Ne.symm q,hd⟩
   refine fin (.map (es.modify j λe=>{ e with key:=.string key,val:=v }) clock) (λt' x' y' z' ho'=>?_) ⟨hz,hT,by simp[M.len],⟨λi e he=>?_,λi i' e e' he he' hbb=>?_⟩,λi d hd=>?_,λi d c hd hc=>?_,λi d c hd hc=>?_⟩
   ·have:t'=t/\x'=x/\y'=kx/\z'=vx:=by
     rcases ho with ho|ho<;>rcases ho' with ho'|ho'<;>rw[ho]at ho'<;>cases ho'<;>exact⟨rfl,rfl,rfl,rfl⟩
    obtain⟨rfl,rfl,rfl,rfl⟩:=this;rw[ex,ei,hv];have hks2:(Instr.keyThatStays ej.key (.string key)).run C.P w=.ok (.string key) w:=by
     rw[hkj];unfold Instr.keyThatStays
     have:Instr.sameBits 10000 (.string k') (.string key)=true:=by
      show(k'==key)=true;rw[OD];exact di g3
     rw[AM this];rfl
    simp[Instr.mapUpdate,BS a1,MapKept.run_getObj_map b4,hc,MapKept.run_findKey a2 hf,MapKept.run_setObj_map _ b4,Result.andThen,World.putObj,hej,hks2]
   ·rw[hmod]at he
    split at he
    ·rename_i q;subst q
     rw[hej]at he;cases he;exact M.born.1 j ej hej
    ·exact M.born.1 i e he
   ·rw[hmod]at he he'
    have key:∀(i:Nat) (e:MapEntry),(if j=i then(es[i]?).map λe=>{ e with key:=.string key,val:=v }else es[i]?)=some e->∃e0,es[i]?=some e0/\e0.born=e.born:=λi e he=>by
     split at he
     ·rename_i q;subst q
      rw[hej]at he;cases he;exact⟨ej,hej,rfl⟩
     ·exact⟨e,he,rfl⟩
    obtain⟨e0,q1,q2⟩:=key i e he;obtain⟨e1,q3,q4⟩:=key i' e' he';exact M.born.2 i i' e0 e1 q1 q3 (by rw[q2,q4,hbb])
   ·rcases hset i d hd with⟨-,rfl⟩|⟨-,h⟩
    ·rfl
    ·exact M.siz i d h
   ·rcases hset i d hd with⟨rfl,rfl⟩|⟨hne,h⟩
    ·rw[AT,hmod,AM rfl,hej]
     cases hc;exact .prim _
    ·rw[AT,hmod,AN (Ne.symm hne),<-AT]
     exact M.key i d c h hc
   ·rcases hset i d hd with⟨rfl,rfl⟩|⟨hne,h⟩
    ·rw[AT,hmod,AM rfl,hej]
     cases hc;exact hvr
    ·rw[AT,hmod,AN (Ne.symm hne),<-AT]
     exact M.val i d c h hc) h
theorem gp {xt:Nat->Option XI}(hxt:Er C.P xt){t kT eT:Nat}{z:Value}{x:Operand}{k g:Nat}{e:AK}(hw:Am ops s.env o=some true)(ho:o.op=.call ⟨.builtin .len,#[x],#[t]⟩)(ht:xt t=some (.map kT eT z))
  (hx:AV s.env x=.omp k g) (he:Hp.get s.H k=some e) (hg:g=e.g) (hz:e.sz=0) (hT:e.T=0)
  (h:AR C F ops os ⟨Ak s.env o.dst (.prim (.int .i64 (e.es.length:Nat))),s.H,s.n+1⟩ K):AR C F ops (o::os) s K:=
 AR.step hw (λρ a w hs=>by
  have m:=hs.mem;obtain⟨hm,hk⟩:=Hp.get_mem he;obtain⟨b,ex,hb⟩:=MP (hx ▸ BN hs.env x);obtain⟨es,clock,b4,M⟩:=m.atM hm (by rw[hk,<-hg];exact hb) hz hT;obtain⟨a1,-,-,-⟩:=Gz (hxt _ _ ht);refine⟨.int .i64 (e.es.length:Nat),ρ,w,.inl ?_,.pure hs (.prim _),λe he=>BK (hs.gen e he)⟩;unfold execOp;simp only[ho];have hl:(Builtin.len_ #[t] o.type #[.map (some b)]).run C.P w=.ok (.int .i64 (e.es.length:Nat)) w:=by
   simp[Builtin.len_,BS a1,run_getObj_map w b es clock b4,M.len,goInt]
  have hl2:∀cst,(builtin .len #[t] o.type cst #[.map (some b)]).run C.P w=.ok (.value (.int .i64 (e.es.length:Nat))) w:=λcst=>by
   simp only[builtin];rw[run_bind,hl];rfl
  have hl3:∀cst,(builtin .len #[t] o.type cst (#[x].map a.eval)).run C.P w=.ok (.value (.int .i64 (e.es.length:Nat))) w:=λcst=>by
   rw[show #[x].map a.eval = #[a.eval x]from by simp,ex];exact hl2 cst
  exact hl3 (#[x].map fun | .const _=>true|_=>false)) h
def JZ:List D->Option (List D×List D)
 | []=>some ([],[])
 | .agg [kd,vd]::l=>match JZ l with
  |some (ks,vs)=>some (kd::ks,vd::vs)
  |none=>none
 |_=>none
theorem Q1:∀ {l ks vs:List D},JZ l=some (ks,vs)->ks.length=l.length/\vs.length=l.length/\∀(i:Nat) (d:D),l[i]?=some d->∃kd vd,d=.agg [kd,vd]/\ks[i]?=some kd/\vs[i]?=some vd
 | [],ks,vs,h=>by
  simp only[JZ,Af,Au]at h;obtain⟨rfl,rfl⟩:=h;simp
 |x::l,ks,vs,h=>by
  unfold JZ at h;split at h<;>try(cases h;done)
  ·rename_i heq;cases heq
  ·rename_i kd vd l' heq
   cases heq;split at h<;>try(cases h;done)
   rename_i ks1 vs1 hl;cases h;obtain⟨h1,h2,h3⟩:=Q1 hl;refine⟨by simp[h1],by simp[h2],λi d hd=>?_⟩;cases i with
   |zero=>simp at hd;subst hd;exact⟨kd,vd,rfl,rfl,rfl⟩
   |succ i=>simpa using h3 i d (by simpa using hd)
def ID (k g:Nat)(m:D):Nat->D->D
 | 0,d=>d
 |n+1,.omp k' g'=>match Nat.beq k k'&&Nat.beq g g' with
  |true=>m
  |false=>.omp k' g'
 |n+1,.agg l=>.agg (l.map (ID k g m n))
 |_+1,d=>d
def Ee (k g:Nat)(m:D):Hp->Hp
 | []=>[]
 |e::r=>match Nat.beq e.k k with
  |true=>Ee k g m r
  |false=>match Nat.ble 1 e.sz||Nat.beq e.T 0 with
   |false=>e::Ee k g m r
   |true=>⟨e.k,e.g,e.T,e.sz,e.es.map (ID k g m 3)⟩::Ee k g m r
theorem O7 {Hf:Hp}{k g:Nat}{ks vs:List D}(hm:Fz H Hf (.omp k g) (.mp ks vs)):∀(n:Nat) (d:D),Fz H Hf d (ID k g (.mp ks vs) n d)/\(ID k g (.mp ks vs) n d).cells.length=d.cells.length /\
  ∀(q:Nat) (c c':D),d.cells[q]?=some c->(ID k g (.mp ks vs) n d).cells[q]?=some c'->Fz H Hf c c'
 | 0,d=>⟨.refl _,rfl,λq c c' h1 h2=>by
  have h2:d.cells[q]?=some c':=h2;rw[h1]at h2;cases h2;exact .refl _⟩
 |n+1,d=>by
  have one:∀d',Fz H Hf d d'->d.cells=[d]->d'.cells=[d']->Fz H Hf d d'/\d'.cells.length=d.cells.length/\∀(q:Nat) (c c':D),d.cells[q]?=some c->d'.cells[q]?=some c'->Fz H Hf c c':=λd' h a b=>by
   refine⟨h,by rw[a,b];rfl,λq c c' h1 h2=>?_⟩;rw[a]at h1;rw[b]at h2;cases q with
   |zero=>simp at h1 h2;subst h1 h2;exact h
   |succ q=>simp at h1
  cases d with
  |omp k' g'=>
   unfold ID;split
   ·rename_i hb
    simp only[Ag]at hb;obtain rfl:=Ae hb.1;obtain rfl:=Ae hb.2;exact one _ hm rfl rfl
   ·exact one _ (.refl _) rfl rfl
  |agg l=>
   have key:∀(i:Nat) (d d':D),l[i]?=some d->(l.map (ID k g (.mp ks vs) n))[i]?=some d'->Fz H Hf d d':=λi d d' h1 h2=>by
    rw[Bf,h1]at h2;cases h2;exact(O7 hm n d).1
   exact⟨.agg (by simp) key,by simp[D.cells,ID],key⟩
  |_=>exact one _ (.refl _) rfl rfl
theorem MS {k g:Nat}{m:D}:∀(H:Hp),Hp.get (Ee k g m H) k=none
 | []=>rfl
 |e::r=>by
  unfold Ee;cases hb:Nat.beq e.k k with
  |true=>exact MS r
  |false=>
   dsimp only;have hne:e.k≠k:=λh=>by rw[h,Fx]at hb;cases hb
   cases(Nat.ble 1 e.sz||Nat.beq e.T 0)<;>(simp only[Hp.get];first|(rw[hb];exact MS r)|(cases h:Nat.beq e.k k<;>first|exact MS r|(rw[h]at hb;cases hb)))
theorem Mj {Hf:Hp}{k g:Nat}{ks vs:List D}(hm:Fz H Hf (.omp k g) (.mp ks vs)):∀(H1:Hp),Ci H Hf H1 (Ee k g (.mp ks vs) H1)
 | []=>.nil
 |e::r=>by
  unfold Ee;cases hb:Nat.beq e.k k with
  |true=>exact .drop (Mj hm r)
  |false=>
   dsimp only;cases hi:(Nat.ble 1 e.sz||Nat.beq e.T 0)with
   |false=>exact .keep (Mj hm r)
   |true=>
    refine .turn (by simp) (λj d d' h1 h2=>?_) (λj d d' q c c' h1 h2 h3 h4=>?_) (Mj hm r) ?_
    ·rw[Bf,h1]at h2
     cases h2;exact(O7 hm 3 d).2.1
    ·rw[Bf,h1]at h2
     cases h2;exact(O7 hm 3 d).2.2 q c c' h3 h4
    ·intro hz
     simp only[LV]at hi;rcases hi with hi|hi
     ·have:=BD hi;omega
     ·exact Ae hi
theorem RC {ks vs:List D}{k g r clock:Nat}{es:Array MapEntry}(hr:AG ρ O w (.mp ks vs) (.map (some r)))(hb:w.heap[r]?=some (.map es clock))(hB:EQ es clock):C9 ρ O w ⟨k,g,1,0,[.mp ks vs,Df []]⟩ (.mapIter (some r) clock #[] clock):=
 ⟨rfl,rfl,⟨ks,vs,[],es,rfl,hr,hb,hB.1,Ad _,rfl,.nil,by simp⟩⟩
theorem gy {t kT eT:Nat}{x:Operand}{ks vs:List D}(kk:Nat)(hw:Am ops s.env o=some true)(ho:o.op=.range t x)(ht:C.P.underlying t=some (.map kT eT))
  (hx:AV s.env x=.mp ks vs)
  (h:AR C F ops os ⟨Ak s.env o.dst (.optr kk s.n 0 0 0),⟨kk,s.n,1,0,[.mp ks vs,Df []]⟩::s.H,s.n+1⟩ K):AR C F ops (o::os) s K:=
 AR.step hw (λρ a w hs=>by
  have m:=hs.mem;have hrep:=hx ▸ BN hs.env x;generalize hev:a.eval x=v at hrep;cases hrep with
  |mp hO' hr hb h1 h2 hBo hk hv=>
   rename_i r clock es;obtain⟨a1,a2⟩:=m.allocO ⟨kk,s.n,1,0,[.mp ks vs,Df []]⟩ (.mapIter (some r) clock #[] clock) (hs.fresh kk _ (Ad _)) (λe he hh=>AW hh.2 (Nat.ne_of_lt (hs.gen e he))) (RC (.mp hO' hr hb h1 h2 hBo hk hv) hb hBo);refine⟨.pointer (some ⟨w.heap.size,0,none⟩),_,_,.inl ?_,⟨a1,a2,λk' g hg=>?_,?_⟩,λe he=>?_⟩
   ·unfold execOp
    simp only[ho];rw[run_bind,hev,run_range_map w t kT eT r es clock ht hb];simp
   ·have hg1:s.n+1<=g:=hg
    unfold Lk.put;rw[AN λhh=>by have h2:g=s.n:=hh.2;omega];exact hs.fresh k' g (by omega)
   ·exact .optr (sz:=0) (i:=0) (off:=0) (CO _ _ _ _)
   ·rcases Ah.1 he with rfl|he
    ·exact Ft _
    ·exact BK (hs.gen e he)) h
theorem SC {k g:Nat}{m:D}{n:Nat}:∀ {H:Hp},(∀e∈H,e.g<n)->∀e∈Ee k g m H,e.g<n
 | [],_,e,h=>by simp[Ee]at h
 |x::r,hH,e,h=>by
  unfold Ee at h;have hr:∀e∈Ee k g m r,e.g<n:=SC λe he=>hH e (Dv _ he)
  split at h
  ·exact hr e h
  ·split at h
   ·rcases Ah.1 h with rfl|h
    ·exact hH _ (DF ..)
    ·exact hr e h
   ·rcases Ah.1 h with rfl|h
    ·exact hH x (DF ..)
    ·exact hr e h
theorem gx {xt:Nat->Option XI}(hxt:Er C.P xt){t kT eT:Nat}{z:Value}{x:Operand}{k g:Nat}{e:AK}{ks vs:List D}(kk:Nat)(hw:Am ops s.env o=some true)(ho:o.op=.range t x)(ht:xt t=some (.map kT eT z))
  (hx:AV s.env x=.omp k g) (he:Hp.get s.H k=some e) (hg:g=e.g) (hz:e.sz=0) (hT:e.T=0) (hu:JZ e.es=some (ks,vs))
  (h:AR C F ops os ⟨Ak s.env o.dst (.optr kk s.n 0 0 0),⟨kk,s.n,1,0,[.mp ks vs,Df []]⟩::Ee k g (.mp ks vs) s.H,s.n+1⟩ K):AR C F ops (o::os) s K:=
 AR.step hw (λρ a w hs=>by
  have m:=hs.mem;obtain⟨u1,u2,u3⟩:=Q1 hu;obtain⟨tm,-,-,-⟩:=Gz (hxt _ _ ht);have hfz:Fz s.H (Ee k g (.mp ks vs) s.H) (.omp k g) (.mp ks vs):=by
   refine .omp he (MS _) hg hz hT u1 u2 (λi d c c' hd hc hc'=>?_) λi d c c' hd hc hc'=>?_
   ·obtain⟨kd,vd,rfl,b1,b2⟩:=u3 i d hd
    cases hc;rw[b1]at hc';cases hc';exact .refl _
   ·obtain⟨kd,vd,rfl,b1,b2⟩:=u3 i d hd
    cases hc;rw[b2]at hc';cases hc';exact .refl _
  obtain⟨m2,hO,hN⟩:=(Mj hfz s.H).mem m;have hrep:=hfz.rep m hO hN (hx ▸ BN hs.env x);have x2:Ao ρ (AF F.X ρ s.H) w ρ (AF F.X ρ (Ee k g (.mp ks vs) s.H)) w:=⟨Ad _,λ_ _ _ h=>h,λb _ h=>⟨λh'=>h (hO b h'),rfl⟩,λ_ cs _ _ h=>⟨cs,_,h,rfl⟩⟩
  have hgen:∀e∈Ee k g (.mp ks vs) s.H,e.g<s.n:=SC hs.gen;generalize hev:a.eval x=v at hrep;cases hrep with
  |mp hO' hr hb h1 h2 hBo hk hv=>
   rename_i r clock es;obtain⟨a1,a2⟩:=m2.allocO ⟨kk,s.n,1,0,[.mp ks vs,Df []]⟩ (.mapIter (some r) clock #[] clock) (hs.fresh kk _ (Ad _)) (λe he hh=>AW hh.2 (Nat.ne_of_lt (hgen e he))) (RC (.mp hO' hr hb h1 h2 hBo hk hv) hb hBo);refine⟨.pointer (some ⟨w.heap.size,0,none⟩),_,_,.inl ?_,⟨a1,x2.trans a2,λk' g hg=>?_,?_⟩,λe he=>?_⟩
   ·unfold execOp
    simp only[ho];rw[run_bind,hev,run_range_map w t kT eT r es clock tm hb];simp
   ·have hg1:s.n+1<=g:=hg
    unfold Lk.put;rw[AN λhh=>by have h2:g=s.n:=hh.2;omega];exact hs.fresh k' g (by omega)
   ·exact .optr (sz:=0) (i:=0) (off:=0) (CO _ _ _ _)
   ·rcases Ah.1 he with rfl|he
    ·exact Ft _
    ·exact BK (hgen e he)) h
theorem OO {k g:Nat}{v:Value}(h:AG ρ O w (.optr k g 0 0 0) v):∃b,v=.pointer (some ⟨b,0,none⟩)/\ρ k g=some b:=by
 cases h;exact⟨_,rfl,by assumption⟩
theorem OZ {a b:List Nat}(h:Df a=Df b):a=b:=by
 unfold Df at h;have h:=D.agg.inj h
 have:∀(a b:List Nat),a.map (λ(i:Nat)=>D.prim (.int .i64 (Int.ofNat i)))=b.map (λ(i:Nat)=>D.prim (.int .i64 (Int.ofNat i)))->a=b:=λa=>by
  induction a with
  |nil=>intro b h;cases b with
   |nil=>rfl
   |cons=>simp at h
  |cons x a ih=>intro b h;cases b with
   |nil=>simp at h
   |cons y b=>
    simp only[BY,CZ,D.prim.injEq,Value.int.injEq,Int.ofNat.injEq,true_and]at h;rw[h.1,ih b h.2]
 exact this a b h
theorem UD {x:Operand}{k g:Nat}{e:AK}{ks vs:List D}{dn:List Nat}(hw:Am ops s.env o=some true)(ho:o.op=.next x false)(hx:AV s.env x=.optr k g 0 0 0)(he:Hp.get s.H k=some e)(hg:g=e.g)(hz:e.sz=0)(hT:e.T=1)
  (hes:e.es=[.mp ks vs,Df dn]) (hall:∀j,j<ks.length->j∈dn) (h:AR C F ops os ⟨Ak s.env o.dst (.tup [.prim (.bool false)]),s.H,s.n+1⟩ K):AR C F ops (o::os) s K:=
 AR.step hw (λρ a w hs=>by
  have m:=hs.mem;obtain⟨hm,hk⟩:=Hp.get_mem he;obtain⟨b,ex,hb⟩:=OO (hx ▸ BN hs.env x);obtain⟨bm,since,seen,c0,b4,I⟩:=m.atI hm (by rw[hk,<-hg];exact hb) hz hT;obtain⟨ks',vs',dn',es,i1,i2,i3,i4,i5,i6,i7,i8⟩:=I.it;rw[hes]at i1;simp only[CZ,D.mp.injEq,and_true]at i1;obtain⟨⟨rfl,rfl⟩,i1⟩:=i1;obtain rfl:=OZ i1;have hsz:es.size=ks.length/\EQ es c0:=by
   cases i2 with
   |mp _ _ hb2 h1 _ hB _ _=>rw[i3]at hb2;cases hb2;exact⟨h1,hB⟩
  have hmem:∀e:MapEntry,e∈es.toList->∃j:Nat,es[j]?=some e:=λe he=>by
   obtain⟨j,hj⟩:=HJ.1 he;exact⟨j,by simpa using hj⟩
  have hseen:∀b:Nat,seen.contains b=true↔∃j∈dn,(es.getD j default).born=b:=λb=>by
   rw[<-Array.contains_toList,i6,List.contains_iff_mem,Bw]
  rcases run_next_at (P:=C.P) w o.type b bm since c0 seen es c0 b4 i3 (λe he=>by obtain⟨j,hj⟩:=hmem e he;exact i4 j e hj) i5 with⟨q1,q2⟩|⟨e1,he1,w1,hw1,q2⟩
  ·refine⟨_,ρ,w,.inl ?_,.pure hs (.tup (vs:=#[.bool false]) rfl λi d hd=>?_),λe he=>BK (hs.gen e he)⟩
   ·unfold execOp
    simp only[ho];rw[run_bind,ex,q2];rfl
   ·match i with
    | 0=>simp at hd;subst hd;exact .prim _
    |n+1=>simp at hd
  ·exfalso
   have hel:e1∈es/\seen.contains e1.born=false:=by
    have:e1∈leftOf es seen:=Dc.1 he1
    unfold leftOf at this;rw[Array.mem_filter]at this;exact⟨this.1,by simpa using this.2⟩
   obtain⟨j,hj⟩:=hmem e1 (Dc.2 hel.1);have hjl:j<es.size:=(Bo.1 hj).1
   have:=(hseen e1.born).2 ⟨j,hall j (by omega),by rw[AT,hj];rfl⟩
   rw[hel.2]at this;cases this) h
theorem gt {x:Operand}{k g:Nat}{e:AK}{ks vs:List D}{dn:List Nat}{j:Nat}{kd vd:D}(hw:Am ops s.env o=some true)(ho:o.op=.next x false)(hx:AV s.env x=.optr k g 0 0 0)(he:Hp.get s.H k=some e)(hg:g=e.g)(hz:e.sz=0)(hT:e.T=1)
  (hes:e.es=[.mp ks vs,Df dn]) (hj:j<ks.length) (hjn:j∉dn) (hone:∀i,i<ks.length->i∉dn->i=j) (hkd:ks[j]?=some kd) (hvd:vs[j]?=some vd)
  (h:AR C F ops os ⟨Ak s.env o.dst (.tup [.prim (.bool true),kd,vd]),Hp.set s.H k ⟨e.k,e.g,e.T,e.sz,[.mp ks vs,Df (dn++[j])]⟩,s.n+1⟩ K):AR C F ops (o::os) s K:=
 AR.step hw (λρ a w hs=>by
  have m:=hs.mem;obtain⟨hm,hk⟩:=Hp.get_mem he;obtain⟨b,ex,hb⟩:=OO (hx ▸ BN hs.env x);have hb:ρ e.k e.g=some b:=by rw[hk,<-hg];exact hb
  obtain⟨bm,since,seen,c0,b4,I⟩:=m.atI hm hb hz hT;obtain⟨ks',vs',dn',es,i1,i2,i3,i4,i5,i6,i7,i8⟩:=I.it;rw[hes]at i1;simp only[CZ,D.mp.injEq,and_true]at i1;obtain⟨⟨rfl,rfl⟩,i1⟩:=i1;obtain rfl:=OZ i1;obtain⟨hsz,hBo,hkr,hvr⟩:es.size=ks.length/\EQ es c0/\(∀(i:Nat) (d:D),ks[i]?=some d->AG ρ (AF F.X ρ s.H) w d (es.getD i default).key)/\∀(i:Nat) (d:D),vs[i]?=some d->AG ρ (AF F.X ρ s.H) w d (es.getD i default).val:=by
   cases i2 with
   |mp _ _ hb2 h1 _ hB hk hv=>rw[i3]at hb2;cases hb2;exact⟨h1,hB,hk,hv⟩
  have hmem:∀e:MapEntry,e∈es.toList->∃j:Nat,es[j]?=some e:=λe he=>by
   obtain⟨j,hj⟩:=HJ.1 he;exact⟨j,by simpa using hj⟩
  have hseen:∀b:Nat,seen.contains b=true↔∃j∈dn,(es.getD j default).born=b:=λb=>by
   rw[<-Array.contains_toList,i6,List.contains_iff_mem,Bw]
  rcases run_next_at (P:=C.P) w o.type b bm since c0 seen es c0 b4 i3 (λe he=>by obtain⟨j,hj⟩:=hmem e he;exact i4 j e hj) i5 with⟨q1,q2⟩|⟨e1,he1,w1,hw1,q2⟩
  ·exfalso
   obtain⟨ej,hej⟩:∃ej,es[j]?=some ej:=⟨es[j]'(by omega),D8⟩
   have hn:seen.contains ej.born=false:=by
    cases hc:seen.contains ej.born with
    |false=>rfl
    |true=>
     obtain⟨j',hj',hb'⟩:=(hseen _).1 hc;have hlt:=i8 j' hj'
     have:j=j':=hBo.2 j j' ej (es.getD j' default) hej (by rw[AT,BF hlt];rfl) hb'.symm
     exact AW (this ▸ hj') hjn
   have:ej∈leftOf es seen:=by
    unfold leftOf;rw[Array.mem_filter];exact⟨FD hej,by rw[hn];rfl⟩
   have:=Array.size_pos_of_mem this
   omega
  ·have hel:e1∈es/\seen.contains e1.born=false:=by
    have:e1∈leftOf es seen:=Dc.1 he1
    unfold leftOf at this;rw[Array.mem_filter]at this;exact⟨this.1,by simpa using this.2⟩
   obtain⟨j1,hj1⟩:=hmem e1 (Dc.2 hel.1);have hjl:j1<es.size:=(Bo.1 hj1).1;have hgd:es.getD j1 default=e1:=by rw[AT,hj1];rfl
   have hjn1:j1∉dn:=λq=>by
    have:=(hseen e1.born).2 ⟨j1,q,by rw[hgd]⟩
    rw[hel.2]at this;cases this
   obtain rfl:=hone j1 (by omega) hjn1;obtain⟨H1,H2,p1,p2,p3⟩:=GM (⟨e.k,e.g,e.T,e.sz,[.mp ks vs,Df (dn++[j1])]⟩:AK) he;obtain⟨hs1,xd⟩:AQ C F ρ s.H w1/\Ao ρ (AF F.X ρ s.H) w ρ (AF F.X ρ s.H) w1:=by
    rcases hw1 with rfl|rfl
    ·exact⟨m,.refl _ _ _⟩
    ·exact⟨m.drew,.drew _ _ _⟩
   have hO:C9 ρ (AF F.X ρ s.H) w1 ⟨e.k,e.g,e.T,e.sz,[.mp ks vs,Df (dn++[j1])]⟩ (.mapIter (some bm) since (seen.push e1.born) c0):=by
    have hbm:w1.heap[bm]?=some (.map es c0):=by
     rcases hw1 with rfl|rfl
     ·exact i3
     ·exact i3
    refine⟨hz,hT,⟨ks,vs,dn++[j1],es,rfl,i2.mono xd,hbm,i4,i5,?_,?_,λi hi=>?_⟩⟩
    ·rw[Array.toList_push,i6,EH];simp only[BY,List.map_nil];rw[hgd]
    ·rw[De]
     exact⟨i7,by simp,λx hx y hy=>by
      rw[Eb]at hy;subst hy;exact λq=>hjn1 (q ▸ hx)⟩
    ·rcases BR.1 hi with hi|hi
     ·exact i8 i hi
     ·rw[Eb]at hi;subst hi;exact hjl
   have hb41:w1.heap[b]?=some (.mapIter (some bm) since seen c0):=by
    rcases hw1 with rfl|rfl
    ·exact b4
    ·exact b4
   have hgen:∀e'∈Hp.set s.H k ⟨e.k,e.g,e.T,e.sz,[.mp ks vs,Df (dn++[j1])]⟩,e'.g<s.n+1:=λe' he'=>by
    rw[p2]at he';have hge:=hs.gen;rw[p1]at hge;rcases BR.1 he' with h|h
    ·exact BK (hge e' (BR.2 (.inl h)))
    ·rcases Ah.1 h with rfl|h
     ·exact BK (hge e (by simp))
     ·exact BK (hge e' (by simp[h]))
   have hs1':=hs1;rw[p1]at hs1' hO;obtain⟨c1,c2⟩:=hs1'.writeO (e':=⟨e.k,e.g,e.T,e.sz,[.mp ks vs,Df (dn++[j1])]⟩) hb rfl rfl (λcs T fz hh=>by rw[hb41]at hh;cases hh) hO;rw[<-p1]at c2;rw[<-p2]at c1 c2;have hk1:=(hkr j1 kd hkd).mono (xd.trans c2);have hv1:=(hvr j1 vd hvd).mono (xd.trans c2);rw[hgd]at hk1 hv1;refine⟨_,ρ,_,.inl ?_,⟨c1,xd.trans c2,λk g hg=>hs.fresh k g (by omega),.tup (vs:=#[.bool true,e1.key,e1.val]) rfl λi d hd=>?_⟩,hgen⟩
   ·unfold execOp
    simp only[ho];rw[run_bind,ex,q2];rfl
   ·match i with
    | 0=>simp at hd;subst hd;exact .prim _
    | 1=>simp at hd;subst hd;exact hk1
    | 2=>simp at hd;subst hd;exact hv1
    |n+3=>simp at hd) h
theorem EQ.nodupE {es:Array MapEntry}{clock:Nat}(h:EQ es clock):(es.toList.map (·.born)).Nodup:=by
 rw[List.nodup_iff_pairwise_ne,List.pairwise_map,List.pairwise_iff_getElem];intro i j hi hj hij hb
 have:=h.2 i j es.toList[i] es.toList[j] (by simp at hi;simp[hi]) (by simp at hj;simp[hj]) hb
 omega
theorem iQ {x:Operand}{k g:Nat}{e:AK}{ks vs:List D}{dn:List Nat}{j:Nat}{kd vd:D}(hw:Am ops s.env o=some true)(ho:o.op=.entry x)(hx:AV s.env x=.optr k g 0 0 0)(he:Hp.get s.H k=some e)(hg:g=e.g)(hz:e.sz=0)(hT:e.T=1)
  (hes:e.es=[.mp ks vs,Df (dn++[j])]) (hkd:ks[j]?=some kd) (hvd:vs[j]?=some vd) (h:AR C F ops os ⟨Ak s.env o.dst (.tup [kd,vd]),s.H,s.n+1⟩ K):AR C F ops (o::os) s K:=
 AR.step hw (λρ a w hs=>by
  have m:=hs.mem;obtain⟨hm,hk⟩:=Hp.get_mem he;obtain⟨b,ex,hb⟩:=OO (hx ▸ BN hs.env x);obtain⟨bm,since,seen,c0,b4,I⟩:=m.atI hm (by rw[hk,<-hg];exact hb) hz hT;obtain⟨ks',vs',dn',es,i1,i2,i3,i4,i5,i6,i7,i8⟩:=I.it;rw[hes]at i1;simp only[CZ,D.mp.injEq,and_true]at i1;obtain⟨⟨rfl,rfl⟩,i1⟩:=i1;obtain rfl:=OZ i1;obtain⟨hsz,hBo,hkr,hvr⟩:es.size=ks.length/\EQ es c0/\(∀(i:Nat) (d:D),ks[i]?=some d->AG ρ (AF F.X ρ s.H) w d (es.getD i default).key)/\∀(i:Nat) (d:D),vs[i]?=some d->AG ρ (AF F.X ρ s.H) w d (es.getD i default).val:=by
   cases i2 with
   |mp _ _ hb2 h1 _ hB hk hv=>rw[i3]at hb2;cases hb2;exact⟨h1,hB,hk,hv⟩
  have hjl:=i8 j (by simp);obtain⟨e1,he1⟩:∃e,es[j]?=some e:=⟨es[j],BF hjl⟩
  have hgd:es.getD j default=e1:=by rw[AT,he1];rfl
  have hpush:seen=((dn.map λi=>(es.getD i default).born).toArray).push e1.born:=by
   apply Array.toList_inj.1;rw[i6,Array.toList_push,EH];simp only[BY,List.map_nil];rw[hgd]
  rw[hpush]at b4;have hk':=hkr j kd hkd;have hv':=hvr j vd hvd;rw[hgd]at hk' hv';refine⟨_,ρ,w,.inl ?_,.pure hs (.tup (vs:=#[e1.key,e1.val]) rfl λi d hd=>?_),λe he=>BK (hs.gen e he)⟩
  ·unfold execOp
   simp only[ho];rw[run_bind,ex,run_entry_at w b bm since _ es c0 e1 b4 i3 (Dc.2 (FD he1)) hBo.nodupE];rfl
  ·match i with
   | 0=>simp at hd;subst hd;exact hk'
   | 1=>simp at hd;subst hd;exact hv'
   |n+2=>simp at hd) h
def gc:List D->Option (List Nat)
 | []=>some []
 | .prim (.int .i64 (.ofNat i))::l=>match gc l with
  |some r=>some (i::r)
  |none=>none
 |_=>none
def Jb (xt:Nat->Option XI)(g:Operand->D)(H:Hp)(n:Nat)(op:Op):Option (D×Hp×Nat):=match op with
 | .makeMap _ none=>some (.omp n n,⟨n,n,0,0,[]⟩::H,n+1)
 | .lookup t x ix ok=>match xt t with
  |some (.map _ _ z)=>match g x with
   | .omp k gg=>match Hp.get H k with
    |some e=>match g ix with
     | .prim (.string key)=>match Nat.beq gg e.g&&Nat.beq e.sz 0&&Nat.beq e.T 0 with
      |true=>match HM key e.es with
       |some (some d)=>some (Dh ok d true,H,n+1)
       |some none=>some (Dh ok (ofV z) false,H,n+1)
       |none=>none
      |false=>none
     |_=>none
    |none=>none
   |_=>none
  |_=>none
 | .mapUpdate t x kx vx | .insert t x kx vx=>match xt t with
  |some (.map _ _ _)=>match g x with
   | .omp k gg=>match Hp.get H k with
    |some e=>match g kx with
     | .prim (.string key)=>match Nat.beq gg e.g&&Nat.beq e.sz 0&&Nat.beq e.T 0 with
      |true=>match Jg key (g vx) e.es with
       |some l=>some (.any,Hp.set H k ⟨e.k,e.g,e.T,e.sz,l⟩,n+1)
       |none=>none
      |false=>none
     |_=>none
    |none=>none
   |_=>none
  |_=>none
 | .call ⟨.builtin .len,args,tys⟩=>match args.toList with
  | [x]=>match tys.toList with
   | [t]=>match xt t with
    |some (.map _ _ _)=>match g x with
     | .omp k gg=>match Hp.get H k with
      |some e=>match Nat.beq gg e.g&&Nat.beq e.sz 0&&Nat.beq e.T 0 with
       |true=>some (.prim (.int .i64 (e.es.length:Nat)),H,n+1)
       |false=>none
      |none=>none
     |_=>none
    |_=>none
   |_=>none
  |_=>none
 | .range t x=>match xt t with
  |some (.map _ _ _)=>match g x with
   | .mp ks vs=>some (.optr n n 0 0 0,⟨n,n,1,0,[.mp ks vs,Df []]⟩::H,n+1)
   | .omp k gg=>match Hp.get H k with
    |some e=>match Nat.beq gg e.g&&Nat.beq e.sz 0&&Nat.beq e.T 0 with
     |true=>match JZ e.es with
      |some (ks,vs)=>some (.optr n n 0 0 0,⟨n,n,1,0,[.mp ks vs,Df []]⟩::Ee k gg (.mp ks vs) H,n+1)
      |none=>none
     |false=>none
    |none=>none
   |_=>none
  |_=>none
 | .next x false=>match g x with
  | .optr k gg 0 0 0=>match Hp.get H k with
   |some e=>match Nat.beq gg e.g&&Nat.beq e.sz 0&&Nat.beq e.T 1 with
    |true=>match e.es with
     | [.mp ks vs,.agg l]=>match ks with
      | []=>match vs with
       | []=>match l with
        | []=>some (.tup [.prim (.bool false)],H,n+1)
        |_=>none
       |_=>none
      | [kd]=>match vs with
       | [vd]=>match l with
        | []=>some (.tup [.prim (.bool true),kd,vd],Hp.set H k ⟨e.k,e.g,e.T,e.sz,[.mp [kd] [vd],Df [0]]⟩,n+1)
        | [.prim (.int .i64 (.ofNat 0))]=>some (.tup [.prim (.bool false)],H,n+1)
        |_=>none
       |_=>none
      |_=>none
     |_=>none
    |false=>none
   |none=>none
  |_=>none
 | .entry x=>match g x with
  | .optr k gg 0 0 0=>match Hp.get H k with
   |some e=>match Nat.beq gg e.g&&Nat.beq e.sz 0&&Nat.beq e.T 1 with
    |true=>match e.es with
     | [.mp [kd] [vd],.agg [.prim (.int .i64 (.ofNat 0))]]=>some (.tup [kd,vd],H,n+1)
     |_=>none
    |false=>none
   |none=>none
  |_=>none
 |_=>none
theorem If {gg g sz T t:Nat}(h:(Nat.beq gg g&&Nat.beq sz 0&&Nat.beq T t)=true):gg=g/\sz=0/\T=t:=by
 simp only[Ag]at h;exact⟨Ae h.1.1,Ae h.1.2,Ae h.2⟩
theorem WX {xt:Nat->Option XI}(hxt:Er C.P xt){d:D}{H':Hp}{n':Nat}(hw:Am ops s.env o=some true)(he:Jb xt (AV s.env) s.H s.n o.op=some (d,H',n'))
  (h:AR C F ops os ⟨Ak s.env o.dst d,H',n'⟩ K):AR C F ops (o::os) s K:=by
 unfold Jb at he;split at he<;>try(cases he;done)
 ·rename_i ho
  cases he;exact gq s.n hw ho h
 ·rename_i t x ix ok ho
  split at he<;>try(cases he;done)
  rename_i kT eT z ht;split at he<;>try(cases he;done)
  rename_i k gg hx;split at he<;>try(cases he;done)
  rename_i e hg;split at he<;>try(cases he;done)
  rename_i key hi;split at he<;>try(cases he;done)
  rename_i hb;obtain⟨b1,b2,b3⟩:=If hb;split at he<;>try(cases he;done)
  ·rename_i d1 hl
   cases he;exact UB hxt hw ho ht hx hi hg b1 b2 b3 hl h
  ·rename_i hl
   cases he;exact UB hxt hw ho ht hx hi hg b1 b2 b3 hl h
 ·rename_i t x kx vx ho
  split at he<;>try(cases he;done)
  rename_i kT eT z ht;split at he<;>try(cases he;done)
  rename_i k gg hx;split at he<;>try(cases he;done)
  rename_i e hg;split at he<;>try(cases he;done)
  rename_i key hi;split at he<;>try(cases he;done)
  rename_i hb;obtain⟨b1,b2,b3⟩:=If hb;split at he<;>try(cases he;done)
  rename_i l hl;cases he;exact UE hxt hw (.inl ho) ht hx hi hg b1 b2 b3 hl h
 ·rename_i t x kx vx ho
  split at he<;>try(cases he;done)
  rename_i kT eT z ht;split at he<;>try(cases he;done)
  rename_i k gg hx;split at he<;>try(cases he;done)
  rename_i e hg;split at he<;>try(cases he;done)
  rename_i key hi;split at he<;>try(cases he;done)
  rename_i hb;obtain⟨b1,b2,b3⟩:=If hb;split at he<;>try(cases he;done)
  rename_i l hl;cases he;exact UE hxt hw (.inr ho) ht hx hi hg b1 b2 b3 hl h
 ·rename_i args tys ho
  split at he<;>try(cases he;done)
  rename_i x hargs;split at he<;>try(cases he;done)
  rename_i t htys;split at he<;>try(cases he;done)
  rename_i kT eT z ht;split at he<;>try(cases he;done)
  rename_i k gg hx;split at he<;>try(cases he;done)
  rename_i e hg;split at he<;>try(cases he;done)
  rename_i hb;obtain⟨b1,b2,b3⟩:=If hb;cases he;have hargs':args = #[x]:=by rw[<-D6 (xs:=args),hargs]
  have htys':tys = #[t]:=by rw[<-D6 (xs:=tys),htys]
  subst hargs' htys';exact gp hxt hw ho ht hx hg b1 b2 b3 h
 ·rename_i t x ho
  split at he<;>try(cases he;done)
  rename_i kT eT z ht;split at he<;>try(cases he;done)
  ·rename_i ks vs hx
   cases he;obtain⟨tm,-,-,-⟩:=Gz (hxt _ _ ht);exact gy s.n hw ho tm hx h
  ·rename_i k gg hx
   split at he<;>try(cases he;done)
   rename_i e hg;split at he<;>try(cases he;done)
   rename_i hb;obtain⟨b1,b2,b3⟩:=If hb;split at he<;>try(cases he;done)
   rename_i ks vs hu;cases he;exact gx hxt s.n hw ho ht hx hg b1 b2 b3 hu h
 ·rename_i x ho
  split at he<;>try(cases he;done)
  rename_i k gg hx;split at he<;>try(cases he;done)
  rename_i e hg;split at he<;>try(cases he;done)
  rename_i hb;obtain⟨b1,b2,b3⟩:=If hb;split at he<;>try(cases he;done)
  rename_i ks vs l hes;split at he<;>try(cases he;done)
  ·split at he<;>try(cases he;done)
   split at he<;>try(cases he;done)
   cases he;exact UD (dn:=[]) hw ho hx hg b1 b2 b3 hes (λj hj=>AW hj (Nat.not_lt_zero j)) h
  ·rename_i kd
   split at he<;>try(cases he;done)
   rename_i vd;split at he<;>try(cases he;done)
   ·cases he
    exact gt (dn:=[]) (j:=0) hw ho hx hg b1 b2 b3 hes (Nat.zero_lt_one) (by simp) (λi hi _=>by have:i<1:=hi;omega) rfl rfl h
   ·cases he
    exact UD (dn:=[0]) hw ho hx hg b1 b2 b3 hes (λj hj=>by have:j<1:=hj;have:j=0:=(by omega);simp[this]) h
 ·rename_i x ho
  split at he<;>try(cases he;done)
  rename_i k gg hx;split at he<;>try(cases he;done)
  rename_i e hg;split at he<;>try(cases he;done)
  rename_i hb;obtain⟨b1,b2,b3⟩:=If hb;split at he<;>try(cases he;done)
  rename_i kd vd hes;cases he;exact iQ (dn:=[]) (j:=0) hw ho hx hg b1 b2 b3 hes rfl rfl h
end
section
variable {P:Program} {ops:Array Oper} {Q:Exit->Act->World->Prop}
theorem Ls.keep {L:Array Bool}{z i:Nat}(h:Ls L z):Ls (L.setIfInBounds i true) z:=by
 unfold Ls at*;rw[AT,DE];split
 ·split
  ·rfl
  ·rename_i h1 h2
   subst h1;rw[AT,Ix (by omega)]at h;cases h
 ·rwa [AT]at h
theorem R9 {l l':List Nat}(h:∀i,i∈l'->i∈l)(hn:l=[]):l'=[]:=List.eq_nil_iff_forall_not_mem.2 λi hi=>by
 have:=h i hi
 rw[hn]at this;cases this
def cq:Op->Bool
 | .select _ _=>false
 |_=>true
end
def Gc (tt:Nat->Option AL)(g:Operand->D)(op:Op):Option D:=match op with
 | .slice t x lo hi none=>match tt t with
  |some i=>match i.ti with
   | .slice _ esz _ _=>match g x with
    | .oxl k gg sz j len cap=>match FN len (lo.map g) (hi.map g)with
     |some (l,h,_)=>match Ij len (lo.map g) (hi.map g)&&Nat.beq esz sz with
      |true=>match Nat.beq cap l && !Nat.beq l 0 with
       |true=>some .any
       |false=>some (.oxl k gg sz (j+l) (h-l) (cap-l))
      |false=>none
     |none=>none
    | .prim (.slice none 0 0)=>match FN 0 (lo.map g) (hi.map g)with
     |some (_,_,_)=>match Ij 0 (lo.map g) (hi.map g)with
      |true=>some (.prim (.slice none 0 0))
      |false=>none
     |none=>none
    |_=>none
   |_=>none
  |none=>none
 | .call ⟨.builtin .cap,args,tys⟩=>match args.toList with
  | [x]=>match tys.toList with
   | [t]=>match tt t with
    |some i=>match i.ti with
     | .slice _ _ _ _=>match g x with
      | .oxl _ _ _ _ _ cap=>some (.prim (.int .i64 cap))
      | .prim (.slice none 0 0)=>some (.prim (.int .i64 0))
      |_=>none
     |_=>none
    |none=>none
   |_=>none
  |_=>none
 |_=>none
section
variable {P:Program} {ρ:Lk} {O:Nat->Prop} {w:World}
theorem XJ {t e ty:Nat}{cst:Array Bool}(hu:P.underlying t=some (.slice e))(ao:Option Addr)(len cap:Nat):(builtin .cap #[t] ty cst #[.slice ao len cap]).run P w=.ok (.value (.int .i64 cap)) w:=by
 simp only[builtin];rw[run_bind]
 have:(Builtin.cap_ #[t] ty #[.slice ao len cap]).run P w=.ok (.int .i64 cap) w:=by
  unfold Builtin.cap_;simp only[EI,NN];rw[run_bind,BS hu];rfl
 rw[this];rfl
theorem Qu {tt:Nat->Option AL}{o:Oper}{g:Operand->D}{ev:Operand->Value}{d:D}(htt:A7 P tt)(hg:∀x,AG ρ O w (g x) (ev x))(h:Gc tt g o.op=some d):
  ∃v,(execOp ev o).run P w=.ok (.value v) w/\AG ρ O w d v:=by
 unfold Gc at h;split at h
 ·rename_i t x lo hi ho
  split at h<;>try(cases h;done)
  rename_i i hti;split at h<;>try(cases h;done)
  rename_i e esz eby ez hk;obtain⟨hu,⟨inf,e3,e4,_⟩,_⟩:=CM (htt _ _ hti) hk;have hx:=hg x;unfold execOp;simp only[ho,Option.map_none];split at h<;>try(cases h;done)
  ·rename_i k gg sz j len cap hgx
   rw[hgx]at hx;split at h<;>try(cases h;done)
   rename_i l hh q hb;split at h<;>try(cases h;done)
   rename_i hok;simp only[Ag]at hok;have hq:=Kd hb hok.1;have hsz:=Ae hok.2;generalize ev x=vx at hx⊢;cases hx with
   |oxl hr hbk hc hs hm=>
    rename_i b T cs fz;obtain⟨h1,h2,h3⟩:=HR (P:=P) hg hb hq true hc;have run:(Instr.sliceAt t (.slice (some ⟨b,j*sz,none⟩) len cap) (lo.map ev) (hi.map ev) none).run P w =
      .ok (.slice (some (if cap=l then⟨b,j*sz,none⟩else⟨b,j*sz+l*esz,none⟩)) (hh-l) (cap-l)) w:=by
     rw[HN hu (by simp)];unfold Instr.slice;rw[run_bind,BS hu];dsimp only;rw[run_bind,h1];dsimp only;rw[run_bind,Ei e3,e4];dsimp only;rw[run_pure]
     by_cases hcl:cap=l
     ·simp[hcl]
     ·simp[hcl,E0]
    refine⟨_,by rw[run_bind,run];rfl,?_⟩;split at h
    ·cases h;exact .any _
    ·rename_i hcl
     cases h;have e:(if cap=l then(⟨b,j*sz,none⟩:Addr)else⟨b,j*sz+l*esz,none⟩)=⟨b,(j+l)*sz,none⟩:=by
      split
      ·rename_i hcl2
       have hl0:l=0:=by
        cases hb0:Nat.beq l 0 with
        |true=>exact Ae hb0
        |false=>rw[hcl2,Fx,hb0]at hcl;cases hcl
       rw[hl0];simp
      ·rw[hsz,Ba]
     rw[e];exact .oxl hr hbk (by omega) (by rw[<-hs];congr 1;omega) (by omega)
  ·rename_i hgx
   rw[hgx]at hx;split at h<;>try(cases h;done)
   rename_i l hh q hb;split at h<;>try(cases h;done)
   rename_i hok;cases h;have hq:=Kd hb hok;generalize ev x=vx at hx⊢;cases hx with
   |prim=>
    obtain⟨h1,h2,h3⟩:=HR (P:=P) hg hb hq true (Ad 0);have hz:l=0/\hh=0:=by omega
    obtain⟨rfl,rfl⟩:=hz;refine⟨.slice none 0 0,?_,.prim _⟩;rw[run_bind,HN hu (by simp)];unfold Instr.slice;rw[run_bind,BS hu];dsimp only;rw[run_bind,h1];dsimp only;rw[run_bind,Ei e3];rfl
 ·rename_i args tys ho
  split at h<;>try(cases h;done)
  rename_i x hargs;split at h<;>try(cases h;done)
  rename_i t htys;split at h<;>try(cases h;done)
  rename_i i hti;split at h<;>try(cases h;done)
  rename_i e esz eby ez hk;have hu:=(CM (htt _ _ hti) hk).1;have hargs':args = #[x]:=by rw[<-D6 (xs:=args),hargs]
  have htys':tys = #[t]:=by rw[<-D6 (xs:=tys),htys]
  subst hargs' htys';have hx:=hg x;have fin:∀v1 cap ao len,ev x=v1->v1=.slice ao len cap->(execOp ev o).run P w=.ok (.value (.int .i64 cap)) w:=by
   rintro v1 cap ao len h1 rfl;unfold execOp;simp only[ho,resolve,invoke,Sem.run_bind,Sem.run_pure,Result.andThen_ok,List.map_toArray,BY,List.map_nil,h1];exact XJ hu ao len cap
  generalize hvx:ev x=vx at hx;split at h<;>try(cases h;done)
  ·rename_i hgx
   rw[hgx]at hx;cases h;cases hx with
   |oxl hr hbk hc hs hm=>exact⟨_,fin _ _ _ _ hvx rfl,.prim _⟩
  ·rename_i hgx
   rw[hgx]at hx;cases h;cases hx with
   |prim=>exact⟨_,fin _ _ _ _ hvx rfl,.prim _⟩
 ·cases h
end
section
variable {C:AZ} {F:AI} {ρ:Lk} {H:Hp} {w:World}
theorem RG {ez:Value}{esz:Nat}(k6:ez.cells.size=esz)(k7:∀(j:Nat) (x:Value),ez.cells[j]?=some x->one x=true):
  (ofV ez).cells.length=esz/\∀(j:Nat) (c:D),(ofV ez).cells[j]?=some c->c=.prim (ez.cells.getD j undef):=by
 cases ez
 case tuple vs=>
  have:=k7 0 (.tuple vs) rfl
  simp[Ide.one]at this
 case agg vs=>
  refine⟨by simp only[ofV,D.cells,BP,GO];exact k6,λj c hc=>?_⟩;simp only[ofV,D.cells,Bf,FC,Gm]at hc;obtain⟨x,hx,rfl⟩:=hc;show D.prim x=.prim (vs.getD j undef);rw[AT,hx];rfl
 all_goals
  refine⟨k6,λj c hc=>?_⟩
  match j with
  | 0=>simp only[ofV,D.cells,NN,Af]at hc;subst hc;rfl
  |j+1=>simp[ofV,D.cells]at hc
theorem Ui {ez:Value}{esz z q:Nat}(k6:ez.cells.size=esz)(hq:q<z*esz):(Builtin.zeroCells ez.cells z).getD q undef=ez.cells.getD (q%esz) undef:=by
 have hpos:0<esz:=by
  rcases LU esz with h|h
  ·rw[h]at hq;simp at hq
  ·exact h
 have hm:=Gn q hpos;unfold Builtin.zeroCells;rw[AT,Array.getElem?_map,BF (by simp[k6];exact hq)];simp only[Array.getElem_range,Fu,Gp];rw[k6,getElem!_pos ez.cells (q%esz) (by omega),AT,D8];rfl
theorem Q7 {t tn e0 esz eby ty n k z:Nat}{ez:Value}{kq kn:IntKind}(T:GI C.P t e0 esz eby ez)(htn:C.P.underlying tn=some (.int kn))(m:AQ C F ρ H w)(fr:∀k,ρ k n=none)(hlt:∀e'∈H,e'.g≠n)
  {base:Option Addr} {sLen sCap:Nat} {olds:List Value} (hold:(Builtin.firstCells esz sLen (.slice base sLen sCap)).run C.P w.drew=.ok olds.toArray w.drew) {es0:List D} (h1:es0.length=sLen) (h2:olds.length=sLen*esz)
  (siz0:∀(i:Nat) (d:D),es0[i]?=some d->d.cells.length=esz) (one0:∀v∈olds,one v=true)
  (rep0:∀(i:Nat) (d:D) (j:Nat) (c:D),es0[i]?=some d->d.cells[j]?=some c->AG ρ (AF F.X ρ H) w c (olds.getD (i*esz+j) undef))
  (hz:1<=z) (hg:sCap<sLen+z) (hby:(sLen+z)*eby<=140737488355328) (hb1:1<=eby) (hs1:1<=esz):
  ∃v ρ' w',(Builtin.append_ #[t,tn] ty #[.slice base sLen sCap,.int kq z]).run C.P w=.ok v w' /\
   EW C F H ρ w n (.osl k n esz 0 (sLen+z)) (⟨k,n,e0,esz,es0++List.replicate z (ofV ez)⟩::H) v ρ' w':=by
 obtain⟨i,i1,rfl,rfl,i4⟩:=T.inf;have hmx:sLen+z<=maxLen:=by
  have:=J5 (sLen+z) hb1
  simp only[maxLen];omega
 have hzb:z*i.bytes<=140737488355328:=Az (Br _ (by omega)) hby;have run:=Lib.run_append_grow_zeros (P:=C.P) w t tn ty e0 i ez kq kn T.under htn i1 i4 base sLen sCap olds hold z (by omega) (by omega) hg (by simp only[maxLen]at hmx;omega) (by omega) (growslice_fits hg hby);generalize hcap':grownCap w (sLen+z) sCap e0=cap' at run;have hge:sLen+z<=cap':=by rw[<-hcap'];exact grownCap_ge ..
 have hmx':cap'<=maxLen:=by rw[<-hcap'];exact grownCap_le_maxLen _ _ _ _ hmx
 generalize hcs':olds.toArray++Builtin.zeroCells ez.cells z++Builtin.zeroCells ez.cells (cap'-(sLen+z))=cs' at run;have s1:olds.toArray.size=sLen*i.size:=by simp[h2]
 have s2:(Builtin.zeroCells ez.cells z).size=z*i.size:=by rw[size_zeroCells,T.zs]
 have hsz':cs'.size=cap'*i.size:=by
  rw[<-hcs',DP,DP,s1,s2,size_zeroCells,T.zs,<-Ba,<-Ba]
  congr 1;omega
 obtain⟨hec1,hec2⟩:=RG T.zs T.zo;have hlow:∀q,q<sLen*i.size->cs'.getD q undef=olds.getD q undef:=λq hq=>by
  rw[<-hcs',GV (by rw[DP];omega),GV (by omega)];simp[AT,GN]
 have hmid:∀q,q<z*i.size->cs'.getD (sLen*i.size+q) undef=ez.cells.getD (q%i.size) undef:=λq hq=>by
  rw[<-hcs',GV (by rw[DP];omega),Nr (by omega),s1,show sLen*i.size+q-sLen*i.size=q from by omega];exact Ui T.zs hq
 have hel:∀(q:Nat) (d:D),(es0++List.replicate z (ofV ez))[q]?=some d->(q<sLen/\es0[q]?=some d)\/(sLen<=q/\q<sLen+z/\d=ofV ez):=λq d hd=>by
  rcases Aq q sLen with hq|hq
  ·rw[CT (by omega)]at hd;exact .inl ⟨hq,hd⟩
  ·rw[B8 (by omega)]at hd
   obtain⟨a,b⟩:=Kf hd;exact .inr ⟨hq,by omega,b.symm⟩
 have ho:B2 ρ (AF F.X ρ H) w.drew ⟨k,n,e0,i.size,es0++List.replicate z (ofV ez)⟩ cs':=by
  refine B2.mono ⟨?_,λq d hd=>?_,λq v hv=>?_,λq d j c hd hc=>?_⟩ (Ao.drew ρ (AF F.X ρ H) w)
  ·dsimp only
   rw[B9,List.length_replicate,h1,hsz'];exact Br _ hge
  ·rcases hel q d hd with⟨_,hd⟩|⟨_,_,rfl⟩
   ·exact siz0 q d hd
   ·exact hec1
  ·rw[<-hcs']at hv
   rcases Aq q (sLen*i.size+z*i.size)with hq|hq
   ·rw[D5 (by rw[DP];omega)]at hv
    rcases Aq q (sLen*i.size)with hq2|hq2
    ·rw[D5 (by omega)]at hv
     simp only[EI]at hv;exact one0 v (Bh hv)
    ·rw[D4 (by omega)]at hv
     exact KL T.zo _ _ v hv
   ·rw[D4 (by rw[DP];omega)]at hv
    exact KL T.zo _ _ v hv
  ·dsimp only at hd⊢
   rcases hel q d hd with⟨hq,hd⟩|⟨hq,hq2,rfl⟩
   ·have hj:j<i.size:=by rw[<-siz0 q d hd];exact(Ay.1 hc).1
    have:=Br i.size (show q+1<=sLen from hq)
    rw[Ba]at this;rw[hlow _ (by omega)];exact rep0 q d j c hd hc
   ·have hj:j<i.size:=by rw[<-hec1];exact(Ay.1 hc).1
    obtain⟨p,rfl⟩:∃p,q=sLen+p:=⟨q-sLen,by omega⟩
    have:=Br i.size (show p+1<=z from by omega)
    rw[Ba]at this;rw[Ba,Fw,hmid _ (by omega),J0 p,Nat.mul_add_mod,NM hj,hec2 j c hc];exact .prim _
 obtain⟨m1,x1⟩:=m.drew.alloc ⟨k,n,e0,i.size,es0++List.replicate z (ofV ez)⟩ cs' (fr k) (λe' he' h=>hlt e' he' h.2) (show i.size≠0 by omega) ho;refine⟨_,_,_,run,m1,(Ao.drew _ _ _).trans x1,λk' g' hg=>by unfold Lk.put;rw[AN λh=>hg h.2],?_⟩;exact LP (b:=w.heap.size) (T:=e0) (cs:=cs') (fz:=(0,0)) (CO _ _ _ _) (by rw[Cc];exact AM rfl) hge hsz'.symm hmx'
def Jo (tt:Nat->Option AL)(H:Hp)(n k:Nat)(g:Operand->D)(args:List Operand)(tys:List Nat):Option (D×AK):=match args with
 | [s,x]=>match tys with
  | [t,u]=>match tt t with
   |some i=>match i.ti with
    | .slice e esz eby ez=>match tt u with
     |some iu=>match iu.ti with
      | .int _=>match g x with
       | .prim (.int _ (.ofNat z))=>match g s with
        | .prim (.slice none 0 0)=>match Nat.ble 1 z&&Nat.ble 1 esz&&Nat.ble 1 eby&&Nat.ble (z*eby) 140737488355328 with
         |true=>some (.osl k n esz 0 z,⟨k,n,e,esz,List.replicate z (ofV ez)⟩)
         |false=>none
        | .oxl k1 g1 sz 0 len cap=>match Hp.get H k1 with
         |some e1=>match Nat.ble 1 z&&Nat.ble 1 esz&&Nat.ble 1 eby&&Nat.ble ((len+z)*eby) 140737488355328&&Nat.beq g1 e1.g&&Nat.beq sz e1.sz&&Nat.beq sz esz&&Nat.ble len e1.es.length&&Nat.blt cap (len+z)with
          |true=>some (.osl k n esz 0 (len+z),⟨k,n,e,esz,e1.es.take len++List.replicate z (ofV ez)⟩)
          |false=>none
         |none=>none
        |_=>none
       |_=>none
      |_=>none
     |none=>none
    |_=>none
   |none=>none
  |_=>none
 |_=>none
theorem WU {tt:Nat->Option AL}{n k:Nat}{g:Operand->D}{args:List Operand}{tys:List Nat}{d:D}{e:AK}(h:Jo tt H n k g args tys=some (d,e)):e.g=n:=by
 unfold Jo at h
 (repeat' split at h)<;>first|(cases h;done)|(cases h;rfl)
theorem Xc {tt:Nat->Option AL}{o:Oper}{g:Operand->D}{ev:Operand->Value}{n k:Nat}{args:Array Operand}{tys:Array Nat}{d:D}{e':AK}(htt:A7 C.P tt)(m:AQ C F ρ H w)(fr:∀k,ρ k n=none)(hlt:∀e∈H,e.g≠n)
  (hg:∀x,AG ρ (AF F.X ρ H) w (g x) (ev x)) (ho:o.op=.call ⟨.builtin .append,args,tys⟩) (h:Jo tt H n k g args.toList tys.toList=some (d,e')):
  ∃v ρ' w',(execOp ev o).run C.P w=.ok (.value v) w'/\EW C F H ρ w n d (e'::H) v ρ' w':=by
 unfold Jo at h;split at h<;>try(cases h;done)
 rename_i s x hargs;split at h<;>try(cases h;done)
 rename_i t u htys;split at h<;>try(cases h;done)
 rename_i i hi;split at h<;>try(cases h;done)
 rename_i e esz eby ez hk;split at h<;>try(cases h;done)
 rename_i iu hiu;split at h<;>try(cases h;done)
 rename_i kk hku;split at h<;>try(cases h;done)
 rename_i kx z hgx;obtain⟨k1,⟨inf,k2,k3,k4,k5⟩,k6,k7⟩:=CM (htt _ _ hi) hk;have hu:=OF (htt _ _ hiu) hku;have T:GI C.P t e esz eby ez:=⟨k1,⟨inf,k2,k3,k4,k5⟩,k6,k7⟩
 have hargs':args = #[s,x]:=by rw[<-D6 (xs:=args),hargs]
 have htys':tys = #[t,u]:=by rw[<-D6 (xs:=tys),htys]
 subst hargs' htys';have fin:∀v1 v2,ev s=v1->ev x=v2->(∃v ρ' w',(Builtin.append_ #[t,u] o.type #[v1,v2]).run C.P w=.ok v w'/\EW C F H ρ w n d (e'::H) v ρ' w') ->
   ∃v ρ' w',(execOp ev o).run C.P w=.ok (.value v) w'/\EW C F H ρ w n d (e'::H) v ρ' w':=by
  rintro v1 v2 h1 h2 ⟨v,ρ',w',h3,h4⟩;refine⟨v,ρ',w',?_,h4⟩;unfold execOp;simp only[ho,resolve,invoke,builtin,Sem.run_bind,Sem.run_pure,Result.andThen_ok,List.map_toArray,BY,List.map_nil,h1,h2,h3]
 have hx:=hg x;have hsr:=hg s;rw[hgx]at hx;generalize hvx:ev x=vx at hx;generalize hvs:ev s=vs at hsr;cases hx;refine fin vs _ hvs hvx ?_;split at h<;>try(cases h;done)
 ·rename_i hgs
  split at h<;>try(cases h;done)
  rename_i hb;cases h;simp only[Ag]at hb;obtain⟨⟨⟨b1,b2⟩,b3⟩,b4⟩:=hb;rw[hgs]at hsr;cases hsr
  have:=Q7 (k:=k) (kq:=kx) (ty:=o.type) T hu m fr hlt (base:=none) (sLen:=0) (sCap:=0) (olds:=[]) (run_firstCells_none _ _ _ _ _) (es0:=[]) rfl (by simp) (by simp) (by simp) (by simp) (BD b1) (by have:=BD b1;omega)
   (by rw[B5];exact BD b4) (BD b3) (BD b2)
  simpa using this
 ·rename_i k0 g1 sz len cap hgs
  split at h<;>try(cases h;done)
  rename_i e1 he1;split at h<;>try(cases h;done)
  rename_i hb;cases h;simp only[Ag]at hb;obtain⟨⟨⟨⟨⟨⟨⟨⟨b1,b2⟩,b3⟩,b4⟩,b5⟩,b6⟩,b7⟩,b8⟩,b9⟩:=hb;obtain rfl:=Ae b5;obtain rfl:=Ae b6;obtain rfl:=Ae b7;have hle:=BD b8;rw[hgs]at hsr;obtain⟨hm,hke⟩:=Hp.get_mem he1;cases hsr with
  |oxl hr hbk hc hs hmx=>
   rename_i b T0 cs fz;rw[<-hke]at hr;obtain⟨cs0,q1,q2⟩:=m.atC hm hr hbk;rw[hbk]at q1;cases q1;have hlc:len*e1.sz<=cs.size:=Az (Br _ hle) q2.len;have hfc:(Builtin.firstCells e1.sz len (.slice (some ⟨b,0*e1.sz,none⟩) len cap)).run C.P w.drew=.ok (cs.toList.take (len*e1.sz)).toArray w.drew:=by
    rw[GQ];exact run_firstCells_some (P:=C.P) w.drew e1.sz len ⟨b,0,none⟩ len cap (cs.toList.take (len*e1.sz)) (by simp;omega) λj v hv=>by
     rw[Cx]at hv;split at hv
     ·rw[E0]
      simp only[FC]at hv;have hbk':w.drew.heap[b]?=some (.cells cs e1.T (0,0)):=hbk;simp[World.cell?,hbk',hv]
     ·cases hv
   refine Q7 (k:=k) (kq:=kx) (ty:=o.type) T hu m fr hlt hfc (by simp;omega) (by simp;omega) (λi d hd=>?_) (λv hv=>?_) (λi d j c hd hcj=>?_) (BD b1) (BD b9) (BD b4) (BD b3) (BD b2)
   ·rw[Cx]at hd
    split at hd
    ·exact q2.siz i d hd
    ·cases hd
   ·obtain⟨q,hq⟩:=HJ.1 (List.mem_of_mem_take hv)
    exact q2.one q v (by simpa using hq)
   ·rw[Cx]at hd
    split at hd
    ·rename_i hi
     have hj:j<e1.sz:=by rw[<-q2.siz i d hd];exact(Ay.1 hcj).1
     have:=Br e1.sz (show i+1<=len from hi)
     rw[Ba]at this;have h3:=q2.rep i d j c hd hcj;rw[GN,Cx,DK,FC,<-AT];exact h3
    ·cases hd
end
section
variable {C:AZ} {F:AI} {s:St} {ops:Array Oper} {o:Oper} {os:List Oper} {K:St->Prop}
theorem hC {tt:Nat->Option AL}(k:Nat)(htt:A7 C.P tt){args:Array Operand}{tys:Array Nat}{d:D}{e':AK}(hw:Am ops s.env o=some true)(ho:o.op=.call ⟨.builtin .append,args,tys⟩)
  (he:Jo tt s.H s.n k (AV s.env) args.toList tys.toList=some (d,e')) (h:AR C F ops os ⟨Ak s.env o.dst d,e'::s.H,s.n+1⟩ K):AR C F ops (o::os) s K:=
 AR.step hw (λρ a w hs=>by
  obtain⟨v,ρ',w',h1,h2⟩:=Xc htt hs.mem (λk=>hs.fresh k _ (Ad _)) (λe he=>Nat.ne_of_lt (hs.gen e he)) (BN hs.env) ho he;refine⟨v,ρ',w',.inl h1,⟨h2.mem,h2.ext,λk g hg=>by rw[h2.far k g (by omega)];exact hs.fresh k g (by omega),h2.rep⟩,λe he2=>?_⟩;rcases Ah.1 he2 with rfl|he2
  ·have:=WU he;omega
  ·exact BK (hs.gen e he2)) h
theorem AR.exact {tt:Nat->Option AL}(htt:A7 C.P tt){d:D}(hw:Am ops s.env o=some true)(he:Gc tt (AV s.env) o.op=some d)
  (h:AR C F ops os ⟨Ak s.env o.dst d,s.H,s.n+1⟩ K):AR C F ops (o::os) s K:=
 AR.step hw (λρ a w hs=>by
  obtain⟨v,h1,h2⟩:=Qu htt (BN hs.env) he;exact⟨v,ρ,w,.inl h1,.pure hs h2,λe he=>BK (hs.gen e he)⟩) h
theorem AR.wkP {tt:Nat->Option AL}(htt:A7 C.P tt){d:D}{p:Prop}(hw:Am ops s.env o=some true)(he:CG tt (λx=>wkD (AV s.env x)) o.op=some (d,p))(hp:p)
  (h:AR C F ops os ⟨Ak s.env o.dst d,s.H,s.n+1⟩ K):AR C F ops (o::os) s K:=
 AR.step hw (λρ a w hs=>by
  obtain⟨v,h1,h2⟩:=Ky htt (λx=>(BN hs.env x).wkD) he hp;exact⟨v,ρ,w,.inl h1,.pure hs h2,λe he=>BK (hs.gen e he)⟩) h
end
section
variable {C:AZ} {F:AI} {ops:Array Oper} {H:Hp} {g:Nat} {env:Ab} {o:Oper} {tt:Nat->Option AL}
theorem Uk {g g':Operand->D}{op:Op}(h:∀x∈op.operands,g x=g' x):Gc tt g op=Gc tt g' op:=by
 cases op<;>simp only[Op.operands]at h<;>try rfl
 case slice t x lo hi mx=>
  cases mx with
  |some _=>rfl
  |none=>
   simp only[Gc];rw[h x (by simp)];cases lo<;>cases hi<;>simp_all
 case call c=>
  obtain⟨callee,args,tys⟩:=c;cases callee<;>try rfl
  rename_i b;cases b<;>try rfl
  simp only[Gc];split
  ·rename_i x hx
   have:x∈args:=by rw[<-Dc,hx];simp
   rw[h x (by simp[Call.operands,this])]
  ·rfl
theorem A0.exact (htt:A7 C.P tt){d:D}(hw:Am ops env o=some true)(he:Gc tt (AV env) o.op=some d):A0 C F ops H g env o d none:=by
 refine⟨by simp,λHe ρ a w m _ _ _ hr=>.inr ⟨Dx hr hw,.inl ?_⟩⟩;obtain⟨g',h1,h2⟩:=EA hr;obtain⟨v,r1,r2⟩:=Qu (g:=g') htt h2 (by rw[<-Uk h1];exact he);exact⟨v,ρ,w,r1,m,.refl _ _ _,λ_ _ _=>rfl,r2⟩
theorem A0.wkP (htt:A7 C.P tt){d:D}{p:Prop}(hw:Am ops env o=some true)(he:CG tt (λx=>wkD (AV env x)) o.op=some (d,p))(hp:p):A0 C F ops H g env o d none:=by
 refine⟨by simp,λHe ρ a w m _ _ _ hr=>.inr ⟨Dx hr hw,.inl ?_⟩⟩;obtain⟨g',h1,h2⟩:=EA hr;have he2:CG tt (λx=>wkD (g' x)) o.op=some (d,p):=by rw[<-Qr λx hx=>congrArg wkD (h1 x hx)];exact he
 obtain⟨v,r1,r2⟩:=Ky (g:=λx=>wkD (g' x)) htt (λx=>(h2 x).wkD) he2 hp;exact⟨v,ρ,w,r1,m,.refl _ _ _,λ_ _ _=>rfl,r2⟩
end
section
variable {C:AZ} {F:AI} {s:St} {ops:Array Oper} {o:Oper} {os:List Oper} {K:St->Prop}
theorem VX {ρ:Lk}{w:World}{H:Hp}{ev:Operand->Value}{g:Operand->D}{tt:Nat->Option AL}(htt:A7 C.P tt)(m:AQ C F ρ H w)(hg:∀x,AG ρ (AF F.X ρ H) w (g x) (ev x)){t t' e esz eby k gg i0 len:Nat}{ez:Value}{x y:Operand}{i:AL}{e1:AK}{news:List D}{p:Prop}
  (ho:o.op=.call ⟨.builtin .copy,#[x,y],#[t,t']⟩) (hi:tt t=some i) (hk:i.ti=.slice e esz eby ez) (h1:g x=.osl k gg esz i0 len) (he:Hp.get H k=some e1) (hgg:gg=e1.g) (hs1:esz=e1.sz) (hsrc:DC H esz (g y)=some (news,p)) (hp:p)
  (hle:news.length<=len) (hle2:i0+len<=e1.es.length) (hpos:news≠[]):
  ∃w',(execOp ev o).run C.P w=.ok (.value (goInt news.length)) w'/\AQ C F ρ (Hp.set H k ⟨e1.k,e1.g,e1.T,e1.sz,e1.es.take i0++(news++e1.es.drop (i0+news.length))⟩) w' /\
   Ao ρ (AF F.X ρ H) w ρ (AF F.X ρ (Hp.set H k ⟨e1.k,e1.g,e1.T,e1.sz,e1.es.take i0++(news++e1.es.drop (i0+news.length))⟩)) w':=by
 subst hgg hs1;obtain⟨hm,hke⟩:=Hp.get_mem he;obtain⟨H1,H2,q1,q2,_⟩:=GM ⟨e1.k,e1.g,e1.T,e1.sz,e1.es.take i0++(news++e1.es.drop (i0+news.length))⟩ he;have hx:=hg x;have hy:=hg y;rw[h1]at hx;generalize hvx:ev x=vx at hx;generalize hvy:ev y=vy at hy;obtain⟨k1,⟨inf,k2,k3,k4,k5⟩,k6,k7⟩:=CM (htt _ _ hi) hk;rcases IY m hsrc hp hy with⟨_,rfl⟩|⟨a,c,f,rfl,hc,hs⟩
 ·exact AW rfl hpos
 cases hx with
 |onil=>
  have:news.length=0:=by omega
  exact AW (List.length_eq_zero_iff.1 this) hpos
 |osl hr hb hcp hsz hmx=>
  rename_i cap b T cs fz;rw[<-hke]at hr;obtain⟨cs0,r1,r2⟩:=m.atC hm hr hb;rw[hb]at r1;cases r1;have hN:i0*e1.sz+news.length*e1.sz<=cs.size:=by
   have:(i0+news.length)*e1.sz<=e1.es.length*e1.sz:=Br _ (by omega)
   rw[Ba]at this;exact Az this r2.len
  have hl:((List.range (news.length*e1.sz)).map f).length=news.length*e1.sz:=by simp
  have hst:=run_storeCells_at C.P b (i0*e1.sz) e1.T ((List.range (news.length*e1.sz)).map f) 0 cs w hb (by simp;exact hN) (λu hu=>by
   rw[Mb];obtain⟨q,hq,rfl⟩:=Bw.1 hu;exact hs.one q (List.mem_range.1 hq))
  simp only[Fc,hl]at hst;generalize hcs':(cs.toList.take (i0*e1.sz)++(List.range (news.length*e1.sz)).map f++cs.toList.drop (i0*e1.sz+news.length*e1.sz)).toArray=cs' at hst;have hl0:(cs.toList.take (i0*e1.sz)).length=i0*e1.sz:=by simp;omega
  have get:∀q,cs'[q]?=if i0*e1.sz<=q/\q<i0*e1.sz+news.length*e1.sz then some (f (q-i0*e1.sz))else cs[q]?:=λq=>by
   rw[<-hcs'];simp only[EI];rw[Cr];rcases Aq q (i0*e1.sz)with hq|hq
   ·rw[CT (by omega),BU,Cx,AM hq];simp
   ·rw[B8 (by omega),hl0]
    rcases Aq (q-i0*e1.sz) (news.length*e1.sz)with hq2|hq2
    ·rw[CT (by omega),DK];simp[hq2]
    ·rw[B8 (by omega),BU,hl,Es,show i0*e1.sz+news.length*e1.sz+(q-i0*e1.sz-news.length*e1.sz)=q from by omega];simp
  have hsz':cs'.size=cs.size:=by rw[<-hcs'];simp;omega
  have hmul:∀ {a b:Nat},a<b->a*e1.sz+e1.sz<=b*e1.sz:=λ{a b} h=>by
   have:(a+1)*e1.sz<=b*e1.sz:=Br _ h
   rwa [Ba,Nat.one_mul]at this
  have hlt0:(e1.es.take i0).length=i0:=by simp;omega
  have hel:∀(q:Nat) (d:D),(e1.es.take i0++(news++e1.es.drop (i0+news.length)))[q]?=some d->(i0<=q/\q<i0+news.length/\news[q-i0]?=some d)\/((q<i0\/i0+news.length<=q)/\e1.es[q]?=some d):=λq d hd=>by
   rcases Aq q i0 with hq|hq
   ·rw[CT (by omega),Cx,AM hq]at hd;exact .inr ⟨.inl hq,hd⟩
   ·rw[B8 (by omega),hlt0]at hd
    rcases Aq (q-i0) news.length with hq2|hq2
    ·rw[CT hq2]at hd;exact .inl ⟨hq,by omega,hd⟩
    ·rw[B8 hq2,Es,show i0+news.length+(q-i0-news.length)=q from by omega]at hd
     exact .inr ⟨.inr (by omega),hd⟩
  have hrep:B2 ρ (AF F.X ρ H) w ⟨e1.k,e1.g,e1.T,e1.sz,e1.es.take i0++(news++e1.es.drop (i0+news.length))⟩ cs':=by
   refine⟨by dsimp only;rw[B9,B9,Et,hlt0,hsz',show i0+(news.length+(e1.es.length-(i0+news.length)))=e1.es.length from by omega];exact r2.len,λq d hd=>?_,λq u hu=>?_,λq d j c hd hc=>?_⟩
   ·rcases hel q d hd with⟨_,_,hd⟩|⟨_,hd⟩
    ·exact hs.siz _ d hd
    ·exact r2.siz _ d hd
   ·rw[get]at hu
    split at hu
    ·rename_i hq;cases hu;exact hs.one _ (by omega)
    ·exact r2.one q u hu
   ·dsimp only at hd⊢
    rw[AT,get];rcases hel q d hd with⟨hq1,hq2,hd⟩|⟨hq,hd⟩
    ·have hj:j<e1.sz:=by rw[<-hs.siz _ d hd];exact(Ay.1 hc).1
     obtain⟨q',rfl⟩:∃q',q=i0+q':=⟨q-i0,by omega⟩
     have:=hmul (show q'<news.length from by omega)
     rw[Nat.add_sub_cancel_left]at hd;rw[AM (by rw[Ba];omega),Gp,Ba,show i0*e1.sz+q'*e1.sz+j-i0*e1.sz=q'*e1.sz+j from by omega];exact hs.rep _ d j c hd hc
    ·have hj:j<e1.sz:=by rw[<-r2.siz _ d hd];exact(Ay.1 hc).1
     rw[AN,<-AT]
     ·exact r2.rep q d j c hd hc
     ·intro hin
      rcases hq with hq|hq
      ·have:=hmul hq;omega
      ·have:(i0+news.length)*e1.sz<=q*e1.sz:=Br _ hq
       rw[Ba]at this;omega
  rw[q1]at m hrep;obtain⟨a1,a2⟩:=m.write (e':=⟨e1.k,e1.g,e1.T,e1.sz,e1.es.take i0++(news++e1.es.drop (i0+news.length))⟩) hr hb rfl rfl rfl rfl hsz' hrep;refine⟨_,?_,by rw[q2];exact a1,by rw[q2,q1];exact a2⟩;unfold execOp;have hmin:Nat.min news.length len=news.length:=Nat.min_eq_left hle;have hfc:=run_firstCells_some (P:=C.P) w e1.sz news.length a news.length c ((List.range (news.length*e1.sz)).map f) hl (λj v hv=>by
   have hj:j<news.length*e1.sz:=by have:=(Ay.1 hv).1;omega
   rw[hs.cell j hj];rw[Bf,FZ hj]at hv;simpa using hv)
  have hst2:(storeCells ⟨b,i0*e1.sz,none⟩ ((List.range (news.length*e1.sz)).map f)).run C.P w=.ok () (World.setBlk w b cs' e1.T):=by
   rw[hst,Lx hb]
  have hrun:(Builtin.copy_ #[t,t'] o.type #[.slice (some ⟨b,i0*e1.sz,none⟩) len cap,.slice (some a) news.length c]).run C.P w=.ok (goInt news.length) (World.setBlk w b cs' e1.T):=by
   simp[Builtin.copy_,BS k1,Builtin.lenOf,sizeOf,typeInfo,k2,k3,hmin,hfc];rw[hst2];rfl
  simp only[ho,resolve,invoke,builtin,Sem.run_bind,Sem.run_pure,Result.andThen_ok,List.map_toArray,BY,List.map_nil,hvx,hvy,hrun]
theorem iP {tt:Nat->Option AL}(htt:A7 C.P tt){t t' e esz eby k gg i0 len:Nat}{ez:Value}{x y:Operand}{i:AL}{e1:AK}{news:List D}{p:Prop}(hw:Am ops s.env o=some true)
  (ho:o.op=.call ⟨.builtin .copy,#[x,y],#[t,t']⟩) (hi:tt t=some i) (hk:i.ti=.slice e esz eby ez) (h1:wkD (AV s.env x)=.osl k gg esz i0 len) (he:Hp.get s.H k=some e1) (hgg:gg=e1.g) (hs1:esz=e1.sz) (hsrc:DC s.H esz (wkD (AV s.env y))=some (news,p)) (hp:p)
  (hle:news.length<=len) (hle2:i0+len<=e1.es.length) (hpos:news≠[]) (h:AR C F ops os ⟨Ak s.env o.dst (.prim (.int .i64 (news.length:Nat))),Hp.set s.H k ⟨e1.k,e1.g,e1.T,e1.sz,e1.es.take i0++(news++e1.es.drop (i0+news.length))⟩,s.n+1⟩ K):AR C F ops (o::os) s K:=
 AR.step hw (λρ a w hs=>by
  obtain⟨w',r1,r2,r3⟩:=VX (g:=λx=>wkD (AV s.env x)) htt hs.mem (λx=>(BN hs.env x).wkD) ho hi hk h1 he hgg hs1 hsrc hp hle hle2 hpos;refine⟨_,ρ,w',.inl r1,⟨r2,r3,λk g hg=>hs.fresh k g (by omega),.prim _⟩,λe2 he2=>?_⟩;obtain⟨H1,H2,q1,q2,_⟩:=GM ⟨e1.k,e1.g,e1.T,e1.sz,e1.es.take i0++(news++e1.es.drop (i0+news.length))⟩ he;have hold:∀e3∈s.H,e3.g<s.n+1:=λe3 h3=>BK (hs.gen e3 h3)
  rw[q2]at he2;rw[q1]at hold;rcases BR.1 he2 with h|h
  ·exact hold e2 (by simp[h])
  ·rcases Ah.1 h with rfl|h
   ·exact hold e1 (by simp)
   ·exact hold e2 (by simp[h])) h
end
def Hs (tt:Nat->Option AL)(g:Operand->D)(op:Op):Option D:=match EJ tt 0 0 g op with
 |some (d,e,_)=>match IB tt g op with
  |true=>match d with
   | .osl _ _ sz 0 _=>some (.sl true sz e.es)
   |_=>none
  |false=>none
 |none=>none
section
variable {C:AZ} {F:AI} {ρ:Lk} {H:Hp} {w:World}
theorem Rk {tt:Nat->Option AL}{o:Oper}{g:Operand->D}{ev:Operand->Value}{d:D}(htt:A7 C.P tt)(m:AQ C F ρ H w)
  (hg:∀x,AG ρ (AF F.X ρ H) w (g x) (ev x)) (h:Hs tt g o.op=some d):
  ∃v w',(execOp ev o).run C.P w=.ok (.value v) w'/\AQ C F ρ H w'/\Ao ρ (AF F.X ρ H) w ρ (AF F.X ρ H) w'/\AG ρ (AF F.X ρ H) w' d v:=by
 unfold Hs at h;split at h<;>try(cases h;done)
 rename_i d0 e0 p he;split at h<;>try(cases h;done)
 rename_i hok;have hp:=O9 he hok;split at h<;>try(cases h;done)
 rename_i k0 g0 sz len;cases h;unfold EJ at he;split at he<;>try(cases he;done)
 rename_i t l c ho;split at he<;>try(cases he;done)
 rename_i i hi;split at he<;>try(cases he;done)
 rename_i e esz eby ez hk;split at he<;>try(cases he;done)
 rename_i kl a hl;split at he<;>try(cases he;done)
 rename_i kc b hc;cases he;obtain⟨h0,hab,hby,hmx,hz1⟩:=hp;obtain⟨k1,⟨inf,k2,rfl,rfl,k5⟩,k6,k7⟩:=CM (htt _ _ hi) hk;have h1:=hg l;have h2:=hg c;rw[hl]at h1;rw[hc]at h2;generalize hvl:ev l=vl at h1;generalize hvc:ev c=vc at h2;cases h1;cases h2;have run:=run_make (P:=C.P) w t e inf ez k1 k2 k5 kl kc a b h0 hab hby hmx;have hz1:=Nat.pos_of_ne_zero (Gi hz1);have hcell:∀q,q<b.toNat*inf.size->(madeCells ez.cells (b.toNat*inf.size)).getD q undef=ez.cells.getD (q%inf.size) undef/\q%inf.size<ez.cells.size:=λq hq=>by
  have hm:=Gn q hz1;refine⟨?_,by omega⟩;unfold madeCells;rw[AT,Array.getElem?_map,BF (by simp;exact hq),AT];simp only[Array.getElem_range,Fu,Gp];rw[k6,getElem!_pos ez.cells (q%inf.size) (by omega),D8];rfl
 have hle:a.toNat<=b.toNat:=by omega
 obtain⟨hec1,hec2⟩:=RG k6 k7;generalize hcs:madeCells ez.cells (b.toNat*inf.size)=cs at run hcell;have hsz:cs.size=b.toNat*inf.size:=by rw[<-hcs,size_madeCells]
 have hlt:∀q,q<a.toNat*inf.size->q<b.toNat*inf.size:=λq hq=>CU hq (Br _ hle)
 refine⟨.slice (some ⟨w.heap.size,0,none⟩) a.toNat b.toNat,_,?_,m.allocPure (.cells cs e),.allocPure _,?_⟩
 ·unfold execOp
  simp only[ho,hvl,hvc];rw[run_bind,run];rfl
 ·refine .sl (λj=>cs.getD j undef) (by simp) hle (λho=>by have:=m.own_lt ho;omega) (by simp) (λq d hd=>?_) (λj hj=>?_) (λj hj=>?_) λq d j c hd hcj=>?_
  ·obtain⟨_,rfl⟩:=Kf hd
   exact hec1
  ·have hj:=hlt j hj
   rw[B5,World.cell?_alloc_new,AT,D8];rfl
  ·have hj:=hlt j hj
   obtain⟨c1,c2⟩:=hcell j hj;rw[c1,AT,BF c2];exact k7 _ _ (BF c2)
  ·obtain⟨hq,rfl⟩:=Kf hd
   have hj:j<inf.size:=by rw[<-hec1];exact(Ay.1 hcj).1
   rw[hec2 j c hcj];have hlt2:q*inf.size+j<b.toNat*inf.size:=by
    have:(q+1)*inf.size<=b.toNat*inf.size:=Br _ (by omega)
    rw[Ba]at this;omega
   rw[(hcell _ hlt2).1,J0,Nat.mul_add_mod,NM hj];exact .prim _
end
section
variable {C:AZ} {F:AI} {s:St} {ops:Array Oper} {o:Oper} {os:List Oper} {K:St->Prop}
theorem AR.mkS {tt:Nat->Option AL}(htt:A7 C.P tt){d:D}(hw:Am ops s.env o=some true)(he:Hs tt (AV s.env) o.op=some d)
  (h:AR C F ops os ⟨Ak s.env o.dst d,s.H,s.n+1⟩ K):AR C F ops (o::os) s K:=
 AR.step hw (λρ a w hs=>by
  obtain⟨v,w',h1,h2,h3,h4⟩:=Rk htt hs.mem (BN hs.env) he;exact⟨v,ρ,w',.inl h1,⟨h2,h3,λk g hg=>hs.fresh k g (by omega),h4⟩,λe he=>BK (hs.gen e he)⟩) h
end
section
variable {C:AZ} {F:AI} {ops:Array Oper} {H:Hp} {g:Nat} {env:Ab} {o:Oper} {tt:Nat->Option AL}
theorem Vb {n k:Nat}{g g':Operand->D}{op:Op}(h:∀x∈op.operands,g x=g' x):EJ tt n k g op=EJ tt n k g' op:=by
 cases op<;>simp only[Op.operands]at h<;>try rfl
 case makeSlice t l c=>simp only[EJ];rw[h l (by simp),h c (by simp)]
theorem V8 {g g':Operand->D}{op:Op}(h:∀x∈op.operands,g x=g' x):IB tt g op=IB tt g' op:=by
 cases op<;>simp only[Op.operands]at h<;>try rfl
 case makeSlice t l c=>simp only[IB];rw[h l (by simp),h c (by simp)]
theorem A0.mkS (htt:A7 C.P tt){d:D}(hw:Am ops env o=some true)(he:Hs tt (AV env) o.op=some d):A0 C F ops H g env o d none:=by
 refine⟨by simp,λHe ρ a w m _ _ _ hr=>.inr ⟨Dx hr hw,.inl ?_⟩⟩;obtain⟨g',h1,h2⟩:=EA hr;have he2:Hs tt g' o.op=some d:=by
  unfold Hs at he⊢;rw[<-Vb h1,<-V8 h1];exact he
 obtain⟨v,w',r1,r2,r3,r4⟩:=Rk htt m h2 he2;exact⟨v,ρ,w',r1,r2,r3,λ_ _ _=>rfl,r4⟩
end
section
variable {C:AZ} {F:AI} {ρ:Lk} {H:Hp} {w:World}
theorem Uz {t eby ty n k:Nat}{ez:Value}{e:AK}(T:GI C.P t e.T e.sz eby ez){b len cap:Nat}(m:AQ C F ρ H w)(hm:e∈H)(hr:ρ e.k e.g=some b)(hle:len<=e.es.length)
  {cs:Array Value} (hbk:w.heap[b]?=some (.cells cs e.T (0,0))) (fr:∀k,ρ k n=none) (hlt:∀e'∈H,e'.g≠n) {news:List D} {f:Nat->Value} {u:Nat} {sv:Value}
  (S:LF C.P w t u ty e.T e.sz eby ez sv news.length f) (hs:Il ρ (AF F.X ρ H) w e.sz news f) (hfull:cap<len+news.length) (hby:(len+news.length)*eby<=140737488355328) (h1:1<=eby):
  ∃v ρ' w',(Builtin.append_ #[t,u] ty #[.slice (some ⟨b,0,none⟩) len cap,sv]).run C.P w=.ok v w' /\
   EW C F H ρ w n (.osl k n e.sz 0 (len+news.length)) (⟨k,n,e.T,e.sz,e.es.take len++news⟩::H) v ρ' w':=by
 obtain⟨cs0,q1,q2⟩:=m.atC hm hr hbk;have hz0:e.sz≠0:=m.szC hm hr hbk;rw[hbk]at q1;cases q1;have hlc:len*e.sz<=cs.size:=Az (Br _ hle) q2.len;have hmx:len+news.length<=maxLen:=by
  have:=J5 (len+news.length) h1
  simp only[maxLen];omega
 have run:=S.grow b len cap cs hbk hlc hfull hby;generalize hcap':grownCap w (len+news.length) cap e.T=cap' at run;have hge:len+news.length<=cap':=by rw[<-hcap'];exact grownCap_ge ..
 have hmx':cap'<=maxLen:=by rw[<-hcap'];exact grownCap_le_maxLen _ _ _ _ hmx
 generalize hcs':(cs.toList.take (len*e.sz)).toArray++((List.range (news.length*e.sz)).map f).toArray++Builtin.zeroCells ez.cells (cap'-(len+news.length))=cs' at run;have s1:(cs.toList.take (len*e.sz)).toArray.size=len*e.sz:=by simp;omega
 have s2:((List.range (news.length*e.sz)).map f).toArray.size=news.length*e.sz:=by simp
 have hsz':cs'.size=cap'*e.sz:=by
  rw[<-hcs',DP,DP,s1,s2,size_zeroCells,T.zs,<-Ba,<-Ba]
  congr 1;omega
 have ho:B2 ρ (AF F.X ρ H) w.drew ⟨k,n,e.T,e.sz,e.es.take len++news⟩ cs':=by
  have hlow:∀q,q<len*e.sz->cs'.getD q undef=cs.getD q undef:=λq hq=>by
   rw[<-hcs',GV (by rw[DP];omega),GV (by omega)];simp only[AT,EI,Cx,AM hq];simp
  have hmid:∀j,j<news.length*e.sz->cs'.getD (len*e.sz+j) undef=f j:=λj hj=>by
   rw[<-hcs',GV (by rw[DP];omega),Nr (by omega),s1,show len*e.sz+j-len*e.sz=j from by omega];simp[AT,hj]
  refine(Ow q2 hle hs hlow hmid (by rw[hsz'];exact Br _ hge) λq v hv=>?_).mono (Ao.drew ρ (AF F.X ρ H) w);rw[<-hcs']at hv;rcases Aq q (len*e.sz+news.length*e.sz)with hq|hq
  ·rw[D5 (by rw[DP];omega)]at hv
   rcases Aq q (len*e.sz)with hq2|hq2
   ·rw[D5 (by omega)]at hv
    simp only[EI,Cx,AM hq2]at hv;exact q2.one q v (by simpa using hv)
   ·rw[D4 (by omega),s1]at hv
    simp only[EI,Bf]at hv;rw[FZ (by omega)]at hv;cases hv;exact hs.one _ (by omega)
  ·rw[D4 (by rw[DP];omega)]at hv
   exact KL T.zo _ _ v hv
 obtain⟨m1,x1⟩:=m.drew.alloc ⟨k,n,e.T,e.sz,e.es.take len++news⟩ cs' (fr k) (λe' he' h=>hlt e' he' h.2) hz0 ho;refine⟨_,_,_,run,m1,(Ao.drew _ _ _).trans x1,λk' g' hg=>by unfold Lk.put;rw[AN λh=>hg h.2],?_⟩;exact LP (b:=w.heap.size) (T:=e.T) (cs:=cs') (fz:=(0,0)) (CO _ _ _ _) (by rw[Cc];exact AM rfl) hge hsz'.symm hmx'
end
def PX (tt:Nat->Option AL)(H:Hp)(n k:Nat)(g:Operand->D)(args:List Operand)(tys:List Nat):Option (D×AK):=match args with
 | [s,x]=>match tys with
  | [t,t']=>match Nat.beq t t' with
   |true=>match tt t with
    |some i=>match i.ti with
     | .slice e esz eby _=>match g s with
      | .oxl k1 g1 sz 0 len cap=>match Hp.get H k1 with
       |some e1=>match DC H esz (wkD (g x))with
        |some (a::news,_)=>match Hk H esz (wkD (g x))&&(Nat.ble 1 eby&&Nat.ble ((len+(a::news).length)*eby) 140737488355328&&Nat.beq g1 e1.g&&Nat.beq sz e1.sz&&Nat.beq sz esz&&Nat.beq e1.T e&&Nat.ble len e1.es.length&&Nat.blt cap (len+(a::news).length))with
         |true=>some (.osl k n esz 0 (len+(a::news).length),⟨k,n,e,esz,e1.es.take len++(a::news)⟩)
         |false=>none
        |_=>none
       |none=>none
      |_=>none
     |_=>none
    |none=>none
   |false=>none
  |_=>none
 |_=>none
section
variable {C:AZ} {F:AI} {s:St} {ops:Array Oper} {o:Oper} {os:List Oper} {K:St->Prop}
theorem iR {tt:Nat->Option AL}(k:Nat)(htt:A7 C.P tt){args:Array Operand}{tys:Array Nat}{d:D}{e':AK}(hw:Am ops s.env o=some true)(ho:o.op=.call ⟨.builtin .append,args,tys⟩)
  (h:PX tt s.H s.n k (AV s.env) args.toList tys.toList=some (d,e')) (hk':AR C F ops os ⟨Ak s.env o.dst d,e'::s.H,s.n+1⟩ K):AR C F ops (o::os) s K:=by
 unfold PX at h;split at h<;>try(cases h;done)
 rename_i y x hargs;split at h<;>try(cases h;done)
 rename_i t t' htys;split at h<;>try(cases h;done)
 rename_i hbt;obtain rfl:=Ae hbt;split at h<;>try(cases h;done)
 rename_i i hi;split at h<;>try(cases h;done)
 rename_i e esz eby ez hk;split at h<;>try(cases h;done)
 rename_i k1 g1 sz len cap hgs;split at h<;>try(cases h;done)
 rename_i e1 he1;split at h<;>try(cases h;done)
 rename_i n0 news p hsrc;split at h<;>try(cases h;done)
 rename_i hb;cases h;simp only[Ag]at hb;obtain⟨b0,⟨⟨⟨⟨⟨⟨⟨b1,b2⟩,b3⟩,b4⟩,b5⟩,b6⟩,b7⟩,b8⟩⟩:=hb;obtain rfl:=Ae b3;obtain rfl:=Ae b4;obtain rfl:=Ae b5;obtain rfl:=Ae b6;have hargs':args = #[y,x]:=by rw[<-D6 (xs:=args),hargs]
 have htys':tys = #[t,t]:=by rw[<-D6 (xs:=tys),htys]
 subst hargs' htys';obtain⟨c1,⟨inf,c2,c3,c4,c5⟩,c6,c7⟩:=CM (htt _ _ hi) hk;have T:GI C.P t e1.T e1.sz eby ez:=⟨c1,⟨inf,c2,c3,c4,c5⟩,c6,c7⟩
 obtain⟨hm,hke⟩:=Hp.get_mem he1;refine AR.step hw (λρ a w hs=>?_) hk';have hx:=(BN hs.env x).wkD;have hsr:=hgs ▸ BN hs.env y;generalize hvx:a.eval x=vx at hx;generalize hvs:a.eval y=vs at hsr;have fr:∀k,ρ k s.n=none:=λk=>hs.fresh k _ (Ad _)
 have hlt:∀e∈s.H,e.g≠s.n:=λe he=>Nat.ne_of_lt (hs.gen e he)
 have fin:(∃v ρ' w',(Builtin.append_ #[t,t] o.type #[vs,vx]).run C.P w=.ok v w'/\EW C F s.H ρ w s.n (.osl k s.n e1.sz 0 (len+(n0::news).length)) (⟨k,s.n,e1.T,e1.sz,e1.es.take len++(n0::news)⟩::s.H) v ρ' w') ->
   ∃v ρ' w',(execOp a.eval o).run C.P w=.ok (.value v) w'/\EW C F s.H ρ w s.n (.osl k s.n e1.sz 0 (len+(n0::news).length)) (⟨k,s.n,e1.T,e1.sz,e1.es.take len++(n0::news)⟩::s.H) v ρ' w':=by
  rintro⟨v,ρ',w',h3,h4⟩;refine⟨v,ρ',w',?_,h4⟩;unfold execOp;simp only[ho,resolve,invoke,builtin,Sem.run_bind,Sem.run_pure,Result.andThen_ok,List.map_toArray,BY,List.map_nil,hvx,hvs,h3]
 have key:∃v ρ' w',(Builtin.append_ #[t,t] o.type #[vs,vx]).run C.P w=.ok v w'/\EW C F s.H ρ w s.n (.osl k s.n e1.sz 0 (len+(n0::news).length)) (⟨k,s.n,e1.T,e1.sz,e1.es.take len++(n0::news)⟩::s.H) v ρ' w':=by
  cases hsr with
  |oxl hr hbk hc hcs hmx=>
   rename_i b T0 cs fz;rw[<-hke]at hr;obtain⟨cs0,q1,q2⟩:=hs.mem.atC hm hr hbk;rw[hbk]at q1;cases q1;rw[GQ];rcases IY hs.mem hsrc (IU hsrc b0) hx with⟨-,q⟩|⟨ad,c,f,rfl,hcc,hsc⟩
   ·cases q
   ·exact Uz T hs.mem hm hr (BD b7) hbk fr hlt (Ll T (BD b1) hsc) hsc.srcv (BD b8) (BD b2) (BD b1)
 obtain⟨v,ρ',w',h1,h2⟩:=fin key;refine⟨v,ρ',w',.inl h1,⟨h2.mem,h2.ext,λk g hg=>by rw[h2.far k g (by omega)];exact hs.fresh k g (by omega),h2.rep⟩,λe he2=>?_⟩;rcases Ah.1 he2 with rfl|he2
 ·exact Ft _
 ·exact BK (hs.gen e he2)
end
def S2 (tt:Nat->Option AL)(g:Operand->D)(H:Hp)(n:Nat)(args:List Operand)(tys:List Nat):Option (D×Hp×Nat):=match args with
 | [x,y]=>match tys with
  | [t,_]=>match tt t with
   |some i=>match i.ti with
    | .slice _ esz _ _=>match wkD (g x)with
     | .osl k gg sz i0 len=>match DC H esz (wkD (g y))with
      |some ([],_)=>match Hk H esz (wkD (g y))with
       |true=>some (.prim (.int .i64 0),H,n+1)
       |false=>none
      |some (news,_)=>match Hp.get H k with
       |some e1=>match Hk H esz (wkD (g y))&&(Nat.beq gg e1.g&&Nat.beq sz esz&&Nat.beq esz e1.sz&&Nat.ble news.length len&&Nat.ble (i0+len) e1.es.length&&Nat.ble 1 news.length)with
        |true=>some (.prim (.int .i64 (news.length:Nat)),Hp.set H k ⟨e1.k,e1.g,e1.T,e1.sz,e1.es.take i0++(news++e1.es.drop (i0+news.length))⟩,n+1)
        |false=>none
       |none=>none
      |none=>none
     |_=>none
    |_=>none
   |none=>none
  |_=>none
 |_=>none
def PO (tt:Nat->Option AL)(g:Operand->D)(H:Hp)(n:Nat)(op:Op):Option (D×Hp×Nat):=match Gc tt g op with
 |some d=>some (d,H,n+1)
 |none=>match CG tt (λx=>wkD (g x)) op with
  |some (d,_)=>match Ed tt (λx=>wkD (g x)) op with
   |true=>some (d,H,n+1)
   |false=>none
  |none=>match op with
   | .call ⟨.builtin .append,args,tys⟩=>match Jo tt H n n g args.toList tys.toList with
    |some (d,e)=>some (d,e::H,n+1)
    |none=>match PX tt H n n g args.toList tys.toList with
     |some (d,e)=>some (d,e::H,n+1)
     |none=>match Cf tt H n n (λx=>wkD (g x)) op with
      |some (d,H',_)=>match KA tt H (λx=>wkD (g x)) op with
       |true=>some (d,H',n+1)
       |false=>none
      |none=>none
   | .call ⟨.builtin .copy,args,tys⟩=>S2 tt g H n args.toList tys.toList
   |_=>none
def PJ (tt:Nat->Option AL)(g:Operand->D)(op:Op):Option D:=match Gc tt g op with
 |some d=>some d
 |none=>match Hs tt g op with
  |some d=>some d
  |none=>match CG tt (λx=>wkD (g x)) op with
   |some (d,_)=>match Ed tt (λx=>wkD (g x)) op with
    |true=>some d
    |false=>none
   |none=>none
section
variable {C:AZ} {F:AI} {s:St} {ops:Array Oper} {o:Oper} {os:List Oper} {K:St->Prop}
theorem iL {tt:Nat->Option AL}(k:Nat)(htt:A7 C.P tt){d:D}{H':Hp}{p:Prop}(hw:Am ops s.env o=some true)(he:Cf tt s.H s.n k (λx=>wkD (AV s.env x)) o.op=some (d,H',p))(hp:p)
  (h:AR C F ops os ⟨Ak s.env o.dst d,H',s.n+1⟩ K):AR C F ops (o::os) s K:=
 AR.step hw (λρ a w hs=>by
  obtain⟨v,ρ',w',h1,h2⟩:=L3 htt hs.mem (λk=>hs.fresh k _ (Ad _)) (λe he=>Nat.ne_of_lt (hs.gen e he)) (λx=>(BN hs.env x).wkD) he hp;refine⟨v,ρ',w',.inl h1,⟨h2.mem,h2.ext,λk g hg=>by rw[h2.far k g (by omega)];exact hs.fresh k g (by omega),h2.rep⟩,Rg he hs.gen⟩) h
theorem iO {tt:Nat->Option AL}(htt:A7 C.P tt){t t' e esz eby k gg sz j len:Nat}{ez:Value}{x y:Operand}{i:AL}{p:Prop}(hw:Am ops s.env o=some true)
  (ho:o.op=.call ⟨.builtin .copy,#[x,y],#[t,t']⟩) (hi:tt t=some i) (hk:i.ti=.slice e esz eby ez) (h1:wkD (AV s.env x)=.osl k gg sz j len) (hsrc:DC s.H esz (wkD (AV s.env y))=some ([],p)) (hp:p)
  (h:AR C F ops os ⟨Ak s.env o.dst (.prim (.int .i64 0)),s.H,s.n+1⟩ K):AR C F ops (o::os) s K:=
 AR.step hw (λρ a w hs=>by
  have hx:=h1 ▸ (BN hs.env x).wkD;have hy:=(BN hs.env y).wkD;generalize hvx:a.eval x=vx at hx;generalize hvy:a.eval y=vy at hy;obtain⟨k1,⟨inf,k2,k3,k4,k5⟩,k6,k7⟩:=CM (htt _ _ hi) hk;have hrun:(Builtin.copy_ #[t,t'] o.type #[vx,vy]).run C.P w=.ok (goInt 0) w:=by
   have hsrc0:∃cap ao,vy=.slice ao 0 cap:=by
    rcases IY hs.mem hsrc hp hy with⟨rfl,-⟩|⟨a,c,f,rfl,_,_⟩
    ·exact⟨_,_,rfl⟩
    ·exact⟨_,_,rfl⟩
   obtain⟨cap,ao,rfl⟩:=hsrc0;have hfc:(Builtin.firstCells inf.size 0 (.slice ao 0 cap)).run C.P w=.ok #[] w:=by
    cases ao with
    |none=>exact run_firstCells_none _ _ _ _ _
    |some a=>exact run_firstCells_some (P:=C.P) w inf.size 0 a 0 cap [] (by simp) (by simp)
   have hmin:Nat.min 0 len=0:=Nat.zero_min len;cases hx with
   |onil=>simp[Builtin.copy_,BS k1,Builtin.lenOf,sizeOf,typeInfo,k2,hfc]
   |osl hr hb hc hs hm=>simp[Builtin.copy_,BS k1,Builtin.lenOf,sizeOf,typeInfo,k2,hfc,hmin,storeCells]
  refine⟨.int .i64 0,ρ,w,.inl ?_,.pure hs (.prim _),λe he=>BK (hs.gen e he)⟩;unfold execOp;simp only[ho,resolve,invoke,builtin,Sem.run_bind,Sem.run_pure,Result.andThen_ok,List.map_toArray,BY,List.map_nil,hvx,hvy,hrun];rfl) h
theorem WW {tt:Nat->Option AL}(htt:A7 C.P tt){d:D}{H':Hp}{n':Nat}(hw:Am ops s.env o=some true)(h:PO tt (AV s.env) s.H s.n o.op=some (d,H',n'))
  (hk':AR C F ops os ⟨Ak s.env o.dst d,H',n'⟩ K):AR C F ops (o::os) s K:=by
 unfold PO at h;split at h
 ·rename_i he
  cases h;exact AR.exact htt hw he hk'
 ·split at h
  ·rename_i he
   split at h<;>try(cases h;done)
   rename_i hb;cases h;exact AR.wkP htt hw he (Kt he hb) hk'
  ·split at h<;>try(cases h;done)
   ·rename_i args tys ho
    split at h
    ·rename_i he
     cases h;exact hC s.n htt hw ho he hk'
    ·split at h
     ·rename_i he
      cases h;exact iR s.n htt hw ho he hk'
     ·split at h<;>try(cases h;done)
      rename_i he;split at h<;>try(cases h;done)
      rename_i hb;cases h;exact iL s.n htt hw he (MY he hb) hk'
   ·rename_i args tys ho
    unfold S2 at h;split at h<;>try(cases h;done)
    rename_i x y hargs;split at h<;>try(cases h;done)
    rename_i t t' htys;split at h<;>try(cases h;done)
    rename_i i hi;split at h<;>try(cases h;done)
    rename_i e esz eby ez hk;split at h<;>try(cases h;done)
    rename_i k gg sz i0 len hx;have hargs':args = #[x,y]:=by rw[<-D6 (xs:=args),hargs]
    have htys':tys = #[t,t']:=by rw[<-D6 (xs:=tys),htys]
    subst hargs' htys';split at h<;>try(cases h;done)
    ·rename_i p hsrc
     split at h<;>try(cases h;done)
     rename_i hb;cases h;exact iO htt hw ho hi hk hx hsrc (IU hsrc hb) hk'
    ·rename_i news p _ hsrc
     split at h<;>try(cases h;done)
     rename_i e1 he;split at h<;>try(cases h;done)
     rename_i hb;cases h;simp only[Ag]at hb;obtain⟨b0,⟨⟨⟨⟨⟨b1,b2⟩,b3⟩,b4⟩,b5⟩,b6⟩⟩:=hb;obtain rfl:=Ae b2;exact iP htt hw ho hi hk hx he (Ae b1) (Ae b3) hsrc (IU hsrc b0) (BD b4) (BD b5) (λh0=>by
      have:=BD b6
      rw[h0]at this;simp at this) hk'
theorem Wp {H:Hp}{g:Nat}{env:Ab}{tt:Nat->Option AL}(htt:A7 C.P tt){d:D}(hw:Am ops env o=some true)(h:PJ tt (AV env) o.op=some d):A0 C F ops H g env o d none:=by
 unfold PJ at h;split at h
 ·rename_i he
  cases h;exact A0.exact htt hw he
 ·split at h
  ·rename_i he
   cases h;exact A0.mkS htt hw he
  ·split at h<;>try(cases h;done)
   rename_i he;split at h<;>try(cases h;done)
   rename_i hb;cases h;exact A0.wkP htt hw he (Kt he hb)
theorem iJ {W:WR}{Q:Exit->St->Prop}{pre suf:List Nat}{envF:Ab}{N:Hp}(hc:FX ops pre suf=true)
  (hH:s.H.Perm W.start) (hga:∀ia,W.ia=some ia->W.e.g=s.n+ia/\Cd ops W.iw ia/\ia∈pre) (hiw:W.iw∈pre) (hwg:W.e'.g=W.e.g\/W.e'.g=s.n+W.iw)
  (hpre:GJ C F ops W s.n pre s.env [] envF N)
  (h:AR C F ops (suf.map λj=>ops.getD j default) ⟨envF,N++W.e'::W.R,s.n+ops.size⟩ (Q .normal)):Eu C F ops s Q:=λhd ρ a w hs=>by
 refine L1 (λe a w h=>?_) _ _ _ _ (UI hc hH hga hiw hwg hpre h hd ρ a w hs);obtain⟨rfl,s',ρ',h1,h2⟩:=h;exact⟨s',ρ',h1,h2⟩
end
def K5 (z:Nat)(S:List Nat):Nat->List Oper->List Oper
 |_,[]=>[]
 |i,o::l=>(match Nat.beq i z with
  |true=>{ o with after:=(o.after.toList++S.map λs=>(⟨s,.data⟩:Edge)).toArray }
  |false=>o)::K5 z S (i+1) l
def push (ops:Array Oper)(z:Nat)(S:List Nat):Array Oper:=(K5 z S 0 ops.toList).toArray
def FT (z:Nat)(S:List Nat)(i:Nat)(o:Oper):Oper:=match Nat.beq i z with
  |true=>{ o with after:=(o.after.toList++S.map λs=>(⟨s,.data⟩:Edge)).toArray }
  |false=>o
theorem Qf (z:Nat)(S:List Nat):∀(l:List Oper) (k i:Nat),(K5 z S k l)[i]?=(l[i]?).map (FT z S (k+i))
 | [],_,_=>rfl
 |o::l,k,0=>rfl
 |o::l,k,i+1=>by
  show(K5 z S (k+1) l)[i]?=(l[i]?).map _;rw[Qf z S l (k+1) i,show k+1+i=k+(i+1)from by omega]
theorem Qg (z:Nat)(S:List Nat):∀(l:List Oper) (k:Nat),(K5 z S k l).length=l.length
 | [],_=>rfl
 |_::l,k=>congrArg (· + 1) (Qg z S l (k+1))
theorem Ke (ops:Array Oper)(z:Nat)(S:List Nat)(i:Nat):(push ops z S)[i]?=(ops[i]?).map (FT z S i):=by
 unfold push;rw[EI,Qf,FC,B5]
theorem Lv (ops:Array Oper)(z:Nat)(S:List Nat):(push ops z S).size=ops.size:=by
 unfold push;rw[Pn,Qg,GO]
theorem OH (z:Nat)(S:List Nat)(i:Nat)(o:Oper):(FT z S i o).op=o.op/\(FT z S i o).dst=o.dst/\(FT z S i o).guard=o.guard:=by
 unfold FT;split<;>exact⟨rfl,rfl,rfl⟩
theorem Q2 (z:Nat)(S:List Nat)(i:Nat)(o:Oper)(ρ:Operand->Value):execOp ρ (FT z S i o)=execOp ρ o:=by
 unfold FT;split<;>rfl
theorem Qh (ops:Array Oper)(z:Nat)(S:List Nat)(i:Nat)(hz:i≠z):Bd (push ops z S) i=Bd ops i:=by
 unfold Bd;rw[Ke];cases ops[i]? with
 |none=>rfl
 |some o=>
  simp only[Fu];unfold FT;split
  ·rename_i h;exact AW (Ae h) hz
  ·rfl
theorem L0 (ops:Array Oper)(z:Nat)(S:List Nat)(hz:z<ops.size):Bd (push ops z S) z=Bd ops z++S:=by
 unfold Bd;rw[Ke,BF hz];simp only[Fu,FT,Fx];rw[List.filterMap_append]
 congr 1
 induction S with
 |nil=>rfl
 |cons s S ih=>simp only[BY,J3];rw[ih];rfl
theorem Uh (ops:Array Oper)(z:Nat)(S:List Nat)(tmps:Array Value):yielded (push ops z S) tmps=yielded ops tmps:=by
 funext j
 unfold yielded;rw[Ke];cases ops[j]? with
 |none=>rfl
 |some o=>simp[(OH z S j o).2.1]
def Ju:Op->Bool
 | .move _ | .assign _ | .extract _ _=>true
 |_=>false
theorem XQ {P:Program}{o:Oper}(h:Ju o.op=true)(ρ:Operand->Value){w w':World}{n:Next}(hr:(execOp ρ o).run P w=.ok n w'):∃v,n=.value v/\∀w0,(execOp ρ o).run P w0=.ok (.value v) w0:=by
 unfold execOp at*;unfold Ju at h;split at h<;>try(cases h;done)
 ·rename_i ho;simp only[ho]at hr⊢;cases hr;exact⟨_,rfl,λ_=>rfl⟩
 ·rename_i ho;simp only[ho]at hr⊢;cases hr;exact⟨_,rfl,λ_=>rfl⟩
 ·rename_i x i ho
  simp only[ho]at hr⊢;unfold Instr.extract at*;split at hr
  ·split at hr
   ·cases hr;exact⟨_,rfl,λ_=>rfl⟩
   ·cases hr
  ·cases hr
theorem Vt {o:Op}(h:Ju o=true):∀cs b,o≠.select cs b:=λcs b he=>by rw[he]at h;cases h
section
variable {P:Program} {ops:Array Oper} {Q:Exit->Act->World->Prop}
theorem JG {z:Nat}{S:List Nat}{i:Nat}{K:Act->World->Prop}{a:Act}{w:World}:wpOp P (push ops z S) Q i K a w=wpOp P ops Q i K a w:=by
 unfold wpOp;rw[Ke];cases ho:ops[i]? with
 |none=>rfl
 |some o=>
  simp only[Fu,Uh];obtain⟨e1,e2,e3⟩:=OH z S i o;have e4:Region.wanted (FT z S i o) (yielded ops a.tmps)=Region.wanted o (yielded ops a.tmps):=by unfold Region.wanted;rw[e3]
  have e5:(FT z S i o).wp P a w K Q=o.wp P a w K Q:=by
   unfold Oper.wp;rw[Q2];unfold Oper.upon;rw[e2]
  have e6:(FT z S i o).asks P a w=o.asks P a w:=by unfold Oper.asks;rw[Q2]
  rw[e4,e5,e6,e2]
theorem Q3 {i:Nat}{K:Act->World->Prop}{a:Act}{w:World}(hN:∀e a w,Q e a w->e=.normal)(h:wpOp P ops Q i K a w):
  ∃a' w',K a' w'/\∀x,(∀o,ops[i]?=some o->∀t,o.dst=some t->x≠.tmp t)->a'.eval x=a.eval x:=by
 unfold wpOp at h;cases ho:ops[i]? with
 |none=>simp only[ho]at h;exact⟨a,w,h,λ_ _=>rfl⟩
 |some o=>
  simp only[ho]at h;have he:∀u x,(∀o',some o=some o'->∀t,o'.dst=some t->x≠.tmp t)->(a.put o.dst u).eval x=a.eval x:=λu x hx=>Act.eval_put λd hd=>hx o rfl d hd
  split at h
  ·rcases h with h|⟨_,a1,w1,h⟩
   ·unfold Oper.wp at h
    generalize(execOp a.eval o).run P w=r at*;cases r with
    |ok n w'=>
     cases n<;>simp only[Oper.upon]at h
     case value u=>exact⟨_,_,h,he u⟩
     case skip=>exact⟨_,_,h,he _⟩
     case defer df=>
      exact⟨_,_,h,λx hx=>(Act.eval_put (a:={ a with defers:=df::a.defers }) (x:=x) λd hd=>hx o rfl d hd).trans (by cases x<;>rfl)⟩
     case enter f args=>
      obtain⟨e,w'',_,hR,_⟩:=h [];cases e with
      |returned u=>exact⟨_,_,hR,he u⟩
      |panicked c=>exact AW (hN _ _ _ hR) (by simp)
      |outgrown=>obtain⟨a1,w1,hR⟩:=hR;exact AW (hN _ _ _ hR) (by simp)
     case row row args=>
      obtain⟨u,w'',hR,_⟩:=h default [];exact⟨_,_,hR,he u⟩
    |halt y w'=>cases y<;>simp only[Oper.upon]at h<;>exact AW (hN _ _ _ h) (by simp)
   ·exact AW (hN _ _ _ h) (by simp)
  ·exact⟨_,_,h,he _⟩
theorem Wi {i d:Nat}{xs:List Operand}{v:Value}{a:Act}{w:World}{K K':Act->World->Prop}
  (hi:∀o,ops[i]?=some o->(∀cs b,o.op≠.select cs b)/\d∉o.looksAt ops/\o.dst≠some d/\∀x∈xs,∀t,o.dst=some t->x≠.tmp t)
  (hN:∀e a w,Q e a w->e=.normal) (hK:∀a' w',(∀x∈xs,a'.eval x=a.eval x)->K a' w'->K' (a'.put (some d) v) w')
  (h:wpOp P ops Q i K a w):wpOp P ops Q i K' (a.put (some d) v) w:=by
 unfold wpOp at*;cases ho:ops[i]? with
 |none=>simp only[ho]at h⊢;exact hK _ _ (λ_ _=>rfl) h
 |some o=>
  simp only[ho]at h⊢;obtain⟨h1,h2,h3,h4⟩:=hi o ho;have hd:∀d',some d=some d'->d'∉o.looksAt ops:=λd' h'=>by cases h';exact h2
  have hc:∀(a:Act) u,((a.put (some d) v).put o.dst u)=(a.put o.dst u).put (some d) v:=λa u=>Act.put_comm a v u (λd' h'=>by cases h';exact h3)
  have he:∀u,∀x∈xs,(a.put o.dst u).eval x=a.eval x:=λu x hx=>Act.eval_put (h4 x hx)
  rw[wanted_put o a (some d) v hd];split
  ·rename_i hw
   rw[AM hw]at h;rcases h with h|⟨_,a1,w1,h⟩
   ·left
    unfold Oper.wp at*;rw[execOp_put (ops:=ops) o h1 a (some d) v hd];generalize(execOp a.eval o).run P w=r at*;cases r with
    |ok n w'=>
     cases n<;>simp only[Oper.upon]at h⊢
     case value u=>rw[hc];exact hK _ _ (he u) h
     case skip=>rw[hc];exact hK _ _ (he _) h
     case defer df=>
      rw[Act.put_defers,hc];refine hK _ _ (λx hx=>?_) h;exact(Act.eval_put (a:={ a with defers:=df::a.defers }) (x:=x) (h4 x hx)).trans (by cases x<;>rfl)
     case enter f args=>
      refine Calls.mono h λe w'' hh=>?_
      cases e with
      |returned u=>dsimp only at hh⊢;rw[hc];exact hK _ _ (he u) hh
      |panicked c=>exact AW (hN _ _ _ hh) (by simp)
      |outgrown=>exact hh
     case row row args=>exact Rows.mono h (λu w'' hh=>by rw[hc];exact hK _ _ (he u) hh)
    |halt y w'=>cases y<;>simp only[Oper.upon]at h⊢ <;> exact AW (hN _ _ _ h) (by simp)
   ·exact AW (hN _ _ _ h) (by simp)
  ·rename_i hw
   rw[AN hw]at h;rw[hc];exact hK _ _ (he _) h
theorem Cl.set {L:Array Bool}{i:Nat}(hL:L.size=ops.size)(hc:Cl ops L)(hd:∀j∈Bd ops i,L.getD j false=true):Cl ops (L.setIfInBounds i true):=λk hk hks j hj=>by
 by_cases hik:i=k
 ·subst hik;exact Ls.keep (hd j hj)
 ·rw[AT,DE,AN hik,<-AT]at hk
  exact Ls.keep (hc k hk hks j hj)
structure DX (ops:Array Oper)(z d:Nat)(S:List Nat)(oz:Oper):Prop where
 at_:ops[z]?=some oz
 reg:Ju oz.op=true
 dst:oz.dst=some d
 grd:oz.guard=none
 zS:z∉S
 lt:∀s∈S,s<ops.size
 dep:∀i,i<ops.size->z∈Bd ops i->∀s∈S,Cd ops i s
 oth:∀i o,i≠z->ops[i]?=some o->z∉Bd ops i->(∀cs b,o.op≠.select cs b)/\d∉o.looksAt ops/\o.dst≠some d
 src:∀i o,i≠z->ops[i]?=some o->i∉Bd ops z->∀x∈oz.op.operands.toList,∀t,o.dst=some t->x≠.tmp t
 ord:∀L:Array Bool,L.size=ops.size->(∃i,i<ops.size/\¬Ls L i)->∃i,i∈Region.ready .any (push ops z S) L
variable {z d:Nat} {S:List Nat} {oz:Oper}
theorem DX.ltz (m:DX ops z d S oz):z<ops.size:=(Bo.1 m.at_).1
theorem DX.rd' (m:DX ops z d S oz){L:Array Bool}{i:Nat}(h:i∈Region.ready .any (push ops z S) L):i∈Region.ready .any ops L:=by
 rw[CP]at h⊢;refine⟨by have:=h.1;rwa [Lv]at this,h.2.1,λj hj=>h.2.2 j ?_⟩
 by_cases hz:i=z
 ·subst hz;rw[L0 _ _ _ m.ltz];exact J1 _ hj
 ·rw[Qh _ _ _ _ hz];exact hj
theorem DX.rd (m:DX ops z d S oz){L:Array Bool}{i:Nat}(h:i∈Region.ready .any ops L)(hz:i≠z\/∀s∈S,Ls L s):i∈Region.ready .any (push ops z S) L:=by
 rw[CP]at h⊢;refine⟨by rw[Lv];exact h.1,h.2.1,λj hj=>?_⟩
 by_cases hiz:i=z
 ·subst hiz
  rw[L0 _ _ _ m.ltz]at hj;rcases BR.1 hj with hj|hj
  ·exact h.2.2 j hj
  ·exact hz.resolve_left (by simp) j hj
 ·rw[Qh _ _ _ _ hiz]at hj;exact h.2.2 j hj
theorem DX.wpz (m:DX ops z d S oz){K:Act->World->Prop}{a:Act}{w:World}{v:Value}(hv:∀w0,(execOp a.eval oz).run P w0=.ok (.value v) w0)(h:K (a.put (some d) v) w):wpOp P ops Q z K a w:=by
 unfold wpOp;simp only[m.at_];rw[AM (by unfold Region.wanted;rw[m.grd])];left;unfold Oper.wp;rw[hv w];show K (a.put oz.dst v) w;rw[m.dst];exact h
theorem DX.unz (m:DX ops z d S oz){K:Act->World->Prop}{a:Act}{w:World}(hN:∀e a w,Q e a w->e=.normal)(h:wpOp P ops Q z K a w):
  ∃v,(∀w0,(execOp a.eval oz).run P w0=.ok (.value v) w0)/\K (a.put (some d) v) w:=by
 unfold wpOp at h;simp only[m.at_]at h;rw[AM (by unfold Region.wanted;rw[m.grd])]at h;rcases h with h|⟨_,a1,w1,h⟩
 ·unfold Oper.wp at h
  cases hr:(execOp a.eval oz).run P w with
  |ok n w'=>
   obtain⟨v,rfl,hv⟩:=XQ m.reg a.eval hr
   have:=hv w
   rw[hr]at this;cases this;rw[hr]at h;refine⟨v,hv,?_⟩;have h:K (a.put oz.dst v) w:=h
   rwa [m.dst]at h
  |halt y w'=>
   rw[hr]at h;cases y<;>simp only[Oper.upon]at h<;>exact AW (hN _ _ _ h) (by simp)
 ·exact AW (hN _ _ _ h) (by simp)
theorem DX.keepv (m:DX ops z d S oz){a a':Act}{v:Value}(he:∀x∈oz.op.operands.toList,a'.eval x=a.eval x)(hv:∀w0,(execOp a.eval oz).run P w0=.ok (.value v) w0):∀w0,(execOp a'.eval oz).run P w0=.ok (.value v) w0:=λw0=>by
 rw[execOp_congr (ρ':=a.eval) oz (Vt m.reg) λx hx=>he x (Dc.2 hx)];exact hv w0
theorem ML {L:Array Bool}{i z:Nat}(h:i≠z)(hn:¬Ls L z):¬Ls (L.setIfInBounds i true) z:=λhl=>by
 unfold Ls at hl hn;rw[AT,DE,AN h,<-AT]at hl;exact hn hl
theorem DX.early (m:DX ops z d S oz)(hN:∀e a w,Q e a w->e=.normal):∀(fuel:Nat) (L:Array Bool) (a:Act) (w:World),L.size=ops.size->¬Ls L z->(∀j∈Bd ops z,Ls L j) ->
  wpAny P .any (push ops z S) Q fuel L a w->∃v,∀w0,(execOp a.eval oz).run P w0=.ok (.value v) w0
 | 0,L,a,w,hL,hn,hd,h=>by
  obtain⟨i,hi⟩:=m.ord L hL ⟨z,m.ltz,hn⟩;rw[h.1]at hi;cases hi
 |fuel+1,L,a,w,hL,hn,hd,h=>by
  obtain⟨i,hi⟩:=m.ord L hL ⟨z,m.ltz,hn⟩;have h1:=h.2 i hi;rw[JG]at h1
  by_cases hiz:i=z
  ·subst hiz
   obtain⟨v,hv,_⟩:=m.unz hN h1;exact⟨v,hv⟩
  ·obtain⟨a',w',hk,he⟩:=Q3 hN h1
   have hr:=CP.1 (m.rd' hi);obtain⟨v,hv⟩:=m.early hN fuel (L.setIfInBounds i true) a' w' (by simpa using hL) (ML hiz hn) (λj hj=>Ls.keep (hd j hj)) hk;refine⟨v,m.keepv (λx hx=>(he x λo ho t ht=>m.src i o hiz ho (λhdz=>?_) x hx t ht).symm) hv⟩
   have:=hd i hdz
   unfold Ls at this;have h2:=hr.2.1;rw[AT,BF (by have:=hr.1;omega)]at this h2;simp at this h2;rw[this]at h2;cases h2
theorem W7 (m:DX ops z d S oz):∀(fuel:Nat) (L:Array Bool) (a:Act) (w:World),Ls L z->wpAny P .any (push ops z S) Q fuel L a w->wpAny P .any ops Q fuel L a w:=by
 have hne:∀ {L:Array Bool},Ls L z->∀i,i∈Region.ready .any ops L->i≠z:=λ{L} hz i hi he=>by
  subst he;have hr:=CP.1 hi;have h2:=hr.2.1;unfold Ls at hz;rcases Aq i L.size with hl|hl
  ·rw[AT,BF hl]at hz h2
   simp at hz h2;rw[hz]at h2;cases h2
  ·rw[AT,Ix hl]at hz;cases hz
 intro fuel
 induction fuel with
 |zero=>exact λL a w hz h=>⟨R9 (λi hi=>m.rd hi (.inl (hne hz i hi))) h.1,h.2⟩
 |succ fuel ih=>
  exact λL a w hz h=>⟨λh0=>h.1 (R9 (λi hi=>m.rd' hi) h0),λi hi=>by
   have h1:=h.2 i (m.rd hi (.inl (hne hz i hi)));rw[JG]at h1;exact wpOp_mono (λa w hh=>ih _ a w hz.keep hh) h1⟩
theorem DX.swap (m:DX ops z d S oz)(hN:∀e a w,Q e a w->e=.normal):∀(fuel:Nat) (L:Array Bool) (a:Act) (w:World) (v:Value),L.size=ops.size->¬Ls L z->Cl ops L->(∀j∈Bd ops z,Ls L j) ->
  (∀w0,(execOp a.eval oz).run P w0=.ok (.value v) w0)->wpAny P .any (push ops z S) Q (fuel+1) L a w->wpAny P .any ops Q fuel (L.setIfInBounds z true) (a.put (some d) v) w:=by
 have hzr:∀ {L:Array Bool},L.size=ops.size->¬Ls L z->(∀j∈Bd ops z,Ls L j)->z∈Region.ready .any ops L:=λ{L} hL hn hd=>by
  rw[CP];refine⟨m.ltz,?_,hd⟩;unfold Ls at hn
  have:=m.ltz
  rw[AT,D8]at hn⊢;simpa using hn
 have done:∀(fuel:Nat) (L:Array Bool) (a:Act) (w:World) (v:Value),L.size=ops.size->¬Ls L z->(∀j∈Bd ops z,Ls L j)->(∀s∈S,Ls L s) ->
   (∀w0,(execOp a.eval oz).run P w0=.ok (.value v) w0)->wpAny P .any (push ops z S) Q (fuel+1) L a w->wpAny P .any ops Q fuel (L.setIfInBounds z true) (a.put (some d) v) w:=λfuel L a w v hL hn hd hS hv h=>by
  have h1:=h.2 z (m.rd (hzr hL hn hd) (.inr hS));rw[JG]at h1;obtain⟨v',hv',hk⟩:=m.unz hN h1
  have:v'=v:=by
   have e1:=hv' w;rw[hv w]at e1;cases e1;rfl
  subst this;exact W7 m _ _ _ _ ((Ls.set (by have:=m.ltz;omega)).2 (.inl rfl)) hk
 intro fuel
 induction fuel with
 |zero=>
  intro L a w v hL hn hc hd hv h
  by_cases hS:∀s∈S,Ls L s
  ·exact done 0 L a w v hL hn hd hS hv h
  ·exfalso
   obtain⟨i,hi⟩:=m.ord L hL ⟨z,m.ltz,hn⟩;have hiz:i≠z:=λhe=>by
    subst he;have hr:=CP.1 hi;rw[L0 _ _ _ m.ltz]at hr;exact hS λs hs=>hr.2.2 s (List.mem_append_right _ hs)
   have h1:=h.2 i hi;rw[JG]at h1;obtain⟨a',w',hk,_⟩:=Q3 hN h1;obtain⟨j,hj⟩:=m.ord (L.setIfInBounds i true) (by simpa using hL) ⟨z,m.ltz,ML hiz hn⟩;rw[hk.1]at hj;cases hj
 |succ fuel ih=>
  intro L a w v hL hn hc hd hv h
  by_cases hS:∀s∈S,Ls L s
  ·exact done _ L a w v hL hn hd hS hv h
  ·have notz:∀ {i:Nat},i∈Region.ready .any (push ops z S) L->i≠z:=λ{i} hi he=>by
    subst he;have hr:=CP.1 hi;rw[L0 _ _ _ m.ltz]at hr;exact hS λs hs=>hr.2.2 s (List.mem_append_right _ hs)
   have upz:∀ {i:Nat},i≠z->i∈Region.ready .any ops L->i∈Region.ready .any ops (L.setIfInBounds z true):=λ{i} hiz hi=>by
    rw[CP]at hi⊢;refine⟨hi.1,?_,λj hj=>Ls.keep (hi.2.2 j hj)⟩;rw[AT,DE,AN (Ne.symm hiz),<-AT];exact hi.2.1
   refine⟨λh0=>?_,λi hi=>?_⟩
   ·exfalso
    obtain⟨i,hi⟩:=m.ord L hL ⟨z,m.ltz,hn⟩
    have:=upz (notz hi) (m.rd' hi)
    rw[h0]at this;cases this
   ·have hr:=CP.1 hi
    have hiz:i≠z:=λhe=>by
     subst he;have h2:=hr.2.1;rw[AT,DE,AM rfl,AM (by have:=hr.1;omega)]at h2;simp at h2
    have hzi:z∉Bd ops i:=λhzd=>hS λs hs=>by
     have hre:=FJ (L:=L.setIfInBounds z true) (by simpa using hL) (Cl.set hL hc hd) (m.dep i hr.1 hzd s hs) hr.2.2;have hsz:z≠s:=λhe=>m.zS (he ▸ hs)
     unfold Ls
     rwa [AT,DE,AN hsz,<-AT]at hre
    have hiL:i∈Region.ready .any ops L:=by
     rw[CP];refine⟨hr.1,?_,λj hj=>?_⟩
     ·have h2:=hr.2.1
      rwa [AT,DE,AN (Ne.symm hiz),<-AT]at h2
     ·have h2:=hr.2.2 j hj
      have hjz:z≠j:=λhe=>hzi (he ▸ hj)
      rwa [AT,DE,AN hjz,<-AT]at h2
    have hrL:=CP.1 hiL;have h1:=h.2 i (m.rd hiL (.inl hiz));rw[JG]at h1;have hid:i∉Bd ops z:=λhdz=>by
     have:=hd i hdz
     have h2:=hrL.2.1;unfold Ls at this;rw[AT,BF (by have:=hr.1;omega)]at this h2;simp at this h2;rw[this]at h2;cases h2
    refine Wi (xs:=oz.op.operands.toList) (λo ho=>⟨(m.oth i o hiz ho hzi).1,(m.oth i o hiz ho hzi).2.1,(m.oth i o hiz ho hzi).2.2,m.src i o hiz ho hid⟩) hN (λa' w' he hk=>?_) h1;rw[Array.setIfInBounds_comm _ _ (Ne.symm hiz)];exact ih (L.setIfInBounds i true) a' w' v (by simpa using hL) (ML hiz hn) (Cl.set hL hc hrL.2.2) (λj hj=>Ls.keep (hd j hj)) (m.keepv he hv) hk
theorem DX.any (m:DX ops z d S oz)(hN:∀e a w,Q e a w->e=.normal):∀(fuel:Nat) (L:Array Bool) (a:Act) (w:World),L.size=ops.size->¬Ls L z->Cl ops L->wpAny P .any (push ops z S) Q fuel L a w->wpAny P .any ops Q fuel L a w
 | 0,L,a,w,hL,hn,hc,h=>by
  obtain⟨i,hi⟩:=m.ord L hL ⟨z,m.ltz,hn⟩;rw[h.1]at hi;cases hi
 |fuel+1,L,a,w,hL,hn,hc,h=>by
  refine⟨λh0=>?_,λi hi=>?_⟩
  ·exfalso
   obtain⟨i,hi⟩:=m.ord L hL ⟨z,m.ltz,hn⟩
   have:=m.rd' hi
   rw[h0]at this;cases this
  ·have hr:=CP.1 hi
   by_cases hiz:i=z
   ·subst hiz
    obtain⟨v,hv⟩:=m.early hN _ L a w hL hn hr.2.2 h;exact m.wpz hv (m.swap hN fuel L a w v hL hn hc hr.2.2 hv h)
   ·have h1:=h.2 i (m.rd hi (.inl hiz))
    rw[JG]at h1;exact wpOp_mono (λa w hh=>m.any hN fuel _ a w (by simpa using hL) (ML hiz hn) (Cl.set hL hc hr.2.2) hh) h1
end
def LN:List Operand->List Nat
 | []=>[]
 | .tmp t::l=>t::LN l
 |_::l=>LN l
theorem Ra:∀ {l:List Operand} {t:Nat},(.tmp t:Operand)∈l->t∈LN l
 |x::l,t,h=>by
  rcases Ah.1 h with rfl|h2
  ·simp[LN]
  ·have h3:=Ra h2
   cases x<;>first|exact h3|exact Dv _ h3
def LC (ops:Array Oper)(z d:Nat)(S:List Nat)(oz:Oper)(clo:List (Nat×List Nat)):Nat->List Oper->Bool
 |_,[]=>true
 |i,o::l=>(match Nat.beq i z with
  |true=>true
  |false=>(match BT z (Bd ops i)with
    |true=>FM S (Cu clo i)
    |false=>cq o.op && !BT d (o.looksAt ops)&&(match o.dst with
     |some u=>!Nat.beq u d
     |none=>true)) &&
   (BT i (Bd ops z)||(match o.dst with
    |some u=>!BT u (LN oz.op.operands.toList)
    |none=>true)))&&LC ops z d S oz clo (i+1) l
def Mx (ops:Array Oper)(z:Nat)(S ord0 ord:List Nat):Bool:=match ops[z]? with
 |some oz=>match oz.dst with
  |some d=>match oz.guard with
   |none=>Ju oz.op && !BT z S&&S.all (λs=>Nat.blt s ops.size)&&LC ops z d S oz (FB ops ord0 []) 0 ops.toList && !BT z (Bd ops z) &&
     (Kr (push ops z S) [] ord&&FM (List.range ops.size) ord&&ord.all (λi=>Nat.blt i ops.size))
   |some _=>false
  |none=>false
 |none=>false
theorem Re {ops:Array Oper}{z d:Nat}{S:List Nat}{oz:Oper}{clo:List (Nat×List Nat)}:∀(l:List Oper) (k:Nat),LC ops z d S oz clo k l=true->∀i o,l[i]?=some o->k+i≠z ->
  (z∈Bd ops (k+i)->∀s∈S,s∈Cu clo (k+i))/\(z∉Bd ops (k+i)->(∀cs b,o.op≠.select cs b)/\d∉o.looksAt ops/\o.dst≠some d) /\
  (k+i∉Bd ops z->∀x∈oz.op.operands.toList,∀t,o.dst=some t->x≠.tmp t)
 | [],_,_,_,_,h,_=>by simp at h
 |o::l,k,hb,0,o',h,h1=>by
  simp at h;subst h;simp only[LC,Ag]at hb;have hb:=hb.1;have hn:Nat.beq k z=false:=by
   cases hq:Nat.beq k z with
   |true=>exact AW (Ae hq) h1
   |false=>rfl
  rw[hn]at hb;simp only[Ag]at hb;obtain⟨b1,b2⟩:=hb;refine⟨λhz=>?_,λhz=>?_,λhk x hx t ht he=>?_⟩
  ·have:BT z (Bd ops k)=true:=DU.2 hz
   rw[this]at b1;exact JA.1 b1
  ·have:BT z (Bd ops k)=false:=by
    cases hq:BT z (Bd ops k)with
    |true=>exact AW (DU.1 hq) hz
    |false=>rfl
   rw[this]at b1;simp only[Ag,Ec]at b1;refine⟨λcs b he=>(by rw[he]at b1;cases b1.1.1),λhm=>(by rw[DU.2 hm]at b1;cases b1.1.2),λhe=>?_⟩;rw[he]at b1;simp at b1
  ·have:BT k (Bd ops z)=false:=by
    cases hq:BT k (Bd ops z)with
    |true=>exact AW (DU.1 hq) hk
    |false=>rfl
   rw[this,ht]at b2;simp only[Bool.false_or,Ec]at b2;subst he;rw[DU.2 (Ra hx)]at b2;cases b2
 |o::l,k,hb,i+1,o',h,h1=>by
  simp only[LC,Ag]at hb;have e:k+(i+1)=k+1+i:=by omega
  rw[e]at h1⊢;exact Re l (k+1) hb.2 i o' (by simpa using h) h1
theorem RB {L:Array Bool}:∀(l:List Nat),(∃i∈l,¬Ls L i)->∃A i B,l=A++i::B/\¬Ls L i/\∀j∈A,Ls L j
 | [],h=>by obtain⟨i,hi,_⟩:=h;cases hi
 |x::l,h=>by
  by_cases hx:Ls L x
  ·have h':∃i∈l,¬Ls L i:=by
    obtain⟨i,hi,hn⟩:=h;rcases Ah.1 hi with rfl|hi
    ·exact AW hx hn
    ·exact⟨i,hi,hn⟩
   obtain⟨A,i,B,h1,h2,h3⟩:=RB l h';refine⟨x::A,i,B,by rw[h1];rfl,h2,λj hj=>?_⟩;rcases Ah.1 hj with rfl|hj
   ·exact hx
   ·exact h3 j hj
  ·exact⟨[],x,l,rfl,hx,by simp⟩
theorem W6 {ops:Array Oper}{z:Nat}{S ord0 ord:List Nat}(h:Mx ops z S ord0 ord=true):∃d oz,DX ops z d S oz:=by
 unfold Mx at h;split at h<;>try(cases h;done)
 rename_i oz hz;split at h<;>try(cases h;done)
 rename_i d hd;split at h<;>try(cases h;done)
 rename_i hg;simp only[Ag,Ec]at h;obtain⟨⟨⟨⟨⟨b1,b2⟩,b3⟩,b4⟩,b5⟩,⟨b6,b7⟩,b8⟩:=h;have W:=Re ops.toList 0 b4;have hdz:z∉Bd ops z:=λh=>by rw[DU.2 h]at b5;cases b5
 have hreach:∀i j,j∈Cu (FB ops ord0 []) i->Cd ops i j:=λi j hj=>KK (KW _ _ (by simp)) _ _ hj
 refine⟨d,oz,hz,b1,hd,hg,λh=>?_,λs hs=>?_,λi hi hzi s hs=>?_,λi o hi ho hzi=>?_,λi o hi ho hzi=>?_,λL hL hex=>?_⟩
 ·rw[DU.2 h]at b2;cases b2
 ·exact Nat.blt_eq.mp (CF.1 b3 s hs)
 ·have hiz:i≠z:=λh=>hdz (h ▸ hzi)
  have:=(W i ops[i] (by simp[hi]) (by simpa using hiz)).1 (by simpa using hzi) s hs
  rw[B5]at this;exact hreach i s this
 ·have:=(W i o (by simpa using ho) (by simpa using hi)).2.1 (by simpa using hzi)
  exact this
 ·have:=(W i o (by simpa using ho) (by simpa using hi)).2.2 (by simpa using hzi)
  exact this
 ·obtain⟨i0,hi0,hn0⟩:=hex
  obtain⟨A,i,B,h1,h2,h3⟩:=RB ord ⟨i0,JA.1 b7 i0 (List.mem_range.2 hi0),hn0⟩;refine⟨i,?_⟩;have hlt:i<ops.size:=Nat.blt_eq.mp (CF.1 b8 i (by rw[h1];simp));rw[CP];refine⟨by rw[Lv];exact hlt,?_,λj hj=>?_⟩
  ·unfold Ls at h2
   rw[AT,D8]at h2⊢;simpa using h2
  ·rcases N4 ord [] b6 A i B h1 j hj with h|h
   ·cases h
   ·exact h3 j h
theorem Eu.push {C:AZ}{F:AI}{ops:Array Oper}{s:St}{Q:Exit->St->Prop}{z:Nat}{S ord0 ord:List Nat}(hp:Mx ops z S ord0 ord=true)(hN:∀e s,Q e s->e=.normal)(h:Eu C F (push ops z S) s Q):Eu C F ops s Q:=λhd ρ a w hs=>by
 obtain⟨d,oz,m⟩:=W6 hp;have h1:=h ?_ ρ a w hs
 ·rw[Lv]at h1
  refine m.any (λe a w ⟨s',_,h,_⟩=>hN e s' h) _ _ _ _ (by simp) (λhl=>?_) (λk hk=>?_) h1
  ·unfold Ls at hl
   rw[AT,H5,AM m.ltz]at hl;cases hl
  ·have:k<ops.size\/¬k<ops.size:=by omega
   rcases this with hlt|hlt
   ·rw[AT,H5,AM hlt]at hk;cases hk
   ·intro h;exact AW h hlt
 ·rw[CF]at hd⊢
  intro o ho;obtain⟨i,hi⟩:=HJ.1 ho;rw[FC,Ke]at hi;cases ho':ops[i]? with
  |none=>rw[ho']at hi;cases hi
  |some o'=>
   rw[ho']at hi;simp only[Fu,Af]at hi;subst hi
   have:=hd o' (Dc.2 (FD ho'))
   unfold CB at this⊢;rw[(OH z S i o').2.1];exact this
def UW (ok:Bool)(z:Value):Option D->D
 |some d=>Dh ok d true
 |none=>Dh ok (ofV z) false
section
variable {C:AZ} {F:AI} {ρ:Lk} {H:Hp} {w:World} {o:Oper}
theorem Xj {xt:Nat->Option XI}(hxt:Er C.P xt){gf:Operand->D}{ev:Operand->Value}{t kT eT:Nat}{z:Value}{x ix:Operand}{ok:Bool}{key:ByteArray}{k g:Nat}{e:AK}{r:Option D}(m:AQ C F ρ H w)
  (hgf:∀x,AG ρ (AF F.X ρ H) w (gf x) (ev x)) (ho:o.op=.lookup t x ix ok) (ht:xt t=some (.map kT eT z)) (hx:gf x=.omp k g) (hi:gf ix=.prim (.string key)) (hm:e∈H) (hk:e.k=k) (hg:g=e.g) (hz:e.sz=0) (hT:e.T=0) (hr:HM key e.es=some r):
  ∃v,(execOp ev o).run C.P w=.ok (.value v) w/\AG ρ (AF F.X ρ H) w (UW ok z r) v:=by
 obtain⟨b,ex,hb⟩:=MP (hx ▸ hgf x);have ei:=MQ (hi ▸ hgf ix);obtain⟨es,clock,b4,M⟩:=m.atM hm (by rw[hk,<-hg];exact hb) hz hT;obtain⟨a1,a2,⟨inf,a3,a4⟩,a5⟩:=Gz (hxt _ _ ht);have hc:(Instr.checkKey es.isEmpty 10000 kT (.string key)).run C.P w=.ok () w:=MapKept.run_checkKey (k:=.string key) a2 (by simp[MapKept.IsKey]) _ 9999;have hzv:(zeroValue eT).run C.P w=.ok z w:=KJ a3 a4 w;have okR:∀(d:D) (v:Value) (b:Bool),AG ρ (AF F.X ρ H) w d v->AG ρ (AF F.X ρ H) w (Dh ok d b) (if ok then .tuple #[v,.bool b]else v):=by
  intro d v b hr;cases ok with
  |false=>exact hr
  |true=>
   refine .tup rfl λi d' hd=>?_
   match i with
   | 0=>simp at hd;subst hd;exact hr
   | 1=>simp at hd;subst hd;exact .prim _
   |n+2=>simp at hd
 rcases Oe (ρ:=ρ) (O:=AF F.X ρ H) (w:=w) e.es es.toList 0 r (by simpa using M.len) (λj d c h1 h2=>by
   have:=M.key j d c h1 h2
   simpa[AT,GN]using this) hr with⟨rfl,hf⟩|⟨j,d,kk,h1,rfl,hf⟩
 ·refine⟨_,?_,okR _ z false (.ofV λi x hx=>.inl (a5 i x hx))⟩
  unfold execOp;simp only[ho];rw[run_bind,ex,ei]
  have:(Instr.lookup t (.map (some b)) (.string key) ok).run C.P w=.ok (if ok then .tuple #[z,.bool false]else z) w:=by
   simp[Instr.lookup,BS a1,MapKept.run_getObj_map b4,hc,MapKept.run_findKey a2 hf,hzv,Result.andThen]
  rw[this];rfl
 ·have hv:=M.val j _ d h1 rfl
  have hval:(es.toList.getD j default).val=(es.getD j default).val:=by simp[AT,GN]
  rw[hval]at hf;refine⟨_,?_,okR _ _ true hv⟩;unfold execOp;simp only[ho];rw[run_bind,ex,ei]
  have:(Instr.lookup t (.map (some b)) (.string key) ok).run C.P w=.ok (if ok then .tuple #[(es.getD j default).val,.bool true]else(es.getD j default).val) w:=by
   simp[Instr.lookup,BS a1,MapKept.run_getObj_map b4,hc,MapKept.run_findKey a2 hf,Result.andThen]
  rw[this];rfl
end
def Pb (xt:Nat->Option XI)(gf:Operand->D)(H:Hp):Op->Option D
 | .lookup t x ix ok=>match xt t with
  |some (.map _ _ z)=>match gf x with
   | .omp k g=>match gf ix with
    | .prim (.string key)=>match Hp.get H k with
     |some e=>match Nat.beq g e.g&&Nat.beq e.sz 0&&Nat.beq e.T 0 with
      |true=>match HM key e.es with
       |some (some d)=>some (Dh ok d true)
       |some none=>some (Dh ok (ofV z) false)
       |none=>none
      |false=>none
     |none=>none
    |_=>none
   |_=>none
  |_=>none
 |_=>none
section
variable {C:AZ} {F:AI} {ops:Array Oper} {H:Hp} {g:Nat} {env:Ab} {o:Oper} {xt:Nat->Option XI}
theorem iY (hxt:Er C.P xt){d:D}(hw:Am ops env o=some true)(he:Pb xt (AV env) H o.op=some d):A0 C F ops H g env o d none:=by
 unfold Pb at he;split at he<;>try(cases he;done)
 rename_i t x ix ok ho;split at he<;>try(cases he;done)
 rename_i kT eT z ht;split at he<;>try(cases he;done)
 rename_i k g0 hx;split at he<;>try(cases he;done)
 rename_i key hi;split at he<;>try(cases he;done)
 rename_i e hge;split at he<;>try(cases he;done)
 rename_i hb;simp only[Ag]at hb;obtain⟨hm,hk⟩:=Hp.get_mem hge;refine⟨by simp,λHe ρ a w m hsub _ _ hr=>.inr ⟨Dx hr hw,.inl ?_⟩⟩;obtain⟨g',h1,h2⟩:=EA hr;have ex:AV env x=g' x:=h1 x (by rw[ho];simp[Op.operands]);have ei:AV env ix=g' ix:=h1 ix (by rw[ho];simp[Op.operands]);rw[ex]at hx;rw[ei]at hi;have go:∀r,HM key e.es=some r->d=UW ok z r->∃v ρ' w',(execOp a.eval o).run C.P w=.ok (.value v) w'/\E5 C F He ρ w g d none v ρ' w':=λr hr hd=>by
  obtain⟨v,r1,r2⟩:=Xj (o:=o) hxt m h2 ho ht hx hi (hsub e hm) hk (Ae hb.1.1) (Ae hb.1.2) (Ae hb.2) hr;exact⟨v,ρ,w,r1,m,.refl _ _ _,λ_ _ _=>rfl,by rw[hd];exact r2⟩
 split at he<;>try(cases he;done)
 ·rename_i d0 hl
  cases he;exact go _ hl rfl
 ·rename_i hl
  cases he;exact go _ hl rfl
end
section
variable {C:AZ} {F:AI} {s:St} {ops:Array Oper} {o:Oper} {os:List Oper} {K:St->Prop}
theorem gz {d:D}{ne:Option AK}(hs:A0 C F ops s.H s.n s.env o d ne)(hw:Am ops s.env o=some true)(h:AR C F ops os ⟨Ak s.env o.dst d,Bk ne s.H,s.n+1⟩ K):AR C F ops (o::os) s K:=by
 intro hd l hl ρ a w hsat;cases l with
 |nil=>simp at hl
 |cons i l=>
  simp only[BY,CZ]at hl;simp only[Db,Ag]at hd;simp only[wpOps,hl.1];rw[AM (FK hsat.env hw)];refine .inl ?_;unfold Oper.wp;rcases hs.2 s.H ρ a w hsat.mem (λe h=>h) (λk=>hsat.fresh k _ (Ad _)) (λe he=>Nat.ne_of_lt (hsat.gen e he)) (λt _=>hsat.env t)with⟨hf,_⟩|⟨_,ho⟩
  ·rw[FK hsat.env hw]at hf;cases hf
  ·have sat:∀v ρ' w',E5 C F s.H ρ w s.n d ne v ρ' w'->Aw C F ρ' ⟨Ak s.env o.dst d,Bk ne s.H,s.n+1⟩ (a.put o.dst v) w':=λv ρ' w' p=>
    hsat.put p.mem p.ext (λk g hg=>by rw[p.far k g (by omega)];exact hsat.fresh k g (by omega)) (λe he=>by
     cases ne with
     |none=>exact BK (hsat.gen e he)
     |some e'=>
      rcases Ah.1 he with rfl|he
      ·have:=hs.1 e rfl;omega
      ·exact BK (hsat.gen e he)) p.rep hd.1
   rcases ho with⟨v,ρ',w',h1,h2⟩|⟨f,vs,h1,h2⟩
   ·rw[h1];exact h hd.2 l hl.2 ρ' _ w' (sat v ρ' w' h2)
   ·rw[h1]
    refine h2.mono ?_;rintro e w' ⟨v,rfl,ρ',p⟩;exact h hd.2 l hl.2 ρ' _ w' (sat v ρ' w' p)
end
noncomputable section
structure FI where
 nt:Nat
 res:List ResultVar
 code:Code
structure EV where
 tt:Nat->Option AL
 xt:Nat->Option XI
 ft:Nat->Option FI
 np:Nat->Bool
 orc:Nat->List D->Option D
 mt:Nat->String->Option Nat
 nat:Nat->List D->Option D
structure CN (C:AZ)(X:EV):Prop where
 tt:A7 C.P X.tt
 xt:Er C.P X.xt
 ft:∀f i,X.ft f=some i->∃fn,C.P.funcs[f]?=some fn/\fn.body=some i.code/\(fn.name == "runtime.NumGoroutine")=false/\B6 fn.ntmps i.code=true/\fn.ntmps=i.nt/\fn.results.toList=i.res
 orc:∀f ds d,X.orc f ds=some d->Aa C f ds d/\AS ds
 mixed:C.P.follows .mixedOrders=true
 mt:∀t name f,X.mt t name=some f->∀v w,(method (C.P.types.size+Made.depth) t v name).run C.P w=.ok (f,v) w
 nat:∀f ds d,X.nat f ds=some d->GX C f ds d
noncomputable def gN {α:Type}(z:α)(l:List α):Nat->α:=List.rec (motive:=λ_=>Nat->α) (λ_=>z) (λx _ ih n=>Nat.rec (motive:=λ_=>α) x (λm _=>ih m) n) l
noncomputable def pN {α:Type}(z:α)(f:α->α)(n:Nat):List α->List α:=Nat.rec (motive:=λ_=>List α->List α) (λl=>List.rec (motive:=λ_=>List α) [f z] (λx r _=>f x::r) l) (λ_ ih l=>List.rec (motive:=λ_=>List α) (z::ih []) (λx r _=>x::ih r) l) n
theorem K8 {α:Type}(z:α)(f:α->α):∀(n:Nat) (l:List α) (m:Nat),gN z (pN z f n l) m=if n=m then f (gN z l n)else gN z l m
 | 0,[],0=>rfl
 | 0,[],_+1=>rfl
 | 0,_::_,0=>rfl
 | 0,_::_,_+1=>rfl
 |_+1,[],0=>rfl
 |n+1,[],m+1=>by
  show gN z (pN z f n []) m=_;rw[K8 z f n [] m];simp only[Nat.add_right_cancel_iff];rfl
 |_+1,_::_,0=>rfl
 |n+1,x::l,m+1=>by
  show gN z (pN z f n l) m=_;rw[K8 z f n l m];simp only[Nat.add_right_cancel_iff];rfl
abbrev ET:=List (List (List D))
noncomputable def ET.get (e:ET)(t:Nat):D:=gN .any (gN [] (gN [] e (Nat.div t 36)) (Nat.mod (Nat.div t 6) 6)) (Nat.mod t 6)
noncomputable def ET.put (e:ET)(t:Nat)(d:D):ET:=pN [] (λr=>pN [] (λq=>pN .any (λ_=>d) (Nat.mod t 6) q) (Nat.mod (Nat.div t 6) 6) r) (Nat.div t 36) e
theorem iG (e:ET)(t:Nat)(d:D)(u:Nat):(e.put t d).get u=if t=u then d else e.get u:=by
 unfold ET.get ET.put;have a1:∀x,Nat.div x 36=x/36:=λ_=>rfl
 have a2:∀x,Nat.mod (Nat.div x 6) 6=x/6%6:=λ_=>rfl
 have a3:∀x,Nat.mod x 6=x%6:=λ_=>rfl
 simp only[a1,a2,a3];rw[K8]
 by_cases h1:t/36=u/36
 ·rw[AM h1,K8,h1]
  by_cases h2:t/6%6=u/6%6
  ·rw[AM h2,K8,h2]
   by_cases h3:t%6=u%6
   ·rw[AM h3,DK]
   ·rw[AN h3,BU]
  ·rw[AN h2,BU]
 ·rw[AN h1,BU]
def Mt (e:ET)(env:Ab):Prop:=∀t,e.get t=env.get t
noncomputable def M7 (e:ET)(o:Option Nat)(d:D):ET:=Option.rec (motive:=λ_=>ET) e (λt=>e.put t d) o
theorem Mt.put {e:ET}{env:Ab}(h:Mt e env)(o:Option Nat)(d:D):Mt (M7 e o d) (Ak env o d):=λt=>by
 cases o with
 |none=>exact h t
 |some k=>
  show(e.put k d).get t=Ab.get ((k,d)::env) t;rw[iG,Gk,h t]
noncomputable def pK {α R:Type}(z:α)(n:Nat):List α->(α->(α->R)->R)->(List α->R)->R:=Nat.rec (motive:=λ_=>List α->(α->(α->R)->R)->(List α->R)->R) (λl f c=>List.rec (motive:=λ_=>R) (f z λy=>c [y]) (λx r _=>f x λy=>c (y::r)) l) (λ_ ih l f c=>List.rec (motive:=λ_=>R) (ih [] f λr'=>c (z::r')) (λx r _=>ih r f λr'=>c (x::r')) l) n
theorem LA {α R:Type}(z:α)(f0:α->α)(f:α->(α->R)->R)(hf:∀x c,f x c=c (f0 x)):∀(n:Nat) (l:List α) (c:List α->R),pK z n l f c=c (pN z f0 n l)
 | 0,[],_=>hf _ _
 | 0,_::_,_=>hf _ _
 |n+1,[],_=>LA z f0 f hf n [] _
 |n+1,_::l,_=>LA z f0 f hf n l _
noncomputable def Iu {R:Type}(e:ET)(o:Option Nat)(d:D)(c:ET->R):R:=Option.rec (motive:=λ_=>R) (c e) (λt=>pK [] (Nat.div t 36) e (λr c=>pK [] (Nat.mod (Nat.div t 6) 6) r (λq c=>pK .any (Nat.mod t 6) q (λ_ c=>c d) c) c) c) o
theorem HX {R:Type}(e:ET)(o:Option Nat)(d:D)(c:ET->R):Iu e o d c=c (M7 e o d):=by
 cases o with
 |none=>rfl
 |some t=>
  show pK [] (Nat.div t 36) e _ c=c (ET.put e t d);unfold ET.put;refine LA _ _ _ (λr c=>?_) _ _ _;refine LA _ _ _ (λq c=>?_) _ _ _;exact LA _ (λ_=>d) _ (λ_ _=>rfl) _ _ _
noncomputable def Jl:Nat->List D->ET
 |_,[]=>[]
 |i,d::l=>(Jl (i+1) l).put i d
theorem MU:∀(l:List D) (i:Nat),Mt (Jl i l) (Ck i l)
 | [],_=>λ_=>rfl
 |d::l,i=>(MU l (i+1)).put (some i) d
structure ES where
 env:ET
 H:Hp
 n:Nat
noncomputable def SI (v:Value):D:=Value.rec (motive_1:=λ_=>D) (motive_2:=λ_=>Unit) (motive_3:=λ_=>Unit) (λb=>.prim (.bool b)) (λk a=>.prim (.int k a)) (λk a=>Dz (.float k a)) (λk a b=>Dz (.complex k a b)) (λx=>.prim (.string x)) (λa=>.prim (.pointer a)) (λa b c=>.prim (.slice a b c)) (λa=>Dz (.map a)) (λa=>Dz (.chan a)) (λa b c _ _=>Dz (.func a b c)) (Dz .nilFunc) (λa b _=>Dz (.iface a b)) (Dz .nilIface) (λa _=>Dz (.agg a)) (λa _=>Dz (.tuple a)) (λ_ _=>()) () (λ_ _ _ _=>()) v
theorem Vp (v:Value):SI v=Dz v:=by cases v<;>rfl
noncomputable def Fq (env:ET)(x:Operand):D:=Operand.rec (motive:=λ_=>ET->D) (λt env=>env.get t) (λv _=>SI v) (λg _=>.prim (.pointer (some ⟨g,0,none⟩))) (λf _=>.clo (.func f) [] []) x env
theorem IX {e:ET}{env:Ab}(h:Mt e env):Fq e=AV env:=by
 funext x
 cases x<;>first|rfl|exact h _|exact Vp _
noncomputable def Ho (ops:Array Oper)(env:ET)(o:Oper):Option Bool:=match o.guard with
 |none=>some true
 |some (j,_)=>match ops[j]? with
  |none=>some false
  |some oj=>match oj.dst with
   |none=>some false
   |some t=>Am ops [(t,env.get t)] o
theorem MD {e:ET}{env:Ab}(h:Mt e env)(ops:Array Oper)(o:Oper):Ho ops e o=Am ops env o:=by
 unfold Ho Am;cases o.guard with
 |none=>rfl
 |some p=>
  obtain⟨j,w⟩:=p;dsimp only;cases hj:ops[j]? with
  |none=>rfl
  |some oj=>
   dsimp only;cases hd:oj.dst with
   |none=>rfl
   |some t=>
    dsimp only;rw[h t,Gk,AM rfl]
noncomputable def M3 (i:Nat)(l:List Nat):Bool:=List.rec (motive:=λ_=>Bool) false (λj _ ih=>Bool.rec (motive:=λ_=>Bool) ih true (Nat.beq i j)) l
noncomputable def Jp {α:Type}(H:Hp):(Hp->α)->α:=List.rec (motive:=λ_=>(Hp->α)->α) (λk=>k []) (λe _ ih k=>ih λl=>k (e::l)) H
theorem IV {α:Type}:∀(l:Hp) (k:Hp->α),Jp l k=k l
 | [],_=>rfl
 |e::l,k=>IV l λl=>k (e::l)
abbrev BG:=Nat->List D->Hp->Nat->Option (D×Hp×Nat)
abbrev Bx:=Nat->List D->Option D
def E7 (b:Bool)(r:D×Hp×Nat):Option (D×Hp×Nat):=match b with
 |true=>some r
 |false=>none
def Jr (tt:Nat->Option AL)(g:Operand->D)(t:Nat)(x ix:Operand):Option D:=match tt t with
 |some i=>match i.ti with
  | .slice _ esz _ _=>match g ix with
   | .prim (.int _ j)=>match g x with
    | .sl _ sz es=>match Nat.beq sz esz&&decide (0<=j)with
     |true=>match es[j.toNat]? with
      |some d=>some (.pptr d)
      |none=>none
     |false=>none
    |_=>none
   |_=>none
  |_=>none
 |none=>none
def HE (X:EV)(g:Operand->D)(H:Hp)(n:Nat)(op:Op):Option (D×Hp×Nat):=match CG X.tt g op with
 |some (d,_)=>E7 (Ed X.tt g op) (d,H,n+1)
 |none=>none
def LI (X:EV)(g:Operand->D)(H:Hp)(n:Nat)(op:Op):Option (D×Hp×Nat):=match Dw X.tt X.xt g op with
 |some (d,_)=>E7 (NZ X.xt g op) (d,H,n+1)
 |none=>none
def CI {α:Type}(a:Option α)(b:Option α):Option α:=match a with
 |some x=>some x
 |none=>b
def S3 (X:EV)(g:Operand->D)(H:Hp)(n t len:Nat)(ps:List (Nat×Operand)):Option (D×Hp×Nat):=match X.np (1000000+t)with
 |true=>match X.tt t with
  |some i=>match i.ti with
   | .slice e esz _ _=>match len with
    | 0=>none
    |len+1=>match X.tt e with
     |some ie=>match EO g 0 ps with
      |some es=>match Ii ie.ag esz es&&Nat.beq es.length (len+1)&&Nat.ble ((len+1)*esz) 16777216&&Nat.ble 1 esz with
       |true=>some (Js (X.np (8000000+t)) n n esz len,⟨n,n,e,esz,es⟩::H,n+1)
       |false=>none
      |none=>none
     |none=>none
   |_=>none
  |none=>none
 |false=>none
def S1 (X:EV)(g:Operand->D)(H:Hp)(n:Nat)(args:List Operand)(tys:List Nat):Option (D×Hp×Nat):=match args with
 | [x,y]=>match tys with
  | [t,_]=>match X.tt t with
   |some i=>match i.ti with
    | .slice _ esz _ _=>match g x with
     | .osl _ _ _ _ _=>match DC H esz (g y)with
      |some ([],_)=>match Hk H esz (g y)with
       |true=>some (.prim (.int .i64 0),H,n+1)
       |false=>none
      |_=>none
     |_=>none
    |_=>none
   |none=>none
  |_=>none
 |_=>none
def Th (X:EV)(g:Operand->D)(H:Hp)(n:Nat)(args:List Operand)(tys:List Nat):Option (D×Hp×Nat):=match args with
 | [x,y]=>match tys with
  | [t,_]=>match X.tt t with
   |some i=>match i.ti with
    | .slice _ esz _ _=>match g x with
     | .osl k gg sz 0 len=>match Hp.get H k with
      |some e1=>match DC H esz (g y)with
       |some (news,_)=>match Hk H esz (g y)&&(Nat.beq gg e1.g&&Nat.beq sz esz&&Nat.beq esz e1.sz&&Nat.ble news.length len&&Nat.ble len e1.es.length&&Nat.ble 1 news.length)with
        |true=>some (.prim (.int .i64 (news.length:Nat)),Hp.set H k ⟨e1.k,e1.g,e1.T,e1.sz,news++e1.es.drop news.length⟩,n+1)
        |false=>none
       |none=>none
      |none=>none
     |_=>none
    |_=>none
   |none=>none
  |_=>none
 |_=>none
def S4 (X:EV)(g:Operand->D)(H:Hp)(n:Nat)(op:BinOp)(t:Nat)(x y:Operand):Option (D×Hp×Nat):=match g x with
 | .osl _ _ _ _ (_+1)=>match g y with
  | .prim (.slice none 0 0)=>match X.tt t with
   |some i=>match i.ti with
    | .slice _ _ _ _=>match Gj op false with
     |some c=>some (.prim (.bool c),H,n+1)
     |none=>none
    |_=>none
   |none=>none
  |_=>none
 |_=>none
def M8 (cl:BG)(H:Hp)(n f:Nat)(ds:List D):Option (D×Option AK):=match Ep (GL 20 H) ds with
 |some ds'=>match D0 (Dn 20) ds' with
  |true=>match cl f ds' [] 0 with
   |some (.osl k g sz i len,H1,_)=>match Hp.get H1 k with
    |some e=>match Nat.beq g e.g&&D0 (Kw (Je 20)) e.es with
     |true=>some (.osl n n sz i len,some ⟨n,n,e.T,e.sz,e.es⟩)
     |false=>none
    |none=>none
   |_=>none
  |false=>none
 |none=>none
def NG (X:EV)(cl:BG)(f:Nat)(ds:List D)(H:Hp)(n:Nat):Option (D×Hp×Nat):=match X.np (6000000+f)with
 |true=>match M8 cl H n f ds with
  |some (d,some e)=>some (d,e::H,n+1)
  |_=>none
 |false=>cl f ds H n
def GH (X:EV)(cl:BG)(g:Operand->D)(H:Hp)(n:Nat)(op:Op):Option (D×Hp×Nat):=match op with
 | .call ⟨.value fop,args,_⟩=>match g fop with
  | .clo (.func f) first captured=>match X.nat f (first++args.toList.map g++captured)with
   |some d=>some (d,H,n+1)
   |none=>NG X cl f (first++args.toList.map g++captured) H n
  |_=>none
 | .call ⟨.invoke r name,args,_⟩=>match g r with
  | .ifc t d0=>match X.mt t name with
   |some f=>cl f (d0::args.toList.map g) H n
   |none=>none
  |_=>none
 | .call ⟨.builtin .append,_,_⟩=>match Cf X.tt H n n g op with
  |some (d,H',_)=>E7 (KA X.tt H g op) (d,H',n+1)
  |none=>none
 | .makeSlice t _ _=>match X.np (5000000+t)with
  |true=>match Hs X.tt g op with
   |some d=>some (d,H,n+1)
   |none=>none
  |false=>match X.np (4000000+t)with
   |true=>match EJ X.tt n n g op with
    |some (d,e,_)=>E7 (IB X.tt g op) (J9 g op d,e::H,n+1)
    |none=>none
   |false=>match EJ X.tt n n g op with
    |some (d,e,_)=>E7 (IB X.tt g op) (d,e::H,n+1)
    |none=>none
 | .store _ _ _=>match DH X.tt H g op with
  |some (k,e,_)=>E7 (KC X.tt H g op) (.prim (.tuple #[]),Hp.set H k e,n+1)
  |none=>none
 | .call ⟨.builtin .copy,args,tys⟩=>CI (Th X g H n args.toList tys.toList) (S1 X g H n args.toList tys.toList)
 | .call ⟨.builtin .len,_,_⟩=>CI (HE X g H n op) (Jb X.xt g H n op)
 | .buildSlice t len ps=>CI (S3 X g H n t len ps.toList) (match Cg X.tt H n n g op with
  |some (d,ne,_)=>E7 (Fg X.tt H g op) (d,Bk ne H,n+1)
  |none=>none)
 | .load _ _ | .alloc _ | .box _ _=>match Cg X.tt H n n g op with
  |some (d,ne,_)=>E7 (Fg X.tt H g op) (d,Bk ne H,n+1)
  |none=>none
 | .indexAddr t x ix=>CI (HE X g H n op) (match Jr X.tt g t x ix with
  |some d=>some (d,H,n+1)
  |none=>none)
 | .makeInterface _ _=>LI X g H n op
 | .lookup _ _ _ _=>CI (LI X g H n op) (Jb X.xt g H n op)
 | .makeMap _ _ | .mapUpdate _ _ _ _ | .insert _ _ _ _ | .range _ _ | .next _ _ | .entry _=>Jb X.xt g H n op
 | .binOp b t x y _=>CI (HE X g H n op) (CI (LI X g H n op) (S4 X g H n b t x y))
 |_=>HE X g H n op
abbrev rH (o:Option D)(H:Hp)(n:Nat):Option (D×Hp×Nat):=Option.rec (motive:=λ_=>Option (D×Hp×Nat)) none (λd=>some (d,H,n+1)) o
noncomputable def Te (d:D):EV->BG->List D->Hp->Nat->Option (D×Hp×Nat):=D.rec (motive_1:=λ_=>EV->BG->List D->Hp->Nat->Option (D×Hp×Nat)) (motive_2:=λ_=>Unit) (λ_ _ _ _ _=>none) (λ_ _ _ _ _ _=>none) (λ_ _ _ _ _ _ _=>none) (λ_ _ _ _ _ _ _=>none) (λ_ _ _ _ _ _ _ _ _=>none) (λ_ _ _ _ _ _ _=>none) (λ_ _ _ _ _ _ _ _ _ _=>none) (λ_ _ _ _ _ _ _ _ _ _=>none) (λfn a b _ _ X cl l H n=>Fn.rec (motive:=λ_=>Option (D×Hp×Nat)) (λf=>Option.rec (motive:=λ_=>Option (D×Hp×Nat)) (NG X cl f (EE (EE a l) b) H n) (λd=>some (d,H,n+1)) (X.nat f (EE (EE a l) b))) (λ_=>none) (λ_ _=>none) (λ_ _ _ _=>none) (λ_=>none) fn) (λ_ _ _ _ _ _ _ _=>none) (λ_ _ _ _ _ _ _ _ _=>none) (λ_ _ _ _ _ _ _ _=>none) (λ_ _ _ _ _ _ _=>none) (λ_ _ _ _ _ _ _ _ _ _ _=>none) (λ_ _ _ _ _ _ _=>none) () (λ_ _ _ _=>()) d
noncomputable def gE (c:Callee):List Operand->EV->BG->(Operand->D)->Hp->Nat->Option (D×Hp×Nat):=Callee.rec (motive:=λ_=>List Operand->EV->BG->(Operand->D)->Hp->Nat->Option (D×Hp×Nat)) (λfop l X cl g H n=>Te (g fop) X cl (HG l g) H n) (λ_ _ _ _ _ _ _ _=>none) (λ_ _ _ _ _ _ _=>none) c
noncomputable def qF (op:Op):EV->BG->(Operand->D)->Hp->Nat->Option (D×Hp×Nat):=Op.rec (motive:=λ_=>EV->BG->(Operand->D)->Hp->Nat->Option (D×Hp×Nat)) (λ_ _ _ _ _ _=>none) (λ_ _ _ _ _ _=>none) (λ_ _ _ _ _ _ _ _=>none) (λ_ _ _ _ _ _=>none) (λ_ _ _ _ _ _ _=>none) (λ_ _ _ _ _ _ _=>none) (λ_ _ _ _ _ _ _ _=>none) (λ_ _ _ _ _ _ _ _ _=>none) (λt x X _ g H n=>rH (NV t x X.tt g H) H n) (λt x y X _ g H n=>Option.rec (motive:=λ_=>Option (D×Hp×Nat)) none (λH'=>some (.prim (.tuple #[]),H',n+1)) (Jv t x y X.tt g H)) (λ_ _ _ _ _ _=>none) (λ_ _ _ _ _ _=>none) (λ_ _ _ _ _ _=>none) (λ_ _ _ _ _ _ _ _ _ _=>none) (λ_ _ _ _ _ _ _ _=>none) (λ_ _ _ _ _ _ _ _=>none) (λ_ _ _ _ _ _ _=>none) (λ_ _ _ _ _ _ _=>none) (λ_ _ _ _ _ _ _ _=>none) (λ_ _ _ _ _ _ _=>none) (λ_ _ _ _ _ _ _=>none) (λ_ _ _ _ _ _ _ _=>none) (λ_ _ _ _ _ _ _ _ _ _=>none) (λ_ _ _ _ _ _ _ _=>none) (λ_ _ _ _ _ _ _ _=>none) (λt x ix X _ g H n=>rH (J8 Pt (X.tt t) (g x) (g ix)) H n) (λ_ _ _ _ _ _ _ _=>none) (λ_ _ _ _ _ _ _ _ _=>none) (λ_ _ _ _ _ _ _ _ _=>none) (λ_ _ _ _ _ _ _ _=>none) (λ_ _ _ _ _ _ _ _ _=>none) (λ_ _ _ _ _ _ _=>none) (λ_ _ _ _ _ _ _=>none) (λ_ _ _ _ _ _=>none) (λ_ _ _ _ _ _ _ _ _=>none) (λ_ _ _ _ _ _ _=>none) (λc=>gE c.callee c.args.toList) (λ_ _ _ _ _ _=>none) (λ_ _ _ _ _ _=>none) (λ_ _ _ _ _ _=>none) (λ_ _ _ _ _ _ _=>none) (λ_ _ _ _ _ _ _ _=>none) (λ_ _ _ _ _ _ _=>none) op
noncomputable def Pq {α:Type}(e:AK)(c:AK->α):α:=AK.rec (motive:=λ_=>α) (λk g T sz es=>BZ k λk=>BZ g λg=>BZ T λT=>BZ sz λsz=>List.rec (motive:=λ_=>(List D->α)->α) (λc=>c []) (λd _ ih c=>GS d λd=>ih λl=>c (d::l)) es λes=>c ⟨k,g,T,sz,es⟩) e
theorem dN {α:Type}(e:AK)(c:AK->α):Pq e c=c e:=by
 obtain⟨k,g,T,sz,es⟩:=e;have key:∀(l:List D) (c:List D->α),List.rec (motive:=λ_=>(List D->α)->α) (λc=>c []) (λd _ ih c=>GS d λd=>ih λl=>c (d::l)) l c=c l:=λl=>by
  induction l with
  |nil=>exact λ_=>rfl
  |cons d l ih=>exact λc=>(Hc _ _).trans (ih _)
 exact key _ _
noncomputable def NR {α:Type}(k:Nat)(H:Hp):(Hp->α)->α:=List.rec (motive:=λ_=>(Hp->α)->α) (λc=>c []) (λe _ ih c=>Bool.rec (motive:=λ_=>α) (ih λr=>c (e::r)) (Pq e λe=>ih λr=>c (e::r)) (Nat.beq e.k k)) H
theorem O2 {α:Type}(k:Nat):∀(H:Hp) (c:Hp->α),NR k H c=c H
 | [],_=>rfl
 |e::r,c=>by
  show Bool.rec (motive:=λ_=>α) (NR k r λr=>c (e::r)) (Pq e λe=>NR k r λr=>c (e::r)) (Nat.beq e.k k)=_;cases Nat.beq e.k k
  ·exact O2 k r _
  ·exact(dN _ _).trans (O2 k r _)
noncomputable def LK (d:D):Option Nat:=D.rec (motive_1:=λ_=>Option Nat) (motive_2:=λ_=>Unit) none (λ_=>none) (λ_ _=>none) (λ_ _=>none) (λ_ _ _ _=>none) (λ_ _=>none) (λk _ _ _ _=>some k) (λk _ _ _ _=>some k) (λ_ _ _ _ _=>none) (λ_ _ _=>none) (λ_ _ _ _=>none) (λ_ _ _=>none) (λk _=>some k) (λk _ _ _ _ _=>some k) (λ_ _=>none) () (λ_ _ _ _=>()) d
noncomputable def gZ (g:Operand->D)(l:List Operand):Nat:=List.rec (motive:=λ_=>Nat) 0 (λx _ _=>Option.rec (motive:=λ_=>Nat) 0 (λk=>k) (LK (g x))) l
noncomputable def Tt (op:Op):(Operand->D)->Option Nat:=Op.rec (motive:=λ_=>(Operand->D)->Option Nat) (λ_ _=>none) (λ_ _=>none) (λ_ _ _ _=>none) (λ_ _=>some 0) (λ_ _ _=>some 0) (λ_ _ _=>none) (λ_ _ _ _=>some 0) (λ_ x _ _ g=>LK (g x)) (λ_ _ _=>none) (λ_ _ _ _=>none) (λ_ _=>none) (λ_ _=>none) (λ_ _=>none) (λ_ _ _ _ _ _=>none) (λ_ _ _ _=>none) (λ_ _ _ _=>none) (λ_ _ _=>none) (λ_ _ _=>none) (λ_ _ _ _=>none) (λ_ _ _=>some 0) (λ_ _ _=>none) (λ_ _ _ _=>some 0) (λ_ _ _ _ _ _=>none) (λ_ _ _ _=>none) (λ_ _ _ _=>none) (λ_ _ _ _=>none) (λ_ _ _ _=>none) (λ_ _ _ _ _=>none) (λ_ x _ _ g=>LK (g x)) (λ_ _ _ _=>none) (λ_ _ _ _ _=>none) (λ_ _ _=>some 0) (λx _ g=>LK (g x)) (λ_ _=>none) (λ_ _ _ _ _=>none) (λ_ _ _=>none) (λc g=>Callee.rec (motive:=λ_=>Option Nat) (λ_=>none) (λ_ _=>none) (λ_=>some (gZ g c.args.toList)) c.callee) (λ_ _=>none) (λ_ _=>none) (λ_ _=>none) (λ_ _ _=>none) (λ_ _ _ _=>none) (λ_ _ _=>none) op
noncomputable def Tr (k:Nat)(r:D×Hp×Nat):Option (D×Hp×Nat):=Prod.rec (motive:=λ_=>Option (D×Hp×Nat)) (λd q=>Prod.rec (motive:=λ_=>Option (D×Hp×Nat)) (λH n=>NR (Option.rec (motive:=λ_=>Nat) k (λk=>k) (LK d)) H λH=>some (d,H,n)) q) r
theorem Xg (k:Nat)(r:D×Hp×Nat):Tr k r=some r:=O2 _ _ _
noncomputable def PR (X:EV)(cl:BG)(g:Operand->D)(H:Hp)(n:Nat)(op:Op):Option (D×Hp×Nat):=Option.rec (motive:=λ_=>Option (D×Hp×Nat)) (GH X cl g H n op) (λk=>Option.rec (motive:=λ_=>Option (D×Hp×Nat)) none (λr=>Tr k r) (GH X cl g H n op)) (Tt op g)
theorem Wu (X:EV)(cl:BG)(g:Operand->D)(H:Hp)(n:Nat)(op:Op):PR X cl g H n op=GH X cl g H n op:=by
 unfold PR;cases Tt op g with
 |none=>rfl
 |some k=>
  dsimp only;cases GH X cl g H n op with
  |none=>rfl
  |some r=>exact Xg k r
noncomputable def PP (X:EV)(cl:BG)(g:Operand->D)(H:Hp)(n:Nat)(op:Op):Option (D×Hp×Nat):=Option.rec (motive:=λ_=>Option (D×Hp×Nat)) (Option.rec (motive:=λ_=>Option (D×Hp×Nat)) (PR X cl g H n op) (λr=>some r) (qF op X cl g H n)) (λd=>some (d,H,n+1)) (pF op X.tt g)
theorem YT {X:EV}{g:Operand->D}{H:Hp}{n:Nat}{op:Op}{d:D}(h:pF op X.tt g=some d):HE X g H n op=some (d,H,n+1):=by
 obtain⟨p,h1,h2⟩:=TG h;simp only[HE,h1,h2,E7]
theorem Rw {o:Option D}{H:Hp}{n:Nat}{r:D×Hp×Nat}(h:rH o H n=some r):∃d,o=some d/\r=(d,H,n+1):=by
 cases o with
 |none=>cases(show none=some r from h)
 |some d=>cases(show some _=some r from h);exact⟨d,rfl,rfl⟩
theorem Sr {tt:Nat->Option AL}{g:Operand->D}{t:Nat}{x ix:Operand}{d:D}(h:J8 Pt (tt t) (g x) (g ix)=some d):Jr tt g t x ix=some d/\CG tt g (.indexAddr t x ix)=none:=by
 obtain⟨i,e,esz,eby,ez,j,a1,a2,a3,h⟩:=Sq h;simp only[Jr,CG,a1,a2,a3];generalize g x=dx at h;cases dx<;>try(cases(show none=some d from h);done)
 obtain⟨hb,h⟩:=JD h;obtain⟨d',h1,h⟩:=HP h;cases h;rw[JN]at h1;refine⟨?_,rfl⟩;simp only[hb,LX,Int.natCast_nonneg,decide_true,H6,h1]
theorem WY {X:EV}{cl:BG}{g:Operand->D}{H:Hp}{n:Nat}{op:Op}{r:D×Hp×Nat}(h:PP X cl g H n op=some r):GH X cl g H n op=some r:=by
 unfold PP at h;cases hp:pF op X.tt g with
 |some d=>
  rw[hp]at h;cases(show some (d,H,n+1)=some r from h);have hpe:=YT (H:=H) (n:=n) hp;cases op<;>first|(cases(show none=some d from hp);done)|exact hpe|(simp only[GH,hpe,CI])
 |none=>
  rw[hp]at h;cases hq:qF op X cl g H n with
  |none=>rw[hq]at h;rw[<-Wu];exact h
  |some r'=>
   rw[hq]at h;cases(show some r'=some r from h);cases op<;>try(cases(show none=some r from hq);done)
   case load t x=>
    obtain⟨d,h1,rfl⟩:=Rw hq;obtain⟨p,h2,h3⟩:=Su h1 n n;simp only[GH,h2,h3,E7,Bk]
   case store t x y=>
    have hq:Option.rec (motive:=λ_=>Option (D×Hp×Nat)) none (λH'=>some (.prim (.tuple #[]),H',n+1)) (Jv t x y X.tt g H)=some r:=hq;cases hs:Jv t x y X.tt g H with
    |none=>rw[hs]at hq;cases(show none=some r from hq)
    |some H'=>
     rw[hs]at hq;obtain⟨k,e,p,h1,h2,rfl⟩:=SF hs;cases(show some (D.prim (.tuple #[]),Hp.set H k e,n+1)=some r from hq);simp only[GH,h1,h2,E7]
   case indexAddr t x ix=>
    obtain⟨d,h1,rfl⟩:=Rw hq;obtain⟨h2,h3⟩:=Sr h1;simp only[GH,HE,h3,CI,h2]
   case call c=>
    obtain⟨callee,args,tys⟩:=c;cases callee<;>try(cases(show none=some r from hq);done)
    rename_i fop;have hq:Te (g fop) X cl (HG args.toList g) H n=some r:=hq;simp only[GH];generalize g fop=df at hq;cases df<;>try(cases(show none=some r from hq);done)
    rename_i fn a b;cases fn<;>try(cases(show none=some r from hq);done)
    rename_i f;have hq:Option.rec (motive:=λ_=>Option (D×Hp×Nat)) (NG X cl f (EE (EE a (HG args.toList g)) b) H n) (λd=>some (d,H,n+1)) (X.nat f (EE (EE a (HG args.toList g)) b))=some r:=hq;rw[Oi,Km,Km]at hq;dsimp only;rw[<-hq];cases X.nat f (a++List.map g args.toList++b)<;>rfl
noncomputable def PQ (X:EV)(cl:BG)(g:Operand->D)(H:Hp)(n:Nat)(op:Op):Option (D×Hp×Nat):=CI (PP X cl g H n op) (PO X.tt g H n op)
noncomputable def MJ (X:EV)(cl:BG)(ops:Array Oper)(s:ES)(o:Oper):Option (D×Hp×Nat):=match Ho ops s.env o with
 |some true=>PQ X cl (Fq s.env) s.H s.n o.op
 |some false=>some (.prim (.tuple #[]),s.H,s.n+1)
 |none=>none
noncomputable def Ic (X:EV)(cl:BG)(ops:Array Oper)(s:ES)(o:Oper):Option (D×Hp×Nat):=ES.rec (motive:=λ_=>Option (D×Hp×Nat)) (λe H n=>Option.rec (motive:=λ_=>Option (D×Hp×Nat)) (PQ X cl (Fq e) H n o.op) (λ_=>MJ X cl ops ⟨e,H,n⟩ o) o.guard) s
theorem Ve (X:EV)(cl:BG)(ops:Array Oper)(s:ES)(o:Oper):Ic X cl ops s o=MJ X cl ops s o:=by
 unfold Ic;obtain⟨e,H,n⟩:=s;cases hg:o.guard with
 |some p=>rfl
 |none=>simp only[MJ,Ho,hg]
noncomputable def YR (X:EV)(cl:BG)(ops:Array Oper)(l:List Oper):ET->Hp->Nat->Option ES:=List.rec (motive:=λ_=>ET->Hp->Nat->Option ES) (λe H n=>some ⟨e,H,n⟩) (λo _ ih e H n=>Option.rec (motive:=λ_=>Option ES) none (λr=>Prod.rec (motive:=λ_=>Option ES) (λd q=>Prod.rec (motive:=λ_=>Option ES) (λH' n'=>GS d λd=>BZ n' λn'=>Iu e o.dst d λe'=>ih e' H' n') q) r) (Ic X cl ops ⟨e,H,n⟩ o)) l
noncomputable def K2 (X:EV)(cl:BG)(ops:Array Oper)(l:List Oper)(s:ES):Option ES:=ES.rec (motive:=λ_=>Option ES) (λe H n=>YR X cl ops l e H n) s
def I6 (d:D)(H:Hp)(n:Nat):D->Hp->Nat->Prop:=λd1 H1 n1=>d1=d/\H1=H/\n1=n
def DW (C:AZ)(cl:BG):Prop:=∀f ds H n d H' n',cl f ds H n=some (d,H',n')->Ct C f ds H n (I6 d H' n')
def EN (C:AZ)(cp:Bx):Prop:=∀f ds d,cp f ds=some d->Aa C f ds d/\AS ds
section
variable {C:AZ} {F:AI} {X:EV} {cl:BG} {cp:Bx} {ops:Array Oper}
theorem Ct.subH {f:Nat}{ds:List D}{H H1 H2:Hp}{n n':Nat}{d:D}(hs:H2.Sublist H1)(h:Ct C f ds H n (I6 d H1 n')):Ct C f ds H n (I6 d H2 n'):=by
 refine⟨h.1,λF ρ w vs m hfr hg hvs hr=>(h.2 F ρ w vs m hfr hg hvs hr).mono ?_⟩;rintro e w' ⟨v,d',H',n2,ρ',rfl,⟨rfl,rfl,rfl⟩,m',x,fr,gn,rep⟩;obtain⟨m2,hO⟩:=m'.sub hs;exact⟨v,_,_,_,ρ',rfl,⟨rfl,rfl,rfl⟩,m2,⟨x.size,x.link,λb hb hb'=>⟨λh=>(x.pure b hb hb').1 (hO b h),(x.pure b hb hb').2⟩,x.shape⟩,fr,λe he=>gn e (hs.subset he),rep.anti hO⟩
theorem HS {b:Bool}{r r':D×Hp×Nat}(h:E7 b r=some r'):b=true/\r=r':=by
 cases b
 ·cases h
 ·cases h;exact⟨rfl,rfl⟩
theorem Qa {tt:Nat->Option AL}{g:Operand->D}{t:Nat}{x ix:Operand}{d:D}(h:Jr tt g t x ix=some d):∃i e esz eby ez kk j nn es d',tt t=some i/\i.ti=.slice e esz eby ez/\g ix=.prim (.int kk j) /\
  g x=.sl nn esz es/\0<=j/\es[j.toNat]?=some d'/\d=.pptr d':=by
 unfold Jr at h;split at h<;>try(cases h;done)
 rename_i i h1;split at h<;>try(cases h;done)
 rename_i e esz eby ez h2;split at h<;>try(cases h;done)
 rename_i kk j h3;split at h<;>try(cases h;done)
 rename_i nn sz es h4;split at h<;>try(cases h;done)
 rename_i h5;split at h<;>try(cases h;done)
 rename_i d' h6;cases h;simp only[Ag,FE]at h5;obtain rfl:=Ae h5.1;exact⟨i,e,sz,eby,ez,kk,j,nn,es,d',h1,h2,h3,h4,h5.2,h6,rfl⟩
theorem SE (hcl:DW C cl){H:Hp}{n:Nat}{env:Ab}{o:Oper}{f:Nat}{fop:Operand}{first captured:List D}{args:Array Operand}{tys:Array Nat}{d:D}{ne:Option AK}(hw:Am ops env o=some true)
  (ho:o.op=.call ⟨.value fop,args,tys⟩) (hf:AV env fop=.clo (.func f) first captured) (h:M8 cl H n f (first++args.toList.map (AV env)++captured)=some (d,ne)):A0 C F ops H n env o d ne:=by
 unfold M8 at h;split at h<;>try(cases h;done)
 rename_i hm;split at h<;>try(cases h;done)
 rename_i hp;split at h<;>try(cases h;done)
 rename_i hc;split at h<;>try(cases h;done)
 rename_i e he;split at h<;>try(cases h;done)
 rename_i hb;simp only[Ag]at hb;obtain⟨b2,b3⟩:=hb;obtain⟨hm1,rfl⟩:=Hp.get_mem he;obtain rfl:=Ae b2;cases h;obtain⟨m1,m2⟩:=FL hm;exact iW _ hw ho hf rfl m1 (λi a b ha hb=>(D9 (m2 i a b ha hb)).1) (Ct.subH (List.singleton_sublist.2 hm1) (hcl _ _ _ _ _ _ _ hc)) ⟨λx hx=>DL (Dy hp x hx)⟩ λx hx c hc=>MA (OK (Dy b3 x hx) c hc)
theorem Qt (hX:CN C X)(hcl:DW C cl){e:ET}{s:St}(hm:Mt e s.env){o:Oper}{os:List Oper}{K:St->Prop}{d:D}{H':Hp}{n':Nat}(h:Ic X cl ops ⟨e,s.H,s.n⟩ o=some (d,H',n'))
  (hk':AR C F ops os ⟨Ak s.env o.dst d,H',n'⟩ K):AR C F ops (o::os) s K:=by
 rw[Ve]at h;unfold MJ at h;rw[IX hm,MD hm]at h;split at h<;>try(cases h;done)
 ·rename_i hw
  unfold PQ CI at h;split at h
  rotate_left
  ·exact WW hX.tt hw h hk'
  rename_i hF;cases h;have h:=WY hF;clear hF;have pe:HE X (AV s.env) s.H s.n o.op=some (d,H',n')->AR C F ops (o::os) s K:=λh=>by
   unfold HE at h;split at h<;>try(cases h;done)
   rename_i hp;obtain⟨hb,hr⟩:=HS h;cases hr;exact AR.p hX.tt hw hp (Kt hp hb) hk'
  have qe:LI X (AV s.env) s.H s.n o.op=some (d,H',n')->AR C F ops (o::os) s K:=λh=>by
   unfold LI at h;split at h<;>try(cases h;done)
   rename_i hp;obtain⟨hb,hr⟩:=HS h;cases hr;exact AR.q hX.tt hX.xt hw hp (Sx hp hb) hk'
  have le:∀r,(match Cg X.tt s.H s.n s.n (AV s.env) o.op with
    |some (d,ne,_)=>E7 (Fg X.tt s.H (AV s.env) o.op) (d,Bk ne s.H,s.n+1)
    |none=>none)=some r->r=(d,H',n')->AR C F ops (o::os) s K:=λr h hr=>by
   split at h<;>try(cases h;done)
   rename_i hp;obtain⟨hb,hr'⟩:=HS h;rw[<-hr']at hr;cases hr;exact AR.l' s.n hX.tt hw hp (O8 hp hb) hk'
  have me:Jb X.xt (AV s.env) s.H s.n o.op=some (d,H',n')->AR C F ops (o::os) s K:=λh=>WX hX.xt hw h hk'
  unfold GH at h;split at h
  ·rename_i fop args tys ho
   split at h<;>try(cases h;done)
   rename_i f first captured hf
   split at h
   ·rename_i hn
    cases h;exact AR.nat hw ho hf rfl (hX.nat _ _ _ hn) hk'
   unfold NG at h;split at h
   ·split at h<;>try(cases h;done)
    rename_i hb;cases h;exact gz (SE hcl hw ho hf hb) hw hk'
   refine iM hw ho hf rfl (hcl _ _ _ _ _ _ _ h) λd1 H1 n1 hΦ=>?_
   obtain⟨rfl,rfl,rfl⟩:=hΦ;exact hk'
  ·rename_i r name args tys ho
   split at h<;>try(cases h;done)
   rename_i t d0 hr;split at h<;>try(cases h;done)
   rename_i f hf;refine gm hw ho hr (hX.mt _ _ _ hf) rfl (hcl _ _ _ _ _ _ _ h) λd1 H1 n1 hΦ=>?_
   obtain⟨rfl,rfl,rfl⟩:=hΦ;exact hk'
  ·split at h<;>try(cases h;done)
   rename_i hp;obtain⟨hb,hr⟩:=HS h;cases hr;exact UJ s.n hX.tt hw hp (MY hp hb) hk'
  ·split at h
   ·split at h<;>try(cases h;done)
    rename_i hp;cases h;exact AR.mkS hX.tt hw hp hk'
   ·split at h
    ·split at h<;>try(cases h;done)
     rename_i hp;obtain⟨hb,hr⟩:=HS h;cases hr;exact gr s.n hX.tt hw hp (O9 hp hb) hk'
    ·split at h<;>try(cases h;done)
     rename_i hp;obtain⟨hb,hr⟩:=HS h;cases hr;exact UC s.n hX.tt hw hp (O9 hp hb) hk'
  ·split at h<;>try(cases h;done)
   rename_i hp;obtain⟨hb,hr⟩:=HS h;cases hr;exact AR.store hX.tt hw hp (Sy hp hb) hk'
  ·rename_i args tys ho
   unfold CI at h;split at h
   ·rename_i hr
    cases h;unfold Th at hr;split at hr<;>try(cases hr;done)
    rename_i x y hargs;split at hr<;>try(cases hr;done)
    rename_i t t' htys;split at hr<;>try(cases hr;done)
    rename_i i hi;split at hr<;>try(cases hr;done)
    rename_i e esz eby ez hk;split at hr<;>try(cases hr;done)
    rename_i k gg sz len hx;split at hr<;>try(cases hr;done)
    rename_i e1 he;split at hr<;>try(cases hr;done)
    rename_i news p hsrc;split at hr<;>try(cases hr;done)
    rename_i hb;cases hr;simp only[Ag]at hb;obtain⟨b0,⟨⟨⟨⟨⟨b1,b2⟩,b3⟩,b4⟩,b5⟩,b6⟩⟩:=hb;obtain rfl:=Ae b2;have hargs':args = #[x,y]:=by rw[<-D6 (xs:=args),hargs]
    have htys':tys = #[t,t']:=by rw[<-D6 (xs:=tys),htys]
    subst hargs' htys';exact AR.copy hX.tt hw ho hi hk hx he (Ae b1) (Ae b3) hsrc (IU hsrc b0) (BD b4) (BD b5) (λh0=>by
     have:=BD b6
     rw[h0]at this;simp at this) hk'
   ·unfold S1 at h
    split at h<;>try(cases h;done)
    rename_i x y hargs;split at h<;>try(cases h;done)
    rename_i t t' htys;split at h<;>try(cases h;done)
    rename_i i hi;split at h<;>try(cases h;done)
    rename_i e esz eby ez hk;split at h<;>try(cases h;done)
    rename_i k gg sz j len hx;split at h<;>try(cases h;done)
    rename_i p hsrc;split at h<;>try(cases h;done)
    rename_i hb;cases h;have hargs':args = #[x,y]:=by rw[<-D6 (xs:=args),hargs]
    have htys':tys = #[t,t']:=by rw[<-D6 (xs:=tys),htys]
    subst hargs' htys';exact iN hX.tt hw ho hi hk hx hsrc (IU hsrc hb) hk'
  ·unfold CI at h
   split at h
   ·rename_i hr;cases h;exact pe hr
   ·exact me h
  ·rename_i t len ps ho
   unfold CI at h;split at h
   ·rename_i hr
    cases h;unfold S3 at hr;split at hr<;>try(cases hr;done)
    split at hr<;>try(cases hr;done)
    rename_i i hi;split at hr<;>try(cases hr;done)
    rename_i e esz eby ez hk;split at hr<;>try(cases hr;done)
    split at hr<;>try(cases hr;done)
    rename_i ie hie;split at hr<;>try(cases hr;done)
    rename_i es hes;split at hr<;>try(cases hr;done)
    rename_i hb;cases hr;simp only[Ag]at hb;obtain⟨⟨⟨b1,b2⟩,b3⟩,b4⟩:=hb;exact AR.lit hX.tt _ hw ho hi hk hie hes (OT b1) (Ae b2) (BD b3) (BD b4) _ hk'
   ·exact le _ h rfl
  ·exact le _ h rfl
  ·exact le _ h rfl
  ·exact le _ h rfl
  ·rename_i t x ix ho
   unfold CI at h;split at h
   ·rename_i hr;cases h;exact pe hr
   ·split at h<;>try(cases h;done)
    rename_i hi;cases h;obtain⟨i,e,esz,eby,ez,kk,j,nn,es,d',a1,a2,a3,a4,a5,a6,rfl⟩:=Qa hi;exact AR.idx hX.tt hw ho a1 a2 a3 a4 a5 a6 hk'
  ·exact qe h
  ·unfold CI at h
   split at h
   ·rename_i hr;cases h;exact qe hr
   ·exact me h
  ·exact me h
  ·exact me h
  ·exact me h
  ·exact me h
  ·exact me h
  ·exact me h
  ·rename_i b t x y yt ho
   unfold CI at h;split at h
   ·rename_i hr;cases h;exact pe hr
   ·split at h
    ·rename_i hr;cases h;exact qe hr
    ·unfold S4 at h
     split at h<;>try(cases h;done)
     rename_i hx;split at h<;>try(cases h;done)
     rename_i hy;split at h<;>try(cases h;done)
     rename_i i hi;split at h<;>try(cases h;done)
     rename_i e esz eby ez hk;split at h<;>try(cases h;done)
     rename_i c hc;cases h;exact gu hX.tt hw ho hi hk hx hy hc hk'
  ·exact pe h
 ·rename_i hw
  cases h;exact AR.skip hw hk'
theorem L9 (hX:CN C X)(hcl:DW C cl){K:St->Prop}{s':ES}:∀ {os:List Oper} {e:ET} {s:St},K2 X cl ops os ⟨e,s.H,s.n⟩=some s'->Mt e s.env->(∀env',Mt s'.env env'->K ⟨env',s'.H,s'.n⟩)->AR C F ops os s K
 | [],e,s,h,hm,hk=>by
  cases(show some (⟨e,s.H,s.n⟩:ES)=some s' from h);exact AR.nil (hk s.env hm)
 |o::os,e,s,h,hm,hk=>by
  have h:Option.rec (motive:=λ_=>Option ES) none (λr=>Prod.rec (motive:=λ_=>Option ES) (λd q=>Prod.rec (motive:=λ_=>Option ES) (λH' n'=>GS d λd=>BZ n' λn'=>Iu e o.dst d λe'=>K2 X cl ops os ⟨e',H',n'⟩) q) r) (Ic X cl ops ⟨e,s.H,s.n⟩ o)=some s':=h;cases hs:Ic X cl ops ⟨e,s.H,s.n⟩ o with
  |none=>rw[hs]at h;cases(show none=some s' from h)
  |some r=>
   rw[hs]at h;dsimp only at h;rw[Hc,Ks,HX]at h;exact Qt hX hcl hm hs (L9 (s:=⟨Ak s.env o.dst r.1,r.2.1,r.2.2⟩) hX hcl h (hm.put _ _) hk)
theorem A0.l' {H:Hp}{g:Nat}{env:Ab}{o:Oper}{tt:Nat->Option AL}(k:Nat)(htt:A7 C.P tt){d:D}{ne:Option AK}{p:Prop}(hw:Am ops env o=some true)(he:Cg tt H g k (AV env) o.op=some (d,ne,p))(hp:p):A0 C F ops H g env o d ne:=by
 refine⟨λe h=>by subst h;exact Ri he,λHe ρ a w m hsub fr hne hr=>.inr ⟨Dx hr hw,.inl ?_⟩⟩;obtain⟨g',h1,h2⟩:=EA hr;obtain⟨v,ρ',w',r1,r2⟩:=SL (g:=g') hsub htt m fr hne h2 (by rw[<-Va h1];exact he) hp;exact⟨v,ρ',w',r1,r2⟩
theorem Vc {tt:Nat->Option AL}{xt:Nat->Option XI}{g g':Operand->D}{op:Op}(h:∀x∈op.operands,g x=g' x):Dw tt xt g op=Dw tt xt g' op:=by
 cases op<;>simp only[Op.operands]at h<;>try rfl
 case binOp op t x y yt=>simp only[Dw];rw[h x (by simp),h y (by simp)]
 case makeInterface t x=>simp only[Dw];rw[h x (by simp)]
 case lookup t x ix ok=>simp only[Dw];rw[h x (by simp),h ix (by simp)]
theorem A0.q {H:Hp}{g:Nat}{env:Ab}{o:Oper}{tt:Nat->Option AL}{xt:Nat->Option XI}(htt:A7 C.P tt)(hxt:Er C.P xt){d:D}{p:Prop}(hw:Am ops env o=some true)(he:Dw tt xt (AV env) o.op=some (d,p))(hp:p):
  A0 C F ops H g env o d none:=by
 refine⟨by simp,λHe ρ a w m _ _ _ hr=>.inr ⟨Dx hr hw,.inl ?_⟩⟩;obtain⟨g',h1,h2⟩:=EA hr;obtain⟨v,r1,r2⟩:=SM (g:=g') htt hxt h2 (by rw[<-Vc h1];exact he) hp;exact⟨v,ρ,w,r1,m,.refl _ _ _,λ_ _ _=>rfl,r2⟩
def HF (b:Bool)(r:D×Option AK):Option (D×Option AK):=match b with
 |true=>some r
 |false=>none
theorem KO {b:Bool}{r r':D×Option AK}(h:HF b r=some r'):b=true/\r=r':=by
 cases b
 ·cases h
 ·cases h;exact⟨rfl,rfl⟩
def IE (X:EV)(g:Operand->D)(op:Op):Option (D×Option AK):=match CG X.tt g op with
 |some (d,_)=>HF (Ed X.tt g op) (d,none)
 |none=>none
def Nd (X:EV)(g:Operand->D)(op:Op):Option (D×Option AK):=match Dw X.tt X.xt g op with
 |some (d,_)=>HF (NZ X.xt g op) (d,none)
 |none=>none
def T5 (cp:Bx)(H:Hp)(f:Nat)(ds:List D):Option (D×Option AK):=match Ep (GL 20 H) ds with
 |some ds'=>match cp f ds' with
  |some d=>HF (Je 20 d) (d,none)
  |none=>none
 |none=>none
def M9 (X:EV)(cl:BG)(cp:Bx)(H:Hp)(n f:Nat)(ds:List D):Option (D×Option AK):=match X.np f with
 |true=>M8 cl H n f ds
 |false=>match cp f ds with
  |some d=>some (d,none)
  |none=>T5 cp H f ds
def Ir (X:EV)(cl:BG)(cp:Bx)(g:Operand->D)(H:Hp)(n:Nat)(op:Op):Option (D×Option AK):=match op with
 | .call ⟨.value fop,args,_⟩=>match g fop with
  | .clo (.func f) first captured=>match X.nat f (first++args.toList.map g++captured)with
   |some d=>some (d,none)
   |none=>M9 X cl cp H n f (first++args.toList.map g++captured)
  |_=>none
 | .call ⟨.builtin .append,_,_⟩=>match Cf X.tt [] n n g op with
  |some (d,[e],_)=>HF (KA X.tt [] g op) (d,some e)
  |_=>none
 | .load _ _ | .alloc _ | .box _ _ | .buildSlice _ _ _=>match Cg X.tt H n n g op with
  |some (d,ne,_)=>HF (Fg X.tt H g op) (d,ne)
  |none=>none
 | .indexAddr t x ix=>CI (IE X g op) (match Jr X.tt g t x ix with
  |some d=>some (d,none)
  |none=>none)
 | .makeInterface _ _ | .lookup _ _ _ _=>Nd X g op
 | .binOp _ _ _ _ _=>CI (IE X g op) (Nd X g op)
 |_=>IE X g op
abbrev rN (o:Option D):Option (D×Option AK):=Option.rec (motive:=λ_=>Option (D×Option AK)) none (λd=>some (d,none)) o
noncomputable def Tf (d:D):EV->BG->Bx->List D->Hp->Nat->Option (D×Option AK):=D.rec (motive_1:=λ_=>EV->BG->Bx->List D->Hp->Nat->Option (D×Option AK)) (motive_2:=λ_=>Unit) (λ_ _ _ _ _ _=>none) (λ_ _ _ _ _ _ _=>none) (λ_ _ _ _ _ _ _ _=>none) (λ_ _ _ _ _ _ _ _=>none) (λ_ _ _ _ _ _ _ _ _ _=>none) (λ_ _ _ _ _ _ _ _=>none) (λ_ _ _ _ _ _ _ _ _ _ _=>none) (λ_ _ _ _ _ _ _ _ _ _ _=>none) (λfn a b _ _ X cl cp l H n=>Fn.rec (motive:=λ_=>Option (D×Option AK)) (λf=>Option.rec (motive:=λ_=>Option (D×Option AK)) (M9 X cl cp H n f (EE (EE a l) b)) (λd=>some (d,none)) (X.nat f (EE (EE a l) b))) (λ_=>none) (λ_ _=>none) (λ_ _ _ _=>none) (λ_=>none) fn) (λ_ _ _ _ _ _ _ _ _=>none) (λ_ _ _ _ _ _ _ _ _ _=>none) (λ_ _ _ _ _ _ _ _ _=>none) (λ_ _ _ _ _ _ _ _=>none) (λ_ _ _ _ _ _ _ _ _ _ _ _=>none) (λ_ _ _ _ _ _ _ _=>none) () (λ_ _ _ _=>()) d
noncomputable def gF (c:Callee):List Operand->EV->BG->Bx->(Operand->D)->Hp->Nat->Option (D×Option AK):=Callee.rec (motive:=λ_=>List Operand->EV->BG->Bx->(Operand->D)->Hp->Nat->Option (D×Option AK)) (λfop l X cl cp g H n=>Tf (g fop) X cl cp (HG l g) H n) (λ_ _ _ _ _ _ _ _ _=>none) (λ_ _ _ _ _ _ _ _=>none) c
noncomputable def qS (op:Op):EV->BG->Bx->(Operand->D)->Hp->Nat->Option (D×Option AK):=Op.rec (motive:=λ_=>EV->BG->Bx->(Operand->D)->Hp->Nat->Option (D×Option AK)) (λ_ _ _ _ _ _ _=>none) (λ_ _ _ _ _ _ _=>none) (λ_ _ _ _ _ _ _ _ _=>none) (λ_ _ _ _ _ _ _=>none) (λ_ _ _ _ _ _ _ _=>none) (λ_ _ _ _ _ _ _ _=>none) (λ_ _ _ _ _ _ _ _ _=>none) (λ_ _ _ _ _ _ _ _ _ _=>none) (λt x X _ _ g H _=>rN (NV t x X.tt g H)) (λ_ _ _ _ _ _ _ _ _=>none) (λ_ _ _ _ _ _ _=>none) (λ_ _ _ _ _ _ _=>none) (λ_ _ _ _ _ _ _=>none) (λ_ _ _ _ _ _ _ _ _ _ _=>none) (λ_ _ _ _ _ _ _ _ _=>none) (λ_ _ _ _ _ _ _ _ _=>none) (λ_ _ _ _ _ _ _ _=>none) (λ_ _ _ _ _ _ _ _=>none) (λ_ _ _ _ _ _ _ _ _=>none) (λ_ _ _ _ _ _ _ _=>none) (λ_ _ _ _ _ _ _ _=>none) (λ_ _ _ _ _ _ _ _ _=>none) (λ_ _ _ _ _ _ _ _ _ _ _=>none) (λ_ _ _ _ _ _ _ _ _=>none) (λ_ _ _ _ _ _ _ _ _=>none) (λt x ix X _ _ g _ _=>rN (J8 Pt (X.tt t) (g x) (g ix))) (λ_ _ _ _ _ _ _ _ _=>none) (λ_ _ _ _ _ _ _ _ _ _=>none) (λ_ _ _ _ _ _ _ _ _ _=>none) (λ_ _ _ _ _ _ _ _ _=>none) (λ_ _ _ _ _ _ _ _ _ _=>none) (λ_ _ _ _ _ _ _ _=>none) (λ_ _ _ _ _ _ _ _=>none) (λ_ _ _ _ _ _ _=>none) (λ_ _ _ _ _ _ _ _ _ _=>none) (λ_ _ _ _ _ _ _ _=>none) (λc=>gF c.callee c.args.toList) (λ_ _ _ _ _ _ _=>none) (λ_ _ _ _ _ _ _=>none) (λ_ _ _ _ _ _ _=>none) (λ_ _ _ _ _ _ _ _=>none) (λ_ _ _ _ _ _ _ _ _=>none) (λ_ _ _ _ _ _ _ _=>none) op
noncomputable def PK (X:EV)(cl:BG)(cp:Bx)(g:Operand->D)(H:Hp)(n:Nat)(op:Op):Option (D×Option AK):=Option.rec (motive:=λ_=>Option (D×Option AK)) (Option.rec (motive:=λ_=>Option (D×Option AK)) (Ir X cl cp g H n op) (λr=>some r) (qS op X cl cp g H n)) (λd=>some (d,none)) (pF op X.tt g)
theorem fN {X:EV}{g:Operand->D}{op:Op}{d:D}(h:pF op X.tt g=some d):IE X g op=some (d,none):=by
 obtain⟨p,h1,h2⟩:=TG h;simp only[IE,h1,h2,HF]
theorem Rx {o:Option D}{r:D×Option AK}(h:rN o=some r):∃d,o=some d/\r=(d,none):=by
 cases o with
 |none=>cases(show none=some r from h)
 |some d=>cases(show some _=some r from h);exact⟨d,rfl,rfl⟩
theorem Wq {X:EV}{cl:BG}{cp:Bx}{g:Operand->D}{H:Hp}{n:Nat}{op:Op}{r:D×Option AK}(h:PK X cl cp g H n op=some r):Ir X cl cp g H n op=some r:=by
 unfold PK at h;cases hp:pF op X.tt g with
 |some d=>
  rw[hp]at h;cases(show some (d,none)=some r from h);have hpe:=fN hp;cases op<;>first|(cases(show none=some d from hp);done)|exact hpe|(simp only[Ir,hpe,CI])
 |none=>
  rw[hp]at h;cases hq:qS op X cl cp g H n with
  |none=>rw[hq]at h;exact h
  |some r'=>
   rw[hq]at h;cases(show some r'=some r from h);cases op<;>try(cases(show none=some r from hq);done)
   case load t x=>
    obtain⟨d,h1,rfl⟩:=Rx hq;obtain⟨p,h2,h3⟩:=Su h1 n n;simp only[Ir,h2,h3,HF]
   case indexAddr t x ix=>
    obtain⟨d,h1,rfl⟩:=Rx hq;obtain⟨h2,h3⟩:=Sr h1;simp only[Ir,IE,h3,CI,h2]
   case call c=>
    obtain⟨callee,args,tys⟩:=c;cases callee<;>try(cases(show none=some r from hq);done)
    rename_i fop;have hq:Tf (g fop) X cl cp (HG args.toList g) H n=some r:=hq;simp only[Ir];generalize g fop=df at hq;cases df<;>try(cases(show none=some r from hq);done)
    rename_i fn a b;cases fn<;>try(cases(show none=some r from hq);done)
    rename_i f;have hq:Option.rec (motive:=λ_=>Option (D×Option AK)) (M9 X cl cp H n f (EE (EE a (HG args.toList g)) b)) (λd=>some (d,none)) (X.nat f (EE (EE a (HG args.toList g)) b))=some r:=hq;rw[Oi,Km,Km]at hq;dsimp only;rw[<-hq];cases X.nat f (a++List.map g args.toList++b)<;>rfl
noncomputable def PL (X:EV)(cl:BG)(cp:Bx)(g:Operand->D)(H:Hp)(n:Nat)(op:Op):Option (D×Option AK):=CI (PK X cl cp g H n op) (match PJ X.tt g op with
 |some d=>some (d,none)
 |none=>match Pb X.xt g H op with
  |some d=>some (d,none)
  |none=>none)
noncomputable def MT (X:EV)(cl:BG)(cp:Bx)(ops:Array Oper)(H:Hp)(n:Nat)(env:ET)(o:Oper):Option (D×Option AK):=match Ho ops env o with
 |some true=>PL X cl cp (Fq env) H n o.op
 |some false=>some (.prim (.tuple #[]),none)
 |none=>none
noncomputable def JY (X:EV)(cl:BG)(cp:Bx)(ops:Array Oper)(H:Hp)(n:Nat)(env:ET)(o:Oper):Option (D×Option AK):=Option.rec (motive:=λ_=>Option (D×Option AK)) (PL X cl cp (Fq env) H n o.op) (λ_=>MT X cl cp ops H n env o) o.guard
theorem We (X:EV)(cl:BG)(cp:Bx)(ops:Array Oper)(H:Hp)(n:Nat)(env:ET)(o:Oper):JY X cl cp ops H n env o=MT X cl cp ops H n env o:=by
 unfold JY;cases hg:o.guard with
 |some p=>rfl
 |none=>simp only[MT,Ho,hg]
theorem OC (hX:CN C X)(hcl:DW C cl)(hcp:EN C cp){H:Hp}{n:Nat}{e:ET}{env:Ab}(hm:Mt e env){o:Oper}{d:D}{ne:Option AK}(h:JY X cl cp ops H n e o=some (d,ne)):A0 C F ops H n env o d ne:=by
 rw[We]at h;unfold MT at h;rw[IX hm,MD hm]at h;split at h<;>try(cases h;done)
 ·rename_i hw
  unfold PL CI at h;split at h
  rotate_left
  ·split at h
   ·rename_i hx
    cases h;exact Wp hX.tt hw hx
   ·split at h<;>try(cases h;done)
    rename_i hx;cases h;exact iY hX.xt hw hx
  rename_i hF;cases h;have h:=Wq hF;clear hF;have pe:IE X (AV env) o.op=some (d,ne)->A0 C F ops H n env o d ne:=λh=>by
   unfold IE at h;split at h<;>try(cases h;done)
   rename_i hp;obtain⟨hb,hr⟩:=KO h;cases hr;exact A0.p hX.tt hw hp (Kt hp hb)
  have qe:Nd X (AV env) o.op=some (d,ne)->A0 C F ops H n env o d ne:=λh=>by
   unfold Nd at h;split at h<;>try(cases h;done)
   rename_i hp;obtain⟨hb,hr⟩:=KO h;cases hr;exact A0.q hX.tt hX.xt hw hp (Sx hp hb)
  have le:∀r,(match Cg X.tt H n n (AV env) o.op with
    |some (d,ne,_)=>HF (Fg X.tt H (AV env) o.op) (d,ne)
    |none=>none)=some r->r=(d,ne)->A0 C F ops H n env o d ne:=λr h hr=>by
   split at h<;>try(cases h;done)
   rename_i hp;obtain⟨hb,hr'⟩:=KO h;rw[<-hr']at hr;cases hr;exact A0.l' n hX.tt hw hp (O8 hp hb)
  unfold Ir at h;split at h
  ·rename_i fop args tys ho
   split at h<;>try(cases h;done)
   rename_i f first captured hf
   split at h
   ·rename_i hn
    cases h;exact A0.nat hw ho hf rfl (hX.nat _ _ _ hn)
   unfold M9 at h;split at h
   ·exact SE hcl hw ho hf h
   ·split at h
    ·rename_i hc
     cases h;obtain⟨c1,c2⟩:=hcp _ _ _ hc;exact A0.call hw ho hf rfl c1 c2
    ·unfold T5 at h
     split at h<;>try(cases h;done)
     rename_i hm;split at h<;>try(cases h;done)
     rename_i hc;obtain⟨hb,hr⟩:=KO h;cases hr;obtain⟨c1,c2⟩:=hcp _ _ _ hc;obtain⟨m1,m2⟩:=FL hm;exact iX hw ho hf rfl m1 (λi a b ha hb=>(D9 (m2 i a b ha hb)).1) c1 c2 (MA hb)
  ·split at h<;>try(cases h;done)
   rename_i hp;obtain⟨hb,hr⟩:=KO h;cases hr;exact UM n hX.tt hw hp (MY hp hb)
  ·exact le _ h rfl
  ·exact le _ h rfl
  ·exact le _ h rfl
  ·exact le _ h rfl
  ·rename_i t x ix ho
   unfold CI at h;split at h
   ·rename_i hr;cases h;exact pe hr
   ·split at h<;>try(cases h;done)
    rename_i hi;cases h;obtain⟨i,e,esz,eby,ez,kk,j,nn,es,d',a1,a2,a3,a4,a5,a6,rfl⟩:=Qa hi;exact A0.idx hX.tt hw ho a1 a2 a3 a4 a5 a6
  ·exact qe h
  ·exact qe h
  ·unfold CI at h
   split at h
   ·rename_i hr;cases h;exact pe hr
   ·exact qe h
  ·exact pe h
 ·rename_i hw
  cases h;exact A0.skip hw
noncomputable def Jc (X:EV)(cl:BG)(cp:Bx)(ops:Array Oper)(H:Hp)(n:Nat):List Nat->ET->Hp->Option (ET×Hp)
 | [],env,N=>some (env,N)
 |i::l,env,N=>match ops[i]? with
  |some o=>match JY X cl cp ops H (n+i) env o with
   |some (d,ne)=>GS d λd=>Iu env o.dst d λenv=>Jc X cl cp ops H n l env (Bk ne N)
   |none=>none
  |none=>none
theorem RT (hX:CN C X)(hcl:DW C cl)(hcp:EN C cp){H:Hp}{n:Nat}:∀ {l:List Nat} {e e':ET} {env:Ab} {N N':Hp},Jc X cl cp ops H n l e N=some (e',N')->Mt e env->∃env',Mt e' env'/\Eg C F ops H n l env N env' N'
 | [],e,e',env,N,N',h,hm=>by
  simp only[Jc,Af,Au]at h;obtain⟨rfl,rfl⟩:=h;exact⟨env,hm,.nil _ _⟩
 |i::l,e,e',env,N,N',h,hm=>by
  simp only[Jc]at h;split at h<;>try(cases h;done)
  rename_i o ho;split at h<;>try(cases h;done)
  rename_i d ne hs;rw[Hc,HX]at h;obtain⟨env',h1,h2⟩:=RT hX hcl hcp h (hm.put _ _);exact⟨env',h1,.cons ho (OC hX hcl hcp hm hs) h2⟩
def Qe (ops:Array Oper)(done:List Nat):List Nat->Option (Nat×List Nat)
 | []=>none
 |i::r=>match FM (Bd ops i) done with
  |true=>some (i,r)
  |false=>match Qe ops done r with
   |some (j,r')=>some (j,i::r')
   |none=>none
def LO (ops:Array Oper):Nat->List Nat->List Nat->List Nat
 | 0,done,rest=>done.reverse++rest
 |f+1,done,rest=>match Qe ops done rest with
  |some (i,rest')=>LO ops f (i::done) rest'
  |none=>done.reverse++rest
def PB (clo:List (Nat×List Nat)):List Nat->List Nat->List Nat->List Nat->List Nat×List Nat
 |_,[],pre,cur=>(pre.reverse,cur.reverse)
 |done,i::l,pre,cur=>match FM done (Cu clo i)with
  |true=>PB clo (i::done) l pre (i::cur)
  |false=>PB clo (i::done) l (i::(cur++pre)) []
def TF (ops:Array Oper):List Nat×List Nat:=
 PB (FB ops (LO ops ops.size [] (List.range ops.size)) []) [] (LO ops ops.size [] (List.range ops.size)) [] []
def gX:Op->Bool
 | .store _ _ _=>true
 | .call ⟨.builtin .append,_,_⟩=>true
 |_=>false
def Sz (ops:Array Oper):List Nat->Option Nat
 | []=>none
 |i::l=>match ops[i]? with
  |some o=>match gX o.op with
   |true=>some i
   |false=>Sz ops l
  |none=>none
def T8 (i:Nat):List Nat->List Nat
 | []=>[]
 |j::l=>match Nat.beq i j with
  |true=>[]
  |false=>j::T8 i l
def fQ (g:Operand->D):Op->Option Nat
 | .store _ x _=>match g x with
  | .optr k _ _ _ _=>some k
  |_=>none
 | .call ⟨.builtin .append,args,_⟩=>match args.toList with
  | [s,_]=>match g s with
   | .osl k _ _ _ _=>some k
   |_=>none
  |_=>none
 |_=>none
def LJ (X:EV)(e:AK)(n:Nat)(g:Operand->D)(op:Op):Option (D×AK):=match op with
 | .store _ _ _=>match DH X.tt [e] g op with
  |some (_,e',_)=>match KC X.tt [e] g op with
   |true=>some (.prim (.tuple #[]),e')
   |false=>none
  |none=>none
 |_=>match Cf X.tt [e] n n g op with
  |some (d,[e'],_)=>match KA X.tt [e] g op with
   |true=>some (d,e')
   |false=>none
  |_=>none
noncomputable def Ub (X:EV)(e:AK)(g:Operand->D)(op:Op):Option (D×AK):=match op with
 | .store t x y=>match Jv t x y X.tt g [e]with
  |some [e']=>some (.prim (.tuple #[]),e')
  |_=>none
 |_=>none
noncomputable def PS (X:EV)(e:AK)(n:Nat)(g:Operand->D)(op:Op):Option (D×AK):=CI (Ub X e g op) (LJ X e n g op)
theorem Ww {X:EV}{e:AK}{n:Nat}{g:Operand->D}{op:Op}{r:D×AK}(h:PS X e n g op=some r):LJ X e n g op=some r:=by
 unfold PS CI at h;split at h
 ·rename_i hw
  cases h;unfold Ub at hw;split at hw<;>try(cases hw;done)
  split at hw<;>try(cases hw;done)
  rename_i e' hs;cases hw;obtain⟨k,e1,p,h1,h2,h3⟩:=SF hs;simp only[LJ,h1,h2];simp only[Hp.set]at h3;split at h3
  ·simp only[CZ,and_true]at h3;rw[h3]
  ·rename_i hb
   simp only[DH]at h1;split at h1<;>try(cases h1;done)
   split at h1<;>try(cases h1;done)
   split at h1<;>try(cases h1;done)
   rename_i hg;split at h1<;>try(cases h1;done)
   cases h1;simp only[Hp.get]at hg;rw[hb]at hg;cases hg
 ·exact h
def GK (ia:Option Nat)(i:Nat):Bool:=match ia with
 |some j=>Nat.beq i j
 |none=>false
def Fo (ia:Option Nat)(accE:Option AK)(R:Hp)(b:Bool):Hp:=match ia with
 |none=>match accE with
  |some e=>match b with
   |true=>e::R
   |false=>R
  |none=>R
 |some _=>R
noncomputable def Gb (X:EV)(cl:BG)(cp:Bx)(ops:Array Oper)(iw:Nat)(ia:Option Nat)(R:Hp)(clo:List Nat)(n:Nat):List Nat->ET->Hp->Option AK->Option AK->Option (ET×Hp×AK×AK)
 | [],env,N,accE,acc=>match accE with
  |some e=>match acc with
   |some e'=>some (env,N,e,e')
   |none=>none
  |none=>none
 |i::l,env,N,accE,acc=>match ops[i]? with
  |some o=>match Nat.beq i iw with
   |true=>match acc with
    |some _=>none
    |none=>match accE with
     |some e=>match Ho ops env o with
      |some true=>match PS X e (n+i) (Fq env) o.op with
       |some (d,e')=>Iu env o.dst d λenv=>Gb X cl cp ops iw ia R clo n l env N accE (some e')
       |none=>none
      |_=>none
     |none=>none
   |false=>match GK ia i with
    |true=>match accE with
     |some _=>none
     |none=>match JY X cl cp ops R (n+i) env o with
      |some (d,some e)=>GS d λd=>Iu env o.dst d λenv=>Gb X cl cp ops iw ia R clo n l env N (some e) acc
      |_=>none
    |false=>match JY X cl cp ops (Fo ia accE R (BT i clo)) (n+i) env o with
     |some (d,ne)=>GS d λd=>Iu env o.dst d λenv=>Gb X cl cp ops iw ia R clo n l env (Bk ne N) accE acc
     |none=>none
  |none=>none
theorem IM {iw:Nat}{ia:Option Nat}{R:Hp}{clo:List Nat}{n:Nat}:∀ {l:List Nat} {env env':ET} {N N':Hp} {accE acc:Option AK} {e e':AK},Gb X cl cp ops iw ia R clo n l env N accE acc=some (env',N',e,e') ->
  (∀a,accE=some a->e=a)/\(∀a,acc=some a->e'=a)
 | [],_,_,_,_,_,_,_,_,h=>by
  simp only[Gb]at h;split at h<;>try(cases h;done)
  split at h<;>try(cases h;done)
  simp only[Af,Au]at h;exact⟨λa ha=>by cases ha;exact h.2.2.1.symm,λa ha=>by cases ha;exact h.2.2.2.symm⟩
 |i::l,_,_,_,_,_,_,_,_,h=>by
  simp only[Gb]at h;split at h<;>try(cases h;done)
  split at h
  ·split at h<;>try(cases h;done)
   split at h<;>try(cases h;done)
   split at h<;>try(cases h;done)
   split at h<;>try(cases h;done)
   rw[HX]at h;exact⟨(IM h).1,by simp⟩
  ·split at h
   ·split at h<;>try(cases h;done)
    split at h<;>try(cases h;done)
    rw[Hc,HX]at h;exact⟨by simp,(IM h).2⟩
   ·split at h<;>try(cases h;done)
    rw[Hc,HX]at h;exact IM h
theorem Xe (hX:CN C X){W:WR}{n:Nat}{env:Ab}{o:Oper}{d:D}(hw:Am ops env o=some true)(h:LJ X W.e n (AV env) o.op=some (d,W.e')):GA C F ops W n env o d:=by
 unfold LJ at h;split at h
 ·split at h<;>try(cases h;done)
  rename_i he;split at h<;>try(cases h;done)
  rename_i hk;simp only[Af,Au]at h;obtain⟨rfl,h2⟩:=h;rw[h2]at he;exact GA.store hX.tt hw he (Sy he hk)
 ·split at h<;>try(cases h;done)
  rename_i he;split at h<;>try(cases h;done)
  rename_i hk;simp only[Af,Au]at h;obtain⟨rfl,h2⟩:=h;rw[h2]at he;exact GA.app n hX.tt hw he (MY he hk)
theorem MC {ia:Option Nat}{i:Nat}:GK ia i=true↔ia=some i:=by
 cases ia with
 |none=>simp[GK]
 |some j=>
  simp only[GK,Af];exact⟨λh=>(Ae h).symm,λh=>by rw[h];exact Fx _⟩
theorem Lo (hX:CN C X)(hcl:DW C cl)(hcp:EN C cp){W:WR}(hwa:W.ia≠some W.iw){clo:List Nat}(hclo:∀j∈clo,Cd ops W.iw j){n:Nat}:∀ {l:List Nat} {t t':ET} {env:Ab} {N N':Hp} {accE acc:Option AK},
  Gb X cl cp ops W.iw W.ia W.R clo n l t N accE acc=some (t',N',W.e,W.e')->Mt t env->∃env',Mt t' env'/\GJ C F ops W n l env N env' N'
 | [],t,t',env,N,N',accE,acc,h,hm=>by
  simp only[Gb]at h;split at h<;>try(cases h;done)
  split at h<;>try(cases h;done)
  simp only[Af,Au]at h;obtain⟨rfl,rfl,_⟩:=h;exact⟨env,hm,.nil _ _⟩
 |i::l,t,t',env,N,N',accE,acc,h,hm=>by
  simp only[Gb,IX hm,MD hm]at h;split at h<;>try(cases h;done)
  rename_i o ho;split at h
  ·rename_i hb
   have hb:=Ae hb;split at h<;>try(cases h;done)
   split at h<;>try(cases h;done)
   rename_i e0;split at h<;>try(cases h;done)
   rename_i hw;split at h<;>try(cases h;done)
   rename_i d e1 he;rw[HX]at h
   replace he:=Ww he
   obtain⟨h1,h2⟩:=IM h;rw[<-h1 _ rfl,<-h2 _ rfl]at he;obtain⟨env',k1,k2⟩:=Lo hX hcl hcp hwa hclo h (hm.put _ _);exact⟨env',k1,.cons (ne:=none) ho (.inr (.inl ⟨hb,by rw[hb];exact hwa,rfl,Xe hX hw he⟩)) k2⟩
  ·rename_i hb
   have hne:i≠W.iw:=λhi=>by rw[hi,Fx]at hb;cases hb
   split at h
   ·rename_i hi
    have hi:=MC.1 hi;split at h<;>try(cases h;done)
    split at h<;>try(cases h;done)
    rename_i d e0 hs;rw[Hc,HX]at h;have h1:=(IM h).1 _ rfl;rw[<-h1]at hs;obtain⟨env',k1,k2⟩:=Lo hX hcl hcp hwa hclo h (hm.put _ _);exact⟨env',k1,.cons (ne:=none) ho (.inr (.inr ⟨hne,hi,rfl,OC (F:=F) hX hcl hcp hm hs⟩)) k2⟩
   ·rename_i hi
    have hi:W.ia≠some i:=λh=>by rw[MC.2 h]at hi;cases hi
    split at h<;>try(cases h;done)
    rename_i d ne hs;rw[Hc,HX]at h;have hacc:=(IM h).1;obtain⟨env',k1,k2⟩:=Lo hX hcl hcp hwa hclo h (hm.put _ _);refine⟨env',k1,.cons ho (.inl ⟨hne,hi,?_⟩) k2⟩;have hst:=OC (F:=F) hX hcl hcp hm hs;unfold Fo at hst;cases hia:W.ia with
    |none=>
     rw[hia]at hst;cases accE with
     |none=>exact .inr hst
     |some a=>
      have:=hacc a rfl
      subst this;dsimp only at hst;cases hm:BT i clo with
      |true=>rw[hm]at hst;exact .inl ⟨rfl,hclo i (DU.1 hm),hst⟩
      |false=>rw[hm]at hst;exact .inr hst
    |some ia=>rw[hia]at hst;exact .inr hst
def SX (s:ES)(N1:Hp)(k:Nat):Option (Option Nat×Option AK×Hp):=match Hp.get s.H k with
 |some e=>some (none,some e,Hp.del s.H k)
 |none=>match Hp.get N1 k with
  |some e=>some (some (e.g-s.n),none,s.H)
  |none=>none
def Tu (n:Nat)(pre clo:List Nat)(e:AK)(iw:Nat):Option Nat->Bool
 |none=>true
 |some ia=>Nat.beq e.g (n+ia)&&BT ia clo&&BT ia pre && !(Nat.beq ia iw)
noncomputable def Rh (X:EV)(cl:BG)(cp:Bx)(ops:Array Oper)(pre suf:List Nat)(iw:Nat)(s:ES):Option ES:=match Jc X cl cp ops s.H s.n (T8 iw pre) s.env []with
 |some (env1,N1)=>match fQ (Fq env1) (ops.getD iw default).op with
  |some k=>match SX s N1 k with
   |some (ia,accE,R)=>match BT iw pre with
    |true=>Jp R λR=>match Gb X cl cp ops iw ia R (Cu (FB ops (pre++suf) []) iw) s.n pre s.env [] accE none with
     |some (env,N,e,e')=>match (Nat.beq e'.g e.g||Nat.beq e'.g (s.n+iw))&&Tu s.n pre (Cu (FB ops (pre++suf) []) iw) e iw ia with
      |true=>BZ (s.n+ops.size) λn=>Jp (N++e'::R) λH=>K2 X cl ops (suf.map λj=>ops.getD j default) ⟨env,H,n⟩
      |false=>none
     |none=>none
    |false=>none
   |none=>none
  |none=>none
 |none=>none
noncomputable def MI (X:EV)(cl:BG)(cp:Bx)(ops:Array Oper)(s:ES):Option ES:=match TF ops with
 |(pre,suf)=>match FX ops pre suf with
  |true=>match (match Sz ops pre with
    |some iw=>Rh X cl cp ops pre suf iw s
    |none=>none)with
   |some s'=>some s'
   |none=>match Jc X cl cp ops s.H s.n pre s.env []with
    |some (env,N)=>BZ (s.n+ops.size) λn=>Jp (N++s.H) λH=>K2 X cl ops (suf.map λj=>ops.getD j default) ⟨env,H,n⟩
    |none=>none
  |false=>none
def fP (ops:Array Oper)(clo:List (Nat×List Nat))(z:Nat):List Nat:=(List.range ops.size).filter λj=>!Nat.beq j z && !BT z (Cu clo j) &&
 (List.range ops.size).all λi=>!BT z (Bd ops i)||BT j (Cu clo i)
def Oo (ops:Array Oper)(z:Nat):Array Oper:=match LO ops ops.size [] (List.range ops.size)with
 |ord0=>match FB ops ord0 []with
  |clo=>match fP ops clo z with
   |S=>match FM S (Cu clo z)with
    |true=>ops
    |false=>match Mx ops z S ord0 (LO (push ops z S) ops.size [] (List.range ops.size))with
     |true=>push ops z S
     |false=>ops
def On:List Nat->Array Oper->Array Oper
 | [],ops=>ops
 |z::l,ops=>On l (Oo ops z)
def Xh:Op->Bool
 | .call ⟨.value _,_,_⟩=>true
 |_=>false
def UX (f:Op->Bool)(ops:Array Oper)(i:Nat):Bool:=match ops[i]? with
 |some o=>f o.op
 |none=>false
def fy (ops:Array Oper):List Nat:=match TF ops with
 |(pre,suf)=>match FB ops (pre++suf) []with
  |clo=>match pre.filter (UX Xh ops)with
   |cs=>(pre.filter λz=>UX Ju ops z&&cs.all λc=>!BT z (Cu clo c)).reverse
noncomputable def JS (X:EV)(cl:BG)(cp:Bx)(ops:Array Oper)(s:ES):Option ES:=CI (MI X cl cp ops s) (match fy ops with
 | []=>none
 |z::l=>MI X cl cp (On (z::l) ops) s)
abbrev NL:=List Nat
noncomputable def Hu (d:D):Nat->NL->NL:=D.rec (motive_1:=λ_=>Nat->NL->NL) (motive_2:=λ_=>Nat->NL->NL) (λ_ a=>a) (λ_ _ a=>a) (λ_ ih=>ih) (λ_ ih=>ih) (λ_ _ _ _ _ a=>a) (λ_ _ _ a=>a) (λk _ _ _ _ n a=>Bool.rec (motive:=λ_=>NL) a (k::a) (Nat.ble n k)) (λk _ _ _ _ n a=>Bool.rec (motive:=λ_=>NL) a (k::a) (Nat.ble n k)) (λ_ _ _ i j n a=>i n (j n a)) (λ_ _ ih=>ih) (λ_ _ _ _ _ a=>a) (λ_ _ ih=>ih) (λk _ n a=>Bool.rec (motive:=λ_=>NL) a (k::a) (Nat.ble n k)) (λk _ _ _ _ _ n a=>Bool.rec (motive:=λ_=>NL) a (k::a) (Nat.ble n k)) (λ_ _ _ a=>a) (λ_ a=>a) (λ_ _ i j n a=>i n (j n a)) d
noncomputable def Ty (l:List D)(n:Nat)(a:NL):NL:=List.rec (motive:=λ_=>NL) a (λd _ ih=>Hu d n ih) l
noncomputable def Tz (l:List D)(n:Nat)(a:NL):NL:=List.rec (motive:=λ_=>NL) a (λd r _=>List.rec (motive:=λ_=>NL) a (λ_ _ _=>Hu d n (Ty r n a)) (Hu d 0 [])) l
noncomputable def cz (n:Nat)(e:ET)(a:NL):NL:=List.rec (motive:=λ_=>NL) a (λr _ ih=>List.rec (motive:=λ_=>NL) ih (λq _ ih=>Ty q n ih) r) e
noncomputable def dA (n:Nat)(H:Hp)(a:NL):NL:=List.rec (motive:=λ_=>NL) a (λe _ ih=>Bool.rec (motive:=λ_=>NL) ih (Tz e.es n ih) (Nat.blt e.g n)) H
noncomputable def O5 (n:Nat)(ks:NL)(H:Hp)(a:NL):NL:=List.rec (motive:=λ_=>NL) a (λe _ ih=>Bool.rec (motive:=λ_=>NL) ih (Tz e.es n ih) (Nat.ble n e.g&&M3 e.k ks)) H
def Jf (p:AK->Bool):Hp->Hp
 | []=>[]
 |e::r=>match p e with
  |true=>e::Jf p r
  |false=>Jf p r
theorem KP (p:AK->Bool):∀H:Hp,(Jf p H).Sublist H
 | []=>.slnil
 |e::r=>by
  simp only[Jf];split
  ·exact(KP p r).cons_cons e
  ·exact(KP p r).cons e
def It {α:Type}:List Nat->(List Nat->α)->α
 | [],k=>k []
 |n::l,k=>BZ n λn=>It l λl=>k (n::l)
theorem Ko {α:Type}:∀(l:List Nat) (k:List Nat->α),It l k=k l
 | [],_=>rfl
 |n::l,k=>by simp only[It,Ks,Ko l]
noncomputable def Mv (n:Nat)(H:Hp):Bool:=List.rec (motive:=λ_=>Nat->Bool) (λ_=>true) (λ_ _ ih n=>Nat.rec (motive:=λ_=>Bool) false (λm _=>ih m) n) H n
noncomputable def gl (l:List D):Bool:=List.rec (motive:=λ_=>Bool) false (λ_ r _=>List.rec (motive:=λ_=>Bool) true (λ_ _ _=>false) r) l
noncomputable def Hn {α:Type}(fl:Bool)(n:Nat)(ks:List Nat)(H:Hp)(k:Hp->α)(k0:Hp->α):α:=match fl with
 |false=>k0 H
 |true=>Jp (Jf (λe=>Nat.blt e.g n || !gl e.es||M3 e.k ks) H) k
theorem WP {α:Type}(fl:Bool)(n:Nat)(ks:List Nat)(H:Hp)(k:Hp->α):∃H':Hp,H'.Sublist H/\Hn fl n ks H k k=k H':=by
 cases fl
 ·exact⟨H,H7 _,rfl⟩
 ·exact⟨_,KP _ _,by dsimp only[Hn];rw[IV]⟩
theorem RR {α:Type}(fl:Bool)(n:Nat)(ks:List Nat)(H:Hp)(k:Hp->α)(k0:Hp->α)(h0:∃H':Hp,H'.Sublist H/\k0 H=k H'):∃H':Hp,H'.Sublist H/\Hn fl n ks H k k0=k H':=by
 cases fl
 ·exact h0
 ·exact⟨_,KP _ _,by dsimp only[Hn];rw[IV]⟩
noncomputable def NS {α:Type}(n:Nat)(a:NL)(H:Hp)(k:Hp->α):α:=It (dA n H a) λa=>It (O5 n a H a) λa=>It (O5 n a H a) λa=>It (O5 n a H a) λks=>Jp (Jf (λe=>Nat.blt e.g n||M3 e.k ks) H) k
theorem Sm {α:Type}(n:Nat)(a:NL)(H:Hp)(k:Hp->α):∃H':Hp,H'.Sublist H/\NS n a H k=k H':=
 ⟨_,KP _ _,by unfold NS;rw[Ko,Ko,Ko,Ko,IV]⟩
noncomputable def Ps {α:Type}(n:Nat)(env:ET)(H:Hp)(k:Hp->α):α:=match Mv 48 H with
 |true=>k H
 |false=>NS n (cz n env []) H k
theorem cd {α:Type}(n:Nat)(env:ET)(H:Hp)(k:Hp->α):∃H':Hp,H'.Sublist H/\Ps n env H k=k H':=by
 unfold Ps;cases Mv 48 H
 ·exact Sm _ _ _ _
 ·exact⟨H,H7 _,rfl⟩
noncomputable def J7 {α:Type}(n:Nat)(d:D)(H:Hp)(k:Hp->α):α:=match Mv 12 H with
 |true=>k H
 |false=>NS n (Hu d n []) H k
theorem Sn {α:Type}(n:Nat)(d:D)(H:Hp)(k:Hp->α):∃H':Hp,H'.Sublist H/\J7 n d H k=k H':=by
 unfold J7;cases Mv 12 H
 ·exact Sm _ _ _ _
 ·exact⟨H,H7 _,rfl⟩
noncomputable def Hj (fl:Bool)(f:ES->Option (Exit×ES))(n0:Nat):Nat->ES->Option (Exit×ES)
 | 0,_=>none
 |k+1,⟨e,H0,n⟩=>Ps n0 e H0 λH=>match f ⟨e,H,n⟩with
  |some (.normal,⟨e2,H2,n2⟩)=>Hn fl n [] H2 (λH3=>Hj fl f n0 k ⟨e2,H3,n2⟩) (λH3=>Hj fl f n0 k ⟨e2,H3,n2⟩)
  |r=>r
noncomputable def CQ (X:EV)(cl:BG)(cp:Bx)(fl:Bool)(lf:Nat):Code->ES->Option (Exit×ES)
 | .skip,s=>some (.normal,s)
 | .region _ ops draw,s=>match draw with
  |true=>match JS X cl cp ops s with
   |some s'=>some (.normal,s')
   |none=>none
  |false=>match K2 X cl ops ops.toList s with
   |some s'=>some (.normal,s')
   |none=>none
 | .seq a b,s=>match CQ X cl cp fl lf a s with
  |some (.normal,s')=>CQ X cl cp fl lf b s'
  |r=>r
 | .cond c a b,s=>match Fq s.env c with
  | .prim (.bool true)=>CQ X cl cp fl lf a s
  | .prim (.bool false)=>CQ X cl cp fl lf b s
  |_=>none
 | .block i b,s=>match CQ X cl cp fl lf b s with
  |some (.exit j,s')=>match Nat.beq j i with
   |true=>some (.normal,s')
   |false=>some (.exit j,s')
  |r=>r
 | .loop b,s=>Hj fl (CQ X cl cp fl lf b) (lf/1048576) (lf%1048576) s
 | .label _,s=>some (.normal,s)
 | .scope b,s=>match CQ X cl cp fl lf b s with
  |some (.goto _,_)=>none
  |r=>r
 | .exit i,s=>some (.exit i,s)
 | .ret,s=>some (.ret,s)
 |_,_=>none
def At (s:ES)(st:St):Prop:=Mt s.env st.env/\st.H=s.H/\st.n=s.n
def isS (e:Exit)(s:ES):Exit->St->Prop:=λe1 s1=>e1=e/\At s s1
theorem Ok.subH {c:Code}{env:Ab}{H H':Hp}{n:Nat}{Q:Exit->St->Prop}(hs:H'.Sublist H)(h:Ok C F c ⟨env,H',n⟩ Q):Ok C F c ⟨env,H,n⟩ Q:=
 λhd ρ a w hS=>by
  obtain⟨m,hO⟩:=hS.mem.sub hs;exact h hd ρ a w ⟨m,hS.fresh,λe he=>hS.gen e (hs.subset he),λt=>(hS.env t).anti hO,hS.nt,hS.dfr⟩
theorem Lm (hX:CN C X)(hcl:DW C cl)(hcp:EN C cp){ops:Array Oper}{s s':ES}(h:MI X cl cp ops s=some s'){st:St}(ha:At s st):Eu C F ops st (isS .normal s'):=by
 obtain⟨env0,H0,n0⟩:=st;obtain⟨hm0,rfl,rfl⟩:=ha;unfold MI at h;split at h;rename_i pre suf ho;split at h<;>try(cases h;done)
 rename_i hc;split at h
 ·rename_i s1 hh
  cases h
  revert hh
  intro h;split at h<;>try(cases h;done)
  rename_i iw _;unfold Rh at h;split at h<;>try(cases h;done)
  split at h<;>try(cases h;done)
  split at h<;>try(cases h;done)
  rename_i k _ ia accE R hwb;split at h<;>try(cases h;done)
  rename_i hm;rw[IV]at h;split at h<;>try(cases h;done)
  rename_i env N e e' hp;split at h<;>try(cases h;done)
  rename_i hg;rw[Ks,IV]at h;simp only[Ag,LV]at hg;obtain⟨hg1,hg2⟩:=hg;have hreach:∀j∈Cu (FB ops (pre++suf) []) iw,Cd ops iw j:=λj hj=>KK (KW _ _ (by simp)) _ _ hj
  have hia:∀j,ia=some j->e.g=s.n+j/\Cd ops iw j/\j∈pre/\j≠iw:=λj hj=>by
   subst hj;simp only[Tu,Ag,Ec]at hg2;exact⟨Ae hg2.1.1.1,hreach j (DU.1 hg2.1.1.2),DU.1 hg2.1.2,λh=>by rw[h,Fx]at hg2;cases hg2.2⟩
  have hacc:=(IM hp).1;have hst:s.H.Perm (WR.start ⟨iw,ia,e,e',R⟩):=by
   unfold SX at hwb;split at hwb
   ·rename_i e0 he
    cases hwb;obtain⟨H1,H2,q1,_,q3⟩:=GM e0 he;rw[q3,hacc e0 rfl];unfold WR.start;rw[q1];exact Jy
   ·split at hwb<;>try(cases hwb;done)
    cases hwb;exact List.Perm.refl _
  obtain⟨env',k1,k2⟩:=Lo (W:=⟨iw,ia,e,e',R⟩) (F:=F) hX hcl hcp (λh=>(hia iw h).2.2.2 rfl) hreach hp hm0;exact iJ (W:=⟨iw,ia,e,e',R⟩) (s:=⟨env0,s.H,s.n⟩) hc hst (λj hj=>⟨(hia j hj).1,(hia j hj).2.1,(hia j hj).2.2.1⟩) (DU.1 hm) (hg1.imp Ae Ae)
   k2 (L9 (s:=⟨env',_,_⟩) hX hcl h k1 λ_ h=>⟨rfl,h,rfl,rfl⟩)
 ·split at h<;>try(cases h;done)
  rename_i env N hp;rw[Ks,IV]at h;obtain⟨env',k1,k2⟩:=RT (F:=F) hX hcl hcp hp hm0;exact iI (s:=⟨env0,s.H,s.n⟩) hc k2 (L9 (s:=⟨env',_,_⟩) hX hcl h k1 λ_ h=>⟨rfl,h,rfl,rfl⟩)
theorem VJ {Q:Exit->St->Prop}{st:St}{z:Nat}(hN:∀e s,Q e s->e=.normal)(h:Eu C F (Oo ops z) st Q):Eu C F ops st Q:=by
 unfold Oo at h;dsimp only at h;split at h
 ·exact h
 ·split at h
  ·rename_i hp
   exact Eu.push hp hN h
  ·exact h
theorem N9 {Q:Exit->St->Prop}{st:St}(hN:∀e s,Q e s->e=.normal):∀ {l:List Nat} {ops:Array Oper},Eu C F (On l ops) st Q->Eu C F ops st Q
 | [],_,h=>h
 |_::_,_,h=>VJ hN (N9 hN h)
theorem VZ (hX:CN C X)(hcl:DW C cl)(hcp:EN C cp){i:Nat}{s s':ES}(h:JS X cl cp ops s=some s'){st:St}(ha:At s st):Ok C F (.region i ops true) st (isS .normal s'):=by
 unfold JS CI at h;split at h
 ·rename_i h0
  cases h;exact(Lm hX hcl hcp h0 ha).ok hX.mixed
 ·split at h<;>try(cases h;done)
  exact(N9 (λe s hs=>hs.1) (Lm hX hcl hcp h ha)).ok hX.mixed
theorem F7 (hX:CN C X)(hcl:DW C cl)(hcp:EN C cp){fl:Bool}{lf:Nat}:∀ {c:Code} {s s':ES} {e:Exit},CQ X cl cp fl lf c s=some (e,s')->∀ {st:St},At s st->Ok C F c st (isS e s')
 | .skip,s,s',e,h,st,ha=>by simp only[CQ,Af,Au]at h;obtain⟨rfl,rfl⟩:=h;exact Ok.skip ⟨rfl,ha⟩
 | .region i ops draw,s,s',e,h,st,ha=>by
  simp only[CQ]at h;split at h
  ·split at h<;>try(cases h;done)
   rename_i hd;cases h;exact VZ hX hcl hcp hd ha
  ·split at h<;>try(cases h;done)
   rename_i hd;cases h;obtain⟨env0,H0,n0⟩:=st;obtain⟨hm0,rfl,rfl⟩:=ha;exact Ok.region (L9 (s:=⟨env0,s.H,s.n⟩) hX hcl hd hm0 λ_ h=>⟨rfl,h,rfl,rfl⟩)
 | .seq a b,s,s',e,h,st,ha=>by
  simp only[CQ]at h;refine Ok.seq ?_;split at h
  ·rename_i s1 h1
   refine(F7 hX hcl hcp h1 ha).mono ?_;rintro _ s2 ⟨rfl,ha2⟩;exact F7 hX hcl hcp h ha2
  ·rename_i hne
   refine(F7 hX hcl hcp h ha).mono ?_;rintro e1 s1 ⟨h1,h2⟩;rw[h1];cases e with
   |normal=>exact AW h (hne _)
   |_=>exact⟨rfl,h2⟩
 | .cond c a b,s,s',e,h,st,ha=>by
  simp only[CQ,IX ha.1]at h;have hr:∀x,AV st.env c=.prim (.bool x)->∀ρ a w,Aw C F ρ st a w->a.eval c=.bool x:=λx hx ρ a w hs=>by
   have:=BN hs.env c
   rw[hx]at this;generalize a.eval c=v at this;cases this;rfl
  split at h
  ·rename_i hx
   exact Ok.cond true (hr _ hx) (λ_=>F7 hX hcl hcp h ha) (λh=>by cases h)
  ·rename_i hx
   exact Ok.cond false (hr _ hx) (λh=>by cases h) (λ_=>F7 hX hcl hcp h ha)
  ·cases h
 | .block i b,s,s',e,h,st,ha=>by
  simp only[CQ]at h;refine Ok.block ?_;split at h
  ·rename_i j s1 h1
   refine(F7 hX hcl hcp h1 ha).mono ?_;rintro _ s2 ⟨rfl,ha2⟩;dsimp only;split at h
   ·rename_i hb
    cases h;rw[AM (Ae hb)];exact⟨rfl,ha2⟩
   ·rename_i hb
    cases h;rw[AN (λhj=>by rw[hj,Fx]at hb;cases hb)];exact⟨rfl,ha2⟩
  ·rename_i hne
   refine(F7 hX hcl hcp h ha).mono ?_;rintro e1 s1 ⟨h1,h2⟩;rw[h1];cases e with
   |exit j=>exact AW h (hne _ _)
   |_=>exact⟨rfl,h2⟩
 | .loop b,s,s',e,h,st,ha=>by
  simp only[CQ]at h;refine Ok.loop (λm st=>∃e2 H n,(Mt e2 st.env/\H.Sublist st.H/\st.n=n)/\Hj fl (CQ X cl cp fl lf b) (lf/1048576) m ⟨e2,H,n⟩=some (e,s')) ⟨s.env,s.H,s.n,⟨ha.1,by rw[ha.2.1];exact H7 _,ha.2.2⟩,h⟩ λm st1 hI=>?_
  obtain⟨te,tH,tn,⟨hm1,hs1,hn1⟩,hI⟩:=hI;obtain⟨env1,H1,n1⟩:=st1;dsimp only at hm1 hs1 hn1;subst hn1;cases m with
  |zero=>cases hI
  |succ m=>
   simp only[Hj]at hI;obtain⟨H2,hsub,hgc⟩:=cd (α:=Option (Exit×ES)) (lf/1048576) te tH (λH=>match CQ X cl cp fl lf b ⟨te,H,n1⟩with
    |some (.normal,⟨e2,H2,n2⟩)=>Hn fl n1 [] H2 (λH3=>Hj fl (CQ X cl cp fl lf b) (lf/1048576) m ⟨e2,H3,n2⟩) (λH3=>Hj fl (CQ X cl cp fl lf b) (lf/1048576) m ⟨e2,H3,n2⟩)
    |r=>r)
   rw[hgc]at hI;refine Ok.subH (hsub.trans hs1) ?_;have ha3:At ⟨te,H2,n1⟩ ⟨env1,H2,n1⟩:=⟨hm1,rfl,rfl⟩
   split at hI
   ·rename_i e2 H3 n2 h2
    obtain⟨H4,hs4,hd4⟩:=WP (α:=Option (Exit×ES)) fl n1 [] H3 (λH3=>Hj fl (CQ X cl cp fl lf b) (lf/1048576) m ⟨e2,H3,n2⟩);rw[hd4]at hI;refine(F7 hX hcl hcp h2 ha3).mono ?_;rintro _ s3 ⟨rfl,hm4,hH4,hn4⟩;exact⟨m,Ft m,e2,H4,n2,⟨hm4,by rw[hH4];exact hs4,hn4⟩,hI⟩
   ·rename_i hne
    refine(F7 hX hcl hcp hI ha3).mono ?_;rintro e1 s3 ⟨h1,h2⟩;rw[h1];cases e with
    |normal=>exact AW hI (hne _ _ _)
    |_=>exact⟨rfl,h2⟩
 | .exit i,s,s',e,h,st,ha=>by simp only[CQ,Af,Au]at h;obtain⟨rfl,rfl⟩:=h;exact Ok.exit ⟨rfl,ha⟩
 | .ret,s,s',e,h,st,ha=>by simp only[CQ,Af,Au]at h;obtain⟨rfl,rfl⟩:=h;exact Ok.ret ⟨rfl,ha⟩
 | .rangeFunc ..,_,_,_,h,_,_=>by simp[CQ]at h
 | .scope b,s,s',e,h,st,ha=>by
  simp only[CQ]at h;split at h<;>try(cases h;done)
  rename_i hne;refine Ok.scope (λl s1 hq=>?_) (F7 hX hcl hcp h ha);obtain⟨h1,h2⟩:=hq;exact hne l s' (by rw[h,<-h1])
 | .label _,s,s',e,h,st,ha=>by simp only[CQ,Af,Au]at h;obtain⟨rfl,rfl⟩:=h;exact Ok.label ⟨rfl,ha⟩
 | .goto _,_,_,_,h,_,_=>by simp[CQ]at h
 | .refuse _,_,_,_,h,_,_=>by simp[CQ]at h
def okR (tt:Nat->Option AL)(s:St):List ResultVar->Bool
 | []=>true
 | .tmp _::r=>okR tt s r
 | .cell a t::r=>Fg tt s.H (λ_=>s.env.get a) (.load t (.tmp 0))&&okR tt s r
theorem Ma {tt:Nat->Option AL}{s:St}:∀ {rs:List ResultVar} {l:List D} {p:Prop},Fl tt s rs=some (l,p)->okR tt s rs=true->p
 | [],_,_,h,_=>by simp only[Fl,Af,Au]at h;obtain⟨_,rfl⟩:=h;trivial
 |r::rs,l,p,h,hk=>by
  simp only[Fl]at h;split at h<;>try(cases h;done)
  rename_i d q h1;split at h<;>try(cases h;done)
  rename_i l' q' h2;cases h;cases r with
  |tmp t=>
   simp only[G6,Af,Au]at h1;obtain⟨_,rfl⟩:=h1;exact⟨trivial,Ma h2 hk⟩
  |cell a t=>
   simp only[okR,Ag]at hk;simp only[G6]at h1;split at h1<;>try(cases h1;done)
   rename_i he;cases h1;exact⟨O8 he hk.1,Ma h2 hk.2⟩
def Jd (tt:Nat->Option AL)(s:St)(rs:List ResultVar):Option (D×Hp×Nat):=match FA tt s rs with
 |some (d,_)=>E7 (okR tt s rs) (d,s.H,s.n)
 |none=>none
theorem RU {tt:Nat->Option AL}{s:St}{rs:List ResultVar}{d:D}{H:Hp}{n:Nat}(h:Jd tt s rs=some (d,H,n)):∃p,FA tt s rs=some (d,p)/\p/\H=s.H/\n=s.n:=by
 unfold Jd at h;split at h<;>try(cases h;done)
 rename_i d' p hr;obtain⟨hb,he⟩:=HS h;cases he;refine⟨p,hr,?_,rfl,rfl⟩;unfold FA at hr;split at hr<;>try(cases hr;done)
 ·rename_i ha;cases hr;exact Ma ha hb
 ·rename_i ha;cases hr;exact Ma ha hb
def I7 (r:ResultVar):Nat:=match r with
 | .tmp t=>t
 | .cell a _=>a
def IC (e:ET):List ResultVar->Ab
 | []=>[]
 |r::rs=>(I7 r,e.get (I7 r))::IC e rs
theorem Rz {e:ET}:∀ {rs:List ResultVar} {r:ResultVar},r∈rs->(IC e rs).get (I7 r)=e.get (I7 r)
 |q::rs,r,h=>by
  simp only[IC,Gk];split
  ·rename_i hq;rw[hq]
  ·rename_i hq
   rcases Ah.1 h with rfl|h
   ·exact AW rfl hq
   ·exact Rz h
theorem P2 {tt:Nat->Option AL}{s s':St}(hH:s.H=s'.H):∀ {rs:List ResultVar},(∀r∈rs,s.env.get (I7 r)=s'.env.get (I7 r))->Fl tt s rs=Fl tt s' rs
 | [],_=>rfl
 |r::rs,h=>by
  have h1:G6 tt s r=G6 tt s' r:=by
   have:=h r (by simp)
   cases r<;>(simp only[I7]at this;simp only[G6,this,hH])
  simp only[Fl,h1,P2 hH (rs:=rs) λr hr=>h r (by simp[hr])]
theorem Ry {tt:Nat->Option AL}{s:ES}{st:St}(ha:At s st)(rs:List ResultVar):FA tt ⟨IC s.env rs,s.H,s.n⟩ rs=FA tt st rs:=by
 unfold FA;rw[P2 (s':=st) (by exact ha.2.1.symm) λr hr=>by rw[<-ha.1];exact Rz hr]
noncomputable def K6 (X:EV)(cl:BG)(cp:Bx)(lf f:Nat)(ds:List D)(H:Hp)(n:Nat):Option (D×Hp×Nat):=match X.ft f with
 |some i=>match Nat.ble ds.length i.nt with
  |true=>match CQ X cl cp (X.np (2000000+f)) (lf+n*1048576) i.code ⟨Jl 0 ds,H,n⟩with
   |some (.normal,s)=>Jd X.tt ⟨IC s.env i.res,s.H,s.n⟩ i.res
   |some (.ret,s)=>Jd X.tt ⟨IC s.env i.res,s.H,s.n⟩ i.res
   |_=>none
  |false=>none
 |none=>none
noncomputable def JW (X:EV)(cl:BG)(cp:Bx)(lf f:Nat)(ds:List D):Option D:=match X.orc f ds with
 |some d=>some d
 |none=>match X.np f with
  |true=>none
  |false=>match D0 (Dn 20) ds with
   |true=>match K6 X cl cp lf f ds [] 0 with
    |some (d,H,_)=>Gr 20 H d
    |none=>none
   |false=>none
noncomputable def FF (X:EV)(lf:Nat):Nat->Bx×BG
 | 0=>(λ_ _=>none,λ_ _ _ _=>none)
 |fu+1=>(JW X (FF X lf fu).2 (FF X lf fu).1 lf,λf ds H n=>match JW X (FF X lf fu).2 (FF X lf fu).1 lf f ds with
  |some d=>some (d,H,n+1)
  |none=>match K6 X (FF X lf fu).2 (FF X lf fu).1 lf f ds H n with
   |some (d,H',n')=>Hn (X.np (2000000+f)) n (Hu d n []) H' (λH2=>some (d,H2,n')) (λH1=>J7 n d H1 λH2=>some (d,H2,n'))
   |none=>none)
theorem OW (hX:CN C X)(hcl:DW C cl)(hcp:EN C cp){lf f:Nat}{ds:List D}{H H':Hp}{n n':Nat}{d:D}(h:K6 X cl cp lf f ds H n=some (d,H',n')):
  ∃fn c p,C.P.funcs[f]?=some fn/\fn.body=some c/\(fn.name == "runtime.NumGoroutine")=false/\B6 fn.ntmps c=true/\Nat.ble ds.length fn.ntmps=true/\p /\
   ∀F:AI,Ok C F c ⟨Ck 0 ds,H,n⟩ (λe s=>(e=.normal\/e=.ret)/\FA X.tt s fn.results.toList=some (d,p)/\s.H=H'/\s.n=n'):=by
 unfold K6 at h;split at h<;>try(cases h;done)
 rename_i i hi;obtain⟨fn,a1,a2,a3,a4,a5,a6⟩:=hX.ft f i hi;split at h<;>try(cases h;done)
 rename_i hb;obtain⟨e,s,hc,he,h⟩:∃e s,CQ X cl cp (X.np (2000000+f)) (lf+n*1048576) i.code ⟨Jl 0 ds,H,n⟩=some (e,s)/\(e=.normal\/e=.ret)/\Jd X.tt ⟨IC s.env i.res,s.H,s.n⟩ i.res=some (d,H',n'):=by
  split at h<;>try(cases h;done)
  ·rename_i s hc
   exact⟨_,s,hc,.inl rfl,h⟩
  ·rename_i s hc
   exact⟨_,s,hc,.inr rfl,h⟩
 obtain⟨p,b1,b2,b3,b4⟩:=RU h;refine⟨fn,i.code,p,a1,a2,a3,a4,by rw[a5];exact hb,b2,λF=>(F7 hX hcl hcp hc (st:=⟨Ck 0 ds,H,n⟩) ⟨MU ds 0,rfl,rfl⟩).mono ?_⟩;rintro _ s1 ⟨rfl,ha⟩;exact⟨he,by rw[a6,<-Ry ha];exact b1,by rw[ha.2.1];exact b3.symm,by rw[ha.2.2];exact b4.symm⟩
theorem Lu (hX:CN C X)(hcl:DW C cl)(hcp:EN C cp){lf f:Nat}{ds:List D}{d:D}(h:JW X cl cp lf f ds=some d):Aa C f ds d/\AS ds:=by
 unfold JW at h;split at h
 ·rename_i ho;cases h;exact hX.orc _ _ _ ho
 ·split at h<;>try(cases h;done)
  split at h<;>try(cases h;done)
  rename_i hp;split at h<;>try(cases h;done)
  rename_i d0 H0 n0 hr;obtain⟨fn,c,p,a1,a2,a3,a4,a5,a6,a7⟩:=OW hX hcl hcp hr;obtain⟨z1,z2⟩:=ER h;refine⟨Ax.intro hX.tt a1 a2 a3 a4 a5 λF=>(a7 F).mono ?_,⟨λx hx=>DL (Dy hp x hx)⟩⟩;rintro e s ⟨b1,b2,rfl,rfl⟩;exact⟨b1,d0,p,b2,a6,d,z1,z2,rfl⟩
theorem Ct.ofPure {f:Nat}{ds:List D}{d:D}{H:Hp}{n:Nat}(h:Aa C f ds d)(hp:AS ds):Ct C f ds H n (I6 d H (n+1)):=by
 refine⟨h.1,λF ρ w vs m hfr hg hvs hr=>(h.2 (AF F.X ρ H) w vs m.g (Az m.gn m.size) (λb hb=>m.own_lt hb) hvs λi x hx=>hp.out x (Bh hx) _ _ _ _ _ (hr i x hx)).mono ?_⟩;rintro e w' ⟨v,d',rfl,hb,rfl,hrep⟩;have x:Ao ρ (AF F.X ρ H) w ρ (AF F.X ρ H) w':=⟨hb.size,λ_ _ _ h=>h,λb hb' hO=>⟨hO,hb.block b hb'⟩,λb cs T fz hh=>⟨cs,_,by
  rw[hb.block b (Bo.1 hh).1];exact hh,rfl⟩⟩
 exact⟨v,_,_,_,ρ,rfl,⟨rfl,rfl,rfl⟩,m.same x hb.os hb.tape hb.output hb.block,x,λk g hg=>hfr k g (by omega),λe he=>BK (hg e he),hrep.nol⟩
theorem SK (hX:CN C X)(lf:Nat):∀fu,EN C (FF X lf fu).1/\DW C (FF X lf fu).2
 | 0=>⟨λ_ _ _ h=>by simp[FF]at h,λ_ _ _ _ _ _ _ h=>by simp[FF]at h⟩
 |fu+1=>by
  obtain⟨hcp,hcl⟩:=SK hX lf fu;refine⟨λf ds d h=>Lu hX hcl hcp h,λf ds H n d H' n' h=>?_⟩;simp only[FF]at h;split at h
  ·rename_i d0 hp
   cases h;obtain⟨h1,h2⟩:=Lu hX hcl hcp hp;exact .ofPure h1 h2
  ·split at h<;>try(cases h;done)
   rename_i d1 H1 n1 hrun;obtain⟨H2,hsub,hgc⟩:=RR (α:=Option (D×Hp×Nat)) (X.np (2000000+f)) n (Hu d1 n []) H1 (λH2=>some (d1,H2,n1)) (λH1=>J7 n d1 H1 λH2=>some (d1,H2,n1)) (Sn (α:=Option (D×Hp×Nat)) n d1 H1 (λH2=>some (d1,H2,n1)));rw[hgc]at h;cases h;refine Ct.subH hsub ?_;obtain⟨fn,c,p,a1,a2,a3,a4,a5,a6,a7⟩:=OW hX hcl hcp hrun;refine Ct.intro hX.tt a1 a2 a3 a4 a5 λF _=>(a7 F).mono ?_
   rintro e s ⟨b1,b2,rfl,rfl⟩;exact⟨b1,d,p,b2,a6,rfl,rfl,rfl⟩
theorem UL (hX:CN C X)(lf fu:Nat){f:Nat}{ds:List D}{d:D}(h:(FF X lf fu).1 f ds=some d):Aa C f ds d:=((SK hX lf fu).1 f ds d h).1
end
end
inductive Bt (α:Type) where
 |nil
 |node (k:Nat) (v:α) (l r:Bt α)
def Bt.get {α:Type}:Bt α->Nat->Option α
 | .nil,_=>none
 | .node k v l r,t=>match Nat.beq t k with
  |true=>some v
  |false=>match Nat.ble t k with
   |true=>l.get t
   |false=>r.get t
def Bt.toL {α:Type}:Bt α->List (Nat×α)
 | .nil=>[]
 | .node k v l r=>(k,v)::(l.toL++r.toL)
theorem Bt.get_mem {α:Type}:∀ {b:Bt α} {t:Nat} {v:α},b.get t=some v->(t,v)∈b.toL
 | .nil,_,_,h=>by cases h
 | .node k v l r,t,u,h=>by
  simp only[Bt.get]at h;split at h
  ·rename_i hb;cases h;rw[Ae hb];exact DF ..
  ·split at h
   ·exact Dv _ (J1 _ (Bt.get_mem h))
   ·exact Dv _ (List.mem_append_right _ (Bt.get_mem h))
theorem iE {P:Program}{b:Bt AL}(h:b.toL.map (λp=>Cm P p.1)=b.toL.map (λp=>some p.2)):A7 P b.get:=λt i hi=>by
 have hm:=Bt.get_mem hi;obtain⟨j,hj,he⟩:=J4 hm
 have:=congrArg (λl=>l[j]?) h
 simp only[Bf,BI hj,he,Fu,Af]at this;exact this
theorem iF {P:Program}{b:Bt XI}(h:b.toL.map (λp=>HD P p.1)=b.toL.map (λp=>some p.2)):Er P b.get:=λt i hi=>by
 have hm:=Bt.get_mem hi;obtain⟨j,hj,he⟩:=J4 hm
 have:=congrArg (λl=>l[j]?) h
 simp only[Bf,BI hj,he,Fu,Af]at this;exact this
def Gs (P:Program) (f:Nat) (i:FI):Prop:=∃fn,P.funcs[f]?=some fn/\fn.body=some i.code/\(fn.name == "runtime.NumGoroutine")=false/\B6 fn.ntmps i.code=true/\fn.ntmps=i.nt/\fn.results.toList=i.res
def LG (P:Program):Bt FI->Prop
 | .nil=>True
 | .node k v l r=>Gs P k v/\LG P l/\LG P r
theorem Pf {P:Program}:∀ {b:Bt FI},LG P b->∀f i,b.get f=some i->Gs P f i
 | .nil,_,_,_,h=>by cases h
 | .node k v l r,h,f,i,hi=>by
  simp only[Bt.get]at hi;split at hi
  ·rename_i hb;cases hi;rw[Ae hb];exact h.1
  ·split at hi
   ·exact Pf h.2.1 f i hi
   ·exact Pf h.2.2 f i hi
def Ht (f:Func):FI:=⟨f.ntmps,f.results.toList,f.body.getD .skip⟩
def PY (tt:Nat->Option AL)(g:Operand->D)(op:Op):Option D:=match CG tt g op with
 |some (d,_)=>match Ed tt g op with
  |true=>some d
  |false=>none
 |none=>none
theorem Xd {tt:Nat->Option AL}{g:Operand->D}{op:Op}{d:D}(h:PY tt g op=some d):∃p,CG tt g op=some (d,p)/\p:=by
 unfold PY at h;split at h<;>try(cases h;done)
 rename_i hp;split at h<;>try(cases h;done)
 rename_i hk;cases h;exact⟨_,hp,Kt hp hk⟩
section
variable {C:AZ} {F:AI} {s:St} {ops:Array Oper} {o:Oper} {os:List Oper} {K:St->Prop}
theorem BM {tt:Nat->Option AL}(htt:A7 C.P tt){m t:Nat}{ks vs:List D}(d:D)(hw:Am ops s.env o=some true)(he:PY tt (AV s.env) o.op=some d)(hflat:Cw d)(hd:o.dst=some t)(hne:t≠m)
  (h:EM C F ops os m ks vs ⟨Ak s.env (some t) d,s.H,s.n+1⟩ K):EM C F ops (o::os) m ks vs s K:=by
 obtain⟨p,h1,h2⟩:=Xd he;exact EM.p htt hw h1 h2 hflat hd hne h
end
end Go.Ide
