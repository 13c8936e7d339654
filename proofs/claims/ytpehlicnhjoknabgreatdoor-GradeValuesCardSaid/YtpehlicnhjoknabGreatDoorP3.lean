/- The layer of own lemmas and contracts, part 3. -/
import Derived.Test.YtpehlicnhjoknabGreatDoorP2
import Derived.OrdersIn
import Derived.RangeFuncLeaves
import Derived.RangeFuncSeq
import Derived.RangeFuncIn
import Derived.RangeFuncRecord
set_option linter.unusedVariables false
set_option linter.unusedSimpArgs false
namespace Go.Ide
open Go.RowKit
noncomputable section
structure FI where
 nt:Nat
 res:List ResultVar
 code:Code
structure EV where
 tt:Nat→Option TInfo
 xt:Nat→Option XI
 ft:Nat→Option FI
 np:Nat→Bool
 orc:Nat→List D→Option D
 mt:Nat→String→Option Nat
 nat:Nat→List D→Option D
structure EVOk (C:Ctx)(X:EV):Prop where
 tt:Tab C.P X.tt
 xt:TabX C.P X.xt
 ft:∀ f i,X.ft f=some i→∃ fn,C.P.funcs[f]? = some fn∧fn.body=some i.code∧(fn.name == "runtime.NumGoroutine")=false∧codeDst fn.ntmps i.code=true∧fn.ntmps=i.nt∧fn.results.toList=i.res
 orc:∀ f ds d,X.orc f ds=some d→ICalls C f ds d∧ArePure ds
 mixed:C.P.follows .mixedOrders=true
 mt:∀ t name f,X.mt t name=some f→∀ v w,(method (C.P.types.size+Made.depth) t v name).run C.P w=.ok (f,v) w
 nat:∀ f ds d,X.nat f ds=some d→NatCall C f ds d
noncomputable def getF (env:Env)(t:Nat):D:=List.rec (motive:=fun _=>D) .any (fun p _ ih=>Bool.rec (motive:=fun _=>D) ih p.2 (Nat.beq p.1 t)) env
theorem getF_eq (t:Nat):∀ env:Env,getF env t=env.get t
 | []=>rfl
 | (k,d)::r=>by
  show Bool.rec (motive:=fun _=>D) (getF r t) d (Nat.beq k t)=_;rw [getF_eq t r];simp only [Env.get];cases Nat.beq k t<;>rfl
noncomputable def gOpF (env:Env)(x:Operand):D:=match x with
 | .tmp t=>getF env t
 | .const v=>constD v
 | .global g=>.prim (.pointer (some ⟨g,0,none⟩))
 | .func f=>.clo (.func f) [] []
theorem gOpF_eq (env:Env):gOpF env=gOpd env:=by
 funext x
 cases x<;>first|rfl|exact getF_eq _ _
noncomputable def memF (i:Nat)(l:List Nat):Bool:=List.rec (motive:=fun _=>Bool) false (fun j _ ih=>Bool.rec (motive:=fun _=>Bool) ih true (Nat.beq i j)) l
theorem memF_eq (i:Nat):∀ l:List Nat,memF i l=memB i l
 | []=>rfl
 | j::l=>by
  show Bool.rec (motive:=fun _=>Bool) (memF i l) true (Nat.beq i j)=_;rw [memF_eq i l];simp only [memB];cases Nat.beq i j<;>rfl
abbrev CallE:=Nat→List D→Hp→Nat→Option (D × Hp × Nat)
abbrev CallP:=Nat→List D→Option D
def iff' (b:Bool)(r:D × Hp × Nat):Option (D × Hp × Nat):=match b with
 | true=>some r
 | false=>none
def idxE (tt:Nat→Option TInfo)(g:Operand→D)(t:Nat)(x ix:Operand):Option D:=match tt t with
 | some i=>match i.ti with
  | .slice _ esz _ _=>match g ix with
   | .prim (.int _ j)=>match g x with
    | .sl _ sz es=>match Nat.beq sz esz&&decide (0≤j) with
     | true=>match es[j.toNat]? with
      | some d=>some (.pptr d)
      | none=>none
     | false=>none
    | _=>none
   | _=>none
  | _=>none
 | none=>none
def evPE (X:EV)(g:Operand→D)(H:Hp)(n:Nat)(op:Op):Option (D × Hp × Nat):=match evP X.tt g op with
 | some (d,_)=>iff' (okP X.tt g op) (d,H,n+1)
 | none=>none
def evQE (X:EV)(g:Operand→D)(H:Hp)(n:Nat)(op:Op):Option (D × Hp × Nat):=match evQ X.tt X.xt g op with
 | some (d,_)=>iff' (okQ X.xt g op) (d,H,n+1)
 | none=>none
def orElse' {α:Type}(a:Option α)(b:Option α):Option α:=match a with
 | some x=>some x
 | none=>b
def evOp (X:EV)(cl:CallE)(g:Operand→D)(H:Hp)(n:Nat)(op:Op):Option (D × Hp × Nat):=match op with
 | .call ⟨.value fop,args,_⟩=>match g fop with
  | .clo (.func f) first captured=>match X.nat f (first++args.toList.map g++captured) with
   | some d=>some (d,H,n+1)
   | none=>cl f (first++args.toList.map g++captured) H n
  | _=>none
 | .call ⟨.invoke r name,args,_⟩=>match g r with
  | .ifc t d0=>match X.mt t name with
   | some f=>cl f (d0::args.toList.map g) H n
   | none=>none
  | _=>none
 | .call ⟨.builtin .append,_,_⟩=>match evA X.tt H n n g op with
  | some (d,H',_)=>iff' (okA X.tt H g op) (d,H',n+1)
  | none=>none
 | .makeSlice _ _ _=>match evM X.tt n n g op with
  | some (d,e,_)=>iff' (okM X.tt g op) (d,e::H,n+1)
  | none=>none
 | .store _ _ _=>match evS X.tt H g op with
  | some (k,e,_)=>iff' (okS X.tt H g op) (.prim (.tuple #[]),Hp.set H k e,n+1)
  | none=>none
 | .load _ _ | .alloc _ | .box _ _ | .buildSlice _ _ _=>match evL X.tt H n n g op with
  | some (d,ne,_)=>iff' (okL X.tt H g op) (d,putH ne H,n+1)
  | none=>none
 | .indexAddr t x ix=>orElse' (evPE X g H n op) (match idxE X.tt g t x ix with
  | some d=>some (d,H,n+1)
  | none=>none)
 | .makeInterface _ _ | .lookup _ _ _ _=>evQE X g H n op
 | .binOp _ _ _ _ _=>orElse' (evPE X g H n op) (evQE X g H n op)
 | _=>evPE X g H n op
def evStep (X:EV)(cl:CallE)(ops:Array Oper)(s:St)(o:Oper):Option (D × Hp × Nat):=match wantD ops s.env o with
 | some true=>evOp X cl (gOpF s.env) s.H s.n o.op
 | some false=>some (.prim (.tuple #[]),s.H,s.n+1)
 | none=>none
def evOps (X:EV)(cl:CallE)(ops:Array Oper):List Oper→St→Option St
 | [],s=>some s
 | o::os,s=>match evStep X cl ops s o with
  | some (d,H',n')=>fzD d fun d=>fzN n' fun n'=>evOps X cl ops os ⟨putE s.env o.dst d,H',n'⟩
  | none=>none
def isR (d:D)(H:Hp)(n:Nat):D→Hp→Nat→Prop:=fun d1 H1 n1=>d1=d∧H1=H∧n1=n
def CallEOk (C:Ctx)(cl:CallE):Prop:=∀ f ds H n d H' n',cl f ds H n=some (d,H',n')→ICallH C f ds H n (isR d H' n')
def CallPOk (C:Ctx)(cp:CallP):Prop:=∀ f ds d,cp f ds=some d→ICalls C f ds d∧ArePure ds
section
variable {C:Ctx} {F:Fra} {X:EV} {cl:CallE} {cp:CallP} {ops:Array Oper}
theorem iff'_some {b:Bool}{r r':D × Hp × Nat}(h:iff' b r=some r'):b=true∧r=r':=by
 cases b
 ·cases h
 ·cases h;exact ⟨rfl,rfl⟩
theorem idxE_spec {tt:Nat→Option TInfo}{g:Operand→D}{t:Nat}{x ix:Operand}{d:D}(h:idxE tt g t x ix=some d):∃ i e esz eby ez kk j nn es d',tt t=some i∧i.ti=.slice e esz eby ez∧g ix=.prim (.int kk j) ∧
  g x=.sl nn esz es∧0≤j∧es[j.toNat]? = some d'∧d=.pptr d':=by
 unfold idxE at h;split at h<;>first|(cases h;done)|skip
 rename_i i h1;split at h<;>first|(cases h;done)|skip
 rename_i e esz eby ez h2;split at h<;>first|(cases h;done)|skip
 rename_i kk j h3;split at h<;>first|(cases h;done)|skip
 rename_i nn sz es h4;split at h<;>first|(cases h;done)|skip
 rename_i h5;split at h<;>first|(cases h;done)|skip
 rename_i d' h6;cases h;simp only [Bool.and_eq_true,decide_eq_true_eq] at h5;obtain rfl:=Nat.eq_of_beq_eq_true h5.1;exact ⟨i,e,sz,eby,ez,kk,j,nn,es,d',h1,h2,h3,h4,h5.2,h6,rfl⟩
theorem evStep_ok (hX:EVOk C X)(hcl:CallEOk C cl){s:St}{o:Oper}{os:List Oper}{K:St→Prop}{d:D}{H':Hp}{n':Nat}(h:evStep X cl ops s o=some (d,H',n'))
  (hk:OkL C F ops os ⟨putE s.env o.dst d,H',n'⟩ K):OkL C F ops (o::os) s K:=by
 unfold evStep at h;rw [gOpF_eq] at h;split at h<;>first|(cases h;done)|skip
 ·rename_i hw
  have pe:evPE X (gOpd s.env) s.H s.n o.op=some (d,H',n')→OkL C F ops (o::os) s K:=fun h=>by
   unfold evPE at h;split at h<;>first|(cases h;done)|skip
   rename_i hp;obtain ⟨hb,hr⟩:=iff'_some h;cases hr;exact OkL.p hX.tt hw hp (okP_ok hp hb) hk
  have qe:evQE X (gOpd s.env) s.H s.n o.op=some (d,H',n')→OkL C F ops (o::os) s K:=fun h=>by
   unfold evQE at h;split at h<;>first|(cases h;done)|skip
   rename_i hp;obtain ⟨hb,hr⟩:=iff'_some h;cases hr;exact OkL.q hX.tt hX.xt hw hp (okQ_ok hp hb) hk
  have le:∀ r,(match evL X.tt s.H s.n s.n (gOpd s.env) o.op with
    | some (d,ne,_)=>iff' (okL X.tt s.H (gOpd s.env) o.op) (d,putH ne s.H,s.n+1)
    | none=>none)=some r→r=(d,H',n')→OkL C F ops (o::os) s K:=fun r h hr=>by
   split at h<;>first|(cases h;done)|skip
   rename_i hp;obtain ⟨hb,hr'⟩:=iff'_some h;rw [← hr'] at hr;cases hr;exact OkL.l' s.n hX.tt hw hp (okL_ok hp hb) hk
  unfold evOp at h;split at h
  ·rename_i fop args tys ho
   split at h<;>first|(cases h;done)|skip
   rename_i f first captured hf
   split at h
   ·rename_i hn
    cases h;exact OkL.nat hw ho hf rfl (hX.nat _ _ _ hn) hk
   refine OkL.callH hw ho hf rfl (hcl _ _ _ _ _ _ _ h) fun d1 H1 n1 hΦ=>?_
   obtain ⟨rfl,rfl,rfl⟩:=hΦ;exact hk
  ·rename_i r name args tys ho
   split at h<;>first|(cases h;done)|skip
   rename_i t d0 hr;split at h<;>first|(cases h;done)|skip
   rename_i f hf;refine OkL.invH hw ho hr (hX.mt _ _ _ hf) rfl (hcl _ _ _ _ _ _ _ h) fun d1 H1 n1 hΦ=>?_
   obtain ⟨rfl,rfl,rfl⟩:=hΦ;exact hk
  ·split at h<;>first|(cases h;done)|skip
   rename_i hp;obtain ⟨hb,hr⟩:=iff'_some h;cases hr;exact OkL.app' s.n hX.tt hw hp (okA_ok hp hb) hk
  ·split at h<;>first|(cases h;done)|skip
   rename_i hp;obtain ⟨hb,hr⟩:=iff'_some h;cases hr;exact OkL.mk' s.n hX.tt hw hp (okM_ok hp hb) hk
  ·split at h<;>first|(cases h;done)|skip
   rename_i hp;obtain ⟨hb,hr⟩:=iff'_some h;cases hr;exact OkL.store hX.tt hw hp (okS_ok hp hb) hk
  ·exact le _ h rfl
  ·exact le _ h rfl
  ·exact le _ h rfl
  ·exact le _ h rfl
  ·rename_i t x ix ho
   unfold orElse' at h;split at h
   ·rename_i hr;cases h;exact pe hr
   ·split at h<;>first|(cases h;done)|skip
    rename_i hi;cases h;obtain ⟨i,e,esz,eby,ez,kk,j,nn,es,d',a1,a2,a3,a4,a5,a6,rfl⟩:=idxE_spec hi;exact OkL.idx hX.tt hw ho a1 a2 a3 a4 a5 a6 hk
  ·exact qe h
  ·exact qe h
  ·unfold orElse' at h
   split at h
   ·rename_i hr;cases h;exact pe hr
   ·exact qe h
  ·exact pe h
 ·rename_i hw
  cases h;exact OkL.skip hw hk
theorem evOps_ok (hX:EVOk C X)(hcl:CallEOk C cl){K:St→Prop}:∀ {os:List Oper} {s s':St},evOps X cl ops os s=some s'→K s'→OkL C F ops os s K
 | [],s,s',h,hk=>by
  simp only [evOps,Option.some.injEq] at h;subst h;exact OkL.nil hk
 | o::os,s,s',h,hk=>by
  simp only [evOps] at h;split at h<;>first|(cases h;done)|skip
  rename_i hs;rw [fzD_eq,fzN_eq] at h;exact evStep_ok hX hcl hs (evOps_ok hX hcl h hk)
theorem Steady.l' {H:Hp}{g:Nat}{env:Env}{o:Oper}{tt:Nat→Option TInfo}(k:Nat)(htt:Tab C.P tt){d:D}{ne:Option Ent}{p:Prop}(hw:wantD ops env o=some true)(he:evL tt H g k (gOpd env) o.op=some (d,ne,p))(hp:p):Steady C F ops H g env o d ne:=by
 refine ⟨fun e h=>by subst h;exact evL_gen he,fun He ρ a w m hsub fr hne hr=>.inr ⟨wantD_look hr hw,.inl ?_⟩⟩;obtain ⟨g',h1,h2⟩:=look_gen hr;obtain ⟨v,ρ',w',r1,r2⟩:=evL_ok (g:=g') hsub htt m fr hne h2 (by rw [← evL_congr h1];exact he) hp;exact ⟨v,ρ',w',r1,r2⟩
theorem evQ_congr {tt:Nat→Option TInfo}{xt:Nat→Option XI}{g g':Operand→D}{op:Op}(h:∀ x∈op.operands,g x=g' x):evQ tt xt g op=evQ tt xt g' op:=by
 cases op<;>simp only [Op.operands] at h<;>try rfl
 case binOp op t x y yt=>simp only [evQ];rw [h x (by simp),h y (by simp)]
 case makeInterface t x=>simp only [evQ];rw [h x (by simp)]
 case lookup t x ix ok=>simp only [evQ];rw [h x (by simp),h ix (by simp)]
theorem Steady.q {H:Hp}{g:Nat}{env:Env}{o:Oper}{tt:Nat→Option TInfo}{xt:Nat→Option XI}(htt:Tab C.P tt)(hxt:TabX C.P xt){d:D}{p:Prop}(hw:wantD ops env o=some true)(he:evQ tt xt (gOpd env) o.op=some (d,p))(hp:p) :
  Steady C F ops H g env o d none:=by
 refine ⟨by simp,fun He ρ a w m _ _ _ hr=>.inr ⟨wantD_look hr hw,.inl ?_⟩⟩;obtain ⟨g',h1,h2⟩:=look_gen hr;obtain ⟨v,r1,r2⟩:=evQ_ok (g:=g') htt hxt h2 (by rw [← evQ_congr h1];exact he) hp;exact ⟨v,ρ,w,r1,m,.refl _ _ _,fun _ _ _=>rfl,r2⟩
def iff2 (b:Bool)(r:D × Option Ent):Option (D × Option Ent):=match b with
 | true=>some r
 | false=>none
theorem iff2_some {b:Bool}{r r':D × Option Ent}(h:iff2 b r=some r'):b=true∧r=r':=by
 cases b
 ·cases h
 ·cases h;exact ⟨rfl,rfl⟩
def stP (X:EV)(g:Operand→D)(op:Op):Option (D × Option Ent):=match evP X.tt g op with
 | some (d,_)=>iff2 (okP X.tt g op) (d,none)
 | none=>none
def stQ (X:EV)(g:Operand→D)(op:Op):Option (D × Option Ent):=match evQ X.tt X.xt g op with
 | some (d,_)=>iff2 (okQ X.xt g op) (d,none)
 | none=>none
def stOp (X:EV)(cp:CallP)(g:Operand→D)(H:Hp)(n:Nat)(op:Op):Option (D × Option Ent):=match op with
 | .call ⟨.value fop,args,_⟩=>match g fop with
  | .clo (.func f) first captured=>match X.nat f (first++args.toList.map g++captured) with
   | some d=>some (d,none)
   | none=>match cp f (first++args.toList.map g++captured) with
    | some d=>some (d,none)
    | none=>none
  | _=>none
 | .call ⟨.builtin .append,_,_⟩=>match evA X.tt [] n n g op with
  | some (d,[e],_)=>iff2 (okA X.tt [] g op) (d,some e)
  | _=>none
 | .load _ _ | .alloc _ | .box _ _ | .buildSlice _ _ _=>match evL X.tt H n n g op with
  | some (d,ne,_)=>iff2 (okL X.tt H g op) (d,ne)
  | none=>none
 | .indexAddr t x ix=>orElse' (stP X g op) (match idxE X.tt g t x ix with
  | some d=>some (d,none)
  | none=>none)
 | .makeInterface _ _ | .lookup _ _ _ _=>stQ X g op
 | .binOp _ _ _ _ _=>orElse' (stP X g op) (stQ X g op)
 | _=>stP X g op
def stStep (X:EV)(cp:CallP)(ops:Array Oper)(H:Hp)(n:Nat)(env:Env)(o:Oper):Option (D × Option Ent):=match wantD ops env o with
 | some true=>stOp X cp (gOpF env) H n o.op
 | some false=>some (.prim (.tuple #[]),none)
 | none=>none
theorem stStep_ok (hX:EVOk C X)(hcp:CallPOk C cp){H:Hp}{n:Nat}{env:Env}{o:Oper}{d:D}{ne:Option Ent}(h:stStep X cp ops H n env o=some (d,ne)):Steady C F ops H n env o d ne:=by
 unfold stStep at h;rw [gOpF_eq] at h;split at h<;>first|(cases h;done)|skip
 ·rename_i hw
  have pe:stP X (gOpd env) o.op=some (d,ne)→Steady C F ops H n env o d ne:=fun h=>by
   unfold stP at h;split at h<;>first|(cases h;done)|skip
   rename_i hp;obtain ⟨hb,hr⟩:=iff2_some h;cases hr;exact Steady.p hX.tt hw hp (okP_ok hp hb)
  have qe:stQ X (gOpd env) o.op=some (d,ne)→Steady C F ops H n env o d ne:=fun h=>by
   unfold stQ at h;split at h<;>first|(cases h;done)|skip
   rename_i hp;obtain ⟨hb,hr⟩:=iff2_some h;cases hr;exact Steady.q hX.tt hX.xt hw hp (okQ_ok hp hb)
  have le:∀ r,(match evL X.tt H n n (gOpd env) o.op with
    | some (d,ne,_)=>iff2 (okL X.tt H (gOpd env) o.op) (d,ne)
    | none=>none)=some r→r=(d,ne)→Steady C F ops H n env o d ne:=fun r h hr=>by
   split at h<;>first|(cases h;done)|skip
   rename_i hp;obtain ⟨hb,hr'⟩:=iff2_some h;rw [← hr'] at hr;cases hr;exact Steady.l' n hX.tt hw hp (okL_ok hp hb)
  unfold stOp at h;split at h
  ·rename_i fop args tys ho
   split at h<;>first|(cases h;done)|skip
   rename_i f first captured hf
   split at h
   ·rename_i hn
    cases h;exact Steady.nat hw ho hf rfl (hX.nat _ _ _ hn)
   split at h<;>first|(cases h;done)|skip
   rename_i hc;cases h;obtain ⟨c1,c2⟩:=hcp _ _ _ hc;exact Steady.call hw ho hf rfl c1 c2
  ·split at h<;>first|(cases h;done)|skip
   rename_i hp;obtain ⟨hb,hr⟩:=iff2_some h;cases hr;exact Steady.app0 n hX.tt hw hp (okA_ok hp hb)
  ·exact le _ h rfl
  ·exact le _ h rfl
  ·exact le _ h rfl
  ·exact le _ h rfl
  ·rename_i t x ix ho
   unfold orElse' at h;split at h
   ·rename_i hr;cases h;exact pe hr
   ·split at h<;>first|(cases h;done)|skip
    rename_i hi;cases h;obtain ⟨i,e,esz,eby,ez,kk,j,nn,es,d',a1,a2,a3,a4,a5,a6,rfl⟩:=idxE_spec hi;exact Steady.idx hX.tt hw ho a1 a2 a3 a4 a5 a6
  ·exact qe h
  ·exact qe h
  ·unfold orElse' at h
   split at h
   ·rename_i hr;cases h;exact pe hr
   ·exact qe h
  ·exact pe h
 ·rename_i hw
  cases h;exact Steady.skip hw
def evPre (X:EV)(cp:CallP)(ops:Array Oper)(H:Hp)(n:Nat):List Nat→Env→Hp→Option (Env × Hp)
 | [],env,N=>some (env,N)
 | i::l,env,N=>match ops[i]? with
  | some o=>match stStep X cp ops H (n+i) env o with
   | some (d,ne)=>fzD d fun d=>evPre X cp ops H n l (putE env o.dst d) (putH ne N)
   | none=>none
  | none=>none
theorem evPre_ok (hX:EVOk C X)(hcp:CallPOk C cp){H:Hp}{n:Nat}:∀ {l:List Nat} {env env':Env} {N N':Hp},evPre X cp ops H n l env N=some (env',N')→DTr C F ops H n l env N env' N'
 | [],env,env',N,N',h=>by
  simp only [evPre,Option.some.injEq,Prod.mk.injEq] at h;obtain ⟨rfl,rfl⟩:=h;exact .nil _ _
 | i::l,env,env',N,N',h=>by
  simp only [evPre] at h;split at h<;>first|(cases h;done)|skip
  rename_i o ho;split at h<;>first|(cases h;done)|skip
  rename_i d ne hs;rw [fzD_eq] at h;exact .cons ho (stStep_ok hX hcp hs) (evPre_ok hX hcp h)
def pickReady (ops:Array Oper)(done:List Nat):List Nat→Option (Nat × List Nat)
 | []=>none
 | i::r=>match allMem (depsOf ops i) done with
  | true=>some (i,r)
  | false=>match pickReady ops done r with
   | some (j,r')=>some (j,i::r')
   | none=>none
def topo (ops:Array Oper):Nat→List Nat→List Nat→List Nat
 | 0,done,rest=>done.reverse++rest
 | f+1,done,rest=>match pickReady ops done rest with
  | some (i,rest')=>topo ops f (i::done) rest'
  | none=>done.reverse++rest
def splitS (clo:List (Nat × List Nat)):List Nat→List Nat→List Nat→List Nat→List Nat × List Nat
 | _,[],pre,cur=>(pre.reverse,cur.reverse)
 | done,i::l,pre,cur=>match allMem done (look2 clo i) with
  | true=>splitS clo (i::done) l pre (i::cur)
  | false=>splitS clo (i::done) l (i::(cur++pre)) []
def ordOf (ops:Array Oper):List Nat × List Nat :=
 splitS (cloT ops (topo ops ops.size [] (List.range ops.size)) []) [] (topo ops ops.size [] (List.range ops.size)) [] []
def isWr:Op→Bool
 | .store _ _ _=>true
 | .call ⟨.builtin .append,_,_⟩=>true
 | _=>false
def findW (ops:Array Oper):List Nat→Option Nat
 | []=>none
 | i::l=>match ops[i]? with
  | some o=>match isWr o.op with
   | true=>some i
   | false=>findW ops l
  | none=>none
def upTo (i:Nat):List Nat→List Nat
 | []=>[]
 | j::l=>match Nat.beq i j with
  | true=>[]
  | false=>j::upTo i l
def wrKey (g:Operand→D):Op→Option Nat
 | .store _ x _=>match g x with
  | .optr k _ _ _ _=>some k
  | _=>none
 | .call ⟨.builtin .append,args,_⟩=>match args.toList with
  | [s,_]=>match g s with
   | .osl k _ _ _ _=>some k
   | _=>none
  | _=>none
 | _=>none
def evWr (X:EV)(e:Ent)(n:Nat)(g:Operand→D)(op:Op):Option (D × Ent):=match op with
 | .store _ _ _=>match evS X.tt [e] g op with
  | some (_,e',_)=>match okS X.tt [e] g op with
   | true=>some (.prim (.tuple #[]),e')
   | false=>none
  | none=>none
 | _=>match evA X.tt [e] n n g op with
  | some (d,[e'],_)=>match okA X.tt [e] g op with
   | true=>some (d,e')
   | false=>none
  | _=>none
def isIa (ia:Option Nat)(i:Nat):Bool:=match ia with
 | some j=>Nat.beq i j
 | none=>false
def hview (ia:Option Nat)(accE:Option Ent)(R:Hp)(b:Bool):Hp:=match ia with
 | none=>match accE with
  | some e=>match b with
   | true=>e::R
   | false=>R
  | none=>R
 | some _=>R
def evPreW (X:EV)(cp:CallP)(ops:Array Oper)(iw:Nat)(ia:Option Nat)(R:Hp)(clo:List Nat)(n:Nat):List Nat→Env→Hp→Option Ent→Option Ent→Option (Env × Hp × Ent × Ent)
 | [],env,N,accE,acc=>match accE with
  | some e=>match acc with
   | some e'=>some (env,N,e,e')
   | none=>none
  | none=>none
 | i::l,env,N,accE,acc=>match ops[i]? with
  | some o=>match Nat.beq i iw with
   | true=>match acc with
    | some _=>none
    | none=>match accE with
     | some e=>match wantD ops env o with
      | some true=>match evWr X e (n+i) (gOpF env) o.op with
       | some (d,e')=>evPreW X cp ops iw ia R clo n l (putE env o.dst d) N accE (some e')
       | none=>none
      | _=>none
     | none=>none
   | false=>match isIa ia i with
    | true=>match accE with
     | some _=>none
     | none=>match stStep X cp ops R (n+i) env o with
      | some (d,some e)=>fzD d fun d=>evPreW X cp ops iw ia R clo n l (putE env o.dst d) N (some e) acc
      | _=>none
    | false=>match stStep X cp ops (hview ia accE R (memB i clo)) (n+i) env o with
     | some (d,ne)=>fzD d fun d=>evPreW X cp ops iw ia R clo n l (putE env o.dst d) (putH ne N) accE acc
     | none=>none
  | none=>none
theorem evPreW_acc {iw:Nat}{ia:Option Nat}{R:Hp}{clo:List Nat}{n:Nat}:∀ {l:List Nat} {env env':Env} {N N':Hp} {accE acc:Option Ent} {e e':Ent},evPreW X cp ops iw ia R clo n l env N accE acc=some (env',N',e,e') →
  (∀ a,accE=some a→e=a)∧(∀ a,acc=some a→e'=a)
 | [],_,_,_,_,_,_,_,_,h=>by
  simp only [evPreW] at h;split at h<;>first|(cases h;done)|skip
  split at h<;>first|(cases h;done)|skip
  simp only [Option.some.injEq,Prod.mk.injEq] at h;exact ⟨fun a ha=>by cases ha;exact h.2.2.1.symm,fun a ha=>by cases ha;exact h.2.2.2.symm⟩
 | i::l,_,_,_,_,_,_,_,_,h=>by
  simp only [evPreW] at h;split at h<;>first|(cases h;done)|skip
  split at h
  ·split at h<;>first|(cases h;done)|skip
   split at h<;>first|(cases h;done)|skip
   split at h<;>first|(cases h;done)|skip
   split at h<;>first|(cases h;done)|skip
   exact ⟨(evPreW_acc h).1,by simp⟩
  ·split at h
   ·split at h<;>first|(cases h;done)|skip
    split at h<;>first|(cases h;done)|skip
    rw [fzD_eq] at h;exact ⟨by simp,(evPreW_acc h).2⟩
   ·split at h<;>first|(cases h;done)|skip
    rw [fzD_eq] at h;exact evPreW_acc h
theorem evWr_ok (hX:EVOk C X){W:WR}{n:Nat}{env:Env}{o:Oper}{d:D}(hw:wantD ops env o=some true)(h:evWr X W.e n (gOpd env) o.op=some (d,W.e')):SteadyW C F ops W n env o d:=by
 unfold evWr at h;split at h
 ·split at h<;>first|(cases h;done)|skip
  rename_i he;split at h<;>first|(cases h;done)|skip
  rename_i hk;simp only [Option.some.injEq,Prod.mk.injEq] at h;obtain ⟨rfl,h2⟩:=h;rw [h2] at he;exact SteadyW.store hX.tt hw he (okS_ok he hk)
 ·split at h<;>first|(cases h;done)|skip
  rename_i he;split at h<;>first|(cases h;done)|skip
  rename_i hk;simp only [Option.some.injEq,Prod.mk.injEq] at h;obtain ⟨rfl,h2⟩:=h;rw [h2] at he;exact SteadyW.app n hX.tt hw he (okA_ok he hk)
theorem isIa_iff {ia:Option Nat}{i:Nat}:isIa ia i=true↔ia=some i:=by
 cases ia with
 | none=>simp [isIa]
 | some j =>
  simp only [isIa,Option.some.injEq];exact ⟨fun h=>(Nat.eq_of_beq_eq_true h).symm,fun h=>by rw [h];exact Nat.beq_refl _⟩
theorem evPreW_ok (hX:EVOk C X)(hcp:CallPOk C cp){W:WR}(hwa:W.ia≠some W.iw){clo:List Nat}(hclo:∀ j∈clo,Reach ops W.iw j){n:Nat}:∀ {l:List Nat} {env env':Env} {N N':Hp} {accE acc:Option Ent},
  evPreW X cp ops W.iw W.ia W.R clo n l env N accE acc=some (env',N',W.e,W.e')→DTrW C F ops W n l env N env' N'
 | [],env,env',N,N',accE,acc,h=>by
  simp only [evPreW] at h;split at h<;>first|(cases h;done)|skip
  split at h<;>first|(cases h;done)|skip
  simp only [Option.some.injEq,Prod.mk.injEq] at h;obtain ⟨rfl,rfl,_⟩:=h;exact .nil _ _
 | i::l,env,env',N,N',accE,acc,h=>by
  simp only [evPreW,gOpF_eq] at h;split at h<;>first|(cases h;done)|skip
  rename_i o ho;split at h
  ·rename_i hb
   have hb:=Nat.eq_of_beq_eq_true hb;split at h<;>first|(cases h;done)|skip
   split at h<;>first|(cases h;done)|skip
   rename_i e0;split at h<;>first|(cases h;done)|skip
   rename_i hw;split at h<;>first|(cases h;done)|skip
   rename_i d e1 he;obtain ⟨h1,h2⟩:=evPreW_acc h;rw [← h1 _ rfl,← h2 _ rfl] at he;exact .cons (ne:=none) ho (.inr (.inl ⟨hb,by rw [hb];exact hwa,rfl,evWr_ok hX hw he⟩)) (evPreW_ok hX hcp hwa hclo h)
  ·rename_i hb
   have hne:i≠W.iw:=fun hi=>by rw [hi,Nat.beq_refl] at hb;cases hb
   split at h
   ·rename_i hi
    have hi:=isIa_iff.1 hi;split at h<;>first|(cases h;done)|skip
    split at h<;>first|(cases h;done)|skip
    rename_i d e0 hs;rw [fzD_eq] at h;have h1:=(evPreW_acc h).1 _ rfl;rw [← h1] at hs;exact .cons (ne:=none) ho (.inr (.inr ⟨hne,hi,rfl,stStep_ok (F:=F) hX hcp hs⟩)) (evPreW_ok hX hcp hwa hclo h)
   ·rename_i hi
    have hi:W.ia≠some i:=fun h=>by rw [isIa_iff.2 h] at hi;cases hi
    split at h<;>first|(cases h;done)|skip
    rename_i d ne hs;rw [fzD_eq] at h;have hacc:=(evPreW_acc h).1;refine .cons ho (.inl ⟨hne,hi,?_⟩) (evPreW_ok hX hcp hwa hclo h);have hst:=stStep_ok (F:=F) hX hcp hs;unfold hview at hst;cases hia:W.ia with
    | none =>
     rw [hia] at hst;cases accE with
     | none=>exact .inr hst
     | some a =>
      have:=hacc a rfl
      subst this;dsimp only at hst;cases hm:memB i clo with
      | true=>rw [hm] at hst;exact .inl ⟨rfl,hclo i (memB_iff.1 hm),hst⟩
      | false=>rw [hm] at hst;exact .inr hst
    | some ia=>rw [hia] at hst;exact .inr hst
def wBlock (s:St)(N1:Hp)(k:Nat):Option (Option Nat × Option Ent × Hp):=match Hp.get s.H k with
 | some e=>some (none,some e,Hp.del s.H k)
 | none=>match Hp.get N1 k with
  | some e=>some (some (e.g - s.n),none,s.H)
  | none=>none
def iaOk (n:Nat)(pre clo:List Nat)(e:Ent)(iw:Nat):Option Nat→Bool
 | none=>true
 | some ia=>Nat.beq e.g (n+ia)&&memB ia clo&&memB ia pre && !(Nat.beq ia iw)
def evDrawW (X:EV)(cl:CallE)(cp:CallP)(ops:Array Oper)(pre suf:List Nat)(iw:Nat)(s:St):Option St:=match evPre X cp ops s.H s.n (upTo iw pre) s.env [] with
 | some (env1,N1)=>match wrKey (gOpF env1) (ops.getD iw default).op with
  | some k=>match wBlock s N1 k with
   | some (ia,accE,R)=>match memB iw pre with
    | true=>match evPreW X cp ops iw ia R (look2 (cloT ops (pre++suf) []) iw) s.n pre s.env [] accE none with
     | some (env,N,e,e')=>match (Nat.beq e'.g e.g||Nat.beq e'.g (s.n+iw))&&iaOk s.n pre (look2 (cloT ops (pre++suf) []) iw) e iw ia with
      | true=>fzN (s.n+ops.size) fun n=>evOps X cl ops (suf.map fun j=>ops.getD j default) ⟨env,N++e'::R,n⟩
      | false=>none
     | none=>none
    | false=>none
   | none=>none
  | none=>none
 | none=>none
def evDraw (X:EV)(cl:CallE)(cp:CallP)(ops:Array Oper)(s:St):Option St:=match ordOf ops with
 | (pre,suf)=>match chkD ops pre suf with
  | true=>match (match findW ops pre with
    | some iw=>evDrawW X cl cp ops pre suf iw s
    | none=>none) with
   | some s'=>some s'
   | none=>match evPre X cp ops s.H s.n pre s.env [] with
    | some (env,N)=>fzN (s.n+ops.size) fun n=>evOps X cl ops (suf.map fun j=>ops.getD j default) ⟨env,N++s.H,n⟩
    | none=>none
  | false=>none
noncomputable def dd (e:Env):List Nat→Env:=List.rec (motive:=fun _=>List Nat→Env) (fun _=>[]) (fun p _ ih seen=>Bool.rec (motive:=fun _=>Env) (p::ih (p.1::seen)) (ih seen) (memF p.1 seen)) e
theorem dd_cons (k:Nat)(d:D)(r:Env)(seen:List Nat):dd ((k,d)::r) seen=match memB k seen with
  | true=>dd r seen
  | false=>(k,d)::dd r (k::seen):=by
 show Bool.rec (motive:=fun _=>Env) _ _ (memF k seen)=_;rw [memF_eq];cases memB k seen<;>rfl
theorem dd_get:∀ (e:Env) (seen:List Nat) (t:Nat),t∉seen→(dd e seen).get t=e.get t
 | [],_,_,_=>rfl
 | (k,d)::r,seen,t,h=>by
  rw [dd_cons];cases hb:memB k seen with
  | true =>
   dsimp only;have hk:k≠t:=fun hk=>h (hk ▸ memB_iff.1 hb)
   rw [dd_get r seen t h,Env.get_cons,if_neg hk]
  | false =>
   dsimp only;rw [Env.get_cons,Env.get_cons]
   by_cases hk:k=t
   ·rw [if_pos hk,if_pos hk]
   ·rw [if_neg hk,if_neg hk,dd_get r (k::seen) t (by simp;exact ⟨fun h=>hk h.symm,h⟩)]
def refL (f:D→List Nat→List Nat):List D→List Nat→List Nat
 | [],acc=>acc
 | d::l,acc=>refL f l (f d acc)
def refD:Nat→D→List Nat→List Nat
 | 0,_,acc=>acc
 | n+1,d,acc=>match d with
  | .osl k _ _ _ _=>k::acc
  | .optr k _ _ _ _=>k::acc
  | .agg l=>refL (refD n) l acc
  | .tup l=>refL (refD n) l acc
  | .clo _ a b=>refL (refD n) a (refL (refD n) b acc)
  | .gd _ d=>refD n d acc
  | .ifc _ d=>refD n d acc
  | _=>acc
def refEnv:Env→List Nat→List Nat
 | [],acc=>acc
 | (_,d)::r,acc=>refEnv r (refD 5 d acc)
def refHp:Hp→List Nat→List Nat
 | [],acc=>acc
 | e::r,acc=>refHp r (refL (refD 5) e.es acc)
def keepH (p:Ent→Bool):Hp→Hp
 | []=>[]
 | e::r=>match p e with
  | true=>e::keepH p r
  | false=>keepH p r
theorem keepH_sub (p:Ent→Bool):∀ H:Hp,(keepH p H).Sublist H
 | []=>.slnil
 | e::r=>by
  simp only [keepH];split
  ·exact (keepH_sub p r).cons_cons e
  ·exact (keepH_sub p r).cons e
def fzNs {α:Type}:List Nat→(List Nat→α)→α
 | [],k=>k []
 | n::l,k=>fzN n fun n=>fzNs l fun l=>k (n::l)
theorem fzNs_eq {α:Type}:∀ (l:List Nat) (k:List Nat→α),fzNs l k=k l
 | [],_=>rfl
 | n::l,k=>by simp only [fzNs,fzN_eq,fzNs_eq l]
def fzHp {α:Type}:Hp→(Hp→α)→α
 | [],k=>k []
 | e::l,k=>fzHp l fun l=>k (e::l)
theorem fzHp_eq {α:Type}:∀ (l:Hp) (k:Hp→α),fzHp l k=k l
 | [],_=>rfl
 | e::l,k=>by simp only [fzHp,fzHp_eq l]
def gcK {α:Type}(n:Nat)(env:Env)(H:Hp)(k:Hp→α):α:=fzNs (refHp H (refEnv env [])) fun ks=>fzHp (keepH (fun e=>match Nat.blt e.g n with
  | true=>true
  | false=>memB e.k ks) H) k
theorem gcK_eq {α:Type}(n:Nat)(env:Env)(H:Hp)(k:Hp→α):∃ H':Hp,H'.Sublist H∧gcK n env H k=k H':=⟨_,keepH_sub _ _,by unfold gcK;rw [fzNs_eq,fzHp_eq]⟩
def gcR {α:Type}(n:Nat)(d:D)(H:Hp)(k:Hp→α):α :=
 fzNs (refHp (keepH (fun e=>Nat.blt e.g n) H) (refD 5 d [])) fun ks=>fzNs (refHp (keepH (fun e=>memB e.k ks) H) ks) fun ks=>fzHp (keepH (fun e=>match Nat.blt e.g n with
  | true=>true
  | false=>memB e.k ks) H) k
theorem gcR_eq {α:Type}(n:Nat)(d:D)(H:Hp)(k:Hp→α):∃ H':Hp,H'.Sublist H∧gcR n d H k=k H':=⟨_,keepH_sub _ _,by unfold gcR;rw [fzNs_eq,fzNs_eq,fzHp_eq]⟩
def loopE (f:St→Option (Exit × St))(n0:Nat):Nat→St→Option (Exit × St)
 | 0,_=>none
 | k+1,s=>gcK n0 s.env s.H fun H=>match f ⟨dd s.env [],H,s.n⟩ with
  | some (.normal,s')=>loopE f n0 k s'
  | r=>r
def evCode (X:EV)(cl:CallE)(cp:CallP)(lf:Nat):Code→St→Option (Exit × St)
 | .skip,s=>some (.normal,s)
 | .region _ ops draw,s=>match draw with
  | true=>match evDraw X cl cp ops s with
   | some s'=>some (.normal,s')
   | none=>none
  | false=>match evOps X cl ops ops.toList s with
   | some s'=>some (.normal,s')
   | none=>none
 | .seq a b,s=>match evCode X cl cp lf a s with
  | some (.normal,s')=>evCode X cl cp lf b s'
  | r=>r
 | .cond c a b,s=>match gOpF s.env c with
  | .prim (.bool true)=>evCode X cl cp lf a s
  | .prim (.bool false)=>evCode X cl cp lf b s
  | _=>none
 | .block i b,s=>match evCode X cl cp lf b s with
  | some (.exit j,s')=>match Nat.beq j i with
   | true=>some (.normal,s')
   | false=>some (.exit j,s')
  | r=>r
 | .loop b,s=>loopE (evCode X cl cp lf b) (lf / 1048576) (lf%1048576) s
 | .exit i,s=>some (.exit i,s)
 | .ret,s=>some (.ret,s)
 | _,_=>none
def isS (e:Exit)(s:St):Exit→St→Prop:=fun e1 s1=>e1=e∧s1=s
theorem Ok.envEq {c:Code}{s s2:St}{Q:Exit→St→Prop}(he:∀ t,s2.env.get t=s.env.get t)(hH:s2.H=s.H)(hn:s2.n=s.n)(h:Ok C F c s2 Q):Ok C F c s Q :=
 fun hd ρ a w hs=>h hd ρ a w ⟨by rw [hH];exact hs.mem,by rw [hn];exact hs.fresh,by rw [hH,hn];exact hs.gen,fun t=>by rw [he,hH];exact hs.env t,hs.nt,hs.dfr⟩
theorem Ok.subH {c:Code}{env:Env}{H H':Hp}{n:Nat}{Q:Exit→St→Prop}(hs:H'.Sublist H)(h:Ok C F c ⟨env,H',n⟩ Q):Ok C F c ⟨env,H,n⟩ Q :=
 fun hd ρ a w hS=>by
  obtain ⟨m,hO⟩:=hS.mem.sub hs;exact h hd ρ a w ⟨m,hS.fresh,fun e he=>hS.gen e (hs.subset he),fun t=>(hS.env t).anti hO,hS.nt,hS.dfr⟩
theorem ICallH.subH {f:Nat}{ds:List D}{H H1 H2:Hp}{n n':Nat}{d:D}(hs:H2.Sublist H1)(h:ICallH C f ds H n (isR d H1 n')):ICallH C f ds H n (isR d H2 n'):=by
 refine ⟨h.1,fun F ρ w vs m hfr hg hvs hr=>(h.2 F ρ w vs m hfr hg hvs hr).mono ?_⟩;rintro e w' ⟨v,d',H',n2,ρ',rfl,⟨rfl,rfl,rfl⟩,m',x,fr,gn,rep⟩;obtain ⟨m2,hO⟩:=m'.sub hs;exact ⟨v,_,_,_,ρ',rfl,⟨rfl,rfl,rfl⟩,m2,⟨x.size,x.link,fun b hb hb'=>⟨fun h=>(x.pure b hb hb').1 (hO b h),(x.pure b hb hb').2⟩,x.shape⟩,fr,fun e he=>gn e (hs.subset he),rep.anti hO⟩
theorem evDraw_ok (hX:EVOk C X)(hcl:CallEOk C cl)(hcp:CallPOk C cp){i:Nat}{s s':St}(h:evDraw X cl cp ops s=some s'):Ok C F (.region i ops true) s (isS .normal s'):=by
 unfold evDraw at h;split at h;rename_i pre suf ho;split at h<;>first|(cases h;done)|skip
 rename_i hc;split at h
 ·rename_i s1 hh
  cases h
  revert hh
  intro h;split at h<;>first|(cases h;done)|skip
  rename_i iw _;unfold evDrawW at h;simp only [gOpF_eq] at h;split at h<;>first|(cases h;done)|skip
  split at h<;>first|(cases h;done)|skip
  split at h<;>first|(cases h;done)|skip
  rename_i k _ ia accE R hwb;split at h<;>first|(cases h;done)|skip
  rename_i hm;split at h<;>first|(cases h;done)|skip
  rename_i env N e e' hp;split at h<;>first|(cases h;done)|skip
  rename_i hg;rw [fzN_eq] at h;simp only [Bool.and_eq_true,Bool.or_eq_true] at hg;obtain ⟨hg1,hg2⟩:=hg;have hreach:∀ j∈look2 (cloT ops (pre++suf) []) iw,Reach ops iw j:=fun j hj=>look2_reach (cloT_reach _ _ (by simp)) _ _ hj
  have hia:∀ j,ia=some j→e.g=s.n+j∧Reach ops iw j∧j∈pre∧j≠iw:=fun j hj=>by
   subst hj;simp only [iaOk,Bool.and_eq_true,Bool.not_eq_true'] at hg2;exact ⟨Nat.eq_of_beq_eq_true hg2.1.1.1,hreach j (memB_iff.1 hg2.1.1.2),memB_iff.1 hg2.1.2,fun h=>by rw [h,Nat.beq_refl] at hg2;cases hg2.2⟩
  have hacc:=(evPreW_acc hp).1;have hst:s.H.Perm (WR.start ⟨iw,ia,e,e',R⟩):=by
   unfold wBlock at hwb;split at hwb
   ·rename_i e0 he
    cases hwb;obtain ⟨H1,H2,q1,_,q3⟩:=Hp.set_split e0 he;rw [q3,hacc e0 rfl];unfold WR.start;rw [q1];exact List.perm_middle
   ·split at hwb<;>first|(cases hwb;done)|skip
    cases hwb;exact List.Perm.refl _
  exact Ok.drawW (W:=⟨iw,ia,e,e',R⟩) hX.mixed hc hst (fun j hj=>⟨(hia j hj).1,(hia j hj).2.1,(hia j hj).2.2.1⟩) (memB_iff.1 hm) (hg1.imp Nat.eq_of_beq_eq_true Nat.eq_of_beq_eq_true)
   (evPreW_ok (W:=⟨iw,ia,e,e',R⟩) hX hcp (fun h=>(hia iw h).2.2.2 rfl) hreach hp) (evOps_ok hX hcl h ⟨rfl,rfl⟩)
 ·split at h<;>first|(cases h;done)|skip
  rename_i env N hp;rw [fzN_eq] at h;exact Ok.draw hX.mixed hc (evPre_ok hX hcp hp) (evOps_ok hX hcl h ⟨rfl,rfl⟩)
theorem evCode_ok (hX:EVOk C X)(hcl:CallEOk C cl)(hcp:CallPOk C cp){lf:Nat}:∀ {c:Code} {s s':St} {e:Exit},evCode X cl cp lf c s=some (e,s')→Ok C F c s (isS e s')
 | .skip,s,s',e,h=>by simp only [evCode,Option.some.injEq,Prod.mk.injEq] at h;obtain ⟨rfl,rfl⟩:=h;exact Ok.skip ⟨rfl,rfl⟩
 | .region i ops draw,s,s',e,h=>by
  simp only [evCode] at h;split at h
  ·split at h<;>first|(cases h;done)|skip
   rename_i hd;cases h;exact evDraw_ok hX hcl hcp hd
  ·split at h<;>first|(cases h;done)|skip
   rename_i hd;cases h;exact Ok.region (evOps_ok hX hcl hd ⟨rfl,rfl⟩)
 | .seq a b,s,s',e,h=>by
  simp only [evCode] at h;refine Ok.seq ?_;split at h
  ·rename_i s1 h1
   refine (evCode_ok hX hcl hcp h1).mono ?_;rintro _ _ ⟨rfl,rfl⟩;exact evCode_ok hX hcl hcp h
  ·rename_i hne
   refine (evCode_ok hX hcl hcp h).mono ?_;rintro e1 s1 ⟨h1,h2⟩;rw [h1,h2];cases e with
   | normal=>exact absurd h (hne _)
   | _=>exact ⟨rfl,rfl⟩
 | .cond c a b,s,s',e,h=>by
  simp only [evCode,gOpF_eq] at h;have hr:∀ x,gOpd s.env c=.prim (.bool x)→∀ ρ a w,Sat C F ρ s a w→a.eval c=.bool x:=fun x hx ρ a w hs=>by
   have:=gOpd_rep hs.env c
   rw [hx] at this;generalize a.eval c=v at this;cases this;rfl
  split at h
  ·rename_i hx
   exact Ok.cond true (hr _ hx) (fun _=>evCode_ok hX hcl hcp h) (fun h=>by cases h)
  ·rename_i hx
   exact Ok.cond false (hr _ hx) (fun h=>by cases h) (fun _=>evCode_ok hX hcl hcp h)
  ·cases h
 | .block i b,s,s',e,h=>by
  simp only [evCode] at h;refine Ok.block ?_;split at h
  ·rename_i j s1 h1
   refine (evCode_ok hX hcl hcp h1).mono ?_;rintro _ _ ⟨rfl,rfl⟩;dsimp only;split at h
   ·rename_i hb
    cases h;rw [if_pos (Nat.eq_of_beq_eq_true hb)];exact ⟨rfl,rfl⟩
   ·rename_i hb
    cases h;rw [if_neg (fun hj=>by rw [hj,Nat.beq_refl] at hb;cases hb)];exact ⟨rfl,rfl⟩
  ·rename_i hne
   refine (evCode_ok hX hcl hcp h).mono ?_;rintro e1 s1 ⟨h1,h2⟩;rw [h1,h2];cases e with
   | exit j=>exact absurd h (hne _ _)
   | _=>exact ⟨rfl,rfl⟩
 | .loop b,s,s',e,h=>by
  simp only [evCode] at h;refine Ok.loop (fun m s=>loopE (evCode X cl cp lf b) (lf / 1048576) m s=some (e,s')) h fun m s1 hI=>?_
  cases m with
  | zero=>cases hI
  | succ m =>
   simp only [loopE] at hI;obtain ⟨H2,hsub,hgc⟩:=gcK_eq (α:=Option (Exit × St)) (lf / 1048576) s1.env s1.H (fun H=>match evCode X cl cp lf b ⟨dd s1.env [],H,s1.n⟩ with
    | some (.normal,s')=>loopE (evCode X cl cp lf b) (lf / 1048576) m s'
    | r=>r)
   rw [hgc] at hI;refine Ok.envEq (s2:=⟨dd s1.env [],s1.H,s1.n⟩) (fun t=>dd_get _ _ _ (by simp)) rfl rfl ?_;refine Ok.subH hsub ?_;split at hI
   ·rename_i s2 h2
    refine (evCode_ok hX hcl hcp h2).mono ?_;rintro _ _ ⟨rfl,rfl⟩;exact ⟨m,Nat.lt_succ_self m,hI⟩
   ·rename_i hne
    refine (evCode_ok hX hcl hcp hI).mono ?_;rintro e1 s1 ⟨h1,h2⟩;rw [h1,h2];cases e with
    | normal=>exact absurd hI (hne _)
    | _=>exact ⟨rfl,rfl⟩
 | .exit i,s,s',e,h=>by simp only [evCode,Option.some.injEq,Prod.mk.injEq] at h;obtain ⟨rfl,rfl⟩:=h;exact Ok.exit ⟨rfl,rfl⟩
 | .ret,s,s',e,h=>by simp only [evCode,Option.some.injEq,Prod.mk.injEq] at h;obtain ⟨rfl,rfl⟩:=h;exact Ok.ret ⟨rfl,rfl⟩
 | .rangeFunc ..,_,_,_,h=>by simp [evCode] at h
 | .scope _,_,_,_,h=>by simp [evCode] at h
 | .label _,_,_,_,h=>by simp [evCode] at h
 | .goto _,_,_,_,h=>by simp [evCode] at h
 | .refuse _,_,_,_,h=>by simp [evCode] at h
def okR (tt:Nat→Option TInfo)(s:St):List ResultVar→Bool
 | []=>true
 | .tmp _::r=>okR tt s r
 | .cell a t::r=>okL tt s.H (fun _=>s.env.get a) (.load t (.tmp 0))&&okR tt s r
theorem okR_ok {tt:Nat→Option TInfo}{s:St}:∀ {rs:List ResultVar} {l:List D} {p:Prop},resAll tt s rs=some (l,p)→okR tt s rs=true→p
 | [],_,_,h,_=>by simp only [resAll,Option.some.injEq,Prod.mk.injEq] at h;obtain ⟨_,rfl⟩:=h;trivial
 | r::rs,l,p,h,hk=>by
  simp only [resAll] at h;split at h<;>first|(cases h;done)|skip
  rename_i d q h1;split at h<;>first|(cases h;done)|skip
  rename_i l' q' h2;cases h;cases r with
  | tmp t =>
   simp only [resOne,Option.some.injEq,Prod.mk.injEq] at h1;obtain ⟨_,rfl⟩:=h1;exact ⟨trivial,okR_ok h2 hk⟩
  | cell a t =>
   simp only [okR,Bool.and_eq_true] at hk;simp only [resOne] at h1;split at h1<;>first|(cases h1;done)|skip
   rename_i he;cases h1;exact ⟨okL_ok he hk.1,okR_ok h2 hk.2⟩
def evRes (tt:Nat→Option TInfo)(s:St)(rs:List ResultVar):Option (D × Hp × Nat):=match resD tt s rs with
 | some (d,_)=>iff' (okR tt s rs) (d,s.H,s.n)
 | none=>none
theorem evRes_ok {tt:Nat→Option TInfo}{s:St}{rs:List ResultVar}{d:D}{H:Hp}{n:Nat}(h:evRes tt s rs=some (d,H,n)):∃ p,resD tt s rs=some (d,p)∧p∧H=s.H∧n=s.n:=by
 unfold evRes at h;split at h<;>first|(cases h;done)|skip
 rename_i d' p hr;obtain ⟨hb,he⟩:=iff'_some h;cases he;refine ⟨p,hr,?_,rfl,rfl⟩;unfold resD at hr;split at hr<;>first|(cases hr;done)|skip
 ·rename_i ha;cases hr;exact okR_ok ha hb
 ·rename_i ha;cases hr;exact okR_ok ha hb
def runFn (X:EV)(cl:CallE)(cp:CallP)(lf f:Nat)(ds:List D)(H:Hp)(n:Nat):Option (D × Hp × Nat):=match X.ft f with
 | some i=>match Nat.ble ds.length i.nt with
  | true=>match evCode X cl cp (lf+n*1048576) i.code ⟨argEnv 0 ds,H,n⟩ with
   | some (.normal,s)=>evRes X.tt s i.res
   | some (.ret,s)=>evRes X.tt s i.res
   | _=>none
  | false=>none
 | none=>none
def pureFn (X:EV)(cl:CallE)(cp:CallP)(lf f:Nat)(ds:List D):Option D:=match X.orc f ds with
 | some d=>some d
 | none=>match X.np f with
  | true=>none
  | false=>match allB (pureB 20) ds with
   | true=>match runFn X cl cp lf f ds [] 0 with
    | some (d,H,_)=>fzP 20 H d
    | none=>none
   | false=>none
def evF (X:EV)(lf:Nat):Nat→CallP × CallE
 | 0=>(fun _ _=>none,fun _ _ _ _=>none)
 | fu+1=>(pureFn X (evF X lf fu).2 (evF X lf fu).1 lf,fun f ds H n=>match pureFn X (evF X lf fu).2 (evF X lf fu).1 lf f ds with
  | some d=>some (d,H,n+1)
  | none=>match runFn X (evF X lf fu).2 (evF X lf fu).1 lf f ds H n with
   | some (d,H',n')=>gcR n d H' fun H2=>some (d,H2,n')
   | none=>none)
theorem runFn_ok (hX:EVOk C X){lf f:Nat}{ds:List D}{H H':Hp}{n n':Nat}{d:D}(h:runFn X cl cp lf f ds H n=some (d,H',n')) :
  ∃ fn i e s p,X.ft f=some i∧C.P.funcs[f]? = some fn∧fn.body=some i.code∧(fn.name == "runtime.NumGoroutine")=false∧codeDst fn.ntmps i.code=true∧Nat.ble ds.length fn.ntmps=true ∧
   (e=.normal∨e=.ret)∧evCode X cl cp (lf+n*1048576) i.code ⟨argEnv 0 ds,H,n⟩=some (e,s)∧resD X.tt s fn.results.toList=some (d,p)∧p∧H'=s.H∧n'=s.n:=by
 unfold runFn at h;split at h<;>first|(cases h;done)|skip
 rename_i i hi;obtain ⟨fn,a1,a2,a3,a4,a5,a6⟩:=hX.ft f i hi;split at h<;>first|(cases h;done)|skip
 rename_i hb;split at h<;>first|(cases h;done)|skip
 ·rename_i s hc
  obtain ⟨p,b1,b2,b3,b4⟩:=evRes_ok h;exact ⟨fn,i,.normal,s,p,hi,a1,a2,a3,a4,by rw [a5];exact hb,.inl rfl,hc,by rw [a6];exact b1,b2,b3,b4⟩
 ·rename_i s hc
  obtain ⟨p,b1,b2,b3,b4⟩:=evRes_ok h;exact ⟨fn,i,.ret,s,p,hi,a1,a2,a3,a4,by rw [a5];exact hb,.inr rfl,hc,by rw [a6];exact b1,b2,b3,b4⟩
theorem pureFn_ok (hX:EVOk C X)(hcl:CallEOk C cl)(hcp:CallPOk C cp){lf f:Nat}{ds:List D}{d:D}(h:pureFn X cl cp lf f ds=some d):ICalls C f ds d∧ArePure ds:=by
 unfold pureFn at h;split at h
 ·rename_i ho;cases h;exact hX.orc _ _ _ ho
 ·split at h<;>first|(cases h;done)|skip
  split at h<;>first|(cases h;done)|skip
  rename_i hp;split at h<;>first|(cases h;done)|skip
  rename_i d0 H0 n0 hr;obtain ⟨fn,i,e,s,p,_,a1,a2,a3,a4,a5,a6,a7,a8,a9,rfl,rfl⟩:=runFn_ok hX hr;obtain ⟨z1,z2⟩:=fzP_ok h;refine ⟨ICallP.intro hX.tt a1 a2 a3 a4 a5 fun F=>(evCode_ok hX hcl hcp a7).mono ?_,⟨fun x hx=>pureB_ok (allB_ok hp x hx)⟩⟩;rintro _ _ ⟨rfl,rfl⟩;exact ⟨a6,d0,p,a8,a9,d,z1,z2,rfl⟩
theorem ICallH.ofPure {f:Nat}{ds:List D}{d:D}{H:Hp}{n:Nat}(h:ICalls C f ds d)(hp:ArePure ds):ICallH C f ds H n (isR d H (n+1)):=by
 refine ⟨h.1,fun F ρ w vs m hfr hg hvs hr=>(h.2 (Own F.X ρ H) w vs m.g (Nat.le_trans m.gn m.size) (fun b hb=>m.own_lt hb) hvs fun i x hx=>hp.out x (List.mem_of_getElem? hx) _ _ _ _ _ (hr i x hx)).mono ?_⟩;rintro e w' ⟨v,d',rfl,hb,rfl,hrep⟩;have x:Ext ρ (Own F.X ρ H) w ρ (Own F.X ρ H) w':=⟨hb.size,fun _ _ _ h=>h,fun b hb' hO=>⟨hO,hb.block b hb'⟩,fun b cs T fz hh=>⟨cs,_,by
  rw [hb.block b (Array.getElem?_eq_some_iff.1 hh).1];exact hh,rfl⟩⟩
 exact ⟨v,_,_,_,ρ,rfl,⟨rfl,rfl,rfl⟩,m.same x hb.os hb.tape hb.output hb.block,x,fun k g hg=>hfr k g (by omega),fun e he=>Nat.lt_succ_of_lt (hg e he),hrep.nol⟩
theorem evF_ok (hX:EVOk C X)(lf:Nat):∀ fu,CallPOk C (evF X lf fu).1∧CallEOk C (evF X lf fu).2
 | 0=>⟨fun _ _ _ h=>by simp [evF] at h,fun _ _ _ _ _ _ _ h=>by simp [evF] at h⟩
 | fu+1=>by
  obtain ⟨hcp,hcl⟩:=evF_ok hX lf fu;refine ⟨fun f ds d h=>pureFn_ok hX hcl hcp h,fun f ds H n d H' n' h=>?_⟩;simp only [evF] at h;split at h
  ·rename_i d0 hp
   cases h;obtain ⟨h1,h2⟩:=pureFn_ok hX hcl hcp hp;exact .ofPure h1 h2
  ·split at h<;>first|(cases h;done)|skip
   rename_i d1 H1 n1 hrun;obtain ⟨H2,hsub,hgc⟩:=gcR_eq (α:=Option (D × Hp × Nat)) n d1 H1 (fun H2=>some (d1,H2,n1));rw [hgc] at h;cases h;refine ICallH.subH hsub ?_;obtain ⟨fn,i,e,s,p,_,a1,a2,a3,a4,a5,a6,a7,a8,a9,rfl,rfl⟩:=runFn_ok hX hrun;refine ICallH.intro hX.tt a1 a2 a3 a4 a5 fun F _=>(evCode_ok hX hcl hcp a7).mono ?_
   rintro _ _ ⟨rfl,rfl⟩;exact ⟨a6,d,p,a8,a9,rfl,rfl,rfl⟩
theorem ICalls.ev (hX:EVOk C X)(lf fu:Nat){f:Nat}{ds:List D}{d:D}(h:(evF X lf fu).1 f ds=some d):ICalls C f ds d:=((evF_ok hX lf fu).1 f ds d h).1
end
end
end Go.Ide
namespace Go.Ide
inductive Bt (α:Type) where
 | nil
 | node (k:Nat) (v:α) (l r:Bt α)
def Bt.get {α:Type}:Bt α→Nat→Option α
 | .nil,_=>none
 | .node k v l r,t=>match Nat.beq t k with
  | true=>some v
  | false=>match Nat.ble t k with
   | true=>l.get t
   | false=>r.get t
def Bt.toL {α:Type}:Bt α→List (Nat × α)
 | .nil=>[]
 | .node k v l r=>(k,v)::(l.toL++r.toL)
theorem Bt.get_mem {α:Type}:∀ {b:Bt α} {t:Nat} {v:α},b.get t=some v→(t,v)∈b.toL
 | .nil,_,_,h=>by cases h
 | .node k v l r,t,u,h=>by
  simp only [Bt.get] at h;split at h
  ·rename_i hb;cases h;rw [Nat.eq_of_beq_eq_true hb];exact List.mem_cons_self ..
  ·split at h
   ·exact List.mem_cons_of_mem _ (List.mem_append_left _ (Bt.get_mem h))
   ·exact List.mem_cons_of_mem _ (List.mem_append_right _ (Bt.get_mem h))
theorem Bt.tab {P:Program}{b:Bt TInfo}(h:b.toL.map (fun p=>tinfo P p.1)=b.toL.map (fun p=>some p.2)):Tab P b.get:=fun t i hi=>by
 have hm:=Bt.get_mem hi;obtain ⟨j,hj,he⟩:=List.getElem_of_mem hm
 have:=congrArg (fun l=>l[j]?) h
 simp only [List.getElem?_map,List.getElem?_eq_getElem hj,he,Option.map_some,Option.some.injEq] at this;exact this
theorem Bt.tabX {P:Program}{b:Bt XI}(h:b.toL.map (fun p=>xinfo P p.1)=b.toL.map (fun p=>some p.2)):TabX P b.get:=fun t i hi=>by
 have hm:=Bt.get_mem hi;obtain ⟨j,hj,he⟩:=List.getElem_of_mem hm
 have:=congrArg (fun l=>l[j]?) h
 simp only [List.getElem?_map,List.getElem?_eq_getElem hj,he,Option.map_some,Option.some.injEq] at this;exact this
def FOk (P:Program) (f:Nat) (i:FI):Prop:=∃ fn,P.funcs[f]? = some fn∧fn.body=some i.code∧(fn.name == "runtime.NumGoroutine")=false∧codeDst fn.ntmps i.code=true∧fn.ntmps=i.nt∧fn.results.toList=i.res
def FOks (P:Program):Bt FI→Prop
 | .nil=>True
 | .node k v l r=>FOk P k v∧FOks P l∧FOks P r
theorem Bt.ftab {P:Program}:∀ {b:Bt FI},FOks P b→∀ f i,b.get f=some i→FOk P f i
 | .nil,_,_,_,h=>by cases h
 | .node k v l r,h,f,i,hi=>by
  simp only [Bt.get] at hi;split at hi
  ·rename_i hb;cases hi;rw [Nat.eq_of_beq_eq_true hb];exact h.1
  ·split at hi
   ·exact Bt.ftab h.2.1 f i hi
   ·exact Bt.ftab h.2.2 f i hi
def fiOf (f:Func):FI:=⟨f.ntmps,f.results.toList,f.body.getD .skip⟩
def evPb (tt:Nat→Option TInfo)(g:Operand→D)(op:Op):Option D:=match evP tt g op with
 | some (d,_)=>match okP tt g op with
  | true=>some d
  | false=>none
 | none=>none
theorem evPb_ok {tt:Nat→Option TInfo}{g:Operand→D}{op:Op}{d:D}(h:evPb tt g op=some d):∃ p,evP tt g op=some (d,p)∧p:=by
 unfold evPb at h;split at h<;>first|(cases h;done)|skip
 rename_i hp;split at h<;>first|(cases h;done)|skip
 rename_i hk;cases h;exact ⟨_,hp,okP_ok hp hk⟩
section
variable {C:Ctx} {F:Fra} {s:St} {ops:Array Oper} {o:Oper} {os:List Oper} {K:St→Prop}
theorem OkM.pB {tt:Nat→Option TInfo}(htt:Tab C.P tt){m t:Nat}{ks vs:List D}(d:D)(hw:wantD ops s.env o=some true)(he:evPb tt (gOpd s.env) o.op=some d)(hflat:Flat d)(hd:o.dst=some t)(hne:t≠m)
  (h:OkM C F ops os m ks vs ⟨putE s.env (some t) d,s.H,s.n+1⟩ K):OkM C F ops (o::os) m ks vs s K:=by
 obtain ⟨p,h1,h2⟩:=evPb_ok he;exact OkM.p htt hw h1 h2 hflat hd hne h
end
end Go.Ide
namespace Go.Ide
open Go.RowKit
def fw (rd:Option Nat):Fence:={ Fence.wide with round:=rd }
theorem calls_fw {rd:Option Nat}{n:Nat}{P:Program}{f:FuncId}{args:Array Value}{w:World}{R:Ending→World→Prop}:CallsIn (fw rd) n P f args w R↔Calls P f args w R :=
 (show CallsIn (fw rd) n P f args w R↔CallsIn Fence.wide n P f args w R from Iff.rfl).trans callsIn_wide
theorem fw_depth {rd:Option Nat}{n:Nat}:(fw rd).depth.isSome=true→1≤n:=fun h=>by cases h
theorem not_defer {P:Program}{ρ:Operand→Value}{o:Oper}{w w':World}{x:Next}(h:(execOp ρ o).run P w=.ok x w')(hx:∀ d,x≠.defer d):∀ c,o.op≠.defer c:=fun c hc=>by
 unfold execOp at h;simp only [hc] at h;rw [run_bind] at h;split at h
 ·cases h;exact hx _ rfl
 ·cases h
section
variable {C:Ctx} {F:Fra} {ops:Array Oper} {rd:Option Nat} {Q:Exit→Act→World→Prop}
theorem wpIn_value {P:Program}{o:Oper}{a:Act}{w w':World}{v:Value}{K:Act→World→Prop}(h:(execOp a.eval o).run P w=.ok (.value v) w')(hk:K (a.put o.dst v) w'):o.wpIn (fw rd) 0 P a w K Q:=by
 refine ⟨fun _ _=>trivial,?_⟩;rw [Oper.semAt_eq _ _ _ (not_defer h (by simp)),h];exact hk
theorem wpIn_enter {P:Program}{o:Oper}{a:Act}{w w':World}{f:Nat}{vs:Array Value}{K:Act→World→Prop}(h:(execOp a.eval o).run P w=.ok (.enter f vs) w')
  (hc:Calls P f vs w' fun e w''=>∃ v,e=.returned v∧K (a.put o.dst v) w''):o.wpIn (fw rd) 0 P a w K Q:=by
 refine ⟨fun _ _=>trivial,?_⟩;rw [Oper.semAt_eq _ _ _ (not_defer h (by simp)),h];refine ⟨fw_depth,calls_fw.2 (hc.mono ?_)⟩;rintro e w'' ⟨v,rfl,hk⟩;exact hk
theorem wpIn_round {P:Program}{o:Oper}{a:Act}{w w':World}{l f:Nat}{tmps:Array Value}{as bd:Code}{K:Act→World→Prop}(h:(execOp a.eval o).run P w=.ok (.round l f tmps as bd) w')
  (hc:RoundIn (fw rd) 0 P l f tmps as bd w' fun e w''=>∃ v,e=.returned v∧K (a.put o.dst v) w''):o.wpIn (fw rd) 0 P a w K Q:=by
 refine ⟨fun _ _=>trivial,?_⟩;rw [Oper.semAt_eq _ _ _ (not_defer h (by simp)),h];refine ⟨fw_depth,hc.mono ?_⟩;rintro e w'' ⟨v,rfl,hk⟩;exact hk
theorem wpOps_in {R:Exit→Act→World→Prop}{l2:List Nat}(hR:∀ e a w,R e a w→e=.normal∧wpOpsIn (fw rd) 0 C.P ops Q l2 a w)(hnd:∀ (i:Nat) (o:Oper),ops[i]? = some o→∀ c,o.op≠.defer c) :
  ∀ (l:List Nat) (a:Act) (w:World),wpOps C.P ops R l a w→wpOpsIn (fw rd) 0 C.P ops Q (l++l2) a w
 | [],a,w,h=>(hR _ _ _ h).2
 | i::l,a,w,h=>by
  have hlet:¬ LetsOut R:=fun ⟨a,w,h⟩=>by have:=(hR _ _ _ h).1;cases this
  simp only [wpOps] at h;simp only [List.cons_append,wpOpsIn];cases ho:ops[i]? with
  | none=>simp only [ho] at h;exact wpOps_in hR hnd l a w h
  | some o =>
   simp only [ho] at h;dsimp only;split
   ·rename_i hw
    rw [if_pos hw] at h;rcases h with h|⟨_,h⟩
    ·unfold Oper.wp at h
     refine ⟨fun _ _=>trivial,?_⟩;rw [Oper.semAt_eq _ _ _ (hnd i o ho)]
     revert h
     generalize (execOp a.eval o).run C.P w=r;intro h;unfold Oper.upon at h;unfold Oper.uponIn;split at h
     ·exact wpOps_in hR hnd l _ _ h
     ·exact wpOps_in hR hnd l _ _ h
     ·exact wpOps_in hR hnd l _ _ h
     ·refine ⟨fw_depth,calls_fw.2 (h.mono ?_)⟩
      intro e w'' h;cases e with
      | returned v=>exact wpOps_in hR hnd l _ _ h
      | panicked c=>have:=(hR _ _ _ h).1;cases this
      | outgrown=>exact absurd h hlet
     ·exact ⟨fw_depth,fun c cs hr=>by
       obtain ⟨v,w',h1,h2⟩:=h c cs;exact ⟨v,w',wpOps_in hR hnd l _ _ h1,stepsIn_wide.2 h2⟩⟩
     ·have:=(hR _ _ _ h).1;cases this
     ·exact h.elim
    ·exact absurd h hlet
   ·rename_i hw
    rw [if_neg hw] at h;exact ⟨fun _ _=>trivial,wpOps_in hR hnd l _ _ h⟩
theorem any_suffixI {Q:Exit→Act→World→Prop}:∀ (l:List Nat) (fuel:Nat) (L:Array Bool) (a:Act) (w:World),L.size=ops.size→l.length≤fuel→(∀ i,i<ops.size→(Ls L i↔i∉l))→l.Nodup →
  (∀ A i B,l=A++i::B→(∀ j∈depsOf ops i,j<ops.size∧j∉i::B)∧∀ j∈A,Reach ops i j)→(∀ i∈l,i<ops.size)→Cl ops L →
  wpOpsIn (fw rd) 0 C.P ops Q l a w→wpAnyIn (fw rd) 0 C.P .any ops Q fuel L a w
 | [],fuel,L,a,w,hs,_,hl,_,_,_,_,h=>by
  have hr:Region.ready .any ops L=[]:=by
   apply List.eq_nil_iff_forall_not_mem.2;intro i hi;obtain ⟨h1,h2,_⟩:=ready_iff.1 hi
   have:=(hl i h1).2 (by simp)
   unfold Ls at this;rw [Array.getD_eq_getD_getElem?,Array.getElem?_eq_getElem (by omega)] at this h2;simp at this h2;rw [this] at h2;cases h2
  cases fuel with
  | zero=>exact ⟨hr,h⟩
  | succ fuel=>exact ⟨fun _=>h,fun i hi=>by rw [hr] at hi;simp at hi⟩
 | i::l,0,_,_,_,_,hf,_,_,_,_,_,_=>by simp at hf
 | i::l,fuel+1,L,a,w,hs,hf,hl,hnd,hd,hlt,hcl,h=>by
  have hil:=hlt i (by simp);have hLi:∀ j,j<ops.size→(L.getD j true=true↔Ls L j):=fun j hj=>by
   unfold Ls;rw [Array.getD_eq_getD_getElem?,Array.getD_eq_getD_getElem?,Array.getElem?_eq_getElem (by omega)];simp
  have hready:∀ j,j∈Region.ready .any ops L↔j=i:=by
   intro j;rw [ready_iff];constructor
   ·rintro ⟨h1,h2,h3⟩
    have hj:j∈i::l:=by
     apply Classical.byContradiction;intro hn
     have:=(hLi j h1).2 ((hl j h1).2 hn)
     rw [h2] at this;cases this
    apply Classical.byContradiction;intro hne;have hjl:j∈l:=by simpa [hne] using hj
    obtain ⟨A,B,rfl⟩:=List.append_of_mem hjl;have hreach:=(hd (i::A) j B (by simp)).2 i (by simp)
    have:=reach_listed hs hcl hreach h3
    exact absurd ((hl i hil).1 this) (by simp)
   ·rintro rfl
    refine ⟨hil,?_,fun k hk=>?_⟩
    ·cases hb:L.getD j true with
     | false=>rfl
     | true=>exact absurd ((hl j hil).1 ((hLi j hil).1 hb)) (by simp)
    ·have hk2:=(hd [] j l rfl).1 k hk
     exact (hl k hk2.1).2 hk2.2
  have hset:∀ j,Ls (L.setIfInBounds i true) j↔j=i∨Ls L j:=fun j=>Ls.set (by omega)
  refine ⟨fun h0=>?_,fun j hj=>?_⟩
  ·have:=(hready i).2 rfl
   rw [h0] at this;simp at this
  ·obtain rfl:=(hready j).1 hj
   rw [wpOpsIn_cons] at h;obtain ⟨n1,n2⟩:=List.nodup_cons.1 hnd;refine wpOpIn_mono (fun a w hk=>?_) h;refine any_suffixI l fuel _ a w (by simp [hs]) (by simp at hf;omega) (fun k hk2=>?_) n2 (fun A k B hAB=>?_) (fun k hk2=>hlt k (by simp [hk2])) ?_ hk
   ·rw [hset,hl k hk2]
    by_cases hkj:k=j
    ·subst hkj;simp [n1]
    ·simp [hkj]
   ·obtain ⟨q1,q2⟩:=hd (j::A) k B (by simp [hAB])
    exact ⟨q1,fun x hx=>q2 x (by simp [hx])⟩
   ·intro k hk2 hks x hx
    have hk3:Ls (L.setIfInBounds j true) k:=by
     unfold Ls;rw [Array.getD_eq_getD_getElem?,Array.getElem?_eq_getElem (by simp;omega)] at hk2 ⊢;simpa using hk2
    show Ls _ x;rw [hset];rcases (hset k).1 hk3 with rfl|hk3
    ·exact .inr ((ready_iff.1 hj).2.2 x hx)
    ·exact .inr (hcl k ((hLi k hks).2 hk3) hks x hx)
theorem any_prefixI {Q:Exit→Act→World→Prop}{H:Hp}{n:Nat}{env:Env}{rs:List Rec}{suf:List Nat}(ho:OrdOk ops rs suf)(hgen:∀ e∈H,e.g<n)(hd:∀ r∈rs,dstOk F.nt r.o=true)
  (hst:∀ A r B,rs=A++r::B→ops[r.i]? = some r.o∧Steady C F ops H (n+r.i) (envOf A env) r.o r.d r.ne)
  (hend:∀ (L:Array Bool) (a:Act) (w:World) (ρ:Lk) (He:Hp),L.size=ops.size→(∀ r∈rs,Ls L r.i)→DI C F H n env rs L a w ρ He→wpOpsIn (fw rd) 0 C.P ops Q suf a w) :
  ∀ (fuel:Nat) (L:Array Bool) (a:Act) (w:World) (ρ:Lk) (He:Hp),L.size=ops.size→((rs.map (·.i)++suf).filter (fun i=>!L.getD i false)).length≤fuel→Cl ops L→(∀ i∈suf,¬ Ls L i) →
   DI C F H n env rs L a w ρ He→wpAnyIn (fw rd) 0 C.P .any ops Q fuel L a w:=by
 intro fuel
 induction fuel with
 | zero =>
  intro L a w ρ He hL hf hc hs hi;have h0:(rs.map (·.i)++suf).filter (fun i=>!L.getD i false)=[]:=List.eq_nil_of_length_eq_zero (by omega);have hall:∀ r∈rs,Ls L r.i:=fun r hr=>by
   have:=List.filter_eq_nil_iff.1 h0 r.i (by simp;exact .inl ⟨r,hr,rfl⟩)
   simpa [Ls] using this
  have hsuf:suf=[]:=by
   apply List.eq_nil_iff_forall_not_mem.2;intro i hi2
   have:=List.filter_eq_nil_iff.1 h0 i (by simp [hi2])
   exact hs i hi2 (by simpa [Ls] using this)
  subst hsuf;refine any_suffixI [] 0 L a w hL (Nat.le_refl _) (fun i hi2=>⟨fun _=>by simp,fun _=>?_⟩) .nil (fun A i B h=>by cases A<;>simp at h) (by simp) hc (hend L a w ρ He hL hall hi)
  have:=ho.all i hi2
  simp at this;obtain ⟨r,hr,rfl⟩:=this;exact hall r hr
 | succ fuel ih =>
  intro L a w ρ He hL hf hc hs hi
  by_cases hall:∀ r∈rs,Ls L r.i
  ·refine any_suffixI suf (fuel+1) L a w hL ?_ (fun i hi2=>?_) ?_ (fun A i B hAB=>⟨fun j hj=>?_,fun j hj=>ho.suf A i B hAB j (by simp [hj])⟩) (fun i hi2=>ho.lt i (by simp [hi2])) hc (hend L a w ρ He hL hall hi)
   ·refine Nat.le_trans ?_ hf
    rw [List.filter_append,List.length_append];rw [(List.filter_eq_self (l:=suf)).2 fun i hi2=>by have:=hs i hi2;unfold Ls at this;simpa using this];omega
   ·constructor
    ·intro h1 h2;exact hs i h2 h1
    ·intro h1
     have:=ho.all i hi2
     rcases List.mem_append.1 this with h|h
     ·obtain ⟨r,hr,rfl⟩:=List.mem_map.1 h;exact hall r hr
     ·exact absurd h h1
   ·exact (List.nodup_append.1 ho.nodup).2.1
   ·have hA:=ho.first (rs.map (·.i)++A) i B (by simp [hAB]) j hj
    refine ⟨ho.lt j (by rw [hAB];rcases List.mem_append.1 hA with h|h<;>simp [h]),fun hB=>?_⟩;have hnd:=ho.nodup;rw [hAB,← List.append_assoc,List.nodup_append] at hnd;exact hnd.2.2 j hA j hB rfl
  ·have hnot:∃ r∈rs,¬ Ls L r.i:=by
    apply Classical.byContradiction;intro hn;exact hall fun r hr=>Classical.byContradiction fun h=>hn ⟨r,hr,h⟩
   have hLt:∀ j,j<ops.size→(L.getD j true=true↔Ls L j):=fun j hj=>by
    unfold Ls;rw [Array.getD_eq_getD_getElem?,Array.getD_eq_getD_getElem?,Array.getElem?_eq_getElem (by omega)];simp
   have hsome:Region.ready .any ops L≠[]:=by
    obtain ⟨r0,hr0,hn0⟩:=hnot
    have:∀ X:List Rec,∀ Y,rs=X++Y→(∃ r∈Y,¬ Ls L r.i)→(∀ r∈X,Ls L r.i)→∃ A r B,rs=A++r::B∧¬ Ls L r.i∧∀ r∈A,Ls L r.i:=by
     intro X Y
     induction Y generalizing X with
     | nil=>rintro _ ⟨r,hr,_⟩ _;simp at hr
     | cons y Y ihY =>
      intro hXY hex hX
      by_cases hy:Ls L y.i
      ·obtain ⟨r,hr,hrn⟩:=hex
       rcases List.mem_cons.1 hr with rfl|hr
       ·exact absurd hy hrn
       ·exact ihY (X++[y]) (by simp [hXY]) ⟨r,hr,hrn⟩ (fun r hr=>by
         rcases List.mem_append.1 hr with h|h
         ·exact hX r h
         ·simp at h;subst h;exact hy)
      ·exact ⟨X,y,Y,hXY,hy,hX⟩
    obtain ⟨A,r,B,h1,h2,h3⟩:=this [] rs rfl ⟨r0,hr0,hn0⟩ (by simp);intro hnil;have hrlt:=ho.lt r.i (by rw [h1];simp)
    have:r.i∈Region.ready .any ops L:=by
     rw [ready_iff];refine ⟨hrlt,?_,fun j hj=>?_⟩
     ·cases hb:L.getD r.i true with
      | false=>rfl
      | true=>exact absurd ((hLt r.i hrlt).1 hb) h2
     ·have:=ho.first (A.map (·.i)) r.i (B.map (·.i)++suf) (by rw [h1];simp) j hj
      obtain ⟨r',hr',rfl⟩:=List.mem_map.1 this;exact h3 r' hr'
    rw [hnil] at this;simp at this
   refine ⟨fun h0=>absurd h0 hsome,fun i hir=>?_⟩;obtain ⟨hilt,hin,hid⟩:=ready_iff.1 hir;have hnL:¬ Ls L i:=fun h=>by rw [(hLt i hilt).2 h] at hin;cases hin
   have hpre:i∈rs.map (·.i):=by
    rcases List.mem_append.1 (ho.all i hilt) with h|h
    ·exact h
    ·obtain ⟨A,B,hAB⟩:=List.append_of_mem h
     obtain ⟨r0,hr0,hn0⟩:=hnot
     have:=reach_listed hL hc (ho.suf A i B hAB r0.i (List.mem_append_left _ (List.mem_map.2 ⟨r0,hr0,rfl⟩))) hid
     exact absurd this hn0
   obtain ⟨r,hr,rfl⟩:=List.mem_map.1 hpre;obtain ⟨A,B,hAB⟩:=List.append_of_mem hr;obtain ⟨hor,hgen2,hsteady⟩:=hst A r B hAB;have hset:∀ j,Ls (L.setIfInBounds r.i true) j↔j=r.i∨Ls L j:=fun j=>Ls.set (by omega)
   have hndr:(rs.map (·.i)).Nodup:=(List.nodup_append.1 ho.nodup).1;have hsub:∀ e∈H,e∈He:=fun e he=>hi.perm.mem_iff.2 (by simp [he])
   have hfr:∀ k,ρ k (n+r.i)=none:=fun k=>by
    apply Classical.byContradiction;intro hk;obtain ⟨r',h1,h2,h3⟩:=hi.fresh k (n+r.i) (by omega) hk
    have:r'.i=r.i:=by omega
    rw [this] at h2;exact hnL h2
   have hne:∀ e∈He,e.g≠n+r.i:=fun e he hg=>by
    rcases List.mem_append.1 (hi.perm.mem_iff.1 he) with h|h
    ·obtain ⟨r',h1,h2⟩:=List.mem_filterMap.1 h
     split at h2
     ·rename_i hl
      obtain ⟨A',B',hAB'⟩:=List.append_of_mem h1
      have:=(hst A' r' B' hAB').2.1 e h2
      have:r'.i=r.i:=by omega
      rw [this] at hl;exact hnL hl
     ·cases h2
    ·have:=hgen e h;omega
   have next:∀ v ρ' w',Post1 C F He ρ w (n+r.i) r.d r.ne v ρ' w'→wpAnyIn (fw rd) 0 C.P .any ops Q fuel (L.setIfInBounds r.i true) (a.put r.o.dst v) w':=by
    intro v ρ' w' p;have hi':=hi;rw [hAB] at hi' hndr;have hdst:=ho.dst;rw [hAB] at hdst;have hn':=DI.next hi' (by omega) hnL hndr hdst (hd r hr) p;rw [← hAB] at hn';refine ih _ _ _ ρ' (putH r.ne He) (by simp [hL]) ?_ ?_ (fun j hj=>?_) hn'
    ·have:((rs.map (·.i)++suf).filter (fun i=>!(L.setIfInBounds r.i true).getD i false)).length<((rs.map (·.i)++suf).filter (fun i=>!L.getD i false)).length:=by
      have sub:(rs.map (·.i)++suf).filter (fun i=>!(L.setIfInBounds r.i true).getD i false)=((rs.map (·.i)++suf).filter (fun i=>!L.getD i false)).filter (fun i=>!Nat.beq i r.i):=by
       rw [List.filter_filter];apply List.filter_congr;intro x hx;have h1:=hset x;unfold Ls at h1
       by_cases hxr:x=r.i
       ·subst hxr
        have:(L.setIfInBounds r.i true).getD r.i false=true:=h1.2 (.inl rfl)
        simp [this]
       ·have hb:Nat.beq x r.i=false:=by
         cases hb:Nat.beq x r.i with
         | false=>rfl
         | true=>exact absurd (Nat.eq_of_beq_eq_true hb) hxr
        rw [hb]
        by_cases hlx:L.getD x false=true
        ·rw [h1.2 (.inr hlx),hlx];rfl
        ·have:¬ (L.setIfInBounds r.i true).getD x false=true:=fun h=>hlx ((h1.1 h).resolve_left hxr)
         simp only [Bool.not_eq_true] at this hlx;rw [this,hlx];rfl
      rw [sub];apply List.length_filter_lt_length_iff_exists.2;exact ⟨r.i,by rw [List.mem_filter];exact ⟨by simp;exact .inl ⟨r,hr,rfl⟩,by unfold Ls at hnL;simpa using hnL⟩,by simp⟩
     omega
    ·intro k hk2 hks x hx
     have hk3:Ls (L.setIfInBounds r.i true) k:=by
      unfold Ls;rw [Array.getD_eq_getD_getElem?,Array.getElem?_eq_getElem (by simp;omega)] at hk2 ⊢;simpa using hk2
     show Ls _ x;rw [hset];rcases (hset k).1 hk3 with rfl|hk3
     ·exact .inr (hid x hx)
     ·exact .inr (hc k ((hLt k hks).2 hk3) hks x hx)
    ·rw [hset]
     rintro (rfl|h)
     ·have hnd:=ho.nodup
      rw [List.nodup_append] at hnd;exact hnd.2.2 r.i (List.mem_map.2 ⟨r,hr,rfl⟩) r.i hj rfl
     ·exact hs j hj h
   unfold wpOpIn;simp only [hor];rcases hsteady He ρ a w hi.mem hsub hfr hne (hi.look ho hL hc hAB hir) with ⟨hw,hn0,hrep⟩|⟨hw,hout⟩
   ·rw [if_neg (by rw [hw];simp)]
    exact ⟨fun _ _=>trivial,next undef ρ w ⟨by rw [hn0];exact hi.mem,by rw [hn0];exact .refl _ _ _,fun _ _ _=>rfl,by rw [hn0];exact hrep⟩⟩
   ·rw [if_pos hw]
    rcases hout with ⟨v,ρ',w',h1,h2⟩|⟨f,vs,h1,h2⟩
    ·exact wpIn_value h1 (next v ρ' w' h2)
    ·refine wpIn_enter h1 (h2.mono ?_)
     rintro e w' ⟨v,rfl,ρ',h3⟩;exact ⟨v,rfl,next v ρ' w' h3⟩
theorem drawI {R:Exit→Act→World→Prop}{i:Nat}{s:St}{pre suf:List Nat}{envF:Env}{N:Hp}(hm:C.P.follows .mixedOrders=true)(hc:chkD ops pre suf=true)
  (hpre:DTr C F ops s.H s.n pre s.env [] envF N)
  (h:(∀ j∈suf,j<ops.size)→∀ (ρ:Lk) (a:Act) (w:World),Sat C F ρ ⟨envF,N++s.H,s.n+ops.size⟩ a w→wpOpsIn (fw rd) 0 C.P ops R suf a w) (hd:ops.toList.all (dstOk F.nt)=true) (ρ:Lk) (a:Act) (w:World) (hs:Sat C F ρ s a w) :
  (Code.region i ops true).wpIn (fw rd) 0 C.P R a w:=by
 obtain ⟨rs,h1,h2,h3,h4⟩:=hpre.recs;have hor:∀ r∈rs,ops[r.i]? = some r.o:=fun r hr=>by
  obtain ⟨A,B,hAB⟩:=List.append_of_mem hr;exact (h4 A r B hAB).1
 have ho:=ordOk_of h1 hor hc;have hds:∀ r∈rs,dstOk F.nt r.o=true:=fun r hr=>by
  refine List.all_eq_true.1 hd r.o ?_
  have:=hor r hr
  exact Array.mem_toList_iff.2 (Array.mem_of_getElem? this)
 have hrep:∀ j,(Array.replicate ops.size false).getD j false=false:=fun j=>by
  rw [Array.getD_eq_getD_getElem?];rw [Array.getElem?_replicate];split<;>rfl
 have hnL:∀ j,¬ Ls (Array.replicate ops.size false) j:=fun j hj=>by unfold Ls at hj;rw [hrep] at hj;cases hj
 refine wpIn_region_any hm ?_;have hin:DI C F s.H s.n s.env rs (Array.replicate ops.size false) a w.drew ρ s.H:=by
  refine ⟨hs.mem.drew,?_,fun r _ hl=>absurd hl (hnL _),fun t _=>(hs.env t).mono (.drew _ _ _),fun k g hg hk=>absurd (hs.fresh k g hg) hk,hs.nt,hs.dfr⟩
  have:rs.filterMap (fun r=>if (Array.replicate ops.size false).getD r.i false then r.ne else none)=[]:=by
   rw [List.filterMap_eq_nil_iff];intro r _;rw [hrep];rfl
  rw [this];exact List.Perm.refl _
 refine any_prefixI ho hs.gen hds h4 ?_ ops.size _ a w.drew ρ s.H (by simp) ?_ ?_ (fun j _=>hnL j) hin
 ·intro L a' w' ρ' He hL hall hi
  have hN:He.Perm (N++s.H):=by
   refine hi.perm.trans (List.Perm.append_right _ ?_);have e:rs.filterMap (fun r=>if L.getD r.i false then r.ne else none)=rs.filterMap (·.ne):=fm_congr fun r hr=>by
    have:=hall r hr;unfold Ls at this;rw [this];rfl
   rw [e,h3]
   have:=newOf_perm rs []
   rw [List.append_nil] at this;exact this.symm
  refine h (fun j hj=>ho.lt j (by simp [hj])) ρ' a' w' ⟨hi.mem.perm hN,?_,?_,fun t=>?_,hi.nt,hi.dfr⟩
  ·intro k g hg
   apply Classical.byContradiction;intro hk;obtain ⟨r,hr,_,he⟩:=hi.fresh k g (by simp at hg;omega) hk
   have:=ho.lt r.i (by simp;exact .inl ⟨r,hr,rfl⟩)
   simp at hg;omega
  ·intro e he
   rcases List.mem_append.1 he with he|he
   ·rw [h3] at he
    have he:=(newOf_perm rs []).mem_iff.1 he;rw [List.append_nil] at he;obtain ⟨r,hr,hre⟩:=List.mem_filterMap.1 he;obtain ⟨A,B,hAB⟩:=List.append_of_mem hr
    have:=(h4 A r B hAB).2.1 e hre
    have:=ho.lt r.i (by simp;exact .inl ⟨r,hr,rfl⟩)
    show e.g<s.n+ops.size;omega
   ·have:=hs.gen e he
    show e.g<s.n+ops.size;omega
  ·show Rep ρ' (Own F.X ρ' (N++s.H)) w' (envF.get t) _
   rw [← Own.perm hN,h2]
   by_cases hw:∃ r∈rs,r.o.dst=some t
   ·obtain ⟨r,hr,hrd⟩:=hw
    rw [envOf_at rs s.env t ho.dst r hr hrd];exact hi.reps r hr (hall r hr) t hrd
   ·rw [envOf_other rs s.env t fun r hr hrd=>hw ⟨r,hr,hrd⟩]
    exact hi.old t fun r hr _ hrd=>hw ⟨r,hr,hrd⟩
 ·refine Nat.le_trans (List.length_filter_le _ _) ?_
  have hsub:∀ (l:List Nat) (n:Nat),l.Nodup→(∀ x∈l,x<n)→l.length≤n:=by
   intro l n
   induction n generalizing l with
   | zero=>intro _ h;cases l with
    | nil=>simp
    | cons x l=>exact absurd (h x (by simp)) (by omega)
   | succ n ihn =>
    intro hnd hlt;have h1:=ihn (l.erase n) (hnd.erase n) fun x hx=>by
     have:=hlt x (List.mem_of_mem_erase hx)
     have:x≠n:=fun h=>by subst h;exact (List.Nodup.not_mem_erase hnd) hx
     omega
    have:=List.length_erase (a:=n) (l:=l)
    split at this<;>omega
  exact hsub _ _ ho.nodup ho.lt
 ·intro k hk
  have:k<ops.size∨¬ k<ops.size:=by omega
  rcases this with hlt|hlt
  ·rw [Array.getD_eq_getD_getElem?,Array.getElem?_replicate,if_pos hlt] at hk;cases hk
  ·intro h;exact absurd h hlt
theorem wpAny_in {R Q:Exit→Act→World→Prop}(hR:∀ e a w,R e a w→e=.normal∧Q .normal a w)(hnd:∀ (i:Nat) (o:Oper),ops[i]? = some o→∀ c,o.op≠.defer c) :
  ∀ (fuel:Nat) (L:Array Bool) (a:Act) (w:World),wpAny C.P .any ops R fuel L a w→wpAnyIn (fw rd) 0 C.P .any ops Q fuel L a w
 | 0,L,a,w,h=>⟨h.1,(hR _ _ _ h.2).2⟩
 | fuel+1,L,a,w,h=>⟨fun h0=>(hR _ _ _ (h.1 h0)).2,fun i hi=>by
   have hlet:¬ LetsOut R:=fun ⟨a,w,h⟩=>by have:=(hR _ _ _ h).1;cases this
   have hq:=h.2 i hi;unfold wpOp at hq;unfold wpOpIn;split
   ·rename_i ho;simp only [ho] at hq;exact wpAny_in hR hnd fuel _ a w hq
   ·rename_i o ho
    simp only [ho] at hq;split
    ·rename_i hw
     rw [if_pos hw] at hq;rcases hq with hq|⟨_,hq⟩
     ·unfold Oper.wp at hq
      refine ⟨fun _ _=>trivial,?_⟩;rw [Oper.semAt_eq _ _ _ (hnd i o ho)]
      revert hq
      generalize (execOp a.eval o).run C.P w=r;intro hq;unfold Oper.upon at hq;unfold Oper.uponIn;split at hq
      ·exact wpAny_in hR hnd fuel _ _ _ hq
      ·exact wpAny_in hR hnd fuel _ _ _ hq
      ·exact wpAny_in hR hnd fuel _ _ _ hq
      ·refine ⟨fw_depth,calls_fw.2 (hq.mono ?_)⟩
       intro e w'' h;cases e with
       | returned v=>exact wpAny_in hR hnd fuel _ _ _ h
       | panicked c=>have:=(hR _ _ _ h).1;cases this
       | outgrown=>exact absurd h hlet
      ·exact ⟨fw_depth,fun c cs hr=>by
        obtain ⟨v,w',h1,h2⟩:=hq c cs;exact ⟨v,w',wpAny_in hR hnd fuel _ _ _ h1,stepsIn_wide.2 h2⟩⟩
      ·have:=(hR _ _ _ hq).1;cases this
      ·exact hq.elim
     ·exact absurd hq hlet
    ·rename_i hw
     rw [if_neg hw] at hq;exact ⟨fun _ _=>trivial,wpAny_in hR hnd fuel _ _ _ hq⟩⟩
end
end Go.Ide
namespace Go.Ide
open Go.RowKit
def brB (b:Bool)(y n:Prop):Prop:=match b with
 | true=>y
 | false=>n
theorem brI {b:Bool}{y n:Prop}(h1:b=true→y)(h2:b=false→n):brB b y n:=by
 cases b
 ·exact h2 rfl
 ·exact h1 rfl
theorem Fz.loose {d d':D}(h:Fz [] [] d d'):∀ {ρ:Lk} {O:Nat→Prop} {w:World} {v:Value},Rep ρ O w d v→Rep ρ O w d' v:=by
 induction h with
 | refl=>exact fun h=>h
 | any=>exact fun _=>.any _
 | nil sz=>intro ρ O w v h;cases h;exact .nil _
 | nn nn sz es =>
  intro ρ O w v h;cases h with
  | nil=>exact .nil _
  | emp a=>exact .emp a
  | sl f hl hc hO hb hz hcell ho h=>exact .sl f hl hc hO hb hz hcell ho h
 | agg hl h ih =>
  intro ρ O w v hr;cases hr with
  | agg hn ho hh =>
   refine .agg (by omega) ho fun i d' hd'=>?_
   have hi:=(List.getElem?_eq_some_iff.1 hd').1;exact ih i _ d' (List.getElem?_eq_getElem (by omega)) hd' (hh i _ (List.getElem?_eq_getElem (by omega)))
 | tup hl h ih =>
  intro ρ O w v hr;cases hr with
  | tup hn hh =>
   refine .tup (by omega) fun i d' hd'=>?_
   have hi:=(List.getElem?_eq_some_iff.1 hd').1;exact ih i _ d' (List.getElem?_eq_getElem (by omega)) hd' (hh i _ (List.getElem?_eq_getElem (by omega)))
 | osl he _ _ _ _ _ _ _=>cases he
section
variable {C:Ctx}
inductive CallW (C:Ctx)(f:Nat)(ds:List D)(k:D→Prop):Prop
 | mk (ds':List D) (d:D) (hv:FzL [] [] ds ds') (hc:ICalls C f ds' d) (hp:ArePure ds') (hk:k d)
inductive CallO (C:Ctx)(f:Nat)(ds:List D)(H:Hp)(n:Nat)(k:D→Hp→Nat→Prop):Prop
 | pure (ds':List D) (d:D) (hv:FzL [] [] ds ds') (hc:ICalls C f ds' d) (hp:ArePure ds') (hk:k d H (n+1))
 | prop (ds':List D) (Φ:D→Prop) (hv:FzL [] [] ds ds') (hc:ICallP C f ds' Φ) (hp:ArePure ds') (hk:∀ d,Φ d→k d H (n+1))
 | own (Φ:D→Hp→Nat→Prop) (hc:ICallH C f ds H n Φ) (hk:∀ d H' n',Φ d H' n'→k d H' n')
 | lend (Hf:Hp) (ds':List D) (d:D) (hH:FzH H Hf H Hf) (hv:FzL H Hf ds ds') (hc:ICalls C f ds' d) (hp:ArePure ds') (hflat:Flat d) (hk:k d H (n+1))
theorem fzl_loose {ds ds':List D}(h:FzL [] [] ds ds'){ρ:Lk}{O:Nat→Prop}{w:World}{vs:Array Value}(hr:∀ (i:Nat) (d:D),ds[i]? = some d→Rep ρ O w d (vs.getD i undef)) :
  ∀ (i:Nat) (d:D),ds'[i]? = some d→Rep ρ O w d (vs.getD i undef):=fun i d hd=>by
 obtain ⟨l1,l2⟩:=h.spec;have hi:=(List.getElem?_eq_some_iff.1 hd).1;have h0:ds[i]? = some ds[i]:=List.getElem?_eq_getElem (by omega);exact (l2 i _ d h0 hd).loose (hr i _ h0)
theorem Steady.call' {F:Fra}{ops:Array Oper}{H:Hp}{g:Nat}{env:Env}{o:Oper}{f:Nat}{first captured ds ds':List D}{fop:Operand}{args:Array Operand}{tys:Array Nat}{d:D}(hw:wantD ops env o=some true)(ho:o.op=.call ⟨.value fop,args,tys⟩)
  (hf:gOpd env fop=.clo (.func f) first captured) (hds:first++args.toList.map (gOpd env)++captured=ds) (hv:FzL [] [] ds ds') (hc:ICalls C f ds' d) (hp:ArePure ds'):Steady C F ops H g env o d none:=by
 refine ⟨by simp,fun He ρ a w m hsub fr hne hr=>.inr ⟨wantD_look hr hw,.inr ?_⟩⟩;obtain ⟨g',h1,h2⟩:=look_gen hr;have hfop:fop∈o.op.operands:=by rw [ho];simp [Op.operands,Call.operands]
 have harg:∀ x∈args.toList,gOpd env x=g' x:=fun x hx=>h1 x (by rw [ho];simp [Op.operands,Call.operands];right;simpa using hx)
 rw [h1 fop hfop] at hf;rw [map_congr_ops harg] at hds;obtain ⟨vs,q1,q2,q3⟩:=callArgs_run' (g:=g') ho hf hc.1 h2;rw [hds] at q2 q3;have q4:=fzl_loose hv q3;refine ⟨f,vs,q1,(hc.2 (Own F.X ρ He) w vs m.g (Nat.le_trans m.gn m.size) (fun b hb=>m.own_lt hb) (by rw [q2];exact hv.spec.1) fun i d hd=>hp.out d (List.mem_of_getElem? hd) _ _ _ _ _ (q4 i d hd)).mono ?_⟩;rintro e w' ⟨v,d',rfl,hb,rfl,hrep⟩;have x:Ext ρ (Own F.X ρ He) w ρ (Own F.X ρ He) w':=⟨hb.size,fun _ _ _ h=>h,fun b hb' hO=>⟨hO,hb.block b hb'⟩,fun b cs T fz hh=>⟨cs,_,by
  rw [hb.block b (Array.getElem?_eq_some_iff.1 hh).1];exact hh,rfl⟩⟩
 exact ⟨v,rfl,ρ,m.same x hb.os hb.tape hb.output hb.block,x,fun _ _ _=>rfl,hrep.nol⟩
def wpP (X:EV)(g:Operand→D)(op:Op)(acc:Prop)(k:Prop→D→Option Ent→Prop):Prop:=match evP X.tt g op with
 | some (d,p)=>k (p∧acc) d none
 | none=>False
def wpQ (X:EV)(g:Operand→D)(op:Op)(acc:Prop)(k:Prop→D→Option Ent→Prop):Prop:=match evQ X.tt X.xt g op with
 | some (d,p)=>k (p∧acc) d none
 | none=>False
def wpPQ (X:EV)(g:Operand→D)(op:Op)(acc:Prop)(k:Prop→D→Option Ent→Prop):Prop:=match evP X.tt g op with
 | some (d,p)=>k (p∧acc) d none
 | none=>wpQ X g op acc k
def wpIx (X:EV)(g:Operand→D)(t:Nat)(x ix:Operand)(acc:Prop)(k:Prop→D→Option Ent→Prop):Prop:=match X.tt t with
 | some i=>match i.ti with
  | .slice _ esz _ _=>match g ix with
   | .prim (.int _ j)=>match g x with
    | .sl _ sz es=>acc∧(sz=esz∧0≤j)∧∃ d,es[j.toNat]? = some d∧k True (.pptr d) none
    | _=>False
   | _=>False
  | _=>False
 | none=>False
def wpE (C:Ctx)(X:EV)(kb:Nat)(g:Operand→D)(H:Hp)(n:Nat)(op:Op)(acc:Prop)(k:Prop→D→Option Ent→Prop):Prop:=match op with
 | .call ⟨.value fop,args,_⟩=>match g fop with
  | .clo (.func f) first captured=>match X.nat f (first++args.toList.map g++captured) with
   | some d=>k acc d none
   | none=>acc∧CallW C f (first++args.toList.map g++captured) fun d=>k True d none
  | _=>False
 | .call ⟨.builtin .append,_,_⟩=>match evA X.tt [] n kb g op with
  | some (d,[e],p)=>k (p∧acc) d (some e)
  | _=>False
 | .load _ _ | .alloc _ | .box _ _ | .buildSlice _ _ _=>match evL X.tt H n kb g op with
  | some (d,ne,p)=>k (p∧acc) d ne
  | none=>False
 | .indexAddr t x ix=>match evP X.tt g op with
  | some (d,p)=>k (p∧acc) d none
  | none=>wpIx X g t x ix acc k
 | .makeInterface _ _ | .lookup _ _ _ _=>wpQ X g op acc k
 | .binOp _ _ _ _ _=>wpPQ X g op acc k
 | _=>wpP X g op acc k
structure WOk (C:Ctx)(X:EV):Prop where
 tt:Tab C.P X.tt
 xt:TabX C.P X.xt
 mixed:C.P.follows .mixedOrders=true
 mt:∀ t name f,X.mt t name=some f→∀ v w,(method (C.P.types.size+Made.depth) t v name).run C.P w=.ok (f,v) w
 nat:∀ f ds d,X.nat f ds=some d→NatCall C f ds d
theorem EVOk.w {X:EV}(h:EVOk C X):WOk C X:=⟨h.tt,h.xt,h.mixed,h.mt,h.nat⟩
variable {F:Fra} {X:EV} {ops:Array Oper}
theorem wpE_ok (hX:WOk C X){kb:Nat}{H:Hp}{n:Nat}{env:Env}{o:Oper}{acc:Prop}{k:Prop→D→Option Ent→Prop}(hw:wantD ops env o=some true)(hk:∀ acc d ne,k acc d ne→acc)
  (h:wpE C X kb (gOpd env) H n o.op acc k):acc∧∃ acc' d ne,Steady C F ops H n env o d ne∧k acc' d ne:=by
 have pe:wpP X (gOpd env) o.op acc k→acc∧∃ acc' d ne,Steady C F ops H n env o d ne∧k acc' d ne:=fun h=>by
  unfold wpP at h;split at h
  ·rename_i d p he
   have:=hk _ _ _ h
   exact ⟨this.2,_,_,_,Steady.p hX.tt hw he this.1,h⟩
  ·exact h.elim
 have qe:wpQ X (gOpd env) o.op acc k→acc∧∃ acc' d ne,Steady C F ops H n env o d ne∧k acc' d ne:=fun h=>by
  unfold wpQ at h;split at h
  ·rename_i d p he
   have:=hk _ _ _ h
   exact ⟨this.2,_,_,_,Steady.q hX.tt hX.xt hw he this.1,h⟩
  ·exact h.elim
 have le:(match evL X.tt H n kb (gOpd env) o.op with
   | some (d,ne,p)=>k (p∧acc) d ne
   | none=>False)→acc∧∃ acc' d ne,Steady C F ops H n env o d ne∧k acc' d ne:=fun h=>by
  split at h
  ·rename_i d ne p he
   have:=hk _ _ _ h
   exact ⟨this.2,_,_,_,Steady.l' kb hX.tt hw he this.1,h⟩
  ·exact h.elim
 unfold wpE at h;split at h
 ·rename_i fop args tys ho
  split at h
  ·rename_i f first captured hf
   split at h
   ·rename_i d hn
    exact ⟨hk _ _ _ h,_,_,_,Steady.nat hw ho hf rfl (hX.nat _ _ _ hn),h⟩
   ·obtain ⟨h1,⟨ds',d,hv,hc,hp,h2⟩⟩:=h
    exact ⟨h1,_,_,_,Steady.call' hw ho hf rfl hv hc hp,h2⟩
  ·exact h.elim
 ·split at h
  ·rename_i d e p he
   have:=hk _ _ _ h
   exact ⟨this.2,_,_,_,Steady.app0 kb hX.tt hw he this.1,h⟩
  ·exact h.elim
 ·exact le h
 ·exact le h
 ·exact le h
 ·exact le h
 ·rename_i t x ix ho
  split at h
  ·rename_i d p he
   have:=hk _ _ _ h
   exact ⟨this.2,_,_,_,Steady.p hX.tt hw he this.1,h⟩
  ·unfold wpIx at h
   split at h<;>first|exact h.elim|skip
   rename_i i h1;split at h<;>first|exact h.elim|skip
   rename_i e esz eby ez h2;split at h<;>first|exact h.elim|skip
   rename_i kk j h3;split at h<;>first|exact h.elim|skip
   rename_i nn sz es h4;obtain ⟨ha,⟨rfl,hj⟩,d,hd,hk'⟩:=h;exact ⟨ha,_,_,_,Steady.idx hX.tt hw ho h1 h2 h3 h4 hj hd,hk'⟩
 ·exact qe h
 ·exact qe h
 ·unfold wpPQ at h
  split at h
  ·rename_i d p he
   have:=hk _ _ _ h
   exact ⟨this.2,_,_,_,Steady.p hX.tt hw he this.1,h⟩
  ·exact qe h
 ·exact pe h
def nthO:List Oper→Nat→Option Oper
 | [],_=>none
 | o::_,0=>some o
 | _::l,i+1=>nthO l i
theorem nthO_eq:∀ (l:List Oper) (i:Nat),nthO l i=l[i]?
 | [],_=>by simp [nthO]
 | o::l,0=>by simp [nthO]
 | o::l,i+1=>by simp [nthO,nthO_eq l i]
def lenO:List Oper→Nat
 | []=>0
 | _::l=>lenO l+1
theorem lenO_eq:∀ l:List Oper,lenO l=l.length
 | []=>rfl
 | _::l=>by simp [lenO,lenO_eq l]
theorem nthO_arr {i:Nat}{o:Oper}(h:nthO ops.toList i=some o):ops[i]? = some o:=by
 rw [nthO_eq] at h;simpa using h
def wpPre (C:Ctx)(X:EV)(kb:Nat)(ops:Array Oper)(H:Hp)(n:Nat):List Nat→Env→Hp→Prop→(Prop→Env→Hp→Prop)→Prop
 | [],env,N,acc,K=>K acc env N
 | i::l,env,N,acc,K=>match nthO ops.toList i with
  | some o=>match o.guard with
   | none=>wpE C X (kb+i) (gOpd env) H (n+i) o.op acc fun acc d ne=>wpPre C X kb ops H n l (putE env o.dst d) (putH ne N) acc K
   | some _=>match wantD ops env o with
    | some b=>acc∧brB b (wpE C X (kb+i) (gOpd env) H (n+i) o.op True fun acc d ne=>wpPre C X kb ops H n l (putE env o.dst d) (putH ne N) acc K)
      (wpPre C X kb ops H n l (putE env o.dst (.prim (.tuple #[]))) N True K)
    | none=>False
  | none=>False
theorem wpPre_acc {kb:Nat}{H:Hp}{n:Nat}(hX:WOk C X){K:Prop→Env→Hp→Prop}(hK:∀ acc env N,K acc env N→acc):∀ {l:List Nat} {env:Env} {N:Hp} {acc:Prop},wpPre C X kb ops H n l env N acc K →
  acc∧∃ acc' env' N',DTr C F ops H n l env N env' N'∧K acc' env' N'
 | [],env,N,acc,h=>⟨hK _ _ _ h,_,_,_,.nil _ _,h⟩
 | i::l,env,N,acc,h=>by
  simp only [wpPre] at h;split at h<;>first|exact h.elim|skip
  rename_i o ho;have ho:=nthO_arr ho;have step:∀ acc,wantD ops env o=some true→(wpE C X (kb+i) (gOpd env) H (n+i) o.op acc fun acc d ne=>wpPre C X kb ops H n l (putE env o.dst d) (putH ne N) acc K)→acc∧∃ acc' env' N',DTr C F ops H n (i::l) env N env' N'∧K acc' env' N':=fun acc hw h=>by
   obtain ⟨h1,acc1,d,ne,h2,h3⟩:=wpE_ok (F:=F) hX hw (fun acc d ne h=>(wpPre_acc hX hK h).1) h;obtain ⟨_,acc2,env2,N2,h4,h5⟩:=wpPre_acc hX hK h3;exact ⟨h1,_,_,_,.cons ho h2 h4,h5⟩
  split at h
  ·rename_i hg
   exact step _ (by unfold wantD;rw [hg]) h
  ·split at h<;>first|exact h.elim|skip
   rename_i b hb;obtain ⟨h0,h⟩:=h;cases b with
   | true =>
    obtain ⟨_,h1⟩:=step _ hb h;exact ⟨h0,h1⟩
   | false =>
    obtain ⟨_,acc2,env2,N2,h4,h5⟩:=wpPre_acc hX hK h;exact ⟨h0,_,_,_,.cons ho (Steady.skip hb) h4,h5⟩
theorem CallO.ok {F:Fra}{ops:Array Oper}{s:St}{o:Oper}{os:List Oper}{K:St→Prop}{f:Nat}{ds:List D}{k:D→Hp→Nat→Prop}(hw:wantD ops s.env o=some true)
  (hrun:Callable C.P f→∀ (ρ:Lk) (a:Act) (w:World),Sat C F ρ s a w→∃ vs,(execOp a.eval o).run C.P w=.ok (.enter f vs) w∧vs.size=ds.length∧∀ (i:Nat) (d:D),ds[i]? = some d→Rep ρ (Own F.X ρ s.H) w d (vs.getD i undef))
  (h:CallO C f ds s.H s.n k) (hk:∀ d H n,k d H n→OkL C F ops os ⟨putE s.env o.dst d,H,n⟩ K):OkL C F ops (o::os) s K:=by
 have prop:∀ (ds':List D) (Φ:D→Prop),FzL [] [] ds ds'→ICallP C f ds' Φ→ArePure ds'→(∀ d,Φ d→k d s.H (s.n+1))→OkL C F ops (o::os) s K:=fun ds' Φ hv hc hp hk'=>by
  refine OkL.callStep (f:=f) hw (fun ρ a w hs=>?_) fun d hd=>hk _ _ _ (hk' d hd)
  obtain ⟨vs,h1,h2,h3⟩:=hrun hc.1 ρ a w hs;have q4:=fzl_loose hv h3;refine ⟨vs,h1,(hc.2 (Own F.X ρ s.H) w vs hs.mem.g (Nat.le_trans hs.mem.gn hs.mem.size) (fun b hb=>hs.mem.own_lt hb) (by rw [h2];exact hv.spec.1) fun i d hd=>hp.out d (List.mem_of_getElem? hd) _ _ _ _ _ (q4 i d hd)).mono ?_⟩;rintro e w' ⟨v,d,a1,a2,a3,a4⟩;exact ⟨v,d,a1,a2,a3,a4.nol⟩
 cases h with
 | pure ds' d hv hc hp hk'=>exact prop ds' _ hv hc hp fun d' hd=>by subst hd;exact hk'
 | prop ds' Φ hv hc hp hk'=>exact prop ds' Φ hv hc hp hk'
 | own Φ hc hk' =>
  intro hd l hl ρ a w hs;cases l with
  | nil=>simp at hl
  | cons i l =>
   simp only [List.map_cons,List.cons.injEq] at hl;simp only [List.all_cons,Bool.and_eq_true] at hd;obtain ⟨vs,h1,h2,h3⟩:=hrun hc.1 ρ a w hs;simp only [wpOps,hl.1];rw [if_pos (wantD_ok hs.env hw)];refine .inl ?_;unfold Oper.wp;rw [h1];refine (hc.2 F ρ w vs hs.mem hs.fresh hs.gen h2 h3).mono ?_;rintro e w' ⟨v,d,H',n',ρ',rfl,hΦ,m,x,fr,g,r⟩;exact hk d H' n' (hk' d H' n' hΦ) hd.2 l hl.2 ρ' (a.put o.dst v) w' (hs.put m x fr g r hd.1)
 | lend Hf ds' d hH hv hc hp hflat hk' =>
  refine OkL.callStep (f:=f) (Φ:=fun d'=>d'=d) hw (fun ρ a w hs=>?_) fun d' hd=>by subst hd;exact hk _ _ _ hk'
  obtain ⟨vs,h1,h2,h3⟩:=hrun hc.1 ρ a w hs;obtain ⟨m,hO,hN⟩:=hH.mem hs.mem;obtain ⟨l1,l2⟩:=hv.spec;refine ⟨vs,h1,(hc.2 (Own F.X ρ Hf) w vs hs.mem.g (Nat.le_trans hs.mem.gn hs.mem.size) (fun b hb=>m.own_lt hb) (by omega) fun i d hd=>?_).mono ?_⟩
  ·have hi:i<ds'.length:=(List.getElem?_eq_some_iff.1 hd).1
   have hd0:ds[i]? = some ds[i]:=List.getElem?_eq_getElem (by omega);exact hp.out d (List.mem_of_getElem? hd) _ _ _ _ _ ((l2 i _ d hd0 hd).rep hs.mem hO hN (h3 i _ hd0))
  ·rintro e w' ⟨v,d',a1,a2,a3,a4⟩
   subst a3;exact ⟨v,d',a1,a2,rfl,hflat _ _ _ _ _ _ _ a4⟩
def wpO (C:Ctx)(X:EV)(kb:Nat)(g:Operand→D)(H:Hp)(n:Nat)(op:Op)(acc:Prop)(k:Prop→D→Hp→Nat→Prop):Prop:=match op with
 | .call ⟨.value fop,args,_⟩=>match g fop with
  | .clo (.func f) first captured=>match X.nat f (first++args.toList.map g++captured) with
   | some d=>k acc d H (n+1)
   | none=>acc∧CallO C f (first++args.toList.map g++captured) H n fun d H' n'=>k True d H' n'
  | _=>False
 | .call ⟨.invoke r name,args,_⟩=>match g r with
  | .ifc t d0=>match X.mt t name with
   | some f=>acc∧CallO C f (d0::args.toList.map g) H n fun d H' n'=>k True d H' n'
   | none=>False
  | _=>False
 | .call ⟨.builtin .append,_,_⟩=>match evA X.tt H n kb g op with
  | some (d,H',p)=>k (p∧acc) d H' (n+1)
  | none=>match evAS X.tt H n kb g op with
   | some (d,H',p)=>k (p∧acc) d H' (n+1)
   | none=>False
 | .makeSlice _ _ _=>match evM X.tt n kb g op with
  | some (d,e,p)=>k (p∧acc) d (e::H) (n+1)
  | none=>False
 | .store _ _ _=>match evS X.tt H g op with
  | some (j,e,p)=>k (p∧acc) (.prim (.tuple #[])) (Hp.set H j e) (n+1)
  | none=>False
 | .load _ _ | .alloc _ | .box _ _ | .buildSlice _ _ _=>match evL X.tt H n kb g op with
  | some (d,ne,p)=>k (p∧acc) d (putH ne H) (n+1)
  | none=>False
 | .indexAddr t x ix=>match evP X.tt g op with
  | some (d,p)=>k (p∧acc) d H (n+1)
  | none=>wpIx X g t x ix acc fun acc d _=>k acc d H (n+1)
 | .makeInterface _ _ | .lookup _ _ _ _=>wpQ X g op acc fun acc d _=>k acc d H (n+1)
 | .binOp _ _ _ _ _=>wpPQ X g op acc fun acc d _=>k acc d H (n+1)
 | _=>wpP X g op acc fun acc d _=>k acc d H (n+1)
theorem wpO_ok (hX:WOk C X){kb:Nat}{s:St}{o:Oper}{os:List Oper}{acc:Prop}{k:Prop→D→Hp→Nat→Prop}{K:St→Prop}(hw:wantD ops s.env o=some true)(hk:∀ acc d H n,k acc d H n→acc∧OkL C F ops os ⟨putE s.env o.dst d,H,n⟩ K)
  (h:wpO C X kb (gOpd s.env) s.H s.n o.op acc k):acc∧OkL C F ops (o::os) s K:=by
 have pe:wpP X (gOpd s.env) o.op acc (fun acc d _=>k acc d s.H (s.n+1))→acc∧OkL C F ops (o::os) s K:=fun h=>by
  unfold wpP at h;split at h
  ·rename_i d p he
   obtain ⟨⟨hp,ha⟩,h2⟩:=hk _ _ _ _ h;exact ⟨ha,OkL.p hX.tt hw he hp h2⟩
  ·exact h.elim
 have qe:wpQ X (gOpd s.env) o.op acc (fun acc d _=>k acc d s.H (s.n+1))→acc∧OkL C F ops (o::os) s K:=fun h=>by
  unfold wpQ at h;split at h
  ·rename_i d p he
   obtain ⟨⟨hp,ha⟩,h2⟩:=hk _ _ _ _ h;exact ⟨ha,OkL.q hX.tt hX.xt hw he hp h2⟩
  ·exact h.elim
 have le:(match evL X.tt s.H s.n kb (gOpd s.env) o.op with
   | some (d,ne,p)=>k (p∧acc) d (putH ne s.H) (s.n+1)
   | none=>False)→acc∧OkL C F ops (o::os) s K:=fun h=>by
  split at h
  ·rename_i d ne p he
   obtain ⟨⟨hp,ha⟩,h2⟩:=hk _ _ _ _ h;exact ⟨ha,OkL.l' kb hX.tt hw he hp h2⟩
  ·exact h.elim
 unfold wpO at h;split at h
 ·rename_i fop args tys ho
  split at h
  ·rename_i f first captured hf
   split at h
   ·rename_i d hn
    obtain ⟨ha,h2⟩:=hk _ _ _ _ h;exact ⟨ha,OkL.nat hw ho hf rfl (hX.nat _ _ _ hn) h2⟩
   ·obtain ⟨h1,h⟩:=h
    refine ⟨h1,?_⟩;exact CallO.ok hw (fun hc ρ a w hs=>callArgs_run ho hf hc hs) h fun d H n hk'=>(hk _ _ _ _ hk').2
  ·exact h.elim
 ·rename_i r name args tys ho
  split at h<;>first|exact h.elim|skip
  rename_i t d0 hr;split at h<;>first|exact h.elim|skip
  rename_i f hf;obtain ⟨h1,h⟩:=h;refine ⟨h1,?_⟩;exact CallO.ok hw (fun hc ρ a w hs=>invArgs_run ho hr (hX.mt _ _ _ hf) hc hs) h fun d H n hk'=>(hk _ _ _ _ hk').2
 ·split at h
  ·rename_i d H' p he
   obtain ⟨⟨hp,ha⟩,h2⟩:=hk _ _ _ _ h;exact ⟨ha,OkL.app' kb hX.tt hw he hp h2⟩
  ·split at h<;>first|exact h.elim|skip
   rename_i d H' p he;obtain ⟨⟨hp,ha⟩,h2⟩:=hk _ _ _ _ h;exact ⟨ha,OkL.appS kb hX.tt hw he hp h2⟩
 ·split at h<;>first|exact h.elim|skip
  rename_i d e p he;obtain ⟨⟨hp,ha⟩,h2⟩:=hk _ _ _ _ h;exact ⟨ha,OkL.mk' kb hX.tt hw he hp h2⟩
 ·split at h<;>first|exact h.elim|skip
  rename_i j e p he;obtain ⟨⟨hp,ha⟩,h2⟩:=hk _ _ _ _ h;exact ⟨ha,OkL.store hX.tt hw he hp h2⟩
 ·exact le h
 ·exact le h
 ·exact le h
 ·exact le h
 ·rename_i t x ix ho
  split at h
  ·rename_i d p he
   obtain ⟨⟨hp,ha⟩,h2⟩:=hk _ _ _ _ h;exact ⟨ha,OkL.p hX.tt hw he hp h2⟩
  ·unfold wpIx at h
   split at h<;>first|exact h.elim|skip
   rename_i i h1;split at h<;>first|exact h.elim|skip
   rename_i e esz eby ez h2;split at h<;>first|exact h.elim|skip
   rename_i kk j h3;split at h<;>first|exact h.elim|skip
   rename_i nn sz es h4;obtain ⟨ha,⟨rfl,hj⟩,d,hd,hk'⟩:=h;exact ⟨ha,OkL.idx hX.tt hw ho h1 h2 h3 h4 hj hd (hk _ _ _ _ hk').2⟩
 ·exact qe h
 ·exact qe h
 ·unfold wpPQ at h
  split at h
  ·rename_i d p he
   obtain ⟨⟨hp,ha⟩,h2⟩:=hk _ _ _ _ h;exact ⟨ha,OkL.p hX.tt hw he hp h2⟩
  ·exact qe h
 ·exact pe h
def wpSuf (C:Ctx)(X:EV)(kb:Nat)(ops:Array Oper):List Nat→St→Prop→(Prop→St→Prop)→Prop
 | [],s,acc,K=>K acc s
 | i::l,s,acc,K=>match nthO ops.toList i with
  | some o=>match o.guard with
   | none=>wpO C X (kb+i) (gOpd s.env) s.H s.n o.op acc fun acc d H n=>wpSuf C X kb ops l ⟨putE s.env o.dst d,H,n⟩ acc K
   | some _=>match wantD ops s.env o with
    | some b=>acc∧brB b (wpO C X (kb+i) (gOpd s.env) s.H s.n o.op True fun acc d H n=>wpSuf C X kb ops l ⟨putE s.env o.dst d,H,n⟩ acc K)
      (wpSuf C X kb ops l ⟨putE s.env o.dst (.prim (.tuple #[])),s.H,s.n+1⟩ True K)
    | none=>False
  | none=>False
theorem getD_of {i:Nat}{o:Oper}(h:nthO ops.toList i=some o):ops.getD i default=o:=by
 have:=nthO_arr h
 simp [Array.getD_eq_getD_getElem?,this]
theorem wpSuf_ok {kb:Nat}(hX:WOk C X){K:Prop→St→Prop}{K':St→Prop}(hK:∀ acc s,K acc s→acc∧K' s):∀ {l:List Nat} {s:St} {acc:Prop},wpSuf C X kb ops l s acc K →
  acc∧OkL C F ops (l.map fun j=>ops.getD j default) s K'
 | [],s,acc,h=>⟨(hK _ _ h).1,OkL.nil (hK _ _ h).2⟩
 | i::l,s,acc,h=>by
  simp only [wpSuf] at h;split at h<;>first|exact h.elim|skip
  rename_i o ho;rw [List.map_cons,getD_of ho];split at h
  ·rename_i hg
   exact wpO_ok hX (by unfold wantD;rw [hg]) (fun acc d H n h=>wpSuf_ok hX hK h) h
  ·split at h<;>first|exact h.elim|skip
   rename_i b hb;obtain ⟨h0,h⟩:=h;cases b with
   | true=>exact ⟨h0,(wpO_ok hX hb (fun acc d H n h=>wpSuf_ok hX hK h) h).2⟩
   | false=>exact ⟨h0,OkL.skip hb (wpSuf_ok hX hK h).2⟩
def wpWr (X:EV)(kb:Nat)(e:Ent)(n:Nat)(g:Operand→D)(op:Op)(acc:Prop)(k:Prop→D→Ent→Prop):Prop:=match op with
 | .store _ _ _=>match evS X.tt [e] g op with
  | some (_,e',p)=>k (p∧acc) (.prim (.tuple #[])) e'
  | none=>False
 | _=>match evA X.tt [e] n kb g op with
  | some (d,[e'],p)=>k (p∧acc) d e'
  | _=>False
def wpPreW (C:Ctx)(X:EV)(kb:Nat)(ops:Array Oper)(iw:Nat)(ia:Option Nat)(R:Hp)(clo:List Nat)(n:Nat):List Nat→Env→Hp→Option Ent→Option Ent→Prop→(Prop→Env→Hp→Ent→Ent→Prop)→Prop
 | [],env,N,some e,some e',acc,K=>K acc env N e e'
 | [],_,_,_,_,_,_=>False
 | i::l,env,N,accE,acc',acc,K=>match nthO ops.toList i with
  | some o=>match Nat.beq i iw with
   | true=>match acc' with
    | some _=>False
    | none=>match accE with
     | some e=>match o.guard with
      | none=>wpWr X (kb+i) e (n+i) (gOpd env) o.op acc fun acc d e'=>wpPreW C X kb ops iw ia R clo n l (putE env o.dst d) N accE (some e') acc K
      | some _=>False
     | none=>False
   | false=>match isIa ia i with
    | true=>match accE with
     | some _=>False
     | none=>match o.guard with
      | none=>wpE C X (kb+i) (gOpd env) R (n+i) o.op acc fun acc d ne=>match ne with
       | some e=>wpPreW C X kb ops iw ia R clo n l (putE env o.dst d) N (some e) acc' acc K
       | none=>False
      | some _=>False
    | false=>match o.guard with
     | none=>wpE C X (kb+i) (gOpd env) (hview ia accE R (memB i clo)) (n+i) o.op acc fun acc d ne=>wpPreW C X kb ops iw ia R clo n l (putE env o.dst d) (putH ne N) accE acc' acc K
     | some _=>match wantD ops env o with
      | some b=>acc∧brB b (wpE C X (kb+i) (gOpd env) (hview ia accE R (memB i clo)) (n+i) o.op True fun acc d ne=>wpPreW C X kb ops iw ia R clo n l (putE env o.dst d) (putH ne N) accE acc' acc K)
        (wpPreW C X kb ops iw ia R clo n l (putE env o.dst (.prim (.tuple #[]))) N accE acc' True K)
      | none=>False
  | none=>False
theorem wpWr_ok (hX:WOk C X){kb iw:Nat}{ia:Option Nat}{R:Hp}{e:Ent}{n:Nat}{env:Env}{o:Oper}{acc:Prop}{k:Prop→D→Ent→Prop}(hw:wantD ops env o=some true)(hk:∀ acc d e',k acc d e'→acc)(h:wpWr X kb e n (gOpd env) o.op acc k) :
  acc∧∃ acc' d e',SteadyW C F ops ⟨iw,ia,e,e',R⟩ n env o d∧k acc' d e':=by
 unfold wpWr at h;split at h
 ·split at h<;>first|exact h.elim|skip
  rename_i e' p he
  have:=hk _ _ _ h
  exact ⟨this.2,_,_,_,SteadyW.store (W:=⟨iw,ia,e,e',R⟩) hX.tt hw he this.1,h⟩
 ·split at h<;>first|exact h.elim|skip
  rename_i d e' p he
  have:=hk _ _ _ h
  exact ⟨this.2,_,_,_,SteadyW.app (W:=⟨iw,ia,e,e',R⟩) kb hX.tt hw he this.1,h⟩
theorem wpPreW_ok (hX:WOk C X){kb iw:Nat}{ia:Option Nat}{R:Hp}{clo:List Nat}{n:Nat}(hwa:ia≠some iw)(hclo:∀ j∈clo,Reach ops iw j){K:Prop→Env→Hp→Ent→Ent→Prop}(hK:∀ acc env N e e',K acc env N e e'→acc) :
  ∀ {l:List Nat} {env:Env} {N:Hp} {accE acc':Option Ent} {acc:Prop},wpPreW C X kb ops iw ia R clo n l env N accE acc' acc K →
  acc∧∃ q env' N' e e',(∀ a,accE=some a→e=a)∧(∀ a,acc'=some a→e'=a)∧DTrW C F ops ⟨iw,ia,e,e',R⟩ n l env N env' N'∧K q env' N' e e'
 | [],env,N,accE,acc',acc,h=>by
  cases accE with
  | none=>simp only [wpPreW] at h
  | some e=>cases acc' with
   | none=>simp only [wpPreW] at h
   | some e' =>
    simp only [wpPreW] at h;exact ⟨hK _ _ _ _ _ h,_,_,_,e,e',fun a ha=>by cases ha;rfl,fun a ha=>by cases ha;rfl,.nil _ _,h⟩
 | i::l,env,N,accE,acc',acc,h=>by
  simp only [wpPreW] at h;split at h<;>first|exact h.elim|skip
  rename_i o ho;have ho:=nthO_arr ho;split at h
  ·rename_i hb
   have hb:=Nat.eq_of_beq_eq_true hb;split at h<;>first|exact h.elim|skip
   split at h<;>first|exact h.elim|skip
   rename_i e0;split at h<;>first|exact h.elim|skip
   rename_i hg;have hw:wantD ops env o=some true:=by unfold wantD;rw [hg]
   obtain ⟨h1,acc1,d,e1,h2,h3⟩:=wpWr_ok (F:=F) (iw:=iw) (ia:=ia) (R:=R) hX hw (fun acc d e' h=>(wpPreW_ok hX hwa hclo hK h).1) h;obtain ⟨_,q,env',N',e,e',h4,h5,h6,h7⟩:=wpPreW_ok hX hwa hclo hK h3
   have:=h4 _ rfl
   subst this
   have:=h5 _ rfl
   subst this;exact ⟨h1,q,env',N',_,_,h4,by simp,.cons (ne:=none) ho (.inr (.inl ⟨hb,by rw [hb];exact hwa,rfl,h2⟩)) h6,h7⟩
  ·rename_i hb
   have hne:i≠iw:=fun hi=>by rw [hi,Nat.beq_refl] at hb;cases hb
   split at h
   ·rename_i hi
    have hi:=isIa_iff.1 hi;split at h<;>first|exact h.elim|skip
    split at h<;>first|exact h.elim|skip
    rename_i hg;have hw:wantD ops env o=some true:=by unfold wantD;rw [hg]
    obtain ⟨h1,acc1,d,ne,h2,h3⟩:=wpE_ok (F:=F) hX hw (fun acc d ne h=>by
     split at h
     ·exact (wpPreW_ok hX hwa hclo hK h).1
     ·exact h.elim) h
    split at h3<;>first|exact h3.elim|skip
    rename_i e0;obtain ⟨_,q,env',N',e,e',h4,h5,h6,h7⟩:=wpPreW_ok hX hwa hclo hK h3
    have:=h4 _ rfl
    subst this;exact ⟨h1,q,env',N',_,_,by simp,h5,.cons (ne:=none) ho (.inr (.inr ⟨hne,hi,rfl,h2⟩)) h6,h7⟩
   ·rename_i hi
    have hi:ia≠some i:=fun h=>by rw [isIa_iff.2 h] at hi;cases hi
    have st:∀ {e:Ent} {d:D} {ne:Option Ent} (e':Ent),(∀ a,accE=some a→e=a)→Steady C F ops (hview ia accE R (memB i clo)) (n+i) env o d ne→StOr C F ops ⟨iw,ia,e,e',R⟩ (n+i) env ⟨i,o,d,ne⟩:=fun {e d ne} e' hacc hst=>by
     refine .inl ⟨hne,hi,?_⟩;unfold hview at hst;cases ia with
     | some ia=>exact .inr hst
     | none =>
      cases accE with
      | none=>exact .inr hst
      | some a =>
       have:=hacc a rfl
       subst this;dsimp only at hst;cases hm:memB i clo with
       | true=>rw [hm] at hst;exact .inl ⟨rfl,hclo i (memB_iff.1 hm),hst⟩
       | false=>rw [hm] at hst;exact .inr hst
    have step:∀ acc,wantD ops env o=some true→(wpE C X (kb+i) (gOpd env) (hview ia accE R (memB i clo)) (n+i) o.op acc fun acc d ne=>wpPreW C X kb ops iw ia R clo n l (putE env o.dst d) (putH ne N) accE acc' acc K) →
      acc∧∃ q env' N' e e',(∀ a,accE=some a→e=a)∧(∀ a,acc'=some a→e'=a)∧DTrW C F ops ⟨iw,ia,e,e',R⟩ n (i::l) env N env' N'∧K q env' N' e e':=fun acc hw h=>by
     obtain ⟨h1,acc1,d,ne,h2,h3⟩:=wpE_ok (F:=F) hX hw (fun acc d ne h=>(wpPreW_ok hX hwa hclo hK h).1) h;obtain ⟨_,q,env',N',e,e',h4,h5,h6,h7⟩:=wpPreW_ok hX hwa hclo hK h3;exact ⟨h1,q,env',N',e,e',h4,h5,.cons ho (st e' h4 h2) h6,h7⟩
    split at h
    ·rename_i hg
     exact step _ (by unfold wantD;rw [hg]) h
    ·split at h<;>first|exact h.elim|skip
     rename_i b hb;obtain ⟨h0,h⟩:=h;cases b with
     | true=>exact ⟨h0,(step _ hb h).2⟩
     | false =>
      obtain ⟨_,q,env',N',e,e',h4,h5,h6,h7⟩:=wpPreW_ok hX hwa hclo hK h;exact ⟨h0,q,env',N',e,e',h4,h5,.cons (ne:=none) ho (st e' h4 (Steady.skip hb)) h6,h7⟩
structure Fle (C:Ctx)(F F':Fra):Prop where
 nt:F'.nt=F.nt
 sz:F.w0.heap.size≤F'.w0.heap.size
 mem:∀ {ρ:Lk} {H:Hp} {w:World},Mem C F' ρ H w→Mem C F ρ H w
 X:∀ b,F.X b→F'.X b
 df:∃ ms:List Deferred,F'.df=ms++F.df∧(∃ rs:List Nat,ms=rs.map (fun r=>{ target:=.collected r,args:=#[] })∧rs.Nodup ∧
  ∀ r∈rs,F.w0.heap.size≤r∧r<F'.w0.heap.size∧F'.X r∧∀ (ρ:Lk) (H:Hp) (w:World),Mem C F' ρ H w→w.heap[r]? = some (.deferred (some [])))
theorem Fle.refl (F:Fra):Fle C F F:=⟨rfl,Nat.le_refl _,fun h=>h,fun _ h=>h,[],rfl,[],rfl,.nil,by simp⟩
theorem Fle.trans {F F' F'':Fra}(h:Fle C F F')(k:Fle C F' F''):Fle C F F'':=by
 obtain ⟨h1,h2,h3,h4,ms,e1,rs,e2,n1,q1⟩:=h;obtain ⟨k1,k2,k3,k4,ms',e1',rs',e2',n1',q1'⟩:=k;refine ⟨k1.trans h1,Nat.le_trans h2 k2,fun h=>h3 (k3 h),fun b hb=>k4 b (h4 b hb),ms'++ms,by rw [e1',e1,List.append_assoc],rs'++rs,by rw [e2,e2',List.map_append],?_,?_⟩
 ·refine List.nodup_append.2 ⟨n1',n1,fun x hx y hy he=>?_⟩
  have:=(q1' x hx).1
  have:=(q1 y hy).2.1
  omega
 ·intro r hr
  rcases List.mem_append.1 hr with hr|hr
  ·obtain ⟨x1,x2,x3,x4⟩:=q1' r hr
   exact ⟨by omega,x2,x3,x4⟩
  ·obtain ⟨x1,x2,x3,x4⟩:=q1 r hr
   exact ⟨x1,by omega,k4 _ x3,fun ρ H w m=>x4 ρ H w (k3 m)⟩
def PostF (C:Ctx)(F:Fra)(Q:Exit→Fra→St→Prop):Exit→Act→World→Prop:=fun e a w=>∃ F' s' ρ',Fle C F F'∧Q e F' s'∧Sat C F' ρ' s' a w
theorem PostF.up {F F':Fra}{Q:Exit→Fra→St→Prop}(h:Fle C F F'){e:Exit}{a:Act}{w:World}:PostF C F' Q e a w→PostF C F Q e a w:=fun ⟨F2,s',ρ',h1,h2,h3⟩=>⟨F2,s',ρ',h.trans h1,h2,h3⟩
structure OkS (C:Ctx)(B:Fra)(rd:Option Nat)(F:Fra)(c:Code)(s:St)(Q:Exit→Fra→St→Prop):Prop where
 out:Fle C B F→codeDst B.nt c=true→∀ (ρ:Lk) (a:Act) (w:World),Sat C F ρ s a w→c.wpIn (fw rd) 0 C.P (PostF C B Q) a w
variable {s:St} {rd:Option Nat} {B:Fra} {Q:Exit→Fra→St→Prop}
theorem OkS.mono {c:Code}{Q':Exit→Fra→St→Prop}(h:OkS C B rd F c s Q)(hq:∀ e F s,Q e F s→Q' e F s):OkS C B rd F c s Q' :=
 ⟨fun hB hd ρ a w hs=>wpIn_mono (h.out hB hd ρ a w hs) fun e a w ⟨F',s',ρ',h1,h2,h3⟩=>⟨F',s',ρ',h1,hq _ _ _ h2,h3⟩⟩
theorem OkS.skip (h:Q .normal F s):OkS C B rd F .skip s Q:=⟨fun hB _ ρ _ _ hs=>wpIn_skip ⟨F,s,ρ,hB,h,hs⟩⟩
theorem OkS.ret (h:Q .ret F s):OkS C B rd F .ret s Q:=⟨fun hB _ ρ _ _ hs=>wpIn_ret ⟨F,s,ρ,hB,h,hs⟩⟩
theorem OkS.exit {i:Nat}(h:Q (.exit i) F s):OkS C B rd F (.exit i) s Q:=⟨fun hB _ ρ _ _ hs=>wpIn_exit ⟨F,s,ρ,hB,h,hs⟩⟩
def nextB (n:Prop)(r:Exit→Prop)(e:Exit):Prop:=match e with
 | .normal=>n
 | .ret=>r .ret
 | .exit j=>r (.exit j)
 | .goto l=>r (.goto l)
 | .panic c=>r (.panic c)
 | .outgrown=>r .outgrown
theorem codeDst_seq {nt:Nat}{a b:Code}(h:codeDst nt (.seq a b)=true):codeDst nt a=true∧codeDst nt b=true:=by simpa [codeDst] using h
theorem OkS.seq {a b:Code}(h:OkS C B rd F a s (fun e F s=>nextB (OkS C B rd F b s Q) (fun e=>Q e F s) e)):OkS C B rd F (.seq a b) s Q :=
 ⟨fun hB hd ρ x w hs=>by
  obtain ⟨d1,d2⟩:=codeDst_seq hd;refine wpIn_seq (wpIn_mono (h.out hB d1 ρ x w hs) ?_);rintro e a' w' ⟨F',s',ρ',h1,h2,h3⟩;cases e with
  | normal=>exact (show OkS C B rd F' b s' Q from h2).out h1 d2 ρ' a' w' h3
  | ret=>exact ⟨F',s',ρ',h1,h2,h3⟩
  | exit j=>exact ⟨F',s',ρ',h1,h2,h3⟩
  | goto l=>exact ⟨F',s',ρ',h1,h2,h3⟩
  | panic c=>exact ⟨F',s',ρ',h1,h2,h3⟩
  | outgrown=>exact ⟨F',s',ρ',h1,h2,h3⟩⟩
def wpCond (d:D)(y n:Prop):Prop:=match d with
 | .prim (.bool b)=>brB b y n
 | _=>False
theorem OkS.cond {c:Operand}{a b:Code}(h:wpCond (gOpd s.env c) (OkS C B rd F a s Q) (OkS C B rd F b s Q)):OkS C B rd F (.cond c a b) s Q:=by
 unfold wpCond at h;split at h
 ·rename_i t ht
  refine ⟨fun hB hd ρ x w hs=>?_⟩;simp only [codeDst,Bool.and_eq_true] at hd;have hc:x.eval c=.bool t:=by
   have:=gOpd_rep hs.env c
   rw [ht] at this;generalize x.eval c=v at this;cases this;rfl
  refine wpIn_cond_split hc (fun ht=>?_) fun ht=>?_
  ·subst ht;exact OkS.out h hB hd.1 ρ x w hs
  ·subst ht;exact OkS.out h hB hd.2 ρ x w hs
 ·exact h.elim
def exitB (i:Nat)(n:Prop)(r:Exit→Prop)(e:Exit):Prop:=match e with
 | .exit j=>bif Nat.beq j i then n else r (.exit j)
 | .normal=>r .normal
 | .ret=>r .ret
 | .goto l=>r (.goto l)
 | .panic c=>r (.panic c)
 | .outgrown=>r .outgrown
theorem OkS.block {i:Nat}{b:Code}(h:OkS C B rd F b s (fun e F s=>exitB i (Q .normal F s) (fun e=>Q e F s) e)):OkS C B rd F (.block i b) s Q :=
 ⟨fun hB hd ρ x w hs=>by
  refine wpIn_block (wpIn_mono (h.out hB (by simpa [codeDst] using hd) ρ x w hs) ?_);rintro e a' w' ⟨F',s',ρ',h1,h2,h3⟩;cases e with
  | normal=>exact ⟨F',s',ρ',h1,h2,h3⟩
  | ret=>exact ⟨F',s',ρ',h1,h2,h3⟩
  | exit j =>
   simp only [exitB] at h2;simp only [Exit.inBlock];cases hb:Nat.beq j i with
   | true=>rw [hb] at h2;rw [if_pos (Nat.eq_of_beq_eq_true hb)];exact ⟨F',s',ρ',h1,h2,h3⟩
   | false=>rw [hb] at h2;rw [if_neg (fun hj=>by rw [hj,Nat.beq_refl] at hb;cases hb)];exact ⟨F',s',ρ',h1,h2,h3⟩
  | goto l=>exact ⟨F',s',ρ',h1,h2,h3⟩
  | panic c=>exact ⟨F',s',ρ',h1,h2,h3⟩
  | outgrown=>exact ⟨F',s',ρ',h1,h2,h3⟩⟩
def isDefer:Op→Bool
 | .defer _=>true
 | _=>false
def noDef:List Oper→Bool
 | []=>true
 | o::l=>match isDefer o.op with
  | true=>false
  | false=>noDef l
theorem noDef_ok {l:List Oper}(h:noDef l=true):∀ o∈l,∀ c,o.op≠.defer c:=by
 induction l with
 | nil=>intro o ho;cases ho
 | cons o l ih =>
  intro o' ho c hc;have h1:isDefer o.op=false∧noDef l=true:=by
   rw [noDef] at h;generalize isDefer o.op=b at h ⊢;cases b with
   | true=>cases h
   | false=>exact ⟨rfl,h⟩
  rcases List.mem_cons.1 ho with h2|h2
  ·rw [← h2,hc] at h1;cases h1.1
  ·exact ih h1.2 o' h2 c hc
theorem noDef_at (h:noDef ops.toList=true):∀ (i:Nat) (o:Oper),ops[i]? = some o→∀ c,o.op≠.defer c:=fun i o ho=>noDef_ok h o (Array.mem_toList_iff.2 (Array.mem_of_getElem? ho))
theorem OkL.run {K:St→Prop}{l:List Nat}(h:OkL C F ops (l.map fun j=>ops.getD j default) s K)(hlt:∀ j∈l,j<ops.size)(hd:ops.toList.all (dstOk F.nt)=true){ρ:Lk}{a:Act}{w:World}(hs:Sat C F ρ s a w):wpOps C.P ops (Fin C F K) l a w:=by
 refine h ?_ l ?_ ρ a w hs
 ·rw [List.all_eq_true]
  intro o' ho';obtain ⟨j,hj,rfl⟩:=List.mem_map.1 ho';refine List.all_eq_true.1 hd _ ?_;rw [Array.getD_eq_getD_getElem?,Array.getElem?_eq_getElem (hlt j hj)];simp
 ·rw [List.map_map]
  refine List.map_congr_left fun j hj=>?_
  simp [Array.getD_eq_getD_getElem?,Array.getElem?_eq_getElem (hlt j hj)]
theorem fin_post {K:St→Prop}(hB:Fle C B F)(hK:∀ s,K s→Q .normal F s){e:Exit}{a:Act}{w:World}(h:Fin C F K e a w):e=.normal∧PostF C B Q .normal a w:=by
 obtain ⟨h0,s',ρ',h1,h2⟩:=h;exact ⟨h0,F,s',ρ',hB,hK _ h1,h2⟩
theorem dst_reg {i:Nat}{d:Bool}(hB:Fle C B F)(h:codeDst B.nt (.region i ops d)=true):ops.toList.all (dstOk F.nt)=true:=by rw [hB.nt];exact h
theorem OkS.reg {i:Nat}(hX:WOk C X)(kb:Nat)(hnd:noDef ops.toList=true)(h:wpSuf C X kb ops (List.range ops.size) s True fun acc s=>acc∧Q .normal F s):OkS C B rd F (.region i ops false) s Q:=by
 refine ⟨fun hB hd ρ a w hs=>wpIn_region ?_⟩;have hd:=dst_reg hB hd;have h1:=(wpSuf_ok (F:=F) (K':=Q .normal F) hX (fun acc s h=>h) h).2.run (fun j hj=>List.mem_range.1 hj) hd hs
 have:=wpOps_in (rd:=rd) (Q:=PostF C B Q) (l2:=[]) (fun _ _ _ h=>fin_post hB (fun _ h=>h) h) (noDef_at hnd) _ a w h1
 rwa [List.append_nil] at this
theorem OkS.regD {i:Nat}(hX:WOk C X)(kb:Nat)(pre suf:List Nat)(hc:(chkD ops pre suf&&noDef ops.toList)=true)
  (h:wpPre C X kb ops s.H s.n pre s.env [] True fun acc env N=>wpSuf C X kb ops suf ⟨env,N++s.H,s.n+lenO ops.toList⟩ acc fun acc s=>acc∧Q .normal F s):OkS C B rd F (.region i ops true) s Q:=by
 have hsz:ops.size=lenO ops.toList:=by rw [lenO_eq,Array.length_toList]
 rw [← hsz] at h;simp only [Bool.and_eq_true] at hc;obtain ⟨_,acc,env,N,h1,h2⟩:=wpPre_acc (F:=F) hX (fun acc env N h=>(wpSuf_ok (F:=F) (K':=Q .normal F) hX (fun acc s h=>h) h).1) h;refine ⟨fun hB hd ρ a w hs=>?_⟩;have hd:=dst_reg hB hd;refine drawI hX.mixed hc.1 h1 (fun hlt ρ a w hs=>?_) hd ρ a w hs;have h3:=(wpSuf_ok (F:=F) (K':=Q .normal F) hX (fun acc s h=>h) h2).2.run hlt hd hs
 have:=wpOps_in (rd:=rd) (Q:=PostF C B Q) (l2:=[]) (fun _ _ _ h=>fin_post hB (fun _ h=>h) h) (noDef_at hc.2) _ a w h3
 rwa [List.append_nil] at this
def withE (H:Hp)(k:Nat)(K:Ent→Hp→Prop):Prop:=match Hp.get H k with
 | some e=>K e (Hp.del H k)
 | none=>False
theorem drawW_in {i:Nat}{W:WR}{pre suf:List Nat}{envF:Env}{N:Hp}(hm:C.P.follows .mixedOrders=true)(hc:chkD ops pre suf=true)(hnd:noDef ops.toList=true)
  (hH:s.H.Perm W.start) (hga:∀ ia,W.ia=some ia→W.e.g=s.n+ia∧Reach ops W.iw ia∧ia∈pre) (hiw:W.iw∈pre) (hwg:W.e'.g=W.e.g∨W.e'.g=s.n+W.iw)
  (hpre:DTrW C F ops W s.n pre s.env [] envF N)
  (h:OkL C F ops (suf.map fun j=>ops.getD j default) ⟨envF,N++W.e'::W.R,s.n+ops.size⟩ (Q .normal F)):OkS C B rd F (.region i ops true) s Q :=
 ⟨fun hB hd ρ a w hs=>wpIn_region_any hm (wpAny_in (fun _ _ _ h=>fin_post (F:=F) hB (fun _ h=>h) h) (noDef_at hnd) _ _ _ _ (Ok.drawWA (Q:=fun e s=>Q e F s) hc hH hga hiw hwg hpre h (dst_reg hB hd) ρ a w hs))⟩
theorem OkL.perm {os:List Oper}{env:Env}{H H':Hp}{n:Nat}{K:St→Prop}(hp:H.Perm H')(h:OkL C F ops os ⟨env,H,n⟩ K):OkL C F ops os ⟨env,H',n⟩ K:=fun hd l hl ρ a w hs =>
 h hd l hl ρ a w ⟨hs.mem.perm hp.symm,hs.fresh,fun e he=>hs.gen e (hp.mem_iff.1 he),fun t=>by
  show Rep ρ (Own F.X ρ H) w _ _;rw [Own.perm hp];exact hs.env t,hs.nt,hs.dfr⟩
theorem OkS.regW {i:Nat}(hX:WOk C X)(kb:Nat)(pre suf:List Nat)(iw:Nat)(clo:List Nat)(k:Nat)(hc:(chkD ops pre suf&&noDef ops.toList)=true)(hcl:(memB iw pre&&allMem clo (look2 (cloT ops (pre++suf) []) iw))=true)
  (h:withE s.H k fun e R=>wpPreW C X kb ops iw none R clo s.n pre s.env [] (some e) none True fun acc env N e e'=>(e'.g=e.g∨e'.g=s.n+iw)∧wpSuf C X kb ops suf ⟨env,N++Hp.set s.H k e',s.n+lenO ops.toList⟩ acc fun acc s=>acc∧Q .normal F s) :
  OkS C B rd F (.region i ops true) s Q:=by
 have hsz:ops.size=lenO ops.toList:=by rw [lenO_eq,Array.length_toList]
 rw [← hsz] at h;unfold withE at h;split at h<;>first|exact h.elim|skip
 rename_i e0 he0;simp only [Bool.and_eq_true] at hcl hc;have hclo:∀ j∈clo,Reach ops iw j:=fun j hj=>look2_reach (cloT_reach _ _ (by simp)) _ _ (allMem_iff.1 hcl.2 j hj)
 obtain ⟨_,q,env,N,e,e',h1,h2,h3,h4,h5⟩:=wpPreW_ok (F:=F) hX (by simp) hclo (fun acc env N e e' h=>(wpSuf_ok (F:=F) (K':=Q .normal F) hX (fun acc s h=>h) h.2).1) h
 have:=h1 _ rfl
 subst this;obtain ⟨H1,H2,q1,_,q3⟩:=Hp.set_split e he0;obtain ⟨H1',H2',q1',q2',q3'⟩:=Hp.set_split e' he0;refine drawW_in (W:=⟨iw,none,e,e',Hp.del s.H k⟩) hX.mixed hc.1 hc.2 ?_ (by simp) (memB_iff.1 hcl.1) h4 h3 (OkL.perm ?_ (wpSuf_ok (F:=F) hX (fun acc s h=>h) h5).2)
 ·rw [q3];unfold WR.start
  dsimp only;rw [q1];exact List.perm_middle
 ·rw [q2',q3']
  exact List.Perm.append_left _ List.perm_middle
theorem OkS.regWa {i:Nat}(hX:WOk C X)(kb:Nat)(pre suf:List Nat)(iw ia:Nat)(clo:List Nat)(hc:(chkD ops pre suf&&noDef ops.toList)=true)(hcl:(memB iw pre&&memB ia pre&&memB ia clo && !(Nat.beq ia iw)&&allMem clo (look2 (cloT ops (pre++suf) []) iw))=true)
  (h:wpPreW C X kb ops iw (some ia) s.H clo s.n pre s.env [] none none True fun acc env N e e'=>(e.g=s.n+ia∧(e'.g=e.g∨e'.g=s.n+iw))∧wpSuf C X kb ops suf ⟨env,N++e'::s.H,s.n+lenO ops.toList⟩ acc fun acc s=>acc∧Q .normal F s) :
  OkS C B rd F (.region i ops true) s Q:=by
 have hsz:ops.size=lenO ops.toList:=by rw [lenO_eq,Array.length_toList]
 rw [← hsz] at h;simp only [Bool.and_eq_true,Bool.not_eq_true'] at hcl hc;obtain ⟨⟨⟨⟨c1,c2⟩,c3⟩,c4⟩,c5⟩:=hcl;have hclo:∀ j∈clo,Reach ops iw j:=fun j hj=>look2_reach (cloT_reach _ _ (by simp)) _ _ (allMem_iff.1 c5 j hj)
 have hne:ia≠iw:=fun h=>by rw [h,Nat.beq_refl] at c4;cases c4
 obtain ⟨_,q,env,N,e,e',h1,h2,h3,⟨h4,h6⟩,h5⟩:=wpPreW_ok (F:=F) hX (fun h=>hne (by simpa using h)) hclo (fun acc env N e e' h=>(wpSuf_ok (F:=F) (K':=Q .normal F) hX (fun acc s h=>h) h.2).1) h;exact drawW_in (W:=⟨iw,some ia,e,e',s.H⟩) hX.mixed hc.1 hc.2 (List.Perm.refl _) (fun j hj=>by cases hj;exact ⟨h4,hclo ia (memB_iff.1 c3),memB_iff.1 c2⟩) (memB_iff.1 c1) h6 h3 (wpSuf_ok (F:=F) hX (fun acc s h=>h) h5).2
structure Wk (s s':St):Prop where
 h:FzH s.H s'.H s.H s'.H
 e:EnvFz s.H s'.H s.env s'.env
 n:s.n≤s'.n
theorem OkS.weak {c:Code}(s':St)(h:Wk s s')(hk:OkS C B rd F c s' Q):OkS C B rd F c s Q:=⟨fun hB hd ρ a w hs=>hk.out hB hd ρ a w (hs.weak h.h h.e h.n)⟩
theorem wpIn_loop_at {Fe:Fence}{n:Nat}{P:Program}{c:Code}{Q:Exit→Act→World→Prop}(I:Nat→Act→World→Prop){m:Nat}{a:Act}{w:World}(h₀:I m a w)
  (round:∀ m a w,I m a w→c.wpIn Fe n P (Exit.then (fun a' w'=>∃ m',m'<m∧I m' a' w') Q) a w):(Code.loop c).wpIn Fe n P Q a w:=by
 intro b k cs hro hb hr;have key:∀ m a w,I m a w→∃ e a' w',Q e a' w'∧ArrivesIn (Machine.fenced P Fe) P (lone (b.atR a (.code c::.inLoop c::k)) cs w) b k cs e a' w':=by
  intro m
  induction m using Nat.strongRecOn with
  | _ m ih =>
   intro a w hI;obtain ⟨e,a₁,w₁,hq,harr⟩:=round m a w hI b (.inLoop c::k) cs hro hb hr;cases e with
   | normal =>
    obtain ⟨m',hlt,hI₁⟩:=hq;obtain ⟨e₂,a₂,w₂,hq₂,harr₂⟩:=ih m' hlt a₁ w₁ hI₁;exact ⟨e₂,a₂,w₂,hq₂,.of_steps (StepsIn.trans harr (.one (fenced_calm hb hr rfl) stepR_inLoop)) harr₂⟩
   | exit id=>exact ⟨_,a₁,w₁,hq,.pass (x:=.inLoop c) rfl (fun _ _=>.inl (by simp)) harr⟩
   | goto l=>exact ⟨_,a₁,w₁,hq,.pass (x:=.inLoop c) rfl (fun _ _=>.inl (by simp)) harr⟩
   | ret=>exact ⟨_,a₁,w₁,hq,.pass (x:=.inLoop c) rfl (fun _ _=>.inl (by simp)) harr⟩
   | panic ch=>exact ⟨_,a₁,w₁,hq,.pass (x:=.inLoop c) rfl (fun _ _=>.inl (by simp)) harr⟩
   | outgrown=>exact ⟨_,a₁,w₁,hq,.pass (x:=.inLoop c) rfl (fun _ _=>.inl (by simp)) harr⟩
 obtain ⟨e,a',w',hq,harr⟩:=key _ a w h₀;exact ⟨e,a',w',hq,.of_steps (.one (fenced_calm hb hr rfl) stepR_loop) harr⟩
theorem OkS.loopF {b:Code}{α:Type}(sh:α→St)(μ:α→Nat)(J:α→Fra→Prop)(a0:α)(h0:J a0 F)(hs:Wk s (sh a0))
  (h:∀ a F',J a F'→OkS C B rd F' b (sh a) (fun e F' s'=>nextB (∃ a',J a' F'∧μ a'<μ a∧Wk s' (sh a')) (fun e=>Q e F' s') e)):OkS C B rd F (.loop b) s Q:=by
 refine ⟨fun hB hd ρ x w hsat=>?_⟩;have hd':codeDst B.nt b=true:=by simpa [codeDst] using hd
 refine wpIn_loop_at (fun m x w=>∃ (F':Fra) (a:α) (s1:St) (ρ:Lk),μ a=m∧Fle C B F'∧J a F'∧Wk s1 (sh a)∧Sat C F' ρ s1 x w) ⟨F,a0,s,ρ,rfl,hB,h0,hs,hsat⟩ ?_;rintro m x w ⟨F',a,s1,ρ,hm,hF,ha,hw,hsat⟩;refine wpIn_mono ((h a F' ha).out hF hd' ρ x w (hsat.weak hw.h hw.e hw.n)) ?_;rintro e a' w' ⟨F2,s2,ρ2,h1,h2,h3⟩;cases e with
 | normal =>
  obtain ⟨a2,q1,q2,q3⟩:=(show ∃ a',J a' F2∧μ a'<μ a∧Wk s2 (sh a') from h2)
  exact ⟨μ a2,hm ▸ q2,F2,a2,s2,ρ2,rfl,h1,q1,q3,h3⟩
 | ret=>exact ⟨F2,s2,ρ2,h1,h2,h3⟩
 | exit j=>exact ⟨F2,s2,ρ2,h1,h2,h3⟩
 | goto l=>exact ⟨F2,s2,ρ2,h1,h2,h3⟩
 | panic c=>exact ⟨F2,s2,ρ2,h1,h2,h3⟩
 | outgrown=>exact ⟨F2,s2,ρ2,h1,h2,h3⟩
theorem OkS.loop {b:Code}{α:Type}(sh:α→St)(μ:α→Nat)(J:α→Prop)(a0:α)(h0:J a0)(hs:Wk s (sh a0))
  (h:∀ a F',J a→OkS C B rd F' b (sh a) (fun e F' s'=>nextB (∃ a',J a'∧μ a'<μ a∧Wk s' (sh a')) (fun e=>Q e F' s') e)):OkS C B rd F (.loop b) s Q :=
 OkS.loopF sh μ (fun a _=>J a) a0 h0 hs h
abbrev i64 (z:Int):D:=.prim (.int .i64 z)
abbrev u64 (z:Int):D:=.prim (.int .u64 z)
abbrev str (s:ByteArray):D:=.prim (.string s)
abbrev boo (b:Bool):D:=.prim (.bool b)
abbrev nilS:D:=.prim (.slice none 0 0)
theorem exact_res {H:Hp}{d0 d:D}(hd:d0=d)(hp:Pure d0):∃ d',Fz H [] d0 d'∧Pure d'∧d'=d:=⟨d0,.refl _,hp,hd⟩
theorem FzL.refl {H Hf:Hp}:∀ ds:List D,FzL H Hf ds ds
 | []=>trivial
 | _::l=>⟨.refl _,FzL.refl l⟩
theorem CallW.same {C:Ctx}{f:Nat}{ds:List D}{k:D→Prop}(d:D)(hc:ICalls C f ds d)(hp:ArePure ds)(hk:k d):CallW C f ds k:=.mk ds d (FzL.refl _) hc hp hk
theorem CallO.same {C:Ctx}{f:Nat}{ds:List D}{H:Hp}{n:Nat}{k:D→Hp→Nat→Prop}(d:D)(hc:ICalls C f ds d)(hp:ArePure ds)(hk:k d H (n+1)):CallO C f ds H n k:=.pure ds d (FzL.refl _) hc hp hk
end
end Go.Ide
namespace Go.Ide
open Go.RowKit
def Fra.subZ (ρ:Lk)(H:Hp)(w:World)(nt:Nat)(X' Z:Nat→Prop)(df:List Deferred):Fra:=⟨w,X',fun b=>(∃ e∈H,ρ e.k e.g=some b)∨Z b,nt,ρ,df⟩
section
variable {C:Ctx} {F:Fra} {ρ:Lk} {H:Hp} {w w1:World} {X' Z:Nat→Prop}
theorem Mem.enterZ (m:Mem C F ρ H w)(x:Ext ρ (Own F.X ρ H) w ρ (Own X' ρ H) w1)(h1:w1.os=w.os)(h2:w1.tape=w.tape)(h3:w1.output=w.output)
  (h4:∀ b,b<w.heap.size→¬ Z b→w1.heap[b]? = w.heap[b]?) (hZo:∀ e∈H,∀ b,ρ e.k e.g=some b→¬ Z b) (hX:∀ b,X' b→b<w1.heap.size) (hXo:∀ e∈H,∀ b,ρ e.k e.g=some b→¬ X' b) (hZ:∀ b,Z b→C.nG≤b) (nt:Nat) (df:List Deferred) :
  Mem C (Fra.subZ ρ H w1 nt X' Z df) ρ H w1 where
 hok:=⟨fun e he=>by
  rcases m.hok.ent e he with h|⟨b,cs,a1,a2,a3⟩
  ·exact .inl h
  ·exact .inr ⟨b,cs,a1,by rw [h4 b (m.lt he a1) (hZo e he b a1)];exact a2,a3.mono x⟩,m.hok.inj,fun e he b hb=>⟨hXo e he b hb,.inr (.inl ⟨e,he,hb⟩)⟩⟩
 os:=rfl
 tape:=rfl
 output:=rfl
 size:=Nat.le_refl _
 blk:=fun _ _ _=>rfl
 xlt:=hX
 g0:=C.hG _ _ m.g ⟨h1,h2,h3,x.size,fun b hb=>h4 b (Nat.lt_of_lt_of_le hb (Nat.le_trans m.gn m.size)) fun hz=>absurd (hZ b hz) (by omega)⟩
 gn:=Nat.le_trans m.gn (Nat.le_trans m.size x.size)
 gw:=fun b h=>by
  rcases h with ⟨e,he,hb⟩|h
  ·rcases (m.hok.own e he b hb).2 with h|h
   ·exact Nat.le_trans m.gn h
   ·exact m.gw b h
  ·exact hZ b h
 lnk:=fun _ _ _ h=>h
 shp:=fun _ cs _ _ h=>⟨cs,_,h,rfl⟩
theorem Mem.leaveZ {nt:Nat}{df:List Deferred}{ρ':Lk}{H':Hp}{w':World}(m:Mem C F ρ H w1)(hX:∀ b,F.X b→X' b)(hZ:∀ b,Z b→F.w0.heap.size≤b∨F.Wr b)(m':Mem C (Fra.subZ ρ H w1 nt X' Z df) ρ' H' w') :
  Mem C F ρ' H' w'∧Ext ρ (fun b=>Own F.X ρ H b∨Z b) w1 ρ' (Own F.X ρ' H') w':=by
 have hwr:∀ b,(∃ e∈H,ρ e.k e.g=some b)→¬ F.X b∧(F.w0.heap.size≤b∨F.Wr b):=fun b ⟨e,he,hb⟩=>m.hok.own e he b hb
 have x:Ext ρ (fun b=>Own F.X ρ H b∨Z b) w1 ρ' (Own F.X ρ' H') w':=by
  refine ⟨m'.size,m'.lnk,fun b hb hO=>⟨?_,m'.blk b hb fun h=>?_⟩,m'.shp⟩
  ·rintro (h|⟨e,he,h⟩)
   ·exact hO (.inl (.inl h))
   ·rcases (m'.hok.own e he b h).2 with h'|h'|h'
    ·exact absurd hb (Nat.not_lt.2 h')
    ·exact hO (.inl (.inr h'))
    ·exact hO (.inr h')
  ·rcases h with h|h
   ·exact hO (.inl (.inr h))
   ·exact hO (.inr h)
 refine ⟨⟨⟨fun e he=>?_,m'.hok.inj,fun e he b hb=>?_⟩,m'.os.trans m.os,m'.tape.trans m.tape,m'.output.trans m.output,Nat.le_trans m.size m'.size,fun b hb hw=>?_,m.xlt,m.g0,m.gn,m.gw,
  fun _ _ _ h=>m'.lnk _ _ _ (m.lnk _ _ _ h),shp_ext m.shp x⟩,x⟩
 ·rcases m'.hok.ent e he with h|⟨b,cs,a1,a2,a3⟩
  ·exact .inl h
  ·exact .inr ⟨b,cs,a1,a2,a3.anti fun b hb=>hb.imp (hX b) id⟩
 ·have h:=m'.hok.own e he b hb
  refine ⟨fun hx=>h.1 (hX b hx),?_⟩;rcases h.2 with h'|h'|h'
  ·exact .inl (Nat.le_trans m.size h')
  ·exact (hwr b h').2
  ·exact hZ b h'
 ·have h1:=m'.blk b (Nat.lt_of_lt_of_le hb m.size) fun h=>by
   rcases h with h|h
   ·rcases (hwr b h).2 with h'|h'
    ·omega
    ·exact hw h'
   ·rcases hZ b h with h'|h'
    ·omega
    ·exact hw h'
  exact h1.trans (m.blk b hb hw)
theorem Fle.subZ (m:Mem C F ρ H w1)(hX:∀ b,F.X b→X' b)(hZ:∀ b,Z b→F.w0.heap.size≤b∨F.Wr b)(rs:List Nat)(hn:rs.Nodup)
  (hr:∀ r∈rs,F.w0.heap.size≤r∧r<w1.heap.size∧X' r∧(¬ Z r∧∀ e∈H,ρ e.k e.g≠some r)∧w1.heap[r]? = some (.deferred (some []))) :
  Fle C F (Fra.subZ ρ H w1 F.nt X' Z (rs.map (fun r=>{ target:=.collected r,args:=#[] })++F.df)) :=
 ⟨rfl,m.size,fun h=>(m.leaveZ hX hZ h).1,hX,_,rfl,rs,rfl,hn,fun r hr'=>by
  obtain ⟨a1,a2,a3,⟨a4,a5⟩,a6⟩:=hr r hr';refine ⟨a1,a2,a3,fun ρ' H' w' m'=>?_⟩;have hb:=m'.blk r a2 fun h=>by
   rcases h with ⟨e,he,h⟩|h
   ·exact a5 e he h
   ·exact a4 h
  exact hb.trans a6⟩
def shut (w:World):List Nat→World
 | []=>w
 | r::rs=>shut (w.putObj r (.deferred none)) rs
theorem shut_size:∀ (rs:List Nat) (w:World),(shut w rs).heap.size=w.heap.size
 | [],_=>rfl
 | r::rs,w=>by rw [shut,shut_size rs];simp [World.putObj]
theorem shut_heap:∀ (rs:List Nat) (w:World) (b:Nat),b∉rs→(shut w rs).heap[b]? = w.heap[b]?
 | [],_,_,_=>rfl
 | r::rs,w,b,h=>by
  rw [shut,shut_heap rs _ b (fun hb=>h (by simp [hb])),World.putObj_heap_other (fun hb=>h (by simp [hb]))]
theorem shut_rest:∀ (rs:List Nat) (w:World),(shut w rs).os=w.os∧(shut w rs).tape=w.tape∧(shut w rs).output=w.output
 | [],_=>⟨rfl,rfl,rfl⟩
 | r::rs,w=>by rw [shut];exact shut_rest rs _
theorem leaves_marks {P:Program}{fn:Func}{tmps:Array Value}{R:Ending→World→Prop}:∀ (rs:List Nat) (w:World),rs.Nodup→(∀ r∈rs,w.heap[r]? = some (.deferred (some []))) →
  (∃ v,(results fn tmps).run P (shut w rs)=.ok v (shut w rs)∧R (.returned v) (shut w rs))→LeavesInM (fw none) 0 P fn tmps R (rs.map (fun r=>{ target:=.collected r,args:=#[] })) .returning w
 | [],w,_,_,h=>h
 | r::rs,w,hn,hr,h=>by
  obtain ⟨n1,n2⟩:=List.nodup_cons.1 hn;refine ⟨by simp,.inl ⟨r,_,rfl,run_takeDeferred (hr r (by simp)),leaves_marks rs _ n2 (fun q hq=>?_) h⟩⟩;rw [World.putObj_heap_other (fun hb=>by subst hb;exact n1 hq)];exact hr q (by simp [hq])
theorem Fle.finish {fn:Func}{s:St}{a:Act}{tt:Nat→Option TInfo}{d:D}{p:Prop}{F':Fra}(htt:Tab C.P tt)(hF:Fle C F F')(hd0:F.df=[])(hs:Sat C F' ρ s a w)(h:resD tt s fn.results.toList=some (d,p))(hp:p) :
  ∃ v w',LeavesIn (fw none) 0 C.P fn a.tmps (fun e w2=>e=.returned v∧w2=w') [] .returning w' ∧
   (∀ R:Ending→World→Prop,R (.returned v) w'→LeavesInM (fw none) 0 C.P fn a.tmps R a.defers .returning w) ∧
   Mem C F ρ s.H w'∧Rep ρ (Own F'.X ρ s.H) w' d v∧(∀ b,F.X b→F'.X b)∧Ext ρ (Own F'.X ρ s.H) w ρ (Own F'.X ρ s.H) w' ∧
   (∀ b,b<F.w0.heap.size→w'.heap[b]? = w.heap[b]?)∧w'.heap.size=w.heap.size∧∃ F2,Mem C F2 ρ s.H w'∧F2.X=F'.X:=by
 obtain ⟨ms,e1,rs,e2,hn,hr⟩:=hF.df;rw [hd0,List.append_nil] at e1;have hdf:a.defers=rs.map (fun r=>{ target:=.collected r,args:=#[] }):=by rw [hs.dfr,e1,e2]
 have mF:=hF.mem hs.mem;have hZ:∀ b,b∈rs→F.w0.heap.size≤b∨F.Wr b:=fun b hb=>.inl (hr b hb).1
 have hXr:∀ b,b∈rs→F'.X b:=fun b hb=>(hr b hb).2.2.1
 have hdr:∀ r∈rs,w.heap[r]? = some (.deferred (some [])):=fun r h=>(hr r h).2.2.2 _ _ _ hs.mem
 have hno:∀ e∈s.H,∀ b,ρ e.k e.g=some b→b∉rs:=fun e he b hb hb'=>(hs.mem.hok.own e he b hb).1 (hXr b hb')
 have x:Ext ρ (Own F'.X ρ s.H) w ρ (Own F'.X ρ s.H) (shut w rs):=by
  refine ⟨by rw [shut_size];exact Nat.le_refl _,fun _ _ _ h=>h,fun b hb hO=>⟨hO,shut_heap _ _ _ fun h=>hO (.inl (hXr b h))⟩,fun b cs T fz h=>⟨cs,fz,?_,rfl⟩⟩;rw [shut_heap _ _ _ fun hb=>by rw [hdr b hb] at h;cases h];exact h
 obtain ⟨o1,o2,o3⟩:=shut_rest rs w;have m2:=hs.mem.enterZ (Z:=fun b=>b∈rs) (X':=F'.X) x o1 o2 o3 (fun b _ hb=>shut_heap _ _ _ hb) hno (fun b hb=>by rw [shut_size];exact Nat.lt_of_lt_of_le (hs.mem.xlt b hb) hs.mem.size)
  (fun e he b hb=>(hs.mem.hok.own e he b hb).1) (fun b hb=>Nat.le_trans mF.gn (hr b hb).1) F'.nt F'.df
 have hs2:Sat C (Fra.subZ ρ s.H (shut w rs) F'.nt F'.X (fun b=>b∈rs) F'.df) ρ s a (shut w rs):=⟨m2,hs.fresh,hs.gen,fun t=>(hs.env t).mono x,hs.nt,hs.dfr⟩
 obtain ⟨v,r1,r2⟩:=resD_ok htt hs2 h hp;have mF2:Mem C F ρ s.H (shut w rs):=by
  have mw:Mem C (Fra.subZ ρ s.H w F'.nt F'.X (fun b=>b∈rs) F'.df) ρ s.H w:=hs.mem.enterZ (.refl _ _ _) rfl rfl rfl (fun _ _ _=>rfl) hno (fun b hb=>Nat.lt_of_lt_of_le (hs.mem.xlt b hb) hs.mem.size) (fun e he b hb=>(hs.mem.hok.own e he b hb).1)
   (fun b hb=>Nat.le_trans mF.gn (hr b hb).1) _ _
  refine (mF.leaveZ hF.X hZ (nt:=F'.nt) (df:=F'.df) (ρ':=ρ) (H':=s.H) (w':=shut w rs) ⟨⟨fun e he=>?_,mw.hok.inj,mw.hok.own⟩,o1,o2,o3,by rw [shut_size];exact Nat.le_refl _,fun b hb hw=>shut_heap _ _ _ fun h=>hw (.inr h),mw.xlt,mw.g0,mw.gn,mw.gw,fun _ _ _ h=>h,shp_ext mw.shp x⟩).1;rcases mw.hok.ent e he with h|⟨b,cs,a1,a2,a3⟩
  ·exact .inl h
  ·exact .inr ⟨b,cs,a1,by rw [shut_heap _ _ _ (hno e he b a1)];exact a2,a3.mono x⟩
 refine ⟨v,shut w rs,⟨v,r1,rfl,rfl⟩,fun R hR=>?_,mF2,r2,hF.X,x,fun b hb=>shut_heap _ _ _ fun h=>?_,shut_size _ _,_,m2,rfl⟩
 ·rw [hdf];exact leaves_marks rs w hn hdr ⟨v,r1,hR⟩
 ·have:=(hr b h).1;omega
end
section
variable {C:Ctx} {X:EV}
def wpRes (tt:Nat→Option TInfo)(s:St)(rs:List ResultVar)(k:D→Prop):Prop:=match resD tt s rs with
 | some (d,p)=>p∧k d
 | none=>False
def PostW (tt:Nat→Option TInfo)(rs:List ResultVar)(Φ:D→Prop)(e:Exit)(_:Fra)(s:St):Prop:=match e with
 | .normal | .ret=>wpRes tt s rs fun d0=>∃ d,Fz s.H [] d0 d∧Pure d∧Φ d
 | _=>False
def PostHW (tt:Nat→Option TInfo)(rs:List ResultVar)(Φ:D→Hp→Nat→Prop)(e:Exit)(_:Fra)(s:St):Prop:=match e with
 | .normal | .ret=>wpRes tt s rs fun d=>Φ d s.H s.n
 | _=>False
theorem wpRes_ok {tt:Nat→Option TInfo}{s:St}{rs:List ResultVar}{k:D→Prop}(h:wpRes tt s rs k):∃ d p,resD tt s rs=some (d,p)∧p∧k d:=by
 unfold wpRes at h;split at h
 ·rename_i d p he;exact ⟨d,p,he,h.1,h.2⟩
 ·exact h.elim
theorem ICallP.walk {f:Nat}{i:FI}{args:List D}{Φ:D→Prop}(hX:WOk C X)(hf:FOk C.P f i)(hnt:Nat.ble args.length i.nt=true)
  (h:∀ F:Fra,OkS C F none F i.code ⟨argEnv 0 args,[],0⟩ (PostW X.tt i.res Φ)):ICallP C f args Φ:=by
 obtain ⟨fn,hf,hb,hn,hd,hni,hres⟩:=hf;rw [← hni] at hnt;refine ⟨⟨fn,i.code,hf,hb,hn⟩,fun Y w vs hG hnG hX' hvs hr=>?_⟩;have hnt:=Nat.le_of_ble_eq_true hnt;refine (calls_fw (rd:=none) (n:=0)).1 (callsIn_of_wp_marks hf hb trivial ?_);have hown:∀ b,Own Y nol [] b↔Y b:=by simp [Own]
 have hoe:Own Y nol []=Y:=funext fun b=>propext (hown b)
 let F0:Fra:=⟨w,Y,fun _=>False,fn.ntmps,nol,[]⟩
 have sat:Sat C F0 nol ⟨argEnv 0 args,[],0⟩ { tmps:=vs++Array.replicate (fn.ntmps - vs.size) undef,defers:=[] } w:=by
  refine ⟨⟨⟨by simp,.nil,by simp⟩,rfl,rfl,rfl,Nat.le_refl _,fun _ _ _=>rfl,hX',hG,hnG,by simp [F0],fun _ _ _ h=>h,fun _ cs _ _ h=>⟨cs,_,h,rfl⟩⟩,fun _ _ _=>rfl,by simp,fun t=>?_,by simp [F0];omega,rfl⟩;show Rep nol (Own Y nol []) w _ _;rw [hoe];exact argsRep hvs hr t
 refine wpIn_mono ((h F0).out (.refl F0) hd nol _ w sat) ?_;rintro e a' w' ⟨F',s',ρ',hF,hq,hs'⟩;have key:wpRes X.tt s' i.res (fun d0=>∃ d,Fz s'.H [] d0 d∧Pure d∧Φ d)→LeavesInM (fw none) 0 C.P fn a'.tmps (fun e w'=>∃ v d,e=.returned v∧Below w.heap.size w w'∧Φ d∧Rep nol Y w' d v) a'.defers .returning w':=fun hq=>by
  obtain ⟨d0,p,h1,h2,d,h3,h4,h5⟩:=wpRes_ok hq;rw [← hres] at h1;obtain ⟨v,w2,_,hl,mF,r2,hXX,x,hbl,hsz,F2,m2,hX2⟩:=hF.finish hX.tt rfl hs' h1 h2;refine hl _ ⟨v,d,rfl,⟨mF.os,mF.tape,mF.output,mF.size,fun b hb=>mF.blk b hb (by simp [F0])⟩,h5,?_⟩;have hH:FzH s'.H [] s'.H []:=by
   generalize s'.H=H0
   have:∀ H1:Hp,FzH H0 [] H1 []:=fun H1=>by
    induction H1 with
    | nil=>exact .nil
    | cons e r ih=>exact .drop ih
   exact this H0
  obtain ⟨m,hO,hN⟩:=hH.mem m2;have r3:=h3.rep m2 hO hN (by rw [hX2];exact r2);have r4:=h4 _ nol _ _ _ r3;exact r4.anti fun b hb=>.inl (by rw [hX2];exact hXX b hb)
 cases e with
 | normal=>exact key hq
 | ret=>exact key hq
 | _=>exact hq.elim
theorem ICallH.walk {f:Nat}{i:FI}{args:List D}{H:Hp}{n:Nat}{Φ:D→Hp→Nat→Prop}(hX:WOk C X)(hf:FOk C.P f i)(hnt:Nat.ble args.length i.nt=true)
  (h:∀ F:Fra,OkS C F none F i.code ⟨argEnv 0 args,H,n⟩ (PostHW X.tt i.res Φ)):ICallH C f args H n Φ:=by
 obtain ⟨fn,hf,hb,hn,hd,hni,hres⟩:=hf;rw [← hni] at hnt;refine ⟨⟨fn,i.code,hf,hb,hn⟩,fun F ρ w vs m hfr hg hvs hr=>?_⟩;have hnt:=Nat.le_of_ble_eq_true hnt;refine (calls_fw (rd:=none) (n:=0)).1 (callsIn_of_wp_marks hf hb trivial ?_);have sat:Sat C (F.sub ρ H w fn.ntmps) ρ ⟨argEnv 0 args,H,n⟩ { tmps:=vs++Array.replicate (fn.ntmps - vs.size) undef,defers:=[] } w :=
  ⟨m.enter _,hfr,hg,argsRep hvs hr,by simp [Fra.sub];omega,rfl⟩
 refine wpIn_mono ((h (F.sub ρ H w fn.ntmps)).out (.refl _) hd ρ _ w sat) ?_;rintro e a' w' ⟨F',s',ρ',hF,hq,hs'⟩;have key:wpRes X.tt s' i.res (fun d=>Φ d s'.H s'.n)→LeavesInM (fw none) 0 C.P fn a'.tmps (fun e w'=>∃ v d H' n' ρ',e=.returned v∧Φ d H' n'∧Mem C F ρ' H' w'∧Ext ρ (Own F.X ρ H) w ρ' (Own F.X ρ' H') w'∧Fresh ρ' n'∧(∀ e∈H',e.g<n') ∧
   Rep ρ' (Own F.X ρ' H') w' d v) a'.defers .returning w':=fun hq=>by
  obtain ⟨d,p,h1,h2,h3⟩:=wpRes_ok hq;rw [← hres] at h1;obtain ⟨v,w2,_,hl,mF,r2,hXX,x,hbl,hsz,F2,m2,hX2⟩:=hF.finish hX.tt rfl hs' h1 h2;obtain ⟨m',x'⟩:=m.leave mF;exact hl _ ⟨v,d,_,_,ρ',rfl,h3,m',x',hs'.fresh,hs'.gen,r2.anti fun b hb=>hb.imp (hXX b) id⟩
 cases e with
 | normal=>exact key hq
 | ret=>exact key hq
 | _=>exact hq.elim
variable {B F:Fra} {s:St} {rd:Option Nat} {Q:Exit→Fra→St→Prop}
theorem OkS.seqW {a b:Code}(s':St)(h1:OkS C B rd F a s (fun e F1 s1=>nextB (F1=F∧Wk s1 s') (fun e=>Q e F1 s1) e))(h2:OkS C B rd F b s' Q):OkS C B rd F (.seq a b) s Q :=
 OkS.seq (h1.mono fun e F1 s1 h=>by
  cases e with
  | normal =>
   obtain ⟨h0,h3⟩:=(show F1=F∧Wk s1 s' from h)
   rw [h0];exact OkS.weak s' h3 h2
  | ret=>exact h
  | exit j=>exact h
  | goto l=>exact h
  | panic c=>exact h
  | outgrown=>exact h)
theorem fz_eq {H Hf:Hp}{d d':D}(h:d=d'):Fz H Hf d d':=h ▸ .refl d
end
end Go.Ide
namespace Go.Ide
open Go.RowKit
structure LR where
 fn:Nat
 tmps:Array Value
 ps:Array Nat
 as:Code
 bd:Code
 dfs:Nat
def LR.lp (R:LR)(st:LoopState)(j:Option Code):Loop:={ state:=st,pending:=j,fn:=R.fn,tmps:=R.tmps,params:=R.ps,assign:=R.as,body:=R.bd,defers:=R.dfs }
def LR.obj (R:LR)(j:Option Code):Obj:=.loop (R.lp (if j.isNone then .ready else .done) j)
def Fra.wr (F:Fra)(l:Nat):Fra:=⟨F.w0,F.X,fun b=>F.Wr b∨b=l,F.nt,F.r0,F.df⟩
section
variable {C:Ctx} {F B:Fra} {ρ:Lk} {H:Hp} {w:World} {l:Nat} {R:LR}
theorem Mem.wr (m:Mem C F ρ H w)(hl:C.nG≤l):Mem C (F.wr l) ρ H w :=
 ⟨⟨m.hok.ent,m.hok.inj,fun e he b hb=>⟨(m.hok.own e he b hb).1,(m.hok.own e he b hb).2.imp id .inl⟩⟩,m.os,m.tape,m.output,m.size,fun b hb h=>m.blk b hb fun h'=>h (.inl h'),m.xlt,m.g0,m.gn,fun b h=>by
  rcases h with h|rfl
  ·exact m.gw b h
  ·exact hl,m.lnk,m.shp⟩
theorem Mem.unwr (m:Mem C (F.wr l) ρ H w)(hX:F.X l)(hb:w.heap[l]? = F.w0.heap[l]?):Mem C F ρ H w :=
 ⟨⟨m.hok.ent,m.hok.inj,fun e he b hb=>⟨(m.hok.own e he b hb).1,by
  rcases (m.hok.own e he b hb).2 with h|h|h
  ·exact .inl h
  ·exact .inr h
  ·exact absurd (h ▸ hX) (m.hok.own e he b hb).1⟩⟩,m.os,m.tape,m.output,m.size,fun b hb' h=>by
   by_cases hl:b=l
   ·subst hl;exact hb
   ·exact m.blk b hb' fun h'=>h'.elim h hl,m.xlt,m.g0,m.gn,fun b h=>m.gw b (.inl h),m.lnk,m.shp⟩
theorem putObj_rest (w:World)(l:Nat)(o:Obj):(w.putObj l o).os=w.os∧(w.putObj l o).tape=w.tape∧(w.putObj l o).output=w.output∧(w.putObj l o).heap.size=w.heap.size:=⟨rfl,rfl,rfl,by simp [World.putObj]⟩
theorem Ext.putL {O:Nat→Prop}(hO:O l){r:Loop}(h:w.heap[l]? = some (.loop r))(o:Obj):Ext ρ O w ρ O (w.putObj l o) :=
 ⟨by rw [(putObj_rest w l o).2.2.2];exact Nat.le_refl _,fun _ _ _ h=>h,fun b hb hb'=>⟨hb',World.putObj_heap_other fun hbl=>hb' (by rw [hbl];exact hO)⟩,fun b cs T fz hc=>⟨cs,_,by
  rw [World.putObj_heap_other fun hbl=>by rw [hbl,h] at hc;cases hc];exact hc,rfl⟩⟩
theorem Mem.putL (m:Mem C F ρ H w)(hX:F.X l)(hW:F.Wr l){r:Loop}(h:w.heap[l]? = some (.loop r))(o:Obj):Mem C F ρ H (w.putObj l o):=by
 have x:=Ext.putL (ρ:=ρ) (O:=Own F.X ρ H) (.inl hX) h o;exact ⟨⟨fun e he=>by
  rcases m.hok.ent e he with h|⟨b,cs,a1,a2,a3⟩
  ·exact .inl h
  ·exact .inr ⟨b,cs,a1,by rw [World.putObj_heap_other fun hb=>(m.hok.own e he b a1).1 (by rw [hb];exact hX)];exact a2,a3.mono x⟩,m.hok.inj,m.hok.own⟩,
  m.os,m.tape,m.output,by rw [(putObj_rest w l o).2.2.2];exact m.size,fun b hb hw=>by rw [World.putObj_heap_other fun hbl=>hw (by rw [hbl];exact hW)];exact m.blk b hb hw,m.xlt,m.g0,m.gn,m.gw,m.lnk,shp_ext m.shp x⟩
def RunsTo (C:Ctx)(F:Fra)(l:Nat)(R:LR)(ρ:Lk)(H:Hp)(w:World)(Φ:Option Code→D→Hp→Nat→Prop):Ending→World→Prop:=fun e w' =>
 ∃ v j d H' n' ρ',e=.returned v∧Φ j d H' n'∧w'.heap[l]? = some (R.obj j)∧Mem C (F.wr l) ρ' H' w'∧Ext ρ (Own F.X ρ H) w ρ' (Own F.X ρ' H') w'∧Fresh ρ' n'∧(∀ e∈H',e.g<n')∧Rep ρ' (Own F.X ρ' H') w' d v
abbrev Since:=Lk→(Nat→Prop)→World→Prop
def Since.ok (E:Since):Prop:=∀ ρ O w ρ' O' w',E ρ O w→Ext ρ O w ρ' O' w'→E ρ' O' w'
def ICallX (C:Ctx)(E:Since)(f:Nat)(args:List D)(l:Nat)(R:LR)(H:Hp)(n:Nat)(Φ:Option Code→D→Hp→Nat→Prop):Prop :=
 Callable C.P f∧∀ (F:Fra) (ρ:Lk) (w:World) (vs:Array Value),Mem C F ρ H w→F.X l→C.nG≤l→E ρ (Own F.X ρ H) w→w.heap[l]? = some (R.obj none)→Fresh ρ n→(∀ e∈H,e.g<n)→vs.size=args.length →
  (∀ (i:Nat) (d:D),args[i]? = some d→Rep ρ (Own F.X ρ H) w d (vs.getD i undef))→Calls C.P f vs w (RunsTo C F l R ρ H w Φ)
def IYield (C:Ctx)(E:Since)(l:Nat)(R:LR)(ds:List D)(H:Hp)(n:Nat)(Φ:Option Code→Hp→Nat→Prop):Prop :=
 ∀ (F:Fra) (ρ:Lk) (w:World) (vs:Array Value),Mem C F ρ H w→F.X l→C.nG≤l→E ρ (Own F.X ρ H) w→w.heap[l]? = some (R.obj none)→Fresh ρ n→(∀ e∈H,e.g<n)→vs.size=ds.length →
  (∀ (i:Nat) (d:D),ds[i]? = some d→Rep ρ (Own F.X ρ H) w d (vs.getD i undef))→vs.size=R.ps.size ∧
  RoundIn (fw none) 0 C.P l R.fn ((R.ps.zip vs).foldl (fun tmps (t,a)=>tmps.setIfInBounds t a) R.tmps) R.as R.bd w (RunsTo C F l R ρ H w fun j d H' n'=>d=boo j.isNone∧Φ j H' n')
structure Ready (C:Ctx)(E:Since)(B F:Fra)(l:Nat)(R:LR):Prop where
 X:F.X l
 nw:¬ F.Wr l
 at0:F.w0.heap[l]? = some (R.obj none)
 up:∀ {ρ:Lk} {H:Hp} {w:World},Mem C (F.wr l) ρ H w→Mem C B ρ H w
 ng:C.nG≤l
 df:F.df=B.df
 ext:∀ {ρ:Lk} {H:Hp} {w:World},Mem C F ρ H w→E ρ (Own F.X ρ H) w
def Stat (C:Ctx)(l:Nat)(R:LR)(j:Option Code)(F:Fra):Prop:=∀ {ρ:Lk} {H:Hp} {w:World},Mem C F ρ H w→w.heap[l]? = some (R.obj j)
theorem Ready.stat {E:Since}(h:Ready C E B F l R):Stat C l R none F:=fun m=>(m.blk l (m.xlt l h.X) h.nw).trans h.at0
theorem Sat.reframe {F':Fra}{s:St}{a:Act}(h:Sat C F ρ s a w)(m:Mem C F' ρ s.H w)(hX:F'.X=F.X)(hn:F'.nt=F.nt)(hd:F'.df=F.df):Sat C F' ρ s a w :=
 ⟨m,h.fresh,h.gen,fun t=>by rw [hX];exact h.env t,h.nt.trans hn.symm,h.dfr.trans hd.symm⟩
theorem yArgs_run {s:St}{o:Oper}{fop:Operand}{args:Array Operand}{tys:Array Nat}{a:Act}(ho:o.op=.call ⟨.value fop,args,tys⟩)(hf:gOpd s.env fop=.clo (.yield l) [] [])(hs:Sat C F ρ s a w) :
  ∃ vs,(execOp a.eval o).run C.P w=(Instr.yield l vs).run C.P w∧vs.size=(args.toList.map (gOpd s.env)).length ∧
   ∀ (i:Nat) (d:D),(args.toList.map (gOpd s.env))[i]? = some d→Rep ρ (Own F.X ρ s.H) w d (vs.getD i undef):=by
 have hfr:=gOpd_rep hs.env fop;rw [hf] at hfr;generalize hv:a.eval fop=v at hfr;cases hfr with
 | clo hn hc h1 h2 =>
  rename_i fs cs;have hfs:fs = #[]:=Array.eq_empty_of_size_eq_zero (by simpa using hn);subst hfs;refine ⟨args.map a.eval,?_,by simp,fun i d hd=>?_⟩
  ·unfold execOp
   simp only [ho];rw [run_bind]
   have:(resolve a.eval ⟨.value fop,args,tys⟩ o.type).run C.P w=.ok { target:=.fn (.yield l) cs,args:=#[]++args.map a.eval } w:=by
    unfold resolve;simp only [hv];rfl
   rw [this];dsimp only;unfold invoke;simp
  ·simp only [List.getElem?_map,Array.getElem?_toList,Option.map_eq_some_iff] at hd
   obtain ⟨x,hx,rfl⟩:=hd
   have:(args.map a.eval).getD i undef=a.eval x:=by simp [Array.getD_eq_getD_getElem?,hx]
   rw [this];exact gOpd_rep hs.env x
variable {X:EV} {ops:Array Oper} {s:St} {E:Since} {Q:Exit→Fra→St→Prop}
def yieldW (C:Ctx)(X:EV)(E:Since)(F:Fra)(l:Nat)(R:LR)(kb:Nat)(ops:Array Oper)(iy:Nat)(l2:List Nat)(Q:Exit→Fra→St→Prop)(s:St):Prop:=match nthO ops.toList iy with
 | some o=>match o.guard with
  | none=>match o.op with
   | .call ⟨.value fop,args,_⟩=>gOpd s.env fop=.clo (.yield l) [] []∧∃ Φ,IYield C E l R (args.toList.map (gOpd s.env)) s.H s.n Φ ∧
     (∀ H' n',Φ none H' n'→wpSuf C X kb ops l2 ⟨putE s.env o.dst (boo true),H',n'⟩ True fun acc s=>acc∧Q .normal F s) ∧
     (∀ c H' n',Φ (some c) H' n'→∀ F2:Fra,Stat C l R (some c) F2→wpSuf C X kb ops l2 ⟨putE s.env o.dst (boo false),H',n'⟩ True fun acc s=>acc∧Q .normal F2 s)
   | _=>False
  | some _=>False
 | none=>False
theorem yield_step (hX:WOk C X){kb iy:Nat}{l2:List Nat}{a:Act}(hR:Ready C E B F l R)(hB:Fle C B F)(hnd:noDef ops.toList=true)(hlt:∀ j∈l2,j<ops.size)(hd:ops.toList.all (dstOk B.nt)=true)
  (h:yieldW C X E F l R kb ops iy l2 Q s) (hs:Sat C F ρ s a w):wpOpsIn (fw none) 0 C.P ops (PostF C B Q) (iy::l2) a w:=by
 unfold yieldW at h;split at h<;>first|exact h.elim|skip
 rename_i o ho;split at h<;>first|exact h.elim|skip
 rename_i hgd;split at h<;>first|exact h.elim|skip
 rename_i fop args tys hop;obtain ⟨hf,Φ,hY,h1,h2⟩:=h;have ho:=nthO_arr ho;have hdo:dstOk B.nt o=true:=List.all_eq_true.1 hd o (Array.mem_toList_iff.2 (Array.mem_of_getElem? ho));simp only [wpOpsIn,ho];rw [if_pos (by unfold Region.wanted;rw [hgd])];obtain ⟨vs,r1,r2,r3⟩:=yArgs_run hop hf hs;have hst:=hR.stat hs.mem;obtain ⟨q1,q2⟩:=hY F ρ w vs hs.mem hR.X hR.ng (hR.ext hs.mem) hst hs.fresh hs.gen r2 r3;have hrun:(execOp a.eval o).run C.P w=.ok (.round l R.fn ((R.ps.zip vs).foldl (fun tmps (t,a)=>tmps.setIfInBounds t a) R.tmps) R.as R.bd) w:=by
  rw [r1,run_yield (r:=R.lp .ready none) hst q1];rfl
 refine wpIn_round hrun (q2.mono ?_);rintro e w' ⟨v,j,d,H',n',ρ',rfl,⟨rfl,hΦ⟩,hl,m',x,fr,gn,rep⟩;refine ⟨v,rfl,?_⟩;have hsw:Sat C (F.wr l) ρ s a w:=hs.reframe (hs.mem.wr hR.ng) rfl rfl rfl;have hs1:Sat C (F.wr l) ρ' ⟨putE s.env o.dst (boo j.isNone),H',n'⟩ (a.put o.dst v) w':=hsw.put m' x fr gn rep (by rw [show (F.wr l).nt=B.nt from hB.nt];exact hdo);cases j with
 | none =>
  have hs2:Sat C F ρ' ⟨putE s.env o.dst (boo true),H',n'⟩ (a.put o.dst v) w':=hs1.reframe (m'.unwr hR.X (by rw [hl,hR.at0])) rfl rfl rfl;have h3:=(wpSuf_ok (F:=F) (K':=Q .normal F) hX (fun acc s h=>h) (h1 _ _ hΦ)).2.run hlt (by rw [hB.nt];exact hd) hs2
  have:=wpOps_in (rd:=none) (Q:=PostF C B Q) (l2:=[]) (fun _ _ _ h=>fin_post hB (fun _ h=>h) h) (noDef_at hnd) _ _ _ h3
  rwa [List.append_nil] at this
 | some c =>
  let F2:=Fra.subZ ρ' H' w' F.nt F.X (fun _=>False) F.df
  have m2:Mem C F2 ρ' H' w':=m'.enterZ (.refl _ _ _) rfl rfl rfl (fun _ _ _=>rfl) (fun _ _ _ _ h=>h) (fun b hb=>Nat.lt_of_lt_of_le (m'.xlt b hb) m'.size) (fun e he b hb=>(m'.hok.own e he b hb).1) (fun _ h=>h.elim) _ _;have hlw:l<w'.heap.size:=(Array.getElem?_eq_some_iff.1 hl).1;have hst2:Stat C l R (some c) F2:=fun {ρ'' H'' w''} m3=>by
   have:=m3.blk l hlw (by
    rintro (⟨e,he,h⟩|h)
    ·exact (m'.hok.own e he l h).1 hR.X
    ·exact h)
   exact this.trans hl
  have hB2:Fle C B F2:=⟨hB.nt,Nat.le_trans hB.sz (Nat.le_trans hs.mem.size x.size),fun m3=>hR.up (m'.leaveZ (fun _ h=>h) (fun _ h=>h.elim) m3).1,hB.X,[],hR.df,[],rfl,.nil,by simp⟩
  have hs2:Sat C F2 ρ' ⟨putE s.env o.dst (boo false),H',n'⟩ (a.put o.dst v) w':=hs1.reframe m2 rfl rfl rfl;have h3:=(wpSuf_ok (F:=F2) (K':=Q .normal F2) hX (fun acc s h=>h) (h2 _ _ _ hΦ F2 hst2)).2.run hlt (by rw [hB2.nt];exact hd) hs2
  have:=wpOps_in (rd:=none) (Q:=PostF C B Q) (l2:=[]) (fun _ _ _ h=>fin_post hB2 (fun _ h=>h) h) (noDef_at hnd) _ _ _ h3
  rwa [List.append_nil] at this
theorem OkS.regY {i:Nat}(hX:WOk C X)(kb:Nat)(l1:List Nat)(iy:Nat)(l2:List Nat)(hl:List.range ops.size=l1++iy::l2)(hnd:noDef ops.toList=true)(hR:Ready C E B F l R)
  (h:wpSuf C X kb ops l1 s True fun acc s1=>acc∧yieldW C X E F l R kb ops iy l2 Q s1):OkS C B none F (.region i ops false) s Q:=by
 refine ⟨fun hB hd ρ a w hs=>wpIn_region ?_⟩;rw [hl];have hlt:∀ j∈l1++iy::l2,j<ops.size:=fun j hj=>by rw [← hl] at hj;exact List.mem_range.1 hj
 have h1:=(wpSuf_ok (F:=F) (K':=yieldW C X E F l R kb ops iy l2 Q) hX (fun acc s h=>h) h).2.run (fun j hj=>hlt j (by simp [hj])) (dst_reg hB hd) hs;refine wpOps_in (rd:=none) (Q:=PostF C B Q) (l2:=iy::l2) (fun e a w h=>?_) (noDef_at hnd) _ a w h1;obtain ⟨h0,s1,ρ1,k1,k2⟩:=h;exact ⟨h0,yield_step hX hR hB hnd (fun j hj=>hlt j (by simp [hj])) hd k1 k2⟩
theorem OkS.regDY {i:Nat}(hX:WOk C X)(kb:Nat)(pre l1:List Nat)(iy:Nat)(l2:List Nat)(hc:(chkD ops pre (l1++iy::l2)&&noDef ops.toList)=true)(hR:Ready C E B F l R)
  (h:wpPre C X kb ops s.H s.n pre s.env [] True fun acc env N=>wpSuf C X kb ops l1 ⟨env,N++s.H,s.n+lenO ops.toList⟩ acc fun acc s1=>acc∧yieldW C X E F l R kb ops iy l2 Q s1):OkS C B none F (.region i ops true) s Q:=by
 have hsz:ops.size=lenO ops.toList:=by rw [lenO_eq,Array.length_toList]
 rw [← hsz] at h;simp only [Bool.and_eq_true] at hc;obtain ⟨_,acc,env,N,h1,h2⟩:=wpPre_acc (F:=F) hX (fun acc env N h=>(wpSuf_ok (F:=F) (K':=yieldW C X E F l R kb ops iy l2 Q) hX (fun acc s h=>h) h).1) h;refine ⟨fun hB hd ρ a w hs=>drawI hX.mixed hc.1 h1 (fun hlt ρ a w hs=>?_) (dst_reg hB hd) ρ a w hs⟩;have h3:=(wpSuf_ok (F:=F) (K':=yieldW C X E F l R kb ops iy l2 Q) hX (fun acc s h=>h) h2).2.run (fun j hj=>hlt j (by simp [hj])) (dst_reg hB hd) hs;refine wpOps_in (rd:=none) (Q:=PostF C B Q) (l2:=iy::l2) (fun e a w h=>?_) (noDef_at hc.2) _ a w h3;obtain ⟨h0,s1,ρ1,k1,k2⟩:=h;exact ⟨h0,yield_step hX hR hB hc.2 (fun j hj=>hlt j (by simp [hj])) hd k1 k2⟩
end
end Go.Ide
namespace Go.Ide
open Go.RowKit
section
variable {C:Ctx} {X:EV} {E:Since} {l:Nat} {R:LR}
theorem wrMono {F F':Fra}{ρ:Lk}{H:Hp}{w:World}(m:Mem C F ρ H w)(h0:F'.w0=F.w0)(hX:F'.X=F.X)(hr:F'.r0=F.r0)(hW:∀ b,F.Wr b→F'.Wr b)(hg:∀ b,F'.Wr b→C.nG≤b):Mem C F' ρ H w:=by
 obtain ⟨a1,a2,a3,a4,a5,a6,a7,a8,a9,a10,a11,a12⟩:=m;refine ⟨⟨?_,a1.inj,?_⟩,?_,?_,?_,?_,?_,?_,?_,?_,hg,?_,?_⟩
 ·rw [hX];exact a1.ent
 ·intro e he b hb
  rw [hX,h0];exact ⟨(a1.own e he b hb).1,(a1.own e he b hb).2.imp id (hW b)⟩
 ·rw [h0];exact a2
 ·rw [h0];exact a3
 ·rw [h0];exact a4
 ·rw [h0];exact a5
 ·rw [h0];exact fun b hb h=>a6 b hb fun h'=>h (hW b h')
 ·rw [h0,hX];exact a7
 ·rw [h0];exact a8
 ·rw [h0];exact a9
 ·rw [hr];exact a11
 ·rw [h0];exact a12
def PostXW (C:Ctx)(l:Nat)(R:LR)(tt:Nat→Option TInfo)(rs:List ResultVar)(Φ:Option Code→D→Hp→Nat→Prop)(e:Exit)(F:Fra)(s:St):Prop:=match e with
 | .normal | .ret=>∃ j,Stat C l R j F∧wpRes tt s rs fun d=>Φ j d s.H s.n
 | _=>False
theorem ICallX.walk {f:Nat}{i:FI}{args:List D}{H:Hp}{n:Nat}{Φ:Option Code→D→Hp→Nat→Prop}(hX:WOk C X)(hE:Since.ok E)(hf:FOk C.P f i)(hnt:Nat.ble args.length i.nt=true)
  (h:∀ B F:Fra,Ready C E B F l R→OkS C B none F i.code ⟨argEnv 0 args,H,n⟩ (PostXW C l R X.tt i.res Φ)):ICallX C E f args l R H n Φ:=by
 obtain ⟨fn,hf,hb,hn,hd,hni,hres⟩:=hf;rw [← hni] at hnt;refine ⟨⟨fn,i.code,hf,hb,hn⟩,fun F ρ w vs m hFl hng hEw hlw hfr hg hvs hr=>?_⟩;have hnt:=Nat.le_of_ble_eq_true hnt;refine (calls_fw (rd:=none) (n:=0)).1 (callsIn_of_wp_marks hf hb trivial ?_);have hltl:l<w.heap.size:=(Array.getElem?_eq_some_iff.1 hlw).1;have hol:∀ e∈H,∀ b,ρ e.k e.g=some b→b≠l:=fun e he b hb hbl=>(m.hok.own e he b hb).1 (by rw [hbl];exact hFl)
 have ent:∀ Z:Nat→Prop,(∀ b,Z b→b=l)→Mem C (Fra.subZ ρ H w fn.ntmps F.X Z []) ρ H w:=fun Z hZ=>m.enterZ (.refl _ _ _) rfl rfl rfl (fun _ _ _=>rfl) (fun e he b hb hz=>hol e he b hb (hZ b hz)) (fun b hb=>Nat.lt_of_lt_of_le (m.xlt b hb) m.size)
  (fun e he b hb=>(m.hok.own e he b hb).1) (fun b hz=>by rw [hZ b hz];exact hng) _ _
 let B:=Fra.subZ ρ H w fn.ntmps F.X (fun b=>b=l) []
 let F0:=Fra.subZ ρ H w fn.ntmps F.X (fun _=>False) []
 have mB:Mem C B ρ H w:=ent _ fun _ h=>h
 have mF:Mem C F0 ρ H w:=ent _ fun _ h=>h.elim
 have hBg:∀ b,B.Wr b→C.nG≤b:=mB.gw;have upB:∀ {ρ':Lk} {H':Hp} {w':World},Mem C (F0.wr l) ρ' H' w'→Mem C B ρ' H' w':=fun m'=>wrMono m' rfl rfl rfl (fun b hb=>by
  rcases hb with (hb|hb)|hb
  ·exact .inl hb
  ·exact hb.elim
  ·exact .inr hb) hBg
 have upF:∀ {ρ':Lk} {H':Hp} {w':World},Mem C F0 ρ' H' w'→Mem C B ρ' H' w':=fun m'=>upB (m'.wr hng)
 have hB:Fle C B F0:=⟨rfl,Nat.le_refl _,upF,fun _ h=>h,[],rfl,[],rfl,.nil,by simp⟩
 have mw:=m.wr hng;have lv:∀ {ρ':Lk} {H':Hp} {w':World},Mem C B ρ' H' w'→Mem C (F.wr l) ρ' H' w'∧Ext ρ (Own F.X ρ H) w ρ' (Own F.X ρ' H') w':=fun {ρ' H' w'} m'=>by
  obtain ⟨q1,q2⟩:=mw.leaveZ (X':=F.X) (Z:=fun b=>b=l) (fun _ h=>h) (fun b hb=>.inr (.inr hb)) m';refine ⟨q1,?_⟩
  have:(fun b=>Own F.X ρ H b∨b=l)=Own F.X ρ H:=funext fun b=>propext ⟨fun h=>h.elim id fun h=>.inl (by rw [h];exact hFl),.inl⟩
  have q2:Ext ρ (fun b=>Own F.X ρ H b∨b=l) w ρ' (Own F.X ρ' H') w':=q2
  rwa [this] at q2
 have hR:Ready C E B F0 l R:=⟨hFl,fun h=>by
  rcases h with ⟨e,he,h⟩|h
  ·exact hol e he l h rfl
  ·exact h.elim,hlw,upB,hng,rfl,fun {ρ' H' w'} m'=>hE _ _ _ _ _ _ hEw (lv (upF m')).2⟩
 have sat:Sat C F0 ρ ⟨argEnv 0 args,H,n⟩ { tmps:=vs++Array.replicate (fn.ntmps - vs.size) undef,defers:=[] } w :=
  ⟨mF,hfr,hg,argsRep hvs hr,by simp [F0,Fra.subZ];omega,rfl⟩
 refine wpIn_mono ((h B F0 hR).out hB hd ρ _ w sat) ?_;rintro e a' w' ⟨F',s',ρ',hF,hq,hs'⟩;have key:(∃ j,Stat C l R j F'∧wpRes X.tt s' i.res fun d=>Φ j d s'.H s'.n)→LeavesInM (fw none) 0 C.P fn a'.tmps (RunsTo C F l R ρ H w Φ) a'.defers .returning w':=fun ⟨j,hst,hq⟩=>by
  obtain ⟨d,p,h1,h2,h3⟩:=wpRes_ok hq;rw [← hres] at h1;obtain ⟨v,w2,_,hl,mB2,r2,hXX,x,hbl,hsz,F2,m2,hX2⟩:=hF.finish hX.tt rfl hs' h1 h2;obtain ⟨m',x'⟩:=lv mB2;exact hl _ ⟨v,j,d,_,_,ρ',rfl,h3,(hbl l hltl).trans (hst hs'.mem),m',x',hs'.fresh,hs'.gen,r2.anti fun b hb=>hb.imp (hXX b) id⟩
 cases e with
 | normal=>exact key hq
 | ret=>exact key hq
 | _=>exact hq.elim
def putPs:List Nat→List D→Env→Env
 | t::ts,d::ds,env=>putPs ts ds ((t,d)::env)
 | _,_,env=>env
theorem putPs_get:∀ (ps:List Nat) (ds:List D) (env:Env) (tm:Array Value) (vs:List Value) {ρ:Lk} {O:Nat→Prop} {w:World},vs.length=ds.length→(∀ t∈ps,t<tm.size) →
  (∀ t,Rep ρ O w (env.get t) (tm.getD t undef))→(∀ (i:Nat) (d:D),ds[i]? = some d→Rep ρ O w d (vs.getD i undef)) →
  ∀ t,Rep ρ O w ((putPs ps ds env).get t) (((ps.zip vs).foldl (fun tmps (x:Nat × Value)=>tmps.setIfInBounds x.1 x.2) tm).getD t undef)
 | [],_,_,_,_,_,_,_,_,_,h,_=>by simpa [putPs] using h
 | p::ps,[],env,tm,vs,_,_,_,hl,_,h,_=>by
  have:vs=[]:=List.eq_nil_of_length_eq_zero (by simpa using hl)
  subst this;simpa [putPs] using h
 | p::ps,d::ds,env,tm,[],_,_,_,hl,_,_,_=>by simp at hl
 | p::ps,d::ds,env,tm,v::vs,ρ,O,w,hl,hp,h,hr=>by
  intro t;simp only [putPs,List.zip_cons_cons,List.foldl_cons];refine putPs_get ps ds _ _ vs (by simpa using hl) (fun t ht=>by simp;exact hp t (by simp [ht])) (fun t=>?_) (fun i d hd=>?_) t
  ·rw [Env.get_cons]
   have h0:=hr 0 d (by simp);simp at h0
   by_cases hpt:p=t
   ·subst hpt
    rw [if_pos rfl,Array.getD_eq_getD_getElem?,Array.getElem?_setIfInBounds,if_pos rfl,if_pos (hp p (by simp))];exact h0
   ·rw [if_neg hpt,Array.getD_eq_getD_getElem?,Array.getElem?_setIfInBounds,if_neg hpt,← Array.getD_eq_getD_getElem?]
    exact h t
  ·have:=hr (i+1) d (by simpa using hd)
   simpa using this
theorem foldPs_size:∀ (l:List (Nat × Value)) (tm:Array Value),(l.foldl (fun tmps (x:Nat × Value)=>tmps.setIfInBounds x.1 x.2) tm).size=tm.size
 | [],_=>rfl
 | x::l,tm=>by rw [List.foldl_cons,foldPs_size l];simp
def exitCode:Exit→Option (Option Code)
 | .normal=>some none
 | .ret=>some (some .ret)
 | .exit i=>some (some (.exit i))
 | .goto t=>some (some (.goto t))
 | _=>none
def RoundW (Φ:Option Code→Hp→Nat→Prop)(e:Exit)(_:Fra)(s:St):Prop:=match exitCode e with
 | some j=>Φ j s.H s.n
 | none=>False
variable {F:Fra}
theorem round_ok {ps:Array Nat}{as bd:Code}{fn dfs:Nat}{tm:Array Value}{env:Env}{ρ1:Lk}{O1:Nat→Prop}{w1:World}{nt:Nat}(htm:tm.size=nt)(hps:∀ t∈ps,t<nt)(hda:codeDst nt as=true)(hdb:codeDst nt bd=true)
  (henv:∀ t,Rep ρ1 O1 w1 (env.get t) (tm.getD t undef)) {ds:List D} {H:Hp} {n:Nat} {Φ:Option Code→Hp→Nat→Prop} (hds:ds.length=ps.size)
  (h:∀ F:Fra,OkS C F (some l) F as ⟨putPs ps.toList ds env,H,n⟩ fun e F' s=>e=.normal∧F'=F∧∀ F':Fra,OkS C F' (some l) F' bd s (RoundW Φ)) :
  IYield C (fun ρ O w=>Ext ρ1 O1 w1 ρ O w) l ⟨fn,tm,ps,as,bd,dfs⟩ ds H n Φ:=by
 intro F ρ w vs m hFl hng hEw hlw hfr hg hvs hr;refine ⟨hvs.trans hds,?_⟩;have hltl:l<w.heap.size:=(Array.getElem?_eq_some_iff.1 hlw).1;have mw:=m.wr hng;have hol:∀ {ρ':Lk} {H':Hp} {w':World},Mem C (F.wr l) ρ' H' w'→∀ e∈H',∀ b,ρ' e.k e.g=some b→b≠l:=fun m' e he b hb hbl=>(m'.hok.own e he b hb).1 (by show F.X b;rw [hbl];exact hFl)
 have ent:∀ {ρ':Lk} {H':Hp} {w':World},Mem C (F.wr l) ρ' H' w'→Mem C (Fra.subZ ρ' H' w' nt F.X (fun _=>False) []) ρ' H' w':=fun m'=>m'.enterZ (.refl _ _ _) rfl rfl rfl (fun _ _ _=>rfl) (fun _ _ _ _ h=>h) (fun b hb=>Nat.lt_of_lt_of_le (m'.xlt b hb) m'.size)
  (fun e he b hb=>(m'.hok.own e he b hb).1) (fun b hz=>hz.elim) _ _
 have lv:∀ {ρ':Lk} {H':Hp} {w':World} {ρ2:Lk} {H2:Hp} {w2:World},Mem C (F.wr l) ρ' H' w'→Mem C (Fra.subZ ρ' H' w' nt F.X (fun _=>False) []) ρ2 H2 w2→Mem C (F.wr l) ρ2 H2 w2∧Ext ρ' (Own F.X ρ' H') w' ρ2 (Own F.X ρ2 H2) w2:=fun {ρ' H' w' ρ2 H2 w2} m' m2=>by
  obtain ⟨q1,q2⟩:=m'.leaveZ (X':=F.X) (Z:=fun _=>False) (fun _ h=>h) (fun b hb=>hb.elim) m2;refine ⟨q1,?_⟩
  have:(fun b=>Own F.X ρ' H' b∨False)=Own F.X ρ' H':=funext fun b=>propext ⟨fun h=>h.elim id False.elim,.inl⟩
  have q2:Ext ρ' (fun b=>Own F.X ρ' H' b∨False) w' ρ2 (Own F.X ρ2 H2) w2:=q2
  rwa [this] at q2
 have lat:∀ {ρ':Lk} {H':Hp} {w':World} {ρ2:Lk} {H2:Hp} {w2:World},Mem C (F.wr l) ρ' H' w'→l<w'.heap.size→Mem C (Fra.subZ ρ' H' w' nt F.X (fun _=>False) []) ρ2 H2 w2→w2.heap[l]? = w'.heap[l]?:=fun m' hl m2=>m2.blk l hl fun h=>by
  rcases h with ⟨e,he,h⟩|h
  ·exact hol m' e he l h rfl
  ·exact h
 refine roundIn_of_wpIn trivial ?_
 let Fa:=Fra.subZ ρ H w nt F.X (fun _=>False) []
 have sata:Sat C Fa ρ ⟨putPs ps.toList ds env,H,n⟩ { tmps:=(ps.zip vs).foldl (fun tmps (t,a)=>tmps.setIfInBounds t a) tm,defers:=[] } w:=by
  refine ⟨ent mw,hfr,hg,fun t=>?_,?_,rfl⟩
  ·have:=putPs_get ps.toList ds env tm vs.toList (ρ:=ρ) (O:=Own F.X ρ H) (w:=w) (by simpa using hvs) (fun t ht=>by rw [htm];exact hps t (by simpa using ht)) (fun t=>(henv t).mono hEw) (fun i d hd=>by
    have:=hr i d hd
    simpa [Array.getD_eq_getD_getElem?,List.getD_eq_getElem?_getD] using this) t
   rw [← Array.foldl_toList,Array.toList_zip];exact this
  ·show ((ps.zip vs).foldl (fun tmps (t,a)=>tmps.setIfInBounds t a) tm).size=nt
   rw [← Array.foldl_toList];exact (foldPs_size _ _).trans htm
 refine wpIn_mono ((h Fa).out (.refl Fa) hda ρ _ w sata) ?_;rintro e a2 w2 ⟨F2,s2,ρ2,hF2,⟨rfl,hFF,hbody⟩,hs2⟩;subst hFF;obtain ⟨m2,x2⟩:=lv mw (hF2.mem hs2.mem);have hl2:w2.heap[l]? = some (LR.obj ⟨fn,tm,ps,as,bd,dfs⟩ none):=(lat mw hltl (hF2.mem hs2.mem)).trans hlw;refine ⟨_,run_beginRound (r:=LR.lp ⟨fn,tm,ps,as,bd,dfs⟩ .ready none) hl2 rfl,?_⟩;have m3:=m2.putL hFl (.inr rfl) (r:=LR.lp ⟨fn,tm,ps,as,bd,dfs⟩ .ready none) hl2 (.loop { LR.lp ⟨fn,tm,ps,as,bd,dfs⟩ .ready none with state:=.busy });have x3:=Ext.putL (ρ:=ρ2) (O:=Own F.X ρ2 s2.H) (w:=w2) (.inl hFl) (r:=LR.lp ⟨fn,tm,ps,as,bd,dfs⟩ .ready none) hl2 (.loop { LR.lp ⟨fn,tm,ps,as,bd,dfs⟩ .ready none with state:=.busy });generalize hw3:w2.putObj l (.loop { LR.lp ⟨fn,tm,ps,as,bd,dfs⟩ .ready none with state:=.busy })=w3 at m3 x3 ⊢;have hlt2:l<w2.heap.size:=(Array.getElem?_eq_some_iff.1 hl2).1;have hl3:w3.heap[l]? = some (.loop { LR.lp ⟨fn,tm,ps,as,bd,dfs⟩ .ready none with state:=.busy }):=by rw [← hw3];exact World.putObj_heap_same hlt2
 let Fb:=Fra.subZ ρ2 s2.H w3 nt F.X (fun _=>False) []
 have satb:Sat C Fb ρ2 s2 a2 w3:=⟨ent m3,hs2.fresh,hs2.gen,fun t=>(hs2.env t).mono x3,hs2.nt,hs2.dfr⟩
 refine wpIn_mono ((hbody Fb).out (.refl Fb) hdb ρ2 _ w3 satb) ?_;rintro e a4 w4 ⟨F4,s4,ρ4,hF4,hq,hs4⟩;obtain ⟨m4,x4⟩:=lv m3 (hF4.mem hs4.mem);have hl4:w4.heap[l]? = some (.loop { LR.lp ⟨fn,tm,ps,as,bd,dfs⟩ .ready none with state:=.busy }):=(lat m3 (Array.getElem?_eq_some_iff.1 hl3).1 (hF4.mem hs4.mem)).trans hl3;have fin:∀ j,Φ j s4.H s4.n→∃ v w',(Instr.endRound l j).run C.P w4=.ok v w'∧RunsTo C F l ⟨fn,tm,ps,as,bd,dfs⟩ ρ H w (fun j d H' n'=>d=boo j.isNone∧Φ j H' n') (.returned v) w':=fun j hj=>by
  refine ⟨_,_,run_endRound j hl4,_,j,boo j.isNone,s4.H,s4.n,ρ4,rfl,⟨rfl,hj⟩,World.putObj_heap_same (Array.getElem?_eq_some_iff.1 hl4).1,m4.putL hFl (.inr rfl) hl4 _,((x2.trans x3).trans x4).trans (Ext.putL (.inl hFl) hl4 _),hs4.fresh,hs4.gen,.prim _⟩
 cases e with
 | normal=>exact fin none hq
 | ret=>exact fin _ hq
 | exit i=>exact fin _ hq
 | goto t=>exact fin _ hq
 | panic c=>exact hq.elim
 | outgrown=>exact hq.elim
def endW (Q:Exit→Fra→St→Prop)(F:Fra)(s:St)(j:Option Code):Prop:=match j with
 | none=>Q .normal F s
 | some .ret=>Q .ret F s
 | some (.exit i)=>Q (.exit i) F s
 | some (.goto t)=>Q (.goto t) F s
 | some _=>False
theorem Since.ext {ρ1:Lk}{O1:Nat→Prop}{w1:World}:Since.ok (fun ρ O w=>Ext ρ1 O1 w1 ρ O w):=fun _ _ _ _ _ _ h k=>h.trans k
theorem OkS.rangeFunc {B:Fra}{s:St}{Q:Exit→Fra→St→Prop}{g:Operand}{ps:Array Nat}{as bd:Code}{fi:Nat}{first captured:List D}{Ψ:Option Code→D→Hp→Nat→Prop}(hg:gOpd s.env g=.clo (.func fi) first captured)
  (YS:List D→Hp→Nat→(Option Code→Hp→Nat→Prop)→Prop)
  (hbody:∀ l ds H n Φ,YS ds H n Φ→ds.length=ps.size∧∀ F:Fra,OkS C F (some l) F as ⟨putPs ps.toList ds s.env,H,n⟩ fun e F' s=>e=.normal∧F'=F∧∀ F':Fra,OkS C F' (some l) F' bd s (RoundW Φ))
  (hiter:∀ (E:Since) (l:Nat) (R:LR),Since.ok E→(∀ ds H n Φ,YS ds H n Φ→IYield C E l R ds H n Φ)→ICallX C E fi (first++[.clo (.yield l) [] []]++captured) l R s.H s.n Ψ)
  (hend:∀ j d H' n' F',Ψ j d H' n'→endW Q F' ⟨s.env,H',n'⟩ j):OkS C B none F (.rangeFunc g ps as bd) s Q:=by
 refine ⟨fun hB hd ρ a w hs=>?_⟩;simp only [codeDst,Bool.and_eq_true] at hd;have hps:∀ t∈ps,t<B.nt:=fun t ht=>Nat.blt_eq.mp (List.all_eq_true.1 hd.1 t (by simpa using ht))
 have hgr:=gOpd_rep hs.env g;rw [hg] at hgr;generalize hv:a.eval g=gv at hgr;cases hgr with
 | clo hnf hnc hr1 hr2 =>
 rename_i fs cs;refine wpIn_rangeFunc fun fn _=>?_
 let l:=w.heap.size+1
 let d:=w.heap.size
 let R:LR:=⟨fn,a.tmps,ps,as,bd,d⟩
 let w1:=(w.alloc (.deferred (some []))).alloc (R.obj none)
 have hw1s:w1.heap.size=w.heap.size+2:=by simp only [w1,World.size_alloc]
 have hold:∀ b,b<w.heap.size→w1.heap[b]? = w.heap[b]?:=fun b hb=>by
  show ((w.alloc _).alloc _).heap[b]? = _;rw [heap_alloc,if_neg (by rw [World.size_alloc];omega),heap_alloc,if_neg (by omega)]
 have hdw:w1.heap[d]? = some (.deferred (some [])):=by
  show ((w.alloc _).alloc _).heap[w.heap.size]? = _;rw [heap_alloc,if_neg (by rw [World.size_alloc];omega),heap_alloc,if_pos rfl]
 have hlw:w1.heap[l]? = some (R.obj none):=by
  show ((w.alloc _).alloc _).heap[w.heap.size+1]? = _;rw [heap_alloc,if_pos (by rw [World.size_alloc])]
 have m:=hs.mem
 let X1:Nat→Prop:=fun b=>F.X b∨b=l∨b=d
 have hown:∀ e∈s.H,∀ b,ρ e.k e.g=some b→b<w.heap.size:=fun e he b hb=>m.lt he hb
 have x:Ext ρ (Own F.X ρ s.H) w ρ (Own X1 ρ s.H) w1:=by
  refine ⟨by omega,fun _ _ _ h=>h,fun b hb hO=>⟨?_,hold b hb⟩,fun b cs T fz h=>⟨cs,fz,?_,rfl⟩⟩
  ·rintro ((h|h|h)|h)
   ·exact hO (.inl h)
   ·simp only [l] at h;omega
   ·simp only [d] at h;omega
   ·exact hO (.inr h)
  ·rw [hold b (Array.getElem?_eq_some_iff.1 h).1];exact h
 have hng:C.nG≤l:=by
  have:=m.gn;have:=m.size
  simp only [l];omega
 have m1:Mem C (Fra.subZ ρ s.H w1 F.nt X1 (fun b=>b=l) ([d].map (fun r=>({ target:=.collected r,args:=#[] }:Deferred))++F.df)) ρ s.H w1:=by
  refine m.enterZ x rfl rfl rfl (fun b hb _=>hold b hb) (fun e he b hb hbl=>?_) (fun b hb=>?_) (fun e he b hb hb'=>?_) (fun b hb=>by rw [hb];exact hng) _ _
  ·have:=hown e he b hb
   simp only [l] at hbl;omega
  ·rcases hb with h|h|h
   ·have:=m.xlt b h;have:=m.size;omega
   ·simp only [l] at h;omega
   ·simp only [d] at h;omega
  ·have h1:=hown e he b hb
   rcases hb' with h|h|h
   ·exact (m.hok.own e he b hb).1 h
   ·simp only [l] at h;omega
   ·simp only [d] at h;omega
 have mo:Mem C F ρ s.H w1:=m.same ⟨by omega,fun _ _ _ h=>h,fun b hb hO=>⟨hO,hold b hb⟩,fun b cs T fz h=>⟨cs,_,by rw [hold b (Array.getElem?_eq_some_iff.1 h).1];exact h,rfl⟩⟩ rfl rfl rfl hold;have hF1:Fle C F (Fra.subZ ρ s.H w1 F.nt X1 (fun b=>b=l) ([d].map (fun r=>({ target:=.collected r,args:=#[] }:Deferred))++F.df)):=by
  refine Fle.subZ mo (fun b hb=>.inl hb) (fun b hb=>.inl ?_) [d] (by simp) fun r hr=>?_
  ·have:=m.size
   rw [hb];simp only [l];omega
  ·simp only [List.mem_singleton] at hr
   subst hr;refine ⟨m.size,by simp only [d];omega,.inr (.inr rfl),⟨by simp only [d,l];omega,fun e he h=>?_⟩,hdw⟩
   have:=hown e he d h
   simp only [d] at this;omega
 have hB1:=hB.trans hF1;generalize hF1d:Fra.subZ ρ s.H w1 F.nt X1 (fun b=>b=l) ([d].map (fun r=>({ target:=.collected r,args:=#[] }:Deferred))++F.df)=F1 at m1 hF1 hB1;have hF1X:F1.X=X1:=by rw [← hF1d];rfl
 have hF1W:F1.Wr l:=by rw [← hF1d];exact .inr rfl
 have hXl:F1.X l:=by rw [hF1X];exact .inr (.inl rfl)
 have henv1:∀ t,Rep ρ (Own F1.X ρ s.H) w1 (s.env.get t) (a.tmps.getD t undef):=fun t=>by rw [hF1X];exact (hs.env t).mono x
 have hc:=hiter (fun ρ' O w'=>Ext ρ (Own F1.X ρ s.H) w1 ρ' O w') l R Since.ext fun ds H n Φ hY=>by
  obtain ⟨q1,q2⟩:=hbody l ds H n Φ hY;exact round_ok (nt:=B.nt) (by rw [hs.nt];exact hB.nt) hps hd.2.1 hd.2.2 henv1 q1 q2
 have hargs:(fs ++ #[Value.func (.yield l) #[] #[]]++cs).size=(first++[D.clo (.yield l) [] []]++captured).length:=by simp [hnf,hnc];omega
 have hcall:=hc.2 F1 ρ w1 (fs ++ #[Value.func (.yield l) #[] #[]]++cs) m1 hXl hng (.refl _ _ _) hlw hs.fresh hs.gen hargs fun i dd hdd=>by
  rw [List.append_assoc] at hdd;rw [Array.append_assoc];rcases Nat.lt_or_ge i first.length with hi|hi
  ·rw [List.getElem?_append_left hi] at hdd
   have:(fs++(#[Value.func (.yield l) #[] #[]]++cs)).getD i undef=fs.getD i undef:=by
    simp only [Array.getD_eq_getD_getElem?];rw [Array.getElem?_append_left (by omega)]
   rw [this,hF1X];exact (hr1 i dd hdd).mono x
  ·rw [List.getElem?_append_right hi] at hdd
   have e1:(fs++(#[Value.func (.yield l) #[] #[]]++cs)).getD i undef=(#[Value.func (.yield l) #[] #[]]++cs).getD (i - first.length) undef:=by
    simp only [Array.getD_eq_getD_getElem?];rw [Array.getElem?_append_right (by omega),hnf]
   rw [e1];cases hk:i - first.length with
   | zero =>
    rw [hk] at hdd;simp at hdd;subst hdd
    have:(#[Value.func (.yield l) #[] #[]]++cs).getD 0 undef=Value.func (.yield l) #[] #[]:=by
     rw [Array.getD_eq_getD_getElem?,Array.getElem?_append_left (by simp)];rfl
    rw [this];exact .clo rfl rfl (by simp) (by simp)
   | succ k =>
    rw [hk] at hdd;have hdd:captured[k]? = some dd:=by simpa using hdd
    have:(#[Value.func (.yield l) #[] #[]]++cs).getD (k+1) undef=cs.getD k undef:=by
     simp only [Array.getD_eq_getD_getElem?];rw [Array.getElem?_append_right (by simp)];simp
    rw [this,hF1X];exact (hr2 k dd hdd).mono x
 refine ⟨l,[{ target:=.collected d,args:=#[] }],w1,{ target:=.fn (.func fi) cs,args:=fs ++ #[Value.func (.yield l) #[] #[]] },w1,fi,fs ++ #[Value.func (.yield l) #[] #[]]++cs,w1,run_enterLoop_outer _ _ _ _ _,?_,fun _ _=>trivial,?_,fw_depth,calls_fw.2 (hcall.mono ?_)⟩
 ·unfold resolve
  simp only [hv];have e:(#[Operand.const (Value.func (.yield l) #[] #[])]).map a.eval = #[Value.func (.yield l) #[] #[]]:=by simp [Act.eval]
  rw [e];rfl
 ·unfold invoke
  exact callFunc_run hc.1 _ w1
 ·rintro e w' ⟨v,j,dd,H',n',ρ',rfl,hΨ,hl',m',x',fr,gn,rep⟩
  have hend':=hend j dd H' n' F1 hΨ;have m'':Mem C F1 ρ' H' w':=wrMono m' rfl rfl rfl (fun b hb=>by
   rcases hb with hb|hb
   ·exact hb
   ·rw [hb];exact hF1W) m1.gw
  have m3:=m''.putL hXl hF1W (r:=R.lp (if j.isNone then .ready else .done) j) hl' (.loop { R.lp (if j.isNone then .ready else .done) j with state:=.exhausted });have x3:=Ext.putL (ρ:=ρ') (O:=Own F1.X ρ' H') (w:=w') (.inl hXl) (r:=R.lp (if j.isNone then .ready else .done) j) hl' (.loop { R.lp (if j.isNone then .ready else .done) j with state:=.exhausted });refine ⟨j,_,run_endLoop (r:=R.lp (if j.isNone then .ready else .done) j) hl' (by cases j<;>simp [LR.lp]),?_⟩;generalize w'.putObj l (.loop { R.lp (if j.isNone then .ready else .done) j with state:=.exhausted })=w3 at m3 x3 ⊢;have sat:Sat C F1 ρ' ⟨s.env,H',n'⟩ { a with defers:=[{ target:=.collected d,args:=#[] }]++a.defers } w3:=by
   refine ⟨m3,fr,gn,fun t=>((henv1 t).mono x').mono x3,?_,?_⟩
   ·show a.tmps.size=_
    rw [hs.nt,hF1.nt]
   ·show _++a.defers=_
    rw [hs.dfr,← hF1d];rfl
  cases j with
  | none=>exact ⟨F1,_,ρ',hB1,hend',sat⟩
  | some c =>
   cases c<;>first|exact hend'.elim|skip
   ·exact wpIn_exit ⟨F1,_,ρ',hB1,hend',sat⟩
   ·exact wpIn_goto ⟨F1,_,ρ',hB1,hend',sat⟩
   ·exact wpIn_ret ⟨F1,_,ρ',hB1,hend',sat⟩
end
end Go.Ide
namespace Go.Ide
open Go.RowKit
section
variable {C:Ctx} {X:EV} {B F:Fra} {ops:Array Oper} {s:St} {rd:Option Nat} {Q:Exit→Fra→St→Prop}
structure IterAt (C:Ctx)(B F:Fra)(k g:Nat)(str:ByteArray)(pos:Nat):Prop where
 ex:∃ it,F.r0 k g=some it∧F.X it∧¬ F.Wr it∧F.w0.heap[it]? = some (.stringIter str pos)∧C.nG≤it∧∀ {ρ:Lk} {H:Hp} {w:World},Mem C (F.wr it) ρ H w→Mem C B ρ H w
 df:F.df=B.df
theorem Ext.putX {ρ:Lk}{O:Nat→Prop}{w:World}{l:Nat}(hO:O l){o0:Obj}(hc:∀ cs T fz,o0≠.cells cs T fz)(h:w.heap[l]? = some o0)(o:Obj):Ext ρ O w ρ O (w.putObj l o) :=
 ⟨by rw [(putObj_rest w l o).2.2.2];exact Nat.le_refl _,fun _ _ _ h=>h,fun b hb hb'=>⟨hb',World.putObj_heap_other fun hbl=>hb' (by rw [hbl];exact hO)⟩,fun b cs T fz hh=>⟨cs,_,by
  rw [World.putObj_heap_other fun hbl=>by rw [hbl,h] at hh;exact hc _ _ _ (Option.some.inj hh)];exact hh,rfl⟩⟩
theorem Mem.putX {ρ:Lk}{H:Hp}{w:World}{l:Nat}(m:Mem C F ρ H w)(hX:F.X l)(hW:F.Wr l){o0:Obj}(hc:∀ cs T fz,o0≠.cells cs T fz)(h:w.heap[l]? = some o0)(o:Obj):Mem C F ρ H (w.putObj l o):=by
 have x:=Ext.putX (ρ:=ρ) (O:=Own F.X ρ H) (.inl hX) hc h o;exact ⟨⟨fun e he=>by
  rcases m.hok.ent e he with h|⟨b,cs,a1,a2,a3⟩
  ·exact .inl h
  ·exact .inr ⟨b,cs,a1,by rw [World.putObj_heap_other fun hb=>(m.hok.own e he b a1).1 (by rw [hb];exact hX)];exact a2,a3.mono x⟩,m.hok.inj,m.hok.own⟩,
  m.os,m.tape,m.output,by rw [(putObj_rest w l o).2.2.2];exact m.size,fun b hb hw=>by rw [World.putObj_heap_other fun hbl=>hw (by rw [hbl];exact hW)];exact m.blk b hb hw,m.xlt,m.g0,m.gn,m.gw,m.lnk,shp_ext m.shp x⟩
def rangeW (C:Ctx)(X:EV)(B:Fra)(kb:Nat)(ops:Array Oper)(ir:Nat)(Q:Exit→Fra→St→Prop)(s:St):Prop:=match nthO ops.toList ir with
 | some o=>match o.guard with
  | none=>match o.op with
   | .range t x=>match X.tt t with
    | some i=>match i.ti with
     | .string=>match gOpd s.env x with
      | .prim (.string str)=>∀ F':Fra,IterAt C B F' kb s.n str 0→Q .normal F' ⟨putE s.env o.dst (.optr kb s.n 0 0 0),s.H,s.n+1⟩
      | _=>False
     | _=>False
    | none=>False
   | _=>False
  | some _=>False
 | none=>False
theorem Fle.refine {F2:Fra}{ρ':Lk}{H':Hp}{w':World}{X':Nat→Prop}(hB:Fle C B F)(hdf:F.df=B.df)(hX:∀ b,F.X b→X' b)(hsz:B.w0.heap.size≤w'.heap.size)(hm:∀ {ρ:Lk} {H:Hp} {w:World},Mem C (Fra.subZ ρ' H' w' F.nt X' (fun _=>False) F.df) ρ H w→Mem C B ρ H w)
  (h2:F2=Fra.subZ ρ' H' w' F.nt X' (fun _=>False) F.df):Fle C B F2:=by
 subst h2;exact ⟨hB.nt,hsz,hm,fun b hb=>hX b (hB.X b hb),[],hdf,[],rfl,.nil,by simp⟩
theorem OkS.regRange {i:Nat}(hX:WOk C X)(kb:Nat)(l1:List Nat)(ir:Nat)(hl:List.range ops.size=l1++[ir])(hnd:noDef ops.toList=true)(hFB:F=B)
  (h:wpSuf C X kb ops l1 s True fun acc s1=>acc∧rangeW C X B (kb+ir) ops ir Q s1):OkS C B rd F (.region i ops false) s Q:=by
 subst hFB;refine ⟨fun hB hd ρ a w hs=>wpIn_region ?_⟩;rw [hl];have hlt:∀ j∈l1++[ir],j<ops.size:=fun j hj=>by rw [← hl] at hj;exact List.mem_range.1 hj
 have h1:=(wpSuf_ok (F:=F) (K':=rangeW C X F (kb+ir) ops ir Q) hX (fun acc s h=>h) h).2.run (fun j hj=>hlt j (by simp [hj])) (dst_reg hB hd) hs;refine wpOps_in (rd:=rd) (Q:=PostF C F Q) (l2:=[ir]) (fun e a w h=>?_) (noDef_at hnd) _ a w h1;obtain ⟨h0,s1,ρ1,h,hs1⟩:=h;refine ⟨h0,?_⟩;unfold rangeW at h;split at h<;>first|exact h.elim|skip
 rename_i o ho;split at h<;>first|exact h.elim|skip
 rename_i hgd;split at h<;>first|exact h.elim|skip
 rename_i t x hop;split at h<;>first|exact h.elim|skip
 rename_i ti hti;split at h<;>first|exact h.elim|skip
 rename_i hstr;split at h<;>first|exact h.elim|skip
 rename_i str hx;have ho:=nthO_arr ho;have hdo:dstOk F.nt o=true:=List.all_eq_true.1 (show ops.toList.all (dstOk F.nt)=true from hd) o (Array.mem_toList_iff.2 (Array.mem_of_getElem? ho));simp only [wpOpsIn,ho];rw [if_pos (by unfold Region.wanted;rw [hgd])];have hxv:a.eval x=.string str:=by
  have:=gOpd_rep hs1.env x
  rw [hx] at this;generalize a.eval x=v at this;cases this;rfl
 have hrun:(execOp a.eval o).run C.P w=.ok (.value (.pointer (some ⟨w.heap.size,0,none⟩))) (w.alloc (.stringIter str 0)):=by
  unfold execOp;simp only [hop];rw [run_bind]
  have:(Instr.range t (a.eval x)).run C.P w=.ok (.pointer (some ⟨w.heap.size,0,none⟩)) (w.alloc (.stringIter str 0)):=by
   unfold Instr.range;rw [run_bind,run_underlying (tinfo_string (hX.tt _ _ hti) hstr),hxv];dsimp only;rw [run_bind,run_pure];dsimp only;rw [run_bind,run_newObj_alloc];rfl
  rw [this];rfl
 refine wpIn_value hrun ?_;show PostF C F Q .normal _ _;have m:=hs1.mem
 let it:=w.heap.size
 let X1:Nat→Prop:=fun b=>F.X b∨b=it
 have hown:∀ e∈s1.H,∀ b,ρ1 e.k e.g=some b→b<w.heap.size:=fun e he b hb=>m.lt he hb
 have hfr:ρ1 (kb+ir) s1.n=none:=hs1.fresh _ _ (Nat.le_refl _)
 let ρ2:=ρ1.put (kb+ir) s1.n it
 have hput:∀ k g b,ρ1 k g=some b→ρ2 k g=some b:=fun k g b hb=>Lk.put_old hfr hb
 have hown2:∀ e∈s1.H,∀ b,ρ2 e.k e.g=some b→ρ1 e.k e.g=some b:=fun e he b hb=>by
  have hg:=hs1.gen e he
  have:ρ2 e.k e.g=ρ1 e.k e.g:=by
   show (if e.k=kb+ir∧e.g=s1.n then some it else ρ1 e.k e.g)=_;rw [if_neg (by omega)]
  rw [← this];exact hb
 have hw1:(w.alloc (.stringIter str 0)).heap.size=w.heap.size+1:=World.size_alloc ..;have hold:∀ b,b<w.heap.size→(w.alloc (.stringIter str 0)).heap[b]? = w.heap[b]?:=fun b hb=>by rw [heap_alloc,if_neg (by omega)]
 have xx:∀ X':Nat→Prop,(∀ b,b<w.heap.size→X' b→F.X b)→Ext ρ1 (Own F.X ρ1 s1.H) w ρ2 (Own X' ρ2 s1.H) (w.alloc (.stringIter str 0)):=fun X' hX'=>by
  refine ⟨by omega,hput,fun b hb hO=>⟨?_,hold b hb⟩,fun b cs T fz hc=>⟨cs,_,by rw [hold b (Array.getElem?_eq_some_iff.1 hc).1];exact hc,rfl⟩⟩;rintro (h|⟨e,he,h⟩)
  ·exact hO (.inl (hX' b hb h))
  ·exact hO (.inr ⟨e,he,hown2 e he b h⟩)
 have m1:Mem C F ρ2 s1.H (w.alloc (.stringIter str 0)):=by
  have x1:=xx F.X fun _ _ h=>h
  refine ⟨⟨fun e he=>?_,m.hok.inj.imp_of_mem fun {e e'} he he' h b b' hb hb'=>h b b' (hown2 e he b hb) (hown2 e' he' b' hb'),fun e he b hb=>m.hok.own e he b (hown2 e he b hb)⟩,m.os,m.tape,m.output,by have:=m.size;omega,
   fun b hb hW=>by rw [hold b (Nat.lt_of_lt_of_le hb m.size)];exact m.blk b hb hW,m.xlt,m.g0,m.gn,m.gw,fun k g b h=>hput _ _ _ (m.lnk k g b h),shp_ext m.shp x1⟩
  rcases m.hok.ent e he with ⟨h1,h2⟩|⟨b,cs,a1,a2,a3⟩
  ·refine .inl ⟨h1,?_⟩
   cases hb:ρ2 e.k e.g with
   | none=>rfl
   | some b=>rw [hown2 e he b hb] at h2;cases h2
  ·exact .inr ⟨b,cs,hput _ _ _ a1,by rw [hold b (m.lt he a1)];exact a2,a3.mono x1⟩
 have hitm:∀ e∈s1.H,∀ b,ρ2 e.k e.g=some b→b≠it:=fun e he b hb=>by have:=hown e he b (hown2 e he b hb);simp only [it];omega
 have hX1lt:∀ b,X1 b→b<(w.alloc (.stringIter str 0)).heap.size:=fun b hb=>by
  rcases hb with h|h
  ·have:=m.xlt b h;have:=m.size;omega
  ·simp only [it] at h;omega
 have hX1o:∀ e∈s1.H,∀ b,ρ2 e.k e.g=some b→¬ X1 b:=fun e he b hb hb'=>by
  rcases hb' with h|h
  ·exact (m.hok.own e he b (hown2 e he b hb)).1 h
  ·exact hitm e he b hb h
 have e2:∀ e∈s1.H,∀ b,Own F.X ρ2 s1.H b→Own X1 ρ2 s1.H b:=fun _ _ _ h=>h.imp .inl id
 have hng:C.nG≤it:=by have:=m.gn;have:=m.size;simp only [it];omega
 have ent:∀ Z:Nat→Prop,(∀ b,Z b→b=it)→Mem C (Fra.subZ ρ2 s1.H (w.alloc (.stringIter str 0)) F.nt X1 Z F.df) ρ2 s1.H (w.alloc (.stringIter str 0)):=fun Z hZ=>by
  refine ⟨⟨fun e he=>?_,m1.hok.inj,fun e he b hb=>⟨hX1o e he b hb,.inr (.inl ⟨e,he,hb⟩)⟩⟩,rfl,rfl,rfl,Nat.le_refl _,fun _ _ _=>rfl,hX1lt,m1.g,Nat.le_trans m1.gn m1.size,fun b hb=>?_,fun _ _ _ h=>h,fun _ cs _ _ h=>⟨cs,_,h,rfl⟩⟩
  ·rcases m.hok.ent e he with ⟨h1,h2⟩|⟨b,cs,a1,a2,a3⟩
   ·rcases m1.hok.ent e he with h|⟨b,cs,b1,_⟩
    ·exact .inl h
    ·rw [hown2 e he b b1] at h2;cases h2
   ·exact .inr ⟨b,cs,hput _ _ _ a1,by rw [hold b (m.lt he a1)];exact a2,a3.mono (xx X1 fun b hb h=>h.resolve_right fun h=>by simp only [it] at h;omega)⟩
  ·rcases hb with ⟨e,he,hb⟩|hb
   ·rcases (m1.hok.own e he b hb).2 with h|h
    ·exact Nat.le_trans m1.gn h
    ·exact m1.gw b h
   ·rw [hZ b hb];exact hng
 let F2:=Fra.subZ ρ2 s1.H (w.alloc (.stringIter str 0)) F.nt X1 (fun _=>False) F.df
 have upZ:∀ {ρ:Lk} {H:Hp} {w':World},Mem C (F2.wr it) ρ H w'→Mem C F ρ H w':=fun {ρ H w'} m'=>by
  have m'':Mem C (Fra.subZ ρ2 s1.H (w.alloc (.stringIter str 0)) F.nt X1 (fun b=>b=it) F.df) ρ H w':=wrMono m' rfl rfl rfl (fun b hb=>by
   rcases hb with (hb|hb)|hb
   ·exact .inl hb
   ·exact hb.elim
   ·exact .inr hb) (ent _ fun _ h=>h).gw
  exact (m1.leaveZ (fun b hb=>.inl hb) (fun b hb=>.inl (by rw [hb];exact m.size)) m'').1
 have hit:IterAt C F F2 (kb+ir) s1.n str 0:=⟨⟨it,Lk.put_same ..,.inr rfl,fun h=>by
  rcases h with ⟨e,he,h⟩|h
  ·exact hitm e he it h rfl
  ·exact h,by show (w.alloc _).heap[it]? = _;rw [heap_alloc,if_pos rfl],hng,upZ⟩,rfl⟩
 have hF2:Fle C F F2:=Fle.refine hB rfl (fun b hb=>.inl hb) (by have:=m.size;show _≤(w.alloc _).heap.size;omega) (fun m'=>upZ (m'.wr hng)) rfl;refine ⟨F2,_,ρ2,hF2,h F2 hit,?_⟩;have hs2:Sat C F2 ρ2 ⟨s1.env,s1.H,s1.n+1⟩ a (w.alloc (.stringIter str 0)):=⟨ent _ fun _ h=>h.elim,fun k g hg=>by
  have hg:s1.n+1≤g:=hg;show (if k=kb+ir∧g=s1.n then some it else ρ1 k g)=none;rw [if_neg (by omega)];exact hs1.fresh k g (by omega),fun e he=>Nat.lt_succ_of_lt (hs1.gen e he),fun t=>(hs1.env t).mono (xx X1 fun b hb h=>h.resolve_right fun h=>by simp only [it] at h;omega),hs1.nt,hs1.dfr⟩
 exact hs2.put (H':=s1.H) hs2.mem (.refl _ _ _) hs2.fresh hs2.gen (.optr (Lk.put_same ..)) hdo
def nextW (C:Ctx)(X:EV)(B F:Fra)(kb:Nat)(ops:Array Oper)(i0:Nat)(l2:List Nat)(str:ByteArray)(pos:Nat)(Q:Exit→Fra→St→Prop)(s:St):Prop:=match nthO ops.toList i0 with
 | some o=>match o.guard with
  | none=>match o.op with
   | .next x true=>match gOpd s.env x with
    | .optr k g 0 0 0=>IterAt C B F k g str pos ∧
     (pos<str.size→∀ F':Fra,IterAt C B F' k g str (pos+(Utf8.decode str pos).2)→wpSuf C X kb ops l2 ⟨putE s.env o.dst (.tup [boo true,i64 pos,.prim (.int .i32 (Utf8.decode str pos).1)]),s.H,s.n+1⟩ True fun acc s=>acc∧Q .normal F' s) ∧
     (¬ pos<str.size→wpSuf C X kb ops l2 ⟨putE s.env o.dst (.tup [boo false]),s.H,s.n+1⟩ True fun acc s=>acc∧Q .normal F s)
    | _=>False
   | _=>False
  | some _=>False
 | none=>False
theorem OkS.regNext {i:Nat}(hX:WOk C X)(kb:Nat)(i0:Nat)(l2:List Nat)(hl:List.range ops.size=i0::l2)(hnd:noDef ops.toList=true)(str:ByteArray)(pos:Nat)
  (h:nextW C X B F kb ops i0 l2 str pos Q s):OkS C B rd F (.region i ops false) s Q:=by
 refine ⟨fun hB hd ρ a w hs=>wpIn_region ?_⟩;rw [hl];have hlt:∀ j∈i0::l2,j<ops.size:=fun j hj=>by rw [← hl] at hj;exact List.mem_range.1 hj
 unfold nextW at h;split at h<;>first|exact h.elim|skip
 rename_i o ho;split at h<;>first|exact h.elim|skip
 rename_i hgd;split at h<;>first|exact h.elim|skip
 rename_i x hop;split at h<;>first|exact h.elim|skip
 rename_i k g hx;obtain ⟨⟨⟨it,i1,i2,i3,i4,i5,i6⟩,idf⟩,h1,h2⟩:=h;have ho:=nthO_arr ho;have hdo:dstOk B.nt o=true:=List.all_eq_true.1 (show ops.toList.all (dstOk B.nt)=true from hd) o (Array.mem_toList_iff.2 (Array.mem_of_getElem? ho));simp only [wpOpsIn,ho];rw [if_pos (by unfold Region.wanted;rw [hgd])];have m:=hs.mem;have hlk:ρ k g=some it:=m.lnk _ _ _ i1;have hxv:a.eval x=.pointer (some ⟨it,0,none⟩):=by
  have:=gOpd_rep hs.env x
  rw [hx] at this;generalize a.eval x=v at this;cases this with
  | optr hr=>rw [hlk] at hr;cases hr;rfl
 have hob:w.heap[it]? = some (.stringIter str pos):=(m.blk it (m.xlt it i2) i3).trans i4;have hget:(getObj it).run C.P w=.ok (.stringIter str pos) w:=by
  simp [getObj,Sem.run,hob]
 by_cases hp:pos<str.size
 ·have hrun:(execOp a.eval o).run C.P w=.ok (.value (.tuple #[.bool true,.int .i64 pos,.int .i32 (Utf8.decode str pos).1])) (w.putObj it (.stringIter str (pos+(Utf8.decode str pos).2))):=by
   unfold execOp;simp only [hop];rw [run_bind]
   have:(Instr.next (a.eval x) true o.type).run C.P w=.ok (.tuple #[.bool true,.int .i64 pos,.int .i32 (Utf8.decode str pos).1]) (w.putObj it (.stringIter str (pos+(Utf8.decode str pos).2))):=by
    unfold Instr.next;rw [hxv];simp only [];rw [run_bind,hget];dsimp only;rw [if_pos hp];rw [run_bind]
    have:(setObj it (.stringIter str (pos+(Utf8.decode str pos).2))).run C.P w=.ok () (w.putObj it (.stringIter str (pos+(Utf8.decode str pos).2))):=by
     simp [setObj,Sem.run,hob,World.putObj]
    rw [this];rfl
   rw [this];rfl
  refine wpIn_value hrun ?_;have mp:=(m.wr i5).putX i2 (.inr rfl) (o0:=.stringIter str pos) (by simp) hob (.stringIter str (pos+(Utf8.decode str pos).2));have xp:=Ext.putX (ρ:=ρ) (O:=Own F.X ρ s.H) (w:=w) (.inl i2) (o0:=.stringIter str pos) (by simp) hob (.stringIter str (pos+(Utf8.decode str pos).2));have hitw:it<w.heap.size:=(Array.getElem?_eq_some_iff.1 hob).1;have hit':(w.putObj it (.stringIter str (pos+(Utf8.decode str pos).2))).heap[it]? = some (.stringIter str (pos+(Utf8.decode str pos).2)):=World.putObj_heap_same hitw;have hszp:=(putObj_rest w it (.stringIter str (pos+(Utf8.decode str pos).2))).2.2.2;generalize w.putObj it (.stringIter str (pos+(Utf8.decode str pos).2))=w2 at mp xp hit' hszp ⊢
  let F2:=Fra.subZ ρ s.H w2 F.nt F.X (fun _=>False) F.df
  have m2:Mem C F2 ρ s.H w2:=mp.enterZ (.refl _ _ _) rfl rfl rfl (fun _ _ _=>rfl) (fun _ _ _ _ h=>h) (fun b hb=>Nat.lt_of_lt_of_le (mp.xlt b hb) mp.size) (fun e he b hb=>(mp.hok.own e he b hb).1) (fun _ h=>h.elim) _ _;have mZ:Mem C (Fra.subZ ρ s.H w2 F.nt F.X (fun b=>b=it) F.df) ρ s.H w2:=mp.enterZ (.refl _ _ _) rfl rfl rfl (fun _ _ _=>rfl) (fun e he b hb hb'=>(mp.hok.own e he b hb).1 (by rw [hb'];exact i2)) (fun b hb=>Nat.lt_of_lt_of_le (mp.xlt b hb) mp.size) (fun e he b hb=>(mp.hok.own e he b hb).1) (fun b hb=>by rw [hb];exact i5) _ _;have upZ:∀ {ρ':Lk} {H':Hp} {w':World},Mem C (F2.wr it) ρ' H' w'→Mem C B ρ' H' w':=fun {ρ' H' w'} m'=>by
   have m'':Mem C (Fra.subZ ρ s.H w2 F.nt F.X (fun b=>b=it) F.df) ρ' H' w':=wrMono m' rfl rfl rfl (fun b hb=>by
    rcases hb with (hb|hb)|hb
    ·exact .inl hb
    ·exact hb.elim
    ·exact .inr hb) mZ.gw
   exact i6 (mp.leaveZ (fun _ h=>h) (fun b hb=>.inr (.inr hb)) m'').1
  have hiter:IterAt C B F2 k g str (pos+(Utf8.decode str pos).2):=⟨⟨it,hlk,i2,fun h=>by
   rcases h with ⟨e,he,h⟩|h
   ·exact (mp.hok.own e he it h).1 i2
   ·exact h,hit',i5,upZ⟩,idf⟩
  have hB2:Fle C B F2:=Fle.refine hB idf (fun _ h=>h) (by rw [hszp];exact Nat.le_trans hB.sz m.size) (fun m'=>upZ (m'.wr i5)) rfl;have hs1:Sat C F2 ρ ⟨s.env,s.H,s.n+1⟩ a w2:=⟨m2,fun k g hg=>hs.fresh k g (by have:s.n+1≤g:=hg;omega),fun e he=>Nat.lt_succ_of_lt (hs.gen e he),fun t=>(hs.env t).mono xp,hs.nt,hs.dfr⟩
  have hs2:=hs1.put (H':=s.H) (o:=o) (d:=.tup [boo true,i64 pos,.prim (.int .i32 (Utf8.decode str pos).1)]) (v:=.tuple #[.bool true,.int .i64 pos,.int .i32 (Utf8.decode str pos).1]) hs1.mem (.refl _ _ _) hs1.fresh hs1.gen (.tup rfl fun i d hd=>by
   match i with
   | 0=>simp at hd;subst hd;exact .prim _
   | 1=>simp at hd;subst hd;exact .prim _
   | 2=>simp at hd;subst hd;exact .prim _
   | n+3=>simp at hd) (by rw [show F2.nt=B.nt from hB.nt];exact hdo)
  have h3:=(wpSuf_ok (F:=F2) (K':=Q .normal F2) hX (fun acc s h=>h) (h1 hp F2 hiter)).2.run (fun j hj=>hlt j (by simp [hj])) (dst_reg hB2 hd) hs2
  have:=wpOps_in (rd:=rd) (Q:=PostF C B Q) (l2:=[]) (fun _ _ _ h=>fin_post hB2 (fun _ h=>h) h) (noDef_at hnd) _ _ _ h3
  rwa [List.append_nil] at this
 ·have hrun:(execOp a.eval o).run C.P w=.ok (.value (.tuple #[.bool false])) w:=by
   unfold execOp;simp only [hop];rw [run_bind]
   have:(Instr.next (a.eval x) true o.type).run C.P w=.ok (.tuple #[.bool false]) w:=by
    unfold Instr.next;rw [hxv];simp only [];rw [run_bind,hget];dsimp only;rw [if_neg hp];rfl
   rw [this];rfl
  refine wpIn_value hrun ?_;have hs1:Sat C F ρ ⟨s.env,s.H,s.n+1⟩ a w:=⟨m,fun k g hg=>hs.fresh k g (by have:s.n+1≤g:=hg;omega),fun e he=>Nat.lt_succ_of_lt (hs.gen e he),hs.env,hs.nt,hs.dfr⟩
  have hs2:=hs1.put (H':=s.H) (o:=o) (d:=.tup [boo false]) (v:=.tuple #[.bool false]) hs1.mem (.refl _ _ _) hs1.fresh hs1.gen (.tup rfl fun i d hd=>by
   match i with
   | 0=>simp at hd;subst hd;exact .prim _
   | n+1=>simp at hd) (by rw [hB.nt];exact hdo)
  have h3:=(wpSuf_ok (F:=F) (K':=Q .normal F) hX (fun acc s h=>h) (h2 hp)).2.run (fun j hj=>hlt j (by simp [hj])) (dst_reg hB hd) hs2
  have:=wpOps_in (rd:=rd) (Q:=PostF C B Q) (l2:=[]) (fun _ _ _ h=>fin_post hB (fun _ h=>h) h) (noDef_at hnd) _ _ _ h3
  rwa [List.append_nil] at this
end
end Go.Ide
namespace Go.Ide
open Go.RowKit
section
variable {ops:Array Oper}
def okClo (ops:Array Oper):List (Nat × List Nat)→Bool
 | []=>true
 | (i,l)::r=>okClo ops r&&l.all fun j=>memB j (depsOf ops i)||(depsOf ops i).any fun k=>memB j (look2 r k)
theorem okClo_reach:∀ {clo:List (Nat × List Nat)},okClo ops clo=true→∀ i j,j∈look2 clo i→Reach ops i j
 | [],_,i,j,hj=>by simp [look2] at hj
 | (k,l)::r,h,i,j,hj=>by
  simp only [okClo,Bool.and_eq_true,List.all_eq_true] at h;unfold look2 at hj;split at hj
  ·rename_i hk
   have:=Nat.eq_of_beq_eq_true hk
   subst this
   have:=h.2 j hj
   simp only [Bool.or_eq_true,List.any_eq_true] at this;rcases this with h1|⟨q,h1,h2⟩
   ·exact .dep (memB_iff.1 h1)
   ·exact .step h1 (okClo_reach h.1 q j (memB_iff.1 h2))
  ·exact okClo_reach h.1 i j hj
theorem cloT_full:∀ (l done:List Nat) (acc:List (Nat × List Nat)),firstB ops done l=true→(∀ k∈done,∀ j,Reach ops k j→j∈look2 acc k) →
  ∀ i,(i∈done∨i∈l)→∀ j,Reach ops i j→j∈look2 (cloT ops l acc) i
 | [],done,acc,_,h,i,hi,j,hr=>h i (hi.resolve_right (by simp)) j hr
 | i::l,done,acc,hf,h,i',hi,j,hr=>by
  simp only [firstB,Bool.and_eq_true] at hf;refine cloT_full l (i::done) _ hf.2 (fun k hk j hr=>?_) i' ?_ j hr
  ·unfold look2
   split
   ·rename_i hk'
    have:=Nat.eq_of_beq_eq_true hk'
    subst this;refine unionL_mem.2 (.inl ?_);rw [List.mem_append];cases hr with
    | dep h1=>exact .inl h1
    | step h1 h2=>exact .inr (List.mem_flatMap.2 ⟨_,h1,h _ (allMem_iff.1 hf.1 _ h1) _ h2⟩)
   ·rename_i hk'
    rcases List.mem_cons.1 hk with rfl|hk
    ·simp at hk'
    ·exact h k hk j hr
  ·rcases hi with hi|hi
   ·exact .inl (List.mem_cons_of_mem _ hi)
   ·rcases List.mem_cons.1 hi with rfl|hi
    ·exact .inl List.mem_cons_self
    ·exact .inr hi
theorem preB_mono {all:List Nat}{clo clo':List (Nat × List Nat)}(h:∀ i j,i∈all→j∈look2 clo i→j∈look2 clo' i):∀ (l done:List Nat),(∀ i∈l,i∈all)→preB ops all clo done l=true→preB ops all clo' done l=true
 | [],_,_,_=>rfl
 | i::l,done,hl,hp=>by
  simp only [preB,Bool.and_eq_true] at hp ⊢;refine ⟨?_,preB_mono h l _ (fun k hk=>hl k (List.mem_cons_of_mem _ hk)) hp.2⟩;have hp1:=hp.1;split at hp1
  ·rw [List.all_eq_true] at hp1 ⊢
   intro t ht
   have:=hp1 t ht
   rw [List.all_eq_true] at this ⊢;intro j hj
   have:=this j hj
   simp only [Bool.or_eq_true,Bool.and_eq_true,Bool.not_eq_true'] at this ⊢;rcases this with h1|⟨h1,h2⟩|⟨⟨h1,h2⟩,h3⟩
   ·exact .inl h1
   ·exact .inr (.inl ⟨memB_iff.2 (h _ _ (hl i List.mem_cons_self) (memB_iff.1 h1)),h2⟩)
   ·exact .inr (.inr ⟨⟨memB_iff.2 (h _ _ hj (memB_iff.1 h1)),h2⟩,h3⟩)
  ·cases hp1
theorem sufB_mono {clo clo':List (Nat × List Nat)}{all:List Nat}(h:∀ i j,i∈all→j∈look2 clo i→j∈look2 clo' i):∀ (l done:List Nat),(∀ i∈l,i∈all)→sufB clo done l=true→sufB clo' done l=true
 | [],_,_,_=>rfl
 | i::l,done,hl,hp=>by
  simp only [sufB,Bool.and_eq_true] at hp ⊢;exact ⟨allMem_iff.2 fun k hk=>h _ _ (hl i List.mem_cons_self) (allMem_iff.1 hp.1 k hk),sufB_mono h l _ (fun k hk=>hl k (List.mem_cons_of_mem _ hk)) hp.2⟩
def chkC (ops:Array Oper)(pre suf:List Nat)(clo:List (Nat × List Nat)):Bool :=
 nodupB (pre++suf)&&allMem (List.range ops.size) (pre++suf)&&(pre++suf).all (fun i=>Nat.blt i ops.size)&&firstB ops [] (pre++suf) &&
 nodupB (pre.flatMap (dstsB ops))&&preB ops pre clo [] pre&&sufB clo pre suf
theorem chkC_ok {pre suf:List Nat}(clo:List (Nat × List Nat))(h:(chkC ops pre suf clo&&okClo ops clo&&noDef ops.toList)=true):(chkD ops pre suf&&noDef ops.toList)=true:=by
 simp only [chkC,Bool.and_eq_true] at h;obtain ⟨⟨⟨⟨⟨⟨⟨⟨c1,c2⟩,c3⟩,c4⟩,c5⟩,c6⟩,c7⟩,c8⟩,c9⟩:=h;have key:∀ i j,i∈pre++suf→j∈look2 clo i→j∈look2 (cloT ops (pre++suf) []) i:=fun i j hi hj=>cloT_full (pre++suf) [] [] c4 (by simp) i (.inr hi) j (okClo_reach c8 i j hj)
 simp only [chkD,Bool.and_eq_true];exact ⟨⟨⟨⟨⟨⟨⟨c1,c2⟩,c3⟩,c4⟩,c5⟩,preB_mono (fun i j hi hj=>key i j (List.mem_append_left _ hi) hj) _ _ (fun _ h=>h) c6⟩,
  sufB_mono (all:=suf) (fun i j hi hj=>key i j (List.mem_append_right _ hi) hj) _ _ (fun _ h=>h) c7⟩,c9⟩
end
end Go.Ide
namespace Go.Ide
open Go.RowKit
section
variable {C:Ctx} {X:EV} {kb:Nat} {ops:Array Oper} {i:Nat} {l:List Nat} {s:St} {acc:Prop} {K:Prop→St→Prop} {o:Oper}
theorem wpSuf_nil (h:K acc s):wpSuf C X kb ops [] s acc K:=h
theorem wpSuf_cons (h:nthO ops.toList i=some o)(hg:o.guard=none)(hk:wpO C X (kb+i) (gOpd s.env) s.H s.n o.op acc fun acc d H n=>wpSuf C X kb ops l ⟨putE s.env o.dst d,H,n⟩ acc K):wpSuf C X kb ops (i::l) s acc K:=by
 unfold wpSuf;simp only [h,hg];exact hk
theorem wpSuf_on {g:Nat × Bool}{b:Bool}(h:nthO ops.toList i=some o)(hg:o.guard=some g)(hw:wantD ops s.env o=some b)(hb:b=true)(ha:acc)
  (hk:wpO C X (kb+i) (gOpd s.env) s.H s.n o.op True fun acc d H n=>wpSuf C X kb ops l ⟨putE s.env o.dst d,H,n⟩ acc K):wpSuf C X kb ops (i::l) s acc K:=by
 unfold wpSuf;simp only [h,hg,hw];subst hb;exact ⟨ha,hk⟩
theorem wpSuf_off {g:Nat × Bool}{b:Bool}(h:nthO ops.toList i=some o)(hg:o.guard=some g)(hw:wantD ops s.env o=some b)(hb:b=false)(ha:acc)
  (hk:wpSuf C X kb ops l ⟨putE s.env o.dst (.prim (.tuple #[])),s.H,s.n+1⟩ True K):wpSuf C X kb ops (i::l) s acc K:=by
 unfold wpSuf;simp only [h,hg,hw];subst hb;exact ⟨ha,hk⟩
section
variable {g:Operand→D} {H:Hp} {n:Nat} {op:Op} {k:Prop→D→Hp→Nat→Prop}
theorem wpO_det {P:Prop→Prop}{d:D}{H':Hp}{n':Nat}(hs:∀ acc k,wpO C X kb g H n op acc k=k (P acc) d H' n')(hk:k (P acc) d H' n'):wpO C X kb g H n op acc k:=by rw [hs];exact hk
theorem wpO_call {f:Nat}{ds:List D}(hs:∀ acc k,wpO C X kb g H n op acc k=(acc∧CallO C f ds H n fun d H n=>k True d H n))(ha:acc)(hc:CallO C f ds H n fun d H n=>k True d H n):wpO C X kb g H n op acc k:=by
 rw [hs];exact ⟨ha,hc⟩
theorem wpO_ix {es:List D}{j:Int}{sz esz:Nat}{d:D}(hs:∀ acc k,wpO C X kb g H n op acc k=(acc∧(sz=esz∧0≤j)∧∃ d,es[j.toNat]? = some d∧k True (.pptr d) H (n+1)))(ha:acc)(h1:sz=esz∧0≤j)
  (h2:es[j.toNat]? = some d) (hk:k True (.pptr d) H (n+1)):wpO C X kb g H n op acc k:=by
 rw [hs];exact ⟨ha,h1,d,h2,hk⟩
end
section
variable {H:Hp} {n:Nat} {env:Env} {N:Hp} {K:Prop→Env→Hp→Prop}
theorem wpPre_nil (h:K acc env N):wpPre C X kb ops H n [] env N acc K:=h
theorem wpPre_cons (h:nthO ops.toList i=some o)(hg:o.guard=none)(hk:wpE C X (kb+i) (gOpd env) H (n+i) o.op acc fun acc d ne=>wpPre C X kb ops H n l (putE env o.dst d) (putH ne N) acc K):wpPre C X kb ops H n (i::l) env N acc K:=by
 unfold wpPre;simp only [h,hg];exact hk
theorem wpPre_on {g:Nat × Bool}{b:Bool}(h:nthO ops.toList i=some o)(hg:o.guard=some g)(hw:wantD ops env o=some b)(hb:b=true)(ha:acc)
  (hk:wpE C X (kb+i) (gOpd env) H (n+i) o.op True fun acc d ne=>wpPre C X kb ops H n l (putE env o.dst d) (putH ne N) acc K):wpPre C X kb ops H n (i::l) env N acc K:=by
 unfold wpPre;simp only [h,hg,hw];subst hb;exact ⟨ha,hk⟩
theorem wpPre_off {g:Nat × Bool}{b:Bool}(h:nthO ops.toList i=some o)(hg:o.guard=some g)(hw:wantD ops env o=some b)(hb:b=false)(ha:acc)
  (hk:wpPre C X kb ops H n l (putE env o.dst (.prim (.tuple #[]))) N True K):wpPre C X kb ops H n (i::l) env N acc K:=by
 unfold wpPre;simp only [h,hg,hw];subst hb;exact ⟨ha,hk⟩
section
variable {g:Operand→D} {op:Op} {k:Prop→D→Option Ent→Prop}
theorem wpE_det {P:Prop→Prop}{d:D}{ne:Option Ent}(hs:∀ acc k,wpE C X kb g H n op acc k=k (P acc) d ne)(hk:k (P acc) d ne):wpE C X kb g H n op acc k:=by rw [hs];exact hk
theorem wpE_call {f:Nat}{ds:List D}(hs:∀ acc k,wpE C X kb g H n op acc k=(acc∧CallW C f ds fun d=>k True d none))(ha:acc)(hc:CallW C f ds fun d=>k True d none):wpE C X kb g H n op acc k:=by
 rw [hs];exact ⟨ha,hc⟩
theorem wpE_ix {es:List D}{j:Int}{sz esz:Nat}{d:D}(hs:∀ acc k,wpE C X kb g H n op acc k=(acc∧(sz=esz∧0≤j)∧∃ d,es[j.toNat]? = some d∧k True (.pptr d) none))(ha:acc)(h1:sz=esz∧0≤j)
  (h2:es[j.toNat]? = some d) (hk:k True (.pptr d) none):wpE C X kb g H n op acc k:=by
 rw [hs];exact ⟨ha,h1,d,h2,hk⟩
end
end
end
end Go.Ide
namespace Go.Ide
open Go.RowKit
def FzS (H:Hp)(d0 d:D):Prop:=∀ (C:Ctx) (F:Fra) (ρ:Lk) (w:World),Mem C F ρ H w→(∀ b,Own F.X ρ [] b→Own F.X ρ H b)→(∀ e∈H,∀ b,ρ e.k e.g=some b→¬ Own F.X ρ [] b) →
 ∀ v,Rep ρ (Own F.X ρ H) w d0 v→Rep ρ (Own F.X ρ []) w d v
theorem FzS.refl (H:Hp)(d:D):FzS H d d:=fun _ _ _ _ _ hO _ _ hv=>hv.anti hO
theorem FzS.clo1 {H:Hp}{fn:Fn}{c c':D}(h:FzS H c c'):FzS H (.clo fn [] [c]) (.clo fn [] [c']):=fun C F ρ w m hO hN v hv=>by
 cases hv with
 | clo hf hc h1 h2 =>
  refine .clo hf (by simpa using hc) (fun i d hd=>by simp at hd) fun i d hd=>?_
  match i with
  | 0 =>
   simp at hd;subst hd;exact h C F ρ w m hO hN _ (h2 0 _ rfl)
  | i+1=>simp at hd
theorem FzS.ptr {H:Hp}{k g sz:Nat}{e:Ent}{x:D}(he:Hp.get H k=some e)(hg:g=e.g)(hs:sz=e.sz)(hx:e.es=[x]):FzS H (.optr k g sz 0 0) (.pptr x):=fun C F ρ w m hO hN v hv=>by
 subst hg hs;obtain ⟨hm,hk⟩:=Hp.get_mem he;cases hv with
 | optr hr =>
  rename_i b;rw [← hk] at hr;obtain ⟨cs,h1,h2⟩:=m.at hm hr;have hlen:=h2.len;rw [hx] at hlen;have hsz:=h2.siz 0 x (by rw [hx];rfl);have hin:∀ n,n<x.cells.length→n<cs.size:=fun n hn=>by
   simp only [List.length_cons,List.length_nil] at hlen;omega
  rw [show 0*e.sz+0=0 from by omega];refine .pptr (fun n=>cs.getD n undef) (hN e hm b hr) (m.lt hm hr) (fun n hn=>?_) (fun n hn=>?_) fun j d hd=>?_
  ·rw [Nat.zero_add];simp [World.cell?,h1,hin n hn]
  ·have:=h2.one _ _ (Array.getElem?_eq_getElem (hin n hn))
   simpa [Array.getD_eq_getD_getElem?,Array.getElem?_eq_getElem (hin n hn)] using this
  ·have:=h2.rep 0 x j d (by rw [hx];rfl) hd
   rw [Nat.zero_mul,Nat.zero_add] at this;exact this.anti hO
def PostS (tt:Nat→Option TInfo)(rs:List ResultVar)(Φ:D→Prop)(e:Exit)(_:Fra)(s:St):Prop:=match e with
 | .normal | .ret=>wpRes tt s rs fun d0=>∃ d,FzS s.H d0 d∧Pure d∧Φ d
 | _=>False
section
variable {C:Ctx} {X:EV}
theorem ICallP.walkS {f:Nat}{i:FI}{args:List D}{Φ:D→Prop}(hX:WOk C X)(hf:FOk C.P f i)(hnt:Nat.ble args.length i.nt=true)
  (h:∀ F:Fra,OkS C F none F i.code ⟨argEnv 0 args,[],0⟩ (PostS X.tt i.res Φ)):ICallP C f args Φ:=by
 obtain ⟨fn,hf,hb,hn,hd,hni,hres⟩:=hf;rw [← hni] at hnt;refine ⟨⟨fn,i.code,hf,hb,hn⟩,fun Y w vs hG hnG hX' hvs hr=>?_⟩;have hnt:=Nat.le_of_ble_eq_true hnt;refine (calls_fw (rd:=none) (n:=0)).1 (callsIn_of_wp_marks hf hb trivial ?_);have hown:∀ b,Own Y nol [] b↔Y b:=by simp [Own]
 have hoe:Own Y nol []=Y:=funext fun b=>propext (hown b)
 let F0:Fra:=⟨w,Y,fun _=>False,fn.ntmps,nol,[]⟩
 have sat:Sat C F0 nol ⟨argEnv 0 args,[],0⟩ { tmps:=vs++Array.replicate (fn.ntmps - vs.size) undef,defers:=[] } w:=by
  refine ⟨⟨⟨by simp,.nil,by simp⟩,rfl,rfl,rfl,Nat.le_refl _,fun _ _ _=>rfl,hX',hG,hnG,by simp [F0],fun _ _ _ h=>h,fun _ cs _ _ h=>⟨cs,_,h,rfl⟩⟩,fun _ _ _=>rfl,by simp,fun t=>?_,by simp [F0];omega,rfl⟩;show Rep nol (Own Y nol []) w _ _;rw [hoe];exact argsRep hvs hr t
 refine wpIn_mono ((h F0).out (.refl F0) hd nol _ w sat) ?_;rintro e a' w' ⟨F',s',ρ',hF,hq,hs'⟩;have key:wpRes X.tt s' i.res (fun d0=>∃ d,FzS s'.H d0 d∧Pure d∧Φ d)→LeavesInM (fw none) 0 C.P fn a'.tmps (fun e w'=>∃ v d,e=.returned v∧Below w.heap.size w w'∧Φ d∧Rep nol Y w' d v) a'.defers .returning w':=fun hq=>by
  obtain ⟨d0,p,h1,h2,d,h3,h4,h5⟩:=wpRes_ok hq;rw [← hres] at h1;obtain ⟨v,w2,_,hl,mF,r2,hXX,x,hbl,hsz,F2,m2,hX2⟩:=hF.finish hX.tt rfl hs' h1 h2;refine hl _ ⟨v,d,rfl,⟨mF.os,mF.tape,mF.output,mF.size,fun b hb=>mF.blk b hb (by simp [F0])⟩,h5,?_⟩;have hH:FzH s'.H [] s'.H []:=by
   generalize s'.H=H0
   have:∀ H1:Hp,FzH H0 [] H1 []:=fun H1=>by
    induction H1 with
    | nil=>exact .nil
    | cons e r ih=>exact .drop ih
   exact this H0
  obtain ⟨m,hO,hN⟩:=hH.mem m2;have r3:=h3 _ _ _ _ m2 hO (fun e he b hb=>hN e he b hb rfl) v (by rw [hX2];exact r2);have r4:=h4 _ nol _ _ _ r3;exact r4.anti fun b hb=>.inl (by rw [hX2];exact hXX b hb)
 cases e with
 | normal=>exact key hq
 | ret=>exact key hq
 | _=>exact hq.elim
theorem ICallH.lendS {f:Nat}{ds ds':List D}{d:D}{H:Hp}{n:Nat}(hc:ICalls C f ds' d)(hl:ds'.length=ds.length)(hv:∀ (i:Nat) (a b:D),ds[i]? = some a→ds'[i]? = some b→FzS H a b)
  (hp:ArePure ds') (hflat:Flat d):ICallH C f ds H n (fun d' H' n'=>d'=d∧H'=H∧n'=n+1):=by
 refine ⟨hc.1,fun F ρ w vs m hfr hg hvs hr=>?_⟩;have hH:FzH H [] H []:=by
  generalize H=H0
  have:∀ H1:Hp,FzH H0 [] H1 []:=fun H1=>by
   induction H1 with
   | nil=>exact .nil
   | cons e r ih=>exact .drop ih
  exact this H0
 obtain ⟨m',hO,hN⟩:=hH.mem m;refine (hc.2 (Own F.X ρ []) w vs m.g (Nat.le_trans m.gn m.size) (fun b hb=>m'.own_lt hb) (by omega) fun i x hx=>?_).mono ?_
 ·have hi:i<ds'.length:=(List.getElem?_eq_some_iff.1 hx).1
  have hd0:ds[i]? = some ds[i]:=List.getElem?_eq_getElem (by omega);exact hp.out x (List.mem_of_getElem? hx) _ _ _ _ _ (hv i _ x hd0 hx C F ρ w m hO (fun e he b hb=>hN e he b hb rfl) _ (hr i _ hd0))
 ·rintro e w' ⟨v,d',rfl,hb,hd',rep⟩
  subst hd';have x:Ext ρ (Own F.X ρ H) w ρ (Own F.X ρ H) w':=⟨hb.size,fun _ _ _ h=>h,fun b hb' hO=>⟨hO,hb.block b hb'⟩,fun b cs T fz hh=>⟨cs,_,by
   rw [hb.block b (Array.getElem?_eq_some_iff.1 hh).1];exact hh,rfl⟩⟩
  exact ⟨v,_,H,n+1,ρ,rfl,⟨rfl,rfl,rfl⟩,m.same x hb.os hb.tape hb.output hb.block,x,fun k g hg'=>hfr k g (by omega),fun e he=>Nat.lt_succ_of_lt (hg e he),hflat _ _ _ _ _ _ _ rep⟩
end
end Go.Ide
namespace Go.Ide
open Go.RowKit
abbrev smI (z:Int):D:=.agg [i64 z,nilS]
abbrev smF (a b:Int):D:=.agg [i64 a,nilS,i64 b,nilS]
theorem brB_t {y n:Prop}:brB true y n=y:=rfl
theorem brB_f {y n:Prop}:brB false y n=n:=rfl
theorem fzh_refl {H Hf:Hp}:∀ r:Hp,FzH H Hf r r
 | []=>.nil
 | _::r=>.keep (fzh_refl r)
theorem sdI {P:Prop}(h:P:=by (repeat' (first|exact trivial|exact rfl|exact Or.inl rfl|exact Or.inr rfl|exact Fits.agg|exact Fits.one' rfl|exact Nat.le_of_ble_eq_true rfl|refine And.intro ?_ ?_|(intro hq;first|exact rfl|exact trivial|(exact absurd hq (by decide)))|exact Nat.le_refl _|omega|decide|(dsimp only [List.length_cons,List.length_nil];omega)))):P:=h
structure Hold (Q:Prop):Prop where
 out:Q
theorem dsI {P Q:Prop}(h:Q)(e:Hold Q→P:=by intro hq;(try dsimp only [smI,smF,lenO,putE,putH,gOpd,Env.get,constD,stoD,partD,takeC,dropC,setC,partCells,D.cells,ofV,Hp.get,Hp.set,Hp.del,setEl,argEnv,asB,cond,nextB,exitB,wpCond,hview,withE,memB,List.map,List.length,List.append,List.nil_append,List.cons_append,List.append_nil,List.size_toArray,List.length_cons,List.length_nil,Value.cells,List.toList_toArray,Array.toList,Nat.reduceAdd,Nat.reduceMul,Nat.beq,Nat.reduceSub,memB,isIa,lenO,Bool.false_and,Bool.true_and,Bool.true_or,Bool.false_or,Bool.not_true,Bool.not_false]);exact hq.out):P:=e ⟨h⟩
theorem nxI {A P Q:Prop}(h:Q)(a:A:=by exact sdI)(e:Hold Q→P:=by intro hq;refine dsI ?_;exact hq.out):A∧P:=⟨a,e ⟨h⟩⟩
theorem wkI {s s':St}(a:FzH s.H s'.H s.H s'.H:=by (first|(exact fzh_refl _)|(repeat (first|exact .nil|(exact fzh_refl _)|refine .keep ?_|refine .drop ?_))))
  (b:EnvFz s.H s'.H s.env s'.env:=by (repeat' (first|exact trivial|exact Fz.refl _|refine And.intro ?_ ?_|(refine fz_eq ?_;dsimp only [smI,smF,lenO,putE,putH,gOpd,Env.get,constD,stoD,partD,takeC,dropC,setC,partCells,D.cells,ofV,Hp.get,Hp.set,Hp.del,setEl,argEnv,asB,cond,nextB,exitB,wpCond,hview,withE,memB,List.map,List.length,List.append,List.nil_append,List.cons_append,List.append_nil,List.size_toArray,List.length_cons,List.length_nil,Value.cells,List.toList_toArray,Array.toList,Nat.reduceAdd,Nat.reduceMul,Nat.beq,Nat.reduceSub,memB,isIa,lenO,Bool.false_and,Bool.true_and,Bool.true_or,Bool.false_or,Bool.not_true,Bool.not_false];first|exact rfl|(simp_all;done)))))
  (c:s.n≤s'.n:=by (first|exact Nat.le_refl _|decide|(dsimp only;omega))):Wk s s':=⟨a,b,c⟩
theorem stI {P Q:Prop}(h:Q)(e:Hold Q→P:=by
  intro hq
  repeat (first|(refine wpSuf_cons rfl rfl ?_;refine wpO_det (fun _ _=>rfl) ?_)|(refine wpPre_cons rfl rfl ?_;refine wpE_det (fun _ _=>rfl) ?_))
  try (refine wpPre_nil ?_;repeat (first|(refine wpSuf_cons rfl rfl ?_;refine wpO_det (fun _ _=>rfl) ?_)|(refine wpPre_cons rfl rfl ?_;refine wpE_det (fun _ _=>rfl) ?_)))
  first|refine wpSuf_nil (And.intro sdI ?_)|(refine wpSuf_cons rfl rfl ?_;refine wpO_call (fun _ _=>rfl) sdI ?_)|(refine wpPre_cons rfl rfl ?_;refine wpE_call (fun _ _=>rfl) sdI ?_)|skip
  refine dsI ?_;exact hq.out):P:=e ⟨h⟩
end Go.Ide
namespace Go.Ide
open Go.RowKit
section
variable {C:Ctx} {X:EV} {kb:Nat} {g:Operand→D} {H:Hp} {n:Nat} {acc:Prop}
theorem and_true' {p a:Prop}(hp:p):(p∧a)=a:=propext ⟨And.right,fun h=>⟨hp,h⟩⟩
theorem evL_own {tt:Nat→Option TInfo}{t:Nat}{x:Operand}{i:TInfo}{k' gg sz j off:Nat}{e:Ent}{d d':D}(h1:tt t=some i)(h2:g x=.optr k' gg sz j off)(h3:Hp.get H k'=some e)
  (h4:e.es[j]? = some d) (h5:partD i.ag i.sz off d.cells=some d') :
  evL tt H n kb g (.load t x)=some (d',none,gg=e.g∧sz=e.sz∧(bif i.ag then Nat.ble (off+i.sz) d.cells.length else true)=true):=by
 simp only [evL,h1,h2,h3,h4,h5]
theorem wpO_ld {t:Nat}{x:Operand}{i:TInfo}{k' gg sz j off:Nat}{e:Ent}{d d':D}{k:Prop→D→Hp→Nat→Prop}(h1:X.tt t=some i)(h2:g x=.optr k' gg sz j off)(h3:Hp.get H k'=some e)
  (h4:e.es[j]? = some d) (hk:k acc d' H (n+1)) (h5:partD i.ag i.sz off d.cells=some d':=by exact rfl) (h6:gg=e.g∧sz=e.sz∧(bif i.ag then Nat.ble (off+i.sz) d.cells.length else true)=true:=by exact sdI) :
  wpO C X kb g H n (.load t x) acc k:=by
 unfold wpO;simp only [evL_own h1 h2 h3 h4 h5,and_true' h6];exact hk
theorem wpE_ld {t:Nat}{x:Operand}{i:TInfo}{k' gg sz j off:Nat}{e:Ent}{d d':D}{k:Prop→D→Option Ent→Prop}(h1:X.tt t=some i)(h2:g x=.optr k' gg sz j off)(h3:Hp.get H k'=some e)
  (h4:e.es[j]? = some d) (hk:k acc d' none) (h5:partD i.ag i.sz off d.cells=some d':=by exact rfl) (h6:gg=e.g∧sz=e.sz∧(bif i.ag then Nat.ble (off+i.sz) d.cells.length else true)=true:=by exact sdI) :
  wpE C X kb g H n (.load t x) acc k:=by
 unfold wpE;simp only [evL_own h1 h2 h3 h4 h5,and_true' h6];exact hk
theorem wpO_nat {fop:Operand}{args:Array Operand}{tys:Array Nat}{f:Nat}{first captured ds:List D}{d:D}{k:Prop→D→Hp→Nat→Prop}(hf:g fop=.clo (.func f) first captured)(hd:first++args.toList.map g++captured=ds)
  (hn:X.nat f ds=some d) (hk:k acc d H (n+1)):wpO C X kb g H n (.call ⟨.value fop,args,tys⟩) acc k:=by
 subst hd;unfold wpO;simp only [hf,hn];exact hk
theorem wpE_nat {fop:Operand}{args:Array Operand}{tys:Array Nat}{f:Nat}{first captured ds:List D}{d:D}{k:Prop→D→Option Ent→Prop}(hf:g fop=.clo (.func f) first captured)(hd:first++args.toList.map g++captured=ds)
  (hn:X.nat f ds=some d) (hk:k acc d none):wpE C X kb g H n (.call ⟨.value fop,args,tys⟩) acc k:=by
 subst hd;unfold wpE;simp only [hf,hn];exact hk
theorem wpO_st {t:Nat}{x y:Operand}{i:TInfo}{k' gg sz j off:Nat}{e:Ent}{d d':D}{k:Prop→D→Hp→Nat→Prop}(h1:X.tt t=some i)(h2:g x=.optr k' gg sz j off)(h3:Hp.get H k'=some e)
  (h4:e.es[j]? = some d) (hk:k acc (.prim (.tuple #[])) (Hp.set H k' ⟨e.k,e.g,e.T,e.sz,e.es.set j d'⟩) (n+1))
  (h5:stoD i off sz d (g y)=d':=by exact rfl) (h6:Fits i.ag i.sz (g y)∧gg=e.g∧sz=e.sz∧Nat.ble (off+i.sz) e.sz=true:=by exact sdI) :
  wpO C X kb g H n (.store t x y) acc k:=by
 subst h5;unfold wpO;simp only [evS,h1,h2,h3,h4,and_true' h6,setEl_eq];exact hk
end
section
variable {C:Ctx} {X:EV} {kb:Nat} {ops:Array Oper} {iw:Nat} {ia:Option Nat} {R:Hp} {clo:List Nat} {n i:Nat} {l:List Nat} {env:Env} {N:Hp} {accE acc':Option Ent} {acc:Prop} {K:Prop→Env→Hp→Ent→Ent→Prop} {o:Oper}
theorem wpPreW_nil {e e':Ent}(h:K acc env N e e'):wpPreW C X kb ops iw ia R clo n [] env N (some e) (some e') acc K:=h
theorem wpPreW_rd (h:nthO ops.toList i=some o)(hw:Nat.beq i iw=false)(ha:isIa ia i=false)(hg:o.guard=none)
  (hk:wpE C X (kb+i) (gOpd env) (hview ia accE R (memB i clo)) (n+i) o.op acc fun acc d ne=>wpPreW C X kb ops iw ia R clo n l (putE env o.dst d) (putH ne N) accE acc' acc K) :
  wpPreW C X kb ops iw ia R clo n (i::l) env N accE acc' acc K:=by
 unfold wpPreW;simp only [h,hw,ha,hg];exact hk
theorem wpPreW_wr {e:Ent}(h:nthO ops.toList i=some o)(hw:Nat.beq i iw=true)(hg:o.guard=none)
  (hk:wpWr X (kb+i) e (n+i) (gOpd env) o.op acc fun acc d e'=>wpPreW C X kb ops iw ia R clo n l (putE env o.dst d) N (some e) (some e') acc K) :
  wpPreW C X kb ops iw ia R clo n (i::l) env N (some e) none acc K:=by
 unfold wpPreW;simp only [h,hw,hg];exact hk
theorem wpPreW_al (h:nthO ops.toList i=some o)(hw:Nat.beq i iw=false)(ha:isIa ia i=true)(hg:o.guard=none)
  (hk:wpE C X (kb+i) (gOpd env) R (n+i) o.op acc fun acc d ne=>match ne with
   | some e=>wpPreW C X kb ops iw ia R clo n l (putE env o.dst d) N (some e) acc' acc K
   | none=>False) :
  wpPreW C X kb ops iw ia R clo n (i::l) env N none acc' acc K:=by
 unfold wpPreW;simp only [h,hw,ha,hg];exact hk
theorem wpWr_det {e:Ent}{g:Operand→D}{op:Op}{k:Prop→D→Ent→Prop}{P:Prop→Prop}{d:D}{e':Ent}(hs:∀ acc k,wpWr X kb e n g op acc k=k (P acc) d e')(hk:k (P acc) d e'):wpWr X kb e n g op acc k:=by rw [hs];exact hk
theorem wpWr_st {e:Ent}{g:Operand→D}{t:Nat}{x y:Operand}{i:TInfo}{k' gg sz j off:Nat}{d d':D}{k:Prop→D→Ent→Prop}(h1:X.tt t=some i)(h2:g x=.optr k' gg sz j off)(h3:Hp.get [e] k'=some e)
  (h4:e.es[j]? = some d) (hk:k acc (.prim (.tuple #[])) ⟨e.k,e.g,e.T,e.sz,e.es.set j d'⟩)
  (h5:stoD i off sz d (g y)=d':=by exact rfl) (h6:Fits i.ag i.sz (g y)∧gg=e.g∧sz=e.sz∧Nat.ble (off+i.sz) e.sz=true:=by exact sdI) :
  wpWr X kb e n g (.store t x y) acc k:=by
 subst h5;unfold wpWr;simp only [evS,h1,h2,h3,h4,and_true' h6,setEl_eq];exact hk
end
theorem fz_osl (K g T sz:Nat)(l:List D):Fz [⟨K,g,T,sz,l⟩] [] (.osl K g sz 0 l.length) (.sl false sz l):=by
 refine .osl (e:=⟨K,g,T,sz,l⟩) (by simp [Hp.get]) rfl rfl rfl (by simp) (by simp) (fun j d d' h1 h2=>?_) fun j d d' q c c' h1 h2 h3 h4=>?_
 ·rw [Nat.zero_add] at h1;rw [h1] at h2;cases h2;rfl
 ·rw [Nat.zero_add] at h1;rw [h1] at h2;cases h2;rw [h3] at h4;cases h4;exact Fz.refl _
end Go.Ide
namespace Go.Ide
open Go.RowKit
section
variable {A B D E F G:Prop}
theorem ff2 (a:A)(b:B):A∧B:=⟨a,b⟩
theorem ff3 (a:A)(b:B)(c:D):A∧B∧D:=⟨a,b,c⟩
theorem ff4 (a:A)(b:B)(c:D)(d:E):A∧B∧D∧E:=⟨a,b,c,d⟩
theorem ff5 (a:A)(b:B)(c:D)(d:E)(e:F):A∧B∧D∧E∧F:=⟨a,b,c,d,e⟩
theorem ff6 (a:A)(b:B)(c:D)(d:E)(e:F)(f:G):A∧B∧D∧E∧F∧G:=⟨a,b,c,d,e,f⟩
theorem kT:(!true)=false:=rfl
theorem kF:(!false)=true:=rfl
theorem kN:∀ n:Nat,(n:Int).toNat=n:=Int.toNat_natCast
theorem kB:(!true)=false∧(!false)=true:=⟨rfl,rfl⟩
theorem ff7 {I:Prop}(a:A)(b:B)(c:D)(d:E)(e:F)(f:G)(g:I):A∧B∧D∧E∧F∧G∧I:=⟨a,b,c,d,e,f,g⟩
end
inductive KB:Nat→Prop
 | mk (n:Nat):KB n
section
variable {C:Ctx} {X:EV} {B:Fra} {rd:Option Nat} {F:Fra} {ops:Array Oper} {s:St} {Q:Exit→Fra→St→Prop} {i:Nat}
theorem OkS.regK (hX:WOk C X){kb:Nat}(_:KB kb)(hnd:noDef ops.toList=true)(h:wpSuf C X kb ops (List.range ops.size) s True fun acc s=>acc∧Q .normal F s):OkS C B rd F (.region i ops false) s Q:=OkS.reg hX kb hnd h
end
theorem gwI {F:Prop}(f:F){P Q:Prop}(h:Q)(e:Hold F→Hold Q→P:=by
  intro hf hq
  repeat (first
   | (refine wpSuf_cons rfl rfl ?_;refine wpO_det (fun _ _=>rfl) ?_)|(refine wpPre_cons rfl rfl ?_;refine wpE_det (fun _ _=>rfl) ?_)
   | refine wpSuf_on rfl rfl rfl (by first|(simp only [hf.out];done)|fail) sdI (wpO_det (fun _ _=>rfl) ?_)|refine wpSuf_off rfl rfl rfl (by first|(simp only [hf.out];done)|fail) sdI ?_
   | refine wpPre_on rfl rfl rfl (by first|(simp only [hf.out];done)|fail) sdI (wpE_det (fun _ _=>rfl) ?_)|refine wpPre_off rfl rfl rfl (by first|(simp only [hf.out];done)|fail) sdI ?_
   | (refine wpSuf_cons rfl rfl ?_;refine wpO_ld rfl rfl rfl (by (try dsimp only);(try simp only [hf.out]);exact rfl) ?_)|(refine wpSuf_cons rfl rfl ?_;refine wpO_st rfl rfl rfl (by (try dsimp only);(try simp only [hf.out]);exact rfl) ?_)
   | (refine wpSuf_on rfl rfl rfl (by first|(simp only [hf.out];done)|fail) sdI ?_;refine wpO_ld rfl rfl rfl (by (try dsimp only);(try simp only [hf.out]);exact rfl) ?_)|(refine wpSuf_on rfl rfl rfl (by first|(simp only [hf.out];done)|fail) sdI ?_;refine wpO_st rfl rfl rfl (by (try dsimp only);(try simp only [hf.out]);exact rfl) ?_)
   | (refine wpPre_cons rfl rfl ?_;refine wpE_ld rfl rfl rfl (by (try dsimp only);(try simp only [hf.out]);exact rfl) ?_)|(refine wpPre_on rfl rfl rfl (by first|(simp only [hf.out];done)|fail) sdI ?_;refine wpE_ld rfl rfl rfl (by (try dsimp only);(try simp only [hf.out]);exact rfl) ?_))
  try (refine wpPre_nil ?_;repeat (first|(refine wpSuf_cons rfl rfl ?_;refine wpO_det (fun _ _=>rfl) ?_)|(refine wpPre_cons rfl rfl ?_;refine wpE_det (fun _ _=>rfl) ?_)))
  first|refine wpSuf_nil (And.intro sdI ?_)|(refine wpSuf_cons rfl rfl ?_;refine wpO_call (fun _ _=>rfl) sdI ?_)|(refine wpPre_cons rfl rfl ?_;refine wpE_call (fun _ _=>rfl) sdI ?_)|skip
  refine dsI ?_
  try simp only [hf.out]
  exact hq.out):P:=e ⟨f⟩ ⟨h⟩
theorem gvI {F:Prop}(f:F){P Q:Prop}(h:Q)(e:Hold F→Hold Q→P:=by
  intro hf hq
  repeat (first
   | (refine wpPreW_rd rfl rfl rfl rfl ?_;first|refine wpE_det (fun _ _=>rfl) ?_|refine wpE_ld rfl rfl rfl (by (try dsimp only);(try simp only [hf.out]);exact rfl) ?_)
   | (refine wpPreW_wr rfl rfl rfl ?_;first|refine wpWr_det (fun _ _=>rfl) ?_|refine wpWr_st rfl rfl rfl (by (try dsimp only);(try simp only [hf.out]);exact rfl) ?_)|(refine wpPreW_al rfl rfl rfl rfl ?_;refine wpE_det (fun _ _=>rfl) ?_))
  try refine wpPreW_nil ?_
  refine dsI ?_
  try simp only [hf.out]
  exact hq.out):P:=e ⟨f⟩ ⟨h⟩
theorem nwI {F:Prop}(f:F){P Q:Prop}(h:Q)(e:Hold F→Hold Q→P:=by
  intro hf hq
  repeat (first
   | (refine wpSuf_cons rfl rfl ?_;refine wpO_det (fun _ _=>rfl) ?_)|(refine wpPre_cons rfl rfl ?_;refine wpE_det (fun _ _=>rfl) ?_))
  try (refine wpPre_nil ?_;repeat (first|(refine wpSuf_cons rfl rfl ?_;refine wpO_det (fun _ _=>rfl) ?_)|(refine wpPre_cons rfl rfl ?_;refine wpE_det (fun _ _=>rfl) ?_)))
  first|refine wpSuf_nil (And.intro (by ((refine dsI ?_);(try simp only [hf.out]);all_goals exact sdI)) ?_)|(refine wpSuf_cons rfl rfl ?_;refine wpO_call (fun _ _=>rfl) (by ((refine dsI ?_);(try simp only [hf.out]);all_goals exact sdI)) ?_)|(refine wpPre_cons rfl rfl ?_;refine wpE_call (fun _ _=>rfl) (by ((refine dsI ?_);(try simp only [hf.out]);all_goals exact sdI)) ?_)|skip
  refine dsI ?_
  try simp only [hf.out]
  exact hq.out):P:=e ⟨f⟩ ⟨h⟩
theorem mwI {F:Prop}(f:F){A P Q:Prop}(h:Q)(a:Hold F→A:=by intro hf;(refine dsI ?_);(try simp only [hf.out]);all_goals exact sdI)(e:Hold F→Hold Q→P:=by intro hf hq;refine dsI ?_;(try simp only [hf.out]);exact hq.out):A∧P:=⟨a ⟨f⟩,e ⟨f⟩ ⟨h⟩⟩
theorem gcI {F:Prop}(f:F){P Q:Prop}(h:Q)(e:Hold F→Hold Q→P:=by
  intro hf hq
  first|(refine wpSuf_on rfl rfl rfl (by first|(simp only [hf.out];done)|fail) sdI ?_;refine wpO_call (fun _ _=>rfl) trivial ?_)|(refine wpPre_on rfl rfl rfl (by first|(simp only [hf.out];done)|fail) sdI ?_;refine wpE_call (fun _ _=>rfl) trivial ?_)
  refine dsI ?_;exact hq.out):P:=e ⟨f⟩ ⟨h⟩
theorem ixI {F:Prop}(f:F){A:Prop}(a:A){P Q:Prop}(h:Q)(e:Hold F→A→Hold Q→P:=by
  intro hf hx hq
  first|refine wpSuf_cons rfl rfl ?_|refine wpSuf_on rfl rfl rfl (by first|(simp only [hf.out];done)|fail) sdI ?_|refine wpPre_cons rfl rfl ?_|refine wpPre_on rfl rfl rfl (by first|(simp only [hf.out];done)|fail) sdI ?_
  first|refine wpO_ix (fun _ _=>rfl) sdI ⟨rfl,by omega⟩ hx ?_|refine wpE_ix (fun _ _=>rfl) sdI ⟨rfl,by omega⟩ hx ?_
  try dsimp only [D.cells]
  exact hq.out):P:=e ⟨f⟩ a ⟨h⟩
theorem ifI {P Q:Prop}(h:Q)(e:Hold Q→P:=by intro hq;refine OkS.cond ?_;refine dsI ?_;exact hq.out):P:=e ⟨h⟩
theorem skI {P Q:Prop}(h:Q)(e:Hold Q→P:=by intro hq;refine OkS.skip ?_;refine dsI ?_;exact hq.out):P:=e ⟨h⟩
theorem exI {P Q:Prop}(h:Q)(e:Hold Q→P:=by intro hq;refine OkS.exit ?_;refine dsI ?_;exact hq.out):P:=e ⟨h⟩
theorem rtI {P Q:Prop}(h:Q)(e:Hold Q→P:=by intro hq;refine OkS.ret ?_;refine And.intro sdI ?_;refine dsI ?_;exact hq.out):P:=e ⟨h⟩
theorem rI (kb:Nat){P Q:Prop}(h:Q)(e:KB kb→Hold Q→P:=by intro hk hq;refine OkS.regK w1 hk (by kernel_rfl) ?_;refine stI ?_;exact hq.out):P:=e (.mk kb) ⟨h⟩
theorem fI (kb:Nat){P Q:Prop}(h:Q)(e:KB kb→Hold Q→P:=by intro hk hq;refine OkS.regK w1 hk (by kernel_rfl) ?_;refine nxI ?_;exact hq.out):P:=e (.mk kb) ⟨h⟩
theorem sR (kb:Nat){P Q:Prop}(h:Q)(e:KB kb→Hold Q→P:=by intro hk hq;refine OkS.seq ?_;refine OkS.regK w1 hk (by kernel_rfl) ?_;refine stI ?_;exact hq.out):P:=e (.mk kb) ⟨h⟩
theorem fR (kb:Nat){P Q:Prop}(h:Q)(e:KB kb→Hold Q→P:=by intro hk hq;refine OkS.seq ?_;refine OkS.regK w1 hk (by kernel_rfl) ?_;refine nxI ?_;exact hq.out):P:=e (.mk kb) ⟨h⟩
theorem sZ (kb:Nat){P Q:Prop}(h:Q)(e:KB kb→Hold Q→P:=by intro hk hq;refine OkS.seq ?_;refine OkS.regK w1 hk (by kernel_rfl) ?_;exact hq.out):P:=e (.mk kb) ⟨h⟩
theorem cI {C:Ctx}{f:Nat}{ds:List D}{d:D}{H:Hp}{n:Nat}{k:D→Hp→Nat→Prop}(c:ICalls C f ds d){Q:Prop}(h:Q)(p:ArePure ds:=by exact inferInstance)(e:Hold Q→k d H (n+1):=by intro hq;refine stI ?_;exact hq.out):CallO C f ds H n k:=CallO.same d c p (e ⟨h⟩)
theorem dI {C:Ctx}{f:Nat}{ds:List D}{d:D}{H:Hp}{n:Nat}{k:D→Hp→Nat→Prop}(c:ICalls C f ds d){Q:Prop}(h:Q)(p:ArePure ds:=by exact inferInstance)(e:Hold Q→k d H (n+1):=by intro hq;refine nxI ?_;exact hq.out):CallO C f ds H n k:=CallO.same d c p (e ⟨h⟩)
end Go.Ide
