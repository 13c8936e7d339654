/- The layer of own lemmas and contracts, part 3. -/
import Derived.Test.YtbfcnlkcimghoaaGreatDoorAB2
import Derived.OrdersIn
import Derived.RangeFuncLeaves
import Derived.RangeFuncSeq
import Derived.RangeFuncIn
import Derived.RangeFuncRecord
set_option linter.unusedVariables false
set_option linter.unusedSimpArgs false
namespace Go.Ide
open Go.RowKit
noncomputable section
structure FI where
 nt:Nat
 res:List ResultVar
 code:Code
structure EV where
 tt:Nat->Option Ai
 xt:Nat->Option XI
 ft:Nat->Option FI
 np:Nat->Bool
 orc:Nat->List D->Option D
 mt:Nat->String->Option Nat
 nat:Nat->List D->Option D
structure FC (C:BH)(X:EV):Prop where
 tt:CY C.P X.tt
 xt:MA C.P X.xt
 ft:∀f i,X.ft f=some i->∃fn,C.P.funcs[f]?=some fn/\fn.body=some i.code/\(fn.name == "runtime.NumGoroutine")=false/\Df fn.ntmps i.code=true/\fn.ntmps=i.nt/\fn.results.toList=i.res
 orc:∀f ds d,X.orc f ds=some d->AI C f ds d/\AU ds
 mixed:C.P.follows .mixedOrders=true
 mt:∀t name f,X.mt t name=some f->∀v w,(method (C.P.types.size+Made.depth) t v name).run C.P w=.ok (f,v) w
 nat:∀f ds d,X.nat f ds=some d->Lb C f ds d
noncomputable def gN {α:Type}(z:α)(l:List α):Nat->α:=List.rec (motive:=λ_=>Nat->α) (λ_=>z) (λx _ ih n=>Nat.rec (motive:=λ_=>α) x (λm _=>ih m) n) l
noncomputable def pN {α:Type}(z:α)(f:α->α)(n:Nat):List α->List α:=Nat.rec (motive:=λ_=>List α->List α) (λl=>List.rec (motive:=λ_=>List α) [f z] (λx r _=>f x::r) l) (λ_ ih l=>List.rec (motive:=λ_=>List α) (z::ih []) (λx r _=>x::ih r) l) n
theorem Qi {α:Type}(z:α)(f:α->α):∀(n:Nat) (l:List α) (m:Nat),gN z (pN z f n l) m=if n=m then f (gN z l n)else gN z l m
 | 0,[],0=>rfl
 | 0,[],_+1=>rfl
 | 0,_::_,0=>rfl
 | 0,_::_,_+1=>rfl
 |_+1,[],0=>rfl
 |n+1,[],m+1=>by
  show gN z (pN z f n []) m=_;rw[Qi z f n [] m];simp only[Nat.add_right_cancel_iff];rfl
 |_+1,_::_,0=>rfl
 |n+1,x::l,m+1=>by
  show gN z (pN z f n l) m=_;rw[Qi z f n l m];simp only[Nat.add_right_cancel_iff];rfl
abbrev ET:=List (List (List D))
noncomputable def ET.get (e:ET)(t:Nat):D:=gN .any (gN [] (gN [] e (Nat.div t 36)) (Nat.mod (Nat.div t 6) 6)) (Nat.mod t 6)
noncomputable def ET.put (e:ET)(t:Nat)(d:D):ET:=pN [] (λr=>pN [] (λq=>pN .any (λ_=>d) (Nat.mod t 6) q) (Nat.mod (Nat.div t 6) 6) r) (Nat.div t 36) e
theorem e2G (e:ET)(t:Nat)(d:D)(u:Nat):(e.put t d).get u=if t=u then d else e.get u:=by
 unfold ET.get ET.put;have a1:∀x,Nat.div x 36=x/36:=λ_=>rfl
 have a2:∀x,Nat.mod (Nat.div x 6) 6=x/6%6:=λ_=>rfl
 have a3:∀x,Nat.mod x 6=x%6:=λ_=>rfl
 simp only[a1,a2,a3];rw[Qi]
 by_cases h1:t/36=u/36
 ·rw[AH h1,Qi,h1]
  by_cases h2:t/6%6=u/6%6
  ·rw[AH h2,Qi,h2]
   by_cases h3:t%6=u%6
   ·rw[AH h3,DJ]
   ·rw[AG h3,B3]
  ·rw[AG h2,B3]
 ·rw[AG h1,B3]
def Mt (e:ET)(env:As):Prop:=∀t,e.get t=env.get t
noncomputable def l6 (e:ET)(o:Option Nat)(d:D):ET:=Option.rec (motive:=λ_=>ET) e (λt=>e.put t d) o
theorem Mt.put {e:ET}{env:As}(h:Mt e env)(o:Option Nat)(d:D):Mt (l6 e o d) (Bq env o d):=λt=>by
 cases o with
 |none=>exact h t
 |some k=>
  show(e.put k d).get t=As.get ((k,d)::env) t;rw[e2G,JQ,h t]
noncomputable def pK {α R:Type}(z:α)(n:Nat):List α->(α->(α->R)->R)->(List α->R)->R:=Nat.rec (motive:=λ_=>List α->(α->(α->R)->R)->(List α->R)->R) (λl f c=>List.rec (motive:=λ_=>R) (f z λy=>c [y]) (λx r _=>f x λy=>c (y::r)) l) (λ_ ih l f c=>List.rec (motive:=λ_=>R) (ih [] f λr'=>c (z::r')) (λx r _=>ih r f λr'=>c (x::r')) l) n
theorem Qm {α R:Type}(z:α)(f0:α->α)(f:α->(α->R)->R)(hf:∀x c,f x c=c (f0 x)):∀(n:Nat) (l:List α) (c:List α->R),pK z n l f c=c (pN z f0 n l)
 | 0,[],_=>hf _ _
 | 0,_::_,_=>hf _ _
 |n+1,[],_=>Qm z f0 f hf n [] _
 |n+1,_::l,_=>Qm z f0 f hf n l _
noncomputable def Nk {R:Type}(e:ET)(o:Option Nat)(d:D)(c:ET->R):R:=Option.rec (motive:=λ_=>R) (c e) (λt=>pK [] (Nat.div t 36) e (λr c=>pK [] (Nat.mod (Nat.div t 6) 6) r (λq c=>pK .any (Nat.mod t 6) q (λ_ c=>c d) c) c) c) o
theorem Lm {R:Type}(e:ET)(o:Option Nat)(d:D)(c:ET->R):Nk e o d c=c (l6 e o d):=by
 cases o with
 |none=>rfl
 |some t=>
  show pK [] (Nat.div t 36) e _ c=c (ET.put e t d);unfold ET.put;refine Qm _ _ _ (λr c=>?_) _ _ _;refine Qm _ _ _ (λq c=>?_) _ _ _;exact Qm _ (λ_=>d) _ (λ_ _=>rfl) _ _ _
noncomputable def Tp:Nat->List D->ET
 |_,[]=>[]
 |i,d::l=>(Tp (i+1) l).put i d
theorem dF:∀(l:List D) (i:Nat),Mt (Tp i l) (Dd i l)
 | [],_=>λ_=>rfl
 |d::l,i=>(dF l (i+1)).put (some i) d
structure ES where
 env:ET
 H:Hp
 n:Nat
noncomputable def gh (v:Value):D:=Value.rec (motive_1:=λ_=>D) (motive_2:=λ_=>Unit) (motive_3:=λ_=>Unit) (λb=>.prim (.bool b)) (λk a=>.prim (.int k a)) (λk a=>F7 (.float k a)) (λk a b=>F7 (.complex k a b)) (λx=>.prim (.string x)) (λa=>.prim (.pointer a)) (λa b c=>.prim (.slice a b c)) (λa=>F7 (.map a)) (λa=>F7 (.chan a)) (λa b c _ _=>F7 (.func a b c)) (F7 .nilFunc) (λa b _=>F7 (.iface a b)) (F7 .nilIface) (λa _=>F7 (.agg a)) (λa _=>F7 (.tuple a)) (λ_ _=>()) () (λ_ _ _ _=>()) v
theorem oa (v:Value):gh v=F7 v:=by cases v<;>rfl
noncomputable def MJ (env:ET)(x:Operand):D:=Operand.rec (motive:=λ_=>ET->D) (λt env=>env.get t) (λv _=>gh v) (λg _=>.prim (.pointer (some ⟨g,0,none⟩))) (λf _=>.clo (.func f) [] []) x env
theorem Sp {e:ET}{env:As}(h:Mt e env):MJ e=BE env:=by
 funext x
 cases x<;>first|rfl|exact h _|exact oa _
noncomputable def NP (ops:Array Oper)(env:ET)(o:Oper):Option Bool:=match o.guard with
 |none=>some true
 |some (j,_)=>match ops[j]? with
  |none=>some false
  |some oj=>match oj.dst with
   |none=>some false
   |some t=>CD ops [(t,env.get t)] o
theorem Vp {e:ET}{env:As}(h:Mt e env)(ops:Array Oper)(o:Oper):NP ops e o=CD ops env o:=by
 unfold NP CD;cases o.guard with
 |none=>rfl
 |some p=>
  obtain⟨j,w⟩:=p;dsimp only;cases hj:ops[j]? with
  |none=>rfl
  |some oj=>
   dsimp only;cases hd:oj.dst with
   |none=>rfl
   |some t=>
    dsimp only;rw[h t,JQ,AH rfl]
noncomputable def X6 (i:Nat)(l:List Nat):Bool:=List.rec (motive:=λ_=>Bool) false (λj _ ih=>Bool.rec (motive:=λ_=>Bool) ih true (Nat.beq i j)) l
noncomputable def O6 {α:Type}(H:Hp):(Hp->α)->α:=List.rec (motive:=λ_=>(Hp->α)->α) (λk=>k []) (λe _ ih k=>ih λl=>k (e::l)) H
theorem M5 {α:Type}:∀(l:Hp) (k:Hp->α),O6 l k=k l
 | [],_=>rfl
 |e::l,k=>M5 l λl=>k (e::l)
abbrev Cm:=Nat->List D->Hp->Nat->Option (D×Hp×Nat)
abbrev Ee:=Nat->List D->Option D
def IN (b:Bool)(r:D×Hp×Nat):Option (D×Hp×Nat):=match b with
 |true=>some r
 |false=>none
def O8 (tt:Nat->Option Ai)(g:Operand->D)(t:Nat)(x ix:Operand):Option D:=match tt t with
 |some i=>match i.ti with
  | .slice _ esz _ _=>match g ix with
   | .prim (.int _ j)=>match g x with
    | .sl _ sz es=>match Nat.beq sz esz&&decide (0<=j)with
     |true=>match es[j.toNat]? with
      |some d=>some (.pptr d)
      |none=>none
     |false=>none
    |_=>none
   |_=>none
  |_=>none
 |none=>none
def MD (X:EV)(g:Operand->D)(H:Hp)(n:Nat)(op:Op):Option (D×Hp×Nat):=match EF X.tt g op with
 |some (d,_)=>IN (Hv X.tt g op) (d,H,n+1)
 |none=>none
def Tw (X:EV)(g:Operand->D)(H:Hp)(n:Nat)(op:Op):Option (D×Hp×Nat):=match Gv X.tt X.xt g op with
 |some (d,_)=>IN (UW X.xt g op) (d,H,n+1)
 |none=>none
def GR {α:Type}(a:Option α)(b:Option α):Option α:=match a with
 |some x=>some x
 |none=>b
def ja (X:EV)(g:Operand->D)(H:Hp)(n t len:Nat)(ps:List (Nat×Operand)):Option (D×Hp×Nat):=match X.np (1000000+t)with
 |true=>match X.tt t with
  |some i=>match i.ti with
   | .slice e esz _ _=>match len with
    | 0=>none
    |len+1=>match X.tt e with
     |some ie=>match H9 g 0 ps with
      |some es=>match NS ie.ag esz es&&Nat.beq es.length (len+1)&&Nat.ble ((len+1)*esz) 16777216&&Nat.ble 1 esz with
       |true=>some (.osl n n esz 0 (len+1),⟨n,n,e,esz,es⟩::H,n+1)
       |false=>none
      |none=>none
     |none=>none
   |_=>none
  |none=>none
 |false=>none
def lH (X:EV)(g:Operand->D)(H:Hp)(n:Nat)(args:List Operand)(tys:List Nat):Option (D×Hp×Nat):=match args with
 | [x,y]=>match tys with
  | [t,_]=>match X.tt t with
   |some i=>match i.ti with
    | .slice _ esz _ _=>match g x with
     | .osl k gg sz 0 len=>match Hp.get H k with
      |some e1=>match HC H esz (g y)with
       |some (news,_)=>match Tl H esz (g y)&&(Nat.beq gg e1.g&&Nat.beq sz esz&&Nat.beq esz e1.sz&&Nat.ble news.length len&&Nat.ble len e1.es.length&&Nat.ble 1 news.length)with
        |true=>some (.prim (.int .i64 (news.length:Nat)),Hp.set H k ⟨e1.k,e1.g,e1.T,e1.sz,news++e1.es.drop news.length⟩,n+1)
        |false=>none
       |none=>none
      |none=>none
     |_=>none
    |_=>none
   |none=>none
  |_=>none
 |_=>none
def jb (X:EV)(g:Operand->D)(H:Hp)(n:Nat)(op:BinOp)(t:Nat)(x y:Operand):Option (D×Hp×Nat):=match g x with
 | .osl _ _ _ _ (_+1)=>match g y with
  | .prim (.slice none 0 0)=>match X.tt t with
   |some i=>match i.ti with
    | .slice _ _ _ _=>match K9 op false with
     |some c=>some (.prim (.bool c),H,n+1)
     |none=>none
    |_=>none
   |none=>none
  |_=>none
 |_=>none
def JM (X:EV)(cl:Cm)(g:Operand->D)(H:Hp)(n:Nat)(op:Op):Option (D×Hp×Nat):=match op with
 | .call ⟨.value fop,args,_⟩=>match g fop with
  | .clo (.func f) first captured=>match X.nat f (first++args.toList.map g++captured)with
   |some d=>some (d,H,n+1)
   |none=>cl f (first++args.toList.map g++captured) H n
  |_=>none
 | .call ⟨.invoke r name,args,_⟩=>match g r with
  | .ifc t d0=>match X.mt t name with
   |some f=>cl f (d0::args.toList.map g) H n
   |none=>none
  |_=>none
 | .call ⟨.builtin .append,_,_⟩=>match EX X.tt H n n g op with
  |some (d,H',_)=>IN (RU X.tt H g op) (d,H',n+1)
  |none=>none
 | .makeSlice _ _ _=>match LK X.tt n n g op with
  |some (d,e,_)=>IN (Yj X.tt g op) (d,e::H,n+1)
  |none=>none
 | .store _ _ _=>match E8 X.tt H g op with
  |some (k,e,_)=>IN (PR X.tt H g op) (.prim (.tuple #[]),Hp.set H k e,n+1)
  |none=>none
 | .call ⟨.builtin .copy,args,tys⟩=>lH X g H n args.toList tys.toList
 | .buildSlice t len ps=>GR (ja X g H n t len ps.toList) (match EE X.tt H n n g op with
  |some (d,ne,_)=>IN (I1 X.tt H g op) (d,Cp ne H,n+1)
  |none=>none)
 | .load _ _ | .alloc _ | .box _ _=>match EE X.tt H n n g op with
  |some (d,ne,_)=>IN (I1 X.tt H g op) (d,Cp ne H,n+1)
  |none=>none
 | .indexAddr t x ix=>GR (MD X g H n op) (match O8 X.tt g t x ix with
  |some d=>some (d,H,n+1)
  |none=>none)
 | .makeInterface _ _ | .lookup _ _ _ _=>Tw X g H n op
 | .binOp b t x y _=>GR (MD X g H n op) (GR (Tw X g H n op) (jb X g H n b t x y))
 |_=>MD X g H n op
abbrev rH (o:Option D)(H:Hp)(n:Nat):Option (D×Hp×Nat):=Option.rec (motive:=λ_=>Option (D×Hp×Nat)) none (λd=>some (d,H,n+1)) o
noncomputable def lA (d:D):EV->Cm->List D->Hp->Nat->Option (D×Hp×Nat):=D.rec (motive_1:=λ_=>EV->Cm->List D->Hp->Nat->Option (D×Hp×Nat)) (motive_2:=λ_=>Unit) (λ_ _ _ _ _=>none) (λ_ _ _ _ _ _=>none) (λ_ _ _ _ _ _ _=>none) (λ_ _ _ _ _ _ _=>none) (λ_ _ _ _ _ _ _ _ _=>none) (λ_ _ _ _ _ _ _=>none) (λ_ _ _ _ _ _ _ _ _ _=>none) (λ_ _ _ _ _ _ _ _ _ _=>none) (λfn a b _ _ X cl l H n=>Fn.rec (motive:=λ_=>Option (D×Hp×Nat)) (λf=>Option.rec (motive:=λ_=>Option (D×Hp×Nat)) (cl f (GW (GW a l) b) H n) (λd=>some (d,H,n+1)) (X.nat f (GW (GW a l) b))) (λ_=>none) (λ_ _=>none) (λ_ _ _ _=>none) (λ_=>none) fn) (λ_ _ _ _ _ _ _ _=>none) (λ_ _ _ _ _ _ _ _ _=>none) (λ_ _ _ _ _ _ _ _=>none) () (λ_ _ _ _=>()) d
noncomputable def e1N (c:Callee):List Operand->EV->Cm->(Operand->D)->Hp->Nat->Option (D×Hp×Nat):=Callee.rec (motive:=λ_=>List Operand->EV->Cm->(Operand->D)->Hp->Nat->Option (D×Hp×Nat)) (λfop l X cl g H n=>lA (g fop) X cl (K6 l g) H n) (λ_ _ _ _ _ _ _ _=>none) (λ_ _ _ _ _ _ _=>none) c
noncomputable def qF (op:Op):EV->Cm->(Operand->D)->Hp->Nat->Option (D×Hp×Nat):=Op.rec (motive:=λ_=>EV->Cm->(Operand->D)->Hp->Nat->Option (D×Hp×Nat)) (λ_ _ _ _ _ _=>none) (λ_ _ _ _ _ _=>none) (λ_ _ _ _ _ _ _ _=>none) (λ_ _ _ _ _ _=>none) (λ_ _ _ _ _ _ _=>none) (λ_ _ _ _ _ _ _=>none) (λ_ _ _ _ _ _ _ _=>none) (λ_ _ _ _ _ _ _ _ _=>none) (λt x X _ g H n=>rH (UT t x X.tt g H) H n) (λt x y X _ g H n=>Option.rec (motive:=λ_=>Option (D×Hp×Nat)) none (λH'=>some (.prim (.tuple #[]),H',n+1)) (PC t x y X.tt g H)) (λ_ _ _ _ _ _=>none) (λ_ _ _ _ _ _=>none) (λ_ _ _ _ _ _=>none) (λ_ _ _ _ _ _ _ _ _ _=>none) (λ_ _ _ _ _ _ _ _=>none) (λ_ _ _ _ _ _ _ _=>none) (λ_ _ _ _ _ _ _=>none) (λ_ _ _ _ _ _ _=>none) (λ_ _ _ _ _ _ _ _=>none) (λ_ _ _ _ _ _ _=>none) (λ_ _ _ _ _ _ _=>none) (λ_ _ _ _ _ _ _ _=>none) (λ_ _ _ _ _ _ _ _ _ _=>none) (λ_ _ _ _ _ _ _ _=>none) (λ_ _ _ _ _ _ _ _=>none) (λt x ix X _ g H n=>rH (PO Yd (X.tt t) (g x) (g ix)) H n) (λ_ _ _ _ _ _ _ _=>none) (λ_ _ _ _ _ _ _ _ _=>none) (λ_ _ _ _ _ _ _ _ _=>none) (λ_ _ _ _ _ _ _ _=>none) (λ_ _ _ _ _ _ _ _ _=>none) (λ_ _ _ _ _ _ _=>none) (λ_ _ _ _ _ _ _=>none) (λ_ _ _ _ _ _=>none) (λ_ _ _ _ _ _ _ _ _=>none) (λ_ _ _ _ _ _ _=>none) (λc=>e1N c.callee c.args.toList) (λ_ _ _ _ _ _=>none) (λ_ _ _ _ _ _=>none) (λ_ _ _ _ _ _=>none) (λ_ _ _ _ _ _ _=>none) (λ_ _ _ _ _ _ _ _=>none) (λ_ _ _ _ _ _ _=>none) op
noncomputable def YY {α:Type}(e:Af)(c:Af->α):α:=Af.rec (motive:=λ_=>α) (λk g T sz es=>Dv k λk=>Dv g λg=>Dv T λT=>Dv sz λsz=>List.rec (motive:=λ_=>(List D->α)->α) (λc=>c []) (λd _ ih c=>Ja d λd=>ih λl=>c (d::l)) es λes=>c ⟨k,g,T,sz,es⟩) e
theorem zJ {α:Type}(e:Af)(c:Af->α):YY e c=c e:=by
 obtain⟨k,g,T,sz,es⟩:=e;have key:∀(l:List D) (c:List D->α),List.rec (motive:=λ_=>(List D->α)->α) (λc=>c []) (λd _ ih c=>Ja d λd=>ih λl=>c (d::l)) l c=c l:=λl=>by
  induction l with
  |nil=>exact λ_=>rfl
  |cons d l ih=>exact λc=>(Lr _ _).trans (ih _)
 exact key _ _
noncomputable def UP {α:Type}(k:Nat)(H:Hp):(Hp->α)->α:=List.rec (motive:=λ_=>(Hp->α)->α) (λc=>c []) (λe _ ih c=>Bool.rec (motive:=λ_=>α) (ih λr=>c (e::r)) (YY e λe=>ih λr=>c (e::r)) (Nat.beq e.k k)) H
theorem W6 {α:Type}(k:Nat):∀(H:Hp) (c:Hp->α),UP k H c=c H
 | [],_=>rfl
 |e::r,c=>by
  show Bool.rec (motive:=λ_=>α) (UP k r λr=>c (e::r)) (YY e λe=>UP k r λr=>c (e::r)) (Nat.beq e.k k)=_;cases Nat.beq e.k k
  ·exact W6 k r _
  ·exact(zJ _ _).trans (W6 k r _)
noncomputable def lT (d:D):Option Nat:=D.rec (motive_1:=λ_=>Option Nat) (motive_2:=λ_=>Unit) none (λ_=>none) (λ_ _=>none) (λ_ _=>none) (λ_ _ _ _=>none) (λ_ _=>none) (λk _ _ _ _=>some k) (λk _ _ _ _=>some k) (λ_ _ _ _ _=>none) (λ_ _ _=>none) (λ_ _ _ _=>none) (λ_ _ _=>none) () (λ_ _ _ _=>()) d
noncomputable def e2f (g:Operand->D)(l:List Operand):Nat:=List.rec (motive:=λ_=>Nat) 0 (λx _ _=>Option.rec (motive:=λ_=>Nat) 0 (λk=>k) (lT (g x))) l
noncomputable def lR (op:Op):(Operand->D)->Option Nat:=Op.rec (motive:=λ_=>(Operand->D)->Option Nat) (λ_ _=>none) (λ_ _=>none) (λ_ _ _ _=>none) (λ_ _=>some 0) (λ_ _ _=>some 0) (λ_ _ _=>none) (λ_ _ _ _=>some 0) (λ_ _ _ _ _=>none) (λ_ _ _=>none) (λ_ _ _ _=>none) (λ_ _=>none) (λ_ _=>none) (λ_ _=>none) (λ_ _ _ _ _ _=>none) (λ_ _ _ _=>none) (λ_ _ _ _=>none) (λ_ _ _=>none) (λ_ _ _=>none) (λ_ _ _ _=>none) (λ_ _ _=>none) (λ_ _ _=>none) (λ_ _ _ _=>some 0) (λ_ _ _ _ _ _=>none) (λ_ _ _ _=>none) (λ_ _ _ _=>none) (λ_ _ _ _=>none) (λ_ _ _ _=>none) (λ_ _ _ _ _=>none) (λ_ _ _ _ _=>none) (λ_ _ _ _=>none) (λ_ _ _ _ _=>none) (λ_ _ _=>none) (λ_ _ _=>none) (λ_ _=>none) (λ_ _ _ _ _=>none) (λ_ _ _=>none) (λc g=>Callee.rec (motive:=λ_=>Option Nat) (λ_=>none) (λ_ _=>none) (λ_=>some (e2f g c.args.toList)) c.callee) (λ_ _=>none) (λ_ _=>none) (λ_ _=>none) (λ_ _ _=>none) (λ_ _ _ _=>none) (λ_ _ _=>none) op
noncomputable def lM (k:Nat)(r:D×Hp×Nat):Option (D×Hp×Nat):=Prod.rec (motive:=λ_=>Option (D×Hp×Nat)) (λd q=>Prod.rec (motive:=λ_=>Option (D×Hp×Nat)) (λH n=>UP (Option.rec (motive:=λ_=>Nat) k (λk=>k) (lT d)) H λH=>some (d,H,n)) q) r
theorem uI (k:Nat)(r:D×Hp×Nat):lM k r=some r:=W6 _ _ _
noncomputable def Xf (X:EV)(cl:Cm)(g:Operand->D)(H:Hp)(n:Nat)(op:Op):Option (D×Hp×Nat):=Option.rec (motive:=λ_=>Option (D×Hp×Nat)) (JM X cl g H n op) (λk=>Option.rec (motive:=λ_=>Option (D×Hp×Nat)) none (λr=>lM k r) (JM X cl g H n op)) (lR op g)
theorem qz (X:EV)(cl:Cm)(g:Operand->D)(H:Hp)(n:Nat)(op:Op):Xf X cl g H n op=JM X cl g H n op:=by
 unfold Xf;cases lR op g with
 |none=>rfl
 |some k=>
  dsimp only;cases JM X cl g H n op with
  |none=>rfl
  |some r=>exact uI k r
noncomputable def TW (X:EV)(cl:Cm)(g:Operand->D)(H:Hp)(n:Nat)(op:Op):Option (D×Hp×Nat):=Option.rec (motive:=λ_=>Option (D×Hp×Nat)) (Option.rec (motive:=λ_=>Option (D×Hp×Nat)) (Xf X cl g H n op) (λr=>some r) (qF op X cl g H n)) (λd=>some (d,H,n+1)) (pF op X.tt g)
theorem wY {X:EV}{g:Operand->D}{H:Hp}{n:Nat}{op:Op}{d:D}(h:pF op X.tt g=some d):MD X g H n op=some (d,H,n+1):=by
 obtain⟨p,h1,h2⟩:=kJ h;simp only[MD,h1,h2,IN]
theorem fO {o:Option D}{H:Hp}{n:Nat}{r:D×Hp×Nat}(h:rH o H n=some r):∃d,o=some d/\r=(d,H,n+1):=by
 cases o with
 |none=>cases(show none=some r from h)
 |some d=>cases(show some _=some r from h);exact⟨d,rfl,rfl⟩
theorem iG {tt:Nat->Option Ai}{g:Operand->D}{t:Nat}{x ix:Operand}{d:D}(h:PO Yd (tt t) (g x) (g ix)=some d):O8 tt g t x ix=some d/\EF tt g (.indexAddr t x ix)=none:=by
 obtain⟨i,e,esz,eby,ez,j,a1,a2,a3,h⟩:=jJ h;simp only[O8,EF,a1,a2,a3];generalize g x=dx at h;cases dx<;>try(cases(show none=some d from h);done)
 obtain⟨hb,h⟩:=OC h;obtain⟨d',h1,h⟩:=Lc h;cases h;rw[OH]at h1;refine⟨?_,rfl⟩;simp only[hb,Hs,Int.natCast_nonneg,decide_true,Iv,h1]
theorem qx {X:EV}{cl:Cm}{g:Operand->D}{H:Hp}{n:Nat}{op:Op}{r:D×Hp×Nat}(h:TW X cl g H n op=some r):JM X cl g H n op=some r:=by
 unfold TW at h;cases hp:pF op X.tt g with
 |some d=>
  rw[hp]at h;cases(show some (d,H,n+1)=some r from h);have hpe:=wY (H:=H) (n:=n) hp;cases op<;>first|(cases(show none=some d from hp);done)|exact hpe|(simp only[JM,hpe,GR])
 |none=>
  rw[hp]at h;cases hq:qF op X cl g H n with
  |none=>rw[hq]at h;rw[<-qz];exact h
  |some r'=>
   rw[hq]at h;cases(show some r'=some r from h);cases op<;>try(cases(show none=some r from hq);done)
   case load t x=>
    obtain⟨d,h1,rfl⟩:=fO hq;obtain⟨p,h2,h3⟩:=iI h1 n n;simp only[JM,h2,h3,IN,Cp]
   case store t x y=>
    have hq:Option.rec (motive:=λ_=>Option (D×Hp×Nat)) none (λH'=>some (.prim (.tuple #[]),H',n+1)) (PC t x y X.tt g H)=some r:=hq;cases hs:PC t x y X.tt g H with
    |none=>rw[hs]at hq;cases(show none=some r from hq)
    |some H'=>
     rw[hs]at hq;obtain⟨k,e,p,h1,h2,rfl⟩:=ff hs;cases(show some (D.prim (.tuple #[]),Hp.set H k e,n+1)=some r from hq);simp only[JM,h1,h2,IN]
   case indexAddr t x ix=>
    obtain⟨d,h1,rfl⟩:=fO hq;obtain⟨h2,h3⟩:=iG h1;simp only[JM,MD,h3,GR,h2]
   case call c=>
    obtain⟨callee,args,tys⟩:=c;cases callee<;>try(cases(show none=some r from hq);done)
    rename_i fop;have hq:lA (g fop) X cl (K6 args.toList g) H n=some r:=hq;simp only[JM];generalize g fop=df at hq;cases df<;>try(cases(show none=some r from hq);done)
    rename_i fn a b;cases fn<;>try(cases(show none=some r from hq);done)
    rename_i f;have hq:Option.rec (motive:=λ_=>Option (D×Hp×Nat)) (cl f (GW (GW a (K6 args.toList g)) b) H n) (λd=>some (d,H,n+1)) (X.nat f (GW (GW a (K6 args.toList g)) b))=some r:=hq;rw[Wa,P3,P3]at hq;dsimp only;rw[<-hq];cases X.nat f (a++List.map g args.toList++b)<;>rfl
noncomputable def Sd (X:EV)(cl:Cm)(ops:Array Oper)(s:ES)(o:Oper):Option (D×Hp×Nat):=match NP ops s.env o with
 |some true=>TW X cl (MJ s.env) s.H s.n o.op
 |some false=>some (.prim (.tuple #[]),s.H,s.n+1)
 |none=>none
noncomputable def Oe (X:EV)(cl:Cm)(ops:Array Oper)(s:ES)(o:Oper):Option (D×Hp×Nat):=ES.rec (motive:=λ_=>Option (D×Hp×Nat)) (λe H n=>Option.rec (motive:=λ_=>Option (D×Hp×Nat)) (TW X cl (MJ e) H n o.op) (λ_=>Sd X cl ops ⟨e,H,n⟩ o) o.guard) s
theorem pP (X:EV)(cl:Cm)(ops:Array Oper)(s:ES)(o:Oper):Oe X cl ops s o=Sd X cl ops s o:=by
 unfold Oe;obtain⟨e,H,n⟩:=s;cases hg:o.guard with
 |some p=>rfl
 |none=>simp only[Sd,NP,hg]
noncomputable def wX (X:EV)(cl:Cm)(ops:Array Oper)(l:List Oper):ET->Hp->Nat->Option ES:=List.rec (motive:=λ_=>ET->Hp->Nat->Option ES) (λe H n=>some ⟨e,H,n⟩) (λo _ ih e H n=>Option.rec (motive:=λ_=>Option ES) none (λr=>Prod.rec (motive:=λ_=>Option ES) (λd q=>Prod.rec (motive:=λ_=>Option ES) (λH' n'=>Ja d λd=>Dv n' λn'=>Nk e o.dst d λe'=>ih e' H' n') q) r) (Oe X cl ops ⟨e,H,n⟩ o)) l
noncomputable def Qf (X:EV)(cl:Cm)(ops:Array Oper)(l:List Oper)(s:ES):Option ES:=ES.rec (motive:=λ_=>Option ES) (λe H n=>wX X cl ops l e H n) s
def US (d:D)(H:Hp)(n:Nat):D->Hp->Nat->Prop:=λd1 H1 n1=>d1=d/\H1=H/\n1=n
def Jp (C:BH)(cl:Cm):Prop:=∀f ds H n d H' n',cl f ds H n=some (d,H',n')->C4 C f ds H n (US d H' n')
def La (C:BH)(cp:Ee):Prop:=∀f ds d,cp f ds=some d->AI C f ds d/\AU ds
section
variable {C:BH} {F:AZ} {X:EV} {cl:Cm} {cp:Ee} {ops:Array Oper}
theorem C4.subH {f:Nat}{ds:List D}{H H1 H2:Hp}{n n':Nat}{d:D}(hs:H2.Sublist H1)(h:C4 C f ds H n (US d H1 n')):C4 C f ds H n (US d H2 n'):=by
 refine⟨h.1,λF ρ w vs m hfr hg hvs hr=>(h.2 F ρ w vs m hfr hg hvs hr).mono ?_⟩;rintro e w' ⟨v,d',H',n2,ρ',rfl,⟨rfl,rfl,rfl⟩,m',x,fr,gn,rep⟩;obtain⟨m2,hO⟩:=m'.sub hs;exact⟨v,_,_,_,ρ',rfl,⟨rfl,rfl,rfl⟩,m2,⟨x.size,x.link,λb hb hb'=>⟨λh=>(x.pure b hb hb').1 (hO b h),(x.pure b hb hb').2⟩,x.shape⟩,fr,λe he=>gn e (hs.subset he),rep.anti hO⟩
theorem Mm {b:Bool}{r r':D×Hp×Nat}(h:IN b r=some r'):b=true/\r=r':=by
 cases b
 ·cases h
 ·cases h;exact⟨rfl,rfl⟩
theorem Zu {tt:Nat->Option Ai}{g:Operand->D}{t:Nat}{x ix:Operand}{d:D}(h:O8 tt g t x ix=some d):∃i e esz eby ez kk j nn es d',tt t=some i/\i.ti=.slice e esz eby ez/\g ix=.prim (.int kk j) /\
  g x=.sl nn esz es/\0<=j/\es[j.toNat]?=some d'/\d=.pptr d':=by
 unfold O8 at h;split at h<;>try(cases h;done)
 rename_i i h1;split at h<;>try(cases h;done)
 rename_i e esz eby ez h2;split at h<;>try(cases h;done)
 rename_i kk j h3;split at h<;>try(cases h;done)
 rename_i nn sz es h4;split at h<;>try(cases h;done)
 rename_i h5;split at h<;>try(cases h;done)
 rename_i d' h6;cases h;simp only[BM,HL]at h5;obtain rfl:=Bi h5.1;exact⟨i,e,sz,eby,ez,kk,j,nn,es,d',h1,h2,h3,h4,h5.2,h6,rfl⟩
theorem pU (hX:FC C X)(hcl:Jp C cl){e:ET}{s:St}(hm:Mt e s.env){o:Oper}{os:List Oper}{K:St->Prop}{d:D}{H':Hp}{n':Nat}(h:Oe X cl ops ⟨e,s.H,s.n⟩ o=some (d,H',n'))
  (hk':BJ C F ops os ⟨Bq s.env o.dst d,H',n'⟩ K):BJ C F ops (o::os) s K:=by
 rw[pP]at h;unfold Sd at h;rw[Sp hm,Vp hm]at h;split at h<;>try(cases h;done)
 ·rename_i hw
  replace h:=qx h
  have pe:MD X (BE s.env) s.H s.n o.op=some (d,H',n')->BJ C F ops (o::os) s K:=λh=>by
   unfold MD at h;split at h<;>try(cases h;done)
   rename_i hp;obtain⟨hb,hr⟩:=Mm h;cases hr;exact BJ.p hX.tt hw hp (XG hp hb) hk'
  have qe:Tw X (BE s.env) s.H s.n o.op=some (d,H',n')->BJ C F ops (o::os) s K:=λh=>by
   unfold Tw at h;split at h<;>try(cases h;done)
   rename_i hp;obtain⟨hb,hr⟩:=Mm h;cases hr;exact BJ.q hX.tt hX.xt hw hp (iT hp hb) hk'
  have le:∀r,(match EE X.tt s.H s.n s.n (BE s.env) o.op with
    |some (d,ne,_)=>IN (I1 X.tt s.H (BE s.env) o.op) (d,Cp ne s.H,s.n+1)
    |none=>none)=some r->r=(d,H',n')->BJ C F ops (o::os) s K:=λr h hr=>by
   split at h<;>try(cases h;done)
   rename_i hp;obtain⟨hb,hr'⟩:=Mm h;rw[<-hr']at hr;cases hr;exact BJ.l' s.n hX.tt hw hp (XF hp hb) hk'
  unfold JM at h;split at h
  ·rename_i fop args tys ho
   split at h<;>try(cases h;done)
   rename_i f first captured hf
   split at h
   ·rename_i hn
    cases h;exact BJ.nat hw ho hf rfl (hX.nat _ _ _ hn) hk'
   refine e2X hw ho hf rfl (hcl _ _ _ _ _ _ _ h) λd1 H1 n1 hΦ=>?_
   obtain⟨rfl,rfl,rfl⟩:=hΦ;exact hk'
  ·rename_i r name args tys ho
   split at h<;>try(cases h;done)
   rename_i t d0 hr;split at h<;>try(cases h;done)
   rename_i f hf;refine e2Z hw ho hr (hX.mt _ _ _ hf) rfl (hcl _ _ _ _ _ _ _ h) λd1 H1 n1 hΦ=>?_
   obtain⟨rfl,rfl,rfl⟩:=hΦ;exact hk'
  ·split at h<;>try(cases h;done)
   rename_i hp;obtain⟨hb,hr⟩:=Mm h;cases hr;exact mC s.n hX.tt hw hp (XE hp hb) hk'
  ·split at h<;>try(cases h;done)
   rename_i hp;obtain⟨hb,hr⟩:=Mm h;cases hr;exact mK s.n hX.tt hw hp (zm hp hb) hk'
  ·split at h<;>try(cases h;done)
   rename_i hp;obtain⟨hb,hr⟩:=Mm h;cases hr;exact BJ.store hX.tt hw hp (iU hp hb) hk'
  ·rename_i args tys ho
   unfold lH at h;split at h<;>try(cases h;done)
   rename_i x y hargs;split at h<;>try(cases h;done)
   rename_i t t' htys;split at h<;>try(cases h;done)
   rename_i i hi;split at h<;>try(cases h;done)
   rename_i e esz eby ez hk;split at h<;>try(cases h;done)
   rename_i k gg sz len hx;split at h<;>try(cases h;done)
   rename_i e1 he;split at h<;>try(cases h;done)
   rename_i news p hsrc;split at h<;>try(cases h;done)
   rename_i hb;cases h;simp only[BM]at hb;obtain⟨b0,⟨⟨⟨⟨⟨b1,b2⟩,b3⟩,b4⟩,b5⟩,b6⟩⟩:=hb;obtain rfl:=Bi b2;have hargs':args = #[x,y]:=by rw[<-PH (xs:=args),hargs]
   have htys':tys = #[t,t']:=by rw[<-PH (xs:=tys),htys]
   subst hargs' htys';exact BJ.copy hX.tt hw ho hi hk hx he (Bi b1) (Bi b3) hsrc (V2 hsrc b0) (Cf b4) (Cf b5) (λh0=>by
    have:=Cf b6
    rw[h0]at this;simp at this) hk'
  ·rename_i t len ps ho
   unfold GR at h;split at h
   ·rename_i hr
    cases h;unfold ja at hr;split at hr<;>try(cases hr;done)
    split at hr<;>try(cases hr;done)
    rename_i i hi;split at hr<;>try(cases hr;done)
    rename_i e esz eby ez hk;split at hr<;>try(cases hr;done)
    split at hr<;>try(cases hr;done)
    rename_i ie hie;split at hr<;>try(cases hr;done)
    rename_i es hes;split at hr<;>try(cases hr;done)
    rename_i hb;cases hr;simp only[BM]at hb;obtain⟨⟨⟨b1,b2⟩,b3⟩,b4⟩:=hb;exact BJ.lit hX.tt _ hw ho hi hk hie hes (V0 b1) (Bi b2) (Cf b3) (Cf b4) hk'
   ·exact le _ h rfl
  ·exact le _ h rfl
  ·exact le _ h rfl
  ·exact le _ h rfl
  ·rename_i t x ix ho
   unfold GR at h;split at h
   ·rename_i hr;cases h;exact pe hr
   ·split at h<;>try(cases h;done)
    rename_i hi;cases h;obtain⟨i,e,esz,eby,ez,kk,j,nn,es,d',a1,a2,a3,a4,a5,a6,rfl⟩:=Zu hi;exact BJ.idx hX.tt hw ho a1 a2 a3 a4 a5 a6 hk'
  ·exact qe h
  ·exact qe h
  ·rename_i b t x y yt ho
   unfold GR at h;split at h
   ·rename_i hr;cases h;exact pe hr
   ·split at h
    ·rename_i hr;cases h;exact qe hr
    ·unfold jb at h
     split at h<;>try(cases h;done)
     rename_i hx;split at h<;>try(cases h;done)
     rename_i hy;split at h<;>try(cases h;done)
     rename_i i hi;split at h<;>try(cases h;done)
     rename_i e esz eby ez hk;split at h<;>try(cases h;done)
     rename_i c hc;cases h;exact e3b hX.tt hw ho hi hk hx hy hc hk'
  ·exact pe h
 ·rename_i hw
  cases h;exact BJ.skip hw hk'
theorem SS (hX:FC C X)(hcl:Jp C cl){K:St->Prop}{s':ES}:∀ {os:List Oper} {e:ET} {s:St},Qf X cl ops os ⟨e,s.H,s.n⟩=some s'->Mt e s.env->(∀env',Mt s'.env env'->K ⟨env',s'.H,s'.n⟩)->BJ C F ops os s K
 | [],e,s,h,hm,hk=>by
  cases(show some (⟨e,s.H,s.n⟩:ES)=some s' from h);exact BJ.nil (hk s.env hm)
 |o::os,e,s,h,hm,hk=>by
  have h:Option.rec (motive:=λ_=>Option ES) none (λr=>Prod.rec (motive:=λ_=>Option ES) (λd q=>Prod.rec (motive:=λ_=>Option ES) (λH' n'=>Ja d λd=>Dv n' λn'=>Nk e o.dst d λe'=>Qf X cl ops os ⟨e',H',n'⟩) q) r) (Oe X cl ops ⟨e,s.H,s.n⟩ o)=some s':=h;cases hs:Oe X cl ops ⟨e,s.H,s.n⟩ o with
  |none=>rw[hs]at h;cases(show none=some s' from h)
  |some r=>
   rw[hs]at h;dsimp only at h;rw[Lr,QM,Lm]at h;exact pU hX hcl hm hs (SS (s:=⟨Bq s.env o.dst r.1,r.2.1,r.2.2⟩) hX hcl h (hm.put _ _) hk)
theorem CC.l' {H:Hp}{g:Nat}{env:As}{o:Oper}{tt:Nat->Option Ai}(k:Nat)(htt:CY C.P tt){d:D}{ne:Option Af}{p:Prop}(hw:CD ops env o=some true)(he:EE tt H g k (BE env) o.op=some (d,ne,p))(hp:p):CC C F ops H g env o d ne:=by
 refine⟨λe h=>by subst h;exact dT he,λHe ρ a w m hsub fr hne hr=>.inr ⟨HX hr hw,.inl ?_⟩⟩;obtain⟨g',h1,h2⟩:=H8 hr;obtain⟨v,ρ',w',r1,r2⟩:=gt (g:=g') hsub htt m fr hne h2 (by rw[<-pI h1];exact he) hp;exact⟨v,ρ',w',r1,r2⟩
theorem pM {tt:Nat->Option Ai}{xt:Nat->Option XI}{g g':Operand->D}{op:Op}(h:∀x∈op.operands,g x=g' x):Gv tt xt g op=Gv tt xt g' op:=by
 cases op<;>simp only[Op.operands]at h<;>try rfl
 case binOp op t x y yt=>simp only[Gv];rw[h x (by simp),h y (by simp)]
 case makeInterface t x=>simp only[Gv];rw[h x (by simp)]
 case lookup t x ix ok=>simp only[Gv];rw[h x (by simp),h ix (by simp)]
theorem CC.q {H:Hp}{g:Nat}{env:As}{o:Oper}{tt:Nat->Option Ai}{xt:Nat->Option XI}(htt:CY C.P tt)(hxt:MA C.P xt){d:D}{p:Prop}(hw:CD ops env o=some true)(he:Gv tt xt (BE env) o.op=some (d,p))(hp:p):
  CC C F ops H g env o d none:=by
 refine⟨by simp,λHe ρ a w m _ _ _ hr=>.inr ⟨HX hr hw,.inl ?_⟩⟩;obtain⟨g',h1,h2⟩:=H8 hr;obtain⟨v,r1,r2⟩:=gz (g:=g') htt hxt h2 (by rw[<-pM h1];exact he) hp;exact⟨v,ρ,w,r1,m,.refl _ _ _,λ_ _ _=>rfl,r2⟩
def K0 (b:Bool)(r:D×Option Af):Option (D×Option Af):=match b with
 |true=>some r
 |false=>none
theorem Pf {b:Bool}{r r':D×Option Af}(h:K0 b r=some r'):b=true/\r=r':=by
 cases b
 ·cases h
 ·cases h;exact⟨rfl,rfl⟩
def Md (X:EV)(g:Operand->D)(op:Op):Option (D×Option Af):=match EF X.tt g op with
 |some (d,_)=>K0 (Hv X.tt g op) (d,none)
 |none=>none
def Ub (X:EV)(g:Operand->D)(op:Op):Option (D×Option Af):=match Gv X.tt X.xt g op with
 |some (d,_)=>K0 (UW X.xt g op) (d,none)
 |none=>none
def lc (cl:Cm)(H:Hp)(n f:Nat)(ds:List D):Option (D×Option Af):=match HI (K5 20 H) ds with
 |some ds'=>match GV (Gl 20) ds' with
  |true=>match cl f ds' [] 0 with
   |some (.osl k g sz i len,H1,_)=>match Hp.get H1 k with
    |some e=>match Nat.beq g e.g&&GV (QQ (Ox 20)) e.es with
     |true=>some (.osl n n sz i len,some ⟨n,n,e.T,e.sz,e.es⟩)
     |false=>none
    |none=>none
   |_=>none
  |false=>none
 |none=>none
def lh (cp:Ee)(H:Hp)(f:Nat)(ds:List D):Option (D×Option Af):=match HI (K5 20 H) ds with
 |some ds'=>match cp f ds' with
  |some d=>K0 (Ox 20 d) (d,none)
  |none=>none
 |none=>none
def T4 (X:EV)(cl:Cm)(cp:Ee)(H:Hp)(n f:Nat)(ds:List D):Option (D×Option Af):=match X.np f with
 |true=>lc cl H n f ds
 |false=>match cp f ds with
  |some d=>some (d,none)
  |none=>lh cp H f ds
def Ni (X:EV)(cl:Cm)(cp:Ee)(g:Operand->D)(H:Hp)(n:Nat)(op:Op):Option (D×Option Af):=match op with
 | .call ⟨.value fop,args,_⟩=>match g fop with
  | .clo (.func f) first captured=>match X.nat f (first++args.toList.map g++captured)with
   |some d=>some (d,none)
   |none=>T4 X cl cp H n f (first++args.toList.map g++captured)
  |_=>none
 | .call ⟨.builtin .append,_,_⟩=>match EX X.tt [] n n g op with
  |some (d,[e],_)=>K0 (RU X.tt [] g op) (d,some e)
  |_=>none
 | .load _ _ | .alloc _ | .box _ _ | .buildSlice _ _ _=>match EE X.tt H n n g op with
  |some (d,ne,_)=>K0 (I1 X.tt H g op) (d,ne)
  |none=>none
 | .indexAddr t x ix=>GR (Md X g op) (match O8 X.tt g t x ix with
  |some d=>some (d,none)
  |none=>none)
 | .makeInterface _ _ | .lookup _ _ _ _=>Ub X g op
 | .binOp _ _ _ _ _=>GR (Md X g op) (Ub X g op)
 |_=>Md X g op
abbrev rN (o:Option D):Option (D×Option Af):=Option.rec (motive:=λ_=>Option (D×Option Af)) none (λd=>some (d,none)) o
noncomputable def lB (d:D):EV->Cm->Ee->List D->Hp->Nat->Option (D×Option Af):=D.rec (motive_1:=λ_=>EV->Cm->Ee->List D->Hp->Nat->Option (D×Option Af)) (motive_2:=λ_=>Unit) (λ_ _ _ _ _ _=>none) (λ_ _ _ _ _ _ _=>none) (λ_ _ _ _ _ _ _ _=>none) (λ_ _ _ _ _ _ _ _=>none) (λ_ _ _ _ _ _ _ _ _ _=>none) (λ_ _ _ _ _ _ _ _=>none) (λ_ _ _ _ _ _ _ _ _ _ _=>none) (λ_ _ _ _ _ _ _ _ _ _ _=>none) (λfn a b _ _ X cl cp l H n=>Fn.rec (motive:=λ_=>Option (D×Option Af)) (λf=>Option.rec (motive:=λ_=>Option (D×Option Af)) (T4 X cl cp H n f (GW (GW a l) b)) (λd=>some (d,none)) (X.nat f (GW (GW a l) b))) (λ_=>none) (λ_ _=>none) (λ_ _ _ _=>none) (λ_=>none) fn) (λ_ _ _ _ _ _ _ _ _=>none) (λ_ _ _ _ _ _ _ _ _ _=>none) (λ_ _ _ _ _ _ _ _ _=>none) () (λ_ _ _ _=>()) d
noncomputable def e1O (c:Callee):List Operand->EV->Cm->Ee->(Operand->D)->Hp->Nat->Option (D×Option Af):=Callee.rec (motive:=λ_=>List Operand->EV->Cm->Ee->(Operand->D)->Hp->Nat->Option (D×Option Af)) (λfop l X cl cp g H n=>lB (g fop) X cl cp (K6 l g) H n) (λ_ _ _ _ _ _ _ _ _=>none) (λ_ _ _ _ _ _ _ _=>none) c
noncomputable def qS (op:Op):EV->Cm->Ee->(Operand->D)->Hp->Nat->Option (D×Option Af):=Op.rec (motive:=λ_=>EV->Cm->Ee->(Operand->D)->Hp->Nat->Option (D×Option Af)) (λ_ _ _ _ _ _ _=>none) (λ_ _ _ _ _ _ _=>none) (λ_ _ _ _ _ _ _ _ _=>none) (λ_ _ _ _ _ _ _=>none) (λ_ _ _ _ _ _ _ _=>none) (λ_ _ _ _ _ _ _ _=>none) (λ_ _ _ _ _ _ _ _ _=>none) (λ_ _ _ _ _ _ _ _ _ _=>none) (λt x X _ _ g H _=>rN (UT t x X.tt g H)) (λ_ _ _ _ _ _ _ _ _=>none) (λ_ _ _ _ _ _ _=>none) (λ_ _ _ _ _ _ _=>none) (λ_ _ _ _ _ _ _=>none) (λ_ _ _ _ _ _ _ _ _ _ _=>none) (λ_ _ _ _ _ _ _ _ _=>none) (λ_ _ _ _ _ _ _ _ _=>none) (λ_ _ _ _ _ _ _ _=>none) (λ_ _ _ _ _ _ _ _=>none) (λ_ _ _ _ _ _ _ _ _=>none) (λ_ _ _ _ _ _ _ _=>none) (λ_ _ _ _ _ _ _ _=>none) (λ_ _ _ _ _ _ _ _ _=>none) (λ_ _ _ _ _ _ _ _ _ _ _=>none) (λ_ _ _ _ _ _ _ _ _=>none) (λ_ _ _ _ _ _ _ _ _=>none) (λt x ix X _ _ g _ _=>rN (PO Yd (X.tt t) (g x) (g ix))) (λ_ _ _ _ _ _ _ _ _=>none) (λ_ _ _ _ _ _ _ _ _ _=>none) (λ_ _ _ _ _ _ _ _ _ _=>none) (λ_ _ _ _ _ _ _ _ _=>none) (λ_ _ _ _ _ _ _ _ _ _=>none) (λ_ _ _ _ _ _ _ _=>none) (λ_ _ _ _ _ _ _ _=>none) (λ_ _ _ _ _ _ _=>none) (λ_ _ _ _ _ _ _ _ _ _=>none) (λ_ _ _ _ _ _ _ _=>none) (λc=>e1O c.callee c.args.toList) (λ_ _ _ _ _ _ _=>none) (λ_ _ _ _ _ _ _=>none) (λ_ _ _ _ _ _ _=>none) (λ_ _ _ _ _ _ _ _=>none) (λ_ _ _ _ _ _ _ _ _=>none) (λ_ _ _ _ _ _ _ _=>none) op
noncomputable def Tf (X:EV)(cl:Cm)(cp:Ee)(g:Operand->D)(H:Hp)(n:Nat)(op:Op):Option (D×Option Af):=Option.rec (motive:=λ_=>Option (D×Option Af)) (Option.rec (motive:=λ_=>Option (D×Option Af)) (Ni X cl cp g H n op) (λr=>some r) (qS op X cl cp g H n)) (λd=>some (d,none)) (pF op X.tt g)
theorem e0B {X:EV}{g:Operand->D}{op:Op}{d:D}(h:pF op X.tt g=some d):Md X g op=some (d,none):=by
 obtain⟨p,h1,h2⟩:=kJ h;simp only[Md,h1,h2,K0]
theorem fQ {o:Option D}{r:D×Option Af}(h:rN o=some r):∃d,o=some d/\r=(d,none):=by
 cases o with
 |none=>cases(show none=some r from h)
 |some d=>cases(show some _=some r from h);exact⟨d,rfl,rfl⟩
theorem sK {X:EV}{cl:Cm}{cp:Ee}{g:Operand->D}{H:Hp}{n:Nat}{op:Op}{r:D×Option Af}(h:Tf X cl cp g H n op=some r):Ni X cl cp g H n op=some r:=by
 unfold Tf at h;cases hp:pF op X.tt g with
 |some d=>
  rw[hp]at h;cases(show some (d,none)=some r from h);have hpe:=e0B hp;cases op<;>first|(cases(show none=some d from hp);done)|exact hpe|(simp only[Ni,hpe,GR])
 |none=>
  rw[hp]at h;cases hq:qS op X cl cp g H n with
  |none=>rw[hq]at h;exact h
  |some r'=>
   rw[hq]at h;cases(show some r'=some r from h);cases op<;>try(cases(show none=some r from hq);done)
   case load t x=>
    obtain⟨d,h1,rfl⟩:=fQ hq;obtain⟨p,h2,h3⟩:=iI h1 n n;simp only[Ni,h2,h3,K0]
   case indexAddr t x ix=>
    obtain⟨d,h1,rfl⟩:=fQ hq;obtain⟨h2,h3⟩:=iG h1;simp only[Ni,Md,h3,GR,h2]
   case call c=>
    obtain⟨callee,args,tys⟩:=c;cases callee<;>try(cases(show none=some r from hq);done)
    rename_i fop;have hq:lB (g fop) X cl cp (K6 args.toList g) H n=some r:=hq;simp only[Ni];generalize g fop=df at hq;cases df<;>try(cases(show none=some r from hq);done)
    rename_i fn a b;cases fn<;>try(cases(show none=some r from hq);done)
    rename_i f;have hq:Option.rec (motive:=λ_=>Option (D×Option Af)) (T4 X cl cp H n f (GW (GW a (K6 args.toList g)) b)) (λd=>some (d,none)) (X.nat f (GW (GW a (K6 args.toList g)) b))=some r:=hq;rw[Wa,P3,P3]at hq;dsimp only;rw[<-hq];cases X.nat f (a++List.map g args.toList++b)<;>rfl
noncomputable def Si (X:EV)(cl:Cm)(cp:Ee)(ops:Array Oper)(H:Hp)(n:Nat)(env:ET)(o:Oper):Option (D×Option Af):=match NP ops env o with
 |some true=>Tf X cl cp (MJ env) H n o.op
 |some false=>some (.prim (.tuple #[]),none)
 |none=>none
noncomputable def OY (X:EV)(cl:Cm)(cp:Ee)(ops:Array Oper)(H:Hp)(n:Nat)(env:ET)(o:Oper):Option (D×Option Af):=Option.rec (motive:=λ_=>Option (D×Option Af)) (Tf X cl cp (MJ env) H n o.op) (λ_=>Si X cl cp ops H n env o) o.guard
theorem qo (X:EV)(cl:Cm)(cp:Ee)(ops:Array Oper)(H:Hp)(n:Nat)(env:ET)(o:Oper):OY X cl cp ops H n env o=Si X cl cp ops H n env o:=by
 unfold OY;cases hg:o.guard with
 |some p=>rfl
 |none=>simp only[Si,NP,hg]
theorem VT (hX:FC C X)(hcl:Jp C cl)(hcp:La C cp){H:Hp}{n:Nat}{e:ET}{env:As}(hm:Mt e env){o:Oper}{d:D}{ne:Option Af}(h:OY X cl cp ops H n e o=some (d,ne)):CC C F ops H n env o d ne:=by
 rw[qo]at h;unfold Si at h;rw[Sp hm,Vp hm]at h;split at h<;>try(cases h;done)
 ·rename_i hw
  replace h:=sK h
  have pe:Md X (BE env) o.op=some (d,ne)->CC C F ops H n env o d ne:=λh=>by
   unfold Md at h;split at h<;>try(cases h;done)
   rename_i hp;obtain⟨hb,hr⟩:=Pf h;cases hr;exact CC.p hX.tt hw hp (XG hp hb)
  have qe:Ub X (BE env) o.op=some (d,ne)->CC C F ops H n env o d ne:=λh=>by
   unfold Ub at h;split at h<;>try(cases h;done)
   rename_i hp;obtain⟨hb,hr⟩:=Pf h;cases hr;exact CC.q hX.tt hX.xt hw hp (iT hp hb)
  have le:∀r,(match EE X.tt H n n (BE env) o.op with
    |some (d,ne,_)=>K0 (I1 X.tt H (BE env) o.op) (d,ne)
    |none=>none)=some r->r=(d,ne)->CC C F ops H n env o d ne:=λr h hr=>by
   split at h<;>try(cases h;done)
   rename_i hp;obtain⟨hb,hr'⟩:=Pf h;rw[<-hr']at hr;cases hr;exact CC.l' n hX.tt hw hp (XF hp hb)
  unfold Ni at h;split at h
  ·rename_i fop args tys ho
   split at h<;>try(cases h;done)
   rename_i f first captured hf
   split at h
   ·rename_i hn
    cases h;exact CC.nat hw ho hf rfl (hX.nat _ _ _ hn)
   unfold T4 at h;split at h
   ·unfold lc at h
    split at h<;>try(cases h;done)
    rename_i hm;split at h<;>try(cases h;done)
    rename_i hp;split at h<;>try(cases h;done)
    rename_i hc;split at h<;>try(cases h;done)
    rename_i e he;split at h<;>try(cases h;done)
    rename_i hb;simp only[BM]at hb;obtain⟨b2,b3⟩:=hb;obtain⟨hm1,rfl⟩:=Hp.get_mem he;obtain rfl:=Bi b2;cases h;obtain⟨m1,m2⟩:=IA hm;exact e3Q _ hw ho hf rfl m1 (λi a b ha hb=>(I8 (m2 i a b ha hb)).1) (C4.subH (List.singleton_sublist.2 hm1) (hcl _ _ _ _ _ _ _ hc)) ⟨λx hx=>F5 (G4 hp x hx)⟩ λx hx c hc=>ST (VM (G4 b3 x hx) c hc)
   ·split at h
    ·rename_i hc
     cases h;obtain⟨c1,c2⟩:=hcp _ _ _ hc;exact CC.call hw ho hf rfl c1 c2
    ·unfold lh at h
     split at h<;>try(cases h;done)
     rename_i hm;split at h<;>try(cases h;done)
     rename_i hc;obtain⟨hb,hr⟩:=Pf h;cases hr;obtain⟨c1,c2⟩:=hcp _ _ _ hc;obtain⟨m1,m2⟩:=IA hm;exact e3R hw ho hf rfl m1 (λi a b ha hb=>(I8 (m2 i a b ha hb)).1) c1 c2 (ST hb)
  ·split at h<;>try(cases h;done)
   rename_i hp;obtain⟨hb,hr⟩:=Pf h;cases hr;exact mJ n hX.tt hw hp (XE hp hb)
  ·exact le _ h rfl
  ·exact le _ h rfl
  ·exact le _ h rfl
  ·exact le _ h rfl
  ·rename_i t x ix ho
   unfold GR at h;split at h
   ·rename_i hr;cases h;exact pe hr
   ·split at h<;>try(cases h;done)
    rename_i hi;cases h;obtain⟨i,e,esz,eby,ez,kk,j,nn,es,d',a1,a2,a3,a4,a5,a6,rfl⟩:=Zu hi;exact CC.idx hX.tt hw ho a1 a2 a3 a4 a5 a6
  ·exact qe h
  ·exact qe h
  ·unfold GR at h
   split at h
   ·rename_i hr;cases h;exact pe hr
   ·exact qe h
  ·exact pe h
 ·rename_i hw
  cases h;exact CC.skip hw
noncomputable def Ou (X:EV)(cl:Cm)(cp:Ee)(ops:Array Oper)(H:Hp)(n:Nat):List Nat->ET->Hp->Option (ET×Hp)
 | [],env,N=>some (env,N)
 |i::l,env,N=>match ops[i]? with
  |some o=>match OY X cl cp ops H (n+i) env o with
   |some (d,ne)=>Ja d λd=>Nk env o.dst d λenv=>Ou X cl cp ops H n l env (Cp ne N)
   |none=>none
  |none=>none
theorem ab (hX:FC C X)(hcl:Jp C cl)(hcp:La C cp){H:Hp}{n:Nat}:∀ {l:List Nat} {e e':ET} {env:As} {N N':Hp},Ou X cl cp ops H n l e N=some (e',N')->Mt e env->∃env',Mt e' env'/\Jd C F ops H n l env N env' N'
 | [],e,e',env,N,N',h,hm=>by
  simp only[Ou,BO,Br]at h;obtain⟨rfl,rfl⟩:=h;exact⟨env,hm,.nil _ _⟩
 |i::l,e,e',env,N,N',h,hm=>by
  simp only[Ou]at h;split at h<;>try(cases h;done)
  rename_i o ho;split at h<;>try(cases h;done)
  rename_i d ne hs;rw[Lr,Lm]at h;obtain⟨env',h1,h2⟩:=ab hX hcl hcp h (hm.put _ _);exact⟨env',h1,.cons ho (VT hX hcl hcp hm hs) h2⟩
def aK (ops:Array Oper)(done:List Nat):List Nat->Option (Nat×List Nat)
 | []=>none
 |i::r=>match If (GS ops i) done with
  |true=>some (i,r)
  |false=>match aK ops done r with
   |some (j,r')=>some (j,i::r')
   |none=>none
def YC (ops:Array Oper):Nat->List Nat->List Nat->List Nat
 | 0,done,rest=>done.reverse++rest
 |f+1,done,rest=>match aK ops done rest with
  |some (i,rest')=>YC ops f (i::done) rest'
  |none=>done.reverse++rest
def XY (clo:List (Nat×List Nat)):List Nat->List Nat->List Nat->List Nat->List Nat×List Nat
 |_,[],pre,cur=>(pre.reverse,cur.reverse)
 |done,i::l,pre,cur=>match If done (DV clo i)with
  |true=>XY clo (i::done) l pre (i::cur)
  |false=>XY clo (i::done) l (i::(cur++pre)) []
def e0f (ops:Array Oper):List Nat×List Nat:=
 XY (Hg ops (YC ops ops.size [] (List.range ops.size)) []) [] (YC ops ops.size [] (List.range ops.size)) [] []
def e2e:Op->Bool
 | .store _ _ _=>true
 | .call ⟨.builtin .append,_,_⟩=>true
 |_=>false
def jc (ops:Array Oper):List Nat->Option Nat
 | []=>none
 |i::l=>match ops[i]? with
  |some o=>match e2e o.op with
   |true=>some i
   |false=>jc ops l
  |none=>none
def lK (i:Nat):List Nat->List Nat
 | []=>[]
 |j::l=>match Nat.beq i j with
  |true=>[]
  |false=>j::lK i l
def e0J (g:Operand->D):Op->Option Nat
 | .store _ x _=>match g x with
  | .optr k _ _ _ _=>some k
  |_=>none
 | .call ⟨.builtin .append,args,_⟩=>match args.toList with
  | [s,_]=>match g s with
   | .osl k _ _ _ _=>some k
   |_=>none
  |_=>none
 |_=>none
def Qx (X:EV)(e:Af)(n:Nat)(g:Operand->D)(op:Op):Option (D×Af):=match op with
 | .store _ _ _=>match E8 X.tt [e] g op with
  |some (_,e',_)=>match PR X.tt [e] g op with
   |true=>some (.prim (.tuple #[]),e')
   |false=>none
  |none=>none
 |_=>match EX X.tt [e] n n g op with
  |some (d,[e'],_)=>match RU X.tt [e] g op with
   |true=>some (d,e')
   |false=>none
  |_=>none
noncomputable def mV (X:EV)(e:Af)(g:Operand->D)(op:Op):Option (D×Af):=match op with
 | .store t x y=>match PC t x y X.tt g [e]with
  |some [e']=>some (.prim (.tuple #[]),e')
  |_=>none
 |_=>none
noncomputable def Xg (X:EV)(e:Af)(n:Nat)(g:Operand->D)(op:Op):Option (D×Af):=GR (mV X e g op) (Qx X e n g op)
theorem rE {X:EV}{e:Af}{n:Nat}{g:Operand->D}{op:Op}{r:D×Af}(h:Xg X e n g op=some r):Qx X e n g op=some r:=by
 unfold Xg GR at h;split at h
 ·rename_i hw
  cases h;unfold mV at hw;split at hw<;>try(cases hw;done)
  split at hw<;>try(cases hw;done)
  rename_i e' hs;cases hw;obtain⟨k,e1,p,h1,h2,h3⟩:=ff hs;simp only[Qx,h1,h2];simp only[Hp.set]at h3;split at h3
  ·simp only[Ev,and_true]at h3;rw[h3]
  ·rename_i hb
   simp only[E8]at h1;split at h1<;>try(cases h1;done)
   split at h1<;>try(cases h1;done)
   split at h1<;>try(cases h1;done)
   rename_i hg;split at h1<;>try(cases h1;done)
   cases h1;simp only[Hp.get]at hg;rw[hb]at hg;cases hg
 ·exact h
def JO (ia:Option Nat)(i:Nat):Bool:=match ia with
 |some j=>Nat.beq i j
 |none=>false
def Ik (ia:Option Nat)(accE:Option Af)(R:Hp)(b:Bool):Hp:=match ia with
 |none=>match accE with
  |some e=>match b with
   |true=>e::R
   |false=>R
  |none=>R
 |some _=>R
noncomputable def Ju (X:EV)(cl:Cm)(cp:Ee)(ops:Array Oper)(iw:Nat)(ia:Option Nat)(R:Hp)(clo:List Nat)(n:Nat):List Nat->ET->Hp->Option Af->Option Af->Option (ET×Hp×Af×Af)
 | [],env,N,accE,acc=>match accE with
  |some e=>match acc with
   |some e'=>some (env,N,e,e')
   |none=>none
  |none=>none
 |i::l,env,N,accE,acc=>match ops[i]? with
  |some o=>match Nat.beq i iw with
   |true=>match acc with
    |some _=>none
    |none=>match accE with
     |some e=>match NP ops env o with
      |some true=>match Xg X e (n+i) (MJ env) o.op with
       |some (d,e')=>Nk env o.dst d λenv=>Ju X cl cp ops iw ia R clo n l env N accE (some e')
       |none=>none
      |_=>none
     |none=>none
   |false=>match JO ia i with
    |true=>match accE with
     |some _=>none
     |none=>match OY X cl cp ops R (n+i) env o with
      |some (d,some e)=>Ja d λd=>Nk env o.dst d λenv=>Ju X cl cp ops iw ia R clo n l env N (some e) acc
      |_=>none
    |false=>match OY X cl cp ops (Ik ia accE R (Co i clo)) (n+i) env o with
     |some (d,ne)=>Ja d λd=>Nk env o.dst d λenv=>Ju X cl cp ops iw ia R clo n l env (Cp ne N) accE acc
     |none=>none
  |none=>none
theorem Mj {iw:Nat}{ia:Option Nat}{R:Hp}{clo:List Nat}{n:Nat}:∀ {l:List Nat} {env env':ET} {N N':Hp} {accE acc:Option Af} {e e':Af},Ju X cl cp ops iw ia R clo n l env N accE acc=some (env',N',e,e') ->
  (∀a,accE=some a->e=a)/\(∀a,acc=some a->e'=a)
 | [],_,_,_,_,_,_,_,_,h=>by
  simp only[Ju]at h;split at h<;>try(cases h;done)
  split at h<;>try(cases h;done)
  simp only[BO,Br]at h;exact⟨λa ha=>by cases ha;exact h.2.2.1.symm,λa ha=>by cases ha;exact h.2.2.2.symm⟩
 |i::l,_,_,_,_,_,_,_,_,h=>by
  simp only[Ju]at h;split at h<;>try(cases h;done)
  split at h
  ·split at h<;>try(cases h;done)
   split at h<;>try(cases h;done)
   split at h<;>try(cases h;done)
   split at h<;>try(cases h;done)
   rw[Lm]at h;exact⟨(Mj h).1,by simp⟩
  ·split at h
   ·split at h<;>try(cases h;done)
    split at h<;>try(cases h;done)
    rw[Lr,Lm]at h;exact⟨by simp,(Mj h).2⟩
   ·split at h<;>try(cases h;done)
    rw[Lr,Lm]at h;exact Mj h
theorem tz (hX:FC C X){W:WR}{n:Nat}{env:As}{o:Oper}{d:D}(hw:CD ops env o=some true)(h:Qx X W.e n (BE env) o.op=some (d,W.e')):I6 C F ops W n env o d:=by
 unfold Qx at h;split at h
 ·split at h<;>try(cases h;done)
  rename_i he;split at h<;>try(cases h;done)
  rename_i hk;simp only[BO,Br]at h;obtain⟨rfl,h2⟩:=h;rw[h2]at he;exact I6.store hX.tt hw he (iU he hk)
 ·split at h<;>try(cases h;done)
  rename_i he;split at h<;>try(cases h;done)
  rename_i hk;simp only[BO,Br]at h;obtain⟨rfl,h2⟩:=h;rw[h2]at he;exact I6.app n hX.tt hw he (XE he hk)
theorem SU {ia:Option Nat}{i:Nat}:JO ia i=true↔ia=some i:=by
 cases ia with
 |none=>simp[JO]
 |some j=>
  simp only[JO,BO];exact⟨λh=>(Bi h).symm,λh=>by rw[h];exact JY _⟩
theorem Rs (hX:FC C X)(hcl:Jp C cl)(hcp:La C cp){W:WR}(hwa:W.ia≠some W.iw){clo:List Nat}(hclo:∀j∈clo,DU ops W.iw j){n:Nat}:∀ {l:List Nat} {t t':ET} {env:As} {N N':Hp} {accE acc:Option Af},
  Ju X cl cp ops W.iw W.ia W.R clo n l t N accE acc=some (t',N',W.e,W.e')->Mt t env->∃env',Mt t' env'/\JI C F ops W n l env N env' N'
 | [],t,t',env,N,N',accE,acc,h,hm=>by
  simp only[Ju]at h;split at h<;>try(cases h;done)
  split at h<;>try(cases h;done)
  simp only[BO,Br]at h;obtain⟨rfl,rfl,_⟩:=h;exact⟨env,hm,.nil _ _⟩
 |i::l,t,t',env,N,N',accE,acc,h,hm=>by
  simp only[Ju,Sp hm,Vp hm]at h;split at h<;>try(cases h;done)
  rename_i o ho;split at h
  ·rename_i hb
   have hb:=Bi hb;split at h<;>try(cases h;done)
   split at h<;>try(cases h;done)
   rename_i e0;split at h<;>try(cases h;done)
   rename_i hw;split at h<;>try(cases h;done)
   rename_i d e1 he;rw[Lm]at h
   replace he:=rE he
   obtain⟨h1,h2⟩:=Mj h;rw[<-h1 _ rfl,<-h2 _ rfl]at he;obtain⟨env',k1,k2⟩:=Rs hX hcl hcp hwa hclo h (hm.put _ _);exact⟨env',k1,.cons (ne:=none) ho (.inr (.inl ⟨hb,by rw[hb];exact hwa,rfl,tz hX hw he⟩)) k2⟩
  ·rename_i hb
   have hne:i≠W.iw:=λhi=>by rw[hi,JY]at hb;cases hb
   split at h
   ·rename_i hi
    have hi:=SU.1 hi;split at h<;>try(cases h;done)
    split at h<;>try(cases h;done)
    rename_i d e0 hs;rw[Lr,Lm]at h;have h1:=(Mj h).1 _ rfl;rw[<-h1]at hs;obtain⟨env',k1,k2⟩:=Rs hX hcl hcp hwa hclo h (hm.put _ _);exact⟨env',k1,.cons (ne:=none) ho (.inr (.inr ⟨hne,hi,rfl,VT (F:=F) hX hcl hcp hm hs⟩)) k2⟩
   ·rename_i hi
    have hi:W.ia≠some i:=λh=>by rw[SU.2 h]at hi;cases hi
    split at h<;>try(cases h;done)
    rename_i d ne hs;rw[Lr,Lm]at h;have hacc:=(Mj h).1;obtain⟨env',k1,k2⟩:=Rs hX hcl hcp hwa hclo h (hm.put _ _);refine⟨env',k1,.cons ho (.inl ⟨hne,hi,?_⟩) k2⟩;have hst:=VT (F:=F) hX hcl hcp hm hs;unfold Ik at hst;cases hia:W.ia with
    |none=>
     rw[hia]at hst;cases accE with
     |none=>exact .inr hst
     |some a=>
      have:=hacc a rfl
      subst this;dsimp only at hst;cases hm:Co i clo with
      |true=>rw[hm]at hst;exact .inl ⟨rfl,hclo i (FB.1 hm),hst⟩
      |false=>rw[hm]at hst;exact .inr hst
    |some ia=>rw[hia]at hst;exact .inr hst
def jU (s:ES)(N1:Hp)(k:Nat):Option (Option Nat×Option Af×Hp):=match Hp.get s.H k with
 |some e=>some (none,some e,Hp.del s.H k)
 |none=>match Hp.get N1 k with
  |some e=>some (some (e.g-s.n),none,s.H)
  |none=>none
def lS (n:Nat)(pre clo:List Nat)(e:Af)(iw:Nat):Option Nat->Bool
 |none=>true
 |some ia=>Nat.beq e.g (n+ia)&&Co ia clo&&Co ia pre && !(Nat.beq ia iw)
noncomputable def dS (X:EV)(cl:Cm)(cp:Ee)(ops:Array Oper)(pre suf:List Nat)(iw:Nat)(s:ES):Option ES:=match Ou X cl cp ops s.H s.n (lK iw pre) s.env []with
 |some (env1,N1)=>match e0J (MJ env1) (ops.getD iw default).op with
  |some k=>match jU s N1 k with
   |some (ia,accE,R)=>match Co iw pre with
    |true=>O6 R λR=>match Ju X cl cp ops iw ia R (DV (Hg ops (pre++suf) []) iw) s.n pre s.env [] accE none with
     |some (env,N,e,e')=>match (Nat.beq e'.g e.g||Nat.beq e'.g (s.n+iw))&&lS s.n pre (DV (Hg ops (pre++suf) []) iw) e iw ia with
      |true=>Dv (s.n+ops.size) λn=>O6 (N++e'::R) λH=>Qf X cl ops (suf.map λj=>ops.getD j default) ⟨env,H,n⟩
      |false=>none
     |none=>none
    |false=>none
   |none=>none
  |none=>none
 |none=>none
noncomputable def Wz (X:EV)(cl:Cm)(cp:Ee)(ops:Array Oper)(s:ES):Option ES:=match e0f ops with
 |(pre,suf)=>match GD ops pre suf with
  |true=>match (match jc ops pre with
    |some iw=>dS X cl cp ops pre suf iw s
    |none=>none)with
   |some s'=>some s'
   |none=>match Ou X cl cp ops s.H s.n pre s.env []with
    |some (env,N)=>Dv (s.n+ops.size) λn=>O6 (N++s.H) λH=>Qf X cl ops (suf.map λj=>ops.getD j default) ⟨env,H,n⟩
    |none=>none
  |false=>none
abbrev NL:=List Nat
noncomputable def PB (d:D):Nat->NL->NL:=D.rec (motive_1:=λ_=>Nat->NL->NL) (motive_2:=λ_=>Nat->NL->NL) (λ_ a=>a) (λ_ _ a=>a) (λ_ ih=>ih) (λ_ ih=>ih) (λ_ _ _ _ _ a=>a) (λ_ _ _ a=>a) (λk _ _ _ _ n a=>Bool.rec (motive:=λ_=>NL) a (k::a) (Nat.ble n k)) (λk _ _ _ _ n a=>Bool.rec (motive:=λ_=>NL) a (k::a) (Nat.ble n k)) (λ_ _ _ i j n a=>i n (j n a)) (λ_ _ ih=>ih) (λ_ _ _ _ _ a=>a) (λ_ _ ih=>ih) (λ_ a=>a) (λ_ _ i j n a=>i n (j n a)) d
noncomputable def l7 (l:List D)(n:Nat)(a:NL):NL:=List.rec (motive:=λ_=>NL) a (λd _ ih=>PB d n ih) l
noncomputable def l8 (l:List D)(n:Nat)(a:NL):NL:=List.rec (motive:=λ_=>NL) a (λd r _=>List.rec (motive:=λ_=>NL) a (λ_ _ _=>PB d n (l7 r n a)) (PB d 0 [])) l
noncomputable def d7c (n:Nat)(e:ET)(a:NL):NL:=List.rec (motive:=λ_=>NL) a (λr _ ih=>List.rec (motive:=λ_=>NL) ih (λq _ ih=>l7 q n ih) r) e
noncomputable def d7d (n:Nat)(H:Hp)(a:NL):NL:=List.rec (motive:=λ_=>NL) a (λe _ ih=>Bool.rec (motive:=λ_=>NL) ih (l8 e.es n ih) (Nat.blt e.g n)) H
noncomputable def XB (n:Nat)(ks:NL)(H:Hp)(a:NL):NL:=List.rec (motive:=λ_=>NL) a (λe _ ih=>Bool.rec (motive:=λ_=>NL) ih (l8 e.es n ih) (Nat.ble n e.g&&X6 e.k ks)) H
def Oy (p:Af->Bool):Hp->Hp
 | []=>[]
 |e::r=>match p e with
  |true=>e::Oy p r
  |false=>Oy p r
theorem Pg (p:Af->Bool):∀H:Hp,(Oy p H).Sublist H
 | []=>.slnil
 |e::r=>by
  simp only[Oy];split
  ·exact(Pg p r).cons_cons e
  ·exact(Pg p r).cons e
def Nf {α:Type}:List Nat->(List Nat->α)->α
 | [],k=>k []
 |n::l,k=>Dv n λn=>Nf l λl=>k (n::l)
theorem QB {α:Type}:∀(l:List Nat) (k:List Nat->α),Nf l k=k l
 | [],_=>rfl
 |n::l,k=>by simp only[Nf,QM,QB l]
noncomputable def TX (n:Nat)(H:Hp):Bool:=List.rec (motive:=λ_=>Nat->Bool) (λ_=>true) (λ_ _ ih n=>Nat.rec (motive:=λ_=>Bool) false (λm _=>ih m) n) H n
noncomputable def e1K (l:List D):Bool:=List.rec (motive:=λ_=>Bool) false (λ_ r _=>List.rec (motive:=λ_=>Bool) true (λ_ _ _=>false) r) l
noncomputable def NR {α:Type}(fl:Bool)(n:Nat)(ks:List Nat)(H:Hp)(k:Hp->α)(k0:Hp->α):α:=match fl with
 |false=>k0 H
 |true=>O6 (Oy (λe=>Nat.blt e.g n || !e1K e.es||X6 e.k ks) H) k
theorem ru {α:Type}(fl:Bool)(n:Nat)(ks:List Nat)(H:Hp)(k:Hp->α):∃H':Hp,H'.Sublist H/\NR fl n ks H k k=k H':=by
 cases fl
 ·exact⟨H,LE _,rfl⟩
 ·exact⟨_,Pg _ _,by dsimp only[NR];rw[M5]⟩
theorem qr {α:Type}(fl:Bool)(n:Nat)(ks:List Nat)(H:Hp)(k:Hp->α)(k0:Hp->α)(h0:∃H':Hp,H'.Sublist H/\k0 H=k H'):∃H':Hp,H'.Sublist H/\NR fl n ks H k k0=k H':=by
 cases fl
 ·exact h0
 ·exact⟨_,Pg _ _,by dsimp only[NR];rw[M5]⟩
noncomputable def UQ {α:Type}(n:Nat)(a:NL)(H:Hp)(k:Hp->α):α:=Nf (d7d n H a) λa=>Nf (XB n a H a) λa=>Nf (XB n a H a) λa=>Nf (XB n a H a) λks=>O6 (Oy (λe=>Nat.blt e.g n||X6 e.k ks) H) k
theorem jH {α:Type}(n:Nat)(a:NL)(H:Hp)(k:Hp->α):∃H':Hp,H'.Sublist H/\UQ n a H k=k H':=
 ⟨_,Pg _ _,by unfold UQ;rw[QB,QB,QB,QB,M5]⟩
noncomputable def Yb {α:Type}(n:Nat)(env:ET)(H:Hp)(k:Hp->α):α:=match TX 48 H with
 |true=>k H
 |false=>UQ n (d7c n env []) H k
theorem zL {α:Type}(n:Nat)(env:ET)(H:Hp)(k:Hp->α):∃H':Hp,H'.Sublist H/\Yb n env H k=k H':=by
 unfold Yb;cases TX 48 H
 ·exact jH _ _ _ _
 ·exact⟨H,LE _,rfl⟩
noncomputable def UR {α:Type}(n:Nat)(d:D)(H:Hp)(k:Hp->α):α:=match TX 12 H with
 |true=>k H
 |false=>UQ n (PB d n []) H k
theorem zM {α:Type}(n:Nat)(d:D)(H:Hp)(k:Hp->α):∃H':Hp,H'.Sublist H/\UR n d H k=k H':=by
 unfold UR;cases TX 12 H
 ·exact jH _ _ _ _
 ·exact⟨H,LE _,rfl⟩
noncomputable def Lx (fl:Bool)(f:ES->Option (Exit×ES))(n0:Nat):Nat->ES->Option (Exit×ES)
 | 0,_=>none
 |k+1,⟨e,H0,n⟩=>Yb n0 e H0 λH=>match f ⟨e,H,n⟩with
  |some (.normal,⟨e2,H2,n2⟩)=>NR fl n [] H2 (λH3=>Lx fl f n0 k ⟨e2,H3,n2⟩) (λH3=>Lx fl f n0 k ⟨e2,H3,n2⟩)
  |r=>r
noncomputable def Dx (X:EV)(cl:Cm)(cp:Ee)(fl:Bool)(lf:Nat):Code->ES->Option (Exit×ES)
 | .skip,s=>some (.normal,s)
 | .region _ ops draw,s=>match draw with
  |true=>match Wz X cl cp ops s with
   |some s'=>some (.normal,s')
   |none=>none
  |false=>match Qf X cl ops ops.toList s with
   |some s'=>some (.normal,s')
   |none=>none
 | .seq a b,s=>match Dx X cl cp fl lf a s with
  |some (.normal,s')=>Dx X cl cp fl lf b s'
  |r=>r
 | .cond c a b,s=>match MJ s.env c with
  | .prim (.bool true)=>Dx X cl cp fl lf a s
  | .prim (.bool false)=>Dx X cl cp fl lf b s
  |_=>none
 | .block i b,s=>match Dx X cl cp fl lf b s with
  |some (.exit j,s')=>match Nat.beq j i with
   |true=>some (.normal,s')
   |false=>some (.exit j,s')
  |r=>r
 | .loop b,s=>Lx fl (Dx X cl cp fl lf b) (lf/1048576) (lf%1048576) s
 | .label _,s=>some (.normal,s)
 | .scope b,s=>match Dx X cl cp fl lf b s with
  |some (.goto _,_)=>none
  |r=>r
 | .exit i,s=>some (.exit i,s)
 | .ret,s=>some (.ret,s)
 |_,_=>none
def At (s:ES)(st:St):Prop:=Mt s.env st.env/\st.H=s.H/\st.n=s.n
def isS (e:Exit)(s:ES):Exit->St->Prop:=λe1 s1=>e1=e/\At s s1
theorem Ok.subH {c:Code}{env:As}{H H':Hp}{n:Nat}{Q:Exit->St->Prop}(hs:H'.Sublist H)(h:Ok C F c ⟨env,H',n⟩ Q):Ok C F c ⟨env,H,n⟩ Q:=
 λhd ρ a w hS=>by
  obtain⟨m,hO⟩:=hS.mem.sub hs;exact h hd ρ a w ⟨m,hS.fresh,λe he=>hS.gen e (hs.subset he),λt=>(hS.env t).anti hO,hS.nt,hS.dfr⟩
theorem pG (hX:FC C X)(hcl:Jp C cl)(hcp:La C cp){i:Nat}{s s':ES}(h:Wz X cl cp ops s=some s'){st:St}(ha:At s st):Ok C F (.region i ops true) st (isS .normal s'):=by
 obtain⟨env0,H0,n0⟩:=st;obtain⟨hm0,rfl,rfl⟩:=ha;unfold Wz at h;split at h;rename_i pre suf ho;split at h<;>try(cases h;done)
 rename_i hc;split at h
 ·rename_i s1 hh
  cases h
  revert hh
  intro h;split at h<;>try(cases h;done)
  rename_i iw _;unfold dS at h;split at h<;>try(cases h;done)
  split at h<;>try(cases h;done)
  split at h<;>try(cases h;done)
  rename_i k _ ia accE R hwb;split at h<;>try(cases h;done)
  rename_i hm;rw[M5]at h;split at h<;>try(cases h;done)
  rename_i env N e e' hp;split at h<;>try(cases h;done)
  rename_i hg;rw[QM,M5]at h;simp only[BM,Ma]at hg;obtain⟨hg1,hg2⟩:=hg;have hreach:∀j∈DV (Hg ops (pre++suf) []) iw,DU ops iw j:=λj hj=>N8 (N5 _ _ (by simp)) _ _ hj
  have hia:∀j,ia=some j->e.g=s.n+j/\DU ops iw j/\j∈pre/\j≠iw:=λj hj=>by
   subst hj;simp only[lS,BM,BZ]at hg2;exact⟨Bi hg2.1.1.1,hreach j (FB.1 hg2.1.1.2),FB.1 hg2.1.2,λh=>by rw[h,JY]at hg2;cases hg2.2⟩
  have hacc:=(Mj hp).1;have hst:s.H.Perm (WR.start ⟨iw,ia,e,e',R⟩):=by
   unfold jU at hwb;split at hwb
   ·rename_i e0 he
    cases hwb;obtain⟨H1,H2,q1,_,q3⟩:=LA e0 he;rw[q3,hacc e0 rfl];unfold WR.start;rw[q1];exact Hq
   ·split at hwb<;>try(cases hwb;done)
    cases hwb;exact List.Perm.refl _
  obtain⟨env',k1,k2⟩:=Rs (W:=⟨iw,ia,e,e',R⟩) (F:=F) hX hcl hcp (λh=>(hia iw h).2.2.2 rfl) hreach hp hm0;exact e2T (W:=⟨iw,ia,e,e',R⟩) (s:=⟨env0,s.H,s.n⟩) hX.mixed hc hst (λj hj=>⟨(hia j hj).1,(hia j hj).2.1,(hia j hj).2.2.1⟩) (FB.1 hm) (hg1.imp Bi Bi)
   k2 (SS (s:=⟨env',_,_⟩) hX hcl h k1 λ_ h=>⟨rfl,h,rfl,rfl⟩)
 ·split at h<;>try(cases h;done)
  rename_i env N hp;rw[QM,M5]at h;obtain⟨env',k1,k2⟩:=ab (F:=F) hX hcl hcp hp hm0;exact e2R (s:=⟨env0,s.H,s.n⟩) hX.mixed hc k2 (SS (s:=⟨env',_,_⟩) hX hcl h k1 λ_ h=>⟨rfl,h,rfl,rfl⟩)
theorem I5 (hX:FC C X)(hcl:Jp C cl)(hcp:La C cp){fl:Bool}{lf:Nat}:∀ {c:Code} {s s':ES} {e:Exit},Dx X cl cp fl lf c s=some (e,s')->∀ {st:St},At s st->Ok C F c st (isS e s')
 | .skip,s,s',e,h,st,ha=>by simp only[Dx,BO,Br]at h;obtain⟨rfl,rfl⟩:=h;exact Ok.skip ⟨rfl,ha⟩
 | .region i ops draw,s,s',e,h,st,ha=>by
  simp only[Dx]at h;split at h
  ·split at h<;>try(cases h;done)
   rename_i hd;cases h;exact pG hX hcl hcp hd ha
  ·split at h<;>try(cases h;done)
   rename_i hd;cases h;obtain⟨env0,H0,n0⟩:=st;obtain⟨hm0,rfl,rfl⟩:=ha;exact Ok.region (SS (s:=⟨env0,s.H,s.n⟩) hX hcl hd hm0 λ_ h=>⟨rfl,h,rfl,rfl⟩)
 | .seq a b,s,s',e,h,st,ha=>by
  simp only[Dx]at h;refine Ok.seq ?_;split at h
  ·rename_i s1 h1
   refine(I5 hX hcl hcp h1 ha).mono ?_;rintro _ s2 ⟨rfl,ha2⟩;exact I5 hX hcl hcp h ha2
  ·rename_i hne
   refine(I5 hX hcl hcp h ha).mono ?_;rintro e1 s1 ⟨h1,h2⟩;rw[h1];cases e with
   |normal=>exact Ah h (hne _)
   |_=>exact⟨rfl,h2⟩
 | .cond c a b,s,s',e,h,st,ha=>by
  simp only[Dx,Sp ha.1]at h;have hr:∀x,BE st.env c=.prim (.bool x)->∀ρ a w,B9 C F ρ st a w->a.eval c=.bool x:=λx hx ρ a w hs=>by
   have:=Dc hs.env c
   rw[hx]at this;generalize a.eval c=v at this;cases this;rfl
  split at h
  ·rename_i hx
   exact Ok.cond true (hr _ hx) (λ_=>I5 hX hcl hcp h ha) (λh=>by cases h)
  ·rename_i hx
   exact Ok.cond false (hr _ hx) (λh=>by cases h) (λ_=>I5 hX hcl hcp h ha)
  ·cases h
 | .block i b,s,s',e,h,st,ha=>by
  simp only[Dx]at h;refine Ok.block ?_;split at h
  ·rename_i j s1 h1
   refine(I5 hX hcl hcp h1 ha).mono ?_;rintro _ s2 ⟨rfl,ha2⟩;dsimp only;split at h
   ·rename_i hb
    cases h;rw[AH (Bi hb)];exact⟨rfl,ha2⟩
   ·rename_i hb
    cases h;rw[AG (λhj=>by rw[hj,JY]at hb;cases hb)];exact⟨rfl,ha2⟩
  ·rename_i hne
   refine(I5 hX hcl hcp h ha).mono ?_;rintro e1 s1 ⟨h1,h2⟩;rw[h1];cases e with
   |exit j=>exact Ah h (hne _ _)
   |_=>exact⟨rfl,h2⟩
 | .loop b,s,s',e,h,st,ha=>by
  simp only[Dx]at h;refine Ok.loop (λm st=>∃e2 H n,(Mt e2 st.env/\H.Sublist st.H/\st.n=n)/\Lx fl (Dx X cl cp fl lf b) (lf/1048576) m ⟨e2,H,n⟩=some (e,s')) ⟨s.env,s.H,s.n,⟨ha.1,by rw[ha.2.1];exact LE _,ha.2.2⟩,h⟩ λm st1 hI=>?_
  obtain⟨te,tH,tn,⟨hm1,hs1,hn1⟩,hI⟩:=hI;obtain⟨env1,H1,n1⟩:=st1;dsimp only at hm1 hs1 hn1;subst hn1;cases m with
  |zero=>cases hI
  |succ m=>
   simp only[Lx]at hI;obtain⟨H2,hsub,hgc⟩:=zL (α:=Option (Exit×ES)) (lf/1048576) te tH (λH=>match Dx X cl cp fl lf b ⟨te,H,n1⟩with
    |some (.normal,⟨e2,H2,n2⟩)=>NR fl n1 [] H2 (λH3=>Lx fl (Dx X cl cp fl lf b) (lf/1048576) m ⟨e2,H3,n2⟩) (λH3=>Lx fl (Dx X cl cp fl lf b) (lf/1048576) m ⟨e2,H3,n2⟩)
    |r=>r)
   rw[hgc]at hI;refine Ok.subH (hsub.trans hs1) ?_;have ha3:At ⟨te,H2,n1⟩ ⟨env1,H2,n1⟩:=⟨hm1,rfl,rfl⟩
   split at hI
   ·rename_i e2 H3 n2 h2
    obtain⟨H4,hs4,hd4⟩:=ru (α:=Option (Exit×ES)) fl n1 [] H3 (λH3=>Lx fl (Dx X cl cp fl lf b) (lf/1048576) m ⟨e2,H3,n2⟩);rw[hd4]at hI;refine(I5 hX hcl hcp h2 ha3).mono ?_;rintro _ s3 ⟨rfl,hm4,hH4,hn4⟩;exact⟨m,IU m,e2,H4,n2,⟨hm4,by rw[hH4];exact hs4,hn4⟩,hI⟩
   ·rename_i hne
    refine(I5 hX hcl hcp hI ha3).mono ?_;rintro e1 s3 ⟨h1,h2⟩;rw[h1];cases e with
    |normal=>exact Ah hI (hne _ _ _)
    |_=>exact⟨rfl,h2⟩
 | .exit i,s,s',e,h,st,ha=>by simp only[Dx,BO,Br]at h;obtain⟨rfl,rfl⟩:=h;exact Ok.exit ⟨rfl,ha⟩
 | .ret,s,s',e,h,st,ha=>by simp only[Dx,BO,Br]at h;obtain⟨rfl,rfl⟩:=h;exact Ok.ret ⟨rfl,ha⟩
 | .rangeFunc ..,_,_,_,h,_,_=>by simp[Dx]at h
 | .scope b,s,s',e,h,st,ha=>by
  simp only[Dx]at h;split at h<;>try(cases h;done)
  rename_i hne;refine Ok.scope (λl s1 hq=>?_) (I5 hX hcl hcp h ha);obtain⟨h1,h2⟩:=hq;exact hne l s' (by rw[h,<-h1])
 | .label _,s,s',e,h,st,ha=>by simp only[Dx,BO,Br]at h;obtain⟨rfl,rfl⟩:=h;exact Ok.label ⟨rfl,ha⟩
 | .goto _,_,_,_,h,_,_=>by simp[Dx]at h
 | .refuse _,_,_,_,h,_,_=>by simp[Dx]at h
def okR (tt:Nat->Option Ai)(s:St):List ResultVar->Bool
 | []=>true
 | .tmp _::r=>okR tt s r
 | .cell a t::r=>I1 tt s.H (λ_=>s.env.get a) (.load t (.tmp 0))&&okR tt s r
theorem TS {tt:Nat->Option Ai}{s:St}:∀ {rs:List ResultVar} {l:List D} {p:Prop},Ih tt s rs=some (l,p)->okR tt s rs=true->p
 | [],_,_,h,_=>by simp only[Ih,BO,Br]at h;obtain⟨_,rfl⟩:=h;trivial
 |r::rs,l,p,h,hk=>by
  simp only[Ih]at h;split at h<;>try(cases h;done)
  rename_i d q h1;split at h<;>try(cases h;done)
  rename_i l' q' h2;cases h;cases r with
  |tmp t=>
   simp only[Kn,BO,Br]at h1;obtain⟨_,rfl⟩:=h1;exact⟨trivial,TS h2 hk⟩
  |cell a t=>
   simp only[okR,BM]at hk;simp only[Kn]at h1;split at h1<;>try(cases h1;done)
   rename_i he;cases h1;exact⟨XF he hk.1,TS h2 hk.2⟩
def Qg (tt:Nat->Option Ai)(s:St)(rs:List ResultVar):Option (D×Hp×Nat):=match Hl tt s rs with
 |some (d,_)=>IN (okR tt s rs) (d,s.H,s.n)
 |none=>none
theorem rA {tt:Nat->Option Ai}{s:St}{rs:List ResultVar}{d:D}{H:Hp}{n:Nat}(h:Qg tt s rs=some (d,H,n)):∃p,Hl tt s rs=some (d,p)/\p/\H=s.H/\n=s.n:=by
 unfold Qg at h;split at h<;>try(cases h;done)
 rename_i d' p hr;obtain⟨hb,he⟩:=Mm h;cases he;refine⟨p,hr,?_,rfl,rfl⟩;unfold Hl at hr;split at hr<;>try(cases hr;done)
 ·rename_i ha;cases hr;exact TS ha hb
 ·rename_i ha;cases hr;exact TS ha hb
def Nz (r:ResultVar):Nat:=match r with
 | .tmp t=>t
 | .cell a _=>a
def Ny (e:ET):List ResultVar->As
 | []=>[]
 |r::rs=>(Nz r,e.get (Nz r))::Ny e rs
theorem eX {e:ET}:∀ {rs:List ResultVar} {r:ResultVar},r∈rs->(Ny e rs).get (Nz r)=e.get (Nz r)
 |q::rs,r,h=>by
  simp only[Ny,JQ];split
  ·rename_i hq;rw[hq]
  ·rename_i hq
   rcases Aw.1 h with rfl|h
   ·exact Ah rfl hq
   ·exact eX h
theorem Y1 {tt:Nat->Option Ai}{s s':St}(hH:s.H=s'.H):∀ {rs:List ResultVar},(∀r∈rs,s.env.get (Nz r)=s'.env.get (Nz r))->Ih tt s rs=Ih tt s' rs
 | [],_=>rfl
 |r::rs,h=>by
  have h1:Kn tt s r=Kn tt s' r:=by
   have:=h r (by simp)
   cases r<;>(simp only[Nz]at this;simp only[Kn,this,hH])
  simp only[Ih,h1,Y1 hH (rs:=rs) λr hr=>h r (by simp[hr])]
theorem uy {tt:Nat->Option Ai}{s:ES}{st:St}(ha:At s st)(rs:List ResultVar):Hl tt ⟨Ny s.env rs,s.H,s.n⟩ rs=Hl tt st rs:=by
 unfold Hl;rw[Y1 (s':=st) (by exact ha.2.1.symm) λr hr=>by rw[<-ha.1];exact eX hr]
noncomputable def Tc (X:EV)(cl:Cm)(cp:Ee)(lf f:Nat)(ds:List D)(H:Hp)(n:Nat):Option (D×Hp×Nat):=match X.ft f with
 |some i=>match Nat.ble ds.length i.nt with
  |true=>match Dx X cl cp (X.np (2000000+f)) (lf+n*1048576) i.code ⟨Tp 0 ds,H,n⟩with
   |some (.normal,s)=>Qg X.tt ⟨Ny s.env i.res,s.H,s.n⟩ i.res
   |some (.ret,s)=>Qg X.tt ⟨Ny s.env i.res,s.H,s.n⟩ i.res
   |_=>none
  |false=>none
 |none=>none
noncomputable def TT (X:EV)(cl:Cm)(cp:Ee)(lf f:Nat)(ds:List D):Option D:=match X.orc f ds with
 |some d=>some d
 |none=>match X.np f with
  |true=>none
  |false=>match GV (Gl 20) ds with
   |true=>match Tc X cl cp lf f ds [] 0 with
    |some (d,H,_)=>PN 20 H d
    |none=>none
   |false=>none
noncomputable def Gu (X:EV)(lf:Nat):Nat->Ee×Cm
 | 0=>(λ_ _=>none,λ_ _ _ _=>none)
 |fu+1=>(TT X (Gu X lf fu).2 (Gu X lf fu).1 lf,λf ds H n=>match TT X (Gu X lf fu).2 (Gu X lf fu).1 lf f ds with
  |some d=>some (d,H,n+1)
  |none=>match Tc X (Gu X lf fu).2 (Gu X lf fu).1 lf f ds H n with
   |some (d,H',n')=>NR (X.np (2000000+f)) n (PB d n []) H' (λH2=>some (d,H2,n')) (λH1=>UR n d H1 λH2=>some (d,H2,n'))
   |none=>none)
theorem bz (hX:FC C X)(hcl:Jp C cl)(hcp:La C cp){lf f:Nat}{ds:List D}{H H':Hp}{n n':Nat}{d:D}(h:Tc X cl cp lf f ds H n=some (d,H',n')):
  ∃fn c p,C.P.funcs[f]?=some fn/\fn.body=some c/\(fn.name == "runtime.NumGoroutine")=false/\Df fn.ntmps c=true/\Nat.ble ds.length fn.ntmps=true/\p /\
   ∀F:AZ,Ok C F c ⟨Dd 0 ds,H,n⟩ (λe s=>(e=.normal\/e=.ret)/\Hl X.tt s fn.results.toList=some (d,p)/\s.H=H'/\s.n=n'):=by
 unfold Tc at h;split at h<;>try(cases h;done)
 rename_i i hi;obtain⟨fn,a1,a2,a3,a4,a5,a6⟩:=hX.ft f i hi;split at h<;>try(cases h;done)
 rename_i hb;obtain⟨e,s,hc,he,h⟩:∃e s,Dx X cl cp (X.np (2000000+f)) (lf+n*1048576) i.code ⟨Tp 0 ds,H,n⟩=some (e,s)/\(e=.normal\/e=.ret)/\Qg X.tt ⟨Ny s.env i.res,s.H,s.n⟩ i.res=some (d,H',n'):=by
  split at h<;>try(cases h;done)
  ·rename_i s hc
   exact⟨_,s,hc,.inl rfl,h⟩
  ·rename_i s hc
   exact⟨_,s,hc,.inr rfl,h⟩
 obtain⟨p,b1,b2,b3,b4⟩:=rA h;refine⟨fn,i.code,p,a1,a2,a3,a4,by rw[a5];exact hb,b2,λF=>(I5 hX hcl hcp hc (st:=⟨Dd 0 ds,H,n⟩) ⟨dF ds 0,rfl,rfl⟩).mono ?_⟩;rintro _ s1 ⟨rfl,ha⟩;exact⟨he,by rw[a6,<-uy ha];exact b1,by rw[ha.2.1];exact b3.symm,by rw[ha.2.2];exact b4.symm⟩
theorem aM (hX:FC C X)(hcl:Jp C cl)(hcp:La C cp){lf f:Nat}{ds:List D}{d:D}(h:TT X cl cp lf f ds=some d):AI C f ds d/\AU ds:=by
 unfold TT at h;split at h
 ·rename_i ho;cases h;exact hX.orc _ _ _ ho
 ·split at h<;>try(cases h;done)
  split at h<;>try(cases h;done)
  rename_i hp;split at h<;>try(cases h;done)
  rename_i d0 H0 n0 hr;obtain⟨fn,c,p,a1,a2,a3,a4,a5,a6,a7⟩:=bz hX hcl hcp hr;obtain⟨z1,z2⟩:=Lt h;refine⟨Ac.intro hX.tt a1 a2 a3 a4 a5 λF=>(a7 F).mono ?_,⟨λx hx=>F5 (G4 hp x hx)⟩⟩;rintro e s ⟨b1,b2,rfl,rfl⟩;exact⟨b1,d0,p,b2,a6,d,z1,z2,rfl⟩
theorem C4.ofPure {f:Nat}{ds:List D}{d:D}{H:Hp}{n:Nat}(h:AI C f ds d)(hp:AU ds):C4 C f ds H n (US d H (n+1)):=by
 refine⟨h.1,λF ρ w vs m hfr hg hvs hr=>(h.2 (AL F.X ρ H) w vs m.g (BP m.gn m.size) (λb hb=>m.own_lt hb) hvs λi x hx=>hp.out x (A8 hx) _ _ _ _ _ (hr i x hx)).mono ?_⟩;rintro e w' ⟨v,d',rfl,hb,rfl,hrep⟩;have x:BW ρ (AL F.X ρ H) w ρ (AL F.X ρ H) w':=⟨hb.size,λ_ _ _ h=>h,λb hb' hO=>⟨hO,hb.block b hb'⟩,λb cs T fz hh=>⟨cs,_,by
  rw[hb.block b (DE.1 hh).1];exact hh,rfl⟩⟩
 exact⟨v,_,_,_,ρ,rfl,⟨rfl,rfl,rfl⟩,m.same x hb.os hb.tape hb.output hb.block,x,λk g hg=>hfr k g (by omega),λe he=>DP (hg e he),hrep.nol⟩
theorem gp (hX:FC C X)(lf:Nat):∀fu,La C (Gu X lf fu).1/\Jp C (Gu X lf fu).2
 | 0=>⟨λ_ _ _ h=>by simp[Gu]at h,λ_ _ _ _ _ _ _ h=>by simp[Gu]at h⟩
 |fu+1=>by
  obtain⟨hcp,hcl⟩:=gp hX lf fu;refine⟨λf ds d h=>aM hX hcl hcp h,λf ds H n d H' n' h=>?_⟩;simp only[Gu]at h;split at h
  ·rename_i d0 hp
   cases h;obtain⟨h1,h2⟩:=aM hX hcl hcp hp;exact .ofPure h1 h2
  ·split at h<;>try(cases h;done)
   rename_i d1 H1 n1 hrun;obtain⟨H2,hsub,hgc⟩:=qr (α:=Option (D×Hp×Nat)) (X.np (2000000+f)) n (PB d1 n []) H1 (λH2=>some (d1,H2,n1)) (λH1=>UR n d1 H1 λH2=>some (d1,H2,n1)) (zM (α:=Option (D×Hp×Nat)) n d1 H1 (λH2=>some (d1,H2,n1)));rw[hgc]at h;cases h;refine C4.subH hsub ?_;obtain⟨fn,c,p,a1,a2,a3,a4,a5,a6,a7⟩:=bz hX hcl hcp hrun;refine C4.intro hX.tt a1 a2 a3 a4 a5 λF _=>(a7 F).mono ?_
   rintro e s ⟨b1,b2,rfl,rfl⟩;exact⟨b1,d,p,b2,a6,rfl,rfl,rfl⟩
theorem Q8 (hX:FC C X)(lf fu:Nat){f:Nat}{ds:List D}{d:D}(h:(Gu X lf fu).1 f ds=some d):AI C f ds d:=((gp hX lf fu).1 f ds d h).1
end
end
inductive Bt (α:Type) where
 |nil
 |node (k:Nat) (v:α) (l r:Bt α)
def Bt.get {α:Type}:Bt α->Nat->Option α
 | .nil,_=>none
 | .node k v l r,t=>match Nat.beq t k with
  |true=>some v
  |false=>match Nat.ble t k with
   |true=>l.get t
   |false=>r.get t
def Bt.toL {α:Type}:Bt α->List (Nat×α)
 | .nil=>[]
 | .node k v l r=>(k,v)::(l.toL++r.toL)
theorem Bt.get_mem {α:Type}:∀ {b:Bt α} {t:Nat} {v:α},b.get t=some v->(t,v)∈b.toL
 | .nil,_,_,h=>by cases h
 | .node k v l r,t,u,h=>by
  simp only[Bt.get]at h;split at h
  ·rename_i hb;cases h;rw[Bi hb];exact CF ..
  ·split at h
   ·exact B6 _ (IS _ (Bt.get_mem h))
   ·exact B6 _ (List.mem_append_right _ (Bt.get_mem h))
theorem e2E {P:Program}{b:Bt Ai}(h:b.toL.map (λp=>Ec P p.1)=b.toL.map (λp=>some p.2)):CY P b.get:=λt i hi=>by
 have hm:=Bt.get_mem hi;obtain⟨j,hj,he⟩:=No hm
 have:=congrArg (λl=>l[j]?) h
 simp only[BT,B4 hj,he,KI,BO]at this;exact this
theorem e2F {P:Program}{b:Bt XI}(h:b.toL.map (λp=>NQ P p.1)=b.toL.map (λp=>some p.2)):MA P b.get:=λt i hi=>by
 have hm:=Bt.get_mem hi;obtain⟨j,hj,he⟩:=No hm
 have:=congrArg (λl=>l[j]?) h
 simp only[BT,B4 hj,he,KI,BO]at this;exact this
def KS (P:Program) (f:Nat) (i:FI):Prop:=∃fn,P.funcs[f]?=some fn/\fn.body=some i.code/\(fn.name == "runtime.NumGoroutine")=false/\Df fn.ntmps i.code=true/\fn.ntmps=i.nt/\fn.results.toList=i.res
def Qu (P:Program):Bt FI->Prop
 | .nil=>True
 | .node k v l r=>KS P k v/\Qu P l/\Qu P r
theorem YL {P:Program}:∀ {b:Bt FI},Qu P b->∀f i,b.get f=some i->KS P f i
 | .nil,_,_,_,h=>by cases h
 | .node k v l r,h,f,i,hi=>by
  simp only[Bt.get]at hi;split at hi
  ·rename_i hb;cases hi;rw[Bi hb];exact h.1
  ·split at hi
   ·exact YL h.2.1 f i hi
   ·exact YL h.2.2 f i hi
def ME (f:Func):FI:=⟨f.ntmps,f.results.toList,f.body.getD .skip⟩
def Xz (tt:Nat->Option Ai)(g:Operand->D)(op:Op):Option D:=match EF tt g op with
 |some (d,_)=>match Hv tt g op with
  |true=>some d
  |false=>none
 |none=>none
theorem tN {tt:Nat->Option Ai}{g:Operand->D}{op:Op}{d:D}(h:Xz tt g op=some d):∃p,EF tt g op=some (d,p)/\p:=by
 unfold Xz at h;split at h<;>try(cases h;done)
 rename_i hp;split at h<;>try(cases h;done)
 rename_i hk;cases h;exact⟨_,hp,XG hp hk⟩
section
variable {C:BH} {F:AZ} {s:St} {ops:Array Oper} {o:Oper} {os:List Oper} {K:St->Prop}
theorem UB {tt:Nat->Option Ai}(htt:CY C.P tt){m t:Nat}{ks vs:List D}(d:D)(hw:CD ops s.env o=some true)(he:Xz tt (BE s.env) o.op=some d)(hflat:D9 d)(hd:o.dst=some t)(hne:t≠m)
  (h:HT C F ops os m ks vs ⟨Bq s.env (some t) d,s.H,s.n+1⟩ K):HT C F ops (o::os) m ks vs s K:=by
 obtain⟨p,h1,h2⟩:=tN he;exact HT.p htt hw h1 h2 hflat hd hne h
end
def fw (rd:Option Nat):Fence:={ Fence.wide with round:=rd }
theorem LW {rd:Option Nat}{n:Nat}{P:Program}{f:FuncId}{args:Array Value}{w:World}{R:Ending->World->Prop}:CallsIn (fw rd) n P f args w R↔Calls P f args w R:=
 (show CallsIn (fw rd) n P f args w R↔CallsIn Fence.wide n P f args w R from Iff.rfl).trans callsIn_wide
theorem Mq {rd:Option Nat}{n:Nat}:(fw rd).depth.isSome=true->1<=n:=λh=>by cases h
theorem Rx {P:Program}{ρ:Operand->Value}{o:Oper}{w w':World}{x:Next}(h:(execOp ρ o).run P w=.ok x w')(hx:∀d,x≠.defer d):∀c,o.op≠.defer c:=λc hc=>by
 unfold execOp at h;simp only[hc]at h;rw[run_bind]at h;split at h
 ·cases h;exact hx _ rfl
 ·cases h
section
variable {C:BH} {F:AZ} {ops:Array Oper} {rd:Option Nat} {Q:Exit->Act->World->Prop}
theorem Pa {P:Program}{o:Oper}{a:Act}{w w':World}{v:Value}{K:Act->World->Prop}(h:(execOp a.eval o).run P w=.ok (.value v) w')(hk:K (a.put o.dst v) w'):o.wpIn (fw rd) 0 P a w K Q:=by
 refine⟨λ_ _=>trivial,?_⟩;rw[Oper.semAt_eq _ _ _ (Rx h (by simp)),h];exact hk
theorem oo {P:Program}{o:Oper}{a:Act}{w w':World}{K:Act->World->Prop}(h:(execOp a.eval o).run P w=.ok .skip w')(hk:K (a.put o.dst undef) w'):o.wpIn (fw rd) 0 P a w K Q:=by
 refine⟨λ_ _=>trivial,?_⟩;rw[Oper.semAt_eq _ _ _ (Rx h (by simp)),h];exact hk
theorem ol {P:Program}{o:Oper}{a:Act}{w w':World}{f:Nat}{vs:Array Value}{K:Act->World->Prop}(h:(execOp a.eval o).run P w=.ok (.enter f vs) w')
  (hc:Calls P f vs w' λe w''=>∃v,e=.returned v/\K (a.put o.dst v) w''):o.wpIn (fw rd) 0 P a w K Q:=by
 refine⟨λ_ _=>trivial,?_⟩;rw[Oper.semAt_eq _ _ _ (Rx h (by simp)),h];refine⟨Mq,LW.2 (hc.mono ?_)⟩;rintro e w'' ⟨v,rfl,hk⟩;exact hk
theorem om {P:Program}{o:Oper}{a:Act}{w w':World}{l f:Nat}{tmps:Array Value}{as bd:Code}{K:Act->World->Prop}(h:(execOp a.eval o).run P w=.ok (.round l f tmps as bd) w')
  (hc:RoundIn (fw rd) 0 P l f tmps as bd w' λe w''=>∃v,e=.returned v/\K (a.put o.dst v) w''):o.wpIn (fw rd) 0 P a w K Q:=by
 refine⟨λ_ _=>trivial,?_⟩;rw[Oper.semAt_eq _ _ _ (Rx h (by simp)),h];refine⟨Mq,hc.mono ?_⟩;rintro e w'' ⟨v,rfl,hk⟩;exact hk
theorem GP {R:Exit->Act->World->Prop}{l2:List Nat}(hR:∀e a w,R e a w->e=.normal/\wpOpsIn (fw rd) 0 C.P ops Q l2 a w)(hnd:∀(i:Nat) (o:Oper),ops[i]?=some o->∀c,o.op≠.defer c):
  ∀(l:List Nat) (a:Act) (w:World),wpOps C.P ops R l a w->wpOpsIn (fw rd) 0 C.P ops Q (l++l2) a w
 | [],a,w,h=>(hR _ _ _ h).2
 |i::l,a,w,h=>by
  have hlet:¬LetsOut R:=λ⟨a,w,h⟩=>by have:=(hR _ _ _ h).1;cases this
  simp only[wpOps]at h;simp only[Gr,wpOpsIn];cases ho:ops[i]? with
  |none=>simp only[ho]at h;exact GP hR hnd l a w h
  |some o=>
   simp only[ho]at h;dsimp only;split
   ·rename_i hw
    rw[AH hw]at h;rcases h with h|⟨_,h⟩
    ·unfold Oper.wp at h
     refine⟨λ_ _=>trivial,?_⟩;rw[Oper.semAt_eq _ _ _ (hnd i o ho)]
     revert h
     generalize(execOp a.eval o).run C.P w=r;intro h;unfold Oper.upon at h;unfold Oper.uponIn;split at h
     ·exact GP hR hnd l _ _ h
     ·exact GP hR hnd l _ _ h
     ·exact GP hR hnd l _ _ h
     ·refine⟨Mq,LW.2 (h.mono ?_)⟩
      intro e w'' h;cases e with
      |returned v=>exact GP hR hnd l _ _ h
      |panicked c=>have:=(hR _ _ _ h).1;cases this
      |outgrown=>exact Ah h hlet
     ·exact⟨Mq,λc cs hr=>by
       obtain⟨v,w',h1,h2⟩:=h c cs;exact⟨v,w',GP hR hnd l _ _ h1,stepsIn_wide.2 h2⟩⟩
     ·have:=(hR _ _ _ h).1;cases this
     ·exact h.elim
    ·exact Ah h hlet
   ·rename_i hw
    rw[AG hw]at h;exact⟨λ_ _=>trivial,GP hR hnd l _ _ h⟩
theorem Um {Q:Exit->Act->World->Prop}:∀(l:List Nat) (fuel:Nat) (L:Array Bool) (a:Act) (w:World),L.size=ops.size->l.length<=fuel->(∀i,i<ops.size->(Ls L i↔i∉l))->l.Nodup ->
  (∀A i B,l=A++i::B->(∀j∈GS ops i,j<ops.size/\j∉i::B)/\∀j∈A,DU ops i j)->(∀i∈l,i<ops.size)->Cl ops L ->
  wpOpsIn (fw rd) 0 C.P ops Q l a w->wpAnyIn (fw rd) 0 C.P .any ops Q fuel L a w
 | [],fuel,L,a,w,hs,_,hl,_,_,_,_,h=>by
  have hr:Region.ready .any ops L=[]:=by
   apply List.eq_nil_iff_forall_not_mem.2;intro i hi;obtain⟨h1,h2,_⟩:=FP.1 hi
   have:=(hl i h1).2 (by simp)
   unfold Ls at this;rw[Ar,HV]at this h2;simp at this h2;rw[this]at h2;cases h2
  cases fuel with
  |zero=>exact⟨hr,h⟩
  |succ fuel=>exact⟨λ_=>h,λi hi=>by rw[hr]at hi;simp at hi⟩
 |i::l,0,_,_,_,_,hf,_,_,_,_,_,_=>by simp at hf
 |i::l,fuel+1,L,a,w,hs,hf,hl,hnd,hd,hlt,hcl,h=>by
  have hil:=hlt i (by simp);have hLi:∀j,j<ops.size->(L.getD j true=true↔Ls L j):=λj hj=>by
   unfold Ls;rw[Ar,Ar,HV];simp
  have hready:∀j,j∈Region.ready .any ops L↔j=i:=by
   intro j;rw[FP];constructor
   ·rintro⟨h1,h2,h3⟩
    have hj:j∈i::l:=by
     apply DA;intro hn
     have:=(hLi j h1).2 ((hl j h1).2 hn)
     rw[h2]at this;cases this
    apply DA;intro hne;have hjl:j∈l:=by simpa[hne]using hj
    obtain⟨A,B,rfl⟩:=El hjl;have hreach:=(hd (i::A) j B (by simp)).2 i (by simp)
    have:=Fy hs hcl hreach h3
    exact Ah ((hl i hil).1 this) (by simp)
   ·rintro rfl
    refine⟨hil,?_,λk hk=>?_⟩
    ·cases hb:L.getD j true with
     |false=>rfl
     |true=>exact Ah ((hl j hil).1 ((hLi j hil).1 hb)) (by simp)
    ·have hk2:=(hd [] j l rfl).1 k hk
     exact(hl k hk2.1).2 hk2.2
  have hset:∀j,Ls (L.setIfInBounds i true) j↔j=i\/Ls L j:=λj=>Ls.set (by omega)
  refine⟨λh0=>?_,λj hj=>?_⟩
  ·have:=(hready i).2 rfl
   rw[h0]at this;simp at this
  ·obtain rfl:=(hready j).1 hj
   rw[wpOpsIn_cons]at h;obtain⟨n1,n2⟩:=List.nodup_cons.1 hnd;refine wpOpIn_mono (λa w hk=>?_) h;refine Um l fuel _ a w (by simp[hs]) (by simp at hf;omega) (λk hk2=>?_) n2 (λA k B hAB=>?_) (λk hk2=>hlt k (by simp[hk2])) ?_ hk
   ·rw[hset,hl k hk2]
    by_cases hkj:k=j
    ·subst hkj;simp[n1]
    ·simp[hkj]
   ·obtain⟨q1,q2⟩:=hd (j::A) k B (by simp[hAB])
    exact⟨q1,λx hx=>q2 x (by simp[hx])⟩
   ·intro k hk2 hks x hx
    have hk3:Ls (L.setIfInBounds j true) k:=by
     unfold Ls;rw[Ar,CW (by simp;omega)]at hk2⊢;simpa using hk2
    show Ls _ x;rw[hset];rcases(hset k).1 hk3 with rfl|hk3
    ·exact .inr ((FP.1 hj).2.2 x hx)
    ·exact .inr (hcl k ((hLi k hks).2 hk3) hks x hx)
theorem nD {Q:Exit->Act->World->Prop}{H:Hp}{n:Nat}{env:As}{rs:List CH}{suf:List Nat}(ho:NO ops rs suf)(hgen:∀e∈H,e.g<n)(hd:∀r∈rs,DL F.nt r.o=true)
  (hst:∀A r B,rs=A++r::B->ops[r.i]?=some r.o/\CC C F ops H (n+r.i) (Ey A env) r.o r.d r.ne)
  (hend:∀(L:Array Bool) (a:Act) (w:World) (ρ:Lk) (He:Hp),L.size=ops.size->(∀r∈rs,Ls L r.i)->DI C F H n env rs L a w ρ He->wpOpsIn (fw rd) 0 C.P ops Q suf a w):
  ∀(fuel:Nat) (L:Array Bool) (a:Act) (w:World) (ρ:Lk) (He:Hp),L.size=ops.size->((rs.map (·.i)++suf).filter (λi=>!L.getD i false)).length<=fuel->Cl ops L->(∀i∈suf,¬Ls L i) ->
   DI C F H n env rs L a w ρ He->wpAnyIn (fw rd) 0 C.P .any ops Q fuel L a w:=by
 intro fuel
 induction fuel with
 |zero=>
  intro L a w ρ He hL hf hc hs hi;have h0:(rs.map (·.i)++suf).filter (λi=>!L.getD i false)=[]:=FU (by omega);have hall:∀r∈rs,Ls L r.i:=λr hr=>by
   have:=List.filter_eq_nil_iff.1 h0 r.i (by simp;exact .inl ⟨r,hr,rfl⟩)
   simpa[Ls]using this
  have hsuf:suf=[]:=by
   apply List.eq_nil_iff_forall_not_mem.2;intro i hi2
   have:=List.filter_eq_nil_iff.1 h0 i (by simp[hi2])
   exact hs i hi2 (by simpa[Ls]using this)
  subst hsuf;refine Um [] 0 L a w hL (Am _) (λi hi2=>⟨λ_=>by simp,λ_=>?_⟩) .nil (λA i B h=>by cases A<;>simp at h) (by simp) hc (hend L a w ρ He hL hall hi)
  have:=ho.all i hi2
  simp at this;obtain⟨r,hr,rfl⟩:=this;exact hall r hr
 |succ fuel ih=>
  intro L a w ρ He hL hf hc hs hi
  by_cases hall:∀r∈rs,Ls L r.i
  ·refine Um suf (fuel+1) L a w hL ?_ (λi hi2=>?_) ?_ (λA i B hAB=>⟨λj hj=>?_,λj hj=>ho.suf A i B hAB j (by simp[hj])⟩) (λi hi2=>ho.lt i (by simp[hi2])) hc (hend L a w ρ He hL hall hi)
   ·refine BP ?_ hf
    rw[List.filter_append,Bz];rw[(List.filter_eq_self (l:=suf)).2 λi hi2=>by have:=hs i hi2;unfold Ls at this;simpa using this];omega
   ·constructor
    ·intro h1 h2;exact hs i h2 h1
    ·intro h1
     have:=ho.all i hi2
     rcases Bs.1 this with h|h
     ·obtain⟨r,hr,rfl⟩:=CL.1 h;exact hall r hr
     ·exact Ah h h1
   ·exact(EU.1 ho.nodup).2.1
   ·have hA:=ho.first (rs.map (·.i)++A) i B (by simp[hAB]) j hj
    refine⟨ho.lt j (by rw[hAB];rcases Bs.1 hA with h|h<;>simp[h]),λhB=>?_⟩;have hnd:=ho.nodup;rw[hAB,<-DO,EU]at hnd;exact hnd.2.2 j hA j hB rfl
  ·have hnot:∃r∈rs,¬Ls L r.i:=by
    apply DA;intro hn;exact hall λr hr=>DA λh=>hn ⟨r,hr,h⟩
   have hLt:∀j,j<ops.size->(L.getD j true=true↔Ls L j):=λj hj=>by
    unfold Ls;rw[Ar,Ar,HV];simp
   have hsome:Region.ready .any ops L≠[]:=by
    obtain⟨r0,hr0,hn0⟩:=hnot
    have:∀X:List CH,∀Y,rs=X++Y->(∃r∈Y,¬Ls L r.i)->(∀r∈X,Ls L r.i)->∃A r B,rs=A++r::B/\¬Ls L r.i/\∀r∈A,Ls L r.i:=by
     intro X Y
     induction Y generalizing X with
     |nil=>rintro _ ⟨r,hr,_⟩ _;simp at hr
     |cons y Y ihY=>
      intro hXY hex hX
      by_cases hy:Ls L y.i
      ·obtain⟨r,hr,hrn⟩:=hex
       rcases Aw.1 hr with rfl|hr
       ·exact Ah hy hrn
       ·exact ihY (X++[y]) (by simp[hXY]) ⟨r,hr,hrn⟩ (λr hr=>by
         rcases Bs.1 hr with h|h
         ·exact hX r h
         ·simp at h;subst h;exact hy)
      ·exact⟨X,y,Y,hXY,hy,hX⟩
    obtain⟨A,r,B,h1,h2,h3⟩:=this [] rs rfl ⟨r0,hr0,hn0⟩ (by simp);intro hnil;have hrlt:=ho.lt r.i (by rw[h1];simp)
    have:r.i∈Region.ready .any ops L:=by
     rw[FP];refine⟨hrlt,?_,λj hj=>?_⟩
     ·cases hb:L.getD r.i true with
      |false=>rfl
      |true=>exact Ah ((hLt r.i hrlt).1 hb) h2
     ·have:=ho.first (A.map (·.i)) r.i (B.map (·.i)++suf) (by rw[h1];simp) j hj
      obtain⟨r',hr',rfl⟩:=CL.1 this;exact h3 r' hr'
    rw[hnil]at this;simp at this
   refine⟨λh0=>Ah h0 hsome,λi hir=>?_⟩;obtain⟨hilt,hin,hid⟩:=FP.1 hir;have hnL:¬Ls L i:=λh=>by rw[(hLt i hilt).2 h]at hin;cases hin
   have hpre:i∈rs.map (·.i):=by
    rcases Bs.1 (ho.all i hilt)with h|h
    ·exact h
    ·obtain⟨A,B,hAB⟩:=El h
     obtain⟨r0,hr0,hn0⟩:=hnot
     have:=Fy hL hc (ho.suf A i B hAB r0.i (IS _ (CL.2 ⟨r0,hr0,rfl⟩))) hid
     exact Ah this hn0
   obtain⟨r,hr,rfl⟩:=CL.1 hpre;obtain⟨A,B,hAB⟩:=El hr;obtain⟨hor,hgen2,hsteady⟩:=hst A r B hAB;have hset:∀j,Ls (L.setIfInBounds r.i true) j↔j=r.i\/Ls L j:=λj=>Ls.set (by omega)
   have hndr:(rs.map (·.i)).Nodup:=(EU.1 ho.nodup).1;have hsub:∀e∈H,e∈He:=λe he=>hi.perm.mem_iff.2 (by simp[he])
   have hfr:∀k,ρ k (n+r.i)=none:=λk=>by
    apply DA;intro hk;obtain⟨r',h1,h2,h3⟩:=hi.fresh k (n+r.i) (by omega) hk
    have:r'.i=r.i:=by omega
    rw[this]at h2;exact hnL h2
   have hne:∀e∈He,e.g≠n+r.i:=λe he hg=>by
    rcases Bs.1 (hi.perm.mem_iff.1 he)with h|h
    ·obtain⟨r',h1,h2⟩:=List.mem_filterMap.1 h
     split at h2
     ·rename_i hl
      obtain⟨A',B',hAB'⟩:=El h1
      have:=(hst A' r' B' hAB').2.1 e h2
      have:r'.i=r.i:=by omega
      rw[this]at hl;exact hnL hl
     ·cases h2
    ·have:=hgen e h;omega
   have next:∀v ρ' w',JD C F He ρ w (n+r.i) r.d r.ne v ρ' w'->wpAnyIn (fw rd) 0 C.P .any ops Q fuel (L.setIfInBounds r.i true) (a.put r.o.dst v) w':=by
    intro v ρ' w' p;have hi':=hi;rw[hAB]at hi' hndr;have hdst:=ho.dst;rw[hAB]at hdst;have hn':=DI.next hi' (by omega) hnL hndr hdst (hd r hr) p;rw[<-hAB]at hn';refine ih _ _ _ ρ' (Cp r.ne He) (by simp[hL]) ?_ ?_ (λj hj=>?_) hn'
    ·have:((rs.map (·.i)++suf).filter (λi=>!(L.setIfInBounds r.i true).getD i false)).length<((rs.map (·.i)++suf).filter (λi=>!L.getD i false)).length:=by
      have sub:(rs.map (·.i)++suf).filter (λi=>!(L.setIfInBounds r.i true).getD i false)=((rs.map (·.i)++suf).filter (λi=>!L.getD i false)).filter (λi=>!Nat.beq i r.i):=by
       rw[List.filter_filter];apply List.filter_congr;intro x hx;have h1:=hset x;unfold Ls at h1
       by_cases hxr:x=r.i
       ·subst hxr
        have:(L.setIfInBounds r.i true).getD r.i false=true:=h1.2 (.inl rfl)
        simp[this]
       ·have hb:Nat.beq x r.i=false:=by
         cases hb:Nat.beq x r.i with
         |false=>rfl
         |true=>exact Ah (Bi hb) hxr
        rw[hb]
        by_cases hlx:L.getD x false=true
        ·rw[h1.2 (.inr hlx),hlx];rfl
        ·have:¬(L.setIfInBounds r.i true).getD x false=true:=λh=>hlx ((h1.1 h).resolve_left hxr)
         simp only[Bool.not_eq_true]at this hlx;rw[this,hlx];rfl
      rw[sub];apply List.length_filter_lt_length_iff_exists.2;exact⟨r.i,by rw[List.mem_filter];exact⟨by simp;exact .inl ⟨r,hr,rfl⟩,by unfold Ls at hnL;simpa using hnL⟩,by simp⟩
     omega
    ·intro k hk2 hks x hx
     have hk3:Ls (L.setIfInBounds r.i true) k:=by
      unfold Ls;rw[Ar,CW (by simp;omega)]at hk2⊢;simpa using hk2
     show Ls _ x;rw[hset];rcases(hset k).1 hk3 with rfl|hk3
     ·exact .inr (hid x hx)
     ·exact .inr (hc k ((hLt k hks).2 hk3) hks x hx)
    ·rw[hset]
     rintro(rfl|h)
     ·have hnd:=ho.nodup
      rw[EU]at hnd;exact hnd.2.2 r.i (CL.2 ⟨r,hr,rfl⟩) r.i hj rfl
     ·exact hs j hj h
   unfold wpOpIn;simp only[hor];rcases hsteady He ρ a w hi.mem hsub hfr hne (hi.look ho hL hc hAB hir)with⟨hw,hn0,hrep⟩|⟨hw,hout⟩
   ·rw[AG (by rw[hw];simp)]
    exact⟨λ_ _=>trivial,next undef ρ w ⟨by rw[hn0];exact hi.mem,by rw[hn0];exact .refl _ _ _,λ_ _ _=>rfl,by rw[hn0];exact hrep⟩⟩
   ·rw[AH hw]
    rcases hout with⟨v,ρ',w',h1,h2⟩|⟨f,vs,h1,h2⟩
    ·exact Pa h1 (next v ρ' w' h2)
    ·refine ol h1 (h2.mono ?_)
     rintro e w' ⟨v,rfl,ρ',h3⟩;exact⟨v,rfl,next v ρ' w' h3⟩
theorem j6 {R:Exit->Act->World->Prop}{i:Nat}{s:St}{pre suf:List Nat}{envF:As}{N:Hp}(hm:C.P.follows .mixedOrders=true)(hc:GD ops pre suf=true)
  (hpre:Jd C F ops s.H s.n pre s.env [] envF N)
  (h:(∀j∈suf,j<ops.size)->∀(ρ:Lk) (a:Act) (w:World),B9 C F ρ ⟨envF,N++s.H,s.n+ops.size⟩ a w->wpOpsIn (fw rd) 0 C.P ops R suf a w) (hd:ops.toList.all (DL F.nt)=true) (ρ:Lk) (a:Act) (w:World) (hs:B9 C F ρ s a w):
  (Code.region i ops true).wpIn (fw rd) 0 C.P R a w:=by
 obtain⟨rs,h1,h2,h3,h4⟩:=hpre.recs;have hor:∀r∈rs,ops[r.i]?=some r.o:=λr hr=>by
  obtain⟨A,B,hAB⟩:=El hr;exact(h4 A r B hAB).1
 have ho:=R9 h1 hor hc;have hds:∀r∈rs,DL F.nt r.o=true:=λr hr=>by
  refine Cc.1 hd r.o ?_
  have:=hor r hr
  exact KM.2 (KK this)
 have hrep:∀j,(Array.replicate ops.size false).getD j false=false:=λj=>by
  rw[Ar];rw[MW];split<;>rfl
 have hnL:∀j,¬Ls (Array.replicate ops.size false) j:=λj hj=>by unfold Ls at hj;rw[hrep]at hj;cases hj
 refine wpIn_region_any hm ?_;have hin:DI C F s.H s.n s.env rs (Array.replicate ops.size false) a w.drew ρ s.H:=by
  refine⟨hs.mem.drew,?_,λr _ hl=>Ah hl (hnL _),λt _=>(hs.env t).mono (.drew _ _ _),λk g hg hk=>Ah (hs.fresh k g hg) hk,hs.nt,hs.dfr⟩
  have:rs.filterMap (λr=>if(Array.replicate ops.size false).getD r.i false then r.ne else none)=[]:=by
   rw[UI];intro r _;rw[hrep];rfl
  rw[this];exact List.Perm.refl _
 refine nD ho hs.gen hds h4 ?_ ops.size _ a w.drew ρ s.H (by simp) ?_ ?_ (λj _=>hnL j) hin
 ·intro L a' w' ρ' He hL hall hi
  have hN:He.Perm (N++s.H):=by
   refine hi.perm.trans (List.Perm.append_right _ ?_);have e:rs.filterMap (λr=>if L.getD r.i false then r.ne else none)=rs.filterMap (·.ne):=Ke λr hr=>by
    have:=hall r hr;unfold Ls at this;rw[this];rfl
   rw[e,h3]
   have:=Mp rs []
   rw[Dh]at this;exact this.symm
  refine h (λj hj=>ho.lt j (by simp[hj])) ρ' a' w' ⟨hi.mem.perm hN,?_,?_,λt=>?_,hi.nt,hi.dfr⟩
  ·intro k g hg
   apply DA;intro hk;obtain⟨r,hr,_,he⟩:=hi.fresh k g (by simp at hg;omega) hk
   have:=ho.lt r.i (by simp;exact .inl ⟨r,hr,rfl⟩)
   simp at hg;omega
  ·intro e he
   rcases Bs.1 he with he|he
   ·rw[h3]at he
    have he:=(Mp rs []).mem_iff.1 he;rw[Dh]at he;obtain⟨r,hr,hre⟩:=List.mem_filterMap.1 he;obtain⟨A,B,hAB⟩:=El hr
    have:=(h4 A r B hAB).2.1 e hre
    have:=ho.lt r.i (by simp;exact .inl ⟨r,hr,rfl⟩)
    show e.g<s.n+ops.size;omega
   ·have:=hs.gen e he
    show e.g<s.n+ops.size;omega
  ·show AV ρ' (AL F.X ρ' (N++s.H)) w' (envF.get t) _
   rw[<-AL.perm hN,h2]
   by_cases hw:∃r∈rs,r.o.dst=some t
   ·obtain⟨r,hr,hrd⟩:=hw
    rw[M1 rs s.env t ho.dst r hr hrd];exact hi.reps r hr (hall r hr) t hrd
   ·rw[Jj rs s.env t λr hr hrd=>hw ⟨r,hr,hrd⟩]
    exact hi.old t λr hr _ hrd=>hw ⟨r,hr,hrd⟩
 ·refine BP (List.length_filter_le _ _) ?_
  have hsub:∀(l:List Nat) (n:Nat),l.Nodup->(∀x∈l,x<n)->l.length<=n:=by
   intro l n
   induction n generalizing l with
   |zero=>intro _ h;cases l with
    |nil=>simp
    |cons x l=>exact Ah (h x (by simp)) (by omega)
   |succ n ihn=>
    intro hnd hlt;have h1:=ihn (l.erase n) (hnd.erase n) λx hx=>by
     have:=hlt x (List.mem_of_mem_erase hx)
     have:x≠n:=λh=>by subst h;exact(UK hnd) hx
     omega
    have:=List.length_erase (a:=n) (l:=l)
    split at this<;>omega
  exact hsub _ _ ho.nodup ho.lt
 ·intro k hk
  have:k<ops.size\/¬k<ops.size:=by omega
  rcases this with hlt|hlt
  ·rw[Ar,MW,AH hlt]at hk;cases hk
  ·intro h;exact Ah h hlt
theorem Kb {R Q:Exit->Act->World->Prop}(hR:∀e a w,R e a w->e=.normal/\Q .normal a w)(hnd:∀(i:Nat) (o:Oper),ops[i]?=some o->∀c,o.op≠.defer c):
  ∀(fuel:Nat) (L:Array Bool) (a:Act) (w:World),wpAny C.P .any ops R fuel L a w->wpAnyIn (fw rd) 0 C.P .any ops Q fuel L a w
 | 0,L,a,w,h=>⟨h.1,(hR _ _ _ h.2).2⟩
 |fuel+1,L,a,w,h=>⟨λh0=>(hR _ _ _ (h.1 h0)).2,λi hi=>by
   have hlet:¬LetsOut R:=λ⟨a,w,h⟩=>by have:=(hR _ _ _ h).1;cases this
   have hq:=h.2 i hi;unfold wpOp at hq;unfold wpOpIn;split
   ·rename_i ho;simp only[ho]at hq;exact Kb hR hnd fuel _ a w hq
   ·rename_i o ho
    simp only[ho]at hq;split
    ·rename_i hw
     rw[AH hw]at hq;rcases hq with hq|⟨_,hq⟩
     ·unfold Oper.wp at hq
      refine⟨λ_ _=>trivial,?_⟩;rw[Oper.semAt_eq _ _ _ (hnd i o ho)]
      revert hq
      generalize(execOp a.eval o).run C.P w=r;intro hq;unfold Oper.upon at hq;unfold Oper.uponIn;split at hq
      ·exact Kb hR hnd fuel _ _ _ hq
      ·exact Kb hR hnd fuel _ _ _ hq
      ·exact Kb hR hnd fuel _ _ _ hq
      ·refine⟨Mq,LW.2 (hq.mono ?_)⟩
       intro e w'' h;cases e with
       |returned v=>exact Kb hR hnd fuel _ _ _ h
       |panicked c=>have:=(hR _ _ _ h).1;cases this
       |outgrown=>exact Ah h hlet
      ·exact⟨Mq,λc cs hr=>by
        obtain⟨v,w',h1,h2⟩:=hq c cs;exact⟨v,w',Kb hR hnd fuel _ _ _ h1,stepsIn_wide.2 h2⟩⟩
      ·have:=(hR _ _ _ hq).1;cases this
      ·exact hq.elim
     ·exact Ah hq hlet
    ·rename_i hw
     rw[AG hw]at hq;exact⟨λ_ _=>trivial,Kb hR hnd fuel _ _ _ hq⟩⟩
end
def Kw (b:Bool)(y n:Prop):Prop:=match b with
 |true=>y
 |false=>n
theorem Bn {b:Bool}{y n:Prop}(h1:b=true->y)(h2:b=false->n):Kw b y n:=by
 cases b
 ·exact h2 rfl
 ·exact h1 rfl
theorem Fz.loose {d d':D}(h:Fz [] [] d d'):∀ {ρ:Lk} {O:Nat->Prop} {w:World} {v:Value},AV ρ O w d v->AV ρ O w d' v:=by
 induction h with
 |refl=>exact λh=>h
 |any=>exact λ_=>.any _
 |nil sz=>intro ρ O w v h;cases h;exact .nil _
 |nn nn sz es=>
  intro ρ O w v h;cases h with
  |nil=>exact .nil _
  |emp a=>exact .emp a
  |sl f hl hc hO hb hz hcell ho h=>exact .sl f hl hc hO hb hz hcell ho h
 |agg hl h ih=>
  intro ρ O w v hr;cases hr with
  |agg hn ho hh=>
   refine .agg (by omega) ho λi d' hd'=>?_
   have hi:=(BR.1 hd').1;exact ih i _ d' (Ce) hd' (hh i _ (Ce))
 |tup hl h ih=>
  intro ρ O w v hr;cases hr with
  |tup hn hh=>
   refine .tup (by omega) λi d' hd'=>?_
   have hi:=(BR.1 hd').1;exact ih i _ d' (Ce) hd' (hh i _ (Ce))
 |osl he _ _ _ _ _ _ _=>cases he
section
variable {C:BH}
inductive BN (C:BH)(f:Nat)(ds:List D)(k:D->Prop):Prop
 |mk (ds':List D) (d:D) (hv:Fw [] [] ds ds') (hc:AI C f ds' d) (hp:AU ds') (hk:k d)
inductive BI (C:BH)(f:Nat)(ds:List D)(H:Hp)(n:Nat)(k:D->Hp->Nat->Prop):Prop
 |pure (ds':List D) (d:D) (hv:Fw [] [] ds ds') (hc:AI C f ds' d) (hp:AU ds') (hk:k d H (n+1))
 |prop (ds':List D) (Φ:D->Prop) (hv:Fw [] [] ds ds') (hc:Ac C f ds' Φ) (hp:AU ds') (hk:∀d,Φ d->k d H (n+1))
 |own (Φ:D->Hp->Nat->Prop) (hc:C4 C f ds H n Φ) (hk:∀d H' n',Φ d H' n'->k d H' n')
 |lend (Hf:Hp) (ds':List D) (d:D) (hH:C2 H Hf H Hf) (hv:Fw H Hf ds ds') (hc:AI C f ds' d) (hp:AU ds') (hflat:D9 d) (hk:k d H (n+1))
theorem Zs {ds ds':List D}(h:Fw [] [] ds ds'){ρ:Lk}{O:Nat->Prop}{w:World}{vs:Array Value}(hr:∀(i:Nat) (d:D),ds[i]?=some d->AV ρ O w d (vs.getD i undef)):
  ∀(i:Nat) (d:D),ds'[i]?=some d->AV ρ O w d (vs.getD i undef):=λi d hd=>by
 obtain⟨l1,l2⟩:=h.spec;have hi:=(BR.1 hd).1;have h0:ds[i]?=some ds[i]:=Ce;exact(l2 i _ d h0 hd).loose (hr i _ h0)
theorem e3P {F:AZ}{ops:Array Oper}{H:Hp}{g:Nat}{env:As}{o:Oper}{f:Nat}{first captured ds ds':List D}{fop:Operand}{args:Array Operand}{tys:Array Nat}{d:D}(hw:CD ops env o=some true)(ho:o.op=.call ⟨.value fop,args,tys⟩)
  (hf:BE env fop=.clo (.func f) first captured) (hds:first++args.toList.map (BE env)++captured=ds) (hv:Fw [] [] ds ds') (hc:AI C f ds' d) (hp:AU ds'):CC C F ops H g env o d none:=by
 refine⟨by simp,λHe ρ a w m hsub fr hne hr=>.inr ⟨HX hr hw,.inr ?_⟩⟩;obtain⟨g',h1,h2⟩:=H8 hr;have hfop:fop∈o.op.operands:=by rw[ho];simp[Op.operands,Call.operands]
 have harg:∀x∈args.toList,BE env x=g' x:=λx hx=>h1 x (by rw[ho];simp[Op.operands,Call.operands];right;simpa using hx)
 rw[h1 fop hfop]at hf;rw[LO harg]at hds;obtain⟨vs,q1,q2,q3⟩:=PV (g:=g') ho hf hc.1 h2;rw[hds]at q2 q3;have q4:=Zs hv q3;refine⟨f,vs,q1,(hc.2 (AL F.X ρ He) w vs m.g (BP m.gn m.size) (λb hb=>m.own_lt hb) (by rw[q2];exact hv.spec.1) λi d hd=>hp.out d (A8 hd) _ _ _ _ _ (q4 i d hd)).mono ?_⟩;rintro e w' ⟨v,d',rfl,hb,rfl,hrep⟩;have x:BW ρ (AL F.X ρ He) w ρ (AL F.X ρ He) w':=⟨hb.size,λ_ _ _ h=>h,λb hb' hO=>⟨hO,hb.block b hb'⟩,λb cs T fz hh=>⟨cs,_,by
  rw[hb.block b (DE.1 hh).1];exact hh,rfl⟩⟩
 exact⟨v,rfl,ρ,m.same x hb.os hb.tape hb.output hb.block,x,λ_ _ _=>rfl,hrep.nol⟩
def PS (X:EV)(g:Operand->D)(op:Op)(acc:Prop)(k:Prop->D->Option Af->Prop):Prop:=match EF X.tt g op with
 |some (d,p)=>k (p/\acc) d none
 |none=>False
def Me (X:EV)(g:Operand->D)(op:Op)(acc:Prop)(k:Prop->D->Option Af->Prop):Prop:=match Gv X.tt X.xt g op with
 |some (d,p)=>k (p/\acc) d none
 |none=>False
def T7 (X:EV)(g:Operand->D)(op:Op)(acc:Prop)(k:Prop->D->Option Af->Prop):Prop:=match EF X.tt g op with
 |some (d,p)=>k (p/\acc) d none
 |none=>Me X g op acc k
def T6 (X:EV)(g:Operand->D)(t:Nat)(x ix:Operand)(acc:Prop)(k:Prop->D->Option Af->Prop):Prop:=match X.tt t with
 |some i=>match i.ti with
  | .slice _ esz _ _=>match g ix with
   | .prim (.int _ j)=>match g x with
    | .sl _ sz es=>acc/\(sz=esz/\0<=j)/\∃d,es[j.toNat]?=some d/\k True (.pptr d) none
    |_=>False
   |_=>False
  |_=>False
 |none=>False
def Em (C:BH)(X:EV)(kb:Nat)(g:Operand->D)(H:Hp)(n:Nat)(op:Op)(acc:Prop)(k:Prop->D->Option Af->Prop):Prop:=match op with
 | .call ⟨.value fop,args,_⟩=>match g fop with
  | .clo (.func f) first captured=>match X.nat f (first++args.toList.map g++captured)with
   |some d=>k acc d none
   |none=>acc/\BN C f (first++args.toList.map g++captured) λd=>k True d none
  |_=>False
 | .call ⟨.builtin .append,_,_⟩=>match EX X.tt [] n kb g op with
  |some (d,[e],p)=>k (p/\acc) d (some e)
  |_=>False
 | .load _ _ | .alloc _ | .box _ _ | .buildSlice _ _ _=>match EE X.tt H n kb g op with
  |some (d,ne,p)=>k (p/\acc) d ne
  |none=>False
 | .indexAddr t x ix=>match EF X.tt g op with
  |some (d,p)=>k (p/\acc) d none
  |none=>T6 X g t x ix acc k
 | .makeInterface _ _ | .lookup _ _ _ _=>Me X g op acc k
 | .binOp _ _ _ _ _=>T7 X g op acc k
 |_=>PS X g op acc k
structure Di (C:BH)(X:EV):Prop where
 tt:CY C.P X.tt
 xt:MA C.P X.xt
 mixed:C.P.follows .mixedOrders=true
 mt:∀t name f,X.mt t name=some f->∀v w,(method (C.P.types.size+Made.depth) t v name).run C.P w=.ok (f,v) w
 nat:∀f ds d,X.nat f ds=some d->Lb C f ds d
theorem FC.w {X:EV}(h:FC C X):Di C X:=⟨h.tt,h.xt,h.mixed,h.mt,h.nat⟩
variable {F:AZ} {X:EV} {ops:Array Oper}
theorem XU (hX:Di C X){kb:Nat}{H:Hp}{n:Nat}{env:As}{o:Oper}{acc:Prop}{k:Prop->D->Option Af->Prop}(hw:CD ops env o=some true)(hk:∀acc d ne,k acc d ne->acc)
  (h:Em C X kb (BE env) H n o.op acc k):acc/\∃acc' d ne,CC C F ops H n env o d ne/\k acc' d ne:=by
 have pe:PS X (BE env) o.op acc k->acc/\∃acc' d ne,CC C F ops H n env o d ne/\k acc' d ne:=λh=>by
  unfold PS at h;split at h
  ·rename_i d p he
   have:=hk _ _ _ h
   exact⟨this.2,_,_,_,CC.p hX.tt hw he this.1,h⟩
  ·exact h.elim
 have qe:Me X (BE env) o.op acc k->acc/\∃acc' d ne,CC C F ops H n env o d ne/\k acc' d ne:=λh=>by
  unfold Me at h;split at h
  ·rename_i d p he
   have:=hk _ _ _ h
   exact⟨this.2,_,_,_,CC.q hX.tt hX.xt hw he this.1,h⟩
  ·exact h.elim
 have le:(match EE X.tt H n kb (BE env) o.op with
   |some (d,ne,p)=>k (p/\acc) d ne
   |none=>False)->acc/\∃acc' d ne,CC C F ops H n env o d ne/\k acc' d ne:=λh=>by
  split at h
  ·rename_i d ne p he
   have:=hk _ _ _ h
   exact⟨this.2,_,_,_,CC.l' kb hX.tt hw he this.1,h⟩
  ·exact h.elim
 unfold Em at h;split at h
 ·rename_i fop args tys ho
  split at h
  ·rename_i f first captured hf
   split at h
   ·rename_i d hn
    exact⟨hk _ _ _ h,_,_,_,CC.nat hw ho hf rfl (hX.nat _ _ _ hn),h⟩
   ·obtain⟨h1,⟨ds',d,hv,hc,hp,h2⟩⟩:=h
    exact⟨h1,_,_,_,e3P hw ho hf rfl hv hc hp,h2⟩
  ·exact h.elim
 ·split at h
  ·rename_i d e p he
   have:=hk _ _ _ h
   exact⟨this.2,_,_,_,mJ kb hX.tt hw he this.1,h⟩
  ·exact h.elim
 ·exact le h
 ·exact le h
 ·exact le h
 ·exact le h
 ·rename_i t x ix ho
  split at h
  ·rename_i d p he
   have:=hk _ _ _ h
   exact⟨this.2,_,_,_,CC.p hX.tt hw he this.1,h⟩
  ·unfold T6 at h
   split at h<;>first|exact h.elim|skip
   rename_i i h1;split at h<;>first|exact h.elim|skip
   rename_i e esz eby ez h2;split at h<;>first|exact h.elim|skip
   rename_i kk j h3;split at h<;>first|exact h.elim|skip
   rename_i nn sz es h4;obtain⟨ha,⟨rfl,hj⟩,d,hd,hk'⟩:=h;exact⟨ha,_,_,_,CC.idx hX.tt hw ho h1 h2 h3 h4 hj hd,hk'⟩
 ·exact qe h
 ·exact qe h
 ·unfold T7 at h
  split at h
  ·rename_i d p he
   have:=hk _ _ _ h
   exact⟨this.2,_,_,_,CC.p hX.tt hw he this.1,h⟩
  ·exact qe h
 ·exact pe h
def Dz:List Oper->Nat->Option Oper
 | [],_=>none
 |o::_,0=>some o
 |_::l,i+1=>Dz l i
theorem fH:∀(l:List Oper) (i:Nat),Dz l i=l[i]?
 | [],_=>by simp[Dz]
 |o::l,0=>by simp[Dz]
 |o::l,i+1=>by simp[Dz,fH l i]
def Es:List Oper->Nat
 | []=>0
 |_::l=>Es l+1
theorem ON:∀l:List Oper,Es l=l.length
 | []=>rfl
 |_::l=>by simp[Es,ON l]
theorem Mr {i:Nat}{o:Oper}(h:Dz ops.toList i=some o):ops[i]?=some o:=by
 rw[fH]at h;simpa using h
def Ed (C:BH)(X:EV)(kb:Nat)(ops:Array Oper)(H:Hp)(n:Nat):List Nat->As->Hp->Prop->(Prop->As->Hp->Prop)->Prop
 | [],env,N,acc,K=>K acc env N
 |i::l,env,N,acc,K=>match Dz ops.toList i with
  |some o=>match o.guard with
   |none=>Em C X (kb+i) (BE env) H (n+i) o.op acc λacc d ne=>Ed C X kb ops H n l (Bq env o.dst d) (Cp ne N) acc K
   |some _=>match CD ops env o with
    |some b=>acc/\Kw b (Em C X (kb+i) (BE env) H (n+i) o.op True λacc d ne=>Ed C X kb ops H n l (Bq env o.dst d) (Cp ne N) acc K)
      (Ed C X kb ops H n l (Bq env o.dst (.prim (.tuple #[]))) N True K)
    |none=>False
  |none=>False
theorem Pp {kb:Nat}{H:Hp}{n:Nat}(hX:Di C X){K:Prop->As->Hp->Prop}(hK:∀acc env N,K acc env N->acc):∀ {l:List Nat} {env:As} {N:Hp} {acc:Prop},Ed C X kb ops H n l env N acc K ->
  acc/\∃acc' env' N',Jd C F ops H n l env N env' N'/\K acc' env' N'
 | [],env,N,acc,h=>⟨hK _ _ _ h,_,_,_,.nil _ _,h⟩
 |i::l,env,N,acc,h=>by
  simp only[Ed]at h;split at h<;>first|exact h.elim|skip
  rename_i o ho;have ho:=Mr ho;have step:∀acc,CD ops env o=some true->(Em C X (kb+i) (BE env) H (n+i) o.op acc λacc d ne=>Ed C X kb ops H n l (Bq env o.dst d) (Cp ne N) acc K)->acc/\∃acc' env' N',Jd C F ops H n (i::l) env N env' N'/\K acc' env' N':=λacc hw h=>by
   obtain⟨h1,acc1,d,ne,h2,h3⟩:=XU (F:=F) hX hw (λacc d ne h=>(Pp hX hK h).1) h;obtain⟨_,acc2,env2,N2,h4,h5⟩:=Pp hX hK h3;exact⟨h1,_,_,_,.cons ho h2 h4,h5⟩
  split at h
  ·rename_i hg
   exact step _ (by unfold CD;rw[hg]) h
  ·split at h<;>first|exact h.elim|skip
   rename_i b hb;obtain⟨h0,h⟩:=h;cases b with
   |true=>
    obtain⟨_,h1⟩:=step _ hb h;exact⟨h0,h1⟩
   |false=>
    obtain⟨_,acc2,env2,N2,h4,h5⟩:=Pp hX hK h;exact⟨h0,_,_,_,.cons ho (CC.skip hb) h4,h5⟩
theorem BI.ok {F:AZ}{ops:Array Oper}{s:St}{o:Oper}{os:List Oper}{K:St->Prop}{f:Nat}{ds:List D}{k:D->Hp->Nat->Prop}(hw:CD ops s.env o=some true)
  (hrun:LV C.P f->∀(ρ:Lk) (a:Act) (w:World),B9 C F ρ s a w->∃vs,(execOp a.eval o).run C.P w=.ok (.enter f vs) w/\vs.size=ds.length/\∀(i:Nat) (d:D),ds[i]?=some d->AV ρ (AL F.X ρ s.H) w d (vs.getD i undef))
  (h:BI C f ds s.H s.n k) (hk:∀d H n,k d H n->BJ C F ops os ⟨Bq s.env o.dst d,H,n⟩ K):BJ C F ops (o::os) s K:=by
 have prop:∀(ds':List D) (Φ:D->Prop),Fw [] [] ds ds'->Ac C f ds' Φ->AU ds'->(∀d,Φ d->k d s.H (s.n+1))->BJ C F ops (o::os) s K:=λds' Φ hv hc hp hk'=>by
  refine mD (f:=f) hw (λρ a w hs=>?_) λd hd=>hk _ _ _ (hk' d hd)
  obtain⟨vs,h1,h2,h3⟩:=hrun hc.1 ρ a w hs;have q4:=Zs hv h3;refine⟨vs,h1,(hc.2 (AL F.X ρ s.H) w vs hs.mem.g (BP hs.mem.gn hs.mem.size) (λb hb=>hs.mem.own_lt hb) (by rw[h2];exact hv.spec.1) λi d hd=>hp.out d (A8 hd) _ _ _ _ _ (q4 i d hd)).mono ?_⟩;rintro e w' ⟨v,d,a1,a2,a3,a4⟩;exact⟨v,d,a1,a2,a3,a4.nol⟩
 cases h with
 |pure ds' d hv hc hp hk'=>exact prop ds' _ hv hc hp λd' hd=>by subst hd;exact hk'
 |prop ds' Φ hv hc hp hk'=>exact prop ds' Φ hv hc hp hk'
 |own Φ hc hk'=>
  intro hd l hl ρ a w hs;cases l with
  |nil=>simp at hl
  |cons i l=>
   simp only[CX,Ev]at hl;simp only[Ft,BM]at hd;obtain⟨vs,h1,h2,h3⟩:=hrun hc.1 ρ a w hs;simp only[wpOps,hl.1];rw[AH (Jo hs.env hw)];refine .inl ?_;unfold Oper.wp;rw[h1];refine(hc.2 F ρ w vs hs.mem hs.fresh hs.gen h2 h3).mono ?_;rintro e w' ⟨v,d,H',n',ρ',rfl,hΦ,m,x,fr,g,r⟩;exact hk d H' n' (hk' d H' n' hΦ) hd.2 l hl.2 ρ' (a.put o.dst v) w' (hs.put m x fr g r hd.1)
 |lend Hf ds' d hH hv hc hp hflat hk'=>
  refine mD (f:=f) (Φ:=λd'=>d'=d) hw (λρ a w hs=>?_) λd' hd=>by subst hd;exact hk _ _ _ hk'
  obtain⟨vs,h1,h2,h3⟩:=hrun hc.1 ρ a w hs;obtain⟨m,hO,hN⟩:=hH.mem hs.mem;obtain⟨l1,l2⟩:=hv.spec;refine⟨vs,h1,(hc.2 (AL F.X ρ Hf) w vs hs.mem.g (BP hs.mem.gn hs.mem.size) (λb hb=>m.own_lt hb) (by omega) λi d hd=>?_).mono ?_⟩
  ·have hi:i<ds'.length:=(BR.1 hd).1
   have hd0:ds[i]?=some ds[i]:=Ce;exact hp.out d (A8 hd) _ _ _ _ _ ((l2 i _ d hd0 hd).rep hs.mem hO hN (h3 i _ hd0))
  ·rintro e w' ⟨v,d',a1,a2,a3,a4⟩
   subst a3;exact⟨v,d',a1,a2,rfl,hflat _ _ _ _ _ _ _ a4⟩
def GN (C:BH)(X:EV)(kb:Nat)(g:Operand->D)(H:Hp)(n:Nat)(op:Op)(acc:Prop)(k:Prop->D->Hp->Nat->Prop):Prop:=match op with
 | .call ⟨.value fop,args,_⟩=>match g fop with
  | .clo (.func f) first captured=>match X.nat f (first++args.toList.map g++captured)with
   |some d=>k acc d H (n+1)
   |none=>acc/\BI C f (first++args.toList.map g++captured) H n λd H' n'=>k True d H' n'
  |_=>False
 | .call ⟨.invoke r name,args,_⟩=>match g r with
  | .ifc t d0=>match X.mt t name with
   |some f=>acc/\BI C f (d0::args.toList.map g) H n λd H' n'=>k True d H' n'
   |none=>False
  |_=>False
 | .call ⟨.builtin .append,_,_⟩=>match EX X.tt H n kb g op with
  |some (d,H',p)=>k (p/\acc) d H' (n+1)
  |none=>match O5 X.tt H n kb g op with
   |some (d,H',p)=>k (p/\acc) d H' (n+1)
   |none=>False
 | .makeSlice _ _ _=>match LK X.tt n kb g op with
  |some (d,e,p)=>k (p/\acc) d (e::H) (n+1)
  |none=>False
 | .store _ _ _=>match E8 X.tt H g op with
  |some (j,e,p)=>k (p/\acc) (.prim (.tuple #[])) (Hp.set H j e) (n+1)
  |none=>False
 | .load _ _ | .alloc _ | .box _ _ | .buildSlice _ _ _=>match EE X.tt H n kb g op with
  |some (d,ne,p)=>k (p/\acc) d (Cp ne H) (n+1)
  |none=>False
 | .indexAddr t x ix=>match EF X.tt g op with
  |some (d,p)=>k (p/\acc) d H (n+1)
  |none=>T6 X g t x ix acc λacc d _=>k acc d H (n+1)
 | .makeInterface _ _ | .lookup _ _ _ _=>Me X g op acc λacc d _=>k acc d H (n+1)
 | .binOp _ _ _ _ _=>T7 X g op acc λacc d _=>k acc d H (n+1)
 |_=>PS X g op acc λacc d _=>k acc d H (n+1)
theorem jV (hX:Di C X){kb:Nat}{s:St}{o:Oper}{os:List Oper}{acc:Prop}{k:Prop->D->Hp->Nat->Prop}{K:St->Prop}(hw:CD ops s.env o=some true)(hk:∀acc d H n,k acc d H n->acc/\BJ C F ops os ⟨Bq s.env o.dst d,H,n⟩ K)
  (h:GN C X kb (BE s.env) s.H s.n o.op acc k):acc/\BJ C F ops (o::os) s K:=by
 have pe:PS X (BE s.env) o.op acc (λacc d _=>k acc d s.H (s.n+1))->acc/\BJ C F ops (o::os) s K:=λh=>by
  unfold PS at h;split at h
  ·rename_i d p he
   obtain⟨⟨hp,ha⟩,h2⟩:=hk _ _ _ _ h;exact⟨ha,BJ.p hX.tt hw he hp h2⟩
  ·exact h.elim
 have qe:Me X (BE s.env) o.op acc (λacc d _=>k acc d s.H (s.n+1))->acc/\BJ C F ops (o::os) s K:=λh=>by
  unfold Me at h;split at h
  ·rename_i d p he
   obtain⟨⟨hp,ha⟩,h2⟩:=hk _ _ _ _ h;exact⟨ha,BJ.q hX.tt hX.xt hw he hp h2⟩
  ·exact h.elim
 have le:(match EE X.tt s.H s.n kb (BE s.env) o.op with
   |some (d,ne,p)=>k (p/\acc) d (Cp ne s.H) (s.n+1)
   |none=>False)->acc/\BJ C F ops (o::os) s K:=λh=>by
  split at h
  ·rename_i d ne p he
   obtain⟨⟨hp,ha⟩,h2⟩:=hk _ _ _ _ h;exact⟨ha,BJ.l' kb hX.tt hw he hp h2⟩
  ·exact h.elim
 unfold GN at h;split at h
 ·rename_i fop args tys ho
  split at h
  ·rename_i f first captured hf
   split at h
   ·rename_i d hn
    obtain⟨ha,h2⟩:=hk _ _ _ _ h;exact⟨ha,BJ.nat hw ho hf rfl (hX.nat _ _ _ hn) h2⟩
   ·obtain⟨h1,h⟩:=h
    refine⟨h1,?_⟩;exact BI.ok hw (λhc ρ a w hs=>Yt ho hf hc hs) h λd H n hk'=>(hk _ _ _ _ hk').2
  ·exact h.elim
 ·rename_i r name args tys ho
  split at h<;>first|exact h.elim|skip
  rename_i t d0 hr;split at h<;>first|exact h.elim|skip
  rename_i f hf;obtain⟨h1,h⟩:=h;refine⟨h1,?_⟩;exact BI.ok hw (λhc ρ a w hs=>ZI ho hr (hX.mt _ _ _ hf) hc hs) h λd H n hk'=>(hk _ _ _ _ hk').2
 ·split at h
  ·rename_i d H' p he
   obtain⟨⟨hp,ha⟩,h2⟩:=hk _ _ _ _ h;exact⟨ha,mC kb hX.tt hw he hp h2⟩
  ·split at h<;>first|exact h.elim|skip
   rename_i d H' p he;obtain⟨⟨hp,ha⟩,h2⟩:=hk _ _ _ _ h;exact⟨ha,e2W kb hX.tt hw he hp h2⟩
 ·split at h<;>first|exact h.elim|skip
  rename_i d e p he;obtain⟨⟨hp,ha⟩,h2⟩:=hk _ _ _ _ h;exact⟨ha,mK kb hX.tt hw he hp h2⟩
 ·split at h<;>first|exact h.elim|skip
  rename_i j e p he;obtain⟨⟨hp,ha⟩,h2⟩:=hk _ _ _ _ h;exact⟨ha,BJ.store hX.tt hw he hp h2⟩
 ·exact le h
 ·exact le h
 ·exact le h
 ·exact le h
 ·rename_i t x ix ho
  split at h
  ·rename_i d p he
   obtain⟨⟨hp,ha⟩,h2⟩:=hk _ _ _ _ h;exact⟨ha,BJ.p hX.tt hw he hp h2⟩
  ·unfold T6 at h
   split at h<;>first|exact h.elim|skip
   rename_i i h1;split at h<;>first|exact h.elim|skip
   rename_i e esz eby ez h2;split at h<;>first|exact h.elim|skip
   rename_i kk j h3;split at h<;>first|exact h.elim|skip
   rename_i nn sz es h4;obtain⟨ha,⟨rfl,hj⟩,d,hd,hk'⟩:=h;exact⟨ha,BJ.idx hX.tt hw ho h1 h2 h3 h4 hj hd (hk _ _ _ _ hk').2⟩
 ·exact qe h
 ·exact qe h
 ·unfold T7 at h
  split at h
  ·rename_i d p he
   obtain⟨⟨hp,ha⟩,h2⟩:=hk _ _ _ _ h;exact⟨ha,BJ.p hX.tt hw he hp h2⟩
  ·exact qe h
 ·exact pe h
def C7 (C:BH)(X:EV)(kb:Nat)(ops:Array Oper):List Nat->St->Prop->(Prop->St->Prop)->Prop
 | [],s,acc,K=>K acc s
 |i::l,s,acc,K=>match Dz ops.toList i with
  |some o=>match o.guard with
   |none=>GN C X (kb+i) (BE s.env) s.H s.n o.op acc λacc d H n=>C7 C X kb ops l ⟨Bq s.env o.dst d,H,n⟩ acc K
   |some _=>match CD ops s.env o with
    |some b=>acc/\Kw b (GN C X (kb+i) (BE s.env) s.H s.n o.op True λacc d H n=>C7 C X kb ops l ⟨Bq s.env o.dst d,H,n⟩ acc K)
      (C7 C X kb ops l ⟨Bq s.env o.dst (.prim (.tuple #[])),s.H,s.n+1⟩ True K)
    |none=>False
  |none=>False
theorem uL {i:Nat}{o:Oper}(h:Dz ops.toList i=some o):ops.getD i default=o:=by
 have:=Mr h
 simp[Ar,this]
theorem FQ {kb:Nat}(hX:Di C X){K:Prop->St->Prop}{K':St->Prop}(hK:∀acc s,K acc s->acc/\K' s):∀ {l:List Nat} {s:St} {acc:Prop},C7 C X kb ops l s acc K ->
  acc/\BJ C F ops (l.map λj=>ops.getD j default) s K'
 | [],s,acc,h=>⟨(hK _ _ h).1,BJ.nil (hK _ _ h).2⟩
 |i::l,s,acc,h=>by
  simp only[C7]at h;split at h<;>first|exact h.elim|skip
  rename_i o ho;rw[CX,uL ho];split at h
  ·rename_i hg
   exact jV hX (by unfold CD;rw[hg]) (λacc d H n h=>FQ hX hK h) h
  ·split at h<;>first|exact h.elim|skip
   rename_i b hb;obtain⟨h0,h⟩:=h;cases b with
   |true=>exact⟨h0,(jV hX hb (λacc d H n h=>FQ hX hK h) h).2⟩
   |false=>exact⟨h0,BJ.skip hb (FQ hX hK h).2⟩
def MR (X:EV)(kb:Nat)(e:Af)(n:Nat)(g:Operand->D)(op:Op)(acc:Prop)(k:Prop->D->Af->Prop):Prop:=match op with
 | .store _ _ _=>match E8 X.tt [e] g op with
  |some (_,e',p)=>k (p/\acc) (.prim (.tuple #[])) e'
  |none=>False
 |_=>match EX X.tt [e] n kb g op with
  |some (d,[e'],p)=>k (p/\acc) d e'
  |_=>False
def Ep (C:BH)(X:EV)(kb:Nat)(ops:Array Oper)(iw:Nat)(ia:Option Nat)(R:Hp)(clo:List Nat)(n:Nat):List Nat->As->Hp->Option Af->Option Af->Prop->(Prop->As->Hp->Af->Af->Prop)->Prop
 | [],env,N,some e,some e',acc,K=>K acc env N e e'
 | [],_,_,_,_,_,_=>False
 |i::l,env,N,accE,acc',acc,K=>match Dz ops.toList i with
  |some o=>match Nat.beq i iw with
   |true=>match acc' with
    |some _=>False
    |none=>match accE with
     |some e=>match o.guard with
      |none=>MR X (kb+i) e (n+i) (BE env) o.op acc λacc d e'=>Ep C X kb ops iw ia R clo n l (Bq env o.dst d) N accE (some e') acc K
      |some _=>False
     |none=>False
   |false=>match JO ia i with
    |true=>match accE with
     |some _=>False
     |none=>match o.guard with
      |none=>Em C X (kb+i) (BE env) R (n+i) o.op acc λacc d ne=>match ne with
       |some e=>Ep C X kb ops iw ia R clo n l (Bq env o.dst d) N (some e) acc' acc K
       |none=>False
      |some _=>False
    |false=>match o.guard with
     |none=>Em C X (kb+i) (BE env) (Ik ia accE R (Co i clo)) (n+i) o.op acc λacc d ne=>Ep C X kb ops iw ia R clo n l (Bq env o.dst d) (Cp ne N) accE acc' acc K
     |some _=>match CD ops env o with
      |some b=>acc/\Kw b (Em C X (kb+i) (BE env) (Ik ia accE R (Co i clo)) (n+i) o.op True λacc d ne=>Ep C X kb ops iw ia R clo n l (Bq env o.dst d) (Cp ne N) accE acc' acc K)
        (Ep C X kb ops iw ia R clo n l (Bq env o.dst (.prim (.tuple #[]))) N accE acc' True K)
      |none=>False
  |none=>False
theorem ug (hX:Di C X){kb iw:Nat}{ia:Option Nat}{R:Hp}{e:Af}{n:Nat}{env:As}{o:Oper}{acc:Prop}{k:Prop->D->Af->Prop}(hw:CD ops env o=some true)(hk:∀acc d e',k acc d e'->acc)(h:MR X kb e n (BE env) o.op acc k):
  acc/\∃acc' d e',I6 C F ops ⟨iw,ia,e,e',R⟩ n env o d/\k acc' d e':=by
 unfold MR at h;split at h
 ·split at h<;>first|exact h.elim|skip
  rename_i e' p he
  have:=hk _ _ _ h
  exact⟨this.2,_,_,_,I6.store (W:=⟨iw,ia,e,e',R⟩) hX.tt hw he this.1,h⟩
 ·split at h<;>first|exact h.elim|skip
  rename_i d e' p he
  have:=hk _ _ _ h
  exact⟨this.2,_,_,_,I6.app (W:=⟨iw,ia,e,e',R⟩) kb hX.tt hw he this.1,h⟩
theorem KX (hX:Di C X){kb iw:Nat}{ia:Option Nat}{R:Hp}{clo:List Nat}{n:Nat}(hwa:ia≠some iw)(hclo:∀j∈clo,DU ops iw j){K:Prop->As->Hp->Af->Af->Prop}(hK:∀acc env N e e',K acc env N e e'->acc):
  ∀ {l:List Nat} {env:As} {N:Hp} {accE acc':Option Af} {acc:Prop},Ep C X kb ops iw ia R clo n l env N accE acc' acc K ->
  acc/\∃q env' N' e e',(∀a,accE=some a->e=a)/\(∀a,acc'=some a->e'=a)/\JI C F ops ⟨iw,ia,e,e',R⟩ n l env N env' N'/\K q env' N' e e'
 | [],env,N,accE,acc',acc,h=>by
  cases accE with
  |none=>simp only[Ep]at h
  |some e=>cases acc' with
   |none=>simp only[Ep]at h
   |some e'=>
    simp only[Ep]at h;exact⟨hK _ _ _ _ _ h,_,_,_,e,e',λa ha=>by cases ha;rfl,λa ha=>by cases ha;rfl,.nil _ _,h⟩
 |i::l,env,N,accE,acc',acc,h=>by
  simp only[Ep]at h;split at h<;>first|exact h.elim|skip
  rename_i o ho;have ho:=Mr ho;split at h
  ·rename_i hb
   have hb:=Bi hb;split at h<;>first|exact h.elim|skip
   split at h<;>first|exact h.elim|skip
   rename_i e0;split at h<;>first|exact h.elim|skip
   rename_i hg;have hw:CD ops env o=some true:=by unfold CD;rw[hg]
   obtain⟨h1,acc1,d,e1,h2,h3⟩:=ug (F:=F) (iw:=iw) (ia:=ia) (R:=R) hX hw (λacc d e' h=>(KX hX hwa hclo hK h).1) h;obtain⟨_,q,env',N',e,e',h4,h5,h6,h7⟩:=KX hX hwa hclo hK h3
   have:=h4 _ rfl
   subst this
   have:=h5 _ rfl
   subst this;exact⟨h1,q,env',N',_,_,h4,by simp,.cons (ne:=none) ho (.inr (.inl ⟨hb,by rw[hb];exact hwa,rfl,h2⟩)) h6,h7⟩
  ·rename_i hb
   have hne:i≠iw:=λhi=>by rw[hi,JY]at hb;cases hb
   split at h
   ·rename_i hi
    have hi:=SU.1 hi;split at h<;>first|exact h.elim|skip
    split at h<;>first|exact h.elim|skip
    rename_i hg;have hw:CD ops env o=some true:=by unfold CD;rw[hg]
    obtain⟨h1,acc1,d,ne,h2,h3⟩:=XU (F:=F) hX hw (λacc d ne h=>by
     split at h
     ·exact(KX hX hwa hclo hK h).1
     ·exact h.elim) h
    split at h3<;>first|exact h3.elim|skip
    rename_i e0;obtain⟨_,q,env',N',e,e',h4,h5,h6,h7⟩:=KX hX hwa hclo hK h3
    have:=h4 _ rfl
    subst this;exact⟨h1,q,env',N',_,_,by simp,h5,.cons (ne:=none) ho (.inr (.inr ⟨hne,hi,rfl,h2⟩)) h6,h7⟩
   ·rename_i hi
    have hi:ia≠some i:=λh=>by rw[SU.2 h]at hi;cases hi
    have st:∀ {e:Af} {d:D} {ne:Option Af} (e':Af),(∀a,accE=some a->e=a)->CC C F ops (Ik ia accE R (Co i clo)) (n+i) env o d ne->O2 C F ops ⟨iw,ia,e,e',R⟩ (n+i) env ⟨i,o,d,ne⟩:=λ{e d ne} e' hacc hst=>by
     refine .inl ⟨hne,hi,?_⟩;unfold Ik at hst;cases ia with
     |some ia=>exact .inr hst
     |none=>
      cases accE with
      |none=>exact .inr hst
      |some a=>
       have:=hacc a rfl
       subst this;dsimp only at hst;cases hm:Co i clo with
       |true=>rw[hm]at hst;exact .inl ⟨rfl,hclo i (FB.1 hm),hst⟩
       |false=>rw[hm]at hst;exact .inr hst
    have step:∀acc,CD ops env o=some true->(Em C X (kb+i) (BE env) (Ik ia accE R (Co i clo)) (n+i) o.op acc λacc d ne=>Ep C X kb ops iw ia R clo n l (Bq env o.dst d) (Cp ne N) accE acc' acc K) ->
      acc/\∃q env' N' e e',(∀a,accE=some a->e=a)/\(∀a,acc'=some a->e'=a)/\JI C F ops ⟨iw,ia,e,e',R⟩ n (i::l) env N env' N'/\K q env' N' e e':=λacc hw h=>by
     obtain⟨h1,acc1,d,ne,h2,h3⟩:=XU (F:=F) hX hw (λacc d ne h=>(KX hX hwa hclo hK h).1) h;obtain⟨_,q,env',N',e,e',h4,h5,h6,h7⟩:=KX hX hwa hclo hK h3;exact⟨h1,q,env',N',e,e',h4,h5,.cons ho (st e' h4 h2) h6,h7⟩
    split at h
    ·rename_i hg
     exact step _ (by unfold CD;rw[hg]) h
    ·split at h<;>first|exact h.elim|skip
     rename_i b hb;obtain⟨h0,h⟩:=h;cases b with
     |true=>exact⟨h0,(step _ hb h).2⟩
     |false=>
      obtain⟨_,q,env',N',e,e',h4,h5,h6,h7⟩:=KX hX hwa hclo hK h;exact⟨h0,q,env',N',e,e',h4,h5,.cons (ne:=none) ho (st e' h4 (CC.skip hb)) h6,h7⟩
structure C1 (C:BH)(F F':AZ):Prop where
 nt:F'.nt=F.nt
 sz:F.w0.heap.size<=F'.w0.heap.size
 mem:∀ {ρ:Lk} {H:Hp} {w:World},Aj C F' ρ H w->Aj C F ρ H w
 X:∀b,F.X b->F'.X b
 df:∃ms:List Deferred,F'.df=ms++F.df/\(∃rs:List Nat,ms=rs.map (λr=>{ target:=.collected r,args:=#[] })/\rs.Nodup /\
  ∀r∈rs,F.w0.heap.size<=r/\r<F'.w0.heap.size/\F'.X r/\∀(ρ:Lk) (H:Hp) (w:World),Aj C F' ρ H w->w.heap[r]?=some (.deferred (some [])))
theorem C1.refl (F:AZ):C1 C F F:=⟨rfl,Am _,λh=>h,λ_ h=>h,[],rfl,[],rfl,.nil,by simp⟩
theorem C1.trans {F F' F'':AZ}(h:C1 C F F')(k:C1 C F' F''):C1 C F F'':=by
 obtain⟨h1,h2,h3,h4,ms,e1,rs,e2,n1,q1⟩:=h;obtain⟨k1,k2,k3,k4,ms',e1',rs',e2',n1',q1'⟩:=k;refine⟨k1.trans h1,BP h2 k2,λh=>h3 (k3 h),λb hb=>k4 b (h4 b hb),ms'++ms,by rw[e1',e1,DO],rs'++rs,by rw[e2,e2',Du],?_,?_⟩
 ·refine EU.2 ⟨n1',n1,λx hx y hy he=>?_⟩
  have:=(q1' x hx).1
  have:=(q1 y hy).2.1
  omega
 ·intro r hr
  rcases Bs.1 hr with hr|hr
  ·obtain⟨x1,x2,x3,x4⟩:=q1' r hr
   exact⟨by omega,x2,x3,x4⟩
  ·obtain⟨x1,x2,x3,x4⟩:=q1 r hr
   exact⟨x1,by omega,k4 _ x3,λρ H w m=>x4 ρ H w (k3 m)⟩
def GB (C:BH)(F:AZ)(Q:Exit->AZ->St->Prop):Exit->Act->World->Prop:=λe a w=>∃F' s' ρ',C1 C F F'/\Q e F' s'/\B9 C F' ρ' s' a w
theorem GB.up {F F':AZ}{Q:Exit->AZ->St->Prop}(h:C1 C F F'){e:Exit}{a:Act}{w:World}:GB C F' Q e a w->GB C F Q e a w:=λ⟨F2,s',ρ',h1,h2,h3⟩=>⟨F2,s',ρ',h.trans h1,h2,h3⟩
structure AC (C:BH)(B:AZ)(rd:Option Nat)(F:AZ)(c:Code)(s:St)(Q:Exit->AZ->St->Prop):Prop where
 out:C1 C B F->Df B.nt c=true->∀(ρ:Lk) (a:Act) (w:World),B9 C F ρ s a w->c.wpIn (fw rd) 0 C.P (GB C B Q) a w
variable {s:St} {rd:Option Nat} {B:AZ} {Q:Exit->AZ->St->Prop}
theorem AC.mono {c:Code}{Q':Exit->AZ->St->Prop}(h:AC C B rd F c s Q)(hq:∀e F s,Q e F s->Q' e F s):AC C B rd F c s Q':=
 ⟨λhB hd ρ a w hs=>wpIn_mono (h.out hB hd ρ a w hs) λe a w ⟨F',s',ρ',h1,h2,h3⟩=>⟨F',s',ρ',h1,hq _ _ _ h2,h3⟩⟩
theorem AC.skip (h:Q .normal F s):AC C B rd F .skip s Q:=⟨λhB _ ρ _ _ hs=>wpIn_skip ⟨F,s,ρ,hB,h,hs⟩⟩
theorem AC.ret (h:Q .ret F s):AC C B rd F .ret s Q:=⟨λhB _ ρ _ _ hs=>wpIn_ret ⟨F,s,ρ,hB,h,hs⟩⟩
theorem AC.exit {i:Nat}(h:Q (.exit i) F s):AC C B rd F (.exit i) s Q:=⟨λhB _ ρ _ _ hs=>wpIn_exit ⟨F,s,ρ,hB,h,hs⟩⟩
def J8 (n:Prop)(r:Exit->Prop)(e:Exit):Prop:=match e with
 | .normal=>n
 | .ret=>r .ret
 | .exit j=>r (.exit j)
 | .goto l=>r (.goto l)
 | .panic c=>r (.panic c)
 | .outgrown=>r .outgrown
theorem nJ {nt:Nat}{a b:Code}(h:Df nt (.seq a b)=true):Df nt a=true/\Df nt b=true:=by simpa[Df]using h
theorem AC.seq {a b:Code}(h:AC C B rd F a s (λe F s=>J8 (AC C B rd F b s Q) (λe=>Q e F s) e)):AC C B rd F (.seq a b) s Q:=
 ⟨λhB hd ρ x w hs=>by
  obtain⟨d1,d2⟩:=nJ hd;refine wpIn_seq (wpIn_mono (h.out hB d1 ρ x w hs) ?_);rintro e a' w' ⟨F',s',ρ',h1,h2,h3⟩;cases e with
  |normal=>exact(show AC C B rd F' b s' Q from h2).out h1 d2 ρ' a' w' h3
  |ret=>exact⟨F',s',ρ',h1,h2,h3⟩
  |exit j=>exact⟨F',s',ρ',h1,h2,h3⟩
  |goto l=>exact⟨F',s',ρ',h1,h2,h3⟩
  |panic c=>exact⟨F',s',ρ',h1,h2,h3⟩
  |outgrown=>exact⟨F',s',ρ',h1,h2,h3⟩⟩
def Oa (d:D)(y n:Prop):Prop:=match d with
 | .prim (.bool b)=>Kw b y n
 |_=>False
theorem AC.cond {c:Operand}{a b:Code}(h:Oa (BE s.env c) (AC C B rd F a s Q) (AC C B rd F b s Q)):AC C B rd F (.cond c a b) s Q:=by
 unfold Oa at h;split at h
 ·rename_i t ht
  refine⟨λhB hd ρ x w hs=>?_⟩;simp only[Df,BM]at hd;have hc:x.eval c=.bool t:=by
   have:=Dc hs.env c
   rw[ht]at this;generalize x.eval c=v at this;cases this;rfl
  refine wpIn_cond_split hc (λht=>?_) λht=>?_
  ·subst ht;exact AC.out h hB hd.1 ρ x w hs
  ·subst ht;exact AC.out h hB hd.2 ρ x w hs
 ·exact h.elim
def Ov (i:Nat)(n:Prop)(r:Exit->Prop)(e:Exit):Prop:=match e with
 | .exit j=>bif Nat.beq j i then n else r (.exit j)
 | .normal=>r .normal
 | .ret=>r .ret
 | .goto l=>r (.goto l)
 | .panic c=>r (.panic c)
 | .outgrown=>r .outgrown
theorem AC.block {i:Nat}{b:Code}(h:AC C B rd F b s (λe F s=>Ov i (Q .normal F s) (λe=>Q e F s) e)):AC C B rd F (.block i b) s Q:=
 ⟨λhB hd ρ x w hs=>by
  refine wpIn_block (wpIn_mono (h.out hB (by simpa[Df]using hd) ρ x w hs) ?_);rintro e a' w' ⟨F',s',ρ',h1,h2,h3⟩;cases e with
  |normal=>exact⟨F',s',ρ',h1,h2,h3⟩
  |ret=>exact⟨F',s',ρ',h1,h2,h3⟩
  |exit j=>
   simp only[Ov]at h2;simp only[Exit.inBlock];cases hb:Nat.beq j i with
   |true=>rw[hb]at h2;rw[AH (Bi hb)];exact⟨F',s',ρ',h1,h2,h3⟩
   |false=>rw[hb]at h2;rw[AG (λhj=>by rw[hj,JY]at hb;cases hb)];exact⟨F',s',ρ',h1,h2,h3⟩
  |goto l=>exact⟨F',s',ρ',h1,h2,h3⟩
  |panic c=>exact⟨F',s',ρ',h1,h2,h3⟩
  |outgrown=>exact⟨F',s',ρ',h1,h2,h3⟩⟩
def WY:Op->Bool
 | .defer _=>true
 |_=>false
def EL:List Oper->Bool
 | []=>true
 |o::l=>match WY o.op with
  |true=>false
  |false=>EL l
theorem s9 {l:List Oper}(h:EL l=true):∀o∈l,∀c,o.op≠.defer c:=by
 induction l with
 |nil=>intro o ho;cases ho
 |cons o l ih=>
  intro o' ho c hc;have h1:WY o.op=false/\EL l=true:=by
   rw[EL]at h;generalize WY o.op=b at h⊢;cases b with
   |true=>cases h
   |false=>exact⟨rfl,h⟩
  rcases Aw.1 ho with h2|h2
  ·rw[<-h2,hc]at h1;cases h1.1
  ·exact ih h1.2 o' h2 c hc
theorem Ib (h:EL ops.toList=true):∀(i:Nat) (o:Oper),ops[i]?=some o->∀c,o.op≠.defer c:=λi o ho=>s9 h o (KM.2 (KK ho))
theorem BJ.run {K:St->Prop}{l:List Nat}(h:BJ C F ops (l.map λj=>ops.getD j default) s K)(hlt:∀j∈l,j<ops.size)(hd:ops.toList.all (DL F.nt)=true){ρ:Lk}{a:Act}{w:World}(hs:B9 C F ρ s a w):wpOps C.P ops (Je C F K) l a w:=by
 refine h ?_ l ?_ ρ a w hs
 ·rw[Cc]
  intro o' ho';obtain⟨j,hj,rfl⟩:=CL.1 ho';refine Cc.1 hd _ ?_;rw[Ar,CW (hlt j hj)];simp
 ·rw[List.map_map]
  refine RQ λj hj=>?_
  simp[Ar,CW (hlt j hj)]
theorem LX {K:St->Prop}(hB:C1 C B F)(hK:∀s,K s->Q .normal F s){e:Exit}{a:Act}{w:World}(h:Je C F K e a w):e=.normal/\GB C B Q .normal a w:=by
 obtain⟨h0,s',ρ',h1,h2⟩:=h;exact⟨h0,F,s',ρ',hB,hK _ h1,h2⟩
theorem Jq {i:Nat}{d:Bool}(hB:C1 C B F)(h:Df B.nt (.region i ops d)=true):ops.toList.all (DL F.nt)=true:=by rw[hB.nt];exact h
theorem LC {i:Nat}(hX:Di C X)(kb:Nat)(hnd:EL ops.toList=true)(h:C7 C X kb ops (List.range ops.size) s True λacc s=>acc/\Q .normal F s):AC C B rd F (.region i ops false) s Q:=by
 refine⟨λhB hd ρ a w hs=>wpIn_region ?_⟩;have hd:=Jq hB hd;have h1:=(FQ (F:=F) (K':=Q .normal F) hX (λacc s h=>h) h).2.run (λj hj=>List.mem_range.1 hj) hd hs
 have:=GP (rd:=rd) (Q:=GB C B Q) (l2:=[]) (λ_ _ _ h=>LX hB (λ_ h=>h) h) (Ib hnd) _ a w h1
 rwa [Dh]at this
theorem mL {i:Nat}(hX:Di C X)(kb:Nat)(pre suf:List Nat)(hc:(GD ops pre suf&&EL ops.toList)=true)
  (h:Ed C X kb ops s.H s.n pre s.env [] True λacc env N=>C7 C X kb ops suf ⟨env,N++s.H,s.n+Es ops.toList⟩ acc λacc s=>acc/\Q .normal F s):AC C B rd F (.region i ops true) s Q:=by
 have hsz:ops.size=Es ops.toList:=by rw[ON,JT]
 rw[<-hsz]at h;simp only[BM]at hc;obtain⟨_,acc,env,N,h1,h2⟩:=Pp (F:=F) hX (λacc env N h=>(FQ (F:=F) (K':=Q .normal F) hX (λacc s h=>h) h).1) h;refine⟨λhB hd ρ a w hs=>?_⟩;have hd:=Jq hB hd;refine j6 hX.mixed hc.1 h1 (λhlt ρ a w hs=>?_) hd ρ a w hs;have h3:=(FQ (F:=F) (K':=Q .normal F) hX (λacc s h=>h) h2).2.run hlt hd hs
 have:=GP (rd:=rd) (Q:=GB C B Q) (l2:=[]) (λ_ _ _ h=>LX hB (λ_ h=>h) h) (Ib hc.2) _ a w h3
 rwa [Dh]at this
def Oz (H:Hp)(k:Nat)(K:Af->Hp->Prop):Prop:=match Hp.get H k with
 |some e=>K e (Hp.del H k)
 |none=>False
theorem bN {i:Nat}{W:WR}{pre suf:List Nat}{envF:As}{N:Hp}(hm:C.P.follows .mixedOrders=true)(hc:GD ops pre suf=true)(hnd:EL ops.toList=true)
  (hH:s.H.Perm W.start) (hga:∀ia,W.ia=some ia->W.e.g=s.n+ia/\DU ops W.iw ia/\ia∈pre) (hiw:W.iw∈pre) (hwg:W.e'.g=W.e.g\/W.e'.g=s.n+W.iw)
  (hpre:JI C F ops W s.n pre s.env [] envF N)
  (h:BJ C F ops (suf.map λj=>ops.getD j default) ⟨envF,N++W.e'::W.R,s.n+ops.size⟩ (Q .normal F)):AC C B rd F (.region i ops true) s Q:=
 ⟨λhB hd ρ a w hs=>wpIn_region_any hm (Kb (λ_ _ _ h=>LX (F:=F) hB (λ_ h=>h) h) (Ib hnd) _ _ _ _ (mA (Q:=λe s=>Q e F s) hc hH hga hiw hwg hpre h (Jq hB hd) ρ a w hs))⟩
theorem BJ.perm {os:List Oper}{env:As}{H H':Hp}{n:Nat}{K:St->Prop}(hp:H.Perm H')(h:BJ C F ops os ⟨env,H,n⟩ K):BJ C F ops os ⟨env,H',n⟩ K:=λhd l hl ρ a w hs=>
 h hd l hl ρ a w ⟨hs.mem.perm hp.symm,hs.fresh,λe he=>hs.gen e (hp.mem_iff.1 he),λt=>by
  show AV ρ (AL F.X ρ H) w _ _;rw[AL.perm hp];exact hs.env t,hs.nt,hs.dfr⟩
theorem PE {i:Nat}(hX:Di C X)(kb:Nat)(pre suf:List Nat)(iw:Nat)(clo:List Nat)(k:Nat)(hc:(GD ops pre suf&&EL ops.toList)=true)(hcl:(Co iw pre&&If clo (DV (Hg ops (pre++suf) []) iw))=true)
  (h:Oz s.H k λe R=>Ep C X kb ops iw none R clo s.n pre s.env [] (some e) none True λacc env N e e'=>(e'.g=e.g\/e'.g=s.n+iw)/\C7 C X kb ops suf ⟨env,N++Hp.set s.H k e',s.n+Es ops.toList⟩ acc λacc s=>acc/\Q .normal F s):
  AC C B rd F (.region i ops true) s Q:=by
 have hsz:ops.size=Es ops.toList:=by rw[ON,JT]
 rw[<-hsz]at h;unfold Oz at h;split at h<;>first|exact h.elim|skip
 rename_i e0 he0;simp only[BM]at hcl hc;have hclo:∀j∈clo,DU ops iw j:=λj hj=>N8 (N5 _ _ (by simp)) _ _ (LQ.1 hcl.2 j hj)
 obtain⟨_,q,env,N,e,e',h1,h2,h3,h4,h5⟩:=KX (F:=F) hX (by simp) hclo (λacc env N e e' h=>(FQ (F:=F) (K':=Q .normal F) hX (λacc s h=>h) h.2).1) h
 have:=h1 _ rfl
 subst this;obtain⟨H1,H2,q1,_,q3⟩:=LA e he0;obtain⟨H1',H2',q1',q2',q3'⟩:=LA e' he0;refine bN (W:=⟨iw,none,e,e',Hp.del s.H k⟩) hX.mixed hc.1 hc.2 ?_ (by simp) (FB.1 hcl.1) h4 h3 (BJ.perm ?_ (FQ (F:=F) hX (λacc s h=>h) h5).2)
 ·rw[q3];unfold WR.start
  dsimp only;rw[q1];exact Hq
 ·rw[q2',q3']
  exact List.Perm.append_left _ Hq
theorem e3s {i:Nat}(hX:Di C X)(kb:Nat)(pre suf:List Nat)(iw ia:Nat)(clo:List Nat)(hc:(GD ops pre suf&&EL ops.toList)=true)(hcl:(Co iw pre&&Co ia pre&&Co ia clo && !(Nat.beq ia iw)&&If clo (DV (Hg ops (pre++suf) []) iw))=true)
  (h:Ep C X kb ops iw (some ia) s.H clo s.n pre s.env [] none none True λacc env N e e'=>(e.g=s.n+ia/\(e'.g=e.g\/e'.g=s.n+iw))/\C7 C X kb ops suf ⟨env,N++e'::s.H,s.n+Es ops.toList⟩ acc λacc s=>acc/\Q .normal F s):
  AC C B rd F (.region i ops true) s Q:=by
 have hsz:ops.size=Es ops.toList:=by rw[ON,JT]
 rw[<-hsz]at h;simp only[BM,BZ]at hcl hc;obtain⟨⟨⟨⟨c1,c2⟩,c3⟩,c4⟩,c5⟩:=hcl;have hclo:∀j∈clo,DU ops iw j:=λj hj=>N8 (N5 _ _ (by simp)) _ _ (LQ.1 c5 j hj)
 have hne:ia≠iw:=λh=>by rw[h,JY]at c4;cases c4
 obtain⟨_,q,env,N,e,e',h1,h2,h3,⟨h4,h6⟩,h5⟩:=KX (F:=F) hX (λh=>hne (by simpa using h)) hclo (λacc env N e e' h=>(FQ (F:=F) (K':=Q .normal F) hX (λacc s h=>h) h.2).1) h;exact bN (W:=⟨iw,some ia,e,e',s.H⟩) hX.mixed hc.1 hc.2 (List.Perm.refl _) (λj hj=>by cases hj;exact⟨h4,hclo ia (FB.1 c3),FB.1 c2⟩) (FB.1 c1) h6 h3 (FQ (F:=F) hX (λacc s h=>h) h5).2
structure Wk (s s':St):Prop where
 h:C2 s.H s'.H s.H s'.H
 e:NM s.H s'.H s.env s'.env
 n:s.n<=s'.n
theorem AC.weak {c:Code}(s':St)(h:Wk s s')(hk:AC C B rd F c s' Q):AC C B rd F c s Q:=⟨λhB hd ρ a w hs=>hk.out hB hd ρ a w (hs.weak h.h h.e h.n)⟩
theorem nC {Fe:Fence}{n:Nat}{P:Program}{c:Code}{Q:Exit->Act->World->Prop}(I:Nat->Act->World->Prop){m:Nat}{a:Act}{w:World}(h₀:I m a w)
  (round:∀m a w,I m a w->c.wpIn Fe n P (Exit.then (λa' w'=>∃m',m'<m/\I m' a' w') Q) a w):(Code.loop c).wpIn Fe n P Q a w:=by
 intro b k cs hro hb hr;have key:∀m a w,I m a w->∃e a' w',Q e a' w'/\ArrivesIn (Machine.fenced P Fe) P (lone (b.atR a (.code c::.inLoop c::k)) cs w) b k cs e a' w':=by
  intro m
  induction m using Nat.strongRecOn with
  |_ m ih=>
   intro a w hI;obtain⟨e,a₁,w₁,hq,harr⟩:=round m a w hI b (.inLoop c::k) cs hro hb hr;cases e with
   |normal=>
    obtain⟨m',hlt,hI₁⟩:=hq;obtain⟨e₂,a₂,w₂,hq₂,harr₂⟩:=ih m' hlt a₁ w₁ hI₁;exact⟨e₂,a₂,w₂,hq₂,.of_steps (StepsIn.trans harr (.one (fenced_calm hb hr rfl) stepR_inLoop)) harr₂⟩
   |exit id=>exact⟨_,a₁,w₁,hq,.pass (x:=.inLoop c) rfl (λ_ _=>.inl (by simp)) harr⟩
   |goto l=>exact⟨_,a₁,w₁,hq,.pass (x:=.inLoop c) rfl (λ_ _=>.inl (by simp)) harr⟩
   |ret=>exact⟨_,a₁,w₁,hq,.pass (x:=.inLoop c) rfl (λ_ _=>.inl (by simp)) harr⟩
   |panic ch=>exact⟨_,a₁,w₁,hq,.pass (x:=.inLoop c) rfl (λ_ _=>.inl (by simp)) harr⟩
   |outgrown=>exact⟨_,a₁,w₁,hq,.pass (x:=.inLoop c) rfl (λ_ _=>.inl (by simp)) harr⟩
 obtain⟨e,a',w',hq,harr⟩:=key _ a w h₀;exact⟨e,a',w',hq,.of_steps (.one (fenced_calm hb hr rfl) stepR_loop) harr⟩
theorem HJ {b:Code}{α:Type}(sh:α->St)(μ:α->Nat)(J:α->AZ->Prop)(a0:α)(h0:J a0 F)(hs:Wk s (sh a0))
  (h:∀a F',J a F'->AC C B rd F' b (sh a) (λe F' s'=>J8 (∃a',J a' F'/\μ a'<μ a/\Wk s' (sh a')) (λe=>Q e F' s') e)):AC C B rd F (.loop b) s Q:=by
 refine⟨λhB hd ρ x w hsat=>?_⟩;have hd':Df B.nt b=true:=by simpa[Df]using hd
 refine nC (λm x w=>∃(F':AZ) (a:α) (s1:St) (ρ:Lk),μ a=m/\C1 C B F'/\J a F'/\Wk s1 (sh a)/\B9 C F' ρ s1 x w) ⟨F,a0,s,ρ,rfl,hB,h0,hs,hsat⟩ ?_;rintro m x w ⟨F',a,s1,ρ,hm,hF,ha,hw,hsat⟩;refine wpIn_mono ((h a F' ha).out hF hd' ρ x w (hsat.weak hw.h hw.e hw.n)) ?_;rintro e a' w' ⟨F2,s2,ρ2,h1,h2,h3⟩;cases e with
 |normal=>
  obtain⟨a2,q1,q2,q3⟩:=(show ∃a',J a' F2/\μ a'<μ a/\Wk s2 (sh a')from h2)
  exact⟨μ a2,hm ▸ q2,F2,a2,s2,ρ2,rfl,h1,q1,q3,h3⟩
 |ret=>exact⟨F2,s2,ρ2,h1,h2,h3⟩
 |exit j=>exact⟨F2,s2,ρ2,h1,h2,h3⟩
 |goto l=>exact⟨F2,s2,ρ2,h1,h2,h3⟩
 |panic c=>exact⟨F2,s2,ρ2,h1,h2,h3⟩
 |outgrown=>exact⟨F2,s2,ρ2,h1,h2,h3⟩
theorem AC.loop {b:Code}{α:Type}(sh:α->St)(μ:α->Nat)(J:α->Prop)(a0:α)(h0:J a0)(hs:Wk s (sh a0))
  (h:∀a F',J a->AC C B rd F' b (sh a) (λe F' s'=>J8 (∃a',J a'/\μ a'<μ a/\Wk s' (sh a')) (λe=>Q e F' s') e)):AC C B rd F (.loop b) s Q:=
 HJ sh μ (λa _=>J a) a0 h0 hs h
abbrev i64 (z:Int):D:=.prim (.int .i64 z)
abbrev u64 (z:Int):D:=.prim (.int .u64 z)
abbrev str (s:ByteArray):D:=.prim (.string s)
abbrev Av (b:Bool):D:=.prim (.bool b)
abbrev CS:D:=.prim (.slice none 0 0)
theorem AM {H:Hp}{d0 d:D}(hd:d0=d)(hp:CI d0):∃d',Fz H [] d0 d'/\CI d'/\d'=d:=⟨d0,.refl _,hp,hd⟩
theorem Fw.refl {H Hf:Hp}:∀ds:List D,Fw H Hf ds ds
 | []=>trivial
 |_::l=>⟨.refl _,Fw.refl l⟩
theorem BN.same {C:BH}{f:Nat}{ds:List D}{k:D->Prop}(d:D)(hc:AI C f ds d)(hp:AU ds)(hk:k d):BN C f ds k:=.mk ds d (Fw.refl _) hc hp hk
theorem BI.same {C:BH}{f:Nat}{ds:List D}{H:Hp}{n:Nat}{k:D->Hp->Nat->Prop}(d:D)(hc:AI C f ds d)(hp:AU ds)(hk:k d H (n+1)):BI C f ds H n k:=.pure ds d (Fw.refl _) hc hp hk
end
section
variable {C:BH} {F:AZ} {ops:Array Oper}
def X0 (C:BH)(F:AZ)(He:Hp)(ρ:Lk)(w:World)(g:Nat)(d:D)(e e':Af)(v:Value)(ρ':Lk)(w':World):Prop:=
 Aj C F ρ' (e'::He) w'/\BW ρ (AL F.X ρ (e::He)) w ρ' (AL F.X ρ' (e'::He)) w'/\(∀k g',g'≠g->ρ' k g'=ρ k g')/\AV ρ' (AL F.X ρ' (e'::He)) w' d v
def P1 (C:BH)(F:AZ)(ops:Array Oper)(H:Hp)(g:Nat)(env:As)(o:Oper)(d:D)(e e':Af):Prop:=
 e'.g=g/\∀(He:Hp) (ρ:Lk) (a:Act) (w:World),Aj C F ρ (e::He) w->(∀x∈H,x∈He)->(∀k,ρ k g=none)->(∀x∈e::He,x.g≠g) ->
  (∀t∈o.looksAt ops,AV ρ (AL F.X ρ (e::He)) w (env.get t) (a.tmps.getD t undef)) ->
  Region.wanted o (yielded ops a.tmps)=true/\((∃v ρ' w',(execOp a.eval o).run C.P w=.ok (.value v) w'/\X0 C F He ρ w g d e e' v ρ' w') \/
   ∃f vs,(execOp a.eval o).run C.P w=.ok (.enter f vs) w/\Calls C.P f vs w (λex w'=>∃v,ex=.returned v/\∃ρ',X0 C F He ρ w g d e e' v ρ' w'))
theorem P1.app {H:Hp}{g:Nat}{env:As}{o:Oper}{e e':Af}{tt:Nat->Option Ai}(k:Nat)(htt:CY C.P tt){d:D}{p:Prop}(hw:CD ops env o=some true)(he:EX tt [e] g k (BE env) o.op=some (d,[e'],p))(hp:p):
  P1 C F ops H g env o d e e':=by
 refine⟨(Vi (He:=[]) he).2,λHe ρ a w m _ fr hne hr=>?_⟩;refine⟨HX hr hw,?_⟩;obtain⟨g',h1,h2⟩:=H8 hr;rw[VO h1]at he;obtain⟨q1,_⟩:=Vi (He:=He) he;obtain⟨v,ρ',w',r1,r2⟩:=R3 htt m fr hne h2 q1 hp;exact .inl ⟨v,ρ',w',r1,r2.mem,r2.ext,r2.far,r2.rep⟩
def Ef (use:Nat->Option Nat)(L:Array Bool)(r:CH):Option Af:=
 if L.getD r.i false=true/\(∀j,use r.i=some j->L.getD j false=false)then r.ne else none
structure OS (ops:Array Oper)(rs:List CH)(con:Nat->Option Af)(use:Nat->Option Nat):Prop where
 made:∀r∈rs,∀e,con r.i=some e->∃r0∈rs,r0.ne=some e/\use r0.i=some r.i
 late:∀r∈rs,∀j,use r.i=some j->j∈rs.map (·.i)/\con j=r.ne/\DU ops j r.i
 one:∀r∈rs,∀r'∈rs,∀j,use r.i=some j->use r'.i=some j->r.i=r'.i
structure DT (C:BH)(F:AZ)(H:Hp)(n:Nat)(env:As)(rs:List CH)(use:Nat->Option Nat)(L:Array Bool)(a:Act)(w:World)(ρ:Lk)(He:Hp):Prop where
 mem:Aj C F ρ He w
 perm:He.Perm (rs.filterMap (Ef use L)++H)
 reps:∀r∈rs,Ls L r.i->∀t,r.o.dst=some t->AV ρ (AL F.X ρ He) w r.d (a.tmps.getD t undef)
 old:∀t,(∀r∈rs,Ls L r.i->r.o.dst≠some t)->AV ρ (AL F.X ρ He) w (env.get t) (a.tmps.getD t undef)
 fresh:∀k g,n<=g->ρ k g≠none->∃r∈rs,Ls L r.i/\g=n+r.i
 nt:a.tmps.size=F.nt
 dfr:a.defers=F.df
theorem Xl {rs:List CH}(hn:(rs.map (·.i)).Nodup){r:CH}(hr:r∈rs){f g:CH->Option Af}(hg:g r=none)(h:∀r'∈rs,r'.i≠r.i->f r'=g r'):(rs.filterMap f).Perm ((f r).toList++rs.filterMap g):=by
 obtain⟨A,B,rfl⟩:=El hr;rw[Du,CX,EU,List.nodup_cons]at hn;have hA:A.filterMap f=A.filterMap g:=Ke λx hx=>h x (by simp[hx]) λe=>hn.2.2 x.i (CL.2 ⟨x,hx,rfl⟩) r.i (by simp) e
 have hB:B.filterMap f=B.filterMap g:=Ke λx hx=>h x (by simp[hx]) λe=>hn.2.1.1 (CL.2 ⟨x,hx,e⟩)
 rw[List.filterMap_append,Nm,List.filterMap_append,Nm,hg,hA,hB];cases f r with
 |none=>exact .refl _
 |some e=>exact Hq
theorem Z5 {use:Nat->Option Nat}{L:Array Bool}{i:Nat}(hi:i<L.size){r':CH}(h1:r'.i≠i)(h2:use r'.i=some i->r'.ne=none):Ef use (L.setIfInBounds i true) r'=Ef use L r':=by
 have hset:∀j,Ls (L.setIfInBounds i true) j↔j=i\/Ls L j:=λj=>Ls.set hi
 unfold Ls at hset;unfold Ef
 by_cases h3:use r'.i=some i
 ·rw[h2 h3];split<;>split<;>rfl
 have e1:((L.setIfInBounds i true).getD r'.i false=true)↔L.getD r'.i false=true:=⟨λh=>((hset _).1 h).resolve_left h1,λh=>(hset _).2 (.inr h)⟩
 have e2:(∀j,use r'.i=some j->(L.setIfInBounds i true).getD j false=false)↔∀j,use r'.i=some j->L.getD j false=false:=by
  constructor
  ·intro h j hj
   have:=h j hj
   cases hb:L.getD j false with
   |false=>rfl
   |true=>rw[(hset j).2 (.inr hb)]at this;cases this
  ·intro h j hj
   have:=h j hj
   cases hb:(L.setIfInBounds i true).getD j false with
   |false=>rfl
   |true=>
    rcases(hset j).1 hb with q|q
    ·exact Ah (q ▸ hj) h3
    ·rw[q]at this;cases this
 by_cases g:L.getD r'.i false=true/\∀j,use r'.i=some j->L.getD j false=false
 ·rw[AH g,AH ⟨e1.2 g.1,e2.2 g.2⟩]
 ·rw[AG g,AG λq=>g ⟨e1.1 q.1,e2.1 q.2⟩]
theorem Vv {use:Nat->Option Nat}{L:Array Bool}{r:CH}(h:¬Ls L r.i):Ef use L r=none:=AG λq=>h q.1
theorem Z6 {use:Nat->Option Nat}{L:Array Bool}{r:CH}(hi:r.i<L.size)(h:∀j,use r.i=some j->j≠r.i/\¬Ls L j):Ef use (L.setIfInBounds r.i true) r=r.ne:=by
 have hset:∀j,Ls (L.setIfInBounds r.i true) j↔j=r.i\/Ls L j:=λj=>Ls.set hi
 refine AH ⟨(hset _).2 (.inl rfl),λj hj=>?_⟩;cases hb:(L.setIfInBounds r.i true).getD j false with
 |false=>rfl
 |true=>
  rcases(hset j).1 hb with q|q
  ·exact Ah q (h j hj).1
  ·exact Ah q (h j hj).2
theorem qU {use:Nat->Option Nat}{con:Nat->Option Af}{rs:List CH}(ht:OS ops rs con use)(hn:(rs.map (·.i)).Nodup){r:CH}(hr:r∈rs){L:Array Bool}(hi:r.i<L.size)(hL:¬Ls L r.i)(hc:con r.i=none)
  (hu:∀j,use r.i=some j->j≠r.i/\¬Ls L j):(rs.filterMap (Ef use (L.setIfInBounds r.i true))).Perm (r.ne.toList++rs.filterMap (Ef use L)):=by
 have:=Xl hn hr (f:=Ef use (L.setIfInBounds r.i true)) (g:=Ef use L) (Vv hL) λr' hr' h=>Z5 hi h λq=>by rw[<-(ht.late r' hr' _ q).2.1,hc]
 rwa [Z6 hi hu]at this
theorem qV {use:Nat->Option Nat}{con:Nat->Option Af}{rs:List CH}(ht:OS ops rs con use)(hn:(rs.map (·.i)).Nodup){r r0:CH}(hr:r∈rs)(hr0:r0∈rs){L:Array Bool}(hi:r.i<L.size)(hL:¬Ls L r.i)(hL0:Ls L r0.i){e:Af}(he:r0.ne=some e)(hu0:use r0.i=some r.i)
  (hu:∀j,use r.i=some j->j≠r.i/\¬Ls L j):∃X,(rs.filterMap (Ef use L)).Perm (e::X)/\(rs.filterMap (Ef use (L.setIfInBounds r.i true))).Perm (r.ne.toList++X):=by
 have h0:r0.i≠r.i:=λq=>hL (by rw[<-q];exact hL0)
 let g:CH->Option Af:=λx=>if Nat.beq x.i r0.i=true then none else Ef use L x
 have g0:g r0=none:=AH (JY _);have gr:g r=none:=by
  show(if Nat.beq r.i r0.i=true then none else Ef use L r)=none;rw[Vv hL];split<;>rfl
 have gx:∀x:CH,x.i≠r0.i->g x=Ef use L x:=λx hx=>AG λq=>hx (Bi q)
 refine⟨rs.filterMap g,?_,?_⟩
 ·have:=Xl hn hr0 (f:=Ef use L) (g:=g) g0 λr' _ h=>(gx r' h).symm
  have e1:Ef use L r0=some e:=by
   rw[<-he];refine AH ⟨hL0,λj hj=>?_⟩;rw[hu0]at hj;cases hj;unfold Ls at hL;simpa using hL
  rwa [e1]at this
 ·have:=Xl hn hr (f:=Ef use (L.setIfInBounds r.i true)) (g:=g) gr λr' hr' h=>by
   by_cases q:r'.i=r0.i
   ·have e1:g r'=none:=AH (by rw[q];exact JY _)
    rw[e1];refine AG λk=>?_
    have:=k.2 r.i (by rw[q];exact hu0)
    have h2:Ls (L.setIfInBounds r.i true) r.i:=(Ls.set hi).2 (.inl rfl);unfold Ls at h2;rw[h2]at this;cases this
   ·rw[gx r' q]
    exact Z5 hi h λk=>Ah (ht.one r' hr' r0 hr0 _ k hu0) q
  rwa [Z6 hi hu]at this
theorem DT.nextG {use:Nat->Option Nat}{H:Hp}{n:Nat}{env:As}{A B:List CH}{r:CH}{L:Array Bool}{a:Act}{w:World}{ρ:Lk}{He:Hp}(h:DT C F H n env (A++r::B) use L a w ρ He)(hi:r.i<L.size)(hn:¬Ls L r.i)
  (hnd:((A++r::B).map (·.i)).Nodup) (hdst:(A++r::B).Pairwise (λr r'=>∀t,r.o.dst=some t->r'.o.dst≠some t)) (hok:DL F.nt r.o=true) {v:Value} {ρ':Lk} {w':World} {He':Hp}
  (pm:Aj C F ρ' He' w') (px:BW ρ (AL F.X ρ He) w ρ' (AL F.X ρ' He') w') (pf:∀k g',g'≠n+r.i->ρ' k g'=ρ k g') (pr:AV ρ' (AL F.X ρ' He') w' r.d v)
  (pp:He'.Perm ((A++r::B).filterMap (Ef use (L.setIfInBounds r.i true))++H)):
  DT C F H n env (A++r::B) use (L.setIfInBounds r.i true) (a.put r.o.dst v) w' ρ' He':=by
 have hset:∀j,Ls (L.setIfInBounds r.i true) j↔j=r.i\/Ls L j:=λj=>Ls.set hi
 have hne:∀r'∈A++B,r'.i≠r.i:=by
  simp only[Du,CX]at hnd;intro r' hr' he;rw[EU,List.nodup_cons]at hnd;rcases Bs.1 hr' with hr'|hr'
  ·exact hnd.2.2 r'.i (CL.2 ⟨r',hr',rfl⟩) r.i (by simp) he
  ·exact hnd.2.1.1 (CL.2 ⟨r',hr',he⟩)
 have hput:∀t,(a.put r.o.dst v).tmps.getD t undef=if r.o.dst=some t then v else a.tmps.getD t undef:=by
  intro t;cases hd:r.o.dst with
  |none=>simp[Act.put]
  |some k=>
   have hk:k<a.tmps.size:=by
    rw[h.nt];unfold DL at hok;rw[hd]at hok;exact Nat.blt_eq.mp hok
   show(a.tmps.setIfInBounds k v).getD t undef=_;rw[Ar,HM]
   by_cases hkt:k=t
   ·subst hkt;simp[hk]
   ·rw[AG hkt,AG (by simpa using hkt),<-Ar]
 refine⟨pm,pp,λr' hr' hl t ht=>?_,λt ht=>?_,λk g hg hk=>?_,?_,?_⟩
 ·rw[hput]
  by_cases hrr:r'=r
  ·subst hrr;rw[AH ht];exact pr
  ·have hr2:r'∈A++B:=by
    rcases Bs.1 hr' with h|h
    ·simp[h]
    ·rcases Aw.1 h with h|h
     ·exact Ah h hrr
     ·simp[h]
   have hl2:=((hset r'.i).1 hl).resolve_left (hne r' hr2);rw[AG]
   ·exact(h.reps r' hr' hl2 t ht).mono px
   ·intro hrt
    rw[KN,DN]at hdst;rcases Bs.1 hr2 with h|h
    ·exact hdst.2.2 r' h r (by simp) t ht hrt
    ·exact hdst.2.1.1 r' h t hrt ht
 ·rw[hput,AG (ht r (by simp) ((hset r.i).2 (.inl rfl)))]
  exact(h.old t λr' hr' hl=>ht r' hr' ((hset r'.i).2 (.inr hl))).mono px
 ·by_cases hgr:g=n+r.i
  ·exact⟨r,by simp,(hset r.i).2 (.inl rfl),hgr⟩
  ·rw[pf k g hgr]at hk
   obtain⟨r',h1,h2,h3⟩:=h.fresh k g hg hk;exact⟨r',h1,(hset r'.i).2 (.inr h2),h3⟩
 ·cases r.o.dst<;>simp[Act.put,h.nt]
 ·cases r.o.dst<;>simp[Act.put,h.dfr]
theorem DT.look {use:Nat->Option Nat}{H:Hp}{n:Nat}{env:As}{rs:List CH}{suf:List Nat}{L:Array Bool}{a:Act}{w:World}{ρ:Lk}{He:Hp}(h:DT C F H n env rs use L a w ρ He)(ho:NO ops rs suf)(hL:L.size=ops.size)(hc:Cl ops L)
  {A B:List CH} {r:CH} (hr:rs=A++r::B) (hrd:r.i∈Region.ready .any ops L):∀t∈r.o.looksAt ops,AV ρ (AL F.X ρ He) w ((Ey A env).get t) (a.tmps.getD t undef):=by
 intro t ht;have hpA:A.Pairwise (λr r'=>∀t,r.o.dst=some t->r'.o.dst≠some t):=by
  have:=ho.dst
  rw[hr,KN]at this;exact this.1
 by_cases hw:∃r'∈rs,r'.o.dst=some t
 ·obtain⟨r',h1,h2⟩:=hw
  rcases ho.look A r B hr t ht r' h1 h2 with⟨h3,h4⟩|⟨h3,h4⟩
  ·rw[M1 A env t hpA r' h3 h2]
   exact h.reps r' h1 (Fy hL hc h4 (FP.1 hrd).2.2) t h2
  ·
   have one:∀r''∈rs,r''.o.dst=some t->r''=r':=λr'' hr'' hd=>DA λhne=>by
    have hp:=ho.dst;have sym:∀ {l:List CH},l.Pairwise (λr r'=>∀t,r.o.dst=some t->r'.o.dst≠some t)->∀x∈l,∀y∈l,x≠y->∀t,x.o.dst=some t->y.o.dst≠some t:=by
     intro l hl
     induction hl with
     |nil=>intro x hx;simp at hx
     |cons h _ ih=>
      intro x hx y hy hxy t h1 h2;rcases Aw.1 hx with e1|e1
      ·rcases Aw.1 hy with e2|e2
       ·exact hxy (by rw[e1,e2])
       ·rw[e1]at h1;exact h y e2 t h1 h2
      ·rcases Aw.1 hy with e2|e2
       ·rw[e2]at h2;exact h x e1 t h2 h1
       ·exact ih x e1 y e2 hxy t h1 h2
    exact sym hp r'' hr'' r' h1 hne t hd h2
   rw[Jj A env t λr'' hr'' hd=>h3 (by rw[<-one r'' (by rw[hr];simp[hr'']) hd];exact hr'')];refine h.old t λr'' hr'' hl hd=>?_
   obtain rfl:=one r'' hr'' hd;have hlt:r''.i<ops.size:=ho.lt r''.i (by simp;exact .inl ⟨r'',hr'',rfl⟩);have hin:=(FP.1 hrd).2.1;have hrl:L.getD r.i false=true:=by
    refine Fy hL hc h4 λk hk=>?_
    refine hc r''.i ?_ hlt k hk;unfold Ls at hl;rw[Ar,HV]at hl⊢;simpa using hl
   have hrlt:r.i<ops.size:=(FP.1 hrd).1;rw[Ar,HV]at hrl hin;simp at hrl hin;rw[hrl]at hin;cases hin
 ·rw[Jj A env t λr' hr' hd=>hw ⟨r',by rw[hr];simp[hr'],hd⟩]
  exact h.old t λr' hr' _ hd=>hw ⟨r',hr',hd⟩
def Mg (C:BH)(F:AZ)(ops:Array Oper)(H:Hp)(con:Nat->Option Af)(g:Nat)(env:As)(r:CH):Prop:=
 (con r.i=none/\CC C F ops H g env r.o r.d r.ne)\/∃e e',con r.i=some e/\r.ne=some e'/\P1 C F ops H g env r.o r.d e e'
theorem Mg.gen {H:Hp}{con:Nat->Option Af}{g:Nat}{env:As}{r:CH}(h:Mg C F ops H con g env r):∀e,r.ne=some e->e.g=g:=by
 rcases h with⟨_,h⟩|⟨e,e',_,h1,h2⟩
 ·exact h.1
 ·intro x hx;rw[h1]at hx;cases hx;exact h2.1
theorem nE {use:Nat->Option Nat}{con:Nat->Option Af}{Q:Exit->Act->World->Prop}{H:Hp}{n:Nat}{env:As}{rs:List CH}{suf:List Nat}(ho:NO ops rs suf)(hgen:∀e∈H,e.g<n)(hd:∀r∈rs,DL F.nt r.o=true)
  (ht:OS ops rs con use) (hst:∀A r B,rs=A++r::B->ops[r.i]?=some r.o/\Mg C F ops H con (n+r.i) (Ey A env) r)
  (hend:∀(L:Array Bool) (a:Act) (w:World) (ρ:Lk) (He:Hp),L.size=ops.size->(∀r∈rs,Ls L r.i)->DT C F H n env rs use L a w ρ He->wpOps C.P ops Q suf a w):
  ∀(fuel:Nat) (L:Array Bool) (a:Act) (w:World) (ρ:Lk) (He:Hp),L.size=ops.size->((rs.map (·.i)++suf).filter (λi=>!L.getD i false)).length<=fuel->Cl ops L->(∀i∈suf,¬Ls L i) ->
   DT C F H n env rs use L a w ρ He->wpAny C.P .any ops Q fuel L a w:=by
 intro fuel
 induction fuel with
 |zero=>
  intro L a w ρ He hL hf hc hs hi;have h0:(rs.map (·.i)++suf).filter (λi=>!L.getD i false)=[]:=FU (by omega);have hall:∀r∈rs,Ls L r.i:=λr hr=>by
   have:=List.filter_eq_nil_iff.1 h0 r.i (by simp;exact .inl ⟨r,hr,rfl⟩)
   simpa[Ls]using this
  have hsuf:suf=[]:=by
   apply List.eq_nil_iff_forall_not_mem.2;intro i hi2
   have:=List.filter_eq_nil_iff.1 h0 i (by simp[hi2])
   exact hs i hi2 (by simpa[Ls]using this)
  subst hsuf;refine Mh [] 0 L a w hL (Am _) (λi hi2=>⟨λ_=>by simp,λ_=>?_⟩) .nil (λA i B h=>by cases A<;>simp at h) (by simp) hc (hend L a w ρ He hL hall hi)
  have:=ho.all i hi2
  simp at this;obtain⟨r,hr,rfl⟩:=this;exact hall r hr
 |succ fuel ih=>
  intro L a w ρ He hL hf hc hs hi
  by_cases hall:∀r∈rs,Ls L r.i
  ·refine Mh suf (fuel+1) L a w hL ?_ (λi hi2=>?_) ?_ (λA i B hAB=>⟨λj hj=>?_,λj hj=>ho.suf A i B hAB j (by simp[hj])⟩) (λi hi2=>ho.lt i (by simp[hi2])) hc (hend L a w ρ He hL hall hi)
   ·refine BP ?_ hf
    rw[List.filter_append,Bz];rw[(List.filter_eq_self (l:=suf)).2 λi hi2=>by have:=hs i hi2;unfold Ls at this;simpa using this];omega
   ·constructor
    ·intro h1 h2;exact hs i h2 h1
    ·intro h1
     have:=ho.all i hi2
     rcases Bs.1 this with h|h
     ·obtain⟨r,hr,rfl⟩:=CL.1 h;exact hall r hr
     ·exact Ah h h1
   ·exact(EU.1 ho.nodup).2.1
   ·have hA:=ho.first (rs.map (·.i)++A) i B (by simp[hAB]) j hj
    refine⟨ho.lt j (by rw[hAB];rcases Bs.1 hA with h|h<;>simp[h]),λhB=>?_⟩;have hnd:=ho.nodup;rw[hAB,<-DO,EU]at hnd;exact hnd.2.2 j hA j hB rfl
  ·have hnot:∃r∈rs,¬Ls L r.i:=by
    apply DA;intro hn;exact hall λr hr=>DA λh=>hn ⟨r,hr,h⟩
   have hLt:∀j,j<ops.size->(L.getD j true=true↔Ls L j):=λj hj=>by
    unfold Ls;rw[Ar,Ar,HV];simp
   have hsome:Region.ready .any ops L≠[]:=by
    obtain⟨r0,hr0,hn0⟩:=hnot
    have:∀X:List CH,∀Y,rs=X++Y->(∃r∈Y,¬Ls L r.i)->(∀r∈X,Ls L r.i)->∃A r B,rs=A++r::B/\¬Ls L r.i/\∀r∈A,Ls L r.i:=by
     intro X Y
     induction Y generalizing X with
     |nil=>rintro _ ⟨r,hr,_⟩ _;simp at hr
     |cons y Y ihY=>
      intro hXY hex hX
      by_cases hy:Ls L y.i
      ·obtain⟨r,hr,hrn⟩:=hex
       rcases Aw.1 hr with rfl|hr
       ·exact Ah hy hrn
       ·exact ihY (X++[y]) (by simp[hXY]) ⟨r,hr,hrn⟩ (λr hr=>by
         rcases Bs.1 hr with h|h
         ·exact hX r h
         ·simp at h;subst h;exact hy)
      ·exact⟨X,y,Y,hXY,hy,hX⟩
    obtain⟨A,r,B,h1,h2,h3⟩:=this [] rs rfl ⟨r0,hr0,hn0⟩ (by simp);intro hnil;have hrlt:=ho.lt r.i (by rw[h1];simp)
    have:r.i∈Region.ready .any ops L:=by
     rw[FP];refine⟨hrlt,?_,λj hj=>?_⟩
     ·cases hb:L.getD r.i true with
      |false=>rfl
      |true=>exact Ah ((hLt r.i hrlt).1 hb) h2
     ·have:=ho.first (A.map (·.i)) r.i (B.map (·.i)++suf) (by rw[h1];simp) j hj
      obtain⟨r',hr',rfl⟩:=CL.1 this;exact h3 r' hr'
    rw[hnil]at this;simp at this
   refine⟨λh0=>Ah h0 hsome,λi hir=>?_⟩;obtain⟨hilt,hin,hid⟩:=FP.1 hir;have hnL:¬Ls L i:=λh=>by rw[(hLt i hilt).2 h]at hin;cases hin
   have hpre:i∈rs.map (·.i):=by
    rcases Bs.1 (ho.all i hilt)with h|h
    ·exact h
    ·obtain⟨A,B,hAB⟩:=El h
     obtain⟨r0,hr0,hn0⟩:=hnot
     have:=Fy hL hc (ho.suf A i B hAB r0.i (IS _ (CL.2 ⟨r0,hr0,rfl⟩))) hid
     exact Ah this hn0
   obtain⟨r,hr,rfl⟩:=CL.1 hpre;obtain⟨A,B,hAB⟩:=El hr;obtain⟨hor,hsteady⟩:=hst A r B hAB;have hset:∀j,Ls (L.setIfInBounds r.i true) j↔j=r.i\/Ls L j:=λj=>Ls.set (by omega)
   have hndr:(rs.map (·.i)).Nodup:=(EU.1 ho.nodup).1;have hsub:∀e∈H,e∈He:=λe he=>hi.perm.mem_iff.2 (by simp[he])
   have hfr:∀k,ρ k (n+r.i)=none:=λk=>by
    apply DA;intro hk;obtain⟨r',h1,h2,h3⟩:=hi.fresh k (n+r.i) (by omega) hk
    have:r'.i=r.i:=by omega
    rw[this]at h2;exact hnL h2
   have hne:∀e∈He,e.g≠n+r.i:=λe he hg=>by
    rcases Bs.1 (hi.perm.mem_iff.1 he)with h|h
    ·obtain⟨r',h1,h2⟩:=List.mem_filterMap.1 h
     unfold Ef at h2;split at h2
     ·rename_i hl
      obtain⟨A',B',hAB'⟩:=El h1
      have:=(hst A' r' B' hAB').2.gen e h2
      have:r'.i=r.i:=by omega
      rw[this]at hl;exact hnL hl.1
     ·cases h2
    ·have:=hgen e h;omega
   have hu:∀j,use r.i=some j->j≠r.i/\¬Ls L j:=λj hj=>by
    obtain⟨q1,-,q2⟩:=ht.late r hr j hj;obtain⟨rj,hrj,rfl⟩:=CL.1 q1;have hjl:rj.i<ops.size:=ho.lt rj.i (by simp;exact .inl ⟨rj,hrj,rfl⟩);refine⟨λe=>hnL ?_,λe=>hnL ?_⟩
    ·rw[e]at q2;exact Fy hL hc q2 hid
    ·exact Fy hL hc q2 λk hk=>hc rj.i ((hLt rj.i hjl).2 e) hjl k hk
   have next:∀v ρ' w' He',Aj C F ρ' He' w'->BW ρ (AL F.X ρ He) w ρ' (AL F.X ρ' He') w'->(∀k g',g'≠n+r.i->ρ' k g'=ρ k g')->AV ρ' (AL F.X ρ' He') w' r.d v->He'.Perm (rs.filterMap (Ef use (L.setIfInBounds r.i true))++H)->wpAny C.P .any ops Q fuel (L.setIfInBounds r.i true) (a.put r.o.dst v) w':=by
    intro v ρ' w' He' pm px pf pr pp;have hi':=hi;rw[hAB]at hi' hndr pp;have hdst:=ho.dst;rw[hAB]at hdst;have hn':=DT.nextG hi' (by omega) hnL hndr hdst (hd r hr) pm px pf pr pp;rw[<-hAB]at hn';refine ih _ _ _ ρ' He' (by simp[hL]) ?_ ?_ (λj hj=>?_) hn'
    ·have:((rs.map (·.i)++suf).filter (λi=>!(L.setIfInBounds r.i true).getD i false)).length<((rs.map (·.i)++suf).filter (λi=>!L.getD i false)).length:=by
      have sub:(rs.map (·.i)++suf).filter (λi=>!(L.setIfInBounds r.i true).getD i false)=((rs.map (·.i)++suf).filter (λi=>!L.getD i false)).filter (λi=>!Nat.beq i r.i):=by
       rw[List.filter_filter];apply List.filter_congr;intro x hx;have h1:=hset x;unfold Ls at h1
       by_cases hxr:x=r.i
       ·subst hxr
        have:(L.setIfInBounds r.i true).getD r.i false=true:=h1.2 (.inl rfl)
        simp[this]
       ·have hb:Nat.beq x r.i=false:=by
         cases hb:Nat.beq x r.i with
         |false=>rfl
         |true=>exact Ah (Bi hb) hxr
        rw[hb]
        by_cases hlx:L.getD x false=true
        ·rw[h1.2 (.inr hlx),hlx];rfl
        ·have:¬(L.setIfInBounds r.i true).getD x false=true:=λh=>hlx ((h1.1 h).resolve_left hxr)
         simp only[Bool.not_eq_true]at this hlx;rw[this,hlx];rfl
      rw[sub];apply List.length_filter_lt_length_iff_exists.2;exact⟨r.i,by rw[List.mem_filter];exact⟨by simp;exact .inl ⟨r,hr,rfl⟩,by unfold Ls at hnL;simpa using hnL⟩,by simp⟩
     omega
    ·intro k hk2 hks x hx
     have hk3:Ls (L.setIfInBounds r.i true) k:=by
      unfold Ls;rw[Ar,CW (by simp;omega)]at hk2⊢;simpa using hk2
     show Ls _ x;rw[hset];rcases(hset k).1 hk3 with rfl|hk3
     ·exact .inr (hid x hx)
     ·exact .inr (hc k ((hLt k hks).2 hk3) hks x hx)
    ·rw[hset]
     rintro(rfl|h)
     ·have hnd:=ho.nodup
      rw[EU]at hnd;exact hnd.2.2 r.i (CL.2 ⟨r,hr,rfl⟩) r.i hj rfl
     ·exact hs j hj h
   unfold wpOp;simp only[hor];rcases hsteady with⟨hc0,hsteady⟩|⟨e,e',hc0,hne',hsteady⟩
   ·have pF:=qU ht hndr hr (by omega) hnL hc0 hu
    have pH:(Cp r.ne He).Perm (rs.filterMap (Ef use (L.setIfInBounds r.i true))++H):=by
     refine List.Perm.trans ?_ (List.Perm.append_right H pF.symm);rw[DO];cases r.ne with
     |none=>exact hi.perm
     |some e=>exact hi.perm.cons e
    rcases hsteady.2 He ρ a w hi.mem hsub hfr hne (hi.look ho hL hc hAB hir)with⟨hw,hn0,hrep⟩|⟨hw,hout⟩
    ·rw[AG (by rw[hw];simp)]
     rw[hn0]at pH;exact next undef ρ w He hi.mem (.refl _ _ _) (λ_ _ _=>rfl) hrep pH
    ·rw[AH hw]
     refine .inl ?_;unfold Oper.wp;rcases hout with⟨v,ρ',w',h1,h2⟩|⟨f,vs,h1,h2⟩
     ·rw[h1];exact next v ρ' w' _ h2.mem h2.ext h2.far h2.rep pH
     ·rw[h1]
      refine h2.mono ?_;rintro e w' ⟨v,rfl,ρ',h3⟩;exact next v ρ' w' _ h3.mem h3.ext h3.far h3.rep pH
   ·obtain⟨r0,hr0,he0,hu0⟩:=ht.made r hr e hc0
    obtain⟨-,-,hreach⟩:=ht.late r0 hr0 _ hu0;have hL0:Ls L r0.i:=Fy hL hc hreach hid;obtain⟨X,p1,p2⟩:=qV ht hndr hr hr0 (by omega) hnL hL0 he0 hu0 hu;have pe:He.Perm (e::(X++H)):=hi.perm.trans (List.Perm.append_right H p1);have hlook:=hi.look ho hL hc hAB hir;have hO:=AL.perm (X:=F.X) (ρ:=ρ) pe;rw[hO]at hlook;obtain⟨hw,hout⟩:=hsteady.2 (X++H) ρ a w (hi.mem.perm pe) (λx hx=>List.mem_append_right _ hx) hfr (λx hx=>hne x (pe.mem_iff.2 hx)) hlook;rw[AH hw];refine .inl ?_;unfold Oper.wp;have fin:∀v ρ' w',X0 C F (X++H) ρ w (n+r.i) r.d e e' v ρ' w'->wpAny C.P .any ops Q fuel (L.setIfInBounds r.i true) (a.put r.o.dst v) w':=λv ρ' w' h=>by
     obtain⟨h2,h3,h4,h5⟩:=h;rw[<-hO]at h3;refine next v ρ' w' _ h2 h3 h4 h5 ?_;rw[hne']at p2;exact(List.Perm.append_right H p2.symm)
    rcases hout with⟨v,ρ',w',h1,h⟩|⟨f,vs,h1,h⟩
    ·rw[h1];exact fin v ρ' w' h
    ·rw[h1]
     refine h.mono ?_;rintro ex w' ⟨v,rfl,ρ',h3⟩;exact fin v ρ' w' h3
theorem e2S {use:Nat->Option Nat}{con:Nat->Option Af}{rs:List CH}{s:St}{Q:Exit->St->Prop}{pre suf:List Nat}{N:Hp}(hc:GD ops pre suf=true)
  (h1:rs.map (·.i)=pre) (ht:OS ops rs con use) (h4:∀A r B,rs=A++r::B->ops[r.i]?=some r.o/\Mg C F ops s.H con (s.n+r.i) (Ey A s.env) r) (h3:(rs.filterMap λr=>if(use r.i).isNone then r.ne else none).Perm N)
  (h:BJ C F ops (suf.map λj=>ops.getD j default) ⟨Ey rs s.env,N++s.H,s.n+ops.size⟩ (Q .normal)) (hd:ops.toList.all (DL F.nt)=true) (ρ:Lk) (a:Act) (w:World) (hs:B9 C F ρ s a w):
  wpAny C.P .any ops (Je C F (Q .normal)) ops.size (Array.replicate ops.size false) a w.drew:=by
 have hor:∀r∈rs,ops[r.i]?=some r.o:=λr hr=>by
  obtain⟨A,B,hAB⟩:=El hr;exact(h4 A r B hAB).1
 have ho:=R9 h1 hor hc;have hds:∀r∈rs,DL F.nt r.o=true:=λr hr=>by
  refine Cc.1 hd r.o ?_
  have:=hor r hr
  exact KM.2 (KK this)
 have hrep:∀j,(Array.replicate ops.size false).getD j false=false:=λj=>by
  rw[Ar];rw[MW];split<;>rfl
 have hnL:∀j,¬Ls (Array.replicate ops.size false) j:=λj hj=>by unfold Ls at hj;rw[hrep]at hj;cases hj
 have hin:DT C F s.H s.n s.env rs use (Array.replicate ops.size false) a w.drew ρ s.H:=by
  refine⟨hs.mem.drew,?_,λr _ hl=>Ah hl (hnL _),λt _=>(hs.env t).mono (.drew _ _ _),λk g hg hk=>Ah (hs.fresh k g hg) hk,hs.nt,hs.dfr⟩
  have:rs.filterMap (Ef use (Array.replicate ops.size false))=[]:=by
   rw[UI];intro r _;exact Vv (hnL _)
  rw[this];exact List.Perm.refl _
 refine nE ho hs.gen hds ht h4 ?_ ops.size _ a w.drew ρ s.H (by simp) ?_ ?_ (λj _=>hnL j) hin
 ·intro L a' w' ρ' He hL hall hi
  have hN:He.Perm (N++s.H):=by
   refine hi.perm.trans (List.Perm.append_right _ ?_);have e:rs.filterMap (Ef use L)=rs.filterMap (λr=>if(use r.i).isNone then r.ne else none):=Ke λr hr=>by
    have h9:=hall r hr;cases hu:use r.i with
    |none=>exact AH ⟨h9,λj hj=>by rw[hu]at hj;cases hj⟩
    |some j=>
     refine AG λk=>?_
     have h8:=k.2 j hu;obtain⟨q1,-,-⟩:=ht.late r hr j hu;obtain⟨rj,hrj,rfl⟩:=CL.1 q1;have h7:=hall rj hrj;unfold Ls at h7;rw[h7]at h8;cases h8
   rw[e];exact h3
  refine h ?_ suf ?_ ρ' a' w' ⟨hi.mem.perm hN,?_,?_,λt=>?_,hi.nt,hi.dfr⟩
  ·rw[Cc]
   intro o' ho';obtain⟨j,hj,rfl⟩:=CL.1 ho';have hlt:=ho.lt j (by simp[hj]);refine Cc.1 hd _ ?_;rw[Ar,CW hlt];simp
  ·rw[List.map_map]
   refine RQ λj hj=>?_
   have hlt:=ho.lt j (by simp[hj]);simp[Ar,CW hlt]
  ·intro k g hg
   apply DA;intro hk;obtain⟨r,hr,_,he⟩:=hi.fresh k g (by simp at hg;omega) hk
   have:=ho.lt r.i (by simp;exact .inl ⟨r,hr,rfl⟩)
   simp at hg;omega
  ·intro e he
   rcases Bs.1 he with he|he
   ·have he:=h3.mem_iff.2 he
    obtain⟨r,hr,hre⟩:=List.mem_filterMap.1 he;obtain⟨A,B,hAB⟩:=El hr;split at hre
    ·have:=(h4 A r B hAB).2.gen e hre
     have:=ho.lt r.i (by simp;exact .inl ⟨r,hr,rfl⟩)
     show e.g<s.n+ops.size;omega
    ·cases hre
   ·have:=hs.gen e he
    show e.g<s.n+ops.size;omega
  ·show AV ρ' (AL F.X ρ' (N++s.H)) w' ((Ey rs s.env).get t) _
   rw[<-AL.perm hN]
   by_cases hw:∃r∈rs,r.o.dst=some t
   ·obtain⟨r,hr,hrd⟩:=hw
    rw[M1 rs s.env t ho.dst r hr hrd];exact hi.reps r hr (hall r hr) t hrd
   ·rw[Jj rs s.env t λr hr hrd=>hw ⟨r,hr,hrd⟩]
    exact hi.old t λr hr _ hrd=>hw ⟨r,hr,hrd⟩
 ·refine BP (List.length_filter_le _ _) ?_
  have hsub:∀(l:List Nat) (n:Nat),l.Nodup->(∀x∈l,x<n)->l.length<=n:=by
   intro l n
   induction n generalizing l with
   |zero=>intro _ h;cases l with
    |nil=>simp
    |cons x l=>exact Ah (h x (by simp)) (by omega)
   |succ n ihn=>
    intro hnd hlt;have h1:=ihn (l.erase n) (hnd.erase n) λx hx=>by
     have:=hlt x (List.mem_of_mem_erase hx)
     have:x≠n:=λh=>by subst h;exact(UK hnd) hx
     omega
    have:=List.length_erase (a:=n) (l:=l)
    split at this<;>omega
  exact hsub _ _ ho.nodup ho.lt
 ·intro k hk
  have:k<ops.size\/¬k<ops.size:=by omega
  rcases this with hlt|hlt
  ·rw[Ar,MW,AH hlt]at hk;cases hk
  ·intro h;exact Ah h hlt
def Qs (C:BH)(F:AZ)(ops:Array Oper)(H:Hp)(con:Nat->Option Af)(n:Nat):List CH->As->Prop
 | [],_=>True
 |r::B,env=>(ops[r.i]?=some r.o/\Mg C F ops H con (n+r.i) env r)/\Qs C F ops H con n B (Bq env r.o.dst r.d)
theorem Qs.at {H:Hp}{con:Nat->Option Af}{n:Nat}:∀ {rs:List CH} {env:As},Qs C F ops H con n rs env->∀A r B,rs=A++r::B->ops[r.i]?=some r.o/\Mg C F ops H con (n+r.i) (Ey A env) r
 | [],_,_,A,r,B,he=>by cases A<;>simp at he
 |x::rs,env,h,[],r,B,he=>by
  rw[E7]at he;cases he;exact h.1
 |x::rs,env,h,y::A,r,B,he=>by
  rw[Gr]at he;cases he;exact Qs.at h.2 A r B rfl
def Nd (ops:Array Oper)(l:List (Nat×D×Option Af)):List CH:=l.map λp=>⟨p.1,ops.getD p.1 default,p.2.1,p.2.2⟩
theorem bw {l:List Nat}{i j:Nat}(h:Co j (DV (Hg ops l []) i)=true):DU ops i j:=N8 (N5 _ _ (by simp)) i j (FB.1 h)
variable {X:EV} {s:St} {rd:Option Nat} {B:AZ} {Q:Exit->AZ->St->Prop}
theorem e3q {i:Nat}(hX:Di C X)(kb:Nat)(pre suf:List Nat){use:Nat->Option Nat}{con:Nat->Option Af}{rs:List CH}{N:Hp}(hc:(GD ops pre suf&&EL ops.toList)=true)(h1:rs.map (·.i)=pre)(ht:OS ops rs con use)
  (h4:∀A r B,rs=A++r::B->ops[r.i]?=some r.o/\Mg C F ops s.H con (s.n+r.i) (Ey A s.env) r) (h3:(rs.filterMap λr=>if(use r.i).isNone then r.ne else none).Perm N)
  (h:C7 C X kb ops suf ⟨Ey rs s.env,N++s.H,s.n+Es ops.toList⟩ True λacc s=>acc/\Q .normal F s):AC C B rd F (.region i ops true) s Q:=by
 have hsz:ops.size=Es ops.toList:=by rw[ON,JT]
 rw[<-hsz]at h;simp only[BM]at hc;have h5:=(FQ (F:=F) (K':=Q .normal F) hX (λacc s h=>h) h).2;exact⟨λhB hd ρ a w hs=>wpIn_region_any hX.mixed (Kb (λ_ _ _ h=>LX (F:=F) hB (λ_ h=>h) h) (Ib hc.2) _ _ _ _ (e2S (Q:=λe s=>Q e F s) hc.1 h1 ht h4 h3 h5 (Jq hB hd) ρ a w hs))⟩
end
def AZ.subZ (ρ:Lk)(H:Hp)(w:World)(nt:Nat)(X' Z:Nat->Prop)(df:List Deferred):AZ:=⟨w,X',λb=>(∃e∈H,ρ e.k e.g=some b)\/Z b,nt,ρ,df⟩
section
variable {C:BH} {F:AZ} {ρ:Lk} {H:Hp} {w w1:World} {X' Z:Nat->Prop}
theorem Aj.enterZ (m:Aj C F ρ H w)(x:BW ρ (AL F.X ρ H) w ρ (AL X' ρ H) w1)(h1:w1.os=w.os)(h2:w1.tape=w.tape)(h3:w1.output=w.output)
  (h4:∀b,b<w.heap.size->¬Z b->w1.heap[b]?=w.heap[b]?) (hZo:∀e∈H,∀b,ρ e.k e.g=some b->¬Z b) (hX:∀b,X' b->b<w1.heap.size) (hXo:∀e∈H,∀b,ρ e.k e.g=some b->¬X' b) (hZ:∀b,Z b->C.nG<=b) (nt:Nat) (df:List Deferred):
  Aj C (AZ.subZ ρ H w1 nt X' Z df) ρ H w1 where
 hok:=⟨λe he=>by
  rcases m.hok.ent e he with h|⟨b,cs,a1,a2,a3⟩
  ·exact .inl h
  ·exact .inr ⟨b,cs,a1,by rw[h4 b (m.lt he a1) (hZo e he b a1)];exact a2,a3.mono x⟩,m.hok.inj,λe he b hb=>⟨hXo e he b hb,.inr (.inl ⟨e,he,hb⟩)⟩⟩
 os:=rfl
 tape:=rfl
 output:=rfl
 size:=Am _
 blk:=λ_ _ _=>rfl
 xlt:=hX
 g0:=C.hG _ _ m.g ⟨h1,h2,h3,x.size,λb hb=>h4 b (Cb hb (BP m.gn m.size)) λhz=>Ah (hZ b hz) (by omega)⟩
 gn:=BP m.gn (BP m.size x.size)
 gw:=λb h=>by
  rcases h with⟨e,he,hb⟩|h
  ·rcases(m.hok.own e he b hb).2 with h|h
   ·exact BP m.gn h
   ·exact m.gw b h
  ·exact hZ b h
 lnk:=λ_ _ _ h=>h
 shp:=λ_ cs _ _ h=>⟨cs,_,h,rfl⟩
theorem Aj.leaveZ {nt:Nat}{df:List Deferred}{ρ':Lk}{H':Hp}{w':World}(m:Aj C F ρ H w1)(hX:∀b,F.X b->X' b)(hZ:∀b,Z b->F.w0.heap.size<=b\/F.Wr b)(m':Aj C (AZ.subZ ρ H w1 nt X' Z df) ρ' H' w'):
  Aj C F ρ' H' w'/\BW ρ (λb=>AL F.X ρ H b\/Z b) w1 ρ' (AL F.X ρ' H') w':=by
 have hwr:∀b,(∃e∈H,ρ e.k e.g=some b)->¬F.X b/\(F.w0.heap.size<=b\/F.Wr b):=λb ⟨e,he,hb⟩=>m.hok.own e he b hb
 have x:BW ρ (λb=>AL F.X ρ H b\/Z b) w1 ρ' (AL F.X ρ' H') w':=by
  refine⟨m'.size,m'.lnk,λb hb hO=>⟨?_,m'.blk b hb λh=>?_⟩,m'.shp⟩
  ·rintro(h|⟨e,he,h⟩)
   ·exact hO (.inl (.inl h))
   ·rcases(m'.hok.own e he b h).2 with h'|h'|h'
    ·exact Ah hb (Nat.not_lt.2 h')
    ·exact hO (.inl (.inr h'))
    ·exact hO (.inr h')
  ·rcases h with h|h
   ·exact hO (.inl (.inr h))
   ·exact hO (.inr h)
 refine⟨⟨⟨λe he=>?_,m'.hok.inj,λe he b hb=>?_⟩,m'.os.trans m.os,m'.tape.trans m.tape,m'.output.trans m.output,BP m.size m'.size,λb hb hw=>?_,m.xlt,m.g0,m.gn,m.gw,
  λ_ _ _ h=>m'.lnk _ _ _ (m.lnk _ _ _ h),Ic m.shp x⟩,x⟩
 ·rcases m'.hok.ent e he with h|⟨b,cs,a1,a2,a3⟩
  ·exact .inl h
  ·exact .inr ⟨b,cs,a1,a2,a3.anti λb hb=>hb.imp (hX b) id⟩
 ·have h:=m'.hok.own e he b hb
  refine⟨λhx=>h.1 (hX b hx),?_⟩;rcases h.2 with h'|h'|h'
  ·exact .inl (BP m.size h')
  ·exact(hwr b h').2
  ·exact hZ b h'
 ·have h1:=m'.blk b (Cb hb m.size) λh=>by
   rcases h with h|h
   ·rcases(hwr b h).2 with h'|h'
    ·omega
    ·exact hw h'
   ·rcases hZ b h with h'|h'
    ·omega
    ·exact hw h'
  exact h1.trans (m.blk b hb hw)
theorem C1.subZ (m:Aj C F ρ H w1)(hX:∀b,F.X b->X' b)(hZ:∀b,Z b->F.w0.heap.size<=b\/F.Wr b)(rs:List Nat)(hn:rs.Nodup)
  (hr:∀r∈rs,F.w0.heap.size<=r/\r<w1.heap.size/\X' r/\(¬Z r/\∀e∈H,ρ e.k e.g≠some r)/\w1.heap[r]?=some (.deferred (some []))):
  C1 C F (AZ.subZ ρ H w1 F.nt X' Z (rs.map (λr=>{ target:=.collected r,args:=#[] })++F.df)):=
 ⟨rfl,m.size,λh=>(m.leaveZ hX hZ h).1,hX,_,rfl,rs,rfl,hn,λr hr'=>by
  obtain⟨a1,a2,a3,⟨a4,a5⟩,a6⟩:=hr r hr';refine⟨a1,a2,a3,λρ' H' w' m'=>?_⟩;have hb:=m'.blk r a2 λh=>by
   rcases h with⟨e,he,h⟩|h
   ·exact a5 e he h
   ·exact a4 h
  exact hb.trans a6⟩
def GE (w:World):List Nat->World
 | []=>w
 |r::rs=>GE (w.putObj r (.deferred none)) rs
theorem Pj:∀(rs:List Nat) (w:World),(GE w rs).heap.size=w.heap.size
 | [],_=>rfl
 |r::rs,w=>by rw[GE,Pj rs];simp[World.putObj]
theorem Mo:∀(rs:List Nat) (w:World) (b:Nat),b∉rs->(GE w rs).heap[b]?=w.heap[b]?
 | [],_,_,_=>rfl
 |r::rs,w,b,h=>by
  rw[GE,Mo rs _ b (λhb=>h (by simp[hb])),World.putObj_heap_other (λhb=>h (by simp[hb]))]
theorem aV:∀(rs:List Nat) (w:World),(GE w rs).os=w.os/\(GE w rs).tape=w.tape/\(GE w rs).output=w.output
 | [],_=>⟨rfl,rfl,rfl⟩
 |r::rs,w=>by rw[GE];exact aV rs _
theorem Yv {P:Program}{fn:Func}{tmps:Array Value}{R:Ending->World->Prop}:∀(rs:List Nat) (w:World),rs.Nodup->(∀r∈rs,w.heap[r]?=some (.deferred (some []))) ->
  (∃v,(results fn tmps).run P (GE w rs)=.ok v (GE w rs)/\R (.returned v) (GE w rs))->LeavesInM (fw none) 0 P fn tmps R (rs.map (λr=>{ target:=.collected r,args:=#[] })) .returning w
 | [],w,_,_,h=>h
 |r::rs,w,hn,hr,h=>by
  obtain⟨n1,n2⟩:=List.nodup_cons.1 hn;refine⟨by simp,.inl ⟨r,_,rfl,run_takeDeferred (hr r (by simp)),Yv rs _ n2 (λq hq=>?_) h⟩⟩;rw[World.putObj_heap_other (λhb=>by subst hb;exact n1 hq)];exact hr q (by simp[hq])
theorem C1.finish {fn:Func}{s:St}{a:Act}{tt:Nat->Option Ai}{d:D}{p:Prop}{F':AZ}(htt:CY C.P tt)(hF:C1 C F F')(hd0:F.df=[])(hs:B9 C F' ρ s a w)(h:Hl tt s fn.results.toList=some (d,p))(hp:p):
  ∃v w',LeavesIn (fw none) 0 C.P fn a.tmps (λe w2=>e=.returned v/\w2=w') [] .returning w' /\
   (∀R:Ending->World->Prop,R (.returned v) w'->LeavesInM (fw none) 0 C.P fn a.tmps R a.defers .returning w) /\
   Aj C F ρ s.H w'/\AV ρ (AL F'.X ρ s.H) w' d v/\(∀b,F.X b->F'.X b)/\BW ρ (AL F'.X ρ s.H) w ρ (AL F'.X ρ s.H) w' /\
   (∀b,b<F.w0.heap.size->w'.heap[b]?=w.heap[b]?)/\w'.heap.size=w.heap.size/\∃F2,Aj C F2 ρ s.H w'/\F2.X=F'.X:=by
 obtain⟨ms,e1,rs,e2,hn,hr⟩:=hF.df;rw[hd0,Dh]at e1;have hdf:a.defers=rs.map (λr=>{ target:=.collected r,args:=#[] }):=by rw[hs.dfr,e1,e2]
 have mF:=hF.mem hs.mem;have hZ:∀b,b∈rs->F.w0.heap.size<=b\/F.Wr b:=λb hb=>.inl (hr b hb).1
 have hXr:∀b,b∈rs->F'.X b:=λb hb=>(hr b hb).2.2.1
 have hdr:∀r∈rs,w.heap[r]?=some (.deferred (some [])):=λr h=>(hr r h).2.2.2 _ _ _ hs.mem
 have hno:∀e∈s.H,∀b,ρ e.k e.g=some b->b∉rs:=λe he b hb hb'=>(hs.mem.hok.own e he b hb).1 (hXr b hb')
 have x:BW ρ (AL F'.X ρ s.H) w ρ (AL F'.X ρ s.H) (GE w rs):=by
  refine⟨by rw[Pj];exact Am _,λ_ _ _ h=>h,λb hb hO=>⟨hO,Mo _ _ _ λh=>hO (.inl (hXr b h))⟩,λb cs T fz h=>⟨cs,fz,?_,rfl⟩⟩;rw[Mo _ _ _ λhb=>by rw[hdr b hb]at h;cases h];exact h
 obtain⟨o1,o2,o3⟩:=aV rs w;have m2:=hs.mem.enterZ (Z:=λb=>b∈rs) (X':=F'.X) x o1 o2 o3 (λb _ hb=>Mo _ _ _ hb) hno (λb hb=>by rw[Pj];exact Cb (hs.mem.xlt b hb) hs.mem.size)
  (λe he b hb=>(hs.mem.hok.own e he b hb).1) (λb hb=>BP mF.gn (hr b hb).1) F'.nt F'.df
 have hs2:B9 C (AZ.subZ ρ s.H (GE w rs) F'.nt F'.X (λb=>b∈rs) F'.df) ρ s a (GE w rs):=⟨m2,hs.fresh,hs.gen,λt=>(hs.env t).mono x,hs.nt,hs.dfr⟩
 obtain⟨v,r1,r2⟩:=WE htt hs2 h hp;have mF2:Aj C F ρ s.H (GE w rs):=by
  have mw:Aj C (AZ.subZ ρ s.H w F'.nt F'.X (λb=>b∈rs) F'.df) ρ s.H w:=hs.mem.enterZ (.refl _ _ _) rfl rfl rfl (λ_ _ _=>rfl) hno (λb hb=>Cb (hs.mem.xlt b hb) hs.mem.size) (λe he b hb=>(hs.mem.hok.own e he b hb).1)
   (λb hb=>BP mF.gn (hr b hb).1) _ _
  refine(mF.leaveZ hF.X hZ (nt:=F'.nt) (df:=F'.df) (ρ':=ρ) (H':=s.H) (w':=GE w rs) ⟨⟨λe he=>?_,mw.hok.inj,mw.hok.own⟩,o1,o2,o3,by rw[Pj];exact Am _,λb hb hw=>Mo _ _ _ λh=>hw (.inr h),mw.xlt,mw.g0,mw.gn,mw.gw,λ_ _ _ h=>h,Ic mw.shp x⟩).1;rcases mw.hok.ent e he with h|⟨b,cs,a1,a2,a3⟩
  ·exact .inl h
  ·exact .inr ⟨b,cs,a1,by rw[Mo _ _ _ (hno e he b a1)];exact a2,a3.mono x⟩
 refine⟨v,GE w rs,⟨v,r1,rfl,rfl⟩,λR hR=>?_,mF2,r2,hF.X,x,λb hb=>Mo _ _ _ λh=>?_,Pj _ _,_,m2,rfl⟩
 ·rw[hdf];exact Yv rs w hn hdr ⟨v,r1,hR⟩
 ·have:=(hr b h).1;omega
end
section
variable {C:BH} {X:EV}
def KA (tt:Nat->Option Ai)(s:St)(rs:List ResultVar)(k:D->Prop):Prop:=match Hl tt s rs with
 |some (d,p)=>p/\k d
 |none=>False
def TY (tt:Nat->Option Ai)(rs:List ResultVar)(Φ:D->Prop)(e:Exit)(_:AZ)(s:St):Prop:=match e with
 | .normal | .ret=>KA tt s rs λd0=>∃d,Fz s.H [] d0 d/\CI d/\Φ d
 |_=>False
def v8 (tt:Nat->Option Ai)(rs:List ResultVar)(Φ:D->Hp->Nat->Prop)(e:Exit)(_:AZ)(s:St):Prop:=match e with
 | .normal | .ret=>KA tt s rs λd=>Φ d s.H s.n
 |_=>False
theorem SL {tt:Nat->Option Ai}{s:St}{rs:List ResultVar}{k:D->Prop}(h:KA tt s rs k):∃d p,Hl tt s rs=some (d,p)/\p/\k d:=by
 unfold KA at h;split at h
 ·rename_i d p he;exact⟨d,p,he,h.1,h.2⟩
 ·exact h.elim
theorem Ac.walk {f:Nat}{i:FI}{args:List D}{Φ:D->Prop}(hX:Di C X)(hf:KS C.P f i)(hnt:Nat.ble args.length i.nt=true)
  (h:∀F:AZ,AC C F none F i.code ⟨Dd 0 args,[],0⟩ (TY X.tt i.res Φ)):Ac C f args Φ:=by
 obtain⟨fn,hf,hb,hn,hd,hni,hres⟩:=hf;rw[<-hni]at hnt;refine⟨⟨fn,i.code,hf,hb,hn⟩,λY w vs hG hnG hX' hvs hr=>?_⟩;have hnt:=Cf hnt;refine(LW (rd:=none) (n:=0)).1 (callsIn_of_wp_marks hf hb AB ?_);have hown:∀b,AL Y nol [] b↔Y b:=by simp[AL]
 have hoe:AL Y nol []=Y:=funext λb=>propext (hown b)
 let F0:AZ:=⟨w,Y,λ_=>False,fn.ntmps,nol,[]⟩
 have sat:B9 C F0 nol ⟨Dd 0 args,[],0⟩ { tmps:=vs++Array.replicate (fn.ntmps-vs.size) undef,defers:=[] } w:=by
  refine⟨⟨⟨by simp,.nil,by simp⟩,rfl,rfl,rfl,Am _,λ_ _ _=>rfl,hX',hG,hnG,by simp[F0],λ_ _ _ h=>h,λ_ cs _ _ h=>⟨cs,_,h,rfl⟩⟩,λ_ _ _=>rfl,by simp,λt=>?_,by simp[F0];omega,rfl⟩;show AV nol (AL Y nol []) w _ _;rw[hoe];exact P4 hvs hr t
 refine wpIn_mono ((h F0).out (.refl F0) hd nol _ w sat) ?_;rintro e a' w' ⟨F',s',ρ',hF,hq,hs'⟩;have key:KA X.tt s' i.res (λd0=>∃d,Fz s'.H [] d0 d/\CI d/\Φ d)->LeavesInM (fw none) 0 C.P fn a'.tmps (λe w'=>∃v d,e=.returned v/\Below w.heap.size w w'/\Φ d/\AV nol Y w' d v) a'.defers .returning w':=λhq=>by
  obtain⟨d0,p,h1,h2,d,h3,h4,h5⟩:=SL hq;rw[<-hres]at h1;obtain⟨v,w2,_,hl,mF,r2,hXX,x,hbl,hsz,F2,m2,hX2⟩:=hF.finish hX.tt rfl hs' h1 h2;refine hl _ ⟨v,d,rfl,⟨mF.os,mF.tape,mF.output,mF.size,λb hb=>mF.blk b hb (by simp[F0])⟩,h5,?_⟩;have hH:C2 s'.H [] s'.H []:=by
   generalize s'.H=H0
   have:∀H1:Hp,C2 H0 [] H1 []:=λH1=>by
    induction H1 with
    |nil=>exact .nil
    |cons e r ih=>exact .drop ih
   exact this H0
  obtain⟨m,hO,hN⟩:=hH.mem m2;have r3:=h3.rep m2 hO hN (by rw[hX2];exact r2);have r4:=h4 _ nol _ _ _ r3;exact r4.anti λb hb=>.inl (by rw[hX2];exact hXX b hb)
 cases e with
 |normal=>exact key hq
 |ret=>exact key hq
 |_=>exact hq.elim
theorem C4.walk {f:Nat}{i:FI}{args:List D}{H:Hp}{n:Nat}{Φ:D->Hp->Nat->Prop}(hX:Di C X)(hf:KS C.P f i)(hnt:Nat.ble args.length i.nt=true)
  (h:∀F:AZ,AC C F none F i.code ⟨Dd 0 args,H,n⟩ (v8 X.tt i.res Φ)):C4 C f args H n Φ:=by
 obtain⟨fn,hf,hb,hn,hd,hni,hres⟩:=hf;rw[<-hni]at hnt;refine⟨⟨fn,i.code,hf,hb,hn⟩,λF ρ w vs m hfr hg hvs hr=>?_⟩;have hnt:=Cf hnt;refine(LW (rd:=none) (n:=0)).1 (callsIn_of_wp_marks hf hb AB ?_);have sat:B9 C (F.sub ρ H w fn.ntmps) ρ ⟨Dd 0 args,H,n⟩ { tmps:=vs++Array.replicate (fn.ntmps-vs.size) undef,defers:=[] } w:=
  ⟨m.enter _,hfr,hg,P4 hvs hr,by simp[AZ.sub];omega,rfl⟩
 refine wpIn_mono ((h (F.sub ρ H w fn.ntmps)).out (.refl _) hd ρ _ w sat) ?_;rintro e a' w' ⟨F',s',ρ',hF,hq,hs'⟩;have key:KA X.tt s' i.res (λd=>Φ d s'.H s'.n)->LeavesInM (fw none) 0 C.P fn a'.tmps (λe w'=>∃v d H' n' ρ',e=.returned v/\Φ d H' n'/\Aj C F ρ' H' w'/\BW ρ (AL F.X ρ H) w ρ' (AL F.X ρ' H') w'/\Jz ρ' n'/\(∀e∈H',e.g<n') /\
   AV ρ' (AL F.X ρ' H') w' d v) a'.defers .returning w':=λhq=>by
  obtain⟨d,p,h1,h2,h3⟩:=SL hq;rw[<-hres]at h1;obtain⟨v,w2,_,hl,mF,r2,hXX,x,hbl,hsz,F2,m2,hX2⟩:=hF.finish hX.tt rfl hs' h1 h2;obtain⟨m',x'⟩:=m.leave mF;exact hl _ ⟨v,d,_,_,ρ',rfl,h3,m',x',hs'.fresh,hs'.gen,r2.anti λb hb=>hb.imp (hXX b) id⟩
 cases e with
 |normal=>exact key hq
 |ret=>exact key hq
 |_=>exact hq.elim
variable {B F:AZ} {s:St} {rd:Option Nat} {Q:Exit->AZ->St->Prop}
theorem Fp {a b:Code}(s':St)(h1:AC C B rd F a s (λe F1 s1=>J8 (F1=F/\Wk s1 s') (λe=>Q e F1 s1) e))(h2:AC C B rd F b s' Q):AC C B rd F (.seq a b) s Q:=
 AC.seq (h1.mono λe F1 s1 h=>by
  cases e with
  |normal=>
   obtain⟨h0,h3⟩:=(show F1=F/\Wk s1 s' from h)
   rw[h0];exact AC.weak s' h3 h2
  |ret=>exact h
  |exit j=>exact h
  |goto l=>exact h
  |panic c=>exact h
  |outgrown=>exact h)
theorem d9O {H Hf:Hp}{d d':D}(h:d=d'):Fz H Hf d d':=h ▸ .refl d
end
structure LR where
 fn:Nat
 tmps:Array Value
 ps:Array Nat
 as:Code
 bd:Code
 dfs:Nat
def LR.lp (R:LR)(st:LoopState)(j:Option Code):Loop:={ state:=st,pending:=j,fn:=R.fn,tmps:=R.tmps,params:=R.ps,assign:=R.as,body:=R.bd,defers:=R.dfs }
def LR.obj (R:LR)(j:Option Code):Obj:=.loop (R.lp (if j.isNone then .ready else .done) j)
def AZ.wr (F:AZ)(l:Nat):AZ:=⟨F.w0,F.X,λb=>F.Wr b\/b=l,F.nt,F.r0,F.df⟩
section
variable {C:BH} {F B:AZ} {ρ:Lk} {H:Hp} {w:World} {l:Nat} {R:LR}
theorem Aj.wr (m:Aj C F ρ H w)(hl:C.nG<=l):Aj C (F.wr l) ρ H w:=
 ⟨⟨m.hok.ent,m.hok.inj,λe he b hb=>⟨(m.hok.own e he b hb).1,(m.hok.own e he b hb).2.imp id .inl⟩⟩,m.os,m.tape,m.output,m.size,λb hb h=>m.blk b hb λh'=>h (.inl h'),m.xlt,m.g0,m.gn,λb h=>by
  rcases h with h|rfl
  ·exact m.gw b h
  ·exact hl,m.lnk,m.shp⟩
theorem Aj.unwr (m:Aj C (F.wr l) ρ H w)(hX:F.X l)(hb:w.heap[l]?=F.w0.heap[l]?):Aj C F ρ H w:=
 ⟨⟨m.hok.ent,m.hok.inj,λe he b hb=>⟨(m.hok.own e he b hb).1,by
  rcases(m.hok.own e he b hb).2 with h|h|h
  ·exact .inl h
  ·exact .inr h
  ·exact Ah (h ▸ hX) (m.hok.own e he b hb).1⟩⟩,m.os,m.tape,m.output,m.size,λb hb' h=>by
   by_cases hl:b=l
   ·subst hl;exact hb
   ·exact m.blk b hb' λh'=>h'.elim h hl,m.xlt,m.g0,m.gn,λb h=>m.gw b (.inl h),m.lnk,m.shp⟩
theorem KT (w:World)(l:Nat)(o:Obj):(w.putObj l o).os=w.os/\(w.putObj l o).tape=w.tape/\(w.putObj l o).output=w.output/\(w.putObj l o).heap.size=w.heap.size:=⟨rfl,rfl,rfl,by simp[World.putObj]⟩
theorem BW.putL {O:Nat->Prop}(hO:O l){r:Loop}(h:w.heap[l]?=some (.loop r))(o:Obj):BW ρ O w ρ O (w.putObj l o):=
 ⟨by rw[(KT w l o).2.2.2];exact Am _,λ_ _ _ h=>h,λb hb hb'=>⟨hb',World.putObj_heap_other λhbl=>hb' (by rw[hbl];exact hO)⟩,λb cs T fz hc=>⟨cs,_,by
  rw[World.putObj_heap_other λhbl=>by rw[hbl,h]at hc;cases hc];exact hc,rfl⟩⟩
theorem Aj.putL (m:Aj C F ρ H w)(hX:F.X l)(hW:F.Wr l){r:Loop}(h:w.heap[l]?=some (.loop r))(o:Obj):Aj C F ρ H (w.putObj l o):=by
 have x:=BW.putL (ρ:=ρ) (O:=AL F.X ρ H) (.inl hX) h o;exact⟨⟨λe he=>by
  rcases m.hok.ent e he with h|⟨b,cs,a1,a2,a3⟩
  ·exact .inl h
  ·exact .inr ⟨b,cs,a1,by rw[World.putObj_heap_other λhb=>(m.hok.own e he b a1).1 (by rw[hb];exact hX)];exact a2,a3.mono x⟩,m.hok.inj,m.hok.own⟩,
  m.os,m.tape,m.output,by rw[(KT w l o).2.2.2];exact m.size,λb hb hw=>by rw[World.putObj_heap_other λhbl=>hw (by rw[hbl];exact hW)];exact m.blk b hb hw,m.xlt,m.g0,m.gn,m.gw,m.lnk,Ic m.shp x⟩
def S9 (C:BH)(F:AZ)(l:Nat)(R:LR)(ρ:Lk)(H:Hp)(w:World)(Φ:Option Code->D->Hp->Nat->Prop):Ending->World->Prop:=λe w'=>
 ∃v j d H' n' ρ',e=.returned v/\Φ j d H' n'/\w'.heap[l]?=some (R.obj j)/\Aj C (F.wr l) ρ' H' w'/\BW ρ (AL F.X ρ H) w ρ' (AL F.X ρ' H') w'/\Jz ρ' n'/\(∀e∈H',e.g<n')/\AV ρ' (AL F.X ρ' H') w' d v
abbrev FT:=Lk->(Nat->Prop)->World->Prop
def FT.ok (E:FT):Prop:=∀ρ O w ρ' O' w',E ρ O w->BW ρ O w ρ' O' w'->E ρ' O' w'
def NC (C:BH)(E:FT)(f:Nat)(args:List D)(l:Nat)(R:LR)(H:Hp)(n:Nat)(Φ:Option Code->D->Hp->Nat->Prop):Prop:=
 LV C.P f/\∀(F:AZ) (ρ:Lk) (w:World) (vs:Array Value),Aj C F ρ H w->F.X l->C.nG<=l->E ρ (AL F.X ρ H) w->w.heap[l]?=some (R.obj none)->Jz ρ n->(∀e∈H,e.g<n)->vs.size=args.length ->
  (∀(i:Nat) (d:D),args[i]?=some d->AV ρ (AL F.X ρ H) w d (vs.getD i undef))->Calls C.P f vs w (S9 C F l R ρ H w Φ)
def QO (C:BH)(E:FT)(l:Nat)(R:LR)(ds:List D)(H:Hp)(n:Nat)(Φ:Option Code->Hp->Nat->Prop):Prop:=
 ∀(F:AZ) (ρ:Lk) (w:World) (vs:Array Value),Aj C F ρ H w->F.X l->C.nG<=l->E ρ (AL F.X ρ H) w->w.heap[l]?=some (R.obj none)->Jz ρ n->(∀e∈H,e.g<n)->vs.size=ds.length ->
  (∀(i:Nat) (d:D),ds[i]?=some d->AV ρ (AL F.X ρ H) w d (vs.getD i undef))->vs.size=R.ps.size /\
  RoundIn (fw none) 0 C.P l R.fn ((R.ps.zip vs).foldl (λtmps (t,a)=>tmps.setIfInBounds t a) R.tmps) R.as R.bd w (S9 C F l R ρ H w λj d H' n'=>d=Av j.isNone/\Φ j H' n')
structure J4 (C:BH)(E:FT)(B F:AZ)(l:Nat)(R:LR):Prop where
 X:F.X l
 nw:¬F.Wr l
 at0:F.w0.heap[l]?=some (R.obj none)
 up:∀ {ρ:Lk} {H:Hp} {w:World},Aj C (F.wr l) ρ H w->Aj C B ρ H w
 ng:C.nG<=l
 df:F.df=B.df
 ext:∀ {ρ:Lk} {H:Hp} {w:World},Aj C F ρ H w->E ρ (AL F.X ρ H) w
def Qw (C:BH)(l:Nat)(R:LR)(j:Option Code)(F:AZ):Prop:=∀ {ρ:Lk} {H:Hp} {w:World},Aj C F ρ H w->w.heap[l]?=some (R.obj j)
theorem J4.stat {E:FT}(h:J4 C E B F l R):Qw C l R none F:=λm=>(m.blk l (m.xlt l h.X) h.nw).trans h.at0
theorem B9.reframe {F':AZ}{s:St}{a:Act}(h:B9 C F ρ s a w)(m:Aj C F' ρ s.H w)(hX:F'.X=F.X)(hn:F'.nt=F.nt)(hd:F'.df=F.df):B9 C F' ρ s a w:=
 ⟨m,h.fresh,h.gen,λt=>by rw[hX];exact h.env t,h.nt.trans hn.symm,h.dfr.trans hd.symm⟩
theorem q8 {s:St}{o:Oper}{fop:Operand}{args:Array Operand}{tys:Array Nat}{a:Act}(ho:o.op=.call ⟨.value fop,args,tys⟩)(hf:BE s.env fop=.clo (.yield l) [] [])(hs:B9 C F ρ s a w):
  ∃vs,(execOp a.eval o).run C.P w=(Instr.yield l vs).run C.P w/\vs.size=(args.toList.map (BE s.env)).length /\
   ∀(i:Nat) (d:D),(args.toList.map (BE s.env))[i]?=some d->AV ρ (AL F.X ρ s.H) w d (vs.getD i undef):=by
 have hfr:=Dc hs.env fop;rw[hf]at hfr;generalize hv:a.eval fop=v at hfr;cases hfr with
 |clo hn hc h1 h2=>
  rename_i fs cs;have hfs:fs = #[]:=Array.eq_empty_of_size_eq_zero (by simpa using hn);subst hfs;refine⟨args.map a.eval,?_,by simp,λi d hd=>?_⟩
  ·unfold execOp
   simp only[ho];rw[run_bind]
   have:(resolve a.eval ⟨.value fop,args,tys⟩ o.type).run C.P w=.ok { target:=.fn (.yield l) cs,args:=#[]++args.map a.eval } w:=by
    unfold resolve;simp only[hv];rfl
   rw[this];dsimp only;unfold invoke;simp
  ·simp only[BT,MT,Gc]at hd
   obtain⟨x,hx,rfl⟩:=hd
   have:(args.map a.eval).getD i undef=a.eval x:=by simp[Ar,hx]
   rw[this];exact Dc hs.env x
variable {X:EV} {ops:Array Oper} {s:St} {E:FT} {Q:Exit->AZ->St->Prop}
def NI (C:BH)(X:EV)(E:FT)(F:AZ)(l:Nat)(R:LR)(kb:Nat)(ops:Array Oper)(iy:Nat)(l2:List Nat)(Q:Exit->AZ->St->Prop)(s:St):Prop:=match Dz ops.toList iy with
 |some o=>match o.guard with
  |none=>match o.op with
   | .call ⟨.value fop,args,_⟩=>BE s.env fop=.clo (.yield l) [] []/\∃Φ,QO C E l R (args.toList.map (BE s.env)) s.H s.n Φ /\
     (∀H' n',Φ none H' n'->C7 C X kb ops l2 ⟨Bq s.env o.dst (Av true),H',n'⟩ True λacc s=>acc/\Q .normal F s) /\
     (∀c H' n',Φ (some c) H' n'->∀F2:AZ,Qw C l R (some c) F2->C7 C X kb ops l2 ⟨Bq s.env o.dst (Av false),H',n'⟩ True λacc s=>acc/\Q .normal F2 s)
   |_=>False
  |some _=>False
 |none=>False
theorem ZV (hX:Di C X){kb iy:Nat}{l2:List Nat}{a:Act}(hR:J4 C E B F l R)(hB:C1 C B F)(hnd:EL ops.toList=true)(hlt:∀j∈l2,j<ops.size)(hd:ops.toList.all (DL B.nt)=true)
  (h:NI C X E F l R kb ops iy l2 Q s) (hs:B9 C F ρ s a w):wpOpsIn (fw none) 0 C.P ops (GB C B Q) (iy::l2) a w:=by
 unfold NI at h;split at h<;>first|exact h.elim|skip
 rename_i o ho;split at h<;>first|exact h.elim|skip
 rename_i hgd;split at h<;>first|exact h.elim|skip
 rename_i fop args tys hop;obtain⟨hf,Φ,hY,h1,h2⟩:=h;have ho:=Mr ho;have hdo:DL B.nt o=true:=Cc.1 hd o (KM.2 (KK ho));simp only[wpOpsIn,ho];rw[AH (by unfold Region.wanted;rw[hgd])];obtain⟨vs,r1,r2,r3⟩:=q8 hop hf hs;have hst:=hR.stat hs.mem;obtain⟨q1,q2⟩:=hY F ρ w vs hs.mem hR.X hR.ng (hR.ext hs.mem) hst hs.fresh hs.gen r2 r3;have hrun:(execOp a.eval o).run C.P w=.ok (.round l R.fn ((R.ps.zip vs).foldl (λtmps (t,a)=>tmps.setIfInBounds t a) R.tmps) R.as R.bd) w:=by
  rw[r1,run_yield (r:=R.lp .ready none) hst q1];rfl
 refine om hrun (q2.mono ?_);rintro e w' ⟨v,j,d,H',n',ρ',rfl,⟨rfl,hΦ⟩,hl,m',x,fr,gn,rep⟩;refine⟨v,rfl,?_⟩;have hsw:B9 C (F.wr l) ρ s a w:=hs.reframe (hs.mem.wr hR.ng) rfl rfl rfl;have hs1:B9 C (F.wr l) ρ' ⟨Bq s.env o.dst (Av j.isNone),H',n'⟩ (a.put o.dst v) w':=hsw.put m' x fr gn rep (by rw[show(F.wr l).nt=B.nt from hB.nt];exact hdo);cases j with
 |none=>
  have hs2:B9 C F ρ' ⟨Bq s.env o.dst (Av true),H',n'⟩ (a.put o.dst v) w':=hs1.reframe (m'.unwr hR.X (by rw[hl,hR.at0])) rfl rfl rfl;have h3:=(FQ (F:=F) (K':=Q .normal F) hX (λacc s h=>h) (h1 _ _ hΦ)).2.run hlt (by rw[hB.nt];exact hd) hs2
  have:=GP (rd:=none) (Q:=GB C B Q) (l2:=[]) (λ_ _ _ h=>LX hB (λ_ h=>h) h) (Ib hnd) _ _ _ h3
  rwa [Dh]at this
 |some c=>
  let F2:=AZ.subZ ρ' H' w' F.nt F.X (λ_=>False) F.df
  have m2:Aj C F2 ρ' H' w':=m'.enterZ (.refl _ _ _) rfl rfl rfl (λ_ _ _=>rfl) (λ_ _ _ _ h=>h) (λb hb=>Cb (m'.xlt b hb) m'.size) (λe he b hb=>(m'.hok.own e he b hb).1) (λ_ h=>h.elim) _ _;have hlw:l<w'.heap.size:=(DE.1 hl).1;have hst2:Qw C l R (some c) F2:=λ{ρ'' H'' w''} m3=>by
   have:=m3.blk l hlw (by
    rintro(⟨e,he,h⟩|h)
    ·exact(m'.hok.own e he l h).1 hR.X
    ·exact h)
   exact this.trans hl
  have hB2:C1 C B F2:=⟨hB.nt,BP hB.sz (BP hs.mem.size x.size),λm3=>hR.up (m'.leaveZ (λ_ h=>h) (λ_ h=>h.elim) m3).1,hB.X,[],hR.df,[],rfl,.nil,by simp⟩
  have hs2:B9 C F2 ρ' ⟨Bq s.env o.dst (Av false),H',n'⟩ (a.put o.dst v) w':=hs1.reframe m2 rfl rfl rfl;have h3:=(FQ (F:=F2) (K':=Q .normal F2) hX (λacc s h=>h) (h2 _ _ _ hΦ F2 hst2)).2.run hlt (by rw[hB2.nt];exact hd) hs2
  have:=GP (rd:=none) (Q:=GB C B Q) (l2:=[]) (λ_ _ _ h=>LX hB2 (λ_ h=>h) h) (Ib hnd) _ _ _ h3
  rwa [Dh]at this
theorem RC {i:Nat}(hX:Di C X)(kb:Nat)(l1:List Nat)(iy:Nat)(l2:List Nat)(hl:List.range ops.size=l1++iy::l2)(hnd:EL ops.toList=true)(hR:J4 C E B F l R)
  (h:C7 C X kb ops l1 s True λacc s1=>acc/\NI C X E F l R kb ops iy l2 Q s1):AC C B none F (.region i ops false) s Q:=by
 refine⟨λhB hd ρ a w hs=>wpIn_region ?_⟩;rw[hl];have hlt:∀j∈l1++iy::l2,j<ops.size:=λj hj=>by rw[<-hl]at hj;exact List.mem_range.1 hj
 have h1:=(FQ (F:=F) (K':=NI C X E F l R kb ops iy l2 Q) hX (λacc s h=>h) h).2.run (λj hj=>hlt j (by simp[hj])) (Jq hB hd) hs;refine GP (rd:=none) (Q:=GB C B Q) (l2:=iy::l2) (λe a w h=>?_) (Ib hnd) _ a w h1;obtain⟨h0,s1,ρ1,k1,k2⟩:=h;exact⟨h0,ZV hX hR hB hnd (λj hj=>hlt j (by simp[hj])) hd k1 k2⟩
theorem mM {i:Nat}(hX:Di C X)(kb:Nat)(pre l1:List Nat)(iy:Nat)(l2:List Nat)(hc:(GD ops pre (l1++iy::l2)&&EL ops.toList)=true)(hR:J4 C E B F l R)
  (h:Ed C X kb ops s.H s.n pre s.env [] True λacc env N=>C7 C X kb ops l1 ⟨env,N++s.H,s.n+Es ops.toList⟩ acc λacc s1=>acc/\NI C X E F l R kb ops iy l2 Q s1):AC C B none F (.region i ops true) s Q:=by
 have hsz:ops.size=Es ops.toList:=by rw[ON,JT]
 rw[<-hsz]at h;simp only[BM]at hc;obtain⟨_,acc,env,N,h1,h2⟩:=Pp (F:=F) hX (λacc env N h=>(FQ (F:=F) (K':=NI C X E F l R kb ops iy l2 Q) hX (λacc s h=>h) h).1) h;refine⟨λhB hd ρ a w hs=>j6 hX.mixed hc.1 h1 (λhlt ρ a w hs=>?_) (Jq hB hd) ρ a w hs⟩;have h3:=(FQ (F:=F) (K':=NI C X E F l R kb ops iy l2 Q) hX (λacc s h=>h) h2).2.run (λj hj=>hlt j (by simp[hj])) (Jq hB hd) hs;refine GP (rd:=none) (Q:=GB C B Q) (l2:=iy::l2) (λe a w h=>?_) (Ib hc.2) _ a w h3;obtain⟨h0,s1,ρ1,k1,k2⟩:=h;exact⟨h0,ZV hX hR hB hc.2 (λj hj=>hlt j (by simp[hj])) hd k1 k2⟩
end
section
variable {C:BH} {X:EV} {E:FT} {l:Nat} {R:LR}
theorem TM {F F':AZ}{ρ:Lk}{H:Hp}{w:World}(m:Aj C F ρ H w)(h0:F'.w0=F.w0)(hX:F'.X=F.X)(hr:F'.r0=F.r0)(hW:∀b,F.Wr b->F'.Wr b)(hg:∀b,F'.Wr b->C.nG<=b):Aj C F' ρ H w:=by
 obtain⟨a1,a2,a3,a4,a5,a6,a7,a8,a9,a10,a11,a12⟩:=m;refine⟨⟨?_,a1.inj,?_⟩,?_,?_,?_,?_,?_,?_,?_,?_,hg,?_,?_⟩
 ·rw[hX];exact a1.ent
 ·intro e he b hb
  rw[hX,h0];exact⟨(a1.own e he b hb).1,(a1.own e he b hb).2.imp id (hW b)⟩
 ·rw[h0];exact a2
 ·rw[h0];exact a3
 ·rw[h0];exact a4
 ·rw[h0];exact a5
 ·rw[h0];exact λb hb h=>a6 b hb λh'=>h (hW b h')
 ·rw[h0,hX];exact a7
 ·rw[h0];exact a8
 ·rw[h0];exact a9
 ·rw[hr];exact a11
 ·rw[h0];exact a12
def vd (C:BH)(l:Nat)(R:LR)(tt:Nat->Option Ai)(rs:List ResultVar)(Φ:Option Code->D->Hp->Nat->Prop)(e:Exit)(F:AZ)(s:St):Prop:=match e with
 | .normal | .ret=>∃j,Qw C l R j F/\KA tt s rs λd=>Φ j d s.H s.n
 |_=>False
theorem NC.walk {f:Nat}{i:FI}{args:List D}{H:Hp}{n:Nat}{Φ:Option Code->D->Hp->Nat->Prop}(hX:Di C X)(hE:FT.ok E)(hf:KS C.P f i)(hnt:Nat.ble args.length i.nt=true)
  (h:∀B F:AZ,J4 C E B F l R->AC C B none F i.code ⟨Dd 0 args,H,n⟩ (vd C l R X.tt i.res Φ)):NC C E f args l R H n Φ:=by
 obtain⟨fn,hf,hb,hn,hd,hni,hres⟩:=hf;rw[<-hni]at hnt;refine⟨⟨fn,i.code,hf,hb,hn⟩,λF ρ w vs m hFl hng hEw hlw hfr hg hvs hr=>?_⟩;have hnt:=Cf hnt;refine(LW (rd:=none) (n:=0)).1 (callsIn_of_wp_marks hf hb AB ?_);have hltl:l<w.heap.size:=(DE.1 hlw).1;have hol:∀e∈H,∀b,ρ e.k e.g=some b->b≠l:=λe he b hb hbl=>(m.hok.own e he b hb).1 (by rw[hbl];exact hFl)
 have ent:∀Z:Nat->Prop,(∀b,Z b->b=l)->Aj C (AZ.subZ ρ H w fn.ntmps F.X Z []) ρ H w:=λZ hZ=>m.enterZ (.refl _ _ _) rfl rfl rfl (λ_ _ _=>rfl) (λe he b hb hz=>hol e he b hb (hZ b hz)) (λb hb=>Cb (m.xlt b hb) m.size)
  (λe he b hb=>(m.hok.own e he b hb).1) (λb hz=>by rw[hZ b hz];exact hng) _ _
 let B:=AZ.subZ ρ H w fn.ntmps F.X (λb=>b=l) []
 let F0:=AZ.subZ ρ H w fn.ntmps F.X (λ_=>False) []
 have mB:Aj C B ρ H w:=ent _ λ_ h=>h
 have mF:Aj C F0 ρ H w:=ent _ λ_ h=>h.elim
 have hBg:∀b,B.Wr b->C.nG<=b:=mB.gw;have upB:∀ {ρ':Lk} {H':Hp} {w':World},Aj C (F0.wr l) ρ' H' w'->Aj C B ρ' H' w':=λm'=>TM m' rfl rfl rfl (λb hb=>by
  rcases hb with(hb|hb)|hb
  ·exact .inl hb
  ·exact hb.elim
  ·exact .inr hb) hBg
 have upF:∀ {ρ':Lk} {H':Hp} {w':World},Aj C F0 ρ' H' w'->Aj C B ρ' H' w':=λm'=>upB (m'.wr hng)
 have hB:C1 C B F0:=⟨rfl,Am _,upF,λ_ h=>h,[],rfl,[],rfl,.nil,by simp⟩
 have mw:=m.wr hng;have lv:∀ {ρ':Lk} {H':Hp} {w':World},Aj C B ρ' H' w'->Aj C (F.wr l) ρ' H' w'/\BW ρ (AL F.X ρ H) w ρ' (AL F.X ρ' H') w':=λ{ρ' H' w'} m'=>by
  obtain⟨q1,q2⟩:=mw.leaveZ (X':=F.X) (Z:=λb=>b=l) (λ_ h=>h) (λb hb=>.inr (.inr hb)) m';refine⟨q1,?_⟩
  have:(λb=>AL F.X ρ H b\/b=l)=AL F.X ρ H:=funext λb=>propext ⟨λh=>h.elim id λh=>.inl (by rw[h];exact hFl),.inl⟩
  have q2:BW ρ (λb=>AL F.X ρ H b\/b=l) w ρ' (AL F.X ρ' H') w':=q2
  rwa [this]at q2
 have hR:J4 C E B F0 l R:=⟨hFl,λh=>by
  rcases h with⟨e,he,h⟩|h
  ·exact hol e he l h rfl
  ·exact h.elim,hlw,upB,hng,rfl,λ{ρ' H' w'} m'=>hE _ _ _ _ _ _ hEw (lv (upF m')).2⟩
 have sat:B9 C F0 ρ ⟨Dd 0 args,H,n⟩ { tmps:=vs++Array.replicate (fn.ntmps-vs.size) undef,defers:=[] } w:=
  ⟨mF,hfr,hg,P4 hvs hr,by simp[F0,AZ.subZ];omega,rfl⟩
 refine wpIn_mono ((h B F0 hR).out hB hd ρ _ w sat) ?_;rintro e a' w' ⟨F',s',ρ',hF,hq,hs'⟩;have key:(∃j,Qw C l R j F'/\KA X.tt s' i.res λd=>Φ j d s'.H s'.n)->LeavesInM (fw none) 0 C.P fn a'.tmps (S9 C F l R ρ H w Φ) a'.defers .returning w':=λ⟨j,hst,hq⟩=>by
  obtain⟨d,p,h1,h2,h3⟩:=SL hq;rw[<-hres]at h1;obtain⟨v,w2,_,hl,mB2,r2,hXX,x,hbl,hsz,F2,m2,hX2⟩:=hF.finish hX.tt rfl hs' h1 h2;obtain⟨m',x'⟩:=lv mB2;exact hl _ ⟨v,j,d,_,_,ρ',rfl,h3,(hbl l hltl).trans (hst hs'.mem),m',x',hs'.fresh,hs'.gen,r2.anti λb hb=>hb.imp (hXX b) id⟩
 cases e with
 |normal=>exact key hq
 |ret=>exact key hq
 |_=>exact hq.elim
def Il:List Nat->List D->As->As
 |t::ts,d::ds,env=>Il ts ds ((t,d)::env)
 |_,_,env=>env
theorem aN:∀(ps:List Nat) (ds:List D) (env:As) (tm:Array Value) (vs:List Value) {ρ:Lk} {O:Nat->Prop} {w:World},vs.length=ds.length->(∀t∈ps,t<tm.size) ->
  (∀t,AV ρ O w (env.get t) (tm.getD t undef))->(∀(i:Nat) (d:D),ds[i]?=some d->AV ρ O w d (vs.getD i undef)) ->
  ∀t,AV ρ O w ((Il ps ds env).get t) (((ps.zip vs).foldl (λtmps (x:Nat×Value)=>tmps.setIfInBounds x.1 x.2) tm).getD t undef)
 | [],_,_,_,_,_,_,_,_,_,h,_=>by simpa[Il]using h
 |p::ps,[],env,tm,vs,_,_,_,hl,_,h,_=>by
  have:vs=[]:=FU (by simpa using hl)
  subst this;simpa[Il]using h
 |p::ps,d::ds,env,tm,[],_,_,_,hl,_,_,_=>by simp at hl
 |p::ps,d::ds,env,tm,v::vs,ρ,O,w,hl,hp,h,hr=>by
  intro t;simp only[Il,List.zip_cons_cons,List.foldl_cons];refine aN ps ds _ _ vs (by simpa using hl) (λt ht=>by simp;exact hp t (by simp[ht])) (λt=>?_) (λi d hd=>?_) t
  ·rw[JQ]
   have h0:=hr 0 d (by simp);simp at h0
   by_cases hpt:p=t
   ·subst hpt
    rw[AH rfl,Ar,HM,AH rfl,AH (hp p (by simp))];exact h0
   ·rw[AG hpt,Ar,HM,AG hpt,<-Ar]
    exact h t
  ·have:=hr (i+1) d (by simpa using hd)
   simpa using this
theorem ZF:∀(l:List (Nat×Value)) (tm:Array Value),(l.foldl (λtmps (x:Nat×Value)=>tmps.setIfInBounds x.1 x.2) tm).size=tm.size
 | [],_=>rfl
 |x::l,tm=>by rw[List.foldl_cons,ZF l];simp
def rF:Exit->Option (Option Code)
 | .normal=>some none
 | .ret=>some (some .ret)
 | .exit i=>some (some (.exit i))
 | .goto t=>some (some (.goto t))
 |_=>none
def g7 (Φ:Option Code->Hp->Nat->Prop)(e:Exit)(_:AZ)(s:St):Prop:=match rF e with
 |some j=>Φ j s.H s.n
 |none=>False
variable {F:AZ}
theorem sE {ps:Array Nat}{as bd:Code}{fn dfs:Nat}{tm:Array Value}{env:As}{ρ1:Lk}{O1:Nat->Prop}{w1:World}{nt:Nat}(htm:tm.size=nt)(hps:∀t∈ps,t<nt)(hda:Df nt as=true)(hdb:Df nt bd=true)
  (henv:∀t,AV ρ1 O1 w1 (env.get t) (tm.getD t undef)) {ds:List D} {H:Hp} {n:Nat} {Φ:Option Code->Hp->Nat->Prop} (hds:ds.length=ps.size)
  (h:∀F:AZ,AC C F (some l) F as ⟨Il ps.toList ds env,H,n⟩ λe F' s=>e=.normal/\F'=F/\∀F':AZ,AC C F' (some l) F' bd s (g7 Φ)):
  QO C (λρ O w=>BW ρ1 O1 w1 ρ O w) l ⟨fn,tm,ps,as,bd,dfs⟩ ds H n Φ:=by
 intro F ρ w vs m hFl hng hEw hlw hfr hg hvs hr;refine⟨hvs.trans hds,?_⟩;have hltl:l<w.heap.size:=(DE.1 hlw).1;have mw:=m.wr hng;have hol:∀ {ρ':Lk} {H':Hp} {w':World},Aj C (F.wr l) ρ' H' w'->∀e∈H',∀b,ρ' e.k e.g=some b->b≠l:=λm' e he b hb hbl=>(m'.hok.own e he b hb).1 (by show F.X b;rw[hbl];exact hFl)
 have ent:∀ {ρ':Lk} {H':Hp} {w':World},Aj C (F.wr l) ρ' H' w'->Aj C (AZ.subZ ρ' H' w' nt F.X (λ_=>False) []) ρ' H' w':=λm'=>m'.enterZ (.refl _ _ _) rfl rfl rfl (λ_ _ _=>rfl) (λ_ _ _ _ h=>h) (λb hb=>Cb (m'.xlt b hb) m'.size)
  (λe he b hb=>(m'.hok.own e he b hb).1) (λb hz=>hz.elim) _ _
 have lv:∀ {ρ':Lk} {H':Hp} {w':World} {ρ2:Lk} {H2:Hp} {w2:World},Aj C (F.wr l) ρ' H' w'->Aj C (AZ.subZ ρ' H' w' nt F.X (λ_=>False) []) ρ2 H2 w2->Aj C (F.wr l) ρ2 H2 w2/\BW ρ' (AL F.X ρ' H') w' ρ2 (AL F.X ρ2 H2) w2:=λ{ρ' H' w' ρ2 H2 w2} m' m2=>by
  obtain⟨q1,q2⟩:=m'.leaveZ (X':=F.X) (Z:=λ_=>False) (λ_ h=>h) (λb hb=>hb.elim) m2;refine⟨q1,?_⟩
  have:(λb=>AL F.X ρ' H' b\/False)=AL F.X ρ' H':=funext λb=>propext ⟨λh=>h.elim id False.elim,.inl⟩
  have q2:BW ρ' (λb=>AL F.X ρ' H' b\/False) w' ρ2 (AL F.X ρ2 H2) w2:=q2
  rwa [this]at q2
 have lat:∀ {ρ':Lk} {H':Hp} {w':World} {ρ2:Lk} {H2:Hp} {w2:World},Aj C (F.wr l) ρ' H' w'->l<w'.heap.size->Aj C (AZ.subZ ρ' H' w' nt F.X (λ_=>False) []) ρ2 H2 w2->w2.heap[l]?=w'.heap[l]?:=λm' hl m2=>m2.blk l hl λh=>by
  rcases h with⟨e,he,h⟩|h
  ·exact hol m' e he l h rfl
  ·exact h
 refine roundIn_of_wpIn AB ?_
 let Fa:=AZ.subZ ρ H w nt F.X (λ_=>False) []
 have sata:B9 C Fa ρ ⟨Il ps.toList ds env,H,n⟩ { tmps:=(ps.zip vs).foldl (λtmps (t,a)=>tmps.setIfInBounds t a) tm,defers:=[] } w:=by
  refine⟨ent mw,hfr,hg,λt=>?_,?_,rfl⟩
  ·have:=aN ps.toList ds env tm vs.toList (ρ:=ρ) (O:=AL F.X ρ H) (w:=w) (by simpa using hvs) (λt ht=>by rw[htm];exact hps t (by simpa using ht)) (λt=>(henv t).mono hEw) (λi d hd=>by
    have:=hr i d hd
    simpa[Ar,FY]using this) t
   rw[<-Array.foldl_toList,Array.toList_zip];exact this
  ·show((ps.zip vs).foldl (λtmps (t,a)=>tmps.setIfInBounds t a) tm).size=nt
   rw[<-Array.foldl_toList];exact(ZF _ _).trans htm
 refine wpIn_mono ((h Fa).out (.refl Fa) hda ρ _ w sata) ?_;rintro e a2 w2 ⟨F2,s2,ρ2,hF2,⟨rfl,hFF,hbody⟩,hs2⟩;subst hFF;obtain⟨m2,x2⟩:=lv mw (hF2.mem hs2.mem);have hl2:w2.heap[l]?=some (LR.obj ⟨fn,tm,ps,as,bd,dfs⟩ none):=(lat mw hltl (hF2.mem hs2.mem)).trans hlw;refine⟨_,run_beginRound (r:=LR.lp ⟨fn,tm,ps,as,bd,dfs⟩ .ready none) hl2 rfl,?_⟩;have m3:=m2.putL hFl (.inr rfl) (r:=LR.lp ⟨fn,tm,ps,as,bd,dfs⟩ .ready none) hl2 (.loop { LR.lp ⟨fn,tm,ps,as,bd,dfs⟩ .ready none with state:=.busy });have x3:=BW.putL (ρ:=ρ2) (O:=AL F.X ρ2 s2.H) (w:=w2) (.inl hFl) (r:=LR.lp ⟨fn,tm,ps,as,bd,dfs⟩ .ready none) hl2 (.loop { LR.lp ⟨fn,tm,ps,as,bd,dfs⟩ .ready none with state:=.busy });generalize hw3:w2.putObj l (.loop { LR.lp ⟨fn,tm,ps,as,bd,dfs⟩ .ready none with state:=.busy })=w3 at m3 x3⊢;have hlt2:l<w2.heap.size:=(DE.1 hl2).1;have hl3:w3.heap[l]?=some (.loop { LR.lp ⟨fn,tm,ps,as,bd,dfs⟩ .ready none with state:=.busy }):=by rw[<-hw3];exact World.putObj_heap_same hlt2
 let Fb:=AZ.subZ ρ2 s2.H w3 nt F.X (λ_=>False) []
 have satb:B9 C Fb ρ2 s2 a2 w3:=⟨ent m3,hs2.fresh,hs2.gen,λt=>(hs2.env t).mono x3,hs2.nt,hs2.dfr⟩
 refine wpIn_mono ((hbody Fb).out (.refl Fb) hdb ρ2 _ w3 satb) ?_;rintro e a4 w4 ⟨F4,s4,ρ4,hF4,hq,hs4⟩;obtain⟨m4,x4⟩:=lv m3 (hF4.mem hs4.mem);have hl4:w4.heap[l]?=some (.loop { LR.lp ⟨fn,tm,ps,as,bd,dfs⟩ .ready none with state:=.busy }):=(lat m3 (DE.1 hl3).1 (hF4.mem hs4.mem)).trans hl3;have fin:∀j,Φ j s4.H s4.n->∃v w',(Instr.endRound l j).run C.P w4=.ok v w'/\S9 C F l ⟨fn,tm,ps,as,bd,dfs⟩ ρ H w (λj d H' n'=>d=Av j.isNone/\Φ j H' n') (.returned v) w':=λj hj=>by
  refine⟨_,_,run_endRound j hl4,_,j,Av j.isNone,s4.H,s4.n,ρ4,rfl,⟨rfl,hj⟩,World.putObj_heap_same (DE.1 hl4).1,m4.putL hFl (.inr rfl) hl4 _,((x2.trans x3).trans x4).trans (BW.putL (.inl hFl) hl4 _),hs4.fresh,hs4.gen,.prim _⟩
 cases e with
 |normal=>exact fin none hq
 |ret=>exact fin _ hq
 |exit i=>exact fin _ hq
 |goto t=>exact fin _ hq
 |panic c=>exact hq.elim
 |outgrown=>exact hq.elim
def lG (Q:Exit->AZ->St->Prop)(F:AZ)(s:St)(j:Option Code):Prop:=match j with
 |none=>Q .normal F s
 |some .ret=>Q .ret F s
 |some (.exit i)=>Q (.exit i) F s
 |some (.goto t)=>Q (.goto t) F s
 |some _=>False
theorem FT.ext {ρ1:Lk}{O1:Nat->Prop}{w1:World}:FT.ok (λρ O w=>BW ρ1 O1 w1 ρ O w):=λ_ _ _ _ _ _ h k=>h.trans k
theorem AC.rangeFunc {B:AZ}{s:St}{Q:Exit->AZ->St->Prop}{g:Operand}{ps:Array Nat}{as bd:Code}{fi:Nat}{first captured:List D}{Ψ:Option Code->D->Hp->Nat->Prop}(hg:BE s.env g=.clo (.func fi) first captured)
  (YS:List D->Hp->Nat->(Option Code->Hp->Nat->Prop)->Prop)
  (hbody:∀l ds H n Φ,YS ds H n Φ->ds.length=ps.size/\∀F:AZ,AC C F (some l) F as ⟨Il ps.toList ds s.env,H,n⟩ λe F' s=>e=.normal/\F'=F/\∀F':AZ,AC C F' (some l) F' bd s (g7 Φ))
  (hiter:∀(E:FT) (l:Nat) (R:LR),FT.ok E->(∀ds H n Φ,YS ds H n Φ->QO C E l R ds H n Φ)->NC C E fi (first++[.clo (.yield l) [] []]++captured) l R s.H s.n Ψ)
  (hend:∀j d H' n' F',Ψ j d H' n'->lG Q F' ⟨s.env,H',n'⟩ j):AC C B none F (.rangeFunc g ps as bd) s Q:=by
 refine⟨λhB hd ρ a w hs=>?_⟩;simp only[Df,BM]at hd;have hps:∀t∈ps,t<B.nt:=λt ht=>Nat.blt_eq.mp (Cc.1 hd.1 t (by simpa using ht))
 have hgr:=Dc hs.env g;rw[hg]at hgr;generalize hv:a.eval g=gv at hgr;cases hgr with
 |clo hnf hnc hr1 hr2=>
 rename_i fs cs;refine wpIn_rangeFunc λfn _=>?_
 let l:=w.heap.size+1
 let d:=w.heap.size
 let R:LR:=⟨fn,a.tmps,ps,as,bd,d⟩
 let w1:=(w.alloc (.deferred (some []))).alloc (R.obj none)
 have hw1s:w1.heap.size=w.heap.size+2:=by simp only[w1,World.size_alloc]
 have hold:∀b,b<w.heap.size->w1.heap[b]?=w.heap[b]?:=λb hb=>by
  show((w.alloc _).alloc _).heap[b]?=_;rw[EJ,AG (by rw[World.size_alloc];omega),EJ,B3]
 have hdw:w1.heap[d]?=some (.deferred (some [])):=by
  show((w.alloc _).alloc _).heap[w.heap.size]?=_;rw[EJ,AG (by rw[World.size_alloc];omega),EJ,AH rfl]
 have hlw:w1.heap[l]?=some (R.obj none):=by
  show((w.alloc _).alloc _).heap[w.heap.size+1]?=_;rw[EJ,AH (by rw[World.size_alloc])]
 have m:=hs.mem
 let X1:Nat->Prop:=λb=>F.X b\/b=l\/b=d
 have hown:∀e∈s.H,∀b,ρ e.k e.g=some b->b<w.heap.size:=λe he b hb=>m.lt he hb
 have x:BW ρ (AL F.X ρ s.H) w ρ (AL X1 ρ s.H) w1:=by
  refine⟨by omega,λ_ _ _ h=>h,λb hb hO=>⟨?_,hold b hb⟩,λb cs T fz h=>⟨cs,fz,?_,rfl⟩⟩
  ·rintro((h|h|h)|h)
   ·exact hO (.inl h)
   ·simp only[l]at h;omega
   ·simp only[d]at h;omega
   ·exact hO (.inr h)
  ·rw[hold b (DE.1 h).1];exact h
 have hng:C.nG<=l:=by
  have:=m.gn;have:=m.size
  simp only[l];omega
 have m1:Aj C (AZ.subZ ρ s.H w1 F.nt X1 (λb=>b=l) ([d].map (λr=>({ target:=.collected r,args:=#[] }:Deferred))++F.df)) ρ s.H w1:=by
  refine m.enterZ x rfl rfl rfl (λb hb _=>hold b hb) (λe he b hb hbl=>?_) (λb hb=>?_) (λe he b hb hb'=>?_) (λb hb=>by rw[hb];exact hng) _ _
  ·have:=hown e he b hb
   simp only[l]at hbl;omega
  ·rcases hb with h|h|h
   ·have:=m.xlt b h;have:=m.size;omega
   ·simp only[l]at h;omega
   ·simp only[d]at h;omega
  ·have h1:=hown e he b hb
   rcases hb' with h|h|h
   ·exact(m.hok.own e he b hb).1 h
   ·simp only[l]at h;omega
   ·simp only[d]at h;omega
 have mo:Aj C F ρ s.H w1:=m.same ⟨by omega,λ_ _ _ h=>h,λb hb hO=>⟨hO,hold b hb⟩,λb cs T fz h=>⟨cs,_,by rw[hold b (DE.1 h).1];exact h,rfl⟩⟩ rfl rfl rfl hold;have hF1:C1 C F (AZ.subZ ρ s.H w1 F.nt X1 (λb=>b=l) ([d].map (λr=>({ target:=.collected r,args:=#[] }:Deferred))++F.df)):=by
  refine C1.subZ mo (λb hb=>.inl hb) (λb hb=>.inl ?_) [d] (by simp) λr hr=>?_
  ·have:=m.size
   rw[hb];simp only[l];omega
  ·simp only[DG]at hr
   subst hr;refine⟨m.size,by simp only[d];omega,.inr (.inr rfl),⟨by simp only[d,l];omega,λe he h=>?_⟩,hdw⟩
   have:=hown e he d h
   simp only[d]at this;omega
 have hB1:=hB.trans hF1;generalize hF1d:AZ.subZ ρ s.H w1 F.nt X1 (λb=>b=l) ([d].map (λr=>({ target:=.collected r,args:=#[] }:Deferred))++F.df)=F1 at m1 hF1 hB1;have hF1X:F1.X=X1:=by rw[<-hF1d];rfl
 have hF1W:F1.Wr l:=by rw[<-hF1d];exact .inr rfl
 have hXl:F1.X l:=by rw[hF1X];exact .inr (.inl rfl)
 have henv1:∀t,AV ρ (AL F1.X ρ s.H) w1 (s.env.get t) (a.tmps.getD t undef):=λt=>by rw[hF1X];exact(hs.env t).mono x
 have hc:=hiter (λρ' O w'=>BW ρ (AL F1.X ρ s.H) w1 ρ' O w') l R FT.ext λds H n Φ hY=>by
  obtain⟨q1,q2⟩:=hbody l ds H n Φ hY;exact sE (nt:=B.nt) (by rw[hs.nt];exact hB.nt) hps hd.2.1 hd.2.2 henv1 q1 q2
 have hargs:(fs ++ #[Value.func (.yield l) #[] #[]]++cs).size=(first++[D.clo (.yield l) [] []]++captured).length:=by simp[hnf,hnc];omega
 have hcall:=hc.2 F1 ρ w1 (fs ++ #[Value.func (.yield l) #[] #[]]++cs) m1 hXl hng (.refl _ _ _) hlw hs.fresh hs.gen hargs λi dd hdd=>by
  rw[DO]at hdd;rw[Np];rcases BL i first.length with hi|hi
  ·rw[FZ hi]at hdd
   have:(fs++(#[Value.func (.yield l) #[] #[]]++cs)).getD i undef=fs.getD i undef:=by
    simp only[Ar];rw[HO (by omega)]
   rw[this,hF1X];exact(hr1 i dd hdd).mono x
  ·rw[Ek hi]at hdd
   have e1:(fs++(#[Value.func (.yield l) #[] #[]]++cs)).getD i undef=(#[Value.func (.yield l) #[] #[]]++cs).getD (i-first.length) undef:=by
    simp only[Ar];rw[HN (by omega),hnf]
   rw[e1];cases hk:i-first.length with
   |zero=>
    rw[hk]at hdd;simp at hdd;subst hdd
    have:(#[Value.func (.yield l) #[] #[]]++cs).getD 0 undef=Value.func (.yield l) #[] #[]:=by
     rw[Ar,HO (by simp)];rfl
    rw[this];exact .clo rfl rfl (by simp) (by simp)
   |succ k=>
    rw[hk]at hdd;have hdd:captured[k]?=some dd:=by simpa using hdd
    have:(#[Value.func (.yield l) #[] #[]]++cs).getD (k+1) undef=cs.getD k undef:=by
     simp only[Ar];rw[HN (by simp)];simp
    rw[this,hF1X];exact(hr2 k dd hdd).mono x
 refine⟨l,[{ target:=.collected d,args:=#[] }],w1,{ target:=.fn (.func fi) cs,args:=fs ++ #[Value.func (.yield l) #[] #[]] },w1,fi,fs ++ #[Value.func (.yield l) #[] #[]]++cs,w1,run_enterLoop_outer _ _ _ _ _,?_,λ_ _=>trivial,?_,Mq,LW.2 (hcall.mono ?_)⟩
 ·unfold resolve
  simp only[hv];have e:(#[Operand.const (Value.func (.yield l) #[] #[])]).map a.eval = #[Value.func (.yield l) #[] #[]]:=by simp[Act.eval]
  rw[e];rfl
 ·unfold invoke
  exact Uk hc.1 _ w1
 ·rintro e w' ⟨v,j,dd,H',n',ρ',rfl,hΨ,hl',m',x',fr,gn,rep⟩
  have hend':=hend j dd H' n' F1 hΨ;have m'':Aj C F1 ρ' H' w':=TM m' rfl rfl rfl (λb hb=>by
   rcases hb with hb|hb
   ·exact hb
   ·rw[hb];exact hF1W) m1.gw
  have m3:=m''.putL hXl hF1W (r:=R.lp (if j.isNone then .ready else .done) j) hl' (.loop { R.lp (if j.isNone then .ready else .done) j with state:=.exhausted });have x3:=BW.putL (ρ:=ρ') (O:=AL F1.X ρ' H') (w:=w') (.inl hXl) (r:=R.lp (if j.isNone then .ready else .done) j) hl' (.loop { R.lp (if j.isNone then .ready else .done) j with state:=.exhausted });refine⟨j,_,run_endLoop (r:=R.lp (if j.isNone then .ready else .done) j) hl' (by cases j<;>simp[LR.lp]),?_⟩;generalize w'.putObj l (.loop { R.lp (if j.isNone then .ready else .done) j with state:=.exhausted })=w3 at m3 x3⊢;have sat:B9 C F1 ρ' ⟨s.env,H',n'⟩ { a with defers:=[{ target:=.collected d,args:=#[] }]++a.defers } w3:=by
   refine⟨m3,fr,gn,λt=>((henv1 t).mono x').mono x3,?_,?_⟩
   ·show a.tmps.size=_
    rw[hs.nt,hF1.nt]
   ·show _++a.defers=_
    rw[hs.dfr,<-hF1d];rfl
  cases j with
  |none=>exact⟨F1,_,ρ',hB1,hend',sat⟩
  |some c=>
   cases c<;>first|exact hend'.elim|skip
   ·exact wpIn_exit ⟨F1,_,ρ',hB1,hend',sat⟩
   ·exact wpIn_goto ⟨F1,_,ρ',hB1,hend',sat⟩
   ·exact wpIn_ret ⟨F1,_,ρ',hB1,hend',sat⟩
end
end Go.Ide
