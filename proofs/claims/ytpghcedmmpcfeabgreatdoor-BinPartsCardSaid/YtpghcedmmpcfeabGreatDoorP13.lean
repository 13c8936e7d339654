/- The layer of own lemmas and contracts, part 13. -/
import Derived.Test.YtpghcedmmpcfeabGreatDoorP4
import Derived.Test.YtpghcedmmpcfeabGreatDoorP7
import Derived.Laws.StructEq
import Derived.Test.YtpghcedmmpcfeabGreatDoorP12
import Derived.Test.YtpghcedmmpcfeabGreatDoorP11
import Derived.Test.YtpghcedmmpcfeabGreatDoorP10
set_option linter.unusedVariables false
set_option linter.unusedSimpArgs false
namespace Go.Ide
open Go.RowKit
def Lo (d d':D):Prop:=∀(ρ:Lk) (O:Nat->Prop) (w:World) (v:Value),AU ρ O w d v->AU ρ O w d' v
theorem Lo.refl (d:D):Lo d d:=λ_ _ _ _ h=>h
theorem Lo.agg {ds ds':List D}(hl:ds.length=ds'.length)(h:∀(i:Nat) (d d':D),ds[i]?=some d->ds'[i]?=some d'->Lo d d'):Lo (.agg ds) (.agg ds'):=λρ O w v hv=>by
 cases hv with
 |agg hn ho hd=>
  refine .agg (hn.trans hl) ho λi d' hd'=>?_
  have hi:i<ds.length:=by rw[hl];exact(BT.1 hd').1
  exact h i _ d' (By hi) hd' _ _ _ _ (hd i _ (By hi))
theorem Lo.tup {ds ds':List D}(hl:ds.length=ds'.length)(h:∀(i:Nat) (d d':D),ds[i]?=some d->ds'[i]?=some d'->Lo d d'):Lo (.tup ds) (.tup ds'):=λρ O w v hv=>by
 cases hv with
 |tup hn hd=>
  refine .tup (hn.trans hl) λi d' hd'=>?_
  have hi:i<ds.length:=by rw[hl];exact(BT.1 hd').1
  exact h i _ d' (By hi) hd' _ _ _ _ (hd i _ (By hi))
def On (e e':D):Prop:=e'.cells.length=e.cells.length/\∀(j:Nat) (d d':D),e.cells[j]?=some d->e'.cells[j]?=some d'->Lo d d'
theorem Lo.sl {b:Bool}{sz:Nat}{es es':List D}(hl:es.length=es'.length)(hc:∀(i:Nat) (e e':D),es[i]?=some e->es'[i]?=some e'->On e e'):Lo (.sl b sz es) (.sl false sz es'):=λρ O w v hv=>by
 cases hv with
 |nil=>
  have:es'=[]:=List.length_eq_zero_iff.1 hl.symm
  subst this;exact .nil sz
 |emp a=>
  have:es'=[]:=List.length_eq_zero_iff.1 hl.symm
  subst this;exact .emp a
 |sl f hl' hc' hO hb hz hcell ho h=>
  have hx:∀(i:Nat) (e':D),es'[i]?=some e'->∃e,es[i]?=some e/\On e e':=λi e' he'=>by
   have hi:i<es.length:=by rw[hl];exact(BT.1 he').1
   exact⟨_,By hi,hc i _ e' (By hi) he'⟩
  refine .sl f (hl.symm.trans hl') hc' hO hb (λi e' he'=>?_) hcell ho λi e' j d' he' hd'=>?_
  ·obtain⟨e,he,h1,h2⟩:=hx i e' he'
   rw[h1];exact hz i e he
  ·obtain⟨e,he,h1,h2⟩:=hx i e' he'
   have hj:j<e.cells.length:=by rw[<-h1];exact(BT.1 hd').1
   exact h2 j _ d' (By hj) hd' _ _ _ _ (h i e j _ he (By hj))
def loosen:Nat->D->D
 | 0,d=>d
 |n+1,.agg ds=>.agg (ds.map (loosen n))
 |n+1,.tup ds=>.tup (ds.map (loosen n))
 |n+1,.sl _ sz es=>.sl false sz (es.map (loosen n))
 |_+1,d=>d
theorem Vs {f:D->D}(hf:∀d,Lo d (f d))(ds:List D)(i:Nat)(d d':D)(h:ds[i]?=some d)(h':(ds.map f)[i]?=some d'):Lo d d':=by
 rw[BC,h]at h';cases h';exact hf d
theorem ZM:∀n:Nat,(∀d,Lo d (loosen n d))/\∀e,On e (loosen n e)
 | 0=>⟨λd=>.refl d,λe=>⟨rfl,λj d d' h h'=>by
   have:d=d':=by
    have:=h.symm.trans h'
    injection this
   subst this;exact .refl d⟩⟩
 |n+1=>by
  obtain⟨h1,h2⟩:=ZM n;have hs:∀(es:List D) (i:Nat) (e e':D),es[i]?=some e->(es.map (loosen n))[i]?=some e'->On e e':=λes i e e' h h'=>by
   rw[BC,h]at h';cases h';exact h2 e
  have hL:∀d,Lo d (loosen (n+1) d):=λd=>by
   cases d with
   |agg ds=>exact .agg (by simp) (Vs h1 ds)
   |tup ds=>exact .tup (by simp) (Vs h1 ds)
   |sl b sz es=>exact .sl (by simp) (hs es)
   |_=>exact .refl _
  refine⟨hL,λe=>?_⟩;have one:e.cells=[e]->(loosen (n+1) e).cells=[loosen (n+1) e]->On e (loosen (n+1) e):=λa b=>by
   refine⟨by rw[a,b];rfl,λj d d' h h'=>?_⟩;rw[a]at h;rw[b]at h'
   match j with
   | 0=>cases h;cases h';exact hL e
   |j+1=>cases h
  cases e with
  |agg ds=>exact⟨by simp[loosen,D.cells],λj d d' h h'=>Vs h1 ds j d d' h h'⟩
  |_=>exact one rfl rfl
theorem AK.loosen {C:BA}{f:Nat}{args:List D}{d:D}(h:AK C f args d)(n:Nat):AK C f args (loosen n d):=
 ⟨h.1,λX w vs a b c e g=>(h.2 X w vs a b c e g).mono λ_ _ ⟨v,d,h1,h2,h3,h4⟩=>⟨v,_,h1,h2,rfl,by subst h3;exact(ZM n).1 _ _ _ _ _ h4⟩⟩
open Go.Proofs
set_option maxRecDepth 20000
section
variable {C:BA} {F B:AY} {ops:Array Oper} {rd:Option Nat}
theorem pZ {K1:St->Prop}{Q:Exit->Act->World->Prop}{l2:List Nat}(h2:∀(s1:St) (ρ:Lk) (a:Act) (w:World),K1 s1->Bu C F ρ s1 a w->wpOps C.P ops Q l2 a w):∀(l:List Nat) (a:Act) (w:World),wpOps C.P ops (K7 C F K1) l a w->wpOps C.P ops Q (l++l2) a w:=by
 intro l
 induction l with
 |nil=>rintro a w ⟨_,s',ρ',hq,hs'⟩;exact h2 s' ρ' a w hq hs'
 |cons i l ih=>
  intro a w h;simp only[E7,wpOps]at h⊢;cases ho:ops[i]? with
  |none=>simp only[ho]at h⊢;exact ih a w h
  |some o=>
   simp only[ho]at h⊢;split
   ·rename_i hw
    rw[AH hw]at h;rcases h with h|⟨_,⟨a0,w0,h0⟩⟩
    ·refine .inl ?_
     unfold Oper.wp Oper.upon at h⊢;split<;>rename_i hr<;>simp only[hr]at h
     ·exact ih _ _ h
     ·exact ih _ _ h
     ·exact ih _ _ h
     ·refine Calls.mono h λe w'' he=>?_
      cases e with
      |returned v=>exact ih _ _ he
      |panicked c=>cases he.1
      |outgrown=>obtain⟨a0,w0,h0⟩:=he;cases h0.1
     ·exact Rows.mono h λ_ _ he=>ih _ _ he
     ·cases h.1
    ·cases h0.1
   ·rename_i hw
    rw[AG hw]at h;exact ih _ _ h
theorem e1F {K:St->Prop}{os1 os2:List Oper}{s:St}(h:BL C F ops os1 s (λs1=>BL C F ops os2 s1 K)):BL C F ops (os1++os2) s K:=by
 intro hd l hl ρ a w hs;rw[Ky,BY]at hd;have hlen:l.length=os1.length+os2.length:=by
  have:=congrArg List.length hl
  simpa using this
 obtain⟨l1,l2,rfl,e1⟩:∃l1 l2,l=l1++l2/\l1.length=os1.length:=⟨l.take os1.length,l.drop os1.length,(FF _ _).symm,by rw[Bc];omega⟩
 rw[DN,DN]at hl;obtain⟨h1,h2⟩:=List.append_inj hl (by simpa using e1);exact pZ (λs1 ρ a w hk hs=>hk hd.2 l2 h2 ρ a w hs) l1 a w (h hd.1 l1 h1 ρ a w hs)
theorem e1U {X:EV}{i:Nat}{s:St}{Q:Exit->AY->St->Prop}(hX:Dl C X)(hnd:Ep ops.toList=true)(h:BL C F ops ((List.range ops.size).map λj=>ops.getD j default) s (Q .normal F)):AC C B rd F (.region i ops false) s Q:=by
 refine⟨λhB hd ρ a w hs=>wpIn_region ?_⟩;have hd:=KK hB hd;have h1:=BL.run h (λj hj=>List.mem_range.1 hj) hd hs
 have:=GJ (rd:=rd) (Q:=F9 C B Q) (l2:=[]) (λ_ _ _ h=>J9 hB (λ_ h=>h) h) (IU hnd) _ a w h1
 rwa [Du]at this
def XC (C:BA)(F:AY)(X:EV)(kb:Nat)(ops:Array Oper):List (List Nat×Nat)->List Nat->St->(St->Prop)->Prop
 | [],l,s,K=>C5 C X kb ops l s True λacc s=>acc/\K s
 |(l1,i)::r,l,s,K=>C5 C X kb ops l1 s True λacc s1=>acc/\∃d,(∀(os:List Oper) (K':St->Prop),BL C F ops os ⟨Bi s1.env (ops.getD i default).dst d,s1.H,s1.n+1⟩ K'->BL C F ops (ops.getD i default::os) s1 K')/\XC C F X kb ops r l ⟨Bi s1.env (ops.getD i default).dst d,s1.H,s1.n+1⟩ K
def Qh:List (List Nat×Nat)->List Nat->List Nat
 | [],l=>l
 |(l1,i)::r,l=>l1++i::Qh r l
theorem cj {X:EV}(hX:Dl C X){kb:Nat}{K:St->Prop}:∀(r:List (List Nat×Nat)) (l:List Nat) (s:St),XC C F X kb ops r l s K->BL C F ops ((Qh r l).map λj=>ops.getD j default) s K
 | [],l,s,h=>(F7 hX (λacc s h=>h) h).2
 |(l1,i)::r,l,s,h=>by
  show BL C F ops ((l1++i::Qh r l).map _) s K;rw[DN,Ci];refine e1F ?_;refine(F7 (K':=λs1=>BL C F ops (ops.getD i default::(Qh r l).map λj=>ops.getD j default) s1 K) hX (λacc s1 h=>⟨h.1,?_⟩) h).2;obtain⟨d,h1,h2⟩:=h.2;exact h1 _ _ (cj hX r l _ h2)
theorem e1V {X:EV}{i:Nat}{s:St}{Q:Exit->AY->St->Prop}(hX:Dl C X)(kb:Nat)(r:List (List Nat×Nat))(l:List Nat)(hl:List.range ops.size=Qh r l)(hnd:Ep ops.toList=true)(h:XC C F X kb ops r l s (Q .normal F)):AC C B rd F (.region i ops false) s Q:=
 e1U hX hnd (by rw[hl];exact cj hX r l s h)
def T2 (P:Program) (t:Nat):Prop:=∃(f1 f2:Field) (k1 k2:IntKind),P.underlying t=some (.struct #[f1,f2])/\P.stoodInHeld t=false/\P.eqGuardType P.depth t=false/\f1.name ≠ "_"/\f1.offset=0/\P.underlying f1.type=some (.int k1)/\f2.name ≠ "_"/\f2.offset=1/\P.underlying f2.type=some (.int k2)
theorem Xt {P:Program} {w:World} (d:Nat) {xs ys:Array Value} {f:Field} {fs:List Field} {i:Nat} {ka k:IntKind} {x y:Int} {b:Bool} (f1:f.name ≠ "_") (f2:f.offset=i) (f3:P.underlying f.type=some (.int k)) (hxa:xs[i]?=some (.int ka x)) (hya:ys[i]?=some (.int ka y))
  (ih:(Op.eqFields (d+1) xs ys fs).run P w=.ok b w):(Op.eqFields (d+1) xs ys (f::fs)).run P w=.ok (x==y&&b) w:=by
 have ag:(isAgg f.type).run P w=.ok false w:=by
  unfold isAgg;rw[run_bind,C4 f3];rfl
 have part1:(part f.type xs f.offset).run P w=.ok (.int ka x) w:=by
  unfold part;rw[run_bind,ag];dsimp only;rw[AG (by simp),f2];simp only[hxa];rfl
 have part2:(part f.type ys f.offset).run P w=.ok (.int ka y) w:=by
  unfold part;rw[run_bind,ag];dsimp only;rw[AG (by simp),f2];simp only[hya];rfl
 simp only[Op.eqFields];rw[AH f1,run_bind,part1];dsimp only;rw[run_bind,part2];dsimp only;rw[run_bind,run_equalIn_int w d f.type ka k x y f3];dsimp only;cases hb:x==y with
 |true=>simpa using ih
 |false=>rfl
theorem kC {o:Oper}{os:List Oper}{s:St}{K:St->Prop}{t tt:Nat}{x y:Operand}{a1 a2 b1 b2:Int}(hw:CP ops s.env o=some true)(ho:o.op=.binOp .neq t x y tt)(hT:T2 C.P t)(hx:BI s.env x=.agg [i64 a1,i64 a2])(hy:BI s.env y=.agg [i64 b1,i64 b2])
  (h:BL C F ops os ⟨Bi s.env o.dst (Ap (!(a1==b1&&(a2==b2&&true)))),s.H,s.n+1⟩ K):BL C F ops (o::os) s K:=
 BL.step hw (λρ a w hs=>by
  refine⟨_,ρ,w,.inl ?_,Qo.pure hs (.prim _),λe he=>Di (hs.gen e he)⟩;have rx:=Dm hs.env x;have ry:=Dm hs.env y;rw[hx]at rx;rw[hy]at ry;unfold execOp;simp only[ho];generalize a.eval x=vx at rx⊢;generalize a.eval y=vy at ry⊢;cases rx with
  |agg n1 o1 r1=>
   cases ry with
   |agg n2 o2 r2=>
    rename_i xs ys;obtain⟨f1,f2,k1,k2,c1,c2,c3,c4,c5,c6,c7,c8,c9⟩:=hT;have at_:∀ {vs:Array Value} {u1 u2:Int},vs.size=[i64 u1,i64 u2].length->(∀(i:Nat) (d:D),[i64 u1,i64 u2][i]?=some d->AU ρ (AN F.X ρ s.H) w d (vs.getD i undef))->vs[0]?=some (.int .i64 u1)/\vs[1]?=some (.int .i64 u2):=λ{vs u1 u2} n r=>by
     have q0:=r 0 _ rfl;have q1:=r 1 _ rfl;have m0:0<vs.size:=by rw[n];exact Nat.zero_lt_succ _
     have m1:1<vs.size:=by rw[n];exact IF _
     rw[Aw,B9 m0,JR]at q0;rw[Aw,B9 m1,JR]at q1;rw[B9 m0,B9 m1];generalize vs[0]=z0 at q0;generalize vs[1]=z1 at q1;cases q0;cases q1;exact⟨rfl,rfl⟩
    obtain⟨x0,x1⟩:=at_ n1 r1;obtain⟨y0,y1⟩:=at_ n2 r2;have eqf:C.P.fieldsOf t = #[f1,f2]:=by unfold Program.fieldsOf;rw[c1]
    have run:(Op.equalIn 10000 t (.agg xs) (.agg ys)).run C.P w=.ok (a1==b1&&(a2==b2&&true)) w:=by
     rw[show(10000:Nat)=9998+1+1 from rfl,run_equalIn_struct w _ t xs ys (by rw[eqf];exact c1) c2,eqf];exact Xt 9998 c4 c5 c6 x0 y0 (Xt 9998 c7 c8 c9 x1 y1 rfl)
    have r3:(do eqGuard .neq t x y (.agg xs) (.agg ys);binOp .neq t (.agg xs) (.agg ys):Sem Value).run C.P w=.ok (.bool (!(a1==b1&&(a2==b2&&true)))) w:=by
     rw[run_bind,run_eqGuard_agg w .neq t x y xs ys c3];dsimp only;rw[run_neq_struct,run];rfl
    rw[run_bind,r3];rfl) h
end
def S5 (P:Program)(t:Nat):Bool:=match P.underlying t with
 |some (.int _)=>true
 |_=>false
theorem bB {P:Program}{t:Nat}(h:S5 P t=true):∃k,P.underlying t=some (.int k):=by
 unfold S5 at h;split at h
 ·rename_i k hk;exact⟨k,hk⟩
 ·cases h
def kX (P:Program):List Field->Bool
 | [f1,f2]=>(f1.name != "_")&&Nat.beq f1.offset 0&&S5 P f1.type&&(f2.name != "_")&&Nat.beq f2.offset 1&&S5 P f2.type
 |_=>false
def kW (P:Program)(t:Nat):Bool:=match P.underlying t with
 |some (.struct fs)=>!(P.stoodInHeld t) && !(P.eqGuardType P.depth t)&&kX P fs.toList
 |_=>false
theorem yT {P:Program}{t:Nat}(h:kW P t=true):T2 P t:=by
 unfold kW at h;split at h<;>try(cases h;done)
 rename_i fs hu;simp only[BY,Bs]at h;obtain⟨⟨h1,h2⟩,h3⟩:=h;obtain⟨l⟩:=fs
 match l,h3 with
 | [f1,f2],h3=>
  simp only[kX,BY,bne_iff_ne]at h3;obtain⟨⟨⟨⟨⟨g1,g2⟩,g3⟩,g4⟩,g5⟩,g6⟩:=h3;obtain⟨k1,e1⟩:=bB g3;obtain⟨k2,e2⟩:=bB g6;exact⟨f1,f2,k1,k2,hu,h1,h2,g1,CG g2,e1,g4,CG g5,e2⟩
theorem br:T2 C0.P 63:=yT (by kernel_rfl)
open Go.Sort
set_option maxHeartbeats 4000000
def lA:List AE:=[C6 10,Da 6]
def lB:List AE:=[C6 5]
def cA:D:=Aj false lA
def cB:D:=Aj false lB
def EA:D:=.agg [str (sb Na),i64 4,i64 30,i64 12,.sl false 1 [cA,cB]]
theorem e0l:AK C0 17 [] EA:=by
 have h:=zQ.loosen 10
 rwa [show loosen 10 kQ=EA from rfl]at h
theorem bN {x:AE}(h:decide (x.grain.length<=1000)&&decide (x.shs.length<=1000)&&x.shs.all (λs=>decide (s.lot.length<=1000)&&decide (s.part.length<=40))=true):x.lite:=by
 simp only[BY,Gi,CW]at h;obtain⟨⟨h1,h2⟩,h3⟩:=h;exact⟨⟨by omega,by omega,λs hs=>⟨by have:=(h3 s hs).1;omega,by have:=(h3 s hs).2;omega⟩⟩,h3⟩
theorem SH:∀x∈lA,x.lite:=by
 intro x hx;simp only[lA,A8,Dw,or_false]at hx;rcases hx with rfl|rfl<;>exact bN rfl
theorem yO:∀x∈lB,x.lite:=by
 intro x hx;simp only[lB,A8,Dw,or_false]at hx;subst hx;exact bN rfl
theorem SX:Bk lA=0:=by kernel_rfl
theorem yb:Bk lB=0:=by kernel_rfl
theorem tz:DB lA=[(tA,13),(tB,3)]:=by kernel_rfl
theorem Wx:GD (CR lA)=[(tA,13),(tB,3)]:=by rw[<-Ut];exact tz
theorem bx:(CR lA).any (λp=>DH p.2)=false:=by kernel_rfl
theorem uA:OF lA=0:=by
 unfold OF Ia;rw[AG (by rw[SX];exact λh=>h rfl),bx];rfl
theorem uB:OG lA=[(tA,13),(tB,3)]:=by
 unfold OG Jm;rw[AG (by rw[SX];exact λh=>h rfl),bx,Wx];rfl
def Tj:List UInt8:=[49,51]
def t3:List UInt8:=[51]
def G7:List UInt8:=[49,51,47,49,54]
def HD:List UInt8:=[51,47,49,54]
def Lp (m:Int):AE:=⟨Fg,m,[⟨tA,G7⟩,⟨tB,HD⟩]⟩
theorem d9v:Bo (tA,13)=Ce (tA,Tj):=by unfold Bo Ce;rw[show A0 13=Tj by kernel_rfl]
theorem d9w:Bo (tB,3)=Ce (tB,t3):=by unfold Bo Ce;rw[show A0 3=t3 by kernel_rfl]
theorem uj:AK C0 9 [cA] (.tup [.sl false 2 [Ce (tA,Tj),Ce (tB,t3)],i64 0]):=by
 have h:=j7 false lA (by decide) SH;rw[uA,uB,Ci,Ci,List.map_nil,d9v,d9w]at h;exact h
theorem TG:lA.map (ES Fg)=lA:=rfl
theorem y9:IA lA=0:=by kernel_rfl
theorem d9z:[((tA,13):List UInt8×Rat),(tB,3)].any (λp=>DH (p.2/(Ab lA:Rat)))=false:=by kernel_rfl
theorem d9A:(CR lA).length=2:=by kernel_rfl
theorem gN:HX lA=0:=by
 unfold HX;rw[AG (by rw[y9];exact λh=>h rfl),AG (by rw[d9A];decide),Wx,d9z];rfl
theorem WN:FS lA=[⟨tA,G7⟩,⟨tB,HD⟩]:=by
 unfold FS;rw[Wx];kernel_rfl
theorem Sv:Ab lA=16:=by kernel_rfl
theorem ya:Lq lA=Lp 16:=by rw[bi gN,WN,Sv];rfl
theorem bz:Hw lA Fg=0:=by kernel_rfl
theorem cQ:JE lA Fg=0:=by unfold JE;rw[bz,TG,gN];rfl
theorem uC:Mw lA Fg=Lp 16:=by unfold Mw;rw[bz,TG,ya];rfl
theorem uD:AK C0 18 [cA,str (sb Fg)] (.tup [(Lp 16).D,i64 0]):=by
 have h:=j8 false lA Fg (by decide) SH (by decide);rw[cQ,uC]at h;exact h
theorem y8:Ga lA 15=⟨Fg,1,[⟨tA,G7⟩,⟨tB,HD⟩]⟩:=by
 unfold Ga;rw[Sv,show(CV lA 0).grain=Fg from rfl,TG,WN];rfl
theorem gM:H4 (Ga lA 15)=[(tA,mkRat 13 16),(tB,mkRat 3 16)]:=by rw[y8];kernel_rfl
theorem gL:[((tA,mkRat 13 16):List UInt8×Rat),(tB,mkRat 3 16)].any (λp=>DH p.2)=false:=by kernel_rfl
theorem y7:Ia (CR [Ga lA 15])=0:=by
 unfold Ia;rw[(VK lA 15).1,gM,gL];rfl
theorem yc:CX lA=true:=by kernel_rfl
theorem WS:Jr lA 15=0:=by
 unfold Jr;rw[SX,AG (λh=>h rfl),AG (by decide),Sv,AG (by decide),yc,AG (λh=>by cases h),show(CV lA 0).grain=Fg from rfl,cQ,AG (λh=>h rfl),AG (by decide),y7]
theorem ye:TD lA 15=Lp 15:=by
 unfold TD;rw[WS,AG (λh=>h rfl),show(CV lA 0).grain=Fg from rfl,TG,WN];rfl
theorem yd:TC lA 15=[(tA,mkRat 13 16),(tB,mkRat 3 16)]:=by
 unfold TC Jm;rw[WS,AG (λh=>h rfl),Sv,AG (by decide),(VK lA 15).2,(VK lA 15).1,gM,gL];rfl
theorem d9x:Bo (tA,mkRat 13 16)=Ce (tA,G7):=by unfold Bo Ce;rw[show A0 (tA,mkRat 13 16).2=G7 by kernel_rfl]
theorem d9y:Bo (tB,mkRat 3 16)=Ce (tB,HD):=by unfold Bo Ce;rw[show A0 (tB,mkRat 3 16).2=HD by kernel_rfl]
theorem og:AK C0 24 [cA,i64 15] (.tup [(Lp 15).D,.sl false 2 [Ce (tA,G7),Ce (tB,HD)],i64 0]):=by
 have h:=sO false lA 15 (by decide) SH;rw[WS,ye,yd,Ci,Ci,List.map_nil,d9x,d9y]at h;exact h
theorem um:AK C0 40 [cA] (i64 0):=by
 have h:=Lj false lA (by decide) λx hx=>(SH x hx).1
 rw[SX]at h;exact h
theorem uo:AK C0 40 [cB] (i64 0):=by
 have h:=Lj false lB (by decide) λx hx=>(yO x hx).1
 rw[yb]at h;exact h
theorem ul:AK C0 50 [str (sb tB)] (Ap true):=by
 have h:=Rz tB;rw[show EB tB=true by kernel_rfl]at h;exact h
theorem zx (x:AE)(h:x.shs.length<=1000000)(m:Int):AK C0 64 [x.D,i64 m] (x.w m).D:=Pk x m h
theorem V7 {l:List AE}(h:l.all (λx=>decide (x.shs.length<=1000000))=true):∀x∈l,∀m,AK C0 64 [x.D,i64 m] (x.w m).D:=λx hx m=>zx x (DP (CW.1 h x hx)) m
theorem VV {l:List AE}(h:l.all (λx=>decide (0<=x.mass)&&decide (x.mass<=1000000000))=true):∀x∈l,0<=x.mass/\x.mass<=1000000000:=λx hx=>by
 have:=CW.1 h x hx
 simpa using this
theorem n_1:AK C0 35 [Aj false [Da 2]] (Aj false [Da 2]):=CZ D7 400 40
theorem n_2:AK C0 35 [Aj false [C6 1]] (Aj false [C6 1]):=CZ D7 400 40
theorem n_3:AK C0 35 [Aj false [C6 9,Da 4]] (Aj false [C6 9,Da 4]):=CZ D7 400 40
theorem gz:AK C0 30 [cA] (i64 16):=CZ D7 400 40
theorem rz:AK C0 71 [cA,i64 2,Ap true] (Aj false [Da 2]):=Vi false true lA 2 (by decide) (by decide) (VV rfl) (V7 rfl) _ n_1
theorem sA:AK C0 71 [cA,i64 1,Ap false] (Aj false [C6 1]):=Vi false false lA 1 (by decide) (by decide) (VV rfl) (V7 rfl) _ n_2
theorem ue:AK C0 33 [cA,i64 1,i64 2] (Aj false [C6 9,Da 4]):=YG false lA 1 2 (by decide) (by decide) (by decide) 16 (by decide) (VV rfl) gz (V7 rfl) _ n_3
theorem zK:AK C0 96 [cA,str (sb tB)] (.sl false 2 [GV (11,16)]):=by
 have h:=lE false lA tB (by decide) λx hx=>by
  simp only[lA,A8,Dw,or_false]at hx;rcases hx with rfl|rfl<;>exact⟨by decide,by decide,by decide⟩
 rw[show MA tB lA 0=[(11,16)] by kernel_rfl]at h;exact h
theorem ug:AK C0 36 [.sl true 1 [Aj false [Da 2],Aj false [C6 1]]] (Aj false [Da 2,C6 1]):=Yp [[Da 2],[C6 1]] (by simp) (by decide) (by decide)
def QP:List (Nat×List D×D):=[(40,[cA],i64 0),(40,[cB],i64 0),(50,[str (sb tB)],Ap true),
 (71,[cA,i64 2,Ap true],Aj false [Da 2]),(71,[cA,i64 1,Ap false],Aj false [C6 1]),(33,[cA,i64 1,i64 2],Aj false [C6 9,Da 4]),
 (96,[cA,str (sb tB)],.sl false 2 [GV (11,16)]),(36,[.sl true 1 [Aj false [Da 2],Aj false [C6 1]]],Aj false [Da 2,C6 1])]
instance e0I:AA cA:=by unfold cA;exact AJ
instance e0J:AA cB:=by unfold cB;exact AJ
instance q_cA:AW cA:=by unfold cA;exact AJ
instance q_cB:AW cB:=by unfold cB;exact AJ
theorem bs:∀e∈QP,AK C0 e.1 e.2.1 e.2.2/\Ah e.2.1:=by
 intro e he;simp only[QP,A8,Dw,or_false]at he;rcases he with rfl|rfl|rfl|rfl|rfl|rfl|rfl|rfl
 ·exact⟨um,AJ⟩
 ·exact⟨uo,AJ⟩
 ·exact⟨ul,AJ⟩
 ·exact⟨rz,AJ⟩
 ·exact⟨sA,AJ⟩
 ·exact⟨ue,AJ⟩
 ·exact⟨zK,AJ⟩
 ·exact⟨ug,AJ⟩
noncomputable def X5:EV:=⟨Qm,NJ.get,Od.get,λ_=>false,OC QP,Te,Lr⟩
theorem Eu:Fk C0 X5:=⟨XJ,TF,K0,Uk QP bs,by kernel_rfl,gU,Rw⟩
def kR:D:=.agg [str (sb Na),i64 4,i64 30,i64 12,.sl false 1 [Aj false [C6 9,Da 4],Aj false [C6 5]]]
theorem uh:AK C0 7 [EA,i64 0,i64 3] (.tup [kR,Aj false [Da 2,C6 1],i64 0]):=CZ Eu 400 40
abbrev Wp (ls:List Int)(i:Int):D:=.clo (.func 95) [] [.pptr (.sl false 1 (Ca ls)),.pptr (i64 i),.pptr EA]
abbrev yS (ls:List Int)(i:Int):D:=.clo (.func 56) [] [.pptr EA,.pptr (.sl false 1 (Ca ls)),.pptr (i64 i)]
theorem nR:AK C0 55 [.sl false 1 (Ca [16,5]),i64 ((0:Nat):Int),Wp [16,5] ((0:Nat):Int)] (.sl false 1 [i64 23]):=CZ Eu 400 40
theorem nS:AK C0 55 [.sl false 1 (Ca [16,5]),i64 ((1:Nat):Int),Wp [16,5] ((1:Nat):Int)] (.sl false 1 [i64 1]):=CZ Eu 400 40
theorem nT:AK C0 55 [.sl false 1 (Ca [0,5]),i64 ((1:Nat):Int),Wp [0,5] ((1:Nat):Int)] (.sl false 1 [i64 17]):=CZ Eu 400 40
theorem nU:AK C0 55 [.sl false 1 (Ca [16,5]),i64 ((1:Nat):Int),yS [16,5] ((1:Nat):Int)] (.sl false 1 [i64 23]):=CZ Eu 400 40
theorem l_1:AK C0 54 [i64 16,.sl false 1 [i64 23]] (i64 16):=CZ Eu 400 40
theorem l_2:AK C0 54 [i64 5,.sl false 1 [i64 1]] (i64 1):=CZ Eu 400 40
theorem l_3:AK C0 54 [i64 5,.sl false 1 [i64 17]] (i64 5):=CZ Eu 400 40
theorem l_4:AK C0 54 [i64 25,.sl false 1 [i64 23]] (i64 23):=CZ Eu 400 40
instance e0K:AA EA:=by unfold EA;exact AJ
instance e0N:AW EA:=by unfold EA;exact AJ
theorem m_1:AK C0 53 [EA,.sl false 1 (Ca [16,5]),i64 ((0:Nat):Int)] (i64 16):=WF EA ⟨_,_,_,_,_,rfl⟩ false _ 0 16 rfl _ 16 nR l_1
theorem m_2:AK C0 53 [EA,.sl false 1 (Ca [16,5]),i64 ((1:Nat):Int)] (i64 1):=WF EA ⟨_,_,_,_,_,rfl⟩ false _ 1 5 rfl _ 1 nS l_2
theorem m_3:AK C0 53 [EA,.sl false 1 (Ca [0,5]),i64 ((1:Nat):Int)] (i64 5):=WF EA ⟨_,_,_,_,_,rfl⟩ false _ 1 5 rfl _ 5 nT l_3
theorem zJ:AK C0 39 [EA] (.sl false 1 (Ca [16,5])):=CZ Eu 400 40
theorem uf:AK C0 28 [EA,.sl true 1 [i64 1]] (i64 0):=CZ Eu 400 40
theorem zI:AK C0 62 [EA] (i64 0):=CZ Eu 400 40
theorem ru:AK C0 20 [EA,i64 1] (.tup [i64 23,i64 0]):=t8 EA _ _ _ _ 30 rfl _ 1 5 rfl _ 23 uf zJ nU 25 rfl l_4
def XK:List (Nat×List D×D):=(53,[EA,.sl false 1 (Ca [16,5]),i64 1],i64 1)::QP
theorem tj:∀e∈XK,AK C0 e.1 e.2.1 e.2.2/\Ah e.2.1:=by
 intro e he;rcases A8.1 he with rfl|he
 ·exact⟨m_2,AJ⟩
 ·exact bs e he
noncomputable def ke:EV:=⟨Qm,NJ.get,Od.get,λ_=>false,OC XK,Te,Lr⟩
theorem zG:Fk C0 ke:=⟨XJ,TF,K0,Uk XK tj,by kernel_rfl,gU,Rw⟩
theorem uk:AK C0 19 [EA,i64 1] (.tup [i64 1,i64 0]):=CZ zG 400 40
theorem rt:AK C0 21 [EA,i64 0,str (sb tB)] (.tup [i64 2,i64 0]):=CZ Eu 400 40
theorem ui:AK C0 22 [EA,i64 0,str (sb tB)] (.tup [i64 8,i64 0]):=CZ Eu 400 40
def kU (l:List Int):Int:=if l=[16,5]then 16 else 5
theorem rr:AK C0 23 [EA] (.tup [.sl false 2 [It (0,16),It (1,5)],i64 0]):=by
 have h:=sN (str (sb Na)) (i64 4) (i64 30) (i64 12) false [cA,cB] [16,5] rfl (by simp) (by decide) (λi c m h1 h2=>by
  match i with
  | 0=>cases h1;cases h2;exact gz
  | 1=>cases h1;cases h2;exact CZ Eu 400 40
  |i+2=>cases h1) (λc hc=>by
  simp only[A8,Dw,or_false]at hc;rcases hc with rfl|rfl
  ·exact⟨_,_,rfl,e0I⟩
  ·exact⟨_,_,rfl,e0J⟩) zI kU (λl=>l=[16,5]\/l=[0,5]\/l=[0,0]) (.inl rfl) (λl hl hn=>by
  rcases hl with rfl|rfl|rfl
  ·exact⟨m_1,rfl,.inr (.inl rfl)⟩
  ·exact⟨m_3,rfl,.inr (.inr rfl)⟩
  ·exact Ak rfl hn)
 rw[show L6 kU 257 [16,5] []=([(0,16),(1,5)],0) by kernel_rfl]at h;exact h
abbrev cz:Dr:=[(16,[0,1,2,3,4,5,6,7,8,9,10,11,12,13,14,15,16,17,18],[19,20,21])]
open Go.Proofs Go.RowKit Go.Sort
set_option maxRecDepth 20000
set_option maxHeartbeats 8000000
def e1d:D:=.sl true 2 [.agg [str (sb tA),str (sb G7)],.agg [str (sb tB),str (sb HD)]]
theorem e0E (m:Int):AK C0 25 [.sl false 2 [.agg [str (sb tA),str (sb G7)],.agg [str (sb tB),str (sb HD)]],e1d] (Ap true):=CZ Eu 400 40
theorem yM:AK C0 10 [.sl false 2 [Ce (tA,G7),Ce (tB,HD)],.sl true 2 [Ce (tA,G7),Ce (tB,HD)]] (Ap true):=CZ Eu 400 40
theorem e0y:AK C0 26 [i64 2,Ap true] (Fx (Da 2)):=CZ Eu 400 40
theorem e0z:AK C0 26 [i64 1,Ap false] (Fx (C6 1)):=CZ Eu 400 40
theorem e0A:AK C0 26 [i64 9,Ap false] (Fx (C6 9)):=CZ Eu 400 40
theorem e0B:AK C0 26 [i64 4,Ap true] (Fx (Da 4)):=CZ Eu 400 40
theorem e0C:AK C0 13 [Aj false [Da 2,C6 1],.sl true 3 [Fx (Da 2),Fx (C6 1)]] (Ap true):=CZ Eu 400 40
theorem e0D:AK C0 13 [Aj false [C6 9,Da 4],.sl true 3 [Fx (C6 9),Fx (Da 4)]] (Ap true):=CZ Eu 400 40
theorem u7:AK C0 6 [] (Ap true):=by
 refine Af.walk w1 jm rfl λF=>?_
 have cE:=e0l;have cL:=uj;have cP:AK C0 18 [cA,.prim (.string ⟨#[119,104,101,97,116]⟩)] (.tup [(Lp 16).D,i64 0]):=uD;have cD:=uh;have cM:=uk;have cS:=ru;have cF:AK C0 21 [EA,i64 0,.prim (.string ⟨#[98]⟩)] (.tup [i64 2,i64 0]):=rt;have cLa:AK C0 22 [EA,i64 0,.prim (.string ⟨#[98]⟩)] (.tup [i64 8,i64 0]):=ui;have cEm:=rr;have cSh:=og;have pA:AA cA:=AJ;have pB:AA cB:=AJ;have pX:AA EA:=AJ;unfold EA at cE cD cM cS cF cLa cEm pX;have hA:∃T,cA=.sl false 3 T:=⟨_,rfl⟩
 have hB:∃T,cB=.sl false 3 T:=⟨_,rfl⟩
 obtain⟨TA,hA⟩:=hA;obtain⟨TB,hB⟩:=hB;rw[hA,hB]at cE cD cM cS cF cLa cEm pX;rw[hA]at cL cP cSh pA;rw[hB]at pB;have hm:([.sl false 3 TA,.sl false 3 TB]:List D)[0]?=some (.sl false 3 TA):=rfl;have dP:(Lp 16).D=.agg [str (sb Fg),i64 16,.sl false 2 [.agg [str (sb tA),str (sb G7)],.agg [str (sb tB),str (sb HD)]]]:=rfl;have dP2:(Lp 15).D=.agg [str (sb Fg),i64 15,.sl false 2 [.agg [str (sb tA),str (sb G7)],.agg [str (sb tB),str (sb HD)]]]:=rfl;rw[dP]at cP;rw[dP2]at cSh;unfold kR at cD;refine AI cz kB cE hm cL cP cD cM ?_;refine cI cS ?_;refine sR 700 ?_;refine cI cF ?_;refine sR 800 ?_;refine cI cLa ?_;refine sR 900 ?_;refine cI cEm ?_;refine sR 1000 ?_;refine B4 kT hm ?_;refine AF kB ?_;refine cI cSh ?_;have z0:IntKind.i64.wrap (0+0)=0:=rfl;have n0:((0:Int) != 0)=false:=rfl;have n1:((1:Int) != 1)=false:=rfl;have n23:((23:Int) != 23)=false:=rfl;have n2:((2:Int) != 2)=false:=rfl;have n2':(((2:Nat):Int) != 2)=false:=rfl;have s0:([.agg [i64 0,i64 16],.agg [i64 1,i64 5]]:List D)[0]?=some (.agg [i64 0,i64 16]):=rfl;have s1:([.agg [i64 0,i64 16],.agg [i64 1,i64 5]]:List D)[1]?=some (.agg [i64 1,i64 5]):=rfl;have n8:((8:Int) != 8)=false:=rfl;obtain⟨C1,hC1⟩:∃d,Aj false [C6 9,Da 4]=d:=⟨_,rfl⟩
 obtain⟨O1,hO1⟩:∃d,Aj false [Da 2,C6 1]=d:=⟨_,rfl⟩
 rw[hC1,hO1];refine AC.weak ⟨[(2,.sl false 2 [.agg [str (sb tA),str (sb Tj)],.agg [str (sb tB),str (sb t3)]]),(3,i64 0),(4,.optr 308 22 3 0 0),(5,i64 0),(6,.optr 406 31 5 0 0),(7,O1),(8,i64 0),(9,i64 1),(10,i64 0),(11,i64 23),(12,i64 0),(13,i64 2),(14,i64 0),(15,i64 8),(16,i64 0),(17,.sl false 2 [.agg [i64 0,i64 16],.agg [i64 1,i64 5]]),(18,i64 0),(19,.optr 1009 79 3 0 0),(20,.sl false 2 [.agg [str (sb tA),str (sb G7)],.agg [str (sb tB),str (sb HD)]]),(21,i64 0)],
  [⟨1009,79,51,3,[.agg [str (sb Fg),i64 15,.sl false 2 [.agg [str (sb tA),str (sb G7)],.agg [str (sb tB),str (sb HD)]]]]⟩,⟨406,31,24,5,[.agg [str (sb Na),i64 4,i64 30,i64 12,.sl false 1 [C1,Aj false [C6 5]]]]⟩,⟨308,22,51,3,[.agg [str (sb Fg),i64 16,.sl false 2 [.agg [str (sb tA),str (sb G7)],.agg [str (sb tB),str (sb HD)]]]]⟩],_⟩ AL ?_
 refine AC.seq ?_;refine AC.seq ?_;refine e1V w1 1100 [([0,1,2,3,4,5,6,7,8,9,10,11,12,13,14,15,16,17,18,19,20,21,22,23,24,25,26,27,28,29,30,31,32,33,34,35,36,37,38,39,40,41,42,43],44),([45,46,47,48,49,50],51)] [52] rfl (by kernel_rfl) ?_;change C5 _ _ _ _ _ _ _ _;refine AF (CY z0 n0 n1 n23 n2 n2' (Ar n8 kT kF)) ?_;refine AF (CY z0 n0 n1 n23 n2 n2' (Ar n8 kT kF)) ?_;refine AF (CY z0 n0 n1 n23 n2 n2' (Ar n8 kT kF)) ?_;refine AF (CY z0 n0 n1 n23 n2 n2' (Ar n8 kT kF)) ?_;refine AF (CY z0 n0 n1 n23 n2 n2' (Ar n8 kT kF)) ?_;refine AF (Ar n2' kT kF) ?_;refine B4 kF s0 ?_;refine AF (Ar n2' kT kF) ?_;refine AF (Ar n2' kT kF) ?_;refine⟨Ap false,λos K' hk=>kC (a1:=0) (a2:=16) (b1:=0) (b2:=16) rfl rfl br rfl rfl hk,?_⟩;change C5 _ _ _ _ _ ⟨(124,Ap false)::_,_,_⟩ _ _;refine BO ?_;refine AF (Ar n2' kT kF) ?_;refine AF (Ar n2' kT kF) ?_;refine B4 kF s1 ?_;refine AF (Ar n2' kT kF) ?_;refine AF (Ar n2' kT kF) ?_;refine⟨Ap false,λos K' hk=>kC (a1:=1) (a2:=5) (b1:=1) (b2:=5) rfl rfl br rfl rfl hk,?_⟩;change C5 _ _ _ _ _ ⟨(131,Ap false)::_,_,_⟩ _ _;refine BO ?_;refine AF (Ar n2' kT kF) ?_;refine AO ?_;refine Am ?_;refine AC.weak ⟨[(2,.sl false 2 [.agg [.prim (.string ⟨#[97]⟩),.prim (.string ⟨#[49,51]⟩)],.agg [.prim (.string ⟨#[98]⟩),.prim (.string ⟨#[51]⟩)]]),(4,.optr 308 22 3 0 0),(6,.optr 406 31 5 0 0),(7,O1),(19,.optr 1009 79 3 0 0),(20,.sl false 2 [.agg [.prim (.string ⟨#[97]⟩),.prim (.string ⟨#[49,51,47,49,54]⟩)],.agg [.prim (.string ⟨#[98]⟩),.prim (.string ⟨#[51,47,49,54]⟩)]])],
  [⟨1009,79,51,3,[.agg [str (sb Fg),i64 15,.sl false 2 [.agg [.prim (.string ⟨#[97]⟩),.prim (.string ⟨#[49,51,47,49,54]⟩)],.agg [.prim (.string ⟨#[98]⟩),.prim (.string ⟨#[51,47,49,54]⟩)]]]]⟩,⟨406,31,24,5,[.agg [str (sb Na),i64 4,i64 30,i64 12,.sl false 1 [C1,Aj false [C6 5]]]]⟩,⟨308,22,51,3,[.agg [str (sb Fg),i64 16,.sl false 2 [.agg [.prim (.string ⟨#[97]⟩),.prim (.string ⟨#[49,51,47,49,54]⟩)],.agg [.prim (.string ⟨#[98]⟩),.prim (.string ⟨#[51,47,49,54]⟩)]]]]⟩],_⟩ AL ?_
 have h1:AK C0 25 [.sl false 2 [.agg [.prim (.string ⟨#[97]⟩),.prim (.string ⟨#[49,51,47,49,54]⟩)],.agg [.prim (.string ⟨#[98]⟩),.prim (.string ⟨#[51,47,49,54]⟩)]],.sl true 2 [.agg [.prim (.string ⟨#[97]⟩),.prim (.string ⟨#[49,51,47,49,54]⟩)],.agg [.prim (.string ⟨#[98]⟩),.prim (.string ⟨#[51,47,49,54]⟩)]]] (Ap true):=e0E 0;have h2:AK C0 10 [.sl false 2 [.agg [.prim (.string ⟨#[97]⟩),.prim (.string ⟨#[49,51,47,49,54]⟩)],.agg [.prim (.string ⟨#[98]⟩),.prim (.string ⟨#[51,47,49,54]⟩)]],.sl true 2 [.agg [.prim (.string ⟨#[97]⟩),.prim (.string ⟨#[49,51,47,49,54]⟩)],.agg [.prim (.string ⟨#[98]⟩),.prim (.string ⟨#[51,47,49,54]⟩)]]] (Ap true):=yM;have e1:BE ⟨#[97]⟩ ⟨#[97]⟩=true:=J7 _;have e2:BE ⟨#[49,51]⟩ ⟨#[49,51]⟩=true:=J7 _;have e3:BE ⟨#[98]⟩ ⟨#[98]⟩=true:=J7 _;have e4:BE ⟨#[51]⟩ ⟨#[51]⟩=true:=J7 _;have x0:([.agg [.prim (.string ⟨#[97]⟩),.prim (.string ⟨#[49,51]⟩)],.agg [.prim (.string ⟨#[98]⟩),.prim (.string ⟨#[51]⟩)]]:List D)[0]?=some (.agg [.prim (.string ⟨#[97]⟩),.prim (.string ⟨#[49,51]⟩)]):=rfl;have x1:([.agg [.prim (.string ⟨#[97]⟩),.prim (.string ⟨#[49,51]⟩)],.agg [.prim (.string ⟨#[98]⟩),.prim (.string ⟨#[51]⟩)]]:List D)[1]?=some (.agg [.prim (.string ⟨#[98]⟩),.prim (.string ⟨#[51]⟩)]):=rfl;have b1:(!(true&&(true&&true)))=false:=rfl;have n16:((16:Int) != 16)=false:=rfl;have n15:((15:Int) != 15)=false:=rfl;have k1:=e0y;have k2:=e0z;have k3:=e0A;have k4:=e0B;have k5:=e0C;have k6:=e0D;have pA1:Ah [Aj false [Da 2,C6 1],.sl true 3 [Fx (Da 2),Fx (C6 1)]]:=⟨λd hd=>by
  simp only[A8,Dw,or_false]at hd;rcases hd with rfl|rfl
  ·exact(AJ:AA (Aj false [Da 2,C6 1])).out
  ·exact Hv (n:=30) (by kernel_rfl)⟩
 have pA2:Ah [Aj false [C6 9,Da 4],.sl true 3 [Fx (C6 9),Fx (Da 4)]]:=⟨λd hd=>by
  simp only[A8,Dw,or_false]at hd;rcases hd with rfl|rfl
  ·exact(AJ:AA (Aj false [C6 9,Da 4])).out
  ·exact Hv (n:=30) (by kernel_rfl)⟩
 rw[hO1]at k5 pA1;rw[hC1]at k6 pA2;obtain⟨u1,u2,u3,hu⟩:∃a b c,Fx (Da 2)=.agg [a,b,c]:=⟨_,_,_,rfl⟩
 obtain⟨v1,v2,v3,hv⟩:∃a b c,Fx (C6 1)=.agg [a,b,c]:=⟨_,_,_,rfl⟩
 obtain⟨y1,y2,y3,hy⟩:∃a b c,Fx (C6 9)=.agg [a,b,c]:=⟨_,_,_,rfl⟩
 obtain⟨z1,z2,z3,hz⟩:∃a b c,Fx (Da 4)=.agg [a,b,c]:=⟨_,_,_,rfl⟩
 rw[hu]at k1;rw[hv]at k2;rw[hy]at k3;rw[hz]at k4;rw[hu,hv]at k5 pA1;rw[hy,hz]at k6 pA2;obtain⟨C2,hC2⟩:∃d,Aj false [C6 5]=d:=⟨_,rfl⟩
 obtain⟨C1L,hC1L⟩:∃T,C1=.sl false 3 T:=⟨_,hC1.symm⟩
 rw[hC2,hC1L];rw[hC1L]at k6 pA2;have q0:([.sl false 3 C1L,C2]:List D)[0]?=some (.sl false 3 C1L):=rfl;have n2e:(((2:Nat):Int)==2)=true:=rfl;refine AI cz (CY b1 n2' n16 n15 e1 e2 (Bd e3 e4 kT kF)) x0 x1 h1 h2 AB AB ?_;refine Bf.same _ (k1) AJ ?_;refine BS ?_;refine AF (Ar n2e kT kF) ?_;refine Bf.same _ (k2) AJ ?_;refine BS ?_;refine AF (Ar n2e kT kF) ?_;refine Bf.same _ k5 pA1 ?_;refine BO ?_;refine AF (Ar n2e kT kF) ?_;refine AF (Ar n2e kT kF) ?_;refine AF (Ar n2e kT kF) ?_;refine B4 kT q0 ?_;refine AF (Ar n2e kT kF) ?_;refine AF (Ar n2e kT kF) ?_;refine Oh kT ?_;refine Bf.same _ (k3) AJ ?_;refine BS ?_;refine Oh kT ?_;refine Bf.same _ (k4) AJ ?_;refine BS ?_;refine AF (Ar n2e kT kF) ?_;refine AF (Ar n2e kT kF) ?_;refine AF (Ar n2e kT kF) ?_;refine Oh kT ?_;refine BF.same _ k6 pA2 ?_;refine BO ?_;refine AF (Ar n2e kT kF) ?_;refine AF (Ar n2e kT kF) ?_;refine Ag ?_;exact AM rfl AA.out
end Go.Ide
