/- The layer of own lemmas and contracts, part 8. -/
import Derived.Test.YtmpdcldckjeklabGreatDoorAD7
import Derived.Test.YtmpdcldckjeklabGreatDoorAD4
set_option linter.unusedVariables false
set_option linter.unusedSimpArgs false
namespace Go.Ide
open Go.Proofs Go.RowKit
set_option maxRecDepth 20000
set_option maxHeartbeats 4000000
def FM (k:List UInt8):Option (Nat×Nat):=
 if k=[98,105,110]then some (2,4)
 else if k=[97,114,114,105,118,101]then some (2,1)
 else if k=[115,116,111,114,101]then some (2,2)
 else if k=[109,111,118,101]then some (2,3)
 else if k=[100,114,121]then some (2,4)
 else if k=[115,104,105,112]then some (2,1)
 else if k=[98,108,101,110,100]then some (2,1)
 else if k=[108,111,97,100]then some (2,2)
 else if k=[99,108,111,115,101]then some (1,0)
 else if k=[105,115,115,117,101]then some (2,1)
 else if k=[99,97,110,99,101,108]then some (2,1)
 else none
theorem LK {P:List UInt8->Option (Nat×Nat)->Prop}(k:List UInt8)(h0:P [98,105,110] (some (2,4)))(h1:P [97,114,114,105,118,101] (some (2,1)))(h2:P [115,116,111,114,101] (some (2,2)))(h3:P [109,111,118,101] (some (2,3)))(h4:P [100,114,121] (some (2,4)))(h5:P [115,104,105,112] (some (2,1)))(h6:P [98,108,101,110,100] (some (2,1)))(h7:P [108,111,97,100] (some (2,2)))(h8:P [99,108,111,115,101] (some (1,0)))(h9:P [105,115,115,117,101] (some (2,1)))(h10:P [99,97,110,99,101,108] (some (2,1)))(hn:¬k=[98,105,110]->¬k=[97,114,114,105,118,101]->¬k=[115,116,111,114,101]->¬k=[109,111,118,101]->¬k=[100,114,121]->¬k=[115,104,105,112]->¬k=[98,108,101,110,100]->¬k=[108,111,97,100]->¬k=[99,108,111,115,101]->¬k=[105,115,115,117,101]->¬k=[99,97,110,99,101,108]->P k none):P k (FM k):=by
 unfold FM
 by_cases e0:k=[98,105,110]
 ·subst e0;exact h0
 rw[AP e0]
 by_cases e1:k=[97,114,114,105,118,101]
 ·subst e1;exact h1
 rw[AP e1]
 by_cases e2:k=[115,116,111,114,101]
 ·subst e2;exact h2
 rw[AP e2]
 by_cases e3:k=[109,111,118,101]
 ·subst e3;exact h3
 rw[AP e3]
 by_cases e4:k=[100,114,121]
 ·subst e4;exact h4
 rw[AP e4]
 by_cases e5:k=[115,104,105,112]
 ·subst e5;exact h5
 rw[AP e5]
 by_cases e6:k=[98,108,101,110,100]
 ·subst e6;exact h6
 rw[AP e6]
 by_cases e7:k=[108,111,97,100]
 ·subst e7;exact h7
 rw[AP e7]
 by_cases e8:k=[99,108,111,115,101]
 ·subst e8;exact h8
 rw[AP e8]
 by_cases e9:k=[105,115,115,117,101]
 ·subst e9;exact h9
 rw[AP e9]
 by_cases e10:k=[99,97,110,99,101,108]
 ·subst e10;exact h10
 rw[AP e10];exact hn e0 e1 e2 e3 e4 e5 e6 e7 e8 e9 e10
theorem QJ (d:D)(k:List UInt8):match FM k with
  |some p=>∃f,EF (sb k) Fh (Fi d)=some (some (.agg [i64 (p.1:Nat),i64 (p.2:Nat),.clo (.func f) [d] []]))
  |none=>EF (sb k) Fh (Fi d)=some none:=by
 refine LK (P:=λk o=>match o with
  |some p=>∃f,EF (sb k) Fh (Fi d)=some (some (.agg [i64 (p.1:Nat),i64 (p.2:Nat),.clo (.func f) [d] []]))
  |none=>EF (sb k) Fh (Fi d)=some none) k ⟨59,by kernel_rfl⟩ ⟨60,by kernel_rfl⟩ ⟨61,by kernel_rfl⟩ ⟨62,by kernel_rfl⟩ ⟨62,by kernel_rfl⟩ ⟨63,by kernel_rfl⟩ ⟨63,by kernel_rfl⟩ ⟨64,by kernel_rfl⟩ ⟨65,by kernel_rfl⟩ ⟨66,by kernel_rfl⟩ ⟨67,by kernel_rfl⟩ ?_
 intro e0 e1 e2 e3 e4 e5 e6 e7 e8 e9 e10;have key:∀m:List UInt8,¬k=m->BD (sb k) (sb m)=false:=λm h=>by rw[CV];exact CH h
 have q0:BD (sb k) ⟨#[98,105,110]⟩=false:=key _ e0;have q1:BD (sb k) ⟨#[97,114,114,105,118,101]⟩=false:=key _ e1;have q2:BD (sb k) ⟨#[115,116,111,114,101]⟩=false:=key _ e2;have q3:BD (sb k) ⟨#[109,111,118,101]⟩=false:=key _ e3;have q4:BD (sb k) ⟨#[100,114,121]⟩=false:=key _ e4;have q5:BD (sb k) ⟨#[115,104,105,112]⟩=false:=key _ e5;have q6:BD (sb k) ⟨#[98,108,101,110,100]⟩=false:=key _ e6;have q7:BD (sb k) ⟨#[108,111,97,100]⟩=false:=key _ e7;have q8:BD (sb k) ⟨#[99,108,111,115,101]⟩=false:=key _ e8;have q9:BD (sb k) ⟨#[105,115,115,117,101]⟩=false:=key _ e9;have q10:BD (sb k) ⟨#[99,97,110,99,101,108]⟩=false:=key _ e10;simp only[Fh,Fi,EF,q0,q1,q2,q3,q4,q5,q6,q7,q8,q9,q10]
theorem Ip {α:Type}{p:α->Bool}:∀ {l:List α} {i:Nat} {x:α},l[i]?=some x->p x=true->(l.take i).any p=false->l.any p=true/\l.findIdx p=i
 | [],_,_,h,_,_=>by simp at h
 |a::l,0,x,h,hx,_=>by
  simp at h;subst h;simp[List.findIdx_cons,hx]
 |a::l,i+1,x,h,hx,h0=>by
  rw[List.take_succ_cons,List.any_cons,K8]at h0;obtain⟨h1,h2⟩:=Ip (l:=l) (by simpa using h) hx h0.2;rw[List.any_cons,h1,Bool.or_true,List.findIdx_cons,h0.1,h2];exact⟨rfl,rfl⟩
theorem Lp {α:Type}{p:α->Bool}{l:List α}{i:Nat}{x:α}(h:l[i]?=some x)(h0:(l.take i).any p=false)(hx:p x=false):(l.take (i+1)).any p=false:=by
 rw[Fr,h,List.any_append,h0];simp[hx]
def Cf (s:List UInt8):Bool:=!DY s
def Ce (z:Int):Bool:=decide (z<0)||decide (z>999999999)
abbrev BR (z:Int):D:=i64 z
theorem WP (s:List UInt8):Aa C0 30 [AR s] (Am (Cf s)):=by
 refine A0.walk w1 SP rfl λF=>?_
 have cN:=QI (sb s);have e1:DY (sb s).data.toList=DY s:=rfl;rw[e1]at cN;unfold Cf;generalize DY s=b at*;refine AT Ad kB cN AA AA AA AA AA ?_;exact Ak rfl AB.out
theorem WQ (z:Int):Aa C0 33 [i64 z] (Am (Ce z)):=by
 refine A0.walk w1 SN rfl λF=>?_
 unfold Ce;cases h1:decide (z<0)
 ·refine AT Ad h1 AA AA AA AA AA AA ?_
  exact Ak rfl AB.out
 ·refine AT Ad h1 AA AA AA AA AA AA ?_
  exact Ak rfl AB.out
theorem eV (l:List (List UInt8))(nn:Bool)(hl:l.length<=100000):Aa C0 68 [.sl nn 1 (l.map AR),.clo (.func 30) [] []] (i64 (if l.any Cf then(l.findIdx Cf:Nat)else -1)):=by
 refine A0.walk w1 Sc rfl λF=>?_
 have hml:(l.map AR).length=l.length:=Bi ..;refine AT Ad kB AA AA AA AA AA AA ?_;refine AN.loop (α:=Nat×Nat) (λp=>⟨[(0,.sl nn 1 (l.map AR)),(1,.clo (.func 30) [] []),(4,i64 0),(7,i64 l.length),(8,i64 p.1)],[],p.2⟩) (λp=>l.length-p.1) (λp=>p.1<=l.length/\(l.take p.1).any Cf=false) (0,_) ⟨Cv _,rfl⟩ (by rw[hml];exact Ap) ?_;rintro⟨i,n1⟩ F ⟨h1,h0⟩;dsimp only at h1 h0⊢;rcases Ar i l.length with h2|h2
 ·obtain⟨x,hx⟩:∃x,l[i]?=some x:=⟨l[i],BK h2⟩
  have t1:decide (((i:Nat):Int)<((l.length:Nat):Int))=true:=BB;have hx':(l.map AR)[i]?=some (AR x):=by rw[BW,hx];rfl
  have wc:=wS (n:=i) (by omega);have cC:=WP x;cases hb:Cf x with
  |true=>
   rw[hb]at cC;obtain⟨e1,e2⟩:=Ip hx hb h0;refine AT Ad t1 hx' cC AA AA AA AA ?_;exact Ak (by rw[e1,e2];rfl) AB.out
  |false=>
   rw[hb]at cC;have h3:=Lp hx h0 hb;refine AT Ad (Bn t1 wc) hx' cC AA AA AA AA ?_;exact⟨(i+1,_),⟨by dsimp only;omega,h3⟩,by dsimp only;omega,Ap⟩
 ·have hi:i=l.length:=by omega
  subst hi;have t1:decide (((l.length:Nat):Int)<((l.length:Nat):Int))=false:=Au;rw[EJ (Ah _)]at h0;refine AT Ad t1 AA AA AA AA AA AA ?_;exact Ak (by rw[h0];rfl) AB.out
theorem bu (l:List (List UInt8))(nn:Bool)(hl:l.length<=100000):Aa C0 29 [.sl nn 1 (l.map AR),.clo (.func 30) [] []] (Am (l.any Cf)):=by
 refine A0.walk w1 SK rfl λF=>?_
 have cI:=eV l nn hl;have e1:decide ((if l.any Cf then((l.findIdx Cf:Nat):Int)else -1)>=0)=l.any Cf:=by
  cases l.any Cf
  ·rfl
  ·exact BX (by rw[AQ rfl];omega)
 generalize(if l.any Cf then((l.findIdx Cf:Nat):Int)else -1)=r at*;generalize l.any Cf=b at*;have hp:AB (D.sl nn 1 (l.map AR)):=Ao;generalize l.map AR=q at*;refine AT Ad e1 cI AA AA AA AA AA ?_;exact Ak rfl AB.out
theorem eU (l:List Int)(nn:Bool)(hl:l.length<=100000):Aa C0 69 [.sl nn 1 (l.map BR),.clo (.func 33) [] []] (i64 (if l.any Ce then(l.findIdx Ce:Nat)else -1)):=by
 refine A0.walk w1 Sd rfl λF=>?_
 have hml:(l.map BR).length=l.length:=Bi ..;refine AT Ad kB AA AA AA AA AA AA ?_;refine AN.loop (α:=Nat×Nat) (λp=>⟨[(0,.sl nn 1 (l.map BR)),(1,.clo (.func 33) [] []),(4,i64 0),(7,i64 l.length),(8,i64 p.1)],[],p.2⟩) (λp=>l.length-p.1) (λp=>p.1<=l.length/\(l.take p.1).any Ce=false) (0,_) ⟨Cv _,rfl⟩ (by rw[hml];exact Ap) ?_;rintro⟨i,n1⟩ F ⟨h1,h0⟩;dsimp only at h1 h0⊢;rcases Ar i l.length with h2|h2
 ·obtain⟨x,hx⟩:∃x,l[i]?=some x:=⟨l[i],BK h2⟩
  have t1:decide (((i:Nat):Int)<((l.length:Nat):Int))=true:=BB;have hx':(l.map BR)[i]?=some (BR x):=by rw[BW,hx];rfl
  have wc:=wS (n:=i) (by omega);have cC:=WQ x;cases hb:Ce x with
  |true=>
   rw[hb]at cC;obtain⟨e1,e2⟩:=Ip hx hb h0;refine AT Ad t1 hx' cC AA AA AA AA ?_;exact Ak (by rw[e1,e2];rfl) AB.out
  |false=>
   rw[hb]at cC;have h3:=Lp hx h0 hb;refine AT Ad (Bn t1 wc) hx' cC AA AA AA AA ?_;exact⟨(i+1,_),⟨by dsimp only;omega,h3⟩,by dsimp only;omega,Ap⟩
 ·have hi:i=l.length:=by omega
  subst hi;have t1:decide (((l.length:Nat):Int)<((l.length:Nat):Int))=false:=Au;rw[EJ (Ah _)]at h0;refine AT Ad t1 AA AA AA AA AA AA ?_;exact Ak (by rw[h0];rfl) AB.out
theorem bt (l:List Int)(nn:Bool)(hl:l.length<=100000):Aa C0 32 [.sl nn 1 (l.map BR),.clo (.func 33) [] []] (Am (l.any Ce)):=by
 refine A0.walk w1 SM rfl λF=>?_
 have cI:=eU l nn hl;have e1:decide ((if l.any Ce then((l.findIdx Ce:Nat):Int)else -1)>=0)=l.any Ce:=by
  cases l.any Ce
  ·rfl
  ·exact BX (by rw[AQ rfl];omega)
 generalize(if l.any Ce then((l.findIdx Ce:Nat):Int)else -1)=r at*;generalize l.any Ce=b at*;have hp:AB (D.sl nn 1 (l.map BR)):=Ao;generalize l.map BR=q at*;refine AT Ad e1 cI AA AA AA AA AA ?_;exact Ak rfl AB.out
abbrev Ef:Dr:=[(1,[0,1,2,3,4,5,6,7,8],[9])]
open Go.Proofs Go.RowKit
set_option maxRecDepth 20000
set_option maxHeartbeats 4000000
structure Bs where
 num:Int
 day:Int
 kind:List UInt8
 names:List (List UInt8)
 masses:List Int
def Bc (b1 b2:Bool)(e:Bs):D:=.agg [i64 e.num,i64 e.day,AR e.kind,.sl b1 1 (e.names.map AR),.sl b2 1 (e.masses.map BR)]
instance  (b1 b2:Bool)(e:Bs):AB (Bc b1 b2 e):=by unfold Bc;exact Ao
instance  (b1 b2:Bool)(e:Bs):Af (Bc b1 b2 e):=by unfold Bc;exact Ao
def Df (e:Bs):Nat:=
 if e.num<1\/e.num>1000 then 3 else if e.day<0\/e.day>100000 then 29 else match FM e.kind with
  |none=>20
  |some (a,b)=>if e.names.length≠a\/e.masses.length≠b then 2 else if e.names.any Cf then 8 else if e.masses.any Ce then 3 else 0
section
attribute [local irreducible] FY
theorem Ng (b1 b2:Bool)(e:Bs)(h1:e.names.length<=100000)(h2:e.masses.length<=100000):Aa C0 8 [Bc b1 b2 e] (i64 (Df e:Nat)):=by
 refine A0.walk w1 S3 rfl λF=>?_
 have dk:=Od none;have dp:AB (D.mp Fh (Fi (.prim (.pointer none)))):=⟨DA (n:=20) (by kernel_rfl)⟩
 obtain⟨num,day,kind,names,masses⟩:=e;dsimp only at h1 h2;have cN:=bu names b1 h1;have cM:=bt masses b2 h2;have lk:=QJ (.prim (.pointer none)) kind;unfold Df Bc;dsimp only;have hn:(names.map AR).length=names.length:=Bi ..;have hm:(masses.map BR).length=masses.length:=Bi ..;refine sR 0 ?_;cases hk:FM kind with
 |none=>
  rw[hk]at lk;dsimp only at lk⊢;refine AN.seq ?_;refine PA w1 100 [0,1,2,3,4,5,6,7,8] [9] 8 7 [4,3,2,1,0,5,7] (by kernel_rfl) (by kernel_rfl) ?_;refine Fw ?_;refine CT.same _ dk Ao ?_;refine KX (P0 (s:=sb kind) (a:=9) (b:=81) (z:=.agg #[.int .i64 0,.int .i64 0,.nilFunc]) (by kernel_rfl) rfl rfl lk) ?_;dsimp only[DT];refine Fw ?_;refine Fw ?_;rcases Int.lt_or_le num 1 with a1|a1
  ·have t1:decide (num<1)=true:=BX a1
   refine AT Ef t1 AA AA AA AA AA AA ?_;exact Ak (by rw[AQ (.inl a1)];rfl) AB.out
  have t1:decide (num<1)=false:=Au;rcases Int.lt_or_le 1000 num with a2|a2
  ·have t2:decide (num>1000)=true:=BX a2
   refine AT Ef (Bn t1 t2) AA AA AA AA AA AA ?_;exact Ak (by rw[AQ (.inr a2)];rfl) AB.out
  have t2:decide (num>1000)=false:=Au;rw[AP (show ¬(num<1\/num>1000) by omega)];rcases Int.lt_or_le day 0 with a3|a3
  ·have t3:decide (day<0)=true:=BX a3
   refine AT Ef (Cp t1 t2 t3) AA AA AA AA AA AA ?_;exact Ak (by rw[AQ (.inl a3)];rfl) AB.out
  have t3:decide (day<0)=false:=Au;rcases Int.lt_or_le 100000 day with a4|a4
  ·have t4:decide (day>100000)=true:=BX a4
   refine AT Ef (Ea t1 t2 t3 t4) AA AA AA AA AA AA ?_;exact Ak (by rw[AQ (.inr a4)];rfl) AB.out
  have t4:decide (day>100000)=false:=Au;rw[AP (show ¬(day<0\/day>100000) by omega)];refine AT Ef (Ea t1 t2 t3 t4) AA AA AA AA AA AA ?_;exact Ak rfl AB.out
 |some p=>
  obtain⟨ka,kb⟩:=p;rw[hk]at lk;obtain⟨fn,lk⟩:=lk;dsimp only at lk⊢;refine AN.seq ?_;refine PA w1 100 [0,1,2,3,4,5,6,7,8] [9] 8 7 [4,3,2,1,0,5,7] (by kernel_rfl) (by kernel_rfl) ?_;refine Fw ?_;refine CT.same _ dk Ao ?_;refine KX (Nv (s:=sb kind) (a:=9) (b:=81) (z:=.agg #[.int .i64 0,.int .i64 0,.nilFunc]) (by kernel_rfl) rfl rfl lk) ?_;dsimp only[DT];refine Fw ?_;refine Fw ?_;rcases Int.lt_or_le num 1 with a1|a1
  ·have t1:decide (num<1)=true:=BX a1
   refine AT Ef t1 AA AA AA AA AA AA ?_;exact Ak (by rw[AQ (.inl a1)];rfl) AB.out
  have t1:decide (num<1)=false:=Au;rcases Int.lt_or_le 1000 num with a2|a2
  ·have t2:decide (num>1000)=true:=BX a2
   refine AT Ef (Bn t1 t2) AA AA AA AA AA AA ?_;exact Ak (by rw[AQ (.inr a2)];rfl) AB.out
  have t2:decide (num>1000)=false:=Au;rw[AP (show ¬(num<1\/num>1000) by omega)];rcases Int.lt_or_le day 0 with a3|a3
  ·have t3:decide (day<0)=true:=BX a3
   refine AT Ef (Cp t1 t2 t3) AA AA AA AA AA AA ?_;exact Ak (by rw[AQ (.inl a3)];rfl) AB.out
  have t3:decide (day<0)=false:=Au;rcases Int.lt_or_le 100000 day with a4|a4
  ·have t4:decide (day>100000)=true:=BX a4
   refine AT Ef (Ea t1 t2 t3 t4) AA AA AA AA AA AA ?_;exact Ak (by rw[AQ (.inr a4)];rfl) AB.out
  have t4:decide (day>100000)=false:=Au;rw[AP (show ¬(day<0\/day>100000) by omega)]
  by_cases a5:names.length=ka
  rotate_left
  ·have t5:(((names.length:Nat):Int) != ((ka:Nat):Int))=true:=by rw[bne_iff_ne];omega
   refine AT Ef (Gy t1 t2 t3 t4 hn t5) AA AA AA AA AA AA ?_;exact Ak (by rw[AQ (.inl a5)];rfl) AB.out
  have t5:(((names.length:Nat):Int) != ((ka:Nat):Int))=false:=by rw[a5];exact bne_self_eq_false _
  by_cases a6:masses.length=kb
  rotate_left
  ·have t6:(((masses.length:Nat):Int) != ((kb:Nat):Int))=true:=by rw[bne_iff_ne];omega
   refine AT Ef (Eu t1 t2 t3 t4 hn hm (Bn t5 t6)) AA AA AA AA AA AA ?_;exact Ak (by rw[AQ (.inr a6)];rfl) AB.out
  have t6:(((masses.length:Nat):Int) != ((kb:Nat):Int))=false:=by rw[a6];exact bne_self_eq_false _
  rw[AP (show ¬(names.length≠ka\/masses.length≠kb) by omega)];cases a7:names.any Cf with
  |true=>
   rw[a7]at cN;refine AT Ef (Eu t1 t2 t3 t4 hn hm (Bn t5 t6)) cN AA AA AA AA AA ?_;exact Ak rfl AB.out
  |false=>
   rw[a7]at cN;cases a8:masses.any Ce with
   |true=>
    rw[a8]at cM;refine AT Ef (Eu t1 t2 t3 t4 hn hm (Bn t5 t6)) cN cM AA AA AA AA ?_;exact Ak rfl AB.out
   |false=>
    rw[a8]at cM;refine AT Ef (Eu t1 t2 t3 t4 hn hm (Bn t5 t6)) cN cM AA AA AA AA ?_;exact Ak rfl AB.out
end
open Go.ChangeShapes Go.WideShapes
def LE (P:Program)(t:Nat):Option (List (Nat×Nat×Nat)):=match P.underlying t with
 |some (.struct fs)=>some (fs.toList.map λf=>(f.type,f.offset,P.cellsOf f.type))
 |_=>none
section
variable {H:Type} {enc:TypeId×Value->H} {W:World} {fuel:Nat} {cs:List Value} {x:DataW H×List MemPlace} {t:TypeId}
theorem eM {l:List (Nat×Nat×Nat)}{m:Nat}(hs:LE Tryz.prog t=some l)(hm:Tryz.prog.cellsOf t=m)(h:DataW.trod enc Tryz.prog W 0 (λ_=>true) true fuel t cs=some x):
  cs.length=m/\∃n,∀(i u off k:Nat),l[i]?=some (u,off,k)->∃y,DataW.trod enc Tryz.prog W 0 (λ_=>true) true n u ((cs.drop off).take k)=some y:=by
 unfold LE at hs;split at hs
 ·rename_i fs hu
  obtain⟨h1,n,h2⟩:=U6 hu h;refine⟨h1.trans hm,n,λi u off k hl=>?_⟩;obtain rfl:=Hb hs;rw[BW]at hl;obtain⟨f,hf,he⟩:=GK.1 hl;cases he;exact h2 i f (by rw[<-Er];exact hf)
 ·cases hs
theorem MI {a b c:Nat}{p q:List D}(h:Cu W ((cs.drop a).take b) p)(k:Cu W ((cs.drop (a+b)).take c) q):Cu W ((cs.drop a).take (b+c)) (p++q):=by
 rw[List.take_add,List.drop_drop];exact h.append k
theorem bK {n:Nat}{p:List D}(hn:cs.length=n)(h:Cu W ((cs.drop 0).take n) p):Cu W cs p:=by
 rw[List.drop_zero,<-hn,List.take_length]at h;exact h
theorem QR (h:DataW.trod enc Tryz.prog W 0 (λ_=>true) true fuel 9 cs=some x):∃l:List UInt8,Cu W cs [str (sb l)]/\l.length<=maxLen:=bM (by kernel_rfl) h
theorem OS (h:DataW.trod enc Tryz.prog W 0 (λ_=>true) true fuel 3 cs=some x):∃z:Int,Cu W cs [i64 z]:=by
 obtain⟨z,_,_,h⟩:=bL (by kernel_rfl) h;exact⟨z,h⟩
theorem Vr (h:DataW.trod enc Tryz.prog W 0 (λ_=>true) true fuel 22 cs=some x):∃l:List (List UInt8),Cu W cs [.sl false 1 (l.map AR)]/\(∀a∈l,a.length<=maxLen)/\l.length<=maxLen:=
 SW (g:=AR) (ok:=λa=>a.length<=maxLen) (e:=9) (by kernel_rfl) (by kernel_rfl) (by decide) (λ_ _ _ h=>QR h) h
theorem Vq (h:DataW.trod enc Tryz.prog W 0 (λ_=>true) true fuel 23 cs=some x):∃l:List Int,Cu W cs [.sl false 1 (l.map BR)]/\(∀a∈l,True)/\l.length<=maxLen:=
 SW (g:=BR) (ok:=λ_=>True) (e:=3) (by kernel_rfl) (by kernel_rfl) (by decide) (λ_ _ _ h=>by
  obtain⟨z,r⟩:=OS h;exact⟨z,r,trivial⟩) h
def bs (e:Bs):Prop:=e.kind.length<=maxLen/\e.names.length<=maxLen/\e.masses.length<=maxLen/\∀s∈e.names,s.length<=maxLen
theorem Vp (h:DataW.trod enc Tryz.prog W 0 (λ_=>true) true fuel 25 cs=some x):∃e:Bs,Cu W cs (Bc false false e).cells/\bs e:=by
 obtain⟨h1,n,h2⟩:=eM (l:=[(3,0,1),(3,1,1),(9,2,1),(22,3,1),(23,4,1)]) (m:=5) (by kernel_rfl) (by kernel_rfl) h;obtain⟨y0,k0⟩:=h2 0 _ _ _ rfl;obtain⟨y1,k1⟩:=h2 1 _ _ _ rfl;obtain⟨y2,k2⟩:=h2 2 _ _ _ rfl;obtain⟨y3,k3⟩:=h2 3 _ _ _ rfl;obtain⟨y4,k4⟩:=h2 4 _ _ _ rfl;obtain⟨a0,r0⟩:=OS k0;obtain⟨a1,r1⟩:=OS k1;obtain⟨a2,r2,l2⟩:=QR k2;obtain⟨a3,r3,m3,l3⟩:=Vr k3;obtain⟨a4,r4,_,l4⟩:=Vq k4;exact⟨⟨a0,a1,a2,a3,a4⟩,bK h1 (MI (b:=1) (c:=4) r0 (MI (b:=1) (c:=3) r1 (MI (b:=1) (c:=2) r2 (MI (b:=1) (c:=1) r3 r4)))),l2,l3,l4,m3⟩
end
end Go.Ide
