/- The layer of own lemmas and contracts, part 8. -/
import Derived.Test.YtmpdcldckjeklacGreatDoorAE7
import Derived.Test.YtmpdcldckjeklacGreatDoorAE4
set_option linter.unusedVariables false
set_option linter.unusedSimpArgs false
namespace Go.Ide
open Go.Proofs Go.RowKit
set_option maxRecDepth 20000
set_option maxHeartbeats 4000000
def En (k:List UInt8):Option (Nat×Nat):=
 if k=[98,105,110]then some (2,4)
 else if k=[97,114,114,105,118,101]then some (2,1)
 else if k=[115,116,111,114,101]then some (2,2)
 else if k=[109,111,118,101]then some (2,3)
 else if k=[100,114,121]then some (2,4)
 else if k=[115,104,105,112]then some (2,1)
 else if k=[98,108,101,110,100]then some (2,1)
 else if k=[108,111,97,100]then some (2,2)
 else if k=[99,108,111,115,101]then some (1,0)
 else if k=[105,115,115,117,101]then some (2,1)
 else if k=[99,97,110,99,101,108]then some (2,1)
 else none
theorem Ly {P:List UInt8->Option (Nat×Nat)->Prop}(k:List UInt8)(h0:P [98,105,110] (some (2,4)))(h1:P [97,114,114,105,118,101] (some (2,1)))(h2:P [115,116,111,114,101] (some (2,2)))(h3:P [109,111,118,101] (some (2,3)))(h4:P [100,114,121] (some (2,4)))(h5:P [115,104,105,112] (some (2,1)))(h6:P [98,108,101,110,100] (some (2,1)))(h7:P [108,111,97,100] (some (2,2)))(h8:P [99,108,111,115,101] (some (1,0)))(h9:P [105,115,115,117,101] (some (2,1)))(h10:P [99,97,110,99,101,108] (some (2,1)))(hn:¬k=[98,105,110]->¬k=[97,114,114,105,118,101]->¬k=[115,116,111,114,101]->¬k=[109,111,118,101]->¬k=[100,114,121]->¬k=[115,104,105,112]->¬k=[98,108,101,110,100]->¬k=[108,111,97,100]->¬k=[99,108,111,115,101]->¬k=[105,115,115,117,101]->¬k=[99,97,110,99,101,108]->P k none):P k (En k):=by
 unfold En
 by_cases e0:k=[98,105,110]
 ·subst e0;exact h0
 rw[AN e0]
 by_cases e1:k=[97,114,114,105,118,101]
 ·subst e1;exact h1
 rw[AN e1]
 by_cases e2:k=[115,116,111,114,101]
 ·subst e2;exact h2
 rw[AN e2]
 by_cases e3:k=[109,111,118,101]
 ·subst e3;exact h3
 rw[AN e3]
 by_cases e4:k=[100,114,121]
 ·subst e4;exact h4
 rw[AN e4]
 by_cases e5:k=[115,104,105,112]
 ·subst e5;exact h5
 rw[AN e5]
 by_cases e6:k=[98,108,101,110,100]
 ·subst e6;exact h6
 rw[AN e6]
 by_cases e7:k=[108,111,97,100]
 ·subst e7;exact h7
 rw[AN e7]
 by_cases e8:k=[99,108,111,115,101]
 ·subst e8;exact h8
 rw[AN e8]
 by_cases e9:k=[105,115,115,117,101]
 ·subst e9;exact h9
 rw[AN e9]
 by_cases e10:k=[99,97,110,99,101,108]
 ·subst e10;exact h10
 rw[AN e10];exact hn e0 e1 e2 e3 e4 e5 e6 e7 e8 e9 e10
theorem Qc (d:D)(k:List UInt8):match En k with
  |some p=>∃f,EX (sb k) GE (GF d)=some (some (.agg [i64 (p.1:Nat),i64 (p.2:Nat),.clo (.func f) [d] []]))
  |none=>EX (sb k) GE (GF d)=some none:=by
 refine Ly (P:=λk o=>match o with
  |some p=>∃f,EX (sb k) GE (GF d)=some (some (.agg [i64 (p.1:Nat),i64 (p.2:Nat),.clo (.func f) [d] []]))
  |none=>EX (sb k) GE (GF d)=some none) k ⟨86,by kernel_rfl⟩ ⟨87,by kernel_rfl⟩ ⟨88,by kernel_rfl⟩ ⟨89,by kernel_rfl⟩ ⟨89,by kernel_rfl⟩ ⟨90,by kernel_rfl⟩ ⟨90,by kernel_rfl⟩ ⟨91,by kernel_rfl⟩ ⟨92,by kernel_rfl⟩ ⟨93,by kernel_rfl⟩ ⟨94,by kernel_rfl⟩ ?_
 intro e0 e1 e2 e3 e4 e5 e6 e7 e8 e9 e10;have key:∀m:List UInt8,¬k=m->BL (sb k) (sb m)=false:=λm h=>by rw[Ce];exact B4 h
 have q0:BL (sb k) ⟨#[98,105,110]⟩=false:=key _ e0;have q1:BL (sb k) ⟨#[97,114,114,105,118,101]⟩=false:=key _ e1;have q2:BL (sb k) ⟨#[115,116,111,114,101]⟩=false:=key _ e2;have q3:BL (sb k) ⟨#[109,111,118,101]⟩=false:=key _ e3;have q4:BL (sb k) ⟨#[100,114,121]⟩=false:=key _ e4;have q5:BL (sb k) ⟨#[115,104,105,112]⟩=false:=key _ e5;have q6:BL (sb k) ⟨#[98,108,101,110,100]⟩=false:=key _ e6;have q7:BL (sb k) ⟨#[108,111,97,100]⟩=false:=key _ e7;have q8:BL (sb k) ⟨#[99,108,111,115,101]⟩=false:=key _ e8;have q9:BL (sb k) ⟨#[105,115,115,117,101]⟩=false:=key _ e9;have q10:BL (sb k) ⟨#[99,97,110,99,101,108]⟩=false:=key _ e10;simp only[GE,GF,EX,q0,q1,q2,q3,q4,q5,q6,q7,q8,q9,q10]
theorem JL {α:Type}{p:α->Bool}:∀ {l:List α} {i:Nat} {x:α},l[i]?=some x->p x=true->(l.take i).any p=false->l.any p=true/\l.findIdx p=i
 | [],_,_,h,_,_=>by simp at h
 |a::l,0,x,h,hx,_=>by
  simp at h;subst h;simp[List.findIdx_cons,hx]
 |a::l,i+1,x,h,hx,h0=>by
  rw[List.take_succ_cons,List.any_cons,LY]at h0;obtain⟨h1,h2⟩:=JL (l:=l) (by simpa using h) hx h0.2;rw[List.any_cons,h1,Bool.or_true,List.findIdx_cons,h0.1,h2];exact⟨rfl,rfl⟩
theorem L4 {α:Type}{p:α->Bool}{l:List α}{i:Nat}{x:α}(h:l[i]?=some x)(h0:(l.take i).any p=false)(hx:p x=false):(l.take (i+1)).any p=false:=by
 rw[EG,h,List.any_append,h0];simp[hx]
def Cp (s:List UInt8):Bool:=!Dm s
def Co (z:Int):Bool:=decide (z<0)||decide (z>999999999)
abbrev BQ (z:Int):D:=i64 z
theorem XK (s:List UInt8):Aa C0 80 [AH s] (Ai (Cp s)):=by
 refine Ax.walk w1 TV rfl λF=>?_
 have cN:=Qb (sb s);have e1:Dm (sb s).data.toList=Dm s:=rfl;rw[e1]at cN;unfold Cp;generalize Dm s=b at*;refine AJ AU kB cN AA AA AA AA AA ?_;exact Ac rfl AB.out
theorem XL (z:Int):Aa C0 82 [i64 z] (Ai (Co z)):=by
 refine Ax.walk w1 TX rfl λF=>?_
 unfold Co;cases h1:decide (z<0)
 ·refine AJ AU h1 AA AA AA AA AA AA ?_
  exact Ac rfl AB.out
 ·refine AJ AU h1 AA AA AA AA AA AA ?_
  exact Ac rfl AB.out
theorem gJ (l:List (List UInt8))(nn:Bool)(hl:l.length<=100000):Aa C0 127 [.sl nn 1 (l.map AH),.clo (.func 80) [] []] (i64 (if l.any Cp then(l.findIdx Cp:Nat)else -1)):=by
 refine Ax.walk w1 Sc rfl λF=>?_
 have hml:(l.map AH).length=l.length:=BP ..;refine AJ AU kB AA AA AA AA AA AA ?_;refine AO.loop (α:=Nat×Nat) (λp=>⟨[(0,.sl nn 1 (l.map AH)),(1,.clo (.func 80) [] []),(4,i64 0),(7,i64 l.length),(8,i64 p.1)],[],p.2⟩) (λp=>l.length-p.1) (λp=>p.1<=l.length/\(l.take p.1).any Cp=false) (0,_) ⟨Bu _,rfl⟩ (by rw[hml];exact Al) ?_;rintro⟨i,n1⟩ F ⟨h1,h0⟩;dsimp only at h1 h0⊢;rcases Aq i l.length with h2|h2
 ·obtain⟨x,hx⟩:∃x,l[i]?=some x:=⟨l[i],BI h2⟩
  have t1:decide (((i:Nat):Int)<((l.length:Nat):Int))=true:=Av;have hx':(l.map AH)[i]?=some (AH x):=by rw[Bf,hx];rfl
  have wc:=wS (n:=i) (by omega);have cC:=XK x;cases hb:Cp x with
  |true=>
   rw[hb]at cC;obtain⟨e1,e2⟩:=JL hx hb h0;refine AJ AU t1 hx' cC AA AA AA AA ?_;exact Ac (by rw[e1,e2];rfl) AB.out
  |false=>
   rw[hb]at cC;have h3:=L4 hx h0 hb;refine AJ AU (BJ t1 wc) hx' cC AA AA AA AA ?_;exact⟨(i+1,_),⟨by dsimp only;omega,h3⟩,by dsimp only;omega,Al⟩
 ·have hi:i=l.length:=by omega
  subst hi;have t1:decide (((l.length:Nat):Int)<((l.length:Nat):Int))=false:=Ap;rw[C3 (Ad _)]at h0;refine AJ AU t1 AA AA AA AA AA AA ?_;exact Ac (by rw[h0];rfl) AB.out
theorem d6 (l:List (List UInt8))(nn:Bool)(hl:l.length<=100000):Aa C0 79 [.sl nn 1 (l.map AH),.clo (.func 80) [] []] (Ai (l.any Cp)):=by
 refine Ax.walk w1 TU rfl λF=>?_
 have cI:=gJ l nn hl;have e1:decide ((if l.any Cp then((l.findIdx Cp:Nat):Int)else -1)>=0)=l.any Cp:=by
  cases l.any Cp
  ·rfl
  ·exact BW (by rw[AM rfl];omega)
 generalize(if l.any Cp then((l.findIdx Cp:Nat):Int)else -1)=r at*;generalize l.any Cp=b at*;have hp:AB (D.sl nn 1 (l.map AH)):=An;generalize l.map AH=q at*;refine AJ AU e1 cI AA AA AA AA AA ?_;exact Ac rfl AB.out
theorem gI (l:List Int)(nn:Bool)(hl:l.length<=100000):Aa C0 128 [.sl nn 1 (l.map BQ),.clo (.func 82) [] []] (i64 (if l.any Co then(l.findIdx Co:Nat)else -1)):=by
 refine Ax.walk w1 Sd rfl λF=>?_
 have hml:(l.map BQ).length=l.length:=BP ..;refine AJ AU kB AA AA AA AA AA AA ?_;refine AO.loop (α:=Nat×Nat) (λp=>⟨[(0,.sl nn 1 (l.map BQ)),(1,.clo (.func 82) [] []),(4,i64 0),(7,i64 l.length),(8,i64 p.1)],[],p.2⟩) (λp=>l.length-p.1) (λp=>p.1<=l.length/\(l.take p.1).any Co=false) (0,_) ⟨Bu _,rfl⟩ (by rw[hml];exact Al) ?_;rintro⟨i,n1⟩ F ⟨h1,h0⟩;dsimp only at h1 h0⊢;rcases Aq i l.length with h2|h2
 ·obtain⟨x,hx⟩:∃x,l[i]?=some x:=⟨l[i],BI h2⟩
  have t1:decide (((i:Nat):Int)<((l.length:Nat):Int))=true:=Av;have hx':(l.map BQ)[i]?=some (BQ x):=by rw[Bf,hx];rfl
  have wc:=wS (n:=i) (by omega);have cC:=XL x;cases hb:Co x with
  |true=>
   rw[hb]at cC;obtain⟨e1,e2⟩:=JL hx hb h0;refine AJ AU t1 hx' cC AA AA AA AA ?_;exact Ac (by rw[e1,e2];rfl) AB.out
  |false=>
   rw[hb]at cC;have h3:=L4 hx h0 hb;refine AJ AU (BJ t1 wc) hx' cC AA AA AA AA ?_;exact⟨(i+1,_),⟨by dsimp only;omega,h3⟩,by dsimp only;omega,Al⟩
 ·have hi:i=l.length:=by omega
  subst hi;have t1:decide (((l.length:Nat):Int)<((l.length:Nat):Int))=false:=Ap;rw[C3 (Ad _)]at h0;refine AJ AU t1 AA AA AA AA AA AA ?_;exact Ac (by rw[h0];rfl) AB.out
theorem d5 (l:List Int)(nn:Bool)(hl:l.length<=100000):Aa C0 81 [.sl nn 1 (l.map BQ),.clo (.func 82) [] []] (Ai (l.any Co)):=by
 refine Ax.walk w1 TW rfl λF=>?_
 have cI:=gI l nn hl;have e1:decide ((if l.any Co then((l.findIdx Co:Nat):Int)else -1)>=0)=l.any Co:=by
  cases l.any Co
  ·rfl
  ·exact BW (by rw[AM rfl];omega)
 generalize(if l.any Co then((l.findIdx Co:Nat):Int)else -1)=r at*;generalize l.any Co=b at*;have hp:AB (D.sl nn 1 (l.map BQ)):=An;generalize l.map BQ=q at*;refine AJ AU e1 cI AA AA AA AA AA ?_;exact Ac rfl AB.out
abbrev Ex:Dr:=[(1,[0,1,2,3,4,5,6,7,8],[9])]
open Go.Proofs Go.RowKit
set_option maxRecDepth 20000
set_option maxHeartbeats 4000000
structure BV where
 num:Int
 day:Int
 kind:List UInt8
 names:List (List UInt8)
 masses:List Int
def As (b1 b2:Bool)(e:BV):D:=.agg [i64 e.num,i64 e.day,AH e.kind,.sl b1 1 (e.names.map AH),.sl b2 1 (e.masses.map BQ)]
instance  (b1 b2:Bool)(e:BV):AB (As b1 b2 e):=by unfold As;exact An
instance  (b1 b2:Bool)(e:BV):Aj (As b1 b2 e):=by unfold As;exact An
def Cq (e:BV):Nat:=
 if e.num<1\/e.num>1000 then 3 else if e.day<0\/e.day>100000 then 29 else match En e.kind with
  |none=>20
  |some (a,b)=>if e.names.length≠a\/e.masses.length≠b then 2 else if e.names.any Cp then 8 else if e.masses.any Co then 3 else 0
section
attribute [local irreducible] F6
theorem Qm (b1 b2:Bool)(e:BV)(h1:e.names.length<=100000)(h2:e.masses.length<=100000):Aa C0 42 [As b1 b2 e] (i64 (Cq e:Nat)):=by
 refine Ax.walk w1 TN rfl λF=>?_
 have dk:=PC none;have dp:AB (D.mp GE (GF (.prim (.pointer none)))):=⟨DL (n:=20) (by kernel_rfl)⟩
 obtain⟨num,day,kind,names,masses⟩:=e;dsimp only at h1 h2;have cN:=d6 names b1 h1;have cM:=d5 masses b2 h2;have lk:=Qc (.prim (.pointer none)) kind;unfold Cq As;dsimp only;have hn:(names.map AH).length=names.length:=BP ..;have hm:(masses.map BQ).length=masses.length:=BP ..;refine sR 0 ?_;cases hk:En kind with
 |none=>
  rw[hk]at lk;dsimp only at lk⊢;refine AO.seq ?_;refine ND w1 100 [0,1,2,3,4,5,6,7,8] [9] 8 7 [4,3,2,1,0,5,7] (by kernel_rfl) (by kernel_rfl) ?_;refine GT ?_;refine CX.same _ dk An ?_;refine K1 (Qs (s:=sb kind) (a:=9) (b:=125) (z:=.agg #[.int .i64 0,.int .i64 0,.nilFunc]) (by kernel_rfl) rfl rfl lk) ?_;dsimp only[Dh];refine GT ?_;refine GT ?_;rcases Int.lt_or_le num 1 with a1|a1
  ·have t1:decide (num<1)=true:=BW a1
   refine AJ Ex t1 AA AA AA AA AA AA ?_;exact Ac (by rw[AM (.inl a1)];rfl) AB.out
  have t1:decide (num<1)=false:=Ap;rcases Int.lt_or_le 1000 num with a2|a2
  ·have t2:decide (num>1000)=true:=BW a2
   refine AJ Ex (BJ t1 t2) AA AA AA AA AA AA ?_;exact Ac (by rw[AM (.inr a2)];rfl) AB.out
  have t2:decide (num>1000)=false:=Ap;rw[AN (show ¬(num<1\/num>1000) by omega)];rcases Int.lt_or_le day 0 with a3|a3
  ·have t3:decide (day<0)=true:=BW a3
   refine AJ Ex (CK t1 t2 t3) AA AA AA AA AA AA ?_;exact Ac (by rw[AM (.inl a3)];rfl) AB.out
  have t3:decide (day<0)=false:=Ap;rcases Int.lt_or_le 100000 day with a4|a4
  ·have t4:decide (day>100000)=true:=BW a4
   refine AJ Ex (Cs t1 t2 t3 t4) AA AA AA AA AA AA ?_;exact Ac (by rw[AM (.inr a4)];rfl) AB.out
  have t4:decide (day>100000)=false:=Ap;rw[AN (show ¬(day<0\/day>100000) by omega)];refine AJ Ex (Cs t1 t2 t3 t4) AA AA AA AA AA AA ?_;exact Ac rfl AB.out
 |some p=>
  obtain⟨ka,kb⟩:=p;rw[hk]at lk;obtain⟨fn,lk⟩:=lk;dsimp only at lk⊢;refine AO.seq ?_;refine ND w1 100 [0,1,2,3,4,5,6,7,8] [9] 8 7 [4,3,2,1,0,5,7] (by kernel_rfl) (by kernel_rfl) ?_;refine GT ?_;refine CX.same _ dk An ?_;refine K1 (OQ (s:=sb kind) (a:=9) (b:=125) (z:=.agg #[.int .i64 0,.int .i64 0,.nilFunc]) (by kernel_rfl) rfl rfl lk) ?_;dsimp only[Dh];refine GT ?_;refine GT ?_;rcases Int.lt_or_le num 1 with a1|a1
  ·have t1:decide (num<1)=true:=BW a1
   refine AJ Ex t1 AA AA AA AA AA AA ?_;exact Ac (by rw[AM (.inl a1)];rfl) AB.out
  have t1:decide (num<1)=false:=Ap;rcases Int.lt_or_le 1000 num with a2|a2
  ·have t2:decide (num>1000)=true:=BW a2
   refine AJ Ex (BJ t1 t2) AA AA AA AA AA AA ?_;exact Ac (by rw[AM (.inr a2)];rfl) AB.out
  have t2:decide (num>1000)=false:=Ap;rw[AN (show ¬(num<1\/num>1000) by omega)];rcases Int.lt_or_le day 0 with a3|a3
  ·have t3:decide (day<0)=true:=BW a3
   refine AJ Ex (CK t1 t2 t3) AA AA AA AA AA AA ?_;exact Ac (by rw[AM (.inl a3)];rfl) AB.out
  have t3:decide (day<0)=false:=Ap;rcases Int.lt_or_le 100000 day with a4|a4
  ·have t4:decide (day>100000)=true:=BW a4
   refine AJ Ex (Cs t1 t2 t3 t4) AA AA AA AA AA AA ?_;exact Ac (by rw[AM (.inr a4)];rfl) AB.out
  have t4:decide (day>100000)=false:=Ap;rw[AN (show ¬(day<0\/day>100000) by omega)]
  by_cases a5:names.length=ka
  rotate_left
  ·have t5:(((names.length:Nat):Int) != ((ka:Nat):Int))=true:=by rw[bne_iff_ne];omega
   refine AJ Ex (D7 t1 t2 t3 t4 hn t5) AA AA AA AA AA AA ?_;exact Ac (by rw[AM (.inl a5)];rfl) AB.out
  have t5:(((names.length:Nat):Int) != ((ka:Nat):Int))=false:=by rw[a5];exact bne_self_eq_false _
  by_cases a6:masses.length=kb
  rotate_left
  ·have t6:(((masses.length:Nat):Int) != ((kb:Nat):Int))=true:=by rw[bne_iff_ne];omega
   refine AJ Ex (CL t1 t2 t3 t4 hn hm (BJ t5 t6)) AA AA AA AA AA AA ?_;exact Ac (by rw[AM (.inr a6)];rfl) AB.out
  have t6:(((masses.length:Nat):Int) != ((kb:Nat):Int))=false:=by rw[a6];exact bne_self_eq_false _
  rw[AN (show ¬(names.length≠ka\/masses.length≠kb) by omega)];cases a7:names.any Cp with
  |true=>
   rw[a7]at cN;refine AJ Ex (CL t1 t2 t3 t4 hn hm (BJ t5 t6)) cN AA AA AA AA AA ?_;exact Ac rfl AB.out
  |false=>
   rw[a7]at cN;cases a8:masses.any Co with
   |true=>
    rw[a8]at cM;refine AJ Ex (CL t1 t2 t3 t4 hn hm (BJ t5 t6)) cN cM AA AA AA AA ?_;exact Ac rfl AB.out
   |false=>
    rw[a8]at cM;refine AJ Ex (CL t1 t2 t3 t4 hn hm (BJ t5 t6)) cN cM AA AA AA AA ?_;exact Ac rfl AB.out
end
open Go.ChangeShapes Go.WideShapes
def Ld (P:Program)(t:Nat):Option (List (Nat×Nat×Nat)):=match P.underlying t with
 |some (.struct fs)=>some (fs.toList.map λf=>(f.type,f.offset,P.cellsOf f.type))
 |_=>none
section
variable {H:Type} {enc:TypeId×Value->H} {W:World} {fuel:Nat} {cs:List Value} {x:DataW H×List MemPlace} {t:TypeId}
theorem gB {l:List (Nat×Nat×Nat)}{m:Nat}(hs:Ld Tryz.prog t=some l)(hm:Tryz.prog.cellsOf t=m)(h:DataW.trod enc Tryz.prog W 0 (λ_=>true) true fuel t cs=some x):
  cs.length=m/\∃n,∀(i u off k:Nat),l[i]?=some (u,off,k)->∃y,DataW.trod enc Tryz.prog W 0 (λ_=>true) true n u ((cs.drop off).take k)=some y:=by
 unfold Ld at hs;split at hs
 ·rename_i fs hu
  obtain⟨h1,n,h2⟩:=Vs hu h;refine⟨h1.trans hm,n,λi u off k hl=>?_⟩;obtain rfl:=H9 hs;rw[Bf]at hl;obtain⟨f,hf,he⟩:=Gm.1 hl;cases he;exact h2 i f (by rw[<-FC];exact hf)
 ·cases hs
theorem Mc {a b c:Nat}{p q:List D}(h:Cn W ((cs.drop a).take b) p)(k:Cn W ((cs.drop (a+b)).take c) q):Cn W ((cs.drop a).take (b+c)) (p++q):=by
 rw[List.take_add,List.drop_drop];exact h.append k
theorem cw {n:Nat}{p:List D}(hn:cs.length=n)(h:Cn W ((cs.drop 0).take n) p):Cn W cs p:=by
 rw[List.drop_zero,<-hn,List.take_length]at h;exact h
theorem ON (h:DataW.trod enc Tryz.prog W 0 (λ_=>true) true fuel 9 cs=some x):∃l:List UInt8,Cn W cs [str (sb l)]/\l.length<=maxLen:=cy (by kernel_rfl) h
theorem O4 (h:DataW.trod enc Tryz.prog W 0 (λ_=>true) true fuel 3 cs=some x):∃z:Int,Cn W cs [i64 z]:=by
 obtain⟨z,_,_,h⟩:=cx (by kernel_rfl) h;exact⟨z,h⟩
theorem XA (h:DataW.trod enc Tryz.prog W 0 (λ_=>true) true fuel 22 cs=some x):∃l:List (List UInt8),Cn W cs [.sl false 1 (l.map AH)]/\(∀a∈l,a.length<=maxLen)/\l.length<=maxLen:=
 TH (g:=AH) (ok:=λa=>a.length<=maxLen) (e:=9) (by kernel_rfl) (by kernel_rfl) (by decide) (λ_ _ _ h=>ON h) h
theorem W9 (h:DataW.trod enc Tryz.prog W 0 (λ_=>true) true fuel 23 cs=some x):∃l:List Int,Cn W cs [.sl false 1 (l.map BQ)]/\(∀a∈l,True)/\l.length<=maxLen:=
 TH (g:=BQ) (ok:=λ_=>True) (e:=3) (by kernel_rfl) (by kernel_rfl) (by decide) (λ_ _ _ h=>by
  obtain⟨z,r⟩:=O4 h;exact⟨z,r,trivial⟩) h
def d4 (e:BV):Prop:=e.kind.length<=maxLen/\e.names.length<=maxLen/\e.masses.length<=maxLen/\∀s∈e.names,s.length<=maxLen
theorem W8 (h:DataW.trod enc Tryz.prog W 0 (λ_=>true) true fuel 25 cs=some x):∃e:BV,Cn W cs (As false false e).cells/\d4 e:=by
 obtain⟨h1,n,h2⟩:=gB (l:=[(3,0,1),(3,1,1),(9,2,1),(22,3,1),(23,4,1)]) (m:=5) (by kernel_rfl) (by kernel_rfl) h;obtain⟨y0,k0⟩:=h2 0 _ _ _ rfl;obtain⟨y1,k1⟩:=h2 1 _ _ _ rfl;obtain⟨y2,k2⟩:=h2 2 _ _ _ rfl;obtain⟨y3,k3⟩:=h2 3 _ _ _ rfl;obtain⟨y4,k4⟩:=h2 4 _ _ _ rfl;obtain⟨a0,r0⟩:=O4 k0;obtain⟨a1,r1⟩:=O4 k1;obtain⟨a2,r2,l2⟩:=ON k2;obtain⟨a3,r3,m3,l3⟩:=XA k3;obtain⟨a4,r4,_,l4⟩:=W9 k4;exact⟨⟨a0,a1,a2,a3,a4⟩,cw h1 (Mc (b:=1) (c:=4) r0 (Mc (b:=1) (c:=3) r1 (Mc (b:=1) (c:=2) r2 (Mc (b:=1) (c:=1) r3 r4)))),l2,l3,l4,m3⟩
end
theorem Cn.val1 {W:World}{v:Value}{d:D}(h:Cn W [v] [d]):AG nol (λ_=>False) W d v:=(h.cell 0 v d rfl rfl).2
end Go.Ide
