/- The layer of own lemmas and contracts, part 8. -/
import Derived.Test.YtmpdcldckjeklaaGreatDoorAC7
set_option linter.unusedVariables false
set_option linter.unusedSimpArgs false
namespace Go.Ide
open Go.Proofs Go.RowKit
set_option maxRecDepth 20000
set_option maxHeartbeats 4000000
def Ey (k:List UInt8):Option (Nat×Nat):=
 if k=[98,105,110]then some (2,4)
 else if k=[97,114,114,105,118,101]then some (2,1)
 else if k=[115,116,111,114,101]then some (2,2)
 else if k=[109,111,118,101]then some (2,3)
 else if k=[100,114,121]then some (2,4)
 else if k=[115,104,105,112]then some (2,1)
 else if k=[98,108,101,110,100]then some (2,1)
 else if k=[108,111,97,100]then some (2,2)
 else if k=[99,108,111,115,101]then some (1,0)
 else if k=[105,115,115,117,101]then some (2,1)
 else if k=[99,97,110,99,101,108]then some (2,1)
 else none
theorem NR {P:List UInt8->Option (Nat×Nat)->Prop}(k:List UInt8)(h0:P [98,105,110] (some (2,4)))(h1:P [97,114,114,105,118,101] (some (2,1)))(h2:P [115,116,111,114,101] (some (2,2)))(h3:P [109,111,118,101] (some (2,3)))(h4:P [100,114,121] (some (2,4)))(h5:P [115,104,105,112] (some (2,1)))(h6:P [98,108,101,110,100] (some (2,1)))(h7:P [108,111,97,100] (some (2,2)))(h8:P [99,108,111,115,101] (some (1,0)))(h9:P [105,115,115,117,101] (some (2,1)))(h10:P [99,97,110,99,101,108] (some (2,1)))(hn:¬k=[98,105,110]->¬k=[97,114,114,105,118,101]->¬k=[115,116,111,114,101]->¬k=[109,111,118,101]->¬k=[100,114,121]->¬k=[115,104,105,112]->¬k=[98,108,101,110,100]->¬k=[108,111,97,100]->¬k=[99,108,111,115,101]->¬k=[105,115,115,117,101]->¬k=[99,97,110,99,101,108]->P k none):P k (Ey k):=by
 unfold Ey
 by_cases e0:k=[98,105,110]
 ·subst e0;exact h0
 rw[AM e0]
 by_cases e1:k=[97,114,114,105,118,101]
 ·subst e1;exact h1
 rw[AM e1]
 by_cases e2:k=[115,116,111,114,101]
 ·subst e2;exact h2
 rw[AM e2]
 by_cases e3:k=[109,111,118,101]
 ·subst e3;exact h3
 rw[AM e3]
 by_cases e4:k=[100,114,121]
 ·subst e4;exact h4
 rw[AM e4]
 by_cases e5:k=[115,104,105,112]
 ·subst e5;exact h5
 rw[AM e5]
 by_cases e6:k=[98,108,101,110,100]
 ·subst e6;exact h6
 rw[AM e6]
 by_cases e7:k=[108,111,97,100]
 ·subst e7;exact h7
 rw[AM e7]
 by_cases e8:k=[99,108,111,115,101]
 ·subst e8;exact h8
 rw[AM e8]
 by_cases e9:k=[105,115,115,117,101]
 ·subst e9;exact h9
 rw[AM e9]
 by_cases e10:k=[99,97,110,99,101,108]
 ·subst e10;exact h10
 rw[AM e10];exact hn e0 e1 e2 e3 e4 e5 e6 e7 e8 e9 e10
theorem QB (d:D)(k:List UInt8):match Ey k with
  |some p=>∃f,D9 (sb k) Fg (Fh d)=some (some (.agg [i64 (p.1:Nat),i64 (p.2:Nat),.clo (.func f) [d] []]))
  |none=>D9 (sb k) Fg (Fh d)=some none:=by
 refine NR (P:=λk o=>match o with
  |some p=>∃f,D9 (sb k) Fg (Fh d)=some (some (.agg [i64 (p.1:Nat),i64 (p.2:Nat),.clo (.func f) [d] []]))
  |none=>D9 (sb k) Fg (Fh d)=some none) k ⟨78,by kernel_rfl⟩ ⟨79,by kernel_rfl⟩ ⟨80,by kernel_rfl⟩ ⟨81,by kernel_rfl⟩ ⟨81,by kernel_rfl⟩ ⟨82,by kernel_rfl⟩ ⟨82,by kernel_rfl⟩ ⟨83,by kernel_rfl⟩ ⟨84,by kernel_rfl⟩ ⟨85,by kernel_rfl⟩ ⟨86,by kernel_rfl⟩ ?_
 intro e0 e1 e2 e3 e4 e5 e6 e7 e8 e9 e10;have key:∀m:List UInt8,¬k=m->BH (sb k) (sb m)=false:=λm h=>by rw[CW];exact CB h
 have q0:BH (sb k) ⟨#[98,105,110]⟩=false:=key _ e0;have q1:BH (sb k) ⟨#[97,114,114,105,118,101]⟩=false:=key _ e1;have q2:BH (sb k) ⟨#[115,116,111,114,101]⟩=false:=key _ e2;have q3:BH (sb k) ⟨#[109,111,118,101]⟩=false:=key _ e3;have q4:BH (sb k) ⟨#[100,114,121]⟩=false:=key _ e4;have q5:BH (sb k) ⟨#[115,104,105,112]⟩=false:=key _ e5;have q6:BH (sb k) ⟨#[98,108,101,110,100]⟩=false:=key _ e6;have q7:BH (sb k) ⟨#[108,111,97,100]⟩=false:=key _ e7;have q8:BH (sb k) ⟨#[99,108,111,115,101]⟩=false:=key _ e8;have q9:BH (sb k) ⟨#[105,115,115,117,101]⟩=false:=key _ e9;have q10:BH (sb k) ⟨#[99,97,110,99,101,108]⟩=false:=key _ e10;simp only[Fg,Fh,D9,q0,q1,q2,q3,q4,q5,q6,q7,q8,q9,q10]
theorem Iv {α:Type}{p:α->Bool}:∀ {l:List α} {i:Nat} {x:α},l[i]?=some x->p x=true->(l.take i).any p=false->l.any p=true/\l.findIdx p=i
 | [],_,_,h,_,_=>by simp at h
 |a::l,0,x,h,hx,_=>by
  simp at h;subst h;simp[List.findIdx_cons,hx]
 |a::l,i+1,x,h,hx,h0=>by
  rw[List.take_succ_cons,List.any_cons,Me]at h0;obtain⟨h1,h2⟩:=Iv (l:=l) (by simpa using h) hx h0.2;rw[List.any_cons,h1,Bool.or_true,List.findIdx_cons,h0.1,h2];exact⟨rfl,rfl⟩
theorem Lc {α:Type}{p:α->Bool}{l:List α}{i:Nat}{x:α}(h:l[i]?=some x)(h0:(l.take i).any p=false)(hx:p x=false):(l.take (i+1)).any p=false:=by
 rw[E8,h,List.any_append,h0];simp[hx]
def Cz (s:List UInt8):Bool:=!Dp s
def Cj (z:Int):Bool:=decide (z<0)||decide (z>999999999)
abbrev B5 (z:Int):D:=i64 z
theorem V2 (s:List UInt8):Af C0 56 [AR s] (Al (Cz s)):=by
 refine BN.walk w1 SN rfl λF=>?_
 have cN:=QA (sb s);have e1:Dp (sb s).data.toList=Dp s:=rfl;rw[e1]at cN;unfold Cz;generalize Dp s=b at*;refine AS Ah kB cN AA AA AA AA AA ?_;exact An rfl AB.out
theorem V3 (z:Int):Af C0 58 [i64 z] (Al (Cj z)):=by
 refine BN.walk w1 R8 rfl λF=>?_
 unfold Cj;cases h1:decide (z<0)
 ·refine AS Ah h1 AA AA AA AA AA AA ?_
  exact An rfl AB.out
 ·refine AS Ah h1 AA AA AA AA AA AA ?_
  exact An rfl AB.out
theorem dO (l:List (List UInt8))(nn:Bool)(hl:l.length<=100000):Af C0 106 [.sl nn 1 (l.map AR),.clo (.func 56) [] []] (i64 (if l.any Cz then(l.findIdx Cz:Nat)else -1)):=by
 refine BN.walk w1 RO rfl λF=>?_
 have hml:(l.map AR).length=l.length:=Bq ..;refine AS Ah kB AA AA AA AA AA AA ?_;refine AQ.loop (α:=Nat×Nat) (λp=>⟨[(0,.sl nn 1 (l.map AR)),(1,.clo (.func 56) [] []),(4,i64 0),(7,i64 l.length),(8,i64 p.1)],[],p.2⟩) (λp=>l.length-p.1) (λp=>p.1<=l.length/\(l.take p.1).any Cz=false) (0,_) ⟨CJ _,rfl⟩ (by rw[hml];exact As) ?_;rintro⟨i,n1⟩ F ⟨h1,h0⟩;dsimp only at h1 h0⊢;rcases Ao i l.length with h2|h2
 ·obtain⟨x,hx⟩:∃x,l[i]?=some x:=⟨l[i],BM h2⟩
  have t1:decide (((i:Nat):Int)<((l.length:Nat):Int))=true:=Ay;have hx':(l.map AR)[i]?=some (AR x):=by rw[Bj,hx];rfl
  have wc:=wS (n:=i) (by omega);have cC:=V2 x;cases hb:Cz x with
  |true=>
   rw[hb]at cC;obtain⟨e1,e2⟩:=Iv hx hb h0;refine AS Ah t1 hx' cC AA AA AA AA ?_;exact An (by rw[e1,e2];rfl) AB.out
  |false=>
   rw[hb]at cC;have h3:=Lc hx h0 hb;refine AS Ah (Be t1 wc) hx' cC AA AA AA AA ?_;exact⟨(i+1,_),⟨by dsimp only;omega,h3⟩,by dsimp only;omega,As⟩
 ·have hi:i=l.length:=by omega
  subst hi;have t1:decide (((l.length:Nat):Int)<((l.length:Nat):Int))=false:=Ap;rw[E9 (Ag _)]at h0;refine AS Ah t1 AA AA AA AA AA AA ?_;exact An (by rw[h0];rfl) AB.out
theorem aj (l:List (List UInt8))(nn:Bool)(hl:l.length<=100000):Af C0 55 [.sl nn 1 (l.map AR),.clo (.func 56) [] []] (Al (l.any Cz)):=by
 refine BN.walk w1 SM rfl λF=>?_
 have cI:=dO l nn hl;have e1:decide ((if l.any Cz then((l.findIdx Cz:Nat):Int)else -1)>=0)=l.any Cz:=by
  cases l.any Cz
  ·rfl
  ·exact BZ (by rw[AL rfl];omega)
 generalize(if l.any Cz then((l.findIdx Cz:Nat):Int)else -1)=r at*;generalize l.any Cz=b at*;have hp:AB (D.sl nn 1 (l.map AR)):=A7;generalize l.map AR=q at*;refine AS Ah e1 cI AA AA AA AA AA ?_;exact An rfl AB.out
theorem dN (l:List Int)(nn:Bool)(hl:l.length<=100000):Af C0 107 [.sl nn 1 (l.map B5),.clo (.func 58) [] []] (i64 (if l.any Cj then(l.findIdx Cj:Nat)else -1)):=by
 refine BN.walk w1 RP rfl λF=>?_
 have hml:(l.map B5).length=l.length:=Bq ..;refine AS Ah kB AA AA AA AA AA AA ?_;refine AQ.loop (α:=Nat×Nat) (λp=>⟨[(0,.sl nn 1 (l.map B5)),(1,.clo (.func 58) [] []),(4,i64 0),(7,i64 l.length),(8,i64 p.1)],[],p.2⟩) (λp=>l.length-p.1) (λp=>p.1<=l.length/\(l.take p.1).any Cj=false) (0,_) ⟨CJ _,rfl⟩ (by rw[hml];exact As) ?_;rintro⟨i,n1⟩ F ⟨h1,h0⟩;dsimp only at h1 h0⊢;rcases Ao i l.length with h2|h2
 ·obtain⟨x,hx⟩:∃x,l[i]?=some x:=⟨l[i],BM h2⟩
  have t1:decide (((i:Nat):Int)<((l.length:Nat):Int))=true:=Ay;have hx':(l.map B5)[i]?=some (B5 x):=by rw[Bj,hx];rfl
  have wc:=wS (n:=i) (by omega);have cC:=V3 x;cases hb:Cj x with
  |true=>
   rw[hb]at cC;obtain⟨e1,e2⟩:=Iv hx hb h0;refine AS Ah t1 hx' cC AA AA AA AA ?_;exact An (by rw[e1,e2];rfl) AB.out
  |false=>
   rw[hb]at cC;have h3:=Lc hx h0 hb;refine AS Ah (Be t1 wc) hx' cC AA AA AA AA ?_;exact⟨(i+1,_),⟨by dsimp only;omega,h3⟩,by dsimp only;omega,As⟩
 ·have hi:i=l.length:=by omega
  subst hi;have t1:decide (((l.length:Nat):Int)<((l.length:Nat):Int))=false:=Ap;rw[E9 (Ag _)]at h0;refine AS Ah t1 AA AA AA AA AA AA ?_;exact An (by rw[h0];rfl) AB.out
theorem ai (l:List Int)(nn:Bool)(hl:l.length<=100000):Af C0 57 [.sl nn 1 (l.map B5),.clo (.func 58) [] []] (Al (l.any Cj)):=by
 refine BN.walk w1 R7 rfl λF=>?_
 have cI:=dN l nn hl;have e1:decide ((if l.any Cj then((l.findIdx Cj:Nat):Int)else -1)>=0)=l.any Cj:=by
  cases l.any Cj
  ·rfl
  ·exact BZ (by rw[AL rfl];omega)
 generalize(if l.any Cj then((l.findIdx Cj:Nat):Int)else -1)=r at*;generalize l.any Cj=b at*;have hp:AB (D.sl nn 1 (l.map B5)):=A7;generalize l.map B5=q at*;refine AS Ah e1 cI AA AA AA AA AA ?_;exact An rfl AB.out
abbrev EX:Dr:=[(1,[0,1,2,3,4,5,6,7,8],[9])]
open Go.Proofs Go.RowKit
set_option maxRecDepth 20000
set_option maxHeartbeats 4000000
structure FY where
 num:Int
 day:Int
 kind:List UInt8
 names:List (List UInt8)
 masses:List Int
def Br (b1 b2:Bool)(e:FY):D:=.agg [i64 e.num,i64 e.day,AR e.kind,.sl b1 1 (e.names.map AR),.sl b2 1 (e.masses.map B5)]
instance  (b1 b2:Bool)(e:FY):AB (Br b1 b2 e):=by unfold Br;exact A7
instance  (b1 b2:Bool)(e:FY):Ac (Br b1 b2 e):=by unfold Br;exact A7
def Ib (e:FY):Nat:=
 if e.num<1\/e.num>1000 then 3 else if e.day<0\/e.day>100000 then 29 else match Ey e.kind with
  |none=>20
  |some (a,b)=>if e.names.length≠a\/e.masses.length≠b then 2 else if e.names.any Cz then 8 else if e.masses.any Cj then 3 else 0
section
attribute [local irreducible] FX
theorem UK (b1 b2:Bool)(e:FY)(h1:e.names.length<=100000)(h2:e.masses.length<=100000):Af C0 26 [Br b1 b2 e] (i64 (Ib e:Nat)):=by
 refine BN.walk w1 R4 rfl λF=>?_
 have dk:=OT none;have dp:AB (D.mp Fg (Fh (.prim (.pointer none)))):=⟨Cy (n:=20) (by kernel_rfl)⟩
 obtain⟨num,day,kind,names,masses⟩:=e;dsimp only at h1 h2;have cN:=aj names b1 h1;have cM:=ai masses b2 h2;have lk:=QB (.prim (.pointer none)) kind;unfold Ib Br;dsimp only;have hn:(names.map AR).length=names.length:=Bq ..;have hm:(masses.map B5).length=masses.length:=Bq ..;refine sR 0 ?_;cases hk:Ey kind with
 |none=>
  rw[hk]at lk;dsimp only at lk⊢;refine AQ.seq ?_;refine Mc w1 100 [0,1,2,3,4,5,6,7,8] [9] 8 7 [4,3,2,1,0,5,7] (by kernel_rfl) (by kernel_rfl) ?_;refine GS ?_;refine Ch.same _ dk A7 ?_;refine KU (Pt (s:=sb kind) (a:=9) (b:=119) (z:=.agg #[.int .i64 0,.int .i64 0,.nilFunc]) (by kernel_rfl) rfl rfl lk) ?_;dsimp only[DL];refine GS ?_;refine GS ?_;rcases Int.lt_or_le num 1 with a1|a1
  ·have t1:decide (num<1)=true:=BZ a1
   refine AS EX t1 AA AA AA AA AA AA ?_;exact An (by rw[AL (.inl a1)];rfl) AB.out
  have t1:decide (num<1)=false:=Ap;rcases Int.lt_or_le 1000 num with a2|a2
  ·have t2:decide (num>1000)=true:=BZ a2
   refine AS EX (Be t1 t2) AA AA AA AA AA AA ?_;exact An (by rw[AL (.inr a2)];rfl) AB.out
  have t2:decide (num>1000)=false:=Ap;rw[AM (show ¬(num<1\/num>1000) by omega)];rcases Int.lt_or_le day 0 with a3|a3
  ·have t3:decide (day<0)=true:=BZ a3
   refine AS EX (Cx t1 t2 t3) AA AA AA AA AA AA ?_;exact An (by rw[AL (.inl a3)];rfl) AB.out
  have t3:decide (day<0)=false:=Ap;rcases Int.lt_or_le 100000 day with a4|a4
  ·have t4:decide (day>100000)=true:=BZ a4
   refine AS EX (Dz t1 t2 t3 t4) AA AA AA AA AA AA ?_;exact An (by rw[AL (.inr a4)];rfl) AB.out
  have t4:decide (day>100000)=false:=Ap;rw[AM (show ¬(day<0\/day>100000) by omega)];refine AS EX (Dz t1 t2 t3 t4) AA AA AA AA AA AA ?_;exact An rfl AB.out
 |some p=>
  obtain⟨ka,kb⟩:=p;rw[hk]at lk;obtain⟨fn,lk⟩:=lk;dsimp only at lk⊢;refine AQ.seq ?_;refine Mc w1 100 [0,1,2,3,4,5,6,7,8] [9] 8 7 [4,3,2,1,0,5,7] (by kernel_rfl) (by kernel_rfl) ?_;refine GS ?_;refine Ch.same _ dk A7 ?_;refine KU (Np (s:=sb kind) (a:=9) (b:=119) (z:=.agg #[.int .i64 0,.int .i64 0,.nilFunc]) (by kernel_rfl) rfl rfl lk) ?_;dsimp only[DL];refine GS ?_;refine GS ?_;rcases Int.lt_or_le num 1 with a1|a1
  ·have t1:decide (num<1)=true:=BZ a1
   refine AS EX t1 AA AA AA AA AA AA ?_;exact An (by rw[AL (.inl a1)];rfl) AB.out
  have t1:decide (num<1)=false:=Ap;rcases Int.lt_or_le 1000 num with a2|a2
  ·have t2:decide (num>1000)=true:=BZ a2
   refine AS EX (Be t1 t2) AA AA AA AA AA AA ?_;exact An (by rw[AL (.inr a2)];rfl) AB.out
  have t2:decide (num>1000)=false:=Ap;rw[AM (show ¬(num<1\/num>1000) by omega)];rcases Int.lt_or_le day 0 with a3|a3
  ·have t3:decide (day<0)=true:=BZ a3
   refine AS EX (Cx t1 t2 t3) AA AA AA AA AA AA ?_;exact An (by rw[AL (.inl a3)];rfl) AB.out
  have t3:decide (day<0)=false:=Ap;rcases Int.lt_or_le 100000 day with a4|a4
  ·have t4:decide (day>100000)=true:=BZ a4
   refine AS EX (Dz t1 t2 t3 t4) AA AA AA AA AA AA ?_;exact An (by rw[AL (.inr a4)];rfl) AB.out
  have t4:decide (day>100000)=false:=Ap;rw[AM (show ¬(day<0\/day>100000) by omega)]
  by_cases a5:names.length=ka
  rotate_left
  ·have t5:(((names.length:Nat):Int) != ((ka:Nat):Int))=true:=by rw[bne_iff_ne];omega
   refine AS EX (GQ t1 t2 t3 t4 hn t5) AA AA AA AA AA AA ?_;exact An (by rw[AL (.inl a5)];rfl) AB.out
  have t5:(((names.length:Nat):Int) != ((ka:Nat):Int))=false:=by rw[a5];exact bne_self_eq_false _
  by_cases a6:masses.length=kb
  rotate_left
  ·have t6:(((masses.length:Nat):Int) != ((kb:Nat):Int))=true:=by rw[bne_iff_ne];omega
   refine AS EX (Db t1 t2 t3 t4 hn hm (Be t5 t6)) AA AA AA AA AA AA ?_;exact An (by rw[AL (.inr a6)];rfl) AB.out
  have t6:(((masses.length:Nat):Int) != ((kb:Nat):Int))=false:=by rw[a6];exact bne_self_eq_false _
  rw[AM (show ¬(names.length≠ka\/masses.length≠kb) by omega)];cases a7:names.any Cz with
  |true=>
   rw[a7]at cN;refine AS EX (Db t1 t2 t3 t4 hn hm (Be t5 t6)) cN AA AA AA AA AA ?_;exact An rfl AB.out
  |false=>
   rw[a7]at cN;cases a8:masses.any Cj with
   |true=>
    rw[a8]at cM;refine AS EX (Db t1 t2 t3 t4 hn hm (Be t5 t6)) cN cM AA AA AA AA ?_;exact An rfl AB.out
   |false=>
    rw[a8]at cM;refine AS EX (Db t1 t2 t3 t4 hn hm (Be t5 t6)) cN cM AA AA AA AA ?_;exact An rfl AB.out
end
section
attribute [local irreducible] FX
theorem T8 (x:List UInt8)(l:List (List UInt8))(nn:Bool)(hl:l.length<=100000):Af C0 54 [.sl nn 1 ((x::l).map AR)] (.sl false 1 ((x::l).map AR)):=by
 refine BN.walk w1 SL rfl λF=>?_
 have hml:(l.map AR).length=l.length:=Bq ..;rw[BU];have hp:AT (AR x::l.map AR):=A7;obtain⟨q,hq⟩:∃q,l.map AR=q:=⟨_,rfl⟩
 rw[hq]at hml hp⊢;have hne:AR x::q≠[]:=List.cons_ne_nil _ _;have hfz:=H6 302 5 9 1 (AR x::q) [];rw[CY,hml]at hfz;cases nn
 ·refine AS Ah (Be hml Bx) AA AA AA AA AA AA ?_
  exact⟨_,hfz,AB.out,rfl⟩
 ·refine AS Ah (Be hml Bx) AA AA AA AA AA AA ?_
  exact⟨_,hfz,AB.out,rfl⟩
theorem NS (k:List UInt8):match Ey k with
  |some p=>1<=p.1/\p.1<=2/\p.2<=4
  |none=>True:=by
 refine NR (P:=λk o=>match o with
  |some p=>1<=p.1/\p.1<=2/\p.2<=4
  |none=>True) k (by decide) (by decide) (by decide) (by decide) (by decide) (by decide) (by decide) (by decide) (by decide) (by decide) (by decide) ?_
 intros;trivial
abbrev Dv (w:List UInt8):D:=i64 (BY w:Nat)
theorem Cn {H:Hp}:Fz H [] (.agg [D.prim BV,D.prim BV,D.prim BJ,D.prim Bz,D.prim Bz]) (Br false false ⟨0,0,[],[],[]⟩):=by
 unfold Br;refine .agg rfl λi d d' hd hd'=>?_
 match i with
 | 0=>simp at hd hd';subst hd;subst hd';exact .refl _
 | 1=>simp at hd hd';subst hd;subst hd';exact .refl _
 | 2=>simp at hd hd';subst hd;subst hd';exact .refl _
 | 3=>simp at hd hd';subst hd;subst hd';exact .nil 1
 | 4=>simp at hd hd';subst hd;subst hd';exact .nil 1
 |i+5=>simp at hd
theorem SD {H:Hp}{n d:Int}{k:List UInt8}{N:D}{y y':D}(h:Fz H [] y y'):Fz H [] (.agg [i64 n,i64 d,AR k,N,y]) (.agg [i64 n,i64 d,AR k,N,y']):=by
 refine .agg rfl λi d d' hd hd'=>?_
 match i with
 | 0=>simp at hd hd';subst hd;subst hd';exact .refl _
 | 1=>simp at hd hd';subst hd;subst hd';exact .refl _
 | 2=>simp at hd hd';subst hd;subst hd';exact .refl _
 | 3=>simp at hd hd';subst hd;subst hd';exact .refl _
 | 4=>simp at hd hd';subst hd;subst hd';exact h
 |i+5=>simp at hd
def FQ (k:List UInt8)(ws:List (List UInt8)):Option (List (List UInt8)×List Int):=match Ey k with
 |none=>none
 |some (a,b)=>if ws.length=a+b/\(ws.drop a).all BG=true then some (ws.take a,(ws.drop a).map λw=>((BY w:Nat):Int))else none
def GL (k:List UInt8)(ws:List (List UInt8)):FY:=match FQ k ws with
 |none=>⟨0,0,[],[],[]⟩
 |some (n,m)=>⟨0,0,k,n,m⟩
theorem Uu (k:List UInt8)(ws:List (List UInt8))(nn:Bool)(hl:ws.length<=100000)(hw:∀w∈ws,w.length<=100000):Af C0 25 [AR k,.sl nn 1 (ws.map AR)] (.tup [Br false false (GL k ws),Al (FQ k ws).isSome]):=by
 refine BN.walk w1 R3 rfl λF=>?_
 have dk:=OT none;have dp:AB (D.mp Fg (Fh (.prim (.pointer none)))):=⟨Cy (n:=20) (by kernel_rfl)⟩
 have lk:=QB (.prim (.pointer none)) k;have hn:(ws.map AR).length=ws.length:=Bq ..;unfold GL FQ;cases hk:Ey k with
 |none=>
  rw[hk]at lk;dsimp only at lk⊢;refine AS Ah kB dk AA AA AA AA AA ?_;refine C7 rfl rfl ?_;refine KU (Pt (s:=sb k) (a:=9) (b:=119) (z:=.agg #[.int .i64 0,.int .i64 0,.nilFunc]) (by kernel_rfl) rfl rfl lk) ?_;dsimp only[DL];refine BD ?_;refine AS Ah kB AA AA AA AA AA AA ?_;exact⟨_,Bp Cn (.refl _),AB.out,rfl⟩
 |some p=>
  have ks:=NS k;obtain⟨ka,kb⟩:=p;rw[hk]at lk ks;obtain⟨fn,lk⟩:=lk;obtain⟨k1,k2,k3⟩:=ks;dsimp only at lk k1 k2 k3⊢;have wk:IntKind.i64.wrap (((ka:Nat):Int)+((kb:Nat):Int))=((ka+kb:Nat):Int):=by rw[wI];omega
  by_cases h1:ws.length=ka+kb
  rotate_left
  ·have t1:(((ws.length:Nat):Int) != ((ka+kb:Nat):Int))=true:=by rw[bne_iff_ne];omega
   refine AS Ah kB dk AA AA AA AA AA ?_;refine C7 rfl rfl ?_;refine KU (Np (s:=sb k) (a:=9) (b:=119) (z:=.agg #[.int .i64 0,.int .i64 0,.nilFunc]) (by kernel_rfl) rfl rfl lk) ?_;dsimp only[DL];refine BD ?_;refine AS Ah (Cx hn wk t1) AA AA AA AA AA AA ?_;rw[AM (show ¬(ws.length=ka+kb/\(ws.drop ka).all BG=true)from λq=>h1 q.1)];exact⟨_,Bp Cn (.refl _),AB.out,rfl⟩
  have t1:(((ws.length:Nat):Int) != ((ka+kb:Nat):Int))=false:=by rw[h1];exact bne_self_eq_false _
  have hto:((ka:Nat):Int).toNat=ka:=Je _;obtain⟨nm,hnm⟩:∃nm,ws.take ka=nm:=⟨_,rfl⟩
  obtain⟨ms,hms⟩:∃ms,ws.drop ka=ms:=⟨_,rfl⟩
  have hnl:nm.length=ka:=by rw[<-hnm,EQ];omega
  have hml:ms.length=kb:=by rw[<-hms,Hd];omega
  have e1:(ws.map AR).take ka=nm.map AR:=by rw[<-hnm,List.map_take]
  have e2:(ws.map AR).drop ka=ms.map AR:=by rw[<-hms,List.map_drop]
  have hmm:(ms.map AR).length=kb:=by rw[Bq,hml]
  rw[hnm,hms];obtain⟨x,nm',rfl⟩:∃x l,nm=x::l:=by
   cases nm with
   |nil=>simp at hnl;omega
   |cons x l=>exact⟨x,l,rfl⟩
  have cl:=T8 x nm' nn (by rw[CY]at hnl;omega);refine AS Ah kB dk AA AA AA AA AA ?_;refine C7 rfl rfl ?_;refine KU (Np (s:=sb k) (a:=9) (b:=119) (z:=.agg #[.int .i64 0,.int .i64 0,.nilFunc]) (by kernel_rfl) rfl rfl lk) ?_;dsimp only[DL];refine BD ?_;have e3:(ms.map AR).take (ws.length-ka)=ms.map AR:=E9 (by rw[Bq];omega);refine AS Ah (Db hn wk t1 hto Nat.sub_zero (@List.drop_zero D) (Dz e1 e2 e3 hmm)) cl AA AA AA AA AA ?_;refine AQ.loop (α:=Nat×Nat×Nat) (λp=>⟨[(4,.optr 0 0 5 0 0),(5,Al false),(8,.optr 407 30 5 0 0),(42,.sl nn 1 (ms.map AR)),(43,i64 (kb:Nat)),(44,i64 (p.1:Nat))],
   GH 1104 p.2.1 3 1 ((ms.take p.1).map Dv)++[⟨407,30,26,5,[.agg [i64 0,i64 0,AR k,.sl false 1 (AR x::nm'.map AR),GG 1104 p.2.1 1 ((ms.take p.1).map Dv)]]⟩,⟨0,0,26,5,[.agg [i64 0,i64 0,AR [],BC,BC]]⟩],p.2.2⟩) (λp=>kb-p.1)
   (λp=>p.1<=kb/\(ms.take p.1).all BG=true) (0,0,_) ⟨CJ _,rfl⟩ As ?_
  clear cl e1 e2 e3 hto hn t1 lk dk dp;rintro⟨i,g7,n1⟩ F ⟨h2,h3⟩;dsimp only at h2 h3⊢;obtain⟨TL,hTL⟩:∃TL,(ms.take i).map Dv=TL:=⟨_,rfl⟩
  have hTl:TL.length=i:=by rw[<-hTL,Bq,EQ];omega
  rw[hTL];rcases Ao i kb with h4|h4
  ·obtain⟨w,hw1⟩:∃w,ms[i]?=some w:=⟨ms[i],CG⟩
   have t2:decide (((i:Nat):Int)<((kb:Nat):Int))=true:=Ay;have hx':=Iz hw1;have hwl:w.length<=1000000:=Ar (hw w (List.mem_of_mem_drop (i:=ka) (by rw[hms];exact Bc hw1))) (by omega);have cI:=Jz w hwl;have wc:=wS (n:=i) (by omega);have hsn:(ms.take (i+1)).map Dv=TL++[Dv w]:=by rw[E8,hw1,ER,hTL];rfl
   have hal:(ms.take (i+1)).all BG=BG w:=by rw[E8,hw1,IZ,h3];simp
   cases hi:BG w with
   |false=>
    rw[hi]at cI;have hbad:¬(ws.length=ka+kb/\ms.all BG=true):=λq=>by
     have:=CK.1 q.2 w (Bc hw1)
     rw[hi]at this;cases this
    rw[AM hbad];rcases TL with _|⟨z,TL⟩
    ·dsimp only[F7,F8]
     refine AS Ah t2 hx' cI AA AA AA AA ?_;exact⟨_,Bp Cn (.refl _),AB.out,rfl⟩
    ·dsimp only[FH,FJ]
     refine AS Ah t2 hx' cI AA AA AA AA ?_;exact⟨_,Bp Cn (.refl _),AB.out,rfl⟩
   |true=>
    rw[hi]at cI hal;rcases TL with _|⟨z,TL⟩
    ·dsimp only[F7,F8]
     refine AS Ah (Be t2 wc) hx' cI AA AA AA AA ?_;exact⟨(i+1,_,_),⟨by dsimp only;omega,hal⟩,by dsimp only;omega,(by dsimp only;rw[hsn];exact As)⟩
    ·dsimp only[FH,FJ]
     have htk:List.take (TL.length+1) (z::TL)=z::TL:=by simp
     rw[CY]at hTl;refine AS Ah (Cx t2 wc htk) hx' cI AA AA AA AA ?_;exact⟨(i+1,_,_),⟨by dsimp only;omega,hal⟩,by dsimp only;omega,(by dsimp only;rw[hsn,LM];exact As)⟩
  ·have hi:i=kb:=by omega
   subst hi;have t2:decide (((i:Nat):Int)<((i:Nat):Int))=false:=Ap;rw[K8]at h3 hTL;rw[AL ⟨h1,h3⟩];have hmd:ms.map Dv=(ms.map λw=>((BY w:Nat):Int)).map B5:=by rw[List.map_map];rfl
   rcases TL with _|⟨z,TL⟩
   ·have hmn:ms=[]:=List.map_eq_nil_iff.1 hTL
    dsimp only[F7,F8];refine AS Ah t2 AA AA AA AA AA AA ?_;subst hmn;exact⟨_,Bp (SD (.nil 1)) (.refl _),AB.out,rfl⟩
   ·dsimp only[FH,FJ]
    refine AS Ah t2 AA AA AA AA AA AA ?_;refine⟨_,Bp (SD (H6 1104 g7 3 1 (z::TL) _)) (.refl _),?_,?_⟩
    ·rw[<-hTL];exact AB.out
    ·unfold Br;dsimp only;rw[<-hmd,<-hTL];rfl
end
abbrev EK:Dr:=[(10,[0,1,2,3,4,5,6,7,8,9,10,11,12,13,14,15],[16]),(14,[0,1,2,3,4,5,6,7,8,9,10,11],[12])]
open Go.Proofs Go.RowKit
set_option maxRecDepth 20000
set_option maxHeartbeats 4000000
theorem LE (c:UInt8):∀l:List UInt8,((A9 c l).map List.length).sum+l.count c=l.length
 | []=>rfl
 |b::l=>by
  have ih:=LE c l;rw[LI,CY]
  by_cases hb:b=c
  ·rw[AL hb,hb,List.count_cons_self,BU,List.sum_cons,IT];omega
  ·rw[AM hb,List.count_cons_of_ne hb]
   have hne:=LJ c l;split
   ·rename_i w ws h
    rw[h,BU,List.sum_cons]at ih;rw[BU,List.sum_cons,CY];omega
   ·rename_i h;exact AY h hne
theorem Lp {w:List UInt8}:∀ {ws:List (List UInt8)},w∈ws->w.length<=(ws.map List.length).sum
 | [],h=>by cases h
 |a::ws,h=>by
  rw[BU,List.sum_cons];rcases Ak.1 h with rfl|h
  ·omega
  ·have:=Lp h;omega
theorem Pi {c:UInt8}{l w:List UInt8}(h:w∈A9 c l):w.length<=l.length:=by
 have:=Lp h
 have:=LE c l
 omega
abbrev IF:FY:=⟨0,0,[],[],[]⟩
def IJ (ws:List (List UInt8)):FY:=
 let e:=GL (ws.getD 2 []) ((ws.take (ws.length-1)).drop 3)
 ⟨(BY (ws.getD 0 []):Nat),(BY (ws.getD 1 []):Nat),e.kind,e.names,e.masses⟩
def GJ (l:List UInt8):FY×Nat:=
 if 4096<l.length then(IF,23)
 else if(A9 32 l).length<4\/(A9 32 l).contains []=true then(IF,21)
 else if BG ((A9 32 l).getD ((A9 32 l).length-1) [])=false then(IF,21)
 else if Lib.itoa (Ck (l.take (l.length-((A9 32 l).getD ((A9 32 l).length-1) []).length-1)):Nat)≠(A9 32 l).getD ((A9 32 l).length-1) []then(IF,24)
 else if BG ((A9 32 l).getD 0 [])=true/\BG ((A9 32 l).getD 1 [])=true/\(FQ ((A9 32 l).getD 2 []) (((A9 32 l).take ((A9 32 l).length-1)).drop 3)).isSome=true/\Ib (IJ (A9 32 l))=0 then(IJ (A9 32 l),0)
 else(IF,21)
theorem VW {k:List UInt8}{ws n:List (List UInt8)}{m:List Int}(h:FQ k ws=some (n,m)):n.length<=ws.length/\m.length<=ws.length:=by
 unfold FQ at h;split at h<;>try(cases h;done)
 split at h<;>try(cases h;done)
 cases h;rw[EQ,Bq,Hd];omega
theorem QZ (k:List UInt8)(ws:List (List UInt8)):(GL k ws).names.length<=ws.length/\(GL k ws).masses.length<=ws.length:=by
 unfold GL;split
 ·exact⟨CJ _,CJ _⟩
 ·rename_i h;exact VW h
theorem Q9 {ws:List (List UInt8)}(h:4<=ws.length):∃w0 w1 w2 ms z,ws=w0::w1::w2::(ms++[z]):=by
 match ws,h with
 |w0::w1::w2::x::r,_=>
  obtain⟨ms,z,hm⟩:∃ms z,x::r=ms++[z]:=⟨(x::r).dropLast,(x::r).getLast (by simp),(List.dropLast_concat_getLast (by simp)).symm⟩
  exact⟨w0,w1,w2,ms,z,by rw[hm]⟩
section
attribute [local irreducible] FX
theorem UN (l:List UInt8)(hl:l.length<=100000):Af C0 5 [AR l] (.tup [Br false false (GJ l).1,i64 ((GJ l).2:Nat)]):=by
 refine BN.walk w1 dS rfl λF=>?_
 have hsz:=EI l;have cS:=Vc 32 l hl;unfold GJ;rcases Ao 4096 l.length with h1|h1
 ·have t1:decide (((l.length:Nat):Int)>4096)=true:=Ay
  rw[AL h1];refine AS EK (Be hsz t1) AA AA AA AA AA AA ?_;exact⟨_,Bp Cn (.refl _),AB.out,rfl⟩
 have t1:decide (((l.length:Nat):Int)>4096)=false:=Ap;rw[AM (show ¬ 4096<l.length by omega)];have hmem:∀w∈A9 32 l,w.length<=4096:=λw hw=>Ar (Pi hw) h1
 have hsum:=LE 32 l;have hlen:=G4 32 l;obtain⟨ws,hws⟩:∃ws,A9 32 l=ws:=⟨_,rfl⟩
 rw[hws]at cS hmem hsum hlen⊢;have hn:(ws.map AR).length=ws.length:=Bq ..;have hcl:l.count 32<=l.length:=List.count_le_length;have cC:=Tb ws [] false (by omega);have wl:IntKind.i64.wrap (((ws.length:Nat):Int)-1)=((ws.length-1:Nat):Int):=by rw[wI];omega
 rcases Ao ws.length 4 with h2|h2
 ·have t2:decide (((ws.length:Nat):Int)<4)=true:=Ay
  rw[AL (.inl h2)];refine AS EK (Da hsz t1 hn wl t2) cS AA AA AA AA AA ?_;exact⟨_,Bp Cn (.refl _),AB.out,rfl⟩
 have t2:decide (((ws.length:Nat):Int)<4)=false:=Ap;cases h3:ws.contains []with
 |true=>
  rw[h3]at cC;rw[AL (.inr rfl)];refine AS EK (Da hsz t1 hn wl t2) cS cC AA AA AA AA ?_;exact⟨_,Bp Cn (.refl _),AB.out,rfl⟩
 |false=>
 rw[h3]at cC;rw[AM (show ¬(ws.length<4\/false=true) by simp;omega)];obtain⟨u0,u1,u2,ms,z,rfl⟩:=Q9 h2;have hN:(u0::u1::u2::(ms++[z])).length=ms.length+4:=by simp
 have hz:(u0::u1::u2::(ms++[z])).getD ((u0::u1::u2::(ms++[z])).length-1) []=z:=by
  rw[hN];simp
 have hmid:((u0::u1::u2::(ms++[z])).take ((u0::u1::u2::(ms++[z])).length-1)).drop 3=ms:=by
  rw[hN];simp
 have g0:(u0::u1::u2::(ms++[z])).getD 0 []=u0:=rfl;have g1:(u0::u1::u2::(ms++[z])).getD 1 []=u1:=rfl;have g2:(u0::u1::u2::(ms++[z])).getD 2 []=u2:=rfl;unfold IJ;rw[hz,hmid,g0,g1,g2];have m0:=hmem u0 (by simp);have m1:=hmem u1 (by simp);have mz:=hmem z (by simp);have mm:∀w∈ms,w.length<=100000:=λw hw=>Ar (hmem w (by simp[hw])) (by omega)
 have hzl:z.length+1<=l.length:=by
  have:=Lp (w:=z) (ws:=u0::u1::u2::(ms++[z])) (by simp)
  omega
 have hml:ms.length<=100000:=by omega
 have q0:((u0::u1::u2::(ms++[z])).map AR)[0]?=some (AR u0):=rfl;have q1:((u0::u1::u2::(ms++[z])).map AR)[1]?=some (AR u1):=rfl;have q2:((u0::u1::u2::(ms++[z])).map AR)[2]?=some (AR u2):=rfl;have qz:((u0::u1::u2::(ms++[z])).map AR)[ms.length+3]?=some (AR z):=by
  rw[Bj,show ms.length+3=(u0::u1::u2::ms).length from rfl,show u0::u1::u2::(ms++[z])=(u0::u1::u2::ms)++[z]from rfl,Bw (Ag _)];simp
 have qm:List.take (ms.length+3-3) (List.drop 3 ((u0::u1::u2::(ms++[z])).map AR))=ms.map AR:=by
  show List.take ms.length (List.map AR (ms++[z]))=_;rw[ER];exact List.take_left' (by simp)
 rw[hN]at hn;rw[hN,show ms.length+4-1=ms.length+3 from rfl]at wl;have t2':decide (((ms.length+4:Nat):Int)<4)=false:=Ap;have hp:AT ((u0::u1::u2::(ms++[z])).map AR):=A7;obtain⟨qq,hQ⟩:∃qq,(u0::u1::u2::(ms++[z])).map AR=qq:=⟨_,rfl⟩
 rw[hQ]at q0 q1 q2 qz qm hn hp cC cS;have cZ:=Jz z (by omega);have cW0:=Jz u0 (by omega);have cW1:=Jz u1 (by omega);clear hmem hsum hlen hcl h2 h3 g0 g1 g2 hz hmid hN hQ hws t2;cases i1:BG z with
 |false=>
  rw[i1]at cZ;rw[AL rfl];refine AS EK (Da hsz t1 hn wl t2') cS cC qz cZ AA AA ?_;exact⟨_,Bp Cn (.refl _),AB.out,rfl⟩
 |true=>
 rw[i1]at cZ;rw[AM (by simp)];have hzz:=EI z;have wz1:IntKind.i64.wrap (((l.length:Nat):Int)-((z.length:Nat):Int))=((l.length-z.length:Nat):Int):=by rw[wI];omega
 have wz2:IntKind.i64.wrap (((l.length-z.length:Nat):Int)-1)=((l.length-z.length-1:Nat):Int):=by rw[wI];omega
 have ex:(sb l).extract 0 (l.length-z.length-1)=sb (l.take (l.length-z.length-1)):=by rw[H9];rfl
 have hb1:(((l.length-z.length-1:Nat):Int))<=((l.length:Nat):Int):=by omega
 have cK:=au (l.take (l.length-z.length-1)) (by rw[EQ];omega);obtain⟨pre,hpre⟩:∃pre,l.take (l.length-z.length-1)=pre:=⟨_,rfl⟩
 rw[hpre]at ex cK⊢;have eK:=CW (Lib.itoa (Ck pre:Nat)) z;obtain⟨ck,hck⟩:∃ck,Lib.itoa (Ck pre:Nat)=ck:=⟨_,rfl⟩
 rw[hck]at cK eK⊢;have cP:=Uu u2 ms false hml mm
 by_cases h5:ck=z
 rotate_left
 ·rw[CB h5]at eK
  rw[AL h5];refine AS EK (Da hsz t1 hn wl t2') cS cC qz cZ AA AA ?_;refine AS EK (Db hsz hzz wz1 wz2 kN ex eK) qz cK AA AA AA AA ?_;exact⟨_,Bp Cn (.refl _),AB.out,rfl⟩
 rw[BZ h5]at eK;rw[AM (by simpa using h5)];refine AS EK (Da hsz t1 hn wl t2') cS cC qz cZ AA AA ?_;refine AS EK (Db hsz hzz wz1 wz2 kN ex eK) qz cK AA AA AA AA ?_;refine AS EK kB q0 cW0 AA AA AA AA ?_;refine AS EK kB q1 AA AA AA AA AA ?_;refine cI cW1 ?_;have hpn:=QZ u2 ms;obtain⟨pe,hpe⟩:∃pe,GL u2 ms=pe:=⟨_,rfl⟩
 rw[hpe]at cP hpn⊢;obtain⟨po,hpo⟩:∃b,(FQ u2 ms).isSome=b:=⟨_,rfl⟩
 rw[hpo]at cP⊢;obtain⟨pn,pd,pk,pnm,pms⟩:=pe;dsimp only at hpn⊢;unfold Br at cP;dsimp only at cP;have cE:=UK false false ⟨(BY u0:Nat),(BY u1:Nat),pk,pnm,pms⟩ (by dsimp only;omega) (by dsimp only;omega);unfold Br at cE;dsimp only at cE;obtain⟨ce,hce⟩:∃ce,Ib ⟨(BY u0:Nat),(BY u1:Nat),pk,pnm,pms⟩=ce:=⟨_,rfl⟩
 rw[hce]at cE⊢;refine AQ.weak ⟨[(2,.optr 0 0 5 0 0),(3,i64 0),(4,.sl false 1 qq),(5,i64 (ms.length+3:Nat)),(8,i64 (BY u0:Nat)),(9,Al (BG u0)),(10,i64 (BY u1:Nat)),(11,Al (BG u1))],[⟨0,0,26,5,[.agg [i64 0,i64 0,AR [],BC,BC]]⟩],67⟩ As ?_;clear hsz cS cC wl t1 t2' q0 q1 qz cZ cW0 cW1 wz1 wz2 ex cK eK hzz hb1;generalize BG u0=b0 at*;generalize BG u1=b1 at*;generalize BY u0=v0 at*;generalize BY u1=v1 at*;refine AQ.seq ?_;refine Mc w1 1400 [0,1,2,3,4,5,6,7,8,9,10,11] [12] 11 10 [7,5,4,3,2,1,0,6,8,10] (by kernel_rfl) (by kernel_rfl) ?_;refine BD ?_;refine Ms kN ?_;refine Hs rfl rfl rfl rfl ?_;refine ME (λ_ _=>rfl) (by exact B7) ⟨rfl,by omega⟩ q2 ?_;refine BD ?_;have qm':List.take (ms.length+3-(3:Int).toNat) (List.drop ((3:Int).toNat) qq)=ms.map AR:=qm;refine Ms (Be kN qm') ?_;refine Hs rfl rfl rfl rfl ?_;refine BD ?_;refine C2 (by exact B7) ?_;refine BD ?_;refine Ch.same _ cP A7 ?_;refine BD ?_
 repeat(first|(refine Hs rfl rfl rfl rfl ?_;first|refine EJ (λ_ _=>rfl) ?_|refine IC rfl rfl rfl (by(try dsimp only);(try simp only[]);exact rfl) ?_)|(refine Nm rfl rfl rfl ?_;first|refine Nn (λ_ _=>rfl) ?_|refine Nz rfl rfl rfl (by(try dsimp only);(try simp only[]);exact rfl) ?_)|(refine Nl rfl rfl rfl rfl ?_;refine EJ (λ_ _=>rfl) ?_))
 try refine Nb ?_
 refine BD ?_
 try simp only[]
 refine C2 ⟨trivial,.inl AA⟩ ?_;cases b0
 ·rw[AM (by simp)]
  refine AS EK kB AA AA AA AA AA AA ?_;exact⟨_,Bp Cn (.refl _),AB.out,rfl⟩
 cases b1
 ·rw[AM (by simp)]
  refine AS EK kB AA AA AA AA AA AA ?_;exact⟨_,Bp Cn (.refl _),AB.out,rfl⟩
 cases po
 ·rw[AM (by simp)]
  refine AS EK kB AA AA AA AA AA AA ?_;exact⟨_,Bp Cn (.refl _),AB.out,rfl⟩
 by_cases h6:ce=0
 rotate_left
 ·have e6:(((ce:Nat):Int) != 0)=true:=by rw[bne_iff_ne];omega
  rw[AM (λq=>h6 q.2.2.2)];refine AS EK e6 cE AA AA AA AA AA ?_;exact⟨_,Bp Cn (.refl _),AB.out,rfl⟩
 have e6:(((ce:Nat):Int) != 0)=false:=by rw[h6];rfl
 rw[AL ⟨rfl,rfl,rfl,h6⟩];refine AS EK e6 cE AA AA AA AA AA ?_;exact⟨_,.refl _,AB.out,rfl⟩
end
end Go.Ide
