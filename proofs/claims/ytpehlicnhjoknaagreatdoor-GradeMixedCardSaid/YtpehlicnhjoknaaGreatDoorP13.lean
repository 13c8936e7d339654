/- The layer of own lemmas and contracts, part 13. -/
import Derived.Test.YtpehlicnhjoknaaGreatDoorP12
set_option linter.unusedVariables false
set_option linter.unusedSimpArgs false
namespace Go.Ide
abbrev a0U:Dr:=[(12,[0,1,2,3,4,5,6,7,8],[9]),(40,[0,1,2,3,4,5,6,7,8,9,10,11],[12,13,14]),(41,[0,1,2,3,4,5,6,7,8,9,10,11],[12,13,14])]
open Go.Proofs Go.RowKit
set_option maxRecDepth 20000
set_option maxHeartbeats 8000000
theorem a9i (s:SpT):b0s s.lo s.hi=a1D s:=by
 unfold b0s a1D two;split
 ·rfl
 ·rfl
def b5r (x:Nat→Rat)(w:List Int)(k:Nat):Rat:=a3t x (wAt w) k / ((a1Y w:Int):Rat)
theorem a8h (x:Nat→Rat)(w:List Int):b5r x w 0=0:=by
 unfold b5r a3t;rw [Rat.div_def,Rat.zero_mul]
theorem a7k (x:Nat→Rat)(w:List Int)(k:Nat):b5r x w (k+1)=b5r x w k+mkRat (wAt w k) (a1Y w).toNat*x k∨a1Y w<0:=by
 by_cases h:a1Y w<0
 ·exact .inr h
 ·left
  have e:(((a1Y w).toNat:Nat):Rat)=((a1Y w:Int):Rat):=by
   rw [← Rat.intCast_natCast,Int.toNat_of_nonneg (by omega)]
  unfold b5r;rw [Rat.mkRat_eq_div,e];show (a3t x (wAt w) k+x k*(wAt w k:Rat)) / _=_
  grind
theorem c8k {z:Int}{d:Nat}(hz:z.natAbs<18446744073709551616)(hd:d<18446744073709551616)(h0:d≠0):rk (mkRat z d) 2:=by
 rw [Rat.mkRat_eq_div];have h1:=(a6f hz).rk;have h2:=(a6f (z:=(d:Int)) (by omega)).rk;rw [Rat.intCast_natCast] at h2;exact c8b h1 h2 (by exact_mod_cast h0)
theorem b5c (v:List (List SpT))(hl:v.length≤9∨64<v.length)(hl2:v.length≤100000)(hv:∀ s∈v,c3h s)(w:List Int)(hw:w.length≤1000):a0b C0 17 [ssD v,wsD w] (.tup [b5s v w,i64 (b2R v w:Nat)]):=by
 refine a0c.walk w1 d2t rfl fun F=>?_
 have el:(((v.map fun s=>spD false s).length:Nat):Int)=(v.length:Int):=by rw [List.length_map]
 have elw:(((w.map fun x=>i64 x).length:Nat):Int)=(w.length:Int):=by rw [List.length_map]
 have hE:b2R v w=if b1x v.length≠0 then b1x v.length else if a6B (b0y (n0S v)) v≠0 then a6B (b0y (n0S v)) v else if w.length≠v.length then 2 else b4e (fun f=>a1Q (a0I v f) w) (n0S v):=rfl
 have hD:b5s v w=if b2R v w=0 then .sl false 2 (b2a v w (n0S v)) else a2a:=rfl
 obtain ⟨n0,hn0⟩:∃ n,n0S v=n:=⟨_,rfl⟩
 rw [hn0] at hE hD;have hA:b1x v.length=if v.length=0 then 2 else if 64<v.length then 5 else 0:=rfl
 by_cases g1:v.length=0
 ·have e1:((v.length:Int)==0)=true:=beq_iff_eq.2 (by omega)
  rw [if_pos g1] at hA;rw [hA,if_pos (by decide)] at hE;rw [hE,if_neg (by decide)] at hD;rw [hD,hE];refine goI a0U (ff2 e1 el) trivial trivial trivial trivial trivial trivial ?_;exact a0a rfl IsPure.out
 have e1:((v.length:Int)==0)=false:=beq_eq_false_iff_ne.2 (by omega);rw [if_neg g1] at hA
 by_cases g2:64<v.length
 ·have e2:decide ((v.length:Int)>64)=true:=decide_eq_true (by omega)
  rw [if_pos g2] at hA;rw [hA,if_pos (by decide)] at hE;rw [hE,if_neg (by decide)] at hD;rw [hD,hE];refine goI a0U (ff3 e1 e2 el) trivial trivial trivial trivial trivial trivial ?_;exact a0a rfl IsPure.out
 have e2:decide ((v.length:Int)>64)=false:=decide_eq_false (by omega);rw [if_neg g2] at hA;rw [hA,if_neg (by decide)] at hE;obtain ⟨s0,hs0⟩:=a0H (l:=v) (i:=0) (by omega);have hs0l:s0.length=n0:=by rw [← hn0];unfold n0S;rw [List.getD_eq_getElem?_getD,hs0];rfl
 have hm0:(v.map fun s=>spD false s)[0]? = some (spD false s0):=by rw [List.getElem?_map,hs0];rfl
 have el0:(((s0.map SpT.D).length:Nat):Int)=(n0:Int):=by rw [List.length_map,hs0l]
 refine goI a0U (ff3 e1 e2 el) trivial trivial trivial trivial trivial trivial ?_;refine OkS.loop (α:=Nat × Nat) (fun p=>⟨[(0,ssD v),(1,wsD w),(6,i64 (p.1:Int))],[],p.2⟩) (fun p=>v.length - p.1)
  (fun p=>p.1≤v.length∧∀ (j:Nat) (s:List SpT),j<p.1→v[j]? = some s→b0y n0 s=0) (0,_) ⟨Nat.zero_le _,fun j r hj=>absurd hj (Nat.not_lt_zero j)⟩ wkI ?_
 rintro ⟨i,m⟩ F ⟨hi,ha⟩;dsimp only at hi ha ⊢;rcases Nat.lt_or_ge i v.length with h2|h2
 ·have e3:=ltT h2
  have wi:=wiI (i:=i) (by omega);obtain ⟨s,hs⟩:=a0H h2;have hm:(v.map fun s=>spD false s)[i]? = some (spD false s):=by rw [List.getElem?_map,hs];rfl
  have els:(((s.map SpT.D).length:Nat):Int)=(s.length:Int):=by rw [List.length_map]
  have hsf:=hv s (List.mem_of_getElem? hs);have hB:b0y n0 s=two (b9b n0 s.length) (a6B a1D s):=rfl;have hS:b9b n0 s.length=if s.length=0 then 2 else if 8<s.length then 5 else if s.length≠n0 then 2 else 0:=rfl
  have hat:=fun h=>a6j (f:=b0y n0) ha hs h
  have herr:∀ e,e≠0→b0y n0 s=e→b2R v w=e∧b5s v w=a2a:=fun e h h3=>by
   rw [hat (by omega),h3,if_pos h] at hE;rw [hE,if_neg h] at hD;exact ⟨hE,hD⟩
  by_cases g3:s.length=0
  ·have e4:((s.length:Int)==0)=true:=beq_iff_eq.2 (by omega)
   rw [if_pos g3] at hS;obtain ⟨q1,q2⟩:=herr 2 (by decide) (by rw [hB,hS];rfl);rw [q1,q2];refine goI a0U (ff5 e3 el els e4 kN) hm trivial trivial trivial trivial trivial ?_;exact a0a rfl IsPure.out
  have e4:((s.length:Int)==0)=false:=beq_eq_false_iff_ne.2 (by omega);rw [if_neg g3] at hS
  by_cases g4:8<s.length
  ·have e5:decide ((s.length:Int)>8)=true:=decide_eq_true (by omega)
   rw [if_pos g4] at hS;obtain ⟨q1,q2⟩:=herr 5 (by decide) (by rw [hB,hS];rfl);rw [q1,q2];refine goI a0U (ff6 e3 el els e4 e5 kN) hm trivial trivial trivial trivial trivial ?_;exact a0a rfl IsPure.out
  have e5:decide ((s.length:Int)>8)=false:=decide_eq_false (by omega);rw [if_neg g4] at hS
  by_cases g5:s.length=n0
  rotate_left
  ·have e6:((s.length:Int) != (n0:Int))=true:=d0k g5
   rw [if_pos g5] at hS;obtain ⟨q1,q2⟩:=herr 2 (by decide) (by rw [hB,hS];rfl);rw [q1,q2];refine goI a0U (ff7 e3 el els el0 e4 e5 (ff2 e6 kN)) hm hm0 trivial trivial trivial trivial ?_;exact a0a rfl IsPure.out
  have e6:((s.length:Int) != (n0:Int))=false:=c9Q g5;rw [if_neg (by omega)] at hS;rw [hS,d0b rfl] at hB;refine goI a0U (ff7 e3 el els el0 e4 e5 (ff2 e6 kN)) hm hm0 trivial trivial trivial trivial ?_;refine OkS.loopF (α:=Nat × Nat) (fun p=>⟨[(0,ssD v),(1,wsD w),(6,i64 (i:Int)),(7,i64 (p.1:Int))],[],p.2⟩) (fun p=>s.length - p.1)
   (fun p F'=>F'=F∧p.1≤s.length∧∀ (j:Nat) (x:SpT),j<p.1→s[j]? = some x→a1D x=0) (0,_) ⟨rfl,Nat.zero_le _,fun j r hj=>absurd hj (Nat.not_lt_zero j)⟩ wkI ?_
  rintro ⟨k,m2⟩ F' ⟨rfl,hk,hb⟩;dsimp only at hk hb ⊢;rcases Nat.lt_or_ge k s.length with h3|h3
  ·have e7:=ltT h3
   have wk:=wiI (i:=k) (by omega);obtain ⟨x,hx⟩:=a0H h3;have hxf:=hsf.2 x (List.mem_of_getElem? hx);have hm2:(s.map SpT.D)[k]? = some (.agg [str (sb x.lo),str (sb x.hi)]):=by rw [List.getElem?_map,hx];rfl
   have cs:=c9D x.lo x.hi hxf.1 hxf.2;rw [a9i] at cs;rcases Nat.decEq (a1D x) 0 with g6|g6
   ·have e8:=b4x g6
    obtain ⟨q1,q2⟩:=herr (a1D x) g6 (by rw [hB];exact a6j hb hx g6);rw [q1,q2];refine goI a0U (ff4 e7 els e8 kN) hm hm2 cs trivial trivial trivial ?_;exact a0a rfl IsPure.out
   ·have e8:=b5l g6
    refine goI a0U (ff5 e7 els e8 wk kN) hm hm2 cs trivial trivial trivial ?_;exact ⟨(k+1,_),⟨by trivial,h3,a2e hx hb g6⟩,by dsimp only;omega,wkI⟩
  ·have e7:=ltF h3
   have:k=s.length:=by omega
   subst this;refine goI a0U (ff4 e7 els wi kN) hm trivial trivial trivial trivial trivial ?_;exact ⟨(i+1,_),⟨h2,a2e hs ha (by rw [hB];exact a2n hb)⟩,by dsimp only;omega,wkI⟩
 have e3:=ltF h2
 have:i=v.length:=by omega
 subst this;rw [a2n ha,if_neg (by decide)] at hE;have hz:∀ s∈v,s.length=n0∧0<n0∧n0≤8∧∀ x∈s,a1D x=0:=fun s hs=>by
  obtain ⟨j,hj⟩:=List.getElem?_of_mem (a:=s) (l:=v) hs;exact a5z (ha j s (List.getElem?_eq_some_iff.1 hj).1 hj)
 obtain ⟨-,z0,z8,-⟩:=hz s0 (List.mem_of_getElem? hs0)
 by_cases g3:w.length=v.length
 rotate_left
 ·have e4:=d0k g3
  rw [if_pos g3] at hE;rw [hE,if_neg (by decide)] at hD;rw [hD,hE];refine goI a0U (ff4 e3 el elw e4) trivial trivial trivial trivial trivial trivial ?_;exact a0a rfl IsPure.out
 have e4:=c9Q g3;rw [if_neg (by omega)] at hE;refine goI a0U (ff4 e3 el elw e4) trivial trivial trivial trivial trivial trivial ?_;have hcv:∀ f,(a0I v f).length=v.length:=fun f=>by unfold a0I;rw [List.length_map]
 have hcz:∀ f,f<n0→a2q (a0I v f)=0:=fun f hf=>by
  unfold a2q;rw [hcv,if_neg (by omega),if_neg (by omega)];refine a2n fun j x _ hx=>?_
  have hm:=List.mem_of_getElem? hx;unfold a0I at hm;obtain ⟨s,hs,rfl⟩:=List.mem_map.1 hm;obtain ⟨z1,-,-,z4⟩:=hz s hs;obtain ⟨y,hy⟩:=a0H (l:=s) (i:=f) (by omega);rw [List.getD_eq_getElem?_getD,hy];exact z4 y (List.mem_of_getElem? hy)
 have hmE:∀ f,f<n0→a1Q (a0I v f) w=if a7J w≠0 then a7J w else if a2c (loQ (a0I v f) w) (hiQ (a0I v f) w) then 4 else 0:=fun f hf=>by
  unfold a1Q;rw [hcz f hf,if_neg (by decide),hcv,if_neg (by omega)]
 have hwe:a7J w≠0→b2R v w=a7J w∧b5s v w=a2a:=fun h=>by
  have h0:a1Q (a0I v 0) w=a7J w:=by rw [hmE 0 z0,if_pos h]
  have:=b2l (f:=fun f=>a1Q (a0I v f) w) (i:=0) (n:=n0) (fun j hj=>absurd hj (Nat.not_lt_zero j)) z0 (by rw [h0];exact h)
  rw [this,h0] at hE;rw [hE,if_neg h] at hD;exact ⟨hE,hD⟩
 have hW:a7J w=if w.all wgt then (if a1Y w=0 then 6 else 0) else 3:=rfl
 refine OkS.loop (α:=Nat × Nat) (fun p=>⟨[(0,ssD v),(1,wsD w),(9,i64 (a1Y (w.take p.1))),(10,i64 (p.1:Int))],[],p.2⟩) (fun p=>w.length - p.1)
  (fun p=>p.1≤w.length∧(w.take p.1).all wgt=true) (0,_) ⟨Nat.zero_le _,rfl⟩ wkI ?_
 rintro ⟨i,m2⟩ F ⟨hi,hwa⟩;dsimp only at hi hwa ⊢;rcases Nat.lt_or_ge i w.length with h3|h3
 ·have e5:=ltT h3
  have wi:=wiI (i:=i) (by omega);obtain ⟨x,hx⟩:=a0H h3;have hm:(w.map fun w=>i64 w)[i]? = some (i64 x):=by rw [List.getElem?_map,hx];rfl
  have hs:=a4k hx;obtain ⟨g1,g2⟩:=a5T hwa i (by rw [List.length_take];omega);rw [List.take_take,Nat.min_self] at g1 g2;obtain ⟨p,hp⟩:∃ p,decide (x<0)=p:=⟨_,rfl⟩
  obtain ⟨q,hq⟩:∃ p,decide (x>999999999)=p:=⟨_,rfl⟩
  have hwx:wgt x=(!p && !q):=by
   rw [← hp,← hq];unfold wgt;rw [Bool.eq_iff_iff];simp only [Bool.and_eq_true,decide_eq_true_eq,Bool.not_eq_true',decide_eq_false_iff_not];omega
  have hbad:wgt x=false→b2R v w=3∧b5s v w=a2a:=fun h=>by
   have h3:a7J w=3:=by rw [hW,b0b hx h];rfl
   have:=hwe (by rw [h3];decide)
   rwa [h3] at this
  cases p
  ·cases q
   ·have hws:IntKind.i64.wrap (a1Y (w.take i)+x)=a1Y (w.take (i+1)):=by
     have:=of_decide_eq_false hp
     have:=of_decide_eq_false hq
     rw [hs];exact wI (by omega) (by omega)
    refine goI a0U (ff7 e5 elw hp hq hws wi kN) hm trivial trivial trivial trivial trivial ?_;exact ⟨(i+1,_),⟨h3,a4x hx hwa hwx⟩,by dsimp only;omega,wkI⟩
   ·obtain ⟨q1,q2⟩:=hbad hwx
    rw [q1,q2];refine goI a0U (ff5 e5 elw hp hq kN) hm trivial trivial trivial trivial trivial ?_;exact a0a rfl IsPure.out
  ·obtain ⟨q1,q2⟩:=hbad (by rw [hwx];rfl)
   rw [q1,q2];refine goI a0U (ff4 e5 elw hp kN) hm trivial trivial trivial trivial trivial ?_;exact a0a rfl IsPure.out
 have e5:=ltF h3
 have:i=w.length:=by omega
 subst this;obtain ⟨u1,u2⟩:=a5T hwa w.length (by rw [List.length_take];omega);rw [List.take_length] at hwa;rw [List.take_take,Nat.min_self,List.take_length] at u1 u2;rw [List.take_length];rw [hwa,if_pos rfl] at hW
 by_cases g4:a1Y w=0
 ·have e6:(a1Y w==0)=true:=beq_iff_eq.2 g4
  rw [if_pos g4] at hW;obtain ⟨q1,q2⟩:=hwe (by rw [hW];decide);rw [hW] at q1;rw [q1,q2];refine goI a0U (ff3 e5 elw e6) trivial trivial trivial trivial trivial trivial ?_;exact a0a rfl IsPure.out
 have e6:(a1Y w==0)=false:=beq_eq_false_iff_ne.2 g4;rw [if_neg g4] at hW;refine goI a0U (ff3 e5 elw e6) trivial trivial trivial trivial trivial trivial ?_;have hwe0:a7J w=0:=hW;have hmE2:∀ f,f<n0→a1Q (a0I v f) w=if a2c (loQ (a0I v f) w) (hiQ (a0I v f) w) then 4 else 0:=fun f hf=>by rw [hmE f hf,if_neg (by omega)]
 clear hmE hwe hW ha;obtain ⟨d,hd⟩:∃ d:Nat,a1Y w=(d:Int):=⟨(a1Y w).toNat,by omega⟩
 have hd0:d≠0:=by omega
 have hdl:d≤999999999*1000:=by
  have:(999999999:Int)*w.length≤999999999*1000:=Int.mul_le_mul_of_nonneg_left (by omega) (by omega)
  omega
 refine OkS.loop (α:=Nat × List D × Nat × Nat) (fun p=>⟨[(0,ssD v),(1,wsD w),(9,i64 (a1Y w)),(11,a6T 4403 p.2.2.1 2 p.2.1),(12,i64 (p.1:Int))],a5j 4403 p.2.2.1 46 2 p.2.1,p.2.2.2⟩) (fun p=>n0 - p.1)
  (fun p=>p.1≤n0∧p.2.1=b2a v w p.1∧∀ j,j<p.1→a1Q (a0I v j) w=0) (0,[],0,_) ⟨Nat.zero_le _,rfl,fun j hj=>absurd hj (Nat.not_lt_zero j)⟩ wkI ?_
 rintro ⟨f,L,g9,m3⟩ F ⟨hf,hL,hmz⟩;dsimp only at hf hL hmz ⊢;rcases Nat.lt_or_ge f n0 with h4|h4
 rotate_left
 ·have e7:=ltF h4
  have:f=n0:=by omega
  subst this;rw [a5v hmz] at hE;rw [hE,if_pos rfl] at hD;rw [hD,hE];refine goI a0U (ff2 e7 el0) hm0 trivial trivial trivial trivial trivial ?_;subst hL;exact ⟨_,b5F (a8o (by have:=a9T (H:=[]) (K:=4403) (g:=g9) (T:=46) (sz:=2) (l:=b2a v w f);rwa [List.append_nil] at this) rfl),IsPure.out,rfl⟩
 have e7:=ltT h4;have wf:=wiI (i:=f) (by omega);have hLl:L.length=f:=by rw [hL];unfold b2a;rw [List.length_map,List.length_range]
 have hsn:=b1q v w f;rw [← hL] at hsn;clear hL;have hlo:b5r (fun i=>a0q (lv ((a0I v f).map SpT.lo) i)) w v.length=loQ (a0I v f) w:=by
  unfold b5r loQ a8x;rw [List.length_map,hcv]
 have hhi:b5r (fun i=>a0q (lv ((a0I v f).map SpT.hi) i)) w v.length=hiQ (a0I v f) w:=by
  unfold b5r hiQ a8x;rw [List.length_map,hcv]
 have hat:∀ (k:Nat) (s:List SpT),v[k]? = some s→lv ((a0I v f).map SpT.lo) k=(s.getD f default).lo∧lv ((a0I v f).map SpT.hi) k=(s.getD f default).hi:=fun k s hs=>by
  have h:=b7c (f:=f) hs;constructor
  ·exact c0r (by rw [List.getElem?_map,h];rfl)
  ·exact c0r (by rw [List.getElem?_map,h];rfl)
 have hq:∀ (k:Nat) (s:List SpT),v[k]? = some s→chk (s.getD f default).lo=0∧chk (s.getD f default).hi=0∧s[f]? = some (s.getD f default):=fun k s hs=>by
  obtain ⟨z1,-,-,z4⟩:=hz s (List.mem_of_getElem? hs);obtain ⟨y,hy⟩:=a0H (l:=s) (i:=f) (by omega);have hgy:s.getD f default=y:=by rw [List.getD_eq_getElem?_getD,hy];rfl
  rw [hgy];obtain ⟨q1,q2,-⟩:=a2g (z4 y (List.mem_of_getElem? hy));exact ⟨q1,q2,hy⟩
 have hwk:∀ k,k<v.length→(wAt w k).natAbs≤999999999:=fun k hk=>(b4k (b1j hwa (by omega))).2
 have hrk:∀ (x:Nat→Rat),(∀ k,k<v.length→rk (x k) 600)→∀ k,k≤v.length→rk (b5r x w k) (603*k+1):=fun x hx k=>by
  induction k with
  | zero=>intro _;rw [a8h];exact ⟨a0D (n:=0) (k:=1) (by decide),a0D (n:=1) (k:=1) (by decide)⟩
  | succ k ih =>
   intro hk;rcases a7k x w k with h|h
   ·rw [h]
    have hm:=c8k (z:=wAt w k) (d:=(a1Y w).toNat) (by have:=hwk k (by omega);omega) (by omega) (by omega);exact (b8i (ih (by omega)) (b0T hm (hx k (by omega)))).mono (by omega)
   ·omega
 have hlk:∀ k,k<v.length→rk (a0q (lv ((a0I v f).map SpT.lo) k)) 600∧rk (a0q (lv ((a0I v f).map SpT.hi) k)) 600:=fun k hk=>by
  obtain ⟨s,hs⟩:=a0H hk;obtain ⟨a1,a2⟩:=hat k s hs;obtain ⟨b1,b2,-⟩:=hq k s hs;rw [a1,a2];exact ⟨a4q b1,a4q b2⟩
 have hr1:=hrk _ fun k hk=>(hlk k hk).1
 have hr2:=hrk _ fun k hk=>(hlk k hk).2
 clear hrk;have ha1:=a7k (fun i=>a0q (lv ((a0I v f).map SpT.lo) i)) w;have ha2:=a7k (fun i=>a0q (lv ((a0I v f).map SpT.hi) i)) w;have hz1:=a8h (fun i=>a0q (lv ((a0I v f).map SpT.lo) i)) w;have hz2:=a8h (fun i=>a0q (lv ((a0I v f).map SpT.hi) i)) w;generalize b5r (fun i=>a0q (lv ((a0I v f).map SpT.lo) i)) w=A1 at *;generalize b5r (fun i=>a0q (lv ((a0I v f).map SpT.hi) i)) w=A2 at *;have r0:rR 0=str ⟨#[48]⟩:=by
  have tz:txt 0=[48]:=of_decide_eq_true ((b0o 0).trans (decide_eq_true rfl));unfold rR;rw [tz];all_goals rfl
 obtain ⟨AD,hAD⟩:∃ A,a6T 4403 g9 2 L=A:=⟨_,rfl⟩
 obtain ⟨AH,hAH⟩:∃ A,a5j 4403 g9 46 2 L=A:=⟨_,rfl⟩
 rw [hAD,hAH];refine goI a0U (ff2 e7 el0) hm0 trivial trivial trivial trivial trivial ?_;refine OkS.loopF (α:=Nat × Nat × Nat) (fun p=>⟨[(0,ssD v),(1,wsD w),(9,i64 (a1Y w)),(11,AD),(12,i64 (f:Int)),(13,.optr 3501 p.2.1 2 0 0),(14,i64 (p.1:Int))],⟨3501,p.2.1,46,2,[.agg [rR (A1 p.1),rR (A2 p.1)]]⟩::AH,p.2.2⟩) (fun p=>v.length - p.1)
  (fun p F'=>F'=F∧p.1≤v.length) (0,_,_) ⟨rfl,Nat.zero_le _⟩ (by (dsimp only;rw [hz1,hz2,r0];exact wkI)) ?_
 rintro ⟨k,g4,m4⟩ F' ⟨rfl,hk⟩;dsimp only at hk ⊢;rcases Nat.lt_or_ge k v.length with h5|h5
 ·have e8:=ltT h5
  have wk:=wiI (i:=k) (by omega);obtain ⟨s,hs⟩:=a0H h5;have hm:(v.map fun s=>spD false s)[k]? = some (spD false s):=by rw [List.getElem?_map,hs];rfl
  obtain ⟨b1,b2,b3⟩:=hq k s hs;obtain ⟨a1,a2⟩:=hat k s hs;have hm2:(s.map SpT.D)[f]? = some (.agg [str (sb (s.getD f default).lo),str (sb (s.getD f default).hi)]):=by rw [List.getElem?_map,b3];rfl
  have hwm:(w.map fun x=>i64 x)[k]? = some (i64 (wAt w k)):=by rw [List.getElem?_map,a3M (by omega)];rfl
  have hw9:=hwk k h5;have c1:=c4s (wAt w k) d (by omega) (by omega) (by omega);have hm9:=c8k (z:=wAt w k) (d:=d) (by omega) (by omega) hd0;have n1:A1 (k+1)=A1 k+mkRat (wAt w k) d*a0q (s.getD f default).lo:=by
   rcases ha1 k with h|h
   ·rw [h,a1,hd,Int.toNat_natCast]
   ·omega
  have n2:A2 (k+1)=A2 k+mkRat (wAt w k) d*a0q (s.getD f default).hi:=by
   rcases ha2 k with h|h
   ·rw [h,a2,hd,Int.toNat_natCast]
   ·omega
  have c2:=d2M _ _ _ _ hm9 (a4q b1) (by decide);have c3:=d2M _ _ _ _ hm9 (a4q b2) (by decide);have c4:=d0N _ _ _ _ (hr1 k (by omega)) (b0T hm9 (a4q b1)) (by omega);have c5:=d0N _ _ _ _ (hr2 k (by omega)) (b0T hm9 (a4q b2)) (by omega);rw [c0Y b1] at c2;rw [c0Y b2] at c3;rw [← n1] at c4;rw [← n2] at c5;rw [hd];refine goI a0U (ff3 e8 el kN) hwm c1 hm hm2 c2 c4 ?_;refine goI a0U (ff2 wk kN) hm hm2 c3 c5 trivial trivial ?_;exact ⟨(k+1,_,_),⟨by trivial,h5⟩,by dsimp only;omega,wkI⟩
 have e8:=ltF h5
 have:k=v.length:=by omega
 subst this;rw [hlo,hhi];have c1:=c2N _ _ (hlo ▸ hr1 v.length (Nat.le_refl _)) (by omega);have c2:=c2N _ _ (hhi ▸ hr2 v.length (Nat.le_refl _)) (by omega);have hE2:=hmE2 f h4;have hB:a2c (loQ (a0I v f) w) (hiQ (a0I v f) w)=(a7a (loQ (a0I v f) w)||a7a (hiQ (a0I v f) w)):=rfl;have hM:a5h (a0I v f) w=if a1Q (a0I v f) w=0 then a4J (loQ (a0I v f) w) (hiQ (a0I v f) w) else .agg [str (sb []),str (sb [])]:=rfl
 have hSp:a4J (loQ (a0I v f) w) (hiQ (a0I v f) w)=.agg [str (sb (if a2c (loQ (a0I v f) w) (hiQ (a0I v f) w) then [] else txt (loQ (a0I v f) w))),str (sb (if a2c (loQ (a0I v f) w) (hiQ (a0I v f) w) then [] else txt (hiQ (a0I v f) w)))]:=rfl;have hfe:=fun h=>b2l (f:=fun f=>a1Q (a0I v f) w) hmz h4 h
 clear hlo hhi hr1 hr2 hat hq hlk;generalize loQ (a0I v f) w=LO at *;generalize hiQ (a0I v f) w=HI at *;obtain ⟨p,hp⟩:∃ b,a7a LO=b:=⟨_,rfl⟩
 obtain ⟨q,hq⟩:∃ b,a7a HI=b:=⟨_,rfl⟩
 obtain ⟨n1,hn1⟩:∃ n,(if p=true then (4:Int) else 0)=n:=⟨_,rfl⟩
 obtain ⟨n2,hn2⟩:∃ n,(if q=true then (4:Int) else 0)=n:=⟨_,rfl⟩
 have k1:(n1 != 0)=p:=by rw [← hn1];cases p<;>rfl
 have k2:(n2 != 0)=q:=by rw [← hn2];cases q<;>rfl
 rw [hp,hn1] at c1;rw [hq,hn2] at c2;rw [hp,hq] at hB;rw [hB] at hE2 hSp;cases p
 ·cases q
  ·rw [if_neg (by decide)] at hE2
   rw [if_neg (by decide),if_neg (by decide)] at hSp;rw [hE2,if_pos rfl,hSp] at hM;rw [hM] at hsn;have hmz2:∀ j,j<f+1→a1Q (a0I v j) w=0:=fun j hj=>by
    rcases Nat.lt_or_ge j f with h|h
    ·exact hmz j h
    ·rw [show j=f by omega];exact hE2
   subst hAD hAH;rcases L with _|⟨z,L⟩
   ·dsimp only [a3a,a2V,List.nil_append]
    refine goI a0U (ff6 e8 el k1 k2 wf kN) c1 c2 trivial trivial trivial trivial ?_;exact ⟨(f+1,[_],_,_),⟨h4,hsn.symm,hmz2⟩,by dsimp only;omega,wkI⟩
   ·have htk:List.take (L.length+1) (z::L)=z::L:=by simp
    simp only [List.length_cons] at hLl;dsimp only [a1X,a1W];refine goI a0U (ff7 e8 el k1 k2 wf htk kN) c1 c2 trivial trivial trivial trivial ?_;exact ⟨(f+1,z::L++[_],_,_),⟨h4,hsn.symm,hmz2⟩,by dsimp only;omega,by (dsimp only;rw [a2u];exact wkI)⟩
  ·rw [if_pos (by decide)] at hE2
   rw [hfe (by rw [hE2];decide)] at hE;rw [show a1Q (a0I v f) w=4 from hE2] at hE;rw [hE,if_neg (by decide)] at hD;rw [hD,hE];refine goI a0U (ff4 e8 el k1 k2) c1 c2 trivial trivial trivial trivial ?_;exact a0a rfl IsPure.out
 ·rw [if_pos (by cases q<;>decide)] at hE2
  rw [hfe (by rw [hE2];decide)] at hE;rw [show a1Q (a0I v f) w=4 from hE2] at hE;rw [hE,if_neg (by decide)] at hD;rw [hD,hE];refine goI a0U (ff3 e8 el k1) c1 trivial trivial trivial trivial trivial ?_;exact a0a rfl IsPure.out
open Go.Proofs Go.RowKit
set_option maxRecDepth 20000
set_option maxHeartbeats 8000000
def b2z (s:SpT):Bool:=c9z [s.lo,s.hi]
theorem c3R (b:Bool)(l:List SpT)(hl:l.length≤9223372036854775807):a0b C0 15 [spD b l] (boo (l.all b2z)):=by
 refine a0c.walk w1 d1b rfl fun F=>?_
 have el:(((l.map SpT.D).length:Nat):Int)=(l.length:Int):=by rw [List.length_map]
 refine goI dr0 el trivial trivial trivial trivial trivial trivial ?_;refine OkS.loop (α:=Nat × Nat) (fun p=>⟨[(5,spD b l),(6,i64 (l.length:Int)),(7,i64 (p.1:Int))],[],p.2⟩) (fun p=>l.length - p.1)
  (fun p=>p.1≤l.length∧(l.take p.1).all b2z=true) (0,_) ⟨Nat.zero_le _,rfl⟩ wkI ?_
 rintro ⟨i,m⟩ F ⟨hi,ha⟩;dsimp only at hi ha ⊢;rcases Nat.lt_or_ge i l.length with h2|h2
 ·have e1:=ltT h2
  have wi:=wiI (i:=i) (by omega);obtain ⟨x,hx⟩:=a0H h2;have hm:(l.map SpT.D)[i]? = some (.agg [str (sb x.lo),str (sb x.hi)]):=by rw [List.getElem?_map,hx];rfl
  have c:a0b C0 19 [.sl true 1 [str (sb x.lo),str (sb x.hi)]] (boo (b2z x)):=d0A true [x.lo,x.hi] (by simp);obtain ⟨p,hp⟩:∃ p,b2z x=p:=⟨_,rfl⟩
  rw [hp] at c;cases p
  ·rw [b0b hx hp]
   refine goI dr0 (ff2 e1 kN) hm c trivial trivial trivial trivial ?_;exact a0a rfl IsPure.out
  ·refine goI dr0 (ff3 e1 wi kN) hm c trivial trivial trivial trivial ?_
   exact ⟨(i+1,_),⟨h2,a4x hx ha hp⟩,by dsimp only;omega,wkI⟩
 ·have e1:=ltF h2
  have:i=l.length:=by omega
  subst this;rw [List.take_length] at ha;rw [ha];refine goI dr0 e1 trivial trivial trivial trivial trivial trivial ?_;exact a0a rfl IsPure.out
set_option maxHeartbeats 4000000
def a2S (w:Nat→Int):Nat→Int
 | 0=>0
 | n+1=>a2S w n+w n
theorem b0d {x y:Nat→Rat}{w:Nat→Int}:∀ n,(∀ i,i<n→0≤w i)→(∀ i,i<n→0<w i→x i≤y i)→a3t x w n≤a3t y w n
 | 0,_,_=>by unfold a3t;grind
 | n+1,hw,h=>by
  have ih:=b0d n (fun i hi=>hw i (by omega)) fun i hi=>h i (by omega)
  have h1:x n*(w n:Rat)≤y n*(w n:Rat):=by
   by_cases g:0<w n
   ·exact Rat.mul_le_mul_of_nonneg_right (h n (by omega) g) (Rat.intCast_nonneg.2 (by omega))
   ·have:w n=0:=by have:=hw n (by omega);omega
    rw [this];grind
  unfold a3t
  grind
theorem a6m (c:Rat)(w:Nat→Int):∀ n,a3t (fun _=>c) w n=c*((a2S w n:Int):Rat)
 | 0=>by unfold a3t a2S;grind
 | n+1=>by
  unfold a3t a2S;rw [a6m c w n,Rat.intCast_add];grind
theorem b4g (x:Nat→Rat)(w:Nat→Int)(n:Nat):∀ m,a3t x w (n+m)=a3t x w n+a3t (fun i=>x (n+i)) (fun i=>w (n+i)) m
 | 0=>by unfold a3t;grind
 | m+1=>by
  show a3t x w (n+m)+x (n+m)*(w (n+m):Rat)=_+(a3t (fun i=>x (n+i)) (fun i=>w (n+i)) m+x (n+m)*(w (n+m):Rat));rw [b4g x w n m];grind
theorem a5M {x y:Nat→Rat}{w u:Nat→Int}:∀ n,(∀ i,i<n→x i=y i∧w i=u i)→a3t x w n=a3t y u n
 | 0,_=>rfl
 | n+1,h=>by
  obtain ⟨h1,h2⟩:=h n (by omega);unfold a3t;rw [a5M n fun i hi=>h i (by omega),h1,h2]
theorem b4r (w:Nat→Int)(n:Nat):∀ m,a2S w (n+m)=a2S w n+a2S (fun i=>w (n+i)) m
 | 0=>by show a2S w n=a2S w n+0;omega
 | m+1=>by
  show a2S w (n+m)+w (n+m)=_+(a2S (fun i=>w (n+i)) m+w (n+m));rw [b4r w n m];omega
theorem b8c (l:List Int):∀ n,n≤l.length→a1Y (l.take n)=a2S (wAt l) n
 | 0,_=>by simp [a1Y,a2S]
 | n+1,h=>by
  rw [a4k (a3M (l:=l) (i:=n) (by omega)),b8c l n (by omega)];rfl
theorem a2A (l:List Int):a1Y l=a2S (wAt l) l.length:=by
 have:=b8c l l.length (Nat.le_refl _)
 rwa [List.take_length] at this
theorem a7m {c b:Rat}(hb:0<b):c*b*b⁻¹=c:=by
 rw [Rat.mul_assoc,Rat.mul_inv_cancel b (fun h=>by rw [h] at hb;exact absurd hb (by decide)),Rat.mul_one]
theorem c9P {c a b:Rat}(h:c*b≤a)(hb:0<b):c≤a / b:=by
 rw [Rat.div_def]
 have:=Rat.mul_le_mul_of_nonneg_right h (Rat.le_of_lt (Rat.inv_pos.2 hb))
 rwa [a7m hb] at this
theorem c8C {c a b:Rat}(h:a≤c*b)(hb:0<b):a / b≤c:=by
 rw [Rat.div_def]
 have:=Rat.mul_le_mul_of_nonneg_right h (Rat.le_of_lt (Rat.inv_pos.2 hb))
 rwa [a7m hb] at this
theorem c0j {a c b:Rat}(h:a≤c)(hb:0<b):a / b≤c / b:=by
 rw [Rat.div_def,Rat.div_def];exact Rat.mul_le_mul_of_nonneg_right h (Rat.le_of_lt (Rat.inv_pos.2 hb))
theorem c4n {x:Nat→Rat}{w:Nat→Int}{n:Nat}{c:Rat}(hw:∀ i,i<n→0≤w i)(hs:0<a2S w n)(h:∀ i,i<n→0<w i→c≤x i):c≤a3t x w n / ((a2S w n:Int):Rat):=by
 refine c9P ?_ (by exact_mod_cast hs);rw [← a6m];exact b0d n hw h
theorem c3s {x:Nat→Rat}{w:Nat→Int}{n:Nat}{c:Rat}(hw:∀ i,i<n→0≤w i)(hs:0<a2S w n)(h:∀ i,i<n→0<w i→x i≤c):a3t x w n / ((a2S w n:Int):Rat)≤c:=by
 refine c8C ?_ (by exact_mod_cast hs);rw [← a6m];exact b0d n hw h
theorem b5M {x:Nat→Rat}{w:Nat→Int}:∀ n,(∀ i,i<n→nb (x i) E40 E40)→(∀ i,i<n→(w i).natAbs≤1000)→nb (a3t x w n) (n*(2*(E40*E40*E40*E40))*E40^n) (E40^n)
 | 0,_,_=>c4K.mono (Nat.zero_le _) (Nat.le_of_eq (Nat.pow_zero _).symm)
 | n+1,h1,h2=>c4W (b5M n (fun i hi=>h1 i (by omega)) fun i hi=>h2 i (by omega)) ((c2r (h1 n (by omega)) (c1h (w n) (h2 n (by omega)))).mono (by decide) (by decide))
theorem b3P {x:Nat→Rat}{w:Nat→Int}{n:Nat}{S:Int}(hn:n≤6)(h1:∀ i,i<n→nb (x i) E40 E40)(h2:∀ i,i<n→(w i).natAbs≤1000)(hS:S.natAbs≤6000)(h0:S≠0):a7a (a3t x w n / (S:Rat))=false:=by
 have h:=c8g (b5M n h1 h2) (c1h S hS) (by exact_mod_cast h0)
 have:n=0∨n=1∨n=2∨n=3∨n=4∨n=5∨n=6:=by omega
 rcases this with rfl|rfl|rfl|rfl|rfl|rfl|rfl<;>exact c6M h (by decide) (by decide)
theorem a9W {a b:Rat}:¬ a4R a b>0↔a≤b:=by
 have h1:=c2C a b;have h2:=a7d b a
 have:a4R a b>0↔b<a:=by
  rw [← h2];exact decide_eq_decide.1 h1
 rw [this];exact Rat.not_lt
theorem b7x {a b:Rat}:¬ a4R a b<0↔b≤a:=by
 rw [a7d];exact Rat.not_lt
structure a5d (v:List (List SpT))(w:List Int):Prop where
 l0:0<v.length
 l64:v.length≤64
 n0:0<n0S v
 n8:n0S v≤8
 sl:∀ s∈v,s.length=n0S v
 sc:∀ s∈v,∀ x∈s,a1D x=0
 wl:w.length=v.length
 wa:w.all wgt=true
 ws:a1Y w≠0
 bg:∀ f,f<n0S v→a2c (loQ (a0I v f) w) (hiQ (a0I v f) w)=false
theorem a5g (v:List (List SpT))(f:Nat):(a0I v f).length=v.length:=by unfold a0I;rw [List.length_map]
theorem b8I {v:List (List SpT)}{n f:Nat}(hf:f<n)(hl:v.length≤64)(h0:0<v.length)(h1:∀ s∈v,s.length=n)(h2:∀ s∈v,∀ x∈s,a1D x=0):(∀ x∈a0I v f,a1D x=0)∧a2q (a0I v f)=0:=by
 have h:∀ x∈a0I v f,a1D x=0:=fun x hx=>by
  unfold a0I at hx;obtain ⟨s,hs,rfl⟩:=List.mem_map.1 hx;obtain ⟨y,hy⟩:=a0H (l:=s) (i:=f) (by rw [h1 s hs];exact hf);rw [List.getD_eq_getElem?_getD,hy];exact h2 s hs y (List.mem_of_getElem? hy)
 refine ⟨h,?_⟩;unfold a2q;rw [a5g,if_neg (by omega),if_neg (by omega)];exact a2n fun j x _ hx=>h x (List.mem_of_getElem? hx)
theorem c6e {v:List (List SpT)}{w:List Int}(hw:w.length≤1000)(h:b2R v w=0):a5d v w:=by
 unfold b2R at h;split at h
 ·rename_i g;exact absurd h g
 ·rename_i g1
  split at h
  ·rename_i g;exact absurd h g
  ·rename_i g2
   split at h
   ·cases h
   ·rename_i g3
    have hA:b1x v.length=0:=by omega
    have hl:0<v.length∧v.length≤64:=by
     unfold b1x at hA;split at hA
     ·cases hA
     ·split at hA
      ·cases hA
      ·omega
    have hz:∀ s∈v,b0y (n0S v) s=0:=a5I (by omega);obtain ⟨s0,hs0⟩:=a0H hl.1;obtain ⟨-,z1,z2,-⟩:=a5z (hz s0 (List.mem_of_getElem? hs0));have hE:=c0x h;have hsl:∀ s∈v,s.length=n0S v:=fun s hs=>(a5z (hz s hs)).1
    have hsc:∀ s∈v,∀ x∈s,a1D x=0:=fun s hs=>(a5z (hz s hs)).2.2.2
    have hme:∀ f,f<n0S v→a7J w=0∧a2c (loQ (a0I v f) w) (hiQ (a0I v f) w)=false:=fun f hf=>by
     have:=hE f hf
     unfold a1Q at this;rw [(b8I hf hl.2 hl.1 hsl hsc).2,if_neg (by decide),a5g,if_neg g3] at this;split at this
     ·rename_i g;exact absurd this g
     ·rename_i g
      refine ⟨by omega,?_⟩;split at this
      ·cases this
      ·rename_i g;simpa using g
    obtain ⟨q1,q2,-⟩:=b1D (hme 0 z1).1 hw;exact ⟨hl.1,hl.2,z1,z2,hsl,hsc,by omega,q1,q2,fun f hf=>(hme f hf).2⟩
variable {v:List (List SpT)} {w:List Int}
theorem a5d.wz (h:a5d v w):a7J w=0:=by
 unfold a7J;rw [h.wa,if_pos rfl,if_neg h.ws]
theorem a5d.me (h:a5d v w){f:Nat}(hf:f<n0S v):a1Q (a0I v f) w=0:=by
 unfold a1Q;rw [(b8I hf h.l64 h.l0 h.sl h.sc).2,if_neg (by decide),a5g,if_neg (by have:=h.wl;omega),h.wz,if_neg (by decide),h.bg f hf,if_neg (by decide)]
theorem a5d.zero (h:a5d v w):b2R v w=0:=by
 unfold b2R;have hA:b1x v.length=0:=by
  unfold b1x;rw [if_neg (by have:=h.l0;omega),if_neg (by have:=h.l64;omega)]
 have hS:a6B (b0y (n0S v)) v=0:=a2n fun j s _ hs=>by
  have hm:=List.mem_of_getElem? hs;unfold b0y two b9b;rw [h.sl s hm];have h1:=h.n0;have h2:=h.n8;rw [if_neg (show ¬ n0S v=0 by omega),if_neg (show ¬ 8<n0S v by omega),if_neg (show ¬ n0S v≠n0S v by omega),if_neg (by decide)];exact a2n fun j x _ hx=>h.sc s hm x (List.mem_of_getElem? hx)
 rw [hA,if_neg (by decide),hS,if_neg (by decide),if_neg (by have:=h.wl;omega)];exact a5v fun f hf=>h.me hf
def spL (v:List (List SpT))(w:List Int):List SpT:=(List.range (n0S v)).map fun f=>⟨txt (loQ (a0I v f) w),txt (hiQ (a0I v f) w)⟩
theorem b0t (v:List (List SpT))(w:List Int):(spL v w).length=n0S v:=by unfold spL;rw [List.length_map,List.length_range]
theorem b3x {f:Nat}(hf:f<n0S v):(spL v w)[f]? = some ⟨txt (loQ (a0I v f) w),txt (hiQ (a0I v f) w)⟩:=by
 unfold spL;rw [List.getElem?_map,List.getElem?_range hf];rfl
theorem a5d.d (h:a5d v w):b5s v w=spD false (spL v w):=by
 have e:b2a v w (n0S v)=(spL v w).map SpT.D:=by
  unfold b2a spL;rw [List.map_map];refine List.map_congr_left fun f hf=>?_
  have hf:=List.mem_range.1 hf;unfold a5h;rw [h.me hf,if_pos rfl];unfold a4J;rw [h.bg f hf];rfl
 unfold b5s;rw [h.zero,if_pos rfl,e]
def loN (v:List (List SpT))(f i:Nat):Rat:=a0q (lv ((a0I v f).map SpT.lo) i)
def hiN (v:List (List SpT))(f i:Nat):Rat:=a0q (lv ((a0I v f).map SpT.hi) i)
theorem a5d.lo (h:a5d v w)(f:Nat):loQ (a0I v f) w=a3t (loN v f) (wAt w) v.length / ((a2S (wAt w) v.length:Int):Rat):=by
 unfold loQ a8x;rw [a2A,h.wl,List.length_map,a5g];rfl
theorem a5d.hi (h:a5d v w)(f:Nat):hiQ (a0I v f) w=a3t (hiN v f) (wAt w) v.length / ((a2S (wAt w) v.length:Int):Rat):=by
 unfold hiQ a8x;rw [a2A,h.wl,List.length_map,a5g];rfl
theorem c4c {i f:Nat}{s:List SpT}{x:SpT}(hs:v[i]? = some s)(hx:s[f]? = some x):loN v f i=a0q x.lo∧hiN v f i=a0q x.hi:=by
 have hg:s.getD f default=x:=by rw [List.getD_eq_getElem?_getD,hx];rfl
 have h:=b7c (f:=f) hs;rw [hg] at h;unfold loN hiN;rw [c0r (l:=x.lo) (by rw [List.getElem?_map,h];rfl),c0r (l:=x.hi) (by rw [List.getElem?_map,h];rfl)];exact ⟨rfl,rfl⟩
theorem a5d.at (h:a5d v w){i f:Nat}(hi:i<v.length)(hf:f<n0S v):∃ s x,v[i]? = some s∧s[f]? = some x∧s∈v∧x∈s∧a1D x=0:=by
 obtain ⟨s,hs⟩:=a0H hi;have hm:=List.mem_of_getElem? hs;obtain ⟨x,hx⟩:=a0H (l:=s) (i:=f) (by rw [h.sl s hm];exact hf);exact ⟨s,x,hs,hx,hm,List.mem_of_getElem? hx,h.sc s hm x (List.mem_of_getElem? hx)⟩
theorem a5d.wn (h:a5d v w){i:Nat}(hi:i<v.length):0≤wAt w i:=by
 have:=b1j h.wa (i:=i) (by rw [h.wl];exact hi)
 unfold wgt at this;simp only [Bool.and_eq_true,decide_eq_true_eq] at this;exact this.1
theorem a7P {u:Nat→Int}:∀ n,(∀ i,i<n→0≤u i)→0≤a2S u n
 | 0,_=>Int.le_refl _
 | n+1,h=>by
  have:=a7P n fun i hi=>h i (by omega)
  have:=h n (by omega)
  unfold a2S;omega
theorem a5d.sp (h:a5d v w):0<a2S (wAt w) v.length:=by
 have h1:=h.ws;rw [a2A,h.wl] at h1
 have:=a7P (u:=wAt w) v.length fun i hi=>h.wn hi
 omega
theorem a5d.le (h:a5d v w){f:Nat}(hf:f<n0S v):loQ (a0I v f) w≤hiQ (a0I v f) w:=by
 rw [h.lo,h.hi];refine c0j (b0d _ (fun i hi=>h.wn hi) fun i hi _=>?_) (by exact_mod_cast h.sp);obtain ⟨s,x,hs,hx,-,-,hc⟩:=h.at hi hf;obtain ⟨e1,e2⟩:=c4c hs hx;rw [e1,e2];exact a9W.1 (a2g hc).2.2
theorem a5d.chk (h:a5d v w):∀ x∈spL v w,a1D x=0:=fun x hx=>by
 unfold spL at hx;obtain ⟨f,hf,rfl⟩:=List.mem_map.1 hx;have hf:=List.mem_range.1 hf;have hb:=h.bg f hf;unfold a2c at hb;simp only [Bool.or_eq_false_iff] at hb;unfold a1D;dsimp only;rw [b0p hb.1,b0p hb.2,a2r,a2r,d0b rfl,if_neg (fun h=>h rfl),if_neg (a9W.2 (h.le hf))]
variable {v:List (List SpT)} {w:List Int}
def d2O (v:List (List SpT))(w:List Int):Prop:=v.length≤6∧(∀ s∈v,∀ x∈s,x.lo.length≤40∧x.hi.length≤40)∧∀ x∈w,x≤1000
theorem b2i {n k i:Nat}:wAt ((w.drop n).take k) i=if i<k then wAt w (n+i) else 0:=by
 unfold wAt;rw [List.getD_eq_getElem?_getD,List.getD_eq_getElem?_getD,List.getElem?_take];split
 ·rw [List.getElem?_drop]
 ·rfl
theorem c2k {n k f i:Nat}(h:i<k):loN ((v.drop n).take k) f i=loN v f (n+i)∧hiN ((v.drop n).take k) f i=hiN v f (n+i):=by
 unfold loN hiN lv a0I;simp only [List.getD_eq_getElem?_getD,List.getElem?_map,List.getElem?_take,List.getElem?_drop,h,if_true];exact ⟨trivial,trivial⟩
theorem a5d.sub (h:a5d v w)(hs:d2O v w){n k:Nat}(hk:n+k≤v.length)(h0:a2S (fun i=>wAt w (n+i)) k≠0) :
  a5d ((v.drop n).take k) ((w.drop n).take k)∧n0S ((v.drop n).take k)=n0S v∧∀ f,loQ (a0I ((v.drop n).take k) f) ((w.drop n).take k)=a3t (fun i=>loN v f (n+i)) (fun i=>wAt w (n+i)) k / ((a2S (fun i=>wAt w (n+i)) k:Int):Rat) ∧
   hiQ (a0I ((v.drop n).take k) f) ((w.drop n).take k)=a3t (fun i=>hiN v f (n+i)) (fun i=>wAt w (n+i)) k / ((a2S (fun i=>wAt w (n+i)) k:Int):Rat):=by
 have hwl:=h.wl;have l1:((v.drop n).take k).length=k:=by rw [List.length_take,List.length_drop];omega
 have l2:((w.drop n).take k).length=k:=by rw [List.length_take,List.length_drop];omega
 have hk0:0<k:=by
  rcases Nat.eq_zero_or_pos k with g|g
  ·rw [g] at h0;exact absurd rfl h0
  ·exact g
 have hm:∀ s∈(v.drop n).take k,s∈v:=fun s hs=>List.mem_of_mem_drop (List.mem_of_mem_take hs)
 have hn0:n0S ((v.drop n).take k)=n0S v:=by
  obtain ⟨s,hs⟩:=a0H (l:=(v.drop n).take k) (i:=0) (by omega);unfold n0S;rw [List.getD_eq_getElem?_getD,hs];exact h.sl s (hm s (List.mem_of_getElem? hs))
 have hsz:a2S (wAt ((w.drop n).take k)) k=a2S (fun i=>wAt w (n+i)) k:=by
  have:∀ j,j≤k→a2S (wAt ((w.drop n).take k)) j=a2S (fun i=>wAt w (n+i)) j:=fun j=>by
   induction j with
   | zero=>intro _;rfl
   | succ j ih =>
    intro hj;unfold a2S;rw [ih (by omega),b2i,if_pos (by omega)]
  exact this k (Nat.le_refl _)
 have hlo:∀ f,loQ (a0I ((v.drop n).take k) f) ((w.drop n).take k)=a3t (fun i=>loN v f (n+i)) (fun i=>wAt w (n+i)) k / ((a2S (fun i=>wAt w (n+i)) k:Int):Rat)∧hiQ (a0I ((v.drop n).take k) f) ((w.drop n).take k)=a3t (fun i=>hiN v f (n+i)) (fun i=>wAt w (n+i)) k / ((a2S (fun i=>wAt w (n+i)) k:Int):Rat):=fun f=>by
  constructor
  ·unfold loQ a8x
   rw [a2A,l2,hsz,List.length_map,a5g,l1];rw [a5M (x:=fun i=>a0q (lv ((a0I ((v.drop n).take k) f).map SpT.lo) i)) (y:=fun i=>loN v f (n+i)) (u:=fun i=>wAt w (n+i)) k fun i hi=>⟨(c2k hi).1,by rw [b2i,if_pos hi]⟩]
  ·unfold hiQ a8x
   rw [a2A,l2,hsz,List.length_map,a5g,l1];rw [a5M (x:=fun i=>a0q (lv ((a0I ((v.drop n).take k) f).map SpT.hi) i)) (y:=fun i=>hiN v f (n+i)) (u:=fun i=>wAt w (n+i)) k fun i hi=>⟨(c2k hi).2,by rw [b2i,if_pos hi]⟩]
 have hw1:∀ i,i<k→0≤wAt w (n+i)∧wAt w (n+i)≤1000:=fun i hi =>
  ⟨h.wn (by omega),hs.2.2 _ (List.mem_of_getElem? (a3M (by omega)))⟩
 have hsb:∀ j,j≤k→a2S (fun i=>wAt w (n+i)) j≤1000*j:=fun j=>by
  induction j with
  | zero=>intro _;exact Int.le_refl _
  | succ j ih =>
   intro hj
   have:=ih (by omega)
   have:=(hw1 j (by omega)).2
   unfold a2S;omega
 have hnn:=a7P (u:=fun i=>wAt w (n+i)) k fun i hi=>(hw1 i hi).1
 have hk6:k≤6:=by have:=hs.1;omega
 have hb6:=hsb k (Nat.le_refl _);refine ⟨⟨by omega,by omega,by rw [hn0];exact h.n0,by rw [hn0];exact h.n8,fun s hs=>by rw [hn0];exact h.sl s (hm s hs),fun s hs=>h.sc s (hm s hs),by omega,?_,?_,fun f hf=>?_⟩,hn0,hlo⟩
 ·exact List.all_eq_true.2 fun x hx=>List.all_eq_true.1 h.wa x (List.mem_of_mem_drop (List.mem_of_mem_take hx))
 ·rw [a2A,l2,hsz];exact h0
 ·rw [hn0] at hf
  have hnb:∀ i,i<k→nb (loN v f (n+i)) E40 E40∧nb (hiN v f (n+i)) E40 E40:=fun i hi=>by
   obtain ⟨s,x,e1,e2,e3,e4,e5⟩:=h.at (i:=n+i) (by omega) hf;obtain ⟨a1,a2⟩:=c4c e1 e2;obtain ⟨b1,b2,-⟩:=a2g e5;obtain ⟨d1,d2⟩:=hs.2.1 s e3 x e4;rw [a1,a2];exact ⟨b8u b1 d1,b8u b2 d2⟩
  unfold a2c;rw [(hlo f).1,(hlo f).2,b3P hk6 (fun i hi=>(hnb i hi).1) (fun i hi=>by have:=hw1 i hi;omega) (by omega) h0,b3P hk6 (fun i hi=>(hnb i hi).2) (fun i hi=>by have:=hw1 i hi;omega) (by omega) h0];rfl
theorem a5d.few (h:a5d v w):c3h (spL v w):=by
 refine ⟨by rw [b0t];have:=h.n8;omega,fun x hx=>?_⟩;unfold spL at hx;obtain ⟨f,hf,rfl⟩:=List.mem_map.1 hx;have hb:=h.bg f (List.mem_range.1 hf);unfold a2c at hb;simp only [Bool.or_eq_false_iff] at hb;have hlen:∀ r,a7a r=false→(txt r).length≤100000:=fun r hr=>by
  have:=b4s r
  unfold b9D at this
  rwa [if_neg (by rw [hr];decide)] at this
 exact ⟨hlen _ hb.1,hlen _ hb.2⟩
theorem a5d.both (h:a5d v w){L1 L2:List SpT}{a b:Int}(n:Nat)(hn:n≤v.length)(ha:a=a2S (wAt w) n)(hb:b=a2S (fun i=>wAt w (n+i)) (v.length - n))(ha0:a≠0)(hb0:b≠0)
  (hm:a2S (wAt w) v.length≤999999999)
  (l1:L1.length=n0S v) (l2:L2.length=n0S v) (c1:∀ x∈L1,a1D x=0) (c2:∀ x∈L2,a1D x=0)
  (q1:∀ f,f<n0S v→∃ x,L1[f]? = some x∧a0q x.lo=a3t (loN v f) (wAt w) n / (a:Rat)∧a0q x.hi=a3t (hiN v f) (wAt w) n / (a:Rat))
  (q2:∀ f,f<n0S v→∃ x,L2[f]? = some x∧a0q x.lo=a3t (fun i=>loN v f (n+i)) (fun i=>wAt w (n+i)) (v.length - n) / (b:Rat)∧a0q x.hi=a3t (fun i=>hiN v f (n+i)) (fun i=>wAt w (n+i)) (v.length - n) / (b:Rat)) :
  a5d [L1,L2] [a,b]∧n0S [L1,L2]=n0S v∧spL [L1,L2] [a,b]=spL v w:=by
 have hn0:n0S [L1,L2]=n0S v:=l1;have hab:a2S (wAt w) v.length=a+b:=by
  have:=b4r (wAt w) n (v.length - n)
  rw [show n+(v.length - n)=v.length by omega] at this;omega
 have a0:0≤a:=by rw [ha];exact a7P n fun i hi=>h.wn (by omega)
 have b0:0≤b:=by rw [hb];exact a7P _ fun i hi=>h.wn (by omega)
 have hs2:a1Y [a,b]=a+b:=by
  unfold a1Y;show 0+a+b=a+b;omega
 have key:∀ f,f<n0S v→loQ (a0I [L1,L2] f) [a,b]=loQ (a0I v f) w∧hiQ (a0I [L1,L2] f) [a,b]=hiQ (a0I v f) w:=fun f hf=>by
  obtain ⟨x,hx,x1,x2⟩:=q1 f hf;obtain ⟨y,hy,y1,y2⟩:=q2 f hf;have ec:a0I [L1,L2] f=[x,y]:=by
   unfold a0I;show [L1.getD f default,L2.getD f default]=_;rw [List.getD_eq_getElem?_getD,List.getD_eq_getElem?_getD,hx,hy];rfl
  have e0:((a:Int):Rat)≠0:=by exact_mod_cast ha0
  have e1:((b:Int):Rat)≠0:=by exact_mod_cast hb0
  have e2:((a:Int):Rat)+((b:Int):Rat)≠0:=by
   rw [← Rat.intCast_add]
   exact_mod_cast (show a+b≠0 by omega)
  have hA:∀ X:Nat→Rat,a3t X (wAt w) v.length=a3t X (wAt w) n+a3t (fun i=>X (n+i)) (fun i=>wAt w (n+i)) (v.length - n):=fun X=>by
   have:=b4g X (wAt w) n (v.length - n)
   rwa [show n+(v.length - n)=v.length by omega] at this
  rw [h.lo,h.hi,hab,hA,hA,ec];unfold loQ hiQ a8x;rw [hs2,Rat.intCast_add];constructor
  ·show (0+a0q x.lo*((a:Int):Rat)+a0q y.lo*((b:Int):Rat)) / _=_
   rw [x1,y1];grind
  ·show (0+a0q x.hi*((a:Int):Rat)+a0q y.hi*((b:Int):Rat)) / _=_
   rw [x2,y2];grind
 refine ⟨⟨by simp,by simp,by rw [hn0];exact h.n0,by rw [hn0];exact h.n8,fun s hs=>?_,fun s hs=>?_,rfl,?_,?_,fun f hf=>?_⟩,hn0,?_⟩
 ·rw [hn0]
  rcases List.mem_cons.1 hs with rfl|hs
  ·exact l1
  ·rcases List.mem_cons.1 hs with rfl|hs
   ·exact l2
   ·cases hs
 ·rcases List.mem_cons.1 hs with rfl|hs
  ·exact c1
  ·rcases List.mem_cons.1 hs with rfl|hs
   ·exact c2
   ·cases hs
 ·refine List.all_eq_true.2 fun x hx=>?_
  unfold wgt;simp only [Bool.and_eq_true,decide_eq_true_eq];rcases List.mem_cons.1 hx with rfl|hx
  ·omega
  ·rcases List.mem_cons.1 hx with rfl|hx
   ·omega
   ·cases hx
 ·rw [hs2];omega
 ·rw [hn0] at hf
  obtain ⟨k1,k2⟩:=key f hf;rw [k1,k2];exact h.bg f hf
 ·unfold spL
  rw [hn0];refine List.map_congr_left fun f hf=>?_
  obtain ⟨k1,k2⟩:=key f (List.mem_range.1 hf);rw [k1,k2]
abbrev a1h:Dr:=[(40,[0,1,2,3,4,5,6],[7,8,9]),(43,[0,1,2,3,4,5,6,7,8,9,10],[11]),(44,[0,1,2,3,4,5,6,7,8,9,10],[11]),(51,[0,1,2,3,4,5,6,7],[8])]
open Go.Proofs Go.RowKit
set_option maxRecDepth 20000
set_option maxHeartbeats 16000000
def d1v (s:List SpT):Bool:=decide (s.length≤4)&&s.all b2z
theorem a9n (l:List UInt8):a1P (sb l) ⟨#[]⟩=decide (l=[]):=b9z l []
def a6a (X:Nat→Rat)(u:Nat→Int)(n:Nat)(l:List UInt8):Prop:=(l=[]∧∀ i,i<n→¬ 0<u i)∨(l≠[]∧chk l=0∧∀ i,i<n→0<u i→a0q l≤X i)
def a3r (X:Nat→Rat)(u:Nat→Int)(n:Nat)(l:List UInt8):Prop:=(l=[]∧∀ i,i<n→¬ 0<u i)∨(l≠[]∧chk l=0∧∀ i,i<n→0<u i→X i≤a0q l)
theorem c0U {l:List UInt8}(h:chk l=0):l≠[]:=fun e=>by rw [e] at h;exact absurd h (by decide)
theorem a6a.skip {X:Nat→Rat}{u:Nat→Int}{n:Nat}{l:List UInt8}(h:a6a X u n l)(g:¬ 0<u n):a6a X u (n+1) l:=by
 rcases h with ⟨h1,h2⟩|⟨h1,h2,h3⟩
 ·refine .inl ⟨h1,fun i hi=>?_⟩
  rcases Nat.lt_or_ge i n with h|h
  ·exact h2 i h
  ·rw [show i=n by omega];exact g
 ·refine .inr ⟨h1,h2,fun i hi hp=>?_⟩
  rcases Nat.lt_or_ge i n with h|h
  ·exact h3 i h hp
  ·rw [show i=n by omega] at hp;exact absurd hp g
theorem a3r.skip {X:Nat→Rat}{u:Nat→Int}{n:Nat}{l:List UInt8}(h:a3r X u n l)(g:¬ 0<u n):a3r X u (n+1) l:=by
 rcases h with ⟨h1,h2⟩|⟨h1,h2,h3⟩
 ·refine .inl ⟨h1,fun i hi=>?_⟩
  rcases Nat.lt_or_ge i n with h|h
  ·exact h2 i h
  ·rw [show i=n by omega];exact g
 ·refine .inr ⟨h1,h2,fun i hi hp=>?_⟩
  rcases Nat.lt_or_ge i n with h|h
  ·exact h3 i h hp
  ·rw [show i=n by omega] at hp;exact absurd hp g
theorem a6a.new {X:Nat→Rat}{u:Nat→Int}{n:Nat}{l m:List UInt8}(h:a6a X u n l)(hm:chk m=0)(hX:X n=a0q m)(g:l≠[]→a0q m≤a0q l):a6a X u (n+1) m:=by
 refine .inr ⟨c0U hm,hm,fun i hi hp=>?_⟩;rcases Nat.lt_or_ge i n with k|k
 ·rcases h with ⟨h1,h2⟩|⟨h1,h2,h3⟩
  ·exact absurd hp (h2 i k)
  ·have:=h3 i k hp
   have:=g h1
   grind
 ·rw [show i=n by omega,hX];exact Rat.le_refl
theorem a3r.new {X:Nat→Rat}{u:Nat→Int}{n:Nat}{l m:List UInt8}(h:a3r X u n l)(hm:chk m=0)(hX:X n=a0q m)(g:l≠[]→a0q l≤a0q m):a3r X u (n+1) m:=by
 refine .inr ⟨c0U hm,hm,fun i hi hp=>?_⟩;rcases Nat.lt_or_ge i n with k|k
 ·rcases h with ⟨h1,h2⟩|⟨h1,h2,h3⟩
  ·exact absurd hp (h2 i k)
  ·have:=h3 i k hp
   have:=g h1
   grind
 ·rw [show i=n by omega,hX];exact Rat.le_refl
theorem a6a.old {X:Nat→Rat}{u:Nat→Int}{n:Nat}{l m:List UInt8}(h:a6a X u n l)(hl:l≠[])(hX:X n=a0q m)(g:a0q l≤a0q m):a6a X u (n+1) l:=by
 rcases h with ⟨h1,h2⟩|⟨h1,h2,h3⟩
 ·exact absurd h1 hl
 ·refine .inr ⟨h1,h2,fun i hi hp=>?_⟩
  rcases Nat.lt_or_ge i n with k|k
  ·exact h3 i k hp
  ·rw [show i=n by omega,hX];exact g
theorem a3r.old {X:Nat→Rat}{u:Nat→Int}{n:Nat}{l m:List UInt8}(h:a3r X u n l)(hl:l≠[])(hX:X n=a0q m)(g:a0q m≤a0q l):a3r X u (n+1) l:=by
 rcases h with ⟨h1,h2⟩|⟨h1,h2,h3⟩
 ·exact absurd h1 hl
 ·refine .inr ⟨h1,h2,fun i hi hp=>?_⟩
  rcases Nat.lt_or_ge i n with k|k
  ·exact h3 i k hp
  ·rw [show i=n by omega,hX];exact g
theorem c1m (b:Bool)(l:List Int)(hl:l.length≤1000)(hw:l.all wgt=true):a0b C0 38 [wsB b l] (i64 (a1Y l)):=by
 refine a0c.walk w1 d1B rfl fun F=>?_
 have el:(((l.map fun w=>i64 w).length:Nat):Int)=(l.length:Int):=by rw [List.length_map]
 refine goI dr0 el trivial trivial trivial trivial trivial trivial ?_;refine OkS.loop (α:=Nat × Nat) (fun p=>⟨[(3,i64 (a1Y (l.take p.1))),(6,wsB b l),(7,i64 (l.length:Int)),(8,i64 (p.1:Int))],[],p.2⟩) (fun p=>l.length - p.1)
  (fun p=>p.1≤l.length) (0,_) (Nat.zero_le _) wkI ?_
 rintro ⟨i,m⟩ F hi;dsimp only at hi ⊢;rcases Nat.lt_or_ge i l.length with h2|h2
 ·have e1:=ltT h2
  have wi:=wiI (i:=i) (by omega);obtain ⟨x,hx⟩:=a0H h2;have hm:(l.map fun w=>i64 w)[i]? = some (i64 x):=by rw [List.getElem?_map,hx];rfl
  have hs:=a4k hx;have hta:(l.take (i+1)).all wgt=true:=List.all_eq_true.2 fun y hy=>List.all_eq_true.1 hw y (List.mem_of_mem_take hy)
  obtain ⟨g1,g2⟩:=a5T hta (i+1) (by rw [List.length_take];omega);rw [List.take_take,Nat.min_self] at g1 g2;have hws:IntKind.i64.wrap (a1Y (l.take i)+x)=a1Y (l.take (i+1)):=by
   rw [hs] at g1 g2 ⊢;exact wI (by omega) (by omega)
  refine goI dr0 (ff4 e1 hws wi kN) hm trivial trivial trivial trivial trivial ?_;exact ⟨(i+1,_),h2,by dsimp only;omega,wkI⟩
 ·have e1:=ltF h2
  have:i=l.length:=by omega
  subst this;rw [List.take_length];refine goI dr0 e1 trivial trivial trivial trivial trivial trivial ?_;exact a0a rfl IsPure.out
theorem c6z (ha:a0b C0 9 [] (boo true))(v:List (List SpT))(hv:v.length≤9223372036854775807)(hvl:∀ s∈v,s.length≤9223372036854775807)(w:List Int)(hw:w.length≤9223372036854775807)(c:Int)(hc0:0≤c)(hc:c<256):a0b C0 8 [ssD v,wsD w,.prim (.int .u8 c)] (boo true):=by
 refine a0c.walk w1 d3D rfl fun F=>?_
 have el:(((v.map fun s=>spD false s).length:Nat):Int)=(v.length:Int):=by rw [List.length_map]
 have elw:(((w.map fun x=>i64 x).length:Nat):Int)=(w.length:Int):=by rw [List.length_map]
 by_cases g1:6<v.length
 ·have e1:decide ((v.length:Int)>6)=true:=decide_eq_true (by omega)
  refine goI a1h (ff2 el e1) ha trivial trivial trivial trivial trivial ?_;exact a0a rfl IsPure.out
 have e1:decide ((v.length:Int)>6)=false:=decide_eq_false (by omega)
 by_cases g2:6<w.length
 ·have e2:decide ((w.length:Int)>6)=true:=decide_eq_true (by omega)
  refine goI a1h (ff4 el elw e1 e2) ha trivial trivial trivial trivial trivial ?_;exact a0a rfl IsPure.out
 have e2:decide ((w.length:Int)>6)=false:=decide_eq_false (by omega);refine goI a1h (ff4 el elw e1 e2) trivial trivial trivial trivial trivial trivial ?_;refine OkS.loop (α:=Nat × Nat) (fun p=>⟨[(0,ssD v),(1,wsD w),(2,.prim (.int .u8 c)),(40,ssD v),(41,i64 (v.length:Int)),(42,i64 (p.1:Int))],[],p.2⟩) (fun p=>v.length - p.1)
  (fun p=>p.1≤v.length∧(v.take p.1).all d1v=true) (0,_) ⟨Nat.zero_le _,rfl⟩ wkI ?_
 rintro ⟨i,m⟩ F ⟨hi,hk⟩;dsimp only at hi hk ⊢;rcases Nat.lt_or_ge i v.length with h5|h5
 ·have e3:=ltT h5
  have wi:=wiI (i:=i) (by omega);obtain ⟨s,hs⟩:=a0H h5;have hm:(v.map fun s=>spD false s)[i]? = some (spD false s):=by rw [List.getElem?_map,hs];rfl
  have els:(((s.map SpT.D).length:Nat):Int)=(s.length:Int):=by rw [List.length_map]
  have cf:=c3R false s (hvl s (List.mem_of_getElem? hs));have hok:d1v s=(decide (s.length≤4)&&s.all b2z):=rfl;obtain ⟨r,hr⟩:∃ p,s.all b2z=p:=⟨_,rfl⟩
  rw [hr] at cf hok
  by_cases g9:s.length≤4
  ·have e4:decide ((s.length:Int)>4)=false:=decide_eq_false (by omega)
   cases r
   ·refine goI a1h (ff4 e3 els e4 kN) hm cf ha trivial trivial trivial ?_
    exact a0a rfl IsPure.out
   ·rw [decide_eq_true g9] at hok
    refine goI a1h (ff5 e3 els e4 wi kN) hm cf trivial trivial trivial trivial ?_;exact ⟨(i+1,_),⟨h5,a4x hs hk hok⟩,by dsimp only;omega,wkI⟩
  ·have e4:decide ((s.length:Int)>4)=true:=decide_eq_true (by omega)
   refine goI a1h (ff4 e3 els e4 kN) hm ha trivial trivial trivial trivial ?_;exact a0a rfl IsPure.out
 have e3:=ltF h5
 have:i=v.length:=by omega
 subst this;rw [List.take_length] at hk;refine goI a1h (ff2 e3 elw) trivial trivial trivial trivial trivial trivial ?_;refine OkS.loop (α:=Nat × Nat) (fun p=>⟨[(0,ssD v),(1,wsD w),(2,.prim (.int .u8 c)),(56,wsD w),(57,i64 (w.length:Int)),(58,i64 (p.1:Int))],[],p.2⟩) (fun p=>w.length - p.1)
  (fun p=>p.1≤w.length∧(w.take p.1).all (fun x=>decide (x≤1000))=true) (0,_) ⟨Nat.zero_le _,rfl⟩ wkI ?_
 rintro ⟨j,m2⟩ F ⟨hj,hkw⟩;dsimp only at hj hkw ⊢;rcases Nat.lt_or_ge j w.length with h6|h6
 ·have e4:=ltT h6
  have wj:=wiI (i:=j) (by omega);obtain ⟨x,hx⟩:=a0H h6;have hm:(w.map fun x=>i64 x)[j]? = some (i64 x):=by rw [List.getElem?_map,hx];rfl
  by_cases g9:x≤1000
  ·have e5:decide (x>1000)=false:=decide_eq_false (by omega)
   refine goI a1h (ff4 e4 e5 wj kN) hm trivial trivial trivial trivial trivial ?_;exact ⟨(j+1,_),⟨h6,a4x hx hkw (decide_eq_true g9)⟩,by dsimp only;omega,wkI⟩
  ·have e5:decide (x>1000)=true:=decide_eq_true (by omega)
   refine goI a1h (ff3 e4 e5 kN) hm ha trivial trivial trivial trivial ?_;exact a0a rfl IsPure.out
 have e4:=ltF h6
 have:j=w.length:=by omega
 subst this;rw [List.take_length] at hkw;have hfs:∀ s∈v,c3h s∧s.length≤4∧∀ x∈s,x.lo.length≤40∧x.hi.length≤40:=fun s hs=>by
  have:=List.all_eq_true.1 hk s hs
  simp only [d1v,Bool.and_eq_true,decide_eq_true_eq,List.all_eq_true] at this;obtain ⟨q1,q2⟩:=this;have q3:∀ x∈s,x.lo.length≤40∧x.hi.length≤40:=fun x hx=>by
   have:=c3p (q2 x hx)
   exact ⟨this x.lo (by simp),this x.hi (by simp)⟩
  exact ⟨⟨by omega,fun x hx=>by obtain ⟨a,b⟩:=q3 x hx;exact ⟨by omega,by omega⟩⟩,q1,q3⟩
 have hS:d2O v w:=⟨by omega,fun s hs=>(hfs s hs).2.2,fun x hx=>of_decide_eq_true (List.all_eq_true.1 hkw x hx)⟩
 have d1:=b5c v (.inl (by omega)) (by omega) (fun s hs=>(hfs s hs).1) w (by omega);have d2:=a4w false false v (by omega) (fun s hs=>(hfs s hs).1) w (by omega);obtain ⟨E,hE⟩:∃ E,b2R v w=E:=⟨_,rfl⟩
 rw [hE] at d1 d2;rcases Nat.decEq E 0 with g3|g3
 ·have e5:=b4x g3
  have pD:IsPure (b5s v w):=by unfold b5s;split<;>exact inferInstance
  generalize b5s v w=DD at *;refine goI a1h (ff2 e4 e5) d1 ha trivial trivial trivial trivial ?_;exact a0a rfl IsPure.out
 have e5:=b5l g3;have hC:=c6e (by omega) (hE.trans g3);rw [hC.d] at d1 d2;have hn0:=b0t v w;have elL:(((((spL v w).map SpT.D).length:Nat)):Int)=(n0S v:Int):=by rw [List.length_map,hn0]
 obtain ⟨s0,hs0⟩:=a0H hC.l0;have hm0:(v.map fun s=>spD false s)[0]? = some (spD false s0):=by rw [List.getElem?_map,hs0];rfl
 have els0:(((s0.map SpT.D).length:Nat):Int)=(n0S v:Int):=by rw [List.length_map,hC.sl s0 (List.mem_of_getElem? hs0)]
 have q0:((n0S v:Int) != (n0S v:Int))=false:=c9Q rfl;refine goI a1h (ff5 e4 e5 elL els0 q0) d1 d2 hm0 trivial trivial trivial ?_;have hsum:=hC.sp;have hwn:∀ i,i<v.length→0≤wAt w i:=fun i hi=>hC.wn hi
 have hex:∃ i,i<v.length∧0<wAt w i:=by
  apply Classical.byContradiction;intro hno
  have:∀ n,n≤v.length→a2S (wAt w) n=0:=fun n=>by
   induction n with
   | zero=>intro _;rfl
   | succ n ih =>
    intro hn;have h1:=ih (by omega);have h2:=hwn n (by omega);have h3:¬ 0<wAt w n:=fun h=>hno ⟨n,by omega,h⟩
    unfold a2S;omega
  have:=this v.length (Nat.le_refl _)
  omega
 have z0:(((0:Nat):Int) != 0)=false:=rfl;refine OkS.loop (α:=Nat × Nat) (fun p=>⟨[(0,ssD v),(1,wsD w),(2,.prim (.int .u8 c)),(13,spD false (spL v w)),(92,spD false (spL v w)),(93,i64 (n0S v:Int)),(94,i64 (p.1:Int))],[],p.2⟩) (fun p=>n0S v - p.1)
  (fun p=>p.1≤n0S v) (0,_) (Nat.zero_le _) wkI ?_
 rintro ⟨f,m3⟩ F hf;dsimp only at hf ⊢;rcases Nat.lt_or_ge f (n0S v) with h7|h7
 ·have e6:=ltT h7
  have wf:=wiI (i:=f) (by have:=hC.n8;omega);have hb:=hC.bg f h7;unfold a2c at hb;simp only [Bool.or_eq_false_iff] at hb;have hLf:=b3x (w:=w) h7;have hmL:((spL v w).map SpT.D)[f]? = some (.agg [str (sb (txt (loQ (a0I v f) w))),str (sb (txt (hiQ (a0I v f) w)))]):=by rw [List.getElem?_map,hLf];rfl
  have hlen:∀ r,a7a r=false→(txt r).length≤100000:=fun r hr=>by
   have:=b4s r
   unfold b9D at this
   rwa [if_neg (by rw [hr];decide)] at this
  have cs:=c9D _ _ (hlen _ hb.1) (hlen _ hb.2);have hcs:=hC.chk _ (List.mem_of_getElem? hLf);rw [← a9i] at hcs;rw [hcs] at cs;have k1:=b0p hb.1;have k2:=b0p hb.2;have r1:=a2r (loQ (a0I v f) w);have r2:=a2r (hiQ (a0I v f) w);have hge:∀ l,a6a (loN v f) (wAt w) v.length l→chk l=0∧¬ a4R (loQ (a0I v f) w) (a0q l)<0:=fun l h=>by
   rcases h with ⟨-,h2⟩|⟨-,h2,h3⟩
   ·obtain ⟨i,hi,hp⟩:=hex
    exact absurd hp (h2 i hi)
   ·refine ⟨h2,b7x.2 ?_⟩
    rw [hC.lo];exact c4n hwn hsum h3
  have hle:∀ l,a3r (hiN v f) (wAt w) v.length l→chk l=0∧¬ a4R (hiQ (a0I v f) w) (a0q l)>0:=fun l h=>by
   rcases h with ⟨-,h2⟩|⟨-,h2,h3⟩
   ·obtain ⟨i,hi,hp⟩:=hex
    exact absurd hp (h2 i hi)
   ·refine ⟨h2,a9W.2 ?_⟩
    rw [hC.hi];exact c3s hwn hsum h3
  generalize loQ (a0I v f) w=LO at *;generalize hiQ (a0I v f) w=HI at *;have c36:∀ l,chk l=0→a0b C0 33 [str (sb (txt LO)),str (sb l)] (i64 (a4R LO (a0q l))):=fun l hl=>by
   have:=b3m k1 hl
   rwa [r1] at this
  have c37:∀ l,chk l=0→a0b C0 33 [str (sb (txt HI)),str (sb l)] (i64 (a4R HI (a0q l))):=fun l hl=>by
   have:=b3m k2 hl
   rwa [r2] at this
  generalize txt LO=TL at *;generalize txt HI=TH at *;clear hcs k1 k2 r1 r2 hlen hb;refine goI a1h (ff4 e6 z0 el kN) hmL cs trivial trivial trivial trivial ?_;refine OkS.loopF (α:=Nat × List UInt8 × List UInt8 × Nat × Nat) (fun p=>⟨[(0,ssD v),(1,wsD w),(2,.prim (.int .u8 c)),(13,spD false (spL v w)),(15,i64 (f:Int)),(16,.optr 2303 p.2.2.2.1 2 0 0),(17,str (sb p.2.1)),(18,str (sb p.2.2.1)),(92,spD false (spL v w)),(93,i64 (n0S v:Int)),(94,i64 (f:Int)),(102,ssD v),(103,i64 (v.length:Int)),(104,i64 (p.1:Int))],
    [⟨2303,p.2.2.2.1,46,2,[.agg [str (sb TL),str (sb TH)]]⟩],p.2.2.2.2⟩) (fun p=>v.length - p.1)
   (fun p F'=>F'=F∧p.1≤v.length∧a6a (loN v f) (wAt w) p.1 p.2.1∧a3r (hiN v f) (wAt w) p.1 p.2.2.1) (0,[],[],_,_) ⟨rfl,Nat.zero_le _,.inl ⟨rfl,fun i hi=>absurd hi (Nat.not_lt_zero i)⟩,.inl ⟨rfl,fun i hi=>absurd hi (Nat.not_lt_zero i)⟩⟩ wkI ?_
  rintro ⟨i,low,high,g,m4⟩ F' ⟨rfl,hi2,hlo,hhi⟩;dsimp only at hi2 hlo hhi ⊢;rcases Nat.lt_or_ge i v.length with h8|h8
  ·have e7:=ltT h8
   have wi:=wiI (i:=i) (by omega);obtain ⟨s,x,hs,hx,hsm,hxm,hcx⟩:=hC.at h8 h7;have hm:(v.map fun s=>spD false s)[i]? = some (spD false s):=by rw [List.getElem?_map,hs];rfl
   have hm2:(s.map SpT.D)[f]? = some (.agg [str (sb x.lo),str (sb x.hi)]):=by rw [List.getElem?_map,hx];rfl
   have hwm:(w.map fun x=>i64 x)[i]? = some (i64 (wAt w i)):=by rw [List.getElem?_map,a3M (by have:=hC.wl;omega)];rfl
   obtain ⟨a1,a2⟩:=c4c hs hx;obtain ⟨b1,b2,-⟩:=a2g hcx
   by_cases g5:0<wAt w i
   rotate_left
   ·have e8:decide (wAt w i>0)=false:=decide_eq_false g5
    refine goI a1h (ff4 e7 e8 wi kN) hm hwm trivial trivial trivial trivial ?_;exact ⟨(i+1,low,high,_,_),⟨by trivial,h8,hlo.skip g5,hhi.skip g5⟩,by dsimp only;omega,wkI⟩
   have e8:decide (wAt w i>0)=true:=decide_eq_true g5;have sl:=a9n low;have sh:=a9n high;obtain ⟨pl,hpl⟩:∃ p,decide (low=[])=p:=⟨_,rfl⟩
   obtain ⟨ph,hph⟩:∃ p,decide (high=[])=p:=⟨_,rfl⟩
   obtain ⟨ql,hql⟩:∃ p,decide (a4R (a0q x.lo) (a0q low)<0)=p:=⟨_,rfl⟩
   obtain ⟨qh,hqh⟩:∃ p,decide (a4R (a0q x.hi) (a0q high)>0)=p:=⟨_,rfl⟩
   rw [hpl] at sl;rw [hph] at sh;have c1:pl=false→a0b C0 33 [str (sb x.lo),str (sb low)] (i64 (a4R (a0q x.lo) (a0q low))):=fun h=>by
    rcases hlo with ⟨q1,-⟩|⟨-,q2,-⟩
    ·rw [h] at hpl;exact absurd q1 (of_decide_eq_false hpl)
    ·exact b3m b1 q2
   have c2:ph=false→a0b C0 33 [str (sb x.hi),str (sb high)] (i64 (a4R (a0q x.hi) (a0q high))):=fun h=>by
    rcases hhi with ⟨q1,-⟩|⟨-,q2,-⟩
    ·rw [h] at hph;exact absurd q1 (of_decide_eq_false hph)
    ·exact b3m b2 q2
   have nl:(pl=true∨(pl=false∧ql=true))→a6a (loN v f) (wAt w) (i+1) x.lo:=fun h=>hlo.new b1 a1 fun h2=>by
    rcases h with h|⟨-,h⟩
    ·rw [h] at hpl;exact absurd (of_decide_eq_true hpl) h2
    ·rw [h] at hql
     exact Rat.le_of_lt ((a7d _ _).1 (of_decide_eq_true hql))
   have ol:pl=false→ql=false→a6a (loN v f) (wAt w) (i+1) low:=fun h h'=>hlo.old (by rw [h] at hpl;exact of_decide_eq_false hpl) a1 (b7x.1 (by rw [h'] at hql;exact of_decide_eq_false hql))
   have nh:(ph=true∨(ph=false∧qh=true))→a3r (hiN v f) (wAt w) (i+1) x.hi:=fun h=>hhi.new b2 a2 fun h2=>by
    rcases h with h|⟨-,h⟩
    ·rw [h] at hph;exact absurd (of_decide_eq_true hph) h2
    ·rw [h] at hqh
     have h3:=c2C (a0q x.hi) (a0q high);rw [hqh] at h3;exact Rat.le_of_lt ((a7d _ _).1 (of_decide_eq_true h3.symm))
   have oh:ph=false→qh=false→a3r (hiN v f) (wAt w) (i+1) high:=fun h h'=>hhi.old (by rw [h] at hph;exact of_decide_eq_false hph) a2 (a9W.1 (by rw [h'] at hqh;exact of_decide_eq_false hqh))
   have h3:pl=true∨(pl=false∧ql=true)∨(pl=false∧ql=false):=by cases pl<;>cases ql<;>simp
   have h4:ph=true∨(ph=false∧qh=true)∨(ph=false∧qh=false):=by cases ph<;>cases qh<;>simp
   rcases h3 with rfl|⟨rfl,rfl⟩|⟨rfl,rfl⟩
   ·rcases h4 with rfl|⟨rfl,rfl⟩|⟨rfl,rfl⟩
    ·refine goI a1h (ff7 e7 e8 wi sl sh hql (ff2 hqh kN)) hm hwm hm2 c1 c2 trivial ?_
     exact ⟨(i+1,x.lo,x.hi,_,_),⟨by trivial,h8,nl (.inl rfl),nh (.inl rfl)⟩,by dsimp only;omega,wkI⟩
    ·refine goI a1h (ff7 e7 e8 wi sl sh hql (ff2 hqh kN)) hm hwm hm2 c1 c2 trivial ?_
     exact ⟨(i+1,x.lo,x.hi,_,_),⟨by trivial,h8,nl (.inl rfl),nh (.inr ⟨rfl,rfl⟩)⟩,by dsimp only;omega,wkI⟩
    ·refine goI a1h (ff7 e7 e8 wi sl sh hql (ff2 hqh kN)) hm hwm hm2 c1 c2 trivial ?_
     exact ⟨(i+1,x.lo,high,_,_),⟨by trivial,h8,nl (.inl rfl),oh rfl rfl⟩,by dsimp only;omega,wkI⟩
   ·rcases h4 with rfl|⟨rfl,rfl⟩|⟨rfl,rfl⟩
    ·refine goI a1h (ff7 e7 e8 wi sl sh hql (ff2 hqh kN)) hm hwm hm2 c1 c2 trivial ?_
     exact ⟨(i+1,x.lo,x.hi,_,_),⟨by trivial,h8,nl (.inr ⟨rfl,rfl⟩),nh (.inl rfl)⟩,by dsimp only;omega,wkI⟩
    ·refine goI a1h (ff7 e7 e8 wi sl sh hql (ff2 hqh kN)) hm hwm hm2 c1 c2 trivial ?_
     exact ⟨(i+1,x.lo,x.hi,_,_),⟨by trivial,h8,nl (.inr ⟨rfl,rfl⟩),nh (.inr ⟨rfl,rfl⟩)⟩,by dsimp only;omega,wkI⟩
    ·refine goI a1h (ff7 e7 e8 wi sl sh hql (ff2 hqh kN)) hm hwm hm2 c1 c2 trivial ?_
     exact ⟨(i+1,x.lo,high,_,_),⟨by trivial,h8,nl (.inr ⟨rfl,rfl⟩),oh rfl rfl⟩,by dsimp only;omega,wkI⟩
   ·rcases h4 with rfl|⟨rfl,rfl⟩|⟨rfl,rfl⟩
    ·refine goI a1h (ff7 e7 e8 wi sl sh hql (ff2 hqh kN)) hm hwm hm2 c1 c2 trivial ?_
     exact ⟨(i+1,low,x.hi,_,_),⟨by trivial,h8,ol rfl rfl,nh (.inl rfl)⟩,by dsimp only;omega,wkI⟩
    ·refine goI a1h (ff7 e7 e8 wi sl sh hql (ff2 hqh kN)) hm hwm hm2 c1 c2 trivial ?_
     exact ⟨(i+1,low,x.hi,_,_),⟨by trivial,h8,ol rfl rfl,nh (.inr ⟨rfl,rfl⟩)⟩,by dsimp only;omega,wkI⟩
    ·refine goI a1h (ff7 e7 e8 wi sl sh hql (ff2 hqh kN)) hm hwm hm2 c1 c2 trivial ?_
     exact ⟨(i+1,low,high,_,_),⟨by trivial,h8,ol rfl rfl,oh rfl rfl⟩,by dsimp only;omega,wkI⟩
  have e7:=ltF h8
  have:i=v.length:=by omega
  subst this;obtain ⟨u1,u2⟩:=hge low hlo;obtain ⟨u3,u4⟩:=hle high hhi;have c1:=c36 low u1;have c2:=c37 high u3;have e8:=decide_eq_false u2;have e9:=decide_eq_false u4;refine goI a1h (ff5 e7 e8 e9 wf kN) c1 c2 trivial trivial trivial trivial ?_;exact ⟨(f+1,_),h7,by dsimp only;omega,wkI⟩
 have e6:=ltF h7
 have:f=n0S v:=by omega
 subst this;have wc:IntKind.i64.wrap c=c:=wI (by omega) (by omega);have wm:=wiI (i:=v.length) (by omega);obtain ⟨n,hn⟩:∃ n:Nat,c.tmod (((v.length+1:Nat)):Int)=(n:Int):=⟨(c.tmod ((v.length+1:Nat):Int)).toNat,by
  have:=Int.tmod_nonneg ((v.length+1:Nat):Int) hc0
  omega⟩
 have hnl:n≤v.length:=by
  have:=Int.tmod_lt_of_pos c (b:=((v.length+1:Nat):Int)) (by omega)
  omega
 have ht:(IntKind.i64.wrap c).tmod (IntKind.i64.wrap ((v.length:Int)+1))=(n:Int):=by rw [wc,wm];exact hn
 have hwl:=hC.wl;have tw:List.take n (w.map fun x=>i64 x)=(w.take n).map fun x=>i64 x:=(List.map_take ..).symm
 have tv:List.take n (v.map fun s=>spD false s)=(v.take n).map fun s=>spD false s:=(List.map_take ..).symm
 have dw:List.take (w.length - n) (List.drop n (w.map fun x=>i64 x))=(w.drop n).map fun x=>i64 x:=by
  rw [List.take_of_length_le (by rw [List.length_drop,List.length_map];exact Nat.le_refl _),List.map_drop]
 have dv:List.take (v.length - n) (List.drop n (v.map fun s=>spD false s))=(v.drop n).map fun s=>spD false s:=by
  rw [List.take_of_length_le (by rw [List.length_drop,List.length_map];exact Nat.le_refl _),List.map_drop]
 have lw:(w.map fun x=>i64 x).length=w.length:=List.length_map _;have lv9:(v.map fun s=>spD false s).length=v.length:=List.length_map _;have ct1:=c1m false (w.take n) (by rw [List.length_take];omega) (List.all_eq_true.2 fun x hx=>List.all_eq_true.1 hC.wa x (List.mem_of_mem_take hx));have ct2:=c1m false (w.drop n) (by rw [List.length_drop];omega) (List.all_eq_true.2 fun x hx=>List.all_eq_true.1 hC.wa x (List.mem_of_mem_drop hx));have hA:=b8c w n (by omega);have hB:a1Y (w.drop n)=a2S (fun i=>wAt w (n+i)) (v.length - n):=by
  rw [a2A,List.length_drop,hwl]
  have:∀ j,j≤v.length - n→a2S (wAt (w.drop n)) j=a2S (fun i=>wAt w (n+i)) j:=fun j=>by
   induction j with
   | zero=>intro _;rfl
   | succ j ih =>
    intro hj;have e:wAt (w.drop n) j=wAt w (n+j):=by
     unfold wAt;rw [List.getD_eq_getElem?_getD,List.getD_eq_getElem?_getD,List.getElem?_drop]
    unfold a2S;rw [ih (by omega),e]
  exact this _ (Nat.le_refl _)
 obtain ⟨A,hAA⟩:∃ A,a1Y (w.take n)=A:=⟨_,rfl⟩
 obtain ⟨B,hBB⟩:∃ A,a1Y (w.drop n)=A:=⟨_,rfl⟩
 rw [hAA] at ct1 hA;rw [hBB] at ct2 hB
 by_cases g4:A=0
 ·have e7:(A==0)=true:=beq_iff_eq.2 g4
  refine goI a1h (ff7 e6 el ht lw lv9 kN (ff5 Nat.sub_zero (@List.drop_zero D) tw dw e7)) ct1 ct2 ha trivial trivial trivial ?_;exact a0a rfl IsPure.out
 have e7:(A==0)=false:=beq_eq_false_iff_ne.2 g4
 by_cases g5:B=0
 ·have e8:(B==0)=true:=beq_iff_eq.2 g5
  refine goI a1h (ff7 e6 el ht lw lv9 kN (ff6 Nat.sub_zero (@List.drop_zero D) tw dw e7 e8)) ct1 ct2 ha trivial trivial trivial ?_;exact a0a rfl IsPure.out
 have e8:(B==0)=false:=beq_eq_false_iff_ne.2 g5;obtain ⟨C1,n1,o1⟩:=hC.sub hS (n:=0) (k:=n) (by omega) (by simp only [Nat.zero_add];exact fun h=>g4 (hA.trans h));obtain ⟨C2,n2,o2⟩:=hC.sub hS (n:=n) (k:=v.length - n) (by omega) (by omega);simp only [List.drop_zero,Nat.zero_add] at C1 n1 o1;have tdv:(v.drop n).take (v.length - n)=v.drop n:=List.take_of_length_le (by rw [List.length_drop];exact Nat.le_refl _);have tdw:(w.drop n).take (v.length - n)=w.drop n:=List.take_of_length_le (by rw [List.length_drop];omega);rw [tdv,tdw] at C2 o2;rw [tdv] at n2;have f1:=C1.few;have f2:=C2.few;obtain ⟨C3,n3,o3⟩:=hC.both (L1:=spL (v.take n) (w.take n)) (L2:=spL (v.drop n) (w.drop n)) (a:=A) (b:=B) n hnl hA hB g4 g5 (by
   have:=a2A w
   rw [hC.wl] at this;have hz2:∀ j,j≤v.length→a2S (wAt w) j≤1000*j:=fun j=>by
    induction j with
    | zero=>intro _;exact Int.le_refl _
    | succ j ih =>
     intro hj
     have:=ih (by omega)
     have:=hS.2.2 _ (List.mem_of_getElem? (a3M (l:=w) (i:=j) (by omega)))
     unfold a2S;omega
   have:=hz2 v.length (Nat.le_refl _)
   omega) ((b0t _ _).trans n1) ((b0t _ _).trans n2) C1.chk C2.chk
   (fun f hf=>⟨_,b3x (by rw [n1];exact hf),by rw [a2r,(o1 f).1,← hA],by rw [a2r,(o1 f).2,← hA]⟩)
   (fun f hf=>⟨_,b3x (by rw [n2];exact hf),by rw [a2r,(o2 f).1,← hB],by rw [a2r,(o2 f).2,← hB]⟩)
 have p1:=a4w false false (v.take n) (by rw [List.length_take];omega) (fun s hs=>(hfs s (List.mem_of_mem_take hs)).1) (w.take n) (by rw [List.length_take];omega);have p2:=a4w false false (v.drop n) (by rw [List.length_drop];omega) (fun s hs=>(hfs s (List.mem_of_mem_drop hs)).1) (w.drop n) (by rw [List.length_drop];omega);rw [C1.d,C1.zero] at p1;rw [C2.d,C2.zero] at p2;generalize spL (v.take n) (w.take n)=L1 at *;generalize spL (v.drop n) (w.drop n)=L2 at *;have p3:a0b C0 16 [.sl true 1 [spD false L1,spD false L2],.sl true 1 [i64 A,i64 B]] (.tup [spD false (spL v w),i64 ((0:Nat):Int)]):=by
  have:=a4w true true [L1,L2] (by simp) (fun s hs=>by
   rcases List.mem_cons.1 hs with rfl|hs
   ·exact f1
   ·rcases List.mem_cons.1 hs with rfl|hs
    ·exact f2
    ·cases hs) [A,B] (by simp)
  rw [C3.d,C3.zero,o3] at this;exact this
 clear C1 C2 C3 o1 o2 o3 f1 f2;refine goI a1h (ff7 e6 el ht lw lv9 kN (ff7 Nat.sub_zero (@List.drop_zero D) tw tv dw dv (ff2 e7 e8))) ct1 ct2 p1 p2 p3 trivial ?_;refine goI a1h (ff7 lw lv9 kN Nat.sub_zero (@List.drop_zero D) tw (ff3 tv dw dv)) p1 p2 p3 trivial trivial trivial ?_;refine goI a1h (ff3 z0 elL q0) trivial trivial trivial trivial trivial trivial ?_;refine OkS.loop (α:=Nat × Nat) (fun p=>⟨[(13,spD false (spL v w)),(28,spD false (spL v w)),(231,i64 (n0S v:Int)),(232,i64 (p.1:Int))],[],p.2⟩) (fun p=>n0S v - p.1)
  (fun p=>p.1≤n0S v) (0,_) (Nat.zero_le _) wkI ?_
 rintro ⟨j,m5⟩ F hj;dsimp only at hj ⊢;rcases Nat.lt_or_ge j (n0S v) with h9|h9
 ·have e9:=ltT h9
  have wj:=wiI (i:=j) (by have:=hC.n8;omega);have hx:((spL v w).map SpT.D)[j]? = some (.agg [str (sb (txt (loQ (a0I v j) w))),str (sb (txt (hiQ (a0I v j) w)))]):=by rw [List.getElem?_map,b3x h9];rfl
  generalize txt (loQ (a0I v j) w)=TL at *;generalize txt (hiQ (a0I v j) w)=TH at *;have hs:(!(a1P (sb TL) (sb TL)&&(a1P (sb TH) (sb TH)&&true)))=false:=by rw [a4h,a4h,decide_eq_true rfl,decide_eq_true rfl];rfl
  refine goI a1h (ff4 e9 wj hs kN) hx trivial trivial trivial trivial trivial ?_;exact ⟨(j+1,_),h9,by dsimp only;omega,wkI⟩
 ·have e9:=ltF h9
  refine goI a1h e9 ha trivial trivial trivial trivial trivial ?_;exact a0a rfl IsPure.out
end Go.Ide
