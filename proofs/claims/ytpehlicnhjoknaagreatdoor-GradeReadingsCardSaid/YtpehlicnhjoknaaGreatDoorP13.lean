/- The layer of own lemmas and contracts, part 13. -/
import Derived.Test.YtpehlicnhjoknaaGreatDoorP12
import Derived.Test.YtpehlicnhjoknaaGreatDoorP10
set_option linter.unusedVariables false
set_option linter.unusedSimpArgs false
namespace Go.Ide
open Go.Proofs Go.RowKit
set_option maxRecDepth 20000
set_option maxHeartbeats 4000000
def two (a b:Nat):Nat:=if a≠0 then a else b
def a5Z (a b:List UInt8)(r:Rat):List UInt8:=if two (chk a) (chk b)≠0 then [] else a6F r
def a5Y (a b:List UInt8)(r:Rat):Nat:=if two (chk a) (chk b)≠0 then two (chk a) (chk b) else a8D r
theorem c2h (v:List (List UInt8))(b:Bool)(hl:v.length≤1000000)(hf:∀ l∈v,l.length≤100000):a0b C0 190 [.clo (.func 55) [] [],txD b v] (i64 (b1U chk v:Nat)):=by
 refine a0c.walk w1 c2m rfl fun F=>?_
 have el:(((v.map fun l=>str (sb l)).length:Nat):Int)=(v.length:Int):=by rw [List.length_map]
 refine goI dr0 el trivial trivial trivial trivial trivial trivial ?_;refine OkS.loop (α:=Nat × Nat) (fun p=>⟨[(0,.clo (.func 55) [] []),(8,txD b v),(9,i64 (v.length:Int)),(10,i64 (p.1:Int))],[],p.2⟩) (fun p=>v.length - p.1)
  (fun p=>p.1≤v.length∧∀ (j:Nat) (l:List UInt8),j<p.1→v[j]? = some l→chk l=0) (0,_) ⟨Nat.zero_le _,fun j r hj=>absurd hj (Nat.not_lt_zero j)⟩ wkI ?_
 rintro ⟨i,m⟩ F ⟨hi,ha⟩;dsimp only at hi ha ⊢;rcases Nat.lt_or_ge i v.length with h2|h2
 ·have e1:=ltT h2
  have wi:=wiI (i:=i) (by omega);obtain ⟨l,hl2⟩:=a5T h2;have hm:(v.map fun l=>str (sb l))[i]? = some (str (sb l)):=by rw [List.getElem?_map,hl2];rfl
  have c:=a4A l (hf l (List.mem_of_getElem? hl2));rcases Nat.decEq (chk l) 0 with h3|h3
  ·have e2:=b4k h3
   rw [b5Z ha hl2 h3];refine goI dr0 (ff3 e1 e2 kN) hm c trivial trivial trivial trivial ?_;exact a0a rfl IsPure.out
  ·have e2:=b4L h3
   refine goI dr0 (ff4 e1 e2 wi kN) hm c trivial trivial trivial trivial ?_;exact ⟨(i+1,_),⟨h2,a7I hl2 ha h3⟩,by dsimp only;omega,wkI⟩
 ·have e1:=ltF h2
  have:i=v.length:=by omega
  subst this;rw [b4g ha];refine goI dr0 e1 trivial trivial trivial trivial trivial trivial ?_;exact a0a rfl IsPure.out
theorem d3s (a b:List UInt8)(ha:a.length≤100000)(hb:b.length≤100000):a0b C0 57 [str (sb a),str (sb b)] (.tup [str (sb (a5Z a b (a0d a - a0d b))),i64 (a5Y a b (a0d a - a0d b):Nat)]):=by
 have c1:=c2h [a,b] true (by simp) (by simp;exact ⟨ha,hb⟩);have hc:b1U chk [a,b]=two (chk a) (chk b):=by
  show (if chk a≠0 then chk a else if chk b≠0 then chk b else 0)=(if chk a≠0 then chk a else chk b);split
  ·rfl
  ·split<;>omega
 rw [hc] at c1;have hab:two (chk a) (chk b)=0→chk a=0∧chk b=0:=by unfold two;split<;>omega
 have cj:a0b C0 132 [str (sb a),str (sb b),.clo (.func 133) [] []] (.tup [str (sb (a5Z a b (a0d a - a0d b))),i64 (a5Y a b (a0d a - a0d b):Nat)]):=by
  refine a0c.walk w1 b8C rfl fun F=>?_
  unfold a5Z a5Y;obtain ⟨K,hK⟩:∃ K,two (chk a) (chk b)=K:=⟨_,rfl⟩
  rw [hK] at c1 hab ⊢;rcases Nat.decEq K 0 with g|g
  ·have e1:=b4k g
   rw [if_pos (g:K≠0),if_pos (g:K≠0)];refine goI dr0 e1 c1 trivial trivial trivial trivial trivial ?_;exact a0a rfl IsPure.out
  have e1:=b4L g;rw [if_neg (fun h:K≠0=>h g),if_neg (fun h:K≠0=>h g)];obtain ⟨g1,g2⟩:=hab g;have d1:=a4Q ha g1;have d2:=a4Q hb g2;have d3:=b8D (a1n g1) (a1n g2) (by decide);have d4:=a9Q (b1Z (a1n g1) (a1n g2)) (by decide);generalize c3r (a0v a) (a0v b)=A at *;generalize a0v a=B1 at *;generalize a0v b=B2 at *;refine goI dr0 e1 c1 d1 d2 d3 d4 trivial ?_;exact a0a rfl IsPure.out
 refine a0c.walk w1 c6C rfl fun F=>?_
 refine goI dr0 kB cj trivial trivial trivial trivial trivial ?_;exact a0a rfl IsPure.out
theorem d2M (a b:List UInt8)(ha:a.length≤100000)(hb:b.length≤100000):a0b C0 58 [str (sb a),str (sb b)] (.tup [str (sb (a5Z a b (a0d a+a0d b))),i64 (a5Y a b (a0d a+a0d b):Nat)]):=by
 have c1:=c2h [a,b] true (by simp) (by simp;exact ⟨ha,hb⟩);have hc:b1U chk [a,b]=two (chk a) (chk b):=by
  show (if chk a≠0 then chk a else if chk b≠0 then chk b else 0)=(if chk a≠0 then chk a else chk b);split
  ·rfl
  ·split<;>omega
 rw [hc] at c1;have hab:two (chk a) (chk b)=0→chk a=0∧chk b=0:=by unfold two;split<;>omega
 have cj:a0b C0 132 [str (sb a),str (sb b),.clo (.func 104) [] []] (.tup [str (sb (a5Z a b (a0d a+a0d b))),i64 (a5Y a b (a0d a+a0d b):Nat)]):=by
  refine a0c.walk w1 b8C rfl fun F=>?_
  unfold a5Z a5Y;obtain ⟨K,hK⟩:∃ K,two (chk a) (chk b)=K:=⟨_,rfl⟩
  rw [hK] at c1 hab ⊢;rcases Nat.decEq K 0 with g|g
  ·have e1:=b4k g
   rw [if_pos (g:K≠0),if_pos (g:K≠0)];refine goI dr0 e1 c1 trivial trivial trivial trivial trivial ?_;exact a0a rfl IsPure.out
  have e1:=b4L g;rw [if_neg (fun h:K≠0=>h g),if_neg (fun h:K≠0=>h g)];obtain ⟨g1,g2⟩:=hab g;have d1:=a4Q ha g1;have d2:=a4Q hb g2;have d3:=c0O (a1n g1) (a1n g2) (by decide);have d4:=a9Q (b8J (a1n g1) (a1n g2)) (by decide);generalize c0g (a0v a) (a0v b)=A at *;generalize a0v a=B1 at *;generalize a0v b=B2 at *;refine goI dr0 e1 c1 d1 d2 d3 d4 trivial ?_;exact a0a rfl IsPure.out
 refine a0c.walk w1 c6M rfl fun F=>?_
 refine goI dr0 kB cj trivial trivial trivial trivial trivial ?_;exact a0a rfl IsPure.out
theorem b9G (r:Rat):(a6F r).length≤100000:=by
 unfold a6F a6f;split
 ·exact Nat.zero_le _
 ·rename_i h
  simp only [Bool.or_eq_true,decide_eq_true_eq,not_or] at h;have h1:(Lib.itoa r.num).length≤601:=by
   unfold Lib.itoa;split
   ·rw [List.length_cons];omega
   ·rw [show r.num.toNat=r.num.natAbs by omega];omega
  unfold txt;split
  ·omega
  ·rw [List.length_append,List.length_cons];omega
theorem b1H (a k st:List UInt8):(a7E a k st).length≤100000:=by
 unfold a7E;split
 ·exact Nat.zero_le _
 ·split
  ·exact Nat.zero_le _
  ·exact b9G _
def a6d (f:a2B)(a:List UInt8):Nat:=two (a0s f) (chk a)
def b7w (f:a2B)(a:List UInt8):Nat:=two (a6d f a) (a7W a f.kind f.step)
def a2x (f:a2B)(a:List UInt8):List UInt8:=a7E a f.kind f.step
def b4f (f:a2B)(a:List UInt8):List UInt8:=a5Z (a2x f a) f.tol (a0d (a2x f a) - a0d f.tol)
def b4o (f:a2B)(a:List UInt8):List UInt8:=a5Z (a2x f a) f.tol (a0d (a2x f a)+a0d f.tol)
def b4y (f:a2B)(a:List UInt8):Nat:=two (b7w f a) (two (a5Y (a2x f a) f.tol (a0d (a2x f a) - a0d f.tol)) (a5Y (a2x f a) f.tol (a0d (a2x f a)+a0d f.tol)))
def b1y (e:Nat)(r lo hi:List UInt8):D:=.tup [str (sb (if e≠0 then [] else r)),.agg [str (sb (if e≠0 then [] else lo)),str (sb (if e≠0 then [] else hi))],i64 (e:Nat)]
theorem a7K (a b:Nat):a2F [(a:Int),(b:Int)]=((two a b:Nat):Int):=by
 show (if (a:Int)≠0 then (a:Int) else if (b:Int)≠0 then (b:Int) else 0)=_;unfold two
 by_cases h:a=0
 ·rw [if_neg (show ¬ (a:Int)≠0 by omega),if_neg (show ¬ a≠0 from fun k=>k h)]
  by_cases h2:b=0
  ·rw [if_neg (show ¬ (b:Int)≠0 by omega),h2];rfl
  ·rw [if_pos (show (b:Int)≠0 by omega)]
 ·rw [if_pos (show (a:Int)≠0 by omega),if_pos h]
theorem b7Y {a b:Nat}(h:a≠0):two a b=a:=if_pos h
theorem c4q {a b:Nat}(h:a=0):two a b=b:=if_neg (fun k=>k h)
theorem b9k (f:a2B)(hf:f.few)(a:List UInt8)(ha:a.length≤100000):a0b C0 20 [f.D,str (sb a)] (b1y (b4y f a) (a2x f a) (b4f f a) (b4o f a)):=by
 refine a0c.walk w1 c8Q rfl fun F=>?_
 have cF:=a7v f hf;have c1:=a4A a ha;have cf:a0b C0 47 [.sl true 1 [i64 (a0s f:Nat),i64 (chk a:Nat)]] (i64 (two (a0s f) (chk a):Nat)):=by
  have:=a9I [(a0s f:Int),(chk a:Int)] (by simp)
  rw [a7K] at this;exact this
 obtain ⟨f1,f2,f3,f4⟩:=hf;have h1:f.step.length≤100000:=by omega
 have h2:f.tol.length≤100000:=by omega
 have c2:=c9z a f.kind f.step ha h1;have c3:=d3s (a2x f a) f.tol (b1H _ _ _) h2;have c4:=d2M (a2x f a) f.tol (b1H _ _ _) h2;have hr:a7E a f.kind f.step=a2x f a:=rfl;rw [hr] at c2;have hA:two (a0s f) (chk a)=a6d f a:=rfl;have hB:b7w f a=two (a6d f a) (a7W a f.kind f.step):=rfl;have hC:b4y f a=two (b7w f a) (two (a5Y (a2x f a) f.tol (a0d (a2x f a) - a0d f.tol)) (a5Y (a2x f a) f.tol (a0d (a2x f a)+a0d f.tol))):=rfl;have hlo:b4f f a=a5Z (a2x f a) f.tol (a0d (a2x f a) - a0d f.tol):=rfl;have hhi:b4o f a=a5Z (a2x f a) f.tol (a0d (a2x f a)+a0d f.tol):=rfl;rw [hA] at cf;rw [hB] at hC;rw [hC,hlo,hhi];unfold b1y;generalize a2x f a=R at *;generalize a5Z R f.tol (a0d R - a0d f.tol)=LO at *;generalize a5Z R f.tol (a0d R+a0d f.tol)=HI at *;generalize a5Y R f.tol (a0d R - a0d f.tol)=E1 at *;generalize a5Y R f.tol (a0d R+a0d f.tol)=E2 at *;generalize a7W a f.kind f.step=E0 at *;generalize a6d f a=A at *;have cg:a0b C0 47 [.sl true 1 [i64 (E1:Nat),i64 (E2:Nat)]] (i64 (two E1 E2:Nat)):=by
  have:=a9I [(E1:Int),(E2:Int)] (by simp)
  rw [a7K] at this;exact this
 clear hB hC hA hlo hhi hr;unfold a2B.D at *;rcases Nat.decEq A 0 with g1|g1
 ·have e1:=b4k g1
  rw [b7Y (a:=A) g1,b7Y g1,if_pos g1,if_pos g1,if_pos g1];refine goI dr0 e1 cF c1 cf trivial trivial trivial ?_;exact a0a rfl IsPure.out
 have e1:=b4L g1;rw [c4q (a:=A) g1];rcases Nat.decEq E0 0 with g2|g2
 ·have e2:=b4k g2
  rw [b7Y g2,if_pos g2,if_pos g2,if_pos g2];refine goI dr0 (ff2 e1 e2) cF c1 cf c2 trivial trivial ?_;exact a0a rfl IsPure.out
 have e2:=b4L g2;rw [c4q g2];generalize two E1 E2=E3 at *;rcases Nat.decEq E3 0 with g3|g3
 ·have e3:=b4k g3
  rw [if_pos g3,if_pos g3,if_pos g3];refine goI dr0 (ff2 e1 e2) cF c1 cf c2 trivial trivial ?_;refine goI dr0 e3 c3 c4 cg trivial trivial trivial ?_;exact a0a rfl IsPure.out
 ·have e3:=b4L g3
  have g4:¬ E3≠0:=fun h=>h g3
  rw [if_neg g4,if_neg g4,if_neg g4];refine goI dr0 (ff2 e1 e2) cF c1 cf c2 trivial trivial ?_;refine goI dr0 e3 c3 c4 cg trivial trivial trivial ?_;exact a0a (by rw [g3];rfl) IsPure.out
def c4Q (d:Rat):Rat:=if a3s d<0 then -d else d
def a8k (a b t:Rat):Bool:=decide (a2H (c4Q (a - b)) t≤0)
theorem c0E {a b t:Rat}{x y z:GF}{i j k:Nat}(hx:FR a x i)(hy:FR b y j)(hz:FR t z k)(hk:i+j+k<100000):a0b C0 62 [x.D,y.D,z.D] (boo (a8k a b t)):=by
 refine a0c.walk w1 c8J rfl fun F=>?_
 have c1:=b8D hx hy (by omega);have hd:=b1Z hx hy;have c2:=a9U hd.is;have c3:=c1S hd (by omega);have c4:=b3P (b2J hd) hz (by omega);have c5:=b3P hd hz (by omega);have hw:a8k a b t=decide (a2H (if a3s (a - b)<0 then -(a - b) else a - b) t≤0):=rfl;rw [hw];generalize c3r x y=D1 at *;generalize b9f D1=D2 at *;generalize a - b=d at *
 by_cases g:a3s d<0
 ·have e1:decide (a3s d<0)=true:=decide_eq_true g
  rw [if_pos g];refine goI dr0 e1 c1 c2 c3 c4 trivial trivial ?_;exact a0a rfl IsPure.out
 ·have e1:decide (a3s d<0)=false:=decide_eq_false g
  rw [if_neg g];refine goI dr0 e1 c1 c2 c5 trivial trivial trivial ?_;exact a0a rfl IsPure.out
def c1R (a b c:Rat):Rat:=if b<a then (if c<a then (if c<b then b else c) else a) else (if c<b then (if c<a then a else c) else b)
theorem a6W (a b:Rat):a2H a b<0↔a<b:=by
 unfold a2H;split
 ·rename_i h;exact ⟨fun _=>h,fun _=>by decide⟩
 ·rename_i h
  split
  ·exact ⟨fun q=>absurd q (by decide),fun q=>absurd q h⟩
  ·exact ⟨fun q=>absurd q (by decide),fun q=>absurd q h⟩
theorem d0B (u:D→Rat)(x y z:D):∃ m,(a6Y (fun p q=>a2H (u p) (u q)) [x,y,z] 2)[1]? = some m∧(m=x∨m=y∨m=z)∧u m=c1R (u x) (u y) (u z):=by
 have e:a6Y (fun p q=>a2H (u p) (u q)) [x,y,z] 2=b1W (fun p q=>a2H (u p) (u q)) 2 (b1W (fun p q=>a2H (u p) (u q)) 1 [x,y,z]):=by simp [a6Y,List.range_succ]
 have s1:b1W (fun p q=>a2H (u p) (u q)) 1 [x,y,z]=if u y<u x then [y,x,z] else [x,y,z]:=by simp [b1W,a6W]
 have s2:∀ a b d,b1W (fun p q=>a2H (u p) (u q)) 2 [a,b,d]=if u d<u b then (if u d<u a then [d,a,b] else [a,d,b]) else [a,b,d]:=by
  intro a b d;simp [b1W,a6W]
 rw [e,s1];unfold c1R
 by_cases h1:u y<u x
 ·rw [if_pos h1,if_pos h1,s2]
  by_cases h2:u z<u x
  ·rw [if_pos h2,if_pos h2]
   by_cases h3:u z<u y
   ·rw [if_pos h3,if_pos h3];exact ⟨y,rfl,.inr (.inl rfl),rfl⟩
   ·rw [if_neg h3,if_neg h3];exact ⟨z,rfl,.inr (.inr rfl),rfl⟩
  ·rw [if_neg h2,if_neg h2];exact ⟨x,rfl,.inl rfl,rfl⟩
 ·rw [if_neg h1,if_neg h1,s2]
  by_cases h2:u z<u y
  ·rw [if_pos h2,if_pos h2]
   by_cases h3:u z<u x
   ·rw [if_pos h3,if_pos h3];exact ⟨x,rfl,.inl rfl,rfl⟩
   ·rw [if_neg h3,if_neg h3];exact ⟨z,rfl,.inr (.inr rfl),rfl⟩
  ·rw [if_neg h2,if_neg h2];exact ⟨y,rfl,.inr (.inl rfl),rfl⟩
def nD:D→Nat
 | .prim (.int _ z)=>z.toNat
 | _=>0
theorem c5I {a b:Nat}(h:wD a=wD b):a=b:=by
 have h1:(a0f a).map a0i=(a0f b).map a0i:=by
  have:D.sl false 1 ((a0f a).map a0i)=D.sl false 1 ((a0f b).map a0i):=h
  injection this
 have h2:=congrArg (List.map nD) h1;rw [List.map_map,List.map_map] at h2;have h3:∀ l:List Nat,l.map (nD ∘ a0i)=l:=fun l=>by
  induction l with
  | nil=>rfl
  | cons x l ih=>rw [List.map_cons,ih];rfl
 rw [h3,h3] at h2;rw [← a0J a,← a0J b,h2]
theorem c1U {x y:GI}(hs:x.s=y.s)(hw:x.w=y.w):x.z=y.z:=by
 obtain ⟨a,p⟩:=x;obtain ⟨b,q⟩:=y;cases p<;>cases q
 ·have h1:=c5I (show wD a.natAbs=wD b.natAbs from hw)
  have h2:(if a<0 then (-1:Int) else 1)=(if b<0 then (-1:Int) else 1):=hs;show a=b;split at h2<;>split at h2<;>omega
 ·exact absurd (show wD a.natAbs=a2u from hw) (fun h=>by cases h)
 ·exact absurd (show a2u=wD b.natAbs from hw) (fun h=>by cases h)
 ·exact hs
theorem b8H {r t:Rat}{x y:GF}(h:isF r x)(k:isF t y)(e:x.D=y.D):r=t:=by
 unfold GF.D at e;obtain ⟨A,hA⟩:∃ A,mkG (x.d:Int)=A:=⟨_,rfl⟩
 obtain ⟨B,hB⟩:∃ A,mkG (y.d:Int)=A:=⟨_,rfl⟩
 rw [hA,hB] at e;injection e with e;simp only [List.cons.injEq,and_true] at e;obtain ⟨e1,e2,e3,e4⟩:=e;have i1:∀ {a b:Int},i64 a=i64 b→a=b:=fun h=>by injection h with h;injection h
 have n1:=c1U (i1 e1) e2;have n2:=c1U (i1 e3) e4;rw [← hA,← hB,a1t,a1t] at n2;exact Rat.ext (by rw [← h.2.1,← k.2.1,n1]) (by rw [← h.2.2,← k.2.2];omega)
theorem fr4 (x:GF):Fr4 x.D:=⟨_,_,_,_,rfl,inferInstance,inferInstance,inferInstance,inferInstance⟩
theorem c7b (b:Bool)(p q r:List UInt8)(hp:chk p=0)(hq:chk q=0)(hr:chk r=0):∃ m,(m=p∨m=q∨m=r)∧a0d m=c1R (a0d p) (a0d q) (a0d r)∧a0b C0 64 [.sl b 4 [(a0v p).D,(a0v q).D,(a0v r).D]] (a0v m).D:=by
 classical
 let u:D→Rat:=fun d=>if d=(a0v p).D then a0d p else if d=(a0v q).D then a0d q else a0d r
 have hu:∀ d∈[(a0v p).D,(a0v q).D,(a0v r).D],∃ m,(m=p∨m=q∨m=r)∧d=(a0v m).D∧u d=a0d m∧chk m=0:=fun d hd=>by
  by_cases h1:d=(a0v p).D
  ·exact ⟨p,.inl rfl,h1,if_pos h1,hp⟩
  ·by_cases h2:d=(a0v q).D
   ·exact ⟨q,.inr (.inl rfl),h2,(if_neg h1).trans (if_pos h2),hq⟩
   ·have h3:d=(a0v r).D:=by
     simp only [List.mem_cons,List.not_mem_nil,or_false] at hd;rcases hd with h|h|h
     ·exact absurd h h1
     ·exact absurd h h2
     ·exact h
    exact ⟨r,.inr (.inr rfl),h3,(if_neg h1).trans (if_neg h2),hr⟩
 have hc:∀ x∈[(a0v p).D,(a0v q).D,(a0v r).D],∀ y∈[(a0v p).D,(a0v q).D,(a0v r).D],a0b C0 141 [x,y] (i64 (a2H (u x) (u y))):=fun x hx y hy=>by
  obtain ⟨m,-,e1,e2,k1⟩:=hu x hx;obtain ⟨n,-,e3,e4,k2⟩:=hu y hy;rw [e2,e4,e1,e3];exact b3P (a1n k1) (a1n k2) (by decide)
 obtain ⟨d,h1,h2,h3⟩:=d0B u (a0v p).D (a0v q).D (a0v r).D;have h4:∀ x∈[(a0v p).D,(a0v q).D,(a0v r).D],Fr4 x:=fun x hx=>by
  obtain ⟨m,-,e1,-⟩:=hu x hx;rw [e1];exact fr4 _
 have hm:=b1C (fun p q=>a2H (u p) (u q)) b [(a0v p).D,(a0v q).D,(a0v r).D] rfl h4 hc d h1;have hd:d∈[(a0v p).D,(a0v q).D,(a0v r).D]:=by
  simp only [List.mem_cons,List.not_mem_nil,or_false];exact h2
 obtain ⟨m,w1,w2,w3,w4⟩:=hu d hd;have up:u (a0v p).D=a0d p:=if_pos rfl;have uq:u (a0v q).D=a0d q:=by
  obtain ⟨n,-,e1,e2,k1⟩:=hu (a0v q).D (by simp);rw [e2];exact (b8H (a1n hq).is (a1n k1).is e1).symm
 have ur:u (a0v r).D=a0d r:=by
  obtain ⟨n,-,e1,e2,k1⟩:=hu (a0v r).D (by simp);rw [e2];exact (b8H (a1n hr).is (a1n k1).is e1).symm
 rw [up,uq,ur,w3] at h3;rw [w2] at hm;exact ⟨m,w1,h3,hm⟩
abbrev a3g:Dr:=[(14,[0,1,2,3,4,5,6,7,8],[9,10])]
open Go.Proofs Go.RowKit
set_option maxRecDepth 20000
set_option maxHeartbeats 4000000
def b9K (f:a2B)(v:List (List UInt8)):Nat:=if a0s f≠0 then a0s f else if v.length=0 then 2 else if 3<v.length then 5 else 0
def b9X (f:a2B)(v:List (List UInt8)):Nat:=two (b9K f v) (b1U chk v)
def b9g (f:a2B)(v:List (List UInt8)):Bool:=a8k (a0d (lv v 0)) (a0d (lv v 1)) (a0d f.tol)
def b9x (f:a2B)(v:List (List UInt8)):Nat:=if b9X f v≠0 then b9X f v else if v.length=1 then 0 else if v.length=2 then (if b9g f v then 0 else 15) else if b9g f v then 26 else 0
def c8x (f:a2B)(v:List (List UInt8)):List UInt8:=if b9x f v≠0 then [] else if v.length=3 then txt (c1R (a0d (lv v 0)) (a0d (lv v 1)) (a0d (lv v 2))) else lv v 0
theorem b2N (a b c:Nat):a2F [(a:Int),(b:Int),(c:Int)]=((two a (two b c):Nat):Int):=by
 show (if (a:Int)≠0 then (a:Int) else a2F [(b:Int),(c:Int)])=_;rw [a7K]
 by_cases h:a=0
 ·rw [if_neg (show ¬ (a:Int)≠0 by omega),c4q h]
 ·rw [if_pos (show (a:Int)≠0 by omega),b7Y h]
theorem c3p (f:a2B)(v:List (List UInt8)):b9K f v=two (a0s f) (two (if v.length=0 then 2 else 0) (if 3<v.length then 5 else 0)):=by
 unfold b9K two;split
 ·rfl
 ·split
  ·rfl
  ·split<;>rfl
theorem b8l {f:a2B}(h:a0s f=0):chk f.tol=0:=by
 unfold a0s at h;split at h
 ·split at h
  ·rename_i g;exact absurd h g
  ·omega
 ·cases h
theorem b2R (v:List (List UInt8)):b1U chk v=a2L v:=by
 induction v with
 | nil=>rfl
 | cons a r ih =>
  show (if chk a≠0 then chk a else b1U chk r)=(if chk a≠0 then chk a else a2L r);rw [ih]
theorem c8e (f:a2B)(hf:f.few)(b:Bool)(v:List (List UInt8))(hv:Few v):a0b C0 22 [f.D,txD b v] (.tup [str (sb (c8x f v)),i64 (b9x f v:Nat)]):=by
 refine a0c.walk w1 c5W rfl fun F=>?_
 have cF:=a7v f hf;have el:(((v.map fun l=>str (sb l)).length:Nat):Int)=(v.length:Int):=by rw [List.length_map]
 have ht:=@b8l f;have hA:=c3p f v;obtain ⟨p,hp⟩:∃ p,((v.length:Int)==0)=p:=⟨_,rfl⟩
 obtain ⟨q,hq⟩:∃ p,decide ((v.length:Int)>3)=p:=⟨_,rfl⟩
 have w2:=a3F p 2;have w5:=a3F q 5;have ip:(if v.length=0 then 2 else 0)=(if p then 2 else 0:Nat):=by
  cases p
  ·rw [if_neg (fun h=>by rw [h] at hp;cases hp)];rfl
  ·rw [if_pos (by have:=eq_of_beq hp;omega)];rfl
 have iq:(if 3<v.length then 5 else 0)=(if q then 5 else 0:Nat):=by
  cases q
  ·rw [if_neg (fun h=>by have:=of_decide_eq_false hq;omega)];rfl
  ·rw [if_pos (by have:=of_decide_eq_true hq;omega)];rfl
 rw [ip,iq] at hA;have cf:a0b C0 47 [.sl true 1 [i64 (a0s f:Nat),i64 (if p then 2 else 0),i64 (if q then 5 else 0)]] (i64 (b9K f v:Nat)):=by
  have e2:((if p then 2 else 0:Int))=(((if p then 2 else 0:Nat):Nat):Int):=by cases p<;>rfl
  have e5:((if q then 5 else 0:Int))=(((if q then 5 else 0:Nat):Nat):Int):=by cases q<;>rfl
  rw [hA,← b2N,e2,e5];exact a9I [(a0s f:Int),((if p then 2 else 0:Nat):Int),((if q then 5 else 0:Nat):Int)] (by simp)
 have hf1:b9K f v=0→a0s f=0∧0<v.length∧v.length≤3:=fun h=>by
  unfold b9K at h
  by_cases a1:a0s f=0
  ·rw [if_neg (fun k=>k a1)] at h
   by_cases a2:v.length=0
   ·rw [if_pos a2] at h;cases h
   ·rw [if_neg a2] at h
    by_cases a3:3<v.length
    ·rw [if_pos a3] at h;cases h
    ·exact ⟨a1,by omega,by omega⟩
  ·rw [if_pos a1] at h;exact absurd h a1
 obtain ⟨A,hAA⟩:∃ A,b9K f v=A:=⟨_,rfl⟩
 have hC:b9X f v=two A (b1U chk v):=by unfold b9X;rw [hAA]
 have hE:b9x f v=if b9X f v≠0 then b9X f v else if v.length=1 then 0 else if v.length=2 then (if b9g f v then 0 else 15) else if b9g f v then 26 else 0:=rfl
 have hT:c8x f v=if b9x f v≠0 then [] else if v.length=3 then txt (c1R (a0d (lv v 0)) (a0d (lv v 1)) (a0d (lv v 2))) else lv v 0:=rfl
 rw [hAA] at cf hf1;unfold a2B.D at *;rcases Nat.decEq A 0 with g1|g1
 ·have e1:=b4k g1
  rw [b7Y g1] at hC;rw [hC,if_pos g1] at hE;rw [hE,if_pos g1] at hT;rw [hT,hE];refine goI a3g (ff4 e1 el hp hq) cF w2 w5 cf trivial trivial ?_;exact a0a rfl IsPure.out
 have e1:=b4L g1;obtain ⟨k1,k2,k3⟩:=hf1 g1;have htol:=ht k1;rw [c4q g1] at hC;refine goI a3g (ff4 e1 el hp hq) cF w2 w5 cf trivial trivial ?_;refine OkS.loop (α:=Nat × Nat) (fun p=>⟨[(1,txD b v),(2,.optr 0 0 4 0 0),(27,txD b v),(28,i64 (v.length:Int)),(29,i64 (p.1:Int))],[⟨0,0,51,4,[.agg [str (sb f.name),str (sb f.tol),str (sb f.kind),str (sb f.step)]]⟩],p.2⟩) (fun p=>v.length - p.1)
  (fun p=>p.1≤v.length∧∀ (j:Nat) (l:List UInt8),j<p.1→v[j]? = some l→chk l=0) (0,_) ⟨Nat.zero_le _,fun j r hj=>absurd hj (Nat.not_lt_zero j)⟩ wkI ?_
 rintro ⟨i,m⟩ F ⟨hi,ha⟩;dsimp only at hi ha ⊢;rcases Nat.lt_or_ge i v.length with h2|h2
 ·have e2:=ltT h2
  have wi:=wiI (i:=i) (by omega);obtain ⟨l,hl2⟩:=a5T h2;have hm:(v.map fun l=>str (sb l))[i]? = some (str (sb l)):=by rw [List.getElem?_map,hl2];rfl
  have c:=a4A l (hv.2 l (List.mem_of_getElem? hl2));rcases Nat.decEq (chk l) 0 with h3|h3
  ·have e3:=b4k h3
   rw [b5Z ha hl2 h3] at hC;rw [hC,if_pos h3] at hE;rw [hE,if_pos h3] at hT;rw [hT,hE];refine goI a3g (ff3 e2 e3 kN) hm c trivial trivial trivial trivial ?_;exact a0a rfl IsPure.out
  ·have e3:=b4L h3
   refine goI a3g (ff4 e2 e3 wi kN) hm c trivial trivial trivial trivial ?_;exact ⟨(i+1,_),⟨h2,a7I hl2 ha h3⟩,by dsimp only;omega,wkI⟩
 have e2:=ltF h2
 have:i=v.length:=by omega
 subst this;have hz:b1U chk v=0:=b4g ha;rw [hz] at hC;rw [hC,if_neg (by decide)] at hE;have hr:a2L v=0:=by rw [← b2R];exact hz
 have cA:=b4C b v hv.1 hv.2 hr;have hk:=a4Z hr;have hlf:f.tol.length≤100000:=by obtain ⟨f1,f2,f3,f4⟩:=hf;omega
 have ct:=a4Q hlf htol;have el2:(((v.map fun l=>(a0v l).D).length:Nat):Int)=(v.length:Int):=by rw [List.length_map]
 have hv0:v[0]? = some (lv v 0):=a3B (by omega);have hm0:(v.map fun l=>str (sb l))[0]? = some (str (sb (lv v 0))):=by rw [List.getElem?_map,hv0];rfl
 have hd0:(v.map fun l=>(a0v l).D)[0]? = some (a0v (lv v 0)).D:=by rw [List.getElem?_map,hv0];rfl
 clear ha hf1 hA w2 w5 ip iq cf cF ht hC;unfold frD at cA
 by_cases g2:v.length=1
 ·have z1:((v.length:Int)==1)=true:=beq_iff_eq.2 (by omega)
  rw [if_pos g2] at hE;rw [hE,if_neg (by decide),if_neg (by omega)] at hT;rw [hT,hE];refine goI a3g (ff3 e2 el2 z1) cA hm0 trivial trivial trivial trivial ?_;exact a0a rfl IsPure.out
 have z1:((v.length:Int)==1)=false:=beq_eq_false_iff_ne.2 (by omega);rw [if_neg g2] at hE;have hv1:v[1]? = some (lv v 1):=a3B (by omega);have hd1:(v.map fun l=>(a0v l).D)[1]? = some (a0v (lv v 1)).D:=by rw [List.getElem?_map,hv1];rfl
 have q0:=hk _ (List.mem_of_getElem? hv0);have q1:=hk _ (List.mem_of_getElem? hv1);have ca:=c0E (a1n q0) (a1n q1) (a1n htol) (by decide);have hR:a8k (a0d (lv v 0)) (a0d (lv v 1)) (a0d f.tol)=b9g f v:=rfl;rw [hR] at ca;obtain ⟨R,hRR⟩:∃ R,b9g f v=R:=⟨_,rfl⟩
 rw [hRR] at ca hE
 by_cases g3:v.length=2
 ·have z2:((v.length:Int)==2)=true:=beq_iff_eq.2 (by omega)
  rw [if_pos g3] at hE;cases R
  ·rw [if_neg (by decide)] at hE
   rw [hE,if_pos (by decide)] at hT;rw [hT,hE];refine goI a3g (ff4 e2 el2 z1 z2) cA hm0 hd0 hd1 ct ca ?_;exact a0a rfl IsPure.out
  ·rw [if_pos rfl] at hE
   rw [hE,if_neg (by decide),if_neg (by omega)] at hT;rw [hT,hE];refine goI a3g (ff4 e2 el2 z1 z2) cA hm0 hd0 hd1 ct ca ?_;exact a0a rfl IsPure.out
 have z2:((v.length:Int)==2)=false:=beq_eq_false_iff_ne.2 (by omega);rw [if_neg g3] at hE;cases R
 ·rw [if_neg (by decide)] at hE
  rw [hE,if_neg (by decide),if_pos (by omega)] at hT;have hv2:v[2]? = some (lv v 2):=a3B (by omega);have q2:=hk _ (List.mem_of_getElem? hv2);obtain ⟨m,hm1,hm2,cm⟩:=c7b false _ _ _ q0 q1 q2;have hvv:v=[lv v 0,lv v 1,lv v 2]:=by
   rcases v with _|⟨a,_|⟨a2,_|⟨a3,_|⟨a4,r⟩⟩⟩⟩<;>first|rfl|(simp at k2 k3 g2 g3;try omega)
  have hvD:(v.map fun l=>(a0v l).D)=[(a0v (lv v 0)).D,(a0v (lv v 1)).D,(a0v (lv v 2)).D]:=by
   conv=>lhs;rw [hvv]
   rfl
  rw [← hvD] at cm;have qm:chk m=0:=by rcases hm1 with h|h|h<;>rw [h]<;>assumption
  have ctx:=c1y (a1n qm) (by decide);rw [hm2] at ctx;rw [hT,hE];refine goI a3g (ff4 e2 el2 z1 z2) cA hd0 hd1 ct ca cm ?_;refine goI a3g kB ctx trivial trivial trivial trivial trivial ?_;exact a0a rfl IsPure.out
 ·rw [if_pos rfl] at hE
  rw [hE,if_pos (by decide)] at hT;rw [hT,hE];refine goI a3g (ff4 e2 el2 z1 z2) cA hd0 hd1 ct ca trivial ?_;exact a0a rfl IsPure.out
abbrev a3f:Dr:=[(7,[0,1,2,3,4,5,6,7,8,9],[10]),(10,[0,1,2],[3,4])]
abbrev c3Q:Dr:=[(1,[0,1,2,3,4,5],[6,7,8])]
open Go.Proofs Go.RowKit
set_option maxRecDepth 20000
set_option maxHeartbeats 4000000
def rdQ (f:a2B)(a:List UInt8):Rat:=a6u (sb f.kind) (a0d a) (a0d f.step)
def b8B (f:a2B)(a:List UInt8):Bool:=a6f (rdQ f a)||(a6f (rdQ f a - a0d f.tol)||a6f (rdQ f a+a0d f.tol))
def rdE (f:a2B)(a:List UInt8):Nat:=if a6d f a≠0 then a6d f a else if b8B f a then 4 else 0
theorem b4l {f:a2B}(h:a0s f=0):chk f.tol=0∧a1D f.kind f.step=0:=by
 unfold a0s at h;split at h
 ·split at h
  ·rename_i g;exact absurd h g
  ·rename_i g
   split at h
   ·cases h
   ·exact ⟨Decidable.not_not.1 g,h⟩
 ·cases h
theorem b9F (f:a2B)(hf:f.few)(a:List UInt8)(ha:a.length≤100000):a0b C0 21 [f.D,str (sb a)] (b1y (rdE f a) (txt (rdQ f a)) (txt (rdQ f a - a0d f.tol)) (txt (rdQ f a+a0d f.tol))):=by
 refine a0c.walk w1 d1K rfl fun F=>?_
 have cF:=b2P f hf;have c1:=b3O a ha;have hz:=@b4l f;have hA:a6d f a=two (a0s f) (chk a):=rfl;have hE:rdE f a=if a6d f a≠0 then a6d f a else if b8B f a then 4 else 0:=rfl
 rw [hA] at hE;have hc1:chk a=0→a0s f=0→rk (rdQ f a) 1801∧rk (a0d f.tol) 600∧chk f.tol=0∧a0b C0 59 [str (sb a),.agg [str (sb f.kind),str (sb f.step)]] (rR (rdQ f a)):=fun h1 h2=>by
  obtain ⟨z1,z2⟩:=hz h2;obtain ⟨z3,z4,z5⟩:=b1N z2;have h0:a0d f.step≠0:=fun h=>by rw [h] at z5;exact absurd z5 (by decide)
  exact ⟨(b1O (a1n h1) (a1n z4) h0 (by decide)).rk,a3I z1,z1,c9C f.kind f.step a z3 h1 z4 z5⟩
 have hB:b8B f a=(a6f (rdQ f a)||(a6f (rdQ f a - a0d f.tol)||a6f (rdQ f a+a0d f.tol))):=rfl;unfold a2B.D b1y at *;generalize a0s f=K at *;generalize hKa:chk a=Ka at *;rcases Nat.decEq K 0 with g|g
 ·have e1:((K:Int)==0)=false:=beq_eq_false_iff_ne.2 (by omega)
  have e2:=b4k g;rw [b7Y g,if_pos g] at hE;rw [hE,if_pos g,if_pos g,if_pos g];refine goI a3f (ff2 e1 e2) cF trivial trivial trivial trivial trivial ?_;exact a0a rfl IsPure.out
 have e1:((K:Int)==0)=true:=beq_iff_eq.2 (by omega);rw [c4q g] at hE;rcases Nat.decEq Ka 0 with g2|g2
 ·have e2:=b4k g2
  rw [if_pos g2] at hE;rw [hE,if_pos g2,if_pos g2,if_pos g2];refine goI a3f (ff2 e1 e2) cF c1 trivial trivial trivial trivial ?_;exact a0a rfl IsPure.out
 have e2:=b4L g2;rw [if_neg (by omega)] at hE;obtain ⟨r1,r2,z1,c2⟩:=hc1 g2 g;have c3:=c9W _ _ _ _ r1 r2 (by decide);have c4:=d1q _ _ _ _ r1 r2 (by decide);have c5:=b5N _ _ r1 (by decide);have c6:=b5N _ _ (b2Y r1 r2) (by decide);have c7:=b5N _ _ (b4d r1 r2) (by decide);rw [a5u z1] at c3 c4;generalize rdQ f a - a0d f.tol=LO at *;generalize rdQ f a+a0d f.tol=HI at *;generalize rdQ f a=Q at *;obtain ⟨b1,h1⟩:∃ b,a6f Q=b:=⟨_,rfl⟩
 obtain ⟨b2,h2⟩:∃ b,a6f LO=b:=⟨_,rfl⟩
 obtain ⟨b3,h3⟩:∃ b,a6f HI=b:=⟨_,rfl⟩
 rw [h1,h2,h3] at hB;rw [hB] at hE;obtain ⟨n1,hn1⟩:∃ n,(if b1=true then (4:Int) else 0)=n:=⟨_,rfl⟩
 have k1:(n1 != 0)=b1:=by rw [← hn1];cases b1<;>rfl
 obtain ⟨n2,hn2⟩:∃ n,(if b2=true then (4:Int) else 0)=n:=⟨_,rfl⟩
 have k2:(n2 != 0)=b2:=by rw [← hn2];cases b2<;>rfl
 obtain ⟨n3,hn3⟩:∃ n,(if b3=true then (4:Int) else 0)=n:=⟨_,rfl⟩
 have k3:(n3 != 0)=b3:=by rw [← hn3];cases b3<;>rfl
 rw [h1,hn1] at c5;rw [h2,hn2] at c6;rw [h3,hn3] at c7;cases b1
 ·cases b2
  ·cases b3
   ·rw [if_neg (by decide)] at hE
    rw [hE,if_neg (by decide),if_neg (by decide),if_neg (by decide)];refine goI a3f (ff2 e1 e2) cF c1 c2 c3 c4 trivial ?_;refine goI a3f (ff3 k1 k2 k3) c5 c6 c7 trivial trivial trivial ?_;exact a0a rfl IsPure.out
   ·rw [if_pos (by decide)] at hE
    rw [hE,if_pos (by decide),if_pos (by decide),if_pos (by decide)];refine goI a3f (ff2 e1 e2) cF c1 c2 c3 c4 trivial ?_;refine goI a3f (ff3 k1 k2 k3) c5 c6 c7 trivial trivial trivial ?_;exact a0a rfl IsPure.out
  ·rw [if_pos (by cases b3<;>decide)] at hE
   rw [hE,if_pos (by decide),if_pos (by decide),if_pos (by decide)];refine goI a3f (ff2 e1 e2) cF c1 c2 c3 c4 trivial ?_;refine goI a3f (ff3 k1 k2 k3) c5 c6 trivial trivial trivial trivial ?_;exact a0a rfl IsPure.out
 ·rw [if_pos (by cases b2<;>cases b3<;>decide)] at hE
  rw [hE,if_pos (by decide),if_pos (by decide),if_pos (by decide)];refine goI a3f (ff2 e1 e2) cF c1 c2 c3 c4 trivial ?_;refine goI a3f (ff3 k1 k2 k3) c5 trivial trivial trivial trivial trivial ?_;exact a0a rfl IsPure.out
theorem c8t (f:a2B)(hf:chk f.tol=0)(a b:List UInt8)(ha:chk a=0)(hb:chk b=0):a0b C0 66 [f.D,str (sb a),str (sb b)] (boo (a8k (a0d a) (a0d b) (a0d f.tol))):=by
 refine a0c.walk w1 d0r rfl fun F=>?_
 have r1:=b2Y (a3I ha) (a3I hb);have c1:=c9W _ _ _ _ (a3I ha) (a3I hb) (by decide);have c2:=c6R _ (a2t r1 (by decide));have ea:(if (a0d a - a0d b).num<0 then -(a0d a - a0d b) else a0d a - a0d b)=c4Q (a0d a - a0d b):=by
  unfold c4Q
  have:=b2p (a0d a - a0d b)
  by_cases h:(a0d a - a0d b).num<0
  ·rw [if_pos h,if_pos (of_decide_eq_true (this.trans (decide_eq_true h)))]
  ·rw [if_neg h,if_neg (of_decide_eq_false (this.trans (decide_eq_false h)))]
 rw [ea] at c2;have r2:rk (c4Q (a0d a - a0d b)) (600+600+1):=by
  unfold c4Q;split
  ·exact b3Q r1
  ·exact r1
 have c3:=d1t _ _ _ _ r2 (a3I hf) (by decide);rw [a5u ha,a5u hb] at c1;rw [a5u hf] at c3;unfold a2B.D a8k;generalize c4Q (a0d a - a0d b)=A at *;generalize a0d a - a0d b=B at *;obtain ⟨p,hp⟩:∃ p,decide (a2H A (a0d f.tol)≤0)=p:=⟨_,rfl⟩
 rw [hp];refine goI c3Q hp c1 c2 c3 trivial trivial trivial ?_;exact a0a rfl IsPure.out
abbrev a1Z:Dr:=[(13,[0,1,2,3,4,5,6],[7,8]),(27,[0,1,2,3,4,5,6,7],[8,9]),(29,[0,1,2,3,4,5,6,7],[8,9])]
open Go.Proofs Go.RowKit
set_option maxRecDepth 20000
set_option maxHeartbeats 4000000
def cnt (p:Nat→Bool):Nat→Nat
 | 0=>0
 | k+1=>cnt p k+(if p k then 1 else 0)
theorem b8E (p:Nat→Bool):∀ k,cnt p k≤k
 | 0=>Nat.le_refl _
 | k+1=>by
  have:=b8E p k
  unfold cnt;split<;>omega
def a6D (r:Nat→Rat)(i j:Nat):Bool:=decide (a2H (r j) (r i)<0)
def a6H (r:Nat→Rat)(i j:Nat):Bool:=decide (a2H (r j) (r i)>0)
def b9t (r:Nat→Rat)(i:Nat):Bool:=decide (cnt (a6D r i) 3≤1)&&decide (cnt (a6H r i) 3≤1)
theorem c0i (r:Nat→Rat):(b9t r 0=true∨b9t r 1=true∨b9t r 2=true)∧∀ i,i<3→b9t r i=true→r i=c1R (r 0) (r 1) (r 2):=by
 have h1:∀ i j,a6D r i j=decide (r j<r i):=fun i j=>decide_eq_decide.2 (a6W _ _)
 have h2:∀ i j,a6H r i j=decide (r i<r j):=fun i j=>(c7y _ _).trans (decide_eq_decide.2 (a6W _ _))
 unfold b9t;simp only [cnt,h1,h2,Nat.zero_add,decide_eq_true_eq,Bool.and_eq_true];constructor
 ·generalize r 0=a
  generalize r 1=b;generalize r 2=c
  by_cases g1:a<b<;>by_cases g2:b<a<;>by_cases g3:a<c<;>by_cases g4:c<a<;>by_cases g5:b<c<;>by_cases g6:c<b<;>simp only [g1,g2,g3,g4,g5,g6,if_true,if_false]<;>grind
 ·rintro i hi
  have:i=0∨i=1∨i=2:=by omega
  unfold c1R;rcases this with rfl|rfl|rfl<;>generalize r 0=a<;>generalize r 1=b<;>generalize r 2=c <;>
   by_cases g1:a<b<;>by_cases g2:b<a<;>by_cases g3:a<c<;>by_cases g4:c<a<;>by_cases g5:b<c<;>by_cases g6:c<b<;>simp only [g1,g2,g3,g4,g5,g6,if_true,if_false]<;>grind
theorem c9o (f:a2B)(hf:f.few)(v:List (List UInt8))(hv:Few v):a0b C0 23 [f.D,txD false v] (.tup [str (sb (c8x f v)),i64 (b9x f v:Nat)]):=by
 refine a0c.walk w1 d1g rfl fun F=>?_
 have cF:=b2P f hf;have el:(((v.map fun l=>str (sb l)).length:Nat):Int)=(v.length:Int):=by rw [List.length_map]
 have cR:=d3B v hv.2 (Nat.le_trans hv.1 (by decide));rw [← b2R] at cR;have hX:b9K f v=if a0s f≠0 then a0s f else if v.length=0 then 2 else if 3<v.length then 5 else 0:=rfl
 have hC:b9X f v=two (b9K f v) (b1U chk v):=rfl;have hE:b9x f v=if b9X f v≠0 then b9X f v else if v.length=1 then 0 else if v.length=2 then (if b9g f v then 0 else 15) else if b9g f v then 26 else 0:=rfl
 have hT:c8x f v=if b9x f v≠0 then [] else if v.length=3 then txt (c1R (a0d (lv v 0)) (a0d (lv v 1)) (a0d (lv v 2))) else lv v 0:=rfl
 have htz:=@b8l f;have hag:=c8t f;unfold a2B.D at *;generalize hK:a0s f=K at *;rcases Nat.decEq K 0 with g1|g1
 ·have e1:=b4k g1
  rw [if_pos g1] at hX;rw [hX,b7Y g1] at hC;rw [hC,if_pos g1] at hE;rw [hE,if_pos g1] at hT;rw [hT,hE];refine goI a1Z e1 cF trivial trivial trivial trivial trivial ?_;exact a0a rfl IsPure.out
 have e1:=b4L g1;rw [if_neg (by omega)] at hX
 by_cases g2:v.length=0
 ·have e2:((v.length:Int)==0)=true:=beq_iff_eq.2 (by omega)
  rw [if_pos g2] at hX;rw [hX,b7Y (by decide)] at hC;rw [hC,if_pos (by decide)] at hE;rw [hE,if_pos (by decide)] at hT;rw [hT,hE];refine goI a1Z (ff3 e1 el e2) cF trivial trivial trivial trivial trivial ?_;exact a0a rfl IsPure.out
 have e2:((v.length:Int)==0)=false:=beq_eq_false_iff_ne.2 (by omega);rw [if_neg g2] at hX
 by_cases g3:3<v.length
 ·have e3:decide ((v.length:Int)>3)=true:=decide_eq_true (by omega)
  rw [if_pos g3] at hX;rw [hX,b7Y (by decide)] at hC;rw [hC,if_pos (by decide)] at hE;rw [hE,if_pos (by decide)] at hT;rw [hT,hE];refine goI a1Z (ff4 e1 el e2 e3) cF trivial trivial trivial trivial trivial ?_;exact a0a rfl IsPure.out
 have e3:decide ((v.length:Int)>3)=false:=decide_eq_false (by omega);rw [if_neg g3] at hX;rw [hX,c4q rfl] at hC;obtain ⟨A,hA⟩:∃ A,b1U chk v=A:=⟨_,rfl⟩
 rw [hA] at cR hC;rcases Nat.decEq A 0 with g4|g4
 ·have e4:=b4k g4
  rw [hC,if_pos g4] at hE;rw [hE,if_pos g4] at hT;rw [hT,hE];refine goI a1Z (ff5 e1 el e2 e3 e4) cF cR trivial trivial trivial trivial ?_;exact a0a rfl IsPure.out
 have e4:=b4L g4;rw [hC,if_neg (by omega)] at hE;have hr:a2L v=0:=by rw [← b2R,hA];exact g4
 have hk:=a4Z hr;have hv0:v[0]? = some (lv v 0):=a3B (by omega);have hm0:(v.map fun l=>str (sb l))[0]? = some (str (sb (lv v 0))):=by rw [List.getElem?_map,hv0];rfl
 by_cases g5:v.length=1
 ·have e5:((v.length:Int)==1)=true:=beq_iff_eq.2 (by omega)
  rw [if_pos g5] at hE;rw [hE,if_neg (by decide),if_neg (by omega)] at hT;rw [hT,hE];refine goI a1Z (ff6 e1 el e2 e3 e4 e5) cF cR hm0 trivial trivial trivial ?_;exact a0a rfl IsPure.out
 have e5:((v.length:Int)==1)=false:=beq_eq_false_iff_ne.2 (by omega);rw [if_neg g5] at hE;have hv1:v[1]? = some (lv v 1):=a3B (by omega);have hm1:(v.map fun l=>str (sb l))[1]? = some (str (sb (lv v 1))):=by rw [List.getElem?_map,hv1];rfl
 have ca:=hag (htz (by omega)) _ _ (hk _ (List.mem_of_getElem? hv0)) (hk _ (List.mem_of_getElem? hv1));have hR:a8k (a0d (lv v 0)) (a0d (lv v 1)) (a0d f.tol)=b9g f v:=rfl;rw [hR] at ca;obtain ⟨R,hRR⟩:∃ R,b9g f v=R:=⟨_,rfl⟩
 rw [hRR] at ca hE
 by_cases g6:v.length=2
 ·have e6:((v.length:Int)==2)=true:=beq_iff_eq.2 (by omega)
  rw [if_pos g6] at hE;cases R
  ·rw [if_neg (by decide)] at hE
   rw [hE,if_pos (by decide)] at hT;rw [hT,hE];refine goI a1Z (ff7 e1 el e2 e3 e4 e5 e6) cF cR hm0 hm1 ca trivial ?_;exact a0a rfl IsPure.out
  ·rw [if_pos rfl] at hE
   rw [hE,if_neg (by decide),if_neg (by omega)] at hT;rw [hT,hE];refine goI a1Z (ff7 e1 el e2 e3 e4 e5 e6) cF cR hm0 hm1 ca trivial ?_;exact a0a rfl IsPure.out
 have e6:((v.length:Int)==2)=false:=beq_eq_false_iff_ne.2 (by omega);rw [if_neg g6] at hE;cases R
 rotate_left
 ·rw [if_pos rfl] at hE
  rw [hE,if_pos (by decide)] at hT;rw [hT,hE];refine goI a1Z (ff7 e1 el e2 e3 e4 e5 e6) cF cR hm0 hm1 ca trivial ?_;exact a0a rfl IsPure.out
 have g7:v.length=3:=by omega
 rw [if_neg (by decide)] at hE;rw [hE,if_neg (by decide),if_pos g7] at hT;rw [hT,hE];refine goI a1Z (ff7 e1 el e2 e3 e4 e5 e6) cF cR hm0 hm1 ca trivial ?_;obtain ⟨hex,hmed⟩:=c0i fun k=>a0d (lv v k)
 try dsimp only at hmed
 clear hX hC hE hT ca cF cR hag htz;refine OkS.loop (α:=Nat × Nat) (fun p=>⟨[(1,txD false v),(8,i64 (p.1:Int))],[],p.2⟩) (fun p=>3 - p.1)
  (fun p=>p.1≤3∧∀ j,j<p.1→b9t (fun k=>a0d (lv v k)) j=false) (0,_) ⟨Nat.zero_le _,fun j hj=>absurd hj (Nat.not_lt_zero j)⟩ wkI ?_
 rintro ⟨i,m⟩ F ⟨hi,ha⟩;dsimp only at hi ha ⊢;rcases Nat.lt_or_ge i 3 with h2|h2
 rotate_left
 ·exfalso
  rcases hex with h|h|h
  ·rw [ha 0 (by omega)] at h;cases h
  ·rw [ha 1 (by omega)] at h;cases h
  ·rw [ha 2 (by omega)] at h;cases h
 have f1:decide ((i:Int)<3)=true:=decide_eq_true (by omega);have wi:=wiI (i:=i) (by omega);have hvi:=b6C (l:=v) (k:=i) (by omega);have hki:=hk _ (List.mem_of_getElem? (a3B (l:=v) (k:=i) (by omega)));refine goI a1Z f1 trivial trivial trivial trivial trivial trivial ?_;refine OkS.loopF (α:=Nat × Nat) (fun p=>⟨[(1,txD false v),(8,i64 (i:Int)),(9,i64 (cnt (a6D (fun k=>a0d (lv v k)) i) p.1:Nat)),(10,i64 (cnt (a6H (fun k=>a0d (lv v k)) i) p.1:Nat)),(11,i64 (p.1:Int))],[],p.2⟩) (fun p=>3 - p.1)
  (fun p F'=>F'=F∧p.1≤3) (0,_) ⟨rfl,Nat.zero_le _⟩ wkI ?_
 rintro ⟨k,m2⟩ F' ⟨rfl,hk3⟩;dsimp only at hk3 ⊢;rcases Nat.lt_or_ge k 3 with h3|h3
 ·have f2:decide ((k:Int)<3)=true:=decide_eq_true (by omega)
  have wk:=wiI (i:=k) (by omega);have hvk:=b6C (l:=v) (k:=k) (by omega);have hkk:=hk _ (List.mem_of_getElem? (a3B (l:=v) (k:=k) (by omega)));have cc:=c5r hkk hki;have l1:=b8E (a6D (fun k=>a0d (lv v k)) i) k;have l2:=b8E (a6H (fun k=>a0d (lv v k)) i) k;have n1:cnt (a6D (fun k=>a0d (lv v k)) i) (k+1)=cnt (a6D (fun k=>a0d (lv v k)) i) k+(if decide (a2H (a0d (lv v k)) (a0d (lv v i))<0) then 1 else 0):=rfl;have n2:cnt (a6H (fun k=>a0d (lv v k)) i) (k+1)=cnt (a6H (fun k=>a0d (lv v k)) i) k+(if decide (a2H (a0d (lv v k)) (a0d (lv v i))>0) then 1 else 0):=rfl;obtain ⟨p,hp⟩:∃ q,decide (a2H (a0d (lv v k)) (a0d (lv v i))<0)=q:=⟨_,rfl⟩
  obtain ⟨q,hq⟩:∃ q,decide (a2H (a0d (lv v k)) (a0d (lv v i))>0)=q:=⟨_,rfl⟩
  rw [hp] at n1;rw [hq] at n2;generalize cnt (a6D (fun k=>a0d (lv v k)) i) k=M1 at *;generalize cnt (a6H (fun k=>a0d (lv v k)) i) k=M2 at *;have u1:=wiI (i:=M1) (by omega);have u2:=wiI (i:=M2) (by omega);cases p<;>cases q
  all_goals
   (try simp only [Bool.false_eq_true,if_true,if_false,Nat.add_zero] at n1 n2)
   refine goI a1Z (ff7 f2 hp hq wk u1 u2 kN) hvk hvi cc trivial trivial trivial ?_;exact ⟨(k+1,_),⟨by trivial,h3⟩,by dsimp only;omega,by (dsimp only;rw [n1,n2];exact wkI)⟩
 have f2:decide ((k:Int)<3)=false:=decide_eq_false (by omega);have hke:k=3:=by omega
 subst hke;have hok:b9t (fun k=>a0d (lv v k)) i=(decide (cnt (a6D (fun k=>a0d (lv v k)) i) 3≤1)&&decide (cnt (a6H (fun k=>a0d (lv v k)) i) 3≤1)):=rfl;have k1:decide (((cnt (a6D (fun k=>a0d (lv v k)) i) 3:Nat):Int)≤1)=decide (cnt (a6D (fun k=>a0d (lv v k)) i) 3≤1):=c0Q (b:=1);have k2:decide (((cnt (a6H (fun k=>a0d (lv v k)) i) 3:Nat):Int)≤1)=decide (cnt (a6H (fun k=>a0d (lv v k)) i) 3≤1):=c0Q (b:=1);have hmi:=hmed i h2;obtain ⟨p,hp⟩:∃ q,decide (cnt (a6D (fun k=>a0d (lv v k)) i) 3≤1)=q:=⟨_,rfl⟩
 obtain ⟨q,hq⟩:∃ q,decide (cnt (a6H (fun k=>a0d (lv v k)) i) 3≤1)=q:=⟨_,rfl⟩
 rw [hp] at k1 hok;rw [hq] at k2 hok;generalize cnt (a6D (fun k=>a0d (lv v k)) i) 3=M1 at *;generalize cnt (a6H (fun k=>a0d (lv v k)) i) 3=M2 at *;have hst:b9t (fun k=>a0d (lv v k)) i=false→∀ j,j<i+1→b9t (fun k=>a0d (lv v k)) j=false:=fun h j hj=>by
  rcases Nat.lt_or_ge j i with h5|h5
  ·exact ha j h5
  ·have:j=i:=by omega
   rw [this];exact h
 cases p
 ·refine goI a1Z (ff4 f2 k1 k2 wi) trivial trivial trivial trivial trivial trivial ?_
  exact ⟨(i+1,_),⟨h2,hst hok⟩,by dsimp only;omega,wkI⟩
 ·cases q
  ·refine goI a1Z (ff4 f2 k1 k2 wi) trivial trivial trivial trivial trivial trivial ?_
   exact ⟨(i+1,_),⟨h2,hst hok⟩,by dsimp only;omega,wkI⟩
  ·rw [← hmi hok,(a2n hki).2.2.1]
   refine goI a1Z (ff4 f2 k1 k2 kN) hvi trivial trivial trivial trivial trivial ?_;exact a0a rfl IsPure.out
abbrev a9d:Dr:=[(7,[0,1,2,3,4,5,6,7,8,9,10,11,12,13,14,15,16,17,18,19,20,21,22,23,24,25,26,27],[28,29,30,31,32,33])]
open Go.Proofs Go.RowKit
set_option maxRecDepth 20000
set_option maxHeartbeats 4000000
theorem c4b (f:a2B)(a:List UInt8):b1y (b4y f a) (a2x f a) (b4f f a) (b4o f a)=b1y (rdE f a) (txt (rdQ f a)) (txt (rdQ f a - a0d f.tol)) (txt (rdQ f a+a0d f.tol)):=by
 have hz:=@b4l f
 by_cases g:a6d f a=0
 ·have gA:=g
  have hA:a6d f a=two (a0s f) (chk a):=rfl;rw [hA] at gA;have g1:a0s f=0:=by unfold two at gA;split at gA<;>omega
  have g2:chk a=0:=by unfold two at gA;split at gA<;>omega
  obtain ⟨z1,z2⟩:=hz g1;have hE:a7W a f.kind f.step=a8D (rdQ f a):=by unfold a7W;rw [if_neg (by omega),if_neg (by omega)];rfl
  have hT:a2x f a=a6F (rdQ f a):=by unfold a2x a7E;rw [if_neg (by omega),if_neg (by omega)];rfl
  have hR:rdE f a=if b8B f a then 4 else 0:=by unfold rdE;rw [if_neg (by omega)]
  have hB:b8B f a=(a6f (rdQ f a)||(a6f (rdQ f a - a0d f.tol)||a6f (rdQ f a+a0d f.tol))):=rfl;unfold b4y b7w b4f b4o a5Y a5Z;rw [g,c4q rfl,hE,hT,hR,hB];cases h1:a6f (rdQ f a)
  ·have t1:a6F (rdQ f a)=txt (rdQ f a):=by unfold a6F;rw [h1];rfl
   have n1:a8D (rdQ f a)=0:=by unfold a8D;rw [h1];rfl
   rw [t1,n1,c4t h1,z1,b0y];unfold a8D a6F;cases h2:a6f (rdQ f a - a0d f.tol)
   ·cases h3:a6f (rdQ f a+a0d f.tol)<;>rfl
   ·cases h3:a6f (rdQ f a+a0d f.tol)<;>rfl
  ·have t1:a6F (rdQ f a)=[]:=by unfold a6F;rw [h1];rfl
   have n1:a8D (rdQ f a)=4:=by unfold a8D;rw [h1];rfl
   rw [t1,n1];rfl
 ·have e1:b4y f a=a6d f a:=by unfold b4y b7w;rw [b7Y g,b7Y g]
  have e2:rdE f a=a6d f a:=by unfold rdE;rw [if_pos g]
  rw [e1,e2];unfold b1y;rw [if_pos g,if_pos g,if_pos g,if_pos g,if_pos g,if_pos g]
theorem b4w {f:a2B}(h:a9t f=true):f.few:=by
 simp only [a9t,Bool.and_eq_true,decide_eq_true_eq] at h;obtain ⟨⟨⟨h1,h2⟩,h3⟩,h4⟩:=h;exact ⟨by omega,by omega,by omega,by omega⟩
theorem c7g (ha:a0b C0 9 [] (boo true))(f:a2B)(a:List UInt8)(v:List (List UInt8))(hl:v.length≤9223372036854775807):a0b C0 5 [f.D,str (sb a),txD false v] (boo true):=by
 refine a0c.walk w1 d2H rfl fun F=>?_
 have cp:=c3x f;have c1:a0b C0 19 [.sl true 1 [str (sb a)]] (boo (b5r [a])):=c3y true [a] (by simp);have c2:=c3y false v hl;have el:(((v.map fun l=>str (sb l)).length:Nat):Int)=(v.length:Int):=by rw [List.length_map]
 have hp:=@b4w f;have h1:b5r [a]=true→a.length≤100000:=fun h=>Nat.le_trans (b6f h a (by simp)) (by decide)
 have h2:b5r v=true→∀ l∈v,l.length≤100000:=fun h l hl=>Nat.le_trans (b6f h l hl) (by decide)
 have d1:=fun hf h=>c4b f a ▸ b9k f hf a h
 have d2:=fun hf h=>b9F f hf a h
 have d3:=fun hf h=>c8e f hf false v h
 have d4:=fun hf h=>c9o f hf v h
 have d5:=fun hf=>a7v f hf
 have d6:=fun hf=>b2P f hf
 unfold a2B.D b1y at *;generalize b5r [a]=p1 at *;generalize b5r v=p2 at *;generalize a9t f=p0 at *;cases p0
 ·refine goI a9d kB cp ha trivial trivial trivial trivial ?_
  exact a0a rfl IsPure.out
 cases p1
 ·refine goI a9d kB cp c1 ha trivial trivial trivial ?_
  exact a0a rfl IsPure.out
 cases p2
 ·refine goI a9d kB cp c1 c2 ha trivial trivial ?_
  exact a0a rfl IsPure.out
 by_cases g:5<v.length
 ·have e1:decide ((v.length:Int)>5)=true:=decide_eq_true (by omega)
  refine goI a9d (ff2 e1 el) cp c1 c2 ha trivial trivial ?_;exact a0a rfl IsPure.out
 have e1:decide ((v.length:Int)>5)=false:=decide_eq_false (by omega);have hf:=hp rfl;have hv:Few v:=⟨by omega,h2 rfl⟩
 have d1:=d1 hf (h1 rfl);have d2:=d2 hf (h1 rfl);have d3:=d3 hf hv;have d4:=d4 hf hv;have d5:=d5 hf;have d6:=d6 hf;have q1:∀ K:Nat,((K:Int)==(K:Int))=true:=fun K=>beq_self_eq_true _
 have q2:∀ l:List UInt8,a0E (sb l) (sb l)=true:=fun l=>by rw [a4G];exact decide_eq_true rfl
 have q3:=q1 (rdE f a);have q4:=q1 (b9x f v);have q5:=q1 (a0s f);generalize rdE f a=E1 at *;generalize b9x f v=E2 at *;generalize a0s f=E3 at *;generalize (if E1≠0 then [] else txt (rdQ f a))=T1 at *;generalize (if E1≠0 then [] else txt (rdQ f a - a0d f.tol))=T2 at *;generalize (if E1≠0 then [] else txt (rdQ f a+a0d f.tol))=T3 at *;generalize c8x f v=T4 at *;have s1:=q2 T1;have s2:(a0E (sb T2) (sb T2)&&(a0E (sb T3) (sb T3)&&true))=true:=by rw [q2 T2,q2 T3];rfl
 have s4:=q2 T4;refine goI a9d (ff7 e1 el q3 q4 q5 s1 (ff2 s2 s4)) cp c1 c2 d1 d2 trivial ?_;refine goI a9d (ff7 e1 el q3 q4 q5 s1 (ff2 s2 s4)) d3 d4 d5 d6 ha trivial ?_;exact a0a rfl IsPure.out
end Go.Ide
