/- The layer of own lemmas and contracts, part 13. -/
import Derived.Test.YtpehlicnhjoknaaGreatDoorP12
set_option linter.unusedVariables false
set_option linter.unusedSimpArgs false
namespace Go.Ide
abbrev a4D:Dr:=[(16,[0,1,2,3,4,5,6,7],[8])]
open Go.Proofs Go.RowKit
set_option maxRecDepth 20000
set_option maxHeartbeats 8000000
def b1V (s:SpT):Bool:=c4M [s.lo,s.hi]
def c7S (s:List SpT):Bool:=decide (s.length≤9)&&s.all b1V
theorem b9T {s:List SpT}(h:c7S s=true):c3C s:=by
 simp only [c7S,Bool.and_eq_true,decide_eq_true_eq,List.all_eq_true] at h;refine ⟨by omega,fun x hx=>?_⟩
 have:=c4a (h.2 x hx)
 exact ⟨Nat.le_trans (this x.lo (by simp)) (by decide),Nat.le_trans (this x.hi (by simp)) (by decide)⟩
theorem b9s (v:List SpT)(w:List Int):∃ x y,a4B v w=.agg [str (sb x),str (sb y)]:=by
 unfold a4B a4z;split<;>exact ⟨_,_,rfl⟩
theorem c2N (b:Bool)(l:List SpT)(hl:l.length≤9223372036854775807):a0b C0 15 [spD b l] (boo (l.all b1V)):=by
 refine a0c.walk w1 c9w rfl fun F=>?_
 have el:(((l.map SpT.D).length:Nat):Int)=(l.length:Int):=by rw [List.length_map]
 refine goI dr0 el trivial trivial trivial trivial trivial trivial ?_;refine OkS.loop (α:=Nat × Nat) (fun p=>⟨[(5,spD b l),(6,i64 (l.length:Int)),(7,i64 (p.1:Int))],[],p.2⟩) (fun p=>l.length - p.1)
  (fun p=>p.1≤l.length∧(l.take p.1).all b1V=true) (0,_) ⟨Nat.zero_le _,rfl⟩ wkI ?_
 rintro ⟨i,m⟩ F ⟨hi,ha⟩;dsimp only at hi ha ⊢;rcases Nat.lt_or_ge i l.length with h2|h2
 ·have e1:=ltT h2
  have wi:=wiI (i:=i) (by omega);obtain ⟨x,hx⟩:=a0V h2;have hm:(l.map SpT.D)[i]? = some (.agg [str (sb x.lo),str (sb x.hi)]):=by rw [List.getElem?_map,hx];rfl
  have c:a0b C0 19 [.sl true 1 [str (sb x.lo),str (sb x.hi)]] (boo (b1V x)):=d1d true [x.lo,x.hi] (by simp);obtain ⟨p,hp⟩:∃ p,b1V x=p:=⟨_,rfl⟩
  rw [hp] at c;cases p
  ·rw [a9R hx hp]
   refine goI dr0 (ff2 e1 kN) hm c trivial trivial trivial trivial ?_;exact a0a rfl IsPure.out
  ·refine goI dr0 (ff3 e1 wi kN) hm c trivial trivial trivial trivial ?_
   exact ⟨(i+1,_),⟨h2,a5i hx ha hp⟩,by dsimp only;omega,wkI⟩
 ·have e1:=ltF h2
  have:i=l.length:=by omega
  subst this;rw [List.take_length] at ha;rw [ha];refine goI dr0 e1 trivial trivial trivial trivial trivial trivial ?_;exact a0a rfl IsPure.out
theorem c6C (ha:a0b C0 9 [] (boo true))(v:List (List SpT))(hv:v.length≤9223372036854775807)(hvl:∀ s∈v,s.length≤9223372036854775807)(w:List Int)(hw:w.length≤9223372036854775807):a0b C0 4 [ssD v,wsD w] (boo true):=by
 refine a0c.walk w1 d2t rfl fun F=>?_
 have el:(((v.map fun s=>spD false s).length:Nat):Int)=(v.length:Int):=by rw [List.length_map]
 have elw:(((w.map fun x=>i64 x).length:Nat):Int)=(w.length:Int):=by rw [List.length_map]
 obtain ⟨p1,h1⟩:∃ p,decide ((v.length:Int)>6)=p:=⟨_,rfl⟩
 obtain ⟨p2,h2⟩:∃ p,decide ((v.length:Int)≤64)=p:=⟨_,rfl⟩
 obtain ⟨p3,h3⟩:∃ p,decide ((v.length:Int)>70)=p:=⟨_,rfl⟩
 obtain ⟨p4,h4⟩:∃ p,decide ((w.length:Int)>100)=p:=⟨_,rfl⟩
 by_cases g:(p1=true∧p2=true)∨p3=true∨p4=true
 ·have hcase:(p1=true∧p2=true)∨(p1=true∧p2=false∧p3=true)∨(p1=true∧p2=false∧p3=false∧p4=true)∨(p1=false∧p3=true)∨(p1=false∧p3=false∧p4=true):=by
   revert g
   cases p1<;>cases p2<;>cases p3<;>cases p4<;>decide
  rcases hcase with ⟨rfl,rfl⟩|⟨rfl,rfl,rfl⟩|⟨rfl,rfl,rfl,rfl⟩|⟨rfl,rfl⟩|⟨rfl,rfl,rfl⟩
  all_goals
   refine goI a4D (ff6 el elw h1 h2 h3 h4) ha trivial trivial trivial trivial trivial ?_;exact a0a rfl IsPure.out
 have hl9:v.length≤9∨64<v.length:=by
  by_cases q1:v.length≤9
  ·exact .inl q1
  ·right
   by_cases q2:v.length≤64
   ·exact absurd (.inl ⟨h1 ▸ decide_eq_true (by omega),h2 ▸ decide_eq_true (by omega)⟩) g
   ·omega
 have hl70:v.length≤70:=by
  by_cases q1:v.length≤70
  ·exact q1
  ·exact absurd (.inr (.inl (h3 ▸ decide_eq_true (by omega)))) g
 have hw100:w.length≤100:=by
  by_cases q1:w.length≤100
  ·exact q1
  ·exact absurd (.inr (.inr (h4 ▸ decide_eq_true (by omega)))) g
 have hcase:(p1=true∧p2=false∧p3=false∧p4=false)∨(p1=false∧p3=false∧p4=false):=by
  revert g
  cases p1<;>cases p2<;>cases p3<;>cases p4<;>decide
 clear g;rcases hcase with ⟨rfl,rfl,rfl,rfl⟩|⟨rfl,rfl,rfl⟩
 all_goals
  refine goI a4D (ff6 el elw h1 h2 h3 h4) trivial trivial trivial trivial trivial trivial ?_;refine OkS.loop (α:=Nat × Nat) (fun p=>⟨[(0,ssD v),(1,wsD w),(31,ssD v),(32,i64 (v.length:Int)),(33,i64 (p.1:Int))],[],p.2⟩) (fun p=>v.length - p.1)
   (fun p=>p.1≤v.length∧(v.take p.1).all c7S=true) (0,_) ⟨Nat.zero_le _,rfl⟩ wkI ?_
  rintro ⟨i,m⟩ F ⟨hi,hk⟩;dsimp only at hi hk ⊢;rcases Nat.lt_or_ge i v.length with h5|h5
  ·have e1:=ltT h5
   have wi:=wiI (i:=i) (by omega);obtain ⟨s,hs⟩:=a0V h5;have hm:(v.map fun s=>spD false s)[i]? = some (spD false s):=by rw [List.getElem?_map,hs];rfl
   have els:(((s.map SpT.D).length:Nat):Int)=(s.length:Int):=by rw [List.length_map]
   have c:=c2N false s (hvl s (List.mem_of_getElem? hs));have hok:c7S s=(decide (s.length≤9)&&s.all b1V):=rfl;obtain ⟨r,hr⟩:∃ p,s.all b1V=p:=⟨_,rfl⟩
   rw [hr] at c hok
   by_cases g9:s.length≤9
   ·have e2:decide ((s.length:Int)>9)=false:=decide_eq_false (by omega)
    cases r
    ·refine goI a4D (ff4 e1 els e2 kN) hm c ha trivial trivial trivial ?_
     exact a0a rfl IsPure.out
    ·rw [decide_eq_true g9] at hok
     refine goI a4D (ff5 e1 els e2 wi kN) hm c trivial trivial trivial trivial ?_;exact ⟨(i+1,_),⟨h5,a5i hs hk hok⟩,by dsimp only;omega,wkI⟩
   ·have e2:decide ((s.length:Int)>9)=true:=decide_eq_true (by omega)
    refine goI a4D (ff4 e1 els e2 kN) hm ha trivial trivial trivial trivial ?_;exact a0a rfl IsPure.out
  have e1:=ltF h5
  have:i=v.length:=by omega
  subst this;rw [List.take_length] at hk;have hfs:∀ s∈v,c3C s:=fun s hs=>b9T (List.all_eq_true.1 hk s hs)
  have hn9:n0S v≤9:=by
   unfold n0S;rw [List.getD_eq_getElem?_getD];rcases h:v[0]? with _|s
   ·exact Nat.zero_le _
   ·have:=List.all_eq_true.1 hk s (List.mem_of_getElem? h)
    simp only [c7S,Bool.and_eq_true,decide_eq_true_eq] at this;exact this.1
  have d1:=b4A false false v (by omega) hfs w (by omega);have d2:=b4j v hl9 (by omega) hfs w (by omega);have hD:c1D v w=if b3t v w=0 then .sl false 2 (a8E v w (n0S v)) else a1U:=rfl
  have q1:((b3t v w:Int) != (b3t v w:Int))=false:=c4h rfl;generalize b3t v w=E at *
  by_cases g5:E=0
  rotate_left
  ·rw [if_neg g5] at hD
   rw [hD] at d1 d2;have q0:(((0:Nat):Int) != ((0:Nat):Int))=false:=rfl;refine goI a4D (ff3 e1 q1 q0) d1 d2 trivial trivial trivial trivial ?_;refine OkS.loop (α:=Nat) (fun p=>⟨[(70,i64 0),(71,i64 0)],[],p⟩) (fun p=>0) (fun p=>True) _ trivial wkI ?_;intro m2 F _;dsimp only;have qz:decide ((0:Int)<0)=false:=by decide
   refine goI a4D qz ha trivial trivial trivial trivial trivial ?_;exact a0a rfl IsPure.out
  ·rw [if_pos g5] at hD
   rw [hD] at d1 d2;have hLl:(a8E v w (n0S v)).length=n0S v:=by unfold a8E;rw [List.length_map,List.length_range]
   have hLs:∀ x∈a8E v w (n0S v),∃ a b,x=.agg [str (sb a),str (sb b)]:=fun x hx=>by
    obtain ⟨f,-,rfl⟩:=List.mem_map.1 hx;exact b9s _ _
   have pL:IsPure (.sl false 2 (a8E v w (n0S v))):=inferInstance;generalize a8E v w (n0S v)=L at *;have q2:((L.length:Int) != (L.length:Int))=false:=c4h rfl;refine goI a4D (ff3 e1 q1 q2) d1 d2 trivial trivial trivial trivial ?_;refine OkS.loop (α:=Nat × Nat) (fun p=>⟨[(7,.sl false 2 L),(9,.sl false 2 L),(70,i64 (L.length:Int)),(71,i64 (p.1:Int))],[],p.2⟩) (fun p=>L.length - p.1)
    (fun p=>p.1≤L.length) (0,_) (Nat.zero_le _) wkI ?_
   rintro ⟨j,m2⟩ F hj;dsimp only at hj ⊢;rcases Nat.lt_or_ge j L.length with h6|h6
   ·have e2:=ltT h6
    have wj:=wiI (i:=j) (by omega);obtain ⟨x,hx⟩:=a0V h6;obtain ⟨a,b,rfl⟩:=hLs x (List.mem_of_getElem? hx);have hs:(!(a1X (sb a) (sb a)&&(a1X (sb b) (sb b)&&true)))=false:=by rw [a4a,a4a,decide_eq_true rfl,decide_eq_true rfl];rfl
    refine goI a4D (ff4 e2 wj hs kN) hx trivial trivial trivial trivial trivial ?_;exact ⟨(j+1,_),h6,by dsimp only;omega,wkI⟩
   ·have e2:=ltF h6
    refine goI a4D e2 ha trivial trivial trivial trivial trivial ?_;exact a0a rfl IsPure.out
end Go.Ide
