/- The layer of own lemmas and contracts, part 13. -/
import Derived.Test.YtpehlicnhjoknabGreatDoorP12
import Derived.Test.YtpehlicnhjoknabGreatDoorP3
import Derived.Test.YtpehlicnhjoknabGreatDoorP6
import Derived.Shelf.RegionOpenPlain
import Derived.Lib.Builder
import Derived.Lib.UnsafeStr
import Derived.Lib.Strings
import Derived.Lib.Slices
import Derived.Lib.Walk
import Derived.Laws.Externs
import Derived.KernelRfl
import Derived.WalkKit
import Derived.Test.YtpehlicnhjoknabGreatDoorP11
import Derived.Shelf.Strconv.Itoa3
import Derived.Lib.ItoaMem
import Derived.Lib.AppendIntMem
import Derived.BigCall
import Derived.BigGuard
import Derived.Test.YtpehlicnhjoknabGreatDoorP10
set_option linter.unusedVariables false
set_option linter.unusedSimpArgs false
namespace Go.Ide
open Go.Proofs Go.RowKit
set_option maxRecDepth 20000
set_option maxHeartbeats 4000000
def b1z (v:List (List UInt8)):Bool:=v.all fun l=>decide (l.length≤40)
def a5K (f:a1R):Bool:=decide (f.name.length≤100)&&decide (f.kind.length≤100)&&decide (f.tol.length≤40)&&decide (f.step.length≤40)
def a7a (g:a1k):Bool:=decide (g.name.length≤100)&&decide (g.least.length≤20)&&decide (g.most.length≤20)&&b1z g.least&&b1z g.most
def a7h (s:a1K):Bool:=decide (s.fs.length≤12)&&decide (s.gs.length≤20)&&s.fs.all a5K&&s.gs.all a7a
theorem a6E {v:List (List UInt8)}(h:b1z v=true):∀ l∈v,l.length≤40:=fun l hl=>of_decide_eq_true (List.all_eq_true.1 h l hl)
theorem b7I {s:a1K}(h:a7h s=true):s.few:=by
 simp only [a7h,Bool.and_eq_true,decide_eq_true_eq,List.all_eq_true] at h;obtain ⟨⟨⟨h1,h2⟩,h3⟩,h4⟩:=h;refine ⟨by omega,by omega,fun f hf=>?_,fun g hg=>?_⟩
 ·have:=h3 f hf
  simp only [a5K,Bool.and_eq_true,decide_eq_true_eq] at this;obtain ⟨⟨⟨q1,q2⟩,q3⟩,q4⟩:=this;exact ⟨by omega,by omega,by omega,by omega⟩
 ·have:=h4 g hg
  simp only [a7a,Bool.and_eq_true,decide_eq_true_eq] at this;obtain ⟨⟨⟨⟨q1,q2⟩,q3⟩,q4⟩,q5⟩:=this;exact ⟨by omega,by omega,by omega,fun l hl=>by have:=a6E q4 l hl;omega,fun l hl=>by have:=a6E q5 l hl;omega⟩
theorem a7A {α:Type}{l:List α}{p:α→Bool}{k:Nat}{x:α}(hx:l[k]? = some x)(h:(l.take k).all p=true)(hp:p x=true):(l.take (k+1)).all p=true:=by
 rw [List.take_add_one,hx,List.all_append,h];simp [hp]
theorem a4z {α:Type}{l:List α}{p:α→Bool}{k:Nat}{x:α}(hx:l[k]? = some x)(hp:p x=false):l.all p=false:=by
 cases h:l.all p
 ·rfl
 ·rw [List.all_eq_true.1 h x (List.mem_of_getElem? hx)] at hp;exact hp
theorem b1P {a b:Nat}:decide ((a:Int)>(b:Int)) = !decide (a≤b):=by
 by_cases h:a≤b
 ·rw [decide_eq_false (by omega),decide_eq_true h];rfl
 ·rw [decide_eq_true (by omega),decide_eq_false h];rfl
theorem c3q {a b:Nat}:decide ((a:Int)≤(b:Int))=decide (a≤b):=decide_eq_decide.2 (by omega)
theorem b7E (b:Bool)(v:List (List UInt8))(hl:v.length≤9223372036854775807):a0b C0 9 [.sl b 1 (v.map fun l=>str (sb l))] (boo (b1z v)):=by
 refine a0c.walk w1 d6o rfl fun F=>?_
 have el:(((v.map fun l=>str (sb l)).length:Nat):Int)=(v.length:Int):=by rw [List.length_map]
 refine sR 0 ?_;refine OkS.seq ?_;refine sZ 100 ?_;refine nwI el ?_;refine OkS.block ?_;refine OkS.loop (α:=Nat × Nat) (fun p=>⟨[(5,.sl b 1 (v.map fun l=>str (sb l))),(6,i64 v.length),(7,i64 (p.1:Int))],[],p.2⟩) (fun p=>v.length - p.1) (fun p=>p.1≤v.length∧(v.take p.1).all (fun l=>decide (l.length≤40))=true) (0,_) ⟨Nat.zero_le _,rfl⟩ wkI ?_;rintro ⟨i,n⟩ F ⟨hi,ha⟩;dsimp only at hi ha ⊢;refine sR 200 ?_;refine OkS.seq ?_;refine ifI ?_
 (refine brI (fun hlt=>?_) (fun hlt=>?_))<;>(try simp only [Bool.not_eq_true',Bool.not_eq_false'] at hlt)<;>(try simp only [hlt])
 ·have hi2:i<v.length:=by
   have:=of_decide_eq_true hlt
   omega
  have hm:=a3x hi2;have hx:=a4x hi2;have wi:IntKind.i64.wrap ((i:Int)+1)=((i+1:Nat):Int):=wI (by omega) (by omega);obtain ⟨l,hl'⟩:∃ l,lv v i=l:=⟨_,rfl⟩
  rw [hl'] at hm hx;have hsz:=a0t l;refine skI ?_;refine OkS.seq ?_;refine OkS.block ?_;refine sZ 300 ?_;refine gwI kN ?_;refine ixI kT hm ?_;refine gwI kN ?_
  by_cases g:l.length≤40
  ·have e5:decide ((l.length:Int)>40)=false:=decide_eq_false (by omega)
   refine sZ 400 ?_;refine nwI (ff2 hsz e5) ?_;refine ifI ?_;refine skI ?_;refine OkS.reg w1 600 (by kernel_rfl) ?_;refine nwI wi ?_;exact ⟨(i+1,_),⟨hi2,a7A hx ha (decide_eq_true g)⟩,by dsimp only;omega,wkI⟩
  ·have e5:decide ((l.length:Int)>40)=true:=decide_eq_true (by omega)
   refine sZ 400 ?_;refine nwI (ff2 hsz e5) ?_;refine ifI ?_;refine sR 500 ?_;refine rtI ?_;exact a0a (by unfold b1z;rw [a4z hx (decide_eq_false g)]) IsPure.out
 have hi2:i=v.length:=by
  have:=of_decide_eq_false hlt
  omega
 subst hi2;refine exI ?_;refine sR 700 ?_;refine rtI ?_;exact a0a (by unfold b1z;rw [List.take_length] at ha;rw [ha]) IsPure.out
theorem c5y (f:a1R):a0b C0 65 [f.D] (boo (a5K f)):=by
 refine a0c.walk w1 d3A rfl fun F=>?_
 have cf:=b7E true [f.tol,f.step] (by simp);have hr:a5K f=(decide (f.name.length≤100)&&(decide (f.kind.length≤100)&&b1z [f.tol,f.step])):=by
  unfold a5K b1z;simp only [List.all_cons,List.all_nil,Bool.and_true,Bool.and_assoc]
 rw [hr];have z1:=a0t f.name;have z2:=a0t f.kind;dsimp only [List.map] at cf;unfold a1R.D;obtain ⟨q,hq⟩:∃ q,b1z [f.tol,f.step]=q:=⟨_,rfl⟩
 rw [hq] at cf ⊢;have d1:decide ((f.name.length:Int)≤100)=decide (f.name.length≤100):=decide_eq_decide.2 (by omega);have d2:decide ((f.kind.length:Int)≤100)=decide (f.kind.length≤100):=decide_eq_decide.2 (by omega);refine sR 0 ?_
 by_cases g1:f.name.length≤100
 rotate_left
 ·rw [decide_eq_false g1] at d1 ⊢
  refine sZ 100 ?_;refine nwI (ff2 z1 d1) ?_;refine gwI kB ?_
  try simp only [implies_true]
  refine gwI kB ?_
  try simp only [implies_true]
  refine gwI kB ?_;refine rtI ?_;exact a0a rfl IsPure.out
 rw [decide_eq_true g1] at d1 ⊢
 by_cases g2:f.kind.length≤100
 rotate_left
 ·rw [decide_eq_false g2] at d2 ⊢
  refine sZ 100 ?_;refine nwI (ff2 z1 d1) ?_;refine gwI kB ?_
  try simp only [z2,d2,implies_true]
  refine gwI kB ?_
  try simp only [implies_true]
  refine gwI kB ?_;refine rtI ?_;exact a0a rfl IsPure.out
 rw [decide_eq_true g2] at d2 ⊢;refine sZ 100 ?_;refine nwI (ff2 z1 d1) ?_;refine gwI kB ?_
 try simp only [z2,d2,implies_true]
 refine gwI kB ?_
 try simp only [implies_true]
 refine gcI kB ?_;refine a0j.same _ cf inferInstance ?_;refine gwI kB ?_
 try simp only [implies_true]
 refine rtI ?_;exact a0a rfl IsPure.out
def a1K.fit (s:a1K):Prop:=s.fs.length≤9223372036854775807∧s.gs.length≤9223372036854775807∧∀ g∈s.gs,g.least.length≤9223372036854775807∧g.most.length≤9223372036854775807
theorem c5k (s:a1K)(hs:s.fit):a0b C0 15 [s.D] (boo (a7h s)):=by
 refine a0c.walk w1 d3X rfl fun F=>?_
 have fl:(((s.fs.map a1R.D).length:Nat):Int)=(s.fs.length:Int):=by rw [List.length_map]
 have gl:(((s.gs.map a1k.D).length:Nat):Int)=(s.gs.length:Int):=by rw [List.length_map]
 obtain ⟨ls,lg,lx⟩:=hs;have hmf:∀ i,i<s.fs.length→(s.fs.map a1R.D)[i]? = some (.agg [str (sb (s.fs.getD i default).name),str (sb (s.fs.getD i default).tol),str (sb (s.fs.getD i default).kind),str (sb (s.fs.getD i default).step)]):=fun i hi=>b9K hi
 have hfs:∀ k,k<s.fs.length→s.fs[k]? = some (s.fs.getD k default):=fun k hk=>a8h hk
 have hmg:∀ k,k<s.gs.length→(s.gs.map a1k.D)[k]? = some (.agg [str (sb (s.gs.getD k default).name),.sl false 1 ((s.gs.getD k default).least.map fun l=>str (sb l)),.sl false 1 ((s.gs.getD k default).most.map fun l=>str (sb l))]):=fun k hk=>b5H hk
 have hgs:∀ k,k<s.gs.length→s.gs[k]? = some (s.gs.getD k default):=fun k hk=>a2J hk
 have hL:a7h s=(decide (s.fs.length≤12)&&(decide (s.gs.length≤20)&&(s.fs.all a5K&&s.gs.all a7a))):=by
  unfold a7h;simp only [Bool.and_assoc]
 rw [hL];unfold a1K.D;obtain ⟨fsD,hfsD⟩:∃ x,s.fs.map a1R.D=x:=⟨_,rfl⟩
 obtain ⟨gsD,hgsD⟩:∃ x,s.gs.map a1k.D=x:=⟨_,rfl⟩
 have pf:IsPure (.sl false 4 fsD):=by rw [← hfsD];exact inferInstance
 have pg:IsPure (.sl false 3 gsD):=by rw [← hgsD];exact inferInstance
 rw [hfsD] at fl hmf ⊢;rw [hgsD] at gl hmg ⊢;obtain ⟨n,hn⟩:∃ n,s.fs.length=n:=⟨_,rfl⟩
 obtain ⟨m,hm⟩:∃ m,s.gs.length=m:=⟨_,rfl⟩
 have hnl:=hn;have hml:=hm;rw [hn] at fl ls hmf hfs ⊢;rw [hm] at gl lg hmg hgs ⊢;have d1:decide ((n:Int)>12) = !decide (n≤12):=b1P (b:=12);have d2:decide ((m:Int)>20) = !decide (m≤20):=b1P (b:=20);refine sR 0 ?_;refine OkS.seq ?_
 by_cases g1:n≤12
 rotate_left
 ·rw [decide_eq_false g1] at d1 ⊢
  refine sZ 100 ?_;refine nwI (ff3 fl d1 kF) ?_;refine gwI kB ?_
  try simp only [implies_true]
  refine gwI kB ?_;refine ifI ?_;refine sR 200 ?_;refine rtI ?_;exact a0a rfl IsPure.out
 rw [decide_eq_true g1] at d1 ⊢
 by_cases g2:m≤20
 rotate_left
 ·rw [decide_eq_false g2] at d2 ⊢
  refine sZ 100 ?_;refine nwI (ff3 fl d1 kT) ?_;refine gwI kB ?_
  try simp only [gl,d2,Bool.not_false,implies_true]
  refine ifI ?_;refine sR 200 ?_;refine rtI ?_;exact a0a rfl IsPure.out
 rw [decide_eq_true g2] at d2 ⊢;refine sZ 100 ?_;refine nwI (ff3 fl d1 kT) ?_;refine gwI kB ?_
 try simp only [gl,d2,Bool.not_true,implies_true]
 refine ifI ?_;refine skI ?_;rw [Bool.true_and,Bool.true_and];refine OkS.seq ?_;refine sZ 300 ?_;refine nwI fl ?_;refine OkS.block ?_;refine OkS.loop (α:=Nat × Nat) (fun q=>⟨[(1,.optr 0 0 2 0 0),(18,.sl false 4 fsD),(19,i64 (n:Int)),(20,i64 (q.1:Int))],[⟨0,0,39,2,[.agg [.sl false 4 fsD,.sl false 3 gsD]]⟩],q.2⟩) (fun q=>n - q.1) (fun q=>q.1≤n∧(s.fs.take q.1).all a5K=true) (0,_) ⟨Nat.zero_le _,rfl⟩ wkI ?_;rintro ⟨i,c⟩ F ⟨hi,ha⟩;dsimp only at hi ha ⊢;refine sR 400 ?_;refine OkS.seq ?_;refine ifI ?_
 (refine brI (fun hlt=>?_) (fun hlt=>?_))<;>(try simp only [Bool.not_eq_true',Bool.not_eq_false'] at hlt)<;>(try simp only [hlt])
 ·have hi2:i<n:=by
   have:=of_decide_eq_true hlt
   omega
  have hmi:=hmf i hi2;have hsi:=hfs i hi2;have wi:IntKind.i64.wrap ((i:Int)+1)=((i+1:Nat):Int):=wI (by omega) (by omega);obtain ⟨f,hf⟩:∃ f,s.fs.getD i default=f:=⟨_,rfl⟩
  rw [hf] at hmi hsi;have cp:=c5y f;unfold a1R.D at cp;refine skI ?_;refine OkS.seq ?_;refine OkS.block ?_;refine sZ 500 ?_;refine gwI kN ?_;refine ixI kT hmi ?_;refine gwI kN ?_;cases hp:a5K f
  ·rw [hp] at cp
   refine sR 600 ?_;refine cI cp ?_;refine ifI ?_;refine sR 700 ?_;refine rtI ?_;exact a0a (by rw [a4z hsi hp];rfl) IsPure.out
  ·rw [hp] at cp
   refine sR 600 ?_;refine cI cp ?_;refine ifI ?_;refine skI ?_;refine OkS.reg w1 800 (by kernel_rfl) ?_;refine nwI wi ?_;exact ⟨(i+1,_),⟨hi2,a7A hsi ha hp⟩,by dsimp only;omega,wkI⟩
 have hi2:i=n:=by
  have:=of_decide_eq_false hlt
  omega
 subst hi2;rw [show s.fs.all a5K=true by rw [← ha,← hnl,List.take_length],Bool.true_and];clear ha;refine exI ?_;refine OkS.seq ?_;refine sZ 900 ?_;refine nwI gl ?_;refine OkS.block ?_;refine OkS.loop (α:=Nat × Nat) (fun q=>⟨[(29,.sl false 3 gsD),(30,i64 (m:Int)),(31,i64 (q.1:Int))],[],q.2⟩) (fun q=>m - q.1) (fun q=>q.1≤m∧(s.gs.take q.1).all a7a=true) (0,_) ⟨Nat.zero_le _,rfl⟩ wkI ?_;rintro ⟨k,c⟩ F ⟨hk,ha⟩;dsimp only at hk ha ⊢;refine sR 1000 ?_;refine OkS.seq ?_;refine ifI ?_
 (refine brI (fun hlt2=>?_) (fun hlt2=>?_))<;>(try simp only [Bool.not_eq_true',Bool.not_eq_false'] at hlt2)<;>(try simp only [hlt2])
 ·have hk2:k<m:=by
   have:=of_decide_eq_true hlt2
   omega
  have hmk:=hmg k hk2;have hsk:=hgs k hk2;have lk:=lx _ (List.mem_of_getElem? hsk);have wi:IntKind.i64.wrap ((k:Int)+1)=((k+1:Nat):Int):=wI (by omega) (by omega);obtain ⟨g,hg⟩:∃ g,s.gs.getD k default=g:=⟨_,rfl⟩
  rw [hg] at hmk hsk lk;have c1:=b7E false g.least lk.1;have c2:=b7E false g.most lk.2;have hG:a7a g=(decide (g.name.length≤100)&&(decide (g.least.length≤20)&&(decide (g.most.length≤20)&&(b1z g.least&&b1z g.most)))):=by
   unfold a7a;simp only [Bool.and_assoc]
  have z1:=a0t g.name;have z2:(((g.least.map fun l=>str (sb l)).length:Nat):Int)=(g.least.length:Int):=by rw [List.length_map]
  have z3:(((g.most.map fun l=>str (sb l)).length:Nat):Int)=(g.most.length:Int):=by rw [List.length_map]
  have y1:decide ((g.name.length:Int)>100) = !decide (g.name.length≤100):=b1P (b:=100);have y2:decide ((g.least.length:Int)>20) = !decide (g.least.length≤20):=b1P (b:=20);have y3:decide ((g.most.length:Int)>20) = !decide (g.most.length≤20):=b1P (b:=20);obtain ⟨b1,hb1⟩:∃ b,decide (g.name.length≤100)=b:=⟨_,rfl⟩
  obtain ⟨b2,hb2⟩:∃ b,decide (g.least.length≤20)=b:=⟨_,rfl⟩
  obtain ⟨b3,hb3⟩:∃ b,decide (g.most.length≤20)=b:=⟨_,rfl⟩
  obtain ⟨b4,hb4⟩:∃ b,b1z g.least=b:=⟨_,rfl⟩
  obtain ⟨b5,hb5⟩:∃ b,b1z g.most=b:=⟨_,rfl⟩
  rw [hb1] at y1 hG;rw [hb2] at y2 hG;rw [hb3] at y3 hG;rw [hb4] at c1 hG;rw [hb5] at c2 hG;refine skI ?_;refine OkS.seq ?_;refine OkS.block ?_;refine sZ 1100 ?_;refine gwI kN ?_;refine ixI kT hmk ?_;refine gwI kN ?_;cases b1
  ·refine sZ 1200 ?_
   refine nwI (ff4 z1 y1 kT kF) ?_;refine gwI kB ?_
   try simp only [implies_true]
   refine gwI kB ?_
   try simp only [implies_true]
   refine gwI kB ?_
   try simp only [implies_true]
   refine gwI kB ?_;refine ifI ?_;refine sR 1300 ?_;refine rtI ?_;exact a0a (by rw [a4z hsk hG]) IsPure.out
  cases b2
  ·refine sZ 1200 ?_
   refine nwI (ff4 z1 y1 kT kF) ?_;refine gwI kB ?_
   try simp only [z2,y2,Bool.not_true,Bool.not_false,implies_true]
   refine gwI kB ?_
   try simp only [implies_true]
   refine gwI kB ?_
   try simp only [implies_true]
   refine gwI kB ?_;refine ifI ?_;refine sR 1300 ?_;refine rtI ?_;exact a0a (by rw [a4z hsk hG]) IsPure.out
  cases b3
  ·refine sZ 1200 ?_
   refine nwI (ff4 z1 y1 kT kF) ?_;refine gwI kB ?_
   try simp only [z2,y2,Bool.not_true,Bool.not_false,implies_true]
   refine gwI kB ?_
   try simp only [z3,y3,Bool.not_true,Bool.not_false,implies_true]
   refine gwI kB ?_
   try simp only [implies_true]
   refine gwI kB ?_;refine ifI ?_;refine sR 1300 ?_;refine rtI ?_;exact a0a (by rw [a4z hsk hG]) IsPure.out
  cases b4
  ·refine sZ 1200 ?_
   refine nwI (ff4 z1 y1 kT kF) ?_;refine gwI kB ?_
   try simp only [z2,y2,Bool.not_true,Bool.not_false,implies_true]
   refine gwI kB ?_
   try simp only [z3,y3,Bool.not_true,Bool.not_false,implies_true]
   refine gwI kB ?_;refine gcI kB ?_;refine a0j.same _ c1 inferInstance ?_;refine gwI kB ?_
   try simp only [implies_true]
   refine gwI kB ?_;refine ifI ?_;refine sR 1300 ?_;refine rtI ?_;exact a0a (by rw [a4z hsk hG]) IsPure.out
  cases b5
  ·refine sZ 1200 ?_
   refine nwI (ff4 z1 y1 kT kF) ?_;refine gwI kB ?_
   try simp only [z2,y2,Bool.not_true,Bool.not_false,implies_true]
   refine gwI kB ?_
   try simp only [z3,y3,Bool.not_true,Bool.not_false,implies_true]
   refine gwI kB ?_;refine gcI kB ?_;refine a0j.same _ c1 inferInstance ?_;refine gwI kB ?_
   try simp only [implies_true]
   refine gwI kB ?_;refine gcI kB ?_;refine a0j.same _ c2 inferInstance ?_;refine gwI kB ?_
   try simp only [implies_true]
   refine ifI ?_;refine sR 1300 ?_;refine rtI ?_;exact a0a (by rw [a4z hsk hG]) IsPure.out
  refine sZ 1200 ?_;refine nwI (ff4 z1 y1 kT kF) ?_;refine gwI kB ?_
  try simp only [z2,y2,Bool.not_true,Bool.not_false,implies_true]
  refine gwI kB ?_
  try simp only [z3,y3,Bool.not_true,Bool.not_false,implies_true]
  refine gwI kB ?_;refine gcI kB ?_;refine a0j.same _ c1 inferInstance ?_;refine gwI kB ?_
  try simp only [implies_true]
  refine gwI kB ?_;refine gcI kB ?_;refine a0j.same _ c2 inferInstance ?_;refine gwI kB ?_
  try simp only [implies_true]
  refine ifI ?_;refine skI ?_;refine OkS.reg w1 1400 (by kernel_rfl) ?_;refine nwI wi ?_;exact ⟨(k+1,_),⟨hk2,a7A hsk ha hG⟩,by dsimp only;omega,wkI⟩
 have hk2:k=m:=by
  have:=of_decide_eq_false hlt2
  omega
 subst hk2;rw [show s.gs.all a7a=true by rw [← ha,← hml,List.take_length]];refine exI ?_;refine sR 1500 ?_;refine rtI ?_;exact a0a rfl IsPure.out
open Go.ChangeShapes Go.WideShapes
def stF (P:Program)(t:Nat):Option (List (Nat × Nat × Nat)):=match P.underlying t with
 | some (.struct fs)=>some (fs.toList.map fun f=>(f.type,f.offset,P.cellsOf f.type))
 | _=>none
section
variable {H:Type} {enc:TypeId × Value→H} {W:World} {fuel:Nat} {cs:List Value} {x:DataW H × List MemPlace} {t:TypeId}
theorem b5V {l:List (Nat × Nat × Nat)}{m:Nat}(hs:stF Tryz.prog t=some l)(hm:Tryz.prog.cellsOf t=m)(h:DataW.trod enc Tryz.prog W 0 (fun _=>true) true fuel t cs=some x) :
  cs.length=m∧∃ n,∀ (i u off k:Nat),l[i]? = some (u,off,k)→∃ y,DataW.trod enc Tryz.prog W 0 (fun _=>true) true n u ((cs.drop off).take k)=some y:=by
 unfold stF at hs;split at hs
 ·rename_i fs hu
  obtain ⟨h1,n,h2⟩:=b7g hu h;refine ⟨h1.trans hm,n,fun i u off k hl=>?_⟩;obtain rfl:=Option.some.inj hs;rw [List.getElem?_map] at hl;obtain ⟨f,hf,he⟩:=Option.map_eq_some_iff.1 hl;cases he;exact h2 i f (by rw [← Array.getElem?_toList];exact hf)
 ·cases hs
theorem a4N {a b c:Nat}{p q:List D}(h:a6O W ((cs.drop a).take b) p)(k:a6O W ((cs.drop (a+b)).take c) q):a6O W ((cs.drop a).take (b+c)) (p++q):=by
 rw [List.take_add,List.drop_drop];exact h.append k
theorem a9w {n:Nat}{p:List D}(hn:cs.length=n)(h:a6O W ((cs.drop 0).take n) p):a6O W cs p:=by
 rw [List.drop_zero,← hn,List.take_length] at h;exact h
theorem b1L (h:DataW.trod enc Tryz.prog W 0 (fun _=>true) true fuel 24 cs=some x):∃ l:List UInt8,a6O W cs (str (sb l)).cells∧l.length≤maxLen:=c4r (by kernel_rfl) h
theorem a8S (h:DataW.trod enc Tryz.prog W 0 (fun _=>true) true fuel 9 cs=some x):∃ l:List UInt8,a6O W cs [str (sb l)]∧l.length≤maxLen:=c4r (by kernel_rfl) h
theorem b4d (h:DataW.trod enc Tryz.prog W 0 (fun _=>true) true fuel 40 cs=some x):∃ l:List (List UInt8),a6O W cs [.sl false 1 (l.map fun l=>str (sb l))]∧(∀ a∈l,a.length≤maxLen)∧l.length≤maxLen :=
 c1a (g:=fun l:List UInt8=>str (sb l)) (ok:=fun l=>l.length≤maxLen) (e:=24) (by kernel_rfl) (by kernel_rfl) (by decide) (fun _ _ _ h=>b1L h) h
theorem b9R (h:DataW.trod enc Tryz.prog W 0 (fun _=>true) true fuel 96 cs=some x):∃ f:a1R,a6O W cs f.D.cells∧True:=by
 obtain ⟨h1,n,h2⟩:=b5V (l:=[(9,0,1),(24,1,1),(94,2,2)]) (m:=4) (by kernel_rfl) (by kernel_rfl) h;obtain ⟨y0,k0⟩:=h2 0 _ _ _ rfl;obtain ⟨y1,k1⟩:=h2 1 _ _ _ rfl;obtain ⟨y2,k2⟩:=h2 2 _ _ _ rfl;obtain ⟨a0,r0,_⟩:=a8S k0;obtain ⟨a1,r1,_⟩:=b1L k1;obtain ⟨h3,n',h4⟩:=b5V (l:=[(9,0,1),(24,1,1)]) (m:=2) (by kernel_rfl) (by kernel_rfl) k2;obtain ⟨z0,j0⟩:=h4 0 _ _ _ rfl;obtain ⟨z1,j1⟩:=h4 1 _ _ _ rfl;obtain ⟨b0,s0,_⟩:=a8S j0;obtain ⟨b1,s1,_⟩:=b1L j1;exact ⟨⟨a0,a1,b0,b1⟩,a9w h1 (a4N (b:=1) (c:=3) r0 (a4N (b:=1) (c:=2) r1 (a9w h3 (a4N (b:=1) (c:=1) s0 s1)))),trivial⟩
def d4Q (g:a1k):Prop:=g.least.length≤maxLen∧g.most.length≤maxLen
theorem c1X (h:DataW.trod enc Tryz.prog W 0 (fun _=>true) true fuel 56 cs=some x):∃ g:a1k,a6O W cs g.D.cells∧d4Q g:=by
 obtain ⟨h1,n,h2⟩:=b5V (l:=[(9,0,1),(40,1,1),(40,2,1)]) (m:=3) (by kernel_rfl) (by kernel_rfl) h;obtain ⟨y0,k0⟩:=h2 0 _ _ _ rfl;obtain ⟨y1,k1⟩:=h2 1 _ _ _ rfl;obtain ⟨y2,k2⟩:=h2 2 _ _ _ rfl;obtain ⟨a0,r0,_⟩:=a8S k0;obtain ⟨a1,r1,_,l1⟩:=b4d k1;obtain ⟨a2,r2,_,l2⟩:=b4d k2;exact ⟨⟨a0,a1,a2⟩,a9w h1 (a4N (b:=1) (c:=2) r0 (a4N (b:=1) (c:=1) r1 r2)),l1,l2⟩
theorem b8B (h:DataW.trod enc Tryz.prog W 0 (fun _=>true) true fuel 39 cs=some x):∃ s:a1K,a6O W cs s.D.cells∧s.fit:=by
 obtain ⟨h1,n,h2⟩:=b5V (l:=[(36,0,1),(37,1,1)]) (m:=2) (by kernel_rfl) (by kernel_rfl) h;obtain ⟨y0,k0⟩:=h2 0 _ _ _ rfl;obtain ⟨y1,k1⟩:=h2 1 _ _ _ rfl;obtain ⟨a0,r0,_,l0⟩:=c1a (g:=a1R.D) (ok:=fun _=>True) (e:=96) (sz:=4) (by kernel_rfl) (by kernel_rfl) (by decide) (fun _ _ _ h=>b9R h) k0;obtain ⟨a1,r1,g1,l1⟩:=c1a (g:=a1k.D) (ok:=d4Q) (e:=56) (sz:=3) (by kernel_rfl) (by kernel_rfl) (by decide) (fun _ _ _ h=>c1X h) k1;have hM:maxLen≤9223372036854775807:=by decide
 exact ⟨⟨a0,a1⟩,a9w h1 (a4N (b:=1) (c:=1) r0 r1),by dsimp only;omega,by dsimp only;omega,fun g hg=>⟨Nat.le_trans (g1 g hg).1 hM,Nat.le_trans (g1 g hg).2 hM⟩⟩
end
def a3n (a b:List UInt8):D:=.agg (c9C (decide (a=[])) (decide (b=[])) a b)
instance  (a b:List UInt8):CellsPure (a3n a b):=by unfold a3n;exact inferInstance
instance  (a b:List UInt8):IsPure (a3n a b):=by unfold a3n;exact inferInstance
theorem ltT {i n:Nat}(h:i<n):decide ((i:Int)<(n:Int))=true:=decide_eq_true (by omega)
theorem ltF {i n:Nat}(h:n≤i):decide ((i:Int)<(n:Int))=false:=decide_eq_false (by omega)
theorem wiI {i:Nat}(h:i<9223372036854775807):IntKind.i64.wrap ((i:Int)+1)=((i+1:Nat):Int):=wI (by omega) (by omega)
abbrev LP:=List UInt8 × List UInt8
def pv (r:List LP)(k:Nat):LP:=r.getD k ([],[])
def b4U (r:List LP):D:=.sl false 10 (r.map fun p=>a3n p.1 p.2)
instance  (r:List LP):CellsPure (b4U r):=by unfold b4U;exact inferInstance
instance  (r:List LP):IsPure (b4U r):=by unfold b4U;exact inferInstance
abbrev b6B (n:Nat)(G:List (List LP)):D:=.agg [i64 (n:Int),.sl false 1 (G.map b4U)]
structure c2Q (n:Nat)(G:List (List LP)):Prop where
 num:n≤1000
 len:G.length≤1000
 row:∀ r∈G,r.length=n∧∀ p∈r,a2t p.1=0∧a2t p.2=0
theorem a1Y {α:Type}{l:List α}{i:Nat}(h:i<l.length):∃ x,l[i]? = some x:=⟨l[i],List.getElem?_eq_getElem h⟩
theorem a5C {α:Type}{l:List α}{Q:α→Prop}{i:Nat}{x:α}(hx:l[i]? = some x)(ha:∀ (j:Nat) (y:α),j<i→l[j]? = some y→Q y)(h:Q x):∀ (j:Nat) (y:α),j<i+1→l[j]? = some y→Q y:=fun j y hj hy=>by
 rcases Nat.lt_or_ge j i with h1|h1
 ·exact ha j y h1 hy
 ·have:j=i:=by omega
  subst this;rw [hx] at hy;cases hy;exact h
theorem b4i {r:List LP}{k:Nat}(h:k<r.length):r[k]? = some (pv r k):=by
 unfold pv;rw [List.getD_eq_getElem?_getD,List.getElem?_eq_getElem h];rfl
abbrev txD (b:Bool)(v:List (List UInt8)):D:=.sl b 1 (v.map fun l=>str (sb l))
def frD (v:List (List UInt8)):D:=.sl false 4 (v.map fun l=>(a1E l).D)
instance  (l:List UInt8):CellsPure (a1E l).D:=by unfold GF.D;exact inferInstance
instance  (v:List (List UInt8)):CellsPure (frD v):=by unfold frD;exact inferInstance
instance  (v:List (List UInt8)):IsPure (frD v):=by unfold frD;exact inferInstance
theorem a2w {v:List (List UInt8)}(h:a1J v=0):∀ l∈v,chk l=0:=by
 induction v with
 | nil=>intro l hl;cases hl
 | cons a r ih =>
  have h':(if chk a≠0 then chk a else a1J r)=0:=h
  by_cases g:chk a=0
  ·rw [if_neg (fun k=>k g)] at h'
   intro l hl;rcases List.mem_cons.1 hl with rfl|h2
   ·exact g
   ·exact ih h' l h2
  ·rw [if_pos g] at h';exact absurd h' g
theorem b7c {v:List (List UInt8)}{i:Nat}{l:List UInt8}(ha:∀ (j:Nat) (y:List UInt8),j<i→v[j]? = some y→chk y=0)(hl:v[i]? = some l)(h:chk l≠0):a1J v=chk l:=by
 rw [a3Z ha,List.drop_eq_getElem_cons (List.getElem?_eq_some_iff.1 hl).1,(List.getElem?_eq_some_iff.1 hl).2];exact if_pos h
theorem b6f {v:List (List UInt8)}(ha:∀ (j:Nat) (y:List UInt8),j<v.length→v[j]? = some y→chk y=0):a1J v=0:=by
 rw [a3Z (i:=v.length) ha,List.drop_length];rfl
theorem c9A {v:List (List UInt8)}{i:Nat}{l:List UInt8}(h:v[i]? = some l):lv v i=l:=by
 unfold lv;rw [List.getD_eq_getElem?_getD,h];rfl
theorem b5O (b:Bool)(v:List (List UInt8))(hl:v.length≤100000)(hf:∀ l∈v,l.length≤100000)(hc:a1J v=0):a0b C0 108 [txD b v] (frD v):=by
 refine a0c.walk w1 c3p rfl fun F=>?_
 have el:(((v.map fun l=>str (sb l)).length:Nat):Int)=(v.length:Int):=by rw [List.length_map]
 refine goI dr0 (ff2 el kN) trivial trivial trivial trivial trivial trivial ?_;refine OkS.loop (α:=Nat × List D × Nat) (fun p=>⟨[(3,.osl 102 3 4 0 v.length),(9,txD b v),(10,i64 (v.length:Int)),(11,i64 (p.1:Int))],[⟨102,3,113,4,p.2.1⟩],p.2.2⟩) (fun p=>v.length - p.1)
  (fun p=>p.1≤v.length∧p.2.1.length=v.length∧∀ (j:Nat) (l:List UInt8),j<p.1→v[j]? = some l→p.2.1[j]? = some (a1E l).D) (0,List.replicate v.length (.agg [i64 0,a2h,i64 0,a2h]),_) ⟨Nat.zero_le _,List.length_replicate,fun j r hj=>absurd hj (Nat.not_lt_zero j)⟩ wkI ?_
 rintro ⟨i,L,m⟩ F ⟨hi,hL,ha⟩;dsimp only at hi hL ha ⊢;rcases Nat.lt_or_ge i v.length with h2|h2
 ·have e0:=ltT h2
  have wi:=wiI (i:=i) (by omega);obtain ⟨l,hl2⟩:=a1Y h2;have hm:(v.map fun l=>str (sb l))[i]? = some (str (sb l)):=by rw [List.getElem?_map,hl2];rfl
  have hmem:=List.mem_of_getElem? hl2;have c:=a7f (hf l hmem) (a2w hc l hmem);obtain ⟨z,hz⟩:∃ z,L[i]? = some z:=a1Y (by omega);refine goI dr0 (ff5 e0 wi hz kN Nat.zero_add) hm c trivial trivial trivial trivial ?_;refine ⟨(i+1,L.set i (a1E l).D,_),⟨h2,by rw [List.length_set];exact hL,fun j y hj hy=>?_⟩,by dsimp only;omega,wkI⟩;dsimp only at hj ⊢;rcases Nat.decEq j i with hne|rfl
  ·rw [List.getElem?_set_ne (fun h=>hne h.symm)];exact ha j y (by omega) hy
  ·rw [List.getElem?_set_self (by omega)]
   rw [hl2] at hy;cases hy;rfl
 ·have e0:=ltF h2
  have:i=v.length:=by omega
  subst this;have hLe:L=v.map fun l=>(a1E l).D:=List.ext_getElem? fun j=>by
   rw [List.getElem?_map];rcases Nat.lt_or_ge j v.length with h|h
   ·obtain ⟨y,hy⟩:=a1Y h
    rw [hy,ha j y h hy];rfl
   ·rw [List.getElem?_eq_none (by omega),List.getElem?_eq_none h];rfl
  refine goI dr0 e0 trivial trivial trivial trivial trivial trivial ?_;have hz:=a9I 102 3 113 4 L;rw [hL] at hz;exact ⟨_,hz,by rw [hLe];exact (inferInstance:IsPure (frD v)).out,by rw [hLe];rfl⟩
def a2M (n:Nat)(v:List (List UInt8)):Nat:=if v.length=n then a1J v else 2
def b1H (n:Nat)(v:List (List UInt8)):D:=if a2M n v=0 then frD v else a2h
instance  (n:Nat)(v:List (List UInt8)):IsPure (b1H n v):=by unfold b1H;split<;>exact inferInstance
theorem d4N {a b:Nat}(h:a≠b):(((a:Nat):Int) != (b:Int))=true:=by
 have:(((a:Nat):Int)==(b:Int))=false:=beq_eq_false_iff_ne.2 (by omega)
 unfold bne;rw [this];rfl
theorem d3B {a b:Nat}(h:a=b):(((a:Nat):Int) != (b:Int))=false:=by subst h;simp
theorem b2F {a:Nat}(h:a≠0):(((a:Nat):Int) != 0)=true:=a3D (by omega)
theorem b6h {a:Nat}(h:a=0):(((a:Nat):Int) != 0)=false:=by subst h;rfl
theorem c7n {a:Nat}(h:a≠0):(((a:Nat):Int)==0)=false:=beq_eq_false_iff_ne.2 (by omega)
theorem d1M {a:Nat}(h:a=0):(((a:Nat):Int)==0)=true:=by subst h;rfl
def Few (v:List (List UInt8)):Prop:=v.length≤100000∧∀ l∈v,l.length≤100000
theorem b8j (n:Nat)(G:List (List LP))(hG:c2Q n G)(b:Bool)(v:List (List UInt8))(hf:Few v):a0b C0 130 [b6B n G,txD b v] (.tup [b1H n v,i64 (a2M n v:Nat)]):=by
 refine a0c.walk w1 c4o rfl fun F=>?_
 have el:(((v.map fun l=>str (sb l)).length:Nat):Int)=(v.length:Int):=by rw [List.length_map]
 have hn:=hG.num;rcases Nat.decEq v.length n with h1|h1
 ·have e0:=d4N h1
  have hv:a2M n v=2:=if_neg h1;have hd:b1H n v=a2h:=if_neg (by rw [hv];decide);rw [hv,hd];refine goI dr0 (ff2 el e0) trivial trivial trivial trivial trivial trivial ?_;exact a0a rfl IsPure.out
 ·have e0:=d3B h1
  have hv:a2M n v=a1J v:=if_pos h1;have hvd:a1J v≠0→b1H n v=a2h:=fun h=>if_neg (by rw [hv];exact h)
  have hvz:a1J v=0→b1H n v=frD v:=fun h=>if_pos (by rw [hv];exact h)
  rw [hv];refine goI dr0 (ff2 el e0) trivial trivial trivial trivial trivial trivial ?_;refine OkS.loop (α:=Nat × Nat) (fun p=>⟨[(1,txD b v),(14,txD b v),(15,i64 (v.length:Int)),(16,i64 (p.1:Int))],[],p.2⟩) (fun p=>v.length - p.1)
   (fun p=>p.1≤v.length∧∀ (j:Nat) (l:List UInt8),j<p.1→v[j]? = some l→chk l=0) (0,_) ⟨Nat.zero_le _,fun j r hj=>absurd hj (Nat.not_lt_zero j)⟩ wkI ?_
  rintro ⟨i,m⟩ F ⟨hi,ha⟩;dsimp only at hi ha ⊢;have hl:=hf.1;rcases Nat.lt_or_ge i v.length with h2|h2
  ·have e1:=ltT h2
   have wi:=wiI (i:=i) (by omega);obtain ⟨l,hl2⟩:=a1Y h2;have hm:(v.map fun l=>str (sb l))[i]? = some (str (sb l)):=by rw [List.getElem?_map,hl2];rfl
   have c:=a4Y l (hf.2 l (List.mem_of_getElem? hl2));rcases Nat.decEq (chk l) 0 with h3|h3
   ·have e2:=b2F h3
    have hr:=b7c ha hl2 h3;rw [hr,hvd (by rw [hr];exact h3)];refine goI dr0 (ff3 e1 e2 kN) hm c trivial trivial trivial trivial ?_;exact a0a rfl IsPure.out
   ·have e2:=b6h h3
    refine goI dr0 (ff4 e1 e2 wi kN) hm c trivial trivial trivial trivial ?_;exact ⟨(i+1,_),⟨h2,a5C hl2 ha h3⟩,by dsimp only;omega,wkI⟩
  ·have e1:=ltF h2
   have:i=v.length:=by omega
   subst this;have hr:=b6f ha;have c:=b5O b v hf.1 hf.2 hr;rw [hr,hvz hr];refine goI dr0 e1 c trivial trivial trivial trivial trivial ?_;exact a0a rfl IsPure.out
theorem b1v {H Hf:Hp}{K g T sz:Nat}{l:List D}(h:l=[]∨Hp.get H K=some ⟨K,g,T,sz,l⟩)(hf:Hp.get Hf K=none):Fz H Hf (a9e K g sz l) (.sl false sz l):=by
 cases l with
 | nil=>exact .nil sz
 | cons x l =>
  rcases h with h|h
  ·cases h
  refine .osl (e:=⟨K,g,T,sz,x::l⟩) h hf rfl rfl (by simp) (by simp) (fun j d d' h1 h2=>?_) fun j d d' q c c' h1 h2 h3 h4=>?_
  ·rw [Nat.zero_add] at h1;rw [h1] at h2;cases h2;rfl
  ·rw [Nat.zero_add] at h1;rw [h1] at h2;cases h2;rw [h3] at h4;cases h4;exact Fz.refl _
theorem b7H {H Hf r r':Hp}{K g T sz:Nat}{l:List D}(h:FzH H Hf r r'):FzH H Hf (a7d K g T sz l++r) r':=by
 cases l with
 | nil=>exact h
 | cons x l=>exact .drop h
theorem b4u {K g T sz:Nat}{l:List D}{H:Hp}:l=[]∨Hp.get (a7d K g T sz l++H) K=some ⟨K,g,T,sz,l⟩:=by
 cases l with
 | nil=>exact .inl rfl
 | cons x l=>right;simp [a7d,Hp.get]
theorem c2f {K k g T sz:Nat}{l:List D}(h:Nat.beq K k=false):Hp.get (a7d K g T sz l) k=none:=by
 cases l with
 | nil=>rfl
 | cons x l=>simp [a7d,Hp.get,h]
def a1q (s:a1K):List (List LP):=s.gs.map fun g=>g.least.zip g.most
def c6p (s:a1K):Prop:=s.fs.length≤8∧s.gs.length≤16∧∀ g∈s.gs,gOk s.fs.length g
theorem b9X {g:a1k}{n k:Nat}(h:gOk n g)(hk:k<n):(g.least.zip g.most)[k]? = some (lv g.least k,lv g.most k):=by
 rw [List.getElem?_zip_eq_some];exact ⟨a4x (by rw [h.1];exact hk),a4x (by rw [h.2.1];exact hk)⟩
theorem b0H {g:a1k}{n:Nat}(h:gOk n g):(g.least.zip g.most).length=n:=by rw [List.length_zip,h.1,h.2.1];exact Nat.min_self n
theorem b1l {s:a1K}(h:c6p s):c2Q s.fs.length (a1q s):=by
 refine ⟨by have:=h.1;omega,by unfold a1q;rw [List.length_map];have:=h.2.1;omega,fun r hr=>?_⟩;obtain ⟨g,hg,rfl⟩:=List.mem_map.1 hr;have hk:=h.2.2 g hg;refine ⟨b0H hk,fun p hp=>?_⟩;obtain ⟨k,hk1,e⟩:=List.getElem_of_mem hp;rw [b0H hk] at hk1
 have:=b9X hk hk1
 rw [List.getElem?_eq_getElem (by rw [b0H hk];exact hk1),e] at this;cases this;exact hk.2.2 k hk1
theorem a2A {s:a1K}(h:a0p s=0):c6p s:=by
 unfold a0p at h
 by_cases h1:b2E s.fs.length=0
 ·rw [if_neg (fun k=>k h1)] at h
  by_cases h2:a8M (a1S s.fs) s.fs.length=0
  ·rw [if_neg (fun k=>k h2)] at h
   by_cases h3:b1Y s.gs.length=0
   ·rw [if_neg (fun k=>k h3)] at h
    refine ⟨?_,?_,fun g hg=>?_⟩
    ·unfold b2E at h1
     by_cases q:s.fs.length=0
     ·omega
     ·rw [if_neg q] at h1
      by_cases q2:s.fs.length>8
      ·rw [if_pos q2] at h1;cases h1
      ·omega
    ·unfold b1Y at h3
     by_cases q:s.gs.length=0
     ·omega
     ·rw [if_neg q] at h3
      by_cases q2:s.gs.length>16
      ·rw [if_pos q2] at h3;cases h3
      ·omega
    ·obtain ⟨i,hi,e⟩:=List.getElem_of_mem hg
     have:=a5w (a7H h i hi)
     rw [List.getD_eq_getElem?_getD,List.getElem?_eq_getElem hi,e] at this;exact this
   ·rw [if_pos h3] at h;exact absurd h h3
  ·rw [if_pos h2] at h;exact absurd h h2
 ·rw [if_pos h1] at h;exact absurd h h1
def a7v (s:a1K):D:=if a0p s=0 then b6B s.fs.length (a1q s) else .agg [i64 0,a2h]
instance  (s:a1K):IsPure (a7v s):=by unfold a7v;split<;>exact inferInstance
abbrev a4M:Dr:=[(12,[0,1,2,3,4,5,6,7,8,9,10,11,12,13,14],[15,16])]
open Go.Proofs Go.RowKit
set_option maxRecDepth 20000
set_option maxHeartbeats 4000000
theorem c5r (s:a1K)(hs:s.few):a0b C0 95 [s.D] (.tup [a7v s,i64 (a0p s:Nat)]):=by
 refine a0c.walk w1 d1x rfl fun F=>?_
 have c1:=d5s s hs;have el1:(((s.fs.map a1R.D).length:Nat):Int)=(s.fs.length:Int):=by rw [List.length_map]
 have el2:(((s.gs.map a1k.D).length:Nat):Int)=(s.gs.length:Int):=by rw [List.length_map]
 unfold a1K.D at c1 ⊢;rcases Nat.decEq (a0p s) 0 with h0|h0
 ·have e0:=b2F h0
  have hd:a7v s=.agg [i64 0,a2h]:=if_neg h0;rw [hd];refine goI a4M e0 c1 trivial trivial trivial trivial trivial ?_;exact a0a rfl IsPure.out
 have e0:=b6h h0;have hd:a7v s=b6B s.fs.length (a1q s):=if_pos h0;have hok:=a2A h0;have hG:=b1l hok;rw [hd];rw [h0] at c1 e0 ⊢;obtain ⟨h8,h16,hgo⟩:=hok;obtain ⟨gsD,hgsD⟩:∃ x,s.gs.map a1k.D=x:=⟨_,rfl⟩
 obtain ⟨fsD,hfsD⟩:∃ x,s.fs.map a1R.D=x:=⟨_,rfl⟩
 obtain ⟨n,hn⟩:∃ n,s.fs.length=n:=⟨_,rfl⟩
 obtain ⟨N,hN⟩:∃ n,s.gs.length=n:=⟨_,rfl⟩
 have hrows:∀ i g,s.gs[i]? = some g→(a1q s).take (i+1)=(a1q s).take i++[g.least.zip g.most]:=fun i g h=>by
  rw [List.take_add_one]
  congr 1
  unfold a1q;rw [List.getElem?_map,h];rfl
 have hgl:(a1q s).length=N:=by unfold a1q;rw [List.length_map,hN]
 have hfew:=hs.2.2.2;rw [hgsD,hN] at el2;rw [hfsD,hn] at el1;rw [hn] at hgo h8 ⊢;rw [hN] at h16;rw [hgsD,hfsD] at c1 ⊢;have pf:IsPure (.sl false 4 fsD):=by rw [← hfsD];exact inferInstance
 have pg:IsPure (.sl false 3 gsD):=by rw [← hgsD];exact inferInstance
 generalize hR0:a1q s=G at *;refine goI a4M (ff3 e0 el1 el2) c1 trivial trivial trivial trivial trivial ?_;refine OkS.loop (α:=Nat × List D × Nat × Nat) (fun p=>⟨[(1,.optr 0 0 2 0 0),(2,.optr 1 1 2 0 0),(5,.optr 404 12 2 0 0),(21,.sl false 3 gsD),(22,i64 (N:Int)),(23,i64 (p.1:Int))],
   [⟨404,12,134,2,[.agg [i64 (n:Int),a9e 1404 p.2.2.1 1 p.2.1]]⟩,⟨1,1,134,2,[.agg [i64 0,a2h]]⟩,⟨0,0,39,2,[.agg [.sl false 4 fsD,.sl false 3 gsD]]⟩]++a7d 1404 p.2.2.1 141 1 p.2.1,p.2.2.2⟩) (fun p=>N - p.1)
  (fun p=>p.1≤N∧p.2.1=(G.take p.1).map b4U) (0,[],0,_) ⟨Nat.zero_le _,rfl⟩ wkI ?_
 rintro ⟨i,R,g2,m⟩ F ⟨hi,hR⟩;dsimp only at hi hR ⊢;rcases Nat.lt_or_ge i N with h2|h2
 rotate_left
 ·have e1:=ltF h2
  have:i=N:=by omega
  subst this;have hRG:R=G.map b4U:=by rw [hR,← hgl,List.take_length]
  refine goI a4M e1 trivial trivial trivial trivial trivial trivial ?_;refine ⟨.tup [b6B n G,i64 0],.tup rfl fun j d d' h1 h2=>?_,IsPure.out,rfl⟩;rcases j with _|_|j
  ·cases h1;cases h2
   refine .agg rfl fun j d d' h1 h2=>?_
   rcases j with _|_|j
   ·cases h1;cases h2;exact .refl _
   ·cases h1;cases h2
    rw [← hRG];exact b1v (by cases R with|nil=>exact .inl rfl|cons x l=>right;rfl) rfl
   ·simp at h1
  ·cases h1;cases h2;exact .refl _
  ·simp at h1
 have e1:=ltT h2;have wi:=wiI (i:=i) (by omega);obtain ⟨g,hg⟩:∃ g,s.gs[i]? = some g:=a1Y (by omega);have hm:gsD[i]? = some (.agg [str (sb g.name),.sl false 1 (g.least.map fun l=>str (sb l)),.sl false 1 (g.most.map fun l=>str (sb l))]):=by rw [← hgsD,List.getElem?_map,hg];rfl
 have hgk:=hgo g (List.mem_of_getElem? hg);have hgf:=hfew g (List.mem_of_getElem? hg);have hrow:=hrows i g hg;obtain ⟨A,hA⟩:∃ A,a9e 1404 g2 1 R=A:=⟨_,rfl⟩
 obtain ⟨HH,hHH⟩:∃ A,a7d 1404 g2 141 1 R=A:=⟨_,rfl⟩
 have hget:∀ k,Nat.beq 1404 k=false→Hp.get HH k=none:=fun k hk=>by rw [← hHH];exact c2f hk
 obtain ⟨P,hP⟩:∃ P,g.least.zip g.most=P:=⟨_,rfl⟩
 have hPl:P.length=n:=by rw [← hP];exact b0H hgk
 rw [hP] at hrow;rw [hA,hHH];refine goI a4M (ff2 e1 el1) hm trivial trivial trivial trivial trivial ?_;have hzip:∀ k,k<n→P[k]? = some (lv g.least k,lv g.most k):=fun k hk=>by rw [← hP];exact b9X hgk hk
 refine OkS.loop (α:=Nat × List D × Nat × Nat × Nat) (fun p=>⟨[(1,.optr 0 0 2 0 0),(2,.optr 1 1 2 0 0),(5,.optr 404 12 2 0 0),(7,.optr 702 p.2.2.2.1 3 0 0),(8,a9e 1215 p.2.2.1 10 p.2.1),(21,.sl false 3 gsD),(22,i64 (N:Int)),(23,i64 (i:Int)),(29,i64 (n:Int)),(30,i64 (p.1:Int))],
   a7d 1215 p.2.2.1 140 10 p.2.1++([⟨702,p.2.2.2.1,56,3,[.agg [str (sb g.name),.sl false 1 (g.least.map fun l=>str (sb l)),.sl false 1 (g.most.map fun l=>str (sb l))]]⟩,⟨404,12,134,2,[.agg [i64 (n:Int),A]]⟩,⟨1,1,134,2,[.agg [i64 0,a2h]]⟩,⟨0,0,39,2,[.agg [.sl false 4 fsD,.sl false 3 gsD]]⟩]++HH),p.2.2.2.2⟩) (fun p=>n - p.1)
  (fun p=>p.1≤n∧p.2.1=(P.take p.1).map fun p=>a3n p.1 p.2) (0,[],0,_,_) ⟨Nat.zero_le _,rfl⟩ wkI ?_
 rintro ⟨k,L,g3,g4,m3⟩ F ⟨hk,hL⟩;dsimp only at hk hL ⊢;rcases Nat.lt_or_ge k n with h3|h3
 ·have e2:=ltT h3
  have wk:=wiI (i:=k) (by omega);have m1:=a3x (l:=g.least) (k:=k) (by rw [hgk.1];exact h3);have m2:=a3x (l:=g.most) (k:=k) (by rw [hgk.2.1];exact h3);have f1:=a5I (l:=g.least) (k:=k) (by rw [hgk.1];exact h3) hgf.2.2.2.1;have f2:=a5I (l:=g.most) (k:=k) (by rw [hgk.2.1];exact h3) hgf.2.2.2.2;have hE:=hgk.2.2 k h3;have hz:=hzip k h3;have hsn:(P.take (k+1)).map (fun p=>a3n p.1 p.2)=L++[a3n (lv g.least k) (lv g.most k)]:=by rw [hL,List.take_add_one,hz,List.map_append];rfl
  have hLl:L.length=k:=by rw [hL,List.length_map,List.length_take];omega
  have ca:=b0r _ f1 hE.1;have cb:=b0r _ f2 hE.2;have hLle:L.length≤8:=by omega
  clear hL;rcases L with _|⟨x,l⟩
  all_goals
   (try simp only [List.length_cons] at hLle)
   dsimp only [a3w,a3s,a2C,a2G]
  ·refine goI a4M (ff3 e2 wk kN) m1 m2 ca cb trivial trivial ?_
   exact ⟨(k+1,[a3n (lv g.least k) (lv g.most k)],_,_,_),⟨h3,hsn.symm⟩,by dsimp only;omega,wkI⟩
  ·have htk:List.take (l.length+1) (x::l)=x::l:=by simp
   refine goI a4M (ff4 e2 wk htk kN) m1 m2 ca cb trivial trivial ?_;exact ⟨(k+1,x::l++[a3n (lv g.least k) (lv g.most k)],_,_,_),⟨h3,hsn.symm⟩,by dsimp only;omega,by (dsimp only;rw [a3d];exact wkI)⟩
 have e2:=ltF h3
 have:k=n:=by omega
 subst this;have hLr:L=P.map fun p=>a3n p.1 p.2:=by rw [hL,← hPl,List.take_length]
 refine sZ 1000 ?_;refine nwI e2 ?_;refine OkS.seq ?_;refine ifI ?_;refine exI ?_;refine OkS.weak ⟨[(1,.optr 0 0 2 0 0),(2,.optr 1 1 2 0 0),(5,.optr 404 12 2 0 0),(8,.sl false 10 (P.map fun p=>a3n p.1 p.2)),(21,.sl false 3 gsD),(22,i64 (N:Int)),(23,i64 (i:Int))],
   [⟨404,12,134,2,[.agg [i64 (k:Int),A]]⟩,⟨1,1,134,2,[.agg [i64 0,a2h]]⟩,⟨0,0,39,2,[.agg [.sl false 4 fsD,.sl false 3 gsD]]⟩]++HH,_⟩ ⟨?_,?_,Nat.le_refl _⟩ ?_
 ·exact b7H (.drop (.keep (.keep (.keep (a4Z _)))))
 ·refine ⟨.refl _,.refl _,.refl _,?_,.refl _,.refl _,.refl _,trivial⟩
  rw [← hLr];exact b1v b4u (hget _ rfl)
 clear hL hLr;have hsn:(G.take (i+1)).map b4U=R++[b4U P]:=by rw [hrow,List.map_append,← hR];rfl
 have hsr:b4U P=.sl false 10 (P.map fun p=>a3n p.1 p.2):=rfl;rw [hsr] at hsn;have hRl:R.length≤16:=by rw [hR,List.length_map,List.length_take];omega
 have pP:IsPure (b4U P):=inferInstance;rw [hsr] at pP;obtain ⟨PD,hPD⟩:∃ r,(P.map fun p=>a3n p.1 p.2)=r:=⟨_,rfl⟩
 rw [hPD] at pP ⊢;rw [hPD] at hsn;clear hR;rcases R with _|⟨x,l⟩
 ·subst hA hHH
  dsimp only [a3w,a3s,List.append_nil];refine rI 1400 ?_;refine OkS.perm (List.perm_append_comm (l₁:=[_]) (l₂:=[_,_,_])) ?_;refine goI a4M wi trivial trivial trivial trivial trivial trivial ?_;exact ⟨(i+1,[.sl false 10 PD],_,_),⟨h2,hsn.symm⟩,by dsimp only;omega,wkI⟩
 ·subst hA hHH
  have htk:List.take (l.length+1) (x::l)=x::l:=by simp
  simp only [List.length_cons] at hRl;dsimp only [a2C,a2G];refine OkS.reg w1 1400 (by kernel_rfl) ?_;refine nwI htk ?_;refine OkS.perm (List.perm_append_comm (l₁:=[_]) (l₂:=[_,_,_])) ?_;refine goI a4M wi trivial trivial trivial trivial trivial trivial ?_;exact ⟨(i+1,x::l++[.sl false 10 PD],_,_),⟨h2,hsn.symm⟩,by dsimp only;omega,by (dsimp only;rw [a3d];exact wkI)⟩
def unk (g:Int)(n:Nat):Nat:=if g<0∨(n:Int)≤g then 10 else 0
theorem a3X {g:Int}{n:Nat}(h:unk g n=0):∃ k:Nat,g=k∧k<n:=by
 unfold unk at h
 by_cases g1:g<0∨(n:Int)≤g
 ·rw [if_pos g1] at h;cases h
 ·exact ⟨g.toNat,by omega,by omega⟩
theorem d2p {g:Int}{n:Nat}(h:g<0):unk g n=10:=if_pos (.inl h)
theorem d2m {g:Int}{n:Nat}(h:(n:Int)≤g):unk g n=10:=if_pos (.inr h)
theorem d2l {g:Int}{n:Nat}(h:¬ g<0)(k:¬ (n:Int)≤g):unk g n=0:=if_neg fun q=>q.elim h k
def d2O (s:a1K)(v:List (List UInt8)):Nat:=if a0p s=0 then a2M s.fs.length v else a0p s
def a9k (s:a1K)(g:Int)(v:List (List UInt8)):Nat:=if a0p s=0 then (if unk g s.gs.length=0 then a2M s.fs.length v else unk g s.gs.length) else a0p s
theorem b6z (n:Nat)(G:List (List LP))(g:Int):a0b C0 129 [b6B n G,i64 g] (i64 (unk g G.length:Nat)):=by
 refine a0c.walk w1 c2M rfl fun F=>?_
 have el:(((G.map b4U).length:Nat):Int)=(G.length:Int):=by rw [List.length_map]
 by_cases h1:g<0
 ·have e1:decide (g<0)=true:=decide_eq_true h1
  refine goI dr0 e1 (a1B true 10) trivial trivial trivial trivial trivial ?_;rw [d2p h1];exact a0a rfl IsPure.out
 ·have e1:decide (g<0)=false:=decide_eq_false h1
  by_cases h2:(G.length:Int)≤g
  ·have e2:decide (g≥(G.length:Int))=true:=decide_eq_true h2
   refine goI dr0 (ff3 e1 e2 el) (a1B true 10) trivial trivial trivial trivial trivial ?_;rw [d2m h2];exact a0a rfl IsPure.out
  ·have e2:decide (g≥(G.length:Int))=false:=decide_eq_false h2
   refine goI dr0 (ff3 e1 e2 el) (a1B false 10) trivial trivial trivial trivial trivial ?_;rw [d2l h1 h2];exact a0a rfl IsPure.out
theorem b3P (n:Nat)(G:List (List LP))(g:Int):a0b C0 97 [b6B n G,i64 g] (i64 (unk g n:Nat)):=by
 refine a0c.walk w1 c7F rfl fun F=>?_
 by_cases h1:g<0
 ·have e1:decide (g<0)=true:=decide_eq_true h1
  refine goI dr0 e1 (a1B true 10) trivial trivial trivial trivial trivial ?_;rw [d2p h1];exact a0a rfl IsPure.out
 ·have e1:decide (g<0)=false:=decide_eq_false h1
  by_cases h2:(n:Int)≤g
  ·have e2:decide (g≥(n:Int))=true:=decide_eq_true h2
   refine goI dr0 (ff2 e1 e2) (a1B true 10) trivial trivial trivial trivial trivial ?_;rw [d2m h2];exact a0a rfl IsPure.out
  ·have e2:decide (g≥(n:Int))=false:=decide_eq_false h2
   refine goI dr0 (ff2 e1 e2) (a1B false 10) trivial trivial trivial trivial trivial ?_;rw [d2l h1 h2];exact a0a rfl IsPure.out
def c0Y (e:Nat)(v:List (List UInt8)):D:=if e=0 then frD v else a2h
instance  (e:Nat)(v:List (List UInt8)):IsPure (c0Y e v):=by unfold c0Y;split<;>exact inferInstance
theorem b1R (s:a1K):∃ x y,a7v s=.agg [i64 x,y]:=by
 unfold a7v;split
 ·exact ⟨_,_,rfl⟩
 ·exact ⟨_,_,rfl⟩
theorem b1n (s:a1K):(a1q s).length=s.gs.length:=List.length_map ..
theorem b1F (s:a1K)(hs:s.few)(g:Int)(b:Bool)(v:List (List UInt8))(hf:Few v):a0b C0 66 [s.D,i64 g,txD b v] (.tup [a7v s,c0Y (a9k s g v) v,i64 (a9k s g v:Nat)]):=by
 refine a0c.walk w1 d1Q rfl fun F=>?_
 have c1:=c5r s hs;obtain ⟨q,hq⟩:∃ q,a9k s g v=q:=⟨_,rfl⟩
 rw [hq];unfold a1K.D at c1 ⊢;rcases Nat.decEq (a0p s) 0 with h0|h0
 ·have e0:=b2F h0
  have e1:=c7n h0;have hd:a7v s=.agg [i64 0,a2h]:=if_neg h0;have hv:q=a0p s:=by rw [← hq];exact if_neg h0
  have hd2:c0Y q v=a2h:=if_neg (by rw [hv];exact h0);rw [hd2,hd];rw [hd] at c1;refine goI dr0 (ff2 e0 e1) c1 trivial trivial trivial trivial trivial ?_;exact a0a (by rw [hv]) IsPure.out
 have e0:=d1M h0;have hd:a7v s=b6B s.fs.length (a1q s):=if_pos h0;have cg:=b6z s.fs.length (a1q s) g;rw [b1n] at cg;rcases Nat.decEq (unk g s.gs.length) 0 with h1|h1
 ·have e1:=b2F h1
  have hv:q=unk g s.gs.length:=by rw [← hq];unfold a9k;rw [if_pos h0,if_neg h1]
  have hd2:c0Y q v=a2h:=if_neg (by rw [hv];exact h1);rw [hd2,hd];rw [hd] at c1;refine goI dr0 (ff2 e0 e1) c1 cg trivial trivial trivial trivial ?_;exact a0a (by rw [hv]) IsPure.out
 ·have e1:=b6h h1
  have hv:a2M s.fs.length v=q:=by rw [← hq];unfold a9k;rw [if_pos h0,if_pos h1]
  have c2:=b8j s.fs.length (a1q s) (b1l (a2A h0)) b v hf;have hd2:c0Y q v=b1H s.fs.length v:=by unfold c0Y b1H;rw [hv]
  rw [hd2,hd];rw [hd] at c1;rw [hv] at c2;refine goI dr0 (ff2 e0 e1) c1 cg c2 trivial trivial trivial ?_;exact a0a rfl IsPure.out
theorem c4X {s:a1K}{v:List (List UInt8)}(h:d2O s v=0):a0p s=0∧v.length=s.fs.length∧a1J v=0:=by
 unfold d2O at h
 by_cases h0:a0p s=0
 ·rw [if_pos h0] at h
  unfold a2M at h
  by_cases h1:v.length=s.fs.length
  ·rw [if_pos h1] at h;exact ⟨h0,h1,h⟩
  ·rw [if_neg h1] at h;cases h
 ·rw [if_neg h0] at h;exact absurd h h0
theorem b3E {s:a1K}{g:Int}{v:List (List UInt8)}(h:a9k s g v=0):a0p s=0∧unk g s.gs.length=0∧v.length=s.fs.length∧a1J v=0:=by
 unfold a9k at h
 by_cases h0:a0p s=0
 ·rw [if_pos h0] at h
  by_cases h2:unk g s.gs.length=0
  ·rw [if_pos h2] at h
   have:=c4X (s:=s) (v:=v) (by unfold d2O;rw [if_pos h0];exact h)
   exact ⟨h0,h2,this.2⟩
  ·rw [if_neg h2] at h;exact absurd h h2
 ·rw [if_neg h0] at h;exact absurd h h0
theorem b9m {H Hf:Hp}{a a' b:D}(h:Fz H Hf a a'):Fz H Hf (.tup [a,b]) (.tup [a',b]):=.tup rfl fun i d d' h1 h2=>by
 rcases i with _|_|i
 ·cases h1;cases h2;exact h
 ·cases h1;cases h2;exact .refl _
 ·simp at h1
def b6j (G:List (List LP))(g:Nat):List LP:=G.getD g []
theorem a9S {G:List (List LP)}{g:Nat}(h:g<G.length):G[g]? = some (b6j G g):=by
 unfold b6j;rw [List.getD_eq_getElem?_getD,List.getElem?_eq_getElem h];rfl
theorem d2X (s:a1K)(b:Bool)(v:List (List UInt8))(hf:Few v)(hr:v.length≤1000000→a0b C0 31 [txD b v] (i64 (a1J v:Nat))):a0b C0 22 [s.D,txD b v] (i64 (a2M s.fs.length v:Nat)):=by
 refine a0c.walk w1 d3G rfl fun F=>?_
 have el:(((v.map fun l=>str (sb l)).length:Nat):Int)=(v.length:Int):=by rw [List.length_map]
 have el1:(((s.fs.map a1R.D).length:Nat):Int)=(s.fs.length:Int):=by rw [List.length_map]
 have c:=hr (by have:=hf.1;omega);unfold a1K.D a2M
 by_cases h:v.length=s.fs.length
 ·have e0:=d3B h
  rw [if_pos h];refine goI dr0 (ff3 el el1 e0) c trivial trivial trivial trivial trivial ?_;exact a0a rfl IsPure.out
 ·have e0:=d4N h
  rw [if_neg h];refine goI dr0 (ff3 el el1 e0) trivial trivial trivial trivial trivial trivial ?_;exact a0a rfl IsPure.out
theorem b6s (g:Int)(n:Nat):a0b C0 21 [i64 g,i64 (n:Int)] (i64 (unk g n:Nat)):=by
 refine a0c.walk w1 d4m rfl fun F=>?_
 by_cases h1:g<0
 ·have e1:decide (g<0)=true:=decide_eq_true h1
  rw [d2p h1];refine goI dr0 e1 trivial trivial trivial trivial trivial trivial ?_;exact a0a rfl IsPure.out
 ·have e1:decide (g<0)=false:=decide_eq_false h1
  by_cases h2:(n:Int)≤g
  ·have e2:decide (g≥(n:Int))=true:=decide_eq_true h2
   rw [d2m h2];refine goI dr0 (ff2 e1 e2) trivial trivial trivial trivial trivial trivial ?_;exact a0a rfl IsPure.out
  ·have e2:decide (g≥(n:Int))=false:=decide_eq_false h2
   rw [d2l h1 h2];refine goI dr0 (ff2 e1 e2) trivial trivial trivial trivial trivial trivial ?_;exact a0a rfl IsPure.out
def d1P (a b:Nat):Nat:=if a=0 then b else a
theorem c9R (a b:Nat):a0b C0 20 [.sl true 1 [i64 (a:Int),i64 (b:Int)]] (i64 (d1P a b:Nat)):=by
 refine a0c.walk w1 d4c rfl fun F=>?_
 refine goI dr0 kB trivial trivial trivial trivial trivial trivial ?_;refine OkS.loop (α:=Nat × Nat) (fun p=>⟨[(5,.sl true 1 [i64 (a:Int),i64 (b:Int)]),(6,i64 2),(7,i64 (p.1:Int))],[],p.2⟩) (fun p=>2 - p.1) (fun p=>p.1≤2∧(1≤p.1→a=0)∧(2≤p.1→b=0)) (0,_) ⟨Nat.zero_le _,fun h=>absurd h (Nat.not_succ_le_zero 0),fun h=>absurd h (Nat.not_succ_le_zero 1)⟩ wkI ?_;rintro ⟨i,m⟩ F ⟨hi,ha,hb⟩;dsimp only at hi ha hb ⊢;have hcases:i=0∨i=1∨i=2:=by omega
 rcases hcases with rfl|rfl|rfl
 ·have e1:decide (((0:Nat):Int)<2)=true:=by decide
  have wi:IntKind.i64.wrap (((0:Nat):Int)+1)=((1:Nat):Int):=by decide
  have hm:[i64 (a:Int),i64 (b:Int)][0]? = some (i64 (a:Int)):=rfl;rcases Nat.decEq a 0 with h|h
  ·have e2:=b2F h
   refine goI dr0 (ff3 e1 e2 kN) hm trivial trivial trivial trivial trivial ?_;exact a0a (by unfold d1P;rw [if_neg h]) IsPure.out
  ·have e2:=b6h h
   refine goI dr0 (ff4 e1 e2 wi kN) hm trivial trivial trivial trivial trivial ?_;exact ⟨(1,_),⟨by dsimp only;omega,fun _=>h,fun h=>absurd h (by dsimp only;omega)⟩,by dsimp only;omega,wkI⟩
 ·have e1:decide (((1:Nat):Int)<2)=true:=by decide
  have wi:IntKind.i64.wrap (((1:Nat):Int)+1)=((2:Nat):Int):=by decide
  have hm:[i64 (a:Int),i64 (b:Int)][1]? = some (i64 (b:Int)):=rfl;have h0:=ha (by decide);rcases Nat.decEq b 0 with h|h
  ·have e2:=b2F h
   refine goI dr0 (ff3 e1 e2 kN) hm trivial trivial trivial trivial trivial ?_;exact a0a (by unfold d1P;rw [if_pos h0]) IsPure.out
  ·have e2:=b6h h
   refine goI dr0 (ff4 e1 e2 wi kN) hm trivial trivial trivial trivial trivial ?_;exact ⟨(2,_),⟨by dsimp only;omega,fun _=>h0,fun _=>h⟩,by dsimp only;omega,wkI⟩
 ·have e1:decide (((2:Nat):Int)<2)=false:=by decide
  have h0:=ha (by decide);have h1:=hb (by decide);refine goI dr0 e1 trivial trivial trivial trivial trivial trivial ?_;exact a0a (by unfold d1P;rw [if_pos h0,h1];rfl) IsPure.out
theorem c8N {g:a1k}{n k:Nat}(h:gOk n g)(hk:k<n):pv (g.least.zip g.most) k=(lv g.least k,lv g.most k):=by
 unfold pv;rw [List.getD_eq_getElem?_getD,b9X h hk];rfl
theorem b7v {s:a1K}{i:Nat}(hi:i<s.gs.length):b6j (a1q s) i=(s.gs.getD i default).least.zip (s.gs.getD i default).most:=by
 unfold b6j a1q;rw [List.getD_eq_getElem?_getD,List.getElem?_map,a2J hi];rfl
theorem c7N {s:a1K}(hs:c6p s){i:Nat}(hi:i<s.gs.length):gOk s.fs.length (s.gs.getD i default):=hs.2.2 _ (List.mem_of_getElem? (a2J hi))
theorem b2i {n:Nat}{gs:List a1k}{i:Nat}(h:a0C n gs i=0):∀ k,k<n→a1a (lv (gs.getD i default).least k) (lv (gs.getD i default).most k) (a1O gs i k)=0:=by
 unfold a0C at h;dsimp only at h;split at h
 ·split at h
  ·cases h
  ·split at h
   ·exact a7H h
   ·cases h
 ·cases h
theorem b3f {s:a1K}(h:a0p s=0):∀ i,i<s.gs.length→a0C s.fs.length s.gs i=0:=by
 unfold a0p at h;split at h
 ·rename_i h1;exact absurd h h1
 ·split at h
  ·rename_i h1;exact absurd h h1
  ·split at h
   ·rename_i h1;exact absurd h h1
   ·exact a7H h
set_option maxHeartbeats 8000000
structure a0I where
 fac:Int
 step:List UInt8
 price:List UInt8
def a0I.D (r:a0I):D:=.agg [i64 r.fac,str (sb r.step),str (sb r.price)]
instance  (r:a0I):CellsPure r.D:=by unfold a0I.D;exact inferInstance
instance  (r:a0I):IsPure r.D:=by unfold a0I.D;exact inferInstance
structure b3I where
 grade:Int
 factor:Int
 vals:List (List UInt8)
 rates:List a0I
def b3I.D (x:b3I):D:=.agg [i64 x.grade,i64 x.factor,txD false x.vals,.sl false 3 (x.rates.map a0I.D)]
instance  (x:b3I):IsPure x.D:=by unfold b3I.D;exact inferInstance
def b3I.fit (x:b3I):Prop:=x.vals.length≤9223372036854775807∧x.rates.length≤9223372036854775807
def d2q (r:a0I):Bool:=b1z [r.step,r.price]
def b2k (x:b3I):Bool:=x.rates.all d2q&&(decide (x.vals.length≤12)&&(b1z x.vals&&decide (x.rates.length≤260)))
theorem c0V (x:b3I)(hx:x.fit):a0b C0 16 [x.D] (boo (b2k x)):=by
 refine a0c.walk w1 d4F rfl fun F=>?_
 have el:(((x.rates.map a0I.D).length:Nat):Int)=(x.rates.length:Int):=by rw [List.length_map]
 have el2:(((x.vals.map fun l=>str (sb l)).length:Nat):Int)=(x.vals.length:Int):=by rw [List.length_map]
 have hfit:=hx.2;have hq:b2k x=(x.rates.all d2q&&(decide (x.vals.length≤12)&&(b1z x.vals&&decide (x.rates.length≤260)))):=rfl;rw [hq];unfold b3I.D;refine goI dr0 el trivial trivial trivial trivial trivial trivial ?_;refine OkS.loop (α:=Nat × Nat) (fun p=>⟨[(1,.optr 0 0 4 0 0),(6,.sl false 3 (x.rates.map a0I.D)),(7,i64 (x.rates.length:Int)),(8,i64 (p.1:Int))],[⟨0,0,43,4,[.agg [i64 x.grade,i64 x.factor,txD false x.vals,.sl false 3 (x.rates.map a0I.D)]]⟩],p.2⟩) (fun p=>x.rates.length - p.1) (fun p=>p.1≤x.rates.length∧(x.rates.take p.1).all d2q=true) (0,_) ⟨Nat.zero_le _,rfl⟩ wkI ?_;rintro ⟨i,m⟩ F ⟨hi,ha⟩;dsimp only at hi ha ⊢;rcases Nat.lt_or_ge i x.rates.length with h2|h2
 ·have e1:=ltT h2
  have wi:=wiI (i:=i) (by omega);obtain ⟨r,hr⟩:=a1Y h2;have hm:(x.rates.map a0I.D)[i]? = some (.agg [i64 r.fac,str (sb r.step),str (sb r.price)]):=by rw [List.getElem?_map,hr];rfl
  have c:=b7E true [r.step,r.price] (by simp);obtain ⟨w,hw⟩:∃ w,d2q r=w:=⟨_,rfl⟩
  have hw2:b1z [r.step,r.price]=w:=hw;rw [hw2] at c;cases w
  ·rw [a4z hr hw,Bool.false_and]
   refine goI dr0 (ff2 e1 kN) hm c trivial trivial trivial trivial ?_;exact a0a rfl IsPure.out
  ·refine goI dr0 (ff3 e1 wi kN) hm c trivial trivial trivial trivial ?_
   exact ⟨(i+1,_),⟨h2,a7A hr ha hw⟩,by dsimp only;omega,wkI⟩
 ·have e1:=ltF h2
  have:i=x.rates.length:=by omega
  subst this;rw [List.take_length] at ha;rw [ha,Bool.true_and];have e3:decide ((x.vals.length:Int)≤12)=decide (x.vals.length≤12):=c3q (b:=12);have e4:decide ((x.rates.length:Int)≤260)=decide (x.rates.length≤260):=c3q (b:=260);have c:=b7E false x.vals hx.1;obtain ⟨p,hp⟩:∃ w,decide (x.vals.length≤12)=w:=⟨_,rfl⟩
  obtain ⟨q,hq⟩:∃ w,decide (x.rates.length≤260)=w:=⟨_,rfl⟩
  obtain ⟨w,hw⟩:∃ w,b1z x.vals=w:=⟨_,rfl⟩
  rw [hp] at e3;rw [hq] at e4;rw [hw] at c;rw [hp,hq,hw];cases p<;>cases w<;>cases q
  all_goals
   refine goI dr0 (ff5 e1 e3 e4 el el2) c trivial trivial trivial trivial trivial ?_;exact a0a rfl IsPure.out
section
variable {H:Type} {enc:TypeId × Value→H} {W:World} {fuel:Nat} {cs:List Value} {x:DataW H × List MemPlace} {t:TypeId}
theorem b9Q (h:DataW.trod enc Tryz.prog W 0 (fun _=>true) true fuel 3 cs=some x):∃ z:Int,a6O W cs [i64 z]:=by
 obtain ⟨z,_,_,h⟩:=d0K (by kernel_rfl) h;exact ⟨z,h⟩
theorem c5i (h:DataW.trod enc Tryz.prog W 0 (fun _=>true) true fuel 68 cs=some x):∃ r:a0I,a6O W cs r.D.cells∧True:=by
 obtain ⟨h1,n,h2⟩:=b5V (l:=[(3,0,1),(24,1,1),(24,2,1)]) (m:=3) (by kernel_rfl) (by kernel_rfl) h;obtain ⟨y0,k0⟩:=h2 0 _ _ _ rfl;obtain ⟨y1,k1⟩:=h2 1 _ _ _ rfl;obtain ⟨y2,k2⟩:=h2 2 _ _ _ rfl;obtain ⟨a0,r0⟩:=b9Q k0;obtain ⟨a1,r1,_⟩:=b1L k1;obtain ⟨a2,r2,_⟩:=b1L k2;exact ⟨⟨a0,a1,a2⟩,a9w h1 (a4N (b:=1) (c:=2) r0 (a4N (b:=1) (c:=1) r1 r2)),trivial⟩
theorem c8C (h:DataW.trod enc Tryz.prog W 0 (fun _=>true) true fuel 43 cs=some x):∃ a:b3I,a6O W cs a.D.cells∧a.fit:=by
 obtain ⟨h1,n,h2⟩:=b5V (l:=[(3,0,1),(3,1,1),(40,2,1),(41,3,1)]) (m:=4) (by kernel_rfl) (by kernel_rfl) h;obtain ⟨y0,k0⟩:=h2 0 _ _ _ rfl;obtain ⟨y1,k1⟩:=h2 1 _ _ _ rfl;obtain ⟨y2,k2⟩:=h2 2 _ _ _ rfl;obtain ⟨y3,k3⟩:=h2 3 _ _ _ rfl;obtain ⟨a0,r0⟩:=b9Q k0;obtain ⟨a1,r1⟩:=b9Q k1;obtain ⟨a2,r2,_,l2⟩:=b4d k2;obtain ⟨a3,r3,_,l3⟩:=c1a (g:=a0I.D) (ok:=fun _=>True) (e:=68) (sz:=3) (by kernel_rfl) (by kernel_rfl) (by decide) (fun _ _ _ h=>c5i h) k3;have hM:maxLen≤9223372036854775807:=by decide
 exact ⟨⟨a0,a1,a2,a3⟩,a9w h1 (a4N (b:=1) (c:=3) r0 (a4N (b:=1) (c:=2) r1 (a4N (b:=1) (c:=1) r2 r3))),by dsimp only;omega,by dsimp only;omega⟩
end
set_option maxHeartbeats 4000000
def nb (r:Rat)(n d:Nat):Prop:=r.num.natAbs≤n∧r.den≤d
theorem nb.mono {r:Rat}{n d n' d':Nat}(h:nb r n d)(h1:n≤n')(h2:d≤d'):nb r n' d':=⟨Nat.le_trans h.1 h1,Nat.le_trans h.2 h2⟩
theorem b0J {n:Int}{d N D:Nat}(hd:d≠0)(h1:n.natAbs≤N)(h2:d≤D):nb (Rat.normalize n d hd) N D:=by
 rw [Rat.normalize_eq];exact ⟨Nat.le_trans (Int.natAbs_ediv_le_natAbs _ _) h1,Nat.le_trans (Nat.div_le_self _ _) h2⟩
theorem c4V {a b:Rat}{n d m e:Nat}(ha:nb a n d)(hb:nb b m e):nb (a+b) (n*e+m*d) (d*e):=by
 rw [Rat.add_def];refine b0J _ (Nat.le_trans (Int.natAbs_add_le _ _) ?_) (Nat.mul_le_mul ha.2 hb.2);rw [Int.natAbs_mul,Int.natAbs_mul,Int.natAbs_natCast,Int.natAbs_natCast];exact Nat.add_le_add (Nat.mul_le_mul ha.1 hb.2) (Nat.mul_le_mul hb.1 ha.2)
theorem d2c {a:Rat}{n d:Nat}(ha:nb a n d):nb (-a) n d:=by
 unfold nb;rw [Rat.neg_num,Rat.neg_den,Int.natAbs_neg];exact ha
theorem c4d {a b:Rat}{n d m e:Nat}(ha:nb a n d)(hb:nb b m e):nb (a - b) (n*e+m*d) (d*e):=by
 rw [Rat.sub_eq_add_neg];exact c4V ha (d2c hb)
theorem c4x {a b:Rat}{n d m e:Nat}(ha:nb a n d)(hb:nb b m e):nb (a*b) (n*m) (d*e):=by
 rw [Rat.mul_def];exact b0J _ (by rw [Int.natAbs_mul];exact Nat.mul_le_mul ha.1 hb.1) (Nat.mul_le_mul ha.2 hb.2)
theorem c7X {a:Rat}{n d:Nat}(ha:nb a n d)(h0:a≠0):nb a⁻¹ d n:=by
 rw [Rat.inv_def];obtain ⟨h1,h2⟩:=ha;have hn:a.num≠0:=fun h=>h0 (Rat.num_eq_zero.1 h)
 rcases Int.lt_or_gt_of_ne hn with h|h
 ·obtain ⟨m,hm⟩:∃ m,a.num=Int.negSucc m:=by
   cases hy:a.num with
   | ofNat n=>rw [hy] at h;simp at h;omega
   | negSucc k=>exact ⟨k,rfl⟩
  rw [hm] at h1 ⊢;exact b0J (n:=-(a.den:Int)) (d:=m+1) (by omega) (by rw [Int.natAbs_neg,Int.natAbs_natCast];exact h2) h1
 ·obtain ⟨m,hm⟩:∃ m:Nat,a.num=(m:Int):=⟨a.num.natAbs,by omega⟩
  rw [hm] at h1 h ⊢;rw [Rat.divInt_ofNat,← Rat.normalize_eq_mkRat (by omega)];exact b0J _ (by rw [Int.natAbs_natCast];exact h2) (by rw [Int.natAbs_natCast] at h1;exact h1)
theorem d1J {a b:Rat}{n d m e:Nat}(ha:nb a n d)(hb:nb b m e)(h0:b≠0):nb (a / b) (n*e) (d*m):=by
 rw [Rat.div_def];exact c4x ha (c7X hb h0)
theorem c7O (z:Int){n:Nat}(h:z.natAbs≤n):nb (z:Rat) n 1:=by
 unfold nb;rw [Rat.num_intCast,Rat.den_intCast];exact ⟨h,Nat.le_refl _⟩
def a9i (r:Rat):Int:=-((-r).num / (-r).den)
theorem c6L {a:Rat}{n d:Nat}(ha:nb a n d):nb (a9i a:Rat) n 1:=by
 refine c7O _ ?_;unfold a9i;rw [Int.natAbs_neg];refine Nat.le_trans (Int.natAbs_ediv_le_natAbs _ _) ?_;rw [Rat.neg_num,Int.natAbs_neg];exact ha.1
theorem b9V:nb 0 0 1:=⟨by decide,by decide⟩
def d2k:Nat:=(10^100)^6
theorem c4g {r:Rat}{n d:Nat}(h:nb r n d)(h1:n<d2k)(h2:d<d2k):c0K r=false:=by
 unfold c0K;have key:∀ a b k m,a*b=k+1→m<(10^a)^b→(Lib.decDigits m).length≤k+1:=fun a b k m hk h=>a1v k m (by rw [← hk,Nat.pow_mul];exact h)
 have l1:=key 100 6 599 r.num.natAbs rfl (Nat.lt_of_le_of_lt h.1 h1);have l2:=key 100 6 599 r.den rfl (Nat.lt_of_le_of_lt h.2 h2);rw [decide_eq_false (by omega),decide_eq_false (by omega)];rfl
def E40:Nat:=10^40
theorem a6S {l:List UInt8}(h:chk l=0)(hl:l.length≤40):nb (a0g l) E40 E40:=by
 obtain ⟨m1,m2,m3,m4⟩:=a3f h;obtain ⟨p1,p2⟩:=a4g h;have hs1:(a0Q l).length≤40:=by
  have:(a0Q l).length≤l.length:=by
   unfold a0Q;have a1:(a0l (a2l l)).length≤(a2l l).length:=by unfold a0l;split<;>simp
   have a2:(a2l l).length≤l.length:=by unfold a2l;rw [List.length_take];omega
   omega
  omega
 have hb:∀ k,k≤40→(10:Nat)^k≤E40:=fun k hk=>Nat.pow_le_pow_right (by decide) hk
 refine ⟨?_,?_⟩
 ·rw [m1,m4]
  exact Nat.le_trans (Nat.le_of_lt (a5B _ p1)) (hb _ hs1)
 ·rw [m2]
  unfold b5P;cases hs:a4k l
  ·exact (by decide:1≤E40)
  ·have hs2:(a1z l).length≤40:=by
    have:(a1z l).length≤l.length:=by unfold a1z;simp
    omega
   exact Nat.le_trans (Nat.le_of_lt (a5B _ (p2 hs))) (hb _ hs2)
theorem d3R {r:Rat}{n d k:Nat}(h:nb r n d)(h1:n<BB^k)(h2:d<BB^k):rk r k :=
 ⟨a0M (Nat.lt_of_le_of_lt h.1 h1),a0M (Nat.lt_of_le_of_lt h.2 h2)⟩
theorem rk3 {l:List UInt8}(h:chk l=0)(hl:l.length≤40):rk (a0g l) 3:=d3R (a6S h hl) (by decide) (by decide)
def a8v (a b:List UInt8)(x:Rat):Rat:=if (!decide (a=[])&&decide (a2H x (a0g a)<0))=true then a0g a - x else if (!decide (b=[])&&decide (a2H x (a0g b)>0))=true then x - a0g b else 0
def b3a (a b:List UInt8)(x:Rat)(y:GF):GF:=if (!decide (a=[])&&decide (a2H x (a0g a)<0))=true then c0J (a4l a) y else if (!decide (b=[])&&decide (a2H x (a0g b)>0))=true then c0J y (a4l b) else ⟨mkG 0,1⟩
theorem b4j (k:Nat)(hk:1≤k):FR 0 ⟨mkG 0,1⟩ k:=⟨⟨a0G _,by rw [a2p];rfl,rfl⟩,by
 refine rk.mono (k:=1) ?_ hk;exact ⟨a0M (k:=1) (by decide),a0M (k:=1) (by decide)⟩⟩
theorem b0G {a b:List UInt8}{x:Rat}{y:GF}{k:Nat}(hx:FR x y k)(ha:a≠[]→FR (a0g a) (a4l a) k)(hb:b≠[]→FR (a0g b) (a4l b) k):FR (a8v a b x) (b3a a b x y) (2*k+1):=by
 unfold a8v b3a;split
 ·rename_i h
  rw [Bool.and_eq_true,Bool.not_eq_true',decide_eq_false_iff_not] at h;exact (b8d (ha h.1) hx).mono (by omega)
 ·split
  ·rename_i h
   rw [Bool.and_eq_true,Bool.not_eq_true',decide_eq_false_iff_not] at h;exact (b8d hx (hb h.1)).mono (by omega)
  ·exact b4j _ (by omega)
theorem b8t {a b:List UInt8}{x:Rat}(hx:nb x E40 E40)(ha:a≠[]→nb (a0g a) E40 E40)(hb:b≠[]→nb (a0g b) E40 E40):nb (a8v a b x) (2*(E40*E40)) (E40*E40):=by
 unfold a8v;split
 ·rename_i h
  rw [Bool.and_eq_true,Bool.not_eq_true',decide_eq_false_iff_not] at h;exact (c4d (ha h.1) hx).mono (by omega) (Nat.le_refl _)
 ·split
  ·rename_i h
   rw [Bool.and_eq_true,Bool.not_eq_true',decide_eq_false_iff_not] at h;exact (c4d hx (hb h.1)).mono (by omega) (Nat.le_refl _)
  ·exact b9V.mono (by decide) (by decide)
def a9g (L st pr:Rat):Rat:=(a9i (L / st):Rat)*pr
theorem c5V {L st pr:Rat}(hL:nb L (2*(E40*E40)) (E40*E40))(hs:nb st E40 E40)(h0:st≠0)(hp:nb pr E40 E40):nb (a9g L st pr) (2*(E40*E40*E40*E40)) E40:=by
 refine (c4x (c6L (d1J hL hs h0)) hp).mono ?_ ?_
 ·refine Nat.le_of_eq ?_
  simp only [Nat.mul_assoc]
 ·omega
theorem c5R {S t:Rat}{i:Nat}(hS:nb S (i*(2*(E40*E40*E40*E40))*E40^i) (E40^i))(ht:nb t (2*(E40*E40*E40*E40)) E40):nb (S+t) ((i+1)*(2*(E40*E40*E40*E40))*E40^(i+1)) (E40^(i+1)):=by
 generalize 2*(E40*E40*E40*E40)=Q at *;refine (c4V hS ht).mono ?_ (Nat.le_of_eq (Nat.pow_succ ..).symm);rw [Nat.pow_succ,Nat.add_mul,Nat.add_mul,Nat.one_mul,Nat.mul_assoc (i*Q)];refine Nat.add_le_add_left ?_ _;refine Nat.mul_le_mul_left _ ?_;exact Nat.le_mul_of_pos_right _ (by decide)
theorem b5L {S:Rat}{i:Nat}(hi:i≤8)(hS:nb S (i*(2*(E40*E40*E40*E40))*E40^i) (E40^i)):c0K S=false:=by
 have h1:E40^i≤E40^8:=Nat.pow_le_pow_right (by decide) hi;have h2:i*(2*(E40*E40*E40*E40))*E40^i≤8*(2*(E40*E40*E40*E40))*E40^8:=Nat.mul_le_mul (Nat.mul_le_mul_right _ hi) h1;have h3:8*(2*(E40*E40*E40*E40))*E40^8<d2k:=by decide
 have h4:E40^8<d2k:=by decide
 exact c4g hS (Nat.lt_of_le_of_lt h2 h3) (Nat.lt_of_le_of_lt h1 h4)
theorem b3n {L:Rat}(h:nb L (2*(E40*E40)) (E40*E40)):c0K L=false:=c4g h (by decide) (by decide)
set_option maxHeartbeats 1000000
set_option maxRecDepth 100000
theorem d4E {n:Nat}(h:1≤n):liesAt Tryz.prog Tryz.prog.depth 305 n 0 305 1=true:=by
 have hs:sameLayout Tryz.prog Tryz.prog.depth 305 305=true:=by kernel_rfl
 have hc:Tryz.prog.cellsOf 305=2:=by kernel_rfl
 obtain ⟨d,hd⟩:∃ d,Tryz.prog.depth=d+1:=⟨Tryz.prog.depth - 1,by kernel_rfl⟩
 rw [hd] at hs ⊢;unfold liesAt;rw [hd];unfold rowAt;simp [hc,hs,h]
theorem c6U (b c:Nat)(hc:2≤c)(w:World)(h0:w.cell? ⟨b,0,none⟩=some (.pointer none))(hsh:w.shape? b=some (305,c))(hfz:w.frozen? ⟨b,0,none⟩=false) :
  Calls Tryz.prog 260 #[.pointer (some ⟨b,0,none⟩)] w fun e w'=>e=.returned (.tuple #[])∧w'=w.setCell ⟨b,0,none⟩ (.pointer (some ⟨b,0,none⟩)):=by
 obtain ⟨j,hj,hjs⟩:=Option.map_eq_some_iff.1 (show (Tryz.prog.info? 305).map (·.size)=some 2 by kernel_rfl);have hl:liesAt Tryz.prog Tryz.prog.depth 305 (c / Tryz.prog.cellsOf 305) 0 305 1=true:=d4E (by rw [show Tryz.prog.cellsOf 305=2 by kernel_rfl];omega)
 go_enter Tryz.func260,Tryz.ntmps260
 go_wp2
 rw [Lib.run_to_unsafe w ⟨b,0,none⟩ (t:=305) (by kernel_rfl) (by kernel_rfl) hj (by rw [hjs];decide) hsh (by show 0<c;omega)];simp only [Result.andThen];rw [Oper.upon_value]
 go_wp2
 rw [run_callFunc_extern Tryz.func298 (by kernel_rfl) (by kernel_rfl) (by kernel_rfl) (e:=Extern.AbiNoEscape.same) (by kernel_rfl)];rw [Lib.run_noEscape];simp only [Result.andThen];rw [Oper.upon_value]
 go_wp2
 rw [Lib.run_from_unsafe w ⟨b,0,none⟩ (u:=305) (by kernel_rfl) (by kernel_rfl) hj hsh hl];simp only [Result.andThen];rw [Oper.upon_value]
 go_wp2
 go_end0
 exact ⟨rfl,rfl⟩
theorem c9U (b:Nat)(w:World)(h0:w.cell? ⟨b,0,none⟩=some (.pointer (some ⟨b,0,none⟩))) :
  Calls Tryz.prog 260 #[.pointer (some ⟨b,0,none⟩)] w fun e w'=>e=.returned (.tuple #[])∧w'=w:=by
 obtain ⟨j,hj,hjs⟩:=Option.map_eq_some_iff.1 (show (Tryz.prog.info? 305).map (·.size)=some 2 by kernel_rfl)
 go_enter Tryz.func260,Tryz.ntmps260
 go_wp2
 rw [Lib.run_neq_ptr_same w _ (te:=305) (by kernel_rfl) hj]
 go_wp2
 go_end0
 exact ⟨rfl,rfl⟩
theorem d5C (b g:Nat)(cur cs:Array Value)(l:List UInt8)(h0:l≠[])(w:World)(hb:w.heap[b]? = some (.cells cs 305 (0,0)))(hb1:cs[1]? = some (.slice (some ⟨g,0,none⟩) l.length cur.size))
  (hg:w.heap[g]? = some (.cells cur 5 (0,0))) (hl:l.length≤cur.size) (hcap:cur.size≤maxLen) (hcell:∀ (j:Nat) (x:UInt8),l[j]? = some x→cur[j]? = some (.int .u8 x.toNat)) :
  Calls Tryz.prog 226 #[.pointer (some ⟨b,0,none⟩)] w fun e w'=>e=.returned (.string ⟨l.toArray⟩)∧w'=(w.drew.freeze ⟨g,0,none⟩ l.length):=by
 have c1:w.drew.cell? ⟨b,1,none⟩=some (.slice (some ⟨g,0,none⟩) l.length cur.size):=by
  have:w.drew.heap[b]? = some (.cells cs 305 (0,0)):=hb
  rw [Lib.cell_of_heap this];exact hb1
 have h0':l.length≠0:=by simpa using h0
 have hSD:(Builtin.unsafeSliceData_ #[303] 329 #[.slice (some ⟨g,0,none⟩) l.length cur.size]).run Tryz.prog w.drew=.ok (.pointer (some ⟨g,0,none⟩)) w.drew :=
  Lib.run_unsafeSliceData_row _ _ _ _ _ _ (by omega)
 have hUS:(Builtin.unsafeString_ #[329,3] 9 #[.pointer (some ⟨g,0,none⟩),.int .i64 l.length]).run Tryz.prog w.drew=.ok (.string ⟨l.toArray⟩) (w.drew.freeze ⟨g,0,none⟩ l.length):=by
  refine Lib.run_unsafeString_row w.drew 329 3 9 5 (by kernel_rfl) (by kernel_rfl) g cur.size (by have hg':w.drew.heap[g]? = some (.cells cur 5 (0,0)):=hg;simp [World.shape?,hg']) l h0 (by omega) (by unfold maxLen at hcap;omega) ?_;intro j x hx;have hg':w.drew.heap[g]? = some (.cells cur 5 (0,0)):=hg
  have:=hcell j x hx
  rw [Addr.add_lit];simp [World.cell?,hg',this]
 have mixed:Tryz.prog.follows .mixedOrders=true:=by kernel_rfl
 go_enter Tryz.func226,Tryz.ntmps226
 go_wp2
 go_region_o
 all_goals (go_wp2;go_ret;exact ⟨rfl,rfl⟩)
def a5k (l:List UInt8):List D:=l.map fun b=>.prim (.int .u8 (b.toNat:Int))
abbrev b2b (g:Nat)(p x:D):Ent:=⟨1500,g,305,2,[.agg [p,x]]⟩
theorem d4O {vs:Array Value}(h:vs.size=1):vs = #[vs.getD 0 undef]:=by
 match vs,h with
 | ⟨[u]⟩,_=>rfl
theorem d4S (g n:Nat)(x p:D)(H1 H2:Hp)(hp:p=.prim (.pointer none)∨p=.optr 1500 g 2 0 0) :
  a0z C0 260 [.optr 1500 g 2 0 0] (H1++b2b g p x::H2) n (fun d H' n'=>d=.prim (.tuple #[])∧H'=H1++b2b g (.optr 1500 g 2 0 0) x::H2∧n'=n):=by
 refine ⟨⟨_,_,Tryz.func260,rfl,by kernel_rfl⟩,fun F ρ w vs m fr hgn hvs hr=>?_⟩;have h0:=hr 0 _ rfl;rw [d4O hvs];generalize hv:vs.getD 0 undef=v at h0;cases h0 with
 | optr hρ =>
  rename_i b;have he:b2b g p x∈H1++b2b g p x::H2:=by simp
  obtain ⟨cs,hc,q⟩:=m.at he hρ;have hlen:2≤cs.size:=q.len;have hr0:Rep ρ (Own F.X ρ (H1++b2b g p x::H2)) w p (cs.getD 0 undef):=q.rep 0 _ 0 p rfl rfl;have hr1:Rep ρ (Own F.X ρ (H1++b2b g p x::H2)) w x (cs.getD 1 undef):=q.rep 0 _ 1 x rfl rfl;have hcell:w.cell? ⟨b,0,none⟩=some (cs.getD 0 undef):=by
   simp [World.cell?,hc,Array.getD,show 0<cs.size by omega]
  rcases hp with rfl|rfl
  ·cases hr0':cs.getD 0 undef with
   | pointer a =>
    rw [hr0'] at hr0 hcell;cases hr0;refine (c6U b cs.size hlen w hcell (by simp [World.shape?,hc]) (by simp [World.frozen?,hc])).mono ?_;rintro e w' ⟨rfl,rfl⟩;have hset:w.setCell ⟨b,0,none⟩ (.pointer (some ⟨b,0,none⟩))=World.setBlk w b (cs.setIfInBounds 0 (.pointer (some ⟨b,0,none⟩))) 305:=by
     rw [setCell_eq_setRow w b 0 cs 305 (0,0) _ hc];exact a9c hc
    have hop:Rep ρ (Own F.X ρ (H1++b2b g (.prim (.pointer none)) x::H2)) w (.optr 1500 g 2 0 0) (.pointer (some ⟨b,0*2+0,none⟩)):=.optr hρ;have ho:a2n ρ (Own F.X ρ (H1++b2b g (.prim (.pointer none)) x::H2)) w (b2b g (.optr 1500 g 2 0 0) x) (cs.setIfInBounds 0 (.pointer (some ⟨b,0,none⟩))):=by
     refine ⟨by rw [Array.size_setIfInBounds];exact q.len,fun i d hd=>?_,fun i v hv=>?_,fun i d j c hd hj=>?_⟩
     ·rcases i with _|i
      ·cases hd;rfl
      ·simp at hd
     ·rw [Array.getElem?_setIfInBounds] at hv
      split at hv
      ·split at hv
       ·cases hv;rfl
       ·cases hv
      ·exact q.one i v hv
     ·rcases i with _|i
      ·cases hd
       rcases j with _|_|j
       ·cases hj
        have:(cs.setIfInBounds 0 (.pointer (some ⟨b,0,none⟩))).getD (0*2+0) undef=.pointer (some ⟨b,0*2+0,none⟩):=by
         simp [Array.getD_eq_getD_getElem?,show 0<cs.size by omega]
        rw [this];exact hop
       ·cases hj
        have:(cs.setIfInBounds 0 (.pointer (some ⟨b,0,none⟩))).getD (0*2+1) undef=cs.getD 1 undef:=by
         simp [Array.getD_eq_getD_getElem?]
        rw [this];exact hr1
       ·simp [D.cells] at hj
      ·simp at hd
    obtain ⟨m1,x1⟩:=m.write (e':=b2b g (.optr 1500 g 2 0 0) x) hρ hc rfl rfl rfl (Array.size_setIfInBounds ..) ho;rw [hset];exact ⟨_,_,_,n,ρ,rfl,⟨rfl,rfl,rfl⟩,m1,x1,fr,fun e' he'=>by
     rcases List.mem_append.1 he' with h|h
     ·exact hgn e' (by simp [h])
     ·rcases List.mem_cons.1 h with rfl|h
      ·exact hgn (b2b g (.prim (.pointer none)) x) he
      ·exact hgn e' (by simp [h]),.prim _⟩
   | _=>rw [hr0'] at hr0;cases hr0
  ·cases hr0':cs.getD 0 undef with
   | pointer a =>
    rw [hr0'] at hr0 hcell;cases hr0 with
    | optr hρ2 =>
     rw [hρ] at hρ2;cases hρ2;refine (c9U b w hcell).mono ?_;rintro e w' ⟨rfl,rfl⟩;exact ⟨_,_,_,n,ρ,rfl,⟨rfl,rfl,rfl⟩,m,Ext.refl _ _ _,fr,hgn,.prim _⟩
   | _=>rw [hr0'] at hr0;cases hr0
theorem b2M (w:World)(g n:Nat)(hn:n≠0)(cur:Array Value)(T:Nat)(hg:w.heap[g]? = some (.cells cur T (0,0))) :
  (w.freeze ⟨g,0,none⟩ n).heap.size=w.heap.size∧(w.freeze ⟨g,0,none⟩ n).os=w.os∧(w.freeze ⟨g,0,none⟩ n).tape=w.tape∧(w.freeze ⟨g,0,none⟩ n).output=w.output ∧
  (∀ k,k≠g→(w.freeze ⟨g,0,none⟩ n).heap[k]? = w.heap[k]?)∧∃ (cs':Array Value) (fz':Nat × Nat),(w.freeze ⟨g,0,none⟩ n).heap[g]? = some (.cells cs' T fz')∧cs'.size=cur.size:=by
 unfold World.freeze;rw [if_neg hn];refine ⟨by simp,rfl,rfl,rfl,fun k hk=>?_,?_⟩
 ·dsimp only
  rw [Array.getElem?_modify,if_neg (fun h=>hk h.symm)]
 ·dsimp only
  rw [Array.getElem?_modify,if_pos rfl,hg];exact ⟨cur,_,rfl,rfl⟩
theorem d3F (g gb n:Nat)(l:List UInt8)(h0:l≠[])(p:D)(R:Hp) :
  a0z C0 226 [.optr 1500 g 2 0 0] (⟨206,gb,5,1,a5k l⟩::b2b g p (.osl 206 gb 1 0 l.length)::R) n (fun d H' n'=>d=str ⟨l.toArray⟩∧H'=b2b g p (.osl 206 gb 1 0 l.length)::R∧n'=n):=by
 refine ⟨⟨_,_,Tryz.func226,rfl,by kernel_rfl⟩,fun F ρ w vs m fr hgn hvs hr=>?_⟩;have hz:=hr 0 _ rfl;have h0':l.length≠0:=by simpa using h0
 rw [d4O hvs];generalize hv:vs.getD 0 undef=v at hz;cases hz with
 | optr hρ =>
  rename_i b;obtain ⟨cs,hc,q⟩:=m.at (e:=b2b g p (.osl 206 gb 1 0 l.length)) (by simp) hρ;have hlen:2≤cs.size:=q.len;have hr1:Rep ρ (Own F.X ρ (⟨206,gb,5,1,a5k l⟩::b2b g p (.osl 206 gb 1 0 l.length)::R)) w (.osl 206 gb 1 0 l.length) (cs.getD 1 undef):=q.rep 0 _ 1 (.osl 206 gb 1 0 l.length) rfl rfl;generalize hs1:cs.getD 1 undef=sv at hr1;generalize hL:l.length=L at hr1;cases hr1 with
   | onil=>exact absurd hL h0'
   | osl hρ2 hb2 hc2 hs2 hm2 =>
    rename_i cap gy T' cs2 fz2;obtain ⟨cur,hcur,qy⟩:=m.at (e:=⟨206,gb,5,1,a5k l⟩) (by simp) hρ2;rw [hb2] at hcur;cases hcur;have hcap:cap=cs2.size:=by omega
    subst hcap;have hcell:∀ (j:Nat) (x:UInt8),l[j]? = some x→cs2[j]? = some (.int .u8 x.toNat):=fun j x hx=>by
     have hr:=qy.rep j (.prim (.int .u8 (x.toNat:Int))) 0 (.prim (.int .u8 (x.toNat:Int))) (by unfold a5k;rw [List.getElem?_map,hx];rfl) rfl;have hlt:j<cs2.size:=by
      have:=(List.getElem?_eq_some_iff.1 hx).1
      omega
     generalize hvv:cs2.getD (j*1+0) undef=vv at hr;cases hr;rw [Array.getElem?_eq_getElem hlt]
     have:cs2.getD j undef=cs2[j]:=by simp [Array.getD,hlt]
     rw [Nat.mul_one,Nat.add_zero,this] at hvv;rw [hvv]
    have hb1:cs[1]? = some (.slice (some ⟨gy,0,none⟩) l.length cs2.size):=by
     have hlt:1<cs.size:=by omega
     rw [Array.getElem?_eq_getElem hlt]
     have:cs.getD 1 undef=cs[1]:=by simp [Array.getD,hlt]
     rw [this] at hs1;rw [hs1,hL,Nat.zero_mul]
    refine (d5C b gy cs2 cs l h0 w hc hb1 hb2 (by omega) (by omega) hcell).mono ?_;rintro e w' ⟨rfl,rfl⟩;have md:=m.drew;obtain ⟨f1,f2,f3,f4,f5,cs',fz',f6,f7⟩:=b2M w.drew gy l.length h0' cs2 5 hb2;obtain ⟨m1,x1⟩:=Mem.letGo (H1:=[]) (H2:=b2b g p (.osl 206 gb 1 0 l.length)::R) (w':=w.drew.freeze ⟨gy,0,none⟩ l.length) md hρ2 f1 f2 f3 f4 f5 (fun c hcc=>by
     have hb2':w.drew.heap[gy]? = some (.cells cs2 5 (0,0)):=hb2;have hcc':w.drew.heap[gy]? = some (.cells c 5 (0,0)):=hcc;rw [hb2'] at hcc';cases hcc';exact ⟨cs',fz',f6,f7⟩)
    rw [hL];rw [hL] at m1 x1;exact ⟨_,_,_,n,ρ,rfl,⟨rfl,rfl,rfl⟩,m1,(Ext.drew _ _ _).trans x1,fr,fun e' he'=>hgn e' (by rw [hL];exact List.mem_cons_of_mem _ he'),.prim _⟩
set_option maxRecDepth 20000
set_option maxHeartbeats 4000000
def bH (gb g:Nat)(p:D)(L:List UInt8)(R:Hp):Hp:=a7d 206 gb 5 1 (a5k L)++(b2b g p (a9e 206 gb 1 (a5k L))::R)
theorem b9E (s:List UInt8):a4p (sb s)=a5k s:=rfl
theorem a4w (l:List UInt8):(a5k l).length=l.length:=List.length_map ..
theorem b9k (a b:List UInt8):a5k (a++b)=a5k a++a5k b:=List.map_append
theorem b4Z {l:List UInt8}(h:l≠[]):∃ x r,a5k l=x::r:=by
 cases l with
 | nil=>exact absurd rfl h
 | cons a l=>exact ⟨_,_,rfl⟩
theorem d4U (g gb n:Nat)(p:D)(hp:p=.prim (.pointer none)∨p=.optr 1500 g 2 0 0)(L s:List UInt8)(hs:s≠[])(R:Hp)(hlen:L.length+s.length≤100000000) :
  a0z C0 225 [.optr 1500 g 2 0 0,str (sb s)] (bH gb g p L R) n (fun d H' n'=>(∃ g',H'=bH g' g (.optr 1500 g 2 0 0) (L++s) R)∧n≤n'):=by
 refine a0z.walk w1 c4L rfl fun F=>?_
 have hsz:=a0t s;have hb:=b9E s;obtain ⟨x,r,hx⟩:=b4Z hs;have hr:s.length=r.length+1:=by rw [← a4w,hx];rfl
 unfold bH;rw [b9k];cases hL:a5k L with
 | nil =>
  dsimp only [a3w,a3s,List.nil_append];refine goI dr0 kB trivial trivial trivial trivial trivial trivial ?_;refine a0j.own _ (d4S g _ a2h p [] R hp) ?_;rintro d H' n' ⟨rfl,rfl,rfl⟩;have hL0:L.length=0:=by rw [← a4w,hL];rfl
  refine goI dr0 (ff2 hsz hb) trivial trivial trivial trivial trivial trivial ?_;refine ⟨?_,by omega⟩;apply Exists.intro;rw [hx,hr];rfl
 | cons y l =>
  dsimp only [a2C,a2G,List.cons_append,List.nil_append];have hL1:L.length=l.length+1:=by rw [← a4w,hL];rfl
  have htk:List.take (l.length+1) (y::l)=y::l:=by simp
  refine goI dr0 kB trivial trivial trivial trivial trivial trivial ?_;refine a0j.own _ (d4S g _ (.osl 206 gb 1 0 (l.length+1)) p [⟨206,gb,5,1,y::l⟩] R hp) ?_;rintro d H' n' ⟨rfl,rfl,rfl⟩;refine goI dr0 (ff3 hsz hb htk) trivial trivial trivial trivial trivial trivial ?_;refine ⟨?_,by omega⟩;apply Exists.intro;have hap:y::l++a5k s=y::(l++a5k s):=rfl;have hl2:(l++a5k s).length+1=l.length+1+s.length:=by rw [List.length_append,a4w];omega
  rw [hl2]
open Go.Sort Go.Shelf
section
open Go.Lib
set_option maxHeartbeats 6400000 in
set_option maxRecDepth 100000 in
theorem d6E (u:Nat) (hu64:u<18446744073709551616) (w:World) (htab:Lib.TabIs Tryz.prog w "internal/strconv.uint64pow10" .u64 Lib.pow10Tab) :
  Calls Tryz.prog 256 #[.int .u64 u,.int .i64 10] w fun e w'=>e=.returned (.string ⟨(Lib.decDigits u).toArray⟩)∧∃ k os,w'=grow (w.drewN k) os:=by
 have e283:∀ args w,(callFunc 292 args).run Tryz.prog w=.ok (.enter 292 args) w:=enters_of Tryz.func292 (by kernel_rfl) rfl;have e284:∀ args w,(callFunc 293 args).run Tryz.prog w=.ok (.enter 293 args) w:=enters_of Tryz.func293 (by kernel_rfl) rfl;have e285:∀ args w,(callFunc 294 args).run Tryz.prog w=.ok (.enter 294 args) w:=enters_of Tryz.func294 (by kernel_rfl) rfl
 by_cases hs:u<100
 ·go_enter Tryz.func256,Tryz.ntmps256
  go_wp2_with (go_at_fn 292;refine (Tryz.internal_strconv_small u hs _).mono ?_;rintro e w' ⟨rfl,rfl⟩)
  go_ret
  exact ⟨rfl,0,#[],by simp [World.drewN_zero]⟩
 ·have hu1:1≤u:=by omega
  have hnd20:Lib.nDigits u≤20:=by have:=Lib.numDigits_eq u hu1 hu64;split at this<;>omega
  have hb3:Lib.nDigits u≤24:=by omega
  have hal:Tryz.prog.arrayLen 360=24:=by kernel_rfl
  have hsl1:∀ W,(Instr.sliceAt 360 (.pointer (some ⟨w.heap.size,0,none⟩)) none (some (.int .i64 (Lib.nDigits u:Int))) none).run Tryz.prog W=.ok (.slice (some ⟨w.heap.size,0,none⟩) (Lib.nDigits u) 24) W:=fun W=>by
   rw [run_sliceAt_array_h W 360 ⟨w.heap.size,0,none⟩ (by kernel_rfl) .i64 (Lib.nDigits u:Int) (by omega) (by rw [hal];omega)]
   go_simp
  have hH0:=Lib.holds_zero0 w 360 (Lib.nDigits u) (by omega);have hfmt:=Tryz.internal_strconv_formatBase10 w.heap.size 0 24 u (Array.replicate (Lib.nDigits u) 0) (w.alloc (.cells Lib.zeros24 360)) hH0 (by rw [Array.size_replicate];exact Lib.lt_pow_nDigits u) hu64 (by rw [Array.size_replicate];omega);rw [Array.size_replicate] at hfmt;have HH0:=Lib.hid hH0;clear hH0 hal
  go_enter Tryz.func256,Tryz.ntmps256
  go_wp2_with (first
   | (go_at_fn 293;refine (Tryz.internal_strconv_numDigits u hu1 hu64 _ (Lib.tabIs_alloc htab _)).mono ?_;rintro e w' ⟨rfl,rfl⟩))
  go_at_fn 294
  refine hfmt.mono ?_;rintro e w' ⟨rfl,k,v',dk,rfl,hF⟩;have hcv:(convert 303 9 (.slice (some ⟨w.heap.size,0,none⟩) (Lib.nDigits u) 24)).run Tryz.prog ((putRow (fun (b:UInt8)=>Value.int .u8 (b.toNat:Int)) (w.alloc (.cells Lib.zeros24 360)) w.heap.size 0 dk).drewN k)=.ok (.string ⟨(Lib.decDigits u).toArray⟩) ((putRow (fun (b:UInt8)=>Value.int .u8 (b.toNat:Int)) (w.alloc (.cells Lib.zeros24 360)) w.heap.size 0 dk).drewN k):=by
   have h:=run_convert_bytes_back (P:=Tryz.prog) ((putRow (fun (b:UInt8)=>Value.int .u8 (b.toNat:Int)) (w.alloc (.cells Lib.zeros24 360)) w.heap.size 0 dk).drewN k) 303 9 5 ⟨w.heap.size,0,none⟩ 24 (Lib.decDigits u) (by kernel_rfl) (by kernel_rfl) (by kernel_rfl) (fun j hj=>by
    rw [Lib.row_is_numeral hF j hj,Lib.add_plain,World.cell?_drewN];exact cell?_putRow (fun (b:UInt8)=>Value.int .u8 (b.toNat:Int)) _ w.heap.size 0 _ dk HH0.out (by rw [hF.size,Array.size_replicate]) j (by rw [hF.size];rw [Lib.decDigits_length] at hj;exact hj))
   rw [Lib.decDigits_length] at h;exact h
  go_wp2
  go_ret
  obtain ⟨os,eo⟩:=Lib.fin_at w (.cells Lib.zeros24 360) dk k 0;exact ⟨rfl,k,os,eo⟩
end
theorem b6n {O:Nat→Prop}{w:World}{v u:Value}{vs:Array Value}(hn:vs.size=2)(h:∀ (i:Nat) (x:D),[D.prim v,.prim u][i]? = some x→Rep nol O w x (vs.getD i undef)):vs = #[v,u]:=by
 match vs,hn with
 | ⟨[a,b]⟩,_ =>
  have h0:=h 0 _ rfl;have h1:=h 1 _ rfl;simp at h0 h1;cases h0;cases h1;rfl
theorem c6r (u:Nat)(hu:u<18446744073709551616):a0b C0 256 [.prim (.int .u64 (u:Int)),i64 10] (str ⟨(Lib.decDigits u).toArray⟩):=by
 refine ⟨⟨_,_,Tryz.func256,rfl,by kernel_rfl⟩,fun Y w vs hG hnG hX hvs hr=>?_⟩
 have:=b6n hvs hr
 subst this;refine (d6E u hu w hG).mono ?_;rintro e w' ⟨rfl,k,os,rfl⟩;exact ⟨_,_,rfl,Lib.below_grow _ _ (Nat.le_refl _) _ _,rfl,.prim _⟩
theorem d0b (u:Nat)(hu:u<18446744073709551616):a0b C0 223 [.prim (.int .u64 (u:Int)),i64 10] (str ⟨(Lib.decDigits u).toArray⟩):=by
 refine a0c.walk w1 c3K rfl fun F=>?_
 refine goI dr0 kB (c6r u hu) trivial trivial trivial trivial trivial ?_;exact a0a rfl IsPure.out
theorem rp0:a0b C0 224 [str ⟨#[48]⟩,i64 0] (str ⟨#[]⟩):=a0b.ev a4n 400 20 (by kernel_rfl)
theorem rp1:a0b C0 224 [str ⟨#[48]⟩,i64 1] (str ⟨#[48]⟩):=a0b.ev a4n 400 20 (by kernel_rfl)
theorem rp2:a0b C0 224 [str ⟨#[48]⟩,i64 2] (str ⟨#[48,48]⟩):=a0b.ev a4n 400 20 (by kernel_rfl)
theorem rp3:a0b C0 224 [str ⟨#[48]⟩,i64 3] (str ⟨#[48,48,48]⟩):=a0b.ev a4n 400 20 (by kernel_rfl)
theorem rp4:a0b C0 224 [str ⟨#[48]⟩,i64 4] (str ⟨#[48,48,48,48]⟩):=a0b.ev a4n 400 20 (by kernel_rfl)
theorem rp5:a0b C0 224 [str ⟨#[48]⟩,i64 5] (str ⟨#[48,48,48,48,48]⟩):=a0b.ev a4n 400 20 (by kernel_rfl)
theorem rp6:a0b C0 224 [str ⟨#[48]⟩,i64 6] (str ⟨#[48,48,48,48,48,48]⟩):=a0b.ev a4n 400 20 (by kernel_rfl)
theorem rp7:a0b C0 224 [str ⟨#[48]⟩,i64 7] (str ⟨#[48,48,48,48,48,48,48]⟩):=a0b.ev a4n 400 20 (by kernel_rfl)
theorem rp8:a0b C0 224 [str ⟨#[48]⟩,i64 8] (str ⟨#[48,48,48,48,48,48,48,48]⟩):=a0b.ev a4n 400 20 (by kernel_rfl)
theorem rp9:a0b C0 224 [str ⟨#[48]⟩,i64 9] (str ⟨#[48,48,48,48,48,48,48,48,48]⟩):=a0b.ev a4n 400 20 (by kernel_rfl)
theorem d5f:a0b C0 224 [str ⟨#[48]⟩,i64 10] (str ⟨#[48,48,48,48,48,48,48,48,48,48]⟩):=a0b.ev a4n 400 20 (by kernel_rfl)
theorem d5A:a0b C0 224 [str ⟨#[48]⟩,i64 11] (str ⟨#[48,48,48,48,48,48,48,48,48,48,48]⟩):=a0b.ev a4n 400 20 (by kernel_rfl)
theorem d5K:a0b C0 224 [str ⟨#[48]⟩,i64 12] (str ⟨#[48,48,48,48,48,48,48,48,48,48,48,48]⟩):=a0b.ev a4n 400 20 (by kernel_rfl)
theorem d5J:a0b C0 224 [str ⟨#[48]⟩,i64 13] (str ⟨#[48,48,48,48,48,48,48,48,48,48,48,48,48]⟩):=a0b.ev a4n 400 20 (by kernel_rfl)
theorem d6e:a0b C0 224 [str ⟨#[48]⟩,i64 14] (str ⟨#[48,48,48,48,48,48,48,48,48,48,48,48,48,48]⟩):=a0b.ev a4n 400 20 (by kernel_rfl)
theorem d5U:a0b C0 224 [str ⟨#[48]⟩,i64 15] (str ⟨#[48,48,48,48,48,48,48,48,48,48,48,48,48,48,48]⟩):=a0b.ev a4n 400 20 (by kernel_rfl)
theorem d6b:a0b C0 224 [str ⟨#[48]⟩,i64 16] (str ⟨#[48,48,48,48,48,48,48,48,48,48,48,48,48,48,48,48]⟩):=a0b.ev a4n 400 20 (by kernel_rfl)
theorem d5R:a0b C0 224 [str ⟨#[48]⟩,i64 17] (str ⟨#[48,48,48,48,48,48,48,48,48,48,48,48,48,48,48,48,48]⟩):=a0b.ev a4n 400 20 (by kernel_rfl)
theorem c5n (n:Nat)(h:n≤17):a0b C0 224 [str ⟨#[48]⟩,i64 (n:Int)] (str ⟨(List.replicate n 48).toArray⟩):=by
 match n,h with
 | 0,_=>exact rp0
 | 1,_=>exact rp1
 | 2,_=>exact rp2
 | 3,_=>exact rp3
 | 4,_=>exact rp4
 | 5,_=>exact rp5
 | 6,_=>exact rp6
 | 7,_=>exact rp7
 | 8,_=>exact rp8
 | 9,_=>exact rp9
 | 10,_=>exact d5f
 | 11,_=>exact d5A
 | 12,_=>exact d5K
 | 13,_=>exact d5J
 | 14,_=>exact d6e
 | 15,_=>exact d5U
 | 16,_=>exact d6b
 | 17,_=>exact d5R
 | n+18,h=>omega
set_option maxHeartbeats 8000000
def a5i (q r:Nat):List UInt8:=if q=0 then Lib.decDigits r else List.replicate (18 - (Lib.decDigits r).length) 48++Lib.decDigits r
theorem b4T:Lib.decDigits 0=[48]:=by unfold Lib.decDigits;rfl
theorem b2c (n:Nat):Lib.decDigits n≠[]:=(a1P n).2.2
theorem c2a (q r:Nat):a5i q r≠[]:=by
 unfold a5i;split
 ·exact b2c r
 ·intro h;exact b2c r (List.append_eq_nil_iff.1 h).2
theorem b7k {q r:Nat}(hq:q≠0):a5i q r=a2k 18 r []:=by
 unfold a5i a2k c6E;rw [if_neg hq]
 by_cases h:r=0
 ·subst h;rw [b4T,if_pos rfl];rfl
 ·rw [if_neg h,List.append_nil]
theorem c1U (B q r:Nat)(hB:B=10^18)(hr:r<B):Lib.decDigits (q*B+r)=if q=0 then a5i q r else Lib.decDigits q++a5i q r:=by
 by_cases hq:q=0
 ·subst hq;rw [if_pos rfl];unfold a5i;rw [if_pos rfl,Nat.zero_mul,Nat.zero_add]
 ·rw [if_neg hq,b7k hq,hB]
  exact b4p 18 q r hq (by rw [← hB];exact hr)
def a3i (P:List (List UInt8)):List UInt8:=P.reverse.flatten
theorem a9A (P:List (List UInt8))(p:List UInt8):a3i (P++[p])=p++a3i P:=by unfold a3i;simp
theorem b8U (a b:List UInt8):sb a++sb b=sb (a++b):=by
 apply ByteArray.ext;simp [ByteArray.data_append]
theorem c0t {P:List (List UInt8)}(h:∀ p∈P,p≠[]):P.length≤(a3i P).length:=by
 unfold a3i;rw [List.length_flatten,← List.length_reverse];generalize hQ:P.reverse=Q;have h':∀ p∈Q,p≠[]:=fun p hp=>h p (by rw [← hQ] at hp;exact List.mem_reverse.1 hp)
 clear hQ h
 induction Q with
 | nil=>exact Nat.le_refl _
 | cons a r ih =>
  have h1:=ih fun p hp=>h' p (List.mem_cons_of_mem _ hp)
  have h2:a.length≠0:=fun q=>h' a List.mem_cons_self (List.eq_nil_of_length_eq_zero q)
  rw [List.map_cons,List.sum_cons,List.length_cons];omega
structure a9L (n m:Nat)(P:List (List UInt8)):Prop where
 ne:m≠0→Lib.decDigits n=Lib.decDigits m++a3i P
 eq:m=0→Lib.decDigits n=a3i P
 all:∀ p∈P,p≠[]
 le:m≤n
theorem a9L.len {n m:Nat}{P:List (List UInt8)}(h:a9L n m P):P.length≤(Lib.decDigits n).length:=by
 have h1:=c0t h.all
 by_cases q:m=0
 ·rw [h.eq q];exact h1
 ·rw [h.ne q,List.length_append];omega
theorem a9L.step {n m:Nat}{P:List (List UInt8)}{B:Nat}(h:a9L n m P)(hm:m≠0)(hB:B=10^18):a9L n (m / B) (P++[a5i (m / B) (m%B)]):=by
 have hB0:0<B:=by rw [hB];decide
 have hd:=c1U B (m / B) (m%B) hB (Nat.mod_lt _ hB0);rw [show m / B*B+m%B=m by rw [Nat.mul_comm];exact Nat.div_add_mod m B] at hd;have hn:=h.ne hm;rw [hd] at hn;refine ⟨fun q=>?_,fun q=>?_,fun p hp=>?_,Nat.le_trans (Nat.div_le_self _ _) h.le⟩
 ·rw [if_neg q] at hn;rw [hn,a9A,List.append_assoc]
 ·rw [if_pos q] at hn;rw [hn,a9A]
 ·rcases List.mem_append.1 hp with hp|hp
  ·exact h.all p hp
  ·rw [List.mem_singleton] at hp;subst hp;exact c2a _ _
abbrev a2q (P:List (List UInt8)):List D:=P.map fun p=>str (sb p)
theorem b0C (x : GI) (h : x.wf) (hf : x.few) : a0b C0 177 [x.D] (str (sb (Lib.itoa x.z))) := by
  refine a0c.walk w1 c4c rfl fun F => ?_
  obtain ⟨z, sm⟩ := x
  obtain ⟨h1, h2⟩ := h
  have hp := a2R ⟨z, sm⟩ ⟨h1, h2⟩
  dsimp only [GI.D, GI.few] at *
  cases sm with
  | true =>
    obtain ⟨h3, h4⟩ := h1 rfl
    have c : a0b C0 221 [i64 z] (str (sb (Lib.itoa z))) := b3t z h3 (by omega)
    unfold GI.s GI.w
    dsimp only
    refine goI dr0 kB c trivial trivial trivial trivial trivial ?_
    exact a0a rfl IsPure.out
  | false =>
    have hz := h2 rfl
    have hz0 : z.natAbs ≠ 0 := fun q => hz (by have : z = 0 := by omega
                                               subst this; exact a0E rfl)
    have hw : GI.w ⟨z, false⟩ = wD z.natAbs := rfl
    have hs : GI.s ⟨z, false⟩ = if z < 0 then -1 else 1 := rfl
    rw [hw] at hp ⊢
    obtain ⟨sg, hsg⟩ : ∃ s, GI.s ⟨z, false⟩ = s := ⟨_, rfl⟩
    rw [hsg] at hp ⊢
    obtain ⟨B, hB⟩ : ∃ B : Nat, B = 10 ^ 18 := ⟨_, rfl⟩
    have hB1 : B < BB := by rw [hB]; decide
    have hB0 : B ≠ 0 := by rw [hB]; decide
    have hB2 : 1 < B := by rw [hB]; decide
    have hBs : u64 1000000000000000000 = a0i B := by rw [hB]; rfl
    have hBl : a0e B = [B] := a3J hB0 hB1
    obtain ⟨n, hn⟩ : ∃ n, z.natAbs = n := ⟨_, rfl⟩
    obtain ⟨neg, hneg⟩ : ∃ b, decide (z < 0) = b := ⟨_, rfl⟩
    rw [hn] at hp hf hz0 ⊢
    rw [hneg] at hp
    have hit : Lib.itoa z = (if neg then [45] else []) ++ Lib.decDigits n := by
      unfold Lib.itoa
      by_cases q : z < 0
      · rw [if_pos q, ← hneg, decide_eq_true q, hn]; rfl
      · rw [if_neg q, ← hneg, decide_eq_false q, ← hn]
        have : z.toNat = z.natAbs := by omega
        rw [this]; rfl
    rw [hit]
    have hDL : (Lib.decDigits n).length ≤ 27 * 1000000 + 1 := a9v (k := 1000000) (by omega)
    have hmpos : ∀ m : Nat, m ≠ 0 → decide ((((a0e m).map a0i).length : Int) > 0) = true := fun m hm => decide_eq_true (by
      rw [a1e hm, List.map_cons, List.length_cons]; omega)
    have hm0 : decide ((((a0e 0).map a0i).length : Int) > 0) = false := decide_eq_false (by rw [a0L]; decide)
    obtain ⟨w0, ws, hws⟩ : ∃ a l, (a0e n).map a0i = a :: l := by
      cases hl : (a0e n).map a0i with
      | nil => exact absurd hl (a1V hz0)
      | cons a l => exact ⟨a, l, rfl⟩
    have hwD : wD n = .sl false 1 (w0 :: ws) := by unfold wD wL; rw [hws]
    have hbD : wD B = .sl false 1 [u64 1000000000000000000] := by unfold wD wL; rw [hBl, hBs]; rfl
    have pw : IsPure (.sl false 1 (w0 :: ws)) := by rw [← hwD]; exact inferInstance
    rw [hwD] at hp ⊢
    clear hit h1 h2 hz hs hsg
    have hne : (w0 :: ws ≠ []) = True := eq_true (List.cons_ne_nil _ _)
    refine goI dr0 hne hp trivial trivial trivial trivial trivial ?_
    rw [← hwD]
    refine OkS.loop (α := Nat × List (List UInt8) × Nat × Nat) (fun p => ⟨[(3, boo neg), (4, wD p.1), (5, wD B), (6, a9e 1303 p.2.2.1 1 (a2q p.2.1))], a7d 1303 p.2.2.1 9 1 (a2q p.2.1), p.2.2.2⟩) (fun p => p.1)
      (fun p => a9L n p.1 p.2.1) (n, [], 0, _) ⟨fun _ => by unfold a3i; simp, fun q => absurd q hz0, fun p hp => absurd hp List.not_mem_nil, Nat.le_refl _⟩ (by refine ⟨.drop .nil, ⟨.refl _, .refl _, ?_, .refl _, trivial⟩, Nat.le_refl _⟩; dsimp only; rw [hbD]; exact .nn true 1 _) ?_
    rintro ⟨m, P, g, cnt⟩ F I
    dsimp only at I ⊢
    have hPl := I.len
    rcases Nat.decEq m 0 with hm | hm
    rotate_left
    · subst hm
      have hdn := I.eq rfl
      have hall := I.all
      have hLn : P.length ≤ 27000001 := by omega
      have hP0 : P ≠ [] := fun q => b2c n (by rw [hdn, q]; rfl)
      obtain ⟨N, hN⟩ : ∃ N, P.length = N := ⟨_, rfl⟩
      have hN0 : N ≠ 0 := fun q => hP0 (List.eq_nil_of_length_eq_zero (by omega))
      rw [hdn]
      clear hwD hbD pw hp hn hPl I
      have elP : (((a2q P).length : Nat) : Int) = (N : Int) := by rw [List.length_map, hN]
      have wN : IntKind.i64.wrap ((N : Int) - 1) = ((N : Int) - 1) := wI (by omega) (by omega)
      refine OkS.seq ?_
      refine sZ 600 ?_
      refine nwI hm0 ?_
      refine ifI ?_
      refine exI ?_
      refine OkS.weak ⟨[(3, boo neg), (6, .sl false 1 (a2q P))], [], _⟩ ⟨?_, ⟨.refl _, ?_, trivial⟩, Nat.le_refl _⟩ ?_
      · have := b7H (K := 1303) (g := g) (T := 9) (sz := 1) (l := a2q P) (r := []) (r' := []) (H := a7d 1303 g 9 1 (a2q P)) (Hf := []) .nil
        rwa [List.append_nil] at this
      · exact b7u _ _ _ _ _
      obtain ⟨c0, hc0⟩ : ∃ c, c = cnt + 1 + 1 + 1 := ⟨_, rfl⟩
      rw [← hc0]
      refine sR 1500 ?_
      obtain ⟨c1, hc1⟩ : ∃ c, c = c0 + 1 := ⟨_, rfl⟩
      refine OkS.seqX (α := D × Nat × Nat) (fun q => ⟨[(6, .sl false 1 (a2q P)), (10, .optr 1500 c0 2 0 0)], bH q.2.1 c0 q.1 (if neg then [45] else []) [], q.2.2⟩) (fun q => q.1 = .prim (.pointer none) ∨ q.1 = .optr 1500 c0 2 0 0) ?_ ?_
      · cases neg
        · refine goI dr0 kB trivial trivial trivial trivial trivial trivial ?_
          exact ⟨by trivial, (.prim (.pointer none), 0, _), .inl rfl, wkI⟩
        · refine goI dr0 kB trivial trivial trivial trivial trivial trivial ?_
          refine a0j.own _ (d4U c0 0 _ (.prim (.pointer none)) (.inl rfl) [] [45] (by decide) [] (by decide)) ?_
          rintro d H' n' ⟨⟨g', rfl⟩, hn'⟩
          refine stI ?_
          exact ⟨by trivial, (.optr 1500 c0 2 0 0, g', _), .inr rfl, wkI⟩
      rintro ⟨p0, gb0, c2⟩ hp0
      dsimp only at hp0 ⊢
      obtain ⟨pre, hpre⟩ : ∃ l, (if neg then [45] else [] : List UInt8) = l := ⟨_, rfl⟩
      have hpl : pre.length ≤ 1 := by rw [← hpre]; split <;> decide
      rw [hpre]
      refine goI dr0 (ff2 elP @wN) trivial trivial trivial trivial trivial trivial ?_
      refine OkS.loop (α := Nat × D × Nat × Nat) (fun q => ⟨[(6, .sl false 1 (a2q P)), (10, .optr 1500 c0 2 0 0), (11, i64 ((q.1 : Int) - 1))], bH q.2.2.1 c0 q.2.1 (pre ++ a3i (P.drop q.1)) [], q.2.2.2⟩) (fun q => q.1)
        (fun q => q.1 ≤ N ∧ (q.2.1 = .prim (.pointer none) ∨ q.2.1 = .optr 1500 c0 2 0 0)) (N, p0, gb0, _) ⟨Nat.le_refl _, hp0⟩ (by dsimp only; rw [← hN, List.drop_length]; unfold a3i; rw [List.reverse_nil, List.flatten_nil, List.append_nil]; exact wkI) ?_
      rintro ⟨k, p, gb, c3⟩ F ⟨hk, hp⟩
      dsimp only at hk hp ⊢
      have hjl : ∀ k, (a3i (P.drop k)).length ≤ (a3i P).length := fun k => by
        unfold a3i
        conv => rhs; rw [← List.take_append_drop k P]
        rw [List.reverse_append, List.flatten_append, List.length_append]; omega
      have hjP : (a3i P).length ≤ 27000001 := by rw [← hdn]; omega
      rcases Nat.eq_zero_or_pos k with hk0 | hk0
      · subst hk0
        have e1 : decide ((((0 : Nat) : Int) - 1) ≥ 0) = false := by decide
        rw [List.drop_zero]
        have hL : pre ++ a3i P ≠ [] := fun q => by
          have := (List.append_eq_nil_iff.1 q).2
          rw [← hdn] at this; exact b2c n this
        obtain ⟨L, hLL⟩ : ∃ L, pre ++ a3i P = L := ⟨_, rfl⟩
        rw [hLL] at hL ⊢
        obtain ⟨y, r, hy⟩ := b4Z hL
        have hlr : L.length = r.length + 1 := by rw [← a4w, hy]; rfl
        refine goI dr0 e1 trivial trivial trivial trivial trivial trivial ?_
        refine a0j.own _ (by
          have := fun n => d3F c0 gb n L hL p []
          unfold bH
          simp only [hy, hlr] at this ⊢
          exact this _) ?_
        rintro d H' n' ⟨rfl, rfl, rfl⟩
        refine goI dr0 kB trivial trivial trivial trivial trivial trivial ?_
        exact a0a rfl IsPure.out
      · obtain ⟨k', rfl⟩ : ∃ k', k = k' + 1 := ⟨k - 1, by omega⟩
        have e1 : decide ((((k' + 1 : Nat) : Int) - 1) ≥ 0) = true := decide_eq_true (by omega)
        have e2 : (((k' + 1 : Nat) : Int) - 1) = (k' : Int) := by omega
        have wk : IntKind.i64.wrap ((k' : Int) - 1) = ((k' : Int) - 1) := wI (by omega) (by omega)
        have e3 : decide ((k' : Int) ≥ 0) = true := decide_eq_true (by omega)
        obtain ⟨t, ht⟩ : ∃ t, P[k']? = some t := a1Y (by omega)
        have hm : (a2q P)[k']? = some (str (sb t)) := by rw [List.getElem?_map, ht]; rfl
        have htn := hall t (List.mem_of_getElem? ht)
        have hdr : P.drop k' = t :: P.drop (k' + 1) := by
          rw [List.drop_eq_getElem_cons (List.getElem?_eq_some_iff.1 ht).1, (List.getElem?_eq_some_iff.1 ht).2]
        have hj : pre ++ a3i (P.drop k') = pre ++ a3i (P.drop (k' + 1)) ++ t := by
          rw [hdr, List.append_assoc]
          congr 1
          unfold a3i
          rw [List.reverse_cons, List.flatten_append]; simp
        have hlt : (pre ++ a3i (P.drop (k' + 1))).length + t.length ≤ 100000000 := by
          have h1 := hjl k'
          have h2 : (pre ++ a3i (P.drop k')).length = (pre ++ a3i (P.drop (k' + 1))).length + t.length := by rw [hj, List.length_append]
          rw [← h2, List.length_append]; omega
        rw [e2]
        refine goI dr0 (ff2 e3 kN) hm trivial trivial trivial trivial trivial ?_
        refine a0j.own _ (d4U c0 gb _ p hp (pre ++ a3i (P.drop (k' + 1))) t htn [] hlt) ?_
        rintro d H' n' ⟨⟨g', rfl⟩, hn'⟩
        refine stI ?_
        refine goI dr0 wk trivial trivial trivial trivial trivial trivial ?_
        exact ⟨(k', .optr 1500 c0 2 0 0, g', _), ⟨by dsimp only; omega, .inr rfl⟩, by dsimp only; omega, by (dsimp only; rw [hj]; exact wkI)⟩
    have e1 := hmpos m hm
    have c1 := d4T m B hB0 (Nat.lt_of_le_of_lt (a0x m n I.le) hf) (by rw [hBl]; show 1 < 1000000; decide)
    have I2 := I.step hm hB
    obtain ⟨q, hq⟩ : ∃ q, m / B = q := ⟨_, rfl⟩
    obtain ⟨r, hr⟩ : ∃ q, m % B = q := ⟨_, rfl⟩
    have hqm : q < m := by rw [← hq]; exact Nat.div_lt_self (Nat.pos_of_ne_zero hm) hB2
    have hrB : r < B := by rw [← hr]; exact Nat.mod_lt _ (Nat.pos_of_ne_zero hB0)
    rw [hq, hr] at c1 I2
    have hsz := a0t (Lib.decDigits r)
    have hdl : (Lib.decDigits r).length ≤ 18 := a1v 17 r (by rw [hB] at hrB; exact hrB)
    have hdl1 : (Lib.decDigits r).length ≠ 0 := fun h => b2c r (List.eq_nil_of_length_eq_zero h)
    refine goI dr0 e1 trivial trivial trivial trivial trivial trivial ?_
    refine cI c1 ?_
    refine sR 800 ?_
    refine OkS.seqX (α := Nat) (fun cnt => ⟨[(3, boo neg), (5, wD B), (6, a9e 1303 g 1 (a2q P)), (7, wD q), (9, str (sb (Lib.decDigits r)))], a7d 1303 g 9 1 (a2q P), cnt⟩) (fun _ => True) ?_ ?_
    · rcases Nat.decEq r 0 with h0 | h0
      · have e2 := hmpos r h0
        have hl1 : a0e r = [r] := a3J h0 (Nat.lt_trans hrB hB1)
        have hmm : ((a0e r).map a0i)[0]? = some (u64 (r : Int)) := by rw [hl1]; rfl
        have c2 := d0b r (Nat.lt_trans hrB hB1)
        refine goI dr0 e2 hmm c2 trivial trivial trivial trivial ?_
        exact ⟨by trivial, _, trivial, wkI⟩
      · subst h0
        rw [b4T]
        refine goI dr0 hm0 trivial trivial trivial trivial trivial trivial ?_
        exact ⟨by trivial, _, trivial, wkI⟩
    rintro cnt2 -
    refine OkS.seqX (α := Nat) (fun cnt => ⟨[(3, boo neg), (5, wD B), (6, a9e 1303 g 1 (a2q P)), (7, wD q), (9, str (sb (a5i q r)))], a7d 1303 g 9 1 (a2q P), cnt⟩) (fun _ => True) ?_ ?_
    · rcases Nat.decEq q 0 with h0 | h0
      · have e2 := hmpos q h0
        have c2 : a0b C0 224 [str ⟨#[48]⟩, i64 ((18 - (Lib.decDigits r).length : Nat) : Int)] (str (sb (List.replicate (18 - (Lib.decDigits r).length) 48))) := c5n (18 - (Lib.decDigits r).length) (by omega)
        have w18 : IntKind.i64.wrap (18 - ((Lib.decDigits r).length : Int)) = ((18 - (Lib.decDigits r).length : Nat) : Int) := by rw [wI (by omega) (by omega)]; omega
        have hap := b8U (List.replicate (18 - (Lib.decDigits r).length) 48) (Lib.decDigits r)
        have hsz2 := a0t (List.replicate (18 - (Lib.decDigits r).length) 48)
        have hpt : List.replicate (18 - (Lib.decDigits r).length) 48 ++ Lib.decDigits r = a5i q r := by unfold a5i; rw [if_neg h0]
        rw [hpt] at hap
        have hsize : (sb (List.replicate (18 - (Lib.decDigits r).length) 48)).size + (sb (Lib.decDigits r)).size ≤ 9223372036854775807 := by
          rw [hsz, hsz2, List.length_replicate]; omega
        refine goI dr0 (ff4 e2 hsz w18 hap) c2 trivial trivial trivial trivial trivial ?_
        exact ⟨by trivial, _, trivial, wkI⟩
      · subst h0
        have hpt : a5i 0 r = Lib.decDigits r := if_pos rfl
        rw [hpt]
        refine goI dr0 hm0 trivial trivial trivial trivial trivial trivial ?_
        exact ⟨by trivial, _, trivial, wkI⟩
    rintro cnt3 -
    have hsn : a2q (P ++ [a5i q r]) = a2q P ++ [str (sb (a5i q r))] := by unfold a2q; rw [List.map_append]; rfl
    have hPL : (a2q P).length = P.length := List.length_map ..
    rcases hPD : a2q P with _ | ⟨y, l⟩
    all_goals
      rw [hPD] at hsn hPL
      dsimp only [a3w, a3s, a2C, a2G, List.nil_append]
    · refine goI dr0 kB trivial trivial trivial trivial trivial trivial ?_
      exact ⟨(q, P ++ [a5i q r], _, _), I2, hqm, by (dsimp only; rw [hsn]; exact wkI)⟩
    · have htk : List.take (l.length + 1) (y :: l) = y :: l := by simp
      have hll : l.length + 1 ≤ 27000001 := by rw [List.length_cons] at hPL; omega
      refine goI dr0 htk trivial trivial trivial trivial trivial trivial ?_
      exact ⟨(q, P ++ [a5i q r], _, _), I2, hqm, by (dsimp only; rw [hsn, a3d]; exact wkI)⟩
abbrev b4z:Dr:=[(3,[0,1,2,3,4,5,6],[7,8])]
open Go.Proofs Go.RowKit
set_option maxRecDepth 20000
set_option maxHeartbeats 4000000
theorem c1n (x:Nat)(hx:x<BB):a0b C0 261 [a0i x] (i64 (Lib.bitLen x:Int)):=by
 refine ⟨⟨_,_,Tryz.func261,rfl,by kernel_rfl⟩,fun Y w vs hG hnG hX hvs hr=>?_⟩
 have:=a7F hvs hr
 subst this;refine (Tryz.bits_Len64 x w (by omega) (by unfold BB at hx;omega)).mono ?_;rintro e w' ⟨rfl,rfl⟩;exact ⟨_,_,rfl,.refl _ _,rfl,.prim _⟩
def b1b (n:Nat):Nat:=(a0e n).getD ((a0e n).length - 1) 0
def a7R (n:Nat):Nat:=if n=0 then 0 else 64*((a0e n).length - 1)+Lib.bitLen (b1b n)
theorem c5C (n:Nat):n<2^a7R n:=by
 unfold a7R
 by_cases h:n=0
 ·subst h;rw [if_pos rfl];decide
 ·rw [if_neg h]
  have hl:(a0e n).length≠0:=fun q=>by
   have:=a1e h
   rw [this] at q;simp at q
  obtain ⟨k,hk⟩:∃ k,(a0e n).length=k+1:=⟨(a0e n).length - 1,by omega⟩
  have hat:(a0e n)[k]? = some (b1b n):=by
   unfold b1b;rw [hk,Nat.add_sub_cancel,List.getD_eq_getElem?_getD,List.getElem?_eq_getElem (by omega)];rfl
  have hv:=a4J hat;rw [List.drop_of_length_le (by omega),a0K] at hv;have ht:b1b n<BB:=a1g n _ (List.mem_of_getElem? hat);have h1:a0k ((a0e n).take k)<BB^k:=by
   have:=a2K (l:=(a0e n).take k) fun a ha=>a1g n a (List.mem_of_mem_take ha)
   rwa [List.length_take,Nat.min_eq_left (by omega)] at this
  have h2:b1b n<2^Lib.bitLen (b1b n):=by
   by_cases t0:b1b n=0
   ·rw [t0];exact Nat.two_pow_pos _
   ·exact (Lib.bitLenAux_bounds 64 (b1b n) ht t0).2.2
  have h3:BB^k=2^(64*k):=by rw [Nat.pow_mul]
  rw [hk,Nat.add_sub_cancel,Nat.pow_add,← h3];have h4:n=a0k ((a0e n).take k)+BB^k*b1b n:=by simpa [a0k] using hv
  have h5:BB^k*(b1b n+1)≤BB^k*2^Lib.bitLen (b1b n):=Nat.mul_le_mul_left _ h2;rw [Nat.mul_add,Nat.mul_one] at h5;omega
def b0P (n:Nat):Bool:=decide (600<(Lib.decDigits n).length)
theorem c0s (n:Nat):b0P n=(decide (a7R n>1800)&&b0P n):=by
 by_cases h:a7R n>1800
 ·rw [decide_eq_true h,Bool.true_and]
 ·rw [decide_eq_false h,Bool.false_and]
  have key:∀ k,a7R n≤3*(k+1)→(Lib.decDigits n).length≤k+1:=fun k hk=>a1v k n (Nat.lt_of_lt_of_le (c5C n) (Nat.le_trans (Nat.pow_le_pow_right (by decide) hk) (by rw [Nat.pow_mul];exact Nat.pow_le_pow_left (by decide) (k+1))))
  have h4:=key 599 (by omega);exact decide_eq_false (by omega)
theorem c8a (x:GI)(h:x.wf)(hf:x.few):a0b C0 230 [x.D] (i64 (a7R x.z.natAbs:Nat)):=by
 refine a0c.walk w1 c3P rfl fun F=>?_
 have c1:=a2R x h;obtain ⟨n,hn⟩:∃ n,x.z.natAbs=n:=⟨_,rfl⟩
 unfold GI.few at hf;rw [hn] at c1 hf ⊢;have el:((((a0e n).map a0i).length:Nat):Int)=((a0e n).length:Int):=by rw [List.length_map]
 unfold wD wL at c1;dsimp only [GI.D] at c1 ⊢
 by_cases h0:n=0
 ·have e1:(((a0e n).length:Int)==0)=true:=by rw [h0,a0L];rfl
  have hb:a7R n=0:=if_pos h0;rw [hb];refine goI dr0 (ff2 e1 el) c1 trivial trivial trivial trivial trivial ?_;exact a0a rfl IsPure.out
 ·have hl:(a0e n).length≠0:=fun q=>by
   have:=a1e h0
   rw [this] at q;simp at q
  have e1:(((a0e n).length:Int)==0)=false:=c7n hl;have wl:IntKind.i64.wrap (((a0e n).length:Int) - 1)=(((a0e n).length - 1:Nat):Int):=by rw [wI (by omega) (by omega)];omega
  have wm:IntKind.i64.wrap (64*(((a0e n).length - 1:Nat):Int))=((64*((a0e n).length - 1):Nat):Int):=by rw [wI (by omega) (by omega)];omega
  have hat:(a0e n)[(a0e n).length - 1]? = some (b1b n):=by
   unfold b1b;rw [List.getD_eq_getElem?_getD,List.getElem?_eq_getElem (by omega)];rfl
  have hm:((a0e n).map a0i)[(a0e n).length - 1]? = some (u64 (b1b n:Int)):=by rw [List.getElem?_map,hat];rfl
  have ht:b1b n<BB:=a1g n _ (List.mem_of_getElem? hat);have c2:=c1n (b1b n) ht;have hbl:=Lib.bitLen_le (b1b n) 64 (Nat.le_refl _) ht;have wa:IntKind.i64.wrap (((64*((a0e n).length - 1):Nat):Int)+(Lib.bitLen (b1b n):Int))=((a7R n:Nat):Int):=by
   have hb:a7R n=64*((a0e n).length - 1)+Lib.bitLen (b1b n):=if_neg h0;rw [hb,wI (by omega) (by omega)];omega
  refine goI dr0 (ff6 e1 el wl wm wa kN) c1 hm c2 trivial trivial trivial ?_;exact a0a rfl IsPure.out
theorem c3b (x:GI)(h:x.wf)(hf:x.few):a0b C0 191 [x.D] (boo (b0P x.z.natAbs)):=by
 refine a0c.walk w1 c3A rfl fun F=>?_
 have c1:=c8a x h hf;have c2:=b0C x h hf;have hlen:(Lib.decDigits x.z.natAbs).length≤27*1000000+1:=a9v (k:=1000000) (by unfold GI.few at hf;omega);have hil:(Lib.itoa x.z).length≤27000002:=by
  unfold Lib.itoa;split
  ·rw [List.length_cons];omega
  ·rw [show x.z.toNat=x.z.natAbs by omega];omega
 have c3:=a3U (Lib.itoa x.z) (by omega);rw [(a6a x.z).2] at c3;have hsz:=a0t (Lib.decDigits x.z.natAbs);have hlb:=c0s x.z.natAbs;obtain ⟨b,hb⟩:∃ b,b0P x.z.natAbs=b:=⟨_,rfl⟩
 have e2:decide (((Lib.decDigits x.z.natAbs).length:Int)>600)=b:=by rw [← hb];exact decide_eq_decide.2 (by omega)
 obtain ⟨p,hp⟩:∃ b,decide (a7R x.z.natAbs>1800)=b:=⟨_,rfl⟩
 have e1:decide (((a7R x.z.natAbs:Nat):Int)>1800)=p:=by rw [← hp];exact decide_eq_decide.2 (by omega)
 rw [hb,hp] at hlb;rw [hb,hlb];dsimp only [GI.D] at c1 c2 ⊢;cases p
 ·refine goI dr0 e1 c1 trivial trivial trivial trivial trivial ?_
  exact a0a rfl IsPure.out
 ·refine goI dr0 (ff3 e1 e2 hsz) c1 c2 c3 trivial trivial trivial ?_
  exact a0a rfl IsPure.out
theorem c4R {r:Rat}{x:GF}{k:Nat}(h:FR r x k)(hk:k<100000):x.n.wf∧x.n.few∧(mkG (x.d:Int)).wf∧(mkG (x.d:Int)).few∧x.n.z=r.num∧x.d=r.den∧0<x.d :=
 ⟨h.is.1,h.fn (by omega),a0G _,by
  show (a0e ((x.d:Int)).natAbs).length<1000000;rw [Int.natAbs_natCast];have:=h.ld;omega,h.is.2.1,h.is.2.2,h.dpos⟩
theorem c6m {r:Rat}{x:GF}{k:Nat}(h:FR r x k)(hk:k<100000):a0b C0 125 [x.D] (boo (c0K r)):=by
 refine a0c.walk w1 c3R rfl fun F=>?_
 obtain ⟨h1,h2,h3,h4,h5,h6,_⟩:=c4R h hk;have c1:=c3b x.n h1 h2;have c2:=c3b (mkG (x.d:Int)) h3 h4;have hb:c0K r=(b0P x.n.z.natAbs||b0P (mkG (x.d:Int)).z.natAbs):=by
  unfold c0K b0P;rw [h5,← h6];rfl
 rw [hb];obtain ⟨p,hp⟩:∃ b,b0P x.n.z.natAbs=b:=⟨_,rfl⟩
 obtain ⟨q,hq⟩:∃ b,b0P (mkG (x.d:Int)).z.natAbs=b:=⟨_,rfl⟩
 rw [hp] at c1;rw [hq] at c2;rw [hp,hq];dsimp only [GI.D,GF.D] at c1 c2 ⊢;generalize mkG (x.d:Int)=y at c2 ⊢;cases p<;>cases q
 all_goals
  refine goI dr0 kB c1 c2 trivial trivial trivial trivial ?_;exact a0a rfl IsPure.out
theorem c8b {r:Rat}{x:GF}{k:Nat}(h:FR r x k)(hk:k<100000):a0b C0 111 [x.D] (str (sb (txt r))):=by
 refine a0c.walk w1 c3t rfl fun F=>?_
 obtain ⟨h1,h2,h3,h4,h5,h6,h7⟩:=c4R h hk;have c0:=a8x x h7;have c1:=b0C x.n h1 h2;have c2:=b0C (mkG (x.d:Int)) h3 h4;have hd:Lib.itoa (mkG (x.d:Int)).z=Lib.decDigits r.den:=by
  show Lib.itoa (x.d:Int)=_;unfold Lib.itoa;rw [if_neg (by omega),h6];rfl
 rw [hd] at c2;rw [h5] at c1;have l1:(Lib.itoa r.num).length≤27000002:=by
  have:(Lib.decDigits x.n.z.natAbs).length≤27*1000000+1:=a9v (k:=1000000) (by unfold GI.few at h2;omega)
  rw [h5] at this;unfold Lib.itoa;split
  ·rw [List.length_cons];omega
  ·rw [show r.num.toNat=r.num.natAbs by omega];omega
 have l2:(Lib.decDigits r.den).length≤27000001:=by
  have:(Lib.decDigits (mkG (x.d:Int)).z.natAbs).length≤27*1000000+1:=a9v (k:=1000000) (by unfold GI.few at h4;omega)
  rw [← h6];exact this
 have s1:=a0t (Lib.itoa r.num);have s2:=a0t (Lib.decDigits r.den);have s3:(sb [47]).size=1:=rfl;have s4:=a0t (Lib.itoa r.num++[47]);have z1:(sb (Lib.itoa r.num)).size+(sb [47]).size≤9223372036854775807:=by rw [s1,s3];omega
 have z2:(sb (Lib.itoa r.num++[47])).size+(sb (Lib.decDigits r.den)).size≤9223372036854775807:=by rw [s4,s2,List.length_append,List.length_singleton];omega
 have a1:sb (Lib.itoa r.num)++(⟨#[47]⟩:ByteArray)=sb (Lib.itoa r.num++[47]):=b8U _ [47];have a2:=b8U (Lib.itoa r.num++[47]) (Lib.decDigits r.den);rw [List.append_assoc] at a2;dsimp only [GI.D,GF.D] at c0 c1 c2 ⊢;generalize mkG (x.d:Int)=y at c0 c2 ⊢;unfold txt
 by_cases g:x.d=1
 ·rw [decide_eq_true g] at c0
  rw [if_pos (h6 ▸ g)];refine goI b4z kB c0 c1 trivial trivial trivial trivial ?_;exact a0a rfl IsPure.out
 ·rw [decide_eq_false g] at c0
  rw [if_neg (fun q=>g (h6.trans q))];refine goI b4z (ff2 a1 a2) c0 c1 c2 trivial trivial trivial ?_;exact a0a rfl IsPure.out
abbrev a3F:Dr:=[(6,[0,1,2,3,4,5],[6,7,8,9])]
open Go.Proofs Go.RowKit
set_option maxRecDepth 20000
set_option maxHeartbeats 4000000
def b8n {α:Type}(f:α→Nat):List α→Nat
 | []=>0
 | a::r=>if f a≠0 then f a else b8n f r
theorem b2s {α:Type}{f:α→Nat}{l:List α}{i:Nat}(ha:∀ (j:Nat) (y:α),j<i→l[j]? = some y→f y=0):b8n f l=b8n f (l.drop i):=by
 induction l generalizing i with
 | nil=>simp
 | cons a r ih =>
  cases i with
  | zero=>rfl
  | succ i =>
   have h0:=ha 0 a (by omega) rfl;show (if f a≠0 then f a else b8n f r)=_;rw [if_neg (fun k=>k h0),List.drop_succ_cons];exact ih fun j y hj hy=>ha (j+1) y (by omega) hy
theorem c0G {α:Type}{f:α→Nat}{v:List α}{i:Nat}{l:α}(ha:∀ (j:Nat) (y:α),j<i→v[j]? = some y→f y=0)(hl:v[i]? = some l)(h:f l≠0):b8n f v=f l:=by
 rw [b2s ha,List.drop_eq_getElem_cons (List.getElem?_eq_some_iff.1 hl).1,(List.getElem?_eq_some_iff.1 hl).2];exact if_pos h
theorem b5C {α:Type}{f:α→Nat}{v:List α}(ha:∀ (j:Nat) (y:α),j<v.length→v[j]? = some y→f y=0):b8n f v=0:=by
 rw [b2s (i:=v.length) ha,List.drop_length];rfl
theorem b9W {α:Type}{f:α→Nat}{v:List α}(h:b8n f v=0):∀ l∈v,f l=0:=by
 induction v with
 | nil=>intro l hl;cases hl
 | cons a r ih =>
  have h':(if f a≠0 then f a else b8n f r)=0:=h
  by_cases g:f a=0
  ·rw [if_neg (fun k=>k g)] at h'
   intro l hl;rcases List.mem_cons.1 hl with rfl|h2
   ·exact g
   ·exact ih h' l h2
  ·rw [if_pos g] at h';exact absurd h' g
def a2i (n:Nat)(r:a0I):Nat:=if unk r.fac n≠0 then unk r.fac n else if chk r.step≠0 then chk r.step else if a3S (a0g r.step)≤0 then 3 else if chk r.price≠0 then chk r.price else if a3S (a0g r.price)<0 then 3 else 0
def a1s (n:Nat)(l:List a0I):Nat:=if 256<l.length then 5 else b8n (a2i n) l
theorem a3u {n:Nat}{r:a0I}(h:a2i n r=0):unk r.fac n=0∧chk r.step=0∧0<a3S (a0g r.step)∧chk r.price=0∧0≤a3S (a0g r.price):=by
 unfold a2i at h;split at h
 ·rename_i g;exact absurd h g
 ·split at h
  ·rename_i g;exact absurd h g
  ·split at h
   ·cases h
   ·split at h
    ·rename_i g;exact absurd h g
    ·split at h
     ·cases h
     ·exact ⟨by omega,by omega,by omega,by omega,by omega⟩
theorem b3Y {r:Rat}(h:0<a3S r):r≠0:=fun q=>by subst q;exact absurd h (by decide)
def b6M (l:List a0I):Prop:=∀ r∈l,r.step.length≤40∧r.price.length≤40
theorem d4Z:a0b C0 57 [i64 0] (⟨mkG 0,1⟩:GF).D:=d5c 0
theorem c3m (a b:List UInt8)(x:Rat)(y:GF)(k:Nat)(hk:k<100000)(hx:FR x y k)(ha:a≠[]→FR (a0g a) (a4l a) k)(hb:b≠[]→FR (a0g b) (a4l b) k):a0b C0 67 [a3n a b,y.D] (b3a a b x y).D:=by
 refine a0c.walk w1 c7J rfl fun F=>?_
 have hw:b3a a b x y=if (!decide (a=[])&&decide (a2H x (a0g a)<0))=true then c0J (a4l a) y else if (!decide (b=[])&&decide (a2H x (a0g b)>0))=true then c0J y (a4l b) else ⟨mkG 0,1⟩:=rfl
 obtain ⟨qa,ga⟩:∃ q,decide (a=[])=q:=⟨_,rfl⟩
 obtain ⟨qb,gb⟩:∃ q,decide (b=[])=q:=⟨_,rfl⟩
 obtain ⟨p,hp⟩:∃ q,decide (a2H x (a0g a)<0)=q:=⟨_,rfl⟩
 obtain ⟨q,hq⟩:∃ q,decide (a2H x (a0g b)>0)=q:=⟨_,rfl⟩
 have c1:qa=false→a0b C0 121 [y.D,(a4l a).D] (i64 (a2H x (a0g a))):=fun h=>b9P hx (ha (of_decide_eq_false (ga.trans h))) (by omega)
 have c2:qb=false→a0b C0 121 [y.D,(a4l b).D] (i64 (a2H x (a0g b))):=fun h=>b9P hx (hb (of_decide_eq_false (gb.trans h))) (by omega)
 have d1:qa=false→a0b C0 124 [(a4l a).D,y.D] (c0J (a4l a) y).D:=fun h=>c2U (ha (of_decide_eq_false (ga.trans h))) hx (by omega)
 have d2:qb=false→a0b C0 124 [y.D,(a4l b).D] (c0J y (a4l b)).D:=fun h=>c2U hx (hb (of_decide_eq_false (gb.trans h))) (by omega)
 have c0:=d4Z;unfold a3n;rw [hw,ga,gb,hp,hq];clear hw ga gb hx ha hb;generalize c0J (a4l a) y=A at *;generalize c0J y (a4l b)=B at *;generalize (⟨mkG 0,1⟩:GF)=Z at *;cases qa<;>cases qb<;>cases p<;>cases q
 all_goals
  refine goI dr0 (ff2 hp hq) c1 c2 d1 d2 c0 trivial ?_;exact a0a rfl IsPure.out
theorem b0R (n:Nat)(G:List (List LP))(l:List a0I)(hl:l.length≤9223372036854775807)(hf:b6M l):a0b C0 68 [b6B n G,.sl false 3 (l.map a0I.D)] (i64 (a1s n l:Nat)):=by
 refine a0c.walk w1 d1F rfl fun F=>?_
 have el:(((l.map a0I.D).length:Nat):Int)=(l.length:Int):=by rw [List.length_map]
 have cf:=fun g=>b3P n G g
 by_cases h1:256<l.length
 ·have e1:decide ((l.length:Int)>256)=true:=decide_eq_true (by omega)
  have hv:a1s n l=5:=if_pos h1;rw [hv];refine goI a3F (ff2 el e1) trivial trivial trivial trivial trivial trivial ?_;exact a0a rfl IsPure.out
 have e1:decide ((l.length:Int)>256)=false:=decide_eq_false (by omega);have hv:a1s n l=b8n (a2i n) l:=if_neg h1;rw [hv];refine goI a3F (ff2 el e1) trivial trivial trivial trivial trivial trivial ?_;refine OkS.loop (α:=Nat × Nat) (fun p=>⟨[(2,.optr 0 0 2 0 0),(12,.sl false 3 (l.map a0I.D)),(13,i64 (l.length:Int)),(14,i64 (p.1:Int))],[⟨0,0,134,2,[b6B n G]⟩],p.2⟩) (fun p=>l.length - p.1)
  (fun p=>p.1≤l.length∧∀ (j:Nat) (r:a0I),j<p.1→l[j]? = some r→a2i n r=0) (0,_) ⟨Nat.zero_le _,fun j r hj=>absurd hj (Nat.not_lt_zero j)⟩ wkI ?_
 rintro ⟨i,m⟩ F ⟨hi,ha⟩;dsimp only at hi ha ⊢;rcases Nat.lt_or_ge i l.length with h2|h2
 rotate_left
 ·have e2:=ltF h2
  have:i=l.length:=by omega
  subst this;rw [b5C ha];refine goI a3F e2 trivial trivial trivial trivial trivial trivial ?_;exact a0a rfl IsPure.out
 have e2:=ltT h2;have wi:=wiI (i:=i) (by omega);obtain ⟨r,hr⟩:=a1Y h2;obtain ⟨f1,f2⟩:=hf r (List.mem_of_getElem? hr);have hm:(l.map a0I.D)[i]? = some (.agg [i64 r.fac,str (sb r.step),str (sb r.price)]):=by rw [List.getElem?_map,hr];rfl
 have c1:=cf r.fac;have c2:=a4Y r.step (by omega);have c3:=a4Y r.price (by omega);have c4:a0b C0 96 [.sl true 1 [i64 (unk r.fac n:Nat),i64 (chk r.step:Nat)]] (i64 (a2d [(unk r.fac n:Int),(chk r.step:Int)])):=a8w [(unk r.fac n:Int),(chk r.step:Int)] (by simp);have hat:=fun h=>c0G (f:=a2i n) ha hr h
 have hq:a2i n r=if unk r.fac n≠0 then unk r.fac n else if chk r.step≠0 then chk r.step else if a3S (a0g r.step)≤0 then 3 else if chk r.price≠0 then chk r.price else if a3S (a0g r.price)<0 then 3 else 0:=rfl
 have d1:chk r.step=0→a0b C0 70 [str (sb r.step)] (a1E r.step).D:=fun h=>a7f (by omega) h
 have d2:chk r.price=0→a0b C0 70 [str (sb r.price)] (a1E r.price).D:=fun h=>a7f (by omega) h
 have s1:chk r.step=0→a0b C0 122 [(a1E r.step).D] (i64 (a3S (a0g r.step))):=fun h=>b0K (a9x h).is
 have s2:chk r.price=0→a0b C0 122 [(a1E r.price).D] (i64 (a3S (a0g r.price))):=fun h=>b0K (a9x h).is
 generalize chk r.step=K1 at *;generalize chk r.price=K2 at *;generalize a1E r.step=A1 at *;generalize a1E r.price=A2 at *;generalize a3S (a0g r.step)=S1 at *;generalize a3S (a0g r.price)=S2 at *;generalize unk r.fac n=U at *;obtain ⟨Q,hQ⟩:∃ Q,a2i n r=Q:=⟨_,rfl⟩
 rw [hQ] at hq hat;rcases Nat.decEq U 0 with h3|h3
 ·have hu:(a2d [(U:Int),(K1:Int)])=(U:Int):=if_pos (by omega)
  have e3:=b2F h3;rw [hu] at c4;rw [if_pos h3] at hq;rw [hat (by omega),hq];refine goI a3F (ff3 e2 e3 kN) hm c1 c2 c4 trivial trivial ?_;exact a0a rfl IsPure.out
 rw [if_neg (fun k=>k h3)] at hq;rcases Nat.decEq K1 0 with h4|h4
 ·have hu:(a2d [(U:Int),(K1:Int)])=(K1:Int):=by
   show (if (U:Int)≠0 then (U:Int) else if (K1:Int)≠0 then (K1:Int) else 0)=_;rw [if_neg (by omega),if_pos (by omega)]
  have e3:=b2F h4;rw [hu] at c4;rw [if_pos h4] at hq;rw [hat (by omega),hq];refine goI a3F (ff3 e2 e3 kN) hm c1 c2 c4 trivial trivial ?_;exact a0a rfl IsPure.out
 have hu:(a2d [(U:Int),(K1:Int)])=((0:Nat):Int):=by
  show (if (U:Int)≠0 then (U:Int) else if (K1:Int)≠0 then (K1:Int) else 0)=_;rw [if_neg (by omega),if_neg (by omega)];rfl
 have e3:=b6h (a:=0) rfl;rw [hu] at c4;rw [if_neg (fun k=>k h4)] at hq;have d1:=d1 h4;have s1:=s1 h4
 by_cases h5:S1≤0
 ·have e5:decide (S1≤0)=true:=decide_eq_true h5
  rw [if_pos h5] at hq;rw [hat (by omega),hq];refine goI a3F (ff4 e2 e3 e5 kN) hm c1 c2 c4 d1 s1 ?_;exact a0a rfl IsPure.out
 have e5:decide (S1≤0)=false:=decide_eq_false h5;rw [if_neg h5] at hq;refine goI a3F (ff4 e2 e3 e5 kN) hm c1 c2 c4 d1 s1 ?_;rcases Nat.decEq K2 0 with h6|h6
 ·have e6:=b2F h6
  rw [if_pos h6] at hq;rw [hat (by omega),hq];refine goI a3F (ff2 e6 kN) c3 trivial trivial trivial trivial trivial ?_;exact a0a rfl IsPure.out
 have e6:=b6h h6;rw [if_neg (fun k=>k h6)] at hq;have d2:=d2 h6;have s2:=s2 h6
 by_cases h7:S2<0
 ·have e7:decide (S2<0)=true:=decide_eq_true h7
  rw [if_pos h7] at hq;rw [hat (by omega),hq];refine goI a3F (ff3 e6 e7 kN) c3 d2 s2 trivial trivial trivial ?_;exact a0a rfl IsPure.out
 have e7:decide (S2<0)=false:=decide_eq_false h7;rw [if_neg h7] at hq;refine goI a3F (ff4 e6 e7 wi kN) c3 d2 s2 trivial trivial trivial ?_;exact ⟨(i+1,_),⟨h2,a5C hr ha (hQ.trans hq)⟩,by dsimp only;omega,wkI⟩
def b3S (r:Rat):List UInt8:=if c0K r=true then [] else txt r
def b4o (r:Rat):Nat:=if c0K r=true then 4 else 0
theorem b7n {r:Rat}{x:GF}{k:Nat}(h:FR r x k)(hk:k<100000):a0b C0 62 [x.D] (.tup [str (sb (b3S r)),i64 (b4o r:Nat)]):=by
 refine a0c.walk w1 d1h rfl fun F=>?_
 have c1:=c6m h hk;have c2:=c8b h hk;unfold b3S b4o;obtain ⟨b,hb⟩:∃ b,c0K r=b:=⟨_,rfl⟩
 rw [hb] at c1 ⊢;cases b
 all_goals
  refine goI dr0 kB c1 c2 trivial trivial trivial trivial ?_;exact a0a rfl IsPure.out
abbrev a8u:Dr:=[(8,[0,1,2,3,4,5,6,7,8,9,10,11,12,13,14],[15])]
open Go.Proofs Go.RowKit
set_option maxRecDepth 20000
set_option maxHeartbeats 4000000
def a5q (r:List LP)(v:List (List UInt8))(k:Nat):Rat:=a8v (pv r k).1 (pv r k).2 (a0g (lv v k))
def a5v (r:List LP)(v:List (List UInt8))(n:Nat):List (List UInt8):=(List.range n).map fun k=>txt (a5q r v k)
theorem b4a (r:List LP)(v:List (List UInt8))(n:Nat):a5v r v (n+1)=a5v r v n++[txt (a5q r v n)]:=by
 unfold a5v;rw [List.range_succ,List.map_append];rfl
def S40 (v:List (List UInt8)):Prop:=∀ l∈v,l.length≤40
def G40 (s:a1K):Prop:=∀ g∈s.gs,S40 g.least∧S40 g.most
def c8J (r:List LP):Prop:=∀ p∈r,p.1.length≤40∧p.2.length≤40
theorem c1I {v:List (List UInt8)}(h:S40 v)(k:Nat):(lv v k).length≤40:=by
 unfold lv;rw [List.getD_eq_getElem?_getD];cases hk:v[k]? with
 | none=>exact Nat.zero_le _
 | some l=>exact h l (List.mem_of_getElem? hk)
theorem c0v {s:a1K}(h:G40 s):∀ r∈a1q s,c8J r:=fun r hr p hp=>by
 obtain ⟨g,hg,rfl⟩:=List.mem_map.1 hr;obtain ⟨p1,p2⟩:=p
 have:=List.of_mem_zip hp
 exact ⟨(h g hg).1 _ this.1,(h g hg).2 _ this.2⟩
theorem a5u {l:List UInt8}(h:a2t l=0)(h4:l.length≤40)(h0:l≠[]):FR (a0g l) (a4l l) 3:=⟨(b3U h h0).is,rk3 (a1C h h0) h4⟩
theorem a9Q {l:List UInt8}(h:chk l=0)(h4:l.length≤40):FR (a0g l) (a1E l) 3:=⟨(a9x h).is,rk3 h h4⟩
theorem b4X {l:List UInt8}(h:a2t l=0)(h4:l.length≤40)(h0:l≠[]):nb (a0g l) E40 E40:=a6S (a1C h h0) h4
def b0T (s:a1K)(g:Int)(v:List (List UInt8)):List (List UInt8):=if a9k s g v=0 then a5v (b6j (a1q s) g.toNat) v v.length else []
theorem d3T (s:a1K)(hs:s.few)(h4:G40 s)(g:Int)(b:Bool)(v:List (List UInt8))(hf:Few v)(hv4:S40 v):a0b C0 17 [s.D,i64 g,txD b v] (.tup [.sl false 1 ((b0T s g v).map fun l=>str (sb l)),i64 (a9k s g v:Nat)]):=by
 refine a0c.walk w1 d0J rfl fun F=>?_
 have c1:=b1F s hs g b v hf;have hok:=@b3E s g v;have hr:b0T s g v=if a9k s g v=0 then a5v (b6j (a1q s) g.toNat) v v.length else []:=rfl
 rw [hr];obtain ⟨q,hq⟩:∃ q,a9k s g v=q:=⟨_,rfl⟩
 rw [hq] at c1 hok ⊢;unfold a1K.D at c1 ⊢;rcases Nat.decEq q 0 with h0|h0
 ·have e0:=b2F h0
  obtain ⟨x,y,ho⟩:=b1R s;rw [ho] at c1;rw [if_neg h0];refine goI a8u e0 c1 trivial trivial trivial trivial trivial ?_;exact ⟨_,b9m (.nil 1),IsPure.out,rfl⟩
 have e0:=b6h h0;obtain ⟨k0,k1,k2,k3⟩:=hok h0;obtain ⟨gn,rfl,hgn⟩:=a3X k1;have hd:a7v s=b6B s.fs.length (a1q s):=if_pos k0;have hd2:c0Y q v=frD v:=if_pos h0;have hG:=b1l (a2A k0);have hG4:=c0v h4;have h8:=(a2A k0).1;have hgl:=b1n s;rw [hd,hd2] at c1;rw [if_pos h0,Int.toNat_natCast];clear hd hd2 hr;obtain ⟨G,hGG⟩:∃ A,a1q s=A:=⟨_,rfl⟩
 obtain ⟨n,hn⟩:∃ A,s.fs.length=A:=⟨_,rfl⟩
 rw [hGG] at c1 hG hgl hG4 ⊢;rw [hn] at c1 hG h8 k2;have hlen:=hG.len;have el:(((v.map fun l=>(a1E l).D).length:Nat):Int)=(v.length:Int):=by rw [List.length_map]
 have hr1:=a9S (G:=G) (g:=gn) (by omega);obtain ⟨r,hr⟩:∃ r,b6j G gn=r:=⟨_,rfl⟩
 rw [hr] at hr1 ⊢;have hm1:(G.map b4U)[gn]? = some (.sl false 10 (r.map fun p=>a3n p.1 p.2)):=by rw [List.getElem?_map,hr1];rfl
 obtain ⟨hl,hE⟩:=hG.row r (List.mem_of_getElem? hr1);have hr4:=hG4 r (List.mem_of_getElem? hr1);unfold frD at c1;refine goI a8u (ff2 e0 el) c1 trivial trivial trivial trivial trivial ?_;refine OkS.loop (α:=Nat × List D × Nat × Nat) (fun p=>⟨[(1,i64 (gn:Int)),(8,.optr 108 11 2 0 0),(11,a9e 1103 p.2.2.1 1 p.2.1),(27,.sl false 4 (v.map fun l=>(a1E l).D)),(28,i64 (v.length:Int)),(29,i64 (p.1:Int))],a7d 1103 p.2.2.1 24 1 p.2.1++[⟨108,11,134,2,[b6B n G]⟩],p.2.2.2⟩) (fun p=>v.length - p.1)
  (fun p=>p.1≤v.length∧p.2.1=(a5v r v p.1).map fun l=>str (sb l)) (0,[],0,_) ⟨Nat.zero_le _,rfl⟩ wkI ?_
 rintro ⟨i,L,g2,m⟩ F ⟨hi,hL⟩;dsimp only at hi hL ⊢;rcases Nat.lt_or_ge i v.length with h2|h2
 rotate_left
 ·have e1:=ltF h2
  have:i=v.length:=by omega
  subst this;refine goI a8u e1 trivial trivial trivial trivial trivial trivial ?_;subst hL;exact ⟨_,b9m (b1v b4u rfl),IsPure.out,by rw [h0];rfl⟩
 have e1:=ltT h2;have wi:=wiI (i:=i) (by omega);obtain ⟨l,hl2⟩:=a1Y h2;have hm:(v.map fun l=>(a1E l).D)[i]? = some (a1E l).D:=by rw [List.getElem?_map,hl2];rfl
 have hc:=a2w k3 l (List.mem_of_getElem? hl2);have hx:=a9Q hc (hv4 l (List.mem_of_getElem? hl2));have hxn:=a6S hc (hv4 l (List.mem_of_getElem? hl2));have hsn:((a5v r v (i+1)).map fun l=>str (sb l))=L++[str (sb (txt (a5q r v i)))]:=by rw [hL,b4a,List.map_append];rfl
 have hLl:L.length≤i:=by
  rw [hL];unfold a5v;rw [List.length_map,List.length_map,List.length_range];exact Nat.le_refl _
 have hp:=b4i (r:=r) (k:=i) (by omega);have hE2:=hE _ (List.mem_of_getElem? hp);have h42:=hr4 _ (List.mem_of_getElem? hp);have hm2:(r.map fun p=>a3n p.1 p.2)[i]? = some (a3n (pv r i).1 (pv r i).2):=by rw [List.getElem?_map,hp];rfl
 have hla:a5q r v i=a8v (pv r i).1 (pv r i).2 (a0g l):=by unfold a5q;rw [c9A hl2]
 have cl:=c3m (pv r i).1 (pv r i).2 _ _ 3 (by decide) hx (a5u hE2.1 h42.1) (a5u hE2.2 h42.2);have hfr:=b0G hx (a5u hE2.1 h42.1) (a5u hE2.2 h42.2);have hbig:=b3n (b8t hxn (b4X hE2.1 h42.1) (b4X hE2.2 h42.2));have cg:=b7n hfr (by decide);unfold b3S b4o at cg;rw [hbig,if_neg (by decide),if_neg (by decide)] at cg;rw [hla] at hsn;have z0:(((0:Nat):Int) != 0)=false:=rfl;clear hL hfr hbig hla;generalize b3a (pv r i).1 (pv r i).2 (a0g l) (a1E l)=lf at *;generalize txt (a8v (pv r i).1 (pv r i).2 (a0g l))=tx at *;rcases L with _|⟨x,L⟩
 all_goals
  (try simp only [List.length_cons] at hLl)
  dsimp only [a3w,a3s,a2C,a2G,List.nil_append]
 ·refine goI a8u (ff4 e1 wi z0 kN) hm hm1 hm2 cl cg trivial ?_
  exact ⟨(i+1,[str (sb tx)],_,_),⟨h2,hsn.symm⟩,by dsimp only;omega,wkI⟩
 ·have htk:List.take (L.length+1) (x::L)=x::L:=by simp
  refine goI a8u (ff5 e1 wi z0 htk kN) hm hm1 hm2 cl cg trivial ?_;exact ⟨(i+1,x::L++[str (sb tx)],_,_),⟨h2,hsn.symm⟩,by dsimp only;omega,by (dsimp only;rw [a3d];exact wkI)⟩
abbrev a6r:Dr:=[(11,[0,1,2,3,4,5,6,7,8,9,10,11,12,13,14,15,16,17,18,19,20],[21]),(12,[0,1,2,3,4,5,6],[7,8])]
open Go.Proofs Go.RowKit
set_option maxRecDepth 20000
set_option maxHeartbeats 4000000
theorem a9y (a:Rat):a9i a = -((-a).floor):=by unfold a9i;rw [Rat.floor_def]
theorem b8O {a:Rat}{k:Nat}(h:rk a k)(hk:1≤k):rk (a9i a:Rat) k:=by
 unfold rk;rw [Rat.num_intCast,Rat.den_intCast,a9y,Int.natAbs_neg];exact ⟨a8Y (a7W h),Nat.le_trans (a0M (n:=1) (k:=1) (by decide)) hk⟩
theorem b4M {a:Rat}{x:GF}{k:Nat}(h:FR a x k)(hk:1≤k):FR (a9i a:Rat) ⟨b3c x,1⟩ k:=by
 refine ⟨⟨a0G _,?_,(Rat.den_intCast _).symm⟩,b8O h.rk hk⟩;show (b3c x).z=_;unfold b3c;rw [a2p,(b1J (b3m h.is)).2,Rat.num_intCast,a9y]
def c9B (L st pr:GF):GF:=c1z ⟨b3c (c7j L st),1⟩ pr
theorem c2b {L st pr:Rat}{x y z:GF}(hx:FR L x 7)(hy:FR st y 3)(h0:st≠0)(hz:FR pr z 3):FR (a9g L st pr) (c9B x y z) 13:=b7j (b4M (b9C hx hy h0) (by decide)) hz
def a8b (r:List LP)(v:List (List UInt8))(q:a0I):Rat:=a9g (a5q r v q.fac.toNat) (a0g q.step) (a0g q.price)
def a9n (f:a0I→Rat)(l:List a0I)(i:Nat):Rat:=(l.take i).foldl (fun S q=>S+f q) 0
theorem a6F {f:a0I→Rat}{l:List a0I}{i:Nat}{q:a0I}(h:l[i]? = some q):a9n f l (i+1)=a9n f l i+f q:=by
 unfold a9n;rw [List.take_add_one,h,Option.toList_some,List.foldl_append];rfl
def b0D (s:a1K)(g:Int)(v:List (List UInt8))(l:List a0I):Rat:=a9n (a8b (b6j (a1q s) g.toNat) v) l l.length
def a6z (s:a1K)(g:Int)(v:List (List UInt8))(l:List a0I):Nat:=if a9k s g v=0 then a1s s.fs.length l else a9k s g v
def c1E (s:a1K)(g:Int)(v:List (List UInt8))(l:List a0I):List UInt8:=if a6z s g v l=0 then b3S (b0D s g v l) else []
def c2c (s:a1K)(g:Int)(v:List (List UInt8))(l:List a0I):Nat:=if a6z s g v l=0 then b4o (b0D s g v l) else a6z s g v l
theorem a2Q {n:Nat}{l:List a0I}(h:a1s n l=0):l.length≤256∧∀ q∈l,a2i n q=0:=by
 unfold a1s at h;split at h
 ·cases h
 ·exact ⟨by omega,b9W h⟩
theorem c5b {r:List LP}{v:List (List UInt8)}{k:Nat}(hk:k<r.length)(hE:∀ p∈r,a2t p.1=0∧a2t p.2=0)(h4:c8J r)(hc:chk (lv v k)=0)(hv:(lv v k).length≤40):FR (a5q r v k) (b3a (pv r k).1 (pv r k).2 (a0g (lv v k)) (a1E (lv v k))) 7:=by
 have hp:=b4i hk;have hE2:=hE _ (List.mem_of_getElem? hp);have h42:=h4 _ (List.mem_of_getElem? hp);exact b0G (a9Q hc hv) (a5u hE2.1 h42.1) (a5u hE2.2 h42.2)
theorem d4B (s:a1K)(hs:s.few)(h4:G40 s)(g:Int)(b:Bool)(v:List (List UInt8))(hf:Few v)(hv4:S40 v)(l:List a0I)(hl:l.length≤9223372036854775807)(hl4:b6M l):a0b C0 18 [s.D,i64 g,txD b v,.sl false 3 (l.map a0I.D)] (.tup [str (sb (c1E s g v l)),i64 (c2c s g v l:Nat)]):=by
 refine a0c.walk w1 c8R rfl fun F=>?_
 have c1:=b1F s hs g b v hf;have hok:=@b3E s g v;have h1:c1E s g v l=if a6z s g v l=0 then b3S (b0D s g v l) else []:=rfl
 have h2:c2c s g v l=if a6z s g v l=0 then b4o (b0D s g v l) else a6z s g v l:=rfl
 have h3:a6z s g v l=if a9k s g v=0 then a1s s.fs.length l else a9k s g v:=rfl
 have h5:b0D s g v l=a9n (a8b (b6j (a1q s) g.toNat) v) l l.length:=rfl;have el2:(((l.map a0I.D).length:Nat):Int)=(l.length:Int):=by rw [List.length_map]
 rw [h1,h2,h5];obtain ⟨E,hD⟩:∃ q,a6z s g v l=q:=⟨_,rfl⟩
 obtain ⟨q,hq⟩:∃ q,a9k s g v=q:=⟨_,rfl⟩
 rw [hD,hq] at h3;rw [hD];rw [hq] at c1 hok;clear h1 h2 h5;unfold a1K.D at c1 ⊢;rcases Nat.decEq q 0 with h0|h0
 ·have e0:=b2F h0
  obtain ⟨x,y,ho⟩:=b1R s;rw [ho] at c1;rw [if_neg h0] at h3;rw [h3,if_neg h0,if_neg h0];refine goI a6r e0 c1 trivial trivial trivial trivial trivial ?_;exact a0a rfl IsPure.out
 have e0:=b6h h0;obtain ⟨k0,k1,k2,k3⟩:=hok h0;obtain ⟨gn,rfl,hgn⟩:=a3X k1;have hd:a7v s=b6B s.fs.length (a1q s):=if_pos k0;have hd2:c0Y q v=frD v:=if_pos h0;have hG:=b1l (a2A k0);have hG4:=c0v h4;have h8:=(a2A k0).1;have hgl:=b1n s;rw [if_pos h0] at h3;rw [hd,hd2] at c1;rw [Int.toNat_natCast];clear hd hd2;obtain ⟨G,hGG⟩:∃ A,a1q s=A:=⟨_,rfl⟩
 obtain ⟨n,hn⟩:∃ A,s.fs.length=A:=⟨_,rfl⟩
 rw [hGG] at c1 hG hgl hG4 ⊢;rw [hn] at c1 hG h8 k2 h3;have hlen:=hG.len;have c2:=b0R n G l hl hl4;rw [← h3] at c2;rcases Nat.decEq E 0 with hD0|hD0
 ·have e1:=b2F hD0
  rw [if_neg hD0,if_neg hD0];refine goI a6r (ff2 e0 e1) c1 c2 trivial trivial trivial trivial ?_;exact a0a rfl IsPure.out
 have e1:=b6h hD0;rw [hD0] at h3;obtain ⟨hl256,hlz⟩:=a2Q h3.symm;rw [if_pos hD0,if_pos hD0];have el:(((v.map fun l=>(a1E l).D).length:Nat):Int)=(v.length:Int):=by rw [List.length_map]
 have hr1:=a9S (G:=G) (g:=gn) (by omega);obtain ⟨r,hr⟩:∃ r,b6j G gn=r:=⟨_,rfl⟩
 rw [hr] at hr1 ⊢;have hm1:(G.map b4U)[gn]? = some (.sl false 10 (r.map fun p=>a3n p.1 p.2)):=by rw [List.getElem?_map,hr1];rfl
 obtain ⟨hrl,hE⟩:=hG.row r (List.mem_of_getElem? hr1);have hr4:=hG4 r (List.mem_of_getElem? hr1);have hkz:=a2w k3;have hz:=b4j 1 (by decide);have hz0:=d4Z;obtain ⟨Z,hZ⟩:∃ Z:GF,⟨mkG 0,1⟩=Z:=⟨_,rfl⟩
 rw [hZ] at hz hz0;unfold frD at c1;refine goI a6r (ff3 e0 e1 el2) c1 c2 hz0 trivial trivial trivial ?_;refine OkS.loop (α:=Nat × GF × Nat) (fun p=>⟨[(1,i64 (gn:Int)),(10,.optr 108 11 2 0 0),(11,.sl false 4 (v.map fun l=>(a1E l).D)),(14,.optr 701 24 4 0 0),(36,.sl false 3 (l.map a0I.D)),(37,i64 (l.length:Int)),(38,i64 (p.1:Int))],[⟨701,24,113,4,[p.2.1.D]⟩,⟨108,11,134,2,[b6B n G]⟩],p.2.2⟩) (fun p=>l.length - p.1)
  (fun p=>p.1≤l.length∧FR (a9n (a8b r v) l p.1) p.2.1 (14*p.1+1)) (0,Z,_) ⟨Nat.zero_le _,hz⟩ wkI ?_
 rintro ⟨i,S,m⟩ F ⟨hi,hS⟩;dsimp only at hi hS ⊢;rcases Nat.lt_or_ge i l.length with h2|h2
 rotate_left
 ·have e1:=ltF h2
  have:i=l.length:=by omega
  subst this;have cg:=b7n hS (by omega);refine goI a6r e1 cg trivial trivial trivial trivial trivial ?_;exact a0a rfl IsPure.out
 have e1:=ltT h2;have wi:=wiI (i:=i) (by omega);obtain ⟨w,hw⟩:=a1Y h2;have hm:(l.map a0I.D)[i]? = some (.agg [i64 w.fac,str (sb w.step),str (sb w.price)]):=by rw [List.getElem?_map,hw];rfl
 obtain ⟨z1,z2,z3,z4,z5⟩:=a3u (hlz w (List.mem_of_getElem? hw));obtain ⟨f1,f2⟩:=hl4 w (List.mem_of_getElem? hw);obtain ⟨k,hk,hkn⟩:=a3X z1;have hvl:v[k]? = some (lv v k):=a4x (by omega);have hcv:=hkz _ (List.mem_of_getElem? hvl);have hv40:=hv4 _ (List.mem_of_getElem? hvl);have hp:=b4i (r:=r) (k:=k) (by omega);have hE2:=hE _ (List.mem_of_getElem? hp);have h42:=hr4 _ (List.mem_of_getElem? hp);have hm2:(r.map fun p=>a3n p.1 p.2)[k]? = some (a3n (pv r k).1 (pv r k).2):=by rw [List.getElem?_map,hp];rfl
 have hm3:(v.map fun l=>(a1E l).D)[k]? = some (a1E (lv v k)).D:=by rw [List.getElem?_map,hvl];rfl
 have hLf:=c5b (k:=k) (by omega) hE hr4 hcv hv40;have d1:=c3m (pv r k).1 (pv r k).2 _ _ 3 (by decide) (a9Q hcv hv40) (a5u hE2.1 h42.1) (a5u hE2.2 h42.2);have d2:=a7f (l:=w.step) (by omega) z2;have hst:=a9Q z2 f1;have hst0:=b3Y z3;have d3:=d1e hLf hst hst0 (by decide);have hdf:=b9C hLf hst hst0;have d4:=c5I hdf (by decide);have d5:=b4g (b3c (c7j (b3a (pv r k).1 (pv r k).2 (a0g (lv v k)) (a1E (lv v k))) (a1E w.step)));have d6:=a7f (l:=w.price) (by omega) z4;have hpr:=a9Q z4 f2;have d7:=c2R (b4M hdf (by decide)) hpr (by decide);have hT:=c2b hLf hst hst0 hpr;have d8:=c3n hS hT (by omega);have hS':=b9s hS hT;have hsn:a9n (a8b r v) l (i+1)=a9n (a8b r v) l i+a9g (a5q r v k) (a0g w.step) (a0g w.price):=by
  rw [a6F hw];unfold a8b;rw [hk,Int.toNat_natCast]
 rw [← hsn] at hS';rw [hk] at hm;unfold c9B at d8 hS';generalize b3a (pv r k).1 (pv r k).2 (a0g (lv v k)) (a1E (lv v k))=B1 at *;generalize a1E w.step=B2 at *;generalize a1E w.price=B3 at *;generalize a1E (lv v k)=B4 at *;generalize c7j B1 B2=B5 at *;generalize b3c B5=B6 at *;generalize hB7:(⟨B6,1⟩:GF)=B7 at *;generalize c1z B7 B3=B8 at *;generalize c2z S B8=B9 at *;refine goI a6r (ff3 e1 wi kN) hm hm1 hm2 hm3 d1 d2 ?_;refine goI a6r (ff3 e1 wi kN) d3 d4 d5 d6 d7 d8 ?_;exact ⟨(i+1,B9,_),⟨h2,hS'.mono (by omega)⟩,by dsimp only;omega,wkI⟩
abbrev b3u:Dr:=[(6,[0,1,2,3,4,5,6,7],[8])]
abbrev a6L:Dr:=[(6,[0,1,2,3,4,5,6,7,8,9,10,11,12,13,14,15],[16,17,18]),(7,[0,1,2,3,4,5,6,7,8],[9,10]),(8,[0,1,2,3,4,5,6,7,8,9,10,11,12,13,14,15],[16,17,18]),(9,[0,1,2,3,4,5,6,7,8],[9,10])]
open Go.Proofs Go.RowKit
set_option maxRecDepth 20000
set_option maxHeartbeats 8000000
theorem a9F {l:List UInt8}(h:chk l=0):rR (a0g l)=str (sb l):=by unfold rR;rw [(a3f h).2.2.1]
theorem c1K {a b:List UInt8}{x:Rat}(h:¬ (a≠[]∧b≠[]∧a2H (a0g a) (a0g b)>0))(ha:a≠[])(hb:b≠[])(h1:a2H x (a0g a)<0)(h2:a2H x (a0g b)>0):False:=by
 refine h ⟨ha,hb,?_⟩;unfold a2H at *;split at h1<;>split at h2<;>split<;>grind
def d2L (g:a1k)(n:Nat):Prop:=∀ k,k<n→¬ (lv g.least k≠[]∧lv g.most k≠[]∧a2H (a0g (lv g.least k)) (a0g (lv g.most k))>0)
theorem c5j {s:a1K}(h:a0p s=0){i:Nat}(hi:i<s.gs.length):d2L (s.gs.getD i default) s.fs.length:=fun k hk q=>by
 have h1:=b2i (b3f h i hi) k hk;unfold a1a at h1;split at h1
 ·rename_i w;exact absurd h1 w
 ·split at h1
  ·rename_i w;exact absurd h1 w
  ·exact absurd h1 (by decide)
def a3N (g:a1k)(v:List (List UInt8))(k:Nat):Rat:=a8v (lv g.least k) (lv g.most k) (a0g (lv v k))
def a2I (g:a1k)(v:List (List UInt8))(n:Nat):List (List UInt8):=(List.range n).map fun k=>txt (a3N g v k)
theorem b2B (g:a1k)(v:List (List UInt8))(n:Nat):a2I g v (n+1)=a2I g v n++[txt (a3N g v n)]:=by
 unfold a2I;rw [List.range_succ,List.map_append];rfl
theorem c2l {g:a1k}{v:List (List UInt8)}{n k:Nat}(hg:gOk n g)(h1:S40 g.least)(h2:S40 g.most)(hk:k<n)(hc:chk (lv v k)=0)(hv:(lv v k).length≤40):rk (a3N g v k) 7:=by
 have hE:=hg.2.2 k hk;exact (b0G (a9Q hc hv) (a5u hE.1 (c1I h1 k)) (a5u hE.2 (c1I h2 k))).rk
theorem c9k {a b:Rat}{i j:Nat}(ha:rk a i)(hb:rk b j)(h0:b≠0):rk (a / b) (i+j):=by
 rw [Rat.div_def];exact c0w ha (b8Y hb h0)
def a7t (g:a1k)(v:List (List UInt8))(l:List a0I)(i:Nat):Rat:=a9n (fun q=>a9g (a3N g v q.fac.toNat) (a0g q.step) (a0g q.price)) l i
theorem d4G (b1 b2:Bool)(L:List (List UInt8))(hl:L.length≤1000000):a0b C0 23 [txD b1 L,txD b2 L] (boo true):=by
 refine a0c.walk w1 d3a rfl fun F=>?_
 have el:(((L.map fun l=>str (sb l)).length:Nat):Int)=(L.length:Int):=by rw [List.length_map]
 have e0:((L.length:Int) != (L.length:Int))=false:=d3B rfl;refine goI b3u (ff2 el e0) trivial trivial trivial trivial trivial trivial ?_;refine OkS.loop (α:=Nat × Nat) (fun p=>⟨[(0,txD b1 L),(1,txD b2 L),(5,i64 (p.1:Int))],[],p.2⟩) (fun p=>L.length - p.1) (fun p=>p.1≤L.length) (0,_) (Nat.zero_le _) wkI ?_;rintro ⟨i,m⟩ F hi;dsimp only at hi ⊢;rcases Nat.lt_or_ge i L.length with h2|h2
 ·have e1:=ltT h2
  have wi:=wiI (i:=i) (by omega);obtain ⟨l,hl2⟩:=a1Y h2;have hm:(L.map fun l=>str (sb l))[i]? = some (str (sb l)):=by rw [List.getElem?_map,hl2];rfl
  have hs:a1p (sb l) (sb l)=true:=by rw [a4O];exact decide_eq_true rfl
  refine goI b3u (ff5 e1 el wi hs kN) hm trivial trivial trivial trivial trivial ?_;exact ⟨(i+1,_),h2,by dsimp only;omega,wkI⟩
 ·have e1:=ltF h2
  refine goI b3u (ff2 e1 el) trivial trivial trivial trivial trivial trivial ?_;exact a0a rfl IsPure.out
theorem c9f (g:a1k)(b:Bool)(v:List (List UInt8))(n:Nat)(hg:gOk n g)(ho:d2L g n)(hn:v.length=n)(h8:n≤1000)(hc:a1J v=0):a0b C0 24 [g.D,txD b v] (.sl false 1 ((a2I g v v.length).map fun l=>str (sb l))):=by
 refine a0c.walk w1 d4w rfl fun F=>?_
 have el:(((v.map fun l=>str (sb l)).length:Nat):Int)=(v.length:Int):=by rw [List.length_map]
 have hcz:=a2w hc;have hgD:g.D=.agg [str (sb g.name),txD false g.least,txD false g.most]:=rfl;rw [hgD];refine goI a6L el trivial trivial trivial trivial trivial trivial ?_;refine OkS.loop (α:=Nat × List D × Nat × Nat) (fun p=>⟨[(1,txD b v),(2,.optr 0 0 3 0 0),(5,a9e 1003 p.2.2.1 1 p.2.1),(6,i64 (p.1:Int))],a7d 1003 p.2.2.1 24 1 p.2.1++[⟨0,0,56,3,[.agg [str (sb g.name),txD false g.least,txD false g.most]]⟩],p.2.2.2⟩) (fun p=>v.length - p.1) (fun p=>p.1≤v.length∧p.2.1=(a2I g v p.1).map fun l=>str (sb l)) (0,[],0,_) ⟨Nat.zero_le _,rfl⟩ wkI ?_;rintro ⟨i,L,g2,m⟩ F ⟨hi,hL⟩;dsimp only at hi hL ⊢;rcases Nat.lt_or_ge i v.length with h2|h2
 rotate_left
 ·have e1:=ltF h2
  have:i=v.length:=by omega
  subst this;refine goI a6L (ff2 e1 el) trivial trivial trivial trivial trivial trivial ?_;subst hL;exact ⟨_,b1v b4u rfl,IsPure.out,rfl⟩
 have e1:=ltT h2;have wi:=wiI (i:=i) (by omega);obtain ⟨l,hl2⟩:=a1Y h2;have hm:(v.map fun l=>str (sb l))[i]? = some (str (sb l)):=by rw [List.getElem?_map,hl2];rfl
 have hl:=hcz l (List.mem_of_getElem? hl2);have m1:=a3x (l:=g.least) (k:=i) (by rw [hg.1];omega);have m2:=a3x (l:=g.most) (k:=i) (by rw [hg.2.1];omega);have hE:=hg.2.2 i (by omega);have hO:=ho i (by omega);have hsn:((a2I g v (i+1)).map fun l=>str (sb l))=L++[str (sb (txt (a3N g v i)))]:=by rw [hL,b2B,List.map_append];rfl
 have hLl:L.length≤i:=by
  rw [hL];unfold a2I;rw [List.length_map,List.length_map,List.length_range];exact Nat.le_refl _
 have hla:a3N g v i=a8v (lv g.least i) (lv g.most i) (a0g l):=by unfold a3N;rw [c9A hl2]
 rw [hla] at hsn;clear hla hL;obtain ⟨a,ea⟩:∃ a,lv g.least i=a:=⟨_,rfl⟩
 obtain ⟨c,eb⟩:∃ a,lv g.most i=a:=⟨_,rfl⟩
 rw [ea,eb] at hE hO hsn;rw [ea] at m1;rw [eb] at m2;have sa:=a1y a;have sc:=a1y c;obtain ⟨qa,ga⟩:∃ q,decide (a=[])=q:=⟨_,rfl⟩
 obtain ⟨qc,gc⟩:∃ q,decide (c=[])=q:=⟨_,rfl⟩
 obtain ⟨p,hp⟩:∃ q,decide (a2H (a0g l) (a0g a)<0)=q:=⟨_,rfl⟩
 obtain ⟨q,hq⟩:∃ q,decide (a2H (a0g l) (a0g c)>0)=q:=⟨_,rfl⟩
 have c1:qa=false→a0b C0 34 [str (sb l),str (sb a)] (i64 (a2H (a0g l) (a0g a))):=fun h=>b2d hl (a1C hE.1 (of_decide_eq_false (ga.trans h)))
 have c2:qc=false→a0b C0 34 [str (sb l),str (sb c)] (i64 (a2H (a0g l) (a0g c))):=fun h=>b2d hl (a1C hE.2 (of_decide_eq_false (gc.trans h)))
 have d1:qa=false→a0b C0 77 [str (sb a),str (sb l)] (str (sb (txt (a0g a - a0g l)))):=fun h=>by
  have ka:=a1C hE.1 (of_decide_eq_false (ga.trans h))
  have:=d4p (a0g a) (a0g l) 600 600 (a7m ka) (a7m hl) (by decide)
  rwa [a9F ka,a9F hl] at this
 have d2:qc=false→a0b C0 77 [str (sb l),str (sb c)] (str (sb (txt (a0g l - a0g c)))):=fun h=>by
  have ka:=a1C hE.2 (of_decide_eq_false (gc.trans h))
  have:=d4p (a0g l) (a0g c) 600 600 (a7m hl) (a7m ka) (by decide)
  rwa [a9F ka,a9F hl] at this
 have hno:¬ (qa=false∧p=true∧qc=false∧q=true):=fun ⟨h1,h2,h3,h4⟩=>c1K hO (of_decide_eq_false (ga.trans h1)) (of_decide_eq_false (gc.trans h3)) (of_decide_eq_true (hp.trans h2)) (of_decide_eq_true (hq.trans h4))
 have hw:a8v a c (a0g l)=if (!decide (a=[])&&decide (a2H (a0g l) (a0g a)<0))=true then a0g a - a0g l else if (!decide (c=[])&&decide (a2H (a0g l) (a0g c)>0))=true then a0g l - a0g c else 0:=rfl
 rw [ga] at sa;rw [gc] at sc;rw [ga,gc,hp,hq] at hw;have h8c:(qa=true∧qc=true)∨(qa=true∧qc=false∧q=false)∨(qa=true∧qc=false∧q=true)∨(qa=false∧p=false∧qc=true)∨(qa=false∧p=false∧qc=false∧q=false)∨(qa=false∧p=false∧qc=false∧q=true)∨(qa=false∧p=true∧qc=true)∨(qa=false∧p=true∧qc=false∧q=false):=by
  cases qa<;>cases p<;>cases qc<;>cases q<;>simp at hno ⊢
 have tz:txt 0=[48]:=of_decide_eq_true ((b1c 0).trans (decide_eq_true rfl));clear ga gc hO hE ho hcz hg;obtain ⟨tx,htx⟩:∃ t,txt (a8v a c (a0g l))=t:=⟨_,rfl⟩
 rw [htx] at hsn;rw [hw] at htx;clear hw;rcases L with _|⟨x,L⟩
 all_goals
  (try simp only [List.length_cons] at hLl)
  dsimp only [a3w,a3s,a2C,a2G,List.nil_append]
 ·rcases h8c with ⟨rfl,rfl⟩|⟨rfl,rfl,rfl⟩|⟨rfl,rfl,rfl⟩|⟨rfl,rfl,rfl⟩|⟨rfl,rfl,rfl,rfl⟩|⟨rfl,rfl,rfl,rfl⟩|⟨rfl,rfl,rfl⟩|⟨rfl,rfl,rfl,rfl⟩
  all_goals
   (try simp only [Bool.not_true,Bool.not_false,Bool.true_and,Bool.false_and,Bool.and_true,Bool.and_false,if_true,if_false,Bool.false_eq_true,tz] at htx)
   subst htx;refine goI a6L (ff7 e1 el wi hp hq sa (ff2 sc kN)) hm m1 m2 c1 c2 d1 ?_;refine goI a6L (ff7 e1 el wi hp hq sa (ff2 sc kN)) hm m1 m2 c1 c2 d2 ?_;exact ⟨(i+1,[_],_,_),⟨h2,hsn.symm⟩,by dsimp only;omega,wkI⟩
 ·have htk:List.take (L.length+1) (x::L)=x::L:=by simp
  rcases h8c with ⟨rfl,rfl⟩|⟨rfl,rfl,rfl⟩|⟨rfl,rfl,rfl⟩|⟨rfl,rfl,rfl⟩|⟨rfl,rfl,rfl,rfl⟩|⟨rfl,rfl,rfl,rfl⟩|⟨rfl,rfl,rfl⟩|⟨rfl,rfl,rfl,rfl⟩
  all_goals
   (try simp only [Bool.not_true,Bool.not_false,Bool.true_and,Bool.false_and,Bool.and_true,Bool.and_false,if_true,if_false,Bool.false_eq_true,tz] at htx)
   subst htx;refine goI a6L (ff7 e1 el wi hp hq sa (ff3 sc htk kN)) hm m1 m2 c1 c2 d1 ?_;refine goI a6L (ff7 e1 el wi hp hq sa (ff3 sc htk kN)) hm m1 m2 c1 c2 d2 ?_;exact ⟨(i+1,x::L++[_],_,_),⟨h2,hsn.symm⟩,by dsimp only;omega,by (dsimp only;rw [a3d];exact wkI)⟩
abbrev a3A:Dr:=[(6,[0,1,2,3,4,5,6,7,8,9,10,11,12,13,14],[15,16])]
abbrev b1u:Dr:=[(6,[0,1,2,3,4,5,6,7,8,9,10,11,12],[13,14,15,16,17])]
open Go.Proofs Go.RowKit
set_option maxRecDepth 20000
set_option maxHeartbeats 8000000
theorem d1I (s:a1K)(l:List a0I)(hl:l.length≤9223372036854775807)(hf:b6M l):a0b C0 25 [s.D,.sl false 3 (l.map a0I.D)] (i64 (a1s s.fs.length l:Nat)):=by
 refine a0c.walk w1 d3Q rfl fun F=>?_
 have el:(((l.map a0I.D).length:Nat):Int)=(l.length:Int):=by rw [List.length_map]
 have el1:(((s.fs.map a1R.D).length:Nat):Int)=(s.fs.length:Int):=by rw [List.length_map]
 unfold a1K.D;generalize s.fs.length=n at *;generalize s.fs.map a1R.D=fsD at *
 by_cases h1:256<l.length
 ·have e1:decide ((l.length:Int)>256)=true:=decide_eq_true (by omega)
  have hv:a1s n l=5:=if_pos h1;rw [hv];refine goI a3A (ff2 el e1) trivial trivial trivial trivial trivial trivial ?_;exact a0a rfl IsPure.out
 have e1:decide ((l.length:Int)>256)=false:=decide_eq_false (by omega);have hv:a1s n l=b8n (a2i n) l:=if_neg h1;rw [hv];refine goI a3A (ff2 el e1) trivial trivial trivial trivial trivial trivial ?_;refine OkS.loop (α:=Nat × Nat) (fun p=>⟨[(1,.sl false 3 (l.map a0I.D)),(2,.optr 0 0 2 0 0),(5,i64 (p.1:Int))],[⟨0,0,39,2,[.agg [.sl false 4 fsD,.sl false 3 (s.gs.map a1k.D)]]⟩],p.2⟩) (fun p=>l.length - p.1)
  (fun p=>p.1≤l.length∧∀ (j:Nat) (r:a0I),j<p.1→l[j]? = some r→a2i n r=0) (0,_) ⟨Nat.zero_le _,fun j r hj=>absurd hj (Nat.not_lt_zero j)⟩ wkI ?_
 rintro ⟨i,m⟩ F ⟨hi,ha⟩;dsimp only at hi ha ⊢;rcases Nat.lt_or_ge i l.length with h2|h2
 rotate_left
 ·have e2:=ltF h2
  have:i=l.length:=by omega
  subst this;rw [b5C ha];refine goI a3A (ff2 e2 el) trivial trivial trivial trivial trivial trivial ?_;exact a0a rfl IsPure.out
 have e2:=ltT h2;have wi:=wiI (i:=i) (by omega);obtain ⟨r,hr⟩:=a1Y h2;obtain ⟨f1,f2⟩:=hf r (List.mem_of_getElem? hr);have hm:(l.map a0I.D)[i]? = some (.agg [i64 r.fac,str (sb r.step),str (sb r.price)]):=by rw [List.getElem?_map,hr];rfl
 have c2:=a9B r.step (by omega);have c3:=a9B r.price (by omega);have hat:=fun h=>c0G (f:=a2i n) ha hr h
 have hq:a2i n r=if unk r.fac n≠0 then unk r.fac n else if chk r.step≠0 then chk r.step else if a3S (a0g r.step)≤0 then 3 else if chk r.price≠0 then chk r.price else if a3S (a0g r.price)<0 then 3 else 0:=rfl
 have s1:chk r.step=0→a0b C0 78 [str (sb r.step)] (i64 (a3S (a0g r.step))):=fun h=>b0V h
 have s2:chk r.price=0→a0b C0 78 [str (sb r.price)] (i64 (a3S (a0g r.price))):=fun h=>b0V h
 generalize chk r.step=K1 at *;generalize chk r.price=K2 at *;generalize a3S (a0g r.step)=S1 at *;generalize a3S (a0g r.price)=S2 at *;obtain ⟨Q,hQ⟩:∃ Q,a2i n r=Q:=⟨_,rfl⟩
 rw [hQ] at hq hat;have z3:((3:Int)==0)=false:=rfl;have z4:((3:Int) != 0)=true:=rfl
 by_cases g1:r.fac<0
 ·have e3:decide (r.fac<0)=true:=decide_eq_true g1
  rw [d2p g1,if_pos (by decide)] at hq;rw [hat (by omega),hq];refine goI a3A (ff4 e2 el e3 kN) hm trivial trivial trivial trivial trivial ?_;exact a0a rfl IsPure.out
 have e3:decide (r.fac<0)=false:=decide_eq_false g1
 by_cases g2:(n:Int)≤r.fac
 ·have e4:decide (r.fac≥(n:Int))=true:=decide_eq_true g2
  rw [d2m g2,if_pos (by decide)] at hq;rw [hat (by omega),hq];refine goI a3A (ff6 e2 el el1 e3 e4 kN) hm trivial trivial trivial trivial trivial ?_;exact a0a rfl IsPure.out
 have e4:decide (r.fac≥(n:Int))=false:=decide_eq_false g2;rw [d2l g1 g2,if_neg (by decide)] at hq;rcases Nat.decEq K1 0 with h4|h4
 ·have e5:=c7n h4
  have e6:=b2F h4;rw [if_pos h4] at hq;rw [hat (by omega),hq];refine goI a3A (ff7 e2 el el1 e3 e4 e5 (ff2 e6 kN)) hm c2 trivial trivial trivial trivial ?_;exact a0a rfl IsPure.out
 have e5:=d1M h4;rw [if_neg (fun k=>k h4)] at hq;have s1:=s1 h4
 by_cases h5:S1≤0
 ·have e6:decide (S1≤0)=true:=decide_eq_true h5
  rw [if_pos h5] at hq;rw [hat (by omega),hq];refine goI a3A (ff7 e2 el el1 e3 e4 e5 (ff4 e6 z3 z4 kN)) hm c2 s1 trivial trivial trivial ?_;exact a0a rfl IsPure.out
 have e6:decide (S1≤0)=false:=decide_eq_false h5;rw [if_neg h5] at hq;rcases Nat.decEq K2 0 with h6|h6
 ·have e7:=c7n h6
  have e8:=b2F h6;rw [if_pos h6] at hq;rw [hat (by omega),hq];refine goI a3A (ff7 e2 el el1 e3 e4 e5 (ff4 e6 e7 e8 kN)) hm c2 s1 c3 trivial trivial ?_;exact a0a rfl IsPure.out
 have e7:=d1M h6;have e8:=b6h h6;rw [if_neg (fun k=>k h6)] at hq;have s2:=s2 h6
 by_cases h7:S2<0
 ·have e9:decide (S2<0)=true:=decide_eq_true h7
  rw [if_pos h7] at hq;rw [hat (by omega),hq];refine goI a3A (ff7 e2 el el1 e3 e4 e5 (ff6 e6 e7 e9 z3 z4 kN)) hm c2 s1 c3 s2 trivial ?_;exact a0a rfl IsPure.out
 have e9:decide (S2<0)=false:=decide_eq_false h7;rw [if_neg h7] at hq;refine goI a3A (ff7 e2 el el1 e3 e4 e5 (ff6 e6 e7 e8 e9 wi kN)) hm c2 s1 c3 s2 trivial ?_;exact ⟨(i+1,_),⟨h2,a5C hr ha (hQ.trans hq)⟩,by dsimp only;omega,wkI⟩
theorem d2M (g:a1k)(b:Bool)(v:List (List UInt8))(n:Nat)(hg:gOk n g)(ho:d2L g n)(h1:S40 g.least)(h2:S40 g.most)(hn:v.length=n)(h8:n≤1000)(hc:a1J v=0)(hv4:S40 v)(l:List a0I)(hz:a1s n l=0)(hf:b6M l):a0b C0 26 [g.D,txD b v,.sl false 3 (l.map a0I.D)] (rR (a7t g v l l.length)):=by
 refine a0c.walk w1 d4f rfl fun F=>?_
 have c1:=c9f g b v n hg ho hn h8 hc;have el:(((l.map a0I.D).length:Nat):Int)=(l.length:Int):=by rw [List.length_map]
 obtain ⟨hl256,hlz⟩:=a2Q hz;have hkz:=a2w hc;have hrk:=fun k (hk:k<n) hc hv=>c2l (v:=v) (k:=k) hg h1 h2 hk hc hv
 have hgD:∃ x y z,g.D=.agg [x,y,z]:=⟨_,_,_,rfl⟩
 have pg:IsPure g.D:=inferInstance;obtain ⟨gD,hgd⟩:∃ d,g.D=d:=⟨_,rfl⟩
 rw [hgd] at c1 hgD pg ⊢;obtain ⟨x,y,z,rfl⟩:=hgD;have hst:∀ k,k<v.length→((a2I g v v.length).map fun l=>str (sb l))[k]? = some (rR (a3N g v k)):=fun k hk=>by
  rw [List.getElem?_map];unfold a2I;rw [List.getElem?_map,List.getElem?_range hk];rfl
 generalize (a2I g v v.length).map (fun l=>str (sb l))=LL at *;have hS0:rk (a7t g v l 0) 1:=by
  have:=(b4j 1 (by decide)).rk
  exact this
 have hsn:∀ i (w:a0I),l[i]? = some w→a7t g v l (i+1)=a7t g v l i+a9g (a3N g v w.fac.toNat) (a0g w.step) (a0g w.price):=fun i w h=>a6F h
 have h00:rR (a7t g v l 0)=.prim (.string ⟨#[48]⟩):=by
  show rR 0=_;unfold rR;rw [of_decide_eq_true ((b1c 0).trans (decide_eq_true rfl))]
 generalize a7t g v l=SS at *;refine goI b1u kB c1 trivial trivial trivial trivial trivial ?_;refine OkS.loop (α:=Nat × Nat) (fun p=>⟨[(2,.sl false 3 (l.map a0I.D)),(7,.sl false 1 LL),(8,rR (SS p.1)),(9,i64 (p.1:Int))],[],p.2⟩) (fun p=>l.length - p.1)
  (fun p=>p.1≤l.length∧rk (SS p.1) (14*p.1+1)) (0,_) ⟨Nat.zero_le _,hS0⟩ (by dsimp only;rw [h00];exact wkI) ?_
 rintro ⟨i,m⟩ F ⟨hi,hS⟩;dsimp only at hi hS ⊢;rcases Nat.lt_or_ge i l.length with h3|h3
 rotate_left
 ·have e1:=ltF h3
  have:i=l.length:=by omega
  subst this;refine goI b1u (ff2 e1 el) trivial trivial trivial trivial trivial trivial ?_;exact a0a rfl IsPure.out
 have e1:=ltT h3;have wi:=wiI (i:=i) (by omega);obtain ⟨w,hw⟩:=a1Y h3;have hm:(l.map a0I.D)[i]? = some (.agg [i64 w.fac,str (sb w.step),str (sb w.price)]):=by rw [List.getElem?_map,hw];rfl
 obtain ⟨z1,z2,z3,z4,z5⟩:=a3u (hlz w (List.mem_of_getElem? hw));obtain ⟨f1,f2⟩:=hf w (List.mem_of_getElem? hw);obtain ⟨k,hk,hkn⟩:=a3X z1;have hvl:v[k]? = some (lv v k):=a4x (by omega);have hL:=hrk k hkn (hkz _ (List.mem_of_getElem? hvl)) (hv4 _ (List.mem_of_getElem? hvl));have hm3:=hst k (by omega);have hs3:=rk3 z2 f1;have hp3:=rk3 z4 f2;have hs0:=b3Y z3;have d1:=c6I (a3N g v k) (a0g w.step) 7 3 hL hs3 (by decide) hs0;have hd:=c9k hL hs3 hs0;have d2:=c5s _ (a2Z hd (by decide));have d3:=d0l _ 10 (a7W hd) (by decide);have hcq:((((-(a3N g v k / a0g w.step)).num / ((-(a3N g v k / a0g w.step)).den:Int):Int):Rat)) = -((a9i (a3N g v k / a0g w.step):Int):Rat):=by
  unfold a9i;rw [← Rat.intCast_neg,Int.neg_neg]
 have hck:=b8O hd (by decide);rw [hcq] at d3;have d4:=c5s _ (a2Z (a7W hck) (by decide));rw [Rat.neg_neg] at d4;have d5:=d4L _ (a0g w.price) 10 3 hck hp3 (by decide);have hT:rk (a9g (a3N g v k) (a0g w.step) (a0g w.price)) 13:=c0w hck hp3;have d6:=d5b (SS i) (a9g (a3N g v k) (a0g w.step) (a0g w.price)) (14*i+1) 13 hS hT (by omega);have hn1:=hsn i w hw;rw [hk,Int.toNat_natCast] at hn1;have hS':=b8b hS hT;rw [← hn1] at d6 hS';rw [hk] at hm;rw [a9F z2] at d1;rw [a9F z4] at d5;unfold a9g at d6;generalize a3N g v k=B1 at *;generalize B1 / a0g w.step=B2 at *;generalize ((a9i B2:Int):Rat)=B3 at *;generalize B3*a0g w.price=B4 at *;generalize -B2=B5 at *;generalize -B3=B6 at *;generalize hS1:SS (i+1)=B7 at *;refine goI b1u (ff4 e1 el wi kN) hm hm3 d1 d2 d3 d4 ?_;refine goI b1u (ff4 e1 el wi kN) hm d4 d5 d6 trivial trivial ?_;exact ⟨(i+1,_),⟨h3,by dsimp only;rw [hS1];exact hS'.mono (by omega)⟩,by dsimp only;omega,by (dsimp only;rw [hS1];exact wkI)⟩
abbrev a5s:Dr:=[(7,[0,1,2,3,4,5,6,7,8],[9,10,11,12]),(10,[0,1,2,3,4,5,6,7,8,9,10,11,12],[13,14,15]),(17,[0,1,2,3,4,5,6,7,8,9,10,11,12,13,14],[15,16,17,18,19,20])]
open Go.Proofs Go.RowKit
set_option maxRecDepth 20000
set_option maxHeartbeats 8000000
theorem c1Y {s:a1K}(h:a7h s=true):G40 s:=fun g hg=>by
 simp only [a7h,Bool.and_eq_true,decide_eq_true_eq,List.all_eq_true] at h
 have:=h.2 g hg
 simp only [a7a,Bool.and_eq_true,decide_eq_true_eq] at this;exact ⟨a6E this.1.2,a6E this.2⟩
theorem c1T {x:b3I}(h:b2k x=true):Few x.vals∧S40 x.vals∧b6M x.rates:=by
 unfold b2k at h;simp only [Bool.and_eq_true,decide_eq_true_eq] at h;have h4:=a6E h.2.2.1;refine ⟨⟨by omega,fun l hl=>Nat.le_trans (h4 l hl) (by decide)⟩,h4,fun r hr=>?_⟩
 have:=a6E (List.all_eq_true.1 h.1 r hr)
 exact ⟨this r.step (by simp),this r.price (by simp)⟩
theorem b2y {s:a1K}(h:a0p s=0){i k:Nat}(hi:i<s.gs.length)(hk:k<s.fs.length)(v:List (List UInt8)):a5q (b6j (a1q s) i) v k=a3N (s.gs.getD i default) v k:=by
 have hok:=a2A h;unfold a5q a3N;rw [b7v hi,c8N (c7N hok hi) hk]
theorem b9M {s:a1K}(h:a0p s=0){i n:Nat}(hi:i<s.gs.length)(hn:n≤s.fs.length)(v:List (List UInt8)):a5v (b6j (a1q s) i) v n=a2I (s.gs.getD i default) v n :=
 List.map_congr_left fun k hk=>by rw [b2y h hi (by have:=List.mem_range.1 hk;omega)]
theorem a8G {f g:a0I→Rat}{l:List a0I}(h:∀ q∈l,f q=g q)(S:Rat):l.foldl (fun S q=>S+f q) S=l.foldl (fun S q=>S+g q) S:=by
 induction l generalizing S with
 | nil=>rfl
 | cons a r ih =>
  rw [List.foldl_cons,List.foldl_cons,h a List.mem_cons_self];exact ih (fun q hq=>h q (List.mem_cons_of_mem _ hq)) _
theorem c0Z {s:a1K}(h:a0p s=0){i:Nat}(hi:i<s.gs.length)(v:List (List UInt8)){l:List a0I}(hl:a1s s.fs.length l=0):b0D s i v l=a7t (s.gs.getD i default) v l l.length:=by
 unfold b0D a7t a9n;refine a8G (fun q hq=>?_) 0;obtain ⟨z1,-⟩:=a3u ((a2Q hl).2 q (List.mem_of_mem_take hq));obtain ⟨k,hk,hkn⟩:=a3X z1;unfold a8b;rw [hk,Int.toNat_natCast,Int.toNat_natCast,b2y h hi hkn]
theorem b5k {g:a1k}{v:List (List UInt8)}{n:Nat}{l:List a0I}(hg:gOk n g)(h1:S40 g.least)(h2:S40 g.most)(hn:v.length=n)(hc:a1J v=0)(hv4:S40 v)(hz:a1s n l=0)(hf:b6M l):∀ i,i≤l.length→nb (a7t g v l i) (i*(2*(E40*E40*E40*E40))*E40^i) (E40^i)
 | 0,_=>b9V.mono (Nat.zero_le _) (Nat.le_of_eq (Nat.pow_zero _).symm)
 | i+1,hi=>by
  obtain ⟨w,hw⟩:=a1Y (l:=l) (i:=i) (by omega);have ih:=b5k hg h1 h2 hn hc hv4 hz hf i (by omega);obtain ⟨z1,z2,z3,z4,z5⟩:=a3u ((a2Q hz).2 w (List.mem_of_getElem? hw));obtain ⟨f1,f2⟩:=hf w (List.mem_of_getElem? hw);obtain ⟨k,hk,hkn⟩:=a3X z1;have hvl:v[k]? = some (lv v k):=a4x (by omega);have hE:=hg.2.2 k hkn;have hL:nb (a3N g v k) (2*(E40*E40)) (E40*E40):=b8t (a6S (a2w hc _ (List.mem_of_getElem? hvl)) (hv4 _ (List.mem_of_getElem? hvl))) (b4X hE.1 (c1I h1 k)) (b4X hE.2 (c1I h2 k));have e:a7t g v l (i+1)=a7t g v l i+a9g (a3N g v k) (a0g w.step) (a0g w.price):=by
   unfold a7t;rw [a6F hw,hk,Int.toNat_natCast]
  rw [e];exact c5R ih (c5V hL (a6S z2 f1) (b3Y z3) (a6S z4 f2))
theorem d2R (ha:a0b C0 10 [] (boo true))(s:a1K)(hs:s.fit)(x:b3I)(hx:x.fit):a0b C0 4 [s.D,x.D] (boo true):=by
 refine a0c.walk w1 d5w rfl fun F=>?_
 have cl:=c5k s hs;have cq:=c0V x hx;have hf:=@b7I s;have h40:=@c1Y s;have ha40:=@c1T x;obtain ⟨L,hL⟩:∃ L,a7h s=L:=⟨_,rfl⟩
 obtain ⟨A,hA⟩:∃ L,b2k x=L:=⟨_,rfl⟩
 rw [hL] at cl hf h40;rw [hA] at cq ha40;have el2:(((s.gs.map a1k.D).length:Nat):Int)=(s.gs.length:Int):=by rw [List.length_map]
 cases L
 ·unfold a1K.D b3I.D at *
  refine goI a5s kB cl ha trivial trivial trivial trivial ?_;exact a0a rfl IsPure.out
 cases A
 ·unfold a1K.D b3I.D at *
  refine goI a5s kB cl cq ha trivial trivial trivial ?_;exact a0a rfl IsPure.out
 have hs:=hf rfl;have h4:=h40 rfl;obtain ⟨hv,hv4,hr4⟩:=ha40 rfl;have hl9:=hx.2;obtain ⟨v,hvv⟩:∃ v,x.vals=v:=⟨_,rfl⟩
 obtain ⟨g,hg⟩:∃ v,x.grade=v:=⟨_,rfl⟩
 obtain ⟨f,hff⟩:∃ v,x.factor=v:=⟨_,rfl⟩
 obtain ⟨l,hl⟩:∃ v,x.rates=v:=⟨_,rfl⟩
 have hxD:x.D=.agg [i64 g,i64 f,txD false v,.sl false 3 (l.map a0I.D)]:=by unfold b3I.D;rw [hvv,hg,hff,hl]
 rw [hxD] at cq ⊢;rw [hvv] at hv hv4;rw [hl] at hr4 hl9;have c1:=d3T s hs h4 g false v hv hv4;have c2:=d4B s hs h4 g false v hv hv4 l hl9 hr4;have c5:=d5u s hs;have c6:=d2X s false v hv fun hl=>d5y v hv.2 hl
 have c7:=d1I s l hl9 hr4;have c8:=fun (g':a1k) (n:Nat) h1 h2 h3 h4 h5=>c9f g' false v n h1 h2 h3 h4 h5
 have c9:=fun (g':a1k) (n:Nat) h1 h2 h3 h4 h5 h6 h7 h8=>d2M g' false v n h1 h2 h3 h4 h5 h6 h7 hv4 l h8 hr4
 have gG:=@b3E s g v;have hgs:∀ i,i<s.gs.length→(s.gs.map a1k.D)[i]? = some (s.gs.getD i default).D:=fun i hi=>by rw [List.getElem?_map,a2J hi];rfl
 have el3:(((l.map a0I.D).length:Nat):Int)=(l.length:Int):=by rw [List.length_map]
 have dG:a9k s g v=if a0p s=0 then d1P (unk g s.gs.length) (a2M s.fs.length v) else a0p s:=rfl
 have dR:b0T s g v=if a9k s g v=0 then a5v (b6j (a1q s) g.toNat) v v.length else []:=rfl
 have dD:a6z s g v l=if a9k s g v=0 then a1s s.fs.length l else a9k s g v:=rfl
 have dT:c1E s g v l=if a6z s g v l=0 then b3S (b0D s g v l) else []:=rfl
 have dE:c2c s g v l=if a6z s g v l=0 then b4o (b0D s g v l) else a6z s g v l:=rfl
 obtain ⟨q,hq⟩:∃ r,a0p s=r:=⟨_,rfl⟩
 obtain ⟨G,hhG⟩:∃ r,a9k s g v=r:=⟨_,rfl⟩
 obtain ⟨R,hhR⟩:∃ r,a1s s.fs.length l=r:=⟨_,rfl⟩
 obtain ⟨DD,hhD⟩:∃ r,a6z s g v l=r:=⟨_,rfl⟩
 obtain ⟨DT,hhT⟩:∃ r,c1E s g v l=r:=⟨_,rfl⟩
 obtain ⟨DE,hhE⟩:∃ r,c2c s g v l=r:=⟨_,rfl⟩
 obtain ⟨LR,hhL⟩:∃ r,b0T s g v=r:=⟨_,rfl⟩
 rw [hhG,hq] at dG;rw [hhL,hhG] at dR;rw [hhD,hhG,hhR] at dD;rw [hhT,hhD] at dT;rw [hhE,hhD] at dE;rw [hhL,hhG] at c1;rw [hhT,hhE] at c2;rw [hq] at c5;rw [hhR] at c7;rw [hhG] at gG;have sD:s.D=.agg [.sl false 4 (s.fs.map a1R.D),.sl false 3 (s.gs.map a1k.D)]:=rfl;rw [sD] at cl c1 c2 c5 c6 c7 ⊢;have p1:IsPure (.sl false 4 (s.fs.map a1R.D)):=inferInstance;have p2:IsPure (.sl false 3 (s.gs.map a1k.D)):=inferInstance;obtain ⟨fsD,hfsD⟩:∃ d,s.fs.map a1R.D=d:=⟨_,rfl⟩
 obtain ⟨gsD,hgsD⟩:∃ d,s.gs.map a1k.D=d:=⟨_,rfl⟩
 rw [hfsD,hgsD] at cl c1 c2 c5 c6 c7 ⊢;rw [hfsD] at p1;rw [hgsD] at el2 p2 hgs;have z0:(((0:Nat):Int) != 0)=false:=rfl;have z1:(((0:Nat):Int)==0)=true:=rfl;have z6:((((([]:List (List UInt8)).map fun l=>str (sb l)).length:Nat):Int)==0)=true:=rfl;have zs:a1p (sb []) ⟨#[]⟩=true:=by rw [a1y];exact decide_eq_true rfl
 have cu:=b6s g s.gs.length;have cf:=c9R (unk g s.gs.length) (a2M s.fs.length v);have bself:∀ k:Nat,((k:Int)==(k:Int))=true:=fun k=>beq_self_eq_true _
 clear hxD hf h40 ha40 hfsD sD;rcases Nat.decEq q 0 with h0|h0
 ·have e0:=b2F h0
  have e1:=c7n h0;have e2:=bself q;rw [if_neg h0] at dG;subst dG;rw [if_neg h0] at dR dD;subst dR dD;rw [if_neg h0] at dT dE;subst dT dE;refine goI a5s (ff6 e0 e1 e2 z1 z6 zs) cl cq c1 c2 c5 ha ?_;exact a0a rfl IsPure.out
 have e0:=d1M h0;rw [if_pos h0] at dG;rw [← dG] at cf;refine goI a5s (ff2 e0 el2) cl cq c1 c2 c5 trivial ?_;refine goI a5s (ff2 e0 el2) c6 cu cf trivial trivial trivial ?_;rcases Nat.decEq G 0 with hG0|hG0
 ·have e1:=b2F hG0
  have e2:=bself G;rw [if_neg hG0] at dR dD;subst dR dD;rw [if_neg hG0] at dT dE;subst dT dE;rw [e1];refine goI a5s (ff5 e1 e2 z1 z6 zs) ha trivial trivial trivial trivial trivial ?_;exact a0a rfl IsPure.out
 have e1:=b6h hG0;rw [e1];obtain ⟨k0,k1,k2,k3⟩:=gG hG0;obtain ⟨k,hk,hlt⟩:=a3X k1;subst hk;have hok:=a2A k0;have h8:s.fs.length≤1000:=by have:=hok.1;omega
 have hgg:=c7N hok hlt;have hmem:=List.mem_of_getElem? (a2J hlt);have hm:=hgs k hlt;have hgo:=c5j k0 hlt;have cL:=c8 _ _ hgg hgo k2 h8 k3;have hle:=b9M k0 hlt (Nat.le_of_eq k2) v;rw [if_pos hG0,Int.toNat_natCast,hle] at dR;rw [← dR] at cL;have cS:=d4G false false LR (by rw [dR];unfold a2I;rw [List.length_map,List.length_range];omega);rw [if_pos hG0] at dD;subst dD;have h4':=h4 _ hmem;rcases Nat.decEq DD 0 with hD0|hD0
 ·have e3:=b2F hD0
  have e4:=c7n hD0;have e5:=bself DD;rw [if_neg hD0] at dT dE;subst dT dE;unfold a1k.D at hm cL;refine goI a5s (ff6 e1 e3 e4 e5 zs kN) hm cL cS c7 ha trivial ?_;exact a0a rfl IsPure.out
 have e3:=b6h hD0;have e4:=d1M hD0
 by_cases hl8:8<l.length
 ·have e5:decide ((l.length:Int)>8)=true:=decide_eq_true (by omega)
  unfold a1k.D at hm cL;refine goI a5s (ff6 e1 e3 e4 e5 el3 kN) hm cL cS c7 ha trivial ?_;exact a0a rfl IsPure.out
 have e5:decide ((l.length:Int)>8)=false:=decide_eq_false (by omega);have hz:a1s s.fs.length l=0:=hhR.trans hD0;have hR:=c0Z k0 hlt v hz;have hb:=b5L (by omega) (b5k hgg h4'.1 h4'.2 k2 k3 hv4 hz hr4 l.length (Nat.le_refl _));have cD:=c9 _ _ hgg hgo h4'.1 h4'.2 k2 h8 k3 hz;rw [if_pos hD0,hR] at dT dE;unfold b3S at dT;unfold b4o at dE;rw [hb,if_neg (by decide)] at dT dE;have cD':a0b C0 26 [(s.gs.getD k default).D,txD false v,.sl false 3 (l.map a0I.D)] (str (sb DT)):=by
  rw [dT];exact cD
 clear cD dT;subst dE;have e6:a1p (sb DT) (sb DT)=true:=by rw [a4O];exact decide_eq_true rfl
 unfold a1k.D at hm cL cD';refine goI a5s (ff7 e1 e3 e4 e5 z1 el3 kN) hm cL cS c7 trivial trivial ?_;refine goI a5s (ff7 e1 e3 e4 e5 e6 z1 (ff2 el3 kN)) hm cD' ha trivial trivial trivial ?_;exact a0a rfl IsPure.out
end Go.Ide
