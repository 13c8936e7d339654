/- The layer of own lemmas and contracts, part 13. -/
import Derived.Test.YtpehlicnhjoknabGreatDoorP12
import Derived.Test.YtpehlicnhjoknabGreatDoorP3
import Derived.Test.YtpehlicnhjoknabGreatDoorP6
import Derived.Shelf.RegionOpenPlain
import Derived.Lib.Builder
import Derived.Lib.UnsafeStr
import Derived.Lib.Strings
import Derived.Lib.Slices
import Derived.Lib.Walk
import Derived.Laws.Externs
import Derived.KernelRfl
import Derived.WalkKit
import Derived.Test.YtpehlicnhjoknabGreatDoorP11
import Derived.Shelf.Strconv.Itoa3
import Derived.Lib.ItoaMem
import Derived.Lib.AppendIntMem
import Derived.BigCall
import Derived.BigGuard
import Derived.Test.YtpehlicnhjoknabGreatDoorP10
set_option linter.unusedVariables false
set_option linter.unusedSimpArgs false
namespace Go.Ide
open Go.Proofs Go.RowKit
set_option maxRecDepth 20000
set_option maxHeartbeats 4000000
def b1v (v:List (List UInt8)):Bool:=v.all fun l=>decide (l.length≤40)
def a5Z (f:a1G):Bool:=decide (f.name.length≤100)&&decide (f.kind.length≤100)&&decide (f.tol.length≤40)&&decide (f.step.length≤40)
def a6P (g:a1q):Bool:=decide (g.name.length≤100)&&decide (g.least.length≤20)&&decide (g.most.length≤20)&&b1v g.least&&b1v g.most
def a7b (s:a1y):Bool:=decide (s.fs.length≤12)&&decide (s.gs.length≤20)&&s.fs.all a5Z&&s.gs.all a6P
theorem a6H {v:List (List UInt8)}(h:b1v v=true):∀ l∈v,l.length≤40:=fun l hl=>of_decide_eq_true (List.all_eq_true.1 h l hl)
theorem c0r {s:a1y}(h:a7b s=true):s.few:=by
 simp only [a7b,Bool.and_eq_true,decide_eq_true_eq,List.all_eq_true] at h;obtain ⟨⟨⟨h1,h2⟩,h3⟩,h4⟩:=h;refine ⟨by omega,by omega,fun f hf=>?_,fun g hg=>?_⟩
 ·have:=h3 f hf
  simp only [a5Z,Bool.and_eq_true,decide_eq_true_eq] at this;obtain ⟨⟨⟨q1,q2⟩,q3⟩,q4⟩:=this;exact ⟨by omega,by omega,by omega,by omega⟩
 ·have:=h4 g hg
  simp only [a6P,Bool.and_eq_true,decide_eq_true_eq] at this;obtain ⟨⟨⟨⟨q1,q2⟩,q3⟩,q4⟩,q5⟩:=this;exact ⟨by omega,by omega,by omega,fun l hl=>by have:=a6H q4 l hl;omega,fun l hl=>by have:=a6H q5 l hl;omega⟩
theorem a3o {α:Type}{l:List α}{p:α→Bool}{k:Nat}{x:α}(hx:l[k]? = some x)(h:(l.take k).all p=true)(hp:p x=true):(l.take (k+1)).all p=true:=by
 rw [List.take_add_one,hx,List.all_append,h];simp [hp]
theorem a2m {α:Type}{l:List α}{p:α→Bool}{k:Nat}{x:α}(hx:l[k]? = some x)(hp:p x=false):l.all p=false:=by
 cases h:l.all p
 ·rfl
 ·rw [List.all_eq_true.1 h x (List.mem_of_getElem? hx)] at hp;exact hp
theorem a9y {a b:Nat}:decide ((a:Int)>(b:Int)) = !decide (a≤b):=by
 by_cases h:a≤b
 ·rw [decide_eq_false (by omega),decide_eq_true h];rfl
 ·rw [decide_eq_true (by omega),decide_eq_false h];rfl
theorem c3d {a b:Nat}:decide ((a:Int)≤(b:Int))=decide (a≤b):=decide_eq_decide.2 (by omega)
theorem b6Z (b:Bool)(v:List (List UInt8))(hl:v.length≤9223372036854775807):a0b C0 9 [.sl b 1 (v.map fun l=>str (sb l))] (boo (b1v v)):=by
 refine a0c.walk w1 d6o rfl fun F=>?_
 have el:(((v.map fun l=>str (sb l)).length:Nat):Int)=(v.length:Int):=by rw [List.length_map]
 refine sR 0 ?_;refine OkS.seq ?_;refine sZ 100 ?_;refine nwI el ?_;refine OkS.block ?_;refine OkS.loop (α:=Nat × Nat) (fun p=>⟨[(5,.sl b 1 (v.map fun l=>str (sb l))),(6,i64 v.length),(7,i64 (p.1:Int))],[],p.2⟩) (fun p=>v.length - p.1) (fun p=>p.1≤v.length∧(v.take p.1).all (fun l=>decide (l.length≤40))=true) (0,_) ⟨Nat.zero_le _,rfl⟩ wkI ?_;rintro ⟨i,n⟩ F ⟨hi,ha⟩;dsimp only at hi ha ⊢;refine sR 200 ?_;refine OkS.seq ?_;refine ifI ?_
 (refine brI (fun hlt=>?_) (fun hlt=>?_))<;>(try simp only [Bool.not_eq_true',Bool.not_eq_false'] at hlt)<;>(try simp only [hlt])
 ·have hi2:i<v.length:=by
   have:=of_decide_eq_true hlt
   omega
  have hm:=a4o hi2;have hx:=a5v hi2;have wi:IntKind.i64.wrap ((i:Int)+1)=((i+1:Nat):Int):=wI (by omega) (by omega);obtain ⟨l,hl'⟩:∃ l,lv v i=l:=⟨_,rfl⟩
  rw [hl'] at hm hx;have hsz:=a0u l;refine skI ?_;refine OkS.seq ?_;refine OkS.block ?_;refine sZ 300 ?_;refine gwI kN ?_;refine ixI kT hm ?_;refine gwI kN ?_
  by_cases g:l.length≤40
  ·have e5:decide ((l.length:Int)>40)=false:=decide_eq_false (by omega)
   refine sZ 400 ?_;refine nwI (ff2 hsz e5) ?_;refine ifI ?_;refine skI ?_;refine OkS.reg w1 600 (by kernel_rfl) ?_;refine nwI wi ?_;exact ⟨(i+1,_),⟨hi2,a3o hx ha (decide_eq_true g)⟩,by dsimp only;omega,wkI⟩
  ·have e5:decide ((l.length:Int)>40)=true:=decide_eq_true (by omega)
   refine sZ 400 ?_;refine nwI (ff2 hsz e5) ?_;refine ifI ?_;refine sR 500 ?_;refine rtI ?_;exact a0a (by unfold b1v;rw [a2m hx (decide_eq_false g)]) IsPure.out
 have hi2:i=v.length:=by
  have:=of_decide_eq_false hlt
  omega
 subst hi2;refine exI ?_;refine sR 700 ?_;refine rtI ?_;exact a0a (by unfold b1v;rw [List.take_length] at ha;rw [ha]) IsPure.out
theorem c6f (f:a1G):a0b C0 65 [f.D] (boo (a5Z f)):=by
 refine a0c.walk w1 d3B rfl fun F=>?_
 have cf:=b6Z true [f.tol,f.step] (by simp);have hr:a5Z f=(decide (f.name.length≤100)&&(decide (f.kind.length≤100)&&b1v [f.tol,f.step])):=by
  unfold a5Z b1v;simp only [List.all_cons,List.all_nil,Bool.and_true,Bool.and_assoc]
 rw [hr];have z1:=a0u f.name;have z2:=a0u f.kind;dsimp only [List.map] at cf;unfold a1G.D;obtain ⟨q,hq⟩:∃ q,b1v [f.tol,f.step]=q:=⟨_,rfl⟩
 rw [hq] at cf ⊢;have d1:decide ((f.name.length:Int)≤100)=decide (f.name.length≤100):=decide_eq_decide.2 (by omega);have d2:decide ((f.kind.length:Int)≤100)=decide (f.kind.length≤100):=decide_eq_decide.2 (by omega);refine sR 0 ?_
 by_cases g1:f.name.length≤100
 rotate_left
 ·rw [decide_eq_false g1] at d1 ⊢
  refine sZ 100 ?_;refine nwI (ff2 z1 d1) ?_;refine gwI kB ?_
  try simp only [implies_true]
  refine gwI kB ?_
  try simp only [implies_true]
  refine gwI kB ?_;refine rtI ?_;exact a0a rfl IsPure.out
 rw [decide_eq_true g1] at d1 ⊢
 by_cases g2:f.kind.length≤100
 rotate_left
 ·rw [decide_eq_false g2] at d2 ⊢
  refine sZ 100 ?_;refine nwI (ff2 z1 d1) ?_;refine gwI kB ?_
  try simp only [z2,d2,implies_true]
  refine gwI kB ?_
  try simp only [implies_true]
  refine gwI kB ?_;refine rtI ?_;exact a0a rfl IsPure.out
 rw [decide_eq_true g2] at d2 ⊢;refine sZ 100 ?_;refine nwI (ff2 z1 d1) ?_;refine gwI kB ?_
 try simp only [z2,d2,implies_true]
 refine gwI kB ?_
 try simp only [implies_true]
 refine gcI kB ?_;refine a0k.same _ cf inferInstance ?_;refine gwI kB ?_
 try simp only [implies_true]
 refine rtI ?_;exact a0a rfl IsPure.out
def a1y.fit (s:a1y):Prop:=s.fs.length≤9223372036854775807∧s.gs.length≤9223372036854775807∧∀ g∈s.gs,g.least.length≤9223372036854775807∧g.most.length≤9223372036854775807
theorem c6l (s:a1y)(hs:s.fit):a0b C0 15 [s.D] (boo (a7b s)):=by
 refine a0c.walk w1 d3m rfl fun F=>?_
 have fl:(((s.fs.map a1G.D).length:Nat):Int)=(s.fs.length:Int):=by rw [List.length_map]
 have gl:(((s.gs.map a1q.D).length:Nat):Int)=(s.gs.length:Int):=by rw [List.length_map]
 obtain ⟨ls,lg,lx⟩:=hs;have hmf:∀ i,i<s.fs.length→(s.fs.map a1G.D)[i]? = some (.agg [str (sb (s.fs.getD i default).name),str (sb (s.fs.getD i default).tol),str (sb (s.fs.getD i default).kind),str (sb (s.fs.getD i default).step)]):=fun i hi=>b7I hi
 have hfs:∀ k,k<s.fs.length→s.fs[k]? = some (s.fs.getD k default):=fun k hk=>a8q hk
 have hmg:∀ k,k<s.gs.length→(s.gs.map a1q.D)[k]? = some (.agg [str (sb (s.gs.getD k default).name),.sl false 1 ((s.gs.getD k default).least.map fun l=>str (sb l)),.sl false 1 ((s.gs.getD k default).most.map fun l=>str (sb l))]):=fun k hk=>b5o hk
 have hgs:∀ k,k<s.gs.length→s.gs[k]? = some (s.gs.getD k default):=fun k hk=>a2Z hk
 have hL:a7b s=(decide (s.fs.length≤12)&&(decide (s.gs.length≤20)&&(s.fs.all a5Z&&s.gs.all a6P))):=by
  unfold a7b;simp only [Bool.and_assoc]
 rw [hL];unfold a1y.D;obtain ⟨fsD,hfsD⟩:∃ x,s.fs.map a1G.D=x:=⟨_,rfl⟩
 obtain ⟨gsD,hgsD⟩:∃ x,s.gs.map a1q.D=x:=⟨_,rfl⟩
 have pf:IsPure (.sl false 4 fsD):=by rw [← hfsD];exact inferInstance
 have pg:IsPure (.sl false 3 gsD):=by rw [← hgsD];exact inferInstance
 rw [hfsD] at fl hmf ⊢;rw [hgsD] at gl hmg ⊢;obtain ⟨n,hn⟩:∃ n,s.fs.length=n:=⟨_,rfl⟩
 obtain ⟨m,hm⟩:∃ m,s.gs.length=m:=⟨_,rfl⟩
 have hnl:=hn;have hml:=hm;rw [hn] at fl ls hmf hfs ⊢;rw [hm] at gl lg hmg hgs ⊢;have d1:decide ((n:Int)>12) = !decide (n≤12):=a9y (b:=12);have d2:decide ((m:Int)>20) = !decide (m≤20):=a9y (b:=20);refine sR 0 ?_;refine OkS.seq ?_
 by_cases g1:n≤12
 rotate_left
 ·rw [decide_eq_false g1] at d1 ⊢
  refine sZ 100 ?_;refine nwI (ff3 fl d1 kF) ?_;refine gwI kB ?_
  try simp only [implies_true]
  refine gwI kB ?_;refine ifI ?_;refine sR 200 ?_;refine rtI ?_;exact a0a rfl IsPure.out
 rw [decide_eq_true g1] at d1 ⊢
 by_cases g2:m≤20
 rotate_left
 ·rw [decide_eq_false g2] at d2 ⊢
  refine sZ 100 ?_;refine nwI (ff3 fl d1 kT) ?_;refine gwI kB ?_
  try simp only [gl,d2,Bool.not_false,implies_true]
  refine ifI ?_;refine sR 200 ?_;refine rtI ?_;exact a0a rfl IsPure.out
 rw [decide_eq_true g2] at d2 ⊢;refine sZ 100 ?_;refine nwI (ff3 fl d1 kT) ?_;refine gwI kB ?_
 try simp only [gl,d2,Bool.not_true,implies_true]
 refine ifI ?_;refine skI ?_;rw [Bool.true_and,Bool.true_and];refine OkS.seq ?_;refine sZ 300 ?_;refine nwI fl ?_;refine OkS.block ?_;refine OkS.loop (α:=Nat × Nat) (fun q=>⟨[(1,.optr 0 0 2 0 0),(18,.sl false 4 fsD),(19,i64 (n:Int)),(20,i64 (q.1:Int))],[⟨0,0,39,2,[.agg [.sl false 4 fsD,.sl false 3 gsD]]⟩],q.2⟩) (fun q=>n - q.1) (fun q=>q.1≤n∧(s.fs.take q.1).all a5Z=true) (0,_) ⟨Nat.zero_le _,rfl⟩ wkI ?_;rintro ⟨i,c⟩ F ⟨hi,ha⟩;dsimp only at hi ha ⊢;refine sR 400 ?_;refine OkS.seq ?_;refine ifI ?_
 (refine brI (fun hlt=>?_) (fun hlt=>?_))<;>(try simp only [Bool.not_eq_true',Bool.not_eq_false'] at hlt)<;>(try simp only [hlt])
 ·have hi2:i<n:=by
   have:=of_decide_eq_true hlt
   omega
  have hmi:=hmf i hi2;have hsi:=hfs i hi2;have wi:IntKind.i64.wrap ((i:Int)+1)=((i+1:Nat):Int):=wI (by omega) (by omega);obtain ⟨f,hf⟩:∃ f,s.fs.getD i default=f:=⟨_,rfl⟩
  rw [hf] at hmi hsi;have cp:=c6f f;unfold a1G.D at cp;refine skI ?_;refine OkS.seq ?_;refine OkS.block ?_;refine sZ 500 ?_;refine gwI kN ?_;refine ixI kT hmi ?_;refine gwI kN ?_;cases hp:a5Z f
  ·rw [hp] at cp
   refine sR 600 ?_;refine cI cp ?_;refine ifI ?_;refine sR 700 ?_;refine rtI ?_;exact a0a (by rw [a2m hsi hp];rfl) IsPure.out
  ·rw [hp] at cp
   refine sR 600 ?_;refine cI cp ?_;refine ifI ?_;refine skI ?_;refine OkS.reg w1 800 (by kernel_rfl) ?_;refine nwI wi ?_;exact ⟨(i+1,_),⟨hi2,a3o hsi ha hp⟩,by dsimp only;omega,wkI⟩
 have hi2:i=n:=by
  have:=of_decide_eq_false hlt
  omega
 subst hi2;rw [show s.fs.all a5Z=true by rw [← ha,← hnl,List.take_length],Bool.true_and];clear ha;refine exI ?_;refine OkS.seq ?_;refine sZ 900 ?_;refine nwI gl ?_;refine OkS.block ?_;refine OkS.loop (α:=Nat × Nat) (fun q=>⟨[(29,.sl false 3 gsD),(30,i64 (m:Int)),(31,i64 (q.1:Int))],[],q.2⟩) (fun q=>m - q.1) (fun q=>q.1≤m∧(s.gs.take q.1).all a6P=true) (0,_) ⟨Nat.zero_le _,rfl⟩ wkI ?_;rintro ⟨k,c⟩ F ⟨hk,ha⟩;dsimp only at hk ha ⊢;refine sR 1000 ?_;refine OkS.seq ?_;refine ifI ?_
 (refine brI (fun hlt2=>?_) (fun hlt2=>?_))<;>(try simp only [Bool.not_eq_true',Bool.not_eq_false'] at hlt2)<;>(try simp only [hlt2])
 ·have hk2:k<m:=by
   have:=of_decide_eq_true hlt2
   omega
  have hmk:=hmg k hk2;have hsk:=hgs k hk2;have lk:=lx _ (List.mem_of_getElem? hsk);have wi:IntKind.i64.wrap ((k:Int)+1)=((k+1:Nat):Int):=wI (by omega) (by omega);obtain ⟨g,hg⟩:∃ g,s.gs.getD k default=g:=⟨_,rfl⟩
  rw [hg] at hmk hsk lk;have c1:=b6Z false g.least lk.1;have c2:=b6Z false g.most lk.2;have hG:a6P g=(decide (g.name.length≤100)&&(decide (g.least.length≤20)&&(decide (g.most.length≤20)&&(b1v g.least&&b1v g.most)))):=by
   unfold a6P;simp only [Bool.and_assoc]
  have z1:=a0u g.name;have z2:(((g.least.map fun l=>str (sb l)).length:Nat):Int)=(g.least.length:Int):=by rw [List.length_map]
  have z3:(((g.most.map fun l=>str (sb l)).length:Nat):Int)=(g.most.length:Int):=by rw [List.length_map]
  have y1:decide ((g.name.length:Int)>100) = !decide (g.name.length≤100):=a9y (b:=100);have y2:decide ((g.least.length:Int)>20) = !decide (g.least.length≤20):=a9y (b:=20);have y3:decide ((g.most.length:Int)>20) = !decide (g.most.length≤20):=a9y (b:=20);obtain ⟨b1,hb1⟩:∃ b,decide (g.name.length≤100)=b:=⟨_,rfl⟩
  obtain ⟨b2,hb2⟩:∃ b,decide (g.least.length≤20)=b:=⟨_,rfl⟩
  obtain ⟨b3,hb3⟩:∃ b,decide (g.most.length≤20)=b:=⟨_,rfl⟩
  obtain ⟨b4,hb4⟩:∃ b,b1v g.least=b:=⟨_,rfl⟩
  obtain ⟨b5,hb5⟩:∃ b,b1v g.most=b:=⟨_,rfl⟩
  rw [hb1] at y1 hG;rw [hb2] at y2 hG;rw [hb3] at y3 hG;rw [hb4] at c1 hG;rw [hb5] at c2 hG;refine skI ?_;refine OkS.seq ?_;refine OkS.block ?_;refine sZ 1100 ?_;refine gwI kN ?_;refine ixI kT hmk ?_;refine gwI kN ?_;cases b1
  ·refine sZ 1200 ?_
   refine nwI (ff4 z1 y1 kT kF) ?_;refine gwI kB ?_
   try simp only [implies_true]
   refine gwI kB ?_
   try simp only [implies_true]
   refine gwI kB ?_
   try simp only [implies_true]
   refine gwI kB ?_;refine ifI ?_;refine sR 1300 ?_;refine rtI ?_;exact a0a (by rw [a2m hsk hG]) IsPure.out
  cases b2
  ·refine sZ 1200 ?_
   refine nwI (ff4 z1 y1 kT kF) ?_;refine gwI kB ?_
   try simp only [z2,y2,Bool.not_true,Bool.not_false,implies_true]
   refine gwI kB ?_
   try simp only [implies_true]
   refine gwI kB ?_
   try simp only [implies_true]
   refine gwI kB ?_;refine ifI ?_;refine sR 1300 ?_;refine rtI ?_;exact a0a (by rw [a2m hsk hG]) IsPure.out
  cases b3
  ·refine sZ 1200 ?_
   refine nwI (ff4 z1 y1 kT kF) ?_;refine gwI kB ?_
   try simp only [z2,y2,Bool.not_true,Bool.not_false,implies_true]
   refine gwI kB ?_
   try simp only [z3,y3,Bool.not_true,Bool.not_false,implies_true]
   refine gwI kB ?_
   try simp only [implies_true]
   refine gwI kB ?_;refine ifI ?_;refine sR 1300 ?_;refine rtI ?_;exact a0a (by rw [a2m hsk hG]) IsPure.out
  cases b4
  ·refine sZ 1200 ?_
   refine nwI (ff4 z1 y1 kT kF) ?_;refine gwI kB ?_
   try simp only [z2,y2,Bool.not_true,Bool.not_false,implies_true]
   refine gwI kB ?_
   try simp only [z3,y3,Bool.not_true,Bool.not_false,implies_true]
   refine gwI kB ?_;refine gcI kB ?_;refine a0k.same _ c1 inferInstance ?_;refine gwI kB ?_
   try simp only [implies_true]
   refine gwI kB ?_;refine ifI ?_;refine sR 1300 ?_;refine rtI ?_;exact a0a (by rw [a2m hsk hG]) IsPure.out
  cases b5
  ·refine sZ 1200 ?_
   refine nwI (ff4 z1 y1 kT kF) ?_;refine gwI kB ?_
   try simp only [z2,y2,Bool.not_true,Bool.not_false,implies_true]
   refine gwI kB ?_
   try simp only [z3,y3,Bool.not_true,Bool.not_false,implies_true]
   refine gwI kB ?_;refine gcI kB ?_;refine a0k.same _ c1 inferInstance ?_;refine gwI kB ?_
   try simp only [implies_true]
   refine gwI kB ?_;refine gcI kB ?_;refine a0k.same _ c2 inferInstance ?_;refine gwI kB ?_
   try simp only [implies_true]
   refine ifI ?_;refine sR 1300 ?_;refine rtI ?_;exact a0a (by rw [a2m hsk hG]) IsPure.out
  refine sZ 1200 ?_;refine nwI (ff4 z1 y1 kT kF) ?_;refine gwI kB ?_
  try simp only [z2,y2,Bool.not_true,Bool.not_false,implies_true]
  refine gwI kB ?_
  try simp only [z3,y3,Bool.not_true,Bool.not_false,implies_true]
  refine gwI kB ?_;refine gcI kB ?_;refine a0k.same _ c1 inferInstance ?_;refine gwI kB ?_
  try simp only [implies_true]
  refine gwI kB ?_;refine gcI kB ?_;refine a0k.same _ c2 inferInstance ?_;refine gwI kB ?_
  try simp only [implies_true]
  refine ifI ?_;refine skI ?_;refine OkS.reg w1 1400 (by kernel_rfl) ?_;refine nwI wi ?_;exact ⟨(k+1,_),⟨hk2,a3o hsk ha hG⟩,by dsimp only;omega,wkI⟩
 have hk2:k=m:=by
  have:=of_decide_eq_false hlt2
  omega
 subst hk2;rw [show s.gs.all a6P=true by rw [← ha,← hml,List.take_length]];refine exI ?_;refine sR 1500 ?_;refine rtI ?_;exact a0a rfl IsPure.out
open Go.ChangeShapes Go.WideShapes
def stF (P:Program)(t:Nat):Option (List (Nat × Nat × Nat)):=match P.underlying t with
 | some (.struct fs)=>some (fs.toList.map fun f=>(f.type,f.offset,P.cellsOf f.type))
 | _=>none
section
variable {H:Type} {enc:TypeId × Value→H} {W:World} {fuel:Nat} {cs:List Value} {x:DataW H × List MemPlace} {t:TypeId}
theorem b6f {l:List (Nat × Nat × Nat)}{m:Nat}(hs:stF Tryz.prog t=some l)(hm:Tryz.prog.cellsOf t=m)(h:DataW.trod enc Tryz.prog W 0 (fun _=>true) true fuel t cs=some x) :
  cs.length=m∧∃ n,∀ (i u off k:Nat),l[i]? = some (u,off,k)→∃ y,DataW.trod enc Tryz.prog W 0 (fun _=>true) true n u ((cs.drop off).take k)=some y:=by
 unfold stF at hs;split at hs
 ·rename_i fs hu
  obtain ⟨h1,n,h2⟩:=c0K hu h;refine ⟨h1.trans hm,n,fun i u off k hl=>?_⟩;obtain rfl:=Option.some.inj hs;rw [List.getElem?_map] at hl;obtain ⟨f,hf,he⟩:=Option.map_eq_some_iff.1 hl;cases he;exact h2 i f (by rw [← Array.getElem?_toList];exact hf)
 ·cases hs
theorem a4K {a b c:Nat}{p q:List D}(h:a6v W ((cs.drop a).take b) p)(k:a6v W ((cs.drop (a+b)).take c) q):a6v W ((cs.drop a).take (b+c)) (p++q):=by
 rw [List.take_add,List.drop_drop];exact h.append k
theorem a9R {n:Nat}{p:List D}(hn:cs.length=n)(h:a6v W ((cs.drop 0).take n) p):a6v W cs p:=by
 rw [List.drop_zero,← hn,List.take_length] at h;exact h
theorem b2g (h:DataW.trod enc Tryz.prog W 0 (fun _=>true) true fuel 24 cs=some x):∃ l:List UInt8,a6v W cs (str (sb l)).cells∧l.length≤maxLen:=c4Y (by kernel_rfl) h
theorem a8m (h:DataW.trod enc Tryz.prog W 0 (fun _=>true) true fuel 9 cs=some x):∃ l:List UInt8,a6v W cs [str (sb l)]∧l.length≤maxLen:=c4Y (by kernel_rfl) h
theorem b3O (h:DataW.trod enc Tryz.prog W 0 (fun _=>true) true fuel 40 cs=some x):∃ l:List (List UInt8),a6v W cs [.sl false 1 (l.map fun l=>str (sb l))]∧(∀ a∈l,a.length≤maxLen)∧l.length≤maxLen :=
 c2q (g:=fun l:List UInt8=>str (sb l)) (ok:=fun l=>l.length≤maxLen) (e:=24) (by kernel_rfl) (by kernel_rfl) (by decide) (fun _ _ _ h=>b2g h) h
theorem b9E (h:DataW.trod enc Tryz.prog W 0 (fun _=>true) true fuel 96 cs=some x):∃ f:a1G,a6v W cs f.D.cells∧True:=by
 obtain ⟨h1,n,h2⟩:=b6f (l:=[(9,0,1),(24,1,1),(94,2,2)]) (m:=4) (by kernel_rfl) (by kernel_rfl) h;obtain ⟨y0,k0⟩:=h2 0 _ _ _ rfl;obtain ⟨y1,k1⟩:=h2 1 _ _ _ rfl;obtain ⟨y2,k2⟩:=h2 2 _ _ _ rfl;obtain ⟨a0,r0,_⟩:=a8m k0;obtain ⟨a1,r1,_⟩:=b2g k1;obtain ⟨h3,n',h4⟩:=b6f (l:=[(9,0,1),(24,1,1)]) (m:=2) (by kernel_rfl) (by kernel_rfl) k2;obtain ⟨z0,j0⟩:=h4 0 _ _ _ rfl;obtain ⟨z1,j1⟩:=h4 1 _ _ _ rfl;obtain ⟨b0,s0,_⟩:=a8m j0;obtain ⟨b1,s1,_⟩:=b2g j1;exact ⟨⟨a0,a1,b0,b1⟩,a9R h1 (a4K (b:=1) (c:=3) r0 (a4K (b:=1) (c:=2) r1 (a9R h3 (a4K (b:=1) (c:=1) s0 s1)))),trivial⟩
def d4W (g:a1q):Prop:=g.least.length≤maxLen∧g.most.length≤maxLen
theorem c1r (h:DataW.trod enc Tryz.prog W 0 (fun _=>true) true fuel 56 cs=some x):∃ g:a1q,a6v W cs g.D.cells∧d4W g:=by
 obtain ⟨h1,n,h2⟩:=b6f (l:=[(9,0,1),(40,1,1),(40,2,1)]) (m:=3) (by kernel_rfl) (by kernel_rfl) h;obtain ⟨y0,k0⟩:=h2 0 _ _ _ rfl;obtain ⟨y1,k1⟩:=h2 1 _ _ _ rfl;obtain ⟨y2,k2⟩:=h2 2 _ _ _ rfl;obtain ⟨a0,r0,_⟩:=a8m k0;obtain ⟨a1,r1,_,l1⟩:=b3O k1;obtain ⟨a2,r2,_,l2⟩:=b3O k2;exact ⟨⟨a0,a1,a2⟩,a9R h1 (a4K (b:=1) (c:=2) r0 (a4K (b:=1) (c:=1) r1 r2)),l1,l2⟩
theorem c0c (h:DataW.trod enc Tryz.prog W 0 (fun _=>true) true fuel 39 cs=some x):∃ s:a1y,a6v W cs s.D.cells∧s.fit:=by
 obtain ⟨h1,n,h2⟩:=b6f (l:=[(36,0,1),(37,1,1)]) (m:=2) (by kernel_rfl) (by kernel_rfl) h;obtain ⟨y0,k0⟩:=h2 0 _ _ _ rfl;obtain ⟨y1,k1⟩:=h2 1 _ _ _ rfl;obtain ⟨a0,r0,_,l0⟩:=c2q (g:=a1G.D) (ok:=fun _=>True) (e:=96) (sz:=4) (by kernel_rfl) (by kernel_rfl) (by decide) (fun _ _ _ h=>b9E h) k0;obtain ⟨a1,r1,g1,l1⟩:=c2q (g:=a1q.D) (ok:=d4W) (e:=56) (sz:=3) (by kernel_rfl) (by kernel_rfl) (by decide) (fun _ _ _ h=>c1r h) k1;have hM:maxLen≤9223372036854775807:=by decide
 exact ⟨⟨a0,a1⟩,a9R h1 (a4K (b:=1) (c:=1) r0 r1),by dsimp only;omega,by dsimp only;omega,fun g hg=>⟨Nat.le_trans (g1 g hg).1 hM,Nat.le_trans (g1 g hg).2 hM⟩⟩
end
def a3n (a b:List UInt8):D:=.agg (d1A (decide (a=[])) (decide (b=[])) a b)
instance  (a b:List UInt8):CellsPure (a3n a b):=by unfold a3n;exact inferInstance
instance  (a b:List UInt8):IsPure (a3n a b):=by unfold a3n;exact inferInstance
theorem ltT {i n:Nat}(h:i<n):decide ((i:Int)<(n:Int))=true:=decide_eq_true (by omega)
theorem ltF {i n:Nat}(h:n≤i):decide ((i:Int)<(n:Int))=false:=decide_eq_false (by omega)
theorem wiI {i:Nat}(h:i<9223372036854775807):IntKind.i64.wrap ((i:Int)+1)=((i+1:Nat):Int):=wI (by omega) (by omega)
abbrev LP:=List UInt8 × List UInt8
def pv (r:List LP)(k:Nat):LP:=r.getD k ([],[])
def b5q (r:List LP):D:=.sl false 10 (r.map fun p=>a3n p.1 p.2)
instance  (r:List LP):CellsPure (b5q r):=by unfold b5q;exact inferInstance
instance  (r:List LP):IsPure (b5q r):=by unfold b5q;exact inferInstance
abbrev b6p (n:Nat)(G:List (List LP)):D:=.agg [i64 (n:Int),.sl false 1 (G.map b5q)]
structure c3L (n:Nat)(G:List (List LP)):Prop where
 num:n≤1000
 len:G.length≤1000
 row:∀ r∈G,r.length=n∧∀ p∈r,a2z p.1=0∧a2z p.2=0
theorem a1I {α:Type}{l:List α}{i:Nat}(h:i<l.length):∃ x,l[i]? = some x:=⟨l[i],List.getElem?_eq_getElem h⟩
theorem a5D {α:Type}{l:List α}{Q:α→Prop}{i:Nat}{x:α}(hx:l[i]? = some x)(ha:∀ (j:Nat) (y:α),j<i→l[j]? = some y→Q y)(h:Q x):∀ (j:Nat) (y:α),j<i+1→l[j]? = some y→Q y:=fun j y hj hy=>by
 rcases Nat.lt_or_ge j i with h1|h1
 ·exact ha j y h1 hy
 ·have:j=i:=by omega
  subst this;rw [hx] at hy;cases hy;exact h
theorem b4k {r:List LP}{k:Nat}(h:k<r.length):r[k]? = some (pv r k):=by
 unfold pv;rw [List.getD_eq_getElem?_getD,List.getElem?_eq_getElem h];rfl
abbrev txD (b:Bool)(v:List (List UInt8)):D:=.sl b 1 (v.map fun l=>str (sb l))
def frD (v:List (List UInt8)):D:=.sl false 4 (v.map fun l=>(a1O l).D)
instance  (l:List UInt8):CellsPure (a1O l).D:=by unfold GF.D;exact inferInstance
instance  (v:List (List UInt8)):CellsPure (frD v):=by unfold frD;exact inferInstance
instance  (v:List (List UInt8)):IsPure (frD v):=by unfold frD;exact inferInstance
theorem a3W {v:List (List UInt8)}(h:a1K v=0):∀ l∈v,chk l=0:=by
 induction v with
 | nil=>intro l hl;cases hl
 | cons a r ih =>
  have h':(if chk a≠0 then chk a else a1K r)=0:=h
  by_cases g:chk a=0
  ·rw [if_neg (fun k=>k g)] at h'
   intro l hl;rcases List.mem_cons.1 hl with rfl|h2
   ·exact g
   ·exact ih h' l h2
  ·rw [if_pos g] at h';exact absurd h' g
theorem b8C {v:List (List UInt8)}{i:Nat}{l:List UInt8}(ha:∀ (j:Nat) (y:List UInt8),j<i→v[j]? = some y→chk y=0)(hl:v[i]? = some l)(h:chk l≠0):a1K v=chk l:=by
 rw [a4c ha,List.drop_eq_getElem_cons (List.getElem?_eq_some_iff.1 hl).1,(List.getElem?_eq_some_iff.1 hl).2];exact if_pos h
theorem a9C {v:List (List UInt8)}(ha:∀ (j:Nat) (y:List UInt8),j<v.length→v[j]? = some y→chk y=0):a1K v=0:=by
 rw [a4c (i:=v.length) ha,List.drop_length];rfl
theorem d3r {v:List (List UInt8)}{i:Nat}{l:List UInt8}(h:v[i]? = some l):lv v i=l:=by
 unfold lv;rw [List.getD_eq_getElem?_getD,h];rfl
theorem b6v (b:Bool)(v:List (List UInt8))(hl:v.length≤100000)(hf:∀ l∈v,l.length≤100000)(hc:a1K v=0):a0b C0 108 [txD b v] (frD v):=by
 refine a0c.walk w1 c4t rfl fun F=>?_
 have el:(((v.map fun l=>str (sb l)).length:Nat):Int)=(v.length:Int):=by rw [List.length_map]
 refine goI dr0 (ff2 el kN) trivial trivial trivial trivial trivial trivial ?_;refine OkS.loop (α:=Nat × List D × Nat) (fun p=>⟨[(3,.osl 102 3 4 0 v.length),(9,txD b v),(10,i64 (v.length:Int)),(11,i64 (p.1:Int))],[⟨102,3,113,4,p.2.1⟩],p.2.2⟩) (fun p=>v.length - p.1)
  (fun p=>p.1≤v.length∧p.2.1.length=v.length∧∀ (j:Nat) (l:List UInt8),j<p.1→v[j]? = some l→p.2.1[j]? = some (a1O l).D) (0,List.replicate v.length (.agg [i64 0,a2i,i64 0,a2i]),_) ⟨Nat.zero_le _,List.length_replicate,fun j r hj=>absurd hj (Nat.not_lt_zero j)⟩ wkI ?_
 rintro ⟨i,L,m⟩ F ⟨hi,hL,ha⟩;dsimp only at hi hL ha ⊢;rcases Nat.lt_or_ge i v.length with h2|h2
 ·have e0:=ltT h2
  have wi:=wiI (i:=i) (by omega);obtain ⟨l,hl2⟩:=a1I h2;have hm:(v.map fun l=>str (sb l))[i]? = some (str (sb l)):=by rw [List.getElem?_map,hl2];rfl
  have hmem:=List.mem_of_getElem? hl2;have c:=a7h (hf l hmem) (a3W hc l hmem);obtain ⟨z,hz⟩:∃ z,L[i]? = some z:=a1I (by omega);refine goI dr0 (ff5 e0 wi hz kN Nat.zero_add) hm c trivial trivial trivial trivial ?_;refine ⟨(i+1,L.set i (a1O l).D,_),⟨h2,by rw [List.length_set];exact hL,fun j y hj hy=>?_⟩,by dsimp only;omega,wkI⟩;dsimp only at hj ⊢;rcases Nat.decEq j i with hne|rfl
  ·rw [List.getElem?_set_ne (fun h=>hne h.symm)];exact ha j y (by omega) hy
  ·rw [List.getElem?_set_self (by omega)]
   rw [hl2] at hy;cases hy;rfl
 ·have e0:=ltF h2
  have:i=v.length:=by omega
  subst this;have hLe:L=v.map fun l=>(a1O l).D:=List.ext_getElem? fun j=>by
   rw [List.getElem?_map];rcases Nat.lt_or_ge j v.length with h|h
   ·obtain ⟨y,hy⟩:=a1I h
    rw [hy,ha j y h hy];rfl
   ·rw [List.getElem?_eq_none (by omega),List.getElem?_eq_none h];rfl
  refine goI dr0 e0 trivial trivial trivial trivial trivial trivial ?_;have hz:=b0d 102 3 113 4 L;rw [hL] at hz;exact ⟨_,hz,by rw [hLe];exact (inferInstance:IsPure (frD v)).out,by rw [hLe];rfl⟩
def a3h (n:Nat)(v:List (List UInt8)):Nat:=if v.length=n then a1K v else 2
def b2q (n:Nat)(v:List (List UInt8)):D:=if a3h n v=0 then frD v else a2i
instance  (n:Nat)(v:List (List UInt8)):IsPure (b2q n v):=by unfold b2q;split<;>exact inferInstance
theorem d4V {a b:Nat}(h:a≠b):(((a:Nat):Int) != (b:Int))=true:=by
 have:(((a:Nat):Int)==(b:Int))=false:=beq_eq_false_iff_ne.2 (by omega)
 unfold bne;rw [this];rfl
theorem d3O {a b:Nat}(h:a=b):(((a:Nat):Int) != (b:Int))=false:=by subst h;simp
theorem b3s {a:Nat}(h:a≠0):(((a:Nat):Int) != 0)=true:=a3y (by omega)
theorem b6X {a:Nat}(h:a=0):(((a:Nat):Int) != 0)=false:=by subst h;rfl
theorem d0K {a:Nat}(h:a≠0):(((a:Nat):Int)==0)=false:=beq_eq_false_iff_ne.2 (by omega)
theorem d2G {a:Nat}(h:a=0):(((a:Nat):Int)==0)=true:=by subst h;rfl
def Few (v:List (List UInt8)):Prop:=v.length≤100000∧∀ l∈v,l.length≤100000
theorem b9I (n:Nat)(G:List (List LP))(hG:c3L n G)(b:Bool)(v:List (List UInt8))(hf:Few v):a0b C0 130 [b6p n G,txD b v] (.tup [b2q n v,i64 (a3h n v:Nat)]):=by
 refine a0c.walk w1 c3Q rfl fun F=>?_
 have el:(((v.map fun l=>str (sb l)).length:Nat):Int)=(v.length:Int):=by rw [List.length_map]
 have hn:=hG.num;rcases Nat.decEq v.length n with h1|h1
 ·have e0:=d4V h1
  have hv:a3h n v=2:=if_neg h1;have hd:b2q n v=a2i:=if_neg (by rw [hv];decide);rw [hv,hd];refine goI dr0 (ff2 el e0) trivial trivial trivial trivial trivial trivial ?_;exact a0a rfl IsPure.out
 ·have e0:=d3O h1
  have hv:a3h n v=a1K v:=if_pos h1;have hvd:a1K v≠0→b2q n v=a2i:=fun h=>if_neg (by rw [hv];exact h)
  have hvz:a1K v=0→b2q n v=frD v:=fun h=>if_pos (by rw [hv];exact h)
  rw [hv];refine goI dr0 (ff2 el e0) trivial trivial trivial trivial trivial trivial ?_;refine OkS.loop (α:=Nat × Nat) (fun p=>⟨[(1,txD b v),(14,txD b v),(15,i64 (v.length:Int)),(16,i64 (p.1:Int))],[],p.2⟩) (fun p=>v.length - p.1)
   (fun p=>p.1≤v.length∧∀ (j:Nat) (l:List UInt8),j<p.1→v[j]? = some l→chk l=0) (0,_) ⟨Nat.zero_le _,fun j r hj=>absurd hj (Nat.not_lt_zero j)⟩ wkI ?_
  rintro ⟨i,m⟩ F ⟨hi,ha⟩;dsimp only at hi ha ⊢;have hl:=hf.1;rcases Nat.lt_or_ge i v.length with h2|h2
  ·have e1:=ltT h2
   have wi:=wiI (i:=i) (by omega);obtain ⟨l,hl2⟩:=a1I h2;have hm:(v.map fun l=>str (sb l))[i]? = some (str (sb l)):=by rw [List.getElem?_map,hl2];rfl
   have c:=a5j l (hf.2 l (List.mem_of_getElem? hl2));rcases Nat.decEq (chk l) 0 with h3|h3
   ·have e2:=b3s h3
    have hr:=b8C ha hl2 h3;rw [hr,hvd (by rw [hr];exact h3)];refine goI dr0 (ff3 e1 e2 kN) hm c trivial trivial trivial trivial ?_;exact a0a rfl IsPure.out
   ·have e2:=b6X h3
    refine goI dr0 (ff4 e1 e2 wi kN) hm c trivial trivial trivial trivial ?_;exact ⟨(i+1,_),⟨h2,a5D hl2 ha h3⟩,by dsimp only;omega,wkI⟩
  ·have e1:=ltF h2
   have:i=v.length:=by omega
   subst this;have hr:=a9C ha;have c:=b6v b v hf.1 hf.2 hr;rw [hr,hvz hr];refine goI dr0 e1 c trivial trivial trivial trivial trivial ?_;exact a0a rfl IsPure.out
theorem b3T {H Hf:Hp}{K g T sz:Nat}{l:List D}(h:l=[]∨Hp.get H K=some ⟨K,g,T,sz,l⟩)(hf:Hp.get Hf K=none):Fz H Hf (a9n K g sz l) (.sl false sz l):=by
 cases l with
 | nil=>exact .nil sz
 | cons x l =>
  rcases h with h|h
  ·cases h
  refine .osl (e:=⟨K,g,T,sz,x::l⟩) h hf rfl rfl (by simp) (by simp) (fun j d d' h1 h2=>?_) fun j d d' q c c' h1 h2 h3 h4=>?_
  ·rw [Nat.zero_add] at h1;rw [h1] at h2;cases h2;rfl
  ·rw [Nat.zero_add] at h1;rw [h1] at h2;cases h2;rw [h3] at h4;cases h4;exact Fz.refl _
theorem b7W {H Hf r r':Hp}{K g T sz:Nat}{l:List D}(h:FzH H Hf r r'):FzH H Hf (a7v K g T sz l++r) r':=by
 cases l with
 | nil=>exact h
 | cons x l=>exact .drop h
theorem b8n {K g T sz:Nat}{l:List D}{H:Hp}:l=[]∨Hp.get (a7v K g T sz l++H) K=some ⟨K,g,T,sz,l⟩:=by
 cases l with
 | nil=>exact .inl rfl
 | cons x l=>right;simp [a7v,Hp.get]
theorem c1e {K k g T sz:Nat}{l:List D}(h:Nat.beq K k=false):Hp.get (a7v K g T sz l) k=none:=by
 cases l with
 | nil=>rfl
 | cons x l=>simp [a7v,Hp.get,h]
def a0Q (s:a1y):List (List LP):=s.gs.map fun g=>g.least.zip g.most
def c7p (s:a1y):Prop:=s.fs.length≤8∧s.gs.length≤16∧∀ g∈s.gs,gOk s.fs.length g
theorem b8W {g:a1q}{n k:Nat}(h:gOk n g)(hk:k<n):(g.least.zip g.most)[k]? = some (lv g.least k,lv g.most k):=by
 rw [List.getElem?_zip_eq_some];exact ⟨a5v (by rw [h.1];exact hk),a5v (by rw [h.2.1];exact hk)⟩
theorem b0D {g:a1q}{n:Nat}(h:gOk n g):(g.least.zip g.most).length=n:=by rw [List.length_zip,h.1,h.2.1];exact Nat.min_self n
theorem b0P {s:a1y}(h:c7p s):c3L s.fs.length (a0Q s):=by
 refine ⟨by have:=h.1;omega,by unfold a0Q;rw [List.length_map];have:=h.2.1;omega,fun r hr=>?_⟩;obtain ⟨g,hg,rfl⟩:=List.mem_map.1 hr;have hk:=h.2.2 g hg;refine ⟨b0D hk,fun p hp=>?_⟩;obtain ⟨k,hk1,e⟩:=List.getElem_of_mem hp;rw [b0D hk] at hk1
 have:=b8W hk hk1
 rw [List.getElem?_eq_getElem (by rw [b0D hk];exact hk1),e] at this;cases this;exact hk.2.2 k hk1
theorem a2k {s:a1y}(h:a0n s=0):c7p s:=by
 unfold a0n at h
 by_cases h1:b2b s.fs.length=0
 ·rw [if_neg (fun k=>k h1)] at h
  by_cases h2:a8N (a1U s.fs) s.fs.length=0
  ·rw [if_neg (fun k=>k h2)] at h
   by_cases h3:b2f s.gs.length=0
   ·rw [if_neg (fun k=>k h3)] at h
    refine ⟨?_,?_,fun g hg=>?_⟩
    ·unfold b2b at h1
     by_cases q:s.fs.length=0
     ·omega
     ·rw [if_neg q] at h1
      by_cases q2:s.fs.length>8
      ·rw [if_pos q2] at h1;cases h1
      ·omega
    ·unfold b2f at h3
     by_cases q:s.gs.length=0
     ·omega
     ·rw [if_neg q] at h3
      by_cases q2:s.gs.length>16
      ·rw [if_pos q2] at h3;cases h3
      ·omega
    ·obtain ⟨i,hi,e⟩:=List.getElem_of_mem hg
     have:=a5C (a7M h i hi)
     rw [List.getD_eq_getElem?_getD,List.getElem?_eq_getElem hi,e] at this;exact this
   ·rw [if_pos h3] at h;exact absurd h h3
  ·rw [if_pos h2] at h;exact absurd h h2
 ·rw [if_pos h1] at h;exact absurd h h1
def a7k (s:a1y):D:=if a0n s=0 then b6p s.fs.length (a0Q s) else .agg [i64 0,a2i]
instance  (s:a1y):IsPure (a7k s):=by unfold a7k;split<;>exact inferInstance
abbrev a4F:Dr:=[(12,[0,1,2,3,4,5,6,7,8,9,10,11,12,13,14],[15,16])]
open Go.Proofs Go.RowKit
set_option maxRecDepth 20000
set_option maxHeartbeats 4000000
theorem c6d (s:a1y)(hs:s.few):a0b C0 95 [s.D] (.tup [a7k s,i64 (a0n s:Nat)]):=by
 refine a0c.walk w1 d1U rfl fun F=>?_
 have c1:=d5X s hs;have el1:(((s.fs.map a1G.D).length:Nat):Int)=(s.fs.length:Int):=by rw [List.length_map]
 have el2:(((s.gs.map a1q.D).length:Nat):Int)=(s.gs.length:Int):=by rw [List.length_map]
 unfold a1y.D at c1 ⊢;rcases Nat.decEq (a0n s) 0 with h0|h0
 ·have e0:=b3s h0
  have hd:a7k s=.agg [i64 0,a2i]:=if_neg h0;rw [hd];refine goI a4F e0 c1 trivial trivial trivial trivial trivial ?_;exact a0a rfl IsPure.out
 have e0:=b6X h0;have hd:a7k s=b6p s.fs.length (a0Q s):=if_pos h0;have hok:=a2k h0;have hG:=b0P hok;rw [hd];rw [h0] at c1 e0 ⊢;obtain ⟨h8,h16,hgo⟩:=hok;obtain ⟨gsD,hgsD⟩:∃ x,s.gs.map a1q.D=x:=⟨_,rfl⟩
 obtain ⟨fsD,hfsD⟩:∃ x,s.fs.map a1G.D=x:=⟨_,rfl⟩
 obtain ⟨n,hn⟩:∃ n,s.fs.length=n:=⟨_,rfl⟩
 obtain ⟨N,hN⟩:∃ n,s.gs.length=n:=⟨_,rfl⟩
 have hrows:∀ i g,s.gs[i]? = some g→(a0Q s).take (i+1)=(a0Q s).take i++[g.least.zip g.most]:=fun i g h=>by
  rw [List.take_add_one]
  congr 1
  unfold a0Q;rw [List.getElem?_map,h];rfl
 have hgl:(a0Q s).length=N:=by unfold a0Q;rw [List.length_map,hN]
 have hfew:=hs.2.2.2;rw [hgsD,hN] at el2;rw [hfsD,hn] at el1;rw [hn] at hgo h8 ⊢;rw [hN] at h16;rw [hgsD,hfsD] at c1 ⊢;have pf:IsPure (.sl false 4 fsD):=by rw [← hfsD];exact inferInstance
 have pg:IsPure (.sl false 3 gsD):=by rw [← hgsD];exact inferInstance
 generalize hR0:a0Q s=G at *;refine goI a4F (ff3 e0 el1 el2) c1 trivial trivial trivial trivial trivial ?_;refine OkS.loop (α:=Nat × List D × Nat × Nat) (fun p=>⟨[(1,.optr 0 0 2 0 0),(2,.optr 1 1 2 0 0),(5,.optr 404 12 2 0 0),(21,.sl false 3 gsD),(22,i64 (N:Int)),(23,i64 (p.1:Int))],
   [⟨404,12,134,2,[.agg [i64 (n:Int),a9n 1404 p.2.2.1 1 p.2.1]]⟩,⟨1,1,134,2,[.agg [i64 0,a2i]]⟩,⟨0,0,39,2,[.agg [.sl false 4 fsD,.sl false 3 gsD]]⟩]++a7v 1404 p.2.2.1 141 1 p.2.1,p.2.2.2⟩) (fun p=>N - p.1)
  (fun p=>p.1≤N∧p.2.1=(G.take p.1).map b5q) (0,[],0,_) ⟨Nat.zero_le _,rfl⟩ wkI ?_
 rintro ⟨i,R,g2,m⟩ F ⟨hi,hR⟩;dsimp only at hi hR ⊢;rcases Nat.lt_or_ge i N with h2|h2
 rotate_left
 ·have e1:=ltF h2
  have:i=N:=by omega
  subst this;have hRG:R=G.map b5q:=by rw [hR,← hgl,List.take_length]
  refine goI a4F e1 trivial trivial trivial trivial trivial trivial ?_;refine ⟨.tup [b6p n G,i64 0],.tup rfl fun j d d' h1 h2=>?_,IsPure.out,rfl⟩;rcases j with _|_|j
  ·cases h1;cases h2
   refine .agg rfl fun j d d' h1 h2=>?_
   rcases j with _|_|j
   ·cases h1;cases h2;exact .refl _
   ·cases h1;cases h2
    rw [← hRG];exact b3T (by cases R with|nil=>exact .inl rfl|cons x l=>right;rfl) rfl
   ·simp at h1
  ·cases h1;cases h2;exact .refl _
  ·simp at h1
 have e1:=ltT h2;have wi:=wiI (i:=i) (by omega);obtain ⟨g,hg⟩:∃ g,s.gs[i]? = some g:=a1I (by omega);have hm:gsD[i]? = some (.agg [str (sb g.name),.sl false 1 (g.least.map fun l=>str (sb l)),.sl false 1 (g.most.map fun l=>str (sb l))]):=by rw [← hgsD,List.getElem?_map,hg];rfl
 have hgk:=hgo g (List.mem_of_getElem? hg);have hgf:=hfew g (List.mem_of_getElem? hg);have hrow:=hrows i g hg;obtain ⟨A,hA⟩:∃ A,a9n 1404 g2 1 R=A:=⟨_,rfl⟩
 obtain ⟨HH,hHH⟩:∃ A,a7v 1404 g2 141 1 R=A:=⟨_,rfl⟩
 have hget:∀ k,Nat.beq 1404 k=false→Hp.get HH k=none:=fun k hk=>by rw [← hHH];exact c1e hk
 obtain ⟨P,hP⟩:∃ P,g.least.zip g.most=P:=⟨_,rfl⟩
 have hPl:P.length=n:=by rw [← hP];exact b0D hgk
 rw [hP] at hrow;rw [hA,hHH];refine goI a4F (ff2 e1 el1) hm trivial trivial trivial trivial trivial ?_;have hzip:∀ k,k<n→P[k]? = some (lv g.least k,lv g.most k):=fun k hk=>by rw [← hP];exact b8W hgk hk
 refine OkS.loop (α:=Nat × List D × Nat × Nat × Nat) (fun p=>⟨[(1,.optr 0 0 2 0 0),(2,.optr 1 1 2 0 0),(5,.optr 404 12 2 0 0),(7,.optr 702 p.2.2.2.1 3 0 0),(8,a9n 1215 p.2.2.1 10 p.2.1),(21,.sl false 3 gsD),(22,i64 (N:Int)),(23,i64 (i:Int)),(29,i64 (n:Int)),(30,i64 (p.1:Int))],
   a7v 1215 p.2.2.1 140 10 p.2.1++([⟨702,p.2.2.2.1,56,3,[.agg [str (sb g.name),.sl false 1 (g.least.map fun l=>str (sb l)),.sl false 1 (g.most.map fun l=>str (sb l))]]⟩,⟨404,12,134,2,[.agg [i64 (n:Int),A]]⟩,⟨1,1,134,2,[.agg [i64 0,a2i]]⟩,⟨0,0,39,2,[.agg [.sl false 4 fsD,.sl false 3 gsD]]⟩]++HH),p.2.2.2.2⟩) (fun p=>n - p.1)
  (fun p=>p.1≤n∧p.2.1=(P.take p.1).map fun p=>a3n p.1 p.2) (0,[],0,_,_) ⟨Nat.zero_le _,rfl⟩ wkI ?_
 rintro ⟨k,L,g3,g4,m3⟩ F ⟨hk,hL⟩;dsimp only at hk hL ⊢;rcases Nat.lt_or_ge k n with h3|h3
 ·have e2:=ltT h3
  have wk:=wiI (i:=k) (by omega);have m1:=a4o (l:=g.least) (k:=k) (by rw [hgk.1];exact h3);have m2:=a4o (l:=g.most) (k:=k) (by rw [hgk.2.1];exact h3);have f1:=a6h (l:=g.least) (k:=k) (by rw [hgk.1];exact h3) hgf.2.2.2.1;have f2:=a6h (l:=g.most) (k:=k) (by rw [hgk.2.1];exact h3) hgf.2.2.2.2;have hE:=hgk.2.2 k h3;have hz:=hzip k h3;have hsn:(P.take (k+1)).map (fun p=>a3n p.1 p.2)=L++[a3n (lv g.least k) (lv g.most k)]:=by rw [hL,List.take_add_one,hz,List.map_append];rfl
  have hLl:L.length=k:=by rw [hL,List.length_map,List.length_take];omega
  have ca:=b0k _ f1 hE.1;have cb:=b0k _ f2 hE.2;have hLle:L.length≤8:=by omega
  clear hL;rcases L with _|⟨x,l⟩
  all_goals
   (try simp only [List.length_cons] at hLle)
   dsimp only [a4d,a4a,a3k,a3g]
  ·refine goI a4F (ff3 e2 wk kN) m1 m2 ca cb trivial trivial ?_
   exact ⟨(k+1,[a3n (lv g.least k) (lv g.most k)],_,_,_),⟨h3,hsn.symm⟩,by dsimp only;omega,wkI⟩
  ·have htk:List.take (l.length+1) (x::l)=x::l:=by simp
   refine goI a4F (ff4 e2 wk htk kN) m1 m2 ca cb trivial trivial ?_;exact ⟨(k+1,x::l++[a3n (lv g.least k) (lv g.most k)],_,_,_),⟨h3,hsn.symm⟩,by dsimp only;omega,by (dsimp only;rw [a3Q];exact wkI)⟩
 have e2:=ltF h3
 have:k=n:=by omega
 subst this;have hLr:L=P.map fun p=>a3n p.1 p.2:=by rw [hL,← hPl,List.take_length]
 refine sZ 1000 ?_;refine nwI e2 ?_;refine OkS.seq ?_;refine ifI ?_;refine exI ?_;refine OkS.weak ⟨[(1,.optr 0 0 2 0 0),(2,.optr 1 1 2 0 0),(5,.optr 404 12 2 0 0),(8,.sl false 10 (P.map fun p=>a3n p.1 p.2)),(21,.sl false 3 gsD),(22,i64 (N:Int)),(23,i64 (i:Int))],
   [⟨404,12,134,2,[.agg [i64 (k:Int),A]]⟩,⟨1,1,134,2,[.agg [i64 0,a2i]]⟩,⟨0,0,39,2,[.agg [.sl false 4 fsD,.sl false 3 gsD]]⟩]++HH,_⟩ ⟨?_,?_,Nat.le_refl _⟩ ?_
 ·exact b7W (.drop (.keep (.keep (.keep (a5h _)))))
 ·refine ⟨.refl _,.refl _,.refl _,?_,.refl _,.refl _,.refl _,trivial⟩
  rw [← hLr];exact b3T b8n (hget _ rfl)
 clear hL hLr;have hsn:(G.take (i+1)).map b5q=R++[b5q P]:=by rw [hrow,List.map_append,← hR];rfl
 have hsr:b5q P=.sl false 10 (P.map fun p=>a3n p.1 p.2):=rfl;rw [hsr] at hsn;have hRl:R.length≤16:=by rw [hR,List.length_map,List.length_take];omega
 have pP:IsPure (b5q P):=inferInstance;rw [hsr] at pP;obtain ⟨PD,hPD⟩:∃ r,(P.map fun p=>a3n p.1 p.2)=r:=⟨_,rfl⟩
 rw [hPD] at pP ⊢;rw [hPD] at hsn;clear hR;rcases R with _|⟨x,l⟩
 ·subst hA hHH
  dsimp only [a4d,a4a,List.append_nil];refine rI 1400 ?_;refine OkS.perm (List.perm_append_comm (l₁:=[_]) (l₂:=[_,_,_])) ?_;refine goI a4F wi trivial trivial trivial trivial trivial trivial ?_;exact ⟨(i+1,[.sl false 10 PD],_,_),⟨h2,hsn.symm⟩,by dsimp only;omega,wkI⟩
 ·subst hA hHH
  have htk:List.take (l.length+1) (x::l)=x::l:=by simp
  simp only [List.length_cons] at hRl;dsimp only [a3k,a3g];refine OkS.reg w1 1400 (by kernel_rfl) ?_;refine nwI htk ?_;refine OkS.perm (List.perm_append_comm (l₁:=[_]) (l₂:=[_,_,_])) ?_;refine goI a4F wi trivial trivial trivial trivial trivial trivial ?_;exact ⟨(i+1,x::l++[.sl false 10 PD],_,_),⟨h2,hsn.symm⟩,by dsimp only;omega,by (dsimp only;rw [a3Q];exact wkI)⟩
def unk (g:Int)(n:Nat):Nat:=if g<0∨(n:Int)≤g then 10 else 0
theorem a3q {g:Int}{n:Nat}(h:unk g n=0):∃ k:Nat,g=k∧k<n:=by
 unfold unk at h
 by_cases g1:g<0∨(n:Int)≤g
 ·rw [if_pos g1] at h;cases h
 ·exact ⟨g.toNat,by omega,by omega⟩
theorem d2z {g:Int}{n:Nat}(h:g<0):unk g n=10:=if_pos (.inl h)
theorem d2H {g:Int}{n:Nat}(h:(n:Int)≤g):unk g n=10:=if_pos (.inr h)
theorem c8E {g:Int}{n:Nat}(h:¬ g<0)(k:¬ (n:Int)≤g):unk g n=0:=if_neg fun q=>q.elim h k
def c9K (s:a1y)(v:List (List UInt8)):Nat:=if a0n s=0 then a3h s.fs.length v else a0n s
def b1w (s:a1y)(g:Int)(v:List (List UInt8)):Nat:=if a0n s=0 then (if unk g s.gs.length=0 then a3h s.fs.length v else unk g s.gs.length) else a0n s
theorem b6d (n:Nat)(G:List (List LP))(g:Int):a0b C0 129 [b6p n G,i64 g] (i64 (unk g G.length:Nat)):=by
 refine a0c.walk w1 c3w rfl fun F=>?_
 have el:(((G.map b5q).length:Nat):Int)=(G.length:Int):=by rw [List.length_map]
 by_cases h1:g<0
 ·have e1:decide (g<0)=true:=decide_eq_true h1
  refine goI dr0 e1 (a1D true 10) trivial trivial trivial trivial trivial ?_;rw [d2z h1];exact a0a rfl IsPure.out
 ·have e1:decide (g<0)=false:=decide_eq_false h1
  by_cases h2:(G.length:Int)≤g
  ·have e2:decide (g≥(G.length:Int))=true:=decide_eq_true h2
   refine goI dr0 (ff3 e1 e2 el) (a1D true 10) trivial trivial trivial trivial trivial ?_;rw [d2H h2];exact a0a rfl IsPure.out
  ·have e2:decide (g≥(G.length:Int))=false:=decide_eq_false h2
   refine goI dr0 (ff3 e1 e2 el) (a1D false 10) trivial trivial trivial trivial trivial ?_;rw [c8E h1 h2];exact a0a rfl IsPure.out
theorem b3S (n:Nat)(G:List (List LP))(g:Int):a0b C0 97 [b6p n G,i64 g] (i64 (unk g n:Nat)):=by
 refine a0c.walk w1 d1f rfl fun F=>?_
 by_cases h1:g<0
 ·have e1:decide (g<0)=true:=decide_eq_true h1
  refine goI dr0 e1 (a1D true 10) trivial trivial trivial trivial trivial ?_;rw [d2z h1];exact a0a rfl IsPure.out
 ·have e1:decide (g<0)=false:=decide_eq_false h1
  by_cases h2:(n:Int)≤g
  ·have e2:decide (g≥(n:Int))=true:=decide_eq_true h2
   refine goI dr0 (ff2 e1 e2) (a1D true 10) trivial trivial trivial trivial trivial ?_;rw [d2H h2];exact a0a rfl IsPure.out
  ·have e2:decide (g≥(n:Int))=false:=decide_eq_false h2
   refine goI dr0 (ff2 e1 e2) (a1D false 10) trivial trivial trivial trivial trivial ?_;rw [c8E h1 h2];exact a0a rfl IsPure.out
def c2x (e:Nat)(v:List (List UInt8)):D:=if e=0 then frD v else a2i
instance  (e:Nat)(v:List (List UInt8)):IsPure (c2x e v):=by unfold c2x;split<;>exact inferInstance
theorem b2c (s:a1y):∃ x y,a7k s=.agg [i64 x,y]:=by
 unfold a7k;split
 ·exact ⟨_,_,rfl⟩
 ·exact ⟨_,_,rfl⟩
theorem b0A (s:a1y):(a0Q s).length=s.gs.length:=List.length_map ..
theorem b2t (s:a1y)(hs:s.few)(g:Int)(b:Bool)(v:List (List UInt8))(hf:Few v):a0b C0 66 [s.D,i64 g,txD b v] (.tup [a7k s,c2x (b1w s g v) v,i64 (b1w s g v:Nat)]):=by
 refine a0c.walk w1 d1d rfl fun F=>?_
 have c1:=c6d s hs;obtain ⟨q,hq⟩:∃ q,b1w s g v=q:=⟨_,rfl⟩
 rw [hq];unfold a1y.D at c1 ⊢;rcases Nat.decEq (a0n s) 0 with h0|h0
 ·have e0:=b3s h0
  have e1:=d0K h0;have hd:a7k s=.agg [i64 0,a2i]:=if_neg h0;have hv:q=a0n s:=by rw [← hq];exact if_neg h0
  have hd2:c2x q v=a2i:=if_neg (by rw [hv];exact h0);rw [hd2,hd];rw [hd] at c1;refine goI dr0 (ff2 e0 e1) c1 trivial trivial trivial trivial trivial ?_;exact a0a (by rw [hv]) IsPure.out
 have e0:=d2G h0;have hd:a7k s=b6p s.fs.length (a0Q s):=if_pos h0;have cg:=b6d s.fs.length (a0Q s) g;rw [b0A] at cg;rcases Nat.decEq (unk g s.gs.length) 0 with h1|h1
 ·have e1:=b3s h1
  have hv:q=unk g s.gs.length:=by rw [← hq];unfold b1w;rw [if_pos h0,if_neg h1]
  have hd2:c2x q v=a2i:=if_neg (by rw [hv];exact h1);rw [hd2,hd];rw [hd] at c1;refine goI dr0 (ff2 e0 e1) c1 cg trivial trivial trivial trivial ?_;exact a0a (by rw [hv]) IsPure.out
 ·have e1:=b6X h1
  have hv:a3h s.fs.length v=q:=by rw [← hq];unfold b1w;rw [if_pos h0,if_pos h1]
  have c2:=b9I s.fs.length (a0Q s) (b0P (a2k h0)) b v hf;have hd2:c2x q v=b2q s.fs.length v:=by unfold c2x b2q;rw [hv]
  rw [hd2,hd];rw [hd] at c1;rw [hv] at c2;refine goI dr0 (ff2 e0 e1) c1 cg c2 trivial trivial trivial ?_;exact a0a rfl IsPure.out
theorem b7x {s:a1y}{v:List (List UInt8)}(h:c9K s v=0):a0n s=0∧v.length=s.fs.length∧a1K v=0:=by
 unfold c9K at h
 by_cases h0:a0n s=0
 ·rw [if_pos h0] at h
  unfold a3h at h
  by_cases h1:v.length=s.fs.length
  ·rw [if_pos h1] at h;exact ⟨h0,h1,h⟩
  ·rw [if_neg h1] at h;cases h
 ·rw [if_neg h0] at h;exact absurd h h0
theorem b9e {s:a1y}{g:Int}{v:List (List UInt8)}(h:b1w s g v=0):a0n s=0∧unk g s.gs.length=0∧v.length=s.fs.length∧a1K v=0:=by
 unfold b1w at h
 by_cases h0:a0n s=0
 ·rw [if_pos h0] at h
  by_cases h2:unk g s.gs.length=0
  ·rw [if_pos h2] at h
   have:=b7x (s:=s) (v:=v) (by unfold c9K;rw [if_pos h0];exact h)
   exact ⟨h0,h2,this.2⟩
  ·rw [if_neg h2] at h;exact absurd h h2
 ·rw [if_neg h0] at h;exact absurd h h0
theorem b7Y {H Hf:Hp}{a a' b:D}(h:Fz H Hf a a'):Fz H Hf (.tup [a,b]) (.tup [a',b]):=.tup rfl fun i d d' h1 h2=>by
 rcases i with _|_|i
 ·cases h1;cases h2;exact h
 ·cases h1;cases h2;exact .refl _
 ·simp at h1
def a9i (G:List (List LP))(g:Nat):List LP:=G.getD g []
theorem b0g {G:List (List LP)}{g:Nat}(h:g<G.length):G[g]? = some (a9i G g):=by
 unfold a9i;rw [List.getD_eq_getElem?_getD,List.getElem?_eq_getElem h];rfl
theorem d3v (s:a1y)(b:Bool)(v:List (List UInt8))(hf:Few v)(hr:v.length≤1000000→a0b C0 31 [txD b v] (i64 (a1K v:Nat))):a0b C0 22 [s.D,txD b v] (i64 (a3h s.fs.length v:Nat)):=by
 refine a0c.walk w1 d2R rfl fun F=>?_
 have el:(((v.map fun l=>str (sb l)).length:Nat):Int)=(v.length:Int):=by rw [List.length_map]
 have el1:(((s.fs.map a1G.D).length:Nat):Int)=(s.fs.length:Int):=by rw [List.length_map]
 have c:=hr (by have:=hf.1;omega);unfold a1y.D a3h
 by_cases h:v.length=s.fs.length
 ·have e0:=d3O h
  rw [if_pos h];refine goI dr0 (ff3 el el1 e0) c trivial trivial trivial trivial trivial ?_;exact a0a rfl IsPure.out
 ·have e0:=d4V h
  rw [if_neg h];refine goI dr0 (ff3 el el1 e0) trivial trivial trivial trivial trivial trivial ?_;exact a0a rfl IsPure.out
theorem b6N (g:Int)(n:Nat):a0b C0 21 [i64 g,i64 (n:Int)] (i64 (unk g n:Nat)):=by
 refine a0c.walk w1 d3L rfl fun F=>?_
 by_cases h1:g<0
 ·have e1:decide (g<0)=true:=decide_eq_true h1
  rw [d2z h1];refine goI dr0 e1 trivial trivial trivial trivial trivial trivial ?_;exact a0a rfl IsPure.out
 ·have e1:decide (g<0)=false:=decide_eq_false h1
  by_cases h2:(n:Int)≤g
  ·have e2:decide (g≥(n:Int))=true:=decide_eq_true h2
   rw [d2H h2];refine goI dr0 (ff2 e1 e2) trivial trivial trivial trivial trivial trivial ?_;exact a0a rfl IsPure.out
  ·have e2:decide (g≥(n:Int))=false:=decide_eq_false h2
   rw [c8E h1 h2];refine goI dr0 (ff2 e1 e2) trivial trivial trivial trivial trivial trivial ?_;exact a0a rfl IsPure.out
theorem d2e {g:a1q}{n k:Nat}(h:gOk n g)(hk:k<n):pv (g.least.zip g.most) k=(lv g.least k,lv g.most k):=by
 unfold pv;rw [List.getD_eq_getElem?_getD,b8W h hk];rfl
theorem c0H {s:a1y}{i:Nat}(hi:i<s.gs.length):a9i (a0Q s) i=(s.gs.getD i default).least.zip (s.gs.getD i default).most:=by
 unfold a9i a0Q;rw [List.getD_eq_getElem?_getD,List.getElem?_map,a2Z hi];rfl
theorem d0P {s:a1y}(hs:c7p s){i:Nat}(hi:i<s.gs.length):gOk s.fs.length (s.gs.getD i default):=hs.2.2 _ (List.mem_of_getElem? (a2Z hi))
theorem a6Y {n:Nat}{gs:List a1q}{i:Nat}(h:a0C n gs i=0):∀ k,k<n→a0Y (lv (gs.getD i default).least k) (lv (gs.getD i default).most k) (a1J gs i k)=0:=by
 unfold a0C at h;dsimp only at h;split at h
 ·split at h
  ·cases h
  ·split at h
   ·exact a7M h
   ·cases h
 ·cases h
theorem a7f {s:a1y}(h:a0n s=0):∀ i,i<s.gs.length→a0C s.fs.length s.gs i=0:=by
 unfold a0n at h;split at h
 ·rename_i h1;exact absurd h h1
 ·split at h
  ·rename_i h1;exact absurd h h1
  ·split at h
   ·rename_i h1;exact absurd h h1
   ·exact a7M h
set_option maxHeartbeats 8000000
structure a0t where
 fac:Int
 step:List UInt8
 price:List UInt8
def a0t.D (r:a0t):D:=.agg [i64 r.fac,str (sb r.step),str (sb r.price)]
instance  (r:a0t):CellsPure r.D:=by unfold a0t.D;exact inferInstance
instance  (r:a0t):IsPure r.D:=by unfold a0t.D;exact inferInstance
structure b5O where
 grade:Int
 factor:Int
 vals:List (List UInt8)
 rates:List a0t
def b5O.D (x:b5O):D:=.agg [i64 x.grade,i64 x.factor,txD false x.vals,.sl false 3 (x.rates.map a0t.D)]
instance  (x:b5O):IsPure x.D:=by unfold b5O.D;exact inferInstance
def b5O.fit (x:b5O):Prop:=x.vals.length≤9223372036854775807∧x.rates.length≤9223372036854775807
def d2Q (r:a0t):Bool:=b1v [r.step,r.price]
def b1L (x:b5O):Bool:=x.rates.all d2Q&&(decide (x.vals.length≤12)&&(b1v x.vals&&decide (x.rates.length≤260)))
theorem c1y (x:b5O)(hx:x.fit):a0b C0 16 [x.D] (boo (b1L x)):=by
 refine a0c.walk w1 d3Z rfl fun F=>?_
 have el:(((x.rates.map a0t.D).length:Nat):Int)=(x.rates.length:Int):=by rw [List.length_map]
 have el2:(((x.vals.map fun l=>str (sb l)).length:Nat):Int)=(x.vals.length:Int):=by rw [List.length_map]
 have hfit:=hx.2;have hq:b1L x=(x.rates.all d2Q&&(decide (x.vals.length≤12)&&(b1v x.vals&&decide (x.rates.length≤260)))):=rfl;rw [hq];unfold b5O.D;refine goI dr0 el trivial trivial trivial trivial trivial trivial ?_;refine OkS.loop (α:=Nat × Nat) (fun p=>⟨[(1,.optr 0 0 4 0 0),(6,.sl false 3 (x.rates.map a0t.D)),(7,i64 (x.rates.length:Int)),(8,i64 (p.1:Int))],[⟨0,0,43,4,[.agg [i64 x.grade,i64 x.factor,txD false x.vals,.sl false 3 (x.rates.map a0t.D)]]⟩],p.2⟩) (fun p=>x.rates.length - p.1) (fun p=>p.1≤x.rates.length∧(x.rates.take p.1).all d2Q=true) (0,_) ⟨Nat.zero_le _,rfl⟩ wkI ?_;rintro ⟨i,m⟩ F ⟨hi,ha⟩;dsimp only at hi ha ⊢;rcases Nat.lt_or_ge i x.rates.length with h2|h2
 ·have e1:=ltT h2
  have wi:=wiI (i:=i) (by omega);obtain ⟨r,hr⟩:=a1I h2;have hm:(x.rates.map a0t.D)[i]? = some (.agg [i64 r.fac,str (sb r.step),str (sb r.price)]):=by rw [List.getElem?_map,hr];rfl
  have c:=b6Z true [r.step,r.price] (by simp);obtain ⟨w,hw⟩:∃ w,d2Q r=w:=⟨_,rfl⟩
  have hw2:b1v [r.step,r.price]=w:=hw;rw [hw2] at c;cases w
  ·rw [a2m hr hw,Bool.false_and]
   refine goI dr0 (ff2 e1 kN) hm c trivial trivial trivial trivial ?_;exact a0a rfl IsPure.out
  ·refine goI dr0 (ff3 e1 wi kN) hm c trivial trivial trivial trivial ?_
   exact ⟨(i+1,_),⟨h2,a3o hr ha hw⟩,by dsimp only;omega,wkI⟩
 ·have e1:=ltF h2
  have:i=x.rates.length:=by omega
  subst this;rw [List.take_length] at ha;rw [ha,Bool.true_and];have e3:decide ((x.vals.length:Int)≤12)=decide (x.vals.length≤12):=c3d (b:=12);have e4:decide ((x.rates.length:Int)≤260)=decide (x.rates.length≤260):=c3d (b:=260);have c:=b6Z false x.vals hx.1;obtain ⟨p,hp⟩:∃ w,decide (x.vals.length≤12)=w:=⟨_,rfl⟩
  obtain ⟨q,hq⟩:∃ w,decide (x.rates.length≤260)=w:=⟨_,rfl⟩
  obtain ⟨w,hw⟩:∃ w,b1v x.vals=w:=⟨_,rfl⟩
  rw [hp] at e3;rw [hq] at e4;rw [hw] at c;rw [hp,hq,hw];cases p<;>cases w<;>cases q
  all_goals
   refine goI dr0 (ff5 e1 e3 e4 el el2) c trivial trivial trivial trivial trivial ?_;exact a0a rfl IsPure.out
section
variable {H:Type} {enc:TypeId × Value→H} {W:World} {fuel:Nat} {cs:List Value} {x:DataW H × List MemPlace} {t:TypeId}
theorem b9M (h:DataW.trod enc Tryz.prog W 0 (fun _=>true) true fuel 3 cs=some x):∃ z:Int,a6v W cs [i64 z]:=by
 obtain ⟨z,_,_,h⟩:=c9C (by kernel_rfl) h;exact ⟨z,h⟩
theorem c7m (h:DataW.trod enc Tryz.prog W 0 (fun _=>true) true fuel 68 cs=some x):∃ r:a0t,a6v W cs r.D.cells∧True:=by
 obtain ⟨h1,n,h2⟩:=b6f (l:=[(3,0,1),(24,1,1),(24,2,1)]) (m:=3) (by kernel_rfl) (by kernel_rfl) h;obtain ⟨y0,k0⟩:=h2 0 _ _ _ rfl;obtain ⟨y1,k1⟩:=h2 1 _ _ _ rfl;obtain ⟨y2,k2⟩:=h2 2 _ _ _ rfl;obtain ⟨a0,r0⟩:=b9M k0;obtain ⟨a1,r1,_⟩:=b2g k1;obtain ⟨a2,r2,_⟩:=b2g k2;exact ⟨⟨a0,a1,a2⟩,a9R h1 (a4K (b:=1) (c:=2) r0 (a4K (b:=1) (c:=1) r1 r2)),trivial⟩
theorem c9V (h:DataW.trod enc Tryz.prog W 0 (fun _=>true) true fuel 43 cs=some x):∃ a:b5O,a6v W cs a.D.cells∧a.fit:=by
 obtain ⟨h1,n,h2⟩:=b6f (l:=[(3,0,1),(3,1,1),(40,2,1),(41,3,1)]) (m:=4) (by kernel_rfl) (by kernel_rfl) h;obtain ⟨y0,k0⟩:=h2 0 _ _ _ rfl;obtain ⟨y1,k1⟩:=h2 1 _ _ _ rfl;obtain ⟨y2,k2⟩:=h2 2 _ _ _ rfl;obtain ⟨y3,k3⟩:=h2 3 _ _ _ rfl;obtain ⟨a0,r0⟩:=b9M k0;obtain ⟨a1,r1⟩:=b9M k1;obtain ⟨a2,r2,_,l2⟩:=b3O k2;obtain ⟨a3,r3,_,l3⟩:=c2q (g:=a0t.D) (ok:=fun _=>True) (e:=68) (sz:=3) (by kernel_rfl) (by kernel_rfl) (by decide) (fun _ _ _ h=>c7m h) k3;have hM:maxLen≤9223372036854775807:=by decide
 exact ⟨⟨a0,a1,a2,a3⟩,a9R h1 (a4K (b:=1) (c:=3) r0 (a4K (b:=1) (c:=2) r1 (a4K (b:=1) (c:=1) r2 r3))),by dsimp only;omega,by dsimp only;omega⟩
end
theorem c2W {c:Int}(h:(Lit.int .u8 c).wf=true):0≤c∧c<256:=by
 simp only [Lit.wf,Bool.and_eq_true,decide_eq_true_eq] at h;have h1:IntKind.u8.min=0:=by kernel_rfl
 have h2:IntKind.u8.max=255:=by kernel_rfl
 rw [h1,h2] at h;omega
set_option maxHeartbeats 4000000
def nb (r:Rat)(n d:Nat):Prop:=r.num.natAbs≤n∧r.den≤d
theorem nb.mono {r:Rat}{n d n' d':Nat}(h:nb r n d)(h1:n≤n')(h2:d≤d'):nb r n' d':=⟨Nat.le_trans h.1 h1,Nat.le_trans h.2 h2⟩
theorem b1o {n:Int}{d N D:Nat}(hd:d≠0)(h1:n.natAbs≤N)(h2:d≤D):nb (Rat.normalize n d hd) N D:=by
 rw [Rat.normalize_eq];exact ⟨Nat.le_trans (Int.natAbs_ediv_le_natAbs _ _) h1,Nat.le_trans (Nat.div_le_self _ _) h2⟩
theorem c4X {a b:Rat}{n d m e:Nat}(ha:nb a n d)(hb:nb b m e):nb (a+b) (n*e+m*d) (d*e):=by
 rw [Rat.add_def];refine b1o _ (Nat.le_trans (Int.natAbs_add_le _ _) ?_) (Nat.mul_le_mul ha.2 hb.2);rw [Int.natAbs_mul,Int.natAbs_mul,Int.natAbs_natCast,Int.natAbs_natCast];exact Nat.add_le_add (Nat.mul_le_mul ha.1 hb.2) (Nat.mul_le_mul hb.1 ha.2)
theorem c9A {a:Rat}{n d:Nat}(ha:nb a n d):nb (-a) n d:=by
 unfold nb;rw [Rat.neg_num,Rat.neg_den,Int.natAbs_neg];exact ha
theorem c4f {a b:Rat}{n d m e:Nat}(ha:nb a n d)(hb:nb b m e):nb (a - b) (n*e+m*d) (d*e):=by
 rw [Rat.sub_eq_add_neg];exact c4X ha (c9A hb)
theorem c4k {a b:Rat}{n d m e:Nat}(ha:nb a n d)(hb:nb b m e):nb (a*b) (n*m) (d*e):=by
 rw [Rat.mul_def];exact b1o _ (by rw [Int.natAbs_mul];exact Nat.mul_le_mul ha.1 hb.1) (Nat.mul_le_mul ha.2 hb.2)
theorem d0a {a:Rat}{n d:Nat}(ha:nb a n d)(h0:a≠0):nb a⁻¹ d n:=by
 rw [Rat.inv_def];obtain ⟨h1,h2⟩:=ha;have hn:a.num≠0:=fun h=>h0 (Rat.num_eq_zero.1 h)
 rcases Int.lt_or_gt_of_ne hn with h|h
 ·obtain ⟨m,hm⟩:∃ m,a.num=Int.negSucc m:=by
   cases hy:a.num with
   | ofNat n=>rw [hy] at h;simp at h;omega
   | negSucc k=>exact ⟨k,rfl⟩
  rw [hm] at h1 ⊢;exact b1o (n:=-(a.den:Int)) (d:=m+1) (by omega) (by rw [Int.natAbs_neg,Int.natAbs_natCast];exact h2) h1
 ·obtain ⟨m,hm⟩:∃ m:Nat,a.num=(m:Int):=⟨a.num.natAbs,by omega⟩
  rw [hm] at h1 h ⊢;rw [Rat.divInt_ofNat,← Rat.normalize_eq_mkRat (by omega)];exact b1o _ (by rw [Int.natAbs_natCast];exact h2) (by rw [Int.natAbs_natCast] at h1;exact h1)
theorem d2t {a b:Rat}{n d m e:Nat}(ha:nb a n d)(hb:nb b m e)(h0:b≠0):nb (a / b) (n*e) (d*m):=by
 rw [Rat.div_def];exact c4k ha (d0a hb h0)
theorem c8w (z:Int){n:Nat}(h:z.natAbs≤n):nb (z:Rat) n 1:=by
 unfold nb;rw [Rat.num_intCast,Rat.den_intCast];exact ⟨h,Nat.le_refl _⟩
def a5S (r:Rat):Int:=-((-r).num / (-r).den)
theorem c6b {a:Rat}{n d:Nat}(ha:nb a n d):nb (a5S a:Rat) n 1:=by
 refine c8w _ ?_;unfold a5S;rw [Int.natAbs_neg];refine Nat.le_trans (Int.natAbs_ediv_le_natAbs _ _) ?_;rw [Rat.neg_num,Int.natAbs_neg];exact ha.1
theorem b9d:nb 0 0 1:=⟨by decide,by decide⟩
def d2M:Nat:=(10^100)^6
theorem c5e {r:Rat}{n d:Nat}(h:nb r n d)(h1:n<d2M)(h2:d<d2M):b2F r=false:=by
 unfold b2F;have key:∀ a b k m,a*b=k+1→m<(10^a)^b→(Lib.decDigits m).length≤k+1:=fun a b k m hk h=>a1w k m (by rw [← hk,Nat.pow_mul];exact h)
 have l1:=key 100 6 599 r.num.natAbs rfl (Nat.lt_of_le_of_lt h.1 h1);have l2:=key 100 6 599 r.den rfl (Nat.lt_of_le_of_lt h.2 h2);rw [decide_eq_false (by omega),decide_eq_false (by omega)];rfl
def E40:Nat:=10^40
theorem a6l {l:List UInt8}(h:chk l=0)(hl:l.length≤40):nb (a0j l) E40 E40:=by
 obtain ⟨m1,m2,m3,m4⟩:=a2Y h;obtain ⟨p1,p2⟩:=a4i h;have hs1:(a0M l).length≤40:=by
  have:(a0M l).length≤l.length:=by
   unfold a0M;have a1:(a0l (a2l l)).length≤(a2l l).length:=by unfold a0l;split<;>simp
   have a2:(a2l l).length≤l.length:=by unfold a2l;rw [List.length_take];omega
   omega
  omega
 have hb:∀ k,k≤40→(10:Nat)^k≤E40:=fun k hk=>Nat.pow_le_pow_right (by decide) hk
 refine ⟨?_,?_⟩
 ·rw [m1,m4]
  exact Nat.le_trans (Nat.le_of_lt (a5B _ p1)) (hb _ hs1)
 ·rw [m2]
  unfold b5j;cases hs:a4r l
  ·exact (by decide:1≤E40)
  ·have hs2:(a1z l).length≤40:=by
    have:(a1z l).length≤l.length:=by unfold a1z;simp
    omega
   exact Nat.le_trans (Nat.le_of_lt (a5B _ (p2 hs))) (hb _ hs2)
theorem d4y {r:Rat}{n d k:Nat}(h:nb r n d)(h1:n<BB^k)(h2:d<BB^k):rk r k :=
 ⟨a0N (Nat.lt_of_le_of_lt h.1 h1),a0N (Nat.lt_of_le_of_lt h.2 h2)⟩
theorem rk3 {l:List UInt8}(h:chk l=0)(hl:l.length≤40):rk (a0j l) 3:=d4y (a6l h hl) (by decide) (by decide)
def a6G (a b:List UInt8)(x:Rat):Rat:=if (!decide (a=[])&&decide (a2J x (a0j a)<0))=true then a0j a - x else if (!decide (b=[])&&decide (a2J x (a0j b)>0))=true then x - a0j b else 0
def b3c (a b:List UInt8)(x:Rat)(y:GF):GF:=if (!decide (a=[])&&decide (a2J x (a0j a)<0))=true then b8w (a4p a) y else if (!decide (b=[])&&decide (a2J x (a0j b)>0))=true then b8w y (a4p b) else ⟨mkG 0,1⟩
theorem c0n (k:Nat)(hk:1≤k):FR 0 ⟨mkG 0,1⟩ k:=⟨⟨a0H _,by rw [a2s];rfl,rfl⟩,by
 refine rk.mono (k:=1) ?_ hk;exact ⟨a0N (k:=1) (by decide),a0N (k:=1) (by decide)⟩⟩
theorem b5z {a b:List UInt8}{x:Rat}{y:GF}{k:Nat}(hx:FR x y k)(ha:a≠[]→FR (a0j a) (a4p a) k)(hb:b≠[]→FR (a0j b) (a4p b) k):FR (a6G a b x) (b3c a b x y) (2*k+1):=by
 unfold a6G b3c;split
 ·rename_i h
  rw [Bool.and_eq_true,Bool.not_eq_true',decide_eq_false_iff_not] at h;exact (b7q (ha h.1) hx).mono (by omega)
 ·split
  ·rename_i h
   rw [Bool.and_eq_true,Bool.not_eq_true',decide_eq_false_iff_not] at h;exact (b7q hx (hb h.1)).mono (by omega)
  ·exact c0n _ (by omega)
theorem b7O {a b:List UInt8}{x:Rat}(hx:nb x E40 E40)(ha:a≠[]→nb (a0j a) E40 E40)(hb:b≠[]→nb (a0j b) E40 E40):nb (a6G a b x) (2*(E40*E40)) (E40*E40):=by
 unfold a6G;split
 ·rename_i h
  rw [Bool.and_eq_true,Bool.not_eq_true',decide_eq_false_iff_not] at h;exact (c4f (ha h.1) hx).mono (by omega) (Nat.le_refl _)
 ·split
  ·rename_i h
   rw [Bool.and_eq_true,Bool.not_eq_true',decide_eq_false_iff_not] at h;exact (c4f hx (hb h.1)).mono (by omega) (Nat.le_refl _)
  ·exact b9d.mono (by decide) (by decide)
def a7u (L st pr:Rat):Rat:=(a5S (L / st):Rat)*pr
theorem c7f {L st pr:Rat}(hL:nb L (2*(E40*E40)) (E40*E40))(hs:nb st E40 E40)(h0:st≠0)(hp:nb pr E40 E40):nb (a7u L st pr) (2*(E40*E40*E40*E40)) E40:=by
 refine (c4k (c6b (d2t hL hs h0)) hp).mono ?_ ?_
 ·refine Nat.le_of_eq ?_
  simp only [Nat.mul_assoc]
 ·omega
theorem c7k {S t:Rat}{i:Nat}(hS:nb S (i*(2*(E40*E40*E40*E40))*E40^i) (E40^i))(ht:nb t (2*(E40*E40*E40*E40)) E40):nb (S+t) ((i+1)*(2*(E40*E40*E40*E40))*E40^(i+1)) (E40^(i+1)):=by
 generalize 2*(E40*E40*E40*E40)=Q at *;refine (c4X hS ht).mono ?_ (Nat.le_of_eq (Nat.pow_succ ..).symm);rw [Nat.pow_succ,Nat.add_mul,Nat.add_mul,Nat.one_mul,Nat.mul_assoc (i*Q)];refine Nat.add_le_add_left ?_ _;refine Nat.mul_le_mul_left _ ?_;exact Nat.le_mul_of_pos_right _ (by decide)
theorem b6m {S:Rat}{i:Nat}(hi:i≤8)(hS:nb S (i*(2*(E40*E40*E40*E40))*E40^i) (E40^i)):b2F S=false:=by
 have h1:E40^i≤E40^8:=Nat.pow_le_pow_right (by decide) hi;have h2:i*(2*(E40*E40*E40*E40))*E40^i≤8*(2*(E40*E40*E40*E40))*E40^8:=Nat.mul_le_mul (Nat.mul_le_mul_right _ hi) h1;have h3:8*(2*(E40*E40*E40*E40))*E40^8<d2M:=by decide
 have h4:E40^8<d2M:=by decide
 exact c5e hS (Nat.lt_of_le_of_lt h2 h3) (Nat.lt_of_le_of_lt h1 h4)
theorem b4c {L:Rat}(h:nb L (2*(E40*E40)) (E40*E40)):b2F L=false:=c5e h (by decide) (by decide)
set_option maxHeartbeats 1000000
set_option maxRecDepth 100000
theorem d4m {n:Nat}(h:1≤n):liesAt Tryz.prog Tryz.prog.depth 305 n 0 305 1=true:=by
 have hs:sameLayout Tryz.prog Tryz.prog.depth 305 305=true:=by kernel_rfl
 have hc:Tryz.prog.cellsOf 305=2:=by kernel_rfl
 obtain ⟨d,hd⟩:∃ d,Tryz.prog.depth=d+1:=⟨Tryz.prog.depth - 1,by kernel_rfl⟩
 rw [hd] at hs ⊢;unfold liesAt;rw [hd];unfold rowAt;simp [hc,hs,h]
theorem c7b (b c:Nat)(hc:2≤c)(w:World)(h0:w.cell? ⟨b,0,none⟩=some (.pointer none))(hsh:w.shape? b=some (305,c))(hfz:w.frozen? ⟨b,0,none⟩=false) :
  Calls Tryz.prog 260 #[.pointer (some ⟨b,0,none⟩)] w fun e w'=>e=.returned (.tuple #[])∧w'=w.setCell ⟨b,0,none⟩ (.pointer (some ⟨b,0,none⟩)):=by
 obtain ⟨j,hj,hjs⟩:=Option.map_eq_some_iff.1 (show (Tryz.prog.info? 305).map (·.size)=some 2 by kernel_rfl);have hl:liesAt Tryz.prog Tryz.prog.depth 305 (c / Tryz.prog.cellsOf 305) 0 305 1=true:=d4m (by rw [show Tryz.prog.cellsOf 305=2 by kernel_rfl];omega)
 go_enter Tryz.func260,Tryz.ntmps260
 go_wp2
 rw [Lib.run_to_unsafe w ⟨b,0,none⟩ (t:=305) (by kernel_rfl) (by kernel_rfl) hj (by rw [hjs];decide) hsh (by show 0<c;omega)];simp only [Result.andThen];rw [Oper.upon_value]
 go_wp2
 rw [run_callFunc_extern Tryz.func298 (by kernel_rfl) (by kernel_rfl) (by kernel_rfl) (e:=Extern.AbiNoEscape.same) (by kernel_rfl)];rw [Lib.run_noEscape];simp only [Result.andThen];rw [Oper.upon_value]
 go_wp2
 rw [Lib.run_from_unsafe w ⟨b,0,none⟩ (u:=305) (by kernel_rfl) (by kernel_rfl) hj hsh hl];simp only [Result.andThen];rw [Oper.upon_value]
 go_wp2
 go_end0
 exact ⟨rfl,rfl⟩
theorem c8e (b:Nat)(w:World)(h0:w.cell? ⟨b,0,none⟩=some (.pointer (some ⟨b,0,none⟩))) :
  Calls Tryz.prog 260 #[.pointer (some ⟨b,0,none⟩)] w fun e w'=>e=.returned (.tuple #[])∧w'=w:=by
 obtain ⟨j,hj,hjs⟩:=Option.map_eq_some_iff.1 (show (Tryz.prog.info? 305).map (·.size)=some 2 by kernel_rfl)
 go_enter Tryz.func260,Tryz.ntmps260
 go_wp2
 rw [Lib.run_neq_ptr_same w _ (te:=305) (by kernel_rfl) hj]
 go_wp2
 go_end0
 exact ⟨rfl,rfl⟩
theorem d5s (b g:Nat)(cur cs:Array Value)(l:List UInt8)(h0:l≠[])(w:World)(hb:w.heap[b]? = some (.cells cs 305 (0,0)))(hb1:cs[1]? = some (.slice (some ⟨g,0,none⟩) l.length cur.size))
  (hg:w.heap[g]? = some (.cells cur 5 (0,0))) (hl:l.length≤cur.size) (hcap:cur.size≤maxLen) (hcell:∀ (j:Nat) (x:UInt8),l[j]? = some x→cur[j]? = some (.int .u8 x.toNat)) :
  Calls Tryz.prog 226 #[.pointer (some ⟨b,0,none⟩)] w fun e w'=>e=.returned (.string ⟨l.toArray⟩)∧w'=(w.drew.freeze ⟨g,0,none⟩ l.length):=by
 have c1:w.drew.cell? ⟨b,1,none⟩=some (.slice (some ⟨g,0,none⟩) l.length cur.size):=by
  have:w.drew.heap[b]? = some (.cells cs 305 (0,0)):=hb
  rw [Lib.cell_of_heap this];exact hb1
 have h0':l.length≠0:=by simpa using h0
 have hSD:(Builtin.unsafeSliceData_ #[303] 329 #[.slice (some ⟨g,0,none⟩) l.length cur.size]).run Tryz.prog w.drew=.ok (.pointer (some ⟨g,0,none⟩)) w.drew :=
  Lib.run_unsafeSliceData_row _ _ _ _ _ _ (by omega)
 have hUS:(Builtin.unsafeString_ #[329,3] 9 #[.pointer (some ⟨g,0,none⟩),.int .i64 l.length]).run Tryz.prog w.drew=.ok (.string ⟨l.toArray⟩) (w.drew.freeze ⟨g,0,none⟩ l.length):=by
  refine Lib.run_unsafeString_row w.drew 329 3 9 5 (by kernel_rfl) (by kernel_rfl) g cur.size (by have hg':w.drew.heap[g]? = some (.cells cur 5 (0,0)):=hg;simp [World.shape?,hg']) l h0 (by omega) (by unfold maxLen at hcap;omega) ?_;intro j x hx;have hg':w.drew.heap[g]? = some (.cells cur 5 (0,0)):=hg
  have:=hcell j x hx
  rw [Addr.add_lit];simp [World.cell?,hg',this]
 have mixed:Tryz.prog.follows .mixedOrders=true:=by kernel_rfl
 go_enter Tryz.func226,Tryz.ntmps226
 go_wp2
 go_region_o
 all_goals (go_wp2;go_ret;exact ⟨rfl,rfl⟩)
def a5k (l:List UInt8):List D:=l.map fun b=>.prim (.int .u8 (b.toNat:Int))
abbrev b1B (g:Nat)(p x:D):Ent:=⟨1500,g,305,2,[.agg [p,x]]⟩
theorem d4Z {vs:Array Value}(h:vs.size=1):vs = #[vs.getD 0 undef]:=by
 match vs,h with
 | ⟨[u]⟩,_=>rfl
theorem d5h (g n:Nat)(x p:D)(H1 H2:Hp)(hp:p=.prim (.pointer none)∨p=.optr 1500 g 2 0 0) :
  a0z C0 260 [.optr 1500 g 2 0 0] (H1++b1B g p x::H2) n (fun d H' n'=>d=.prim (.tuple #[])∧H'=H1++b1B g (.optr 1500 g 2 0 0) x::H2∧n'=n):=by
 refine ⟨⟨_,_,Tryz.func260,rfl,by kernel_rfl⟩,fun F ρ w vs m fr hgn hvs hr=>?_⟩;have h0:=hr 0 _ rfl;rw [d4Z hvs];generalize hv:vs.getD 0 undef=v at h0;cases h0 with
 | optr hρ =>
  rename_i b;have he:b1B g p x∈H1++b1B g p x::H2:=by simp
  obtain ⟨cs,hc,q⟩:=m.at he hρ;have hlen:2≤cs.size:=q.len;have hr0:Rep ρ (Own F.X ρ (H1++b1B g p x::H2)) w p (cs.getD 0 undef):=q.rep 0 _ 0 p rfl rfl;have hr1:Rep ρ (Own F.X ρ (H1++b1B g p x::H2)) w x (cs.getD 1 undef):=q.rep 0 _ 1 x rfl rfl;have hcell:w.cell? ⟨b,0,none⟩=some (cs.getD 0 undef):=by
   simp [World.cell?,hc,Array.getD,show 0<cs.size by omega]
  rcases hp with rfl|rfl
  ·cases hr0':cs.getD 0 undef with
   | pointer a =>
    rw [hr0'] at hr0 hcell;cases hr0;refine (c7b b cs.size hlen w hcell (by simp [World.shape?,hc]) (by simp [World.frozen?,hc])).mono ?_;rintro e w' ⟨rfl,rfl⟩;have hset:w.setCell ⟨b,0,none⟩ (.pointer (some ⟨b,0,none⟩))=World.setBlk w b (cs.setIfInBounds 0 (.pointer (some ⟨b,0,none⟩))) 305:=by
     rw [setCell_eq_setRow w b 0 cs 305 (0,0) _ hc];exact a7T hc
    have hop:Rep ρ (Own F.X ρ (H1++b1B g (.prim (.pointer none)) x::H2)) w (.optr 1500 g 2 0 0) (.pointer (some ⟨b,0*2+0,none⟩)):=.optr hρ;have ho:a2r ρ (Own F.X ρ (H1++b1B g (.prim (.pointer none)) x::H2)) w (b1B g (.optr 1500 g 2 0 0) x) (cs.setIfInBounds 0 (.pointer (some ⟨b,0,none⟩))):=by
     refine ⟨by rw [Array.size_setIfInBounds];exact q.len,fun i d hd=>?_,fun i v hv=>?_,fun i d j c hd hj=>?_⟩
     ·rcases i with _|i
      ·cases hd;rfl
      ·simp at hd
     ·rw [Array.getElem?_setIfInBounds] at hv
      split at hv
      ·split at hv
       ·cases hv;rfl
       ·cases hv
      ·exact q.one i v hv
     ·rcases i with _|i
      ·cases hd
       rcases j with _|_|j
       ·cases hj
        have:(cs.setIfInBounds 0 (.pointer (some ⟨b,0,none⟩))).getD (0*2+0) undef=.pointer (some ⟨b,0*2+0,none⟩):=by
         simp [Array.getD_eq_getD_getElem?,show 0<cs.size by omega]
        rw [this];exact hop
       ·cases hj
        have:(cs.setIfInBounds 0 (.pointer (some ⟨b,0,none⟩))).getD (0*2+1) undef=cs.getD 1 undef:=by
         simp [Array.getD_eq_getD_getElem?]
        rw [this];exact hr1
       ·simp [D.cells] at hj
      ·simp at hd
    obtain ⟨m1,x1⟩:=m.write (e':=b1B g (.optr 1500 g 2 0 0) x) hρ hc rfl rfl rfl (Array.size_setIfInBounds ..) ho;rw [hset];exact ⟨_,_,_,n,ρ,rfl,⟨rfl,rfl,rfl⟩,m1,x1,fr,fun e' he'=>by
     rcases List.mem_append.1 he' with h|h
     ·exact hgn e' (by simp [h])
     ·rcases List.mem_cons.1 h with rfl|h
      ·exact hgn (b1B g (.prim (.pointer none)) x) he
      ·exact hgn e' (by simp [h]),.prim _⟩
   | _=>rw [hr0'] at hr0;cases hr0
  ·cases hr0':cs.getD 0 undef with
   | pointer a =>
    rw [hr0'] at hr0 hcell;cases hr0 with
    | optr hρ2 =>
     rw [hρ] at hρ2;cases hρ2;refine (c8e b w hcell).mono ?_;rintro e w' ⟨rfl,rfl⟩;exact ⟨_,_,_,n,ρ,rfl,⟨rfl,rfl,rfl⟩,m,Ext.refl _ _ _,fr,hgn,.prim _⟩
   | _=>rw [hr0'] at hr0;cases hr0
theorem b2y (w:World)(g n:Nat)(hn:n≠0)(cur:Array Value)(T:Nat)(hg:w.heap[g]? = some (.cells cur T (0,0))) :
  (w.freeze ⟨g,0,none⟩ n).heap.size=w.heap.size∧(w.freeze ⟨g,0,none⟩ n).os=w.os∧(w.freeze ⟨g,0,none⟩ n).tape=w.tape∧(w.freeze ⟨g,0,none⟩ n).output=w.output ∧
  (∀ k,k≠g→(w.freeze ⟨g,0,none⟩ n).heap[k]? = w.heap[k]?)∧∃ (cs':Array Value) (fz':Nat × Nat),(w.freeze ⟨g,0,none⟩ n).heap[g]? = some (.cells cs' T fz')∧cs'.size=cur.size:=by
 unfold World.freeze;rw [if_neg hn];refine ⟨by simp,rfl,rfl,rfl,fun k hk=>?_,?_⟩
 ·dsimp only
  rw [Array.getElem?_modify,if_neg (fun h=>hk h.symm)]
 ·dsimp only
  rw [Array.getElem?_modify,if_pos rfl,hg];exact ⟨cur,_,rfl,rfl⟩
theorem d4M (g gb n:Nat)(l:List UInt8)(h0:l≠[])(p:D)(R:Hp) :
  a0z C0 226 [.optr 1500 g 2 0 0] (⟨206,gb,5,1,a5k l⟩::b1B g p (.osl 206 gb 1 0 l.length)::R) n (fun d H' n'=>d=str ⟨l.toArray⟩∧H'=b1B g p (.osl 206 gb 1 0 l.length)::R∧n'=n):=by
 refine ⟨⟨_,_,Tryz.func226,rfl,by kernel_rfl⟩,fun F ρ w vs m fr hgn hvs hr=>?_⟩;have hz:=hr 0 _ rfl;have h0':l.length≠0:=by simpa using h0
 rw [d4Z hvs];generalize hv:vs.getD 0 undef=v at hz;cases hz with
 | optr hρ =>
  rename_i b;obtain ⟨cs,hc,q⟩:=m.at (e:=b1B g p (.osl 206 gb 1 0 l.length)) (by simp) hρ;have hlen:2≤cs.size:=q.len;have hr1:Rep ρ (Own F.X ρ (⟨206,gb,5,1,a5k l⟩::b1B g p (.osl 206 gb 1 0 l.length)::R)) w (.osl 206 gb 1 0 l.length) (cs.getD 1 undef):=q.rep 0 _ 1 (.osl 206 gb 1 0 l.length) rfl rfl;generalize hs1:cs.getD 1 undef=sv at hr1;generalize hL:l.length=L at hr1;cases hr1 with
   | onil=>exact absurd hL h0'
   | osl hρ2 hb2 hc2 hs2 hm2 =>
    rename_i cap gy T' cs2 fz2;obtain ⟨cur,hcur,qy⟩:=m.at (e:=⟨206,gb,5,1,a5k l⟩) (by simp) hρ2;rw [hb2] at hcur;cases hcur;have hcap:cap=cs2.size:=by omega
    subst hcap;have hcell:∀ (j:Nat) (x:UInt8),l[j]? = some x→cs2[j]? = some (.int .u8 x.toNat):=fun j x hx=>by
     have hr:=qy.rep j (.prim (.int .u8 (x.toNat:Int))) 0 (.prim (.int .u8 (x.toNat:Int))) (by unfold a5k;rw [List.getElem?_map,hx];rfl) rfl;have hlt:j<cs2.size:=by
      have:=(List.getElem?_eq_some_iff.1 hx).1
      omega
     generalize hvv:cs2.getD (j*1+0) undef=vv at hr;cases hr;rw [Array.getElem?_eq_getElem hlt]
     have:cs2.getD j undef=cs2[j]:=by simp [Array.getD,hlt]
     rw [Nat.mul_one,Nat.add_zero,this] at hvv;rw [hvv]
    have hb1:cs[1]? = some (.slice (some ⟨gy,0,none⟩) l.length cs2.size):=by
     have hlt:1<cs.size:=by omega
     rw [Array.getElem?_eq_getElem hlt]
     have:cs.getD 1 undef=cs[1]:=by simp [Array.getD,hlt]
     rw [this] at hs1;rw [hs1,hL,Nat.zero_mul]
    refine (d5s b gy cs2 cs l h0 w hc hb1 hb2 (by omega) (by omega) hcell).mono ?_;rintro e w' ⟨rfl,rfl⟩;have md:=m.drew;obtain ⟨f1,f2,f3,f4,f5,cs',fz',f6,f7⟩:=b2y w.drew gy l.length h0' cs2 5 hb2;obtain ⟨m1,x1⟩:=Mem.letGo (H1:=[]) (H2:=b1B g p (.osl 206 gb 1 0 l.length)::R) (w':=w.drew.freeze ⟨gy,0,none⟩ l.length) md hρ2 f1 f2 f3 f4 f5 (fun c hcc=>by
     have hb2':w.drew.heap[gy]? = some (.cells cs2 5 (0,0)):=hb2;have hcc':w.drew.heap[gy]? = some (.cells c 5 (0,0)):=hcc;rw [hb2'] at hcc';cases hcc';exact ⟨cs',fz',f6,f7⟩)
    rw [hL];rw [hL] at m1 x1;exact ⟨_,_,_,n,ρ,rfl,⟨rfl,rfl,rfl⟩,m1,(Ext.drew _ _ _).trans x1,fr,fun e' he'=>hgn e' (by rw [hL];exact List.mem_cons_of_mem _ he'),.prim _⟩
set_option maxRecDepth 20000
set_option maxHeartbeats 4000000
def bH (gb g:Nat)(p:D)(L:List UInt8)(R:Hp):Hp:=a7v 206 gb 5 1 (a5k L)++(b1B g p (a9n 206 gb 1 (a5k L))::R)
theorem c0f (s:List UInt8):a4v (sb s)=a5k s:=rfl
theorem a4E (l:List UInt8):(a5k l).length=l.length:=List.length_map ..
theorem b9w (a b:List UInt8):a5k (a++b)=a5k a++a5k b:=List.map_append
theorem b5B {l:List UInt8}(h:l≠[]):∃ x r,a5k l=x::r:=by
 cases l with
 | nil=>exact absurd rfl h
 | cons a l=>exact ⟨_,_,rfl⟩
theorem d5l (g gb n:Nat)(p:D)(hp:p=.prim (.pointer none)∨p=.optr 1500 g 2 0 0)(L s:List UInt8)(hs:s≠[])(R:Hp)(hlen:L.length+s.length≤100000000) :
  a0z C0 225 [.optr 1500 g 2 0 0,str (sb s)] (bH gb g p L R) n (fun d H' n'=>(∃ g',H'=bH g' g (.optr 1500 g 2 0 0) (L++s) R)∧n≤n'):=by
 refine a0z.walk w1 c3Z rfl fun F=>?_
 have hsz:=a0u s;have hb:=c0f s;obtain ⟨x,r,hx⟩:=b5B hs;have hr:s.length=r.length+1:=by rw [← a4E,hx];rfl
 unfold bH;rw [b9w];cases hL:a5k L with
 | nil =>
  dsimp only [a4d,a4a,List.nil_append];refine goI dr0 kB trivial trivial trivial trivial trivial trivial ?_;refine a0k.own _ (d5h g _ a2i p [] R hp) ?_;rintro d H' n' ⟨rfl,rfl,rfl⟩;have hL0:L.length=0:=by rw [← a4E,hL];rfl
  refine goI dr0 (ff2 hsz hb) trivial trivial trivial trivial trivial trivial ?_;refine ⟨?_,by omega⟩;apply Exists.intro;rw [hx,hr];rfl
 | cons y l =>
  dsimp only [a3k,a3g,List.cons_append,List.nil_append];have hL1:L.length=l.length+1:=by rw [← a4E,hL];rfl
  have htk:List.take (l.length+1) (y::l)=y::l:=by simp
  refine goI dr0 kB trivial trivial trivial trivial trivial trivial ?_;refine a0k.own _ (d5h g _ (.osl 206 gb 1 0 (l.length+1)) p [⟨206,gb,5,1,y::l⟩] R hp) ?_;rintro d H' n' ⟨rfl,rfl,rfl⟩;refine goI dr0 (ff3 hsz hb htk) trivial trivial trivial trivial trivial trivial ?_;refine ⟨?_,by omega⟩;apply Exists.intro;have hap:y::l++a5k s=y::(l++a5k s):=rfl;have hl2:(l++a5k s).length+1=l.length+1+s.length:=by rw [List.length_append,a4E];omega
  rw [hl2]
open Go.Sort Go.Shelf
section
open Go.Lib
set_option maxHeartbeats 6400000 in
set_option maxRecDepth 100000 in
theorem d6D (u:Nat) (hu64:u<18446744073709551616) (w:World) (htab:Lib.TabIs Tryz.prog w "internal/strconv.uint64pow10" .u64 Lib.pow10Tab) :
  Calls Tryz.prog 256 #[.int .u64 u,.int .i64 10] w fun e w'=>e=.returned (.string ⟨(Lib.decDigits u).toArray⟩)∧∃ k os,w'=grow (w.drewN k) os:=by
 have e283:∀ args w,(callFunc 292 args).run Tryz.prog w=.ok (.enter 292 args) w:=enters_of Tryz.func292 (by kernel_rfl) rfl;have e284:∀ args w,(callFunc 293 args).run Tryz.prog w=.ok (.enter 293 args) w:=enters_of Tryz.func293 (by kernel_rfl) rfl;have e285:∀ args w,(callFunc 294 args).run Tryz.prog w=.ok (.enter 294 args) w:=enters_of Tryz.func294 (by kernel_rfl) rfl
 by_cases hs:u<100
 ·go_enter Tryz.func256,Tryz.ntmps256
  go_wp2_with (go_at_fn 292;refine (Tryz.internal_strconv_small u hs _).mono ?_;rintro e w' ⟨rfl,rfl⟩)
  go_ret
  exact ⟨rfl,0,#[],by simp [World.drewN_zero]⟩
 ·have hu1:1≤u:=by omega
  have hnd20:Lib.nDigits u≤20:=by have:=Lib.numDigits_eq u hu1 hu64;split at this<;>omega
  have hb3:Lib.nDigits u≤24:=by omega
  have hal:Tryz.prog.arrayLen 360=24:=by kernel_rfl
  have hsl1:∀ W,(Instr.sliceAt 360 (.pointer (some ⟨w.heap.size,0,none⟩)) none (some (.int .i64 (Lib.nDigits u:Int))) none).run Tryz.prog W=.ok (.slice (some ⟨w.heap.size,0,none⟩) (Lib.nDigits u) 24) W:=fun W=>by
   rw [run_sliceAt_array_h W 360 ⟨w.heap.size,0,none⟩ (by kernel_rfl) .i64 (Lib.nDigits u:Int) (by omega) (by rw [hal];omega)]
   go_simp
  have hH0:=Lib.holds_zero0 w 360 (Lib.nDigits u) (by omega);have hfmt:=Tryz.internal_strconv_formatBase10 w.heap.size 0 24 u (Array.replicate (Lib.nDigits u) 0) (w.alloc (.cells Lib.zeros24 360)) hH0 (by rw [Array.size_replicate];exact Lib.lt_pow_nDigits u) hu64 (by rw [Array.size_replicate];omega);rw [Array.size_replicate] at hfmt;have HH0:=Lib.hid hH0;clear hH0 hal
  go_enter Tryz.func256,Tryz.ntmps256
  go_wp2_with (first
   | (go_at_fn 293;refine (Tryz.internal_strconv_numDigits u hu1 hu64 _ (Lib.tabIs_alloc htab _)).mono ?_;rintro e w' ⟨rfl,rfl⟩))
  go_at_fn 294
  refine hfmt.mono ?_;rintro e w' ⟨rfl,k,v',dk,rfl,hF⟩;have hcv:(convert 303 9 (.slice (some ⟨w.heap.size,0,none⟩) (Lib.nDigits u) 24)).run Tryz.prog ((putRow (fun (b:UInt8)=>Value.int .u8 (b.toNat:Int)) (w.alloc (.cells Lib.zeros24 360)) w.heap.size 0 dk).drewN k)=.ok (.string ⟨(Lib.decDigits u).toArray⟩) ((putRow (fun (b:UInt8)=>Value.int .u8 (b.toNat:Int)) (w.alloc (.cells Lib.zeros24 360)) w.heap.size 0 dk).drewN k):=by
   have h:=run_convert_bytes_back (P:=Tryz.prog) ((putRow (fun (b:UInt8)=>Value.int .u8 (b.toNat:Int)) (w.alloc (.cells Lib.zeros24 360)) w.heap.size 0 dk).drewN k) 303 9 5 ⟨w.heap.size,0,none⟩ 24 (Lib.decDigits u) (by kernel_rfl) (by kernel_rfl) (by kernel_rfl) (fun j hj=>by
    rw [Lib.row_is_numeral hF j hj,Lib.add_plain,World.cell?_drewN];exact cell?_putRow (fun (b:UInt8)=>Value.int .u8 (b.toNat:Int)) _ w.heap.size 0 _ dk HH0.out (by rw [hF.size,Array.size_replicate]) j (by rw [hF.size];rw [Lib.decDigits_length] at hj;exact hj))
   rw [Lib.decDigits_length] at h;exact h
  go_wp2
  go_ret
  obtain ⟨os,eo⟩:=Lib.fin_at w (.cells Lib.zeros24 360) dk k 0;exact ⟨rfl,k,os,eo⟩
end
theorem b6y {O:Nat→Prop}{w:World}{v u:Value}{vs:Array Value}(hn:vs.size=2)(h:∀ (i:Nat) (x:D),[D.prim v,.prim u][i]? = some x→Rep nol O w x (vs.getD i undef)):vs = #[v,u]:=by
 match vs,hn with
 | ⟨[a,b]⟩,_ =>
  have h0:=h 0 _ rfl;have h1:=h 1 _ rfl;simp at h0 h1;cases h0;cases h1;rfl
theorem c5y (u:Nat)(hu:u<18446744073709551616):a0b C0 256 [.prim (.int .u64 (u:Int)),i64 10] (str ⟨(Lib.decDigits u).toArray⟩):=by
 refine ⟨⟨_,_,Tryz.func256,rfl,by kernel_rfl⟩,fun Y w vs hG hnG hX hvs hr=>?_⟩
 have:=b6y hvs hr
 subst this;refine (d6D u hu w hG).mono ?_;rintro e w' ⟨rfl,k,os,rfl⟩;exact ⟨_,_,rfl,Lib.below_grow _ _ (Nat.le_refl _) _ _,rfl,.prim _⟩
theorem d0l (u:Nat)(hu:u<18446744073709551616):a0b C0 223 [.prim (.int .u64 (u:Int)),i64 10] (str ⟨(Lib.decDigits u).toArray⟩):=by
 refine a0c.walk w1 c4m rfl fun F=>?_
 refine goI dr0 kB (c5y u hu) trivial trivial trivial trivial trivial ?_;exact a0a rfl IsPure.out
theorem rp0:a0b C0 224 [str ⟨#[48]⟩,i64 0] (str ⟨#[]⟩):=a0b.ev a4q 400 20 (by kernel_rfl)
theorem rp1:a0b C0 224 [str ⟨#[48]⟩,i64 1] (str ⟨#[48]⟩):=a0b.ev a4q 400 20 (by kernel_rfl)
theorem rp2:a0b C0 224 [str ⟨#[48]⟩,i64 2] (str ⟨#[48,48]⟩):=a0b.ev a4q 400 20 (by kernel_rfl)
theorem rp3:a0b C0 224 [str ⟨#[48]⟩,i64 3] (str ⟨#[48,48,48]⟩):=a0b.ev a4q 400 20 (by kernel_rfl)
theorem rp4:a0b C0 224 [str ⟨#[48]⟩,i64 4] (str ⟨#[48,48,48,48]⟩):=a0b.ev a4q 400 20 (by kernel_rfl)
theorem rp5:a0b C0 224 [str ⟨#[48]⟩,i64 5] (str ⟨#[48,48,48,48,48]⟩):=a0b.ev a4q 400 20 (by kernel_rfl)
theorem rp6:a0b C0 224 [str ⟨#[48]⟩,i64 6] (str ⟨#[48,48,48,48,48,48]⟩):=a0b.ev a4q 400 20 (by kernel_rfl)
theorem rp7:a0b C0 224 [str ⟨#[48]⟩,i64 7] (str ⟨#[48,48,48,48,48,48,48]⟩):=a0b.ev a4q 400 20 (by kernel_rfl)
theorem rp8:a0b C0 224 [str ⟨#[48]⟩,i64 8] (str ⟨#[48,48,48,48,48,48,48,48]⟩):=a0b.ev a4q 400 20 (by kernel_rfl)
theorem rp9:a0b C0 224 [str ⟨#[48]⟩,i64 9] (str ⟨#[48,48,48,48,48,48,48,48,48]⟩):=a0b.ev a4q 400 20 (by kernel_rfl)
theorem d5v:a0b C0 224 [str ⟨#[48]⟩,i64 10] (str ⟨#[48,48,48,48,48,48,48,48,48,48]⟩):=a0b.ev a4q 400 20 (by kernel_rfl)
theorem d6x:a0b C0 224 [str ⟨#[48]⟩,i64 11] (str ⟨#[48,48,48,48,48,48,48,48,48,48,48]⟩):=a0b.ev a4q 400 20 (by kernel_rfl)
theorem d6a:a0b C0 224 [str ⟨#[48]⟩,i64 12] (str ⟨#[48,48,48,48,48,48,48,48,48,48,48,48]⟩):=a0b.ev a4q 400 20 (by kernel_rfl)
theorem d6c:a0b C0 224 [str ⟨#[48]⟩,i64 13] (str ⟨#[48,48,48,48,48,48,48,48,48,48,48,48,48]⟩):=a0b.ev a4q 400 20 (by kernel_rfl)
theorem d6h:a0b C0 224 [str ⟨#[48]⟩,i64 14] (str ⟨#[48,48,48,48,48,48,48,48,48,48,48,48,48,48]⟩):=a0b.ev a4q 400 20 (by kernel_rfl)
theorem d6e:a0b C0 224 [str ⟨#[48]⟩,i64 15] (str ⟨#[48,48,48,48,48,48,48,48,48,48,48,48,48,48,48]⟩):=a0b.ev a4q 400 20 (by kernel_rfl)
theorem d6z:a0b C0 224 [str ⟨#[48]⟩,i64 16] (str ⟨#[48,48,48,48,48,48,48,48,48,48,48,48,48,48,48,48]⟩):=a0b.ev a4q 400 20 (by kernel_rfl)
theorem d6p:a0b C0 224 [str ⟨#[48]⟩,i64 17] (str ⟨#[48,48,48,48,48,48,48,48,48,48,48,48,48,48,48,48,48]⟩):=a0b.ev a4q 400 20 (by kernel_rfl)
theorem c5S (n:Nat)(h:n≤17):a0b C0 224 [str ⟨#[48]⟩,i64 (n:Int)] (str ⟨(List.replicate n 48).toArray⟩):=by
 match n,h with
 | 0,_=>exact rp0
 | 1,_=>exact rp1
 | 2,_=>exact rp2
 | 3,_=>exact rp3
 | 4,_=>exact rp4
 | 5,_=>exact rp5
 | 6,_=>exact rp6
 | 7,_=>exact rp7
 | 8,_=>exact rp8
 | 9,_=>exact rp9
 | 10,_=>exact d5v
 | 11,_=>exact d6x
 | 12,_=>exact d6a
 | 13,_=>exact d6c
 | 14,_=>exact d6h
 | 15,_=>exact d6e
 | 16,_=>exact d6z
 | 17,_=>exact d6p
 | n+18,h=>omega
set_option maxHeartbeats 8000000
def a5n (q r:Nat):List UInt8:=if q=0 then Lib.decDigits r else List.replicate (18 - (Lib.decDigits r).length) 48++Lib.decDigits r
theorem b5A:Lib.decDigits 0=[48]:=by unfold Lib.decDigits;rfl
theorem b1W (n:Nat):Lib.decDigits n≠[]:=(a1o n).2.2
theorem c1S (q r:Nat):a5n q r≠[]:=by
 unfold a5n;split
 ·exact b1W r
 ·intro h;exact b1W r (List.append_eq_nil_iff.1 h).2
theorem c0R {q r:Nat}(hq:q≠0):a5n q r=a2o 18 r []:=by
 unfold a5n a2o c5J;rw [if_neg hq]
 by_cases h:r=0
 ·subst h;rw [b5A,if_pos rfl];rfl
 ·rw [if_neg h,List.append_nil]
theorem c1P (B q r:Nat)(hB:B=10^18)(hr:r<B):Lib.decDigits (q*B+r)=if q=0 then a5n q r else Lib.decDigits q++a5n q r:=by
 by_cases hq:q=0
 ·subst hq;rw [if_pos rfl];unfold a5n;rw [if_pos rfl,Nat.zero_mul,Nat.zero_add]
 ·rw [if_neg hq,c0R hq,hB]
  exact b4l 18 q r hq (by rw [← hB];exact hr)
def a3e (P:List (List UInt8)):List UInt8:=P.reverse.flatten
theorem a9Z (P:List (List UInt8))(p:List UInt8):a3e (P++[p])=p++a3e P:=by unfold a3e;simp
theorem b9Q (a b:List UInt8):sb a++sb b=sb (a++b):=by
 apply ByteArray.ext;simp [ByteArray.data_append]
theorem c0l {P:List (List UInt8)}(h:∀ p∈P,p≠[]):P.length≤(a3e P).length:=by
 unfold a3e;rw [List.length_flatten,← List.length_reverse];generalize hQ:P.reverse=Q;have h':∀ p∈Q,p≠[]:=fun p hp=>h p (by rw [← hQ] at hp;exact List.mem_reverse.1 hp)
 clear hQ h
 induction Q with
 | nil=>exact Nat.le_refl _
 | cons a r ih =>
  have h1:=ih fun p hp=>h' p (List.mem_cons_of_mem _ hp)
  have h2:a.length≠0:=fun q=>h' a List.mem_cons_self (List.eq_nil_of_length_eq_zero q)
  rw [List.map_cons,List.sum_cons,List.length_cons];omega
structure b0p (n m:Nat)(P:List (List UInt8)):Prop where
 ne:m≠0→Lib.decDigits n=Lib.decDigits m++a3e P
 eq:m=0→Lib.decDigits n=a3e P
 all:∀ p∈P,p≠[]
 le:m≤n
theorem b0p.len {n m:Nat}{P:List (List UInt8)}(h:b0p n m P):P.length≤(Lib.decDigits n).length:=by
 have h1:=c0l h.all
 by_cases q:m=0
 ·rw [h.eq q];exact h1
 ·rw [h.ne q,List.length_append];omega
theorem b0p.step {n m:Nat}{P:List (List UInt8)}{B:Nat}(h:b0p n m P)(hm:m≠0)(hB:B=10^18):b0p n (m / B) (P++[a5n (m / B) (m%B)]):=by
 have hB0:0<B:=by rw [hB];decide
 have hd:=c1P B (m / B) (m%B) hB (Nat.mod_lt _ hB0);rw [show m / B*B+m%B=m by rw [Nat.mul_comm];exact Nat.div_add_mod m B] at hd;have hn:=h.ne hm;rw [hd] at hn;refine ⟨fun q=>?_,fun q=>?_,fun p hp=>?_,Nat.le_trans (Nat.div_le_self _ _) h.le⟩
 ·rw [if_neg q] at hn;rw [hn,a9Z,List.append_assoc]
 ·rw [if_pos q] at hn;rw [hn,a9Z]
 ·rcases List.mem_append.1 hp with hp|hp
  ·exact h.all p hp
  ·rw [List.mem_singleton] at hp;subst hp;exact c1S _ _
abbrev a2t (P:List (List UInt8)):List D:=P.map fun p=>str (sb p)
theorem b1m (x : GI) (h : x.wf) (hf : x.few) : a0b C0 177 [x.D] (str (sb (Lib.itoa x.z))) := by
  refine a0c.walk w1 c4x rfl fun F => ?_
  obtain ⟨z, sm⟩ := x
  obtain ⟨h1, h2⟩ := h
  have hp := a2Q ⟨z, sm⟩ ⟨h1, h2⟩
  dsimp only [GI.D, GI.few] at *
  cases sm with
  | true =>
    obtain ⟨h3, h4⟩ := h1 rfl
    have c : a0b C0 221 [i64 z] (str (sb (Lib.itoa z))) := b3K z h3 (by omega)
    unfold GI.s GI.w
    dsimp only
    refine goI dr0 kB c trivial trivial trivial trivial trivial ?_
    exact a0a rfl IsPure.out
  | false =>
    have hz := h2 rfl
    have hz0 : z.natAbs ≠ 0 := fun q => hz (by have : z = 0 := by omega
                                               subst this; exact a0F rfl)
    have hw : GI.w ⟨z, false⟩ = wD z.natAbs := rfl
    have hs : GI.s ⟨z, false⟩ = if z < 0 then -1 else 1 := rfl
    rw [hw] at hp ⊢
    obtain ⟨sg, hsg⟩ : ∃ s, GI.s ⟨z, false⟩ = s := ⟨_, rfl⟩
    rw [hsg] at hp ⊢
    obtain ⟨B, hB⟩ : ∃ B : Nat, B = 10 ^ 18 := ⟨_, rfl⟩
    have hB1 : B < BB := by rw [hB]; decide
    have hB0 : B ≠ 0 := by rw [hB]; decide
    have hB2 : 1 < B := by rw [hB]; decide
    have hBs : u64 1000000000000000000 = a0h B := by rw [hB]; rfl
    have hBl : a0e B = [B] := a3P hB0 hB1
    obtain ⟨n, hn⟩ : ∃ n, z.natAbs = n := ⟨_, rfl⟩
    obtain ⟨neg, hneg⟩ : ∃ b, decide (z < 0) = b := ⟨_, rfl⟩
    rw [hn] at hp hf hz0 ⊢
    rw [hneg] at hp
    have hit : Lib.itoa z = (if neg then [45] else []) ++ Lib.decDigits n := by
      unfold Lib.itoa
      by_cases q : z < 0
      · rw [if_pos q, ← hneg, decide_eq_true q, hn]; rfl
      · rw [if_neg q, ← hneg, decide_eq_false q, ← hn]
        have : z.toNat = z.natAbs := by omega
        rw [this]; rfl
    rw [hit]
    have hDL : (Lib.decDigits n).length ≤ 27 * 1000000 + 1 := a9K (k := 1000000) (by omega)
    have hmpos : ∀ m : Nat, m ≠ 0 → decide ((((a0e m).map a0h).length : Int) > 0) = true := fun m hm => decide_eq_true (by
      rw [a1g hm, List.map_cons, List.length_cons]; omega)
    have hm0 : decide ((((a0e 0).map a0h).length : Int) > 0) = false := decide_eq_false (by rw [a0L]; decide)
    obtain ⟨w0, ws, hws⟩ : ∃ a l, (a0e n).map a0h = a :: l := by
      cases hl : (a0e n).map a0h with
      | nil => exact absurd hl (a1W hz0)
      | cons a l => exact ⟨a, l, rfl⟩
    have hwD : wD n = .sl false 1 (w0 :: ws) := by unfold wD wL; rw [hws]
    have hbD : wD B = .sl false 1 [u64 1000000000000000000] := by unfold wD wL; rw [hBl, hBs]; rfl
    have pw : IsPure (.sl false 1 (w0 :: ws)) := by rw [← hwD]; exact inferInstance
    rw [hwD] at hp ⊢
    clear hit h1 h2 hz hs hsg
    have hne : (w0 :: ws ≠ []) = True := eq_true (List.cons_ne_nil _ _)
    refine goI dr0 hne hp trivial trivial trivial trivial trivial ?_
    rw [← hwD]
    refine OkS.loop (α := Nat × List (List UInt8) × Nat × Nat) (fun p => ⟨[(3, boo neg), (4, wD p.1), (5, wD B), (6, a9n 1303 p.2.2.1 1 (a2t p.2.1))], a7v 1303 p.2.2.1 9 1 (a2t p.2.1), p.2.2.2⟩) (fun p => p.1)
      (fun p => b0p n p.1 p.2.1) (n, [], 0, _) ⟨fun _ => by unfold a3e; simp, fun q => absurd q hz0, fun p hp => absurd hp List.not_mem_nil, Nat.le_refl _⟩ (by refine ⟨.drop .nil, ⟨.refl _, .refl _, ?_, .refl _, trivial⟩, Nat.le_refl _⟩; dsimp only; rw [hbD]; exact .nn true 1 _) ?_
    rintro ⟨m, P, g, cnt⟩ F I
    dsimp only at I ⊢
    have hPl := I.len
    rcases Nat.decEq m 0 with hm | hm
    rotate_left
    · subst hm
      have hdn := I.eq rfl
      have hall := I.all
      have hLn : P.length ≤ 27000001 := by omega
      have hP0 : P ≠ [] := fun q => b1W n (by rw [hdn, q]; rfl)
      obtain ⟨N, hN⟩ : ∃ N, P.length = N := ⟨_, rfl⟩
      have hN0 : N ≠ 0 := fun q => hP0 (List.eq_nil_of_length_eq_zero (by omega))
      rw [hdn]
      clear hwD hbD pw hp hn hPl I
      have elP : (((a2t P).length : Nat) : Int) = (N : Int) := by rw [List.length_map, hN]
      have wN : IntKind.i64.wrap ((N : Int) - 1) = ((N : Int) - 1) := wI (by omega) (by omega)
      refine OkS.seq ?_
      refine sZ 600 ?_
      refine nwI hm0 ?_
      refine ifI ?_
      refine exI ?_
      refine OkS.weak ⟨[(3, boo neg), (6, .sl false 1 (a2t P))], [], _⟩ ⟨?_, ⟨.refl _, ?_, trivial⟩, Nat.le_refl _⟩ ?_
      · have := b7W (K := 1303) (g := g) (T := 9) (sz := 1) (l := a2t P) (r := []) (r' := []) (H := a7v 1303 g 9 1 (a2t P)) (Hf := []) .nil
        rwa [List.append_nil] at this
      · exact b7v _ _ _ _ _
      obtain ⟨c0, hc0⟩ : ∃ c, c = cnt + 1 + 1 + 1 := ⟨_, rfl⟩
      rw [← hc0]
      refine sR 1500 ?_
      obtain ⟨c1, hc1⟩ : ∃ c, c = c0 + 1 := ⟨_, rfl⟩
      refine OkS.seqX (α := D × Nat × Nat) (fun q => ⟨[(6, .sl false 1 (a2t P)), (10, .optr 1500 c0 2 0 0)], bH q.2.1 c0 q.1 (if neg then [45] else []) [], q.2.2⟩) (fun q => q.1 = .prim (.pointer none) ∨ q.1 = .optr 1500 c0 2 0 0) ?_ ?_
      · cases neg
        · refine goI dr0 kB trivial trivial trivial trivial trivial trivial ?_
          exact ⟨by trivial, (.prim (.pointer none), 0, _), .inl rfl, wkI⟩
        · refine goI dr0 kB trivial trivial trivial trivial trivial trivial ?_
          refine a0k.own _ (d5l c0 0 _ (.prim (.pointer none)) (.inl rfl) [] [45] (by decide) [] (by decide)) ?_
          rintro d H' n' ⟨⟨g', rfl⟩, hn'⟩
          refine stI ?_
          exact ⟨by trivial, (.optr 1500 c0 2 0 0, g', _), .inr rfl, wkI⟩
      rintro ⟨p0, gb0, c2⟩ hp0
      dsimp only at hp0 ⊢
      obtain ⟨pre, hpre⟩ : ∃ l, (if neg then [45] else [] : List UInt8) = l := ⟨_, rfl⟩
      have hpl : pre.length ≤ 1 := by rw [← hpre]; split <;> decide
      rw [hpre]
      refine goI dr0 (ff2 elP @wN) trivial trivial trivial trivial trivial trivial ?_
      refine OkS.loop (α := Nat × D × Nat × Nat) (fun q => ⟨[(6, .sl false 1 (a2t P)), (10, .optr 1500 c0 2 0 0), (11, i64 ((q.1 : Int) - 1))], bH q.2.2.1 c0 q.2.1 (pre ++ a3e (P.drop q.1)) [], q.2.2.2⟩) (fun q => q.1)
        (fun q => q.1 ≤ N ∧ (q.2.1 = .prim (.pointer none) ∨ q.2.1 = .optr 1500 c0 2 0 0)) (N, p0, gb0, _) ⟨Nat.le_refl _, hp0⟩ (by dsimp only; rw [← hN, List.drop_length]; unfold a3e; rw [List.reverse_nil, List.flatten_nil, List.append_nil]; exact wkI) ?_
      rintro ⟨k, p, gb, c3⟩ F ⟨hk, hp⟩
      dsimp only at hk hp ⊢
      have hjl : ∀ k, (a3e (P.drop k)).length ≤ (a3e P).length := fun k => by
        unfold a3e
        conv => rhs; rw [← List.take_append_drop k P]
        rw [List.reverse_append, List.flatten_append, List.length_append]; omega
      have hjP : (a3e P).length ≤ 27000001 := by rw [← hdn]; omega
      rcases Nat.eq_zero_or_pos k with hk0 | hk0
      · subst hk0
        have e1 : decide ((((0 : Nat) : Int) - 1) ≥ 0) = false := by decide
        rw [List.drop_zero]
        have hL : pre ++ a3e P ≠ [] := fun q => by
          have := (List.append_eq_nil_iff.1 q).2
          rw [← hdn] at this; exact b1W n this
        obtain ⟨L, hLL⟩ : ∃ L, pre ++ a3e P = L := ⟨_, rfl⟩
        rw [hLL] at hL ⊢
        obtain ⟨y, r, hy⟩ := b5B hL
        have hlr : L.length = r.length + 1 := by rw [← a4E, hy]; rfl
        refine goI dr0 e1 trivial trivial trivial trivial trivial trivial ?_
        refine a0k.own _ (by
          have := fun n => d4M c0 gb n L hL p []
          unfold bH
          simp only [hy, hlr] at this ⊢
          exact this _) ?_
        rintro d H' n' ⟨rfl, rfl, rfl⟩
        refine goI dr0 kB trivial trivial trivial trivial trivial trivial ?_
        exact a0a rfl IsPure.out
      · obtain ⟨k', rfl⟩ : ∃ k', k = k' + 1 := ⟨k - 1, by omega⟩
        have e1 : decide ((((k' + 1 : Nat) : Int) - 1) ≥ 0) = true := decide_eq_true (by omega)
        have e2 : (((k' + 1 : Nat) : Int) - 1) = (k' : Int) := by omega
        have wk : IntKind.i64.wrap ((k' : Int) - 1) = ((k' : Int) - 1) := wI (by omega) (by omega)
        have e3 : decide ((k' : Int) ≥ 0) = true := decide_eq_true (by omega)
        obtain ⟨t, ht⟩ : ∃ t, P[k']? = some t := a1I (by omega)
        have hm : (a2t P)[k']? = some (str (sb t)) := by rw [List.getElem?_map, ht]; rfl
        have htn := hall t (List.mem_of_getElem? ht)
        have hdr : P.drop k' = t :: P.drop (k' + 1) := by
          rw [List.drop_eq_getElem_cons (List.getElem?_eq_some_iff.1 ht).1, (List.getElem?_eq_some_iff.1 ht).2]
        have hj : pre ++ a3e (P.drop k') = pre ++ a3e (P.drop (k' + 1)) ++ t := by
          rw [hdr, List.append_assoc]
          congr 1
          unfold a3e
          rw [List.reverse_cons, List.flatten_append]; simp
        have hlt : (pre ++ a3e (P.drop (k' + 1))).length + t.length ≤ 100000000 := by
          have h1 := hjl k'
          have h2 : (pre ++ a3e (P.drop k')).length = (pre ++ a3e (P.drop (k' + 1))).length + t.length := by rw [hj, List.length_append]
          rw [← h2, List.length_append]; omega
        rw [e2]
        refine goI dr0 (ff2 e3 kN) hm trivial trivial trivial trivial trivial ?_
        refine a0k.own _ (d5l c0 gb _ p hp (pre ++ a3e (P.drop (k' + 1))) t htn [] hlt) ?_
        rintro d H' n' ⟨⟨g', rfl⟩, hn'⟩
        refine stI ?_
        refine goI dr0 wk trivial trivial trivial trivial trivial trivial ?_
        exact ⟨(k', .optr 1500 c0 2 0 0, g', _), ⟨by dsimp only; omega, .inr rfl⟩, by dsimp only; omega, by (dsimp only; rw [hj]; exact wkI)⟩
    have e1 := hmpos m hm
    have c1 := d5b m B hB0 (Nat.lt_of_le_of_lt (a0x m n I.le) hf) (by rw [hBl]; show 1 < 1000000; decide)
    have I2 := I.step hm hB
    obtain ⟨q, hq⟩ : ∃ q, m / B = q := ⟨_, rfl⟩
    obtain ⟨r, hr⟩ : ∃ q, m % B = q := ⟨_, rfl⟩
    have hqm : q < m := by rw [← hq]; exact Nat.div_lt_self (Nat.pos_of_ne_zero hm) hB2
    have hrB : r < B := by rw [← hr]; exact Nat.mod_lt _ (Nat.pos_of_ne_zero hB0)
    rw [hq, hr] at c1 I2
    have hsz := a0u (Lib.decDigits r)
    have hdl : (Lib.decDigits r).length ≤ 18 := a1w 17 r (by rw [hB] at hrB; exact hrB)
    have hdl1 : (Lib.decDigits r).length ≠ 0 := fun h => b1W r (List.eq_nil_of_length_eq_zero h)
    refine goI dr0 e1 trivial trivial trivial trivial trivial trivial ?_
    refine cI c1 ?_
    refine sR 800 ?_
    refine OkS.seqX (α := Nat) (fun cnt => ⟨[(3, boo neg), (5, wD B), (6, a9n 1303 g 1 (a2t P)), (7, wD q), (9, str (sb (Lib.decDigits r)))], a7v 1303 g 9 1 (a2t P), cnt⟩) (fun _ => True) ?_ ?_
    · rcases Nat.decEq r 0 with h0 | h0
      · have e2 := hmpos r h0
        have hl1 : a0e r = [r] := a3P h0 (Nat.lt_trans hrB hB1)
        have hmm : ((a0e r).map a0h)[0]? = some (u64 (r : Int)) := by rw [hl1]; rfl
        have c2 := d0l r (Nat.lt_trans hrB hB1)
        refine goI dr0 e2 hmm c2 trivial trivial trivial trivial ?_
        exact ⟨by trivial, _, trivial, wkI⟩
      · subst h0
        rw [b5A]
        refine goI dr0 hm0 trivial trivial trivial trivial trivial trivial ?_
        exact ⟨by trivial, _, trivial, wkI⟩
    rintro cnt2 -
    refine OkS.seqX (α := Nat) (fun cnt => ⟨[(3, boo neg), (5, wD B), (6, a9n 1303 g 1 (a2t P)), (7, wD q), (9, str (sb (a5n q r)))], a7v 1303 g 9 1 (a2t P), cnt⟩) (fun _ => True) ?_ ?_
    · rcases Nat.decEq q 0 with h0 | h0
      · have e2 := hmpos q h0
        have c2 : a0b C0 224 [str ⟨#[48]⟩, i64 ((18 - (Lib.decDigits r).length : Nat) : Int)] (str (sb (List.replicate (18 - (Lib.decDigits r).length) 48))) := c5S (18 - (Lib.decDigits r).length) (by omega)
        have w18 : IntKind.i64.wrap (18 - ((Lib.decDigits r).length : Int)) = ((18 - (Lib.decDigits r).length : Nat) : Int) := by rw [wI (by omega) (by omega)]; omega
        have hap := b9Q (List.replicate (18 - (Lib.decDigits r).length) 48) (Lib.decDigits r)
        have hsz2 := a0u (List.replicate (18 - (Lib.decDigits r).length) 48)
        have hpt : List.replicate (18 - (Lib.decDigits r).length) 48 ++ Lib.decDigits r = a5n q r := by unfold a5n; rw [if_neg h0]
        rw [hpt] at hap
        have hsize : (sb (List.replicate (18 - (Lib.decDigits r).length) 48)).size + (sb (Lib.decDigits r)).size ≤ 9223372036854775807 := by
          rw [hsz, hsz2, List.length_replicate]; omega
        refine goI dr0 (ff4 e2 hsz w18 hap) c2 trivial trivial trivial trivial trivial ?_
        exact ⟨by trivial, _, trivial, wkI⟩
      · subst h0
        have hpt : a5n 0 r = Lib.decDigits r := if_pos rfl
        rw [hpt]
        refine goI dr0 hm0 trivial trivial trivial trivial trivial trivial ?_
        exact ⟨by trivial, _, trivial, wkI⟩
    rintro cnt3 -
    have hsn : a2t (P ++ [a5n q r]) = a2t P ++ [str (sb (a5n q r))] := by unfold a2t; rw [List.map_append]; rfl
    have hPL : (a2t P).length = P.length := List.length_map ..
    rcases hPD : a2t P with _ | ⟨y, l⟩
    all_goals
      rw [hPD] at hsn hPL
      dsimp only [a4d, a4a, a3k, a3g, List.nil_append]
    · refine goI dr0 kB trivial trivial trivial trivial trivial trivial ?_
      exact ⟨(q, P ++ [a5n q r], _, _), I2, hqm, by (dsimp only; rw [hsn]; exact wkI)⟩
    · have htk : List.take (l.length + 1) (y :: l) = y :: l := by simp
      have hll : l.length + 1 ≤ 27000001 := by rw [List.length_cons] at hPL; omega
      refine goI dr0 htk trivial trivial trivial trivial trivial trivial ?_
      exact ⟨(q, P ++ [a5n q r], _, _), I2, hqm, by (dsimp only; rw [hsn, a3Q]; exact wkI)⟩
abbrev b4S:Dr:=[(3,[0,1,2,3,4,5,6],[7,8])]
open Go.Proofs Go.RowKit
set_option maxRecDepth 20000
set_option maxHeartbeats 4000000
theorem c1b (x:Nat)(hx:x<BB):a0b C0 261 [a0h x] (i64 (Lib.bitLen x:Int)):=by
 refine ⟨⟨_,_,Tryz.func261,rfl,by kernel_rfl⟩,fun Y w vs hG hnG hX hvs hr=>?_⟩
 have:=a7K hvs hr
 subst this;refine (Tryz.bits_Len64 x w (by omega) (by unfold BB at hx;omega)).mono ?_;rintro e w' ⟨rfl,rfl⟩;exact ⟨_,_,rfl,.refl _ _,rfl,.prim _⟩
def b1h (n:Nat):Nat:=(a0e n).getD ((a0e n).length - 1) 0
def a8f (n:Nat):Nat:=if n=0 then 0 else 64*((a0e n).length - 1)+Lib.bitLen (b1h n)
theorem c7i (n:Nat):n<2^a8f n:=by
 unfold a8f
 by_cases h:n=0
 ·subst h;rw [if_pos rfl];decide
 ·rw [if_neg h]
  have hl:(a0e n).length≠0:=fun q=>by
   have:=a1g h
   rw [this] at q;simp at q
  obtain ⟨k,hk⟩:∃ k,(a0e n).length=k+1:=⟨(a0e n).length - 1,by omega⟩
  have hat:(a0e n)[k]? = some (b1h n):=by
   unfold b1h;rw [hk,Nat.add_sub_cancel,List.getD_eq_getElem?_getD,List.getElem?_eq_getElem (by omega)];rfl
  have hv:=a4x hat;rw [List.drop_of_length_le (by omega),a0K] at hv;have ht:b1h n<BB:=a1h n _ (List.mem_of_getElem? hat);have h1:a0i ((a0e n).take k)<BB^k:=by
   have:=a2I (l:=(a0e n).take k) fun a ha=>a1h n a (List.mem_of_mem_take ha)
   rwa [List.length_take,Nat.min_eq_left (by omega)] at this
  have h2:b1h n<2^Lib.bitLen (b1h n):=by
   by_cases t0:b1h n=0
   ·rw [t0];exact Nat.two_pow_pos _
   ·exact (Lib.bitLenAux_bounds 64 (b1h n) ht t0).2.2
  have h3:BB^k=2^(64*k):=by rw [Nat.pow_mul]
  rw [hk,Nat.add_sub_cancel,Nat.pow_add,← h3];have h4:n=a0i ((a0e n).take k)+BB^k*b1h n:=by simpa [a0i] using hv
  have h5:BB^k*(b1h n+1)≤BB^k*2^Lib.bitLen (b1h n):=Nat.mul_le_mul_left _ h2;rw [Nat.mul_add,Nat.mul_one] at h5;omega
def b0N (n:Nat):Bool:=decide (600<(Lib.decDigits n).length)
theorem c0p (n:Nat):b0N n=(decide (a8f n>1800)&&b0N n):=by
 by_cases h:a8f n>1800
 ·rw [decide_eq_true h,Bool.true_and]
 ·rw [decide_eq_false h,Bool.false_and]
  have key:∀ k,a8f n≤3*(k+1)→(Lib.decDigits n).length≤k+1:=fun k hk=>a1w k n (Nat.lt_of_lt_of_le (c7i n) (Nat.le_trans (Nat.pow_le_pow_right (by decide) hk) (by rw [Nat.pow_mul];exact Nat.pow_le_pow_left (by decide) (k+1))))
  have h4:=key 599 (by omega);exact decide_eq_false (by omega)
theorem d1F (x:GI)(h:x.wf)(hf:x.few):a0b C0 230 [x.D] (i64 (a8f x.z.natAbs:Nat)):=by
 refine a0c.walk w1 c4D rfl fun F=>?_
 have c1:=a2Q x h;obtain ⟨n,hn⟩:∃ n,x.z.natAbs=n:=⟨_,rfl⟩
 unfold GI.few at hf;rw [hn] at c1 hf ⊢;have el:((((a0e n).map a0h).length:Nat):Int)=((a0e n).length:Int):=by rw [List.length_map]
 unfold wD wL at c1;dsimp only [GI.D] at c1 ⊢
 by_cases h0:n=0
 ·have e1:(((a0e n).length:Int)==0)=true:=by rw [h0,a0L];rfl
  have hb:a8f n=0:=if_pos h0;rw [hb];refine goI dr0 (ff2 e1 el) c1 trivial trivial trivial trivial trivial ?_;exact a0a rfl IsPure.out
 ·have hl:(a0e n).length≠0:=fun q=>by
   have:=a1g h0
   rw [this] at q;simp at q
  have e1:(((a0e n).length:Int)==0)=false:=d0K hl;have wl:IntKind.i64.wrap (((a0e n).length:Int) - 1)=(((a0e n).length - 1:Nat):Int):=by rw [wI (by omega) (by omega)];omega
  have wm:IntKind.i64.wrap (64*(((a0e n).length - 1:Nat):Int))=((64*((a0e n).length - 1):Nat):Int):=by rw [wI (by omega) (by omega)];omega
  have hat:(a0e n)[(a0e n).length - 1]? = some (b1h n):=by
   unfold b1h;rw [List.getD_eq_getElem?_getD,List.getElem?_eq_getElem (by omega)];rfl
  have hm:((a0e n).map a0h)[(a0e n).length - 1]? = some (u64 (b1h n:Int)):=by rw [List.getElem?_map,hat];rfl
  have ht:b1h n<BB:=a1h n _ (List.mem_of_getElem? hat);have c2:=c1b (b1h n) ht;have hbl:=Lib.bitLen_le (b1h n) 64 (Nat.le_refl _) ht;have wa:IntKind.i64.wrap (((64*((a0e n).length - 1):Nat):Int)+(Lib.bitLen (b1h n):Int))=((a8f n:Nat):Int):=by
   have hb:a8f n=64*((a0e n).length - 1)+Lib.bitLen (b1h n):=if_neg h0;rw [hb,wI (by omega) (by omega)];omega
  refine goI dr0 (ff6 e1 el wl wm wa kN) c1 hm c2 trivial trivial trivial ?_;exact a0a rfl IsPure.out
theorem c4i (x:GI)(h:x.wf)(hf:x.few):a0b C0 191 [x.D] (boo (b0N x.z.natAbs)):=by
 refine a0c.walk w1 c5j rfl fun F=>?_
 have c1:=d1F x h hf;have c2:=b1m x h hf;have hlen:(Lib.decDigits x.z.natAbs).length≤27*1000000+1:=a9K (k:=1000000) (by unfold GI.few at hf;omega);have hil:(Lib.itoa x.z).length≤27000002:=by
  unfold Lib.itoa;split
  ·rw [List.length_cons];omega
  ·rw [show x.z.toNat=x.z.natAbs by omega];omega
 have c3:=a4k (Lib.itoa x.z) (by omega);rw [(a4R x.z).2] at c3;have hsz:=a0u (Lib.decDigits x.z.natAbs);have hlb:=c0p x.z.natAbs;obtain ⟨b,hb⟩:∃ b,b0N x.z.natAbs=b:=⟨_,rfl⟩
 have e2:decide (((Lib.decDigits x.z.natAbs).length:Int)>600)=b:=by rw [← hb];exact decide_eq_decide.2 (by omega)
 obtain ⟨p,hp⟩:∃ b,decide (a8f x.z.natAbs>1800)=b:=⟨_,rfl⟩
 have e1:decide (((a8f x.z.natAbs:Nat):Int)>1800)=p:=by rw [← hp];exact decide_eq_decide.2 (by omega)
 rw [hb,hp] at hlb;rw [hb,hlb];dsimp only [GI.D] at c1 c2 ⊢;cases p
 ·refine goI dr0 e1 c1 trivial trivial trivial trivial trivial ?_
  exact a0a rfl IsPure.out
 ·refine goI dr0 (ff3 e1 e2 hsz) c1 c2 c3 trivial trivial trivial ?_
  exact a0a rfl IsPure.out
theorem c3E {r:Rat}{x:GF}{k:Nat}(h:FR r x k)(hk:k<100000):x.n.wf∧x.n.few∧(mkG (x.d:Int)).wf∧(mkG (x.d:Int)).few∧x.n.z=r.num∧x.d=r.den∧0<x.d :=
 ⟨h.is.1,h.fn (by omega),a0H _,by
  show (a0e ((x.d:Int)).natAbs).length<1000000;rw [Int.natAbs_natCast];have:=h.ld;omega,h.is.2.1,h.is.2.2,h.dpos⟩
theorem c6W {r:Rat}{x:GF}{k:Nat}(h:FR r x k)(hk:k<100000):a0b C0 125 [x.D] (boo (b2F r)):=by
 refine a0c.walk w1 c4v rfl fun F=>?_
 obtain ⟨h1,h2,h3,h4,h5,h6,_⟩:=c3E h hk;have c1:=c4i x.n h1 h2;have c2:=c4i (mkG (x.d:Int)) h3 h4;have hb:b2F r=(b0N x.n.z.natAbs||b0N (mkG (x.d:Int)).z.natAbs):=by
  unfold b2F b0N;rw [h5,← h6];rfl
 rw [hb];obtain ⟨p,hp⟩:∃ b,b0N x.n.z.natAbs=b:=⟨_,rfl⟩
 obtain ⟨q,hq⟩:∃ b,b0N (mkG (x.d:Int)).z.natAbs=b:=⟨_,rfl⟩
 rw [hp] at c1;rw [hq] at c2;rw [hp,hq];dsimp only [GI.D,GF.D] at c1 c2 ⊢;generalize mkG (x.d:Int)=y at c2 ⊢;cases p<;>cases q
 all_goals
  refine goI dr0 kB c1 c2 trivial trivial trivial trivial ?_;exact a0a rfl IsPure.out
theorem d1J {r:Rat}{x:GF}{k:Nat}(h:FR r x k)(hk:k<100000):a0b C0 111 [x.D] (str (sb (txt r))):=by
 refine a0c.walk w1 c3C rfl fun F=>?_
 obtain ⟨h1,h2,h3,h4,h5,h6,h7⟩:=c3E h hk;have c0:=a8Z x h7;have c1:=b1m x.n h1 h2;have c2:=b1m (mkG (x.d:Int)) h3 h4;have hd:Lib.itoa (mkG (x.d:Int)).z=Lib.decDigits r.den:=by
  show Lib.itoa (x.d:Int)=_;unfold Lib.itoa;rw [if_neg (by omega),h6];rfl
 rw [hd] at c2;rw [h5] at c1;have l1:(Lib.itoa r.num).length≤27000002:=by
  have:(Lib.decDigits x.n.z.natAbs).length≤27*1000000+1:=a9K (k:=1000000) (by unfold GI.few at h2;omega)
  rw [h5] at this;unfold Lib.itoa;split
  ·rw [List.length_cons];omega
  ·rw [show r.num.toNat=r.num.natAbs by omega];omega
 have l2:(Lib.decDigits r.den).length≤27000001:=by
  have:(Lib.decDigits (mkG (x.d:Int)).z.natAbs).length≤27*1000000+1:=a9K (k:=1000000) (by unfold GI.few at h4;omega)
  rw [← h6];exact this
 have s1:=a0u (Lib.itoa r.num);have s2:=a0u (Lib.decDigits r.den);have s3:(sb [47]).size=1:=rfl;have s4:=a0u (Lib.itoa r.num++[47]);have z1:(sb (Lib.itoa r.num)).size+(sb [47]).size≤9223372036854775807:=by rw [s1,s3];omega
 have z2:(sb (Lib.itoa r.num++[47])).size+(sb (Lib.decDigits r.den)).size≤9223372036854775807:=by rw [s4,s2,List.length_append,List.length_singleton];omega
 have a1:sb (Lib.itoa r.num)++(⟨#[47]⟩:ByteArray)=sb (Lib.itoa r.num++[47]):=b9Q _ [47];have a2:=b9Q (Lib.itoa r.num++[47]) (Lib.decDigits r.den);rw [List.append_assoc] at a2;dsimp only [GI.D,GF.D] at c0 c1 c2 ⊢;generalize mkG (x.d:Int)=y at c0 c2 ⊢;unfold txt
 by_cases g:x.d=1
 ·rw [decide_eq_true g] at c0
  rw [if_pos (h6 ▸ g)];refine goI b4S kB c0 c1 trivial trivial trivial trivial ?_;exact a0a rfl IsPure.out
 ·rw [decide_eq_false g] at c0
  rw [if_neg (fun q=>g (h6.trans q))];refine goI b4S (ff2 a1 a2) c0 c1 c2 trivial trivial trivial ?_;exact a0a rfl IsPure.out
abbrev a3A:Dr:=[(6,[0,1,2,3,4,5],[6,7,8,9])]
open Go.Proofs Go.RowKit
set_option maxRecDepth 20000
set_option maxHeartbeats 4000000
def b8d {α:Type}(f:α→Nat):List α→Nat
 | []=>0
 | a::r=>if f a≠0 then f a else b8d f r
theorem b3b {α:Type}{f:α→Nat}{l:List α}{i:Nat}(ha:∀ (j:Nat) (y:α),j<i→l[j]? = some y→f y=0):b8d f l=b8d f (l.drop i):=by
 induction l generalizing i with
 | nil=>simp
 | cons a r ih =>
  cases i with
  | zero=>rfl
  | succ i =>
   have h0:=ha 0 a (by omega) rfl;show (if f a≠0 then f a else b8d f r)=_;rw [if_neg (fun k=>k h0),List.drop_succ_cons];exact ih fun j y hj hy=>ha (j+1) y (by omega) hy
theorem b9j {α:Type}{f:α→Nat}{v:List α}{i:Nat}{l:α}(ha:∀ (j:Nat) (y:α),j<i→v[j]? = some y→f y=0)(hl:v[i]? = some l)(h:f l≠0):b8d f v=f l:=by
 rw [b3b ha,List.drop_eq_getElem_cons (List.getElem?_eq_some_iff.1 hl).1,(List.getElem?_eq_some_iff.1 hl).2];exact if_pos h
theorem b1g {α:Type}{f:α→Nat}{v:List α}(ha:∀ (j:Nat) (y:α),j<v.length→v[j]? = some y→f y=0):b8d f v=0:=by
 rw [b3b (i:=v.length) ha,List.drop_length];rfl
theorem b8U {α:Type}{f:α→Nat}{v:List α}(h:b8d f v=0):∀ l∈v,f l=0:=by
 induction v with
 | nil=>intro l hl;cases hl
 | cons a r ih =>
  have h':(if f a≠0 then f a else b8d f r)=0:=h
  by_cases g:f a=0
  ·rw [if_neg (fun k=>k g)] at h'
   intro l hl;rcases List.mem_cons.1 hl with rfl|h2
   ·exact g
   ·exact ih h' l h2
  ·rw [if_pos g] at h';exact absurd h' g
def a1X (n:Nat)(r:a0t):Nat:=if unk r.fac n≠0 then unk r.fac n else if chk r.step≠0 then chk r.step else if a3r (a0j r.step)≤0 then 3 else if chk r.price≠0 then chk r.price else if a3r (a0j r.price)<0 then 3 else 0
def a1c (n:Nat)(l:List a0t):Nat:=if 256<l.length then 5 else b8d (a1X n) l
theorem a2b {n:Nat}{r:a0t}(h:a1X n r=0):unk r.fac n=0∧chk r.step=0∧0<a3r (a0j r.step)∧chk r.price=0∧0≤a3r (a0j r.price):=by
 unfold a1X at h;split at h
 ·rename_i g;exact absurd h g
 ·split at h
  ·rename_i g;exact absurd h g
  ·split at h
   ·cases h
   ·split at h
    ·rename_i g;exact absurd h g
    ·split at h
     ·cases h
     ·exact ⟨by omega,by omega,by omega,by omega,by omega⟩
theorem c0J {r:Rat}(h:0<a3r r):r≠0:=fun q=>by subst q;exact absurd h (by decide)
def b4u (l:List a0t):Prop:=∀ r∈l,r.step.length≤40∧r.price.length≤40
theorem d4U:a0b C0 57 [i64 0] (⟨mkG 0,1⟩:GF).D:=d5d 0
theorem c3r (a b:List UInt8)(x:Rat)(y:GF)(k:Nat)(hk:k<100000)(hx:FR x y k)(ha:a≠[]→FR (a0j a) (a4p a) k)(hb:b≠[]→FR (a0j b) (a4p b) k):a0b C0 67 [a3n a b,y.D] (b3c a b x y).D:=by
 refine a0c.walk w1 d1c rfl fun F=>?_
 have hw:b3c a b x y=if (!decide (a=[])&&decide (a2J x (a0j a)<0))=true then b8w (a4p a) y else if (!decide (b=[])&&decide (a2J x (a0j b)>0))=true then b8w y (a4p b) else ⟨mkG 0,1⟩:=rfl
 obtain ⟨qa,ga⟩:∃ q,decide (a=[])=q:=⟨_,rfl⟩
 obtain ⟨qb,gb⟩:∃ q,decide (b=[])=q:=⟨_,rfl⟩
 obtain ⟨p,hp⟩:∃ q,decide (a2J x (a0j a)<0)=q:=⟨_,rfl⟩
 obtain ⟨q,hq⟩:∃ q,decide (a2J x (a0j b)>0)=q:=⟨_,rfl⟩
 have c1:qa=false→a0b C0 121 [y.D,(a4p a).D] (i64 (a2J x (a0j a))):=fun h=>b9P hx (ha (of_decide_eq_false (ga.trans h))) (by omega)
 have c2:qb=false→a0b C0 121 [y.D,(a4p b).D] (i64 (a2J x (a0j b))):=fun h=>b9P hx (hb (of_decide_eq_false (gb.trans h))) (by omega)
 have d1:qa=false→a0b C0 124 [(a4p a).D,y.D] (b8w (a4p a) y).D:=fun h=>c3A (ha (of_decide_eq_false (ga.trans h))) hx (by omega)
 have d2:qb=false→a0b C0 124 [y.D,(a4p b).D] (b8w y (a4p b)).D:=fun h=>c3A hx (hb (of_decide_eq_false (gb.trans h))) (by omega)
 have c0:=d4U;unfold a3n;rw [hw,ga,gb,hp,hq];clear hw ga gb hx ha hb;generalize b8w (a4p a) y=A at *;generalize b8w y (a4p b)=B at *;generalize (⟨mkG 0,1⟩:GF)=Z at *;cases qa<;>cases qb<;>cases p<;>cases q
 all_goals
  refine goI dr0 (ff2 hp hq) c1 c2 d1 d2 c0 trivial ?_;exact a0a rfl IsPure.out
theorem b0Q (n:Nat)(G:List (List LP))(l:List a0t)(hl:l.length≤9223372036854775807)(hf:b4u l):a0b C0 68 [b6p n G,.sl false 3 (l.map a0t.D)] (i64 (a1c n l:Nat)):=by
 refine a0c.walk w1 d0I rfl fun F=>?_
 have el:(((l.map a0t.D).length:Nat):Int)=(l.length:Int):=by rw [List.length_map]
 have cf:=fun g=>b3S n G g
 by_cases h1:256<l.length
 ·have e1:decide ((l.length:Int)>256)=true:=decide_eq_true (by omega)
  have hv:a1c n l=5:=if_pos h1;rw [hv];refine goI a3A (ff2 el e1) trivial trivial trivial trivial trivial trivial ?_;exact a0a rfl IsPure.out
 have e1:decide ((l.length:Int)>256)=false:=decide_eq_false (by omega);have hv:a1c n l=b8d (a1X n) l:=if_neg h1;rw [hv];refine goI a3A (ff2 el e1) trivial trivial trivial trivial trivial trivial ?_;refine OkS.loop (α:=Nat × Nat) (fun p=>⟨[(2,.optr 0 0 2 0 0),(12,.sl false 3 (l.map a0t.D)),(13,i64 (l.length:Int)),(14,i64 (p.1:Int))],[⟨0,0,134,2,[b6p n G]⟩],p.2⟩) (fun p=>l.length - p.1)
  (fun p=>p.1≤l.length∧∀ (j:Nat) (r:a0t),j<p.1→l[j]? = some r→a1X n r=0) (0,_) ⟨Nat.zero_le _,fun j r hj=>absurd hj (Nat.not_lt_zero j)⟩ wkI ?_
 rintro ⟨i,m⟩ F ⟨hi,ha⟩;dsimp only at hi ha ⊢;rcases Nat.lt_or_ge i l.length with h2|h2
 rotate_left
 ·have e2:=ltF h2
  have:i=l.length:=by omega
  subst this;rw [b1g ha];refine goI a3A e2 trivial trivial trivial trivial trivial trivial ?_;exact a0a rfl IsPure.out
 have e2:=ltT h2;have wi:=wiI (i:=i) (by omega);obtain ⟨r,hr⟩:=a1I h2;obtain ⟨f1,f2⟩:=hf r (List.mem_of_getElem? hr);have hm:(l.map a0t.D)[i]? = some (.agg [i64 r.fac,str (sb r.step),str (sb r.price)]):=by rw [List.getElem?_map,hr];rfl
 have c1:=cf r.fac;have c2:=a5j r.step (by omega);have c3:=a5j r.price (by omega);have c4:a0b C0 96 [.sl true 1 [i64 (unk r.fac n:Nat),i64 (chk r.step:Nat)]] (i64 (a2d [(unk r.fac n:Int),(chk r.step:Int)])):=a7X [(unk r.fac n:Int),(chk r.step:Int)] (by simp);have hat:=fun h=>b9j (f:=a1X n) ha hr h
 have hq:a1X n r=if unk r.fac n≠0 then unk r.fac n else if chk r.step≠0 then chk r.step else if a3r (a0j r.step)≤0 then 3 else if chk r.price≠0 then chk r.price else if a3r (a0j r.price)<0 then 3 else 0:=rfl
 have d1:chk r.step=0→a0b C0 70 [str (sb r.step)] (a1O r.step).D:=fun h=>a7h (by omega) h
 have d2:chk r.price=0→a0b C0 70 [str (sb r.price)] (a1O r.price).D:=fun h=>a7h (by omega) h
 have s1:chk r.step=0→a0b C0 122 [(a1O r.step).D] (i64 (a3r (a0j r.step))):=fun h=>b0C (a9Q h).is
 have s2:chk r.price=0→a0b C0 122 [(a1O r.price).D] (i64 (a3r (a0j r.price))):=fun h=>b0C (a9Q h).is
 generalize chk r.step=K1 at *;generalize chk r.price=K2 at *;generalize a1O r.step=A1 at *;generalize a1O r.price=A2 at *;generalize a3r (a0j r.step)=S1 at *;generalize a3r (a0j r.price)=S2 at *;generalize unk r.fac n=U at *;obtain ⟨Q,hQ⟩:∃ Q,a1X n r=Q:=⟨_,rfl⟩
 rw [hQ] at hq hat;rcases Nat.decEq U 0 with h3|h3
 ·have hu:(a2d [(U:Int),(K1:Int)])=(U:Int):=if_pos (by omega)
  have e3:=b3s h3;rw [hu] at c4;rw [if_pos h3] at hq;rw [hat (by omega),hq];refine goI a3A (ff3 e2 e3 kN) hm c1 c2 c4 trivial trivial ?_;exact a0a rfl IsPure.out
 rw [if_neg (fun k=>k h3)] at hq;rcases Nat.decEq K1 0 with h4|h4
 ·have hu:(a2d [(U:Int),(K1:Int)])=(K1:Int):=by
   show (if (U:Int)≠0 then (U:Int) else if (K1:Int)≠0 then (K1:Int) else 0)=_;rw [if_neg (by omega),if_pos (by omega)]
  have e3:=b3s h4;rw [hu] at c4;rw [if_pos h4] at hq;rw [hat (by omega),hq];refine goI a3A (ff3 e2 e3 kN) hm c1 c2 c4 trivial trivial ?_;exact a0a rfl IsPure.out
 have hu:(a2d [(U:Int),(K1:Int)])=((0:Nat):Int):=by
  show (if (U:Int)≠0 then (U:Int) else if (K1:Int)≠0 then (K1:Int) else 0)=_;rw [if_neg (by omega),if_neg (by omega)];rfl
 have e3:=b6X (a:=0) rfl;rw [hu] at c4;rw [if_neg (fun k=>k h4)] at hq;have d1:=d1 h4;have s1:=s1 h4
 by_cases h5:S1≤0
 ·have e5:decide (S1≤0)=true:=decide_eq_true h5
  rw [if_pos h5] at hq;rw [hat (by omega),hq];refine goI a3A (ff4 e2 e3 e5 kN) hm c1 c2 c4 d1 s1 ?_;exact a0a rfl IsPure.out
 have e5:decide (S1≤0)=false:=decide_eq_false h5;rw [if_neg h5] at hq;refine goI a3A (ff4 e2 e3 e5 kN) hm c1 c2 c4 d1 s1 ?_;rcases Nat.decEq K2 0 with h6|h6
 ·have e6:=b3s h6
  rw [if_pos h6] at hq;rw [hat (by omega),hq];refine goI a3A (ff2 e6 kN) c3 trivial trivial trivial trivial trivial ?_;exact a0a rfl IsPure.out
 have e6:=b6X h6;rw [if_neg (fun k=>k h6)] at hq;have d2:=d2 h6;have s2:=s2 h6
 by_cases h7:S2<0
 ·have e7:decide (S2<0)=true:=decide_eq_true h7
  rw [if_pos h7] at hq;rw [hat (by omega),hq];refine goI a3A (ff3 e6 e7 kN) c3 d2 s2 trivial trivial trivial ?_;exact a0a rfl IsPure.out
 have e7:decide (S2<0)=false:=decide_eq_false h7;rw [if_neg h7] at hq;refine goI a3A (ff4 e6 e7 wi kN) c3 d2 s2 trivial trivial trivial ?_;exact ⟨(i+1,_),⟨h2,a5D hr ha (hQ.trans hq)⟩,by dsimp only;omega,wkI⟩
def b6z (r:Rat):List UInt8:=if b2F r=true then [] else txt r
def b5S (r:Rat):Nat:=if b2F r=true then 4 else 0
theorem c0S {r:Rat}{x:GF}{k:Nat}(h:FR r x k)(hk:k<100000):a0b C0 62 [x.D] (.tup [str (sb (b6z r)),i64 (b5S r:Nat)]):=by
 refine a0c.walk w1 c9M rfl fun F=>?_
 have c1:=c6W h hk;have c2:=d1J h hk;unfold b6z b5S;obtain ⟨b,hb⟩:∃ b,b2F r=b:=⟨_,rfl⟩
 rw [hb] at c1 ⊢;cases b
 all_goals
  refine goI dr0 kB c1 c2 trivial trivial trivial trivial ?_;exact a0a rfl IsPure.out
abbrev a8D:Dr:=[(8,[0,1,2,3,4,5,6,7,8,9,10,11,12,13,14],[15])]
open Go.Proofs Go.RowKit
set_option maxRecDepth 20000
set_option maxHeartbeats 4000000
def a2L (r:List LP)(v:List (List UInt8))(k:Nat):Rat:=a6G (pv r k).1 (pv r k).2 (a0j (lv v k))
def a3v (r:List LP)(v:List (List UInt8))(n:Nat):List (List UInt8):=(List.range n).map fun k=>txt (a2L r v k)
theorem b4m (r:List LP)(v:List (List UInt8))(n:Nat):a3v r v (n+1)=a3v r v n++[txt (a2L r v n)]:=by
 unfold a3v;rw [List.range_succ,List.map_append];rfl
def S40 (v:List (List UInt8)):Prop:=∀ l∈v,l.length≤40
def G40 (s:a1y):Prop:=∀ g∈s.gs,S40 g.least∧S40 g.most
def d1R (r:List LP):Prop:=∀ p∈r,p.1.length≤40∧p.2.length≤40
theorem d1C {v:List (List UInt8)}(h:S40 v)(k:Nat):(lv v k).length≤40:=by
 unfold lv;rw [List.getD_eq_getElem?_getD];cases hk:v[k]? with
 | none=>exact Nat.zero_le _
 | some l=>exact h l (List.mem_of_getElem? hk)
theorem b9D {s:a1y}(h:G40 s):∀ r∈a0Q s,d1R r:=fun r hr p hp=>by
 obtain ⟨g,hg,rfl⟩:=List.mem_map.1 hr;obtain ⟨p1,p2⟩:=p
 have:=List.of_mem_zip hp
 exact ⟨(h g hg).1 _ this.1,(h g hg).2 _ this.2⟩
theorem a6W {l:List UInt8}(h:a2z l=0)(h4:l.length≤40)(h0:l≠[]):FR (a0j l) (a4p l) 3:=⟨(b3f h h0).is,rk3 (a2B h h0) h4⟩
theorem b2h {l:List UInt8}(h:chk l=0)(h4:l.length≤40):FR (a0j l) (a1O l) 3:=⟨(a9Q h).is,rk3 h h4⟩
theorem b4L {l:List UInt8}(h:a2z l=0)(h4:l.length≤40)(h0:l≠[]):nb (a0j l) E40 E40:=a6l (a2B h h0) h4
def b0E (s:a1y)(g:Int)(v:List (List UInt8)):List (List UInt8):=if b1w s g v=0 then a3v (a9i (a0Q s) g.toNat) v v.length else []
theorem d4k (s:a1y)(hs:s.few)(h4:G40 s)(g:Int)(b:Bool)(v:List (List UInt8))(hf:Few v)(hv4:S40 v):a0b C0 17 [s.D,i64 g,txD b v] (.tup [.sl false 1 ((b0E s g v).map fun l=>str (sb l)),i64 (b1w s g v:Nat)]):=by
 refine a0c.walk w1 c8v rfl fun F=>?_
 have c1:=b2t s hs g b v hf;have hok:=@b9e s g v;have hr:b0E s g v=if b1w s g v=0 then a3v (a9i (a0Q s) g.toNat) v v.length else []:=rfl
 rw [hr];obtain ⟨q,hq⟩:∃ q,b1w s g v=q:=⟨_,rfl⟩
 rw [hq] at c1 hok ⊢;unfold a1y.D at c1 ⊢;rcases Nat.decEq q 0 with h0|h0
 ·have e0:=b3s h0
  obtain ⟨x,y,ho⟩:=b2c s;rw [ho] at c1;rw [if_neg h0];refine goI a8D e0 c1 trivial trivial trivial trivial trivial ?_;exact ⟨_,b7Y (.nil 1),IsPure.out,rfl⟩
 have e0:=b6X h0;obtain ⟨k0,k1,k2,k3⟩:=hok h0;obtain ⟨gn,rfl,hgn⟩:=a3q k1;have hd:a7k s=b6p s.fs.length (a0Q s):=if_pos k0;have hd2:c2x q v=frD v:=if_pos h0;have hG:=b0P (a2k k0);have hG4:=b9D h4;have h8:=(a2k k0).1;have hgl:=b0A s;rw [hd,hd2] at c1;rw [if_pos h0,Int.toNat_natCast];clear hd hd2 hr;obtain ⟨G,hGG⟩:∃ A,a0Q s=A:=⟨_,rfl⟩
 obtain ⟨n,hn⟩:∃ A,s.fs.length=A:=⟨_,rfl⟩
 rw [hGG] at c1 hG hgl hG4 ⊢;rw [hn] at c1 hG h8 k2;have hlen:=hG.len;have el:(((v.map fun l=>(a1O l).D).length:Nat):Int)=(v.length:Int):=by rw [List.length_map]
 have hr1:=b0g (G:=G) (g:=gn) (by omega);obtain ⟨r,hr⟩:∃ r,a9i G gn=r:=⟨_,rfl⟩
 rw [hr] at hr1 ⊢;have hm1:(G.map b5q)[gn]? = some (.sl false 10 (r.map fun p=>a3n p.1 p.2)):=by rw [List.getElem?_map,hr1];rfl
 obtain ⟨hl,hE⟩:=hG.row r (List.mem_of_getElem? hr1);have hr4:=hG4 r (List.mem_of_getElem? hr1);unfold frD at c1;refine goI a8D (ff2 e0 el) c1 trivial trivial trivial trivial trivial ?_;refine OkS.loop (α:=Nat × List D × Nat × Nat) (fun p=>⟨[(1,i64 (gn:Int)),(8,.optr 108 11 2 0 0),(11,a9n 1103 p.2.2.1 1 p.2.1),(27,.sl false 4 (v.map fun l=>(a1O l).D)),(28,i64 (v.length:Int)),(29,i64 (p.1:Int))],a7v 1103 p.2.2.1 24 1 p.2.1++[⟨108,11,134,2,[b6p n G]⟩],p.2.2.2⟩) (fun p=>v.length - p.1)
  (fun p=>p.1≤v.length∧p.2.1=(a3v r v p.1).map fun l=>str (sb l)) (0,[],0,_) ⟨Nat.zero_le _,rfl⟩ wkI ?_
 rintro ⟨i,L,g2,m⟩ F ⟨hi,hL⟩;dsimp only at hi hL ⊢;rcases Nat.lt_or_ge i v.length with h2|h2
 rotate_left
 ·have e1:=ltF h2
  have:i=v.length:=by omega
  subst this;refine goI a8D e1 trivial trivial trivial trivial trivial trivial ?_;subst hL;exact ⟨_,b7Y (b3T b8n rfl),IsPure.out,by rw [h0];rfl⟩
 have e1:=ltT h2;have wi:=wiI (i:=i) (by omega);obtain ⟨l,hl2⟩:=a1I h2;have hm:(v.map fun l=>(a1O l).D)[i]? = some (a1O l).D:=by rw [List.getElem?_map,hl2];rfl
 have hc:=a3W k3 l (List.mem_of_getElem? hl2);have hx:=b2h hc (hv4 l (List.mem_of_getElem? hl2));have hxn:=a6l hc (hv4 l (List.mem_of_getElem? hl2));have hsn:((a3v r v (i+1)).map fun l=>str (sb l))=L++[str (sb (txt (a2L r v i)))]:=by rw [hL,b4m,List.map_append];rfl
 have hLl:L.length≤i:=by
  rw [hL];unfold a3v;rw [List.length_map,List.length_map,List.length_range];exact Nat.le_refl _
 have hp:=b4k (r:=r) (k:=i) (by omega);have hE2:=hE _ (List.mem_of_getElem? hp);have h42:=hr4 _ (List.mem_of_getElem? hp);have hm2:(r.map fun p=>a3n p.1 p.2)[i]? = some (a3n (pv r i).1 (pv r i).2):=by rw [List.getElem?_map,hp];rfl
 have hla:a2L r v i=a6G (pv r i).1 (pv r i).2 (a0j l):=by unfold a2L;rw [d3r hl2]
 have cl:=c3r (pv r i).1 (pv r i).2 _ _ 3 (by decide) hx (a6W hE2.1 h42.1) (a6W hE2.2 h42.2);have hfr:=b5z hx (a6W hE2.1 h42.1) (a6W hE2.2 h42.2);have hbig:=b4c (b7O hxn (b4L hE2.1 h42.1) (b4L hE2.2 h42.2));have cg:=c0S hfr (by decide);unfold b6z b5S at cg;rw [hbig,if_neg (by decide),if_neg (by decide)] at cg;rw [hla] at hsn;have z0:(((0:Nat):Int) != 0)=false:=rfl;clear hL hfr hbig hla;generalize b3c (pv r i).1 (pv r i).2 (a0j l) (a1O l)=lf at *;generalize txt (a6G (pv r i).1 (pv r i).2 (a0j l))=tx at *;rcases L with _|⟨x,L⟩
 all_goals
  (try simp only [List.length_cons] at hLl)
  dsimp only [a4d,a4a,a3k,a3g,List.nil_append]
 ·refine goI a8D (ff4 e1 wi z0 kN) hm hm1 hm2 cl cg trivial ?_
  exact ⟨(i+1,[str (sb tx)],_,_),⟨h2,hsn.symm⟩,by dsimp only;omega,wkI⟩
 ·have htk:List.take (L.length+1) (x::L)=x::L:=by simp
  refine goI a8D (ff5 e1 wi z0 htk kN) hm hm1 hm2 cl cg trivial ?_;exact ⟨(i+1,x::L++[str (sb tx)],_,_),⟨h2,hsn.symm⟩,by dsimp only;omega,by (dsimp only;rw [a3Q];exact wkI)⟩
abbrev a6o:Dr:=[(11,[0,1,2,3,4,5,6,7,8,9,10,11,12,13,14,15,16,17,18,19,20],[21]),(12,[0,1,2,3,4,5,6],[7,8])]
open Go.Proofs Go.RowKit
set_option maxRecDepth 20000
set_option maxHeartbeats 4000000
theorem a3L (a:Rat):a5S a = -((-a).floor):=by unfold a5S;rw [Rat.floor_def]
theorem c6w {a:Rat}{k:Nat}(h:rk a k)(hk:1≤k):rk (a5S a:Rat) k:=by
 unfold rk;rw [Rat.num_intCast,Rat.den_intCast,a3L,Int.natAbs_neg];exact ⟨a8p (b2T h),Nat.le_trans (a0N (n:=1) (k:=1) (by decide)) hk⟩
theorem b5m {a:Rat}{x:GF}{k:Nat}(h:FR a x k)(hk:1≤k):FR (a5S a:Rat) ⟨b1Q x,1⟩ k:=by
 refine ⟨⟨a0H _,?_,(Rat.den_intCast _).symm⟩,c6w h.rk hk⟩;show (b1Q x).z=_;unfold b1Q;rw [a2s,(b2s (b3v h.is)).2,Rat.num_intCast,a3L]
def d1O (L st pr:GF):GF:=c2s ⟨b1Q (c7w L st),1⟩ pr
theorem c2R {L st pr:Rat}{x y z:GF}(hx:FR L x 7)(hy:FR st y 3)(h0:st≠0)(hz:FR pr z 3):FR (a7u L st pr) (d1O x y z) 13:=b9O (b5m (b8m hx hy h0) (by decide)) hz
def a7g (r:List LP)(v:List (List UInt8))(q:a0t):Rat:=a7u (a2L r v q.fac.toNat) (a0j q.step) (a0j q.price)
def a8l (f:a0t→Rat)(l:List a0t)(i:Nat):Rat:=(l.take i).foldl (fun S q=>S+f q) 0
theorem b0o {f:a0t→Rat}{l:List a0t}{i:Nat}{q:a0t}(h:l[i]? = some q):a8l f l (i+1)=a8l f l i+f q:=by
 unfold a8l;rw [List.take_add_one,h,Option.toList_some,List.foldl_append];rfl
def a1E (s:a1y)(g:Int)(v:List (List UInt8))(l:List a0t):Rat:=a8l (a7g (a9i (a0Q s) g.toNat) v) l l.length
def a9o (s:a1y)(g:Int)(v:List (List UInt8))(l:List a0t):Nat:=if b1w s g v=0 then a1c s.fs.length l else b1w s g v
def c1q (s:a1y)(g:Int)(v:List (List UInt8))(l:List a0t):List UInt8:=if a9o s g v l=0 then b6z (a1E s g v l) else []
def c2i (s:a1y)(g:Int)(v:List (List UInt8))(l:List a0t):Nat:=if a9o s g v l=0 then b5S (a1E s g v l) else a9o s g v l
theorem a1x {n:Nat}{l:List a0t}(h:a1c n l=0):l.length≤256∧∀ q∈l,a1X n q=0:=by
 unfold a1c at h;split at h
 ·cases h
 ·exact ⟨by omega,b8U h⟩
theorem c5z {r:List LP}{v:List (List UInt8)}{k:Nat}(hk:k<r.length)(hE:∀ p∈r,a2z p.1=0∧a2z p.2=0)(h4:d1R r)(hc:chk (lv v k)=0)(hv:(lv v k).length≤40):FR (a2L r v k) (b3c (pv r k).1 (pv r k).2 (a0j (lv v k)) (a1O (lv v k))) 7:=by
 have hp:=b4k hk;have hE2:=hE _ (List.mem_of_getElem? hp);have h42:=h4 _ (List.mem_of_getElem? hp);exact b5z (b2h hc hv) (a6W hE2.1 h42.1) (a6W hE2.2 h42.2)
theorem d4c (s:a1y)(hs:s.few)(h4:G40 s)(g:Int)(b:Bool)(v:List (List UInt8))(hf:Few v)(hv4:S40 v)(l:List a0t)(hl:l.length≤9223372036854775807)(hl4:b4u l):a0b C0 18 [s.D,i64 g,txD b v,.sl false 3 (l.map a0t.D)] (.tup [str (sb (c1q s g v l)),i64 (c2i s g v l:Nat)]):=by
 refine a0c.walk w1 c7T rfl fun F=>?_
 have c1:=b2t s hs g b v hf;have hok:=@b9e s g v;have h1:c1q s g v l=if a9o s g v l=0 then b6z (a1E s g v l) else []:=rfl
 have h2:c2i s g v l=if a9o s g v l=0 then b5S (a1E s g v l) else a9o s g v l:=rfl
 have h3:a9o s g v l=if b1w s g v=0 then a1c s.fs.length l else b1w s g v:=rfl
 have h5:a1E s g v l=a8l (a7g (a9i (a0Q s) g.toNat) v) l l.length:=rfl;have el2:(((l.map a0t.D).length:Nat):Int)=(l.length:Int):=by rw [List.length_map]
 rw [h1,h2,h5];obtain ⟨E,hD⟩:∃ q,a9o s g v l=q:=⟨_,rfl⟩
 obtain ⟨q,hq⟩:∃ q,b1w s g v=q:=⟨_,rfl⟩
 rw [hD,hq] at h3;rw [hD];rw [hq] at c1 hok;clear h1 h2 h5;unfold a1y.D at c1 ⊢;rcases Nat.decEq q 0 with h0|h0
 ·have e0:=b3s h0
  obtain ⟨x,y,ho⟩:=b2c s;rw [ho] at c1;rw [if_neg h0] at h3;rw [h3,if_neg h0,if_neg h0];refine goI a6o e0 c1 trivial trivial trivial trivial trivial ?_;exact a0a rfl IsPure.out
 have e0:=b6X h0;obtain ⟨k0,k1,k2,k3⟩:=hok h0;obtain ⟨gn,rfl,hgn⟩:=a3q k1;have hd:a7k s=b6p s.fs.length (a0Q s):=if_pos k0;have hd2:c2x q v=frD v:=if_pos h0;have hG:=b0P (a2k k0);have hG4:=b9D h4;have h8:=(a2k k0).1;have hgl:=b0A s;rw [if_pos h0] at h3;rw [hd,hd2] at c1;rw [Int.toNat_natCast];clear hd hd2;obtain ⟨G,hGG⟩:∃ A,a0Q s=A:=⟨_,rfl⟩
 obtain ⟨n,hn⟩:∃ A,s.fs.length=A:=⟨_,rfl⟩
 rw [hGG] at c1 hG hgl hG4 ⊢;rw [hn] at c1 hG h8 k2 h3;have hlen:=hG.len;have c2:=b0Q n G l hl hl4;rw [← h3] at c2;rcases Nat.decEq E 0 with hD0|hD0
 ·have e1:=b3s hD0
  rw [if_neg hD0,if_neg hD0];refine goI a6o (ff2 e0 e1) c1 c2 trivial trivial trivial trivial ?_;exact a0a rfl IsPure.out
 have e1:=b6X hD0;rw [hD0] at h3;obtain ⟨hl256,hlz⟩:=a1x h3.symm;rw [if_pos hD0,if_pos hD0];have el:(((v.map fun l=>(a1O l).D).length:Nat):Int)=(v.length:Int):=by rw [List.length_map]
 have hr1:=b0g (G:=G) (g:=gn) (by omega);obtain ⟨r,hr⟩:∃ r,a9i G gn=r:=⟨_,rfl⟩
 rw [hr] at hr1 ⊢;have hm1:(G.map b5q)[gn]? = some (.sl false 10 (r.map fun p=>a3n p.1 p.2)):=by rw [List.getElem?_map,hr1];rfl
 obtain ⟨hrl,hE⟩:=hG.row r (List.mem_of_getElem? hr1);have hr4:=hG4 r (List.mem_of_getElem? hr1);have hkz:=a3W k3;have hz:=c0n 1 (by decide);have hz0:=d4U;obtain ⟨Z,hZ⟩:∃ Z:GF,⟨mkG 0,1⟩=Z:=⟨_,rfl⟩
 rw [hZ] at hz hz0;unfold frD at c1;refine goI a6o (ff3 e0 e1 el2) c1 c2 hz0 trivial trivial trivial ?_;refine OkS.loop (α:=Nat × GF × Nat) (fun p=>⟨[(1,i64 (gn:Int)),(10,.optr 108 11 2 0 0),(11,.sl false 4 (v.map fun l=>(a1O l).D)),(14,.optr 701 24 4 0 0),(36,.sl false 3 (l.map a0t.D)),(37,i64 (l.length:Int)),(38,i64 (p.1:Int))],[⟨701,24,113,4,[p.2.1.D]⟩,⟨108,11,134,2,[b6p n G]⟩],p.2.2⟩) (fun p=>l.length - p.1)
  (fun p=>p.1≤l.length∧FR (a8l (a7g r v) l p.1) p.2.1 (14*p.1+1)) (0,Z,_) ⟨Nat.zero_le _,hz⟩ wkI ?_
 rintro ⟨i,S,m⟩ F ⟨hi,hS⟩;dsimp only at hi hS ⊢;rcases Nat.lt_or_ge i l.length with h2|h2
 rotate_left
 ·have e1:=ltF h2
  have:i=l.length:=by omega
  subst this;have cg:=c0S hS (by omega);refine goI a6o e1 cg trivial trivial trivial trivial trivial ?_;exact a0a rfl IsPure.out
 have e1:=ltT h2;have wi:=wiI (i:=i) (by omega);obtain ⟨w,hw⟩:=a1I h2;have hm:(l.map a0t.D)[i]? = some (.agg [i64 w.fac,str (sb w.step),str (sb w.price)]):=by rw [List.getElem?_map,hw];rfl
 obtain ⟨z1,z2,z3,z4,z5⟩:=a2b (hlz w (List.mem_of_getElem? hw));obtain ⟨f1,f2⟩:=hl4 w (List.mem_of_getElem? hw);obtain ⟨k,hk,hkn⟩:=a3q z1;have hvl:v[k]? = some (lv v k):=a5v (by omega);have hcv:=hkz _ (List.mem_of_getElem? hvl);have hv40:=hv4 _ (List.mem_of_getElem? hvl);have hp:=b4k (r:=r) (k:=k) (by omega);have hE2:=hE _ (List.mem_of_getElem? hp);have h42:=hr4 _ (List.mem_of_getElem? hp);have hm2:(r.map fun p=>a3n p.1 p.2)[k]? = some (a3n (pv r k).1 (pv r k).2):=by rw [List.getElem?_map,hp];rfl
 have hm3:(v.map fun l=>(a1O l).D)[k]? = some (a1O (lv v k)).D:=by rw [List.getElem?_map,hvl];rfl
 have hLf:=c5z (k:=k) (by omega) hE hr4 hcv hv40;have d1:=c3r (pv r k).1 (pv r k).2 _ _ 3 (by decide) (b2h hcv hv40) (a6W hE2.1 h42.1) (a6W hE2.2 h42.2);have d2:=a7h (l:=w.step) (by omega) z2;have hst:=b2h z2 f1;have hst0:=c0J z3;have d3:=d0f hLf hst hst0 (by decide);have hdf:=b8m hLf hst hst0;have d4:=c5I hdf (by decide);have d5:=b3A (b1Q (c7w (b3c (pv r k).1 (pv r k).2 (a0j (lv v k)) (a1O (lv v k))) (a1O w.step)));have d6:=a7h (l:=w.price) (by omega) z4;have hpr:=b2h z4 f2;have d7:=c4b (b5m hdf (by decide)) hpr (by decide);have hT:=c2R hLf hst hst0 hpr;have d8:=c3x hS hT (by omega);have hS':=b7B hS hT;have hsn:a8l (a7g r v) l (i+1)=a8l (a7g r v) l i+a7u (a2L r v k) (a0j w.step) (a0j w.price):=by
  rw [b0o hw];unfold a7g;rw [hk,Int.toNat_natCast]
 rw [← hsn] at hS';rw [hk] at hm;unfold d1O at d8 hS';generalize b3c (pv r k).1 (pv r k).2 (a0j (lv v k)) (a1O (lv v k))=B1 at *;generalize a1O w.step=B2 at *;generalize a1O w.price=B3 at *;generalize a1O (lv v k)=B4 at *;generalize c7w B1 B2=B5 at *;generalize b1Q B5=B6 at *;generalize hB7:(⟨B6,1⟩:GF)=B7 at *;generalize c2s B7 B3=B8 at *;generalize c2N S B8=B9 at *;refine goI a6o (ff3 e1 wi kN) hm hm1 hm2 hm3 d1 d2 ?_;refine goI a6o (ff3 e1 wi kN) d3 d4 d5 d6 d7 d8 ?_;exact ⟨(i+1,B9,_),⟨h2,hS'.mono (by omega)⟩,by dsimp only;omega,wkI⟩
def d5r (g:a1q)(n:Nat):Prop:=∀ k,k<n→¬ (lv g.least k≠[]∧lv g.most k≠[]∧a2J (a0j (lv g.least k)) (a0j (lv g.most k))>0)
theorem c6u {s:a1y}(h:a0n s=0){i:Nat}(hi:i<s.gs.length):d5r (s.gs.getD i default) s.fs.length:=fun k hk q=>by
 have h1:=a6Y (a7f h i hi) k hk;unfold a0Y at h1;split at h1
 ·rename_i w;exact absurd h1 w
 ·split at h1
  ·rename_i w;exact absurd h1 w
  ·exact absurd h1 (by decide)
def b3l (g:a1q)(v:List (List UInt8))(k:Nat):Rat:=a6G (lv g.least k) (lv g.most k) (a0j (lv v k))
def b6h (g:a1q)(v:List (List UInt8))(l:List a0t)(i:Nat):Rat:=a8l (fun q=>a7u (b3l g v q.fac.toNat) (a0j q.step) (a0j q.price)) l i
abbrev a3D:Dr:=[(6,[0,1,2,3,4,5,6,7,8,9,10,11,12,13,14],[15,16])]
open Go.Proofs Go.RowKit
set_option maxRecDepth 20000
set_option maxHeartbeats 8000000
theorem d0o (s:a1y)(l:List a0t)(hl:l.length≤9223372036854775807)(hf:b4u l):a0b C0 25 [s.D,.sl false 3 (l.map a0t.D)] (i64 (a1c s.fs.length l:Nat)):=by
 refine a0c.walk w1 d3A rfl fun F=>?_
 have el:(((l.map a0t.D).length:Nat):Int)=(l.length:Int):=by rw [List.length_map]
 have el1:(((s.fs.map a1G.D).length:Nat):Int)=(s.fs.length:Int):=by rw [List.length_map]
 unfold a1y.D;generalize s.fs.length=n at *;generalize s.fs.map a1G.D=fsD at *
 by_cases h1:256<l.length
 ·have e1:decide ((l.length:Int)>256)=true:=decide_eq_true (by omega)
  have hv:a1c n l=5:=if_pos h1;rw [hv];refine goI a3D (ff2 el e1) trivial trivial trivial trivial trivial trivial ?_;exact a0a rfl IsPure.out
 have e1:decide ((l.length:Int)>256)=false:=decide_eq_false (by omega);have hv:a1c n l=b8d (a1X n) l:=if_neg h1;rw [hv];refine goI a3D (ff2 el e1) trivial trivial trivial trivial trivial trivial ?_;refine OkS.loop (α:=Nat × Nat) (fun p=>⟨[(1,.sl false 3 (l.map a0t.D)),(2,.optr 0 0 2 0 0),(5,i64 (p.1:Int))],[⟨0,0,39,2,[.agg [.sl false 4 fsD,.sl false 3 (s.gs.map a1q.D)]]⟩],p.2⟩) (fun p=>l.length - p.1)
  (fun p=>p.1≤l.length∧∀ (j:Nat) (r:a0t),j<p.1→l[j]? = some r→a1X n r=0) (0,_) ⟨Nat.zero_le _,fun j r hj=>absurd hj (Nat.not_lt_zero j)⟩ wkI ?_
 rintro ⟨i,m⟩ F ⟨hi,ha⟩;dsimp only at hi ha ⊢;rcases Nat.lt_or_ge i l.length with h2|h2
 rotate_left
 ·have e2:=ltF h2
  have:i=l.length:=by omega
  subst this;rw [b1g ha];refine goI a3D (ff2 e2 el) trivial trivial trivial trivial trivial trivial ?_;exact a0a rfl IsPure.out
 have e2:=ltT h2;have wi:=wiI (i:=i) (by omega);obtain ⟨r,hr⟩:=a1I h2;obtain ⟨f1,f2⟩:=hf r (List.mem_of_getElem? hr);have hm:(l.map a0t.D)[i]? = some (.agg [i64 r.fac,str (sb r.step),str (sb r.price)]):=by rw [List.getElem?_map,hr];rfl
 have c2:=a8d r.step (by omega);have c3:=a8d r.price (by omega);have hat:=fun h=>b9j (f:=a1X n) ha hr h
 have hq:a1X n r=if unk r.fac n≠0 then unk r.fac n else if chk r.step≠0 then chk r.step else if a3r (a0j r.step)≤0 then 3 else if chk r.price≠0 then chk r.price else if a3r (a0j r.price)<0 then 3 else 0:=rfl
 have s1:chk r.step=0→a0b C0 78 [str (sb r.step)] (i64 (a3r (a0j r.step))):=fun h=>b0G h
 have s2:chk r.price=0→a0b C0 78 [str (sb r.price)] (i64 (a3r (a0j r.price))):=fun h=>b0G h
 generalize chk r.step=K1 at *;generalize chk r.price=K2 at *;generalize a3r (a0j r.step)=S1 at *;generalize a3r (a0j r.price)=S2 at *;obtain ⟨Q,hQ⟩:∃ Q,a1X n r=Q:=⟨_,rfl⟩
 rw [hQ] at hq hat;have z3:((3:Int)==0)=false:=rfl;have z4:((3:Int) != 0)=true:=rfl
 by_cases g1:r.fac<0
 ·have e3:decide (r.fac<0)=true:=decide_eq_true g1
  rw [d2z g1,if_pos (by decide)] at hq;rw [hat (by omega),hq];refine goI a3D (ff4 e2 el e3 kN) hm trivial trivial trivial trivial trivial ?_;exact a0a rfl IsPure.out
 have e3:decide (r.fac<0)=false:=decide_eq_false g1
 by_cases g2:(n:Int)≤r.fac
 ·have e4:decide (r.fac≥(n:Int))=true:=decide_eq_true g2
  rw [d2H g2,if_pos (by decide)] at hq;rw [hat (by omega),hq];refine goI a3D (ff6 e2 el el1 e3 e4 kN) hm trivial trivial trivial trivial trivial ?_;exact a0a rfl IsPure.out
 have e4:decide (r.fac≥(n:Int))=false:=decide_eq_false g2;rw [c8E g1 g2,if_neg (by decide)] at hq;rcases Nat.decEq K1 0 with h4|h4
 ·have e5:=d0K h4
  have e6:=b3s h4;rw [if_pos h4] at hq;rw [hat (by omega),hq];refine goI a3D (ff7 e2 el el1 e3 e4 e5 (ff2 e6 kN)) hm c2 trivial trivial trivial trivial ?_;exact a0a rfl IsPure.out
 have e5:=d2G h4;rw [if_neg (fun k=>k h4)] at hq;have s1:=s1 h4
 by_cases h5:S1≤0
 ·have e6:decide (S1≤0)=true:=decide_eq_true h5
  rw [if_pos h5] at hq;rw [hat (by omega),hq];refine goI a3D (ff7 e2 el el1 e3 e4 e5 (ff4 e6 z3 z4 kN)) hm c2 s1 trivial trivial trivial ?_;exact a0a rfl IsPure.out
 have e6:decide (S1≤0)=false:=decide_eq_false h5;rw [if_neg h5] at hq;rcases Nat.decEq K2 0 with h6|h6
 ·have e7:=d0K h6
  have e8:=b3s h6;rw [if_pos h6] at hq;rw [hat (by omega),hq];refine goI a3D (ff7 e2 el el1 e3 e4 e5 (ff4 e6 e7 e8 kN)) hm c2 s1 c3 trivial trivial ?_;exact a0a rfl IsPure.out
 have e7:=d2G h6;have e8:=b6X h6;rw [if_neg (fun k=>k h6)] at hq;have s2:=s2 h6
 by_cases h7:S2<0
 ·have e9:decide (S2<0)=true:=decide_eq_true h7
  rw [if_pos h7] at hq;rw [hat (by omega),hq];refine goI a3D (ff7 e2 el el1 e3 e4 e5 (ff6 e6 e7 e9 z3 z4 kN)) hm c2 s1 c3 s2 trivial ?_;exact a0a rfl IsPure.out
 have e9:decide (S2<0)=false:=decide_eq_false h7;rw [if_neg h7] at hq;refine goI a3D (ff7 e2 el el1 e3 e4 e5 (ff6 e6 e7 e8 e9 wi kN)) hm c2 s1 c3 s2 trivial ?_;exact ⟨(i+1,_),⟨h2,a5D hr ha (hQ.trans hq)⟩,by dsimp only;omega,wkI⟩
theorem c1s {s:a1y}(h:a7b s=true):G40 s:=fun g hg=>by
 simp only [a7b,Bool.and_eq_true,decide_eq_true_eq,List.all_eq_true] at h
 have:=h.2 g hg
 simp only [a6P,Bool.and_eq_true,decide_eq_true_eq] at this;exact ⟨a6H this.1.2,a6H this.2⟩
theorem c2G {x:b5O}(h:b1L x=true):Few x.vals∧S40 x.vals∧b4u x.rates:=by
 unfold b1L at h;simp only [Bool.and_eq_true,decide_eq_true_eq] at h;have h4:=a6H h.2.2.1;refine ⟨⟨by omega,fun l hl=>Nat.le_trans (h4 l hl) (by decide)⟩,h4,fun r hr=>?_⟩
 have:=a6H (List.all_eq_true.1 h.1 r hr)
 exact ⟨this r.step (by simp),this r.price (by simp)⟩
theorem a8w {s:a1y}(h:a0n s=0){i k:Nat}(hi:i<s.gs.length)(hk:k<s.fs.length)(v:List (List UInt8)):a2L (a9i (a0Q s) i) v k=b3l (s.gs.getD i default) v k:=by
 have hok:=a2k h;unfold a2L b3l;rw [c0H hi,d2e (d0P hok hi) hk]
theorem a8G {f g:a0t→Rat}{l:List a0t}(h:∀ q∈l,f q=g q)(S:Rat):l.foldl (fun S q=>S+f q) S=l.foldl (fun S q=>S+g q) S:=by
 induction l generalizing S with
 | nil=>rfl
 | cons a r ih =>
  rw [List.foldl_cons,List.foldl_cons,h a List.mem_cons_self];exact ih (fun q hq=>h q (List.mem_cons_of_mem _ hq)) _
theorem c1R {s:a1y}(h:a0n s=0){i:Nat}(hi:i<s.gs.length)(v:List (List UInt8)){l:List a0t}(hl:a1c s.fs.length l=0):a1E s i v l=b6h (s.gs.getD i default) v l l.length:=by
 unfold a1E b6h a8l;refine a8G (fun q hq=>?_) 0;obtain ⟨z1,-⟩:=a2b ((a1x hl).2 q (List.mem_of_mem_take hq));obtain ⟨k,hk,hkn⟩:=a3q z1;unfold a7g;rw [hk,Int.toNat_natCast,Int.toNat_natCast,a8w h hi hkn]
theorem b4R {g:a1q}{v:List (List UInt8)}{n:Nat}{l:List a0t}(hg:gOk n g)(h1:S40 g.least)(h2:S40 g.most)(hn:v.length=n)(hc:a1K v=0)(hv4:S40 v)(hz:a1c n l=0)(hf:b4u l):∀ i,i≤l.length→nb (b6h g v l i) (i*(2*(E40*E40*E40*E40))*E40^i) (E40^i)
 | 0,_=>b9d.mono (Nat.zero_le _) (Nat.le_of_eq (Nat.pow_zero _).symm)
 | i+1,hi=>by
  obtain ⟨w,hw⟩:=a1I (l:=l) (i:=i) (by omega);have ih:=b4R hg h1 h2 hn hc hv4 hz hf i (by omega);obtain ⟨z1,z2,z3,z4,z5⟩:=a2b ((a1x hz).2 w (List.mem_of_getElem? hw));obtain ⟨f1,f2⟩:=hf w (List.mem_of_getElem? hw);obtain ⟨k,hk,hkn⟩:=a3q z1;have hvl:v[k]? = some (lv v k):=a5v (by omega);have hE:=hg.2.2 k hkn;have hL:nb (b3l g v k) (2*(E40*E40)) (E40*E40):=b7O (a6l (a3W hc _ (List.mem_of_getElem? hvl)) (hv4 _ (List.mem_of_getElem? hvl))) (b4L hE.1 (d1C h1 k)) (b4L hE.2 (d1C h2 k));have e:b6h g v l (i+1)=b6h g v l i+a7u (b3l g v k) (a0j w.step) (a0j w.price):=by
   unfold b6h;rw [b0o hw,hk,Int.toNat_natCast]
  rw [e];exact c7k ih (c7f hL (a6l z2 f1) (c0J z3) (a6l z4 f2))
def t12 (l:List UInt8):Bool:=decide (l.length≤12)
def f12 (f:a1G):Bool:=t12 f.tol&&t12 f.step
def g12 (g:a1q):Bool:=g.least.all t12&&g.most.all t12
def c2w (s:a1y):Bool:=s.fs.all f12&&(s.gs.all g12&&decide (a0n s=0))
theorem d2A {l:List UInt8}{b:Bool}(h:t12 l=b):decide (((sb l).size:Int)>12) = !b:=by
 rw [a0u,← h];exact a9y (b:=12)
theorem d4t (s:a1y)(hs:s.few):a0b C0 27 [s.D] (boo (c2w s)):=by
 refine a0c.walk w1 d3l rfl fun F=>?_
 have el1:(((s.fs.map a1G.D).length:Nat):Int)=(s.fs.length:Int):=by rw [List.length_map]
 have el2:(((s.gs.map a1q.D).length:Nat):Int)=(s.gs.length:Int):=by rw [List.length_map]
 have c1:=d5Y s hs;have l1:=hs.1;have l2:=hs.2.1;have hgf:=hs.2.2.2;have hq:c2w s=(s.fs.all f12&&(s.gs.all g12&&decide (a0n s=0))):=rfl;rw [hq];unfold a1y.D at c1 ⊢;refine goI dr0 kB trivial trivial trivial trivial trivial trivial ?_;refine OkS.loop (α:=Nat × Nat) (fun p=>⟨[(1,.optr 0 0 2 0 0),(3,i64 (p.1:Int))],[⟨0,0,39,2,[.agg [.sl false 4 (s.fs.map a1G.D),.sl false 3 (s.gs.map a1q.D)]]⟩],p.2⟩) (fun p=>s.fs.length - p.1) (fun p=>p.1≤s.fs.length∧(s.fs.take p.1).all f12=true) (0,_) ⟨Nat.zero_le _,rfl⟩ wkI ?_;rintro ⟨i,m⟩ F ⟨hi,ha⟩;dsimp only at hi ha ⊢;rcases Nat.lt_or_ge i s.fs.length with h2|h2
 ·have e1:=ltT h2
  have wi:=wiI (i:=i) (by omega);obtain ⟨x,hx⟩:=a1I h2;have hm:(s.fs.map a1G.D)[i]? = some (.agg [str (sb x.name),str (sb x.tol),str (sb x.kind),str (sb x.step)]):=by rw [List.getElem?_map,hx];rfl
  obtain ⟨p,hp⟩:∃ b,t12 x.tol=b:=⟨_,rfl⟩
  obtain ⟨q,hq⟩:∃ b,t12 x.step=b:=⟨_,rfl⟩
  have e2:=d2A hp;have e3:=d2A hq;have hf:f12 x=(p&&q):=by unfold f12;rw [hp,hq]
  cases p
  ·rw [a2m hx hf,Bool.false_and]
   refine goI dr0 (ff4 e1 e2 el1 kN) hm trivial trivial trivial trivial trivial ?_;exact a0a rfl IsPure.out
  cases q
  ·rw [a2m hx hf,Bool.false_and]
   refine goI dr0 (ff5 e1 e2 e3 el1 kN) hm trivial trivial trivial trivial trivial ?_;exact a0a rfl IsPure.out
  ·refine goI dr0 (ff6 e1 e2 e3 el1 wi kN) hm trivial trivial trivial trivial trivial ?_
   exact ⟨(i+1,_),⟨h2,a3o hx ha hf⟩,by dsimp only;omega,wkI⟩
 have e1:=ltF h2
 have:i=s.fs.length:=by omega
 subst this;rw [List.take_length] at ha;rw [ha,Bool.true_and];refine goI dr0 (ff2 e1 el1) trivial trivial trivial trivial trivial trivial ?_;refine OkS.loop (α:=Nat × Nat) (fun p=>⟨[(1,.optr 0 0 2 0 0),(4,i64 (p.1:Int))],[⟨0,0,39,2,[.agg [.sl false 4 (s.fs.map a1G.D),.sl false 3 (s.gs.map a1q.D)]]⟩],p.2⟩) (fun p=>s.gs.length - p.1) (fun p=>p.1≤s.gs.length∧(s.gs.take p.1).all g12=true) (0,_) ⟨Nat.zero_le _,rfl⟩ wkI ?_;clear m ha h2 hi e1;rintro ⟨i,m⟩ F ⟨hi,ha⟩;dsimp only at hi ha ⊢;rcases Nat.lt_or_ge i s.gs.length with h2|h2
 rotate_left
 ·have e1:=ltF h2
  have:i=s.gs.length:=by omega
  subst this;rw [List.take_length] at ha;rw [ha,Bool.true_and];rcases Nat.decEq (a0n s) 0 with h|h
  ·have e2:=d0K h
   refine goI dr0 (ff3 e1 e2 el2) c1 trivial trivial trivial trivial trivial ?_;exact a0a (by rw [decide_eq_false h]) IsPure.out
  ·have e2:=d2G h
   refine goI dr0 (ff3 e1 e2 el2) c1 trivial trivial trivial trivial trivial ?_;exact a0a (by rw [decide_eq_true h]) IsPure.out
 have e1:=ltT h2;have wi:=wiI (i:=i) (by omega);obtain ⟨x,hx⟩:=a1I h2;have hm:(s.gs.map a1q.D)[i]? = some (.agg [str (sb x.name),.sl false 1 (x.least.map fun l=>str (sb l)),.sl false 1 (x.most.map fun l=>str (sb l))]):=by rw [List.getElem?_map,hx];rfl
 have hxf:=hgf x (List.mem_of_getElem? hx);have l3:=hxf.2.1;have l4:=hxf.2.2.1;have el3:(((x.least.map fun l=>str (sb l)).length:Nat):Int)=(x.least.length:Int):=by rw [List.length_map]
 have el4:(((x.most.map fun l=>str (sb l)).length:Nat):Int)=(x.most.length:Int):=by rw [List.length_map]
 refine goI dr0 (ff2 e1 el2) trivial trivial trivial trivial trivial trivial ?_;refine OkS.loop (α:=Nat × Nat) (fun p=>⟨[(1,.optr 0 0 2 0 0),(4,i64 (i:Int)),(5,i64 (p.1:Int))],[⟨0,0,39,2,[.agg [.sl false 4 (s.fs.map a1G.D),.sl false 3 (s.gs.map a1q.D)]]⟩],p.2⟩) (fun p=>x.least.length - p.1) (fun p=>p.1≤x.least.length∧(x.least.take p.1).all t12=true) (0,_) ⟨Nat.zero_le _,rfl⟩ wkI ?_;rintro ⟨j,m2⟩ F ⟨hj,hb⟩;dsimp only at hj hb ⊢;rcases Nat.lt_or_ge j x.least.length with h3|h3
 ·have e2:=ltT h3
  have wj:=wiI (i:=j) (by omega);obtain ⟨l,hl⟩:=a1I h3;have hm2:(x.least.map fun l=>str (sb l))[j]? = some (str (sb l)):=by rw [List.getElem?_map,hl];rfl
  obtain ⟨p,hp⟩:∃ b,t12 l=b:=⟨_,rfl⟩
  have e3:=d2A hp;cases p
  ·have:g12 x=false:=by unfold g12;rw [a2m hl hp,Bool.false_and]
   rw [a2m hx this,Bool.false_and];refine goI dr0 (ff4 e2 e3 el3 kN) hm hm2 trivial trivial trivial trivial ?_;exact a0a rfl IsPure.out
  ·refine goI dr0 (ff5 e2 e3 el3 wj kN) hm hm2 trivial trivial trivial trivial ?_
   exact ⟨(j+1,_),⟨h3,a3o hl hb hp⟩,by dsimp only;omega,wkI⟩
 have e2:=ltF h3
 have:j=x.least.length:=by omega
 subst this;rw [List.take_length] at hb;refine goI dr0 (ff3 e2 el3 kN) hm trivial trivial trivial trivial trivial ?_;refine OkS.loop (α:=Nat × Nat) (fun p=>⟨[(1,.optr 0 0 2 0 0),(4,i64 (i:Int)),(6,i64 (p.1:Int))],[⟨0,0,39,2,[.agg [.sl false 4 (s.fs.map a1G.D),.sl false 3 (s.gs.map a1q.D)]]⟩],p.2⟩) (fun p=>x.most.length - p.1) (fun p=>p.1≤x.most.length∧(x.most.take p.1).all t12=true) (0,_) ⟨Nat.zero_le _,rfl⟩ wkI ?_;rintro ⟨j,m3⟩ F ⟨hj,hc⟩;dsimp only at hj hc ⊢;rcases Nat.lt_or_ge j x.most.length with h4|h4
 ·have e2:=ltT h4
  have wj:=wiI (i:=j) (by omega);obtain ⟨l,hl⟩:=a1I h4;have hm2:(x.most.map fun l=>str (sb l))[j]? = some (str (sb l)):=by rw [List.getElem?_map,hl];rfl
  obtain ⟨p,hp⟩:∃ b,t12 l=b:=⟨_,rfl⟩
  have e3:=d2A hp;cases p
  ·have:g12 x=false:=by unfold g12;rw [hb,a2m hl hp];rfl
   rw [a2m hx this,Bool.false_and];refine goI dr0 (ff4 e2 e3 el4 kN) hm hm2 trivial trivial trivial trivial ?_;exact a0a rfl IsPure.out
  ·refine goI dr0 (ff5 e2 e3 el4 wj kN) hm hm2 trivial trivial trivial trivial ?_
   exact ⟨(j+1,_),⟨h4,a3o hl hc hp⟩,by dsimp only;omega,wkI⟩
 have e4:=ltF h4
 have:j=x.most.length:=by omega
 subst this;rw [List.take_length] at hc;have hg:g12 x=true:=by unfold g12;rw [hb,hc];rfl
 refine goI dr0 (ff4 e4 el4 wi kN) hm trivial trivial trivial trivial trivial ?_;exact ⟨(i+1,_),⟨h2,a3o hx ha hg⟩,by dsimp only;omega,wkI⟩
set_option maxHeartbeats 4000000
theorem b1S (n:Nat):a0Z (Lib.decDigits n)=true:=by
 obtain ⟨h1,h2,h3⟩:=a1o n;rcases Nat.eq_zero_or_pos n with h|h
 ·have e:Lib.decDigits n=[48]:=by
   have:=b0I 0
   rw [h];exact of_decide_eq_true (this.trans (decide_eq_true rfl))
  rw [e];rfl
 ·obtain ⟨c,l,e,hc⟩:=c2z (Nat.pos_iff_ne_zero.1 h)
  rw [e] at h1 ⊢;unfold a0Z c4T;rw [h1];simp [hc]
theorem b8y {n:Nat}{l:List UInt8}(h:n≠dv l):decide (Lib.decDigits n=l)=false:=decide_eq_false fun e=>h (by rw [← e,(a1o n).2.1])
theorem a6E {r:Rat}(h:b2F r=false):chk (txt r)=0:=by
 have hs:a0M (txt r)=Lib.decDigits r.num.natAbs:=by unfold a0M;rw [a8S,(a4R _).2]
 have hd:=a6C r;have hh:=b0X r;unfold b2F at h;simp only [Bool.or_eq_false_iff,decide_eq_false_iff_not] at h;have hb:a4b (txt r)=false:=by
  rw [a5f,hs,b1a,hh,b1S];have e1:(decide (r.num<0)&&decide (Lib.decDigits r.num.natAbs=[48]))=false:=by
   by_cases g:r.num<0
   ·rw [b8y (show r.num.natAbs≠dv [48] by show r.num.natAbs≠0;omega),Bool.and_false]
   ·rw [decide_eq_false g,Bool.false_and]
  rw [e1]
  by_cases g:r.den=1
  ·rw [decide_eq_true g];rfl
  ·rw [hd,if_neg g,b1S,b8y (show r.den≠dv [48] from r.den_nz),b8y (show r.den≠dv [49] from g),decide_eq_false g];rfl
 unfold chk;rw [hb,if_neg (by decide),hs]
 by_cases g:r.den=1
 ·rw [hd,if_pos g,hh,decide_eq_true g,if_neg (by simp;omega),if_neg (fun k=>absurd k.1 (by decide))]
 ·rw [hd,if_neg g,(a1o _).2.1,(a1o _).2.1,if_neg (by omega),if_neg (fun k=>k.2 r.reduced)]
theorem b8S (r:Rat):a0j (txt r)=r:=by
 unfold a0j b5j;rw [a8S,b9t,b0X,a6C]
 by_cases g:r.den=1
 ·rw [decide_eq_true g]
  show mkRat r.num 1=r;rw [← g];exact Rat.mkRat_self r
 ·rw [decide_eq_false g,if_neg g,(a1o _).2.1]
  exact Rat.mkRat_self r
theorem b1O {a b:Rat}(h:a≤b):a5S a≤a5S b:=by
 rw [a3L,a3L]
 have:=Rat.floor_monotone (show -b≤-a by grind)
 omega
theorem c2F {a:Rat}(h:0<a):0<a5S a:=by
 rw [a3L]
 have:(-a).floor<0:=Rat.floor_lt_iff.2 (by grind)
 omega
theorem b1Z:a5S 0=0:=by kernel_rfl
theorem c0z {a b:Rat}:a2J a b<0↔a<b:=by
 unfold a2J;split
 ·rename_i h;exact ⟨fun _=>h,fun _=>by decide⟩
 ·rename_i h
  split
  ·exact ⟨fun k=>absurd k (by decide),fun k=>absurd k h⟩
  ·exact ⟨fun k=>absurd k (by decide),fun k=>absurd k h⟩
theorem b3C {a b:Rat}:a2J a b>0↔b<a:=by
 unfold a2J;split
 ·rename_i h;exact ⟨fun k=>absurd k (by decide),fun k=>by grind⟩
 ·split
  ·rename_i h;exact ⟨fun _=>h,fun _=>by decide⟩
  ·rename_i h;exact ⟨fun k=>absurd k (by decide),fun k=>absurd k h⟩
theorem c6S {a b:Rat}:¬ a2J a b>0↔a≤b:=by rw [b3C];exact Rat.not_lt
theorem b3V (a b:List UInt8)(x:Rat):0≤a6G a b x:=by
 unfold a6G;simp only [Bool.and_eq_true,Bool.not_eq_true',decide_eq_true_eq,decide_eq_false_iff_not,c0z,b3C];split
 ·rename_i h;have:=h.2;grind
 ·split
  ·rename_i h;have:=h.2;grind
  ·exact Rat.le_refl
theorem c8k {a b:Rat}(ha:0≤a)(hb:0<b):0≤a / b:=by
 rw [Rat.div_def];exact Rat.mul_nonneg ha (Rat.le_of_lt (Rat.inv_pos.2 hb))
theorem c6a {a:Rat}(h:0≤a):0≤a5S a:=by
 have:=b1O h
 rwa [b1Z] at this
theorem c5X {L st pr:Rat}(hL:0≤L)(hs:0<st)(hp:0≤pr):0≤a7u L st pr :=
 Rat.mul_nonneg (Rat.intCast_nonneg.2 (c6a (c8k hL hs))) hp
theorem b1Y {L st pr:Rat}(hL:0≤L)(hs:0<st):a7u L st pr=0↔L=0∨pr=0:=by
 unfold a7u;constructor
 ·intro h
  by_cases g:L=0
  ·exact .inl g
  ·right
   have h1:0<L / st:=by
    rw [Rat.div_def];exact Rat.mul_pos (by grind) (Rat.inv_pos.2 hs)
   have h2:=c2F h1;have h3:((a5S (L / st):Int):Rat)≠0:=by exact_mod_cast (show a5S (L / st)≠0 by omega)
   rcases Rat.mul_eq_zero.1 h with h|h
   ·exact absurd h h3
   ·exact h
 ·rintro (h|h)
  ·rw [h,Rat.div_def,Rat.zero_mul,b1Z];exact Rat.zero_mul _
  ·rw [h,Rat.mul_zero]
theorem b8H {L M st pr:Rat}(h:L≤M)(hs:0<st)(hp:0≤pr):a7u L st pr≤a7u M st pr:=by
 unfold a7u;refine Rat.mul_le_mul_of_nonneg_right (Rat.intCast_le_intCast.2 (b1O ?_)) hp;rw [Rat.div_def,Rat.div_def];exact Rat.mul_le_mul_of_nonneg_right h (Rat.le_of_lt (Rat.inv_pos.2 hs))
theorem c1F {r:Rat}(h:0<a3r r):0<r:=by
 unfold a3r at h;refine Rat.not_le.1 fun hr=>?_
 have:=Rat.num_nonneg.2 (show 0≤-r by grind)
 rw [Rat.neg_num] at this;omega
theorem c8f {r:Rat}(h:0≤a3r r):0≤r:=by
 unfold a3r at h;exact Rat.num_nonneg.1 (by omega)
def b6E (f:a0t→Rat)(l:List a0t):Rat:=l.foldl (fun S q=>S+f q) 0
theorem a5T (f:a0t→Rat):∀ (l:List a0t) (S:Rat),l.foldl (fun S q=>S+f q) S=S+b6E f l
 | [],S=>by show S=S+0;grind
 | a::r,S=>by
  unfold b6E;rw [List.foldl_cons,List.foldl_cons,a5T f r,a5T f r (0+f a)]
  grind
theorem a6i (f:a0t→Rat)(a:a0t)(r:List a0t):b6E f (a::r)=f a+b6E f r:=by
 show (a::r).foldl (fun S q=>S+f q) 0=_;rw [List.foldl_cons,a5T];grind
theorem c1c (f:a0t→Rat)(l m:List a0t):b6E f (l++m)=b6E f l+b6E f m:=by
 show (l++m).foldl (fun S q=>S+f q) 0=_;rw [List.foldl_append,a5T];rfl
theorem c7s {f:a0t→Rat}{l:List a0t}(h:∀ q∈l,0≤f q):0≤b6E f l:=by
 induction l with
 | nil=>exact Rat.le_refl
 | cons a r ih =>
  rw [a6i];have h1:=h a List.mem_cons_self;have h2:=ih fun q hq=>h q (List.mem_cons_of_mem _ hq)
  grind
theorem b8X {f:a0t→Rat}{l:List a0t}(h:∀ q∈l,0≤f q):b6E f l=0↔∀ q∈l,f q=0:=by
 induction l with
 | nil=>exact ⟨fun _ q hq=>(List.not_mem_nil hq).elim,fun _=>rfl⟩
 | cons a r ih =>
  rw [a6i];have h1:=h a List.mem_cons_self;have h2:∀ q∈r,0≤f q:=fun q hq=>h q (List.mem_cons_of_mem _ hq)
  have h3:=c7s h2;have ih:=ih h2;constructor
  ·intro hs q hq
   rcases List.mem_cons.1 hq with rfl|hq
   ·grind
   ·exact ih.1 (by grind) q hq
  ·intro hs
   rw [hs a List.mem_cons_self,ih.2 fun q hq=>hs q (List.mem_cons_of_mem _ hq)];grind
theorem b6Y {f g:a0t→Rat}{l:List a0t}(h:∀ q∈l,f q≤g q):b6E f l≤b6E g l:=by
 induction l with
 | nil=>exact Rat.le_refl
 | cons a r ih =>
  rw [a6i,a6i];have h1:=h a List.mem_cons_self;have h2:=ih fun q hq=>h q (List.mem_cons_of_mem _ hq)
  grind
theorem a4U (s:a1y)(g:Int)(v:List (List UInt8))(l:List a0t):a1E s g v l=b6E (a7g (a9i (a0Q s) g.toNat) v) l:=by
 unfold a1E a8l b6E;rw [List.take_length]
theorem c1J {a b c d:List UInt8}(h:a7n a b c d=true)(ho:¬ (c≠[]∧d≠[]∧a2J (a0j c) (a0j d)>0))(x:Rat):a6G a b x≤a6G c d x:=by
 unfold a7n at h;unfold a6G;simp only [Bool.and_eq_true,Bool.or_eq_true,Bool.not_eq_true',decide_eq_true_eq,decide_eq_false_iff_not,c0z] at h ⊢;have hd:a2J (a0j d) (a0j b)≤0↔a0j d≤a0j b:=by rw [← c6S];omega
 rw [hd] at h;simp only [b3C] at ho ⊢;obtain ⟨h1,h2⟩:=h
 by_cases a0:a=[]<;>by_cases b0:b=[]<;>by_cases c0:c=[]<;>by_cases d0:d=[]<;>simp only [a0,b0,c0,d0,not_true_eq_false,not_false_eq_true,true_and,false_and,and_true,and_false,or_true,true_or,false_or,or_false,ne_eq,if_true,if_false] at h1 h2 ho ⊢ <;>
  (repeat' split)<;>grind
theorem b3D {s:a1y}(h:a0n s=0){i k:Nat}(hi:i+1<s.gs.length)(hk:k<s.fs.length)(v:List (List UInt8)):b3l (s.gs.getD (i+1) default) v k≤b3l (s.gs.getD i default) v k:=by
 have h1:=a6Y (a7f h (i+1) hi) k hk;unfold a1J at h1;rw [if_neg (by omega),Nat.add_sub_cancel] at h1;have h2:a7n (lv (s.gs.getD (i+1) default).least k) (lv (s.gs.getD (i+1) default).most k) (lv (s.gs.getD i default).least k) (lv (s.gs.getD i default).most k)=true:=by
  unfold a0Y at h1;split at h1
  ·rename_i q;exact absurd h1 q
  ·split at h1
   ·rename_i q;exact absurd h1 q
   ·split at h1
    ·cases h1
    ·dsimp only at h1
     split at h1
     ·assumption
     ·cases h1
 exact c1J h2 (c6u h (by omega) k hk) _
abbrev a2M:Dr:=[(4,[0,1,2,3,4,5,6,7,8,9,10,11,12,13],[14]),(5,[0,1,2,3,4,5,6,7,8,9,10,11,12,13],[14])]
open Go.Proofs Go.RowKit
set_option maxRecDepth 20000
set_option maxHeartbeats 16000000
theorem c2Q {n:Nat}{l m:List a0t}(h:a1c n l=0)(hs:∀ q∈m,q∈l)(hl:m.length≤256):a1c n m=0:=by
 unfold a1c;rw [if_neg (by omega)];exact b1g fun j q _ hq=>(a1x h).2 q (hs q (List.mem_of_getElem? hq))
theorem c1x {s:a1y}(h:a0n s=0)(h4:G40 s){i:Nat}(hi:i<s.gs.length){v:List (List UInt8)}(hn:v.length=s.fs.length)(hc:a1K v=0)(hv4:S40 v){l:List a0t}(hz:a1c s.fs.length l=0)(hf:b4u l)(h8:l.length≤8):b2F (a1E s (i:Int) v l)=false:=by
 have hok:=a2k h;have h4':=h4 _ (List.mem_of_getElem? (a2Z hi));rw [c1R h hi v hz];exact b6m h8 (b4R (d0P hok hi) h4'.1 h4'.2 hn hc hv4 hz hf l.length (Nat.le_refl _))
def a7m (s:a1y)(g:Nat)(v:List (List UInt8))(q:a0t):Bool:=decide (a2L (a9i (a0Q s) g) v q.fac.toNat=0)||decide (a0j q.price=0)
theorem b0Z {n:Nat}{q:a0t}(h:a1X n q=0):0<a0j q.step∧0≤a0j q.price:=by
 obtain ⟨-,-,h3,-,h5⟩:=a2b h;exact ⟨c1F h3,c8f h5⟩
theorem b8i {s:a1y}{g:Nat}{v:List (List UInt8)}{l:List a0t}(h:a1c s.fs.length l=0):decide (a1E s (g:Int) v l=0)=l.all (a7m s g v):=by
 have hz:=(a1x h).2;rw [Bool.eq_iff_iff,decide_eq_true_eq,a4U,Int.toNat_natCast,b8X fun q hq=>?_]
 ·constructor
  ·refine fun hs=>List.all_eq_true.2 fun q hq=>?_
   unfold a7m;rw [Bool.or_eq_true,decide_eq_true_eq,decide_eq_true_eq];exact (b1Y (b3V _ _ _) (b0Z (hz q hq)).1).1 (hs q hq)
  ·intro hs q hq
   have:=List.all_eq_true.1 hs q hq
   unfold a7m at this;rw [Bool.or_eq_true,decide_eq_true_eq,decide_eq_true_eq] at this;exact (b1Y (b3V _ _ _) (b0Z (hz q hq)).1).2 this
 ·obtain ⟨h1,h2⟩:=b0Z (hz q hq)
  exact c5X (b3V _ _ _) h1 h2
theorem b4r {s:a1y}(h:a0n s=0){i:Nat}(hi:i+1<s.gs.length)(v:List (List UInt8)){l:List a0t}(hl:a1c s.fs.length l=0):a1E s ((i+1:Nat):Int) v l≤a1E s (i:Int) v l:=by
 rw [a4U,a4U,Int.toNat_natCast,Int.toNat_natCast];refine b6Y fun q hq=>?_
 have hz:=(a1x hl).2 q hq;obtain ⟨k,hk,hkn⟩:=a3q (a2b hz).1;obtain ⟨h1,h2⟩:=b0Z hz;refine b8H ?_ h1 h2;rw [hk,Int.toNat_natCast,a8w h hi hkn,a8w h (by omega) hkn];exact b3D h hi hkn v
theorem b4g (r:Rat):a1s (sb (txt r)) ⟨#[48]⟩=decide (r=0):=by
 have:=a5g (txt r) [48]
 rw [show sb [48]=⟨#[48]⟩ from rfl,b0I] at this;rw [this];exact decide_eq_decide.2 Rat.num_eq_zero
theorem b5w {r:Rat}(h:b2F r=false):rk r 600:=by
 have:=b2j (a6E h)
 rwa [b8S] at this
theorem d1I (ha:a0b C0 10 [] (boo true))(s:a1y)(hs:s.fit)(x:b5O)(hx:x.fit)(c:Int)(hc0:0≤c)(hc:c<256):a0b C0 6 [s.D,x.D,.prim (.int .u8 c)] (boo true):=by
 refine a0c.walk w1 d5T rfl fun F=>?_
 have cl:=c6l s hs;have cq:=c1y x hx;have hf:=@c0r s;have h40:=@c1s s;have ha40:=@c2G x;have c1:=d4t s;obtain ⟨L,hL⟩:∃ L,a7b s=L:=⟨_,rfl⟩
 obtain ⟨A,hA⟩:∃ L,b1L x=L:=⟨_,rfl⟩
 obtain ⟨B,hB⟩:∃ L,c2w s=L:=⟨_,rfl⟩
 rw [hL] at cl hf h40;rw [hA] at cq ha40;rw [hB] at c1;have el2:(((s.gs.map a1q.D).length:Nat):Int)=(s.gs.length:Int):=by rw [List.length_map]
 have hl9:=hx.2;obtain ⟨v,hvv⟩:∃ v,x.vals=v:=⟨_,rfl⟩
 obtain ⟨g,hg⟩:∃ v,x.grade=v:=⟨_,rfl⟩
 obtain ⟨f,hff⟩:∃ v,x.factor=v:=⟨_,rfl⟩
 obtain ⟨l,hl⟩:∃ v,x.rates=v:=⟨_,rfl⟩
 have hxD:x.D=.agg [i64 g,i64 f,txD false v,.sl false 3 (l.map a0t.D)]:=by unfold b5O.D;rw [hvv,hg,hff,hl]
 rw [hxD] at cq ⊢;rw [hvv,hl] at ha40;rw [hl] at hl9;have ell:(((l.map a0t.D).length:Nat):Int)=(l.length:Int):=by rw [List.length_map]
 have elv:(((v.map fun l=>str (sb l)).length:Nat):Int)=(v.length:Int):=by rw [List.length_map]
 have c2:=fun h=>d3v s false v h fun hl=>d5k v h.2 hl
 have c3:=d0o s l hl9;have c4:=b6N g s.gs.length;have cD:=d4c s;have cL:=d4k s;clear hxD hvv hg hff hl hx;unfold a1y.D at *;cases L
 ·refine goI a2M kB cl ha trivial trivial trivial trivial ?_
  exact a0a rfl IsPure.out
 have hs':=hf rfl;have h4:=h40 rfl;cases B
 ·refine goI a2M kB cl (c1 hs') ha trivial trivial trivial ?_
  exact a0a rfl IsPure.out
 have k0:a0n s=0:=by
  unfold c2w at hB;simp only [Bool.and_eq_true,decide_eq_true_eq] at hB;exact hB.2.2
 cases A
 ·refine goI a2M kB cl (c1 hs') cq ha trivial trivial ?_
  exact a0a rfl IsPure.out
 obtain ⟨hv,hv4,hr4⟩:=ha40 rfl
 by_cases g8:8<l.length
 ·have e1:decide ((l.length:Int)>8)=true:=decide_eq_true (by omega)
  refine goI a2M (ff2 ell e1) cl (c1 hs') cq ha trivial trivial ?_;exact a0a rfl IsPure.out
 have e1:decide ((l.length:Int)>8)=false:=decide_eq_false (by omega);have c2:=c2 hv;have c3:=c3 hr4;rcases Nat.decEq (a3h s.fs.length v) 0 with h|h
 ·have e2:=b3s h
  refine goI a2M (ff3 ell e1 e2) cl (c1 hs') cq c2 ha trivial ?_;exact a0a rfl IsPure.out
 have e2:=b6X h;rcases Nat.decEq (a1c s.fs.length l) 0 with hz|hz
 ·have e3:=b3s hz
  refine goI a2M (ff4 ell e1 e2 e3) cl (c1 hs') cq c2 c3 ha ?_;exact a0a rfl IsPure.out
 have e3:=b6X hz;rcases Nat.decEq (unk g s.gs.length) 0 with hu|hu
 ·have e4:=b3s hu
  refine goI a2M (ff6 ell el2 e1 e2 e3 e4) cl (c1 hs') cq c2 c3 c4 ?_;refine goI a2M (ff6 ell el2 e1 e2 e3 e4) ha trivial trivial trivial trivial trivial ?_;exact a0a rfl IsPure.out
 have e4:=b6X hu;obtain ⟨k,rfl,hk⟩:=a3q hu;have hok:=a2k k0;have hV:c9K s v=0:=by unfold c9K;rw [if_pos k0];exact h
 obtain ⟨-,hvn,hvr⟩:=b7x hV;have hcg:∀ j:Nat,j<s.gs.length→b1w s (j:Int) v=0:=fun j hj=>by
  unfold b1w;have u:unk (j:Int) s.gs.length=0:=c8E (by omega) (by omega);rw [if_pos k0,if_pos u];exact h
 have hdisc:∀ (j:Nat) (m:List a0t),j<s.gs.length→(∀ q∈m,q∈l)→m.length≤8→b2F (a1E s (j:Int) v m)=false∧a0b C0 18 [.agg [.sl false 4 (s.fs.map a1G.D),.sl false 3 (s.gs.map a1q.D)],i64 (j:Int),txD false v,.sl false 3 (m.map a0t.D)] (.tup [str (sb (txt (a1E s (j:Int) v m))),i64 ((0:Nat):Int)]):=fun j m hj hm h8=>by
  have hzm:=c2Q hz hm (by omega);have hfm:b4u m:=fun q hq=>hr4 q (hm q hq)
  have hb:=c1x k0 h4 hj hvn hvr hv4 hzm hfm h8;refine ⟨hb,?_⟩
  have:=cD hs' h4 (j:Int) false v hv hv4 m (by omega) hfm
  have e0:a9o s (j:Int) v m=0:=by unfold a9o;rw [if_pos (hcg j hj)];exact hzm
  have e1:c1q s (j:Int) v m=txt (a1E s (j:Int) v m):=by unfold c1q b6z;rw [if_pos e0,hb];rfl
  have e2:c2i s (j:Int) v m=0:=by unfold c2i b5S;rw [if_pos e0,hb];rfl
  rw [e1,e2] at this;exact this
 obtain ⟨n,hn⟩:∃ n:Nat,c.tmod (((l.length+1:Nat)):Int)=(n:Int):=⟨(c.tmod ((l.length+1:Nat):Int)).toNat,by
  have:=Int.tmod_nonneg ((l.length+1:Nat):Int) hc0
  omega⟩
 have hnl:n≤l.length:=by
  have:=Int.tmod_lt_of_pos c (b:=((l.length+1:Nat):Int)) (by omega)
  omega
 have wc:IntKind.i64.wrap c=c:=wI (by omega) (by omega);have wm:=wiI (i:=l.length) (by omega);have ht:(IntKind.i64.wrap c).tmod (IntKind.i64.wrap ((l.length:Int)+1))=(n:Int):=by rw [wc,wm];exact hn
 have tl:List.take n (l.map a0t.D)=(l.take n).map a0t.D:=(List.map_take ..).symm;have dl:List.take (l.length - n) (List.drop n (l.map a0t.D))=(l.drop n).map a0t.D:=by
  rw [List.take_of_length_le (by rw [List.length_drop,List.length_map];exact Nat.le_refl _),List.map_drop]
 have ll:(l.map a0t.D).length=l.length:=List.length_map _;obtain ⟨b1,d1⟩:=hdisc k (l.take n) hk (fun q hq=>List.mem_of_mem_take hq) (by rw [List.length_take];omega);obtain ⟨b2,d2⟩:=hdisc k (l.drop n) hk (fun q hq=>List.mem_of_mem_drop hq) (by rw [List.length_drop];omega);obtain ⟨b3,d3⟩:=hdisc k l hk (fun q hq=>hq) (by omega);have hsum:a1E s (k:Int) v (l.take n)+a1E s (k:Int) v (l.drop n)=a1E s (k:Int) v l:=by
  rw [a4U,a4U,a4U,← c1c,List.take_append_drop]
 have cA:=d4S _ _ _ _ (b5w b1) (b5w b2) (by decide);rw [hsum] at cA;have cL:=cL hs' h4 (k:Int) false v hv hv4;have hlr:b0E s (k:Int) v=a3v (a9i (a0Q s) k) v v.length:=by unfold b0E;rw [if_pos (hcg k hk),Int.toNat_natCast]
 rw [hlr,hcg k hk] at cL;have hLl:(a3v (a9i (a0Q s) k) v v.length).length=v.length:=by unfold a3v;rw [List.length_map,List.length_range]
 have hLat:∀ j,j<v.length→((a3v (a9i (a0Q s) k) v v.length).map fun l=>str (sb l))[j]? = some (str (sb (txt (a2L (a9i (a0Q s) k) v j)))):=fun j hj=>by
  unfold a3v;rw [List.getElem?_map,List.getElem?_map,List.getElem?_range hj];rfl
 have hfin:=b8i (g:=k) (v:=v) hz;have hlt:∀ r,b2F r=false→(txt r).length≤100000:=fun r hr=>by
  have h1:=a7D (a6E hr)
  have:(txt r).length≤100000:=by
   unfold b2F at hr;simp only [Bool.or_eq_false_iff,decide_eq_false_iff_not] at hr;have h1:(Lib.itoa r.num).length≤601:=by
    unfold Lib.itoa;split
    ·rw [List.length_cons];omega
    ·rw [show r.num.toNat=r.num.natAbs by omega];omega
   unfold txt;split
   ·omega
   ·rw [List.length_append,List.length_cons];omega
  exact this
 have crow:a0b C0 31 [.sl true 1 [str (sb (txt (a1E s (k:Int) v (l.take n)))),str (sb (txt (a1E s (k:Int) v (l.drop n)))),str (sb (txt (a1E s (k:Int) v l)))]] (i64 ((0:Nat):Int)):=by
  have h1:=d5k [txt (a1E s (k:Int) v (l.take n)),txt (a1E s (k:Int) v (l.drop n)),txt (a1E s (k:Int) v l)] (fun q hq=>by
   simp only [List.mem_cons,List.not_mem_nil,or_false] at hq;rcases hq with rfl|rfl|rfl
   ·exact hlt _ b1
   ·exact hlt _ b2
   ·exact hlt _ b3) (by simp)
  have h2:a1K [txt (a1E s (k:Int) v (l.take n)),txt (a1E s (k:Int) v (l.drop n)),txt (a1E s (k:Int) v l)]=0:=a9C fun _ q _ hq=>by
   have hq:=List.mem_of_getElem? hq;simp only [List.mem_cons,List.not_mem_nil,or_false] at hq;rcases hq with rfl|rfl|rfl
   ·exact a6E b1
   ·exact a6E b2
   ·exact a6E b3
  rw [h2] at h1;exact a0c.loose h1 ⟨.nn _ _ _,trivial⟩
 have hbet:∀ j,k=j+1→a1E s (k:Int) v l≤a1E s (j:Int) v l:=fun j hj=>by rw [hj];exact b4r k0 (by omega) v hz
 generalize a3v (a9i (a0Q s) k) v v.length=LT at *;generalize a1E s (k:Int) v (l.take n)=R1 at *;generalize a1E s (k:Int) v (l.drop n)=R2 at *;generalize a1E s (k:Int) v l=R3 at *;have elL:(((LT.map fun l=>str (sb l)).length:Nat):Int)=(v.length:Int):=by rw [List.length_map,hLl]
 have s3:a1s (sb (txt R3)) (sb (txt R3))=true:=by rw [a5o];exact decide_eq_true rfl
 have za:IntKind.i64.wrap (((0:Nat):Int)+((0:Nat):Int))=0:=rfl;have zb:IntKind.i64.wrap ((0:Int)+((0:Nat):Int))=0:=rfl;have zc:((0:Int) != 0)=false:=rfl;have zd:(((0:Nat):Int) != 0)=false:=rfl;have qv:((v.length:Int) != (v.length:Int))=false:=d3O rfl;refine goI a2M (ff7 ell el2 e1 e2 e3 e4 (ff7 ht ll kN Nat.sub_zero (@List.drop_zero D) tl dl)) cl (c1 hs') cq c2 c3 c4 ?_;refine goI a2M (ff7 ell ht ll kN Nat.sub_zero (@List.drop_zero D) (ff2 tl dl)) d1 d2 d3 cL trivial trivial ?_;refine goI a2M (ff7 za zb zc zd s3 elL (ff3 elv qv ell)) crow cA trivial trivial trivial trivial ?_;refine OkS.loop (α:=Nat × Nat) (fun p=>⟨[(3,.optr 0 0 2 0 0),(4,.optr 1 1 4 0 0),(12,str (sb (txt R3))),(14,.sl false 1 (LT.map fun l=>str (sb l))),(16,boo ((l.take p.1).all (a7m s k v))),(149,.sl false 3 (l.map a0t.D)),(150,i64 (l.length:Int)),(151,i64 (p.1:Int))],
   [⟨1,1,43,4,[.agg [i64 (k:Int),i64 f,txD false v,.sl false 3 (l.map a0t.D)]]⟩,⟨0,0,39,2,[.agg [.sl false 4 (s.fs.map a1G.D),.sl false 3 (s.gs.map a1q.D)]]⟩],p.2⟩) (fun p=>l.length - p.1)
  (fun p=>p.1≤l.length) (0,_) (Nat.zero_le _) wkI ?_
 rintro ⟨i,m⟩ F hi;dsimp only at hi ⊢;rcases Nat.lt_or_ge i l.length with h2|h2
 ·have f1:=ltT h2
  have wi:=wiI (i:=i) (by omega);obtain ⟨q,hq⟩:=a1I h2;have hqz:=(a1x hz).2 q (List.mem_of_getElem? hq);obtain ⟨q1,-,-,q4,-⟩:=a2b hqz;obtain ⟨kf,hkf,hkn⟩:=a3q q1;have hm:(l.map a0t.D)[i]? = some (.agg [i64 (kf:Int),str (sb q.step),str (sb q.price)]):=by rw [List.getElem?_map,hq,← hkf];rfl
  have hla:=hLat kf (by omega);have hfree:a7m s k v q=(decide (a2L (a9i (a0Q s) k) v kf=0)||decide (a0j q.price=0)):=by unfold a7m;rw [hkf,Int.toNat_natCast]
  have t1:=b4g (a2L (a9i (a0Q s) k) v kf);have t2:=b4g (a0j q.price);rw [(a2Y q4).2.2.1] at t2;have hsn:(l.take (i+1)).all (a7m s k v)=((l.take i).all (a7m s k v)&&a7m s k v q):=by
   rw [List.take_add_one,hq,Option.toList_some,List.all_append,List.all_cons,List.all_nil,Bool.and_true]
  rw [hfree] at hsn;generalize txt (a2L (a9i (a0Q s) k) v kf)=TA at *;generalize decide (a2L (a9i (a0Q s) k) v kf=0)=p1 at *;generalize decide (a0j q.price=0)=p2 at *;generalize (l.take i).all (a7m s k v)=N1 at *;generalize hN2:(l.take (i+1)).all (a7m s k v)=N2 at *;subst hsn;cases N1
  ·refine goI a2M (ff5 f1 wi t1 t2 kN) hm hla trivial trivial trivial trivial ?_
   exact ⟨(i+1,_),h2,by dsimp only;omega,by (dsimp only;rw [hN2];exact wkI)⟩
  ·cases p1
   ·refine goI a2M (ff5 f1 wi t1 t2 kN) hm hla trivial trivial trivial trivial ?_
    exact ⟨(i+1,_),h2,by dsimp only;omega,by (dsimp only;rw [hN2];exact wkI)⟩
   ·refine goI a2M (ff5 f1 wi t1 t2 kN) hm hla trivial trivial trivial trivial ?_
    exact ⟨(i+1,_),h2,by dsimp only;omega,by (dsimp only;rw [hN2];exact wkI)⟩
 have f1:=ltF h2
 have:i=l.length:=by omega
 subst this;rw [List.take_length];have t3:=b4g R3;rw [hfin] at t3;generalize l.all (a7m s k v)=N9 at *;have qN:(!(N9==N9))=false:=by cases N9<;>rfl
 by_cases gk:k=0
 ·have f2:((k:Int)==0)=true:=beq_iff_eq.2 (by omega)
  refine goI a2M (ff4 f1 t3 qN f2) ha trivial trivial trivial trivial trivial ?_;exact a0a rfl IsPure.out
 have f2:((k:Int)==0)=false:=beq_eq_false_iff_ne.2 (by omega);obtain ⟨j,hj⟩:∃ j,k=j+1:=⟨k - 1,by omega⟩
 have wj:IntKind.i64.wrap ((k:Int) - 1)=(j:Int):=by have:=hok.2.1;rw [wI (by omega) (by omega)];omega
 obtain ⟨b4,d4⟩:=hdisc j l (by omega) (fun q hq=>hq) (by omega);have hle:=hbet j hj;have ck:=a8d (txt (a1E s (j:Int) v l)) (hlt _ b4);rw [a6E b4] at ck;have cc:=d5a _ _ _ _ (b5w b4) (b5w b3) (by decide);have fge:decide (a2J (a1E s (j:Int) v l) R3≥0)=true:=decide_eq_true (by
  have:¬ a2J (a1E s (j:Int) v l) R3<0:=by rw [c0z];exact Rat.not_lt.2 hle
  omega)
 have z1:(((0:Nat):Int)==0)=true:=rfl;generalize a1E s (j:Int) v l=RJ at *;refine goI a2M (ff7 f1 t3 qN f2 wj z1 fge) d4 ck cc ha trivial trivial ?_;exact a0a rfl IsPure.out
end Go.Ide
