/- The layer of own lemmas and contracts, part 14. -/
import Derived.Test.YtpehlicnhjoknaaGreatDoorP13
import Derived.Test.YtpehlicnhjoknaaGreatDoorP4
set_option linter.unusedVariables false
set_option linter.unusedSimpArgs false
namespace Go.Ide
open Go.Proofs Go.RowKit
set_option maxRecDepth 20000
set_option maxHeartbeats 4000000
def fewB (v:List (List UInt8)):Bool:=v.all fun l=>decide (l.length≤40)
def plainT (f:FacT):Bool:=decide (f.name.length≤100)&&decide (f.kind.length≤100)&&decide (f.tol.length≤40)&&decide (f.step.length≤40)
def lightG (g:GraT):Bool:=decide (g.name.length≤100)&&decide (g.least.length≤20)&&decide (g.most.length≤20)&&fewB g.least&&fewB g.most
def lightB (s:SchT):Bool:=decide (s.fs.length≤12)&&decide (s.gs.length≤20)&&s.fs.all plainT&&s.gs.all lightG
theorem fewB_ok {v:List (List UInt8)}(h:fewB v=true):∀ l∈v,l.length≤40:=fun l hl=>of_decide_eq_true (List.all_eq_true.1 h l hl)
theorem light_few {s:SchT}(h:lightB s=true):s.few:=by
 simp only [lightB,Bool.and_eq_true,decide_eq_true_eq,List.all_eq_true] at h;obtain ⟨⟨⟨h1,h2⟩,h3⟩,h4⟩:=h;refine ⟨by omega,by omega,fun f hf=>?_,fun g hg=>?_⟩
 ·have:=h3 f hf
  simp only [plainT,Bool.and_eq_true,decide_eq_true_eq] at this;obtain ⟨⟨⟨q1,q2⟩,q3⟩,q4⟩:=this;exact ⟨by omega,by omega,by omega,by omega⟩
 ·have:=h4 g hg
  simp only [lightG,Bool.and_eq_true,decide_eq_true_eq] at this;obtain ⟨⟨⟨⟨q1,q2⟩,q3⟩,q4⟩,q5⟩:=this;exact ⟨by omega,by omega,by omega,fun l hl=>by have:=fewB_ok q4 l hl;omega,fun l hl=>by have:=fewB_ok q5 l hl;omega⟩
theorem all_take {α:Type}{l:List α}{p:α→Bool}{k:Nat}{x:α}(hx:l[k]? = some x)(h:(l.take k).all p=true)(hp:p x=true):(l.take (k+1)).all p=true:=by
 rw [List.take_add_one,hx,List.all_append,h];simp [hp]
theorem all_not {α:Type}{l:List α}{p:α→Bool}{k:Nat}{x:α}(hx:l[k]? = some x)(hp:p x=false):l.all p=false:=by
 cases h:l.all p
 ·rfl
 ·rw [List.all_eq_true.1 h x (List.mem_of_getElem? hx)] at hp;exact hp
theorem gt_dec {a b:Nat}:decide ((a:Int)>(b:Int)) = !decide (a≤b):=by
 by_cases h:a≤b
 ·rw [decide_eq_false (by omega),decide_eq_true h];rfl
 ·rw [decide_eq_true (by omega),decide_eq_false h];rfl
theorem few_g (b:Bool)(v:List (List UInt8))(hl:v.length≤9223372036854775807):ICalls C0 19 [.sl b 1 (v.map fun l=>str (sb l))] (boo (fewB v)):=by
 refine ICallP.walk w1 fok19 rfl fun F=>?_
 have el:(((v.map fun l=>str (sb l)).length:Nat):Int)=(v.length:Int):=by rw [List.length_map]
 refine sR 0 ?_;refine OkS.seq ?_;refine sZ 100 ?_;refine nwI el ?_;refine OkS.block ?_;refine OkS.loop (α:=Nat × Nat) (fun p=>⟨[(5,.sl b 1 (v.map fun l=>str (sb l))),(6,i64 v.length),(7,i64 (p.1:Int))],[],p.2⟩) (fun p=>v.length - p.1) (fun p=>p.1≤v.length∧(v.take p.1).all (fun l=>decide (l.length≤40))=true) (0,_) ⟨Nat.zero_le _,rfl⟩ wkI ?_;rintro ⟨i,n⟩ F ⟨hi,ha⟩;dsimp only at hi ha ⊢;refine sR 200 ?_;refine OkS.seq ?_;refine ifI ?_
 (refine brI (fun hlt=>?_) (fun hlt=>?_))<;>(try simp only [Bool.not_eq_true',Bool.not_eq_false'] at hlt)<;>(try simp only [hlt])
 ·have hi2:i<v.length:=by
   have:=of_decide_eq_true hlt
   omega
  have hm:=lv_map hi2;have hx:=lv_some hi2;have wi:IntKind.i64.wrap ((i:Int)+1)=((i+1:Nat):Int):=wI (by omega) (by omega);obtain ⟨l,hl'⟩:∃ l,lv v i=l:=⟨_,rfl⟩
  rw [hl'] at hm hx;have hsz:=sb_size l;refine skI ?_;refine OkS.seq ?_;refine OkS.block ?_;refine sZ 300 ?_;refine gwI kN ?_;refine ixI kT hm ?_;refine gwI kN ?_
  by_cases g:l.length≤40
  ·have e5:decide ((l.length:Int)>40)=false:=decide_eq_false (by omega)
   refine sZ 400 ?_;refine nwI (ff2 hsz e5) ?_;refine ifI ?_;refine skI ?_;refine OkS.reg w1 600 (by kernel_rfl) ?_;refine nwI wi ?_;exact ⟨(i+1,_),⟨hi2,all_take hx ha (decide_eq_true g)⟩,by dsimp only;omega,wkI⟩
  ·have e5:decide ((l.length:Int)>40)=true:=decide_eq_true (by omega)
   refine sZ 400 ?_;refine nwI (ff2 hsz e5) ?_;refine ifI ?_;refine sR 500 ?_;refine rtI ?_;exact exact_res (by unfold fewB;rw [all_not hx (decide_eq_false g)]) IsPure.out
 have hi2:i=v.length:=by
  have:=of_decide_eq_false hlt
  omega
 subst hi2;refine exI ?_;refine sR 700 ?_;refine rtI ?_;exact exact_res (by unfold fewB;rw [List.take_length] at ha;rw [ha]) IsPure.out
theorem plain_g (f:FacT):ICalls C0 18 [f.D] (boo (plainT f)):=by
 refine ICallP.walk w1 fok18 rfl fun F=>?_
 have cf:=few_g true [f.tol,f.step] (by simp);have hr:plainT f=(decide (f.name.length≤100)&&(decide (f.kind.length≤100)&&fewB [f.tol,f.step])):=by
  unfold plainT fewB;simp only [List.all_cons,List.all_nil,Bool.and_true,Bool.and_assoc]
 rw [hr];have z1:=sb_size f.name;have z2:=sb_size f.kind;dsimp only [List.map] at cf;unfold FacT.D;obtain ⟨q,hq⟩:∃ q,fewB [f.tol,f.step]=q:=⟨_,rfl⟩
 rw [hq] at cf ⊢;have d1:decide ((f.name.length:Int)≤100)=decide (f.name.length≤100):=decide_eq_decide.2 (by omega);have d2:decide ((f.kind.length:Int)≤100)=decide (f.kind.length≤100):=decide_eq_decide.2 (by omega);refine sR 0 ?_
 by_cases g1:f.name.length≤100
 rotate_left
 ·rw [decide_eq_false g1] at d1 ⊢
  refine sZ 100 ?_;refine nwI (ff2 z1 d1) ?_;refine gwI kB ?_
  try simp only [implies_true]
  refine gwI kB ?_
  try simp only [implies_true]
  refine gwI kB ?_;refine rtI ?_;exact exact_res rfl IsPure.out
 rw [decide_eq_true g1] at d1 ⊢
 by_cases g2:f.kind.length≤100
 rotate_left
 ·rw [decide_eq_false g2] at d2 ⊢
  refine sZ 100 ?_;refine nwI (ff2 z1 d1) ?_;refine gwI kB ?_
  try simp only [z2,d2,implies_true]
  refine gwI kB ?_
  try simp only [implies_true]
  refine gwI kB ?_;refine rtI ?_;exact exact_res rfl IsPure.out
 rw [decide_eq_true g2] at d2 ⊢;refine sZ 100 ?_;refine nwI (ff2 z1 d1) ?_;refine gwI kB ?_
 try simp only [z2,d2,implies_true]
 refine gwI kB ?_
 try simp only [implies_true]
 refine gcI kB ?_;refine CallO.same _ cf inferInstance ?_;refine gwI kB ?_
 try simp only [implies_true]
 refine rtI ?_;exact exact_res rfl IsPure.out
def SchT.fit (s:SchT):Prop:=s.fs.length≤9223372036854775807∧s.gs.length≤9223372036854775807∧∀ g∈s.gs,g.least.length≤9223372036854775807∧g.most.length≤9223372036854775807
theorem light_g (s:SchT)(hs:s.fit):ICalls C0 26 [s.D] (boo (lightB s)):=by
 refine ICallP.walk w1 fok26 rfl fun F=>?_
 have fl:(((s.fs.map FacT.D).length:Nat):Int)=(s.fs.length:Int):=by rw [List.length_map]
 have gl:(((s.gs.map GraT.D).length:Nat):Int)=(s.gs.length:Int):=by rw [List.length_map]
 obtain ⟨ls,lg,lx⟩:=hs;have hmf:∀ i,i<s.fs.length→(s.fs.map FacT.D)[i]? = some (.agg [str (sb (s.fs.getD i default).name),str (sb (s.fs.getD i default).tol),str (sb (s.fs.getD i default).kind),str (sb (s.fs.getD i default).step)]):=fun i hi=>fv_map hi
 have hfs:∀ k,k<s.fs.length→s.fs[k]? = some (s.fs.getD k default):=fun k hk=>fv_some hk
 have hmg:∀ k,k<s.gs.length→(s.gs.map GraT.D)[k]? = some (.agg [str (sb (s.gs.getD k default).name),.sl false 1 ((s.gs.getD k default).least.map fun l=>str (sb l)),.sl false 1 ((s.gs.getD k default).most.map fun l=>str (sb l))]):=fun k hk=>gv_map hk
 have hgs:∀ k,k<s.gs.length→s.gs[k]? = some (s.gs.getD k default):=fun k hk=>gv_some hk
 have hL:lightB s=(decide (s.fs.length≤12)&&(decide (s.gs.length≤20)&&(s.fs.all plainT&&s.gs.all lightG))):=by
  unfold lightB;simp only [Bool.and_assoc]
 rw [hL];unfold SchT.D;obtain ⟨fsD,hfsD⟩:∃ x,s.fs.map FacT.D=x:=⟨_,rfl⟩
 obtain ⟨gsD,hgsD⟩:∃ x,s.gs.map GraT.D=x:=⟨_,rfl⟩
 have pf:IsPure (.sl false 4 fsD):=by rw [← hfsD];exact inferInstance
 have pg:IsPure (.sl false 3 gsD):=by rw [← hgsD];exact inferInstance
 rw [hfsD] at fl hmf ⊢;rw [hgsD] at gl hmg ⊢;obtain ⟨n,hn⟩:∃ n,s.fs.length=n:=⟨_,rfl⟩
 obtain ⟨m,hm⟩:∃ m,s.gs.length=m:=⟨_,rfl⟩
 have hnl:=hn;have hml:=hm;rw [hn] at fl ls hmf hfs ⊢;rw [hm] at gl lg hmg hgs ⊢;have d1:decide ((n:Int)>12) = !decide (n≤12):=gt_dec (b:=12);have d2:decide ((m:Int)>20) = !decide (m≤20):=gt_dec (b:=20);refine sR 0 ?_;refine OkS.seq ?_
 by_cases g1:n≤12
 rotate_left
 ·rw [decide_eq_false g1] at d1 ⊢
  refine sZ 100 ?_;refine nwI (ff3 fl d1 kF) ?_;refine gwI kB ?_
  try simp only [implies_true]
  refine gwI kB ?_;refine ifI ?_;refine sR 200 ?_;refine rtI ?_;exact exact_res rfl IsPure.out
 rw [decide_eq_true g1] at d1 ⊢
 by_cases g2:m≤20
 rotate_left
 ·rw [decide_eq_false g2] at d2 ⊢
  refine sZ 100 ?_;refine nwI (ff3 fl d1 kT) ?_;refine gwI kB ?_
  try simp only [gl,d2,Bool.not_false,implies_true]
  refine ifI ?_;refine sR 200 ?_;refine rtI ?_;exact exact_res rfl IsPure.out
 rw [decide_eq_true g2] at d2 ⊢;refine sZ 100 ?_;refine nwI (ff3 fl d1 kT) ?_;refine gwI kB ?_
 try simp only [gl,d2,Bool.not_true,implies_true]
 refine ifI ?_;refine skI ?_;rw [Bool.true_and,Bool.true_and];refine OkS.seq ?_;refine sZ 300 ?_;refine nwI fl ?_;refine OkS.block ?_;refine OkS.loop (α:=Nat × Nat) (fun q=>⟨[(1,.optr 0 0 2 0 0),(18,.sl false 4 fsD),(19,i64 (n:Int)),(20,i64 (q.1:Int))],[⟨0,0,69,2,[.agg [.sl false 4 fsD,.sl false 3 gsD]]⟩],q.2⟩) (fun q=>n - q.1) (fun q=>q.1≤n∧(s.fs.take q.1).all plainT=true) (0,_) ⟨Nat.zero_le _,rfl⟩ wkI ?_;rintro ⟨i,c⟩ F ⟨hi,ha⟩;dsimp only at hi ha ⊢;refine sR 400 ?_;refine OkS.seq ?_;refine ifI ?_
 (refine brI (fun hlt=>?_) (fun hlt=>?_))<;>(try simp only [Bool.not_eq_true',Bool.not_eq_false'] at hlt)<;>(try simp only [hlt])
 ·have hi2:i<n:=by
   have:=of_decide_eq_true hlt
   omega
  have hmi:=hmf i hi2;have hsi:=hfs i hi2;have wi:IntKind.i64.wrap ((i:Int)+1)=((i+1:Nat):Int):=wI (by omega) (by omega);obtain ⟨f,hf⟩:∃ f,s.fs.getD i default=f:=⟨_,rfl⟩
  rw [hf] at hmi hsi;have cp:=plain_g f;unfold FacT.D at cp;refine skI ?_;refine OkS.seq ?_;refine OkS.block ?_;refine sZ 500 ?_;refine gwI kN ?_;refine ixI kT hmi ?_;refine gwI kN ?_;cases hp:plainT f
  ·rw [hp] at cp
   refine sR 600 ?_;refine cI cp ?_;refine ifI ?_;refine sR 700 ?_;refine rtI ?_;exact exact_res (by rw [all_not hsi hp];rfl) IsPure.out
  ·rw [hp] at cp
   refine sR 600 ?_;refine cI cp ?_;refine ifI ?_;refine skI ?_;refine OkS.reg w1 800 (by kernel_rfl) ?_;refine nwI wi ?_;exact ⟨(i+1,_),⟨hi2,all_take hsi ha hp⟩,by dsimp only;omega,wkI⟩
 have hi2:i=n:=by
  have:=of_decide_eq_false hlt
  omega
 subst hi2;rw [show s.fs.all plainT=true by rw [← ha,← hnl,List.take_length],Bool.true_and];clear ha;refine exI ?_;refine OkS.seq ?_;refine sZ 900 ?_;refine nwI gl ?_;refine OkS.block ?_;refine OkS.loop (α:=Nat × Nat) (fun q=>⟨[(29,.sl false 3 gsD),(30,i64 (m:Int)),(31,i64 (q.1:Int))],[],q.2⟩) (fun q=>m - q.1) (fun q=>q.1≤m∧(s.gs.take q.1).all lightG=true) (0,_) ⟨Nat.zero_le _,rfl⟩ wkI ?_;rintro ⟨k,c⟩ F ⟨hk,ha⟩;dsimp only at hk ha ⊢;refine sR 1000 ?_;refine OkS.seq ?_;refine ifI ?_
 (refine brI (fun hlt2=>?_) (fun hlt2=>?_))<;>(try simp only [Bool.not_eq_true',Bool.not_eq_false'] at hlt2)<;>(try simp only [hlt2])
 ·have hk2:k<m:=by
   have:=of_decide_eq_true hlt2
   omega
  have hmk:=hmg k hk2;have hsk:=hgs k hk2;have lk:=lx _ (List.mem_of_getElem? hsk);have wi:IntKind.i64.wrap ((k:Int)+1)=((k+1:Nat):Int):=wI (by omega) (by omega);obtain ⟨g,hg⟩:∃ g,s.gs.getD k default=g:=⟨_,rfl⟩
  rw [hg] at hmk hsk lk;have c1:=few_g false g.least lk.1;have c2:=few_g false g.most lk.2;have hG:lightG g=(decide (g.name.length≤100)&&(decide (g.least.length≤20)&&(decide (g.most.length≤20)&&(fewB g.least&&fewB g.most)))):=by
   unfold lightG;simp only [Bool.and_assoc]
  have z1:=sb_size g.name;have z2:(((g.least.map fun l=>str (sb l)).length:Nat):Int)=(g.least.length:Int):=by rw [List.length_map]
  have z3:(((g.most.map fun l=>str (sb l)).length:Nat):Int)=(g.most.length:Int):=by rw [List.length_map]
  have y1:decide ((g.name.length:Int)>100) = !decide (g.name.length≤100):=gt_dec (b:=100);have y2:decide ((g.least.length:Int)>20) = !decide (g.least.length≤20):=gt_dec (b:=20);have y3:decide ((g.most.length:Int)>20) = !decide (g.most.length≤20):=gt_dec (b:=20);obtain ⟨b1,hb1⟩:∃ b,decide (g.name.length≤100)=b:=⟨_,rfl⟩
  obtain ⟨b2,hb2⟩:∃ b,decide (g.least.length≤20)=b:=⟨_,rfl⟩
  obtain ⟨b3,hb3⟩:∃ b,decide (g.most.length≤20)=b:=⟨_,rfl⟩
  obtain ⟨b4,hb4⟩:∃ b,fewB g.least=b:=⟨_,rfl⟩
  obtain ⟨b5,hb5⟩:∃ b,fewB g.most=b:=⟨_,rfl⟩
  rw [hb1] at y1 hG;rw [hb2] at y2 hG;rw [hb3] at y3 hG;rw [hb4] at c1 hG;rw [hb5] at c2 hG;refine skI ?_;refine OkS.seq ?_;refine OkS.block ?_;refine sZ 1100 ?_;refine gwI kN ?_;refine ixI kT hmk ?_;refine gwI kN ?_;cases b1
  ·refine sZ 1200 ?_
   refine nwI (ff4 z1 y1 kT kF) ?_;refine gwI kB ?_
   try simp only [implies_true]
   refine gwI kB ?_
   try simp only [implies_true]
   refine gwI kB ?_
   try simp only [implies_true]
   refine gwI kB ?_;refine ifI ?_;refine sR 1300 ?_;refine rtI ?_;exact exact_res (by rw [all_not hsk hG]) IsPure.out
  cases b2
  ·refine sZ 1200 ?_
   refine nwI (ff4 z1 y1 kT kF) ?_;refine gwI kB ?_
   try simp only [z2,y2,Bool.not_true,Bool.not_false,implies_true]
   refine gwI kB ?_
   try simp only [implies_true]
   refine gwI kB ?_
   try simp only [implies_true]
   refine gwI kB ?_;refine ifI ?_;refine sR 1300 ?_;refine rtI ?_;exact exact_res (by rw [all_not hsk hG]) IsPure.out
  cases b3
  ·refine sZ 1200 ?_
   refine nwI (ff4 z1 y1 kT kF) ?_;refine gwI kB ?_
   try simp only [z2,y2,Bool.not_true,Bool.not_false,implies_true]
   refine gwI kB ?_
   try simp only [z3,y3,Bool.not_true,Bool.not_false,implies_true]
   refine gwI kB ?_
   try simp only [implies_true]
   refine gwI kB ?_;refine ifI ?_;refine sR 1300 ?_;refine rtI ?_;exact exact_res (by rw [all_not hsk hG]) IsPure.out
  cases b4
  ·refine sZ 1200 ?_
   refine nwI (ff4 z1 y1 kT kF) ?_;refine gwI kB ?_
   try simp only [z2,y2,Bool.not_true,Bool.not_false,implies_true]
   refine gwI kB ?_
   try simp only [z3,y3,Bool.not_true,Bool.not_false,implies_true]
   refine gwI kB ?_;refine gcI kB ?_;refine CallO.same _ c1 inferInstance ?_;refine gwI kB ?_
   try simp only [implies_true]
   refine gwI kB ?_;refine ifI ?_;refine sR 1300 ?_;refine rtI ?_;exact exact_res (by rw [all_not hsk hG]) IsPure.out
  cases b5
  ·refine sZ 1200 ?_
   refine nwI (ff4 z1 y1 kT kF) ?_;refine gwI kB ?_
   try simp only [z2,y2,Bool.not_true,Bool.not_false,implies_true]
   refine gwI kB ?_
   try simp only [z3,y3,Bool.not_true,Bool.not_false,implies_true]
   refine gwI kB ?_;refine gcI kB ?_;refine CallO.same _ c1 inferInstance ?_;refine gwI kB ?_
   try simp only [implies_true]
   refine gwI kB ?_;refine gcI kB ?_;refine CallO.same _ c2 inferInstance ?_;refine gwI kB ?_
   try simp only [implies_true]
   refine ifI ?_;refine sR 1300 ?_;refine rtI ?_;exact exact_res (by rw [all_not hsk hG]) IsPure.out
  refine sZ 1200 ?_;refine nwI (ff4 z1 y1 kT kF) ?_;refine gwI kB ?_
  try simp only [z2,y2,Bool.not_true,Bool.not_false,implies_true]
  refine gwI kB ?_
  try simp only [z3,y3,Bool.not_true,Bool.not_false,implies_true]
  refine gwI kB ?_;refine gcI kB ?_;refine CallO.same _ c1 inferInstance ?_;refine gwI kB ?_
  try simp only [implies_true]
  refine gwI kB ?_;refine gcI kB ?_;refine CallO.same _ c2 inferInstance ?_;refine gwI kB ?_
  try simp only [implies_true]
  refine ifI ?_;refine skI ?_;refine OkS.reg w1 1400 (by kernel_rfl) ?_;refine nwI wi ?_;exact ⟨(k+1,_),⟨hk2,all_take hsk ha hG⟩,by dsimp only;omega,wkI⟩
 have hk2:k=m:=by
  have:=of_decide_eq_false hlt2
  omega
 subst hk2;rw [show s.gs.all lightG=true by rw [← ha,← hml,List.take_length]];refine exI ?_;refine sR 1500 ?_;refine rtI ?_;exact exact_res rfl IsPure.out
theorem gs_ok (ha:ICalls C0 9 [] (boo true))(s:SchT)(hs:s.fit):ICalls C0 6 [s.D] (boo true):=by
 refine ICallP.walk w1 fok6 rfl fun F=>?_
 have cl:=light_g s hs;have hf:=@light_few s;have c1:=psch s;have c2:=rsch s;obtain ⟨L,hL⟩:∃ L,lightB s=L:=⟨_,rfl⟩
 obtain ⟨c,hc⟩:∃ c,chkScheme s=c:=⟨_,rfl⟩
 rw [hL] at cl hf;rw [hc] at c1 c2;have e1:((c:Int)==(c:Int))=true:=beq_self_eq_true _;have pS:IsPure s.D:=inferInstance;have sD:∃ a b,s.D=.agg [a,b]:=⟨_,_,rfl⟩
 obtain ⟨d,hd⟩:∃ d,s.D=d:=⟨_,rfl⟩
 rw [hd] at cl c1 c2 pS sD ⊢;obtain ⟨a,b,rfl⟩:=sD;clear hd;refine sR 0 ?_;refine OkS.seq ?_;refine sR 100 ?_;refine cI cl ?_;cases L
 ·refine ifI ?_
  refine sR 200 ?_;refine cI ha ?_;refine rtI ?_;exact exact_res rfl IsPure.out
 refine ifI ?_;refine skI ?_;refine OkS.seq ?_;refine OkS.regD w1 300 [0,1,2] [3,4,5,6,7,8] (by kernel_rfl) ?_;refine stI ?_;refine CallW.same _ (c1 (hf rfl)) inferInstance ?_;refine stI ?_;refine cI (c2 (hf rfl)) ?_
 try simp only [e1]
 refine gcI kB ?_;refine CallO.same _ ha inferInstance ?_;refine gwI kB ?_
 try simp only [implies_true]
 refine rtI ?_;exact exact_res rfl IsPure.out
end Go.Ide
namespace Go.Ide
open Go.Proofs Go.RowKit Go.ChangeShapes Go.WideShapes
def stF (P:Program)(t:Nat):Option (List (Nat × Nat × Nat)):=match P.underlying t with
 | some (.struct fs)=>some (fs.toList.map fun f=>(f.type,f.offset,P.cellsOf f.type))
 | _=>none
section
variable {H:Type} {enc:TypeId × Value→H} {W:World} {fuel:Nat} {cs:List Value} {x:DataW H × List MemPlace} {t:TypeId}
theorem rd_st {l:List (Nat × Nat × Nat)}{m:Nat}(hs:stF Tryz.prog t=some l)(hm:Tryz.prog.cellsOf t=m)(h:DataW.trod enc Tryz.prog W 0 (fun _=>true) true fuel t cs=some x) :
  cs.length=m∧∃ n,∀ (i u off k:Nat),l[i]? = some (u,off,k)→∃ y,DataW.trod enc Tryz.prog W 0 (fun _=>true) true n u ((cs.drop off).take k)=some y:=by
 unfold stF at hs;split at hs
 ·rename_i fs hu
  obtain ⟨h1,n,h2⟩:=rd_fields hu h;refine ⟨h1.trans hm,n,fun i u off k hl=>?_⟩;obtain rfl:=Option.some.inj hs;rw [List.getElem?_map] at hl;obtain ⟨f,hf,he⟩:=Option.map_eq_some_iff.1 hl;cases he;exact h2 i f (by rw [← Array.getElem?_toList];exact hf)
 ·cases hs
theorem rd_app {a b c:Nat}{p q:List D}(h:RdOk W ((cs.drop a).take b) p)(k:RdOk W ((cs.drop (a+b)).take c) q):RdOk W ((cs.drop a).take (b+c)) (p++q):=by
 rw [List.take_add,List.drop_drop];exact h.append k
theorem rd_all {n:Nat}{p:List D}(hn:cs.length=n)(h:RdOk W ((cs.drop 0).take n) p):RdOk W cs p:=by
 rw [List.drop_zero,← hn,List.take_length] at h;exact h
theorem rd_rat (h:DataW.trod enc Tryz.prog W 0 (fun _=>true) true fuel 44 cs=some x):∃ l:List UInt8,RdOk W cs (str (sb l)).cells∧l.length≤maxLen:=rd_str (by kernel_rfl) h
theorem rd_string (h:DataW.trod enc Tryz.prog W 0 (fun _=>true) true fuel 9 cs=some x):∃ l:List UInt8,RdOk W cs [str (sb l)]∧l.length≤maxLen:=rd_str (by kernel_rfl) h
theorem rd_rats (h:DataW.trod enc Tryz.prog W 0 (fun _=>true) true fuel 52 cs=some x):∃ l:List (List UInt8),RdOk W cs [.sl false 1 (l.map fun l=>str (sb l))]∧(∀ a∈l,a.length≤maxLen)∧l.length≤maxLen :=
 rd_sl (g:=fun l:List UInt8=>str (sb l)) (ok:=fun l=>l.length≤maxLen) (e:=44) (by kernel_rfl) (by kernel_rfl) (by decide) (fun _ _ _ h=>rd_rat h) h
theorem rd_factor (h:DataW.trod enc Tryz.prog W 0 (fun _=>true) true fuel 51 cs=some x):∃ f:FacT,RdOk W cs f.D.cells∧True:=by
 obtain ⟨h1,n,h2⟩:=rd_st (l:=[(9,0,1),(44,1,1),(49,2,2)]) (m:=4) (by kernel_rfl) (by kernel_rfl) h;obtain ⟨y0,k0⟩:=h2 0 _ _ _ rfl;obtain ⟨y1,k1⟩:=h2 1 _ _ _ rfl;obtain ⟨y2,k2⟩:=h2 2 _ _ _ rfl;obtain ⟨a0,r0,_⟩:=rd_string k0;obtain ⟨a1,r1,_⟩:=rd_rat k1;obtain ⟨h3,n',h4⟩:=rd_st (l:=[(9,0,1),(44,1,1)]) (m:=2) (by kernel_rfl) (by kernel_rfl) k2;obtain ⟨z0,j0⟩:=h4 0 _ _ _ rfl;obtain ⟨z1,j1⟩:=h4 1 _ _ _ rfl;obtain ⟨b0,s0,_⟩:=rd_string j0;obtain ⟨b1,s1,_⟩:=rd_rat j1;exact ⟨⟨a0,a1,b0,b1⟩,rd_all h1 (rd_app (b:=1) (c:=3) r0 (rd_app (b:=1) (c:=2) r1 (rd_all h3 (rd_app (b:=1) (c:=1) s0 s1)))),trivial⟩
def gfit (g:GraT):Prop:=g.least.length≤maxLen∧g.most.length≤maxLen
theorem rd_grade (h:DataW.trod enc Tryz.prog W 0 (fun _=>true) true fuel 138 cs=some x):∃ g:GraT,RdOk W cs g.D.cells∧gfit g:=by
 obtain ⟨h1,n,h2⟩:=rd_st (l:=[(9,0,1),(52,1,1),(52,2,1)]) (m:=3) (by kernel_rfl) (by kernel_rfl) h;obtain ⟨y0,k0⟩:=h2 0 _ _ _ rfl;obtain ⟨y1,k1⟩:=h2 1 _ _ _ rfl;obtain ⟨y2,k2⟩:=h2 2 _ _ _ rfl;obtain ⟨a0,r0,_⟩:=rd_string k0;obtain ⟨a1,r1,_,l1⟩:=rd_rats k1;obtain ⟨a2,r2,_,l2⟩:=rd_rats k2;exact ⟨⟨a0,a1,a2⟩,rd_all h1 (rd_app (b:=1) (c:=2) r0 (rd_app (b:=1) (c:=1) r1 r2)),l1,l2⟩
theorem rd_scheme (h:DataW.trod enc Tryz.prog W 0 (fun _=>true) true fuel 69 cs=some x):∃ s:SchT,RdOk W cs s.D.cells∧s.fit:=by
 obtain ⟨h1,n,h2⟩:=rd_st (l:=[(66,0,1),(67,1,1)]) (m:=2) (by kernel_rfl) (by kernel_rfl) h;obtain ⟨y0,k0⟩:=h2 0 _ _ _ rfl;obtain ⟨y1,k1⟩:=h2 1 _ _ _ rfl;obtain ⟨a0,r0,_,l0⟩:=rd_sl (g:=FacT.D) (ok:=fun _=>True) (e:=51) (sz:=4) (by kernel_rfl) (by kernel_rfl) (by decide) (fun _ _ _ h=>rd_factor h) k0;obtain ⟨a1,r1,g1,l1⟩:=rd_sl (g:=GraT.D) (ok:=gfit) (e:=138) (sz:=3) (by kernel_rfl) (by kernel_rfl) (by decide) (fun _ _ _ h=>rd_grade h) k1;have hM:maxLen≤9223372036854775807:=by decide
 exact ⟨⟨a0,a1⟩,rd_all h1 (rd_app (b:=1) (c:=1) r0 r1),by dsimp only;omega,by dsimp only;omega,fun g hg=>⟨Nat.le_trans (g1 g hg).1 hM,Nat.le_trans (g1 g hg).2 hM⟩⟩
end
end Go.Ide
