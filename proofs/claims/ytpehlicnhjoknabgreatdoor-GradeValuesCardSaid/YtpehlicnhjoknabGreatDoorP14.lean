/- The layer of own lemmas and contracts, part 14. -/
import Derived.Test.YtpehlicnhjoknabGreatDoorP13
import Derived.Test.YtpehlicnhjoknabGreatDoorP4
import Derived.Test.YtpehlicnhjoknabGreatDoorP7
set_option linter.unusedVariables false
set_option linter.unusedSimpArgs false
namespace Go.Ide
open Go.Proofs Go.RowKit
set_option maxRecDepth 20000
set_option maxHeartbeats 4000000
def fewB (v:List (List UInt8)):Bool:=v.all fun l=>decide (l.length≤40)
def plainT (f:FacT):Bool:=decide (f.name.length≤100)&&decide (f.kind.length≤100)&&decide (f.tol.length≤40)&&decide (f.step.length≤40)
def lightG (g:GraT):Bool:=decide (g.name.length≤100)&&decide (g.least.length≤20)&&decide (g.most.length≤20)&&fewB g.least&&fewB g.most
def lightB (s:SchT):Bool:=decide (s.fs.length≤12)&&decide (s.gs.length≤20)&&s.fs.all plainT&&s.gs.all lightG
theorem fewB_ok {v:List (List UInt8)}(h:fewB v=true):∀ l∈v,l.length≤40:=fun l hl=>of_decide_eq_true (List.all_eq_true.1 h l hl)
theorem light_few {s:SchT}(h:lightB s=true):s.few:=by
 simp only [lightB,Bool.and_eq_true,decide_eq_true_eq,List.all_eq_true] at h;obtain ⟨⟨⟨h1,h2⟩,h3⟩,h4⟩:=h;refine ⟨by omega,by omega,fun f hf=>?_,fun g hg=>?_⟩
 ·have:=h3 f hf
  simp only [plainT,Bool.and_eq_true,decide_eq_true_eq] at this;obtain ⟨⟨⟨q1,q2⟩,q3⟩,q4⟩:=this;exact ⟨by omega,by omega,by omega,by omega⟩
 ·have:=h4 g hg
  simp only [lightG,Bool.and_eq_true,decide_eq_true_eq] at this;obtain ⟨⟨⟨⟨q1,q2⟩,q3⟩,q4⟩,q5⟩:=this;exact ⟨by omega,by omega,by omega,fun l hl=>by have:=fewB_ok q4 l hl;omega,fun l hl=>by have:=fewB_ok q5 l hl;omega⟩
theorem all_take {α:Type}{l:List α}{p:α→Bool}{k:Nat}{x:α}(hx:l[k]? = some x)(h:(l.take k).all p=true)(hp:p x=true):(l.take (k+1)).all p=true:=by
 rw [List.take_add_one,hx,List.all_append,h];simp [hp]
theorem all_not {α:Type}{l:List α}{p:α→Bool}{k:Nat}{x:α}(hx:l[k]? = some x)(hp:p x=false):l.all p=false:=by
 cases h:l.all p
 ·rfl
 ·rw [List.all_eq_true.1 h x (List.mem_of_getElem? hx)] at hp;exact hp
theorem gt_dec {a b:Nat}:decide ((a:Int)>(b:Int)) = !decide (a≤b):=by
 by_cases h:a≤b
 ·rw [decide_eq_false (by omega),decide_eq_true h];rfl
 ·rw [decide_eq_true (by omega),decide_eq_false h];rfl
theorem le_dec {a b:Nat}:decide ((a:Int)≤(b:Int))=decide (a≤b):=decide_eq_decide.2 (by omega)
theorem few_g (b:Bool)(v:List (List UInt8))(hl:v.length≤9223372036854775807):ICalls C0 9 [.sl b 1 (v.map fun l=>str (sb l))] (boo (fewB v)):=by
 refine ICallP.walk w1 fok9 rfl fun F=>?_
 have el:(((v.map fun l=>str (sb l)).length:Nat):Int)=(v.length:Int):=by rw [List.length_map]
 refine sR 0 ?_;refine OkS.seq ?_;refine sZ 100 ?_;refine nwI el ?_;refine OkS.block ?_;refine OkS.loop (α:=Nat × Nat) (fun p=>⟨[(5,.sl b 1 (v.map fun l=>str (sb l))),(6,i64 v.length),(7,i64 (p.1:Int))],[],p.2⟩) (fun p=>v.length - p.1) (fun p=>p.1≤v.length∧(v.take p.1).all (fun l=>decide (l.length≤40))=true) (0,_) ⟨Nat.zero_le _,rfl⟩ wkI ?_;rintro ⟨i,n⟩ F ⟨hi,ha⟩;dsimp only at hi ha ⊢;refine sR 200 ?_;refine OkS.seq ?_;refine ifI ?_
 (refine brI (fun hlt=>?_) (fun hlt=>?_))<;>(try simp only [Bool.not_eq_true',Bool.not_eq_false'] at hlt)<;>(try simp only [hlt])
 ·have hi2:i<v.length:=by
   have:=of_decide_eq_true hlt
   omega
  have hm:=lv_map hi2;have hx:=lv_some hi2;have wi:IntKind.i64.wrap ((i:Int)+1)=((i+1:Nat):Int):=wI (by omega) (by omega);obtain ⟨l,hl'⟩:∃ l,lv v i=l:=⟨_,rfl⟩
  rw [hl'] at hm hx;have hsz:=sb_size l;refine skI ?_;refine OkS.seq ?_;refine OkS.block ?_;refine sZ 300 ?_;refine gwI kN ?_;refine ixI kT hm ?_;refine gwI kN ?_
  by_cases g:l.length≤40
  ·have e5:decide ((l.length:Int)>40)=false:=decide_eq_false (by omega)
   refine sZ 400 ?_;refine nwI (ff2 hsz e5) ?_;refine ifI ?_;refine skI ?_;refine OkS.reg w1 600 (by kernel_rfl) ?_;refine nwI wi ?_;exact ⟨(i+1,_),⟨hi2,all_take hx ha (decide_eq_true g)⟩,by dsimp only;omega,wkI⟩
  ·have e5:decide ((l.length:Int)>40)=true:=decide_eq_true (by omega)
   refine sZ 400 ?_;refine nwI (ff2 hsz e5) ?_;refine ifI ?_;refine sR 500 ?_;refine rtI ?_;exact exact_res (by unfold fewB;rw [all_not hx (decide_eq_false g)]) IsPure.out
 have hi2:i=v.length:=by
  have:=of_decide_eq_false hlt
  omega
 subst hi2;refine exI ?_;refine sR 700 ?_;refine rtI ?_;exact exact_res (by unfold fewB;rw [List.take_length] at ha;rw [ha]) IsPure.out
theorem plain_g (f:FacT):ICalls C0 65 [f.D] (boo (plainT f)):=by
 refine ICallP.walk w1 fok65 rfl fun F=>?_
 have cf:=few_g true [f.tol,f.step] (by simp);have hr:plainT f=(decide (f.name.length≤100)&&(decide (f.kind.length≤100)&&fewB [f.tol,f.step])):=by
  unfold plainT fewB;simp only [List.all_cons,List.all_nil,Bool.and_true,Bool.and_assoc]
 rw [hr];have z1:=sb_size f.name;have z2:=sb_size f.kind;dsimp only [List.map] at cf;unfold FacT.D;obtain ⟨q,hq⟩:∃ q,fewB [f.tol,f.step]=q:=⟨_,rfl⟩
 rw [hq] at cf ⊢;have d1:decide ((f.name.length:Int)≤100)=decide (f.name.length≤100):=decide_eq_decide.2 (by omega);have d2:decide ((f.kind.length:Int)≤100)=decide (f.kind.length≤100):=decide_eq_decide.2 (by omega);refine sR 0 ?_
 by_cases g1:f.name.length≤100
 rotate_left
 ·rw [decide_eq_false g1] at d1 ⊢
  refine sZ 100 ?_;refine nwI (ff2 z1 d1) ?_;refine gwI kB ?_
  try simp only [implies_true]
  refine gwI kB ?_
  try simp only [implies_true]
  refine gwI kB ?_;refine rtI ?_;exact exact_res rfl IsPure.out
 rw [decide_eq_true g1] at d1 ⊢
 by_cases g2:f.kind.length≤100
 rotate_left
 ·rw [decide_eq_false g2] at d2 ⊢
  refine sZ 100 ?_;refine nwI (ff2 z1 d1) ?_;refine gwI kB ?_
  try simp only [z2,d2,implies_true]
  refine gwI kB ?_
  try simp only [implies_true]
  refine gwI kB ?_;refine rtI ?_;exact exact_res rfl IsPure.out
 rw [decide_eq_true g2] at d2 ⊢;refine sZ 100 ?_;refine nwI (ff2 z1 d1) ?_;refine gwI kB ?_
 try simp only [z2,d2,implies_true]
 refine gwI kB ?_
 try simp only [implies_true]
 refine gcI kB ?_;refine CallO.same _ cf inferInstance ?_;refine gwI kB ?_
 try simp only [implies_true]
 refine rtI ?_;exact exact_res rfl IsPure.out
def SchT.fit (s:SchT):Prop:=s.fs.length≤9223372036854775807∧s.gs.length≤9223372036854775807∧∀ g∈s.gs,g.least.length≤9223372036854775807∧g.most.length≤9223372036854775807
theorem light_g (s:SchT)(hs:s.fit):ICalls C0 15 [s.D] (boo (lightB s)):=by
 refine ICallP.walk w1 fok15 rfl fun F=>?_
 have fl:(((s.fs.map FacT.D).length:Nat):Int)=(s.fs.length:Int):=by rw [List.length_map]
 have gl:(((s.gs.map GraT.D).length:Nat):Int)=(s.gs.length:Int):=by rw [List.length_map]
 obtain ⟨ls,lg,lx⟩:=hs;have hmf:∀ i,i<s.fs.length→(s.fs.map FacT.D)[i]? = some (.agg [str (sb (s.fs.getD i default).name),str (sb (s.fs.getD i default).tol),str (sb (s.fs.getD i default).kind),str (sb (s.fs.getD i default).step)]):=fun i hi=>fv_map hi
 have hfs:∀ k,k<s.fs.length→s.fs[k]? = some (s.fs.getD k default):=fun k hk=>fv_some hk
 have hmg:∀ k,k<s.gs.length→(s.gs.map GraT.D)[k]? = some (.agg [str (sb (s.gs.getD k default).name),.sl false 1 ((s.gs.getD k default).least.map fun l=>str (sb l)),.sl false 1 ((s.gs.getD k default).most.map fun l=>str (sb l))]):=fun k hk=>gv_map hk
 have hgs:∀ k,k<s.gs.length→s.gs[k]? = some (s.gs.getD k default):=fun k hk=>gv_some hk
 have hL:lightB s=(decide (s.fs.length≤12)&&(decide (s.gs.length≤20)&&(s.fs.all plainT&&s.gs.all lightG))):=by
  unfold lightB;simp only [Bool.and_assoc]
 rw [hL];unfold SchT.D;obtain ⟨fsD,hfsD⟩:∃ x,s.fs.map FacT.D=x:=⟨_,rfl⟩
 obtain ⟨gsD,hgsD⟩:∃ x,s.gs.map GraT.D=x:=⟨_,rfl⟩
 have pf:IsPure (.sl false 4 fsD):=by rw [← hfsD];exact inferInstance
 have pg:IsPure (.sl false 3 gsD):=by rw [← hgsD];exact inferInstance
 rw [hfsD] at fl hmf ⊢;rw [hgsD] at gl hmg ⊢;obtain ⟨n,hn⟩:∃ n,s.fs.length=n:=⟨_,rfl⟩
 obtain ⟨m,hm⟩:∃ m,s.gs.length=m:=⟨_,rfl⟩
 have hnl:=hn;have hml:=hm;rw [hn] at fl ls hmf hfs ⊢;rw [hm] at gl lg hmg hgs ⊢;have d1:decide ((n:Int)>12) = !decide (n≤12):=gt_dec (b:=12);have d2:decide ((m:Int)>20) = !decide (m≤20):=gt_dec (b:=20);refine sR 0 ?_;refine OkS.seq ?_
 by_cases g1:n≤12
 rotate_left
 ·rw [decide_eq_false g1] at d1 ⊢
  refine sZ 100 ?_;refine nwI (ff3 fl d1 kF) ?_;refine gwI kB ?_
  try simp only [implies_true]
  refine gwI kB ?_;refine ifI ?_;refine sR 200 ?_;refine rtI ?_;exact exact_res rfl IsPure.out
 rw [decide_eq_true g1] at d1 ⊢
 by_cases g2:m≤20
 rotate_left
 ·rw [decide_eq_false g2] at d2 ⊢
  refine sZ 100 ?_;refine nwI (ff3 fl d1 kT) ?_;refine gwI kB ?_
  try simp only [gl,d2,Bool.not_false,implies_true]
  refine ifI ?_;refine sR 200 ?_;refine rtI ?_;exact exact_res rfl IsPure.out
 rw [decide_eq_true g2] at d2 ⊢;refine sZ 100 ?_;refine nwI (ff3 fl d1 kT) ?_;refine gwI kB ?_
 try simp only [gl,d2,Bool.not_true,implies_true]
 refine ifI ?_;refine skI ?_;rw [Bool.true_and,Bool.true_and];refine OkS.seq ?_;refine sZ 300 ?_;refine nwI fl ?_;refine OkS.block ?_;refine OkS.loop (α:=Nat × Nat) (fun q=>⟨[(1,.optr 0 0 2 0 0),(18,.sl false 4 fsD),(19,i64 (n:Int)),(20,i64 (q.1:Int))],[⟨0,0,39,2,[.agg [.sl false 4 fsD,.sl false 3 gsD]]⟩],q.2⟩) (fun q=>n - q.1) (fun q=>q.1≤n∧(s.fs.take q.1).all plainT=true) (0,_) ⟨Nat.zero_le _,rfl⟩ wkI ?_;rintro ⟨i,c⟩ F ⟨hi,ha⟩;dsimp only at hi ha ⊢;refine sR 400 ?_;refine OkS.seq ?_;refine ifI ?_
 (refine brI (fun hlt=>?_) (fun hlt=>?_))<;>(try simp only [Bool.not_eq_true',Bool.not_eq_false'] at hlt)<;>(try simp only [hlt])
 ·have hi2:i<n:=by
   have:=of_decide_eq_true hlt
   omega
  have hmi:=hmf i hi2;have hsi:=hfs i hi2;have wi:IntKind.i64.wrap ((i:Int)+1)=((i+1:Nat):Int):=wI (by omega) (by omega);obtain ⟨f,hf⟩:∃ f,s.fs.getD i default=f:=⟨_,rfl⟩
  rw [hf] at hmi hsi;have cp:=plain_g f;unfold FacT.D at cp;refine skI ?_;refine OkS.seq ?_;refine OkS.block ?_;refine sZ 500 ?_;refine gwI kN ?_;refine ixI kT hmi ?_;refine gwI kN ?_;cases hp:plainT f
  ·rw [hp] at cp
   refine sR 600 ?_;refine cI cp ?_;refine ifI ?_;refine sR 700 ?_;refine rtI ?_;exact exact_res (by rw [all_not hsi hp];rfl) IsPure.out
  ·rw [hp] at cp
   refine sR 600 ?_;refine cI cp ?_;refine ifI ?_;refine skI ?_;refine OkS.reg w1 800 (by kernel_rfl) ?_;refine nwI wi ?_;exact ⟨(i+1,_),⟨hi2,all_take hsi ha hp⟩,by dsimp only;omega,wkI⟩
 have hi2:i=n:=by
  have:=of_decide_eq_false hlt
  omega
 subst hi2;rw [show s.fs.all plainT=true by rw [← ha,← hnl,List.take_length],Bool.true_and];clear ha;refine exI ?_;refine OkS.seq ?_;refine sZ 900 ?_;refine nwI gl ?_;refine OkS.block ?_;refine OkS.loop (α:=Nat × Nat) (fun q=>⟨[(29,.sl false 3 gsD),(30,i64 (m:Int)),(31,i64 (q.1:Int))],[],q.2⟩) (fun q=>m - q.1) (fun q=>q.1≤m∧(s.gs.take q.1).all lightG=true) (0,_) ⟨Nat.zero_le _,rfl⟩ wkI ?_;rintro ⟨k,c⟩ F ⟨hk,ha⟩;dsimp only at hk ha ⊢;refine sR 1000 ?_;refine OkS.seq ?_;refine ifI ?_
 (refine brI (fun hlt2=>?_) (fun hlt2=>?_))<;>(try simp only [Bool.not_eq_true',Bool.not_eq_false'] at hlt2)<;>(try simp only [hlt2])
 ·have hk2:k<m:=by
   have:=of_decide_eq_true hlt2
   omega
  have hmk:=hmg k hk2;have hsk:=hgs k hk2;have lk:=lx _ (List.mem_of_getElem? hsk);have wi:IntKind.i64.wrap ((k:Int)+1)=((k+1:Nat):Int):=wI (by omega) (by omega);obtain ⟨g,hg⟩:∃ g,s.gs.getD k default=g:=⟨_,rfl⟩
  rw [hg] at hmk hsk lk;have c1:=few_g false g.least lk.1;have c2:=few_g false g.most lk.2;have hG:lightG g=(decide (g.name.length≤100)&&(decide (g.least.length≤20)&&(decide (g.most.length≤20)&&(fewB g.least&&fewB g.most)))):=by
   unfold lightG;simp only [Bool.and_assoc]
  have z1:=sb_size g.name;have z2:(((g.least.map fun l=>str (sb l)).length:Nat):Int)=(g.least.length:Int):=by rw [List.length_map]
  have z3:(((g.most.map fun l=>str (sb l)).length:Nat):Int)=(g.most.length:Int):=by rw [List.length_map]
  have y1:decide ((g.name.length:Int)>100) = !decide (g.name.length≤100):=gt_dec (b:=100);have y2:decide ((g.least.length:Int)>20) = !decide (g.least.length≤20):=gt_dec (b:=20);have y3:decide ((g.most.length:Int)>20) = !decide (g.most.length≤20):=gt_dec (b:=20);obtain ⟨b1,hb1⟩:∃ b,decide (g.name.length≤100)=b:=⟨_,rfl⟩
  obtain ⟨b2,hb2⟩:∃ b,decide (g.least.length≤20)=b:=⟨_,rfl⟩
  obtain ⟨b3,hb3⟩:∃ b,decide (g.most.length≤20)=b:=⟨_,rfl⟩
  obtain ⟨b4,hb4⟩:∃ b,fewB g.least=b:=⟨_,rfl⟩
  obtain ⟨b5,hb5⟩:∃ b,fewB g.most=b:=⟨_,rfl⟩
  rw [hb1] at y1 hG;rw [hb2] at y2 hG;rw [hb3] at y3 hG;rw [hb4] at c1 hG;rw [hb5] at c2 hG;refine skI ?_;refine OkS.seq ?_;refine OkS.block ?_;refine sZ 1100 ?_;refine gwI kN ?_;refine ixI kT hmk ?_;refine gwI kN ?_;cases b1
  ·refine sZ 1200 ?_
   refine nwI (ff4 z1 y1 kT kF) ?_;refine gwI kB ?_
   try simp only [implies_true]
   refine gwI kB ?_
   try simp only [implies_true]
   refine gwI kB ?_
   try simp only [implies_true]
   refine gwI kB ?_;refine ifI ?_;refine sR 1300 ?_;refine rtI ?_;exact exact_res (by rw [all_not hsk hG]) IsPure.out
  cases b2
  ·refine sZ 1200 ?_
   refine nwI (ff4 z1 y1 kT kF) ?_;refine gwI kB ?_
   try simp only [z2,y2,Bool.not_true,Bool.not_false,implies_true]
   refine gwI kB ?_
   try simp only [implies_true]
   refine gwI kB ?_
   try simp only [implies_true]
   refine gwI kB ?_;refine ifI ?_;refine sR 1300 ?_;refine rtI ?_;exact exact_res (by rw [all_not hsk hG]) IsPure.out
  cases b3
  ·refine sZ 1200 ?_
   refine nwI (ff4 z1 y1 kT kF) ?_;refine gwI kB ?_
   try simp only [z2,y2,Bool.not_true,Bool.not_false,implies_true]
   refine gwI kB ?_
   try simp only [z3,y3,Bool.not_true,Bool.not_false,implies_true]
   refine gwI kB ?_
   try simp only [implies_true]
   refine gwI kB ?_;refine ifI ?_;refine sR 1300 ?_;refine rtI ?_;exact exact_res (by rw [all_not hsk hG]) IsPure.out
  cases b4
  ·refine sZ 1200 ?_
   refine nwI (ff4 z1 y1 kT kF) ?_;refine gwI kB ?_
   try simp only [z2,y2,Bool.not_true,Bool.not_false,implies_true]
   refine gwI kB ?_
   try simp only [z3,y3,Bool.not_true,Bool.not_false,implies_true]
   refine gwI kB ?_;refine gcI kB ?_;refine CallO.same _ c1 inferInstance ?_;refine gwI kB ?_
   try simp only [implies_true]
   refine gwI kB ?_;refine ifI ?_;refine sR 1300 ?_;refine rtI ?_;exact exact_res (by rw [all_not hsk hG]) IsPure.out
  cases b5
  ·refine sZ 1200 ?_
   refine nwI (ff4 z1 y1 kT kF) ?_;refine gwI kB ?_
   try simp only [z2,y2,Bool.not_true,Bool.not_false,implies_true]
   refine gwI kB ?_
   try simp only [z3,y3,Bool.not_true,Bool.not_false,implies_true]
   refine gwI kB ?_;refine gcI kB ?_;refine CallO.same _ c1 inferInstance ?_;refine gwI kB ?_
   try simp only [implies_true]
   refine gwI kB ?_;refine gcI kB ?_;refine CallO.same _ c2 inferInstance ?_;refine gwI kB ?_
   try simp only [implies_true]
   refine ifI ?_;refine sR 1300 ?_;refine rtI ?_;exact exact_res (by rw [all_not hsk hG]) IsPure.out
  refine sZ 1200 ?_;refine nwI (ff4 z1 y1 kT kF) ?_;refine gwI kB ?_
  try simp only [z2,y2,Bool.not_true,Bool.not_false,implies_true]
  refine gwI kB ?_
  try simp only [z3,y3,Bool.not_true,Bool.not_false,implies_true]
  refine gwI kB ?_;refine gcI kB ?_;refine CallO.same _ c1 inferInstance ?_;refine gwI kB ?_
  try simp only [implies_true]
  refine gwI kB ?_;refine gcI kB ?_;refine CallO.same _ c2 inferInstance ?_;refine gwI kB ?_
  try simp only [implies_true]
  refine ifI ?_;refine skI ?_;refine OkS.reg w1 1400 (by kernel_rfl) ?_;refine nwI wi ?_;exact ⟨(k+1,_),⟨hk2,all_take hsk ha hG⟩,by dsimp only;omega,wkI⟩
 have hk2:k=m:=by
  have:=of_decide_eq_false hlt2
  omega
 subst hk2;rw [show s.gs.all lightG=true by rw [← ha,← hml,List.take_length]];refine exI ?_;refine sR 1500 ?_;refine rtI ?_;exact exact_res rfl IsPure.out
end Go.Ide
namespace Go.Ide
open Go.Proofs Go.RowKit Go.ChangeShapes Go.WideShapes
def stF (P:Program)(t:Nat):Option (List (Nat × Nat × Nat)):=match P.underlying t with
 | some (.struct fs)=>some (fs.toList.map fun f=>(f.type,f.offset,P.cellsOf f.type))
 | _=>none
section
variable {H:Type} {enc:TypeId × Value→H} {W:World} {fuel:Nat} {cs:List Value} {x:DataW H × List MemPlace} {t:TypeId}
theorem rd_st {l:List (Nat × Nat × Nat)}{m:Nat}(hs:stF Tryz.prog t=some l)(hm:Tryz.prog.cellsOf t=m)(h:DataW.trod enc Tryz.prog W 0 (fun _=>true) true fuel t cs=some x) :
  cs.length=m∧∃ n,∀ (i u off k:Nat),l[i]? = some (u,off,k)→∃ y,DataW.trod enc Tryz.prog W 0 (fun _=>true) true n u ((cs.drop off).take k)=some y:=by
 unfold stF at hs;split at hs
 ·rename_i fs hu
  obtain ⟨h1,n,h2⟩:=rd_fields hu h;refine ⟨h1.trans hm,n,fun i u off k hl=>?_⟩;obtain rfl:=Option.some.inj hs;rw [List.getElem?_map] at hl;obtain ⟨f,hf,he⟩:=Option.map_eq_some_iff.1 hl;cases he;exact h2 i f (by rw [← Array.getElem?_toList];exact hf)
 ·cases hs
theorem rd_app {a b c:Nat}{p q:List D}(h:RdOk W ((cs.drop a).take b) p)(k:RdOk W ((cs.drop (a+b)).take c) q):RdOk W ((cs.drop a).take (b+c)) (p++q):=by
 rw [List.take_add,List.drop_drop];exact h.append k
theorem rd_all {n:Nat}{p:List D}(hn:cs.length=n)(h:RdOk W ((cs.drop 0).take n) p):RdOk W cs p:=by
 rw [List.drop_zero,← hn,List.take_length] at h;exact h
theorem rd_rat (h:DataW.trod enc Tryz.prog W 0 (fun _=>true) true fuel 24 cs=some x):∃ l:List UInt8,RdOk W cs (str (sb l)).cells∧l.length≤maxLen:=rd_str (by kernel_rfl) h
theorem rd_string (h:DataW.trod enc Tryz.prog W 0 (fun _=>true) true fuel 9 cs=some x):∃ l:List UInt8,RdOk W cs [str (sb l)]∧l.length≤maxLen:=rd_str (by kernel_rfl) h
theorem rd_rats (h:DataW.trod enc Tryz.prog W 0 (fun _=>true) true fuel 40 cs=some x):∃ l:List (List UInt8),RdOk W cs [.sl false 1 (l.map fun l=>str (sb l))]∧(∀ a∈l,a.length≤maxLen)∧l.length≤maxLen :=
 rd_sl (g:=fun l:List UInt8=>str (sb l)) (ok:=fun l=>l.length≤maxLen) (e:=24) (by kernel_rfl) (by kernel_rfl) (by decide) (fun _ _ _ h=>rd_rat h) h
theorem rd_factor (h:DataW.trod enc Tryz.prog W 0 (fun _=>true) true fuel 96 cs=some x):∃ f:FacT,RdOk W cs f.D.cells∧True:=by
 obtain ⟨h1,n,h2⟩:=rd_st (l:=[(9,0,1),(24,1,1),(94,2,2)]) (m:=4) (by kernel_rfl) (by kernel_rfl) h;obtain ⟨y0,k0⟩:=h2 0 _ _ _ rfl;obtain ⟨y1,k1⟩:=h2 1 _ _ _ rfl;obtain ⟨y2,k2⟩:=h2 2 _ _ _ rfl;obtain ⟨a0,r0,_⟩:=rd_string k0;obtain ⟨a1,r1,_⟩:=rd_rat k1;obtain ⟨h3,n',h4⟩:=rd_st (l:=[(9,0,1),(24,1,1)]) (m:=2) (by kernel_rfl) (by kernel_rfl) k2;obtain ⟨z0,j0⟩:=h4 0 _ _ _ rfl;obtain ⟨z1,j1⟩:=h4 1 _ _ _ rfl;obtain ⟨b0,s0,_⟩:=rd_string j0;obtain ⟨b1,s1,_⟩:=rd_rat j1;exact ⟨⟨a0,a1,b0,b1⟩,rd_all h1 (rd_app (b:=1) (c:=3) r0 (rd_app (b:=1) (c:=2) r1 (rd_all h3 (rd_app (b:=1) (c:=1) s0 s1)))),trivial⟩
def gfit (g:GraT):Prop:=g.least.length≤maxLen∧g.most.length≤maxLen
theorem rd_grade (h:DataW.trod enc Tryz.prog W 0 (fun _=>true) true fuel 56 cs=some x):∃ g:GraT,RdOk W cs g.D.cells∧gfit g:=by
 obtain ⟨h1,n,h2⟩:=rd_st (l:=[(9,0,1),(40,1,1),(40,2,1)]) (m:=3) (by kernel_rfl) (by kernel_rfl) h;obtain ⟨y0,k0⟩:=h2 0 _ _ _ rfl;obtain ⟨y1,k1⟩:=h2 1 _ _ _ rfl;obtain ⟨y2,k2⟩:=h2 2 _ _ _ rfl;obtain ⟨a0,r0,_⟩:=rd_string k0;obtain ⟨a1,r1,_,l1⟩:=rd_rats k1;obtain ⟨a2,r2,_,l2⟩:=rd_rats k2;exact ⟨⟨a0,a1,a2⟩,rd_all h1 (rd_app (b:=1) (c:=2) r0 (rd_app (b:=1) (c:=1) r1 r2)),l1,l2⟩
theorem rd_scheme (h:DataW.trod enc Tryz.prog W 0 (fun _=>true) true fuel 39 cs=some x):∃ s:SchT,RdOk W cs s.D.cells∧s.fit:=by
 obtain ⟨h1,n,h2⟩:=rd_st (l:=[(36,0,1),(37,1,1)]) (m:=2) (by kernel_rfl) (by kernel_rfl) h;obtain ⟨y0,k0⟩:=h2 0 _ _ _ rfl;obtain ⟨y1,k1⟩:=h2 1 _ _ _ rfl;obtain ⟨a0,r0,_,l0⟩:=rd_sl (g:=FacT.D) (ok:=fun _=>True) (e:=96) (sz:=4) (by kernel_rfl) (by kernel_rfl) (by decide) (fun _ _ _ h=>rd_factor h) k0;obtain ⟨a1,r1,g1,l1⟩:=rd_sl (g:=GraT.D) (ok:=gfit) (e:=56) (sz:=3) (by kernel_rfl) (by kernel_rfl) (by decide) (fun _ _ _ h=>rd_grade h) k1;have hM:maxLen≤9223372036854775807:=by decide
 exact ⟨⟨a0,a1⟩,rd_all h1 (rd_app (b:=1) (c:=1) r0 r1),by dsimp only;omega,by dsimp only;omega,fun g hg=>⟨Nat.le_trans (g1 g hg).1 hM,Nat.le_trans (g1 g hg).2 hM⟩⟩
end
end Go.Ide
namespace Go.Ide
open Go.Proofs Go.RowKit
set_option maxRecDepth 20000
set_option maxHeartbeats 4000000
def limsD (a b:List UInt8):D:=.agg (limsQ (decide (a=[])) (decide (b=[])) a b)
instance  (a b:List UInt8):CellsPure (limsD a b):=by unfold limsD;exact inferInstance
instance  (a b:List UInt8):IsPure (limsD a b):=by unfold limsD;exact inferInstance
def within (a b:List UInt8)(x:Rat):Bool:=(decide (a=[])||decide (cmpQ x (ratOf a)≥0))&&(decide (b=[])||decide (cmpQ x (ratOf b)≤0))
theorem holds_ok (a b:List UInt8)(x:Rat)(y:GF)(hx:FR x y 600)(ha:limE a=0)(hb:limE b=0):ICalls C0 94 [limsD a b,y.D] (boo (within a b x)):=by
 refine ICallP.walk w1 fok94 rfl fun F=>?_
 obtain ⟨qa,ga⟩:∃ q,decide (a=[])=q:=⟨_,rfl⟩
 obtain ⟨qb,gb⟩:∃ q,decide (b=[])=q:=⟨_,rfl⟩
 obtain ⟨p,hp⟩:∃ q,decide (cmpQ x (ratOf a)≥0)=q:=⟨_,rfl⟩
 obtain ⟨q,hq⟩:∃ q,decide (cmpQ x (ratOf b)≤0)=q:=⟨_,rfl⟩
 have c1:qa=false→ICalls C0 121 [y.D,(limF a).D] (i64 (cmpQ x (ratOf a))):=fun h=>fcmp_g hx (limF_fr ha (of_decide_eq_false (ga.trans h))) (by decide)
 have c2:qb=false→ICalls C0 121 [y.D,(limF b).D] (i64 (cmpQ x (ratOf b))):=fun h=>fcmp_g hx (limF_fr hb (of_decide_eq_false (gb.trans h))) (by decide)
 have hw:within a b x=((qa||p)&&(qb||q)):=by unfold within;rw [ga,gb,hp,hq]
 unfold limsD;rw [hw,ga,gb];clear hw ga gb;cases qa<;>cases qb<;>cases p<;>cases q
 all_goals
  refine goI dr0 (ff2 hp hq) c1 c2 trivial trivial trivial trivial ?_;exact exact_res rfl IsPure.out
end Go.Ide
namespace Go.Ide
abbrev drFc_99:Dr:=[(4,[0,1,2,3,4],[5])]
open Go.Proofs Go.RowKit
set_option maxRecDepth 20000
set_option maxHeartbeats 4000000
theorem ltT {i n:Nat}(h:i<n):decide ((i:Int)<(n:Int))=true:=decide_eq_true (by omega)
theorem ltF {i n:Nat}(h:n≤i):decide ((i:Int)<(n:Int))=false:=decide_eq_false (by omega)
theorem wiI {i:Nat}(h:i<9223372036854775807):IntKind.i64.wrap ((i:Int)+1)=((i+1:Nat):Int):=wI (by omega) (by omega)
abbrev LP:=List UInt8 × List UInt8
def pv (r:List LP)(k:Nat):LP:=r.getD k ([],[])
def rowD (r:List LP):D:=.sl false 10 (r.map fun p=>limsD p.1 p.2)
instance  (r:List LP):CellsPure (rowD r):=by unfold rowD;exact inferInstance
instance  (r:List LP):IsPure (rowD r):=by unfold rowD;exact inferInstance
abbrev schD (n:Nat)(G:List (List LP)):D:=.agg [i64 (n:Int),.sl false 1 (G.map rowD)]
structure GridOk (n:Nat)(G:List (List LP)):Prop where
 num:n≤1000
 len:G.length≤1000
 row:∀ r∈G,r.length=n∧∀ p∈r,limE p.1=0∧limE p.2=0
def gradeOf (G:List (List LP))(k:Nat)(x:Rat):Nat:=G.findIdx fun r=>within (pv r k).1 (pv r k).2 x
theorem findIdx_at {α:Type}{p:α→Bool}{l:List α}{i:Nat}{x:α}(hx:l[i]? = some x)(h:p x=true)(ha:∀ (j:Nat) (y:α),j<i→l[j]? = some y→p y=false):l.findIdx p=i:=by
 obtain ⟨hi,e⟩:=List.getElem?_eq_some_iff.1 hx;exact (List.findIdx_eq hi).2 ⟨by rw [e];exact h,fun j hj=>ha j _ hj (List.getElem?_eq_getElem _)⟩
theorem findIdx_none {α:Type}{p:α→Bool}{l:List α}(ha:∀ (j:Nat) (y:α),j<l.length→l[j]? = some y→p y=false):l.findIdx p=l.length :=
 List.findIdx_eq_length.2 fun x hx=>by
  obtain ⟨j,hj,e⟩:=List.getElem_of_mem hx;exact ha j x hj (by rw [List.getElem?_eq_getElem hj,e])
theorem at_some {α:Type}{l:List α}{i:Nat}(h:i<l.length):∃ x,l[i]? = some x:=⟨l[i],List.getElem?_eq_getElem h⟩
theorem before_snoc {α:Type}{l:List α}{Q:α→Prop}{i:Nat}{x:α}(hx:l[i]? = some x)(ha:∀ (j:Nat) (y:α),j<i→l[j]? = some y→Q y)(h:Q x):∀ (j:Nat) (y:α),j<i+1→l[j]? = some y→Q y:=fun j y hj hy=>by
 rcases Nat.lt_or_ge j i with h1|h1
 ·exact ha j y h1 hy
 ·have:j=i:=by omega
  subst this;rw [hx] at hy;cases hy;exact h
theorem pv_some {r:List LP}{k:Nat}(h:k<r.length):r[k]? = some (pv r k):=by
 unfold pv;rw [List.getD_eq_getElem?_getD,List.getElem?_eq_getElem h];rfl
theorem scof_ok (n:Nat)(G:List (List LP))(hG:GridOk n G)(k:Nat)(hk:k<n)(x:Rat)(y:GF)(hx:FR x y 600):ICalls C0 99 [schD n G,i64 (k:Int),y.D] (i64 (gradeOf G k x:Nat)):=by
 refine ICallP.walk w1 fok99 rfl fun F=>?_
 have el:(((G.map rowD).length:Nat):Int)=(G.length:Int):=by rw [List.length_map]
 have hn:=hG.len;refine goI drFc_99 el trivial trivial trivial trivial trivial trivial ?_;refine OkS.loop (α:=Nat × Nat) (fun p=>⟨[(1,i64 (k:Int)),(3,.optr 0 0 2 0 0),(5,.optr 1 1 4 0 0),(10,.sl false 1 (G.map rowD)),(11,i64 (G.length:Int)),(12,i64 (p.1:Int))],[⟨1,1,113,4,[y.D]⟩,⟨0,0,134,2,[.agg [i64 (n:Int),.sl false 1 (G.map rowD)]]⟩],p.2⟩) (fun p=>G.length - p.1) (fun p=>p.1≤G.length∧∀ (j:Nat) (r:List LP),j<p.1→G[j]? = some r→within (pv r k).1 (pv r k).2 x=false) (0,_) ⟨Nat.zero_le _,fun j r hj=>absurd hj (Nat.not_lt_zero j)⟩ wkI ?_;rintro ⟨i,m⟩ F ⟨hi,ha⟩;dsimp only at hi ha ⊢;rcases Nat.lt_or_ge i G.length with h2|h2
 ·have e0:=ltT h2
  have wi:=wiI (i:=i) (by omega);obtain ⟨r,hr⟩:=at_some h2;have hm:(G.map rowD)[i]? = some (rowD r):=by rw [List.getElem?_map,hr];rfl
  obtain ⟨hl,hE⟩:=hG.row r (List.mem_of_getElem? hr);have hp:=pv_some (r:=r) (k:=k) (by omega);have hE2:=hE _ (List.mem_of_getElem? hp);have hm2:(r.map fun p=>limsD p.1 p.2)[k]? = some (limsD (pv r k).1 (pv r k).2):=by rw [List.getElem?_map,hp];rfl
  have c:=holds_ok (pv r k).1 (pv r k).2 x y hx hE2.1 hE2.2;obtain ⟨b,hb⟩:∃ b,within (pv r k).1 (pv r k).2 x=b:=⟨_,rfl⟩
  rw [hb] at c;cases b
  ·refine goI drFc_99 (ff2 e0 wi) hm hm2 c trivial trivial trivial ?_
   exact ⟨(i+1,_),⟨h2,before_snoc hr ha hb⟩,by dsimp only;omega,wkI⟩
  ·refine goI drFc_99 e0 hm hm2 c trivial trivial trivial ?_
   exact exact_res (by unfold gradeOf;rw [findIdx_at hr hb ha]) IsPure.out
 ·have e0:=ltF h2
  have:i=G.length:=by omega
  subst this;refine goI drFc_99 (ff2 e0 el) trivial trivial trivial trivial trivial trivial ?_;exact exact_res (by unfold gradeOf;rw [findIdx_none ha]) IsPure.out
end Go.Ide
namespace Go.Ide
open Go.Proofs Go.RowKit
set_option maxRecDepth 20000
set_option maxHeartbeats 4000000
abbrev txD (b:Bool)(v:List (List UInt8)):D:=.sl b 1 (v.map fun l=>str (sb l))
def frD (v:List (List UInt8)):D:=.sl false 4 (v.map fun l=>(fromF l).D)
instance  (l:List UInt8):CellsPure (fromF l).D:=by unfold GF.D;exact inferInstance
instance  (v:List (List UInt8)):CellsPure (frD v):=by unfold frD;exact inferInstance
instance  (v:List (List UInt8)):IsPure (frD v):=by unfold frD;exact inferInstance
theorem chkRow_zero {v:List (List UInt8)}(h:chkRow v=0):∀ l∈v,chk l=0:=by
 induction v with
 | nil=>intro l hl;cases hl
 | cons a r ih =>
  have h':(if chk a≠0 then chk a else chkRow r)=0:=h
  by_cases g:chk a=0
  ·rw [if_neg (fun k=>k g)] at h'
   intro l hl;rcases List.mem_cons.1 hl with rfl|h2
   ·exact g
   ·exact ih h' l h2
  ·rw [if_pos g] at h';exact absurd h' g
theorem chkRow_at {v:List (List UInt8)}{i:Nat}{l:List UInt8}(ha:∀ (j:Nat) (y:List UInt8),j<i→v[j]? = some y→chk y=0)(hl:v[i]? = some l)(h:chk l≠0):chkRow v=chk l:=by
 rw [chkRow_take ha,List.drop_eq_getElem_cons (List.getElem?_eq_some_iff.1 hl).1,(List.getElem?_eq_some_iff.1 hl).2];exact if_pos h
theorem chkRow_end {v:List (List UInt8)}(ha:∀ (j:Nat) (y:List UInt8),j<v.length→v[j]? = some y→chk y=0):chkRow v=0:=by
 rw [chkRow_take (i:=v.length) ha,List.drop_length];rfl
theorem lv_at {v:List (List UInt8)}{i:Nat}{l:List UInt8}(h:v[i]? = some l):lv v i=l:=by
 unfold lv;rw [List.getD_eq_getElem?_getD,h];rfl
theorem fromAll_ok (b:Bool)(v:List (List UInt8))(hl:v.length≤100000)(hf:∀ l∈v,l.length≤100000)(hc:chkRow v=0):ICalls C0 108 [txD b v] (frD v):=by
 refine ICallP.walk w1 fok108 rfl fun F=>?_
 have el:(((v.map fun l=>str (sb l)).length:Nat):Int)=(v.length:Int):=by rw [List.length_map]
 refine goI dr0 (ff2 el kN) trivial trivial trivial trivial trivial trivial ?_;refine OkS.loop (α:=Nat × List D × Nat) (fun p=>⟨[(3,.osl 102 3 4 0 v.length),(9,txD b v),(10,i64 (v.length:Int)),(11,i64 (p.1:Int))],[⟨102,3,113,4,p.2.1⟩],p.2.2⟩) (fun p=>v.length - p.1)
  (fun p=>p.1≤v.length∧p.2.1.length=v.length∧∀ (j:Nat) (l:List UInt8),j<p.1→v[j]? = some l→p.2.1[j]? = some (fromF l).D) (0,List.replicate v.length (.agg [i64 0,nilS,i64 0,nilS]),_) ⟨Nat.zero_le _,List.length_replicate,fun j r hj=>absurd hj (Nat.not_lt_zero j)⟩ wkI ?_
 rintro ⟨i,L,m⟩ F ⟨hi,hL,ha⟩;dsimp only at hi hL ha ⊢;rcases Nat.lt_or_ge i v.length with h2|h2
 ·have e0:=ltT h2
  have wi:=wiI (i:=i) (by omega);obtain ⟨l,hl2⟩:=at_some h2;have hm:(v.map fun l=>str (sb l))[i]? = some (str (sb l)):=by rw [List.getElem?_map,hl2];rfl
  have hmem:=List.mem_of_getElem? hl2;have c:=from_c (hf l hmem) (chkRow_zero hc l hmem);obtain ⟨z,hz⟩:∃ z,L[i]? = some z:=at_some (by omega);refine goI dr0 (ff5 e0 wi hz kN Nat.zero_add) hm c trivial trivial trivial trivial ?_;refine ⟨(i+1,L.set i (fromF l).D,_),⟨h2,by rw [List.length_set];exact hL,fun j y hj hy=>?_⟩,by dsimp only;omega,wkI⟩;dsimp only at hj ⊢;rcases Nat.decEq j i with hne|rfl
  ·rw [List.getElem?_set_ne (fun h=>hne h.symm)];exact ha j y (by omega) hy
  ·rw [List.getElem?_set_self (by omega)]
   rw [hl2] at hy;cases hy;rfl
 ·have e0:=ltF h2
  have:i=v.length:=by omega
  subst this;have hLe:L=v.map fun l=>(fromF l).D:=List.ext_getElem? fun j=>by
   rw [List.getElem?_map];rcases Nat.lt_or_ge j v.length with h|h
   ·obtain ⟨y,hy⟩:=at_some h
    rw [hy,ha j y h hy];rfl
   ·rw [List.getElem?_eq_none (by omega),List.getElem?_eq_none h];rfl
  refine goI dr0 e0 trivial trivial trivial trivial trivial trivial ?_;have hz:=fz_osl 102 3 113 4 L;rw [hL] at hz;exact ⟨_,hz,by rw [hLe];exact (inferInstance:IsPure (frD v)).out,by rw [hLe];rfl⟩
end Go.Ide
namespace Go.Ide
open Go.Proofs Go.RowKit
set_option maxRecDepth 20000
set_option maxHeartbeats 4000000
def chkVals (n:Nat)(v:List (List UInt8)):Nat:=if v.length=n then chkRow v else 2
def valsD (n:Nat)(v:List (List UInt8)):D:=if chkVals n v=0 then frD v else nilS
instance  (n:Nat)(v:List (List UInt8)):IsPure (valsD n v):=by unfold valsD;split<;>exact inferInstance
theorem bneN {a b:Nat}(h:a≠b):(((a:Nat):Int) != (b:Int))=true:=by
 have:(((a:Nat):Int)==(b:Int))=false:=beq_eq_false_iff_ne.2 (by omega)
 unfold bne;rw [this];rfl
theorem bneE {a b:Nat}(h:a=b):(((a:Nat):Int) != (b:Int))=false:=by subst h;simp
theorem bne0 {a:Nat}(h:a≠0):(((a:Nat):Int) != 0)=true:=bne_int (by omega)
theorem bneZ {a:Nat}(h:a=0):(((a:Nat):Int) != 0)=false:=by subst h;rfl
theorem beq0 {a:Nat}(h:a≠0):(((a:Nat):Int)==0)=false:=beq_eq_false_iff_ne.2 (by omega)
theorem beqZ {a:Nat}(h:a=0):(((a:Nat):Int)==0)=true:=by subst h;rfl
def Few (v:List (List UInt8)):Prop:=v.length≤100000∧∀ l∈v,l.length≤100000
theorem scvals_ok (n:Nat)(G:List (List LP))(hG:GridOk n G)(b:Bool)(v:List (List UInt8))(hf:Few v):ICalls C0 130 [schD n G,txD b v] (.tup [valsD n v,i64 (chkVals n v:Nat)]):=by
 refine ICallP.walk w1 fok130 rfl fun F=>?_
 have el:(((v.map fun l=>str (sb l)).length:Nat):Int)=(v.length:Int):=by rw [List.length_map]
 have hn:=hG.num;rcases Nat.decEq v.length n with h1|h1
 ·have e0:=bneN h1
  have hv:chkVals n v=2:=if_neg h1;have hd:valsD n v=nilS:=if_neg (by rw [hv];decide);rw [hv,hd];refine goI dr0 (ff2 el e0) trivial trivial trivial trivial trivial trivial ?_;exact exact_res rfl IsPure.out
 ·have e0:=bneE h1
  have hv:chkVals n v=chkRow v:=if_pos h1;have hvd:chkRow v≠0→valsD n v=nilS:=fun h=>if_neg (by rw [hv];exact h)
  have hvz:chkRow v=0→valsD n v=frD v:=fun h=>if_pos (by rw [hv];exact h)
  rw [hv];refine goI dr0 (ff2 el e0) trivial trivial trivial trivial trivial trivial ?_;refine OkS.loop (α:=Nat × Nat) (fun p=>⟨[(1,txD b v),(14,txD b v),(15,i64 (v.length:Int)),(16,i64 (p.1:Int))],[],p.2⟩) (fun p=>v.length - p.1)
   (fun p=>p.1≤v.length∧∀ (j:Nat) (l:List UInt8),j<p.1→v[j]? = some l→chk l=0) (0,_) ⟨Nat.zero_le _,fun j r hj=>absurd hj (Nat.not_lt_zero j)⟩ wkI ?_
  rintro ⟨i,m⟩ F ⟨hi,ha⟩;dsimp only at hi ha ⊢;have hl:=hf.1;rcases Nat.lt_or_ge i v.length with h2|h2
  ·have e1:=ltT h2
   have wi:=wiI (i:=i) (by omega);obtain ⟨l,hl2⟩:=at_some h2;have hm:(v.map fun l=>str (sb l))[i]? = some (str (sb l)):=by rw [List.getElem?_map,hl2];rfl
   have c:=check_ok l (hf.2 l (List.mem_of_getElem? hl2));rcases Nat.decEq (chk l) 0 with h3|h3
   ·have e2:=bne0 h3
    have hr:=chkRow_at ha hl2 h3;rw [hr,hvd (by rw [hr];exact h3)];refine goI dr0 (ff3 e1 e2 kN) hm c trivial trivial trivial trivial ?_;exact exact_res rfl IsPure.out
   ·have e2:=bneZ h3
    refine goI dr0 (ff4 e1 e2 wi kN) hm c trivial trivial trivial trivial ?_;exact ⟨(i+1,_),⟨h2,before_snoc hl2 ha h3⟩,by dsimp only;omega,wkI⟩
  ·have e1:=ltF h2
   have:i=v.length:=by omega
   subst this;have hr:=chkRow_end ha;have c:=fromAll_ok b v hf.1 hf.2 hr;rw [hr,hvz hr];refine goI dr0 e1 c trivial trivial trivial trivial trivial ?_;exact exact_res rfl IsPure.out
def maxTo (f:Nat→Nat):Nat→Nat
 | 0=>0
 | k+1=>max (maxTo f k) (f k)
def allOf (G:List (List LP))(v:List (List UInt8)):Nat:=maxTo (fun k=>gradeOf G k (ratOf (lv v k))) v.length
theorem gradeOf_le (G:List (List LP))(k:Nat)(x:Rat):gradeOf G k x≤G.length:=List.findIdx_le_length
theorem maxTo_le {f:Nat→Nat}{B:Nat}(h:∀ k,f k≤B):∀ k,maxTo f k≤B
 | 0=>Nat.zero_le _
 | k+1=>Nat.max_le.2 ⟨maxTo_le h k,h k⟩
theorem allOf_le (G:List (List LP))(v:List (List UInt8)):allOf G v≤G.length:=maxTo_le (fun k=>gradeOf_le G k _) _
theorem all_ok (n:Nat)(G:List (List LP))(hG:GridOk n G)(v:List (List UInt8))(hl:v.length=n)(hc:chkRow v=0):ICalls C0 92 [schD n G,frD v] (i64 (allOf G v:Nat)):=by
 refine ICallP.walk w1 fok92 rfl fun F=>?_
 have el:(((v.map fun l=>(fromF l).D).length:Nat):Int)=(v.length:Int):=by rw [List.length_map]
 have hn:=hG.num;have hlen:=hG.len;unfold frD;refine goI dr0 el trivial trivial trivial trivial trivial trivial ?_;refine OkS.loop (α:=Nat × Nat) (fun p=>⟨[(2,.optr 0 0 2 0 0),(5,i64 (maxTo (fun k=>gradeOf G k (ratOf (lv v k))) p.1:Nat)),(8,.sl false 4 (v.map fun l=>(fromF l).D)),(9,i64 (v.length:Int)),(10,i64 (p.1:Int))],[⟨0,0,134,2,[schD n G]⟩],p.2⟩) (fun p=>v.length - p.1) (fun p=>p.1≤v.length) (0,_) (Nat.zero_le _) wkI ?_;rintro ⟨i,m⟩ F hi;dsimp only at hi ⊢;rcases Nat.lt_or_ge i v.length with h2|h2
 ·have e1:=ltT h2
  have wi:=wiI (i:=i) (by omega);obtain ⟨l,hl2⟩:=at_some h2;have hm:(v.map fun l=>(fromF l).D)[i]? = some (fromF l).D:=by rw [List.getElem?_map,hl2];rfl
  have hx:=chk_fr (chkRow_zero hc l (List.mem_of_getElem? hl2));have c:=scof_ok n G hG i (by omega) _ _ hx;have hs:maxTo (fun k=>gradeOf G k (ratOf (lv v k))) (i+1)=max (maxTo (fun k=>gradeOf G k (ratOf (lv v k))) i) (gradeOf G i (ratOf l)):=by
   show max _ (gradeOf G i (ratOf (lv v i)))=_;rw [lv_at hl2]
  obtain ⟨A,hA⟩:∃ A,maxTo (fun k=>gradeOf G k (ratOf (lv v k))) i=A:=⟨_,rfl⟩
  obtain ⟨B,hB⟩:∃ B,gradeOf G i (ratOf l)=B:=⟨_,rfl⟩
  rw [hA,hB] at hs;rw [hB] at c;rw [hA];have hmx:(max (A:Int) (B:Int))=((max A B:Nat):Int):=by omega
  refine goI dr0 (ff4 e1 wi hmx kN) hm c trivial trivial trivial trivial ?_;exact ⟨(i+1,_),h2,by dsimp only;omega,by (dsimp only;rw [hs];exact wkI)⟩
 ·have e1:=ltF h2
  have:i=v.length:=by omega
  subst this;refine goI dr0 e1 trivial trivial trivial trivial trivial trivial ?_;exact exact_res rfl IsPure.out
end Go.Ide
namespace Go.Ide
open Go.Proofs Go.RowKit
set_option maxRecDepth 20000
set_option maxHeartbeats 4000000
theorem fz_accG {H Hf:Hp}{K g T sz:Nat}{l:List D}(h:l=[]∨Hp.get H K=some ⟨K,g,T,sz,l⟩)(hf:Hp.get Hf K=none):Fz H Hf (accD K g sz l) (.sl false sz l):=by
 cases l with
 | nil=>exact .nil sz
 | cons x l =>
  rcases h with h|h
  ·cases h
  refine .osl (e:=⟨K,g,T,sz,x::l⟩) h hf rfl rfl (by simp) (by simp) (fun j d d' h1 h2=>?_) fun j d d' q c c' h1 h2 h3 h4=>?_
  ·rw [Nat.zero_add] at h1;rw [h1] at h2;cases h2;rfl
  ·rw [Nat.zero_add] at h1;rw [h1] at h2;cases h2;rw [h3] at h4;cases h4;exact Fz.refl _
theorem fzh_acc {H Hf r r':Hp}{K g T sz:Nat}{l:List D}(h:FzH H Hf r r'):FzH H Hf (accH K g T sz l++r) r':=by
 cases l with
 | nil=>exact h
 | cons x l=>exact .drop h
theorem get_acc {K g T sz:Nat}{l:List D}{H:Hp}:l=[]∨Hp.get (accH K g T sz l++H) K=some ⟨K,g,T,sz,l⟩:=by
 cases l with
 | nil=>exact .inl rfl
 | cons x l=>right;simp [accH,Hp.get]
theorem get_accN {K k g T sz:Nat}{l:List D}(h:Nat.beq K k=false):Hp.get (accH K g T sz l) k=none:=by
 cases l with
 | nil=>rfl
 | cons x l=>simp [accH,Hp.get,h]
def gridOf (s:SchT):List (List LP):=s.gs.map fun g=>g.least.zip g.most
def schOk (s:SchT):Prop:=s.fs.length≤8∧s.gs.length≤16∧∀ g∈s.gs,gOk s.fs.length g
theorem zip_lv {g:GraT}{n k:Nat}(h:gOk n g)(hk:k<n):(g.least.zip g.most)[k]? = some (lv g.least k,lv g.most k):=by
 rw [List.getElem?_zip_eq_some];exact ⟨lv_some (by rw [h.1];exact hk),lv_some (by rw [h.2.1];exact hk)⟩
theorem zip_len {g:GraT}{n:Nat}(h:gOk n g):(g.least.zip g.most).length=n:=by rw [List.length_zip,h.1,h.2.1];exact Nat.min_self n
theorem grid_ok {s:SchT}(h:schOk s):GridOk s.fs.length (gridOf s):=by
 refine ⟨by have:=h.1;omega,by unfold gridOf;rw [List.length_map];have:=h.2.1;omega,fun r hr=>?_⟩;obtain ⟨g,hg,rfl⟩:=List.mem_map.1 hr;have hk:=h.2.2 g hg;refine ⟨zip_len hk,fun p hp=>?_⟩;obtain ⟨k,hk1,e⟩:=List.getElem_of_mem hp;rw [zip_len hk] at hk1
 have:=zip_lv hk hk1
 rw [List.getElem?_eq_getElem (by rw [zip_len hk];exact hk1),e] at this;cases this;exact hk.2.2 k hk1
theorem chk_schOk {s:SchT}(h:chkScheme s=0):schOk s:=by
 unfold chkScheme at h
 by_cases h1:cntF s.fs.length=0
 ·rw [if_neg (fun k=>k h1)] at h
  by_cases h2:fstE (chkFac s.fs) s.fs.length=0
  ·rw [if_neg (fun k=>k h2)] at h
   by_cases h3:cntG s.gs.length=0
   ·rw [if_neg (fun k=>k h3)] at h
    refine ⟨?_,?_,fun g hg=>?_⟩
    ·unfold cntF at h1
     by_cases q:s.fs.length=0
     ·omega
     ·rw [if_neg q] at h1
      by_cases q2:s.fs.length>8
      ·rw [if_pos q2] at h1;cases h1
      ·omega
    ·unfold cntG at h3
     by_cases q:s.gs.length=0
     ·omega
     ·rw [if_neg q] at h3
      by_cases q2:s.gs.length>16
      ·rw [if_pos q2] at h3;cases h3
      ·omega
    ·obtain ⟨i,hi,e⟩:=List.getElem_of_mem hg
     have:=chkGrade_ok (fstE_all h i hi)
     rw [List.getD_eq_getElem?_getD,List.getElem?_eq_getElem hi,e] at this;exact this
   ·rw [if_pos h3] at h;exact absurd h h3
  ·rw [if_pos h2] at h;exact absurd h h2
 ·rw [if_pos h1] at h;exact absurd h h1
def openD (s:SchT):D:=if chkScheme s=0 then schD s.fs.length (gridOf s) else .agg [i64 0,nilS]
instance  (s:SchT):IsPure (openD s):=by unfold openD;split<;>exact inferInstance
end Go.Ide
namespace Go.Ide
abbrev drFg_95:Dr:=[(12,[0,1,2,3,4,5,6,7,8,9,10,11,12,13,14],[15,16])]
open Go.Proofs Go.RowKit
set_option maxRecDepth 20000
set_option maxHeartbeats 4000000
theorem open_ok (s:SchT)(hs:s.few):ICalls C0 95 [s.D] (.tup [openD s,i64 (chkScheme s:Nat)]):=by
 refine ICallP.walk w1 fok95 rfl fun F=>?_
 have c1:=psch s hs;have el1:(((s.fs.map FacT.D).length:Nat):Int)=(s.fs.length:Int):=by rw [List.length_map]
 have el2:(((s.gs.map GraT.D).length:Nat):Int)=(s.gs.length:Int):=by rw [List.length_map]
 unfold SchT.D at c1 ⊢;rcases Nat.decEq (chkScheme s) 0 with h0|h0
 ·have e0:=bne0 h0
  have hd:openD s=.agg [i64 0,nilS]:=if_neg h0;rw [hd];refine goI drFg_95 e0 c1 trivial trivial trivial trivial trivial ?_;exact exact_res rfl IsPure.out
 have e0:=bneZ h0;have hd:openD s=schD s.fs.length (gridOf s):=if_pos h0;have hok:=chk_schOk h0;have hG:=grid_ok hok;rw [hd];rw [h0] at c1 e0 ⊢;obtain ⟨h8,h16,hgo⟩:=hok;obtain ⟨gsD,hgsD⟩:∃ x,s.gs.map GraT.D=x:=⟨_,rfl⟩
 obtain ⟨fsD,hfsD⟩:∃ x,s.fs.map FacT.D=x:=⟨_,rfl⟩
 obtain ⟨n,hn⟩:∃ n,s.fs.length=n:=⟨_,rfl⟩
 obtain ⟨N,hN⟩:∃ n,s.gs.length=n:=⟨_,rfl⟩
 have hrows:∀ i g,s.gs[i]? = some g→(gridOf s).take (i+1)=(gridOf s).take i++[g.least.zip g.most]:=fun i g h=>by
  rw [List.take_add_one]
  congr 1
  unfold gridOf;rw [List.getElem?_map,h];rfl
 have hgl:(gridOf s).length=N:=by unfold gridOf;rw [List.length_map,hN]
 have hfew:=hs.2.2.2;rw [hgsD,hN] at el2;rw [hfsD,hn] at el1;rw [hn] at hgo h8 ⊢;rw [hN] at h16;rw [hgsD,hfsD] at c1 ⊢;have pf:IsPure (.sl false 4 fsD):=by rw [← hfsD];exact inferInstance
 have pg:IsPure (.sl false 3 gsD):=by rw [← hgsD];exact inferInstance
 generalize hR0:gridOf s=G at *;refine goI drFg_95 (ff3 e0 el1 el2) c1 trivial trivial trivial trivial trivial ?_;refine OkS.loop (α:=Nat × List D × Nat × Nat) (fun p=>⟨[(1,.optr 0 0 2 0 0),(2,.optr 1 1 2 0 0),(5,.optr 404 12 2 0 0),(21,.sl false 3 gsD),(22,i64 (N:Int)),(23,i64 (p.1:Int))],
   [⟨404,12,134,2,[.agg [i64 (n:Int),accD 1404 p.2.2.1 1 p.2.1]]⟩,⟨1,1,134,2,[.agg [i64 0,nilS]]⟩,⟨0,0,39,2,[.agg [.sl false 4 fsD,.sl false 3 gsD]]⟩]++accH 1404 p.2.2.1 141 1 p.2.1,p.2.2.2⟩) (fun p=>N - p.1)
  (fun p=>p.1≤N∧p.2.1=(G.take p.1).map rowD) (0,[],0,_) ⟨Nat.zero_le _,rfl⟩ wkI ?_
 rintro ⟨i,R,g2,m⟩ F ⟨hi,hR⟩;dsimp only at hi hR ⊢;rcases Nat.lt_or_ge i N with h2|h2
 rotate_left
 ·have e1:=ltF h2
  have:i=N:=by omega
  subst this;have hRG:R=G.map rowD:=by rw [hR,← hgl,List.take_length]
  refine goI drFg_95 e1 trivial trivial trivial trivial trivial trivial ?_;refine ⟨.tup [schD n G,i64 0],.tup rfl fun j d d' h1 h2=>?_,IsPure.out,rfl⟩;rcases j with _|_|j
  ·cases h1;cases h2
   refine .agg rfl fun j d d' h1 h2=>?_
   rcases j with _|_|j
   ·cases h1;cases h2;exact .refl _
   ·cases h1;cases h2
    rw [← hRG];exact fz_accG (by cases R with|nil=>exact .inl rfl|cons x l=>right;rfl) rfl
   ·simp at h1
  ·cases h1;cases h2;exact .refl _
  ·simp at h1
 have e1:=ltT h2;have wi:=wiI (i:=i) (by omega);obtain ⟨g,hg⟩:∃ g,s.gs[i]? = some g:=at_some (by omega);have hm:gsD[i]? = some (.agg [str (sb g.name),.sl false 1 (g.least.map fun l=>str (sb l)),.sl false 1 (g.most.map fun l=>str (sb l))]):=by rw [← hgsD,List.getElem?_map,hg];rfl
 have hgk:=hgo g (List.mem_of_getElem? hg);have hgf:=hfew g (List.mem_of_getElem? hg);have hrow:=hrows i g hg;obtain ⟨A,hA⟩:∃ A,accD 1404 g2 1 R=A:=⟨_,rfl⟩
 obtain ⟨HH,hHH⟩:∃ A,accH 1404 g2 141 1 R=A:=⟨_,rfl⟩
 have hget:∀ k,Nat.beq 1404 k=false→Hp.get HH k=none:=fun k hk=>by rw [← hHH];exact get_accN hk
 obtain ⟨P,hP⟩:∃ P,g.least.zip g.most=P:=⟨_,rfl⟩
 have hPl:P.length=n:=by rw [← hP];exact zip_len hgk
 rw [hP] at hrow;rw [hA,hHH];refine goI drFg_95 (ff2 e1 el1) hm trivial trivial trivial trivial trivial ?_;have hzip:∀ k,k<n→P[k]? = some (lv g.least k,lv g.most k):=fun k hk=>by rw [← hP];exact zip_lv hgk hk
 refine OkS.loop (α:=Nat × List D × Nat × Nat × Nat) (fun p=>⟨[(1,.optr 0 0 2 0 0),(2,.optr 1 1 2 0 0),(5,.optr 404 12 2 0 0),(7,.optr 702 p.2.2.2.1 3 0 0),(8,accD 1215 p.2.2.1 10 p.2.1),(21,.sl false 3 gsD),(22,i64 (N:Int)),(23,i64 (i:Int)),(29,i64 (n:Int)),(30,i64 (p.1:Int))],
   accH 1215 p.2.2.1 140 10 p.2.1++([⟨702,p.2.2.2.1,56,3,[.agg [str (sb g.name),.sl false 1 (g.least.map fun l=>str (sb l)),.sl false 1 (g.most.map fun l=>str (sb l))]]⟩,⟨404,12,134,2,[.agg [i64 (n:Int),A]]⟩,⟨1,1,134,2,[.agg [i64 0,nilS]]⟩,⟨0,0,39,2,[.agg [.sl false 4 fsD,.sl false 3 gsD]]⟩]++HH),p.2.2.2.2⟩) (fun p=>n - p.1)
  (fun p=>p.1≤n∧p.2.1=(P.take p.1).map fun p=>limsD p.1 p.2) (0,[],0,_,_) ⟨Nat.zero_le _,rfl⟩ wkI ?_
 rintro ⟨k,L,g3,g4,m3⟩ F ⟨hk,hL⟩;dsimp only at hk hL ⊢;rcases Nat.lt_or_ge k n with h3|h3
 ·have e2:=ltT h3
  have wk:=wiI (i:=k) (by omega);have m1:=lv_map (l:=g.least) (k:=k) (by rw [hgk.1];exact h3);have m2:=lv_map (l:=g.most) (k:=k) (by rw [hgk.2.1];exact h3);have f1:=lv_few (l:=g.least) (k:=k) (by rw [hgk.1];exact h3) hgf.2.2.2.1;have f2:=lv_few (l:=g.most) (k:=k) (by rw [hgk.2.1];exact h3) hgf.2.2.2.2;have hE:=hgk.2.2 k h3;have hz:=hzip k h3;have hsn:(P.take (k+1)).map (fun p=>limsD p.1 p.2)=L++[limsD (lv g.least k) (lv g.most k)]:=by rw [hL,List.take_add_one,hz,List.map_append];rfl
  have hLl:L.length=k:=by rw [hL,List.length_map,List.length_take];omega
  have ca:=read_g _ f1 hE.1;have cb:=read_g _ f2 hE.2;have hLle:L.length≤8:=by omega
  clear hL;rcases L with _|⟨x,l⟩
  all_goals
   (try simp only [List.length_cons] at hLle)
   dsimp only [accD_nil,accH_nil,accD_cons,accH_cons]
  ·refine goI drFg_95 (ff3 e2 wk kN) m1 m2 ca cb trivial trivial ?_
   exact ⟨(k+1,[limsD (lv g.least k) (lv g.most k)],_,_,_),⟨h3,hsn.symm⟩,by dsimp only;omega,wkI⟩
  ·have htk:List.take (l.length+1) (x::l)=x::l:=by simp
   refine goI drFg_95 (ff4 e2 wk htk kN) m1 m2 ca cb trivial trivial ?_;exact ⟨(k+1,x::l++[limsD (lv g.least k) (lv g.most k)],_,_,_),⟨h3,hsn.symm⟩,by dsimp only;omega,by (dsimp only;rw [accD_snoc];exact wkI)⟩
 have e2:=ltF h3
 have:k=n:=by omega
 subst this;have hLr:L=P.map fun p=>limsD p.1 p.2:=by rw [hL,← hPl,List.take_length]
 refine sZ 1000 ?_;refine nwI e2 ?_;refine OkS.seq ?_;refine ifI ?_;refine exI ?_;refine OkS.weak ⟨[(1,.optr 0 0 2 0 0),(2,.optr 1 1 2 0 0),(5,.optr 404 12 2 0 0),(8,.sl false 10 (P.map fun p=>limsD p.1 p.2)),(21,.sl false 3 gsD),(22,i64 (N:Int)),(23,i64 (i:Int))],
   [⟨404,12,134,2,[.agg [i64 (k:Int),A]]⟩,⟨1,1,134,2,[.agg [i64 0,nilS]]⟩,⟨0,0,39,2,[.agg [.sl false 4 fsD,.sl false 3 gsD]]⟩]++HH,_⟩ ⟨?_,?_,Nat.le_refl _⟩ ?_
 ·exact fzh_acc (.drop (.keep (.keep (.keep (fzh_refl _)))))
 ·refine ⟨.refl _,.refl _,.refl _,?_,.refl _,.refl _,.refl _,trivial⟩
  rw [← hLr];exact fz_accG get_acc (hget _ rfl)
 clear hL hLr;have hsn:(G.take (i+1)).map rowD=R++[rowD P]:=by rw [hrow,List.map_append,← hR];rfl
 have hsr:rowD P=.sl false 10 (P.map fun p=>limsD p.1 p.2):=rfl;rw [hsr] at hsn;have hRl:R.length≤16:=by rw [hR,List.length_map,List.length_take];omega
 have pP:IsPure (rowD P):=inferInstance;rw [hsr] at pP;obtain ⟨PD,hPD⟩:∃ r,(P.map fun p=>limsD p.1 p.2)=r:=⟨_,rfl⟩
 rw [hPD] at pP ⊢;rw [hPD] at hsn;clear hR;rcases R with _|⟨x,l⟩
 ·subst hA hHH
  dsimp only [accD_nil,accH_nil,List.append_nil];refine rI 1400 ?_;refine OkS.perm (List.perm_append_comm (l₁:=[_]) (l₂:=[_,_,_])) ?_;refine goI drFg_95 wi trivial trivial trivial trivial trivial trivial ?_;exact ⟨(i+1,[.sl false 10 PD],_,_),⟨h2,hsn.symm⟩,by dsimp only;omega,wkI⟩
 ·subst hA hHH
  have htk:List.take (l.length+1) (x::l)=x::l:=by simp
  simp only [List.length_cons] at hRl;dsimp only [accD_cons,accH_cons];refine OkS.reg w1 1400 (by kernel_rfl) ?_;refine nwI htk ?_;refine OkS.perm (List.perm_append_comm (l₁:=[_]) (l₂:=[_,_,_])) ?_;refine goI drFg_95 wi trivial trivial trivial trivial trivial trivial ?_;exact ⟨(i+1,x::l++[.sl false 10 PD],_,_),⟨h2,hsn.symm⟩,by dsimp only;omega,by (dsimp only;rw [accD_snoc];exact wkI)⟩
end Go.Ide
namespace Go.Ide
abbrev drFh_38:Dr:=[(7,[0,1,2,3],[4,5])]
open Go.Proofs Go.RowKit
set_option maxRecDepth 20000
set_option maxHeartbeats 4000000
def unk (g:Int)(n:Nat):Nat:=if g<0∨(n:Int)≤g then 10 else 0
theorem unk_zero {g:Int}{n:Nat}(h:unk g n=0):∃ k:Nat,g=k∧k<n:=by
 unfold unk at h
 by_cases g1:g<0∨(n:Int)≤g
 ·rw [if_pos g1] at h;cases h
 ·exact ⟨g.toNat,by omega,by omega⟩
theorem unk1 {g:Int}{n:Nat}(h:g<0):unk g n=10:=if_pos (.inl h)
theorem unk2 {g:Int}{n:Nat}(h:(n:Int)≤g):unk g n=10:=if_pos (.inr h)
theorem unk3 {g:Int}{n:Nat}(h:¬ g<0)(k:¬ (n:Int)≤g):unk g n=0:=if_neg fun q=>q.elim h k
def chkV (s:SchT)(v:List (List UInt8)):Nat:=if chkScheme s=0 then chkVals s.fs.length v else chkScheme s
def chkG (s:SchT)(g:Int)(v:List (List UInt8)):Nat:=if chkScheme s=0 then (if unk g s.gs.length=0 then chkVals s.fs.length v else unk g s.gs.length) else chkScheme s
def chkF (s:SchT)(f:Int)(l:List UInt8):Nat:=if chkScheme s=0 then (if unk f s.fs.length=0 then chk l else unk f s.fs.length) else chkScheme s
theorem scgrade_ok (n:Nat)(G:List (List LP))(g:Int):ICalls C0 129 [schD n G,i64 g] (i64 (unk g G.length:Nat)):=by
 refine ICallP.walk w1 fok129 rfl fun F=>?_
 have el:(((G.map rowD).length:Nat):Int)=(G.length:Int):=by rw [List.length_map]
 by_cases h1:g<0
 ·have e1:decide (g<0)=true:=decide_eq_true h1
  refine goI dr0 e1 (when_ok true 10) trivial trivial trivial trivial trivial ?_;rw [unk1 h1];exact exact_res rfl IsPure.out
 ·have e1:decide (g<0)=false:=decide_eq_false h1
  by_cases h2:(G.length:Int)≤g
  ·have e2:decide (g≥(G.length:Int))=true:=decide_eq_true h2
   refine goI dr0 (ff3 e1 e2 el) (when_ok true 10) trivial trivial trivial trivial trivial ?_;rw [unk2 h2];exact exact_res rfl IsPure.out
  ·have e2:decide (g≥(G.length:Int))=false:=decide_eq_false h2
   refine goI dr0 (ff3 e1 e2 el) (when_ok false 10) trivial trivial trivial trivial trivial ?_;rw [unk3 h1 h2];exact exact_res rfl IsPure.out
theorem scfactor_ok (n:Nat)(G:List (List LP))(g:Int):ICalls C0 97 [schD n G,i64 g] (i64 (unk g n:Nat)):=by
 refine ICallP.walk w1 fok97 rfl fun F=>?_
 by_cases h1:g<0
 ·have e1:decide (g<0)=true:=decide_eq_true h1
  refine goI dr0 e1 (when_ok true 10) trivial trivial trivial trivial trivial ?_;rw [unk1 h1];exact exact_res rfl IsPure.out
 ·have e1:decide (g<0)=false:=decide_eq_false h1
  by_cases h2:(n:Int)≤g
  ·have e2:decide (g≥(n:Int))=true:=decide_eq_true h2
   refine goI dr0 (ff2 e1 e2) (when_ok true 10) trivial trivial trivial trivial trivial ?_;rw [unk2 h2];exact exact_res rfl IsPure.out
  ·have e2:decide (g≥(n:Int))=false:=decide_eq_false h2
   refine goI dr0 (ff2 e1 e2) (when_ok false 10) trivial trivial trivial trivial trivial ?_;rw [unk3 h1 h2];exact exact_res rfl IsPure.out
def okvD (e:Nat)(v:List (List UInt8)):D:=if e=0 then frD v else nilS
instance  (e:Nat)(v:List (List UInt8)):IsPure (okvD e v):=by unfold okvD;split<;>exact inferInstance
theorem openD_agg (s:SchT):∃ x y,openD s=.agg [i64 x,y]:=by
 unfold openD;split
 ·exact ⟨_,_,rfl⟩
 ·exact ⟨_,_,rfl⟩
theorem grid_len (s:SchT):(gridOf s).length=s.gs.length:=List.length_map ..
theorem valued_ok (s:SchT)(hs:s.few)(b:Bool)(v:List (List UInt8))(hf:Few v):ICalls C0 93 [s.D,txD b v] (.tup [openD s,okvD (chkV s v) v,i64 (chkV s v:Nat)]):=by
 refine ICallP.walk w1 fok93 rfl fun F=>?_
 have c1:=open_ok s hs;obtain ⟨q,hq⟩:∃ q,chkV s v=q:=⟨_,rfl⟩
 rw [hq];unfold SchT.D at c1 ⊢;rcases Nat.decEq (chkScheme s) 0 with h0|h0
 ·have e0:=bne0 h0
  have hd:openD s=.agg [i64 0,nilS]:=if_neg h0;have hv:q=chkScheme s:=by rw [← hq];exact if_neg h0
  have hd2:okvD q v=nilS:=if_neg (by rw [hv];exact h0);rw [hd2,hd];rw [hd] at c1;refine goI dr0 e0 c1 trivial trivial trivial trivial trivial ?_;exact exact_res (by rw [hv]) IsPure.out
 ·have e0:=bneZ h0
  have hd:openD s=schD s.fs.length (gridOf s):=if_pos h0;have hv:chkVals s.fs.length v=q:=by rw [← hq];exact (if_pos h0).symm
  have c2:=scvals_ok s.fs.length (gridOf s) (grid_ok (chk_schOk h0)) b v hf;have hd2:okvD q v=valsD s.fs.length v:=by unfold okvD valsD;rw [hv]
  rw [hd2,hd];rw [hd] at c1;rw [hv] at c2;refine goI dr0 e0 c1 c2 trivial trivial trivial trivial ?_;exact exact_res rfl IsPure.out
theorem graded_ok (s:SchT)(hs:s.few)(g:Int)(b:Bool)(v:List (List UInt8))(hf:Few v):ICalls C0 66 [s.D,i64 g,txD b v] (.tup [openD s,okvD (chkG s g v) v,i64 (chkG s g v:Nat)]):=by
 refine ICallP.walk w1 fok66 rfl fun F=>?_
 have c1:=open_ok s hs;obtain ⟨q,hq⟩:∃ q,chkG s g v=q:=⟨_,rfl⟩
 rw [hq];unfold SchT.D at c1 ⊢;rcases Nat.decEq (chkScheme s) 0 with h0|h0
 ·have e0:=bne0 h0
  have e1:=beq0 h0;have hd:openD s=.agg [i64 0,nilS]:=if_neg h0;have hv:q=chkScheme s:=by rw [← hq];exact if_neg h0
  have hd2:okvD q v=nilS:=if_neg (by rw [hv];exact h0);rw [hd2,hd];rw [hd] at c1;refine goI dr0 (ff2 e0 e1) c1 trivial trivial trivial trivial trivial ?_;exact exact_res (by rw [hv]) IsPure.out
 have e0:=beqZ h0;have hd:openD s=schD s.fs.length (gridOf s):=if_pos h0;have cg:=scgrade_ok s.fs.length (gridOf s) g;rw [grid_len] at cg;rcases Nat.decEq (unk g s.gs.length) 0 with h1|h1
 ·have e1:=bne0 h1
  have hv:q=unk g s.gs.length:=by rw [← hq];unfold chkG;rw [if_pos h0,if_neg h1]
  have hd2:okvD q v=nilS:=if_neg (by rw [hv];exact h1);rw [hd2,hd];rw [hd] at c1;refine goI dr0 (ff2 e0 e1) c1 cg trivial trivial trivial trivial ?_;exact exact_res (by rw [hv]) IsPure.out
 ·have e1:=bneZ h1
  have hv:chkVals s.fs.length v=q:=by rw [← hq];unfold chkG;rw [if_pos h0,if_pos h1]
  have c2:=scvals_ok s.fs.length (gridOf s) (grid_ok (chk_schOk h0)) b v hf;have hd2:okvD q v=valsD s.fs.length v:=by unfold okvD valsD;rw [hv]
  rw [hd2,hd];rw [hd] at c1;rw [hv] at c2;refine goI dr0 (ff2 e0 e1) c1 cg c2 trivial trivial trivial ?_;exact exact_res rfl IsPure.out
theorem chkV_ok {s:SchT}{v:List (List UInt8)}(h:chkV s v=0):chkScheme s=0∧v.length=s.fs.length∧chkRow v=0:=by
 unfold chkV at h
 by_cases h0:chkScheme s=0
 ·rw [if_pos h0] at h
  unfold chkVals at h
  by_cases h1:v.length=s.fs.length
  ·rw [if_pos h1] at h;exact ⟨h0,h1,h⟩
  ·rw [if_neg h1] at h;cases h
 ·rw [if_neg h0] at h;exact absurd h h0
theorem chkG_ok {s:SchT}{g:Int}{v:List (List UInt8)}(h:chkG s g v=0):chkScheme s=0∧unk g s.gs.length=0∧v.length=s.fs.length∧chkRow v=0:=by
 unfold chkG at h
 by_cases h0:chkScheme s=0
 ·rw [if_pos h0] at h
  by_cases h2:unk g s.gs.length=0
  ·rw [if_pos h2] at h
   have:=chkV_ok (s:=s) (v:=v) (by unfold chkV;rw [if_pos h0];exact h)
   exact ⟨h0,h2,this.2⟩
  ·rw [if_neg h2] at h;exact absurd h h2
 ·rw [if_neg h0] at h;exact absurd h h0
def holdsR (s:SchT)(g:Int)(v:List (List UInt8)):Bool:=if chkG s g v=0 then decide ((allOf (gridOf s) v:Int)≤g) else false
def giveE (e w n:Nat):Nat:=if e=0 then (if w=n then 7 else 0) else e
def giveG (e w n:Nat):Nat:=if e=0 then (if w=n then 0 else w) else 0
theorem pholds (s:SchT)(hs:s.few)(g:Int)(b:Bool)(v:List (List UInt8))(hf:Few v):ICalls C0 35 [s.D,i64 g,txD b v] (.tup [boo (holdsR s g v),i64 (chkG s g v:Nat)]):=by
 refine ICallP.walk w1 fok35 rfl fun F=>?_
 have c1:=graded_ok s hs g b v hf;have hr:holdsR s g v=if chkG s g v=0 then decide ((allOf (gridOf s) v:Int)≤g) else false:=rfl
 rw [hr];have hok:=@chkG_ok s g v;obtain ⟨q,hq⟩:∃ q,chkG s g v=q:=⟨_,rfl⟩
 rw [hq] at c1 hok ⊢;unfold SchT.D at c1 ⊢;rcases Nat.decEq q 0 with h0|h0
 ·have e0:=bne0 h0
  rw [if_neg h0];obtain ⟨x,y,ho⟩:=openD_agg s;rw [ho] at c1;refine goI dr0 e0 c1 trivial trivial trivial trivial trivial ?_;exact exact_res rfl IsPure.out
 ·have e0:=bneZ h0
  obtain ⟨k0,_,k2,k3⟩:=hok h0;have hd:openD s=schD s.fs.length (gridOf s):=if_pos k0;have hd2:okvD q v=frD v:=if_pos h0;rw [hd,hd2] at c1;have c2:=all_ok s.fs.length (gridOf s) (grid_ok (chk_schOk k0)) v k2 k3;rw [if_pos h0];refine goI dr0 e0 c1 c2 trivial trivial trivial trivial ?_;exact exact_res (by rw [h0];rfl) IsPure.out
theorem pgradeR (s:SchT)(hs:s.few)(b:Bool)(v:List (List UInt8))(hf:Few v):ICalls C0 36 [s.D,txD b v] (.tup [i64 (giveG (chkV s v) (allOf (gridOf s) v) s.gs.length:Nat),i64 (giveE (chkV s v) (allOf (gridOf s) v) s.gs.length:Nat)]):=by
 refine ICallP.walk w1 fok36 rfl fun F=>?_
 have c1:=valued_ok s hs b v hf;have hok:=@chkV_ok s v;have el:((((gridOf s).map rowD).length:Nat):Int)=(s.gs.length:Int):=by rw [List.length_map,grid_len]
 obtain ⟨q,hq⟩:∃ q,chkV s v=q:=⟨_,rfl⟩
 rw [hq] at c1 hok ⊢;unfold giveG giveE;unfold SchT.D at c1 ⊢;rcases Nat.decEq q 0 with h0|h0
 ·have e0:=bne0 h0
  rw [if_neg h0,if_neg h0];obtain ⟨x,y,ho⟩:=openD_agg s;rw [ho] at c1;refine goI dr0 e0 c1 trivial trivial trivial trivial trivial ?_;exact exact_res rfl IsPure.out
 ·have e0:=bneZ h0
  obtain ⟨k0,k2,k3⟩:=hok h0;have hd:openD s=schD s.fs.length (gridOf s):=if_pos k0;have hd2:okvD q v=frD v:=if_pos h0;rw [hd,hd2] at c1;have c2:=all_ok s.fs.length (gridOf s) (grid_ok (chk_schOk k0)) v k2 k3;rw [if_pos h0,if_pos h0];obtain ⟨A,hA⟩:∃ A,allOf (gridOf s) v=A:=⟨_,rfl⟩
  rw [hA] at c2 ⊢
  by_cases h1:A=s.gs.length
  ·have e1:((A:Int)==(s.gs.length:Int))=true:=by rw [h1];exact beq_self_eq_true _
   rw [if_pos h1,if_pos h1];refine goI dr0 (ff3 e0 e1 el) c1 c2 trivial trivial trivial trivial ?_;exact exact_res rfl IsPure.out
  ·have e1:((A:Int)==(s.gs.length:Int))=false:=beq_eq_false_iff_ne.2 (by omega)
   rw [if_neg h1,if_neg h1];refine goI dr0 (ff3 e0 e1 el) c1 c2 trivial trivial trivial trivial ?_;exact exact_res rfl IsPure.out
theorem pfactorR (s:SchT)(hs:s.few)(f:Int)(l:List UInt8)(hl:l.length≤100000):ICalls C0 38 [s.D,i64 f,str (sb l)]
  (.tup [i64 (giveG (chkF s f l) (gradeOf (gridOf s) f.toNat (ratOf l)) s.gs.length:Nat),i64 (giveE (chkF s f l) (gradeOf (gridOf s) f.toNat (ratOf l)) s.gs.length:Nat)]):=by
 refine ICallP.walk w1 fok38 rfl fun F=>?_
 have c1:=open_ok s hs;have el:((((gridOf s).map rowD).length:Nat):Int)=(s.gs.length:Int):=by rw [List.length_map,grid_len]
 obtain ⟨q,hq⟩:∃ q,chkF s f l=q:=⟨_,rfl⟩
 rw [hq];unfold giveG giveE;unfold SchT.D at c1 ⊢;rcases Nat.decEq (chkScheme s) 0 with h0|h0
 ·have e0:=bne0 h0
  have hd:openD s=.agg [i64 0,nilS]:=if_neg h0;have hv:q=chkScheme s:=by rw [← hq];exact if_neg h0
  rw [if_neg (by rw [hv];exact h0),if_neg (by rw [hv];exact h0)];rw [hd] at c1;refine goI drFh_38 e0 c1 trivial trivial trivial trivial trivial ?_;exact exact_res (by rw [hv];rfl) IsPure.out
 have e0:=bneZ h0;have hd:openD s=schD s.fs.length (gridOf s):=if_pos h0;have hG:=grid_ok (chk_schOk h0);have cg:=scfactor_ok s.fs.length (gridOf s) f;have cc:=check_ok l hl;have cf:=first_g [((unk f s.fs.length:Nat):Int),((chk l:Nat):Int)] (by simp);have hF:firstE [((unk f s.fs.length:Nat):Int),((chk l:Nat):Int)]=((q:Nat):Int):=by
  rw [← hq];unfold chkF;rw [if_pos h0];show (if ((unk f s.fs.length:Nat):Int)≠0 then _ else if ((chk l:Nat):Int)≠0 then ((chk l:Nat):Int) else 0)=_
  by_cases g1:unk f s.fs.length=0
  ·rw [if_pos g1,g1,if_neg (by simp)]
   by_cases g2:chk l=0
   ·rw [g2];rfl
   ·rw [if_pos (by omega)]
  ·rw [if_neg g1,if_pos (by omega)]
 rw [hF] at cf;rw [hd] at c1;rcases Nat.decEq q 0 with h1|h1
 ·have e1:=bne0 h1
  rw [if_neg h1,if_neg h1];refine goI drFh_38 (ff2 e0 e1) c1 cg cc cf trivial trivial ?_;exact exact_res rfl IsPure.out
 have e1:=bneZ h1;rw [if_pos h1,if_pos h1];have h2:unk f s.fs.length=0∧chk l=0:=by
  rw [h1] at hq;unfold chkF at hq;rw [if_pos h0] at hq
  by_cases g1:unk f s.fs.length=0
  ·rw [if_pos g1] at hq;exact ⟨g1,hq⟩
  ·rw [if_neg g1] at hq;exact absurd hq g1
 obtain ⟨k,rfl,hk⟩:=unk_zero h2.1;have cx:=from_c hl h2.2;have c2:=scof_ok s.fs.length (gridOf s) hG k hk _ _ (chk_fr h2.2);rw [Int.toNat_natCast];obtain ⟨A,hA⟩:∃ A,gradeOf (gridOf s) k (ratOf l)=A:=⟨_,rfl⟩
 rw [hA] at c2 ⊢
 by_cases h3:A=s.gs.length
 ·have e2:((A:Int)==(s.gs.length:Int))=true:=by rw [h3];exact beq_self_eq_true _
  rw [if_pos h3,if_pos h3];refine goI drFh_38 (ff4 e0 e1 e2 el) c1 cg cc cf cx c2 ?_;exact exact_res rfl IsPure.out
 ·have e2:((A:Int)==(s.gs.length:Int))=false:=beq_eq_false_iff_ne.2 (by omega)
  rw [if_neg h3,if_neg h3];refine goI drFh_38 (ff4 e0 e1 e2 el) c1 cg cc cf cx c2 ?_;exact exact_res rfl IsPure.out
end Go.Ide
namespace Go.Ide
abbrev drFi_37:Dr:=[(9,[0,1,2,3,4,5,6,7,8,9,10,11,12],[13,14,15])]
open Go.Proofs Go.RowKit
set_option maxRecDepth 20000
set_option maxHeartbeats 4000000
theorem fz_tupA {H Hf:Hp}{a a' b:D}(h:Fz H Hf a a'):Fz H Hf (.tup [a,b]) (.tup [a',b]):=.tup rfl fun i d d' h1 h2=>by
 rcases i with _|_|i
 ·cases h1;cases h2;exact h
 ·cases h1;cases h2;exact .refl _
 ·simp at h1
def rowAt (G:List (List LP))(g:Nat):List LP:=G.getD g []
theorem rowAt_some {G:List (List LP)}{g:Nat}(h:g<G.length):G[g]? = some (rowAt G g):=by
 unfold rowAt;rw [List.getD_eq_getElem?_getD,List.getElem?_eq_getElem h];rfl
def inAt (G:List (List LP))(g k:Nat)(x:Rat):Bool:=within (pv (rowAt G g) k).1 (pv (rowAt G g) k).2 x
def decTo (G:List (List LP))(g:Nat)(v:List (List UInt8))(n:Nat):List Nat:=(List.range n).filter fun k=>decide (0<g) && !inAt G (g - 1) k (ratOf (lv v k))
theorem decTo_snoc (G:List (List LP))(g:Nat)(v:List (List UInt8))(n:Nat):decTo G g v (n+1)=decTo G g v n++if (decide (0<g) && !inAt G (g - 1) n (ratOf (lv v n))) then [n] else []:=by
 unfold decTo;rw [List.range_succ,List.filter_append];simp only [List.filter_cons,List.filter_nil]
abbrev intsD (l:List Nat):List D:=l.map fun (k:Nat)=>i64 (k:Int)
def decR (s:SchT)(v:List (List UInt8)):List Nat:=if chkV s v=0 then decTo (gridOf s) (allOf (gridOf s) v) v v.length else []
theorem pdeciding (s:SchT)(hs:s.few)(b:Bool)(v:List (List UInt8))(hf:Few v):ICalls C0 37 [s.D,txD b v] (.tup [.sl false 1 (intsD (decR s v)),i64 (chkV s v:Nat)]):=by
 refine ICallP.walk w1 fok37 rfl fun F=>?_
 have c1:=valued_ok s hs b v hf;have hok:=@chkV_ok s v;have hr:decR s v=if chkV s v=0 then decTo (gridOf s) (allOf (gridOf s) v) v v.length else []:=rfl
 rw [hr];obtain ⟨q,hq⟩:∃ q,chkV s v=q:=⟨_,rfl⟩
 rw [hq] at c1 hok ⊢;unfold SchT.D at c1 ⊢;rcases Nat.decEq q 0 with h0|h0
 ·have e0:=bne0 h0
  obtain ⟨x,y,ho⟩:=openD_agg s;rw [ho] at c1;rw [if_neg h0];refine goI drFi_37 e0 c1 trivial trivial trivial trivial trivial ?_;exact ⟨_,fz_tupA (.nil 1),IsPure.out,rfl⟩
 have e0:=bneZ h0;obtain ⟨k0,k2,k3⟩:=hok h0;have hd:openD s=schD s.fs.length (gridOf s):=if_pos k0;have hd2:okvD q v=frD v:=if_pos h0;have hG:=grid_ok (chk_schOk k0);have h8:=(chk_schOk k0).1;rw [hd,hd2] at c1;have c2:=all_ok s.fs.length (gridOf s) hG v k2 k3;have hA16:=allOf_le (gridOf s) v;rw [if_pos h0];clear hd hd2 hr;obtain ⟨A,hA⟩:∃ A,allOf (gridOf s) v=A:=⟨_,rfl⟩
 rw [hA] at c2 hA16 ⊢;obtain ⟨G,hGG⟩:∃ A,gridOf s=A:=⟨_,rfl⟩
 obtain ⟨n,hn⟩:∃ A,s.fs.length=A:=⟨_,rfl⟩
 rw [hGG] at c1 c2 hG hA16 ⊢;rw [hn] at c1 c2 hG h8 k2;have hlen:=hG.len;have el:(((v.map fun l=>(fromF l).D).length:Nat):Int)=(v.length:Int):=by rw [List.length_map]
 unfold frD at c1 c2;refine goI drFi_37 (ff2 e0 el) c1 c2 trivial trivial trivial trivial ?_;refine OkS.loop (α:=Nat × List D × Nat × Nat) (fun p=>⟨[(6,.optr 107 10 2 0 0),(9,i64 (A:Int)),(10,accD 1003 p.2.2.1 1 p.2.1),(26,.sl false 4 (v.map fun l=>(fromF l).D)),(27,i64 (v.length:Int)),(28,i64 (p.1:Int))],accH 1003 p.2.2.1 3 1 p.2.1++[⟨107,10,134,2,[schD n G]⟩],p.2.2.2⟩) (fun p=>v.length - p.1)
  (fun p=>p.1≤v.length∧p.2.1=intsD (decTo G A v p.1)) (0,[],0,_) ⟨Nat.zero_le _,rfl⟩ wkI ?_
 rintro ⟨i,L,g2,m⟩ F ⟨hi,hL⟩;dsimp only at hi hL ⊢;rcases Nat.lt_or_ge i v.length with h2|h2
 rotate_left
 ·have e1:=ltF h2
  have:i=v.length:=by omega
  subst this;refine goI drFi_37 e1 trivial trivial trivial trivial trivial trivial ?_;subst hL;exact ⟨_,fz_tupA (fz_accG get_acc rfl),IsPure.out,by rw [h0];rfl⟩
 have e1:=ltT h2;have wi:=wiI (i:=i) (by omega);obtain ⟨l,hl2⟩:=at_some h2;have hm:(v.map fun l=>(fromF l).D)[i]? = some (fromF l).D:=by rw [List.getElem?_map,hl2];rfl
 have hx:=chk_fr (chkRow_zero k3 l (List.mem_of_getElem? hl2));have hsn:intsD (decTo G A v (i+1))=L++if (decide (0<A) && !inAt G (A - 1) i (ratOf l)) then [i64 (i:Int)] else []:=by
  rw [hL,decTo_snoc,lv_at hl2];unfold intsD;rw [List.map_append];split<;>rfl
 have hLl:L.length≤i:=by
  rw [hL];unfold intsD decTo;rw [List.length_map];exact Nat.le_trans (List.length_filter_le _ _) (by rw [List.length_range];exact Nat.le_refl _)
 clear hL;rcases Nat.eq_zero_or_pos A with h3|h3
 ·have e2:decide ((A:Int)>0)=false:=decide_eq_false (by omega)
  rw [decide_eq_false (by omega:¬ 0<A),Bool.false_and,if_neg (by decide),List.append_nil] at hsn;obtain ⟨T,hT⟩:∃ T,accD 1003 g2 1 L=T:=⟨_,rfl⟩
  rcases L with _|⟨x,L⟩
  all_goals
   dsimp only [accD_nil,accH_nil,accD_cons,accH_cons,List.nil_append]
  ·refine goI drFi_37 (ff4 e1 e2 wi kN) hm trivial trivial trivial trivial trivial ?_
   exact ⟨(i+1,[],g2,_),⟨h2,hsn.symm⟩,by dsimp only;omega,wkI⟩
  ·refine goI drFi_37 (ff4 e1 e2 wi kN) hm trivial trivial trivial trivial trivial ?_
   exact ⟨(i+1,x::L,g2,_),⟨h2,hsn.symm⟩,by dsimp only;omega,wkI⟩
 have e2:decide ((A:Int)>0)=true:=decide_eq_true (by omega);have e3:IntKind.i64.wrap ((A:Int) - 1)=((A - 1:Nat):Int):=by rw [wI (by omega) (by omega)];omega
 have hr1:=rowAt_some (G:=G) (g:=A - 1) (by omega);obtain ⟨r,hr⟩:∃ r,rowAt G (A - 1)=r:=⟨_,rfl⟩
 have hi1:inAt G (A - 1) i (ratOf l)=within (pv r i).1 (pv r i).2 (ratOf l):=by unfold inAt;rw [hr]
 rw [hr] at hr1;rw [hi1,decide_eq_true h3,Bool.true_and] at hsn;have hm1:(G.map rowD)[A - 1]? = some (.sl false 10 (r.map fun p=>limsD p.1 p.2)):=by rw [List.getElem?_map,hr1];rfl
 obtain ⟨hl,hE⟩:=hG.row r (List.mem_of_getElem? hr1);have hp:=pv_some (r:=r) (k:=i) (by omega);have hE2:=hE _ (List.mem_of_getElem? hp);have hm2:(r.map fun p=>limsD p.1 p.2)[i]? = some (limsD (pv r i).1 (pv r i).2):=by rw [List.getElem?_map,hp];rfl
 have c:=holds_ok (pv r i).1 (pv r i).2 _ _ hx hE2.1 hE2.2;obtain ⟨w,hw⟩:∃ b,within (pv r i).1 (pv r i).2 (ratOf l)=b:=⟨_,rfl⟩
 rw [hw] at c hsn;cases w
 ·rw [if_pos (by decide)] at hsn
  rcases L with _|⟨x,L⟩
  all_goals
   (try simp only [List.length_cons] at hLl)
   dsimp only [accD_nil,accH_nil,accD_cons,accH_cons,List.nil_append]
  ·refine goI drFi_37 (ff5 e1 e2 e3 wi kN) hm hm1 hm2 c trivial trivial ?_
   exact ⟨(i+1,[i64 (i:Int)],_,_),⟨h2,hsn.symm⟩,by dsimp only;omega,wkI⟩
  ·have htk:List.take (L.length+1) (x::L)=x::L:=by simp
   refine goI drFi_37 (ff6 e1 e2 e3 wi htk kN) hm hm1 hm2 c trivial trivial ?_;exact ⟨(i+1,x::L++[i64 (i:Int)],_,_),⟨h2,hsn.symm⟩,by dsimp only;omega,by (dsimp only;rw [accD_snoc];exact wkI)⟩
 ·rw [if_neg (by decide),List.append_nil] at hsn
  rcases L with _|⟨x,L⟩
  all_goals
   dsimp only [accD_nil,accH_nil,accD_cons,accH_cons,List.nil_append]
  ·refine goI drFi_37 (ff5 e1 e2 e3 wi kN) hm hm1 hm2 c trivial trivial ?_
   exact ⟨(i+1,[],g2,_),⟨h2,hsn.symm⟩,by dsimp only;omega,wkI⟩
  ·refine goI drFi_37 (ff5 e1 e2 e3 wi kN) hm hm1 hm2 c trivial trivial ?_
   exact ⟨(i+1,x::L,g2,_),⟨h2,hsn.symm⟩,by dsimp only;omega,wkI⟩
end Go.Ide
namespace Go.Ide
abbrev drFj_39:Dr:=[(4,[0,1,2,3,4,5],[6,7])]
open Go.Proofs Go.RowKit
set_option maxRecDepth 20000
set_option maxHeartbeats 4000000
def inG (g:GraT)(k:Nat)(x:Rat):Bool:=within (lv g.least k) (lv g.most k) x
def holdsG (g:GraT)(v:List (List UInt8)):Bool:=(List.range v.length).all fun k=>inG g k (ratOf (lv v k))
def rgradeN (gs:List GraT)(v:List (List UInt8)):Nat:=gs.findIdx fun g=>holdsG g v
def rfacN (gs:List GraT)(k:Nat)(x:Rat):Nat:=gs.findIdx fun g=>inG g k x
def rdecTo (gs:List GraT)(g:Nat)(v:List (List UInt8))(n:Nat):List Nat:=(List.range n).filter fun k=>decide (0<g) && !inG (gs.getD (g - 1) default) k (ratOf (lv v k))
theorem rdecTo_snoc (gs:List GraT)(g:Nat)(v:List (List UInt8))(n:Nat):rdecTo gs g v (n+1)=rdecTo gs g v n++if (decide (0<g) && !inG (gs.getD (g - 1) default) n (ratOf (lv v n))) then [n] else []:=by
 unfold rdecTo;rw [List.range_succ,List.filter_append];simp only [List.filter_cons,List.filter_nil]
theorem rvals (s:SchT)(b:Bool)(v:List (List UInt8))(hf:Few v)(hr:v.length≤1000000→ICalls C0 31 [txD b v] (i64 (chkRow v:Nat))):ICalls C0 22 [s.D,txD b v] (i64 (chkVals s.fs.length v:Nat)):=by
 refine ICallP.walk w1 fok22 rfl fun F=>?_
 have el:(((v.map fun l=>str (sb l)).length:Nat):Int)=(v.length:Int):=by rw [List.length_map]
 have el1:(((s.fs.map FacT.D).length:Nat):Int)=(s.fs.length:Int):=by rw [List.length_map]
 have c:=hr (by have:=hf.1;omega);unfold SchT.D chkVals
 by_cases h:v.length=s.fs.length
 ·have e0:=bneE h
  rw [if_pos h];refine goI dr0 (ff3 el el1 e0) c trivial trivial trivial trivial trivial ?_;exact exact_res rfl IsPure.out
 ·have e0:=bneN h
  rw [if_neg h];refine goI dr0 (ff3 el el1 e0) trivial trivial trivial trivial trivial trivial ?_;exact exact_res rfl IsPure.out
theorem rwithin (g:GraT)(k:Nat)(l:List UInt8)(n:Nat)(hg:gOk n g)(hk:k<n)(hl:chk l=0):ICalls C0 28 [g.D,i64 (k:Int),str (sb l)] (boo (inG g k (ratOf l))):=by
 refine ICallP.walk w1 fok28 rfl fun F=>?_
 have m1:=lv_map (l:=g.least) (k:=k) (by rw [hg.1];exact hk);have m2:=lv_map (l:=g.most) (k:=k) (by rw [hg.2.1];exact hk);have hE:=hg.2.2 k hk;have hi:inG g k (ratOf l)=within (lv g.least k) (lv g.most k) (ratOf l):=rfl;rw [hi];obtain ⟨a,ea⟩:∃ a,lv g.least k=a:=⟨_,rfl⟩
 obtain ⟨b,eb⟩:∃ a,lv g.most k=a:=⟨_,rfl⟩
 rw [ea,eb] at hE;rw [ea] at m1 ⊢;rw [eb] at m2 ⊢;have sa:=strEq_nil a;have sb':=strEq_nil b;obtain ⟨qa,ga⟩:∃ q,decide (a=[])=q:=⟨_,rfl⟩
 obtain ⟨qb,gb⟩:∃ q,decide (b=[])=q:=⟨_,rfl⟩
 obtain ⟨p,hp⟩:∃ q,decide (cmpQ (ratOf l) (ratOf a)≥0)=q:=⟨_,rfl⟩
 obtain ⟨q,hq⟩:∃ q,decide (cmpQ (ratOf l) (ratOf b)≤0)=q:=⟨_,rfl⟩
 have c1:qa=false→ICalls C0 34 [str (sb l),str (sb a)] (i64 (cmpQ (ratOf l) (ratOf a))):=fun h=>rcmp_c hl (limE_chk hE.1 (of_decide_eq_false (ga.trans h)))
 have c2:qb=false→ICalls C0 34 [str (sb l),str (sb b)] (i64 (cmpQ (ratOf l) (ratOf b))):=fun h=>rcmp_c hl (limE_chk hE.2 (of_decide_eq_false (gb.trans h)))
 have hw:within a b (ratOf l)=((qa||p)&&(qb||q)):=by unfold within;rw [ga,gb,hp,hq]
 rw [ga] at sa;rw [gb] at sb';unfold GraT.D;rw [hw];clear hw ga gb hi ea eb;cases qa<;>cases qb<;>cases p<;>cases q
 all_goals
  refine goI dr0 (ff5 hp hq sa sb' kN) m1 m2 c1 c2 trivial trivial ?_;exact exact_res rfl IsPure.out
theorem all_range_at {f:Nat→Bool}{n k:Nat}(hk:k<n)(h:f k=false):(List.range n).all f=false:=all_not (k:=k) (x:=k) (by rw [List.getElem?_range hk]) h
theorem rholds (g:GraT)(b:Bool)(v:List (List UInt8))(n:Nat)(hg:gOk n g)(hn:v.length=n)(h8:n≤1000)(hc:chkRow v=0):ICalls C0 39 [g.D,txD b v] (boo (holdsG g v)):=by
 refine ICallP.walk w1 fok39 rfl fun F=>?_
 have el:(((v.map fun l=>str (sb l)).length:Nat):Int)=(v.length:Int):=by rw [List.length_map]
 have hcz:=chkRow_zero hc;obtain ⟨w,hw⟩:∃ w,holdsG g v=w:=⟨_,rfl⟩
 have cw:=fun k (l:List UInt8) (hk:k<n) (hl:chk l=0)=>rwithin g k l n hg hk hl
 have hgD:∃ x y z,g.D=.agg [x,y,z]:=⟨_,_,_,rfl⟩
 have pg:IsPure g.D:=inferInstance;obtain ⟨gD,hgd⟩:∃ d,g.D=d:=⟨_,rfl⟩
 rw [hgd] at cw hgD pg ⊢;obtain ⟨x,y,z,rfl⟩:=hgD;refine goI drFj_39 el trivial trivial trivial trivial trivial trivial ?_;refine OkS.loop (α:=Nat × Nat) (fun p=>⟨[(1,txD b v),(2,.optr 0 0 3 0 0),(5,i64 (p.1:Int))],[⟨0,0,56,3,[.agg [x,y,z]]⟩],p.2⟩) (fun p=>v.length - p.1) (fun p=>p.1≤v.length∧((List.range p.1).all fun k=>inG g k (ratOf (lv v k)))=true) (0,_) ⟨Nat.zero_le _,rfl⟩ wkI ?_;rintro ⟨i,m⟩ F ⟨hi,ha⟩;dsimp only at hi ha ⊢;rcases Nat.lt_or_ge i v.length with h2|h2
 ·have e1:=ltT h2
  have wi:=wiI (i:=i) (by omega);obtain ⟨l,hl2⟩:=at_some h2;have hm:(v.map fun l=>str (sb l))[i]? = some (str (sb l)):=by rw [List.getElem?_map,hl2];rfl
  have c:=cw i l (by omega) (hcz l (List.mem_of_getElem? hl2));obtain ⟨r,hr⟩:∃ r,inG g i (ratOf l)=r:=⟨_,rfl⟩
  rw [hr] at c;cases r
  ·have:holdsG g v=false:=all_range_at h2 (by rw [lv_at hl2];exact hr)
   rw [this];refine goI drFj_39 (ff3 e1 el kN) hm c trivial trivial trivial trivial ?_;exact exact_res rfl IsPure.out
  ·refine goI drFj_39 (ff4 e1 el wi kN) hm c trivial trivial trivial trivial ?_
   refine ⟨(i+1,_),⟨h2,?_⟩,by dsimp only;omega,wkI⟩;dsimp only;rw [List.range_succ,List.all_append,ha];simp [lv_at hl2,hr]
 ·have e1:=ltF h2
  have:i=v.length:=by omega
  subst this
  have:holdsG g v=true:=ha
  rw [this];refine goI drFj_39 (ff2 e1 el) trivial trivial trivial trivial trivial trivial ?_;exact exact_res rfl IsPure.out
theorem rgrade_ok (s:SchT)(hs:schOk s)(b:Bool)(v:List (List UInt8))(hn:v.length=s.fs.length)(hc:chkRow v=0):ICalls C0 41 [s.D,txD b v] (i64 (rgradeN s.gs v:Nat)):=by
 refine ICallP.walk w1 fok41 rfl fun F=>?_
 have el:(((s.gs.map GraT.D).length:Nat):Int)=(s.gs.length:Int):=by rw [List.length_map]
 have h16:=hs.2.1;unfold SchT.D;refine goI dr0 el trivial trivial trivial trivial trivial trivial ?_;refine OkS.loop (α:=Nat × Nat) (fun p=>⟨[(1,txD b v),(2,.optr 0 0 2 0 0),(5,i64 (p.1:Int))],[⟨0,0,39,2,[.agg [.sl false 4 (s.fs.map FacT.D),.sl false 3 (s.gs.map GraT.D)]]⟩],p.2⟩) (fun p=>s.gs.length - p.1) (fun p=>p.1≤s.gs.length∧∀ (j:Nat) (g:GraT),j<p.1→s.gs[j]? = some g→holdsG g v=false) (0,_) ⟨Nat.zero_le _,fun j r hj=>absurd hj (Nat.not_lt_zero j)⟩ wkI ?_;rintro ⟨i,m⟩ F ⟨hi,ha⟩;dsimp only at hi ha ⊢;rcases Nat.lt_or_ge i s.gs.length with h2|h2
 ·have e1:=ltT h2
  have wi:=wiI (i:=i) (by omega);obtain ⟨g,hg⟩:=at_some h2;have hm:(s.gs.map GraT.D)[i]? = some g.D:=by rw [List.getElem?_map,hg];rfl
  have c:=rholds g b v s.fs.length (hs.2.2 g (List.mem_of_getElem? hg)) hn (by have:=hs.1;omega) hc;unfold GraT.D at hm c;obtain ⟨r,hr⟩:∃ r,holdsG g v=r:=⟨_,rfl⟩
  rw [hr] at c;cases r
  ·refine goI dr0 (ff4 e1 el wi kN) hm c trivial trivial trivial trivial ?_
   exact ⟨(i+1,_),⟨h2,before_snoc hg ha hr⟩,by dsimp only;omega,wkI⟩
  ·refine goI dr0 (ff3 e1 el kN) hm c trivial trivial trivial trivial ?_
   exact exact_res (by unfold rgradeN;rw [findIdx_at hg hr ha]) IsPure.out
 ·have e1:=ltF h2
  have:i=s.gs.length:=by omega
  subst this;refine goI dr0 (ff2 e1 el) trivial trivial trivial trivial trivial trivial ?_;exact exact_res (by unfold rgradeN;rw [findIdx_none ha]) IsPure.out
theorem rfac_ok (s:SchT)(hs:schOk s)(k:Nat)(hk:k<s.fs.length)(l:List UInt8)(hl:chk l=0):ICalls C0 40 [s.D,i64 (k:Int),str (sb l)] (i64 (rfacN s.gs k (ratOf l):Nat)):=by
 refine ICallP.walk w1 fok40 rfl fun F=>?_
 have el:(((s.gs.map GraT.D).length:Nat):Int)=(s.gs.length:Int):=by rw [List.length_map]
 have h16:=hs.2.1;unfold SchT.D;refine goI dr0 el trivial trivial trivial trivial trivial trivial ?_;refine OkS.loop (α:=Nat × Nat) (fun p=>⟨[(1,i64 (k:Int)),(2,str (sb l)),(3,.optr 0 0 2 0 0),(7,i64 (p.1:Int))],[⟨0,0,39,2,[.agg [.sl false 4 (s.fs.map FacT.D),.sl false 3 (s.gs.map GraT.D)]]⟩],p.2⟩) (fun p=>s.gs.length - p.1) (fun p=>p.1≤s.gs.length∧∀ (j:Nat) (g:GraT),j<p.1→s.gs[j]? = some g→inG g k (ratOf l)=false) (0,_) ⟨Nat.zero_le _,fun j r hj=>absurd hj (Nat.not_lt_zero j)⟩ wkI ?_;rintro ⟨i,m⟩ F ⟨hi,ha⟩;dsimp only at hi ha ⊢;rcases Nat.lt_or_ge i s.gs.length with h2|h2
 ·have e1:=ltT h2
  have wi:=wiI (i:=i) (by omega);obtain ⟨g,hg⟩:=at_some h2;have hm:(s.gs.map GraT.D)[i]? = some g.D:=by rw [List.getElem?_map,hg];rfl
  have c:=rwithin g k l s.fs.length (hs.2.2 g (List.mem_of_getElem? hg)) hk hl;unfold GraT.D at hm c;obtain ⟨r,hr⟩:∃ r,inG g k (ratOf l)=r:=⟨_,rfl⟩
  rw [hr] at c;cases r
  ·refine goI dr0 (ff4 e1 el wi kN) hm c trivial trivial trivial trivial ?_
   exact ⟨(i+1,_),⟨h2,before_snoc hg ha hr⟩,by dsimp only;omega,wkI⟩
  ·refine goI dr0 (ff3 e1 el kN) hm c trivial trivial trivial trivial ?_
   exact exact_res (by unfold rfacN;rw [findIdx_at hg hr ha]) IsPure.out
 ·have e1:=ltF h2
  have:i=s.gs.length:=by omega
  subst this;refine goI dr0 (ff2 e1 el) trivial trivial trivial trivial trivial trivial ?_;exact exact_res (by unfold rfacN;rw [findIdx_none ha]) IsPure.out
end Go.Ide
namespace Go.Ide
abbrev drFk_44:Dr:=[(6,[0,1,2,3,4,5,6,7,8,9,10],[11,12])]
abbrev drFk_43:Dr:=[(6,[0,1,2,3,4,5,6,7],[8])]
open Go.Proofs Go.RowKit
set_option maxRecDepth 20000
set_option maxHeartbeats 4000000
theorem rdecTo_zero (gs:List GraT)(v:List (List UInt8))(n:Nat):rdecTo gs 0 v n=[]:=by
 unfold rdecTo;rw [List.filter_eq_nil_iff];intro a _;simp
theorem rdecTo_len (gs:List GraT)(g:Nat)(v:List (List UInt8))(n:Nat):(rdecTo gs g v n).length≤n:=Nat.le_trans (List.length_filter_le _ _) (by rw [List.length_range];exact Nat.le_refl _)
theorem rdeciding (s:SchT)(hs:schOk s)(b:Bool)(v:List (List UInt8))(hn:v.length=s.fs.length)(hc:chkRow v=0):ICalls C0 44 [s.D,txD b v] (.sl false 1 (intsD (rdecTo s.gs (rgradeN s.gs v) v v.length))):=by
 refine ICallP.walk w1 fok44 rfl fun F=>?_
 have el:(((v.map fun l=>str (sb l)).length:Nat):Int)=(v.length:Int):=by rw [List.length_map]
 have c1:=rgrade_ok s hs b v hn hc;have h8:=hs.1;have h16:=hs.2.1;have hA16:rgradeN s.gs v≤s.gs.length:=List.findIdx_le_length;obtain ⟨A,hA⟩:∃ A,rgradeN s.gs v=A:=⟨_,rfl⟩
 rw [hA] at c1 hA16 ⊢;unfold SchT.D at c1 ⊢;refine goI drFk_44 el c1 trivial trivial trivial trivial trivial ?_;refine OkS.loop (α:=Nat × List D × Nat × Nat) (fun p=>⟨[(1,txD b v),(2,.optr 0 0 2 0 0),(5,accD 703 p.2.2.1 1 p.2.1),(6,i64 (A:Int)),(7,i64 (p.1:Int))],accH 703 p.2.2.1 3 1 p.2.1++[⟨0,0,39,2,[.agg [.sl false 4 (s.fs.map FacT.D),.sl false 3 (s.gs.map GraT.D)]]⟩],p.2.2.2⟩) (fun p=>v.length - p.1) (fun p=>p.1≤v.length∧p.2.1=intsD (rdecTo s.gs A v p.1)) (0,[],0,_) ⟨Nat.zero_le _,rfl⟩ wkI ?_;rintro ⟨i,L,g2,m⟩ F ⟨hi,hL⟩;dsimp only at hi hL ⊢;rcases Nat.lt_or_ge i v.length with h2|h2
 rotate_left
 ·have e1:=ltF h2
  have:i=v.length:=by omega
  subst this;refine goI drFk_44 (ff2 e1 el) trivial trivial trivial trivial trivial trivial ?_;subst hL;exact ⟨_,fz_accG get_acc rfl,IsPure.out,rfl⟩
 have e1:=ltT h2;have wi:=wiI (i:=i) (by omega);rcases Nat.eq_zero_or_pos A with h3|h3
 ·have e2:decide ((A:Int)>0)=false:=decide_eq_false (by omega)
  subst h3;refine goI drFk_44 (ff3 e1 e2 el) trivial trivial trivial trivial trivial trivial ?_;subst hL;exact ⟨_,fz_accG get_acc rfl,IsPure.out,by rw [rdecTo_zero,rdecTo_zero]⟩
 have e2:decide ((A:Int)>0)=true:=decide_eq_true (by omega);have e3:IntKind.i64.wrap ((A:Int) - 1)=((A - 1:Nat):Int):=by rw [wI (by omega) (by omega)];omega
 obtain ⟨l,hl2⟩:=at_some h2;have hm:(v.map fun l=>str (sb l))[i]? = some (str (sb l)):=by rw [List.getElem?_map,hl2];rfl
 have hk:=chkRow_zero hc l (List.mem_of_getElem? hl2);have hgs:=gv_some (gs:=s.gs) (i:=A - 1) (by omega);have hsn:intsD (rdecTo s.gs A v (i+1))=L++if (!inG (s.gs.getD (A - 1) default) i (ratOf l)) then [i64 (i:Int)] else []:=by
  rw [hL,rdecTo_snoc,lv_at hl2,decide_eq_true h3,Bool.true_and];unfold intsD;rw [List.map_append];split<;>rfl
 have hLl:L.length≤i:=by
  rw [hL];unfold intsD;rw [List.length_map];exact rdecTo_len _ _ _ _
 clear hL;obtain ⟨g,hg⟩:∃ g,s.gs.getD (A - 1) default=g:=⟨_,rfl⟩
 rw [hg] at hgs hsn;have hm1:(s.gs.map GraT.D)[A - 1]? = some g.D:=by rw [List.getElem?_map,hgs];rfl
 have c:=rwithin g i l s.fs.length (hs.2.2 g (List.mem_of_getElem? hgs)) (by omega) hk;unfold GraT.D at hm1 c;obtain ⟨w,hw⟩:∃ b,inG g i (ratOf l)=b:=⟨_,rfl⟩
 rw [hw] at c hsn;cases w
 ·rw [if_pos (by decide)] at hsn
  rcases L with _|⟨x,L⟩
  all_goals
   (try simp only [List.length_cons] at hLl)
   dsimp only [accD_nil,accH_nil,accD_cons,accH_cons,List.nil_append]
  ·refine goI drFk_44 (ff6 e1 e2 e3 wi el kN) hm hm1 c trivial trivial trivial ?_
   exact ⟨(i+1,[i64 (i:Int)],_,_),⟨h2,hsn.symm⟩,by dsimp only;omega,wkI⟩
  ·have htk:List.take (L.length+1) (x::L)=x::L:=by simp
   refine goI drFk_44 (ff7 e1 e2 e3 wi el htk kN) hm hm1 c trivial trivial trivial ?_;exact ⟨(i+1,x::L++[i64 (i:Int)],_,_),⟨h2,hsn.symm⟩,by dsimp only;omega,by (dsimp only;rw [accD_snoc];exact wkI)⟩
 ·rw [if_neg (by decide),List.append_nil] at hsn
  rcases L with _|⟨x,L⟩
  all_goals
   dsimp only [accD_nil,accH_nil,accD_cons,accH_cons,List.nil_append]
  ·refine goI drFk_44 (ff6 e1 e2 e3 wi el kN) hm hm1 c trivial trivial trivial ?_
   exact ⟨(i+1,[],g2,_),⟨h2,hsn.symm⟩,by dsimp only;omega,wkI⟩
  ·refine goI drFk_44 (ff6 e1 e2 e3 wi el kN) hm hm1 c trivial trivial trivial ?_
   exact ⟨(i+1,x::L,g2,_),⟨h2,hsn.symm⟩,by dsimp only;omega,wkI⟩
theorem sameInts_self (a b:Bool)(l:List Nat)(hl:l.length≤100000):ICalls C0 43 [.sl a 1 (intsD l),.sl b 1 (intsD l)] (boo true):=by
 refine ICallP.walk w1 fok43 rfl fun F=>?_
 have el:(((intsD l).length:Nat):Int)=(l.length:Int):=by rw [List.length_map]
 have e0:((l.length:Int) != (l.length:Int))=false:=by simp
 obtain ⟨L,hL⟩:∃ L,intsD l=L:=⟨_,rfl⟩
 have pL:IsPure (.sl a 1 L):=by rw [← hL];exact inferInstance
 have pL2:IsPure (.sl b 1 L):=by rw [← hL];exact inferInstance
 have hat:∀ i,i<l.length→∃ z:Nat,L[i]? = some (i64 (z:Int)):=fun i hi=>by
  obtain ⟨z,hz⟩:=at_some hi;exact ⟨z,by rw [← hL,List.getElem?_map,hz];rfl⟩
 rw [hL] at el ⊢;refine goI drFk_43 (ff2 el e0) trivial trivial trivial trivial trivial trivial ?_;refine OkS.loop (α:=Nat × Nat) (fun p=>⟨[(0,.sl a 1 L),(1,.sl b 1 L),(5,i64 (p.1:Int))],[],p.2⟩) (fun p=>l.length - p.1) (fun p=>p.1≤l.length) (0,_) (Nat.zero_le _) wkI ?_;rintro ⟨i,m⟩ F hi;dsimp only at hi ⊢;rcases Nat.lt_or_ge i l.length with h2|h2
 ·have e1:=ltT h2
  have wi:=wiI (i:=i) (by omega);obtain ⟨z,hm⟩:=hat i h2;have e2:((z:Int) != (z:Int))=false:=by simp
  refine goI drFk_43 (ff5 e1 e2 el wi kN) hm trivial trivial trivial trivial trivial ?_;exact ⟨(i+1,_),h2,by dsimp only;omega,wkI⟩
 ·have e1:=ltF h2
  refine goI drFk_43 (ff2 e1 el) trivial trivial trivial trivial trivial trivial ?_;exact exact_res rfl IsPure.out
theorem unknown_ok (g:Int)(n:Nat):ICalls C0 21 [i64 g,i64 (n:Int)] (i64 (unk g n:Nat)):=by
 refine ICallP.walk w1 fok21 rfl fun F=>?_
 by_cases h1:g<0
 ·have e1:decide (g<0)=true:=decide_eq_true h1
  rw [unk1 h1];refine goI dr0 e1 trivial trivial trivial trivial trivial trivial ?_;exact exact_res rfl IsPure.out
 ·have e1:decide (g<0)=false:=decide_eq_false h1
  by_cases h2:(n:Int)≤g
  ·have e2:decide (g≥(n:Int))=true:=decide_eq_true h2
   rw [unk2 h2];refine goI dr0 (ff2 e1 e2) trivial trivial trivial trivial trivial trivial ?_;exact exact_res rfl IsPure.out
  ·have e2:decide (g≥(n:Int))=false:=decide_eq_false h2
   rw [unk3 h1 h2];refine goI dr0 (ff2 e1 e2) trivial trivial trivial trivial trivial trivial ?_;exact exact_res rfl IsPure.out
def fst2 (a b:Nat):Nat:=if a=0 then b else a
theorem lfirst (a b:Nat):ICalls C0 20 [.sl true 1 [i64 (a:Int),i64 (b:Int)]] (i64 (fst2 a b:Nat)):=by
 refine ICallP.walk w1 fok20 rfl fun F=>?_
 refine goI dr0 kB trivial trivial trivial trivial trivial trivial ?_;refine OkS.loop (α:=Nat × Nat) (fun p=>⟨[(5,.sl true 1 [i64 (a:Int),i64 (b:Int)]),(6,i64 2),(7,i64 (p.1:Int))],[],p.2⟩) (fun p=>2 - p.1) (fun p=>p.1≤2∧(1≤p.1→a=0)∧(2≤p.1→b=0)) (0,_) ⟨Nat.zero_le _,fun h=>absurd h (Nat.not_succ_le_zero 0),fun h=>absurd h (Nat.not_succ_le_zero 1)⟩ wkI ?_;rintro ⟨i,m⟩ F ⟨hi,ha,hb⟩;dsimp only at hi ha hb ⊢;have hcases:i=0∨i=1∨i=2:=by omega
 rcases hcases with rfl|rfl|rfl
 ·have e1:decide (((0:Nat):Int)<2)=true:=by decide
  have wi:IntKind.i64.wrap (((0:Nat):Int)+1)=((1:Nat):Int):=by decide
  have hm:[i64 (a:Int),i64 (b:Int)][0]? = some (i64 (a:Int)):=rfl;rcases Nat.decEq a 0 with h|h
  ·have e2:=bne0 h
   refine goI dr0 (ff3 e1 e2 kN) hm trivial trivial trivial trivial trivial ?_;exact exact_res (by unfold fst2;rw [if_neg h]) IsPure.out
  ·have e2:=bneZ h
   refine goI dr0 (ff4 e1 e2 wi kN) hm trivial trivial trivial trivial trivial ?_;exact ⟨(1,_),⟨by dsimp only;omega,fun _=>h,fun h=>absurd h (by dsimp only;omega)⟩,by dsimp only;omega,wkI⟩
 ·have e1:decide (((1:Nat):Int)<2)=true:=by decide
  have wi:IntKind.i64.wrap (((1:Nat):Int)+1)=((2:Nat):Int):=by decide
  have hm:[i64 (a:Int),i64 (b:Int)][1]? = some (i64 (b:Int)):=rfl;have h0:=ha (by decide);rcases Nat.decEq b 0 with h|h
  ·have e2:=bne0 h
   refine goI dr0 (ff3 e1 e2 kN) hm trivial trivial trivial trivial trivial ?_;exact exact_res (by unfold fst2;rw [if_pos h0]) IsPure.out
  ·have e2:=bneZ h
   refine goI dr0 (ff4 e1 e2 wi kN) hm trivial trivial trivial trivial trivial ?_;exact ⟨(2,_),⟨by dsimp only;omega,fun _=>h0,fun _=>h⟩,by dsimp only;omega,wkI⟩
 ·have e1:decide (((2:Nat):Int)<2)=false:=by decide
  have h0:=ha (by decide);have h1:=hb (by decide);refine goI dr0 e1 trivial trivial trivial trivial trivial trivial ?_;exact exact_res (by unfold fst2;rw [if_pos h0,h1];rfl) IsPure.out
theorem given_ok (e w w' n:Nat)(h:e=0→w'=w):ICalls C0 42 [i64 (giveG e w n:Nat),i64 (giveE e w n:Nat),i64 (e:Int),i64 (w':Int),i64 (n:Int)] (boo true):=by
 refine ICallP.walk w1 fok42 rfl fun F=>?_
 have z0:((0:Int)==0)=true:=rfl;have z1:((0:Int) != 0)=false:=rfl;have z2:((7:Int)==7)=true:=rfl;have z3:((7:Int) != 0)=true:=rfl;unfold giveG giveE;rcases Nat.decEq e 0 with h0|h0
 ·have e0:=bne0 h0
  have e1:=beq0 h0;have e2:((e:Int)==(e:Int))=true:=beq_self_eq_true _;rw [if_neg h0,if_neg h0];have zz:(((0:Nat):Int)==0)=true:=rfl;refine goI dr0 (ff7 e0 e1 e2 z0 z1 z2 (ff2 z3 zz)) trivial trivial trivial trivial trivial trivial ?_;exact exact_res rfl IsPure.out
 obtain rfl:=h h0;subst h0;rw [if_pos rfl,if_pos rfl];have zz:(((0:Nat):Int)==0)=true:=rfl;have z5:(((0:Nat):Int) != 0)=false:=rfl;have z6:(((0:Nat):Int)==((0:Nat):Int))=true:=rfl;have z7:(((7:Nat):Int)==7)=true:=rfl
 by_cases h1:w'=n
 ·have e3:((w':Int)==(n:Int))=true:=by rw [h1];exact beq_self_eq_true _
  rw [if_pos h1,if_pos h1];refine goI dr0 (ff7 e3 z0 z1 z2 z3 zz z7) trivial trivial trivial trivial trivial trivial ?_;exact exact_res rfl IsPure.out
 ·have e3:((w':Int)==(n:Int))=false:=beq_eq_false_iff_ne.2 (by omega)
  have e4:((w':Int)==(w':Int))=true:=beq_self_eq_true _;rw [if_neg h1,if_neg h1];refine goI dr0 (ff7 e3 e4 z0 z1 zz z5 z6) trivial trivial trivial trivial trivial trivial ?_;exact exact_res rfl IsPure.out
end Go.Ide
namespace Go.Ide
open Go.Proofs Go.RowKit
set_option maxRecDepth 20000
set_option maxHeartbeats 4000000
theorem pv_zip {g:GraT}{n k:Nat}(h:gOk n g)(hk:k<n):pv (g.least.zip g.most) k=(lv g.least k,lv g.most k):=by
 unfold pv;rw [List.getD_eq_getElem?_getD,zip_lv h hk];rfl
theorem rowAt_zip {s:SchT}{i:Nat}(hi:i<s.gs.length):rowAt (gridOf s) i=(s.gs.getD i default).least.zip (s.gs.getD i default).most:=by
 unfold rowAt gridOf;rw [List.getD_eq_getElem?_getD,List.getElem?_map,gv_some hi];rfl
theorem gs_at {s:SchT}(hs:schOk s){i:Nat}(hi:i<s.gs.length):gOk s.fs.length (s.gs.getD i default):=hs.2.2 _ (List.mem_of_getElem? (gv_some hi))
theorem inAt_eq {s:SchT}(hs:schOk s){i k:Nat}(hi:i<s.gs.length)(hk:k<s.fs.length)(x:Rat):inAt (gridOf s) i k x=inG (s.gs.getD i default) k x:=by
 unfold inAt inG;rw [rowAt_zip hi,pv_zip (gs_at hs hi) hk]
theorem findIdx_congr {α:Type}{l:List α}{p q:α→Bool}(h:∀ x∈l,p x=q x):l.findIdx p=l.findIdx q:=by
 induction l with
 | nil=>rfl
 | cons a r ih =>
  rw [List.findIdx_cons,List.findIdx_cons,h a List.mem_cons_self,ih fun x hx=>h x (List.mem_cons_of_mem _ hx)]
theorem gradeOf_eq {s:SchT}(hs:schOk s){k:Nat}(hk:k<s.fs.length)(x:Rat):gradeOf (gridOf s) k x=rfacN s.gs k x:=by
 unfold gradeOf rfacN gridOf;rw [List.findIdx_map];exact findIdx_congr fun g hg=>by
  show within _ _ _=inG g k x;unfold inG;rw [pv_zip (hs.2.2 g hg) hk]
theorem decTo_eq {s:SchT}(hs:schOk s){g n:Nat}(hg:g≤s.gs.length)(hn:n≤s.fs.length)(v:List (List UInt8)):decTo (gridOf s) g v n=rdecTo s.gs g v n:=by
 unfold decTo rdecTo;refine List.filter_congr fun k hk=>?_
 rw [List.mem_range] at hk;rcases Nat.eq_zero_or_pos g with h|h
 ·subst h;simp
 ·rw [inAt_eq hs (by omega) (by omega)]
theorem ord_within {a b c d:List UInt8}(h:ordOk a b c d=true){x:Rat}(hw:within c d x=true):within a b x=true:=by
 unfold ordOk at h;unfold within at hw ⊢;simp only [Bool.and_eq_true,Bool.or_eq_true,decide_eq_true_eq,Bool.not_eq_true',decide_eq_false_iff_not] at h hw ⊢;obtain ⟨h1,h2⟩:=h;obtain ⟨w1,w2⟩:=hw;unfold cmpQ at *;refine ⟨?_,?_⟩
 ·rcases h1 with h1|⟨h1,h3⟩
  ·exact .inl h1
  ·rcases w1 with w1|w1
   ·exact absurd w1 h1
   ·right
    split at h3<;>split at w1<;>split<;>grind
 ·rcases h2 with h2|⟨h2,h3⟩
  ·exact .inl h2
  ·rcases w2 with w2|w2
   ·exact absurd w2 h2
   ·right
    split at h3<;>split at w2<;>split<;>grind
theorem chkGrade_lim {n:Nat}{gs:List GraT}{i:Nat}(h:chkGrade n gs i=0):∀ k,k<n→chkLim (lv (gs.getD i default).least k) (lv (gs.getD i default).most k) (before gs i k)=0:=by
 unfold chkGrade at h;dsimp only at h;split at h
 ·split at h
  ·cases h
  ·split at h
   ·exact fstE_all h
   ·cases h
 ·cases h
theorem chkScheme_gs {s:SchT}(h:chkScheme s=0):∀ i,i<s.gs.length→chkGrade s.fs.length s.gs i=0:=by
 unfold chkScheme at h;split at h
 ·rename_i h1;exact absurd h h1
 ·split at h
  ·rename_i h1;exact absurd h h1
  ·split at h
   ·rename_i h1;exact absurd h h1
   ·exact fstE_all h
theorem in_next {s:SchT}(h:chkScheme s=0){i k:Nat}(hi:i+1<s.gs.length)(hk:k<s.fs.length){x:Rat}(hx:inG (s.gs.getD i default) k x=true):inG (s.gs.getD (i+1) default) k x=true:=by
 have h1:=chkGrade_lim (chkScheme_gs h (i+1) hi) k hk;unfold inG at hx ⊢;unfold before at h1;rw [if_neg (by omega),Nat.add_sub_cancel] at h1;have h2:ordOk (lv (s.gs.getD (i+1) default).least k) (lv (s.gs.getD (i+1) default).most k) (lv (s.gs.getD i default).least k) (lv (s.gs.getD i default).most k)=true:=by
  unfold chkLim at h1;split at h1
  ·rename_i q;exact absurd h1 q
  ·split at h1
   ·rename_i q;exact absurd h1 q
   ·split at h1
    ·cases h1
    ·dsimp only at h1
     split at h1
     ·assumption
     ·cases h1
 exact ord_within h2 hx
theorem in_later {s : SchT} (h : chkScheme s = 0) {i j k : Nat} (hij : i ≤ j) (hj : j < s.gs.length) (hk : k < s.fs.length) {x : Rat} (hx : inG (s.gs.getD i default) k x = true) : inG (s.gs.getD j default) k x = true := by
  induction j with
  | zero => have : i = 0 := by omega
            subst this; exact hx
  | succ j ih =>
    rcases Nat.lt_or_ge i (j + 1) with h1 | h1
    · exact in_next h hj hk (ih (by omega) (by omega))
    · have : i = j + 1 := by omega
      subst this; exact hx
theorem rfac_le {s:SchT}(h:chkScheme s=0){g k:Nat}(hg:g<s.gs.length)(hk:k<s.fs.length)(x:Rat):rfacN s.gs k x≤g↔inG (s.gs.getD g default) k x=true:=by
 constructor
 ·intro hle
  have hlt:rfacN s.gs k x<s.gs.length:=by omega
  have hp:inG (s.gs[rfacN s.gs k x]'hlt) k x=true:=List.findIdx_getElem (w:=hlt);have e:s.gs.getD (rfacN s.gs k x) default=s.gs[rfacN s.gs k x]'hlt:=by rw [List.getD_eq_getElem?_getD,List.getElem?_eq_getElem hlt];rfl
  exact in_later h hle hg hk (by rw [e];exact hp)
 ·intro hi
  have e:s.gs.getD g default=s.gs[g]'hg:=by rw [List.getD_eq_getElem?_getD,List.getElem?_eq_getElem hg];rfl
  rw [e] at hi;exact Nat.le_of_not_lt fun hlt=>by
   have:=List.not_of_lt_findIdx (xs:=s.gs) (p:=fun g=>inG g k x) hlt
   exact absurd hi (by simpa using this)
theorem maxTo_iff {f:Nat→Nat}{g:Nat}:∀ n,maxTo f n≤g↔∀ k,k<n→f k≤g
 | 0=>⟨fun _ k hk=>absurd hk (Nat.not_lt_zero k),fun _=>Nat.zero_le _⟩
 | n+1=>by
  show max (maxTo f n) (f n)≤g↔_;rw [Nat.max_le,maxTo_iff n];exact ⟨fun ⟨h1,h2⟩ k hk=>by
   rcases Nat.lt_or_ge k n with h|h
   ·exact h1 k h
   ·have:k=n:=by omega
    subst this;exact h2,fun h=>⟨fun k hk=>h k (by omega),h n (by omega)⟩⟩
theorem holdsG_iff {g:GraT}{v:List (List UInt8)}:holdsG g v=true↔∀ k,k<v.length→inG g k (ratOf (lv v k))=true:=by
 unfold holdsG;rw [List.all_eq_true];exact ⟨fun h k hk=>h k (List.mem_range.2 hk),fun h k hk=>h k (List.mem_range.1 hk)⟩
theorem all_le {s:SchT}(h:chkScheme s=0){g:Nat}(hg:g<s.gs.length){v:List (List UInt8)}(hv:v.length=s.fs.length):allOf (gridOf s) v≤g↔holdsG (s.gs.getD g default) v=true:=by
 unfold allOf;rw [maxTo_iff,holdsG_iff];have hok:=chk_schOk h;exact ⟨fun q k hk=>(rfac_le h hg (by omega) _).1 (by have:=q k hk;rwa [gradeOf_eq hok (by omega)] at this),fun q k hk=>by
  rw [gradeOf_eq hok (by omega)];exact (rfac_le h hg (by omega) _).2 (q k hk)⟩
theorem all_grade {s:SchT}(h:chkScheme s=0){v:List (List UInt8)}(hv:v.length=s.fs.length):rgradeN s.gs v=allOf (gridOf s) v:=by
 have hle:=allOf_le (gridOf s) v;rw [grid_len] at hle;have key:∀ (j:Nat) (g:GraT),s.gs[j]? = some g→(holdsG g v=true↔allOf (gridOf s) v≤j):=fun j g hg=>by
  have hj:j<s.gs.length:=(List.getElem?_eq_some_iff.1 hg).1;rw [all_le h hj hv];have e:s.gs.getD j default=g:=by rw [List.getD_eq_getElem?_getD,hg];rfl
  rw [e]
 unfold rgradeN;rcases Nat.lt_or_ge (allOf (gridOf s) v) s.gs.length with h1|h1
 ·obtain ⟨g,hg⟩:=at_some h1
  exact findIdx_at hg ((key _ _ hg).2 (Nat.le_refl _)) fun j y hj hy=>Bool.eq_false_iff.2 fun q=>absurd ((key _ _ hy).1 q) (by omega)
 ·rw [findIdx_none fun j y hj hy=>Bool.eq_false_iff.2 fun q=>absurd ((key _ _ hy).1 q) (by omega)]
  omega
theorem holdsR_ok {s:SchT}{g:Nat}{v:List (List UInt8)}(h:chkG s (g:Int) v=0):holdsR s g v=holdsG (s.gs.getD g default) v:=by
 obtain ⟨h1,h2,h3,_⟩:=chkG_ok h;obtain ⟨k,e,hk⟩:=unk_zero h2
 have:g=k:=by omega
 subst this;unfold holdsR;rw [if_pos h];cases hb:holdsG (s.gs.getD g default) v
 ·exact decide_eq_false fun q=>by
   have:=(all_le h1 hk h3).1 (by omega)
   rw [hb] at this;cases this
 ·exact decide_eq_true (by have:=(all_le h1 hk h3).2 hb;omega)
theorem decR_ok {s:SchT}{v:List (List UInt8)}(h:chkV s v=0):decR s v=rdecTo s.gs (rgradeN s.gs v) v v.length:=by
 obtain ⟨h1,h3,_⟩:=chkV_ok h;unfold decR;have hle:=allOf_le (gridOf s) v;rw [grid_len] at hle;rw [if_pos h,decTo_eq (chk_schOk h1) hle (by omega),all_grade h1 h3]
end Go.Ide
namespace Go.Ide
abbrev drFm_7:Dr:=[(15,[0,1,2,3,4,5,6,7,8,9,10,11,12,13,14,15,16,17,18,19,20,21,22],[23,24])]
open Go.Proofs Go.RowKit
set_option maxRecDepth 20000
set_option maxHeartbeats 8000000
structure RateT where
 fac:Int
 step:List UInt8
 price:List UInt8
def RateT.D (r:RateT):D:=.agg [i64 r.fac,str (sb r.step),str (sb r.price)]
instance  (r:RateT):CellsPure r.D:=by unfold RateT.D;exact inferInstance
instance  (r:RateT):IsPure r.D:=by unfold RateT.D;exact inferInstance
structure AskT where
 grade:Int
 factor:Int
 vals:List (List UInt8)
 rates:List RateT
def AskT.D (x:AskT):D:=.agg [i64 x.grade,i64 x.factor,txD false x.vals,.sl false 3 (x.rates.map RateT.D)]
instance  (x:AskT):IsPure x.D:=by unfold AskT.D;exact inferInstance
def AskT.fit (x:AskT):Prop:=x.vals.length≤9223372036854775807∧x.rates.length≤9223372036854775807
def fewR (r:RateT):Bool:=fewB [r.step,r.price]
def askedB (x:AskT):Bool:=x.rates.all fewR&&(decide (x.vals.length≤12)&&(fewB x.vals&&decide (x.rates.length≤260)))
theorem asked_ok (x:AskT)(hx:x.fit):ICalls C0 16 [x.D] (boo (askedB x)):=by
 refine ICallP.walk w1 fok16 rfl fun F=>?_
 have el:(((x.rates.map RateT.D).length:Nat):Int)=(x.rates.length:Int):=by rw [List.length_map]
 have el2:(((x.vals.map fun l=>str (sb l)).length:Nat):Int)=(x.vals.length:Int):=by rw [List.length_map]
 have hfit:=hx.2;have hq:askedB x=(x.rates.all fewR&&(decide (x.vals.length≤12)&&(fewB x.vals&&decide (x.rates.length≤260)))):=rfl;rw [hq];unfold AskT.D;refine goI dr0 el trivial trivial trivial trivial trivial trivial ?_;refine OkS.loop (α:=Nat × Nat) (fun p=>⟨[(1,.optr 0 0 4 0 0),(6,.sl false 3 (x.rates.map RateT.D)),(7,i64 (x.rates.length:Int)),(8,i64 (p.1:Int))],[⟨0,0,43,4,[.agg [i64 x.grade,i64 x.factor,txD false x.vals,.sl false 3 (x.rates.map RateT.D)]]⟩],p.2⟩) (fun p=>x.rates.length - p.1) (fun p=>p.1≤x.rates.length∧(x.rates.take p.1).all fewR=true) (0,_) ⟨Nat.zero_le _,rfl⟩ wkI ?_;rintro ⟨i,m⟩ F ⟨hi,ha⟩;dsimp only at hi ha ⊢;rcases Nat.lt_or_ge i x.rates.length with h2|h2
 ·have e1:=ltT h2
  have wi:=wiI (i:=i) (by omega);obtain ⟨r,hr⟩:=at_some h2;have hm:(x.rates.map RateT.D)[i]? = some (.agg [i64 r.fac,str (sb r.step),str (sb r.price)]):=by rw [List.getElem?_map,hr];rfl
  have c:=few_g true [r.step,r.price] (by simp);obtain ⟨w,hw⟩:∃ w,fewR r=w:=⟨_,rfl⟩
  have hw2:fewB [r.step,r.price]=w:=hw;rw [hw2] at c;cases w
  ·rw [all_not hr hw,Bool.false_and]
   refine goI dr0 (ff2 e1 kN) hm c trivial trivial trivial trivial ?_;exact exact_res rfl IsPure.out
  ·refine goI dr0 (ff3 e1 wi kN) hm c trivial trivial trivial trivial ?_
   exact ⟨(i+1,_),⟨h2,all_take hr ha hw⟩,by dsimp only;omega,wkI⟩
 ·have e1:=ltF h2
  have:i=x.rates.length:=by omega
  subst this;rw [List.take_length] at ha;rw [ha,Bool.true_and];have e3:decide ((x.vals.length:Int)≤12)=decide (x.vals.length≤12):=le_dec (b:=12);have e4:decide ((x.rates.length:Int)≤260)=decide (x.rates.length≤260):=le_dec (b:=260);have c:=few_g false x.vals hx.1;obtain ⟨p,hp⟩:∃ w,decide (x.vals.length≤12)=w:=⟨_,rfl⟩
  obtain ⟨q,hq⟩:∃ w,decide (x.rates.length≤260)=w:=⟨_,rfl⟩
  obtain ⟨w,hw⟩:∃ w,fewB x.vals=w:=⟨_,rfl⟩
  rw [hp] at e3;rw [hq] at e4;rw [hw] at c;rw [hp,hq,hw];cases p<;>cases w<;>cases q
  all_goals
   refine goI dr0 (ff5 e1 e3 e4 el el2) c trivial trivial trivial trivial trivial ?_;exact exact_res rfl IsPure.out
def headT (v:List (List UInt8)):List UInt8:=v.headD []
theorem gv_ok (ha:ICalls C0 10 [] (boo true))(s:SchT)(hs:s.fit)(x:AskT)(hx:x.fit):ICalls C0 7 [s.D,x.D] (boo true):=by
 refine ICallP.walk w1 fok7 rfl fun F=>?_
 have cl:=light_g s hs;have cq:=asked_ok x hx;have hf:=@light_few s;obtain ⟨L,hL⟩:∃ L,lightB s=L:=⟨_,rfl⟩
 obtain ⟨A,hA⟩:∃ L,askedB x=L:=⟨_,rfl⟩
 rw [hL] at cl hf;rw [hA] at cq;have hfew:A=true→Few x.vals:=fun h=>by
  rw [h] at hA;unfold askedB at hA;simp only [Bool.and_eq_true,decide_eq_true_eq] at hA;exact ⟨by omega,fun l hl=>Nat.le_trans (fewB_ok hA.2.2.1 l hl) (by decide)⟩
 have el1:(((s.fs.map FacT.D).length:Nat):Int)=(s.fs.length:Int):=by rw [List.length_map]
 have el2:(((s.gs.map GraT.D).length:Nat):Int)=(s.gs.length:Int):=by rw [List.length_map]
 have el3:(((x.vals.map fun l=>str (sb l)).length:Nat):Int)=(x.vals.length:Int):=by rw [List.length_map]
 cases L
 ·unfold SchT.D AskT.D at *
  refine goI drFm_7 kB cl ha trivial trivial trivial trivial ?_;exact exact_res rfl IsPure.out
 cases A
 ·unfold SchT.D AskT.D at *
  refine goI drFm_7 kB cl cq ha trivial trivial trivial ?_;exact exact_res rfl IsPure.out
 have hs:=hf rfl;have hv:=hfew rfl;obtain ⟨v,hvv⟩:∃ v,x.vals=v:=⟨_,rfl⟩
 obtain ⟨g,hg⟩:∃ v,x.grade=v:=⟨_,rfl⟩
 obtain ⟨f,hff⟩:∃ v,x.factor=v:=⟨_,rfl⟩
 obtain ⟨rs,hrs⟩:∃ v,x.rates.map RateT.D=v:=⟨_,rfl⟩
 have prs:IsPure (.sl false 3 rs):=by rw [← hrs];exact inferInstance
 have hxD:x.D=.agg [i64 g,i64 f,txD false v,.sl false 3 rs]:=by unfold AskT.D;rw [hvv,hg,hff,hrs]
 rw [hxD] at cq ⊢;rw [hvv] at hv el3;obtain ⟨l0,hl0⟩:∃ l,headT v=l:=⟨_,rfl⟩
 have hl0f:l0.length≤100000:=by
  rw [← hl0];unfold headT;cases v with
  | nil=>exact Nat.zero_le _
  | cons a r=>exact hv.2 a List.mem_cons_self
 have c1:=pholds s hs g false v hv;have c2:=pgradeR s hs false v hv;have c3:=pdeciding s hs false v hv;have c4:=pfactorR s hs f l0 hl0f;have c5:=rsch s hs;have c6:=rvals s false v hv fun hl=>rrow v hv.2 hl
 have c7:=fun g' n h1 h2 h3=>rholds g' false v n h1 h2 h3
 have c8:=fun h=>rgrade_ok s h false v
 have c9:=fun h k hk=>rfac_ok s h k hk l0
 have c10:=fun h=>rdeciding s h false v
 have hgs:∀ i,i<s.gs.length→(s.gs.map GraT.D)[i]? = some (s.gs.getD i default).D:=fun i hi=>by rw [List.getElem?_map,gv_some hi];rfl
 obtain ⟨hR,hhR⟩:∃ r,holdsR s g v=r:=⟨_,rfl⟩
 obtain ⟨G,hhG⟩:∃ r,chkG s g v=r:=⟨_,rfl⟩
 obtain ⟨V,hhV⟩:∃ r,chkV s v=r:=⟨_,rfl⟩
 obtain ⟨K,hhK⟩:∃ r,chkF s f l0=r:=⟨_,rfl⟩
 obtain ⟨dl,hdl⟩:∃ r,decR s v=r:=⟨_,rfl⟩
 obtain ⟨wg,hwg⟩:∃ r,allOf (gridOf s) v=r:=⟨_,rfl⟩
 obtain ⟨wf,hwf⟩:∃ r,gradeOf (gridOf s) f.toNat (ratOf l0)=r:=⟨_,rfl⟩
 obtain ⟨q,hq⟩:∃ r,chkScheme s=r:=⟨_,rfl⟩
 have dR:holdsR s g v=if chkG s g v=0 then decide ((allOf (gridOf s) v:Int)≤g) else false:=rfl
 have dG:chkG s g v=if chkScheme s=0 then fst2 (unk g s.gs.length) (chkVals s.fs.length v) else chkScheme s:=rfl
 have dV:chkV s v=if chkScheme s=0 then chkVals s.fs.length v else chkScheme s:=rfl
 have dF:chkF s f l0=if chkScheme s=0 then fst2 (unk f s.fs.length) (chk l0) else chkScheme s:=rfl
 have dD:decR s v=if chkV s v=0 then decTo (gridOf s) (allOf (gridOf s) v) v v.length else []:=rfl
 have gG:=@chkG_ok s g v;have gV:=@chkV_ok s v;have gR:=fun k=>@holdsR_ok s k v
 have gD:=@decR_ok s v;have gA:=fun h=>@all_grade s h v
 have gF:=fun h=>@gradeOf_eq s h
 rw [hhR,hhG,hwg] at dR;rw [hhG,hq] at dG;rw [hhV,hq] at dV;rw [hhK,hq] at dF;rw [hdl,hhV,hwg] at dD;rw [hhR,hhG] at c1;rw [hhV,hwg] at c2;rw [hdl,hhV] at c3;rw [hhK,hwf] at c4;rw [hq] at c5;have sD:s.D=.agg [.sl false 4 (s.fs.map FacT.D),.sl false 3 (s.gs.map GraT.D)]:=rfl;rw [sD] at cl c1 c2 c3 c4 c5 c6 c8 c9 c10 ⊢;have p1:IsPure (.sl false 4 (s.fs.map FacT.D)):=inferInstance;have p2:IsPure (.sl false 3 (s.gs.map GraT.D)):=inferInstance;obtain ⟨fsD,hfsD⟩:∃ d,s.fs.map FacT.D=d:=⟨_,rfl⟩
 obtain ⟨gsD,hgsD⟩:∃ d,s.gs.map GraT.D=d:=⟨_,rfl⟩
 rw [hfsD,hgsD] at cl c1 c2 c3 c4 c5 c6 c8 c9 c10 ⊢;rw [hfsD] at el1 p1;rw [hgsD] at el2 p2 hgs;have z6:((((intsD []).length:Nat):Int)==0)=true:=rfl;clear sD hxD hfew hf hdl;refine goI drFm_7 kB cl cq c1 c2 trivial trivial ?_;refine cI c3 ?_;refine sR 600 ?_;refine OkS.seqX (α:=Nat) (fun m=>⟨[(2,.optr 0 0 2 0 0),(3,.optr 1 1 4 0 0),(5,boo hR),(6,i64 (G:Int)),(7,i64 (giveG V wg s.gs.length:Nat)),(8,i64 (giveE V wg s.gs.length:Nat)),(9,.sl false 1 (intsD dl)),(10,i64 (V:Int)),(11,str (sb l0))],[⟨1,1,43,4,[.agg [i64 g,i64 f,txD false v,.sl false 3 rs]]⟩,⟨0,0,39,2,[.agg [.sl false 4 fsD,.sl false 3 gsD]]⟩],m⟩) (fun _=>True) ?_ ?_
 ·by_cases h:v.length=0
  ·have e0:decide ((v.length:Int)>0)=false:=decide_eq_false (by omega)
   have:l0=[]:=by rw [← hl0];unfold headT;cases v with|nil=>rfl|cons a r=>simp at h
   subst this;refine goI drFm_7 (ff2 e0 el3) trivial trivial trivial trivial trivial trivial ?_;exact ⟨by trivial,_,trivial,wkI⟩
  ·have e0:decide ((v.length:Int)>0)=true:=decide_eq_true (by omega)
   have hm:(v.map fun l=>str (sb l))[0]? = some (str (sb l0)):=by
    rw [← hl0];unfold headT;cases v with|nil=>simp at h|cons a r=>rfl
   refine goI drFm_7 (ff2 e0 el3) hm trivial trivial trivial trivial trivial ?_;exact ⟨by trivial,_,trivial,wkI⟩
 rintro m1 -;rcases Nat.decEq q 0 with h0|h0
 ·have e0:=bne0 h0
  have e1:((q:Int)==(q:Int))=true:=beq_self_eq_true _;have z0:((0:Int)==0)=true:=rfl;have z1:(((0:Nat):Int)==0)=true:=rfl;rw [if_neg h0] at dG dV dF;subst dG dV dF;rw [if_neg h0] at dR dD;subst dR dD;have g0:∀ w n,giveG K w n=0:=fun w n=>if_neg h0
  have g1:∀ w n,giveE K w n=K:=fun w n=>if_neg h0
  rw [g0,g1] at c4 ⊢;refine goI drFm_7 (ff5 e0 e1 z0 z1 z6) c4 c5 ha trivial trivial trivial ?_;exact exact_res rfl IsPure.out
 have e0:=bneZ h0;rw [if_pos h0] at dG dV dF;have k0:chkScheme s=0:=hq.trans h0;have hok:=chk_schOk k0;rw [← dV] at dG;have z0:(((0:Nat):Int)==0)=true:=rfl;have vself:((V:Int) != (V:Int))=false:=by simp
 have gself:((G:Int) != (G:Int))=false:=by simp
 rw [← dV] at c6;refine goI drFm_7 (ff2 e0 el2) c4 c5 c6 trivial trivial trivial ?_;refine cI (unknown_ok g s.gs.length) ?_;refine cI (lfirst _ _) ?_;rw [← dG];refine OkS.seqX (α:=Nat) (fun m=>⟨[(2,.optr 0 0 2 0 0),(3,.optr 1 1 4 0 0),(7,i64 (giveG V wg s.gs.length:Nat)),(8,i64 (giveE V wg s.gs.length:Nat)),(9,.sl false 1 (intsD dl)),(11,str (sb l0)),(12,i64 (giveG K wf s.gs.length:Nat)),(13,i64 (giveE K wf s.gs.length:Nat)),(15,i64 (V:Int))],[⟨1,1,43,4,[.agg [i64 g,i64 f,txD false v,.sl false 3 rs]]⟩,⟨0,0,39,2,[.agg [.sl false 4 fsD,.sl false 3 gsD]]⟩],m⟩) (fun _=>True) ?_ ?_
 ·rcases Nat.decEq G 0 with hG0|hG0
  ·have e1:=beq0 hG0
   rw [if_neg hG0] at dR;subst dR;have z5:(false==false)=true:=rfl;refine goI drFm_7 (ff4 e1 gself vself z5) trivial trivial trivial trivial trivial trivial ?_;exact ⟨by trivial,_,trivial,wkI⟩
  ·have e1:=beqZ hG0
   have hch:=gG (hhG.trans hG0);obtain ⟨k,hk,hlt⟩:=unk_zero hch.2.1;have hm:=hgs k hlt;have c:=c7 (s.gs.getD k default) s.fs.length (gs_at hok hlt) hch.2.2.1 (by have:=hok.1;omega) hch.2.2.2;subst hk
   have:=gR k (hhG.trans hG0)
   rw [hhR] at this;rw [← this] at c;unfold GraT.D at hm c;have hself:(hR==hR)=true:=by cases hR<;>rfl
   refine goI drFm_7 (ff5 e1 gself vself hself kN) hm c trivial trivial trivial trivial ?_;exact ⟨by trivial,_,trivial,wkI⟩
 rintro m2 -;refine goI drFm_7 el1 trivial trivial trivial trivial trivial trivial ?_;refine cI (unknown_ok f s.fs.length) ?_;refine cI (rcheck l0 hl0f) ?_;refine cI (lfirst _ _) ?_;rw [← dF];refine sR 1800 ?_;obtain ⟨w',hw'⟩:∃ w',(if K=0 then wf else 0)=w':=⟨_,rfl⟩
 obtain ⟨w2,hw2⟩:∃ w',(if V=0 then wg else 0)=w':=⟨_,rfl⟩
 refine OkS.seqX (α:=Nat) (fun m=>⟨[(2,.optr 0 0 2 0 0),(3,.optr 1 1 4 0 0),(7,i64 (giveG V wg s.gs.length:Nat)),(8,i64 (giveE V wg s.gs.length:Nat)),(9,.sl false 1 (intsD dl)),(12,i64 (giveG K wf s.gs.length:Nat)),(13,i64 (giveE K wf s.gs.length:Nat)),(15,i64 (V:Int)),(17,i64 (K:Int)),(18,i64 (w':Int)),(19,i64 0)],[⟨1,1,43,4,[.agg [i64 g,i64 f,txD false v,.sl false 3 rs]]⟩,⟨0,0,39,2,[.agg [.sl false 4 fsD,.sl false 3 gsD]]⟩],m⟩) (fun _=>True) ?_ ?_
 ·rcases Nat.decEq K 0 with hK|hK
  ·have e1:=beq0 hK
   rw [if_neg hK] at hw';subst hw';refine goI drFm_7 e1 trivial trivial trivial trivial trivial trivial ?_;exact ⟨by trivial,_,trivial,wkI⟩
  ·have e1:=beqZ hK
   rw [if_pos hK] at hw';rw [hK] at dF;have hz:unk f s.fs.length=0∧chk l0=0:=by
    unfold fst2 at dF
    by_cases u:unk f s.fs.length=0
    ·rw [if_pos u] at dF;exact ⟨u,dF.symm⟩
    ·rw [if_neg u] at dF;exact absurd dF.symm u
   obtain ⟨k,hk,hlt⟩:=unk_zero hz.1;subst hk;have c:=c9 hok k hlt hz.2;rw [Int.toNat_natCast,gF hok hlt] at hwf;rw [hwf,hw'] at c;refine goI drFm_7 e1 c trivial trivial trivial trivial trivial ?_;exact ⟨by trivial,_,trivial,wkI⟩
 rintro m3 -;refine OkS.seqX (α:=Nat) (fun m=>⟨[(2,.optr 0 0 2 0 0),(3,.optr 1 1 4 0 0),(7,i64 (giveG V wg s.gs.length:Nat)),(8,i64 (giveE V wg s.gs.length:Nat)),(9,.sl false 1 (intsD dl)),(12,i64 (giveG K wf s.gs.length:Nat)),(13,i64 (giveE K wf s.gs.length:Nat)),(15,i64 (V:Int)),(17,i64 (K:Int)),(18,i64 (w':Int)),(19,i64 (w2:Int))],[⟨1,1,43,4,[.agg [i64 g,i64 f,txD false v,.sl false 3 rs]]⟩,⟨0,0,39,2,[.agg [.sl false 4 fsD,.sl false 3 gsD]]⟩],m⟩) (fun _=>True) ?_ ?_
 ·rcases Nat.decEq V 0 with hV|hV
  ·have e1:=beq0 hV
   rw [if_neg hV] at hw2;subst hw2;refine goI drFm_7 e1 trivial trivial trivial trivial trivial trivial ?_;exact ⟨by trivial,_,trivial,wkI⟩
  ·have e1:=beqZ hV
   rw [if_pos hV] at hw2;obtain ⟨_,u2,u3⟩:=gV (hhV.trans hV);have c:=c8 hok u2 u3;rw [gA k0 u2,hwg,hw2] at c;refine goI drFm_7 e1 c trivial trivial trivial trivial trivial ?_;exact ⟨by trivial,_,trivial,wkI⟩
 rintro m4 -;have cg1:=given_ok K wf w' s.gs.length fun h=>by rw [← hw',if_pos h]
 have cg2:=given_ok V wg w2 s.gs.length fun h=>by rw [← hw2,if_pos h]
 rcases Nat.decEq V 0 with hV|hV
 ·have e1:=bne0 hV
  rw [if_neg hV] at dD;subst dD;refine goI drFm_7 (ff4 el2 e1 z0 z6) cg1 cg2 ha trivial trivial trivial ?_;exact exact_res rfl IsPure.out
 ·have e1:=bneZ hV
  have e2:=beqZ hV;obtain ⟨_,u2,u3⟩:=gV (hhV.trans hV);have c:=c10 hok u2 u3;have hd:=gD (hhV.trans hV);rw [← hd] at c;have cs:=sameInts_self false false (decR s v) (by rw [hd];have:=rdecTo_len s.gs (rgradeN s.gs v) v v.length;have:=hv.1;omega);rw [if_pos hV] at dD;have hdl2:decR s v=dl:=by rw [dD,← hwg];unfold decR;rw [if_pos (hhV.trans hV)]
  rw [hdl2] at c cs;refine goI drFm_7 (ff3 el2 e1 e2) cg1 cg2 c cs ha trivial ?_;exact exact_res rfl IsPure.out
end Go.Ide
namespace Go.Ide
open Go.Proofs Go.RowKit Go.ChangeShapes Go.WideShapes
section
variable {H:Type} {enc:TypeId × Value→H} {W:World} {fuel:Nat} {cs:List Value} {x:DataW H × List MemPlace} {t:TypeId}
theorem rd_i64 (h:DataW.trod enc Tryz.prog W 0 (fun _=>true) true fuel 3 cs=some x):∃ z:Int,RdOk W cs [i64 z]:=by
 obtain ⟨z,_,_,h⟩:=rd_int (by kernel_rfl) h;exact ⟨z,h⟩
theorem rd_rate (h:DataW.trod enc Tryz.prog W 0 (fun _=>true) true fuel 68 cs=some x):∃ r:RateT,RdOk W cs r.D.cells∧True:=by
 obtain ⟨h1,n,h2⟩:=rd_st (l:=[(3,0,1),(24,1,1),(24,2,1)]) (m:=3) (by kernel_rfl) (by kernel_rfl) h;obtain ⟨y0,k0⟩:=h2 0 _ _ _ rfl;obtain ⟨y1,k1⟩:=h2 1 _ _ _ rfl;obtain ⟨y2,k2⟩:=h2 2 _ _ _ rfl;obtain ⟨a0,r0⟩:=rd_i64 k0;obtain ⟨a1,r1,_⟩:=rd_rat k1;obtain ⟨a2,r2,_⟩:=rd_rat k2;exact ⟨⟨a0,a1,a2⟩,rd_all h1 (rd_app (b:=1) (c:=2) r0 (rd_app (b:=1) (c:=1) r1 r2)),trivial⟩
theorem rd_ask (h:DataW.trod enc Tryz.prog W 0 (fun _=>true) true fuel 43 cs=some x):∃ a:AskT,RdOk W cs a.D.cells∧a.fit:=by
 obtain ⟨h1,n,h2⟩:=rd_st (l:=[(3,0,1),(3,1,1),(40,2,1),(41,3,1)]) (m:=4) (by kernel_rfl) (by kernel_rfl) h;obtain ⟨y0,k0⟩:=h2 0 _ _ _ rfl;obtain ⟨y1,k1⟩:=h2 1 _ _ _ rfl;obtain ⟨y2,k2⟩:=h2 2 _ _ _ rfl;obtain ⟨y3,k3⟩:=h2 3 _ _ _ rfl;obtain ⟨a0,r0⟩:=rd_i64 k0;obtain ⟨a1,r1⟩:=rd_i64 k1;obtain ⟨a2,r2,_,l2⟩:=rd_rats k2;obtain ⟨a3,r3,_,l3⟩:=rd_sl (g:=RateT.D) (ok:=fun _=>True) (e:=68) (sz:=3) (by kernel_rfl) (by kernel_rfl) (by decide) (fun _ _ _ h=>rd_rate h) k3;have hM:maxLen≤9223372036854775807:=by decide
 exact ⟨⟨a0,a1,a2,a3⟩,rd_all h1 (rd_app (b:=1) (c:=3) r0 (rd_app (b:=1) (c:=2) r1 (rd_app (b:=1) (c:=1) r2 r3))),by dsimp only;omega,by dsimp only;omega⟩
end
end Go.Ide
