/- The layer of own lemmas and contracts, part 12. -/
import Derived.Test.YtpehlicnhjoknabGreatDoorP11
import Derived.Test.YtpehlicnhjoknabGreatDoorP6
import Derived.Test.YtpehlicnhjoknabGreatDoorP10
import Derived.Test.YtpehlicnhjoknabGreatDoorP3
import Derived.Shelf.RegionOpenPlain
import Derived.Lib.Builder
import Derived.Lib.UnsafeStr
import Derived.Lib.Strings
import Derived.Lib.Slices
import Derived.Lib.Walk
import Derived.Laws.Externs
import Derived.KernelRfl
import Derived.WalkKit
import Derived.Shelf.Strconv.Itoa3
import Derived.Lib.ItoaMem
import Derived.Lib.AppendIntMem
import Derived.BigCall
import Derived.BigGuard
import Derived.OpenShut
set_option linter.unusedVariables false
set_option linter.unusedSimpArgs false
namespace Go.Ide
open Go.Proofs Go.RowKit
set_option maxRecDepth 20000
set_option maxHeartbeats 4000000
theorem b0R {H Hf:Hp}{K g T:Nat}{l:List Nat}{N:Nat}(hl:l.length=N)(he:Hp.get H K=some ⟨K,g,T,1,l.map a0p⟩:=by exact rfl)(hn:Hp.get Hf K=none:=by exact rfl):Fz H Hf (.osl K g 1 0 N) (.sl false 1 (l.map a0p)):=by
 subst hl;have key:∀ (j:Nat) (d d':D),(l.map a0p)[0+j]? = some d→(l.map a0p)[j]? = some d'→d=d':=fun j d d' h1 h2=>by
  rw [Nat.zero_add] at h1;rw [h1] at h2;exact Option.some.inj h2
 refine .osl (e:=⟨K,g,T,1,l.map a0p⟩) he hn rfl rfl (by simp) (by simp) (fun j d d' h1 h2=>by rw [key j d d' h1 h2]) fun j d d' q c c' h1 h2 h3 h4=>?_
 rw [key j d d' h1 h2] at h3;rw [h3] at h4;cases h4;exact Fz.refl _
theorem a7i (c : UInt8) (l : List UInt8) : (((c.toNat : Nat) : Int) == 45) = a1P (c :: l) := by
  show _ = (c == 45)
  rw [Bool.eq_iff_iff, beq_iff_eq, beq_iff_eq, ← UInt8.toNat_inj]
  exact ⟨fun h => by have : c.toNat = 45 := by omega
                     exact this, fun h => by rw [h]; rfl⟩
abbrev b5c:Ent:=⟨0,0,154,2,[.agg [boo false,a2k]]⟩
theorem c7p {x:List UInt8}(h:9<x.length):dv x=dv (x.take (x.length - 9))*RB+dv (x.drop (x.length - 9)):=by
 conv=>lhs;rw [← List.take_append_drop (x.length - 9) x,a4t,List.length_drop,show x.length - (x.length - 9)=9 by omega]
theorem c8N (A B t n v:Nat):(A*B+t)*B^n+v=A*B^(n+1)+(v+B^n*t):=by
 rw [Nat.add_mul,Nat.mul_assoc,Nat.pow_succ,Nat.mul_comm B,Nat.mul_comm t];omega
theorem a9k {x x0:List UInt8}{w:List Nat}(h9:9<x.length)(g1:x.all a0A=true)(g2:x.length+w.length*9=x0.length)(g3:Rd w)(g4:dv x0=dv x*RB^w.length+a0g w) :
  (x.take (x.length - 9)).all a0A=true∧(x.take (x.length - 9)).length+(w++[dv (x.drop (x.length - 9))]).length*9=x0.length∧Rd (w++[dv (x.drop (x.length - 9))]) ∧
  dv x0=dv (x.take (x.length - 9))*RB^(w++[dv (x.drop (x.length - 9))]).length+a0g (w++[dv (x.drop (x.length - 9))]):=by
 refine ⟨List.all_eq_true.2 fun a ha=>List.all_eq_true.1 g1 a (List.mem_of_mem_take ha),?_,Rd.append g3 fun a ha=>?_,?_⟩
 ·rw [List.length_take,List.length_append,List.length_singleton];omega
 ·simp only [List.mem_cons,List.not_mem_nil,or_false] at ha
  subst ha
  have:=a4Z (x.drop (x.length - 9)) (List.all_eq_true.2 fun a ha=>List.all_eq_true.1 g1 a (List.mem_of_mem_drop ha))
  rwa [List.length_drop,show x.length - (x.length - 9)=9 by omega] at this
 ·rw [g4,c7p h9,a0T rfl,List.length_append,List.length_singleton]
  exact c8N _ _ _ _ _
theorem b7w {x x0:List UInt8}{w:List Nat}(h9:x.length≤9)(g1:x.all a0A=true)(g3:Rd w)(g4:dv x0=dv x*RB^w.length+a0g w):Rd (w++[dv x])∧a0g (w++[dv x])=dv x0:=by
 refine ⟨Rd.append g3 fun a ha=>?_,?_⟩
 ·simp only [List.mem_cons,List.not_mem_nil,or_false] at ha
  subst ha;exact Nat.lt_of_lt_of_le (a4Z x g1) (Nat.pow_le_pow_right (by decide) h9)
 ·rw [g4,a0T rfl,Nat.mul_comm,Nat.add_comm]
theorem b7M {w:List Nat}{a:Nat}:List.take w.length (w.map a0p)++[i64 (a:Int)]=(w++[a]).map a0p:=by
 rw [List.take_of_length_le (by rw [List.length_map];exact Nat.le_refl _),List.map_append];rfl
theorem b8S (l:List UInt8)(hd:(a0j l).all a0A=true)(hl:l.length≤1000000):a0b C0 153 [str (sb l)] (rZ (rv l)):=by
 have er:rv l=sg (a1P l) (dv (a0j l)):=rfl;rw [er];refine a0c.walk w1 c9r rfl fun F=>?_
 have hsz:=a0v l;have hdl:(a0j l).length≤l.length:=by
  unfold a0j;split
  ·rw [List.length_drop];omega
  ·exact Nat.le_refl _
 refine sR 0 ?_;refine OkS.seqX (α:=Nat) (fun n=>⟨[(0,str (sb l)),(2,.optr 0 0 2 0 0),(3,boo (a1P l))],[b5c],n⟩) (fun _=>True) ?_ ?_
 ·cases l with
  | nil =>
   have e0:(sb []).size=0:=rfl;have e1:decide (((0:Nat):Int)>0)=false:=rfl;refine OkS.reg w1 100 (by kernel_rfl) ?_;refine gwI (ff2 e0 e1) ?_;refine gwI (ff2 kF e1) ?_;exact ⟨trivial,_,trivial,wkI⟩
  | cons c l =>
   have hpos:(sb (c::l)).size=l.length+1:=hsz;have e0:decide (((sb (c::l)).size:Int)>0)=true:=decide_eq_true (by omega);have e1:((((c::l).getD (Int.toNat 0) 0).toNat:Int)==45)=a1P (c::l):=a7i c l;refine OkS.reg w1 100 (by kernel_rfl) ?_;refine gwI e0 ?_;refine gwI (ff3 kT e0 e1) ?_;exact ⟨trivial,_,trivial,wkI⟩
 rintro n0 -;refine OkS.seqX (α:=Nat) (fun n=>⟨[(0,str (sb (a0j l))),(2,.optr 0 0 2 0 0),(3,boo (a1P l))],[b5c],n⟩) (fun _=>True) ?_ ?_
 ·refine sR 200 ?_
  cases hb:a1P l
  ·have ed:a0j l=l:=by unfold a0j;rw [hb];rfl
   rw [ed];refine ifI ?_;refine skI ?_;exact ⟨rfl,_,trivial,wkI⟩
  ·have ed:a0j l=l.drop 1:=by unfold a0j;rw [hb];rfl
   have hl0:1≤l.length:=by
    cases l with
    | nil=>cases hb
    | cons c l=>rw [List.length_cons];omega
   have ee:(sb l).extract (Int.toNat 1) l.length=sb (a0j l):=by
    rw [a2a,List.take_of_length_le (Nat.le_refl _),ed];rfl
   refine ifI ?_;refine OkS.reg w1 300 (by kernel_rfl) ?_;refine gwI (ff2 hsz kN) ?_;rw [ee];exact ⟨trivial,_,trivial,wkI⟩
 rintro n1 -;generalize a1P l=neg at *;generalize a0j l=x0 at *;clear er hsz;have hx0:x0.length≤1000000:=Nat.le_trans hdl hl;clear hdl hl l;refine sR 400 ?_;refine OkS.seq ?_;refine OkS.block ?_;refine OkS.loop (α:=Bool × List UInt8 × List Nat × Nat × Nat) (fun p=>match p with
  | (false,x,_,_,n)=>⟨[(0,str (sb x)),(2,.optr 0 0 2 0 0),(3,boo neg),(4,a2k)],[b5c],n⟩
  | (true,x,w,g,n)=>⟨[(0,str (sb x)),(2,.optr 0 0 2 0 0),(3,boo neg),(4,.osl 608 g 1 0 w.length)],[⟨608,g,3,1,w.map a0p⟩,b5c],n⟩) (fun p=>p.2.1.length)
  (fun p=>p.2.1.all a0A=true∧p.2.1.length+p.2.2.1.length*9=x0.length∧Rd p.2.2.1∧dv x0=dv p.2.1*RB^p.2.2.1.length+a0g p.2.2.1∧(p.1=false→p.2.2.1=[]))
  (false,x0,[],0,_) ⟨hd,rfl,(fun a ha=>by cases ha),by simp [a0g],fun _=>rfl⟩ wkI ?_
 rintro ⟨t,x,w,g,n2⟩ F ⟨g1,g2,g3,g4,g5⟩;dsimp only at g1 g2 g3 g4 g5;have hsz:=a0v x
 by_cases h9:9<x.length
 ·have ht:decide ((x.length:Int)>9)=true:=decide_eq_true (by omega)
  have cv:=b0S (x.drop (x.length - 9)) (List.all_eq_true.2 fun a ha=>List.all_eq_true.1 g1 a (List.mem_of_mem_drop ha)) (by rw [List.length_drop];omega);have wk:IntKind.i64.wrap ((x.length:Int) - 9)=((x.length - 9:Nat):Int):=by rw [wI (by omega) (by omega)];omega
  have wr:IntKind.i64.wrap (((sb x).size:Int) - 9)=((x.length - 9:Nat):Int):=by rw [hsz,wk]
  have e1:(sb x).extract (x.length - 9) x.length=sb (x.drop (x.length - 9)):=by rw [a2a,List.take_of_length_le (Nat.le_refl _)]
  have e2:(sb x).extract 0 (x.length - 9)=sb (x.take (x.length - 9)):=by rw [a2a,List.drop_zero]
  cases t
  ·dsimp only
   obtain rfl:=g5 rfl;refine OkS.seq ?_;refine sZ 500 ?_;refine nwI (ff2 hsz ht) ?_;refine ifI ?_;refine skI ?_;refine OkS.block ?_;refine sZ 600 ?_;refine gwI (ff5 hsz wk wr kN e1) ?_;refine a0l.same _ cv inferInstance ?_;refine stI ?_;have J:=a9k h9 g1 g2 g3 g4;rw [List.nil_append] at J;refine OkS.reg w1 700 (by kernel_rfl) ?_;refine gwI (ff4 hsz wk wr kN) ?_;refine gwI e2 ?_;exact ⟨(true,x.take (x.length - 9),[dv (x.drop (x.length - 9))],n2+11,_),⟨J.1,J.2.1,J.2.2.1,J.2.2.2,fun h=>by cases h⟩,by dsimp only;rw [List.length_take];omega,wkI⟩
  ·dsimp only
   clear g5;have J:=a9k h9 g1 g2 g3 g4;have ew:(w.map a0p).length=w.length:=List.length_map _;have el:w.length+1=(w++[dv (x.drop (x.length - 9))]).length:=by rw [List.length_append];rfl
   refine OkS.seq ?_;refine sZ 500 ?_;refine nwI (ff2 hsz ht) ?_;refine ifI ?_;refine skI ?_;refine OkS.block ?_;refine sZ 600 ?_;refine gwI (ff5 hsz wk wr kN e1) ?_;refine a0l.same _ cv inferInstance ?_;refine stI ?_;rw [b7M,el];refine OkS.reg w1 700 (by kernel_rfl) ?_;refine gwI (ff4 hsz wk wr kN) ?_;refine gwI e2 ?_;exact ⟨(true,x.take (x.length - 9),w++[dv (x.drop (x.length - 9))],n2+11,_),⟨J.1,J.2.1,J.2.2.1,J.2.2.2,fun h=>by cases h⟩,by dsimp only;rw [List.length_take];omega,wkI⟩
 ·have ht:decide ((x.length:Int)>9)=false:=decide_eq_false (by omega)
  have cv:=b0S x g1 (by omega);obtain ⟨r1,r2⟩:=b7w (by omega) g1 g3 g4;have cs:=a7l neg (w++[dv x]) r1 (by rw [List.length_append,List.length_singleton];omega);rw [r2] at cs;cases t
  ·dsimp only
   obtain rfl:=g5 rfl;refine OkS.seq ?_;refine sZ 500 ?_;refine nwI (ff2 hsz ht) ?_;refine ifI ?_;refine exI ?_;refine sR 800 ?_;refine a0l.same _ cv inferInstance ?_;refine stI ?_;refine a0l.own _ (a0m.give [b5c] cs (.drop (.keep .nil)) ⟨.refl _,b0R rfl,trivial⟩ inferInstance) ?_;rintro d H' n' ⟨rfl,rfl,rfl⟩;refine stI ?_;refine rtI ?_;exact a0a rfl IsPure.out
  ·dsimp only
   clear g5;have ew:(w.map a0p).length=w.length:=List.length_map _;have el:w.length+1=(w++[dv x]).length:=by rw [List.length_append];rfl
   refine OkS.seq ?_;refine sZ 500 ?_;refine nwI (ff2 hsz ht) ?_;refine ifI ?_;refine exI ?_;refine sR 800 ?_;refine a0l.same _ cv inferInstance ?_;refine stI ?_;rw [b7M,el];refine a0l.own _ (a0m.give [b5c] cs (.drop (.keep .nil)) ⟨.refl _,b0R rfl,trivial⟩ inferInstance) ?_;rintro d H' n' ⟨rfl,rfl,rfl⟩;refine stI ?_;refine rtI ?_;exact a0a rfl IsPure.out
def isO (o:Option D):Bool:=match o with
 | some (.agg [.prim (.bool false),.sl false 1 [.prim (.int .i64 1)]])=>true
 | _=>false
theorem c1x {o:Option D}(h:isO o=true):o=some (rZ 1):=by
 have h1:a0o 1=[1]:=a2T (by decide) (by decide);unfold isO at h;split at h
 ·show _=some (D.agg [boo (decide ((1:Int)<0)),rL (a0o 1)])
  rw [h1];rfl
 ·cases h
theorem b5m:isO ((evF X1 1000 60).1 150 [i64 1])=true:=by kernel_rfl
theorem b6L:a0b C0 150 [i64 1] (rZ 1):=a0b.ev a3W 1000 60 (c1x b5m)
def c9S (l:List UInt8):Int:=rv (a2m l)
def c7K (l:List UInt8):Int:=if a3S l then rv (a1v l) else 1
instance  (x y:Int):IsPure (.tup [rZ x,rZ y]):=⟨.tup fun d hd=>by
 simp only [List.mem_cons,List.not_mem_nil,or_false] at hd;rcases hd with rfl|rfl
 ·exact IsPure.out
 ·exact IsPure.out⟩
theorem a5n (l:List UInt8)(hn:(a0j (a2m l)).all a0A=true)(hd:(a0j (a1v l)).all a0A=true)(hl:l.length≤1000000):a0b C0 85 [str (sb l)] (.tup [rZ (c9S l),rZ (c7K l)]):=by
 refine a0c.walk w1 d2q rfl fun F=>?_
 have hsz:=a0v l;have cs:=b0G l (by omega);have hsl:=a2b l;have c1:=b8S (a2m l) hn (by unfold a2m;rw [List.length_take];omega);have c2:=b8S (a1v l) hd (by unfold a1v;rw [List.length_drop];omega);have cw:=b6L;unfold c9S c7K;refine sR 0 ?_;refine sR 100 ?_;refine sR 200 ?_;refine cI cs ?_;cases hh:a3S l
 ·have he:a0d l=l.length:=by
   unfold a3S at hh
   have:=of_decide_eq_false hh
   omega
  have e0:(((a0d l:Nat):Int)==(l.length:Int))=true:=beq_iff_eq.2 (by omega);have en:a2m l=l:=by unfold a2m;rw [he,List.take_of_length_le (Nat.le_refl _)]
  rw [en] at c1 ⊢;refine OkS.seq ?_;refine sZ 300 ?_;refine nwI (ff2 hsz e0) ?_;refine ifI ?_;refine sR 400 ?_;refine cI c1 ?_;refine a0l.same _ cw inferInstance ?_;refine stI ?_;refine rtI ?_;exact a0a rfl IsPure.out
 ·have he:a0d l<l.length:=of_decide_eq_true hh
  have e0:(((a0d l:Nat):Int)==(l.length:Int))=false:=beq_eq_false_iff_ne.2 (by omega);have x1:(sb l).extract 0 (a0d l)=sb (a2m l):=by rw [a2a,List.drop_zero];rfl
  have x2:(sb l).extract (a0d l+1) l.length=sb (a1v l):=by rw [a2a,List.take_of_length_le (Nat.le_refl _)];rfl
  have wk:IntKind.i64.wrap (((a0d l:Nat):Int)+1)=((a0d l+1:Nat):Int):=wI (by omega) (by omega);refine OkS.seq ?_;refine sZ 300 ?_;refine nwI (ff2 hsz e0) ?_;refine ifI ?_;refine skI ?_;refine OkS.seq ?_;refine OkS.regD w1 500 [0,1,2,3,4,5,6,7] [8,9,10] (by kernel_rfl) ?_;refine gwI (ff5 hsz wk kN x1 x2) ?_;refine a0r.same _ c1 inferInstance ?_;refine gwI (ff5 hsz wk kN x1 x2) ?_;refine a0l.same _ c2 inferInstance ?_;refine stI ?_;refine rtI ?_;exact a0a rfl IsPure.out
def txt (r:Rat):List UInt8:=if r.den=1 then Lib.itoa r.num else Lib.itoa r.num++47::Lib.decDigits r.den
def qZ (x y:Int):Rat:=mkRat (if y<0 then -x else x) y.natAbs
theorem b0K {x:Int}{d:Nat}(hd:d≠0):(mkRat x d).num=sg (decide (x<0)) (x.natAbs / Nat.gcd x.natAbs d)∧(mkRat x d).den=d / Nat.gcd x.natAbs d:=by
 rw [mkRat,dif_neg hd,Rat.normalize_eq];refine ⟨?_,rfl⟩;dsimp only;have hg:0<Nat.gcd x.natAbs d:=Nat.gcd_pos_of_pos_right _ (Nat.pos_of_ne_zero hd);obtain ⟨p,hp⟩:=Nat.gcd_dvd_left x.natAbs d;have e1:x.natAbs / Nat.gcd x.natAbs d=p:=by
  refine Nat.div_eq_of_eq_mul_right hg hp
 have e2:x=(Nat.gcd x.natAbs d:Int)*sg (decide (x<0)) p:=by
  have h0:(x.natAbs:Int)=(Nat.gcd x.natAbs d:Int)*(p:Int):=by rw [← Int.natCast_mul,← hp]
  unfold sg
  by_cases hx:x<0
  ·rw [decide_eq_true hx,if_pos rfl,Int.mul_neg,← h0];omega
  ·rw [decide_eq_false hx,if_neg (by decide),← h0];omega
 rw [e1]
 conv=>lhs;arg 1;rw [e2]
 rw [Int.mul_ediv_cancel_left _ (by omega)]
theorem b4w (q:Nat):((((((a0o q).map a0p).length:Nat):Int)==1)=true∧∃ a,(a0o q)[0]? = some a∧(((a:Nat):Int)==1)=decide (q=1))∨((((((a0o q).map a0p).length:Nat):Int)==1)=false∧q≠1):=by
 rw [List.length_map]
 by_cases h:(a0o q).length=1
 ·refine .inl ⟨beq_iff_eq.2 (by omega),?_⟩
  obtain ⟨a,ha⟩:=a2Z (l:=a0o q) (i:=0) (by omega);refine ⟨a,ha,?_⟩;have e:a0o q=[a]:=by
   obtain ⟨b,hb⟩:=List.length_eq_one_iff.1 h;rw [hb] at ha ⊢;cases ha;rfl
  have e2:q=a:=by rw [← a0q q,e];simp [a0g]
  rw [e2];rw [Bool.eq_iff_iff,beq_iff_eq,decide_eq_true_iff];omega
 ·refine .inr ⟨beq_eq_false_iff_ne.2 (by omega),fun hq=>h ?_⟩
  rw [hq,a2T (by decide) (by decide)];rfl
theorem a6i (x y:Int)(hy0:y≠0)(hx:b0z x)(hy:b0z y):a0b C0 86 [rZ x,rZ y] (str (sb (txt (qZ x y)))):=by
 refine a0c.walk w1 d2R rfl fun F=>?_
 unfold qZ;refine sR 0 ?_;refine OkS.seqX (α:=Nat) (fun n=>⟨[(2,.optr 0 0 2 0 0),(3,.optr 1 1 2 0 0)],[⟨1,1,154,2,[.agg [boo false,rD y.natAbs]]⟩,⟨0,0,154,2,[rZ (if y<0 then -x else x)]⟩],n⟩) (fun _=>True) ?_ ?_
 ·by_cases h:y<0
  ·have cx:=b8u x hx
   have cy:=b8u y hy;have e1:rZ (-y)=.agg [boo false,rD y.natAbs]:=by
    show D.agg [boo (decide (-y<0)),rD (-y).natAbs]=_;rw [decide_eq_false (by omega),Int.natAbs_neg]
   rw [e1] at cy;rw [if_pos h];refine sZ 100 ?_;refine nwI (decide_eq_true h) ?_;refine ifI ?_;refine OkS.regD w1 200 [0,1,2] [3,4,5] (by kernel_rfl) ?_;refine gwI kN ?_;refine a0r.same _ cx inferInstance ?_;refine gwI kN ?_;refine a0l.same _ cy inferInstance ?_;refine stI ?_;exact ⟨trivial,_,trivial,wkI⟩
  ·have e1:rZ y=.agg [boo false,rD y.natAbs]:=by
    show D.agg [boo (decide (y<0)),rD y.natAbs]=_;rw [decide_eq_false h]
   rw [if_neg h];refine sZ 100 ?_;refine nwI (decide_eq_false h) ?_;refine ifI ?_;refine skI ?_;refine ⟨rfl,5,trivial,?_⟩;rw [← e1];exact wkI
 rintro n0 -;obtain ⟨z,hz⟩:∃ z,z=(if y<0 then -x else x):=⟨_,rfl⟩
 have hza:z.natAbs=x.natAbs:=by rw [hz];split<;>omega
 obtain ⟨d,hd⟩:∃ d,d=y.natAbs:=⟨_,rfl⟩
 have hd0:d≠0:=by omega
 unfold b0z at hx hy;rw [← hza] at hx;rw [← hd] at hy;rw [← hz,← hd];clear hz hza hd hy0;clear x y;have cg:=b4x z.natAbs d hx hy;obtain ⟨qn,qd⟩:=b0K (x:=z) hd0;have hg:0<Nat.gcd z.natAbs d:=Nat.gcd_pos_of_pos_right _ (Nat.pos_of_ne_zero hd0);have hgl:(a0o (Nat.gcd z.natAbs d)).length<1000000:=Nat.lt_of_le_of_lt (a0s _ _ (Nat.gcd_le_right _ (Nat.pos_of_ne_zero hd0))) hy;have c4:=d1C z.natAbs (Nat.gcd z.natAbs d) (by omega) hx hgl;have c5:a0b C0 155 [rD d,rD (Nat.gcd z.natAbs d)] (.tup [.sl false 1 ((a0o (d / Nat.gcd z.natAbs d)).map a0p),rD (d%Nat.gcd z.natAbs d)]):=d1C d (Nat.gcd z.natAbs d) (by omega) hy hgl;have hpl:(a0o (z.natAbs / Nat.gcd z.natAbs d)).length<1000000:=Nat.lt_of_le_of_lt (a0s _ _ (Nat.div_le_self _ _)) hx;have hql:(a0o (d / Nat.gcd z.natAbs d)).length<1000000:=Nat.lt_of_le_of_lt (a0s _ _ (Nat.div_le_self _ _)) hy;have etx:txt (mkRat z d)=if d / Nat.gcd z.natAbs d=1 then Lib.itoa (sg (decide (z<0)) (z.natAbs / Nat.gcd z.natAbs d)) else Lib.itoa (sg (decide (z<0)) (z.natAbs / Nat.gcd z.natAbs d))++47::Lib.decDigits (d / Nat.gcd z.natAbs d):=by
  unfold txt;rw [qn,qd]
 rw [etx];clear etx qn qd hg hgl;generalize z.natAbs / Nat.gcd z.natAbs d=p at *;generalize d / Nat.gcd z.natAbs d=q at *;generalize z.natAbs%Nat.gcd z.natAbs d=r1 at *;generalize d%Nat.gcd z.natAbs d=r2 at *;generalize Nat.gcd z.natAbs d=gg at *;have c6:=a3a (decide (z<0)) p (by omega);have hab:(sg (decide (z<0)) p).natAbs=p:=by unfold sg;split<;>omega
 have c7:=b3W (sg (decide (z<0)) p) (by unfold b0z;rw [hab];exact hpl);have c8:=a3a false q (by omega);have c9:=b3W (sg false q) (by unfold b0z;show (a0o q).length<1000000;exact hql);have e9:Lib.itoa (sg false q)=Lib.decDigits q:=by rw [b8V false q (by simp)];rfl
 rw [e9] at c9;have l1:=a7J (a0B p);rw [a0q] at l1;have l2:=a7J (a0B q);rw [a0q] at l2;have l3:(Lib.itoa (sg (decide (z<0)) p)).length≤(Lib.decDigits p).length+1:=by
  unfold Lib.itoa;split
  ·rw [hab,List.length_cons];exact Nat.le_refl _
  ·rw [show (sg (decide (z<0)) p).toNat=p by omega];omega
 generalize sg (decide (z<0)) p=pz at *;have s1:=a0v (Lib.itoa pz);have s2:=a0v (Lib.decDigits q);have s3:(⟨#[47]⟩:ByteArray).size=1:=rfl;have s4:(sb (Lib.itoa pz)++(⟨#[47]⟩:ByteArray)).size=(sb (Lib.itoa pz)).size+(⟨#[47]⟩:ByteArray).size:=ByteArray.size_append;generalize Lib.itoa pz=t1 at *;generalize Lib.decDigits q=t2 at *;refine sR 300 ?_;refine cI cg ?_;refine sR 400 ?_;refine cI c4 ?_;refine sR 500 ?_;refine cI c5 ?_;refine sR 600 ?_;refine cI c6 ?_;refine cI c7 ?_;have ht:=b4w q;rcases ht with ⟨h1,a,ha,h2⟩|⟨h1,h2⟩
 ·have ha':=a6L ha
  refine OkS.seq ?_;refine sZ 700 ?_;refine gwI h1 ?_;refine ixI kT ha' ?_;refine gwI (ff2 h1 h2) ?_
  by_cases hq:q=1
  ·rw [decide_eq_true hq,if_pos hq]
   refine ifI ?_;refine sR 800 ?_;refine rtI ?_;exact a0a rfl IsPure.out
  ·rw [decide_eq_false hq,if_neg hq]
   refine ifI ?_;refine skI ?_;refine sR 900 ?_;refine a0l.same _ c8 inferInstance ?_;refine stI ?_;refine a0l.same _ c9 inferInstance ?_;refine stI ?_;refine rtI ?_;refine a0a ?_ IsPure.out;show str ((⟨t1.toArray⟩++⟨([47]:List UInt8).toArray⟩:ByteArray)++⟨t2.toArray⟩)=_;rw [a4p,a4p,List.append_assoc];rfl
 ·rw [if_neg h2]
  refine OkS.seq ?_;refine sZ 700 ?_;refine nwI h1 ?_;refine gwI kF ?_;refine ifI ?_;refine skI ?_;refine sR 900 ?_;refine a0l.same _ c8 inferInstance ?_;refine stI ?_;refine a0l.same _ c9 inferInstance ?_;refine stI ?_;refine rtI ?_;refine a0a ?_ IsPure.out;show str ((⟨t1.toArray⟩++⟨([47]:List UInt8).toArray⟩:ByteArray)++⟨t2.toArray⟩)=_;rw [a4p,a4p,List.append_assoc];rfl
set_option maxHeartbeats 2000000
theorem b0q (k:Nat)(h:k<10):(UInt8.ofNat (48+k)).toNat=48+k:=by
 rw [UInt8.toNat_ofNat'];omega
theorem a1N:∀ n:Nat,(Lib.decDigits n).all a0A=true∧dv (Lib.decDigits n)=n∧(Lib.decDigits n)≠[]:=fun n=>by
 induction n using Nat.strongRecOn with
 | _ n ih =>
  have one:∀ k,k<10→a0A (UInt8.ofNat (48+k))=true:=fun k hk=>by
   unfold a0A;rw [b0q k hk,Bool.and_eq_true];exact ⟨Nat.ble_eq_true_of_le (by omega),Nat.ble_eq_true_of_le (by omega)⟩
  have vone:∀ k,k<10→dv [UInt8.ofNat (48+k)]=k:=fun k hk=>by
   show 0*10+((UInt8.ofNat (48+k)).toNat - 48)=k;rw [b0q k hk];omega
  rw [Lib.decDigits];split
  ·rename_i h
   exact ⟨by rw [List.all_cons,one n h];rfl,vone n h,by simp⟩
  ·rename_i h
   obtain ⟨h1,h2,h3⟩:=ih (n / 10) (by omega);refine ⟨by rw [List.all_append,h1,List.all_cons,one _ (Nat.mod_lt _ (by decide))];rfl,?_,by simp⟩;rw [a4t,h2,vone _ (Nat.mod_lt _ (by decide)),List.length_singleton];omega
theorem d0E {c:UInt8}(h:a0A c=true):c≠47∧c≠45:=by
 obtain ⟨h1,h2⟩:=a2s h;exact ⟨fun hh=>by subst hh;simp at h1,fun hh=>by subst hh;simp at h1⟩
theorem a5O (z:Int):a1P (Lib.itoa z)=decide (z<0)∧a0j (Lib.itoa z)=Lib.decDigits z.natAbs:=by
 unfold Lib.itoa
 by_cases h:z<0
 ·rw [if_pos h,decide_eq_true h]
  exact ⟨rfl,rfl⟩
 ·rw [if_neg h,decide_eq_false h,show z.toNat=z.natAbs by omega]
  have h1:=a6t (a1N z.natAbs).1;exact ⟨h1,a1H (a1N z.natAbs).1⟩
theorem c4p (z:Int):rv (Lib.itoa z)=z:=by
 unfold rv;rw [(a5O z).1,(a5O z).2,(a1N z.natAbs).2.1]
 by_cases h:z<0
 ·rw [decide_eq_true h,if_pos rfl];omega
 ·rw [decide_eq_false h,if_neg (by decide)];omega
theorem a6J (z:Int):∀ c∈Lib.itoa z,(c != 47)=true:=fun c hc=>by
 have hd:∀ n,∀ c∈Lib.decDigits n,(c != 47)=true:=fun n c h=>by
  have:=(d0E (List.all_eq_true.1 (a1N n).1 c h)).1
  simpa using this
 unfold Lib.itoa at hc;split at hc
 ·rcases List.mem_cons.1 hc with rfl|h
  ·rfl
  ·exact hd _ c h
 ·exact hd _ c hc
theorem a3J {p:UInt8→Bool}:∀ {l:List UInt8} (m:List UInt8),(∀ c∈l,p c=true)→(l++m).takeWhile p=l++m.takeWhile p
 | [],_,_=>rfl
 | a::l,m,h=>by
  rw [List.cons_append,List.takeWhile_cons,if_pos (h a List.mem_cons_self),a3J m fun c hc=>h c (List.mem_cons_of_mem _ hc)];rfl
theorem a4a (r:Rat):a0d (txt r)=(Lib.itoa r.num).length:=by
 unfold a0d txt;split
 ·have:=a3J (p:=(· != 47)) [] (a6J r.num)
  rw [List.append_nil] at this;rw [this];simp
 ·rw [a3J (p:=(· != 47)) _ (a6J r.num)]
  simp
theorem b3w (r:Rat):a2m (txt r)=Lib.itoa r.num:=by
 unfold a2m;rw [a4a];unfold txt;split
 ·exact List.take_of_length_le (Nat.le_refl _)
 ·exact List.take_left' rfl
theorem b0B (r:Rat):a1v (txt r)=if r.den=1 then [] else Lib.decDigits r.den:=by
 unfold a1v;rw [a4a];unfold txt;split
 ·exact List.drop_of_length_le (Nat.le_succ _)
 ·rw [List.drop_append]
  rw [List.drop_of_length_le (Nat.le_succ _),Nat.add_sub_cancel_left];rfl
theorem b2Q (r:Rat):a3S (txt r) = !decide (r.den=1):=by
 unfold a3S;rw [a4a];unfold txt
 by_cases h:r.den=1
 ·rw [if_pos h,decide_eq_true h,decide_eq_false (by omega)];rfl
 ·rw [if_neg h,decide_eq_false h,List.length_append,List.length_cons,decide_eq_true (by omega)];rfl
theorem a5V (r:Rat):c9S (txt r)=r.num:=by unfold c9S;rw [b3w,c4p]
theorem a7m (r:Rat):c7K (txt r)=r.den:=by
 unfold c7K;rw [b2Q,b0B]
 by_cases h:r.den=1
 ·rw [decide_eq_true h,h];rfl
 ·rw [decide_eq_false h,if_neg h,if_pos (show (!false)=true from rfl),a9x (a1N _).1,(a1N _).2.1]
theorem a4S (r:Rat):(a0j (a2m (txt r))).all a0A=true:=by rw [b3w,(a5O _).2];exact (a1N _).1
theorem a4U (r:Rat):(a0j (a1v (txt r))).all a0A=true:=by
 rw [b0B];split
 ·rfl
 ·rw [a1H (a1N _).1];exact (a1N _).1
theorem b7j (z:Int):Lib.itoa z≠[]:=by
 unfold Lib.itoa;split
 ·simp
 ·exact (a1N _).2.2
theorem c2T (r:Rat):txt r≠[]:=by
 unfold txt;split
 ·exact b7j _
 ·simp
theorem b3b (r:Rat):a1P (txt r)=decide (r.num<0):=by
 rw [← (a5O r.num).1];unfold txt;split
 ·rfl
 ·have:=b7j r.num
  cases h:Lib.itoa r.num with
  | nil=>exact absurd h this
  | cons c l=>rfl
theorem b4L (r:Rat):decide (txt r=[48])=decide (r.num=0):=by
 refine decide_eq_decide.2 ⟨fun h=>?_,fun h=>?_⟩
 ·have h1:=a5V r
  rw [h] at h1;rw [← h1];decide
 ·have:r.den=1:=by
   have:=r.reduced
   rw [h] at this;simpa using this
  unfold txt;rw [if_pos this,h];show Lib.decDigits 0=[48];rw [Lib.decDigits,dif_pos (by decide)];rfl
abbrev rR (r:Rat):D:=str (sb (txt r))
def b9I (r:Rat):Prop:=(txt r).length≤1000000
theorem b7P (r:Rat)(hl:b9I r):a0b C0 78 [rR r] (i64 (a6Y r)):=by
 refine a0c.walk w1 d1U rfl fun F=>?_
 have hsz:=a0v (txt r);unfold b9I at hl;have ez:=a4V (txt r) [48];rw [b4L] at ez;have en:=b3b r;refine sR 0 ?_;refine OkS.seq ?_;refine OkS.seq ?_;have ez2:a1X (sb (txt r)) ⟨#[48]⟩=decide (r.num=0):=ez;have hne:=c2T r;refine OkS.reg w1 100 (by kernel_rfl) ?_;refine nwI ez2 ?_
 by_cases h0:r.num=0
 ·rw [decide_eq_true h0]
  refine ifI ?_;refine sR 200 ?_;refine rtI ?_;exact a0a (by unfold a6Y;rw [h0];rfl) IsPure.out
 ·rw [decide_eq_false h0]
  have hpos:0<(txt r).length:=List.length_pos_iff.2 hne;have e0:decide (((sb (txt r)).size:Int)>0)=true:=decide_eq_true (by omega);have e1:((((txt r).getD (Int.toNat 0) 0).toNat:Int)==45)=decide (r.num<0):=by
   rw [← en];cases ht:txt r with
   | nil=>exact absurd ht hne
   | cons c l=>exact a7i c l
  refine ifI ?_;refine skI ?_;refine OkS.seq ?_;refine sZ 300 ?_;refine gwI e0 ?_;refine gwI (ff3 kT e0 e1) ?_
  by_cases hn:r.num<0
  ·rw [decide_eq_true hn]
   refine ifI ?_;refine sR 400 ?_;refine rtI ?_;exact a0a (by unfold a6Y;congr 3;omega) IsPure.out
  ·rw [decide_eq_false hn]
   refine ifI ?_;refine skI ?_;refine sR 500 ?_;refine rtI ?_;exact a0a (by unfold a6Y;congr 3;omega) IsPure.out
theorem c5m (r:Rat)(hl:b9I r):a0b C0 145 [rR r] (boo (decide (r.den=1))):=by
 refine a0c.walk w1 c9f rfl fun F=>?_
 have hsz:=a0v (txt r);unfold b9I at hl;have cs:=b0G (txt r) (by omega);have hh:=b2Q r;have hle:=a2b (txt r);unfold a3S at hh;have et:(((a0d (txt r):Nat):Int)==((txt r).length:Int))=decide (r.den=1):=by
  have:decide (r.den=1) = !decide (a0d (txt r)<(txt r).length):=by rw [hh];simp
  rw [this];rw [Bool.eq_iff_iff,beq_iff_eq,Bool.not_eq_true',decide_eq_false_iff_not];omega
 refine sR 0 ?_;refine sR 100 ?_;refine cI cs ?_;rw [hsz,et];refine rtI ?_;exact a0a rfl IsPure.out
theorem b6P (z:Int):txt (z:Rat)=Lib.itoa z:=by
 unfold txt;rw [if_pos (Rat.den_intCast z),Rat.num_intCast]
theorem b0J {r:Rat}(h:r.num<0):(txt r).drop 1=txt (-r)∧(txt (-r)).length+1=(txt r).length:=by
 have e:Lib.itoa r.num=45::Lib.itoa (-r.num):=by
  unfold Lib.itoa;rw [if_pos h,if_neg (by omega),show (-r.num).toNat=r.num.natAbs by omega]
 have e2:txt r=45::txt (-r):=by
  unfold txt;rw [Rat.neg_den,Rat.neg_num,e];split<;>rfl
 rw [e2];exact ⟨rfl,rfl⟩
theorem c0U {r:Rat}(h:0<r.num):txt (-r)=45::txt r:=by
 obtain ⟨h1,h2⟩:=b0J (r:=-r) (by rw [Rat.neg_num];omega);rw [Rat.neg_neg] at h1;have h3:=b3b (-r);rw [decide_eq_true (by rw [Rat.neg_num];omega)] at h3;cases ht:txt (-r) with
 | nil=>rw [ht] at h3;cases h3
 | cons c l =>
  rw [ht] at h1 h3
  have:c=45:=by simpa [a1P] using h3
  rw [this,← h1];rfl
theorem c3O (r:Rat):decide (a6Y r<0)=decide (r.num<0):=decide_eq_decide.2 (by unfold a6Y;omega)
theorem b6v (r:Rat):(a6Y r==0)=decide (r.num=0):=by
 rw [Bool.eq_iff_iff,beq_iff_eq,decide_eq_true_iff];unfold a6Y;omega
theorem d2G (r:Rat)(hl:b9I r):a0b C0 79 [rR r] (rR (-r)):=by
 refine a0c.walk w1 d1N rfl fun F=>?_
 have hsz:=a0v (txt r);have cs:=b7P r hl;unfold b9I at hl;have e1:=c3O r;have e2:=b6v r;refine sR 0 ?_;refine OkS.seq ?_;refine sR 100 ?_;refine cI cs ?_;rw [e1]
 by_cases h:r.num<0
 ·obtain ⟨t1,t2⟩:=b0J h
  have ee:(sb (txt r)).extract (Int.toNat 1) (txt r).length=sb (txt (-r)):=by
   rw [a2a,List.take_of_length_le (Nat.le_refl _),← t1];rfl
  rw [decide_eq_true h];refine ifI ?_;refine sZ 200 ?_;refine gwI (ff2 hsz kN) ?_;rw [ee];refine rtI ?_;exact a0a rfl IsPure.out
 ·rw [decide_eq_false h]
  refine ifI ?_;refine skI ?_;refine OkS.seq ?_;refine sR 300 ?_;refine cI cs ?_;rw [e2]
  by_cases h0:r.num=0
  ·rw [decide_eq_true h0]
   refine ifI ?_;refine sR 400 ?_;refine rtI ?_;refine a0a ?_ IsPure.out
   have:r=0:=Rat.num_eq_zero.1 h0
   rw [this];rfl
  ·have tp:=c0U (r:=r) (by omega)
   have z3:(⟨#[45]⟩:ByteArray).size=1:=rfl;rw [decide_eq_false h0];refine ifI ?_;refine skI ?_;refine sR 500 ?_;refine rtI ?_;refine a0a ?_ IsPure.out;show str ((⟨([45]:List UInt8).toArray⟩:ByteArray)++⟨(txt r).toArray⟩)=str (sb (txt (-r)));rw [a4p,tp];rfl
def a5c (r:Rat):Rat:=if r.num<0 then -r else r
theorem a7k (r:Rat):(a5c r).num=r.num.natAbs∧(a5c r).den=r.den:=by
 unfold a5c;split
 ·rw [Rat.neg_num,Rat.neg_den];exact ⟨by omega,rfl⟩
 ·exact ⟨by omega,rfl⟩
def qk (r:Rat):Bool:=!decide (20<(txt r).length) && !(decide (9<a0d (txt (a5c r)))||decide (10<(txt (a5c r)).length - a0d (txt (a5c r))))
theorem c1D (r:Rat):(txt (a5c r)).length≤(txt r).length:=by
 unfold a5c;split
 ·rename_i h
  have:=(b0J h).2
  omega
 ·exact Nat.le_refl _
theorem a8A (r:Rat):Lib.itoa (a5c r).num=Lib.decDigits r.num.natAbs:=by
 rw [(a7k r).1];unfold Lib.itoa;rw [if_neg (by omega)];rfl
theorem a5J {r:Rat}(h:qk r=true):r.num.natAbs<10^9∧r.den<10^9:=by
 unfold qk at h;simp only [Bool.and_eq_true,Bool.not_eq_true',Bool.or_eq_false_iff,decide_eq_false_iff_not] at h;obtain ⟨h1,h2,h3⟩:=h;have hs:=a4a (a5c r);rw [a8A] at hs;have hd:=b0B (a5c r);rw [(a7k r).2] at hd;have hdl:(a1v (txt (a5c r))).length=(txt (a5c r)).length - (a0d (txt (a5c r))+1):=by unfold a1v;rw [List.length_drop]
 have d1:=a4Z _ (a1N r.num.natAbs).1;have d2:=a4Z _ (a1N r.den).1;rw [(a1N _).2.1] at d1 d2;refine ⟨Nat.lt_of_lt_of_le d1 (Nat.pow_le_pow_right (by decide) (by omega)),?_⟩
 by_cases h1:r.den=1
 ·rw [h1];decide
 ·rw [if_neg h1] at hd
  rw [hd] at hdl;exact Nat.lt_of_lt_of_le d2 (Nat.pow_le_pow_right (by decide) (by omega))
theorem b0M (r:Rat)(hl:b9I r):a0b C0 83 [rR r] (.tup [i64 (if qk r then r.num else 0),i64 (if qk r then (r.den:Int) else 0),boo (qk r)]):=by
 refine a0c.walk w1 d2J rfl fun F=>?_
 have hsz:=a0v (txt r);unfold b9I at hl;have hne:=c2T r;have hpos:0<(txt r).length:=List.length_pos_iff.2 hne;refine sR 0 ?_;refine sR 100 ?_;refine OkS.seq ?_;refine OkS.seq ?_
 by_cases h20:20<(txt r).length
 ·have e2:decide (((txt r).length:Int)>20)=true:=decide_eq_true (by omega)
  have eq:qk r=false:=by unfold qk;rw [decide_eq_true h20];rfl
  rw [eq];refine OkS.reg w1 200 (by kernel_rfl) ?_;refine nwI (ff2 hsz e2) ?_;refine ifI ?_;refine sR 300 ?_;refine rtI ?_;exact a0a rfl IsPure.out
 ·have e2:decide (((txt r).length:Int)>20)=false:=decide_eq_false (by omega)
  have eq:qk r = !(decide (9<a0d (txt (a5c r)))||decide (10<(txt (a5c r)).length - a0d (txt (a5c r)))):=by unfold qk;rw [decide_eq_false h20];rfl
  have en:=b3b r;refine OkS.reg w1 200 (by kernel_rfl) ?_;refine nwI (ff2 hsz e2) ?_;refine ifI ?_;refine skI ?_;refine OkS.seqX (α:=Nat) (fun n=>⟨[(5,rR r),(6,boo (decide (r.num<0)))],[],n⟩) (fun _=>True) ?_ ?_
  ·have e0:decide (((sb (txt r)).size:Int)>0)=true:=decide_eq_true (by omega)
   have e1:((((txt r).getD (Int.toNat 0) 0).toNat:Int)==45)=decide (r.num<0):=by
    rw [← en];cases ht:txt r with
    | nil=>exact absurd ht hne
    | cons c l=>exact a7i c l
   refine OkS.reg w1 400 (by kernel_rfl) ?_;refine gwI e0 ?_;refine gwI (ff3 kT e0 e1) ?_;exact ⟨trivial,_,trivial,wkI⟩
  rintro n0 -;refine OkS.seqX (α:=Nat) (fun n=>⟨[(5,rR (a5c r)),(6,boo (decide (r.num<0)))],[],n⟩) (fun _=>True) ?_ ?_
  ·refine sR 500 ?_
   by_cases h:r.num<0
   ·obtain ⟨t1,t2⟩:=b0J h
    have ea:a5c r = -r:=by unfold a5c;rw [if_pos h]
    have ee:(sb (txt r)).extract (Int.toNat 1) (txt r).length=sb (txt (a5c r)):=by
     rw [ea,a2a,List.take_of_length_le (Nat.le_refl _),← t1];rfl
    rw [decide_eq_true h];refine ifI ?_;refine OkS.reg w1 600 (by kernel_rfl) ?_;refine gwI (ff2 hsz kN) ?_;rw [ee];exact ⟨trivial,_,trivial,wkI⟩
   ·have ea:a5c r=r:=by unfold a5c;rw [if_neg h]
    rw [decide_eq_false h,ea];refine ifI ?_;refine skI ?_;exact ⟨rfl,_,trivial,wkI⟩
  rintro n1 -;have hal:=c1D r;have hsa:=a4a (a5c r);rw [a8A] at hsa;have hn:=b3w (a5c r);rw [a8A] at hn;have hd:=b0B (a5c r);rw [(a7k r).2] at hd;have hh:=b2Q (a5c r);rw [(a7k r).2] at hh;unfold a3S at hh;have hle:=a2b (txt (a5c r));have cs:=b0G (txt (a5c r)) (by omega);have hszA:=a0v (txt (a5c r));clear hsz hne hpos e2 en;generalize hT:txt (a5c r)=T at *;have eR:rR (a5c r)=str (sb T):=by rw [← hT]
  rw [eR];clear hT eR;refine sR 700 ?_;refine cI cs ?_;have w8:IntKind.i64.wrap ((T.length:Int) - (a0d T:Int))=((T.length - a0d T:Nat):Int):=by rw [wI (by omega) (by omega)];omega
  have eb:decide (((T.length - a0d T:Nat):Int)>10)=decide (10<T.length - a0d T):=decide_eq_decide.2 (by omega)
  by_cases h9:9<a0d T
  ·have e8:decide ((a0d T:Int)>9)=true:=decide_eq_true (by omega)
   rw [decide_eq_true h9] at eq;have eq2:qk r=false:=eq;rw [eq2];refine OkS.seq ?_;refine sZ 800 ?_;refine nwI e8 ?_;refine gwI kT ?_;refine ifI ?_;refine sR 900 ?_;refine rtI ?_;exact a0a rfl IsPure.out
  have e8:decide ((a0d T:Int)>9)=false:=decide_eq_false (by omega);rw [decide_eq_false h9] at eq
  by_cases h10:10<T.length - a0d T
  ·rw [decide_eq_true h10] at eq eb
   have eq2:qk r=false:=eq;rw [eq2];refine OkS.seq ?_;refine sZ 800 ?_;refine nwI e8 ?_;refine gwI (ff4 kF hszA w8 eb) ?_;refine ifI ?_;refine sR 900 ?_;refine rtI ?_;exact a0a rfl IsPure.out
  rw [decide_eq_false h10] at eq eb;have eq2:qk r=true:=eq;rw [eq2];refine OkS.seq ?_;refine sZ 800 ?_;refine nwI e8 ?_;refine gwI (ff4 kF hszA w8 eb) ?_;refine ifI ?_;refine skI ?_;have hd1:=a1N r.num.natAbs;have hd2:=a1N r.den;have c1:=b0S (Lib.decDigits r.num.natAbs) hd1.1 (by omega);rw [hd1.2.1] at c1;have e10:(sb T).extract 0 (a0d T)=sb (Lib.decDigits r.num.natAbs):=by
   rw [a2a,List.drop_zero,← hn];rfl
  refine sZ 1000 ?_;refine gwI (ff2 hszA kN) ?_;refine gwI e10 ?_;refine a0l.same _ c1 inferInstance ?_;refine stI ?_;refine OkS.seqX (α:=Nat) (fun n=>⟨[(6,boo (decide (r.num<0))),(8,i64 (r.num.natAbs:Int)),(9,i64 (r.den:Int))],[],n⟩) (fun _=>True) ?_ ?_
  ·by_cases hden:r.den=1
   ·rw [decide_eq_true hden] at hh
    have e11:decide ((a0d T:Int)<(T.length:Int))=false:=decide_eq_false (by have:=of_decide_eq_false (p:=a0d T<T.length) hh;omega);rw [hden];refine sZ 1100 ?_;refine nwI (ff2 hszA e11) ?_;refine ifI ?_;refine skI ?_;exact ⟨rfl,_,trivial,wkI⟩
   ·rw [decide_eq_false hden] at hh
    rw [if_neg hden] at hd;have hlt:=of_decide_eq_true (p:=a0d T<T.length) hh;have e11:decide ((a0d T:Int)<(T.length:Int))=true:=decide_eq_true (by omega);have wk:IntKind.i64.wrap (((a0d T:Nat):Int)+1)=((a0d T+1:Nat):Int):=wI (by omega) (by omega);have e12:(sb T).extract (a0d T+1) T.length=sb (Lib.decDigits r.den):=by
     rw [a2a,List.take_of_length_le (Nat.le_refl _),← hd];rfl
    have hdl:(Lib.decDigits r.den).length≤18:=by
     rw [← hd];unfold a1v;rw [List.length_drop];omega
    have c2:=b0S (Lib.decDigits r.den) hd2.1 hdl;rw [hd2.2.1] at c2;refine sZ 1100 ?_;refine nwI (ff2 hszA e11) ?_;refine ifI ?_;refine OkS.reg w1 1200 (by kernel_rfl) ?_;refine gwI (ff3 hszA wk kN) ?_;refine gwI e12 ?_;refine a0l.same _ c2 inferInstance ?_;refine stI ?_;exact ⟨trivial,_,trivial,wkI⟩
  rintro n2 -;obtain ⟨b1,b2⟩:=a5J eq2;refine OkS.seqX (α:=Nat) (fun n=>⟨[(8,i64 r.num),(9,i64 (r.den:Int))],[],n⟩) (fun _=>True) ?_ ?_
  ·refine sR 1300 ?_
   by_cases h:r.num<0
   ·have wn:IntKind.i64.wrap (0 - (r.num.natAbs:Int))=r.num:=by rw [wI (by omega) (by omega)];omega
    rw [decide_eq_true h];refine ifI ?_;refine OkS.reg w1 1400 (by kernel_rfl) ?_;refine nwI wn ?_;exact ⟨trivial,_,trivial,wkI⟩
   ·have en:(r.num.natAbs:Int)=r.num:=by omega
    rw [decide_eq_false h,en];refine ifI ?_;refine skI ?_;exact ⟨rfl,_,trivial,wkI⟩
  rintro n3 -;refine sR 1500 ?_;refine rtI ?_;exact a0a rfl IsPure.out
theorem b6G (b:Bool)(n:Nat):(sg b n).natAbs=n:=by unfold sg;split<;>omega
theorem d0z (z:Int)(d:Nat)(hz:z.natAbs≤4000000000000000000)(hd0:0<d)(hd:d≤4000000000000000000):a0b C0 84 [i64 z,i64 (d:Int)] (rR (mkRat z d)):=by
 refine a0c.walk w1 d1Q rfl fun F=>?_
 have hg:0<Nat.gcd z.natAbs d:=Nat.gcd_pos_of_pos_right _ hd0;have hgl:Nat.gcd z.natAbs d≤d:=Nat.gcd_le_right _ hd0;obtain ⟨qn,qd⟩:=b0K (x:=z) (d:=d) (by omega);have etx:txt (mkRat z d)=if d / Nat.gcd z.natAbs d=1 then Lib.itoa (mkRat z d).num else Lib.itoa (mkRat z d).num++47::Lib.decDigits (d / Nat.gcd z.natAbs d):=by
  unfold txt;rw [qd]
 have q1:z.tdiv (Nat.gcd z.natAbs d:Nat)=(mkRat z d).num:=by
  rw [qn];obtain ⟨p,hp⟩:=Nat.gcd_dvd_left z.natAbs d;have e1:z.natAbs / Nat.gcd z.natAbs d=p:=Nat.div_eq_of_eq_mul_right hg hp;have e2:z=(Nat.gcd z.natAbs d:Int)*sg (decide (z<0)) p:=by
   have h0:(z.natAbs:Int)=(Nat.gcd z.natAbs d:Int)*(p:Int):=by rw [← Int.natCast_mul,← hp]
   unfold sg
   by_cases hx:z<0
   ·rw [decide_eq_true hx,if_pos rfl,Int.mul_neg,← h0];omega
   ·rw [decide_eq_false hx,if_neg (by decide),← h0];omega
  rw [e1]
  conv=>lhs;arg 1;rw [e2]
  rw [Int.mul_tdiv_cancel_left _ (by omega)]
 have q2:(d:Int).tdiv (Nat.gcd z.natAbs d:Nat)=((d / Nat.gcd z.natAbs d:Nat):Int):=rfl;have q5:(mkRat z d).num.natAbs≤4000000000000000000:=by
  rw [qn];rw [b6G];exact Nat.le_trans (Nat.div_le_self _ _) hz
 have q4:d / Nat.gcd z.natAbs d≤4000000000000000000:=Nat.le_trans (Nat.div_le_self _ _) hd;have hx:0<d / Nat.gcd z.natAbs d:=Nat.div_pos hgl hg;have ert:rR (mkRat z d)=str (sb (if d / Nat.gcd z.natAbs d=1 then Lib.itoa (mkRat z d).num else Lib.itoa (mkRat z d).num++47::Lib.decDigits (d / Nat.gcd z.natAbs d))):=by rw [← etx]
 rw [ert];clear etx ert qn qd;generalize (mkRat z d).num=pz at *;refine fR 0 ?_;refine OkS.seqW ⟨[(0,i64 z),(1,i64 d),(4,str ⟨#[]⟩)],[],50⟩ ?_ ?_
 ·refine OkS.seq ?_
  have l1:(decide (z < -4000000000000000000))=false:=by apply decide_eq_false;omega
  have l2:(decide (z>4000000000000000000))=false:=by apply decide_eq_false;omega
  have l3:(decide ((d:Int) < -4000000000000000000))=false:=by apply decide_eq_false;omega
  have l4:(decide ((d:Int)>4000000000000000000))=false:=by apply decide_eq_false;omega
  refine OkS.reg w1 100 (by kernel_rfl) ?_
  repeat' (first|(refine And.intro (by exact sdI) ?_;(refine dsI ?_);(try simp only [a6U,b1z,l1,l2,l3,l4]))|((refine brI (fun hb=>?_) (fun hb=>?_))<;>(try simp only [Bool.not_eq_true',Bool.not_eq_false'] at hb)<;>(try simp only [hb])<;>(refine dsI ?_)))
  refine ifI ?_;refine skI ?_;exact And.intro (by trivial) (wkI)
 refine OkS.seqW ⟨[(0,i64 z),(1,i64 d),(4,str ⟨#[]⟩)],[],100⟩ ?_ ?_
 ·refine fR 300 ?_
  refine ifI ?_;have e27:(decide ((d:Int)<0))=false:=by simp
  rw [e27];refine skI ?_;exact And.intro (by trivial) (wkI)
 refine OkS.seq ?_;have m1:max z (IntKind.i64.wrap (0 - z))=(z.natAbs:Int):=by rw [wI (by omega) (by omega)];omega
 refine OkS.reg w1 500 (by kernel_rfl) ?_;refine mwI m1 ?_;refine dI (c5r z.natAbs d (by omega) (by omega)) ?_;refine OkS.seq ?_;refine OkS.regD w1 600 [0,1,2,3,4,5,6] [7] (by kernel_rfl) ?_;refine nxI ?_;have w1p:IntKind.i64.wrap pz=pz:=wI (by omega) (by omega);rw [q1,q2,w1p,wN (Nat.le_trans q4 (by decide))];clear q1 q2 hg hgl;generalize d / Nat.gcd z.natAbs d=y at *;refine fR 700 ?_;have c1:=a4E pz.natAbs 1 (by omega);have c2:=a4E y 1 (by omega);rw [b8j] at c1 c2;have s1:=a1x 18 pz.natAbs (Nat.lt_of_le_of_lt q5 (by decide));have s2:=a1x 18 y (Nat.lt_of_le_of_lt q4 (by decide));have z1:=a8m (Lib.decDigits pz.natAbs);have z2:=a8m (Lib.decDigits y);have m1:max pz (IntKind.i64.wrap (0 - pz))=(pz.natAbs:Int):=by rw [wI (by omega) (by omega)];omega
 refine OkS.seqX (α:=Nat) (fun n=>⟨[(0,i64 pz),(1,i64 (y:Int)),(4,str ⟨#[]⟩),(6,str (sb (if pz<0 then [45] else [])))],[],n⟩) (fun _=>True) ?_ ?_
 ·refine fR 800 ?_
  by_cases h:pz<0
  ·rw [decide_eq_true h,if_pos h]
   refine ifI ?_;refine fI 900 ?_;exact ⟨rfl,_,trivial,wkI⟩
  ·rw [decide_eq_false h,if_neg h]
   refine ifI ?_;refine skI ?_;exact ⟨rfl,_,trivial,wkI⟩
 rintro n0 -;have ei:(if pz<0 then [45] else [])++Lib.decDigits pz.natAbs=Lib.itoa pz:=by
  unfold Lib.itoa;split
  ·rfl
  ·rw [show pz.toNat=pz.natAbs by omega];rfl
 have z3:=a0v (if pz<0 then [45] else []);have z4:(if pz<0 then [45] else []:List UInt8).length≤1:=by split<;>simp
 have z5:(Lib.itoa pz).length≤20:=by rw [← ei,List.length_append];omega
 refine sZ 1000 ?_;refine mwI m1 ?_;refine dI c1 ?_;rw [a4p,ei];have z6:=a8m (Lib.itoa pz);generalize Lib.itoa pz=t1 at *;clear ei z3 z4;refine OkS.seqX (α:=Nat) (fun n=>⟨[(6,str (sb (if y=1 then t1 else t1++47::Lib.decDigits y)))],[],n⟩) (fun _=>True) ?_ ?_
 ·refine fR 1100 ?_
  by_cases hy:y=1
  ·rw [if_pos hy]
   have e54:(decide ((y:Int)>1))=false:=by apply decide_eq_false;omega
   rw [e54];refine ifI ?_;refine skI ?_;exact ⟨rfl,_,trivial,wkI⟩
  ·rw [if_neg hy]
   have e54:(decide ((y:Int)>1))=true:=by apply decide_eq_true;omega
   have s3:(⟨#[47]⟩:ByteArray).size=1:=rfl;have sc:((⟨t1.toArray⟩:ByteArray)++(⟨#[47]⟩:ByteArray)).size=(⟨t1.toArray⟩:ByteArray).size+(⟨#[47]⟩:ByteArray).size:=ByteArray.size_append;rw [e54];refine ifI ?_;refine fI 1200 ?_;refine dI c2 ?_;have e47:(⟨#[47]⟩:ByteArray)=⟨([47]:List UInt8).toArray⟩:=rfl;rw [e47,a4p,a4p,List.append_assoc,List.cons_append,List.nil_append];exact ⟨rfl,_,trivial,wkI⟩
 rintro n1 -;refine fR 1300 ?_;refine rtI ?_;exact a0a rfl IsPure.out
theorem b2H {n k:Nat}(h:(a0e n).length≤k):(a0o n).length≤3*k:=by
 refine a1b (Nat.lt_of_lt_of_le (a2L n) ?_);rw [Nat.pow_mul];exact Nat.le_trans (Nat.pow_le_pow_right (by decide) h) (Nat.pow_le_pow_left (by decide) k)
theorem a9o {n k:Nat}(h:(a0e n).length≤k):(Lib.decDigits n).length≤27*k+1:=by
 have h1:=a7J (a0B n);rw [a0q] at h1
 have:=b2H h
 omega
theorem c5E {z:Int}{k:Nat}(h:(a0e z.natAbs).length≤k):(Lib.itoa z).length≤27*k+2:=by
 have:=a9o h
 unfold Lib.itoa;split
 ·rw [List.length_cons];omega
 ·rw [show z.toNat=z.natAbs by omega];omega
theorem a3K {r:Rat}{k:Nat}(h:rk r k)(hk:k≤10000):b9I r:=by
 have h1:=c5E h.1;have h2:=a9o h.2;unfold b9I txt;split
 ·omega
 ·rw [List.length_append,List.length_cons];omega
def LZ (x:Int)(p:Nat):Prop:=(a0o x.natAbs).length≤p
theorem LZ.mul {x y:Int}{p q:Nat}(hx:LZ x p)(hy:LZ y q):LZ (x*y) (p+q):=by
 unfold LZ at *;rw [Int.natAbs_mul]
 have:=a5u x.natAbs y.natAbs
 omega
theorem LZ.add {x y:Int}{p q:Nat}(hx:LZ x p)(hy:LZ y q):LZ (x+y) (p+q+1):=by
 unfold LZ at *;have h1:=a0s (x+y).natAbs (x.natAbs+y.natAbs) (Int.natAbs_add_le x y);have h2:=a5s x.natAbs y.natAbs;omega
theorem LZ.few {x:Int}{p:Nat}(h:LZ x p)(hp:p<1000000):b0z x:=Nat.lt_of_le_of_lt h hp
theorem LZ.num {r:Rat}{k:Nat}(h:rk r k):LZ r.num (3*k):=b2H h.1
theorem LZ.den {r:Rat}{k:Nat}(h:rk r k):LZ (r.den:Int) (3*k):=b2H h.2
theorem c8Z (a b:Rat):qZ (a.num*b.den+b.num*a.den) ((a.den:Int)*b.den)=a+b:=by
 unfold qZ;have h:¬ ((a.den:Int)*b.den<0):=by
  rw [← Int.natCast_mul];omega
 rw [if_neg h,← Int.natCast_mul,Int.natAbs_natCast,Rat.add_def',]
theorem c9Q (a b:Rat):qZ (a.num*b.num) ((a.den:Int)*b.den)=a*b:=by
 unfold qZ;have h:¬ ((a.den:Int)*b.den<0):=by
  rw [← Int.natCast_mul];omega
 rw [if_neg h,← Int.natCast_mul,Int.natAbs_natCast,Rat.mul_def']
theorem a4A {x y:Int}(hx:x.natAbs<10^9)(hy:y.natAbs<10^9):(x*y).natAbs<10^18:=by
 rw [Int.natAbs_mul];exact Nat.lt_of_lt_of_le (Nat.mul_lt_mul'' hx hy) (by decide)
theorem d1u (a b:Rat)(i j:Nat)(ha:rk a i)(hb:rk b j)(hij:i+j≤10000):a0b C0 32 [rR a,rR b] (rR (a+b)):=by
 refine a0c.walk w1 d1X rfl fun F=>?_
 have ta:=a3K ha (by omega);have tb:=a3K hb (by omega);have qa:=b0M a ta;have qb:=b0M b tb
 by_cases hq:qk a=true∧qk b=true
 ·obtain ⟨h1,h2⟩:=hq
  obtain ⟨n1,d1⟩:=a5J h1;obtain ⟨n2,d2⟩:=a5J h2;rw [h1,if_pos rfl,if_pos rfl] at qa;rw [h2,if_pos rfl,if_pos rfl] at qb;have p1:=a4A n1 (y:=(b.den:Int)) (by omega);have p2:=a4A n2 (y:=(a.den:Int)) (by omega);have p3:=a4A (x:=(a.den:Int)) (y:=(b.den:Int)) (by omega) (by omega);have m1:IntKind.i64.wrap (a.num*(b.den:Int))=a.num*b.den:=wI (by omega) (by omega);have m2:IntKind.i64.wrap (b.num*(a.den:Int))=b.num*a.den:=wI (by omega) (by omega);have m3:IntKind.i64.wrap (a.num*(b.den:Int)+b.num*(a.den:Int))=a.num*b.den+b.num*a.den:=wI (by omega) (by omega);have m4:IntKind.i64.wrap ((a.den:Int)*(b.den:Int))=((a.den*b.den:Nat):Int):=by rw [wI (by omega) (by omega),Int.natCast_mul]
  have p4:a.den*b.den<10^18:=by rw [← Int.natCast_mul,Int.natAbs_natCast] at p3;exact p3
  have cf:=d0z (a.num*b.den+b.num*a.den) (a.den*b.den) (by omega) (Nat.mul_pos a.den_pos b.den_pos) (by omega);rw [← Rat.add_def'] at cf;refine sR 0 ?_;refine sR 100 ?_;refine cI qa ?_;refine sR 200 ?_;refine cI qb ?_;refine OkS.seq ?_;refine sZ 300 ?_;refine gwI kT ?_;refine ifI ?_;refine sZ 400 ?_;refine nwI (ff4 m1 m2 m3 m4) ?_;refine cI cf ?_;refine rtI ?_;exact a0a rfl IsPure.out
 ·refine sR 0 ?_
  refine sR 100 ?_;refine cI qa ?_;refine sR 200 ?_;refine cI qb ?_;refine OkS.seqX (α:=Nat) (fun n=>⟨[(0,rR a),(1,rR b)],[],n⟩) (fun _=>True) ?_ ?_
  ·cases h1:qk a
   ·refine sZ 300 ?_
    refine gwI h1 ?_;refine gwI kF ?_;refine ifI ?_;refine skI ?_;exact ⟨rfl,_,trivial,wkI⟩
   ·have h2:qk b=false:=by
     cases h2:qk b
     ·rfl
     ·exact absurd ⟨h1,h2⟩ hq
    rw [h2];refine sZ 300 ?_;refine gwI h1 ?_;refine gwI kT ?_;refine ifI ?_;refine skI ?_;exact ⟨rfl,_,trivial,wkI⟩
  rintro n0 -;clear qa qb hq;have pa:=a5n (txt a) (a4S a) (a4U a) ta;have pb:=a5n (txt b) (a4S b) (a4U b) tb;rw [a5V,a7m] at pa pb;have lan:=LZ.num ha;have lad:=LZ.den ha;have lbn:=LZ.num hb;have lbd:=LZ.den hb;have da:=a.den_pos;have db:=b.den_pos;have c1:=a7N a.num b.den (lan.few (by omega)) (lbd.few (by omega));have c2:=a7N b.num a.den (lbn.few (by omega)) (lad.few (by omega));have c3:=c9X (a.num*b.den) (b.num*a.den) ((lan.mul lbd).few (by omega)) ((lbn.mul lad).few (by omega));have c4:=a7N (a.den:Int) b.den (lad.few (by omega)) (lbd.few (by omega));have c5:=a6i (a.num*b.den+b.num*a.den) ((a.den:Int)*b.den) (by rw [← Int.natCast_mul];have:=Nat.mul_pos da db;omega) (((lan.mul lbd).add (lbn.mul lad)).few (by omega)) ((lad.mul lbd).few (by omega));rw [c8Z] at c5;refine sR 500 ?_;refine cI pa ?_;refine sR 600 ?_;refine cI pb ?_;refine OkS.seq ?_;refine OkS.regD w1 700 [0,1,2,3,4,5,6,7,8] [9,10,11] (by kernel_rfl) ?_;refine gwI kN ?_
  first|refine a0r.same _ c1 inferInstance ?_|refine a0l.same _ c1 inferInstance ?_
  refine gwI kN ?_
  first|refine a0r.same _ c2 inferInstance ?_|refine a0l.same _ c2 inferInstance ?_
  refine gwI kN ?_
  first|refine a0r.same _ c3 inferInstance ?_|refine a0l.same _ c3 inferInstance ?_
  refine gwI kN ?_
  first|refine a0r.same _ c4 inferInstance ?_|refine a0l.same _ c4 inferInstance ?_
  refine gwI kN ?_
  first|refine a0r.same _ c5 inferInstance ?_|refine a0l.same _ c5 inferInstance ?_
  refine gwI kN ?_;refine rtI ?_;exact a0a rfl IsPure.out
theorem b2e (a b:Rat)(i j:Nat)(ha:rk a i)(hb:rk b j)(hij:i+j≤10000):a0b C0 82 [rR a,rR b] (rR (a*b)):=by
 refine a0c.walk w1 d1M rfl fun F=>?_
 have ta:=a3K ha (by omega);have tb:=a3K hb (by omega);have qa:=b0M a ta;have qb:=b0M b tb
 by_cases hq:qk a=true∧qk b=true
 ·obtain ⟨h1,h2⟩:=hq
  obtain ⟨n1,d1⟩:=a5J h1;obtain ⟨n2,d2⟩:=a5J h2;rw [h1,if_pos rfl,if_pos rfl] at qa;rw [h2,if_pos rfl,if_pos rfl] at qb;have p1:=a4A n1 (y:=b.num) n2;have p3:=a4A (x:=(a.den:Int)) (y:=(b.den:Int)) (by omega) (by omega);have m1:IntKind.i64.wrap (a.num*b.num)=a.num*b.num:=wI (by omega) (by omega);have m4:IntKind.i64.wrap ((a.den:Int)*(b.den:Int))=((a.den*b.den:Nat):Int):=by rw [wI (by omega) (by omega),Int.natCast_mul]
  have p4:a.den*b.den<10^18:=by rw [← Int.natCast_mul,Int.natAbs_natCast] at p3;exact p3
  have cf:=d0z (a.num*b.num) (a.den*b.den) (by omega) (Nat.mul_pos a.den_pos b.den_pos) (by omega);rw [← Rat.mul_def'] at cf;refine sR 0 ?_;refine sR 100 ?_;refine cI qa ?_;refine sR 200 ?_;refine cI qb ?_;refine OkS.seq ?_;refine sZ 300 ?_;refine gwI kT ?_;refine ifI ?_;refine sZ 400 ?_;refine nwI (ff2 m1 m4) ?_;refine cI cf ?_;refine rtI ?_;exact a0a rfl IsPure.out
 ·refine sR 0 ?_
  refine sR 100 ?_;refine cI qa ?_;refine sR 200 ?_;refine cI qb ?_;refine OkS.seqX (α:=Nat) (fun n=>⟨[(0,rR a),(1,rR b)],[],n⟩) (fun _=>True) ?_ ?_
  ·cases h1:qk a
   ·refine sZ 300 ?_
    refine gwI h1 ?_;refine gwI kF ?_;refine ifI ?_;refine skI ?_;exact ⟨rfl,_,trivial,wkI⟩
   ·have h2:qk b=false:=by
     cases h2:qk b
     ·rfl
     ·exact absurd ⟨h1,h2⟩ hq
    rw [h2];refine sZ 300 ?_;refine gwI h1 ?_;refine gwI kT ?_;refine ifI ?_;refine skI ?_;exact ⟨rfl,_,trivial,wkI⟩
  rintro n0 -;clear qa qb hq;have pa:=a5n (txt a) (a4S a) (a4U a) ta;have pb:=a5n (txt b) (a4S b) (a4U b) tb;rw [a5V,a7m] at pa pb;have lan:=LZ.num ha;have lad:=LZ.den ha;have lbn:=LZ.num hb;have lbd:=LZ.den hb;have da:=a.den_pos;have db:=b.den_pos;have c1:=a7N a.num b.num (lan.few (by omega)) (lbn.few (by omega));have c4:=a7N (a.den:Int) b.den (lad.few (by omega)) (lbd.few (by omega));have c5:=a6i (a.num*b.num) ((a.den:Int)*b.den) (by rw [← Int.natCast_mul];have:=Nat.mul_pos da db;omega) ((lan.mul lbn).few (by omega)) ((lad.mul lbd).few (by omega));rw [c9Q] at c5;refine sR 500 ?_;refine cI pa ?_;refine sR 600 ?_;refine cI pb ?_;refine OkS.seq ?_;refine OkS.regD w1 700 [0,1,2,3,4] [5,6,7] (by kernel_rfl) ?_;refine gwI kN ?_
  first|refine a0r.same _ c1 inferInstance ?_|refine a0l.same _ c1 inferInstance ?_
  refine gwI kN ?_
  first|refine a0r.same _ c4 inferInstance ?_|refine a0l.same _ c4 inferInstance ?_
  refine gwI kN ?_
  first|refine a0r.same _ c5 inferInstance ?_|refine a0l.same _ c5 inferInstance ?_
  refine gwI kN ?_;refine rtI ?_;exact a0a rfl IsPure.out
theorem b5W (a b:Rat)(i j:Nat)(ha:rk a i)(hb:rk b j)(hij:i+j≤10000):a0b C0 77 [rR a,rR b] (rR (a - b)):=by
 refine a0c.walk w1 d3l rfl fun F=>?_
 have c1:=d2G b (a3K hb (by omega));have c2:=d1u a (-b) i j ha (b7G hb) hij;rw [← Rat.sub_eq_add_neg] at c2;refine sR 0 ?_;refine sR 100 ?_;refine cI c1 ?_;refine cI c2 ?_;refine rtI ?_;exact a0a rfl IsPure.out
theorem c3W (a b:Rat):a6Y (a - b)=a4z a b:=by
 unfold a6Y a4z;have h1:(a - b).num<0↔a<b:=by
  have e:=Rat.lt_iff (a - b) 0;have e1:(a - b).num*((0:Rat).den:Int)<(0:Rat).num*((a - b).den:Int)↔(a - b).num<0:=by simp
  rw [← e1,← e];constructor<;>intro h<;>grind
 have h2:0<(a - b).num↔b<a:=by
  have e:=Rat.lt_iff 0 (a - b);have e1:(0:Rat).num*((a - b).den:Int)<(a - b).num*((0:Rat).den:Int)↔0<(a - b).num:=by simp
  rw [← e1,← e];constructor<;>intro h<;>grind
 by_cases h:a<b
 ·rw [if_pos h];have:=h1.2 h;omega
 ·rw [if_neg h]
  by_cases h':b<a
  ·rw [if_pos h'];have:=h2.2 h';omega
  ·rw [if_neg h']
   have:=mt h1.1 h
   have:=mt h2.1 h'
   omega
theorem d2K (a b:Rat)(i j:Nat)(ha:rk a i)(hb:rk b j)(hij:i+j<10000):a0b C0 34 [rR a,rR b] (i64 (a4z a b)):=by
 refine a0c.walk w1 d3B rfl fun F=>?_
 have c1:=b5W a b i j ha hb (by omega);have c2:=b7P (a - b) (a3K (a1E ha hb) (by omega));rw [c3W] at c2;refine sR 0 ?_;refine sR 100 ?_;refine cI c1 ?_;refine cI c2 ?_;refine rtI ?_;exact a0a rfl IsPure.out
theorem c0e (c:UInt8):a0A c=(!decide ((c.toNat:Int)<48) && !decide ((c.toNat:Int)>57)):=by
 unfold a0A;rw [Bool.eq_iff_iff,Bool.and_eq_true,Bool.and_eq_true];simp only [Bool.not_eq_true',decide_eq_false_iff_not,Nat.ble_eq];omega
theorem b1C {l:List UInt8}{i:Nat}{c:UInt8}(hc:l[i]? = some c)(h:(l.take i).all a0A=true):(l.take (i+1)).all a0A=a0A c:=by
 rw [List.take_add_one,hc,List.all_append,h];simp
theorem c7j {l:List UInt8}{i:Nat}{c:UInt8}(hc:l[i]? = some c)(h:a0A c=false):l.all a0A=false:=by
 cases ha:l.all a0A
 ·rfl
 ·have:=List.all_eq_true.1 ha c (List.mem_of_getElem? hc)
  rw [h] at this;cases this
theorem c1r (l:List UInt8)(hl:l.length≤1000000000):a0b C0 161 [str (sb l)] (boo (l.all a0A)):=by
 refine a0c.walk w1 c7x rfl fun F=>?_
 have hsz:=a0v l;refine sR 0 ?_;refine OkS.seq ?_;refine sR 100 ?_;refine OkS.block ?_;refine OkS.loop (α:=Nat × Nat) (fun p=>⟨[(0,str (sb l)),(3,i64 (p.1:Int))],[],p.2⟩) (fun p=>l.length - p.1) (fun p=>p.1≤l.length∧(l.take p.1).all a0A=true) (0,_) ⟨Nat.zero_le _,rfl⟩ wkI ?_;rintro ⟨i,n⟩ F ⟨hi,ha⟩;dsimp only at hi ha ⊢;refine OkS.seq ?_;refine sZ 200 ?_;refine nwI hsz ?_;refine ifI ?_
 (refine brI (fun hlt=>?_) (fun hlt=>?_))<;>(try simp only [Bool.not_eq_true',Bool.not_eq_false'] at hlt)<;>(try simp only [hlt])
 ·have hi2:i<l.length:=by
   have:=of_decide_eq_true hlt
   omega
  obtain ⟨c,hc⟩:∃ c,l[i]? = some c:=⟨l[i],List.getElem?_eq_getElem hi2⟩
  have hg:l.getD i 0=c:=by simp [hc]
  have wi:IntKind.i64.wrap ((i:Int)+1)=((i+1:Nat):Int):=wI (by omega) (by omega);have hid:=c0e c;have hat:=b1C hc ha;have hno:=c7j hc;refine skI ?_;refine OkS.seq ?_;refine OkS.block ?_;refine sZ 400 ?_;refine nwI (ff2 kN hg) ?_
  by_cases c1:(c.toNat:Int)<48
  ·rw [decide_eq_true c1] at hid
   have e4:=decide_eq_true c1;simp only [e4];refine gwI kT ?_;refine ifI ?_;refine sR 500 ?_;refine rtI ?_;exact a0a (by rw [hno hid]) IsPure.out
  ·rw [decide_eq_false c1] at hid
   have e4:=decide_eq_false c1;simp only [e4];refine gwI (ff3 kF kN hg) ?_
   by_cases c2:(c.toNat:Int)>57
   ·rw [decide_eq_true c2] at hid ⊢
    refine ifI ?_;refine sR 500 ?_;refine rtI ?_;exact a0a (by rw [hno hid]) IsPure.out
   ·rw [decide_eq_false c2] at hid ⊢
    refine ifI ?_;refine skI ?_;refine OkS.reg w1 300 (by kernel_rfl) ?_;refine nwI wi ?_;exact ⟨(i+1,_),⟨hi2,hat.trans hid⟩,by dsimp only;omega,wkI⟩
 ·have hi2:i=l.length:=by
   have:=of_decide_eq_false hlt
   omega
  subst hi2;rw [List.take_of_length_le (Nat.le_refl _)] at ha;refine exI ?_;refine sR 600 ?_;refine rtI ?_;exact a0a (by rw [ha]) IsPure.out
theorem b7N (c : UInt8) : (((c.toNat : Nat) : Int) == 48) = decide (c = 48) := by
  rw [Bool.eq_iff_iff, beq_iff_eq, decide_eq_true_iff, ← UInt8.toNat_inj]
  exact ⟨fun h => by have : c.toNat = 48 := by omega
                     exact this, fun h => by rw [h]; rfl⟩
theorem c3l (l:List UInt8)(hl:l.length≤1000000000):a0b C0 90 [str (sb l)] (boo (a1e l)):=by
 refine a0c.walk w1 d2f rfl fun F=>?_
 have hsz:=a0v l;have cd:=c1r l hl;refine sR 0 ?_;refine OkS.seq ?_;refine OkS.seq ?_
 match l,hl,hsz,cd with
 | [],_,hsz,_ =>
  have e1:((((sb []).size:Nat):Int)==0)=true:=rfl;refine OkS.reg w1 100 (by kernel_rfl) ?_;refine nwI e1 ?_;refine gwI kT ?_;refine ifI ?_;refine sR 200 ?_;refine rtI ?_;exact a0a rfl IsPure.out
 | [c],hl,hsz,cd =>
  have e1:((((sb [c]).size:Nat):Int)==0)=false:=rfl;have e2:decide ((((sb [c]).size:Nat):Int)>1)=false:=rfl;have ep:a1e [c]=[c].all a0A:=by
   unfold a1e c4P
   by_cases h:c=48
   ·subst h;rfl
   ·simp [h]
  rw [ep];refine OkS.reg w1 100 (by kernel_rfl) ?_;refine nwI e1 ?_;refine gwI kF ?_;simp only [e2];refine gwI kF ?_;refine ifI ?_;refine skI ?_;refine sR 300 ?_;refine cI cd ?_;refine rtI ?_;exact a0a rfl IsPure.out
 | c::d::l,hl,hsz,cd =>
  have hs2:(sb (c::d::l)).size=l.length+2:=hsz;have e1:((((sb (c::d::l)).size:Nat):Int)==0)=false:=beq_eq_false_iff_ne.2 (by omega);have e2:decide ((((sb (c::d::l)).size:Nat):Int)>1)=true:=decide_eq_true (by omega);have e3:((((c::d::l).getD (Int.toNat 0) 0).toNat:Int)==48)=decide (c=48):=b7N c;have ep:a1e (c::d::l)=if c=48 then false else (c::d::l).all a0A:=by
   unfold a1e c4P
   by_cases h:c=48
   ·subst h;simp
   ·simp [h]
  rw [ep];refine OkS.reg w1 100 (by kernel_rfl) ?_;refine nwI e1 ?_;refine gwI (ff2 kF e2) ?_;refine gwI (ff4 kT e2 e3 kF) ?_
  by_cases h:c=48
  ·rw [decide_eq_true h,if_pos h]
   refine ifI ?_;refine sR 200 ?_;refine rtI ?_;exact a0a rfl IsPure.out
  ·rw [decide_eq_false h,if_neg h]
   refine ifI ?_;refine skI ?_;refine sR 300 ?_;refine cI cd ?_;refine rtI ?_;exact a0a rfl IsPure.out
theorem d0x (r:Rat)(h:r≠0):qZ (r.den:Int) r.num=r⁻¹:=by
 have hn:r.num≠0:=fun h1=>h (Rat.num_eq_zero.1 h1)
 rw [Rat.inv_def];unfold qZ;rcases Int.lt_or_gt_of_ne hn with h1|h1
 ·rw [if_pos h1]
  obtain ⟨m,hm⟩:∃ m,r.num=Int.negSucc m:=by
   cases hy:r.num with
   | ofNat n=>rw [hy] at h1;simp at h1;omega
   | negSucc k=>exact ⟨k,rfl⟩
  rw [hm];show mkRat (-(r.den:Int)) (m+1)=Rat.normalize (-(r.den:Int)) (m+1) (Nat.succ_ne_zero m);rw [Rat.normalize_eq_mkRat]
 ·rw [if_neg (by omega)]
  obtain ⟨m,hm⟩:∃ m:Nat,r.num=(m:Int):=⟨r.num.natAbs,by omega⟩
  rw [hm,Rat.divInt_ofNat,Int.natAbs_natCast]
theorem d3O (r:Rat)(k:Nat)(h:rk r k)(hk:k≤10000):a0b C0 80 [rR r] (rR ((r.num / r.den:Int):Rat)):=by
 refine a0c.walk w1 d2H rfl fun F=>?_
 have tr:=a3K h hk;have cw:=c5m r tr;refine sR 0 ?_;refine OkS.seq ?_;refine sR 100 ?_;refine cI cw ?_
 by_cases hd:r.den=1
 ·have er:((r.num / r.den:Int):Rat)=r:=by
   rw [hd];refine Rat.ext ?_ ?_
   ·rw [Rat.num_intCast];simp
   ·rw [Rat.den_intCast,hd]
  rw [decide_eq_true hd,er];refine ifI ?_;refine sR 200 ?_;refine rtI ?_;exact a0a rfl IsPure.out
 ·have pa:=a5n (txt r) (a4S r) (a4U r) tr
  rw [a5V,a7m] at pa;have ln:=LZ.num h;have ld:=LZ.den h;have cf:=b5z r.num r.den (by have:=r.den_pos;omega) (ln.few (by omega)) (ld.few (by omega));have hle:(r.num / (r.den:Int)).natAbs≤r.num.natAbs:=Int.natAbs_ediv_le_natAbs _ _;have ct:=b3W (r.num / (r.den:Int)) (Nat.lt_of_le_of_lt (a0s _ _ hle) (ln.few (by omega)));rw [← b6P] at ct;rw [decide_eq_false hd];refine ifI ?_;refine skI ?_;refine sR 300 ?_;refine cI pa ?_;refine sR 400 ?_;refine cI cf ?_;refine cI ct ?_;refine rtI ?_;exact a0a rfl IsPure.out
theorem d4i (r:Rat)(k:Nat)(h:rk r k)(hk:k≤10000)(h0:r≠0):a0b C0 148 [rR r] (rR r⁻¹):=by
 refine a0c.walk w1 d1e rfl fun F=>?_
 have tr:=a3K h hk;have pa:=a5n (txt r) (a4S r) (a4U r) tr;rw [a5V,a7m] at pa;have ln:=LZ.num h;have ld:=LZ.den h;have cf:=a6i (r.den:Int) r.num (fun h1=>h0 (Rat.num_eq_zero.1 h1)) (ld.few (by omega)) (ln.few (by omega));rw [d0x r h0] at cf;refine sR 0 ?_;refine sR 100 ?_;refine cI pa ?_;refine sR 200 ?_;refine cI cf ?_;refine rtI ?_;exact a0a rfl IsPure.out
theorem b0k (a b:Rat)(i j:Nat)(ha:rk a i)(hb:rk b j)(hij:i+j≤10000)(h0:b≠0):a0b C0 81 [rR a,rR b] (rR (a / b)):=by
 refine a0c.walk w1 d3H rfl fun F=>?_
 have c1:=d4i b j hb (by omega) h0;have c2:=b2e a b⁻¹ i j ha (b8a hb h0) hij;rw [← Rat.div_def] at c2;refine sR 0 ?_;refine sR 100 ?_;refine cI c1 ?_;refine cI c2 ?_;refine rtI ?_;exact a0a rfl IsPure.out
def b9K (r:Rat):Bool:=decide (600<(Lib.decDigits r.num.natAbs).length)||decide (600<(Lib.decDigits r.den).length)
theorem b7V (l:List UInt8):a0d l=(a2m l).length:=by
 have:=a2b l
 unfold a2m;rw [List.length_take];omega
theorem a6A (l:List UInt8):a2m (a0j l)=a0S l∧a1v (a0j l)=a1v l∧a3S (a0j l)=a3S l∧decide (a2m l=[45,48])=(a1P l&&decide (a0S l=[48])):=by
 cases hb:a1P l
 ·have ed:a0j l=l:=by unfold a0j;rw [hb];rfl
  have en:a1P (a2m l)=false:=by
   unfold a2m;cases l with
   | nil=>rfl
   | cons c l =>
    cases hk:a0d (c::l) with
    | zero=>rfl
    | succ k=>exact hb
  have es:a0S l=a2m l:=by unfold a0S a0j;rw [en];rfl
  rw [ed,es];refine ⟨rfl,rfl,rfl,?_⟩;rw [Bool.false_and];refine decide_eq_false fun h=>?_
  rw [h] at en;cases en
 ·cases l with
  | nil=>cases hb
  | cons c m =>
   have hc:c=45:=by simpa [a1P] using hb
   subst hc;have ed:a0j (45::m)=m:=rfl;have e1:a0d (45::m)=a0d m+1:=by
    unfold a0d;rw [List.takeWhile_cons,if_pos (by decide),List.length_cons]
   have e2:a2m (45::m)=45::a2m m:=by unfold a2m;rw [e1,List.take_succ_cons]
   have e3:a1v (45::m)=a1v m:=by unfold a1v;rw [e1,List.drop_succ_cons]
   have e4:a3S (45::m)=a3S m:=by unfold a3S;rw [e1,List.length_cons];exact decide_eq_decide.2 (by omega)
   have e5:a0S (45::m)=a2m m:=by unfold a0S;rw [e2];rfl
   rw [ed,e2,e3,e4,e5];refine ⟨rfl,rfl,rfl,?_⟩;rw [Bool.true_and];exact decide_eq_decide.2 (by simp)
theorem a6p (l:List UInt8):a4l l=((!a1e (a0S l)||(a1P l&&decide (a0S l=[48])))||(a3S l&&(!a1e (a1v l)||decide (a1v l=[48])||decide (a1v l=[49])))):=by
 unfold a4l;rw [(a6A l).2.2.2]
theorem c0y {l:List UInt8}(h:a1e l=true):l≠[]:=(a2w h).1
theorem c2G {l:List UInt8}(h:0<l.length):(((l.getD (Int.toNat 0) 0).toNat:Int)==45)=a1P l:=by
 cases l with
 | nil=>cases h
 | cons c l=>exact a7i c l
theorem c2V (l:List UInt8)(hl:l.length≤100000):a0b C0 33 [str (sb l)] (i64 (chk l)):=by
 refine a0c.walk w1 d1J rfl fun F=>?_
 have hsz:=a0v l;obtain ⟨p1,p2,p3,-⟩:=a6A l;have hdl:(a0j l).length≤l.length:=by
  unfold a0j;split
  ·rw [List.length_drop];omega
  ·exact Nat.le_refl _
 have hbf:=a6p l;have hchk1:(!a1e (a0S l)||(a1P l&&decide (a0S l=[48])))=true→chk l=1:=fun h=>by
  unfold chk;rw [hbf,h,Bool.true_or,if_pos rfl]
 have hchk2:(a3S l&&(!a1e (a1v l)||decide (a1v l=[48])||decide (a1v l=[49])))=true→chk l=1:=fun h=>by
  unfold chk;rw [hbf,h,Bool.or_true,if_pos rfl]
 have hne:a1e (a0S l)=true→0<l.length:=fun h=>by
  cases l with
  | nil=>exact absurd rfl (c0y h)
  | cons c l=>rw [List.length_cons];omega
 refine sR 0 ?_;refine sR 100 ?_;refine OkS.seqX (α:=Nat) (fun n=>⟨[(0,str (sb l)),(3,str (sb (a0j l)))],[],n⟩) (fun _=>True) ?_ ?_
 ·rcases Nat.eq_zero_or_pos l.length with h0|h0
  ·have e0:l=[]:=List.eq_nil_of_length_eq_zero h0
   have e1:decide (((sb []).size:Int)>0)=false:=rfl;have ed:a0j l=l:=by rw [e0];rfl
   rw [ed,e0];refine sZ 200 ?_;refine nwI e1 ?_;refine gwI kF ?_;refine ifI ?_;refine skI ?_;exact ⟨rfl,_,trivial,wkI⟩
  ·have e0:decide (((sb l).size:Int)>0)=true:=decide_eq_true (by omega)
   have e1:=c2G h0;refine sZ 200 ?_;refine gwI e0 ?_;refine gwI (ff3 kT e0 e1) ?_;cases hb:a1P l
   ·have ed:a0j l=l:=by unfold a0j;rw [hb];rfl
    rw [ed];refine ifI ?_;refine skI ?_;exact ⟨rfl,_,trivial,wkI⟩
   ·have ed:a0j l=l.drop 1:=by unfold a0j;rw [hb];rfl
    have ee:(sb l).extract (Int.toNat 1) l.length=sb (a0j l):=by
     rw [a2a,List.take_of_length_le (Nat.le_refl _),ed];rfl
    refine ifI ?_;refine OkS.reg w1 300 (by kernel_rfl) ?_;refine gwI (ff2 hsz kN) ?_;rw [ee];exact ⟨trivial,_,trivial,wkI⟩
 rintro n0 -;have cs:=b0G (a0j l) (by omega);have hle:=a2b (a0j l);have hszS:=a0v (a0j l);have hhs:a3S l=decide (a0d (a0j l)<(a0j l).length):=p3.symm;have e10:(sb (a0j l)).extract 0 (a0d (a0j l))=sb (a0S l):=by rw [← p1,a2a,List.drop_zero];rfl
 have e11:(sb (a0j l)).extract (a0d (a0j l)+1) (a0j l).length=sb (a1v l):=by rw [← p2,a2a,List.take_of_length_le (Nat.le_refl _)];rfl
 have hNl:a0d (a0j l)=(a0S l).length:=by rw [← p1];exact b7V _
 have hDl:(a1v l).length=(a0j l).length - (a0d (a0j l)+1):=by rw [← p2];unfold a1v;rw [List.length_drop]
 have pp:=fun h1 h2=>a5n (a0j l) h1 h2 (by omega)
 unfold c9S c7K at pp;rw [p1,p2,p3] at pp;have edef:chk l=if a4l l then 1 else if 600<(a0S l).length∨600<(a1v l).length then 4 else if a3S l=true∧Nat.gcd (dv (a0S l)) (dv (a1v l))≠1 then 1 else 0:=rfl
 rw [hbf] at edef;generalize hN:a0S l=Nn at *;generalize hD:a1v l=Dn at *;generalize hH:a3S l=hv at *;generalize hK:chk l=Kn at *;generalize a0j l=Sn at *;generalize a0d Sn=k at *;clear p1 p2 p3 hbf hN hD hH hK;have cf:=c3l Nn (by omega);have cf2:=c3l Dn (by omega);have q0:=a4V Nn [48];have q1:=a4V Dn [48];have q2:=a4V Dn [49];refine sR 400 ?_;refine cI cs ?_;refine OkS.seqX (α:=Nat) (fun n=>⟨[(0,str (sb l)),(3,str (sb Sn)),(4,i64 (k:Int))],[],n⟩) (fun _=>(!a1e Nn||(a1P l&&decide (Nn=[48])))=false) ?_ ?_
 ·refine sZ 500 ?_
  refine gwI (ff2 hszS kN) ?_;refine gwI e10 ?_;cases hp:a1e Nn
  ·rw [hp] at cf
   refine a0l.same _ cf inferInstance ?_;refine stI ?_;simp only [Bool.not_false];refine gwI kT ?_;refine ifI ?_;refine sR 600 ?_;refine rtI ?_;exact a0a (by rw [hchk1 (by rw [hp];rfl)];rfl) IsPure.out
  ·rw [hp] at cf
   have hl0:=hne hp;have e1:=c2G hl0;refine a0l.same _ cf inferInstance ?_;refine stI ?_;simp only [Bool.not_true];refine gwI (ff3 kF hsz e1) ?_;have q0':a1X (sb Nn) ⟨#[48]⟩=decide (Nn=[48]):=q0;cases hb:a1P l
   ·refine gwI kF ?_
    refine ifI ?_;refine skI ?_;exact ⟨rfl,_,rfl,wkI⟩
   ·refine gwI (ff4 kT kF hszS kN) ?_
    refine gwI (ff4 kT kF e10 q0') ?_
    by_cases h0:Nn=[48]
    ·rw [decide_eq_true h0]
     refine ifI ?_;refine sR 600 ?_;refine rtI ?_;exact a0a (by rw [hchk1 (by simp [hp,hb,h0])];rfl) IsPure.out
    ·rw [decide_eq_false h0]
     refine ifI ?_;refine skI ?_;exact ⟨rfl,_,by simp,wkI⟩
 rintro n1 hb1;clear hchk1 hne cf q0;refine OkS.seqX (α:=Nat) (fun n=>⟨[(0,str (sb l)),(3,str (sb Sn)),(4,i64 (k:Int))],[],n⟩) (fun _=>(hv&&(!a1e Dn||decide (Dn=[48])||decide (Dn=[49])))=false) ?_ ?_
 ·cases hv
  ·have e40:decide ((k:Int)<(Sn.length:Int))=false:=decide_eq_false (by have:=of_decide_eq_false hhs.symm;omega)
   refine sZ 700 ?_;refine nwI (ff2 hszS e40) ?_;refine gwI kF ?_;refine ifI ?_;refine skI ?_;exact ⟨rfl,_,rfl,wkI⟩
  ·have hkl:=of_decide_eq_true hhs.symm
   have e40:decide ((k:Int)<(Sn.length:Int))=true:=decide_eq_true (by omega);have wk:IntKind.i64.wrap ((k:Int)+1)=((k+1:Nat):Int):=wI (by omega) (by omega);have q1':a1X (sb Dn) ⟨#[48]⟩=decide (Dn=[48]):=q1;have q2':a1X (sb Dn) ⟨#[49]⟩=decide (Dn=[49]):=q2;refine sZ 700 ?_;refine nwI (ff2 hszS e40) ?_;refine gwI (ff4 kT wk hszS kN) ?_;simp only [e11];refine gcI kT ?_;cases hp:a1e Dn
   ·rw [hp] at cf2
    refine a0l.same _ cf2 inferInstance ?_;refine gwI kB ?_;refine gwI kT ?_;refine ifI ?_;refine sR 800 ?_;refine rtI ?_;exact a0a (by rw [hchk2 (by simp [hp])];rfl) IsPure.out
   ·rw [hp] at cf2
    have e12:(sb Sn).extract (IntKind.i64.wrap ((k:Int)+1)).toNat (sb Sn).size=sb Dn:=by rw [wk,hszS,Int.toNat_natCast];exact e11
    refine a0l.same _ cf2 inferInstance ?_;refine gwI kB ?_;simp only [e12,q1']
    by_cases h48:Dn=[48]
    ·rw [decide_eq_true h48]
     refine gwI kT ?_;refine ifI ?_;refine sR 800 ?_;refine rtI ?_;exact a0a (by rw [hchk2 (by simp [h48])];rfl) IsPure.out
    ·rw [decide_eq_false h48]
     refine gwI kB ?_;simp only [e12,q2']
     by_cases h49:Dn=[49]
     ·rw [decide_eq_true h49]
      refine ifI ?_;refine sR 800 ?_;refine rtI ?_;exact a0a (by rw [hchk2 (by simp [h49])];rfl) IsPure.out
     ·rw [decide_eq_false h49]
      refine ifI ?_;refine skI ?_;exact ⟨rfl,_,by simp,wkI⟩
 rintro n2 hb2;clear hchk2 cf2 q1 q2 e10 e11 hsz;have hpN:a1e Nn=true:=by
  cases h:a1e Nn
  ·rw [h] at hb1;simp at hb1
  ·rfl
 have hpD:hv=true→a1e Dn=true:=fun h0=>by
  cases h:a1e Dn
  ·rw [h,h0] at hb2;simp at hb2
  ·rfl
 rw [hb1,hb2] at edef;rw [if_neg (by decide)] at edef;have wl1:IntKind.i64.wrap ((Sn.length:Int) - (k:Int))=(Sn.length:Int) - (k:Int):=wI (by omega) (by omega);have wl2:IntKind.i64.wrap ((Sn.length:Int) - (k:Int) - 1)=(Sn.length:Int) - (k:Int) - 1:=wI (by omega) (by omega);have e91:decide ((Sn.length:Int) - (k:Int) - 1>600)=decide (600<Dn.length):=decide_eq_decide.2 (by omega);refine OkS.seqX (α:=Nat) (fun n=>⟨[(3,str (sb Sn)),(4,i64 (k:Int))],[],n⟩) (fun _=>Nn.length≤600∧Dn.length≤600) ?_ ?_
 ·by_cases g1:600<k
  ·have e9:decide ((k:Int)>600)=true:=decide_eq_true (by omega)
   rw [if_pos (.inl (by omega))] at edef;refine sZ 900 ?_;refine nwI e9 ?_;refine gwI kT ?_;refine ifI ?_;refine sR 1000 ?_;refine rtI ?_;exact a0a (by rw [edef];rfl) IsPure.out
  ·have e9:decide ((k:Int)>600)=false:=decide_eq_false (by omega)
   refine sZ 900 ?_;refine nwI e9 ?_;refine gwI (ff5 kF hszS wl1 wl2 e91) ?_
   by_cases g2:600<Dn.length
   ·rw [if_pos (.inr g2)] at edef
    rw [decide_eq_true g2];refine ifI ?_;refine sR 1000 ?_;refine rtI ?_;exact a0a (by rw [edef];rfl) IsPure.out
   ·rw [decide_eq_false g2]
    refine ifI ?_;refine skI ?_;exact ⟨rfl,_,⟨by omega,by omega⟩,wkI⟩
 rintro n3 ⟨g1,g2⟩;rw [if_neg (by omega)] at edef;clear e91 wl1 wl2 hb1 hb2;obtain ⟨-,dN⟩:=a2w hpN;refine OkS.seqX (α:=Nat) (fun n=>⟨[],[],n⟩) (fun _=>Kn=0) ?_ ?_
 ·cases hv
  ·have e40:decide ((k:Int)<(Sn.length:Int))=false:=decide_eq_false (by have:=of_decide_eq_false hhs.symm;omega)
   rw [if_neg (by simp)] at edef;refine sZ 1100 ?_;refine nwI (ff2 hszS e40) ?_;refine ifI ?_;refine skI ?_;exact ⟨rfl,_,edef,wkI⟩
  ·have hkl:=of_decide_eq_true hhs.symm
   have e40:decide ((k:Int)<(Sn.length:Int))=true:=decide_eq_true (by omega);obtain ⟨-,dD⟩:=a2w (hpD rfl);have pa:=pp (by rw [a1H dN];exact dN) (by rw [a1H dD];exact dD);rw [if_pos rfl,a9x dN,a9x dD] at pa;have lN:(a0o (dv Nn)).length<1000000:=Nat.lt_of_le_of_lt (a1b (Nat.lt_of_lt_of_le (a4Z Nn dN) (Nat.pow_le_pow_left (by decide) Nn.length))) (by omega);have lD:(a0o (dv Dn)).length<1000000:=Nat.lt_of_le_of_lt (a1b (Nat.lt_of_lt_of_le (a4Z Dn dD) (Nat.pow_le_pow_left (by decide) Dn.length))) (by omega);have cg:a0b C0 91 [rD ((dv Nn:Int)).natAbs,rD ((dv Dn:Int)).natAbs] (.sl false 1 ((a0o (Nat.gcd (dv Nn) (dv Dn))).map a0p)):=b4x (dv Nn) (dv Dn) lN lD;have ht:=b4w (Nat.gcd (dv Nn) (dv Dn));have ed1:Nat.gcd (dv Nn) (dv Dn)≠1→Kn=1:=fun h=>by rw [if_pos ⟨rfl,h⟩] at edef;exact edef
   have ed0:Nat.gcd (dv Nn) (dv Dn)=1→Kn=0:=fun h=>by rw [if_neg (fun hh=>hh.2 h)] at edef;exact edef
   clear edef;generalize Nat.gcd (dv Nn) (dv Dn)=gg at *;refine sZ 1100 ?_;refine nwI (ff2 hszS e40) ?_;refine ifI ?_;refine sR 1200 ?_;refine cI pa ?_;refine sR 1300 ?_;refine cI cg ?_;rcases ht with ⟨t1,a,ha,t2⟩|⟨t1,t2⟩
   ·have ha':=a6L ha
    have t1n:((((a0o gg).map a0p).length:Int) != 1)=false:=by unfold bne;rw [t1];rfl
    have t2n:((a:Int) != 1) = !decide (gg=1):=by unfold bne;rw [t2]
    refine sZ 1400 ?_;refine nwI t1n ?_;refine gwI kF ?_;refine ixI kF ha' ?_;refine gwI (ff2 kF t2n) ?_
    by_cases hg1:gg=1
    ·rw [decide_eq_true hg1]
     refine ifI ?_;refine skI ?_;exact ⟨rfl,_,ed0 hg1,wkI⟩
    ·rw [decide_eq_false hg1]
     refine ifI ?_;refine sR 1500 ?_;refine rtI ?_;exact a0a (by rw [ed1 hg1];rfl) IsPure.out
   ·have edf:=ed1 t2
    have t1n:((((a0o gg).map a0p).length:Int) != 1)=true:=by unfold bne;rw [t1];rfl
    refine sZ 1400 ?_;refine nwI t1n ?_;refine gwI kT ?_;refine ifI ?_;refine sR 1500 ?_;refine rtI ?_;exact a0a (by rw [edf];rfl) IsPure.out
 rintro n4 h0;refine sR 1600 ?_;refine rtI ?_;exact a0a (by rw [h0];rfl) IsPure.out
theorem c0m {n k:Nat}(hn:n≠0)(hk:k<10):Lib.decDigits (n*10+k)=Lib.decDigits n++[UInt8.ofNat (48+k)]:=by
 rw [Lib.decDigits,dif_neg (by omega)]
 congr 2
 ·omega
 ·congr 2;omega
theorem b3S {c:UInt8}(h:a0A c=true):UInt8.ofNat (48+(c.toNat - 48))=c:=by
 obtain ⟨h1,h2⟩:=a2s h;rw [← UInt8.toNat_inj,b0q _ (by omega)];omega
theorem c5L (l:List UInt8)(c:UInt8):dv (l++[c])=dv l*10+(c.toNat - 48):=by
 rw [a4t];simp [dv,dvF]
theorem c9p:∀ (n:Nat) (l:List UInt8),l.length=n→l≠[]→l.all a0A=true→l.head? ≠ some 48→dv l≠0∧Lib.decDigits (dv l)=l:=fun n=>by
 induction n with
 | zero=>intro l h0 h1;exact absurd (List.eq_nil_of_length_eq_zero h0) h1
 | succ n ih =>
  intro l h0 h1 h2 h3;rcases List.eq_nil_or_concat l with rfl|⟨m,c,rfl⟩
  ·exact absurd rfl h1
  ·rw [List.concat_eq_append] at h0 h1 h2 h3 ⊢
   rw [List.all_append,Bool.and_eq_true] at h2;have hc:a0A c=true:=by simpa using h2.2
   obtain ⟨c1,c2⟩:=a2s hc;rw [c5L]
   by_cases hm:m=[]
   ·subst hm
    have hc48:c≠48:=fun h=>h3 (by rw [h];rfl)
    have hcn:c.toNat≠48:=fun h=>hc48 (UInt8.toNat_inj.1 h)
    have e0:dv []*10+(c.toNat - 48)=c.toNat - 48:=by simp [dv,dvF]
    rw [e0];refine ⟨by omega,?_⟩;rw [Lib.decDigits,dif_pos (by omega),b3S hc];rfl
   ·have hh:m.head? ≠ some 48:=by
     cases m with
     | nil=>exact absurd rfl hm
     | cons a m=>exact h3
    obtain ⟨i1,i2⟩:=ih m (by rw [List.length_append,List.length_singleton] at h0;omega) hm h2.1 hh;refine ⟨by omega,?_⟩;rw [c0m i1 (by omega),i2,b3S hc]
theorem a7X {l:List UInt8}(h:a1e l=true):Lib.decDigits (dv l)=l∧(l≠[48]→dv l≠0):=by
 obtain ⟨h1,h2⟩:=a2w h
 by_cases h0:l=[48]
 ·subst h0
  refine ⟨?_,fun hh=>absurd rfl hh⟩;show Lib.decDigits 0=[48];rw [Lib.decDigits,dif_pos (by decide)];rfl
 ·have h3:l.head? ≠ some 48:=by
   unfold a1e at h;rw [Bool.and_eq_true,decide_eq_false h0,Bool.false_or] at h
   have:=h.2
   simpa using this
  obtain ⟨a,b⟩:=c9p _ l rfl h1 h2 h3;exact ⟨b,fun _=>a⟩
theorem b4t:∀ {l:List UInt8},a0d l<l.length→l.drop (a0d l)=47::l.drop (a0d l+1)
 | [],h=>by cases h
 | c::l,h=>by
  by_cases hc:c=47
  ·subst hc;rfl
  ·have e1:a0d (c::l)=a0d l+1:=by
    unfold a0d;rw [List.takeWhile_cons,if_pos (by simpa using hc),List.length_cons]
   rw [e1,List.length_cons] at h;rw [e1,List.drop_succ_cons,List.drop_succ_cons];exact b4t (by omega)
def b4D (l:List UInt8):Nat:=if a3S l then dv (a1v l) else 1
def a0D (l:List UInt8):Rat:=mkRat (rv (a2m l)) (b4D l)
theorem b6k {n:Int}{d:Nat}(hd:d≠0)(h:Nat.gcd n.natAbs d=1):(mkRat n d).num=n∧(mkRat n d).den=d:=by
 obtain ⟨q1,q2⟩:=b0K (x:=n) hd;rw [h,Nat.div_one] at q1 q2;rw [b4a] at q1;exact ⟨q1,q2⟩
theorem b0x {l:List UInt8}(h:chk l=0):a4l l=false∧(a0S l).length≤600∧(a1v l).length≤600∧(a3S l=true→Nat.gcd (dv (a0S l)) (dv (a1v l))=1):=by
 unfold chk at h;cases hb:a4l l
 ·rw [hb,if_neg (by decide)] at h
  split at h
  ·cases h
  ·rename_i h1
   split at h
   ·cases h
   ·rename_i h2
    refine ⟨rfl,by omega,by omega,fun h3=>?_⟩;rcases Nat.decEq (Nat.gcd (dv (a0S l)) (dv (a1v l))) 1 with h4|h4
    ·exact absurd ⟨h3,h4⟩ h2
    ·exact h4
 ·rw [hb,if_pos rfl] at h;cases h
theorem a4h {l:List UInt8}(h:chk l=0):(a0D l).num=rv (a2m l)∧(a0D l).den=b4D l∧txt (a0D l)=l∧(rv (a2m l)).natAbs=dv (a0S l):=by
 obtain ⟨h1,h2,h3,h4⟩:=b0x h;rw [a6p] at h1;simp only [Bool.or_eq_false_iff] at h1;obtain ⟨⟨b1,b2⟩,b3⟩:=h1;have p1:a1e (a0S l)=true:=by simpa using b1
 obtain ⟨d1,d2⟩:=a7X p1;have hab:(rv (a2m l)).natAbs=dv (a0S l):=by
  show (rv (a2m l)).natAbs=dv (a0j (a2m l));unfold rv;split<;>omega
 have hdd:a3S l=true→a1e (a1v l)=true∧a1v l≠[48]∧a1v l≠[49]:=fun hs=>by
  rw [hs,Bool.true_and] at b3;simp only [Bool.or_eq_false_iff] at b3;exact ⟨by simpa using b3.1.1,of_decide_eq_false b3.1.2,of_decide_eq_false b3.2⟩
 have hd0:b4D l≠0:=by
  unfold b4D;cases hs:a3S l
  ·simp
  ·obtain ⟨e1,e2,e3⟩:=hdd hs
   simpa using (a7X e1).2 e2
 have hg:Nat.gcd (rv (a2m l)).natAbs (b4D l)=1:=by
  rw [hab];unfold b4D;cases hs:a3S l
  ·simp
  ·simpa using h4 hs
 obtain ⟨m1,m2⟩:=b6k hd0 hg;refine ⟨m1,m2,?_,hab⟩;have hi:Lib.itoa (rv (a2m l))=a2m l:=by
  cases hb:a1P (a2m l)
  ·have e1:a0S l=a2m l:=by unfold a0S a0j;rw [hb];rfl
   rw [e1] at d1;have e2:rv (a2m l)=(dv (a2m l):Int):=by unfold rv a0j;rw [hb];rfl
   rw [e2];unfold Lib.itoa;rw [if_neg (by omega)];exact d1
  ·obtain ⟨m,hm⟩:∃ m,a2m l=45::m:=by
    cases hn:a2m l with
    | nil=>rw [hn] at hb;cases hb
    | cons c m =>
     rw [hn] at hb;exact ⟨m,by rw [show c=45 by simpa [a1P] using hb]⟩
   have e1:a0S l=m:=by unfold a0S;rw [hm];rfl
   have hne:a0S l≠[48]:=fun h=>by
    have:=(a6A l).2.2.2
    rw [b2,hm] at this;have h2:=of_decide_eq_false this;rw [e1] at h;exact h2 (by rw [h])
   have hpos:=d2 hne;rw [e1] at d1 hpos;have e2:rv (a2m l) = -(dv m:Int):=by rw [hm];rfl
   rw [e2];unfold Lib.itoa;rw [if_pos (by omega),Int.natAbs_neg,Int.natAbs_natCast,d1,hm]
 unfold txt;rw [show (a0D l).num=rv (a2m l) from m1,show (a0D l).den=b4D l from m2,hi];have hle:=a2b l;cases hs:a3S l
 ·have e1:b4D l=1:=by unfold b4D;rw [hs];rfl
  have e2:=of_decide_eq_false (p:=a0d l<l.length) hs;rw [if_pos e1];unfold a2m;exact List.take_of_length_le (by omega)
 ·obtain ⟨e1,e2,e3⟩:=hdd hs
  have e4:b4D l=dv (a1v l):=by unfold b4D;rw [hs];rfl
  have e5:=(a7X e1).1;have e6:dv (a1v l)≠1:=fun h=>by
   rw [h,Lib.decDigits,dif_pos (by decide)] at e5;exact e3 e5.symm
  rw [e4,if_neg e6,e5];unfold a2m a1v;rw [← b4t (of_decide_eq_true hs),List.take_append_drop]
theorem a2R {l:List UInt8}(h:chk l=0):(a0S l).all a0A=true∧(a3S l=true→(a1v l).all a0A=true):=by
 obtain ⟨h1,-,-,-⟩:=b0x h;rw [a6p] at h1;simp only [Bool.or_eq_false_iff] at h1;obtain ⟨⟨b1,-⟩,b3⟩:=h1;refine ⟨(a2w (by simpa using b1)).2,fun hs=>?_⟩;rw [hs,Bool.true_and] at b3;simp only [Bool.or_eq_false_iff] at b3;exact (a2w (by simpa using b3.1.1)).2
theorem c9k {l:List UInt8}(h:chk l=0):rk (a0D l) 600:=by
 obtain ⟨m1,m2,-,m4⟩:=a4h h;obtain ⟨-,h2,h3,-⟩:=b0x h;obtain ⟨p1,p2⟩:=a2R h;have hb:∀ k,(10:Nat)^k≤BB^k:=fun k=>Nat.pow_le_pow_left (by decide) k
 refine ⟨?_,?_⟩
 ·rw [m1,m4]
  exact Nat.le_trans (a0J (Nat.lt_of_lt_of_le (a4Z _ p1) (hb _))) h2
 ·rw [m2]
  unfold b4D;cases hs:a3S l
  ·exact Nat.le_trans (a0J (n:=1) (k:=1) (by decide)) (by decide)
  ·exact Nat.le_trans (a0J (Nat.lt_of_lt_of_le (a4Z _ (p2 hs)) (hb _))) h3
theorem a8t {l:List UInt8}(h:chk l=0):FR (a0D l) (a5G l) 600:=by
 obtain ⟨m1,m2,-,-⟩:=a4h h;refine ⟨⟨a0I _,?_,?_⟩,c9k h⟩
 ·show (mkG (rv (a2m l))).z=_
  rw [a2y,m1]
 ·show (if a3S l then dv (a1v l) else 1)=_
  rw [m2];rfl
theorem c2D {l:List UInt8}(hl:l.length≤100000)(h:chk l=0):a0b C0 70 [str (sb l)] (a5G l).D:=c5G l hl (a2R h).1 (a2R h).2
def a3g:List Int→Int
 | []=>0
 | e::r=>if e≠0 then e else a3g r
theorem a8y {v:List Int}{i:Nat}(h:∀ (j:Nat) (e:Int),j<i→v[j]? = some e→e=0):a3g v=a3g (v.drop i):=by
 induction i generalizing v with
 | zero=>rfl
 | succ i ih =>
  cases v with
  | nil=>rfl
  | cons l r =>
   have h0:=h 0 l (Nat.succ_pos i) rfl;rw [List.drop_succ_cons];show (if l≠0 then l else a3g r)=_;rw [if_neg (fun hh=>hh h0)];exact ih fun j m hj hm=>h (j+1) m (by omega) hm
theorem b6U {a:Int}(h:a≠0):(a != 0)=true:=by
 have:(a==0)=false:=beq_eq_false_iff_ne.2 h
 unfold bne;rw [this];rfl
theorem b2E (v:List Int)(hl:v.length≤1000):a0b C0 96 [.sl true 1 (v.map fun e=>i64 e)] (i64 (a3g v)):=by
 refine a0c.walk w1 c8P rfl fun F=>?_
 have el:(((v.map fun e=>i64 e).length:Nat):Int)=(v.length:Int):=by rw [List.length_map]
 refine sR 0 ?_;refine OkS.seq ?_;refine sZ 100 ?_;refine nwI el ?_;refine OkS.block ?_;refine OkS.loop (α:=Nat × Nat) (fun p=>⟨[(5,.sl true 1 (v.map fun e=>i64 e)),(6,i64 v.length),(7,i64 (p.1:Int))],[],p.2⟩) (fun p=>v.length - p.1) (fun p=>p.1≤v.length∧∀ (j:Nat) (e:Int),j<p.1→v[j]? = some e→e=0) (0,_) ⟨Nat.zero_le _,fun j l hj=>absurd hj (Nat.not_lt_zero j)⟩ wkI ?_;rintro ⟨i,n⟩ F ⟨hi,ha⟩;dsimp only at hi ha ⊢;refine sR 200 ?_;refine OkS.seq ?_;refine ifI ?_
 (refine brI (fun hlt=>?_) (fun hlt=>?_))<;>(try simp only [Bool.not_eq_true',Bool.not_eq_false'] at hlt)<;>(try simp only [hlt])
 ·have hi2:i<v.length:=by
   have:=of_decide_eq_true hlt
   omega
  obtain ⟨l,hl'⟩:∃ l,v[i]? = some l:=⟨v[i],List.getElem?_eq_getElem hi2⟩
  have hm:(v.map fun e=>i64 e)[i]? = some (i64 l):=by rw [List.getElem?_map,hl'];rfl
  have hd:a3g v=a3g (v.drop i):=a8y ha;have hdd:v.drop i=l::v.drop (i+1):=by
   rw [List.drop_eq_getElem_cons hi2];rw [List.getElem?_eq_getElem hi2] at hl';rw [Option.some.inj hl']
  have wi:IntKind.i64.wrap ((i:Int)+1)=((i+1:Nat):Int):=wI (by omega) (by omega);refine skI ?_;refine OkS.seq ?_;refine OkS.block ?_;refine sZ 300 ?_;refine gwI kN ?_;refine ixI kT hm ?_;refine gwI kN ?_
  by_cases g:l=0
  ·have e5:(l != 0)=false:=by rw [g];rfl
   refine sZ 400 ?_;refine nwI e5 ?_;refine ifI ?_;refine skI ?_;refine OkS.reg w1 600 (by kernel_rfl) ?_;refine nwI wi ?_;refine ⟨(i+1,_),⟨hi2,fun j m hj hjm=>?_⟩,by dsimp only;omega,wkI⟩;rcases Nat.lt_or_ge j i with h|h
   ·exact ha j m h hjm
   ·have:j=i:=by dsimp only at hj;omega
    subst this;rw [hl'] at hjm;cases hjm;exact g
  ·have e5:(l != 0)=true:=b6U g
   refine sZ 400 ?_;refine nwI e5 ?_;refine ifI ?_;refine sR 500 ?_;refine rtI ?_;refine a0a ?_ IsPure.out;rw [hd,hdd];show _=i64 (if l≠0 then l else a3g (v.drop (i+1)));rw [if_pos g]
 ·have hi2:i=v.length:=by
   have:=of_decide_eq_false hlt
   omega
  subst hi2;refine exI ?_;refine sR 700 ?_;refine rtI ?_;refine a0a ?_ IsPure.out;rw [a8y ha,List.drop_of_length_le (Nat.le_refl _)];rfl
structure c3U where
 name:List UInt8
 tol:List UInt8
 kind:List UInt8
 step:List UInt8
 deriving Inhabited
def c3U.D (f:c3U):D:=.agg [str (sb f.name),str (sb f.tol),str (sb f.kind),str (sb f.step)]
instance  (f:c3U):CellsPure f.D:=by unfold c3U.D;exact inferInstance
instance  (f:c3U):IsPure f.D:=by unfold c3U.D;exact inferInstance
theorem a4O (a b:List UInt8):a1X (sb a) (sb b)=decide (a=b):=by
 unfold a1X
 by_cases h:a=b
 ·subst h;simp
 ·rw [decide_eq_false h]
  apply beq_eq_false_iff_ne.2;intro hh;apply h;simpa [sb] using hh
theorem b7H (l:List UInt8):a1X (sb l) ⟨#[]⟩=decide (l=[]):=a4O l []
def b5U (f:Nat→Nat):Nat→Nat
 | 0=>0
 | n+1=>if b5U f n≠0 then b5U f n else f n
theorem a8f {f:Nat→Nat}{n:Nat}(h:∀ j,j<n→f j=0):b5U f n=0:=by
 induction n with
 | zero=>rfl
 | succ n ih =>
  have:=ih fun j hj=>h j (by omega)
  unfold b5U;rw [if_neg (fun hh=>hh this)];exact h n (by omega)
theorem b8z {f:Nat→Nat}{i n:Nat}(h:∀ j,j<i→f j=0)(hi:i<n)(h0:f i≠0):b5U f n=f i:=by
 induction n with
 | zero=>omega
 | succ n ih =>
  unfold b5U;rcases Nat.lt_or_ge i n with hlt|hge
  ·have:=ih hlt
   rw [if_pos (by rw [this];exact h0),this]
  ·have:i=n:=by omega
   subst this;rw [if_neg (fun hh=>hh (a8f h))]
theorem c0N {f:Nat→Nat}{n:Nat}(h:b5U f n=0):∀ j,j<n→f j=0:=by
 induction n with
 | zero=>intro j hj;omega
 | succ n ih =>
  unfold b5U at h
  by_cases h0:b5U f n=0
  ·rw [if_neg (fun hh=>hh h0)] at h
   intro j hj;rcases Nat.lt_or_ge j n with hl|hg
   ·exact ih h0 j hl
   ·have:j=n:=by omega
    subst this;exact h
  ·rw [if_pos h0] at h
   exact absurd h h0
structure c4R where
 name:List UInt8
 least:List (List UInt8)
 most:List (List UInt8)
 deriving Inhabited
def c4R.D (g:c4R):D:=.agg [str (sb g.name),.sl false 1 (g.least.map fun l=>str (sb l)),.sl false 1 (g.most.map fun l=>str (sb l))]
instance  (g:c4R):CellsPure g.D:=by unfold c4R.D;exact inferInstance
instance  (g:c4R):IsPure g.D:=by unfold c4R.D;exact inferInstance
def lv (l:List (List UInt8))(k:Nat):List UInt8:=l.getD k []
def d1n (gs:List c4R)(i k:Nat):Option (List UInt8 × List UInt8):=if i=0 then none else some (lv (gs.getD (i - 1) default).least k,lv (gs.getD (i - 1) default).most k)
theorem b6b {l:List (List UInt8)}{k:Nat}(h:k<l.length):l[k]? = some (lv l k):=by
 unfold lv;rw [List.getD_eq_getElem?_getD,List.getElem?_eq_getElem h];rfl
theorem c9V {l:List (List UInt8)}{k:Nat}(h:k<l.length):(l.map fun x=>str (sb x))[k]? = some (str (sb (lv l k))):=by
 rw [List.getElem?_map,b6b h];rfl
theorem b0m {α:Type}{l:List α}{p:α→Bool}{i:Nat}(h:∀ (j:Nat) (x:α),j<i→l[j]? = some x→p x=false):(l.take i).any p=false:=by
 rw [List.any_eq_false];intro x hx;obtain ⟨j,hj,e⟩:=List.mem_iff_getElem.1 hx;have hj2:j<i:=by rw [List.length_take] at hj;omega
 have:l[j]? = some x:=by
  rw [← e,List.getElem_take];exact List.getElem?_eq_getElem _
 rw [h j x hj2 this];simp
def c5q {α:Type}(p:α→Bool)(l:List α):Int:=if l.any p then (l.findIdx p:Int) else -1
theorem c3M {α:Type}{p:α→Bool}{l:List α}{i:Nat}{x:α}(hx:l[i]? = some x)(h:p x=true)(ha:∀ (j:Nat) (y:α),j<i→l[j]? = some y→p y=false):c5q p l=i:=by
 unfold c5q;obtain ⟨hi,e⟩:=List.getElem?_eq_some_iff.1 hx;rw [if_pos (List.any_eq_true.2 ⟨x,List.mem_of_getElem? hx,h⟩)]
 have:l.findIdx p=i:=(List.findIdx_eq hi).2 ⟨by rw [e];exact h,fun j hj=>ha j _ hj (List.getElem?_eq_getElem _)⟩
 rw [this]
theorem b6W {α:Type}{p:α→Bool}{l:List α}(ha:∀ (j:Nat) (y:α),j<l.length→l[j]? = some y→p y=false):c5q p l = -1:=by
 unfold c5q
 have:=b0m (l:=l) (p:=p) (i:=l.length) ha
 rw [List.take_length] at this;rw [this];rfl
theorem c5X {α:Type}(p:α→Bool)(l:List α):decide (c5q p l≥0)=l.any p:=by
 unfold c5q;cases l.any p
 ·rfl
 ·exact decide_eq_true (by simp)
set_option maxHeartbeats 4000000
def c9Y (v:List (List UInt8)):Bool:=v.all fun l=>decide (l.length≤40)
theorem c5w {v:List (List UInt8)}(h:c9Y v=true):∀ l∈v,l.length≤40:=fun l hl=>of_decide_eq_true (List.all_eq_true.1 h l hl)
theorem a9Z {α:Type}{l:List α}{p:α→Bool}{k:Nat}{x:α}(hx:l[k]? = some x)(h:(l.take k).all p=true)(hp:p x=true):(l.take (k+1)).all p=true:=by
 rw [List.take_add_one,hx,List.all_append,h];simp [hp]
theorem c5l {α:Type}{l:List α}{p:α→Bool}{k:Nat}{x:α}(hx:l[k]? = some x)(hp:p x=false):l.all p=false:=by
 cases h:l.all p
 ·rfl
 ·rw [List.all_eq_true.1 h x (List.mem_of_getElem? hx)] at hp;exact hp
theorem d3b (b:Bool)(v:List (List UInt8))(hl:v.length≤9223372036854775807):a0b C0 9 [.sl b 1 (v.map fun l=>str (sb l))] (boo (c9Y v)):=by
 refine a0c.walk w1 d4C rfl fun F=>?_
 have el:(((v.map fun l=>str (sb l)).length:Nat):Int)=(v.length:Int):=by rw [List.length_map]
 refine sR 0 ?_;refine OkS.seq ?_;refine sZ 100 ?_;refine nwI el ?_;refine OkS.block ?_;refine OkS.loop (α:=Nat × Nat) (fun p=>⟨[(5,.sl b 1 (v.map fun l=>str (sb l))),(6,i64 v.length),(7,i64 (p.1:Int))],[],p.2⟩) (fun p=>v.length - p.1) (fun p=>p.1≤v.length∧(v.take p.1).all (fun l=>decide (l.length≤40))=true) (0,_) ⟨Nat.zero_le _,rfl⟩ wkI ?_;rintro ⟨i,n⟩ F ⟨hi,ha⟩;dsimp only at hi ha ⊢;refine sR 200 ?_;refine OkS.seq ?_;refine ifI ?_
 (refine brI (fun hlt=>?_) (fun hlt=>?_))<;>(try simp only [Bool.not_eq_true',Bool.not_eq_false'] at hlt)<;>(try simp only [hlt])
 ·have hi2:i<v.length:=by
   have:=of_decide_eq_true hlt
   omega
  have hm:=c9V hi2;have hx:=b6b hi2;have wi:IntKind.i64.wrap ((i:Int)+1)=((i+1:Nat):Int):=wI (by omega) (by omega);obtain ⟨l,hl'⟩:∃ l,lv v i=l:=⟨_,rfl⟩
  rw [hl'] at hm hx;have hsz:=a0v l;refine skI ?_;refine OkS.seq ?_;refine OkS.block ?_;refine sZ 300 ?_;refine gwI kN ?_;refine ixI kT hm ?_;refine gwI kN ?_
  by_cases g:l.length≤40
  ·have e5:decide ((l.length:Int)>40)=false:=decide_eq_false (by omega)
   refine sZ 400 ?_;refine nwI (ff2 hsz e5) ?_;refine ifI ?_;refine skI ?_;refine OkS.reg w1 600 (by kernel_rfl) ?_;refine nwI wi ?_;exact ⟨(i+1,_),⟨hi2,a9Z hx ha (decide_eq_true g)⟩,by dsimp only;omega,wkI⟩
  ·have e5:decide ((l.length:Int)>40)=true:=decide_eq_true (by omega)
   refine sZ 400 ?_;refine nwI (ff2 hsz e5) ?_;refine ifI ?_;refine sR 500 ?_;refine rtI ?_;exact a0a (by unfold c9Y;rw [c5l hx (decide_eq_false g)]) IsPure.out
 have hi2:i=v.length:=by
  have:=of_decide_eq_false hlt
  omega
 subst hi2;refine exI ?_;refine sR 700 ?_;refine rtI ?_;exact a0a (by unfold c9Y;rw [List.take_length] at ha;rw [ha]) IsPure.out
open Go.ChangeShapes Go.WideShapes
def stF (P:Program)(t:Nat):Option (List (Nat × Nat × Nat)):=match P.underlying t with
 | some (.struct fs)=>some (fs.toList.map fun f=>(f.type,f.offset,P.cellsOf f.type))
 | _=>none
section
variable {H:Type} {enc:TypeId × Value→H} {W:World} {fuel:Nat} {cs:List Value} {x:DataW H × List MemPlace} {t:TypeId}
theorem d3e {l:List (Nat × Nat × Nat)}{m:Nat}(hs:stF Tryz.prog t=some l)(hm:Tryz.prog.cellsOf t=m)(h:DataW.trod enc Tryz.prog W 0 (fun _=>true) true fuel t cs=some x) :
  cs.length=m∧∃ n,∀ (i u off k:Nat),l[i]? = some (u,off,k)→∃ y,DataW.trod enc Tryz.prog W 0 (fun _=>true) true n u ((cs.drop off).take k)=some y:=by
 unfold stF at hs;split at hs
 ·rename_i fs hu
  obtain ⟨h1,n,h2⟩:=b8p hu h;refine ⟨h1.trans hm,n,fun i u off k hl=>?_⟩;obtain rfl:=Option.some.inj hs;rw [List.getElem?_map] at hl;obtain ⟨f,hf,he⟩:=Option.map_eq_some_iff.1 hl;cases he;exact h2 i f (by rw [← Array.getElem?_toList];exact hf)
 ·cases hs
theorem c3g {a b c:Nat}{p q:List D}(h:a8P W ((cs.drop a).take b) p)(k:a8P W ((cs.drop (a+b)).take c) q):a8P W ((cs.drop a).take (b+c)) (p++q):=by
 rw [List.take_add,List.drop_drop];exact h.append k
theorem c8E {n:Nat}{p:List D}(hn:cs.length=n)(h:a8P W ((cs.drop 0).take n) p):a8P W cs p:=by
 rw [List.drop_zero,← hn,List.take_length] at h;exact h
theorem c3a (h:DataW.trod enc Tryz.prog W 0 (fun _=>true) true fuel 24 cs=some x):∃ l:List UInt8,a8P W cs (str (sb l)).cells∧l.length≤maxLen:=c6G (by kernel_rfl) h
end
theorem ltT {i n:Nat}(h:i<n):decide ((i:Int)<(n:Int))=true:=decide_eq_true (by omega)
theorem ltF {i n:Nat}(h:n≤i):decide ((i:Int)<(n:Int))=false:=decide_eq_false (by omega)
theorem wiI {i:Nat}(h:i<9223372036854775807):IntKind.i64.wrap ((i:Int)+1)=((i+1:Nat):Int):=wI (by omega) (by omega)
theorem a1w {α:Type}{l:List α}{i:Nat}(h:i<l.length):∃ x,l[i]? = some x:=⟨l[i],List.getElem?_eq_getElem h⟩
instance  (l:List UInt8):CellsPure (a5G l).D:=by unfold GF.D;exact inferInstance
theorem d4K {a b:Nat}(h:a=b):(((a:Nat):Int) != (b:Int))=false:=by subst h;simp
theorem c6b {a:Nat}(h:a≠0):(((a:Nat):Int) != 0)=true:=b6U (by omega)
theorem c6o {a:Nat}(h:a=0):(((a:Nat):Int) != 0)=false:=by subst h;rfl
theorem c9O {a:Nat}(h:a≠0):(((a:Nat):Int)==0)=false:=beq_eq_false_iff_ne.2 (by omega)
theorem d1E {a:Nat}(h:a=0):(((a:Nat):Int)==0)=true:=by subst h;rfl
theorem b9v {H Hf:Hp}{K g T sz:Nat}{l:List D}(h:l=[]∨Hp.get H K=some ⟨K,g,T,sz,l⟩)(hf:Hp.get Hf K=none):Fz H Hf (b0e K g sz l) (.sl false sz l):=by
 cases l with
 | nil=>exact .nil sz
 | cons x l =>
  rcases h with h|h
  ·cases h
  refine .osl (e:=⟨K,g,T,sz,x::l⟩) h hf rfl rfl (by simp) (by simp) (fun j d d' h1 h2=>?_) fun j d d' q c c' h1 h2 h3 h4=>?_
  ·rw [Nat.zero_add] at h1;rw [h1] at h2;cases h2;rfl
  ·rw [Nat.zero_add] at h1;rw [h1] at h2;cases h2;rw [h3] at h4;cases h4;exact Fz.refl _
theorem c4I {H Hf r r':Hp}{K g T sz:Nat}{l:List D}(h:FzH H Hf r r'):FzH H Hf (a8T K g T sz l++r) r':=by
 cases l with
 | nil=>exact h
 | cons x l=>exact .drop h
theorem c3Q {K g T sz:Nat}{l:List D}{H:Hp}:l=[]∨Hp.get (a8T K g T sz l++H) K=some ⟨K,g,T,sz,l⟩:=by
 cases l with
 | nil=>exact .inl rfl
 | cons x l=>right;simp [a8T,Hp.get]
theorem a6u {H Hf:Hp}{a a' b:D}(h:Fz H Hf a a'):Fz H Hf (.tup [a,b]) (.tup [a',b]):=.tup rfl fun i d d' h1 h2=>by
 rcases i with _|_|i
 ·cases h1;cases h2;exact h
 ·cases h1;cases h2;exact .refl _
 ·simp at h1
section
variable {H:Type} {enc:TypeId × Value→H} {W:World} {fuel:Nat} {cs:List Value} {x:DataW H × List MemPlace} {t:TypeId}
theorem c7z (h:DataW.trod enc Tryz.prog W 0 (fun _=>true) true fuel 3 cs=some x):∃ z:Int,a8P W cs [i64 z]:=by
 obtain ⟨z,_,_,h⟩:=c9n (by kernel_rfl) h;exact ⟨z,h⟩
end
theorem d2p {P:Program}{W:World}{t e base:Nat}{v:Value}(hu:P.underlying t=some (.slice e))(h:Value.okWide P W .any base t v):∃ a l c,v=.slice a l c:=by
 unfold Value.okWide at h;rw [hu] at h;dsimp only at h;unfold Cell.okWide at h;rw [hu] at h;cases v<;>first|exact ⟨_,_,_,rfl⟩|(dsimp only at h;unfold Cell.ok at h;rw [hu] at h;exact h.elim)
theorem a8P.val1 {W:World}{v:Value}{d:D}(h:a8P W [v] [d]):Rep nol (fun _=>False) W d v:=(h.cell 0 v d rfl rfl).2
def nb (r:Rat)(n d:Nat):Prop:=r.num.natAbs≤n∧r.den≤d
theorem nb.mono {r:Rat}{n d n' d':Nat}(h:nb r n d)(h1:n≤n')(h2:d≤d'):nb r n' d':=⟨Nat.le_trans h.1 h1,Nat.le_trans h.2 h2⟩
theorem c4Y:nb 0 0 1:=⟨by decide,by decide⟩
def d3S:Nat:=(10^100)^6
theorem c2L {r:Rat}{n d:Nat}(h:nb r n d)(h1:n<d3S)(h2:d<d3S):b9K r=false:=by
 unfold b9K;have key:∀ a b k m,a*b=k+1→m<(10^a)^b→(Lib.decDigits m).length≤k+1:=fun a b k m hk h=>a1x k m (by rw [← hk,Nat.pow_mul];exact h)
 have l1:=key 100 6 599 r.num.natAbs rfl (Nat.lt_of_le_of_lt h.1 h1);have l2:=key 100 6 599 r.den rfl (Nat.lt_of_le_of_lt h.2 h2);rw [decide_eq_false (by omega),decide_eq_false (by omega)];rfl
def E40:Nat:=10^40
theorem c4e {l:List UInt8}(h:chk l=0)(hl:l.length≤40):nb (a0D l) E40 E40:=by
 obtain ⟨m1,m2,m3,m4⟩:=a4h h;obtain ⟨p1,p2⟩:=a2R h;have hs1:(a0S l).length≤40:=by
  have:(a0S l).length≤l.length:=by
   unfold a0S;have a1:(a0j (a2m l)).length≤(a2m l).length:=by unfold a0j;split<;>simp
   have a2:(a2m l).length≤l.length:=by unfold a2m;rw [List.length_take];omega
   omega
  omega
 have hb:∀ k,k≤40→(10:Nat)^k≤E40:=fun k hk=>Nat.pow_le_pow_right (by decide) hk
 refine ⟨?_,?_⟩
 ·rw [m1,m4]
  exact Nat.le_trans (Nat.le_of_lt (a4Z _ p1)) (hb _ hs1)
 ·rw [m2]
  unfold b4D;cases hs:a3S l
  ·exact (by decide:1≤E40)
  ·have hs2:(a1v l).length≤40:=by
    have:(a1v l).length≤l.length:=by unfold a1v;simp
    omega
   exact Nat.le_trans (Nat.le_of_lt (a4Z _ (p2 hs))) (hb _ hs2)
theorem d2l {r:Rat}{n d k:Nat}(h:nb r n d)(h1:n<BB^k)(h2:d<BB^k):rk r k :=
 ⟨a0J (Nat.lt_of_le_of_lt h.1 h1),a0J (Nat.lt_of_le_of_lt h.2 h2)⟩
theorem rk3 {l:List UInt8}(h:chk l=0)(hl:l.length≤40):rk (a0D l) 3:=d2l (c4e h hl) (by decide) (by decide)
theorem c4J (k:Nat)(hk:1≤k):FR 0 ⟨mkG 0,1⟩ k:=⟨⟨a0I _,by rw [a2y];rfl,rfl⟩,by
 refine rk.mono (k:=1) ?_ hk;exact ⟨a0J (k:=1) (by decide),a0J (k:=1) (by decide)⟩⟩
set_option maxHeartbeats 1000000
set_option maxRecDepth 100000
theorem d3L {n:Nat}(h:1≤n):liesAt Tryz.prog Tryz.prog.depth 305 n 0 305 1=true:=by
 have hs:sameLayout Tryz.prog Tryz.prog.depth 305 305=true:=by kernel_rfl
 have hc:Tryz.prog.cellsOf 305=2:=by kernel_rfl
 obtain ⟨d,hd⟩:∃ d,Tryz.prog.depth=d+1:=⟨Tryz.prog.depth - 1,by kernel_rfl⟩
 rw [hd] at hs ⊢;unfold liesAt;rw [hd];unfold rowAt;simp [hc,hs,h]
theorem c3X (b c:Nat)(hc:2≤c)(w:World)(h0:w.cell? ⟨b,0,none⟩=some (.pointer none))(hsh:w.shape? b=some (305,c))(hfz:w.frozen? ⟨b,0,none⟩=false) :
  Calls Tryz.prog 260 #[.pointer (some ⟨b,0,none⟩)] w fun e w'=>e=.returned (.tuple #[])∧w'=w.setCell ⟨b,0,none⟩ (.pointer (some ⟨b,0,none⟩)):=by
 obtain ⟨j,hj,hjs⟩:=Option.map_eq_some_iff.1 (show (Tryz.prog.info? 305).map (·.size)=some 2 by kernel_rfl);have hl:liesAt Tryz.prog Tryz.prog.depth 305 (c / Tryz.prog.cellsOf 305) 0 305 1=true:=d3L (by rw [show Tryz.prog.cellsOf 305=2 by kernel_rfl];omega)
 go_enter Tryz.func260,Tryz.ntmps260
 go_wp2
 rw [Lib.run_to_unsafe w ⟨b,0,none⟩ (t:=305) (by kernel_rfl) (by kernel_rfl) hj (by rw [hjs];decide) hsh (by show 0<c;omega)];simp only [Result.andThen];rw [Oper.upon_value]
 go_wp2
 rw [run_callFunc_extern Tryz.func298 (by kernel_rfl) (by kernel_rfl) (by kernel_rfl) (e:=Extern.AbiNoEscape.same) (by kernel_rfl)];rw [Lib.run_noEscape];simp only [Result.andThen];rw [Oper.upon_value]
 go_wp2
 rw [Lib.run_from_unsafe w ⟨b,0,none⟩ (u:=305) (by kernel_rfl) (by kernel_rfl) hj hsh hl];simp only [Result.andThen];rw [Oper.upon_value]
 go_wp2
 go_end0
 exact ⟨rfl,rfl⟩
theorem c7A (b:Nat)(w:World)(h0:w.cell? ⟨b,0,none⟩=some (.pointer (some ⟨b,0,none⟩))) :
  Calls Tryz.prog 260 #[.pointer (some ⟨b,0,none⟩)] w fun e w'=>e=.returned (.tuple #[])∧w'=w:=by
 obtain ⟨j,hj,hjs⟩:=Option.map_eq_some_iff.1 (show (Tryz.prog.info? 305).map (·.size)=some 2 by kernel_rfl)
 go_enter Tryz.func260,Tryz.ntmps260
 go_wp2
 rw [Lib.run_neq_ptr_same w _ (te:=305) (by kernel_rfl) hj]
 go_wp2
 go_end0
 exact ⟨rfl,rfl⟩
theorem d5y (b g:Nat)(cur cs:Array Value)(l:List UInt8)(h0:l≠[])(w:World)(hb:w.heap[b]? = some (.cells cs 305 (0,0)))(hb1:cs[1]? = some (.slice (some ⟨g,0,none⟩) l.length cur.size))
  (hg:w.heap[g]? = some (.cells cur 5 (0,0))) (hl:l.length≤cur.size) (hcap:cur.size≤maxLen) (hcell:∀ (j:Nat) (x:UInt8),l[j]? = some x→cur[j]? = some (.int .u8 x.toNat)) :
  Calls Tryz.prog 226 #[.pointer (some ⟨b,0,none⟩)] w fun e w'=>e=.returned (.string ⟨l.toArray⟩)∧w'=(w.drew.freeze ⟨g,0,none⟩ l.length):=by
 have c1:w.drew.cell? ⟨b,1,none⟩=some (.slice (some ⟨g,0,none⟩) l.length cur.size):=by
  have:w.drew.heap[b]? = some (.cells cs 305 (0,0)):=hb
  rw [Lib.cell_of_heap this];exact hb1
 have h0':l.length≠0:=by simpa using h0
 have hSD:(Builtin.unsafeSliceData_ #[303] 329 #[.slice (some ⟨g,0,none⟩) l.length cur.size]).run Tryz.prog w.drew=.ok (.pointer (some ⟨g,0,none⟩)) w.drew :=
  Lib.run_unsafeSliceData_row _ _ _ _ _ _ (by omega)
 have hUS:(Builtin.unsafeString_ #[329,3] 9 #[.pointer (some ⟨g,0,none⟩),.int .i64 l.length]).run Tryz.prog w.drew=.ok (.string ⟨l.toArray⟩) (w.drew.freeze ⟨g,0,none⟩ l.length):=by
  refine Lib.run_unsafeString_row w.drew 329 3 9 5 (by kernel_rfl) (by kernel_rfl) g cur.size (by have hg':w.drew.heap[g]? = some (.cells cur 5 (0,0)):=hg;simp [World.shape?,hg']) l h0 (by omega) (by unfold maxLen at hcap;omega) ?_;intro j x hx;have hg':w.drew.heap[g]? = some (.cells cur 5 (0,0)):=hg
  have:=hcell j x hx
  rw [Addr.add_lit];simp [World.cell?,hg',this]
 have mixed:Tryz.prog.follows .mixedOrders=true:=by kernel_rfl
 go_enter Tryz.func226,Tryz.ntmps226
 go_wp2
 go_region_o
 all_goals (go_wp2;go_ret;exact ⟨rfl,rfl⟩)
def a4X (l:List UInt8):List D:=l.map fun b=>.prim (.int .u8 (b.toNat:Int))
abbrev b1v (g:Nat)(p x:D):Ent:=⟨1500,g,305,2,[.agg [p,x]]⟩
theorem d3M {vs:Array Value}(h:vs.size=1):vs = #[vs.getD 0 undef]:=by
 match vs,h with
 | ⟨[u]⟩,_=>rfl
theorem d4b (g n:Nat)(x p:D)(H1 H2:Hp)(hp:p=.prim (.pointer none)∨p=.optr 1500 g 2 0 0) :
  a0m C0 260 [.optr 1500 g 2 0 0] (H1++b1v g p x::H2) n (fun d H' n'=>d=.prim (.tuple #[])∧H'=H1++b1v g (.optr 1500 g 2 0 0) x::H2∧n'=n):=by
 refine ⟨⟨_,_,Tryz.func260,rfl,by kernel_rfl⟩,fun F ρ w vs m fr hgn hvs hr=>?_⟩;have h0:=hr 0 _ rfl;rw [d3M hvs];generalize hv:vs.getD 0 undef=v at h0;cases h0 with
 | optr hρ =>
  rename_i b;have he:b1v g p x∈H1++b1v g p x::H2:=by simp
  obtain ⟨cs,hc,q⟩:=m.at he hρ;have hlen:2≤cs.size:=q.len;have hr0:Rep ρ (Own F.X ρ (H1++b1v g p x::H2)) w p (cs.getD 0 undef):=q.rep 0 _ 0 p rfl rfl;have hr1:Rep ρ (Own F.X ρ (H1++b1v g p x::H2)) w x (cs.getD 1 undef):=q.rep 0 _ 1 x rfl rfl;have hcell:w.cell? ⟨b,0,none⟩=some (cs.getD 0 undef):=by
   simp [World.cell?,hc,Array.getD,show 0<cs.size by omega]
  rcases hp with rfl|rfl
  ·cases hr0':cs.getD 0 undef with
   | pointer a =>
    rw [hr0'] at hr0 hcell;cases hr0;refine (c3X b cs.size hlen w hcell (by simp [World.shape?,hc]) (by simp [World.frozen?,hc])).mono ?_;rintro e w' ⟨rfl,rfl⟩;have hset:w.setCell ⟨b,0,none⟩ (.pointer (some ⟨b,0,none⟩))=World.setBlk w b (cs.setIfInBounds 0 (.pointer (some ⟨b,0,none⟩))) 305:=by
     rw [setCell_eq_setRow w b 0 cs 305 (0,0) _ hc];exact a7x hc
    have hop:Rep ρ (Own F.X ρ (H1++b1v g (.prim (.pointer none)) x::H2)) w (.optr 1500 g 2 0 0) (.pointer (some ⟨b,0*2+0,none⟩)):=.optr hρ;have ho:a2h ρ (Own F.X ρ (H1++b1v g (.prim (.pointer none)) x::H2)) w (b1v g (.optr 1500 g 2 0 0) x) (cs.setIfInBounds 0 (.pointer (some ⟨b,0,none⟩))):=by
     refine ⟨by rw [Array.size_setIfInBounds];exact q.len,fun i d hd=>?_,fun i v hv=>?_,fun i d j c hd hj=>?_⟩
     ·rcases i with _|i
      ·cases hd;rfl
      ·simp at hd
     ·rw [Array.getElem?_setIfInBounds] at hv
      split at hv
      ·split at hv
       ·cases hv;rfl
       ·cases hv
      ·exact q.one i v hv
     ·rcases i with _|i
      ·cases hd
       rcases j with _|_|j
       ·cases hj
        have:(cs.setIfInBounds 0 (.pointer (some ⟨b,0,none⟩))).getD (0*2+0) undef=.pointer (some ⟨b,0*2+0,none⟩):=by
         simp [Array.getD_eq_getD_getElem?,show 0<cs.size by omega]
        rw [this];exact hop
       ·cases hj
        have:(cs.setIfInBounds 0 (.pointer (some ⟨b,0,none⟩))).getD (0*2+1) undef=cs.getD 1 undef:=by
         simp [Array.getD_eq_getD_getElem?]
        rw [this];exact hr1
       ·simp [D.cells] at hj
      ·simp at hd
    obtain ⟨m1,x1⟩:=m.write (e':=b1v g (.optr 1500 g 2 0 0) x) hρ hc rfl rfl rfl (Array.size_setIfInBounds ..) ho;rw [hset];exact ⟨_,_,_,n,ρ,rfl,⟨rfl,rfl,rfl⟩,m1,x1,fr,fun e' he'=>by
     rcases List.mem_append.1 he' with h|h
     ·exact hgn e' (by simp [h])
     ·rcases List.mem_cons.1 h with rfl|h
      ·exact hgn (b1v g (.prim (.pointer none)) x) he
      ·exact hgn e' (by simp [h]),.prim _⟩
   | _=>rw [hr0'] at hr0;cases hr0
  ·cases hr0':cs.getD 0 undef with
   | pointer a =>
    rw [hr0'] at hr0 hcell;cases hr0 with
    | optr hρ2 =>
     rw [hρ] at hρ2;cases hρ2;refine (c7A b w hcell).mono ?_;rintro e w' ⟨rfl,rfl⟩;exact ⟨_,_,_,n,ρ,rfl,⟨rfl,rfl,rfl⟩,m,Ext.refl _ _ _,fr,hgn,.prim _⟩
   | _=>rw [hr0'] at hr0;cases hr0
theorem b1A (w:World)(g n:Nat)(hn:n≠0)(cur:Array Value)(T:Nat)(hg:w.heap[g]? = some (.cells cur T (0,0))) :
  (w.freeze ⟨g,0,none⟩ n).heap.size=w.heap.size∧(w.freeze ⟨g,0,none⟩ n).os=w.os∧(w.freeze ⟨g,0,none⟩ n).tape=w.tape∧(w.freeze ⟨g,0,none⟩ n).output=w.output ∧
  (∀ k,k≠g→(w.freeze ⟨g,0,none⟩ n).heap[k]? = w.heap[k]?)∧∃ (cs':Array Value) (fz':Nat × Nat),(w.freeze ⟨g,0,none⟩ n).heap[g]? = some (.cells cs' T fz')∧cs'.size=cur.size:=by
 unfold World.freeze;rw [if_neg hn];refine ⟨by simp,rfl,rfl,rfl,fun k hk=>?_,?_⟩
 ·dsimp only
  rw [Array.getElem?_modify,if_neg (fun h=>hk h.symm)]
 ·dsimp only
  rw [Array.getElem?_modify,if_pos rfl,hg];exact ⟨cur,_,rfl,rfl⟩
theorem d2g (g gb n:Nat)(l:List UInt8)(h0:l≠[])(p:D)(R:Hp) :
  a0m C0 226 [.optr 1500 g 2 0 0] (⟨206,gb,5,1,a4X l⟩::b1v g p (.osl 206 gb 1 0 l.length)::R) n (fun d H' n'=>d=str ⟨l.toArray⟩∧H'=b1v g p (.osl 206 gb 1 0 l.length)::R∧n'=n):=by
 refine ⟨⟨_,_,Tryz.func226,rfl,by kernel_rfl⟩,fun F ρ w vs m fr hgn hvs hr=>?_⟩;have hz:=hr 0 _ rfl;have h0':l.length≠0:=by simpa using h0
 rw [d3M hvs];generalize hv:vs.getD 0 undef=v at hz;cases hz with
 | optr hρ =>
  rename_i b;obtain ⟨cs,hc,q⟩:=m.at (e:=b1v g p (.osl 206 gb 1 0 l.length)) (by simp) hρ;have hlen:2≤cs.size:=q.len;have hr1:Rep ρ (Own F.X ρ (⟨206,gb,5,1,a4X l⟩::b1v g p (.osl 206 gb 1 0 l.length)::R)) w (.osl 206 gb 1 0 l.length) (cs.getD 1 undef):=q.rep 0 _ 1 (.osl 206 gb 1 0 l.length) rfl rfl;generalize hs1:cs.getD 1 undef=sv at hr1;generalize hL:l.length=L at hr1;cases hr1 with
   | onil=>exact absurd hL h0'
   | osl hρ2 hb2 hc2 hs2 hm2 =>
    rename_i cap gy T' cs2 fz2;obtain ⟨cur,hcur,qy⟩:=m.at (e:=⟨206,gb,5,1,a4X l⟩) (by simp) hρ2;rw [hb2] at hcur;cases hcur;have hcap:cap=cs2.size:=by omega
    subst hcap;have hcell:∀ (j:Nat) (x:UInt8),l[j]? = some x→cs2[j]? = some (.int .u8 x.toNat):=fun j x hx=>by
     have hr:=qy.rep j (.prim (.int .u8 (x.toNat:Int))) 0 (.prim (.int .u8 (x.toNat:Int))) (by unfold a4X;rw [List.getElem?_map,hx];rfl) rfl;have hlt:j<cs2.size:=by
      have:=(List.getElem?_eq_some_iff.1 hx).1
      omega
     generalize hvv:cs2.getD (j*1+0) undef=vv at hr;cases hr;rw [Array.getElem?_eq_getElem hlt]
     have:cs2.getD j undef=cs2[j]:=by simp [Array.getD,hlt]
     rw [Nat.mul_one,Nat.add_zero,this] at hvv;rw [hvv]
    have hb1:cs[1]? = some (.slice (some ⟨gy,0,none⟩) l.length cs2.size):=by
     have hlt:1<cs.size:=by omega
     rw [Array.getElem?_eq_getElem hlt]
     have:cs.getD 1 undef=cs[1]:=by simp [Array.getD,hlt]
     rw [this] at hs1;rw [hs1,hL,Nat.zero_mul]
    refine (d5y b gy cs2 cs l h0 w hc hb1 hb2 (by omega) (by omega) hcell).mono ?_;rintro e w' ⟨rfl,rfl⟩;have md:=m.drew;obtain ⟨f1,f2,f3,f4,f5,cs',fz',f6,f7⟩:=b1A w.drew gy l.length h0' cs2 5 hb2;obtain ⟨m1,x1⟩:=Mem.letGo (H1:=[]) (H2:=b1v g p (.osl 206 gb 1 0 l.length)::R) (w':=w.drew.freeze ⟨gy,0,none⟩ l.length) md hρ2 f1 f2 f3 f4 f5 (fun c hcc=>by
     have hb2':w.drew.heap[gy]? = some (.cells cs2 5 (0,0)):=hb2;have hcc':w.drew.heap[gy]? = some (.cells c 5 (0,0)):=hcc;rw [hb2'] at hcc';cases hcc';exact ⟨cs',fz',f6,f7⟩)
    rw [hL];rw [hL] at m1 x1;exact ⟨_,_,_,n,ρ,rfl,⟨rfl,rfl,rfl⟩,m1,(Ext.drew _ _ _).trans x1,fr,fun e' he'=>hgn e' (by rw [hL];exact List.mem_cons_of_mem _ he'),.prim _⟩
set_option maxRecDepth 20000
set_option maxHeartbeats 4000000
def bH (gb g:Nat)(p:D)(L:List UInt8)(R:Hp):Hp:=a8T 206 gb 5 1 (a4X L)++(b1v g p (b0e 206 gb 1 (a4X L))::R)
theorem b8r (s:List UInt8):a4w (sb s)=a4X s:=rfl
theorem a4d (l:List UInt8):(a4X l).length=l.length:=List.length_map ..
theorem b7l (a b:List UInt8):a4X (a++b)=a4X a++a4X b:=List.map_append
theorem b3V {l:List UInt8}(h:l≠[]):∃ x r,a4X l=x::r:=by
 cases l with
 | nil=>exact absurd rfl h
 | cons a l=>exact ⟨_,_,rfl⟩
theorem d3U (g gb n:Nat)(p:D)(hp:p=.prim (.pointer none)∨p=.optr 1500 g 2 0 0)(L s:List UInt8)(hs:s≠[])(R:Hp)(hlen:L.length+s.length≤100000000) :
  a0m C0 225 [.optr 1500 g 2 0 0,str (sb s)] (bH gb g p L R) n (fun d H' n'=>(∃ g',H'=bH g' g (.optr 1500 g 2 0 0) (L++s) R)∧n≤n'):=by
 refine a0m.walk w1 c3r rfl fun F=>?_
 have hsz:=a0v s;have hb:=b8r s;obtain ⟨x,r,hx⟩:=b3V hs;have hr:s.length=r.length+1:=by rw [← a4d,hx];rfl
 unfold bH;rw [b7l];cases hL:a4X L with
 | nil =>
  dsimp only [a5B,a5C,List.nil_append];refine goI dr0 kB trivial trivial trivial trivial trivial trivial ?_;refine a0l.own _ (d4b g _ a2k p [] R hp) ?_;rintro d H' n' ⟨rfl,rfl,rfl⟩;have hL0:L.length=0:=by rw [← a4d,hL];rfl
  refine goI dr0 (ff2 hsz hb) trivial trivial trivial trivial trivial trivial ?_;refine ⟨?_,by omega⟩;apply Exists.intro;rw [hx,hr];rfl
 | cons y l =>
  dsimp only [a4v,a4o,List.cons_append,List.nil_append];have hL1:L.length=l.length+1:=by rw [← a4d,hL];rfl
  have htk:List.take (l.length+1) (y::l)=y::l:=by simp
  refine goI dr0 kB trivial trivial trivial trivial trivial trivial ?_;refine a0l.own _ (d4b g _ (.osl 206 gb 1 0 (l.length+1)) p [⟨206,gb,5,1,y::l⟩] R hp) ?_;rintro d H' n' ⟨rfl,rfl,rfl⟩;refine goI dr0 (ff3 hsz hb htk) trivial trivial trivial trivial trivial trivial ?_;refine ⟨?_,by omega⟩;apply Exists.intro;have hap:y::l++a4X s=y::(l++a4X s):=rfl;have hl2:(l++a4X s).length+1=l.length+1+s.length:=by rw [List.length_append,a4d];omega
  rw [hl2]
open Go.Sort Go.Shelf
section
open Go.Lib
set_option maxHeartbeats 6400000 in
set_option maxRecDepth 100000 in
theorem d5n (u:Nat) (hu64:u<18446744073709551616) (w:World) (htab:Lib.TabIs Tryz.prog w "internal/strconv.uint64pow10" .u64 Lib.pow10Tab) :
  Calls Tryz.prog 256 #[.int .u64 u,.int .i64 10] w fun e w'=>e=.returned (.string ⟨(Lib.decDigits u).toArray⟩)∧∃ k os,w'=grow (w.drewN k) os:=by
 have e283:∀ args w,(callFunc 292 args).run Tryz.prog w=.ok (.enter 292 args) w:=enters_of Tryz.func292 (by kernel_rfl) rfl;have e284:∀ args w,(callFunc 293 args).run Tryz.prog w=.ok (.enter 293 args) w:=enters_of Tryz.func293 (by kernel_rfl) rfl;have e285:∀ args w,(callFunc 294 args).run Tryz.prog w=.ok (.enter 294 args) w:=enters_of Tryz.func294 (by kernel_rfl) rfl
 by_cases hs:u<100
 ·go_enter Tryz.func256,Tryz.ntmps256
  go_wp2_with (go_at_fn 292;refine (Tryz.internal_strconv_small u hs _).mono ?_;rintro e w' ⟨rfl,rfl⟩)
  go_ret
  exact ⟨rfl,0,#[],by simp [World.drewN_zero]⟩
 ·have hu1:1≤u:=by omega
  have hnd20:Lib.nDigits u≤20:=by have:=Lib.numDigits_eq u hu1 hu64;split at this<;>omega
  have hb3:Lib.nDigits u≤24:=by omega
  have hal:Tryz.prog.arrayLen 360=24:=by kernel_rfl
  have hsl1:∀ W,(Instr.sliceAt 360 (.pointer (some ⟨w.heap.size,0,none⟩)) none (some (.int .i64 (Lib.nDigits u:Int))) none).run Tryz.prog W=.ok (.slice (some ⟨w.heap.size,0,none⟩) (Lib.nDigits u) 24) W:=fun W=>by
   rw [run_sliceAt_array_h W 360 ⟨w.heap.size,0,none⟩ (by kernel_rfl) .i64 (Lib.nDigits u:Int) (by omega) (by rw [hal];omega)]
   go_simp
  have hH0:=Lib.holds_zero0 w 360 (Lib.nDigits u) (by omega);have hfmt:=Tryz.internal_strconv_formatBase10 w.heap.size 0 24 u (Array.replicate (Lib.nDigits u) 0) (w.alloc (.cells Lib.zeros24 360)) hH0 (by rw [Array.size_replicate];exact Lib.lt_pow_nDigits u) hu64 (by rw [Array.size_replicate];omega);rw [Array.size_replicate] at hfmt;have HH0:=Lib.hid hH0;clear hH0 hal
  go_enter Tryz.func256,Tryz.ntmps256
  go_wp2_with (first
   | (go_at_fn 293;refine (Tryz.internal_strconv_numDigits u hu1 hu64 _ (Lib.tabIs_alloc htab _)).mono ?_;rintro e w' ⟨rfl,rfl⟩))
  go_at_fn 294
  refine hfmt.mono ?_;rintro e w' ⟨rfl,k,v',dk,rfl,hF⟩;have hcv:(convert 303 9 (.slice (some ⟨w.heap.size,0,none⟩) (Lib.nDigits u) 24)).run Tryz.prog ((putRow (fun (b:UInt8)=>Value.int .u8 (b.toNat:Int)) (w.alloc (.cells Lib.zeros24 360)) w.heap.size 0 dk).drewN k)=.ok (.string ⟨(Lib.decDigits u).toArray⟩) ((putRow (fun (b:UInt8)=>Value.int .u8 (b.toNat:Int)) (w.alloc (.cells Lib.zeros24 360)) w.heap.size 0 dk).drewN k):=by
   have h:=run_convert_bytes_back (P:=Tryz.prog) ((putRow (fun (b:UInt8)=>Value.int .u8 (b.toNat:Int)) (w.alloc (.cells Lib.zeros24 360)) w.heap.size 0 dk).drewN k) 303 9 5 ⟨w.heap.size,0,none⟩ 24 (Lib.decDigits u) (by kernel_rfl) (by kernel_rfl) (by kernel_rfl) (fun j hj=>by
    rw [Lib.row_is_numeral hF j hj,Lib.add_plain,World.cell?_drewN];exact cell?_putRow (fun (b:UInt8)=>Value.int .u8 (b.toNat:Int)) _ w.heap.size 0 _ dk HH0.out (by rw [hF.size,Array.size_replicate]) j (by rw [hF.size];rw [Lib.decDigits_length] at hj;exact hj))
   rw [Lib.decDigits_length] at h;exact h
  go_wp2
  go_ret
  obtain ⟨os,eo⟩:=Lib.fin_at w (.cells Lib.zeros24 360) dk k 0;exact ⟨rfl,k,os,eo⟩
end
theorem b5a {O:Nat→Prop}{w:World}{v u:Value}{vs:Array Value}(hn:vs.size=2)(h:∀ (i:Nat) (x:D),[D.prim v,.prim u][i]? = some x→Rep nol O w x (vs.getD i undef)):vs = #[v,u]:=by
 match vs,hn with
 | ⟨[a,b]⟩,_ =>
  have h0:=h 0 _ rfl;have h1:=h 1 _ rfl;simp at h0 h1;cases h0;cases h1;rfl
theorem c5U (u:Nat)(hu:u<18446744073709551616):a0b C0 256 [.prim (.int .u64 (u:Int)),i64 10] (str ⟨(Lib.decDigits u).toArray⟩):=by
 refine ⟨⟨_,_,Tryz.func256,rfl,by kernel_rfl⟩,fun Y w vs hG hnG hX hvs hr=>?_⟩
 have:=b5a hvs hr
 subst this;refine (d5n u hu w hG).mono ?_;rintro e w' ⟨rfl,k,os,rfl⟩;exact ⟨_,_,rfl,Lib.below_grow _ _ (Nat.le_refl _) _ _,rfl,.prim _⟩
theorem c8I (u:Nat)(hu:u<18446744073709551616):a0b C0 223 [.prim (.int .u64 (u:Int)),i64 10] (str ⟨(Lib.decDigits u).toArray⟩):=by
 refine a0c.walk w1 c3w rfl fun F=>?_
 refine goI dr0 kB (c5U u hu) trivial trivial trivial trivial trivial ?_;exact a0a rfl IsPure.out
theorem rp0:a0b C0 224 [str ⟨#[48]⟩,i64 0] (str ⟨#[]⟩):=a0b.ev a3W 400 20 (by kernel_rfl)
theorem rp1:a0b C0 224 [str ⟨#[48]⟩,i64 1] (str ⟨#[48]⟩):=a0b.ev a3W 400 20 (by kernel_rfl)
theorem rp2:a0b C0 224 [str ⟨#[48]⟩,i64 2] (str ⟨#[48,48]⟩):=a0b.ev a3W 400 20 (by kernel_rfl)
theorem rp3:a0b C0 224 [str ⟨#[48]⟩,i64 3] (str ⟨#[48,48,48]⟩):=a0b.ev a3W 400 20 (by kernel_rfl)
theorem rp4:a0b C0 224 [str ⟨#[48]⟩,i64 4] (str ⟨#[48,48,48,48]⟩):=a0b.ev a3W 400 20 (by kernel_rfl)
theorem rp5:a0b C0 224 [str ⟨#[48]⟩,i64 5] (str ⟨#[48,48,48,48,48]⟩):=a0b.ev a3W 400 20 (by kernel_rfl)
theorem rp6:a0b C0 224 [str ⟨#[48]⟩,i64 6] (str ⟨#[48,48,48,48,48,48]⟩):=a0b.ev a3W 400 20 (by kernel_rfl)
theorem rp7:a0b C0 224 [str ⟨#[48]⟩,i64 7] (str ⟨#[48,48,48,48,48,48,48]⟩):=a0b.ev a3W 400 20 (by kernel_rfl)
theorem rp8:a0b C0 224 [str ⟨#[48]⟩,i64 8] (str ⟨#[48,48,48,48,48,48,48,48]⟩):=a0b.ev a3W 400 20 (by kernel_rfl)
theorem rp9:a0b C0 224 [str ⟨#[48]⟩,i64 9] (str ⟨#[48,48,48,48,48,48,48,48,48]⟩):=a0b.ev a3W 400 20 (by kernel_rfl)
theorem d5d:a0b C0 224 [str ⟨#[48]⟩,i64 10] (str ⟨#[48,48,48,48,48,48,48,48,48,48]⟩):=a0b.ev a3W 400 20 (by kernel_rfl)
theorem d4e:a0b C0 224 [str ⟨#[48]⟩,i64 11] (str ⟨#[48,48,48,48,48,48,48,48,48,48,48]⟩):=a0b.ev a3W 400 20 (by kernel_rfl)
theorem d5g:a0b C0 224 [str ⟨#[48]⟩,i64 12] (str ⟨#[48,48,48,48,48,48,48,48,48,48,48,48]⟩):=a0b.ev a3W 400 20 (by kernel_rfl)
theorem d5w:a0b C0 224 [str ⟨#[48]⟩,i64 13] (str ⟨#[48,48,48,48,48,48,48,48,48,48,48,48,48]⟩):=a0b.ev a3W 400 20 (by kernel_rfl)
theorem d5p:a0b C0 224 [str ⟨#[48]⟩,i64 14] (str ⟨#[48,48,48,48,48,48,48,48,48,48,48,48,48,48]⟩):=a0b.ev a3W 400 20 (by kernel_rfl)
theorem d5i:a0b C0 224 [str ⟨#[48]⟩,i64 15] (str ⟨#[48,48,48,48,48,48,48,48,48,48,48,48,48,48,48]⟩):=a0b.ev a3W 400 20 (by kernel_rfl)
theorem d4U:a0b C0 224 [str ⟨#[48]⟩,i64 16] (str ⟨#[48,48,48,48,48,48,48,48,48,48,48,48,48,48,48,48]⟩):=a0b.ev a3W 400 20 (by kernel_rfl)
theorem d5A:a0b C0 224 [str ⟨#[48]⟩,i64 17] (str ⟨#[48,48,48,48,48,48,48,48,48,48,48,48,48,48,48,48,48]⟩):=a0b.ev a3W 400 20 (by kernel_rfl)
theorem c5s (n:Nat)(h:n≤17):a0b C0 224 [str ⟨#[48]⟩,i64 (n:Int)] (str ⟨(List.replicate n 48).toArray⟩):=by
 match n,h with
 | 0,_=>exact rp0
 | 1,_=>exact rp1
 | 2,_=>exact rp2
 | 3,_=>exact rp3
 | 4,_=>exact rp4
 | 5,_=>exact rp5
 | 6,_=>exact rp6
 | 7,_=>exact rp7
 | 8,_=>exact rp8
 | 9,_=>exact rp9
 | 10,_=>exact d5d
 | 11,_=>exact d4e
 | 12,_=>exact d5g
 | 13,_=>exact d5w
 | 14,_=>exact d5p
 | 15,_=>exact d5i
 | 16,_=>exact d4U
 | 17,_=>exact d5A
 | n+18,h=>omega
set_option maxHeartbeats 8000000
def a5a (q r:Nat):List UInt8:=if q=0 then Lib.decDigits r else List.replicate (18 - (Lib.decDigits r).length) 48++Lib.decDigits r
theorem b4U:Lib.decDigits 0=[48]:=by unfold Lib.decDigits;rfl
theorem b1X (n:Nat):Lib.decDigits n≠[]:=(a1N n).2.2
theorem c1n (q r:Nat):a5a q r≠[]:=by
 unfold a5a;split
 ·exact b1X r
 ·intro h;exact b1X r (List.append_eq_nil_iff.1 h).2
theorem b9c {q r:Nat}(hq:q≠0):a5a q r=a2l 18 r []:=by
 unfold a5a a2l c4b;rw [if_neg hq]
 by_cases h:r=0
 ·subst h;rw [b4U,if_pos rfl];rfl
 ·rw [if_neg h,List.append_nil]
theorem c0V (B q r:Nat)(hB:B=10^18)(hr:r<B):Lib.decDigits (q*B+r)=if q=0 then a5a q r else Lib.decDigits q++a5a q r:=by
 by_cases hq:q=0
 ·subst hq;rw [if_pos rfl];unfold a5a;rw [if_pos rfl,Nat.zero_mul,Nat.zero_add]
 ·rw [if_neg hq,b9c hq,hB]
  exact b3t 18 q r hq (by rw [← hB];exact hr)
def a2Y (P:List (List UInt8)):List UInt8:=P.reverse.flatten
theorem a9G (P:List (List UInt8))(p:List UInt8):a2Y (P++[p])=p++a2Y P:=by unfold a2Y;simp
theorem b9p (a b:List UInt8):sb a++sb b=sb (a++b):=by
 apply ByteArray.ext;simp [ByteArray.data_append]
theorem b7g {P:List (List UInt8)}(h:∀ p∈P,p≠[]):P.length≤(a2Y P).length:=by
 unfold a2Y;rw [List.length_flatten,← List.length_reverse];generalize hQ:P.reverse=Q;have h':∀ p∈Q,p≠[]:=fun p hp=>h p (by rw [← hQ] at hp;exact List.mem_reverse.1 hp)
 clear hQ h
 induction Q with
 | nil=>exact Nat.le_refl _
 | cons a r ih =>
  have h1:=ih fun p hp=>h' p (List.mem_cons_of_mem _ hp)
  have h2:a.length≠0:=fun q=>h' a List.mem_cons_self (List.eq_nil_of_length_eq_zero q)
  rw [List.map_cons,List.sum_cons,List.length_cons];omega
structure a9g (n m:Nat)(P:List (List UInt8)):Prop where
 ne:m≠0→Lib.decDigits n=Lib.decDigits m++a2Y P
 eq:m=0→Lib.decDigits n=a2Y P
 all:∀ p∈P,p≠[]
 le:m≤n
theorem a9g.len {n m:Nat}{P:List (List UInt8)}(h:a9g n m P):P.length≤(Lib.decDigits n).length:=by
 have h1:=b7g h.all
 by_cases q:m=0
 ·rw [h.eq q];exact h1
 ·rw [h.ne q,List.length_append];omega
theorem a9g.step {n m:Nat}{P:List (List UInt8)}{B:Nat}(h:a9g n m P)(hm:m≠0)(hB:B=10^18):a9g n (m / B) (P++[a5a (m / B) (m%B)]):=by
 have hB0:0<B:=by rw [hB];decide
 have hd:=c0V B (m / B) (m%B) hB (Nat.mod_lt _ hB0);rw [show m / B*B+m%B=m by rw [Nat.mul_comm];exact Nat.div_add_mod m B] at hd;have hn:=h.ne hm;rw [hd] at hn;refine ⟨fun q=>?_,fun q=>?_,fun p hp=>?_,Nat.le_trans (Nat.div_le_self _ _) h.le⟩
 ·rw [if_neg q] at hn;rw [hn,a9G,List.append_assoc]
 ·rw [if_pos q] at hn;rw [hn,a9G]
 ·rcases List.mem_append.1 hp with hp|hp
  ·exact h.all p hp
  ·rw [List.mem_singleton] at hp;subst hp;exact c1n _ _
abbrev a2n (P:List (List UInt8)):List D:=P.map fun p=>str (sb p)
theorem a9Y (x : GI) (h : x.wf) (hf : x.few) : a0b C0 177 [x.D] (str (sb (Lib.itoa x.z))) := by
  refine a0c.walk w1 c2P rfl fun F => ?_
  obtain ⟨z, sm⟩ := x
  obtain ⟨h1, h2⟩ := h
  have hp := a2H ⟨z, sm⟩ ⟨h1, h2⟩
  dsimp only [GI.D, GI.few] at *
  cases sm with
  | true =>
    obtain ⟨h3, h4⟩ := h1 rfl
    have c : a0b C0 221 [i64 z] (str (sb (Lib.itoa z))) := b3y z h3 (by omega)
    unfold GI.s GI.w
    dsimp only
    refine goI dr0 kB c trivial trivial trivial trivial trivial ?_
    exact a0a rfl IsPure.out
  | false =>
    have hz := h2 rfl
    have hz0 : z.natAbs ≠ 0 := fun q => hz (by have : z = 0 := by omega
                                               subst this; exact a0E rfl)
    have hw : GI.w ⟨z, false⟩ = wD z.natAbs := rfl
    have hs : GI.s ⟨z, false⟩ = if z < 0 then -1 else 1 := rfl
    rw [hw] at hp ⊢
    obtain ⟨sg, hsg⟩ : ∃ s, GI.s ⟨z, false⟩ = s := ⟨_, rfl⟩
    rw [hsg] at hp ⊢
    obtain ⟨B, hB⟩ : ∃ B : Nat, B = 10 ^ 18 := ⟨_, rfl⟩
    have hB1 : B < BB := by rw [hB]; decide
    have hB0 : B ≠ 0 := by rw [hB]; decide
    have hB2 : 1 < B := by rw [hB]; decide
    have hBs : u64 1000000000000000000 = a0h B := by rw [hB]; rfl
    have hBl : a0e B = [B] := a3u hB0 hB1
    obtain ⟨n, hn⟩ : ∃ n, z.natAbs = n := ⟨_, rfl⟩
    obtain ⟨neg, hneg⟩ : ∃ b, decide (z < 0) = b := ⟨_, rfl⟩
    rw [hn] at hp hf hz0 ⊢
    rw [hneg] at hp
    have hit : Lib.itoa z = (if neg then [45] else []) ++ Lib.decDigits n := by
      unfold Lib.itoa
      by_cases q : z < 0
      · rw [if_pos q, ← hneg, decide_eq_true q, hn]; rfl
      · rw [if_neg q, ← hneg, decide_eq_false q, ← hn]
        have : z.toNat = z.natAbs := by omega
        rw [this]; rfl
    rw [hit]
    have hDL : (Lib.decDigits n).length ≤ 27 * 1000000 + 1 := a9o (k := 1000000) (by omega)
    have hmpos : ∀ m : Nat, m ≠ 0 → decide ((((a0e m).map a0h).length : Int) > 0) = true := fun m hm => decide_eq_true (by
      rw [a1f hm, List.map_cons, List.length_cons]; omega)
    have hm0 : decide ((((a0e 0).map a0h).length : Int) > 0) = false := decide_eq_false (by rw [a0N]; decide)
    obtain ⟨w0, ws, hws⟩ : ∃ a l, (a0e n).map a0h = a :: l := by
      cases hl : (a0e n).map a0h with
      | nil => exact absurd hl (a1U hz0)
      | cons a l => exact ⟨a, l, rfl⟩
    have hwD : wD n = .sl false 1 (w0 :: ws) := by unfold wD wL; rw [hws]
    have hbD : wD B = .sl false 1 [u64 1000000000000000000] := by unfold wD wL; rw [hBl, hBs]; rfl
    have pw : IsPure (.sl false 1 (w0 :: ws)) := by rw [← hwD]; exact inferInstance
    rw [hwD] at hp ⊢
    clear hit h1 h2 hz hs hsg
    have hne : (w0 :: ws ≠ []) = True := eq_true (List.cons_ne_nil _ _)
    refine goI dr0 hne hp trivial trivial trivial trivial trivial ?_
    rw [← hwD]
    refine OkS.loop (α := Nat × List (List UInt8) × Nat × Nat) (fun p => ⟨[(3, boo neg), (4, wD p.1), (5, wD B), (6, b0e 1303 p.2.2.1 1 (a2n p.2.1))], a8T 1303 p.2.2.1 9 1 (a2n p.2.1), p.2.2.2⟩) (fun p => p.1)
      (fun p => a9g n p.1 p.2.1) (n, [], 0, _) ⟨fun _ => by unfold a2Y; simp, fun q => absurd q hz0, fun p hp => absurd hp List.not_mem_nil, Nat.le_refl _⟩ (by refine ⟨.drop .nil, ⟨.refl _, .refl _, ?_, .refl _, trivial⟩, Nat.le_refl _⟩; dsimp only; rw [hbD]; exact .nn true 1 _) ?_
    rintro ⟨m, P, g, cnt⟩ F I
    dsimp only at I ⊢
    have hPl := I.len
    rcases Nat.decEq m 0 with hm | hm
    rotate_left
    · subst hm
      have hdn := I.eq rfl
      have hall := I.all
      have hLn : P.length ≤ 27000001 := by omega
      have hP0 : P ≠ [] := fun q => b1X n (by rw [hdn, q]; rfl)
      obtain ⟨N, hN⟩ : ∃ N, P.length = N := ⟨_, rfl⟩
      have hN0 : N ≠ 0 := fun q => hP0 (List.eq_nil_of_length_eq_zero (by omega))
      rw [hdn]
      clear hwD hbD pw hp hn hPl I
      have elP : (((a2n P).length : Nat) : Int) = (N : Int) := by rw [List.length_map, hN]
      have wN : IntKind.i64.wrap ((N : Int) - 1) = ((N : Int) - 1) := wI (by omega) (by omega)
      refine OkS.seq ?_
      refine sZ 600 ?_
      refine nwI hm0 ?_
      refine ifI ?_
      refine exI ?_
      refine OkS.weak ⟨[(3, boo neg), (6, .sl false 1 (a2n P))], [], _⟩ ⟨?_, ⟨.refl _, ?_, trivial⟩, Nat.le_refl _⟩ ?_
      · have := c4I (K := 1303) (g := g) (T := 9) (sz := 1) (l := a2n P) (r := []) (r' := []) (H := a8T 1303 g 9 1 (a2n P)) (Hf := []) .nil
        rwa [List.append_nil] at this
      · exact b9l _ _ _ _ _
      obtain ⟨c0, hc0⟩ : ∃ c, c = cnt + 1 + 1 + 1 := ⟨_, rfl⟩
      rw [← hc0]
      refine sR 1500 ?_
      obtain ⟨c1, hc1⟩ : ∃ c, c = c0 + 1 := ⟨_, rfl⟩
      refine OkS.seqX (α := D × Nat × Nat) (fun q => ⟨[(6, .sl false 1 (a2n P)), (10, .optr 1500 c0 2 0 0)], bH q.2.1 c0 q.1 (if neg then [45] else []) [], q.2.2⟩) (fun q => q.1 = .prim (.pointer none) ∨ q.1 = .optr 1500 c0 2 0 0) ?_ ?_
      · cases neg
        · refine goI dr0 kB trivial trivial trivial trivial trivial trivial ?_
          exact ⟨by trivial, (.prim (.pointer none), 0, _), .inl rfl, wkI⟩
        · refine goI dr0 kB trivial trivial trivial trivial trivial trivial ?_
          refine a0l.own _ (d3U c0 0 _ (.prim (.pointer none)) (.inl rfl) [] [45] (by decide) [] (by decide)) ?_
          rintro d H' n' ⟨⟨g', rfl⟩, hn'⟩
          refine stI ?_
          exact ⟨by trivial, (.optr 1500 c0 2 0 0, g', _), .inr rfl, wkI⟩
      rintro ⟨p0, gb0, c2⟩ hp0
      dsimp only at hp0 ⊢
      obtain ⟨pre, hpre⟩ : ∃ l, (if neg then [45] else [] : List UInt8) = l := ⟨_, rfl⟩
      have hpl : pre.length ≤ 1 := by rw [← hpre]; split <;> decide
      rw [hpre]
      refine goI dr0 (ff2 elP @wN) trivial trivial trivial trivial trivial trivial ?_
      refine OkS.loop (α := Nat × D × Nat × Nat) (fun q => ⟨[(6, .sl false 1 (a2n P)), (10, .optr 1500 c0 2 0 0), (11, i64 ((q.1 : Int) - 1))], bH q.2.2.1 c0 q.2.1 (pre ++ a2Y (P.drop q.1)) [], q.2.2.2⟩) (fun q => q.1)
        (fun q => q.1 ≤ N ∧ (q.2.1 = .prim (.pointer none) ∨ q.2.1 = .optr 1500 c0 2 0 0)) (N, p0, gb0, _) ⟨Nat.le_refl _, hp0⟩ (by dsimp only; rw [← hN, List.drop_length]; unfold a2Y; rw [List.reverse_nil, List.flatten_nil, List.append_nil]; exact wkI) ?_
      rintro ⟨k, p, gb, c3⟩ F ⟨hk, hp⟩
      dsimp only at hk hp ⊢
      have hjl : ∀ k, (a2Y (P.drop k)).length ≤ (a2Y P).length := fun k => by
        unfold a2Y
        conv => rhs; rw [← List.take_append_drop k P]
        rw [List.reverse_append, List.flatten_append, List.length_append]; omega
      have hjP : (a2Y P).length ≤ 27000001 := by rw [← hdn]; omega
      rcases Nat.eq_zero_or_pos k with hk0 | hk0
      · subst hk0
        have e1 : decide ((((0 : Nat) : Int) - 1) ≥ 0) = false := by decide
        rw [List.drop_zero]
        have hL : pre ++ a2Y P ≠ [] := fun q => by
          have := (List.append_eq_nil_iff.1 q).2
          rw [← hdn] at this; exact b1X n this
        obtain ⟨L, hLL⟩ : ∃ L, pre ++ a2Y P = L := ⟨_, rfl⟩
        rw [hLL] at hL ⊢
        obtain ⟨y, r, hy⟩ := b3V hL
        have hlr : L.length = r.length + 1 := by rw [← a4d, hy]; rfl
        refine goI dr0 e1 trivial trivial trivial trivial trivial trivial ?_
        refine a0l.own _ (by
          have := fun n => d2g c0 gb n L hL p []
          unfold bH
          simp only [hy, hlr] at this ⊢
          exact this _) ?_
        rintro d H' n' ⟨rfl, rfl, rfl⟩
        refine goI dr0 kB trivial trivial trivial trivial trivial trivial ?_
        exact a0a rfl IsPure.out
      · obtain ⟨k', rfl⟩ : ∃ k', k = k' + 1 := ⟨k - 1, by omega⟩
        have e1 : decide ((((k' + 1 : Nat) : Int) - 1) ≥ 0) = true := decide_eq_true (by omega)
        have e2 : (((k' + 1 : Nat) : Int) - 1) = (k' : Int) := by omega
        have wk : IntKind.i64.wrap ((k' : Int) - 1) = ((k' : Int) - 1) := wI (by omega) (by omega)
        have e3 : decide ((k' : Int) ≥ 0) = true := decide_eq_true (by omega)
        obtain ⟨t, ht⟩ : ∃ t, P[k']? = some t := a1w (by omega)
        have hm : (a2n P)[k']? = some (str (sb t)) := by rw [List.getElem?_map, ht]; rfl
        have htn := hall t (List.mem_of_getElem? ht)
        have hdr : P.drop k' = t :: P.drop (k' + 1) := by
          rw [List.drop_eq_getElem_cons (List.getElem?_eq_some_iff.1 ht).1, (List.getElem?_eq_some_iff.1 ht).2]
        have hj : pre ++ a2Y (P.drop k') = pre ++ a2Y (P.drop (k' + 1)) ++ t := by
          rw [hdr, List.append_assoc]
          congr 1
          unfold a2Y
          rw [List.reverse_cons, List.flatten_append]; simp
        have hlt : (pre ++ a2Y (P.drop (k' + 1))).length + t.length ≤ 100000000 := by
          have h1 := hjl k'
          have h2 : (pre ++ a2Y (P.drop k')).length = (pre ++ a2Y (P.drop (k' + 1))).length + t.length := by rw [hj, List.length_append]
          rw [← h2, List.length_append]; omega
        rw [e2]
        refine goI dr0 (ff2 e3 kN) hm trivial trivial trivial trivial trivial ?_
        refine a0l.own _ (d3U c0 gb _ p hp (pre ++ a2Y (P.drop (k' + 1))) t htn [] hlt) ?_
        rintro d H' n' ⟨⟨g', rfl⟩, hn'⟩
        refine stI ?_
        refine goI dr0 wk trivial trivial trivial trivial trivial trivial ?_
        exact ⟨(k', .optr 1500 c0 2 0 0, g', _), ⟨by dsimp only; omega, .inr rfl⟩, by dsimp only; omega, by (dsimp only; rw [hj]; exact wkI)⟩
    have e1 := hmpos m hm
    have c1 := d3R m B hB0 (Nat.lt_of_le_of_lt (a0C m n I.le) hf) (by rw [hBl]; show 1 < 1000000; decide)
    have I2 := I.step hm hB
    obtain ⟨q, hq⟩ : ∃ q, m / B = q := ⟨_, rfl⟩
    obtain ⟨r, hr⟩ : ∃ q, m % B = q := ⟨_, rfl⟩
    have hqm : q < m := by rw [← hq]; exact Nat.div_lt_self (Nat.pos_of_ne_zero hm) hB2
    have hrB : r < B := by rw [← hr]; exact Nat.mod_lt _ (Nat.pos_of_ne_zero hB0)
    rw [hq, hr] at c1 I2
    have hsz := a0v (Lib.decDigits r)
    have hdl : (Lib.decDigits r).length ≤ 18 := a1x 17 r (by rw [hB] at hrB; exact hrB)
    have hdl1 : (Lib.decDigits r).length ≠ 0 := fun h => b1X r (List.eq_nil_of_length_eq_zero h)
    refine goI dr0 e1 trivial trivial trivial trivial trivial trivial ?_
    refine cI c1 ?_
    refine sR 800 ?_
    refine OkS.seqX (α := Nat) (fun cnt => ⟨[(3, boo neg), (5, wD B), (6, b0e 1303 g 1 (a2n P)), (7, wD q), (9, str (sb (Lib.decDigits r)))], a8T 1303 g 9 1 (a2n P), cnt⟩) (fun _ => True) ?_ ?_
    · rcases Nat.decEq r 0 with h0 | h0
      · have e2 := hmpos r h0
        have hl1 : a0e r = [r] := a3u h0 (Nat.lt_trans hrB hB1)
        have hmm : ((a0e r).map a0h)[0]? = some (u64 (r : Int)) := by rw [hl1]; rfl
        have c2 := c8I r (Nat.lt_trans hrB hB1)
        refine goI dr0 e2 hmm c2 trivial trivial trivial trivial ?_
        exact ⟨by trivial, _, trivial, wkI⟩
      · subst h0
        rw [b4U]
        refine goI dr0 hm0 trivial trivial trivial trivial trivial trivial ?_
        exact ⟨by trivial, _, trivial, wkI⟩
    rintro cnt2 -
    refine OkS.seqX (α := Nat) (fun cnt => ⟨[(3, boo neg), (5, wD B), (6, b0e 1303 g 1 (a2n P)), (7, wD q), (9, str (sb (a5a q r)))], a8T 1303 g 9 1 (a2n P), cnt⟩) (fun _ => True) ?_ ?_
    · rcases Nat.decEq q 0 with h0 | h0
      · have e2 := hmpos q h0
        have c2 : a0b C0 224 [str ⟨#[48]⟩, i64 ((18 - (Lib.decDigits r).length : Nat) : Int)] (str (sb (List.replicate (18 - (Lib.decDigits r).length) 48))) := c5s (18 - (Lib.decDigits r).length) (by omega)
        have w18 : IntKind.i64.wrap (18 - ((Lib.decDigits r).length : Int)) = ((18 - (Lib.decDigits r).length : Nat) : Int) := by rw [wI (by omega) (by omega)]; omega
        have hap := b9p (List.replicate (18 - (Lib.decDigits r).length) 48) (Lib.decDigits r)
        have hsz2 := a0v (List.replicate (18 - (Lib.decDigits r).length) 48)
        have hpt : List.replicate (18 - (Lib.decDigits r).length) 48 ++ Lib.decDigits r = a5a q r := by unfold a5a; rw [if_neg h0]
        rw [hpt] at hap
        have hsize : (sb (List.replicate (18 - (Lib.decDigits r).length) 48)).size + (sb (Lib.decDigits r)).size ≤ 9223372036854775807 := by
          rw [hsz, hsz2, List.length_replicate]; omega
        refine goI dr0 (ff4 e2 hsz w18 hap) c2 trivial trivial trivial trivial trivial ?_
        exact ⟨by trivial, _, trivial, wkI⟩
      · subst h0
        have hpt : a5a 0 r = Lib.decDigits r := if_pos rfl
        rw [hpt]
        refine goI dr0 hm0 trivial trivial trivial trivial trivial trivial ?_
        exact ⟨by trivial, _, trivial, wkI⟩
    rintro cnt3 -
    have hsn : a2n (P ++ [a5a q r]) = a2n P ++ [str (sb (a5a q r))] := by unfold a2n; rw [List.map_append]; rfl
    have hPL : (a2n P).length = P.length := List.length_map ..
    rcases hPD : a2n P with _ | ⟨y, l⟩
    all_goals
      rw [hPD] at hsn hPL
      dsimp only [a5B, a5C, a4v, a4o, List.nil_append]
    · refine goI dr0 kB trivial trivial trivial trivial trivial trivial ?_
      exact ⟨(q, P ++ [a5a q r], _, _), I2, hqm, by (dsimp only; rw [hsn]; exact wkI)⟩
    · have htk : List.take (l.length + 1) (y :: l) = y :: l := by simp
      have hll : l.length + 1 ≤ 27000001 := by rw [List.length_cons] at hPL; omega
      refine goI dr0 htk trivial trivial trivial trivial trivial trivial ?_
      exact ⟨(q, P ++ [a5a q r], _, _), I2, hqm, by (dsimp only; rw [hsn, a4e]; exact wkI)⟩
abbrev b3D:Dr:=[(3,[0,1,2,3,4,5,6],[7,8])]
open Go.Proofs Go.RowKit
set_option maxRecDepth 20000
set_option maxHeartbeats 4000000
theorem c1b (x:Nat)(hx:x<BB):a0b C0 261 [a0h x] (i64 (Lib.bitLen x:Int)):=by
 refine ⟨⟨_,_,Tryz.func261,rfl,by kernel_rfl⟩,fun Y w vs hG hnG hX hvs hr=>?_⟩
 have:=a7p hvs hr
 subst this;refine (Tryz.bits_Len64 x w (by omega) (by unfold BB at hx;omega)).mono ?_;rintro e w' ⟨rfl,rfl⟩;exact ⟨_,_,rfl,.refl _ _,rfl,.prim _⟩
def a9X (n:Nat):Nat:=(a0e n).getD ((a0e n).length - 1) 0
def a7Z (n:Nat):Nat:=if n=0 then 0 else 64*((a0e n).length - 1)+Lib.bitLen (a9X n)
theorem c4V (n:Nat):n<2^a7Z n:=by
 unfold a7Z
 by_cases h:n=0
 ·subst h;rw [if_pos rfl];decide
 ·rw [if_neg h]
  have hl:(a0e n).length≠0:=fun q=>by
   have:=a1f h
   rw [this] at q;simp at q
  obtain ⟨k,hk⟩:∃ k,(a0e n).length=k+1:=⟨(a0e n).length - 1,by omega⟩
  have hat:(a0e n)[k]? = some (a9X n):=by
   unfold a9X;rw [hk,Nat.add_sub_cancel,List.getD_eq_getElem?_getD,List.getElem?_eq_getElem (by omega)];rfl
  have hv:=a4B hat;rw [List.drop_of_length_le (by omega),a0L] at hv;have ht:a9X n<BB:=a1k n _ (List.mem_of_getElem? hat);have h1:a0i ((a0e n).take k)<BB^k:=by
   have:=a2C (l:=(a0e n).take k) fun a ha=>a1k n a (List.mem_of_mem_take ha)
   rwa [List.length_take,Nat.min_eq_left (by omega)] at this
  have h2:a9X n<2^Lib.bitLen (a9X n):=by
   by_cases t0:a9X n=0
   ·rw [t0];exact Nat.two_pow_pos _
   ·exact (Lib.bitLenAux_bounds 64 (a9X n) ht t0).2.2
  have h3:BB^k=2^(64*k):=by rw [Nat.pow_mul]
  rw [hk,Nat.add_sub_cancel,Nat.pow_add,← h3];have h4:n=a0i ((a0e n).take k)+BB^k*a9X n:=by simpa [a0i] using hv
  have h5:BB^k*(a9X n+1)≤BB^k*2^Lib.bitLen (a9X n):=Nat.mul_le_mul_left _ h2;rw [Nat.mul_add,Nat.mul_one] at h5;omega
def b0F (n:Nat):Bool:=decide (600<(Lib.decDigits n).length)
theorem b8A (n:Nat):b0F n=(decide (a7Z n>1800)&&b0F n):=by
 by_cases h:a7Z n>1800
 ·rw [decide_eq_true h,Bool.true_and]
 ·rw [decide_eq_false h,Bool.false_and]
  have key:∀ k,a7Z n≤3*(k+1)→(Lib.decDigits n).length≤k+1:=fun k hk=>a1x k n (Nat.lt_of_lt_of_le (c4V n) (Nat.le_trans (Nat.pow_le_pow_right (by decide) hk) (by rw [Nat.pow_mul];exact Nat.pow_le_pow_left (by decide) (k+1))))
  have h4:=key 599 (by omega);exact decide_eq_false (by omega)
theorem c7n (x:GI)(h:x.wf)(hf:x.few):a0b C0 230 [x.D] (i64 (a7Z x.z.natAbs:Nat)):=by
 refine a0c.walk w1 c2C rfl fun F=>?_
 have c1:=a2H x h;obtain ⟨n,hn⟩:∃ n,x.z.natAbs=n:=⟨_,rfl⟩
 unfold GI.few at hf;rw [hn] at c1 hf ⊢;have el:((((a0e n).map a0h).length:Nat):Int)=((a0e n).length:Int):=by rw [List.length_map]
 unfold wD wL at c1;dsimp only [GI.D] at c1 ⊢
 by_cases h0:n=0
 ·have e1:(((a0e n).length:Int)==0)=true:=by rw [h0,a0N];rfl
  have hb:a7Z n=0:=if_pos h0;rw [hb];refine goI dr0 (ff2 e1 el) c1 trivial trivial trivial trivial trivial ?_;exact a0a rfl IsPure.out
 ·have hl:(a0e n).length≠0:=fun q=>by
   have:=a1f h0
   rw [this] at q;simp at q
  have e1:(((a0e n).length:Int)==0)=false:=c9O hl;have wl:IntKind.i64.wrap (((a0e n).length:Int) - 1)=(((a0e n).length - 1:Nat):Int):=by rw [wI (by omega) (by omega)];omega
  have wm:IntKind.i64.wrap (64*(((a0e n).length - 1:Nat):Int))=((64*((a0e n).length - 1):Nat):Int):=by rw [wI (by omega) (by omega)];omega
  have hat:(a0e n)[(a0e n).length - 1]? = some (a9X n):=by
   unfold a9X;rw [List.getD_eq_getElem?_getD,List.getElem?_eq_getElem (by omega)];rfl
  have hm:((a0e n).map a0h)[(a0e n).length - 1]? = some (u64 (a9X n:Int)):=by rw [List.getElem?_map,hat];rfl
  have ht:a9X n<BB:=a1k n _ (List.mem_of_getElem? hat);have c2:=c1b (a9X n) ht;have hbl:=Lib.bitLen_le (a9X n) 64 (Nat.le_refl _) ht;have wa:IntKind.i64.wrap (((64*((a0e n).length - 1):Nat):Int)+(Lib.bitLen (a9X n):Int))=((a7Z n:Nat):Int):=by
   have hb:a7Z n=64*((a0e n).length - 1)+Lib.bitLen (a9X n):=if_neg h0;rw [hb,wI (by omega) (by omega)];omega
  refine goI dr0 (ff6 e1 el wl wm wa kN) c1 hm c2 trivial trivial trivial ?_;exact a0a rfl IsPure.out
theorem c2U (x:GI)(h:x.wf)(hf:x.few):a0b C0 191 [x.D] (boo (b0F x.z.natAbs)):=by
 refine a0c.walk w1 c3q rfl fun F=>?_
 have c1:=c7n x h hf;have c2:=a9Y x h hf;have hlen:(Lib.decDigits x.z.natAbs).length≤27*1000000+1:=a9o (k:=1000000) (by unfold GI.few at hf;omega);have hil:(Lib.itoa x.z).length≤27000002:=by
  unfold Lib.itoa;split
  ·rw [List.length_cons];omega
  ·rw [show x.z.toNat=x.z.natAbs by omega];omega
 have c3:=a3O (Lib.itoa x.z) (by omega);rw [(a5O x.z).2] at c3;have hsz:=a0v (Lib.decDigits x.z.natAbs);have hlb:=b8A x.z.natAbs;obtain ⟨b,hb⟩:∃ b,b0F x.z.natAbs=b:=⟨_,rfl⟩
 have e2:decide (((Lib.decDigits x.z.natAbs).length:Int)>600)=b:=by rw [← hb];exact decide_eq_decide.2 (by omega)
 obtain ⟨p,hp⟩:∃ b,decide (a7Z x.z.natAbs>1800)=b:=⟨_,rfl⟩
 have e1:decide (((a7Z x.z.natAbs:Nat):Int)>1800)=p:=by rw [← hp];exact decide_eq_decide.2 (by omega)
 rw [hb,hp] at hlb;rw [hb,hlb];dsimp only [GI.D] at c1 c2 ⊢;cases p
 ·refine goI dr0 e1 c1 trivial trivial trivial trivial trivial ?_
  exact a0a rfl IsPure.out
 ·refine goI dr0 (ff3 e1 e2 hsz) c1 c2 c3 trivial trivial trivial ?_
  exact a0a rfl IsPure.out
theorem c1E {r:Rat}{x:GF}{k:Nat}(h:FR r x k)(hk:k<100000):x.n.wf∧x.n.few∧(mkG (x.d:Int)).wf∧(mkG (x.d:Int)).few∧x.n.z=r.num∧x.d=r.den∧0<x.d :=
 ⟨h.is.1,h.fn (by omega),a0I _,by
  show (a0e ((x.d:Int)).natAbs).length<1000000;rw [Int.natAbs_natCast];have:=h.ld;omega,h.is.2.1,h.is.2.2,h.dpos⟩
theorem c4v {r:Rat}{x:GF}{k:Nat}(h:FR r x k)(hk:k<100000):a0b C0 125 [x.D] (boo (b9K r)):=by
 refine a0c.walk w1 c1W rfl fun F=>?_
 obtain ⟨h1,h2,h3,h4,h5,h6,_⟩:=c1E h hk;have c1:=c2U x.n h1 h2;have c2:=c2U (mkG (x.d:Int)) h3 h4;have hb:b9K r=(b0F x.n.z.natAbs||b0F (mkG (x.d:Int)).z.natAbs):=by
  unfold b9K b0F;rw [h5,← h6];rfl
 rw [hb];obtain ⟨p,hp⟩:∃ b,b0F x.n.z.natAbs=b:=⟨_,rfl⟩
 obtain ⟨q,hq⟩:∃ b,b0F (mkG (x.d:Int)).z.natAbs=b:=⟨_,rfl⟩
 rw [hp] at c1;rw [hq] at c2;rw [hp,hq];dsimp only [GI.D,GF.D] at c1 c2 ⊢;generalize mkG (x.d:Int)=y at c2 ⊢;cases p<;>cases q
 all_goals
  refine goI dr0 kB c1 c2 trivial trivial trivial trivial ?_;exact a0a rfl IsPure.out
theorem c7D {r:Rat}{x:GF}{k:Nat}(h:FR r x k)(hk:k<100000):a0b C0 111 [x.D] (str (sb (txt r))):=by
 refine a0c.walk w1 c3t rfl fun F=>?_
 obtain ⟨h1,h2,h3,h4,h5,h6,h7⟩:=c1E h hk;have c0:=a8l x h7;have c1:=a9Y x.n h1 h2;have c2:=a9Y (mkG (x.d:Int)) h3 h4;have hd:Lib.itoa (mkG (x.d:Int)).z=Lib.decDigits r.den:=by
  show Lib.itoa (x.d:Int)=_;unfold Lib.itoa;rw [if_neg (by omega),h6];rfl
 rw [hd] at c2;rw [h5] at c1;have l1:(Lib.itoa r.num).length≤27000002:=by
  have:(Lib.decDigits x.n.z.natAbs).length≤27*1000000+1:=a9o (k:=1000000) (by unfold GI.few at h2;omega)
  rw [h5] at this;unfold Lib.itoa;split
  ·rw [List.length_cons];omega
  ·rw [show r.num.toNat=r.num.natAbs by omega];omega
 have l2:(Lib.decDigits r.den).length≤27000001:=by
  have:(Lib.decDigits (mkG (x.d:Int)).z.natAbs).length≤27*1000000+1:=a9o (k:=1000000) (by unfold GI.few at h4;omega)
  rw [← h6];exact this
 have s1:=a0v (Lib.itoa r.num);have s2:=a0v (Lib.decDigits r.den);have s3:(sb [47]).size=1:=rfl;have s4:=a0v (Lib.itoa r.num++[47]);have z1:(sb (Lib.itoa r.num)).size+(sb [47]).size≤9223372036854775807:=by rw [s1,s3];omega
 have z2:(sb (Lib.itoa r.num++[47])).size+(sb (Lib.decDigits r.den)).size≤9223372036854775807:=by rw [s4,s2,List.length_append,List.length_singleton];omega
 have a1:sb (Lib.itoa r.num)++(⟨#[47]⟩:ByteArray)=sb (Lib.itoa r.num++[47]):=b9p _ [47];have a2:=b9p (Lib.itoa r.num++[47]) (Lib.decDigits r.den);rw [List.append_assoc] at a2;dsimp only [GI.D,GF.D] at c0 c1 c2 ⊢;generalize mkG (x.d:Int)=y at c0 c2 ⊢;unfold txt
 by_cases g:x.d=1
 ·rw [decide_eq_true g] at c0
  rw [if_pos (h6 ▸ g)];refine goI b3D kB c0 c1 trivial trivial trivial trivial ?_;exact a0a rfl IsPure.out
 ·rw [decide_eq_false g] at c0
  rw [if_neg (fun q=>g (h6.trans q))];refine goI b3D (ff2 a1 a2) c0 c1 c2 trivial trivial trivial ?_;exact a0a rfl IsPure.out
set_option maxHeartbeats 4000000
theorem d4f:a0b C0 57 [i64 0] (⟨mkG 0,1⟩:GF).D:=d3n 0
def b3x (r:Rat):List UInt8:=if b9K r=true then [] else txt r
def b2S (r:Rat):Nat:=if b9K r=true then 4 else 0
theorem c4G {r:Rat}{x:GF}{k:Nat}(h:FR r x k)(hk:k<100000):a0b C0 62 [x.D] (.tup [str (sb (b3x r)),i64 (b2S r:Nat)]):=by
 refine a0c.walk w1 c7T rfl fun F=>?_
 have c1:=c4v h hk;have c2:=c7D h hk;unfold b3x b2S;obtain ⟨b,hb⟩:∃ b,b9K r=b:=⟨_,rfl⟩
 rw [hb] at c1 ⊢;cases b
 all_goals
  refine goI dr0 kB c1 c2 trivial trivial trivial trivial ?_;exact a0a rfl IsPure.out
theorem b4M {l:List UInt8}(h:chk l=0)(h4:l.length≤40):FR (a0D l) (a5G l) 3:=⟨(a8t h).is,rk3 h h4⟩
set_option maxHeartbeats 8000000
theorem a2G {l:List UInt8}(h:chk l=0):rR (a0D l)=str (sb l):=by unfold rR;rw [(a4h h).2.2.1]
def t12 (l:List UInt8):Bool:=decide (l.length≤12)
def f12 (f:c3U):Bool:=t12 f.tol&&t12 f.step
set_option maxHeartbeats 4000000
theorem d0F {n:GI}{k:Nat}(h:n.wf)(hk:1≤k)(hl:(a0e n.z.natAbs).length≤k):FR (n.z:Rat) ⟨n,1⟩ k:=by
 refine ⟨⟨h,(Rat.num_intCast _).symm,(Rat.den_intCast _).symm⟩,?_⟩;unfold rk;rw [Rat.num_intCast,Rat.den_intCast];exact ⟨hl,Nat.le_trans (a0J (n:=1) (k:=1) (by decide)) hk⟩
theorem c9J {a b:Rat}:a4z a b<0↔a<b:=by
 unfold a4z;split
 ·rename_i h;exact ⟨fun _=>h,fun _=>by decide⟩
 ·rename_i h
  split
  ·exact ⟨fun k=>absurd k (by decide),fun k=>absurd k h⟩
  ·exact ⟨fun k=>absurd k (by decide),fun k=>absurd k h⟩
theorem b0d {a b:Rat}:a4z a b>0↔b<a:=by
 unfold a4z;split
 ·rename_i h;exact ⟨fun k=>absurd k (by decide),fun k=>by grind⟩
 ·split
  ·rename_i h;exact ⟨fun _=>h,fun _=>by decide⟩
  ·rename_i h;exact ⟨fun k=>absurd k (by decide),fun k=>absurd k h⟩
theorem c5A {a b:Rat}:¬ a4z a b>0↔a≤b:=by rw [b0d];exact Rat.not_lt
theorem c7F {r:Rat}(h:0≤a6Y r):0≤r:=by
 unfold a6Y at h;exact Rat.num_nonneg.1 (by omega)
abbrev Pnt:=Rat × Rat
def d2 (a p:Pnt):Rat:=(a.1 - p.1)*(a.1 - p.1)+(a.2 - p.2)*(a.2 - p.2)
def a0U (a:Pnt):List Pnt→Rat→Rat
 | [],m=>m
 | p::P,m=>a0U a P (if d2 a p<m then d2 a p else m)
def pt (P:List Pnt)(i:Nat):Pnt:=P.getD i (0,0)
def a8O (P:List Pnt)(a:Pnt):Rat:=a0U a P (d2 a (pt P 0))
theorem a7w (a:Pnt):∀ (P:List Pnt) (m:Rat),a0U a P m≤m∧∀ p∈P,a0U a P m≤d2 a p
 | [],m=>⟨Rat.le_refl,fun p hp=>by cases hp⟩
 | q::P,m=>by
  obtain ⟨h1,h2⟩:=a7w a P (if d2 a q<m then d2 a q else m);have h3:(if d2 a q<m then d2 a q else m)≤m∧(if d2 a q<m then d2 a q else m)≤d2 a q:=by
   split
   ·exact ⟨Rat.le_of_lt ‹_›,Rat.le_refl⟩
   ·exact ⟨Rat.le_refl,Rat.not_lt.1 ‹_›⟩
  refine ⟨Rat.le_trans h1 h3.1,fun p hp=>?_⟩;rcases List.mem_cons.1 hp with rfl|hp
  ·exact Rat.le_trans h1 h3.2
  ·exact h2 p hp
theorem b0a (a:Pnt):∀ (P:List Pnt) (m:Rat),a0U a P m=m∨∃ p∈P,a0U a P m=d2 a p
 | [],m=>.inl rfl
 | q::P,m=>by
  rcases b0a a P (if d2 a q<m then d2 a q else m) with h|⟨p,hp,h⟩
  ·unfold a0U
   rw [h];split
   ·exact .inr ⟨q,List.mem_cons_self,rfl⟩
   ·exact .inl rfl
  ·exact .inr ⟨p,List.mem_cons_of_mem _ hp,h⟩
theorem a9D {P:List Pnt}{i:Nat}(h:i<P.length):pt P i∈P:=by
 unfold pt;rw [List.getD_eq_getElem?_getD,List.getElem?_eq_getElem h];exact List.getElem_mem h
theorem c8r {P:List Pnt}{i:Nat}{p:Pnt}(h:P[i]? = some p):pt P i=p:=by
 unfold pt;rw [List.getD_eq_getElem?_getD,h];rfl
theorem b2A {P:List Pnt}(h:0<P.length)(a:Pnt):(∃ p∈P,a8O P a=d2 a p)∧∀ p∈P,a8O P a≤d2 a p:=by
 refine ⟨?_,(a7w a P _).2⟩;rcases b0a a P (d2 a (pt P 0)) with q|⟨p,hp,q⟩
 ·exact ⟨_,a9D h,q⟩
 ·exact ⟨p,hp,q⟩
theorem b1c {P:List Pnt}{p:Pnt}(hp:p∈P)(a:Pnt):a0U a P (d2 a p)=a8O P a:=by
 have hl:0<P.length:=List.length_pos_of_mem hp;obtain ⟨⟨q,hq,e⟩,h⟩:=b2A hl a;refine Rat.le_antisymm ?_ ?_
 ·rw [e];exact (a7w a P _).2 q hq
 ·rcases b0a a P (d2 a p) with k|⟨s,hs,k⟩
  ·rw [k];exact h p hp
  ·rw [k];exact h s hs
theorem c2e (x:Rat):0≤x*x:=by
 rcases (Rat.le_total:0≤x∨x≤0) with h|h
 ·exact Rat.mul_nonneg h h
 ·have:=Rat.mul_nonneg (show 0≤-x by grind) (show 0≤-x by grind)
  grind
theorem c7g (a p:Pnt):0≤d2 a p:=by
 have h1:=c2e (a.1 - p.1);have h2:=c2e (a.2 - p.2);unfold d2;grind
def inR (w h:Rat)(z:Pnt):Bool:=decide (0≤z.1)&&(decide (0≤z.2)&&(decide (z.1≤w)&&decide (z.2≤h)))
theorem b6n {w h:Rat}{z:Pnt}:inR w h z=true↔0≤z.1∧0≤z.2∧z.1≤w∧z.2≤h:=by
 unfold inR;simp only [Bool.and_eq_true,decide_eq_true_eq]
def a3A (P:List Pnt)(w h:Rat)(r:Rat)(z:Pnt):Rat:=if inR w h z=true∧r<a8O P z then a8O P z else r
def b2w (P:List Pnt)(w h:Rat)(l:List Pnt):Rat:=l.foldl (a3A P w h) 0
theorem b8D (P:List Pnt)(w h:Rat)(l:List Pnt)(z:Pnt):b2w P w h (l++[z])=a3A P w h (b2w P w h l) z:=by
 unfold b2w;rw [List.foldl_append];rfl
theorem b4z {P:List Pnt}{w h:Rat}:∀ (l:List Pnt) (r:Rat),r≤l.foldl (a3A P w h) r∧(∀ z∈l,inR w h z=true→a8O P z≤l.foldl (a3A P w h) r)∧(l.foldl (a3A P w h) r=r∨∃ z∈l,inR w h z=true∧l.foldl (a3A P w h) r=a8O P z)
 | [],r=>⟨Rat.le_refl,fun z hz=>(by cases hz),.inl rfl⟩
 | a::l,r=>by
  obtain ⟨h1,h2,h3⟩:=b4z (P:=P) (w:=w) (h:=h) l (a3A P w h r a);rw [List.foldl_cons];have k1:r≤a3A P w h r a:=by unfold a3A;split;exact Rat.le_of_lt ‹_∧_›.2;exact Rat.le_refl
  have k2:inR w h a=true→a8O P a≤a3A P w h r a:=fun q=>by
   unfold a3A;split
   ·exact Rat.le_refl
   ·rename_i n;exact Rat.not_lt.1 fun s=>n ⟨q,s⟩
  refine ⟨Rat.le_trans k1 h1,fun z hz q=>?_,?_⟩
  ·rcases List.mem_cons.1 hz with rfl|hz
   ·exact Rat.le_trans (k2 q) h1
   ·exact h2 z hz q
  ·rcases h3 with h3|⟨z,hz,q,e⟩
   ·rw [h3]
    unfold a3A;split
    ·rename_i q;exact .inr ⟨a,List.mem_cons_self,q.1,rfl⟩
    ·exact .inl rfl
   ·exact .inr ⟨z,List.mem_cons_of_mem _ hz,q,e⟩
theorem b9d (P:List Pnt)(w h:Rat)(l:List Pnt):0≤b2w P w h l∧(∀ z∈l,inR w h z=true→a8O P z≤b2w P w h l)∧(b2w P w h l=0∨∃ z∈l,inR w h z=true∧b2w P w h l=a8O P z):=b4z l 0
def bA (p q:Pnt):Rat:=2*(q.1 - p.1)
def bB (p q:Pnt):Rat:=2*(q.2 - p.2)
def bC (p q:Pnt):Rat:=q.1*q.1+q.2*q.2 - (p.1*p.1+p.2*p.2)
def b1P (p q:Pnt)(x:Rat):List Pnt:=if bB p q=0 then [] else [(x,(bC p q - bA p q*x) / bB p q)]
def b2o (p q:Pnt)(y:Rat):List Pnt:=if bA p q=0 then [] else [((bC p q - bB p q*y) / bA p q,y)]
def a7h (p q s:Pnt):Rat:=bA p q*bB s q - bB p q*bA s q
def b5q (p q s:Pnt):List Pnt:=if a7h p q s=0 then [] else [((bC p q*bB s q - bB p q*bC s q) / a7h p q s,(bA p q*bC s q - bC p q*bA s q) / a7h p q s)]
def a4m (p q:Pnt)(w h:Rat):List Pnt:=b1P p q 0++b1P p q w++b2o p q 0++b2o p q h
def a3R (P:List Pnt)(i k:Nat):Nat→List Pnt
 | 0=>[]
 | j+1=>a3R P i k j++b5q (pt P k) (pt P i) (pt P j)
def a3s (P:List Pnt)(w h:Rat)(i:Nat):Nat→List Pnt
 | 0=>[]
 | k+1=>a3s P w h i k++(a4m (pt P k) (pt P i) w h++a3R P i k k)
def a1m (P:List Pnt)(w h:Rat):Nat→List Pnt
 | 0=>[(0,0),(0,h),(w,0),(w,h)]
 | i+1=>a1m P w h i++a3s P w h i i
def a3U (P:List Pnt)(w h:Rat):List Pnt:=a1m P w h P.length
def b0V (P:List Pnt)(w h:Rat):Rat:=b2w P w h (a3U P w h)
theorem b1D {P:List Pnt}{i k:Nat}{z:Pnt}:∀ n,z∈a3R P i k n↔∃ j,j<n∧z∈b5q (pt P k) (pt P i) (pt P j)
 | 0=>⟨fun h=>(by cases h),fun ⟨j,h,_⟩=>absurd h (Nat.not_lt_zero j)⟩
 | n+1=>by
  unfold a3R;rw [List.mem_append,b1D n];constructor
  ·rintro (⟨j,h1,h2⟩|h)
   ·exact ⟨j,by omega,h2⟩
   ·exact ⟨n,by omega,h⟩
  ·rintro ⟨j,h1,h2⟩
   rcases Nat.lt_or_ge j n with q|q
   ·exact .inl ⟨j,q,h2⟩
   ·have:j=n:=by omega
    subst this;exact .inr h2
theorem b3F {P:List Pnt}{w h:Rat}{i:Nat}{z:Pnt}:∀ n,z∈a3s P w h i n↔∃ k,k<n∧(z∈a4m (pt P k) (pt P i) w h∨z∈a3R P i k k)
 | 0=>⟨fun h=>(by cases h),fun ⟨j,h,_⟩=>absurd h (Nat.not_lt_zero j)⟩
 | n+1=>by
  unfold a3s;rw [List.mem_append,b3F n,List.mem_append];constructor
  ·rintro (⟨j,h1,h2⟩|h)
   ·exact ⟨j,by omega,h2⟩
   ·exact ⟨n,by omega,h⟩
  ·rintro ⟨j,h1,h2⟩
   rcases Nat.lt_or_ge j n with q|q
   ·exact .inl ⟨j,q,h2⟩
   ·have:j=n:=by omega
    subst this;exact .inr h2
theorem b1T {P:List Pnt}{w h:Rat}{z:Pnt}:∀ n,z∈a1m P w h n↔z∈[((0,0):Pnt),(0,h),(w,0),(w,h)]∨∃ i,i<n∧z∈a3s P w h i i
 | 0=>⟨fun h=>.inl h,fun q=>q.elim id fun ⟨j,h,_⟩=>absurd h (Nat.not_lt_zero j)⟩
 | n+1=>by
  unfold a1m;rw [List.mem_append,b1T n];constructor
  ·rintro ((h|⟨j,h1,h2⟩)|h)
   ·exact .inl h
   ·exact .inr ⟨j,by omega,h2⟩
   ·exact .inr ⟨n,by omega,h⟩
  ·rintro (h|⟨j,h1,h2⟩)
   ·exact .inl (.inl h)
   ·rcases Nat.lt_or_ge j n with q|q
    ·exact .inl (.inr ⟨j,q,h2⟩)
    ·have:j=n:=by omega
     subst this;exact .inr h2
theorem c5j {p q:Pnt}{t:Rat}:(p.2*p.2+(p.1 - t)*(p.1 - t) - q.2*q.2 - (q.1 - t)*(q.1 - t)) / ((p.2 - q.2)+(p.2 - q.2))=(bC q p - bA q p*t) / bB q p:=by
 have e1:p.2*p.2+(p.1 - t)*(p.1 - t) - q.2*q.2 - (q.1 - t)*(q.1 - t)=bC q p - bA q p*t:=by unfold bC bA;grind
 have e2:(p.2 - q.2)+(p.2 - q.2)=bB q p:=by unfold bB;grind
 rw [e1,e2]
theorem c1h {p q:Pnt}{t:Rat}:(p.1*p.1+(p.2 - t)*(p.2 - t) - q.1*q.1 - (q.2 - t)*(q.2 - t)) / ((p.1 - q.1)+(p.1 - q.1))=(bC q p - bB q p*t) / bA q p:=by
 have e1:p.1*p.1+(p.2 - t)*(p.2 - t) - q.1*q.1 - (q.2 - t)*(q.2 - t)=bC q p - bB q p*t:=by unfold bC bB;grind
 have e2:(p.1 - q.1)+(p.1 - q.1)=bA q p:=by unfold bA;grind
 rw [e1,e2]
def crs (p q s:Pnt):Rat:=(q.1 - p.1)*(s.2 - p.2) - (q.2 - p.2)*(s.1 - p.1)
theorem a8L (p q s:Pnt):a7h q p s=4*crs p q s:=by unfold a7h bA bB crs;grind
def c0G (p q s:Pnt):Rat:=((s.2 - p.2)*((q.1 - p.1)*(q.1 - p.1)+(q.2 - p.2)*(q.2 - p.2)) - (q.2 - p.2)*((s.1 - p.1)*(s.1 - p.1)+(s.2 - p.2)*(s.2 - p.2))) / (crs p q s+crs p q s)
def c0S (p q s:Pnt):Rat:=((q.1 - p.1)*((s.1 - p.1)*(s.1 - p.1)+(s.2 - p.2)*(s.2 - p.2)) - (s.1 - p.1)*((q.1 - p.1)*(q.1 - p.1)+(q.2 - p.2)*(q.2 - p.2))) / (crs p q s+crs p q s)
theorem b8G {p q s:Pnt}(h:crs p q s≠0):p.1+c0G p q s=(bC q p*bB s p - bB q p*bC s p) / a7h q p s∧p.2+c0S p q s=(bA q p*bC s p - bC q p*bA s p) / a7h q p s:=by
 have h2:crs p q s+crs p q s≠0:=by grind
 have h4:a7h q p s≠0:=by rw [a8L];grind
 have i1:=Rat.mul_inv_cancel _ h2;have key:∀ (a n m:Rat),n*a7h q p s+a*((crs p q s+crs p q s)*a7h q p s)=m*(crs p q s+crs p q s)→a+n / (crs p q s+crs p q s)=m / a7h q p s:=fun a n m e=>by
  have i2:=Rat.mul_inv_cancel _ h4;rw [Rat.div_def,Rat.div_def];generalize (crs p q s+crs p q s)⁻¹=u at *;generalize (a7h q p s)⁻¹=v at *;generalize crs p q s+crs p q s=c at *;generalize a7h q p s=d at *;have e2:(n*d+a*(c*d))*(u*v)=m*c*(u*v):=by rw [e]
  grind
 refine ⟨key _ _ _ ?_,key _ _ _ ?_⟩
 ·rw [a8L];unfold bB bC crs;grind
 ·rw [a8L];unfold bA bC crs;grind
theorem c4i:((1:Nat):Rat)=1:=by decide +kernel
theorem a3E:((0:Nat):Rat)=0:=by decide +kernel
theorem b2R (r:Rat):r*(r.den:Rat)=(r.num:Rat):=by
 have h:r=(r.num:Rat) / ((r.den:Int):Rat):=by rw [← Rat.divInt_eq_div,Rat.num_divInt_den]
 have h0:((r.den:Int):Rat)≠0:=fun e=>r.den_nz (by
  have:=Rat.intCast_inj.1 (e.trans Rat.intCast_zero.symm)
  omega)
 have h2:(r.num:Rat) / ((r.den:Int):Rat)*((r.den:Int):Rat)=(r.num:Rat):=Rat.div_mul_cancel h0;rw [← h,Rat.intCast_natCast] at h2;exact h2
def dvi (M:Nat)(r:Rat):Prop:=∃ n:Int,r*(M:Rat)=(n:Rat)
theorem a2D (r:Rat):dvi r.den r:=⟨r.num,b2R r⟩
theorem b8M (n:Int):dvi 1 (n:Rat):=⟨n,by rw [c4i,Rat.mul_one]⟩
theorem a2e {M:Nat}{r:Rat}(K:Nat)(h:dvi M r):dvi (M*K) r:=by
 obtain ⟨n,hn⟩:=h;refine ⟨n*K,?_⟩;rw [Rat.natCast_mul,Rat.intCast_mul,Rat.intCast_natCast,← hn];grind
theorem a8J {M:Nat}{a b:Rat}(h:dvi M a)(k:dvi M b):dvi M (a+b):=by
 obtain ⟨n,hn⟩:=h;obtain ⟨m,hm⟩:=k;exact ⟨n+m,by rw [Rat.intCast_add,← hn,← hm];grind⟩
theorem a2j {M:Nat}{a b:Rat}(h:dvi M a)(k:dvi M b):dvi M (a - b):=by
 obtain ⟨n,hn⟩:=h;obtain ⟨m,hm⟩:=k;exact ⟨n - m,by rw [Rat.intCast_sub,← hn,← hm];grind⟩
theorem a1W {M N:Nat}{a b:Rat}(h:dvi M a)(k:dvi N b):dvi (M*N) (a*b):=by
 obtain ⟨n,hn⟩:=h;obtain ⟨m,hm⟩:=k;exact ⟨n*m,by rw [Rat.intCast_mul,Rat.natCast_mul,← hn,← hm];grind⟩
theorem a6B {M:Nat}{a:Rat}(h:dvi M a):dvi M (2*a):=by
 have:(2:Rat)*a=a+a:=by grind
 rw [this];exact a8J h h
theorem b0u {K B:Nat}{N b:Rat}{e:Int}(h:dvi (K*B) N)(he:b*(B:Rat)=(e:Rat))(h0:b≠0):dvi (K*e.natAbs) (N / b):=by
 obtain ⟨n,hn⟩:=h;have hc:N / b*b=N:=Rat.div_mul_cancel h0;have key:N / b*((K:Rat)*(e:Rat))=(n:Rat):=by
  rw [← he,← hn,Rat.natCast_mul];generalize N / b=q at *;rw [← hc];grind
 rcases Int.natAbs_eq e with h1|h1
 ·refine ⟨n,?_⟩
  rw [Rat.natCast_mul,← key]
  have:(e:Rat)=((e.natAbs:Nat):Rat):=by rw [← Rat.intCast_natCast,← h1]
  rw [this]
 ·refine ⟨-n,?_⟩
  rw [Rat.natCast_mul,Rat.intCast_neg,← key]
  have:(e:Rat) = -((e.natAbs:Nat):Rat):=by rw [← Rat.intCast_natCast,← Rat.intCast_neg,← h1]
  rw [this];grind
theorem b5r {M:Nat}{r:Rat}(h:dvi M r)(hM:0<M):r.den≤M:=by
 obtain ⟨n,hn⟩:=h;have e:r.num*(M:Int)=n*(r.den:Int):=by
  refine Rat.intCast_inj.1 ?_;rw [Rat.intCast_mul,Rat.intCast_mul,← b2R,← hn,Rat.intCast_natCast,Rat.intCast_natCast];grind
 have d:r.den ∣ r.num.natAbs*M:=by
  have:=congrArg Int.natAbs e
  rw [Int.natAbs_mul,Int.natAbs_mul,Int.natAbs_natCast,Int.natAbs_natCast] at this;exact ⟨n.natAbs,by rw [this,Nat.mul_comm]⟩
 exact Nat.le_of_dvd hM (Nat.Coprime.dvd_of_dvd_mul_left r.reduced.symm d)
theorem c9B {M B:Nat}{r:Rat}(h:dvi M r)(hM:0<M)(h0:0≤r)(h1:r≤(B:Rat)):nb r (B*M) M:=by
 have hd:=b5r h hM;refine ⟨?_,hd⟩;have hp:(0:Rat)≤(r.den:Rat):=by
  rw [← Rat.intCast_natCast];exact Rat.intCast_nonneg.2 (Int.natCast_nonneg _)
 have h2:=Rat.mul_le_mul_of_nonneg_right h1 hp;have h3:=Rat.mul_nonneg h0 hp;rw [b2R] at h2 h3;rw [← Rat.natCast_mul,← Rat.intCast_natCast] at h2;have h4:=Rat.intCast_le_intCast.1 h2;have h5:=Rat.intCast_nonneg.1 h3;have h6:B*r.den≤B*M:=Nat.mul_le_mul_left _ hd;omega
theorem b4P {S u v:Rat}(h1 : -S≤u)(h2:u≤S)(h3 : -S≤v)(h4:v≤S) : -(S*S)≤u*v∧u*v≤S*S:=by
 have a:=Rat.mul_nonneg (show 0≤S - u by grind) (show 0≤S+v by grind);have b:=Rat.mul_nonneg (show 0≤S+u by grind) (show 0≤S - v by grind);have c:=Rat.mul_nonneg (show 0≤S - u by grind) (show 0≤S - v by grind);have d:=Rat.mul_nonneg (show 0≤S+u by grind) (show 0≤S+v by grind);constructor<;>grind
theorem c2M {e:Int}{B:Nat}{b S:Rat}(he:b*(B:Rat)=(e:Rat))(h1 : -S≤b)(h2:b≤S){T:Nat}(hS:S=(T:Rat)):e.natAbs≤T*B:=by
 have hp:(0:Rat)≤(B:Rat):=by
  rw [← Rat.intCast_natCast];exact Rat.intCast_nonneg.2 (Int.natCast_nonneg _)
 have k1:=Rat.mul_le_mul_of_nonneg_right h1 hp;have k2:=Rat.mul_le_mul_of_nonneg_right h2 hp;rw [he,hS] at k1 k2;have e1 : -(T:Rat)*(B:Rat)=((-((T*B:Nat):Int):Int):Rat):=by rw [Rat.intCast_neg,Rat.intCast_natCast,Rat.natCast_mul];grind
 have e2:(T:Rat)*(B:Rat)=(((T*B:Nat):Int):Rat):=by rw [Rat.intCast_natCast,Rat.natCast_mul]
 rw [e1] at k1;rw [e2] at k2;have k1:=Rat.intCast_le_intCast.1 k1;have k2:=Rat.intCast_le_intCast.1 k2;omega
def E12:Nat:=10^12
structure Okp (p:Pnt):Prop where
 l1:0≤p.1
 l2:0≤p.2
 h1:p.1≤100000
 h2:p.2≤100000
 d1:p.1.den≤E12
 d2:p.2.den≤E12
def d2V (M:Nat)(z:Pnt):Prop:=dvi M z.1∧dvi M z.2
theorem d2e {z p:Pnt}{M N:Nat}(h:d2V M z)(hM:0<M)(hN:M≤N)(z1:0≤z.1)(z2:0≤z.2)(z3:z.1≤100000)(z4:z.2≤100000)(hp:Okp p):nb (d2 z p) (20000000000*(N*(E12*E12)*(N*(E12*E12)))) (N*(E12*E12)*(N*(E12*E12))):=by
 have b1:dvi (M*(p.1.den*p.2.den)) (z.1 - p.1):=by
  refine a2j (a2e _ h.1) ?_
  have:=a2e (M*p.2.den) (a2D p.1)
  rwa [show p.1.den*(M*p.2.den)=M*(p.1.den*p.2.den) from by ac_rfl] at this
 have b2:dvi (M*(p.1.den*p.2.den)) (z.2 - p.2):=by
  refine a2j (a2e _ h.2) ?_
  have:=a2e (M*p.1.den) (a2D p.2)
  rwa [show p.2.den*(M*p.1.den)=M*(p.1.den*p.2.den) from by ac_rfl] at this
 have b3:=a8J (a1W b1 b1) (a1W b2 b2);have hpos:0<M*(p.1.den*p.2.den):=Nat.mul_pos hM (Nat.mul_pos p.1.den_pos p.2.den_pos);have hle:M*(p.1.den*p.2.den)≤N*(E12*E12):=Nat.mul_le_mul hN (Nat.mul_le_mul hp.d1 hp.d2);have c1:=(b4P (S:=100000) (u:=z.1 - p.1) (v:=z.1 - p.1) (by have:=hp.h1;grind) (by have:=hp.l1;grind) (by have:=hp.h1;grind) (by have:=hp.l1;grind)).2;have c2:=(b4P (S:=100000) (u:=z.2 - p.2) (v:=z.2 - p.2) (by have:=hp.h2;grind) (by have:=hp.l2;grind) (by have:=hp.h2;grind) (by have:=hp.l2;grind)).2;have hB:d2 z p≤((20000000000:Nat):Rat):=by
  have:((20000000000:Nat):Rat)=100000*100000+100000*100000:=by decide +kernel
  rw [this];unfold d2;grind
 have:=c9B (r:=d2 z p) b3 (Nat.mul_pos hpos hpos) (c7g z p) hB
 exact this.mono (Nat.mul_le_mul_left _ (Nat.mul_le_mul hle hle)) (Nat.mul_le_mul hle hle)
theorem b3P {p q:Pnt}(hp:Okp p)(hq:Okp q)(t:Nat)(h0:bB p q≠0):∃ M,0<M∧M≤200000*(E12*E12*E12*E12*(E12*E12*E12*E12)*(E12*E12*E12*E12))∧dvi M ((bC p q - bA p q*(t:Rat)) / bB p q):=by
 obtain ⟨D,hD⟩:∃ D,p.1.den*p.2.den*q.1.den*q.2.den=D:=⟨_,rfl⟩
 have hDp:0<D:=hD ▸ Nat.mul_pos (Nat.mul_pos (Nat.mul_pos p.1.den_pos p.2.den_pos) q.1.den_pos) q.2.den_pos;have hDl:D≤E12*E12*E12*E12:=hD ▸ Nat.mul_le_mul (Nat.mul_le_mul (Nat.mul_le_mul hp.d1 hp.d2) hq.d1) hq.d2;have e1:dvi D p.1:=by have:=a2e (p.2.den*q.1.den*q.2.den) (a2D p.1);rwa [show p.1.den*(p.2.den*q.1.den*q.2.den)=D from by rw [← hD];ac_rfl] at this
 have e2:dvi D p.2:=by have:=a2e (p.1.den*q.1.den*q.2.den) (a2D p.2);rwa [show p.2.den*(p.1.den*q.1.den*q.2.den)=D from by rw [← hD];ac_rfl] at this
 have e3:dvi D q.1:=by have:=a2e (p.1.den*p.2.den*q.2.den) (a2D q.1);rwa [show q.1.den*(p.1.den*p.2.den*q.2.den)=D from by rw [← hD];ac_rfl] at this
 have e4:dvi D q.2:=by have:=a2e (p.1.den*p.2.den*q.1.den) (a2D q.2);rwa [show q.2.den*(p.1.den*p.2.den*q.1.den)=D from by rw [← hD];ac_rfl] at this
 have b1:dvi D (bB p q):=a6B (a2j e4 e2);have b2:dvi (D*D) (bA p q*(t:Rat)):=by
  have:=a2e D (a1W (a6B (a2j e3 e1)) (b8M (t:Int)))
  rw [Rat.intCast_natCast,Nat.mul_one] at this;exact this
 have b3:dvi (D*D) (bC p q):=a2j (a8J (a1W e3 e3) (a1W e4 e4)) (a8J (a1W e1 e1) (a1W e2 e2));have b4:=a2j b3 b2;obtain ⟨e,he⟩:=b1;have hne:e≠0:=fun h=>by
  rw [h,Rat.intCast_zero] at he;rcases Rat.mul_eq_zero.1 he with k|k
  ·exact h0 k
  ·have:=Rat.natCast_inj.1 (k.trans a3E.symm);omega
 have hb:e.natAbs≤200000*D:=c2M (S:=200000) he (by have:=hp.h2;have:=hq.l2;unfold bB;grind) (by have:=hp.l2;have:=hq.h2;unfold bB;grind) (by decide +kernel);refine ⟨D*e.natAbs,Nat.mul_pos hDp (by omega),?_,b0u b4 he h0⟩;refine Nat.le_trans (Nat.mul_le_mul_left D hb) ?_;rw [show D*(200000*D)=200000*(D*D) from by ac_rfl];refine Nat.mul_le_mul_left _ (Nat.le_trans (Nat.mul_le_mul hDl hDl) (Nat.le_mul_of_pos_right _ (by decide)))
theorem b7f {p q:Pnt}(hp:Okp p)(hq:Okp q)(t:Nat)(h0:bA p q≠0):∃ M,0<M∧M≤200000*(E12*E12*E12*E12*(E12*E12*E12*E12)*(E12*E12*E12*E12))∧dvi M ((bC p q - bB p q*(t:Rat)) / bA p q):=by
 have h:=b3P (p:=(p.2,p.1)) (q:=(q.2,q.1)) ⟨hp.l2,hp.l1,hp.h2,hp.h1,hp.d2,hp.d1⟩ ⟨hq.l2,hq.l1,hq.h2,hq.h1,hq.d2,hq.d1⟩ t h0;have e:bC (p.2,p.1) (q.2,q.1)=bC p q:=by unfold bC;grind
 rw [e] at h;exact h
theorem c5k {p q s:Pnt}(hp:Okp p)(hq:Okp q)(hs:Okp s)(h0:a7h p q s≠0):∃ M,0<M∧M≤80000000000*(E12*E12*E12*(E12*E12*E12)*(E12*E12*E12)*(E12*E12*E12)*(E12*E12*E12)*(E12*E12*E12))∧d2V M ((bC p q*bB s q - bB p q*bC s q) / a7h p q s,(bA p q*bC s q - bC p q*bA s q) / a7h p q s):=by
 obtain ⟨X,hX⟩:∃ D,p.1.den*q.1.den*s.1.den=D:=⟨_,rfl⟩
 obtain ⟨Y,hY⟩:∃ D,p.2.den*q.2.den*s.2.den=D:=⟨_,rfl⟩
 have hXp:0<X:=hX ▸ Nat.mul_pos (Nat.mul_pos p.1.den_pos q.1.den_pos) s.1.den_pos;have hYp:0<Y:=hY ▸ Nat.mul_pos (Nat.mul_pos p.2.den_pos q.2.den_pos) s.2.den_pos;have hXl:X≤E12*E12*E12:=hX ▸ Nat.mul_le_mul (Nat.mul_le_mul hp.d1 hq.d1) hs.d1;have hYl:Y≤E12*E12*E12:=hY ▸ Nat.mul_le_mul (Nat.mul_le_mul hp.d2 hq.d2) hs.d2;have x1:dvi X p.1:=by have:=a2e (q.1.den*s.1.den) (a2D p.1);rwa [show p.1.den*(q.1.den*s.1.den)=X from by rw [← hX];ac_rfl] at this
 have x2:dvi X q.1:=by have:=a2e (p.1.den*s.1.den) (a2D q.1);rwa [show q.1.den*(p.1.den*s.1.den)=X from by rw [← hX];ac_rfl] at this
 have x3:dvi X s.1:=by have:=a2e (p.1.den*q.1.den) (a2D s.1);rwa [show s.1.den*(p.1.den*q.1.den)=X from by rw [← hX];ac_rfl] at this
 have y1:dvi Y p.2:=by have:=a2e (q.2.den*s.2.den) (a2D p.2);rwa [show p.2.den*(q.2.den*s.2.den)=Y from by rw [← hY];ac_rfl] at this
 have y2:dvi Y q.2:=by have:=a2e (p.2.den*s.2.den) (a2D q.2);rwa [show q.2.den*(p.2.den*s.2.den)=Y from by rw [← hY];ac_rfl] at this
 have y3:dvi Y s.2:=by have:=a2e (p.2.den*q.2.den) (a2D s.2);rwa [show s.2.den*(p.2.den*q.2.den)=Y from by rw [← hY];ac_rfl] at this
 have a1:dvi X (bA p q):=a6B (a2j x2 x1);have a2:dvi X (bA s q):=a6B (a2j x2 x3);have b1:dvi Y (bB p q):=a6B (a2j y2 y1);have b2:dvi Y (bB s q):=a6B (a2j y2 y3);have sq:∀ u v:Pnt,dvi X u.1→dvi Y u.2→dvi X v.1→dvi Y v.2→dvi (X*X*(Y*Y)) (bC u v):=fun u v u1 u2 v1 v2=>by
  have k:∀ a b:Rat,dvi X a→dvi Y b→dvi (X*X*(Y*Y)) (a*a+b*b):=fun a b ha hb=>by
   refine a8J (a2e _ (a1W ha ha)) ?_
   have:=a2e (X*X) (a1W hb hb)
   rwa [Nat.mul_comm (Y*Y)] at this
  exact a2j (k _ _ v1 v2) (k _ _ u1 u2)
 have c1:=sq p q x1 y1 x2 y2;have c2:=sq s q x3 y3 x2 y2;have dt:dvi (X*Y) (a7h p q s):=by
  refine a2j (a1W a1 b2) ?_
  have:=a1W b1 a2
  rwa [Nat.mul_comm Y X] at this
 have n1:dvi (X*(Y*Y)*(X*Y)) (bC p q*bB s q - bB p q*bC s q):=by
  have k1:=a1W c1 b2;have k2:=a1W b1 c2;rw [show X*X*(Y*Y)*Y=X*(Y*Y)*(X*Y) from by ac_rfl] at k1;rw [show Y*(X*X*(Y*Y))=X*(Y*Y)*(X*Y) from by ac_rfl] at k2;exact a2j k1 k2
 have n2:dvi (X*X*Y*(X*Y)) (bA p q*bC s q - bC p q*bA s q):=by
  have k1:=a1W a1 c2;have k2:=a1W c1 a2;rw [show X*(X*X*(Y*Y))=X*X*Y*(X*Y) from by ac_rfl] at k1;rw [show X*X*(Y*Y)*X=X*X*Y*(X*Y) from by ac_rfl] at k2;exact a2j k1 k2
 obtain ⟨e,he⟩:=dt;have hne:e≠0:=fun h=>by
  rw [h,Rat.intCast_zero] at he;rcases Rat.mul_eq_zero.1 he with k|k
  ·exact h0 k
  ·have:=Rat.natCast_inj.1 (k.trans a3E.symm)
   have:=Nat.mul_pos hXp hYp
   omega
 have hb:e.natAbs≤80000000000*(X*Y):=by
  have bd:∀ u v:Rat,0≤u→u≤100000→0≤v→v≤100000→-200000≤2*(u - v)∧2*(u - v)≤200000:=fun u v _ _ _ _=>by constructor<;>grind
  have m1:=bd q.1 p.1 hq.l1 hq.h1 hp.l1 hp.h1;have m2:=bd q.2 s.2 hq.l2 hq.h2 hs.l2 hs.h2;have m3:=bd q.2 p.2 hq.l2 hq.h2 hp.l2 hp.h2;have m4:=bd q.1 s.1 hq.l1 hq.h1 hs.l1 hs.h1;have k1:=b4P m1.1 m1.2 m2.1 m2.2;have k2:=b4P m3.1 m3.2 m4.1 m4.2;have e8:(200000:Rat)*200000=40000000000:=by decide +kernel
  rw [e8] at k1 k2;refine c2M (S:=80000000000) he ?_ ?_ (by decide +kernel)
  ·unfold a7h bA bB;grind
  ·unfold a7h bA bB;grind
 have q1:=a2e X (b0u n1 he h0);have q2:=a2e Y (b0u n2 he h0);rw [show X*(Y*Y)*e.natAbs*X=X*X*Y*Y*e.natAbs from by ac_rfl] at q1;rw [show X*X*Y*e.natAbs*Y=X*X*Y*Y*e.natAbs from by ac_rfl] at q2;refine ⟨X*X*Y*Y*e.natAbs,Nat.mul_pos (Nat.mul_pos (Nat.mul_pos (Nat.mul_pos hXp hXp) hYp) hYp) (by omega),?_,q1,q2⟩;refine Nat.le_trans (Nat.mul_le_mul_left _ hb) ?_;rw [show X*X*Y*Y*(80000000000*(X*Y))=80000000000*(X*X*X*Y*Y*Y) from by ac_rfl];exact Nat.mul_le_mul_left _ (Nat.mul_le_mul (Nat.mul_le_mul (Nat.mul_le_mul (Nat.mul_le_mul (Nat.mul_le_mul hXl hXl) hXl) hYl) hYl) hYl)
def d3T:Nat:=80000000000*(E12*E12*E12*(E12*E12*E12)*(E12*E12*E12)*(E12*E12*E12)*(E12*E12*E12)*(E12*E12*E12))
theorem b2l:200000*(E12*E12*E12*E12*(E12*E12*E12*E12)*(E12*E12*E12*E12))≤d3T:=by decide +kernel
theorem b0E (M n:Nat):dvi M ((n:Nat):Rat):=by
 have:=a2e M (b8M (n:Int))
 rwa [Rat.intCast_natCast,Nat.one_mul] at this
theorem b4N {p q z:Pnt}{w h:Nat}(hz:z∈a4m p q (w:Rat) (h:Rat)):(∃ t:Nat,bB p q≠0∧(t=0∨t=w)∧z=((t:Rat),(bC p q - bA p q*(t:Rat)) / bB p q))∨(∃ t:Nat,bA p q≠0∧(t=0∨t=h)∧z=((bC p q - bB p q*(t:Rat)) / bA p q,(t:Rat))):=by
 have sx:∀ t:Nat,z∈b1P p q (t:Rat)→bB p q≠0∧z=((t:Rat),(bC p q - bA p q*(t:Rat)) / bB p q):=fun t ht=>by
  unfold b1P at ht;split at ht
  ·cases ht
  ·rename_i g;exact ⟨g,List.mem_singleton.1 ht⟩
 have sy:∀ t:Nat,z∈b2o p q (t:Rat)→bA p q≠0∧z=((bC p q - bB p q*(t:Rat)) / bA p q,(t:Rat)):=fun t ht=>by
  unfold b2o at ht;split at ht
  ·cases ht
  ·rename_i g;exact ⟨g,List.mem_singleton.1 ht⟩
 unfold a4m at hz;rw [← a3E] at hz;rcases List.mem_append.1 hz with hz|hz
 ·rcases List.mem_append.1 hz with hz|hz
  ·rcases List.mem_append.1 hz with hz|hz
   ·obtain ⟨a,b⟩:=sx 0 hz;exact .inl ⟨0,a,.inl rfl,b⟩
   ·obtain ⟨a,b⟩:=sx w hz;exact .inl ⟨w,a,.inr rfl,b⟩
  ·obtain ⟨a,b⟩:=sy 0 hz;exact .inr ⟨0,a,.inl rfl,b⟩
 ·obtain ⟨a,b⟩:=sy h hz;exact .inr ⟨h,a,.inr rfl,b⟩
theorem b9y {p q s z:Pnt}(hz:z∈b5q p q s):a7h p q s≠0∧z=((bC p q*bB s q - bB p q*bC s q) / a7h p q s,(bA p q*bC s q - bC p q*bA s q) / a7h p q s):=by
 unfold b5q at hz;split at hz
 ·cases hz
 ·rename_i g;exact ⟨g,List.mem_singleton.1 hz⟩
theorem b4q {P:List Pnt}{w h:Nat}{z:Pnt}(hz:z∈a3U P (w:Rat) (h:Rat)):(∃ x y:Nat,(x=0∨x=w)∧(y=0∨y=h)∧z=((x:Rat),(y:Rat)))∨∃ i k,i<P.length∧k<i∧(z∈a4m (pt P k) (pt P i) (w:Rat) (h:Rat)∨∃ j,j<k∧z∈b5q (pt P k) (pt P i) (pt P j)):=by
 rcases (b1T _).1 hz with h1|⟨i,hi,h1⟩
 ·left
  rw [← a3E] at h1;simp only [List.mem_cons,List.not_mem_nil,or_false] at h1;rcases h1 with rfl|rfl|rfl|rfl
  ·exact ⟨0,0,.inl rfl,.inl rfl,rfl⟩
  ·exact ⟨0,h,.inl rfl,.inr rfl,rfl⟩
  ·exact ⟨w,0,.inr rfl,.inl rfl,rfl⟩
  ·exact ⟨w,h,.inr rfl,.inr rfl,rfl⟩
 ·right
  obtain ⟨k,hk,h2⟩:=(b3F _).1 h1;exact ⟨i,k,hi,hk,h2.imp id fun h3=>(b1D _).1 h3⟩
theorem c0w {P:List Pnt}{w h:Nat}(hP:∀ p∈P,Okp p){z:Pnt}(hz:z∈a3U P (w:Rat) (h:Rat)):∃ M,0<M∧M≤d3T∧d2V M z:=by
 rcases b4q hz with ⟨x,y,-,-,rfl⟩|⟨i,k,hi,hk,h1⟩
 ·exact ⟨1,by decide,by decide +kernel,b0E 1 x,b0E 1 y⟩
 ·have pi:=hP _ (a9D (P:=P) (i:=i) hi)
  have pk:=hP _ (a9D (P:=P) (i:=k) (by omega));rcases h1 with h1|⟨j,hj,h1⟩
  ·rcases b4N h1 with ⟨t,h0,-,rfl⟩|⟨t,h0,-,rfl⟩
   ·obtain ⟨M,m1,m2,m3⟩:=b3P pk pi t h0
    exact ⟨M,m1,Nat.le_trans m2 b2l,b0E M t,m3⟩
   ·obtain ⟨M,m1,m2,m3⟩:=b7f pk pi t h0
    exact ⟨M,m1,Nat.le_trans m2 b2l,m3,b0E M t⟩
  ·have pj:=hP _ (a9D (P:=P) (i:=j) (by omega))
   obtain ⟨h0,rfl⟩:=b9y h1;exact c5k pk pi pj h0
theorem b7z {P:List Pnt}{w h:Nat}(hl:0<P.length)(hP:∀ p∈P,Okp p)(hw:w≤100000)(hh:h≤100000):b9K (b0V P (w:Rat) (h:Rat))=false:=by
 rcases (b9d P (w:Rat) (h:Rat) (a3U P (w:Rat) (h:Rat))).2.2 with e|⟨z,hz,hi,e⟩
 ·unfold b0V;rw [e];exact c2L c4Y (by decide +kernel) (by decide +kernel)
 ·unfold b0V;rw [e]
  obtain ⟨⟨p,hp,e2⟩,-⟩:=b2A hl z;obtain ⟨M,m1,m2,m3⟩:=c0w hP hz;obtain ⟨i1,i2,i3,i4⟩:=b6n.1 hi;have c:∀ n:Nat,n≤100000→(n:Rat)≤100000:=fun n hn=>by
   have:=Rat.intCast_le_intCast.2 (show (n:Int)≤((100000:Nat):Int) by omega)
   rw [Rat.intCast_natCast,Rat.intCast_natCast] at this;exact this
  rw [e2];exact c2L (d2e m3 m1 m2 i1 i2 (Rat.le_trans i3 (c w hw)) (Rat.le_trans i4 (c h hh)) (hP p hp)) (by decide +kernel) (by decide +kernel)
def two (a b:Nat):Nat:=if a≠0 then a else b
def a4D (x y:GF):D:=.agg [i64 x.n.s,x.n.w,i64 (mkG (x.d:Int)).s,(mkG (x.d:Int)).w,i64 y.n.s,y.n.w,i64 (mkG (y.d:Int)).s,(mkG (y.d:Int)).w]
instance  (x y:GF):CellsPure (a4D x y):=by unfold a4D;exact inferInstance
instance  (x y:GF):IsPure (a4D x y):=by unfold a4D;exact inferInstance
theorem d1D (z:Int)(h:Sm z):a0b C0 57 [i64 z] (⟨mkG z,1⟩:GF).D:=by
 have e:(⟨mkG z,1⟩:GF).D=smF z 1:=by
  unfold GF.D;rw [b7L,a5X h];rfl
 rw [e];exact d3n z
noncomputable def X5:EV:=⟨tbt.get,xbt.get,fbt.get,fun _=>false,fun _ _=>none,mtA,b5Q⟩
theorem d4d:a9b C0 X5:=⟨tab,b2Y,ftab,fun _ _ _ h=>by simp [X5] at h,by kernel_rfl,b1p,a5q⟩
theorem d0A (a b:Rat) : -1≤a4z a b∧a4z a b≤1:=by
 unfold a4z;split
 ·decide
 ·split<;>decide
namespace PickW
theorem w1:WOk C0 X5:=d4d.w
theorem pick_ok {a b:Rat}{x y:GF}{i j:Nat}(hx:FR a x i)(hy:FR b y j)(hk:i+j<300000)(sg:Int)(hs:sg=1∨sg = -1):a0b C0 123 [x.D,y.D,i64 sg] (if a4z a b*sg≥0 then x.D else y.D):=by
 refine a0c.walk w1 c1O rfl fun F=>?_
 have cc:=a7u hx hy hk;have hb:=d0A a b;have hw:IntKind.i64.wrap (a4z a b*sg)=a4z a b*sg:=by
  rcases hs with rfl|rfl
  ·exact wI (by omega) (by omega)
  ·exact wI (by omega) (by omega)
 generalize a4z a b=K at *;unfold GF.D at *;have p1:IsPure x.n.w:=inferInstance;have p2:IsPure y.n.w:=inferInstance;generalize mkG (x.d:Int)=X2 at *;generalize mkG (y.d:Int)=Y2 at *;obtain ⟨p,hp⟩:∃ p,decide (K*sg≥0)=p:=⟨_,rfl⟩
 refine sR 0 ?_;refine OkS.seq ?_;refine sZ 100 ?_;refine gwI kN ?_;refine a0l.same _ cc inferInstance ?_;cases p
 ·rw [if_neg (of_decide_eq_false hp)]
  refine gwI (ff2 hw hp) ?_;refine ifI ?_;refine skI ?_;refine sR 300 ?_;refine rtI ?_;exact a0a rfl IsPure.out
 ·rw [if_pos (of_decide_eq_true hp)]
  refine gwI (ff2 hw hp) ?_;refine ifI ?_;refine sR 200 ?_;refine rtI ?_;exact a0a rfl IsPure.out
end PickW
abbrev a7r:Dr:=[(1,[0,1,2,3,4],[5,6,7,8]),(4,[0,1,2,3,4,5,6,7],[8]),(5,[0,1,2,3,4,5,6,7,8,9,10,11,12,13,14,15,16,17,18,19,20,21,22],[23,24,25,26]),(6,[0,1,2,3,4,5,6,7,8,9,10,11,12,13],[14,15])]
abbrev b6O:Dr:=[(1,[0,1,2,3,4,5,6,7,8,9,10,11],[12,13]),(2,[0,1,2,3,4],[5,6,7])]
open Go.Proofs Go.RowKit
set_option maxRecDepth 20000
set_option maxHeartbeats 4000000
structure a0F where
 x:List UInt8
 y:List UInt8
 wt:Int
def a0F.D (p:a0F):D:=.agg [str (sb p.x),str (sb p.y),i64 p.wt]
instance  (p:a0F):CellsPure p.D:=by unfold a0F.D;exact inferInstance
instance  (p:a0F):IsPure p.D:=by unfold a0F.D;exact inferInstance
def a0F.few (p:a0F):Prop:=p.x.length≤100000∧p.y.length≤100000
def a0F.pt (p:a0F):Pnt:=(a0D p.x,a0D p.y)
def wtB (w:Int):Bool:=decide (1≤w)&&decide (w≤999999999)
def a0F.bad (p:a0F)(l w:Nat):Nat:=if two (chk p.x) (chk p.y)≠0 then two (chk p.x) (chk p.y) else if inR (l:Rat) (w:Rat) p.pt&&wtB p.wt then 0 else 3
def b6X:D:=.agg [i64 0,a2k,i64 0,a2k,i64 0,a2k,i64 0,a2k]
instance:IsPure b6X:=by unfold b6X;exact inferInstance
def a0F.at (p:a0F):Ide.D:=if two (chk p.x) (chk p.y)≠0 then b6X else a4D (a5G p.x) (a5G p.y)
theorem a8z (n:Nat)(hn:n≤100000):FR (n:Rat) ⟨mkG (n:Int),1⟩ 1:=by
 have h:=d0F (n:=mkG (n:Int)) (k:=1) (a0I _) (Nat.le_refl _) (by rw [a2y,Int.natAbs_natCast];exact a0J (k:=1) (Nat.lt_of_le_of_lt hn (by decide +kernel)));rw [a2y,Rat.intCast_natCast] at h;exact h
theorem b4i {n:Nat}(hn:n≤100000):Sm (n:Int):=⟨by omega,by omega⟩
theorem a8w {r:Rat}:decide (a6Y r≥0)=decide (0≤r):=by
 rw [decide_eq_decide];constructor
 ·exact fun h=>c7F h
 ·intro h
  have:0≤r.num:=Rat.num_nonneg.2 h
  unfold a6Y;omega
theorem a5p {a b:Rat}:decide (a4z a b≤0)=decide (a≤b):=by
 rw [decide_eq_decide,← c5A];omega
theorem c0k (a b:List UInt8):a3g [(chk a:Int),(chk b:Int)]=((two (chk a) (chk b):Nat):Int):=by
 show (if (chk a:Int)≠0 then (chk a:Int) else if (chk b:Int)≠0 then (chk b:Int) else 0)=_;unfold two
 by_cases h:chk a=0
 ·rw [if_neg (by omega),show (if chk a≠0 then chk a else chk b)=chk b from if_neg (by omega)]
  by_cases h2:chk b=0
  ·rw [if_neg (by omega),h2];rfl
  ·rw [if_pos (by omega)]
 ·rw [if_pos (by omega),show (if chk a≠0 then chk a else chk b)=chk a from if_pos h]
theorem c0O (p:a0F)(hf:p.few)(l w:Nat)(hl:l≤100000)(hw:w≤100000):a0b C0 117 [p.D,i64 (l:Int),i64 (w:Int)] (.tup [p.at,i64 (p.bad l w:Nat)]):=by
 refine a0c.walk w1 c2i rfl fun F=>?_
 have c1:=b3Y p.x hf.1;have c2:=b3Y p.y hf.2;have c3:=b2E [(chk p.x:Int),(chk p.y:Int)] (by simp);rw [c0k] at c3;have hab:two (chk p.x) (chk p.y)=0→chk p.x=0∧chk p.y=0:=by unfold two;split<;>omega
 have hB:p.bad l w=if two (chk p.x) (chk p.y)≠0 then two (chk p.x) (chk p.y) else if inR (l:Rat) (w:Rat) p.pt&&wtB p.wt then 0 else 3:=rfl
 have hA:p.at=if two (chk p.x) (chk p.y)≠0 then b6X else a4D (a5G p.x) (a5G p.y):=rfl
 rw [hB,hA];unfold a0F.D;obtain ⟨K,hK⟩:∃ K,two (chk p.x) (chk p.y)=K:=⟨_,rfl⟩
 rw [hK] at c3 hab ⊢;rcases Nat.decEq K 0 with h0|h0
 ·have e0:=c6b h0
  rw [if_pos h0,if_pos h0];unfold b6X;refine goI a7r e0 c1 c2 c3 trivial trivial trivial ?_;exact a0a rfl IsPure.out
 have e0:=c6o h0;rw [if_neg (fun h=>h h0),if_neg (fun h=>h h0)];obtain ⟨g1,g2⟩:=hab h0;have d1:=c2D hf.1 g1;have d2:=c2D hf.2 g2;have s1:=a6e (a8t g1).is;have s2:=a6e (a8t g2).is;have fl:=d1D (l:Int) (b4i hl);have fw:=d1D (w:Int) (b4i hw);have m1:=a7u (a8t g1) (a8z l hl) (by decide);have m2:=a7u (a8t g2) (a8z w hw) (by decide);have hI:inR (l:Rat) (w:Rat) p.pt=(decide (a6Y (a0D p.x)≥0)&&(decide (a6Y (a0D p.y)≥0)&&(decide (a4z (a0D p.x) (l:Rat)≤0)&&decide (a4z (a0D p.y) (w:Rat)≤0)))):=by
  rw [a8w,a8w,a5p,a5p];rfl
 rw [hI];have hW:wtB p.wt=(!decide (p.wt<1) && !decide (p.wt>999999999)):=by
  unfold wtB;rw [← decide_not,← decide_not]
  congr 1
  ·rw [decide_eq_decide];omega
  ·rw [decide_eq_decide];omega
 rw [hW];unfold a4D;unfold GF.D at d1 d2 s1 s2 fl fw m1 m2;generalize a6Y (a0D p.x)=S1 at *;generalize a6Y (a0D p.y)=S2 at *;generalize a4z (a0D p.x) (l:Rat)=M1 at *;generalize a4z (a0D p.y) (w:Rat)=M2 at *;generalize a5G p.x=A at *;generalize a5G p.y=B at *;have p1:IsPure A.n.w:=inferInstance;have p2:IsPure B.n.w:=inferInstance;generalize mkG (A.d:Int)=A2 at *;generalize mkG (B.d:Int)=B2 at *;have p3:IsPure (mkG (l:Int)).w:=inferInstance;have p4:IsPure (mkG (w:Int)).w:=inferInstance;generalize mkG (l:Int)=G1 at *;generalize mkG (w:Int)=G2 at *;have p5:IsPure (mkG ((1:Nat):Int)).w:=inferInstance;generalize mkG ((1:Nat):Int)=G3 at *;obtain ⟨b1,k1⟩:∃ b,decide (S1≥0)=b:=⟨_,rfl⟩
 obtain ⟨b2,k2⟩:∃ b,decide (S2≥0)=b:=⟨_,rfl⟩
 obtain ⟨b3,k3⟩:∃ b,decide (M1≤0)=b:=⟨_,rfl⟩
 obtain ⟨b4,k4⟩:∃ b,decide (M2≤0)=b:=⟨_,rfl⟩
 obtain ⟨b5,k5⟩:∃ b,decide (p.wt<1)=b:=⟨_,rfl⟩
 obtain ⟨b6,k6⟩:∃ b,decide (p.wt>999999999)=b:=⟨_,rfl⟩
 rw [k1,k2,k3,k4,k5,k6];have w3:=a2E true 3;have w0:=a2E false 3;rw [if_pos rfl] at w3;rw [if_neg (by decide)] at w0;have hcase:(b1=false)∨(b1=true∧b2=false)∨(b1=true∧b2=true∧b3=false)∨(b1=true∧b2=true∧b3=true∧b4=false)∨(b1=true∧b2=true∧b3=true∧b4=true∧b5=true)∨(b1=true∧b2=true∧b3=true∧b4=true∧b5=false∧b6=true)∨(b1=true∧b2=true∧b3=true∧b4=true∧b5=false∧b6=false):=by
  cases b1<;>cases b2<;>cases b3<;>cases b4<;>cases b5<;>cases b6<;>decide
 rcases hcase with rfl|⟨rfl,rfl⟩|⟨rfl,rfl,rfl⟩|⟨rfl,rfl,rfl,rfl⟩|⟨rfl,rfl,rfl,rfl,rfl⟩|⟨rfl,rfl,rfl,rfl,rfl,rfl⟩|⟨rfl,rfl,rfl,rfl,rfl,rfl⟩
 all_goals
  refine goI a7r (ff7 e0 k1 k2 k3 k4 k5 k6) c1 c2 c3 d1 d2 trivial ?_;refine goI a7r (ff7 e0 k1 k2 k3 k4 k5 k6) s1 s2 fl fw m1 m2 ?_;refine goI a7r (ff6 k1 k2 k3 k4 k5 k6) w3 w0 trivial trivial trivial trivial ?_;exact a0a rfl IsPure.out
structure FP (z:Pnt)(a:GF × GF)(k:Nat):Prop where
 fx:FR z.1 a.1 k
 fy:FR z.2 a.2 k
def a5h (a:GF × GF):D:=a4D a.1 a.2
instance  (a:GF × GF):IsPure (a5h a):=by unfold a5h;exact inferInstance
instance  (a:GF × GF):CellsPure (a5h a):=by unfold a5h;exact inferInstance
def b3z (a b:GF × GF):GF:=a9J (a4s (a3o a.1 b.1) (a3o a.1 b.1)) (a4s (a3o a.2 b.2) (a3o a.2 b.2))
theorem b3g {z p:Pnt}{a b:GF × GF}{i j:Nat}(ha:FP z a i)(hb:FP p b j):FR (d2 z p) (b3z a b) (4*(i+j+1)+1):=by
 have h1:=a1O ha.fx hb.fx;have h2:=a1O ha.fy hb.fy;exact (a3l (a0z h1 h1) (a0z h2 h2)).mono (by omega)
theorem a5j {z p:Pnt}{a b:GF × GF}{i j:Nat}(ha:FP z a i)(hb:FP p b j)(hk:i+j<50000):a0b C0 59 [a5h a,a5h b] (b3z a b).D:=by
 refine a0c.walk w1 c4r rfl fun F=>?_
 have r1:=a1O ha.fx hb.fx;have r2:=a1O ha.fy hb.fy;have c1:=a3f ha.fx hb.fx (by omega);have c2:=a3f ha.fy hb.fy (by omega);have c3:=a2i r1 r1 (by omega);have c4:=a2i r2 r2 (by omega);have c5:=a5e (a0z r1 r1) (a0z r2 r2) (by omega);unfold b3z a5h a4D;clear r1 r2;generalize a9J (a4s (a3o a.1 b.1) (a3o a.1 b.1)) (a4s (a3o a.2 b.2) (a3o a.2 b.2))=R at *;generalize a4s (a3o a.1 b.1) (a3o a.1 b.1)=M1 at *;generalize a4s (a3o a.2 b.2) (a3o a.2 b.2)=M2 at *;generalize a3o a.1 b.1=S1 at *;generalize a3o a.2 b.2=S2 at *;unfold GF.D at *;obtain ⟨a1,a2⟩:=a;obtain ⟨b1,b2⟩:=b;dsimp only at *;clear ha hb;have p_a1:IsPure a1.n.w:=inferInstance;generalize mkG (a1.d:Int)=a1_d at *;have p_a2:IsPure a2.n.w:=inferInstance;generalize mkG (a2.d:Int)=a2_d at *;have p_b1:IsPure b1.n.w:=inferInstance;generalize mkG (b1.d:Int)=b1_d at *;have p_b2:IsPure b2.n.w:=inferInstance;generalize mkG (b2.d:Int)=b2_d at *;have p_S1:IsPure S1.n.w:=inferInstance;generalize mkG (S1.d:Int)=S1_d at *;have p_S2:IsPure S2.n.w:=inferInstance;generalize mkG (S2.d:Int)=S2_d at *;have p_M1:IsPure M1.n.w:=inferInstance;generalize mkG (M1.d:Int)=M1_d at *;have p_M2:IsPure M2.n.w:=inferInstance;generalize mkG (M2.d:Int)=M2_d at *;have p_R:IsPure R.n.w:=inferInstance;generalize mkG (R.d:Int)=R_d at *;refine goI b6O kB c1 c2 trivial trivial trivial trivial ?_;refine goI b6O kB c3 c4 c5 trivial trivial trivial ?_;exact a0a rfl IsPure.out
section
variable {H:Type} {enc:TypeId × Value→H} {W:World} {fuel:Nat} {cs:List Value} {x:DataW H × List MemPlace} {t:TypeId}
theorem c0n (h:DataW.trod enc Tryz.prog W 0 (fun _=>true) true fuel 26 cs=some x):∃ p:a0F,a8P W cs p.D.cells∧True:=by
 obtain ⟨h1,n,h2⟩:=d3e (l:=[(24,0,1),(24,1,1),(3,2,1)]) (m:=3) (by kernel_rfl) (by kernel_rfl) h;obtain ⟨y0,k0⟩:=h2 0 _ _ _ rfl;obtain ⟨y1,k1⟩:=h2 1 _ _ _ rfl;obtain ⟨y2,k2⟩:=h2 2 _ _ _ rfl;obtain ⟨a0,r0,_⟩:=c3a k0;obtain ⟨a1,r1,_⟩:=c3a k1;obtain ⟨a2,r2⟩:=c7z k2;exact ⟨⟨a0,a1,a2⟩,c8E h1 (c3g (b:=1) (c:=2) r0 (c3g (b:=1) (c:=1) r1 r2)),trivial⟩
theorem b8w (h:DataW.trod enc Tryz.prog W 0 (fun _=>true) true fuel 22 cs=some x):∃ l:List a0F,a8P W cs [.sl false 3 (l.map a0F.D)]∧(∀ a∈l,True)∧l.length≤maxLen :=
 d2C (g:=a0F.D) (ok:=fun _=>True) (e:=26) (sz:=3) (by kernel_rfl) (by kernel_rfl) (by decide) (fun _ _ _ h=>c0n h) h
theorem c4u {P:Program}{e base:Nat}{kk:IntKind}{v:Value}{d:DataW H}{p:List MemPlace}(hu:P.underlying t=some (.array 2 e))(he:P.underlying e=some (.int kk))(hce:P.cellsOf e=1)(hct:P.cellsOf t=2)(hv:Value.okWide P W .any base t v)
  (h:DataW.Trod enc P W 0 (fun _=>true) true t v d p):∃ n0 n1:Int,v=.agg #[.int kk n0,.int kk n1]∧(Lit.int kk n0).wf=true∧(Lit.int kk n1).wf=true:=by
 obtain ⟨cs,rfl,hcs⟩:∃ cs,v=.agg cs∧cs.size=2:=by
  simp only [Value.okWide,hu] at hv;obtain ⟨cs,h1,h2,_⟩:=hv;exact ⟨cs,h1,h2.trans hct⟩
 obtain ⟨fuel,hf⟩:=h;obtain ⟨c0,c1,rfl⟩:∃ c0 c1,cs = #[c0,c1]:=by
  obtain ⟨l⟩:=cs
  match l,hcs with
  | [a,b],_=>exact ⟨a,b,rfl⟩
 obtain ⟨xs,m,_,_,_,hl,hx⟩:=DataW.trod_array hu (show DataW.trod enc P W 0 (fun _=>true) true fuel t [c0,c1]=_ from hf);have h0:=hx 0 (by decide);have h1:=hx 1 (by decide);rw [List.getElem?_eq_getElem (by omega)] at h0 h1;simp only [hce,Nat.zero_mul,Nat.one_mul,List.drop_zero,List.drop_succ_cons,List.take_succ_cons,List.take_zero] at h0 h1;obtain ⟨n0,e0,_,w0⟩:=DataW.trod_int he h0;obtain ⟨n1,e1,_,w1⟩:=DataW.trod_int he h1;simp only [List.cons.injEq,and_true] at e0 e1;subst e0 e1;exact ⟨n0,n1,rfl,w0,w1⟩
theorem c0D {ρ:Lk}{O:Nat→Prop}{kk:IntKind}{a b:Int}:Rep ρ O W (.agg [.prim (.int kk a),.prim (.int kk b)]) (.agg #[.int kk a,.int kk b]):=by
 refine .agg rfl (fun i v hv=>?_) fun i d hd=>?_
 ·match i with
  | 0=>simp at hv;subst hv;rfl
  | 1=>simp at hv;subst hv;rfl
  | n+2=>simp at hv
 ·match i with
  | 0=>simp at hd;subst hd;exact .prim _
  | 1=>simp at hd;subst hd;exact .prim _
  | n+2=>simp at hd
end
abbrev a3Q:Dr:=[(1,[0,1,2,3,4,5,6,7,8,9,10,11,12,13,14,15,16,17,18,19,20,21,22,23,24,25,26,27,28,29,30,31,32,33,34,35],[36,37,38]),(5,[0,1,2,3],[4,5]),(6,[0,1,2,3,4],[5,6])]
open Go.Proofs Go.RowKit
set_option maxRecDepth 20000
set_option maxHeartbeats 4000000
theorem a0m.drop {C:Ctx}{f:Nat}{args:List D}{H:Hp}{n:Nat}{Φ:D→Hp→Nat→Prop}(h:a0m C f args H n fun d H' n'=>∃ H2:Hp,H2.Sublist H'∧Φ d H2 n'):a0m C f args H n Φ :=
 ⟨h.1,fun F ρ w vs a b c e g=>(h.2 F ρ w vs a b c e g).mono fun _ _ ⟨v,d,H',n',ρ',h1,⟨H2,hs,h2⟩,m,x,fr,gn,rp⟩=>by
  obtain ⟨m2,hO⟩:=m.sub hs;exact ⟨v,d,H2,n',ρ',h1,h2,m2,⟨x.size,x.link,fun b hb hn=>⟨fun h=>(x.pure b hb hn).1 (hO b h),(x.pure b hb hn).2⟩,x.shape⟩,fr,fun e he=>gn e (hs.subset he),rp.anti hO⟩⟩
theorem b9A (a:Pnt)(l:List Pnt)(p:Pnt):∀ m,a0U a (l++[p]) m=if d2 a p<a0U a l m then d2 a p else a0U a l m:=by
 induction l with
 | nil=>intro m;rfl
 | cons q l ih=>intro m;exact ih _
theorem a7z {a:Pnt}{P:List Pnt}{i:Nat}(h:i<P.length)(m:Rat):a0U a (P.take (i+1)) m=if d2 a (pt P i)<a0U a (P.take i) m then d2 a (pt P i) else a0U a (P.take i) m:=by
 have e:P[i]? = some (pt P i):=by unfold pt;rw [List.getD_eq_getElem?_getD,List.getElem?_eq_getElem h];rfl
 rw [List.take_add_one,e];exact b9A ..
theorem b6g (a:Pnt)(P:List Pnt)(i:Nat)(m:Rat):a0U a P m≤a0U a (P.take i) m:=by
 have e:a0U a P m=a0U a (P.drop i) (a0U a (P.take i) m):=by
  have:∀ (l k:List Pnt) (m:Rat),a0U a (l++k) m=a0U a k (a0U a l m):=by
   intro l
   induction l with
   | nil=>intro k m;rfl
   | cons q l ih=>intro k m;exact ih _ _
  rw [← this,List.take_append_drop]
 rw [e];exact (a7w a _ _).1
abbrev a0W (Q:List (GF × GF)):List D:=Q.map a5h
structure FPs (P:List Pnt)(Q:List (GF × GF))(k:Nat):Prop where
 len:Q.length=P.length
 at_:∀ i a,Q[i]? = some a→FP (pt P i) a k
abbrev rmE (g:Nat)(W H:GI)(O:GI)(PD:List D)(r:GF):Ent:=⟨507,g,117,13,[.agg [i64 W.s,W.w,i64 O.s,O.w,i64 H.s,H.w,i64 O.s,O.w,.sl false 8 PD,i64 r.n.s,r.n.w,i64 (mkG (r.d:Int)).s,(mkG (r.d:Int)).w]]⟩
def a1A:GI:=mkG ((1:Nat):Int)
def pkF (a b:Rat)(x y:GF):GF:=if b<a then y else x
theorem d2A {a b:Rat}{x y:GF}{k:Nat}(hx:FR a x k)(hy:FR b y k):FR (if b<a then b else a) (pkF a b x y) k:=by
 unfold pkF;split
 ·exact hy
 ·exact hx
theorem d3d {a b:Rat}{x y:GF}{k:Nat}(hx:FR a x k)(hy:FR b y k)(hk:k<100000):a0b C0 123 [x.D,y.D,i64 (-1)] (pkF a b x y).D:=by
 have h:=PickW.pick_ok hx hy (by omega) (-1) (.inr rfl);have e:(if a4z a b * -1≥0 then x.D else y.D)=(pkF a b x y).D:=by
  unfold pkF
  by_cases g:b<a
  ·rw [if_pos g,if_neg]
   have:=b0d.2 g
   omega
  ·rw [if_neg g,if_pos]
   have:=mt b0d.1 g
   omega
 rw [e] at h;exact h
theorem c5B {P:List Pnt}{Q:List (GF × GF)}(hPQ:FPs P Q 3)(hPl:P.length≤100)(w h:Nat)(hw:w≤100000)(hh:h≤100000){r far:Rat}{rg fg:GF}(hr:FR r rg 600)(hf:FR far fg 600){a:Pnt}{ag:GF × GF}(ha:FP a ag 140)(hn:a0U a P far=a8O P a)
  (g n:Nat) (R:Hp):a0m C0 58 [.optr 507 g 13 0 0,a5h ag,fg.D] (rmE g (mkG (w:Int)) (mkG (h:Int)) a1A (a0W Q) rg::R) n (fun _ H' _=>∃ rg',FR (a3A P (w:Rat) (h:Rat) r a) rg' 600∧H'=rmE g (mkG (w:Int)) (mkG (h:Int)) a1A (a0W Q) rg'::R):=by
 refine a0m.drop ?_;refine a0m.walk w1 d0B rfl fun F=>?_
 have el:(((a0W Q).length:Nat):Int)=(P.length:Int):=by rw [List.length_map,hPQ.len]
 have c1:=a7u hf hr (by decide);have s1:=a6e ha.fx.is;have s2:=a6e ha.fy.is;have c2:=a7u ha.fx (a8z w hw) (by decide);have c3:=a7u ha.fy (a8z h hh) (by decide);have hI:inR (w:Rat) (h:Rat) a=(!decide (a6Y a.1<0)&&(!decide (a6Y a.2<0)&&(!decide (a4z a.1 (w:Rat)>0) && !decide (a4z a.2 (h:Rat)>0)))):=by
  unfold inR;rw [← a8w,← a8w,← a5p,← a5p];have e1:∀ z:Int,decide (z≥0) = !decide (z<0):=fun z=>by rw [← decide_not,decide_eq_decide];omega
  have e2:∀ z:Int,decide (z≤0) = !decide (z>0):=fun z=>by rw [← decide_not,decide_eq_decide];omega
  rw [e1,e1,e2,e2]
 have hL:decide (a4z far r≤0) = !decide (r<far):=by rw [a5p,← decide_not,decide_eq_decide];exact Rat.not_lt.symm
 have hkeep:inR (w:Rat) (h:Rat) a=false∨a8O P a≤r→a3A P (w:Rat) (h:Rat) r a=r:=fun q=>by
  unfold a3A;rw [if_neg];rintro ⟨q1,q2⟩;rcases q with q|q
  ·rw [q] at q1;cases q1
  ·exact absurd q2 (Rat.not_lt.2 q)
 have hset:inR (w:Rat) (h:Rat) a=true→r<a8O P a→a3A P (w:Rat) (h:Rat) r a=a8O P a:=fun q1 q2=>if_pos ⟨q1,q2⟩
 have hnf:a8O P a≤far:=by rw [← hn];exact (a7w a P far).1
 unfold rmE a5h a4D;unfold GF.D at c1 s1 s2 c2 c3 ⊢;rw [hI] at hkeep hset;obtain ⟨b0,k0⟩:∃ b,decide (r<far)=b:=⟨_,rfl⟩
 obtain ⟨b1,k1⟩:∃ b,decide (a6Y a.1<0)=b:=⟨_,rfl⟩
 obtain ⟨b2,k2⟩:∃ b,decide (a6Y a.2<0)=b:=⟨_,rfl⟩
 obtain ⟨b3,k3⟩:∃ b,decide (a4z a.1 (w:Rat)>0)=b:=⟨_,rfl⟩
 obtain ⟨b4,k4⟩:∃ b,decide (a4z a.2 (h:Rat)>0)=b:=⟨_,rfl⟩
 rw [k0] at hL;rw [k1,k2,k3,k4] at hkeep hset;obtain ⟨a1,a2⟩:=ag;dsimp only at *;have ha2:FP a (a1,a2) 140:=ha;have hr2:FR r rg 600:=hr;have hf2:FR far fg 600:=hf;rw [show mkG ((1:Nat):Int)=a1A from rfl] at c2 c3;have pO:IsPure a1A.w:=inferInstance;have pW:IsPure (mkG (w:Int)).w:=inferInstance;have pH:IsPure (mkG (h:Int)).w:=inferInstance;generalize a1A=OG at *;generalize mkG (w:Int)=WG at *;generalize mkG (h:Int)=HG at *;have pQ:IsPure (.sl false 8 (a0W Q)):=inferInstance;have hcase:b0=false∨(b0=true∧b1=true)∨(b0=true∧b1=false∧b2=true)∨(b0=true∧b1=false∧b2=false∧b3=true)∨(b0=true∧b1=false∧b2=false∧b3=false∧b4=true)∨(b0=true∧b1=false∧b2=false∧b3=false∧b4=false):=by
  cases b0<;>cases b1<;>cases b2<;>cases b3<;>cases b4<;>decide
 rcases hcase with rfl|⟨rfl,rfl⟩|⟨rfl,rfl,rfl⟩|⟨rfl,rfl,rfl,rfl⟩|⟨rfl,rfl,rfl,rfl,rfl⟩|⟨rfl,rfl,rfl,rfl,rfl⟩
 ·have hk:=hkeep (.inr (Rat.le_trans hnf (Rat.not_lt.1 (of_decide_eq_false k0))))
  rw [← hk] at hr;refine goI a3Q (ff2 hL kF) c1 trivial trivial trivial trivial trivial ?_;exact ⟨_,.cons _ (.cons _ (.refl _)),rg,hr,rfl⟩
 ·have hk:=hkeep (.inl rfl)
  rw [← hk] at hr;refine goI a3Q (ff3 hL k1 kT) c1 s1 trivial trivial trivial trivial ?_;exact ⟨_,.cons _ (.cons _ (.refl _)),rg,hr,rfl⟩
 ·have hk:=hkeep (.inl rfl)
  rw [← hk] at hr;refine goI a3Q (ff4 hL k1 k2 kT) c1 s1 s2 trivial trivial trivial ?_;exact ⟨_,.cons _ (.cons _ (.refl _)),rg,hr,rfl⟩
 ·have hk:=hkeep (.inl rfl)
  rw [← hk] at hr;refine goI a3Q (ff5 hL k1 k2 k3 kT) c1 s1 s2 c2 trivial trivial ?_;exact ⟨_,.cons _ (.cons _ (.refl _)),rg,hr,rfl⟩
 ·have hk:=hkeep (.inl rfl)
  rw [← hk] at hr;refine goI a3Q (ff6 hL k1 k2 k3 k4 kT) c1 s1 s2 c2 c3 trivial ?_;exact ⟨_,.cons _ (.cons _ (.refl _)),rg,hr,rfl⟩
 have hset:=hset rfl;have hkeep:=fun q=>hkeep (.inr q)
 refine goI a3Q (ff7 hL k1 k2 k3 k4 el kT) c1 s1 s2 c2 c3 trivial ?_;refine OkS.loop (α:=Nat × GF × Nat) (fun p=>⟨[(0,.optr 507 g 13 0 0),(4,.optr 0 n 8 0 0),(5,.optr 1 (n+1) 4 0 0),(50,.sl false 8 (a0W Q)),(51,i64 (P.length:Int)),(52,i64 (p.1:Int))],
   ⟨1,n+1,113,4,[.agg [i64 p.2.1.n.s,p.2.1.n.w,i64 (mkG (p.2.1.d:Int)).s,(mkG (p.2.1.d:Int)).w]]⟩::⟨0,n,121,8,[.agg [i64 a1.n.s,a1.n.w,i64 (mkG (a1.d:Int)).s,(mkG (a1.d:Int)).w,i64 a2.n.s,a2.n.w,i64 (mkG (a2.d:Int)).s,(mkG (a2.d:Int)).w]]⟩::rmE g WG HG OG (a0W Q) rg::R,p.2.2⟩) (fun p=>P.length - p.1)
  (fun p=>p.1≤P.length∧FR (a0U a (P.take p.1) far) p.2.1 600∧r<a0U a (P.take p.1) far) (0,fg,_) ⟨Nat.zero_le _,hf,of_decide_eq_true k0⟩ wkI ?_
 rintro ⟨i,fi,m⟩ F ⟨hi,hfi,hri⟩;dsimp only at hi hfi hri ⊢;rcases Nat.lt_or_ge i P.length with h2|h2
 ·have e1:=ltT h2
  have wi:=wiI (i:=i) (by omega);obtain ⟨q,hq⟩:=a1w (l:=Q) (i:=i) (by rw [hPQ.len];exact h2);have hfq:=hPQ.at_ i q hq;have cd:=a5j ha hfq (by decide);have fd:=(b3g ha hfq).mono (show 4*(140+3+1)+1≤600 by decide);have cp:=d3d hfi fd (by decide);have fp:=d2A hfi fd;rw [← a7z h2] at fp;have cc:=a7u fp hr (by decide);have hle:decide (a4z (a0U a (P.take (i+1)) far) r≤0) = !decide (r<a0U a (P.take (i+1)) far):=by rw [a5p,← decide_not,decide_eq_decide];exact Rat.not_lt.symm
  have hmore:=b6g a P (i+1) far;rw [hn] at hmore;obtain ⟨q1,q2⟩:=q;have hm:(a0W Q)[i]? = some (.agg [i64 q1.n.s,q1.n.w,i64 (mkG (q1.d:Int)).s,(mkG (q1.d:Int)).w,i64 q2.n.s,q2.n.w,i64 (mkG (q2.d:Int)).s,(mkG (q2.d:Int)).w]):=by rw [List.getElem?_map,hq];rfl
  unfold a5h a4D at cd;unfold GF.D at cd cp cc;generalize pkF (a0U a (P.take i) far) (d2 a (pt P i)) fi (b3z (a1,a2) (q1,q2))=f2 at *;generalize b3z (a1,a2) (q1,q2)=dd at *
  by_cases hc:r<a0U a (P.take (i+1)) far
  ·rw [decide_eq_true hc] at hle
   refine goI a3Q (ff5 e1 wi hle kN kT) hm cd cp cc trivial trivial ?_;exact ⟨(i+1,f2,_),⟨h2,fp,hc⟩,by dsimp only;omega,wkI⟩
  ·rw [decide_eq_false hc] at hle
   have hk:=hkeep (Rat.le_trans hmore (Rat.not_lt.1 hc));rw [← hk] at hr2;refine goI a3Q (ff5 e1 wi hle kN kF) hm cd cp cc trivial trivial ?_;exact ⟨rmE g WG HG OG (a0W Q) rg::R,by repeat (first|exact List.Sublist.refl _|refine List.Sublist.cons _ ?_),rg,hr2,rfl⟩
 ·have e1:=ltF h2
  have:i=P.length:=by omega
  subst this;rw [List.take_length,hn] at hfi hri;rw [← hset hri] at hfi;refine goI a3Q e1 trivial trivial trivial trivial trivial trivial ?_;exact And.intro (by trivial) ⟨_,List.Sublist.cons _ (List.Sublist.cons _ (List.Sublist.refl _)),fi,hfi,rfl⟩
end Go.Ide
